/- Contracts of the functions that the law reaches: part of the proof. -/
import Derived.Test.YtcibbcfiemeoiaaGreatDoorFA
import Derived.Shelf.Strconv.ErrVarAll
import Derived.Lib.ItoaLen
import Derived.Lib.ItoaMem
set_option linter.unusedSimpArgs false
set_option linter.unusedVariables false
set_option maxRecDepth 20000
namespace Go.Proofs.YtcibbcfiemeoiaaGreatDoor
open Go.Sx
set_option maxHeartbeats 20000000
abbrev Jr8:=ByteArray×Int×Int×Int×Int×Int
abbrev Jvq:Sch:= .prod .str (.prod sI (.prod sI (.prod sI (.prod sI sI))))
abbrev Jps:=Int×Int×Int×Int
def Jfh (M:List Met) (s:ByteArray) (h:Int):Met:=M.getD (K3 M s h).toNat Jdt
def Jkq (st:Int) (M:List Met) (x:Ord):Int→Nat→Jps→Jps
 |_,0,a=>a
 |h,n+1,(c,s,g,f)=>Jkq st M x (h+1) n (bif J2 x h&&decide (h<st) then(c+1,s+(Jfh M x.1 h).2.2.1,g+(Jfh M x.1 h).2.2.2,f+3*(x.2.2.2.2.1-(Jfh M x.1 h).2.2.2)) else(c,s,g,f))
def L8 (st:Int) (M:List Met) (x:Ord):Jps:=Jkq st M x x.2.2.2.1.1 (Ut x) (0,0,0,0)
def Uv (st:Int) (M:List Met) (x:Ord):Jr8:=(x.1,(L8 st M x).1,(L8 st M x).2.1,(L8 st M x).2.2.1,(L8 st M x).2.2.1*x.2.2.2.2.2.1,(L8 st M x).2.2.2)
def Kwu:Con:={args:=[Jb6, .val true Ym],ress:=[(true,Jvq)],owns:=[],pre:=fun(r,x,_)=>[Jo r,x∈r.2.2.2.1],spec:=fun((_,st,_,_,M,_),x,_)=>(Uv st M x,())}
abbrev J9o (tk st:Int) (S:List Sta) (O:List Ord) (M:List Met) (X:List Out) (Q:List Per) (x:Ord):Ann:={X:=Nat×Jps,σ:=fun(j,c,s,g,f)=>⟨14,[(0, .one (.fv 12)),(1, .one (.ptr 10 0)),(3, .one (.int .i64 (x.2.2.2.1.1+j)))],[(0, .imm 127 X5 S),(1, .imm 130 Ym O),(2, .imm 155 X9 M),(3, .imm 188 Yh X),(4, .imm 235 Y8 Q),(5, .box 105 [.int .i64 tk, .int .i64 st, .sl 0, .sl 1, .sl 2, .sl 3, .sl 4]),(6, .box 130 (bxO x)),(7, .box 129 [.str Jb, .int .i64 0, .int .i64 0, .int .i64 0, .int .i64 0, .int .i64 0]),(8, .box 129 [.str x.1, .int .i64 c, .int .i64 s, .int .i64 g, .int .i64 0, .int .i64 f]),(10, .box 130 (bxO x)),(12, .yld .ready),(13, .sus [(2, .one (.ptr 5 0)),(3, .one (.ptr 6 0)),(4, .one (.ptr 7 0)),(5, .one (.ptr 8 0))])]⟩,inv:=fun(j,c,s,g,f)=>j≤Ut x∧(0≤c∧c≤j)∧(0≤s∧s≤1000*j)∧(0≤g∧g≤1000*j)∧(-3000*j≤f∧f≤3000*j)∧Jkq st M x (x.2.2.2.1.1+j) (Ut x-j) (c,s,g,f)=L8 st M x,mu:=fun(j,_)=>Ut x-j}
def Kfe (a:Int) (b:Nat):=0≤a∧a≤1000*Nc b
def Kqb (a:List Met) (b:Bt) (c:Int) (d:Nat×Jps):=(Gt a (K3 a b (c+Nc d.1)) Jr4).2.2
def Kpy (a:Int) (b:List Met) (c:Bt) (d:Int) (e:Nat×Jps):=a-(Kqb b c d e).2
def Kpl (a:Nat×Jps) (b:List Met) (c:Bt) (d:Int):=a.2.2.1+(Kqb b c d a).1
def Keg (a:Nat×Jps) (b:List Met) (c:Bt) (d:Int):=a.2.2.2.1+(Kqb b c d a).2
def Kow (a:Nat×Jps) (b:Int) (c:List Met) (d:Bt) (e:Int):=a.2.2.2.2+3*Kpy b c d e a
def Kxw (a:Nat) (b c d:Bt) (e f g h i j k l m n:Int) (o:List Met):=a≤Ut (b,c,d,(e,f),g,h,i)∧(0≤j∧j≤Nc a)∧Kfe k a∧Kfe l a∧((-3000)*Nc a≤m∧m≤3000*Nc a)∧Jkq n o (b,c,d,(e,f),g,h,i) (e+Nc a) (Ut (b,c,d,(e,f),g,h,i)-a) (j,k,l,m)=L8 n o (b,c,d,(e,f),g,h,i)
def Kxl (a:Nat×Int×Int×Int×Int) (b c d:Bt) (e f g h i j:Int) (k:List Met):=match a with|(j_1,c_1,s,g_1,f_1)=>Kxw j_1 b c d e f g h i c_1 s g_1 f_1 j k
def Kc7 (a:Nat×Int×Int×Int×Int) (b c d:Bt) (e f g h i j:Int) (k:List Met) (l:Nat×Jps):=Kxl a b c d e f g h i j k∧Ut (b,c,d,(e,f),g,h,i)-a.1<Ut (b,c,d,(e,f),g,h,i)-l.1
def Kbg (a:Nat×Jps) (b:Int) (c:Bt) (d:Int) (e:List Met) (f g:Bt) (h i j k:Int) (l:List Sta) (m:List Ord) (n:List Out) (o:List Per) (p:Int):=Br false (Iw (a.2.2.2.1*b)∧Sf true ((c,a.2.1,a.2.2.1,a.2.2.2.1,a.2.2.2.1*b,a.2.2.2.2)=Uv d e (c,f,g,(h,i),j,b,k))) (Iw (h+Nc a.1+1)∧∃(y:Nat×Int×Int×Int×Int),(h+Nc a.1+1=h+Nc y.1∧Sf l (Sf m (Sf e (Sf n (Sf o (Si p (Si d (Sf c (Sf f (Sf g (Si h (Si i (Si j (Si b (Si k (Sf Jb (Si 0 (Si 0 (Si 0 (Si 0 (Si 0 (Sf c (a.2.1=y.2.1∧a.2.2.1=y.2.2.1∧a.2.2.2.1=y.2.2.2.1∧Si 0 (a.2.2.2.2=y.2.2.2.2∧Sf c (Sf f (Sf g (Si h (Si i (Si j (Si b (k=k)))))))))))))))))))))))))))))))∧Kc7 y c f g h i j b k d e a)
theorem Ku6:Ok Tryz.prog 126 Kwu:=Jwm K82 Tryz.f126 (U0 (l:=([(178,Tryz.f178),(247,Tryz.f247)]:List (Nat×Func))) (List.forall_mem_cons.2 ⟨by kernel_rfl,List.forall_mem_cons.2 ⟨by kernel_rfl,by simp⟩⟩)) (fun xx=>na ()) (fun xx=>fun f' id=>if f'=247 then some (J9o xx.1.1 xx.1.2.1 xx.1.2.2.1 xx.1.2.2.2.1 xx.1.2.2.2.2.1 xx.1.2.2.2.2.2.1 xx.1.2.2.2.2.2.2 (xx.2.1.1,xx.2.1.2.1,xx.2.1.2.2.1,(xx.2.1.2.2.2.1.1,xx.2.1.2.2.2.1.2),xx.2.1.2.2.2.2.1,xx.2.1.2.2.2.2.2.1,xx.2.1.2.2.2.2.2.2)) else none) fun xx=>by
 obtain⟨⟨(tk:Int),(st:Int),(S:List Sta),(O:List Ord),(M:List Met),(X:List Out),(Q:List Per)⟩,⟨(n:ByteArray),(f:ByteArray),(t:ByteArray),⟨(a:Int),(b:Int)⟩,(p:Int),(c:Int),(r:Int)⟩,_⟩:=xx
 refine(by kernel_rfl:(J0 tk st S O M X Q→(n,f,t,(a,b),p,c,r)∈O→∃(x:Nat×Int×Int×Int×Int),(a=a+Nc x.1∧Sf S (Sf O (Sf M (Sf X (Sf Q (Si tk (Si st (Sf n (Sf f (Sf t (Si a (Si b (Si p (Si c (Si r (B0=Jb∧Si 0 (Si 0 (Si 0 (Si 0 (Si 0 (Sf n (0=x.2.1∧0=x.2.2.1∧0=x.2.2.2.1∧Si 0 (0=x.2.2.2.2∧Sf n (Sf f (Sf t (Si a (Si b (Si p (Si c (r=r))))))))))))))))))))))))))))))∧Kxl x n f t a b p c r st M∧∀(x:Nat×Jps),(match x with|(j,c_1,s,g,f_1)=>Kxw j n f t a b p c r c_1 s g f_1 st M)→Br (decide (a+Nc x.1<b)) (Br (J2 (n,f,t,(a,b),p,c,r) (a+Nc x.1)) (Br (decide (a+Nc x.1<st)) ((J0 tk st S O M X Q∧Tw (Bd (K3 M n (a+Nc x.1)) (Ln M)))∧Iw (x.2.1+1)∧Iw (Kpl x M n a)∧Iw (Keg x M n a)∧(Iw (Kpy p M n a x)∧Iw (3*Kpy p M n a x)∧Iw (Kow x p M n a))∧Br false (Iw (Keg x M n a*c)∧Sf true ((n,x.2.1+1,Kpl x M n a,Keg x M n a,Keg x M n a*c,Kow x p M n a)=Uv st M (n,f,t,(a,b),p,c,r))) (Iw (a+Nc x.1+1)∧∃(y:Nat×Int×Int×Int×Int),(a+Nc x.1+1=a+Nc y.1∧Sf S (Sf O (Sf M (Sf X (Sf Q (Si tk (Si st (Sf n (Sf f (Sf t (Si a (Si b (Si p (Si c (Si r (Sf Jb (Si 0 (Si 0 (Si 0 (Si 0 (Si 0 (Sf n (x.2.1+1=y.2.1∧Kpl x M n a=y.2.2.1∧Keg x M n a=y.2.2.2.1∧Si 0 (Kow x p M n a=y.2.2.2.2∧Sf n (Sf f (Sf t (Si a (Si b (Si p (Si c (r=r)))))))))))))))))))))))))))))))∧Kc7 y n f t a b p c r st M x)) (Kbg x c n st M f t a b p r S O X Q tk)) (Kbg x c n st M f t a b p r S O X Q tk)) (Iw (x.2.2.2.1*c)∧Sf true ((n,x.2.1,x.2.2.1,x.2.2.2.1,x.2.2.2.1*c,x.2.2.2.2)=Uv st M (n,f,t,(a,b),p,c,r))))=_).mp ?_
 delta Z67 Z75 Jr4 J0 Kfe Kqb Kpy Kpl Keg Kow Kxw Kxl Kc7 Kbg Br Iw Bd Tw Sf Si Ln Nc Gt B0
 intro hr hx
 have hO:=hr.ord _ hx
 have hD:=hr.done _ hx
 have b0:=hO.span.lo
 have b1:=hO.span.mid
 have b2:=hO.span.hi
 have b3:=hO.span.len
 have bp:=hO.pow
 have bc:=hO.pri
 have hn:Ut (n,f,t,(a,b),p,c,r)≤48∧(Ut (n,f,t,(a,b),p,c,r):Int)=b-a:=by
  dsimp only at b1 b3
  unfold Ut
  constructor<;>dsimp only<;>omega
 dsimp only at b0 b1 b2 b3 bp bc hD
 refine⟨((0:Nat),(0,0,0,0)),by(repeat' first|exact rfl|apply And.intro|exact(Int.add_zero _).symm|omega|dsimp only;omega),⟨Nat.zero_le _,by omega,by omega,by omega,by omega, ?_⟩,fun(y:Nat×Jps) hy=>⟨fun h1=> ?_,fun h1=> ?_⟩⟩
 ·unfold L8
  rw[Nat.sub_zero]
  simp only[Int.natCast_zero,Int.add_zero]
 ·obtain⟨j,c1,s1,g1,f1⟩:=y
  obtain⟨k1,k2,k3,k4,k5,k6⟩:=hy
  have h1:a+(j:Int)<b:=of_decide_eq_true h1
  have hj:Ut (n,f,t,(a,b),p,c,r)-j=(Ut (n,f,t,(a,b),p,c,r)-(j+1))+1:=by omega
  rw[hj,Jkq] at k6
  have hc:a+(j:Int)+1=a+((j+1:Nat):Int):=by omega
  have hB: -9223372036854775808≤a+(j:Int)+1∧a+(j:Int)+1≤9223372036854775807:=by omega
  refine⟨fun h2=>⟨fun h3=> ?_,fun h3=>⟨fun h=>(by cases h),fun _=>⟨hB,(j+1,c1,s1,g1,f1),by(repeat' first|exact rfl|apply And.intro|exact(Int.add_zero _).symm|omega|dsimp only;omega),⟨by(first|omega|dsimp only;omega),by(first|omega|dsimp only;omega),by(first|omega|dsimp only;omega),by(first|omega|dsimp only;omega),by(first|omega|dsimp only;omega), ?_⟩,by(first|omega|dsimp only;omega)⟩⟩⟩,fun h2=>⟨fun h=>(by cases h),fun _=>⟨hB,(j+1,c1,s1,g1,f1),by(repeat' first|exact rfl|apply And.intro|exact(Int.add_zero _).symm|omega|dsimp only;omega),⟨by(first|omega|dsimp only;omega),by(first|omega|dsimp only;omega),by(first|omega|dsimp only;omega),by(first|omega|dsimp only;omega),by(first|omega|dsimp only;omega), ?_⟩,by(first|omega|dsimp only;omega)⟩⟩⟩
  ·have h3':a+(j:Int)<st:=of_decide_eq_true h3
   have hm:0≤K3 M n (a+(j:Int)):=hD _ h2 h3'
   have hl:=Jfg (l:=M) (s:=n) (h:=a+(j:Int))
   have hM:J0f (Jfh M n (a+(j:Int))):=hr.met _ (Je (show _<M.length by omega))
   have m1:=hM.sent
   have m2:=hM.got
   have e:M.getD (K3 M n (a+(j:Int))).toNat (Jb,0,0,0)=Jfh M n (a+(j:Int)):=rfl
   simp only[]
   rw[show(({data:={toList:=[]}}:ByteArray),(0:Int),(0:Int),(0:Int))=(Jb,0,0,0) from rfl,e]
   rw[h2,h3,Bool.true_and,cond_true] at k6
   refine⟨⟨hr,⟨hm,hl⟩,hm,hl⟩,by omega,by omega,by omega,⟨by omega,by omega,by omega⟩,fun h=>(by cases h),fun _=>⟨hB,(j+1,c1+1,s1+(Jfh M n (a+(j:Int))).2.2.1,g1+(Jfh M n (a+(j:Int))).2.2.2,f1+3*(p-(Jfh M n (a+(j:Int))).2.2.2)),by(repeat' first|exact rfl|apply And.intro|exact(Int.add_zero _).symm|omega|dsimp only;omega),⟨by(first|omega|dsimp only;omega),by(first|omega|dsimp only;omega),by(first|omega|dsimp only;omega),by(first|omega|dsimp only;omega),by(first|omega|dsimp only;omega), ?_⟩,by(first|omega|dsimp only;omega)⟩⟩
   rw[hc] at k6
   exact k6
  ·rw[h3,Bool.and_false,cond_false,hc] at k6
   exact k6
  ·rw[show J2 (n,f,t,(a,b),p,c,r) (a+(j:Int))=false from h2,Bool.false_and,cond_false,hc] at k6
   exact k6
 ·obtain⟨j,c1,s1,g1,f1⟩:=y
  obtain⟨k1,k2,k3,k4,k5,k6⟩:=hy
  have h1:¬a+(j:Int)<b:=of_decide_eq_false h1
  have hj:Ut (n,f,t,(a,b),p,c,r)-j=0:=by omega
  rw[hj,Jkq] at k6
  have q1:0≤g1*c:=Int.mul_nonneg k4.1 bc.1
  have q2:g1*c≤48000*1000:=Int.mul_le_mul (by omega) bc.2 bc.1 (by decide)
  refine⟨⟨by(first|omega|dsimp only;omega),by(first|omega|dsimp only;omega)⟩,rfl, ?_⟩
  unfold Uv
  rw[←k6]
abbrev K81:=K82.add Ku6
def bd4 (k:Int) (a:Jps):Prop:=(0≤a.1∧a.1≤k)∧(0≤a.2.1∧a.2.1≤1000*k)∧(0≤a.2.2.1∧a.2.2.1≤a.2.1)∧-3000*k≤a.2.2.2∧a.2.2.2≤3000*k
theorem Jrc {st:Int} {M:List Met} {x:Ord} (hp:1≤x.2.2.2.2.1∧x.2.2.2.2.1≤1000) (hM:∀m∈M,J0f m) (hd:∀h,J2 x h=true→h<st→0≤K3 M x.1 h):∀(n:Nat) (h:Int) (a:Jps) (k:Int),bd4 k a→bd4 (k+n) (Jkq st M x h n a)
 |0,_,_,k,ha=>by unfold Jkq;rw[show k+((0:Nat):Int)=k by omega];exact ha
 | n + 1, h, (c, s, g, f), k, ha => by
  unfold Jkq
  rw[show k+((n+1:Nat):Int)=(k+1)+n by omega]
  apply Jrc hp hM hd n
  unfold bd4 at ha⊢
  dsimp only at ha
  cases hb:J2 x h&&decide (h<st) with
  |false=>simp only[cond_false];omega
  |true=>
   have h1:=Bool.and_eq_true_iff.1 hb
   have hm:0≤K3 M x.1 h:=hd h h1.1 (of_decide_eq_true h1.2)
   have hl:=Jfg (l:=M) (s:=x.1) (h:=h)
   have hk:J0f (Jfh M x.1 h):=hM _ (Je (show _<M.length by omega))
   have m1:=hk.sent
   have m2:=hk.got
   simp only[cond_true]
   omega
theorem Jpw {S:List Sta} {x:Ord} (h:F1 S x):Ut x≤48:=by
 have:=h.span.len
 have:=h.span.mid
 unfold Ut
 omega
structure J6z (b:Jr8):Prop where
 hours:0≤b.2.1∧b.2.1≤48
 sent:0≤b.2.2.1∧b.2.2.1≤48000
 got:0≤b.2.2.2.1∧b.2.2.2.1≤b.2.2.1
 money:0≤b.2.2.2.2.1∧b.2.2.2.2.1≤48000000
 fine: -144000≤b.2.2.2.2.2∧b.2.2.2.2.2≤144000
theorem Jb0 {tk st:Int} {S:List Sta} {O:List Ord} {M:List Met} {X:List Out} {Q:List Per} {x:Ord} (hr:Jo (tk,st,S,O,M,X,Q)) (hx:x∈O):J6z (Uv st M x):=by
 have hO:=hr.ord _ hx
 have hs:=Jpw hO
 have h:=Jrc hO.pow hr.met (hr.done _ hx) (Ut x) x.2.2.2.1.1 (0,0,0,0) 0 (by unfold bd4;simp)
 have bc:=hO.pri
 unfold bd4 at h
 have h:(0≤(L8 st M x).1∧(L8 st M x).1≤0+(Ut x:Int))∧(0≤(L8 st M x).2.1∧(L8 st M x).2.1≤1000*(0+(Ut x:Int)))∧(0≤(L8 st M x).2.2.1∧(L8 st M x).2.2.1≤(L8 st M x).2.1)∧-3000*(0+(Ut x:Int))≤(L8 st M x).2.2.2∧(L8 st M x).2.2.2≤3000*(0+(Ut x:Int)):=h
 have q1:0≤(L8 st M x).2.2.1*x.2.2.2.2.2.1:=Int.mul_nonneg h.2.2.1.1 bc.1
 have q2:(L8 st M x).2.2.1*x.2.2.2.2.2.1≤48000*1000:=Int.mul_le_mul (by omega) bc.2 bc.1 (by decide)
 exact⟨by unfold Uv;(first|omega|dsimp only;omega),by unfold Uv;(first|omega|dsimp only;omega),by unfold Uv;(first|omega|dsimp only;omega),by unfold Uv;(first|omega|dsimp only;omega),by unfold Uv;(first|omega|dsimp only;omega)⟩
def F9 (x:Ord) (a b:ByteArray):Bool:=x.2.1.toList==a.toList&&(x.2.2.1.toList==b.toList&&true)
def Kiw (st:Int) (M:List Met) (a b:ByteArray) (x:Ord) (n:Int):Int:=(bif F9 x b a then(bif F9 x a b then n+((Uv st M x).2.2.2.2.1-(Uv st M x).2.2.2.2.2) else n)-((Uv st M x).2.2.2.2.1-(Uv st M x).2.2.2.2.2) else(bif F9 x a b then n+((Uv st M x).2.2.2.2.1-(Uv st M x).2.2.2.2.2) else n))
def Jy9 (st:Int) (M:List Met) (a b:ByteArray):List Ord→Int→Int
 |[],n=>n
 |x::l,n=>Jy9 st M a b l (Kiw st M a b x n)
def Fc (st:Int) (O:List Ord) (M:List Met) (a b:ByteArray):Int:=Jy9 st M a b O 0
def J3c:Con:={args:=[Jb6,aS,aS],ress:=[I],owns:=[],pre:=fun(r,_)=>[Jo r],spec:=fun((_,st,_,O,M,_),a,b,_)=>(Fc st O M a b,())}
abbrev Kio (tk st:Int) (S:List Sta) (O:List Ord) (M:List Met) (X:List Out) (Q:List Per) (a b:ByteArray):Ann:={X:=Nat×Int,σ:=fun(k,n)=>⟨6,[(1, .one (.str a)),(2, .one (.str b)),(3, .one (.ptr 5 0)),(7, .one (.int .i64 n)),(13, .one (.sl 1)),(14, .one (.int .i64 O.length)),(15, .one (.int .i64 k))],[(0, .imm 127 X5 S),(1, .imm 130 Ym O),(2, .imm 155 X9 M),(3, .imm 188 Yh X),(4, .imm 235 Y8 Q),(5, .box 105 [.int .i64 tk, .int .i64 st, .sl 0, .sl 1, .sl 2, .sl 3, .sl 4])]⟩,inv:=fun(k,n)=>k≤O.length∧(-100000000*k≤n∧n≤100000000*k)∧Jy9 st M a b (O.drop k) n=Fc st O M a b,mu:=fun(k,_)=>O.length-k}
def Kph (a:List Ord) (b:Nat×Int) (c:Bt):=Lb (Kks a b) c
def Kpf (a:List Ord) (b:Nat×Int) (c:Bt):=Lb (Kkr a b) c
def Kjm (a:List Ord) (b c:Nat×Int) (d:List Sta) (e:List Met) (f:List Out) (g:List Per) (h i:Int):=Si (Ln a) (Jro b c d a e f g h i)
def Km3 (a:Nat×Int) (b:List Ord) (c:Int) (d:List Met) (e f:Bt):=a.1≤List.length b∧((-100000000)*Nc a.1≤a.2∧a.2≤100000000*Nc a.1)∧Jy9 c d e f (List.drop a.1 b) a.2=Fc c b d e f
def Kmt (a:List Ord) (b:Nat×Int) (c d:Bt):=Kph a b c&&(Kpf a b d&&true)
def Ki9 (a:Nat×Int) (b:List Ord) (c:Int) (d:List Met) (e f:Bt) (g:Nat×Int):=Km3 a b c d e f∧List.length b-a.1<List.length b-g.1
def Kc6 (a:Int) (b:List Met) (c:List Ord) (d:Nat×Int):=(Uv a b (Jpm c d)).2.2.2.2
def Jzo (a:Int) (b:List Met) (c:List Ord) (d:Nat×Int):=(Kc6 a b c d).1-(Kc6 a b c d).2
def J4g (a:Int) (b:List Met) (c:List Ord) (d:Nat×Int):=Iw (Jzo a b c d)
def J4f (a:Nat×Int) (b:Int) (c:List Met) (d:List Ord):=a.2+Jzo b c d a
def Kbk (a:Nat×Int) (b:Int) (c:List Met) (d:List Ord):=a.2-Jzo b c d a
def Ka8 (a:Nat×Int) (b:Int) (c:List Met) (d:List Ord):=J4f a b c d-Jzo b c d a
theorem Ku5:Ok Tryz.prog 127 J3c:=okW K81 Tryz.f127 (fun xx=>Zg (Kio xx.1.1 xx.1.2.1 xx.1.2.2.1 xx.1.2.2.2.1 xx.1.2.2.2.2.1 xx.1.2.2.2.2.2.1 xx.1.2.2.2.2.2.2 xx.2.1 xx.2.2.1)) fun xx=>by
 obtain⟨⟨(tk:Int),(st:Int),(S:List Sta),(O:List Ord),(M:List Met),(X:List Out),(Q:List Per)⟩,(a:ByteArray),(b:ByteArray),_⟩:=xx
 refine(by kernel_rfl:(J0 tk st S O M X Q→∃(x:Nat×Int),Sf a (Sf b (0=x.2∧Si (Ln O) (J0u x S O M X Q tk st)))∧Km3 x O st M a b∧∀(x:Nat×Int),Km3 x O st M a b→Br (decide (Nc x.1<Ln O)) (Tw (Bd (Nc x.1) (Ln O))∧(J0 tk st S O M X Q∧Jpm O x∈O)∧Br (Kmt O x a b) ((J4g st M O x∧Iw (J4f x st M O))∧Br (Kmt O x b a) ((J4g st M O x∧Iw (Ka8 x st M O))∧Z43 x∧∃(y:Nat×Int),Sf a (Sf b (Ka8 x st M O=y.2∧Kjm O x y S M X Q tk st))∧Ki9 y O st M a b x) (Z43 x∧∃(y:Nat×Int),Sf a (Sf b (J4f x st M O=y.2∧Kjm O x y S M X Q tk st))∧Ki9 y O st M a b x)) (Br (Kmt O x b a) ((J4g st M O x∧Iw (Kbk x st M O))∧Z43 x∧∃(y:Nat×Int),Sf a (Sf b (Kbk x st M O=y.2∧Kjm O x y S M X Q tk st))∧Ki9 y O st M a b x) (Z43 x∧∃(y:Nat×Int),Sf a (Sf b (x.2=y.2∧Kjm O x y S M X Q tk st))∧Ki9 y O st M a b x))) (x.2=Fc st O M a b))=_).mp ?_
 delta Z43 Z67 Z75 Jt2 J0 Jdo Kkv Kku Kkt Kks Kkr Kkp Kko Kkn Kkm Kph Kpf Jrp J0u Jro Kjm Km3 Kmt Ki9 Jpm Kc6 Jzo J4g J4f Kbk Ka8 Br Iw Bd Tw Sf Si Ln Nc B0 Lb E2
 intro hr
 have nO:O.length≤32:=hr.nO
 refine⟨((0:Nat),(0:Int)),by(repeat' first|exact rfl|apply And.intro|exact(Int.add_zero _).symm|omega|dsimp only;omega),⟨Nat.zero_le _,by omega,rfl⟩,fun(x:Nat×Int) hk=>⟨fun h1=> ?_,fun h1=> ?_⟩⟩
 ·obtain⟨k,n⟩:=x
  have hlt:k<O.length:=by simpa using h1
  have hx:=Je (d:=Ki) hlt
  have hb:=Jb0 hr hx
  obtain⟨k1,k2,k3⟩:=hk
  rw[Jn (d:=Ki) hlt,Jy9] at k3
  have m1:=hb.money
  have m2:=hb.fine
  have hz:((({data:={toList:=[]}}:ByteArray),({data:={toList:=[]}}:ByteArray),({data:={toList:=[]}}:ByteArray),((0:Int),(0:Int)),(0:Int),(0:Int),(0:Int)):Ord)=Ki:=rfl
  dsimp only at k1 k2 k3
  simp only[hz,Prod.eta]
  generalize O.getD k Ki=y at*
  have k3:Jy9 st M a b (List.drop (k+1) O) (bif F9 y b a then(bif F9 y a b then n+((Uv st M y).2.2.2.2.1-(Uv st M y).2.2.2.2.2) else n)-((Uv st M y).2.2.2.2.1-(Uv st M y).2.2.2.2.2) else(bif F9 y a b then n+((Uv st M y).2.2.2.2.1-(Uv st M y).2.2.2.2.2) else n))=Fc st O M a b:=k3
  refine⟨⟨⟨by omega,by omega⟩,by omega,by omega⟩,⟨hr,hx⟩,fun h2=>⟨⟨⟨by omega,by omega⟩,by omega,by omega⟩,fun h3=>⟨⟨⟨by omega,by omega⟩,by omega,by omega⟩,⟨⟨by omega,by omega⟩,(k+1,n+((Uv st M y).2.2.2.2.1-(Uv st M y).2.2.2.2.2)-((Uv st M y).2.2.2.2.1-(Uv st M y).2.2.2.2.2)),by simp,⟨by(first|omega|dsimp only;omega),by(first|omega|dsimp only;omega), ?_⟩,by(first|omega|dsimp only;omega)⟩⟩,fun h3=>⟨⟨by omega,by omega⟩,(k+1,n+((Uv st M y).2.2.2.2.1-(Uv st M y).2.2.2.2.2)),by simp,⟨by(first|omega|dsimp only;omega),by(first|omega|dsimp only;omega), ?_⟩,by(first|omega|dsimp only;omega)⟩⟩,fun h2=>⟨fun h3=>⟨⟨⟨by omega,by omega⟩,by omega,by omega⟩,⟨⟨by omega,by omega⟩,(k+1,n-((Uv st M y).2.2.2.2.1-(Uv st M y).2.2.2.2.2)),by simp,⟨by(first|omega|dsimp only;omega),by(first|omega|dsimp only;omega), ?_⟩,by(first|omega|dsimp only;omega)⟩⟩,fun h3=>⟨⟨by omega,by omega⟩,(k+1,n),by simp,⟨by(first|omega|dsimp only;omega),by(first|omega|dsimp only;omega), ?_⟩,by(first|omega|dsimp only;omega)⟩⟩⟩
  all_goals (have h2:F9 y a b=_:=h2;have h3:F9 y b a=_:=h3;rw[h2,h3] at k3;exact k3)
 ·obtain⟨k,n⟩:=x
  have hlt:¬k<O.length:=by simpa using h1
  obtain⟨k1,k2,k3⟩:=hk
  have:k=O.length:=by omega
  rw[this,List.drop_length,Jy9] at k3
  exact k3
abbrev K80:=K81.add Ku5
theorem Jy8 {tk st:Int} {S:List Sta} {O:List Ord} {M:List Met} {X:List Out} {Q:List Per} {a b:ByteArray} (hr:Jo (tk,st,S,O,M,X,Q)):∀(l:List Ord) (n:Int),(∀x∈l,x∈O)→n-100000000*l.length≤Jy9 st M a b l n∧Jy9 st M a b l n≤n+100000000*l.length
 |[],n,_=>by simp[Jy9]
 | x :: l, n, h => by
  have hb:=Jb0 hr (h x (List.mem_cons_self ..))
  have ih:=Jy8 (a:=a) (b:=b) hr l (Kiw st M a b x n) fun y hy=>h y (List.mem_cons_of_mem _ hy)
  have m1:=hb.money
  have m2:=hb.fine
  have hd:n-100000000≤Kiw st M a b x n∧Kiw st M a b x n≤n+100000000:=by
   unfold Kiw
   cases F9 x a b<;>cases F9 x b a<;>simp only[cond_true,cond_false]<;>omega
  simp only[List.length_cons]
  unfold Jy9
  omega
theorem Jrm {tk st:Int} {S:List Sta} {O:List Ord} {M:List Met} {X:List Out} {Q:List Per} {a b:ByteArray} (hr:Jo (tk,st,S,O,M,X,Q)): -3200000000≤Fc st O M a b∧Fc st O M a b≤3200000000:=by
 have h:=Jy8 (a:=a) (b:=b) hr O 0 fun _ h=>h
 have nO:O.length≤32:=hr.nO
 unfold Fc
 omega
def J0o (st:Int) (O:List Ord) (M:List Met) (s:ByteArray):List Sta→Int→Int
 |[],n=>n
 |x::l,n=>J0o st O M s l (bif x.1.toList !=s.toList then n+Fc st O M s x.1 else n)
def Jyn (st:Int) (S:List Sta) (O:List Ord) (M:List Met) (s:ByteArray):Int:=J0o st O M s S 0
def J29:Con:={args:=[Jb6,aS],ress:=[I],owns:=[],pre:=fun(r,_)=>[Jo r],spec:=fun((_,st,S,O,M,_),s,_)=>(Jyn st S O M s,())}
abbrev Kin (tk st:Int) (S:List Sta) (O:List Ord) (M:List Met) (X:List Out) (Q:List Per) (s:ByteArray):Ann:={X:=Nat×Int,σ:=fun(k,n)=>⟨6,[(1, .one (.str s)),(2, .one (.ptr 5 0)),(5, .one (.int .i64 n)),(9, .one (.sl 0)),(10, .one (.int .i64 S.length)),(11, .one (.int .i64 k))],[(0, .imm 127 X5 S),(1, .imm 130 Ym O),(2, .imm 155 X9 M),(3, .imm 188 Yh X),(4, .imm 235 Y8 Q),(5, .box 105 [.int .i64 tk, .int .i64 st, .sl 0, .sl 1, .sl 2, .sl 3, .sl 4])]⟩,inv:=fun(k,n)=>k≤S.length∧(-3200000000*k≤n∧n≤3200000000*k)∧J0o st O M s (S.drop k) n=Jyn st S O M s,mu:=fun(k,_)=>S.length-k}
def Kq3 (a:List Sta) (b:Nat×Int):=(List.getD a b.1 Z7).1
def Km4 (a:Nat×Int) (b:List Sta) (c:Int) (d:List Ord) (e:List Met) (f:Bt):=a.1≤List.length b∧((-3200000000)*Nc a.1≤a.2∧a.2≤3200000000*Nc a.1)∧J0o c d e f (List.drop a.1 b) a.2=Jyn c b d e f
def Ky9 (a:Nat×Int) (b:List Sta) (c:Int) (d:List Ord) (e:List Met) (f:Bt) (g:Nat×Int):=Km4 a b c d e f∧List.length b-a.1<List.length b-g.1
theorem Ku4:Ok Tryz.prog 128 J29:=okW K80 Tryz.f128 (fun xx=>Zg (Kin xx.1.1 xx.1.2.1 xx.1.2.2.1 xx.1.2.2.2.1 xx.1.2.2.2.2.1 xx.1.2.2.2.2.2.1 xx.1.2.2.2.2.2.2 xx.2.1)) fun xx=>by
 obtain⟨⟨(tk:Int),(st:Int),(S:List Sta),(O:List Ord),(M:List Met),(X:List Out),(Q:List Per)⟩,(s:ByteArray),_⟩:=xx
 refine(by kernel_rfl:(J0 tk st S O M X Q→∃(x:Nat×Int),Sf s (0=x.2∧Si (Ln S) (J0u x S O M X Q tk st))∧Km4 x S st O M s∧∀(x:Nat×Int),Km4 x S st O M s→Br (decide (Nc x.1<Ln S)) (Tw (Bd (Nc x.1) (Ln S))∧Br (!Lb (Kq3 S x) s) ((J0 tk st S O M X Q∧Iw (x.2+Fc st O M s (Kq3 S x)))∧Z43 x∧∃(y:Nat×Int),Sf s (x.2+Fc st O M s (Kq3 S x)=y.2∧Si (Ln S) (Jro x y S O M X Q tk st))∧Ky9 y S st O M s x) (Z43 x∧∃(y:Nat×Int),Sf s (x.2=y.2∧Si (Ln S) (Jro x y S O M X Q tk st))∧Ky9 y S st O M s x)) (x.2=Jyn st S O M s))=_).mp ?_
 delta Z7 Z43 Z67 Jt2 J0 Kq3 Jrp J0u Jro Km4 Ky9 Br Iw Bd Tw Sf Si Ln Nc B0 Lb
 intro hr
 have nS:S.length≤6:=hr.nS
 refine⟨((0:Nat),(0:Int)),by simp,⟨Nat.zero_le _,by omega,rfl⟩,fun(x:Nat×Int) hk=>⟨fun h1=> ?_,fun h1=> ?_⟩⟩
 ·obtain⟨k,n⟩:=x
  have hlt:k<S.length:=by simpa using h1
  obtain⟨k1,k2,k3⟩:=hk
  rw[Jn (d:=Jkv) hlt,J0o] at k3
  have hz:((({data:={toList:=[]}}:ByteArray),(0:Int),(0:Int)):Sta)=Jkv:=rfl
  dsimp only at k1 k2 k3
  simp only[hz,Prod.eta]
  generalize S.getD k Jkv=y at*
  have hb:=Jrm (a:=s) (b:=y.1) hr
  refine⟨⟨⟨by omega,by omega⟩,by omega,by omega⟩,fun h2=>⟨⟨hr,by omega,by omega⟩,⟨by omega,by omega⟩,(k+1,n+Fc st O M s y.1),by simp,⟨by(first|omega|dsimp only;omega),by(first|omega|dsimp only;omega), ?_⟩,by(first|omega|dsimp only;omega)⟩,fun h2=>⟨⟨by omega,by omega⟩,(k+1,n),by simp,⟨by(first|omega|dsimp only;omega),by(first|omega|dsimp only;omega), ?_⟩,by(first|omega|dsimp only;omega)⟩⟩
  all_goals (have h2:(y.1.toList !=s.toList)=_:=h2;rw[h2] at k3;exact k3)
 ·obtain⟨k,n⟩:=x
  have hlt:¬k<S.length:=by simpa using h1
  obtain⟨k1,k2,k3⟩:=hk
  have:k=S.length:=by omega
  rw[this,List.drop_length,J0o] at k3
  exact k3
abbrev K8z:=K80.add Ku4
def J5j (num den:Int):Int×Int:=(num.tdiv (Nat.gcd num.toNat den.toNat:Nat),den.tdiv (Nat.gcd num.toNat den.toNat:Nat))
def Ua8:Con:={args:=[aI,aI],ress:=[(true,Ld)],owns:=[],pre:=fun(a,b,_)=>[0≤a∧a≤1000000000000,1≤b∧b≤1000000000000],spec:=fun(a,b,_)=>(J5j a b,())}
abbrev Kik (num den:Int):Ann:={X:=Int×Int,σ:=fun(a,b)=>⟨1,[(0, .one (.int .i64 num)),(1, .one (.int .i64 den)),(4, .one (.ptr 0 0)),(5, .one (.int .i64 a)),(6, .one (.int .i64 b))],[(0, .box 54 [.int .i64 0, .int .i64 0])]⟩,inv:=fun(a,b)=>(0≤a∧a≤1000000000000)∧(0≤b∧b≤1000000000000)∧(a=0→b≠0)∧Nat.gcd a.toNat b.toNat=Nat.gcd num.toNat den.toNat,mu:=fun(_,b)=>b.toNat}
def Z23:=Tw ((0:Int)=0)
def Kmz (a:Int×Int) (b c:Int):=(0≤a.1∧a.1≤1000000000000)∧(0≤a.2∧a.2≤1000000000000)∧(a.1=0→a.2=0→False)∧Nat.gcd (Int.toNat a.1) (Int.toNat a.2)=Nat.gcd (Int.toNat b) (Int.toNat c)
theorem K9c:Ok Tryz.prog 99 Ua8:=okW K8z Tryz.f99 (fun xx=>Zg (Kik xx.1 xx.2.1)) fun xx=>by
 obtain⟨(num:Int),(den:Int),_⟩:=xx
 refine(by kernel_rfl:(0≤num∧num≤1000000000000→1≤den∧den≤1000000000000→∃(x:Int×Int),Si num (Si den (num=x.1∧den=x.2∧Z23))∧Kmz x num den∧∀(x:Int×Int),Kmz x num den→Br (x.2 !=0) ((x.2=0→False)∧∃(y:Int×Int),Si num (Si den (x.2=y.1∧Int.tmod x.1 x.2=y.2∧Z23))∧Kmz y num den∧Int.toNat y.2<Int.toNat x.2) (((x.1=0→False)∧Iw (Int.tdiv num x.1)∧(x.1=0→False)∧Iw (Int.tdiv den x.1))∧(Int.tdiv num x.1,Int.tdiv den x.1)=J5j num den))=_).mp ?_
 delta Z23 Kmz Br Iw Tw Si
 intro h1' h2
 refine⟨(num,den),by simp,⟨h1',by(first|omega|dsimp only;omega),by(first|omega|dsimp only;omega),rfl⟩,fun(x:Int×Int) hk=>⟨fun h1=> ?_,fun h1=> ?_⟩⟩
 ·obtain⟨a,b⟩:=x
  obtain⟨k1,k2,k3,k4⟩:=hk
  dsimp only at k1 k2 k3 k4 h1
  have hb:b≠0:=bne_iff_ne.1 h1
  obtain⟨A,rfl⟩:=Int.eq_ofNat_of_zero_le k1.1
  obtain⟨B,rfl⟩:=Int.eq_ofNat_of_zero_le k2.1
  have hB:0<B:=by omega
  have hm:=Nat.mod_lt A hB
  have e:((A:Int).tmod (B:Int))=((A %B:Nat):Int):=(Int.ofNat_tmod A B).symm
  refine⟨hb,((B:Int),((A %B:Nat):Int)),⟨rfl,rfl,rfl,e,rfl,rfl⟩,⟨by(first|omega|dsimp only;omega),by(first|omega|dsimp only;omega),fun h=>(by dsimp only at h;omega), ?_⟩, ?_⟩
  ·rw[←k4]
   simp only[Int.toNat_natCast]
   rw[Nat.gcd_comm A B,Nat.gcd_rec B A,Nat.gcd_comm]
  ·simp only[Int.toNat_natCast]
   exact hm
 ·obtain⟨a,b⟩:=x
  obtain⟨k1,k2,k3,k4⟩:=hk
  dsimp only at k1 k2 k3 k4 h1
  have hb:b=0:=by simpa using h1
  subst hb
  have ha:a≠0:=fun h=>k3 h rfl
  have hg:(Nat.gcd num.toNat den.toNat:Int)=a:=by rw[←k4];simp;omega
  have d1:0≤num.tdiv a:=Int.tdiv_nonneg h1'.1 k1.1
  have d2:num.tdiv a≤num:=Int.tdiv_le_self _ h1'.1
  have d3:0≤den.tdiv a:=Int.tdiv_nonneg (by omega) k1.1
  have d4:den.tdiv a≤den:=Int.tdiv_le_self _ (by omega)
  refine⟨⟨ha,⟨by(first|omega|dsimp only;omega),by(first|omega|dsimp only;omega)⟩,ha,by(first|omega|dsimp only;omega),by(first|omega|dsimp only;omega)⟩, ?_⟩
  unfold J5j
  rw[hg]
abbrev K8y:=K8z.add K9c
abbrev Kfy:Sch:= .prod .str (.prod sI .bool)
abbrev Frm:=ByteArray×Int×Bool
def Hj (k:ByteArray):Frm:=
 bif k.toList==Jv.toList then(⟨⟨[83]⟩⟩,2,true) else
 bif k.toList==Uc.toList then(⟨⟨[115]⟩⟩,2,true) else
 bif k.toList==Kf.toList then(⟨⟨[79,115,115]⟩⟩,4,true) else
 bif k.toList==K2.toList then(⟨⟨[111]⟩⟩,4,true) else
 bif k.toList==Vj.toList then(⟨⟨[111]⟩⟩,1,true) else
 bif k.toList==Jp.toList then(⟨⟨[88,115]⟩⟩,4,true) else
 bif k.toList==Jr.toList then(⟨⟨[120]⟩⟩,1,true) else
 bif k.toList==Kb.toList then(⟨⟨[80,120]⟩⟩,1,true) else
 bif k.toList==Ka.toList then(⟨⟨[112]⟩⟩,1,true) else
 bif k.toList==Jh.toList then(⟨⟨[]⟩⟩,2,true) else
 bif k.toList==Jl.toList then(⟨⟨[]⟩⟩,0,true) else
 (Jb,0,false)
def Kwp:Con:={args:=[aS],ress:=[(true,Kfy)],owns:=[],pre:=fun _=>[],spec:=fun(k,_)=>(Hj k,())}
theorem Kgd:Ok Tryz.prog 110 Kwp:=okW K8y Tryz.f110 na fun xx=>by
 obtain⟨(k:ByteArray),_⟩:=xx
 refine(by kernel_rfl:(Br (Lb k Jv) ((ByteArray.mk (Array.mk [83]),2,true)=Hj k) (Br (Lb k Uc) ((ByteArray.mk (Array.mk [115]),2,true)=Hj k) (Br (Lb k Kf) ((ByteArray.mk (Array.mk [79,115,115]),4,true)=Hj k) (Br (Lb k K2) ((ByteArray.mk (Array.mk [111]),4,true)=Hj k) (Br (Lb k Vj) ((ByteArray.mk (Array.mk [111]),1,true)=Hj k) (Br (Lb k Jp) ((ByteArray.mk (Array.mk [88,115]),4,true)=Hj k) (Br (Lb k Jr) ((ByteArray.mk (Array.mk [120]),1,true)=Hj k) (Br (Lb k Kb) ((ByteArray.mk (Array.mk [80,120]),1,true)=Hj k) (Br (Lb k Ka) ((ByteArray.mk (Array.mk [112]),1,true)=Hj k) (Br (Lb k Jh) ((B0,2,true)=Hj k) (Br (Lb k Jl) ((B0,0,true)=Hj k) ((B0,0,false)=Hj k))))))))))))=_).mp ?_
 delta Br B0 Lb K2 Kf Jp Kb Uc Jr Ka Jh Jv Vj Jl
 unfold Hj
 repeat' first|(refine⟨fun h=> ?_,fun h=> ?_⟩)|(rw[h];clear h)
 all_goals rfl
abbrev Ucu:=K8y.add Kgd
abbrev K8x:=Ucu
abbrev Jhq:Sch:= .prod sI (.prod sI (.prod (.list 114 X5) (.prod (.list 119 Ym) (.prod (.list 121 X9) (.prod (.list 123 Yh) (.list 125 Y8))))))
abbrev Zc:AK:= .val true Jhq
def Kw0:Con:={args:=[Zc,aS],ress:=[I],owns:=[],pre:=fun((_,_,L,_),_)=>[L.length≤1000000],spec:=fun((_,_,L,_),s,_)=>(J1 L s,())}
abbrev J9s (tk st:Int) (S:List Sta) (O:List Ord) (M:List Met) (X:List Out) (Q:List Per) (s:ByteArray):Ann:={X:=Nat,σ:=fun k=>⟨6,[(1, .one (.str s)),(2, .one (.ptr 5 0)),(5, .one (.int .i64 k))],[(0, .imm 114 X5 S),(1, .imm 119 Ym O),(2, .imm 121 X9 M),(3, .imm 123 Yh X),(4, .imm 125 Y8 Q),(5, .box 37 [.int .i64 tk, .int .i64 st, .sl 0, .sl 1, .sl 2, .sl 3, .sl 4])]⟩,inv:=fun k=>k≤S.length∧J1 S s=K0 (fun x=>x.1.toList==s.toList) (S.drop k) k,mu:=fun k=>S.length-k}
def Kps (a:Nat) (b:List Sta) (c:Bt):=a≤List.length b∧J1 b c=K0 (fun(x:Sta)=>Lb x.1 c) (List.drop a b) a
def J0t (a:Bt) (b:Nat) (c:List Sta) (d:List Ord) (e:List Met) (f:List Out) (g:List Per) (h i:Int):=Sf a (0=Nc b∧Jrp c d e f g h i)
def J0s (a:Bt) (b c:Nat) (d:List Sta) (e:List Ord) (f:List Met) (g:List Out) (h:List Per) (i j:Int):=Sf a (V4 b c∧Jrp d e f g h i j)
theorem Uan:Ok Tryz.prog 21 Kw0:=okW K8x Tryz.f21 (fun xx=>Zg (J9s xx.1.1 xx.1.2.1 xx.1.2.2.1 xx.1.2.2.2.1 xx.1.2.2.2.2.1 xx.1.2.2.2.2.2.1 xx.1.2.2.2.2.2.2 xx.2.1)) fun xx=>by
 obtain⟨⟨(tk:Int),(st:Int),(S:List Sta),(O:List Ord),(M:List Met),(X:List Out),(Q:List Per)⟩,(s:ByteArray),_⟩:=xx
 refine(by kernel_rfl:(Z44 S→∃(x:Nat),J0t s x S O M X Q tk st∧Kps x S s∧∀(x:Nat),Kps x S s→Br (decide (Nc x<Ln S)) (Tw (Bd (Nc x) (Ln S))∧Br (Lb (J6q S x) s) (Nc x=J1 S s) (Z21 x∧∃(y:Nat),J0s s x y S O M X Q tk st∧Kps y S s∧J6m S y x)) (Z71=J1 S s))=_).mp ?_
 delta Z7 Z21 Z44 Z71 V4 J6q J6m Kps Jrp J0t J0s Br Iw Bd Tw Sf Si Ln Nc B0 Lb
 intro hb
 refine⟨(0:Nat),by simp,⟨Nat.zero_le _,rfl⟩,fun(k:Nat) hk=>⟨fun h=> ?_,fun h=> ?_⟩⟩
 ·have hlt:k<S.length:=by simpa using h
  have hd:=Yo (p:=fun x=>x.1.toList==s.toList) (d:=Jkv) hlt
  refine⟨by omega,fun h1=> ?_,fun h1=>⟨by omega,(k+1:Nat),by simp,⟨by omega, ?_⟩,by omega⟩⟩
  ·rw[hk.2,hd,if_pos (show((S.getD k Jkv).1.toList==s.toList)=true from h1)]
  ·rw[hk.2,hd,if_neg (by rw[show((S.getD k Jkv).1.toList==s.toList)=false from h1];simp)]
 ·have hlt:¬k<S.length:=by simpa using h
  have:k=S.length:=by omega
  rw[hk.2,this,List.drop_length];rfl
abbrev K8w:=K8x.add Uan
def Kwz:Con:={args:=[Zc,aS],ress:=[I],owns:=[],pre:=fun((_,_,_,L,_),_)=>[L.length≤1000000],spec:=fun((_,_,_,L,_),s,_)=>(Kg L s,())}
abbrev J9r (tk st:Int) (S:List Sta) (O:List Ord) (M:List Met) (X:List Out) (Q:List Per) (s:ByteArray):Ann:={X:=Nat,σ:=fun k=>⟨6,[(1, .one (.str s)),(2, .one (.ptr 5 0)),(5, .one (.int .i64 k))],[(0, .imm 114 X5 S),(1, .imm 119 Ym O),(2, .imm 121 X9 M),(3, .imm 123 Yh X),(4, .imm 125 Y8 Q),(5, .box 37 [.int .i64 tk, .int .i64 st, .sl 0, .sl 1, .sl 2, .sl 3, .sl 4])]⟩,inv:=fun k=>k≤O.length∧Kg O s=K0 (fun x=>x.1.toList==s.toList) (O.drop k) k,mu:=fun k=>O.length-k}
def Kpt (a:Nat) (b:List Ord) (c:Bt):=a≤List.length b∧Kg b c=K0 (fun(x:Ord)=>Lb x.1 c) (List.drop a b) a
theorem K9o:Ok Tryz.prog 86 Kwz:=okW K8w Tryz.f86 (fun xx=>Zg (J9r xx.1.1 xx.1.2.1 xx.1.2.2.1 xx.1.2.2.2.1 xx.1.2.2.2.2.1 xx.1.2.2.2.2.2.1 xx.1.2.2.2.2.2.2 xx.2.1)) fun xx=>by
 obtain⟨⟨(tk:Int),(st:Int),(S:List Sta),(O:List Ord),(M:List Met),(X:List Out),(Q:List Per)⟩,(s:ByteArray),_⟩:=xx
 refine(by kernel_rfl:(Z50 O→∃(x:Nat),J0t s x S O M X Q tk st∧Kpt x O s∧∀(x:Nat),Kpt x O s→Br (J1b x O) (Tw (Bd (Nc x) (Ln O))∧Br (Lb (J3y O x) s) (Nc x=Kg O s) (Z21 x∧∃(y:Nat),J0s s x y S O M X Q tk st∧Kpt y O s∧List.length O-y<List.length O-x)) (Z71=Kg O s))=_).mp ?_
 delta Z21 Z50 Z71 Z75 V4 J1b Jdo Kac J3y Kpt Jrp J0t J0s Br Iw Bd Tw Sf Si Ln Nc B0 Lb
 intro hb
 refine⟨(0:Nat),by simp,⟨Nat.zero_le _,rfl⟩,fun(k:Nat) hk=>⟨fun h=> ?_,fun h=> ?_⟩⟩
 ·have hlt:k<O.length:=by simpa using h
  have hd:=Yo (p:=fun x=>x.1.toList==s.toList) (d:=Ki) hlt
  refine⟨by omega,fun h1=> ?_,fun h1=>⟨by omega,(k+1:Nat),by simp,⟨by omega, ?_⟩,by omega⟩⟩
  ·rw[hk.2,hd,if_pos (show((O.getD k Ki).1.toList==s.toList)=true from h1)]
  ·rw[hk.2,hd,if_neg (by rw[show((O.getD k Ki).1.toList==s.toList)=false from h1];simp)]
 ·have hlt:¬k<O.length:=by simpa using h
  have:k=O.length:=by omega
  rw[hk.2,this,List.drop_length];rfl
abbrev K8v:=K8w.add K9o
def Kwy:Con:={args:=[Zc,aS],ress:=[I],owns:=[],pre:=fun((_,_,_,_,_,L,_),_)=>[L.length≤1000000],spec:=fun((_,_,_,_,_,L,_),s,_)=>(Jw L s,())}
abbrev J9q (tk st:Int) (S:List Sta) (O:List Ord) (M:List Met) (X:List Out) (Q:List Per) (s:ByteArray):Ann:={X:=Nat,σ:=fun k=>⟨6,[(1, .one (.str s)),(2, .one (.ptr 5 0)),(5, .one (.int .i64 k))],[(0, .imm 114 X5 S),(1, .imm 119 Ym O),(2, .imm 121 X9 M),(3, .imm 123 Yh X),(4, .imm 125 Y8 Q),(5, .box 37 [.int .i64 tk, .int .i64 st, .sl 0, .sl 1, .sl 2, .sl 3, .sl 4])]⟩,inv:=fun k=>k≤X.length∧Jw X s=K0 (fun x=>x.1.toList==s.toList) (X.drop k) k,mu:=fun k=>X.length-k}
def Z84 (a:Nat) (b:List Out):=Tw (Bd (Nc a) (Ln b))
def Kpq (a:Nat) (b:List Out) (c:Bt):=a≤List.length b∧Jw b c=K0 (fun(x:Out)=>Lb x.1 c) (List.drop a b) a
theorem K9n:Ok Tryz.prog 87 Kwy:=okW K8v Tryz.f87 (fun xx=>Zg (J9q xx.1.1 xx.1.2.1 xx.1.2.2.1 xx.1.2.2.2.1 xx.1.2.2.2.2.1 xx.1.2.2.2.2.2.1 xx.1.2.2.2.2.2.2 xx.2.1)) fun xx=>by
 obtain⟨⟨(tk:Int),(st:Int),(S:List Sta),(O:List Ord),(M:List Met),(X:List Out),(Q:List Per)⟩,(s:ByteArray),_⟩:=xx
 refine(by kernel_rfl:(Z48 X→∃(x:Nat),J0t s x S O M X Q tk st∧Kpq x X s∧∀(x:Nat),Kpq x X s→Br (Jnd x X) (Z84 x X∧Br (Lb (Jtv X x) s) (Nc x=Jw X s) (Z21 x∧∃(y:Nat),J0s s x y S O M X Q tk st∧Kpq y X s∧Jum X y x)) (Z71=Jw X s))=_).mp ?_
 delta Z21 Z48 Z71 Z84 V4 Jnd Jc1 Jum Jtv Kpq Jrp J0t J0s Br Iw Bd Tw Sf Si Ln Nc B0 Lb
 intro hb
 refine⟨(0:Nat),by simp,⟨Nat.zero_le _,rfl⟩,fun(k:Nat) hk=>⟨fun h=> ?_,fun h=> ?_⟩⟩
 ·have hlt:k<X.length:=by simpa using h
  have hd:=Yo (p:=fun x=>x.1.toList==s.toList) (d:=Hp) hlt
  refine⟨by omega,fun h1=> ?_,fun h1=>⟨by omega,(k+1:Nat),by simp,⟨by omega, ?_⟩,by omega⟩⟩
  ·rw[hk.2,hd,if_pos (show((X.getD k Hp).1.toList==s.toList)=true from h1)]
  ·rw[hk.2,hd,if_neg (by rw[show((X.getD k Hp).1.toList==s.toList)=false from h1];simp)]
 ·have hlt:¬k<X.length:=by simpa using h
  have:k=X.length:=by omega
  rw[hk.2,this,List.drop_length];rfl
abbrev K8u:=K8v.add K9n
def Kwx:Con:={args:=[Zc,aS],ress:=[I],owns:=[],pre:=fun((_,_,_,_,_,_,L),_)=>[L.length≤1000000],spec:=fun((_,_,_,_,_,_,L),s,_)=>(Uj L s,())}
abbrev J9p (tk st:Int) (S:List Sta) (O:List Ord) (M:List Met) (X:List Out) (Q:List Per) (s:ByteArray):Ann:={X:=Nat,σ:=fun k=>⟨6,[(1, .one (.str s)),(2, .one (.ptr 5 0)),(5, .one (.int .i64 k))],[(0, .imm 114 X5 S),(1, .imm 119 Ym O),(2, .imm 121 X9 M),(3, .imm 123 Yh X),(4, .imm 125 Y8 Q),(5, .box 37 [.int .i64 tk, .int .i64 st, .sl 0, .sl 1, .sl 2, .sl 3, .sl 4])]⟩,inv:=fun k=>k≤Q.length∧Uj Q s=K0 (fun x=>x.1.toList==s.toList) (Q.drop k) k,mu:=fun k=>Q.length-k}
def Kpr (a:Nat) (b:List Per) (c:Bt):=a≤List.length b∧Uj b c=K0 (fun(x:Per)=>Lb x.1 c) (List.drop a b) a
theorem K9m:Ok Tryz.prog 88 Kwx:=okW K8u Tryz.f88 (fun xx=>Zg (J9p xx.1.1 xx.1.2.1 xx.1.2.2.1 xx.1.2.2.2.1 xx.1.2.2.2.2.1 xx.1.2.2.2.2.2.1 xx.1.2.2.2.2.2.2 xx.2.1)) fun xx=>by
 obtain⟨⟨(tk:Int),(st:Int),(S:List Sta),(O:List Ord),(M:List Met),(X:List Out),(Q:List Per)⟩,(s:ByteArray),_⟩:=xx
 refine(by kernel_rfl:(Z47 Q→∃(x:Nat),J0t s x S O M X Q tk st∧Kpr x Q s∧∀(x:Nat),Kpr x Q s→Br (Z99 x Q) (Z86 x Q∧Br (Lb (J06 Q x) s) (Nc x=Uj Q s) (Z21 x∧∃(y:Nat),J0s s x y S O M X Q tk st∧Kpr y Q s∧Jzh Q y x)) (Z71=Uj Q s))=_).mp ?_
 delta Z21 Z47 Z71 Z86 Z99 V4 J06 Jzh Kpr Jrp J0t J0s Br Iw Bd Tw Sf Si Ln Nc B0 Lb
 intro hb
 refine⟨(0:Nat),by simp,⟨Nat.zero_le _,rfl⟩,fun(k:Nat) hk=>⟨fun h=> ?_,fun h=> ?_⟩⟩
 ·have hlt:k<Q.length:=by simpa using h
  have hd:=Yo (p:=fun x=>x.1.toList==s.toList) (d:=Fi) hlt
  refine⟨by omega,fun h1=> ?_,fun h1=>⟨by omega,(k+1:Nat),by simp,⟨by omega, ?_⟩,by omega⟩⟩
  ·rw[hk.2,hd,if_pos (show((Q.getD k Fi).1.toList==s.toList)=true from h1)]
  ·rw[hk.2,hd,if_neg (by rw[show((Q.getD k Fi).1.toList==s.toList)=false from h1];simp)]
 ·have hlt:¬k<Q.length:=by simpa using h
  have:k=Q.length:=by omega
  rw[hk.2,this,List.drop_length];rfl
abbrev K8t:=K8u.add K9m
def atS (r:Reg) (c:Int) (s:ByteArray):Int:=bif c==115 then J1 r.2.2.1 s else bif c==111 then Kg r.2.2.2.1 s else bif c==120 then Jw r.2.2.2.2.2.1 s else Uj r.2.2.2.2.2.2 s
def cAt:Con:={args:=[Zc, .val false (.int .u8),aS],ress:=[I],owns:=[],pre:=fun(r,_)=>[Jo r],spec:=fun(r,c,s,_)=>(atS r c s,())}
theorem Ktm:Ok Tryz.prog 192 cAt:=okW K8t Tryz.f192 na fun xx=>by
 obtain⟨⟨(tk:Int),(st:Int),(S:List Sta),(O:List Ord),(M:List Met),(X:List Out),(Q:List Per)⟩,(c:Int),(s:ByteArray),_⟩:=xx
 refine(by kernel_rfl:(J0 tk st S O M X Q→Br (c==115) (Z44 S∧J1 S s=atS (Z67 tk st S O M X Q) c s) (Br (c==111) (Z50 O∧Kg O s=atS (Z67 tk st S O M X Q) c s) (Br (c==120) (Z48 X∧Jw X s=atS (Z67 tk st S O M X Q) c s) (Z47 Q∧Uj Q s=atS (Z67 tk st S O M X Q) c s))))=_).mp ?_
 delta Z44 Z47 Z48 Z50 Z67 J0 Br
 intro hr
 have nS:S.length≤6:=hr.nS
 have nO:O.length≤32:=hr.nO
 have nX:X.length≤16:=hr.nX
 have nQ:Q.length≤16:=hr.nQ
 unfold atS
 repeat' first|(refine⟨fun h=> ?_,fun h=> ?_⟩)|(rw[h];clear h)
 all_goals exact⟨by omega,rfl⟩
abbrev K8s:=K8t.add Ktm
theorem Ktt:Ok Tryz.prog 181 Jx4:=okW K8s Tryz.f181 na fun xx=>by
 obtain⟨⟨(a:Int),(b:Int)⟩,(h:Int),_⟩:=xx
 refine(by kernel_rfl:((bif decide (a≤h) then decide (h<b) else false)=Kv (a,b) h)=_).mp ?_
 rfl
abbrev K8r:=K8s.add Ktt
def Jtn:Con:={args:=[.val true Ym,aI],ress:=[Bo],owns:=[],pre:=fun(x,_)=>[-1≤x.2.2.2.2.2.2],spec:=fun(x,h,_)=>(J2 x h,())}
theorem Kvj:Ok Tryz.prog 103 Jtn:=okW K8r Tryz.f103 na fun xx=>by
 obtain⟨⟨(n:ByteArray),(f:ByteArray),(t:ByteArray),⟨(a:Int),(b:Int)⟩,(p:Int),(c:Int),(r:Int)⟩,(h:Int),_⟩:=xx
 refine(by kernel_rfl:(Z71≤r→(bif Kv (a,b) h then bif decide (r<0) then true else decide (h<r) else false)=J2 (n,f,t,(a,b),p,c,r) h)=_).mp ?_
 delta Z71
 intro hr
 unfold J2
 have:(r== -1)=decide (r<0):=by
  by_cases q:r= -1
  ·rw[q];rfl
  ·rw[beq_eq_false_iff_ne.2 q,decide_eq_false (by(first|omega|dsimp only;omega))]
 dsimp only
 rw[this]
abbrev K8q:=K8r.add Kvj
def Ubg:Con:={args:=[Zc,aS,aI],ress:=[I],owns:=[],pre:=fun(r,s,_)=>[Jo r,0≤J1 r.2.2.1 s],spec:=fun((_,_,S,_,_,X,_),s,h,_)=>(Jbx X s h (Hu S s).2.1,())}
abbrev Kim (tk st:Int) (S:List Sta) (O:List Ord) (M:List Met) (X:List Out) (Q:List Per) (s:ByteArray) (h:Int):Ann:={X:=Nat×Int,σ:=fun(k,n)=>⟨6,[(1, .one (.str s)),(2, .one (.int .i64 h)),(3, .one (.ptr 5 0)),(7, .one (.int .i64 n)),(8, .one (.int .i64 k))],[(0, .imm 114 X5 S),(1, .imm 119 Ym O),(2, .imm 121 X9 M),(3, .imm 123 Yh X),(4, .imm 125 Y8 Q),(5, .box 37 [.int .i64 tk, .int .i64 st, .sl 0, .sl 1, .sl 2, .sl 3, .sl 4])]⟩,inv:=fun(k,n)=>k≤X.length∧Jbx (X.drop k) s h n=Jbx X s h (Hu S s).2.1,mu:=fun(k,_)=>X.length-k}
def Kpg (a:Nat×Int) (b:List Out) (c:Bt) (d:Int) (e:List Sta):=a.1≤List.length b∧Jbx (List.drop a.1 b) c d a.2=Jbx b c d (Hu e c).2.1
def K1d (a:Nat×Int) (b:List Out) (c:Bt) (d:Int) (e:List Sta) (f:Nat×Int):=Kpg a b c d e∧List.length b-a.1<List.length b-f.1
theorem Kvm:Ok Tryz.prog 100 Ubg:=okW K8q Tryz.f100 (fun xx=>Zg (Kim xx.1.1 xx.1.2.1 xx.1.2.2.1 xx.1.2.2.2.1 xx.1.2.2.2.2.1 xx.1.2.2.2.2.2.1 xx.1.2.2.2.2.2.2 xx.2.1 xx.2.2.1)) fun xx=>by
 obtain⟨⟨(tk:Int),(st:Int),(S:List Sta),(O:List Ord),(M:List Met),(X:List Out),(Q:List Per)⟩,(s:ByteArray),(h:Int),_⟩:=xx
 refine(by kernel_rfl:(J0 tk st S O M X Q→Z15 S s→(Z44 S∧Tw (Bd (J1 S s) (Ln S)))∧∃(x:Nat×Int),Sf s (Si h ((Klb S s).2.1=x.2∧J0u x S O M X Q tk st))∧Kpg x X s h S∧∀(x:Nat×Int),Kpg x X s h S→Br (decide (Nc x.1<Ln X)) (Tw (Bd (Nc x.1) (Ln X))∧Br (bif bif Lb (Kez X x).1 s then Kv (Kqf X x) h else false then decide (Keu X x<x.2) else false) (Z43 x∧∃(y:Nat×Int),Sf s (Si h (Keu X x=y.2∧Jro x y S O M X Q tk st))∧K1d y X s h S x) (Z43 x∧∃(y:Nat×Int),Sf s (Si h (x.2=y.2∧Jro x y S O M X Q tk st))∧K1d y X s h S x)) (x.2=Jbx X s h (Hu S s).2.1))=_).mp ?_
 delta Z7 Z15 Z43 Z44 Z67 Jt2 J0 Jc1 Klb Kez Keu Kqf Kpg Jrp J0u K1d Jro Br Iw Bd Tw Sf Si Ln Nc Gt B0 Lb E2
 intro hr hf
 have nS:S.length≤6:=hr.nS
 have nX:X.length≤16:=hr.nX
 have hl:=Uh (l:=S) (s:=s)
 refine⟨⟨by omega,⟨hf,hl⟩,hf,hl⟩,((0:Nat),(Hu S s).2.1),by(repeat' first|exact rfl|exact⟨⟩|apply And.intro|omega|dsimp only;omega),⟨Nat.zero_le _,rfl⟩,fun(x:Nat×Int) hk=>⟨fun h1=> ?_,fun h1=> ?_⟩⟩
 ·obtain⟨k,n⟩:=x
  have hlt:k<X.length:=by simpa using h1
  obtain⟨k1,k2⟩:=hk
  rw[Jn (d:=Hp) hlt,Jbx] at k2
  have hz:((({data:={toList:=[]}}:ByteArray),({data:={toList:=[]}}:ByteArray),((0:Int),(0:Int)),(0:Int)):Out)=Hp:=rfl
  dsimp only at k1 k2
  simp only[hz,Prod.eta]
  generalize X.getD k Hp=y at*
  have hc:(bif bif bif y.2.1.toList==s.toList then Kv y.2.2.1 h else false then decide (y.2.2.2<n) else false then y.2.2.2 else n)=bif Jwl y s h then min n y.2.2.2 else n:=by
   unfold Jwl
   cases bif y.2.1.toList==s.toList then Kv y.2.2.1 h else false
   ·rfl
   ·by_cases q:y.2.2.2<n
    ·simp only[cond_true,decide_eq_true q];omega
    ·simp only[cond_true,decide_eq_false q,cond_false];omega
  refine⟨⟨⟨by omega,by omega⟩,by omega,by omega⟩,fun h2=>⟨⟨by omega,by omega⟩,(k+1,y.2.2.2),by simp,⟨by(first|omega|dsimp only;omega), ?_⟩,by(first|omega|dsimp only;omega)⟩,fun h2=>⟨⟨by omega,by omega⟩,(k+1,n),by simp,⟨by(first|omega|dsimp only;omega), ?_⟩,by(first|omega|dsimp only;omega)⟩⟩
  all_goals (rw[←hc] at k2;have h2:(bif bif y.2.1.toList==s.toList then Kv y.2.2.1 h else false then decide (y.2.2.2<n) else false)=_:=h2;rw[h2] at k2;exact k2)
 ·obtain⟨k,n⟩:=x
  have hlt:¬k<X.length:=by simpa using h1
  obtain⟨k1,k2⟩:=hk
  have:k=X.length:=by omega
  rw[this,List.drop_length,Jbx] at k2
  exact k2
abbrev K8p:=K8q.add Kvm
def J27:Con:={args:=[Zc,aS,aI],ress:=[I],owns:=[],pre:=fun(r,_)=>[Jo r],spec:=fun((_,_,_,O,_),s,h,_)=>(Ul O s h,())}
abbrev Jtp (tk st:Int) (S:List Sta) (O:List Ord) (M:List Met) (X:List Out) (Q:List Per) (s:ByteArray) (h:Int):Ann:={X:=Nat×Int,σ:=fun(k,n)=>⟨6,[(1, .one (.str s)),(2, .one (.int .i64 h)),(3, .one (.ptr 5 0)),(7, .one (.int .i64 n)),(8, .one (.int .i64 k))],[(0, .imm 114 X5 S),(1, .imm 119 Ym O),(2, .imm 121 X9 M),(3, .imm 123 Yh X),(4, .imm 125 Y8 Q),(5, .box 37 [.int .i64 tk, .int .i64 st, .sl 0, .sl 1, .sl 2, .sl 3, .sl 4])]⟩,inv:=fun(k,n)=>k≤O.length∧(0≤n∧n≤1000*k)∧n+Ul (O.drop k) s h=Ul O s h,mu:=fun(k,_)=>O.length-k}
def Knz (a:Nat×Int) (b:List Ord) (c:Bt) (d:Int):=a.1≤List.length b∧(0≤a.2∧a.2≤1000*Nc a.1)∧a.2+Ul (List.drop a.1 b) c d=Ul b c d
def Kzz (a:Nat×Int) (b:List Ord) (c:Bt) (d:Int) (e:Nat×Int):=Knz a b c d∧List.length b-a.1<List.length b-e.1
def Kzh (a:List Ord) (b:Nat×Int) (c:Bt):=bif Kph a b c then true else Kpf a b c
theorem Kvl:Ok Tryz.prog 101 J27:=okW K8p Tryz.f101 (fun xx=>Zg (Jtp xx.1.1 xx.1.2.1 xx.1.2.2.1 xx.1.2.2.2.1 xx.1.2.2.2.2.1 xx.1.2.2.2.2.2.1 xx.1.2.2.2.2.2.2 xx.2.1 xx.2.2.1)) fun xx=>by
 obtain⟨⟨(tk:Int),(st:Int),(S:List Sta),(O:List Ord),(M:List Met),(X:List Out),(Q:List Per)⟩,(s:ByteArray),(h:Int),_⟩:=xx
 refine(by kernel_rfl:(J0 tk st S O M X Q→∃(x:Nat×Int),Sf s (Si h (0=x.2∧J0u x S O M X Q tk st))∧Knz x O s h∧∀(x:Nat×Int),Knz x O s h→Br (decide (Nc x.1<Ln O)) (Tw (Bd (Nc x.1) (Ln O))∧(Kzh O x s=true→Z71≤(Kkm O x).2)∧Br (bif Kzh O x s then J4r O x h else false) (Ko0 x O∧Z43 x∧∃(y:Nat×Int),Sf s (Si h (Koy x O y∧Jro x y S O M X Q tk st))∧Kzz y O s h x) (Z43 x∧∃(y:Nat×Int),Sf s (Si h (x.2=y.2∧Jro x y S O M X Q tk st))∧Kzz y O s h x)) (x.2=Ul O s h))=_).mp ?_
 delta Z43 Z67 Z71 Z75 Jt2 J0 Jdo Kkv Kku Kkt Kks Kkr Kkp Kko Kkn Kkm Kph Kpf Kpa Ko0 Koy Jrp J0u Knz Jro Kzz Kzh Jpm J4r Br Iw Bd Tw Sf Si Ln Nc B0 Lb E2
 intro hr
 have nO:O.length≤32:=hr.nO
 refine⟨((0:Nat),(0:Int)),by simp,⟨Nat.zero_le _,by omega,by simp⟩,fun(x:Nat×Int) hk=>⟨fun h1=> ?_,fun h1=> ?_⟩⟩
 ·obtain⟨k,n⟩:=x
  have hlt:k<O.length:=by simpa using h1
  obtain⟨k1,k2,k3⟩:=hk
  have hO:=hr.ord _ (Je (d:=Ki) hlt)
  rw[Jn (d:=Ki) hlt,Ul] at k3
  have hz:((({data:={toList:=[]}}:ByteArray),({data:={toList:=[]}}:ByteArray),({data:={toList:=[]}}:ByteArray),((0:Int),(0:Int)),(0:Int),(0:Int),(0:Int)):Ord)=Ki:=rfl
  dsimp only at k1 k2 k3
  simp only[hz,Prod.eta]
  generalize O.getD k Ki=y at*
  have hp:=hO.pow
  have ht:=hO.trip
  refine⟨⟨⟨by omega,by omega⟩,by omega,by omega⟩,fun _=>by omega,fun h2=>⟨⟨by omega,by omega⟩,⟨by omega,by omega⟩,(k+1,n+y.2.2.2.2.1),by simp,⟨by(first|omega|dsimp only;omega),by(first|omega|dsimp only;omega), ?_⟩,by(first|omega|dsimp only;omega)⟩,fun h2=>⟨⟨by omega,by omega⟩,(k+1,n),by simp,⟨by(first|omega|dsimp only;omega),by(first|omega|dsimp only;omega), ?_⟩,by(first|omega|dsimp only;omega)⟩⟩
  all_goals (have h2:(bif Ur y s then J2 y h else false)=_:=h2;rw[h2] at k3;simp only[cond_true,cond_false] at k3;(first|omega|dsimp only;omega))
 ·obtain⟨k,n⟩:=x
  have hlt:¬k<O.length:=by simpa using h1
  obtain⟨k1,k2,k3⟩:=hk
  have:k=O.length:=by omega
  rw[this,List.drop_length,Ul] at k3
  exact(Int.add_zero n).symm.trans k3
abbrev K8o:=K8p.add Kvl
def J8m:Con:={args:=[Zc,aS,aI],ress:=[I],owns:=[],pre:=fun(r,s,_)=>[Jo r,0≤J1 r.2.2.1 s],spec:=fun((_,_,S,O,_,X,_),s,h,_)=>(Vx S O X s h,())}
theorem Jx1 {S:List Sta} {s:ByteArray} {h:Int}:∀{X:List Out} {n:Int},(∀x∈X,Jpp S x)→0≤n∧n≤1000→0≤Jbx X s h n∧Jbx X s h n≤1000
 |[],_,_,hn=>hn
 |x::l,n,hX,hn=>by
  have hx:=(hX x (List.mem_cons_self ..)).rest
  unfold Jbx
  refine Jx1 (fun y hy=>hX y (List.mem_cons_of_mem _ hy)) ?_
  cases Jwl x s h<;>simp only[cond_true,cond_false]<;>omega
theorem Uaj:Ok Tryz.prog 28 J8m:=okW K8o Tryz.f28 na fun xx=>by
 obtain⟨⟨(tk:Int),(st:Int),(S:List Sta),(O:List Ord),(M:List Met),(X:List Out),(Q:List Per)⟩,(s:ByteArray),(h:Int),_⟩:=xx
 refine(by kernel_rfl:(J0 tk st S O M X Q→Z15 S s→(J0 tk st S O M X Q∧Z15 S s∧J0 tk st S O M X Q∧Iw (Jbx X s h (Hu S s).2.1-Ul O s h))∧Jbx X s h (Hu S s).2.1-Ul O s h=Vx S O X s h)=_).mp ?_
 delta Z15 Z67 J0 Iw
 intro hr hf
 have h1:=Jjb hr.sta hf
 have h2:=Jx1 (s:=s) (h:=h) hr.out (n:=(Hu S s).2.1) ⟨Int.le_trans (by decide) h1.lim.1,h1.lim.2⟩
 have h3:=Jj1 (s:=s) (h:=h) hr.ord
 have nO:O.length≤32:=hr.nO
 dsimp only at h2 h3
 exact⟨⟨hr,hf,hr,by omega,by omega⟩,rfl⟩
abbrev K8n:=K8o.add Uaj
def Dp (M:List Met) (s:ByteArray) (h:Int):Met×Bool:=if 0≤K3 M s h then(Jfh M s h,true) else(Jdt,false)
def Kwj:Con:={args:=[Zc,aS,aI],ress:=[(true,X9),Bo],owns:=[],pre:=fun(r,_)=>[Jo r],spec:=fun((_,_,_,_,M,_),s,h,_)=>((Dp M s h).1,(Dp M s h).2,())}
abbrev J9l (tk st:Int) (S:List Sta) (O:List Ord) (M:List Met) (X:List Out) (Q:List Per) (s:ByteArray) (h:Int):Ann:={X:=Nat,σ:=fun k=>⟨7,[(1, .one (.str s)),(2, .one (.int .i64 h)),(3, .one (.ptr 5 0)),(6, .one (.ptr 6 0)),(8, .one (.int .i64 k))],[(0, .imm 114 X5 S),(1, .imm 119 Ym O),(2, .imm 121 X9 M),(3, .imm 123 Yh X),(4, .imm 125 Y8 Q),(5, .box 37 [.int .i64 tk, .int .i64 st, .sl 0, .sl 1, .sl 2, .sl 3, .sl 4]),(6, .box 121 [.str Jb, .int .i64 0, .int .i64 0, .int .i64 0])]⟩,inv:=fun k=>k≤M.length∧K3 M s h=K0 (fun x=>bif x.1.toList==s.toList then x.2.1==h else false) (M.drop k) k,mu:=fun k=>M.length-k}
def Koh (a:Nat) (b:List Met) (c:Bt) (d:Int):=a≤List.length b∧K3 b c d=K0 (fun(x:Met)=>bif Lb x.1 c then x.2.1==d else false) (List.drop a b) a
theorem Kvk:Ok Tryz.prog 102 Kwj:=okW K8n Tryz.f102 (fun xx=>Zg (J9l xx.1.1 xx.1.2.1 xx.1.2.2.1 xx.1.2.2.2.1 xx.1.2.2.2.2.1 xx.1.2.2.2.2.2.1 xx.1.2.2.2.2.2.2 xx.2.1 xx.2.2.1)) fun xx=>by
 obtain⟨⟨(tk:Int),(st:Int),(S:List Sta),(O:List Ord),(M:List Met),(X:List Out),(Q:List Per)⟩,(s:ByteArray),(h:Int),_⟩:=xx
 refine(by kernel_rfl:(J0 tk st S O M X Q→∃(x:Nat),Sf s (Si h (0=Nc x∧Sf S (Sf O (Sf M (Sf X (Sf Q (Si tk (Si st (B0=Jb∧Si 0 Z23)))))))))∧Koh x M s h∧∀(x:Nat),Koh x M s h→Br (decide (Nc x<Ln M)) (Tw (Bd (Nc x) (Ln M))∧Br (bif Lb (J6d M x) s then J6b M x==h else false) (Kd0 M x=(Dp M s h).1∧true=(Dp M s h).2) (Z21 x∧∃(y:Nat),Sf s (Si h (V4 x y∧Sf S (Sf O (Sf M (Sf X (Sf Q (Si tk (Si st (Sf Jb (Si 0 Z23))))))))))∧Koh y M s h∧J6l M y x)) (Jr4=(Dp M s h).1∧false=(Dp M s h).2))=_).mp ?_
 delta Z21 Z23 Z67 Z75 V4 Jr4 J0 J6l Kaq J6d J6b J36 Koh Kd0 Br Iw Bd Tw Sf Si Ln Nc B0 Lb E2
 intro hr
 have nM:M.length≤10000:=hr.nM
 refine⟨(0:Nat),by(repeat' first|exact rfl|exact⟨⟩|apply And.intro|omega|dsimp only;omega),⟨Nat.zero_le _,rfl⟩,fun(k:Nat) hk=>⟨fun h1=> ?_,fun h1=> ?_⟩⟩
 ·have hlt:k<M.length:=by simpa using h1
  obtain⟨k1,k2⟩:=hk
  have hd:=Yo (p:=fun x=>bif x.1.toList==s.toList then x.2.1==h else false) (d:=Jdt) hlt
  have hz:((({data:={toList:=[]}}:ByteArray),(0:Int),(0:Int),(0:Int)):Met)=Jdt:=rfl
  simp only[hz,Prod.eta]
  refine⟨⟨⟨by omega,by omega⟩,by omega,by omega⟩,fun h2=> ?_,fun h2=>⟨⟨by omega,by omega⟩,(k+1:Nat),by simp,⟨by omega, ?_⟩,by omega⟩⟩
  ·have h2:(bif (M.getD k Jdt).1.toList==s.toList then(M.getD k Jdt).2.1==h else false)=true:=h2
   have e:K3 M s h=k:=by rw[k2,hd,if_pos h2]
   have e2:Dp M s h=(M.getD k Jdt,true):=by
    unfold Dp
    rw[if_pos (by omega)]
    unfold Jfh
    rw[e];rfl
   rw[e2]
   repeat' first|exact rfl|exact⟨⟩|apply And.intro|omega|dsimp only;omega
  ·have h2:(bif (M.getD k Jdt).1.toList==s.toList then(M.getD k Jdt).2.1==h else false)=false:=h2
   rw[k2,hd,if_neg (by rw[h2];simp)]
 ·have hlt:¬k<M.length:=by simpa using h1
  obtain⟨k1,k2⟩:=hk
  have:k=M.length:=by omega
  rw[this,List.drop_length,K0] at k2
  have e2:Dp M s h=(Jdt,false):=by
   unfold Dp
   rw[if_neg (by omega)]
  rw[e2]
  repeat' first|exact rfl|exact⟨⟩|apply And.intro|omega|dsimp only;omega
abbrev Uct:=K8n.add Kvk
abbrev K8m:=Uct
def J8q:Con:={args:=[Zc,aI],ress:=[(false, .list 198 J7d)],owns:=[true],pre:=fun(r,_)=>[Jo r],spec:=fun((_,_,_,O,M,_),u,_)=>(K4 M u O,())}
abbrev Jy0 (tk st:Int) (S:List Sta) (O:List Ord) (M:List Met) (X:List Out) (Q:List Per) (u:Int):Nat→Option Ann:=fun id=>if id=0 then some {X:=Nat×List Gap,σ:=fun(k,o)=>⟨7,[(1, .one (.int .i64 u)),(2, .one (.ptr 5 0)),(5, .one (.sl 6)),(6, .one (.int .i64 k))],[(0, .imm 114 X5 S),(1, .imm 119 Ym O),(2, .imm 121 X9 M),(3, .imm 123 Yh X),(4, .imm 125 Y8 Q),(5, .box 37 [.int .i64 tk, .int .i64 st, .sl 0, .sl 1, .sl 2, .sl 3, .sl 4]),(6, .own 198 J7d o)]⟩,inv:=fun(k,o)=>k≤O.length∧o.length≤48*k∧o++K4 M u (O.drop k)=K4 M u O,mu:=fun(k,_)=>O.length-k}
 else if id=2 then some {X:=Nat×List Gap×Nat,σ:=fun(k,o,j)=>⟨8,[(1, .one (.int .i64 u)),(2, .one (.ptr 5 0)),(5, .one (.sl 6)),(6, .one (.int .i64 k)),(7, .one (.ptr 7 0)),(8, .one (.int .i64 ((O.getD k Ki).2.2.2.1.1+j)))],[(0, .imm 114 X5 S),(1, .imm 119 Ym O),(2, .imm 121 X9 M),(3, .imm 123 Yh X),(4, .imm 125 Y8 Q),(5, .box 37 [.int .i64 tk, .int .i64 st, .sl 0, .sl 1, .sl 2, .sl 3, .sl 4]),(6, .own 198 J7d o),(7, .box 119 (bxO (O.getD k Ki)))]⟩,inv:=fun(k,o,j)=>k<O.length∧j≤Ut (O.getD k Ki)∧o.length≤48*k+j∧o++(Do M u (O.getD k Ki) ((O.getD k Ki).2.2.2.1.1+j) (Ut (O.getD k Ki)-j)++K4 M u (O.drop (k+1)))=K4 M u O,mu:=fun(k,_,j)=>Ut (O.getD k Ki)-j,rel:=some fun x y=>y.1=x.1}
 else none
theorem Kvq {M:List Met} {s:ByteArray} {h:Int}:(!(Dp M s h).2)=decide (K3 M s h<0):=by
 unfold Dp
 by_cases q:0≤K3 M s h
 ·rw[if_pos q,decide_eq_false (by omega)];rfl
 ·rw[if_neg q,decide_eq_true (by omega)];rfl
def Kxx (a:Nat×List (Bt×Int)×Nat) (b:List Ord) (c:List Met) (d:Int) (e:Nat×List (Bt×Int)×Nat) (f:Nat×List Gap×Nat):=(Kiz a b c d∧a.1=e.1)∧Ut (List.getD b a.1 Ki)-a.2.2<Ut (List.getD b f.1 Ki)-f.2.2
def Kdd (a:List Ord) (b:Nat×List Gap×Nat) (c:Nat×List (Bt×Int)×Nat):=Kap a b c∧Kan a b c∧Kam a b c∧Kak a b c∧Kaj a b c∧Kai a b c∧Kag a b c∧Kaf a b c
theorem Uai:Ok Tryz.prog 29 J8q:=okW K8m Tryz.f29 (fun xx=>Jy0 xx.1.1 xx.1.2.1 xx.1.2.2.1 xx.1.2.2.2.1 xx.1.2.2.2.2.1 xx.1.2.2.2.2.2.1 xx.1.2.2.2.2.2.2 xx.2.1) fun xx=>by
 obtain⟨⟨(tk:Int),(st:Int),(S:List Sta),(O:List Ord),(M:List Met),(X:List Out),(Q:List Per)⟩,(u:Int),_⟩:=xx
 refine(by kernel_rfl:(J0 tk st S O M X Q→∃(x:Nat×List (ByteArray×Int)),Si u (0=Nc x.1∧Sf S (Sf O (Sf M (Sf X (Sf Q (Si tk (Si st (List.length x.2=0))))))))∧Kj8 x O M u∧∀(x:Nat×List Gap),Kog x O M u→Br (decide (Nc x.1<Ln O)) (Tw (Bd (Nc x.1) (Ln O))∧∃(x0:Nat×List (ByteArray×Int)×Nat),Si u (Nc x.1=Nc x0.1∧Knt O x x0∧Sf S (Sf O (Sf M (Sf X (Sf Q (Si tk (Si st (x.2=x0.2.1∧Kkk O x x0∧Kkh O x x0∧Kj9 O x x0∧Kj4 O x x0∧Kj6 O x x0∧Kj5 O x x0∧Kj2 O x x0∧Kj1 O x x0))))))))∧(Kiz x0 O M u∧x0.1=x0.1)∧∀(x_1:Nat×List Gap×Nat),Kmc x_1 O M u∧x_1.1=x0.1→Br (Kpw O x_1) (J0 tk st S O M X Q∧(Key O x_1 u=true→Z71≤(Z90 O x_1).2.2)∧Br (bif bif Key O x_1 u then Kmi O x_1 else false then !(Dp M (Z2 O x_1).1 (J02 O x_1)).2 else false) (Kqk x_1∧Kes O x_1∧∃(y:Nat×List (ByteArray×Int)×Nat),Si u (Nc x_1.1=Nc y.1∧Kec O x_1 y∧Sf S (Sf O (Sf M (Sf X (Sf Q (Si tk (Si st (Kos x_1 O y∧Kdd O x_1 y))))))))∧Kxx y O M u x0 x_1) (Kes O x_1∧∃(y:Nat×List (ByteArray×Int)×Nat),Si u (Nc x_1.1=Nc y.1∧Kec O x_1 y∧Sf S (Sf O (Sf M (Sf X (Sf Q (Si tk (Si st (x_1.2.1=y.2.1∧Kdd O x_1 y))))))))∧Kxx y O M u x0 x_1)) (Iw (Nc x_1.1+1)∧∃(y:Nat×List (ByteArray×Int)),Si u (Nc x_1.1+1=Nc y.1∧Sf S (Sf O (Sf M (Sf X (Sf Q (Si tk (Si st (x_1.2.1=y.2))))))))∧Kjb y O M u x)) (x.2=K4 M u O))=_).mp ?_
 delta Z2 Z4 Z67 Z71 Z75 Z80 Z81 Z85 Z90 J0 J02 Kap Kan Kam Key Kes Jdo Kak Kaj Kai Kag Kaf Kqk Kp4 Kp0 Kpz Kpx Kpw Kpv Kpu Kpn Kpk Kec Kox Kkk Kkh Kos Kj9 Kj8 Kog Kj6 Kj5 Kj4 Kj2 Kj1 Knt Kjb Kmi Kiz Kmc Kxx Kdd Br Iw Bd Tw Sf Si Ln Nc B0 E2
 intro hr
 have nO:O.length≤32:=hr.nO
 have hz:((({data:={toList:=[]}}:ByteArray),({data:={toList:=[]}}:ByteArray),({data:={toList:=[]}}:ByteArray),((0:Int),(0:Int)),(0:Int),(0:Int),(0:Int)):Ord)=Ki:=rfl
 refine⟨((0:Nat),[]),by simp,⟨Nat.zero_le _,Nat.zero_le _,rfl⟩,fun(x:Nat×List Gap) hk=>⟨fun h1=> ?_,fun h1=> ?_⟩⟩
 ·obtain⟨k,o⟩:=x
  have hlt:k<O.length:=by simpa using h1
  obtain⟨k1,k2,k3⟩:=hk
  dsimp only at k1 k2 k3
  rw[Jn (d:=Ki) hlt,K4,Jwt] at k3
  simp only[hz,Prod.eta]
  have hO:F1 S (O.getD k Ki):=hr.ord _ (Je (d:=Ki) hlt)
  have b0:=hO.span.lo
  have b1:=hO.span.mid
  have b2:=hO.span.hi
  have b3:=hO.span.len
  have bt:=hO.trip
  have hn:Ut (O.getD k Ki)≤48∧(Ut (O.getD k Ki):Int)=(O.getD k Ki).2.2.2.1.2-(O.getD k Ki).2.2.2.1.1:=by
   unfold Ut
   constructor<;>omega
  refine⟨⟨⟨by omega,by omega⟩,by omega,by omega⟩,(k,o,(0:Nat)),by simp,⟨⟨hlt,Nat.zero_le _,by(first|omega|dsimp only;omega), ?_⟩,by simp⟩,fun(y:Nat×List Gap×Nat) hy=> ?_⟩
  ·dsimp only
   simpa[Ut] using k3
  obtain⟨k',o,j⟩:=y
  obtain⟨⟨i1,i2,i3,i4⟩,hkk⟩:=hy
  have hkk:k'=k:=hkk
  subst hkk
  dsimp only at i1 i2 i3 i4
  refine⟨fun h2=> ?_,fun h2=> ?_⟩
  ·have h2:(O.getD k' Ki).2.2.2.1.1+(j:Int)<(O.getD k' Ki).2.2.2.1.2:=of_decide_eq_true h2
   have hj:Ut (O.getD k' Ki)-j=(Ut (O.getD k' Ki)-(j+1))+1:=by omega
   rw[hj,Do] at i4
   have hc:(O.getD k' Ki).2.2.2.1.1+(j:Int)+1=(O.getD k' Ki).2.2.2.1.1+((j+1:Nat):Int):=by omega
   rw[hc] at i4
   have hcnd:(bif bif decide ((O.getD k' Ki).2.2.2.1.1+(j:Int)<u) then J2 (O.getD k' Ki) ((O.getD k' Ki).2.2.2.1.1+(j:Int)) else false then !(Dp M (O.getD k' Ki).1 ((O.getD k' Ki).2.2.2.1.1+(j:Int))).2 else false)=(J2 (O.getD k' Ki) ((O.getD k' Ki).2.2.2.1.1+(j:Int))&&(decide ((O.getD k' Ki).2.2.2.1.1+(j:Int)<u)&&decide (K3 M (O.getD k' Ki).1 ((O.getD k' Ki).2.2.2.1.1+(j:Int))<0))):=by
    rw[Kvq]
    cases decide ((O.getD k' Ki).2.2.2.1.1+(j:Int)<u)<;>cases J2 (O.getD k' Ki) ((O.getD k' Ki).2.2.2.1.1+(j:Int))<;>rfl
   refine⟨hr,fun _=>bt.1,fun h3=>⟨by(first|omega|dsimp only;omega),⟨by(first|omega|dsimp only;omega),by(first|omega|dsimp only;omega)⟩,(k',o++[((O.getD k' Ki).1,(O.getD k' Ki).2.2.2.1.1+(j:Int))],j+1),by(repeat' first|exact rfl|exact⟨⟩|apply And.intro|omega|dsimp only;omega),⟨⟨hlt,by(first|omega|dsimp only;omega),by(simp only[List.length_append,List.length_singleton];omega), ?_⟩,by simp⟩,by(first|omega|dsimp only;omega)⟩,fun h3=>⟨⟨by(first|omega|dsimp only;omega),by(first|omega|dsimp only;omega)⟩,(k',o,j+1),by(repeat' first|exact rfl|exact⟨⟩|apply And.intro|omega|dsimp only;omega),⟨⟨hlt,by(first|omega|dsimp only;omega),by(first|omega|dsimp only;omega), ?_⟩,by simp⟩,by(first|omega|dsimp only;omega)⟩⟩
   all_goals (have h3:(bif bif decide ((O.getD k' Ki).2.2.2.1.1+(j:Int)<u) then J2 (O.getD k' Ki) ((O.getD k' Ki).2.2.2.1.1+(j:Int)) else false then !(Dp M (O.getD k' Ki).1 ((O.getD k' Ki).2.2.2.1.1+(j:Int))).2 else false)=_:=h3;rw[hcnd] at h3;rw[h3] at i4;simpa using i4)
  ·have h2:¬(O.getD k' Ki).2.2.2.1.1+(j:Int)<(O.getD k' Ki).2.2.2.1.2:=of_decide_eq_false h2
   have hj:Ut (O.getD k' Ki)-j=0:=by omega
   rw[hj,Do] at i4
   exact⟨⟨by(first|omega|dsimp only;omega),by(first|omega|dsimp only;omega)⟩,(k'+1,o),by simp,⟨by(first|omega|dsimp only;omega),by(first|omega|dsimp only;omega),by simpa using i4⟩,by(first|omega|dsimp only;omega)⟩
 ·obtain⟨k,o⟩:=x
  have hlt:¬k<O.length:=by simpa using h1
  obtain⟨k1,k2,k3⟩:=hk
  dsimp only at k1 k2 k3
  have:k=O.length:=by omega
  rw[this,List.drop_length,K4,List.append_nil] at k3
  exact k3
abbrev Ucs:=K8m.add Uai
abbrev Ucr:=Ucs
abbrev Ucq:=Ucr
abbrev Ucp:=Ucq
def Jyj:Jr8:=(Jb,0,0,0,0,0)
abbrev Uco:=Ucp
abbrev Ucn:=Uco
abbrev Ucm:=Ucn
abbrev sH3:Sch:= .prod sI (.prod sI sI)
abbrev H3:=Int×Int×Int
def Kgk (M:List Met) (h:Int) (x:Ord) (a:H3):H3:=bif J2 x h then(a.1+(Jfh M x.1 h).2.2.1,a.2.1+(Jfh M x.1 h).2.2.2,a.2.2+((Jfh M x.1 h).2.2.2*x.2.2.2.2.2.1-3*(x.2.2.2.2.1-(Jfh M x.1 h).2.2.2))) else a
def Jon (M:List Met) (h:Int):List Ord→H3→H3
 |[],a=>a
 |x::l,a=>Jon M h l (Kgk M h x a)
abbrev Ucl:=Ucm
def Ju7:List Jr8→Int×Int→Int×Int
 |[],a=>a
 |b::l,(s,g)=>Ju7 l (s+b.2.2.1,g+b.2.2.2.1)
def Kgg (st:Int) (O:List Ord) (M:List Met):(Int×Int)×Int:=if(Ju7 (O.map (Uv st M)) (0,0)).1=0 then((0,0),6) else(J5j ((Ju7 (O.map (Uv st M)) (0,0)).1-(Ju7 (O.map (Uv st M)) (0,0)).2) (Ju7 (O.map (Uv st M)) (0,0)).1,0)
abbrev K8l:=Ucl
def Jg9 (l:List Ev) (h:Int):Int:=Jf [opE l [],Kt h 0 999999999,bif decide ((Jg l).2.1≤h) then 22 else 0]
def Jmf (l:List Ev) (h:Int):H3:=if Jg9 l h=0 then Jon (Jg l).2.2.2.2.1 h (Jg l).2.2.2.1 (0,0,0) else(0,0,0)
def J8u:Con:={args:=[.val false (.list 67 sEv),aI],ress:=[(true,sH3),I],owns:=[],pre:=fun(l,_)=>[lOk l],spec:=fun(l,h,_)=>(Jmf l h,Jg9 l h,())}
abbrev imR (r:Reg) (i:Nat):List (Nat×Res):=[(i, .imm 127 X5 r.2.2.1),(i+1, .imm 130 Ym r.2.2.2.1),(i+2, .imm 155 X9 r.2.2.2.2.1),(i+3, .imm 188 Yh r.2.2.2.2.2.1),(i+4, .imm 235 Y8 r.2.2.2.2.2.2)]
abbrev bxR (r:Reg) (i:Nat):Res:= .box 105 [.int .i64 r.1, .int .i64 r.2.1, .sl i, .sl (i+1), .sl (i+2), .sl (i+3), .sl (i+4)]
abbrev J9n (l:List Ev) (h:Int):Ann:={X:=Nat×H3,σ:=fun(k,a,b,c)=>⟨9,[(1, .one (.int .i64 h)),(4, .one (.ptr 1 0)),(6, .one (.ptr 7 0)),(9, .one (.ptr 8 0)),(33, .one (.sl 3)),(34, .one (.int .i64 (Jg l).2.2.2.1.length)),(35, .one (.int .i64 k))],(1, .box 25 [.int .i64 0, .int .i64 0, .int .i64 0])::(7,bxR (Jg l) 2)::(8, .box 25 [.int .i64 a, .int .i64 b, .int .i64 c])::imR (Jg l) 2⟩,inv:=fun(k,a,b,c)=>Jg9 l h=0∧k≤(Jg l).2.2.2.1.length∧(0≤a∧a≤1000*k)∧(0≤b∧b≤1000*k)∧(-2000000*k≤c∧c≤2000000*k)∧Jon (Jg l).2.2.2.2.1 h ((Jg l).2.2.2.1.drop k) (a,b,c)=Jmf l h,mu:=fun(k,_)=>(Jg l).2.2.2.1.length-k}
theorem J8c {a b c:Int} (h:Jf [a,b,c]=0):a=0∧b=0∧c=0:=by
 have h:=Kw.1 h
 exact⟨h a (by simp),h b (by simp),h c (by simp)⟩
def Z28 (a:List Ev):=Ln (Jg a).2.2.2.1
def Z74 (a:List Ev):=(Jg a).2.1=(Jg a).2.1
def Jg0 (a:List Ev):=(Jg a).2.2.1=(Jg a).2.2.1
def Jgz (a:List Ev):=(Jg a).2.2.2.1=(Jg a).2.2.2.1
def Jgx (a:List Ev):=(Jg a).2.2.2.2.1=(Jg a).2.2.2.2.1
def Jgw (a:List Ev):=(Jg a).2.2.2.2.2.2=(Jg a).2.2.2.2.2.2
def Jgv (a:List Ev):=(Jg a).2.2.2.2.2.1=(Jg a).2.2.2.2.2.1
def K4s (a:List Ev) (b:Nat×H3):=List.getD (Jg a).2.2.2.1 b.1 Jdo
def K4p (a:List Ev) (b:Nat×H3):=(K4s a b).1
def K4k (a:List Ev) (b:Nat×H3):=(K4s a b).2
def K4h (a:List Ev) (b:Nat×H3):=(K4k a b).2
def K4e (a:List Ev) (b:Nat×H3):=(K4h a b).2
def K4c (a:List Ev) (b:Nat×H3):=(K4e a b).2
def K38 (a:List Ev) (b:Nat×H3):=(K4c a b).1
def K36 (a:List Ev) (b:Nat×H3):=(K4c a b).2
def K1w (a:List Ev) (b:Nat×H3) (c:Int):=K3 (Jg a).2.2.2.2.1 (K4p a b) c
def K1r (a:List Ev) (b:Int):=Jf [opE a [],Z78 b,bif decide ((Jg a).2.1≤b) then 22 else 0]
def Kzv (a:List Ev) (b:Nat×H3) (c:Int):=(Gt (Jg a).2.2.2.2.1 (K1w a b c) Jr4).2.2
def Kmy (a:List Ev) (b:Nat×H3) (c:Int):=(Kzv a b c).2
def Kzq (a:Nat×H3) (b:List Ev) (c:Int):=a.2.1+(Kzv b a c).1
def Kzm (a:Nat×H3) (b:List Ev) (c:Int):=a.2.2.1+Kmy b a c
def Kms (a:List Ev):=Jg0 a∧Jgz a∧Jgx a∧Jgv a∧Jgw a
def Kyv (a:List Ev) (b:Nat×H3) (c:Int):=K38 a b-Kmy a b c
def Kyu (a:List Ev) (b:Nat×H3) (c:Int):=Kmy a b c*(K36 a b).1
def Kyp (a:List Ev) (b:Nat×H3) (c:Int):=3*Kyv a b c
def Kyj (a:List Ev) (b:Int) (c:Nat) (d e f:Int):=Jg9 a b=0∧c≤List.length (Jg a).2.2.2.1∧Kfe d c∧Kfe e c∧((-2000000)*Nc c≤f∧f≤2000000*Nc c)∧Jon (Jg a).2.2.2.2.1 b (List.drop c (Jg a).2.2.2.1) (d,e,f)=Jmf a b
def Kx3 (a:Nat×Int×Int×Int) (b:List Ev) (c:Int):=match a with|(k,a,b_1,c_1)=>Kyj b c k a b_1 c_1
def Kxr (a:Nat×Int×Int×Int) (b:List Ev) (c:Int) (d:Nat×H3):=Kx3 a b c∧List.length (Jg b).2.2.2.1-a.1<List.length (Jg b).2.2.2.1-d.1
def Kc5 (a:List Ev) (b:Nat×H3) (c:Int):=Kyu a b c-Kyp a b c
def Kc4 (a:Nat×H3) (b:List Ev) (c:Int):=a.2.2.2+Kc5 b a c
theorem Uar:Ok Tryz.prog 15 J8u:=okW K8l Tryz.f15 (fun xx=>Zg (J9n xx.1 xx.2.1)) fun xx=>by
 obtain⟨(l:List Ev),(h:Int),_⟩:=xx
 refine(by kernel_rfl:(lOk l→(lOk l∧0≤1000000)∧3≤1000000∧Br (K1r l h !=0) (Z75=Jmf l h∧K1r l h=Jg9 l h) (∃(x:Nat×Int×Int×Int),Si h (Z28 l=Z28 l∧0=Nc x.1∧Si 0 (Si 0 (Si 0 ((Jg l).1=(Jg l).1∧Z74 l∧0=x.2.1∧0=x.2.2.1∧0=x.2.2.2∧Kms l))))∧Kx3 x l h∧∀(x:Nat×H3),(match x with|(k,a,b,c)=>Kyj l h k a b c)→Br (decide (Nc x.1<Z28 l)) (Tw (Bd (Nc x.1) (Z28 l))∧Br (J2 (K4p l x,(K4k l x).1,(K4h l x).1,E2 (K4e l x).1,K38 l x,E2 (K36 l x)) h) ((J54 l∧Tw (Bd (K1w l x h) (Ln (Jg l).2.2.2.2.1)))∧Iw (Kzq x l h)∧Iw (Kzm x l h)∧(Iw (Kyu l x h)∧Iw (Kyv l x h)∧Iw (Kyp l x h)∧Iw (Kc5 l x h)∧Iw (Kc4 x l h))∧Iw (Nc x.1+1)∧∃(y:Nat×Int×Int×Int),Si h (Si (Z28 l) (Nc x.1+1=Nc y.1∧Si 0 (Si 0 (Si 0 (Si (Jg l).1 (Si (Jg l).2.1 (Kzq x l h=y.2.1∧Kzm x l h=y.2.2.1∧Kc4 x l h=y.2.2.2∧Kms l)))))))∧Kxr y l h x) (Iw (Nc x.1+1)∧∃(y:Nat×Int×Int×Int),Si h (Si (Z28 l) (Nc x.1+1=Nc y.1∧Si 0 (Si 0 (Si 0 (Si (Jg l).1 (Si (Jg l).2.1 (x.2.1=y.2.1∧x.2.2.1=y.2.2.1∧x.2.2.2=y.2.2.2∧Kms l)))))))∧Kxr y l h x)) ((x.2.1,E2 x.2.2)=Jmf l h∧0=Jg9 l h)))=_).mp ?_
 delta Z28 Z74 Z75 Z78 Jg0 Jr4 Jgz Jgx Jgw Jgv Kfe Jdo K4s K4p K4k K4h K4e K4c K38 K36 Jza K1w K1r J54 Kzv Kmy Kzq Kzm Kms Kyv Kyu Kyp Kyj Kx3 Kxr Kc5 Kc4 Br Iw Bd Tw Si Ln Nc Gt B0 E2
 intro hl
 refine⟨⟨hl,by decide⟩,by decide,fun e=> ?_,fun e=> ?_⟩
 ·have e:Jg9 l h≠0:=bne_iff_ne.1 e
  exact⟨by unfold Jmf;rw[if_neg e],rfl⟩
 ·have e0:Jg9 l h=0:=bne_eq_false_iff_eq.1 e
  clear e
  have hr:=D0 (l:=l)
  have nO:=hr.nO
  have hst:h<(Jg l).2.1:=by
   have:=(J8c e0).2.2
   by_cases q:(Jg l).2.1≤h
   ·rw[decide_eq_true q] at this;cases this
   ·omega
  refine⟨((0:Nat),0,0,0),by simp,⟨e0,Nat.zero_le _,by omega,by omega,by omega,by unfold Jmf;rw[if_pos e0];rfl⟩,fun(x:Nat×H3) hk=>⟨fun h1=> ?_,fun h1=> ?_⟩⟩
  ·obtain⟨k,a,b,c⟩:=x
   have hlt:k<(Jg l).2.2.2.1.length:=by simpa using h1
   obtain⟨_,k1,k2,k3,k4,k5⟩:=hk
   generalize Jg l=r at*
   obtain⟨tk,st,S,O,M,X,Q⟩:=r
   have hlt:k<O.length:=hlt
   have hst:h<st:=hst
   have nO:O.length≤32:=nO
   have hx:=Je (d:=Ki) hlt
   have k5:Jon M h (O.drop k) (a,b,c)=Jmf l h:=k5
   rw[Jn (d:=Ki) hlt,Jon] at k5
   have hz:((({data:={toList:=[]}}:ByteArray),({data:={toList:=[]}}:ByteArray),({data:={toList:=[]}}:ByteArray),((0:Int),(0:Int)),(0:Int),(0:Int),(0:Int)):Ord)=Ki:=rfl
   have hzm:((({data:={toList:=[]}}:ByteArray),(0:Int),(0:Int),(0:Int)):Met)=Jdt:=rfl
   simp only[hz,hzm,Prod.eta]
   have hO:F1 S (O.getD k Ki):=hr.ord _ hx
   have hd:∀h,J2 (O.getD k Ki) h=true→h<st→0≤K3 M (O.getD k Ki).1 h:=hr.done _ hx
   generalize O.getD k Ki=y at*
   unfold Kgk at k5
   have bp:=hO.pow
   have bc:=hO.pri
   have em:M.getD (K3 M y.1 h).toNat Jdt=Jfh M y.1 h:=rfl
   simp only[em]
   refine⟨by omega,fun hq=> ?_,fun hq=> ?_⟩
   ·rw[hq,cond_true] at k5
    have hm:=hd _ hq hst
    have hl:=Jfg (l:=M) (s:=y.1) (h:=h)
    have hM:J0f (Jfh M y.1 h):=hr.met _ (Je (show _<M.length by omega))
    have m1:=hM.sent
    have m2:=hM.got
    have q1:0≤(Jfh M y.1 h).2.2.2*y.2.2.2.2.2.1:=Int.mul_nonneg m2.1 bc.1
    have q2:(Jfh M y.1 h).2.2.2*y.2.2.2.2.2.1≤1000*1000:=Int.mul_le_mul (by omega) bc.2 bc.1 (by decide)
    exact⟨⟨hr,by omega,by omega⟩,by omega,by omega,by omega,by omega,(k+1,a+(Jfh M y.1 h).2.2.1,b+(Jfh M y.1 h).2.2.2,c+((Jfh M y.1 h).2.2.2*y.2.2.2.2.2.1-3*(y.2.2.2.2.1-(Jfh M y.1 h).2.2.2))),by simp,⟨e0,by(first|omega|dsimp only;omega),by(first|omega|dsimp only;omega),by(first|omega|dsimp only;omega),by(first|omega|dsimp only;omega),k5⟩,by(first|omega|dsimp only;omega)⟩
   ·rw[hq,cond_false] at k5
    exact⟨by omega,(k+1,a,b,c),by simp,⟨e0,by(first|omega|dsimp only;omega),by(first|omega|dsimp only;omega),by(first|omega|dsimp only;omega),by(first|omega|dsimp only;omega),k5⟩,by(first|omega|dsimp only;omega)⟩
  ·obtain⟨k,a,b,c⟩:=x
   have hlt:¬k<(Jg l).2.2.2.1.length:=by simpa using h1
   obtain⟨_,k1,k2,k3,k4,k5⟩:=hk
   have:k=(Jg l).2.2.2.1.length:=by omega
   rw[this,List.drop_length,Jon] at k5
   exact⟨k5,e0.symm⟩
abbrev K8k:=K8l.add Uar
def cAb (pre:Reg→Ev→List Prop) (f:Reg→Ev→ByteArray→Bool):Con:={args:=[Jb6,aEv,aS],ress:=[Bo],owns:=[],pre:=fun(r,e,_)=>pre r e,spec:=fun(r,e,s,_)=>(f r e s,())}
def Kib:Con:=cAb (fun _ _=>[]) (fun _ _ _=>true)
theorem Kul:Ok Tryz.prog 150 Kib:=okW K8k Tryz.f150 na fun xx=>by
 obtain⟨⟨(tk:Int),(st:Int),(S:List Sta),(O:List Ord),(M:List Met),(X:List Out),(Q:List Per)⟩,⟨(n:Int),(k:ByteArray),(ns:List ByteArray),(vs:List Int),(tx:ByteArray)⟩,(s:ByteArray),_⟩:=xx
 refine(by kernel_rfl:(true=true)=_).mp ?_
 rfl
abbrev K8j:=K8k.add Kul
def abO (O:List Ord) (ns:List ByteArray) (s:ByteArray):Bool:=Ur (Vy O (ns.getD 0 Jb)) s
def Ubm:Con:={args:=[Jb6,aEv,aS],ress:=[Bo],owns:=[],pre:=fun(r,e,_)=>[Jo r,1≤e.2.2.1.length,0≤Kg r.2.2.2.1 (e.2.2.1.getD 0 Jb)],spec:=fun((tk,st,S,O,M,X,Q),(n,k,ns,vs,tx),s,_)=>(abO O ns s,())}
theorem Kuf:Ok Tryz.prog 156 Ubm:=okW K8j Tryz.f156 na fun xx=>by
 obtain⟨⟨(tk:Int),(st:Int),(S:List Sta),(O:List Ord),(M:List Met),(X:List Out),(Q:List Per)⟩,⟨(n:Int),(k:ByteArray),(ns:List ByteArray),(vs:List Int),(tx:ByteArray)⟩,(s:ByteArray),_⟩:=xx
 refine(by kernel_rfl:(J0 tk st S O M X Q→Xo ns→Jul O ns→Koq ns O∧Ur (Kmf O ns) s=abO O ns s)=_).mp ?_
 delta Z50 Z67 U8 Yj Dh Xo J0 Kaw Jrz Kfd Kar Kfa Jul Koq Kmf Bd T2 Ln B0 E2
 intro hr h1 h2
 have nO:O.length≤32:=hr.nO
 repeat' first|assumption|exact rfl|trivial|omega|exact Uh|exact Uy|exact Up|exact Ux|apply And.intro|intro _
abbrev K8i:=K8j.add Kuf
def abX (X:List Out) (ns:List ByteArray) (s:ByteArray):Bool:=(Y0 X (ns.getD 0 Jb)).2.1.toList==s.toList
def Ubk:Con:={args:=[Jb6,aEv,aS],ress:=[Bo],owns:=[],pre:=fun(r,e,_)=>[Jo r,1≤e.2.2.1.length,0≤Jw r.2.2.2.2.2.1 (e.2.2.1.getD 0 Jb)],spec:=fun((tk,st,S,O,M,X,Q),(n,k,ns,vs,tx),s,_)=>(abX X ns s,())}
theorem Kt8:Ok Tryz.prog 163 Ubk:=okW K8i Tryz.f163 na fun xx=>by
 obtain⟨⟨(tk:Int),(st:Int),(S:List Sta),(O:List Ord),(M:List Met),(X:List Out),(Q:List Per)⟩,⟨(n:Int),(k:ByteArray),(ns:List ByteArray),(vs:List Int),(tx:ByteArray)⟩,(s:ByteArray),_⟩:=xx
 refine(by kernel_rfl:(J0 tk st S O M X Q→Xo ns→J34 X ns→Kor ns X∧Lb (Kfk X ns).2.1 s=abX X ns s)=_).mp ?_
 delta Z48 Z67 U8 Yj Dh Xo J0 Kfk Juo J34 Kor Bd T2 Ln B0 Lb
 intro hr h1 h2
 have nX:X.length≤16:=hr.nX
 repeat' first|assumption|exact rfl|trivial|omega|exact Uh|exact Uy|exact Up|exact Ux|apply And.intro|intro _
abbrev K8h:=K8i.add Kt8
def abP (X:List Out) (Q:List Per) (ns:List ByteArray) (s:ByteArray):Bool:=(Y0 X (Jbd Q (ns.getD 0 Jb)).2.1).2.1.toList==s.toList
def Ubl:Con:={args:=[Jb6,aEv,aS],ress:=[Bo],owns:=[],pre:=fun(r,e,_)=>[Jo r,1≤e.2.2.1.length,0≤Uj r.2.2.2.2.2.2 (e.2.2.1.getD 0 Jb)],spec:=fun((tk,st,S,O,M,X,Q),(n,k,ns,vs,tx),s,_)=>(abP X Q ns s,())}
theorem Jjl {Q:List Per} {s:ByteArray} (h:0≤Uj Q s):Jbd Q s∈Q:=by
 have:=Ux (l:=Q) (s:=s)
 exact Je (by omega)
theorem Kt3:Ok Tryz.prog 168 Ubl:=okW K8h Tryz.f168 na fun xx=>by
 obtain⟨⟨(tk:Int),(st:Int),(S:List Sta),(O:List Ord),(M:List Met),(X:List Out),(Q:List Per)⟩,⟨(n:Int),(k:ByteArray),(ns:List ByteArray),(vs:List Int),(tx:ByteArray)⟩,(s:ByteArray),_⟩:=xx
 refine(by kernel_rfl:(J0 tk st S O M X Q→Xo ns→J35 Q ns→T2 (Yj ns) (Z47 Q∧0≤Jtz Q ns∧Z48 X∧0≤Jw X (Jbd Q (U8 ns)).2.1)∧Lb (Y0 X (Jbd Q (U8 ns)).2.1).2.1 s=abP X Q ns s)=_).mp ?_
 delta Z47 Z48 Z67 U8 Yj Dh Xo J0 Jtz J35 Bd T2 Ln B0 Lb
 intro hr h1 h2
 have nX:X.length≤16:=hr.nX
 have nQ:Q.length≤16:=hr.nQ
 have h3:0≤Jw X (Jbd Q (ns.getD 0 Jb)).2.1:=hr.per _ (Jjl h2)
 repeat' first|assumption|exact rfl|trivial|omega|exact Uh|exact Uy|exact Up|exact Ux|apply And.intro|intro _
abbrev Jr6:=K8h.add Kt3
def abS (r:Reg) (e:Ev) (s:ByteArray):Bool:=match(Jk e.2.1).2.2.2.2 with
 |some 150=>true
 |some 156=>abO r.2.2.2.1 e.2.2.1 s
 |some 163=>abX r.2.2.2.2.2.1 e.2.2.1 s
 |some 168=>abP r.2.2.2.2.2.1 r.2.2.2.2.2.2 e.2.2.1 s
 |_=>false
structure Jd1 (r:Reg) (e:Ev):Prop where
 kind:Y2 e.2.1=true
 ord:(Jk e.2.1).2.2.2.2=some 156→1≤e.2.2.1.length∧0≤Kg r.2.2.2.1 (e.2.2.1.getD 0 Jb)
 out:(Jk e.2.1).2.2.2.2=some 163→1≤e.2.2.1.length∧0≤Jw r.2.2.2.2.2.1 (e.2.2.1.getD 0 Jb)
 per:(Jk e.2.1).2.2.2.2=some 168→1≤e.2.2.1.length∧0≤Uj r.2.2.2.2.2.2 (e.2.2.1.getD 0 Jb)
def Xy:Con:={args:=[aEv, .ref 105 Jkx, .ref 9 .str],ress:=[Bo],owns:=[],pre:=fun(e,r,_)=>[Jo r,Jd1 r e],spec:=fun(e,r,s,_)=>(abS r e s,())}
def Z41:=false=true→False
theorem Juw (n:Int) (ns:List ByteArray) (vs:List Int) (tx:ByteArray) (tk st:Int) (S:List Sta) (O:List Ord) (M:List Met) (X:List Out) (Q:List Per) (s:ByteArray):wpF Tryz.prog Jr6.g (na ()) Tryz.f79 Xy ((n,Jl,ns,vs,tx),(tk,st,S,O,M,X,Q),s,()):=by
 refine(by kernel_rfl:(J0 tk st S O M X Q→Jd1 (Z67 tk st S O M X Q) (Z6 n ns vs tx)→Z41∧false=abS (Z67 tk st S O M X Q) (Z6 n ns vs tx) s)=_).mp ?_
 delta Z6 Z41 Z67 J0 Jl
 intro hr ha
 have e:abS (tk,st,S,O,M,X,Q) (n,Jl,ns,vs,tx) s=false:=by unfold abS;rw[show(Jk Jl).2.2.2.2=_ from congrArg (fun x=>x.2.2.2.2) D3];all_goals rfl
 rw[e]
 repeat' first|exact hr|exact h.1|exact h.2|exact rfl|apply And.intro|intro _
 all_goals first|trivial|assumption|contradiction
theorem Jk0 (n:Int) (ns:List ByteArray) (vs:List Int) (tx:ByteArray) (tk st:Int) (S:List Sta) (O:List Ord) (M:List Met) (X:List Out) (Q:List Per) (s:ByteArray):wpF Tryz.prog Jr6.g (na ()) Tryz.f79 Xy ((n,Jv,ns,vs,tx),(tk,st,S,O,M,X,Q),s,()):=by
 refine(by kernel_rfl:(J0 tk st S O M X Q→Jd1 (Z67 tk st S O M X Q) (Z29 n ns vs tx)→true=abS (Z67 tk st S O M X Q) (Z29 n ns vs tx) s)=_).mp ?_
 delta Z29 Z67 J0 Jv
 intro hr ha
 have e:abS (tk,st,S,O,M,X,Q) (n,Jv,ns,vs,tx) s=true:=by unfold abS;rw[show(Jk Jv).2.2.2.2=_ from congrArg (fun x=>x.2.2.2.2) Kc];all_goals rfl
 rw[e]
 repeat' first|exact hr|exact h.1|exact h.2|exact rfl|apply And.intro|intro _
 all_goals first|trivial|assumption|contradiction
theorem Jr9 (n:Int) (ns:List ByteArray) (vs:List Int) (tx:ByteArray) (tk st:Int) (S:List Sta) (O:List Ord) (M:List Met) (X:List Out) (Q:List Per) (s:ByteArray):wpF Tryz.prog Jr6.g (na ()) Tryz.f79 Xy ((n,Uc,ns,vs,tx),(tk,st,S,O,M,X,Q),s,()):=by
 refine(by kernel_rfl:(J0 tk st S O M X Q→Jd1 (Z67 tk st S O M X Q) (Z12 n ns vs tx)→true=abS (Z67 tk st S O M X Q) (Z12 n ns vs tx) s)=_).mp ?_
 delta Z12 Z67 J0 Uc
 intro hr ha
 have e:abS (tk,st,S,O,M,X,Q) (n,Uc,ns,vs,tx) s=true:=by unfold abS;rw[show(Jk Uc).2.2.2.2=_ from congrArg (fun x=>x.2.2.2.2) K8];all_goals rfl
 rw[e]
 repeat' first|exact hr|exact h.1|exact h.2|exact rfl|apply And.intro|intro _
 all_goals first|trivial|assumption|contradiction
def J0y (a:Ls):=true=true→Xo a
def Kdx (a b:Int) (c:List Sta) (d:List Ord) (e:List Met) (f:List Out) (g:List Per) (h:Ls):=(true=true→J0 a b c d e f g)∧J0y h∧(true=true→Jul d h)
theorem Jsa (n:Int) (ns:List ByteArray) (vs:List Int) (tx:ByteArray) (tk st:Int) (S:List Sta) (O:List Ord) (M:List Met) (X:List Out) (Q:List Per) (s:ByteArray):wpF Tryz.prog Jr6.g (na ()) Tryz.f79 Xy ((n,Kf,ns,vs,tx),(tk,st,S,O,M,X,Q),s,()):=by
 refine(by kernel_rfl:(J0 tk st S O M X Q→Jd1 (Z67 tk st S O M X Q) (Z13 n ns vs tx)→Kdx tk st S O M X Q ns∧(bif true then abO O ns s else false)=abS (Z67 tk st S O M X Q) (Z13 n ns vs tx) s)=_).mp ?_
 delta Z13 Z67 Dh Xo J0 J0y Jul Kdx Kf
 intro hr ha
 have e:abS (tk,st,S,O,M,X,Q) (n,Kf,ns,vs,tx) s=abO O ns s:=by unfold abS;rw[show(Jk Kf).2.2.2.2=_ from congrArg (fun x=>x.2.2.2.2) Kp];all_goals rfl
 have h:=ha.ord (congrArg (fun x=>x.2.2.2.2) Kp)
 rw[e]
 repeat' first|exact hr|exact h.1|exact h.2|exact rfl|apply And.intro|intro _
 all_goals first|trivial|assumption|contradiction
theorem Jsb (n:Int) (ns:List ByteArray) (vs:List Int) (tx:ByteArray) (tk st:Int) (S:List Sta) (O:List Ord) (M:List Met) (X:List Out) (Q:List Per) (s:ByteArray):wpF Tryz.prog Jr6.g (na ()) Tryz.f79 Xy ((n,K2,ns,vs,tx),(tk,st,S,O,M,X,Q),s,()):=by
 refine(by kernel_rfl:(J0 tk st S O M X Q→Jd1 (Z67 tk st S O M X Q) (Z10 n ns vs tx)→Kdx tk st S O M X Q ns∧(bif true then abO O ns s else false)=abS (Z67 tk st S O M X Q) (Z10 n ns vs tx) s)=_).mp ?_
 delta Z10 Z67 Dh Xo J0 J0y Jul Kdx K2
 intro hr ha
 have e:abS (tk,st,S,O,M,X,Q) (n,K2,ns,vs,tx) s=abO O ns s:=by unfold abS;rw[show(Jk K2).2.2.2.2=_ from congrArg (fun x=>x.2.2.2.2) Kq];all_goals rfl
 have h:=ha.ord (congrArg (fun x=>x.2.2.2.2) Kq)
 rw[e]
 repeat' first|exact hr|exact h.1|exact h.2|exact rfl|apply And.intro|intro _
 all_goals first|trivial|assumption|contradiction
theorem Jux (n:Int) (ns:List ByteArray) (vs:List Int) (tx:ByteArray) (tk st:Int) (S:List Sta) (O:List Ord) (M:List Met) (X:List Out) (Q:List Per) (s:ByteArray):wpF Tryz.prog Jr6.g (na ()) Tryz.f79 Xy ((n,Vj,ns,vs,tx),(tk,st,S,O,M,X,Q),s,()):=by
 refine(by kernel_rfl:(J0 tk st S O M X Q→Jd1 (Z67 tk st S O M X Q) (Z1 n ns vs tx)→Kdx tk st S O M X Q ns∧(bif true then abO O ns s else false)=abS (Z67 tk st S O M X Q) (Z1 n ns vs tx) s)=_).mp ?_
 delta Z1 Z67 Dh Xo J0 J0y Jul Kdx Vj
 intro hr ha
 have e:abS (tk,st,S,O,M,X,Q) (n,Vj,ns,vs,tx) s=abO O ns s:=by unfold abS;rw[show(Jk Vj).2.2.2.2=_ from congrArg (fun x=>x.2.2.2.2) Uf];all_goals rfl
 have h:=ha.ord (congrArg (fun x=>x.2.2.2.2) Uf)
 rw[e]
 repeat' first|exact hr|exact h.1|exact h.2|exact rfl|apply And.intro|intro _
 all_goals first|trivial|assumption|contradiction
def Km0 (a b:Int) (c:List Sta) (d:List Ord) (e:List Met) (f:List Out) (g:List Per) (h:Ls):=(true=true→J0 a b c d e f g)∧J0y h∧(true=true→J34 f h)
theorem Jnh (n:Int) (ns:List ByteArray) (vs:List Int) (tx:ByteArray) (tk st:Int) (S:List Sta) (O:List Ord) (M:List Met) (X:List Out) (Q:List Per) (s:ByteArray):wpF Tryz.prog Jr6.g (na ()) Tryz.f79 Xy ((n,Jp,ns,vs,tx),(tk,st,S,O,M,X,Q),s,()):=by
 refine(by kernel_rfl:(J0 tk st S O M X Q→Jd1 (Z67 tk st S O M X Q) (Z20 n ns vs tx)→Km0 tk st S O M X Q ns∧(bif true then abX X ns s else false)=abS (Z67 tk st S O M X Q) (Z20 n ns vs tx) s)=_).mp ?_
 delta Z20 Z67 Dh Xo J0 J0y J34 Km0 Jp
 intro hr ha
 have e:abS (tk,st,S,O,M,X,Q) (n,Jp,ns,vs,tx) s=abX X ns s:=by unfold abS;rw[show(Jk Jp).2.2.2.2=_ from congrArg (fun x=>x.2.2.2.2) Jy];all_goals rfl
 have h:=ha.out (congrArg (fun x=>x.2.2.2.2) Jy)
 rw[e]
 repeat' first|exact hr|exact h.1|exact h.2|exact rfl|apply And.intro|intro _
 all_goals first|trivial|assumption|contradiction
theorem Jk1 (n:Int) (ns:List ByteArray) (vs:List Int) (tx:ByteArray) (tk st:Int) (S:List Sta) (O:List Ord) (M:List Met) (X:List Out) (Q:List Per) (s:ByteArray):wpF Tryz.prog Jr6.g (na ()) Tryz.f79 Xy ((n,Jr,ns,vs,tx),(tk,st,S,O,M,X,Q),s,()):=by
 refine(by kernel_rfl:(J0 tk st S O M X Q→Jd1 (Z67 tk st S O M X Q) (Z30 n ns vs tx)→Km0 tk st S O M X Q ns∧(bif true then abX X ns s else false)=abS (Z67 tk st S O M X Q) (Z30 n ns vs tx) s)=_).mp ?_
 delta Z30 Z67 Dh Xo J0 J0y J34 Km0 Jr
 intro hr ha
 have e:abS (tk,st,S,O,M,X,Q) (n,Jr,ns,vs,tx) s=abX X ns s:=by unfold abS;rw[show(Jk Jr).2.2.2.2=_ from congrArg (fun x=>x.2.2.2.2) Js];all_goals rfl
 have h:=ha.out (congrArg (fun x=>x.2.2.2.2) Js)
 rw[e]
 repeat' first|exact hr|exact h.1|exact h.2|exact rfl|apply And.intro|intro _
 all_goals first|trivial|assumption|contradiction
def Km1 (a b:Int) (c:List Sta) (d:List Ord) (e:List Met) (f:List Out) (g:List Per) (h:Ls):=(true=true→J0 a b c d e f g)∧J0y h∧(true=true→J35 g h)
theorem Jng (n:Int) (ns:List ByteArray) (vs:List Int) (tx:ByteArray) (tk st:Int) (S:List Sta) (O:List Ord) (M:List Met) (X:List Out) (Q:List Per) (s:ByteArray):wpF Tryz.prog Jr6.g (na ()) Tryz.f79 Xy ((n,Kb,ns,vs,tx),(tk,st,S,O,M,X,Q),s,()):=by
 refine(by kernel_rfl:(J0 tk st S O M X Q→Jd1 (Z67 tk st S O M X Q) (Z17 n ns vs tx)→Km1 tk st S O M X Q ns∧(bif true then abP X Q ns s else false)=abS (Z67 tk st S O M X Q) (Z17 n ns vs tx) s)=_).mp ?_
 delta Z17 Z67 Dh Xo J0 J0y J35 Km1 Kb
 intro hr ha
 have e:abS (tk,st,S,O,M,X,Q) (n,Kb,ns,vs,tx) s=abP X Q ns s:=by unfold abS;rw[show(Jk Kb).2.2.2.2=_ from congrArg (fun x=>x.2.2.2.2) J5];all_goals rfl
 have h:=ha.per (congrArg (fun x=>x.2.2.2.2) J5)
 rw[e]
 repeat' first|exact hr|exact h.1|exact h.2|exact rfl|apply And.intro|intro _
 all_goals first|trivial|assumption|contradiction
theorem Jnf (n:Int) (ns:List ByteArray) (vs:List Int) (tx:ByteArray) (tk st:Int) (S:List Sta) (O:List Ord) (M:List Met) (X:List Out) (Q:List Per) (s:ByteArray):wpF Tryz.prog Jr6.g (na ()) Tryz.f79 Xy ((n,Ka,ns,vs,tx),(tk,st,S,O,M,X,Q),s,()):=by
 refine(by kernel_rfl:(J0 tk st S O M X Q→Jd1 (Z67 tk st S O M X Q) (Z18 n ns vs tx)→Km1 tk st S O M X Q ns∧(bif true then abP X Q ns s else false)=abS (Z67 tk st S O M X Q) (Z18 n ns vs tx) s)=_).mp ?_
 delta Z18 Z67 Dh Xo J0 J0y J35 Km1 Ka
 intro hr ha
 have e:abS (tk,st,S,O,M,X,Q) (n,Ka,ns,vs,tx) s=abP X Q ns s:=by unfold abS;rw[show(Jk Ka).2.2.2.2=_ from congrArg (fun x=>x.2.2.2.2) J4];all_goals rfl
 have h:=ha.per (congrArg (fun x=>x.2.2.2.2) J4)
 rw[e]
 repeat' first|exact hr|exact h.1|exact h.2|exact rfl|apply And.intro|intro _
 all_goals first|trivial|assumption|contradiction
theorem Jne (n:Int) (ns:List ByteArray) (vs:List Int) (tx:ByteArray) (tk st:Int) (S:List Sta) (O:List Ord) (M:List Met) (X:List Out) (Q:List Per) (s:ByteArray):wpF Tryz.prog Jr6.g (na ()) Tryz.f79 Xy ((n,Jh,ns,vs,tx),(tk,st,S,O,M,X,Q),s,()):=by
 refine(by kernel_rfl:(J0 tk st S O M X Q→Jd1 (Z67 tk st S O M X Q) (Z22 n ns vs tx)→Z41∧false=abS (Z67 tk st S O M X Q) (Z22 n ns vs tx) s)=_).mp ?_
 delta Z22 Z41 Z67 J0 Jh
 intro hr ha
 have e:abS (tk,st,S,O,M,X,Q) (n,Jh,ns,vs,tx) s=false:=by unfold abS;rw[show(Jk Jh).2.2.2.2=_ from congrArg (fun x=>x.2.2.2.2) K6];all_goals rfl
 rw[e]
 repeat' first|exact hr|exact h.1|exact h.2|exact rfl|apply And.intro|intro _
 all_goals first|trivial|assumption|contradiction
theorem J62 [Sx.Dr] {Γ:Gam} {ann:Nat→Option Ann} {fn:Func} {c:Con} {x:ATup c.args} (hb:fn.body.isSome=true) (h:Us (c.pre x)→wpF Tryz.prog Γ ann fn c x):wpF Tryz.prog Γ ann fn c x:=by
 unfold wpF at h⊢
 cases hc:fn.body with
 |none=>rw[hc] at hb;cases hb
 |some code=>
  rw[hc] at h
  exact Jbi h
theorem K85:∀x:ATup [aEv, .ref 105 Jkx, .ref 9 .str],wpF Tryz.prog Jr6.g (na ()) Tryz.f79 Xy x
 |((n,k,ns,vs,tx),(tk,st,S,O,M,X,Q),s,())=>by
  refine J62 (by kernel_rfl) fun hp=> ?_
  have ha:Jd1 (tk,st,S,O,M,X,Q) (n,k,ns,vs,tx):=hp.2
  rcases Uo ha.kind with h|h|h|h|h|h|h|h|h|h|h<;>dsimp only at h<;>subst h
  ·exact Juw n ns vs tx tk st S O M X Q s
  ·exact Jk0 n ns vs tx tk st S O M X Q s
  ·exact Jr9 n ns vs tx tk st S O M X Q s
  ·exact Jsa n ns vs tx tk st S O M X Q s
  ·exact Jsb n ns vs tx tk st S O M X Q s
  ·exact Jux n ns vs tx tk st S O M X Q s
  ·exact Jnh n ns vs tx tk st S O M X Q s
  ·exact Jk1 n ns vs tx tk st S O M X Q s
  ·exact Jng n ns vs tx tk st S O M X Q s
  ·exact Jnf n ns vs tx tk st S O M X Q s
  ·exact Jne n ns vs tx tk st S O M X Q s
theorem K9q:Ok Tryz.prog 79 Xy:=V2 mixed Jr6.ok (by kernel_rfl) (by kernel_rfl) na fun xx=>K85 xx
abbrev Uck:=Jr6.add K9q
theorem Jbk {α:Type} {p:α→Bool} {y:α} (h:p y=true):∀{l:List α} {k:Nat},0≤K0 p (l++[y]) k
 |[],k=>by
  show 0≤K0 p [y] k
  unfold K0;rw[if_pos h];omega
 |x::l,k=>by
  show 0≤K0 p (x::(l++[y])) k
  unfold K0
  split
  ·omega
  ·exact Jbk h
structure Klq (r r':Reg):Prop where
 o:∀s,0≤Kg r.2.2.2.1 s→0≤Kg r'.2.2.2.1 s
 x:∀s,0≤Jw r.2.2.2.2.2.1 s→0≤Jw r'.2.2.2.2.2.1 s
 q:∀s,0≤Uj r.2.2.2.2.2.2 s→0≤Uj r'.2.2.2.2.2.2 s
theorem Jmm {O:List Ord} {y:Ord} {s:ByteArray} (h:0≤Kg O s):0≤Kg (O++[y]) s:=by unfold Kg at h⊢;rw[Y3 h];exact h
theorem Jxk {O:List Out} {y:Out} {s:ByteArray} (h:0≤Jw O s):0≤Jw (O++[y]) s:=by unfold Jw at h⊢;rw[Y3 h];exact h
theorem Jxl {O:List Per} {y:Per} {s:ByteArray} (h:0≤Uj O s):0≤Uj (O++[y]) s:=by unfold Uj at h⊢;rw[Y3 h];exact h
theorem Fo {O:List Ord} {a s:ByteArray} {v:Int}:Kg (Vq O a v) s=Kg O s:=by
 unfold Kg Vq
 exact Fm fun x hx=>by
  have e:Vy O a=x:=Jft hx
  rw[e]
theorem Jkc {O:List Out} {a s:ByteArray} {v:Int}:Jw (Lc O a v) s=Jw O s:=by
 unfold Jw Lc
 exact Fm fun x hx=>by
  have e:Y0 O a=x:=Jft hx
  rw[e]
theorem Jcv {O:List Per} {a s:ByteArray}:Uj (Yy O a) s=Uj O s:=by
 unfold Uj Yy
 exact Fm fun x hx=>by
  have e:Jbd O a=x:=Jft hx
  rw[e]
theorem Jsm (r:Reg) (e:Ev):Klq r (Jd r e):=by
 obtain⟨tk,st,S,O,M,X,Q⟩:=r
 obtain⟨n,k,ns,vs,tx⟩:=e
 unfold Jd doS
 split
 all_goals refine⟨fun s h=> ?_,fun s h=> ?_,fun s h=> ?_⟩
 all_goals first|exact h|(show 0≤Kg (Vq _ _ _) _;rw[Fo];exact h)|(show 0≤Jw (Lc _ _ _) _;rw[Jkc];exact h)|(show 0≤Uj (Yy _ _) _;rw[Jcv];exact h)|exact Jmm h|exact Jxk h|exact Jxl h|exact Fo (O:=O)▸h|exact Jkc (O:=X)▸h|exact Jcv (O:=Q)▸h
theorem Jd1.mono {r r':Reg} {e:Ev} (h:Jd1 r e) (hn:Klq r r'):Jd1 r' e:=
 ⟨h.kind,fun q=>⟨(h.ord q).1,hn.o _ (h.ord q).2⟩,fun q=>⟨(h.out q).1,hn.x _ (h.out q).2⟩,fun q=>⟨(h.per q).1,hn.q _ (h.per q).2⟩⟩
theorem Xi (s:ByteArray):(s.toList==s.toList)=true:=beq_self_eq_true _
theorem J69 {h:Kh} {e:Ev} (hc:Jc e=0) (ha:Lt h e=0) (hk:(e.2.1.toList==Jl.toList)=false):Jd1 (Jd (J8 h.2.2) e) e:=by
 obtain⟨n,k,ns,vs,tx⟩:=e
 have hE:=Ko hc
 rw[Y5 hk] at ha
 obtain⟨z1,z2,z3,z4,z5⟩:=Fd ha
 generalize J8 h.2.2=r at*
 obtain⟨tk,st,S,O,M,X,Q⟩:=r
 have hn:=hE.nn
 clear ha z4 z5
 have hkd:=Uo hE.kind
 dsimp only at hn hkd hk z3
 rcases hkd with h|h|h|h|h|h|h|h|h|h|h<;>subst h
 ·exact⟨hE.kind,fun q=>absurd q (by rw[D3];decide),fun q=>absurd q (by rw[D3];decide),fun q=>absurd q (by rw[D3];decide)⟩
 ·exact⟨hE.kind,fun q=>absurd q (by rw[Kc];decide),fun q=>absurd q (by rw[Kc];decide),fun q=>absurd q (by rw[Kc];decide)⟩
 ·exact⟨hE.kind,fun q=>absurd q (by rw[K8];decide),fun q=>absurd q (by rw[K8];decide),fun q=>absurd q (by rw[K8];decide)⟩
 ·simp only[Kp,List.length_cons,List.length_nil] at hn z3
  refine⟨hE.kind,fun _=>⟨by dsimp only;omega, ?_⟩,fun q=>absurd q (by rw[Kp];decide),fun q=>absurd q (by rw[Kp];decide)⟩
  unfold Jd doS
  simp only[Kp]
  exact Jbk (p:=fun x:Ord=>x.1.toList==(ns.getD 0 Jb).toList) (l:=O) (Xi _)
 ·simp only[Kq,List.length_cons,List.length_nil] at hn z3
  refine⟨hE.kind,fun _=>⟨by dsimp only;omega, ?_⟩,fun q=>absurd q (by rw[Kq];decide),fun q=>absurd q (by rw[Kq];decide)⟩
  unfold Jd doS
  simp only[Kq]
  exact Jxf ((Jj z3).1 rfl)
 ·simp only[Uf,List.length_cons,List.length_nil] at hn z3
  refine⟨hE.kind,fun _=>⟨by dsimp only;omega, ?_⟩,fun q=>absurd q (by rw[Uf];decide),fun q=>absurd q (by rw[Uf];decide)⟩
  unfold Jd doS
  simp only[Uf]
  exact by show 0≤Kg (Vq _ _ _) _;rw[Fo];exact Jxf ((Jj z3).1 rfl)
 ·simp only[Jy,List.length_cons,List.length_nil] at hn z3
  refine⟨hE.kind,fun q=>absurd q (by rw[Jy];decide),fun _=>⟨by dsimp only;omega, ?_⟩,fun q=>absurd q (by rw[Jy];decide)⟩
  unfold Jd doS
  simp only[Jy]
  exact Jbk (p:=fun x:Out=>x.1.toList==(ns.getD 0 Jb).toList) (l:=X) (Xi _)
 ·simp only[Js,List.length_cons,List.length_nil] at hn z3
  refine⟨hE.kind,fun q=>absurd q (by rw[Js];decide),fun _=>⟨by dsimp only;omega, ?_⟩,fun q=>absurd q (by rw[Js];decide)⟩
  unfold Jd doS
  simp only[Js]
  exact by show 0≤Jw (Lc _ _ _) _;rw[Jkc];exact J0l ((Jj z3).1 rfl)
 ·simp only[J5,List.length_cons,List.length_nil] at hn z3
  refine⟨hE.kind,fun q=>absurd q (by rw[J5];decide),fun q=>absurd q (by rw[J5];decide),fun _=>⟨by dsimp only;omega, ?_⟩⟩
  unfold Jd doS
  simp only[J5]
  exact Jbk (p:=fun x:Per=>x.1.toList==(ns.getD 0 Jb).toList) (l:=Q) (Xi _)
 ·simp only[J4,List.length_cons,List.length_nil] at hn z3
  refine⟨hE.kind,fun q=>absurd q (by rw[J4];decide),fun q=>absurd q (by rw[J4];decide),fun _=>⟨by dsimp only;omega, ?_⟩⟩
  unfold Jd doS
  simp only[J4]
  exact by show 0≤Uj (Yy _ _) _;rw[Jcv];exact Kgl ((Jj z3).1 rfl)
 ·exact⟨hE.kind,fun q=>absurd q (by rw[K6];decide),fun q=>absurd q (by rw[K6];decide),fun q=>absurd q (by rw[K6];decide)⟩
def Jm9 (h:Kh):Prop:=∀j k,j<h.2.1.length→j≤k→k<h.2.2.length→Jd1 (h.2.2.getD k Xd) (h.2.1.getD j ev0)
theorem D4 {α:Type} {l:List α} {m k:Nat} {d:α} (h:k<m):(l.take m).getD k d=l.getD k d:=by
 rw[List.getD_eq_getElem?_getD,List.getD_eq_getElem?_getD,List.getElem?_take_of_lt h]
theorem Jbl {α:Type} {l m:List α} {k:Nat} {d:α} (h:k<l.length):(l++m).getD k d=l.getD k d:=by
 rw[List.getD_eq_getElem?_getD,List.getD_eq_getElem?_getD,List.getElem?_append_left h]
theorem Ll {α:Type} {l:List α} {y d:α}:(l++[y]).getD l.length d=y:=by
 rw[List.getD_eq_getElem?_getD,List.getElem?_append_right (Nat.le_refl _),Nat.sub_self];rfl
theorem Kxk {h:Kh} {e:Ev} (hi:Yk h) (hA:Jm9 h) (ha:Kx h e=0):Jm9 (X1 h e):=by
 obtain⟨hc,hacc⟩:=add_zero ha
 have n3:=hi.ok.nG
 have hlast:∀e'∈[e],(e.2.1.toList==Jl.toList)=false→Jd1 (Jd (J8 h.2.2) e) e:=fun _ _ hk=>J69 hc hacc hk
 obtain⟨E,C,G⟩:=h
 dsimp only at n3
 cases hk:e.2.1.toList==Jl.toList with
 |true=>
  unfold X1
  rw[hk,cond_true]
  intro j k h1 h2 h3
  simp only[List.length_take] at h1 h3
  dsimp only
  rw[D4 (by omega),D4 (by omega)]
  exact hA j k (by dsimp only;omega) h2 (by dsimp only;omega)
 | false =>
  unfold X1
  rw[hk,cond_false]
  intro j k h1 h2 h3
  simp only[List.length_append,List.length_singleton] at h1 h3
  dsimp only
  by_cases hkn:k<G.length
  ·rw[Jbl hkn,Jbl (by omega)]
   exact hA j k (by dsimp only;omega) h2 (by dsimp only;omega)
  ·have ek:k=G.length:=by omega
   rw[ek,Ll]
   by_cases hj:j<C.length
   ·rw[Jbl hj]
    have:=hA j (G.length-1) hj (by omega) (by dsimp only;omega)
    exact this.mono (Jsm (J8 G) e)
   ·have ej:j=C.length:=by omega
    rw[ej,Ll]
    exact hlast e (List.mem_singleton.2 rfl) hk
theorem J49:∀{l:List Ev} {h:Kh},Yk h→Jm9 h→h.1.length+l.length≤1000→Jm9 (Xc h l).1
 |[],_,_,hA,_=>hA
 | e :: l, h, hi, hA, hl => by
  unfold Xc
  simp only[List.length_cons] at hl
  by_cases ha:Kx h e=0
  ·rw[if_pos ha]
   exact J49 (Jaj hi (by omega) ha) (Kxk hi hA ha) (by rw[Xm];omega)
  ·rw[if_neg ha];exact hA
theorem Jxc:Jm9 Vn:=fun j k h1 _ _=>by cases h1
theorem Jji {l:List Ev}:Jm9 (Ja l).1:=by
 unfold Ja
 by_cases h:1000<l.length
 ·rw[if_pos h];exact Jxc
 ·rw[if_neg h];exact J49 Yv Jxc (by show 0+l.length≤1000;omega)
theorem J5f {h:Kh} (hi:Yk h) (hA:Jm9 h) {e:Ev} (he:e∈h.2.1):Jd1 (J8 h.2.2) e:=by
 obtain⟨j,hj,rfl⟩:=List.mem_iff_getElem.1 he
 have n3:=hi.ok.nG
 have:=hA j (h.2.2.length-1) hj (by omega) (by omega)
 rw[List.getD_eq_getElem?_getD (l:=h.2.1),List.getElem?_eq_getElem hj] at this
 exact this
def Vz (xs:List ByteArray) (sep:ByteArray):ByteArray:=⟨(Lib.join (xs.map (·.data.toList)) sep.data.toList).toArray⟩
def Kwn:Con:={args:=[.val false (.list 9 .str),aS],ress:=[tS],owns:=[],pre:=fun(xs,sep,_)=>[xs.length≤1000000,(Lib.join (xs.map (·.data.toList)) sep.data.toList).length≤140737488355328],spec:=fun(xs,sep,_)=>(Vz xs sep,())}
def Vs (n:Int):ByteArray:=⟨(Lib.itoa n).toArray⟩
def Kwo:Con:={args:=[aI],ress:=[tS],owns:=[],pre:=fun(n,_)=>[-9223372036854775808≤n∧n≤9223372036854775807],spec:=fun(n,_)=>(Vs n,())}
theorem J3f (w:World) (q:Nat) (os:Array Obj):RowKit.Below w.heap.size w (Sort.grow (w.drewN q) os):=
 ⟨rfl,rfl,rfl,by first|(simp[Sort.grow];done)|(simp[Sort.grow];omega),fun i hi=>by
  show((w.drewN q).heap++os)[i]? =_
  rw[Array.getElem?_append_left (by show i<w.heap.size;omega)]
  rfl⟩
theorem Kva:Ok Tryz.prog 122 Kwo:=by
 refine⟨⟨Tryz.f122,by kernel_rfl,by kernel_rfl,by kernel_rfl⟩,fun z hz=>(by cases hz),fun F hF=>(by cases hF),fun _ x M R w vs hM hg hpre hargs=> ?_⟩
 obtain⟨n,u⟩:=x
 obtain⟨v,vs',rfl,ha,hr⟩:=hargs
 have hr:vs'=[]:=hr
 subst hr
 obtain⟨cs,rfl,hc⟩:=ha
 have hc:cs=[.int .i64 n]:=hc
 subst hc
 have hpre: -9223372036854775808≤n∧n≤9223372036854775807:=hpre
 refine(Tryz.strconv_Itoa n hpre.1 hpre.2 w (hg w (Sx.Below.refl _ _)).1).mono ?_
 rintro e w' ⟨rfl,k,os,rfl⟩
 exact⟨M,[.string (Vs n)],rfl, .ofK (J3f w k os),fun _ h=>h,fun b h=> .inl h,_,[],rfl,⟨_,rfl,rfl⟩,rfl⟩
theorem Ku9:Ok Tryz.prog 123 Kwn:=by
 refine⟨⟨Tryz.f123,by kernel_rfl,by kernel_rfl,by kernel_rfl⟩,fun z hz=>(by cases hz),fun F hF=>(by cases hF),fun _ x M R w vs hM hg hpre hargs=> ?_⟩
 obtain⟨xs,sep,u⟩:=x
 obtain⟨v,vs',rfl,ha,v2,vs2,rfl,hb,hr⟩:=hargs
 have hr:vs2=[]:=hr
 subst hr
 obtain⟨cs,rfl,hc⟩:=ha
 obtain⟨cs2,rfl,hc2⟩:=hb
 have hc2:cs2=[.string sep]:=hc2
 subst hc2
 obtain⟨v,flat,rfl,f1,f2⟩:=hc
 obtain⟨p1,p2⟩:=hpre
 have hflat:=Je1 f1
 have fin:∀(e:Ending) (w':World),e= .returned (.string (Vz xs sep))→RowKit.Below w.heap.size w w'→Jpo M w [tS] [] (Vz xs sep,()) e w':=fun e w' he hb=>
  ⟨M,[.string (Vz xs sep)],he, .ofK hb,fun _ h=>h,fun b h=> .inl h,_,[],rfl,⟨_,rfl,rfl⟩,rfl⟩
 rcases f2 with⟨rfl|⟨ad,cap,rfl⟩,h0⟩|⟨b,off,cap,rfl,hcap,hk,hm⟩
 ·have:xs=[]:=List.eq_nil_of_length_eq_zero h0
  subst this
  refine(Tryz.strings_Join_none none 0 sep w).mono ?_
  rintro e w' ⟨rfl,rfl⟩
  exact fin _ _ rfl (RowKit.Below.refl _ _)
 ·have:xs=[]:=List.eq_nil_of_length_eq_zero h0
  subst this
  refine(Tryz.strings_Join_none (some ad) cap sep w).mono ?_
  rintro e w' ⟨rfl,rfl⟩
  exact fin _ _ rfl (RowKit.Below.refl _ _)
 ·cases hx:xs with
  |nil=>
   subst hx
   refine(Tryz.strings_Join_none (some ⟨b,off,none⟩) cap sep w).mono ?_
   rintro e w' ⟨rfl,rfl⟩
   exact fin _ _ rfl (RowKit.Below.refl _ _)
  |cons x0 r=>
   rw[←hx]
   have hne:flat≠[]:=by rw[hflat,hx];simp
   refine(Tryz.strings_Join b off cap xs sep w (fun j x hj=>hk j _ (by rw[hflat,List.getElem?_map,hj];rfl)) (hM b (.inl (hm hne))) (by omega) hcap p2).mono ?_
   rintro e w' ⟨rfl,hb⟩
   exact fin _ _ rfl hb
abbrev Ucj:=Uck.add Ku9
abbrev Uci:=Ucj.add Kva
def Zi (s p:ByteArray):List ByteArray:=Lib.splitB p 0 (Lib.countB s p) s
def Jq9:Con:={args:=[aS,aS],ress:=[(false, .list 9 .str)],owns:=[true],pre:=fun(s,p,_)=>[s.size≤1000000,1≤p.size],spec:=fun(s,p,_)=>(Zi s p,())}
theorem Jhw {M:Nat→Prop} {w:World}:∀{xs:List ByteArray},Y6 (Rep M w .str) xs (xs.map Value.string)
 |[]=>rfl
 |x::xs=>⟨[.string x],xs.map Value.string,rfl,rfl,Jhw⟩
theorem K93:Ok Tryz.prog 61 Jq9:=by
 refine⟨⟨Tryz.f61,by kernel_rfl,by kernel_rfl,by kernel_rfl⟩,fun z hz=>(by cases hz),fun F hF=>(by cases hF),fun _ x M R w vs hM hg hpre hargs=> ?_⟩
 obtain⟨s,p,u⟩:=x
 obtain⟨v1,vs1,rfl,ha1,v2,vs2,rfl,ha2,hr⟩:=hargs
 have hr:vs2=[]:=hr
 subst hr
 obtain⟨cs1,rfl,hc1⟩:=ha1
 obtain⟨cs2,rfl,hc2⟩:=ha2
 have hc1:cs1=[.string s]:=hc1
 have hc2:cs2=[.string p]:=hc2
 subst hc1;subst hc2
 have hpre:s.size≤1000000∧1≤p.size:=hpre
 refine(Tryz.strings_Split_shaped s p w ((hg w (.refl _ _)).2 rfl).1 (by omega) hpre.2).mono ?_
 rintro e w' ⟨rfl,rfl⟩
 have hlen:(Zi s p).length=Lib.countB s p+1:=Lib.splitB_all p hpre.2 0 _ s rfl
 have hle:=Lib.countB_le p hpre.2 s.size s (Nat.le_refl _)
 refine⟨M,[_],rfl, .ofK ⟨rfl,rfl,rfl,by show w.heap.size≤(w.heap.push _).size;simp,fun i hi=> ?_⟩,fun _ h=>h,fun b h=> .inl h,_,[],rfl,⟨(Zi s p).map Value.string,Jhw,⟨by simp[Sch.size,Jq9], .inr ⟨w.heap.size,Lib.countB s p+1,_,by rw[show(Jq9.spec (s,p,u)).1=Zi s p from rfl,hlen],Nat.le_refl _,heap_alloc_new w _,by rw[show(Jq9.spec (s,p,u)).1=Zi s p from rfl,hlen];exact Nat.le_refl _, ?_, ?_, ?_⟩⟩, ?_⟩,rfl⟩
 ·show(w.heap.push _)[i]? =_
  rw[Array.getElem?_push]
  split
  ·omega
  ·rfl
 ·show _≤9223372036854775807
  have:s.size≤1000000:=hpre.1
  omega
 ·show(List.map Value.string (Zi s p)).toArray.size=_
  simp[Sch.size,hlen]
 ·show(List.map Value.string (Zi s p)).take ((Zi s p).length*1)=_
  rw[List.take_of_length_le (by simp)]
 ·intro g hgb hM'
  have:w.heap.size=g:=Option.some.inj hgb
  have:=hM g (.inl hM')
  omega
abbrev Uch:=Uci.add K93
def Kww:Con:={args:=[],ress:=[],owns:=[],pre:=fun _=>[False],spec:=fun _=>(),prim:=some Kw3}
theorem J8k (s:ByteArray) (w:World) (hs:s.size≤1000000) (hg:Sx.Good Tryz.prog w):Calls Tryz.prog 260 #[.string s] w fun e w'=>∃u,e= .returned (.tuple #[.int .i64 (Juh s),u])∧Jkt (Jys s) u∧Sx.Below w.heap.size w w':=by
 have hw:=(hg w (.refl _ _)).2 rfl
 cases h:Lib.atoiAll s.data.toList
 ·rename_i v
  have e1:Juh s=v:=by unfold Juh;rw[h]
  have e2:Jys s=false:=by unfold Jys;rw[h]
  rw[e1,e2]
  refine Calls.mono (Any.strconv_Atoi_ok Tryz.laysAtoi s (by omega) v h w) ?_
  rintro e w' ⟨rfl,rfl|⟨t,rfl⟩⟩
  ·exact⟨_,rfl,rfl, .refl _ _⟩
  ·exact⟨_,rfl,rfl, .ofK (Lib.bytesWorld_below w _ t)⟩
 ·have e1:Juh s=0:=by unfold Juh;rw[h]
  have e2:Jys s=true:=by unfold Jys;rw[h]
  rw[e1,e2]
  obtain⟨tp,pe,hv⟩:=hw.2.1
  refine Calls.mono (Any.strconv_Atoi_syntax_var Tryz.laysAtoi s (by omega) h tp pe w hv) ?_
  rintro e w' ⟨N,rfl,_,_,hb⟩
  exact⟨_,rfl,⟨_,_,rfl⟩, .ofK hb⟩
 ·have e1:Juh s=Lib.atoiSat s.data.toList:=by unfold Juh;rw[h]
  have e2:Jys s=true:=by unfold Jys;rw[h]
  rw[e1,e2]
  obtain⟨tp,pe,hv⟩:=hw.2.2
  refine Calls.mono (Any.strconv_Atoi_range_var Tryz.laysAtoi s (by omega) h tp pe w hv) ?_
  rintro e w' ⟨N,rfl,_,_,hb⟩
  exact⟨_,rfl,⟨_,_,rfl⟩, .ofK hb⟩
theorem Ksk:Ok Tryz.prog 260 Kww:=⟨⟨Tryz.f260,by kernel_rfl,by kernel_rfl,by kernel_rfl⟩,fun z hz=>(by cases hz),fun F hF=>(by cases hF;exact J9c fun s w hs hg=>J8k s w hs hg),fun _ x M R w vs _ _ hpre _=>False.elim hpre⟩
abbrev Ucg:=Uch.add Ksk
def J0n (s p:ByteArray):ByteArray×ByteArray×Bool:=(⟨(Lib.cut s.data.toList p.data.toList).1.toArray⟩,⟨(Lib.cut s.data.toList p.data.toList).2.1.toArray⟩,(Lib.cut s.data.toList p.data.toList).2.2)
def Ubf:Con:={args:=[aS,aS],ress:=[tS,tS,Bo],owns:=[],pre:=fun(s,_)=>[s.size≤1000000],spec:=fun(s,p,_)=>((J0n s p).1,(J0n s p).2.1,(J0n s p).2.2,())}
theorem J3g (w:World) (q:Nat):RowKit.Below w.heap.size w (w.drewN q):=⟨rfl,rfl,rfl,Nat.le_refl _,fun i _=>rfl⟩
theorem Kvh:Ok Tryz.prog 107 Ubf:=by
 refine⟨⟨Tryz.f107,by kernel_rfl,by kernel_rfl,by kernel_rfl⟩,fun z hz=>(by cases hz),fun F hF=>(by cases hF),fun _ x M R w vs hM hg hpre hargs=> ?_⟩
 obtain⟨s,p,u⟩:=x
 obtain⟨v1,vs1,rfl,ha1,v2,vs2,rfl,ha2,hr⟩:=hargs
 have hr:vs2=[]:=hr
 subst hr
 obtain⟨cs1,rfl,hc1⟩:=ha1
 obtain⟨cs2,rfl,hc2⟩:=ha2
 have hc1:cs1=[.string s]:=hc1
 have hc2:cs2=[.string p]:=hc2
 subst hc1;subst hc2
 have hpre:s.size≤1000000:=hpre
 refine(Tryz.strings_Cut_shaped s p w ((hg w (.refl _ _)).2 rfl).1 (by omega)).mono ?_
 rintro e w' ⟨rfl,n,rfl⟩
 exact⟨M,[.string (J0n s p).1, .string (J0n s p).2.1, .bool (J0n s p).2.2],rfl, .ofK (J3g w n),fun _ h=>h,fun b h=> .inl h,_,_,rfl,⟨_,rfl,rfl⟩,_,_,rfl,⟨_,rfl,rfl⟩,_,[],rfl,⟨_,rfl,rfl⟩,rfl⟩
abbrev Ucf:=Ucg.add Kvh
def Kf0 (s:ByteArray) (n:Int):ByteArray:=⟨(Lib.repeatL s.data.toList n.toNat).toArray⟩
def Ua1:Con:={args:=[aS,aI],ress:=[tS],owns:=[],pre:=fun(s,n,_)=>[s.size≤1000000,0≤n∧n≤1000000],spec:=fun(s,n,_)=>(Kf0 s n,())}
theorem Ksl:Ok Tryz.prog 258 Ua1:=by
 refine⟨⟨Tryz.f258,by kernel_rfl,by kernel_rfl,by kernel_rfl⟩,fun z hz=>(by cases hz),fun F hF=>(by cases hF),fun _ x M R w vs hM hg hpre hargs=> ?_⟩
 obtain⟨s,n,u⟩:=x
 obtain⟨v1,vs1,rfl,ha1,v2,vs2,rfl,ha2,hr⟩:=hargs
 have hr:vs2=[]:=hr
 subst hr
 obtain⟨cs1,rfl,hc1⟩:=ha1
 obtain⟨cs2,rfl,hc2⟩:=ha2
 have hc1:cs1=[.string s]:=hc1
 have hc2:cs2=[.int .i64 n]:=hc2
 subst hc1;subst hc2
 obtain⟨p1,p2,p3⟩:=hpre
 have p1:s.size≤1000000:=p1
 have p2:0≤n:=p2
 have p3:n≤1000000:=p3
 obtain⟨c,rfl⟩:=Int.eq_ofNat_of_zero_le p2
 have p3:(c:Int)≤1000000:=p3
 have hm:s.size*c≤1000000*1000000:=Nat.mul_le_mul p1 (by omega)
 refine(Tryz.strings_Repeat s c w (by omega) (by omega)).mono ?_
 rintro e w' ⟨rfl,hb⟩
 exact⟨M,[.string (Kf0 s c)],rfl, .ofK hb,fun _ h=>h,fun b h=> .inl h,_,[],rfl,⟨_,rfl,rfl⟩,rfl⟩
abbrev Uce:=Ucf.add Ksl
abbrev tI:Bool×Sch:=(false, .int .i64)
abbrev tB:Bool×Sch:=(false, .bool)
abbrev K88:Bool×Sch:=(false, .str)
abbrev taI:AK:= .val false (.int .i64)
abbrev taS:AK:= .val false .str
theorem J61 {n:Int} (h0:0≤n) (h1:n<256):IntKind.u8.wrap n=n:=by
 simp[IntKind.wrap,IntKind.signed,IntKind.bits]
 omega
def Xx (c:Int):Bool:=decide (48≤c)&&decide (c≤57)
theorem Jmd (c:Int):(bif decide (c<48) then true else decide (57<c))= !Xx c:=by
 unfold Xx
 have e1:decide (c<48)= !decide ((48:Int)≤c):=by rw[Bool.eq_iff_iff];simp
 have e2:decide ((57:Int)<c)= !decide (c≤57):=by rw[Bool.eq_iff_iff];simp
 rw[e1,e2]
 cases decide ((48:Int)≤c)<;>cases decide (c≤57)<;>rfl
def Ks:List UInt8→Int→Int×Bool
 |[],n=>(n,true)
 |c::r,n=>if Xx c.toNat=true then Ks r (10*n+(c.toNat-48)) else(0,false)
def Jbq (s:ByteArray):Bool:=decide (s.size=0)||decide (9<s.size)||(decide (1<s.size)&&decide (Jby s 0=48))
def Kn (s:ByteArray):Int×Bool:=if Jbq s=true then(0,false) else Ks s.data.toList 0
def J80:Con:={args:=[taS],ress:=[tI,tB],owns:=[],pre:=fun(s,_)=>[s.size≤1000000],spec:=fun(s,_)=>((Kn s).1,(Kn s).2,())}
theorem Jyp (s:ByteArray):(bif bif ((s.size:Int)==0) then true else decide (9<(s.size:Int)) then true else bif decide (1<(s.size:Int)) then(((s.data.toList.getD 0 0).toNat:Int)==48) else false)=Jbq s:=by
 have e1:((s.size:Int)==0)=decide (s.size=0):=by rw[Bool.eq_iff_iff];simp
 have e2:decide (9<(s.size:Int))=decide (9<s.size):=by rw[decide_eq_decide];omega
 have e3:decide (1<(s.size:Int))=decide (1<s.size):=by rw[decide_eq_decide];omega
 have e4:(((s.data.toList.getD 0 0).toNat:Int)==48)=decide (Jby s 0=48):=by rw[Bool.eq_iff_iff];simp[Jby]
 have k:∀a b c d:Bool,(bif bif a then true else b then true else bif c then d else false)=(a||b||(c&&d)):=by decide
 rw[e1,e2,e3,e4,k];rfl
theorem Jf4 {c:Nat} (h:Xx c=true):48≤c∧c≤57:=by
 unfold Xx at h
 simp only[Bool.and_eq_true,decide_eq_true_eq] at h
 omega
abbrev Ucd:=Uce
theorem Jay:∀{l:List UInt8} {n:Int},0≤n→0≤(Ks l n).1∧(Ks l n).1<(n+1)*10^l.length
 |[],n,h=>⟨h,by simp[Ks];omega⟩
 | c :: r, n, h => by
  unfold Ks
  split
  ·rename_i hc
   have hr:=Jf4 hc
   have ih:=Jay (l:=r) (n:=10*n+(c.toNat-48)) (by omega)
   refine⟨ih.1,Int.lt_of_lt_of_le ih.2 ?_⟩
   rw[List.length_cons,Int.pow_succ,Int.mul_comm (10^r.length),←Int.mul_assoc]
   exact Int.mul_le_mul_of_nonneg_right (by omega) (Int.pow_nonneg (by decide))
  ·refine⟨Int.le_refl _,Int.mul_pos (by omega) (Int.pow_pos (by decide))⟩
theorem Jov (s:ByteArray):0≤(Kn s).1∧(Kn s).1<1000000000:=by
 unfold Kn
 split
 ·exact⟨Int.le_refl _,by decide⟩
 ·rename_i h
  have h:Jbq s=false:=by simpa using h
  have h9:s.size≤9:=by
   unfold Jbq at h
   simp only[Bool.or_eq_false_iff,decide_eq_false_iff_not] at h
   omega
  have:=Jay (l:=s.data.toList) (n:=0) (Int.le_refl _)
  refine⟨this.1,Int.lt_of_lt_of_le this.2 ?_⟩
  have hp:=Nat.pow_le_pow_right (n:=10) (by decide) h9
  have hl:s.data.toList.length=s.size:=by simp
  rw[hl,Int.zero_add,Int.one_mul]
  have e:((10:Int)^s.size)=((10^s.size:Nat):Int):=by simp
  rw[e]
  have h2:((10^s.size:Nat):Int)≤((10^9:Nat):Int):=Int.ofNat_le.2 hp
  have h3:((10^9:Nat):Int)=1000000000:=by decide
  omega
def Jkw (c:UInt8):List UInt8→List (List UInt8)
 |[]=>[[]]
 |x::r=>if x=c then[]::Jkw c r else match Jkw c r with
  |[]=>[[x]]
  |h::t=>(x::h)::t
def bs (l:List UInt8):ByteArray:=⟨l.toArray⟩
def Jet (s:ByteArray) (c:Int):List ByteArray:=(Jkw (UInt8.ofNat c.toNat) s.data.toList).map bs
theorem J7c (c:UInt8):∀l,Jkw c l≠[]
 |[]=>by simp[Jkw]
 |x::r=>by
  unfold Jkw
  split
  ·simp
  ·split<;>simp
theorem Ja9 (c x:UInt8) (r:List UInt8):Jkw c (x::r)=if x=c then[]::Jkw c r else match Jkw c r with
  |[]=>[[x]]
  |h::t=>(x::h)::t:=rfl
abbrev Kln:=Ucd
def Zm (n:Int):ByteArray:=⟨(Lib.itoa n).toArray⟩
def Jx3 (k:Nat):Con:={args:=[taI],ress:=[K88],owns:=[],pre:=fun(n,_)=>[k≤18,-(10^k:Int)<n,n<10^(k+1)],spec:=fun(n,_)=>(Zm n,())}
def Koa (a:Int):=(Iw (48+a)∧0<1)∧ByteArray.mk (Array.mk [UInt8.ofNat (Int.toNat (IntKind.wrap IntKind.u8 (48+a)))])=Zm a
def Z91 (a:Int):=0-Int.tmod a 10
def Klm:=(10:Int)=0→False
def Kkq (a:Nat):=(10:Int)^(a+(1:Nat))
def Kpd (a:Nat):= -10^a
def K3n (a:Int) (b:Nat):=Int.tdiv a 10<Kkq b
def K2g (a:Nat) (b:Int):=Kpd a<Int.tdiv b 10
theorem J1o {l:List UInt8} {n:Int} (h:l=Lib.itoa n):(⟨⟨l⟩⟩:ByteArray)=Zm n:=by subst h;rfl
theorem Ju3 (u:Nat):(Zm (u:Int)).data.toList=Lib.decDigits u:=by unfold Zm;rw[Lib.itoa_nonneg]
theorem Kfu (u:Nat) (h:1≤u):(Zm (-(u:Int))).data.toList=45::Lib.decDigits u:=by unfold Zm;rw[Lib.itoa_neg u h]
theorem Ji6 (n:Int) (h0: -9223372036854775808≤n) (h1:n≤9223372036854775807):(Zm n).size≤21:=by
 have:=Lib.itoa_length_le n h0 h1
 show(Lib.itoa n).toArray.size≤21
 simpa using this
theorem Joy {u:Nat} (h:¬u<10):Lib.decDigits u=Lib.decDigits (u/10)++[UInt8.ofNat (48+u %10)]:=by rw[Lib.decDigits,dif_neg h]
theorem J4z {x:Nat} (h:x<10):UInt8.ofNat (IntKind.u8.wrap (48+(x:Int))).toNat=UInt8.ofNat (48+x):=by
 rw[J61 (by omega) (by omega)]
 congr 1
theorem Jlw (n:Int) (h0:¬n<0) (h1:n<10):(⟨⟨[UInt8.ofNat (IntKind.u8.wrap (48+n)).toNat]⟩⟩:ByteArray)=Zm n:=by
 obtain⟨u,rfl⟩:=Int.eq_ofNat_of_zero_le (by omega:0≤n)
 refine J1o ?_
 have e:Lib.itoa (u:Int)=Lib.decDigits u:=Lib.itoa_nonneg u
 have hu:u<10:=by omega
 rw[e,Lib.decDigits_one hu]
 exact congrArg (·::[]) (J4z hu)
theorem Kfs (n:Int):wpF Tryz.prog Kln.g (na ()) Tryz.f194 (Jx3 0) (n,()):=by
 refine(by kernel_rfl:(0≤18→-10^0<n→n<10^1→Br (decide (n<0)) (Br (decide ((-10)<n)) (J0d 3 2) (J0d 4 2)) (Br (decide (n<10)) (Koa n) (J0d 7 2)))=_).mp ?_
 delta Koa Br Iw
 intro _ h0 h1
 have e0:(10:Int)^0=1:=rfl
 have e1:(10:Int)^1=10:=rfl
 rw[e0] at h0
 rw[e1] at h1
 refine⟨fun h=>absurd (of_decide_eq_true h) (by omega),fun h=>⟨fun h2=>⟨⟨by omega,by decide⟩,Jlw n (of_decide_eq_false h) (of_decide_eq_true h2)⟩,fun h2=>absurd (of_decide_eq_false h2) (by omega)⟩⟩
theorem Kfr (k:Nat) (n:Int):wpF Tryz.prog ((194,Jx3 k)::Kln.g) (na ()) Tryz.f194 (Jx3 (k+1)) (n,()):=by
 refine(by kernel_rfl:(k+1≤18→-Kkq k<n→n<10^(k+1+1)→Br (decide (n<0)) (Br (decide ((-10)<n)) ((Iw (0-n)∧k≤18∧Kpd k<0-n∧0-n<Kkq k∧Nc (1+ByteArray.size (Zm (0-n)))≤9223372036854775807)∧ByteArray.mk (Array.mk (45::([]++(Zm (0-n)).data.toList)))=Zm n) ((Klm∧Iw (Int.tdiv n 10)∧k≤18∧K2g k n∧K3n n k∧Klm∧Iw (Z91 n)∧k≤18∧Kpd k<Z91 n∧Z91 n<Kkq k∧Nc (ByteArray.size (Zm (Int.tdiv n 10))+ByteArray.size (Zm (Z91 n)))≤9223372036854775807)∧ByteArray.mk (Array.mk ((Zm (Int.tdiv n 10)).data.toList++(Zm (Z91 n)).data.toList))=Zm n)) (Br (decide (n<10)) (Koa n) ((Klm∧Iw (Int.tdiv n 10)∧k≤18∧K2g k n∧K3n n k∧Klm∧Iw (48+Int.tmod n 10)∧0<1∧Nc (ByteArray.size (Zm (Int.tdiv n 10))+1)≤9223372036854775807)∧ByteArray.mk (Array.mk ((Zm (Int.tdiv n 10)).data.toList++[UInt8.ofNat (Int.toNat (IntKind.wrap IntKind.u8 (48+Int.tmod n 10)))]))=Zm n)))=_).mp ?_
 delta Z91 Klm Kkq Kpd K3n K2g Koa Br Iw Nc
 intro hk h0 h1
 have hp0:(0:Int)<10^k:=Int.pow_pos (by decide)
 have hp1:(1:Int)≤10^k:=by omega
 have hp2:(10:Int)^k≤100000000000000000:=by
  have h:=Nat.pow_le_pow_right (n:=10) (by decide) (show k≤17 by omega)
  have h2:((10^k:Nat):Int)≤((10^17:Nat):Int):=Int.ofNat_le.2 h
  have h3:((10^17:Nat):Int)=100000000000000000:=by decide
  have e:((10:Int)^k)=((10^k:Nat):Int):=by simp
  omega
 have e1:(10:Int)^(k+1)=10^k*10:=Int.pow_succ ..
 have e2:(10:Int)^(k+1+1)=10^k*10*10:=by rw[Int.pow_succ,e1]
 rw[e1] at h0
 rw[e2] at h1
 rw[e1]
 generalize(10:Int)^k=p at*
 refine⟨fun h=>⟨fun h2=> ?_,fun h2=> ?_⟩,fun h=>⟨fun h2=>⟨⟨by have:=of_decide_eq_true h2;have:=of_decide_eq_false h;omega,by decide⟩,Jlw n (of_decide_eq_false h) (of_decide_eq_true h2)⟩,fun h2=> ?_⟩⟩
 ·have h:=of_decide_eq_true h
  have h2:=of_decide_eq_true h2
  obtain⟨u,hu⟩:=Int.eq_ofNat_of_zero_le (by omega:0≤0-n)
  have hn:n= -(u:Int):=by omega
  have hs:=Ji6 (0-n) (by omega) (by omega)
  refine⟨⟨by omega,by omega,by omega,by omega,by omega⟩,J1o ?_⟩
  rw[hu,Ju3,hn,Lib.itoa_neg u (by omega)];rfl
 ·have h:=of_decide_eq_true h
  have h2:=of_decide_eq_false h2
  obtain⟨u,hu⟩:=Int.eq_ofNat_of_zero_le (by omega:0≤0-n)
  have hn:n= -(u:Int):=by omega
  have ed:n.tdiv 10= -((u/10:Nat):Int):=by rw[hn,Int.neg_tdiv];rfl
  have em:n.tmod 10= -((u %10:Nat):Int):=by rw[hn,Int.neg_tmod];rfl
  have em2:0-n.tmod 10=((u %10:Nat):Int):=by rw[em];omega
  rw[em2,ed]
  have hs1:=Ji6 (-((u/10:Nat):Int)) (by omega) (by omega)
  have hs2:=Ji6 ((u %10:Nat):Int) (by omega) (by omega)
  refine⟨⟨by omega,by omega,by omega,by omega,by omega,by omega,by omega,by omega,by omega,by omega,by omega⟩,J1o ?_⟩
  rw[Kfu _ (by omega),Ju3,hn,Lib.itoa_neg u (by omega),Joy (u:=u) (by omega),Lib.decDigits_one (i:=u %10) (by omega)];rfl
 ·have h:=of_decide_eq_false h
  have h2:=of_decide_eq_false h2
  obtain⟨u,hu⟩:=Int.eq_ofNat_of_zero_le (by omega:0≤n)
  subst hu
  have ed:(u:Int).tdiv 10=((u/10:Nat):Int):=rfl
  have em:(u:Int).tmod 10=((u %10:Nat):Int):=rfl
  rw[em,ed]
  have hs1:=Ji6 ((u/10:Nat):Int) (by omega) (by omega)
  refine⟨⟨by omega,by omega,by omega,by omega,by omega,by omega,by omega,by decide,by omega⟩,J1o ?_⟩
  rw[Ju3,Lib.itoa_nonneg,Joy (u:=u) (by omega),J4z (by omega)]
theorem J5e:∀k,Ok Tryz.prog 194 (Jx3 k)
 |0=>V2 mixed Kln.ok (by kernel_rfl) (by kernel_rfl) na fun xx=>Kfs xx.1
 |k+1=>V2 mixed (.cons (J5e k) Kln.ok) (by kernel_rfl) rfl na fun xx=>Kfr k xx.1
theorem Ktl:Ok Tryz.prog 194 (Jx3 17):=J5e 17
abbrev K8g:=Kln.add Ktl
def H0:List UInt8→Bool
 |[]=>true
 |b::r=>Xx (b.toNat:Int)&&H0 r
def Juf (s:ByteArray):Bool:=H0 s.data.toList&&decide (0<s.size)
def Ube:Con:={args:=[aS],ress:=[Bo],owns:=[],pre:=fun(s,_)=>[s.size≤1000000],spec:=fun(s,_)=>(Juf s,())}
abbrev Kil (s:ByteArray):Ann:={X:=Nat,σ:=fun k=>⟨1,[(0, .one (.str s)),(6, .one (.sl 0))],[(0, .siter s k)]⟩,inv:=fun k=>k≤s.size∧H0 s.data.toList=H0 (s.data.toList.drop k),mu:=fun k=>s.size-k}
theorem Jh9 {c:Int} (h:128≤c):Xx c=false:=by
 unfold Xx
 rw[decide_eq_false (show ¬c≤57 by omega),Bool.and_false]
def Ko1 (a:Nat) (b:Bt):=a≤ByteArray.size b∧H0 (Z9 b)=H0 (List.drop a (Z9 b))
theorem Ktq:Ok Tryz.prog 186 Ube:=Jwm K8g Tryz.f186 (U0 (l:=([]:List (Nat×Func))) (by simp)) (fun xx=>Zg (Kil xx.1)) (fun xx=>fun _=>na ()) fun xx=>by
 obtain⟨(s:ByteArray),_⟩:=xx
 refine(by kernel_rfl:(ByteArray.size s≤1000000→∃(x:Nat),Sf s (Sf s (0=x))∧Ko1 x s∧∀(x:Nat),Ko1 x s→(x<ByteArray.size s→Br true (Br (Kp2 s x) (Sf true (false=Juf s)) (∃(y:Nat),Sf s (Sf s (x+Jg3 s x=y))∧Ko1 y s∧ByteArray.size s-y<ByteArray.size s-x)) (Sf true ((!Lb s B0)=Juf s)))∧((x<ByteArray.size s→False)→Br false False (Sf true ((!Lb s B0)=Juf s))))=_).mp ?_
 delta Z9 Kp2 Ko1 Br Sf B0 Lb
 intro hb
 refine⟨(0:Nat),⟨rfl,rfl,rfl⟩,⟨Nat.zero_le _,by simp⟩,fun(k:Nat) hk=>⟨fun h=>⟨fun _=>⟨fun h1=>⟨rfl, ?_⟩,fun h1=> ?_⟩,fun h=>(by cases h)⟩,fun h=> ?_⟩⟩
 ·rw[Jmd] at h1
  have h2:Xx (Yn s k)=false:=by simpa using h1
  unfold Juf
  have h3:H0 s.data.toList=false:=by
   rw[hk.2,Ft h,H0]
   by_cases ha:(s[k]'h).toNat<128
   ·rw[←(Jd6 h ha).1,h2];rfl
   ·rw[Jh9 (by omega)];rfl
  rw[h3];rfl
 ·rw[Jmd] at h1
  have h2:Xx (Yn s k)=true:=by simpa using h1
  by_cases ha:(s[k]'h).toNat<128
  ·obtain⟨r1,r2⟩:=Jd6 h ha
   refine⟨(k+1:Nat),⟨rfl,rfl,by rw[r2]⟩,⟨by omega, ?_⟩,by omega⟩
   rw[hk.2,Ft h,H0,←r1,h2]
   rfl
  ·have:=Jlp h (by omega)
   rw[Jh9 this] at h2
   cases h2
 ·have e:k=s.size:=Nat.le_antisymm hk.1 (Nat.le_of_not_lt h)
  refine⟨fun h=>(by cases h),fun _=>⟨rfl, ?_⟩⟩
  rw[e,List.drop_eq_nil_of_le (by simp)] at hk
  unfold Juf
  rw[hk.2,Jju]
  rfl
abbrev Ucc:=K8g.add Ktq
abbrev K8f:=Ucc
theorem Jyh (a:ByteArray):bs a.data.toList=a:=rfl
theorem Jes (c:UInt8):∀l:List UInt8,Lib.splitK [c] 0 (l.count c) l=Jkw c l
 |[]=>rfl
 | x :: r => by
  have ih:=Jes c r
  by_cases h:x=c
  ·subst h
   rw[Ja9,if_pos rfl,List.count_cons_self]
   have e:Lib.index (x::r) [x]=0:=by simp[Lib.index,List.isPrefixOf]
   rw[Lib.splitK,e,←ih]
   rfl
  ·rw[Ja9,if_neg h,List.count_cons_of_ne h,←ih]
   have hp:[c].isPrefixOf (x::r)=false:=by
    have:¬c=x:=fun e=>h e.symm
    simp[List.isPrefixOf,this]
   cases hk:r.count c with
   |zero=>rfl
   | succ k =>
    have hi:Lib.index (x::r) [c]=if Lib.index r [c]== -1 then -1 else Lib.index r [c]+1:=by rw[Lib.index,hp];rfl
    by_cases h1:Lib.index r [c]= -1
    ·have e2:Lib.index (x::r) [c]= -1:=by rw[hi,h1];rfl
     simp only[Lib.splitK,e2,h1]
     rfl
    ·have hg:=Lib.index_ge r [c]
     have e2:Lib.index (x::r) [c]=Lib.index r [c]+1:=by rw[hi,if_neg (by simpa using h1)]
     obtain⟨i,hi⟩:=Int.eq_ofNat_of_zero_le (by omega:0≤Lib.index r [c])
     rw[hi] at e2
     have n1:¬((i:Int)== -1)=true:=by simp
     have n2:¬(((i:Int)+1)== -1)=true:=by simp;omega
     simp only[Lib.splitK,e2,hi]
     rw[if_neg n1,if_neg n2]
     have t1:((i:Int)+1).toNat=i+1:=by omega
     have t2:((i:Int)).toNat=i:=by omega
     simp only[t1,t2,Nat.add_zero,List.take_succ_cons,List.length_cons,List.length_nil]
     rfl
theorem Jen (s:ByteArray) (c:UInt8):Zi s ⟨#[c]⟩=(Jkw c s.data.toList).map bs:=by
 have h:=Lib.splitB_data ⟨#[c]⟩ 0 (Lib.countB s ⟨#[c]⟩) s
 have hc:Lib.countB s ⟨#[c]⟩=s.data.toList.count c:=Lib.count_one c s.data.toList
 rw[hc] at h
 have h2:(Zi s ⟨#[c]⟩).map (·.data.toList)=Jkw c s.data.toList:=by
  rw[←Jes]
  unfold Zi
  rw[hc];exact h
 rw[←h2,List.map_map]
 exact(List.map_id' _).symm
theorem Ja8 (c:UInt8):∀(l w:List UInt8),w∈Jkw c l→w.length≤l.length
 |[],w,h=>by
  have:w=[]:=by simpa[Jkw] using h
  rw[this];exact Nat.le_refl _
 | x :: r, w, h => by
  rw[Ja9] at h
  split at h
  ·rcases List.mem_cons.1 h with h|h
   ·rw[h];exact Nat.zero_le _
   ·exact Nat.le_succ_of_le (Ja8 c r w h)
  ·split at h
   ·rename_i e;exact absurd e (J7c c r)
   ·rename_i hh t e
    rcases List.mem_cons.1 h with h|h
    ·rw[h]
     exact Nat.succ_le_succ (Ja8 c r hh (by rw[e];simp))
    ·exact Nat.le_succ_of_le (Ja8 c r w (by rw[e];simp[h]))
theorem Xz (l:List UInt8):(bs l).size=l.length:=by show l.toArray.size=_;simp
theorem J2u (r:ByteArray) (i:Nat):r.extract 0 i=bs (r.data.toList.take i):=by
 rw[←Jyh (r.extract 0 i),Lib.extract_data];simp
theorem Jqy (r:ByteArray) (i:Nat):r.extract i r.size=bs (r.data.toList.drop i):=by
 rw[←Jyh (r.extract i r.size),Lib.extract_data,List.take_of_length_le (by simp)]
theorem Jjc (c:UInt8):∀l:List UInt8,(Jkw c l).length≤l.length+1
 |[]=>Nat.le_refl _
 | x :: r => by
  have ih:=Jjc c r
  rw[Ja9]
  split
  ·simp;omega
  ·split
   ·simp
   ·rename_i e;rw[e] at ih;simp at ih⊢;omega
theorem D7 (c:UInt8):∀(l:List UInt8) (n:Int),Ks (l++[c]) n=if(Ks l n).2=true∧Xx c.toNat=true then(10*(Ks l n).1+(c.toNat-48),true) else(0,false)
 |[],n=>by
  show(if Xx c.toNat=true then _ else _)=_
  by_cases h:Xx c.toNat=true
  ·rw[if_pos h,if_pos ⟨rfl,h⟩];rfl
  ·rw[if_neg h,if_neg (fun q=>h q.2)]
 |x::l,n=>by
  have ih:=D7 c l (10*n+(x.toNat-48))
  show(if Xx x.toNat=true then Ks (l++[c]) (10*n+(x.toNat-48)) else(0,false))=_
  have e:Ks (x::l) n=if Xx x.toNat=true then Ks l (10*n+(x.toNat-48)) else(0,false):=rfl
  rw[e]
  by_cases h:Xx x.toNat=true
  ·rw[if_pos h,if_pos h,ih]
  ·rw[if_neg h,if_neg h,if_neg (fun q=>by cases q.1)]
theorem Jbr (u:Nat):10≤u→Lib.decDigits u=Lib.decDigits (u/10)++[UInt8.ofNat (48+u %10)]:=fun h=>Joy (by omega)
theorem Jbp {x:Nat} (h:x<10):(UInt8.ofNat (48+x)).toNat=48+x:=UInt8.toNat_ofNat_of_lt' (by show 48+x<256;omega)
theorem Jas {x:Nat} (h:x<10):Xx (UInt8.ofNat (48+x)).toNat=true:=by
 rw[Jbp h];unfold Xx;simp;omega
theorem Jow (u:Nat):Ks (Lib.decDigits u) 0=((u:Int),true):=by
 induction u using Nat.strongRecOn with
 | ind u ih =>
  by_cases h:u<10
  ·rw[Lib.decDigits_one h]
   show(if Xx (UInt8.ofNat (48+u)).toNat=true then _ else _)=_
   rw[if_pos (Jas h),Jbp h]
   show((_:Int),true)=_
   congr 1;omega
  ·have hd:u %10<10:=Nat.mod_lt _ (by decide)
   rw[Jbr u (by omega),D7,ih (u/10) (by omega),if_pos ⟨rfl,Jas hd⟩,Jbp hd]
   congr 1;dsimp only;omega
theorem Jki (u:Nat):∃c r,Lib.decDigits u=c::r∧Xx c.toNat=true∧(1≤u→c.toNat≠48):=by
 induction u using Nat.strongRecOn with
 | ind u ih =>
  by_cases h:u<10
  ·refine⟨_,_,Lib.decDigits_one h,Jas h,fun h1=> ?_⟩
   rw[Jbp h];omega
  ·obtain⟨c,r,e,h1,h2⟩:=ih (u/10) (by omega)
   exact⟨c,r++[UInt8.ofNat (48+u %10)],by rw[Jbr u (by omega),e];rfl,h1,fun _=>h2 (by omega)⟩
theorem Jf7 (u:Nat):1≤(Lib.decDigits u).length:=by
 obtain⟨c,r,e,_⟩:=Jki u
 rw[e];simp
theorem Jxp:∀(k u:Nat),((Lib.decDigits u).length≤k+1↔u<10^(k+1))
 | 0, u => by
  by_cases h:u<10
  ·rw[Lib.decDigits_one h];simp;omega
  ·have h2:=Jf7 (u/10)
   rw[Jbr u (by omega),List.length_append]
   simp only[List.length_cons,List.length_nil]
   constructor
   ·intro q;omega
   ·intro q;simp at q;omega
 | k + 1, u => by
  by_cases h:u<10
  ·rw[Lib.decDigits_one h]
   have:10≤10^(k+1+1):=by
    rw[Nat.pow_succ]
    have:=Nat.pos_of_ne_zero (n:=10^(k+1)) (by simp)
    omega
   simp;omega
  ·have ih:=Jxp k (u/10)
   rw[Jbr u (by omega),List.length_append]
   simp only[List.length_cons,List.length_nil]
   rw[Nat.pow_succ]
   constructor
   ·intro q
    have:=ih.1 (by omega)
    omega
   ·intro q
    have:=ih.2 (by omega)
    omega
theorem Kgw:∀(k:Nat) (l:List UInt8),l.length=k+1→(Ks l 0).2=true→(1<l.length→∀c,l.head? =some c→c.toNat≠48)→l=Lib.decDigits (Ks l 0).1.toNat
 | 0, l, hl, hd, _ => by
  match l,hl with
  | [c], _ =>
   have e:Ks [c] 0=if Xx c.toNat=true then((10*0+(c.toNat-48):Int),true) else(0,false):=rfl
   by_cases h:Xx c.toNat=true
   ·rw[e,if_pos h]
    have hr:=Jf4 h
    have:((10*0+((c.toNat:Int)-48))).toNat=c.toNat-48:=by omega
    dsimp only
    rw[this,Lib.decDigits_one (by omega),show 48+(c.toNat-48)=c.toNat by omega,UInt8.ofNat_toNat]
   ·rw[e,if_neg h] at hd;cases hd
 | k + 1, l, hl, hd, h0 => by
  obtain⟨i,c,rfl⟩:∃i c,l=i++[c]:=by
   rcases List.eq_nil_or_concat l with h|⟨i,c,h⟩
   ·rw[h] at hl;simp at hl
   ·exact⟨i,c,by simpa using h⟩
  have hil:i.length=k+1:=by simpa using hl
  have hs:=D7 c i 0
  by_cases hc:(Ks i 0).2=true∧Xx c.toNat=true
  ·rw[if_pos hc] at hs
   have hh:∀d,i.head? =some d→d.toNat≠48:=fun d hd=>h0 (by simp;omega) d (by
    cases i with
    |nil=>cases hd
    |cons a b=>exact hd)
   have ih:=Kgw k i hil hc.1 fun _=>hh
   have hr:=Jf4 hc.2
   have hn:=(Jay (l:=i) (n:=0) (Int.le_refl _)).1
   obtain⟨m,hm⟩:=Int.eq_ofNat_of_zero_le hn
   rw[hm] at ih hs
   simp only[Int.toNat_natCast] at ih
   have hm1:1≤m:=by
    rcases Nat.eq_zero_or_pos m with h|h
    ·subst h
     rw[ih,Lib.decDigits_one (by decide)] at hh
     exact absurd rfl (hh 48 rfl)
    ·exact h
   rw[hs]
   have e:(10*(m:Int)+((c.toNat:Int)-48)).toNat=10*m+(c.toNat-48):=by omega
   dsimp only
   rw[e,Jbr _ (by omega),show(10*m+(c.toNat-48))/10=m by omega,show 48+(10*m+(c.toNat-48)) %10=c.toNat by omega,UInt8.ofNat_toNat,←ih]
  ·rw[hs,if_neg hc] at hd;cases hd
theorem Js4 {c:UInt8} {r:List UInt8} {n:Nat} (h:48≤c.toNat∧c.toNat≤57) (h1:¬1844674407370955162≤n) (h2:¬18446744073709551616≤n*10+(c.toNat-48)):Lib.parseUint10 n (c::r)=Lib.parseUint10 (n*10+(c.toNat-48)) r:=by
 simp only[Lib.parseUint10]
 rw[if_pos h,if_neg h1,if_neg h2]
theorem Jdg (c:UInt8) (r:List UInt8) (n:Int):Ks (c::r) n=if Xx c.toNat=true then Ks r (10*n+(c.toNat-48)) else(0,false):=rfl
theorem Jwj (l:List UInt8):∀(n:Nat),(Ks l n).2=true→(Ks l n).1<1000000000000000000→Lib.parseUint10 n l= .ok (Ks l n).1.toNat∧(n:Int)≤(Ks l n).1:=by
 induction l with
 |nil=>exact fun n _ _=>⟨rfl,Int.le_refl _⟩
 | cons c r ih =>
  intro n h1 h2
  by_cases h:Xx c.toNat=true
  ·rw[Jdg,if_pos h] at h1 h2⊢
   have hr:=Jf4 h
   have en:(10*(n:Int)+((c.toNat:Int)-48))=((n*10+(c.toNat-48):Nat):Int):=by omega
   rw[en] at h1 h2⊢
   obtain⟨a1,a2⟩:=ih _ h1 h2
   have h3:n<1000000000000000000:=by omega
   refine⟨?_,by omega⟩
   rw[Js4 hr (by omega) (by omega)]
   exact a1
  ·rw[Jdg,if_neg h] at h1;cases h1
theorem Jwy {u:Nat} (h:u<1000000000):Lib.parseMag (Lib.decDigits u)= .ok u:=by
 obtain⟨c,r,e,_⟩:=Jki u
 unfold Lib.parseMag
 rw[if_neg (by rw[e];simp)]
 have hd:=Jow u
 have:=(Jwj (Lib.decDigits u) 0 (by show(Ks _ 0).2=true;rw[hd]) (by show(Ks _ 0).1<_;rw[hd];dsimp only;omega)).1
 rw[this]
 show Lib.NumEnd.ok (Ks _ 0).1.toNat=_
 rw[hd];rfl
theorem Jyr {v:Int} (h0: -1000000000<v) (h1:v<1000000000):Lib.atoiAll (Lib.itoa v)= .ok v:=by
 rcases(by omega:v<0∨0≤v) with hv|hv
 ·obtain⟨u,hu⟩:=Int.eq_ofNat_of_zero_le (by omega:0≤-v)
  have hn:v= -(u:Int):=by omega
  subst hn
  rw[Lib.itoa_neg u (by omega)]
  have hm:=Jwy (u:=u) (by omega)
  have e45:(45:UInt8).toNat=45:=rfl
  simp only[Lib.atoiAll,e45]
  rw[if_pos (Or.inr trivial),hm]
  dsimp only
  rw[if_neg (by omega),if_neg (by omega),if_pos trivial]
 ·obtain⟨u,rfl⟩:=Int.eq_ofNat_of_zero_le hv
  have e:Lib.itoa (u:Int)=Lib.decDigits u:=Lib.itoa_nonneg u
  rw[e]
  have hm:=Jwy (u:=u) (by omega)
  obtain⟨c,r,e,h3,h4⟩:=Jki u
  have hr:=Jf4 h3
  rw[e] at hm⊢
  simp only[Lib.atoiAll]
  rw[if_neg (by omega),hm]
  dsimp only
  rw[if_neg (by omega),if_neg (by omega),if_neg (by omega)]
theorem Jtl {s:ByteArray} (h:(Kn s).2=true):∃u:Nat,u<1000000000∧s.data.toList=Lib.decDigits u∧(Kn s).1=u:=by
 have hr:=Jov s
 obtain⟨u,hu⟩:=Int.eq_ofNat_of_zero_le hr.1
 by_cases hb:Jbq s=true
 ·unfold Kn at h;rw[if_pos hb] at h;cases h
 ·have ed:Kn s=Ks s.data.toList 0:=by unfold Kn;rw[if_neg hb]
  have hb:Jbq s=false:=by simpa using hb
  unfold Jbq at hb
  simp only[Bool.or_eq_false_iff,decide_eq_false_iff_not,Bool.and_eq_false_iff] at hb
  obtain⟨⟨b1,b2⟩,b3⟩:=hb
  have hl:s.data.toList.length=s.size:=by simp
  have:=Kgw (s.size-1) s.data.toList (by omega) (by rw[←ed];exact h) (fun hl2 c hc=>by
   rcases b3 with b3|b3
   ·omega
   ·intro q
    apply b3
    have:Jby s 0=c.toNat:=by
     unfold Jby
     rw[List.getD_eq_getElem?_getD]
     have e0:s.data.toList[(0:Int).toNat]? =some c:=by rw[←hc];simp[List.head?_eq_getElem?]
     rw[e0];rfl
    rw[this,q];rfl)
  rw[←ed,hu] at this
  exact⟨u,by omega,this,hu⟩
theorem Jgi:∀{l:List UInt8} {n:Int},H0 l=true→(Ks l n).2=true
 |[],_,_=>rfl
 |c::r,n,h=>by
  rw[H0,Bool.and_eq_true] at h
  rw[Ks,if_pos h.1]
  exact Jgi h.2
theorem Jfu:∀{l:List UInt8} {n:Int},(Ks l n).2=true→H0 l=true
 |[],_,_=>rfl
 | c :: r, n, h => by
  rw[Ks] at h
  by_cases q:Xx c.toNat=true
  ·rw[if_pos q] at h
   rw[H0,q,Jfu h];rfl
  ·rw[if_neg q] at h;cases h
theorem Jf5:∀{l:List UInt8} {n:Int},(Ks l n).2=false→Ks l n=(0,false)
 |[],_,h=>by cases h
 |c::r,n,h=>by
  rw[Ks] at h⊢
  by_cases q:Xx c.toNat=true
  ·rw[if_pos q] at h⊢;exact Jf5 h
  ·rw[if_neg q]
theorem Jw7 (s:ByteArray):(bif bif !Juf s then true else decide (9<(s.size:Int)) then true else bif decide (1<(s.size:Int)) then(((s.data.toList.getD 0 0).toNat:Int)==48) else false)= !(Kn s).2:=by
 have hb:=Jyp s
 have hl:s.data.toList.length=s.size:=by simp
 unfold Juf
 cases ha:H0 s.data.toList with
 | false =>
  have e:(Kn s).2=false:=by
   unfold Kn
   split
   ·rfl
   ·cases h:(Ks s.data.toList 0).2 with
    |false=>rfl
    |true=>rw[Jfu h] at ha;cases ha
  rw[e];rfl
 | true =>
  have e:(Kn s).2= !Jbq s:=by
   unfold Kn
   cases hd:Jbq s with
   |true=>rfl
   |false=>exact Jgi ha
  rw[e,←hb]
  have e1:decide (0<s.size)= !((s.size:Int)==0):=by
   by_cases q:s.size=0
   ·rw[q];rfl
   ·rw[decide_eq_true (by omega),beq_eq_false_iff_ne.2 (by omega)];rfl
  rw[e1]
  cases((s.size:Int)==0)<;>simp
theorem Jto {s:ByteArray} (h:(Kn s).2=true):Juh s=(Kn s).1:=by
 obtain⟨u,h1,h2,h3⟩:=Jtl h
 have e:Lib.itoa (u:Int)=Lib.decDigits u:=Lib.itoa_nonneg u
 have:=Jyr (v:=(u:Int)) (by omega) (by omega)
 unfold Juh
 rw[h2,←e,this,h3]
def K55 (a:Bt):=bif !Juf a then true else decide (9<Nc (ByteArray.size a))
theorem Ktp:Ok Tryz.prog 187 J80:=okW K8f Tryz.f187 na fun xx=>by
 obtain⟨(s:ByteArray),_⟩:=xx
 refine(by kernel_rfl:(ByteArray.size s≤1000000→(ByteArray.size s≤1000000∧(K55 s=false∧decide (1<Nc (ByteArray.size s))=true→Bd 0 (Nc (ByteArray.size s))))∧Br (bif K55 s then true else bif decide (1<Nc (ByteArray.size s)) then Kqt s==48 else false) (0=(Kn s).1∧false=(Kn s).2) (ByteArray.size s≤1000000∧Juh s=(Kn s).1∧true=(Kn s).2))=_).mp ?_
 delta Z9 K55 Kqt Br Bd Nc
 intro hs
 rw[Jw7]
 refine⟨⟨hs,fun h=>⟨Int.le_refl _,by have:=of_decide_eq_true h.2;omega⟩⟩,fun h=> ?_,fun h=> ?_⟩
 ·have h:(Kn s).2=false:=by simpa using h
  have e:Kn s=(0,false):=by
   unfold Kn at h⊢
   split
   ·rfl
   ·rename_i q
    rw[if_neg q] at h
    exact Jf5 h
  rw[e];exact⟨rfl,rfl⟩
 ·have h:(Kn s).2=true:=by simpa using h
  exact⟨hs,Jto h,h.symm⟩
abbrev K8e:=K8f.add Ktp
def Jud:List UInt8→Int→Int
 |[],x=>x
 |b::r,x=>Jud r ((341*x+(b.toNat:Int)).tmod 9999721)
def Jg1 (s:ByteArray):Int:=Jud s.data.toList 1
def K6l (l:List UInt8):List UInt8:=List.replicate (7-l.length) 48++l
def Jpv (s:ByteArray):ByteArray:=bs (K6l (Lib.itoa (Jg1 s)))
theorem Ju6:∀{l:List UInt8} {x:Int},0≤x∧x<9999721→0≤Jud l x∧Jud l x<9999721
 |[],_,h=>h
 |b::r,x,h=>by
  unfold Jud
  have hb:(0:Int)≤b.toNat:=by omega
  exact Ju6 ⟨Int.tmod_nonneg _ (by omega),Int.tmod_lt_of_pos _ (by decide)⟩
theorem Jnt (s:ByteArray):0≤Jg1 s∧Jg1 s<9999721:=Ju6 ⟨by decide,by decide⟩
theorem Ji9 (s:ByteArray):1≤(Lib.itoa (Jg1 s)).length∧(Lib.itoa (Jg1 s)).length≤7:=by
 obtain⟨h0,h1⟩:=Jnt s
 obtain⟨u,hu⟩:=Int.eq_ofNat_of_zero_le h0
 rw[hu] at h1⊢
 rw[show Lib.itoa (u:Int)=Lib.decDigits u from Lib.itoa_nonneg u]
 exact⟨Jf7 u,(Jxp 6 u).2 (by have:u<9999721:=(by omega);omega)⟩
theorem K9b (n:Nat):Lib.repeatL [48] n=List.replicate n 48:=by
 induction n with
 |zero=>rfl
 |succ n ih=>rw[List.replicate_succ,←ih];rfl
def K6t:Con:={args:=[aS],ress:=[tS],owns:=[],pre:=fun(s,_)=>[s.size≤1000000],spec:=fun(s,_)=>(Jpv s,())}
abbrev Kif (s:ByteArray):Ann:={X:=Nat×Int,σ:=fun(k,x)=>⟨0,[(0, .one (.str s)),(3, .one (.int .i64 x)),(7, .one (.int .i64 s.size)),(8, .one (.int .i64 k))],[]⟩,inv:=fun(k,x)=>k≤s.size∧(0≤x∧x<9999721)∧Jud (s.data.toList.drop k) x=Jg1 s,mu:=fun(k,_)=>s.size-k}
theorem Jye (s:ByteArray) (k:Nat):(s.data.toList.getD k 0).toNat<256:=(s.data.toList.getD k 0).toNat_lt
def Klh (a:Nat×Int):=7-Nc (ByteArray.size (Vs a.2))
def K5k (a:Nat×Int):=Kf0 (ByteArray.mk (Array.mk [48])) (Klh a)
def Kp7 (a:Nat×Int) (b:Bt):=341*a.2+Nc (UInt8.toNat (List.getD (Z9 b) a.1 0))
def Koz (a:Nat×Int) (b:Bt) (c:Nat×Int):=Int.tmod (Kp7 a b) 9999721=c.2
def J95 (a:Nat×Int) (b:Bt):=a.1≤ByteArray.size b∧Bd a.2 9999721∧Jud (List.drop a.1 (Z9 b)) a.2=Jg1 b
def Kni (a:Nat×Int) (b:Bt) (c:Nat×Int):=J95 a b∧ByteArray.size b-a.1<ByteArray.size b-c.1
def Kmj (a:Nat×Int) (b:Bt):=Iw (341*a.2)∧Bd (Nc a.1) (Nc (ByteArray.size b))∧Iw (Nc (UInt8.toNat (List.getD (Z9 b) a.1 0)))∧Iw (Kp7 a b)∧((9999721:Int)=0→False)
theorem Ktr:Ok Tryz.prog 184 K6t:=okW K8e Tryz.f184 (fun xx=>Zg (Kif xx.1)) fun xx=>by
 obtain⟨(s:ByteArray),_⟩:=xx
 refine(by kernel_rfl:(ByteArray.size s≤1000000→∃(x:Nat×Int),Sf s (1=x.2∧Si (Nc (ByteArray.size s)) (0=Nc x.1))∧J95 x s∧∀(x:Nat×Int),J95 x s→Br (decide (Nc x.1<Nc (ByteArray.size s))) (Kmj x s∧Z43 x∧∃(y:Nat×Int),Sf s (Koz x s y∧Si (Nc (ByteArray.size s)) (Jt2 x y))∧Kni y s x) (Iw x.2∧(Iw (Klh x)∧1≤1000000∧(0≤Klh x∧Klh x≤1000000)∧Nc (ByteArray.size (K5k x)+ByteArray.size (Vs x.2))≤9223372036854775807)∧ByteArray.mk (Array.mk ((K5k x).data.toList++(Vs x.2).data.toList))=Jpv s))=_).mp ?_
 delta Z9 Z43 Jt2 Klh K5k Kp7 Koz J95 Kni Kmj Br Iw Bd Sf Si Nc
 intro hs
 refine⟨((0:Nat),(1:Int)),by simp,⟨Nat.zero_le _,by(first|omega|dsimp only;omega),rfl⟩,fun(y:Nat×Int) hk=>⟨fun h=> ?_,fun h=> ?_⟩⟩
 ·obtain⟨k,x⟩:=y
  have hlt:k<s.size:=by simpa using h
  obtain⟨k1,k2,k3⟩:=hk
  dsimp only at k1 k2
  rw[Fa hlt,Jud] at k3
  have hb:=Jye s k
  refine⟨by(dsimp only;omega),by(dsimp only;omega),(k+1,_),⟨rfl,rfl,rfl, ?_⟩,⟨by(first|omega|dsimp only;omega), ?_,k3⟩,by(first|omega|dsimp only;omega)⟩
  ·dsimp only;push_cast;rfl
  ·exact⟨Int.tmod_nonneg _ (by(first|omega|dsimp only;omega)),Int.tmod_lt_of_pos _ (by decide)⟩
 ·obtain⟨k,x⟩:=y
  have hlt:¬k<s.size:=by simpa using h
  obtain⟨k1,k2,k3⟩:=hk
  have e:k=s.size:=by omega
  rw[e,List.drop_eq_nil_of_le (by simp),Jud] at k3
  have k3:x=Jg1 s:=k3
  have hl:=Ji9 s
  dsimp only
  rw[k3]
  have hz:(Vs (Jg1 s)).size=(Lib.itoa (Jg1 s)).length:=rfl
  rw[hz]
  have hr:Kf0 {data:={toList:=[48]}} (7-((Lib.itoa (Jg1 s)).length:Int))=bs (List.replicate (7-(Lib.itoa (Jg1 s)).length) 48):=by
   unfold Kf0
   rw[show(7-((Lib.itoa (Jg1 s)).length:Int)).toNat=7-(Lib.itoa (Jg1 s)).length by omega]
   exact congrArg bs (K9b _)
  have hb:=Jnt s
  rw[hr,Xz,List.length_replicate]
  exact⟨by omega,⟨by omega,by decide,by omega,by omega⟩,rfl⟩
abbrev K8d:=K8e.add Ktr
def J3e (e:Ev):List ByteArray:=Vs e.1::e.2.1::(e.2.2.1++e.2.2.2.1.map Vs)
def Hn (e:Ev):ByteArray:=Vz (J3e e) ⟨⟨[32]⟩⟩
def Kho:Con:={args:=[.val false (.list 3 sI), .fn [I] tS],ress:=[(false, .list 9 .str)],owns:=[true],pre:=fun(l,(q,_),_)=>[l.length≤1000000,∀x∈l,Us (q (x,()))],spec:=fun(l,(_,f),_)=>(l.map fun x=>f (x,()),())}
def Ke0 (a:Int×Unit→Bt) (b:Nat) (c:Li):=List.map (fun(x:Int)=>a (x,PUnit.unit)) (List.take b c)
theorem Ktg:Ok Tryz.prog 199 Kho:=okW K8d Tryz.f199 (fun xx=>Zg (Jb4 3 9 sI xx.1 tS false xx.2.1.1 xx.2.1.2)) fun xx=>by
 obtain⟨(l:List Int),⟨(q:Int×Unit→List Prop),(f:Int×Unit→ByteArray)⟩,_⟩:=xx
 refine(by kernel_rfl:(Z57 l→Kp3 l q→∃(x:Nat),Si (Ln l) (0=Nc x∧Sf l ((fun(x:Int×PUnit)=>q x)=q∧(fun(x:Int×PUnit)=>f x)=f∧List.length (Ke0 f x l)=0))∧x≤List.length l∧∀(x:Nat),x≤List.length l→Br (decide (Nc x<Ln l)) (Z89 x l∧(Us (q (Z16 l x,PUnit.unit))∧(List.length (Ke0 f x l)+1)*16≤140737488355328)∧Z21 x∧∃(y:Nat),Si (Ln l) (V4 x y∧Sf l ((fun(x:Int×PUnit)=>q x)=q∧(fun(x:Int×PUnit)=>f x)=f∧Ke0 f x l++[f (Z16 l x,PUnit.unit)]=Ke0 f y l))∧y≤List.length l∧J01 l y x) (Ke0 f x l=List.map (fun(x:Int)=>f (x,PUnit.unit)) l))=_).mp ?_
 delta Z16 Z21 Z57 Z89 V4 Kas J01 Ke0 Kp3 Br Iw Bd Tw Sf Si Ln Nc
 intro hb hq
 refine⟨(0:Nat),⟨rfl,rfl,rfl,rfl,rfl,by simp⟩,Nat.zero_le _,fun(k:Nat) hk=>⟨fun h=> ?_,fun h=> ?_⟩⟩
 ·have hlt:k<l.length:=by simpa using h
  refine⟨by omega,⟨hq (l.getD k 0) (Je hlt),by simp only[List.length_map,List.length_take];omega⟩,by omega,(k+1:Nat),⟨rfl,by simp,rfl,rfl,rfl, ?_⟩,by omega,by omega⟩
  rw[←Ke (d:=0) hlt,List.map_append];rfl
 ·have hlt:¬k<l.length:=by simpa using h
  rw[List.take_of_length_le (by omega)]
abbrev K8c:=K8d.add Ktg
structure Dk (e:Ev):Prop where
 num: -999999999≤e.1∧e.1≤999999999
 nn:e.2.2.1.length≤1000
 nv:e.2.2.2.1.length≤1000
 val:∀v∈e.2.2.2.1,-999999999≤v∧v≤999999999
 siz:((J3e e).map fun s=>s.size+1).sum≤1000000
theorem Jj5 {sep:List UInt8} (hs:sep.length=1):∀{l:List (List UInt8)},(Lib.join l sep).length≤(l.map fun x=>x.length+1).sum
 |[]=>by simp[Lib.join,List.intercalate]
 |[x]=>by simp[Lib.join,List.intercalate,List.intersperse]
 |x::y::r=>by
  have ih:=Jj5 hs (l:=y::r)
  have e:Lib.join (x::y::r) sep=x++sep++Lib.join (y::r) sep:=by simp[Lib.join,List.intercalate,List.intersperse]
  rw[e]
  simp only[List.length_append,List.map_cons,List.sum_cons] at ih⊢
  omega
theorem Jig {e:Ev} (h:Dk e):(Lib.join ((J3e e).map (·.data.toList)) [32]).length≤1000000:=by
 refine Nat.le_trans (Jj5 (sep:=[32]) rfl) (Nat.le_trans (Nat.le_of_eq ?_) h.siz)
 rw[List.map_map]
 congr 1
def Kwt:Con:={args:=[aEv],ress:=[tS],owns:=[],pre:=fun(e,_)=>[Dk e],spec:=fun(e,_)=>(Hn e,())}
def H7:=ByteArray.mk (Array.mk [32])
def Kqw (a:Ls) (b:Li):=[]++a++List.map (fun(x:Int)=>Vs x) b
theorem Kts:Ok Tryz.prog 183 Kwt:=okW K8c Tryz.f183 na fun xx=>by
 obtain⟨⟨(n:Int),(k:ByteArray),(ns:List ByteArray),(vs:List Int),(tx:ByteArray)⟩,_⟩:=xx
 refine(by kernel_rfl:(Dk (n,k,ns,vs,tx)→(Iw n∧(2+List.length ns)*16≤140737488355328)∧(Z57 vs∧(∀(x:Int),Kas vs x→Iw x)∧(List.length (Vs n::k::([]++ns))+List.length (List.map (fun(x:Int)=>Vs x) vs))*16≤140737488355328∧List.length (Vs n::k::Kqw ns vs)≤1000000∧List.length (Lib.join ((Vs n).data.1::k.data.1::List.map (fun(x:ByteArray)=>Z9 x) (Kqw ns vs)) [32])≤140737488355328)∧Vz (Vs n::k::Kqw ns vs) H7=Hn (n,k,ns,vs,tx))=_).mp ?_
 delta Z9 Z57 H7 Kas Kqw Iw
 intro h
 have h1: -999999999≤n∧n≤999999999:=h.num
 have h2:ns.length≤1000:=h.nn
 have h3:vs.length≤1000:=h.nv
 have hs:=Jig h
 simp only[List.nil_append,List.length_cons,List.length_append,List.length_map]
 exact⟨by omega,⟨by omega,fun x hx=>by have:=h.val x hx;omega,by omega,by omega,Nat.le_trans hs (by decide)⟩,rfl⟩
abbrev K8b:=K8c.add Kts
theorem Jlh (s:ByteArray):(Jpv s).size=7:=by
 have h:=Ji9 s
 unfold Jpv K6l
 rw[Xz,List.length_append,List.length_replicate]
 omega
theorem Jrb {e:Ev} (h:Dk e):(Hn e).size≤1000000:=Jig h
def J7j (e:Ev):ByteArray:=bs ((Hn e).data.toList++[35]++(Jpv (Hn e)).data.toList++[10])
def Ua2:Con:={args:=[aEv],ress:=[tS],owns:=[],pre:=fun(e,_)=>[Dk e],spec:=fun(e,_)=>(J7j e,())}
def K0i (a:Int) (b:Bt) (c:Ls) (d:Li) (e:Bt):=Array.mk ((Array.mk ((Hn (a,b,c,d,e)).data.toList++[35])).toList++(Jpv (Hn (a,b,c,d,e))).data.toList)
theorem Kvi:Ok Tryz.prog 106 Ua2:=okW K8b Tryz.f106 na fun xx=>by
 obtain⟨⟨(n:Int),(k:ByteArray),(ns:List ByteArray),(vs:List Int),(tx:ByteArray)⟩,_⟩:=xx
 refine(by kernel_rfl:(Dk (n,k,ns,vs,tx)→Dk (n,k,ns,vs,tx)∧(Nc (ByteArray.size (Hn (n,k,ns,vs,tx))+1)≤9223372036854775807∧ByteArray.size (Hn (n,k,ns,vs,tx))≤1000000∧Nc (ByteArray.size (ByteArray.mk (Array.mk ((Hn (n,k,ns,vs,tx)).data.toList++[35])))+ByteArray.size (Jpv (Hn (n,k,ns,vs,tx))))≤9223372036854775807∧Nc (ByteArray.size (ByteArray.mk (K0i n k ns vs tx))+1)≤9223372036854775807)∧ByteArray.mk (Array.mk ((K0i n k ns vs tx).toList++[10]))=J7j (n,k,ns,vs,tx))=_).mp ?_
 delta K0i Nc
 intro h
 have h1:=Jrb h
 have h2:=Jlh (Hn (n,k,ns,vs,tx))
 have h3:(bs ((Hn (n,k,ns,vs,tx)).data.toList++[35])).size=(Hn (n,k,ns,vs,tx)).size+1:=by rw[Xz,List.length_append];simp
 have h4:(bs ((Hn (n,k,ns,vs,tx)).data.toList++[35]++(Jpv (Hn (n,k,ns,vs,tx))).data.toList)).size=(Hn (n,k,ns,vs,tx)).size+8:=by rw[Xz,List.length_append,List.length_append];simp[h2]
 refine⟨h,⟨by omega,h1, ?_, ?_⟩,rfl⟩
 ·show((bs ((Hn (n,k,ns,vs,tx)).data.toList++[35])).size+(Jpv (Hn (n,k,ns,vs,tx))).size:Nat)≤(9223372036854775807:Int)
  omega
 ·show((bs ((Hn (n,k,ns,vs,tx)).data.toList++[35]++(Jpv (Hn (n,k,ns,vs,tx))).data.toList)).size+1:Nat)≤(9223372036854775807:Int)
  omega
abbrev Ucb:=K8b.add Kvi
abbrev K8a:=Ucb.add Ksd
abbrev Tk:=List ByteArray×Bool
def Va:Tk→ByteArray×Tk
 |([],_)=>(Jb,[],true)
 |(w::l,b)=>bif w.toList==Jb.toList then(Jb,[],true) else(w,l,b)
def Dd (t:Tk):Bool:=bif (t.1.length:Int)==0 then true else(t.1.getD 0 Jb).toList==Jb.toList
theorem Ja5:∀(t:Tk),Va t=bif Dd t then(Jb,[],true) else(t.1.getD 0 Jb,t.1.drop 1,t.2)
 |([],_)=>rfl
 | (w :: l, b) => by
  have e:Dd (w::l,b)=(w.toList==Jb.toList):=by
   unfold Dd
   rw[beq_eq_false_iff_ne.2 (show(((w::l,b):Tk).1.length:Int)≠0 by simp;omega)];rfl
  rw[e]
  show(bif w.toList==Jb.toList then(Jb,[],true) else(w,l,b))=_
  cases w.toList==Jb.toList<;>rfl
theorem Jee {t:Tk} (h:Dd t=false):0<t.1.length:=by
 unfold Dd at h
 by_cases q:t.1.length=0
 ·rw[q] at h;cases h
 ·omega
def J66 (t:Tk):Int×Tk:=((Kn (Va t).1).1,(Va t).2.1,bif (Va t).2.2 then true else !(Kn (Va t).1).2)
def Dv:Nat→Tk→List ByteArray→List ByteArray×Tk
 |0,t,o=>(o,t)
 |n+1,t,o=>Dv n (Va t).2 (o++[(Va t).1])
def Ja6:Nat→Tk→List Int→List Int×Tk
 |0,t,o=>(o,t)
 |n+1,t,o=>Ja6 n (J66 t).2 (o++[(J66 t).1])
def evz:Ev:=(0,Jb,[],[],Jb)
theorem Jfk (k:ByteArray):(Jk k).1.length≤3∧0≤(Jk k).2.1∧(Jk k).2.1≤4:=by
 cases h:Y2 k with
 | false =>
  have e:Jk k=([],0,none,none,none):=by
   unfold Y2 at h
   unfold Jk
   cases hm:Ue .str k Dc with
   |none=>rfl
   |some v=>rw[hm] at h;cases h
  rw[e];decide
 |true=>
  rcases Uo h with h|h|h|h|h|h|h|h|h|h|h<;>subst h
  all_goals first|(rw[D3];decide)|(rw[Kc];decide)|(rw[K8];decide)|(rw[Kp];decide)|(rw[Kq];decide)|(rw[Uf];decide)|(rw[Jy];decide)|(rw[Js];decide)|(rw[J5];decide)|(rw[J4];decide)|(rw[K6];decide)
def Zj (ws:List ByteArray):List ByteArray×Tk:=Dv (Jk (Va (ws,false)).1).1.length (Va (ws,false)).2 []
def Jc9 (ws:List ByteArray):List Int×Tk:=Ja6 (Jk (Va (ws,false)).1).2.1.toNat (Zj ws).2 []
def Xp (ws:List ByteArray):Ev×Bool:=bif Y2 (Va (ws,false)).1 then((0,(Va (ws,false)).1,(Zj ws).1,(Jc9 ws).1,Jb),bif !(Jc9 ws).2.2 then((Jc9 ws).2.1.length:Int)==0 else false) else(evz,false)
def Kwa:Con:={args:=[.val false (.list 9 .str)],ress:=[(true,sEv),Bo],owns:=[],pre:=fun(ws,_)=>[ws.length≤1000000,∀w∈ws,w.size≤1000000],spec:=fun(ws,_)=>((Xp ws).1,(Xp ws).2,())}
abbrev J9i (ws:List ByteArray):Nat→Option Ann:=fun id=>if id=0 then some {X:=Nat×Tk×List ByteArray,σ:=fun(i,(rem,b),o)=>⟨9,[(2, .one (.ptr 1 0)),(4, .one (.ptr 2 0)),(5, .one (.fv 3)),(6, .one (.fv 4)),(7, .one (.ptr 5 0)),(8, .one (.ptr 7 0)),(34, .one (.int .i64 (Jk (Va (ws,false)).1).1.length)),(35, .one (.int .i64 i))],[(1, .box 67 [.int .i64 0, .str Jb, .val (.slice none 0 0), .val (.slice none 0 0), .str Jb]),(2, .box 279 [.sl 0, .bool b]),(3, .clo 210 [.one (.ptr 2 0)] []),(4, .clo 211 [.one (.ptr 2 0)] []),(5, .box 67 [.int .i64 0, .str (Va (ws,false)).1, .sl 6, .val (.slice none 0 0), .str Jb]),(7, .box 173 [.sl 8, .int .i64 (Jk (Va (ws,false)).1).2.1, .fno (Jk (Va (ws,false)).1).2.2.1, .fno (Jk (Va (ws,false)).1).2.2.2.1, .fno (Jk (Va (ws,false)).1).2.2.2.2]),(6, .own 9 .str o),(8, .imm 251 J1z (Jk (Va (ws,false)).1).1),(0, .imm 9 .str rem)]⟩,inv:=fun(i,t,o)=>i≤(Jk (Va (ws,false)).1).1.length∧t.1.length≤1000000∧(∀w∈t.1,w.size≤1000000)∧o.length=i∧Dv ((Jk (Va (ws,false)).1).1.length-i) t o=Zj ws,mu:=fun(i,_)=>(Jk (Va (ws,false)).1).1.length-i}
 else if id=2 then some {X:=Nat×Tk×List Int,σ:=fun(i,(rem,b),o)=>⟨10,[(2, .one (.ptr 1 0)),(4, .one (.ptr 2 0)),(6, .one (.fv 4)),(7, .one (.ptr 5 0)),(47, .one (.int .i64 (Jk (Va (ws,false)).1).2.1)),(48, .one (.int .i64 i))],[(1, .box 67 [.int .i64 0, .str Jb, .val (.slice none 0 0), .val (.slice none 0 0), .str Jb]),(2, .box 279 [.sl 0, .bool b]),(4, .clo 211 [.one (.ptr 2 0)] []),(5, .box 67 [.int .i64 0, .str (Va (ws,false)).1, .sl 6, .sl 9, .str Jb]),(6, .own 9 .str (Zj ws).1),(9, .own 3 sI o),(0, .imm 9 .str rem)]⟩,inv:=fun(i,t,o)=>i≤(Jk (Va (ws,false)).1).2.1.toNat∧t.1.length≤1000000∧(∀w∈t.1,w.size≤1000000)∧o.length=i∧Ja6 ((Jk (Va (ws,false)).1).2.1.toNat-i) t o=Jc9 ws,mu:=fun(i,_)=>(Jk (Va (ws,false)).1).2.1.toNat-i}
 else none
def Z72 (a:Ls):=(Jk (Va (a,false)).1).1
def Z76 (a:Ls):=(Jk (Va (a,false)).1).2
def J09 (a:Ls):=(Z76 a).1
def Kll (a:Ls):=(Z76 a).2.1
def Klk (a:Ls):=(Z76 a).2.2.2
def Klj (a:Ls):=(Z76 a).2.2.1
def Kli (a:Nat×Tk×Li):=List.getD a.2.1.1 0 B0
def Kax (a:Ls):=Int.toNat (J09 a)
def Ke7 (a:Ls):=Ln (Z72 a)
def Kao (a:Ls):=List.length (Z72 a)
def K58 (a:Nat×Tk×Ls):=(List.length a.2.2+1)*16≤140737488355328
def K56 (a:Ls):=(Jk (Va (a,false)).1).1=Z72 a
def K4b (a:Ls):=Sf true (Fe=(Xp a).1∧false=(Xp a).2)
def K1h (a:Ls):=Ue Sch.str (U8 a) Dc
def Kme (a:Ls):=Option.getD (K1h a) Keq
def Kyo (a:Nat×(Ls×Bool)×Li) (b:Ls):=a.1≤Kax b∧List.length a.2.1.1≤1000000∧(∀(w:ByteArray),w∈a.2.1.1→ByteArray.size w≤1000000)∧List.length a.2.2=a.1∧Ja6 (Kax b-a.1) a.2.1 a.2.2=Jc9 b
def Kyn (a:Ls):=(Kme a).2
def Kym (a:Ls):=(Kyn a).2
def Kyl (a:Ls):=(Kym a).2
def Kyb (a:Nat×(Ls×Bool)×Ls) (b:Ls):=a.1≤Kao b∧List.length a.2.1.1≤1000000∧(∀(w:ByteArray),w∈a.2.1.1→ByteArray.size w≤1000000)∧List.length a.2.2=a.1∧Dv (Kao b-a.1) a.2.1 a.2.2=Zj b
def Kxz (a:Nat×(Ls×Bool)×Li) (b:Ls) (c:Nat×Tk×Li):=Kyo a b∧Kax b-a.1<Kax b-c.1
def Kxm (a:Nat×(Ls×Bool)×Ls) (b:Ls) (c:Nat×Tk×Ls):=Kyb a b∧Kao b-a.1<Kao b-c.1
def Ka0 (a:Nat×(Ls×Bool)×Ls) (b:Ls):=Kyb a b∧∀(x:Nat×Tk×List ByteArray),x.1≤Kao b∧List.length x.2.1.1≤1000000∧(∀(w:ByteArray),w∈x.2.1.1→ByteArray.size w≤1000000)∧List.length x.2.2=x.1∧Dv (Kao b-x.1) x.2.1 x.2.2=Zj b→Br (decide (Nc x.1<Ke7 b)) (Tw ((Ln x.2.1.1==0)=false→Bd 0 (Ln x.2.1.1))∧Br (bif Ln x.2.1.1==0 then true else Lb (List.getD x.2.1.1 0 B0) B0) (K58 x∧Iw (Nc x.1+1)∧∃(y:Nat×(List ByteArray×Bool)×List ByteArray),Si (Ke7 b) (Nc x.1+1=Nc y.1∧Si 0 (Sf Jb (Sf J7 (Sf J7 (Sf Jb (true=y.2.1.2∧Si 0 (Sf (Va (b,false)).1 (Sf J7 (Sf Jb (Si (J09 b) (Sf (Kll b) (Sf (Klj b) (Sf (Klk b) (x.2.2++[B0]=y.2.2∧K56 b∧List.length y.2.1.1=0))))))))))))))∧Kxm y b x) (Tw (Bd 0 (Ln x.2.1.1))∧((0:Int)≤1∧1≤Ln x.2.1.1∧Ln x.2.1.1≤Ln x.2.1.1)∧K58 x∧Iw (Nc x.1+1)∧∃(y:Nat×(List ByteArray×Bool)×List ByteArray),Si (Ke7 b) (Nc x.1+1=Nc y.1∧Si 0 (Sf Jb (Sf J7 (Sf J7 (Sf Jb (x.2.1.2=y.2.1.2∧Si 0 (Sf (Va (b,false)).1 (Sf J7 (Sf Jb (Si (J09 b) (Sf (Kll b) (Sf (Klj b) (Sf (Klk b) (x.2.2++[List.getD x.2.1.1 0 B0]=y.2.2∧K56 b∧List.drop 1 (List.take (List.length x.2.1.1) x.2.1.1)=y.2.1.1))))))))))))))∧Kxm y b x)) (∃(x_1:Nat×(List ByteArray×Bool)×List Int),Si (J09 b) (0=Nc x_1.1∧Si 0 (Sf Jb (Sf J7 (Sf J7 (Sf Jb (x.2.1.2=x_1.2.1.2∧Si 0 (Sf (Va (b,false)).1 (Sf Jb (x.2.2=(Zj b).1∧List.length x_1.2.2=0∧x.2.1.1=x_1.2.1.1)))))))))∧Kyo x_1 b∧∀(x:Nat×Tk×List Int),x.1≤Kax b∧List.length x.2.1.1≤1000000∧(∀(w:ByteArray),w∈x.2.1.1→ByteArray.size w≤1000000)∧List.length x.2.2=x.1∧Ja6 (Kax b-x.1) x.2.1 x.2.2=Jc9 b→Br (decide (Nc x.1<J09 b)) (Tw ((Ln x.2.1.1==0)=false→Bd 0 (Ln x.2.1.1))∧Br (bif Ln x.2.1.1==0 then true else Lb (Kli x) B0) (0≤1000000∧(List.length x.2.2+1)*8≤140737488355328∧Iw (Nc x.1+1)∧∃(y:Nat×(List ByteArray×Bool)×List Int),Si (J09 b) (Nc x.1+1=Nc y.1∧Si 0 (Sf Jb (Sf J7 (Sf J7 (Sf Jb (true=y.2.1.2∧Si 0 (Sf (Va (b,false)).1 (Sf Jb ((Zj b).1=(Zj b).1∧x.2.2++[(Kn B0).1]=y.2.2∧List.length y.2.1.1=0)))))))))∧Kxz y b x) (Tw (Bd 0 (Ln x.2.1.1))∧((0:Int)≤1∧1≤Ln x.2.1.1∧Ln x.2.1.1≤Ln x.2.1.1)∧ByteArray.size (Kli x)≤1000000∧(List.length x.2.2+1)*8≤140737488355328∧Iw (Nc x.1+1)∧∃(y:Nat×(List ByteArray×Bool)×List Int),Si (J09 b) (Nc x.1+1=Nc y.1∧Si 0 (Sf Jb (Sf J7 (Sf J7 (Sf Jb ((bif x.2.1.2 then true else !(Kn (Kli x)).2)=y.2.1.2∧Si 0 (Sf (Va (b,false)).1 (Sf Jb ((Zj b).1=(Zj b).1∧x.2.2++[(Kn (Kli x)).1]=y.2.2∧List.drop 1 (List.take (List.length x.2.1.1) x.2.1.1)=y.2.1.1)))))))))∧Kxz y b x)) (Sf true ((0,(Va (b,false)).1,(Zj b).1,x.2.2,Jb)=(Xp b).1∧(bif !x.2.1.2 then Ln x.2.1.1==0 else false)=(Xp b).2)))
theorem Kvc:Ok Tryz.prog 120 Kwa:=Jwm K8a Tryz.f120 (U0 (l:=([(210,Tryz.f210),(211,Tryz.f211)]:List (Nat×Func))) (List.forall_mem_cons.2 ⟨by kernel_rfl,List.forall_mem_cons.2 ⟨by kernel_rfl,by simp⟩⟩)) (fun xx=>J9i xx.1) (fun xx=>fun _=>na ()) fun xx=>by
 obtain⟨(ws:List ByteArray),_⟩:=xx
 refine(by kernel_rfl:(Fu ws→Jgk ws→Tw ((Ln ws==0)=false→Yj ws)∧Br (bif Ln ws==0 then true else Lb (U8 ws) B0) (Br true (K4b ws) (∃(x:Nat×(List ByteArray×Bool)×List ByteArray),(0=Ke7 ws∧0=Nc x.1∧Si 0 (B0=Jb∧Sf J7 (Sf J7 (B0=Jb∧true=x.2.1.2∧Si 0 (B0=(Va (ws,false)).1∧Sf J7 (B0=Jb∧0=J09 ws∧none=Kll ws∧none=Klj ws∧none=Klk ws∧List.length x.2.2=0∧[]=Z72 ws∧List.length x.2.1.1=0))))))∧Ka0 x ws)) (Tw (Yj ws)∧((0:Int)≤1∧1≤Ln ws∧Ln ws≤Ln ws)∧Br (!Option.isSome (K1h ws)) (K4b ws) (∃(x:Nat×(List ByteArray×Bool)×List ByteArray),(Ln (Kme ws).1=Ke7 ws∧0=Nc x.1∧Si 0 (B0=Jb∧Sf J7 (Sf J7 (B0=Jb∧false=x.2.1.2∧Si 0 (U8 ws=(Va (ws,false)).1∧Sf J7 (B0=Jb∧(Kyn ws).1=J09 ws∧(Kym ws).1=Kll ws∧(Kyl ws).1=Klj ws∧(Kyl ws).2=Klk ws∧List.length x.2.2=0∧(Kme ws).1=Z72 ws∧List.drop 1 (List.take (List.length ws) ws)=x.2.1.1))))))∧Ka0 x ws)))=_).mp ?_
 delta Z72 Z76 U8 Yj J09 Kll Fu Klk Klj Kli J7 Kax Fe Ke7 Kao K58 K56 Jgl Keq K4b Jgk K1h Kme Kyo Kyn Kym Kyl Kyb Kxz Kxm Ka0 Br Iw Bd Tw Sf Si Ln Nc B0 Lb
 intro h1 h2
 have hk0:Y2 Jb=false:=by kernel_rfl
 have hB:=Jfk (ws.getD 0 Jb)
 have hsz:∀k,k<ws.length→(ws.getD k Jb).size≤1000000:=fun k hk=>h2 _ (Je hk)
 refine⟨⟨fun h=> ?_,fun h=> ?_⟩,fun hc=>⟨fun _=>⟨rfl, ?_⟩,fun h=>(by cases h)⟩,fun hc=> ?_⟩
 ·have:=beq_eq_false_iff_ne.1 h;omega
 ·have:=beq_eq_false_iff_ne.1 h;omega
 ·have e:Va (ws,false)=(Jb,[],true):=by rw[Ja5,show Dd (ws,false)=true from hc];rfl
  have e2:Xp ws=(evz,false):=by unfold Xp;rw[e,hk0];rfl
  rw[e2];exact⟨rfl,rfl⟩
 ·have hc':Dd (ws,false)=false:=hc
  have e:Va (ws,false)=(ws.getD 0 Jb,ws.drop 1,false):=by rw[Ja5,hc'];rfl
  have hl:0<ws.length:=Jee hc'
  have eD:(Ue Sch.str (ws.getD 0 ({data:={toList:=[]}}:ByteArray)) Dc).getD ([],0,none,none,none)=Jk (ws.getD 0 Jb):=rfl
  have eK:(Ue Sch.str (ws.getD 0 ({data:={toList:=[]}}:ByteArray)) Dc).isSome=Y2 (ws.getD 0 Jb):=rfl
  simp only[e,eD,eK]
  refine⟨by omega,by omega,fun hk=>⟨trivial, ?_⟩,fun hk=>⟨((0:Nat),(ws.drop 1,false),[]), ?_,⟨Nat.zero_le _,by simp only[List.length_drop];omega,fun w hw=>h2 w (List.mem_of_mem_drop hw),rfl,by unfold Zj;rw[e];rfl⟩,fun(x:Nat×Tk×List ByteArray) hx=>⟨fun hlt=> ?_,fun hlt=> ?_⟩⟩⟩
  ·have hk:Y2 (ws.getD 0 Jb)=false:=by simpa using hk
   have e2:Xp ws=(evz,false):=by unfold Xp;rw[e,hk];rfl
   rw[e2];exact⟨rfl,rfl⟩
  ·rw[List.take_length]
   repeat' first|exact rfl|exact⟨⟩|apply And.intro|omega|dsimp only;omega
  ·obtain⟨i,⟨rem,b⟩,o⟩:=x
   obtain⟨i1,i2,i3,i4,i5⟩:=hx
   have hlt:i<(Jk (ws.getD 0 Jb)).1.length:=by simpa using hlt
   dsimp only at i1 i2 i3 i4 i5
   have hn:(Jk (ws.getD 0 Jb)).1.length-i=((Jk (ws.getD 0 Jb)).1.length-(i+1))+1:=by omega
   rw[hn,Dv,Ja5] at i5
   refine⟨⟨fun h=> ?_,fun h=> ?_⟩,fun h=> ?_,fun h=> ?_⟩
   ·have:=beq_eq_false_iff_ne.1 h;(first|omega|dsimp only;omega)
   ·have:=beq_eq_false_iff_ne.1 h;(first|omega|dsimp only;omega)
   ·have h:Dd (rem,b)=true:=h
    rw[h,cond_true] at i5
    refine⟨by(first|omega|dsimp only;omega),by(dsimp only;omega),(i+1,([],true),o++[Jb]), ?_,⟨by(first|omega|dsimp only;omega),by simp,fun w hw=>(by cases hw),by simp[i4],i5⟩,by(first|omega|dsimp only;omega)⟩
    repeat' first|exact rfl|exact⟨⟩|apply And.intro|omega|dsimp only;omega
   ·have h:Dd (rem,b)=false:=h
    have hr:0<rem.length:=Jee h
    rw[h,cond_false] at i5
    refine⟨by(dsimp only;omega),by(dsimp only;omega),by(first|omega|dsimp only;omega),by(dsimp only;omega),(i+1,(rem.drop 1,b),o++[rem.getD 0 Jb]), ?_,⟨by(first|omega|dsimp only;omega),by simp only[List.length_drop];omega,fun w hw=>i3 w (List.mem_of_mem_drop hw),by simp[i4],i5⟩,by(first|omega|dsimp only;omega)⟩
    dsimp only
    rw[List.take_length]
    repeat' first|exact rfl|exact⟨⟩|apply And.intro|omega|dsimp only;omega
  ·obtain⟨i,⟨rem,b⟩,o⟩:=x
   obtain⟨i1,i2,i3,i4,i5⟩:=hx
   have hlt:¬i<(Jk (ws.getD 0 Jb)).1.length:=by simpa using hlt
   dsimp only at i1 i2 i3 i4 i5
   have hn:(Jk (ws.getD 0 Jb)).1.length-i=0:=by omega
   rw[hn,Dv] at i5
   have eN:(Zj ws).1=o:=by rw[←i5]
   have eT:(Zj ws).2=(rem,b):=by rw[←i5]
   simp only[eN]
   refine⟨((0:Nat),(rem,b),[]), ?_,⟨Nat.zero_le _,i2,i3,rfl,by unfold Jc9;rw[e,eT];rfl⟩,fun(x:Nat×Tk×List Int) hx=>⟨fun hlt=> ?_,fun hlt=> ?_⟩⟩
   ·repeat' first|exact rfl|exact⟨⟩|apply And.intro|omega|dsimp only;omega
   ·obtain⟨j,⟨rem,b⟩,o2⟩:=x
    obtain⟨j1,j2,j3,j4,j5⟩:=hx
    have hlt:(j:Int)<(Jk (ws.getD 0 Jb)).2.1:=of_decide_eq_true hlt
    dsimp only at j1 j2 j3 j4 j5
    have hn:(Jk (ws.getD 0 Jb)).2.1.toNat-j=((Jk (ws.getD 0 Jb)).2.1.toNat-(j+1))+1:=by omega
    rw[hn,Ja6,J66,Ja5] at j5
    refine⟨⟨fun h=> ?_,fun h=> ?_⟩,fun h=> ?_,fun h=> ?_⟩
    ·have:=beq_eq_false_iff_ne.1 h;(first|omega|dsimp only;omega)
    ·have:=beq_eq_false_iff_ne.1 h;(first|omega|dsimp only;omega)
    ·have h:Dd (rem,b)=true:=h
     rw[h,cond_true] at j5
     refine⟨by decide,by(first|omega|dsimp only;omega),by(dsimp only;omega),(j+1,([],true),o2++[(Kn Jb).1]), ?_,⟨by(first|omega|dsimp only;omega),by simp,fun w hw=>(by cases hw),by simp[j4],j5⟩,by(first|omega|dsimp only;omega)⟩
     repeat' first|exact rfl|exact⟨⟩|apply And.intro|omega|dsimp only;omega
    ·have h:Dd (rem,b)=false:=h
     have hr:0<rem.length:=Jee h
     rw[h,cond_false] at j5
     refine⟨by(dsimp only;omega),by(dsimp only;omega),j3 _ (Je hr),by(first|omega|dsimp only;omega),by(dsimp only;omega),(j+1,(rem.drop 1,bif b then true else !(Kn (rem.getD 0 Jb)).2),o2++[(Kn (rem.getD 0 Jb)).1]), ?_,⟨by(first|omega|dsimp only;omega),by simp only[List.length_drop];omega,fun w hw=>j3 w (List.mem_of_mem_drop hw),by simp[j4],j5⟩,by(first|omega|dsimp only;omega)⟩
     dsimp only
     rw[List.take_length]
     repeat' first|exact rfl|exact⟨⟩|apply And.intro|omega|dsimp only;omega
   ·obtain⟨j,⟨rem2,b2⟩,o2⟩:=x
    obtain⟨j1,j2,j3,j4,j5⟩:=hx
    have hlt:¬(j:Int)<(Jk (ws.getD 0 Jb)).2.1:=of_decide_eq_false hlt
    dsimp only at j1 j2 j3 j4 j5
    have hn:(Jk (ws.getD 0 Jb)).2.1.toNat-j=0:=by omega
    rw[hn,Ja6] at j5
    have hk:Y2 (ws.getD 0 Jb)=true:=by simpa using hk
    have e2:Xp ws=((0,ws.getD 0 Jb,o,o2,Jb),bif !b2 then((rem2.length:Int)==0) else false):=by
     unfold Xp
     rw[e,hk,cond_true,eN,←j5]
    rw[e2];exact⟨trivial,rfl,rfl⟩
abbrev K79:=K8a.add Kvc
def Jca (c:UInt8):List UInt8→List UInt8
 |[]=>[]
 |b::r=>if b=c then[] else b::Jca c r
def Jhd (c:UInt8):List UInt8→List UInt8
 |[]=>[]
 |b::r=>if b=c then r else Jhd c r
def Jug (c:UInt8):List UInt8→Bool
 |[]=>false
 |b::r=>if b=c then true else Jug c r
theorem Jwz (c:UInt8):∀l:List UInt8,Lib.cut l [c]=(Jca c l,Jhd c l,Jug c l)
 |[]=>rfl
 | b :: r => by
  have ih:=Jwz c r
  have hg:=Lib.index_ge r [c]
  by_cases h:b=c
  ·subst h
   have e:Lib.index (b::r) [b]=0:=by simp[Lib.index,List.isPrefixOf]
   unfold Lib.cut Jca Jhd Jug
   rw[e,if_pos rfl,if_pos rfl,if_pos rfl]
   rfl
  ·have hp:[c].isPrefixOf (b::r)=false:=by
    have:¬c=b:=fun e=>h e.symm
    simp[List.isPrefixOf,this]
   have hi:Lib.index (b::r) [c]=if Lib.index r [c]== -1 then -1 else Lib.index r [c]+1:=by rw[Lib.index,hp];rfl
   unfold Jca Jhd Jug
   rw[if_neg h,if_neg h,if_neg h]
   unfold Lib.cut at ih⊢
   by_cases h1:Lib.index r [c]= -1
   ·have e2:Lib.index (b::r) [c]= -1:=by rw[hi,h1];rfl
    rw[h1,if_neg (by decide)] at ih
    rw[e2,if_neg (by decide)]
    simp only[Prod.mk.injEq] at ih⊢
    exact⟨by rw[←ih.1],ih.2⟩
   ·obtain⟨i,hj⟩:=Int.eq_ofNat_of_zero_le (by omega:0≤Lib.index r [c])
    have e2:Lib.index (b::r) [c]=((i+1:Nat):Int):=by rw[hi,if_neg (by simpa using h1),hj];rfl
    rw[hj,if_pos (by omega)] at ih
    rw[e2,if_pos (by omega)]
    simp only[Prod.mk.injEq,Int.toNat_natCast,List.length_singleton] at ih⊢
    exact⟨by rw[List.take_succ_cons,ih.1],by rw[←ih.2.1];rfl,ih.2.2⟩
theorem Jkj (c:UInt8):∀l:List UInt8,(Jca c l).length≤l.length
 |[]=>Nat.le_refl _
 |b::r=>by
  have:=Jkj c r
  unfold Jca
  split<;>simp only[List.length_cons,List.length_nil]<;>omega
theorem Jeg (c:UInt8):∀l:List UInt8,(Jhd c l).length≤l.length
 |[]=>Nat.le_refl _
 |b::r=>by
  have:=Jeg c r
  unfold Jhd
  split<;>simp only[List.length_cons]<;>omega
theorem Jxr (s:ByteArray) (c:UInt8):J0n s ⟨⟨[c]⟩⟩=(bs (Jca c s.data.toList),bs (Jhd c s.data.toList),Jug c s.data.toList):=by
 unfold J0n
 rw[show((⟨⟨[c]⟩⟩:ByteArray).data.toList)=[c] from rfl,Jwz]
 rfl
theorem Jlj (s:ByteArray):Zi s ⟨⟨[32]⟩⟩=Jet s 32:=Jen s 32
def Xe (s:ByteArray):ByteArray:=bs (s.data.toList.take (s.size-8))
def Jns (s:ByteArray):ByteArray:=bs (s.data.toList.drop (s.size-7))
def J8a (b:ByteArray):ByteArray:=bs (Jca 32 b.data.toList)
def J7f (b:ByteArray):ByteArray:=bs (Jhd 32 b.data.toList)
def evX (b:ByteArray):Ev:=((Kn (J8a b)).1,(Xp (Jet (J7f b) 32)).1.2)
def okX (b:ByteArray):Bool:=bif bif !(Kn (J8a b)).2 then true else !(Xp (Jet (J7f b) 32)).2 then true else Jc (evX b) !=0
def Jpy (s:ByteArray):Bool:=bif bif decide ((s.size:Int)-7-1<0) then true else((s.data.toList.getD (s.size-8) 0).toNat:Int) !=35 then true else !Juf (Jns s)
def Yi (s:ByteArray):Ev×Int:=bif Jpy s then(evz,25) else bif !((Jpv (Xe s)).toList==(Jns s).toList) then(evz,27) else bif okX (Xe s) then(evz,25) else(evX (Xe s),0)
def Ve (s:ByteArray) (k:Int):Ev×Int:=if(Yi s).2=0 then((Yi s).1,bif (Yi s).1.1 !=k then 11 else 0) else Yi s
def Khy:Con:={args:=[aS,aI],ress:=[(true,sEv),I],owns:=[],pre:=fun(s,_)=>[s.size≤1000000],spec:=fun(s,k,_)=>((Ve s k).1,(Ve s k).2,())}
theorem Jlf (t:Tk):((Va t).1=Jb∨(Va t).1∈t.1)∧∀w∈(Va t).2.1,w∈t.1:=by
 rw[Ja5]
 cases h:Dd t with
 |true=>exact⟨.inl rfl,fun w hw=>by cases hw⟩
 |false=>exact⟨.inr (Je (Jee h)),fun w hw=>List.mem_of_mem_drop hw⟩
theorem Jhm:∀(n:Nat) (t:Tk) (o:List ByteArray),(Dv n t o).1.length=o.length+n
 |0,_,_=>rfl
 |n+1,t,o=>by
  rw[Dv,Jhm n]
  simp only[List.length_append,List.length_singleton]
  omega
theorem Jhl:∀(n:Nat) (t:Tk) (o:List ByteArray),∀s∈(Dv n t o).1,s∈o∨s=Jb∨s∈t.1
 |0,_,_,s,h=> .inl h
 | n + 1, t, o, s, h => by
  have hs:=Jlf t
  rw[Dv] at h
  rcases Jhl n _ _ s h with h|h|h
  ·rcases List.mem_append.1 h with h|h
   ·exact .inl h
   ·rw[List.mem_singleton.1 h]
    exact .inr hs.1
  ·exact .inr (.inl h)
  ·exact .inr (.inr (hs.2 _ h))
theorem Jhk:∀(n:Nat) (t:Tk) (o:List Int),(Ja6 n t o).1.length=o.length+n
 |0,_,_=>rfl
 |n+1,t,o=>by
  rw[Ja6,Jhk n]
  simp only[List.length_append,List.length_singleton]
  omega
theorem Jp8 {ws:List ByteArray} (hw:∀w∈ws,w.size≤1000000):(Xp ws).1.2.2.1.length≤3∧(Xp ws).1.2.2.2.1.length≤4∧∀s∈(Xp ws).1.2.2.1,s.size≤1000000:=by
 have hB:=Jfk (Va (ws,false)).1
 have hs:=Jlf (ws,false)
 unfold Xp
 cases Y2 (Va (ws,false)).1 with
 |false=>exact⟨Nat.zero_le _,Nat.zero_le _,fun s h=>by cases h⟩
 | true =>
  simp only[cond_true]
  refine⟨?_, ?_,fun s h=> ?_⟩
  ·unfold Zj;rw[Jhm];simp;omega
  ·unfold Jc9;rw[Jhk];simp;omega
  ·rcases Jhl _ _ _ s h with h|h|h
   ·cases h
   ·rw[h];decide
   ·exact hw _ (hs.2 _ h)
theorem Fr {s:ByteArray} {k:Int} {x:Ev×Int} (h:Yi s=x) (hx:x.2≠0):Ve s k=x:=by
 unfold Ve;rw[h,if_neg hx]
def J37 (a:Bt):=Nc (ByteArray.size a)-(7:Int)-1
def Ke8 (a:Bt):=J37 a+1
def K6a (a:Bt):=decide (J37 a<0)
def Kqs (a:Bt):=ByteArray.extract a 0 (Int.toNat (J37 a))
def Kp9 (a:Bt):=ByteArray.extract a (Int.toNat (Ke8 a)) (ByteArray.size a)
def K5f (a:Bt):=ByteArray.size (Kqs a)≤1000000
def K4q (a:Bt) (b:Int):=Fe=(Ve a b).1∧25=(Ve a b).2
def K3l (a:Bt):=J0n (Kqs a) H7
def K3c (a:Bt):=(K3l a).1
def K26 (a:Bt):=(K3l a).2.1
def K15 (a:Bt):=Kn (K3c a)
def K10 (a:Bt):=(K15 a).1
def K1k (a:Bt):=(0:Int)≤0∧0≤J37 a∧J37 a≤Nc (ByteArray.size a)
def Knb (a:Bt):=Zi (K26 a) H7
def K0n (a:Bt):=Xp (Knb a)
def K0h (a:Bt):=0≤Ke8 a∧Ke8 a≤Nc (ByteArray.size a)∧Nc (ByteArray.size a)≤Nc (ByteArray.size a)
def K0f (a:Bt):=(K0n a).1.2
def Kji (a:Bt):=(K0f a).2
def Kz8 (a:Bt):=(Kji a).2
def Ky8 (a:Bt):=bif K6a a then true else Nc (UInt8.toNat (Gt (Z9 a) (J37 a) 0)) !=35
def Kml (a:Bt):=Ky8 a=false
def Kyk (a:Bt):=bif !(K15 a).2 then true else !(K0n a).2
def Kmb (a:Bt):=Kyk a=false
def Kc3 (a:Bt):=(K10 a,(K0f a).1,(Kji a).1,E2 (Kz8 a))
theorem Kvg:Ok Tryz.prog 108 Khy:=okW K79 Tryz.f108 na fun xx=>by
 obtain⟨(s:ByteArray),(k:Int),_⟩:=xx
 refine(by kernel_rfl:(ByteArray.size s≤1000000→(Iw (Nc (ByteArray.size s)-7)∧Iw (J37 s))∧((K6a s=false→Bd (J37 s) (Nc (ByteArray.size s)))∧(Kml s→Iw (Ke8 s))∧(Kml s→K0h s)∧(Kml s→ByteArray.size (Kp9 s)≤1000000))∧Br (bif Ky8 s then true else !Juf (Kp9 s)) (K4q s k) ((K1k s∧K5f s∧Iw (Ke8 s)∧K0h s)∧Br (!Lb (Jpv (Kqs s)) (Kp9 s)) (Fe=(Ve s k).1∧27=(Ve s k).2) ((K1k s∧K5f s)∧ByteArray.size (K3c s)≤1000000∧(ByteArray.size (K26 s)≤1000000∧1≤1∧List.length (Knb s)≤1000000∧∀(w:ByteArray),w∈Knb s→ByteArray.size w≤1000000)∧((Kmb s→List.length (Kji s).1≤1000000)∧(Kmb s→List.length (Kz8 s).1≤1000000)∧(Kmb s→∀(s_1:ByteArray),s_1∈(Kji s).1→ByteArray.size s_1≤1000000))∧Br (bif Kyk s then true else Jc (Kc3 s) !=0) (K4q s k) (Kc3 s=(Ve s k).1∧(bif K10 s !=k then 11 else 0)=(Ve s k).2))))=_).mp ?_
 delta Z9 H7 J37 Fe Ke8 K6a Kqs Kp9 K5f K4q K3l K3c K26 K15 K10 K1k Knb K0n K0h K0f Kji Kz8 Ky8 Kml Kyk Kmb Kc3 Br Iw Bd Nc Gt B0 Lb E2
 intro hs
 have hl:s.data.toList.length=s.size:=by simp
 by_cases hq:s.size<8
 ·have hd:decide ((s.size:Int)-7-1<0)=true:=decide_eq_true (by omega)
  have h0:Yi s=(evz,25):=by unfold Yi Jpy;rw[hd];rfl
  rw[Fr h0 (by decide)]
  simp only[hd,cond_true]
  exact⟨by omega,⟨⟨fun h=>(by cases h),fun h=>(by cases h),fun h=>(by cases h),fun h=>(by cases h)⟩,fun _=>by(repeat' first|exact rfl|exact⟨⟩|apply And.intro|omega|dsimp only;omega),fun h=>(by cases h)⟩⟩
 ·have e1:((s.size:Int)-7-1).toNat=s.size-8:=by omega
  have e2:((s.size:Int)-7-1+1).toNat=s.size-7:=by omega
  have e3:s.extract 0 (s.size-8)=Xe s:=J2u s _
  have e4:s.extract (s.size-7) s.size=Jns s:=Jqy s _
  have hbl:(Xe s).data.toList.length=s.size-8:=by unfold Xe;simp[bs]
  have hbs:(Xe s).size=s.size-8:=by unfold Xe;rw[Xz];simp
  have hts:(Jns s).size≤1000000:=by unfold Jns;rw[Xz];simp;omega
  have hd:decide ((s.size:Int)-7-1<0)=false:=decide_eq_false (by omega)
  simp only[e1,e2,e3,e4,Jxr,Jlj]
  have hsh:Jpy s=bif bif decide ((s.size:Int)-7-1<0) then true else((s.data.toList.getD (s.size-8) 0).toNat:Int) !=35 then true else !Juf (Jns s):=rfl
  rw[←hsh]
  have hA:(bs (Jca 32 (Xe s).data.toList)).size≤1000000:=by rw[Xz];have:=Jkj 32 (Xe s).data.toList;omega
  have hZ:(bs (Jhd 32 (Xe s).data.toList)).size≤1000000:=by rw[Xz];have:=Jeg 32 (Xe s).data.toList;omega
  have hW:∀w∈Jet (bs (Jhd 32 (Xe s).data.toList)) 32,w.size≤1000000:=by
   intro w hw
   obtain⟨v,hv,rfl⟩:=List.mem_map.1 hw
   have:=Ja8 _ _ _ hv
   have h3:=Jeg 32 (Xe s).data.toList
   have h4:(bs (Jhd 32 (Xe s).data.toList)).data.toList.length=(Jhd 32 (Xe s).data.toList).length:=rfl
   rw[Xz]
   omega
  refine⟨by omega,⟨fun _=>by omega,fun _=>by omega,fun _=>by omega,fun _=>hts⟩,fun h=> ?_,fun h=>⟨⟨by omega,by omega,by omega,by omega⟩,fun h2=> ?_,fun h2=>⟨⟨by omega,by omega⟩,hA,⟨hZ,by decide, ?_, ?_⟩, ?_⟩⟩⟩
  ·have h0:Yi s=(evz,25):=by unfold Yi;rw[h];rfl
   rw[Fr h0 (by decide)];exact⟨rfl,rfl⟩
  ·have h0:Yi s=(evz,27):=by unfold Yi;rw[h,h2];rfl
   rw[Fr h0 (by decide)];exact⟨rfl,rfl⟩
  ·unfold Jet
   rw[List.length_map]
   have:=Jjc (UInt8.ofNat (32:Int).toNat) (bs (Jhd 32 (Xe s).data.toList)).data.toList
   have h3:=Jeg 32 (Xe s).data.toList
   have h4:(bs (Jhd 32 (Xe s).data.toList)).data.toList.length=(Jhd 32 (Xe s).data.toList).length:=rfl
   omega
  ·exact hW
  ·have hr:=Jp8 (ws:=Jet (bs (Jhd 32 (Xe s).data.toList)) 32) hW
   refine⟨⟨fun _=>Nat.le_trans hr.1 (by decide),fun _=>Nat.le_trans hr.2.1 (by decide),fun _=>hr.2.2⟩,fun h3=> ?_,fun h3=> ?_⟩
   ·have h3:okX (Xe s)=true:=h3
    have h0:Yi s=(evz,25):=by unfold Yi;rw[h,h2,h3];rfl
    rw[Fr h0 (by decide)];exact⟨rfl,rfl⟩
   ·have h3:okX (Xe s)=false:=h3
    have h0:Yi s=(evX (Xe s),0):=by unfold Yi;rw[h,h2,h3];rfl
    have h4:Ve s k=(evX (Xe s),bif (evX (Xe s)).1 !=k then 11 else 0):=by unfold Ve;rw[h0];rfl
    rw[h4]
    exact⟨rfl,rfl⟩
abbrev K78:=K79.add Kvg
def J7k:Nat→List UInt8→Int→List Ev→List Ev×Int×Int
 |0,_,at_,o=>(o,at_,0)
 |f+1,l,at_,o=>
  if l=[] then(o,at_,0) else
  if Jug 10 l=false then(o,at_,28) else
  if(Ve (bs (Jca 10 l)) (o.length+1)).2≠0 then(o,at_,(Ve (bs (Jca 10 l)) (o.length+1)).2) else
  J7k f (Jhd 10 l) (at_+((Jca 10 l).length+1)) (o++[(Ve (bs (Jca 10 l)) (o.length+1)).1])
def Ug (s:ByteArray):List Ev×Int×Int:=if 1000000<s.size then([],0,26) else J7k s.size s.data.toList 0 []
def J25:Con:={args:=[aS],ress:=[(false, .list 67 sEv),I,I],owns:=[],pre:=fun _=>[],spec:=fun(s,_)=>((Ug s).1,(Ug s).2.1,(Ug s).2.2,())}
abbrev Kii (s:ByteArray):Ann:={X:=Nat×List Ev,σ:=fun(k,o)=>⟨1,[(0, .one (.str s)),(5, .one (.sl 0)),(6, .one (.int .i64 k))],[(0, .own 67 sEv o)]⟩,inv:=fun(k,o)=>k≤s.size∧s.size≤1000000∧o.length≤1000∧∃f,s.size-k≤f∧J7k f (s.data.toList.drop k) k o=Ug s,mu:=fun(k,_)=>s.size-k}
theorem Jxs (c:UInt8):∀{l:List UInt8},Jug c l=true→l=Jca c l++c::Jhd c l
 |[],h=>by cases h
 | b :: r, h => by
  unfold Jug at h
  unfold Jca Jhd
  by_cases q:b=c
  ·rw[if_pos q,if_pos q,q];rfl
  ·rw[if_neg q] at h
   rw[if_neg q,if_neg q,List.cons_append,←Jxs c h]
theorem Jxn {s:ByteArray} {k:Int} (h:(Ve s k).2=0):Jc (Ve s k).1=0∧(Ve s k).1.1=k:=by
 have h0:(Yi s).2=0:=by
  unfold Ve at h
  by_cases q:(Yi s).2=0
  ·exact q
  ·rw[if_neg q] at h;exact h
 have e:Ve s k=((Yi s).1,bif (Yi s).1.1 !=k then 11 else 0):=by unfold Ve;rw[if_pos h0]
 rw[e] at h⊢
 refine⟨?_, ?_⟩
 ·unfold Yi at h0⊢
  cases h1:Jpy s with
  |true=>rw[h1] at h0;cases h0
  | false =>
   rw[h1,cond_false] at h0
   rw[cond_false]
   cases h2: !((Jpv (Xe s)).toList==(Jns s).toList) with
   |true=>rw[h2] at h0;cases h0
   | false =>
    rw[h2,cond_false] at h0
    rw[cond_false]
    cases h3:okX (Xe s) with
    |true=>rw[h3] at h0;cases h0
    | false =>
     rw[cond_false]
     unfold okX at h3
     cases h4:(bif !(Kn (J8a (Xe s))).2 then true else !(Xp (Jet (J7f (Xe s)) 32)).2) with
     |true=>rw[h4] at h3;cases h3
     |false=>
      rw[h4,cond_false] at h3
      exact bne_eq_false_iff_eq.1 h3
 ·have h:(bif (Yi s).1.1 !=k then(11:Int) else 0)=0:=h
  cases h5:((Yi s).1.1 !=k) with
  |true=>rw[h5] at h;cases h
  |false=>exact bne_eq_false_iff_eq.1 h5
def Kqn (a:Bt) (b:Nat×List Ev):=J0n (ByteArray.extract a b.1 (ByteArray.size a)) (ByteArray.mk (Array.mk [10]))
def K5n (a:Bt) (b:Nat×List Ev):=ByteArray.size (Kqn a b).1
def K4u (a:Bt) (b:Nat×List Ev):=Nc (K5n a b)+1
def K37 (a:Bt) (b:Nat×List Ev):=Ve (Kqn a b).1 (Ln b.2+1)
def K32 (a:Bt) (b:Nat×List Ev):=(K37 a b).1
def K31 (a:Bt) (b:Nat×List Ev):=(K37 a b).2
def K3q (a:Nat×List Ev) (b:Bt):=Nc a.1+K4u b a
def K3p (a:Bt) (b:Nat×List Ev):=(K32 a b).2
def K3m (a:Bt) (b:Nat×List Ev):=(K3p a b).2
def Kmu (a:Nat×List Ev) (b:Bt):=a.1≤ByteArray.size b∧ByteArray.size b≤1000000∧List.length a.2≤1000∧∃(f:Nat),ByteArray.size b-a.1≤f∧J7k f (List.drop a.1 (Z9 b)) (Nc a.1) a.2=Ug b
theorem Uah:Ok Tryz.prog 34 J25:=okW K78 Tryz.f34 (fun xx=>Zg (Kii xx.1)) fun xx=>by
 obtain⟨(s:ByteArray),_⟩:=xx
 refine(by kernel_rfl:(Br (decide (1000000<Nc (ByteArray.size s))) ([]=(Ug s).1∧0=(Ug s).2.1∧26=(Ug s).2.2) (∃(x:Nat×List Ev),Sf s (0=Nc x.1∧List.length x.2=0)∧Kmu x s∧∀(x:Nat×List Ev),Kmu x s→Br (decide (Nc x.1<Nc (ByteArray.size s))) (((0≤Nc x.1∧Nc x.1≤Nc (ByteArray.size s)∧Nc (ByteArray.size s)≤Nc (ByteArray.size s))∧ByteArray.size (ByteArray.extract s x.1 (ByteArray.size s))≤1000000)∧Br (!(Kqn s x).2.2) (x.2=(Ug s).1∧Nc x.1=(Ug s).2.1∧28=(Ug s).2.2) ((Iw (Ln x.2+1)∧K5n s x≤1000000)∧Br (K31 s x !=0) (x.2=(Ug s).1∧Nc x.1=(Ug s).2.1∧K31 s x=(Ug s).2.2) ((List.length x.2+1)*88≤140737488355328∧(Iw (K4u s x)∧Iw (K3q x s))∧∃(y:Nat×List Ev),Sf s (K3q x s=Nc y.1∧x.2++[((K32 s x).1,(K3p s x).1,(K3m s x).1,E2 (K3m s x).2)]=y.2)∧Kmu y s∧ByteArray.size s-y.1<ByteArray.size s-x.1))) (x.2=(Ug s).1∧Nc x.1=(Ug s).2.1∧0=(Ug s).2.2)))=_).mp ?_
 delta Z9 Kqn K5n K4u K37 K32 K31 K3q K3p K3m Kmu Br Iw Sf Ln Nc E2
 refine⟨fun h=> ?_,fun h=> ?_⟩
 ·have h:1000000<s.size:=by have:=of_decide_eq_true h;omega
  unfold Ug;rw[if_pos h];exact⟨rfl,rfl,rfl⟩
 have hs:¬1000000<s.size:=by have:=of_decide_eq_false h;omega
 have hl:s.data.toList.length=s.size:=by simp
 refine⟨((0:Nat),[]),by simp,⟨Nat.zero_le _,by(first|omega|dsimp only;omega),Nat.zero_le _,⟨s.size,by omega,by unfold Ug;rw[if_neg hs];rfl⟩⟩,fun(x:Nat×List Ev) hx=>⟨fun hlt=> ?_,fun hlt=> ?_⟩⟩
 ·obtain⟨k,o⟩:=x
  obtain⟨k1,k2,k3,f,kf,k4⟩:=hx
  have hlt:k<s.size:=by simpa using hlt
  dsimp only at k1 k3
  dsimp only at kf
  have hf:f=(f-1)+1:=by omega
  have hne:s.data.toList.drop k≠[]:=by
   intro h
   have:=congrArg List.length h
   rw[List.length_drop,hl] at this
   simp at this;omega
  rw[hf,J7k,if_neg hne] at k4
  have e0:s.extract k s.size=bs (s.data.toList.drop k):=Jqy s k
  have e1:((k:Int)).toNat=k:=Int.toNat_natCast k
  simp only[e1,e0,Jxr]
  have k4:(if Jug 10 (s.data.toList.drop k)=false then(o,(k:Int),(28:Int)) else if(Ve (bs (Jca 10 (s.data.toList.drop k))) (o.length+1)).2≠0 then(o,(k:Int),(Ve (bs (Jca 10 (s.data.toList.drop k))) (o.length+1)).2) else J7k (f-1) (Jhd 10 (s.data.toList.drop k)) (k+((Jca 10 (s.data.toList.drop k)).length+1)) (o++[(Ve (bs (Jca 10 (s.data.toList.drop k))) (o.length+1)).1]))=Ug s:=k4
  have hA:=Jkj 10 (s.data.toList.drop k)
  rw[List.length_drop,hl] at hA
  have hbd:∀l,(bs l).data.toList=l:=fun l=>rfl
  simp only[hbd,Xz,List.length_drop,hl]
  refine⟨by omega,fun h=> ?_,fun h=>⟨⟨by omega,by omega⟩,fun h2=> ?_,fun h2=> ?_⟩⟩
  ·have h:Jug 10 (s.data.toList.drop k)=false:=by simpa using h
   rw[if_pos h] at k4
   rw[←k4];exact⟨rfl,rfl,rfl⟩
  ·have h:Jug 10 (s.data.toList.drop k)=true:=by simpa using h
   have h2:(Ve (bs (Jca 10 (s.data.toList.drop k))) (o.length+1)).2≠0:=bne_iff_ne.1 h2
   rw[if_neg (by rw[h];decide),if_pos h2] at k4
   rw[←k4];exact⟨rfl,rfl,rfl⟩
  ·have h:Jug 10 (s.data.toList.drop k)=true:=by simpa using h
   have h2:(Ve (bs (Jca 10 (s.data.toList.drop k))) (o.length+1)).2=0:=bne_eq_false_iff_eq.1 h2
   rw[if_neg (by rw[h];decide),if_neg (by rw[h2];simp)] at k4
   have hc:=Jxs 10 h
   have hlc:=congrArg List.length hc
   rw[List.length_drop,hl,List.length_append,List.length_cons] at hlc
   have hd:s.data.toList.drop (k+((Jca 10 (s.data.toList.drop k)).length+1))=Jhd 10 (s.data.toList.drop k):=by
    rw[←List.drop_drop]
    have:=congrArg (List.drop ((Jca 10 (s.data.toList.drop k)).length+1)) hc
    rw[this,show(Jca 10 (s.data.toList.drop k)).length+1=(Jca 10 (s.data.toList.drop k)).length+1 from rfl]
    simp[List.drop_append]
   have hn:=(Jxn h2)
   have hnum:=Vg.1 (show Kt (Ve (bs (Jca 10 (s.data.toList.drop k))) (o.length+1)).1.1 1 1000=0 by
    have:=(Ko hn.1).num
    exact Vg.2 this)
   rw[hn.2] at hnum
   refine⟨by omega,by omega,(k+((Jca 10 (s.data.toList.drop k)).length+1),o++[(Ve (bs (Jca 10 (s.data.toList.drop k))) (o.length+1)).1]),by simp,⟨by(first|omega|dsimp only;omega),k2,by simp only[List.length_append,List.length_singleton];omega,f-1,by(first|omega|dsimp only;omega), ?_⟩,by(first|omega|dsimp only;omega)⟩
   dsimp only
   rw[hd]
   exact k4
 ·obtain⟨k,o⟩:=x
  obtain⟨k1,k2,k3,f,kf,k4⟩:=hx
  have hlt:¬k<s.size:=by simpa using hlt
  dsimp only at k1 k3
  have e:s.data.toList.drop k=[]:=List.drop_eq_nil_of_le (by omega)
  have k4:J7k f (s.data.toList.drop k) k o=Ug s:=k4
  rw[e] at k4
  have k5:(o,(k:Int),(0:Int))=Ug s:=by
   rw[←k4]
   cases f<;>rfl
  rw[←k5]
  exact⟨rfl,rfl,rfl⟩
abbrev Uca:=K78.add Uah
theorem Jbh (n:Int) (h0: -9223372036854775808≤n) (h1:n≤9223372036854775807):(Vs n).size≤40:=by
 have:=Lib.itoa_length_le n h0 h1
 have e:(Vs n).size=(Lib.itoa n).length:=rfl
 omega
theorem Kfv {l:List Nat} {b:Nat} (h:∀x∈l,x≤b):l.sum≤b*l.length:=by
 induction l with
 |nil=>simp
 |cons x l ih=>
  have h1:=h x (List.mem_cons_self ..)
  have h2:=ih fun y hy=>h y (List.mem_cons_of_mem _ hy)
  rw[List.sum_cons,List.length_cons,Nat.mul_succ]
  omega
theorem Jjv {s:ByteArray} (h:Y1 s=true):s.size≤24:=by
 unfold Y1 at h
 simp only[Bool.and_eq_true,decide_eq_true_eq] at h
 omega
theorem J76 {k:ByteArray} (h:Y2 k=true):k.size≤7:=by
 rcases Uo h with h|h|h|h|h|h|h|h|h|h|h<;>subst h<;>decide
theorem J88 {e:Ev} (h:Jc e=0):Dk e:=by
 have hE:=Ko h
 have hk:=Jfk e.2.1
 have h1:=hE.num
 have h2:=hE.nn
 have h3:=hE.nv
 have h4:=J76 hE.kind
 refine⟨by omega,by omega,by omega,fun v hv=>by have:=hE.val v hv;omega, ?_⟩
 refine Nat.le_trans (Kfv (b:=41) fun x hx=> ?_) ?_
 ·obtain⟨s,hs,rfl⟩:=List.mem_map.1 hx
  rcases List.mem_cons.1 hs with rfl|hs
  ·have:=Jbh e.1 (by omega) (by omega);omega
  rcases List.mem_cons.1 hs with rfl|hs
  ·omega
  rcases List.mem_append.1 hs with hs|hs
  ·have:=Jjv (hE.name s hs);omega
  ·obtain⟨v,hv,rfl⟩:=List.mem_map.1 hs
   have:=hE.val v hv
   have:=Jbh v (by omega) (by omega);omega
 ·unfold J3e
  simp only[List.length_map,List.length_cons,List.length_append]
  omega
theorem Jv8 {e:Ev} (h:Dk e):(J7j e).size=(Hn e).size+9:=by
 have h2:=Jlh (Hn e)
 unfold J7j
 rw[Xz]
 simp[h2]
abbrev K77:=Uca
def Kwk:Con:={args:=[.val false (.list 67 sEv), .fn [(true,sEv)] tS],ress:=[(false, .list 9 .str)],owns:=[true],pre:=fun(l,(q,_),_)=>[l.length≤1000000,∀x∈l,Us (q (x,()))],spec:=fun(l,(_,f),_)=>(l.map fun x=>f (x,()),())}
def Z14 (a:Nat) (b:List Ev):=Bd (Nc a) (Ln b)
def Z38 (a:List Ev):=List.length a≤1000000
def Z93 (a:Nat) (b:List Ev):=decide (Nc a<Ln b)
def J03 (a:List Ev) (b:Ev):=b∈a
def Ke5 (a:Ev×Unit→Bt) (b:Nat) (c:List Ev):=List.map (fun(x:Ev)=>a (x,PUnit.unit)) (List.take b c)
def J59 (a:List Ev) (b:Nat):=List.getD a b Fe
def Kal (a:List Ev) (b:Nat):=(J59 a b).1
def Jzd (a:List Ev) (b:Nat):=(J59 a b).2.2
def J30 (a:List Ev) (b:Nat):=(J59 a b).2.1
def Kah (a:Nat) (b:List Ev) (c:Nat):=a≤List.length b∧List.length b-a<List.length b-c
def Jzc (a:List Ev) (b:Nat):=(Jzd a b).2
def Ken (a:List Ev) (b:Ev×Unit→List Prop):=∀(x:Ev),J03 a x→Us (b (x,PUnit.unit))
def Ki1 (a:List Ev) (b:Nat):=(Kal a b,J30 a b,(Jzd a b).1,E2 (Jzc a b))
def J9x (a:List Ev) (b:Nat):=(Ki1 a b,PUnit.unit)
def Kdu (a:Ev×Unit→List Prop) (b:List Ev) (c:Nat):=Us (a (J9x b c))
theorem Ku8:Ok Tryz.prog 124 Kwk:=okW K77 Tryz.f124 (fun xx=>Zg (Jb4 67 9 sEv xx.1 tS true xx.2.1.1 xx.2.1.2)) fun xx=>by
 obtain⟨(l:List Ev),⟨(q:Ev×Unit→List Prop),(f:Ev×Unit→ByteArray)⟩,_⟩:=xx
 refine(by kernel_rfl:(Z38 l→Ken l q→∃(x:Nat),Si (Ln l) (0=Nc x∧Sf l ((fun(x:Ev×PUnit)=>q x)=q∧(fun(x:Ev×PUnit)=>f x)=f∧List.length (Ke5 f x l)=0))∧x≤List.length l∧∀(x:Nat),x≤List.length l→Br (Z93 x l) (Tw (Z14 x l)∧(Kdu q l x∧(List.length (Ke5 f x l)+1)*16≤140737488355328)∧Z21 x∧∃(y:Nat),Si (Ln l) (V4 x y∧Sf l ((fun(x:Ev×PUnit)=>q x)=q∧(fun(x:Ev×PUnit)=>f x)=f∧Ke5 f x l++[f (J9x l x)]=Ke5 f y l))∧Kah y l x) (Ke5 f x l=List.map (fun(x:Ev)=>f (x,PUnit.unit)) l))=_).mp ?_
 delta Z14 Z21 Z38 Z93 V4 J03 Fe Ke5 J59 Kal Jzd J30 Kah Jzc Ken Ki1 J9x Kdu Br Iw Bd Tw Sf Si Ln Nc B0 E2
 intro hb hq
 refine⟨(0:Nat),⟨rfl,rfl,rfl,rfl,rfl,by simp⟩,Nat.zero_le _,fun(k:Nat) hk=>⟨fun h=> ?_,fun h=> ?_⟩⟩
 ·have hlt:k<l.length:=by simpa using h
  refine⟨by omega,⟨hq (l.getD k evz) (Je hlt),by simp only[List.length_map,List.length_take];omega⟩,by omega,(k+1:Nat),⟨rfl,by simp,rfl,rfl,rfl, ?_⟩,by omega,by omega⟩
  rw[←Ke (d:=evz) hlt,List.map_append];rfl
 ·have hlt:¬k<l.length:=by simpa using h
  rw[List.take_of_length_le (by omega)]
abbrev K76:=K77.add Ku8
def cQ (pre:Reg→ByteArray→List Prop) (f:Reg→ByteArray→List ByteArray):Con:={args:=[Jb6,aS],ress:=[(false, .list 9 .str)],owns:=[true],pre:=fun(r,s,_)=>pre r s,spec:=fun(r,s,_)=>(f r s,())}
theorem Jyo {tk st:Int} {S:List Sta} {O:List Ord} {M:List Met} {X:List Out} {Q:List Per} {s:ByteArray} (hr:Jo (tk,st,S,O,M,X,Q)):∀(l:List Sta) (n:Int),n-3200000000*l.length≤J0o st O M s l n∧J0o st O M s l n≤n+3200000000*l.length
 |[],n=>by simp[J0o]
 | x :: l, n => by
  have hb:=Jrm (a:=s) (b:=x.1) hr
  have ih:=Jyo (s:=s) hr l (bif x.1.toList !=s.toList then n+Fc st O M s x.1 else n)
  have hd:n-3200000000≤(bif x.1.toList !=s.toList then n+Fc st O M s x.1 else n)∧(bif x.1.toList !=s.toList then n+Fc st O M s x.1 else n)≤n+3200000000:=by
   cases x.1.toList !=s.toList<;>simp only[cond_true,cond_false]<;>omega
  simp only[List.length_cons]
  unfold J0o
  omega
theorem Jym {tk st:Int} {S:List Sta} {O:List Ord} {M:List Met} {X:List Out} {Q:List Per} {s:ByteArray} (hr:Jo (tk,st,S,O,M,X,Q)): -19200000000≤Jyn st S O M s∧Jyn st S O M s≤19200000000:=by
 have h:=Jyo (s:=s) hr S 0
 have nS:S.length≤6:=hr.nS
 unfold Jyn
 omega
def J0j:Reg→ByteArray→List ByteArray:=fun(_,st,S,O,M,_) s=>[Vs (Jyn st S O M s)]
def Kwd:Con:=cQ (fun r _=>[Jo r]) J0j
theorem Ktk:Ok Tryz.prog 195 Kwd:=okW K76 Tryz.f195 na fun xx=>by
 obtain⟨⟨(tk:Int),(st:Int),(S:List Sta),(O:List Ord),(M:List Met),(X:List Out),(Q:List Per)⟩,(s:ByteArray),_⟩:=xx
 refine(by kernel_rfl:(J0 tk st S O M X Q→(J0 tk st S O M X Q∧Iw (Jyn st S O M s))∧[Vs (Jyn st S O M s)]=J0j (Z67 tk st S O M X Q) s)=_).mp ?_
 delta Z67 J0 Iw
 intro hr
 have hb:=Jym (s:=s) hr
 exact⟨⟨hr,by omega,by omega⟩,rfl⟩
abbrev K75:=K76.add Ktk
def Jg6:Reg→ByteArray→List ByteArray:=fun(_,_,S,_) s=>[Vs (Hu S s).2.2]
def Kg8:Con:=cQ (fun r s=>[Jo r,0≤J1 r.2.2.1 s]) Jg6
theorem Ktj:Ok Tryz.prog 196 Kg8:=okW K75 Tryz.f196 na fun xx=>by
 obtain⟨⟨(tk:Int),(st:Int),(S:List Sta),(O:List Ord),(M:List Met),(X:List Out),(Q:List Per)⟩,(s:ByteArray),_⟩:=xx
 refine(by kernel_rfl:(J0 tk st S O M X Q→Z15 S s→(Z44 S∧Z15 S s∧Iw (Hu S s).2.2)∧[Vs (Hu S s).2.2]=Jg6 (Z67 tk st S O M X Q) s)=_).mp ?_
 delta Z15 Z44 Z67 J0 Iw
 intro hr h
 have nS:S.length≤6:=hr.nS
 have hs:0≤(Hu S s).2.2∧(Hu S s).2.2≤1000:=(Jjb hr.sta h).pri
 exact⟨⟨by omega,h,by omega,by omega⟩,rfl⟩
abbrev K74:=K75.add Ktj
def Jg7:Reg→ByteArray→List ByteArray:=fun(_,st,_,O,M,_) s=>[Vs (Uv st M (Vy O s)).2.1,Vs (Uv st M (Vy O s)).2.2.1,Vs (Uv st M (Vy O s)).2.2.2.1,Vs (Uv st M (Vy O s)).2.2.2.2.1,Vs (Uv st M (Vy O s)).2.2.2.2.2]
def Kha:Con:=cQ (fun r s=>[Jo r,0≤Kg r.2.2.2.1 s]) Jg7
def K1i (a:List Ord) (b:Bt):=((Vy a b).1,(Vy a b).2.1,(Vy a b).2.2.1,E2 (Vy a b).2.2.2.1,(Vy a b).2.2.2.2.1,E2 (Vy a b).2.2.2.2.2)
def K09 (a:Int) (b:List Met) (c:List Ord) (d:Bt):=(Uv a b (K1i c d)).2
def K05 (a:Int) (b:List Met) (c:List Ord) (d:Bt):=(K09 a b c d).2
def K04 (a:Int) (b:List Met) (c:List Ord) (d:Bt):=(K09 a b c d).1
def K00 (a:Int) (b:List Met) (c:List Ord) (d:Bt):=(K05 a b c d).1
def K0z (a:Int) (b:List Met) (c:List Ord) (d:Bt):=(K05 a b c d).2
def K0w (a:Int) (b:List Met) (c:List Ord) (d:Bt):=(K0z a b c d).1
def K0v (a:Int) (b:List Met) (c:List Ord) (d:Bt):=(K0z a b c d).2
def K0t (a:Int) (b:List Met) (c:List Ord) (d:Bt):=(K0v a b c d).1
def K0s (a:Int) (b:List Met) (c:List Ord) (d:Bt):=(K0v a b c d).2
theorem Kti:Ok Tryz.prog 197 Kha:=okW K74 Tryz.f197 na fun xx=>by
 obtain⟨⟨(tk:Int),(st:Int),(S:List Sta),(O:List Ord),(M:List Met),(X:List Out),(Q:List Per)⟩,(s:ByteArray),_⟩:=xx
 refine(by kernel_rfl:(J0 tk st S O M X Q→0≤Kg O s→(Z50 O∧0≤Kg O s∧J0 tk st S O M X Q∧K1i O s∈O)∧(5≤1000000∧∀(x:Int),x∈[K04 st M O s,K00 st M O s,K0w st M O s,K0t st M O s,K0s st M O s]→Iw x)∧[Vs (K04 st M O s),Vs (K00 st M O s),Vs (K0w st M O s),Vs (K0t st M O s),Vs (K0s st M O s)]=Jg7 (Z67 tk st S O M X Q) s)=_).mp ?_
 delta Z50 Z67 J0 K1i K09 K05 K04 K00 K0z K0w K0v K0t K0s Iw E2
 intro hr h
 have nO:O.length≤32:=hr.nO
 have hm:=D1 h
 have hb:=Jb0 hr hm
 simp only[Prod.eta]
 refine⟨⟨by omega,h,hr,hm⟩,⟨by decide,fun x hx=> ?_⟩,rfl⟩
 have b1:=hb.hours
 have b2:=hb.sent
 have b3:=hb.got
 have b4:=hb.money
 have b5:=hb.fine
 simp only[List.mem_cons,List.not_mem_nil,or_false] at hx
 rcases hx with rfl|rfl|rfl|rfl|rfl<;>omega
abbrev K73:=K74.add Kti
def Jds:List Gap→List ByteArray→List ByteArray
 |[],o=>o
 |g::l,o=>Jds l (bif decide ((o.length:Int)<512) then o++[g.1,Vs g.2] else o)
def Je5:Reg→ByteArray→List ByteArray:=fun(tk,_,_,O,M,_) _=>Jds (K4 M tk O) []
def Kg9:Con:=cQ (fun r _=>[Jo r]) Je5
abbrev J3o (L:List Gap):Ann:={X:=Nat×List ByteArray,σ:=fun(k,o)=>⟨2,[(5, .one (.sl 1)),(11, .one (.sl 0)),(12, .one (.int .i64 L.length)),(13, .one (.int .i64 k))],[(0, .own 200 J7d L),(1, .own 9 .str o)]⟩,inv:=fun(k,o)=>k≤L.length∧o.length≤600∧Jds (L.drop k) o=Jds L [],mu:=fun(k,_)=>L.length-k}
theorem Jl6 {M:List Met} {u:Int} {x:Ord}:∀(n:Nat) (h:Int),(Do M u x h n).length≤n
 |0,_=>Nat.le_refl _
 |n+1,h=>by
  have:=Jl6 (M:=M) (u:=u) (x:=x) n (h+1)
  unfold Do
  rw[List.length_append]
  cases J2 x h&&(decide (h<u)&&decide (K3 M x.1 h<0))<;>simp only[cond_true,cond_false,List.length_singleton,List.length_nil]<;>omega
theorem Jl4 {S:List Sta} {M:List Met} {u:Int}:∀{O:List Ord},(∀x∈O,F1 S x)→(K4 M u O).length≤48*O.length
 |[],_=>Nat.le_refl _
 |x::l,h=>by
  have h1:=Jl4 (M:=M) (u:=u) (O:=l) fun y hy=>h y (List.mem_cons_of_mem _ hy)
  have h2:=Jl6 (M:=M) (u:=u) (x:=x) (x.2.2.2.1.2-x.2.2.2.1.1).toNat x.2.2.2.1.1
  have h3:=Jpw (h x (List.mem_cons_self ..))
  unfold Ut at h3
  unfold K4 Jwt
  rw[List.length_append,List.length_cons]
  omega
theorem Jqf {M:List Met} {u:Int} {x:Ord}:∀(n:Nat) (h:Int),∀g∈Do M u x h n,h≤g.2∧g.2<h+n
 |0,_,g,hg=>by cases hg
 | n + 1, h, g, hg => by
  unfold Do at hg
  rcases List.mem_append.1 hg with hg|hg
  ·cases hb:J2 x h&&(decide (h<u)&&decide (K3 M x.1 h<0)) with
   |false=>rw[hb] at hg;cases hg
   |true=>
    rw[hb,cond_true] at hg
    rw[List.mem_singleton.1 hg]
    constructor<;>dsimp only<;>omega
  ·have:=Jqf n (h+1) g hg
   omega
theorem Jjx {S:List Sta} {M:List Met} {u:Int}:∀{O:List Ord},(∀x∈O,F1 S x)→∀g∈K4 M u O,0≤g.2∧g.2≤999999999
 |[],_,g,hg=>by cases hg
 | x :: l, h, g, hg => by
  unfold K4 at hg
  rcases List.mem_append.1 hg with hg|hg
  ·have hs:=(h x (List.mem_cons_self ..)).span
   have h1:=hs.lo
   have h2:=hs.mid
   have h3:=hs.hi
   have:=Jqf _ _ g hg
   omega
  ·exact Jjx (fun y hy=>h y (List.mem_cons_of_mem _ hy)) g hg
def Kna (a:Nat×Ls) (b:List Met) (c:Int) (d:List Ord):=a.1≤List.length (K4 b c d)∧List.length a.2≤600∧Jds (List.drop a.1 (K4 b c d)) a.2=Jds (K4 b c d) []
def Ky7 (a:Nat×Ls) (b:List Met) (c:Int) (d:List Ord) (e:Nat×Ls):=Kna a b c d∧List.length (K4 b c d)-a.1<List.length (K4 b c d)-e.1
theorem Ktf:Ok Tryz.prog 200 Kg9:=okW K73 Tryz.f200 (fun xx=>Zg (J3o (K4 xx.1.2.2.2.2.1 xx.1.1 xx.1.2.2.2.1))) fun xx=>by
 obtain⟨⟨(tk:Int),(st:Int),(S:List Sta),(O:List Ord),(M:List Met),(X:List Out),(Q:List Per)⟩,(s:ByteArray),_⟩:=xx
 refine(by kernel_rfl:(J0 tk st S O M X Q→J0 tk st S O M X Q∧∃(x:Nat×List ByteArray),Si (Ln (K4 M tk O)) (0=Nc x.1∧Sf (K4 M tk O) (List.length x.2=0))∧Kna x M tk O∧∀(x:Nat×List ByteArray),Kna x M tk O→Br (decide (Nc x.1<Ln (K4 M tk O))) (Tw (Bd (Nc x.1) (Ln (K4 M tk O)))∧Br (decide (Ln x.2<512)) ((Iw (List.getD (K4 M tk O) x.1 (B0,0)).2∧(List.length x.2+2)*16≤140737488355328)∧Iw (Nc x.1+1)∧∃(y:Nat×List ByteArray),Si (Ln (K4 M tk O)) (Nc x.1+1=Nc y.1∧Sf (K4 M tk O) (x.2++[(List.getD (K4 M tk O) x.1 (B0,0)).1,Vs (List.getD (K4 M tk O) x.1 (B0,0)).2]=y.2))∧Ky7 y M tk O x) (Iw (Nc x.1+1)∧∃(y:Nat×List ByteArray),Si (Ln (K4 M tk O)) (Nc x.1+1=Nc y.1∧Sf (K4 M tk O) (x.2=y.2))∧Ky7 y M tk O x)) (x.2=Je5 (Z67 tk st S O M X Q) s))=_).mp ?_
 delta Z67 J0 Kna Ky7 Br Iw Bd Tw Sf Si Ln Nc B0
 intro hr
 have nO:O.length≤32:=hr.nO
 have hL:(K4 M tk O).length≤48*O.length:=Jl4 hr.ord
 have hG:∀g∈K4 M tk O,0≤g.2∧g.2≤999999999:=Jjx hr.ord
 have hq:Je5 (tk,st,S,O,M,X,Q) s=Jds (K4 M tk O) []:=rfl
 rw[hq]
 refine⟨hr,((0:Nat),[]),by simp,⟨Nat.zero_le _,Nat.zero_le _,rfl⟩,fun(x:Nat×List ByteArray) hx=>⟨fun hlt=> ?_,fun hlt=> ?_⟩⟩
 ·obtain⟨k,o⟩:=x
  obtain⟨k1,k2,k3⟩:=hx
  have hlt:k<(K4 M tk O).length:=by simpa using hlt
  have hg:=hG _ (Je (d:=(Jb,0)) hlt)
  dsimp only at k1 k2 k3
  rw[Jn (d:=((Jb,0):Gap)) hlt,Jds] at k3
  have hz:((({data:={toList:=[]}}:ByteArray),(0:Int)):Gap)=(Jb,0):=rfl
  simp only[hz]
  refine⟨by omega,fun h=>⟨⟨by omega,by(first|omega|dsimp only;omega)⟩,by omega,(k+1,o++[((K4 M tk O).getD k (Jb,0)).1,Vs ((K4 M tk O).getD k (Jb,0)).2]),by simp,⟨by(first|omega|dsimp only;omega), ?_, ?_⟩,by(first|omega|dsimp only;omega)⟩,fun h=>⟨by omega,(k+1,o),by simp,⟨by(first|omega|dsimp only;omega),k2, ?_⟩,by(first|omega|dsimp only;omega)⟩⟩
  ·have h:=of_decide_eq_true h
   simp only[List.length_append,List.length_cons,List.length_nil]
   omega
  all_goals (rw[h] at k3;exact k3)
 ·obtain⟨k,o⟩:=x
  obtain⟨k1,k2,k3⟩:=hx
  have hlt:¬k<(K4 M tk O).length:=by simpa using hlt
  have e:k=(K4 M tk O).length:=by dsimp only at k1;omega
  rw[e,List.drop_length,Jds] at k3
  exact k3
abbrev K72:=K73.add Ktf
def Ua3:Con:={args:=[.val true Yh, .ref 105 Jkx],ress:=[Bo],owns:=[],pre:=fun _=>[],spec:=fun(x,(tk,_),_)=>(Kv x.2.2.1 tk,())}
theorem Ktc:Ok Tryz.prog 203 Ua3:=okW K72 Tryz.f203 na fun xx=>by
 obtain⟨⟨(n:ByteArray),(f:ByteArray),⟨(a:Int),(b:Int)⟩,(p:Int)⟩,⟨(tk:Int),(st:Int),(S:List Sta),(O:List Ord),(M:List Met),(X:List Out),(Q:List Per)⟩,_⟩:=xx
 refine(by kernel_rfl:(Kv (a,b) tk=Kv (a,b) tk)=_).mp ?_
 rfl
abbrev K71:=K72.add Ktc
def Khl:Con:={args:=[.val false (.list 188 Yh), .fn [(true,Yh)] Bo],ress:=[(false, .list 188 Yh)],owns:=[true],pre:=fun(l,(q,_),_)=>[l.length≤1000000,∀x∈l,Us (q (x,()))],spec:=fun(l,(_,f),_)=>(l.filter fun x=>f (x,()),())}
def J6h (a:Out×Unit→Bool) (b:Nat) (c:List Out):=List.filter (fun(x:Out)=>a (x,PUnit.unit)) (List.take b c)
def Jzb (a:Nat) (b:List Out) (c:Nat):=a≤List.length b∧Jum b a c
def Kmh (a:List Out) (b:Nat):=[J9z a b]
theorem K9g:Ok Tryz.prog 94 Khl:=okW K71 Tryz.f94 (fun xx=>Zg (Jpc 188 188 Yh xx.1 true xx.2.1.1 xx.2.1.2)) fun xx=>by
 obtain⟨(l:List Out),⟨(q:Out×Unit→List Prop),(f:Out×Unit→Bool)⟩,_⟩:=xx
 refine(by kernel_rfl:(Z48 l→J56 l q→∃(x:Nat),Si (Ln l) (0=Nc x∧Sf l ((fun(x:Out×PUnit)=>q x)=q∧(fun(x:Out×PUnit)=>f x)=f∧List.length (J6h f x l)=0))∧x≤List.length l∧∀(x:Nat),x≤List.length l→Br (Jnd x l) (Z84 x l∧J5z q l x∧Br (Kmg f l x) ((List.length (J6h f x l)+1)*56≤140737488355328∧Z21 x∧∃(y:Nat),Si (Ln l) (V4 x y∧Sf l ((fun(x:Out×PUnit)=>q x)=q∧(fun(x:Out×PUnit)=>f x)=f∧J6h f x l++Kmh l x=J6h f y l))∧Jzb y l x) (Z21 x∧∃(y:Nat),Si (Ln l) (V4 x y∧Sf l ((fun(x:Out×PUnit)=>q x)=q∧(fun(x:Out×PUnit)=>f x)=f∧J6h f x l=J6h f y l))∧Jzb y l x)) (J6h f x l=List.filter (fun(x:Out)=>f (x,PUnit.unit)) l))=_).mp ?_
 delta Z21 Z48 Z84 V4 Jnd Jc1 Jum J6h Jtv J0x J33 J31 Jzg Jzb J56 J9z J50 Kmh Kmg J5z Br Iw Bd Tw Sf Si Ln Nc B0 E2
 intro hb hq
 refine⟨(0:Nat),⟨rfl,rfl,rfl,rfl,rfl,by simp⟩,Nat.zero_le _,fun(k:Nat) hk=>⟨fun h=> ?_,fun h=> ?_⟩⟩
 ·have hlt:k<l.length:=by simpa using h
  have hf:=Jf1 (p:=fun x=>f (x,())) hk
  have ht:=Ke (d:=Hp) hlt
  refine⟨by omega,hq (l.getD k Hp) (Je hlt),fun h1=> ?_,fun h1=> ?_⟩
  ·have h1:f (l.getD k Hp,())=true:=h1
   refine⟨by show((List.filter (fun x=>f (x,())) (List.take k l)).length+1)*56≤_;omega,by omega,(k+1:Nat),⟨rfl,by simp,rfl,rfl,rfl, ?_⟩,by omega,by omega⟩
   rw[←ht,List.filter_append,List.filter_cons,if_pos h1];rfl
  ·have h1:f (l.getD k Hp,())=false:=h1
   refine⟨by omega,(k+1:Nat),⟨rfl,by simp,rfl,rfl,rfl, ?_⟩,by omega,by omega⟩
   rw[←ht,List.filter_append,List.filter_cons,if_neg (by rw[h1];decide)];simp
 ·have hlt:¬k<l.length:=by simpa using h
  rw[List.take_of_length_le (by omega)]
abbrev K70:=K71.add K9g
def Khf:Con:={args:=[.val false (.list 188 Yh), .fn [(true,Yh)] tS],ress:=[(false, .list 9 .str)],owns:=[true],pre:=fun(l,(q,_),_)=>[l.length≤1000000,∀x∈l,Us (q (x,()))],spec:=fun(l,(_,f),_)=>(l.map fun x=>f (x,()),())}
def Ke2 (a:Out×Unit→Bt) (b:Nat) (c:List Out):=List.map (fun(x:Out)=>a (x,PUnit.unit)) (List.take b c)
theorem Ktd:Ok Tryz.prog 202 Khf:=okW K70 Tryz.f202 (fun xx=>Zg (Jb4 188 9 Yh xx.1 tS true xx.2.1.1 xx.2.1.2)) fun xx=>by
 obtain⟨(l:List Out),⟨(q:Out×Unit→List Prop),(f:Out×Unit→ByteArray)⟩,_⟩:=xx
 refine(by kernel_rfl:(Z48 l→J56 l q→∃(x:Nat),Si (Ln l) (0=Nc x∧Sf l ((fun(x:Out×PUnit)=>q x)=q∧(fun(x:Out×PUnit)=>f x)=f∧List.length (Ke2 f x l)=0))∧x≤List.length l∧∀(x:Nat),x≤List.length l→Br (Jnd x l) (Z84 x l∧(J5z q l x∧(List.length (Ke2 f x l)+1)*16≤140737488355328)∧Z21 x∧∃(y:Nat),Si (Ln l) (V4 x y∧Sf l ((fun(x:Out×PUnit)=>q x)=q∧(fun(x:Out×PUnit)=>f x)=f∧Ke2 f x l++[f (J50 l x)]=Ke2 f y l))∧Jzb y l x) (Ke2 f x l=List.map (fun(x:Out)=>f (x,PUnit.unit)) l))=_).mp ?_
 delta Z21 Z48 Z84 V4 Jnd Jc1 Jum Ke2 Jtv J0x J33 J31 Jzg Jzb J56 J9z J50 J5z Br Iw Bd Tw Sf Si Ln Nc B0 E2
 intro hb hq
 refine⟨(0:Nat),⟨rfl,rfl,rfl,rfl,rfl,by simp⟩,Nat.zero_le _,fun(k:Nat) hk=>⟨fun h=> ?_,fun h=> ?_⟩⟩
 ·have hlt:k<l.length:=by simpa using h
  refine⟨by omega,⟨hq (l.getD k Hp) (Je hlt),by simp only[List.length_map,List.length_take];omega⟩,by omega,(k+1:Nat),⟨rfl,by simp,rfl,rfl,rfl, ?_⟩,by omega,by omega⟩
  rw[←Ke (d:=Hp) hlt,List.map_append];rfl
 ·have hlt:¬k<l.length:=by simpa using h
  rw[List.take_of_length_le (by omega)]
abbrev K7z:=K70.add Ktd
def Khh:Con:={args:=[.val false (.list 235 Y8), .fn [(true,Y8)] tS],ress:=[(false, .list 9 .str)],owns:=[true],pre:=fun(l,(q,_),_)=>[l.length≤1000000,∀x∈l,Us (q (x,()))],spec:=fun(l,(_,f),_)=>(l.map fun x=>f (x,()),())}
def Ke1 (a:Per×Unit→Bt) (b:Nat) (c:List Per):=List.map (fun(x:Per)=>a (x,PUnit.unit)) (List.take b c)
theorem Ks9:Ok Tryz.prog 206 Khh:=okW K7z Tryz.f206 (fun xx=>Zg (Jb4 235 9 Y8 xx.1 tS true xx.2.1.1 xx.2.1.2)) fun xx=>by
 obtain⟨(l:List Per),⟨(q:Per×Unit→List Prop),(f:Per×Unit→ByteArray)⟩,_⟩:=xx
 refine(by kernel_rfl:(Z47 l→Kel l q→∃(x:Nat),Si (Ln l) (0=Nc x∧Sf l ((fun(x:Per×PUnit)=>q x)=q∧(fun(x:Per×PUnit)=>f x)=f∧List.length (Ke1 f x l)=0))∧x≤List.length l∧∀(x:Nat),x≤List.length l→Br (Z99 x l) (Z86 x l∧(Keb q l x∧(List.length (Ke1 f x l)+1)*16≤140737488355328)∧Z21 x∧∃(y:Nat),Si (Ln l) (V4 x y∧Sf l ((fun(x:Per×PUnit)=>q x)=q∧(fun(x:Per×PUnit)=>f x)=f∧Ke1 f x l++[f (Kef l x)]=Ke1 f y l))∧J3z y l x) (Ke1 f x l=List.map (fun(x:Per)=>f (x,PUnit.unit)) l))=_).mp ?_
 delta Z21 Z47 Z86 Z99 V4 Jzi J06 Jzh Ke1 J3z Kel Keh Kef Keb Br Iw Bd Tw Sf Si Ln Nc B0 E2
 intro hb hq
 refine⟨(0:Nat),⟨rfl,rfl,rfl,rfl,rfl,by simp⟩,Nat.zero_le _,fun(k:Nat) hk=>⟨fun h=> ?_,fun h=> ?_⟩⟩
 ·have hlt:k<l.length:=by simpa using h
  refine⟨by omega,⟨hq (l.getD k Fi) (Je hlt),by simp only[List.length_map,List.length_take];omega⟩,by omega,(k+1:Nat),⟨rfl,by simp,rfl,rfl,rfl, ?_⟩,by omega,by omega⟩
  rw[←Ke (d:=Fi) hlt,List.map_append];rfl
 ·have hlt:¬k<l.length:=by simpa using h
  rw[List.take_of_length_le (by omega)]
abbrev K7y:=K7z.add Ks9
def Jwa:Reg→ByteArray→List ByteArray:=fun(tk,_,_,_,_,X,_) _=>(X.filter fun x=>Kv x.2.2.1 tk).map fun x=>x.1
def Kwc:Con:=cQ (fun r _=>[Jo r]) Jwa
theorem Kte:Ok Tryz.prog 201 Kwc:=okW K7y Tryz.f201 na fun xx=>by
 obtain⟨⟨(tk:Int),(st:Int),(S:List Sta),(O:List Ord),(M:List Met),(X:List Out),(Q:List Per)⟩,(s:ByteArray),_⟩:=xx
 refine(by kernel_rfl:(J0 tk st S O M X Q→(Z48 X∧Kqq X∧List.length (List.filter (fun(x:Out)=>Kv x.2.2.1 tk) X)≤1000000∧∀(x:Out),x∈List.filter (fun(x:Out)=>Kv x.2.2.1 tk) X→True)∧List.map (fun(x:Out)=>x.1) (List.filter (fun(x:Out)=>Kv x.2.2.1 tk) X)=Jwa (Z67 tk st S O M X Q) s)=_).mp ?_
 delta Z48 Z67 J0 Kqq
 intro hr
 have nX:X.length≤16:=hr.nX
 have:=List.length_filter_le (fun x:Out=>Kv x.2.2.1 tk) X
 exact⟨⟨by omega,fun _ _=>trivial,Nat.le_trans this (by omega),fun _ _=>trivial⟩,rfl⟩
abbrev K7x:=K7y.add Kte
def Jv9:Reg→ByteArray→List ByteArray:=fun(_,_,_,_,_,_,Q) _=>(Zo Q).map fun x=>x.1
def Kwb:Con:=cQ (fun r _=>[Jo r]) Jv9
theorem Kta:Ok Tryz.prog 205 Kwb:=okW K7x Tryz.f205 na fun xx=>by
 obtain⟨⟨(tk:Int),(st:Int),(S:List Sta),(O:List Ord),(M:List Met),(X:List Out),(Q:List Per)⟩,(s:ByteArray),_⟩:=xx
 refine(by kernel_rfl:(J0 tk st S O M X Q→Knh tk st S O M X Q∧List.map (fun(x:Per)=>x.1) (Zo Q)=Jv9 (Z67 tk st S O M X Q) s)=_).mp ?_
 delta Z67 J0 Knh
 intro hr
 have nQ:Q.length≤16:=hr.nQ
 have:=Jd9 (Q:=Q)
 exact⟨⟨hr,by omega,fun _ _=>trivial⟩,rfl⟩
abbrev K7w:=K7x.add Kta
def Jg5:Reg→ByteArray→List ByteArray:=fun(_,st,_) _=>[Vs st]
def Kg7:Con:=cQ (fun r _=>[Jo r]) Jg5
theorem Ks6:Ok Tryz.prog 209 Kg7:=okW K7w Tryz.f209 na fun xx=>by
 obtain⟨⟨(tk:Int),(st:Int),(S:List Sta),(O:List Ord),(M:List Met),(X:List Out),(Q:List Per)⟩,(s:ByteArray),_⟩:=xx
 refine(by kernel_rfl:(J0 tk st S O M X Q→Iw st∧[Vs st]=Jg5 (Z67 tk st S O M X Q) s)=_).mp ?_
 delta Z67 J0 Iw
 intro hr
 have h1:0≤st∧st≤tk:=hr.st
 have h2:0≤tk∧tk≤999999999:=hr.tk
 exact⟨⟨by omega,by omega⟩,rfl⟩
abbrev K6e:=K7w.add Ks6
end Go.Proofs.YtcibbcfiemeoiaaGreatDoor
namespace Go.Proofs.Tryz
open Go.Proofs.YtcibbcfiemeoiaaGreatDoor
def questU:List (ByteArray×Bool×Int×Option Nat):=[(⟨⟨[98,97,108,97,110,99,101]⟩⟩,true,0,some 195),(⟨⟨[114,97,116,101]⟩⟩,true,0,some 196),(⟨⟨[98,105,108,108]⟩⟩,true,1,some 197),(⟨⟨[109,105,115,115,105,110,103]⟩⟩,false,1,some 200),(⟨⟨[111,117,116,97,103,101,115]⟩⟩,false,2,some 201),(⟨⟨[112,101,114,109,105,116,115]⟩⟩,false,3,some 205),(⟨⟨[115,101,116,116,108,101,100]⟩⟩,false,0,some 209)]
end Go.Proofs.Tryz
namespace Go.Proofs.YtcibbcfiemeoiaaGreatDoor
open Go.Sx
set_option maxHeartbeats 20000000
abbrev U6:ByteArray:=⟨⟨[98,97,108,97,110,99,101]⟩⟩
abbrev Dl:ByteArray:=⟨⟨[114,97,116,101]⟩⟩
abbrev Dm:ByteArray:=⟨⟨[98,105,108,108]⟩⟩
abbrev Uw:ByteArray:=⟨⟨[109,105,115,115,105,110,103]⟩⟩
abbrev U5:ByteArray:=⟨⟨[111,117,116,97,103,101,115]⟩⟩
abbrev U4:ByteArray:=⟨⟨[112,101,114,109,105,116,115]⟩⟩
abbrev U3:ByteArray:=⟨⟨[115,101,116,116,108,101,100]⟩⟩
structure NmR (r:Reg):Prop where
 o:∀x∈r.2.2.2.1,x.1.size≤24
 x:∀x∈r.2.2.2.2.2.1,x.1.size≤24
 q:∀x∈r.2.2.2.2.2.2,x.1.size≤24
def F2 (h:Kh):Prop:=∀r∈h.2.2,NmR r
theorem J7v {e:Ev} (h:Jc e=0) (i:Nat):(e.2.2.1.getD i Jb).size≤24:=by
 by_cases hi:i<e.2.2.1.length
 ·exact Jjv ((Ko h).name _ (Je hi))
 ·rw[List.getD_eq_getElem?_getD,List.getElem?_eq_none (by omega)]
  decide
theorem Jbm {α:Type} {p:α→Prop} {l:List α} {d:α} (h:∀x∈l,p x) (hd:p d) (i:Nat):p (l.getD i d):=by
 by_cases hi:i<l.length
 ·exact h _ (Je hi)
 ·rw[List.getD_eq_getElem?_getD,List.getElem?_eq_none (by omega)]
  exact hd
theorem J68 {r:Reg} {e:Ev} (hr:NmR r) (hc:Jc e=0):NmR (Jd r e):=by
 have hn:=J7v hc
 obtain⟨tk,st,S,O,M,X,Q⟩:=r
 obtain⟨n,k,ns,vs,tx⟩:=e
 have ho:∀x∈O,x.1.size≤24:=hr.o
 have hx:∀x∈X,x.1.size≤24:=hr.x
 have hq:∀x∈Q,x.1.size≤24:=hr.q
 have hO:∀s,(Vy O s).1.size≤24:=fun s=>Jbm (p:=fun x:Ord=>x.1.size≤24) ho (by decide) _
 have hX:∀s,(Y0 X s).1.size≤24:=fun s=>Jbm (p:=fun x:Out=>x.1.size≤24) hx (by decide) _
 have hQ:∀s,(Jbd Q s).1.size≤24:=fun s=>Jbm (p:=fun x:Per=>x.1.size≤24) hq (by decide) _
 unfold Jd doS
 split
 all_goals refine⟨fun y hy=> ?_,fun y hy=> ?_,fun y hy=> ?_⟩
 all_goals first|exact ho y hy|exact hx y hy|exact hq y hy|(rcases V3 hy with h|h;(first|exact ho y h|exact hx y h|exact hq y h);rw[h];exact hn 0)|(rcases Jcl hy with h|h;rw[h];(first|exact hO _|exact hX _|exact hQ _);(first|exact ho y h|exact hx y h|exact hq y h))
theorem Kxi {h:Kh} {e:Ev} (hN:F2 h) (ha:Kx h e=0):F2 (X1 h e):=by
 obtain⟨hc,hacc⟩:=add_zero ha
 obtain⟨E,C,G⟩:=h
 have h0:NmR (J8 G):=by
  unfold J8
  exact Jbm (p:=NmR) hN ⟨fun x h=>(by cases h),fun x h=>(by cases h),fun x h=>(by cases h)⟩ _
 cases hk:e.2.1.toList==Jl.toList with
 |true=>
  unfold X1
  rw[hk,cond_true]
  exact fun r hr=>hN r (List.mem_of_mem_take hr)
 |false=>
  unfold X1
  rw[hk,cond_false]
  intro r hr
  rcases V3 hr with hr|rfl
  ·exact hN r hr
  ·exact J68 h0 hc
theorem Kge {h:Kh} (hN:F2 h):NmR (J8 h.2.2):=by
 unfold J8
 exact Jbm (p:=NmR) hN ⟨fun x h=>(by cases h),fun x h=>(by cases h),fun x h=>(by cases h)⟩ _
theorem J79:F2 Vn:=fun r h=>by cases h
abbrev K6k:Sch:= .prod .bool (.prod sI .fnc)
abbrev Qst:=Bool×Int×Option Nat
def Je4:List (ByteArray×Qst):=Tryz.questU
def J5q:Jna:={kT:=9,gk:=false,gv:=true,ks:= .str,vs:=K6k,l:=Je4}
theorem Kr2:wpFM Tryz.prog K6e.g (na ()) (fun _=>na ()) (Sx.look ([]:List (Nat×Func))) Tryz.f118 J5q:=by
 refine(by kernel_rfl:(J90∧Sf true ([(U6,true,0,some 195),(Dl,true,0,some 196),(Dm,true,1,some 197),(Uw,false,1,some 200),(U5,false,2,some 201),(U4,false,3,some 205),(U3,false,0,some 209)]=Je4))=_).mp ?_
 delta J90 Sf Lb U6 Dm Uw U5 U4 Dl U3
 exact⟨⟨fun _ _=>rfl,fun _=>rfl⟩,rfl,rfl⟩
theorem J7s:Ok Tryz.prog 118 (Jna.con J5q):=J5d (Jl1 mixed K6e.ok (by kernel_rfl) (by kernel_rfl) (U0 (l:=([]:List (Nat×Func))) (by simp)) (na ()) (fun _=>na ()) Kr2)
abbrev Ub9:=K6e.add J7s
def J8p:Jna:={kT:=9,gk:=false,gv:=true,ks:= .str,vs:=K6k,l:=Tryz.questU}
theorem Kgb:Ok Tryz.prog 118 (Jna.con J8p):=J7s
abbrev J1d:=Ub9.add Kgb
def Jda (k:ByteArray):Qst:=(Ue .str k Je4).getD (false,0,none)
def Jh3 (k:ByteArray):Bool:=(Ue .str k Je4).isSome
def Kvo:ByteArray:=⟨⟨[110,111,110,101]⟩⟩
def J3l (l:List ByteArray):ByteArray:=bif (l.length:Int)==0 then Kvo else Vz l ⟨⟨[32]⟩⟩
def Jhf (named:Bool) (what:Int) (f:Reg→ByteArray→List ByteArray) (r:Reg) (ws:List ByteArray):ByteArray×Int:=
 bif named then(bif (ws.length:Int)==2 then(bif (ws.getD 1 Jb).toList==Jb.toList then(Jb,25) else bif !Vt r what (ws.getD 1 Jb) then(Jb,10) else(J3l (f r (ws.getD 1 Jb)),0)) else(Jb,25))
 else bif (ws.length:Int) !=1 then(Jb,25) else(J3l (f r Jb),0)
def Zw (r:Reg) (ws:List ByteArray):ByteArray×Int:=match(Jda (ws.getD 0 Jb)).2.2 with
 |some 195=>Jhf true 0 J0j r ws
 |some 196=>Jhf true 0 Jg6 r ws
 |some 197=>Jhf true 1 Jg7 r ws
 |some 200=>Jhf false 1 Je5 r ws
 |some 201=>Jhf false 2 Jwa r ws
 |some 205=>Jhf false 3 Jv9 r ws
 |some 209=>Jhf false 0 Jg5 r ws
 |_=>(Jb,0)
structure Jd0 (h:Kh) (ws:List ByteArray):Prop where
 hist:Kr h
 nm:F2 h
 len:1≤ws.length
 key:Jh3 (ws.getD 0 Jb)=true
 max:ws.length≤1000000
 siz:∀w∈ws,w.size≤1000000
def J3b:Zh:={T? :=none,s:=Jjf,args:=[.val false (.list 9 .str)],ress:=[tS,I],pre:=fun h (ws,_)=>[Jd0 h ws],spec:=fun h (ws,_)=>((Zw (J8 h.2.2) ws).1,(Zw (J8 h.2.2) ws).2,()),post:=fun h _=>h}
def SmL (l:List ByteArray):Prop:=l.length≤2000∧∀w∈l,w.size≤40
theorem Xg {l:List ByteArray} (h:SmL l):l.length≤1000000∧(Lib.join (l.map fun x=>x.data.toList) [32]).length≤140737488355328:=by
 refine⟨by have:=h.1;omega,Nat.le_trans (Jj5 rfl) ?_⟩
 have:∀l:List ByteArray,(∀w∈l,w.size≤40)→((l.map fun x=>x.data.toList).map fun x=>x.length+1).sum≤41*l.length:=by
  intro l
  induction l with
  |nil=>intro _;simp
  |cons x r ih=>
   intro h
   have h1:=ih fun w hw=>h w (List.mem_cons_of_mem _ hw)
   have h2:x.data.toList.length≤40:=h x (List.mem_cons_self ..)
   simp only[List.map_cons,List.sum_cons,List.length_cons]
   omega
 have h1:=this l h.2
 have h2:=h.1
 omega
theorem Jjd {l:List Int} (h:l.length≤2000) (hb:∀n∈l,-9223372036854775808≤n∧n≤9223372036854775807):SmL (l.map Vs):=by
 refine⟨by simpa using h,fun w hw=> ?_⟩
 obtain⟨n,hn,rfl⟩:=List.mem_map.1 hw
 exact Jbh n (hb n hn).1 (hb n hn).2
theorem J43 {r:Reg} (hr:Jo r) (s:ByteArray):SmL (J0j r s):=by
 obtain⟨tk,st,S,O,M,X,Q⟩:=r
 have hb:=Jym (s:=s) hr
 exact Jjd (l:=[Jyn st S O M s]) (by simp) fun n hn=>by rw[List.mem_singleton.1 hn];omega
theorem Jvk {r:Reg} (hr:Jo r) {s:ByteArray} (h:0≤J1 r.2.2.1 s):SmL (Jg6 r s):=by
 obtain⟨tk,st,S,O,M,X,Q⟩:=r
 have hs:0≤(Hu S s).2.2∧(Hu S s).2.2≤1000:=(Jjb hr.sta h).pri
 exact Jjd (l:=[(Hu S s).2.2]) (by simp) fun n hn=>by rw[List.mem_singleton.1 hn];omega
theorem Jvm {r:Reg} (hr:Jo r) {s:ByteArray} (h:0≤Kg r.2.2.2.1 s):SmL (Jg7 r s):=by
 obtain⟨tk,st,S,O,M,X,Q⟩:=r
 have hb:=Jb0 hr (D1 h)
 have b1:=hb.hours
 have b2:=hb.sent
 have b3:=hb.got
 have b4:=hb.money
 have b5:=hb.fine
 refine Jjd (l:=[(Uv st M (Vy O s)).2.1,(Uv st M (Vy O s)).2.2.1,(Uv st M (Vy O s)).2.2.2.1,(Uv st M (Vy O s)).2.2.2.2.1,(Uv st M (Vy O s)).2.2.2.2.2]) (by simp) fun n hn=> ?_
 simp only[List.mem_cons,List.not_mem_nil,or_false] at hn
 rcases hn with rfl|rfl|rfl|rfl|rfl<;>omega
theorem Jjw:∀{l:List Gap} {o:List ByteArray},(∀g∈l,g.1.size≤40∧0≤g.2∧g.2≤999999999)→o.length≤514→(∀w∈o,w.size≤40)→SmL (Jds l o)
 |[],o,_,h1,h2=>⟨by unfold Jds;omega,h2⟩
 | g :: l, o, h, h1, h2 => by
  unfold Jds
  have hg:=h g (List.mem_cons_self ..)
  have h':∀x∈l,x.1.size≤40∧0≤x.2∧x.2≤999999999:=fun x hx=>h x (List.mem_cons_of_mem _ hx)
  cases hd:decide ((o.length:Int)<512) with
  |false=>exact Jjw h' h1 h2
  |true=>
   have hd:=of_decide_eq_true hd
   rw[cond_true]
   refine Jjw h' (by rw[List.length_append,List.length_cons,List.length_cons,List.length_nil];omega) fun w hw=> ?_
   simp only[List.mem_append,List.mem_cons,List.not_mem_nil,or_false] at hw
   rcases hw with hw|rfl|rfl
   ·exact h2 w hw
   ·exact hg.1
   ·exact Jbh _ (by omega) (by omega)
theorem Jqe {M:List Met} {u:Int} {x:Ord}:∀(n:Nat) (h:Int),∀g∈Do M u x h n,g.1=x.1
 |0,_,g,hg=>by cases hg
 | n + 1, h, g, hg => by
  unfold Do at hg
  rcases List.mem_append.1 hg with hg|hg
  ·cases hb:J2 x h&&(decide (h<u)&&decide (K3 M x.1 h<0)) with
   |false=>rw[hb] at hg;cases hg
   |true=>
    rw[hb,cond_true] at hg
    rw[List.mem_singleton.1 hg]
  ·exact Jqe n (h+1) g hg
theorem Jqd {M:List Met} {u:Int}:∀{O:List Ord},(∀x∈O,x.1.size≤24)→∀g∈K4 M u O,g.1.size≤24
 |[],_,g,hg=>by cases hg
 | x :: l, h, g, hg => by
  unfold K4 at hg
  rcases List.mem_append.1 hg with hg|hg
  ·rw[Jqe _ _ g hg]
   exact h x (List.mem_cons_self ..)
  ·exact Jqd (fun y hy=>h y (List.mem_cons_of_mem _ hy)) g hg
theorem Jvl {r:Reg} (hr:Jo r) (hN:NmR r) (s:ByteArray):SmL (Je5 r s):=by
 obtain⟨tk,st,S,O,M,X,Q⟩:=r
 refine Jjw (fun g hg=>⟨?_,Jjx hr.ord g hg⟩) (by decide) fun w hw=>by cases hw
 have:=Jqd hN.o g hg
 omega
theorem J42 {r:Reg} (hr:Jo r) (hN:NmR r) (s:ByteArray):SmL (Jwa r s):=by
 obtain⟨tk,st,S,O,M,X,Q⟩:=r
 have nX:X.length≤16:=hr.nX
 have:=List.length_filter_le (fun x:Out=>Kv x.2.2.1 tk) X
 refine⟨by unfold Jwa;rw[List.length_map];omega,fun w hw=> ?_⟩
 obtain⟨x,hx,rfl⟩:=List.mem_map.1 hw
 have:=hN.x x (List.mem_filter.1 hx).1
 omega
theorem J41 {r:Reg} (hr:Jo r) (hN:NmR r) (s:ByteArray):SmL (Jv9 r s):=by
 obtain⟨tk,st,S,O,M,X,Q⟩:=r
 have nQ:Q.length≤16:=hr.nQ
 have:=Jd9 (Q:=Q)
 refine⟨by unfold Jv9;rw[List.length_map];omega,fun w hw=> ?_⟩
 obtain⟨x,hx,rfl⟩:=List.mem_map.1 hw
 have:=hN.q x (List.mem_filter.1 hx).1
 omega
theorem Jvj {r:Reg} (hr:Jo r) (s:ByteArray):SmL (Jg5 r s):=by
 obtain⟨tk,st,S,O,M,X,Q⟩:=r
 have h1:0≤st∧st≤tk:=hr.st
 have h2:0≤tk∧tk≤999999999:=hr.tk
 exact Jjd (l:=[st]) (by simp) fun n hn=>by rw[List.mem_singleton.1 hn];omega
theorem Jfe (G:List Reg):(decide (0<(G.length:Int))=true∧0<(G.length:Int)∧J8 G=G.getD ((G.length:Int)-1).toNat Xd)∨(decide (0<(G.length:Int))=false∧J8 G=Xd):=by
 cases h:decide (0<(G.length:Int)) with
 |true=>exact .inl ⟨rfl,of_decide_eq_true h,by unfold J8;congr 1;omega⟩
 |false=>exact .inr ⟨rfl,Ku h⟩
theorem z119:((0:Int),(0:Int),([]:List Sta),([]:List Ord),([]:List Met),([]:List Out),([]:List Per))=Xd:=rfl
theorem J7w:({data:={toList:=[]}}:ByteArray)=Jb:=rfl
theorem J75 (w:ByteArray) (ws:List ByteArray):((w::ws).length:Int)=(ws.length:Int)+1:=by simp
theorem J8g (w:ByteArray) (ws:List ByteArray):(w::ws).getD 1 Jb=ws.getD 0 Jb:=rfl
theorem Je7 {E C:List Ev} {G:List Reg} {w:ByteArray} {ws:List ByteArray} (h:Jd0 (E,C,G) (w::ws)):Jo (J8 G)∧NmR (J8 G)∧G.length≤1000∧(w::ws).length≤1000000∧∀x∈w::ws,x.size≤1000000:=⟨Db h.hist,Kge h.nm,by have:=h.hist.nE;have:=h.hist.nC;have:=h.hist.nG;dsimp only at*;omega,h.max,h.siz⟩
theorem Jsz:Jda U6=(true,0,some 195):=by kernel_rfl
theorem Jo9 (r:Reg) (ws:List ByteArray):Zw r (U6::ws)=Jhf true 0 J0j r (U6::ws):=by
 have:(U6::ws).getD 0 Jb=U6:=rfl
 unfold Zw
 rw[this,Jsz]
 rfl
def Z95 (a:List Reg) (b:Ls):=(Zw (J8 a) (U6::b)).1
def Kq4 (a:Ls):=Ln (U6::a)==2
def Kfj (a:List Reg) (b:Ls):=0=(Zw (J8 a) (U6::b)).2
def Kfb:=1≤1000000∧1≤140737488355328
def Jrq (a:Ls):= !Lb (U8 a) B0
def Jnc:=ByteArray.mk (Array.mk [110,111,110,101])
def Kkg (a:Ls):=J0j V0 (U8 a)
def Kjc (a:TypeId) (b c:List Ev) (d:List Reg) (e:Ls):=Sf true (Sf a (Sf (b,c,d) (B0=Z95 d e∧10=(Zw (J8 d) (U6::e)).2)))
def Kz9 (a:TypeId) (b c:List Ev) (d:List Reg) (e:Ls):=Sf true (Sf a (Sf (b,c,d) (B0=Z95 d e∧25=(Zw (J8 d) (U6::e)).2)))
def Ki6 (a:TypeId) (b c:List Ev) (d:List Reg) (e:Ls):=Sf true (Sf a (Sf (b,c,d) (Jnc=Z95 d e∧Kfj d e)))
def Jz3 (a:List Reg):=J0j (Kz a) B0
def Jzw (a:List Reg) (b:Ls):=J0j (Kz a) (U8 b)
def J4o (a:List Reg):=bif true then !Vt (Kz a) 0 B0 else false
theorem Ji3 (T:TypeId) (E C:List Ev) (G:List Reg) (ws:List ByteArray):wpFO Tryz.prog J1d.g (na ()) (fun _=>na ()) (Sx.look ([(75,Tryz.f75)]:List (Nat×Func))) Tryz.f119 J3b T (E,C,G) (U6::ws,()):=by
 refine(by kernel_rfl:(Jd0 (E,C,G) (U6::ws)→Tw (Bd 0 (Ln (U6::ws)))∧Br (bif true then Kq4 ws else false) (Tw (Bd 1 (Ln (U6::ws)))∧Br (bif !true==bif Kq4 ws then Jrq ws else false then true else false) (Kz9 T E C G ws) (Br (Yg G) (Yf G∧Zr G∧Br (Jt6 G ws) (Kjc T E C G ws) (Ub G∧Br (Ln (Jzw G ws)==0) (Ki6 T E C G ws) ((List.length (Jzw G ws)≤1000000∧List.length (Lib.join (List.map (fun(x:ByteArray)=>Z9 x) (Jzw G ws)) [32])≤140737488355328)∧Sf true (Sf T (Sf (E,C,G) (Vz (Jzw G ws) H7=Z95 G ws∧Kfj G ws)))))) (Jej∧Br (Kd1 ws) (Kjc T E C G ws) (Xb∧Br (Ln (Kkg ws)==0) (Ki6 T E C G ws) ((List.length (Kkg ws)≤1000000∧List.length (Lib.join (List.map (fun(x:ByteArray)=>Z9 x) (Kkg ws)) [32])≤140737488355328)∧Sf true (Sf T (Sf (E,C,G) (Vz (Kkg ws) H7=Z95 G ws∧Kfj G ws)))))))) (Br (bif !true==bif Kq4 ws then false else false then true else false) (Kz9 T E C G ws) (Br (Yg G) (Yf G∧Zr G∧Br (J4o G) (Kjc T E C G ws) (Ub G∧Br (Ln (Jz3 G)==0) (Ki6 T E C G ws) ((List.length (Jz3 G)≤1000000∧List.length (Lib.join (List.map (fun(x:ByteArray)=>Z9 x) (Jz3 G)) [32])≤140737488355328)∧Sf true (Sf T (Sf (E,C,G) (Vz (Jz3 G) H7=Z95 G ws∧Kfj G ws)))))) (Jej∧Br true (Kjc T E C G ws) (Xb∧Br false (Ki6 T E C G ws) (Kfb∧Sf true (Sf T (Sf (E,C,G) (Vz (J0j V0 B0) H7=Z95 G ws∧Kfj G ws)))))))))=_).mp ?_
 delta Z9 Z95 U8 Yg H7 Kq4 Kfj Kfb Jrq Jnc Dq V0 Yf Xb Jej Fz Fy Kkg Ja1 Jak H6 H5 Du Hq J55 Kd1 Kjc Kz9 Ki6 Ys Kz Ub Jz3 Zr Jzw Jm5 J4o Jt6 Br Iw Bd Tw Sf Ln Gt B0 Lb E2 U6
 intro ha
 obtain⟨hr,-,hG,hmax,hsz⟩:=Je7 ha
 simp only[Jo9,J7w,z119,J75,Prod.eta,Jhf,J8g]
 rcases Jfe G with⟨hd,hp,e0⟩|⟨hd,e0⟩<;>rw[hd,←e0]<;>cases h2:(ws.length:Int)+1==2<;>cases h3:(ws.getD 0 Jb).toList==Jb.toList<;>cases h4:Vt (J8 G) 0 (ws.getD 0 Jb)<;>cases h5:(((J0j (J8 G) (ws.getD 0 Jb)).length:Int)==0)
 all_goals simp only[h5,bne,J3l,Bool.not_true,Bool.not_false,cond_true,cond_false,BEq.rfl,Bool.true_beq,reduceCtorEq,false_implies,forall_const,true_and,and_true,and_self]
 all_goals repeat' apply And.intro
 all_goals first|omega|(have:=eq_of_beq h2;omega)|exact hr|exact(Xg (J43 hr _)).1|exact(Xg (J43 hr _)).2|rfl|simpa[Vt] using h4|(rw[e0] at h4;simpa[Vt,Xd] using h4)|(rw[e0] at h5;exact Bool.noConfusion h5)|skip
theorem J7l:Jda Dl=(true,0,some 196):=by kernel_rfl
theorem J3h (r:Reg) (ws:List ByteArray):Zw r (Dl::ws)=Jhf true 0 Jg6 r (Dl::ws):=by
 have:(Dl::ws).getD 0 Jb=Dl:=rfl
 unfold Zw
 rw[this,J7l]
 rfl
def Z61 (a:List Reg) (b:Ls):=(Zw (J8 a) (Dl::b)).1
def Kq8 (a:Ls):=Ln (Dl::a)==2
def Kfm (a:List Reg) (b:Ls):=0=(Zw (J8 a) (Dl::b)).2
def Kkf (a:Ls):=Jg6 V0 (U8 a)
def Kjk (a:TypeId) (b c:List Ev) (d:List Reg) (e:Ls):=Sf true (Sf a (Sf (b,c,d) (B0=Z61 d e∧10=(Zw (J8 d) (Dl::e)).2)))
def K0l (a:TypeId) (b c:List Ev) (d:List Reg) (e:Ls):=Sf true (Sf a (Sf (b,c,d) (B0=Z61 d e∧25=(Zw (J8 d) (Dl::e)).2)))
def Ki8 (a:TypeId) (b c:List Ev) (d:List Reg) (e:Ls):=Sf true (Sf a (Sf (b,c,d) (Jnc=Z61 d e∧Kfm d e)))
def Jz2 (a:List Reg):=Jg6 (Kz a) B0
def Jzv (a:List Reg) (b:Ls):=Jg6 (Kz a) (U8 b)
theorem Jsh (T:TypeId) (E C:List Ev) (G:List Reg) (ws:List ByteArray):wpFO Tryz.prog J1d.g (na ()) (fun _=>na ()) (Sx.look ([(75,Tryz.f75)]:List (Nat×Func))) Tryz.f119 J3b T (E,C,G) (Dl::ws,()):=by
 refine(by kernel_rfl:(Jd0 (E,C,G) (Dl::ws)→Tw (Bd 0 (Ln (Dl::ws)))∧Br (bif true then Kq8 ws else false) (Tw (Bd 1 (Ln (Dl::ws)))∧Br (bif !true==bif Kq8 ws then Jrq ws else false then true else false) (K0l T E C G ws) (Br (Yg G) (Yf G∧Zr G∧Br (Jt6 G ws) (Kjk T E C G ws) ((Ub G∧0≤J1 (H6 G).1 (U8 ws))∧Br (Ln (Jzv G ws)==0) (Ki8 T E C G ws) ((List.length (Jzv G ws)≤1000000∧List.length (Lib.join (List.map (fun(x:ByteArray)=>Z9 x) (Jzv G ws)) [32])≤140737488355328)∧Sf true (Sf T (Sf (E,C,G) (Vz (Jzv G ws) H7=Z61 G ws∧Kfm G ws)))))) (Jej∧Br (Kd1 ws) (Kjk T E C G ws) ((Xb∧0≤J1 [] (U8 ws))∧Br (Ln (Kkf ws)==0) (Ki8 T E C G ws) ((List.length (Kkf ws)≤1000000∧List.length (Lib.join (List.map (fun(x:ByteArray)=>Z9 x) (Kkf ws)) [32])≤140737488355328)∧Sf true (Sf T (Sf (E,C,G) (Vz (Kkf ws) H7=Z61 G ws∧Kfm G ws)))))))) (Br (bif !true==bif Kq8 ws then false else false then true else false) (K0l T E C G ws) (Br (Yg G) (Yf G∧Zr G∧Br (J4o G) (Kjk T E C G ws) ((Ub G∧0≤J1 (H6 G).1 B0)∧Br (Ln (Jz2 G)==0) (Ki8 T E C G ws) ((List.length (Jz2 G)≤1000000∧List.length (Lib.join (List.map (fun(x:ByteArray)=>Z9 x) (Jz2 G)) [32])≤140737488355328)∧Sf true (Sf T (Sf (E,C,G) (Vz (Jz2 G) H7=Z61 G ws∧Kfm G ws)))))) (Jej∧Br true (Kjk T E C G ws) ((Xb∧0≤J1 [] B0)∧Br false (Ki8 T E C G ws) (Kfb∧Sf true (Sf T (Sf (E,C,G) (Vz (Jg6 V0 B0) H7=Z61 G ws∧Kfm G ws)))))))))=_).mp ?_
 delta Z9 Z61 U8 Yg Kq8 H7 Kfm Kfb Jrq Jnc Dq V0 Yf Xb Jej Fz Fy Ja1 Kkf Jak H6 H5 Du Hq J55 Kd1 Kjk K0l Ki8 Ys Kz Ub Jz2 Zr Jzv Jm5 J4o Jt6 Br Iw Bd Tw Sf Ln Gt B0 Lb E2 Dl
 intro ha
 obtain⟨hr,-,hG,hmax,hsz⟩:=Je7 ha
 simp only[J3h,J7w,z119,J75,Prod.eta,Jhf,J8g]
 rcases Jfe G with⟨hd,hp,e0⟩|⟨hd,e0⟩<;>rw[hd,←e0]<;>cases h2:(ws.length:Int)+1==2<;>cases h3:(ws.getD 0 Jb).toList==Jb.toList<;>cases h4:Vt (J8 G) 0 (ws.getD 0 Jb)<;>cases h5:(((Jg6 (J8 G) (ws.getD 0 Jb)).length:Int)==0)
 all_goals simp only[h5,bne,J3l,Bool.not_true,Bool.not_false,cond_true,cond_false,BEq.rfl,Bool.true_beq,reduceCtorEq,false_implies,forall_const,true_and,and_true,and_self]
 all_goals repeat' apply And.intro
 all_goals first|omega|(have:=eq_of_beq h2;omega)|exact hr|exact(Xg (Jvk hr (by simpa[Vt] using h4))).1|exact(Xg (Jvk hr (by simpa[Vt] using h4))).2|rfl|simpa[Vt] using h4|(rw[e0] at h4;simpa[Vt,Xd] using h4)|(rw[e0] at h5;exact Bool.noConfusion h5)|skip
theorem J7m:Jda Dm=(true,1,some 197):=by kernel_rfl
theorem J3i (r:Reg) (ws:List ByteArray):Zw r (Dm::ws)=Jhf true 1 Jg7 r (Dm::ws):=by
 have:(Dm::ws).getD 0 Jb=Dm:=rfl
 unfold Zw
 rw[this,J7m]
 rfl
def Z46 (a:List Reg) (b:Ls):=(Zw (J8 a) (Dm::b)).1
def Kq9 (a:Ls):=Ln (Dm::a)==2
def Kfl (a:List Reg) (b:Ls):=0=(Zw (J8 a) (Dm::b)).2
def Kkb (a:Ls):=Jg7 V0 (U8 a)
def K0m (a:TypeId) (b c:List Ev) (d:List Reg) (e:Ls):=Sf true (Sf a (Sf (b,c,d) (B0=Z46 d e∧25=(Zw (J8 d) (Dm::e)).2)))
def Kjl (a:TypeId) (b c:List Ev) (d:List Reg) (e:Ls):=Sf true (Sf a (Sf (b,c,d) (B0=Z46 d e∧10=(Zw (J8 d) (Dm::e)).2)))
def Ki7 (a:TypeId) (b c:List Ev) (d:List Reg) (e:Ls):=Sf true (Sf a (Sf (b,c,d) (Jnc=Z46 d e∧Kfl d e)))
def Jz0 (a:List Reg):=Jg7 (Kz a) B0
def Jzs (a:List Reg) (b:Ls):=Jg7 (Kz a) (U8 b)
theorem Jsi (T:TypeId) (E C:List Ev) (G:List Reg) (ws:List ByteArray):wpFO Tryz.prog J1d.g (na ()) (fun _=>na ()) (Sx.look ([(75,Tryz.f75)]:List (Nat×Func))) Tryz.f119 J3b T (E,C,G) (Dm::ws,()):=by
 refine(by kernel_rfl:(Jd0 (E,C,G) (Dm::ws)→Tw (Bd 0 (Ln (Dm::ws)))∧Br (bif true then Kq9 ws else false) (Tw (Bd 1 (Ln (Dm::ws)))∧Br (bif !true==bif Kq9 ws then Jrq ws else false then true else false) (K0m T E C G ws) (Br (Yg G) (Yf G∧Zr G∧Br (Jt7 G ws) (Kjl T E C G ws) ((Ub G∧0≤Kg (H5 G).1 (U8 ws))∧Br (Ln (Jzs G ws)==0) (Ki7 T E C G ws) ((List.length (Jzs G ws)≤1000000∧List.length (Lib.join (List.map (fun(x:ByteArray)=>Z9 x) (Jzs G ws)) [32])≤140737488355328)∧Sf true (Sf T (Sf (E,C,G) (Vz (Jzs G ws) H7=Z46 G ws∧Kfl G ws)))))) (Jej∧Br (Kd2 ws) (Kjl T E C G ws) ((Xb∧0≤Kg [] (U8 ws))∧Br (Ln (Kkb ws)==0) (Ki7 T E C G ws) ((List.length (Kkb ws)≤1000000∧List.length (Lib.join (List.map (fun(x:ByteArray)=>Z9 x) (Kkb ws)) [32])≤140737488355328)∧Sf true (Sf T (Sf (E,C,G) (Vz (Kkb ws) H7=Z46 G ws∧Kfl G ws)))))))) (Br (bif !true==bif Kq9 ws then false else false then true else false) (K0m T E C G ws) (Br (Yg G) (Yf G∧Zr G∧Br (bif true then !Vt (Kz G) 1 B0 else false) (Kjl T E C G ws) ((Ub G∧0≤Kg (H5 G).1 B0)∧Br (Ln (Jz0 G)==0) (Ki7 T E C G ws) ((List.length (Jz0 G)≤1000000∧List.length (Lib.join (List.map (fun(x:ByteArray)=>Z9 x) (Jz0 G)) [32])≤140737488355328)∧Sf true (Sf T (Sf (E,C,G) (Vz (Jz0 G) H7=Z46 G ws∧Kfl G ws)))))) (Jej∧Br true (Kjl T E C G ws) ((Xb∧0≤Kg [] B0)∧Br false (Ki7 T E C G ws) ((5≤1000000∧9≤140737488355328)∧Sf true (Sf T (Sf (E,C,G) (Vz (Jg7 V0 B0) H7=Z46 G ws∧Kfl G ws)))))))))=_).mp ?_
 delta Z9 Z46 U8 Yg Kq9 H7 Kfl Jrq Jnc Dq V0 Yf Xb Jej Fz Fy Ja1 Kkb Jak H6 H5 Du Hq Kd7 Kd2 K0m Kjl Ki7 Ys Kz Ub Jz0 Zr Jzs Jt9 Jt7 Br Iw Bd Tw Sf Ln Gt B0 Lb E2 Dm
 intro ha
 obtain⟨hr,-,hG,hmax,hsz⟩:=Je7 ha
 simp only[J3i,J7w,z119,J75,Prod.eta,Jhf,J8g]
 rcases Jfe G with⟨hd,hp,e0⟩|⟨hd,e0⟩<;>rw[hd,←e0]<;>cases h2:(ws.length:Int)+1==2<;>cases h3:(ws.getD 0 Jb).toList==Jb.toList<;>cases h4:Vt (J8 G) 1 (ws.getD 0 Jb)<;>cases h5:(((Jg7 (J8 G) (ws.getD 0 Jb)).length:Int)==0)
 all_goals simp only[h5,bne,J3l,Bool.not_true,Bool.not_false,cond_true,cond_false,BEq.rfl,Bool.true_beq,reduceCtorEq,false_implies,forall_const,true_and,and_true,and_self]
 all_goals repeat' apply And.intro
 all_goals first|omega|(have:=eq_of_beq h2;omega)|exact hr|exact(Xg (Jvm hr (by simpa[Vt] using h4))).1|exact(Xg (Jvm hr (by simpa[Vt] using h4))).2|rfl|simpa[Vt] using h4|(rw[e0] at h4;simpa[Vt,Xd] using h4)|(rw[e0] at h5;exact Bool.noConfusion h5)|skip
theorem Jsy:Jda Uw=(false,1,some 200):=by kernel_rfl
theorem Jo8 (r:Reg) (ws:List ByteArray):Zw r (Uw::ws)=Jhf false 1 Je5 r (Uw::ws):=by
 have:(Uw::ws).getD 0 Jb=Uw:=rfl
 unfold Zw
 rw[this,Jsy]
 rfl
def Z35 (a:Ls):=Ln (Uw::a)
def Z87 (a:List Reg) (b:Ls):=(Zw (J8 a) (Uw::b)).1
def Kfh (a:List Reg) (b:Ls):=0=(Zw (J8 a) (Uw::b)).2
def Kfc:=0≤1000000∧0≤140737488355328
def K3v (a:Ls):=bif true then Z35 a !=1 else false
def Kkc (a:Ls):=Je5 V0 (U8 a)
def K0c (a:TypeId) (b c:List Ev) (d:List Reg) (e:Ls):=Sf true (Sf a (Sf (b,c,d) (B0=Z87 d e∧25=(Zw (J8 d) (Uw::e)).2)))
def Kjd (a:TypeId) (b c:List Ev) (d:List Reg) (e:Ls):=Sf true (Sf a (Sf (b,c,d) (B0=Z87 d e∧10=(Zw (J8 d) (Uw::e)).2)))
def Ki3 (a:TypeId) (b c:List Ev) (d:List Reg) (e:Ls):=Sf true (Sf a (Sf (b,c,d) (Jnc=Z87 d e∧Kfh d e)))
def Jz1 (a:List Reg):=Je5 (Kz a) B0
def Jzt (a:List Reg) (b:Ls):=Je5 (Kz a) (U8 b)
theorem Ji2 (T:TypeId) (E C:List Ev) (G:List Reg) (ws:List ByteArray):wpFO Tryz.prog J1d.g (na ()) (fun _=>na ()) (Sx.look ([(75,Tryz.f75)]:List (Nat×Func))) Tryz.f119 J3b T (E,C,G) (Uw::ws,()):=by
 refine(by kernel_rfl:(Jd0 (E,C,G) (Uw::ws)→Tw (Bd 0 (Z35 ws))∧Br false (Tw (Bd 1 (Z35 ws))∧Br (bif !false==bif Z35 ws==2 then Jrq ws else false then true else K3v ws) (K0c T E C G ws) (Br (Yg G) (Yf G∧X3 G∧Br false (Kjd T E C G ws) (Ub G∧Br (Ln (Jzt G ws)==0) (Ki3 T E C G ws) ((List.length (Jzt G ws)≤1000000∧List.length (Lib.join (List.map (fun(x:ByteArray)=>Z9 x) (Jzt G ws)) [32])≤140737488355328)∧Sf true (Sf T (Sf (E,C,G) (Vz (Jzt G ws) H7=Z87 G ws∧Kfh G ws)))))) (Jb7∧Br false (Kjd T E C G ws) (Xb∧Br (Ln (Kkc ws)==0) (Ki3 T E C G ws) ((List.length (Kkc ws)≤1000000∧List.length (Lib.join (List.map (fun(x:ByteArray)=>Z9 x) (Kkc ws)) [32])≤140737488355328)∧Sf true (Sf T (Sf (E,C,G) (Vz (Kkc ws) H7=Z87 G ws∧Kfh G ws)))))))) (Br (bif !false==bif Z35 ws==2 then false else false then true else K3v ws) (K0c T E C G ws) (Br (Yg G) (Yf G∧X3 G∧Br false (Kjd T E C G ws) (Ub G∧Br (Ln (Jz1 G)==0) (Ki3 T E C G ws) ((List.length (Jz1 G)≤1000000∧List.length (Lib.join (List.map (fun(x:ByteArray)=>Z9 x) (Jz1 G)) [32])≤140737488355328)∧Sf true (Sf T (Sf (E,C,G) (Vz (Jz1 G) H7=Z87 G ws∧Kfh G ws)))))) (Jb7∧Br false (Kjd T E C G ws) (Xb∧Br true (Ki3 T E C G ws) (Kfc∧Sf true (Sf T (Sf (E,C,G) (Vz (Je5 V0 B0) H7=Z87 G ws∧Kfh G ws)))))))))=_).mp ?_
 delta Z9 Z35 Z87 U8 Yg H7 Kfh Kfc Jrq Jnc Dq V0 Yf Xb Jb7 K3v Fz Fy Ja1 Kkc Jak H6 H5 Du Hq K0c Kjd Ki3 Ys Kz Ub Jz1 X3 Jzt Br Iw Bd Tw Sf Ln Gt B0 Lb E2 Uw
 intro ha
 obtain⟨hr,hN,hG,hmax,hsz⟩:=Je7 ha
 simp only[Jo8,J7w,z119,J75,Prod.eta,Jhf,J8g]
 rcases Jfe G with⟨hd,hp,e0⟩|⟨hd,e0⟩<;>rw[hd,←e0]<;>cases h2:(ws.length:Int)+1==1<;>cases h6:(ws.length:Int)+1==2<;>cases h3:(ws.getD 0 Jb).toList==Jb.toList<;>cases h5:(((Je5 (J8 G) Jb).length:Int)==0)
 all_goals simp only[h2,h5,bne,J3l,Bool.not_true,Bool.not_false,cond_true,cond_false,BEq.rfl,Bool.false_beq,reduceCtorEq,false_implies,forall_const,true_and,and_true,and_self]
 all_goals repeat' apply And.intro
 all_goals first|omega|(have:=eq_of_beq h2;omega)|exact hr|exact(Xg (Jvl hr hN _)).1|exact(Xg (Jvl hr hN _)).2|rfl|(rw[e0] at h5;exact Bool.noConfusion h5)|skip
theorem Jsx:Jda U5=(false,2,some 201):=by kernel_rfl
theorem Jo7 (r:Reg) (ws:List ByteArray):Zw r (U5::ws)=Jhf false 2 Jwa r (U5::ws):=by
 have:(U5::ws).getD 0 Jb=U5:=rfl
 unfold Zw
 rw[this,Jsx]
 rfl
def Z39 (a:Ls):=Ln (U5::a)
def Z88 (a:List Reg) (b:Ls):=(Zw (J8 a) (U5::b)).1
def Kff (a:List Reg) (b:Ls):=0=(Zw (J8 a) (U5::b)).2
def K3u (a:Ls):=bif true then Z39 a !=1 else false
def Kkj (a:Ls):=Jwa V0 (U8 a)
def K0b (a:TypeId) (b c:List Ev) (d:List Reg) (e:Ls):=Sf true (Sf a (Sf (b,c,d) (B0=Z88 d e∧25=(Zw (J8 d) (U5::e)).2)))
def Kje (a:TypeId) (b c:List Ev) (d:List Reg) (e:Ls):=Sf true (Sf a (Sf (b,c,d) (B0=Z88 d e∧10=(Zw (J8 d) (U5::e)).2)))
def Ki5 (a:TypeId) (b c:List Ev) (d:List Reg) (e:Ls):=Sf true (Sf a (Sf (b,c,d) (Jnc=Z88 d e∧Kff d e)))
def Jz5 (a:List Reg):=Jwa (Kz a) B0
def Jzx (a:List Reg) (b:Ls):=Jwa (Kz a) (U8 b)
theorem Ji1 (T:TypeId) (E C:List Ev) (G:List Reg) (ws:List ByteArray):wpFO Tryz.prog J1d.g (na ()) (fun _=>na ()) (Sx.look ([(75,Tryz.f75)]:List (Nat×Func))) Tryz.f119 J3b T (E,C,G) (U5::ws,()):=by
 refine(by kernel_rfl:(Jd0 (E,C,G) (U5::ws)→Tw (Bd 0 (Z39 ws))∧Br false (Tw (Bd 1 (Z39 ws))∧Br (bif !false==bif Z39 ws==2 then Jrq ws else false then true else K3u ws) (K0b T E C G ws) (Br (Yg G) (Yf G∧X3 G∧Br false (Kje T E C G ws) (Ub G∧Br (Ln (Jzx G ws)==0) (Ki5 T E C G ws) ((List.length (Jzx G ws)≤1000000∧List.length (Lib.join (List.map (fun(x:ByteArray)=>Z9 x) (Jzx G ws)) [32])≤140737488355328)∧Sf true (Sf T (Sf (E,C,G) (Vz (Jzx G ws) H7=Z88 G ws∧Kff G ws)))))) (Jb7∧Br false (Kje T E C G ws) (Xb∧Br (Ln (Kkj ws)==0) (Ki5 T E C G ws) ((List.length (Kkj ws)≤1000000∧List.length (Lib.join (List.map (fun(x:ByteArray)=>Z9 x) (Kkj ws)) [32])≤140737488355328)∧Sf true (Sf T (Sf (E,C,G) (Vz (Kkj ws) H7=Z88 G ws∧Kff G ws)))))))) (Br (bif !false==bif Z39 ws==2 then false else false then true else K3u ws) (K0b T E C G ws) (Br (Yg G) (Yf G∧X3 G∧Br false (Kje T E C G ws) (Ub G∧Br (Ln (Jz5 G)==0) (Ki5 T E C G ws) ((List.length (Jz5 G)≤1000000∧List.length (Lib.join (List.map (fun(x:ByteArray)=>Z9 x) (Jz5 G)) [32])≤140737488355328)∧Sf true (Sf T (Sf (E,C,G) (Vz (Jz5 G) H7=Z88 G ws∧Kff G ws)))))) (Jb7∧Br false (Kje T E C G ws) (Xb∧Br true (Ki5 T E C G ws) (Kfc∧Sf true (Sf T (Sf (E,C,G) (Vz (Jwa V0 B0) H7=Z88 G ws∧Kff G ws)))))))))=_).mp ?_
 delta Z9 Z39 Z88 U8 Yg H7 Kff Kfc Jrq Jnc Dq V0 Yf Xb Jb7 K3u Fz Kkj Fy Ja1 Jak H6 H5 Du Hq K0b Kje Ki5 Ys Kz Ub Jz5 X3 Jzx Br Iw Bd Tw Sf Ln Gt B0 Lb E2 U5
 intro ha
 obtain⟨hr,hN,hG,hmax,hsz⟩:=Je7 ha
 simp only[Jo7,J7w,z119,J75,Prod.eta,Jhf,J8g]
 rcases Jfe G with⟨hd,hp,e0⟩|⟨hd,e0⟩<;>rw[hd,←e0]<;>cases h2:(ws.length:Int)+1==1<;>cases h6:(ws.length:Int)+1==2<;>cases h3:(ws.getD 0 Jb).toList==Jb.toList<;>cases h5:(((Jwa (J8 G) Jb).length:Int)==0)
 all_goals simp only[h2,h5,bne,J3l,Bool.not_true,Bool.not_false,cond_true,cond_false,BEq.rfl,Bool.false_beq,reduceCtorEq,false_implies,forall_const,true_and,and_true,and_self]
 all_goals repeat' apply And.intro
 all_goals first|omega|(have:=eq_of_beq h2;omega)|exact hr|exact(Xg (J42 hr hN _)).1|exact(Xg (J42 hr hN _)).2|rfl|(rw[e0] at h5;exact Bool.noConfusion h5)|skip
theorem Jsw:Jda U4=(false,3,some 205):=by kernel_rfl
theorem Jo6 (r:Reg) (ws:List ByteArray):Zw r (U4::ws)=Jhf false 3 Jv9 r (U4::ws):=by
 have:(U4::ws).getD 0 Jb=U4:=rfl
 unfold Zw
 rw[this,Jsw]
 rfl
def Z42 (a:Ls):=Ln (U4::a)
def Z94 (a:List Reg) (b:Ls):=(Zw (J8 a) (U4::b)).1
def Kfg (a:List Reg) (b:Ls):=0=(Zw (J8 a) (U4::b)).2
def K3t (a:Ls):=bif true then Z42 a !=1 else false
def Kki (a:Ls):=Jv9 V0 (U8 a)
def K0d (a:TypeId) (b c:List Ev) (d:List Reg) (e:Ls):=Sf true (Sf a (Sf (b,c,d) (B0=Z94 d e∧25=(Zw (J8 d) (U4::e)).2)))
def Kjh (a:TypeId) (b c:List Ev) (d:List Reg) (e:Ls):=Sf true (Sf a (Sf (b,c,d) (B0=Z94 d e∧10=(Zw (J8 d) (U4::e)).2)))
def Ki4 (a:TypeId) (b c:List Ev) (d:List Reg) (e:Ls):=Sf true (Sf a (Sf (b,c,d) (Jnc=Z94 d e∧Kfg d e)))
def Jz4 (a:List Reg):=Jv9 (Kz a) B0
def Jzy (a:List Reg) (b:Ls):=Jv9 (Kz a) (U8 b)
theorem Ji0 (T:TypeId) (E C:List Ev) (G:List Reg) (ws:List ByteArray):wpFO Tryz.prog J1d.g (na ()) (fun _=>na ()) (Sx.look ([(75,Tryz.f75)]:List (Nat×Func))) Tryz.f119 J3b T (E,C,G) (U4::ws,()):=by
 refine(by kernel_rfl:(Jd0 (E,C,G) (U4::ws)→Tw (Bd 0 (Z42 ws))∧Br false (Tw (Bd 1 (Z42 ws))∧Br (bif !false==bif Z42 ws==2 then Jrq ws else false then true else K3t ws) (K0d T E C G ws) (Br (Yg G) (Yf G∧X3 G∧Br false (Kjh T E C G ws) (Ub G∧Br (Ln (Jzy G ws)==0) (Ki4 T E C G ws) ((List.length (Jzy G ws)≤1000000∧List.length (Lib.join (List.map (fun(x:ByteArray)=>Z9 x) (Jzy G ws)) [32])≤140737488355328)∧Sf true (Sf T (Sf (E,C,G) (Vz (Jzy G ws) H7=Z94 G ws∧Kfg G ws)))))) (Jb7∧Br false (Kjh T E C G ws) (Xb∧Br (Ln (Kki ws)==0) (Ki4 T E C G ws) ((List.length (Kki ws)≤1000000∧List.length (Lib.join (List.map (fun(x:ByteArray)=>Z9 x) (Kki ws)) [32])≤140737488355328)∧Sf true (Sf T (Sf (E,C,G) (Vz (Kki ws) H7=Z94 G ws∧Kfg G ws)))))))) (Br (bif !false==bif Z42 ws==2 then false else false then true else K3t ws) (K0d T E C G ws) (Br (Yg G) (Yf G∧X3 G∧Br false (Kjh T E C G ws) (Ub G∧Br (Ln (Jz4 G)==0) (Ki4 T E C G ws) ((List.length (Jz4 G)≤1000000∧List.length (Lib.join (List.map (fun(x:ByteArray)=>Z9 x) (Jz4 G)) [32])≤140737488355328)∧Sf true (Sf T (Sf (E,C,G) (Vz (Jz4 G) H7=Z94 G ws∧Kfg G ws)))))) (Jb7∧Br false (Kjh T E C G ws) (Xb∧Br true (Ki4 T E C G ws) (Kfc∧Sf true (Sf T (Sf (E,C,G) (Vz (Jv9 V0 B0) H7=Z94 G ws∧Kfg G ws)))))))))=_).mp ?_
 delta Z9 Z42 Z94 U8 Yg H7 Kfg Kfc Jrq Jnc Dq V0 Yf Xb Jb7 K3t Fz Fy Kki Ja1 Jak H6 H5 Du Hq K0d Kjh Ki4 Ys Kz Ub Jz4 X3 Jzy Br Iw Bd Tw Sf Ln Gt B0 Lb E2 U4
 intro ha
 obtain⟨hr,hN,hG,hmax,hsz⟩:=Je7 ha
 simp only[Jo6,J7w,z119,J75,Prod.eta,Jhf,J8g]
 rcases Jfe G with⟨hd,hp,e0⟩|⟨hd,e0⟩<;>rw[hd,←e0]<;>cases h2:(ws.length:Int)+1==1<;>cases h6:(ws.length:Int)+1==2<;>cases h3:(ws.getD 0 Jb).toList==Jb.toList<;>cases h5:(((Jv9 (J8 G) Jb).length:Int)==0)
 all_goals simp only[h2,h5,bne,J3l,Bool.not_true,Bool.not_false,cond_true,cond_false,BEq.rfl,Bool.false_beq,reduceCtorEq,false_implies,forall_const,true_and,and_true,and_self]
 all_goals repeat' apply And.intro
 all_goals first|omega|(have:=eq_of_beq h2;omega)|exact hr|exact(Xg (J41 hr hN _)).1|exact(Xg (J41 hr hN _)).2|rfl|(rw[e0] at h5;exact Bool.noConfusion h5)|skip
theorem Jsv:Jda U3=(false,0,some 209):=by kernel_rfl
theorem Jo5 (r:Reg) (ws:List ByteArray):Zw r (U3::ws)=Jhf false 0 Jg5 r (U3::ws):=by
 have:(U3::ws).getD 0 Jb=U3:=rfl
 unfold Zw
 rw[this,Jsv]
 rfl
def Z40 (a:Ls):=Ln (U3::a)
def Z83 (a:List Reg) (b:Ls):=(Zw (J8 a) (U3::b)).1
def Kfi (a:List Reg) (b:Ls):=0=(Zw (J8 a) (U3::b)).2
def K3x (a:Ls):=bif true then Z40 a !=1 else false
def Kkd (a:Ls):=Jg5 V0 (U8 a)
def Kjg (a:TypeId) (b c:List Ev) (d:List Reg) (e:Ls):=Sf true (Sf a (Sf (b,c,d) (B0=Z83 d e∧10=(Zw (J8 d) (U3::e)).2)))
def K0a (a:TypeId) (b c:List Ev) (d:List Reg) (e:Ls):=Sf true (Sf a (Sf (b,c,d) (B0=Z83 d e∧25=(Zw (J8 d) (U3::e)).2)))
def Ki2 (a:TypeId) (b c:List Ev) (d:List Reg) (e:Ls):=Sf true (Sf a (Sf (b,c,d) (Jnc=Z83 d e∧Kfi d e)))
def Jzz (a:List Reg):=Jg5 (Kz a) B0
def Jzu (a:List Reg) (b:Ls):=Jg5 (Kz a) (U8 b)
theorem Jiz (T:TypeId) (E C:List Ev) (G:List Reg) (ws:List ByteArray):wpFO Tryz.prog J1d.g (na ()) (fun _=>na ()) (Sx.look ([(75,Tryz.f75)]:List (Nat×Func))) Tryz.f119 J3b T (E,C,G) (U3::ws,()):=by
 refine(by kernel_rfl:(Jd0 (E,C,G) (U3::ws)→Tw (Bd 0 (Z40 ws))∧Br false (Tw (Bd 1 (Z40 ws))∧Br (bif !false==bif Z40 ws==2 then Jrq ws else false then true else K3x ws) (K0a T E C G ws) (Br (Yg G) (Yf G∧X3 G∧Br false (Kjg T E C G ws) (Ub G∧Br (Ln (Jzu G ws)==0) (Ki2 T E C G ws) ((List.length (Jzu G ws)≤1000000∧List.length (Lib.join (List.map (fun(x:ByteArray)=>Z9 x) (Jzu G ws)) [32])≤140737488355328)∧Sf true (Sf T (Sf (E,C,G) (Vz (Jzu G ws) H7=Z83 G ws∧Kfi G ws)))))) (Jb7∧Br false (Kjg T E C G ws) (Xb∧Br (Ln (Kkd ws)==0) (Ki2 T E C G ws) ((List.length (Kkd ws)≤1000000∧List.length (Lib.join (List.map (fun(x:ByteArray)=>Z9 x) (Kkd ws)) [32])≤140737488355328)∧Sf true (Sf T (Sf (E,C,G) (Vz (Kkd ws) H7=Z83 G ws∧Kfi G ws)))))))) (Br (bif !false==bif Z40 ws==2 then false else false then true else K3x ws) (K0a T E C G ws) (Br (Yg G) (Yf G∧X3 G∧Br false (Kjg T E C G ws) (Ub G∧Br (Ln (Jzz G)==0) (Ki2 T E C G ws) ((List.length (Jzz G)≤1000000∧List.length (Lib.join (List.map (fun(x:ByteArray)=>Z9 x) (Jzz G)) [32])≤140737488355328)∧Sf true (Sf T (Sf (E,C,G) (Vz (Jzz G) H7=Z83 G ws∧Kfi G ws)))))) (Jb7∧Br false (Kjg T E C G ws) (Xb∧Br false (Ki2 T E C G ws) (Kfb∧Sf true (Sf T (Sf (E,C,G) (Vz (Jg5 V0 B0) H7=Z83 G ws∧Kfi G ws)))))))))=_).mp ?_
 delta Z9 Z40 Z83 U8 Yg H7 Kfi Kfb Jrq Jnc Dq V0 Yf Xb Jb7 K3x Fz Fy Ja1 Kkd Jak H6 H5 Du Hq Kjg K0a Ki2 Ys Kz Ub Jzz X3 Jzu Br Iw Bd Tw Sf Ln Gt B0 Lb E2 U3
 intro ha
 obtain⟨hr,-,hG,hmax,hsz⟩:=Je7 ha
 simp only[Jo5,J7w,z119,J75,Prod.eta,Jhf,J8g]
 rcases Jfe G with⟨hd,hp,e0⟩|⟨hd,e0⟩<;>rw[hd,←e0]<;>cases h2:(ws.length:Int)+1==1<;>cases h6:(ws.length:Int)+1==2<;>cases h3:(ws.getD 0 Jb).toList==Jb.toList<;>cases h5:(((Jg5 (J8 G) Jb).length:Int)==0)
 all_goals simp only[h2,h5,bne,J3l,Bool.not_true,Bool.not_false,cond_true,cond_false,BEq.rfl,Bool.false_beq,reduceCtorEq,false_implies,forall_const,true_and,and_true,and_self]
 all_goals repeat' apply And.intro
 all_goals first|omega|(have:=eq_of_beq h2;omega)|exact hr|exact(Xg (Jvj hr _)).1|exact(Xg (Jvj hr _)).2|rfl|(rw[e0] at h5;exact Bool.noConfusion h5)|skip
theorem Jn7 {k:ByteArray} (h:Jh3 k=true):k=U6∨k=Dl∨k=Dm∨k=Uw∨k=U5∨k=U4∨k=U3:=by
 obtain⟨x,hx,hk⟩:=Jff h
 have hk:=Jw5 hk
 unfold Je4 Tryz.questU at hx
 subst hk
 simp only[List.mem_cons,List.not_mem_nil,or_false] at hx
 rcases hx with rfl|rfl|rfl|rfl|rfl|rfl|rfl
 all_goals simp
theorem Kr1 (T:TypeId):∀(x:Kh) (y:ATup [.val false (.list 9 .str)]),wpFO Tryz.prog J1d.g (na ()) (fun _=>na ()) (Sx.look ([(75,Tryz.f75)]:List (Nat×Func))) Tryz.f119 J3b T x y
 | (E, C, G), (l, ()) => by
  refine Jis (by kernel_rfl) fun hp=> ?_
  have hl:1≤l.length:=Jd0.len hp
  have hk:Jh3 (l.getD 0 Jb)=true:=Jd0.key hp
  obtain⟨w,ws,rfl⟩:∃w ws,l=w::ws:=by
   cases l with
   |nil=>exact absurd hl (by decide)
   |cons w ws=>exact⟨w,ws,rfl⟩
  have hk:Jh3 w=true:=hk
  rcases Jn7 hk with rfl|rfl|rfl|rfl|rfl|rfl|rfl
  ·exact Ji3 T E C G ws
  ·exact Jsh T E C G ws
  ·exact Jsi T E C G ws
  ·exact Ji2 T E C G ws
  ·exact Ji1 T E C G ws
  ·exact Ji0 T E C G ws
  ·exact Jiz T E C G ws
theorem Kvd:Ok Tryz.prog 119 (Zh.con J3b):=Zk (Uk mixed J1d.ok (by kernel_rfl) (by kernel_rfl) (U0 (l:=([(75,Tryz.f75)]:List (Nat×Func))) (List.forall_mem_cons.2 ⟨by kernel_rfl,by simp⟩)) (fun _ _=>na ()) (fun _ _=>fun _=>na ()) fun T xx yy _=>Kr1 T xx yy)
abbrev Ub8:=J1d.add Kvd
abbrev K6d:=Ub8.add J7s
def doW (line:ByteArray):List ByteArray:=Zi line ⟨⟨[32]⟩⟩
def do1 (line:ByteArray):Int:=Jf [bif decide (4096<(line.size:Int)) then 26 else 0,bif line.toList==Jb.toList then 25 else 0]
def do2 (h:Kh) (ws:List ByteArray):Int:=Jf [bif !(Xp ws).2 then 25 else 0,bif decide (1000≤(h.1.length:Int)) then 5 else 0]
def evD (h:Kh) (ws:List ByteArray):Ev:=((h.1.length:Int)+1,(Xp ws).1.2)
def Kgq (n:Int):ByteArray:=bs ([100,111,110,101,32]++(Vs n).data.toList)
def doF (h:Kh) (line:ByteArray):Kh×ByteArray×Int:=
 if do1 line≠0 then(h,Jb,do1 line) else
 if Jh3 ((doW line).getD 0 Jb)=true then(h,Zw (J8 h.2.2) (doW line)) else
 if Y2 ((doW line).getD 0 Jb)=false then(h,Jb,13) else
 if do2 h (doW line)≠0 then(h,Jb,do2 h (doW line)) else
 if Kx h (evD h (doW line))≠0 then(h,Jb,Kx h (evD h (doW line))) else
 (X1 h (evD h (doW line)),Kgq ((h.1.length:Int)+1),0)
def cDo:Zh:={T? :=some 212,s:=Jjf,args:=[aS],ress:=[tS,I],pre:=fun h (l,_)=>[Yk h,F2 h,l.size≤1000000],spec:=fun h (l,_)=>((doF h l).2.1,(doF h l).2.2,()),post:=fun h (l,_)=>(doF h l).1}
theorem Kgr {l:ByteArray} (h:l.size≤1000000) (h4:l.size≤4096):1≤(doW l).length∧(doW l).length≤1000000∧∀w∈doW l,w.size≤1000000:=by
 have e:doW l=(Jkw 32 l.data.toList).map bs:=Jen l 32
 have h1:=Jjc 32 l.data.toList
 have hl:l.data.toList.length=l.size:=rfl
 rw[e]
 refine⟨?_,by rw[List.length_map];omega,fun w hw=> ?_⟩
 ·rw[List.length_map]
  have:∀l:List UInt8,1≤(Jkw 32 l).length:=by
   intro l
   induction l with
   |nil=>decide
   |cons c r ih=>unfold Jkw;split<;>(try split)<;>simp only[List.length_cons,List.length_nil]<;>omega
  exact this _
 ·obtain⟨v,hv,rfl⟩:=List.mem_map.1 hw
  have:=Ja8 _ _ v hv
  rw[Xz];omega
def J00 (a:Bt):=Zi a H7
def K59 (a:Bt):=(Xp (J00 a)).1.2
def K57 (a:Bt):=(K59 a).2
def K5t (a:Bt):=List.getD (J00 a) 0 B0
def K5j (a:Bt):=Tw (Bd 0 (Ln (J00 a)))
def K11 (a:Bt):=Jf [bif decide (4096<Nc (ByteArray.size a)) then 26 else 0,bif Lb a B0 then 25 else 0]
def K0e (a:Bt) (b:List Ev):=Jf ((bif !(Xp (J00 a)).2 then 25 else 0)::Kql b)
def Kmk (a:List Ev) (b:Bt):=(Z3 a,(K59 b).1,(K57 b).1,E2 (K57 b).2)
def Ky4 (a b:List Ev) (c:List Reg) (d:Bt):=Vf (a,b,c) (Kmk a d)
def Ky3 (a b:List Ev) (c:List Reg) (d:Bt):=Kx (a,b,c) (Kmk a d)
def Kc8 (a b:List Ev) (c:List Reg) (d:Bt):=((Ky4 a b c d).1,E2 (Ky4 a b c d).2)=(doF (a,b,c) d).1
theorem K86 (E C:List Ev) (G:List Reg) (line:ByteArray):wpFO Tryz.prog K6d.g (na ()) (fun _=>na ()) (Sx.look ([]:List (Nat×Func))) Tryz.f40 cDo 212 (E,C,G) (line,()):=by
 refine(by kernel_rfl:(Yk (E,C,G)→F2 (E,C,G)→ByteArray.size line≤1000000→Br false (Sf true (Sf 212 ((E,C,G)=(doF (E,C,G) line).1∧B0=(doF (E,C,G) line).2.1∧22=(doF (E,C,G) line).2.2))) (2≤1000000∧Br (K11 line !=0) (Sf true (Sf 212 ((E,C,G)=(doF (E,C,G) line).1∧B0=(doF (E,C,G) line).2.1∧K11 line=(doF (E,C,G) line).2.2))) ((ByteArray.size line≤1000000∧1≤1)∧K5j line∧Br (Option.isSome (Ue Sch.str (K5t line) Je4)) (Jd0 (E,C,G) (J00 line)∧Sf true (Sf 212 ((E,C,G)=(doF (E,C,G) line).1∧(Zw (J8 G) (J00 line)).1=(doF (E,C,G) line).2.1∧(Zw (J8 G) (J00 line)).2=(doF (E,C,G) line).2.2))) (K5j line∧Br (!Option.isSome (Ue Sch.str (K5t line) Dc)) (Sf true (Sf 212 ((E,C,G)=(doF (E,C,G) line).1∧B0=(doF (E,C,G) line).2.1∧13=(doF (E,C,G) line).2.2))) ((List.length (J00 line)≤1000000∧∀(w:ByteArray),w∈J00 line→ByteArray.size w≤1000000)∧2≤1000000∧Br (K0e line E !=0) (Sf true (Sf 212 ((E,C,G)=(doF (E,C,G) line).1∧B0=(doF (E,C,G) line).2.1∧K0e line E=(doF (E,C,G) line).2.2))) (Z68 E∧(Kr (E,C,G)∧Z37 E∧Fp (Kmk E line))∧Br (Ky3 E C G line !=0) (Sf true (Sf 212 (Kc8 E C G line∧B0=(doF (E,C,G) line).2.1∧Ky3 E C G line=(doF (E,C,G) line).2.2))) ((Z68 E∧Nc (5+ByteArray.size (Vs (Z3 E)))≤9223372036854775807)∧Sf true (Sf 212 (Kc8 E C G line∧ByteArray.mk (Array.mk (100::111::110::101::32::([]++(Vs (Z3 E)).data.toList)))=(doF (E,C,G) line).2.1∧0=(doF (E,C,G) line).2.2)))))))))=_).mp ?_
 delta Z3 Z37 Z68 H7 J00 K59 K57 Kql K5t K5j K11 K0e Kmk Ky4 Ky3 Kc8 Br Iw Bd Tw Sf Ln Nc B0 Lb E2
 intro hi hn hsz
 have hbn:({data:={toList:=[]}}:ByteArray)=Jb:=rfl
 have hW:Zi line {data:={toList:=[32]}}=doW line:=rfl
 have hd1:Jf [bif decide (4096<(line.size:Int)) then 26 else 0,bif line.toList==Jb.toList then 25 else 0]=do1 line:=rfl
 have hd2:Jf [bif !(Xp (doW line)).2 then 25 else 0,bif decide (1000≤(E.length:Int)) then 5 else 0]=do2 (E,C,G) (doW line):=rfl
 have hq:(Ue Sch.str ((doW line).getD 0 Jb) Je4).isSome=Jh3 ((doW line).getD 0 Jb):=rfl
 have hk:(Ue Sch.str ((doW line).getD 0 Jb) Dc).isSome=Y2 ((doW line).getD 0 Jb):=rfl
 have he:((E.length:Int)+1,(Xp (doW line)).1.2)=evD (E,C,G) (doW line):=rfl
 simp only[hbn,hW,Prod.eta,hd1,hd2,hq,hk,he]
 have nE:E.length≤1000:=hi.ok.nE
 refine⟨fun h=>(nomatch h),fun _=>⟨by decide,fun h1=> ?_,fun h1=> ?_⟩⟩
 ·have e:doF (E,C,G) line=((E,C,G),Jb,do1 line):=by unfold doF;rw[if_pos (bne_iff_ne.1 h1)]
  rw[e];exact⟨trivial,trivial,rfl,rfl,rfl⟩
 have e1:do1 line=0:=bne_eq_false_iff_eq.1 h1
 have h4:line.size≤4096:=by
  cases hc:decide (4096<(line.size:Int)) with
  |false=>have:=of_decide_eq_false hc;omega
  |true=>rw[do1,hc] at e1;exact nomatch (show(26:Int)=0 from e1)
 obtain⟨w1,w2,w3⟩:=Kgr hsz h4
 refine⟨⟨hsz,Nat.le_refl _⟩,by omega,fun h2=> ?_,fun h2=>⟨by omega,fun h3=> ?_,fun h3=> ?_⟩⟩
 ·have e:doF (E,C,G) line=((E,C,G),Zw (J8 G) (doW line)):=by unfold doF;rw[if_neg (by rw[e1];decide),if_pos h2]
  rw[e];exact⟨⟨hi.ok,hn,w1,h2,w2,w3⟩,trivial,trivial,rfl,rfl,rfl⟩
 ·have h3:Y2 ((doW line).getD 0 Jb)=false:=by simpa using h3
  have e:doF (E,C,G) line=((E,C,G),Jb,13):=by unfold doF;rw[if_neg (by rw[e1];decide),if_neg (by rw[h2];decide),if_pos h3]
  rw[e];exact⟨trivial,trivial,rfl,rfl,rfl⟩
 have h3:Y2 ((doW line).getD 0 Jb)=true:=by simpa using h3
 refine⟨⟨w2,w3⟩,by decide,fun h5=> ?_,fun h5=> ?_⟩
 ·have e:doF (E,C,G) line=((E,C,G),Jb,do2 (E,C,G) (doW line)):=by unfold doF;rw[if_neg (by rw[e1];decide),if_neg (by rw[h2];decide),if_neg (by rw[h3];decide),if_pos (bne_iff_ne.1 h5)]
  rw[e];exact⟨trivial,trivial,rfl,rfl,rfl⟩
 have e5:do2 (E,C,G) (doW line)=0:=bne_eq_false_iff_eq.1 h5
 have hE:E.length<1000:=by
  cases hc:decide (1000≤(E.length:Int)) with
  |false=>have:=of_decide_eq_false hc;omega
  |true=>
   rw[do2] at e5
   have hc:decide (1000≤(((E,C,G):Kh).1.length:Int))=true:=hc
   rw[hc] at e5
   cases hx:(Xp (doW line)).2<;>rw[hx] at e5<;>exact nomatch e5
 have hz:=Jp8 w3
 have hsz2:Fp (evD (E,C,G) (doW line)):=⟨Nat.le_trans hz.1 (by decide),Nat.le_trans hz.2.1 (by decide),hz.2.2⟩
 refine⟨by omega,⟨hi.ok,hE,hsz2⟩,fun h6=> ?_,fun h6=> ?_⟩
 ·have n6:=bne_iff_ne.1 h6
  have e:doF (E,C,G) line=((E,C,G),Jb,Kx (E,C,G) (evD (E,C,G) (doW line))):=by unfold doF;rw[if_neg (by rw[e1];decide),if_neg (by rw[h2];decide),if_neg (by rw[h3];decide),if_neg (by rw[e5];decide),if_pos n6]
  have ea:Vf (E,C,G) (evD (E,C,G) (doW line))=(E,C,G):=by unfold Vf;rw[if_neg n6]
  rw[e,ea];exact⟨trivial,trivial,rfl,rfl,rfl⟩
 ·have e6:Kx (E,C,G) (evD (E,C,G) (doW line))=0:=bne_eq_false_iff_eq.1 h6
  have e:doF (E,C,G) line=(X1 (E,C,G) (evD (E,C,G) (doW line)),Kgq ((E.length:Int)+1),0):=by unfold doF;rw[if_neg (by rw[e1];decide),if_neg (by rw[h2];decide),if_neg (by rw[h3];decide),if_neg (by rw[e5];decide),if_neg (by rw[e6];decide)]
  have ea:Vf (E,C,G) (evD (E,C,G) (doW line))=X1 (E,C,G) (evD (E,C,G) (doW line)):=by unfold Vf;rw[if_pos e6]
  have hi:=Jbh ((E.length:Int)+1) (by omega) (by omega)
  rw[e,ea];exact⟨⟨by omega,by omega⟩,trivial,trivial,rfl,rfl,rfl⟩
theorem Uaf:Ok Tryz.prog 40 (Zh.con cDo):=Zk (Uk mixed K6d.ok (by kernel_rfl) (by kernel_rfl) (U0 (l:=([]:List (Nat×Func))) (by simp)) (fun xx yy=>na ()) (fun xx yy=>fun _=>na ()) fun T xx yy hT=>by obtain rfl:=hT _ rfl;exact K86 xx.1 xx.2.1 xx.2.2 yy.1)
abbrev Krc:=K6d.add Uaf
theorem Kv3 {h:Kh} {l:ByteArray} (hi:Yk h) (hn:F2 h):Yk (doF h l).1∧F2 (doF h l).1:=by
 unfold doF
 split
 ·exact⟨hi,hn⟩
 split
 ·exact⟨hi,hn⟩
 split
 ·exact⟨hi,hn⟩
 split
 ·exact⟨hi,hn⟩
 split
 ·exact⟨hi,hn⟩
 rename_i h5 h6
 have e5:do2 h (doW l)=0:=Decidable.of_not_not h5
 have hE:h.1.length<1000:=by
  cases hc:decide (1000≤(h.1.length:Int)) with
  |false=>have:=of_decide_eq_false hc;omega
  |true=>
   rw[do2,hc] at e5
   cases hx:(Xp (doW l)).2<;>rw[hx] at e5<;>exact nomatch e5
 exact⟨Jaj hi hE (Decidable.of_not_not h6),Kxi hn (Decidable.of_not_not h6)⟩
abbrev Kr7:Sch:= .prod .str (.prod .str sI)
abbrev Say:=ByteArray×ByteArray×Int
def J48:Say:=(Jb,Jb,0)
def Kr6 (r:ByteArray×Int) (x:Say):Bool:=bif r.1.toList !=x.2.1.toList then true else r.2 !=x.2.2
def Jeh:Kh→List Say→Kh×Bool
 |h,[]=>(h,true)
 |h,x::l=>bif Kr6 (doF h x.1).2 x then((doF h x.1).1,false) else Jeh (doF h x.1).1 l
def Kdr:Zh:={T? :=some 212,s:=Jjf,args:=[.val false (.list 147 Kr7)],ress:=[Bo],pre:=fun h (l,_)=>[Yk h,F2 h,l.length≤1000000,∀x∈l,x.1.size≤1000000],spec:=fun h (l,_)=>((Jeh h l).2,()),post:=fun h (l,_)=>(Jeh h l).1}
abbrev Jy3 (h0:Kh) (l:List Say):Ann:={X:=Kh×Nat,σ:=fun(h,k)=>⟨6,[(0, .one (.ptr 1 0)),(11, .one (.sl 5)),(12, .one (.int .i64 l.length)),(13, .one (.int .i64 k))],[(0, .sus [(0, .one (.ptr 1 0))]),(1, .box 212 [.sl 2, .sl 3, .sl 4]),(2, .own 67 sEv h.1),(3, .own 67 sEv h.2.1),(4, .own 105 Jkx h.2.2),(5, .imm 147 Kr7 l)]⟩,inv:=fun(h,k)=>Yk h∧F2 h∧k≤l.length∧Jeh h (l.drop k)=Jeh h0 l,mu:=fun(_,k)=>l.length-k}
def Kk1 (a:List Say) (b:Kh×Nat):=List.getD a b.2 (B0,B0,0)
def Kke (a:Kh×Nat) (b:List Say):=doF (Jt1 a) (Kk1 b a).1
def K2d (a:Kh×Nat) (b:List Say):=(Kke a b).2
def Kop (a:Kh×Nat) (b:List Say):=(Kke a b).1.2
theorem K6i (E C:List Ev) (G:List Reg) (l:List Say):wpFO Tryz.prog Krc.g (Zg (Jy3 (E,C,G) l)) (fun _=>na ()) (Sx.look ([]:List (Nat×Func))) Tryz.f66 Kdr 212 (E,C,G) (l,()):=by
 refine(by kernel_rfl:(Yk (E,C,G)→F2 (E,C,G)→List.length l≤1000000→(∀(x:ByteArray×ByteArray×Int),x∈l→ByteArray.size x.1≤1000000)→Br false (Sf true (Sf 212 ((E,C,G)=(Jeh (E,C,G) l).1∧false=(Jeh (E,C,G) l).2))) (∃(x:(List Ev×List Ev×List Reg)×Nat),Si (Ln l) (0=Nc x.2∧E=x.1.1∧C=x.1.2.1∧G=x.1.2.2∧l=l)∧(Yk x.1∧F2 x.1∧x.2≤List.length l∧Jeh x.1 (List.drop x.2 l)=Jeh (E,C,G) l)∧∀(x:Kh×Nat),Yk x.1∧F2 x.1∧x.2≤List.length l∧Jeh x.1 (List.drop x.2 l)=Jeh (E,C,G) l→Br (decide (Nc x.2<Ln l)) (Tw (Bd (Nc x.2) (Ln l))∧(Yk (Jt1 x)∧F2 (Jt1 x)∧ByteArray.size (Kk1 l x).1≤1000000)∧Br (bif !Lb (K2d x l).1 (Kk1 l x).2.1 then true else(K2d x l).2 !=(Kk1 l x).2.2) (Sf true (Sf 212 (((Kke x l).1.1,E2 (Kop x l))=(Jeh (E,C,G) l).1∧false=(Jeh (E,C,G) l).2))) (Z34 x∧∃(y:(List Ev×List Ev×List Reg)×Nat),Si (Ln l) (Jr3 x y∧(Kke x l).1.1=y.1.1∧(Kop x l).1=y.1.2.1∧(Kop x l).2=y.1.2.2∧l=l)∧(Yk y.1∧F2 y.1∧y.2≤List.length l∧Jeh y.1 (List.drop y.2 l)=Jeh (E,C,G) l)∧List.length l-y.2<List.length l-x.2)) (Sf true (Sf 212 (Jt1 x=(Jeh (E,C,G) l).1∧true=(Jeh (E,C,G) l).2)))))=_).mp ?_
 delta Z34 Jr3 Jt1 Kk1 Kke K2d Kop Br Iw Bd Tw Sf Si Ln Nc B0 Lb E2
 intro hi hn hl hsz
 refine⟨fun h=>(nomatch h),fun _=>⟨((E,C,G),(0:Nat)),by simp,⟨hi,hn,Nat.zero_le _,rfl⟩,fun(x:Kh×Nat) hx=>⟨fun hlt=> ?_,fun hlt=> ?_⟩⟩⟩
 ·obtain⟨h,k⟩:=x
  obtain⟨k1,k2,k3,k4⟩:=hx
  have hlt:k<l.length:=by simpa using hlt
  dsimp only at k1 k2 k3 k4
  have hz:(({data:={toList:=[]}}:ByteArray),({data:={toList:=[]}}:ByteArray),(0:Int))=J48:=rfl
  simp only[hz,Prod.eta]
  rw[Jn (d:=J48) hlt,Jeh] at k4
  have hd:=Kv3 (l:=(l.getD k J48).1) k1 k2
  refine⟨by omega,⟨k1,k2,hsz _ (Je hlt)⟩,fun h1=> ?_,fun h1=> ?_⟩
  ·have e:Kr6 (doF h (l.getD k J48).1).2 (l.getD k J48)=true:=h1
   rw[e,cond_true] at k4
   rw[←k4]
   exact⟨trivial,trivial,rfl,rfl⟩
  ·have e:Kr6 (doF h (l.getD k J48).1).2 (l.getD k J48)=false:=h1
   rw[e,cond_false] at k4
   exact⟨by omega,((doF h (l.getD k J48).1).1,k+1),by simp,⟨hd.1,hd.2,by(first|omega|dsimp only;omega),k4⟩,by(first|omega|dsimp only;omega)⟩
 ·obtain⟨h,k⟩:=x
  obtain⟨k1,k2,k3,k4⟩:=hx
  have hlt:¬k<l.length:=by simpa using hlt
  have e:k=l.length:=by dsimp only at k3;omega
  rw[e,List.drop_length,Jeh] at k4
  rw[←k4]
  exact⟨rfl,rfl,rfl,rfl⟩
theorem K92:Ok Tryz.prog 66 (Zh.con Kdr):=Zk (Uk mixed Krc.ok (by kernel_rfl) (by kernel_rfl) (U0 (l:=([]:List (Nat×Func))) (by simp)) (fun xx yy=>Zg (Jy3 (xx.1,xx.2.1,xx.2.2) yy.1)) (fun xx yy=>fun _=>na ()) fun T xx yy hT=>by obtain rfl:=hT _ rfl;exact K6i xx.1 xx.2.1 xx.2.2 yy.1)
abbrev K7v:=Krc.add K92
def Khi:Con:={args:=[.val false (.list 130 Ym), .fn [(true,Ym)] (true,Jvq)],ress:=[(false, .list 129 Jvq)],owns:=[true],pre:=fun(l,(q,_),_)=>[l.length≤1000000,∀x∈l,Us (q (x,()))],spec:=fun(l,(_,f),_)=>(l.map fun x=>f (x,()),())}
def Ker (a:Nat) (b:List Ord) (c:Nat):=a≤List.length b∧List.length b-a<List.length b-c
def Kkl (a:Ord×Unit→Jr8) (b:Nat) (c:List Ord):=List.map (fun(x:Ord)=>a (x,PUnit.unit)) (List.take b c)
def Kz2 (a:Ord×Unit→Jr8) (b:Nat) (c:List Ord):=List.length (Kkl a b c)
def Kdc (a:Ord×Unit→Jr8) (b:List Ord) (c:Nat):=a (Jz6 b c)
def Kdb (a:Ord×Unit→Jr8) (b:List Ord) (c:Nat):=(Kdc a b c).2
def Kda (a:Ord×Unit→Jr8) (b:List Ord) (c:Nat):=(Kdb a b c).2
def Kc9 (a:Ord×Unit→Jr8) (b:List Ord) (c:Nat):=(Kda a b c).2
theorem Ku7:Ok Tryz.prog 125 Khi:=okW K7v Tryz.f125 (fun xx=>Zg (Jb4 130 129 Ym xx.1 (true,Jvq) true xx.2.1.1 xx.2.1.2)) fun xx=>by
 obtain⟨(l:List Ord),⟨(q:Ord×Unit→List Prop),(f:Ord×Unit→Jr8)⟩,_⟩:=xx
 refine(by kernel_rfl:(Z50 l→Kp5 l q→∃(x:Nat),Si (Ln l) (0=Nc x∧Sf l ((fun(x:Ord×PUnit)=>q x)=q∧(fun(x:Ord×PUnit)=>f x)=f∧Kz2 f x l=0))∧x≤List.length l∧∀(x:Nat),x≤List.length l→Br (J1b x l) (Tw (Bd (Nc x) (Ln l))∧(J4s q l x∧(Kz2 f x l+1)*56≤140737488355328)∧Z21 x∧∃(y:Nat),Si (Ln l) (V4 x y∧Sf l ((fun(x:Ord×PUnit)=>q x)=q∧(fun(x:Ord×PUnit)=>f x)=f∧Kkl f x l++[((Kdc f l x).1,(Kdb f l x).1,(Kda f l x).1,(Kc9 f l x).1,E2 (Kc9 f l x).2)]=Kkl f y l))∧Ker y l x) (Kkl f x l=List.map (fun(x:Ord)=>f (x,PUnit.unit)) l))=_).mp ?_
 delta Z21 Z50 Z75 V4 J1b Jdo Ker Kac Kp5 Kem J3y Kek Kaa Kej J99 Kei J98 J97 J96 Kkl Kz2 Jz7 Jz6 Kdc Kdb Kda Kc9 J4s Br Iw Bd Tw Sf Si Ln Nc B0 E2
 intro hb hq
 refine⟨(0:Nat),⟨rfl,rfl,rfl,rfl,rfl,by simp⟩,Nat.zero_le _,fun(k:Nat) hk=>⟨fun h=> ?_,fun h=> ?_⟩⟩
 ·have hlt:k<l.length:=by simpa using h
  refine⟨by omega,⟨hq (l.getD k Ki) (Je hlt),by simp only[List.length_map,List.length_take];omega⟩,by omega,(k+1:Nat),⟨rfl,by simp,rfl,rfl,rfl, ?_⟩,by omega,by omega⟩
  rw[←Ke (d:=Ki) hlt,List.map_append];rfl
 ·have hlt:¬k<l.length:=by simpa using h
  rw[List.take_of_length_le (by omega)]
abbrev Ub7:=K7v.add Ku7
def Ho (l:List Ev):List Jr8:=(Jg l).2.2.2.1.map (Uv (Jg l).2.1 (Jg l).2.2.2.2.1)
abbrev K7u:=Ub7
def Jm4 (l:List Ev) (a b:ByteArray):Int:=Jf [opE l [a,b],bif a.toList==b.toList then 24 else 0]
def Jy6 (l:List Ev) (a b:ByteArray):Int:=if Jm4 l a b=0 then Fc (Jg l).2.1 (Jg l).2.2.2.1 (Jg l).2.2.2.2.1 a b else 0
def J86:Con:={args:=[.val false (.list 67 sEv),aS,aS],ress:=[I,I],owns:=[],pre:=fun(l,_)=>[lOk l],spec:=fun(l,a,b,_)=>(Jy6 l a b,Jm4 l a b,())}
def K44 (a:List Ev) (b c:Bt):=Jf [opE a [b,c],bif Lb b c then 24 else 0]
theorem Uac:Ok Tryz.prog 44 J86:=okW K7u Tryz.f44 na fun xx=>by
 obtain⟨(l:List Ev),(a:ByteArray),(b:ByteArray),_⟩:=xx
 refine(by kernel_rfl:(lOk l→(lOk l∧2≤1000000)∧2≤1000000∧Br (K44 l a b !=0) (0=Jy6 l a b∧K44 l a b=Jm4 l a b) (J54 l∧Fc (Jg l).2.1 (Jg l).2.2.2.1 (Jg l).2.2.2.2.1 a b=Jy6 l a b∧0=Jm4 l a b))=_).mp ?_
 delta K44 Jza J54 Br Lb E2
 intro hl
 refine⟨⟨hl,by decide⟩,by decide,fun h=> ?_,fun h=> ?_⟩
 ·have h:Jm4 l a b≠0:=bne_iff_ne.1 h
  exact⟨by unfold Jy6;rw[if_neg h],rfl⟩
 ·have h:Jm4 l a b=0:=bne_eq_false_iff_eq.1 h
  exact⟨D0,by unfold Jy6;rw[if_pos h],h.symm⟩
abbrev Ub6:=K7u.add Uac
abbrev K7t:=Ub6
def Jcm (l:List Ev):(Int×Int)×Int:=if opE l []=0 then Kgg (Jg l).2.1 (Jg l).2.2.2.1 (Jg l).2.2.2.2.1 else((0,0),opE l [])
def J8s:Con:={args:=[.val false (.list 67 sEv)],ress:=[(true,Ld),I],owns:=[],pre:=fun(l,_)=>[lOk l],spec:=fun(l,_)=>((Jcm l).1,(Jcm l).2,())}
abbrev Jy1 (l:List Ev) (B:List Jr8):Ann:={X:=Nat×Int×Int,σ:=fun(k,s,g)=>⟨9,[(2, .one (.ptr 1 0)),(6, .one (.int .i64 s)),(7, .one (.int .i64 g)),(23, .one (.sl 8)),(24, .one (.int .i64 B.length)),(25, .one (.int .i64 k))],[(1, .box 54 [.int .i64 0, .int .i64 0]),(8, .own 129 Jvq B)]⟩,inv:=fun(k,s,g)=>k≤B.length∧(0≤s∧s≤48000*k)∧(0≤g∧g≤s)∧Ju7 (B.drop k) (s,g)=Ju7 B (0,0),mu:=fun(k,_)=>B.length-k}
def K1j (a:List Ev):=List.map (fun(x:Ord)=>Uv (Jg a).2.1 (Jg a).2.2.2.2.1 x) (Jg a).2.2.2.1
def K1f (a:List Ev) (b:Nat×Int×Int):=(List.getD (Ho a) b.1 (B0,0,0,Z75)).2.2
def K1b (a:Nat×Int×Int) (b:List Ev):=a.2.1+(K1f b a).1
def K08 (a:Nat×Int×Int) (b:List Ev):=a.2.2+(K1f b a).2.1
def Kmn (a:Nat×Int×Int) (b:List Ev):=a.1≤List.length (Ho b)∧(0≤a.2.1∧a.2.1≤48000*Nc a.1)∧(0≤a.2.2∧a.2.2≤a.2.1)∧Ju7 (List.drop a.1 (Ho b)) (E2 a.2)=Ju7 (Ho b) (0,0)
theorem Uab:Ok Tryz.prog 46 J8s:=okW K7t Tryz.f46 (fun xx=>Zg (Jy1 xx.1 (Ho xx.1))) fun xx=>by
 obtain⟨(l:List Ev),_⟩:=xx
 refine(by kernel_rfl:(lOk l→(lOk l∧0≤1000000)∧Br (opE l [] !=0) ((0,0)=(Jcm l).1∧opE l []=(Jcm l).2) ((List.length (Jg l).2.2.2.1≤1000000∧∀(x:Ord),x∈(Jg l).2.2.2.1→J54 l∧x∈(Jg l).2.2.2.1)∧∃(x:Nat×Int×Int),(0=x.2.1∧0=x.2.2∧Ln (K1j l)=Ln (Ho l)∧0=Nc x.1∧Si 0 (Si 0 (K1j l=Ho l)))∧Kmn x l∧∀(x:Nat×Int×Int),Kmn x l→Br (decide (Nc x.1<Ln (Ho l))) (Tw (Bd (Nc x.1) (Ln (Ho l)))∧Iw (K1b x l)∧Iw (K08 x l)∧Iw (Nc x.1+1)∧∃(y:Nat×Int×Int),(K1b x l=y.2.1∧K08 x l=y.2.2∧Si (Ln (Ho l)) (Nc x.1+1=Nc y.1∧Si 0 (Si 0 (Ho l=Ho l))))∧Kmn y l∧List.length (Ho l)-y.1<List.length (Ho l)-x.1) (Br (x.2.1==0) ((0,0)=(Jcm l).1∧6=(Jcm l).2) ((Iw (x.2.1-x.2.2)∧(0≤x.2.1-x.2.2∧x.2.1-x.2.2≤1000000000000)∧1≤x.2.1∧x.2.1≤1000000000000)∧E2 (J5j (x.2.1-x.2.2) x.2.1)=(Jcm l).1∧0=(Jcm l).2))))=_).mp ?_
 delta Z75 Jza J54 K1j K1f K1b K08 Kmn Br Iw Bd Tw Si Ln Nc B0 E2
 intro hl
 have hr:=D0 (l:=l)
 have nO:(Jg l).2.2.2.1.length≤32:=hr.nO
 simp only[Prod.eta]
 refine⟨⟨hl,by decide⟩,fun h=> ?_,fun h=>⟨⟨Nat.le_trans nO (by decide),fun x hx=>⟨hr,hx⟩⟩, ?_⟩⟩
 ·have h:=bne_iff_ne.1 h
  unfold Jcm;rw[if_neg h]
  exact⟨rfl,rfl⟩
 have h:opE l []=0:=bne_eq_false_iff_eq.1 h
 have hB:∀b∈Ho l,J6z b:=fun b hb=>by
  obtain⟨x,hx,rfl⟩:=List.mem_map.1 hb
  exact Jb0 hr hx
 have nB:(Ho l).length≤32:=by unfold Ho;rw[List.length_map];exact nO
 refine⟨((0:Nat),0,0),by(repeat' first|exact rfl|exact⟨⟩|apply And.intro|omega|dsimp only;omega),⟨Nat.zero_le _,by(first|omega|dsimp only;omega),by(first|omega|dsimp only;omega),rfl⟩,fun(x:Nat×Int×Int) hk=>⟨fun h1=> ?_,fun h1=> ?_⟩⟩
 ·obtain⟨k,s,g⟩:=x
  have hlt:k<(Ho l).length:=by simpa using h1
  have hx:=Je (d:=Jyj) hlt
  have hb:=hB _ hx
  obtain⟨k1,k2,k3,k4⟩:=hk
  rw[Jn (d:=Jyj) hlt,Ju7] at k4
  have m1:=hb.sent
  have m2:=hb.got
  have hzb:((({data:={toList:=[]}}:ByteArray),(0:Int),(0:Int),(0:Int),(0:Int),(0:Int)):Jr8)=Jyj:=rfl
  dsimp only at k1 k2 k3 k4
  simp only[hzb]
  exact⟨by omega,by omega,by omega,by omega,(k+1,s+((Ho l).getD k Jyj).2.2.1,g+((Ho l).getD k Jyj).2.2.2.1),by simp,⟨by(first|omega|dsimp only;omega),by(first|omega|dsimp only;omega),by(first|omega|dsimp only;omega),k4⟩,by(first|omega|dsimp only;omega)⟩
 ·obtain⟨k,s,g⟩:=x
  have hlt:¬k<(Ho l).length:=by simpa using h1
  obtain⟨k1,k2,k3,k4⟩:=hk
  have:k=(Ho l).length:=by dsimp only at k1;omega
  rw[this,List.drop_length,Ju7] at k4
  have e:Jcm l=if s=0 then((0,0),6) else(J5j (s-g) s,0):=by
   unfold Jcm Kgg
   rw[if_pos h]
   rw[show((Jg l).2.2.2.1.map (Uv (Jg l).2.1 (Jg l).2.2.2.2.1))=Ho l from rfl,←k4]
  dsimp only at k2 k3
  rw[e]
  refine⟨fun h2=> ?_,fun h2=> ?_⟩
  ·have h2:s=0:=by simpa using h2
   rw[if_pos h2]
   exact⟨rfl,rfl⟩
  ·have h2:s≠0:=by simpa using h2
   rw[if_neg h2]
   refine⟨⟨?_, ?_, ?_⟩,rfl,rfl⟩
   all_goals dsimp only
   all_goals (repeat' first|apply And.intro|omega)
abbrev K7s:=K7t.add Uab
def Ua7:Con:={args:=[.ref 167 Jjf],ress:=[(true,Jkx)],owns:=[],pre:=fun(h,_)=>[Kr h],spec:=fun(h,_)=>(J8 h.2.2,())}
theorem K9u:Ok Tryz.prog 75 Ua7:=okW K7s Tryz.f75 na fun xx=>by
 obtain⟨⟨(E:List Ev),(C:List Ev),(G:List Reg)⟩,_⟩:=xx
 refine(by kernel_rfl:(Kr (E,C,G)→Br (Yg G) (Yf G∧Kz G=J8 G) (V0=J8 G))=_).mp ?_
 delta Yg Dq V0 Yf Fz Fy Ja1 Jak H6 H5 Du Hq Ys Kz Br Iw Bd Tw Ln Gt E2
 intro hh
 have n1:E.length≤1000:=hh.nE
 have n2:C.length≤E.length:=hh.nC
 have n3:G.length=C.length:=hh.nG
 have hG:((G.length:Int)-1).toNat=G.length-1:=by omega
 refine⟨fun h=> ?_,fun h=> ?_⟩
 ·have h:(0:Int)<G.length:=of_decide_eq_true h
  rw[hG]
  exact⟨by omega,rfl⟩
 ·exact(Ku h).symm
abbrev K7r:=K7s.add K9u
def Khn:Con:={args:=[.val false (.list 67 sEv), .fn [(true,sEv)] Bo],ress:=[(false, .list 67 sEv)],owns:=[true],pre:=fun(l,(q,_),_)=>[l.length≤1000000,∀x∈l,Us (q (x,()))],spec:=fun(l,(_,f),_)=>(l.filter fun x=>f (x,()),())}
def J6k (a:Ev×Unit→Bool) (b:Nat) (c:List Ev):=List.filter (fun(x:Ev)=>a (x,PUnit.unit)) (List.take b c)
theorem K9r:Ok Tryz.prog 78 Khn:=okW K7r Tryz.f78 (fun xx=>Zg (Jpc 67 67 sEv xx.1 true xx.2.1.1 xx.2.1.2)) fun xx=>by
 obtain⟨(l:List Ev),⟨(q:Ev×Unit→List Prop),(f:Ev×Unit→Bool)⟩,_⟩:=xx
 refine(by kernel_rfl:(Z38 l→Ken l q→∃(x:Nat),Si (Ln l) (0=Nc x∧Sf l ((fun(x:Ev×PUnit)=>q x)=q∧(fun(x:Ev×PUnit)=>f x)=f∧List.length (J6k f x l)=0))∧x≤List.length l∧∀(x:Nat),x≤List.length l→Br (Z93 x l) (Tw (Z14 x l)∧Kdu q l x∧Br (f (J9x l x)) ((List.length (J6k f x l)+1)*88≤140737488355328∧Z21 x∧∃(y:Nat),Si (Ln l) (V4 x y∧Sf l ((fun(x:Ev×PUnit)=>q x)=q∧(fun(x:Ev×PUnit)=>f x)=f∧J6k f x l++[Ki1 l x]=J6k f y l))∧Kah y l x) (Z21 x∧∃(y:Nat),Si (Ln l) (V4 x y∧Sf l ((fun(x:Ev×PUnit)=>q x)=q∧(fun(x:Ev×PUnit)=>f x)=f∧J6k f x l=J6k f y l))∧Kah y l x)) (J6k f x l=List.filter (fun(x:Ev)=>f (x,PUnit.unit)) l))=_).mp ?_
 delta Z14 Z21 Z38 Z93 V4 J03 Fe J6k J59 Kal Jzd J30 Kah Jzc Ken Ki1 J9x Kdu Br Iw Bd Tw Sf Si Ln Nc B0 E2
 intro hb hq
 refine⟨(0:Nat),⟨rfl,rfl,rfl,rfl,rfl,by simp⟩,Nat.zero_le _,fun(k:Nat) hk=>⟨fun h=> ?_,fun h=> ?_⟩⟩
 ·have hlt:k<l.length:=by simpa using h
  have hf:=Jf1 (p:=fun x=>f (x,())) hk
  have ht:=Ke (d:=ev0) hlt
  refine⟨by omega,hq (l.getD k ev0) (Je hlt),fun h1=> ?_,fun h1=> ?_⟩
  ·have h1:f (l.getD k ev0,())=true:=h1
   refine⟨by show((List.filter (fun x=>f (x,())) (List.take k l)).length+1)*88≤_;omega,by omega,(k+1:Nat),⟨rfl,by simp,rfl,rfl,rfl, ?_⟩,by omega,by omega⟩
   rw[←ht,List.filter_append,List.filter_cons,if_pos h1];rfl
  ·have h1:f (l.getD k ev0,())=false:=h1
   refine⟨by omega,(k+1:Nat),⟨rfl,by simp,rfl,rfl,rfl, ?_⟩,by omega,by omega⟩
   rw[←ht,List.filter_append,List.filter_cons,if_neg (by rw[h1];decide)];simp
 ·have hlt:¬k<l.length:=by simpa using h
  rw[List.take_of_length_le (by omega)]
abbrev K7q:=K7r.add K9r
def Khk:Con:={args:=[.val false (.list 67 sEv), .fn [(true,sEv)] (true,sEv)],ress:=[(false, .list 67 sEv)],owns:=[true],pre:=fun(l,(q,_),_)=>[l.length≤1000000,∀x∈l,Us (q (x,()))],spec:=fun(l,(_,f),_)=>(l.map fun x=>f (x,()),())}
def Ke9 (a:Ev×Unit→Ev) (b:Nat) (c:List Ev):=List.map (fun(x:Ev)=>a (x,PUnit.unit)) (List.take b c)
def Kyt (a:Ev×Unit→Ev) (b:List Ev) (c:Nat):=a (J9x b c)
def Kyr (a:Ev×Unit→Ev) (b:List Ev) (c:Nat):=(Kyt a b c).2
def Kyq (a:Ev×Unit→Ev) (b:List Ev) (c:Nat):=(Kyr a b c).2
theorem K9s:Ok Tryz.prog 77 Khk:=okW K7q Tryz.f77 (fun xx=>Zg (Jb4 67 67 sEv xx.1 (true,sEv) true xx.2.1.1 xx.2.1.2)) fun xx=>by
 obtain⟨(l:List Ev),⟨(q:Ev×Unit→List Prop),(f:Ev×Unit→Ev)⟩,_⟩:=xx
 refine(by kernel_rfl:(Z38 l→Ken l q→∃(x:Nat),Si (Ln l) (0=Nc x∧Sf l ((fun(x:Ev×PUnit)=>q x)=q∧(fun(x:Ev×PUnit)=>f x)=f∧List.length (Ke9 f x l)=0))∧x≤List.length l∧∀(x:Nat),x≤List.length l→Br (Z93 x l) (Tw (Z14 x l)∧(Kdu q l x∧(List.length (Ke9 f x l)+1)*88≤140737488355328)∧Z21 x∧∃(y:Nat),Si (Ln l) (V4 x y∧Sf l ((fun(x:Ev×PUnit)=>q x)=q∧(fun(x:Ev×PUnit)=>f x)=f∧Ke9 f x l++[((Kyt f l x).1,(Kyr f l x).1,(Kyq f l x).1,E2 (Kyq f l x).2)]=Ke9 f y l))∧Kah y l x) (Ke9 f x l=List.map (fun(x:Ev)=>f (x,PUnit.unit)) l))=_).mp ?_
 delta Z14 Z21 Z38 Z93 V4 J03 Fe Ke9 J59 Kal Jzd J30 Kah Jzc Ken Ki1 J9x Kyt Kyr Kyq Kdu Br Iw Bd Tw Sf Si Ln Nc B0 E2
 intro hb hq
 refine⟨(0:Nat),⟨rfl,rfl,rfl,rfl,rfl,by simp⟩,Nat.zero_le _,fun(k:Nat) hk=>⟨fun h=> ?_,fun h=> ?_⟩⟩
 ·have hlt:k<l.length:=by simpa using h
  refine⟨by omega,⟨hq (l.getD k ev0) (Je hlt),by simp only[List.length_map,List.length_take];omega⟩,by omega,(k+1:Nat),⟨rfl,by simp,rfl,rfl,rfl, ?_⟩,by omega,by omega⟩
  rw[←Ke (d:=ev0) hlt,List.map_append];rfl
 ·have hlt:¬k<l.length:=by simpa using h
  rw[List.take_of_length_le (by omega)]
abbrev K7p:=K7q.add K9s
def Um:List Ev→Nat→List Ev
 |[],_=>[]
 |e::l,i=>((i:Int)+1,e.2)::Um l (i+1)
def Vl (l:List Ev) (s:ByteArray):Int:=Jf [(Ja l).2.2,bif (bif (Ja l).2.2==0 then !Vt (Jg l) 0 s else false) then 10 else 0]
def V1 (l:List Ev) (s:ByteArray):List Ev:=(Ja l).1.2.1.filter fun e=>abS (Jg l) e s
def Jx (l:List Ev) (s:ByteArray):List Ev:=if Vl l s=0 then Um (V1 l s) 0 else[]
def Kgx:Con:={args:=[.val false (.list 67 sEv),aS],ress:=[(false, .list 67 sEv),I],owns:=[],pre:=fun(l,_)=>[lOk l],spec:=fun(l,s,_)=>(Jx l s,Vl l s,())}
theorem Zt:∀(l:List Ev) (i:Nat),(Um l i).length=l.length
 |[],_=>rfl
 |_::l,i=>by unfold Um;rw[List.length_cons,List.length_cons,Zt l]
theorem Jh0:∀(a b:List Ev) (i:Nat),Um (a++b) i=Um a i++Um b (i+a.length)
 |[],_,_=>rfl
 |x::a,b,i=>by
  rw[List.cons_append,Um,Um,Jh0 a b (i+1),List.cons_append,List.length_cons,show i+1+a.length=i+(a.length+1) by omega]
theorem Jv5 {L:List Ev} {k:Nat} (h:k<L.length):(Um (L.take k) 0++L.drop k).getD k ev0=L.getD k ev0:=by
 have hl:(Um (L.take k) 0).length=k:=by rw[Zt,List.length_take];omega
 rw[Jn (d:=ev0) h,List.getD_eq_getElem?_getD,List.getElem?_append_right (by omega),hl,Nat.sub_self]
 rfl
theorem Jv4 {L:List Ev} {k:Nat} (h:k<L.length):(Um (L.take k) 0++L.drop k).set k ((k:Int)+1,(L.getD k ev0).2)=Um (L.take (k+1)) 0++L.drop (k+1):=by
 have hl:(Um (L.take k) 0).length=k:=by rw[Zt,List.length_take];omega
 rw[Jn (d:=ev0) h,List.set_append_right _ _ (by omega),hl,Nat.sub_self,List.set_cons_zero,←Ke (d:=ev0) h,Jh0,List.append_assoc,List.length_take,Nat.min_eq_left (by omega),Nat.zero_add]
 rfl
theorem Jp1:∀{l:List Ev} {h:Kh},∀e∈(Xc h l).1.2.1,e∈h.2.1∨e∈l
 |[],_,e,he=> .inl he
 | x :: l, h, e, he => by
  unfold Xc at he
  by_cases ha:Kx h x=0
  ·rw[if_pos ha] at he
   rcases Jp1 e he with h1|h1
   ·unfold X1 at h1
    cases hk:x.2.1.toList==Jl.toList with
    |true=>rw[hk,cond_true] at h1;exact .inl (List.mem_of_mem_take h1)
    |false=>
     rw[hk,cond_false] at h1
     rcases V3 h1 with h2|rfl
     ·exact .inl h2
     ·exact .inr (List.mem_cons_self ..)
   ·exact .inr (List.mem_cons_of_mem _ h1)
  ·rw[if_neg ha] at he;exact .inl he
theorem Jsu {l:List Ev}:∀e∈(Ja l).1.2.1,e∈l:=by
 unfold Ja
 by_cases h:1000<l.length
 ·rw[if_pos h];intro e he;cases he
 ·rw[if_neg h];intro e he;exact(Jp1 e he).elim (fun h=>by cases h) id
abbrev J9f (l:List Ev) (s:ByteArray):Ann:={X:=Kh×Nat,σ:=fun(h,k)=>⟨8,[(5, .one (.ptr 3 0)),(14, .one (.sl 0)),(15, .one (.int .i64 l.length)),(16, .one (.int .i64 k))],[(0, .imm 67 sEv l),(1, .box 9 [.str s]),(2, .sus [(3, .one (.ptr 1 0))]),(3, .box 167 [.sl 5, .sl 6, .sl 7]),(5, .own 67 sEv h.1),(6, .own 67 sEv h.2.1),(7, .own 105 Jkx h.2.2)]⟩,inv:=fun(h,k)=>Yk h∧h.1.length=k∧k≤l.length∧l.length≤1000∧Xc h (l.drop k)=Ja l,mu:=fun(_,k)=>l.length-k}
abbrev Kij (L:List Ev):Ann:={X:=Nat,σ:=fun k=>⟨1,[(11, .one (.sl 0)),(44, .one (.sl 0)),(45, .one (.int .i64 L.length)),(46, .one (.int .i64 k))],[(0, .own 67 sEv (Um (L.take k) 0++L.drop k))]⟩,inv:=fun k=>k≤L.length,mu:=fun k=>L.length-k}
def Kae (a:Nat) (b:List Ev) (c:Bt):=Um (List.take a (V1 b c)) 0++List.drop a (V1 b c)
def Kad (a:Ev):=List.length a.2.2.1≤1000000∧List.length a.2.2.2.1≤1000000
def Kjn (a:Kh×Nat):=((J8 a.1.2.2).1,(J8 a.1.2.2).2.1,(J8 a.1.2.2).2.2.1,(J8 a.1.2.2).2.2.2.1,(J8 a.1.2.2).2.2.2.2.1,E2 (J8 a.1.2.2).2.2.2.2.2)
def K0q (a:Kh×Nat):=Jo (Kjn a)
def Kmx (a:Kh×Nat) (b:Bt):=List.filter (fun(x:Ev)=>abS (Kjn a) x b) a.1.2.1
def Kze (a:Kh×Nat) (b:Bt):=List.map (fun(x:Ev)=>x) (Kmx a b)
def Ky2 (a:Kh×Nat) (b:Bt):=Jf [0,bif bif true then !Vt (Kjn a) 0 b else false then 10 else 0]
def Kx7 (a:Kh×Nat) (b:List Ev):=J0r a b==0
def Kx4 (a:Kh×Nat) (b:List Ev):=Kx7 a b=true
def Kbt (a:Kh×Nat) (b:List Ev) (c:Bt):=Jf [J0r a b,bif bif Kx7 a b then Ko2 c else false then 10 else 0]
theorem Uaq:Ok Tryz.prog 16 Kgx:=Jwm K7p Tryz.f16 (U0 (l:=([(74,Tryz.f74)]:List (Nat×Func))) (List.forall_mem_cons.2 ⟨by kernel_rfl,by simp⟩)) (fun xx=>Zg (Kij (V1 xx.1 xx.2.1))) (fun xx=>fun f id=>if f=74 then some (J9f xx.1 xx.2.1) else none) fun xx=>by
 obtain⟨(l:List Ev),(s:ByteArray),_⟩:=xx
 refine(by kernel_rfl:(lOk l→Br (J1c l) ((Z41∧Jb7∧2≤1000000)∧Br true (Sf true ([]=Jx l s∧Jf [5,0]=Vl l s)) (Tw False)) (∃(x:(List Ev×List Ev×List Reg)×Nat),Si (Ln l) (0=Nc x.2∧Sf l (Kot s x))∧J3x x l∧∀(x:Kh×Nat),J53 x l→Br (J08 x l) (Tw (Z27 x l)∧J5y x l∧Br (J0q x l) (Z34 x∧((Kx4 x l→False)∧(Kx4 x l→Xb)∧2≤1000000)∧Br (Kbt x l s !=0) (Sf true ([]=Jx l s∧Kbt x l s=Vl l s)) (Tw False)) (Z34 x∧∃(y:(List Ev×List Ev×List Reg)×Nat),Si (Ln l) (Jr3 x y∧Sf l (J4h s x l y))∧J51 y l x)) (((true=true→J6j x)∧(true=true→K0q x)∧2≤1000000)∧Br (Ky2 x s !=0) (Sf true ([]=Jx l s∧Ky2 x s=Vl l s)) (J6j x∧(List.length x.1.2.1≤1000000∧(∀(x_1:Ev),x_1∈x.1.2.1→K0q x∧Jd1 (Kjn x) x_1)∧List.length (Kmx x s)≤1000000∧∀(x_1:Ev),x_1∈Kmx x s→Kad x_1)∧∃(x_1:Nat),(Ln (Kze x s)=Ln (V1 l s)∧0=Nc x_1∧Kze x s=Kae x_1 l s)∧x_1≤List.length (V1 l s)∧∀(x:Nat),x≤List.length (V1 l s)→Br (decide (Nc x<Ln (V1 l s))) ((Z21 x∧Tw (Bd (Nc x) (Ln (Kae x l s))))∧Z21 x∧∃(y:Nat),Si (Ln (V1 l s)) (V4 x y∧List.set (Kae x l s) x (Nc x+1,(List.getD (Kae x l s) x Fe).2)=Kae y l s)∧y≤List.length (V1 l s)∧List.length (V1 l s)-y<List.length (V1 l s)-x) (Sf true (Kae x l s=Jx l s∧0=Vl l s))))))=_).mp ?_
 delta Z21 Z27 Z34 Z41 J1c V4 J08 Jr3 Jt1 Fe J6j J58 J57 J0w Dq Kae Kad V0 Xb Ked Ko2 Jb7 Kot J94 J93 J53 J3x Kjn K0q Kmx J51 Kze Ky2 Jui J0r Kdt Kds Kx7 Kx4 J5y J0q Kbt Jt3 J4h Br Iw Bd Tw Sf Si Ln Nc B0 E2
 intro hl
 refine⟨fun h=> ?_,fun h=> ?_⟩
 ·have e:Ja l=(Vn,0,5):=by unfold Ja;rw[if_pos (by have:=of_decide_eq_true h;omega)]
  have eE:Vl l s=5:=by unfold Vl;rw[e];rfl
  refine⟨⟨fun h=>(by cases h),fun h=>(by cases h),by decide⟩,fun _=>⟨rfl, ?_,eE.symm⟩,fun h=>(by cases h)⟩
  unfold Jx;rw[if_neg (by rw[eE];decide)]
 have hn:l.length≤1000:=by have:=of_decide_eq_false h;omega
 have e0:Ja l=Xc Vn l:=by unfold Ja;rw[if_neg (by omega)]
 refine⟨(Vn,(0:Nat)),⟨rfl,rfl,rfl,rfl,rfl,rfl,rfl⟩,⟨Yv,rfl,Nat.zero_le _,hn,e0.symm⟩,fun(x:Kh×Nat) hx=>⟨fun h1=> ?_,fun h1=> ?_⟩⟩
 ·obtain⟨g,k⟩:=x
  obtain⟨hi,hk,hk2,_,hrun⟩:=hx
  dsimp only at hi hk hk2 hrun
  have hlt:k<l.length:=by simpa using h1
  rw[Jn (d:=ev0) hlt,Xc] at hrun
  have hz:=hl.2 _ (Je (d:=ev0) hlt)
  have hev:(0,({data:={toList:=[]}}:ByteArray),([]:List ByteArray),([]:List Int),({data:={toList:=[]}}:ByteArray))=ev0:=rfl
  simp only[hev,Prod.eta]
  refine⟨by omega,⟨hi.ok,(show g.1.length<1000 by omega),hz⟩,fun h2=> ?_,fun h2=> ?_⟩
  ·have n2:Kx g (l.getD k ev0)≠0:=bne_iff_ne.1 h2
   rw[if_neg n2] at hrun
   have b2:(Kx g (l.getD k ev0)==0)=false:=beq_eq_false_iff_ne.2 n2
   have eE:Vl l s=Kx g (l.getD k ev0):=by
    unfold Vl
    rw[←hrun]
    simp only[b2,cond_false]
    unfold Jf
    rw[if_neg n2]
   simp only[b2,cond_false]
   refine⟨by omega,⟨fun h=>(nomatch h),fun h=>(nomatch h),by decide⟩,fun _=>⟨trivial, ?_, ?_⟩,fun h=> ?_⟩
   ·unfold Jx;rw[if_neg (by rw[eE];exact n2)]
   ·rw[eE];unfold Jf;rw[if_neg n2]
   ·have h:=bne_eq_false_iff_eq.1 h
    unfold Jf at h;rw[if_neg n2] at h;exact absurd h n2
  ·have z2:Kx g (l.getD k ev0)=0:=bne_eq_false_iff_eq.1 h2
   rw[if_pos z2] at hrun
   have ea:Vf g (l.getD k ev0)=X1 g (l.getD k ev0):=by unfold Vf;rw[if_pos z2]
   rw[ea]
   have hk3:(X1 g (l.getD k ev0)).1.length=g.1.length+1:=Xm
   exact⟨by omega,(X1 g (l.getD k ev0),k+1),by simp,⟨Jaj hi (by(first|omega|dsimp only;omega)) z2,by(first|omega|dsimp only;omega),by(first|omega|dsimp only;omega),hn,hrun⟩,by(first|omega|dsimp only;omega)⟩
 ·obtain⟨g,k⟩:=x
  obtain⟨hi,hk,hk2,_,hrun⟩:=hx
  dsimp only at hi hk hk2 hrun
  have hlt:¬k<l.length:=by simpa using h1
  have:k=l.length:=by omega
  rw[this,List.drop_length,Xc] at hrun
  simp only[Prod.eta]
  have eR:Jg l=J8 g.2.2:=by unfold Jg;rw[←hrun];rfl
  have eE:Vl l s=Jf [0,bif bif true then !Vt (J8 g.2.2) 0 s else false then 10 else 0]:=by
   unfold Vl;rw[←hrun,eR];rfl
  have eL:V1 l s=g.2.1.filter fun e=>abS (J8 g.2.2) e s:=by unfold V1;rw[←hrun,eR]
  rw[←eE]
  have hA:Jm9 g:=by have:=Jji (l:=l);rw[←hrun] at this;exact this
  have nE:g.1.length≤1000:=hi.ok.nE
  have nC:g.2.1.length≤g.1.length:=hi.ok.nC
  have hsub:∀e∈g.2.1,e∈l:=by have:=Jsu (l:=l);rw[←hrun] at this;exact this
  have hfl:=List.length_filter_le (fun e=>abS (J8 g.2.2) e s) g.2.1
  have hL:(V1 l s).length≤1000:=by rw[eL];omega
  refine⟨⟨fun _=>hi.ok,fun _=>Db hi.ok,by decide⟩,fun h2=>⟨trivial, ?_,rfl⟩,fun h2=>⟨hi.ok,⟨Nat.le_trans nC (by omega),fun x hx=>⟨Db hi.ok,J5f hi hA hx⟩,Nat.le_trans hfl (by omega),fun x hx=> ?_⟩,(0:Nat),⟨?_,rfl, ?_⟩,Nat.zero_le _,fun(k:Nat) hk=>⟨fun h3=> ?_,fun h3=> ?_⟩⟩⟩
  ·unfold Jx;rw[if_neg (bne_iff_ne.1 h2)]
  ·have:=hl.2 x (hsub x (List.mem_filter.1 hx).1)
   exact⟨this.1,this.2.1⟩
  ·rw[eL,List.map_id']
  ·rw[eL,List.map_id'];rfl
  ·have hlt:k<(V1 l s).length:=by simpa using h3
   have hev:(0,({data:={toList:=[]}}:ByteArray),([]:List ByteArray),([]:List Int),({data:={toList:=[]}}:ByteArray))=ev0:=rfl
   rw[hev,Jv5 hlt]
   refine⟨⟨by omega, ?_⟩,by omega,(k+1:Nat),⟨trivial,by simp,Jv4 hlt⟩,by omega,by omega⟩
   rw[List.length_append,Zt,List.length_take,List.length_drop]
   omega
  ·have hlt:¬k<(V1 l s).length:=by simpa using h3
   have:k=(V1 l s).length:=by omega
   have z:Vl l s=0:=bne_eq_false_iff_eq.1 h2
   refine⟨trivial, ?_,z.symm⟩
   unfold Jx
   rw[if_pos z,this,List.take_length,List.drop_length,List.append_nil]
abbrev Ub5:=K7p.add Uaq
namespace Cmp
open Go.Sx
set_option maxHeartbeats 20000000
def Kwq:Con:={args:=[.val true Ld, .val true Ld],ress:=[I],owns:=[],pre:=fun(x,y,_)=>[-1000000000≤x.1∧x.1≤1000000000,-1000000000≤y.1∧y.1≤1000000000],spec:=fun(x,y,_)=>(x.1-y.1,())}
theorem ok98 [Sx.Dr]:Ok Tryz.prog 98 Kwq:=okW W82 Tryz.f98 na fun xx=>by
 obtain⟨⟨(a:Int),(b:Int)⟩,⟨(c:Int),(d:Int)⟩,_⟩:=xx
 refine(by kernel_rfl:((-1000000000)≤a∧a≤1000000000→(-1000000000)≤c∧c≤1000000000→Iw (a-c)∧a-c=a-c)=_).mp ?_
 delta Iw
 intro h1 h2
 exact⟨by omega,rfl⟩
abbrev W83 [Sx.Dr]:=W82.add ok98
end Cmp
set_option maxHeartbeats 20000000
abbrev Spn:=Int×Int
def J4u:={x:Spn// -1000000000≤x.1∧x.1≤1000000000}
instance:Inhabited J4u:=⟨⟨(0,0),by decide,by decide⟩⟩
def Jtk (x:J4u):List Value:=[.int .i64 x.1.1, .int .i64 x.1.2]
def Jxv (x y:J4u):Int:=x.1.1-y.1.1
theorem Jfi {a b:J4u}:Proofs.ltOf Jxv a b=false↔b.1.1≤a.1.1:=by
 unfold Proofs.ltOf Jxv
 simp only[decide_eq_false_iff_not]
 omega
theorem Jog (a b:J4u):Proofs.ltOf Jxv a b=true↔a.1.1<b.1.1:=by
 unfold Proofs.ltOf Jxv
 simp only[decide_eq_true_iff]
 omega
theorem K89:Sort.SWO (Proofs.ltOf Jxv) where
 irrefl x:=Jfi.2 (Int.le_refl _)
 trans x y z h1 h2:=(Jog x z).2 (Int.lt_trans ((Jog x y).1 h1) ((Jog y z).1 h2))
 ntrans x y z h1 h2:=Jfi.2 (Int.le_trans (Jfi.1 h2) (Jfi.1 h1))
theorem Jkh (M:Nat→Prop) (w:World) (x:J4u) (cs:List Value):Rep M w Ld x.1 cs↔cs=Jtk x:=by
 constructor
 ·rintro⟨a,b,rfl,ha,hb⟩
  have ha:a=[.int .i64 x.1.1]:=ha
  have hb:b=[.int .i64 x.1.2]:=hb
  subst ha;subst hb;rfl
 ·rintro rfl
  exact⟨_,_,rfl,rfl,rfl⟩
theorem Jxu (w:World) (x y:J4u) (hG:Sx.Good Tryz.prog w):Calls Tryz.prog 98 #[.agg (Jtk x).toArray, .agg (Jtk y).toArray] w fun e w'=>e= .returned (.int .i64 (Jxv x y))∧RowKit.Below w.heap.size w w'∧w.drawn≤w'.drawn:=by
 have h:=(@Cmp.ok98 .on).2.2.2 rfl (x.1,y.1,()) (fun _=>False) (fun _=>False) w [.agg (Jtk x).toArray, .agg (Jtk y).toArray] (fun b hb=>by rcases hb with hb|hb<;>exact hb.elim) hG.on ⟨x.2,y.2⟩ ⟨_,_,rfl,⟨Jtk x,rfl,(Jkh _ _ _ _).2 rfl⟩,_,_,rfl,⟨Jtk y,rfl,(Jkh _ _ _ _).2 rfl⟩,rfl⟩
 refine h.mono ?_
 rintro e w' ⟨M',vs,rfl,hb,_,_,hr⟩
 obtain⟨v,vs',rfl,⟨cs,rfl,hc⟩,hr⟩:=hr
 have hc:cs=[.int .i64 (Jxv x y)]:=hc
 have hr:vs'=[]:=hr
 subst hc;subst hr
 exact⟨rfl,@Sx.Below.kit .on _ _ _ hb,hb.dr⟩
theorem J2n (w:World):(isAgg 117).run Tryz.prog w= .ok true w:=by kernel_rfl
theorem Jvn (w:World):(Go.sizeOf 117).run Tryz.prog w= .ok 2 w:=by kernel_rfl
theorem Kfw (g cap:Nat) (d:Array J4u) (w:World) (hH:Sort.HoldsK Jtk 2 w g 0 d) (hg:g<w.heap.size) (hd:d.size<4611686018427387904) (hc:Proofs.CmpLays Tryz.prog 98 #[] Jtk 2 Jxv g 0 d.size w):
  Calls Tryz.prog 97 #[.slice (some ⟨g,0,none⟩) d.size cap, .func (.func 98) #[] #[]] w fun e w'=>e= .returned (.tuple #[])∧∃d' n os,Sort.PermIn 0 d.size d d'∧Sort.SortedIn (Proofs.ltOf Jxv) 0 d.size d'∧w'=Proofs.sortWorldK Jtk 2 w g 0 n d' os:=by
 have eg:∀args w,(callFunc 98 args).run Tryz.prog w= .ok (.enter 98 args) w:=Proofs.enters_of Tryz.func98 (by kernel_rfl) rfl
 exact Proofs.AnyQ.slices_SortFunc Proofs.Tryz.sortS 2 J2n Jvn Jtk (fun _=>rfl) (fun x v hv=>by simp[Jtk] at hv;rcases hv with rfl|rfl<;>rfl) Jxv K89 98 #[] g 0 cap d w eg hc hH hg hd
theorem Jnx (w:World):Calls Tryz.prog 97 #[.slice none 0 0, .func (.func 98) #[] #[]] w fun e w'=>e= .returned (.tuple #[])∧w'=w:=
 Proofs.AnyF.slices_SortFunc_none Proofs.Tryz.sortS none 0 _ w
def Kly (l:List Spn):Prop:=(∀x∈l,-1000000000≤x.1∧x.1≤1000000000)∧l.length≤1000000
def J7g (xs ys:List Spn):Prop:=ys.Perm xs∧ys.Pairwise fun a b=>a.1≤b.1
theorem Jqi {p:Spn→Prop}:∀l:List Spn,(∀x∈l,p x)→∃zs:List {x:Spn//p x},l=zs.map Subtype.val
 |[],_=>⟨[],rfl⟩
 |x::l,h=>by
  obtain⟨zs,e⟩:=Jqi l fun y hy=>h y (List.mem_cons_of_mem _ hy)
  exact⟨⟨x,h x (List.mem_cons_self ..)⟩::zs,by rw[List.map_cons,←e]⟩
theorem Jvh:J0b Tryz.prog 97 {T:=117,s:=Ld,g:=98,pre:=Kly,f:=id,rel:=some J7g}:=
 J1v (s:=Ld) (T:=117) (β:=J4u) (k:=2) Subtype.val Jtk (fun _=>rfl) rfl Jkh Jxv Kly id J7g Kfw Jnx Jxu
  (fun xs h=>Jqi xs h.1)
  (fun xs ys hp hs=>⟨hp.map _,List.pairwise_map.2 (hs.imp fun h=>Jfi.1 h)⟩)
  (fun xs h=>h.2)
def Kgy:Con:={args:=[],ress:=[],owns:=[],pre:=fun _=>[False],spec:=fun _=>(),srt:=some {T:=117,s:=Ld,g:=98,pre:=Kly,f:=id,rel:=some J7g}}
theorem K9d:Ok Tryz.prog 97 Kgy:=⟨⟨Tryz.f97,by kernel_rfl,by kernel_rfl,by kernel_rfl⟩,fun z hz=>(by cases hz;exact Jvh),fun F hF=>(by cases hF),fun h=>by cases h⟩
abbrev K7o:=Ub5.add K9d
def J8r:Con:={args:=[.val false (.list 188 Yh), .fn [(true,Yh)] (true,Ld)],ress:=[(false, .list 117 Ld)],owns:=[true],pre:=fun(l,(q,_),_)=>[l.length≤1000000,∀x∈l,Us (q (x,()))],spec:=fun(l,(_,f),_)=>(l.map fun x=>f (x,()),())}
def Kev (a:Out×Unit→Spn) (b:Nat) (c:List Out):=List.map (fun(x:Out)=>a (x,PUnit.unit)) (List.take b c)
theorem K9h:Ok Tryz.prog 93 J8r:=okW K7o Tryz.f93 (fun xx=>Zg (Jb4 188 117 Yh xx.1 (true,Ld) true xx.2.1.1 xx.2.1.2)) fun xx=>by
 obtain⟨(l:List Out),⟨(q:Out×Unit→List Prop),(f:Out×Unit→Spn)⟩,_⟩:=xx
 refine(by kernel_rfl:(Z48 l→J56 l q→∃(x:Nat),Si (Ln l) (0=Nc x∧Sf l ((fun(x:Out×PUnit)=>q x)=q∧(fun(x:Out×PUnit)=>f x)=f∧List.length (Kev f x l)=0))∧x≤List.length l∧∀(x:Nat),x≤List.length l→Br (Jnd x l) (Z84 x l∧(J5z q l x∧(List.length (Kev f x l)+1)*16≤140737488355328)∧Z21 x∧∃(y:Nat),Si (Ln l) (V4 x y∧Sf l ((fun(x:Out×PUnit)=>q x)=q∧(fun(x:Out×PUnit)=>f x)=f∧Kev f x l++[E2 (f (J50 l x))]=Kev f y l))∧Jzb y l x) (Kev f x l=List.map (fun(x:Out)=>f (x,PUnit.unit)) l))=_).mp ?_
 delta Z21 Z48 Z84 V4 Jnd Jc1 Jum Jtv J0x J33 J31 Jzg Kev Jzb J56 J9z J50 J5z Br Iw Bd Tw Sf Si Ln Nc B0 E2
 intro hb hq
 refine⟨(0:Nat),⟨rfl,rfl,rfl,rfl,rfl,by simp⟩,Nat.zero_le _,fun(k:Nat) hk=>⟨fun h=> ?_,fun h=> ?_⟩⟩
 ·have hlt:k<l.length:=by simpa using h
  refine⟨by omega,⟨hq (l.getD k Hp) (Je hlt),by simp only[List.length_map,List.length_take];omega⟩,by omega,(k+1:Nat),⟨rfl,by simp,rfl,rfl,rfl, ?_⟩,by omega,by omega⟩
  rw[←Ke (d:=Hp) hlt,List.map_append];rfl
 ·have hlt:¬k<l.length:=by simpa using h
  rw[List.take_of_length_le (by omega)]
abbrev K7n:=K7o.add K9h
def Ubj:Con:={args:=[.val true Yh, .ref 9 .str],ress:=[Bo],owns:=[],pre:=fun _=>[],spec:=fun(x,s,_)=>(x.2.1.toList==s.toList,())}
theorem K9f:Ok Tryz.prog 95 Ubj:=okW K7n Tryz.f95 na fun xx=>by
 obtain⟨⟨(n:ByteArray),(f:ByteArray),⟨(a:Int),(b:Int)⟩,(p:Int)⟩,(s:ByteArray),_⟩:=xx
 refine(by kernel_rfl:(Lb f s=Lb f s)=_).mp ?_
 delta Lb
 rfl
abbrev K7m:=K7n.add K9f
def Ubi:Con:={args:=[.val true Yh],ress:=[(true,Ld)],owns:=[],pre:=fun _=>[],spec:=fun(x,_)=>(x.2.2.1,())}
theorem K9e:Ok Tryz.prog 96 Ubi:=okW K7m Tryz.f96 na fun xx=>by
 obtain⟨⟨(n:ByteArray),(f:ByteArray),⟨(a:Int),(b:Int)⟩,(p:Int)⟩,_⟩:=xx
 refine(by kernel_rfl:((a,b)=(a,b))=_).mp ?_
 rfl
abbrev K7l:=K7m.add K9e
def avL (st:Int):List Spn→Int×Int→Int×Int
 |[],a=>a
 |s::l,(n,last)=>avL st l (n-max 0 (min s.2 st-max s.1 last),max last (min s.2 st))
theorem J9b {st:Int} {a b:Spn} {l:List Spn} {p:Int×Int} (h:a.1=b.1):avL st (a::b::l) p=avL st (b::a::l) p:=by
 obtain⟨n,last⟩:=p
 simp only[avL]
 congr 1
 refine Prod.ext ?_ ?_<;>dsimp only<;>omega
theorem Jrd {st:Int} {x:Spn} {bs:List Spn}:∀{us:List Spn} {p:Int×Int},(∀y∈us,y.1=x.1)→avL st (us++x::bs) p=avL st (x::(us++bs)) p
 |[],_,_=>rfl
 | y :: us, (n, last), h => by
  have h1:=Jrd (st:=st) (x:=x) (bs:=bs) (us:=us) (p:=(n-max 0 (min y.2 st-max y.1 last),max last (min y.2 st))) fun z hz=>h z (List.mem_cons_of_mem _ hz)
  have e:avL st (y::(us++x::bs)) (n,last)=avL st (y::x::(us++bs)) (n,last):=by
   simp only[avL] at h1⊢
   exact h1
  rw[List.cons_append,e,J9b (h y (List.mem_cons_self ..)),List.cons_append]
theorem Jyq {st:Int}:∀{xs ys:List Spn} {p:Int×Int},ys.Perm xs→(xs.Pairwise fun a b=>a.1≤b.1)→(ys.Pairwise fun a b=>a.1≤b.1)→avL st ys p=avL st xs p
 |[],ys,p,h,_,_=>by rw[List.Perm.eq_nil h]
 | x :: xs, ys, (n, last), h, h1, h2 => by
  have hx:x∈ys:=h.mem_iff.2 (List.mem_cons_self ..)
  obtain⟨us,bs,rfl⟩:=List.append_of_mem hx
  have h1:=List.pairwise_cons.1 h1
  have h2':=List.pairwise_append.1 h2
  have hk:∀y∈us,y.1=x.1:=fun y hy=>by
   have a1:=h2'.2.2 y hy x (List.mem_cons_self ..)
   have:y∈x::xs:=h.mem_iff.1 (List.mem_append_left _ hy)
   rcases List.mem_cons.1 this with rfl|hm
   ·rfl
   ·have:=h1.1 y hm
    omega
  rw[Jrd hk]
  have hp:(us++bs).Perm xs:=((List.perm_middle (a:=x) (l₁:=us) (l₂:=bs)).symm.trans h).cons_inv
  have hs:(us++bs).Pairwise fun a b=>a.1≤b.1:=List.Pairwise.sublist (List.Sublist.append (List.Sublist.refl _) (List.sublist_cons_self ..)) h2
  show avL st (us++bs) _=avL st xs _
  exact Jyq hp h1.2 hs
def J77 (x:Spn):List Spn→List Spn
 |[]=>[x]
 |y::r=>if x.1≤y.1 then x::y::r else y::J77 x r
def J1w:List Spn→List Spn
 |[]=>[]
 |x::r=>J77 x (J1w r)
theorem Jfo (x:Spn):∀l,(J77 x l).Perm (x::l)
 |[]=> .refl _
 |y::r=>by
  simp only[J77]
  split
  ·exact .refl _
  ·exact((Jfo x r).cons y).trans (.swap x y r)
theorem Jho:∀l,(J1w l).Perm l
 |[]=> .refl _
 |x::r=>(Jfo x _).trans ((Jho r).cons x)
theorem Jfn {x:Spn}:∀{l:List Spn},(l.Pairwise fun a b=>a.1≤b.1)→(J77 x l).Pairwise fun a b=>a.1≤b.1
 |[],_=>by simp[J77]
 | y :: r, h => by
  have h0:=List.pairwise_cons.1 h
  simp only[J77]
  split
  ·rename_i hlt
   refine List.pairwise_cons.2 ⟨fun z hz=> ?_,h⟩
   rcases List.mem_cons.1 hz with rfl|hz
   ·exact hlt
   ·exact Int.le_trans hlt (h0.1 z hz)
  ·rename_i hlt
   refine List.pairwise_cons.2 ⟨fun z hz=> ?_,Jfn h0.2⟩
   rcases List.mem_cons.1 ((Jfo x r).mem_iff.1 hz) with rfl|hz
   ·omega
   ·exact h0.1 z hz
theorem Jc6:∀{l:List Spn},(J1w l).Pairwise fun a b=>a.1≤b.1
 |[]=> .nil
 |x::r=>Jfn Jc6
def Jly (X:List Out) (s:ByteArray):List Spn:=(X.filter fun x=>x.2.1.toList==s.toList).map fun x=>x.2.2.1
def avN (st:Int) (X:List Out) (s:ByteArray):Int:=(avL st (J1w (Jly X s)) (st,0)).1
def avE (l:List Ev) (s:ByteArray):Int:=Jf [opE l [s],bif (Jg l).2.1==0 then 6 else 0]
def avP (l:List Ev) (s:ByteArray):Int×Int:=if avE l s=0 then J5j (avN (Jg l).2.1 (Jg l).2.2.2.2.2.1 s) (Jg l).2.1 else(0,0)
def Kwv:Con:={args:=[.val false (.list 67 sEv),aS],ress:=[(true,Ld),I],owns:=[],pre:=fun(l,_)=>[lOk l],spec:=fun(l,s,_)=>(avP l s,avE l s,())}
abbrev Kxc (l:List Ev) (s:ByteArray):Ann:={X:=Nat×Int×Int×List Spn,σ:=fun(k,n,last,ys)=>⟨14,[(4, .one (.ptr 2 0)),(6, .one (.ptr 9 0)),(9, .one (.int .i64 n)),(11, .one (.int .i64 last)),(43, .one (.sl 13)),(44, .one (.int .i64 ys.length)),(45, .one (.int .i64 k))],[(2, .box 54 [.int .i64 0, .int .i64 0]),(9, .box 105 [.int .i64 (Jg l).1, .int .i64 (Jg l).2.1, .sl 4, .sl 5, .sl 6, .sl 7, .sl 8]),(4, .imm 127 X5 (Jg l).2.2.1),(5, .imm 130 Ym (Jg l).2.2.2.1),(6, .imm 155 X9 (Jg l).2.2.2.2.1),(7, .imm 188 Yh (Jg l).2.2.2.2.2.1),(8, .imm 235 Y8 (Jg l).2.2.2.2.2.2),(13, .own 117 Ld ys)]⟩,inv:=fun(k,n,last,ys)=>k≤ys.length∧J7g (Jly (Jg l).2.2.2.2.2.1 s) ys∧(0≤last∧last≤(Jg l).2.1)∧((Jg l).2.1-last≤n∧n≤(Jg l).2.1)∧avL (Jg l).2.1 (ys.drop k) (n,last)=avL (Jg l).2.1 ys ((Jg l).2.1,0),mu:=fun(k,_,_,ys)=>ys.length-k}
def K5e (a:Nat×Int×Int×List Spn) (b:List Ev):=min (List.getD a.2.2.2 a.1 (0,0)).2 (Jg b).2.1
def K4f (a:List Ev) (b:Bt):=Jf [opE a [b],bif (Jg a).2.1==0 then 6 else 0]
def Koj (a:Bt) (b:List Ev):=List.filter (fun(x:Out)=>List.beq (ByteArray.toList x.2.1) (ByteArray.toList a)) (Jg b).2.2.2.2.2.1
def K0u (a:Bt) (b:List Ev):=List.map (fun(x:Out)=>x.2.2.1) (Koj a b)
def K0j (a:Nat×Int×Int×List Spn) (b:List Ev):=K5e a b-max (List.getD a.2.2.2 a.1 (0,0)).1 a.2.2.1
def Kzj (a:Nat×Int×Int×List Spn) (b:List Ev):=a.2.1-max 0 (K0j a b)
def Kyw (a:Nat×Int×Int×List (Int×Int)) (b:List Ev) (c:Bt):=a.1≤List.length a.2.2.2∧J7g (Jly (Jg b).2.2.2.2.2.1 c) a.2.2.2∧(0≤a.2.2.1∧a.2.2.1≤(Jg b).2.1)∧((Jg b).2.1-a.2.2.1≤a.2.1∧a.2.1≤(Jg b).2.1)∧avL (Jg b).2.1 (List.drop a.1 a.2.2.2) (a.2.1,a.2.2.1)=avL (Jg b).2.1 a.2.2.2 ((Jg b).2.1,0)
theorem Uak:Ok Tryz.prog 27 Kwv:=Jwm K7l Tryz.f27 (U0 (l:=([]:List (Nat×Func))) (by simp)) (fun xx=>Zg (Kxc xx.1 xx.2.1)) (fun xx=>fun _=>na ()) fun xx=>by
 obtain⟨(l:List Ev),(s:ByteArray),_⟩:=xx
 refine(by kernel_rfl:(lOk l→(lOk l∧1≤1000000)∧2≤1000000∧Br (K4f l s !=0) (Sf true ((0,0)=avP l s∧K4f l s=avE l s)) ((List.length (Jg l).2.2.2.2.2.1≤1000000∧(∀(x:Out),x∈(Jg l).2.2.2.2.2.1→True)∧List.length (Koj s l)≤1000000∧∀(x:Out),x∈Koj s l→True)∧Kly (K0u s l)∧∀(ys:List (Int×Int)),J7g (K0u s l) ys→∃(x:Nat×Int×Int×List (Int×Int)),((Jg l).2.1=x.2.1∧0=x.2.2.1∧Ln ys=Ln x.2.2.2∧0=Nc x.1∧Si 0 (Si 0 ((Jg l).1=(Jg l).1∧Z74 l∧Jg0 l∧Jgz l∧Jgx l∧Jgv l∧Jgw l∧ys=x.2.2.2)))∧Kyw x l s∧∀(x:Nat×Int×Int×List Spn),x.1≤List.length x.2.2.2∧J7g (Jly (Jg l).2.2.2.2.2.1 s) x.2.2.2∧(0≤x.2.2.1∧x.2.2.1≤(Jg l).2.1)∧((Jg l).2.1-x.2.2.1≤x.2.1∧x.2.1≤(Jg l).2.1)∧avL (Jg l).2.1 (List.drop x.1 x.2.2.2) (x.2.1,x.2.2.1)=avL (Jg l).2.1 x.2.2.2 ((Jg l).2.1,0)→Br (decide (Nc x.1<Ln x.2.2.2)) (Tw (Bd (Nc x.1) (Ln x.2.2.2))∧(Iw (K0j x l)∧Iw (Kzj x l))∧Iw (Nc x.1+1)∧∃(y:Nat×Int×Int×List (Int×Int)),(Kzj x l=y.2.1∧max x.2.2.1 (K5e x l)=y.2.2.1∧Ln x.2.2.2=Ln y.2.2.2∧Nc x.1+1=Nc y.1∧Si 0 (Si 0 (Si (Jg l).1 (Si (Jg l).2.1 (Jg0 l∧Jgz l∧Jgx l∧Jgv l∧Jgw l∧x.2.2.2=y.2.2.2)))))∧Kyw y l s∧List.length y.2.2.2-y.1<List.length x.2.2.2-x.1) (((0≤x.2.1∧x.2.1≤1000000000000)∧1≤(Jg l).2.1∧(Jg l).2.1≤1000000000000)∧Sf true (E2 (J5j x.2.1 (Jg l).2.1)=avP l s∧0=avE l s))))=_).mp ?_
 delta Z74 Jg0 Jgz Jgx Jgw Jgv K5e K4f Koj K0u K0j Kzj Kyw Br Iw Bd Tw Sf Si Ln Nc E2
 intro hl
 have hr:=D0 (l:=l)
 have hz:Jly (Jg l).2.2.2.2.2.1 s=List.map (fun x=>x.2.2.1) (List.filter (fun x=>x.2.1.toList.beq s.toList) (Jg l).2.2.2.2.2.1):=rfl
 rw[←hz]
 have nX:(Jg l).2.2.2.2.2.1.length≤16:=hr.nX
 have hX:∀x∈Jly (Jg l).2.2.2.2.2.1 s,Jm7 x:=fun x hx=>by
  obtain⟨y,hy,rfl⟩:=List.mem_map.1 hx
  exact(hr.out y (List.mem_filter.1 hy).1).span
 have hlen:(Jly (Jg l).2.2.2.2.2.1 s).length≤16:=by
  unfold Jly
  rw[List.length_map]
  exact Nat.le_trans (List.length_filter_le _ _) nX
 have hst:=hr.st
 have htk:=hr.tk
 refine⟨⟨hl,by decide⟩,by decide,fun h=> ?_,fun h=>⟨⟨Nat.le_trans nX (by decide),fun _ _=>trivial,Nat.le_trans (List.length_filter_le _ _) (Nat.le_trans nX (by decide)),fun _ _=>trivial⟩,⟨fun x hx=> ?_,by omega⟩,fun ys hy=>⟨((0:Nat),(Jg l).2.1,0,ys),by simp,⟨Nat.zero_le _,hy,by(first|omega|dsimp only;omega),by(first|omega|dsimp only;omega),rfl⟩,fun(x:Nat×Int×Int×List Spn) hk=>⟨fun h1=> ?_,fun h1=> ?_⟩⟩⟩⟩
 ·have h:avE l s≠0:=bne_iff_ne.1 h
  refine⟨rfl, ?_,rfl⟩
  unfold avP;rw[if_neg h]
 ·have:=hX x hx
  have h1:=this.lo
  have h2:=this.mid
  have h3:=this.hi
  omega
 ·obtain⟨k,n,last,ys⟩:=x
  obtain⟨k1,k2,k3,k4,k5⟩:=hk
  have hlt:k<ys.length:=by simpa using h1
  have hx:=hX _ (k2.1.mem_iff.1 (Je (d:=((0:Int),(0:Int))) hlt))
  have x1:=hx.lo
  have x2:=hx.mid
  have x3:=hx.hi
  dsimp only at k1 k2 k3 k4 k5
  rw[Jn (d:=((0:Int),(0:Int))) hlt,avL] at k5
  have hln:ys.length≤16:=by rw[k2.1.length_eq];exact hlen
  dsimp only
  generalize ys.getD k (0,0)=y at x1 x2 x3 k5⊢
  obtain⟨a,b⟩:=y
  dsimp only at x1 x2 x3 k5⊢
  refine⟨by omega,by omega,by omega,(k+1,n-max 0 (min b (Jg l).2.1-max a last),max last (min b (Jg l).2.1),ys),by simp,⟨by(first|omega|dsimp only;omega),k2,by(first|omega|dsimp only;omega),by(first|omega|dsimp only;omega),k5⟩,by(first|omega|dsimp only;omega)⟩
 ·obtain⟨k,n,last,ys⟩:=x
  obtain⟨k1,k2,k3,k4,k5⟩:=hk
  have hlt:¬k<ys.length:=by simpa using h1
  dsimp only at k1 k2 k3 k4 k5
  have e:k=ys.length:=by omega
  rw[e,List.drop_length,avL] at k5
  have h:avE l s=0:=bne_eq_false_iff_eq.1 h
  have hs:(Jg l).2.1≠0:=fun h0=>by
   have:=(Yq h).2
   rw[h0] at this
   exact absurd this (by decide)
  have e2:avN (Jg l).2.1 (Jg l).2.2.2.2.2.1 s=n:=by
   unfold avN
   rw[Jyq (k2.1.trans (Jho _).symm) Jc6 k2.2] at k5
   rw[←k5]
  refine⟨⟨by(first|omega|dsimp only;omega),by omega⟩,rfl, ?_,h.symm⟩
  unfold avP
  rw[if_pos h,e2]
abbrev K7k:=K7l.add Uak
def J24:Con:={args:=[aI],ress:=[tS],owns:=[],pre:=fun(n,_)=>[-(10^17:Int)<n,n<10^18],spec:=fun(n,_)=>(Zm n,())}
def Kp6:=10^18
def K5b (a:Int):=a<Kp6
def Ko3:= -10^17
def K3r (a:Int):=Ko3<a
theorem Kve:Ok Tryz.prog 117 J24:=okW K7k Tryz.f117 na fun xx=>by
 obtain⟨(n:Int),_⟩:=xx
 refine(by kernel_rfl:(K3r n→K5b n→(17≤18∧K3r n∧K5b n)∧Zm n=Zm n)=_).mp ?_
 delta Kp6 K5b Ko3 K3r
 intro h1 h2
 exact⟨⟨by decide,h1,h2⟩,rfl⟩
abbrev K7j:=K7k.add Kve
def Jwk (s:ByteArray) (j:Nat):ByteArray:=bs (List.replicate j 48++Lib.itoa (Jg1 s))
abbrev J3m (s:ByteArray):Nat→Option Ann:=fun id=>if id=0 then some {X:=Nat×Int,σ:=fun(k,x)=>⟨0,[(0, .one (.str s)),(3, .one (.int .i64 x)),(4, .one (.int .i64 k))],[]⟩,inv:=fun(k,x)=>k≤s.size∧(0≤x∧x<9999721)∧Jud (s.data.toList.drop k) x=Jg1 s,mu:=fun(k,_)=>s.size-k}
 else if id=2 then some {X:=Nat,σ:=fun j=>⟨0,[(5, .one (.str (Jwk s j)))],[]⟩,inv:=fun j=>j+(Lib.itoa (Jg1 s)).length≤7,mu:=fun j=>7-j} else none
def Kq2 (a:Nat) (b:Bt):=a+List.length (Lib.itoa (Jg1 b))≤7
theorem K91:Ok Tryz.prog 67 K6t:=okW K7j Tryz.f67 (fun xx=>J3m xx.1) fun xx=>by
 obtain⟨(s:ByteArray),_⟩:=xx
 refine(by kernel_rfl:(ByteArray.size s≤1000000→∃(x:Nat×Int),Sf s (1=x.2∧0=Nc x.1)∧J95 x s∧∀(x:Nat×Int),J95 x s→Br (decide (Nc x.1<Nc (ByteArray.size s))) (Kmj x s∧Z43 x∧∃(y:Nat×Int),Sf s (Koz x s y∧Jt2 x y)∧Kni y s x) ((Ko3<x.2∧x.2<Kp6)∧∃(x_1:Nat),Zm x.2=Jwk s x_1∧Kq2 x_1 s∧∀(x:Nat),Kq2 x s→Br (decide (Nc (ByteArray.size (Jwk s x))<7)) (Nc (1+ByteArray.size (Jwk s x))≤9223372036854775807∧∃(y:Nat),ByteArray.mk (Array.mk (48::([]++(Jwk s x).data.toList)))=Jwk s y∧Kq2 y s∧7-y<7-x) (Jwk s x=Jpv s)))=_).mp ?_
 delta Z9 Z43 Jt2 Kq2 Kp7 Kp6 Ko3 Koz J95 Kni Kmj Br Iw Bd Sf Nc
 intro hs
 refine⟨((0:Nat),(1:Int)),by simp,⟨Nat.zero_le _,by(first|omega|dsimp only;omega),rfl⟩,fun(y:Nat×Int) hk=>⟨fun h=> ?_,fun h=> ?_⟩⟩
 ·obtain⟨k,x⟩:=y
  have hlt:k<s.size:=by simpa using h
  obtain⟨k1,k2,k3⟩:=hk
  dsimp only at k1 k2
  rw[Fa hlt,Jud] at k3
  have hb:=Jye s k
  refine⟨by(dsimp only;omega),by(dsimp only;omega),(k+1,(341*x+((s.data.toList.getD k 0).toNat:Int)).tmod 9999721),by simp,⟨by(first|omega|dsimp only;omega),⟨Int.tmod_nonneg _ (by omega),Int.tmod_lt_of_pos _ (by decide)⟩,k3⟩,by(first|omega|dsimp only;omega)⟩
 ·obtain⟨k,x⟩:=y
  have hlt:¬k<s.size:=by simpa using h
  obtain⟨k1,k2,k3⟩:=hk
  have e:k=s.size:=by omega
  rw[e,List.drop_eq_nil_of_le (by simp),Jud] at k3
  have k3:x=Jg1 s:=k3
  have hl:=Ji9 s
  dsimp only
  rw[k3]
  have hb:=Jnt s
  have hsz:∀j,(Jwk s j).size=j+(Lib.itoa (Jg1 s)).length:=fun j=>by
   unfold Jwk
   rw[Xz,List.length_append,List.length_replicate]
  refine⟨⟨by omega,by omega⟩,(0:Nat),rfl,by omega,fun(j:Nat) hj=>⟨fun h=> ?_,fun h=> ?_⟩⟩
  ·have h:((Jwk s j).size:Int)<7:=of_decide_eq_true h
   have hz:=hsz j
   refine⟨by omega,j+1,rfl,by omega,by omega⟩
  ·have h:¬((Jwk s j).size:Int)<7:=of_decide_eq_false h
   have hz:=hsz j
   have:j=7-(Lib.itoa (Jg1 s)).length:=by omega
   rw[this];rfl
abbrev K7i:=K7j.add K91
theorem Jmc:∀{l:List (List UInt8)} {b:Nat},(∀x∈l,x.length≤b)→(Lib.join l []).length≤b*l.length
 |[],_,_=>by simp[Lib.join,List.intercalate]
 |[x],b,h=>by
  have:=h x (List.mem_cons_self ..)
  simpa[Lib.join,List.intercalate,List.intersperse] using this
 |x::y::r,b,h=>by
  have ih:=Jmc (l:=y::r) fun z hz=>h z (List.mem_cons_of_mem _ hz)
  have hx:=h x (List.mem_cons_self ..)
  have e:Lib.join (x::y::r) []=x++Lib.join (y::r) []:=by simp[Lib.join,List.intercalate,List.intersperse]
  rw[e,List.length_append,List.length_cons,Nat.mul_add]
  omega
def J8z:Con:={args:=[.ref 212 Jjf],ress:=[(false, .list 67 sEv)],owns:=[],pre:=fun(h,_)=>[h.1.length≤1000,∀e∈h.1,Fp e],spec:=fun(h,_)=>(h.1,())}
def Kn3 (a:List Ev):=∀(x:Ev),J03 a x→Kad x
theorem Uae:Ok Tryz.prog 41 J8z:=okW K7i Tryz.f41 na fun xx=>by
 obtain⟨⟨(E:List Ev),(C:List Ev),(G:List Reg)⟩,_⟩:=xx
 refine(by kernel_rfl:(List.length E≤1000→(∀(e:Ev),J03 E e→Fp e)→Br false ([]=E) ((Z38 E∧Kn3 E)∧List.map (fun(x:Ev)=>x) E=E))=_).mp ?_
 delta Z38 J03 Kad Kn3 Br
 intro h1 h2
 refine⟨fun h=>(nomatch h),fun _=>⟨⟨by omega,fun x hx=>⟨(h2 x hx).1,(h2 x hx).2.1⟩⟩,List.map_id' _⟩⟩
abbrev K7h:=K7i.add Uae
def Kvs (l:List Ev):ByteArray:=Vz (l.map J7j) Jb
def Ua9:Con:={args:=[.ref 212 Jjf],ress:=[tS],owns:=[],pre:=fun(h,_)=>[h.1.length≤1000,∀e∈h.1,Dk e],spec:=fun(h,_)=>(Kvs h.1,())}
def Kq6 (a:List Ev):=List.map (fun(x:Ev)=>J7j x) a
def K53 (a:List Ev):=∀(x:Ev),J03 a x→Dk x
theorem Uad:Ok Tryz.prog 42 Ua9:=okW K7h Tryz.f42 na fun xx=>by
 obtain⟨⟨(E:List Ev),(C:List Ev),(G:List Reg)⟩,_⟩:=xx
 refine(by kernel_rfl:(List.length E≤1000→K53 E→Br false (B0=Kvs E) ((Z38 E∧K53 E∧List.length (Kq6 E)≤1000000∧List.length (Lib.join (List.map (fun(x:ByteArray)=>Z9 x) (Kq6 E)) [])≤140737488355328)∧Vz (Kq6 E) B0=Kvs E))=_).mp ?_
 delta Z9 Z38 Kq6 J03 K53 Br B0
 intro h1 h2
 refine⟨fun h=>(nomatch h),fun _=>⟨⟨by omega,h2,by rw[List.length_map];omega, ?_⟩,rfl⟩⟩
 refine Nat.le_trans (Jmc (b:=2000000) fun z hz=> ?_) ?_
 ·rw[List.map_map] at hz
  obtain⟨e,he,rfl⟩:=List.mem_map.1 hz
  have:=Jv8 (h2 e he)
  have:=Jrb (h2 e he)
  show(J7j e).size≤2000000
  omega
 ·rw[List.length_map,List.length_map];omega
abbrev Ub4:=K7h.add Uad
end Go.Proofs.YtcibbcfiemeoiaaGreatDoor

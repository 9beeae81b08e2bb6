/- Contracts of the functions that the law reaches: part of the proof. -/
import Derived.Test.YtcibbcfiemeoiaaGreatDoorFA
import Derived.Shelf.Strconv.ErrVarAll
import Derived.Lib.ItoaLen
import Derived.Lib.ItoaMem
set_option linter.unusedSimpArgs false
set_option linter.unusedVariables false
set_option maxRecDepth 20000
namespace Go.Proofs.YtcibbcfiemeoiaaGreatDoor
open Go.Sx
set_option maxHeartbeats 20000000
abbrev Jse:=ByteArray×Int×Int×Int×Int×Int
abbrev Jvq:Sch:= .prod .str (.prod sI (.prod sI (.prod sI (.prod sI sI))))
abbrev Jp2:=Int×Int×Int×Int
def Jf0 (M:List Met) (s:ByteArray) (h:Int):Met:=M.getD (K6 M s h).toNat Jnx
def Jk8 (st:Int) (M:List Met) (x:Ord):Int→Nat→Jp2→Jp2
 |_,0,a=>a
 |h,n+1,(c,s,g,f)=>Jk8 st M x (h+1) n (bif J4 x h&&decide (h<st) then(c+1,s+(Jf0 M x.1 h).2.2.1,g+(Jf0 M x.1 h).2.2.2,f+3*(x.2.2.2.2.1-(Jf0 M x.1 h).2.2.2)) else(c,s,g,f))
def L0 (st:Int) (M:List Met) (x:Ord):Jp2:=Jk8 st M x x.2.2.2.1.1 (Um x) (0,0,0,0)
def Uo (st:Int) (M:List Met) (x:Ord):Jse:=(x.1,(L0 st M x).1,(L0 st M x).2.1,(L0 st M x).2.2.1,(L0 st M x).2.2.1*x.2.2.2.2.2.1,(L0 st M x).2.2.2)
def Kux:Con:={args:=[Jb7, .val true Lo],ress:=[(true,Jvq)],owns:=[],pre:=fun(r,x,_)=>[Jn r,x∈r.2.2.2.1],spec:=fun((_,st,_,_,M,_),x,_)=>(Uo st M x,())}
abbrev J8g (tk st:Int) (S:List Sta) (O:List Ord) (M:List Met) (X:List Out) (Q:List Per) (x:Ord):Ann:={X:=Nat×Jp2,σ:=fun(j,c,s,g,f)=>⟨14,[(0, .one (.fv 12)),(1, .one (.ptr 10 0)),(3, .one (.int .i64 (x.2.2.2.1.1+j)))],[(0, .imm 127 Fw S),(1, .imm 130 Lo O),(2, .imm 155 Ja4 M),(3, .imm 188 Zn X),(4, .imm 235 Hr Q),(5, .box 105 [.int .i64 tk, .int .i64 st, .sl 0, .sl 1, .sl 2, .sl 3, .sl 4]),(6, .box 130 (bxO x)),(7, .box 129 [.str Ja, .int .i64 0, .int .i64 0, .int .i64 0, .int .i64 0, .int .i64 0]),(8, .box 129 [.str x.1, .int .i64 c, .int .i64 s, .int .i64 g, .int .i64 0, .int .i64 f]),(10, .box 130 (bxO x)),(12, .yld .ready),(13, .sus [(2, .one (.ptr 5 0)),(3, .one (.ptr 6 0)),(4, .one (.ptr 7 0)),(5, .one (.ptr 8 0))])]⟩,inv:=fun(j,c,s,g,f)=>j≤Um x∧(0≤c∧c≤j)∧(0≤s∧s≤1000*j)∧(0≤g∧g≤1000*j)∧(-3000*j≤f∧f≤3000*j)∧Jk8 st M x (x.2.2.2.1.1+j) (Um x-j) (c,s,g,f)=L0 st M x,mu:=fun(j,_)=>Um x-j}
def Kc2 (a:Int) (b:Nat):=0≤a∧a≤1000*Nc b
def Kok (a:List Met) (b:Bt) (c:Int) (d:Nat×Jp2):=(Gt a (K6 a b (c+Nc d.1)) J0r).2.2
def Kn4 (a:Int) (b:List Met) (c:Bt) (d:Int) (e:Nat×Jp2):=a-(Kok b c d e).2
def Knn (a:Nat×Jp2) (b:List Met) (c:Bt) (d:Int):=a.2.2.1+(Kok b c d a).1
def Kb6 (a:Nat×Jp2) (b:List Met) (c:Bt) (d:Int):=a.2.2.2.1+(Kok b c d a).2
def Km1 (a:Nat×Jp2) (b:Int) (c:List Met) (d:Bt) (e:Int):=a.2.2.2.2+3*Kn4 b c d e a
def Kwh (a:Nat) (b c d:Bt) (e f g h i j k l m n:Int) (o:List Met):=a≤Um (b,c,d,(e,f),g,h,i)∧(0≤j∧j≤Nc a)∧Kc2 k a∧Kc2 l a∧((-3000)*Nc a≤m∧m≤3000*Nc a)∧Jk8 n o (b,c,d,(e,f),g,h,i) (e+Nc a) (Um (b,c,d,(e,f),g,h,i)-a) (j,k,l,m)=L0 n o (b,c,d,(e,f),g,h,i)
def Kwb (a:Nat×Int×Int×Int×Int) (b c d:Bt) (e f g h i j:Int) (k:List Met):=match a with|(j_1,c_1,s,g_1,f_1)=>Kwh j_1 b c d e f g h i c_1 s g_1 f_1 j k
def Kv1 (a:Nat×Int×Int×Int×Int) (b c d:Bt) (e f g h i j:Int) (k:List Met) (l:Nat×Jp2):=Kwb a b c d e f g h i j k∧Um (b,c,d,(e,f),g,h,i)-a.1<Um (b,c,d,(e,f),g,h,i)-l.1
def J92 (a:Nat×Jp2) (b:Int) (c:Bt) (d:Int) (e:List Met) (f g:Bt) (h i j k:Int) (l:List Sta) (m:List Ord) (n:List Out) (o:List Per) (p:Int):=Br false (Iw (a.2.2.2.1*b)∧Sf true ((c,a.2.1,a.2.2.1,a.2.2.2.1,a.2.2.2.1*b,a.2.2.2.2)=Uo d e (c,f,g,(h,i),j,b,k))) (Iw (h+Nc a.1+1)∧∃(y:Nat×Int×Int×Int×Int),(h+Nc a.1+1=h+Nc y.1∧Sf l (Sf m (Sf e (Sf n (Sf o (Si p (Si d (Sf c (Sf f (Sf g (Si h (Si i (Si j (Si b (Si k (Sf Ja (Si 0 (Si 0 (Si 0 (Si 0 (Si 0 (Sf c (a.2.1=y.2.1∧a.2.2.1=y.2.2.1∧a.2.2.2.1=y.2.2.2.1∧Si 0 (a.2.2.2.2=y.2.2.2.2∧Sf c (Sf f (Sf g (Si h (Si i (Si j (Si b (k=k)))))))))))))))))))))))))))))))∧Kv1 y c f g h i j b k d e a)
theorem Kth:Ok Tryz.prog 126 Kux:=J4n K7l Tryz.f126 (U4 (l:=([(178,Tryz.f178),(247,Tryz.f247)]:List (Nat×Func))) (List.forall_mem_cons.2 ⟨by kernel_rfl,List.forall_mem_cons.2 ⟨by kernel_rfl,by simp⟩⟩)) (fun xx=>na ()) (fun xx=>fun f' id=>if f'=247 then some (J8g xx.1.1 xx.1.2.1 xx.1.2.2.1 xx.1.2.2.2.1 xx.1.2.2.2.2.1 xx.1.2.2.2.2.2.1 xx.1.2.2.2.2.2.2 (xx.2.1.1,xx.2.1.2.1,xx.2.1.2.2.1,(xx.2.1.2.2.2.1.1,xx.2.1.2.2.2.1.2),xx.2.1.2.2.2.2.1,xx.2.1.2.2.2.2.2.1,xx.2.1.2.2.2.2.2.2)) else none) fun xx=>by
 obtain⟨⟨(tk:Int),(st:Int),(S:List Sta),(O:List Ord),(M:List Met),(X:List Out),(Q:List Per)⟩,⟨(n:ByteArray),(f:ByteArray),(t:ByteArray),⟨(a:Int),(b:Int)⟩,(p:Int),(c:Int),(r:Int)⟩,_⟩:=xx
 refine(by kernel_rfl:(Jw tk st S O M X Q→(n,f,t,(a,b),p,c,r)∈O→∃(x:Nat×Int×Int×Int×Int),(a=a+Nc x.1∧Sf S (Sf O (Sf M (Sf X (Sf Q (Si tk (Si st (Sf n (Sf f (Sf t (Si a (Si b (Si p (Si c (Si r (B0=Ja∧Si 0 (Si 0 (Si 0 (Si 0 (Si 0 (Sf n (0=x.2.1∧0=x.2.2.1∧0=x.2.2.2.1∧Si 0 (0=x.2.2.2.2∧Sf n (Sf f (Sf t (Si a (Si b (Si p (Si c (r=r))))))))))))))))))))))))))))))∧Kwb x n f t a b p c r st M∧∀(x:Nat×Jp2),(match x with|(j,c_1,s,g,f_1)=>Kwh j n f t a b p c r c_1 s g f_1 st M)→Br (decide (a+Nc x.1<b)) (Br (J4 (n,f,t,(a,b),p,c,r) (a+Nc x.1)) (Br (decide (a+Nc x.1<st)) ((Jw tk st S O M X Q∧Tw (Bd (K6 M n (a+Nc x.1)) (Ln M)))∧Iw (x.2.1+1)∧Iw (Knn x M n a)∧Iw (Kb6 x M n a)∧(Iw (Kn4 p M n a x)∧Iw (3*Kn4 p M n a x)∧Iw (Km1 x p M n a))∧Br false (Iw (Kb6 x M n a*c)∧Sf true ((n,x.2.1+1,Knn x M n a,Kb6 x M n a,Kb6 x M n a*c,Km1 x p M n a)=Uo st M (n,f,t,(a,b),p,c,r))) (Iw (a+Nc x.1+1)∧∃(y:Nat×Int×Int×Int×Int),(a+Nc x.1+1=a+Nc y.1∧Sf S (Sf O (Sf M (Sf X (Sf Q (Si tk (Si st (Sf n (Sf f (Sf t (Si a (Si b (Si p (Si c (Si r (Sf Ja (Si 0 (Si 0 (Si 0 (Si 0 (Si 0 (Sf n (x.2.1+1=y.2.1∧Knn x M n a=y.2.2.1∧Kb6 x M n a=y.2.2.2.1∧Si 0 (Km1 x p M n a=y.2.2.2.2∧Sf n (Sf f (Sf t (Si a (Si b (Si p (Si c (r=r)))))))))))))))))))))))))))))))∧Kv1 y n f t a b p c r st M x)) (J92 x c n st M f t a b p r S O X Q tk)) (J92 x c n st M f t a b p r S O X Q tk)) (Iw (x.2.2.2.1*c)∧Sf true ((n,x.2.1,x.2.2.1,x.2.2.2.1,x.2.2.2.1*c,x.2.2.2.2)=Uo st M (n,f,t,(a,b),p,c,r))))=_).mp ?_
 delta Z74 Z79 J0r Jw Kc2 Kok Kn4 Knn Kb6 Km1 Kwh Kwb Kv1 J92 Br Iw Bd Tw Sf Si Ln Nc Gt B0
 intro hr hx
 have hO:=hr.ord _ hx
 have hD:=hr.done _ hx
 have b0:=hO.span.lo
 have b1:=hO.span.mid
 have b2:=hO.span.hi
 have b3:=hO.span.len
 have bp:=hO.pow
 have bc:=hO.pri
 have hn:Um (n,f,t,(a,b),p,c,r)≤48∧(Um (n,f,t,(a,b),p,c,r):Int)=b-a:=by
  dsimp only at b1 b3
  unfold Um
  constructor<;>dsimp only<;>omega
 dsimp only at b0 b1 b2 b3 bp bc hD
 refine⟨((0:Nat),(0,0,0,0)),by(repeat' first|exact rfl|apply And.intro|exact(Int.add_zero _).symm|omega|dsimp only;omega),⟨Nat.zero_le _,by omega,by omega,by omega,by omega, ?_⟩,fun(y:Nat×Jp2) hy=>⟨fun h1=> ?_,fun h1=> ?_⟩⟩
 ·unfold L0
  rw[Nat.sub_zero]
  simp only[Int.natCast_zero,Int.add_zero]
 ·obtain⟨j,c1,s1,g1,f1⟩:=y
  obtain⟨k1,k2,k3,k4,k5,k6⟩:=hy
  have h1:a+(j:Int)<b:=of_decide_eq_true h1
  have hj:Um (n,f,t,(a,b),p,c,r)-j=(Um (n,f,t,(a,b),p,c,r)-(j+1))+1:=by omega
  rw[hj,Jk8] at k6
  have hc:a+(j:Int)+1=a+((j+1:Nat):Int):=by omega
  have hB: -9223372036854775808≤a+(j:Int)+1∧a+(j:Int)+1≤9223372036854775807:=by omega
  refine⟨fun h2=>⟨fun h3=> ?_,fun h3=>⟨fun h=>(by cases h),fun _=>⟨hB,(j+1,c1,s1,g1,f1),by(repeat' first|exact rfl|apply And.intro|exact(Int.add_zero _).symm|omega|dsimp only;omega),⟨by(first|omega|dsimp only;omega),by(first|omega|dsimp only;omega),by(first|omega|dsimp only;omega),by(first|omega|dsimp only;omega),by(first|omega|dsimp only;omega), ?_⟩,by(first|omega|dsimp only;omega)⟩⟩⟩,fun h2=>⟨fun h=>(by cases h),fun _=>⟨hB,(j+1,c1,s1,g1,f1),by(repeat' first|exact rfl|apply And.intro|exact(Int.add_zero _).symm|omega|dsimp only;omega),⟨by(first|omega|dsimp only;omega),by(first|omega|dsimp only;omega),by(first|omega|dsimp only;omega),by(first|omega|dsimp only;omega),by(first|omega|dsimp only;omega), ?_⟩,by(first|omega|dsimp only;omega)⟩⟩⟩
  ·have h3':a+(j:Int)<st:=of_decide_eq_true h3
   have hm:0≤K6 M n (a+(j:Int)):=hD _ h2 h3'
   have hl:=Jfz (l:=M) (s:=n) (h:=a+(j:Int))
   have hM:Jz3 (Jf0 M n (a+(j:Int))):=hr.met _ (Jd (show _<M.length by omega))
   have m1:=hM.sent
   have m2:=hM.got
   have e:M.getD (K6 M n (a+(j:Int))).toNat (Ja,0,0,0)=Jf0 M n (a+(j:Int)):=rfl
   simp only[]
   rw[show(({data:={toList:=[]}}:ByteArray),(0:Int),(0:Int),(0:Int))=(Ja,0,0,0) from rfl,e]
   rw[h2,h3,Bool.true_and,cond_true] at k6
   refine⟨⟨hr,⟨hm,hl⟩,hm,hl⟩,by omega,by omega,by omega,⟨by omega,by omega,by omega⟩,fun h=>(by cases h),fun _=>⟨hB,(j+1,c1+1,s1+(Jf0 M n (a+(j:Int))).2.2.1,g1+(Jf0 M n (a+(j:Int))).2.2.2,f1+3*(p-(Jf0 M n (a+(j:Int))).2.2.2)),by(repeat' first|exact rfl|apply And.intro|exact(Int.add_zero _).symm|omega|dsimp only;omega),⟨by(first|omega|dsimp only;omega),by(first|omega|dsimp only;omega),by(first|omega|dsimp only;omega),by(first|omega|dsimp only;omega),by(first|omega|dsimp only;omega), ?_⟩,by(first|omega|dsimp only;omega)⟩⟩
   rw[hc] at k6
   exact k6
  ·rw[h3,Bool.and_false,cond_false,hc] at k6
   exact k6
  ·rw[show J4 (n,f,t,(a,b),p,c,r) (a+(j:Int))=false from h2,Bool.false_and,cond_false,hc] at k6
   exact k6
 ·obtain⟨j,c1,s1,g1,f1⟩:=y
  obtain⟨k1,k2,k3,k4,k5,k6⟩:=hy
  have h1:¬a+(j:Int)<b:=of_decide_eq_false h1
  have hj:Um (n,f,t,(a,b),p,c,r)-j=0:=by omega
  rw[hj,Jk8] at k6
  have q1:0≤g1*c:=Int.mul_nonneg k4.1 bc.1
  have q2:g1*c≤48000*1000:=Int.mul_le_mul (by omega) bc.2 bc.1 (by decide)
  refine⟨⟨by(first|omega|dsimp only;omega),by(first|omega|dsimp only;omega)⟩,rfl, ?_⟩
  unfold Uo
  rw[←k6]
abbrev K7k:=K7l.add Kth
def bd4 (k:Int) (a:Jp2):Prop:=(0≤a.1∧a.1≤k)∧(0≤a.2.1∧a.2.1≤1000*k)∧(0≤a.2.2.1∧a.2.2.1≤a.2.1)∧-3000*k≤a.2.2.2∧a.2.2.2≤3000*k
theorem Jrn {st:Int} {M:List Met} {x:Ord} (hp:1≤x.2.2.2.2.1∧x.2.2.2.2.1≤1000) (hM:∀m∈M,Jz3 m) (hd:∀h,J4 x h=true→h<st→0≤K6 M x.1 h):∀(n:Nat) (h:Int) (a:Jp2) (k:Int),bd4 k a→bd4 (k+n) (Jk8 st M x h n a)
 |0,_,_,k,ha=>by unfold Jk8;rw[show k+((0:Nat):Int)=k by omega];exact ha
 | n + 1, h, (c, s, g, f), k, ha => by
  unfold Jk8
  rw[show k+((n+1:Nat):Int)=(k+1)+n by omega]
  apply Jrn hp hM hd n
  unfold bd4 at ha⊢
  dsimp only at ha
  cases hb:J4 x h&&decide (h<st) with
  |false=>simp only[cond_false];omega
  |true=>
   have h1:=Bool.and_eq_true_iff.1 hb
   have hm:0≤K6 M x.1 h:=hd h h1.1 (of_decide_eq_true h1.2)
   have hl:=Jfz (l:=M) (s:=x.1) (h:=h)
   have hk:Jz3 (Jf0 M x.1 h):=hM _ (Jd (show _<M.length by omega))
   have m1:=hk.sent
   have m2:=hk.got
   simp only[cond_true]
   omega
theorem Jqa {S:List Sta} {x:Ord} (h:Jd6 S x):Um x≤48:=by
 have:=h.span.len
 have:=h.span.mid
 unfold Um
 omega
structure J5z (b:Jse):Prop where
 hours:0≤b.2.1∧b.2.1≤48
 sent:0≤b.2.2.1∧b.2.2.1≤48000
 got:0≤b.2.2.2.1∧b.2.2.2.1≤b.2.2.1
 money:0≤b.2.2.2.2.1∧b.2.2.2.2.1≤48000000
 fine: -144000≤b.2.2.2.2.2∧b.2.2.2.2.2≤144000
theorem Jby {tk st:Int} {S:List Sta} {O:List Ord} {M:List Met} {X:List Out} {Q:List Per} {x:Ord} (hr:Jn (tk,st,S,O,M,X,Q)) (hx:x∈O):J5z (Uo st M x):=by
 have hO:=hr.ord _ hx
 have hs:=Jqa hO
 have h:=Jrn hO.pow hr.met (hr.done _ hx) (Um x) x.2.2.2.1.1 (0,0,0,0) 0 (by unfold bd4;simp)
 have bc:=hO.pri
 unfold bd4 at h
 have h:(0≤(L0 st M x).1∧(L0 st M x).1≤0+(Um x:Int))∧(0≤(L0 st M x).2.1∧(L0 st M x).2.1≤1000*(0+(Um x:Int)))∧(0≤(L0 st M x).2.2.1∧(L0 st M x).2.2.1≤(L0 st M x).2.1)∧-3000*(0+(Um x:Int))≤(L0 st M x).2.2.2∧(L0 st M x).2.2.2≤3000*(0+(Um x:Int)):=h
 have q1:0≤(L0 st M x).2.2.1*x.2.2.2.2.2.1:=Int.mul_nonneg h.2.2.1.1 bc.1
 have q2:(L0 st M x).2.2.1*x.2.2.2.2.2.1≤48000*1000:=Int.mul_le_mul (by omega) bc.2 bc.1 (by decide)
 exact⟨by unfold Uo;(first|omega|dsimp only;omega),by unfold Uo;(first|omega|dsimp only;omega),by unfold Uo;(first|omega|dsimp only;omega),by unfold Uo;(first|omega|dsimp only;omega),by unfold Uo;(first|omega|dsimp only;omega)⟩
def F2 (x:Ord) (a b:ByteArray):Bool:=x.2.1.toList==a.toList&&(x.2.2.1.toList==b.toList&&true)
def Kgl (st:Int) (M:List Met) (a b:ByteArray) (x:Ord) (n:Int):Int:=(bif F2 x b a then(bif F2 x a b then n+((Uo st M x).2.2.2.2.1-(Uo st M x).2.2.2.2.2) else n)-((Uo st M x).2.2.2.2.1-(Uo st M x).2.2.2.2.2) else(bif F2 x a b then n+((Uo st M x).2.2.2.2.1-(Uo st M x).2.2.2.2.2) else n))
def Jze (st:Int) (M:List Met) (a b:ByteArray):List Ord→Int→Int
 |[],n=>n
 |x::l,n=>Jze st M a b l (Kgl st M a b x n)
def D4 (st:Int) (O:List Ord) (M:List Met) (a b:ByteArray):Int:=Jze st M a b O 0
def J2u:Con:={args:=[Jb7,aS,aS],ress:=[I],owns:=[],pre:=fun(r,_)=>[Jn r],spec:=fun((_,st,_,O,M,_),a,b,_)=>(D4 st O M a b,())}
abbrev Kgc (tk st:Int) (S:List Sta) (O:List Ord) (M:List Met) (X:List Out) (Q:List Per) (a b:ByteArray):Ann:={X:=Nat×Int,σ:=fun(k,n)=>⟨6,[(1, .one (.str a)),(2, .one (.str b)),(3, .one (.ptr 5 0)),(7, .one (.int .i64 n)),(13, .one (.sl 1)),(14, .one (.int .i64 O.length)),(15, .one (.int .i64 k))],[(0, .imm 127 Fw S),(1, .imm 130 Lo O),(2, .imm 155 Ja4 M),(3, .imm 188 Zn X),(4, .imm 235 Hr Q),(5, .box 105 [.int .i64 tk, .int .i64 st, .sl 0, .sl 1, .sl 2, .sl 3, .sl 4])]⟩,inv:=fun(k,n)=>k≤O.length∧(-100000000*k≤n∧n≤100000000*k)∧Jze st M a b (O.drop k) n=D4 st O M a b,mu:=fun(k,_)=>O.length-k}
def Knl (a:List Ord) (b:Nat×Int) (c:Bt):=Lb (Kiq a b) c
def Knh (a:List Ord) (b:Nat×Int) (c:Bt):=Lb (Kio a b) c
def Khj (a:List Ord) (b c:Nat×Int) (d:List Sta) (e:List Met) (f:List Out) (g:List Per) (h i:Int):=Si (Ln a) (Jry b c d a e f g h i)
def Kle (a:Nat×Int) (b:List Ord) (c:Int) (d:List Met) (e f:Bt):=a.1≤List.length b∧((-100000000)*Nc a.1≤a.2∧a.2≤100000000*Nc a.1)∧Jze c d e f (List.drop a.1 b) a.2=D4 c b d e f
def Kk1 (a:List Ord) (b:Nat×Int) (c d:Bt):=Knl a b c&&(Knh a b d&&true)
def Kg6 (a:Nat×Int) (b:List Ord) (c:Int) (d:List Met) (e f:Bt) (g:Nat×Int):=Kle a b c d e f∧List.length b-a.1<List.length b-g.1
def Kv0 (a:Int) (b:List Met) (c:List Ord) (d:Nat×Int):=(Uo a b (J8o c d)).2.2.2.2
def Jzn (a:Int) (b:List Met) (c:List Ord) (d:Nat×Int):=(Kv0 a b c d).1-(Kv0 a b c d).2
def J3t (a:Int) (b:List Met) (c:List Ord) (d:Nat×Int):=Iw (Jzn a b c d)
def J3s (a:Nat×Int) (b:Int) (c:List Met) (d:List Ord):=a.2+Jzn b c d a
def J96 (a:Nat×Int) (b:Int) (c:List Met) (d:List Ord):=a.2-Jzn b c d a
def J9u (a:Nat×Int) (b:Int) (c:List Met) (d:List Ord):=J3s a b c d-Jzn b c d a
theorem Ktg:Ok Tryz.prog 127 J2u:=okW K7k Tryz.f127 (fun xx=>X6 (Kgc xx.1.1 xx.1.2.1 xx.1.2.2.1 xx.1.2.2.2.1 xx.1.2.2.2.2.1 xx.1.2.2.2.2.2.1 xx.1.2.2.2.2.2.2 xx.2.1 xx.2.2.1)) fun xx=>by
 obtain⟨⟨(tk:Int),(st:Int),(S:List Sta),(O:List Ord),(M:List Met),(X:List Out),(Q:List Per)⟩,(a:ByteArray),(b:ByteArray),_⟩:=xx
 refine(by kernel_rfl:(Jw tk st S O M X Q→∃(x:Nat×Int),Sf a (Sf b (0=x.2∧Si (Ln O) (J0e x S O M X Q tk st)))∧Kle x O st M a b∧∀(x:Nat×Int),Kle x O st M a b→Br (decide (Nc x.1<Ln O)) (Tw (Bd (Nc x.1) (Ln O))∧(Jw tk st S O M X Q∧J8o O x∈O)∧Br (Kk1 O x a b) ((J3t st M O x∧Iw (J3s x st M O))∧Br (Kk1 O x b a) ((J3t st M O x∧Iw (J9u x st M O))∧Z38 x∧∃(y:Nat×Int),Sf a (Sf b (J9u x st M O=y.2∧Khj O x y S M X Q tk st))∧Kg6 y O st M a b x) (Z38 x∧∃(y:Nat×Int),Sf a (Sf b (J3s x st M O=y.2∧Khj O x y S M X Q tk st))∧Kg6 y O st M a b x)) (Br (Kk1 O x b a) ((J3t st M O x∧Iw (J96 x st M O))∧Z38 x∧∃(y:Nat×Int),Sf a (Sf b (J96 x st M O=y.2∧Khj O x y S M X Q tk st))∧Kg6 y O st M a b x) (Z38 x∧∃(y:Nat×Int),Sf a (Sf b (x.2=y.2∧Khj O x y S M X Q tk st))∧Kg6 y O st M a b x))) (x.2=D4 st O M a b))=_).mp ?_
 delta Z38 Z74 Z79 Jt7 Jw Jhh Kis Kir Kiq Kip Kio Kin Kil Kij Kii Knl Knh Jrz J0e Jry Khj Kle Kk1 Kg6 J8o Kv0 Jzn J3t J3s J96 J9u Br Iw Bd Tw Sf Si Ln Nc B0 Lb E2
 intro hr
 have nO:O.length≤32:=hr.nO
 refine⟨((0:Nat),(0:Int)),by(repeat' first|exact rfl|apply And.intro|exact(Int.add_zero _).symm|omega|dsimp only;omega),⟨Nat.zero_le _,by omega,rfl⟩,fun(x:Nat×Int) hk=>⟨fun h1=> ?_,fun h1=> ?_⟩⟩
 ·obtain⟨k,n⟩:=x
  have hlt:k<O.length:=by simpa using h1
  have hx:=Jd (d:=Km) hlt
  have hb:=Jby hr hx
  obtain⟨k1,k2,k3⟩:=hk
  rw[Jk (d:=Km) hlt,Jze] at k3
  have m1:=hb.money
  have m2:=hb.fine
  have hz:((({data:={toList:=[]}}:ByteArray),({data:={toList:=[]}}:ByteArray),({data:={toList:=[]}}:ByteArray),((0:Int),(0:Int)),(0:Int),(0:Int),(0:Int)):Ord)=Km:=rfl
  dsimp only at k1 k2 k3
  simp only[hz,Prod.eta]
  generalize O.getD k Km=y at*
  have k3:Jze st M a b (List.drop (k+1) O) (bif F2 y b a then(bif F2 y a b then n+((Uo st M y).2.2.2.2.1-(Uo st M y).2.2.2.2.2) else n)-((Uo st M y).2.2.2.2.1-(Uo st M y).2.2.2.2.2) else(bif F2 y a b then n+((Uo st M y).2.2.2.2.1-(Uo st M y).2.2.2.2.2) else n))=D4 st O M a b:=k3
  refine⟨⟨⟨by omega,by omega⟩,by omega,by omega⟩,⟨hr,hx⟩,fun h2=>⟨⟨⟨by omega,by omega⟩,by omega,by omega⟩,fun h3=>⟨⟨⟨by omega,by omega⟩,by omega,by omega⟩,⟨⟨by omega,by omega⟩,(k+1,n+((Uo st M y).2.2.2.2.1-(Uo st M y).2.2.2.2.2)-((Uo st M y).2.2.2.2.1-(Uo st M y).2.2.2.2.2)),by(repeat' first|exact rfl|exact⟨⟩|apply And.intro|omega|dsimp only;omega),⟨by(first|omega|dsimp only;omega),by(first|omega|dsimp only;omega), ?_⟩,by(first|omega|dsimp only;omega)⟩⟩,fun h3=>⟨⟨by omega,by omega⟩,(k+1,n+((Uo st M y).2.2.2.2.1-(Uo st M y).2.2.2.2.2)),by(repeat' first|exact rfl|exact⟨⟩|apply And.intro|omega|dsimp only;omega),⟨by(first|omega|dsimp only;omega),by(first|omega|dsimp only;omega), ?_⟩,by(first|omega|dsimp only;omega)⟩⟩,fun h2=>⟨fun h3=>⟨⟨⟨by omega,by omega⟩,by omega,by omega⟩,⟨⟨by omega,by omega⟩,(k+1,n-((Uo st M y).2.2.2.2.1-(Uo st M y).2.2.2.2.2)),by(repeat' first|exact rfl|exact⟨⟩|apply And.intro|omega|dsimp only;omega),⟨by(first|omega|dsimp only;omega),by(first|omega|dsimp only;omega), ?_⟩,by(first|omega|dsimp only;omega)⟩⟩,fun h3=>⟨⟨by omega,by omega⟩,(k+1,n),by(repeat' first|exact rfl|exact⟨⟩|apply And.intro|omega|dsimp only;omega),⟨by(first|omega|dsimp only;omega),by(first|omega|dsimp only;omega), ?_⟩,by(first|omega|dsimp only;omega)⟩⟩⟩
  all_goals (have h2:F2 y a b=_:=h2;have h3:F2 y b a=_:=h3;rw[h2,h3] at k3;exact k3)
 ·obtain⟨k,n⟩:=x
  have hlt:¬k<O.length:=by simpa using h1
  obtain⟨k1,k2,k3⟩:=hk
  have:k=O.length:=by omega
  rw[this,List.drop_length,Jze] at k3
  exact k3
abbrev K7j:=K7k.add Ktg
theorem Jzd {tk st:Int} {S:List Sta} {O:List Ord} {M:List Met} {X:List Out} {Q:List Per} {a b:ByteArray} (hr:Jn (tk,st,S,O,M,X,Q)):∀(l:List Ord) (n:Int),(∀x∈l,x∈O)→n-100000000*l.length≤Jze st M a b l n∧Jze st M a b l n≤n+100000000*l.length
 |[],n,_=>by simp[Jze]
 | x :: l, n, h => by
  have hb:=Jby hr (h x (List.mem_cons_self ..))
  have ih:=Jzd (a:=a) (b:=b) hr l (Kgl st M a b x n) fun y hy=>h y (List.mem_cons_of_mem _ hy)
  have m1:=hb.money
  have m2:=hb.fine
  have hd:n-100000000≤Kgl st M a b x n∧Kgl st M a b x n≤n+100000000:=by
   unfold Kgl
   cases F2 x a b<;>cases F2 x b a<;>simp only[cond_true,cond_false]<;>omega
  simp only[List.length_cons]
  unfold Jze
  omega
theorem Jrw {tk st:Int} {S:List Sta} {O:List Ord} {M:List Met} {X:List Out} {Q:List Per} {a b:ByteArray} (hr:Jn (tk,st,S,O,M,X,Q)): -3200000000≤D4 st O M a b∧D4 st O M a b≤3200000000:=by
 have h:=Jzd (a:=a) (b:=b) hr O 0 fun _ h=>h
 have nO:O.length≤32:=hr.nO
 unfold D4
 omega
def J0a (st:Int) (O:List Ord) (M:List Met) (s:ByteArray):List Sta→Int→Int
 |[],n=>n
 |x::l,n=>J0a st O M s l (bif x.1.toList !=s.toList then n+D4 st O M s x.1 else n)
def Jyp (st:Int) (S:List Sta) (O:List Ord) (M:List Met) (s:ByteArray):Int:=J0a st O M s S 0
def J2r:Con:={args:=[Jb7,aS],ress:=[I],owns:=[],pre:=fun(r,_)=>[Jn r],spec:=fun((_,st,S,O,M,_),s,_)=>(Jyp st S O M s,())}
abbrev Kgb (tk st:Int) (S:List Sta) (O:List Ord) (M:List Met) (X:List Out) (Q:List Per) (s:ByteArray):Ann:={X:=Nat×Int,σ:=fun(k,n)=>⟨6,[(1, .one (.str s)),(2, .one (.ptr 5 0)),(5, .one (.int .i64 n)),(9, .one (.sl 0)),(10, .one (.int .i64 S.length)),(11, .one (.int .i64 k))],[(0, .imm 127 Fw S),(1, .imm 130 Lo O),(2, .imm 155 Ja4 M),(3, .imm 188 Zn X),(4, .imm 235 Hr Q),(5, .box 105 [.int .i64 tk, .int .i64 st, .sl 0, .sl 1, .sl 2, .sl 3, .sl 4])]⟩,inv:=fun(k,n)=>k≤S.length∧(-3200000000*k≤n∧n≤3200000000*k)∧J0a st O M s (S.drop k) n=Jyp st S O M s,mu:=fun(k,_)=>S.length-k}
def Kpd (a:List Sta) (b:Nat×Int):=(List.getD a b.1 Z13).1
def Klf (a:Nat×Int) (b:List Sta) (c:Int) (d:List Ord) (e:List Met) (f:Bt):=a.1≤List.length b∧((-3200000000)*Nc a.1≤a.2∧a.2≤3200000000*Nc a.1)∧J0a c d e f (List.drop a.1 b) a.2=Jyp c b d e f
def Kxy (a:Nat×Int) (b:List Sta) (c:Int) (d:List Ord) (e:List Met) (f:Bt) (g:Nat×Int):=Klf a b c d e f∧List.length b-a.1<List.length b-g.1
theorem Ktf:Ok Tryz.prog 128 J2r:=okW K7j Tryz.f128 (fun xx=>X6 (Kgb xx.1.1 xx.1.2.1 xx.1.2.2.1 xx.1.2.2.2.1 xx.1.2.2.2.2.1 xx.1.2.2.2.2.2.1 xx.1.2.2.2.2.2.2 xx.2.1)) fun xx=>by
 obtain⟨⟨(tk:Int),(st:Int),(S:List Sta),(O:List Ord),(M:List Met),(X:List Out),(Q:List Per)⟩,(s:ByteArray),_⟩:=xx
 refine(by kernel_rfl:(Jw tk st S O M X Q→∃(x:Nat×Int),Sf s (0=x.2∧Si (Ln S) (J0e x S O M X Q tk st))∧Klf x S st O M s∧∀(x:Nat×Int),Klf x S st O M s→Br (decide (Nc x.1<Ln S)) (Tw (Bd (Nc x.1) (Ln S))∧Br (!Lb (Kpd S x) s) ((Jw tk st S O M X Q∧Iw (x.2+D4 st O M s (Kpd S x)))∧Z38 x∧∃(y:Nat×Int),Sf s (x.2+D4 st O M s (Kpd S x)=y.2∧Si (Ln S) (Jry x y S O M X Q tk st))∧Kxy y S st O M s x) (Z38 x∧∃(y:Nat×Int),Sf s (x.2=y.2∧Si (Ln S) (Jry x y S O M X Q tk st))∧Kxy y S st O M s x)) (x.2=Jyp st S O M s))=_).mp ?_
 delta Z13 Z38 Z74 Jt7 Jw Kpd Jrz J0e Jry Klf Kxy Br Iw Bd Tw Sf Si Ln Nc B0 Lb
 intro hr
 have nS:S.length≤6:=hr.nS
 refine⟨((0:Nat),(0:Int)),by(repeat' first|exact rfl|exact⟨⟩|apply And.intro|omega|dsimp only;omega),⟨Nat.zero_le _,by omega,rfl⟩,fun(x:Nat×Int) hk=>⟨fun h1=> ?_,fun h1=> ?_⟩⟩
 ·obtain⟨k,n⟩:=x
  have hlt:k<S.length:=by simpa using h1
  obtain⟨k1,k2,k3⟩:=hk
  rw[Jk (d:=Jug) hlt,J0a] at k3
  have hz:((({data:={toList:=[]}}:ByteArray),(0:Int),(0:Int)):Sta)=Jug:=rfl
  dsimp only at k1 k2 k3
  simp only[hz,Prod.eta]
  generalize S.getD k Jug=y at*
  have hb:=Jrw (a:=s) (b:=y.1) hr
  refine⟨⟨⟨by omega,by omega⟩,by omega,by omega⟩,fun h2=>⟨⟨hr,by omega,by omega⟩,⟨by omega,by omega⟩,(k+1,n+D4 st O M s y.1),by(repeat' first|exact rfl|exact⟨⟩|apply And.intro|omega|dsimp only;omega),⟨by(first|omega|dsimp only;omega),by(first|omega|dsimp only;omega), ?_⟩,by(first|omega|dsimp only;omega)⟩,fun h2=>⟨⟨by omega,by omega⟩,(k+1,n),by(repeat' first|exact rfl|exact⟨⟩|apply And.intro|omega|dsimp only;omega),⟨by(first|omega|dsimp only;omega),by(first|omega|dsimp only;omega), ?_⟩,by(first|omega|dsimp only;omega)⟩⟩
  all_goals (have h2:(y.1.toList !=s.toList)=_:=h2;rw[h2] at k3;exact k3)
 ·obtain⟨k,n⟩:=x
  have hlt:¬k<S.length:=by simpa using h1
  obtain⟨k1,k2,k3⟩:=hk
  have:k=S.length:=by omega
  rw[this,List.drop_length,J0a] at k3
  exact k3
abbrev K7i:=K7j.add Ktf
def J4t (num den:Int):Int×Int:=(num.tdiv (Nat.gcd num.toNat den.toNat:Nat),den.tdiv (Nat.gcd num.toNat den.toNat:Nat))
def K9m:Con:={args:=[aI,aI],ress:=[(true,H6)],owns:=[],pre:=fun(a,b,_)=>[0≤a∧a≤1000000000000,1≤b∧b≤1000000000000],spec:=fun(a,b,_)=>(J4t a b,())}
abbrev Kf8 (num den:Int):Ann:={X:=Int×Int,σ:=fun(a,b)=>⟨1,[(0, .one (.int .i64 num)),(1, .one (.int .i64 den)),(4, .one (.ptr 0 0)),(5, .one (.int .i64 a)),(6, .one (.int .i64 b))],[(0, .box 54 [.int .i64 0, .int .i64 0])]⟩,inv:=fun(a,b)=>(0≤a∧a≤1000000000000)∧(0≤b∧b≤1000000000000)∧(a=0→b≠0)∧Nat.gcd a.toNat b.toNat=Nat.gcd num.toNat den.toNat,mu:=fun(_,b)=>b.toNat}
def Z31:=Tw ((0:Int)=0)
def Kk8 (a:Int×Int) (b c:Int):=(0≤a.1∧a.1≤1000000000000)∧(0≤a.2∧a.2≤1000000000000)∧(a.1=0→a.2=0→False)∧Nat.gcd (Int.toNat a.1) (Int.toNat a.2)=Nat.gcd (Int.toNat b) (Int.toNat c)
theorem K7v:Ok Tryz.prog 99 K9m:=okW K7i Tryz.f99 (fun xx=>X6 (Kf8 xx.1 xx.2.1)) fun xx=>by
 obtain⟨(num:Int),(den:Int),_⟩:=xx
 refine(by kernel_rfl:(0≤num∧num≤1000000000000→1≤den∧den≤1000000000000→∃(x:Int×Int),Si num (Si den (num=x.1∧den=x.2∧Z31))∧Kk8 x num den∧∀(x:Int×Int),Kk8 x num den→Br (x.2 !=0) ((x.2=0→False)∧∃(y:Int×Int),Si num (Si den (x.2=y.1∧Int.tmod x.1 x.2=y.2∧Z31))∧Kk8 y num den∧Int.toNat y.2<Int.toNat x.2) (((x.1=0→False)∧Iw (Int.tdiv num x.1)∧(x.1=0→False)∧Iw (Int.tdiv den x.1))∧(Int.tdiv num x.1,Int.tdiv den x.1)=J4t num den))=_).mp ?_
 delta Z31 Kk8 Br Iw Tw Si
 intro h1' h2
 refine⟨(num,den),by(repeat' first|exact rfl|exact⟨⟩|apply And.intro|omega|dsimp only;omega),⟨h1',by(first|omega|dsimp only;omega),by(first|omega|dsimp only;omega),rfl⟩,fun(x:Int×Int) hk=>⟨fun h1=> ?_,fun h1=> ?_⟩⟩
 ·obtain⟨a,b⟩:=x
  obtain⟨k1,k2,k3,k4⟩:=hk
  dsimp only at k1 k2 k3 k4 h1
  have hb:b≠0:=bne_iff_ne.1 h1
  obtain⟨A,rfl⟩:=Int.eq_ofNat_of_zero_le k1.1
  obtain⟨B,rfl⟩:=Int.eq_ofNat_of_zero_le k2.1
  have hB:0<B:=by omega
  have hm:=Nat.mod_lt A hB
  have e:((A:Int).tmod (B:Int))=((A %B:Nat):Int):=(Int.ofNat_tmod A B).symm
  refine⟨hb,((B:Int),((A %B:Nat):Int)),⟨rfl,rfl,rfl,e,rfl,rfl⟩,⟨by(first|omega|dsimp only;omega),by(first|omega|dsimp only;omega),fun h=>(by dsimp only at h;omega), ?_⟩, ?_⟩
  ·rw[←k4]
   simp only[Int.toNat_natCast]
   rw[Nat.gcd_comm A B,Nat.gcd_rec B A,Nat.gcd_comm]
  ·simp only[Int.toNat_natCast]
   exact hm
 ·obtain⟨a,b⟩:=x
  obtain⟨k1,k2,k3,k4⟩:=hk
  dsimp only at k1 k2 k3 k4 h1
  have hb:b=0:=by simpa using h1
  subst hb
  have ha:a≠0:=fun h=>k3 h rfl
  have hg:(Nat.gcd num.toNat den.toNat:Int)=a:=by rw[←k4];simp;omega
  have d1:0≤num.tdiv a:=Int.tdiv_nonneg h1'.1 k1.1
  have d2:num.tdiv a≤num:=Int.tdiv_le_self _ h1'.1
  have d3:0≤den.tdiv a:=Int.tdiv_nonneg (by omega) k1.1
  have d4:den.tdiv a≤den:=Int.tdiv_le_self _ (by omega)
  refine⟨⟨ha,⟨by(first|omega|dsimp only;omega),by(first|omega|dsimp only;omega)⟩,ha,by(first|omega|dsimp only;omega),by(first|omega|dsimp only;omega)⟩, ?_⟩
  unfold J4t
  rw[hg]
abbrev K7h:=K7i.add K7v
abbrev Kdm:Sch:= .prod .str (.prod sI .bool)
abbrev Frm:=ByteArray×Int×Bool
def Zv (k:ByteArray):Frm:=
 bif k.toList==Jt.toList then(⟨⟨[83]⟩⟩,2,true) else
 bif k.toList==Uc.toList then(⟨⟨[115]⟩⟩,2,true) else
 bif k.toList==Kl.toList then(⟨⟨[79,115,115]⟩⟩,4,true) else
 bif k.toList==K5.toList then(⟨⟨[111]⟩⟩,4,true) else
 bif k.toList==Vq.toList then(⟨⟨[111]⟩⟩,1,true) else
 bif k.toList==Ju.toList then(⟨⟨[88,115]⟩⟩,4,true) else
 bif k.toList==Jr.toList then(⟨⟨[120]⟩⟩,1,true) else
 bif k.toList==Kf.toList then(⟨⟨[80,120]⟩⟩,1,true) else
 bif k.toList==Ke.toList then(⟨⟨[112]⟩⟩,1,true) else
 bif k.toList==Jh.toList then(⟨⟨[]⟩⟩,2,true) else
 bif k.toList==Jy.toList then(⟨⟨[]⟩⟩,0,true) else
 (Ja,0,false)
def Kut:Con:={args:=[aS],ress:=[(true,Kdm)],owns:=[],pre:=fun _=>[],spec:=fun(k,_)=>(Zv k,())}
theorem Kd4:Ok Tryz.prog 110 Kut:=okW K7h Tryz.f110 na fun xx=>by
 obtain⟨(k:ByteArray),_⟩:=xx
 refine(by kernel_rfl:(Br (Lb k Jt) ((ByteArray.mk (Array.mk [83]),2,true)=Zv k) (Br (Lb k Uc) ((ByteArray.mk (Array.mk [115]),2,true)=Zv k) (Br (Lb k Kl) ((ByteArray.mk (Array.mk [79,115,115]),4,true)=Zv k) (Br (Lb k K5) ((ByteArray.mk (Array.mk [111]),4,true)=Zv k) (Br (Lb k Vq) ((ByteArray.mk (Array.mk [111]),1,true)=Zv k) (Br (Lb k Ju) ((ByteArray.mk (Array.mk [88,115]),4,true)=Zv k) (Br (Lb k Jr) ((ByteArray.mk (Array.mk [120]),1,true)=Zv k) (Br (Lb k Kf) ((ByteArray.mk (Array.mk [80,120]),1,true)=Zv k) (Br (Lb k Ke) ((ByteArray.mk (Array.mk [112]),1,true)=Zv k) (Br (Lb k Jh) ((B0,2,true)=Zv k) (Br (Lb k Jy) ((B0,0,true)=Zv k) ((B0,0,false)=Zv k))))))))))))=_).mp ?_
 delta Br B0 Lb K5 Kl Ju Kf Uc Jr Ke Jh Jt Vq Jy
 unfold Zv
 repeat' first|(refine⟨fun h=> ?_,fun h=> ?_⟩)|(rw[h];clear h)
 all_goals rfl
abbrev Uaz:=K7h.add Kd4
abbrev K7g:=Uaz
abbrev Jl6:Sch:= .prod sI (.prod sI (.prod (.list 114 Fw) (.prod (.list 119 Lo) (.prod (.list 121 Ja4) (.prod (.list 123 Zn) (.list 125 Hr))))))
abbrev Hc:AK:= .val true Jl6
def Ku3:Con:={args:=[Hc,aS],ress:=[I],owns:=[],pre:=fun((_,_,L,_),_)=>[L.length≤1000000],spec:=fun((_,_,L,_),s,_)=>(J2 L s,())}
abbrev J8k (tk st:Int) (S:List Sta) (O:List Ord) (M:List Met) (X:List Out) (Q:List Per) (s:ByteArray):Ann:={X:=Nat,σ:=fun k=>⟨6,[(1, .one (.str s)),(2, .one (.ptr 5 0)),(5, .one (.int .i64 k))],[(0, .imm 114 Fw S),(1, .imm 119 Lo O),(2, .imm 121 Ja4 M),(3, .imm 123 Zn X),(4, .imm 125 Hr Q),(5, .box 37 [.int .i64 tk, .int .i64 st, .sl 0, .sl 1, .sl 2, .sl 3, .sl 4])]⟩,inv:=fun k=>k≤S.length∧J2 S s=Vp (fun x=>x.1.toList==s.toList) (S.drop k) k,mu:=fun k=>S.length-k}
def Knu (a:Nat) (b:List Sta) (c:Bt):=a≤List.length b∧J2 b c=Vp (fun(x:Sta)=>Lb x.1 c) (List.drop a b) a
def J0d (a:Bt) (b:Nat) (c:List Sta) (d:List Ord) (e:List Met) (f:List Out) (g:List Per) (h i:Int):=Sf a (0=Nc b∧Jrz c d e f g h i)
def J0c (a:Bt) (b c:Nat) (d:List Sta) (e:List Ord) (f:List Met) (g:List Out) (h:List Per) (i j:Int):=Sf a (V0 b c∧Jrz d e f g h i j)
theorem K83:Ok Tryz.prog 21 Ku3:=okW K7g Tryz.f21 (fun xx=>X6 (J8k xx.1.1 xx.1.2.1 xx.1.2.2.1 xx.1.2.2.2.1 xx.1.2.2.2.2.1 xx.1.2.2.2.2.2.1 xx.1.2.2.2.2.2.2 xx.2.1)) fun xx=>by
 obtain⟨⟨(tk:Int),(st:Int),(S:List Sta),(O:List Ord),(M:List Met),(X:List Out),(Q:List Per)⟩,(s:ByteArray),_⟩:=xx
 refine(by kernel_rfl:(Z52 S→∃(x:Nat),J0d s x S O M X Q tk st∧Knu x S s∧∀(x:Nat),Knu x S s→Br (decide (Nc x<Ln S)) (Tw (Bd (Nc x) (Ln S))∧Br (Lb (List.getD S x Z13).1 s) (Nc x=J2 S s) (Z22 x∧∃(y:Nat),J0c s x y S O M X Q tk st∧Knu y S s∧List.length S-y<List.length S-x)) (Z75=J2 S s))=_).mp ?_
 delta Z13 Z22 Z52 Z75 V0 Knu Jrz J0d J0c Br Iw Bd Tw Sf Si Ln Nc B0 Lb
 intro hb
 refine⟨(0:Nat),by(repeat' first|exact rfl|exact⟨⟩|apply And.intro|omega|dsimp only;omega),⟨Nat.zero_le _,rfl⟩,fun(k:Nat) hk=>⟨fun h=> ?_,fun h=> ?_⟩⟩
 ·have hlt:k<S.length:=by simpa using h
  have hd:=Yk (p:=fun x=>x.1.toList==s.toList) (d:=Jug) hlt
  refine⟨by omega,fun h1=> ?_,fun h1=>⟨by omega,(k+1:Nat),by(repeat' first|exact rfl|exact⟨⟩|apply And.intro|omega|dsimp only;omega),⟨by omega, ?_⟩,by omega⟩⟩
  ·rw[hk.2,hd,if_pos (show((S.getD k Jug).1.toList==s.toList)=true from h1)]
  ·rw[hk.2,hd,if_neg (by rw[show((S.getD k Jug).1.toList==s.toList)=false from h1];simp)]
 ·have hlt:¬k<S.length:=by simpa using h
  have:k=S.length:=by omega
  rw[hk.2,this,List.drop_length];rfl
abbrev K7f:=K7g.add K83
def Ku2:Con:={args:=[Hc,aS],ress:=[I],owns:=[],pre:=fun((_,_,_,L,_),_)=>[L.length≤1000000],spec:=fun((_,_,_,L,_),s,_)=>(Kx L s,())}
abbrev J8j (tk st:Int) (S:List Sta) (O:List Ord) (M:List Met) (X:List Out) (Q:List Per) (s:ByteArray):Ann:={X:=Nat,σ:=fun k=>⟨6,[(1, .one (.str s)),(2, .one (.ptr 5 0)),(5, .one (.int .i64 k))],[(0, .imm 114 Fw S),(1, .imm 119 Lo O),(2, .imm 121 Ja4 M),(3, .imm 123 Zn X),(4, .imm 125 Hr Q),(5, .box 37 [.int .i64 tk, .int .i64 st, .sl 0, .sl 1, .sl 2, .sl 3, .sl 4])]⟩,inv:=fun k=>k≤O.length∧Kx O s=Vp (fun x=>x.1.toList==s.toList) (O.drop k) k,mu:=fun k=>O.length-k}
def Knx (a:Nat) (b:List Ord) (c:Bt):=a≤List.length b∧Kx b c=Vp (fun(x:Ord)=>Lb x.1 c) (List.drop a b) a
theorem K77:Ok Tryz.prog 86 Ku2:=okW K7f Tryz.f86 (fun xx=>X6 (J8j xx.1.1 xx.1.2.1 xx.1.2.2.1 xx.1.2.2.2.1 xx.1.2.2.2.2.1 xx.1.2.2.2.2.2.1 xx.1.2.2.2.2.2.2 xx.2.1)) fun xx=>by
 obtain⟨⟨(tk:Int),(st:Int),(S:List Sta),(O:List Ord),(M:List Met),(X:List Out),(Q:List Per)⟩,(s:ByteArray),_⟩:=xx
 refine(by kernel_rfl:(Z64 O→∃(x:Nat),J0d s x S O M X Q tk st∧Knx x O s∧∀(x:Nat),Knx x O s→Br (decide (Nc x<Ln O)) (Tw (Bd (Nc x) (Ln O))∧Br (Lb (Kit O x) s) (Nc x=Kx O s) (Z22 x∧∃(y:Nat),J0c s x y S O M X Q tk st∧Knx y O s∧List.length O-y<List.length O-x)) (Z75=Kx O s))=_).mp ?_
 delta Z22 Z64 Z75 Z79 V0 Jhh Kiu Kit Knx Jrz J0d J0c Br Iw Bd Tw Sf Si Ln Nc B0 Lb
 intro hb
 refine⟨(0:Nat),by(repeat' first|exact rfl|exact⟨⟩|apply And.intro|omega|dsimp only;omega),⟨Nat.zero_le _,rfl⟩,fun(k:Nat) hk=>⟨fun h=> ?_,fun h=> ?_⟩⟩
 ·have hlt:k<O.length:=by simpa using h
  have hd:=Yk (p:=fun x=>x.1.toList==s.toList) (d:=Km) hlt
  refine⟨by omega,fun h1=> ?_,fun h1=>⟨by omega,(k+1:Nat),by(repeat' first|exact rfl|exact⟨⟩|apply And.intro|omega|dsimp only;omega),⟨by omega, ?_⟩,by omega⟩⟩
  ·rw[hk.2,hd,if_pos (show((O.getD k Km).1.toList==s.toList)=true from h1)]
  ·rw[hk.2,hd,if_neg (by rw[show((O.getD k Km).1.toList==s.toList)=false from h1];simp)]
 ·have hlt:¬k<O.length:=by simpa using h
  have:k=O.length:=by omega
  rw[hk.2,this,List.drop_length];rfl
abbrev K7e:=K7f.add K77
def Ku1:Con:={args:=[Hc,aS],ress:=[I],owns:=[],pre:=fun((_,_,_,_,_,L,_),_)=>[L.length≤1000000],spec:=fun((_,_,_,_,_,L,_),s,_)=>(J7 L s,())}
abbrev J8i (tk st:Int) (S:List Sta) (O:List Ord) (M:List Met) (X:List Out) (Q:List Per) (s:ByteArray):Ann:={X:=Nat,σ:=fun k=>⟨6,[(1, .one (.str s)),(2, .one (.ptr 5 0)),(5, .one (.int .i64 k))],[(0, .imm 114 Fw S),(1, .imm 119 Lo O),(2, .imm 121 Ja4 M),(3, .imm 123 Zn X),(4, .imm 125 Hr Q),(5, .box 37 [.int .i64 tk, .int .i64 st, .sl 0, .sl 1, .sl 2, .sl 3, .sl 4])]⟩,inv:=fun k=>k≤X.length∧J7 X s=Vp (fun x=>x.1.toList==s.toList) (X.drop k) k,mu:=fun k=>X.length-k}
def Kny (a:Nat) (b:List Out) (c:Bt):=a≤List.length b∧J7 b c=Vp (fun(x:Out)=>Lb x.1 c) (List.drop a b) a
theorem K76:Ok Tryz.prog 87 Ku1:=okW K7e Tryz.f87 (fun xx=>X6 (J8i xx.1.1 xx.1.2.1 xx.1.2.2.1 xx.1.2.2.2.1 xx.1.2.2.2.2.1 xx.1.2.2.2.2.2.1 xx.1.2.2.2.2.2.2 xx.2.1)) fun xx=>by
 obtain⟨⟨(tk:Int),(st:Int),(S:List Sta),(O:List Ord),(M:List Met),(X:List Out),(Q:List Per)⟩,(s:ByteArray),_⟩:=xx
 refine(by kernel_rfl:(Z58 X→∃(x:Nat),J0d s x S O M X Q tk st∧Kny x X s∧∀(x:Nat),Kny x X s→Br (Z98 x X) (Tw (Z17 x X)∧Br (Lb (J3g X x) s) (Nc x=J7 X s) (Z22 x∧∃(y:Nat),J0c s x y S O M X Q tk st∧Kny y X s∧J0k X y x)) (Z75=J7 X s))=_).mp ?_
 delta Z17 Z22 Z58 Z75 Z98 V0 Jhk J0k J3h J3g Kny Jrz J0d J0c Br Iw Bd Tw Sf Si Ln Nc B0 Lb
 intro hb
 refine⟨(0:Nat),by(repeat' first|exact rfl|exact⟨⟩|apply And.intro|omega|dsimp only;omega),⟨Nat.zero_le _,rfl⟩,fun(k:Nat) hk=>⟨fun h=> ?_,fun h=> ?_⟩⟩
 ·have hlt:k<X.length:=by simpa using h
  have hd:=Yk (p:=fun x=>x.1.toList==s.toList) (d:=Jb6) hlt
  refine⟨by omega,fun h1=> ?_,fun h1=>⟨by omega,(k+1:Nat),by(repeat' first|exact rfl|exact⟨⟩|apply And.intro|omega|dsimp only;omega),⟨by omega, ?_⟩,by omega⟩⟩
  ·rw[hk.2,hd,if_pos (show((X.getD k Jb6).1.toList==s.toList)=true from h1)]
  ·rw[hk.2,hd,if_neg (by rw[show((X.getD k Jb6).1.toList==s.toList)=false from h1];simp)]
 ·have hlt:¬k<X.length:=by simpa using h
  have:k=X.length:=by omega
  rw[hk.2,this,List.drop_length];rfl
abbrev K7d:=K7e.add K76
def Ku0:Con:={args:=[Hc,aS],ress:=[I],owns:=[],pre:=fun((_,_,_,_,_,_,L),_)=>[L.length≤1000000],spec:=fun((_,_,_,_,_,_,L),s,_)=>(U1 L s,())}
abbrev J8h (tk st:Int) (S:List Sta) (O:List Ord) (M:List Met) (X:List Out) (Q:List Per) (s:ByteArray):Ann:={X:=Nat,σ:=fun k=>⟨6,[(1, .one (.str s)),(2, .one (.ptr 5 0)),(5, .one (.int .i64 k))],[(0, .imm 114 Fw S),(1, .imm 119 Lo O),(2, .imm 121 Ja4 M),(3, .imm 123 Zn X),(4, .imm 125 Hr Q),(5, .box 37 [.int .i64 tk, .int .i64 st, .sl 0, .sl 1, .sl 2, .sl 3, .sl 4])]⟩,inv:=fun k=>k≤Q.length∧U1 Q s=Vp (fun x=>x.1.toList==s.toList) (Q.drop k) k,mu:=fun k=>Q.length-k}
def Knt (a:Nat) (b:List Per) (c:Bt):=a≤List.length b∧U1 b c=Vp (fun(x:Per)=>Lb x.1 c) (List.drop a b) a
theorem K75:Ok Tryz.prog 88 Ku0:=okW K7d Tryz.f88 (fun xx=>X6 (J8h xx.1.1 xx.1.2.1 xx.1.2.2.1 xx.1.2.2.2.1 xx.1.2.2.2.2.1 xx.1.2.2.2.2.2.1 xx.1.2.2.2.2.2.2 xx.2.1)) fun xx=>by
 obtain⟨⟨(tk:Int),(st:Int),(S:List Sta),(O:List Ord),(M:List Met),(X:List Out),(Q:List Per)⟩,(s:ByteArray),_⟩:=xx
 refine(by kernel_rfl:(Z51 Q→∃(x:Nat),J0d s x S O M X Q tk st∧Knt x Q s∧∀(x:Nat),Knt x Q s→Br (J0t x Q) (Tw (Bd (Nc x) (Ln Q))∧Br (Lb (List.getD Q x (B0,B0,false)).1 s) (Nc x=U1 Q s) (Z22 x∧∃(y:Nat),J0c s x y S O M X Q tk st∧Knt y Q s∧J3k Q y x)) (Z75=U1 Q s))=_).mp ?_
 delta Z22 Z51 Z75 J0t V0 J3k Knt Jrz J0d J0c Br Iw Bd Tw Sf Si Ln Nc B0 Lb
 intro hb
 refine⟨(0:Nat),by(repeat' first|exact rfl|exact⟨⟩|apply And.intro|omega|dsimp only;omega),⟨Nat.zero_le _,rfl⟩,fun(k:Nat) hk=>⟨fun h=> ?_,fun h=> ?_⟩⟩
 ·have hlt:k<Q.length:=by simpa using h
  have hd:=Yk (p:=fun x=>x.1.toList==s.toList) (d:=Jj6) hlt
  refine⟨by omega,fun h1=> ?_,fun h1=>⟨by omega,(k+1:Nat),by(repeat' first|exact rfl|exact⟨⟩|apply And.intro|omega|dsimp only;omega),⟨by omega, ?_⟩,by omega⟩⟩
  ·rw[hk.2,hd,if_pos (show((Q.getD k Jj6).1.toList==s.toList)=true from h1)]
  ·rw[hk.2,hd,if_neg (by rw[show((Q.getD k Jj6).1.toList==s.toList)=false from h1];simp)]
 ·have hlt:¬k<Q.length:=by simpa using h
  have:k=Q.length:=by omega
  rw[hk.2,this,List.drop_length];rfl
abbrev K7c:=K7d.add K75
def atS (r:Reg) (c:Int) (s:ByteArray):Int:=bif c==115 then J2 r.2.2.1 s else bif c==111 then Kx r.2.2.2.1 s else bif c==120 then J7 r.2.2.2.2.2.1 s else U1 r.2.2.2.2.2.2 s
def cAt:Con:={args:=[Hc, .val false (.int .u8),aS],ress:=[I],owns:=[],pre:=fun(r,_)=>[Jn r],spec:=fun(r,c,s,_)=>(atS r c s,())}
theorem Krx:Ok Tryz.prog 192 cAt:=okW K7c Tryz.f192 na fun xx=>by
 obtain⟨⟨(tk:Int),(st:Int),(S:List Sta),(O:List Ord),(M:List Met),(X:List Out),(Q:List Per)⟩,(c:Int),(s:ByteArray),_⟩:=xx
 refine(by kernel_rfl:(Jw tk st S O M X Q→Br (c==115) (Z52 S∧J2 S s=atS (Z74 tk st S O M X Q) c s) (Br (c==111) (Z64 O∧Kx O s=atS (Z74 tk st S O M X Q) c s) (Br (c==120) (Z58 X∧J7 X s=atS (Z74 tk st S O M X Q) c s) (Z51 Q∧U1 Q s=atS (Z74 tk st S O M X Q) c s))))=_).mp ?_
 delta Z51 Z52 Z58 Z64 Z74 Jw Br
 intro hr
 have nS:S.length≤6:=hr.nS
 have nO:O.length≤32:=hr.nO
 have nX:X.length≤16:=hr.nX
 have nQ:Q.length≤16:=hr.nQ
 unfold atS
 repeat' first|(refine⟨fun h=> ?_,fun h=> ?_⟩)|(rw[h];clear h)
 all_goals exact⟨by omega,rfl⟩
abbrev K7b:=K7c.add Krx
theorem Kr4:Ok Tryz.prog 181 Jx5:=okW K7b Tryz.f181 na fun xx=>by
 obtain⟨⟨(a:Int),(b:Int)⟩,(h:Int),_⟩:=xx
 refine(by kernel_rfl:((bif decide (a≤h) then decide (h<b) else false)=Ks (a,b) h)=_).mp ?_
 rfl
abbrev K7a:=K7b.add Kr4
def Jtx:Con:={args:=[.val true Lo,aI],ress:=[Bo],owns:=[],pre:=fun(x,_)=>[-1≤x.2.2.2.2.2.2],spec:=fun(x,h,_)=>(J4 x h,())}
theorem Ktv:Ok Tryz.prog 103 Jtx:=okW K7a Tryz.f103 na fun xx=>by
 obtain⟨⟨(n:ByteArray),(f:ByteArray),(t:ByteArray),⟨(a:Int),(b:Int)⟩,(p:Int),(c:Int),(r:Int)⟩,(h:Int),_⟩:=xx
 refine(by kernel_rfl:(Z75≤r→(bif Ks (a,b) h then bif decide (r<0) then true else decide (h<r) else false)=J4 (n,f,t,(a,b),p,c,r) h)=_).mp ?_
 delta Z75
 intro hr
 unfold J4
 have:(r== -1)=decide (r<0):=by
  by_cases q:r= -1
  ·rw[q];rfl
  ·rw[beq_eq_false_iff_ne.2 q,decide_eq_false (by(first|omega|dsimp only;omega))]
 dsimp only
 rw[this]
abbrev K69:=K7a.add Ktv
def K9v:Con:={args:=[Hc,aS,aI],ress:=[I],owns:=[],pre:=fun(r,s,_)=>[Jn r,0≤J2 r.2.2.1 s],spec:=fun((_,_,S,_,_,X,_),s,h,_)=>(Jhy X s h (Hw S s).2.1,())}
abbrev Kga (tk st:Int) (S:List Sta) (O:List Ord) (M:List Met) (X:List Out) (Q:List Per) (s:ByteArray) (h:Int):Ann:={X:=Nat×Int,σ:=fun(k,n)=>⟨6,[(1, .one (.str s)),(2, .one (.int .i64 h)),(3, .one (.ptr 5 0)),(7, .one (.int .i64 n)),(8, .one (.int .i64 k))],[(0, .imm 114 Fw S),(1, .imm 119 Lo O),(2, .imm 121 Ja4 M),(3, .imm 123 Zn X),(4, .imm 125 Hr Q),(5, .box 37 [.int .i64 tk, .int .i64 st, .sl 0, .sl 1, .sl 2, .sl 3, .sl 4])]⟩,inv:=fun(k,n)=>k≤X.length∧Jhy (X.drop k) s h n=Jhy X s h (Hw S s).2.1,mu:=fun(k,_)=>X.length-k}
def Knk (a:Nat×Int) (b:List Out) (c:Bt) (d:Int) (e:List Sta):=a.1≤List.length b∧Jhy (List.drop a.1 b) c d a.2=Jhy b c d (Hw e c).2.1
def Kz1 (a:Nat×Int) (b:List Out) (c:Bt) (d:Int) (e:List Sta) (f:Nat×Int):=Knk a b c d e∧List.length b-a.1<List.length b-f.1
theorem Kty:Ok Tryz.prog 100 K9v:=okW K69 Tryz.f100 (fun xx=>X6 (Kga xx.1.1 xx.1.2.1 xx.1.2.2.1 xx.1.2.2.2.1 xx.1.2.2.2.2.1 xx.1.2.2.2.2.2.1 xx.1.2.2.2.2.2.2 xx.2.1 xx.2.2.1)) fun xx=>by
 obtain⟨⟨(tk:Int),(st:Int),(S:List Sta),(O:List Ord),(M:List Met),(X:List Out),(Q:List Per)⟩,(s:ByteArray),(h:Int),_⟩:=xx
 refine(by kernel_rfl:(Jw tk st S O M X Q→Z25 S s→(Z52 S∧Tw (Bd (J2 S s) (Ln S)))∧∃(x:Nat×Int),Sf s (Si h ((Kjb S s).2.1=x.2∧J0e x S O M X Q tk st))∧Knk x X s h S∧∀(x:Nat×Int),Knk x X s h S→Br (decide (Nc x.1<Ln X)) (Tw (Bd (Nc x.1) (Ln X))∧Br (bif bif Lb (Kcm X x).1 s then Ks (Kop X x) h else false then decide (Kch X x<x.2) else false) (Z38 x∧∃(y:Nat×Int),Sf s (Si h (Kch X x=y.2∧Jry x y S O M X Q tk st))∧Kz1 y X s h S x) (Z38 x∧∃(y:Nat×Int),Sf s (Si h (x.2=y.2∧Jry x y S O M X Q tk st))∧Kz1 y X s h S x)) (x.2=Jhy X s h (Hw S s).2.1))=_).mp ?_
 delta Z13 Z25 Z38 Z52 Z74 Jt7 Jw Jhk Kjb Kcm Kch Kop Knk Jrz J0e Kz1 Jry Br Iw Bd Tw Sf Si Ln Nc Gt B0 Lb E2
 intro hr hf
 have nS:S.length≤6:=hr.nS
 have nX:X.length≤16:=hr.nX
 have hl:=K4 (l:=S) (s:=s)
 refine⟨⟨by omega,⟨hf,hl⟩,hf,hl⟩,((0:Nat),(Hw S s).2.1),by(repeat' first|exact rfl|exact⟨⟩|apply And.intro|omega|dsimp only;omega),⟨Nat.zero_le _,rfl⟩,fun(x:Nat×Int) hk=>⟨fun h1=> ?_,fun h1=> ?_⟩⟩
 ·obtain⟨k,n⟩:=x
  have hlt:k<X.length:=by simpa using h1
  obtain⟨k1,k2⟩:=hk
  rw[Jk (d:=Jb6) hlt,Jhy] at k2
  have hz:((({data:={toList:=[]}}:ByteArray),({data:={toList:=[]}}:ByteArray),((0:Int),(0:Int)),(0:Int)):Out)=Jb6:=rfl
  dsimp only at k1 k2
  simp only[hz,Prod.eta]
  generalize X.getD k Jb6=y at*
  have hc:(bif bif bif y.2.1.toList==s.toList then Ks y.2.2.1 h else false then decide (y.2.2.2<n) else false then y.2.2.2 else n)=bif J1t y s h then min n y.2.2.2 else n:=by
   unfold J1t
   cases bif y.2.1.toList==s.toList then Ks y.2.2.1 h else false
   ·rfl
   ·by_cases q:y.2.2.2<n
    ·simp only[cond_true,decide_eq_true q];omega
    ·simp only[cond_true,decide_eq_false q,cond_false];omega
  refine⟨⟨⟨by omega,by omega⟩,by omega,by omega⟩,fun h2=>⟨⟨by omega,by omega⟩,(k+1,y.2.2.2),by(repeat' first|exact rfl|exact⟨⟩|apply And.intro|omega|dsimp only;omega),⟨by(first|omega|dsimp only;omega), ?_⟩,by(first|omega|dsimp only;omega)⟩,fun h2=>⟨⟨by omega,by omega⟩,(k+1,n),by(repeat' first|exact rfl|exact⟨⟩|apply And.intro|omega|dsimp only;omega),⟨by(first|omega|dsimp only;omega), ?_⟩,by(first|omega|dsimp only;omega)⟩⟩
  all_goals (rw[←hc] at k2;have h2:(bif bif y.2.1.toList==s.toList then Ks y.2.2.1 h else false then decide (y.2.2.2<n) else false)=_:=h2;rw[h2] at k2;exact k2)
 ·obtain⟨k,n⟩:=x
  have hlt:¬k<X.length:=by simpa using h1
  obtain⟨k1,k2⟩:=hk
  have:k=X.length:=by omega
  rw[this,List.drop_length,Jhy] at k2
  exact k2
abbrev K68:=K69.add Kty
def J2p:Con:={args:=[Hc,aS,aI],ress:=[I],owns:=[],pre:=fun(r,_)=>[Jn r],spec:=fun((_,_,_,O,_),s,h,_)=>(Vd O s h,())}
abbrev Jt1 (tk st:Int) (S:List Sta) (O:List Ord) (M:List Met) (X:List Out) (Q:List Per) (s:ByteArray) (h:Int):Ann:={X:=Nat×Int,σ:=fun(k,n)=>⟨6,[(1, .one (.str s)),(2, .one (.int .i64 h)),(3, .one (.ptr 5 0)),(7, .one (.int .i64 n)),(8, .one (.int .i64 k))],[(0, .imm 114 Fw S),(1, .imm 119 Lo O),(2, .imm 121 Ja4 M),(3, .imm 123 Zn X),(4, .imm 125 Hr Q),(5, .box 37 [.int .i64 tk, .int .i64 st, .sl 0, .sl 1, .sl 2, .sl 3, .sl 4])]⟩,inv:=fun(k,n)=>k≤O.length∧(0≤n∧n≤1000*k)∧n+Vd (O.drop k) s h=Vd O s h,mu:=fun(k,_)=>O.length-k}
def Kl6 (a:Nat×Int) (b:List Ord) (c:Bt) (d:Int):=a.1≤List.length b∧(0≤a.2∧a.2≤1000*Nc a.1)∧a.2+Vd (List.drop a.1 b) c d=Vd b c d
def Kym (a:Nat×Int) (b:List Ord) (c:Bt) (d:Int) (e:Nat×Int):=Kl6 a b c d∧List.length b-a.1<List.length b-e.1
def Kx5 (a:List Ord) (b:Nat×Int) (c:Bt):=bif Knl a b c then true else Knh a b c
theorem Ktx:Ok Tryz.prog 101 J2p:=okW K68 Tryz.f101 (fun xx=>X6 (Jt1 xx.1.1 xx.1.2.1 xx.1.2.2.1 xx.1.2.2.2.1 xx.1.2.2.2.2.1 xx.1.2.2.2.2.2.1 xx.1.2.2.2.2.2.2 xx.2.1 xx.2.2.1)) fun xx=>by
 obtain⟨⟨(tk:Int),(st:Int),(S:List Sta),(O:List Ord),(M:List Met),(X:List Out),(Q:List Per)⟩,(s:ByteArray),(h:Int),_⟩:=xx
 refine(by kernel_rfl:(Jw tk st S O M X Q→∃(x:Nat×Int),Sf s (Si h (0=x.2∧J0e x S O M X Q tk st))∧Kl6 x O s h∧∀(x:Nat×Int),Kl6 x O s h→Br (decide (Nc x.1<Ln O)) (Tw (Bd (Nc x.1) (Ln O))∧(Kx5 O x s=true→Z75≤(Kii O x).2)∧Br (bif Kx5 O x s then Kj8 O x h else false) (Km5 x O∧Z38 x∧∃(y:Nat×Int),Sf s (Si h (Km3 x O y∧Jry x y S O M X Q tk st))∧Kym y O s h x) (Z38 x∧∃(y:Nat×Int),Sf s (Si h (x.2=y.2∧Jry x y S O M X Q tk st))∧Kym y O s h x)) (x.2=Vd O s h))=_).mp ?_
 delta Z38 Z74 Z75 Z79 Jt7 Jw Jhh Kis Kir Kiq Kip Kio Kin Kil Kij Kii Knl Knh Knb Km5 Km3 Jrz J0e Kl6 Jry Kym Kx5 J8o Kj8 Br Iw Bd Tw Sf Si Ln Nc B0 Lb E2
 intro hr
 have nO:O.length≤32:=hr.nO
 refine⟨((0:Nat),(0:Int)),by(repeat' first|exact rfl|exact⟨⟩|apply And.intro|omega|dsimp only;omega),⟨Nat.zero_le _,by omega,by simp⟩,fun(x:Nat×Int) hk=>⟨fun h1=> ?_,fun h1=> ?_⟩⟩
 ·obtain⟨k,n⟩:=x
  have hlt:k<O.length:=by simpa using h1
  obtain⟨k1,k2,k3⟩:=hk
  have hO:=hr.ord _ (Jd (d:=Km) hlt)
  rw[Jk (d:=Km) hlt,Vd] at k3
  have hz:((({data:={toList:=[]}}:ByteArray),({data:={toList:=[]}}:ByteArray),({data:={toList:=[]}}:ByteArray),((0:Int),(0:Int)),(0:Int),(0:Int),(0:Int)):Ord)=Km:=rfl
  dsimp only at k1 k2 k3
  simp only[hz,Prod.eta]
  generalize O.getD k Km=y at*
  have hp:=hO.pow
  have ht:=hO.trip
  refine⟨⟨⟨by omega,by omega⟩,by omega,by omega⟩,fun _=>by omega,fun h2=>⟨⟨by omega,by omega⟩,⟨by omega,by omega⟩,(k+1,n+y.2.2.2.2.1),by(repeat' first|exact rfl|exact⟨⟩|apply And.intro|omega|dsimp only;omega),⟨by(first|omega|dsimp only;omega),by(first|omega|dsimp only;omega), ?_⟩,by(first|omega|dsimp only;omega)⟩,fun h2=>⟨⟨by omega,by omega⟩,(k+1,n),by(repeat' first|exact rfl|exact⟨⟩|apply And.intro|omega|dsimp only;omega),⟨by(first|omega|dsimp only;omega),by(first|omega|dsimp only;omega), ?_⟩,by(first|omega|dsimp only;omega)⟩⟩
  all_goals (have h2:(bif Jad y s then J4 y h else false)=_:=h2;rw[h2] at k3;simp only[cond_true,cond_false] at k3;(first|omega|dsimp only;omega))
 ·obtain⟨k,n⟩:=x
  have hlt:¬k<O.length:=by simpa using h1
  obtain⟨k1,k2,k3⟩:=hk
  have:k=O.length:=by omega
  rw[this,List.drop_length,Vd] at k3
  exact(Int.add_zero n).symm.trans k3
abbrev K67:=K68.add Ktx
def J7e:Con:={args:=[Hc,aS,aI],ress:=[I],owns:=[],pre:=fun(r,s,_)=>[Jn r,0≤J2 r.2.2.1 s],spec:=fun((_,_,S,O,_,X,_),s,h,_)=>(Xy S O X s h,())}
theorem Jx2 {S:List Sta} {s:ByteArray} {h:Int}:∀{X:List Out} {n:Int},(∀x∈X,Jpz S x)→0≤n∧n≤1000→0≤Jhy X s h n∧Jhy X s h n≤1000
 |[],_,_,hn=>hn
 |x::l,n,hX,hn=>by
  have hx:=(hX x (List.mem_cons_self ..)).rest
  unfold Jhy
  refine Jx2 (fun y hy=>hX y (List.mem_cons_of_mem _ hy)) ?_
  cases J1t x s h<;>simp only[cond_true,cond_false]<;>omega
theorem K8z:Ok Tryz.prog 28 J7e:=okW K67 Tryz.f28 na fun xx=>by
 obtain⟨⟨(tk:Int),(st:Int),(S:List Sta),(O:List Ord),(M:List Met),(X:List Out),(Q:List Per)⟩,(s:ByteArray),(h:Int),_⟩:=xx
 refine(by kernel_rfl:(Jw tk st S O M X Q→Z25 S s→(Jw tk st S O M X Q∧Z25 S s∧Jw tk st S O M X Q∧Iw (Jhy X s h (Hw S s).2.1-Vd O s h))∧Jhy X s h (Hw S s).2.1-Vd O s h=Xy S O X s h)=_).mp ?_
 delta Z25 Z74 Jw Iw
 intro hr hf
 have h1:=Jjs hr.sta hf
 have h2:=Jx2 (s:=s) (h:=h) hr.out (n:=(Hw S s).2.1) ⟨Int.le_trans (by decide) h1.lim.1,h1.lim.2⟩
 have h3:=Jki (s:=s) (h:=h) hr.ord
 have nO:O.length≤32:=hr.nO
 dsimp only at h2 h3
 exact⟨⟨hr,hf,hr,by omega,by omega⟩,rfl⟩
abbrev K66:=K67.add K8z
def Dg (M:List Met) (s:ByteArray) (h:Int):Met×Bool:=if 0≤K6 M s h then(Jf0 M s h,true) else(Jnx,false)
def Kuo:Con:={args:=[Hc,aS,aI],ress:=[(true,Ja4),Bo],owns:=[],pre:=fun(r,_)=>[Jn r],spec:=fun((_,_,_,_,M,_),s,h,_)=>((Dg M s h).1,(Dg M s h).2,())}
abbrev J8d (tk st:Int) (S:List Sta) (O:List Ord) (M:List Met) (X:List Out) (Q:List Per) (s:ByteArray) (h:Int):Ann:={X:=Nat,σ:=fun k=>⟨7,[(1, .one (.str s)),(2, .one (.int .i64 h)),(3, .one (.ptr 5 0)),(6, .one (.ptr 6 0)),(8, .one (.int .i64 k))],[(0, .imm 114 Fw S),(1, .imm 119 Lo O),(2, .imm 121 Ja4 M),(3, .imm 123 Zn X),(4, .imm 125 Hr Q),(5, .box 37 [.int .i64 tk, .int .i64 st, .sl 0, .sl 1, .sl 2, .sl 3, .sl 4]),(6, .box 121 [.str Ja, .int .i64 0, .int .i64 0, .int .i64 0])]⟩,inv:=fun k=>k≤M.length∧K6 M s h=Vp (fun x=>bif x.1.toList==s.toList then x.2.1==h else false) (M.drop k) k,mu:=fun k=>M.length-k}
def Kmm (a:Nat) (b:List Met) (c:Bt) (d:Int):=a≤List.length b∧K6 b c d=Vp (fun(x:Met)=>bif Lb x.1 c then x.2.1==d else false) (List.drop a b) a
theorem Ktw:Ok Tryz.prog 102 Kuo:=okW K66 Tryz.f102 (fun xx=>X6 (J8d xx.1.1 xx.1.2.1 xx.1.2.2.1 xx.1.2.2.2.1 xx.1.2.2.2.2.1 xx.1.2.2.2.2.2.1 xx.1.2.2.2.2.2.2 xx.2.1 xx.2.2.1)) fun xx=>by
 obtain⟨⟨(tk:Int),(st:Int),(S:List Sta),(O:List Ord),(M:List Met),(X:List Out),(Q:List Per)⟩,(s:ByteArray),(h:Int),_⟩:=xx
 refine(by kernel_rfl:(Jw tk st S O M X Q→∃(x:Nat),Sf s (Si h (0=Nc x∧Sf S (Sf O (Sf M (Sf X (Sf Q (Si tk (Si st (B0=Ja∧Si 0 Z31)))))))))∧Kmm x M s h∧∀(x:Nat),Kmm x M s h→Br (decide (Nc x<Ln M)) (Tw (Bd (Nc x) (Ln M))∧Br (bif Lb (Kja M x).1 s then(Ki8 M x).1==h else false) (Kld M x=(Dg M s h).1∧true=(Dg M s h).2) (Z22 x∧∃(y:Nat),Sf s (Si h (V0 x y∧Sf S (Sf O (Sf M (Sf X (Sf Q (Si tk (Si st (Sf Ja (Si 0 Z31))))))))))∧Kmm y M s h∧List.length M-y<List.length M-x)) (J0r=(Dg M s h).1∧false=(Dg M s h).2))=_).mp ?_
 delta Z22 Z31 Z74 Z79 V0 J0r Jw Kja Ki8 Kmm Kld Br Iw Bd Tw Sf Si Ln Nc B0 Lb E2
 intro hr
 have nM:M.length≤10000:=hr.nM
 refine⟨(0:Nat),by(repeat' first|exact rfl|exact⟨⟩|apply And.intro|omega|dsimp only;omega),⟨Nat.zero_le _,rfl⟩,fun(k:Nat) hk=>⟨fun h1=> ?_,fun h1=> ?_⟩⟩
 ·have hlt:k<M.length:=by simpa using h1
  obtain⟨k1,k2⟩:=hk
  have hd:=Yk (p:=fun x=>bif x.1.toList==s.toList then x.2.1==h else false) (d:=Jnx) hlt
  have hz:((({data:={toList:=[]}}:ByteArray),(0:Int),(0:Int),(0:Int)):Met)=Jnx:=rfl
  simp only[hz,Prod.eta]
  refine⟨⟨⟨by omega,by omega⟩,by omega,by omega⟩,fun h2=> ?_,fun h2=>⟨⟨by omega,by omega⟩,(k+1:Nat),by(repeat' first|exact rfl|exact⟨⟩|apply And.intro|omega|dsimp only;omega),⟨by omega, ?_⟩,by omega⟩⟩
  ·have h2:(bif (M.getD k Jnx).1.toList==s.toList then(M.getD k Jnx).2.1==h else false)=true:=h2
   have e:K6 M s h=k:=by rw[k2,hd,if_pos h2]
   have e2:Dg M s h=(M.getD k Jnx,true):=by
    unfold Dg
    rw[if_pos (by omega)]
    unfold Jf0
    rw[e];rfl
   rw[e2]
   repeat' first|exact rfl|exact⟨⟩|apply And.intro|omega|dsimp only;omega
  ·have h2:(bif (M.getD k Jnx).1.toList==s.toList then(M.getD k Jnx).2.1==h else false)=false:=h2
   rw[k2,hd,if_neg (by rw[h2];simp)]
 ·have hlt:¬k<M.length:=by simpa using h1
  obtain⟨k1,k2⟩:=hk
  have:k=M.length:=by omega
  rw[this,List.drop_length,Vp] at k2
  have e2:Dg M s h=(Jnx,false):=by
   unfold Dg
   rw[if_neg (by omega)]
  rw[e2]
  repeat' first|exact rfl|exact⟨⟩|apply And.intro|omega|dsimp only;omega
abbrev Uay:=K66.add Ktw
abbrev K65:=Uay
def J7h:Con:={args:=[Hc,aI],ress:=[(false, .list 198 J59)],owns:=[true],pre:=fun(r,_)=>[Jn r],spec:=fun((_,_,_,O,M,_),u,_)=>(Kr M u O,())}
abbrev Jy2 (tk st:Int) (S:List Sta) (O:List Ord) (M:List Met) (X:List Out) (Q:List Per) (u:Int):Nat→Option Ann:=fun id=>if id=0 then some {X:=Nat×List Gap,σ:=fun(k,o)=>⟨7,[(1, .one (.int .i64 u)),(2, .one (.ptr 5 0)),(5, .one (.sl 6)),(6, .one (.int .i64 k))],[(0, .imm 114 Fw S),(1, .imm 119 Lo O),(2, .imm 121 Ja4 M),(3, .imm 123 Zn X),(4, .imm 125 Hr Q),(5, .box 37 [.int .i64 tk, .int .i64 st, .sl 0, .sl 1, .sl 2, .sl 3, .sl 4]),(6, .own 198 J59 o)]⟩,inv:=fun(k,o)=>k≤O.length∧o.length≤48*k∧o++Kr M u (O.drop k)=Kr M u O,mu:=fun(k,_)=>O.length-k}
 else if id=2 then some {X:=Nat×List Gap×Nat,σ:=fun(k,o,j)=>⟨8,[(1, .one (.int .i64 u)),(2, .one (.ptr 5 0)),(5, .one (.sl 6)),(6, .one (.int .i64 k)),(7, .one (.ptr 7 0)),(8, .one (.int .i64 ((O.getD k Km).2.2.2.1.1+j)))],[(0, .imm 114 Fw S),(1, .imm 119 Lo O),(2, .imm 121 Ja4 M),(3, .imm 123 Zn X),(4, .imm 125 Hr Q),(5, .box 37 [.int .i64 tk, .int .i64 st, .sl 0, .sl 1, .sl 2, .sl 3, .sl 4]),(6, .own 198 J59 o),(7, .box 119 (bxO (O.getD k Km)))]⟩,inv:=fun(k,o,j)=>k<O.length∧j≤Um (O.getD k Km)∧o.length≤48*k+j∧o++(Df M u (O.getD k Km) ((O.getD k Km).2.2.2.1.1+j) (Um (O.getD k Km)-j)++Kr M u (O.drop (k+1)))=Kr M u O,mu:=fun(k,_,j)=>Um (O.getD k Km)-j,rel:=some fun x y=>y.1=x.1}
 else none
theorem Kt3 {M:List Met} {s:ByteArray} {h:Int}:(!(Dg M s h).2)=decide (K6 M s h<0):=by
 unfold Dg
 by_cases q:0≤K6 M s h
 ·rw[if_pos q,decide_eq_false (by omega)];rfl
 ·rw[if_neg q,decide_eq_true (by omega)];rfl
def Kwi (a:Nat×List (Bt×Int)×Nat) (b:List Ord) (c:List Met) (d:Int) (e:Nat×List (Bt×Int)×Nat) (f:Nat×List Gap×Nat):=(Kgx a b c d∧a.1=e.1)∧Um (List.getD b a.1 Km)-a.2.2<Um (List.getD b f.1 Km)-f.2.2
def Kv7 (a:List Ord) (b:Nat×List Gap×Nat) (c:Nat×List (Bt×Int)×Nat):=J9b a b c∧J89 a b c∧J88 a b c∧J85 a b c∧J86 a b c∧J84 a b c∧J82 a b c∧J83 a b c
theorem K8y:Ok Tryz.prog 29 J7h:=okW K65 Tryz.f29 (fun xx=>Jy2 xx.1.1 xx.1.2.1 xx.1.2.2.1 xx.1.2.2.2.1 xx.1.2.2.2.2.1 xx.1.2.2.2.2.2.1 xx.1.2.2.2.2.2.2 xx.2.1) fun xx=>by
 obtain⟨⟨(tk:Int),(st:Int),(S:List Sta),(O:List Ord),(M:List Met),(X:List Out),(Q:List Per)⟩,(u:Int),_⟩:=xx
 refine(by kernel_rfl:(Jw tk st S O M X Q→∃(x:Nat×List (ByteArray×Int)),Si u (0=Nc x.1∧Sf S (Sf O (Sf M (Sf X (Sf Q (Si tk (Si st (List.length x.2=0))))))))∧Kh4 x O M u∧∀(x:Nat×List Gap),Kml x O M u→Br (decide (Nc x.1<Ln O)) (Tw (Bd (Nc x.1) (Ln O))∧∃(x0:Nat×List (ByteArray×Int)×Nat),Si u (Nc x.1=Nc x0.1∧Klz O x x0∧Sf S (Sf O (Sf M (Sf X (Sf Q (Si tk (Si st (x.2=x0.2.1∧Kig O x x0∧Kid O x x0∧Kh6 O x x0∧Kh1 O x x0∧Kh2 O x x0∧Kh0 O x x0∧Khw O x x0∧Khx O x x0))))))))∧(Kgx x0 O M u∧x0.1=x0.1)∧∀(x_1:Nat×List Gap×Nat),Kkm x_1 O M u∧x_1.1=x0.1→Br (Knz O x_1) (Jw tk st S O M X Q∧(Kcl O x_1 u=true→Z75≤(Z93 O x_1).2.2)∧Br (bif bif Kcl O x_1 u then Kkr O x_1 else false then !(Dg M (Z0 O x_1).1 (J0m O x_1)).2 else false) (Kou x_1∧Kcg O x_1∧∃(y:Nat×List (ByteArray×Int)×Nat),Si u (Nc x_1.1=Nc y.1∧Kb2 O x_1 y∧Sf S (Sf O (Sf M (Sf X (Sf Q (Si tk (Si st (Kmx x_1 O y∧Kv7 O x_1 y))))))))∧Kwi y O M u x0 x_1) (Kcg O x_1∧∃(y:Nat×List (ByteArray×Int)×Nat),Si u (Nc x_1.1=Nc y.1∧Kb2 O x_1 y∧Sf S (Sf O (Sf M (Sf X (Sf Q (Si tk (Si st (x_1.2.1=y.2.1∧Kv7 O x_1 y))))))))∧Kwi y O M u x0 x_1)) (Iw (Nc x_1.1+1)∧∃(y:Nat×List (ByteArray×Int)),Si u (Nc x_1.1+1=Nc y.1∧Sf S (Sf O (Sf M (Sf X (Sf Q (Si tk (Si st (x_1.2.1=y.2))))))))∧Kg8 y O M u x)) (x.2=Kr M u O))=_).mp ?_
 delta Z0 Z7 Z74 Z75 Z79 Z82 Z83 Z86 Z93 Jw J0m J9b J89 Kcl J88 Kcg Jhh J86 J85 J84 J83 J82 Kou Kob Kn6 Kn3 Kn0 Knz Knw Knv Knq Knp Kb2 Km2 Kig Kid Kmx Kh6 Kh4 Kml Kh2 Kh1 Kh0 Khx Khw Klz Kg8 Kkr Kkm Kgx Kwi Kv7 Br Iw Bd Tw Sf Si Ln Nc B0 E2
 intro hr
 have nO:O.length≤32:=hr.nO
 have hz:((({data:={toList:=[]}}:ByteArray),({data:={toList:=[]}}:ByteArray),({data:={toList:=[]}}:ByteArray),((0:Int),(0:Int)),(0:Int),(0:Int),(0:Int)):Ord)=Km:=rfl
 refine⟨((0:Nat),[]),by(repeat' first|exact rfl|exact⟨⟩|apply And.intro|omega|dsimp only;omega),⟨Nat.zero_le _,Nat.zero_le _,rfl⟩,fun(x:Nat×List Gap) hk=>⟨fun h1=> ?_,fun h1=> ?_⟩⟩
 ·obtain⟨k,o⟩:=x
  have hlt:k<O.length:=by simpa using h1
  obtain⟨k1,k2,k3⟩:=hk
  dsimp only at k1 k2 k3
  rw[Jk (d:=Km) hlt,Kr,Jwm] at k3
  simp only[hz,Prod.eta]
  have hO:Jd6 S (O.getD k Km):=hr.ord _ (Jd (d:=Km) hlt)
  have b0:=hO.span.lo
  have b1:=hO.span.mid
  have b2:=hO.span.hi
  have b3:=hO.span.len
  have bt:=hO.trip
  have hn:Um (O.getD k Km)≤48∧(Um (O.getD k Km):Int)=(O.getD k Km).2.2.2.1.2-(O.getD k Km).2.2.2.1.1:=by
   unfold Um
   constructor<;>omega
  refine⟨⟨⟨by omega,by omega⟩,by omega,by omega⟩,(k,o,(0:Nat)),by(repeat' first|exact rfl|exact⟨⟩|apply And.intro|omega|dsimp only;omega),⟨⟨hlt,Nat.zero_le _,by(first|omega|dsimp only;omega), ?_⟩,by(repeat' first|exact rfl|exact⟨⟩|apply And.intro|omega|dsimp only;omega)⟩,fun(y:Nat×List Gap×Nat) hy=> ?_⟩
  ·dsimp only
   simpa[Um] using k3
  obtain⟨k',o,j⟩:=y
  obtain⟨⟨i1,i2,i3,i4⟩,hkk⟩:=hy
  have hkk:k'=k:=hkk
  subst hkk
  dsimp only at i1 i2 i3 i4
  refine⟨fun h2=> ?_,fun h2=> ?_⟩
  ·have h2:(O.getD k' Km).2.2.2.1.1+(j:Int)<(O.getD k' Km).2.2.2.1.2:=of_decide_eq_true h2
   have hj:Um (O.getD k' Km)-j=(Um (O.getD k' Km)-(j+1))+1:=by omega
   rw[hj,Df] at i4
   have hc:(O.getD k' Km).2.2.2.1.1+(j:Int)+1=(O.getD k' Km).2.2.2.1.1+((j+1:Nat):Int):=by omega
   rw[hc] at i4
   have hcnd:(bif bif decide ((O.getD k' Km).2.2.2.1.1+(j:Int)<u) then J4 (O.getD k' Km) ((O.getD k' Km).2.2.2.1.1+(j:Int)) else false then !(Dg M (O.getD k' Km).1 ((O.getD k' Km).2.2.2.1.1+(j:Int))).2 else false)=(J4 (O.getD k' Km) ((O.getD k' Km).2.2.2.1.1+(j:Int))&&(decide ((O.getD k' Km).2.2.2.1.1+(j:Int)<u)&&decide (K6 M (O.getD k' Km).1 ((O.getD k' Km).2.2.2.1.1+(j:Int))<0))):=by
    rw[Kt3]
    cases decide ((O.getD k' Km).2.2.2.1.1+(j:Int)<u)<;>cases J4 (O.getD k' Km) ((O.getD k' Km).2.2.2.1.1+(j:Int))<;>rfl
   refine⟨hr,fun _=>bt.1,fun h3=>⟨by(first|omega|dsimp only;omega),⟨by(first|omega|dsimp only;omega),by(first|omega|dsimp only;omega)⟩,(k',o++[((O.getD k' Km).1,(O.getD k' Km).2.2.2.1.1+(j:Int))],j+1),by(repeat' first|exact rfl|exact⟨⟩|apply And.intro|omega|dsimp only;omega),⟨⟨hlt,by(first|omega|dsimp only;omega),by(simp only[List.length_append,List.length_singleton];omega), ?_⟩,by(repeat' first|exact rfl|exact⟨⟩|apply And.intro|omega|dsimp only;omega)⟩,by(first|omega|dsimp only;omega)⟩,fun h3=>⟨⟨by(first|omega|dsimp only;omega),by(first|omega|dsimp only;omega)⟩,(k',o,j+1),by(repeat' first|exact rfl|exact⟨⟩|apply And.intro|omega|dsimp only;omega),⟨⟨hlt,by(first|omega|dsimp only;omega),by(first|omega|dsimp only;omega), ?_⟩,by(repeat' first|exact rfl|exact⟨⟩|apply And.intro|omega|dsimp only;omega)⟩,by(first|omega|dsimp only;omega)⟩⟩
   all_goals (have h3:(bif bif decide ((O.getD k' Km).2.2.2.1.1+(j:Int)<u) then J4 (O.getD k' Km) ((O.getD k' Km).2.2.2.1.1+(j:Int)) else false then !(Dg M (O.getD k' Km).1 ((O.getD k' Km).2.2.2.1.1+(j:Int))).2 else false)=_:=h3;rw[hcnd] at h3;rw[h3] at i4;simpa using i4)
  ·have h2:¬(O.getD k' Km).2.2.2.1.1+(j:Int)<(O.getD k' Km).2.2.2.1.2:=of_decide_eq_false h2
   have hj:Um (O.getD k' Km)-j=0:=by omega
   rw[hj,Df] at i4
   exact⟨⟨by(first|omega|dsimp only;omega),by(first|omega|dsimp only;omega)⟩,(k'+1,o),by(repeat' first|exact rfl|exact⟨⟩|apply And.intro|omega|dsimp only;omega),⟨by(first|omega|dsimp only;omega),by(first|omega|dsimp only;omega),by simpa using i4⟩,by(first|omega|dsimp only;omega)⟩
 ·obtain⟨k,o⟩:=x
  have hlt:¬k<O.length:=by simpa using h1
  obtain⟨k1,k2,k3⟩:=hk
  dsimp only at k1 k2 k3
  have:k=O.length:=by omega
  rw[this,List.drop_length,Kr,List.append_nil] at k3
  exact k3
abbrev Uax:=K65.add K8y
abbrev Uaw:=Uax
abbrev Uav:=Uaw
abbrev Uau:=Uav
def Jym:Jse:=(Ja,0,0,0,0,0)
abbrev Uat:=Uau
theorem Jkq {α β:Type} {f:α→β} {d:α} {d':β}:∀{l:List α} {k:Nat},k<l.length→(l.map f).getD k d'=f (l.getD k d)
 |[],_,h=>by cases h
 |x::l,0,_=>rfl
 |x::l,k+1,h=>by
  rw[List.map_cons,List.getD_cons_succ,List.getD_cons_succ]
  exact Jkq (by simpa using h)
abbrev Uas:=Uat
abbrev Uar:=Uas
abbrev sH3:Sch:= .prod sI (.prod sI sI)
abbrev H3:=Int×Int×Int
def Kec (M:List Met) (h:Int) (x:Ord) (a:H3):H3:=bif J4 x h then(a.1+(Jf0 M x.1 h).2.2.1,a.2.1+(Jf0 M x.1 h).2.2.2,a.2.2+((Jf0 M x.1 h).2.2.2*x.2.2.2.2.2.1-3*(x.2.2.2.2.1-(Jf0 M x.1 h).2.2.2))) else a
def Jo4 (M:List Met) (h:Int):List Ord→H3→H3
 |[],a=>a
 |x::l,a=>Jo4 M h l (Kec M h x a)
abbrev Uaq:=Uar
def Jvc:List Jse→Int×Int→Int×Int
 |[],a=>a
 |b::l,(s,g)=>Jvc l (s+b.2.2.1,g+b.2.2.2.1)
def Kd8 (st:Int) (O:List Ord) (M:List Met):(Int×Int)×Int:=if(Jvc (O.map (Uo st M)) (0,0)).1=0 then((0,0),6) else(J4t ((Jvc (O.map (Uo st M)) (0,0)).1-(Jvc (O.map (Uo st M)) (0,0)).2) (Jvc (O.map (Uo st M)) (0,0)).1,0)
abbrev K64:=Uaq
def Jhr (l:List Ev) (h:Int):Int:=Jg [opE l [],Ki h 0 999999999,bif decide ((J3 l).2.1≤h) then 22 else 0]
def Jm1 (l:List Ev) (h:Int):H3:=if Jhr l h=0 then Jo4 (J3 l).2.2.2.2.1 h (J3 l).2.2.2.1 (0,0,0) else(0,0,0)
def J7l:Con:={args:=[.val false (.list 67 sEv),aI],ress:=[(true,sH3),I],owns:=[],pre:=fun(l,_)=>[lOk l],spec:=fun(l,h,_)=>(Jm1 l h,Jhr l h,())}
abbrev imR (r:Reg) (i:Nat):List (Nat×Res):=[(i, .imm 127 Fw r.2.2.1),(i+1, .imm 130 Lo r.2.2.2.1),(i+2, .imm 155 Ja4 r.2.2.2.2.1),(i+3, .imm 188 Zn r.2.2.2.2.2.1),(i+4, .imm 235 Hr r.2.2.2.2.2.2)]
abbrev bxR (r:Reg) (i:Nat):Res:= .box 105 [.int .i64 r.1, .int .i64 r.2.1, .sl i, .sl (i+1), .sl (i+2), .sl (i+3), .sl (i+4)]
abbrev J8f (l:List Ev) (h:Int):Ann:={X:=Nat×H3,σ:=fun(k,a,b,c)=>⟨9,[(1, .one (.int .i64 h)),(4, .one (.ptr 1 0)),(6, .one (.ptr 7 0)),(9, .one (.ptr 8 0)),(33, .one (.sl 3)),(34, .one (.int .i64 (J3 l).2.2.2.1.length)),(35, .one (.int .i64 k))],(1, .box 25 [.int .i64 0, .int .i64 0, .int .i64 0])::(7,bxR (J3 l) 2)::(8, .box 25 [.int .i64 a, .int .i64 b, .int .i64 c])::imR (J3 l) 2⟩,inv:=fun(k,a,b,c)=>Jhr l h=0∧k≤(J3 l).2.2.2.1.length∧(0≤a∧a≤1000*k)∧(0≤b∧b≤1000*k)∧(-2000000*k≤c∧c≤2000000*k)∧Jo4 (J3 l).2.2.2.2.1 h ((J3 l).2.2.2.1.drop k) (a,b,c)=Jm1 l h,mu:=fun(k,_)=>(J3 l).2.2.2.1.length-k}
theorem J65 {a b c:Int} (h:Jg [a,b,c]=0):a=0∧b=0∧c=0:=by
 have h:=Uj.1 h
 exact⟨h a (by simp),h b (by simp),h c (by simp)⟩
def Z28 (a:List Ev):=Ln (J3 a).2.2.2.1
def Kjk (a:List Ev):=(J3 a).2.2.2.1=(J3 a).2.2.2.1
def Kjh (a:List Ev):=(J3 a).2.2.2.2.1=(J3 a).2.2.2.2.1
def Kjg (a:List Ev):=(J3 a).2.2.2.2.2.1=(J3 a).2.2.2.2.2.1
def Kjf (a:List Ev):=(J3 a).2.2.2.2.2.2=(J3 a).2.2.2.2.2.2
def K3h (a:List Ev) (b:Nat×H3):=List.getD (J3 a).2.2.2.1 b.1 Jhh
def K3f (a:List Ev) (b:Nat×H3):=(K3h a b).2
def K3d (a:List Ev) (b:Nat×H3):=(K3h a b).1
def K3a (a:List Ev) (b:Nat×H3):=(K3f a b).2
def K28 (a:List Ev) (b:Nat×H3):=(K3a a b).2
def K27 (a:List Ev) (b:Nat×H3):=(K28 a b).2
def K24 (a:List Ev) (b:Nat×H3):=(K27 a b).2
def K22 (a:List Ev) (b:Nat×H3):=(K27 a b).1
def K0n (a:List Ev) (b:Nat×H3) (c:Int):=K6 (J3 a).2.2.2.2.1 (K3d a b) c
def K0h (a:List Ev) (b:Int):=Jg [opE a [],Z76 b,bif decide ((J3 a).2.1≤b) then 22 else 0]
def Kyh (a:List Ev) (b:Nat×H3) (c:Int):=(Gt (J3 a).2.2.2.2.1 (K0n a b c) J0r).2.2
def Kk7 (a:List Ev) (b:Nat×H3) (c:Int):=(Kyh a b c).2
def Kye (a:Nat×H3) (b:List Ev) (c:Int):=a.2.1+(Kyh b a c).1
def Kx9 (a:Nat×H3) (b:List Ev) (c:Int):=a.2.2.1+Kk7 b a c
def Kk2 (a:List Ev):=(J3 a).2.2.1=(J3 a).2.2.1∧Kjk a∧Kjh a∧Kjg a∧Kjf a
def Kxj (a:List Ev) (b:Nat×H3) (c:Int):=K22 a b-Kk7 a b c
def Kxi (a:List Ev) (b:Nat×H3) (c:Int):=Kk7 a b c*(K24 a b).1
def Kxd (a:List Ev) (b:Nat×H3) (c:Int):=3*Kxj a b c
def Kw6 (a:List Ev) (b:Int) (c:Nat) (d e f:Int):=Jhr a b=0∧c≤List.length (J3 a).2.2.2.1∧Kc2 d c∧Kc2 e c∧((-2000000)*Nc c≤f∧f≤2000000*Nc c)∧Jo4 (J3 a).2.2.2.2.1 b (List.drop c (J3 a).2.2.2.1) (d,e,f)=Jm1 a b
def Kwr (a:Nat×Int×Int×Int) (b:List Ev) (c:Int):=match a with|(k,a,b_1,c_1)=>Kw6 b c k a b_1 c_1
def Kwf (a:Nat×Int×Int×Int) (b:List Ev) (c:Int) (d:Nat×H3):=Kwr a b c∧List.length (J3 b).2.2.2.1-a.1<List.length (J3 b).2.2.2.1-d.1
def Kvz (a:List Ev) (b:Nat×H3) (c:Int):=Kxi a b c-Kxd a b c
def Kvy (a:Nat×H3) (b:List Ev) (c:Int):=a.2.2.2+Kvz b a c
theorem K87:Ok Tryz.prog 15 J7l:=okW K64 Tryz.f15 (fun xx=>X6 (J8f xx.1 xx.2.1)) fun xx=>by
 obtain⟨(l:List Ev),(h:Int),_⟩:=xx
 refine(by kernel_rfl:(lOk l→(lOk l∧0≤1000000)∧3≤1000000∧Br (K0h l h !=0) (Z79=Jm1 l h∧K0h l h=Jhr l h) (∃(x:Nat×Int×Int×Int),Si h (Z28 l=Z28 l∧0=Nc x.1∧Si 0 (Si 0 (Si 0 ((J3 l).1=(J3 l).1∧(J3 l).2.1=(J3 l).2.1∧0=x.2.1∧0=x.2.2.1∧0=x.2.2.2∧Kk2 l))))∧Kwr x l h∧∀(x:Nat×H3),(match x with|(k,a,b,c)=>Kw6 l h k a b c)→Br (decide (Nc x.1<Z28 l)) (Tw (Bd (Nc x.1) (Z28 l))∧Br (J4 (K3d l x,(K3f l x).1,(K3a l x).1,E2 (K28 l x).1,K22 l x,E2 (K24 l x)) h) ((J5e l∧Tw (Bd (K0n l x h) (Ln (J3 l).2.2.2.2.1)))∧Iw (Kye x l h)∧Iw (Kx9 x l h)∧(Iw (Kxi l x h)∧Iw (Kxj l x h)∧Iw (Kxd l x h)∧Iw (Kvz l x h)∧Iw (Kvy x l h))∧Iw (Nc x.1+1)∧∃(y:Nat×Int×Int×Int),Si h (Si (Z28 l) (Nc x.1+1=Nc y.1∧Si 0 (Si 0 (Si 0 (Si (J3 l).1 (Si (J3 l).2.1 (Kye x l h=y.2.1∧Kx9 x l h=y.2.2.1∧Kvy x l h=y.2.2.2∧Kk2 l)))))))∧Kwf y l h x) (Iw (Nc x.1+1)∧∃(y:Nat×Int×Int×Int),Si h (Si (Z28 l) (Nc x.1+1=Nc y.1∧Si 0 (Si 0 (Si 0 (Si (J3 l).1 (Si (J3 l).2.1 (x.2.1=y.2.1∧x.2.2.1=y.2.2.1∧x.2.2.2=y.2.2.2∧Kk2 l)))))))∧Kwf y l h x)) ((x.2.1,E2 x.2.2)=Jm1 l h∧0=Jhr l h)))=_).mp ?_
 delta Z28 Z76 Z79 J0r Kjk Kjh Kjg Kjf Kc2 Jhh K3h K3f K3d K3a K28 K27 K24 K22 J8t K0n K0h J5e Kyh Kk7 Kye Kx9 Kk2 Kxj Kxi Kxd Kw6 Kwr Kwf Kvz Kvy Br Iw Bd Tw Si Ln Nc Gt B0 E2
 intro hl
 refine⟨⟨hl,by decide⟩,by decide,fun e=> ?_,fun e=> ?_⟩
 ·have e:Jhr l h≠0:=bne_iff_ne.1 e
  exact⟨by unfold Jm1;rw[if_neg e],rfl⟩
 ·have e0:Jhr l h=0:=bne_eq_false_iff_eq.1 e
  clear e
  have hr:=Jff (l:=l)
  have nO:=hr.nO
  have hst:h<(J3 l).2.1:=by
   have:=(J65 e0).2.2
   by_cases q:(J3 l).2.1≤h
   ·rw[decide_eq_true q] at this;cases this
   ·omega
  refine⟨((0:Nat),0,0,0),by(repeat' first|exact rfl|exact⟨⟩|apply And.intro|omega|dsimp only;omega),⟨e0,Nat.zero_le _,by omega,by omega,by omega,by unfold Jm1;rw[if_pos e0];rfl⟩,fun(x:Nat×H3) hk=>⟨fun h1=> ?_,fun h1=> ?_⟩⟩
  ·obtain⟨k,a,b,c⟩:=x
   have hlt:k<(J3 l).2.2.2.1.length:=by simpa using h1
   obtain⟨_,k1,k2,k3,k4,k5⟩:=hk
   generalize J3 l=r at*
   obtain⟨tk,st,S,O,M,X,Q⟩:=r
   have hlt:k<O.length:=hlt
   have hst:h<st:=hst
   have nO:O.length≤32:=nO
   have hx:=Jd (d:=Km) hlt
   have k5:Jo4 M h (O.drop k) (a,b,c)=Jm1 l h:=k5
   rw[Jk (d:=Km) hlt,Jo4] at k5
   have hz:((({data:={toList:=[]}}:ByteArray),({data:={toList:=[]}}:ByteArray),({data:={toList:=[]}}:ByteArray),((0:Int),(0:Int)),(0:Int),(0:Int),(0:Int)):Ord)=Km:=rfl
   have hzm:((({data:={toList:=[]}}:ByteArray),(0:Int),(0:Int),(0:Int)):Met)=Jnx:=rfl
   simp only[hz,hzm,Prod.eta]
   have hO:Jd6 S (O.getD k Km):=hr.ord _ hx
   have hd:∀h,J4 (O.getD k Km) h=true→h<st→0≤K6 M (O.getD k Km).1 h:=hr.done _ hx
   generalize O.getD k Km=y at*
   unfold Kec at k5
   have bp:=hO.pow
   have bc:=hO.pri
   have em:M.getD (K6 M y.1 h).toNat Jnx=Jf0 M y.1 h:=rfl
   simp only[em]
   refine⟨by(repeat' first|apply And.intro|omega),fun hq=> ?_,fun hq=> ?_⟩
   ·rw[hq,cond_true] at k5
    have hm:=hd _ hq hst
    have hl:=Jfz (l:=M) (s:=y.1) (h:=h)
    have hM:Jz3 (Jf0 M y.1 h):=hr.met _ (Jd (show _<M.length by omega))
    have m1:=hM.sent
    have m2:=hM.got
    have q1:0≤(Jf0 M y.1 h).2.2.2*y.2.2.2.2.2.1:=Int.mul_nonneg m2.1 bc.1
    have q2:(Jf0 M y.1 h).2.2.2*y.2.2.2.2.2.1≤1000*1000:=Int.mul_le_mul (by omega) bc.2 bc.1 (by decide)
    exact⟨⟨hr,by(repeat' first|apply And.intro|omega),by(repeat' first|apply And.intro|omega)⟩,by(repeat' first|apply And.intro|omega),by(repeat' first|apply And.intro|omega),by(repeat' first|apply And.intro|omega),by(repeat' first|apply And.intro|omega),(k+1,a+(Jf0 M y.1 h).2.2.1,b+(Jf0 M y.1 h).2.2.2,c+((Jf0 M y.1 h).2.2.2*y.2.2.2.2.2.1-3*(y.2.2.2.2.1-(Jf0 M y.1 h).2.2.2))),by(repeat' first|exact rfl|exact⟨⟩|apply And.intro|omega|dsimp only;omega),⟨e0,by(first|omega|dsimp only;omega),by(first|omega|dsimp only;omega),by(first|omega|dsimp only;omega),by(first|omega|dsimp only;omega),k5⟩,by(first|omega|dsimp only;omega)⟩
   ·rw[hq,cond_false] at k5
    exact⟨by(repeat' first|apply And.intro|omega),(k+1,a,b,c),by(repeat' first|exact rfl|exact⟨⟩|apply And.intro|omega|dsimp only;omega),⟨e0,by(first|omega|dsimp only;omega),by(first|omega|dsimp only;omega),by(first|omega|dsimp only;omega),by(first|omega|dsimp only;omega),k5⟩,by(first|omega|dsimp only;omega)⟩
  ·obtain⟨k,a,b,c⟩:=x
   have hlt:¬k<(J3 l).2.2.2.1.length:=by simpa using h1
   obtain⟨_,k1,k2,k3,k4,k5⟩:=hk
   have:k=(J3 l).2.2.2.1.length:=by omega
   rw[this,List.drop_length,Jo4] at k5
   exact⟨k5,e0.symm⟩
abbrev K63:=K64.add K87
def cAb (pre:Reg→Ev→List Prop) (f:Reg→Ev→ByteArray→Bool):Con:={args:=[Jb7,aEv,aS],ress:=[Bo],owns:=[],pre:=fun(r,e,_)=>pre r e,spec:=fun(r,e,s,_)=>(f r e s,())}
def Kf1:Con:=cAb (fun _ _=>[]) (fun _ _ _=>true)
theorem Ksw:Ok Tryz.prog 150 Kf1:=okW K63 Tryz.f150 na fun xx=>by
 obtain⟨⟨(tk:Int),(st:Int),(S:List Sta),(O:List Ord),(M:List Met),(X:List Out),(Q:List Per)⟩,⟨(n:Int),(k:ByteArray),(ns:List ByteArray),(vs:List Int),(tx:ByteArray)⟩,(s:ByteArray),_⟩:=xx
 refine(by kernel_rfl:(true=true)=_).mp ?_
 rfl
abbrev K62:=K63.add Ksw
def abO (O:List Ord) (ns:List ByteArray) (s:ByteArray):Bool:=Jad (X9 O (ns.getD 0 Ja)) s
def K91:Con:={args:=[Jb7,aEv,aS],ress:=[Bo],owns:=[],pre:=fun(r,e,_)=>[Jn r,1≤e.2.2.1.length,0≤Kx r.2.2.2.1 (e.2.2.1.getD 0 Ja)],spec:=fun((tk,st,S,O,M,X,Q),(n,k,ns,vs,tx),s,_)=>(abO O ns s,())}
theorem Ksq:Ok Tryz.prog 156 K91:=okW K62 Tryz.f156 na fun xx=>by
 obtain⟨⟨(tk:Int),(st:Int),(S:List Sta),(O:List Ord),(M:List Met),(X:List Out),(Q:List Per)⟩,⟨(n:Int),(k:ByteArray),(ns:List ByteArray),(vs:List Int),(tx:ByteArray)⟩,(s:ByteArray),_⟩:=xx
 refine(by kernel_rfl:(Jw tk st S O M X Q→Xc ns→Jup O ns→Kmw ns O∧Jad (Kko O ns) s=abO O ns s)=_).mp ?_
 delta Z64 Z74 Yf U2 Da Xc Jw J9h Jr9 Kc1 J9d Kcy Jup Kmw Kko Bd T2 Ln B0 E2
 intro hr h1 h2
 have nO:O.length≤32:=hr.nO
 repeat' first|assumption|exact rfl|trivial|omega|exact K4|exact U0|exact Up|exact Uz|apply And.intro|intro _
abbrev K61:=K62.add Ksq
def abX (X:List Out) (ns:List ByteArray) (s:ByteArray):Bool:=(Dd X (ns.getD 0 Ja)).2.1.toList==s.toList
def K9z:Con:={args:=[Jb7,aEv,aS],ress:=[Bo],owns:=[],pre:=fun(r,e,_)=>[Jn r,1≤e.2.2.1.length,0≤J7 r.2.2.2.2.2.1 (e.2.2.1.getD 0 Ja)],spec:=fun((tk,st,S,O,M,X,Q),(n,k,ns,vs,tx),s,_)=>(abX X ns s,())}
theorem Ksj:Ok Tryz.prog 163 K9z:=okW K61 Tryz.f163 na fun xx=>by
 obtain⟨⟨(tk:Int),(st:Int),(S:List Sta),(O:List Ord),(M:List Met),(X:List Out),(Q:List Per)⟩,⟨(n:Int),(k:ByteArray),(ns:List ByteArray),(vs:List Int),(tx:ByteArray)⟩,(s:ByteArray),_⟩:=xx
 refine(by kernel_rfl:(Jw tk st S O M X Q→Xc ns→J3j X ns→Kmv ns X∧Lb (Kc9 X ns).2.1 s=abX X ns s)=_).mp ?_
 delta Z58 Z74 Yf U2 Da Xc Jw Kc9 Jur J3j Kmv Bd T2 Ln B0 Lb
 intro hr h1 h2
 have nX:X.length≤16:=hr.nX
 repeat' first|assumption|exact rfl|trivial|omega|exact K4|exact U0|exact Up|exact Uz|apply And.intro|intro _
abbrev K60:=K61.add Ksj
def abP (X:List Out) (Q:List Per) (ns:List ByteArray) (s:ByteArray):Bool:=(Dd X (Jnw Q (ns.getD 0 Ja)).2.1).2.1.toList==s.toList
def K90:Con:={args:=[Jb7,aEv,aS],ress:=[Bo],owns:=[],pre:=fun(r,e,_)=>[Jn r,1≤e.2.2.1.length,0≤U1 r.2.2.2.2.2.2 (e.2.2.1.getD 0 Ja)],spec:=fun((tk,st,S,O,M,X,Q),(n,k,ns,vs,tx),s,_)=>(abP X Q ns s,())}
theorem J1q {Q:List Per} {s:ByteArray} (h:0≤U1 Q s):Jnw Q s∈Q:=by
 have:=Uz (l:=Q) (s:=s)
 exact Jd (by omega)
theorem Kse:Ok Tryz.prog 168 K90:=okW K60 Tryz.f168 na fun xx=>by
 obtain⟨⟨(tk:Int),(st:Int),(S:List Sta),(O:List Ord),(M:List Met),(X:List Out),(Q:List Per)⟩,⟨(n:Int),(k:ByteArray),(ns:List ByteArray),(vs:List Int),(tx:ByteArray)⟩,(s:ByteArray),_⟩:=xx
 refine(by kernel_rfl:(Jw tk st S O M X Q→Xc ns→J3i Q ns→T2 (Yf ns) (Z51 Q∧0≤Jt5 Q ns∧Z58 X∧0≤J7 X (Jnw Q (U2 ns)).2.1)∧Lb (Dd X (Jnw Q (U2 ns)).2.1).2.1 s=abP X Q ns s)=_).mp ?_
 delta Z51 Z58 Z74 Yf U2 Da Xc Jw Jt5 J3i Bd T2 Ln B0 Lb
 intro hr h1 h2
 have nX:X.length≤16:=hr.nX
 have nQ:Q.length≤16:=hr.nQ
 have h3:0≤J7 X (Jnw Q (ns.getD 0 Ja)).2.1:=hr.per _ (J1q h2)
 repeat' first|assumption|exact rfl|trivial|omega|exact K4|exact U0|exact Up|exact Uz|apply And.intro|intro _
abbrev Jsd:=K60.add Kse
def abS (r:Reg) (e:Ev) (s:ByteArray):Bool:=match(Ji e.2.1).2.2.2.2 with
 |some 150=>true
 |some 156=>abO r.2.2.2.1 e.2.2.1 s
 |some 163=>abX r.2.2.2.2.2.1 e.2.2.1 s
 |some 168=>abP r.2.2.2.2.2.1 r.2.2.2.2.2.2 e.2.2.1 s
 |_=>false
structure Jh3 (r:Reg) (e:Ev):Prop where
 kind:U8 e.2.1=true
 ord:(Ji e.2.1).2.2.2.2=some 156→1≤e.2.2.1.length∧0≤Kx r.2.2.2.1 (e.2.2.1.getD 0 Ja)
 out:(Ji e.2.1).2.2.2.2=some 163→1≤e.2.2.1.length∧0≤J7 r.2.2.2.2.2.1 (e.2.2.1.getD 0 Ja)
 per:(Ji e.2.1).2.2.2.2=some 168→1≤e.2.2.1.length∧0≤U1 r.2.2.2.2.2.2 (e.2.2.1.getD 0 Ja)
def Xr:Con:={args:=[aEv, .ref 105 Jle, .ref 9 .str],ress:=[Bo],owns:=[],pre:=fun(e,r,_)=>[Jn r,Jh3 r e],spec:=fun(e,r,s,_)=>(abS r e s,())}
def Z44:=false=true→False
theorem Juz (n:Int) (ns:List ByteArray) (vs:List Int) (tx:ByteArray) (tk st:Int) (S:List Sta) (O:List Ord) (M:List Met) (X:List Out) (Q:List Per) (s:ByteArray):wpF Tryz.prog Jsd.g (na ()) Tryz.f79 Xr ((n,Jy,ns,vs,tx),(tk,st,S,O,M,X,Q),s,()):=by
 refine(by kernel_rfl:(Jw tk st S O M X Q→Jh3 (Z74 tk st S O M X Q) (Z6 n ns vs tx)→Z44∧false=abS (Z74 tk st S O M X Q) (Z6 n ns vs tx) s)=_).mp ?_
 delta Z6 Z44 Z74 Jw Jy
 intro hr ha
 have e:abS (tk,st,S,O,M,X,Q) (n,Jy,ns,vs,tx) s=false:=by unfold abS;rw[show(Ji Jy).2.2.2.2=_ from congrArg (fun x=>x.2.2.2.2) Jcp];all_goals rfl
 rw[e]
 repeat' first|exact hr|exact h.1|exact h.2|exact rfl|apply And.intro|intro _
 all_goals first|trivial|assumption|contradiction
theorem Jli (n:Int) (ns:List ByteArray) (vs:List Int) (tx:ByteArray) (tk st:Int) (S:List Sta) (O:List Ord) (M:List Met) (X:List Out) (Q:List Per) (s:ByteArray):wpF Tryz.prog Jsd.g (na ()) Tryz.f79 Xr ((n,Jt,ns,vs,tx),(tk,st,S,O,M,X,Q),s,()):=by
 refine(by kernel_rfl:(Jw tk st S O M X Q→Jh3 (Z74 tk st S O M X Q) (Z32 n ns vs tx)→true=abS (Z74 tk st S O M X Q) (Z32 n ns vs tx) s)=_).mp ?_
 delta Z32 Z74 Jw Jt
 intro hr ha
 have e:abS (tk,st,S,O,M,X,Q) (n,Jt,ns,vs,tx) s=true:=by unfold abS;rw[show(Ji Jt).2.2.2.2=_ from congrArg (fun x=>x.2.2.2.2) Ub];all_goals rfl
 rw[e]
 repeat' first|exact hr|exact h.1|exact h.2|exact rfl|apply And.intro|intro _
 all_goals first|trivial|assumption|contradiction
theorem Jsf (n:Int) (ns:List ByteArray) (vs:List Int) (tx:ByteArray) (tk st:Int) (S:List Sta) (O:List Ord) (M:List Met) (X:List Out) (Q:List Per) (s:ByteArray):wpF Tryz.prog Jsd.g (na ()) Tryz.f79 Xr ((n,Uc,ns,vs,tx),(tk,st,S,O,M,X,Q),s,()):=by
 refine(by kernel_rfl:(Jw tk st S O M X Q→Jh3 (Z74 tk st S O M X Q) (Z8 n ns vs tx)→true=abS (Z74 tk st S O M X Q) (Z8 n ns vs tx) s)=_).mp ?_
 delta Z8 Z74 Jw Uc
 intro hr ha
 have e:abS (tk,st,S,O,M,X,Q) (n,Uc,ns,vs,tx) s=true:=by unfold abS;rw[show(Ji Uc).2.2.2.2=_ from congrArg (fun x=>x.2.2.2.2) Vg];all_goals rfl
 rw[e]
 repeat' first|exact hr|exact h.1|exact h.2|exact rfl|apply And.intro|intro _
 all_goals first|trivial|assumption|contradiction
def J0h (a:Ls):=true=true→Xc a
def Kbp (a b:Int) (c:List Sta) (d:List Ord) (e:List Met) (f:List Out) (g:List Per) (h:Ls):=(true=true→Jw a b c d e f g)∧J0h h∧(true=true→Jup d h)
theorem Jsg (n:Int) (ns:List ByteArray) (vs:List Int) (tx:ByteArray) (tk st:Int) (S:List Sta) (O:List Ord) (M:List Met) (X:List Out) (Q:List Per) (s:ByteArray):wpF Tryz.prog Jsd.g (na ()) Tryz.f79 Xr ((n,Kl,ns,vs,tx),(tk,st,S,O,M,X,Q),s,()):=by
 refine(by kernel_rfl:(Jw tk st S O M X Q→Jh3 (Z74 tk st S O M X Q) (Z9 n ns vs tx)→Kbp tk st S O M X Q ns∧(bif true then abO O ns s else false)=abS (Z74 tk st S O M X Q) (Z9 n ns vs tx) s)=_).mp ?_
 delta Z9 Z74 Da Xc Jw J0h Jup Kbp Kl
 intro hr ha
 have e:abS (tk,st,S,O,M,X,Q) (n,Kl,ns,vs,tx) s=abO O ns s:=by unfold abS;rw[show(Ji Kl).2.2.2.2=_ from congrArg (fun x=>x.2.2.2.2) Uw];all_goals rfl
 have h:=ha.ord (congrArg (fun x=>x.2.2.2.2) Uw)
 rw[e]
 repeat' first|exact hr|exact h.1|exact h.2|exact rfl|apply And.intro|intro _
 all_goals first|trivial|assumption|contradiction
theorem Jsh (n:Int) (ns:List ByteArray) (vs:List Int) (tx:ByteArray) (tk st:Int) (S:List Sta) (O:List Ord) (M:List Met) (X:List Out) (Q:List Per) (s:ByteArray):wpF Tryz.prog Jsd.g (na ()) Tryz.f79 Xr ((n,K5,ns,vs,tx),(tk,st,S,O,M,X,Q),s,()):=by
 refine(by kernel_rfl:(Jw tk st S O M X Q→Jh3 (Z74 tk st S O M X Q) (Z10 n ns vs tx)→Kbp tk st S O M X Q ns∧(bif true then abO O ns s else false)=abS (Z74 tk st S O M X Q) (Z10 n ns vs tx) s)=_).mp ?_
 delta Z10 Z74 Da Xc Jw J0h Jup Kbp K5
 intro hr ha
 have e:abS (tk,st,S,O,M,X,Q) (n,K5,ns,vs,tx) s=abO O ns s:=by unfold abS;rw[show(Ji K5).2.2.2.2=_ from congrArg (fun x=>x.2.2.2.2) Ux];all_goals rfl
 have h:=ha.ord (congrArg (fun x=>x.2.2.2.2) Ux)
 rw[e]
 repeat' first|exact hr|exact h.1|exact h.2|exact rfl|apply And.intro|intro _
 all_goals first|trivial|assumption|contradiction
theorem Ju0 (n:Int) (ns:List ByteArray) (vs:List Int) (tx:ByteArray) (tk st:Int) (S:List Sta) (O:List Ord) (M:List Met) (X:List Out) (Q:List Per) (s:ByteArray):wpF Tryz.prog Jsd.g (na ()) Tryz.f79 Xr ((n,Vq,ns,vs,tx),(tk,st,S,O,M,X,Q),s,()):=by
 refine(by kernel_rfl:(Jw tk st S O M X Q→Jh3 (Z74 tk st S O M X Q) (Z3 n ns vs tx)→Kbp tk st S O M X Q ns∧(bif true then abO O ns s else false)=abS (Z74 tk st S O M X Q) (Z3 n ns vs tx) s)=_).mp ?_
 delta Z3 Z74 Da Xc Jw J0h Jup Kbp Vq
 intro hr ha
 have e:abS (tk,st,S,O,M,X,Q) (n,Vq,ns,vs,tx) s=abO O ns s:=by unfold abS;rw[show(Ji Vq).2.2.2.2=_ from congrArg (fun x=>x.2.2.2.2) Vu];all_goals rfl
 have h:=ha.ord (congrArg (fun x=>x.2.2.2.2) Vu)
 rw[e]
 repeat' first|exact hr|exact h.1|exact h.2|exact rfl|apply And.intro|intro _
 all_goals first|trivial|assumption|contradiction
def Kk9 (a b:Int) (c:List Sta) (d:List Ord) (e:List Met) (f:List Out) (g:List Per) (h:Ls):=(true=true→Jw a b c d e f g)∧J0h h∧(true=true→J3j f h)
theorem Jn3 (n:Int) (ns:List ByteArray) (vs:List Int) (tx:ByteArray) (tk st:Int) (S:List Sta) (O:List Ord) (M:List Met) (X:List Out) (Q:List Per) (s:ByteArray):wpF Tryz.prog Jsd.g (na ()) Tryz.f79 Xr ((n,Ju,ns,vs,tx),(tk,st,S,O,M,X,Q),s,()):=by
 refine(by kernel_rfl:(Jw tk st S O M X Q→Jh3 (Z74 tk st S O M X Q) (Z16 n ns vs tx)→Kk9 tk st S O M X Q ns∧(bif true then abX X ns s else false)=abS (Z74 tk st S O M X Q) (Z16 n ns vs tx) s)=_).mp ?_
 delta Z16 Z74 Da Xc Jw J0h J3j Kk9 Ju
 intro hr ha
 have e:abS (tk,st,S,O,M,X,Q) (n,Ju,ns,vs,tx) s=abX X ns s:=by unfold abS;rw[show(Ji Ju).2.2.2.2=_ from congrArg (fun x=>x.2.2.2.2) Kw];all_goals rfl
 have h:=ha.out (congrArg (fun x=>x.2.2.2.2) Kw)
 rw[e]
 repeat' first|exact hr|exact h.1|exact h.2|exact rfl|apply And.intro|intro _
 all_goals first|trivial|assumption|contradiction
theorem Jlj (n:Int) (ns:List ByteArray) (vs:List Int) (tx:ByteArray) (tk st:Int) (S:List Sta) (O:List Ord) (M:List Met) (X:List Out) (Q:List Per) (s:ByteArray):wpF Tryz.prog Jsd.g (na ()) Tryz.f79 Xr ((n,Jr,ns,vs,tx),(tk,st,S,O,M,X,Q),s,()):=by
 refine(by kernel_rfl:(Jw tk st S O M X Q→Jh3 (Z74 tk st S O M X Q) (Z29 n ns vs tx)→Kk9 tk st S O M X Q ns∧(bif true then abX X ns s else false)=abS (Z74 tk st S O M X Q) (Z29 n ns vs tx) s)=_).mp ?_
 delta Z29 Z74 Da Xc Jw J0h J3j Kk9 Jr
 intro hr ha
 have e:abS (tk,st,S,O,M,X,Q) (n,Jr,ns,vs,tx) s=abX X ns s:=by unfold abS;rw[show(Ji Jr).2.2.2.2=_ from congrArg (fun x=>x.2.2.2.2) Kk];all_goals rfl
 have h:=ha.out (congrArg (fun x=>x.2.2.2.2) Kk)
 rw[e]
 repeat' first|exact hr|exact h.1|exact h.2|exact rfl|apply And.intro|intro _
 all_goals first|trivial|assumption|contradiction
def Kla (a b:Int) (c:List Sta) (d:List Ord) (e:List Met) (f:List Out) (g:List Per) (h:Ls):=(true=true→Jw a b c d e f g)∧J0h h∧(true=true→J3i g h)
theorem Jn2 (n:Int) (ns:List ByteArray) (vs:List Int) (tx:ByteArray) (tk st:Int) (S:List Sta) (O:List Ord) (M:List Met) (X:List Out) (Q:List Per) (s:ByteArray):wpF Tryz.prog Jsd.g (na ()) Tryz.f79 Xr ((n,Kf,ns,vs,tx),(tk,st,S,O,M,X,Q),s,()):=by
 refine(by kernel_rfl:(Jw tk st S O M X Q→Jh3 (Z74 tk st S O M X Q) (Z24 n ns vs tx)→Kla tk st S O M X Q ns∧(bif true then abP X Q ns s else false)=abS (Z74 tk st S O M X Q) (Z24 n ns vs tx) s)=_).mp ?_
 delta Z24 Z74 Da Xc Jw J0h J3i Kla Kf
 intro hr ha
 have e:abS (tk,st,S,O,M,X,Q) (n,Kf,ns,vs,tx) s=abP X Q ns s:=by unfold abS;rw[show(Ji Kf).2.2.2.2=_ from congrArg (fun x=>x.2.2.2.2) K8];all_goals rfl
 have h:=ha.per (congrArg (fun x=>x.2.2.2.2) K8)
 rw[e]
 repeat' first|exact hr|exact h.1|exact h.2|exact rfl|apply And.intro|intro _
 all_goals first|trivial|assumption|contradiction
theorem Jn1 (n:Int) (ns:List ByteArray) (vs:List Int) (tx:ByteArray) (tk st:Int) (S:List Sta) (O:List Ord) (M:List Met) (X:List Out) (Q:List Per) (s:ByteArray):wpF Tryz.prog Jsd.g (na ()) Tryz.f79 Xr ((n,Ke,ns,vs,tx),(tk,st,S,O,M,X,Q),s,()):=by
 refine(by kernel_rfl:(Jw tk st S O M X Q→Jh3 (Z74 tk st S O M X Q) (Z26 n ns vs tx)→Kla tk st S O M X Q ns∧(bif true then abP X Q ns s else false)=abS (Z74 tk st S O M X Q) (Z26 n ns vs tx) s)=_).mp ?_
 delta Z26 Z74 Da Xc Jw J0h J3i Kla Ke
 intro hr ha
 have e:abS (tk,st,S,O,M,X,Q) (n,Ke,ns,vs,tx) s=abP X Q ns s:=by unfold abS;rw[show(Ji Ke).2.2.2.2=_ from congrArg (fun x=>x.2.2.2.2) K7];all_goals rfl
 have h:=ha.per (congrArg (fun x=>x.2.2.2.2) K7)
 rw[e]
 repeat' first|exact hr|exact h.1|exact h.2|exact rfl|apply And.intro|intro _
 all_goals first|trivial|assumption|contradiction
theorem Jn0 (n:Int) (ns:List ByteArray) (vs:List Int) (tx:ByteArray) (tk st:Int) (S:List Sta) (O:List Ord) (M:List Met) (X:List Out) (Q:List Per) (s:ByteArray):wpF Tryz.prog Jsd.g (na ()) Tryz.f79 Xr ((n,Jh,ns,vs,tx),(tk,st,S,O,M,X,Q),s,()):=by
 refine(by kernel_rfl:(Jw tk st S O M X Q→Jh3 (Z74 tk st S O M X Q) (Z23 n ns vs tx)→Z44∧false=abS (Z74 tk st S O M X Q) (Z23 n ns vs tx) s)=_).mp ?_
 delta Z23 Z44 Z74 Jw Jh
 intro hr ha
 have e:abS (tk,st,S,O,M,X,Q) (n,Jh,ns,vs,tx) s=false:=by unfold abS;rw[show(Ji Jh).2.2.2.2=_ from congrArg (fun x=>x.2.2.2.2) Uv];all_goals rfl
 rw[e]
 repeat' first|exact hr|exact h.1|exact h.2|exact rfl|apply And.intro|intro _
 all_goals first|trivial|assumption|contradiction
theorem J51 [Sx.Dr] {Γ:Gam} {ann:Nat→Option Ann} {fn:Func} {c:Con} {x:ATup c.args} (hb:fn.body.isSome=true) (h:Uk (c.pre x)→wpF Tryz.prog Γ ann fn c x):wpF Tryz.prog Γ ann fn c x:=by
 unfold wpF at h⊢
 cases hc:fn.body with
 |none=>rw[hc] at hb;cases hb
 |some code=>
  rw[hc] at h
  exact Jbq h
theorem K7o:∀x:ATup [aEv, .ref 105 Jle, .ref 9 .str],wpF Tryz.prog Jsd.g (na ()) Tryz.f79 Xr x
 |((n,k,ns,vs,tx),(tk,st,S,O,M,X,Q),s,())=>by
  refine J51 (by kernel_rfl) fun hp=> ?_
  have ha:Jh3 (tk,st,S,O,M,X,Q) (n,k,ns,vs,tx):=hp.2
  rcases Ut ha.kind with h|h|h|h|h|h|h|h|h|h|h<;>dsimp only at h<;>subst h
  ·exact Juz n ns vs tx tk st S O M X Q s
  ·exact Jli n ns vs tx tk st S O M X Q s
  ·exact Jsf n ns vs tx tk st S O M X Q s
  ·exact Jsg n ns vs tx tk st S O M X Q s
  ·exact Jsh n ns vs tx tk st S O M X Q s
  ·exact Ju0 n ns vs tx tk st S O M X Q s
  ·exact Jn3 n ns vs tx tk st S O M X Q s
  ·exact Jlj n ns vs tx tk st S O M X Q s
  ·exact Jn2 n ns vs tx tk st S O M X Q s
  ·exact Jn1 n ns vs tx tk st S O M X Q s
  ·exact Jn0 n ns vs tx tk st S O M X Q s
theorem K79:Ok Tryz.prog 79 Xr:=Vx mixed Jsd.ok (by kernel_rfl) (by kernel_rfl) na fun xx=>K7o xx
abbrev Uap:=Jsd.add K79
theorem Jbr {α:Type} {p:α→Bool} {y:α} (h:p y=true):∀{l:List α} {k:Nat},0≤Vp p (l++[y]) k
 |[],k=>by
  show 0≤Vp p [y] k
  unfold Vp;rw[if_pos h];omega
 |x::l,k=>by
  show 0≤Vp p (x::(l++[y])) k
  unfold Vp
  split
  ·omega
  ·exact Jbr h
structure Kjw (r r':Reg):Prop where
 o:∀s,0≤Kx r.2.2.2.1 s→0≤Kx r'.2.2.2.1 s
 x:∀s,0≤J7 r.2.2.2.2.2.1 s→0≤J7 r'.2.2.2.2.2.1 s
 q:∀s,0≤U1 r.2.2.2.2.2.2 s→0≤U1 r'.2.2.2.2.2.2 s
theorem Jxj {O:List Ord} {y:Ord} {s:ByteArray} (h:0≤Kx O s):0≤Kx (O++[y]) s:=by unfold Kx at h⊢;rw[Yv h];exact h
theorem Jxh {O:List Out} {y:Out} {s:ByteArray} (h:0≤J7 O s):0≤J7 (O++[y]) s:=by unfold J7 at h⊢;rw[Yv h];exact h
theorem Jxi {O:List Per} {y:Per} {s:ByteArray} (h:0≤U1 O s):0≤U1 (O++[y]) s:=by unfold U1 at h⊢;rw[Yv h];exact h
theorem Jcw {O:List Ord} {a s:ByteArray} {v:Int}:Kx (Jam O a v) s=Kx O s:=by
 unfold Kx Jam
 exact Fa fun x hx=>by
  have e:X9 O a=x:=Jge hx
  rw[e]
theorem Jkt {O:List Out} {a s:ByteArray} {v:Int}:J7 (Je7 O a v) s=J7 O s:=by
 unfold J7 Je7
 exact Fa fun x hx=>by
  have e:Dd O a=x:=Jge hx
  rw[e]
theorem Jcv {O:List Per} {a s:ByteArray}:U1 (Jan O a) s=U1 O s:=by
 unfold U1 Jan
 exact Fa fun x hx=>by
  have e:Jnw O a=x:=Jge hx
  rw[e]
theorem Jst (r:Reg) (e:Ev):Kjw r (Jq r e):=by
 obtain⟨tk,st,S,O,M,X,Q⟩:=r
 obtain⟨n,k,ns,vs,tx⟩:=e
 unfold Jq doS
 split
 all_goals refine⟨fun s h=> ?_,fun s h=> ?_,fun s h=> ?_⟩
 all_goals first|exact h|(show 0≤Kx (Jam _ _ _) _;rw[Jcw];exact h)|(show 0≤J7 (Je7 _ _ _) _;rw[Jkt];exact h)|(show 0≤U1 (Jan _ _) _;rw[Jcv];exact h)|exact Jxj h|exact Jxh h|exact Jxi h|exact Jcw (O:=O)▸h|exact Jkt (O:=X)▸h|exact Jcv (O:=Q)▸h
theorem Jh3.mono {r r':Reg} {e:Ev} (h:Jh3 r e) (hn:Kjw r r'):Jh3 r' e:=
 ⟨h.kind,fun q=>⟨(h.ord q).1,hn.o _ (h.ord q).2⟩,fun q=>⟨(h.out q).1,hn.x _ (h.out q).2⟩,fun q=>⟨(h.per q).1,hn.q _ (h.per q).2⟩⟩
theorem Je9 (s:ByteArray):(s.toList==s.toList)=true:=beq_self_eq_true _
theorem J57 {h:Ka} {e:Ev} (hc:Jb e=0) (ha:L3 h e=0) (hk:(e.2.1.toList==Jy.toList)=false):Jh3 (Jq (Kh h.2.2) e) e:=by
 obtain⟨n,k,ns,vs,tx⟩:=e
 have hE:=J6 hc
 rw[Xa hk] at ha
 obtain⟨z1,z2,z3,z4,z5⟩:=Jb3 ha
 generalize Kh h.2.2=r at*
 obtain⟨tk,st,S,O,M,X,Q⟩:=r
 have hn:=hE.nn
 clear ha z4 z5
 have hkd:=Ut hE.kind
 dsimp only at hn hkd hk z3
 rcases hkd with h|h|h|h|h|h|h|h|h|h|h<;>subst h
 ·exact⟨hE.kind,fun q=>absurd q (by rw[Jcp];decide),fun q=>absurd q (by rw[Jcp];decide),fun q=>absurd q (by rw[Jcp];decide)⟩
 ·exact⟨hE.kind,fun q=>absurd q (by rw[Ub];decide),fun q=>absurd q (by rw[Ub];decide),fun q=>absurd q (by rw[Ub];decide)⟩
 ·exact⟨hE.kind,fun q=>absurd q (by rw[Vg];decide),fun q=>absurd q (by rw[Vg];decide),fun q=>absurd q (by rw[Vg];decide)⟩
 ·simp only[Uw,List.length_cons,List.length_nil] at hn z3
  refine⟨hE.kind,fun _=>⟨by dsimp only;omega, ?_⟩,fun q=>absurd q (by rw[Uw];decide),fun q=>absurd q (by rw[Uw];decide)⟩
  unfold Jq doS
  simp only[Uw]
  exact Jbr (p:=fun x:Ord=>x.1.toList==(ns.getD 0 Ja).toList) (l:=O) (Je9 _)
 ·simp only[Ux,List.length_cons,List.length_nil] at hn z3
  refine⟨hE.kind,fun _=>⟨by dsimp only;omega, ?_⟩,fun q=>absurd q (by rw[Ux];decide),fun q=>absurd q (by rw[Ux];decide)⟩
  unfold Jq doS
  simp only[Ux]
  exact J4y ((Jm z3).1 rfl)
 ·simp only[Vu,List.length_cons,List.length_nil] at hn z3
  refine⟨hE.kind,fun _=>⟨by dsimp only;omega, ?_⟩,fun q=>absurd q (by rw[Vu];decide),fun q=>absurd q (by rw[Vu];decide)⟩
  unfold Jq doS
  simp only[Vu]
  exact by show 0≤Kx (Jam _ _ _) _;rw[Jcw];exact J4y ((Jm z3).1 rfl)
 ·simp only[Kw,List.length_cons,List.length_nil] at hn z3
  refine⟨hE.kind,fun q=>absurd q (by rw[Kw];decide),fun _=>⟨by dsimp only;omega, ?_⟩,fun q=>absurd q (by rw[Kw];decide)⟩
  unfold Jq doS
  simp only[Kw]
  exact Jbr (p:=fun x:Out=>x.1.toList==(ns.getD 0 Ja).toList) (l:=X) (Je9 _)
 ·simp only[Kk,List.length_cons,List.length_nil] at hn z3
  refine⟨hE.kind,fun q=>absurd q (by rw[Kk];decide),fun _=>⟨by dsimp only;omega, ?_⟩,fun q=>absurd q (by rw[Kk];decide)⟩
  unfold Jq doS
  simp only[Kk]
  exact by show 0≤J7 (Je7 _ _ _) _;rw[Jkt];exact J4x ((Jm z3).1 rfl)
 ·simp only[K8,List.length_cons,List.length_nil] at hn z3
  refine⟨hE.kind,fun q=>absurd q (by rw[K8];decide),fun q=>absurd q (by rw[K8];decide),fun _=>⟨by dsimp only;omega, ?_⟩⟩
  unfold Jq doS
  simp only[K8]
  exact Jbr (p:=fun x:Per=>x.1.toList==(ns.getD 0 Ja).toList) (l:=Q) (Je9 _)
 ·simp only[K7,List.length_cons,List.length_nil] at hn z3
  refine⟨hE.kind,fun q=>absurd q (by rw[K7];decide),fun q=>absurd q (by rw[K7];decide),fun _=>⟨by dsimp only;omega, ?_⟩⟩
  unfold Jq doS
  simp only[K7]
  exact by show 0≤U1 (Jan _ _) _;rw[Jcv];exact Kj4 ((Jm z3).1 rfl)
 ·exact⟨hE.kind,fun q=>absurd q (by rw[Uv];decide),fun q=>absurd q (by rw[Uv];decide),fun q=>absurd q (by rw[Uv];decide)⟩
def Jnt (h:Ka):Prop:=∀j k,j<h.2.1.length→j≤k→k<h.2.2.length→Jh3 (h.2.2.getD k U3) (h.2.1.getD j ev0)
theorem Jgd {α:Type} {l:List α} {m k:Nat} {d:α} (h:k<m):(l.take m).getD k d=l.getD k d:=by
 rw[List.getD_eq_getElem?_getD,List.getD_eq_getElem?_getD,List.getElem?_take_of_lt h]
theorem Jeh {α:Type} {l m:List α} {k:Nat} {d:α} (h:k<l.length):(l++m).getD k d=l.getD k d:=by
 rw[List.getD_eq_getElem?_getD,List.getD_eq_getElem?_getD,List.getElem?_append_left h]
theorem Jm4 {α:Type} {l:List α} {y d:α}:(l++[y]).getD l.length d=y:=by
 rw[List.getD_eq_getElem?_getD,List.getElem?_append_right (Nat.le_refl _),Nat.sub_self];rfl
theorem Kvg {h:Ka} {e:Ev} (hi:Yc h) (hA:Jnt h) (ha:K9 h e=0):Jnt (Ho h e):=by
 obtain⟨hc,hacc⟩:=add_zero ha
 have n3:=hi.ok.nG
 have hlast:∀e'∈[e],(e.2.1.toList==Jy.toList)=false→Jh3 (Jq (Kh h.2.2) e) e:=fun _ _ hk=>J57 hc hacc hk
 obtain⟨E,C,G⟩:=h
 dsimp only at n3
 cases hk:e.2.1.toList==Jy.toList with
 |true=>
  unfold Ho
  rw[hk,cond_true]
  intro j k h1 h2 h3
  simp only[List.length_take] at h1 h3
  dsimp only
  rw[Jgd (by omega),Jgd (by omega)]
  exact hA j k (by dsimp only;omega) h2 (by dsimp only;omega)
 | false =>
  unfold Ho
  rw[hk,cond_false]
  intro j k h1 h2 h3
  simp only[List.length_append,List.length_singleton] at h1 h3
  dsimp only
  by_cases hkn:k<G.length
  ·rw[Jeh hkn,Jeh (by omega)]
   exact hA j k (by dsimp only;omega) h2 (by dsimp only;omega)
  ·have ek:k=G.length:=by omega
   rw[ek,Jm4]
   by_cases hj:j<C.length
   ·rw[Jeh hj]
    have:=hA j (G.length-1) hj (by omega) (by dsimp only;omega)
    exact this.mono (Jst (Kh G) e)
   ·have ej:j=C.length:=by omega
    rw[ej,Jm4]
    exact hlast e (List.mem_singleton.2 rfl) hk
theorem J4k:∀{l:List Ev} {h:Ka},Yc h→Jnt h→h.1.length+l.length≤1000→Jnt (Xt h l).1
 |[],_,_,hA,_=>hA
 | e :: l, h, hi, hA, hl => by
  unfold Xt
  simp only[List.length_cons] at hl
  by_cases ha:K9 h e=0
  ·rw[if_pos ha]
   exact J4k (Jdt hi (by omega) ha) (Kvg hi hA ha) (by rw[Hn];omega)
  ·rw[if_neg ha];exact hA
theorem Jw9:Jnt Xd:=fun j k h1 _ _=>by cases h1
theorem J1m {l:List Ev}:Jnt (Je l).1:=by
 unfold Je
 by_cases h:1000<l.length
 ·rw[if_pos h];exact Jw9
 ·rw[if_neg h];exact J4k Ze Jw9 (by show 0+l.length≤1000;omega)
theorem Kd5 {h:Ka} (hi:Yc h) (hA:Jnt h) {e:Ev} (he:e∈h.2.1):Jh3 (Kh h.2.2) e:=by
 obtain⟨j,hj,rfl⟩:=List.mem_iff_getElem.1 he
 have n3:=hi.ok.nG
 have:=hA j (h.2.2.length-1) hj (by omega) (by omega)
 rw[List.getD_eq_getElem?_getD (l:=h.2.1),List.getElem?_eq_getElem hj] at this
 exact this
def Vi (xs:List ByteArray) (sep:ByteArray):ByteArray:=⟨(Lib.join (xs.map (·.data.toList)) sep.data.toList).toArray⟩
def Kur:Con:={args:=[.val false (.list 9 .str),aS],ress:=[tS],owns:=[],pre:=fun(xs,sep,_)=>[xs.length≤1000000,(Lib.join (xs.map (·.data.toList)) sep.data.toList).length≤140737488355328],spec:=fun(xs,sep,_)=>(Vi xs sep,())}
def Ku (n:Int):ByteArray:=⟨(Lib.itoa n).toArray⟩
def Kus:Con:={args:=[aI],ress:=[tS],owns:=[],pre:=fun(n,_)=>[-9223372036854775808≤n∧n≤9223372036854775807],spec:=fun(n,_)=>(Ku n,())}
theorem J2x (w:World) (q:Nat) (os:Array Obj):RowKit.Below w.heap.size w (Sort.grow (w.drewN q) os):=
 ⟨rfl,rfl,rfl,by first|(simp[Sort.grow];done)|(simp[Sort.grow];omega),fun i hi=>by
  show((w.drewN q).heap++os)[i]? =_
  rw[Array.getElem?_append_left (by show i<w.heap.size;omega)]
  rfl⟩
theorem Ktl:Ok Tryz.prog 122 Kus:=by
 refine⟨⟨Tryz.f122,by kernel_rfl,by kernel_rfl,by kernel_rfl⟩,fun z hz=>(by cases hz),fun F hF=>(by cases hF),fun _ x M R w vs hM hg hpre hargs=> ?_⟩
 obtain⟨n,u⟩:=x
 obtain⟨v,vs',rfl,ha,hr⟩:=hargs
 have hr:vs'=[]:=hr
 subst hr
 obtain⟨cs,rfl,hc⟩:=ha
 have hc:cs=[.int .i64 n]:=hc
 subst hc
 have hpre: -9223372036854775808≤n∧n≤9223372036854775807:=hpre
 refine(Tryz.strconv_Itoa n hpre.1 hpre.2 w (hg w (Sx.Below.refl _ _)).1).mono ?_
 rintro e w' ⟨rfl,k,os,rfl⟩
 exact⟨M,[.string (Ku n)],rfl, .ofK (J2x w k os),fun _ h=>h,fun b h=> .inl h,_,[],rfl,⟨_,rfl,rfl⟩,rfl⟩
theorem Ktk:Ok Tryz.prog 123 Kur:=by
 refine⟨⟨Tryz.f123,by kernel_rfl,by kernel_rfl,by kernel_rfl⟩,fun z hz=>(by cases hz),fun F hF=>(by cases hF),fun _ x M R w vs hM hg hpre hargs=> ?_⟩
 obtain⟨xs,sep,u⟩:=x
 obtain⟨v,vs',rfl,ha,v2,vs2,rfl,hb,hr⟩:=hargs
 have hr:vs2=[]:=hr
 subst hr
 obtain⟨cs,rfl,hc⟩:=ha
 obtain⟨cs2,rfl,hc2⟩:=hb
 have hc2:cs2=[.string sep]:=hc2
 subst hc2
 obtain⟨v,flat,rfl,f1,f2⟩:=hc
 obtain⟨p1,p2⟩:=hpre
 have hflat:=Jfe f1
 have fin:∀(e:Ending) (w':World),e= .returned (.string (Vi xs sep))→RowKit.Below w.heap.size w w'→Jpy M w [tS] [] (Vi xs sep,()) e w':=fun e w' he hb=>
  ⟨M,[.string (Vi xs sep)],he, .ofK hb,fun _ h=>h,fun b h=> .inl h,_,[],rfl,⟨_,rfl,rfl⟩,rfl⟩
 rcases f2 with⟨rfl|⟨ad,cap,rfl⟩,h0⟩|⟨b,off,cap,rfl,hcap,hk,hm⟩
 ·have:xs=[]:=List.eq_nil_of_length_eq_zero h0
  subst this
  refine(Tryz.strings_Join_none none 0 sep w).mono ?_
  rintro e w' ⟨rfl,rfl⟩
  exact fin _ _ rfl (RowKit.Below.refl _ _)
 ·have:xs=[]:=List.eq_nil_of_length_eq_zero h0
  subst this
  refine(Tryz.strings_Join_none (some ad) cap sep w).mono ?_
  rintro e w' ⟨rfl,rfl⟩
  exact fin _ _ rfl (RowKit.Below.refl _ _)
 ·cases hx:xs with
  |nil=>
   subst hx
   refine(Tryz.strings_Join_none (some ⟨b,off,none⟩) cap sep w).mono ?_
   rintro e w' ⟨rfl,rfl⟩
   exact fin _ _ rfl (RowKit.Below.refl _ _)
  |cons x0 r=>
   rw[←hx]
   have hne:flat≠[]:=by rw[hflat,hx];simp
   refine(Tryz.strings_Join b off cap xs sep w (fun j x hj=>hk j _ (by rw[hflat,List.getElem?_map,hj];rfl)) (hM b (.inl (hm hne))) (by omega) hcap p2).mono ?_
   rintro e w' ⟨rfl,hb⟩
   exact fin _ _ rfl hb
abbrev Uao:=Uap.add Ktk
abbrev Uan:=Uao.add Ktl
def Y4 (s p:ByteArray):List ByteArray:=Lib.splitB p 0 (Lib.countB s p) s
def Jrl:Con:={args:=[aS,aS],ress:=[(false, .list 9 .str)],owns:=[true],pre:=fun(s,p,_)=>[s.size≤1000000,1≤p.size],spec:=fun(s,p,_)=>(Y4 s p,())}
theorem Jij {M:Nat→Prop} {w:World}:∀{xs:List ByteArray},Yx (Rep M w .str) xs (xs.map Value.string)
 |[]=>rfl
 |x::xs=>⟨[.string x],xs.map Value.string,rfl,rfl,Jij⟩
theorem K8m:Ok Tryz.prog 61 Jrl:=by
 refine⟨⟨Tryz.f61,by kernel_rfl,by kernel_rfl,by kernel_rfl⟩,fun z hz=>(by cases hz),fun F hF=>(by cases hF),fun _ x M R w vs hM hg hpre hargs=> ?_⟩
 obtain⟨s,p,u⟩:=x
 obtain⟨v1,vs1,rfl,ha1,v2,vs2,rfl,ha2,hr⟩:=hargs
 have hr:vs2=[]:=hr
 subst hr
 obtain⟨cs1,rfl,hc1⟩:=ha1
 obtain⟨cs2,rfl,hc2⟩:=ha2
 have hc1:cs1=[.string s]:=hc1
 have hc2:cs2=[.string p]:=hc2
 subst hc1;subst hc2
 have hpre:s.size≤1000000∧1≤p.size:=hpre
 refine(Tryz.strings_Split_shaped s p w ((hg w (.refl _ _)).2 rfl).1 (by omega) hpre.2).mono ?_
 rintro e w' ⟨rfl,rfl⟩
 have hlen:(Y4 s p).length=Lib.countB s p+1:=Lib.splitB_all p hpre.2 0 _ s rfl
 have hle:=Lib.countB_le p hpre.2 s.size s (Nat.le_refl _)
 refine⟨M,[_],rfl, .ofK ⟨rfl,rfl,rfl,by show w.heap.size≤(w.heap.push _).size;simp,fun i hi=> ?_⟩,fun _ h=>h,fun b h=> .inl h,_,[],rfl,⟨(Y4 s p).map Value.string,Jij,⟨by simp[Sch.size,Jrl], .inr ⟨w.heap.size,Lib.countB s p+1,_,by rw[show(Jrl.spec (s,p,u)).1=Y4 s p from rfl,hlen],Nat.le_refl _,heap_alloc_new w _,by rw[show(Jrl.spec (s,p,u)).1=Y4 s p from rfl,hlen];exact Nat.le_refl _, ?_, ?_, ?_⟩⟩, ?_⟩,rfl⟩
 ·show(w.heap.push _)[i]? =_
  rw[Array.getElem?_push]
  split
  ·omega
  ·rfl
 ·show _≤9223372036854775807
  have:s.size≤1000000:=hpre.1
  omega
 ·show(List.map Value.string (Y4 s p)).toArray.size=_
  simp[Sch.size,hlen]
 ·show(List.map Value.string (Y4 s p)).take ((Y4 s p).length*1)=_
  rw[List.take_of_length_le (by simp)]
 ·intro g hgb hM'
  have:w.heap.size=g:=Option.some.inj hgb
  have:=hM g (.inl hM')
  omega
abbrev Uam:=Uan.add K8m
def Kuz:Con:={args:=[],ress:=[],owns:=[],pre:=fun _=>[False],spec:=fun _=>(),prim:=some Ku6}
theorem J7c (s:ByteArray) (w:World) (hs:s.size≤1000000) (hg:Sx.Good Tryz.prog w):Calls Tryz.prog 260 #[.string s] w fun e w'=>∃u,e= .returned (.tuple #[.int .i64 (Juk s),u])∧Jld (Jyu s) u∧Sx.Below w.heap.size w w':=by
 have hw:=(hg w (.refl _ _)).2 rfl
 cases h:Lib.atoiAll s.data.toList
 ·rename_i v
  have e1:Juk s=v:=by unfold Juk;rw[h]
  have e2:Jyu s=false:=by unfold Jyu;rw[h]
  rw[e1,e2]
  refine Calls.mono (Any.strconv_Atoi_ok Tryz.laysAtoi s (by omega) v h w) ?_
  rintro e w' ⟨rfl,rfl|⟨t,rfl⟩⟩
  ·exact⟨_,rfl,rfl, .refl _ _⟩
  ·exact⟨_,rfl,rfl, .ofK (Lib.bytesWorld_below w _ t)⟩
 ·have e1:Juk s=0:=by unfold Juk;rw[h]
  have e2:Jyu s=true:=by unfold Jyu;rw[h]
  rw[e1,e2]
  obtain⟨tp,pe,hv⟩:=hw.2.1
  refine Calls.mono (Any.strconv_Atoi_syntax_var Tryz.laysAtoi s (by omega) h tp pe w hv) ?_
  rintro e w' ⟨N,rfl,_,_,hb⟩
  exact⟨_,rfl,⟨_,_,rfl⟩, .ofK hb⟩
 ·have e1:Juk s=Lib.atoiSat s.data.toList:=by unfold Juk;rw[h]
  have e2:Jyu s=true:=by unfold Jyu;rw[h]
  rw[e1,e2]
  obtain⟨tp,pe,hv⟩:=hw.2.2
  refine Calls.mono (Any.strconv_Atoi_range_var Tryz.laysAtoi s (by omega) h tp pe w hv) ?_
  rintro e w' ⟨N,rfl,_,_,hb⟩
  exact⟨_,rfl,⟨_,_,rfl⟩, .ofK hb⟩
theorem Kqv:Ok Tryz.prog 260 Kuz:=⟨⟨Tryz.f260,by kernel_rfl,by kernel_rfl,by kernel_rfl⟩,fun z hz=>(by cases hz),fun F hF=>(by cases hF;exact J75 fun s w hs hg=>J7c s w hs hg),fun _ x M R w vs _ _ hpre _=>False.elim hpre⟩
abbrev Ual:=Uam.add Kqv
def Jz9 (s p:ByteArray):ByteArray×ByteArray×Bool:=(⟨(Lib.cut s.data.toList p.data.toList).1.toArray⟩,⟨(Lib.cut s.data.toList p.data.toList).2.1.toArray⟩,(Lib.cut s.data.toList p.data.toList).2.2)
def K9t:Con:={args:=[aS,aS],ress:=[tS,tS,Bo],owns:=[],pre:=fun(s,_)=>[s.size≤1000000],spec:=fun(s,p,_)=>((Jz9 s p).1,(Jz9 s p).2.1,(Jz9 s p).2.2,())}
theorem J2y (w:World) (q:Nat):RowKit.Below w.heap.size w (w.drewN q):=⟨rfl,rfl,rfl,Nat.le_refl _,fun i _=>rfl⟩
theorem Ktt:Ok Tryz.prog 107 K9t:=by
 refine⟨⟨Tryz.f107,by kernel_rfl,by kernel_rfl,by kernel_rfl⟩,fun z hz=>(by cases hz),fun F hF=>(by cases hF),fun _ x M R w vs hM hg hpre hargs=> ?_⟩
 obtain⟨s,p,u⟩:=x
 obtain⟨v1,vs1,rfl,ha1,v2,vs2,rfl,ha2,hr⟩:=hargs
 have hr:vs2=[]:=hr
 subst hr
 obtain⟨cs1,rfl,hc1⟩:=ha1
 obtain⟨cs2,rfl,hc2⟩:=ha2
 have hc1:cs1=[.string s]:=hc1
 have hc2:cs2=[.string p]:=hc2
 subst hc1;subst hc2
 have hpre:s.size≤1000000:=hpre
 refine(Tryz.strings_Cut_shaped s p w ((hg w (.refl _ _)).2 rfl).1 (by omega)).mono ?_
 rintro e w' ⟨rfl,n,rfl⟩
 exact⟨M,[.string (Jz9 s p).1, .string (Jz9 s p).2.1, .bool (Jz9 s p).2.2],rfl, .ofK (J2y w n),fun _ h=>h,fun b h=> .inl h,_,_,rfl,⟨_,rfl,rfl⟩,_,_,rfl,⟨_,rfl,rfl⟩,_,[],rfl,⟨_,rfl,rfl⟩,rfl⟩
abbrev Uak:=Ual.add Ktt
def Kdp (s:ByteArray) (n:Int):ByteArray:=⟨(Lib.repeatL s.data.toList n.toNat).toArray⟩
def K9f:Con:={args:=[aS,aI],ress:=[tS],owns:=[],pre:=fun(s,n,_)=>[s.size≤1000000,0≤n∧n≤1000000],spec:=fun(s,n,_)=>(Kdp s n,())}
theorem Kqw:Ok Tryz.prog 258 K9f:=by
 refine⟨⟨Tryz.f258,by kernel_rfl,by kernel_rfl,by kernel_rfl⟩,fun z hz=>(by cases hz),fun F hF=>(by cases hF),fun _ x M R w vs hM hg hpre hargs=> ?_⟩
 obtain⟨s,n,u⟩:=x
 obtain⟨v1,vs1,rfl,ha1,v2,vs2,rfl,ha2,hr⟩:=hargs
 have hr:vs2=[]:=hr
 subst hr
 obtain⟨cs1,rfl,hc1⟩:=ha1
 obtain⟨cs2,rfl,hc2⟩:=ha2
 have hc1:cs1=[.string s]:=hc1
 have hc2:cs2=[.int .i64 n]:=hc2
 subst hc1;subst hc2
 obtain⟨p1,p2,p3⟩:=hpre
 have p1:s.size≤1000000:=p1
 have p2:0≤n:=p2
 have p3:n≤1000000:=p3
 obtain⟨c,rfl⟩:=Int.eq_ofNat_of_zero_le p2
 have p3:(c:Int)≤1000000:=p3
 have hm:s.size*c≤1000000*1000000:=Nat.mul_le_mul p1 (by omega)
 refine(Tryz.strings_Repeat s c w (by omega) (by omega)).mono ?_
 rintro e w' ⟨rfl,hb⟩
 exact⟨M,[.string (Kdp s c)],rfl, .ofK hb,fun _ h=>h,fun b h=> .inl h,_,[],rfl,⟨_,rfl,rfl⟩,rfl⟩
abbrev Uaj:=Uak.add Kqw
abbrev tI:Bool×Sch:=(false, .int .i64)
abbrev tB:Bool×Sch:=(false, .bool)
abbrev K7s:Bool×Sch:=(false, .str)
abbrev taI:AK:= .val false (.int .i64)
abbrev taS:AK:= .val false .str
theorem J02 {n:Int} (h0:0≤n) (h1:n<256):IntKind.u8.wrap n=n:=by
 simp[IntKind.wrap,IntKind.signed,IntKind.bits]
 omega
def Y5 (c:Int):Bool:=decide (48≤c)&&decide (c≤57)
theorem Jmz (c:Int):(bif decide (c<48) then true else decide (57<c))= !Y5 c:=by
 unfold Y5
 have e1:decide (c<48)= !decide ((48:Int)≤c):=by rw[Bool.eq_iff_iff];simp
 have e2:decide ((57:Int)<c)= !decide (c≤57):=by rw[Bool.eq_iff_iff];simp
 rw[e1,e2]
 cases decide ((48:Int)≤c)<;>cases decide (c≤57)<;>rfl
def J5:List UInt8→Int→Int×Bool
 |[],n=>(n,true)
 |c::r,n=>if Y5 c.toNat=true then J5 r (10*n+(c.toNat-48)) else(0,false)
def Dz (s:ByteArray):Bool:=decide (s.size=0)||decide (9<s.size)||(decide (1<s.size)&&decide (Jab s 0=48))
def Jz (s:ByteArray):Int×Bool:=if Dz s=true then(0,false) else J5 s.data.toList 0
def J7r:Con:={args:=[taS],ress:=[tI,tB],owns:=[],pre:=fun(s,_)=>[s.size≤1000000],spec:=fun(s,_)=>((Jz s).1,(Jz s).2,())}
theorem Jyr (s:ByteArray):(bif bif ((s.size:Int)==0) then true else decide (9<(s.size:Int)) then true else bif decide (1<(s.size:Int)) then(((s.data.toList.getD 0 0).toNat:Int)==48) else false)=Dz s:=by
 have e1:((s.size:Int)==0)=decide (s.size=0):=by rw[Bool.eq_iff_iff];simp
 have e2:decide (9<(s.size:Int))=decide (9<s.size):=by rw[decide_eq_decide];omega
 have e3:decide (1<(s.size:Int))=decide (1<s.size):=by rw[decide_eq_decide];omega
 have e4:(((s.data.toList.getD 0 0).toNat:Int)==48)=decide (Jab s 0=48):=by rw[Bool.eq_iff_iff];simp[Jab]
 have k:∀a b c d:Bool,(bif bif a then true else b then true else bif c then d else false)=(a||b||(c&&d)):=by decide
 rw[e1,e2,e3,e4,k];rfl
theorem Jcy {c:Nat} (h:Y5 c=true):48≤c∧c≤57:=by
 unfold Y5 at h
 simp only[Bool.and_eq_true,decide_eq_true_eq] at h
 omega
abbrev Uai:=Uaj
theorem Jay:∀{l:List UInt8} {n:Int},0≤n→0≤(J5 l n).1∧(J5 l n).1<(n+1)*10^l.length
 |[],n,h=>⟨h,by simp[J5];omega⟩
 | c :: r, n, h => by
  unfold J5
  split
  ·rename_i hc
   have hr:=Jcy hc
   have ih:=Jay (l:=r) (n:=10*n+(c.toNat-48)) (by omega)
   refine⟨ih.1,Int.lt_of_lt_of_le ih.2 ?_⟩
   rw[List.length_cons,Int.pow_succ,Int.mul_comm (10^r.length),←Int.mul_assoc]
   exact Int.mul_le_mul_of_nonneg_right (by omega) (Int.pow_nonneg (by decide))
  ·refine⟨Int.le_refl _,Int.mul_pos (by omega) (Int.pow_pos (by decide))⟩
theorem Jpb (s:ByteArray):0≤(Jz s).1∧(Jz s).1<1000000000:=by
 unfold Jz
 split
 ·exact⟨Int.le_refl _,by decide⟩
 ·rename_i h
  have h:Dz s=false:=by simpa using h
  have h9:s.size≤9:=by
   unfold Dz at h
   simp only[Bool.or_eq_false_iff,decide_eq_false_iff_not] at h
   omega
  have:=Jay (l:=s.data.toList) (n:=0) (Int.le_refl _)
  refine⟨this.1,Int.lt_of_lt_of_le this.2 ?_⟩
  have hp:=Nat.pow_le_pow_right (n:=10) (by decide) h9
  have hl:s.data.toList.length=s.size:=by simp
  rw[hl,Int.zero_add,Int.one_mul]
  have e:((10:Int)^s.size)=((10^s.size:Nat):Int):=by simp
  rw[e]
  have h2:((10^s.size:Nat):Int)≤((10^9:Nat):Int):=Int.ofNat_le.2 hp
  have h3:((10^9:Nat):Int)=1000000000:=by decide
  omega
def Ja3 (c:UInt8):List UInt8→List (List UInt8)
 |[]=>[[]]
 |x::r=>if x=c then[]::Ja3 c r else match Ja3 c r with
  |[]=>[[x]]
  |h::t=>(x::h)::t
def bs (l:List UInt8):ByteArray:=⟨l.toArray⟩
def Do (s:ByteArray) (c:Int):List ByteArray:=(Ja3 (UInt8.ofNat c.toNat) s.data.toList).map bs
theorem Je5 (c:UInt8):∀l,Ja3 c l≠[]
 |[]=>by simp[Ja3]
 |x::r=>by
  unfold Ja3
  split
  ·simp
  ·split<;>simp
theorem Xv (c x:UInt8) (r:List UInt8):Ja3 c (x::r)=if x=c then[]::Ja3 c r else match Ja3 c r with
  |[]=>[[x]]
  |h::t=>(x::h)::t:=rfl
abbrev Kju:=Uai
def Vj (n:Int):ByteArray:=⟨(Lib.itoa n).toArray⟩
def Jx4 (k:Nat):Con:={args:=[taI],ress:=[K7s],owns:=[],pre:=fun(n,_)=>[k≤18,-(10^k:Int)<n,n<10^(k+1)],spec:=fun(n,_)=>(Vj n,())}
def Kmg (a:Int):=(Iw (48+a)∧0<1)∧ByteArray.mk (Array.mk [UInt8.ofNat (Int.toNat (IntKind.wrap IntKind.u8 (48+a)))])=Vj a
def Z87 (a:Int):=0-Int.tmod a 10
def Kjt:=(10:Int)=0→False
def Kim (a:Nat):=(10:Int)^(a+(1:Nat))
def Kng (a:Nat):= -10^a
def K2p (a:Int) (b:Nat):=Int.tdiv a 10<Kim b
def K09 (a:Nat) (b:Int):=Kng a<Int.tdiv b 10
theorem J06 {l:List UInt8} {n:Int} (h:l=Lib.itoa n):(⟨⟨l⟩⟩:ByteArray)=Vj n:=by subst h;rfl
theorem Ju5 (u:Nat):(Vj (u:Int)).data.toList=Lib.decDigits u:=by unfold Vj;rw[Lib.itoa_nonneg]
theorem Kdj (u:Nat) (h:1≤u):(Vj (-(u:Int))).data.toList=45::Lib.decDigits u:=by unfold Vj;rw[Lib.itoa_neg u h]
theorem Jai (n:Int) (h0: -9223372036854775808≤n) (h1:n≤9223372036854775807):(Vj n).size≤21:=by
 have:=Lib.itoa_length_le n h0 h1
 show(Lib.itoa n).toArray.size≤21
 simpa using this
theorem Jpe {u:Nat} (h:¬u<10):Lib.decDigits u=Lib.decDigits (u/10)++[UInt8.ofNat (48+u %10)]:=by rw[Lib.decDigits,dif_neg h]
theorem J4a {x:Nat} (h:x<10):UInt8.ofNat (IntKind.u8.wrap (48+(x:Int))).toNat=UInt8.ofNat (48+x):=by
 rw[J02 (by omega) (by omega)]
 congr 1
theorem Jmi (n:Int) (h0:¬n<0) (h1:n<10):(⟨⟨[UInt8.ofNat (IntKind.u8.wrap (48+n)).toNat]⟩⟩:ByteArray)=Vj n:=by
 obtain⟨u,rfl⟩:=Int.eq_ofNat_of_zero_le (by omega:0≤n)
 refine J06 ?_
 have e:Lib.itoa (u:Int)=Lib.decDigits u:=Lib.itoa_nonneg u
 have hu:u<10:=by omega
 rw[e,Lib.decDigits_one hu]
 exact congrArg (·::[]) (J4a hu)
theorem Kdh (n:Int):wpF Tryz.prog Kju.g (na ()) Tryz.f194 (Jx4 0) (n,()):=by
 refine(by kernel_rfl:(0≤18→-10^0<n→n<10^1→Br (decide (n<0)) (Br (decide ((-10)<n)) (Jz1 3 2) (Jz1 4 2)) (Br (decide (n<10)) (Kmg n) (Jz1 7 2)))=_).mp ?_
 delta Kmg Br Iw
 intro _ h0 h1
 have e0:(10:Int)^0=1:=rfl
 have e1:(10:Int)^1=10:=rfl
 rw[e0] at h0
 rw[e1] at h1
 refine⟨fun h=>absurd (of_decide_eq_true h) (by omega),fun h=>⟨fun h2=>⟨⟨by omega,by decide⟩,Jmi n (of_decide_eq_false h) (of_decide_eq_true h2)⟩,fun h2=>absurd (of_decide_eq_false h2) (by omega)⟩⟩
theorem Kdg (k:Nat) (n:Int):wpF Tryz.prog ((194,Jx4 k)::Kju.g) (na ()) Tryz.f194 (Jx4 (k+1)) (n,()):=by
 refine(by kernel_rfl:(k+1≤18→-Kim k<n→n<10^(k+1+1)→Br (decide (n<0)) (Br (decide ((-10)<n)) ((Iw (0-n)∧k≤18∧Kng k<0-n∧0-n<Kim k∧Nc (1+ByteArray.size (Vj (0-n)))≤9223372036854775807)∧ByteArray.mk (Array.mk (45::([]++(Vj (0-n)).data.toList)))=Vj n) ((Kjt∧Iw (Int.tdiv n 10)∧k≤18∧K09 k n∧K2p n k∧Kjt∧Iw (Z87 n)∧k≤18∧Kng k<Z87 n∧Z87 n<Kim k∧Nc (ByteArray.size (Vj (Int.tdiv n 10))+ByteArray.size (Vj (Z87 n)))≤9223372036854775807)∧ByteArray.mk (Array.mk ((Vj (Int.tdiv n 10)).data.toList++(Vj (Z87 n)).data.toList))=Vj n)) (Br (decide (n<10)) (Kmg n) ((Kjt∧Iw (Int.tdiv n 10)∧k≤18∧K09 k n∧K2p n k∧Kjt∧Iw (48+Int.tmod n 10)∧0<1∧Nc (ByteArray.size (Vj (Int.tdiv n 10))+1)≤9223372036854775807)∧ByteArray.mk (Array.mk ((Vj (Int.tdiv n 10)).data.toList++[UInt8.ofNat (Int.toNat (IntKind.wrap IntKind.u8 (48+Int.tmod n 10)))]))=Vj n)))=_).mp ?_
 delta Z87 Kjt Kim Kng K2p K09 Kmg Br Iw Nc
 intro hk h0 h1
 have hp0:(0:Int)<10^k:=Int.pow_pos (by decide)
 have hp1:(1:Int)≤10^k:=by omega
 have hp2:(10:Int)^k≤100000000000000000:=by
  have h:=Nat.pow_le_pow_right (n:=10) (by decide) (show k≤17 by omega)
  have h2:((10^k:Nat):Int)≤((10^17:Nat):Int):=Int.ofNat_le.2 h
  have h3:((10^17:Nat):Int)=100000000000000000:=by decide
  have e:((10:Int)^k)=((10^k:Nat):Int):=by simp
  omega
 have e1:(10:Int)^(k+1)=10^k*10:=Int.pow_succ ..
 have e2:(10:Int)^(k+1+1)=10^k*10*10:=by rw[Int.pow_succ,e1]
 rw[e1] at h0
 rw[e2] at h1
 rw[e1]
 generalize(10:Int)^k=p at*
 refine⟨fun h=>⟨fun h2=> ?_,fun h2=> ?_⟩,fun h=>⟨fun h2=>⟨⟨by have:=of_decide_eq_true h2;have:=of_decide_eq_false h;omega,by decide⟩,Jmi n (of_decide_eq_false h) (of_decide_eq_true h2)⟩,fun h2=> ?_⟩⟩
 ·have h:=of_decide_eq_true h
  have h2:=of_decide_eq_true h2
  obtain⟨u,hu⟩:=Int.eq_ofNat_of_zero_le (by omega:0≤0-n)
  have hn:n= -(u:Int):=by omega
  have hs:=Jai (0-n) (by omega) (by omega)
  refine⟨⟨by omega,by omega,by omega,by omega,by omega⟩,J06 ?_⟩
  rw[hu,Ju5,hn,Lib.itoa_neg u (by omega)];rfl
 ·have h:=of_decide_eq_true h
  have h2:=of_decide_eq_false h2
  obtain⟨u,hu⟩:=Int.eq_ofNat_of_zero_le (by omega:0≤0-n)
  have hn:n= -(u:Int):=by omega
  have ed:n.tdiv 10= -((u/10:Nat):Int):=by rw[hn,Int.neg_tdiv];rfl
  have em:n.tmod 10= -((u %10:Nat):Int):=by rw[hn,Int.neg_tmod];rfl
  have em2:0-n.tmod 10=((u %10:Nat):Int):=by rw[em];omega
  rw[em2,ed]
  have hs1:=Jai (-((u/10:Nat):Int)) (by omega) (by omega)
  have hs2:=Jai ((u %10:Nat):Int) (by omega) (by omega)
  refine⟨⟨by omega,by omega,by omega,by omega,by omega,by omega,by omega,by omega,by omega,by omega,by omega⟩,J06 ?_⟩
  rw[Kdj _ (by omega),Ju5,hn,Lib.itoa_neg u (by omega),Jpe (u:=u) (by omega),Lib.decDigits_one (i:=u %10) (by omega)];rfl
 ·have h:=of_decide_eq_false h
  have h2:=of_decide_eq_false h2
  obtain⟨u,hu⟩:=Int.eq_ofNat_of_zero_le (by omega:0≤n)
  subst hu
  have ed:(u:Int).tdiv 10=((u/10:Nat):Int):=rfl
  have em:(u:Int).tmod 10=((u %10:Nat):Int):=rfl
  rw[em,ed]
  have hs1:=Jai ((u/10:Nat):Int) (by omega) (by omega)
  refine⟨⟨by omega,by omega,by omega,by omega,by omega,by omega,by omega,by decide,by omega⟩,J06 ?_⟩
  rw[Ju5,Lib.itoa_nonneg,Jpe (u:=u) (by omega),J4a (by omega)]
theorem J4o:∀k,Ok Tryz.prog 194 (Jx4 k)
 |0=>Vx mixed Kju.ok (by kernel_rfl) (by kernel_rfl) na fun xx=>Kdh xx.1
 |k+1=>Vx mixed (.cons (J4o k) Kju.ok) (by kernel_rfl) rfl na fun xx=>Kdg k xx.1
theorem Krw:Ok Tryz.prog 194 (Jx4 17):=J4o 17
abbrev K6z:=Kju.add Krw
def V8:List UInt8→Bool
 |[]=>true
 |b::r=>Y5 (b.toNat:Int)&&V8 r
def Jrf (s:ByteArray):Bool:=V8 s.data.toList&&decide (0<s.size)
def K9s:Con:={args:=[aS],ress:=[Bo],owns:=[],pre:=fun(s,_)=>[s.size≤1000000],spec:=fun(s,_)=>(Jrf s,())}
abbrev Kf9 (s:ByteArray):Ann:={X:=Nat,σ:=fun k=>⟨1,[(0, .one (.str s)),(6, .one (.sl 0))],[(0, .siter s k)]⟩,inv:=fun k=>k≤s.size∧V8 s.data.toList=V8 (s.data.toList.drop k),mu:=fun k=>s.size-k}
theorem Jis {c:Int} (h:128≤c):Y5 c=false:=by
 unfold Y5
 rw[decide_eq_false (show ¬c≤57 by omega),Bool.and_false]
def Km6 (a:Nat) (b:Bt):=a≤ByteArray.size b∧V8 (Z14 b)=V8 (List.drop a (Z14 b))
theorem Kr1:Ok Tryz.prog 186 K9s:=J4n K6z Tryz.f186 (U4 (l:=([]:List (Nat×Func))) (by simp)) (fun xx=>X6 (Kf9 xx.1)) (fun xx=>fun _=>na ()) fun xx=>by
 obtain⟨(s:ByteArray),_⟩:=xx
 refine(by kernel_rfl:(ByteArray.size s≤1000000→∃(x:Nat),Sf s (Sf s (0=x))∧Km6 x s∧∀(x:Nat),Km6 x s→(x<ByteArray.size s→Br true (Br (Kn9 s x) (Sf true (false=Jrf s)) (∃(y:Nat),Sf s (Sf s (x+Jho s x=y))∧Km6 y s∧ByteArray.size s-y<ByteArray.size s-x)) (Sf true ((!Lb s B0)=Jrf s)))∧((x<ByteArray.size s→False)→Br false False (Sf true ((!Lb s B0)=Jrf s))))=_).mp ?_
 delta Z14 Kn9 Km6 Br Sf B0 Lb
 intro hb
 refine⟨(0:Nat),⟨rfl,rfl,rfl⟩,⟨Nat.zero_le _,by simp⟩,fun(k:Nat) hk=>⟨fun h=>⟨fun _=>⟨fun h1=>⟨rfl, ?_⟩,fun h1=> ?_⟩,fun h=>(by cases h)⟩,fun h=> ?_⟩⟩
 ·rw[Jmz] at h1
  have h2:Y5 (Yj s k)=false:=by simpa using h1
  unfold Jrf
  have h3:V8 s.data.toList=false:=by
   rw[hk.2,Fk h,V8]
   by_cases ha:(s[k]'h).toNat<128
   ·rw[←(Jea h ha).1,h2];rfl
   ·rw[Jis (by omega)];rfl
  rw[h3];rfl
 ·rw[Jmz] at h1
  have h2:Y5 (Yj s k)=true:=by simpa using h1
  by_cases ha:(s[k]'h).toNat<128
  ·obtain⟨r1,r2⟩:=Jea h ha
   refine⟨(k+1:Nat),⟨rfl,rfl,by rw[r2]⟩,⟨by omega, ?_⟩,by omega⟩
   rw[hk.2,Fk h,V8,←r1,h2]
   rfl
  ·have:=Jl7 h (by omega)
   rw[Jis this] at h2
   cases h2
 ·have e:k=s.size:=Nat.le_antisymm hk.1 (Nat.le_of_not_lt h)
  refine⟨fun h=>(by cases h),fun _=>⟨rfl, ?_⟩⟩
  rw[e,List.drop_eq_nil_of_le (by simp)] at hk
  unfold Jrf
  rw[hk.2,Jkd]
  rfl
abbrev Uah:=K6z.add Kr1
abbrev K6y:=Uah
theorem Jyi (a:ByteArray):bs a.data.toList=a:=rfl
theorem Je3 (c:UInt8):∀l:List UInt8,Lib.splitK [c] 0 (l.count c) l=Ja3 c l
 |[]=>rfl
 | x :: r => by
  have ih:=Je3 c r
  by_cases h:x=c
  ·subst h
   rw[Xv,if_pos rfl,List.count_cons_self]
   have e:Lib.index (x::r) [x]=0:=by simp[Lib.index,List.isPrefixOf]
   rw[Lib.splitK,e,←ih]
   rfl
  ·rw[Xv,if_neg h,List.count_cons_of_ne h,←ih]
   have hp:[c].isPrefixOf (x::r)=false:=by
    have:¬c=x:=fun e=>h e.symm
    simp[List.isPrefixOf,this]
   cases hk:r.count c with
   |zero=>rfl
   | succ k =>
    have hi:Lib.index (x::r) [c]=if Lib.index r [c]== -1 then -1 else Lib.index r [c]+1:=by rw[Lib.index,hp];rfl
    by_cases h1:Lib.index r [c]= -1
    ·have e2:Lib.index (x::r) [c]= -1:=by rw[hi,h1];rfl
     simp only[Lib.splitK,e2,h1]
     rfl
    ·have hg:=Lib.index_ge r [c]
     have e2:Lib.index (x::r) [c]=Lib.index r [c]+1:=by rw[hi,if_neg (by simpa using h1)]
     obtain⟨i,hi⟩:=Int.eq_ofNat_of_zero_le (by omega:0≤Lib.index r [c])
     rw[hi] at e2
     have n1:¬((i:Int)== -1)=true:=by simp
     have n2:¬(((i:Int)+1)== -1)=true:=by simp;omega
     simp only[Lib.splitK,e2,hi]
     rw[if_neg n1,if_neg n2]
     have t1:((i:Int)+1).toNat=i+1:=by omega
     have t2:((i:Int)).toNat=i:=by omega
     simp only[t1,t2,Nat.add_zero,List.take_succ_cons,List.length_cons,List.length_nil]
     rfl
theorem Lq (s:ByteArray) (c:UInt8):Y4 s ⟨#[c]⟩=(Ja3 c s.data.toList).map bs:=by
 have h:=Lib.splitB_data ⟨#[c]⟩ 0 (Lib.countB s ⟨#[c]⟩) s
 have hc:Lib.countB s ⟨#[c]⟩=s.data.toList.count c:=Lib.count_one c s.data.toList
 rw[hc] at h
 have h2:(Y4 s ⟨#[c]⟩).map (·.data.toList)=Ja3 c s.data.toList:=by
  rw[←Je3]
  unfold Y4
  rw[hc];exact h
 rw[←h2,List.map_map]
 exact(List.map_id' _).symm
theorem Jbd (c:UInt8):∀(l w:List UInt8),w∈Ja3 c l→w.length≤l.length
 |[],w,h=>by
  have:w=[]:=by simpa[Ja3] using h
  rw[this];exact Nat.le_refl _
 | x :: r, w, h => by
  rw[Xv] at h
  split at h
  ·rcases List.mem_cons.1 h with h|h
   ·rw[h];exact Nat.zero_le _
   ·exact Nat.le_succ_of_le (Jbd c r w h)
  ·split at h
   ·rename_i e;exact absurd e (Je5 c r)
   ·rename_i hh t e
    rcases List.mem_cons.1 h with h|h
    ·rw[h]
     exact Nat.succ_le_succ (Jbd c r hh (by rw[e];simp))
    ·exact Nat.le_succ_of_le (Jbd c r w (by rw[e];simp[h]))
theorem Kc (l:List UInt8):(bs l).size=l.length:=by show l.toArray.size=_;simp
theorem Fc (r:ByteArray) (i:Nat):r.extract 0 i=bs (r.data.toList.take i):=by
 rw[←Jyi (r.extract 0 i),Lib.extract_data];simp
theorem Fd (r:ByteArray) (i:Nat):r.extract i r.size=bs (r.data.toList.drop i):=by
 rw[←Jyi (r.extract i r.size),Lib.extract_data,List.take_of_length_le (by simp)]
theorem szl (X:List UInt8):(⟨⟨X⟩⟩:ByteArray).size=X.length:=rfl
theorem Jjt (c:UInt8):∀l:List UInt8,(Ja3 c l).length≤l.length+1
 |[]=>Nat.le_refl _
 | x :: r => by
  have ih:=Jjt c r
  rw[Xv]
  split
  ·simp;omega
  ·split
   ·simp
   ·rename_i e;rw[e] at ih;simp at ih⊢;omega
theorem Dx (c:UInt8):∀(l:List UInt8) (n:Int),J5 (l++[c]) n=if(J5 l n).2=true∧Y5 c.toNat=true then(10*(J5 l n).1+(c.toNat-48),true) else(0,false)
 |[],n=>by
  show(if Y5 c.toNat=true then _ else _)=_
  by_cases h:Y5 c.toNat=true
  ·rw[if_pos h,if_pos ⟨rfl,h⟩];rfl
  ·rw[if_neg h,if_neg (fun q=>h q.2)]
 |x::l,n=>by
  have ih:=Dx c l (10*n+(x.toNat-48))
  show(if Y5 x.toNat=true then J5 (l++[c]) (10*n+(x.toNat-48)) else(0,false))=_
  have e:J5 (x::l) n=if Y5 x.toNat=true then J5 l (10*n+(x.toNat-48)) else(0,false):=rfl
  rw[e]
  by_cases h:Y5 x.toNat=true
  ·rw[if_pos h,if_pos h,ih]
  ·rw[if_neg h,if_neg h,if_neg (fun q=>by cases q.1)]
theorem Fi (u:Nat):10≤u→Lib.decDigits u=Lib.decDigits (u/10)++[UInt8.ofNat (48+u %10)]:=fun h=>Jpe (by omega)
theorem Jbw {x:Nat} (h:x<10):(UInt8.ofNat (48+x)).toNat=48+x:=UInt8.toNat_ofNat_of_lt' (by show 48+x<256;omega)
theorem Zs {x:Nat} (h:x<10):Y5 (UInt8.ofNat (48+x)).toNat=true:=by
 rw[Jbw h];unfold Y5;simp;omega
theorem Jaz (u:Nat):J5 (Lib.decDigits u) 0=((u:Int),true):=by
 induction u using Nat.strongRecOn with
 | ind u ih =>
  by_cases h:u<10
  ·rw[Lib.decDigits_one h]
   show(if Y5 (UInt8.ofNat (48+u)).toNat=true then _ else _)=_
   rw[if_pos (Zs h),Jbw h]
   show((_:Int),true)=_
   congr 1;omega
  ·have hd:u %10<10:=Nat.mod_lt _ (by decide)
   rw[Fi u (by omega),Dx,ih (u/10) (by omega),if_pos ⟨rfl,Zs hd⟩,Jbw hd]
   congr 1;dsimp only;omega
theorem Jel (u:Nat):∃c r,Lib.decDigits u=c::r∧Y5 c.toNat=true∧(1≤u→c.toNat≠48):=by
 induction u using Nat.strongRecOn with
 | ind u ih =>
  by_cases h:u<10
  ·refine⟨_,_,Lib.decDigits_one h,Zs h,fun h1=> ?_⟩
   rw[Jbw h];omega
  ·obtain⟨c,r,e,h1,h2⟩:=ih (u/10) (by omega)
   exact⟨c,r++[UInt8.ofNat (48+u %10)],by rw[Fi u (by omega),e];rfl,h1,fun _=>h2 (by omega)⟩
theorem Ja0 (u:Nat):1≤(Lib.decDigits u).length:=by
 obtain⟨c,r,e,_⟩:=Jel u
 rw[e];simp
theorem Jpd:∀(k u:Nat),((Lib.decDigits u).length≤k+1↔u<10^(k+1))
 | 0, u => by
  by_cases h:u<10
  ·rw[Lib.decDigits_one h];simp;omega
  ·have h2:=Ja0 (u/10)
   rw[Fi u (by omega),List.length_append]
   simp only[List.length_cons,List.length_nil]
   constructor
   ·intro q;omega
   ·intro q;simp at q;omega
 | k + 1, u => by
  by_cases h:u<10
  ·rw[Lib.decDigits_one h]
   have:10≤10^(k+1+1):=by
    rw[Nat.pow_succ]
    have:=Nat.pos_of_ne_zero (n:=10^(k+1)) (by simp)
    omega
   simp;omega
  ·have ih:=Jpd k (u/10)
   rw[Fi u (by omega),List.length_append]
   simp only[List.length_cons,List.length_nil]
   rw[Nat.pow_succ]
   constructor
   ·intro q
    have:=ih.1 (by omega)
    omega
   ·intro q
    have:=ih.2 (by omega)
    omega
theorem Kem:∀(k:Nat) (l:List UInt8),l.length=k+1→(J5 l 0).2=true→(1<l.length→∀c,l.head? =some c→c.toNat≠48)→l=Lib.decDigits (J5 l 0).1.toNat
 | 0, l, hl, hd, _ => by
  match l,hl with
  | [c], _ =>
   have e:J5 [c] 0=if Y5 c.toNat=true then((10*0+(c.toNat-48):Int),true) else(0,false):=rfl
   by_cases h:Y5 c.toNat=true
   ·rw[e,if_pos h]
    have hr:=Jcy h
    have:((10*0+((c.toNat:Int)-48))).toNat=c.toNat-48:=by omega
    dsimp only
    rw[this,Lib.decDigits_one (by omega),show 48+(c.toNat-48)=c.toNat by omega,UInt8.ofNat_toNat]
   ·rw[e,if_neg h] at hd;cases hd
 | k + 1, l, hl, hd, h0 => by
  obtain⟨i,c,rfl⟩:∃i c,l=i++[c]:=by
   rcases List.eq_nil_or_concat l with h|⟨i,c,h⟩
   ·rw[h] at hl;simp at hl
   ·exact⟨i,c,by simpa using h⟩
  have hil:i.length=k+1:=by simpa using hl
  have hs:=Dx c i 0
  by_cases hc:(J5 i 0).2=true∧Y5 c.toNat=true
  ·rw[if_pos hc] at hs
   have hh:∀d,i.head? =some d→d.toNat≠48:=fun d hd=>h0 (by simp;omega) d (by
    cases i with
    |nil=>cases hd
    |cons a b=>exact hd)
   have ih:=Kem k i hil hc.1 fun _=>hh
   have hr:=Jcy hc.2
   have hn:=(Jay (l:=i) (n:=0) (Int.le_refl _)).1
   obtain⟨m,hm⟩:=Int.eq_ofNat_of_zero_le hn
   rw[hm] at ih hs
   simp only[Int.toNat_natCast] at ih
   have hm1:1≤m:=by
    rcases Nat.eq_zero_or_pos m with h|h
    ·subst h
     rw[ih,Lib.decDigits_one (by decide)] at hh
     exact absurd rfl (hh 48 rfl)
    ·exact h
   rw[hs]
   have e:(10*(m:Int)+((c.toNat:Int)-48)).toNat=10*m+(c.toNat-48):=by omega
   dsimp only
   rw[e,Fi _ (by omega),show(10*m+(c.toNat-48))/10=m by omega,show 48+(10*m+(c.toNat-48)) %10=c.toNat by omega,UInt8.ofNat_toNat,←ih]
  ·rw[hs,if_neg hc] at hd;cases hd
theorem Jtd {c:UInt8} {r:List UInt8} {n:Nat} (h:48≤c.toNat∧c.toNat≤57) (h1:¬1844674407370955162≤n) (h2:¬18446744073709551616≤n*10+(c.toNat-48)):Lib.parseUint10 n (c::r)=Lib.parseUint10 (n*10+(c.toNat-48)) r:=by
 simp only[Lib.parseUint10]
 rw[if_pos h,if_neg h1,if_neg h2]
theorem Dy (c:UInt8) (r:List UInt8) (n:Int):J5 (c::r) n=if Y5 c.toNat=true then J5 r (10*n+(c.toNat-48)) else(0,false):=rfl
theorem Jwb (l:List UInt8):∀(n:Nat),(J5 l n).2=true→(J5 l n).1<1000000000000000000→Lib.parseUint10 n l= .ok (J5 l n).1.toNat∧(n:Int)≤(J5 l n).1:=by
 induction l with
 |nil=>exact fun n _ _=>⟨rfl,Int.le_refl _⟩
 | cons c r ih =>
  intro n h1 h2
  by_cases h:Y5 c.toNat=true
  ·rw[Dy,if_pos h] at h1 h2⊢
   have hr:=Jcy h
   have en:(10*(n:Int)+((c.toNat:Int)-48))=((n*10+(c.toNat-48):Nat):Int):=by omega
   rw[en] at h1 h2⊢
   obtain⟨a1,a2⟩:=ih _ h1 h2
   have h3:n<1000000000000000000:=by omega
   refine⟨?_,by omega⟩
   rw[Jtd hr (by omega) (by omega)]
   exact a1
  ·rw[Dy,if_neg h] at h1;cases h1
theorem Ku5 (c:UInt8) (r:List UInt8):Jab (bs (c::r)) 0=c.toNat:=rfl
theorem Jtv {u:Nat} (h:u<1000000000):Jz (bs (Lib.decDigits u))=((u:Int),true):=by
 have hl:=(Jpd 8 u).2 (by simpa using h)
 obtain⟨c,r,e,h1,h2⟩:=Jel u
 have hb:Dz (bs (Lib.decDigits u))=false:=by
  unfold Dz
  rw[Kc]
  have hp:=Ja0 u
  simp only[Bool.or_eq_false_iff,decide_eq_false_iff_not,Bool.and_eq_false_iff]
  refine⟨⟨by omega,by omega⟩, ?_⟩
  by_cases hu:1≤u
  ·right
   rw[e,Ku5]
   have:=h2 hu
   omega
  ·left
   have:u=0:=by omega
   subst this
   rw[Lib.decDigits_one (by decide)];simp
 unfold Jz
 rw[hb]
 exact Jaz u
theorem Jwq {u:Nat} (h:u<1000000000):Lib.parseMag (Lib.decDigits u)= .ok u:=by
 obtain⟨c,r,e,_⟩:=Jel u
 unfold Lib.parseMag
 rw[if_neg (by rw[e];simp)]
 have hd:=Jaz u
 have:=(Jwb (Lib.decDigits u) 0 (by show(J5 _ 0).2=true;rw[hd]) (by show(J5 _ 0).1<_;rw[hd];dsimp only;omega)).1
 rw[this]
 show Lib.NumEnd.ok (J5 _ 0).1.toNat=_
 rw[hd];rfl
theorem Jyt {v:Int} (h0: -1000000000<v) (h1:v<1000000000):Lib.atoiAll (Lib.itoa v)= .ok v:=by
 rcases(by omega:v<0∨0≤v) with hv|hv
 ·obtain⟨u,hu⟩:=Int.eq_ofNat_of_zero_le (by omega:0≤-v)
  have hn:v= -(u:Int):=by omega
  subst hn
  rw[Lib.itoa_neg u (by omega)]
  have hm:=Jwq (u:=u) (by omega)
  have e45:(45:UInt8).toNat=45:=rfl
  simp only[Lib.atoiAll,e45]
  rw[if_pos (Or.inr trivial),hm]
  dsimp only
  rw[if_neg (by omega),if_neg (by omega),if_pos trivial]
 ·obtain⟨u,rfl⟩:=Int.eq_ofNat_of_zero_le hv
  have e:Lib.itoa (u:Int)=Lib.decDigits u:=Lib.itoa_nonneg u
  rw[e]
  have hm:=Jwq (u:=u) (by omega)
  obtain⟨c,r,e,h3,h4⟩:=Jel u
  have hr:=Jcy h3
  rw[e] at hm⊢
  simp only[Lib.atoiAll]
  rw[if_neg (by omega),hm]
  dsimp only
  rw[if_neg (by omega),if_neg (by omega),if_neg (by omega)]
theorem Jiv {s:ByteArray} (h:(Jz s).2=true):∃u:Nat,u<1000000000∧s.data.toList=Lib.decDigits u∧(Jz s).1=u:=by
 have hr:=Jpb s
 obtain⟨u,hu⟩:=Int.eq_ofNat_of_zero_le hr.1
 by_cases hb:Dz s=true
 ·unfold Jz at h;rw[if_pos hb] at h;cases h
 ·have ed:Jz s=J5 s.data.toList 0:=by unfold Jz;rw[if_neg hb]
  have hb:Dz s=false:=by simpa using hb
  unfold Dz at hb
  simp only[Bool.or_eq_false_iff,decide_eq_false_iff_not,Bool.and_eq_false_iff] at hb
  obtain⟨⟨b1,b2⟩,b3⟩:=hb
  have hl:s.data.toList.length=s.size:=by simp
  have:=Kem (s.size-1) s.data.toList (by omega) (by rw[←ed];exact h) (fun hl2 c hc=>by
   rcases b3 with b3|b3
   ·omega
   ·intro q
    apply b3
    have:Jab s 0=c.toNat:=by
     unfold Jab
     rw[List.getD_eq_getElem?_getD]
     have e0:s.data.toList[(0:Int).toNat]? =some c:=by rw[←hc];simp[List.head?_eq_getElem?]
     rw[e0];rfl
    rw[this,q];rfl)
  rw[←ed,hu] at this
  exact⟨u,by omega,this,hu⟩
theorem Jp9 {c:UInt8}:∀{a:List UInt8} (r:List UInt8),c∉a→Ja3 c (a++c::r)=a::Ja3 c r
 |[],r,_=>by rw[List.nil_append,Xv,if_pos rfl]
 |x::a,r,h=>by
  have hx:¬x=c:=fun e=>h (by rw[e];simp)
  rw[List.cons_append,Xv,if_neg hx,Jp9 r (fun q=>h (by simp[q]))]
theorem Jlz {c:UInt8}:∀{a:List UInt8},c∉a→Ja3 c a=[a]
 |[],_=>rfl
 |x::a,h=>by
  have hx:¬x=c:=fun e=>h (by rw[e];simp)
  rw[Xv,if_neg hx,Jlz (a:=a) (fun q=>h (by simp[q]))]
theorem Jxo (u:Nat):∀c∈Lib.decDigits u,Y5 c.toNat=true:=by
 induction u using Nat.strongRecOn with
 | ind u ih =>
  intro c hc
  by_cases h:u<10
  ·rw[Lib.decDigits_one h] at hc
   have:c=UInt8.ofNat (48+u):=by simpa using hc
   rw[this];exact Zs h
  ·rw[Fi u (by omega)] at hc
   rcases List.mem_append.1 hc with hc|hc
   ·exact ih (u/10) (by omega) c hc
   ·have:c=UInt8.ofNat (48+u %10):=by simpa using hc
    rw[this];exact Zs (Nat.mod_lt _ (by decide))
theorem Jkl (n:Int):∀c∈Lib.itoa n,c≠10∧c≠32:=by
 have key:∀(u:Nat),∀c∈Lib.decDigits u,c≠10∧c≠32:=fun u c hc=>by
  have hr:=Jcy (Jxo u c hc)
  have e1:(10:UInt8).toNat=10:=rfl
  have e2:(32:UInt8).toNat=32:=rfl
  exact⟨by rintro rfl;omega,by rintro rfl;omega⟩
 intro c hc
 unfold Lib.itoa at hc
 split at hc
 ·rcases List.mem_cons.1 hc with hc|hc
  ·rw[hc];decide
  ·exact key _ c hc
 ·exact key _ c hc
theorem Jg5:∀{l:List UInt8} {n:Int},V8 l=true→(J5 l n).2=true
 |[],_,_=>rfl
 |c::r,n,h=>by
  rw[V8,Bool.and_eq_true] at h
  rw[J5,if_pos h.1]
  exact Jg5 h.2
theorem Jgf:∀{l:List UInt8} {n:Int},(J5 l n).2=true→V8 l=true
 |[],_,_=>rfl
 | c :: r, n, h => by
  rw[J5] at h
  by_cases q:Y5 c.toNat=true
  ·rw[if_pos q] at h
   rw[V8,q,Jgf h];rfl
  ·rw[if_neg q] at h;cases h
theorem Jgs:∀{l:List UInt8} {n:Int},(J5 l n).2=false→J5 l n=(0,false)
 |[],_,h=>by cases h
 |c::r,n,h=>by
  rw[J5] at h⊢
  by_cases q:Y5 c.toNat=true
  ·rw[if_pos q] at h⊢;exact Jgs h
  ·rw[if_neg q]
theorem Jw2 (s:ByteArray):(bif bif !Jrf s then true else decide (9<(s.size:Int)) then true else bif decide (1<(s.size:Int)) then(((s.data.toList.getD 0 0).toNat:Int)==48) else false)= !(Jz s).2:=by
 have hb:=Jyr s
 have hl:s.data.toList.length=s.size:=by simp
 unfold Jrf
 cases ha:V8 s.data.toList with
 | false =>
  have e:(Jz s).2=false:=by
   unfold Jz
   split
   ·rfl
   ·cases h:(J5 s.data.toList 0).2 with
    |false=>rfl
    |true=>rw[Jgf h] at ha;cases ha
  rw[e];rfl
 | true =>
  have e:(Jz s).2= !Dz s:=by
   unfold Jz
   cases hd:Dz s with
   |true=>rfl
   |false=>exact Jg5 ha
  rw[e,←hb]
  have e1:decide (0<s.size)= !((s.size:Int)==0):=by
   by_cases q:s.size=0
   ·rw[q];rfl
   ·rw[decide_eq_true (by omega),beq_eq_false_iff_ne.2 (by omega)];rfl
  rw[e1]
  cases((s.size:Int)==0)<;>simp
theorem Jty {s:ByteArray} (h:(Jz s).2=true):Juk s=(Jz s).1:=by
 obtain⟨u,h1,h2,h3⟩:=Jiv h
 have e:Lib.itoa (u:Int)=Lib.decDigits u:=Lib.itoa_nonneg u
 have:=Jyt (v:=(u:Int)) (by omega) (by omega)
 unfold Juk
 rw[h2,←e,this,h3]
def K4m (a:Bt):=bif !Jrf a then true else decide (9<Nc (ByteArray.size a))
theorem Kr0:Ok Tryz.prog 187 J7r:=okW K6y Tryz.f187 na fun xx=>by
 obtain⟨(s:ByteArray),_⟩:=xx
 refine(by kernel_rfl:(ByteArray.size s≤1000000→(ByteArray.size s≤1000000∧(K4m s=false∧decide (1<Nc (ByteArray.size s))=true→Bd 0 (Nc (ByteArray.size s))))∧Br (bif K4m s then true else bif decide (1<Nc (ByteArray.size s)) then Ko1 s==48 else false) (0=(Jz s).1∧false=(Jz s).2) (ByteArray.size s≤1000000∧Juk s=(Jz s).1∧true=(Jz s).2))=_).mp ?_
 delta Z14 Ko1 K4m Br Bd Nc
 intro hs
 rw[Jw2]
 refine⟨⟨hs,fun h=>⟨Int.le_refl _,by have:=of_decide_eq_true h.2;omega⟩⟩,fun h=> ?_,fun h=> ?_⟩
 ·have h:(Jz s).2=false:=by simpa using h
  have e:Jz s=(0,false):=by
   unfold Jz at h⊢
   split
   ·rfl
   ·rename_i q
    rw[if_neg q] at h
    exact Jgs h
  rw[e];exact⟨rfl,rfl⟩
 ·have h:(Jz s).2=true:=by simpa using h
  exact⟨hs,Jty h,h.symm⟩
abbrev K6x:=K6y.add Kr0
def Jg9:List UInt8→Int→Int
 |[],x=>x
 |b::r,x=>Jg9 r ((341*x+(b.toNat:Int)).tmod 9999721)
def Jal (s:ByteArray):Int:=Jg9 s.data.toList 1
def J6j (l:List UInt8):List UInt8:=List.replicate (7-l.length) 48++l
def Dj (s:ByteArray):ByteArray:=bs (J6j (Lib.itoa (Jal s)))
theorem Jvb:∀{l:List UInt8} {x:Int},0≤x∧x<9999721→0≤Jg9 l x∧Jg9 l x<9999721
 |[],_,h=>h
 |b::r,x,h=>by
  unfold Jg9
  have hb:(0:Int)≤b.toNat:=by omega
  exact Jvb ⟨Int.tmod_nonneg _ (by omega),Int.tmod_lt_of_pos _ (by decide)⟩
theorem Je1 (s:ByteArray):0≤Jal s∧Jal s<9999721:=Jvb ⟨by decide,by decide⟩
theorem Jjq (s:ByteArray):1≤(Lib.itoa (Jal s)).length∧(Lib.itoa (Jal s)).length≤7:=by
 obtain⟨h0,h1⟩:=Je1 s
 obtain⟨u,hu⟩:=Int.eq_ofNat_of_zero_le h0
 rw[hu] at h1⊢
 rw[show Lib.itoa (u:Int)=Lib.decDigits u from Lib.itoa_nonneg u]
 exact⟨Ja0 u,(Jpd 6 u).2 (by have:u<9999721:=(by omega);omega)⟩
theorem K7u (n:Nat):Lib.repeatL [48] n=List.replicate n 48:=by
 induction n with
 |zero=>rfl
 |succ n ih=>rw[List.replicate_succ,←ih];rfl
def K5d:Con:={args:=[aS],ress:=[tS],owns:=[],pre:=fun(s,_)=>[s.size≤1000000],spec:=fun(s,_)=>(Dj s,())}
abbrev Kf4 (s:ByteArray):Ann:={X:=Nat×Int,σ:=fun(k,x)=>⟨0,[(0, .one (.str s)),(3, .one (.int .i64 x)),(7, .one (.int .i64 s.size)),(8, .one (.int .i64 k))],[]⟩,inv:=fun(k,x)=>k≤s.size∧(0≤x∧x<9999721)∧Jg9 (s.data.toList.drop k) x=Jal s,mu:=fun(k,_)=>s.size-k}
theorem Jyf (s:ByteArray) (k:Nat):(s.data.toList.getD k 0).toNat<256:=(s.data.toList.getD k 0).toNat_lt
def Kjn (a:Nat×Int):=7-Nc (ByteArray.size (Ku a.2))
def K37 (a:Nat×Int):=Kdp (ByteArray.mk (Array.mk [48])) (Kjn a)
def Kof (a:Nat×Int) (b:Bt):=341*a.2+Nc (UInt8.toNat (List.getD (Z14 b) a.1 0))
def Km4 (a:Nat×Int) (b:Bt) (c:Nat×Int):=Int.tmod (Kof a b) 9999721=c.2
def J8v (a:Nat×Int) (b:Bt):=a.1≤ByteArray.size b∧Bd a.2 9999721∧Jg9 (List.drop a.1 (Z14 b)) a.2=Jal b
def Klp (a:Nat×Int) (b:Bt) (c:Nat×Int):=J8v a b∧ByteArray.size b-a.1<ByteArray.size b-c.1
def Kks (a:Nat×Int) (b:Bt):=Iw (341*a.2)∧Bd (Nc a.1) (Nc (ByteArray.size b))∧Iw (Nc (UInt8.toNat (List.getD (Z14 b) a.1 0)))∧Iw (Kof a b)∧((9999721:Int)=0→False)
theorem Kr2:Ok Tryz.prog 184 K5d:=okW K6x Tryz.f184 (fun xx=>X6 (Kf4 xx.1)) fun xx=>by
 obtain⟨(s:ByteArray),_⟩:=xx
 refine(by kernel_rfl:(ByteArray.size s≤1000000→∃(x:Nat×Int),Sf s (1=x.2∧Si (Nc (ByteArray.size s)) (0=Nc x.1))∧J8v x s∧∀(x:Nat×Int),J8v x s→Br (decide (Nc x.1<Nc (ByteArray.size s))) (Kks x s∧Z38 x∧∃(y:Nat×Int),Sf s (Km4 x s y∧Si (Nc (ByteArray.size s)) (Jt7 x y))∧Klp y s x) (Iw x.2∧(Iw (Kjn x)∧1≤1000000∧(0≤Kjn x∧Kjn x≤1000000)∧Nc (ByteArray.size (K37 x)+ByteArray.size (Ku x.2))≤9223372036854775807)∧ByteArray.mk (Array.mk ((K37 x).data.toList++(Ku x.2).data.toList))=Dj s))=_).mp ?_
 delta Z14 Z38 Jt7 Kjn K37 Kof Km4 J8v Klp Kks Br Iw Bd Sf Si Nc
 intro hs
 refine⟨((0:Nat),(1:Int)),by(repeat' first|exact rfl|exact⟨⟩|apply And.intro|omega|dsimp only;omega),⟨Nat.zero_le _,by(first|omega|dsimp only;omega),rfl⟩,fun(y:Nat×Int) hk=>⟨fun h=> ?_,fun h=> ?_⟩⟩
 ·obtain⟨k,x⟩:=y
  have hlt:k<s.size:=by simpa using h
  obtain⟨k1,k2,k3⟩:=hk
  dsimp only at k1 k2
  rw[D2 hlt,Jg9] at k3
  have hb:=Jyf s k
  refine⟨by(repeat' first|apply And.intro|(first|omega|dsimp only;omega)),by(repeat' first|apply And.intro|(first|omega|dsimp only;omega)),(k+1,_),⟨rfl,rfl,rfl, ?_⟩,⟨by(first|omega|dsimp only;omega), ?_,k3⟩,by(first|omega|dsimp only;omega)⟩
  ·dsimp only;push_cast;rfl
  ·exact⟨Int.tmod_nonneg _ (by(first|omega|dsimp only;omega)),Int.tmod_lt_of_pos _ (by decide)⟩
 ·obtain⟨k,x⟩:=y
  have hlt:¬k<s.size:=by simpa using h
  obtain⟨k1,k2,k3⟩:=hk
  have e:k=s.size:=by omega
  rw[e,List.drop_eq_nil_of_le (by simp),Jg9] at k3
  have k3:x=Jal s:=k3
  have hl:=Jjq s
  dsimp only
  rw[k3]
  have hz:(Ku (Jal s)).size=(Lib.itoa (Jal s)).length:=rfl
  rw[hz]
  have hr:Kdp {data:={toList:=[48]}} (7-((Lib.itoa (Jal s)).length:Int))=bs (List.replicate (7-(Lib.itoa (Jal s)).length) 48):=by
   unfold Kdp
   rw[show(7-((Lib.itoa (Jal s)).length:Int)).toNat=7-(Lib.itoa (Jal s)).length by omega]
   exact congrArg bs (K7u _)
  have hb:=Je1 s
  rw[hr,Kc,List.length_replicate]
  exact⟨by(repeat' first|apply And.intro|(first|omega|dsimp only;omega)),⟨by(repeat' first|apply And.intro|(first|omega|dsimp only;omega)),by decide,by(repeat' first|apply And.intro|(first|omega|dsimp only;omega)),by omega⟩,rfl⟩
abbrev K6w:=K6x.add Kr2
def Ht (e:Ev):List ByteArray:=Ku e.1::e.2.1::(e.2.2.1++e.2.2.2.1.map Ku)
def Jp (e:Ev):ByteArray:=Vi (Ht e) ⟨⟨[32]⟩⟩
def Kfe:Con:={args:=[.val false (.list 3 sI), .fn [I] tS],ress:=[(false, .list 9 .str)],owns:=[true],pre:=fun(l,(q,_),_)=>[l.length≤1000000,∀x∈l,Uk (q (x,()))],spec:=fun(l,(_,f),_)=>(l.map fun x=>f (x,()),())}
def Kcn (a:Int×Unit→Bt) (b:Nat) (c:Li):=List.map (fun(x:Int)=>a (x,PUnit.unit)) (List.take b c)
theorem Krr:Ok Tryz.prog 199 Kfe:=okW K6w Tryz.f199 (fun xx=>X6 (Jb2 3 9 sI xx.1 tS false xx.2.1.1 xx.2.1.2)) fun xx=>by
 obtain⟨(l:List Int),⟨(q:Int×Unit→List Prop),(f:Int×Unit→ByteArray)⟩,_⟩:=xx
 refine(by kernel_rfl:(Z66 l→Koa l q→∃(x:Nat),Si (Ln l) (0=Nc x∧Sf l ((fun(x:Int×PUnit)=>q x)=q∧(fun(x:Int×PUnit)=>f x)=f∧List.length (Kcn f x l)=0))∧x≤List.length l∧∀(x:Nat),x≤List.length l→Br (Z94 x l) (Z90 x l∧(Uk (q (Z21 l x,PUnit.unit))∧(List.length (Kcn f x l)+1)*16≤140737488355328)∧Z22 x∧∃(y:Nat),Si (Ln l) (V0 x y∧Sf l ((fun(x:Int×PUnit)=>q x)=q∧(fun(x:Int×PUnit)=>f x)=f∧Kcn f x l++[f (Z21 l x,PUnit.unit)]=Kcn f y l))∧Kcb y l x) (Kcn f x l=List.map (fun(x:Int)=>f (x,PUnit.unit)) l))=_).mp ?_
 delta Z21 Z22 Z66 Z90 Z94 V0 J9e J0l Kcn Kcb Koa Br Iw Bd Tw Sf Si Ln Nc
 intro hb hq
 refine⟨(0:Nat),⟨rfl,rfl,rfl,rfl,rfl,by simp⟩,Nat.zero_le _,fun(k:Nat) hk=>⟨fun h=> ?_,fun h=> ?_⟩⟩
 ·have hlt:k<l.length:=by simpa using h
  refine⟨by omega,⟨hq (l.getD k 0) (Jd hlt),by simp only[List.length_map,List.length_take];omega⟩,by omega,(k+1:Nat),⟨rfl,by simp,rfl,rfl,rfl, ?_⟩,by omega,by omega⟩
  rw[←Uu (d:=0) hlt,List.map_append];rfl
 ·have hlt:¬k<l.length:=by simpa using h
  rw[List.take_of_length_le (by omega)]
abbrev K6v:=K6w.add Krr
structure Y2 (e:Ev):Prop where
 num: -999999999≤e.1∧e.1≤999999999
 nn:e.2.2.1.length≤1000
 nv:e.2.2.2.1.length≤1000
 val:∀v∈e.2.2.2.1,-999999999≤v∧v≤999999999
 siz:((Ht e).map fun s=>s.size+1).sum≤1000000
theorem Jbp {sep:List UInt8} (hs:sep.length=1):∀{l:List (List UInt8)},(Lib.join l sep).length≤(l.map fun x=>x.length+1).sum
 |[]=>by simp[Lib.join,List.intercalate]
 |[x]=>by simp[Lib.join,List.intercalate,List.intersperse]
 |x::y::r=>by
  have ih:=Jbp hs (l:=y::r)
  have e:Lib.join (x::y::r) sep=x++sep++Lib.join (y::r) sep:=by simp[Lib.join,List.intercalate,List.intersperse]
  rw[e]
  simp only[List.length_append,List.map_cons,List.sum_cons] at ih⊢
  omega
theorem Jiz {e:Ev} (h:Y2 e):(Lib.join ((Ht e).map (·.data.toList)) [32]).length≤1000000:=by
 refine Nat.le_trans (Jbp (sep:=[32]) rfl) (Nat.le_trans (Nat.le_of_eq ?_) h.siz)
 rw[List.map_map]
 congr 1
def Kfy:Con:={args:=[aEv],ress:=[tS],owns:=[],pre:=fun(e,_)=>[Y2 e],spec:=fun(e,_)=>(Jp e,())}
def Hz:=ByteArray.mk (Array.mk [32])
def Ko5 (a:Ls) (b:Li):=[]++a++List.map (fun(x:Int)=>Ku x) b
theorem Kr3:Ok Tryz.prog 183 Kfy:=okW K6v Tryz.f183 na fun xx=>by
 obtain⟨⟨(n:Int),(k:ByteArray),(ns:List ByteArray),(vs:List Int),(tx:ByteArray)⟩,_⟩:=xx
 refine(by kernel_rfl:(Y2 (n,k,ns,vs,tx)→(Iw n∧(2+List.length ns)*16≤140737488355328)∧(Z66 vs∧(∀(x:Int),J9e vs x→Iw x)∧(List.length (Ku n::k::([]++ns))+List.length (List.map (fun(x:Int)=>Ku x) vs))*16≤140737488355328∧List.length (Ku n::k::Ko5 ns vs)≤1000000∧List.length (Lib.join ((Ku n).data.1::k.data.1::List.map (fun(x:ByteArray)=>Z14 x) (Ko5 ns vs)) [32])≤140737488355328)∧Vi (Ku n::k::Ko5 ns vs) Hz=Jp (n,k,ns,vs,tx))=_).mp ?_
 delta Z14 Z66 Hz J9e Ko5 Iw
 intro h
 have h1: -999999999≤n∧n≤999999999:=h.num
 have h2:ns.length≤1000:=h.nn
 have h3:vs.length≤1000:=h.nv
 have hs:=Jiz h
 simp only[List.nil_append,List.length_cons,List.length_append,List.length_map]
 exact⟨by(repeat' first|apply And.intro|(first|omega|dsimp only;omega)),⟨by omega,fun x hx=>by have:=h.val x hx;omega,by omega,by omega,Nat.le_trans hs (by decide)⟩,rfl⟩
abbrev K6u:=K6v.add Kr3
theorem Dn (s:ByteArray):(Dj s).size=7:=by
 have h:=Jjq s
 unfold Dj J6j
 rw[Kc,List.length_append,List.length_replicate]
 omega
theorem Jen {e:Ev} (h:Y2 e):(Jp e).size≤1000000:=Jiz h
def Jeb (e:Ev):ByteArray:=bs ((Jp e).data.toList++[35]++(Dj (Jp e)).data.toList++[10])
def K9g:Con:={args:=[aEv],ress:=[tS],owns:=[],pre:=fun(e,_)=>[Y2 e],spec:=fun(e,_)=>(Jeb e,())}
def Ky7 (a:Int) (b:Bt) (c:Ls) (d:Li) (e:Bt):=Array.mk ((Array.mk ((Jp (a,b,c,d,e)).data.toList++[35])).toList++(Dj (Jp (a,b,c,d,e))).data.toList)
theorem Ktu:Ok Tryz.prog 106 K9g:=okW K6u Tryz.f106 na fun xx=>by
 obtain⟨⟨(n:Int),(k:ByteArray),(ns:List ByteArray),(vs:List Int),(tx:ByteArray)⟩,_⟩:=xx
 refine(by kernel_rfl:(Y2 (n,k,ns,vs,tx)→Y2 (n,k,ns,vs,tx)∧(Nc (ByteArray.size (Jp (n,k,ns,vs,tx))+1)≤9223372036854775807∧ByteArray.size (Jp (n,k,ns,vs,tx))≤1000000∧Nc (ByteArray.size (ByteArray.mk (Array.mk ((Jp (n,k,ns,vs,tx)).data.toList++[35])))+ByteArray.size (Dj (Jp (n,k,ns,vs,tx))))≤9223372036854775807∧Nc (ByteArray.size (ByteArray.mk (Ky7 n k ns vs tx))+1)≤9223372036854775807)∧ByteArray.mk (Array.mk ((Ky7 n k ns vs tx).toList++[10]))=Jeb (n,k,ns,vs,tx))=_).mp ?_
 delta Ky7 Nc
 intro h
 have h1:=Jen h
 have h2:=Dn (Jp (n,k,ns,vs,tx))
 have h3:(bs ((Jp (n,k,ns,vs,tx)).data.toList++[35])).size=(Jp (n,k,ns,vs,tx)).size+1:=by rw[Kc,List.length_append];simp
 have h4:(bs ((Jp (n,k,ns,vs,tx)).data.toList++[35]++(Dj (Jp (n,k,ns,vs,tx))).data.toList)).size=(Jp (n,k,ns,vs,tx)).size+8:=by rw[Kc,List.length_append,List.length_append];simp[h2]
 refine⟨h,⟨by omega,h1, ?_, ?_⟩,rfl⟩
 ·show((bs ((Jp (n,k,ns,vs,tx)).data.toList++[35])).size+(Dj (Jp (n,k,ns,vs,tx))).size:Nat)≤(9223372036854775807:Int)
  omega
 ·show((bs ((Jp (n,k,ns,vs,tx)).data.toList++[35]++(Dj (Jp (n,k,ns,vs,tx))).data.toList)).size+1:Nat)≤(9223372036854775807:Int)
  omega
abbrev Uag:=K6u.add Ktu
abbrev K6t:=Uag.add Kqo
abbrev Tk:=List ByteArray×Bool
def Ul:Tk→ByteArray×Tk
 |([],_)=>(Ja,[],true)
 |(w::l,b)=>bif w.toList==Ja.toList then(Ja,[],true) else(w,l,b)
def L5 (t:Tk):Bool:=bif (t.1.length:Int)==0 then true else(t.1.getD 0 Ja).toList==Ja.toList
theorem Ja9:∀(t:Tk),Ul t=bif L5 t then(Ja,[],true) else(t.1.getD 0 Ja,t.1.drop 1,t.2)
 |([],_)=>rfl
 | (w :: l, b) => by
  have e:L5 (w::l,b)=(w.toList==Ja.toList):=by
   unfold L5
   rw[beq_eq_false_iff_ne.2 (show(((w::l,b):Tk).1.length:Int)≠0 by simp;omega)];rfl
  rw[e]
  show(bif w.toList==Ja.toList then(Ja,[],true) else(w,l,b))=_
  cases w.toList==Ja.toList<;>rfl
theorem Jej {t:Tk} (h:L5 t=false):0<t.1.length:=by
 unfold L5 at h
 by_cases q:t.1.length=0
 ·rw[q] at h;cases h
 ·omega
def Jdw (t:Tk):Int×Tk:=((Jz (Ul t).1).1,(Ul t).2.1,bif (Ul t).2.2 then true else !(Jz (Ul t).1).2)
def Vv:Nat→Tk→List ByteArray→List ByteArray×Tk
 |0,t,o=>(o,t)
 |n+1,t,o=>Vv n (Ul t).2 (o++[(Ul t).1])
def Yy:Nat→Tk→List Int→List Int×Tk
 |0,t,o=>(o,t)
 |n+1,t,o=>Yy n (Jdw t).2 (o++[(Jdw t).1])
def evz:Ev:=(0,Ja,[],[],Ja)
theorem Jco (k:ByteArray):(Ji k).1.length≤3∧0≤(Ji k).2.1∧(Ji k).2.1≤4:=by
 cases h:U8 k with
 | false =>
  have e:Ji k=([],0,none,none,none):=by
   unfold U8 at h
   unfold Ji
   cases hm:Vt .str k L4 with
   |none=>rfl
   |some v=>rw[hm] at h;cases h
  rw[e];decide
 |true=>
  rcases Ut h with h|h|h|h|h|h|h|h|h|h|h<;>subst h
  all_goals first|(rw[Jcp];decide)|(rw[Ub];decide)|(rw[Vg];decide)|(rw[Uw];decide)|(rw[Ux];decide)|(rw[Vu];decide)|(rw[Kw];decide)|(rw[Kk];decide)|(rw[K8];decide)|(rw[K7];decide)|(rw[Uv];decide)
def Xz (ws:List ByteArray):List ByteArray×Tk:=Vv (Ji (Ul (ws,false)).1).1.length (Ul (ws,false)).2 []
def Jbi (ws:List ByteArray):List Int×Tk:=Yy (Ji (Ul (ws,false)).1).2.1.toNat (Xz ws).2 []
def Vs (ws:List ByteArray):Ev×Bool:=bif U8 (Ul (ws,false)).1 then((0,(Ul (ws,false)).1,(Xz ws).1,(Jbi ws).1,Ja),bif !(Jbi ws).2.2 then((Jbi ws).2.1.length:Int)==0 else false) else(evz,false)
def Kug:Con:={args:=[.val false (.list 9 .str)],ress:=[(true,sEv),Bo],owns:=[],pre:=fun(ws,_)=>[ws.length≤1000000,∀w∈ws,w.size≤1000000],spec:=fun(ws,_)=>((Vs ws).1,(Vs ws).2,())}
abbrev J8a (ws:List ByteArray):Nat→Option Ann:=fun id=>if id=0 then some {X:=Nat×Tk×List ByteArray,σ:=fun(i,(rem,b),o)=>⟨9,[(2, .one (.ptr 1 0)),(4, .one (.ptr 2 0)),(5, .one (.fv 3)),(6, .one (.fv 4)),(7, .one (.ptr 5 0)),(8, .one (.ptr 7 0)),(34, .one (.int .i64 (Ji (Ul (ws,false)).1).1.length)),(35, .one (.int .i64 i))],[(1, .box 67 [.int .i64 0, .str Ja, .val (.slice none 0 0), .val (.slice none 0 0), .str Ja]),(2, .box 279 [.sl 0, .bool b]),(3, .clo 210 [.one (.ptr 2 0)] []),(4, .clo 211 [.one (.ptr 2 0)] []),(5, .box 67 [.int .i64 0, .str (Ul (ws,false)).1, .sl 6, .val (.slice none 0 0), .str Ja]),(7, .box 173 [.sl 8, .int .i64 (Ji (Ul (ws,false)).1).2.1, .fno (Ji (Ul (ws,false)).1).2.2.1, .fno (Ji (Ul (ws,false)).1).2.2.2.1, .fno (Ji (Ul (ws,false)).1).2.2.2.2]),(6, .own 9 .str o),(8, .imm 251 J1j (Ji (Ul (ws,false)).1).1),(0, .imm 9 .str rem)]⟩,inv:=fun(i,t,o)=>i≤(Ji (Ul (ws,false)).1).1.length∧t.1.length≤1000000∧(∀w∈t.1,w.size≤1000000)∧o.length=i∧Vv ((Ji (Ul (ws,false)).1).1.length-i) t o=Xz ws,mu:=fun(i,_)=>(Ji (Ul (ws,false)).1).1.length-i}
 else if id=2 then some {X:=Nat×Tk×List Int,σ:=fun(i,(rem,b),o)=>⟨10,[(2, .one (.ptr 1 0)),(4, .one (.ptr 2 0)),(6, .one (.fv 4)),(7, .one (.ptr 5 0)),(47, .one (.int .i64 (Ji (Ul (ws,false)).1).2.1)),(48, .one (.int .i64 i))],[(1, .box 67 [.int .i64 0, .str Ja, .val (.slice none 0 0), .val (.slice none 0 0), .str Ja]),(2, .box 279 [.sl 0, .bool b]),(4, .clo 211 [.one (.ptr 2 0)] []),(5, .box 67 [.int .i64 0, .str (Ul (ws,false)).1, .sl 6, .sl 9, .str Ja]),(6, .own 9 .str (Xz ws).1),(9, .own 3 sI o),(0, .imm 9 .str rem)]⟩,inv:=fun(i,t,o)=>i≤(Ji (Ul (ws,false)).1).2.1.toNat∧t.1.length≤1000000∧(∀w∈t.1,w.size≤1000000)∧o.length=i∧Yy ((Ji (Ul (ws,false)).1).2.1.toNat-i) t o=Jbi ws,mu:=fun(i,_)=>(Ji (Ul (ws,false)).1).2.1.toNat-i}
 else none
def Z78 (a:Ls):=(Ji (Ul (a,false)).1).2
def Z80 (a:Ls):=(Ji (Ul (a,false)).1).1
def J0v (a:Ls):=(Z78 a).1
def Kjs (a:Ls):=(Z78 a).2.1
def Kjr (a:Ls):=(Z78 a).2.2.1
def Kjo (a:Ls):=(Z78 a).2.2.2
def Kjl (a:Nat×Tk×Li):=List.getD a.2.1.1 0 B0
def J9i (a:Ls):=Int.toNat (J0v a)
def Kcu (a:Ls):=Ln (Z80 a)
def J9a (a:Ls):=List.length (Z80 a)
def K4s (a:Nat×Tk×Ls):=(List.length a.2.2+1)*16≤140737488355328
def K4p (a:Ls):=(Ji (Ul (a,false)).1).1=Z80 a
def K26 (a:Ls):=Sf true (D5=(Vs a).1∧false=(Vs a).2)
def Kz8 (a:Ls):=Vt Sch.str (U2 a) L4
def Kkn (a:Ls):=Option.getD (Kz8 a) Kca
def Kxe (a:Nat×(Ls×Bool)×Li) (b:Ls):=a.1≤J9i b∧List.length a.2.1.1≤1000000∧(∀(w:ByteArray),w∈a.2.1.1→ByteArray.size w≤1000000)∧List.length a.2.2=a.1∧Yy (J9i b-a.1) a.2.1 a.2.2=Jbi b
def Kxc (a:Ls):=(Kkn a).2
def Kxb (a:Ls):=(Kxc a).2
def Kw9 (a:Ls):=(Kxb a).2
def Kwy (a:Nat×(Ls×Bool)×Ls) (b:Ls):=a.1≤J9a b∧List.length a.2.1.1≤1000000∧(∀(w:ByteArray),w∈a.2.1.1→ByteArray.size w≤1000000)∧List.length a.2.2=a.1∧Vv (J9a b-a.1) a.2.1 a.2.2=Xz b
def Kwk (a:Nat×(Ls×Bool)×Li) (b:Ls) (c:Nat×Tk×Li):=Kxe a b∧J9i b-a.1<J9i b-c.1
def Kwc (a:Nat×(Ls×Bool)×Ls) (b:Ls) (c:Nat×Tk×Ls):=Kwy a b∧J9a b-a.1<J9a b-c.1
def J9l (a:Nat×(Ls×Bool)×Ls) (b:Ls):=Kwy a b∧∀(x:Nat×Tk×List ByteArray),x.1≤J9a b∧List.length x.2.1.1≤1000000∧(∀(w:ByteArray),w∈x.2.1.1→ByteArray.size w≤1000000)∧List.length x.2.2=x.1∧Vv (J9a b-x.1) x.2.1 x.2.2=Xz b→Br (decide (Nc x.1<Kcu b)) (Tw ((Ln x.2.1.1==0)=false→Bd 0 (Ln x.2.1.1))∧Br (bif Ln x.2.1.1==0 then true else Lb (List.getD x.2.1.1 0 B0) B0) (K4s x∧Iw (Nc x.1+1)∧∃(y:Nat×(List ByteArray×Bool)×List ByteArray),Si (Kcu b) (Nc x.1+1=Nc y.1∧Si 0 (Sf Ja (Sf Vm (Sf Vm (Sf Ja (true=y.2.1.2∧Si 0 (Sf (Ul (b,false)).1 (Sf Vm (Sf Ja (Si (J0v b) (Sf (Kjs b) (Sf (Kjr b) (Sf (Kjo b) (x.2.2++[B0]=y.2.2∧K4p b∧List.length y.2.1.1=0))))))))))))))∧Kwc y b x) (Tw (Bd 0 (Ln x.2.1.1))∧((0:Int)≤1∧1≤Ln x.2.1.1∧Ln x.2.1.1≤Ln x.2.1.1)∧K4s x∧Iw (Nc x.1+1)∧∃(y:Nat×(List ByteArray×Bool)×List ByteArray),Si (Kcu b) (Nc x.1+1=Nc y.1∧Si 0 (Sf Ja (Sf Vm (Sf Vm (Sf Ja (x.2.1.2=y.2.1.2∧Si 0 (Sf (Ul (b,false)).1 (Sf Vm (Sf Ja (Si (J0v b) (Sf (Kjs b) (Sf (Kjr b) (Sf (Kjo b) (x.2.2++[List.getD x.2.1.1 0 B0]=y.2.2∧K4p b∧List.drop 1 (List.take (List.length x.2.1.1) x.2.1.1)=y.2.1.1))))))))))))))∧Kwc y b x)) (∃(x_1:Nat×(List ByteArray×Bool)×List Int),Si (J0v b) (0=Nc x_1.1∧Si 0 (Sf Ja (Sf Vm (Sf Vm (Sf Ja (x.2.1.2=x_1.2.1.2∧Si 0 (Sf (Ul (b,false)).1 (Sf Ja (x.2.2=(Xz b).1∧List.length x_1.2.2=0∧x.2.1.1=x_1.2.1.1)))))))))∧Kxe x_1 b∧∀(x:Nat×Tk×List Int),x.1≤J9i b∧List.length x.2.1.1≤1000000∧(∀(w:ByteArray),w∈x.2.1.1→ByteArray.size w≤1000000)∧List.length x.2.2=x.1∧Yy (J9i b-x.1) x.2.1 x.2.2=Jbi b→Br (decide (Nc x.1<J0v b)) (Tw ((Ln x.2.1.1==0)=false→Bd 0 (Ln x.2.1.1))∧Br (bif Ln x.2.1.1==0 then true else Lb (Kjl x) B0) (0≤1000000∧(List.length x.2.2+1)*8≤140737488355328∧Iw (Nc x.1+1)∧∃(y:Nat×(List ByteArray×Bool)×List Int),Si (J0v b) (Nc x.1+1=Nc y.1∧Si 0 (Sf Ja (Sf Vm (Sf Vm (Sf Ja (true=y.2.1.2∧Si 0 (Sf (Ul (b,false)).1 (Sf Ja ((Xz b).1=(Xz b).1∧x.2.2++[(Jz B0).1]=y.2.2∧List.length y.2.1.1=0)))))))))∧Kwk y b x) (Tw (Bd 0 (Ln x.2.1.1))∧((0:Int)≤1∧1≤Ln x.2.1.1∧Ln x.2.1.1≤Ln x.2.1.1)∧ByteArray.size (Kjl x)≤1000000∧(List.length x.2.2+1)*8≤140737488355328∧Iw (Nc x.1+1)∧∃(y:Nat×(List ByteArray×Bool)×List Int),Si (J0v b) (Nc x.1+1=Nc y.1∧Si 0 (Sf Ja (Sf Vm (Sf Vm (Sf Ja ((bif x.2.1.2 then true else !(Jz (Kjl x)).2)=y.2.1.2∧Si 0 (Sf (Ul (b,false)).1 (Sf Ja ((Xz b).1=(Xz b).1∧x.2.2++[(Jz (Kjl x)).1]=y.2.2∧List.drop 1 (List.take (List.length x.2.1.1) x.2.1.1)=y.2.1.1)))))))))∧Kwk y b x)) (Sf true ((0,(Ul (b,false)).1,(Xz b).1,x.2.2,Ja)=(Vs b).1∧(bif !x.2.1.2 then Ln x.2.1.1==0 else false)=(Vs b).2)))
theorem Ktn:Ok Tryz.prog 120 Kug:=J4n K6t Tryz.f120 (U4 (l:=([(210,Tryz.f210),(211,Tryz.f211)]:List (Nat×Func))) (List.forall_mem_cons.2 ⟨by kernel_rfl,List.forall_mem_cons.2 ⟨by kernel_rfl,by simp⟩⟩)) (fun xx=>J8a xx.1) (fun xx=>fun _=>na ()) fun xx=>by
 obtain⟨(ws:List ByteArray),_⟩:=xx
 refine(by kernel_rfl:(Fm ws→Jg6 ws→Tw ((Ln ws==0)=false→Yf ws)∧Br (bif Ln ws==0 then true else Lb (U2 ws) B0) (Br true (K26 ws) (∃(x:Nat×(List ByteArray×Bool)×List ByteArray),(0=Kcu ws∧0=Nc x.1∧Si 0 (B0=Ja∧Sf Vm (Sf Vm (B0=Ja∧true=x.2.1.2∧Si 0 (B0=(Ul (ws,false)).1∧Sf Vm (B0=Ja∧0=J0v ws∧none=Kjs ws∧none=Kjr ws∧none=Kjo ws∧List.length x.2.2=0∧[]=Z80 ws∧List.length x.2.1.1=0))))))∧J9l x ws)) (Tw (Yf ws)∧((0:Int)≤1∧1≤Ln ws∧Ln ws≤Ln ws)∧Br (!Option.isSome (Kz8 ws)) (K26 ws) (∃(x:Nat×(List ByteArray×Bool)×List ByteArray),(Ln (Kkn ws).1=Kcu ws∧0=Nc x.1∧Si 0 (B0=Ja∧Sf Vm (Sf Vm (B0=Ja∧false=x.2.1.2∧Si 0 (U2 ws=(Ul (ws,false)).1∧Sf Vm (B0=Ja∧(Kxc ws).1=J0v ws∧(Kxb ws).1=Kjs ws∧(Kw9 ws).1=Kjr ws∧(Kw9 ws).2=Kjo ws∧List.length x.2.2=0∧(Kkn ws).1=Z80 ws∧List.drop 1 (List.take (List.length ws) ws)=x.2.1.1))))))∧J9l x ws)))=_).mp ?_
 delta Z78 Z80 J0v Yf U2 Fm Kjs Kjr Kjo Kjl Vm J9i D5 Kcu J9a K4s K4p Jhi Kca K26 Jg6 Kz8 Kkn Kxe Kxc Kxb Kw9 Kwy Kwk Kwc J9l Br Iw Bd Tw Sf Si Ln Nc B0 Lb
 intro h1 h2
 have hk0:U8 Ja=false:=by kernel_rfl
 have hB:=Jco (ws.getD 0 Ja)
 have hsz:∀k,k<ws.length→(ws.getD k Ja).size≤1000000:=fun k hk=>h2 _ (Jd hk)
 refine⟨⟨fun h=> ?_,fun h=> ?_⟩,fun hc=>⟨fun _=>⟨rfl, ?_⟩,fun h=>(by cases h)⟩,fun hc=> ?_⟩
 ·have:=beq_eq_false_iff_ne.1 h;omega
 ·have:=beq_eq_false_iff_ne.1 h;omega
 ·have e:Ul (ws,false)=(Ja,[],true):=by rw[Ja9,show L5 (ws,false)=true from hc];rfl
  have e2:Vs ws=(evz,false):=by unfold Vs;rw[e,hk0];rfl
  rw[e2];exact⟨rfl,rfl⟩
 ·have hc':L5 (ws,false)=false:=hc
  have e:Ul (ws,false)=(ws.getD 0 Ja,ws.drop 1,false):=by rw[Ja9,hc'];rfl
  have hl:0<ws.length:=Jej hc'
  have eD:(Vt Sch.str (ws.getD 0 ({data:={toList:=[]}}:ByteArray)) L4).getD ([],0,none,none,none)=Ji (ws.getD 0 Ja):=rfl
  have eK:(Vt Sch.str (ws.getD 0 ({data:={toList:=[]}}:ByteArray)) L4).isSome=U8 (ws.getD 0 Ja):=rfl
  simp only[e,eD,eK]
  refine⟨by(repeat' first|apply And.intro|(first|omega|dsimp only;omega)),by(repeat' first|apply And.intro|(first|omega|dsimp only;omega)),fun hk=>⟨trivial, ?_⟩,fun hk=>⟨((0:Nat),(ws.drop 1,false),[]), ?_,⟨Nat.zero_le _,by simp only[List.length_drop];omega,fun w hw=>h2 w (List.mem_of_mem_drop hw),rfl,by unfold Xz;rw[e];rfl⟩,fun(x:Nat×Tk×List ByteArray) hx=>⟨fun hlt=> ?_,fun hlt=> ?_⟩⟩⟩
  ·have hk:U8 (ws.getD 0 Ja)=false:=by simpa using hk
   have e2:Vs ws=(evz,false):=by unfold Vs;rw[e,hk];rfl
   rw[e2];exact⟨rfl,rfl⟩
  ·rw[List.take_length]
   repeat' first|exact rfl|exact⟨⟩|apply And.intro|omega|dsimp only;omega
  ·obtain⟨i,⟨rem,b⟩,o⟩:=x
   obtain⟨i1,i2,i3,i4,i5⟩:=hx
   have hlt:i<(Ji (ws.getD 0 Ja)).1.length:=by simpa using hlt
   dsimp only at i1 i2 i3 i4 i5
   have hn:(Ji (ws.getD 0 Ja)).1.length-i=((Ji (ws.getD 0 Ja)).1.length-(i+1))+1:=by omega
   rw[hn,Vv,Ja9] at i5
   refine⟨⟨fun h=> ?_,fun h=> ?_⟩,fun h=> ?_,fun h=> ?_⟩
   ·have:=beq_eq_false_iff_ne.1 h;(first|omega|dsimp only;omega)
   ·have:=beq_eq_false_iff_ne.1 h;(first|omega|dsimp only;omega)
   ·have h:L5 (rem,b)=true:=h
    rw[h,cond_true] at i5
    refine⟨by(first|omega|dsimp only;omega),by(repeat' first|apply And.intro|(first|omega|dsimp only;omega)),(i+1,([],true),o++[Ja]), ?_,⟨by(first|omega|dsimp only;omega),by simp,fun w hw=>(by cases hw),by simp[i4],i5⟩,by(first|omega|dsimp only;omega)⟩
    repeat' first|exact rfl|exact⟨⟩|apply And.intro|omega|dsimp only;omega
   ·have h:L5 (rem,b)=false:=h
    have hr:0<rem.length:=Jej h
    rw[h,cond_false] at i5
    refine⟨by(repeat' first|apply And.intro|(first|omega|dsimp only;omega)),by(repeat' first|apply And.intro|(first|omega|dsimp only;omega)),by(first|omega|dsimp only;omega),by(repeat' first|apply And.intro|(first|omega|dsimp only;omega)),(i+1,(rem.drop 1,b),o++[rem.getD 0 Ja]), ?_,⟨by(first|omega|dsimp only;omega),by simp only[List.length_drop];omega,fun w hw=>i3 w (List.mem_of_mem_drop hw),by simp[i4],i5⟩,by(first|omega|dsimp only;omega)⟩
    dsimp only
    rw[List.take_length]
    repeat' first|exact rfl|exact⟨⟩|apply And.intro|omega|dsimp only;omega
  ·obtain⟨i,⟨rem,b⟩,o⟩:=x
   obtain⟨i1,i2,i3,i4,i5⟩:=hx
   have hlt:¬i<(Ji (ws.getD 0 Ja)).1.length:=by simpa using hlt
   dsimp only at i1 i2 i3 i4 i5
   have hn:(Ji (ws.getD 0 Ja)).1.length-i=0:=by omega
   rw[hn,Vv] at i5
   have eN:(Xz ws).1=o:=by rw[←i5]
   have eT:(Xz ws).2=(rem,b):=by rw[←i5]
   simp only[eN]
   refine⟨((0:Nat),(rem,b),[]), ?_,⟨Nat.zero_le _,i2,i3,rfl,by unfold Jbi;rw[e,eT];rfl⟩,fun(x:Nat×Tk×List Int) hx=>⟨fun hlt=> ?_,fun hlt=> ?_⟩⟩
   ·repeat' first|exact rfl|exact⟨⟩|apply And.intro|omega|dsimp only;omega
   ·obtain⟨j,⟨rem,b⟩,o2⟩:=x
    obtain⟨j1,j2,j3,j4,j5⟩:=hx
    have hlt:(j:Int)<(Ji (ws.getD 0 Ja)).2.1:=of_decide_eq_true hlt
    dsimp only at j1 j2 j3 j4 j5
    have hn:(Ji (ws.getD 0 Ja)).2.1.toNat-j=((Ji (ws.getD 0 Ja)).2.1.toNat-(j+1))+1:=by omega
    rw[hn,Yy,Jdw,Ja9] at j5
    refine⟨⟨fun h=> ?_,fun h=> ?_⟩,fun h=> ?_,fun h=> ?_⟩
    ·have:=beq_eq_false_iff_ne.1 h;(first|omega|dsimp only;omega)
    ·have:=beq_eq_false_iff_ne.1 h;(first|omega|dsimp only;omega)
    ·have h:L5 (rem,b)=true:=h
     rw[h,cond_true] at j5
     refine⟨by decide,by(first|omega|dsimp only;omega),by(repeat' first|apply And.intro|(first|omega|dsimp only;omega)),(j+1,([],true),o2++[(Jz Ja).1]), ?_,⟨by(first|omega|dsimp only;omega),by simp,fun w hw=>(by cases hw),by simp[j4],j5⟩,by(first|omega|dsimp only;omega)⟩
     repeat' first|exact rfl|exact⟨⟩|apply And.intro|omega|dsimp only;omega
    ·have h:L5 (rem,b)=false:=h
     have hr:0<rem.length:=Jej h
     rw[h,cond_false] at j5
     refine⟨by(repeat' first|apply And.intro|(first|omega|dsimp only;omega)),by(repeat' first|apply And.intro|(first|omega|dsimp only;omega)),j3 _ (Jd hr),by(first|omega|dsimp only;omega),by(repeat' first|apply And.intro|(first|omega|dsimp only;omega)),(j+1,(rem.drop 1,bif b then true else !(Jz (rem.getD 0 Ja)).2),o2++[(Jz (rem.getD 0 Ja)).1]), ?_,⟨by(first|omega|dsimp only;omega),by simp only[List.length_drop];omega,fun w hw=>j3 w (List.mem_of_mem_drop hw),by simp[j4],j5⟩,by(first|omega|dsimp only;omega)⟩
     dsimp only
     rw[List.take_length]
     repeat' first|exact rfl|exact⟨⟩|apply And.intro|omega|dsimp only;omega
   ·obtain⟨j,⟨rem2,b2⟩,o2⟩:=x
    obtain⟨j1,j2,j3,j4,j5⟩:=hx
    have hlt:¬(j:Int)<(Ji (ws.getD 0 Ja)).2.1:=of_decide_eq_false hlt
    dsimp only at j1 j2 j3 j4 j5
    have hn:(Ji (ws.getD 0 Ja)).2.1.toNat-j=0:=by omega
    rw[hn,Yy] at j5
    have hk:U8 (ws.getD 0 Ja)=true:=by simpa using hk
    have e2:Vs ws=((0,ws.getD 0 Ja,o,o2,Ja),bif !b2 then((rem2.length:Int)==0) else false):=by
     unfold Vs
     rw[e,hk,cond_true,eN,←j5]
    rw[e2];exact⟨trivial,rfl,rfl⟩
abbrev K6s:=K6t.add Ktn
def L6 (c:UInt8):List UInt8→List UInt8
 |[]=>[]
 |b::r=>if b=c then[] else b::L6 c r
def Fj (c:UInt8):List UInt8→List UInt8
 |[]=>[]
 |b::r=>if b=c then r else Fj c r
def Jd1 (c:UInt8):List UInt8→Bool
 |[]=>false
 |b::r=>if b=c then true else Jd1 c r
theorem Jwt (c:UInt8):∀l:List UInt8,Lib.cut l [c]=(L6 c l,Fj c l,Jd1 c l)
 |[]=>rfl
 | b :: r => by
  have ih:=Jwt c r
  have hg:=Lib.index_ge r [c]
  by_cases h:b=c
  ·subst h
   have e:Lib.index (b::r) [b]=0:=by simp[Lib.index,List.isPrefixOf]
   unfold Lib.cut L6 Fj Jd1
   rw[e,if_pos rfl,if_pos rfl,if_pos rfl]
   rfl
  ·have hp:[c].isPrefixOf (b::r)=false:=by
    have:¬c=b:=fun e=>h e.symm
    simp[List.isPrefixOf,this]
   have hi:Lib.index (b::r) [c]=if Lib.index r [c]== -1 then -1 else Lib.index r [c]+1:=by rw[Lib.index,hp];rfl
   unfold L6 Fj Jd1
   rw[if_neg h,if_neg h,if_neg h]
   unfold Lib.cut at ih⊢
   by_cases h1:Lib.index r [c]= -1
   ·have e2:Lib.index (b::r) [c]= -1:=by rw[hi,h1];rfl
    rw[h1,if_neg (by decide)] at ih
    rw[e2,if_neg (by decide)]
    simp only[Prod.mk.injEq] at ih⊢
    exact⟨by rw[←ih.1],ih.2⟩
   ·obtain⟨i,hj⟩:=Int.eq_ofNat_of_zero_le (by omega:0≤Lib.index r [c])
    have e2:Lib.index (b::r) [c]=((i+1:Nat):Int):=by rw[hi,if_neg (by simpa using h1),hj];rfl
    rw[hj,if_pos (by omega)] at ih
    rw[e2,if_pos (by omega)]
    simp only[Prod.mk.injEq,Int.toNat_natCast,List.length_singleton] at ih⊢
    exact⟨by rw[List.take_succ_cons,ih.1],by rw[←ih.2.1];rfl,ih.2.2⟩
theorem Jk1 (c:UInt8):∀l:List UInt8,(L6 c l).length≤l.length
 |[]=>Nat.le_refl _
 |b::r=>by
  have:=Jk1 c r
  unfold L6
  split<;>simp only[List.length_cons,List.length_nil]<;>omega
theorem Jem (c:UInt8):∀l:List UInt8,(Fj c l).length≤l.length
 |[]=>Nat.le_refl _
 |b::r=>by
  have:=Jem c r
  unfold Fj
  split<;>simp only[List.length_cons]<;>omega
theorem Jxr (s:ByteArray) (c:UInt8):Jz9 s ⟨⟨[c]⟩⟩=(bs (L6 c s.data.toList),bs (Fj c s.data.toList),Jd1 c s.data.toList):=by
 unfold Jz9
 rw[show((⟨⟨[c]⟩⟩:ByteArray).data.toList)=[c] from rfl,Jwt]
 rfl
theorem Jly (s:ByteArray):Y4 s ⟨⟨[32]⟩⟩=Do s 32:=Lq s 32
def Vz (s:ByteArray):ByteArray:=bs (s.data.toList.take (s.size-8))
def Je0 (s:ByteArray):ByteArray:=bs (s.data.toList.drop (s.size-7))
def Jhs (b:ByteArray):ByteArray:=bs (L6 32 b.data.toList)
def Jma (b:ByteArray):ByteArray:=bs (Fj 32 b.data.toList)
def evX (b:ByteArray):Ev:=((Jz (Jhs b)).1,(Vs (Do (Jma b) 32)).1.2)
def okX (b:ByteArray):Bool:=bif bif !(Jz (Jhs b)).2 then true else !(Vs (Do (Jma b) 32)).2 then true else Jb (evX b) !=0
def Jdc (s:ByteArray):Bool:=bif bif decide ((s.size:Int)-7-1<0) then true else((s.data.toList.getD (s.size-8) 0).toNat:Int) !=35 then true else !Jrf (Je0 s)
def U6 (s:ByteArray):Ev×Int:=bif Jdc s then(evz,25) else bif !((Dj (Vz s)).toList==(Je0 s).toList) then(evz,27) else bif okX (Vz s) then(evz,25) else(evX (Vz s),0)
def Ky (s:ByteArray) (k:Int):Ev×Int:=if(U6 s).2=0 then((U6 s).1,bif (U6 s).1.1 !=k then 11 else 0) else U6 s
def Kfo:Con:={args:=[aS,aI],ress:=[(true,sEv),I],owns:=[],pre:=fun(s,_)=>[s.size≤1000000],spec:=fun(s,k,_)=>((Ky s k).1,(Ky s k).2,())}
theorem Jlw (t:Tk):((Ul t).1=Ja∨(Ul t).1∈t.1)∧∀w∈(Ul t).2.1,w∈t.1:=by
 rw[Ja9]
 cases h:L5 t with
 |true=>exact⟨.inl rfl,fun w hw=>by cases hw⟩
 |false=>exact⟨.inr (Jd (Jej h)),fun w hw=>List.mem_of_mem_drop hw⟩
theorem Jh9:∀(n:Nat) (t:Tk) (o:List ByteArray),(Vv n t o).1.length=o.length+n
 |0,_,_=>rfl
 |n+1,t,o=>by
  rw[Vv,Jh9 n]
  simp only[List.length_append,List.length_singleton]
  omega
theorem Jh8:∀(n:Nat) (t:Tk) (o:List ByteArray),∀s∈(Vv n t o).1,s∈o∨s=Ja∨s∈t.1
 |0,_,_,s,h=> .inl h
 | n + 1, t, o, s, h => by
  have hs:=Jlw t
  rw[Vv] at h
  rcases Jh8 n _ _ s h with h|h|h
  ·rcases List.mem_append.1 h with h|h
   ·exact .inl h
   ·rw[List.mem_singleton.1 h]
    exact .inr hs.1
  ·exact .inr (.inl h)
  ·exact .inr (.inr (hs.2 _ h))
theorem Jh6:∀(n:Nat) (t:Tk) (o:List Int),(Yy n t o).1.length=o.length+n
 |0,_,_=>rfl
 |n+1,t,o=>by
  rw[Yy,Jh6 n]
  simp only[List.length_append,List.length_singleton]
  omega
theorem Jqq {ws:List ByteArray} (hw:∀w∈ws,w.size≤1000000):(Vs ws).1.2.2.1.length≤3∧(Vs ws).1.2.2.2.1.length≤4∧∀s∈(Vs ws).1.2.2.1,s.size≤1000000:=by
 have hB:=Jco (Ul (ws,false)).1
 have hs:=Jlw (ws,false)
 unfold Vs
 cases U8 (Ul (ws,false)).1 with
 |false=>exact⟨Nat.zero_le _,Nat.zero_le _,fun s h=>by cases h⟩
 | true =>
  simp only[cond_true]
  refine⟨?_, ?_,fun s h=> ?_⟩
  ·unfold Xz;rw[Jh9];simp;omega
  ·unfold Jbi;rw[Jh6];simp;omega
  ·rcases Jh8 _ _ _ s h with h|h|h
   ·cases h
   ·rw[h];decide
   ·exact hw _ (hs.2 _ h)
theorem Ff {s:ByteArray} {k:Int} {x:Ev×Int} (h:U6 s=x) (hx:x.2≠0):Ky s k=x:=by
 unfold Ky;rw[h,if_neg hx]
def J3l (a:Bt):=Nc (ByteArray.size a)-(7:Int)-1
def Kcv (a:Bt):=J3l a+1
def K4u (a:Bt):=decide (J3l a<0)
def Ko0 (a:Bt):=ByteArray.extract a 0 (Int.toNat (J3l a))
def Koi (a:Bt):=ByteArray.extract a (Int.toNat (Kcv a)) (ByteArray.size a)
def K30 (a:Bt):=ByteArray.size (Ko0 a)≤1000000
def K3g (a:Bt) (b:Int):=D5=(Ky a b).1∧25=(Ky a b).2
def K2k (a:Bt):=Jz9 (Ko0 a) Hz
def K2g (a:Bt):=(K2k a).1
def K14 (a:Bt):=(K2k a).2.1
def K0y (a:Bt):=Jz (K2g a)
def K0u (a:Bt):=(K0y a).1
def K0c (a:Bt):=(0:Int)≤0∧0≤J3l a∧J3l a≤Nc (ByteArray.size a)
def Kll (a:Bt):=Y4 (K14 a) Hz
def Kzb (a:Bt):=Vs (Kll a)
def Ky6 (a:Bt):=0≤Kcv a∧Kcv a≤Nc (ByteArray.size a)∧Nc (ByteArray.size a)≤Nc (ByteArray.size a)
def Ky4 (a:Bt):=(Kzb a).1.2
def Khf (a:Bt):=(Ky4 a).2
def Kyx (a:Bt):=(Khf a).2
def Kxx (a:Bt):=bif K4u a then true else Nc (UInt8.toNat (Gt (Z14 a) (J3l a) 0)) !=35
def Kku (a:Bt):=Kxx a=false
def Kw7 (a:Bt):=bif !(K0y a).2 then true else !(Kzb a).2
def Kkl (a:Bt):=Kw7 a=false
def Kvw (a:Bt):=(K0u a,(Ky4 a).1,(Khf a).1,E2 (Kyx a))
theorem Kts:Ok Tryz.prog 108 Kfo:=okW K6s Tryz.f108 na fun xx=>by
 obtain⟨(s:ByteArray),(k:Int),_⟩:=xx
 refine(by kernel_rfl:(ByteArray.size s≤1000000→(Iw (Nc (ByteArray.size s)-7)∧Iw (J3l s))∧((K4u s=false→Bd (J3l s) (Nc (ByteArray.size s)))∧(Kku s→Iw (Kcv s))∧(Kku s→Ky6 s)∧(Kku s→ByteArray.size (Koi s)≤1000000))∧Br (bif Kxx s then true else !Jrf (Koi s)) (K3g s k) ((K0c s∧K30 s∧Iw (Kcv s)∧Ky6 s)∧Br (!Lb (Dj (Ko0 s)) (Koi s)) (D5=(Ky s k).1∧27=(Ky s k).2) ((K0c s∧K30 s)∧ByteArray.size (K2g s)≤1000000∧(ByteArray.size (K14 s)≤1000000∧1≤1∧List.length (Kll s)≤1000000∧∀(w:ByteArray),w∈Kll s→ByteArray.size w≤1000000)∧((Kkl s→List.length (Khf s).1≤1000000)∧(Kkl s→List.length (Kyx s).1≤1000000)∧(Kkl s→∀(s_1:ByteArray),s_1∈(Khf s).1→ByteArray.size s_1≤1000000))∧Br (bif Kw7 s then true else Jb (Kvw s) !=0) (K3g s k) (Kvw s=(Ky s k).1∧(bif K0u s !=k then 11 else 0)=(Ky s k).2))))=_).mp ?_
 delta Z14 Hz J3l D5 Kcv K4u Ko0 Koi K30 K3g K2k K2g K14 K0y K0u K0c Kll Kzb Ky6 Ky4 Khf Kyx Kxx Kku Kw7 Kkl Kvw Br Iw Bd Nc Gt B0 Lb E2
 intro hs
 have hl:s.data.toList.length=s.size:=by simp
 by_cases hq:s.size<8
 ·have hd:decide ((s.size:Int)-7-1<0)=true:=decide_eq_true (by omega)
  have h0:U6 s=(evz,25):=by unfold U6 Jdc;rw[hd];rfl
  rw[Ff h0 (by decide)]
  simp only[hd,cond_true]
  exact⟨by(repeat' first|apply And.intro|(first|omega|dsimp only;omega)),⟨⟨fun h=>(by cases h),fun h=>(by cases h),fun h=>(by cases h),fun h=>(by cases h)⟩,fun _=>by(repeat' first|exact rfl|exact⟨⟩|apply And.intro|omega|dsimp only;omega),fun h=>(by cases h)⟩⟩
 ·have e1:((s.size:Int)-7-1).toNat=s.size-8:=by omega
  have e2:((s.size:Int)-7-1+1).toNat=s.size-7:=by omega
  have e3:s.extract 0 (s.size-8)=Vz s:=Fc s _
  have e4:s.extract (s.size-7) s.size=Je0 s:=Fd s _
  have hbl:(Vz s).data.toList.length=s.size-8:=by unfold Vz;simp[bs]
  have hbs:(Vz s).size=s.size-8:=by unfold Vz;rw[Kc];simp
  have hts:(Je0 s).size≤1000000:=by unfold Je0;rw[Kc];simp;omega
  have hd:decide ((s.size:Int)-7-1<0)=false:=decide_eq_false (by omega)
  simp only[e1,e2,e3,e4,Jxr,Jly]
  have hsh:Jdc s=bif bif decide ((s.size:Int)-7-1<0) then true else((s.data.toList.getD (s.size-8) 0).toNat:Int) !=35 then true else !Jrf (Je0 s):=rfl
  rw[←hsh]
  have hA:(bs (L6 32 (Vz s).data.toList)).size≤1000000:=by rw[Kc];have:=Jk1 32 (Vz s).data.toList;omega
  have hZ:(bs (Fj 32 (Vz s).data.toList)).size≤1000000:=by rw[Kc];have:=Jem 32 (Vz s).data.toList;omega
  have hW:∀w∈Do (bs (Fj 32 (Vz s).data.toList)) 32,w.size≤1000000:=by
   intro w hw
   obtain⟨v,hv,rfl⟩:=List.mem_map.1 hw
   have:=Jbd _ _ _ hv
   have h3:=Jem 32 (Vz s).data.toList
   have h4:(bs (Fj 32 (Vz s).data.toList)).data.toList.length=(Fj 32 (Vz s).data.toList).length:=rfl
   rw[Kc]
   omega
  refine⟨by(repeat' first|apply And.intro|(first|omega|dsimp only;omega)),⟨fun _=>by(repeat' first|apply And.intro|(first|omega|dsimp only;omega)),fun _=>by(repeat' first|apply And.intro|(first|omega|dsimp only;omega)),fun _=>by(repeat' first|apply And.intro|(first|omega|dsimp only;omega)),fun _=>hts⟩,fun h=> ?_,fun h=>⟨⟨by(repeat' first|apply And.intro|(first|omega|dsimp only;omega)),by omega,by(repeat' first|apply And.intro|(first|omega|dsimp only;omega)),by(repeat' first|apply And.intro|(first|omega|dsimp only;omega))⟩,fun h2=> ?_,fun h2=>⟨⟨by(repeat' first|apply And.intro|(first|omega|dsimp only;omega)),by omega⟩,hA,⟨hZ,by decide, ?_, ?_⟩, ?_⟩⟩⟩
  ·have h0:U6 s=(evz,25):=by unfold U6;rw[h];rfl
   rw[Ff h0 (by decide)];exact⟨rfl,rfl⟩
  ·have h0:U6 s=(evz,27):=by unfold U6;rw[h,h2];rfl
   rw[Ff h0 (by decide)];exact⟨rfl,rfl⟩
  ·unfold Do
   rw[List.length_map]
   have:=Jjt (UInt8.ofNat (32:Int).toNat) (bs (Fj 32 (Vz s).data.toList)).data.toList
   have h3:=Jem 32 (Vz s).data.toList
   have h4:(bs (Fj 32 (Vz s).data.toList)).data.toList.length=(Fj 32 (Vz s).data.toList).length:=rfl
   omega
  ·exact hW
  ·have hr:=Jqq (ws:=Do (bs (Fj 32 (Vz s).data.toList)) 32) hW
   refine⟨⟨fun _=>Nat.le_trans hr.1 (by decide),fun _=>Nat.le_trans hr.2.1 (by decide),fun _=>hr.2.2⟩,fun h3=> ?_,fun h3=> ?_⟩
   ·have h3:okX (Vz s)=true:=h3
    have h0:U6 s=(evz,25):=by unfold U6;rw[h,h2,h3];rfl
    rw[Ff h0 (by decide)];exact⟨rfl,rfl⟩
   ·have h3:okX (Vz s)=false:=h3
    have h0:U6 s=(evX (Vz s),0):=by unfold U6;rw[h,h2,h3];rfl
    have h4:Ky s k=(evX (Vz s),bif (evX (Vz s)).1 !=k then 11 else 0):=by unfold Ky;rw[h0];rfl
    rw[h4]
    exact⟨rfl,rfl⟩
abbrev K6r:=K6s.add Kts
def Jb5:Nat→List UInt8→Int→List Ev→List Ev×Int×Int
 |0,_,at_,o=>(o,at_,0)
 |f+1,l,at_,o=>
  if l=[] then(o,at_,0) else
  if Jd1 10 l=false then(o,at_,28) else
  if(Ky (bs (L6 10 l)) (o.length+1)).2≠0 then(o,at_,(Ky (bs (L6 10 l)) (o.length+1)).2) else
  Jb5 f (Fj 10 l) (at_+((L6 10 l).length+1)) (o++[(Ky (bs (L6 10 l)) (o.length+1)).1])
def Jc (s:ByteArray):List Ev×Int×Int:=if 1000000<s.size then([],0,26) else Jb5 s.size s.data.toList 0 []
def J2n:Con:={args:=[aS],ress:=[(false, .list 67 sEv),I,I],owns:=[],pre:=fun _=>[],spec:=fun(s,_)=>((Jc s).1,(Jc s).2.1,(Jc s).2.2,())}
abbrev Kf6 (s:ByteArray):Ann:={X:=Nat×List Ev,σ:=fun(k,o)=>⟨1,[(0, .one (.str s)),(5, .one (.sl 0)),(6, .one (.int .i64 k))],[(0, .own 67 sEv o)]⟩,inv:=fun(k,o)=>k≤s.size∧s.size≤1000000∧o.length≤1000∧∃f,s.size-k≤f∧Jb5 f (s.data.toList.drop k) k o=Jc s,mu:=fun(k,_)=>s.size-k}
theorem Jpg (c:UInt8):∀{l:List UInt8},Jd1 c l=true→l=L6 c l++c::Fj c l
 |[],h=>by cases h
 | b :: r, h => by
  unfold Jd1 at h
  unfold L6 Fj
  by_cases q:b=c
  ·rw[if_pos q,if_pos q,q];rfl
  ·rw[if_neg q] at h
   rw[if_neg q,if_neg q,List.cons_append,←Jpg c h]
theorem Jgp {s:ByteArray} {k:Int} (h:(Ky s k).2=0):Jb (Ky s k).1=0∧(Ky s k).1.1=k:=by
 have h0:(U6 s).2=0:=by
  unfold Ky at h
  by_cases q:(U6 s).2=0
  ·exact q
  ·rw[if_neg q] at h;exact h
 have e:Ky s k=((U6 s).1,bif (U6 s).1.1 !=k then 11 else 0):=by unfold Ky;rw[if_pos h0]
 rw[e] at h⊢
 refine⟨?_, ?_⟩
 ·unfold U6 at h0⊢
  cases h1:Jdc s with
  |true=>rw[h1] at h0;cases h0
  | false =>
   rw[h1,cond_false] at h0
   rw[cond_false]
   cases h2: !((Dj (Vz s)).toList==(Je0 s).toList) with
   |true=>rw[h2] at h0;cases h0
   | false =>
    rw[h2,cond_false] at h0
    rw[cond_false]
    cases h3:okX (Vz s) with
    |true=>rw[h3] at h0;cases h0
    | false =>
     rw[cond_false]
     unfold okX at h3
     cases h4:(bif !(Jz (Jhs (Vz s))).2 then true else !(Vs (Do (Jma (Vz s)) 32)).2) with
     |true=>rw[h4] at h3;cases h3
     |false=>
      rw[h4,cond_false] at h3
      exact bne_eq_false_iff_eq.1 h3
 ·have h:(bif (U6 s).1.1 !=k then(11:Int) else 0)=0:=h
  cases h5:((U6 s).1.1 !=k) with
  |true=>rw[h5] at h;cases h
  |false=>exact bne_eq_false_iff_eq.1 h5
def Kow (a:Bt) (b:Nat×List Ev):=Jz9 (ByteArray.extract a b.1 (ByteArray.size a)) (ByteArray.mk (Array.mk [10]))
def K4a (a:Bt) (b:Nat×List Ev):=ByteArray.size (Kow a b).1
def K3j (a:Bt) (b:Nat×List Ev):=Nc (K4a a b)+1
def K23 (a:Bt) (b:Nat×List Ev):=Ky (Kow a b).1 (Ln b.2+1)
def K2z (a:Bt) (b:Nat×List Ev):=(K23 a b).2
def K2y (a:Bt) (b:Nat×List Ev):=(K23 a b).1
def K2r (a:Nat×List Ev) (b:Bt):=Nc a.1+K3j b a
def K2q (a:Bt) (b:Nat×List Ev):=(K2y a b).2
def K2m (a:Bt) (b:Nat×List Ev):=(K2q a b).2
def Kk3 (a:Nat×List Ev) (b:Bt):=a.1≤ByteArray.size b∧ByteArray.size b≤1000000∧List.length a.2≤1000∧∃(f:Nat),ByteArray.size b-a.1≤f∧Jb5 f (List.drop a.1 (Z14 b)) (Nc a.1) a.2=Jc b
theorem K8w:Ok Tryz.prog 34 J2n:=okW K6r Tryz.f34 (fun xx=>X6 (Kf6 xx.1)) fun xx=>by
 obtain⟨(s:ByteArray),_⟩:=xx
 refine(by kernel_rfl:(Br (decide (1000000<Nc (ByteArray.size s))) ([]=(Jc s).1∧0=(Jc s).2.1∧26=(Jc s).2.2) (∃(x:Nat×List Ev),Sf s (0=Nc x.1∧List.length x.2=0)∧Kk3 x s∧∀(x:Nat×List Ev),Kk3 x s→Br (decide (Nc x.1<Nc (ByteArray.size s))) (((0≤Nc x.1∧Nc x.1≤Nc (ByteArray.size s)∧Nc (ByteArray.size s)≤Nc (ByteArray.size s))∧ByteArray.size (ByteArray.extract s x.1 (ByteArray.size s))≤1000000)∧Br (!(Kow s x).2.2) (x.2=(Jc s).1∧Nc x.1=(Jc s).2.1∧28=(Jc s).2.2) ((Iw (Ln x.2+1)∧K4a s x≤1000000)∧Br (K2z s x !=0) (x.2=(Jc s).1∧Nc x.1=(Jc s).2.1∧K2z s x=(Jc s).2.2) ((List.length x.2+1)*88≤140737488355328∧(Iw (K3j s x)∧Iw (K2r x s))∧∃(y:Nat×List Ev),Sf s (K2r x s=Nc y.1∧x.2++[((K2y s x).1,(K2q s x).1,(K2m s x).1,E2 (K2m s x).2)]=y.2)∧Kk3 y s∧ByteArray.size s-y.1<ByteArray.size s-x.1))) (x.2=(Jc s).1∧Nc x.1=(Jc s).2.1∧0=(Jc s).2.2)))=_).mp ?_
 delta Z14 Kow K4a K3j K23 K2z K2y K2r K2q K2m Kk3 Br Iw Sf Ln Nc E2
 refine⟨fun h=> ?_,fun h=> ?_⟩
 ·have h:1000000<s.size:=by have:=of_decide_eq_true h;omega
  unfold Jc;rw[if_pos h];exact⟨rfl,rfl,rfl⟩
 have hs:¬1000000<s.size:=by have:=of_decide_eq_false h;omega
 have hl:s.data.toList.length=s.size:=by simp
 refine⟨((0:Nat),[]),by(repeat' first|exact rfl|exact⟨⟩|apply And.intro|omega|dsimp only;omega),⟨Nat.zero_le _,by(first|omega|dsimp only;omega),Nat.zero_le _,⟨s.size,by omega,by unfold Jc;rw[if_neg hs];rfl⟩⟩,fun(x:Nat×List Ev) hx=>⟨fun hlt=> ?_,fun hlt=> ?_⟩⟩
 ·obtain⟨k,o⟩:=x
  obtain⟨k1,k2,k3,f,kf,k4⟩:=hx
  have hlt:k<s.size:=by simpa using hlt
  dsimp only at k1 k3
  dsimp only at kf
  have hf:f=(f-1)+1:=by omega
  have hne:s.data.toList.drop k≠[]:=by
   intro h
   have:=congrArg List.length h
   rw[List.length_drop,hl] at this
   simp at this;omega
  rw[hf,Jb5,if_neg hne] at k4
  have e0:s.extract k s.size=bs (s.data.toList.drop k):=Fd s k
  have e1:((k:Int)).toNat=k:=Int.toNat_natCast k
  simp only[e1,e0,Jxr]
  have k4:(if Jd1 10 (s.data.toList.drop k)=false then(o,(k:Int),(28:Int)) else if(Ky (bs (L6 10 (s.data.toList.drop k))) (o.length+1)).2≠0 then(o,(k:Int),(Ky (bs (L6 10 (s.data.toList.drop k))) (o.length+1)).2) else Jb5 (f-1) (Fj 10 (s.data.toList.drop k)) (k+((L6 10 (s.data.toList.drop k)).length+1)) (o++[(Ky (bs (L6 10 (s.data.toList.drop k))) (o.length+1)).1]))=Jc s:=k4
  have hA:=Jk1 10 (s.data.toList.drop k)
  rw[List.length_drop,hl] at hA
  have hbd:∀l,(bs l).data.toList=l:=fun l=>rfl
  simp only[hbd,Kc,List.length_drop,hl]
  refine⟨by(repeat' first|apply And.intro|(first|omega|dsimp only;omega)),fun h=> ?_,fun h=>⟨⟨by(repeat' first|apply And.intro|(first|omega|dsimp only;omega)),by omega⟩,fun h2=> ?_,fun h2=> ?_⟩⟩
  ·have h:Jd1 10 (s.data.toList.drop k)=false:=by simpa using h
   rw[if_pos h] at k4
   rw[←k4];exact⟨rfl,rfl,rfl⟩
  ·have h:Jd1 10 (s.data.toList.drop k)=true:=by simpa using h
   have h2:(Ky (bs (L6 10 (s.data.toList.drop k))) (o.length+1)).2≠0:=bne_iff_ne.1 h2
   rw[if_neg (by rw[h];decide),if_pos h2] at k4
   rw[←k4];exact⟨rfl,rfl,rfl⟩
  ·have h:Jd1 10 (s.data.toList.drop k)=true:=by simpa using h
   have h2:(Ky (bs (L6 10 (s.data.toList.drop k))) (o.length+1)).2=0:=bne_eq_false_iff_eq.1 h2
   rw[if_neg (by rw[h];decide),if_neg (by rw[h2];simp)] at k4
   have hc:=Jpg 10 h
   have hlc:=congrArg List.length hc
   rw[List.length_drop,hl,List.length_append,List.length_cons] at hlc
   have hd:s.data.toList.drop (k+((L6 10 (s.data.toList.drop k)).length+1))=Fj 10 (s.data.toList.drop k):=by
    rw[←List.drop_drop]
    have:=congrArg (List.drop ((L6 10 (s.data.toList.drop k)).length+1)) hc
    rw[this,show(L6 10 (s.data.toList.drop k)).length+1=(L6 10 (s.data.toList.drop k)).length+1 from rfl]
    simp[List.drop_append]
   have hn:=(Jgp h2)
   have hnum:=Yt.1 (show Ki (Ky (bs (L6 10 (s.data.toList.drop k))) (o.length+1)).1.1 1 1000=0 by
    have:=(J6 hn.1).num
    exact Yt.2 this)
   rw[hn.2] at hnum
   refine⟨by omega,by(repeat' first|apply And.intro|(first|omega|dsimp only;omega)),(k+((L6 10 (s.data.toList.drop k)).length+1),o++[(Ky (bs (L6 10 (s.data.toList.drop k))) (o.length+1)).1]),by(repeat' first|exact rfl|exact⟨⟩|apply And.intro|omega|dsimp only;omega),⟨by(first|omega|dsimp only;omega),k2,by simp only[List.length_append,List.length_singleton];omega,f-1,by(first|omega|dsimp only;omega), ?_⟩,by(first|omega|dsimp only;omega)⟩
   dsimp only
   rw[hd]
   exact k4
 ·obtain⟨k,o⟩:=x
  obtain⟨k1,k2,k3,f,kf,k4⟩:=hx
  have hlt:¬k<s.size:=by simpa using hlt
  dsimp only at k1 k3
  have e:s.data.toList.drop k=[]:=List.drop_eq_nil_of_le (by omega)
  have k4:Jb5 f (s.data.toList.drop k) k o=Jc s:=k4
  rw[e] at k4
  have k5:(o,(k:Int),(0:Int))=Jc s:=by
   rw[←k4]
   cases f<;>rfl
  rw[←k5]
  exact⟨rfl,rfl,rfl⟩
abbrev K6q:=K6r.add K8w
theorem Lw (n:Int) (h0: -9223372036854775808≤n) (h1:n≤9223372036854775807):(Ku n).size≤40:=by
 have:=Lib.itoa_length_le n h0 h1
 have e:(Ku n).size=(Lib.itoa n).length:=rfl
 omega
theorem J4c {l:List Nat} {b:Nat} (h:∀x∈l,x≤b):l.sum≤b*l.length:=by
 induction l with
 |nil=>simp
 |cons x l ih=>
  have h1:=h x (List.mem_cons_self ..)
  have h2:=ih fun y hy=>h y (List.mem_cons_of_mem _ hy)
  rw[List.sum_cons,List.length_cons,Nat.mul_succ]
  omega
theorem Jef {s:ByteArray} (h:Ye s=true):s.size≤24:=by
 unfold Ye at h
 simp only[Bool.and_eq_true,decide_eq_true_eq] at h
 omega
theorem Jwz {k:ByteArray} (h:U8 k=true):k.size≤7:=by
 rcases Ut h with h|h|h|h|h|h|h|h|h|h|h<;>subst h<;>decide
theorem Jg0 {e:Ev} (h:Jb e=0):Y2 e:=by
 have hE:=J6 h
 have hk:=Jco e.2.1
 have h1:=hE.num
 have h2:=hE.nn
 have h3:=hE.nv
 have h4:=Jwz hE.kind
 refine⟨by omega,by omega,by omega,fun v hv=>by have:=hE.val v hv;omega, ?_⟩
 refine Nat.le_trans (J4c (b:=41) fun x hx=> ?_) ?_
 ·obtain⟨s,hs,rfl⟩:=List.mem_map.1 hx
  rcases List.mem_cons.1 hs with rfl|hs
  ·have:=Lw e.1 (by omega) (by omega);omega
  rcases List.mem_cons.1 hs with rfl|hs
  ·omega
  rcases List.mem_append.1 hs with hs|hs
  ·have:=Jef (hE.name s hs);omega
  ·obtain⟨v,hv,rfl⟩:=List.mem_map.1 hs
   have:=hE.val v hv
   have:=Lw v (by omega) (by omega);omega
 ·unfold Ht
  simp only[List.length_map,List.length_cons,List.length_append]
  omega
theorem Jfi {e:Ev} (h:Y2 e):(Jeb e).size=(Jp e).size+9:=by
 have h2:=Dn (Jp e)
 unfold Jeb
 rw[Kc]
 simp[h2]
def Kbl (log:ByteArray) (e:Ev):Int:=Jg [(Jc log).2.2,Jb e,bif e.1 !=((Jc log).1.length:Int)+1 then 11 else 0]
def Jtz (log:ByteArray) (e:Ev):ByteArray×Int:=if Kbl log e≠0 then(Ja,Kbl log e) else if 1000000<log.size+(Jeb e).size then(Ja,26) else(bs (log.data.toList++(Jeb e).data.toList),0)
def J7x:Con:={args:=[aS,aEv],ress:=[tS,I],owns:=[],pre:=fun(s,e,_)=>[s.size≤1000000000,e.2.2.1.length≤1000000,e.2.2.2.1.length≤1000000,∀s∈e.2.2.1,s.size≤1000000],spec:=fun(s,e,_)=>((Jtz s e).1,(Jtz s e).2,())}
theorem Jqo:∀(f:Nat) (l:List UInt8) (a:Int) (o:List Ev),o.length≤1000→(Jb5 f l a o).1.length≤1000
 |0,_,_,_,h=>h
 | f + 1, l, a, o, h => by
  unfold Jb5
  split
  ·exact h
  split
  ·exact h
  split
  ·exact h
  ·rename_i q
   have q:(Ky (bs (L6 10 l)) (o.length+1)).2=0:=Decidable.of_not_not q
   have hn:=Jgp q
   have hnum:=(J6 hn.1).num
   rw[hn.2] at hnum
   exact Jqo f _ _ _ (by simp only[List.length_append,List.length_singleton];omega)
theorem Jaq (s:ByteArray):(Jc s).1.length≤1000:=by
 unfold Jc
 split
 ·exact Nat.zero_le _
 ·exact Jqo _ _ _ _ (Nat.zero_le _)
def Z5 (a:Bt):=Ln (Jc a).1
def Kyt (a:Bt) (b:Int) (c:Bt) (d:Ls) (e:Li) (f:Bt):=Jg [(Jc a).2.2,Z73 b c d e f,bif b !=Z5 a+1 then 11 else 0]
theorem K8x:Ok Tryz.prog 33 J7x:=okW K6q Tryz.f33 na fun xx=>by
 obtain⟨(s:ByteArray),⟨(n:Int),(k:ByteArray),(ns:List ByteArray),(vs:List Int),(tx:ByteArray)⟩,_⟩:=xx
 refine(by kernel_rfl:(ByteArray.size s≤1000000000→Fm ns→Z66 vs→Jg6 ns→(Fm ns∧Z66 vs∧Jg6 ns∧Iw (Z5 s+1)∧3≤1000000)∧Br (Kyt s n k ns vs tx !=0) (B0=(Jtz s (n,k,ns,vs,tx)).1∧Kyt s n k ns vs tx=(Jtz s (n,k,ns,vs,tx)).2) ((Y2 (n,k,ns,vs,tx)∧Nc (ByteArray.size s+ByteArray.size (Jeb (n,k,ns,vs,tx)))≤9223372036854775807)∧Br (decide (1000000<Nc (ByteArray.size (ByteArray.mk (Array.mk (Z14 s++(Jeb (n,k,ns,vs,tx)).data.toList)))))) (B0=(Jtz s (n,k,ns,vs,tx)).1∧26=(Jtz s (n,k,ns,vs,tx)).2) (ByteArray.mk (Array.mk (Z14 s++(Jeb (n,k,ns,vs,tx)).data.toList))=(Jtz s (n,k,ns,vs,tx)).1∧0=(Jtz s (n,k,ns,vs,tx)).2)))=_).mp ?_
 delta Z5 Z14 Z66 Z73 Fm Jhi Jg6 Kyt Br Iw Ln Nc B0
 intro hs h1 h2 h3
 have hl:=Jaq s
 have hz:(⟨⟨s.data.toList++(Jeb (n,k,ns,vs,tx)).data.toList⟩⟩:ByteArray).size=s.size+(Jeb (n,k,ns,vs,tx)).size:=by
  show(bs _).size=_
  rw[Kc,List.length_append];simp
 rw[hz]
 refine⟨⟨h1,h2,h3,by(repeat' first|apply And.intro|(first|omega|dsimp only;omega)),by decide⟩,fun h=> ?_,fun h=> ?_⟩
 ·have h:Kbl s (n,k,ns,vs,tx)≠0:=bne_iff_ne.1 h
  unfold Jtz;rw[if_pos h];exact⟨rfl,rfl⟩
 ·have h:Kbl s (n,k,ns,vs,tx)=0:=bne_eq_false_iff_eq.1 h
  have hz0:∀{l:List Int},Jg l=0→∀x∈l,x=0:=fun h=>Uj.1 h
  have hc:Jb (n,k,ns,vs,tx)=0:=hz0 h _ (by simp)
  have hb:=Jg0 hc
  have hr:=Jfi hb
  have hb2:=Jen hb
  unfold Jtz
  rw[if_neg (by rw[h];simp)]
  refine⟨⟨hb,by omega⟩,fun h2=> ?_,fun h2=> ?_⟩
  ·have h2:1000000<s.size+(Jeb (n,k,ns,vs,tx)).size:=by have:=of_decide_eq_true h2;omega
   rw[if_pos h2];exact⟨rfl,rfl⟩
  ·have h2:¬1000000<s.size+(Jeb (n,k,ns,vs,tx)).size:=by have:=of_decide_eq_false h2;omega
   rw[if_neg h2];exact⟨rfl,rfl⟩
abbrev K6p:=K6q.add K8x
def Kup:Con:={args:=[.val false (.list 67 sEv), .fn [(true,sEv)] tS],ress:=[(false, .list 9 .str)],owns:=[true],pre:=fun(l,(q,_),_)=>[l.length≤1000000,∀x∈l,Uk (q (x,()))],spec:=fun(l,(_,f),_)=>(l.map fun x=>f (x,()),())}
def Z11 (a:Nat) (b:List Ev):=Bd (Nc a) (Ln b)
def Z45 (a:List Ev):=List.length a≤1000000
def Z92 (a:Nat) (b:List Ev):=decide (Nc a<Ln b)
def J0o (a:List Ev) (b:Ev):=b∈a
def J0n (a:List Ev) (b c:Nat):=List.length a-b<List.length a-c
def Kcr (a:Ev×Unit→Bt) (b:Nat) (c:List Ev):=List.map (fun(x:Ev)=>a (x,PUnit.unit)) (List.take b c)
def J3f (a:List Ev) (b:Nat):=List.getD a b D5
def J5i (a:List Ev) (b:Nat):=(J3f a b).1
def J0g (a:List Ev) (b:Nat):=(J3f a b).2.1
def Jt2 (a:List Ev) (b:Nat):=(J3f a b).2.2
def Jzf (a:Nat) (b:List Ev) (c:Nat):=a≤List.length b∧J0n b a c
def Juo (a:List Ev) (b:Nat):=(Jt2 a b).2
def Kb8 (a:List Ev) (b:Ev×Unit→List Prop):=∀(x:Ev),J0o a x→Uk (b (x,PUnit.unit))
def J8q (a:List Ev) (b:Nat):=(J5i a b,J0g a b,(Jt2 a b).1,E2 (Juo a b))
def J8p (a:List Ev) (b:Nat):=(J8q a b,PUnit.unit)
def Kbn (a:Ev×Unit→List Prop) (b:List Ev) (c:Nat):=Uk (a (J8p b c))
theorem Ktj:Ok Tryz.prog 124 Kup:=okW K6p Tryz.f124 (fun xx=>X6 (Jb2 67 9 sEv xx.1 tS true xx.2.1.1 xx.2.1.2)) fun xx=>by
 obtain⟨(l:List Ev),⟨(q:Ev×Unit→List Prop),(f:Ev×Unit→ByteArray)⟩,_⟩:=xx
 refine(by kernel_rfl:(Z45 l→Kb8 l q→∃(x:Nat),Si (Ln l) (0=Nc x∧Sf l ((fun(x:Ev×PUnit)=>q x)=q∧(fun(x:Ev×PUnit)=>f x)=f∧List.length (Kcr f x l)=0))∧x≤List.length l∧∀(x:Nat),x≤List.length l→Br (Z92 x l) (Tw (Z11 x l)∧(Kbn q l x∧(List.length (Kcr f x l)+1)*16≤140737488355328)∧Z22 x∧∃(y:Nat),Si (Ln l) (V0 x y∧Sf l ((fun(x:Ev×PUnit)=>q x)=q∧(fun(x:Ev×PUnit)=>f x)=f∧Kcr f x l++[f (J8p l x)]=Kcr f y l))∧Jzf y l x) (Kcr f x l=List.map (fun(x:Ev)=>f (x,PUnit.unit)) l))=_).mp ?_
 delta Z11 Z22 Z45 Z92 V0 J0o J0n D5 Kcr J3f J5i J0g Jt2 Jzf Juo Kb8 J8q J8p Kbn Br Iw Bd Tw Sf Si Ln Nc B0 E2
 intro hb hq
 refine⟨(0:Nat),⟨rfl,rfl,rfl,rfl,rfl,by simp⟩,Nat.zero_le _,fun(k:Nat) hk=>⟨fun h=> ?_,fun h=> ?_⟩⟩
 ·have hlt:k<l.length:=by simpa using h
  refine⟨by omega,⟨hq (l.getD k evz) (Jd hlt),by simp only[List.length_map,List.length_take];omega⟩,by omega,(k+1:Nat),⟨rfl,by simp,rfl,rfl,rfl, ?_⟩,by omega,by omega⟩
  rw[←Uu (d:=evz) hlt,List.map_append];rfl
 ·have hlt:¬k<l.length:=by simpa using h
  rw[List.take_of_length_le (by omega)]
abbrev K6o:=K6p.add Ktj
def cQ (pre:Reg→ByteArray→List Prop) (f:Reg→ByteArray→List ByteArray):Con:={args:=[Jb7,aS],ress:=[(false, .list 9 .str)],owns:=[true],pre:=fun(r,s,_)=>pre r s,spec:=fun(r,s,_)=>(f r s,())}
theorem Jyq {tk st:Int} {S:List Sta} {O:List Ord} {M:List Met} {X:List Out} {Q:List Per} {s:ByteArray} (hr:Jn (tk,st,S,O,M,X,Q)):∀(l:List Sta) (n:Int),n-3200000000*l.length≤J0a st O M s l n∧J0a st O M s l n≤n+3200000000*l.length
 |[],n=>by simp[J0a]
 | x :: l, n => by
  have hb:=Jrw (a:=s) (b:=x.1) hr
  have ih:=Jyq (s:=s) hr l (bif x.1.toList !=s.toList then n+D4 st O M s x.1 else n)
  have hd:n-3200000000≤(bif x.1.toList !=s.toList then n+D4 st O M s x.1 else n)∧(bif x.1.toList !=s.toList then n+D4 st O M s x.1 else n)≤n+3200000000:=by
   cases x.1.toList !=s.toList<;>simp only[cond_true,cond_false]<;>omega
  simp only[List.length_cons]
  unfold J0a
  omega
theorem Jyo {tk st:Int} {S:List Sta} {O:List Ord} {M:List Met} {X:List Out} {Q:List Per} {s:ByteArray} (hr:Jn (tk,st,S,O,M,X,Q)): -19200000000≤Jyp st S O M s∧Jyp st S O M s≤19200000000:=by
 have h:=Jyq (s:=s) hr S 0
 have nS:S.length≤6:=hr.nS
 unfold Jyp
 omega
def Jv8:Reg→ByteArray→List ByteArray:=fun(_,st,S,O,M,_) s=>[Ku (Jyp st S O M s)]
def Kuj:Con:=cQ (fun r _=>[Jn r]) Jv8
theorem Krv:Ok Tryz.prog 195 Kuj:=okW K6o Tryz.f195 na fun xx=>by
 obtain⟨⟨(tk:Int),(st:Int),(S:List Sta),(O:List Ord),(M:List Met),(X:List Out),(Q:List Per)⟩,(s:ByteArray),_⟩:=xx
 refine(by kernel_rfl:(Jw tk st S O M X Q→(Jw tk st S O M X Q∧Iw (Jyp st S O M s))∧[Ku (Jyp st S O M s)]=Jv8 (Z74 tk st S O M X Q) s)=_).mp ?_
 delta Z74 Jw Iw
 intro hr
 have hb:=Jyo (s:=s) hr
 exact⟨⟨hr,by omega,by omega⟩,rfl⟩
abbrev K6n:=K6o.add Krv
def Jfm:Reg→ByteArray→List ByteArray:=fun(_,_,S,_) s=>[Ku (Hw S s).2.2]
def Kex:Con:=cQ (fun r s=>[Jn r,0≤J2 r.2.2.1 s]) Jfm
theorem Kru:Ok Tryz.prog 196 Kex:=okW K6n Tryz.f196 na fun xx=>by
 obtain⟨⟨(tk:Int),(st:Int),(S:List Sta),(O:List Ord),(M:List Met),(X:List Out),(Q:List Per)⟩,(s:ByteArray),_⟩:=xx
 refine(by kernel_rfl:(Jw tk st S O M X Q→Z25 S s→(Z52 S∧Z25 S s∧Iw (Hw S s).2.2)∧[Ku (Hw S s).2.2]=Jfm (Z74 tk st S O M X Q) s)=_).mp ?_
 delta Z25 Z52 Z74 Jw Iw
 intro hr h
 have nS:S.length≤6:=hr.nS
 have hs:0≤(Hw S s).2.2∧(Hw S s).2.2≤1000:=(Jjs hr.sta h).pri
 exact⟨⟨by omega,h,by omega,by omega⟩,rfl⟩
abbrev K6m:=K6n.add Kru
def Jfn:Reg→ByteArray→List ByteArray:=fun(_,st,_,O,M,_) s=>[Ku (Uo st M (X9 O s)).2.1,Ku (Uo st M (X9 O s)).2.2.1,Ku (Uo st M (X9 O s)).2.2.2.1,Ku (Uo st M (X9 O s)).2.2.2.2.1,Ku (Uo st M (X9 O s)).2.2.2.2.2]
def Kez:Con:=cQ (fun r s=>[Jn r,0≤Kx r.2.2.2.1 s]) Jfn
def Kz9 (a:List Ord) (b:Bt):=((X9 a b).1,(X9 a b).2.1,(X9 a b).2.2.1,E2 (X9 a b).2.2.2.1,(X9 a b).2.2.2.2.1,E2 (X9 a b).2.2.2.2.2)
def Kzw (a:Int) (b:List Met) (c:List Ord) (d:Bt):=(Uo a b (Kz9 c d)).2
def Kzs (a:Int) (b:List Met) (c:List Ord) (d:Bt):=(Kzw a b c d).2
def Kzr (a:Int) (b:List Met) (c:List Ord) (d:Bt):=(Kzw a b c d).1
def Kzo (a:Int) (b:List Met) (c:List Ord) (d:Bt):=(Kzs a b c d).1
def Kzn (a:Int) (b:List Met) (c:List Ord) (d:Bt):=(Kzs a b c d).2
def Kzm (a:Int) (b:List Met) (c:List Ord) (d:Bt):=(Kzn a b c d).2
def Kzl (a:Int) (b:List Met) (c:List Ord) (d:Bt):=(Kzn a b c d).1
def Kzi (a:Int) (b:List Met) (c:List Ord) (d:Bt):=(Kzm a b c d).1
def Kzh (a:Int) (b:List Met) (c:List Ord) (d:Bt):=(Kzm a b c d).2
theorem Krt:Ok Tryz.prog 197 Kez:=okW K6m Tryz.f197 na fun xx=>by
 obtain⟨⟨(tk:Int),(st:Int),(S:List Sta),(O:List Ord),(M:List Met),(X:List Out),(Q:List Per)⟩,(s:ByteArray),_⟩:=xx
 refine(by kernel_rfl:(Jw tk st S O M X Q→0≤Kx O s→(Z64 O∧0≤Kx O s∧Jw tk st S O M X Q∧Kz9 O s∈O)∧(5≤1000000∧∀(x:Int),x∈[Kzr st M O s,Kzo st M O s,Kzl st M O s,Kzi st M O s,Kzh st M O s]→Iw x)∧[Ku (Kzr st M O s),Ku (Kzo st M O s),Ku (Kzl st M O s),Ku (Kzi st M O s),Ku (Kzh st M O s)]=Jfn (Z74 tk st S O M X Q) s)=_).mp ?_
 delta Z64 Z74 Jw Kz9 Kzw Kzs Kzr Kzo Kzn Kzm Kzl Kzi Kzh Iw E2
 intro hr h
 have nO:O.length≤32:=hr.nO
 have hm:=Jci h
 have hb:=Jby hr hm
 simp only[Prod.eta]
 refine⟨⟨by omega,h,hr,hm⟩,⟨by decide,fun x hx=> ?_⟩,rfl⟩
 have b1:=hb.hours
 have b2:=hb.sent
 have b3:=hb.got
 have b4:=hb.money
 have b5:=hb.fine
 simp only[List.mem_cons,List.not_mem_nil,or_false] at hx
 rcases hx with rfl|rfl|rfl|rfl|rfl<;>omega
abbrev K6l:=K6m.add Krt
def Jd0:List Gap→List ByteArray→List ByteArray
 |[],o=>o
 |g::l,o=>Jd0 l (bif decide ((o.length:Int)<512) then o++[g.1,Ku g.2] else o)
def Jdy:Reg→ByteArray→List ByteArray:=fun(tk,_,_,O,M,_) _=>Jd0 (Kr M tk O) []
def Key:Con:=cQ (fun r _=>[Jn r]) Jdy
abbrev J25 (L:List Gap):Ann:={X:=Nat×List ByteArray,σ:=fun(k,o)=>⟨2,[(5, .one (.sl 1)),(11, .one (.sl 0)),(12, .one (.int .i64 L.length)),(13, .one (.int .i64 k))],[(0, .own 200 J59 L),(1, .own 9 .str o)]⟩,inv:=fun(k,o)=>k≤L.length∧o.length≤600∧Jd0 (L.drop k) o=Jd0 L [],mu:=fun(k,_)=>L.length-k}
theorem Jms {M:List Met} {u:Int} {x:Ord}:∀(n:Nat) (h:Int),(Df M u x h n).length≤n
 |0,_=>Nat.le_refl _
 |n+1,h=>by
  have:=Jms (M:=M) (u:=u) (x:=x) n (h+1)
  unfold Df
  rw[List.length_append]
  cases J4 x h&&(decide (h<u)&&decide (K6 M x.1 h<0))<;>simp only[cond_true,cond_false,List.length_singleton,List.length_nil]<;>omega
theorem Jmq {S:List Sta} {M:List Met} {u:Int}:∀{O:List Ord},(∀x∈O,Jd6 S x)→(Kr M u O).length≤48*O.length
 |[],_=>Nat.le_refl _
 |x::l,h=>by
  have h1:=Jmq (M:=M) (u:=u) (O:=l) fun y hy=>h y (List.mem_cons_of_mem _ hy)
  have h2:=Jms (M:=M) (u:=u) (x:=x) (x.2.2.2.1.2-x.2.2.2.1.1).toNat x.2.2.2.1.1
  have h3:=Jqa (h x (List.mem_cons_self ..))
  unfold Um at h3
  unfold Kr Jwm
  rw[List.length_append,List.length_cons]
  omega
theorem Jqw {M:List Met} {u:Int} {x:Ord}:∀(n:Nat) (h:Int),∀g∈Df M u x h n,h≤g.2∧g.2<h+n
 |0,_,g,hg=>by cases hg
 | n + 1, h, g, hg => by
  unfold Df at hg
  rcases List.mem_append.1 hg with hg|hg
  ·cases hb:J4 x h&&(decide (h<u)&&decide (K6 M x.1 h<0)) with
   |false=>rw[hb] at hg;cases hg
   |true=>
    rw[hb,cond_true] at hg
    rw[List.mem_singleton.1 hg]
    constructor<;>dsimp only<;>omega
  ·have:=Jqw n (h+1) g hg
   omega
theorem Jkf {S:List Sta} {M:List Met} {u:Int}:∀{O:List Ord},(∀x∈O,Jd6 S x)→∀g∈Kr M u O,0≤g.2∧g.2≤999999999
 |[],_,g,hg=>by cases hg
 | x :: l, h, g, hg => by
  unfold Kr at hg
  rcases List.mem_append.1 hg with hg|hg
  ·have hs:=(h x (List.mem_cons_self ..)).span
   have h1:=hs.lo
   have h2:=hs.mid
   have h3:=hs.hi
   have:=Jqw _ _ g hg
   omega
  ·exact Jkf (fun y hy=>h y (List.mem_cons_of_mem _ hy)) g hg
def Klj (a:Nat×Ls) (b:List Met) (c:Int) (d:List Ord):=a.1≤List.length (Kr b c d)∧List.length a.2≤600∧Jd0 (List.drop a.1 (Kr b c d)) a.2=Jd0 (Kr b c d) []
def Kxw (a:Nat×Ls) (b:List Met) (c:Int) (d:List Ord) (e:Nat×Ls):=Klj a b c d∧List.length (Kr b c d)-a.1<List.length (Kr b c d)-e.1
theorem Krq:Ok Tryz.prog 200 Key:=okW K6l Tryz.f200 (fun xx=>X6 (J25 (Kr xx.1.2.2.2.2.1 xx.1.1 xx.1.2.2.2.1))) fun xx=>by
 obtain⟨⟨(tk:Int),(st:Int),(S:List Sta),(O:List Ord),(M:List Met),(X:List Out),(Q:List Per)⟩,(s:ByteArray),_⟩:=xx
 refine(by kernel_rfl:(Jw tk st S O M X Q→Jw tk st S O M X Q∧∃(x:Nat×List ByteArray),Si (Ln (Kr M tk O)) (0=Nc x.1∧Sf (Kr M tk O) (List.length x.2=0))∧Klj x M tk O∧∀(x:Nat×List ByteArray),Klj x M tk O→Br (decide (Nc x.1<Ln (Kr M tk O))) (Tw (Bd (Nc x.1) (Ln (Kr M tk O)))∧Br (decide (Ln x.2<512)) ((Iw (List.getD (Kr M tk O) x.1 (B0,0)).2∧(List.length x.2+2)*16≤140737488355328)∧Iw (Nc x.1+1)∧∃(y:Nat×List ByteArray),Si (Ln (Kr M tk O)) (Nc x.1+1=Nc y.1∧Sf (Kr M tk O) (x.2++[(List.getD (Kr M tk O) x.1 (B0,0)).1,Ku (List.getD (Kr M tk O) x.1 (B0,0)).2]=y.2))∧Kxw y M tk O x) (Iw (Nc x.1+1)∧∃(y:Nat×List ByteArray),Si (Ln (Kr M tk O)) (Nc x.1+1=Nc y.1∧Sf (Kr M tk O) (x.2=y.2))∧Kxw y M tk O x)) (x.2=Jdy (Z74 tk st S O M X Q) s))=_).mp ?_
 delta Z74 Jw Klj Kxw Br Iw Bd Tw Sf Si Ln Nc B0
 intro hr
 have nO:O.length≤32:=hr.nO
 have hL:(Kr M tk O).length≤48*O.length:=Jmq hr.ord
 have hG:∀g∈Kr M tk O,0≤g.2∧g.2≤999999999:=Jkf hr.ord
 have hq:Jdy (tk,st,S,O,M,X,Q) s=Jd0 (Kr M tk O) []:=rfl
 rw[hq]
 refine⟨hr,((0:Nat),[]),by(repeat' first|exact rfl|exact⟨⟩|apply And.intro|omega|dsimp only;omega),⟨Nat.zero_le _,Nat.zero_le _,rfl⟩,fun(x:Nat×List ByteArray) hx=>⟨fun hlt=> ?_,fun hlt=> ?_⟩⟩
 ·obtain⟨k,o⟩:=x
  obtain⟨k1,k2,k3⟩:=hx
  have hlt:k<(Kr M tk O).length:=by simpa using hlt
  have hg:=hG _ (Jd (d:=(Ja,0)) hlt)
  dsimp only at k1 k2 k3
  rw[Jk (d:=((Ja,0):Gap)) hlt,Jd0] at k3
  have hz:((({data:={toList:=[]}}:ByteArray),(0:Int)):Gap)=(Ja,0):=rfl
  simp only[hz]
  refine⟨by(repeat' first|apply And.intro|(first|omega|dsimp only;omega)),fun h=>⟨⟨by(repeat' first|apply And.intro|(first|omega|dsimp only;omega)),by(first|omega|dsimp only;omega)⟩,by(repeat' first|apply And.intro|(first|omega|dsimp only;omega)),(k+1,o++[((Kr M tk O).getD k (Ja,0)).1,Ku ((Kr M tk O).getD k (Ja,0)).2]),by(repeat' first|exact rfl|exact⟨⟩|apply And.intro|omega|dsimp only;omega),⟨by(first|omega|dsimp only;omega), ?_, ?_⟩,by(first|omega|dsimp only;omega)⟩,fun h=>⟨by(repeat' first|apply And.intro|(first|omega|dsimp only;omega)),(k+1,o),by(repeat' first|exact rfl|exact⟨⟩|apply And.intro|omega|dsimp only;omega),⟨by(first|omega|dsimp only;omega),k2, ?_⟩,by(first|omega|dsimp only;omega)⟩⟩
  ·have h:=of_decide_eq_true h
   simp only[List.length_append,List.length_cons,List.length_nil]
   omega
  all_goals (rw[h] at k3;exact k3)
 ·obtain⟨k,o⟩:=x
  obtain⟨k1,k2,k3⟩:=hx
  have hlt:¬k<(Kr M tk O).length:=by simpa using hlt
  have e:k=(Kr M tk O).length:=by dsimp only at k1;omega
  rw[e,List.drop_length,Jd0] at k3
  exact k3
abbrev K6k:=K6l.add Krq
def K9h:Con:={args:=[.val true Zn, .ref 105 Jle],ress:=[Bo],owns:=[],pre:=fun _=>[],spec:=fun(x,(tk,_),_)=>(Ks x.2.2.1 tk,())}
theorem Krn:Ok Tryz.prog 203 K9h:=okW K6k Tryz.f203 na fun xx=>by
 obtain⟨⟨(n:ByteArray),(f:ByteArray),⟨(a:Int),(b:Int)⟩,(p:Int)⟩,⟨(tk:Int),(st:Int),(S:List Sta),(O:List Ord),(M:List Met),(X:List Out),(Q:List Per)⟩,_⟩:=xx
 refine(by kernel_rfl:(Ks (a,b) tk=Ks (a,b) tk)=_).mp ?_
 rfl
abbrev K6j:=K6k.add Krn
def Kfb:Con:={args:=[.val false (.list 188 Zn), .fn [(true,Zn)] Bo],ress:=[(false, .list 188 Zn)],owns:=[true],pre:=fun(l,(q,_),_)=>[l.length≤1000000,∀x∈l,Uk (q (x,()))],spec:=fun(l,(_,f),_)=>(l.filter fun x=>f (x,()),())}
def J5p (a:Out×Unit→Bool) (b:Nat) (c:List Out):=List.filter (fun(x:Out)=>a (x,PUnit.unit)) (List.take b c)
def J81 (a:Nat) (b:List Out) (c:Nat):=a≤List.length b∧J0k b a c
theorem K7z:Ok Tryz.prog 94 Kfb:=okW K6j Tryz.f94 (fun xx=>X6 (Jps 188 188 Zn xx.1 true xx.2.1.1 xx.2.1.2)) fun xx=>by
 obtain⟨(l:List Out),⟨(q:Out×Unit→List Prop),(f:Out×Unit→Bool)⟩,_⟩:=xx
 refine(by kernel_rfl:(Z58 l→J5g l q→∃(x:Nat),Si (Ln l) (0=Nc x∧Sf l ((fun(x:Out×PUnit)=>q x)=q∧(fun(x:Out×PUnit)=>f x)=f∧List.length (J5p f x l)=0))∧x≤List.length l∧∀(x:Nat),x≤List.length l→Br (Z98 x l) (Tw (Z17 x l)∧J5b q l x∧Br (Kkq f l x) ((List.length (J5p f x l)+1)*56≤140737488355328∧Z22 x∧∃(y:Nat),Si (Ln l) (V0 x y∧Sf l ((fun(x:Out×PUnit)=>q x)=q∧(fun(x:Out×PUnit)=>f x)=f∧J5p f x l++[Kbo l x]=J5p f y l))∧J81 y l x) (Z22 x∧∃(y:Nat),Si (Ln l) (V0 x y∧Sf l ((fun(x:Out×PUnit)=>q x)=q∧(fun(x:Out×PUnit)=>f x)=f∧J5p f x l=J5p f y l))∧J81 y l x)) (J5p f x l=List.filter (fun(x:Out)=>f (x,PUnit.unit)) l))=_).mp ?_
 delta Z17 Z22 Z58 Z98 V0 Jhk J0k J5p J3h J3g J5j J81 J5g Kbo J5c Kkq J5b Br Iw Bd Tw Sf Si Ln Nc B0 E2
 intro hb hq
 refine⟨(0:Nat),⟨rfl,rfl,rfl,rfl,rfl,by simp⟩,Nat.zero_le _,fun(k:Nat) hk=>⟨fun h=> ?_,fun h=> ?_⟩⟩
 ·have hlt:k<l.length:=by simpa using h
  have hf:=Jgn (p:=fun x=>f (x,())) hk
  have ht:=Uu (d:=Jb6) hlt
  refine⟨by omega,hq (l.getD k Jb6) (Jd hlt),fun h1=> ?_,fun h1=> ?_⟩
  ·have h1:f (l.getD k Jb6,())=true:=h1
   refine⟨by show((List.filter (fun x=>f (x,())) (List.take k l)).length+1)*56≤_;omega,by omega,(k+1:Nat),⟨rfl,by simp,rfl,rfl,rfl, ?_⟩,by omega,by omega⟩
   rw[←ht,List.filter_append,List.filter_cons,if_pos h1];rfl
  ·have h1:f (l.getD k Jb6,())=false:=h1
   refine⟨by omega,(k+1:Nat),⟨rfl,by simp,rfl,rfl,rfl, ?_⟩,by omega,by omega⟩
   rw[←ht,List.filter_append,List.filter_cons,if_neg (by rw[h1];decide)];simp
 ·have hlt:¬k<l.length:=by simpa using h
  rw[List.take_of_length_le (by omega)]
abbrev K6i:=K6j.add K7z
def Ke4:Con:={args:=[.val false (.list 188 Zn), .fn [(true,Zn)] tS],ress:=[(false, .list 9 .str)],owns:=[true],pre:=fun(l,(q,_),_)=>[l.length≤1000000,∀x∈l,Uk (q (x,()))],spec:=fun(l,(_,f),_)=>(l.map fun x=>f (x,()),())}
def Kco (a:Out×Unit→Bt) (b:Nat) (c:List Out):=List.map (fun(x:Out)=>a (x,PUnit.unit)) (List.take b c)
theorem Kro:Ok Tryz.prog 202 Ke4:=okW K6i Tryz.f202 (fun xx=>X6 (Jb2 188 9 Zn xx.1 tS true xx.2.1.1 xx.2.1.2)) fun xx=>by
 obtain⟨(l:List Out),⟨(q:Out×Unit→List Prop),(f:Out×Unit→ByteArray)⟩,_⟩:=xx
 refine(by kernel_rfl:(Z58 l→J5g l q→∃(x:Nat),Si (Ln l) (0=Nc x∧Sf l ((fun(x:Out×PUnit)=>q x)=q∧(fun(x:Out×PUnit)=>f x)=f∧List.length (Kco f x l)=0))∧x≤List.length l∧∀(x:Nat),x≤List.length l→Br (Z98 x l) (Tw (Z17 x l)∧(J5b q l x∧(List.length (Kco f x l)+1)*16≤140737488355328)∧Z22 x∧∃(y:Nat),Si (Ln l) (V0 x y∧Sf l ((fun(x:Out×PUnit)=>q x)=q∧(fun(x:Out×PUnit)=>f x)=f∧Kco f x l++[f (J5c l x)]=Kco f y l))∧J81 y l x) (Kco f x l=List.map (fun(x:Out)=>f (x,PUnit.unit)) l))=_).mp ?_
 delta Z17 Z22 Z58 Z98 V0 Jhk J0k J3h Kco J3g J5j J81 J5g Kbo J5c J5b Br Iw Bd Tw Sf Si Ln Nc B0 E2
 intro hb hq
 refine⟨(0:Nat),⟨rfl,rfl,rfl,rfl,rfl,by simp⟩,Nat.zero_le _,fun(k:Nat) hk=>⟨fun h=> ?_,fun h=> ?_⟩⟩
 ·have hlt:k<l.length:=by simpa using h
  refine⟨by omega,⟨hq (l.getD k Jb6) (Jd hlt),by simp only[List.length_map,List.length_take];omega⟩,by omega,(k+1:Nat),⟨rfl,by simp,rfl,rfl,rfl, ?_⟩,by omega,by omega⟩
  rw[←Uu (d:=Jb6) hlt,List.map_append];rfl
 ·have hlt:¬k<l.length:=by simpa using h
  rw[List.take_of_length_le (by omega)]
abbrev K6h:=K6i.add Kro
def Ke6:Con:={args:=[.val false (.list 235 Hr), .fn [(true,Hr)] tS],ress:=[(false, .list 9 .str)],owns:=[true],pre:=fun(l,(q,_),_)=>[l.length≤1000000,∀x∈l,Uk (q (x,()))],spec:=fun(l,(_,f),_)=>(l.map fun x=>f (x,()),())}
def Kcp (a:Per×Unit→Bt) (b:Nat) (c:List Per):=List.map (fun(x:Per)=>a (x,PUnit.unit)) (List.take b c)
theorem Krk:Ok Tryz.prog 206 Ke6:=okW K6h Tryz.f206 (fun xx=>X6 (Jb2 235 9 Hr xx.1 tS true xx.2.1.1 xx.2.1.2)) fun xx=>by
 obtain⟨(l:List Per),⟨(q:Per×Unit→List Prop),(f:Per×Unit→ByteArray)⟩,_⟩:=xx
 refine(by kernel_rfl:(Z51 l→Kb7 l q→∃(x:Nat),Si (Ln l) (0=Nc x∧Sf l ((fun(x:Per×PUnit)=>q x)=q∧(fun(x:Per×PUnit)=>f x)=f∧List.length (Kcp f x l)=0))∧x≤List.length l∧∀(x:Nat),x≤List.length l→Br (J0t x l) (Tw (Bd (Nc x) (Ln l))∧(Kb3 q l x∧(List.length (Kcp f x l)+1)*16≤140737488355328)∧Z22 x∧∃(y:Nat),Si (Ln l) (V0 x y∧Sf l ((fun(x:Per×PUnit)=>q x)=q∧(fun(x:Per×PUnit)=>f x)=f∧Kcp f x l++[f (Kb5 l x)]=Kcp f y l))∧Ki0 y l x) (Kcp f x l=List.map (fun(x:Per)=>f (x,PUnit.unit)) l))=_).mp ?_
 delta Z22 Z51 J0t V0 J5u J3k Kcp Ki0 Kb7 Kik Kb5 Kb3 Br Iw Bd Tw Sf Si Ln Nc B0 E2
 intro hb hq
 refine⟨(0:Nat),⟨rfl,rfl,rfl,rfl,rfl,by simp⟩,Nat.zero_le _,fun(k:Nat) hk=>⟨fun h=> ?_,fun h=> ?_⟩⟩
 ·have hlt:k<l.length:=by simpa using h
  refine⟨by omega,⟨hq (l.getD k Jj6) (Jd hlt),by simp only[List.length_map,List.length_take];omega⟩,by omega,(k+1:Nat),⟨rfl,by simp,rfl,rfl,rfl, ?_⟩,by omega,by omega⟩
  rw[←Uu (d:=Jj6) hlt,List.map_append];rfl
 ·have hlt:¬k<l.length:=by simpa using h
  rw[List.take_of_length_le (by omega)]
abbrev K6g:=K6h.add Krk
def Juj:Reg→ByteArray→List ByteArray:=fun(tk,_,_,_,_,X,_) _=>(X.filter fun x=>Ks x.2.2.1 tk).map fun x=>x.1
def Kui:Con:=cQ (fun r _=>[Jn r]) Juj
theorem Krp:Ok Tryz.prog 201 Kui:=okW K6g Tryz.f201 na fun xx=>by
 obtain⟨⟨(tk:Int),(st:Int),(S:List Sta),(O:List Ord),(M:List Met),(X:List Out),(Q:List Per)⟩,(s:ByteArray),_⟩:=xx
 refine(by kernel_rfl:(Jw tk st S O M X Q→(Z58 X∧Koz X∧List.length (List.filter (fun(x:Out)=>Ks x.2.2.1 tk) X)≤1000000∧∀(x:Out),x∈List.filter (fun(x:Out)=>Ks x.2.2.1 tk) X→True)∧List.map (fun(x:Out)=>x.1) (List.filter (fun(x:Out)=>Ks x.2.2.1 tk) X)=Juj (Z74 tk st S O M X Q) s)=_).mp ?_
 delta Z58 Z74 Jw Koz
 intro hr
 have nX:X.length≤16:=hr.nX
 have:=List.length_filter_le (fun x:Out=>Ks x.2.2.1 tk) X
 exact⟨⟨by omega,fun _ _=>trivial,Nat.le_trans this (by omega),fun _ _=>trivial⟩,rfl⟩
abbrev K6f:=K6g.add Krp
def Jui:Reg→ByteArray→List ByteArray:=fun(_,_,_,_,_,_,Q) _=>(De Q).map fun x=>x.1
def Kuh:Con:=cQ (fun r _=>[Jn r]) Jui
theorem Krl:Ok Tryz.prog 205 Kuh:=okW K6f Tryz.f205 na fun xx=>by
 obtain⟨⟨(tk:Int),(st:Int),(S:List Sta),(O:List Ord),(M:List Met),(X:List Out),(Q:List Per)⟩,(s:ByteArray),_⟩:=xx
 refine(by kernel_rfl:(Jw tk st S O M X Q→Kln tk st S O M X Q∧List.map (fun(x:Per)=>x.1) (De Q)=Jui (Z74 tk st S O M X Q) s)=_).mp ?_
 delta Z74 Jw Kln
 intro hr
 have nQ:Q.length≤16:=hr.nQ
 have:=Jed (Q:=Q)
 exact⟨⟨hr,by omega,fun _ _=>trivial⟩,rfl⟩
abbrev K6e:=K6f.add Krl
def Jfl:Reg→ByteArray→List ByteArray:=fun(_,st,_) _=>[Ku st]
def Kew:Con:=cQ (fun r _=>[Jn r]) Jfl
theorem Krh:Ok Tryz.prog 209 Kew:=okW K6e Tryz.f209 na fun xx=>by
 obtain⟨⟨(tk:Int),(st:Int),(S:List Sta),(O:List Ord),(M:List Met),(X:List Out),(Q:List Per)⟩,(s:ByteArray),_⟩:=xx
 refine(by kernel_rfl:(Jw tk st S O M X Q→Iw st∧[Ku st]=Jfl (Z74 tk st S O M X Q) s)=_).mp ?_
 delta Z74 Jw Iw
 intro hr
 have h1:0≤st∧st≤tk:=hr.st
 have h2:0≤tk∧tk≤999999999:=hr.tk
 exact⟨⟨by omega,by omega⟩,rfl⟩
abbrev K4z:=K6e.add Krh
end Go.Proofs.YtcibbcfiemeoiaaGreatDoor
namespace Go.Proofs.Tryz
open Go.Proofs.YtcibbcfiemeoiaaGreatDoor
def questU:List (ByteArray×Bool×Int×Option Nat):=[(⟨⟨[98,97,108,97,110,99,101]⟩⟩,true,0,some 195),(⟨⟨[114,97,116,101]⟩⟩,true,0,some 196),(⟨⟨[98,105,108,108]⟩⟩,true,1,some 197),(⟨⟨[109,105,115,115,105,110,103]⟩⟩,false,1,some 200),(⟨⟨[111,117,116,97,103,101,115]⟩⟩,false,2,some 201),(⟨⟨[112,101,114,109,105,116,115]⟩⟩,false,3,some 205),(⟨⟨[115,101,116,116,108,101,100]⟩⟩,false,0,some 209)]
end Go.Proofs.Tryz
namespace Go.Proofs.YtcibbcfiemeoiaaGreatDoor
open Go.Sx
set_option maxHeartbeats 20000000
abbrev Ui:ByteArray:=⟨⟨[98,97,108,97,110,99,101]⟩⟩
abbrev H1:ByteArray:=⟨⟨[114,97,116,101]⟩⟩
abbrev H2:ByteArray:=⟨⟨[98,105,108,108]⟩⟩
abbrev Ud:ByteArray:=⟨⟨[109,105,115,115,105,110,103]⟩⟩
abbrev Uh:ByteArray:=⟨⟨[111,117,116,97,103,101,115]⟩⟩
abbrev Ug:ByteArray:=⟨⟨[112,101,114,109,105,116,115]⟩⟩
abbrev Uf:ByteArray:=⟨⟨[115,101,116,116,108,101,100]⟩⟩
structure NmR (r:Reg):Prop where
 o:∀x∈r.2.2.2.1,x.1.size≤24
 x:∀x∈r.2.2.2.2.2.1,x.1.size≤24
 q:∀x∈r.2.2.2.2.2.2,x.1.size≤24
def Hu (h:Ka):Prop:=∀r∈h.2.2,NmR r
theorem J6q {e:Ev} (h:Jb e=0) (i:Nat):(e.2.2.1.getD i Ja).size≤24:=by
 by_cases hi:i<e.2.2.1.length
 ·exact Jef ((J6 h).name _ (Jd hi))
 ·rw[List.getD_eq_getElem?_getD,List.getElem?_eq_none (by omega)]
  decide
theorem Jbs {α:Type} {p:α→Prop} {l:List α} {d:α} (h:∀x∈l,p x) (hd:p d) (i:Nat):p (l.getD i d):=by
 by_cases hi:i<l.length
 ·exact h _ (Jd hi)
 ·rw[List.getD_eq_getElem?_getD,List.getElem?_eq_none (by omega)]
  exact hd
theorem J56 {r:Reg} {e:Ev} (hr:NmR r) (hc:Jb e=0):NmR (Jq r e):=by
 have hn:=J6q hc
 obtain⟨tk,st,S,O,M,X,Q⟩:=r
 obtain⟨n,k,ns,vs,tx⟩:=e
 have ho:∀x∈O,x.1.size≤24:=hr.o
 have hx:∀x∈X,x.1.size≤24:=hr.x
 have hq:∀x∈Q,x.1.size≤24:=hr.q
 have hO:∀s,(X9 O s).1.size≤24:=fun s=>Jbs (p:=fun x:Ord=>x.1.size≤24) ho (by decide) _
 have hX:∀s,(Dd X s).1.size≤24:=fun s=>Jbs (p:=fun x:Out=>x.1.size≤24) hx (by decide) _
 have hQ:∀s,(Jnw Q s).1.size≤24:=fun s=>Jbs (p:=fun x:Per=>x.1.size≤24) hq (by decide) _
 unfold Jq doS
 split
 all_goals refine⟨fun y hy=> ?_,fun y hy=> ?_,fun y hy=> ?_⟩
 all_goals first|exact ho y hy|exact hx y hy|exact hq y hy|(rcases Yq hy with h|h;(first|exact ho y h|exact hx y h|exact hq y h);rw[h];exact hn 0)|(rcases Jcj hy with h|h;rw[h];(first|exact hO _|exact hX _|exact hQ _);(first|exact ho y h|exact hx y h|exact hq y h))
theorem Kgk {h:Ka} {e:Ev} (hN:Hu h) (ha:K9 h e=0):Hu (Ho h e):=by
 obtain⟨hc,hacc⟩:=add_zero ha
 obtain⟨E,C,G⟩:=h
 have h0:NmR (Kh G):=by
  unfold Kh
  exact Jbs (p:=NmR) hN ⟨fun x h=>(by cases h),fun x h=>(by cases h),fun x h=>(by cases h)⟩ _
 cases hk:e.2.1.toList==Jy.toList with
 |true=>
  unfold Ho
  rw[hk,cond_true]
  exact fun r hr=>hN r (List.mem_of_mem_take hr)
 |false=>
  unfold Ho
  rw[hk,cond_false]
  intro r hr
  rcases Yq hr with hr|rfl
  ·exact hN r hr
  ·exact J56 h0 hc
theorem Jfx {h:Ka} (hN:Hu h):NmR (Kh h.2.2):=by
 unfold Kh
 exact Jbs (p:=NmR) hN ⟨fun x h=>(by cases h),fun x h=>(by cases h),fun x h=>(by cases h)⟩ _
theorem Jw8:Hu Xd:=fun r h=>by cases h
abbrev K44:Sch:= .prod .bool (.prod sI .fnc)
abbrev Qst:=Bool×Int×Option Nat
def Jfk:List (ByteArray×Qst):=Tryz.questU
def J43:Jnu:={kT:=9,gk:=false,gv:=true,ks:= .str,vs:=K44,l:=Jfk}
theorem Kqd:wpFM Tryz.prog K4z.g (na ()) (fun _=>na ()) (Sx.look ([]:List (Nat×Func))) Tryz.f118 J43:=by
 refine(by kernel_rfl:(Klc∧Sf true ([(Ui,true,0,some 195),(H1,true,0,some 196),(H2,true,1,some 197),(Ud,false,1,some 200),(Uh,false,2,some 201),(Ug,false,3,some 205),(Uf,false,0,some 209)]=Jfk))=_).mp ?_
 delta Klc Sf Lb Ui H2 Ud Uh Ug H1 Uf
 exact⟨⟨fun _ _=>rfl,fun _=>rfl⟩,rfl,rfl⟩
theorem J6n:Ok Tryz.prog 118 (Jnu.con J43):=J4m (Jmn mixed K4z.ok (by kernel_rfl) (by kernel_rfl) (U4 (l:=([]:List (Nat×Func))) (by simp)) (na ()) (fun _=>na ()) Kqd)
abbrev Uaf:=K4z.add J6n
def J7g:Jnu:={kT:=9,gk:=false,gv:=true,ks:= .str,vs:=K44,l:=Tryz.questU}
theorem Kd2:Ok Tryz.prog 118 (Jnu.con J7g):=J6n
abbrev J0w:=Uaf.add Kd2
def Jdf (k:ByteArray):Qst:=(Vt .str k Jfk).getD (false,0,none)
def Fy (k:ByteArray):Bool:=(Vt .str k Jfk).isSome
def Kt0:ByteArray:=⟨⟨[110,111,110,101]⟩⟩
def Jny (l:List ByteArray):ByteArray:=bif (l.length:Int)==0 then Kt0 else Vi l ⟨⟨[32]⟩⟩
def Jh0 (named:Bool) (what:Int) (f:Reg→ByteArray→List ByteArray) (r:Reg) (ws:List ByteArray):ByteArray×Int:=
 bif named then(bif (ws.length:Int)==2 then(bif (ws.getD 1 Ja).toList==Ja.toList then(Ja,25) else bif !Vl r what (ws.getD 1 Ja) then(Ja,10) else(Jny (f r (ws.getD 1 Ja)),0)) else(Ja,25))
 else bif (ws.length:Int) !=1 then(Ja,25) else(Jny (f r Ja),0)
def Zg (r:Reg) (ws:List ByteArray):ByteArray×Int:=match(Jdf (ws.getD 0 Ja)).2.2 with
 |some 195=>Jh0 true 0 Jv8 r ws
 |some 196=>Jh0 true 0 Jfm r ws
 |some 197=>Jh0 true 1 Jfn r ws
 |some 200=>Jh0 false 1 Jdy r ws
 |some 201=>Jh0 false 2 Juj r ws
 |some 205=>Jh0 false 3 Jui r ws
 |some 209=>Jh0 false 0 Jfl r ws
 |_=>(Ja,0)
structure Jg8 (h:Ka) (ws:List ByteArray):Prop where
 hist:Kg h
 nm:Hu h
 len:1≤ws.length
 key:Fy (ws.getD 0 Ja)=true
 max:ws.length≤1000000
 siz:∀w∈ws,w.size≤1000000
def J2t:X7:={T? :=none,s:=Jhn,args:=[.val false (.list 9 .str)],ress:=[tS,I],pre:=fun h (ws,_)=>[Jg8 h ws],spec:=fun h (ws,_)=>((Zg (Kh h.2.2) ws).1,(Zg (Kh h.2.2) ws).2,()),post:=fun h _=>h}
def SmL (l:List ByteArray):Prop:=l.length≤2000∧∀w∈l,w.size≤40
theorem K2 {l:List ByteArray} (h:SmL l):l.length≤1000000∧(Lib.join (l.map fun x=>x.data.toList) [32]).length≤140737488355328:=by
 refine⟨by have:=h.1;omega,Nat.le_trans (Jbp rfl) ?_⟩
 have:∀l:List ByteArray,(∀w∈l,w.size≤40)→((l.map fun x=>x.data.toList).map fun x=>x.length+1).sum≤41*l.length:=by
  intro l
  induction l with
  |nil=>intro _;simp
  |cons x r ih=>
   intro h
   have h1:=ih fun w hw=>h w (List.mem_cons_of_mem _ hw)
   have h2:x.data.toList.length≤40:=h x (List.mem_cons_self ..)
   simp only[List.map_cons,List.sum_cons,List.length_cons]
   omega
 have h1:=this l h.2
 have h2:=h.1
 omega
theorem Jju {l:List Int} (h:l.length≤2000) (hb:∀n∈l,-9223372036854775808≤n∧n≤9223372036854775807):SmL (l.map Ku):=by
 refine⟨by simpa using h,fun w hw=> ?_⟩
 obtain⟨n,hn,rfl⟩:=List.mem_map.1 hw
 exact Lw n (hb n hn).1 (hb n hn).2
theorem Jqe {r:Reg} (hr:Jn r) (s:ByteArray):SmL (Jv8 r s):=by
 obtain⟨tk,st,S,O,M,X,Q⟩:=r
 have hb:=Jyo (s:=s) hr
 exact Jju (l:=[Jyp st S O M s]) (by simp) fun n hn=>by rw[List.mem_singleton.1 hn];omega
theorem Jjw {r:Reg} (hr:Jn r) {s:ByteArray} (h:0≤J2 r.2.2.1 s):SmL (Jfm r s):=by
 obtain⟨tk,st,S,O,M,X,Q⟩:=r
 have hs:0≤(Hw S s).2.2∧(Hw S s).2.2≤1000:=(Jjs hr.sta h).pri
 exact Jju (l:=[(Hw S s).2.2]) (by simp) fun n hn=>by rw[List.mem_singleton.1 hn];omega
theorem Jjy {r:Reg} (hr:Jn r) {s:ByteArray} (h:0≤Kx r.2.2.2.1 s):SmL (Jfn r s):=by
 obtain⟨tk,st,S,O,M,X,Q⟩:=r
 have hb:=Jby hr (Jci h)
 have b1:=hb.hours
 have b2:=hb.sent
 have b3:=hb.got
 have b4:=hb.money
 have b5:=hb.fine
 refine Jju (l:=[(Uo st M (X9 O s)).2.1,(Uo st M (X9 O s)).2.2.1,(Uo st M (X9 O s)).2.2.2.1,(Uo st M (X9 O s)).2.2.2.2.1,(Uo st M (X9 O s)).2.2.2.2.2]) (by simp) fun n hn=> ?_
 simp only[List.mem_cons,List.not_mem_nil,or_false] at hn
 rcases hn with rfl|rfl|rfl|rfl|rfl<;>omega
theorem Jke:∀{l:List Gap} {o:List ByteArray},(∀g∈l,g.1.size≤40∧0≤g.2∧g.2≤999999999)→o.length≤514→(∀w∈o,w.size≤40)→SmL (Jd0 l o)
 |[],o,_,h1,h2=>⟨by unfold Jd0;omega,h2⟩
 | g :: l, o, h, h1, h2 => by
  unfold Jd0
  have hg:=h g (List.mem_cons_self ..)
  have h':∀x∈l,x.1.size≤40∧0≤x.2∧x.2≤999999999:=fun x hx=>h x (List.mem_cons_of_mem _ hx)
  cases hd:decide ((o.length:Int)<512) with
  |false=>exact Jke h' h1 h2
  |true=>
   have hd:=of_decide_eq_true hd
   rw[cond_true]
   refine Jke h' (by rw[List.length_append,List.length_cons,List.length_cons,List.length_nil];omega) fun w hw=> ?_
   simp only[List.mem_append,List.mem_cons,List.not_mem_nil,or_false] at hw
   rcases hw with hw|rfl|rfl
   ·exact h2 w hw
   ·exact hg.1
   ·exact Lw _ (by omega) (by omega)
theorem Jqv {M:List Met} {u:Int} {x:Ord}:∀(n:Nat) (h:Int),∀g∈Df M u x h n,g.1=x.1
 |0,_,g,hg=>by cases hg
 | n + 1, h, g, hg => by
  unfold Df at hg
  rcases List.mem_append.1 hg with hg|hg
  ·cases hb:J4 x h&&(decide (h<u)&&decide (K6 M x.1 h<0)) with
   |false=>rw[hb] at hg;cases hg
   |true=>
    rw[hb,cond_true] at hg
    rw[List.mem_singleton.1 hg]
  ·exact Jqv n (h+1) g hg
theorem Jqu {M:List Met} {u:Int}:∀{O:List Ord},(∀x∈O,x.1.size≤24)→∀g∈Kr M u O,g.1.size≤24
 |[],_,g,hg=>by cases hg
 | x :: l, h, g, hg => by
  unfold Kr at hg
  rcases List.mem_append.1 hg with hg|hg
  ·rw[Jqv _ _ g hg]
   exact h x (List.mem_cons_self ..)
  ·exact Jqu (fun y hy=>h y (List.mem_cons_of_mem _ hy)) g hg
theorem Jjx {r:Reg} (hr:Jn r) (hN:NmR r) (s:ByteArray):SmL (Jdy r s):=by
 obtain⟨tk,st,S,O,M,X,Q⟩:=r
 refine Jke (fun g hg=>⟨?_,Jkf hr.ord g hg⟩) (by decide) fun w hw=>by cases hw
 have:=Jqu hN.o g hg
 omega
theorem Jqd {r:Reg} (hr:Jn r) (hN:NmR r) (s:ByteArray):SmL (Juj r s):=by
 obtain⟨tk,st,S,O,M,X,Q⟩:=r
 have nX:X.length≤16:=hr.nX
 have:=List.length_filter_le (fun x:Out=>Ks x.2.2.1 tk) X
 refine⟨by unfold Juj;rw[List.length_map];omega,fun w hw=> ?_⟩
 obtain⟨x,hx,rfl⟩:=List.mem_map.1 hw
 have:=hN.x x (List.mem_filter.1 hx).1
 omega
theorem Jqc {r:Reg} (hr:Jn r) (hN:NmR r) (s:ByteArray):SmL (Jui r s):=by
 obtain⟨tk,st,S,O,M,X,Q⟩:=r
 have nQ:Q.length≤16:=hr.nQ
 have:=Jed (Q:=Q)
 refine⟨by unfold Jui;rw[List.length_map];omega,fun w hw=> ?_⟩
 obtain⟨x,hx,rfl⟩:=List.mem_map.1 hw
 have:=hN.q x (List.mem_filter.1 hx).1
 omega
theorem Jjv {r:Reg} (hr:Jn r) (s:ByteArray):SmL (Jfl r s):=by
 obtain⟨tk,st,S,O,M,X,Q⟩:=r
 have h1:0≤st∧st≤tk:=hr.st
 have h2:0≤tk∧tk≤999999999:=hr.tk
 exact Jju (l:=[st]) (by simp) fun n hn=>by rw[List.mem_singleton.1 hn];omega
theorem Jfw (G:List Reg):(decide (0<(G.length:Int))=true∧Kh G=G.getD ((G.length:Int)-1).toNat U3)∨(decide (0<(G.length:Int))=false∧Kh G=U3):=by
 cases h:decide (0<(G.length:Int)) with
 |true=>exact .inl ⟨rfl,by unfold Kh;congr 1;omega⟩
 |false=>exact .inr ⟨rfl,Kp h⟩
theorem Js9:Jdf Ui=(true,0,some 195):=by kernel_rfl
theorem Jpp (r:Reg) (ws:List ByteArray):Zg r (Ui::ws)=Jh0 true 0 Jv8 r (Ui::ws):=by
 have:(Ui::ws).getD 0 Ja=Ui:=rfl
 unfold Zg
 rw[this,Js9]
 rfl
def Z91 (a:List Reg) (b:Ls):=(Zg (Kh a) (Ui::b)).1
def Kpf (a:Ls):=Ln (Ui::a)==2
def Kc5 (a:List Reg) (b:Ls):=0=(Zg (Kh a) (Ui::b)).2
def Kc0:=1≤1000000∧1≤140737488355328
def Jr0 (a:Ls):= !Lb (U2 a) B0
def Jnz:=ByteArray.mk (Array.mk [110,111,110,101])
def Kie (a:Ls):=Jv8 Vy (U2 a)
def Khd (a:TypeId) (b c:List Ev) (d:List Reg) (e:Ls):=Sf true (Sf a (Sf (b,c,d) (B0=Z91 d e∧10=(Zg (Kh d) (Ui::e)).2)))
def Kyy (a:TypeId) (b c:List Ev) (d:List Reg) (e:Ls):=Sf true (Sf a (Sf (b,c,d) (B0=Z91 d e∧25=(Zg (Kh d) (Ui::e)).2)))
def Kg2 (a:TypeId) (b c:List Ev) (d:List Reg) (e:Ls):=Sf true (Sf a (Sf (b,c,d) (Jnz=Z91 d e∧Kc5 d e)))
def Kgs (a:List Reg):=Jv8 (Ym a) B0
def Jzu (a:List Reg) (b:Ls):=Jv8 (Ym a) (U2 b)
def J31 (a:List Reg):=bif true then !Vl (Ym a) 0 B0 else false
theorem Jjl (T:TypeId) (E C:List Ev) (G:List Reg) (ws:List ByteArray):wpFO Tryz.prog J0w.g (na ()) (fun _=>na ()) (Sx.look ([(75,Tryz.f75)]:List (Nat×Func))) Tryz.f119 J2t T (E,C,G) (Ui::ws,()):=by
 refine(by kernel_rfl:(Jg8 (E,C,G) (Ui::ws)→Tw (Bd 0 (Ln (Ui::ws)))∧Br (bif true then Kpf ws else false) (Tw (Bd 1 (Ln (Ui::ws)))∧Br (bif !true==bif Kpf ws then Jr0 ws else false then true else false) (Kyy T E C G ws) (Br (Yb G) (Ya G∧Jep G∧Br (Jub G ws) (Khd T E C G ws) (Xb G∧Br (Ln (Jzu G ws)==0) (Kg2 T E C G ws) ((List.length (Jzu G ws)≤1000000∧List.length (Lib.join (List.map (fun(x:ByteArray)=>Z14 x) (Jzu G ws)) [32])≤140737488355328)∧Sf true (Sf T (Sf (E,C,G) (Vi (Jzu G ws) Hz=Z91 G ws∧Kc5 G ws)))))) (Jet∧Br (Kbs ws) (Khd T E C G ws) (Y1∧Br (Ln (Kie ws)==0) (Kg2 T E C G ws) ((List.length (Kie ws)≤1000000∧List.length (Lib.join (List.map (fun(x:ByteArray)=>Z14 x) (Kie ws)) [32])≤140737488355328)∧Sf true (Sf T (Sf (E,C,G) (Vi (Kie ws) Hz=Z91 G ws∧Kc5 G ws)))))))) (Br (bif !true==bif Kpf ws then false else false then true else false) (Kyy T E C G ws) (Br (Yb G) (Ya G∧Jep G∧Br (J31 G) (Khd T E C G ws) (Xb G∧Br (Ln (Kgs G)==0) (Kg2 T E C G ws) ((List.length (Kgs G)≤1000000∧List.length (Lib.join (List.map (fun(x:ByteArray)=>Z14 x) (Kgs G)) [32])≤140737488355328)∧Sf true (Sf T (Sf (E,C,G) (Vi (Kgs G) Hz=Z91 G ws∧Kc5 G ws)))))) (Jet∧Br true (Khd T E C G ws) (Y1∧Br false (Kg2 T E C G ws) (Kc0∧Sf true (Sf T (Sf (E,C,G) (Vi (Jv8 Vy B0) Hz=Z91 G ws∧Kc5 G ws)))))))))=_).mp ?_
 delta Z14 Z91 U2 Yb Hz Kpf Kc5 Kc0 Jr0 Jnz Dl Vy Ya Y1 Jet Fs Kie Fr Ja2 Jaf Hy Hx Dk Hd J5f Kbs Khd Kyy Kg2 Jae Ym Xb Kgs Jep Jzu Jnq J31 Jub Br Iw Bd Tw Sf Ln Gt B0 Lb E2 Ui
 intro ha
 obtain⟨hh,hn,-,-,hmax,hsz⟩:=ha
 have hr:Jn (Kh G):=Zb hh
 have hN:NmR (Kh G):=Jfx hn
 have hG:G.length≤1000:=by have:=hh.nE;have:=hh.nC;have:=hh.nG;dsimp only at*;omega
 rw[Jpp]
 have hbn:({data:={toList:=[]}}:ByteArray)=Ja:=rfl
 have hl:((Ui::ws).length:Int)=(ws.length:Int)+1:=by simp
 have ha1:(Ui::ws).getD 1 Ja=ws.getD 0 Ja:=rfl
 have hz:((0:Int),(0:Int),([]:List Sta),([]:List Ord),([]:List Met),([]:List Out),([]:List Per))=U3:=rfl
 simp only[hbn,hz,hl,Prod.eta,Jh0,ha1]
 rcases Jfw G with⟨hd,e0⟩|⟨hd,e0⟩
 ·rw[e0] at hr hN⊢
  have hp:=of_decide_eq_true hd
  rw[hd]
  generalize G.getD ((G.length:Int)-1).toNat U3=r at hr hN⊢
  cases h2:(ws.length:Int)+1==2
  all_goals cases h3:(ws.getD 0 Ja).toList==Ja.toList
  all_goals cases h4:Vl r 0 (ws.getD 0 Ja)
  all_goals cases h5:(((Jv8 r (ws.getD 0 Ja)).length:Int)==0)
  all_goals simp only[h2,h3,h4,h5,bne,Jny,Bool.not_true,Bool.not_false,cond_true,cond_false,BEq.rfl,Bool.true_beq,Bool.false_beq,reduceCtorEq,false_implies,forall_const,true_and,and_true,and_self]
  all_goals repeat' apply And.intro
  all_goals first|omega|(have:=eq_of_beq h2;omega)|exact hr|exact(K2 (Jqe hr _)).1|exact(K2 (Jqe hr _)).2|rfl|(have:=h4;simpa[Vl] using this)|skip
 ·rw[e0] at hr hN⊢
  rw[hd]
  cases h2:(ws.length:Int)+1==2
  all_goals cases h3:(ws.getD 0 Ja).toList==Ja.toList
  all_goals cases h4:Vl U3 0 (ws.getD 0 Ja)
  all_goals cases h5:(((Jv8 U3 (ws.getD 0 Ja)).length:Int)==0)
  all_goals simp only[h2,h3,h4,h5,bne,Jny,Bool.not_true,Bool.not_false,cond_true,cond_false,BEq.rfl,Bool.true_beq,Bool.false_beq,reduceCtorEq,false_implies,forall_const,true_and,and_true,and_self]
  all_goals repeat' apply And.intro
  all_goals first|omega|(have:=eq_of_beq h2;omega)|exact hr|exact(K2 (Jqe hr _)).1|exact(K2 (Jqe hr _)).2|rfl|(have:=h4;simpa[Vl,U3] using this)|exact nomatch (show true=false from h5)|exact nomatch (show false=true from h5)
theorem J6e:Jdf H1=(true,0,some 196):=by kernel_rfl
theorem J2z (r:Reg) (ws:List ByteArray):Zg r (H1::ws)=Jh0 true 0 Jfm r (H1::ws):=by
 have:(H1::ws).getD 0 Ja=H1:=rfl
 unfold Zg
 rw[this,J6e]
 rfl
def Z54 (a:List Reg) (b:Ls):=(Zg (Kh a) (H1::b)).1
def Kpi (a:Ls):=Ln (H1::a)==2
def Kda (a:List Reg) (b:Ls):=0=(Zg (Kh a) (H1::b)).2
def Kia (a:Ls):=Jfm Vy (U2 a)
def Khi (a:TypeId) (b c:List Ev) (d:List Reg) (e:Ls):=Sf true (Sf a (Sf (b,c,d) (B0=Z54 d e∧10=(Zg (Kh d) (H1::e)).2)))
def Kza (a:TypeId) (b c:List Ev) (d:List Reg) (e:Ls):=Sf true (Sf a (Sf (b,c,d) (B0=Z54 d e∧25=(Zg (Kh d) (H1::e)).2)))
def Kg4 (a:TypeId) (b c:List Ev) (d:List Reg) (e:Ls):=Sf true (Sf a (Sf (b,c,d) (Jnz=Z54 d e∧Kda d e)))
def Kgp (a:List Reg):=Jfm (Ym a) B0
def Jzt (a:List Reg) (b:Ls):=Jfm (Ym a) (U2 b)
theorem Jsn (T:TypeId) (E C:List Ev) (G:List Reg) (ws:List ByteArray):wpFO Tryz.prog J0w.g (na ()) (fun _=>na ()) (Sx.look ([(75,Tryz.f75)]:List (Nat×Func))) Tryz.f119 J2t T (E,C,G) (H1::ws,()):=by
 refine(by kernel_rfl:(Jg8 (E,C,G) (H1::ws)→Tw (Bd 0 (Ln (H1::ws)))∧Br (bif true then Kpi ws else false) (Tw (Bd 1 (Ln (H1::ws)))∧Br (bif !true==bif Kpi ws then Jr0 ws else false then true else false) (Kza T E C G ws) (Br (Yb G) (Ya G∧Jep G∧Br (Jub G ws) (Khi T E C G ws) ((Xb G∧0≤J2 (Hy G).1 (U2 ws))∧Br (Ln (Jzt G ws)==0) (Kg4 T E C G ws) ((List.length (Jzt G ws)≤1000000∧List.length (Lib.join (List.map (fun(x:ByteArray)=>Z14 x) (Jzt G ws)) [32])≤140737488355328)∧Sf true (Sf T (Sf (E,C,G) (Vi (Jzt G ws) Hz=Z54 G ws∧Kda G ws)))))) (Jet∧Br (Kbs ws) (Khi T E C G ws) ((Y1∧0≤J2 [] (U2 ws))∧Br (Ln (Kia ws)==0) (Kg4 T E C G ws) ((List.length (Kia ws)≤1000000∧List.length (Lib.join (List.map (fun(x:ByteArray)=>Z14 x) (Kia ws)) [32])≤140737488355328)∧Sf true (Sf T (Sf (E,C,G) (Vi (Kia ws) Hz=Z54 G ws∧Kda G ws)))))))) (Br (bif !true==bif Kpi ws then false else false then true else false) (Kza T E C G ws) (Br (Yb G) (Ya G∧Jep G∧Br (J31 G) (Khi T E C G ws) ((Xb G∧0≤J2 (Hy G).1 B0)∧Br (Ln (Kgp G)==0) (Kg4 T E C G ws) ((List.length (Kgp G)≤1000000∧List.length (Lib.join (List.map (fun(x:ByteArray)=>Z14 x) (Kgp G)) [32])≤140737488355328)∧Sf true (Sf T (Sf (E,C,G) (Vi (Kgp G) Hz=Z54 G ws∧Kda G ws)))))) (Jet∧Br true (Khi T E C G ws) ((Y1∧0≤J2 [] B0)∧Br false (Kg4 T E C G ws) (Kc0∧Sf true (Sf T (Sf (E,C,G) (Vi (Jfm Vy B0) Hz=Z54 G ws∧Kda G ws)))))))))=_).mp ?_
 delta Z14 Z54 U2 Yb Kpi Hz Kda Kc0 Jr0 Jnz Dl Vy Ya Y1 Jet Fs Fr Ja2 Kia Jaf Hy Hx Dk Hd J5f Kbs Khi Kza Kg4 Jae Ym Xb Kgp Jep Jzt Jnq J31 Jub Br Iw Bd Tw Sf Ln Gt B0 Lb E2 H1
 intro ha
 obtain⟨hh,hn,-,-,hmax,hsz⟩:=ha
 have hr:Jn (Kh G):=Zb hh
 have hN:NmR (Kh G):=Jfx hn
 have hG:G.length≤1000:=by have:=hh.nE;have:=hh.nC;have:=hh.nG;dsimp only at*;omega
 rw[J2z]
 have hbn:({data:={toList:=[]}}:ByteArray)=Ja:=rfl
 have hl:((H1::ws).length:Int)=(ws.length:Int)+1:=by simp
 have ha1:(H1::ws).getD 1 Ja=ws.getD 0 Ja:=rfl
 have hz:((0:Int),(0:Int),([]:List Sta),([]:List Ord),([]:List Met),([]:List Out),([]:List Per))=U3:=rfl
 simp only[hbn,hz,hl,Prod.eta,Jh0,ha1]
 rcases Jfw G with⟨hd,e0⟩|⟨hd,e0⟩
 ·rw[e0] at hr hN⊢
  have hp:=of_decide_eq_true hd
  rw[hd]
  generalize G.getD ((G.length:Int)-1).toNat U3=r at hr hN⊢
  cases h2:(ws.length:Int)+1==2
  all_goals cases h3:(ws.getD 0 Ja).toList==Ja.toList
  all_goals cases h4:Vl r 0 (ws.getD 0 Ja)
  all_goals cases h5:(((Jfm r (ws.getD 0 Ja)).length:Int)==0)
  all_goals simp only[h2,h3,h4,h5,bne,Jny,Bool.not_true,Bool.not_false,cond_true,cond_false,BEq.rfl,Bool.true_beq,Bool.false_beq,reduceCtorEq,false_implies,forall_const,true_and,and_true,and_self]
  all_goals repeat' apply And.intro
  all_goals first|omega|(have:=eq_of_beq h2;omega)|exact hr|exact(K2 (Jjw hr (by have:=h4;simpa[Vl,U3] using this))).1|exact(K2 (Jjw hr (by have:=h4;simpa[Vl,U3] using this))).2|rfl|(have:=h4;simpa[Vl] using this)|skip
 ·rw[e0] at hr hN⊢
  rw[hd]
  cases h2:(ws.length:Int)+1==2
  all_goals cases h3:(ws.getD 0 Ja).toList==Ja.toList
  all_goals cases h4:Vl U3 0 (ws.getD 0 Ja)
  all_goals cases h5:(((Jfm U3 (ws.getD 0 Ja)).length:Int)==0)
  all_goals simp only[h2,h3,h4,h5,bne,Jny,Bool.not_true,Bool.not_false,cond_true,cond_false,BEq.rfl,Bool.true_beq,Bool.false_beq,reduceCtorEq,false_implies,forall_const,true_and,and_true,and_self]
  all_goals repeat' apply And.intro
  all_goals first|omega|(have:=eq_of_beq h2;omega)|exact hr|exact(K2 (Jjw hr (by have:=h4;simpa[Vl,U3] using this))).1|exact(K2 (Jjw hr (by have:=h4;simpa[Vl,U3] using this))).2|rfl|(have:=h4;simpa[Vl,U3] using this)|exact nomatch (show true=false from h5)|exact nomatch (show false=true from h5)
theorem J6f:Jdf H2=(true,1,some 197):=by kernel_rfl
theorem J20 (r:Reg) (ws:List ByteArray):Zg r (H2::ws)=Jh0 true 1 Jfn r (H2::ws):=by
 have:(H2::ws).getD 0 Ja=H2:=rfl
 unfold Zg
 rw[this,J6f]
 rfl
def Z50 (a:List Reg) (b:Ls):=(Zg (Kh a) (H2::b)).1
def Kpj (a:Ls):=Ln (H2::a)==2
def Kdb (a:List Reg) (b:Ls):=0=(Zg (Kh a) (H2::b)).2
def Kh7 (a:Ls):=Jfn Vy (U2 a)
def Kzc (a:TypeId) (b c:List Ev) (d:List Reg) (e:Ls):=Sf true (Sf a (Sf (b,c,d) (B0=Z50 d e∧25=(Zg (Kh d) (H2::e)).2)))
def Khh (a:TypeId) (b c:List Ev) (d:List Reg) (e:Ls):=Sf true (Sf a (Sf (b,c,d) (B0=Z50 d e∧10=(Zg (Kh d) (H2::e)).2)))
def Kg5 (a:TypeId) (b c:List Ev) (d:List Reg) (e:Ls):=Sf true (Sf a (Sf (b,c,d) (Jnz=Z50 d e∧Kdb d e)))
def Kgm (a:List Reg):=Jfn (Ym a) B0
def Jzs (a:List Reg) (b:Ls):=Jfn (Ym a) (U2 b)
theorem Jso (T:TypeId) (E C:List Ev) (G:List Reg) (ws:List ByteArray):wpFO Tryz.prog J0w.g (na ()) (fun _=>na ()) (Sx.look ([(75,Tryz.f75)]:List (Nat×Func))) Tryz.f119 J2t T (E,C,G) (H2::ws,()):=by
 refine(by kernel_rfl:(Jg8 (E,C,G) (H2::ws)→Tw (Bd 0 (Ln (H2::ws)))∧Br (bif true then Kpj ws else false) (Tw (Bd 1 (Ln (H2::ws)))∧Br (bif !true==bif Kpj ws then Jr0 ws else false then true else false) (Kzc T E C G ws) (Br (Yb G) (Ya G∧Jep G∧Br (Jua G ws) (Khh T E C G ws) ((Xb G∧0≤Kx (Hx G).1 (U2 ws))∧Br (Ln (Jzs G ws)==0) (Kg5 T E C G ws) ((List.length (Jzs G ws)≤1000000∧List.length (Lib.join (List.map (fun(x:ByteArray)=>Z14 x) (Jzs G ws)) [32])≤140737488355328)∧Sf true (Sf T (Sf (E,C,G) (Vi (Jzs G ws) Hz=Z50 G ws∧Kdb G ws)))))) (Jet∧Br (Kbt ws) (Khh T E C G ws) ((Y1∧0≤Kx [] (U2 ws))∧Br (Ln (Kh7 ws)==0) (Kg5 T E C G ws) ((List.length (Kh7 ws)≤1000000∧List.length (Lib.join (List.map (fun(x:ByteArray)=>Z14 x) (Kh7 ws)) [32])≤140737488355328)∧Sf true (Sf T (Sf (E,C,G) (Vi (Kh7 ws) Hz=Z50 G ws∧Kdb G ws)))))))) (Br (bif !true==bif Kpj ws then false else false then true else false) (Kzc T E C G ws) (Br (Yb G) (Ya G∧Jep G∧Br (bif true then !Vl (Ym G) 1 B0 else false) (Khh T E C G ws) ((Xb G∧0≤Kx (Hx G).1 B0)∧Br (Ln (Kgm G)==0) (Kg5 T E C G ws) ((List.length (Kgm G)≤1000000∧List.length (Lib.join (List.map (fun(x:ByteArray)=>Z14 x) (Kgm G)) [32])≤140737488355328)∧Sf true (Sf T (Sf (E,C,G) (Vi (Kgm G) Hz=Z50 G ws∧Kdb G ws)))))) (Jet∧Br true (Khh T E C G ws) ((Y1∧0≤Kx [] B0)∧Br false (Kg5 T E C G ws) ((5≤1000000∧9≤140737488355328)∧Sf true (Sf T (Sf (E,C,G) (Vi (Jfn Vy B0) Hz=Z50 G ws∧Kdb G ws)))))))))=_).mp ?_
 delta Z14 Z50 U2 Yb Kpj Hz Kdb Jr0 Jnz Dl Vy Ya Y1 Jet Fs Fr Ja2 Kh7 Jaf Hy Hx Dk Hd Kby Kbt Kzc Khh Kg5 Jae Ym Xb Kgm Jep Jzs Jud Jua Br Iw Bd Tw Sf Ln Gt B0 Lb E2 H2
 intro ha
 obtain⟨hh,hn,-,-,hmax,hsz⟩:=ha
 have hr:Jn (Kh G):=Zb hh
 have hN:NmR (Kh G):=Jfx hn
 have hG:G.length≤1000:=by have:=hh.nE;have:=hh.nC;have:=hh.nG;dsimp only at*;omega
 rw[J20]
 have hbn:({data:={toList:=[]}}:ByteArray)=Ja:=rfl
 have hl:((H2::ws).length:Int)=(ws.length:Int)+1:=by simp
 have ha1:(H2::ws).getD 1 Ja=ws.getD 0 Ja:=rfl
 have hz:((0:Int),(0:Int),([]:List Sta),([]:List Ord),([]:List Met),([]:List Out),([]:List Per))=U3:=rfl
 simp only[hbn,hz,hl,Prod.eta,Jh0,ha1]
 rcases Jfw G with⟨hd,e0⟩|⟨hd,e0⟩
 ·rw[e0] at hr hN⊢
  have hp:=of_decide_eq_true hd
  rw[hd]
  generalize G.getD ((G.length:Int)-1).toNat U3=r at hr hN⊢
  cases h2:(ws.length:Int)+1==2
  all_goals cases h3:(ws.getD 0 Ja).toList==Ja.toList
  all_goals cases h4:Vl r 1 (ws.getD 0 Ja)
  all_goals cases h5:(((Jfn r (ws.getD 0 Ja)).length:Int)==0)
  all_goals simp only[h2,h3,h4,h5,bne,Jny,Bool.not_true,Bool.not_false,cond_true,cond_false,BEq.rfl,Bool.true_beq,Bool.false_beq,reduceCtorEq,false_implies,forall_const,true_and,and_true,and_self]
  all_goals repeat' apply And.intro
  all_goals first|omega|(have:=eq_of_beq h2;omega)|exact hr|exact(K2 (Jjy hr (by have:=h4;simpa[Vl,U3] using this))).1|exact(K2 (Jjy hr (by have:=h4;simpa[Vl,U3] using this))).2|rfl|(have:=h4;simpa[Vl] using this)|skip
 ·rw[e0] at hr hN⊢
  rw[hd]
  cases h2:(ws.length:Int)+1==2
  all_goals cases h3:(ws.getD 0 Ja).toList==Ja.toList
  all_goals cases h4:Vl U3 1 (ws.getD 0 Ja)
  all_goals cases h5:(((Jfn U3 (ws.getD 0 Ja)).length:Int)==0)
  all_goals simp only[h2,h3,h4,h5,bne,Jny,Bool.not_true,Bool.not_false,cond_true,cond_false,BEq.rfl,Bool.true_beq,Bool.false_beq,reduceCtorEq,false_implies,forall_const,true_and,and_true,and_self]
  all_goals repeat' apply And.intro
  all_goals first|omega|(have:=eq_of_beq h2;omega)|exact hr|exact(K2 (Jjy hr (by have:=h4;simpa[Vl,U3] using this))).1|exact(K2 (Jjy hr (by have:=h4;simpa[Vl,U3] using this))).2|rfl|(have:=h4;simpa[Vl,U3] using this)|exact nomatch (show true=false from h5)|exact nomatch (show false=true from h5)
theorem Js8:Jdf Ud=(false,1,some 200):=by kernel_rfl
theorem Jpo (r:Reg) (ws:List ByteArray):Zg r (Ud::ws)=Jh0 false 1 Jdy r (Ud::ws):=by
 have:(Ud::ws).getD 0 Ja=Ud:=rfl
 unfold Zg
 rw[this,Js8]
 rfl
def Z40 (a:Ls):=Ln (Ud::a)
def Z81 (a:List Reg) (b:Ls):=(Zg (Kh a) (Ud::b)).1
def Kc6 (a:List Reg) (b:Ls):=0=(Zg (Kh a) (Ud::b)).2
def Kcz:=0≤1000000∧0≤140737488355328
def K2s (a:Ls):=bif true then Z40 a !=1 else false
def Kh8 (a:Ls):=Jdy Vy (U2 a)
def Khc (a:TypeId) (b c:List Ev) (d:List Reg) (e:Ls):=Sf true (Sf a (Sf (b,c,d) (B0=Z81 d e∧10=(Zg (Kh d) (Ud::e)).2)))
def Kyz (a:TypeId) (b c:List Ev) (d:List Reg) (e:Ls):=Sf true (Sf a (Sf (b,c,d) (B0=Z81 d e∧25=(Zg (Kh d) (Ud::e)).2)))
def Kgz (a:TypeId) (b c:List Ev) (d:List Reg) (e:Ls):=Sf true (Sf a (Sf (b,c,d) (Jnz=Z81 d e∧Kc6 d e)))
def Kgo (a:List Reg):=Jdy (Ym a) B0
def Jzq (a:List Reg) (b:Ls):=Jdy (Ym a) (U2 b)
theorem Jjk (T:TypeId) (E C:List Ev) (G:List Reg) (ws:List ByteArray):wpFO Tryz.prog J0w.g (na ()) (fun _=>na ()) (Sx.look ([(75,Tryz.f75)]:List (Nat×Func))) Tryz.f119 J2t T (E,C,G) (Ud::ws,()):=by
 refine(by kernel_rfl:(Jg8 (E,C,G) (Ud::ws)→Tw (Bd 0 (Z40 ws))∧Br false (Tw (Bd 1 (Z40 ws))∧Br (bif !false==bif Z40 ws==2 then Jr0 ws else false then true else K2s ws) (Kyz T E C G ws) (Br (Yb G) (Ya G∧Jc6 G∧Br false (Khc T E C G ws) (Xb G∧Br (Ln (Jzq G ws)==0) (Kgz T E C G ws) ((List.length (Jzq G ws)≤1000000∧List.length (Lib.join (List.map (fun(x:ByteArray)=>Z14 x) (Jzq G ws)) [32])≤140737488355328)∧Sf true (Sf T (Sf (E,C,G) (Vi (Jzq G ws) Hz=Z81 G ws∧Kc6 G ws)))))) (Jb4∧Br false (Khc T E C G ws) (Y1∧Br (Ln (Kh8 ws)==0) (Kgz T E C G ws) ((List.length (Kh8 ws)≤1000000∧List.length (Lib.join (List.map (fun(x:ByteArray)=>Z14 x) (Kh8 ws)) [32])≤140737488355328)∧Sf true (Sf T (Sf (E,C,G) (Vi (Kh8 ws) Hz=Z81 G ws∧Kc6 G ws)))))))) (Br (bif !false==bif Z40 ws==2 then false else false then true else K2s ws) (Kyz T E C G ws) (Br (Yb G) (Ya G∧Jc6 G∧Br false (Khc T E C G ws) (Xb G∧Br (Ln (Kgo G)==0) (Kgz T E C G ws) ((List.length (Kgo G)≤1000000∧List.length (Lib.join (List.map (fun(x:ByteArray)=>Z14 x) (Kgo G)) [32])≤140737488355328)∧Sf true (Sf T (Sf (E,C,G) (Vi (Kgo G) Hz=Z81 G ws∧Kc6 G ws)))))) (Jb4∧Br false (Khc T E C G ws) (Y1∧Br true (Kgz T E C G ws) (Kcz∧Sf true (Sf T (Sf (E,C,G) (Vi (Jdy Vy B0) Hz=Z81 G ws∧Kc6 G ws)))))))))=_).mp ?_
 delta Z14 Z40 Z81 U2 Yb Hz Kc6 Kcz Jr0 Jnz Dl Vy Ya Y1 Jb4 K2s Fs Fr Ja2 Kh8 Jaf Hy Hx Dk Hd Khc Kyz Kgz Jae Ym Xb Kgo Jc6 Jzq Br Iw Bd Tw Sf Ln Gt B0 Lb E2 Ud
 intro ha
 obtain⟨hh,hn,-,-,hmax,hsz⟩:=ha
 have hr:Jn (Kh G):=Zb hh
 have hN:NmR (Kh G):=Jfx hn
 have hG:G.length≤1000:=by have:=hh.nE;have:=hh.nC;have:=hh.nG;dsimp only at*;omega
 rw[Jpo]
 have hbn:({data:={toList:=[]}}:ByteArray)=Ja:=rfl
 have hl:((Ud::ws).length:Int)=(ws.length:Int)+1:=by simp
 have ha1:(Ud::ws).getD 1 Ja=ws.getD 0 Ja:=rfl
 have hz:((0:Int),(0:Int),([]:List Sta),([]:List Ord),([]:List Met),([]:List Out),([]:List Per))=U3:=rfl
 simp only[hbn,hz,hl,Prod.eta,Jh0,ha1]
 rcases Jfw G with⟨hd,e0⟩|⟨hd,e0⟩
 ·rw[e0] at hr hN⊢
  have hp:=of_decide_eq_true hd
  rw[hd]
  generalize G.getD ((G.length:Int)-1).toNat U3=r at hr hN⊢
  cases h2:(ws.length:Int)+1==1
  all_goals cases h6:(ws.length:Int)+1==2
  all_goals cases h3:(ws.getD 0 Ja).toList==Ja.toList
  all_goals cases h5:(((Jdy r Ja).length:Int)==0)
  all_goals simp only[h2,h3,h5,h6,bne,Jny,Bool.not_true,Bool.not_false,cond_true,cond_false,BEq.rfl,Bool.true_beq,Bool.false_beq,reduceCtorEq,false_implies,forall_const,true_and,and_true,and_self]
  all_goals repeat' apply And.intro
  all_goals first|omega|(have:=eq_of_beq h2;omega)|exact hr|exact(K2 (Jjx hr hN _)).1|exact(K2 (Jjx hr hN _)).2|rfl|(have:=h4;simpa[Vl] using this)|skip
 ·rw[e0] at hr hN⊢
  rw[hd]
  cases h2:(ws.length:Int)+1==1
  all_goals cases h6:(ws.length:Int)+1==2
  all_goals cases h3:(ws.getD 0 Ja).toList==Ja.toList
  all_goals cases h5:(((Jdy U3 Ja).length:Int)==0)
  all_goals simp only[h2,h3,h5,h6,bne,Jny,Bool.not_true,Bool.not_false,cond_true,cond_false,BEq.rfl,Bool.true_beq,Bool.false_beq,reduceCtorEq,false_implies,forall_const,true_and,and_true,and_self]
  all_goals repeat' apply And.intro
  all_goals first|omega|(have:=eq_of_beq h2;omega)|exact hr|exact(K2 (Jjx hr hN _)).1|exact(K2 (Jjx hr hN _)).2|rfl|(have:=h4;simpa[Vl,U3] using this)|exact nomatch (show true=false from h5)|exact nomatch (show false=true from h5)
theorem Js7:Jdf Uh=(false,2,some 201):=by kernel_rfl
theorem Jpn (r:Reg) (ws:List ByteArray):Zg r (Uh::ws)=Jh0 false 2 Juj r (Uh::ws):=by
 have:(Uh::ws).getD 0 Ja=Uh:=rfl
 unfold Zg
 rw[this,Js7]
 rfl
def Z41 (a:Ls):=Ln (Uh::a)
def Z85 (a:List Reg) (b:Ls):=(Zg (Kh a) (Uh::b)).1
def Kc7 (a:List Reg) (b:Ls):=0=(Zg (Kh a) (Uh::b)).2
def K2t (a:Ls):=bif true then Z41 a !=1 else false
def Kif (a:Ls):=Juj Vy (U2 a)
def Khe (a:TypeId) (b c:List Ev) (d:List Reg) (e:Ls):=Sf true (Sf a (Sf (b,c,d) (B0=Z85 d e∧10=(Zg (Kh d) (Uh::e)).2)))
def Ky1 (a:TypeId) (b c:List Ev) (d:List Reg) (e:Ls):=Sf true (Sf a (Sf (b,c,d) (B0=Z85 d e∧25=(Zg (Kh d) (Uh::e)).2)))
def Kg3 (a:TypeId) (b c:List Ev) (d:List Reg) (e:Ls):=Sf true (Sf a (Sf (b,c,d) (Jnz=Z85 d e∧Kc7 d e)))
def Kgq (a:List Reg):=Juj (Ym a) B0
def Jzw (a:List Reg) (b:Ls):=Juj (Ym a) (U2 b)
theorem Jjj (T:TypeId) (E C:List Ev) (G:List Reg) (ws:List ByteArray):wpFO Tryz.prog J0w.g (na ()) (fun _=>na ()) (Sx.look ([(75,Tryz.f75)]:List (Nat×Func))) Tryz.f119 J2t T (E,C,G) (Uh::ws,()):=by
 refine(by kernel_rfl:(Jg8 (E,C,G) (Uh::ws)→Tw (Bd 0 (Z41 ws))∧Br false (Tw (Bd 1 (Z41 ws))∧Br (bif !false==bif Z41 ws==2 then Jr0 ws else false then true else K2t ws) (Ky1 T E C G ws) (Br (Yb G) (Ya G∧Jc6 G∧Br false (Khe T E C G ws) (Xb G∧Br (Ln (Jzw G ws)==0) (Kg3 T E C G ws) ((List.length (Jzw G ws)≤1000000∧List.length (Lib.join (List.map (fun(x:ByteArray)=>Z14 x) (Jzw G ws)) [32])≤140737488355328)∧Sf true (Sf T (Sf (E,C,G) (Vi (Jzw G ws) Hz=Z85 G ws∧Kc7 G ws)))))) (Jb4∧Br false (Khe T E C G ws) (Y1∧Br (Ln (Kif ws)==0) (Kg3 T E C G ws) ((List.length (Kif ws)≤1000000∧List.length (Lib.join (List.map (fun(x:ByteArray)=>Z14 x) (Kif ws)) [32])≤140737488355328)∧Sf true (Sf T (Sf (E,C,G) (Vi (Kif ws) Hz=Z85 G ws∧Kc7 G ws)))))))) (Br (bif !false==bif Z41 ws==2 then false else false then true else K2t ws) (Ky1 T E C G ws) (Br (Yb G) (Ya G∧Jc6 G∧Br false (Khe T E C G ws) (Xb G∧Br (Ln (Kgq G)==0) (Kg3 T E C G ws) ((List.length (Kgq G)≤1000000∧List.length (Lib.join (List.map (fun(x:ByteArray)=>Z14 x) (Kgq G)) [32])≤140737488355328)∧Sf true (Sf T (Sf (E,C,G) (Vi (Kgq G) Hz=Z85 G ws∧Kc7 G ws)))))) (Jb4∧Br false (Khe T E C G ws) (Y1∧Br true (Kg3 T E C G ws) (Kcz∧Sf true (Sf T (Sf (E,C,G) (Vi (Juj Vy B0) Hz=Z85 G ws∧Kc7 G ws)))))))))=_).mp ?_
 delta Z14 Z41 Z85 U2 Yb Hz Kc7 Kcz Jr0 Jnz Dl Vy Ya Y1 Jb4 K2t Fs Kif Fr Ja2 Jaf Hy Hx Dk Hd Khe Ky1 Kg3 Jae Ym Xb Kgq Jc6 Jzw Br Iw Bd Tw Sf Ln Gt B0 Lb E2 Uh
 intro ha
 obtain⟨hh,hn,-,-,hmax,hsz⟩:=ha
 have hr:Jn (Kh G):=Zb hh
 have hN:NmR (Kh G):=Jfx hn
 have hG:G.length≤1000:=by have:=hh.nE;have:=hh.nC;have:=hh.nG;dsimp only at*;omega
 rw[Jpn]
 have hbn:({data:={toList:=[]}}:ByteArray)=Ja:=rfl
 have hl:((Uh::ws).length:Int)=(ws.length:Int)+1:=by simp
 have ha1:(Uh::ws).getD 1 Ja=ws.getD 0 Ja:=rfl
 have hz:((0:Int),(0:Int),([]:List Sta),([]:List Ord),([]:List Met),([]:List Out),([]:List Per))=U3:=rfl
 simp only[hbn,hz,hl,Prod.eta,Jh0,ha1]
 rcases Jfw G with⟨hd,e0⟩|⟨hd,e0⟩
 ·rw[e0] at hr hN⊢
  have hp:=of_decide_eq_true hd
  rw[hd]
  generalize G.getD ((G.length:Int)-1).toNat U3=r at hr hN⊢
  cases h2:(ws.length:Int)+1==1
  all_goals cases h6:(ws.length:Int)+1==2
  all_goals cases h3:(ws.getD 0 Ja).toList==Ja.toList
  all_goals cases h5:(((Juj r Ja).length:Int)==0)
  all_goals simp only[h2,h3,h5,h6,bne,Jny,Bool.not_true,Bool.not_false,cond_true,cond_false,BEq.rfl,Bool.true_beq,Bool.false_beq,reduceCtorEq,false_implies,forall_const,true_and,and_true,and_self]
  all_goals repeat' apply And.intro
  all_goals first|omega|(have:=eq_of_beq h2;omega)|exact hr|exact(K2 (Jqd hr hN _)).1|exact(K2 (Jqd hr hN _)).2|rfl|(have:=h4;simpa[Vl] using this)|skip
 ·rw[e0] at hr hN⊢
  rw[hd]
  cases h2:(ws.length:Int)+1==1
  all_goals cases h6:(ws.length:Int)+1==2
  all_goals cases h3:(ws.getD 0 Ja).toList==Ja.toList
  all_goals cases h5:(((Juj U3 Ja).length:Int)==0)
  all_goals simp only[h2,h3,h5,h6,bne,Jny,Bool.not_true,Bool.not_false,cond_true,cond_false,BEq.rfl,Bool.true_beq,Bool.false_beq,reduceCtorEq,false_implies,forall_const,true_and,and_true,and_self]
  all_goals repeat' apply And.intro
  all_goals first|omega|(have:=eq_of_beq h2;omega)|exact hr|exact(K2 (Jqd hr hN _)).1|exact(K2 (Jqd hr hN _)).2|rfl|(have:=h4;simpa[Vl,U3] using this)|exact nomatch (show true=false from h5)|exact nomatch (show false=true from h5)
theorem Js6:Jdf Ug=(false,3,some 205):=by kernel_rfl
theorem Jpm (r:Reg) (ws:List ByteArray):Zg r (Ug::ws)=Jh0 false 3 Jui r (Ug::ws):=by
 have:(Ug::ws).getD 0 Ja=Ug:=rfl
 unfold Zg
 rw[this,Js6]
 rfl
def Z47 (a:Ls):=Ln (Ug::a)
def Z88 (a:List Reg) (b:Ls):=(Zg (Kh a) (Ug::b)).1
def Kc4 (a:List Reg) (b:Ls):=0=(Zg (Kh a) (Ug::b)).2
def K2u (a:Ls):=bif true then Z47 a !=1 else false
def Kic (a:Ls):=Jui Vy (U2 a)
def Ky3 (a:TypeId) (b c:List Ev) (d:List Reg) (e:Ls):=Sf true (Sf a (Sf (b,c,d) (B0=Z88 d e∧25=(Zg (Kh d) (Ug::e)).2)))
def Kg9 (a:TypeId) (b c:List Ev) (d:List Reg) (e:Ls):=Sf true (Sf a (Sf (b,c,d) (B0=Z88 d e∧10=(Zg (Kh d) (Ug::e)).2)))
def Kg1 (a:TypeId) (b c:List Ev) (d:List Reg) (e:Ls):=Sf true (Sf a (Sf (b,c,d) (Jnz=Z88 d e∧Kc4 d e)))
def Kgr (a:List Reg):=Jui (Ym a) B0
def Jzv (a:List Reg) (b:Ls):=Jui (Ym a) (U2 b)
theorem Jji (T:TypeId) (E C:List Ev) (G:List Reg) (ws:List ByteArray):wpFO Tryz.prog J0w.g (na ()) (fun _=>na ()) (Sx.look ([(75,Tryz.f75)]:List (Nat×Func))) Tryz.f119 J2t T (E,C,G) (Ug::ws,()):=by
 refine(by kernel_rfl:(Jg8 (E,C,G) (Ug::ws)→Tw (Bd 0 (Z47 ws))∧Br false (Tw (Bd 1 (Z47 ws))∧Br (bif !false==bif Z47 ws==2 then Jr0 ws else false then true else K2u ws) (Ky3 T E C G ws) (Br (Yb G) (Ya G∧Jc6 G∧Br false (Kg9 T E C G ws) (Xb G∧Br (Ln (Jzv G ws)==0) (Kg1 T E C G ws) ((List.length (Jzv G ws)≤1000000∧List.length (Lib.join (List.map (fun(x:ByteArray)=>Z14 x) (Jzv G ws)) [32])≤140737488355328)∧Sf true (Sf T (Sf (E,C,G) (Vi (Jzv G ws) Hz=Z88 G ws∧Kc4 G ws)))))) (Jb4∧Br false (Kg9 T E C G ws) (Y1∧Br (Ln (Kic ws)==0) (Kg1 T E C G ws) ((List.length (Kic ws)≤1000000∧List.length (Lib.join (List.map (fun(x:ByteArray)=>Z14 x) (Kic ws)) [32])≤140737488355328)∧Sf true (Sf T (Sf (E,C,G) (Vi (Kic ws) Hz=Z88 G ws∧Kc4 G ws)))))))) (Br (bif !false==bif Z47 ws==2 then false else false then true else K2u ws) (Ky3 T E C G ws) (Br (Yb G) (Ya G∧Jc6 G∧Br false (Kg9 T E C G ws) (Xb G∧Br (Ln (Kgr G)==0) (Kg1 T E C G ws) ((List.length (Kgr G)≤1000000∧List.length (Lib.join (List.map (fun(x:ByteArray)=>Z14 x) (Kgr G)) [32])≤140737488355328)∧Sf true (Sf T (Sf (E,C,G) (Vi (Kgr G) Hz=Z88 G ws∧Kc4 G ws)))))) (Jb4∧Br false (Kg9 T E C G ws) (Y1∧Br true (Kg1 T E C G ws) (Kcz∧Sf true (Sf T (Sf (E,C,G) (Vi (Jui Vy B0) Hz=Z88 G ws∧Kc4 G ws)))))))))=_).mp ?_
 delta Z14 Z47 Z88 U2 Yb Hz Kc4 Kcz Jr0 Jnz Dl Vy Ya Y1 Jb4 K2u Fs Fr Ja2 Kic Jaf Hy Hx Dk Hd Ky3 Kg9 Kg1 Jae Ym Xb Kgr Jc6 Jzv Br Iw Bd Tw Sf Ln Gt B0 Lb E2 Ug
 intro ha
 obtain⟨hh,hn,-,-,hmax,hsz⟩:=ha
 have hr:Jn (Kh G):=Zb hh
 have hN:NmR (Kh G):=Jfx hn
 have hG:G.length≤1000:=by have:=hh.nE;have:=hh.nC;have:=hh.nG;dsimp only at*;omega
 rw[Jpm]
 have hbn:({data:={toList:=[]}}:ByteArray)=Ja:=rfl
 have hl:((Ug::ws).length:Int)=(ws.length:Int)+1:=by simp
 have ha1:(Ug::ws).getD 1 Ja=ws.getD 0 Ja:=rfl
 have hz:((0:Int),(0:Int),([]:List Sta),([]:List Ord),([]:List Met),([]:List Out),([]:List Per))=U3:=rfl
 simp only[hbn,hz,hl,Prod.eta,Jh0,ha1]
 rcases Jfw G with⟨hd,e0⟩|⟨hd,e0⟩
 ·rw[e0] at hr hN⊢
  have hp:=of_decide_eq_true hd
  rw[hd]
  generalize G.getD ((G.length:Int)-1).toNat U3=r at hr hN⊢
  cases h2:(ws.length:Int)+1==1
  all_goals cases h6:(ws.length:Int)+1==2
  all_goals cases h3:(ws.getD 0 Ja).toList==Ja.toList
  all_goals cases h5:(((Jui r Ja).length:Int)==0)
  all_goals simp only[h2,h3,h5,h6,bne,Jny,Bool.not_true,Bool.not_false,cond_true,cond_false,BEq.rfl,Bool.true_beq,Bool.false_beq,reduceCtorEq,false_implies,forall_const,true_and,and_true,and_self]
  all_goals repeat' apply And.intro
  all_goals first|omega|(have:=eq_of_beq h2;omega)|exact hr|exact(K2 (Jqc hr hN _)).1|exact(K2 (Jqc hr hN _)).2|rfl|(have:=h4;simpa[Vl] using this)|skip
 ·rw[e0] at hr hN⊢
  rw[hd]
  cases h2:(ws.length:Int)+1==1
  all_goals cases h6:(ws.length:Int)+1==2
  all_goals cases h3:(ws.getD 0 Ja).toList==Ja.toList
  all_goals cases h5:(((Jui U3 Ja).length:Int)==0)
  all_goals simp only[h2,h3,h5,h6,bne,Jny,Bool.not_true,Bool.not_false,cond_true,cond_false,BEq.rfl,Bool.true_beq,Bool.false_beq,reduceCtorEq,false_implies,forall_const,true_and,and_true,and_self]
  all_goals repeat' apply And.intro
  all_goals first|omega|(have:=eq_of_beq h2;omega)|exact hr|exact(K2 (Jqc hr hN _)).1|exact(K2 (Jqc hr hN _)).2|rfl|(have:=h4;simpa[Vl,U3] using this)|exact nomatch (show true=false from h5)|exact nomatch (show false=true from h5)
theorem Js5:Jdf Uf=(false,0,some 209):=by kernel_rfl
theorem Jpl (r:Reg) (ws:List ByteArray):Zg r (Uf::ws)=Jh0 false 0 Jfl r (Uf::ws):=by
 have:(Uf::ws).getD 0 Ja=Uf:=rfl
 unfold Zg
 rw[this,Js5]
 rfl
def Z39 (a:Ls):=Ln (Uf::a)
def Z89 (a:List Reg) (b:Ls):=(Zg (Kh a) (Uf::b)).1
def Kc3 (a:List Reg) (b:Ls):=0=(Zg (Kh a) (Uf::b)).2
def K2x (a:Ls):=bif true then Z39 a !=1 else false
def Kh9 (a:Ls):=Jfl Vy (U2 a)
def Khb (a:TypeId) (b c:List Ev) (d:List Reg) (e:Ls):=Sf true (Sf a (Sf (b,c,d) (B0=Z89 d e∧10=(Zg (Kh d) (Uf::e)).2)))
def Ky0 (a:TypeId) (b c:List Ev) (d:List Reg) (e:Ls):=Sf true (Sf a (Sf (b,c,d) (B0=Z89 d e∧25=(Zg (Kh d) (Uf::e)).2)))
def Kg0 (a:TypeId) (b c:List Ev) (d:List Reg) (e:Ls):=Sf true (Sf a (Sf (b,c,d) (Jnz=Z89 d e∧Kc3 d e)))
def Kgn (a:List Reg):=Jfl (Ym a) B0
def Jzr (a:List Reg) (b:Ls):=Jfl (Ym a) (U2 b)
theorem Jjh (T:TypeId) (E C:List Ev) (G:List Reg) (ws:List ByteArray):wpFO Tryz.prog J0w.g (na ()) (fun _=>na ()) (Sx.look ([(75,Tryz.f75)]:List (Nat×Func))) Tryz.f119 J2t T (E,C,G) (Uf::ws,()):=by
 refine(by kernel_rfl:(Jg8 (E,C,G) (Uf::ws)→Tw (Bd 0 (Z39 ws))∧Br false (Tw (Bd 1 (Z39 ws))∧Br (bif !false==bif Z39 ws==2 then Jr0 ws else false then true else K2x ws) (Ky0 T E C G ws) (Br (Yb G) (Ya G∧Jc6 G∧Br false (Khb T E C G ws) (Xb G∧Br (Ln (Jzr G ws)==0) (Kg0 T E C G ws) ((List.length (Jzr G ws)≤1000000∧List.length (Lib.join (List.map (fun(x:ByteArray)=>Z14 x) (Jzr G ws)) [32])≤140737488355328)∧Sf true (Sf T (Sf (E,C,G) (Vi (Jzr G ws) Hz=Z89 G ws∧Kc3 G ws)))))) (Jb4∧Br false (Khb T E C G ws) (Y1∧Br (Ln (Kh9 ws)==0) (Kg0 T E C G ws) ((List.length (Kh9 ws)≤1000000∧List.length (Lib.join (List.map (fun(x:ByteArray)=>Z14 x) (Kh9 ws)) [32])≤140737488355328)∧Sf true (Sf T (Sf (E,C,G) (Vi (Kh9 ws) Hz=Z89 G ws∧Kc3 G ws)))))))) (Br (bif !false==bif Z39 ws==2 then false else false then true else K2x ws) (Ky0 T E C G ws) (Br (Yb G) (Ya G∧Jc6 G∧Br false (Khb T E C G ws) (Xb G∧Br (Ln (Kgn G)==0) (Kg0 T E C G ws) ((List.length (Kgn G)≤1000000∧List.length (Lib.join (List.map (fun(x:ByteArray)=>Z14 x) (Kgn G)) [32])≤140737488355328)∧Sf true (Sf T (Sf (E,C,G) (Vi (Kgn G) Hz=Z89 G ws∧Kc3 G ws)))))) (Jb4∧Br false (Khb T E C G ws) (Y1∧Br false (Kg0 T E C G ws) (Kc0∧Sf true (Sf T (Sf (E,C,G) (Vi (Jfl Vy B0) Hz=Z89 G ws∧Kc3 G ws)))))))))=_).mp ?_
 delta Z14 Z39 Z89 U2 Yb Hz Kc3 Kc0 Jr0 Jnz Dl Vy Ya Y1 Jb4 K2x Fs Fr Ja2 Kh9 Jaf Hy Hx Dk Hd Khb Ky0 Kg0 Jae Ym Xb Kgn Jc6 Jzr Br Iw Bd Tw Sf Ln Gt B0 Lb E2 Uf
 intro ha
 obtain⟨hh,hn,-,-,hmax,hsz⟩:=ha
 have hr:Jn (Kh G):=Zb hh
 have hN:NmR (Kh G):=Jfx hn
 have hG:G.length≤1000:=by have:=hh.nE;have:=hh.nC;have:=hh.nG;dsimp only at*;omega
 rw[Jpl]
 have hbn:({data:={toList:=[]}}:ByteArray)=Ja:=rfl
 have hl:((Uf::ws).length:Int)=(ws.length:Int)+1:=by simp
 have ha1:(Uf::ws).getD 1 Ja=ws.getD 0 Ja:=rfl
 have hz:((0:Int),(0:Int),([]:List Sta),([]:List Ord),([]:List Met),([]:List Out),([]:List Per))=U3:=rfl
 simp only[hbn,hz,hl,Prod.eta,Jh0,ha1]
 rcases Jfw G with⟨hd,e0⟩|⟨hd,e0⟩
 ·rw[e0] at hr hN⊢
  have hp:=of_decide_eq_true hd
  rw[hd]
  generalize G.getD ((G.length:Int)-1).toNat U3=r at hr hN⊢
  cases h2:(ws.length:Int)+1==1
  all_goals cases h6:(ws.length:Int)+1==2
  all_goals cases h3:(ws.getD 0 Ja).toList==Ja.toList
  all_goals cases h5:(((Jfl r Ja).length:Int)==0)
  all_goals simp only[h2,h3,h5,h6,bne,Jny,Bool.not_true,Bool.not_false,cond_true,cond_false,BEq.rfl,Bool.true_beq,Bool.false_beq,reduceCtorEq,false_implies,forall_const,true_and,and_true,and_self]
  all_goals repeat' apply And.intro
  all_goals first|omega|(have:=eq_of_beq h2;omega)|exact hr|exact(K2 (Jjv hr _)).1|exact(K2 (Jjv hr _)).2|rfl|(have:=h4;simpa[Vl] using this)|skip
 ·rw[e0] at hr hN⊢
  rw[hd]
  cases h2:(ws.length:Int)+1==1
  all_goals cases h6:(ws.length:Int)+1==2
  all_goals cases h3:(ws.getD 0 Ja).toList==Ja.toList
  all_goals cases h5:(((Jfl U3 Ja).length:Int)==0)
  all_goals simp only[h2,h3,h5,h6,bne,Jny,Bool.not_true,Bool.not_false,cond_true,cond_false,BEq.rfl,Bool.true_beq,Bool.false_beq,reduceCtorEq,false_implies,forall_const,true_and,and_true,and_self]
  all_goals repeat' apply And.intro
  all_goals first|omega|(have:=eq_of_beq h2;omega)|exact hr|exact(K2 (Jjv hr _)).1|exact(K2 (Jjv hr _)).2|rfl|(have:=h4;simpa[Vl,U3] using this)|exact nomatch (show true=false from h5)|exact nomatch (show false=true from h5)
theorem Jos {k:ByteArray} (h:Fy k=true):k=Ui∨k=H1∨k=H2∨k=Ud∨k=Uh∨k=Ug∨k=Uf:=by
 obtain⟨x,hx,hk⟩:=Jfy h
 have hk:=Jw0 hk
 unfold Jfk Tryz.questU at hx
 subst hk
 simp only[List.mem_cons,List.not_mem_nil,or_false] at hx
 rcases hx with rfl|rfl|rfl|rfl|rfl|rfl|rfl
 all_goals simp
theorem Kqc (T:TypeId):∀(x:Ka) (y:ATup [.val false (.list 9 .str)]),wpFO Tryz.prog J0w.g (na ()) (fun _=>na ()) (Sx.look ([(75,Tryz.f75)]:List (Nat×Func))) Tryz.f119 J2t T x y
 | (E, C, G), (l, ()) => by
  refine Jja (by kernel_rfl) fun hp=> ?_
  have hl:1≤l.length:=Jg8.len hp
  have hk:Fy (l.getD 0 Ja)=true:=Jg8.key hp
  obtain⟨w,ws,rfl⟩:∃w ws,l=w::ws:=by
   cases l with
   |nil=>exact absurd hl (by decide)
   |cons w ws=>exact⟨w,ws,rfl⟩
  have hk:Fy w=true:=hk
  rcases Jos hk with rfl|rfl|rfl|rfl|rfl|rfl|rfl
  ·exact Jjl T E C G ws
  ·exact Jsn T E C G ws
  ·exact Jso T E C G ws
  ·exact Jjk T E C G ws
  ·exact Jjj T E C G ws
  ·exact Jji T E C G ws
  ·exact Jjh T E C G ws
theorem Kto:Ok Tryz.prog 119 (X7.con J2t):=Za (Ue mixed J0w.ok (by kernel_rfl) (by kernel_rfl) (U4 (l:=([(75,Tryz.f75)]:List (Nat×Func))) (List.forall_mem_cons.2 ⟨by kernel_rfl,by simp⟩)) (fun _ _=>na ()) (fun _ _=>fun _=>na ()) fun T xx yy _=>Kqc T xx yy)
abbrev Uae:=J0w.add Kto
abbrev K4y:=Uae.add J6n
def doW (line:ByteArray):List ByteArray:=Y4 line ⟨⟨[32]⟩⟩
def do1 (line:ByteArray):Int:=Jg [bif decide (4096<(line.size:Int)) then 26 else 0,bif line.toList==Ja.toList then 25 else 0]
def do2 (h:Ka) (ws:List ByteArray):Int:=Jg [bif !(Vs ws).2 then 25 else 0,bif decide (1000≤(h.1.length:Int)) then 5 else 0]
def evD (h:Ka) (ws:List ByteArray):Ev:=((h.1.length:Int)+1,(Vs ws).1.2)
def J68 (n:Int):ByteArray:=bs ([100,111,110,101,32]++(Ku n).data.toList)
def doF (h:Ka) (line:ByteArray):Ka×ByteArray×Int:=
 if do1 line≠0 then(h,Ja,do1 line) else
 if Fy ((doW line).getD 0 Ja)=true then(h,Zg (Kh h.2.2) (doW line)) else
 if U8 ((doW line).getD 0 Ja)=false then(h,Ja,13) else
 if do2 h (doW line)≠0 then(h,Ja,do2 h (doW line)) else
 if K9 h (evD h (doW line))≠0 then(h,Ja,K9 h (evD h (doW line))) else
 (Ho h (evD h (doW line)),J68 ((h.1.length:Int)+1),0)
def cDo:X7:={T? :=some 212,s:=Jhn,args:=[aS],ress:=[tS,I],pre:=fun h (l,_)=>[Yc h,Hu h,l.size≤1000000],spec:=fun h (l,_)=>((doF h l).2.1,(doF h l).2.2,()),post:=fun h (l,_)=>(doF h l).1}
theorem Kee {l:ByteArray} (h:l.size≤1000000) (h4:l.size≤4096):1≤(doW l).length∧(doW l).length≤1000000∧∀w∈doW l,w.size≤1000000:=by
 have e:doW l=(Ja3 32 l.data.toList).map bs:=Lq l 32
 have h1:=Jjt 32 l.data.toList
 have hl:l.data.toList.length=l.size:=rfl
 rw[e]
 refine⟨?_,by rw[List.length_map];omega,fun w hw=> ?_⟩
 ·rw[List.length_map]
  have:∀l:List UInt8,1≤(Ja3 32 l).length:=by
   intro l
   induction l with
   |nil=>decide
   |cons c r ih=>unfold Ja3;split<;>(try split)<;>simp only[List.length_cons,List.length_nil]<;>omega
  exact this _
 ·obtain⟨v,hv,rfl⟩:=List.mem_map.1 hw
  have:=Jbd _ _ v hv
  rw[Kc];omega
def J0j (a:Bt):=Y4 a Hz
def K4r (a:Bt):=(Vs (J0j a)).1.2
def K4o (a:Bt):=(K4r a).2
def K4e (a:Bt):=List.getD (J0j a) 0 B0
def K36 (a:Bt):=Tw (Bd 0 (Ln (J0j a)))
def K0t (a:Bt):=Jg [bif decide (4096<Nc (ByteArray.size a)) then 26 else 0,bif Lb a B0 then 25 else 0]
def Ky2 (a:Bt) (b:List Ev):=Jg [bif !(Vs (J0j a)).2 then 25 else 0,bif decide (1000≤Ln b) then 5 else 0]
def Kkt (a:List Ev) (b:Bt):=(Z1 a,(K4r b).1,(K4o b).1,E2 (K4o b).2)
def Kxt (a b:List Ev) (c:List Reg) (d:Bt):=K9 (a,b,c) (Kkt a d)
def Kxs (a b:List Ev) (c:List Reg) (d:Bt):=Vf (a,b,c) (Kkt a d)
def Kv2 (a b:List Ev) (c:List Reg) (d:Bt):=((Kxs a b c d).1,E2 (Kxs a b c d).2)=(doF (a,b,c) d).1
theorem K7p (E C:List Ev) (G:List Reg) (line:ByteArray):wpFO Tryz.prog K4y.g (na ()) (fun _=>na ()) (Sx.look ([]:List (Nat×Func))) Tryz.f40 cDo 212 (E,C,G) (line,()):=by
 refine(by kernel_rfl:(Yc (E,C,G)→Hu (E,C,G)→ByteArray.size line≤1000000→Br false (Sf true (Sf 212 ((E,C,G)=(doF (E,C,G) line).1∧B0=(doF (E,C,G) line).2.1∧22=(doF (E,C,G) line).2.2))) (2≤1000000∧Br (K0t line !=0) (Sf true (Sf 212 ((E,C,G)=(doF (E,C,G) line).1∧B0=(doF (E,C,G) line).2.1∧K0t line=(doF (E,C,G) line).2.2))) ((ByteArray.size line≤1000000∧1≤1)∧K36 line∧Br (Option.isSome (Vt Sch.str (K4e line) Jfk)) (Jg8 (E,C,G) (J0j line)∧Sf true (Sf 212 ((E,C,G)=(doF (E,C,G) line).1∧(Zg (Kh G) (J0j line)).1=(doF (E,C,G) line).2.1∧(Zg (Kh G) (J0j line)).2=(doF (E,C,G) line).2.2))) (K36 line∧Br (!Option.isSome (Vt Sch.str (K4e line) L4)) (Sf true (Sf 212 ((E,C,G)=(doF (E,C,G) line).1∧B0=(doF (E,C,G) line).2.1∧13=(doF (E,C,G) line).2.2))) ((List.length (J0j line)≤1000000∧∀(w:ByteArray),w∈J0j line→ByteArray.size w≤1000000)∧2≤1000000∧Br (Ky2 line E !=0) (Sf true (Sf 212 ((E,C,G)=(doF (E,C,G) line).1∧B0=(doF (E,C,G) line).2.1∧Ky2 line E=(doF (E,C,G) line).2.2))) (Z68 E∧(Kg (E,C,G)∧Z43 E∧Jdl (Kkt E line))∧Br (Kxt E C G line !=0) (Sf true (Sf 212 (Kv2 E C G line∧B0=(doF (E,C,G) line).2.1∧Kxt E C G line=(doF (E,C,G) line).2.2))) ((Z68 E∧Nc (5+ByteArray.size (Ku (Z1 E)))≤9223372036854775807)∧Sf true (Sf 212 (Kv2 E C G line∧ByteArray.mk (Array.mk (100::111::110::101::32::([]++(Ku (Z1 E)).data.toList)))=(doF (E,C,G) line).2.1∧0=(doF (E,C,G) line).2.2)))))))))=_).mp ?_
 delta Z1 Z43 Z68 Hz J0j K4r K4o K4e K36 K0t Ky2 Kkt Kxt Kxs Kv2 Br Iw Bd Tw Sf Ln Nc B0 Lb E2
 intro hi hn hsz
 have hbn:({data:={toList:=[]}}:ByteArray)=Ja:=rfl
 have hW:Y4 line {data:={toList:=[32]}}=doW line:=rfl
 have hd1:Jg [bif decide (4096<(line.size:Int)) then 26 else 0,bif line.toList==Ja.toList then 25 else 0]=do1 line:=rfl
 have hd2:Jg [bif !(Vs (doW line)).2 then 25 else 0,bif decide (1000≤(E.length:Int)) then 5 else 0]=do2 (E,C,G) (doW line):=rfl
 have hq:(Vt Sch.str ((doW line).getD 0 Ja) Jfk).isSome=Fy ((doW line).getD 0 Ja):=rfl
 have hk:(Vt Sch.str ((doW line).getD 0 Ja) L4).isSome=U8 ((doW line).getD 0 Ja):=rfl
 have he:((E.length:Int)+1,(Vs (doW line)).1.2)=evD (E,C,G) (doW line):=rfl
 simp only[hbn,hW,Prod.eta,hd1,hd2,hq,hk,he]
 have nE:E.length≤1000:=hi.ok.nE
 refine⟨fun h=>(nomatch h),fun _=>⟨by decide,fun h1=> ?_,fun h1=> ?_⟩⟩
 ·have e:doF (E,C,G) line=((E,C,G),Ja,do1 line):=by unfold doF;rw[if_pos (bne_iff_ne.1 h1)]
  rw[e];exact⟨trivial,trivial,rfl,rfl,rfl⟩
 have e1:do1 line=0:=bne_eq_false_iff_eq.1 h1
 have h4:line.size≤4096:=by
  cases hc:decide (4096<(line.size:Int)) with
  |false=>have:=of_decide_eq_false hc;omega
  |true=>rw[do1,hc] at e1;exact nomatch (show(26:Int)=0 from e1)
 obtain⟨w1,w2,w3⟩:=Kee hsz h4
 refine⟨⟨hsz,Nat.le_refl _⟩,by(repeat' first|apply And.intro|(first|omega|dsimp only;omega)),fun h2=> ?_,fun h2=>⟨by(repeat' first|apply And.intro|(first|omega|dsimp only;omega)),fun h3=> ?_,fun h3=> ?_⟩⟩
 ·have e:doF (E,C,G) line=((E,C,G),Zg (Kh G) (doW line)):=by unfold doF;rw[if_neg (by rw[e1];decide),if_pos h2]
  rw[e];exact⟨⟨hi.ok,hn,w1,h2,w2,w3⟩,trivial,trivial,rfl,rfl,rfl⟩
 ·have h3:U8 ((doW line).getD 0 Ja)=false:=by simpa using h3
  have e:doF (E,C,G) line=((E,C,G),Ja,13):=by unfold doF;rw[if_neg (by rw[e1];decide),if_neg (by rw[h2];decide),if_pos h3]
  rw[e];exact⟨trivial,trivial,rfl,rfl,rfl⟩
 have h3:U8 ((doW line).getD 0 Ja)=true:=by simpa using h3
 refine⟨⟨w2,w3⟩,by decide,fun h5=> ?_,fun h5=> ?_⟩
 ·have e:doF (E,C,G) line=((E,C,G),Ja,do2 (E,C,G) (doW line)):=by unfold doF;rw[if_neg (by rw[e1];decide),if_neg (by rw[h2];decide),if_neg (by rw[h3];decide),if_pos (bne_iff_ne.1 h5)]
  rw[e];exact⟨trivial,trivial,rfl,rfl,rfl⟩
 have e5:do2 (E,C,G) (doW line)=0:=bne_eq_false_iff_eq.1 h5
 have hE:E.length<1000:=by
  cases hc:decide (1000≤(E.length:Int)) with
  |false=>have:=of_decide_eq_false hc;omega
  |true=>
   rw[do2] at e5
   have hc:decide (1000≤(((E,C,G):Ka).1.length:Int))=true:=hc
   rw[hc] at e5
   cases hx:(Vs (doW line)).2<;>rw[hx] at e5<;>exact nomatch e5
 have hz:=Jqq w3
 have hsz2:Jdl (evD (E,C,G) (doW line)):=⟨Nat.le_trans hz.1 (by decide),Nat.le_trans hz.2.1 (by decide),hz.2.2⟩
 refine⟨by(repeat' first|apply And.intro|(first|omega|dsimp only;omega)),⟨hi.ok,hE,hsz2⟩,fun h6=> ?_,fun h6=> ?_⟩
 ·have n6:=bne_iff_ne.1 h6
  have e:doF (E,C,G) line=((E,C,G),Ja,K9 (E,C,G) (evD (E,C,G) (doW line))):=by unfold doF;rw[if_neg (by rw[e1];decide),if_neg (by rw[h2];decide),if_neg (by rw[h3];decide),if_neg (by rw[e5];decide),if_pos n6]
  have ea:Vf (E,C,G) (evD (E,C,G) (doW line))=(E,C,G):=by unfold Vf;rw[if_neg n6]
  rw[e,ea];exact⟨trivial,trivial,rfl,rfl,rfl⟩
 ·have e6:K9 (E,C,G) (evD (E,C,G) (doW line))=0:=bne_eq_false_iff_eq.1 h6
  have e:doF (E,C,G) line=(Ho (E,C,G) (evD (E,C,G) (doW line)),J68 ((E.length:Int)+1),0):=by unfold doF;rw[if_neg (by rw[e1];decide),if_neg (by rw[h2];decide),if_neg (by rw[h3];decide),if_neg (by rw[e5];decide),if_neg (by rw[e6];decide)]
  have ea:Vf (E,C,G) (evD (E,C,G) (doW line))=Ho (E,C,G) (evD (E,C,G) (doW line)):=by unfold Vf;rw[if_pos e6]
  have hi:=Lw ((E.length:Int)+1) (by omega) (by omega)
  rw[e,ea];exact⟨⟨by(repeat' first|apply And.intro|(first|omega|dsimp only;omega)),by omega⟩,trivial,trivial,rfl,rfl,rfl⟩
theorem K8t:Ok Tryz.prog 40 (X7.con cDo):=Za (Ue mixed K4y.ok (by kernel_rfl) (by kernel_rfl) (U4 (l:=([]:List (Nat×Func))) (by simp)) (fun xx yy=>na ()) (fun xx yy=>fun _=>na ()) fun T xx yy hT=>by obtain rfl:=hT _ rfl;exact K7p xx.1 xx.2.1 xx.2.2 yy.1)
abbrev Kpl:=K4y.add K8t
theorem Kua {h:Ka} {l:ByteArray} (hi:Yc h) (hn:Hu h):Yc (doF h l).1∧Hu (doF h l).1:=by
 unfold doF
 split
 ·exact⟨hi,hn⟩
 split
 ·exact⟨hi,hn⟩
 split
 ·exact⟨hi,hn⟩
 split
 ·exact⟨hi,hn⟩
 split
 ·exact⟨hi,hn⟩
 rename_i h5 h6
 have e5:do2 h (doW l)=0:=Decidable.of_not_not h5
 have hE:h.1.length<1000:=by
  cases hc:decide (1000≤(h.1.length:Int)) with
  |false=>have:=of_decide_eq_false hc;omega
  |true=>
   rw[do2,hc] at e5
   cases hx:(Vs (doW l)).2<;>rw[hx] at e5<;>exact nomatch e5
 exact⟨Jdt hi hE (Decidable.of_not_not h6),Kgk hn (Decidable.of_not_not h6)⟩
abbrev Kqh:Sch:= .prod .str (.prod .str sI)
abbrev Say:=ByteArray×ByteArray×Int
def J4i:Say:=(Ja,Ja,0)
def Kqg (r:ByteArray×Int) (x:Say):Bool:=bif r.1.toList !=x.2.1.toList then true else r.2 !=x.2.2
def Jeo:Ka→List Say→Ka×Bool
 |h,[]=>(h,true)
 |h,x::l=>bif Kqg (doF h x.1).2 x then((doF h x.1).1,false) else Jeo (doF h x.1).1 l
def Kbk:X7:={T? :=some 212,s:=Jhn,args:=[.val false (.list 147 Kqh)],ress:=[Bo],pre:=fun h (l,_)=>[Yc h,Hu h,l.length≤1000000,∀x∈l,x.1.size≤1000000],spec:=fun h (l,_)=>((Jeo h l).2,()),post:=fun h (l,_)=>(Jeo h l).1}
abbrev Jy5 (h0:Ka) (l:List Say):Ann:={X:=Ka×Nat,σ:=fun(h,k)=>⟨6,[(0, .one (.ptr 1 0)),(11, .one (.sl 5)),(12, .one (.int .i64 l.length)),(13, .one (.int .i64 k))],[(0, .sus [(0, .one (.ptr 1 0))]),(1, .box 212 [.sl 2, .sl 3, .sl 4]),(2, .own 67 sEv h.1),(3, .own 67 sEv h.2.1),(4, .own 105 Jle h.2.2),(5, .imm 147 Kqh l)]⟩,inv:=fun(h,k)=>Yc h∧Hu h∧k≤l.length∧Jeo h (l.drop k)=Jeo h0 l,mu:=fun(_,k)=>l.length-k}
def Ki2 (a:List Say) (b:Ka×Nat):=List.getD a b.2 (B0,B0,0)
def Kib (a:Ka×Nat) (b:List Say):=doF (Jsa a) (Ki2 b a).1
def K06 (a:Ka×Nat) (b:List Say):=(Kib a b).2
def Kmu (a:Ka×Nat) (b:List Say):=(Kib a b).1.2
theorem K42 (E C:List Ev) (G:List Reg) (l:List Say):wpFO Tryz.prog Kpl.g (X6 (Jy5 (E,C,G) l)) (fun _=>na ()) (Sx.look ([]:List (Nat×Func))) Tryz.f66 Kbk 212 (E,C,G) (l,()):=by
 refine(by kernel_rfl:(Yc (E,C,G)→Hu (E,C,G)→List.length l≤1000000→(∀(x:ByteArray×ByteArray×Int),x∈l→ByteArray.size x.1≤1000000)→Br false (Sf true (Sf 212 ((E,C,G)=(Jeo (E,C,G) l).1∧false=(Jeo (E,C,G) l).2))) (∃(x:(List Ev×List Ev×List Reg)×Nat),Si (Ln l) (0=Nc x.2∧E=x.1.1∧C=x.1.2.1∧G=x.1.2.2∧l=l)∧(Yc x.1∧Hu x.1∧x.2≤List.length l∧Jeo x.1 (List.drop x.2 l)=Jeo (E,C,G) l)∧∀(x:Ka×Nat),Yc x.1∧Hu x.1∧x.2≤List.length l∧Jeo x.1 (List.drop x.2 l)=Jeo (E,C,G) l→Br (decide (Nc x.2<Ln l)) (Tw (Bd (Nc x.2) (Ln l))∧(Yc (Jsa x)∧Hu (Jsa x)∧ByteArray.size (Ki2 l x).1≤1000000)∧Br (bif !Lb (K06 x l).1 (Ki2 l x).2.1 then true else(K06 x l).2 !=(Ki2 l x).2.2) (Sf true (Sf 212 (((Kib x l).1.1,E2 (Kmu x l))=(Jeo (E,C,G) l).1∧false=(Jeo (E,C,G) l).2))) (Z37 x∧∃(y:(List Ev×List Ev×List Reg)×Nat),Si (Ln l) (Jus x y∧(Kib x l).1.1=y.1.1∧(Kmu x l).1=y.1.2.1∧(Kmu x l).2=y.1.2.2∧l=l)∧(Yc y.1∧Hu y.1∧y.2≤List.length l∧Jeo y.1 (List.drop y.2 l)=Jeo (E,C,G) l)∧List.length l-y.2<List.length l-x.2)) (Sf true (Sf 212 (Jsa x=(Jeo (E,C,G) l).1∧true=(Jeo (E,C,G) l).2)))))=_).mp ?_
 delta Z37 Jus Jsa Ki2 Kib K06 Kmu Br Iw Bd Tw Sf Si Ln Nc B0 Lb E2
 intro hi hn hl hsz
 refine⟨fun h=>(nomatch h),fun _=>⟨((E,C,G),(0:Nat)),by(repeat' first|exact rfl|exact⟨⟩|apply And.intro|omega|dsimp only;omega),⟨hi,hn,Nat.zero_le _,rfl⟩,fun(x:Ka×Nat) hx=>⟨fun hlt=> ?_,fun hlt=> ?_⟩⟩⟩
 ·obtain⟨h,k⟩:=x
  obtain⟨k1,k2,k3,k4⟩:=hx
  have hlt:k<l.length:=by simpa using hlt
  dsimp only at k1 k2 k3 k4
  have hz:(({data:={toList:=[]}}:ByteArray),({data:={toList:=[]}}:ByteArray),(0:Int))=J4i:=rfl
  simp only[hz,Prod.eta]
  rw[Jk (d:=J4i) hlt,Jeo] at k4
  have hd:=Kua (l:=(l.getD k J4i).1) k1 k2
  refine⟨by(repeat' first|apply And.intro|(first|omega|dsimp only;omega)),⟨k1,k2,hsz _ (Jd hlt)⟩,fun h1=> ?_,fun h1=> ?_⟩
  ·have e:Kqg (doF h (l.getD k J4i).1).2 (l.getD k J4i)=true:=h1
   rw[e,cond_true] at k4
   rw[←k4]
   exact⟨trivial,trivial,rfl,rfl⟩
  ·have e:Kqg (doF h (l.getD k J4i).1).2 (l.getD k J4i)=false:=h1
   rw[e,cond_false] at k4
   exact⟨by(repeat' first|apply And.intro|(first|omega|dsimp only;omega)),((doF h (l.getD k J4i).1).1,k+1),by(repeat' first|exact rfl|exact⟨⟩|apply And.intro|omega|dsimp only;omega),⟨hd.1,hd.2,by(first|omega|dsimp only;omega),k4⟩,by(first|omega|dsimp only;omega)⟩
 ·obtain⟨h,k⟩:=x
  obtain⟨k1,k2,k3,k4⟩:=hx
  have hlt:¬k<l.length:=by simpa using hlt
  have e:k=l.length:=by dsimp only at k3;omega
  rw[e,List.drop_length,Jeo] at k4
  rw[←k4]
  exact⟨rfl,rfl,rfl,rfl⟩
theorem K8l:Ok Tryz.prog 66 (X7.con Kbk):=Za (Ue mixed Kpl.ok (by kernel_rfl) (by kernel_rfl) (U4 (l:=([]:List (Nat×Func))) (by simp)) (fun xx yy=>X6 (Jy5 (xx.1,xx.2.1,xx.2.2) yy.1)) (fun xx yy=>fun _=>na ()) fun T xx yy hT=>by obtain rfl:=hT _ rfl;exact K42 xx.1 xx.2.1 xx.2.2 yy.1)
abbrev K6d:=Kpl.add K8l
def Ke7:Con:={args:=[.val false (.list 130 Lo), .fn [(true,Lo)] (true,Jvq)],ress:=[(false, .list 129 Jvq)],owns:=[true],pre:=fun(l,(q,_),_)=>[l.length≤1000000,∀x∈l,Uk (q (x,()))],spec:=fun(l,(_,f),_)=>(l.map fun x=>f (x,()),())}
def Kih (a:Ord×Unit→Jse) (b:Nat) (c:List Ord):=List.map (fun(x:Ord)=>a (x,PUnit.unit)) (List.take b c)
def Kyp (a:Ord×Unit→Jse) (b:Nat) (c:List Ord):=List.length (Kih a b c)
def Kv6 (a:Ord×Unit→Jse) (b:List Ord) (c:Nat):=a (Kgt b c)
def Kv5 (a:Ord×Unit→Jse) (b:List Ord) (c:Nat):=(Kv6 a b c).2
def Kv4 (a:Ord×Unit→Jse) (b:List Ord) (c:Nat):=(Kv5 a b c).2
def Kv3 (a:Ord×Unit→Jse) (b:List Ord) (c:Nat):=(Kv4 a b c).2
theorem Kti:Ok Tryz.prog 125 Ke7:=okW K6d Tryz.f125 (fun xx=>X6 (Jb2 130 129 Lo xx.1 (true,Jvq) true xx.2.1.1 xx.2.1.2)) fun xx=>by
 obtain⟨(l:List Ord),⟨(q:Ord×Unit→List Prop),(f:Ord×Unit→Jse)⟩,_⟩:=xx
 refine(by kernel_rfl:(Z64 l→Kod l q→∃(x:Nat),Si (Ln l) (0=Nc x∧Sf l ((fun(x:Ord×PUnit)=>q x)=q∧(fun(x:Ord×PUnit)=>f x)=f∧Kyp f x l=0))∧x≤List.length l∧∀(x:Nat),x≤List.length l→Br (decide (Nc x<Ln l)) (Tw (Bd (Nc x) (Ln l))∧(Kj9 q l x∧(Kyp f x l+1)*56≤140737488355328)∧Z22 x∧∃(y:Nat),Si (Ln l) (V0 x y∧Sf l ((fun(x:Ord×PUnit)=>q x)=q∧(fun(x:Ord×PUnit)=>f x)=f∧Kih f x l++[((Kv6 f l x).1,(Kv5 f l x).1,(Kv4 f l x).1,(Kv3 f l x).1,E2 (Kv3 f l x).2)]=Kih f y l))∧y≤List.length l∧List.length l-y<List.length l-x) (Kih f x l=List.map (fun(x:Ord)=>f (x,PUnit.unit)) l))=_).mp ?_
 delta Z22 Z64 Z79 V0 Jhh Kiu Kod Koc Kit Kn7 Kn5 Kn1 Kih Kyp Kgt Kv6 Kv5 Kv4 Kv3 Kj9 Br Iw Bd Tw Sf Si Ln Nc B0 E2
 intro hb hq
 refine⟨(0:Nat),⟨rfl,rfl,rfl,rfl,rfl,by simp⟩,Nat.zero_le _,fun(k:Nat) hk=>⟨fun h=> ?_,fun h=> ?_⟩⟩
 ·have hlt:k<l.length:=by simpa using h
  refine⟨by omega,⟨hq (l.getD k Km) (Jd hlt),by simp only[List.length_map,List.length_take];omega⟩,by omega,(k+1:Nat),⟨rfl,by simp,rfl,rfl,rfl, ?_⟩,by omega,by omega⟩
  rw[←Uu (d:=Km) hlt,List.map_append];rfl
 ·have hlt:¬k<l.length:=by simpa using h
  rw[List.take_of_length_le (by omega)]
abbrev Uad:=K6d.add Kti
def Hb (l:List Ev):List Jse:=(J3 l).2.2.2.1.map (Uo (J3 l).2.1 (J3 l).2.2.2.2.1)
abbrev K6c:=Uad
def Jno (l:List Ev) (a b:ByteArray):Int:=Jg [opE l [a,b],bif a.toList==b.toList then 24 else 0]
def Jy9 (l:List Ev) (a b:ByteArray):Int:=if Jno l a b=0 then D4 (J3 l).2.1 (J3 l).2.2.2.1 (J3 l).2.2.2.2.1 a b else 0
def J7y:Con:={args:=[.val false (.list 67 sEv),aS,aS],ress:=[I,I],owns:=[],pre:=fun(l,_)=>[lOk l],spec:=fun(l,a,b,_)=>(Jy9 l a b,Jno l a b,())}
def K3r (a:List Ev) (b c:Bt):=Jg [opE a [b,c],bif Lb b c then 24 else 0]
theorem K8q:Ok Tryz.prog 44 J7y:=okW K6c Tryz.f44 na fun xx=>by
 obtain⟨(l:List Ev),(a:ByteArray),(b:ByteArray),_⟩:=xx
 refine(by kernel_rfl:(lOk l→(lOk l∧2≤1000000)∧2≤1000000∧Br (K3r l a b !=0) (0=Jy9 l a b∧K3r l a b=Jno l a b) (J5e l∧D4 (J3 l).2.1 (J3 l).2.2.2.1 (J3 l).2.2.2.2.1 a b=Jy9 l a b∧0=Jno l a b))=_).mp ?_
 delta K3r J8t J5e Br Lb E2
 intro hl
 refine⟨⟨hl,by decide⟩,by decide,fun h=> ?_,fun h=> ?_⟩
 ·have h:Jno l a b≠0:=bne_iff_ne.1 h
  exact⟨by unfold Jy9;rw[if_neg h],rfl⟩
 ·have h:Jno l a b=0:=bne_eq_false_iff_eq.1 h
  exact⟨Jff,by unfold Jy9;rw[if_pos h],h.symm⟩
abbrev Uac:=K6c.add K8q
abbrev K6b:=Uac
def Jck (l:List Ev):(Int×Int)×Int:=if opE l []=0 then Kd8 (J3 l).2.1 (J3 l).2.2.2.1 (J3 l).2.2.2.2.1 else((0,0),opE l [])
def J7j:Con:={args:=[.val false (.list 67 sEv)],ress:=[(true,H6),I],owns:=[],pre:=fun(l,_)=>[lOk l],spec:=fun(l,_)=>((Jck l).1,(Jck l).2,())}
abbrev Jy3 (l:List Ev) (B:List Jse):Ann:={X:=Nat×Int×Int,σ:=fun(k,s,g)=>⟨9,[(2, .one (.ptr 1 0)),(6, .one (.int .i64 s)),(7, .one (.int .i64 g)),(23, .one (.sl 8)),(24, .one (.int .i64 B.length)),(25, .one (.int .i64 k))],[(1, .box 54 [.int .i64 0, .int .i64 0]),(8, .own 129 Jvq B)]⟩,inv:=fun(k,s,g)=>k≤B.length∧(0≤s∧s≤48000*k)∧(0≤g∧g≤s)∧Jvc (B.drop k) (s,g)=Jvc B (0,0),mu:=fun(k,_)=>B.length-k}
def K0a (a:List Ev):=List.map (fun(x:Ord)=>Uo (J3 a).2.1 (J3 a).2.2.2.2.1 x) (J3 a).2.2.2.1
def Kz6 (a:List Ev) (b:Nat×Int×Int):=(List.getD (Hb a) b.1 (B0,0,0,Z79)).2.2
def Kzx (a:Nat×Int×Int) (b:List Ev):=a.2.1+(Kz6 b a).1
def Kzv (a:Nat×Int×Int) (b:List Ev):=a.2.2+(Kz6 b a).2.1
def Kkw (a:Nat×Int×Int) (b:List Ev):=a.1≤List.length (Hb b)∧(0≤a.2.1∧a.2.1≤48000*Nc a.1)∧(0≤a.2.2∧a.2.2≤a.2.1)∧Jvc (List.drop a.1 (Hb b)) (E2 a.2)=Jvc (Hb b) (0,0)
theorem K8p:Ok Tryz.prog 46 J7j:=okW K6b Tryz.f46 (fun xx=>X6 (Jy3 xx.1 (Hb xx.1))) fun xx=>by
 obtain⟨(l:List Ev),_⟩:=xx
 refine(by kernel_rfl:(lOk l→(lOk l∧0≤1000000)∧Br (opE l [] !=0) ((0,0)=(Jck l).1∧opE l []=(Jck l).2) ((List.length (J3 l).2.2.2.1≤1000000∧∀(x:Ord),x∈(J3 l).2.2.2.1→J5e l∧x∈(J3 l).2.2.2.1)∧∃(x:Nat×Int×Int),(0=x.2.1∧0=x.2.2∧Ln (K0a l)=Ln (Hb l)∧0=Nc x.1∧Si 0 (Si 0 (K0a l=Hb l)))∧Kkw x l∧∀(x:Nat×Int×Int),Kkw x l→Br (decide (Nc x.1<Ln (Hb l))) (Tw (Bd (Nc x.1) (Ln (Hb l)))∧Iw (Kzx x l)∧Iw (Kzv x l)∧Iw (Nc x.1+1)∧∃(y:Nat×Int×Int),(Kzx x l=y.2.1∧Kzv x l=y.2.2∧Si (Ln (Hb l)) (Nc x.1+1=Nc y.1∧Si 0 (Si 0 (Hb l=Hb l))))∧Kkw y l∧List.length (Hb l)-y.1<List.length (Hb l)-x.1) (Br (x.2.1==0) ((0,0)=(Jck l).1∧6=(Jck l).2) ((Iw (x.2.1-x.2.2)∧(0≤x.2.1-x.2.2∧x.2.1-x.2.2≤1000000000000)∧1≤x.2.1∧x.2.1≤1000000000000)∧E2 (J4t (x.2.1-x.2.2) x.2.1)=(Jck l).1∧0=(Jck l).2))))=_).mp ?_
 delta Z79 J8t J5e K0a Kz6 Kzx Kzv Kkw Br Iw Bd Tw Si Ln Nc B0 E2
 intro hl
 have hr:=Jff (l:=l)
 have nO:(J3 l).2.2.2.1.length≤32:=hr.nO
 simp only[Prod.eta]
 refine⟨⟨hl,by decide⟩,fun h=> ?_,fun h=>⟨⟨Nat.le_trans nO (by decide),fun x hx=>⟨hr,hx⟩⟩, ?_⟩⟩
 ·have h:=bne_iff_ne.1 h
  unfold Jck;rw[if_neg h]
  exact⟨rfl,rfl⟩
 have h:opE l []=0:=bne_eq_false_iff_eq.1 h
 have hB:∀b∈Hb l,J5z b:=fun b hb=>by
  obtain⟨x,hx,rfl⟩:=List.mem_map.1 hb
  exact Jby hr hx
 have nB:(Hb l).length≤32:=by unfold Hb;rw[List.length_map];exact nO
 refine⟨((0:Nat),0,0),by(repeat' first|exact rfl|exact⟨⟩|apply And.intro|omega|dsimp only;omega),⟨Nat.zero_le _,by(first|omega|dsimp only;omega),by(first|omega|dsimp only;omega),rfl⟩,fun(x:Nat×Int×Int) hk=>⟨fun h1=> ?_,fun h1=> ?_⟩⟩
 ·obtain⟨k,s,g⟩:=x
  have hlt:k<(Hb l).length:=by simpa using h1
  have hx:=Jd (d:=Jym) hlt
  have hb:=hB _ hx
  obtain⟨k1,k2,k3,k4⟩:=hk
  rw[Jk (d:=Jym) hlt,Jvc] at k4
  have m1:=hb.sent
  have m2:=hb.got
  have hzb:((({data:={toList:=[]}}:ByteArray),(0:Int),(0:Int),(0:Int),(0:Int),(0:Int)):Jse)=Jym:=rfl
  dsimp only at k1 k2 k3 k4
  simp only[hzb]
  exact⟨by(repeat' first|apply And.intro|omega),by(repeat' first|apply And.intro|omega),by(repeat' first|apply And.intro|omega),by(repeat' first|apply And.intro|omega),(k+1,s+((Hb l).getD k Jym).2.2.1,g+((Hb l).getD k Jym).2.2.2.1),by(repeat' first|exact rfl|exact⟨⟩|apply And.intro|omega|dsimp only;omega),⟨by(first|omega|dsimp only;omega),by(first|omega|dsimp only;omega),by(first|omega|dsimp only;omega),k4⟩,by(first|omega|dsimp only;omega)⟩
 ·obtain⟨k,s,g⟩:=x
  have hlt:¬k<(Hb l).length:=by simpa using h1
  obtain⟨k1,k2,k3,k4⟩:=hk
  have:k=(Hb l).length:=by dsimp only at k1;omega
  rw[this,List.drop_length,Jvc] at k4
  have e:Jck l=if s=0 then((0,0),6) else(J4t (s-g) s,0):=by
   unfold Jck Kd8
   rw[if_pos h]
   rw[show((J3 l).2.2.2.1.map (Uo (J3 l).2.1 (J3 l).2.2.2.2.1))=Hb l from rfl,←k4]
  dsimp only at k2 k3
  rw[e]
  refine⟨fun h2=> ?_,fun h2=> ?_⟩
  ·have h2:s=0:=by simpa using h2
   rw[if_pos h2]
   exact⟨rfl,rfl⟩
  ·have h2:s≠0:=by simpa using h2
   rw[if_neg h2]
   refine⟨⟨?_, ?_, ?_⟩,rfl,rfl⟩
   all_goals dsimp only
   all_goals (repeat' first|apply And.intro|omega)
abbrev K6a:=K6b.add K8p
def K9l:Con:={args:=[.ref 167 Jhn],ress:=[(true,Jle)],owns:=[],pre:=fun(h,_)=>[Kg h],spec:=fun(h,_)=>(Kh h.2.2,())}
theorem K8d:Ok Tryz.prog 75 K9l:=okW K6a Tryz.f75 na fun xx=>by
 obtain⟨⟨(E:List Ev),(C:List Ev),(G:List Reg)⟩,_⟩:=xx
 refine(by kernel_rfl:(Kg (E,C,G)→Br (Yb G) (Ya G∧Ym G=Kh G) (Vy=Kh G))=_).mp ?_
 delta Yb Dl Vy Ya Fs Fr Ja2 Jaf Hy Hx Dk Hd Jae Ym Br Iw Bd Tw Ln Gt E2
 intro hh
 have n1:E.length≤1000:=hh.nE
 have n2:C.length≤E.length:=hh.nC
 have n3:G.length=C.length:=hh.nG
 have hG:((G.length:Int)-1).toNat=G.length-1:=by omega
 refine⟨fun h=> ?_,fun h=> ?_⟩
 ·have h:(0:Int)<G.length:=of_decide_eq_true h
  rw[hG]
  exact⟨by(repeat' first|apply And.intro|omega),rfl⟩
 ·exact(Kp h).symm
abbrev K59:=K6a.add K8d
def Kfd:Con:={args:=[.val false (.list 67 sEv), .fn [(true,sEv)] Bo],ress:=[(false, .list 67 sEv)],owns:=[true],pre:=fun(l,(q,_),_)=>[l.length≤1000000,∀x∈l,Uk (q (x,()))],spec:=fun(l,(_,f),_)=>(l.filter fun x=>f (x,()),())}
def J5r (a:Ev×Unit→Bool) (b:Nat) (c:List Ev):=List.filter (fun(x:Ev)=>a (x,PUnit.unit)) (List.take b c)
theorem K8a:Ok Tryz.prog 78 Kfd:=okW K59 Tryz.f78 (fun xx=>X6 (Jps 67 67 sEv xx.1 true xx.2.1.1 xx.2.1.2)) fun xx=>by
 obtain⟨(l:List Ev),⟨(q:Ev×Unit→List Prop),(f:Ev×Unit→Bool)⟩,_⟩:=xx
 refine(by kernel_rfl:(Z45 l→Kb8 l q→∃(x:Nat),Si (Ln l) (0=Nc x∧Sf l ((fun(x:Ev×PUnit)=>q x)=q∧(fun(x:Ev×PUnit)=>f x)=f∧List.length (J5r f x l)=0))∧x≤List.length l∧∀(x:Nat),x≤List.length l→Br (Z92 x l) (Tw (Z11 x l)∧Kbn q l x∧Br (f (J8p l x)) ((List.length (J5r f x l)+1)*88≤140737488355328∧Z22 x∧∃(y:Nat),Si (Ln l) (V0 x y∧Sf l ((fun(x:Ev×PUnit)=>q x)=q∧(fun(x:Ev×PUnit)=>f x)=f∧J5r f x l++[J8q l x]=J5r f y l))∧Jzf y l x) (Z22 x∧∃(y:Nat),Si (Ln l) (V0 x y∧Sf l ((fun(x:Ev×PUnit)=>q x)=q∧(fun(x:Ev×PUnit)=>f x)=f∧J5r f x l=J5r f y l))∧Jzf y l x)) (J5r f x l=List.filter (fun(x:Ev)=>f (x,PUnit.unit)) l))=_).mp ?_
 delta Z11 Z22 Z45 Z92 V0 J0o J0n D5 J5r J3f J5i J0g Jt2 Jzf Juo Kb8 J8q J8p Kbn Br Iw Bd Tw Sf Si Ln Nc B0 E2
 intro hb hq
 refine⟨(0:Nat),⟨rfl,rfl,rfl,rfl,rfl,by simp⟩,Nat.zero_le _,fun(k:Nat) hk=>⟨fun h=> ?_,fun h=> ?_⟩⟩
 ·have hlt:k<l.length:=by simpa using h
  have hf:=Jgn (p:=fun x=>f (x,())) hk
  have ht:=Uu (d:=ev0) hlt
  refine⟨by omega,hq (l.getD k ev0) (Jd hlt),fun h1=> ?_,fun h1=> ?_⟩
  ·have h1:f (l.getD k ev0,())=true:=h1
   refine⟨by show((List.filter (fun x=>f (x,())) (List.take k l)).length+1)*88≤_;omega,by omega,(k+1:Nat),⟨rfl,by simp,rfl,rfl,rfl, ?_⟩,by omega,by omega⟩
   rw[←ht,List.filter_append,List.filter_cons,if_pos h1];rfl
  ·have h1:f (l.getD k ev0,())=false:=h1
   refine⟨by omega,(k+1:Nat),⟨rfl,by simp,rfl,rfl,rfl, ?_⟩,by omega,by omega⟩
   rw[←ht,List.filter_append,List.filter_cons,if_neg (by rw[h1];decide)];simp
 ·have hlt:¬k<l.length:=by simpa using h
  rw[List.take_of_length_le (by omega)]
abbrev K58:=K59.add K8a
def Ke9:Con:={args:=[.val false (.list 67 sEv), .fn [(true,sEv)] (true,sEv)],ress:=[(false, .list 67 sEv)],owns:=[true],pre:=fun(l,(q,_),_)=>[l.length≤1000000,∀x∈l,Uk (q (x,()))],spec:=fun(l,(_,f),_)=>(l.map fun x=>f (x,()),())}
def Kcw (a:Ev×Unit→Ev) (b:Nat) (c:List Ev):=List.map (fun(x:Ev)=>a (x,PUnit.unit)) (List.take b c)
def Kxh (a:Ev×Unit→Ev) (b:List Ev) (c:Nat):=a (J8p b c)
def Kxg (a:Ev×Unit→Ev) (b:List Ev) (c:Nat):=(Kxh a b c).2
def Kxf (a:Ev×Unit→Ev) (b:List Ev) (c:Nat):=(Kxg a b c).2
theorem K8b:Ok Tryz.prog 77 Ke9:=okW K58 Tryz.f77 (fun xx=>X6 (Jb2 67 67 sEv xx.1 (true,sEv) true xx.2.1.1 xx.2.1.2)) fun xx=>by
 obtain⟨(l:List Ev),⟨(q:Ev×Unit→List Prop),(f:Ev×Unit→Ev)⟩,_⟩:=xx
 refine(by kernel_rfl:(Z45 l→Kb8 l q→∃(x:Nat),Si (Ln l) (0=Nc x∧Sf l ((fun(x:Ev×PUnit)=>q x)=q∧(fun(x:Ev×PUnit)=>f x)=f∧List.length (Kcw f x l)=0))∧x≤List.length l∧∀(x:Nat),x≤List.length l→Br (Z92 x l) (Tw (Z11 x l)∧(Kbn q l x∧(List.length (Kcw f x l)+1)*88≤140737488355328)∧Z22 x∧∃(y:Nat),Si (Ln l) (V0 x y∧Sf l ((fun(x:Ev×PUnit)=>q x)=q∧(fun(x:Ev×PUnit)=>f x)=f∧Kcw f x l++[((Kxh f l x).1,(Kxg f l x).1,(Kxf f l x).1,E2 (Kxf f l x).2)]=Kcw f y l))∧Jzf y l x) (Kcw f x l=List.map (fun(x:Ev)=>f (x,PUnit.unit)) l))=_).mp ?_
 delta Z11 Z22 Z45 Z92 V0 J0o J0n D5 Kcw J3f J5i J0g Jt2 Jzf Juo Kb8 J8q J8p Kxh Kxg Kxf Kbn Br Iw Bd Tw Sf Si Ln Nc B0 E2
 intro hb hq
 refine⟨(0:Nat),⟨rfl,rfl,rfl,rfl,rfl,by simp⟩,Nat.zero_le _,fun(k:Nat) hk=>⟨fun h=> ?_,fun h=> ?_⟩⟩
 ·have hlt:k<l.length:=by simpa using h
  refine⟨by omega,⟨hq (l.getD k ev0) (Jd hlt),by simp only[List.length_map,List.length_take];omega⟩,by omega,(k+1:Nat),⟨rfl,by simp,rfl,rfl,rfl, ?_⟩,by omega,by omega⟩
  rw[←Uu (d:=ev0) hlt,List.map_append];rfl
 ·have hlt:¬k<l.length:=by simpa using h
  rw[List.take_of_length_le (by omega)]
abbrev K57:=K58.add K8b
def X8:List Ev→Nat→List Ev
 |[],_=>[]
 |e::l,i=>((i:Int)+1,e.2)::X8 l (i+1)
def Zk (l:List Ev) (s:ByteArray):Int:=Jg [(Je l).2.2,bif (bif (Je l).2.2==0 then !Vl (J3 l) 0 s else false) then 10 else 0]
def Xg (l:List Ev) (s:ByteArray):List Ev:=(Je l).1.2.1.filter fun e=>abS (J3 l) e s
def Jbc (l:List Ev) (s:ByteArray):List Ev:=if Zk l s=0 then X8 (Xg l s) 0 else[]
def Ken:Con:={args:=[.val false (.list 67 sEv),aS],ress:=[(false, .list 67 sEv),I],owns:=[],pre:=fun(l,_)=>[lOk l],spec:=fun(l,s,_)=>(Jbc l s,Zk l s,())}
theorem D8:∀(l:List Ev) (i:Nat),(X8 l i).length=l.length
 |[],_=>rfl
 |_::l,i=>by unfold X8;rw[List.length_cons,List.length_cons,D8 l]
theorem Jik:∀(a b:List Ev) (i:Nat),X8 (a++b) i=X8 a i++X8 b (i+a.length)
 |[],_,_=>rfl
 |x::a,b,i=>by
  rw[List.cons_append,X8,X8,Jik a b (i+1),List.cons_append,List.length_cons,show i+1+a.length=i+(a.length+1) by omega]
theorem Jv3 {L:List Ev} {k:Nat} (h:k<L.length):(X8 (L.take k) 0++L.drop k).getD k ev0=L.getD k ev0:=by
 have hl:(X8 (L.take k) 0).length=k:=by rw[D8,List.length_take];omega
 rw[Jk (d:=ev0) h,List.getD_eq_getElem?_getD,List.getElem?_append_right (by omega),hl,Nat.sub_self]
 rfl
theorem Jv2 {L:List Ev} {k:Nat} (h:k<L.length):(X8 (L.take k) 0++L.drop k).set k ((k:Int)+1,(L.getD k ev0).2)=X8 (L.take (k+1)) 0++L.drop (k+1):=by
 have hl:(X8 (L.take k) 0).length=k:=by rw[D8,List.length_take];omega
 rw[Jk (d:=ev0) h,List.set_append_right _ _ (by omega),hl,Nat.sub_self,List.set_cons_zero,←Uu (d:=ev0) h,Jik,List.append_assoc,List.length_take,Nat.min_eq_left (by omega),Nat.zero_add]
 rfl
theorem Jqj:∀{l:List Ev} {h:Ka},∀e∈(Xt h l).1.2.1,e∈h.2.1∨e∈l
 |[],_,e,he=> .inl he
 | x :: l, h, e, he => by
  unfold Xt at he
  by_cases ha:K9 h x=0
  ·rw[if_pos ha] at he
   rcases Jqj e he with h1|h1
   ·unfold Ho at h1
    cases hk:x.2.1.toList==Jy.toList with
    |true=>rw[hk,cond_true] at h1;exact .inl (List.mem_of_mem_take h1)
    |false=>
     rw[hk,cond_false] at h1
     rcases Yq h1 with h2|rfl
     ·exact .inl h2
     ·exact .inr (List.mem_cons_self ..)
   ·exact .inr (List.mem_cons_of_mem _ h1)
  ·rw[if_neg ha] at he;exact .inl he
theorem Js3 {l:List Ev}:∀e∈(Je l).1.2.1,e∈l:=by
 unfold Je
 by_cases h:1000<l.length
 ·rw[if_pos h];intro e he;cases he
 ·rw[if_neg h];intro e he;exact(Jqj e he).elim (fun h=>by cases h) id
abbrev J78 (l:List Ev) (s:ByteArray):Ann:={X:=Ka×Nat,σ:=fun(h,k)=>⟨8,[(5, .one (.ptr 3 0)),(14, .one (.sl 0)),(15, .one (.int .i64 l.length)),(16, .one (.int .i64 k))],[(0, .imm 67 sEv l),(1, .box 9 [.str s]),(2, .sus [(3, .one (.ptr 1 0))]),(3, .box 167 [.sl 5, .sl 6, .sl 7]),(5, .own 67 sEv h.1),(6, .own 67 sEv h.2.1),(7, .own 105 Jle h.2.2)]⟩,inv:=fun(h,k)=>Yc h∧h.1.length=k∧k≤l.length∧l.length≤1000∧Xt h (l.drop k)=Je l,mu:=fun(_,k)=>l.length-k}
abbrev Kf7 (L:List Ev):Ann:={X:=Nat,σ:=fun k=>⟨1,[(11, .one (.sl 0)),(44, .one (.sl 0)),(45, .one (.int .i64 L.length)),(46, .one (.int .i64 k))],[(0, .own 67 sEv (X8 (L.take k) 0++L.drop k))]⟩,inv:=fun k=>k≤L.length,mu:=fun k=>L.length-k}
def J80 (a:Nat) (b:List Ev) (c:Bt):=X8 (List.take a (Xg b c)) 0++List.drop a (Xg b c)
def J8z (a:Ev):=List.length a.2.2.1≤1000000∧List.length a.2.2.2.1≤1000000
def Khk (a:Ka×Nat):=((Kh a.1.2.2).1,(Kh a.1.2.2).2.1,(Kh a.1.2.2).2.2.1,(Kh a.1.2.2).2.2.2.1,(Kh a.1.2.2).2.2.2.2.1,E2 (Kh a.1.2.2).2.2.2.2.2)
def Kze (a:Ka×Nat):=Jn (Khk a)
def Kk6 (a:Ka×Nat) (b:Bt):=List.filter (fun(x:Ev)=>abS (Khk a) x b) a.1.2.1
def Kx1 (a:Ka×Nat) (b:Bt):=List.map (fun(x:Ev)=>x) (Kk6 a b)
def Kxr (a:Ka×Nat) (b:Bt):=Jg [0,bif bif true then !Vl (Khk a) 0 b else false then 10 else 0]
def Kwu (a:Ka×Nat) (b:List Ev):=Kbm a b==0
def Kws (a:Ka×Nat) (b:List Ev):=Kwu a b=true
def Kaf (a:Ka×Nat) (b:List Ev) (c:Bt):=Jg [Kbm a b,bif bif Kwu a b then Km7 c else false then 10 else 0]
theorem K86:Ok Tryz.prog 16 Ken:=J4n K57 Tryz.f16 (U4 (l:=([(74,Tryz.f74)]:List (Nat×Func))) (List.forall_mem_cons.2 ⟨by kernel_rfl,by simp⟩)) (fun xx=>X6 (Kf7 (Xg xx.1 xx.2.1))) (fun xx=>fun f id=>if f=74 then some (J78 xx.1 xx.2.1) else none) fun xx=>by
 obtain⟨(l:List Ev),(s:ByteArray),_⟩:=xx
 refine(by kernel_rfl:(lOk l→Br (decide (1000<Ln l)) ((Z44∧Jb4∧2≤1000000)∧Br true (Sf true ([]=Jbc l s∧Jg [5,0]=Zk l s)) (Tw False)) (∃(x:(List Ev×List Ev×List Reg)×Nat),Si (Ln l) (0=Nc x.2∧Sf l (Sf s (Kb4 x)))∧Khs x l∧∀(x:Ka×Nat),Klx x l→Br (decide (Nc x.2<Ln l)) (Tw (Z30 x l)∧Kkf x l∧Br (Kgv x l) (Z37 x∧((Kws x l→False)∧(Kws x l→Y1)∧2≤1000000)∧Br (Kaf x l s !=0) (Sf true ([]=Jbc l s∧Kaf x l s=Zk l s)) (Tw False)) (Z37 x∧∃(y:(List Ev×List Ev×List Reg)×Nat),Si (Ln l) (Jus x y∧Sf l (Sf s (J3u x l y)))∧Kk5 y l x)) (((true=true→J9c x)∧(true=true→Kze x)∧2≤1000000)∧Br (Kxr x s !=0) (Sf true ([]=Jbc l s∧Kxr x s=Zk l s)) (J9c x∧(List.length x.1.2.1≤1000000∧(∀(x_1:Ev),x_1∈x.1.2.1→Kze x∧Jh3 (Khk x) x_1)∧List.length (Kk6 x s)≤1000000∧∀(x_1:Ev),x_1∈Kk6 x s→J8z x_1)∧∃(x_1:Nat),(Ln (Kx1 x s)=Ln (Xg l s)∧0=Nc x_1∧Kx1 x s=J80 x_1 l s)∧x_1≤List.length (Xg l s)∧∀(x:Nat),x≤List.length (Xg l s)→Br (decide (Nc x<Ln (Xg l s))) ((Z22 x∧Tw (Bd (Nc x) (Ln (J80 x l s))))∧Z22 x∧∃(y:Nat),Si (Ln (Xg l s)) (V0 x y∧List.set (J80 x l s) x (Nc x+1,(List.getD (J80 x l s) x D5).2)=J80 y l s)∧y≤List.length (Xg l s)∧List.length (Xg l s)-y<List.length (Xg l s)-x) (Sf true (J80 x l s=Jbc l s∧0=Zk l s))))))=_).mp ?_
 delta Z22 Z30 Z37 Z44 V0 Jus Jsa D5 J9c Kce Kcd Dl J5h J80 J8z Vy Y1 Kb4 Km7 Jb4 Khz Khy Khs Klx Khk Kze Kk6 Kk5 Kx1 Kxr J0b Kbm Kkj Kkh Kwu Kws Kkf Kgv Kaf J3u Br Iw Bd Tw Sf Si Ln Nc B0 E2
 intro hl
 refine⟨fun h=> ?_,fun h=> ?_⟩
 ·have e:Je l=(Xd,0,5):=by unfold Je;rw[if_pos (by have:=of_decide_eq_true h;omega)]
  have eE:Zk l s=5:=by unfold Zk;rw[e];rfl
  refine⟨⟨fun h=>(by cases h),fun h=>(by cases h),by decide⟩,fun _=>⟨rfl, ?_,eE.symm⟩,fun h=>(by cases h)⟩
  unfold Jbc;rw[if_neg (by rw[eE];decide)]
 have hn:l.length≤1000:=by have:=of_decide_eq_false h;omega
 have e0:Je l=Xt Xd l:=by unfold Je;rw[if_neg (by omega)]
 refine⟨(Xd,(0:Nat)),⟨rfl,rfl,rfl,rfl,rfl,rfl,rfl⟩,⟨Ze,rfl,Nat.zero_le _,hn,e0.symm⟩,fun(x:Ka×Nat) hx=>⟨fun h1=> ?_,fun h1=> ?_⟩⟩
 ·obtain⟨g,k⟩:=x
  obtain⟨hi,hk,hk2,_,hrun⟩:=hx
  dsimp only at hi hk hk2 hrun
  have hlt:k<l.length:=by simpa using h1
  rw[Jk (d:=ev0) hlt,Xt] at hrun
  have hz:=hl.2 _ (Jd (d:=ev0) hlt)
  have hev:(0,({data:={toList:=[]}}:ByteArray),([]:List ByteArray),([]:List Int),({data:={toList:=[]}}:ByteArray))=ev0:=rfl
  simp only[hev,Prod.eta]
  refine⟨by omega,⟨hi.ok,(show g.1.length<1000 by omega),hz⟩,fun h2=> ?_,fun h2=> ?_⟩
  ·have n2:K9 g (l.getD k ev0)≠0:=bne_iff_ne.1 h2
   rw[if_neg n2] at hrun
   have b2:(K9 g (l.getD k ev0)==0)=false:=beq_eq_false_iff_ne.2 n2
   have eE:Zk l s=K9 g (l.getD k ev0):=by
    unfold Zk
    rw[←hrun]
    simp only[b2,cond_false]
    unfold Jg
    rw[if_neg n2]
   simp only[b2,cond_false]
   refine⟨by(repeat' first|apply And.intro|(first|omega|dsimp only;omega)),⟨fun h=>(nomatch h),fun h=>(nomatch h),by decide⟩,fun _=>⟨trivial, ?_, ?_⟩,fun h=> ?_⟩
   ·unfold Jbc;rw[if_neg (by rw[eE];exact n2)]
   ·rw[eE];unfold Jg;rw[if_neg n2]
   ·have h:=bne_eq_false_iff_eq.1 h
    unfold Jg at h;rw[if_neg n2] at h;exact absurd h n2
  ·have z2:K9 g (l.getD k ev0)=0:=bne_eq_false_iff_eq.1 h2
   rw[if_pos z2] at hrun
   have ea:Vf g (l.getD k ev0)=Ho g (l.getD k ev0):=by unfold Vf;rw[if_pos z2]
   rw[ea]
   have hk3:(Ho g (l.getD k ev0)).1.length=g.1.length+1:=Hn
   exact⟨by(repeat' first|apply And.intro|(first|omega|dsimp only;omega)),(Ho g (l.getD k ev0),k+1),by(repeat' first|exact rfl|exact⟨⟩|apply And.intro|omega|dsimp only;omega),⟨Jdt hi (by(first|omega|dsimp only;omega)) z2,by(first|omega|dsimp only;omega),by(first|omega|dsimp only;omega),hn,hrun⟩,by(first|omega|dsimp only;omega)⟩
 ·obtain⟨g,k⟩:=x
  obtain⟨hi,hk,hk2,_,hrun⟩:=hx
  dsimp only at hi hk hk2 hrun
  have hlt:¬k<l.length:=by simpa using h1
  have:k=l.length:=by omega
  rw[this,List.drop_length,Xt] at hrun
  simp only[Prod.eta]
  have eR:J3 l=Kh g.2.2:=by unfold J3;rw[←hrun];rfl
  have eE:Zk l s=Jg [0,bif bif true then !Vl (Kh g.2.2) 0 s else false then 10 else 0]:=by
   unfold Zk;rw[←hrun,eR];rfl
  have eL:Xg l s=g.2.1.filter fun e=>abS (Kh g.2.2) e s:=by unfold Xg;rw[←hrun,eR]
  rw[←eE]
  have hA:Jnt g:=by have:=J1m (l:=l);rw[←hrun] at this;exact this
  have nE:g.1.length≤1000:=hi.ok.nE
  have nC:g.2.1.length≤g.1.length:=hi.ok.nC
  have hsub:∀e∈g.2.1,e∈l:=by have:=Js3 (l:=l);rw[←hrun] at this;exact this
  have hfl:=List.length_filter_le (fun e=>abS (Kh g.2.2) e s) g.2.1
  have hL:(Xg l s).length≤1000:=by rw[eL];omega
  refine⟨⟨fun _=>hi.ok,fun _=>Zb hi.ok,by decide⟩,fun h2=>⟨trivial, ?_,rfl⟩,fun h2=>⟨hi.ok,⟨Nat.le_trans nC (by omega),fun x hx=>⟨Zb hi.ok,Kd5 hi hA hx⟩,Nat.le_trans hfl (by omega),fun x hx=> ?_⟩,(0:Nat),⟨?_,rfl, ?_⟩,Nat.zero_le _,fun(k:Nat) hk=>⟨fun h3=> ?_,fun h3=> ?_⟩⟩⟩
  ·unfold Jbc;rw[if_neg (bne_iff_ne.1 h2)]
  ·have:=hl.2 x (hsub x (List.mem_filter.1 hx).1)
   exact⟨this.1,this.2.1⟩
  ·rw[eL,List.map_id']
  ·rw[eL,List.map_id'];rfl
  ·have hlt:k<(Xg l s).length:=by simpa using h3
   have hev:(0,({data:={toList:=[]}}:ByteArray),([]:List ByteArray),([]:List Int),({data:={toList:=[]}}:ByteArray))=ev0:=rfl
   rw[hev,Jv3 hlt]
   refine⟨⟨by omega, ?_⟩,by omega,(k+1:Nat),⟨trivial,by simp,Jv2 hlt⟩,by omega,by omega⟩
   rw[List.length_append,D8,List.length_take,List.length_drop]
   omega
  ·have hlt:¬k<(Xg l s).length:=by simpa using h3
   have:k=(Xg l s).length:=by omega
   have z:Zk l s=0:=bne_eq_false_iff_eq.1 h2
   refine⟨trivial, ?_,z.symm⟩
   unfold Jbc
   rw[if_pos z,this,List.take_length,List.drop_length,List.append_nil]
abbrev Uab:=K57.add K86
namespace Cmp
open Go.Sx
set_option maxHeartbeats 20000000
def Kuu:Con:={args:=[.val true H6, .val true H6],ress:=[I],owns:=[],pre:=fun(x,y,_)=>[-1000000000≤x.1∧x.1≤1000000000,-1000000000≤y.1∧y.1≤1000000000],spec:=fun(x,y,_)=>(x.1-y.1,())}
theorem ok98 [Sx.Dr]:Ok Tryz.prog 98 Kuu:=okW W82 Tryz.f98 na fun xx=>by
 obtain⟨⟨(a:Int),(b:Int)⟩,⟨(c:Int),(d:Int)⟩,_⟩:=xx
 refine(by kernel_rfl:((-1000000000)≤a∧a≤1000000000→(-1000000000)≤c∧c≤1000000000→Iw (a-c)∧a-c=a-c)=_).mp ?_
 delta Iw
 intro h1 h2
 exact⟨by omega,rfl⟩
abbrev W83 [Sx.Dr]:=W82.add ok98
end Cmp
end Go.Proofs.YtcibbcfiemeoiaaGreatDoor

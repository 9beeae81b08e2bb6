/- Contracts of the functions that the law reaches: part of the proof. -/
import Derived.Test.YtcibbcfiemeoiaaGreatDoorFA
import Derived.Shelf.Strconv.ErrVarAll
import Derived.Lib.ItoaLen
import Derived.Lib.ItoaMem
set_option linter.unusedSimpArgs false
set_option linter.unusedVariables false
set_option maxRecDepth 20000
namespace Go.Proofs.YtcibbcfiemeoiaaGreatDoor
open Go.Sx
set_option maxHeartbeats 20000000
abbrev Jp9:=ByteArray×Int×Int×Int×Int×Int
abbrev Jtc:Sch:= .prod .str (.prod sI (.prod sI (.prod sI (.prod sI sI))))
abbrev Jn4:=Int×Int×Int×Int
def Jeh (M:List Met) (s:ByteArray) (h:Int):Met:=M.getD (K7 M s h).toNat Jlx
def Jjf (st:Int) (M:List Met) (x:Ord):Int→Nat→Jn4→Jn4
 |_,0,a=>a
 |h,n+1,(c,s,g,f)=>Jjf st M x (h+1) n (bif J1 x h&&decide (h<st) then(c+1,s+(Jeh M x.1 h).2.2.1,g+(Jeh M x.1 h).2.2.2,f+3*(x.2.2.2.2.1-(Jeh M x.1 h).2.2.2)) else(c,s,g,f))
def Le (st:Int) (M:List Met) (x:Ord):Jn4:=Jjf st M x x.2.2.2.1.1 (Uk x) (0,0,0,0)
def Un (st:Int) (M:List Met) (x:Ord):Jp9:=(x.1,(Le st M x).1,(Le st M x).2.1,(Le st M x).2.2.1,(Le st M x).2.2.1*x.2.2.2.2.2.1,(Le st M x).2.2.2)
def Kq2:Con:={args:=[Ja1, .val true Yt],ress:=[(true,Jtc)],owns:=[],pre:=fun(r,x,_)=>[Jj r,x∈r.2.2.2.1],spec:=fun((_,st,_,_,M,_),x,_)=>(Un st M x,())}
abbrev J5m (tk st:Int) (S:List Sta) (O:List Ord) (M:List Met) (X:List Out) (Q:List Per) (x:Ord):Ann:={X:=Nat×Jn4,σ:=fun(j,c,s,g,f)=>⟨14,[(0, .one (.fv 12)),(1, .one (.ptr 10 0)),(3, .one (.int .i64 (x.2.2.2.1.1+j)))],[(0, .imm 127 Xh S),(1, .imm 130 Yt O),(2, .imm 155 Xw M),(3, .imm 188 V5 X),(4, .imm 235 Ys Q),(5, .box 105 [.int .i64 tk, .int .i64 st, .sl 0, .sl 1, .sl 2, .sl 3, .sl 4]),(6, .box 130 (bxO x)),(7, .box 129 [.str Jb, .int .i64 0, .int .i64 0, .int .i64 0, .int .i64 0, .int .i64 0]),(8, .box 129 [.str x.1, .int .i64 c, .int .i64 s, .int .i64 g, .int .i64 0, .int .i64 f]),(10, .box 130 (bxO x)),(12, .yld .ready),(13, .sus [(2, .one (.ptr 5 0)),(3, .one (.ptr 6 0)),(4, .one (.ptr 7 0)),(5, .one (.ptr 8 0))])]⟩,inv:=fun(j,c,s,g,f)=>j≤Uk x∧(0≤c∧c≤j)∧(0≤s∧s≤1000*j)∧(0≤g∧g≤1000*j)∧(-3000*j≤f∧f≤3000*j)∧Jjf st M x (x.2.2.2.1.1+j) (Uk x-j) (c,s,g,f)=Le st M x,mu:=fun(j,_)=>Uk x-j}
def J94 (a:Int) (b:Nat):=0≤a∧a≤1000*Nc b
def Kks (a:List Met) (b:Bt) (c:Int) (d:Nat×Jn4):=(Gt a (K7 a b (c+Nc d.1)) Jsh).2.2
def Kkh (a:Int) (b:List Met) (c:Bt) (d:Int) (e:Nat×Jn4):=a-(Kks b c d e).2
def Kj4 (a:Nat×Jn4) (b:List Met) (c:Bt) (d:Int):=a.2.2.1+(Kks b c d a).1
def J88 (a:Nat×Jn4) (b:List Met) (c:Bt) (d:Int):=a.2.2.2.1+(Kks b c d a).2
def Kjd (a:Nat×Jn4) (b:Int) (c:List Met) (d:Bt) (e:Int):=a.2.2.2.2+3*Kkh b c d e a
def Ksx (a:Nat) (b c d:Bt) (e f g h i j k l m n:Int) (o:List Met):=a≤Uk (b,c,d,(e,f),g,h,i)∧(0≤j∧j≤Nc a)∧J94 k a∧J94 l a∧((-3000)*Nc a≤m∧m≤3000*Nc a)∧Jjf n o (b,c,d,(e,f),g,h,i) (e+Nc a) (Uk (b,c,d,(e,f),g,h,i)-a) (j,k,l,m)=Le n o (b,c,d,(e,f),g,h,i)
def Ksl (a:Nat×Int×Int×Int×Int) (b c d:Bt) (e f g h i j:Int) (k:List Met):=match a with|(j_1,c_1,s,g_1,f_1)=>Ksx j_1 b c d e f g h i c_1 s g_1 f_1 j k
def Kse (a:Nat×Int×Int×Int×Int) (b c d:Bt) (e f g h i j:Int) (k:List Met) (l:Nat×Jn4):=Ksl a b c d e f g h i j k∧Uk (b,c,d,(e,f),g,h,i)-a.1<Uk (b,c,d,(e,f),g,h,i)-l.1
def J7e (a:Nat×Jn4) (b:Int) (c:Bt) (d:Int) (e:List Met) (f g:Bt) (h i j k:Int) (l:List Sta) (m:List Ord) (n:List Out) (o:List Per) (p:Int):=Br false (Iw (a.2.2.2.1*b)∧Sf true ((c,a.2.1,a.2.2.1,a.2.2.2.1,a.2.2.2.1*b,a.2.2.2.2)=Un d e (c,f,g,(h,i),j,b,k))) (Iw (h+Nc a.1+1)∧∃(y:Nat×Int×Int×Int×Int),(h+Nc a.1+1=h+Nc y.1∧Sf l (Sf m (Sf e (Sf n (Sf o (Si p (Si d (Sf c (Sf f (Sf g (Si h (Si i (Si j (Si b (Si k (Sf Jb (Si 0 (Si 0 (Si 0 (Si 0 (Si 0 (Sf c (a.2.1=y.2.1∧a.2.2.1=y.2.2.1∧a.2.2.2.1=y.2.2.2.1∧Si 0 (a.2.2.2.2=y.2.2.2.2∧Sf c (Sf f (Sf g (Si h (Si i (Si j (Si b (k=k)))))))))))))))))))))))))))))))∧Kse y c f g h i j b k d e a)
theorem Kpl:Ok Tryz.prog 126 Kq2:=Jty K3u Tryz.f126 (Us (l:=([(178,Tryz.f178),(247,Tryz.f247)]:List (Nat×Func))) (List.forall_mem_cons.2 ⟨by kernel_rfl,List.forall_mem_cons.2 ⟨by kernel_rfl,by simp⟩⟩)) (fun xx=>na ()) (fun xx=>fun f' id=>if f'=247 then some (J5m xx.1.1 xx.1.2.1 xx.1.2.2.1 xx.1.2.2.2.1 xx.1.2.2.2.2.1 xx.1.2.2.2.2.2.1 xx.1.2.2.2.2.2.2 (xx.2.1.1,xx.2.1.2.1,xx.2.1.2.2.1,(xx.2.1.2.2.2.1.1,xx.2.1.2.2.2.1.2),xx.2.1.2.2.2.2.1,xx.2.1.2.2.2.2.2.1,xx.2.1.2.2.2.2.2.2)) else none) fun xx=>by
 obtain⟨⟨(tk:Int),(st:Int),(S:List Sta),(O:List Ord),(M:List Met),(X:List Out),(Q:List Per)⟩,⟨(n:ByteArray),(f:ByteArray),(t:ByteArray),⟨(a:Int),(b:Int)⟩,(p:Int),(c:Int),(r:Int)⟩,_⟩:=xx
 refine(by kernel_rfl:(Jw tk st S O M X Q→(n,f,t,(a,b),p,c,r)∈O→∃(x:Nat×Int×Int×Int×Int),(a=a+Nc x.1∧Sf S (Sf O (Sf M (Sf X (Sf Q (Si tk (Si st (Sf n (Sf f (Sf t (Si a (Si b (Si p (Si c (Si r (B0=Jb∧Si 0 (Si 0 (Si 0 (Si 0 (Si 0 (Sf n (0=x.2.1∧0=x.2.2.1∧0=x.2.2.2.1∧Si 0 (0=x.2.2.2.2∧Sf n (Sf f (Sf t (Si a (Si b (Si p (Si c (r=r))))))))))))))))))))))))))))))∧Ksl x n f t a b p c r st M∧∀(x:Nat×Jn4),(match x with|(j,c_1,s,g,f_1)=>Ksx j n f t a b p c r c_1 s g f_1 st M)→Br (decide (a+Nc x.1<b)) (Br (J1 (n,f,t,(a,b),p,c,r) (a+Nc x.1)) (Br (decide (a+Nc x.1<st)) ((Jw tk st S O M X Q∧Tw (Bd (K7 M n (a+Nc x.1)) (Ln M)))∧Iw (x.2.1+1)∧Iw (Kj4 x M n a)∧Iw (J88 x M n a)∧(Iw (Kkh p M n a x)∧Iw (3*Kkh p M n a x)∧Iw (Kjd x p M n a))∧Br false (Iw (J88 x M n a*c)∧Sf true ((n,x.2.1+1,Kj4 x M n a,J88 x M n a,J88 x M n a*c,Kjd x p M n a)=Un st M (n,f,t,(a,b),p,c,r))) (Iw (a+Nc x.1+1)∧∃(y:Nat×Int×Int×Int×Int),(a+Nc x.1+1=a+Nc y.1∧Sf S (Sf O (Sf M (Sf X (Sf Q (Si tk (Si st (Sf n (Sf f (Sf t (Si a (Si b (Si p (Si c (Si r (Sf Jb (Si 0 (Si 0 (Si 0 (Si 0 (Si 0 (Sf n (x.2.1+1=y.2.1∧Kj4 x M n a=y.2.2.1∧J88 x M n a=y.2.2.2.1∧Si 0 (Kjd x p M n a=y.2.2.2.2∧Sf n (Sf f (Sf t (Si a (Si b (Si p (Si c (r=r)))))))))))))))))))))))))))))))∧Kse y n f t a b p c r st M x)) (J7e x c n st M f t a b p r S O X Q tk)) (J7e x c n st M f t a b p r S O X Q tk)) (Iw (x.2.2.2.1*c)∧Sf true ((n,x.2.1,x.2.2.1,x.2.2.2.1,x.2.2.2.1*c,x.2.2.2.2)=Un st M (n,f,t,(a,b),p,c,r))))=_).mp ?_
 delta Z60 Z66 Jsh Jw J94 Kks Kkh Kj4 J88 Kjd Ksx Ksl Kse J7e Br Iw Bd Tw Sf Si Ln Nc Gt B0
 intro hr hx
 have hO:=hr.ord _ hx
 have hD:=hr.done _ hx
 have b0:=hO.span.lo
 have b1:=hO.span.mid
 have b2:=hO.span.hi
 have b3:=hO.span.len
 have bp:=hO.pow
 have bc:=hO.pri
 have hn:Uk (n,f,t,(a,b),p,c,r)≤48∧(Uk (n,f,t,(a,b),p,c,r):Int)=b-a:=by
  dsimp only at b1 b3
  unfold Uk
  constructor<;>dsimp only<;>omega
 dsimp only at b0 b1 b2 b3 bp bc hD
 refine⟨((0:Nat),(0,0,0,0)),by(repeat' first|exact rfl|apply And.intro|exact(Int.add_zero _).symm|omega|dsimp only;omega),⟨Nat.zero_le _,by omega,by omega,by omega,by omega, ?_⟩,fun(y:Nat×Jn4) hy=>⟨fun h1=> ?_,fun h1=> ?_⟩⟩
 ·unfold Le
  rw[Nat.sub_zero]
  simp only[Int.natCast_zero,Int.add_zero]
 ·obtain⟨j,c1,s1,g1,f1⟩:=y
  obtain⟨k1,k2,k3,k4,k5,k6⟩:=hy
  have h1:a+(j:Int)<b:=of_decide_eq_true h1
  have hj:Uk (n,f,t,(a,b),p,c,r)-j=(Uk (n,f,t,(a,b),p,c,r)-(j+1))+1:=by omega
  rw[hj,Jjf] at k6
  have hc:a+(j:Int)+1=a+((j+1:Nat):Int):=by omega
  have hB: -9223372036854775808≤a+(j:Int)+1∧a+(j:Int)+1≤9223372036854775807:=by omega
  refine⟨fun h2=>⟨fun h3=> ?_,fun h3=>⟨fun h=>(by cases h),fun _=>⟨hB,(j+1,c1,s1,g1,f1),by(repeat' first|exact rfl|apply And.intro|exact(Int.add_zero _).symm|omega|dsimp only;omega),⟨by(first|omega|dsimp only;omega),by(first|omega|dsimp only;omega),by(first|omega|dsimp only;omega),by(first|omega|dsimp only;omega),by(first|omega|dsimp only;omega), ?_⟩,by(first|omega|dsimp only;omega)⟩⟩⟩,fun h2=>⟨fun h=>(by cases h),fun _=>⟨hB,(j+1,c1,s1,g1,f1),by(repeat' first|exact rfl|apply And.intro|exact(Int.add_zero _).symm|omega|dsimp only;omega),⟨by(first|omega|dsimp only;omega),by(first|omega|dsimp only;omega),by(first|omega|dsimp only;omega),by(first|omega|dsimp only;omega),by(first|omega|dsimp only;omega), ?_⟩,by(first|omega|dsimp only;omega)⟩⟩⟩
  ·have h3':a+(j:Int)<st:=of_decide_eq_true h3
   have hm:0≤K7 M n (a+(j:Int)):=hD _ h2 h3'
   have hl:=Jeg (l:=M) (s:=n) (h:=a+(j:Int))
   have hM:Jxd (Jeh M n (a+(j:Int))):=hr.met _ (Jd (show _<M.length by omega))
   have m1:=hM.sent
   have m2:=hM.got
   have e:M.getD (K7 M n (a+(j:Int))).toNat (Jb,0,0,0)=Jeh M n (a+(j:Int)):=rfl
   simp only[]
   rw[show(({data:={toList:=[]}}:ByteArray),(0:Int),(0:Int),(0:Int))=(Jb,0,0,0) from rfl,e]
   rw[h2,h3,Bool.true_and,cond_true] at k6
   refine⟨⟨hr,⟨hm,hl⟩,hm,hl⟩,by omega,by omega,by omega,⟨by omega,by omega,by omega⟩,fun h=>(by cases h),fun _=>⟨hB,(j+1,c1+1,s1+(Jeh M n (a+(j:Int))).2.2.1,g1+(Jeh M n (a+(j:Int))).2.2.2,f1+3*(p-(Jeh M n (a+(j:Int))).2.2.2)),by(repeat' first|exact rfl|apply And.intro|exact(Int.add_zero _).symm|omega|dsimp only;omega),⟨by(first|omega|dsimp only;omega),by(first|omega|dsimp only;omega),by(first|omega|dsimp only;omega),by(first|omega|dsimp only;omega),by(first|omega|dsimp only;omega), ?_⟩,by(first|omega|dsimp only;omega)⟩⟩
   rw[hc] at k6
   exact k6
  ·rw[h3,Bool.and_false,cond_false,hc] at k6
   exact k6
  ·rw[show J1 (n,f,t,(a,b),p,c,r) (a+(j:Int))=false from h2,Bool.false_and,cond_false,hc] at k6
   exact k6
 ·obtain⟨j,c1,s1,g1,f1⟩:=y
  obtain⟨k1,k2,k3,k4,k5,k6⟩:=hy
  have h1:¬a+(j:Int)<b:=of_decide_eq_false h1
  have hj:Uk (n,f,t,(a,b),p,c,r)-j=0:=by omega
  rw[hj,Jjf] at k6
  have q1:0≤g1*c:=Int.mul_nonneg k4.1 bc.1
  have q2:g1*c≤48000*1000:=Int.mul_le_mul (by omega) bc.2 bc.1 (by decide)
  refine⟨⟨by(first|omega|dsimp only;omega),by(first|omega|dsimp only;omega)⟩,rfl, ?_⟩
  unfold Un
  rw[←k6]
abbrev K3t:=K3u.add Kpl
def bd4 (k:Int) (a:Jn4):Prop:=(0≤a.1∧a.1≤k)∧(0≤a.2.1∧a.2.1≤1000*k)∧(0≤a.2.2.1∧a.2.2.1≤a.2.1)∧-3000*k≤a.2.2.2∧a.2.2.2≤3000*k
theorem Jph {st:Int} {M:List Met} {x:Ord} (hp:1≤x.2.2.2.2.1∧x.2.2.2.2.1≤1000) (hM:∀m∈M,Jxd m) (hd:∀h,J1 x h=true→h<st→0≤K7 M x.1 h):∀(n:Nat) (h:Int) (a:Jn4) (k:Int),bd4 k a→bd4 (k+n) (Jjf st M x h n a)
 |0,_,_,k,ha=>by unfold Jjf;rw[show k+((0:Nat):Int)=k by omega];exact ha
 | n + 1, h, (c, s, g, f), k, ha => by
  unfold Jjf
  rw[show k+((n+1:Nat):Int)=(k+1)+n by omega]
  apply Jph hp hM hd n
  unfold bd4 at ha⊢
  dsimp only at ha
  cases hb:J1 x h&&decide (h<st) with
  |false=>simp only[cond_false];omega
  |true=>
   have h1:=Bool.and_eq_true_iff.1 hb
   have hm:0≤K7 M x.1 h:=hd h h1.1 (of_decide_eq_true h1.2)
   have hl:=Jeg (l:=M) (s:=x.1) (h:=h)
   have hk:Jxd (Jeh M x.1 h):=hM _ (Jd (show _<M.length by omega))
   have m1:=hk.sent
   have m2:=hk.got
   simp only[cond_true]
   omega
theorem Jn7 {S:List Sta} {x:Ord} (h:Jcz S x):Uk x≤48:=by
 have:=h.span.len
 have:=h.span.mid
 unfold Uk
 omega
structure J22 (b:Jp9):Prop where
 hours:0≤b.2.1∧b.2.1≤48
 sent:0≤b.2.2.1∧b.2.2.1≤48000
 got:0≤b.2.2.2.1∧b.2.2.2.1≤b.2.2.1
 money:0≤b.2.2.2.2.1∧b.2.2.2.2.1≤48000000
 fine: -144000≤b.2.2.2.2.2∧b.2.2.2.2.2≤144000
theorem Jaw {tk st:Int} {S:List Sta} {O:List Ord} {M:List Met} {X:List Out} {Q:List Per} {x:Ord} (hr:Jj (tk,st,S,O,M,X,Q)) (hx:x∈O):J22 (Un st M x):=by
 have hO:=hr.ord _ hx
 have hs:=Jn7 hO
 have h:=Jph hO.pow hr.met (hr.done _ hx) (Uk x) x.2.2.2.1.1 (0,0,0,0) 0 (by unfold bd4;simp)
 have bc:=hO.pri
 unfold bd4 at h
 have h:(0≤(Le st M x).1∧(Le st M x).1≤0+(Uk x:Int))∧(0≤(Le st M x).2.1∧(Le st M x).2.1≤1000*(0+(Uk x:Int)))∧(0≤(Le st M x).2.2.1∧(Le st M x).2.2.1≤(Le st M x).2.1)∧-3000*(0+(Uk x:Int))≤(Le st M x).2.2.2∧(Le st M x).2.2.2≤3000*(0+(Uk x:Int)):=h
 have q1:0≤(Le st M x).2.2.1*x.2.2.2.2.2.1:=Int.mul_nonneg h.2.2.1.1 bc.1
 have q2:(Le st M x).2.2.1*x.2.2.2.2.2.1≤48000*1000:=Int.mul_le_mul (by omega) bc.2 bc.1 (by decide)
 exact⟨by unfold Un;(first|omega|dsimp only;omega),by unfold Un;(first|omega|dsimp only;omega),by unfold Un;(first|omega|dsimp only;omega),by unfold Un;(first|omega|dsimp only;omega),by unfold Un;(first|omega|dsimp only;omega)⟩
def Fb (x:Ord) (a b:ByteArray):Bool:=x.2.1.toList==a.toList&&(x.2.2.1.toList==b.toList&&true)
def Kdc (st:Int) (M:List Met) (a b:ByteArray) (x:Ord) (n:Int):Int:=(bif Fb x b a then(bif Fb x a b then n+((Un st M x).2.2.2.2.1-(Un st M x).2.2.2.2.2) else n)-((Un st M x).2.2.2.2.1-(Un st M x).2.2.2.2.2) else(bif Fb x a b then n+((Un st M x).2.2.2.2.1-(Un st M x).2.2.2.2.2) else n))
def Jwl (st:Int) (M:List Met) (a b:ByteArray):List Ord→Int→Int
 |[],n=>n
 |x::l,n=>Jwl st M a b l (Kdc st M a b x n)
def Dj (st:Int) (O:List Ord) (M:List Met) (a b:ByteArray):Int:=Jwl st M a b O 0
def Jzy:Con:={args:=[Ja1,aS,aS],ress:=[I],owns:=[],pre:=fun(r,_)=>[Jj r],spec:=fun((_,st,_,O,M,_),a,b,_)=>(Dj st O M a b,())}
abbrev Kc4 (tk st:Int) (S:List Sta) (O:List Ord) (M:List Met) (X:List Out) (Q:List Per) (a b:ByteArray):Ann:={X:=Nat×Int,σ:=fun(k,n)=>⟨6,[(1, .one (.str a)),(2, .one (.str b)),(3, .one (.ptr 5 0)),(7, .one (.int .i64 n)),(13, .one (.sl 1)),(14, .one (.int .i64 O.length)),(15, .one (.int .i64 k))],[(0, .imm 127 Xh S),(1, .imm 130 Yt O),(2, .imm 155 Xw M),(3, .imm 188 V5 X),(4, .imm 235 Ys Q),(5, .box 105 [.int .i64 tk, .int .i64 st, .sl 0, .sl 1, .sl 2, .sl 3, .sl 4])]⟩,inv:=fun(k,n)=>k≤O.length∧(-100000000*k≤n∧n≤100000000*k)∧Jwl st M a b (O.drop k) n=Dj st O M a b,mu:=fun(k,_)=>O.length-k}
def Kjz (a:List Ord) (b:Nat×Int) (c:Bt):=Lb (Kfl a b) c
def Kjx (a:List Ord) (b:Nat×Int) (c:Bt):=Lb (Kfh a b) c
def Kee (a:List Ord) (b c:Nat×Int) (d:List Sta) (e:List Met) (f:List Out) (g:List Per) (h i:Int):=Si (Ln a) (Jpt b c d a e f g h i)
def Kht (a:Nat×Int) (b:List Ord) (c:Int) (d:List Met) (e f:Bt):=a.1≤List.length b∧((-100000000)*Nc a.1≤a.2∧a.2≤100000000*Nc a.1)∧Jwl c d e f (List.drop a.1 b) a.2=Dj c b d e f
def Khh (a:List Ord) (b:Nat×Int) (c d:Bt):=Kjz a b c&&(Kjx a b d&&true)
def Kd1 (a:Nat×Int) (b:List Ord) (c:Int) (d:List Met) (e f:Bt) (g:Nat×Int):=Kht a b c d e f∧List.length b-a.1<List.length b-g.1
def Ksd (a:Int) (b:List Met) (c:List Ord) (d:Nat×Int):=(Un a b (J5u c d)).2.2.2.2
def Jwz (a:Int) (b:List Met) (c:List Ord) (d:Nat×Int):=(Ksd a b c d).1-(Ksd a b c d).2
def J01 (a:Int) (b:List Met) (c:List Ord) (d:Nat×Int):=Iw (Jwz a b c d)
def J7i (a:Nat×Int) (b:Int) (c:List Met) (d:List Ord):=a.2-Jwz b c d a
def J00 (a:Nat×Int) (b:Int) (c:List Met) (d:List Ord):=a.2+Jwz b c d a
def J66 (a:Nat×Int) (b:Int) (c:List Met) (d:List Ord):=J00 a b c d-Jwz b c d a
theorem Kpk:Ok Tryz.prog 127 Jzy:=okW K3t Tryz.f127 (fun xx=>X3 (Kc4 xx.1.1 xx.1.2.1 xx.1.2.2.1 xx.1.2.2.2.1 xx.1.2.2.2.2.1 xx.1.2.2.2.2.2.1 xx.1.2.2.2.2.2.2 xx.2.1 xx.2.2.1)) fun xx=>by
 obtain⟨⟨(tk:Int),(st:Int),(S:List Sta),(O:List Ord),(M:List Met),(X:List Out),(Q:List Per)⟩,(a:ByteArray),(b:ByteArray),_⟩:=xx
 refine(by kernel_rfl:(Jw tk st S O M X Q→∃(x:Nat×Int),Sf a (Sf b (0=x.2∧Si (Ln O) (Jxq x S O M X Q tk st)))∧Kht x O st M a b∧∀(x:Nat×Int),Kht x O st M a b→Br (decide (Nc x.1<Ln O)) (Tw (Bd (Nc x.1) (Ln O))∧(Jw tk st S O M X Q∧J5u O x∈O)∧Br (Khh O x a b) ((J01 st M O x∧Iw (J00 x st M O))∧Br (Khh O x b a) ((J01 st M O x∧Iw (J66 x st M O))∧Z32 x∧∃(y:Nat×Int),Sf a (Sf b (J66 x st M O=y.2∧Kee O x y S M X Q tk st))∧Kd1 y O st M a b x) (Z32 x∧∃(y:Nat×Int),Sf a (Sf b (J00 x st M O=y.2∧Kee O x y S M X Q tk st))∧Kd1 y O st M a b x)) (Br (Khh O x b a) ((J01 st M O x∧Iw (J7i x st M O))∧Z32 x∧∃(y:Nat×Int),Sf a (Sf b (J7i x st M O=y.2∧Kee O x y S M X Q tk st))∧Kd1 y O st M a b x) (Z32 x∧∃(y:Nat×Int),Sf a (Sf b (x.2=y.2∧Kee O x y S M X Q tk st))∧Kd1 y O st M a b x))) (x.2=Dj st O M a b))=_).mp ?_
 delta Z32 Z60 Z66 Jrs Jw Jdh Kfn Kfm Kfl Kfk Kfi Kfh Kfg Kff Kfe Kjz Kjx Jpu Jxq Jpt Kee Kht Khh Kd1 J5u Ksd Jwz J01 J7i J00 J66 Br Iw Bd Tw Sf Si Ln Nc B0 Lb E2
 intro hr
 have nO:O.length≤32:=hr.nO
 refine⟨((0:Nat),(0:Int)),by(repeat' first|exact rfl|apply And.intro|exact(Int.add_zero _).symm|omega|dsimp only;omega),⟨Nat.zero_le _,by omega,rfl⟩,fun(x:Nat×Int) hk=>⟨fun h1=> ?_,fun h1=> ?_⟩⟩
 ·obtain⟨k,n⟩:=x
  have hlt:k<O.length:=by simpa using h1
  have hx:=Jd (d:=Kl) hlt
  have hb:=Jaw hr hx
  obtain⟨k1,k2,k3⟩:=hk
  rw[Jp (d:=Kl) hlt,Jwl] at k3
  have m1:=hb.money
  have m2:=hb.fine
  have hz:((({data:={toList:=[]}}:ByteArray),({data:={toList:=[]}}:ByteArray),({data:={toList:=[]}}:ByteArray),((0:Int),(0:Int)),(0:Int),(0:Int),(0:Int)):Ord)=Kl:=rfl
  dsimp only at k1 k2 k3
  simp only[hz,Prod.eta]
  generalize O.getD k Kl=y at*
  have k3:Jwl st M a b (List.drop (k+1) O) (bif Fb y b a then(bif Fb y a b then n+((Un st M y).2.2.2.2.1-(Un st M y).2.2.2.2.2) else n)-((Un st M y).2.2.2.2.1-(Un st M y).2.2.2.2.2) else(bif Fb y a b then n+((Un st M y).2.2.2.2.1-(Un st M y).2.2.2.2.2) else n))=Dj st O M a b:=k3
  refine⟨⟨⟨by omega,by omega⟩,by omega,by omega⟩,⟨hr,hx⟩,fun h2=>⟨⟨⟨by omega,by omega⟩,by omega,by omega⟩,fun h3=>⟨⟨⟨by omega,by omega⟩,by omega,by omega⟩,⟨⟨by omega,by omega⟩,(k+1,n+((Un st M y).2.2.2.2.1-(Un st M y).2.2.2.2.2)-((Un st M y).2.2.2.2.1-(Un st M y).2.2.2.2.2)),by(repeat' first|exact rfl|exact⟨⟩|apply And.intro|omega|dsimp only;omega),⟨by(first|omega|dsimp only;omega),by(first|omega|dsimp only;omega), ?_⟩,by(first|omega|dsimp only;omega)⟩⟩,fun h3=>⟨⟨by omega,by omega⟩,(k+1,n+((Un st M y).2.2.2.2.1-(Un st M y).2.2.2.2.2)),by(repeat' first|exact rfl|exact⟨⟩|apply And.intro|omega|dsimp only;omega),⟨by(first|omega|dsimp only;omega),by(first|omega|dsimp only;omega), ?_⟩,by(first|omega|dsimp only;omega)⟩⟩,fun h2=>⟨fun h3=>⟨⟨⟨by omega,by omega⟩,by omega,by omega⟩,⟨⟨by omega,by omega⟩,(k+1,n-((Un st M y).2.2.2.2.1-(Un st M y).2.2.2.2.2)),by(repeat' first|exact rfl|exact⟨⟩|apply And.intro|omega|dsimp only;omega),⟨by(first|omega|dsimp only;omega),by(first|omega|dsimp only;omega), ?_⟩,by(first|omega|dsimp only;omega)⟩⟩,fun h3=>⟨⟨by omega,by omega⟩,(k+1,n),by(repeat' first|exact rfl|exact⟨⟩|apply And.intro|omega|dsimp only;omega),⟨by(first|omega|dsimp only;omega),by(first|omega|dsimp only;omega), ?_⟩,by(first|omega|dsimp only;omega)⟩⟩⟩
  all_goals (have h2:Fb y a b=_:=h2;have h3:Fb y b a=_:=h3;rw[h2,h3] at k3;exact k3)
 ·obtain⟨k,n⟩:=x
  have hlt:¬k<O.length:=by simpa using h1
  obtain⟨k1,k2,k3⟩:=hk
  have:k=O.length:=by omega
  rw[this,List.drop_length,Jwl] at k3
  exact k3
abbrev K3s:=K3t.add Kpk
theorem Jwk {tk st:Int} {S:List Sta} {O:List Ord} {M:List Met} {X:List Out} {Q:List Per} {a b:ByteArray} (hr:Jj (tk,st,S,O,M,X,Q)):∀(l:List Ord) (n:Int),(∀x∈l,x∈O)→n-100000000*l.length≤Jwl st M a b l n∧Jwl st M a b l n≤n+100000000*l.length
 |[],n,_=>by simp[Jwl]
 | x :: l, n, h => by
  have hb:=Jaw hr (h x (List.mem_cons_self ..))
  have ih:=Jwk (a:=a) (b:=b) hr l (Kdc st M a b x n) fun y hy=>h y (List.mem_cons_of_mem _ hy)
  have m1:=hb.money
  have m2:=hb.fine
  have hd:n-100000000≤Kdc st M a b x n∧Kdc st M a b x n≤n+100000000:=by
   unfold Kdc
   cases Fb x a b<;>cases Fb x b a<;>simp only[cond_true,cond_false]<;>omega
  simp only[List.length_cons]
  unfold Jwl
  omega
theorem Jpr {tk st:Int} {S:List Sta} {O:List Ord} {M:List Met} {X:List Out} {Q:List Per} {a b:ByteArray} (hr:Jj (tk,st,S,O,M,X,Q)): -3200000000≤Dj st O M a b∧Dj st O M a b≤3200000000:=by
 have h:=Jwk (a:=a) (b:=b) hr O 0 fun _ h=>h
 have nO:O.length≤32:=hr.nO
 unfold Dj
 omega
def Jxk (st:Int) (O:List Ord) (M:List Met) (s:ByteArray):List Sta→Int→Int
 |[],n=>n
 |x::l,n=>Jxk st O M s l (bif x.1.toList !=s.toList then n+Dj st O M s x.1 else n)
def Jvz (st:Int) (S:List Sta) (O:List Ord) (M:List Met) (s:ByteArray):Int:=Jxk st O M s S 0
def Jzv:Con:={args:=[Ja1,aS],ress:=[I],owns:=[],pre:=fun(r,_)=>[Jj r],spec:=fun((_,st,S,O,M,_),s,_)=>(Jvz st S O M s,())}
abbrev Kc3 (tk st:Int) (S:List Sta) (O:List Ord) (M:List Met) (X:List Out) (Q:List Per) (s:ByteArray):Ann:={X:=Nat×Int,σ:=fun(k,n)=>⟨6,[(1, .one (.str s)),(2, .one (.ptr 5 0)),(5, .one (.int .i64 n)),(9, .one (.sl 0)),(10, .one (.int .i64 S.length)),(11, .one (.int .i64 k))],[(0, .imm 127 Xh S),(1, .imm 130 Yt O),(2, .imm 155 Xw M),(3, .imm 188 V5 X),(4, .imm 235 Ys Q),(5, .box 105 [.int .i64 tk, .int .i64 st, .sl 0, .sl 1, .sl 2, .sl 3, .sl 4])]⟩,inv:=fun(k,n)=>k≤S.length∧(-3200000000*k≤n∧n≤3200000000*k)∧Jxk st O M s (S.drop k) n=Jvz st S O M s,mu:=fun(k,_)=>S.length-k}
def Klk (a:List Sta) (b:Nat×Int):=(List.getD a b.1 Z12).1
def Khu (a:Nat×Int) (b:List Sta) (c:Int) (d:List Ord) (e:List Met) (f:Bt):=a.1≤List.length b∧((-3200000000)*Nc a.1≤a.2∧a.2≤3200000000*Nc a.1)∧Jxk c d e f (List.drop a.1 b) a.2=Jvz c b d e f
def Kui (a:Nat×Int) (b:List Sta) (c:Int) (d:List Ord) (e:List Met) (f:Bt) (g:Nat×Int):=Khu a b c d e f∧List.length b-a.1<List.length b-g.1
theorem Kpj:Ok Tryz.prog 128 Jzv:=okW K3s Tryz.f128 (fun xx=>X3 (Kc3 xx.1.1 xx.1.2.1 xx.1.2.2.1 xx.1.2.2.2.1 xx.1.2.2.2.2.1 xx.1.2.2.2.2.2.1 xx.1.2.2.2.2.2.2 xx.2.1)) fun xx=>by
 obtain⟨⟨(tk:Int),(st:Int),(S:List Sta),(O:List Ord),(M:List Met),(X:List Out),(Q:List Per)⟩,(s:ByteArray),_⟩:=xx
 refine(by kernel_rfl:(Jw tk st S O M X Q→∃(x:Nat×Int),Sf s (0=x.2∧Si (Ln S) (Jxq x S O M X Q tk st))∧Khu x S st O M s∧∀(x:Nat×Int),Khu x S st O M s→Br (decide (Nc x.1<Ln S)) (Tw (Bd (Nc x.1) (Ln S))∧Br (!Lb (Klk S x) s) ((Jw tk st S O M X Q∧Iw (x.2+Dj st O M s (Klk S x)))∧Z32 x∧∃(y:Nat×Int),Sf s (x.2+Dj st O M s (Klk S x)=y.2∧Si (Ln S) (Jpt x y S O M X Q tk st))∧Kui y S st O M s x) (Z32 x∧∃(y:Nat×Int),Sf s (x.2=y.2∧Si (Ln S) (Jpt x y S O M X Q tk st))∧Kui y S st O M s x)) (x.2=Jvz st S O M s))=_).mp ?_
 delta Z12 Z32 Z60 Jrs Jw Klk Jpu Jxq Jpt Khu Kui Br Iw Bd Tw Sf Si Ln Nc B0 Lb
 intro hr
 have nS:S.length≤6:=hr.nS
 refine⟨((0:Nat),(0:Int)),by(repeat' first|exact rfl|exact⟨⟩|apply And.intro|omega|dsimp only;omega),⟨Nat.zero_le _,by omega,rfl⟩,fun(x:Nat×Int) hk=>⟨fun h1=> ?_,fun h1=> ?_⟩⟩
 ·obtain⟨k,n⟩:=x
  have hlt:k<S.length:=by simpa using h1
  obtain⟨k1,k2,k3⟩:=hk
  rw[Jp (d:=Jr2) hlt,Jxk] at k3
  have hz:((({data:={toList:=[]}}:ByteArray),(0:Int),(0:Int)):Sta)=Jr2:=rfl
  dsimp only at k1 k2 k3
  simp only[hz,Prod.eta]
  generalize S.getD k Jr2=y at*
  have hb:=Jpr (a:=s) (b:=y.1) hr
  refine⟨⟨⟨by omega,by omega⟩,by omega,by omega⟩,fun h2=>⟨⟨hr,by omega,by omega⟩,⟨by omega,by omega⟩,(k+1,n+Dj st O M s y.1),by(repeat' first|exact rfl|exact⟨⟩|apply And.intro|omega|dsimp only;omega),⟨by(first|omega|dsimp only;omega),by(first|omega|dsimp only;omega), ?_⟩,by(first|omega|dsimp only;omega)⟩,fun h2=>⟨⟨by omega,by omega⟩,(k+1,n),by(repeat' first|exact rfl|exact⟨⟩|apply And.intro|omega|dsimp only;omega),⟨by(first|omega|dsimp only;omega),by(first|omega|dsimp only;omega), ?_⟩,by(first|omega|dsimp only;omega)⟩⟩
  all_goals (have h2:(y.1.toList !=s.toList)=_:=h2;rw[h2] at k3;exact k3)
 ·obtain⟨k,n⟩:=x
  have hlt:¬k<S.length:=by simpa using h1
  obtain⟨k1,k2,k3⟩:=hk
  have:k=S.length:=by omega
  rw[this,List.drop_length,Jxk] at k3
  exact k3
abbrev K3r:=K3s.add Kpj
def J1u (num den:Int):Int×Int:=(num.tdiv (Nat.gcd num.toNat den.toNat:Nat),den.tdiv (Nat.gcd num.toNat den.toNat:Nat))
def K5w:Con:={args:=[aI,aI],ress:=[(true,Hp)],owns:=[],pre:=fun(a,b,_)=>[0≤a∧a≤1000000000000,1≤b∧b≤1000000000000],spec:=fun(a,b,_)=>(J1u a b,())}
abbrev Kc0 (num den:Int):Ann:={X:=Int×Int,σ:=fun(a,b)=>⟨1,[(0, .one (.int .i64 num)),(1, .one (.int .i64 den)),(4, .one (.ptr 0 0)),(5, .one (.int .i64 a)),(6, .one (.int .i64 b))],[(0, .box 54 [.int .i64 0, .int .i64 0])]⟩,inv:=fun(a,b)=>(0≤a∧a≤1000000000000)∧(0≤b∧b≤1000000000000)∧(a=0→b≠0)∧Nat.gcd a.toNat b.toNat=Nat.gcd num.toNat den.toNat,mu:=fun(_,b)=>b.toNat}
def Z29:=Tw ((0:Int)=0)
def Kho (a:Int×Int) (b c:Int):=(0≤a.1∧a.1≤1000000000000)∧(0≤a.2∧a.2≤1000000000000)∧(a.1=0→a.2=0→False)∧Nat.gcd (Int.toNat a.1) (Int.toNat a.2)=Nat.gcd (Int.toNat b) (Int.toNat c)
theorem K34:Ok Tryz.prog 99 K5w:=okW K3r Tryz.f99 (fun xx=>X3 (Kc0 xx.1 xx.2.1)) fun xx=>by
 obtain⟨(num:Int),(den:Int),_⟩:=xx
 refine(by kernel_rfl:(0≤num∧num≤1000000000000→1≤den∧den≤1000000000000→∃(x:Int×Int),Si num (Si den (num=x.1∧den=x.2∧Z29))∧Kho x num den∧∀(x:Int×Int),Kho x num den→Br (x.2 !=0) ((x.2=0→False)∧∃(y:Int×Int),Si num (Si den (x.2=y.1∧Int.tmod x.1 x.2=y.2∧Z29))∧Kho y num den∧Int.toNat y.2<Int.toNat x.2) (((x.1=0→False)∧Iw (Int.tdiv num x.1)∧(x.1=0→False)∧Iw (Int.tdiv den x.1))∧(Int.tdiv num x.1,Int.tdiv den x.1)=J1u num den))=_).mp ?_
 delta Z29 Kho Br Iw Tw Si
 intro h1' h2
 refine⟨(num,den),by(repeat' first|exact rfl|exact⟨⟩|apply And.intro|omega|dsimp only;omega),⟨h1',by(first|omega|dsimp only;omega),by(first|omega|dsimp only;omega),rfl⟩,fun(x:Int×Int) hk=>⟨fun h1=> ?_,fun h1=> ?_⟩⟩
 ·obtain⟨a,b⟩:=x
  obtain⟨k1,k2,k3,k4⟩:=hk
  dsimp only at k1 k2 k3 k4 h1
  have hb:b≠0:=bne_iff_ne.1 h1
  obtain⟨A,rfl⟩:=Int.eq_ofNat_of_zero_le k1.1
  obtain⟨B,rfl⟩:=Int.eq_ofNat_of_zero_le k2.1
  have hB:0<B:=by omega
  have hm:=Nat.mod_lt A hB
  have e:((A:Int).tmod (B:Int))=((A %B:Nat):Int):=(Int.ofNat_tmod A B).symm
  refine⟨hb,((B:Int),((A %B:Nat):Int)),⟨rfl,rfl,rfl,e,rfl,rfl⟩,⟨by(first|omega|dsimp only;omega),by(first|omega|dsimp only;omega),fun h=>(by dsimp only at h;omega), ?_⟩, ?_⟩
  ·rw[←k4]
   simp only[Int.toNat_natCast]
   rw[Nat.gcd_comm A B,Nat.gcd_rec B A,Nat.gcd_comm]
  ·simp only[Int.toNat_natCast]
   exact hm
 ·obtain⟨a,b⟩:=x
  obtain⟨k1,k2,k3,k4⟩:=hk
  dsimp only at k1 k2 k3 k4 h1
  have hb:b=0:=by simpa using h1
  subst hb
  have ha:a≠0:=fun h=>k3 h rfl
  have hg:(Nat.gcd num.toNat den.toNat:Int)=a:=by rw[←k4];simp;omega
  have d1:0≤num.tdiv a:=Int.tdiv_nonneg h1'.1 k1.1
  have d2:num.tdiv a≤num:=Int.tdiv_le_self _ h1'.1
  have d3:0≤den.tdiv a:=Int.tdiv_nonneg (by omega) k1.1
  have d4:den.tdiv a≤den:=Int.tdiv_le_self _ (by omega)
  refine⟨⟨ha,⟨by(first|omega|dsimp only;omega),by(first|omega|dsimp only;omega)⟩,ha,by(first|omega|dsimp only;omega),by(first|omega|dsimp only;omega)⟩, ?_⟩
  unfold J1u
  rw[hg]
abbrev K3q:=K3r.add K34
abbrev Kao:Sch:= .prod .str (.prod sI .bool)
abbrev Frm:=ByteArray×Int×Bool
def Zm (k:ByteArray):Frm:=
 bif k.toList==Jt.toList then(⟨⟨[83]⟩⟩,2,true) else
 bif k.toList==Ua.toList then(⟨⟨[115]⟩⟩,2,true) else
 bif k.toList==Kk.toList then(⟨⟨[79,115,115]⟩⟩,4,true) else
 bif k.toList==K2.toList then(⟨⟨[111]⟩⟩,4,true) else
 bif k.toList==Vl.toList then(⟨⟨[111]⟩⟩,1,true) else
 bif k.toList==Ju.toList then(⟨⟨[88,115]⟩⟩,4,true) else
 bif k.toList==Jq.toList then(⟨⟨[120]⟩⟩,1,true) else
 bif k.toList==Kd.toList then(⟨⟨[80,120]⟩⟩,1,true) else
 bif k.toList==Kc.toList then(⟨⟨[112]⟩⟩,1,true) else
 bif k.toList==Jg.toList then(⟨⟨[]⟩⟩,2,true) else
 bif k.toList==Js.toList then(⟨⟨[]⟩⟩,0,true) else
 (Jb,0,false)
def Kqx:Con:={args:=[aS],ress:=[(true,Kao)],owns:=[],pre:=fun _=>[],spec:=fun(k,_)=>(Zm k,())}
theorem Ka3:Ok Tryz.prog 110 Kqx:=okW K3q Tryz.f110 na fun xx=>by
 obtain⟨(k:ByteArray),_⟩:=xx
 refine(by kernel_rfl:(Br (Lb k Jt) ((ByteArray.mk (Array.mk [83]),2,true)=Zm k) (Br (Lb k Ua) ((ByteArray.mk (Array.mk [115]),2,true)=Zm k) (Br (Lb k Kk) ((ByteArray.mk (Array.mk [79,115,115]),4,true)=Zm k) (Br (Lb k K2) ((ByteArray.mk (Array.mk [111]),4,true)=Zm k) (Br (Lb k Vl) ((ByteArray.mk (Array.mk [111]),1,true)=Zm k) (Br (Lb k Ju) ((ByteArray.mk (Array.mk [88,115]),4,true)=Zm k) (Br (Lb k Jq) ((ByteArray.mk (Array.mk [120]),1,true)=Zm k) (Br (Lb k Kd) ((ByteArray.mk (Array.mk [80,120]),1,true)=Zm k) (Br (Lb k Kc) ((ByteArray.mk (Array.mk [112]),1,true)=Zm k) (Br (Lb k Jg) ((B0,2,true)=Zm k) (Br (Lb k Js) ((B0,0,true)=Zm k) ((B0,0,false)=Zm k))))))))))))=_).mp ?_
 delta Br B0 Lb K2 Kk Ju Kd Ua Jq Kc Jg Jt Vl Js
 unfold Zm
 repeat' first|(refine⟨fun h=> ?_,fun h=> ?_⟩)|(rw[h];clear h)
 all_goals rfl
abbrev K7l:=K3q.add Ka3
abbrev K3p:=K7l
abbrev Jdu:Sch:= .prod sI (.prod sI (.prod (.list 114 Xh) (.prod (.list 119 Yt) (.prod (.list 121 Xw) (.prod (.list 123 V5) (.list 125 Ys))))))
abbrev Xo:AK:= .val true Jdu
def Kq8:Con:={args:=[Xo,aS],ress:=[I],owns:=[],pre:=fun((_,_,L,_),_)=>[L.length≤1000000],spec:=fun((_,_,L,_),s,_)=>(J0 L s,())}
abbrev J5q (tk st:Int) (S:List Sta) (O:List Ord) (M:List Met) (X:List Out) (Q:List Per) (s:ByteArray):Ann:={X:=Nat,σ:=fun k=>⟨6,[(1, .one (.str s)),(2, .one (.ptr 5 0)),(5, .one (.int .i64 k))],[(0, .imm 114 Xh S),(1, .imm 119 Yt O),(2, .imm 121 Xw M),(3, .imm 123 V5 X),(4, .imm 125 Ys Q),(5, .box 37 [.int .i64 tk, .int .i64 st, .sl 0, .sl 1, .sl 2, .sl 3, .sl 4])]⟩,inv:=fun k=>k≤S.length∧J0 S s=Vk (fun x=>x.1.toList==s.toList) (S.drop k) k,mu:=fun k=>S.length-k}
def Kkd (a:Nat) (b:List Sta) (c:Bt):=a≤List.length b∧J0 b c=Vk (fun(x:Sta)=>Lb x.1 c) (List.drop a b) a
def Jxo (a:Bt) (b:Nat) (c:List Sta) (d:List Ord) (e:List Met) (f:List Out) (g:List Per) (h i:Int):=Sf a (0=Nc b∧Jpu c d e f g h i)
def Jxn (a:Bt) (b c:Nat) (d:List Sta) (e:List Ord) (f:List Met) (g:List Out) (h:List Per) (i j:Int):=Sf a (Z91 b c∧Jpu d e f g h i j)
theorem K5c:Ok Tryz.prog 21 Kq8:=okW K3p Tryz.f21 (fun xx=>X3 (J5q xx.1.1 xx.1.2.1 xx.1.2.2.1 xx.1.2.2.2.1 xx.1.2.2.2.2.1 xx.1.2.2.2.2.2.1 xx.1.2.2.2.2.2.2 xx.2.1)) fun xx=>by
 obtain⟨⟨(tk:Int),(st:Int),(S:List Sta),(O:List Ord),(M:List Met),(X:List Out),(Q:List Per)⟩,(s:ByteArray),_⟩:=xx
 refine(by kernel_rfl:(Z46 S→∃(x:Nat),Jxo s x S O M X Q tk st∧Kkd x S s∧∀(x:Nat),Kkd x S s→Br (decide (Nc x<Ln S)) (Tw (Bd (Nc x) (Ln S))∧Br (Lb (J2t S x) s) (Nc x=J0 S s) (Z14 x∧∃(y:Nat),Jxn s x y S O M X Q tk st∧Kkd y S s∧J2s S y x)) (Z67=J0 S s))=_).mp ?_
 delta Z12 Z14 Z46 Z67 Z91 J2t J2s Kkd Jpu Jxo Jxn Br Iw Bd Tw Sf Si Ln Nc B0 Lb
 intro hb
 refine⟨(0:Nat),by(repeat' first|exact rfl|exact⟨⟩|apply And.intro|omega|dsimp only;omega),⟨Nat.zero_le _,rfl⟩,fun(k:Nat) hk=>⟨fun h=> ?_,fun h=> ?_⟩⟩
 ·have hlt:k<S.length:=by simpa using h
  have hd:=V7 (p:=fun x=>x.1.toList==s.toList) (d:=Jr2) hlt
  refine⟨by omega,fun h1=> ?_,fun h1=>⟨by omega,(k+1:Nat),by(repeat' first|exact rfl|exact⟨⟩|apply And.intro|omega|dsimp only;omega),⟨by omega, ?_⟩,by omega⟩⟩
  ·rw[hk.2,hd,if_pos (show((S.getD k Jr2).1.toList==s.toList)=true from h1)]
  ·rw[hk.2,hd,if_neg (by rw[show((S.getD k Jr2).1.toList==s.toList)=false from h1];simp)]
 ·have hlt:¬k<S.length:=by simpa using h
  have:k=S.length:=by omega
  rw[hk.2,this,List.drop_length];rfl
abbrev K3o:=K3p.add K5c
def Kq7:Con:={args:=[Xo,aS],ress:=[I],owns:=[],pre:=fun((_,_,_,L,_),_)=>[L.length≤1000000],spec:=fun((_,_,_,L,_),s,_)=>(Ku L s,())}
abbrev J5p (tk st:Int) (S:List Sta) (O:List Ord) (M:List Met) (X:List Out) (Q:List Per) (s:ByteArray):Ann:={X:=Nat,σ:=fun k=>⟨6,[(1, .one (.str s)),(2, .one (.ptr 5 0)),(5, .one (.int .i64 k))],[(0, .imm 114 Xh S),(1, .imm 119 Yt O),(2, .imm 121 Xw M),(3, .imm 123 V5 X),(4, .imm 125 Ys Q),(5, .box 37 [.int .i64 tk, .int .i64 st, .sl 0, .sl 1, .sl 2, .sl 3, .sl 4])]⟩,inv:=fun k=>k≤O.length∧Ku O s=Vk (fun x=>x.1.toList==s.toList) (O.drop k) k,mu:=fun k=>O.length-k}
def Kj9 (a:Nat) (b:List Ord) (c:Bt):=a≤List.length b∧Ku b c=Vk (fun(x:Ord)=>Lb x.1 c) (List.drop a b) a
theorem K4e:Ok Tryz.prog 86 Kq7:=okW K3o Tryz.f86 (fun xx=>X3 (J5p xx.1.1 xx.1.2.1 xx.1.2.2.1 xx.1.2.2.2.1 xx.1.2.2.2.2.1 xx.1.2.2.2.2.2.1 xx.1.2.2.2.2.2.2 xx.2.1)) fun xx=>by
 obtain⟨⟨(tk:Int),(st:Int),(S:List Sta),(O:List Ord),(M:List Met),(X:List Out),(Q:List Per)⟩,(s:ByteArray),_⟩:=xx
 refine(by kernel_rfl:(Z57 O→∃(x:Nat),Jxo s x S O M X Q tk st∧Kj9 x O s∧∀(x:Nat),Kj9 x O s→Br (Z98 x O) (Tw (Bd (Nc x) (Ln O))∧Br (Lb (J0h O x) s) (Nc x=Ku O s) (Z14 x∧∃(y:Nat),Jxn s x y S O M X Q tk st∧Kj9 y O s∧List.length O-y<List.length O-x)) (Z67=Ku O s))=_).mp ?_
 delta Z14 Z57 Z66 Z67 Z91 Z98 Jdh J6a J0h Kj9 Jpu Jxo Jxn Br Iw Bd Tw Sf Si Ln Nc B0 Lb
 intro hb
 refine⟨(0:Nat),by(repeat' first|exact rfl|exact⟨⟩|apply And.intro|omega|dsimp only;omega),⟨Nat.zero_le _,rfl⟩,fun(k:Nat) hk=>⟨fun h=> ?_,fun h=> ?_⟩⟩
 ·have hlt:k<O.length:=by simpa using h
  have hd:=V7 (p:=fun x=>x.1.toList==s.toList) (d:=Kl) hlt
  refine⟨by omega,fun h1=> ?_,fun h1=>⟨by omega,(k+1:Nat),by(repeat' first|exact rfl|exact⟨⟩|apply And.intro|omega|dsimp only;omega),⟨by omega, ?_⟩,by omega⟩⟩
  ·rw[hk.2,hd,if_pos (show((O.getD k Kl).1.toList==s.toList)=true from h1)]
  ·rw[hk.2,hd,if_neg (by rw[show((O.getD k Kl).1.toList==s.toList)=false from h1];simp)]
 ·have hlt:¬k<O.length:=by simpa using h
  have:k=O.length:=by omega
  rw[hk.2,this,List.drop_length];rfl
abbrev K3n:=K3o.add K4e
def Kq6:Con:={args:=[Xo,aS],ress:=[I],owns:=[],pre:=fun((_,_,_,_,_,L,_),_)=>[L.length≤1000000],spec:=fun((_,_,_,_,_,L,_),s,_)=>(J5 L s,())}
abbrev J5o (tk st:Int) (S:List Sta) (O:List Ord) (M:List Met) (X:List Out) (Q:List Per) (s:ByteArray):Ann:={X:=Nat,σ:=fun k=>⟨6,[(1, .one (.str s)),(2, .one (.ptr 5 0)),(5, .one (.int .i64 k))],[(0, .imm 114 Xh S),(1, .imm 119 Yt O),(2, .imm 121 Xw M),(3, .imm 123 V5 X),(4, .imm 125 Ys Q),(5, .box 37 [.int .i64 tk, .int .i64 st, .sl 0, .sl 1, .sl 2, .sl 3, .sl 4])]⟩,inv:=fun k=>k≤X.length∧J5 X s=Vk (fun x=>x.1.toList==s.toList) (X.drop k) k,mu:=fun k=>X.length-k}
def Z78 (a:Nat) (b:List Out):=Tw (Bd (Nc a) (Ln b))
def Kkb (a:Nat) (b:List Out) (c:Bt):=a≤List.length b∧J5 b c=Vk (fun(x:Out)=>Lb x.1 c) (List.drop a b) a
theorem K4d:Ok Tryz.prog 87 Kq6:=okW K3n Tryz.f87 (fun xx=>X3 (J5o xx.1.1 xx.1.2.1 xx.1.2.2.1 xx.1.2.2.2.1 xx.1.2.2.2.2.1 xx.1.2.2.2.2.2.1 xx.1.2.2.2.2.2.2 xx.2.1)) fun xx=>by
 obtain⟨⟨(tk:Int),(st:Int),(S:List Sta),(O:List Ord),(M:List Met),(X:List Out),(Q:List Per)⟩,(s:ByteArray),_⟩:=xx
 refine(by kernel_rfl:(Z43 X→∃(x:Nat),Jxo s x S O M X Q tk st∧Kkb x X s∧∀(x:Nat),Kkb x X s→Br (Z92 x X) (Z78 x X∧Br (Lb (Jro X x) s) (Nc x=J5 X s) (Z14 x∧∃(y:Nat),Jxn s x y S O M X Q tk st∧Kkb y X s∧Jse X y x)) (Z67=J5 X s))=_).mp ?_
 delta Z14 Z43 Z67 Z78 Z91 Z92 Jcw Jse Jro Kkb Jpu Jxo Jxn Br Iw Bd Tw Sf Si Ln Nc B0 Lb
 intro hb
 refine⟨(0:Nat),by(repeat' first|exact rfl|exact⟨⟩|apply And.intro|omega|dsimp only;omega),⟨Nat.zero_le _,rfl⟩,fun(k:Nat) hk=>⟨fun h=> ?_,fun h=> ?_⟩⟩
 ·have hlt:k<X.length:=by simpa using h
  have hd:=V7 (p:=fun x=>x.1.toList==s.toList) (d:=Ja3) hlt
  refine⟨by omega,fun h1=> ?_,fun h1=>⟨by omega,(k+1:Nat),by(repeat' first|exact rfl|exact⟨⟩|apply And.intro|omega|dsimp only;omega),⟨by omega, ?_⟩,by omega⟩⟩
  ·rw[hk.2,hd,if_pos (show((X.getD k Ja3).1.toList==s.toList)=true from h1)]
  ·rw[hk.2,hd,if_neg (by rw[show((X.getD k Ja3).1.toList==s.toList)=false from h1];simp)]
 ·have hlt:¬k<X.length:=by simpa using h
  have:k=X.length:=by omega
  rw[hk.2,this,List.drop_length];rfl
abbrev K3m:=K3n.add K4d
def Kq5:Con:={args:=[Xo,aS],ress:=[I],owns:=[],pre:=fun((_,_,_,_,_,_,L),_)=>[L.length≤1000000],spec:=fun((_,_,_,_,_,_,L),s,_)=>(Uz L s,())}
abbrev J5n (tk st:Int) (S:List Sta) (O:List Ord) (M:List Met) (X:List Out) (Q:List Per) (s:ByteArray):Ann:={X:=Nat,σ:=fun k=>⟨6,[(1, .one (.str s)),(2, .one (.ptr 5 0)),(5, .one (.int .i64 k))],[(0, .imm 114 Xh S),(1, .imm 119 Yt O),(2, .imm 121 Xw M),(3, .imm 123 V5 X),(4, .imm 125 Ys Q),(5, .box 37 [.int .i64 tk, .int .i64 st, .sl 0, .sl 1, .sl 2, .sl 3, .sl 4])]⟩,inv:=fun k=>k≤Q.length∧Uz Q s=Vk (fun x=>x.1.toList==s.toList) (Q.drop k) k,mu:=fun k=>Q.length-k}
def Kj8 (a:Nat) (b:List Per) (c:Bt):=a≤List.length b∧Uz b c=Vk (fun(x:Per)=>Lb x.1 c) (List.drop a b) a
theorem K4c:Ok Tryz.prog 88 Kq5:=okW K3m Tryz.f88 (fun xx=>X3 (J5n xx.1.1 xx.1.2.1 xx.1.2.2.1 xx.1.2.2.2.1 xx.1.2.2.2.2.1 xx.1.2.2.2.2.2.1 xx.1.2.2.2.2.2.2 xx.2.1)) fun xx=>by
 obtain⟨⟨(tk:Int),(st:Int),(S:List Sta),(O:List Ord),(M:List Met),(X:List Out),(Q:List Per)⟩,(s:ByteArray),_⟩:=xx
 refine(by kernel_rfl:(Z44 Q→∃(x:Nat),Jxo s x S O M X Q tk st∧Kj8 x Q s∧∀(x:Nat),Kj8 x Q s→Br (Z99 x Q) (Z77 x Q∧Br (Lb (Jx0 Q x) s) (Nc x=Uz Q s) (Z14 x∧∃(y:Nat),Jxn s x y S O M X Q tk st∧Kj8 y Q s∧Jws Q y x)) (Z67=Uz Q s))=_).mp ?_
 delta Z14 Z44 Z67 Z77 Z91 Z99 Jx0 Jws Kj8 Jpu Jxo Jxn Br Iw Bd Tw Sf Si Ln Nc B0 Lb
 intro hb
 refine⟨(0:Nat),by(repeat' first|exact rfl|exact⟨⟩|apply And.intro|omega|dsimp only;omega),⟨Nat.zero_le _,rfl⟩,fun(k:Nat) hk=>⟨fun h=> ?_,fun h=> ?_⟩⟩
 ·have hlt:k<Q.length:=by simpa using h
  have hd:=V7 (p:=fun x=>x.1.toList==s.toList) (d:=Jig) hlt
  refine⟨by omega,fun h1=> ?_,fun h1=>⟨by omega,(k+1:Nat),by(repeat' first|exact rfl|exact⟨⟩|apply And.intro|omega|dsimp only;omega),⟨by omega, ?_⟩,by omega⟩⟩
  ·rw[hk.2,hd,if_pos (show((Q.getD k Jig).1.toList==s.toList)=true from h1)]
  ·rw[hk.2,hd,if_neg (by rw[show((Q.getD k Jig).1.toList==s.toList)=false from h1];simp)]
 ·have hlt:¬k<Q.length:=by simpa using h
  have:k=Q.length:=by omega
  rw[hk.2,this,List.drop_length];rfl
abbrev K3l:=K3m.add K4c
def atS (r:Reg) (c:Int) (s:ByteArray):Int:=bif c==115 then J0 r.2.2.1 s else bif c==111 then Ku r.2.2.2.1 s else bif c==120 then J5 r.2.2.2.2.2.1 s else Uz r.2.2.2.2.2.2 s
def cAt:Con:={args:=[Xo, .val false (.int .u8),aS],ress:=[I],owns:=[],pre:=fun(r,_)=>[Jj r],spec:=fun(r,c,s,_)=>(atS r c s,())}
theorem Kn1:Ok Tryz.prog 192 cAt:=okW K3l Tryz.f192 na fun xx=>by
 obtain⟨⟨(tk:Int),(st:Int),(S:List Sta),(O:List Ord),(M:List Met),(X:List Out),(Q:List Per)⟩,(c:Int),(s:ByteArray),_⟩:=xx
 refine(by kernel_rfl:(Jw tk st S O M X Q→Br (c==115) (Z46 S∧J0 S s=atS (Z60 tk st S O M X Q) c s) (Br (c==111) (Z57 O∧Ku O s=atS (Z60 tk st S O M X Q) c s) (Br (c==120) (Z43 X∧J5 X s=atS (Z60 tk st S O M X Q) c s) (Z44 Q∧Uz Q s=atS (Z60 tk st S O M X Q) c s))))=_).mp ?_
 delta Z43 Z44 Z46 Z57 Z60 Jw Br
 intro hr
 have nS:S.length≤6:=hr.nS
 have nO:O.length≤32:=hr.nO
 have nX:X.length≤16:=hr.nX
 have nQ:Q.length≤16:=hr.nQ
 unfold atS
 repeat' first|(refine⟨fun h=> ?_,fun h=> ?_⟩)|(rw[h];clear h)
 all_goals exact⟨by omega,rfl⟩
abbrev K3k:=K3l.add Kn1
theorem Kn8:Ok Tryz.prog 181 Jvh:=okW K3k Tryz.f181 na fun xx=>by
 obtain⟨⟨(a:Int),(b:Int)⟩,(h:Int),_⟩:=xx
 refine(by kernel_rfl:((bif decide (a≤h) then decide (h<b) else false)=Kn (a,b) h)=_).mp ?_
 rfl
abbrev K3j:=K3k.add Kn8
def Jrj:Con:={args:=[.val true Yt,aI],ress:=[Bo],owns:=[],pre:=fun(x,_)=>[-1≤x.2.2.2.2.2.2],spec:=fun(x,h,_)=>(J1 x h,())}
theorem Kpy:Ok Tryz.prog 103 Jrj:=okW K3j Tryz.f103 na fun xx=>by
 obtain⟨⟨(n:ByteArray),(f:ByteArray),(t:ByteArray),⟨(a:Int),(b:Int)⟩,(p:Int),(c:Int),(r:Int)⟩,(h:Int),_⟩:=xx
 refine(by kernel_rfl:(Z67≤r→(bif Kn (a,b) h then bif decide (r<0) then true else decide (h<r) else false)=J1 (n,f,t,(a,b),p,c,r) h)=_).mp ?_
 delta Z67
 intro hr
 unfold J1
 have:(r== -1)=decide (r<0):=by
  by_cases q:r= -1
  ·rw[q];rfl
  ·rw[beq_eq_false_iff_ne.2 q,decide_eq_false (by(first|omega|dsimp only;omega))]
 dsimp only
 rw[this]
abbrev K3i:=K3j.add Kpy
def K54:Con:={args:=[Xo,aS,aI],ress:=[I],owns:=[],pre:=fun(r,s,_)=>[Jj r,0≤J0 r.2.2.1 s],spec:=fun((_,_,S,_,_,X,_),s,h,_)=>(Jf8 X s h (Hg S s).2.1,())}
abbrev Kc2 (tk st:Int) (S:List Sta) (O:List Ord) (M:List Met) (X:List Out) (Q:List Per) (s:ByteArray) (h:Int):Ann:={X:=Nat×Int,σ:=fun(k,n)=>⟨6,[(1, .one (.str s)),(2, .one (.int .i64 h)),(3, .one (.ptr 5 0)),(7, .one (.int .i64 n)),(8, .one (.int .i64 k))],[(0, .imm 114 Xh S),(1, .imm 119 Yt O),(2, .imm 121 Xw M),(3, .imm 123 V5 X),(4, .imm 125 Ys Q),(5, .box 37 [.int .i64 tk, .int .i64 st, .sl 0, .sl 1, .sl 2, .sl 3, .sl 4])]⟩,inv:=fun(k,n)=>k≤X.length∧Jf8 (X.drop k) s h n=Jf8 X s h (Hg S s).2.1,mu:=fun(k,_)=>X.length-k}
def Kj0 (a:Nat×Int) (b:List Out) (c:Bt) (d:Int) (e:List Sta):=a.1≤List.length b∧Jf8 (List.drop a.1 b) c d a.2=Jf8 b c d (Hg e c).2.1
def Kwm (a:Nat×Int) (b:List Out) (c:Bt) (d:Int) (e:List Sta) (f:Nat×Int):=Kj0 a b c d e∧List.length b-a.1<List.length b-f.1
theorem Kp1:Ok Tryz.prog 100 K54:=okW K3i Tryz.f100 (fun xx=>X3 (Kc2 xx.1.1 xx.1.2.1 xx.1.2.2.1 xx.1.2.2.2.1 xx.1.2.2.2.2.1 xx.1.2.2.2.2.2.1 xx.1.2.2.2.2.2.2 xx.2.1 xx.2.2.1)) fun xx=>by
 obtain⟨⟨(tk:Int),(st:Int),(S:List Sta),(O:List Ord),(M:List Met),(X:List Out),(Q:List Per)⟩,(s:ByteArray),(h:Int),_⟩:=xx
 refine(by kernel_rfl:(Jw tk st S O M X Q→Z15 S s→(Z46 S∧Tw (Bd (J0 S s) (Ln S)))∧∃(x:Nat×Int),Sf s (Si h ((Kfz S s).2.1=x.2∧Jxq x S O M X Q tk st))∧Kj0 x X s h S∧∀(x:Nat×Int),Kj0 x X s h S→Br (decide (Nc x.1<Ln X)) (Tw (Bd (Nc x.1) (Ln X))∧Br (bif bif Lb (J9q X x).1 s then Kn (Kkw X x) h else false then decide (J9m X x<x.2) else false) (Z32 x∧∃(y:Nat×Int),Sf s (Si h (J9m X x=y.2∧Jpt x y S O M X Q tk st))∧Kwm y X s h S x) (Z32 x∧∃(y:Nat×Int),Sf s (Si h (x.2=y.2∧Jpt x y S O M X Q tk st))∧Kwm y X s h S x)) (x.2=Jf8 X s h (Hg S s).2.1))=_).mp ?_
 delta Z12 Z15 Z32 Z46 Z60 Jrs Jw Jcw Kfz J9q J9m Kkw Kj0 Jpu Jxq Kwm Jpt Br Iw Bd Tw Sf Si Ln Nc Gt B0 Lb E2
 intro hr hf
 have nS:S.length≤6:=hr.nS
 have nX:X.length≤16:=hr.nX
 have hl:=K1 (l:=S) (s:=s)
 refine⟨⟨by omega,⟨hf,hl⟩,hf,hl⟩,((0:Nat),(Hg S s).2.1),by(repeat' first|exact rfl|exact⟨⟩|apply And.intro|omega|dsimp only;omega),⟨Nat.zero_le _,rfl⟩,fun(x:Nat×Int) hk=>⟨fun h1=> ?_,fun h1=> ?_⟩⟩
 ·obtain⟨k,n⟩:=x
  have hlt:k<X.length:=by simpa using h1
  obtain⟨k1,k2⟩:=hk
  rw[Jp (d:=Ja3) hlt,Jf8] at k2
  have hz:((({data:={toList:=[]}}:ByteArray),({data:={toList:=[]}}:ByteArray),((0:Int),(0:Int)),(0:Int)):Out)=Ja3:=rfl
  dsimp only at k1 k2
  simp only[hz,Prod.eta]
  generalize X.getD k Ja3=y at*
  have hc:(bif bif bif y.2.1.toList==s.toList then Kn y.2.2.1 h else false then decide (y.2.2.2<n) else false then y.2.2.2 else n)=bif Jyw y s h then min n y.2.2.2 else n:=by
   unfold Jyw
   cases bif y.2.1.toList==s.toList then Kn y.2.2.1 h else false
   ·rfl
   ·by_cases q:y.2.2.2<n
    ·simp only[cond_true,decide_eq_true q];omega
    ·simp only[cond_true,decide_eq_false q,cond_false];omega
  refine⟨⟨⟨by omega,by omega⟩,by omega,by omega⟩,fun h2=>⟨⟨by omega,by omega⟩,(k+1,y.2.2.2),by(repeat' first|exact rfl|exact⟨⟩|apply And.intro|omega|dsimp only;omega),⟨by(first|omega|dsimp only;omega), ?_⟩,by(first|omega|dsimp only;omega)⟩,fun h2=>⟨⟨by omega,by omega⟩,(k+1,n),by(repeat' first|exact rfl|exact⟨⟩|apply And.intro|omega|dsimp only;omega),⟨by(first|omega|dsimp only;omega), ?_⟩,by(first|omega|dsimp only;omega)⟩⟩
  all_goals (rw[←hc] at k2;have h2:(bif bif y.2.1.toList==s.toList then Kn y.2.2.1 h else false then decide (y.2.2.2<n) else false)=_:=h2;rw[h2] at k2;exact k2)
 ·obtain⟨k,n⟩:=x
  have hlt:¬k<X.length:=by simpa using h1
  obtain⟨k1,k2⟩:=hk
  have:k=X.length:=by omega
  rw[this,List.drop_length,Jf8] at k2
  exact k2
abbrev K3h:=K3i.add Kp1
def Jzt:Con:={args:=[Xo,aS,aI],ress:=[I],owns:=[],pre:=fun(r,_)=>[Jj r],spec:=fun((_,_,_,O,_),s,h,_)=>(U9 O s h,())}
abbrev Jrm (tk st:Int) (S:List Sta) (O:List Ord) (M:List Met) (X:List Out) (Q:List Per) (s:ByteArray) (h:Int):Ann:={X:=Nat×Int,σ:=fun(k,n)=>⟨6,[(1, .one (.str s)),(2, .one (.int .i64 h)),(3, .one (.ptr 5 0)),(7, .one (.int .i64 n)),(8, .one (.int .i64 k))],[(0, .imm 114 Xh S),(1, .imm 119 Yt O),(2, .imm 121 Xw M),(3, .imm 123 V5 X),(4, .imm 125 Ys Q),(5, .box 37 [.int .i64 tk, .int .i64 st, .sl 0, .sl 1, .sl 2, .sl 3, .sl 4])]⟩,inv:=fun(k,n)=>k≤O.length∧(0≤n∧n≤1000*k)∧n+U9 (O.drop k) s h=U9 O s h,mu:=fun(k,_)=>O.length-k}
def Kij (a:Nat×Int) (b:List Ord) (c:Bt) (d:Int):=a.1≤List.length b∧(0≤a.2∧a.2≤1000*Nc a.1)∧a.2+U9 (List.drop a.1 b) c d=U9 b c d
def Kvb (a:Nat×Int) (b:List Ord) (c:Bt) (d:Int) (e:Nat×Int):=Kij a b c d∧List.length b-a.1<List.length b-e.1
def Kut (a:List Ord) (b:Nat×Int) (c:Bt):=bif Kjz a b c then true else Kjx a b c
theorem Kp0:Ok Tryz.prog 101 Jzt:=okW K3h Tryz.f101 (fun xx=>X3 (Jrm xx.1.1 xx.1.2.1 xx.1.2.2.1 xx.1.2.2.2.1 xx.1.2.2.2.2.1 xx.1.2.2.2.2.2.1 xx.1.2.2.2.2.2.2 xx.2.1 xx.2.2.1)) fun xx=>by
 obtain⟨⟨(tk:Int),(st:Int),(S:List Sta),(O:List Ord),(M:List Met),(X:List Out),(Q:List Per)⟩,(s:ByteArray),(h:Int),_⟩:=xx
 refine(by kernel_rfl:(Jw tk st S O M X Q→∃(x:Nat×Int),Sf s (Si h (0=x.2∧Jxq x S O M X Q tk st))∧Kij x O s h∧∀(x:Nat×Int),Kij x O s h→Br (decide (Nc x.1<Ln O)) (Tw (Bd (Nc x.1) (Ln O))∧(Kut O x s=true→Z67≤(Kff O x).2)∧Br (bif Kut O x s then Kgs O x h else false) (Kjh x O∧Z32 x∧∃(y:Nat×Int),Sf s (Si h (Kjf x O y∧Jpt x y S O M X Q tk st))∧Kvb y O s h x) (Z32 x∧∃(y:Nat×Int),Sf s (Si h (x.2=y.2∧Jpt x y S O M X Q tk st))∧Kvb y O s h x)) (x.2=U9 O s h))=_).mp ?_
 delta Z32 Z60 Z66 Z67 Jrs Jw Jdh Kfn Kfm Kfl Kfk Kfi Kfh Kfg Kff Kfe Kjz Kjx Kjp Kjh Kjf Jpu Jxq Kij Jpt Kvb Kut J5u Kgs Br Iw Bd Tw Sf Si Ln Nc B0 Lb E2
 intro hr
 have nO:O.length≤32:=hr.nO
 refine⟨((0:Nat),(0:Int)),by(repeat' first|exact rfl|exact⟨⟩|apply And.intro|omega|dsimp only;omega),⟨Nat.zero_le _,by omega,by simp⟩,fun(x:Nat×Int) hk=>⟨fun h1=> ?_,fun h1=> ?_⟩⟩
 ·obtain⟨k,n⟩:=x
  have hlt:k<O.length:=by simpa using h1
  obtain⟨k1,k2,k3⟩:=hk
  have hO:=hr.ord _ (Jd (d:=Kl) hlt)
  rw[Jp (d:=Kl) hlt,U9] at k3
  have hz:((({data:={toList:=[]}}:ByteArray),({data:={toList:=[]}}:ByteArray),({data:={toList:=[]}}:ByteArray),((0:Int),(0:Int)),(0:Int),(0:Int),(0:Int)):Ord)=Kl:=rfl
  dsimp only at k1 k2 k3
  simp only[hz,Prod.eta]
  generalize O.getD k Kl=y at*
  have hp:=hO.pow
  have ht:=hO.trip
  refine⟨⟨⟨by omega,by omega⟩,by omega,by omega⟩,fun _=>by omega,fun h2=>⟨⟨by omega,by omega⟩,⟨by omega,by omega⟩,(k+1,n+y.2.2.2.2.1),by(repeat' first|exact rfl|exact⟨⟩|apply And.intro|omega|dsimp only;omega),⟨by(first|omega|dsimp only;omega),by(first|omega|dsimp only;omega), ?_⟩,by(first|omega|dsimp only;omega)⟩,fun h2=>⟨⟨by omega,by omega⟩,(k+1,n),by(repeat' first|exact rfl|exact⟨⟩|apply And.intro|omega|dsimp only;omega),⟨by(first|omega|dsimp only;omega),by(first|omega|dsimp only;omega), ?_⟩,by(first|omega|dsimp only;omega)⟩⟩
  all_goals (have h2:(bif Fl y s then J1 y h else false)=_:=h2;rw[h2] at k3;simp only[cond_true,cond_false] at k3;(first|omega|dsimp only;omega))
 ·obtain⟨k,n⟩:=x
  have hlt:¬k<O.length:=by simpa using h1
  obtain⟨k1,k2,k3⟩:=hk
  have:k=O.length:=by omega
  rw[this,List.drop_length,U9] at k3
  exact(Int.add_zero n).symm.trans k3
abbrev K3g:=K3h.add Kp0
def J4h:Con:={args:=[Xo,aS,aI],ress:=[I],owns:=[],pre:=fun(r,s,_)=>[Jj r,0≤J0 r.2.2.1 s],spec:=fun((_,_,S,O,_,X,_),s,h,_)=>(Xl S O X s h,())}
theorem Jve {S:List Sta} {s:ByteArray} {h:Int}:∀{X:List Out} {n:Int},(∀x∈X,Jn1 S x)→0≤n∧n≤1000→0≤Jf8 X s h n∧Jf8 X s h n≤1000
 |[],_,_,hn=>hn
 |x::l,n,hX,hn=>by
  have hx:=(hX x (List.mem_cons_self ..)).rest
  unfold Jf8
  refine Jve (fun y hy=>hX y (List.mem_cons_of_mem _ hy)) ?_
  cases Jyw x s h<;>simp only[cond_true,cond_false]<;>omega
theorem K49:Ok Tryz.prog 28 J4h:=okW K3g Tryz.f28 na fun xx=>by
 obtain⟨⟨(tk:Int),(st:Int),(S:List Sta),(O:List Ord),(M:List Met),(X:List Out),(Q:List Per)⟩,(s:ByteArray),(h:Int),_⟩:=xx
 refine(by kernel_rfl:(Jw tk st S O M X Q→Z15 S s→(Jw tk st S O M X Q∧Z15 S s∧Jw tk st S O M X Q∧Iw (Jf8 X s h (Hg S s).2.1-U9 O s h))∧Jf8 X s h (Hg S s).2.1-U9 O s h=Xl S O X s h)=_).mp ?_
 delta Z15 Z60 Jw Iw
 intro hr hf
 have h1:=Jh2 hr.sta hf
 have h2:=Jve (s:=s) (h:=h) hr.out (n:=(Hg S s).2.1) ⟨Int.le_trans (by decide) h1.lim.1,h1.lim.2⟩
 have h3:=Jir (s:=s) (h:=h) hr.ord
 have nO:O.length≤32:=hr.nO
 dsimp only at h2 h3
 exact⟨⟨hr,hf,hr,by omega,by omega⟩,rfl⟩
abbrev K3f:=K3g.add K49
def Lx (M:List Met) (s:ByteArray) (h:Int):Met×Bool:=if 0≤K7 M s h then(Jeh M s h,true) else(Jlx,false)
def Kqs:Con:={args:=[Xo,aS,aI],ress:=[(true,Xw),Bo],owns:=[],pre:=fun(r,_)=>[Jj r],spec:=fun((_,_,_,_,M,_),s,h,_)=>((Lx M s h).1,(Lx M s h).2,())}
abbrev J5j (tk st:Int) (S:List Sta) (O:List Ord) (M:List Met) (X:List Out) (Q:List Per) (s:ByteArray) (h:Int):Ann:={X:=Nat,σ:=fun k=>⟨7,[(1, .one (.str s)),(2, .one (.int .i64 h)),(3, .one (.ptr 5 0)),(6, .one (.ptr 6 0)),(8, .one (.int .i64 k))],[(0, .imm 114 Xh S),(1, .imm 119 Yt O),(2, .imm 121 Xw M),(3, .imm 123 V5 X),(4, .imm 125 Ys Q),(5, .box 37 [.int .i64 tk, .int .i64 st, .sl 0, .sl 1, .sl 2, .sl 3, .sl 4]),(6, .box 121 [.str Jb, .int .i64 0, .int .i64 0, .int .i64 0])]⟩,inv:=fun k=>k≤M.length∧K7 M s h=Vk (fun x=>bif x.1.toList==s.toList then x.2.1==h else false) (M.drop k) k,mu:=fun k=>M.length-k}
def Kiz (a:Nat) (b:List Met) (c:Bt) (d:Int):=a≤List.length b∧K7 b c d=Vk (fun(x:Met)=>bif Lb x.1 c then x.2.1==d else false) (List.drop a b) a
theorem Kpz:Ok Tryz.prog 102 Kqs:=okW K3f Tryz.f102 (fun xx=>X3 (J5j xx.1.1 xx.1.2.1 xx.1.2.2.1 xx.1.2.2.2.1 xx.1.2.2.2.2.1 xx.1.2.2.2.2.2.1 xx.1.2.2.2.2.2.2 xx.2.1 xx.2.2.1)) fun xx=>by
 obtain⟨⟨(tk:Int),(st:Int),(S:List Sta),(O:List Ord),(M:List Met),(X:List Out),(Q:List Per)⟩,(s:ByteArray),(h:Int),_⟩:=xx
 refine(by kernel_rfl:(Jw tk st S O M X Q→∃(x:Nat),Sf s (Si h (0=Nc x∧Sf S (Sf O (Sf M (Sf X (Sf Q (Si tk (Si st (B0=Jb∧Si 0 Z29)))))))))∧Kiz x M s h∧∀(x:Nat),Kiz x M s h→Br (decide (Nc x<Ln M)) (Tw (Bd (Nc x) (Ln M))∧Br (bif Lb (J2l M x) s then J2j M x==h else false) (J8t M x=(Lx M s h).1∧true=(Lx M s h).2) (Z14 x∧∃(y:Nat),Sf s (Si h (Z91 x y∧Sf S (Sf O (Sf M (Sf X (Sf Q (Si tk (Si st (Sf Jb (Si 0 Z29))))))))))∧Kiz y M s h∧J2r M y x)) (Jsh=(Lx M s h).1∧false=(Lx M s h).2))=_).mp ?_
 delta Z14 Z29 Z60 Z66 Z91 Jsh Jw J2r J6p J2l J0p J2j Kiz J8t Br Iw Bd Tw Sf Si Ln Nc B0 Lb E2
 intro hr
 have nM:M.length≤10000:=hr.nM
 refine⟨(0:Nat),by(repeat' first|exact rfl|exact⟨⟩|apply And.intro|omega|dsimp only;omega),⟨Nat.zero_le _,rfl⟩,fun(k:Nat) hk=>⟨fun h1=> ?_,fun h1=> ?_⟩⟩
 ·have hlt:k<M.length:=by simpa using h1
  obtain⟨k1,k2⟩:=hk
  have hd:=V7 (p:=fun x=>bif x.1.toList==s.toList then x.2.1==h else false) (d:=Jlx) hlt
  have hz:((({data:={toList:=[]}}:ByteArray),(0:Int),(0:Int),(0:Int)):Met)=Jlx:=rfl
  simp only[hz,Prod.eta]
  refine⟨⟨⟨by omega,by omega⟩,by omega,by omega⟩,fun h2=> ?_,fun h2=>⟨⟨by omega,by omega⟩,(k+1:Nat),by(repeat' first|exact rfl|exact⟨⟩|apply And.intro|omega|dsimp only;omega),⟨by omega, ?_⟩,by omega⟩⟩
  ·have h2:(bif (M.getD k Jlx).1.toList==s.toList then(M.getD k Jlx).2.1==h else false)=true:=h2
   have e:K7 M s h=k:=by rw[k2,hd,if_pos h2]
   have e2:Lx M s h=(M.getD k Jlx,true):=by
    unfold Lx
    rw[if_pos (by omega)]
    unfold Jeh
    rw[e];rfl
   rw[e2]
   repeat' first|exact rfl|exact⟨⟩|apply And.intro|omega|dsimp only;omega
  ·have h2:(bif (M.getD k Jlx).1.toList==s.toList then(M.getD k Jlx).2.1==h else false)=false:=h2
   rw[k2,hd,if_neg (by rw[h2];simp)]
 ·have hlt:¬k<M.length:=by simpa using h1
  obtain⟨k1,k2⟩:=hk
  have:k=M.length:=by omega
  rw[this,List.drop_length,Vk] at k2
  have e2:Lx M s h=(Jlx,false):=by
   unfold Lx
   rw[if_neg (by omega)]
  rw[e2]
  repeat' first|exact rfl|exact⟨⟩|apply And.intro|omega|dsimp only;omega
abbrev K7k:=K3f.add Kpz
abbrev K3e:=K7k
def J4l:Con:={args:=[Xo,aI],ress:=[(false, .list 198 J3f)],owns:=[true],pre:=fun(r,_)=>[Jj r],spec:=fun((_,_,_,O,M,_),u,_)=>(Km M u O,())}
abbrev Jwb (tk st:Int) (S:List Sta) (O:List Ord) (M:List Met) (X:List Out) (Q:List Per) (u:Int):Nat→Option Ann:=fun id=>if id=0 then some {X:=Nat×List Gap,σ:=fun(k,o)=>⟨7,[(1, .one (.int .i64 u)),(2, .one (.ptr 5 0)),(5, .one (.sl 6)),(6, .one (.int .i64 k))],[(0, .imm 114 Xh S),(1, .imm 119 Yt O),(2, .imm 121 Xw M),(3, .imm 123 V5 X),(4, .imm 125 Ys Q),(5, .box 37 [.int .i64 tk, .int .i64 st, .sl 0, .sl 1, .sl 2, .sl 3, .sl 4]),(6, .own 198 J3f o)]⟩,inv:=fun(k,o)=>k≤O.length∧o.length≤48*k∧o++Km M u (O.drop k)=Km M u O,mu:=fun(k,_)=>O.length-k}
 else if id=2 then some {X:=Nat×List Gap×Nat,σ:=fun(k,o,j)=>⟨8,[(1, .one (.int .i64 u)),(2, .one (.ptr 5 0)),(5, .one (.sl 6)),(6, .one (.int .i64 k)),(7, .one (.ptr 7 0)),(8, .one (.int .i64 ((O.getD k Kl).2.2.2.1.1+j)))],[(0, .imm 114 Xh S),(1, .imm 119 Yt O),(2, .imm 121 Xw M),(3, .imm 123 V5 X),(4, .imm 125 Ys Q),(5, .box 37 [.int .i64 tk, .int .i64 st, .sl 0, .sl 1, .sl 2, .sl 3, .sl 4]),(6, .own 198 J3f o),(7, .box 119 (bxO (O.getD k Kl)))]⟩,inv:=fun(k,o,j)=>k<O.length∧j≤Uk (O.getD k Kl)∧o.length≤48*k+j∧o++(Lw M u (O.getD k Kl) ((O.getD k Kl).2.2.2.1.1+j) (Uk (O.getD k Kl)-j)++Km M u (O.drop (k+1)))=Km M u O,mu:=fun(k,_,j)=>Uk (O.getD k Kl)-j,rel:=some fun x y=>y.1=x.1}
 else none
theorem Kp5 {M:List Met} {s:ByteArray} {h:Int}:(!(Lx M s h).2)=decide (K7 M s h<0):=by
 unfold Lx
 by_cases q:0≤K7 M s h
 ·rw[if_pos q,decide_eq_false (by omega)];rfl
 ·rw[if_neg q,decide_eq_true (by omega)];rfl
def Ksy (a:Nat×List (Bt×Int)×Nat) (b:List Ord) (c:List Met) (d:Int) (e:Nat×List (Bt×Int)×Nat) (f:Nat×List Gap×Nat):=(Kdr a b c d∧a.1=e.1)∧Uk (List.getD b a.1 Kl)-a.2.2<Uk (List.getD b f.1 Kl)-f.2.2
def Ksk (a:List Ord) (b:Nat×List Gap×Nat) (c:Nat×List (Bt×Int)×Nat):=J6o a b c∧J6m a b c∧J6l a b c∧J6h a b c∧J6j a b c∧J6g a b c∧J6c a b c∧J6d a b c
theorem K48:Ok Tryz.prog 29 J4l:=okW K3e Tryz.f29 (fun xx=>Jwb xx.1.1 xx.1.2.1 xx.1.2.2.1 xx.1.2.2.2.1 xx.1.2.2.2.2.1 xx.1.2.2.2.2.2.1 xx.1.2.2.2.2.2.2 xx.2.1) fun xx=>by
 obtain⟨⟨(tk:Int),(st:Int),(S:List Sta),(O:List Ord),(M:List Met),(X:List Out),(Q:List Per)⟩,(u:Int),_⟩:=xx
 refine(by kernel_rfl:(Jw tk st S O M X Q→∃(x:Nat×List (ByteArray×Int)),Si u (0=Nc x.1∧Sf S (Sf O (Sf M (Sf X (Sf Q (Si tk (Si st (List.length x.2=0))))))))∧Ke0 x O M u∧∀(x:Nat×List Gap),Kix x O M u→Br (decide (Nc x.1<Ln O)) (Tw (Bd (Nc x.1) (Ln O))∧∃(x0:Nat×List (ByteArray×Int)×Nat),Si u (Nc x.1=Nc x0.1∧Kid O x x0∧Sf S (Sf O (Sf M (Sf X (Sf Q (Si tk (Si st (x.2=x0.2.1∧Kfc O x x0∧Ke8 O x x0∧Ke1 O x x0∧Kex O x x0∧Kew O x x0∧Key O x x0∧Keu O x x0∧Kes O x x0))))))))∧(Kdr x0 O M u∧x0.1=x0.1)∧∀(x_1:Nat×List Gap×Nat),Kg1 x_1 O M u∧x_1.1=x0.1→Br (Kke O x_1) (Jw tk st S O M X Q∧(J9p O x_1 u=true→Z67≤(Z72 O x_1).2.2)∧Br (bif bif J9p O x_1 u then Kg6 O x_1 else false then !(Lx M (Z3 O x_1).1 (Jxx O x_1)).2 else false) (Kk4 x_1∧J9j O x_1∧∃(y:Nat×List (ByteArray×Int)×Nat),Si u (Nc x_1.1=Nc y.1∧J85 O x_1 y∧Sf S (Sf O (Sf M (Sf X (Sf Q (Si tk (Si st (Ki9 x_1 O y∧Ksk O x_1 y))))))))∧Ksy y O M u x0 x_1) (J9j O x_1∧∃(y:Nat×List (ByteArray×Int)×Nat),Si u (Nc x_1.1=Nc y.1∧J85 O x_1 y∧Sf S (Sf O (Sf M (Sf X (Sf Q (Si tk (Si st (x_1.2.1=y.2.1∧Ksk O x_1 y))))))))∧Ksy y O M u x0 x_1)) (Iw (Nc x_1.1+1)∧∃(y:Nat×List (ByteArray×Int)),Si u (Nc x_1.1+1=Nc y.1∧Sf S (Sf O (Sf M (Sf X (Sf Q (Si tk (Si st (x_1.2.1=y.2))))))))∧Kd3 y O M u x)) (x.2=Km M u O))=_).mp ?_
 delta Z1 Z3 Z60 Z66 Z67 Z69 Z72 Z73 Z76 Jw Jxx J6o J6m J9p J6l J9j Jdh J6j J6h J6g J6d J6c Kk4 Kkn Kki Kkg Kkf Kke Kkc Kka Kj5 Kj2 J85 Kje Kfc Ke8 Ki9 Ke1 Kix Ke0 Key Kex Kew Keu Kes Kid Kd3 Kg6 Kdr Kg1 Ksy Ksk Br Iw Bd Tw Sf Si Ln Nc B0 E2
 intro hr
 have nO:O.length≤32:=hr.nO
 have hz:((({data:={toList:=[]}}:ByteArray),({data:={toList:=[]}}:ByteArray),({data:={toList:=[]}}:ByteArray),((0:Int),(0:Int)),(0:Int),(0:Int),(0:Int)):Ord)=Kl:=rfl
 refine⟨((0:Nat),[]),by(repeat' first|exact rfl|exact⟨⟩|apply And.intro|omega|dsimp only;omega),⟨Nat.zero_le _,Nat.zero_le _,rfl⟩,fun(x:Nat×List Gap) hk=>⟨fun h1=> ?_,fun h1=> ?_⟩⟩
 ·obtain⟨k,o⟩:=x
  have hlt:k<O.length:=by simpa using h1
  obtain⟨k1,k2,k3⟩:=hk
  dsimp only at k1 k2 k3
  rw[Jp (d:=Kl) hlt,Km,Jt7] at k3
  simp only[hz,Prod.eta]
  have hO:Jcz S (O.getD k Kl):=hr.ord _ (Jd (d:=Kl) hlt)
  have b0:=hO.span.lo
  have b1:=hO.span.mid
  have b2:=hO.span.hi
  have b3:=hO.span.len
  have bt:=hO.trip
  have hn:Uk (O.getD k Kl)≤48∧(Uk (O.getD k Kl):Int)=(O.getD k Kl).2.2.2.1.2-(O.getD k Kl).2.2.2.1.1:=by
   unfold Uk
   constructor<;>omega
  refine⟨⟨⟨by omega,by omega⟩,by omega,by omega⟩,(k,o,(0:Nat)),by(repeat' first|exact rfl|exact⟨⟩|apply And.intro|omega|dsimp only;omega),⟨⟨hlt,Nat.zero_le _,by(first|omega|dsimp only;omega), ?_⟩,by(repeat' first|exact rfl|exact⟨⟩|apply And.intro|omega|dsimp only;omega)⟩,fun(y:Nat×List Gap×Nat) hy=> ?_⟩
  ·dsimp only
   simpa[Uk] using k3
  obtain⟨k',o,j⟩:=y
  obtain⟨⟨i1,i2,i3,i4⟩,hkk⟩:=hy
  have hkk:k'=k:=hkk
  subst hkk
  dsimp only at i1 i2 i3 i4
  refine⟨fun h2=> ?_,fun h2=> ?_⟩
  ·have h2:(O.getD k' Kl).2.2.2.1.1+(j:Int)<(O.getD k' Kl).2.2.2.1.2:=of_decide_eq_true h2
   have hj:Uk (O.getD k' Kl)-j=(Uk (O.getD k' Kl)-(j+1))+1:=by omega
   rw[hj,Lw] at i4
   have hc:(O.getD k' Kl).2.2.2.1.1+(j:Int)+1=(O.getD k' Kl).2.2.2.1.1+((j+1:Nat):Int):=by omega
   rw[hc] at i4
   have hcnd:(bif bif decide ((O.getD k' Kl).2.2.2.1.1+(j:Int)<u) then J1 (O.getD k' Kl) ((O.getD k' Kl).2.2.2.1.1+(j:Int)) else false then !(Lx M (O.getD k' Kl).1 ((O.getD k' Kl).2.2.2.1.1+(j:Int))).2 else false)=(J1 (O.getD k' Kl) ((O.getD k' Kl).2.2.2.1.1+(j:Int))&&(decide ((O.getD k' Kl).2.2.2.1.1+(j:Int)<u)&&decide (K7 M (O.getD k' Kl).1 ((O.getD k' Kl).2.2.2.1.1+(j:Int))<0))):=by
    rw[Kp5]
    cases decide ((O.getD k' Kl).2.2.2.1.1+(j:Int)<u)<;>cases J1 (O.getD k' Kl) ((O.getD k' Kl).2.2.2.1.1+(j:Int))<;>rfl
   refine⟨hr,fun _=>bt.1,fun h3=>⟨by(first|omega|dsimp only;omega),⟨by(first|omega|dsimp only;omega),by(first|omega|dsimp only;omega)⟩,(k',o++[((O.getD k' Kl).1,(O.getD k' Kl).2.2.2.1.1+(j:Int))],j+1),by(repeat' first|exact rfl|exact⟨⟩|apply And.intro|omega|dsimp only;omega),⟨⟨hlt,by(first|omega|dsimp only;omega),by(simp only[List.length_append,List.length_singleton];omega), ?_⟩,by(repeat' first|exact rfl|exact⟨⟩|apply And.intro|omega|dsimp only;omega)⟩,by(first|omega|dsimp only;omega)⟩,fun h3=>⟨⟨by(first|omega|dsimp only;omega),by(first|omega|dsimp only;omega)⟩,(k',o,j+1),by(repeat' first|exact rfl|exact⟨⟩|apply And.intro|omega|dsimp only;omega),⟨⟨hlt,by(first|omega|dsimp only;omega),by(first|omega|dsimp only;omega), ?_⟩,by(repeat' first|exact rfl|exact⟨⟩|apply And.intro|omega|dsimp only;omega)⟩,by(first|omega|dsimp only;omega)⟩⟩
   all_goals (have h3:(bif bif decide ((O.getD k' Kl).2.2.2.1.1+(j:Int)<u) then J1 (O.getD k' Kl) ((O.getD k' Kl).2.2.2.1.1+(j:Int)) else false then !(Lx M (O.getD k' Kl).1 ((O.getD k' Kl).2.2.2.1.1+(j:Int))).2 else false)=_:=h3;rw[hcnd] at h3;rw[h3] at i4;simpa using i4)
  ·have h2:¬(O.getD k' Kl).2.2.2.1.1+(j:Int)<(O.getD k' Kl).2.2.2.1.2:=of_decide_eq_false h2
   have hj:Uk (O.getD k' Kl)-j=0:=by omega
   rw[hj,Lw] at i4
   exact⟨⟨by(first|omega|dsimp only;omega),by(first|omega|dsimp only;omega)⟩,(k'+1,o),by(repeat' first|exact rfl|exact⟨⟩|apply And.intro|omega|dsimp only;omega),⟨by(first|omega|dsimp only;omega),by(first|omega|dsimp only;omega),by simpa using i4⟩,by(first|omega|dsimp only;omega)⟩
 ·obtain⟨k,o⟩:=x
  have hlt:¬k<O.length:=by simpa using h1
  obtain⟨k1,k2,k3⟩:=hk
  dsimp only at k1 k2 k3
  have:k=O.length:=by omega
  rw[this,List.drop_length,Km,List.append_nil] at k3
  exact k3
abbrev K7j:=K3e.add K48
abbrev K7i:=K7j
abbrev K7h:=K7i
abbrev K7g:=K7h
def Jvw:Jp9:=(Jb,0,0,0,0,0)
abbrev K7f:=K7g
abbrev K7e:=K7f
abbrev K7d:=K7e
abbrev sH3:Sch:= .prod sI (.prod sI sI)
abbrev H3:=Int×Int×Int
def Ka9 (M:List Met) (h:Int) (x:Ord) (a:H3):H3:=bif J1 x h then(a.1+(Jeh M x.1 h).2.2.1,a.2.1+(Jeh M x.1 h).2.2.2,a.2.2+((Jeh M x.1 h).2.2.2*x.2.2.2.2.2.1-3*(x.2.2.2.2.1-(Jeh M x.1 h).2.2.2))) else a
def Jm6 (M:List Met) (h:Int):List Ord→H3→H3
 |[],a=>a
 |x::l,a=>Jm6 M h l (Ka9 M h x a)
abbrev K7c:=K7d
def Jsz:List Jp9→Int×Int→Int×Int
 |[],a=>a
 |b::l,(s,g)=>Jsz l (s+b.2.2.1,g+b.2.2.2.1)
def Ka5 (st:Int) (O:List Ord) (M:List Met):(Int×Int)×Int:=if(Jsz (O.map (Un st M)) (0,0)).1=0 then((0,0),6) else(J1u ((Jsz (O.map (Un st M)) (0,0)).1-(Jsz (O.map (Un st M)) (0,0)).2) (Jsz (O.map (Un st M)) (0,0)).1,0)
abbrev K3d:=K7c
def Jf1 (l:List Ev) (h:Int):Int:=Je [opE l [],Kb h 0 999999999,bif decide ((Jx l).2.1≤h) then 22 else 0]
def Jk4 (l:List Ev) (h:Int):H3:=if Jf1 l h=0 then Jm6 (Jx l).2.2.2.2.1 h (Jx l).2.2.2.1 (0,0,0) else(0,0,0)
def J4p:Con:={args:=[.val false (.list 67 sEv),aI],ress:=[(true,sH3),I],owns:=[],pre:=fun(l,_)=>[lOk l],spec:=fun(l,h,_)=>(Jk4 l h,Jf1 l h,())}
abbrev imR (r:Reg) (i:Nat):List (Nat×Res):=[(i, .imm 127 Xh r.2.2.1),(i+1, .imm 130 Yt r.2.2.2.1),(i+2, .imm 155 Xw r.2.2.2.2.1),(i+3, .imm 188 V5 r.2.2.2.2.2.1),(i+4, .imm 235 Ys r.2.2.2.2.2.2)]
abbrev bxR (r:Reg) (i:Nat):Res:= .box 105 [.int .i64 r.1, .int .i64 r.2.1, .sl i, .sl (i+1), .sl (i+2), .sl (i+3), .sl (i+4)]
abbrev J5l (l:List Ev) (h:Int):Ann:={X:=Nat×H3,σ:=fun(k,a,b,c)=>⟨9,[(1, .one (.int .i64 h)),(4, .one (.ptr 1 0)),(6, .one (.ptr 7 0)),(9, .one (.ptr 8 0)),(33, .one (.sl 3)),(34, .one (.int .i64 (Jx l).2.2.2.1.length)),(35, .one (.int .i64 k))],(1, .box 25 [.int .i64 0, .int .i64 0, .int .i64 0])::(7,bxR (Jx l) 2)::(8, .box 25 [.int .i64 a, .int .i64 b, .int .i64 c])::imR (Jx l) 2⟩,inv:=fun(k,a,b,c)=>Jf1 l h=0∧k≤(Jx l).2.2.2.1.length∧(0≤a∧a≤1000*k)∧(0≤b∧b≤1000*k)∧(-2000000*k≤c∧c≤2000000*k)∧Jm6 (Jx l).2.2.2.2.1 h ((Jx l).2.2.2.1.drop k) (a,b,c)=Jk4 l h,mu:=fun(k,_)=>(Jx l).2.2.2.1.length-k}
theorem J39 {a b c:Int} (h:Je [a,b,c]=0):a=0∧b=0∧c=0:=by
 have h:=Uu.1 h
 exact⟨h a (by simp),h b (by simp),h c (by simp)⟩
def Z22 (a:List Ev):=Ln (Jx a).2.2.2.1
def Kf8 (a:List Ev):=(Jx a).2.2.2.1=(Jx a).2.2.2.1
def Kf4 (a:List Ev):=(Jx a).2.2.2.2.1=(Jx a).2.2.2.2.1
def Kf3 (a:List Ev):=(Jx a).2.2.2.2.2.1=(Jx a).2.2.2.2.2.1
def Kf2 (a:List Ev):=(Jx a).2.2.2.2.2.2=(Jx a).2.2.2.2.2.2
def Kzs (a:List Ev) (b:Nat×H3):=List.getD (Jx a).2.2.2.1 b.1 Jdh
def Kzp (a:List Ev) (b:Nat×H3):=(Kzs a b).1
def Kzn (a:List Ev) (b:Nat×H3):=(Kzs a b).2
def Kzl (a:List Ev) (b:Nat×H3):=(Kzn a b).2
def Kzk (a:List Ev) (b:Nat×H3):=(Kzl a b).2
def Kzg (a:List Ev) (b:Nat×H3):=(Kzk a b).2
def Kze (a:List Ev) (b:Nat×H3):=(Kzg a b).1
def Kzd (a:List Ev) (b:Nat×H3):=(Kzg a b).2
def Kw0 (a:List Ev) (b:Nat×H3) (c:Int):=K7 (Jx a).2.2.2.2.1 (Kzp a b) c
def Kww (a:List Ev) (b:Int):=Je [opE a [],Z68 b,bif decide ((Jx a).2.1≤b) then 22 else 0]
def Ku6 (a:List Ev) (b:Nat×H3) (c:Int):=(Gt (Jx a).2.2.2.2.1 (Kw0 a b c) Jsh).2.2
def Khn (a:List Ev) (b:Nat×H3) (c:Int):=(Ku6 a b c).2
def Ku3 (a:Nat×H3) (b:List Ev) (c:Int):=a.2.1+(Ku6 b a c).1
def Kuv (a:Nat×H3) (b:List Ev) (c:Int):=a.2.2.1+Khn b a c
def Khi (a:List Ev):=(Jx a).2.2.1=(Jx a).2.2.1∧Kf8 a∧Kf4 a∧Kf3 a∧Kf2 a
def Kt1 (a:List Ev) (b:Nat×H3) (c:Int):=Kze a b-Khn a b c
def Kt0 (a:List Ev) (b:Nat×H3) (c:Int):=Khn a b c*(Kzd a b).1
def Ktt (a:List Ev) (b:Nat×H3) (c:Int):=3*Kt1 a b c
def Kto (a:List Ev) (b:Int) (c:Nat) (d e f:Int):=Jf1 a b=0∧c≤List.length (Jx a).2.2.2.1∧J94 d c∧J94 e c∧((-2000000)*Nc c≤f∧f≤2000000*Nc c)∧Jm6 (Jx a).2.2.2.2.1 b (List.drop c (Jx a).2.2.2.1) (d,e,f)=Jk4 a b
def Ks8 (a:Nat×Int×Int×Int) (b:List Ev) (c:Int):=match a with|(k,a,b_1,c_1)=>Kto b c k a b_1 c_1
def Ksp (a:Nat×Int×Int×Int) (b:List Ev) (c:Int) (d:Nat×H3):=Ks8 a b c∧List.length (Jx b).2.2.2.1-a.1<List.length (Jx b).2.2.2.1-d.1
def Ksc (a:List Ev) (b:Nat×H3) (c:Int):=Kt0 a b c-Ktt a b c
def Ksb (a:Nat×H3) (b:List Ev) (c:Int):=a.2.2.2+Ksc b a c
theorem K5g:Ok Tryz.prog 15 J4p:=okW K3d Tryz.f15 (fun xx=>X3 (J5l xx.1 xx.2.1)) fun xx=>by
 obtain⟨(l:List Ev),(h:Int),_⟩:=xx
 refine(by kernel_rfl:(lOk l→(lOk l∧0≤1000000)∧3≤1000000∧Br (Kww l h !=0) (Z66=Jk4 l h∧Kww l h=Jf1 l h) (∃(x:Nat×Int×Int×Int),Si h (Z22 l=Z22 l∧0=Nc x.1∧Si 0 (Si 0 (Si 0 ((Jx l).1=(Jx l).1∧(Jx l).2.1=(Jx l).2.1∧0=x.2.1∧0=x.2.2.1∧0=x.2.2.2∧Khi l))))∧Ks8 x l h∧∀(x:Nat×H3),(match x with|(k,a,b,c)=>Kto l h k a b c)→Br (decide (Nc x.1<Z22 l)) (Tw (Bd (Nc x.1) (Z22 l))∧Br (J1 (Kzp l x,(Kzn l x).1,(Kzl l x).1,E2 (Kzk l x).1,Kze l x,E2 (Kzd l x)) h) ((J2c l∧Tw (Bd (Kw0 l x h) (Ln (Jx l).2.2.2.2.1)))∧Iw (Ku3 x l h)∧Iw (Kuv x l h)∧(Iw (Kt0 l x h)∧Iw (Kt1 l x h)∧Iw (Ktt l x h)∧Iw (Ksc l x h)∧Iw (Ksb x l h))∧Iw (Nc x.1+1)∧∃(y:Nat×Int×Int×Int),Si h (Si (Z22 l) (Nc x.1+1=Nc y.1∧Si 0 (Si 0 (Si 0 (Si (Jx l).1 (Si (Jx l).2.1 (Ku3 x l h=y.2.1∧Kuv x l h=y.2.2.1∧Ksb x l h=y.2.2.2∧Khi l)))))))∧Ksp y l h x) (Iw (Nc x.1+1)∧∃(y:Nat×Int×Int×Int),Si h (Si (Z22 l) (Nc x.1+1=Nc y.1∧Si 0 (Si 0 (Si 0 (Si (Jx l).1 (Si (Jx l).2.1 (x.2.1=y.2.1∧x.2.2.1=y.2.2.1∧x.2.2.2=y.2.2.2∧Khi l)))))))∧Ksp y l h x)) ((x.2.1,E2 x.2.2)=Jk4 l h∧0=Jf1 l h)))=_).mp ?_
 delta Z22 Z66 Z68 Jsh Kf8 Kf4 Kf3 Kf2 J94 Jdh Kzs Kzp Kzn Kzl Kzk Kzg Kze Kzd Jxr Kw0 Kww J2c Ku6 Khn Ku3 Kuv Khi Kt1 Kt0 Ktt Kto Ks8 Ksp Ksc Ksb Br Iw Bd Tw Si Ln Nc Gt B0 E2
 intro hl
 refine⟨⟨hl,by decide⟩,by decide,fun e=> ?_,fun e=> ?_⟩
 ·have e:Jf1 l h≠0:=bne_iff_ne.1 e
  exact⟨by unfold Jk4;rw[if_neg e],rfl⟩
 ·have e0:Jf1 l h=0:=bne_eq_false_iff_eq.1 e
  clear e
  have hr:=Jbe (l:=l)
  have nO:=hr.nO
  have hst:h<(Jx l).2.1:=by
   have:=(J39 e0).2.2
   by_cases q:(Jx l).2.1≤h
   ·rw[decide_eq_true q] at this;cases this
   ·omega
  refine⟨((0:Nat),0,0,0),by(repeat' first|exact rfl|exact⟨⟩|apply And.intro|omega|dsimp only;omega),⟨e0,Nat.zero_le _,by omega,by omega,by omega,by unfold Jk4;rw[if_pos e0];rfl⟩,fun(x:Nat×H3) hk=>⟨fun h1=> ?_,fun h1=> ?_⟩⟩
  ·obtain⟨k,a,b,c⟩:=x
   have hlt:k<(Jx l).2.2.2.1.length:=by simpa using h1
   obtain⟨_,k1,k2,k3,k4,k5⟩:=hk
   generalize Jx l=r at*
   obtain⟨tk,st,S,O,M,X,Q⟩:=r
   have hlt:k<O.length:=hlt
   have hst:h<st:=hst
   have nO:O.length≤32:=nO
   have hx:=Jd (d:=Kl) hlt
   have k5:Jm6 M h (O.drop k) (a,b,c)=Jk4 l h:=k5
   rw[Jp (d:=Kl) hlt,Jm6] at k5
   have hz:((({data:={toList:=[]}}:ByteArray),({data:={toList:=[]}}:ByteArray),({data:={toList:=[]}}:ByteArray),((0:Int),(0:Int)),(0:Int),(0:Int),(0:Int)):Ord)=Kl:=rfl
   have hzm:((({data:={toList:=[]}}:ByteArray),(0:Int),(0:Int),(0:Int)):Met)=Jlx:=rfl
   simp only[hz,hzm,Prod.eta]
   have hO:Jcz S (O.getD k Kl):=hr.ord _ hx
   have hd:∀h,J1 (O.getD k Kl) h=true→h<st→0≤K7 M (O.getD k Kl).1 h:=hr.done _ hx
   generalize O.getD k Kl=y at*
   unfold Ka9 at k5
   have bp:=hO.pow
   have bc:=hO.pri
   have em:M.getD (K7 M y.1 h).toNat Jlx=Jeh M y.1 h:=rfl
   simp only[em]
   refine⟨by(repeat' first|apply And.intro|omega),fun hq=> ?_,fun hq=> ?_⟩
   ·rw[hq,cond_true] at k5
    have hm:=hd _ hq hst
    have hl:=Jeg (l:=M) (s:=y.1) (h:=h)
    have hM:Jxd (Jeh M y.1 h):=hr.met _ (Jd (show _<M.length by omega))
    have m1:=hM.sent
    have m2:=hM.got
    have q1:0≤(Jeh M y.1 h).2.2.2*y.2.2.2.2.2.1:=Int.mul_nonneg m2.1 bc.1
    have q2:(Jeh M y.1 h).2.2.2*y.2.2.2.2.2.1≤1000*1000:=Int.mul_le_mul (by omega) bc.2 bc.1 (by decide)
    exact⟨⟨hr,by(repeat' first|apply And.intro|omega),by(repeat' first|apply And.intro|omega)⟩,by(repeat' first|apply And.intro|omega),by(repeat' first|apply And.intro|omega),by(repeat' first|apply And.intro|omega),by(repeat' first|apply And.intro|omega),(k+1,a+(Jeh M y.1 h).2.2.1,b+(Jeh M y.1 h).2.2.2,c+((Jeh M y.1 h).2.2.2*y.2.2.2.2.2.1-3*(y.2.2.2.2.1-(Jeh M y.1 h).2.2.2))),by(repeat' first|exact rfl|exact⟨⟩|apply And.intro|omega|dsimp only;omega),⟨e0,by(first|omega|dsimp only;omega),by(first|omega|dsimp only;omega),by(first|omega|dsimp only;omega),by(first|omega|dsimp only;omega),k5⟩,by(first|omega|dsimp only;omega)⟩
   ·rw[hq,cond_false] at k5
    exact⟨by(repeat' first|apply And.intro|omega),(k+1,a,b,c),by(repeat' first|exact rfl|exact⟨⟩|apply And.intro|omega|dsimp only;omega),⟨e0,by(first|omega|dsimp only;omega),by(first|omega|dsimp only;omega),by(first|omega|dsimp only;omega),by(first|omega|dsimp only;omega),k5⟩,by(first|omega|dsimp only;omega)⟩
  ·obtain⟨k,a,b,c⟩:=x
   have hlt:¬k<(Jx l).2.2.2.1.length:=by simpa using h1
   obtain⟨_,k1,k2,k3,k4,k5⟩:=hk
   have:k=(Jx l).2.2.2.1.length:=by omega
   rw[this,List.drop_length,Jm6] at k5
   exact⟨k5,e0.symm⟩
abbrev K3c:=K3d.add K5g
def cAb (pre:Reg→Ev→List Prop) (f:Reg→Ev→ByteArray→Bool):Con:={args:=[Ja1,aEv,aS],ress:=[Bo],owns:=[],pre:=fun(r,e,_)=>pre r e,spec:=fun(r,e,s,_)=>(f r e s,())}
def Kcs:Con:=cAb (fun _ _=>[]) (fun _ _ _=>true)
theorem Ko0:Ok Tryz.prog 150 Kcs:=okW K3c Tryz.f150 na fun xx=>by
 obtain⟨⟨(tk:Int),(st:Int),(S:List Sta),(O:List Ord),(M:List Met),(X:List Out),(Q:List Per)⟩,⟨(n:Int),(k:ByteArray),(ns:List ByteArray),(vs:List Int),(tx:ByteArray)⟩,(s:ByteArray),_⟩:=xx
 refine(by kernel_rfl:(true=true)=_).mp ?_
 rfl
abbrev K3b:=K3c.add Ko0
def abO (O:List Ord) (ns:List ByteArray) (s:ByteArray):Bool:=Fl (Xz O (ns.getD 0 Jb)) s
def K6a:Con:={args:=[Ja1,aEv,aS],ress:=[Bo],owns:=[],pre:=fun(r,e,_)=>[Jj r,1≤e.2.2.1.length,0≤Ku r.2.2.2.1 (e.2.2.1.getD 0 Jb)],spec:=fun((tk,st,S,O,M,X,Q),(n,k,ns,vs,tx),s,_)=>(abO O ns s,())}
theorem Kou:Ok Tryz.prog 156 K6a:=okW K3b Tryz.f156 na fun xx=>by
 obtain⟨⟨(tk:Int),(st:Int),(S:List Sta),(O:List Ord),(M:List Met),(X:List Out),(Q:List Per)⟩,⟨(n:Int),(k:ByteArray),(ns:List ByteArray),(vs:List Int),(tx:ByteArray)⟩,(s:ByteArray),_⟩:=xx
 refine(by kernel_rfl:(Jw tk st S O M X Q→Y2 ns→Jsd O ns→Ki8 ns O∧Fl (Kg3 O ns) s=abO O ns s)=_).mp ?_
 delta Z57 Z60 Z95 U0 Lq Y2 Jw J6u Jp3 J93 J90 J6q Jsd Ki8 Kg3 Bd T2 Ln B0 E2
 intro hr h1 h2
 have nO:O.length≤32:=hr.nO
 repeat' first|assumption|exact rfl|trivial|omega|exact K1|exact Ux|exact Uq|exact Uw|apply And.intro|intro _
abbrev K3a:=K3b.add Kou
def abX (X:List Out) (ns:List ByteArray) (s:ByteArray):Bool:=(Lu X (ns.getD 0 Jb)).2.1.toList==s.toList
def K58:Con:={args:=[Ja1,aEv,aS],ress:=[Bo],owns:=[],pre:=fun(r,e,_)=>[Jj r,1≤e.2.2.1.length,0≤J5 r.2.2.2.2.2.1 (e.2.2.1.getD 0 Jb)],spec:=fun((tk,st,S,O,M,X,Q),(n,k,ns,vs,tx),s,_)=>(abX X ns s,())}
theorem Kon:Ok Tryz.prog 163 K58:=okW K3a Tryz.f163 na fun xx=>by
 obtain⟨⟨(tk:Int),(st:Int),(S:List Sta),(O:List Ord),(M:List Met),(X:List Out),(Q:List Per)⟩,⟨(n:Int),(k:ByteArray),(ns:List ByteArray),(vs:List Int),(tx:ByteArray)⟩,(s:ByteArray),_⟩:=xx
 refine(by kernel_rfl:(Jw tk st S O M X Q→Y2 ns→J0o X ns→Ki7 ns X∧Lb (Kaa X ns).2.1 s=abX X ns s)=_).mp ?_
 delta Z43 Z60 Z95 U0 Lq Y2 Jw Kaa Jsg J0o Ki7 Bd T2 Ln B0 Lb
 intro hr h1 h2
 have nX:X.length≤16:=hr.nX
 repeat' first|assumption|exact rfl|trivial|omega|exact K1|exact Ux|exact Uq|exact Uw|apply And.intro|intro _
abbrev K29:=K3a.add Kon
def abP (X:List Out) (Q:List Per) (ns:List ByteArray) (s:ByteArray):Bool:=(Lu X (Jlw Q (ns.getD 0 Jb)).2.1).2.1.toList==s.toList
def K59:Con:={args:=[Ja1,aEv,aS],ress:=[Bo],owns:=[],pre:=fun(r,e,_)=>[Jj r,1≤e.2.2.1.length,0≤Uz r.2.2.2.2.2.2 (e.2.2.1.getD 0 Jb)],spec:=fun((tk,st,S,O,M,X,Q),(n,k,ns,vs,tx),s,_)=>(abP X Q ns s,())}
theorem Jyt {Q:List Per} {s:ByteArray} (h:0≤Uz Q s):Jlw Q s∈Q:=by
 have:=Uw (l:=Q) (s:=s)
 exact Jd (by omega)
theorem Koi:Ok Tryz.prog 168 K59:=okW K29 Tryz.f168 na fun xx=>by
 obtain⟨⟨(tk:Int),(st:Int),(S:List Sta),(O:List Ord),(M:List Met),(X:List Out),(Q:List Per)⟩,⟨(n:Int),(k:ByteArray),(ns:List ByteArray),(vs:List Int),(tx:ByteArray)⟩,(s:ByteArray),_⟩:=xx
 refine(by kernel_rfl:(Jw tk st S O M X Q→Y2 ns→J0n Q ns→T2 (Z95 ns) (Z44 Q∧0≤Jrr Q ns∧Z43 X∧0≤J5 X (Jlw Q (U0 ns)).2.1)∧Lb (Lu X (Jlw Q (U0 ns)).2.1).2.1 s=abP X Q ns s)=_).mp ?_
 delta Z43 Z44 Z60 Z95 U0 Lq Y2 Jw Jrr J0n Bd T2 Ln B0 Lb
 intro hr h1 h2
 have nX:X.length≤16:=hr.nX
 have nQ:Q.length≤16:=hr.nQ
 have h3:0≤J5 X (Jlw Q (ns.getD 0 Jb)).2.1:=hr.per _ (Jyt h2)
 repeat' first|assumption|exact rfl|trivial|omega|exact K1|exact Ux|exact Uq|exact Uw|apply And.intro|intro _
abbrev Jp7:=K29.add Koi
def abS (r:Reg) (e:Ev) (s:ByteArray):Bool:=match(Ji e.2.1).2.2.2.2 with
 |some 150=>true
 |some 156=>abO r.2.2.2.1 e.2.2.1 s
 |some 163=>abX r.2.2.2.2.2.1 e.2.2.1 s
 |some 168=>abP r.2.2.2.2.2.1 r.2.2.2.2.2.2 e.2.2.1 s
 |_=>false
structure Jgd (r:Reg) (e:Ev):Prop where
 kind:Yu e.2.1=true
 ord:(Ji e.2.1).2.2.2.2=some 156→1≤e.2.2.1.length∧0≤Ku r.2.2.2.1 (e.2.2.1.getD 0 Jb)
 out:(Ji e.2.1).2.2.2.2=some 163→1≤e.2.2.1.length∧0≤J5 r.2.2.2.2.2.1 (e.2.2.1.getD 0 Jb)
 per:(Ji e.2.1).2.2.2.2=some 168→1≤e.2.2.1.length∧0≤Uz r.2.2.2.2.2.2 (e.2.2.1.getD 0 Jb)
def Xe:Con:={args:=[aEv, .ref 105 Jfw, .ref 9 .str],ress:=[Bo],owns:=[],pre:=fun(e,r,_)=>[Jj r,Jgd r e],spec:=fun(e,r,s,_)=>(abS r e s,())}
def Z39:=false=true→False
theorem Jsp (n:Int) (ns:List ByteArray) (vs:List Int) (tx:ByteArray) (tk st:Int) (S:List Sta) (O:List Ord) (M:List Met) (X:List Out) (Q:List Per) (s:ByteArray):wpF Tryz.prog Jp7.g (na ()) Tryz.f79 Xe ((n,Js,ns,vs,tx),(tk,st,S,O,M,X,Q),s,()):=by
 refine(by kernel_rfl:(Jw tk st S O M X Q→Jgd (Z60 tk st S O M X Q) (Z5 n ns vs tx)→Z39∧false=abS (Z60 tk st S O M X Q) (Z5 n ns vs tx) s)=_).mp ?_
 delta Z5 Z39 Z60 Jw Js
 intro hr ha
 have e:abS (tk,st,S,O,M,X,Q) (n,Js,ns,vs,tx) s=false:=by unfold abS;rw[show(Ji Js).2.2.2.2=_ from congrArg (fun x=>x.2.2.2.2) Jbl];all_goals rfl
 rw[e]
 repeat' first|exact hr|exact h.1|exact h.2|exact rfl|apply And.intro|intro _
 all_goals first|trivial|assumption|contradiction
theorem Jjp (n:Int) (ns:List ByteArray) (vs:List Int) (tx:ByteArray) (tk st:Int) (S:List Sta) (O:List Ord) (M:List Met) (X:List Out) (Q:List Per) (s:ByteArray):wpF Tryz.prog Jp7.g (na ()) Tryz.f79 Xe ((n,Jt,ns,vs,tx),(tk,st,S,O,M,X,Q),s,()):=by
 refine(by kernel_rfl:(Jw tk st S O M X Q→Jgd (Z60 tk st S O M X Q) (Z28 n ns vs tx)→true=abS (Z60 tk st S O M X Q) (Z28 n ns vs tx) s)=_).mp ?_
 delta Z28 Z60 Jw Jt
 intro hr ha
 have e:abS (tk,st,S,O,M,X,Q) (n,Jt,ns,vs,tx) s=true:=by unfold abS;rw[show(Ji Jt).2.2.2.2=_ from congrArg (fun x=>x.2.2.2.2) Ky];all_goals rfl
 rw[e]
 repeat' first|exact hr|exact h.1|exact h.2|exact rfl|apply And.intro|intro _
 all_goals first|trivial|assumption|contradiction
theorem Jqa (n:Int) (ns:List ByteArray) (vs:List Int) (tx:ByteArray) (tk st:Int) (S:List Sta) (O:List Ord) (M:List Met) (X:List Out) (Q:List Per) (s:ByteArray):wpF Tryz.prog Jp7.g (na ()) Tryz.f79 Xe ((n,Ua,ns,vs,tx),(tk,st,S,O,M,X,Q),s,()):=by
 refine(by kernel_rfl:(Jw tk st S O M X Q→Jgd (Z60 tk st S O M X Q) (Z9 n ns vs tx)→true=abS (Z60 tk st S O M X Q) (Z9 n ns vs tx) s)=_).mp ?_
 delta Z9 Z60 Jw Ua
 intro hr ha
 have e:abS (tk,st,S,O,M,X,Q) (n,Ua,ns,vs,tx) s=true:=by unfold abS;rw[show(Ji Ua).2.2.2.2=_ from congrArg (fun x=>x.2.2.2.2) U6];all_goals rfl
 rw[e]
 repeat' first|exact hr|exact h.1|exact h.2|exact rfl|apply And.intro|intro _
 all_goals first|trivial|assumption|contradiction
def Jxu (a:Ls):=true=true→Y2 a
def J8q (a b:Int) (c:List Sta) (d:List Ord) (e:List Met) (f:List Out) (g:List Per) (h:Ls):=(true=true→Jw a b c d e f g)∧Jxu h∧(true=true→Jsd d h)
theorem Jqb (n:Int) (ns:List ByteArray) (vs:List Int) (tx:ByteArray) (tk st:Int) (S:List Sta) (O:List Ord) (M:List Met) (X:List Out) (Q:List Per) (s:ByteArray):wpF Tryz.prog Jp7.g (na ()) Tryz.f79 Xe ((n,Kk,ns,vs,tx),(tk,st,S,O,M,X,Q),s,()):=by
 refine(by kernel_rfl:(Jw tk st S O M X Q→Jgd (Z60 tk st S O M X Q) (Z10 n ns vs tx)→J8q tk st S O M X Q ns∧(bif true then abO O ns s else false)=abS (Z60 tk st S O M X Q) (Z10 n ns vs tx) s)=_).mp ?_
 delta Z10 Z60 Lq Y2 Jw Jxu Jsd J8q Kk
 intro hr ha
 have e:abS (tk,st,S,O,M,X,Q) (n,Kk,ns,vs,tx) s=abO O ns s:=by unfold abS;rw[show(Ji Kk).2.2.2.2=_ from congrArg (fun x=>x.2.2.2.2) Uo];all_goals rfl
 have h:=ha.ord (congrArg (fun x=>x.2.2.2.2) Uo)
 rw[e]
 repeat' first|exact hr|exact h.1|exact h.2|exact rfl|apply And.intro|intro _
 all_goals first|trivial|assumption|contradiction
theorem Jqc (n:Int) (ns:List ByteArray) (vs:List Int) (tx:ByteArray) (tk st:Int) (S:List Sta) (O:List Ord) (M:List Met) (X:List Out) (Q:List Per) (s:ByteArray):wpF Tryz.prog Jp7.g (na ()) Tryz.f79 Xe ((n,K2,ns,vs,tx),(tk,st,S,O,M,X,Q),s,()):=by
 refine(by kernel_rfl:(Jw tk st S O M X Q→Jgd (Z60 tk st S O M X Q) (Z8 n ns vs tx)→J8q tk st S O M X Q ns∧(bif true then abO O ns s else false)=abS (Z60 tk st S O M X Q) (Z8 n ns vs tx) s)=_).mp ?_
 delta Z8 Z60 Lq Y2 Jw Jxu Jsd J8q K2
 intro hr ha
 have e:abS (tk,st,S,O,M,X,Q) (n,K2,ns,vs,tx) s=abO O ns s:=by unfold abS;rw[show(Ji K2).2.2.2.2=_ from congrArg (fun x=>x.2.2.2.2) Up];all_goals rfl
 have h:=ha.ord (congrArg (fun x=>x.2.2.2.2) Up)
 rw[e]
 repeat' first|exact hr|exact h.1|exact h.2|exact rfl|apply And.intro|intro _
 all_goals first|trivial|assumption|contradiction
theorem Jsq (n:Int) (ns:List ByteArray) (vs:List Int) (tx:ByteArray) (tk st:Int) (S:List Sta) (O:List Ord) (M:List Met) (X:List Out) (Q:List Per) (s:ByteArray):wpF Tryz.prog Jp7.g (na ()) Tryz.f79 Xe ((n,Vl,ns,vs,tx),(tk,st,S,O,M,X,Q),s,()):=by
 refine(by kernel_rfl:(Jw tk st S O M X Q→Jgd (Z60 tk st S O M X Q) (Z6 n ns vs tx)→J8q tk st S O M X Q ns∧(bif true then abO O ns s else false)=abS (Z60 tk st S O M X Q) (Z6 n ns vs tx) s)=_).mp ?_
 delta Z6 Z60 Lq Y2 Jw Jxu Jsd J8q Vl
 intro hr ha
 have e:abS (tk,st,S,O,M,X,Q) (n,Vl,ns,vs,tx) s=abO O ns s:=by unfold abS;rw[show(Ji Vl).2.2.2.2=_ from congrArg (fun x=>x.2.2.2.2) Vf];all_goals rfl
 have h:=ha.ord (congrArg (fun x=>x.2.2.2.2) Vf)
 rw[e]
 repeat' first|exact hr|exact h.1|exact h.2|exact rfl|apply And.intro|intro _
 all_goals first|trivial|assumption|contradiction
def Khp (a b:Int) (c:List Sta) (d:List Ord) (e:List Met) (f:List Out) (g:List Per) (h:Ls):=(true=true→Jw a b c d e f g)∧Jxu h∧(true=true→J0o f h)
theorem Jl5 (n:Int) (ns:List ByteArray) (vs:List Int) (tx:ByteArray) (tk st:Int) (S:List Sta) (O:List Ord) (M:List Met) (X:List Out) (Q:List Per) (s:ByteArray):wpF Tryz.prog Jp7.g (na ()) Tryz.f79 Xe ((n,Ju,ns,vs,tx),(tk,st,S,O,M,X,Q),s,()):=by
 refine(by kernel_rfl:(Jw tk st S O M X Q→Jgd (Z60 tk st S O M X Q) (Z19 n ns vs tx)→Khp tk st S O M X Q ns∧(bif true then abX X ns s else false)=abS (Z60 tk st S O M X Q) (Z19 n ns vs tx) s)=_).mp ?_
 delta Z19 Z60 Lq Y2 Jw Jxu J0o Khp Ju
 intro hr ha
 have e:abS (tk,st,S,O,M,X,Q) (n,Ju,ns,vs,tx) s=abX X ns s:=by unfold abS;rw[show(Ji Ju).2.2.2.2=_ from congrArg (fun x=>x.2.2.2.2) Kq];all_goals rfl
 have h:=ha.out (congrArg (fun x=>x.2.2.2.2) Kq)
 rw[e]
 repeat' first|exact hr|exact h.1|exact h.2|exact rfl|apply And.intro|intro _
 all_goals first|trivial|assumption|contradiction
theorem Jjq (n:Int) (ns:List ByteArray) (vs:List Int) (tx:ByteArray) (tk st:Int) (S:List Sta) (O:List Ord) (M:List Met) (X:List Out) (Q:List Per) (s:ByteArray):wpF Tryz.prog Jp7.g (na ()) Tryz.f79 Xe ((n,Jq,ns,vs,tx),(tk,st,S,O,M,X,Q),s,()):=by
 refine(by kernel_rfl:(Jw tk st S O M X Q→Jgd (Z60 tk st S O M X Q) (Z21 n ns vs tx)→Khp tk st S O M X Q ns∧(bif true then abX X ns s else false)=abS (Z60 tk st S O M X Q) (Z21 n ns vs tx) s)=_).mp ?_
 delta Z21 Z60 Lq Y2 Jw Jxu J0o Khp Jq
 intro hr ha
 have e:abS (tk,st,S,O,M,X,Q) (n,Jq,ns,vs,tx) s=abX X ns s:=by unfold abS;rw[show(Ji Jq).2.2.2.2=_ from congrArg (fun x=>x.2.2.2.2) Ke];all_goals rfl
 have h:=ha.out (congrArg (fun x=>x.2.2.2.2) Ke)
 rw[e]
 repeat' first|exact hr|exact h.1|exact h.2|exact rfl|apply And.intro|intro _
 all_goals first|trivial|assumption|contradiction
def Khq (a b:Int) (c:List Sta) (d:List Ord) (e:List Met) (f:List Out) (g:List Per) (h:Ls):=(true=true→Jw a b c d e f g)∧Jxu h∧(true=true→J0n g h)
theorem Jl4 (n:Int) (ns:List ByteArray) (vs:List Int) (tx:ByteArray) (tk st:Int) (S:List Sta) (O:List Ord) (M:List Met) (X:List Out) (Q:List Per) (s:ByteArray):wpF Tryz.prog Jp7.g (na ()) Tryz.f79 Xe ((n,Kd,ns,vs,tx),(tk,st,S,O,M,X,Q),s,()):=by
 refine(by kernel_rfl:(Jw tk st S O M X Q→Jgd (Z60 tk st S O M X Q) (Z16 n ns vs tx)→Khq tk st S O M X Q ns∧(bif true then abP X Q ns s else false)=abS (Z60 tk st S O M X Q) (Z16 n ns vs tx) s)=_).mp ?_
 delta Z16 Z60 Lq Y2 Jw Jxu J0n Khq Kd
 intro hr ha
 have e:abS (tk,st,S,O,M,X,Q) (n,Kd,ns,vs,tx) s=abP X Q ns s:=by unfold abS;rw[show(Ji Kd).2.2.2.2=_ from congrArg (fun x=>x.2.2.2.2) Kt];all_goals rfl
 have h:=ha.per (congrArg (fun x=>x.2.2.2.2) Kt)
 rw[e]
 repeat' first|exact hr|exact h.1|exact h.2|exact rfl|apply And.intro|intro _
 all_goals first|trivial|assumption|contradiction
theorem Jl3 (n:Int) (ns:List ByteArray) (vs:List Int) (tx:ByteArray) (tk st:Int) (S:List Sta) (O:List Ord) (M:List Met) (X:List Out) (Q:List Per) (s:ByteArray):wpF Tryz.prog Jp7.g (na ()) Tryz.f79 Xe ((n,Kc,ns,vs,tx),(tk,st,S,O,M,X,Q),s,()):=by
 refine(by kernel_rfl:(Jw tk st S O M X Q→Jgd (Z60 tk st S O M X Q) (Z18 n ns vs tx)→Khq tk st S O M X Q ns∧(bif true then abP X Q ns s else false)=abS (Z60 tk st S O M X Q) (Z18 n ns vs tx) s)=_).mp ?_
 delta Z18 Z60 Lq Y2 Jw Jxu J0n Khq Kc
 intro hr ha
 have e:abS (tk,st,S,O,M,X,Q) (n,Kc,ns,vs,tx) s=abP X Q ns s:=by unfold abS;rw[show(Ji Kc).2.2.2.2=_ from congrArg (fun x=>x.2.2.2.2) Ks];all_goals rfl
 have h:=ha.per (congrArg (fun x=>x.2.2.2.2) Ks)
 rw[e]
 repeat' first|exact hr|exact h.1|exact h.2|exact rfl|apply And.intro|intro _
 all_goals first|trivial|assumption|contradiction
theorem Jl2 (n:Int) (ns:List ByteArray) (vs:List Int) (tx:ByteArray) (tk st:Int) (S:List Sta) (O:List Ord) (M:List Met) (X:List Out) (Q:List Per) (s:ByteArray):wpF Tryz.prog Jp7.g (na ()) Tryz.f79 Xe ((n,Jg,ns,vs,tx),(tk,st,S,O,M,X,Q),s,()):=by
 refine(by kernel_rfl:(Jw tk st S O M X Q→Jgd (Z60 tk st S O M X Q) (Z20 n ns vs tx)→Z39∧false=abS (Z60 tk st S O M X Q) (Z20 n ns vs tx) s)=_).mp ?_
 delta Z20 Z39 Z60 Jw Jg
 intro hr ha
 have e:abS (tk,st,S,O,M,X,Q) (n,Jg,ns,vs,tx) s=false:=by unfold abS;rw[show(Ji Jg).2.2.2.2=_ from congrArg (fun x=>x.2.2.2.2) Um];all_goals rfl
 rw[e]
 repeat' first|exact hr|exact h.1|exact h.2|exact rfl|apply And.intro|intro _
 all_goals first|trivial|assumption|contradiction
theorem J25 [Sx.Dr] {Γ:Gam} {ann:Nat→Option Ann} {fn:Func} {c:Con} {x:ATup c.args} (hb:fn.body.isSome=true) (h:Uj (c.pre x)→wpF Tryz.prog Γ ann fn c x):wpF Tryz.prog Γ ann fn c x:=by
 unfold wpF at h⊢
 cases hc:fn.body with
 |none=>rw[hc] at hb;cases hb
 |some code=>
  rw[hc] at h
  exact Jaj h
theorem K3x:∀x:ATup [aEv, .ref 105 Jfw, .ref 9 .str],wpF Tryz.prog Jp7.g (na ()) Tryz.f79 Xe x
 |((n,k,ns,vs,tx),(tk,st,S,O,M,X,Q),s,())=>by
  refine J25 (by kernel_rfl) fun hp=> ?_
  have ha:Jgd (tk,st,S,O,M,X,Q) (n,k,ns,vs,tx):=hp.2
  rcases U3 ha.kind with h|h|h|h|h|h|h|h|h|h|h<;>dsimp only at h<;>subst h
  ·exact Jsp n ns vs tx tk st S O M X Q s
  ·exact Jjp n ns vs tx tk st S O M X Q s
  ·exact Jqa n ns vs tx tk st S O M X Q s
  ·exact Jqb n ns vs tx tk st S O M X Q s
  ·exact Jqc n ns vs tx tk st S O M X Q s
  ·exact Jsq n ns vs tx tk st S O M X Q s
  ·exact Jl5 n ns vs tx tk st S O M X Q s
  ·exact Jjq n ns vs tx tk st S O M X Q s
  ·exact Jl4 n ns vs tx tk st S O M X Q s
  ·exact Jl3 n ns vs tx tk st S O M X Q s
  ·exact Jl2 n ns vs tx tk st S O M X Q s
theorem K4g:Ok Tryz.prog 79 Xe:=Vq mixed Jp7.ok (by kernel_rfl) (by kernel_rfl) na fun xx=>K3x xx
abbrev K7b:=Jp7.add K4g
theorem Jak {α:Type} {p:α→Bool} {y:α} (h:p y=true):∀{l:List α} {k:Nat},0≤Vk p (l++[y]) k
 |[],k=>by
  show 0≤Vk p [y] k
  unfold Vk;rw[if_pos h];omega
 |x::l,k=>by
  show 0≤Vk p (x::(l++[y])) k
  unfold Vk
  split
  ·omega
  ·exact Jak h
structure Kgg (r r':Reg):Prop where
 o:∀s,0≤Ku r.2.2.2.1 s→0≤Ku r'.2.2.2.1 s
 x:∀s,0≤J5 r.2.2.2.2.2.1 s→0≤J5 r'.2.2.2.2.2.1 s
 q:∀s,0≤Uz r.2.2.2.2.2.2 s→0≤Uz r'.2.2.2.2.2.2 s
theorem Juz {O:List Ord} {y:Ord} {s:ByteArray} (h:0≤Ku O s):0≤Ku (O++[y]) s:=by unfold Ku at h⊢;rw[Yi h];exact h
theorem Jux {O:List Out} {y:Out} {s:ByteArray} (h:0≤J5 O s):0≤J5 (O++[y]) s:=by unfold J5 at h⊢;rw[Yi h];exact h
theorem Juy {O:List Per} {y:Per} {s:ByteArray} (h:0≤Uz O s):0≤Uz (O++[y]) s:=by unfold Uz at h⊢;rw[Yi h];exact h
theorem Jbs {O:List Ord} {a s:ByteArray} {v:Int}:Ku (Fq O a v) s=Ku O s:=by
 unfold Ku Fq
 exact Dp fun x hx=>by
  have e:Xz O a=x:=Jeu hx
  rw[e]
theorem Ji2 {O:List Out} {a s:ByteArray} {v:Int}:J5 (Jds O a v) s=J5 O s:=by
 unfold J5 Jds
 exact Dp fun x hx=>by
  have e:Lu O a=x:=Jeu hx
  rw[e]
theorem Jbr {O:List Per} {a s:ByteArray}:Uz (Fr O a) s=Uz O s:=by
 unfold Uz Fr
 exact Dp fun x hx=>by
  have e:Jlw O a=x:=Jeu hx
  rw[e]
theorem Jqn (r:Reg) (e:Ev):Kgg r (Jn r e):=by
 obtain⟨tk,st,S,O,M,X,Q⟩:=r
 obtain⟨n,k,ns,vs,tx⟩:=e
 unfold Jn doS
 split
 all_goals refine⟨fun s h=> ?_,fun s h=> ?_,fun s h=> ?_⟩
 all_goals first|exact h|(show 0≤Ku (Fq _ _ _) _;rw[Jbs];exact h)|(show 0≤J5 (Jds _ _ _) _;rw[Ji2];exact h)|(show 0≤Uz (Fr _ _) _;rw[Jbr];exact h)|exact Juz h|exact Jux h|exact Juy h|exact Jbs (O:=O)▸h|exact Ji2 (O:=X)▸h|exact Jbr (O:=Q)▸h
theorem Jgd.mono {r r':Reg} {e:Ev} (h:Jgd r e) (hn:Kgg r r'):Jgd r' e:=
 ⟨h.kind,fun q=>⟨(h.ord q).1,hn.o _ (h.ord q).2⟩,fun q=>⟨(h.out q).1,hn.x _ (h.out q).2⟩,fun q=>⟨(h.per q).1,hn.q _ (h.per q).2⟩⟩
theorem Jia (s:ByteArray):(s.toList==s.toList)=true:=beq_self_eq_true _
theorem J3c {h:J2} {e:Ev} (hc:Jc e=0) (ha:Lh h e=0) (hk:(e.2.1.toList==Js.toList)=false):Jgd (Jn (J4 h.2.2) e) e:=by
 obtain⟨n,k,ns,vs,tx⟩:=e
 have hE:=K9 hc
 rw[Yl hk] at ha
 obtain⟨z1,z2,z3,z4,z5⟩:=Dk ha
 generalize J4 h.2.2=r at*
 obtain⟨tk,st,S,O,M,X,Q⟩:=r
 have hn:=hE.nn
 clear ha z4 z5
 have hkd:=U3 hE.kind
 dsimp only at hn hkd hk z3
 rcases hkd with h|h|h|h|h|h|h|h|h|h|h<;>subst h
 ·exact⟨hE.kind,fun q=>absurd q (by rw[Jbl];decide),fun q=>absurd q (by rw[Jbl];decide),fun q=>absurd q (by rw[Jbl];decide)⟩
 ·exact⟨hE.kind,fun q=>absurd q (by rw[Ky];decide),fun q=>absurd q (by rw[Ky];decide),fun q=>absurd q (by rw[Ky];decide)⟩
 ·exact⟨hE.kind,fun q=>absurd q (by rw[U6];decide),fun q=>absurd q (by rw[U6];decide),fun q=>absurd q (by rw[U6];decide)⟩
 ·simp only[Uo,List.length_cons,List.length_nil] at hn z3
  refine⟨hE.kind,fun _=>⟨by dsimp only;omega, ?_⟩,fun q=>absurd q (by rw[Uo];decide),fun q=>absurd q (by rw[Uo];decide)⟩
  unfold Jn doS
  simp only[Uo]
  exact Jak (p:=fun x:Ord=>x.1.toList==(ns.getD 0 Jb).toList) (l:=O) (Jia _)
 ·simp only[Up,List.length_cons,List.length_nil] at hn z3
  refine⟨hE.kind,fun _=>⟨by dsimp only;omega, ?_⟩,fun q=>absurd q (by rw[Up];decide),fun q=>absurd q (by rw[Up];decide)⟩
  unfold Jn doS
  simp only[Up]
  exact J1z ((Jl z3).1 rfl)
 ·simp only[Vf,List.length_cons,List.length_nil] at hn z3
  refine⟨hE.kind,fun _=>⟨by dsimp only;omega, ?_⟩,fun q=>absurd q (by rw[Vf];decide),fun q=>absurd q (by rw[Vf];decide)⟩
  unfold Jn doS
  simp only[Vf]
  exact by show 0≤Ku (Fq _ _ _) _;rw[Jbs];exact J1z ((Jl z3).1 rfl)
 ·simp only[Kq,List.length_cons,List.length_nil] at hn z3
  refine⟨hE.kind,fun q=>absurd q (by rw[Kq];decide),fun _=>⟨by dsimp only;omega, ?_⟩,fun q=>absurd q (by rw[Kq];decide)⟩
  unfold Jn doS
  simp only[Kq]
  exact Jak (p:=fun x:Out=>x.1.toList==(ns.getD 0 Jb).toList) (l:=X) (Jia _)
 ·simp only[Ke,List.length_cons,List.length_nil] at hn z3
  refine⟨hE.kind,fun q=>absurd q (by rw[Ke];decide),fun _=>⟨by dsimp only;omega, ?_⟩,fun q=>absurd q (by rw[Ke];decide)⟩
  unfold Jn doS
  simp only[Ke]
  exact by show 0≤J5 (Jds _ _ _) _;rw[Ji2];exact J1y ((Jl z3).1 rfl)
 ·simp only[Kt,List.length_cons,List.length_nil] at hn z3
  refine⟨hE.kind,fun q=>absurd q (by rw[Kt];decide),fun q=>absurd q (by rw[Kt];decide),fun _=>⟨by dsimp only;omega, ?_⟩⟩
  unfold Jn doS
  simp only[Kt]
  exact Jak (p:=fun x:Per=>x.1.toList==(ns.getD 0 Jb).toList) (l:=Q) (Jia _)
 ·simp only[Ks,List.length_cons,List.length_nil] at hn z3
  refine⟨hE.kind,fun q=>absurd q (by rw[Ks];decide),fun q=>absurd q (by rw[Ks];decide),fun _=>⟨by dsimp only;omega, ?_⟩⟩
  unfold Jn doS
  simp only[Ks]
  exact by show 0≤Uz (Fr _ _) _;rw[Jbr];exact Kgp ((Jl z3).1 rfl)
 ·exact⟨hE.kind,fun q=>absurd q (by rw[Um];decide),fun q=>absurd q (by rw[Um];decide),fun q=>absurd q (by rw[Um];decide)⟩
def Jlu (h:J2):Prop:=∀j k,j<h.2.1.length→j≤k→k<h.2.2.length→Jgd (h.2.2.getD k K5) (h.2.1.getD j ev0)
theorem Da {α:Type} {l:List α} {m k:Nat} {d:α} (h:k<m):(l.take m).getD k d=l.getD k d:=by
 rw[List.getD_eq_getElem?_getD,List.getD_eq_getElem?_getD,List.getElem?_take_of_lt h]
theorem Jam {α:Type} {l m:List α} {k:Nat} {d:α} (h:k<l.length):(l++m).getD k d=l.getD k d:=by
 rw[List.getD_eq_getElem?_getD,List.getD_eq_getElem?_getD,List.getElem?_append_left h]
theorem Jal {α:Type} {l:List α} {y d:α}:(l++[y]).getD l.length d=y:=by
 rw[List.getD_eq_getElem?_getD,List.getElem?_append_right (Nat.le_refl _),Nat.sub_self];rfl
theorem Krl {h:J2} {e:Ev} (hi:Vp h) (hA:Jlu h) (ha:Ko h e=0):Jlu (Zb h e):=by
 obtain⟨hc,hacc⟩:=add_zero ha
 have n3:=hi.ok.nG
 have hlast:∀e'∈[e],(e.2.1.toList==Js.toList)=false→Jgd (Jn (J4 h.2.2) e) e:=fun _ _ hk=>J3c hc hacc hk
 obtain⟨E,C,G⟩:=h
 dsimp only at n3
 cases hk:e.2.1.toList==Js.toList with
 |true=>
  unfold Zb
  rw[hk,cond_true]
  intro j k h1 h2 h3
  simp only[List.length_take] at h1 h3
  dsimp only
  rw[Da (by omega),Da (by omega)]
  exact hA j k (by dsimp only;omega) h2 (by dsimp only;omega)
 | false =>
  unfold Zb
  rw[hk,cond_false]
  intro j k h1 h2 h3
  simp only[List.length_append,List.length_singleton] at h1 h3
  dsimp only
  by_cases hkn:k<G.length
  ·rw[Jam hkn,Jam (by omega)]
   exact hA j k (by dsimp only;omega) h2 (by dsimp only;omega)
  ·have ek:k=G.length:=by omega
   rw[ek,Jal]
   by_cases hj:j<C.length
   ·rw[Jam hj]
    have:=hA j (G.length-1) hj (by omega) (by dsimp only;omega)
    exact this.mono (Jqn (J4 G) e)
   ·have ej:j=C.length:=by omega
    rw[ej,Jal]
    exact hlast e (List.mem_singleton.2 rfl) hk
theorem J1o:∀{l:List Ev} {h:J2},Vp h→Jlu h→h.1.length+l.length≤1000→Jlu (X7 h l).1
 |[],_,_,hA,_=>hA
 | e :: l, h, hi, hA, hl => by
  unfold X7
  simp only[List.length_cons] at hl
  by_cases ha:Ko h e=0
  ·rw[if_pos ha]
   exact J1o (Di hi (by omega) ha) (Krl hi hA ha) (by rw[Xi];omega)
  ·rw[if_neg ha];exact hA
theorem Jup:Jlu Vt:=fun j k h1 _ _=>by cases h1
theorem Jyq {l:List Ev}:Jlu (Ja l).1:=by
 unfold Ja
 by_cases h:1000<l.length
 ·rw[if_pos h];exact Jup
 ·rw[if_neg h];exact J1o Vh Jup (by show 0+l.length≤1000;omega)
theorem Ka4 {h:J2} (hi:Vp h) (hA:Jlu h) {e:Ev} (he:e∈h.2.1):Jgd (J4 h.2.2) e:=by
 obtain⟨j,hj,rfl⟩:=List.mem_iff_getElem.1 he
 have n3:=hi.ok.nG
 have:=hA j (h.2.2.length-1) hj (by omega) (by omega)
 rw[List.getD_eq_getElem?_getD (l:=h.2.1),List.getElem?_eq_getElem hj] at this
 exact this
def Vo (xs:List ByteArray) (sep:ByteArray):ByteArray:=⟨(Lib.join (xs.map (·.data.toList)) sep.data.toList).toArray⟩
def Kqv:Con:={args:=[.val false (.list 9 .str),aS],ress:=[tS],owns:=[],pre:=fun(xs,sep,_)=>[xs.length≤1000000,(Lib.join (xs.map (·.data.toList)) sep.data.toList).length≤140737488355328],spec:=fun(xs,sep,_)=>(Vo xs sep,())}
def Vg (n:Int):ByteArray:=⟨(Lib.itoa n).toArray⟩
def Kqw:Con:={args:=[aI],ress:=[tS],owns:=[],pre:=fun(n,_)=>[-9223372036854775808≤n∧n≤9223372036854775807],spec:=fun(n,_)=>(Vg n,())}
theorem Jz1 (w:World) (q:Nat) (os:Array Obj):RowKit.Below w.heap.size w (Sort.grow (w.drewN q) os):=
 ⟨rfl,rfl,rfl,by first|(simp[Sort.grow];done)|(simp[Sort.grow];omega),fun i hi=>by
  show((w.drewN q).heap++os)[i]? =_
  rw[Array.getElem?_append_left (by show i<w.heap.size;omega)]
  rfl⟩
theorem Kpp:Ok Tryz.prog 122 Kqw:=by
 refine⟨⟨Tryz.f122,by kernel_rfl,by kernel_rfl,by kernel_rfl⟩,fun z hz=>(by cases hz),fun F hF=>(by cases hF),fun _ x M R w vs hM hg hpre hargs=> ?_⟩
 obtain⟨n,u⟩:=x
 obtain⟨v,vs',rfl,ha,hr⟩:=hargs
 have hr:vs'=[]:=hr
 subst hr
 obtain⟨cs,rfl,hc⟩:=ha
 have hc:cs=[.int .i64 n]:=hc
 subst hc
 have hpre: -9223372036854775808≤n∧n≤9223372036854775807:=hpre
 refine(Tryz.strconv_Itoa n hpre.1 hpre.2 w (hg w (Sx.Below.refl _ _)).1).mono ?_
 rintro e w' ⟨rfl,k,os,rfl⟩
 exact⟨M,[.string (Vg n)],rfl, .ofK (Jz1 w k os),fun _ h=>h,fun b h=> .inl h,_,[],rfl,⟨_,rfl,rfl⟩,rfl⟩
theorem Kpo:Ok Tryz.prog 123 Kqv:=by
 refine⟨⟨Tryz.f123,by kernel_rfl,by kernel_rfl,by kernel_rfl⟩,fun z hz=>(by cases hz),fun F hF=>(by cases hF),fun _ x M R w vs hM hg hpre hargs=> ?_⟩
 obtain⟨xs,sep,u⟩:=x
 obtain⟨v,vs',rfl,ha,v2,vs2,rfl,hb,hr⟩:=hargs
 have hr:vs2=[]:=hr
 subst hr
 obtain⟨cs,rfl,hc⟩:=ha
 obtain⟨cs2,rfl,hc2⟩:=hb
 have hc2:cs2=[.string sep]:=hc2
 subst hc2
 obtain⟨v,flat,rfl,f1,f2⟩:=hc
 obtain⟨p1,p2⟩:=hpre
 have hflat:=Jdz f1
 have fin:∀(e:Ending) (w':World),e= .returned (.string (Vo xs sep))→RowKit.Below w.heap.size w w'→Jn0 M w [tS] [] (Vo xs sep,()) e w':=fun e w' he hb=>
  ⟨M,[.string (Vo xs sep)],he, .ofK hb,fun _ h=>h,fun b h=> .inl h,_,[],rfl,⟨_,rfl,rfl⟩,rfl⟩
 rcases f2 with⟨rfl|⟨ad,cap,rfl⟩,h0⟩|⟨b,off,cap,rfl,hcap,hk,hm⟩
 ·have:xs=[]:=List.eq_nil_of_length_eq_zero h0
  subst this
  refine(Tryz.strings_Join_none none 0 sep w).mono ?_
  rintro e w' ⟨rfl,rfl⟩
  exact fin _ _ rfl (RowKit.Below.refl _ _)
 ·have:xs=[]:=List.eq_nil_of_length_eq_zero h0
  subst this
  refine(Tryz.strings_Join_none (some ad) cap sep w).mono ?_
  rintro e w' ⟨rfl,rfl⟩
  exact fin _ _ rfl (RowKit.Below.refl _ _)
 ·cases hx:xs with
  |nil=>
   subst hx
   refine(Tryz.strings_Join_none (some ⟨b,off,none⟩) cap sep w).mono ?_
   rintro e w' ⟨rfl,rfl⟩
   exact fin _ _ rfl (RowKit.Below.refl _ _)
  |cons x0 r=>
   rw[←hx]
   have hne:flat≠[]:=by rw[hflat,hx];simp
   refine(Tryz.strings_Join b off cap xs sep w (fun j x hj=>hk j _ (by rw[hflat,List.getElem?_map,hj];rfl)) (hM b (.inl (hm hne))) (by omega) hcap p2).mono ?_
   rintro e w' ⟨rfl,hb⟩
   exact fin _ _ rfl hb
abbrev K7a:=K7b.add Kpo
abbrev K69:=K7a.add Kpp
def Xv (s p:ByteArray):List ByteArray:=Lib.splitB p 0 (Lib.countB s p) s
def Jpe:Con:={args:=[aS,aS],ress:=[(false, .list 9 .str)],owns:=[true],pre:=fun(s,p,_)=>[s.size≤1000000,1≤p.size],spec:=fun(s,p,_)=>(Xv s p,())}
theorem Jgq {M:Nat→Prop} {w:World}:∀{xs:List ByteArray},Ym (Rep M w .str) xs (xs.map Value.string)
 |[]=>rfl
 |x::xs=>⟨[.string x],xs.map Value.string,rfl,rfl,Jgq⟩
theorem K4v:Ok Tryz.prog 61 Jpe:=by
 refine⟨⟨Tryz.f61,by kernel_rfl,by kernel_rfl,by kernel_rfl⟩,fun z hz=>(by cases hz),fun F hF=>(by cases hF),fun _ x M R w vs hM hg hpre hargs=> ?_⟩
 obtain⟨s,p,u⟩:=x
 obtain⟨v1,vs1,rfl,ha1,v2,vs2,rfl,ha2,hr⟩:=hargs
 have hr:vs2=[]:=hr
 subst hr
 obtain⟨cs1,rfl,hc1⟩:=ha1
 obtain⟨cs2,rfl,hc2⟩:=ha2
 have hc1:cs1=[.string s]:=hc1
 have hc2:cs2=[.string p]:=hc2
 subst hc1;subst hc2
 have hpre:s.size≤1000000∧1≤p.size:=hpre
 refine(Tryz.strings_Split_shaped s p w ((hg w (.refl _ _)).2 rfl).1 (by omega) hpre.2).mono ?_
 rintro e w' ⟨rfl,rfl⟩
 have hlen:(Xv s p).length=Lib.countB s p+1:=Lib.splitB_all p hpre.2 0 _ s rfl
 have hle:=Lib.countB_le p hpre.2 s.size s (Nat.le_refl _)
 refine⟨M,[_],rfl, .ofK ⟨rfl,rfl,rfl,by show w.heap.size≤(w.heap.push _).size;simp,fun i hi=> ?_⟩,fun _ h=>h,fun b h=> .inl h,_,[],rfl,⟨(Xv s p).map Value.string,Jgq,⟨by simp[Sch.size,Jpe], .inr ⟨w.heap.size,Lib.countB s p+1,_,by rw[show(Jpe.spec (s,p,u)).1=Xv s p from rfl,hlen],Nat.le_refl _,heap_alloc_new w _,by rw[show(Jpe.spec (s,p,u)).1=Xv s p from rfl,hlen];exact Nat.le_refl _, ?_, ?_, ?_⟩⟩, ?_⟩,rfl⟩
 ·show(w.heap.push _)[i]? =_
  rw[Array.getElem?_push]
  split
  ·omega
  ·rfl
 ·show _≤9223372036854775807
  have:s.size≤1000000:=hpre.1
  omega
 ·show(List.map Value.string (Xv s p)).toArray.size=_
  simp[Sch.size,hlen]
 ·show(List.map Value.string (Xv s p)).take ((Xv s p).length*1)=_
  rw[List.take_of_length_le (by simp)]
 ·intro g hgb hM'
  have:w.heap.size=g:=Option.some.inj hgb
  have:=hM g (.inl hM')
  omega
abbrev K68:=K69.add K4v
def Kq4:Con:={args:=[],ress:=[],owns:=[],pre:=fun _=>[False],spec:=fun _=>(),prim:=some Kra}
theorem J4f (s:ByteArray) (w:World) (hs:s.size≤1000000) (hg:Sx.Good Tryz.prog w):Calls Tryz.prog 260 #[.string s] w fun e w'=>∃u,e= .returned (.tuple #[.int .i64 (Jr8 s),u])∧Jjj (Jv4 s) u∧Sx.Below w.heap.size w w':=by
 have hw:=(hg w (.refl _ _)).2 rfl
 cases h:Lib.atoiAll s.data.toList
 ·rename_i v
  have e1:Jr8 s=v:=by unfold Jr8;rw[h]
  have e2:Jv4 s=false:=by unfold Jv4;rw[h]
  rw[e1,e2]
  refine Calls.mono (Any.strconv_Atoi_ok Tryz.laysAtoi s (by omega) v h w) ?_
  rintro e w' ⟨rfl,rfl|⟨t,rfl⟩⟩
  ·exact⟨_,rfl,rfl, .refl _ _⟩
  ·exact⟨_,rfl,rfl, .ofK (Lib.bytesWorld_below w _ t)⟩
 ·have e1:Jr8 s=0:=by unfold Jr8;rw[h]
  have e2:Jv4 s=true:=by unfold Jv4;rw[h]
  rw[e1,e2]
  obtain⟨tp,pe,hv⟩:=hw.2.1
  refine Calls.mono (Any.strconv_Atoi_syntax_var Tryz.laysAtoi s (by omega) h tp pe w hv) ?_
  rintro e w' ⟨N,rfl,_,_,hb⟩
  exact⟨_,rfl,⟨_,_,rfl⟩, .ofK hb⟩
 ·have e1:Jr8 s=Lib.atoiSat s.data.toList:=by unfold Jr8;rw[h]
  have e2:Jv4 s=true:=by unfold Jv4;rw[h]
  rw[e1,e2]
  obtain⟨tp,pe,hv⟩:=hw.2.2
  refine Calls.mono (Any.strconv_Atoi_range_var Tryz.laysAtoi s (by omega) h tp pe w hv) ?_
  rintro e w' ⟨N,rfl,_,_,hb⟩
  exact⟨_,rfl,⟨_,_,rfl⟩, .ofK hb⟩
theorem Kmz:Ok Tryz.prog 260 Kq4:=⟨⟨Tryz.f260,by kernel_rfl,by kernel_rfl,by kernel_rfl⟩,fun z hz=>(by cases hz),fun F hF=>(by cases hF;exact J48 fun s w hs hg=>J4f s w hs hg),fun _ x M R w vs _ _ hpre _=>False.elim hpre⟩
abbrev K67:=K68.add Kmz
def Jxj (s p:ByteArray):ByteArray×ByteArray×Bool:=(⟨(Lib.cut s.data.toList p.data.toList).1.toArray⟩,⟨(Lib.cut s.data.toList p.data.toList).2.1.toArray⟩,(Lib.cut s.data.toList p.data.toList).2.2)
def K53:Con:={args:=[aS,aS],ress:=[tS,tS,Bo],owns:=[],pre:=fun(s,_)=>[s.size≤1000000],spec:=fun(s,p,_)=>((Jxj s p).1,(Jxj s p).2.1,(Jxj s p).2.2,())}
theorem Jz2 (w:World) (q:Nat):RowKit.Below w.heap.size w (w.drewN q):=⟨rfl,rfl,rfl,Nat.le_refl _,fun i _=>rfl⟩
theorem Kpw:Ok Tryz.prog 107 K53:=by
 refine⟨⟨Tryz.f107,by kernel_rfl,by kernel_rfl,by kernel_rfl⟩,fun z hz=>(by cases hz),fun F hF=>(by cases hF),fun _ x M R w vs hM hg hpre hargs=> ?_⟩
 obtain⟨s,p,u⟩:=x
 obtain⟨v1,vs1,rfl,ha1,v2,vs2,rfl,ha2,hr⟩:=hargs
 have hr:vs2=[]:=hr
 subst hr
 obtain⟨cs1,rfl,hc1⟩:=ha1
 obtain⟨cs2,rfl,hc2⟩:=ha2
 have hc1:cs1=[.string s]:=hc1
 have hc2:cs2=[.string p]:=hc2
 subst hc1;subst hc2
 have hpre:s.size≤1000000:=hpre
 refine(Tryz.strings_Cut_shaped s p w ((hg w (.refl _ _)).2 rfl).1 (by omega)).mono ?_
 rintro e w' ⟨rfl,n,rfl⟩
 exact⟨M,[.string (Jxj s p).1, .string (Jxj s p).2.1, .bool (Jxj s p).2.2],rfl, .ofK (Jz2 w n),fun _ h=>h,fun b h=> .inl h,_,_,rfl,⟨_,rfl,rfl⟩,_,_,rfl,⟨_,rfl,rfl⟩,_,[],rfl,⟨_,rfl,rfl⟩,rfl⟩
abbrev K66:=K67.add Kpw
def Kaq (s:ByteArray) (n:Int):ByteArray:=⟨(Lib.repeatL s.data.toList n.toNat).toArray⟩
def K5p:Con:={args:=[aS,aI],ress:=[tS],owns:=[],pre:=fun(s,n,_)=>[s.size≤1000000,0≤n∧n≤1000000],spec:=fun(s,n,_)=>(Kaq s n,())}
theorem Km0:Ok Tryz.prog 258 K5p:=by
 refine⟨⟨Tryz.f258,by kernel_rfl,by kernel_rfl,by kernel_rfl⟩,fun z hz=>(by cases hz),fun F hF=>(by cases hF),fun _ x M R w vs hM hg hpre hargs=> ?_⟩
 obtain⟨s,n,u⟩:=x
 obtain⟨v1,vs1,rfl,ha1,v2,vs2,rfl,ha2,hr⟩:=hargs
 have hr:vs2=[]:=hr
 subst hr
 obtain⟨cs1,rfl,hc1⟩:=ha1
 obtain⟨cs2,rfl,hc2⟩:=ha2
 have hc1:cs1=[.string s]:=hc1
 have hc2:cs2=[.int .i64 n]:=hc2
 subst hc1;subst hc2
 obtain⟨p1,p2,p3⟩:=hpre
 have p1:s.size≤1000000:=p1
 have p2:0≤n:=p2
 have p3:n≤1000000:=p3
 obtain⟨c,rfl⟩:=Int.eq_ofNat_of_zero_le p2
 have p3:(c:Int)≤1000000:=p3
 have hm:s.size*c≤1000000*1000000:=Nat.mul_le_mul p1 (by omega)
 refine(Tryz.strings_Repeat s c w (by omega) (by omega)).mono ?_
 rintro e w' ⟨rfl,hb⟩
 exact⟨M,[.string (Kaq s c)],rfl, .ofK hb,fun _ h=>h,fun b h=> .inl h,_,[],rfl,⟨_,rfl,rfl⟩,rfl⟩
abbrev K65:=K66.add Km0
abbrev tI:Bool×Sch:=(false, .int .i64)
abbrev tB:Bool×Sch:=(false, .bool)
abbrev K30:Bool×Sch:=(false, .str)
abbrev taI:AK:= .val false (.int .i64)
abbrev taS:AK:= .val false .str
theorem J24 {n:Int} (h0:0≤n) (h1:n<256):IntKind.u8.wrap n=n:=by
 simp[IntKind.wrap,IntKind.signed,IntKind.bits]
 omega
def Xd (c:Int):Bool:=decide (48≤c)&&decide (c≤57)
theorem Jk2 (c:Int):(bif decide (c<48) then true else decide (57<c))= !Xd c:=by
 unfold Xd
 have e1:decide (c<48)= !decide ((48:Int)≤c):=by rw[Bool.eq_iff_iff];simp
 have e2:decide ((57:Int)<c)= !decide (c≤57):=by rw[Bool.eq_iff_iff];simp
 rw[e1,e2]
 cases decide ((48:Int)≤c)<;>cases decide (c≤57)<;>rfl
def Kg:List UInt8→Int→Int×Bool
 |[],n=>(n,true)
 |c::r,n=>if Xd c.toNat=true then Kg r (10*n+(c.toNat-48)) else(0,false)
def Jas (s:ByteArray):Bool:=decide (s.size=0)||decide (9<s.size)||(decide (1<s.size)&&decide (Jau s 0=48))
def Ka (s:ByteArray):Int×Bool:=if Jas s=true then(0,false) else Kg s.data.toList 0
def J4v:Con:={args:=[taS],ress:=[tI,tB],owns:=[],pre:=fun(s,_)=>[s.size≤1000000],spec:=fun(s,_)=>((Ka s).1,(Ka s).2,())}
theorem Jv1 (s:ByteArray):(bif bif ((s.size:Int)==0) then true else decide (9<(s.size:Int)) then true else bif decide (1<(s.size:Int)) then(((s.data.toList.getD 0 0).toNat:Int)==48) else false)=Jas s:=by
 have e1:((s.size:Int)==0)=decide (s.size=0):=by rw[Bool.eq_iff_iff];simp
 have e2:decide (9<(s.size:Int))=decide (9<s.size):=by rw[decide_eq_decide];omega
 have e3:decide (1<(s.size:Int))=decide (1<s.size):=by rw[decide_eq_decide];omega
 have e4:(((s.data.toList.getD 0 0).toNat:Int)==48)=decide (Jau s 0=48):=by rw[Bool.eq_iff_iff];simp[Jau]
 have k:∀a b c d:Bool,(bif bif a then true else b then true else bif c then d else false)=(a||b||(c&&d)):=by decide
 rw[e1,e2,e3,e4,k];rfl
theorem Je5 {c:Nat} (h:Xd c=true):48≤c∧c≤57:=by
 unfold Xd at h
 simp only[Bool.and_eq_true,decide_eq_true_eq] at h
 omega
abbrev K64:=K65
theorem F1:∀{l:List UInt8} {n:Int},0≤n→0≤(Kg l n).1∧(Kg l n).1<(n+1)*10^l.length
 |[],n,h=>⟨h,by simp[Kg];omega⟩
 | c :: r, n, h => by
  unfold Kg
  split
  ·rename_i hc
   have hr:=Je5 hc
   have ih:=F1 (l:=r) (n:=10*n+(c.toNat-48)) (by omega)
   refine⟨ih.1,Int.lt_of_lt_of_le ih.2 ?_⟩
   rw[List.length_cons,Int.pow_succ,Int.mul_comm (10^r.length),←Int.mul_assoc]
   exact Int.mul_le_mul_of_nonneg_right (by omega) (Int.pow_nonneg (by decide))
  ·refine⟨Int.le_refl _,Int.mul_pos (by omega) (Int.pow_pos (by decide))⟩
theorem Jnd (s:ByteArray):0≤(Ka s).1∧(Ka s).1<1000000000:=by
 unfold Ka
 split
 ·exact⟨Int.le_refl _,by decide⟩
 ·rename_i h
  have h:Jas s=false:=by simpa using h
  have h9:s.size≤9:=by
   unfold Jas at h
   simp only[Bool.or_eq_false_iff,decide_eq_false_iff_not] at h
   omega
  have:=F1 (l:=s.data.toList) (n:=0) (Int.le_refl _)
  refine⟨this.1,Int.lt_of_lt_of_le this.2 ?_⟩
  have hp:=Nat.pow_le_pow_right (n:=10) (by decide) h9
  have hl:s.data.toList.length=s.size:=by simp
  rw[hl,Int.zero_add,Int.one_mul]
  have e:((10:Int)^s.size)=((10^s.size:Nat):Int):=by simp
  rw[e]
  have h2:((10^s.size:Nat):Int)≤((10^9:Nat):Int):=Int.ofNat_le.2 hp
  have h3:((10^9:Nat):Int)=1000000000:=by decide
  omega
def Jjl (c:UInt8):List UInt8→List (List UInt8)
 |[]=>[[]]
 |x::r=>if x=c then[]::Jjl c r else match Jjl c r with
  |[]=>[[x]]
  |h::t=>(x::h)::t
def bs (l:List UInt8):ByteArray:=⟨l.toArray⟩
def Jdp (s:ByteArray) (c:Int):List ByteArray:=(Jjl (UInt8.ofNat c.toNat) s.data.toList).map bs
theorem J3e (c:UInt8):∀l,Jjl c l≠[]
 |[]=>by simp[Jjl]
 |x::r=>by
  unfold Jjl
  split
  ·simp
  ·split<;>simp
theorem Jab (c x:UInt8) (r:List UInt8):Jjl c (x::r)=if x=c then[]::Jjl c r else match Jjl c r with
  |[]=>[[x]]
  |h::t=>(x::h)::t:=rfl
abbrev Kge:=K64
def X4 (n:Int):ByteArray:=⟨(Lib.itoa n).toArray⟩
def Jvg (k:Nat):Con:={args:=[taI],ress:=[K30],owns:=[],pre:=fun(n,_)=>[k≤18,-(10^k:Int)<n,n<10^(k+1)],spec:=fun(n,_)=>(X4 n,())}
def Kiq (a:Int):=(Iw (48+a)∧0<1)∧ByteArray.mk (Array.mk [UInt8.ofNat (Int.toNat (IntKind.wrap IntKind.u8 (48+a)))])=X4 a
def Z75 (a:Int):=0-Int.tmod a 10
def Kgd:=(10:Int)=0→False
def Kfj (a:Nat):=(10:Int)^(a+(1:Nat))
def Kju (a:Nat):= -10^a
def Kyt (a:Int) (b:Nat):=Int.tdiv a 10<Kfj b
def Kxl (a:Nat) (b:Int):=Kju a<Int.tdiv b 10
theorem Jyb {l:List UInt8} {n:Int} (h:l=Lib.itoa n):(⟨⟨l⟩⟩:ByteArray)=X4 n:=by subst h;rfl
theorem Jsv (u:Nat):(X4 (u:Int)).data.toList=Lib.decDigits u:=by unfold X4;rw[Lib.itoa_nonneg]
theorem Kak (u:Nat) (h:1≤u):(X4 (-(u:Int))).data.toList=45::Lib.decDigits u:=by unfold X4;rw[Lib.itoa_neg u h]
theorem Jhx (n:Int) (h0: -9223372036854775808≤n) (h1:n≤9223372036854775807):(X4 n).size≤21:=by
 have:=Lib.itoa_length_le n h0 h1
 show(Lib.itoa n).toArray.size≤21
 simpa using this
theorem Jng {u:Nat} (h:¬u<10):Lib.decDigits u=Lib.decDigits (u/10)++[UInt8.ofNat (48+u %10)]:=by rw[Lib.decDigits,dif_neg h]
theorem J1h {x:Nat} (h:x<10):UInt8.ofNat (IntKind.u8.wrap (48+(x:Int))).toNat=UInt8.ofNat (48+x):=by
 rw[J24 (by omega) (by omega)]
 congr 1
theorem Jkk (n:Int) (h0:¬n<0) (h1:n<10):(⟨⟨[UInt8.ofNat (IntKind.u8.wrap (48+n)).toNat]⟩⟩:ByteArray)=X4 n:=by
 obtain⟨u,rfl⟩:=Int.eq_ofNat_of_zero_le (by omega:0≤n)
 refine Jyb ?_
 have e:Lib.itoa (u:Int)=Lib.decDigits u:=Lib.itoa_nonneg u
 have hu:u<10:=by omega
 rw[e,Lib.decDigits_one hu]
 exact congrArg (·::[]) (J1h hu)
theorem Kah (n:Int):wpF Tryz.prog Kge.g (na ()) Tryz.f194 (Jvg 0) (n,()):=by
 refine(by kernel_rfl:(0≤18→-10^0<n→n<10^1→Br (decide (n<0)) (Br (decide ((-10)<n)) (Jxb 3 2) (Jxb 4 2)) (Br (decide (n<10)) (Kiq n) (Jxb 7 2)))=_).mp ?_
 delta Kiq Br Iw
 intro _ h0 h1
 have e0:(10:Int)^0=1:=rfl
 have e1:(10:Int)^1=10:=rfl
 rw[e0] at h0
 rw[e1] at h1
 refine⟨fun h=>absurd (of_decide_eq_true h) (by omega),fun h=>⟨fun h2=>⟨⟨by omega,by decide⟩,Jkk n (of_decide_eq_false h) (of_decide_eq_true h2)⟩,fun h2=>absurd (of_decide_eq_false h2) (by omega)⟩⟩
theorem Kag (k:Nat) (n:Int):wpF Tryz.prog ((194,Jvg k)::Kge.g) (na ()) Tryz.f194 (Jvg (k+1)) (n,()):=by
 refine(by kernel_rfl:(k+1≤18→-Kfj k<n→n<10^(k+1+1)→Br (decide (n<0)) (Br (decide ((-10)<n)) ((Iw (0-n)∧k≤18∧Kju k<0-n∧0-n<Kfj k∧Nc (1+ByteArray.size (X4 (0-n)))≤9223372036854775807)∧ByteArray.mk (Array.mk (45::([]++(X4 (0-n)).data.toList)))=X4 n) ((Kgd∧Iw (Int.tdiv n 10)∧k≤18∧Kxl k n∧Kyt n k∧Kgd∧Iw (Z75 n)∧k≤18∧Kju k<Z75 n∧Z75 n<Kfj k∧Nc (ByteArray.size (X4 (Int.tdiv n 10))+ByteArray.size (X4 (Z75 n)))≤9223372036854775807)∧ByteArray.mk (Array.mk ((X4 (Int.tdiv n 10)).data.toList++(X4 (Z75 n)).data.toList))=X4 n)) (Br (decide (n<10)) (Kiq n) ((Kgd∧Iw (Int.tdiv n 10)∧k≤18∧Kxl k n∧Kyt n k∧Kgd∧Iw (48+Int.tmod n 10)∧0<1∧Nc (ByteArray.size (X4 (Int.tdiv n 10))+1)≤9223372036854775807)∧ByteArray.mk (Array.mk ((X4 (Int.tdiv n 10)).data.toList++[UInt8.ofNat (Int.toNat (IntKind.wrap IntKind.u8 (48+Int.tmod n 10)))]))=X4 n)))=_).mp ?_
 delta Z75 Kgd Kfj Kju Kyt Kxl Kiq Br Iw Nc
 intro hk h0 h1
 have hp0:(0:Int)<10^k:=Int.pow_pos (by decide)
 have hp1:(1:Int)≤10^k:=by omega
 have hp2:(10:Int)^k≤100000000000000000:=by
  have h:=Nat.pow_le_pow_right (n:=10) (by decide) (show k≤17 by omega)
  have h2:((10^k:Nat):Int)≤((10^17:Nat):Int):=Int.ofNat_le.2 h
  have h3:((10^17:Nat):Int)=100000000000000000:=by decide
  have e:((10:Int)^k)=((10^k:Nat):Int):=by simp
  omega
 have e1:(10:Int)^(k+1)=10^k*10:=Int.pow_succ ..
 have e2:(10:Int)^(k+1+1)=10^k*10*10:=by rw[Int.pow_succ,e1]
 rw[e1] at h0
 rw[e2] at h1
 rw[e1]
 generalize(10:Int)^k=p at*
 refine⟨fun h=>⟨fun h2=> ?_,fun h2=> ?_⟩,fun h=>⟨fun h2=>⟨⟨by have:=of_decide_eq_true h2;have:=of_decide_eq_false h;omega,by decide⟩,Jkk n (of_decide_eq_false h) (of_decide_eq_true h2)⟩,fun h2=> ?_⟩⟩
 ·have h:=of_decide_eq_true h
  have h2:=of_decide_eq_true h2
  obtain⟨u,hu⟩:=Int.eq_ofNat_of_zero_le (by omega:0≤0-n)
  have hn:n= -(u:Int):=by omega
  have hs:=Jhx (0-n) (by omega) (by omega)
  refine⟨⟨by omega,by omega,by omega,by omega,by omega⟩,Jyb ?_⟩
  rw[hu,Jsv,hn,Lib.itoa_neg u (by omega)];rfl
 ·have h:=of_decide_eq_true h
  have h2:=of_decide_eq_false h2
  obtain⟨u,hu⟩:=Int.eq_ofNat_of_zero_le (by omega:0≤0-n)
  have hn:n= -(u:Int):=by omega
  have ed:n.tdiv 10= -((u/10:Nat):Int):=by rw[hn,Int.neg_tdiv];rfl
  have em:n.tmod 10= -((u %10:Nat):Int):=by rw[hn,Int.neg_tmod];rfl
  have em2:0-n.tmod 10=((u %10:Nat):Int):=by rw[em];omega
  rw[em2,ed]
  have hs1:=Jhx (-((u/10:Nat):Int)) (by omega) (by omega)
  have hs2:=Jhx ((u %10:Nat):Int) (by omega) (by omega)
  refine⟨⟨by omega,by omega,by omega,by omega,by omega,by omega,by omega,by omega,by omega,by omega,by omega⟩,Jyb ?_⟩
  rw[Kak _ (by omega),Jsv,hn,Lib.itoa_neg u (by omega),Jng (u:=u) (by omega),Lib.decDigits_one (i:=u %10) (by omega)];rfl
 ·have h:=of_decide_eq_false h
  have h2:=of_decide_eq_false h2
  obtain⟨u,hu⟩:=Int.eq_ofNat_of_zero_le (by omega:0≤n)
  subst hu
  have ed:(u:Int).tdiv 10=((u/10:Nat):Int):=rfl
  have em:(u:Int).tmod 10=((u %10:Nat):Int):=rfl
  rw[em,ed]
  have hs1:=Jhx ((u/10:Nat):Int) (by omega) (by omega)
  refine⟨⟨by omega,by omega,by omega,by omega,by omega,by omega,by omega,by decide,by omega⟩,Jyb ?_⟩
  rw[Jsv,Lib.itoa_nonneg,Jng (u:=u) (by omega),J1h (by omega)]
theorem J1r:∀k,Ok Tryz.prog 194 (Jvg k)
 |0=>Vq mixed Kge.ok (by kernel_rfl) (by kernel_rfl) na fun xx=>Kah xx.1
 |k+1=>Vq mixed (.cons (J1r k) Kge.ok) (by kernel_rfl) rfl na fun xx=>Kag k xx.1
theorem Kn0:Ok Tryz.prog 194 (Jvg 17):=J1r 17
abbrev K28:=Kge.add Kn0
def Hd:List UInt8→Bool
 |[]=>true
 |b::r=>Xd (b.toNat:Int)&&Hd r
def Jr6 (s:ByteArray):Bool:=Hd s.data.toList&&decide (0<s.size)
def K52:Con:={args:=[aS],ress:=[Bo],owns:=[],pre:=fun(s,_)=>[s.size≤1000000],spec:=fun(s,_)=>(Jr6 s,())}
abbrev Kc1 (s:ByteArray):Ann:={X:=Nat,σ:=fun k=>⟨1,[(0, .one (.str s)),(6, .one (.sl 0))],[(0, .siter s k)]⟩,inv:=fun k=>k≤s.size∧Hd s.data.toList=Hd (s.data.toList.drop k),mu:=fun k=>s.size-k}
theorem Jg0 {c:Int} (h:128≤c):Xd c=false:=by
 unfold Xd
 rw[decide_eq_false (show ¬c≤57 by omega),Bool.and_false]
def Kjj (a:Nat) (b:Bt):=a≤ByteArray.size b∧Hd (Z13 b)=Hd (List.drop a (Z13 b))
theorem Kn5:Ok Tryz.prog 186 K52:=Jty K28 Tryz.f186 (Us (l:=([]:List (Nat×Func))) (by simp)) (fun xx=>X3 (Kc1 xx.1)) (fun xx=>fun _=>na ()) fun xx=>by
 obtain⟨(s:ByteArray),_⟩:=xx
 refine(by kernel_rfl:(ByteArray.size s≤1000000→∃(x:Nat),Sf s (Sf s (0=x))∧Kjj x s∧∀(x:Nat),Kjj x s→(x<ByteArray.size s→Br true (Br (Kkj s x) (Sf true (false=Jr6 s)) (∃(y:Nat),Sf s (Sf s (x+Jfx s x=y))∧Kjj y s∧ByteArray.size s-y<ByteArray.size s-x)) (Sf true ((!Lb s B0)=Jr6 s)))∧((x<ByteArray.size s→False)→Br false False (Sf true ((!Lb s B0)=Jr6 s))))=_).mp ?_
 delta Z13 Kkj Kjj Br Sf B0 Lb
 intro hb
 refine⟨(0:Nat),⟨rfl,rfl,rfl⟩,⟨Nat.zero_le _,by simp⟩,fun(k:Nat) hk=>⟨fun h=>⟨fun _=>⟨fun h1=>⟨rfl, ?_⟩,fun h1=> ?_⟩,fun h=>(by cases h)⟩,fun h=> ?_⟩⟩
 ·rw[Jk2] at h1
  have h2:Xd (V6 s k)=false:=by simpa using h1
  unfold Jr6
  have h3:Hd s.data.toList=false:=by
   rw[hk.2,Dv h,Hd]
   by_cases ha:(s[k]'h).toNat<128
   ·rw[←(Jc2 h ha).1,h2];rfl
   ·rw[Jg0 (by omega)];rfl
  rw[h3];rfl
 ·rw[Jk2] at h1
  have h2:Xd (V6 s k)=true:=by simpa using h1
  by_cases ha:(s[k]'h).toNat<128
  ·obtain⟨r1,r2⟩:=Jc2 h ha
   refine⟨(k+1:Nat),⟨rfl,rfl,by rw[r2]⟩,⟨by omega, ?_⟩,by omega⟩
   rw[hk.2,Dv h,Hd,←r1,h2]
   rfl
  ·have:=Jkd h (by omega)
   rw[Jg0 this] at h2
   cases h2
 ·have e:k=s.size:=Nat.le_antisymm hk.1 (Nat.le_of_not_lt h)
  refine⟨fun h=>(by cases h),fun _=>⟨rfl, ?_⟩⟩
  rw[e,List.drop_eq_nil_of_le (by simp)] at hk
  unfold Jr6
  rw[hk.2,Jim]
  rfl
abbrev K63:=K28.add Kn5
abbrev K27:=K63
theorem Jvu (a:ByteArray):bs a.data.toList=a:=rfl
theorem Jdo (c:UInt8):∀l:List UInt8,Lib.splitK [c] 0 (l.count c) l=Jjl c l
 |[]=>rfl
 | x :: r => by
  have ih:=Jdo c r
  by_cases h:x=c
  ·subst h
   rw[Jab,if_pos rfl,List.count_cons_self]
   have e:Lib.index (x::r) [x]=0:=by simp[Lib.index,List.isPrefixOf]
   rw[Lib.splitK,e,←ih]
   rfl
  ·rw[Jab,if_neg h,List.count_cons_of_ne h,←ih]
   have hp:[c].isPrefixOf (x::r)=false:=by
    have:¬c=x:=fun e=>h e.symm
    simp[List.isPrefixOf,this]
   cases hk:r.count c with
   |zero=>rfl
   | succ k =>
    have hi:Lib.index (x::r) [c]=if Lib.index r [c]== -1 then -1 else Lib.index r [c]+1:=by rw[Lib.index,hp];rfl
    by_cases h1:Lib.index r [c]= -1
    ·have e2:Lib.index (x::r) [c]= -1:=by rw[hi,h1];rfl
     simp only[Lib.splitK,e2,h1]
     rfl
    ·have hg:=Lib.index_ge r [c]
     have e2:Lib.index (x::r) [c]=Lib.index r [c]+1:=by rw[hi,if_neg (by simpa using h1)]
     obtain⟨i,hi⟩:=Int.eq_ofNat_of_zero_le (by omega:0≤Lib.index r [c])
     rw[hi] at e2
     have n1:¬((i:Int)== -1)=true:=by simp
     have n2:¬(((i:Int)+1)== -1)=true:=by simp;omega
     simp only[Lib.splitK,e2,hi]
     rw[if_neg n1,if_neg n2]
     have t1:((i:Int)+1).toNat=i+1:=by omega
     have t2:((i:Int)).toNat=i:=by omega
     simp only[t1,t2,Nat.add_zero,List.take_succ_cons,List.length_cons,List.length_nil]
     rfl
theorem Jdk (s:ByteArray) (c:UInt8):Xv s ⟨#[c]⟩=(Jjl c s.data.toList).map bs:=by
 have h:=Lib.splitB_data ⟨#[c]⟩ 0 (Lib.countB s ⟨#[c]⟩) s
 have hc:Lib.countB s ⟨#[c]⟩=s.data.toList.count c:=Lib.count_one c s.data.toList
 rw[hc] at h
 have h2:(Xv s ⟨#[c]⟩).map (·.data.toList)=Jjl c s.data.toList:=by
  rw[←Jdo]
  unfold Xv
  rw[hc];exact h
 rw[←h2,List.map_map]
 exact(List.map_id' _).symm
theorem Jaa (c:UInt8):∀(l w:List UInt8),w∈Jjl c l→w.length≤l.length
 |[],w,h=>by
  have:w=[]:=by simpa[Jjl] using h
  rw[this];exact Nat.le_refl _
 | x :: r, w, h => by
  rw[Jab] at h
  split at h
  ·rcases List.mem_cons.1 h with h|h
   ·rw[h];exact Nat.zero_le _
   ·exact Nat.le_succ_of_le (Jaa c r w h)
  ·split at h
   ·rename_i e;exact absurd e (J3e c r)
   ·rename_i hh t e
    rcases List.mem_cons.1 h with h|h
    ·rw[h]
     exact Nat.succ_le_succ (Jaa c r hh (by rw[e];simp))
    ·exact Nat.le_succ_of_le (Jaa c r w (by rw[e];simp[h]))
theorem Xf (l:List UInt8):(bs l).size=l.length:=by show l.toArray.size=_;simp
theorem Jzg (r:ByteArray) (i:Nat):r.extract 0 i=bs (r.data.toList.take i):=by
 rw[←Jvu (r.extract 0 i),Lib.extract_data];simp
theorem Jo8 (r:ByteArray) (i:Nat):r.extract i r.size=bs (r.data.toList.drop i):=by
 rw[←Jvu (r.extract i r.size),Lib.extract_data,List.take_of_length_le (by simp)]
theorem Jh3 (c:UInt8):∀l:List UInt8,(Jjl c l).length≤l.length+1
 |[]=>Nat.le_refl _
 | x :: r => by
  have ih:=Jh3 c r
  rw[Jab]
  split
  ·simp;omega
  ·split
   ·simp
   ·rename_i e;rw[e] at ih;simp at ih⊢;omega
theorem Dd (c:UInt8):∀(l:List UInt8) (n:Int),Kg (l++[c]) n=if(Kg l n).2=true∧Xd c.toNat=true then(10*(Kg l n).1+(c.toNat-48),true) else(0,false)
 |[],n=>by
  show(if Xd c.toNat=true then _ else _)=_
  by_cases h:Xd c.toNat=true
  ·rw[if_pos h,if_pos ⟨rfl,h⟩];rfl
  ·rw[if_neg h,if_neg (fun q=>h q.2)]
 |x::l,n=>by
  have ih:=Dd c l (10*n+(x.toNat-48))
  show(if Xd x.toNat=true then Kg (l++[c]) (10*n+(x.toNat-48)) else(0,false))=_
  have e:Kg (x::l) n=if Xd x.toNat=true then Kg l (10*n+(x.toNat-48)) else(0,false):=rfl
  rw[e]
  by_cases h:Xd x.toNat=true
  ·rw[if_pos h,if_pos h,ih]
  ·rw[if_neg h,if_neg h,if_neg (fun q=>by cases q.1)]
theorem Jat (u:Nat):10≤u→Lib.decDigits u=Lib.decDigits (u/10)++[UInt8.ofNat (48+u %10)]:=fun h=>Jng (by omega)
theorem Jar {x:Nat} (h:x<10):(UInt8.ofNat (48+x)).toNat=48+x:=UInt8.toNat_ofNat_of_lt' (by show 48+x<256;omega)
theorem Fv {x:Nat} (h:x<10):Xd (UInt8.ofNat (48+x)).toNat=true:=by
 rw[Jar h];unfold Xd;simp;omega
theorem Jne (u:Nat):Kg (Lib.decDigits u) 0=((u:Int),true):=by
 induction u using Nat.strongRecOn with
 | ind u ih =>
  by_cases h:u<10
  ·rw[Lib.decDigits_one h]
   show(if Xd (UInt8.ofNat (48+u)).toNat=true then _ else _)=_
   rw[if_pos (Fv h),Jar h]
   show((_:Int),true)=_
   congr 1;omega
  ·have hd:u %10<10:=Nat.mod_lt _ (by decide)
   rw[Jat u (by omega),Dd,ih (u/10) (by omega),if_pos ⟨rfl,Fv hd⟩,Jar hd]
   congr 1;dsimp only;omega
theorem Ji8 (u:Nat):∃c r,Lib.decDigits u=c::r∧Xd c.toNat=true∧(1≤u→c.toNat≠48):=by
 induction u using Nat.strongRecOn with
 | ind u ih =>
  by_cases h:u<10
  ·refine⟨_,_,Lib.decDigits_one h,Fv h,fun h1=> ?_⟩
   rw[Jar h];omega
  ·obtain⟨c,r,e,h1,h2⟩:=ih (u/10) (by omega)
   exact⟨c,r++[UInt8.ofNat (48+u %10)],by rw[Jat u (by omega),e];rfl,h1,fun _=>h2 (by omega)⟩
theorem Je8 (u:Nat):1≤(Lib.decDigits u).length:=by
 obtain⟨c,r,e,_⟩:=Ji8 u
 rw[e];simp
theorem Ju3:∀(k u:Nat),((Lib.decDigits u).length≤k+1↔u<10^(k+1))
 | 0, u => by
  by_cases h:u<10
  ·rw[Lib.decDigits_one h];simp;omega
  ·have h2:=Je8 (u/10)
   rw[Jat u (by omega),List.length_append]
   simp only[List.length_cons,List.length_nil]
   constructor
   ·intro q;omega
   ·intro q;simp at q;omega
 | k + 1, u => by
  by_cases h:u<10
  ·rw[Lib.decDigits_one h]
   have:10≤10^(k+1+1):=by
    rw[Nat.pow_succ]
    have:=Nat.pos_of_ne_zero (n:=10^(k+1)) (by simp)
    omega
   simp;omega
  ·have ih:=Ju3 k (u/10)
   rw[Jat u (by omega),List.length_append]
   simp only[List.length_cons,List.length_nil]
   rw[Nat.pow_succ]
   constructor
   ·intro q
    have:=ih.1 (by omega)
    omega
   ·intro q
    have:=ih.2 (by omega)
    omega
theorem Kbg:∀(k:Nat) (l:List UInt8),l.length=k+1→(Kg l 0).2=true→(1<l.length→∀c,l.head? =some c→c.toNat≠48)→l=Lib.decDigits (Kg l 0).1.toNat
 | 0, l, hl, hd, _ => by
  match l,hl with
  | [c], _ =>
   have e:Kg [c] 0=if Xd c.toNat=true then((10*0+(c.toNat-48):Int),true) else(0,false):=rfl
   by_cases h:Xd c.toNat=true
   ·rw[e,if_pos h]
    have hr:=Je5 h
    have:((10*0+((c.toNat:Int)-48))).toNat=c.toNat-48:=by omega
    dsimp only
    rw[this,Lib.decDigits_one (by omega),show 48+(c.toNat-48)=c.toNat by omega,UInt8.ofNat_toNat]
   ·rw[e,if_neg h] at hd;cases hd
 | k + 1, l, hl, hd, h0 => by
  obtain⟨i,c,rfl⟩:∃i c,l=i++[c]:=by
   rcases List.eq_nil_or_concat l with h|⟨i,c,h⟩
   ·rw[h] at hl;simp at hl
   ·exact⟨i,c,by simpa using h⟩
  have hil:i.length=k+1:=by simpa using hl
  have hs:=Dd c i 0
  by_cases hc:(Kg i 0).2=true∧Xd c.toNat=true
  ·rw[if_pos hc] at hs
   have hh:∀d,i.head? =some d→d.toNat≠48:=fun d hd=>h0 (by simp;omega) d (by
    cases i with
    |nil=>cases hd
    |cons a b=>exact hd)
   have ih:=Kbg k i hil hc.1 fun _=>hh
   have hr:=Je5 hc.2
   have hn:=(F1 (l:=i) (n:=0) (Int.le_refl _)).1
   obtain⟨m,hm⟩:=Int.eq_ofNat_of_zero_le hn
   rw[hm] at ih hs
   simp only[Int.toNat_natCast] at ih
   have hm1:1≤m:=by
    rcases Nat.eq_zero_or_pos m with h|h
    ·subst h
     rw[ih,Lib.decDigits_one (by decide)] at hh
     exact absurd rfl (hh 48 rfl)
    ·exact h
   rw[hs]
   have e:(10*(m:Int)+((c.toNat:Int)-48)).toNat=10*m+(c.toNat-48):=by omega
   dsimp only
   rw[e,Jat _ (by omega),show(10*m+(c.toNat-48))/10=m by omega,show 48+(10*m+(c.toNat-48)) %10=c.toNat by omega,UInt8.ofNat_toNat,←ih]
  ·rw[hs,if_neg hc] at hd;cases hd
theorem Jq2 {c:UInt8} {r:List UInt8} {n:Nat} (h:48≤c.toNat∧c.toNat≤57) (h1:¬1844674407370955162≤n) (h2:¬18446744073709551616≤n*10+(c.toNat-48)):Lib.parseUint10 n (c::r)=Lib.parseUint10 (n*10+(c.toNat-48)) r:=by
 simp only[Lib.parseUint10]
 rw[if_pos h,if_neg h1,if_neg h2]
theorem Jcf (c:UInt8) (r:List UInt8) (n:Int):Kg (c::r) n=if Xd c.toNat=true then Kg r (10*n+(c.toNat-48)) else(0,false):=rfl
theorem Jtv (l:List UInt8):∀(n:Nat),(Kg l n).2=true→(Kg l n).1<1000000000000000000→Lib.parseUint10 n l= .ok (Kg l n).1.toNat∧(n:Int)≤(Kg l n).1:=by
 induction l with
 |nil=>exact fun n _ _=>⟨rfl,Int.le_refl _⟩
 | cons c r ih =>
  intro n h1 h2
  by_cases h:Xd c.toNat=true
  ·rw[Jcf,if_pos h] at h1 h2⊢
   have hr:=Je5 h
   have en:(10*(n:Int)+((c.toNat:Int)-48))=((n*10+(c.toNat-48):Nat):Int):=by omega
   rw[en] at h1 h2⊢
   obtain⟨a1,a2⟩:=ih _ h1 h2
   have h3:n<1000000000000000000:=by omega
   refine⟨?_,by omega⟩
   rw[Jq2 hr (by omega) (by omega)]
   exact a1
  ·rw[Jcf,if_neg h] at h1;cases h1
theorem Jub {u:Nat} (h:u<1000000000):Lib.parseMag (Lib.decDigits u)= .ok u:=by
 obtain⟨c,r,e,_⟩:=Ji8 u
 unfold Lib.parseMag
 rw[if_neg (by rw[e];simp)]
 have hd:=Jne u
 have:=(Jtv (Lib.decDigits u) 0 (by show(Kg _ 0).2=true;rw[hd]) (by show(Kg _ 0).1<_;rw[hd];dsimp only;omega)).1
 rw[this]
 show Lib.NumEnd.ok (Kg _ 0).1.toNat=_
 rw[hd];rfl
theorem Jv3 {v:Int} (h0: -1000000000<v) (h1:v<1000000000):Lib.atoiAll (Lib.itoa v)= .ok v:=by
 rcases(by omega:v<0∨0≤v) with hv|hv
 ·obtain⟨u,hu⟩:=Int.eq_ofNat_of_zero_le (by omega:0≤-v)
  have hn:v= -(u:Int):=by omega
  subst hn
  rw[Lib.itoa_neg u (by omega)]
  have hm:=Jub (u:=u) (by omega)
  have e45:(45:UInt8).toNat=45:=rfl
  simp only[Lib.atoiAll,e45]
  rw[if_pos (Or.inr trivial),hm]
  dsimp only
  rw[if_neg (by omega),if_neg (by omega),if_pos trivial]
 ·obtain⟨u,rfl⟩:=Int.eq_ofNat_of_zero_le hv
  have e:Lib.itoa (u:Int)=Lib.decDigits u:=Lib.itoa_nonneg u
  rw[e]
  have hm:=Jub (u:=u) (by omega)
  obtain⟨c,r,e,h3,h4⟩:=Ji8 u
  have hr:=Je5 h3
  rw[e] at hm⊢
  simp only[Lib.atoiAll]
  rw[if_neg (by omega),hm]
  dsimp only
  rw[if_neg (by omega),if_neg (by omega),if_neg (by omega)]
theorem Jrh {s:ByteArray} (h:(Ka s).2=true):∃u:Nat,u<1000000000∧s.data.toList=Lib.decDigits u∧(Ka s).1=u:=by
 have hr:=Jnd s
 obtain⟨u,hu⟩:=Int.eq_ofNat_of_zero_le hr.1
 by_cases hb:Jas s=true
 ·unfold Ka at h;rw[if_pos hb] at h;cases h
 ·have ed:Ka s=Kg s.data.toList 0:=by unfold Ka;rw[if_neg hb]
  have hb:Jas s=false:=by simpa using hb
  unfold Jas at hb
  simp only[Bool.or_eq_false_iff,decide_eq_false_iff_not,Bool.and_eq_false_iff] at hb
  obtain⟨⟨b1,b2⟩,b3⟩:=hb
  have hl:s.data.toList.length=s.size:=by simp
  have:=Kbg (s.size-1) s.data.toList (by omega) (by rw[←ed];exact h) (fun hl2 c hc=>by
   rcases b3 with b3|b3
   ·omega
   ·intro q
    apply b3
    have:Jau s 0=c.toNat:=by
     unfold Jau
     rw[List.getD_eq_getElem?_getD]
     have e0:s.data.toList[(0:Int).toNat]? =some c:=by rw[←hc];simp[List.head?_eq_getElem?]
     rw[e0];rfl
    rw[this,q];rfl)
  rw[←ed,hu] at this
  exact⟨u,by omega,this,hu⟩
theorem Jfi:∀{l:List UInt8} {n:Int},Hd l=true→(Kg l n).2=true
 |[],_,_=>rfl
 |c::r,n,h=>by
  rw[Hd,Bool.and_eq_true] at h
  rw[Kg,if_pos h.1]
  exact Jfi h.2
theorem Jev:∀{l:List UInt8} {n:Int},(Kg l n).2=true→Hd l=true
 |[],_,_=>rfl
 | c :: r, n, h => by
  rw[Kg] at h
  by_cases q:Xd c.toNat=true
  ·rw[if_pos q] at h
   rw[Hd,q,Jev h];rfl
  ·rw[if_neg q] at h;cases h
theorem Je6:∀{l:List UInt8} {n:Int},(Kg l n).2=false→Kg l n=(0,false)
 |[],_,h=>by cases h
 |c::r,n,h=>by
  rw[Kg] at h⊢
  by_cases q:Xd c.toNat=true
  ·rw[if_pos q] at h⊢;exact Je6 h
  ·rw[if_neg q]
theorem Juk (s:ByteArray):(bif bif !Jr6 s then true else decide (9<(s.size:Int)) then true else bif decide (1<(s.size:Int)) then(((s.data.toList.getD 0 0).toNat:Int)==48) else false)= !(Ka s).2:=by
 have hb:=Jv1 s
 have hl:s.data.toList.length=s.size:=by simp
 unfold Jr6
 cases ha:Hd s.data.toList with
 | false =>
  have e:(Ka s).2=false:=by
   unfold Ka
   split
   ·rfl
   ·cases h:(Kg s.data.toList 0).2 with
    |false=>rfl
    |true=>rw[Jev h] at ha;cases ha
  rw[e];rfl
 | true =>
  have e:(Ka s).2= !Jas s:=by
   unfold Ka
   cases hd:Jas s with
   |true=>rfl
   |false=>exact Jfi ha
  rw[e,←hb]
  have e1:decide (0<s.size)= !((s.size:Int)==0):=by
   by_cases q:s.size=0
   ·rw[q];rfl
   ·rw[decide_eq_true (by omega),beq_eq_false_iff_ne.2 (by omega)];rfl
  rw[e1]
  cases((s.size:Int)==0)<;>simp
theorem Jrk {s:ByteArray} (h:(Ka s).2=true):Jr8 s=(Ka s).1:=by
 obtain⟨u,h1,h2,h3⟩:=Jrh h
 have e:Lib.itoa (u:Int)=Lib.decDigits u:=Lib.itoa_nonneg u
 have:=Jv3 (v:=(u:Int)) (by omega) (by omega)
 unfold Jr8
 rw[h2,←e,this,h3]
def K0y (a:Bt):=bif !Jr6 a then true else decide (9<Nc (ByteArray.size a))
theorem Kn4:Ok Tryz.prog 187 J4v:=okW K27 Tryz.f187 na fun xx=>by
 obtain⟨(s:ByteArray),_⟩:=xx
 refine(by kernel_rfl:(ByteArray.size s≤1000000→(ByteArray.size s≤1000000∧(K0y s=false∧decide (1<Nc (ByteArray.size s))=true→Bd 0 (Nc (ByteArray.size s))))∧Br (bif K0y s then true else bif decide (1<Nc (ByteArray.size s)) then Kla s==48 else false) (0=(Ka s).1∧false=(Ka s).2) (ByteArray.size s≤1000000∧Jr8 s=(Ka s).1∧true=(Ka s).2))=_).mp ?_
 delta Z13 K0y Kla Br Bd Nc
 intro hs
 rw[Juk]
 refine⟨⟨hs,fun h=>⟨Int.le_refl _,by have:=of_decide_eq_true h.2;omega⟩⟩,fun h=> ?_,fun h=> ?_⟩
 ·have h:(Ka s).2=false:=by simpa using h
  have e:Ka s=(0,false):=by
   unfold Ka at h⊢
   split
   ·rfl
   ·rename_i q
    rw[if_neg q] at h
    exact Je6 h
  rw[e];exact⟨rfl,rfl⟩
 ·have h:(Ka s).2=true:=by simpa using h
  exact⟨hs,Jrk h,h.symm⟩
abbrev K26:=K27.add Kn4
def Jr1:List UInt8→Int→Int
 |[],x=>x
 |b::r,x=>Jr1 r ((341*x+(b.toNat:Int)).tmod 9999721)
def Jfu (s:ByteArray):Int:=Jr1 s.data.toList 1
def K1h (l:List UInt8):List UInt8:=List.replicate (7-l.length) 48++l
def Jn6 (s:ByteArray):ByteArray:=bs (K1h (Lib.itoa (Jfu s)))
theorem Jsy:∀{l:List UInt8} {x:Int},0≤x∧x<9999721→0≤Jr1 l x∧Jr1 l x<9999721
 |[],_,h=>h
 |b::r,x,h=>by
  unfold Jr1
  have hb:(0:Int)≤b.toNat:=by omega
  exact Jsy ⟨Int.tmod_nonneg _ (by omega),Int.tmod_lt_of_pos _ (by decide)⟩
theorem Jmh (s:ByteArray):0≤Jfu s∧Jfu s<9999721:=Jsy ⟨by decide,by decide⟩
theorem Jh0 (s:ByteArray):1≤(Lib.itoa (Jfu s)).length∧(Lib.itoa (Jfu s)).length≤7:=by
 obtain⟨h0,h1⟩:=Jmh s
 obtain⟨u,hu⟩:=Int.eq_ofNat_of_zero_le h0
 rw[hu] at h1⊢
 rw[show Lib.itoa (u:Int)=Lib.decDigits u from Lib.itoa_nonneg u]
 exact⟨Je8 u,(Ju3 6 u).2 (by have:u<9999721:=(by omega);omega)⟩
theorem K33 (n:Nat):Lib.repeatL [48] n=List.replicate n 48:=by
 induction n with
 |zero=>rfl
 |succ n ih=>rw[List.replicate_succ,←ih];rfl
def K1p:Con:={args:=[aS],ress:=[tS],owns:=[],pre:=fun(s,_)=>[s.size≤1000000],spec:=fun(s,_)=>(Jn6 s,())}
abbrev Kcv (s:ByteArray):Ann:={X:=Nat×Int,σ:=fun(k,x)=>⟨0,[(0, .one (.str s)),(3, .one (.int .i64 x)),(7, .one (.int .i64 s.size)),(8, .one (.int .i64 k))],[]⟩,inv:=fun(k,x)=>k≤s.size∧(0≤x∧x<9999721)∧Jr1 (s.data.toList.drop k) x=Jfu s,mu:=fun(k,_)=>s.size-k}
theorem Jvr (s:ByteArray) (k:Nat):(s.data.toList.getD k 0).toNat<256:=(s.data.toList.getD k 0).toNat_lt
def Kf9 (a:Nat×Int):=7-Nc (ByteArray.size (Vg a.2))
def K0j (a:Nat×Int):=Kaq (ByteArray.mk (Array.mk [48])) (Kf9 a)
def Kkq (a:Nat×Int) (b:Bt):=341*a.2+Nc (UInt8.toNat (List.getD (Z13 b) a.1 0))
def Kjg (a:Nat×Int) (b:Bt) (c:Nat×Int):=Int.tmod (Kkq a b) 9999721=c.2
def J53 (a:Nat×Int) (b:Bt):=a.1≤ByteArray.size b∧Bd a.2 9999721∧Jr1 (List.drop a.1 (Z13 b)) a.2=Jfu b
def Kh3 (a:Nat×Int) (b:Bt) (c:Nat×Int):=J53 a b∧ByteArray.size b-a.1<ByteArray.size b-c.1
def Kg7 (a:Nat×Int) (b:Bt):=Iw (341*a.2)∧Bd (Nc a.1) (Nc (ByteArray.size b))∧Iw (Nc (UInt8.toNat (List.getD (Z13 b) a.1 0)))∧Iw (Kkq a b)∧((9999721:Int)=0→False)
theorem Kn6:Ok Tryz.prog 184 K1p:=okW K26 Tryz.f184 (fun xx=>X3 (Kcv xx.1)) fun xx=>by
 obtain⟨(s:ByteArray),_⟩:=xx
 refine(by kernel_rfl:(ByteArray.size s≤1000000→∃(x:Nat×Int),Sf s (1=x.2∧Si (Nc (ByteArray.size s)) (0=Nc x.1))∧J53 x s∧∀(x:Nat×Int),J53 x s→Br (decide (Nc x.1<Nc (ByteArray.size s))) (Kg7 x s∧Z32 x∧∃(y:Nat×Int),Sf s (Kjg x s y∧Si (Nc (ByteArray.size s)) (Jrs x y))∧Kh3 y s x) (Iw x.2∧(Iw (Kf9 x)∧1≤1000000∧(0≤Kf9 x∧Kf9 x≤1000000)∧Nc (ByteArray.size (K0j x)+ByteArray.size (Vg x.2))≤9223372036854775807)∧ByteArray.mk (Array.mk ((K0j x).data.toList++(Vg x.2).data.toList))=Jn6 s))=_).mp ?_
 delta Z13 Z32 Jrs Kf9 K0j Kkq Kjg J53 Kh3 Kg7 Br Iw Bd Sf Si Nc
 intro hs
 refine⟨((0:Nat),(1:Int)),by(repeat' first|exact rfl|exact⟨⟩|apply And.intro|omega|dsimp only;omega),⟨Nat.zero_le _,by(first|omega|dsimp only;omega),rfl⟩,fun(y:Nat×Int) hk=>⟨fun h=> ?_,fun h=> ?_⟩⟩
 ·obtain⟨k,x⟩:=y
  have hlt:k<s.size:=by simpa using h
  obtain⟨k1,k2,k3⟩:=hk
  dsimp only at k1 k2
  rw[Dg hlt,Jr1] at k3
  have hb:=Jvr s k
  refine⟨by(repeat' first|apply And.intro|(first|omega|dsimp only;omega)),by(repeat' first|apply And.intro|(first|omega|dsimp only;omega)),(k+1,_),⟨rfl,rfl,rfl, ?_⟩,⟨by(first|omega|dsimp only;omega), ?_,k3⟩,by(first|omega|dsimp only;omega)⟩
  ·dsimp only;push_cast;rfl
  ·exact⟨Int.tmod_nonneg _ (by(first|omega|dsimp only;omega)),Int.tmod_lt_of_pos _ (by decide)⟩
 ·obtain⟨k,x⟩:=y
  have hlt:¬k<s.size:=by simpa using h
  obtain⟨k1,k2,k3⟩:=hk
  have e:k=s.size:=by omega
  rw[e,List.drop_eq_nil_of_le (by simp),Jr1] at k3
  have k3:x=Jfu s:=k3
  have hl:=Jh0 s
  dsimp only
  rw[k3]
  have hz:(Vg (Jfu s)).size=(Lib.itoa (Jfu s)).length:=rfl
  rw[hz]
  have hr:Kaq {data:={toList:=[48]}} (7-((Lib.itoa (Jfu s)).length:Int))=bs (List.replicate (7-(Lib.itoa (Jfu s)).length) 48):=by
   unfold Kaq
   rw[show(7-((Lib.itoa (Jfu s)).length:Int)).toNat=7-(Lib.itoa (Jfu s)).length by omega]
   exact congrArg bs (K33 _)
  have hb:=Jmh s
  rw[hr,Xf,List.length_replicate]
  exact⟨by(repeat' first|apply And.intro|(first|omega|dsimp only;omega)),⟨by(repeat' first|apply And.intro|(first|omega|dsimp only;omega)),by decide,by(repeat' first|apply And.intro|(first|omega|dsimp only;omega)),by omega⟩,rfl⟩
abbrev K25:=K26.add Kn6
def Jz0 (e:Ev):List ByteArray:=Vg e.1::e.2.1::(e.2.2.1++e.2.2.2.1.map Vg)
def Zr (e:Ev):ByteArray:=Vo (Jz0 e) ⟨⟨[32]⟩⟩
def Kb5:Con:={args:=[.val false (.list 3 sI), .fn [I] tS],ress:=[(false, .list 9 .str)],owns:=[true],pre:=fun(l,(q,_),_)=>[l.length≤1000000,∀x∈l,Uj (q (x,()))],spec:=fun(l,(_,f),_)=>(l.map fun x=>f (x,()),())}
def J9r (a:Int×Unit→Bt) (b:Nat) (c:Li):=List.map (fun(x:Int)=>a (x,PUnit.unit)) (List.take b c)
theorem Knv:Ok Tryz.prog 199 Kb5:=okW K25 Tryz.f199 (fun xx=>X3 (Ja0 3 9 sI xx.1 tS false xx.2.1.1 xx.2.1.2)) fun xx=>by
 obtain⟨(l:List Int),⟨(q:Int×Unit→List Prop),(f:Int×Unit→ByteArray)⟩,_⟩:=xx
 refine(by kernel_rfl:(Z56 l→Kkm l q→∃(x:Nat),Si (Ln l) (0=Nc x∧Sf l ((fun(x:Int×PUnit)=>q x)=q∧(fun(x:Int×PUnit)=>f x)=f∧List.length (J9r f x l)=0))∧x≤List.length l∧∀(x:Nat),x≤List.length l→Br (decide (Nc x<Ln l)) (Tw (Bd (Nc x) (Ln l))∧(Uj (q (Z17 l x,PUnit.unit))∧(List.length (J9r f x l)+1)*16≤140737488355328)∧Z14 x∧∃(y:Nat),Si (Ln l) (Z91 x y∧Sf l ((fun(x:Int×PUnit)=>q x)=q∧(fun(x:Int×PUnit)=>f x)=f∧J9r f x l++[f (Z17 l x,PUnit.unit)]=J9r f y l))∧y≤List.length l∧J2q l y x) (J9r f x l=List.map (fun(x:Int)=>f (x,PUnit.unit)) l))=_).mp ?_
 delta Z14 Z17 Z56 Z91 J6r J2q J9r Kkm Br Iw Bd Tw Sf Si Ln Nc
 intro hb hq
 refine⟨(0:Nat),⟨rfl,rfl,rfl,rfl,rfl,by simp⟩,Nat.zero_le _,fun(k:Nat) hk=>⟨fun h=> ?_,fun h=> ?_⟩⟩
 ·have hlt:k<l.length:=by simpa using h
  refine⟨by omega,⟨hq (l.getD k 0) (Jd hlt),by simp only[List.length_map,List.length_take];omega⟩,by omega,(k+1:Nat),⟨rfl,by simp,rfl,rfl,rfl, ?_⟩,by omega,by omega⟩
  rw[←K4 (d:=0) hlt,List.map_append];rfl
 ·have hlt:¬k<l.length:=by simpa using h
  rw[List.take_of_length_le (by omega)]
abbrev K24:=K25.add Knv
structure Lt (e:Ev):Prop where
 num: -999999999≤e.1∧e.1≤999999999
 nn:e.2.2.1.length≤1000
 nv:e.2.2.2.1.length≤1000
 val:∀v∈e.2.2.2.1,-999999999≤v∧v≤999999999
 siz:((Jz0 e).map fun s=>s.size+1).sum≤1000000
theorem Jiv {sep:List UInt8} (hs:sep.length=1):∀{l:List (List UInt8)},(Lib.join l sep).length≤(l.map fun x=>x.length+1).sum
 |[]=>by simp[Lib.join,List.intercalate]
 |[x]=>by simp[Lib.join,List.intercalate,List.intersperse]
 |x::y::r=>by
  have ih:=Jiv hs (l:=y::r)
  have e:Lib.join (x::y::r) sep=x++sep++Lib.join (y::r) sep:=by simp[Lib.join,List.intercalate,List.intersperse]
  rw[e]
  simp only[List.length_append,List.map_cons,List.sum_cons] at ih⊢
  omega
theorem Jg7 {e:Ev} (h:Lt e):(Lib.join ((Jz0 e).map (·.data.toList)) [32]).length≤1000000:=by
 refine Nat.le_trans (Jiv (sep:=[32]) rfl) (Nat.le_trans (Nat.le_of_eq ?_) h.siz)
 rw[List.map_map]
 congr 1
def Kq1:Con:={args:=[aEv],ress:=[tS],owns:=[],pre:=fun(e,_)=>[Lt e],spec:=fun(e,_)=>(Zr e,())}
def Hj:=ByteArray.mk (Array.mk [32])
def Klf (a:Ls) (b:Li):=[]++a++List.map (fun(x:Int)=>Vg x) b
theorem Kn7:Ok Tryz.prog 183 Kq1:=okW K24 Tryz.f183 na fun xx=>by
 obtain⟨⟨(n:Int),(k:ByteArray),(ns:List ByteArray),(vs:List Int),(tx:ByteArray)⟩,_⟩:=xx
 refine(by kernel_rfl:(Lt (n,k,ns,vs,tx)→(Iw n∧(2+List.length ns)*16≤140737488355328)∧(Z56 vs∧(∀(x:Int),J6r vs x→Iw x)∧(List.length (Vg n::k::([]++ns))+List.length (List.map (fun(x:Int)=>Vg x) vs))*16≤140737488355328∧List.length (Vg n::k::Klf ns vs)≤1000000∧List.length (Lib.join ((Vg n).data.1::k.data.1::List.map (fun(x:ByteArray)=>Z13 x) (Klf ns vs)) [32])≤140737488355328)∧Vo (Vg n::k::Klf ns vs) Hj=Zr (n,k,ns,vs,tx))=_).mp ?_
 delta Z13 Z56 Hj J6r Klf Iw
 intro h
 have h1: -999999999≤n∧n≤999999999:=h.num
 have h2:ns.length≤1000:=h.nn
 have h3:vs.length≤1000:=h.nv
 have hs:=Jg7 h
 simp only[List.nil_append,List.length_cons,List.length_append,List.length_map]
 exact⟨by(repeat' first|apply And.intro|(first|omega|dsimp only;omega)),⟨by omega,fun x hx=>by have:=h.val x hx;omega,by omega,by omega,Nat.le_trans hs (by decide)⟩,rfl⟩
abbrev K23:=K24.add Kn7
theorem Jj5 (s:ByteArray):(Jn6 s).size=7:=by
 have h:=Jh0 s
 unfold Jn6 K1h
 rw[Xf,List.length_append,List.length_replicate]
 omega
theorem Jpg {e:Ev} (h:Lt e):(Zr e).size≤1000000:=Jg7 h
def J3k (e:Ev):ByteArray:=bs ((Zr e).data.toList++[35]++(Jn6 (Zr e)).data.toList++[10])
def K5q:Con:={args:=[aEv],ress:=[tS],owns:=[],pre:=fun(e,_)=>[Lt e],spec:=fun(e,_)=>(J3k e,())}
def Kvu (a:Int) (b:Bt) (c:Ls) (d:Li) (e:Bt):=Array.mk ((Array.mk ((Zr (a,b,c,d,e)).data.toList++[35])).toList++(Jn6 (Zr (a,b,c,d,e))).data.toList)
theorem Kpx:Ok Tryz.prog 106 K5q:=okW K23 Tryz.f106 na fun xx=>by
 obtain⟨⟨(n:Int),(k:ByteArray),(ns:List ByteArray),(vs:List Int),(tx:ByteArray)⟩,_⟩:=xx
 refine(by kernel_rfl:(Lt (n,k,ns,vs,tx)→Lt (n,k,ns,vs,tx)∧(Nc (ByteArray.size (Zr (n,k,ns,vs,tx))+1)≤9223372036854775807∧ByteArray.size (Zr (n,k,ns,vs,tx))≤1000000∧Nc (ByteArray.size (ByteArray.mk (Array.mk ((Zr (n,k,ns,vs,tx)).data.toList++[35])))+ByteArray.size (Jn6 (Zr (n,k,ns,vs,tx))))≤9223372036854775807∧Nc (ByteArray.size (ByteArray.mk (Kvu n k ns vs tx))+1)≤9223372036854775807)∧ByteArray.mk (Array.mk ((Kvu n k ns vs tx).toList++[10]))=J3k (n,k,ns,vs,tx))=_).mp ?_
 delta Kvu Nc
 intro h
 have h1:=Jpg h
 have h2:=Jj5 (Zr (n,k,ns,vs,tx))
 have h3:(bs ((Zr (n,k,ns,vs,tx)).data.toList++[35])).size=(Zr (n,k,ns,vs,tx)).size+1:=by rw[Xf,List.length_append];simp
 have h4:(bs ((Zr (n,k,ns,vs,tx)).data.toList++[35]++(Jn6 (Zr (n,k,ns,vs,tx))).data.toList)).size=(Zr (n,k,ns,vs,tx)).size+8:=by rw[Xf,List.length_append,List.length_append];simp[h2]
 refine⟨h,⟨by omega,h1, ?_, ?_⟩,rfl⟩
 ·show((bs ((Zr (n,k,ns,vs,tx)).data.toList++[35])).size+(Jn6 (Zr (n,k,ns,vs,tx))).size:Nat)≤(9223372036854775807:Int)
  omega
 ·show((bs ((Zr (n,k,ns,vs,tx)).data.toList++[35]++(Jn6 (Zr (n,k,ns,vs,tx))).data.toList)).size+1:Nat)≤(9223372036854775807:Int)
  omega
abbrev K62:=K23.add Kpx
abbrev K22:=K62.add Kms
abbrev Tk:=List ByteArray×Bool
def U2:Tk→ByteArray×Tk
 |([],_)=>(Jb,[],true)
 |(w::l,b)=>bif w.toList==Jb.toList then(Jb,[],true) else(w,l,b)
def Ll (t:Tk):Bool:=bif (t.1.length:Int)==0 then true else(t.1.getD 0 Jb).toList==Jb.toList
theorem F6:∀(t:Tk),U2 t=bif Ll t then(Jb,[],true) else(t.1.getD 0 Jb,t.1.drop 1,t.2)
 |([],_)=>rfl
 | (w :: l, b) => by
  have e:Ll (w::l,b)=(w.toList==Jb.toList):=by
   unfold Ll
   rw[beq_eq_false_iff_ne.2 (show(((w::l,b):Tk).1.length:Int)≠0 by simp;omega)];rfl
  rw[e]
  show(bif w.toList==Jb.toList then(Jb,[],true) else(w,l,b))=_
  cases w.toList==Jb.toList<;>rfl
theorem Jc8 {t:Tk} (h:Ll t=false):0<t.1.length:=by
 unfold Ll at h
 by_cases q:t.1.length=0
 ·rw[q] at h;cases h
 ·omega
def J29 (t:Tk):Int×Tk:=((Ka (U2 t).1).1,(U2 t).2.1,bif (U2 t).2.2 then true else !(Ka (U2 t).1).2)
def L3:Nat→Tk→List ByteArray→List ByteArray×Tk
 |0,t,o=>(o,t)
 |n+1,t,o=>L3 n (U2 t).2 (o++[(U2 t).1])
def F7:Nat→Tk→List Int→List Int×Tk
 |0,t,o=>(o,t)
 |n+1,t,o=>F7 n (J29 t).2 (o++[(J29 t).1])
def evz:Ev:=(0,Jb,[],[],Jb)
theorem Jit (k:ByteArray):(Ji k).1.length≤3∧0≤(Ji k).2.1∧(Ji k).2.1≤4:=by
 cases h:Yu k with
 | false =>
  have e:Ji k=([],0,none,none,none):=by
   unfold Yu at h
   unfold Ji
   cases hm:Vn .str k Lk with
   |none=>rfl
   |some v=>rw[hm] at h;cases h
  rw[e];decide
 |true=>
  rcases U3 h with h|h|h|h|h|h|h|h|h|h|h<;>subst h
  all_goals first|(rw[Jbl];decide)|(rw[Ky];decide)|(rw[U6];decide)|(rw[Uo];decide)|(rw[Up];decide)|(rw[Vf];decide)|(rw[Kq];decide)|(rw[Ke];decide)|(rw[Kt];decide)|(rw[Ks];decide)|(rw[Um];decide)
def Xy (ws:List ByteArray):List ByteArray×Tk:=L3 (Ji (U2 (ws,false)).1).1.length (U2 (ws,false)).2 []
def Jb9 (ws:List ByteArray):List Int×Tk:=F7 (Ji (U2 (ws,false)).1).2.1.toNat (Xy ws).2 []
def Y3 (ws:List ByteArray):Ev×Bool:=bif Yu (U2 (ws,false)).1 then((0,(U2 (ws,false)).1,(Xy ws).1,(Jb9 ws).1,Jb),bif !(Jb9 ws).2.2 then((Jb9 ws).2.1.length:Int)==0 else false) else(evz,false)
def Kqk:Con:={args:=[.val false (.list 9 .str)],ress:=[(true,sEv),Bo],owns:=[],pre:=fun(ws,_)=>[ws.length≤1000000,∀w∈ws,w.size≤1000000],spec:=fun(ws,_)=>((Y3 ws).1,(Y3 ws).2,())}
abbrev J5g (ws:List ByteArray):Nat→Option Ann:=fun id=>if id=0 then some {X:=Nat×Tk×List ByteArray,σ:=fun(i,(rem,b),o)=>⟨9,[(2, .one (.ptr 1 0)),(4, .one (.ptr 2 0)),(5, .one (.fv 3)),(6, .one (.fv 4)),(7, .one (.ptr 5 0)),(8, .one (.ptr 7 0)),(34, .one (.int .i64 (Ji (U2 (ws,false)).1).1.length)),(35, .one (.int .i64 i))],[(1, .box 67 [.int .i64 0, .str Jb, .val (.slice none 0 0), .val (.slice none 0 0), .str Jb]),(2, .box 279 [.sl 0, .bool b]),(3, .clo 210 [.one (.ptr 2 0)] []),(4, .clo 211 [.one (.ptr 2 0)] []),(5, .box 67 [.int .i64 0, .str (U2 (ws,false)).1, .sl 6, .val (.slice none 0 0), .str Jb]),(7, .box 173 [.sl 8, .int .i64 (Ji (U2 (ws,false)).1).2.1, .fno (Ji (U2 (ws,false)).1).2.2.1, .fno (Ji (U2 (ws,false)).1).2.2.2.1, .fno (Ji (U2 (ws,false)).1).2.2.2.2]),(6, .own 9 .str o),(8, .imm 251 Jyl (Ji (U2 (ws,false)).1).1),(0, .imm 9 .str rem)]⟩,inv:=fun(i,t,o)=>i≤(Ji (U2 (ws,false)).1).1.length∧t.1.length≤1000000∧(∀w∈t.1,w.size≤1000000)∧o.length=i∧L3 ((Ji (U2 (ws,false)).1).1.length-i) t o=Xy ws,mu:=fun(i,_)=>(Ji (U2 (ws,false)).1).1.length-i}
 else if id=2 then some {X:=Nat×Tk×List Int,σ:=fun(i,(rem,b),o)=>⟨10,[(2, .one (.ptr 1 0)),(4, .one (.ptr 2 0)),(6, .one (.fv 4)),(7, .one (.ptr 5 0)),(47, .one (.int .i64 (Ji (U2 (ws,false)).1).2.1)),(48, .one (.int .i64 i))],[(1, .box 67 [.int .i64 0, .str Jb, .val (.slice none 0 0), .val (.slice none 0 0), .str Jb]),(2, .box 279 [.sl 0, .bool b]),(4, .clo 211 [.one (.ptr 2 0)] []),(5, .box 67 [.int .i64 0, .str (U2 (ws,false)).1, .sl 6, .sl 9, .str Jb]),(6, .own 9 .str (Xy ws).1),(9, .own 3 sI o),(0, .imm 9 .str rem)]⟩,inv:=fun(i,t,o)=>i≤(Ji (U2 (ws,false)).1).2.1.toNat∧t.1.length≤1000000∧(∀w∈t.1,w.size≤1000000)∧o.length=i∧F7 ((Ji (U2 (ws,false)).1).2.1.toNat-i) t o=Jb9 ws,mu:=fun(i,_)=>(Ji (U2 (ws,false)).1).2.1.toNat-i}
 else none
def Z64 (a:Ls):=(Ji (U2 (a,false)).1).1
def Z65 (a:Ls):=(Ji (U2 (a,false)).1).2
def Z88 (a:Ls):=(Z65 a).1
def Kgc (a:Ls):=(Z65 a).2.1
def Kgb (a:Ls):=(Z65 a).2.2.2
def Kga (a:Ls):=(Z65 a).2.2.1
def Kf7 (a:Nat×Tk×Li):=List.getD a.2.1.1 0 B0
def J6v (a:Ls):=Int.toNat (Z88 a)
def J9x (a:Ls):=Ln (Z64 a)
def J6n (a:Ls):=List.length (Z64 a)
def K02 (a:Nat×Tk×Ls):=(List.length a.2.2+1)*16≤140737488355328
def K00 (a:Ls):=(Ji (U2 (a,false)).1).1=Z64 a
def Kzi (a:Ls):=Sf true (Lz=(Y3 a).1∧false=(Y3 a).2)
def Kwq (a:Ls):=Vn Sch.str (U0 a) Lk
def Kg2 (a:Ls):=Option.getD (Kwq a) J9h
def Ktu (a:Nat×(Ls×Bool)×Li) (b:Ls):=a.1≤J6v b∧List.length a.2.1.1≤1000000∧(∀(w:ByteArray),w∈a.2.1.1→ByteArray.size w≤1000000)∧List.length a.2.2=a.1∧F7 (J6v b-a.1) a.2.1 a.2.2=Jb9 b
def Kts (a:Ls):=(Kg2 a).2
def Ktr (a:Ls):=(Kts a).2
def Ktq (a:Ls):=(Ktr a).2
def Kth (a:Nat×(Ls×Bool)×Ls) (b:Ls):=a.1≤J6n b∧List.length a.2.1.1≤1000000∧(∀(w:ByteArray),w∈a.2.1.1→ByteArray.size w≤1000000)∧List.length a.2.2=a.1∧L3 (J6n b-a.1) a.2.1 a.2.2=Xy b
def Ks0 (a:Nat×(Ls×Bool)×Li) (b:Ls) (c:Nat×Tk×Li):=Ktu a b∧J6v b-a.1<J6v b-c.1
def Ksm (a:Nat×(Ls×Bool)×Ls) (b:Ls) (c:Nat×Tk×Ls):=Kth a b∧J6n b-a.1<J6n b-c.1
def J6y (a:Nat×(Ls×Bool)×Ls) (b:Ls):=Kth a b∧∀(x:Nat×Tk×List ByteArray),x.1≤J6n b∧List.length x.2.1.1≤1000000∧(∀(w:ByteArray),w∈x.2.1.1→ByteArray.size w≤1000000)∧List.length x.2.2=x.1∧L3 (J6n b-x.1) x.2.1 x.2.2=Xy b→Br (decide (Nc x.1<J9x b)) (Tw ((Ln x.2.1.1==0)=false→Bd 0 (Ln x.2.1.1))∧Br (bif Ln x.2.1.1==0 then true else Lb (List.getD x.2.1.1 0 B0) B0) (K02 x∧Iw (Nc x.1+1)∧∃(y:Nat×(List ByteArray×Bool)×List ByteArray),Si (J9x b) (Nc x.1+1=Nc y.1∧Si 0 (Sf Jb (Sf Jo (Sf Jo (Sf Jb (true=y.2.1.2∧Si 0 (Sf (U2 (b,false)).1 (Sf Jo (Sf Jb (Si (Z88 b) (Sf (Kgc b) (Sf (Kga b) (Sf (Kgb b) (x.2.2++[B0]=y.2.2∧K00 b∧List.length y.2.1.1=0))))))))))))))∧Ksm y b x) (Tw (Bd 0 (Ln x.2.1.1))∧((0:Int)≤1∧1≤Ln x.2.1.1∧Ln x.2.1.1≤Ln x.2.1.1)∧K02 x∧Iw (Nc x.1+1)∧∃(y:Nat×(List ByteArray×Bool)×List ByteArray),Si (J9x b) (Nc x.1+1=Nc y.1∧Si 0 (Sf Jb (Sf Jo (Sf Jo (Sf Jb (x.2.1.2=y.2.1.2∧Si 0 (Sf (U2 (b,false)).1 (Sf Jo (Sf Jb (Si (Z88 b) (Sf (Kgc b) (Sf (Kga b) (Sf (Kgb b) (x.2.2++[List.getD x.2.1.1 0 B0]=y.2.2∧K00 b∧List.drop 1 (List.take (List.length x.2.1.1) x.2.1.1)=y.2.1.1))))))))))))))∧Ksm y b x)) (∃(x_1:Nat×(List ByteArray×Bool)×List Int),Si (Z88 b) (0=Nc x_1.1∧Si 0 (Sf Jb (Sf Jo (Sf Jo (Sf Jb (x.2.1.2=x_1.2.1.2∧Si 0 (Sf (U2 (b,false)).1 (Sf Jb (x.2.2=(Xy b).1∧List.length x_1.2.2=0∧x.2.1.1=x_1.2.1.1)))))))))∧Ktu x_1 b∧∀(x:Nat×Tk×List Int),x.1≤J6v b∧List.length x.2.1.1≤1000000∧(∀(w:ByteArray),w∈x.2.1.1→ByteArray.size w≤1000000)∧List.length x.2.2=x.1∧F7 (J6v b-x.1) x.2.1 x.2.2=Jb9 b→Br (decide (Nc x.1<Z88 b)) (Tw ((Ln x.2.1.1==0)=false→Bd 0 (Ln x.2.1.1))∧Br (bif Ln x.2.1.1==0 then true else Lb (Kf7 x) B0) (0≤1000000∧(List.length x.2.2+1)*8≤140737488355328∧Iw (Nc x.1+1)∧∃(y:Nat×(List ByteArray×Bool)×List Int),Si (Z88 b) (Nc x.1+1=Nc y.1∧Si 0 (Sf Jb (Sf Jo (Sf Jo (Sf Jb (true=y.2.1.2∧Si 0 (Sf (U2 (b,false)).1 (Sf Jb ((Xy b).1=(Xy b).1∧x.2.2++[(Ka B0).1]=y.2.2∧List.length y.2.1.1=0)))))))))∧Ks0 y b x) (Tw (Bd 0 (Ln x.2.1.1))∧((0:Int)≤1∧1≤Ln x.2.1.1∧Ln x.2.1.1≤Ln x.2.1.1)∧ByteArray.size (Kf7 x)≤1000000∧(List.length x.2.2+1)*8≤140737488355328∧Iw (Nc x.1+1)∧∃(y:Nat×(List ByteArray×Bool)×List Int),Si (Z88 b) (Nc x.1+1=Nc y.1∧Si 0 (Sf Jb (Sf Jo (Sf Jo (Sf Jb ((bif x.2.1.2 then true else !(Ka (Kf7 x)).2)=y.2.1.2∧Si 0 (Sf (U2 (b,false)).1 (Sf Jb ((Xy b).1=(Xy b).1∧x.2.2++[(Ka (Kf7 x)).1]=y.2.2∧List.drop 1 (List.take (List.length x.2.1.1) x.2.1.1)=y.2.1.1)))))))))∧Ks0 y b x)) (Sf true ((0,(U2 (b,false)).1,(Xy b).1,x.2.2,Jb)=(Y3 b).1∧(bif !x.2.1.2 then Ln x.2.1.1==0 else false)=(Y3 b).2)))
theorem Kpr:Ok Tryz.prog 120 Kqk:=Jty K22 Tryz.f120 (Us (l:=([(210,Tryz.f210),(211,Tryz.f211)]:List (Nat×Func))) (List.forall_mem_cons.2 ⟨by kernel_rfl,List.forall_mem_cons.2 ⟨by kernel_rfl,by simp⟩⟩)) (fun xx=>J5g xx.1) (fun xx=>fun _=>na ()) fun xx=>by
 obtain⟨(ws:List ByteArray),_⟩:=xx
 refine(by kernel_rfl:(Dl ws→Jco ws→Tw ((Ln ws==0)=false→Z95 ws)∧Br (bif Ln ws==0 then true else Lb (U0 ws) B0) (Br true (Kzi ws) (∃(x:Nat×(List ByteArray×Bool)×List ByteArray),(0=J9x ws∧0=Nc x.1∧Si 0 (B0=Jb∧Sf Jo (Sf Jo (B0=Jb∧true=x.2.1.2∧Si 0 (B0=(U2 (ws,false)).1∧Sf Jo (B0=Jb∧0=Z88 ws∧none=Kgc ws∧none=Kga ws∧none=Kgb ws∧List.length x.2.2=0∧[]=Z64 ws∧List.length x.2.1.1=0))))))∧J6y x ws)) (Tw (Z95 ws)∧((0:Int)≤1∧1≤Ln ws∧Ln ws≤Ln ws)∧Br (!Option.isSome (Kwq ws)) (Kzi ws) (∃(x:Nat×(List ByteArray×Bool)×List ByteArray),(Ln (Kg2 ws).1=J9x ws∧0=Nc x.1∧Si 0 (B0=Jb∧Sf Jo (Sf Jo (B0=Jb∧false=x.2.1.2∧Si 0 (U0 ws=(U2 (ws,false)).1∧Sf Jo (B0=Jb∧(Kts ws).1=Z88 ws∧(Ktr ws).1=Kgc ws∧(Ktq ws).1=Kga ws∧(Ktq ws).2=Kgb ws∧List.length x.2.2=0∧(Kg2 ws).1=Z64 ws∧List.drop 1 (List.take (List.length ws) ws)=x.2.1.1))))))∧J6y x ws)))=_).mp ?_
 delta Z64 Z65 Z88 Z95 U0 Kgc Dl Kgb Kga Kf7 Jo J6v Lz J9x J6n K02 Jdi K00 J9h Kzi Jco Kwq Kg2 Ktu Kts Ktr Ktq Kth Ks0 Ksm J6y Br Iw Bd Tw Sf Si Ln Nc B0 Lb
 intro h1 h2
 have hk0:Yu Jb=false:=by kernel_rfl
 have hB:=Jit (ws.getD 0 Jb)
 have hsz:∀k,k<ws.length→(ws.getD k Jb).size≤1000000:=fun k hk=>h2 _ (Jd hk)
 refine⟨⟨fun h=> ?_,fun h=> ?_⟩,fun hc=>⟨fun _=>⟨rfl, ?_⟩,fun h=>(by cases h)⟩,fun hc=> ?_⟩
 ·have:=beq_eq_false_iff_ne.1 h;omega
 ·have:=beq_eq_false_iff_ne.1 h;omega
 ·have e:U2 (ws,false)=(Jb,[],true):=by rw[F6,show Ll (ws,false)=true from hc];rfl
  have e2:Y3 ws=(evz,false):=by unfold Y3;rw[e,hk0];rfl
  rw[e2];exact⟨rfl,rfl⟩
 ·have hc':Ll (ws,false)=false:=hc
  have e:U2 (ws,false)=(ws.getD 0 Jb,ws.drop 1,false):=by rw[F6,hc'];rfl
  have hl:0<ws.length:=Jc8 hc'
  have eD:(Vn Sch.str (ws.getD 0 ({data:={toList:=[]}}:ByteArray)) Lk).getD ([],0,none,none,none)=Ji (ws.getD 0 Jb):=rfl
  have eK:(Vn Sch.str (ws.getD 0 ({data:={toList:=[]}}:ByteArray)) Lk).isSome=Yu (ws.getD 0 Jb):=rfl
  simp only[e,eD,eK]
  refine⟨by(repeat' first|apply And.intro|(first|omega|dsimp only;omega)),by(repeat' first|apply And.intro|(first|omega|dsimp only;omega)),fun hk=>⟨trivial, ?_⟩,fun hk=>⟨((0:Nat),(ws.drop 1,false),[]), ?_,⟨Nat.zero_le _,by simp only[List.length_drop];omega,fun w hw=>h2 w (List.mem_of_mem_drop hw),rfl,by unfold Xy;rw[e];rfl⟩,fun(x:Nat×Tk×List ByteArray) hx=>⟨fun hlt=> ?_,fun hlt=> ?_⟩⟩⟩
  ·have hk:Yu (ws.getD 0 Jb)=false:=by simpa using hk
   have e2:Y3 ws=(evz,false):=by unfold Y3;rw[e,hk];rfl
   rw[e2];exact⟨rfl,rfl⟩
  ·rw[List.take_length]
   repeat' first|exact rfl|exact⟨⟩|apply And.intro|omega|dsimp only;omega
  ·obtain⟨i,⟨rem,b⟩,o⟩:=x
   obtain⟨i1,i2,i3,i4,i5⟩:=hx
   have hlt:i<(Ji (ws.getD 0 Jb)).1.length:=by simpa using hlt
   dsimp only at i1 i2 i3 i4 i5
   have hn:(Ji (ws.getD 0 Jb)).1.length-i=((Ji (ws.getD 0 Jb)).1.length-(i+1))+1:=by omega
   rw[hn,L3,F6] at i5
   refine⟨⟨fun h=> ?_,fun h=> ?_⟩,fun h=> ?_,fun h=> ?_⟩
   ·have:=beq_eq_false_iff_ne.1 h;(first|omega|dsimp only;omega)
   ·have:=beq_eq_false_iff_ne.1 h;(first|omega|dsimp only;omega)
   ·have h:Ll (rem,b)=true:=h
    rw[h,cond_true] at i5
    refine⟨by(first|omega|dsimp only;omega),by(repeat' first|apply And.intro|(first|omega|dsimp only;omega)),(i+1,([],true),o++[Jb]), ?_,⟨by(first|omega|dsimp only;omega),by simp,fun w hw=>(by cases hw),by simp[i4],i5⟩,by(first|omega|dsimp only;omega)⟩
    repeat' first|exact rfl|exact⟨⟩|apply And.intro|omega|dsimp only;omega
   ·have h:Ll (rem,b)=false:=h
    have hr:0<rem.length:=Jc8 h
    rw[h,cond_false] at i5
    refine⟨by(repeat' first|apply And.intro|(first|omega|dsimp only;omega)),by(repeat' first|apply And.intro|(first|omega|dsimp only;omega)),by(first|omega|dsimp only;omega),by(repeat' first|apply And.intro|(first|omega|dsimp only;omega)),(i+1,(rem.drop 1,b),o++[rem.getD 0 Jb]), ?_,⟨by(first|omega|dsimp only;omega),by simp only[List.length_drop];omega,fun w hw=>i3 w (List.mem_of_mem_drop hw),by simp[i4],i5⟩,by(first|omega|dsimp only;omega)⟩
    dsimp only
    rw[List.take_length]
    repeat' first|exact rfl|exact⟨⟩|apply And.intro|omega|dsimp only;omega
  ·obtain⟨i,⟨rem,b⟩,o⟩:=x
   obtain⟨i1,i2,i3,i4,i5⟩:=hx
   have hlt:¬i<(Ji (ws.getD 0 Jb)).1.length:=by simpa using hlt
   dsimp only at i1 i2 i3 i4 i5
   have hn:(Ji (ws.getD 0 Jb)).1.length-i=0:=by omega
   rw[hn,L3] at i5
   have eN:(Xy ws).1=o:=by rw[←i5]
   have eT:(Xy ws).2=(rem,b):=by rw[←i5]
   simp only[eN]
   refine⟨((0:Nat),(rem,b),[]), ?_,⟨Nat.zero_le _,i2,i3,rfl,by unfold Jb9;rw[e,eT];rfl⟩,fun(x:Nat×Tk×List Int) hx=>⟨fun hlt=> ?_,fun hlt=> ?_⟩⟩
   ·repeat' first|exact rfl|exact⟨⟩|apply And.intro|omega|dsimp only;omega
   ·obtain⟨j,⟨rem,b⟩,o2⟩:=x
    obtain⟨j1,j2,j3,j4,j5⟩:=hx
    have hlt:(j:Int)<(Ji (ws.getD 0 Jb)).2.1:=of_decide_eq_true hlt
    dsimp only at j1 j2 j3 j4 j5
    have hn:(Ji (ws.getD 0 Jb)).2.1.toNat-j=((Ji (ws.getD 0 Jb)).2.1.toNat-(j+1))+1:=by omega
    rw[hn,F7,J29,F6] at j5
    refine⟨⟨fun h=> ?_,fun h=> ?_⟩,fun h=> ?_,fun h=> ?_⟩
    ·have:=beq_eq_false_iff_ne.1 h;(first|omega|dsimp only;omega)
    ·have:=beq_eq_false_iff_ne.1 h;(first|omega|dsimp only;omega)
    ·have h:Ll (rem,b)=true:=h
     rw[h,cond_true] at j5
     refine⟨by decide,by(first|omega|dsimp only;omega),by(repeat' first|apply And.intro|(first|omega|dsimp only;omega)),(j+1,([],true),o2++[(Ka Jb).1]), ?_,⟨by(first|omega|dsimp only;omega),by simp,fun w hw=>(by cases hw),by simp[j4],j5⟩,by(first|omega|dsimp only;omega)⟩
     repeat' first|exact rfl|exact⟨⟩|apply And.intro|omega|dsimp only;omega
    ·have h:Ll (rem,b)=false:=h
     have hr:0<rem.length:=Jc8 h
     rw[h,cond_false] at j5
     refine⟨by(repeat' first|apply And.intro|(first|omega|dsimp only;omega)),by(repeat' first|apply And.intro|(first|omega|dsimp only;omega)),j3 _ (Jd hr),by(first|omega|dsimp only;omega),by(repeat' first|apply And.intro|(first|omega|dsimp only;omega)),(j+1,(rem.drop 1,bif b then true else !(Ka (rem.getD 0 Jb)).2),o2++[(Ka (rem.getD 0 Jb)).1]), ?_,⟨by(first|omega|dsimp only;omega),by simp only[List.length_drop];omega,fun w hw=>j3 w (List.mem_of_mem_drop hw),by simp[j4],j5⟩,by(first|omega|dsimp only;omega)⟩
     dsimp only
     rw[List.take_length]
     repeat' first|exact rfl|exact⟨⟩|apply And.intro|omega|dsimp only;omega
   ·obtain⟨j,⟨rem2,b2⟩,o2⟩:=x
    obtain⟨j1,j2,j3,j4,j5⟩:=hx
    have hlt:¬(j:Int)<(Ji (ws.getD 0 Jb)).2.1:=of_decide_eq_false hlt
    dsimp only at j1 j2 j3 j4 j5
    have hn:(Ji (ws.getD 0 Jb)).2.1.toNat-j=0:=by omega
    rw[hn,F7] at j5
    have hk:Yu (ws.getD 0 Jb)=true:=by simpa using hk
    have e2:Y3 ws=((0,ws.getD 0 Jb,o,o2,Jb),bif !b2 then((rem2.length:Int)==0) else false):=by
     unfold Y3
     rw[e,hk,cond_true,eN,←j5]
    rw[e2];exact⟨trivial,rfl,rfl⟩
abbrev K21:=K22.add Kpr
def Ja4 (c:UInt8):List UInt8→List UInt8
 |[]=>[]
 |b::r=>if b=c then[] else b::Ja4 c r
def Jf7 (c:UInt8):List UInt8→List UInt8
 |[]=>[]
 |b::r=>if b=c then r else Jf7 c r
def Jr7 (c:UInt8):List UInt8→Bool
 |[]=>false
 |b::r=>if b=c then true else Jr7 c r
theorem Juc (c:UInt8):∀l:List UInt8,Lib.cut l [c]=(Ja4 c l,Jf7 c l,Jr7 c l)
 |[]=>rfl
 | b :: r => by
  have ih:=Juc c r
  have hg:=Lib.index_ge r [c]
  by_cases h:b=c
  ·subst h
   have e:Lib.index (b::r) [b]=0:=by simp[Lib.index,List.isPrefixOf]
   unfold Lib.cut Ja4 Jf7 Jr7
   rw[e,if_pos rfl,if_pos rfl,if_pos rfl]
   rfl
  ·have hp:[c].isPrefixOf (b::r)=false:=by
    have:¬c=b:=fun e=>h e.symm
    simp[List.isPrefixOf,this]
   have hi:Lib.index (b::r) [c]=if Lib.index r [c]== -1 then -1 else Lib.index r [c]+1:=by rw[Lib.index,hp];rfl
   unfold Ja4 Jf7 Jr7
   rw[if_neg h,if_neg h,if_neg h]
   unfold Lib.cut at ih⊢
   by_cases h1:Lib.index r [c]= -1
   ·have e2:Lib.index (b::r) [c]= -1:=by rw[hi,h1];rfl
    rw[h1,if_neg (by decide)] at ih
    rw[e2,if_neg (by decide)]
    simp only[Prod.mk.injEq] at ih⊢
    exact⟨by rw[←ih.1],ih.2⟩
   ·obtain⟨i,hj⟩:=Int.eq_ofNat_of_zero_le (by omega:0≤Lib.index r [c])
    have e2:Lib.index (b::r) [c]=((i+1:Nat):Int):=by rw[hi,if_neg (by simpa using h1),hj];rfl
    rw[hj,if_pos (by omega)] at ih
    rw[e2,if_pos (by omega)]
    simp only[Prod.mk.injEq,Int.toNat_natCast,List.length_singleton] at ih⊢
    exact⟨by rw[List.take_succ_cons,ih.1],by rw[←ih.2.1];rfl,ih.2.2⟩
theorem Ji9 (c:UInt8):∀l:List UInt8,(Ja4 c l).length≤l.length
 |[]=>Nat.le_refl _
 |b::r=>by
  have:=Ji9 c r
  unfold Ja4
  split<;>simp only[List.length_cons,List.length_nil]<;>omega
theorem Jda (c:UInt8):∀l:List UInt8,(Jf7 c l).length≤l.length
 |[]=>Nat.le_refl _
 |b::r=>by
  have:=Jda c r
  unfold Jf7
  split<;>simp only[List.length_cons]<;>omega
theorem Ju5 (s:ByteArray) (c:UInt8):Jxj s ⟨⟨[c]⟩⟩=(bs (Ja4 c s.data.toList),bs (Jf7 c s.data.toList),Jr7 c s.data.toList):=by
 unfold Jxj
 rw[show((⟨⟨[c]⟩⟩:ByteArray).data.toList)=[c] from rfl,Juc]
 rfl
theorem Jj6 (s:ByteArray):Xv s ⟨⟨[32]⟩⟩=Jdp s 32:=Jdk s 32
def Yv (s:ByteArray):ByteArray:=bs (s.data.toList.take (s.size-8))
def Jmg (s:ByteArray):ByteArray:=bs (s.data.toList.drop (s.size-7))
def J37 (b:ByteArray):ByteArray:=bs (Ja4 32 b.data.toList)
def J3h (b:ByteArray):ByteArray:=bs (Jf7 32 b.data.toList)
def evX (b:ByteArray):Ev:=((Ka (J37 b)).1,(Y3 (Jdp (J3h b) 32)).1.2)
def okX (b:ByteArray):Bool:=bif bif !(Ka (J37 b)).2 then true else !(Y3 (Jdp (J3h b) 32)).2 then true else Jc (evX b) !=0
def Joc (s:ByteArray):Bool:=bif bif decide ((s.size:Int)-7-1<0) then true else((s.data.toList.getD (s.size-8) 0).toNat:Int) !=35 then true else !Jr6 (Jmg s)
def V3 (s:ByteArray):Ev×Int:=bif Joc s then(evz,25) else bif !((Jn6 (Yv s)).toList==(Jmg s).toList) then(evz,27) else bif okX (Yv s) then(evz,25) else(evX (Yv s),0)
def U7 (s:ByteArray) (k:Int):Ev×Int:=if(V3 s).2=0 then((V3 s).1,bif (V3 s).1.1 !=k then 11 else 0) else V3 s
def Kcf:Con:={args:=[aS,aI],ress:=[(true,sEv),I],owns:=[],pre:=fun(s,_)=>[s.size≤1000000],spec:=fun(s,k,_)=>((U7 s k).1,(U7 s k).2,())}
theorem Jj3 (t:Tk):((U2 t).1=Jb∨(U2 t).1∈t.1)∧∀w∈(U2 t).2.1,w∈t.1:=by
 rw[F6]
 cases h:Ll t with
 |true=>exact⟨.inl rfl,fun w hw=>by cases hw⟩
 |false=>exact⟨.inr (Jd (Jc8 h)),fun w hw=>List.mem_of_mem_drop hw⟩
theorem Jgi:∀(n:Nat) (t:Tk) (o:List ByteArray),(L3 n t o).1.length=o.length+n
 |0,_,_=>rfl
 |n+1,t,o=>by
  rw[L3,Jgi n]
  simp only[List.length_append,List.length_singleton]
  omega
theorem Jgh:∀(n:Nat) (t:Tk) (o:List ByteArray),∀s∈(L3 n t o).1,s∈o∨s=Jb∨s∈t.1
 |0,_,_,s,h=> .inl h
 | n + 1, t, o, s, h => by
  have hs:=Jj3 t
  rw[L3] at h
  rcases Jgh n _ _ s h with h|h|h
  ·rcases List.mem_append.1 h with h|h
   ·exact .inl h
   ·rw[List.mem_singleton.1 h]
    exact .inr hs.1
  ·exact .inr (.inl h)
  ·exact .inr (.inr (hs.2 _ h))
theorem Jgg:∀(n:Nat) (t:Tk) (o:List Int),(F7 n t o).1.length=o.length+n
 |0,_,_=>rfl
 |n+1,t,o=>by
  rw[F7,Jgg n]
  simp only[List.length_append,List.length_singleton]
  omega
theorem Jol {ws:List ByteArray} (hw:∀w∈ws,w.size≤1000000):(Y3 ws).1.2.2.1.length≤3∧(Y3 ws).1.2.2.2.1.length≤4∧∀s∈(Y3 ws).1.2.2.1,s.size≤1000000:=by
 have hB:=Jit (U2 (ws,false)).1
 have hs:=Jj3 (ws,false)
 unfold Y3
 cases Yu (U2 (ws,false)).1 with
 |false=>exact⟨Nat.zero_le _,Nat.zero_le _,fun s h=>by cases h⟩
 | true =>
  simp only[cond_true]
  refine⟨?_, ?_,fun s h=> ?_⟩
  ·unfold Xy;rw[Jgi];simp;omega
  ·unfold Jb9;rw[Jgg];simp;omega
  ·rcases Jgh _ _ _ s h with h|h|h
   ·cases h
   ·rw[h];decide
   ·exact hw _ (hs.2 _ h)
theorem Dt {s:ByteArray} {k:Int} {x:Ev×Int} (h:V3 s=x) (hx:x.2≠0):U7 s k=x:=by
 unfold U7;rw[h,if_neg hx]
def J0s (a:Bt):=Nc (ByteArray.size a)-(7:Int)-1
def J9y (a:Bt):=J0s a+1
def K05 (a:Bt):=decide (J0s a<0)
def Klb (a:Bt):=ByteArray.extract a 0 (Int.toNat (J0s a))
def Kkr (a:Bt):=ByteArray.extract a (Int.toNat (J9y a)) (ByteArray.size a)
def K0d (a:Bt):=ByteArray.size (Klb a)≤1000000
def Kzq (a:Bt) (b:Int):=Lz=(U7 a b).1∧25=(U7 a b).2
def Kyq (a:Bt):=Jxj (Klb a) Hj
def Kyj (a:Bt):=(Kyq a).1
def Kx8 (a:Bt):=(Kyq a).2.1
def Kw9 (a:Bt):=Ka (Kyj a)
def Kw5 (a:Bt):=(Kw9 a).1
def Kwt (a:Bt):=(0:Int)≤0∧0≤J0s a∧J0s a≤Nc (ByteArray.size a)
def Khy (a:Bt):=Xv (Kx8 a) Hj
def Kvv (a:Bt):=Y3 (Khy a)
def Kvs (a:Bt):=0≤J9y a∧J9y a≤Nc (ByteArray.size a)∧Nc (ByteArray.size a)≤Nc (ByteArray.size a)
def Kvq (a:Bt):=(Kvv a).1.2
def Kd8 (a:Bt):=(Kvq a).2
def Kvj (a:Bt):=(Kd8 a).2
def Kuf (a:Bt):=bif K05 a then true else Nc (UInt8.toNat (Gt (Z13 a) (J0s a) 0)) !=35
def Kg9 (a:Bt):=Kuf a=false
def Ktp (a:Bt):=bif !(Kw9 a).2 then true else !(Kvv a).2
def Kg0 (a:Bt):=Ktp a=false
def Ksa (a:Bt):=(Kw5 a,(Kvq a).1,(Kd8 a).1,E2 (Kvj a))
theorem Kpv:Ok Tryz.prog 108 Kcf:=okW K21 Tryz.f108 na fun xx=>by
 obtain⟨(s:ByteArray),(k:Int),_⟩:=xx
 refine(by kernel_rfl:(ByteArray.size s≤1000000→(Iw (Nc (ByteArray.size s)-7)∧Iw (J0s s))∧((K05 s=false→Bd (J0s s) (Nc (ByteArray.size s)))∧(Kg9 s→Iw (J9y s))∧(Kg9 s→Kvs s)∧(Kg9 s→ByteArray.size (Kkr s)≤1000000))∧Br (bif Kuf s then true else !Jr6 (Kkr s)) (Kzq s k) ((Kwt s∧K0d s∧Iw (J9y s)∧Kvs s)∧Br (!Lb (Jn6 (Klb s)) (Kkr s)) (Lz=(U7 s k).1∧27=(U7 s k).2) ((Kwt s∧K0d s)∧ByteArray.size (Kyj s)≤1000000∧(ByteArray.size (Kx8 s)≤1000000∧1≤1∧List.length (Khy s)≤1000000∧∀(w:ByteArray),w∈Khy s→ByteArray.size w≤1000000)∧((Kg0 s→List.length (Kd8 s).1≤1000000)∧(Kg0 s→List.length (Kvj s).1≤1000000)∧(Kg0 s→∀(s_1:ByteArray),s_1∈(Kd8 s).1→ByteArray.size s_1≤1000000))∧Br (bif Ktp s then true else Jc (Ksa s) !=0) (Kzq s k) (Ksa s=(U7 s k).1∧(bif Kw5 s !=k then 11 else 0)=(U7 s k).2))))=_).mp ?_
 delta Z13 Hj J0s Lz J9y K05 Klb Kkr K0d Kzq Kyq Kyj Kx8 Kw9 Kw5 Kwt Khy Kvv Kvs Kvq Kd8 Kvj Kuf Kg9 Ktp Kg0 Ksa Br Iw Bd Nc Gt B0 Lb E2
 intro hs
 have hl:s.data.toList.length=s.size:=by simp
 by_cases hq:s.size<8
 ·have hd:decide ((s.size:Int)-7-1<0)=true:=decide_eq_true (by omega)
  have h0:V3 s=(evz,25):=by unfold V3 Joc;rw[hd];rfl
  rw[Dt h0 (by decide)]
  simp only[hd,cond_true]
  exact⟨by(repeat' first|apply And.intro|(first|omega|dsimp only;omega)),⟨⟨fun h=>(by cases h),fun h=>(by cases h),fun h=>(by cases h),fun h=>(by cases h)⟩,fun _=>by(repeat' first|exact rfl|exact⟨⟩|apply And.intro|omega|dsimp only;omega),fun h=>(by cases h)⟩⟩
 ·have e1:((s.size:Int)-7-1).toNat=s.size-8:=by omega
  have e2:((s.size:Int)-7-1+1).toNat=s.size-7:=by omega
  have e3:s.extract 0 (s.size-8)=Yv s:=Jzg s _
  have e4:s.extract (s.size-7) s.size=Jmg s:=Jo8 s _
  have hbl:(Yv s).data.toList.length=s.size-8:=by unfold Yv;simp[bs]
  have hbs:(Yv s).size=s.size-8:=by unfold Yv;rw[Xf];simp
  have hts:(Jmg s).size≤1000000:=by unfold Jmg;rw[Xf];simp;omega
  have hd:decide ((s.size:Int)-7-1<0)=false:=decide_eq_false (by omega)
  simp only[e1,e2,e3,e4,Ju5,Jj6]
  have hsh:Joc s=bif bif decide ((s.size:Int)-7-1<0) then true else((s.data.toList.getD (s.size-8) 0).toNat:Int) !=35 then true else !Jr6 (Jmg s):=rfl
  rw[←hsh]
  have hA:(bs (Ja4 32 (Yv s).data.toList)).size≤1000000:=by rw[Xf];have:=Ji9 32 (Yv s).data.toList;omega
  have hZ:(bs (Jf7 32 (Yv s).data.toList)).size≤1000000:=by rw[Xf];have:=Jda 32 (Yv s).data.toList;omega
  have hW:∀w∈Jdp (bs (Jf7 32 (Yv s).data.toList)) 32,w.size≤1000000:=by
   intro w hw
   obtain⟨v,hv,rfl⟩:=List.mem_map.1 hw
   have:=Jaa _ _ _ hv
   have h3:=Jda 32 (Yv s).data.toList
   have h4:(bs (Jf7 32 (Yv s).data.toList)).data.toList.length=(Jf7 32 (Yv s).data.toList).length:=rfl
   rw[Xf]
   omega
  refine⟨by(repeat' first|apply And.intro|(first|omega|dsimp only;omega)),⟨fun _=>by(repeat' first|apply And.intro|(first|omega|dsimp only;omega)),fun _=>by(repeat' first|apply And.intro|(first|omega|dsimp only;omega)),fun _=>by(repeat' first|apply And.intro|(first|omega|dsimp only;omega)),fun _=>hts⟩,fun h=> ?_,fun h=>⟨⟨by(repeat' first|apply And.intro|(first|omega|dsimp only;omega)),by omega,by(repeat' first|apply And.intro|(first|omega|dsimp only;omega)),by(repeat' first|apply And.intro|(first|omega|dsimp only;omega))⟩,fun h2=> ?_,fun h2=>⟨⟨by(repeat' first|apply And.intro|(first|omega|dsimp only;omega)),by omega⟩,hA,⟨hZ,by decide, ?_, ?_⟩, ?_⟩⟩⟩
  ·have h0:V3 s=(evz,25):=by unfold V3;rw[h];rfl
   rw[Dt h0 (by decide)];exact⟨rfl,rfl⟩
  ·have h0:V3 s=(evz,27):=by unfold V3;rw[h,h2];rfl
   rw[Dt h0 (by decide)];exact⟨rfl,rfl⟩
  ·unfold Jdp
   rw[List.length_map]
   have:=Jh3 (UInt8.ofNat (32:Int).toNat) (bs (Jf7 32 (Yv s).data.toList)).data.toList
   have h3:=Jda 32 (Yv s).data.toList
   have h4:(bs (Jf7 32 (Yv s).data.toList)).data.toList.length=(Jf7 32 (Yv s).data.toList).length:=rfl
   omega
  ·exact hW
  ·have hr:=Jol (ws:=Jdp (bs (Jf7 32 (Yv s).data.toList)) 32) hW
   refine⟨⟨fun _=>Nat.le_trans hr.1 (by decide),fun _=>Nat.le_trans hr.2.1 (by decide),fun _=>hr.2.2⟩,fun h3=> ?_,fun h3=> ?_⟩
   ·have h3:okX (Yv s)=true:=h3
    have h0:V3 s=(evz,25):=by unfold V3;rw[h,h2,h3];rfl
    rw[Dt h0 (by decide)];exact⟨rfl,rfl⟩
   ·have h3:okX (Yv s)=false:=h3
    have h0:V3 s=(evX (Yv s),0):=by unfold V3;rw[h,h2,h3];rfl
    have h4:U7 s k=(evX (Yv s),bif (evX (Yv s)).1 !=k then 11 else 0):=by unfold U7;rw[h0];rfl
    rw[h4]
    exact⟨rfl,rfl⟩
abbrev K20:=K21.add Kpv
def J3l:Nat→List UInt8→Int→List Ev→List Ev×Int×Int
 |0,_,at_,o=>(o,at_,0)
 |f+1,l,at_,o=>
  if l=[] then(o,at_,0) else
  if Jr7 10 l=false then(o,at_,28) else
  if(U7 (bs (Ja4 10 l)) (o.length+1)).2≠0 then(o,at_,(U7 (bs (Ja4 10 l)) (o.length+1)).2) else
  J3l f (Jf7 10 l) (at_+((Ja4 10 l).length+1)) (o++[(U7 (bs (Ja4 10 l)) (o.length+1)).1])
def K0 (s:ByteArray):List Ev×Int×Int:=if 1000000<s.size then([],0,26) else J3l s.size s.data.toList 0 []
def Jzr:Con:={args:=[aS],ress:=[(false, .list 67 sEv),I,I],owns:=[],pre:=fun _=>[],spec:=fun(s,_)=>((K0 s).1,(K0 s).2.1,(K0 s).2.2,())}
abbrev Kcy (s:ByteArray):Ann:={X:=Nat×List Ev,σ:=fun(k,o)=>⟨1,[(0, .one (.str s)),(5, .one (.sl 0)),(6, .one (.int .i64 k))],[(0, .own 67 sEv o)]⟩,inv:=fun(k,o)=>k≤s.size∧s.size≤1000000∧o.length≤1000∧∃f,s.size-k≤f∧J3l f (s.data.toList.drop k) k o=K0 s,mu:=fun(k,_)=>s.size-k}
theorem Ju6 (c:UInt8):∀{l:List UInt8},Jr7 c l=true→l=Ja4 c l++c::Jf7 c l
 |[],h=>by cases h
 | b :: r, h => by
  unfold Jr7 at h
  unfold Ja4 Jf7
  by_cases q:b=c
  ·rw[if_pos q,if_pos q,q];rfl
  ·rw[if_neg q] at h
   rw[if_neg q,if_neg q,List.cons_append,←Ju6 c h]
theorem Ju1 {s:ByteArray} {k:Int} (h:(U7 s k).2=0):Jc (U7 s k).1=0∧(U7 s k).1.1=k:=by
 have h0:(V3 s).2=0:=by
  unfold U7 at h
  by_cases q:(V3 s).2=0
  ·exact q
  ·rw[if_neg q] at h;exact h
 have e:U7 s k=((V3 s).1,bif (V3 s).1.1 !=k then 11 else 0):=by unfold U7;rw[if_pos h0]
 rw[e] at h⊢
 refine⟨?_, ?_⟩
 ·unfold V3 at h0⊢
  cases h1:Joc s with
  |true=>rw[h1] at h0;cases h0
  | false =>
   rw[h1,cond_false] at h0
   rw[cond_false]
   cases h2: !((Jn6 (Yv s)).toList==(Jmg s).toList) with
   |true=>rw[h2] at h0;cases h0
   | false =>
    rw[h2,cond_false] at h0
    rw[cond_false]
    cases h3:okX (Yv s) with
    |true=>rw[h3] at h0;cases h0
    | false =>
     rw[cond_false]
     unfold okX at h3
     cases h4:(bif !(Ka (J37 (Yv s))).2 then true else !(Y3 (Jdp (J3h (Yv s)) 32)).2) with
     |true=>rw[h4] at h3;cases h3
     |false=>
      rw[h4,cond_false] at h3
      exact bne_eq_false_iff_eq.1 h3
 ·have h:(bif (V3 s).1.1 !=k then(11:Int) else 0)=0:=h
  cases h5:((V3 s).1.1 !=k) with
  |true=>rw[h5] at h;cases h
  |false=>exact bne_eq_false_iff_eq.1 h5
def Kk6 (a:Bt) (b:Nat×List Ev):=Jxj (ByteArray.extract a b.1 (ByteArray.size a)) (ByteArray.mk (Array.mk [10]))
def K0l (a:Bt) (b:Nat×List Ev):=ByteArray.size (Kk6 a b).1
def Kzt (a:Bt) (b:Nat×List Ev):=Nc (K0l a b)+1
def Kzb (a:Bt) (b:Nat×List Ev):=U7 (Kk6 a b).1 (Ln b.2+1)
def Ky7 (a:Bt) (b:Nat×List Ev):=(Kzb a b).1
def Ky6 (a:Bt) (b:Nat×List Ev):=(Kzb a b).2
def Kyw (a:Nat×List Ev) (b:Bt):=Nc a.1+Kzt b a
def Kyv (a:Bt) (b:Nat×List Ev):=(Ky7 a b).2
def Kys (a:Bt) (b:Nat×List Ev):=(Kyv a b).2
def Khj (a:Nat×List Ev) (b:Bt):=a.1≤ByteArray.size b∧ByteArray.size b≤1000000∧List.length a.2≤1000∧∃(f:Nat),ByteArray.size b-a.1≤f∧J3l f (List.drop a.1 (Z13 b)) (Nc a.1) a.2=K0 b
theorem K47:Ok Tryz.prog 34 Jzr:=okW K20 Tryz.f34 (fun xx=>X3 (Kcy xx.1)) fun xx=>by
 obtain⟨(s:ByteArray),_⟩:=xx
 refine(by kernel_rfl:(Br (decide (1000000<Nc (ByteArray.size s))) ([]=(K0 s).1∧0=(K0 s).2.1∧26=(K0 s).2.2) (∃(x:Nat×List Ev),Sf s (0=Nc x.1∧List.length x.2=0)∧Khj x s∧∀(x:Nat×List Ev),Khj x s→Br (decide (Nc x.1<Nc (ByteArray.size s))) (((0≤Nc x.1∧Nc x.1≤Nc (ByteArray.size s)∧Nc (ByteArray.size s)≤Nc (ByteArray.size s))∧ByteArray.size (ByteArray.extract s x.1 (ByteArray.size s))≤1000000)∧Br (!(Kk6 s x).2.2) (x.2=(K0 s).1∧Nc x.1=(K0 s).2.1∧28=(K0 s).2.2) ((Iw (Ln x.2+1)∧K0l s x≤1000000)∧Br (Ky6 s x !=0) (x.2=(K0 s).1∧Nc x.1=(K0 s).2.1∧Ky6 s x=(K0 s).2.2) ((List.length x.2+1)*88≤140737488355328∧(Iw (Kzt s x)∧Iw (Kyw x s))∧∃(y:Nat×List Ev),Sf s (Kyw x s=Nc y.1∧x.2++[((Ky7 s x).1,(Kyv s x).1,(Kys s x).1,E2 (Kys s x).2)]=y.2)∧Khj y s∧ByteArray.size s-y.1<ByteArray.size s-x.1))) (x.2=(K0 s).1∧Nc x.1=(K0 s).2.1∧0=(K0 s).2.2)))=_).mp ?_
 delta Z13 Kk6 K0l Kzt Kzb Ky7 Ky6 Kyw Kyv Kys Khj Br Iw Sf Ln Nc E2
 refine⟨fun h=> ?_,fun h=> ?_⟩
 ·have h:1000000<s.size:=by have:=of_decide_eq_true h;omega
  unfold K0;rw[if_pos h];exact⟨rfl,rfl,rfl⟩
 have hs:¬1000000<s.size:=by have:=of_decide_eq_false h;omega
 have hl:s.data.toList.length=s.size:=by simp
 refine⟨((0:Nat),[]),by(repeat' first|exact rfl|exact⟨⟩|apply And.intro|omega|dsimp only;omega),⟨Nat.zero_le _,by(first|omega|dsimp only;omega),Nat.zero_le _,⟨s.size,by omega,by unfold K0;rw[if_neg hs];rfl⟩⟩,fun(x:Nat×List Ev) hx=>⟨fun hlt=> ?_,fun hlt=> ?_⟩⟩
 ·obtain⟨k,o⟩:=x
  obtain⟨k1,k2,k3,f,kf,k4⟩:=hx
  have hlt:k<s.size:=by simpa using hlt
  dsimp only at k1 k3
  dsimp only at kf
  have hf:f=(f-1)+1:=by omega
  have hne:s.data.toList.drop k≠[]:=by
   intro h
   have:=congrArg List.length h
   rw[List.length_drop,hl] at this
   simp at this;omega
  rw[hf,J3l,if_neg hne] at k4
  have e0:s.extract k s.size=bs (s.data.toList.drop k):=Jo8 s k
  have e1:((k:Int)).toNat=k:=Int.toNat_natCast k
  simp only[e1,e0,Ju5]
  have k4:(if Jr7 10 (s.data.toList.drop k)=false then(o,(k:Int),(28:Int)) else if(U7 (bs (Ja4 10 (s.data.toList.drop k))) (o.length+1)).2≠0 then(o,(k:Int),(U7 (bs (Ja4 10 (s.data.toList.drop k))) (o.length+1)).2) else J3l (f-1) (Jf7 10 (s.data.toList.drop k)) (k+((Ja4 10 (s.data.toList.drop k)).length+1)) (o++[(U7 (bs (Ja4 10 (s.data.toList.drop k))) (o.length+1)).1]))=K0 s:=k4
  have hA:=Ji9 10 (s.data.toList.drop k)
  rw[List.length_drop,hl] at hA
  have hbd:∀l,(bs l).data.toList=l:=fun l=>rfl
  simp only[hbd,Xf,List.length_drop,hl]
  refine⟨by(repeat' first|apply And.intro|(first|omega|dsimp only;omega)),fun h=> ?_,fun h=>⟨⟨by(repeat' first|apply And.intro|(first|omega|dsimp only;omega)),by omega⟩,fun h2=> ?_,fun h2=> ?_⟩⟩
  ·have h:Jr7 10 (s.data.toList.drop k)=false:=by simpa using h
   rw[if_pos h] at k4
   rw[←k4];exact⟨rfl,rfl,rfl⟩
  ·have h:Jr7 10 (s.data.toList.drop k)=true:=by simpa using h
   have h2:(U7 (bs (Ja4 10 (s.data.toList.drop k))) (o.length+1)).2≠0:=bne_iff_ne.1 h2
   rw[if_neg (by rw[h];decide),if_pos h2] at k4
   rw[←k4];exact⟨rfl,rfl,rfl⟩
  ·have h:Jr7 10 (s.data.toList.drop k)=true:=by simpa using h
   have h2:(U7 (bs (Ja4 10 (s.data.toList.drop k))) (o.length+1)).2=0:=bne_eq_false_iff_eq.1 h2
   rw[if_neg (by rw[h];decide),if_neg (by rw[h2];simp)] at k4
   have hc:=Ju6 10 h
   have hlc:=congrArg List.length hc
   rw[List.length_drop,hl,List.length_append,List.length_cons] at hlc
   have hd:s.data.toList.drop (k+((Ja4 10 (s.data.toList.drop k)).length+1))=Jf7 10 (s.data.toList.drop k):=by
    rw[←List.drop_drop]
    have:=congrArg (List.drop ((Ja4 10 (s.data.toList.drop k)).length+1)) hc
    rw[this,show(Ja4 10 (s.data.toList.drop k)).length+1=(Ja4 10 (s.data.toList.drop k)).length+1 from rfl]
    simp[List.drop_append]
   have hn:=(Ju1 h2)
   have hnum:=Yf.1 (show Kb (U7 (bs (Ja4 10 (s.data.toList.drop k))) (o.length+1)).1.1 1 1000=0 by
    have:=(K9 hn.1).num
    exact Yf.2 this)
   rw[hn.2] at hnum
   refine⟨by omega,by(repeat' first|apply And.intro|(first|omega|dsimp only;omega)),(k+((Ja4 10 (s.data.toList.drop k)).length+1),o++[(U7 (bs (Ja4 10 (s.data.toList.drop k))) (o.length+1)).1]),by(repeat' first|exact rfl|exact⟨⟩|apply And.intro|omega|dsimp only;omega),⟨by(first|omega|dsimp only;omega),k2,by simp only[List.length_append,List.length_singleton];omega,f-1,by(first|omega|dsimp only;omega), ?_⟩,by(first|omega|dsimp only;omega)⟩
   dsimp only
   rw[hd]
   exact k4
 ·obtain⟨k,o⟩:=x
  obtain⟨k1,k2,k3,f,kf,k4⟩:=hx
  have hlt:¬k<s.size:=by simpa using hlt
  dsimp only at k1 k3
  have e:s.data.toList.drop k=[]:=List.drop_eq_nil_of_le (by omega)
  have k4:J3l f (s.data.toList.drop k) k o=K0 s:=k4
  rw[e] at k4
  have k5:(o,(k:Int),(0:Int))=K0 s:=by
   rw[←k4]
   cases f<;>rfl
  rw[←k5]
  exact⟨rfl,rfl,rfl⟩
abbrev K61:=K20.add K47
theorem Jai (n:Int) (h0: -9223372036854775808≤n) (h1:n≤9223372036854775807):(Vg n).size≤40:=by
 have:=Lib.itoa_length_le n h0 h1
 have e:(Vg n).size=(Lib.itoa n).length:=rfl
 omega
theorem Kal {l:List Nat} {b:Nat} (h:∀x∈l,x≤b):l.sum≤b*l.length:=by
 induction l with
 |nil=>simp
 |cons x l ih=>
  have h1:=h x (List.mem_cons_self ..)
  have h2:=ih fun y hy=>h y (List.mem_cons_of_mem _ hy)
  rw[List.sum_cons,List.length_cons,Nat.mul_succ]
  omega
theorem Joq {s:ByteArray} (h:Yh s=true):s.size≤24:=by
 unfold Yh at h
 simp only[Bool.and_eq_true,decide_eq_true_eq] at h
 omega
theorem J33 {k:ByteArray} (h:Yu k=true):k.size≤7:=by
 rcases U3 h with h|h|h|h|h|h|h|h|h|h|h<;>subst h<;>decide
theorem J44 {e:Ev} (h:Jc e=0):Lt e:=by
 have hE:=K9 h
 have hk:=Jit e.2.1
 have h1:=hE.num
 have h2:=hE.nn
 have h3:=hE.nv
 have h4:=J33 hE.kind
 refine⟨by omega,by omega,by omega,fun v hv=>by have:=hE.val v hv;omega, ?_⟩
 refine Nat.le_trans (Kal (b:=41) fun x hx=> ?_) ?_
 ·obtain⟨s,hs,rfl⟩:=List.mem_map.1 hx
  rcases List.mem_cons.1 hs with rfl|hs
  ·have:=Jai e.1 (by omega) (by omega);omega
  rcases List.mem_cons.1 hs with rfl|hs
  ·omega
  rcases List.mem_append.1 hs with hs|hs
  ·have:=Joq (hE.name s hs);omega
  ·obtain⟨v,hv,rfl⟩:=List.mem_map.1 hs
   have:=hE.val v hv
   have:=Jai v (by omega) (by omega);omega
 ·unfold Jz0
  simp only[List.length_map,List.length_cons,List.length_append]
  omega
theorem Jts {e:Ev} (h:Lt e):(J3k e).size=(Zr e).size+9:=by
 have h2:=Jj5 (Zr e)
 unfold J3k
 rw[Xf]
 simp[h2]
abbrev K2z:=K61
def Kqt:Con:={args:=[.val false (.list 67 sEv), .fn [(true,sEv)] tS],ress:=[(false, .list 9 .str)],owns:=[true],pre:=fun(l,(q,_),_)=>[l.length≤1000000,∀x∈l,Uj (q (x,()))],spec:=fun(l,(_,f),_)=>(l.map fun x=>f (x,()),())}
def Z11 (a:Nat) (b:List Ev):=Bd (Nc a) (Ln b)
def Z34 (a:List Ev):=List.length a≤1000000
def J0r (a:List Ev) (b:Ev):=b∈a
def J9v (a:Ev×Unit→Bt) (b:Nat) (c:List Ev):=List.map (fun(x:Ev)=>a (x,PUnit.unit)) (List.take b c)
def J6k (a:List Ev) (b:Nat):=(List.getD a b Lz).2
def J6i (a:List Ev) (b:Nat):=(J6k a b).2
def J6f (a:List Ev) (b:Nat):=(J6i a b).2
def J6e (a:Nat) (b:List Ev) (c:Nat):=a≤List.length b∧List.length b-a<List.length b-c
def J9f (a:List Ev) (b:Ev×Unit→List Prop):=∀(x:Ev),J0r a x→Uj (b (x,PUnit.unit))
def Kdt (a:List Ev) (b:Nat):=((List.getD a b Lz).1,(J6k a b).1,(J6i a b).1,E2 (J6f a b))
def J5y (a:List Ev) (b:Nat):=(Kdt a b,PUnit.unit)
def J8n (a:Ev×Unit→List Prop) (b:List Ev) (c:Nat):=Uj (a (J5y b c))
theorem Kpn:Ok Tryz.prog 124 Kqt:=okW K2z Tryz.f124 (fun xx=>X3 (Ja0 67 9 sEv xx.1 tS true xx.2.1.1 xx.2.1.2)) fun xx=>by
 obtain⟨(l:List Ev),⟨(q:Ev×Unit→List Prop),(f:Ev×Unit→ByteArray)⟩,_⟩:=xx
 refine(by kernel_rfl:(Z34 l→J9f l q→∃(x:Nat),Si (Ln l) (0=Nc x∧Sf l ((fun(x:Ev×PUnit)=>q x)=q∧(fun(x:Ev×PUnit)=>f x)=f∧List.length (J9v f x l)=0))∧x≤List.length l∧∀(x:Nat),x≤List.length l→Br (decide (Nc x<Ln l)) (Tw (Z11 x l)∧(J8n q l x∧(List.length (J9v f x l)+1)*16≤140737488355328)∧Z14 x∧∃(y:Nat),Si (Ln l) (Z91 x y∧Sf l ((fun(x:Ev×PUnit)=>q x)=q∧(fun(x:Ev×PUnit)=>f x)=f∧J9v f x l++[f (J5y l x)]=J9v f y l))∧J6e y l x) (J9v f x l=List.map (fun(x:Ev)=>f (x,PUnit.unit)) l))=_).mp ?_
 delta Z11 Z14 Z34 Z91 J0r Lz J9v J6k J6i J6f J6e J9f Kdt J5y J8n Br Iw Bd Tw Sf Si Ln Nc B0 E2
 intro hb hq
 refine⟨(0:Nat),⟨rfl,rfl,rfl,rfl,rfl,by simp⟩,Nat.zero_le _,fun(k:Nat) hk=>⟨fun h=> ?_,fun h=> ?_⟩⟩
 ·have hlt:k<l.length:=by simpa using h
  refine⟨by omega,⟨hq (l.getD k evz) (Jd hlt),by simp only[List.length_map,List.length_take];omega⟩,by omega,(k+1:Nat),⟨rfl,by simp,rfl,rfl,rfl, ?_⟩,by omega,by omega⟩
  rw[←K4 (d:=evz) hlt,List.map_append];rfl
 ·have hlt:¬k<l.length:=by simpa using h
  rw[List.take_of_length_le (by omega)]
abbrev K2y:=K2z.add Kpn
def cQ (pre:Reg→ByteArray→List Prop) (f:Reg→ByteArray→List ByteArray):Con:={args:=[Ja1,aS],ress:=[(false, .list 9 .str)],owns:=[true],pre:=fun(r,s,_)=>pre r s,spec:=fun(r,s,_)=>(f r s,())}
theorem Jv0 {tk st:Int} {S:List Sta} {O:List Ord} {M:List Met} {X:List Out} {Q:List Per} {s:ByteArray} (hr:Jj (tk,st,S,O,M,X,Q)):∀(l:List Sta) (n:Int),n-3200000000*l.length≤Jxk st O M s l n∧Jxk st O M s l n≤n+3200000000*l.length
 |[],n=>by simp[Jxk]
 | x :: l, n => by
  have hb:=Jpr (a:=s) (b:=x.1) hr
  have ih:=Jv0 (s:=s) hr l (bif x.1.toList !=s.toList then n+Dj st O M s x.1 else n)
  have hd:n-3200000000≤(bif x.1.toList !=s.toList then n+Dj st O M s x.1 else n)∧(bif x.1.toList !=s.toList then n+Dj st O M s x.1 else n)≤n+3200000000:=by
   cases x.1.toList !=s.toList<;>simp only[cond_true,cond_false]<;>omega
  simp only[List.length_cons]
  unfold Jxk
  omega
theorem Jvy {tk st:Int} {S:List Sta} {O:List Ord} {M:List Met} {X:List Out} {Q:List Per} {s:ByteArray} (hr:Jj (tk,st,S,O,M,X,Q)): -19200000000≤Jvz st S O M s∧Jvz st S O M s≤19200000000:=by
 have h:=Jv0 (s:=s) hr S 0
 have nS:S.length≤6:=hr.nS
 unfold Jvz
 omega
def Jtt:Reg→ByteArray→List ByteArray:=fun(_,st,S,O,M,_) s=>[Vg (Jvz st S O M s)]
def Kqn:Con:=cQ (fun r _=>[Jj r]) Jtt
theorem Knz:Ok Tryz.prog 195 Kqn:=okW K2y Tryz.f195 na fun xx=>by
 obtain⟨⟨(tk:Int),(st:Int),(S:List Sta),(O:List Ord),(M:List Met),(X:List Out),(Q:List Per)⟩,(s:ByteArray),_⟩:=xx
 refine(by kernel_rfl:(Jw tk st S O M X Q→(Jw tk st S O M X Q∧Iw (Jvz st S O M s))∧[Vg (Jvz st S O M s)]=Jtt (Z60 tk st S O M X Q) s)=_).mp ?_
 delta Z60 Jw Iw
 intro hr
 have hb:=Jvy (s:=s) hr
 exact⟨⟨hr,by omega,by omega⟩,rfl⟩
abbrev K2x:=K2y.add Knz
def Jd4:Reg→ByteArray→List ByteArray:=fun(_,_,S,_) s=>[Vg (Hg S s).2.2]
def Kbo:Con:=cQ (fun r s=>[Jj r,0≤J0 r.2.2.1 s]) Jd4
theorem Kny:Ok Tryz.prog 196 Kbo:=okW K2x Tryz.f196 na fun xx=>by
 obtain⟨⟨(tk:Int),(st:Int),(S:List Sta),(O:List Ord),(M:List Met),(X:List Out),(Q:List Per)⟩,(s:ByteArray),_⟩:=xx
 refine(by kernel_rfl:(Jw tk st S O M X Q→Z15 S s→(Z46 S∧Z15 S s∧Iw (Hg S s).2.2)∧[Vg (Hg S s).2.2]=Jd4 (Z60 tk st S O M X Q) s)=_).mp ?_
 delta Z15 Z46 Z60 Jw Iw
 intro hr h
 have nS:S.length≤6:=hr.nS
 have hs:0≤(Hg S s).2.2∧(Hg S s).2.2≤1000:=(Jh2 hr.sta h).pri
 exact⟨⟨by omega,h,by omega,by omega⟩,rfl⟩
abbrev K2w:=K2x.add Kny
def Jd5:Reg→ByteArray→List ByteArray:=fun(_,st,_,O,M,_) s=>[Vg (Un st M (Xz O s)).2.1,Vg (Un st M (Xz O s)).2.2.1,Vg (Un st M (Xz O s)).2.2.2.1,Vg (Un st M (Xz O s)).2.2.2.2.1,Vg (Un st M (Xz O s)).2.2.2.2.2]
def Kbq:Con:=cQ (fun r s=>[Jj r,0≤Ku r.2.2.2.1 s]) Jd5
def Kwr (a:List Ord) (b:Bt):=((Xz a b).1,(Xz a b).2.1,(Xz a b).2.2.1,E2 (Xz a b).2.2.2.1,(Xz a b).2.2.2.2.1,E2 (Xz a b).2.2.2.2.2)
def Kwj (a:Int) (b:List Met) (c:List Ord) (d:Bt):=(Un a b (Kwr c d)).2
def Kwf (a:Int) (b:List Met) (c:List Ord) (d:Bt):=(Kwj a b c d).2
def Kwe (a:Int) (b:List Met) (c:List Ord) (d:Bt):=(Kwj a b c d).1
def Kwb (a:Int) (b:List Met) (c:List Ord) (d:Bt):=(Kwf a b c d).2
def Kwa (a:Int) (b:List Met) (c:List Ord) (d:Bt):=(Kwf a b c d).1
def Kv8 (a:Int) (b:List Met) (c:List Ord) (d:Bt):=(Kwb a b c d).2
def Kv7 (a:Int) (b:List Met) (c:List Ord) (d:Bt):=(Kwb a b c d).1
def Kv5 (a:Int) (b:List Met) (c:List Ord) (d:Bt):=(Kv8 a b c d).2
def Kv4 (a:Int) (b:List Met) (c:List Ord) (d:Bt):=(Kv8 a b c d).1
theorem Knx:Ok Tryz.prog 197 Kbq:=okW K2w Tryz.f197 na fun xx=>by
 obtain⟨⟨(tk:Int),(st:Int),(S:List Sta),(O:List Ord),(M:List Met),(X:List Out),(Q:List Per)⟩,(s:ByteArray),_⟩:=xx
 refine(by kernel_rfl:(Jw tk st S O M X Q→0≤Ku O s→(Z57 O∧0≤Ku O s∧Jw tk st S O M X Q∧Kwr O s∈O)∧(5≤1000000∧∀(x:Int),x∈[Kwe st M O s,Kwa st M O s,Kv7 st M O s,Kv4 st M O s,Kv5 st M O s]→Iw x)∧[Vg (Kwe st M O s),Vg (Kwa st M O s),Vg (Kv7 st M O s),Vg (Kv4 st M O s),Vg (Kv5 st M O s)]=Jd5 (Z60 tk st S O M X Q) s)=_).mp ?_
 delta Z57 Z60 Jw Kwr Kwj Kwf Kwe Kwb Kwa Kv8 Kv7 Kv5 Kv4 Iw E2
 intro hr h
 have nO:O.length≤32:=hr.nO
 have hm:=Jbg h
 have hb:=Jaw hr hm
 simp only[Prod.eta]
 refine⟨⟨by omega,h,hr,hm⟩,⟨by decide,fun x hx=> ?_⟩,rfl⟩
 have b1:=hb.hours
 have b2:=hb.sent
 have b3:=hb.got
 have b4:=hb.money
 have b5:=hb.fine
 simp only[List.mem_cons,List.not_mem_nil,or_false] at hx
 rcases hx with rfl|rfl|rfl|rfl|rfl<;>omega
abbrev K2v:=K2w.add Knx
def Jcu:List Gap→List ByteArray→List ByteArray
 |[],o=>o
 |g::l,o=>Jcu l (bif decide ((o.length:Int)<512) then o++[g.1,Vg g.2] else o)
def Jcs:Reg→ByteArray→List ByteArray:=fun(tk,_,_,O,M,_) _=>Jcu (Km M tk O) []
def Kbp:Con:=cQ (fun r _=>[Jj r]) Jcs
abbrev Jz9 (L:List Gap):Ann:={X:=Nat×List ByteArray,σ:=fun(k,o)=>⟨2,[(5, .one (.sl 1)),(11, .one (.sl 0)),(12, .one (.int .i64 L.length)),(13, .one (.int .i64 k))],[(0, .own 200 J3f L),(1, .own 9 .str o)]⟩,inv:=fun(k,o)=>k≤L.length∧o.length≤600∧Jcu (L.drop k) o=Jcu L [],mu:=fun(k,_)=>L.length-k}
theorem Jkv {M:List Met} {u:Int} {x:Ord}:∀(n:Nat) (h:Int),(Lw M u x h n).length≤n
 |0,_=>Nat.le_refl _
 |n+1,h=>by
  have:=Jkv (M:=M) (u:=u) (x:=x) n (h+1)
  unfold Lw
  rw[List.length_append]
  cases J1 x h&&(decide (h<u)&&decide (K7 M x.1 h<0))<;>simp only[cond_true,cond_false,List.length_singleton,List.length_nil]<;>omega
theorem Jkt {S:List Sta} {M:List Met} {u:Int}:∀{O:List Ord},(∀x∈O,Jcz S x)→(Km M u O).length≤48*O.length
 |[],_=>Nat.le_refl _
 |x::l,h=>by
  have h1:=Jkt (M:=M) (u:=u) (O:=l) fun y hy=>h y (List.mem_cons_of_mem _ hy)
  have h2:=Jkv (M:=M) (u:=u) (x:=x) (x.2.2.2.1.2-x.2.2.2.1.1).toNat x.2.2.2.1.1
  have h3:=Jn7 (h x (List.mem_cons_self ..))
  unfold Uk at h3
  unfold Km Jt7
  rw[List.length_append,List.length_cons]
  omega
theorem Jot {M:List Met} {u:Int} {x:Ord}:∀(n:Nat) (h:Int),∀g∈Lw M u x h n,h≤g.2∧g.2<h+n
 |0,_,g,hg=>by cases hg
 | n + 1, h, g, hg => by
  unfold Lw at hg
  rcases List.mem_append.1 hg with hg|hg
  ·cases hb:J1 x h&&(decide (h<u)&&decide (K7 M x.1 h<0)) with
   |false=>rw[hb] at hg;cases hg
   |true=>
    rw[hb,cond_true] at hg
    rw[List.mem_singleton.1 hg]
    constructor<;>dsimp only<;>omega
  ·have:=Jot n (h+1) g hg
   omega
theorem Jio {S:List Sta} {M:List Met} {u:Int}:∀{O:List Ord},(∀x∈O,Jcz S x)→∀g∈Km M u O,0≤g.2∧g.2≤999999999
 |[],_,g,hg=>by cases hg
 | x :: l, h, g, hg => by
  unfold Km at hg
  rcases List.mem_append.1 hg with hg|hg
  ·have hs:=(h x (List.mem_cons_self ..)).span
   have h1:=hs.lo
   have h2:=hs.mid
   have h3:=hs.hi
   have:=Jot _ _ g hg
   omega
  ·exact Jio (fun y hy=>h y (List.mem_cons_of_mem _ hy)) g hg
def Khx (a:Nat×Ls) (b:List Met) (c:Int) (d:List Ord):=a.1≤List.length (Km b c d)∧List.length a.2≤600∧Jcu (List.drop a.1 (Km b c d)) a.2=Jcu (Km b c d) []
def Kue (a:Nat×Ls) (b:List Met) (c:Int) (d:List Ord) (e:Nat×Ls):=Khx a b c d∧List.length (Km b c d)-a.1<List.length (Km b c d)-e.1
theorem Knu:Ok Tryz.prog 200 Kbp:=okW K2v Tryz.f200 (fun xx=>X3 (Jz9 (Km xx.1.2.2.2.2.1 xx.1.1 xx.1.2.2.2.1))) fun xx=>by
 obtain⟨⟨(tk:Int),(st:Int),(S:List Sta),(O:List Ord),(M:List Met),(X:List Out),(Q:List Per)⟩,(s:ByteArray),_⟩:=xx
 refine(by kernel_rfl:(Jw tk st S O M X Q→Jw tk st S O M X Q∧∃(x:Nat×List ByteArray),Si (Ln (Km M tk O)) (0=Nc x.1∧Sf (Km M tk O) (List.length x.2=0))∧Khx x M tk O∧∀(x:Nat×List ByteArray),Khx x M tk O→Br (decide (Nc x.1<Ln (Km M tk O))) (Tw (Bd (Nc x.1) (Ln (Km M tk O)))∧Br (decide (Ln x.2<512)) ((Iw (List.getD (Km M tk O) x.1 (B0,0)).2∧(List.length x.2+2)*16≤140737488355328)∧Iw (Nc x.1+1)∧∃(y:Nat×List ByteArray),Si (Ln (Km M tk O)) (Nc x.1+1=Nc y.1∧Sf (Km M tk O) (x.2++[(List.getD (Km M tk O) x.1 (B0,0)).1,Vg (List.getD (Km M tk O) x.1 (B0,0)).2]=y.2))∧Kue y M tk O x) (Iw (Nc x.1+1)∧∃(y:Nat×List ByteArray),Si (Ln (Km M tk O)) (Nc x.1+1=Nc y.1∧Sf (Km M tk O) (x.2=y.2))∧Kue y M tk O x)) (x.2=Jcs (Z60 tk st S O M X Q) s))=_).mp ?_
 delta Z60 Jw Khx Kue Br Iw Bd Tw Sf Si Ln Nc B0
 intro hr
 have nO:O.length≤32:=hr.nO
 have hL:(Km M tk O).length≤48*O.length:=Jkt hr.ord
 have hG:∀g∈Km M tk O,0≤g.2∧g.2≤999999999:=Jio hr.ord
 have hq:Jcs (tk,st,S,O,M,X,Q) s=Jcu (Km M tk O) []:=rfl
 rw[hq]
 refine⟨hr,((0:Nat),[]),by(repeat' first|exact rfl|exact⟨⟩|apply And.intro|omega|dsimp only;omega),⟨Nat.zero_le _,Nat.zero_le _,rfl⟩,fun(x:Nat×List ByteArray) hx=>⟨fun hlt=> ?_,fun hlt=> ?_⟩⟩
 ·obtain⟨k,o⟩:=x
  obtain⟨k1,k2,k3⟩:=hx
  have hlt:k<(Km M tk O).length:=by simpa using hlt
  have hg:=hG _ (Jd (d:=(Jb,0)) hlt)
  dsimp only at k1 k2 k3
  rw[Jp (d:=((Jb,0):Gap)) hlt,Jcu] at k3
  have hz:((({data:={toList:=[]}}:ByteArray),(0:Int)):Gap)=(Jb,0):=rfl
  simp only[hz]
  refine⟨by(repeat' first|apply And.intro|(first|omega|dsimp only;omega)),fun h=>⟨⟨by(repeat' first|apply And.intro|(first|omega|dsimp only;omega)),by(first|omega|dsimp only;omega)⟩,by(repeat' first|apply And.intro|(first|omega|dsimp only;omega)),(k+1,o++[((Km M tk O).getD k (Jb,0)).1,Vg ((Km M tk O).getD k (Jb,0)).2]),by(repeat' first|exact rfl|exact⟨⟩|apply And.intro|omega|dsimp only;omega),⟨by(first|omega|dsimp only;omega), ?_, ?_⟩,by(first|omega|dsimp only;omega)⟩,fun h=>⟨by(repeat' first|apply And.intro|(first|omega|dsimp only;omega)),(k+1,o),by(repeat' first|exact rfl|exact⟨⟩|apply And.intro|omega|dsimp only;omega),⟨by(first|omega|dsimp only;omega),k2, ?_⟩,by(first|omega|dsimp only;omega)⟩⟩
  ·have h:=of_decide_eq_true h
   simp only[List.length_append,List.length_cons,List.length_nil]
   omega
  all_goals (rw[h] at k3;exact k3)
 ·obtain⟨k,o⟩:=x
  obtain⟨k1,k2,k3⟩:=hx
  have hlt:¬k<(Km M tk O).length:=by simpa using hlt
  have e:k=(Km M tk O).length:=by dsimp only at k1;omega
  rw[e,List.drop_length,Jcu] at k3
  exact k3
abbrev K2u:=K2v.add Knu
def K5r:Con:={args:=[.val true V5, .ref 105 Jfw],ress:=[Bo],owns:=[],pre:=fun _=>[],spec:=fun(x,(tk,_),_)=>(Kn x.2.2.1 tk,())}
theorem Knr:Ok Tryz.prog 203 K5r:=okW K2u Tryz.f203 na fun xx=>by
 obtain⟨⟨(n:ByteArray),(f:ByteArray),⟨(a:Int),(b:Int)⟩,(p:Int)⟩,⟨(tk:Int),(st:Int),(S:List Sta),(O:List Ord),(M:List Met),(X:List Out),(Q:List Per)⟩,_⟩:=xx
 refine(by kernel_rfl:(Kn (a,b) tk=Kn (a,b) tk)=_).mp ?_
 rfl
abbrev K2t:=K2u.add Knr
def Kb2:Con:={args:=[.val false (.list 188 V5), .fn [(true,V5)] Bo],ress:=[(false, .list 188 V5)],owns:=[true],pre:=fun(l,(q,_),_)=>[l.length≤1000000,∀x∈l,Uj (q (x,()))],spec:=fun(l,(_,f),_)=>(l.filter fun x=>f (x,()),())}
def J2n (a:Out×Unit→Bool) (b:Nat) (c:List Out):=List.filter (fun(x:Out)=>a (x,PUnit.unit)) (List.take b c)
def Jwn (a:Nat) (b:List Out) (c:Nat):=a≤List.length b∧Jse b a c
def Kg5 (a:List Out) (b:Nat):=[J5z a b]
theorem K38:Ok Tryz.prog 94 Kb2:=okW K2t Tryz.f94 (fun xx=>X3 (Jns 188 188 V5 xx.1 true xx.2.1.1 xx.2.1.2)) fun xx=>by
 obtain⟨(l:List Out),⟨(q:Out×Unit→List Prop),(f:Out×Unit→Bool)⟩,_⟩:=xx
 refine(by kernel_rfl:(Z43 l→J2h l q→∃(x:Nat),Si (Ln l) (0=Nc x∧Sf l ((fun(x:Out×PUnit)=>q x)=q∧(fun(x:Out×PUnit)=>f x)=f∧List.length (J2n f x l)=0))∧x≤List.length l∧∀(x:Nat),x≤List.length l→Br (Z92 x l) (Z78 x l∧J19 q l x∧Br (Kg4 f l x) ((List.length (J2n f x l)+1)*56≤140737488355328∧Z14 x∧∃(y:Nat),Si (Ln l) (Z91 x y∧Sf l ((fun(x:Out×PUnit)=>q x)=q∧(fun(x:Out×PUnit)=>f x)=f∧J2n f x l++Kg5 l x=J2n f y l))∧Jwn y l x) (Z14 x∧∃(y:Nat),Si (Ln l) (Z91 x y∧Sf l ((fun(x:Out×PUnit)=>q x)=q∧(fun(x:Out×PUnit)=>f x)=f∧J2n f x l=J2n f y l))∧Jwn y l x)) (J2n f x l=List.filter (fun(x:Out)=>f (x,PUnit.unit)) l))=_).mp ?_
 delta Z14 Z43 Z78 Z91 Z92 Jcw Jse J2n Jxt Jro J0m Jwr J0l Jwn J2h J5z J2a Kg5 Kg4 J19 Br Iw Bd Tw Sf Si Ln Nc B0 E2
 intro hb hq
 refine⟨(0:Nat),⟨rfl,rfl,rfl,rfl,rfl,by simp⟩,Nat.zero_le _,fun(k:Nat) hk=>⟨fun h=> ?_,fun h=> ?_⟩⟩
 ·have hlt:k<l.length:=by simpa using h
  have hf:=Je2 (p:=fun x=>f (x,())) hk
  have ht:=K4 (d:=Ja3) hlt
  refine⟨by omega,hq (l.getD k Ja3) (Jd hlt),fun h1=> ?_,fun h1=> ?_⟩
  ·have h1:f (l.getD k Ja3,())=true:=h1
   refine⟨by show((List.filter (fun x=>f (x,())) (List.take k l)).length+1)*56≤_;omega,by omega,(k+1:Nat),⟨rfl,by simp,rfl,rfl,rfl, ?_⟩,by omega,by omega⟩
   rw[←ht,List.filter_append,List.filter_cons,if_pos h1];rfl
  ·have h1:f (l.getD k Ja3,())=false:=h1
   refine⟨by omega,(k+1:Nat),⟨rfl,by simp,rfl,rfl,rfl, ?_⟩,by omega,by omega⟩
   rw[←ht,List.filter_append,List.filter_cons,if_neg (by rw[h1];decide)];simp
 ·have hlt:¬k<l.length:=by simpa using h
  rw[List.take_of_length_le (by omega)]
abbrev K2s:=K2t.add K38
def Kbv:Con:={args:=[.val false (.list 188 V5), .fn [(true,V5)] tS],ress:=[(false, .list 9 .str)],owns:=[true],pre:=fun(l,(q,_),_)=>[l.length≤1000000,∀x∈l,Uj (q (x,()))],spec:=fun(l,(_,f),_)=>(l.map fun x=>f (x,()),())}
def J9t (a:Out×Unit→Bt) (b:Nat) (c:List Out):=List.map (fun(x:Out)=>a (x,PUnit.unit)) (List.take b c)
theorem Kns:Ok Tryz.prog 202 Kbv:=okW K2s Tryz.f202 (fun xx=>X3 (Ja0 188 9 V5 xx.1 tS true xx.2.1.1 xx.2.1.2)) fun xx=>by
 obtain⟨(l:List Out),⟨(q:Out×Unit→List Prop),(f:Out×Unit→ByteArray)⟩,_⟩:=xx
 refine(by kernel_rfl:(Z43 l→J2h l q→∃(x:Nat),Si (Ln l) (0=Nc x∧Sf l ((fun(x:Out×PUnit)=>q x)=q∧(fun(x:Out×PUnit)=>f x)=f∧List.length (J9t f x l)=0))∧x≤List.length l∧∀(x:Nat),x≤List.length l→Br (Z92 x l) (Z78 x l∧(J19 q l x∧(List.length (J9t f x l)+1)*16≤140737488355328)∧Z14 x∧∃(y:Nat),Si (Ln l) (Z91 x y∧Sf l ((fun(x:Out×PUnit)=>q x)=q∧(fun(x:Out×PUnit)=>f x)=f∧J9t f x l++[f (J2a l x)]=J9t f y l))∧Jwn y l x) (J9t f x l=List.map (fun(x:Out)=>f (x,PUnit.unit)) l))=_).mp ?_
 delta Z14 Z43 Z78 Z91 Z92 Jcw Jse J9t Jxt Jro J0m Jwr J0l Jwn J2h J5z J2a J19 Br Iw Bd Tw Sf Si Ln Nc B0 E2
 intro hb hq
 refine⟨(0:Nat),⟨rfl,rfl,rfl,rfl,rfl,by simp⟩,Nat.zero_le _,fun(k:Nat) hk=>⟨fun h=> ?_,fun h=> ?_⟩⟩
 ·have hlt:k<l.length:=by simpa using h
  refine⟨by omega,⟨hq (l.getD k Ja3) (Jd hlt),by simp only[List.length_map,List.length_take];omega⟩,by omega,(k+1:Nat),⟨rfl,by simp,rfl,rfl,rfl, ?_⟩,by omega,by omega⟩
  rw[←K4 (d:=Ja3) hlt,List.map_append];rfl
 ·have hlt:¬k<l.length:=by simpa using h
  rw[List.take_of_length_le (by omega)]
abbrev K2r:=K2s.add Kns
def Kbx:Con:={args:=[.val false (.list 235 Ys), .fn [(true,Ys)] tS],ress:=[(false, .list 9 .str)],owns:=[true],pre:=fun(l,(q,_),_)=>[l.length≤1000000,∀x∈l,Uj (q (x,()))],spec:=fun(l,(_,f),_)=>(l.map fun x=>f (x,()),())}
def J9s (a:Per×Unit→Bt) (b:Nat) (c:List Per):=List.map (fun(x:Per)=>a (x,PUnit.unit)) (List.take b c)
theorem Kno:Ok Tryz.prog 206 Kbx:=okW K2r Tryz.f206 (fun xx=>X3 (Ja0 235 9 Ys xx.1 tS true xx.2.1.1 xx.2.1.2)) fun xx=>by
 obtain⟨(l:List Per),⟨(q:Per×Unit→List Prop),(f:Per×Unit→ByteArray)⟩,_⟩:=xx
 refine(by kernel_rfl:(Z44 l→J9d l q→∃(x:Nat),Si (Ln l) (0=Nc x∧Sf l ((fun(x:Per×PUnit)=>q x)=q∧(fun(x:Per×PUnit)=>f x)=f∧List.length (J9s f x l)=0))∧x≤List.length l∧∀(x:Nat),x≤List.length l→Br (Z99 x l) (Z77 x l∧(J84 q l x∧(List.length (J9s f x l)+1)*16≤140737488355328)∧Z14 x∧∃(y:Nat),Si (Ln l) (Z91 x y∧Sf l ((fun(x:Per×PUnit)=>q x)=q∧(fun(x:Per×PUnit)=>f x)=f∧J9s f x l++[f (J87 l x)]=J9s f y l))∧J0i y l x) (J9s f x l=List.map (fun(x:Per)=>f (x,PUnit.unit)) l))=_).mp ?_
 delta Z14 Z44 Z77 Z91 Z99 Jwt Jx0 Jws J9s J0i J9d J89 J87 J84 Br Iw Bd Tw Sf Si Ln Nc B0 E2
 intro hb hq
 refine⟨(0:Nat),⟨rfl,rfl,rfl,rfl,rfl,by simp⟩,Nat.zero_le _,fun(k:Nat) hk=>⟨fun h=> ?_,fun h=> ?_⟩⟩
 ·have hlt:k<l.length:=by simpa using h
  refine⟨by omega,⟨hq (l.getD k Jig) (Jd hlt),by simp only[List.length_map,List.length_take];omega⟩,by omega,(k+1:Nat),⟨rfl,by simp,rfl,rfl,rfl, ?_⟩,by omega,by omega⟩
  rw[←K4 (d:=Jig) hlt,List.map_append];rfl
 ·have hlt:¬k<l.length:=by simpa using h
  rw[List.take_of_length_le (by omega)]
abbrev K2q:=K2r.add Kno
def Jr5:Reg→ByteArray→List ByteArray:=fun(tk,_,_,_,_,X,_) _=>(X.filter fun x=>Kn x.2.2.1 tk).map fun x=>x.1
def Kqm:Con:=cQ (fun r _=>[Jj r]) Jr5
theorem Knt:Ok Tryz.prog 201 Kqm:=okW K2q Tryz.f201 na fun xx=>by
 obtain⟨⟨(tk:Int),(st:Int),(S:List Sta),(O:List Ord),(M:List Met),(X:List Out),(Q:List Per)⟩,(s:ByteArray),_⟩:=xx
 refine(by kernel_rfl:(Jw tk st S O M X Q→(Z43 X∧Kk9 X∧List.length (List.filter (fun(x:Out)=>Kn x.2.2.1 tk) X)≤1000000∧∀(x:Out),x∈List.filter (fun(x:Out)=>Kn x.2.2.1 tk) X→True)∧List.map (fun(x:Out)=>x.1) (List.filter (fun(x:Out)=>Kn x.2.2.1 tk) X)=Jr5 (Z60 tk st S O M X Q) s)=_).mp ?_
 delta Z43 Z60 Jw Kk9
 intro hr
 have nX:X.length≤16:=hr.nX
 have:=List.length_filter_le (fun x:Out=>Kn x.2.2.1 tk) X
 exact⟨⟨by omega,fun _ _=>trivial,Nat.le_trans this (by omega),fun _ _=>trivial⟩,rfl⟩
abbrev K2p:=K2q.add Knt
def Jr4:Reg→ByteArray→List ByteArray:=fun(_,_,_,_,_,_,Q) _=>(Lv Q).map fun x=>x.1
def Kql:Con:=cQ (fun r _=>[Jj r]) Jr4
theorem Knp:Ok Tryz.prog 205 Kql:=okW K2p Tryz.f205 na fun xx=>by
 obtain⟨⟨(tk:Int),(st:Int),(S:List Sta),(O:List Ord),(M:List Met),(X:List Out),(Q:List Per)⟩,(s:ByteArray),_⟩:=xx
 refine(by kernel_rfl:(Jw tk st S O M X Q→Kh2 tk st S O M X Q∧List.map (fun(x:Per)=>x.1) (Lv Q)=Jr4 (Z60 tk st S O M X Q) s)=_).mp ?_
 delta Z60 Jw Kh2
 intro hr
 have nQ:Q.length≤16:=hr.nQ
 have:=Jc5 (Q:=Q)
 exact⟨⟨hr,by omega,fun _ _=>trivial⟩,rfl⟩
abbrev K2o:=K2p.add Knp
def Jd3:Reg→ByteArray→List ByteArray:=fun(_,st,_) _=>[Vg st]
def Kbn:Con:=cQ (fun r _=>[Jj r]) Jd3
theorem Knl:Ok Tryz.prog 209 Kbn:=okW K2o Tryz.f209 na fun xx=>by
 obtain⟨⟨(tk:Int),(st:Int),(S:List Sta),(O:List Ord),(M:List Met),(X:List Out),(Q:List Per)⟩,(s:ByteArray),_⟩:=xx
 refine(by kernel_rfl:(Jw tk st S O M X Q→Iw st∧[Vg st]=Jd3 (Z60 tk st S O M X Q) s)=_).mp ?_
 delta Z60 Jw Iw
 intro hr
 have h1:0≤st∧st≤tk:=hr.st
 have h2:0≤tk∧tk≤999999999:=hr.tk
 exact⟨⟨by omega,by omega⟩,rfl⟩
abbrev K1a:=K2o.add Knl
end Go.Proofs.YtcibbcfiemeoiaaGreatDoor
namespace Go.Proofs.Tryz
open Go.Proofs.YtcibbcfiemeoiaaGreatDoor
def questU:List (ByteArray×Bool×Int×Option Nat):=[(⟨⟨[98,97,108,97,110,99,101]⟩⟩,true,0,some 195),(⟨⟨[114,97,116,101]⟩⟩,true,0,some 196),(⟨⟨[98,105,108,108]⟩⟩,true,1,some 197),(⟨⟨[109,105,115,115,105,110,103]⟩⟩,false,1,some 200),(⟨⟨[111,117,116,97,103,101,115]⟩⟩,false,2,some 201),(⟨⟨[112,101,114,109,105,116,115]⟩⟩,false,3,some 205),(⟨⟨[115,101,116,116,108,101,100]⟩⟩,false,0,some 209)]
end Go.Proofs.Tryz
namespace Go.Proofs.YtcibbcfiemeoiaaGreatDoor
open Go.Sx
set_option maxHeartbeats 20000000
abbrev Ug:ByteArray:=⟨⟨[98,97,108,97,110,99,101]⟩⟩
abbrev Hl:ByteArray:=⟨⟨[114,97,116,101]⟩⟩
abbrev Hm:ByteArray:=⟨⟨[98,105,108,108]⟩⟩
abbrev Ub:ByteArray:=⟨⟨[109,105,115,115,105,110,103]⟩⟩
abbrev Uf:ByteArray:=⟨⟨[111,117,116,97,103,101,115]⟩⟩
abbrev Ue:ByteArray:=⟨⟨[112,101,114,109,105,116,115]⟩⟩
abbrev Ud:ByteArray:=⟨⟨[115,101,116,116,108,101,100]⟩⟩
structure NmR (r:Reg):Prop where
 o:∀x∈r.2.2.2.1,x.1.size≤24
 x:∀x∈r.2.2.2.2.2.1,x.1.size≤24
 q:∀x∈r.2.2.2.2.2.2,x.1.size≤24
def D3 (h:J2):Prop:=∀r∈h.2.2,NmR r
theorem J3v {e:Ev} (h:Jc e=0) (i:Nat):(e.2.2.1.getD i Jb).size≤24:=by
 by_cases hi:i<e.2.2.1.length
 ·exact Joq ((K9 h).name _ (Jd hi))
 ·rw[List.getD_eq_getElem?_getD,List.getElem?_eq_none (by omega)]
  decide
theorem Jan {α:Type} {p:α→Prop} {l:List α} {d:α} (h:∀x∈l,p x) (hd:p d) (i:Nat):p (l.getD i d):=by
 by_cases hi:i<l.length
 ·exact h _ (Jd hi)
 ·rw[List.getD_eq_getElem?_getD,List.getElem?_eq_none (by omega)]
  exact hd
theorem J3b {r:Reg} {e:Ev} (hr:NmR r) (hc:Jc e=0):NmR (Jn r e):=by
 have hn:=J3v hc
 obtain⟨tk,st,S,O,M,X,Q⟩:=r
 obtain⟨n,k,ns,vs,tx⟩:=e
 have ho:∀x∈O,x.1.size≤24:=hr.o
 have hx:∀x∈X,x.1.size≤24:=hr.x
 have hq:∀x∈Q,x.1.size≤24:=hr.q
 have hO:∀s,(Xz O s).1.size≤24:=fun s=>Jan (p:=fun x:Ord=>x.1.size≤24) ho (by decide) _
 have hX:∀s,(Lu X s).1.size≤24:=fun s=>Jan (p:=fun x:Out=>x.1.size≤24) hx (by decide) _
 have hQ:∀s,(Jlw Q s).1.size≤24:=fun s=>Jan (p:=fun x:Per=>x.1.size≤24) hq (by decide) _
 unfold Jn doS
 split
 all_goals refine⟨fun y hy=> ?_,fun y hy=> ?_,fun y hy=> ?_⟩
 all_goals first|exact ho y hy|exact hx y hy|exact hq y hy|(rcases Vz hy with h|h;(first|exact ho y h|exact hx y h|exact hq y h);rw[h];exact hn 0)|(rcases Jbh hy with h|h;rw[h];(first|exact hO _|exact hX _|exact hQ _);(first|exact ho y h|exact hx y h|exact hq y h))
theorem Krj {h:J2} {e:Ev} (hN:D3 h) (ha:Ko h e=0):D3 (Zb h e):=by
 obtain⟨hc,hacc⟩:=add_zero ha
 obtain⟨E,C,G⟩:=h
 have h0:NmR (J4 G):=by
  unfold J4
  exact Jan (p:=NmR) hN ⟨fun x h=>(by cases h),fun x h=>(by cases h),fun x h=>(by cases h)⟩ _
 cases hk:e.2.1.toList==Js.toList with
 |true=>
  unfold Zb
  rw[hk,cond_true]
  exact fun r hr=>hN r (List.mem_of_mem_take hr)
 |false=>
  unfold Zb
  rw[hk,cond_false]
  intro r hr
  rcases Vz hr with hr|rfl
  ·exact hN r hr
  ·exact J3b h0 hc
theorem Jee {h:J2} (hN:D3 h):NmR (J4 h.2.2):=by
 unfold J4
 exact Jan (p:=NmR) hN ⟨fun x h=>(by cases h),fun x h=>(by cases h),fun x h=>(by cases h)⟩ _
theorem J36:D3 Vt:=fun r h=>by cases h
abbrev K1g:Sch:= .prod .bool (.prod sI .fnc)
abbrev Qst:=Bool×Int×Option Nat
def Jd2:List (ByteArray×Qst):=Tryz.questU
def J12:Jlv:={kT:=9,gk:=false,gv:=true,ks:= .str,vs:=K1g,l:=Jd2}
theorem Kmi:wpFM Tryz.prog K1a.g (na ()) (fun _=>na ()) (Sx.look ([]:List (Nat×Func))) Tryz.f118 J12:=by
 refine(by kernel_rfl:(Khs∧Sf true ([(Ug,true,0,some 195),(Hl,true,0,some 196),(Hm,true,1,some 197),(Ub,false,1,some 200),(Uf,false,2,some 201),(Ue,false,3,some 205),(Ud,false,0,some 209)]=Jd2))=_).mp ?_
 delta Khs Sf Lb Ug Hm Ub Uf Ue Hl Ud
 exact⟨⟨fun _ _=>rfl,fun _=>rfl⟩,rfl,rfl⟩
theorem J3s:Ok Tryz.prog 118 (Jlv.con J12):=J1q (Jkp mixed K1a.ok (by kernel_rfl) (by kernel_rfl) (Us (l:=([]:List (Nat×Func))) (by simp)) (na ()) (fun _=>na ()) Kmi)
abbrev K60:=K1a.add J3s
def J4k:Jlv:={kT:=9,gk:=false,gv:=true,ks:= .str,vs:=K1g,l:=Tryz.questU}
theorem Ka1:Ok Tryz.prog 118 (Jlv.con J4k):=J3s
abbrev Jx2:=K60.add Ka1
def Jca (k:ByteArray):Qst:=(Vn .str k Jd2).getD (false,0,none)
def Jgu (k:ByteArray):Bool:=(Vn .str k Jd2).isSome
def Kp3:ByteArray:=⟨⟨[110,111,110,101]⟩⟩
def Jly (l:List ByteArray):ByteArray:=bif (l.length:Int)==0 then Kp3 else Vo l ⟨⟨[32]⟩⟩
def Jga (named:Bool) (what:Int) (f:Reg→ByteArray→List ByteArray) (r:Reg) (ws:List ByteArray):ByteArray×Int:=
 bif named then(bif (ws.length:Int)==2 then(bif (ws.getD 1 Jb).toList==Jb.toList then(Jb,25) else bif !Vi r what (ws.getD 1 Jb) then(Jb,10) else(Jly (f r (ws.getD 1 Jb)),0)) else(Jb,25))
 else bif (ws.length:Int) !=1 then(Jb,25) else(Jly (f r Jb),0)
def Za (r:Reg) (ws:List ByteArray):ByteArray×Int:=match(Jca (ws.getD 0 Jb)).2.2 with
 |some 195=>Jga true 0 Jtt r ws
 |some 196=>Jga true 0 Jd4 r ws
 |some 197=>Jga true 1 Jd5 r ws
 |some 200=>Jga false 1 Jcs r ws
 |some 201=>Jga false 2 Jr5 r ws
 |some 205=>Jga false 3 Jr4 r ws
 |some 209=>Jga false 0 Jd3 r ws
 |_=>(Jb,0)
structure Jfk (h:J2) (ws:List ByteArray):Prop where
 hist:Kf h
 nm:D3 h
 len:1≤ws.length
 key:Jgu (ws.getD 0 Jb)=true
 max:ws.length≤1000000
 siz:∀w∈ws,w.size≤1000000
def Jzx:Xu:={T? :=none,s:=Jib,args:=[.val false (.list 9 .str)],ress:=[tS,I],pre:=fun h (ws,_)=>[Jfk h ws],spec:=fun h (ws,_)=>((Za (J4 h.2.2) ws).1,(Za (J4 h.2.2) ws).2,()),post:=fun h _=>h}
def SmL (l:List ByteArray):Prop:=l.length≤2000∧∀w∈l,w.size≤40
theorem Kz {l:List ByteArray} (h:SmL l):l.length≤1000000∧(Lib.join (l.map fun x=>x.data.toList) [32]).length≤140737488355328:=by
 refine⟨by have:=h.1;omega,Nat.le_trans (Jiv rfl) ?_⟩
 have:∀l:List ByteArray,(∀w∈l,w.size≤40)→((l.map fun x=>x.data.toList).map fun x=>x.length+1).sum≤41*l.length:=by
  intro l
  induction l with
  |nil=>intro _;simp
  |cons x r ih=>
   intro h
   have h1:=ih fun w hw=>h w (List.mem_cons_of_mem _ hw)
   have h2:x.data.toList.length≤40:=h x (List.mem_cons_self ..)
   simp only[List.map_cons,List.sum_cons,List.length_cons]
   omega
 have h1:=this l h.2
 have h2:=h.1
 omega
theorem Jh4 {l:List Int} (h:l.length≤2000) (hb:∀n∈l,-9223372036854775808≤n∧n≤9223372036854775807):SmL (l.map Vg):=by
 refine⟨by simpa using h,fun w hw=> ?_⟩
 obtain⟨n,hn,rfl⟩:=List.mem_map.1 hw
 exact Jai n (hb n hn).1 (hb n hn).2
theorem Job {r:Reg} (hr:Jj r) (s:ByteArray):SmL (Jtt r s):=by
 obtain⟨tk,st,S,O,M,X,Q⟩:=r
 have hb:=Jvy (s:=s) hr
 exact Jh4 (l:=[Jvz st S O M s]) (by simp) fun n hn=>by rw[List.mem_singleton.1 hn];omega
theorem Jh6 {r:Reg} (hr:Jj r) {s:ByteArray} (h:0≤J0 r.2.2.1 s):SmL (Jd4 r s):=by
 obtain⟨tk,st,S,O,M,X,Q⟩:=r
 have hs:0≤(Hg S s).2.2∧(Hg S s).2.2≤1000:=(Jh2 hr.sta h).pri
 exact Jh4 (l:=[(Hg S s).2.2]) (by simp) fun n hn=>by rw[List.mem_singleton.1 hn];omega
theorem Jh8 {r:Reg} (hr:Jj r) {s:ByteArray} (h:0≤Ku r.2.2.2.1 s):SmL (Jd5 r s):=by
 obtain⟨tk,st,S,O,M,X,Q⟩:=r
 have hb:=Jaw hr (Jbg h)
 have b1:=hb.hours
 have b2:=hb.sent
 have b3:=hb.got
 have b4:=hb.money
 have b5:=hb.fine
 refine Jh4 (l:=[(Un st M (Xz O s)).2.1,(Un st M (Xz O s)).2.2.1,(Un st M (Xz O s)).2.2.2.1,(Un st M (Xz O s)).2.2.2.2.1,(Un st M (Xz O s)).2.2.2.2.2]) (by simp) fun n hn=> ?_
 simp only[List.mem_cons,List.not_mem_nil,or_false] at hn
 rcases hn with rfl|rfl|rfl|rfl|rfl<;>omega
theorem Jin:∀{l:List Gap} {o:List ByteArray},(∀g∈l,g.1.size≤40∧0≤g.2∧g.2≤999999999)→o.length≤514→(∀w∈o,w.size≤40)→SmL (Jcu l o)
 |[],o,_,h1,h2=>⟨by unfold Jcu;omega,h2⟩
 | g :: l, o, h, h1, h2 => by
  unfold Jcu
  have hg:=h g (List.mem_cons_self ..)
  have h':∀x∈l,x.1.size≤40∧0≤x.2∧x.2≤999999999:=fun x hx=>h x (List.mem_cons_of_mem _ hx)
  cases hd:decide ((o.length:Int)<512) with
  |false=>exact Jin h' h1 h2
  |true=>
   have hd:=of_decide_eq_true hd
   rw[cond_true]
   refine Jin h' (by rw[List.length_append,List.length_cons,List.length_cons,List.length_nil];omega) fun w hw=> ?_
   simp only[List.mem_append,List.mem_cons,List.not_mem_nil,or_false] at hw
   rcases hw with hw|rfl|rfl
   ·exact h2 w hw
   ·exact hg.1
   ·exact Jai _ (by omega) (by omega)
theorem Jos {M:List Met} {u:Int} {x:Ord}:∀(n:Nat) (h:Int),∀g∈Lw M u x h n,g.1=x.1
 |0,_,g,hg=>by cases hg
 | n + 1, h, g, hg => by
  unfold Lw at hg
  rcases List.mem_append.1 hg with hg|hg
  ·cases hb:J1 x h&&(decide (h<u)&&decide (K7 M x.1 h<0)) with
   |false=>rw[hb] at hg;cases hg
   |true=>
    rw[hb,cond_true] at hg
    rw[List.mem_singleton.1 hg]
  ·exact Jos n (h+1) g hg
theorem Jor {M:List Met} {u:Int}:∀{O:List Ord},(∀x∈O,x.1.size≤24)→∀g∈Km M u O,g.1.size≤24
 |[],_,g,hg=>by cases hg
 | x :: l, h, g, hg => by
  unfold Km at hg
  rcases List.mem_append.1 hg with hg|hg
  ·rw[Jos _ _ g hg]
   exact h x (List.mem_cons_self ..)
  ·exact Jor (fun y hy=>h y (List.mem_cons_of_mem _ hy)) g hg
theorem Jh7 {r:Reg} (hr:Jj r) (hN:NmR r) (s:ByteArray):SmL (Jcs r s):=by
 obtain⟨tk,st,S,O,M,X,Q⟩:=r
 refine Jin (fun g hg=>⟨?_,Jio hr.ord g hg⟩) (by decide) fun w hw=>by cases hw
 have:=Jor hN.o g hg
 omega
theorem Joa {r:Reg} (hr:Jj r) (hN:NmR r) (s:ByteArray):SmL (Jr5 r s):=by
 obtain⟨tk,st,S,O,M,X,Q⟩:=r
 have nX:X.length≤16:=hr.nX
 have:=List.length_filter_le (fun x:Out=>Kn x.2.2.1 tk) X
 refine⟨by unfold Jr5;rw[List.length_map];omega,fun w hw=> ?_⟩
 obtain⟨x,hx,rfl⟩:=List.mem_map.1 hw
 have:=hN.x x (List.mem_filter.1 hx).1
 omega
theorem Jn9 {r:Reg} (hr:Jj r) (hN:NmR r) (s:ByteArray):SmL (Jr4 r s):=by
 obtain⟨tk,st,S,O,M,X,Q⟩:=r
 have nQ:Q.length≤16:=hr.nQ
 have:=Jc5 (Q:=Q)
 refine⟨by unfold Jr4;rw[List.length_map];omega,fun w hw=> ?_⟩
 obtain⟨x,hx,rfl⟩:=List.mem_map.1 hw
 have:=hN.q x (List.mem_filter.1 hx).1
 omega
theorem Jh5 {r:Reg} (hr:Jj r) (s:ByteArray):SmL (Jd3 r s):=by
 obtain⟨tk,st,S,O,M,X,Q⟩:=r
 have h1:0≤st∧st≤tk:=hr.st
 have h2:0≤tk∧tk≤999999999:=hr.tk
 exact Jh4 (l:=[st]) (by simp) fun n hn=>by rw[List.mem_singleton.1 hn];omega
theorem Jed (G:List Reg):(decide (0<(G.length:Int))=true∧J4 G=G.getD ((G.length:Int)-1).toNat K5)∨(decide (0<(G.length:Int))=false∧J4 G=K5):=by
 cases h:decide (0<(G.length:Int)) with
 |true=>exact .inl ⟨rfl,by unfold J4;congr 1;omega⟩
 |false=>exact .inr ⟨rfl,Kj h⟩
theorem Jqz:Jca Ug=(true,0,some 195):=by kernel_rfl
theorem Jnq (r:Reg) (ws:List ByteArray):Za r (Ug::ws)=Jga true 0 Jtt r (Ug::ws):=by
 have:(Ug::ws).getD 0 Jb=Ug:=rfl
 unfold Za
 rw[this,Jqz]
 rfl
def Z80 (a:List Reg) (b:Ls):=(Za (J4 a) (Ug::b)).1
def Klm (a:Ls):=Ln (Ug::a)==2
def J95 (a:List Reg) (b:Ls):=0=(Za (J4 a) (Ug::b)).2
def J91:=1≤1000000∧1≤140737488355328
def Jpv (a:Ls):= !Lb (U0 a) B0
def Jl0:=ByteArray.mk (Array.mk [110,111,110,101])
def Kfa (a:Ls):=Jtt Vj (U0 a)
def Kvp (a:TypeId) (b c:List Ev) (d:List Reg) (e:Ls):=Sf true (Sf a (Sf (b,c,d) (B0=Z80 d e∧25=(Za (J4 d) (Ug::e)).2)))
def Kd4 (a:TypeId) (b c:List Ev) (d:List Reg) (e:Ls):=Sf true (Sf a (Sf (b,c,d) (B0=Z80 d e∧10=(Za (J4 d) (Ug::e)).2)))
def Kdu (a:TypeId) (b c:List Ev) (d:List Reg) (e:Ls):=Sf true (Sf a (Sf (b,c,d) (Jl0=Z80 d e∧J95 d e)))
def Kdk (a:List Reg):=Jtt (Ya a) B0
def Kdf (a:List Reg) (b:Ls):=Jtt (Ya a) (U0 b)
def J09 (a:List Reg):=bif true then !Vi (Ya a) 0 B0 else false
theorem Jhu (T:TypeId) (E C:List Ev) (G:List Reg) (ws:List ByteArray):wpFO Tryz.prog Jx2.g (na ()) (fun _=>na ()) (Sx.look ([(75,Tryz.f75)]:List (Nat×Func))) Tryz.f119 Jzx T (E,C,G) (Ug::ws,()):=by
 refine(by kernel_rfl:(Jfk (E,C,G) (Ug::ws)→Tw (Bd 0 (Ln (Ug::ws)))∧Br (bif true then Klm ws else false) (Tw (Bd 1 (Ln (Ug::ws)))∧Br (bif !true==bif Klm ws then Jpv ws else false then true else false) (Kvp T E C G ws) (Br (V2 G) (V1 G∧Jdc G∧Br (Jrv G ws) (Kd4 T E C G ws) (Y1 G∧Br (Ln (Kdf G ws)==0) (Kdu T E C G ws) ((List.length (Kdf G ws)≤1000000∧List.length (Lib.join (List.map (fun(x:ByteArray)=>Z13 x) (Kdf G ws)) [32])≤140737488355328)∧Sf true (Sf T (Sf (E,C,G) (Vo (Kdf G ws) Hj=Z80 G ws∧J95 G ws)))))) (Jdf∧Br (J8u ws) (Kd4 T E C G ws) (Yr∧Br (Ln (Kfa ws)==0) (Kdu T E C G ws) ((List.length (Kfa ws)≤1000000∧List.length (Lib.join (List.map (fun(x:ByteArray)=>Z13 x) (Kfa ws)) [32])≤140737488355328)∧Sf true (Sf T (Sf (E,C,G) (Vo (Kfa ws) Hj=Z80 G ws∧J95 G ws)))))))) (Br (bif !true==bif Klm ws then false else false then true else false) (Kvp T E C G ws) (Br (V2 G) (V1 G∧Jdc G∧Br (J09 G) (Kd4 T E C G ws) (Y1 G∧Br (Ln (Kdk G)==0) (Kdu T E C G ws) ((List.length (Kdk G)≤1000000∧List.length (Lib.join (List.map (fun(x:ByteArray)=>Z13 x) (Kdk G)) [32])≤140737488355328)∧Sf true (Sf T (Sf (E,C,G) (Vo (Kdk G) Hj=Z80 G ws∧J95 G ws)))))) (Jdf∧Br true (Kd4 T E C G ws) (Yr∧Br false (Kdu T E C G ws) (J91∧Sf true (Sf T (Sf (E,C,G) (Vo (Jtt Vj B0) Hj=Z80 G ws∧J95 G ws)))))))))=_).mp ?_
 delta Z13 Z80 U0 V2 Hj Klm J95 J91 Jpv Jl0 Lj Vj V1 Yr Jdf D1 Kfa F3 D0 Fn Hi Hh L2 Zt J2f J8u Kvp Kd4 Kdu Fm Ya Y1 Kdk Jdc Kdf Jlr J09 Jrv Br Iw Bd Tw Sf Ln Gt B0 Lb E2 Ug
 intro ha
 obtain⟨hh,hn,-,-,hmax,hsz⟩:=ha
 have hr:Jj (J4 G):=Yq hh
 have hN:NmR (J4 G):=Jee hn
 have hG:G.length≤1000:=by have:=hh.nE;have:=hh.nC;have:=hh.nG;dsimp only at*;omega
 rw[Jnq]
 have hbn:({data:={toList:=[]}}:ByteArray)=Jb:=rfl
 have hl:((Ug::ws).length:Int)=(ws.length:Int)+1:=by simp
 have ha1:(Ug::ws).getD 1 Jb=ws.getD 0 Jb:=rfl
 have hz:((0:Int),(0:Int),([]:List Sta),([]:List Ord),([]:List Met),([]:List Out),([]:List Per))=K5:=rfl
 simp only[hbn,hz,hl,Prod.eta,Jga,ha1]
 rcases Jed G with⟨hd,e0⟩|⟨hd,e0⟩
 ·rw[e0] at hr hN⊢
  have hp:=of_decide_eq_true hd
  rw[hd]
  generalize G.getD ((G.length:Int)-1).toNat K5=r at hr hN⊢
  cases h2:(ws.length:Int)+1==2
  all_goals cases h3:(ws.getD 0 Jb).toList==Jb.toList
  all_goals cases h4:Vi r 0 (ws.getD 0 Jb)
  all_goals cases h5:(((Jtt r (ws.getD 0 Jb)).length:Int)==0)
  all_goals simp only[h2,h3,h4,h5,bne,Jly,Bool.not_true,Bool.not_false,cond_true,cond_false,BEq.rfl,Bool.true_beq,Bool.false_beq,reduceCtorEq,false_implies,forall_const,true_and,and_true,and_self]
  all_goals repeat' apply And.intro
  all_goals first|omega|(have:=eq_of_beq h2;omega)|exact hr|exact(Kz (Job hr _)).1|exact(Kz (Job hr _)).2|rfl|(have:=h4;simpa[Vi] using this)|skip
 ·rw[e0] at hr hN⊢
  rw[hd]
  cases h2:(ws.length:Int)+1==2
  all_goals cases h3:(ws.getD 0 Jb).toList==Jb.toList
  all_goals cases h4:Vi K5 0 (ws.getD 0 Jb)
  all_goals cases h5:(((Jtt K5 (ws.getD 0 Jb)).length:Int)==0)
  all_goals simp only[h2,h3,h4,h5,bne,Jly,Bool.not_true,Bool.not_false,cond_true,cond_false,BEq.rfl,Bool.true_beq,Bool.false_beq,reduceCtorEq,false_implies,forall_const,true_and,and_true,and_self]
  all_goals repeat' apply And.intro
  all_goals first|omega|(have:=eq_of_beq h2;omega)|exact hr|exact(Kz (Job hr _)).1|exact(Kz (Job hr _)).2|rfl|(have:=h4;simpa[Vi,K5] using this)|exact nomatch (show true=false from h5)|exact nomatch (show false=true from h5)
theorem J3m:Jca Hl=(true,0,some 196):=by kernel_rfl
theorem Jz3 (r:Reg) (ws:List ByteArray):Za r (Hl::ws)=Jga true 0 Jd4 r (Hl::ws):=by
 have:(Hl::ws).getD 0 Jb=Hl:=rfl
 unfold Za
 rw[this,J3m]
 rfl
def Z48 (a:List Reg) (b:Ls):=(Za (J4 a) (Hl::b)).1
def Klq (a:Ls):=Ln (Hl::a)==2
def Kac (a:List Reg) (b:Ls):=0=(Za (J4 a) (Hl::b)).2
def Ke6 (a:Ls):=Jd4 Vj (U0 a)
def Ked (a:TypeId) (b c:List Ev) (d:List Reg) (e:Ls):=Sf true (Sf a (Sf (b,c,d) (B0=Z48 d e∧10=(Za (J4 d) (Hl::e)).2)))
def Kvw (a:TypeId) (b c:List Ev) (d:List Reg) (e:Ls):=Sf true (Sf a (Sf (b,c,d) (B0=Z48 d e∧25=(Za (J4 d) (Hl::e)).2)))
def Kdz (a:TypeId) (b c:List Ev) (d:List Reg) (e:Ls):=Sf true (Sf a (Sf (b,c,d) (Jl0=Z48 d e∧Kac d e)))
def Kdh (a:List Reg):=Jd4 (Ya a) B0
def Jw6 (a:List Reg) (b:Ls):=Jd4 (Ya a) (U0 b)
theorem Jqi (T:TypeId) (E C:List Ev) (G:List Reg) (ws:List ByteArray):wpFO Tryz.prog Jx2.g (na ()) (fun _=>na ()) (Sx.look ([(75,Tryz.f75)]:List (Nat×Func))) Tryz.f119 Jzx T (E,C,G) (Hl::ws,()):=by
 refine(by kernel_rfl:(Jfk (E,C,G) (Hl::ws)→Tw (Bd 0 (Ln (Hl::ws)))∧Br (bif true then Klq ws else false) (Tw (Bd 1 (Ln (Hl::ws)))∧Br (bif !true==bif Klq ws then Jpv ws else false then true else false) (Kvw T E C G ws) (Br (V2 G) (V1 G∧Jdc G∧Br (Jrv G ws) (Ked T E C G ws) ((Y1 G∧0≤J0 (Hi G).1 (U0 ws))∧Br (Ln (Jw6 G ws)==0) (Kdz T E C G ws) ((List.length (Jw6 G ws)≤1000000∧List.length (Lib.join (List.map (fun(x:ByteArray)=>Z13 x) (Jw6 G ws)) [32])≤140737488355328)∧Sf true (Sf T (Sf (E,C,G) (Vo (Jw6 G ws) Hj=Z48 G ws∧Kac G ws)))))) (Jdf∧Br (J8u ws) (Ked T E C G ws) ((Yr∧0≤J0 [] (U0 ws))∧Br (Ln (Ke6 ws)==0) (Kdz T E C G ws) ((List.length (Ke6 ws)≤1000000∧List.length (Lib.join (List.map (fun(x:ByteArray)=>Z13 x) (Ke6 ws)) [32])≤140737488355328)∧Sf true (Sf T (Sf (E,C,G) (Vo (Ke6 ws) Hj=Z48 G ws∧Kac G ws)))))))) (Br (bif !true==bif Klq ws then false else false then true else false) (Kvw T E C G ws) (Br (V2 G) (V1 G∧Jdc G∧Br (J09 G) (Ked T E C G ws) ((Y1 G∧0≤J0 (Hi G).1 B0)∧Br (Ln (Kdh G)==0) (Kdz T E C G ws) ((List.length (Kdh G)≤1000000∧List.length (Lib.join (List.map (fun(x:ByteArray)=>Z13 x) (Kdh G)) [32])≤140737488355328)∧Sf true (Sf T (Sf (E,C,G) (Vo (Kdh G) Hj=Z48 G ws∧Kac G ws)))))) (Jdf∧Br true (Ked T E C G ws) ((Yr∧0≤J0 [] B0)∧Br false (Kdz T E C G ws) (J91∧Sf true (Sf T (Sf (E,C,G) (Vo (Jd4 Vj B0) Hj=Z48 G ws∧Kac G ws)))))))))=_).mp ?_
 delta Z13 Z48 U0 V2 Klq Hj Kac J91 Jpv Jl0 Lj Vj V1 Yr Jdf D1 F3 D0 Ke6 Fn Hi Hh L2 Zt J2f J8u Ked Kvw Kdz Fm Ya Y1 Kdh Jdc Jw6 Jlr J09 Jrv Br Iw Bd Tw Sf Ln Gt B0 Lb E2 Hl
 intro ha
 obtain⟨hh,hn,-,-,hmax,hsz⟩:=ha
 have hr:Jj (J4 G):=Yq hh
 have hN:NmR (J4 G):=Jee hn
 have hG:G.length≤1000:=by have:=hh.nE;have:=hh.nC;have:=hh.nG;dsimp only at*;omega
 rw[Jz3]
 have hbn:({data:={toList:=[]}}:ByteArray)=Jb:=rfl
 have hl:((Hl::ws).length:Int)=(ws.length:Int)+1:=by simp
 have ha1:(Hl::ws).getD 1 Jb=ws.getD 0 Jb:=rfl
 have hz:((0:Int),(0:Int),([]:List Sta),([]:List Ord),([]:List Met),([]:List Out),([]:List Per))=K5:=rfl
 simp only[hbn,hz,hl,Prod.eta,Jga,ha1]
 rcases Jed G with⟨hd,e0⟩|⟨hd,e0⟩
 ·rw[e0] at hr hN⊢
  have hp:=of_decide_eq_true hd
  rw[hd]
  generalize G.getD ((G.length:Int)-1).toNat K5=r at hr hN⊢
  cases h2:(ws.length:Int)+1==2
  all_goals cases h3:(ws.getD 0 Jb).toList==Jb.toList
  all_goals cases h4:Vi r 0 (ws.getD 0 Jb)
  all_goals cases h5:(((Jd4 r (ws.getD 0 Jb)).length:Int)==0)
  all_goals simp only[h2,h3,h4,h5,bne,Jly,Bool.not_true,Bool.not_false,cond_true,cond_false,BEq.rfl,Bool.true_beq,Bool.false_beq,reduceCtorEq,false_implies,forall_const,true_and,and_true,and_self]
  all_goals repeat' apply And.intro
  all_goals first|omega|(have:=eq_of_beq h2;omega)|exact hr|exact(Kz (Jh6 hr (by have:=h4;simpa[Vi,K5] using this))).1|exact(Kz (Jh6 hr (by have:=h4;simpa[Vi,K5] using this))).2|rfl|(have:=h4;simpa[Vi] using this)|skip
 ·rw[e0] at hr hN⊢
  rw[hd]
  cases h2:(ws.length:Int)+1==2
  all_goals cases h3:(ws.getD 0 Jb).toList==Jb.toList
  all_goals cases h4:Vi K5 0 (ws.getD 0 Jb)
  all_goals cases h5:(((Jd4 K5 (ws.getD 0 Jb)).length:Int)==0)
  all_goals simp only[h2,h3,h4,h5,bne,Jly,Bool.not_true,Bool.not_false,cond_true,cond_false,BEq.rfl,Bool.true_beq,Bool.false_beq,reduceCtorEq,false_implies,forall_const,true_and,and_true,and_self]
  all_goals repeat' apply And.intro
  all_goals first|omega|(have:=eq_of_beq h2;omega)|exact hr|exact(Kz (Jh6 hr (by have:=h4;simpa[Vi,K5] using this))).1|exact(Kz (Jh6 hr (by have:=h4;simpa[Vi,K5] using this))).2|rfl|(have:=h4;simpa[Vi,K5] using this)|exact nomatch (show true=false from h5)|exact nomatch (show false=true from h5)
theorem J3n:Jca Hm=(true,1,some 197):=by kernel_rfl
theorem Jz4 (r:Reg) (ws:List ByteArray):Za r (Hm::ws)=Jga true 1 Jd5 r (Hm::ws):=by
 have:(Hm::ws).getD 0 Jb=Hm:=rfl
 unfold Za
 rw[this,J3n]
 rfl
def Z40 (a:List Reg) (b:Ls):=(Za (J4 a) (Hm::b)).1
def Klp (a:Ls):=Ln (Hm::a)==2
def Kab (a:List Reg) (b:Ls):=0=(Za (J4 a) (Hm::b)).2
def Ke5 (a:Ls):=Jd5 Vj (U0 a)
def Kvy (a:TypeId) (b c:List Ev) (d:List Reg) (e:Ls):=Sf true (Sf a (Sf (b,c,d) (B0=Z40 d e∧25=(Za (J4 d) (Hm::e)).2)))
def Kec (a:TypeId) (b c:List Ev) (d:List Reg) (e:Ls):=Sf true (Sf a (Sf (b,c,d) (B0=Z40 d e∧10=(Za (J4 d) (Hm::e)).2)))
def Kd0 (a:TypeId) (b c:List Ev) (d:List Reg) (e:Ls):=Sf true (Sf a (Sf (b,c,d) (Jl0=Z40 d e∧Kab d e)))
def Kdg (a:List Reg):=Jd5 (Ya a) B0
def Jw3 (a:List Reg) (b:Ls):=Jd5 (Ya a) (U0 b)
theorem Jqj (T:TypeId) (E C:List Ev) (G:List Reg) (ws:List ByteArray):wpFO Tryz.prog Jx2.g (na ()) (fun _=>na ()) (Sx.look ([(75,Tryz.f75)]:List (Nat×Func))) Tryz.f119 Jzx T (E,C,G) (Hm::ws,()):=by
 refine(by kernel_rfl:(Jfk (E,C,G) (Hm::ws)→Tw (Bd 0 (Ln (Hm::ws)))∧Br (bif true then Klp ws else false) (Tw (Bd 1 (Ln (Hm::ws)))∧Br (bif !true==bif Klp ws then Jpv ws else false then true else false) (Kvy T E C G ws) (Br (V2 G) (V1 G∧Jdc G∧Br (Jrw G ws) (Kec T E C G ws) ((Y1 G∧0≤Ku (Hh G).1 (U0 ws))∧Br (Ln (Jw3 G ws)==0) (Kd0 T E C G ws) ((List.length (Jw3 G ws)≤1000000∧List.length (Lib.join (List.map (fun(x:ByteArray)=>Z13 x) (Jw3 G ws)) [32])≤140737488355328)∧Sf true (Sf T (Sf (E,C,G) (Vo (Jw3 G ws) Hj=Z40 G ws∧Kab G ws)))))) (Jdf∧Br (J8v ws) (Kec T E C G ws) ((Yr∧0≤Ku [] (U0 ws))∧Br (Ln (Ke5 ws)==0) (Kd0 T E C G ws) ((List.length (Ke5 ws)≤1000000∧List.length (Lib.join (List.map (fun(x:ByteArray)=>Z13 x) (Ke5 ws)) [32])≤140737488355328)∧Sf true (Sf T (Sf (E,C,G) (Vo (Ke5 ws) Hj=Z40 G ws∧Kab G ws)))))))) (Br (bif !true==bif Klp ws then false else false then true else false) (Kvy T E C G ws) (Br (V2 G) (V1 G∧Jdc G∧Br (bif true then !Vi (Ya G) 1 B0 else false) (Kec T E C G ws) ((Y1 G∧0≤Ku (Hh G).1 B0)∧Br (Ln (Kdg G)==0) (Kd0 T E C G ws) ((List.length (Kdg G)≤1000000∧List.length (Lib.join (List.map (fun(x:ByteArray)=>Z13 x) (Kdg G)) [32])≤140737488355328)∧Sf true (Sf T (Sf (E,C,G) (Vo (Kdg G) Hj=Z40 G ws∧Kab G ws)))))) (Jdf∧Br true (Kec T E C G ws) ((Yr∧0≤Ku [] B0)∧Br false (Kd0 T E C G ws) ((5≤1000000∧9≤140737488355328)∧Sf true (Sf T (Sf (E,C,G) (Vo (Jd5 Vj B0) Hj=Z40 G ws∧Kab G ws)))))))))=_).mp ?_
 delta Z13 Z40 U0 V2 Klp Hj Kab Jpv Jl0 Lj Vj V1 Yr Jdf D1 F3 D0 Ke5 Fn Hi Hh L2 Zt J80 J8v Kvy Kec Kd0 Fm Ya Y1 Kdg Jdc Jw3 Jry Jrw Br Iw Bd Tw Sf Ln Gt B0 Lb E2 Hm
 intro ha
 obtain⟨hh,hn,-,-,hmax,hsz⟩:=ha
 have hr:Jj (J4 G):=Yq hh
 have hN:NmR (J4 G):=Jee hn
 have hG:G.length≤1000:=by have:=hh.nE;have:=hh.nC;have:=hh.nG;dsimp only at*;omega
 rw[Jz4]
 have hbn:({data:={toList:=[]}}:ByteArray)=Jb:=rfl
 have hl:((Hm::ws).length:Int)=(ws.length:Int)+1:=by simp
 have ha1:(Hm::ws).getD 1 Jb=ws.getD 0 Jb:=rfl
 have hz:((0:Int),(0:Int),([]:List Sta),([]:List Ord),([]:List Met),([]:List Out),([]:List Per))=K5:=rfl
 simp only[hbn,hz,hl,Prod.eta,Jga,ha1]
 rcases Jed G with⟨hd,e0⟩|⟨hd,e0⟩
 ·rw[e0] at hr hN⊢
  have hp:=of_decide_eq_true hd
  rw[hd]
  generalize G.getD ((G.length:Int)-1).toNat K5=r at hr hN⊢
  cases h2:(ws.length:Int)+1==2
  all_goals cases h3:(ws.getD 0 Jb).toList==Jb.toList
  all_goals cases h4:Vi r 1 (ws.getD 0 Jb)
  all_goals cases h5:(((Jd5 r (ws.getD 0 Jb)).length:Int)==0)
  all_goals simp only[h2,h3,h4,h5,bne,Jly,Bool.not_true,Bool.not_false,cond_true,cond_false,BEq.rfl,Bool.true_beq,Bool.false_beq,reduceCtorEq,false_implies,forall_const,true_and,and_true,and_self]
  all_goals repeat' apply And.intro
  all_goals first|omega|(have:=eq_of_beq h2;omega)|exact hr|exact(Kz (Jh8 hr (by have:=h4;simpa[Vi,K5] using this))).1|exact(Kz (Jh8 hr (by have:=h4;simpa[Vi,K5] using this))).2|rfl|(have:=h4;simpa[Vi] using this)|skip
 ·rw[e0] at hr hN⊢
  rw[hd]
  cases h2:(ws.length:Int)+1==2
  all_goals cases h3:(ws.getD 0 Jb).toList==Jb.toList
  all_goals cases h4:Vi K5 1 (ws.getD 0 Jb)
  all_goals cases h5:(((Jd5 K5 (ws.getD 0 Jb)).length:Int)==0)
  all_goals simp only[h2,h3,h4,h5,bne,Jly,Bool.not_true,Bool.not_false,cond_true,cond_false,BEq.rfl,Bool.true_beq,Bool.false_beq,reduceCtorEq,false_implies,forall_const,true_and,and_true,and_self]
  all_goals repeat' apply And.intro
  all_goals first|omega|(have:=eq_of_beq h2;omega)|exact hr|exact(Kz (Jh8 hr (by have:=h4;simpa[Vi,K5] using this))).1|exact(Kz (Jh8 hr (by have:=h4;simpa[Vi,K5] using this))).2|rfl|(have:=h4;simpa[Vi,K5] using this)|exact nomatch (show true=false from h5)|exact nomatch (show false=true from h5)
theorem Jqy:Jca Ub=(false,1,some 200):=by kernel_rfl
theorem Jnp (r:Reg) (ws:List ByteArray):Za r (Ub::ws)=Jga false 1 Jcs r (Ub::ws):=by
 have:(Ub::ws).getD 0 Jb=Ub:=rfl
 unfold Za
 rw[this,Jqy]
 rfl
def Z38 (a:Ls):=Ln (Ub::a)
def Z74 (a:List Reg) (b:Ls):=(Za (J4 a) (Ub::b)).1
def J99 (a:List Reg) (b:Ls):=0=(Za (J4 a) (Ub::b)).2
def J92:=0≤1000000∧0≤140737488355328
def Kyz (a:Ls):=bif true then Z38 a !=1 else false
def Ke7 (a:Ls):=Jcs Vj (U0 a)
def Kd7 (a:TypeId) (b c:List Ev) (d:List Reg) (e:Ls):=Sf true (Sf a (Sf (b,c,d) (B0=Z74 d e∧10=(Za (J4 d) (Ub::e)).2)))
def Kvk (a:TypeId) (b c:List Ev) (d:List Reg) (e:Ls):=Sf true (Sf a (Sf (b,c,d) (B0=Z74 d e∧25=(Za (J4 d) (Ub::e)).2)))
def Kdy (a:TypeId) (b c:List Ev) (d:List Reg) (e:Ls):=Sf true (Sf a (Sf (b,c,d) (Jl0=Z74 d e∧J99 d e)))
def Kdj (a:List Reg):=Jcs (Ya a) B0
def Jw5 (a:List Reg) (b:Ls):=Jcs (Ya a) (U0 b)
theorem Jht (T:TypeId) (E C:List Ev) (G:List Reg) (ws:List ByteArray):wpFO Tryz.prog Jx2.g (na ()) (fun _=>na ()) (Sx.look ([(75,Tryz.f75)]:List (Nat×Func))) Tryz.f119 Jzx T (E,C,G) (Ub::ws,()):=by
 refine(by kernel_rfl:(Jfk (E,C,G) (Ub::ws)→Tw (Bd 0 (Z38 ws))∧Br false (Tw (Bd 1 (Z38 ws))∧Br (bif !false==bif Z38 ws==2 then Jpv ws else false then true else Kyz ws) (Kvk T E C G ws) (Br (V2 G) (V1 G∧Jb0 G∧Br false (Kd7 T E C G ws) (Y1 G∧Br (Ln (Jw5 G ws)==0) (Kdy T E C G ws) ((List.length (Jw5 G ws)≤1000000∧List.length (Lib.join (List.map (fun(x:ByteArray)=>Z13 x) (Jw5 G ws)) [32])≤140737488355328)∧Sf true (Sf T (Sf (E,C,G) (Vo (Jw5 G ws) Hj=Z74 G ws∧J99 G ws)))))) (Ja2∧Br false (Kd7 T E C G ws) (Yr∧Br (Ln (Ke7 ws)==0) (Kdy T E C G ws) ((List.length (Ke7 ws)≤1000000∧List.length (Lib.join (List.map (fun(x:ByteArray)=>Z13 x) (Ke7 ws)) [32])≤140737488355328)∧Sf true (Sf T (Sf (E,C,G) (Vo (Ke7 ws) Hj=Z74 G ws∧J99 G ws)))))))) (Br (bif !false==bif Z38 ws==2 then false else false then true else Kyz ws) (Kvk T E C G ws) (Br (V2 G) (V1 G∧Jb0 G∧Br false (Kd7 T E C G ws) (Y1 G∧Br (Ln (Kdj G)==0) (Kdy T E C G ws) ((List.length (Kdj G)≤1000000∧List.length (Lib.join (List.map (fun(x:ByteArray)=>Z13 x) (Kdj G)) [32])≤140737488355328)∧Sf true (Sf T (Sf (E,C,G) (Vo (Kdj G) Hj=Z74 G ws∧J99 G ws)))))) (Ja2∧Br false (Kd7 T E C G ws) (Yr∧Br true (Kdy T E C G ws) (J92∧Sf true (Sf T (Sf (E,C,G) (Vo (Jcs Vj B0) Hj=Z74 G ws∧J99 G ws)))))))))=_).mp ?_
 delta Z13 Z38 Z74 U0 V2 Hj J99 J92 Jpv Jl0 Lj Vj V1 Yr Ja2 Kyz D1 F3 D0 Ke7 Fn Hi Hh L2 Zt Kd7 Kvk Kdy Fm Ya Y1 Kdj Jb0 Jw5 Br Iw Bd Tw Sf Ln Gt B0 Lb E2 Ub
 intro ha
 obtain⟨hh,hn,-,-,hmax,hsz⟩:=ha
 have hr:Jj (J4 G):=Yq hh
 have hN:NmR (J4 G):=Jee hn
 have hG:G.length≤1000:=by have:=hh.nE;have:=hh.nC;have:=hh.nG;dsimp only at*;omega
 rw[Jnp]
 have hbn:({data:={toList:=[]}}:ByteArray)=Jb:=rfl
 have hl:((Ub::ws).length:Int)=(ws.length:Int)+1:=by simp
 have ha1:(Ub::ws).getD 1 Jb=ws.getD 0 Jb:=rfl
 have hz:((0:Int),(0:Int),([]:List Sta),([]:List Ord),([]:List Met),([]:List Out),([]:List Per))=K5:=rfl
 simp only[hbn,hz,hl,Prod.eta,Jga,ha1]
 rcases Jed G with⟨hd,e0⟩|⟨hd,e0⟩
 ·rw[e0] at hr hN⊢
  have hp:=of_decide_eq_true hd
  rw[hd]
  generalize G.getD ((G.length:Int)-1).toNat K5=r at hr hN⊢
  cases h2:(ws.length:Int)+1==1
  all_goals cases h6:(ws.length:Int)+1==2
  all_goals cases h3:(ws.getD 0 Jb).toList==Jb.toList
  all_goals cases h5:(((Jcs r Jb).length:Int)==0)
  all_goals simp only[h2,h3,h5,h6,bne,Jly,Bool.not_true,Bool.not_false,cond_true,cond_false,BEq.rfl,Bool.true_beq,Bool.false_beq,reduceCtorEq,false_implies,forall_const,true_and,and_true,and_self]
  all_goals repeat' apply And.intro
  all_goals first|omega|(have:=eq_of_beq h2;omega)|exact hr|exact(Kz (Jh7 hr hN _)).1|exact(Kz (Jh7 hr hN _)).2|rfl|(have:=h4;simpa[Vi] using this)|skip
 ·rw[e0] at hr hN⊢
  rw[hd]
  cases h2:(ws.length:Int)+1==1
  all_goals cases h6:(ws.length:Int)+1==2
  all_goals cases h3:(ws.getD 0 Jb).toList==Jb.toList
  all_goals cases h5:(((Jcs K5 Jb).length:Int)==0)
  all_goals simp only[h2,h3,h5,h6,bne,Jly,Bool.not_true,Bool.not_false,cond_true,cond_false,BEq.rfl,Bool.true_beq,Bool.false_beq,reduceCtorEq,false_implies,forall_const,true_and,and_true,and_self]
  all_goals repeat' apply And.intro
  all_goals first|omega|(have:=eq_of_beq h2;omega)|exact hr|exact(Kz (Jh7 hr hN _)).1|exact(Kz (Jh7 hr hN _)).2|rfl|(have:=h4;simpa[Vi,K5] using this)|exact nomatch (show true=false from h5)|exact nomatch (show false=true from h5)
theorem Jqx:Jca Uf=(false,2,some 201):=by kernel_rfl
theorem Jno (r:Reg) (ws:List ByteArray):Za r (Uf::ws)=Jga false 2 Jr5 r (Uf::ws):=by
 have:(Uf::ws).getD 0 Jb=Uf:=rfl
 unfold Za
 rw[this,Jqx]
 rfl
def Z35 (a:Ls):=Ln (Uf::a)
def Z79 (a:List Reg) (b:Ls):=(Za (J4 a) (Uf::b)).1
def J97 (a:List Reg) (b:Ls):=0=(Za (J4 a) (Uf::b)).2
def Ky3 (a:Ls):=bif true then Z35 a !=1 else false
def Kfb (a:Ls):=Jr5 Vj (U0 a)
def Kd6 (a:TypeId) (b c:List Ev) (d:List Reg) (e:Ls):=Sf true (Sf a (Sf (b,c,d) (B0=Z79 d e∧10=(Za (J4 d) (Uf::e)).2)))
def Kvl (a:TypeId) (b c:List Ev) (d:List Reg) (e:Ls):=Sf true (Sf a (Sf (b,c,d) (B0=Z79 d e∧25=(Za (J4 d) (Uf::e)).2)))
def Kdv (a:TypeId) (b c:List Ev) (d:List Reg) (e:Ls):=Sf true (Sf a (Sf (b,c,d) (Jl0=Z79 d e∧J97 d e)))
def Kdm (a:List Reg):=Jr5 (Ya a) B0
def Kdd (a:List Reg) (b:Ls):=Jr5 (Ya a) (U0 b)
theorem Jhs (T:TypeId) (E C:List Ev) (G:List Reg) (ws:List ByteArray):wpFO Tryz.prog Jx2.g (na ()) (fun _=>na ()) (Sx.look ([(75,Tryz.f75)]:List (Nat×Func))) Tryz.f119 Jzx T (E,C,G) (Uf::ws,()):=by
 refine(by kernel_rfl:(Jfk (E,C,G) (Uf::ws)→Tw (Bd 0 (Z35 ws))∧Br false (Tw (Bd 1 (Z35 ws))∧Br (bif !false==bif Z35 ws==2 then Jpv ws else false then true else Ky3 ws) (Kvl T E C G ws) (Br (V2 G) (V1 G∧Jb0 G∧Br false (Kd6 T E C G ws) (Y1 G∧Br (Ln (Kdd G ws)==0) (Kdv T E C G ws) ((List.length (Kdd G ws)≤1000000∧List.length (Lib.join (List.map (fun(x:ByteArray)=>Z13 x) (Kdd G ws)) [32])≤140737488355328)∧Sf true (Sf T (Sf (E,C,G) (Vo (Kdd G ws) Hj=Z79 G ws∧J97 G ws)))))) (Ja2∧Br false (Kd6 T E C G ws) (Yr∧Br (Ln (Kfb ws)==0) (Kdv T E C G ws) ((List.length (Kfb ws)≤1000000∧List.length (Lib.join (List.map (fun(x:ByteArray)=>Z13 x) (Kfb ws)) [32])≤140737488355328)∧Sf true (Sf T (Sf (E,C,G) (Vo (Kfb ws) Hj=Z79 G ws∧J97 G ws)))))))) (Br (bif !false==bif Z35 ws==2 then false else false then true else Ky3 ws) (Kvl T E C G ws) (Br (V2 G) (V1 G∧Jb0 G∧Br false (Kd6 T E C G ws) (Y1 G∧Br (Ln (Kdm G)==0) (Kdv T E C G ws) ((List.length (Kdm G)≤1000000∧List.length (Lib.join (List.map (fun(x:ByteArray)=>Z13 x) (Kdm G)) [32])≤140737488355328)∧Sf true (Sf T (Sf (E,C,G) (Vo (Kdm G) Hj=Z79 G ws∧J97 G ws)))))) (Ja2∧Br false (Kd6 T E C G ws) (Yr∧Br true (Kdv T E C G ws) (J92∧Sf true (Sf T (Sf (E,C,G) (Vo (Jr5 Vj B0) Hj=Z79 G ws∧J97 G ws)))))))))=_).mp ?_
 delta Z13 Z35 Z79 U0 V2 Hj J97 J92 Jpv Jl0 Lj Vj V1 Yr Ja2 Ky3 D1 Kfb F3 D0 Fn Hi Hh L2 Zt Kd6 Kvl Kdv Fm Ya Y1 Kdm Jb0 Kdd Br Iw Bd Tw Sf Ln Gt B0 Lb E2 Uf
 intro ha
 obtain⟨hh,hn,-,-,hmax,hsz⟩:=ha
 have hr:Jj (J4 G):=Yq hh
 have hN:NmR (J4 G):=Jee hn
 have hG:G.length≤1000:=by have:=hh.nE;have:=hh.nC;have:=hh.nG;dsimp only at*;omega
 rw[Jno]
 have hbn:({data:={toList:=[]}}:ByteArray)=Jb:=rfl
 have hl:((Uf::ws).length:Int)=(ws.length:Int)+1:=by simp
 have ha1:(Uf::ws).getD 1 Jb=ws.getD 0 Jb:=rfl
 have hz:((0:Int),(0:Int),([]:List Sta),([]:List Ord),([]:List Met),([]:List Out),([]:List Per))=K5:=rfl
 simp only[hbn,hz,hl,Prod.eta,Jga,ha1]
 rcases Jed G with⟨hd,e0⟩|⟨hd,e0⟩
 ·rw[e0] at hr hN⊢
  have hp:=of_decide_eq_true hd
  rw[hd]
  generalize G.getD ((G.length:Int)-1).toNat K5=r at hr hN⊢
  cases h2:(ws.length:Int)+1==1
  all_goals cases h6:(ws.length:Int)+1==2
  all_goals cases h3:(ws.getD 0 Jb).toList==Jb.toList
  all_goals cases h5:(((Jr5 r Jb).length:Int)==0)
  all_goals simp only[h2,h3,h5,h6,bne,Jly,Bool.not_true,Bool.not_false,cond_true,cond_false,BEq.rfl,Bool.true_beq,Bool.false_beq,reduceCtorEq,false_implies,forall_const,true_and,and_true,and_self]
  all_goals repeat' apply And.intro
  all_goals first|omega|(have:=eq_of_beq h2;omega)|exact hr|exact(Kz (Joa hr hN _)).1|exact(Kz (Joa hr hN _)).2|rfl|(have:=h4;simpa[Vi] using this)|skip
 ·rw[e0] at hr hN⊢
  rw[hd]
  cases h2:(ws.length:Int)+1==1
  all_goals cases h6:(ws.length:Int)+1==2
  all_goals cases h3:(ws.getD 0 Jb).toList==Jb.toList
  all_goals cases h5:(((Jr5 K5 Jb).length:Int)==0)
  all_goals simp only[h2,h3,h5,h6,bne,Jly,Bool.not_true,Bool.not_false,cond_true,cond_false,BEq.rfl,Bool.true_beq,Bool.false_beq,reduceCtorEq,false_implies,forall_const,true_and,and_true,and_self]
  all_goals repeat' apply And.intro
  all_goals first|omega|(have:=eq_of_beq h2;omega)|exact hr|exact(Kz (Joa hr hN _)).1|exact(Kz (Joa hr hN _)).2|rfl|(have:=h4;simpa[Vi,K5] using this)|exact nomatch (show true=false from h5)|exact nomatch (show false=true from h5)
theorem Jqw:Jca Ue=(false,3,some 205):=by kernel_rfl
theorem Jnn (r:Reg) (ws:List ByteArray):Za r (Ue::ws)=Jga false 3 Jr4 r (Ue::ws):=by
 have:(Ue::ws).getD 0 Jb=Ue:=rfl
 unfold Za
 rw[this,Jqw]
 rfl
def Z36 (a:Ls):=Ln (Ue::a)
def Z71 (a:List Reg) (b:Ls):=(Za (J4 a) (Ue::b)).1
def J98 (a:List Reg) (b:Ls):=0=(Za (J4 a) (Ue::b)).2
def Ky1 (a:Ls):=bif true then Z36 a !=1 else false
def Ke9 (a:Ls):=Jr4 Vj (U0 a)
def Kvo (a:TypeId) (b c:List Ev) (d:List Reg) (e:Ls):=Sf true (Sf a (Sf (b,c,d) (B0=Z71 d e∧25=(Za (J4 d) (Ue::e)).2)))
def Kd5 (a:TypeId) (b c:List Ev) (d:List Reg) (e:Ls):=Sf true (Sf a (Sf (b,c,d) (B0=Z71 d e∧10=(Za (J4 d) (Ue::e)).2)))
def Kdw (a:TypeId) (b c:List Ev) (d:List Reg) (e:Ls):=Sf true (Sf a (Sf (b,c,d) (Jl0=Z71 d e∧J98 d e)))
def Kdl (a:List Reg):=Jr4 (Ya a) B0
def Kde (a:List Reg) (b:Ls):=Jr4 (Ya a) (U0 b)
theorem Jhr (T:TypeId) (E C:List Ev) (G:List Reg) (ws:List ByteArray):wpFO Tryz.prog Jx2.g (na ()) (fun _=>na ()) (Sx.look ([(75,Tryz.f75)]:List (Nat×Func))) Tryz.f119 Jzx T (E,C,G) (Ue::ws,()):=by
 refine(by kernel_rfl:(Jfk (E,C,G) (Ue::ws)→Tw (Bd 0 (Z36 ws))∧Br false (Tw (Bd 1 (Z36 ws))∧Br (bif !false==bif Z36 ws==2 then Jpv ws else false then true else Ky1 ws) (Kvo T E C G ws) (Br (V2 G) (V1 G∧Jb0 G∧Br false (Kd5 T E C G ws) (Y1 G∧Br (Ln (Kde G ws)==0) (Kdw T E C G ws) ((List.length (Kde G ws)≤1000000∧List.length (Lib.join (List.map (fun(x:ByteArray)=>Z13 x) (Kde G ws)) [32])≤140737488355328)∧Sf true (Sf T (Sf (E,C,G) (Vo (Kde G ws) Hj=Z71 G ws∧J98 G ws)))))) (Ja2∧Br false (Kd5 T E C G ws) (Yr∧Br (Ln (Ke9 ws)==0) (Kdw T E C G ws) ((List.length (Ke9 ws)≤1000000∧List.length (Lib.join (List.map (fun(x:ByteArray)=>Z13 x) (Ke9 ws)) [32])≤140737488355328)∧Sf true (Sf T (Sf (E,C,G) (Vo (Ke9 ws) Hj=Z71 G ws∧J98 G ws)))))))) (Br (bif !false==bif Z36 ws==2 then false else false then true else Ky1 ws) (Kvo T E C G ws) (Br (V2 G) (V1 G∧Jb0 G∧Br false (Kd5 T E C G ws) (Y1 G∧Br (Ln (Kdl G)==0) (Kdw T E C G ws) ((List.length (Kdl G)≤1000000∧List.length (Lib.join (List.map (fun(x:ByteArray)=>Z13 x) (Kdl G)) [32])≤140737488355328)∧Sf true (Sf T (Sf (E,C,G) (Vo (Kdl G) Hj=Z71 G ws∧J98 G ws)))))) (Ja2∧Br false (Kd5 T E C G ws) (Yr∧Br true (Kdw T E C G ws) (J92∧Sf true (Sf T (Sf (E,C,G) (Vo (Jr4 Vj B0) Hj=Z71 G ws∧J98 G ws)))))))))=_).mp ?_
 delta Z13 Z36 Z71 U0 V2 Hj J98 J92 Jpv Jl0 Lj Vj V1 Yr Ja2 Ky1 D1 F3 Ke9 D0 Fn Hi Hh L2 Zt Kvo Kd5 Kdw Fm Ya Y1 Kdl Jb0 Kde Br Iw Bd Tw Sf Ln Gt B0 Lb E2 Ue
 intro ha
 obtain⟨hh,hn,-,-,hmax,hsz⟩:=ha
 have hr:Jj (J4 G):=Yq hh
 have hN:NmR (J4 G):=Jee hn
 have hG:G.length≤1000:=by have:=hh.nE;have:=hh.nC;have:=hh.nG;dsimp only at*;omega
 rw[Jnn]
 have hbn:({data:={toList:=[]}}:ByteArray)=Jb:=rfl
 have hl:((Ue::ws).length:Int)=(ws.length:Int)+1:=by simp
 have ha1:(Ue::ws).getD 1 Jb=ws.getD 0 Jb:=rfl
 have hz:((0:Int),(0:Int),([]:List Sta),([]:List Ord),([]:List Met),([]:List Out),([]:List Per))=K5:=rfl
 simp only[hbn,hz,hl,Prod.eta,Jga,ha1]
 rcases Jed G with⟨hd,e0⟩|⟨hd,e0⟩
 ·rw[e0] at hr hN⊢
  have hp:=of_decide_eq_true hd
  rw[hd]
  generalize G.getD ((G.length:Int)-1).toNat K5=r at hr hN⊢
  cases h2:(ws.length:Int)+1==1
  all_goals cases h6:(ws.length:Int)+1==2
  all_goals cases h3:(ws.getD 0 Jb).toList==Jb.toList
  all_goals cases h5:(((Jr4 r Jb).length:Int)==0)
  all_goals simp only[h2,h3,h5,h6,bne,Jly,Bool.not_true,Bool.not_false,cond_true,cond_false,BEq.rfl,Bool.true_beq,Bool.false_beq,reduceCtorEq,false_implies,forall_const,true_and,and_true,and_self]
  all_goals repeat' apply And.intro
  all_goals first|omega|(have:=eq_of_beq h2;omega)|exact hr|exact(Kz (Jn9 hr hN _)).1|exact(Kz (Jn9 hr hN _)).2|rfl|(have:=h4;simpa[Vi] using this)|skip
 ·rw[e0] at hr hN⊢
  rw[hd]
  cases h2:(ws.length:Int)+1==1
  all_goals cases h6:(ws.length:Int)+1==2
  all_goals cases h3:(ws.getD 0 Jb).toList==Jb.toList
  all_goals cases h5:(((Jr4 K5 Jb).length:Int)==0)
  all_goals simp only[h2,h3,h5,h6,bne,Jly,Bool.not_true,Bool.not_false,cond_true,cond_false,BEq.rfl,Bool.true_beq,Bool.false_beq,reduceCtorEq,false_implies,forall_const,true_and,and_true,and_self]
  all_goals repeat' apply And.intro
  all_goals first|omega|(have:=eq_of_beq h2;omega)|exact hr|exact(Kz (Jn9 hr hN _)).1|exact(Kz (Jn9 hr hN _)).2|rfl|(have:=h4;simpa[Vi,K5] using this)|exact nomatch (show true=false from h5)|exact nomatch (show false=true from h5)
theorem Jqv:Jca Ud=(false,0,some 209):=by kernel_rfl
theorem Jnm (r:Reg) (ws:List ByteArray):Za r (Ud::ws)=Jga false 0 Jd3 r (Ud::ws):=by
 have:(Ud::ws).getD 0 Jb=Ud:=rfl
 unfold Za
 rw[this,Jqv]
 rfl
def Z33 (a:Ls):=Ln (Ud::a)
def Z70 (a:List Reg) (b:Ls):=(Za (J4 a) (Ud::b)).1
def J96 (a:List Reg) (b:Ls):=0=(Za (J4 a) (Ud::b)).2
def Ky4 (a:Ls):=bif true then Z33 a !=1 else false
def Ke3 (a:Ls):=Jd3 Vj (U0 a)
def Kea (a:TypeId) (b c:List Ev) (d:List Reg) (e:Ls):=Sf true (Sf a (Sf (b,c,d) (B0=Z70 d e∧10=(Za (J4 d) (Ud::e)).2)))
def Kvn (a:TypeId) (b c:List Ev) (d:List Reg) (e:Ls):=Sf true (Sf a (Sf (b,c,d) (B0=Z70 d e∧25=(Za (J4 d) (Ud::e)).2)))
def Kdx (a:TypeId) (b c:List Ev) (d:List Reg) (e:Ls):=Sf true (Sf a (Sf (b,c,d) (Jl0=Z70 d e∧J96 d e)))
def Kdi (a:List Reg):=Jd3 (Ya a) B0
def Jw4 (a:List Reg) (b:Ls):=Jd3 (Ya a) (U0 b)
theorem Jhq (T:TypeId) (E C:List Ev) (G:List Reg) (ws:List ByteArray):wpFO Tryz.prog Jx2.g (na ()) (fun _=>na ()) (Sx.look ([(75,Tryz.f75)]:List (Nat×Func))) Tryz.f119 Jzx T (E,C,G) (Ud::ws,()):=by
 refine(by kernel_rfl:(Jfk (E,C,G) (Ud::ws)→Tw (Bd 0 (Z33 ws))∧Br false (Tw (Bd 1 (Z33 ws))∧Br (bif !false==bif Z33 ws==2 then Jpv ws else false then true else Ky4 ws) (Kvn T E C G ws) (Br (V2 G) (V1 G∧Jb0 G∧Br false (Kea T E C G ws) (Y1 G∧Br (Ln (Jw4 G ws)==0) (Kdx T E C G ws) ((List.length (Jw4 G ws)≤1000000∧List.length (Lib.join (List.map (fun(x:ByteArray)=>Z13 x) (Jw4 G ws)) [32])≤140737488355328)∧Sf true (Sf T (Sf (E,C,G) (Vo (Jw4 G ws) Hj=Z70 G ws∧J96 G ws)))))) (Ja2∧Br false (Kea T E C G ws) (Yr∧Br (Ln (Ke3 ws)==0) (Kdx T E C G ws) ((List.length (Ke3 ws)≤1000000∧List.length (Lib.join (List.map (fun(x:ByteArray)=>Z13 x) (Ke3 ws)) [32])≤140737488355328)∧Sf true (Sf T (Sf (E,C,G) (Vo (Ke3 ws) Hj=Z70 G ws∧J96 G ws)))))))) (Br (bif !false==bif Z33 ws==2 then false else false then true else Ky4 ws) (Kvn T E C G ws) (Br (V2 G) (V1 G∧Jb0 G∧Br false (Kea T E C G ws) (Y1 G∧Br (Ln (Kdi G)==0) (Kdx T E C G ws) ((List.length (Kdi G)≤1000000∧List.length (Lib.join (List.map (fun(x:ByteArray)=>Z13 x) (Kdi G)) [32])≤140737488355328)∧Sf true (Sf T (Sf (E,C,G) (Vo (Kdi G) Hj=Z70 G ws∧J96 G ws)))))) (Ja2∧Br false (Kea T E C G ws) (Yr∧Br false (Kdx T E C G ws) (J91∧Sf true (Sf T (Sf (E,C,G) (Vo (Jd3 Vj B0) Hj=Z70 G ws∧J96 G ws)))))))))=_).mp ?_
 delta Z13 Z33 Z70 U0 V2 Hj J96 J91 Jpv Jl0 Lj Vj V1 Yr Ja2 Ky4 D1 F3 D0 Ke3 Fn Hi Hh L2 Zt Kea Kvn Kdx Fm Ya Y1 Kdi Jb0 Jw4 Br Iw Bd Tw Sf Ln Gt B0 Lb E2 Ud
 intro ha
 obtain⟨hh,hn,-,-,hmax,hsz⟩:=ha
 have hr:Jj (J4 G):=Yq hh
 have hN:NmR (J4 G):=Jee hn
 have hG:G.length≤1000:=by have:=hh.nE;have:=hh.nC;have:=hh.nG;dsimp only at*;omega
 rw[Jnm]
 have hbn:({data:={toList:=[]}}:ByteArray)=Jb:=rfl
 have hl:((Ud::ws).length:Int)=(ws.length:Int)+1:=by simp
 have ha1:(Ud::ws).getD 1 Jb=ws.getD 0 Jb:=rfl
 have hz:((0:Int),(0:Int),([]:List Sta),([]:List Ord),([]:List Met),([]:List Out),([]:List Per))=K5:=rfl
 simp only[hbn,hz,hl,Prod.eta,Jga,ha1]
 rcases Jed G with⟨hd,e0⟩|⟨hd,e0⟩
 ·rw[e0] at hr hN⊢
  have hp:=of_decide_eq_true hd
  rw[hd]
  generalize G.getD ((G.length:Int)-1).toNat K5=r at hr hN⊢
  cases h2:(ws.length:Int)+1==1
  all_goals cases h6:(ws.length:Int)+1==2
  all_goals cases h3:(ws.getD 0 Jb).toList==Jb.toList
  all_goals cases h5:(((Jd3 r Jb).length:Int)==0)
  all_goals simp only[h2,h3,h5,h6,bne,Jly,Bool.not_true,Bool.not_false,cond_true,cond_false,BEq.rfl,Bool.true_beq,Bool.false_beq,reduceCtorEq,false_implies,forall_const,true_and,and_true,and_self]
  all_goals repeat' apply And.intro
  all_goals first|omega|(have:=eq_of_beq h2;omega)|exact hr|exact(Kz (Jh5 hr _)).1|exact(Kz (Jh5 hr _)).2|rfl|(have:=h4;simpa[Vi] using this)|skip
 ·rw[e0] at hr hN⊢
  rw[hd]
  cases h2:(ws.length:Int)+1==1
  all_goals cases h6:(ws.length:Int)+1==2
  all_goals cases h3:(ws.getD 0 Jb).toList==Jb.toList
  all_goals cases h5:(((Jd3 K5 Jb).length:Int)==0)
  all_goals simp only[h2,h3,h5,h6,bne,Jly,Bool.not_true,Bool.not_false,cond_true,cond_false,BEq.rfl,Bool.true_beq,Bool.false_beq,reduceCtorEq,false_implies,forall_const,true_and,and_true,and_self]
  all_goals repeat' apply And.intro
  all_goals first|omega|(have:=eq_of_beq h2;omega)|exact hr|exact(Kz (Jh5 hr _)).1|exact(Kz (Jh5 hr _)).2|rfl|(have:=h4;simpa[Vi,K5] using this)|exact nomatch (show true=false from h5)|exact nomatch (show false=true from h5)
theorem Jmu {k:ByteArray} (h:Jgu k=true):k=Ug∨k=Hl∨k=Hm∨k=Ub∨k=Uf∨k=Ue∨k=Ud:=by
 obtain⟨x,hx,hk⟩:=Jef h
 have hk:=Jui hk
 unfold Jd2 Tryz.questU at hx
 subst hk
 simp only[List.mem_cons,List.not_mem_nil,or_false] at hx
 rcases hx with rfl|rfl|rfl|rfl|rfl|rfl|rfl
 all_goals simp
theorem Kmh (T:TypeId):∀(x:J2) (y:ATup [.val false (.list 9 .str)]),wpFO Tryz.prog Jx2.g (na ()) (fun _=>na ()) (Sx.look ([(75,Tryz.f75)]:List (Nat×Func))) Tryz.f119 Jzx T x y
 | (E, C, G), (l, ()) => by
  refine Jhj (by kernel_rfl) fun hp=> ?_
  have hl:1≤l.length:=Jfk.len hp
  have hk:Jgu (l.getD 0 Jb)=true:=Jfk.key hp
  obtain⟨w,ws,rfl⟩:∃w ws,l=w::ws:=by
   cases l with
   |nil=>exact absurd hl (by decide)
   |cons w ws=>exact⟨w,ws,rfl⟩
  have hk:Jgu w=true:=hk
  rcases Jmu hk with rfl|rfl|rfl|rfl|rfl|rfl|rfl
  ·exact Jhu T E C G ws
  ·exact Jqi T E C G ws
  ·exact Jqj T E C G ws
  ·exact Jht T E C G ws
  ·exact Jhs T E C G ws
  ·exact Jhr T E C G ws
  ·exact Jhq T E C G ws
theorem Kps:Ok Tryz.prog 119 (Xu.con Jzx):=X0 (Uc mixed Jx2.ok (by kernel_rfl) (by kernel_rfl) (Us (l:=([(75,Tryz.f75)]:List (Nat×Func))) (List.forall_mem_cons.2 ⟨by kernel_rfl,by simp⟩)) (fun _ _=>na ()) (fun _ _=>fun _=>na ()) fun T xx yy _=>Kmh T xx yy)
abbrev K6z:=Jx2.add Kps
abbrev K09:=K6z.add J3s
def doW (line:ByteArray):List ByteArray:=Xv line ⟨⟨[32]⟩⟩
def do1 (line:ByteArray):Int:=Je [bif decide (4096<(line.size:Int)) then 26 else 0,bif line.toList==Jb.toList then 25 else 0]
def do2 (h:J2) (ws:List ByteArray):Int:=Je [bif !(Y3 ws).2 then 25 else 0,bif decide (1000≤(h.1.length:Int)) then 5 else 0]
def evD (h:J2) (ws:List ByteArray):Ev:=((h.1.length:Int)+1,(Y3 ws).1.2)
def Kba (n:Int):ByteArray:=bs ([100,111,110,101,32]++(Vg n).data.toList)
def doF (h:J2) (line:ByteArray):J2×ByteArray×Int:=
 if do1 line≠0 then(h,Jb,do1 line) else
 if Jgu ((doW line).getD 0 Jb)=true then(h,Za (J4 h.2.2) (doW line)) else
 if Yu ((doW line).getD 0 Jb)=false then(h,Jb,13) else
 if do2 h (doW line)≠0 then(h,Jb,do2 h (doW line)) else
 if Ko h (evD h (doW line))≠0 then(h,Jb,Ko h (evD h (doW line))) else
 (Zb h (evD h (doW line)),Kba ((h.1.length:Int)+1),0)
def cDo:Xu:={T? :=some 212,s:=Jib,args:=[aS],ress:=[tS,I],pre:=fun h (l,_)=>[Vp h,D3 h,l.size≤1000000],spec:=fun h (l,_)=>((doF h l).2.1,(doF h l).2.2,()),post:=fun h (l,_)=>(doF h l).1}
theorem Kbb {l:ByteArray} (h:l.size≤1000000) (h4:l.size≤4096):1≤(doW l).length∧(doW l).length≤1000000∧∀w∈doW l,w.size≤1000000:=by
 have e:doW l=(Jjl 32 l.data.toList).map bs:=Jdk l 32
 have h1:=Jh3 32 l.data.toList
 have hl:l.data.toList.length=l.size:=rfl
 rw[e]
 refine⟨?_,by rw[List.length_map];omega,fun w hw=> ?_⟩
 ·rw[List.length_map]
  have:∀l:List UInt8,1≤(Jjl 32 l).length:=by
   intro l
   induction l with
   |nil=>decide
   |cons c r ih=>unfold Jjl;split<;>(try split)<;>simp only[List.length_cons,List.length_nil]<;>omega
  exact this _
 ·obtain⟨v,hv,rfl⟩:=List.mem_map.1 hw
  have:=Jaa _ _ v hv
  rw[Xf];omega
def Jxw (a:Bt):=Xv a Hj
def K03 (a:Bt):=(Y3 (Jxw a)).1.2
def K01 (a:Bt):=(K03 a).2
def K0r (a:Bt):=List.getD (Jxw a) 0 B0
def K0i (a:Bt):=Tw (Bd 0 (Ln (Jxw a)))
def Kw4 (a:Bt):=Je [bif decide (4096<Nc (ByteArray.size a)) then 26 else 0,bif Lb a B0 then 25 else 0]
def Kvm (a:Bt) (b:List Ev):=Je ((bif !(Y3 (Jxw a)).2 then 25 else 0)::Kk3 b)
def Kg8 (a:List Ev) (b:Bt):=(Z0 a,(K03 b).1,(K01 b).1,E2 (K01 b).2)
def Kub (a b:List Ev) (c:List Reg) (d:Bt):=Ko (a,b,c) (Kg8 a d)
def Kua (a b:List Ev) (c:List Reg) (d:Bt):=Uy (a,b,c) (Kg8 a d)
def Ksf (a b:List Ev) (c:List Reg) (d:Bt):=((Kua a b c d).1,E2 (Kua a b c d).2)=(doF (a,b,c) d).1
theorem K3y (E C:List Ev) (G:List Reg) (line:ByteArray):wpFO Tryz.prog K09.g (na ()) (fun _=>na ()) (Sx.look ([]:List (Nat×Func))) Tryz.f40 cDo 212 (E,C,G) (line,()):=by
 refine(by kernel_rfl:(Vp (E,C,G)→D3 (E,C,G)→ByteArray.size line≤1000000→Br false (Sf true (Sf 212 ((E,C,G)=(doF (E,C,G) line).1∧B0=(doF (E,C,G) line).2.1∧22=(doF (E,C,G) line).2.2))) (2≤1000000∧Br (Kw4 line !=0) (Sf true (Sf 212 ((E,C,G)=(doF (E,C,G) line).1∧B0=(doF (E,C,G) line).2.1∧Kw4 line=(doF (E,C,G) line).2.2))) ((ByteArray.size line≤1000000∧1≤1)∧K0i line∧Br (Option.isSome (Vn Sch.str (K0r line) Jd2)) (Jfk (E,C,G) (Jxw line)∧Sf true (Sf 212 ((E,C,G)=(doF (E,C,G) line).1∧(Za (J4 G) (Jxw line)).1=(doF (E,C,G) line).2.1∧(Za (J4 G) (Jxw line)).2=(doF (E,C,G) line).2.2))) (K0i line∧Br (!Option.isSome (Vn Sch.str (K0r line) Lk)) (Sf true (Sf 212 ((E,C,G)=(doF (E,C,G) line).1∧B0=(doF (E,C,G) line).2.1∧13=(doF (E,C,G) line).2.2))) ((List.length (Jxw line)≤1000000∧∀(w:ByteArray),w∈Jxw line→ByteArray.size w≤1000000)∧2≤1000000∧Br (Kvm line E !=0) (Sf true (Sf 212 ((E,C,G)=(doF (E,C,G) line).1∧B0=(doF (E,C,G) line).2.1∧Kvm line E=(doF (E,C,G) line).2.2))) (Z61 E∧(Kf (E,C,G)∧Z37 E∧Jao (Kg8 E line))∧Br (Kub E C G line !=0) (Sf true (Sf 212 (Ksf E C G line∧B0=(doF (E,C,G) line).2.1∧Kub E C G line=(doF (E,C,G) line).2.2))) ((Z61 E∧Nc (5+ByteArray.size (Vg (Z0 E)))≤9223372036854775807)∧Sf true (Sf 212 (Ksf E C G line∧ByteArray.mk (Array.mk (100::111::110::101::32::([]++(Vg (Z0 E)).data.toList)))=(doF (E,C,G) line).2.1∧0=(doF (E,C,G) line).2.2)))))))))=_).mp ?_
 delta Z0 Z37 Z61 Hj Jxw K03 K01 Kk3 K0r K0i Kw4 Kvm Kg8 Kub Kua Ksf Br Iw Bd Tw Sf Ln Nc B0 Lb E2
 intro hi hn hsz
 have hbn:({data:={toList:=[]}}:ByteArray)=Jb:=rfl
 have hW:Xv line {data:={toList:=[32]}}=doW line:=rfl
 have hd1:Je [bif decide (4096<(line.size:Int)) then 26 else 0,bif line.toList==Jb.toList then 25 else 0]=do1 line:=rfl
 have hd2:Je [bif !(Y3 (doW line)).2 then 25 else 0,bif decide (1000≤(E.length:Int)) then 5 else 0]=do2 (E,C,G) (doW line):=rfl
 have hq:(Vn Sch.str ((doW line).getD 0 Jb) Jd2).isSome=Jgu ((doW line).getD 0 Jb):=rfl
 have hk:(Vn Sch.str ((doW line).getD 0 Jb) Lk).isSome=Yu ((doW line).getD 0 Jb):=rfl
 have he:((E.length:Int)+1,(Y3 (doW line)).1.2)=evD (E,C,G) (doW line):=rfl
 simp only[hbn,hW,Prod.eta,hd1,hd2,hq,hk,he]
 have nE:E.length≤1000:=hi.ok.nE
 refine⟨fun h=>(nomatch h),fun _=>⟨by decide,fun h1=> ?_,fun h1=> ?_⟩⟩
 ·have e:doF (E,C,G) line=((E,C,G),Jb,do1 line):=by unfold doF;rw[if_pos (bne_iff_ne.1 h1)]
  rw[e];exact⟨trivial,trivial,rfl,rfl,rfl⟩
 have e1:do1 line=0:=bne_eq_false_iff_eq.1 h1
 have h4:line.size≤4096:=by
  cases hc:decide (4096<(line.size:Int)) with
  |false=>have:=of_decide_eq_false hc;omega
  |true=>rw[do1,hc] at e1;exact nomatch (show(26:Int)=0 from e1)
 obtain⟨w1,w2,w3⟩:=Kbb hsz h4
 refine⟨⟨hsz,Nat.le_refl _⟩,by(repeat' first|apply And.intro|(first|omega|dsimp only;omega)),fun h2=> ?_,fun h2=>⟨by(repeat' first|apply And.intro|(first|omega|dsimp only;omega)),fun h3=> ?_,fun h3=> ?_⟩⟩
 ·have e:doF (E,C,G) line=((E,C,G),Za (J4 G) (doW line)):=by unfold doF;rw[if_neg (by rw[e1];decide),if_pos h2]
  rw[e];exact⟨⟨hi.ok,hn,w1,h2,w2,w3⟩,trivial,trivial,rfl,rfl,rfl⟩
 ·have h3:Yu ((doW line).getD 0 Jb)=false:=by simpa using h3
  have e:doF (E,C,G) line=((E,C,G),Jb,13):=by unfold doF;rw[if_neg (by rw[e1];decide),if_neg (by rw[h2];decide),if_pos h3]
  rw[e];exact⟨trivial,trivial,rfl,rfl,rfl⟩
 have h3:Yu ((doW line).getD 0 Jb)=true:=by simpa using h3
 refine⟨⟨w2,w3⟩,by decide,fun h5=> ?_,fun h5=> ?_⟩
 ·have e:doF (E,C,G) line=((E,C,G),Jb,do2 (E,C,G) (doW line)):=by unfold doF;rw[if_neg (by rw[e1];decide),if_neg (by rw[h2];decide),if_neg (by rw[h3];decide),if_pos (bne_iff_ne.1 h5)]
  rw[e];exact⟨trivial,trivial,rfl,rfl,rfl⟩
 have e5:do2 (E,C,G) (doW line)=0:=bne_eq_false_iff_eq.1 h5
 have hE:E.length<1000:=by
  cases hc:decide (1000≤(E.length:Int)) with
  |false=>have:=of_decide_eq_false hc;omega
  |true=>
   rw[do2] at e5
   have hc:decide (1000≤(((E,C,G):J2).1.length:Int))=true:=hc
   rw[hc] at e5
   cases hx:(Y3 (doW line)).2<;>rw[hx] at e5<;>exact nomatch e5
 have hz:=Jol w3
 have hsz2:Jao (evD (E,C,G) (doW line)):=⟨Nat.le_trans hz.1 (by decide),Nat.le_trans hz.2.1 (by decide),hz.2.2⟩
 refine⟨by(repeat' first|apply And.intro|(first|omega|dsimp only;omega)),⟨hi.ok,hE,hsz2⟩,fun h6=> ?_,fun h6=> ?_⟩
 ·have n6:=bne_iff_ne.1 h6
  have e:doF (E,C,G) line=((E,C,G),Jb,Ko (E,C,G) (evD (E,C,G) (doW line))):=by unfold doF;rw[if_neg (by rw[e1];decide),if_neg (by rw[h2];decide),if_neg (by rw[h3];decide),if_neg (by rw[e5];decide),if_pos n6]
  have ea:Uy (E,C,G) (evD (E,C,G) (doW line))=(E,C,G):=by unfold Uy;rw[if_neg n6]
  rw[e,ea];exact⟨trivial,trivial,rfl,rfl,rfl⟩
 ·have e6:Ko (E,C,G) (evD (E,C,G) (doW line))=0:=bne_eq_false_iff_eq.1 h6
  have e:doF (E,C,G) line=(Zb (E,C,G) (evD (E,C,G) (doW line)),Kba ((E.length:Int)+1),0):=by unfold doF;rw[if_neg (by rw[e1];decide),if_neg (by rw[h2];decide),if_neg (by rw[h3];decide),if_neg (by rw[e5];decide),if_neg (by rw[e6];decide)]
  have ea:Uy (E,C,G) (evD (E,C,G) (doW line))=Zb (E,C,G) (evD (E,C,G) (doW line)):=by unfold Uy;rw[if_pos e6]
  have hi:=Jai ((E.length:Int)+1) (by omega) (by omega)
  rw[e,ea];exact⟨⟨by(repeat' first|apply And.intro|(first|omega|dsimp only;omega)),by omega⟩,trivial,trivial,rfl,rfl,rfl⟩
theorem K45:Ok Tryz.prog 40 (Xu.con cDo):=X0 (Uc mixed K09.ok (by kernel_rfl) (by kernel_rfl) (Us (l:=([]:List (Nat×Func))) (by simp)) (fun xx yy=>na ()) (fun xx yy=>fun _=>na ()) fun T xx yy hT=>by obtain rfl:=hT _ rfl;exact K3y xx.1 xx.2.1 xx.2.2 yy.1)
abbrev Kls:=K09.add K45
theorem Kqd {h:J2} {l:ByteArray} (hi:Vp h) (hn:D3 h):Vp (doF h l).1∧D3 (doF h l).1:=by
 unfold doF
 split
 ·exact⟨hi,hn⟩
 split
 ·exact⟨hi,hn⟩
 split
 ·exact⟨hi,hn⟩
 split
 ·exact⟨hi,hn⟩
 split
 ·exact⟨hi,hn⟩
 rename_i h5 h6
 have e5:do2 h (doW l)=0:=Decidable.of_not_not h5
 have hE:h.1.length<1000:=by
  cases hc:decide (1000≤(h.1.length:Int)) with
  |false=>have:=of_decide_eq_false hc;omega
  |true=>
   rw[do2,hc] at e5
   cases hx:(Y3 (doW l)).2<;>rw[hx] at e5<;>exact nomatch e5
 exact⟨Di hi hE (Decidable.of_not_not h6),Krj hn (Decidable.of_not_not h6)⟩
abbrev Kmm:Sch:= .prod .str (.prod .str sI)
abbrev Say:=ByteArray×ByteArray×Int
def J1n:Say:=(Jb,Jb,0)
def Kml (r:ByteArray×Int) (x:Say):Bool:=bif r.1.toList !=x.2.1.toList then true else r.2 !=x.2.2
def Jdb:J2→List Say→J2×Bool
 |h,[]=>(h,true)
 |h,x::l=>bif Kml (doF h x.1).2 x then((doF h x.1).1,false) else Jdb (doF h x.1).1 l
def J8m:Xu:={T? :=some 212,s:=Jib,args:=[.val false (.list 147 Kmm)],ress:=[Bo],pre:=fun h (l,_)=>[Vp h,D3 h,l.length≤1000000,∀x∈l,x.1.size≤1000000],spec:=fun h (l,_)=>((Jdb h l).2,()),post:=fun h (l,_)=>(Jdb h l).1}
abbrev Jwe (h0:J2) (l:List Say):Ann:={X:=J2×Nat,σ:=fun(h,k)=>⟨6,[(0, .one (.ptr 1 0)),(11, .one (.sl 5)),(12, .one (.int .i64 l.length)),(13, .one (.int .i64 k))],[(0, .sus [(0, .one (.ptr 1 0))]),(1, .box 212 [.sl 2, .sl 3, .sl 4]),(2, .own 67 sEv h.1),(3, .own 67 sEv h.2.1),(4, .own 105 Jfw h.2.2),(5, .imm 147 Kmm l)]⟩,inv:=fun(h,k)=>Vp h∧D3 h∧k≤l.length∧Jdb h (l.drop k)=Jdb h0 l,mu:=fun(_,k)=>l.length-k}
def Kfr (a:List Say) (b:J2×Nat):=List.getD a b.2 (B0,B0,0)
def Ke4 (a:J2×Nat) (b:List Say):=doF (Jp5 a) (Kfr b a).1
def Kxf (a:J2×Nat) (b:List Say):=(Ke4 a b).2
def Ki6 (a:J2×Nat) (b:List Say):=(Ke4 a b).1.2
theorem K1e (E C:List Ev) (G:List Reg) (l:List Say):wpFO Tryz.prog Kls.g (X3 (Jwe (E,C,G) l)) (fun _=>na ()) (Sx.look ([]:List (Nat×Func))) Tryz.f66 J8m 212 (E,C,G) (l,()):=by
 refine(by kernel_rfl:(Vp (E,C,G)→D3 (E,C,G)→List.length l≤1000000→(∀(x:ByteArray×ByteArray×Int),x∈l→ByteArray.size x.1≤1000000)→Br false (Sf true (Sf 212 ((E,C,G)=(Jdb (E,C,G) l).1∧false=(Jdb (E,C,G) l).2))) (∃(x:(List Ev×List Ev×List Reg)×Nat),Si (Ln l) (0=Nc x.2∧E=x.1.1∧C=x.1.2.1∧G=x.1.2.2∧l=l)∧(Vp x.1∧D3 x.1∧x.2≤List.length l∧Jdb x.1 (List.drop x.2 l)=Jdb (E,C,G) l)∧∀(x:J2×Nat),Vp x.1∧D3 x.1∧x.2≤List.length l∧Jdb x.1 (List.drop x.2 l)=Jdb (E,C,G) l→Br (decide (Nc x.2<Ln l)) (Tw (Bd (Nc x.2) (Ln l))∧(Vp (Jp5 x)∧D3 (Jp5 x)∧ByteArray.size (Kfr l x).1≤1000000)∧Br (bif !Lb (Kxf x l).1 (Kfr l x).2.1 then true else(Kxf x l).2 !=(Kfr l x).2.2) (Sf true (Sf 212 (((Ke4 x l).1.1,E2 (Ki6 x l))=(Jdb (E,C,G) l).1∧false=(Jdb (E,C,G) l).2))) (Z31 x∧∃(y:(List Ev×List Ev×List Reg)×Nat),Si (Ln l) (Jl1 x y∧(Ke4 x l).1.1=y.1.1∧(Ki6 x l).1=y.1.2.1∧(Ki6 x l).2=y.1.2.2∧l=l)∧(Vp y.1∧D3 y.1∧y.2≤List.length l∧Jdb y.1 (List.drop y.2 l)=Jdb (E,C,G) l)∧List.length l-y.2<List.length l-x.2)) (Sf true (Sf 212 (Jp5 x=(Jdb (E,C,G) l).1∧true=(Jdb (E,C,G) l).2)))))=_).mp ?_
 delta Z31 Jl1 Jp5 Kfr Ke4 Kxf Ki6 Br Iw Bd Tw Sf Si Ln Nc B0 Lb E2
 intro hi hn hl hsz
 refine⟨fun h=>(nomatch h),fun _=>⟨((E,C,G),(0:Nat)),by(repeat' first|exact rfl|exact⟨⟩|apply And.intro|omega|dsimp only;omega),⟨hi,hn,Nat.zero_le _,rfl⟩,fun(x:J2×Nat) hx=>⟨fun hlt=> ?_,fun hlt=> ?_⟩⟩⟩
 ·obtain⟨h,k⟩:=x
  obtain⟨k1,k2,k3,k4⟩:=hx
  have hlt:k<l.length:=by simpa using hlt
  dsimp only at k1 k2 k3 k4
  have hz:(({data:={toList:=[]}}:ByteArray),({data:={toList:=[]}}:ByteArray),(0:Int))=J1n:=rfl
  simp only[hz,Prod.eta]
  rw[Jp (d:=J1n) hlt,Jdb] at k4
  have hd:=Kqd (l:=(l.getD k J1n).1) k1 k2
  refine⟨by(repeat' first|apply And.intro|(first|omega|dsimp only;omega)),⟨k1,k2,hsz _ (Jd hlt)⟩,fun h1=> ?_,fun h1=> ?_⟩
  ·have e:Kml (doF h (l.getD k J1n).1).2 (l.getD k J1n)=true:=h1
   rw[e,cond_true] at k4
   rw[←k4]
   exact⟨trivial,trivial,rfl,rfl⟩
  ·have e:Kml (doF h (l.getD k J1n).1).2 (l.getD k J1n)=false:=h1
   rw[e,cond_false] at k4
   exact⟨by(repeat' first|apply And.intro|(first|omega|dsimp only;omega)),((doF h (l.getD k J1n).1).1,k+1),by(repeat' first|exact rfl|exact⟨⟩|apply And.intro|omega|dsimp only;omega),⟨hd.1,hd.2,by(first|omega|dsimp only;omega),k4⟩,by(first|omega|dsimp only;omega)⟩
 ·obtain⟨h,k⟩:=x
  obtain⟨k1,k2,k3,k4⟩:=hx
  have hlt:¬k<l.length:=by simpa using hlt
  have e:k=l.length:=by dsimp only at k3;omega
  rw[e,List.drop_length,Jdb] at k4
  rw[←k4]
  exact⟨rfl,rfl,rfl,rfl⟩
theorem K4s:Ok Tryz.prog 66 (Xu.con J8m):=X0 (Uc mixed Kls.ok (by kernel_rfl) (by kernel_rfl) (Us (l:=([]:List (Nat×Func))) (by simp)) (fun xx yy=>X3 (Jwe (xx.1,xx.2.1,xx.2.2) yy.1)) (fun xx yy=>fun _=>na ()) fun T xx yy hT=>by obtain rfl:=hT _ rfl;exact K1e xx.1 xx.2.1 xx.2.2 yy.1)
abbrev K2n:=Kls.add K4s
def Kby:Con:={args:=[.val false (.list 130 Yt), .fn [(true,Yt)] (true,Jtc)],ress:=[(false, .list 129 Jtc)],owns:=[true],pre:=fun(l,(q,_),_)=>[l.length≤1000000,∀x∈l,Uj (q (x,()))],spec:=fun(l,(_,f),_)=>(l.map fun x=>f (x,()),())}
def J9i (a:Nat) (b:List Ord) (c:Nat):=a≤List.length b∧List.length b-a<List.length b-c
def Kfd (a:Ord×Unit→Jp9) (b:Nat) (c:List Ord):=List.map (fun(x:Ord)=>a (x,PUnit.unit)) (List.take b c)
def Kve (a:Ord×Unit→Jp9) (b:Nat) (c:List Ord):=List.length (Kfd a b c)
def Ksj (a:Ord×Unit→Jp9) (b:List Ord) (c:Nat):=a (Kdn b c)
def Ksi (a:Ord×Unit→Jp9) (b:List Ord) (c:Nat):=(Ksj a b c).2
def Ksh (a:Ord×Unit→Jp9) (b:List Ord) (c:Nat):=(Ksi a b c).2
def Ksg (a:Ord×Unit→Jp9) (b:List Ord) (c:Nat):=(Ksh a b c).2
theorem Kpm:Ok Tryz.prog 125 Kby:=okW K2n Tryz.f125 (fun xx=>X3 (Ja0 130 129 Yt xx.1 (true,Jtc) true xx.2.1.1 xx.2.1.2)) fun xx=>by
 obtain⟨(l:List Ord),⟨(q:Ord×Unit→List Prop),(f:Ord×Unit→Jp9)⟩,_⟩:=xx
 refine(by kernel_rfl:(Z57 l→Kkl l q→∃(x:Nat),Si (Ln l) (0=Nc x∧Sf l ((fun(x:Ord×PUnit)=>q x)=q∧(fun(x:Ord×PUnit)=>f x)=f∧Kve f x l=0))∧x≤List.length l∧∀(x:Nat),x≤List.length l→Br (Z98 x l) (Tw (Bd (Nc x) (Ln l))∧(Kgt q l x∧(Kve f x l+1)*56≤140737488355328)∧Z14 x∧∃(y:Nat),Si (Ln l) (Z91 x y∧Sf l ((fun(x:Ord×PUnit)=>q x)=q∧(fun(x:Ord×PUnit)=>f x)=f∧Kfd f x l++[((Ksj f l x).1,(Ksi f l x).1,(Ksh f l x).1,(Ksg f l x).1,E2 (Ksg f l x).2)]=Kfd f y l))∧J9i y l x) (Kfd f x l=List.map (fun(x:Ord)=>f (x,PUnit.unit)) l))=_).mp ?_
 delta Z14 Z57 Z66 Z91 Z98 Jdh J9i J6a Kkl J0h J9e J9c J59 J58 J9b J57 J9a J56 J55 Kfd Kve Kdo Kdn Ksj Ksi Ksh Ksg Kgt Br Iw Bd Tw Sf Si Ln Nc B0 E2
 intro hb hq
 refine⟨(0:Nat),⟨rfl,rfl,rfl,rfl,rfl,by simp⟩,Nat.zero_le _,fun(k:Nat) hk=>⟨fun h=> ?_,fun h=> ?_⟩⟩
 ·have hlt:k<l.length:=by simpa using h
  refine⟨by omega,⟨hq (l.getD k Kl) (Jd hlt),by simp only[List.length_map,List.length_take];omega⟩,by omega,(k+1:Nat),⟨rfl,by simp,rfl,rfl,rfl, ?_⟩,by omega,by omega⟩
  rw[←K4 (d:=Kl) hlt,List.map_append];rfl
 ·have hlt:¬k<l.length:=by simpa using h
  rw[List.take_of_length_le (by omega)]
abbrev K6y:=K2n.add Kpm
def Zs (l:List Ev):List Jp9:=(Jx l).2.2.2.1.map (Un (Jx l).2.1 (Jx l).2.2.2.2.1)
abbrev K2m:=K6y
def Jlp (l:List Ev) (a b:ByteArray):Int:=Je [opE l [a,b],bif a.toList==b.toList then 24 else 0]
def Jwh (l:List Ev) (a b:ByteArray):Int:=if Jlp l a b=0 then Dj (Jx l).2.1 (Jx l).2.2.2.1 (Jx l).2.2.2.2.1 a b else 0
def J42:Con:={args:=[.val false (.list 67 sEv),aS,aS],ress:=[I,I],owns:=[],pre:=fun(l,_)=>[lOk l],spec:=fun(l,a,b,_)=>(Jwh l a b,Jlp l a b,())}
def Kz4 (a:List Ev) (b c:Bt):=Je [opE a [b,c],bif Lb b c then 24 else 0]
theorem K42:Ok Tryz.prog 44 J42:=okW K2m Tryz.f44 na fun xx=>by
 obtain⟨(l:List Ev),(a:ByteArray),(b:ByteArray),_⟩:=xx
 refine(by kernel_rfl:(lOk l→(lOk l∧2≤1000000)∧2≤1000000∧Br (Kz4 l a b !=0) (0=Jwh l a b∧Kz4 l a b=Jlp l a b) (J2c l∧Dj (Jx l).2.1 (Jx l).2.2.2.1 (Jx l).2.2.2.2.1 a b=Jwh l a b∧0=Jlp l a b))=_).mp ?_
 delta Kz4 Jxr J2c Br Lb E2
 intro hl
 refine⟨⟨hl,by decide⟩,by decide,fun h=> ?_,fun h=> ?_⟩
 ·have h:Jlp l a b≠0:=bne_iff_ne.1 h
  exact⟨by unfold Jwh;rw[if_neg h],rfl⟩
 ·have h:Jlp l a b=0:=bne_eq_false_iff_eq.1 h
  exact⟨Jbe,by unfold Jwh;rw[if_pos h],h.symm⟩
abbrev K6x:=K2m.add K42
abbrev K2l:=K6x
def Jbi (l:List Ev):(Int×Int)×Int:=if opE l []=0 then Ka5 (Jx l).2.1 (Jx l).2.2.2.1 (Jx l).2.2.2.2.1 else((0,0),opE l [])
def J4n:Con:={args:=[.val false (.list 67 sEv)],ress:=[(true,Hp),I],owns:=[],pre:=fun(l,_)=>[lOk l],spec:=fun(l,_)=>((Jbi l).1,(Jbi l).2,())}
abbrev Jwc (l:List Ev) (B:List Jp9):Ann:={X:=Nat×Int×Int,σ:=fun(k,s,g)=>⟨9,[(2, .one (.ptr 1 0)),(6, .one (.int .i64 s)),(7, .one (.int .i64 g)),(23, .one (.sl 8)),(24, .one (.int .i64 B.length)),(25, .one (.int .i64 k))],[(1, .box 54 [.int .i64 0, .int .i64 0]),(8, .own 129 Jtc B)]⟩,inv:=fun(k,s,g)=>k≤B.length∧(0≤s∧s≤48000*k)∧(0≤g∧g≤s)∧Jsz (B.drop k) (s,g)=Jsz B (0,0),mu:=fun(k,_)=>B.length-k}
def Kws (a:List Ev):=List.map (fun(x:Ord)=>Un (Jx a).2.1 (Jx a).2.2.2.2.1 x) (Jx a).2.2.2.1
def Kwo (a:List Ev) (b:Nat×Int×Int):=(List.getD (Zs a) b.1 (B0,0,0,Z66)).2.2
def Kwk (a:Nat×Int×Int) (b:List Ev):=a.2.1+(Kwo b a).1
def Kwi (a:Nat×Int×Int) (b:List Ev):=a.2.2+(Kwo b a).2.1
def Khb (a:Nat×Int×Int) (b:List Ev):=a.1≤List.length (Zs b)∧(0≤a.2.1∧a.2.1≤48000*Nc a.1)∧(0≤a.2.2∧a.2.2≤a.2.1)∧Jsz (List.drop a.1 (Zs b)) (E2 a.2)=Jsz (Zs b) (0,0)
theorem K41:Ok Tryz.prog 46 J4n:=okW K2l Tryz.f46 (fun xx=>X3 (Jwc xx.1 (Zs xx.1))) fun xx=>by
 obtain⟨(l:List Ev),_⟩:=xx
 refine(by kernel_rfl:(lOk l→(lOk l∧0≤1000000)∧Br (opE l [] !=0) ((0,0)=(Jbi l).1∧opE l []=(Jbi l).2) ((List.length (Jx l).2.2.2.1≤1000000∧∀(x:Ord),x∈(Jx l).2.2.2.1→J2c l∧x∈(Jx l).2.2.2.1)∧∃(x:Nat×Int×Int),(0=x.2.1∧0=x.2.2∧Ln (Kws l)=Ln (Zs l)∧0=Nc x.1∧Si 0 (Si 0 (Kws l=Zs l)))∧Khb x l∧∀(x:Nat×Int×Int),Khb x l→Br (decide (Nc x.1<Ln (Zs l))) (Tw (Bd (Nc x.1) (Ln (Zs l)))∧Iw (Kwk x l)∧Iw (Kwi x l)∧Iw (Nc x.1+1)∧∃(y:Nat×Int×Int),(Kwk x l=y.2.1∧Kwi x l=y.2.2∧Si (Ln (Zs l)) (Nc x.1+1=Nc y.1∧Si 0 (Si 0 (Zs l=Zs l))))∧Khb y l∧List.length (Zs l)-y.1<List.length (Zs l)-x.1) (Br (x.2.1==0) ((0,0)=(Jbi l).1∧6=(Jbi l).2) ((Iw (x.2.1-x.2.2)∧(0≤x.2.1-x.2.2∧x.2.1-x.2.2≤1000000000000)∧1≤x.2.1∧x.2.1≤1000000000000)∧E2 (J1u (x.2.1-x.2.2) x.2.1)=(Jbi l).1∧0=(Jbi l).2))))=_).mp ?_
 delta Z66 Jxr J2c Kws Kwo Kwk Kwi Khb Br Iw Bd Tw Si Ln Nc B0 E2
 intro hl
 have hr:=Jbe (l:=l)
 have nO:(Jx l).2.2.2.1.length≤32:=hr.nO
 simp only[Prod.eta]
 refine⟨⟨hl,by decide⟩,fun h=> ?_,fun h=>⟨⟨Nat.le_trans nO (by decide),fun x hx=>⟨hr,hx⟩⟩, ?_⟩⟩
 ·have h:=bne_iff_ne.1 h
  unfold Jbi;rw[if_neg h]
  exact⟨rfl,rfl⟩
 have h:opE l []=0:=bne_eq_false_iff_eq.1 h
 have hB:∀b∈Zs l,J22 b:=fun b hb=>by
  obtain⟨x,hx,rfl⟩:=List.mem_map.1 hb
  exact Jaw hr hx
 have nB:(Zs l).length≤32:=by unfold Zs;rw[List.length_map];exact nO
 refine⟨((0:Nat),0,0),by(repeat' first|exact rfl|exact⟨⟩|apply And.intro|omega|dsimp only;omega),⟨Nat.zero_le _,by(first|omega|dsimp only;omega),by(first|omega|dsimp only;omega),rfl⟩,fun(x:Nat×Int×Int) hk=>⟨fun h1=> ?_,fun h1=> ?_⟩⟩
 ·obtain⟨k,s,g⟩:=x
  have hlt:k<(Zs l).length:=by simpa using h1
  have hx:=Jd (d:=Jvw) hlt
  have hb:=hB _ hx
  obtain⟨k1,k2,k3,k4⟩:=hk
  rw[Jp (d:=Jvw) hlt,Jsz] at k4
  have m1:=hb.sent
  have m2:=hb.got
  have hzb:((({data:={toList:=[]}}:ByteArray),(0:Int),(0:Int),(0:Int),(0:Int),(0:Int)):Jp9)=Jvw:=rfl
  dsimp only at k1 k2 k3 k4
  simp only[hzb]
  exact⟨by(repeat' first|apply And.intro|omega),by(repeat' first|apply And.intro|omega),by(repeat' first|apply And.intro|omega),by(repeat' first|apply And.intro|omega),(k+1,s+((Zs l).getD k Jvw).2.2.1,g+((Zs l).getD k Jvw).2.2.2.1),by(repeat' first|exact rfl|exact⟨⟩|apply And.intro|omega|dsimp only;omega),⟨by(first|omega|dsimp only;omega),by(first|omega|dsimp only;omega),by(first|omega|dsimp only;omega),k4⟩,by(first|omega|dsimp only;omega)⟩
 ·obtain⟨k,s,g⟩:=x
  have hlt:¬k<(Zs l).length:=by simpa using h1
  obtain⟨k1,k2,k3,k4⟩:=hk
  have:k=(Zs l).length:=by dsimp only at k1;omega
  rw[this,List.drop_length,Jsz] at k4
  have e:Jbi l=if s=0 then((0,0),6) else(J1u (s-g) s,0):=by
   unfold Jbi Ka5
   rw[if_pos h]
   rw[show((Jx l).2.2.2.1.map (Un (Jx l).2.1 (Jx l).2.2.2.2.1))=Zs l from rfl,←k4]
  dsimp only at k2 k3
  rw[e]
  refine⟨fun h2=> ?_,fun h2=> ?_⟩
  ·have h2:s=0:=by simpa using h2
   rw[if_pos h2]
   exact⟨rfl,rfl⟩
  ·have h2:s≠0:=by simpa using h2
   rw[if_neg h2]
   refine⟨⟨?_, ?_, ?_⟩,rfl,rfl⟩
   all_goals dsimp only
   all_goals (repeat' first|apply And.intro|omega)
abbrev K2k:=K2l.add K41
def K5v:Con:={args:=[.ref 167 Jib],ress:=[(true,Jfw)],owns:=[],pre:=fun(h,_)=>[Kf h],spec:=fun(h,_)=>(J4 h.2.2,())}
theorem K4k:Ok Tryz.prog 75 K5v:=okW K2k Tryz.f75 na fun xx=>by
 obtain⟨⟨(E:List Ev),(C:List Ev),(G:List Reg)⟩,_⟩:=xx
 refine(by kernel_rfl:(Kf (E,C,G)→Br (V2 G) (V1 G∧Ya G=J4 G) (Vj=J4 G))=_).mp ?_
 delta V2 Lj Vj V1 D1 F3 D0 Fn Hi Hh L2 Zt Fm Ya Br Iw Bd Tw Ln Gt E2
 intro hh
 have n1:E.length≤1000:=hh.nE
 have n2:C.length≤E.length:=hh.nC
 have n3:G.length=C.length:=hh.nG
 have hG:((G.length:Int)-1).toNat=G.length-1:=by omega
 refine⟨fun h=> ?_,fun h=> ?_⟩
 ·have h:(0:Int)<G.length:=of_decide_eq_true h
  rw[hG]
  exact⟨by(repeat' first|apply And.intro|omega),rfl⟩
 ·exact(Kj h).symm
abbrev K2j:=K2k.add K4k
def Kb4:Con:={args:=[.val false (.list 67 sEv), .fn [(true,sEv)] Bo],ress:=[(false, .list 67 sEv)],owns:=[true],pre:=fun(l,(q,_),_)=>[l.length≤1000000,∀x∈l,Uj (q (x,()))],spec:=fun(l,(_,f),_)=>(l.filter fun x=>f (x,()),())}
def J2p (a:Ev×Unit→Bool) (b:Nat) (c:List Ev):=List.filter (fun(x:Ev)=>a (x,PUnit.unit)) (List.take b c)
theorem K4h:Ok Tryz.prog 78 Kb4:=okW K2j Tryz.f78 (fun xx=>X3 (Jns 67 67 sEv xx.1 true xx.2.1.1 xx.2.1.2)) fun xx=>by
 obtain⟨(l:List Ev),⟨(q:Ev×Unit→List Prop),(f:Ev×Unit→Bool)⟩,_⟩:=xx
 refine(by kernel_rfl:(Z34 l→J9f l q→∃(x:Nat),Si (Ln l) (0=Nc x∧Sf l ((fun(x:Ev×PUnit)=>q x)=q∧(fun(x:Ev×PUnit)=>f x)=f∧List.length (J2p f x l)=0))∧x≤List.length l∧∀(x:Nat),x≤List.length l→Br (decide (Nc x<Ln l)) (Tw (Z11 x l)∧J8n q l x∧Br (f (J5y l x)) ((List.length (J2p f x l)+1)*88≤140737488355328∧Z14 x∧∃(y:Nat),Si (Ln l) (Z91 x y∧Sf l ((fun(x:Ev×PUnit)=>q x)=q∧(fun(x:Ev×PUnit)=>f x)=f∧J2p f x l++[Kdt l x]=J2p f y l))∧J6e y l x) (Z14 x∧∃(y:Nat),Si (Ln l) (Z91 x y∧Sf l ((fun(x:Ev×PUnit)=>q x)=q∧(fun(x:Ev×PUnit)=>f x)=f∧J2p f x l=J2p f y l))∧J6e y l x)) (J2p f x l=List.filter (fun(x:Ev)=>f (x,PUnit.unit)) l))=_).mp ?_
 delta Z11 Z14 Z34 Z91 J0r Lz J2p J6k J6i J6f J6e J9f Kdt J5y J8n Br Iw Bd Tw Sf Si Ln Nc B0 E2
 intro hb hq
 refine⟨(0:Nat),⟨rfl,rfl,rfl,rfl,rfl,by simp⟩,Nat.zero_le _,fun(k:Nat) hk=>⟨fun h=> ?_,fun h=> ?_⟩⟩
 ·have hlt:k<l.length:=by simpa using h
  have hf:=Je2 (p:=fun x=>f (x,())) hk
  have ht:=K4 (d:=ev0) hlt
  refine⟨by omega,hq (l.getD k ev0) (Jd hlt),fun h1=> ?_,fun h1=> ?_⟩
  ·have h1:f (l.getD k ev0,())=true:=h1
   refine⟨by show((List.filter (fun x=>f (x,())) (List.take k l)).length+1)*88≤_;omega,by omega,(k+1:Nat),⟨rfl,by simp,rfl,rfl,rfl, ?_⟩,by omega,by omega⟩
   rw[←ht,List.filter_append,List.filter_cons,if_pos h1];rfl
  ·have h1:f (l.getD k ev0,())=false:=h1
   refine⟨by omega,(k+1:Nat),⟨rfl,by simp,rfl,rfl,rfl, ?_⟩,by omega,by omega⟩
   rw[←ht,List.filter_append,List.filter_cons,if_neg (by rw[h1];decide)];simp
 ·have hlt:¬k<l.length:=by simpa using h
  rw[List.take_of_length_le (by omega)]
abbrev K2i:=K2j.add K4h
def Kb0:Con:={args:=[.val false (.list 67 sEv), .fn [(true,sEv)] (true,sEv)],ress:=[(false, .list 67 sEv)],owns:=[true],pre:=fun(l,(q,_),_)=>[l.length≤1000000,∀x∈l,Uj (q (x,()))],spec:=fun(l,(_,f),_)=>(l.map fun x=>f (x,()),())}
def J9z (a:Ev×Unit→Ev) (b:Nat) (c:List Ev):=List.map (fun(x:Ev)=>a (x,PUnit.unit)) (List.take b c)
def Ktz (a:Ev×Unit→Ev) (b:List Ev) (c:Nat):=a (J5y b c)
def Ktx (a:Ev×Unit→Ev) (b:List Ev) (c:Nat):=(Ktz a b c).2
def Ktv (a:Ev×Unit→Ev) (b:List Ev) (c:Nat):=(Ktx a b c).2
theorem K4i:Ok Tryz.prog 77 Kb0:=okW K2i Tryz.f77 (fun xx=>X3 (Ja0 67 67 sEv xx.1 (true,sEv) true xx.2.1.1 xx.2.1.2)) fun xx=>by
 obtain⟨(l:List Ev),⟨(q:Ev×Unit→List Prop),(f:Ev×Unit→Ev)⟩,_⟩:=xx
 refine(by kernel_rfl:(Z34 l→J9f l q→∃(x:Nat),Si (Ln l) (0=Nc x∧Sf l ((fun(x:Ev×PUnit)=>q x)=q∧(fun(x:Ev×PUnit)=>f x)=f∧List.length (J9z f x l)=0))∧x≤List.length l∧∀(x:Nat),x≤List.length l→Br (decide (Nc x<Ln l)) (Tw (Z11 x l)∧(J8n q l x∧(List.length (J9z f x l)+1)*88≤140737488355328)∧Z14 x∧∃(y:Nat),Si (Ln l) (Z91 x y∧Sf l ((fun(x:Ev×PUnit)=>q x)=q∧(fun(x:Ev×PUnit)=>f x)=f∧J9z f x l++[((Ktz f l x).1,(Ktx f l x).1,(Ktv f l x).1,E2 (Ktv f l x).2)]=J9z f y l))∧J6e y l x) (J9z f x l=List.map (fun(x:Ev)=>f (x,PUnit.unit)) l))=_).mp ?_
 delta Z11 Z14 Z34 Z91 J0r Lz J9z J6k J6i J6f J6e J9f Kdt J5y Ktz Ktx Ktv J8n Br Iw Bd Tw Sf Si Ln Nc B0 E2
 intro hb hq
 refine⟨(0:Nat),⟨rfl,rfl,rfl,rfl,rfl,by simp⟩,Nat.zero_le _,fun(k:Nat) hk=>⟨fun h=> ?_,fun h=> ?_⟩⟩
 ·have hlt:k<l.length:=by simpa using h
  refine⟨by omega,⟨hq (l.getD k ev0) (Jd hlt),by simp only[List.length_map,List.length_take];omega⟩,by omega,(k+1:Nat),⟨rfl,by simp,rfl,rfl,rfl, ?_⟩,by omega,by omega⟩
  rw[←K4 (d:=ev0) hlt,List.map_append];rfl
 ·have hlt:¬k<l.length:=by simpa using h
  rw[List.take_of_length_le (by omega)]
abbrev K2h:=K2i.add K4i
def Xx:List Ev→Nat→List Ev
 |[],_=>[]
 |e::l,i=>((i:Int)+1,e.2)::Xx l (i+1)
def Ze (l:List Ev) (s:ByteArray):Int:=Je [(Ja l).2.2,bif (bif (Ja l).2.2==0 then !Vi (Jx l) 0 s else false) then 10 else 0]
def Y6 (l:List Ev) (s:ByteArray):List Ev:=(Ja l).1.2.1.filter fun e=>abS (Jx l) e s
def F9 (l:List Ev) (s:ByteArray):List Ev:=if Ze l s=0 then Xx (Y6 l s) 0 else[]
def Kbh:Con:={args:=[.val false (.list 67 sEv),aS],ress:=[(false, .list 67 sEv),I],owns:=[],pre:=fun(l,_)=>[lOk l],spec:=fun(l,s,_)=>(F9 l s,Ze l s,())}
theorem Do:∀(l:List Ev) (i:Nat),(Xx l i).length=l.length
 |[],_=>rfl
 |_::l,i=>by unfold Xx;rw[List.length_cons,List.length_cons,Do l]
theorem Jgr:∀(a b:List Ev) (i:Nat),Xx (a++b) i=Xx a i++Xx b (i+a.length)
 |[],_,_=>rfl
 |x::a,b,i=>by
  rw[List.cons_append,Xx,Xx,Jgr a b (i+1),List.cons_append,List.length_cons,show i+1+a.length=i+(a.length+1) by omega]
theorem Jtp {L:List Ev} {k:Nat} (h:k<L.length):(Xx (L.take k) 0++L.drop k).getD k ev0=L.getD k ev0:=by
 have hl:(Xx (L.take k) 0).length=k:=by rw[Do,List.length_take];omega
 rw[Jp (d:=ev0) h,List.getD_eq_getElem?_getD,List.getElem?_append_right (by omega),hl,Nat.sub_self]
 rfl
theorem Jto {L:List Ev} {k:Nat} (h:k<L.length):(Xx (L.take k) 0++L.drop k).set k ((k:Int)+1,(L.getD k ev0).2)=Xx (L.take (k+1)) 0++L.drop (k+1):=by
 have hl:(Xx (L.take k) 0).length=k:=by rw[Do,List.length_take];omega
 rw[Jp (d:=ev0) h,List.set_append_right _ _ (by omega),hl,Nat.sub_self,List.set_cons_zero,←K4 (d:=ev0) h,Jgr,List.append_assoc,List.length_take,Nat.min_eq_left (by omega),Nat.zero_add]
 rfl
theorem Jof:∀{l:List Ev} {h:J2},∀e∈(X7 h l).1.2.1,e∈h.2.1∨e∈l
 |[],_,e,he=> .inl he
 | x :: l, h, e, he => by
  unfold X7 at he
  by_cases ha:Ko h x=0
  ·rw[if_pos ha] at he
   rcases Jof e he with h1|h1
   ·unfold Zb at h1
    cases hk:x.2.1.toList==Js.toList with
    |true=>rw[hk,cond_true] at h1;exact .inl (List.mem_of_mem_take h1)
    |false=>
     rw[hk,cond_false] at h1
     rcases Vz h1 with h2|rfl
     ·exact .inl h2
     ·exact .inr (List.mem_cons_self ..)
   ·exact .inr (List.mem_cons_of_mem _ h1)
  ·rw[if_neg ha] at he;exact .inl he
theorem Jqu {l:List Ev}:∀e∈(Ja l).1.2.1,e∈l:=by
 unfold Ja
 by_cases h:1000<l.length
 ·rw[if_pos h];intro e he;cases he
 ·rw[if_neg h];intro e he;exact(Jof e he).elim (fun h=>by cases h) id
abbrev J5c (l:List Ev) (s:ByteArray):Ann:={X:=J2×Nat,σ:=fun(h,k)=>⟨8,[(5, .one (.ptr 3 0)),(14, .one (.sl 0)),(15, .one (.int .i64 l.length)),(16, .one (.int .i64 k))],[(0, .imm 67 sEv l),(1, .box 9 [.str s]),(2, .sus [(3, .one (.ptr 1 0))]),(3, .box 167 [.sl 5, .sl 6, .sl 7]),(5, .own 67 sEv h.1),(6, .own 67 sEv h.2.1),(7, .own 105 Jfw h.2.2)]⟩,inv:=fun(h,k)=>Vp h∧h.1.length=k∧k≤l.length∧l.length≤1000∧X7 h (l.drop k)=Ja l,mu:=fun(_,k)=>l.length-k}
abbrev Kcz (L:List Ev):Ann:={X:=Nat,σ:=fun k=>⟨1,[(11, .one (.sl 0)),(44, .one (.sl 0)),(45, .one (.int .i64 L.length)),(46, .one (.int .i64 k))],[(0, .own 67 sEv (Xx (L.take k) 0++L.drop k))]⟩,inv:=fun k=>k≤L.length,mu:=fun k=>L.length-k}
def J6b (a:Nat) (b:List Ev) (c:Bt):=Xx (List.take a (Y6 b c)) 0++List.drop a (Y6 b c)
def Kky (a:Ev):=List.length a.2.2.1≤1000000∧List.length a.2.2.2.1≤1000000
def Kef (a:J2×Nat):=((J4 a.1.2.2).1,(J4 a.1.2.2).2.1,(J4 a.1.2.2).2.2.1,(J4 a.1.2.2).2.2.2.1,(J4 a.1.2.2).2.2.2.2.1,E2 (J4 a.1.2.2).2.2.2.2.2)
def Kv1 (a:J2×Nat):=Jj (Kef a)
def Khl (a:J2×Nat) (b:Bt):=List.filter (fun(x:Ev)=>abS (Kef a) x b) a.1.2.1
def Kup (a:J2×Nat) (b:Bt):=List.map (fun(x:Ev)=>x) (Khl a b)
def Kt9 (a:J2×Nat) (b:Bt):=Je [0,bif bif true then !Vi (Kef a) 0 b else false then 10 else 0]
def Ktd (a:J2×Nat) (b:List Ev):=Jsa a b==0
def Ks9 (a:J2×Nat) (b:List Ev):=Ktd a b=true
def J7r (a:J2×Nat) (b:List Ev) (c:Bt):=Je [Jsa a b,bif bif Ktd a b then Kjk c else false then 10 else 0]
theorem K5f:Ok Tryz.prog 16 Kbh:=Jty K2h Tryz.f16 (Us (l:=([(74,Tryz.f74)]:List (Nat×Func))) (List.forall_mem_cons.2 ⟨by kernel_rfl,by simp⟩)) (fun xx=>X3 (Kcz (Y6 xx.1 xx.2.1))) (fun xx=>fun f id=>if f=74 then some (J5c xx.1 xx.2.1) else none) fun xx=>by
 obtain⟨(l:List Ev),(s:ByteArray),_⟩:=xx
 refine(by kernel_rfl:(lOk l→Br (Z87 l) ((Z39∧Ja2∧2≤1000000)∧Br true (Sf true ([]=F9 l s∧Je [5,0]=Ze l s)) (Tw False)) (∃(x:(List Ev×List Ev×List Reg)×Nat),Si (Ln l) (0=Nc x.2∧Sf l (Kja s x))∧Jwm x l∧∀(x:J2×Nat),Jxp x l→Br (Jsj x l) (Z82 x l∧Jxl x l∧Br (Jr9 x l) (Z31 x∧((Ks9 x l→False)∧(Ks9 x l→Yr)∧2≤1000000)∧Br (J7r x l s !=0) (Sf true ([]=F9 l s∧J7r x l s=Ze l s)) (Tw False)) (Z31 x∧∃(y:(List Ev×List Ev×List Reg)×Nat),Si (Ln l) (Jl1 x y∧Sf l (J02 s x l y))∧Jxm y l x)) (((true=true→J0q x)∧(true=true→Kv1 x)∧2≤1000000)∧Br (Kt9 x s !=0) (Sf true ([]=F9 l s∧Kt9 x s=Ze l s)) (J0q x∧(List.length x.1.2.1≤1000000∧(∀(x_1:Ev),x_1∈x.1.2.1→Kv1 x∧Jgd (Kef x) x_1)∧List.length (Khl x s)≤1000000∧∀(x_1:Ev),x_1∈Khl x s→Kky x_1)∧∃(x_1:Nat),(Ln (Kup x s)=Ln (Y6 l s)∧0=Nc x_1∧Kup x s=J6b x_1 l s)∧x_1≤List.length (Y6 l s)∧∀(x:Nat),x≤List.length (Y6 l s)→Br (decide (Nc x<Ln (Y6 l s))) ((Z14 x∧Tw (Bd (Nc x) (Ln (J6b x l s))))∧Z14 x∧∃(y:Nat),Si (Ln (Y6 l s)) (Z91 x y∧List.set (J6b x l s) x (Nc x+1,(List.getD (J6b x l s) x Lz).2)=J6b y l s)∧y≤List.length (Y6 l s)∧List.length (Y6 l s)-y<List.length (Y6 l s)-x) (Sf true (J6b x l s=F9 l s∧0=Ze l s))))))=_).mp ?_
 delta Z14 Z26 Z31 Z39 Z82 Z87 Z91 Jsj Jl1 Jp5 Lz J0q J0k J0j Jwo Lj J6b Kky Vj Yr J2g Kjk Ja2 Kja J2e J2d Jwm Jxp Kef Kv1 Khl Jxm Kup Kt9 Jrn Jsa J5w J5v Ktd Ks9 Jxl Jr9 J7r Jlq J02 Br Iw Bd Tw Sf Si Ln Nc B0 E2
 intro hl
 refine⟨fun h=> ?_,fun h=> ?_⟩
 ·have e:Ja l=(Vt,0,5):=by unfold Ja;rw[if_pos (by have:=of_decide_eq_true h;omega)]
  have eE:Ze l s=5:=by unfold Ze;rw[e];rfl
  refine⟨⟨fun h=>(by cases h),fun h=>(by cases h),by decide⟩,fun _=>⟨rfl, ?_,eE.symm⟩,fun h=>(by cases h)⟩
  unfold F9;rw[if_neg (by rw[eE];decide)]
 have hn:l.length≤1000:=by have:=of_decide_eq_false h;omega
 have e0:Ja l=X7 Vt l:=by unfold Ja;rw[if_neg (by omega)]
 refine⟨(Vt,(0:Nat)),⟨rfl,rfl,rfl,rfl,rfl,rfl,rfl⟩,⟨Vh,rfl,Nat.zero_le _,hn,e0.symm⟩,fun(x:J2×Nat) hx=>⟨fun h1=> ?_,fun h1=> ?_⟩⟩
 ·obtain⟨g,k⟩:=x
  obtain⟨hi,hk,hk2,_,hrun⟩:=hx
  dsimp only at hi hk hk2 hrun
  have hlt:k<l.length:=by simpa using h1
  rw[Jp (d:=ev0) hlt,X7] at hrun
  have hz:=hl.2 _ (Jd (d:=ev0) hlt)
  have hev:(0,({data:={toList:=[]}}:ByteArray),([]:List ByteArray),([]:List Int),({data:={toList:=[]}}:ByteArray))=ev0:=rfl
  simp only[hev,Prod.eta]
  refine⟨by omega,⟨hi.ok,(show g.1.length<1000 by omega),hz⟩,fun h2=> ?_,fun h2=> ?_⟩
  ·have n2:Ko g (l.getD k ev0)≠0:=bne_iff_ne.1 h2
   rw[if_neg n2] at hrun
   have b2:(Ko g (l.getD k ev0)==0)=false:=beq_eq_false_iff_ne.2 n2
   have eE:Ze l s=Ko g (l.getD k ev0):=by
    unfold Ze
    rw[←hrun]
    simp only[b2,cond_false]
    unfold Je
    rw[if_neg n2]
   simp only[b2,cond_false]
   refine⟨by(repeat' first|apply And.intro|(first|omega|dsimp only;omega)),⟨fun h=>(nomatch h),fun h=>(nomatch h),by decide⟩,fun _=>⟨trivial, ?_, ?_⟩,fun h=> ?_⟩
   ·unfold F9;rw[if_neg (by rw[eE];exact n2)]
   ·rw[eE];unfold Je;rw[if_neg n2]
   ·have h:=bne_eq_false_iff_eq.1 h
    unfold Je at h;rw[if_neg n2] at h;exact absurd h n2
  ·have z2:Ko g (l.getD k ev0)=0:=bne_eq_false_iff_eq.1 h2
   rw[if_pos z2] at hrun
   have ea:Uy g (l.getD k ev0)=Zb g (l.getD k ev0):=by unfold Uy;rw[if_pos z2]
   rw[ea]
   have hk3:(Zb g (l.getD k ev0)).1.length=g.1.length+1:=Xi
   exact⟨by(repeat' first|apply And.intro|(first|omega|dsimp only;omega)),(Zb g (l.getD k ev0),k+1),by(repeat' first|exact rfl|exact⟨⟩|apply And.intro|omega|dsimp only;omega),⟨Di hi (by(first|omega|dsimp only;omega)) z2,by(first|omega|dsimp only;omega),by(first|omega|dsimp only;omega),hn,hrun⟩,by(first|omega|dsimp only;omega)⟩
 ·obtain⟨g,k⟩:=x
  obtain⟨hi,hk,hk2,_,hrun⟩:=hx
  dsimp only at hi hk hk2 hrun
  have hlt:¬k<l.length:=by simpa using h1
  have:k=l.length:=by omega
  rw[this,List.drop_length,X7] at hrun
  simp only[Prod.eta]
  have eR:Jx l=J4 g.2.2:=by unfold Jx;rw[←hrun];rfl
  have eE:Ze l s=Je [0,bif bif true then !Vi (J4 g.2.2) 0 s else false then 10 else 0]:=by
   unfold Ze;rw[←hrun,eR];rfl
  have eL:Y6 l s=g.2.1.filter fun e=>abS (J4 g.2.2) e s:=by unfold Y6;rw[←hrun,eR]
  rw[←eE]
  have hA:Jlu g:=by have:=Jyq (l:=l);rw[←hrun] at this;exact this
  have nE:g.1.length≤1000:=hi.ok.nE
  have nC:g.2.1.length≤g.1.length:=hi.ok.nC
  have hsub:∀e∈g.2.1,e∈l:=by have:=Jqu (l:=l);rw[←hrun] at this;exact this
  have hfl:=List.length_filter_le (fun e=>abS (J4 g.2.2) e s) g.2.1
  have hL:(Y6 l s).length≤1000:=by rw[eL];omega
  refine⟨⟨fun _=>hi.ok,fun _=>Yq hi.ok,by decide⟩,fun h2=>⟨trivial, ?_,rfl⟩,fun h2=>⟨hi.ok,⟨Nat.le_trans nC (by omega),fun x hx=>⟨Yq hi.ok,Ka4 hi hA hx⟩,Nat.le_trans hfl (by omega),fun x hx=> ?_⟩,(0:Nat),⟨?_,rfl, ?_⟩,Nat.zero_le _,fun(k:Nat) hk=>⟨fun h3=> ?_,fun h3=> ?_⟩⟩⟩
  ·unfold F9;rw[if_neg (bne_iff_ne.1 h2)]
  ·have:=hl.2 x (hsub x (List.mem_filter.1 hx).1)
   exact⟨this.1,this.2.1⟩
  ·rw[eL,List.map_id']
  ·rw[eL,List.map_id'];rfl
  ·have hlt:k<(Y6 l s).length:=by simpa using h3
   have hev:(0,({data:={toList:=[]}}:ByteArray),([]:List ByteArray),([]:List Int),({data:={toList:=[]}}:ByteArray))=ev0:=rfl
   rw[hev,Jtp hlt]
   refine⟨⟨by omega, ?_⟩,by omega,(k+1:Nat),⟨trivial,by simp,Jto hlt⟩,by omega,by omega⟩
   rw[List.length_append,Do,List.length_take,List.length_drop]
   omega
  ·have hlt:¬k<(Y6 l s).length:=by simpa using h3
   have:k=(Y6 l s).length:=by omega
   have z:Ze l s=0:=bne_eq_false_iff_eq.1 h2
   refine⟨trivial, ?_,z.symm⟩
   unfold F9
   rw[if_pos z,this,List.take_length,List.drop_length,List.append_nil]
abbrev K6w:=K2h.add K5f
namespace Cmp
open Go.Sx
set_option maxHeartbeats 20000000
def Kqy:Con:={args:=[.val true Hp, .val true Hp],ress:=[I],owns:=[],pre:=fun(x,y,_)=>[-1000000000≤x.1∧x.1≤1000000000,-1000000000≤y.1∧y.1≤1000000000],spec:=fun(x,y,_)=>(x.1-y.1,())}
theorem ok98 [Sx.Dr]:Ok Tryz.prog 98 Kqy:=okW W82 Tryz.f98 na fun xx=>by
 obtain⟨⟨(a:Int),(b:Int)⟩,⟨(c:Int),(d:Int)⟩,_⟩:=xx
 refine(by kernel_rfl:((-1000000000)≤a∧a≤1000000000→(-1000000000)≤c∧c≤1000000000→Iw (a-c)∧a-c=a-c)=_).mp ?_
 delta Iw
 intro h1 h2
 exact⟨by omega,rfl⟩
abbrev W83 [Sx.Dr]:=W82.add ok98
end Cmp
set_option maxHeartbeats 20000000
abbrev Spn:=Int×Int
def J1c:={x:Spn// -1000000000≤x.1∧x.1≤1000000000}
instance:Inhabited J1c:=⟨⟨(0,0),by decide,by decide⟩⟩
def Jrg (x:J1c):List Value:=[.int .i64 x.1.1, .int .i64 x.1.2]
def Ju9 (x y:J1c):Int:=x.1.1-y.1.1
theorem Jej {a b:J1c}:Proofs.ltOf Ju9 a b=false↔b.1.1≤a.1.1:=by
 unfold Proofs.ltOf Ju9
 simp only[decide_eq_false_iff_not]
 omega
theorem Jm1 (a b:J1c):Proofs.ltOf Ju9 a b=true↔a.1.1<b.1.1:=by
 unfold Proofs.ltOf Ju9
 simp only[decide_eq_true_iff]
 omega
theorem K31:Sort.SWO (Proofs.ltOf Ju9) where
 irrefl x:=Jej.2 (Int.le_refl _)
 trans x y z h1 h2:=(Jm1 x z).2 (Int.lt_trans ((Jm1 x y).1 h1) ((Jm1 y z).1 h2))
 ntrans x y z h1 h2:=Jej.2 (Int.le_trans (Jej.1 h2) (Jej.1 h1))
theorem Ji7 (M:Nat→Prop) (w:World) (x:J1c) (cs:List Value):Rep M w Hp x.1 cs↔cs=Jrg x:=by
 constructor
 ·rintro⟨a,b,rfl,ha,hb⟩
  have ha:a=[.int .i64 x.1.1]:=ha
  have hb:b=[.int .i64 x.1.2]:=hb
  subst ha;subst hb;rfl
 ·rintro rfl
  exact⟨_,_,rfl,rfl,rfl⟩
theorem Ju8 (w:World) (x y:J1c) (hG:Sx.Good Tryz.prog w):Calls Tryz.prog 98 #[.agg (Jrg x).toArray, .agg (Jrg y).toArray] w fun e w'=>e= .returned (.int .i64 (Ju9 x y))∧RowKit.Below w.heap.size w w'∧w.drawn≤w'.drawn:=by
 have h:=(@Cmp.ok98 .on).2.2.2 rfl (x.1,y.1,()) (fun _=>False) (fun _=>False) w [.agg (Jrg x).toArray, .agg (Jrg y).toArray] (fun b hb=>by rcases hb with hb|hb<;>exact hb.elim) hG.on ⟨x.2,y.2⟩ ⟨_,_,rfl,⟨Jrg x,rfl,(Ji7 _ _ _ _).2 rfl⟩,_,_,rfl,⟨Jrg y,rfl,(Ji7 _ _ _ _).2 rfl⟩,rfl⟩
 refine h.mono ?_
 rintro e w' ⟨M',vs,rfl,hb,_,_,hr⟩
 obtain⟨v,vs',rfl,⟨cs,rfl,hc⟩,hr⟩:=hr
 have hc:cs=[.int .i64 (Ju9 x y)]:=hc
 have hr:vs'=[]:=hr
 subst hc;subst hr
 exact⟨rfl,@Sx.Below.kit .on _ _ _ hb,hb.dr⟩
theorem Jza (w:World):(isAgg 117).run Tryz.prog w= .ok true w:=by kernel_rfl
theorem Js9 (w:World):(Go.sizeOf 117).run Tryz.prog w= .ok 2 w:=by kernel_rfl
theorem Kam (g cap:Nat) (d:Array J1c) (w:World) (hH:Sort.HoldsK Jrg 2 w g 0 d) (hg:g<w.heap.size) (hd:d.size<4611686018427387904) (hc:Proofs.CmpLays Tryz.prog 98 #[] Jrg 2 Ju9 g 0 d.size w):
  Calls Tryz.prog 97 #[.slice (some ⟨g,0,none⟩) d.size cap, .func (.func 98) #[] #[]] w fun e w'=>e= .returned (.tuple #[])∧∃d' n os,Sort.PermIn 0 d.size d d'∧Sort.SortedIn (Proofs.ltOf Ju9) 0 d.size d'∧w'=Proofs.sortWorldK Jrg 2 w g 0 n d' os:=by
 have eg:∀args w,(callFunc 98 args).run Tryz.prog w= .ok (.enter 98 args) w:=Proofs.enters_of Tryz.func98 (by kernel_rfl) rfl
 exact Proofs.AnyQ.slices_SortFunc Proofs.Tryz.sortS 2 Jza Js9 Jrg (fun _=>rfl) (fun x v hv=>by simp[Jrg] at hv;rcases hv with rfl|rfl<;>rfl) Ju9 K31 98 #[] g 0 cap d w eg hc hH hg hd
theorem Jmk (w:World):Calls Tryz.prog 97 #[.slice none 0 0, .func (.func 98) #[] #[]] w fun e w'=>e= .returned (.tuple #[])∧w'=w:=
 Proofs.AnyF.slices_SortFunc_none Proofs.Tryz.sortS none 0 _ w
def Kgm (l:List Spn):Prop:=(∀x∈l,-1000000000≤x.1∧x.1≤1000000000)∧l.length≤1000000
def J3i (xs ys:List Spn):Prop:=ys.Perm xs∧ys.Pairwise fun a b=>a.1≤b.1
theorem Jov {p:Spn→Prop}:∀l:List Spn,(∀x∈l,p x)→∃zs:List {x:Spn//p x},l=zs.map Subtype.val
 |[],_=>⟨[],rfl⟩
 |x::l,h=>by
  obtain⟨zs,e⟩:=Jov l fun y hy=>h y (List.mem_cons_of_mem _ hy)
  exact⟨⟨x,h x (List.mem_cons_self ..)⟩::zs,by rw[List.map_cons,←e]⟩
theorem Js8:Jw9 Tryz.prog 97 {T:=117,s:=Hp,g:=98,pre:=Kgm,f:=id,rel:=some J3i}:=
 Jyh (s:=Hp) (T:=117) (β:=J1c) (k:=2) Subtype.val Jrg (fun _=>rfl) rfl Ji7 Ju9 Kgm id J3i Kam Jmk Ju8
  (fun xs h=>Jov xs h.1)
  (fun xs ys hp hs=>⟨hp.map _,List.pairwise_map.2 (hs.imp fun h=>Jej.1 h)⟩)
  (fun xs h=>h.2)
def Kbi:Con:={args:=[],ress:=[],owns:=[],pre:=fun _=>[False],spec:=fun _=>(),srt:=some {T:=117,s:=Hp,g:=98,pre:=Kgm,f:=id,rel:=some J3i}}
theorem K35:Ok Tryz.prog 97 Kbi:=⟨⟨Tryz.f97,by kernel_rfl,by kernel_rfl,by kernel_rfl⟩,fun z hz=>(by cases hz;exact Js8),fun F hF=>(by cases hF),fun h=>by cases h⟩
abbrev K2g:=K6w.add K35
def J4m:Con:={args:=[.val false (.list 188 V5), .fn [(true,V5)] (true,Hp)],ress:=[(false, .list 117 Hp)],owns:=[true],pre:=fun(l,(q,_),_)=>[l.length≤1000000,∀x∈l,Uj (q (x,()))],spec:=fun(l,(_,f),_)=>(l.map fun x=>f (x,()),())}
def J9l (a:Out×Unit→Spn) (b:Nat) (c:List Out):=List.map (fun(x:Out)=>a (x,PUnit.unit)) (List.take b c)
theorem K39:Ok Tryz.prog 93 J4m:=okW K2g Tryz.f93 (fun xx=>X3 (Ja0 188 117 V5 xx.1 (true,Hp) true xx.2.1.1 xx.2.1.2)) fun xx=>by
 obtain⟨(l:List Out),⟨(q:Out×Unit→List Prop),(f:Out×Unit→Spn)⟩,_⟩:=xx
 refine(by kernel_rfl:(Z43 l→J2h l q→∃(x:Nat),Si (Ln l) (0=Nc x∧Sf l ((fun(x:Out×PUnit)=>q x)=q∧(fun(x:Out×PUnit)=>f x)=f∧List.length (J9l f x l)=0))∧x≤List.length l∧∀(x:Nat),x≤List.length l→Br (Z92 x l) (Z78 x l∧(J19 q l x∧(List.length (J9l f x l)+1)*16≤140737488355328)∧Z14 x∧∃(y:Nat),Si (Ln l) (Z91 x y∧Sf l ((fun(x:Out×PUnit)=>q x)=q∧(fun(x:Out×PUnit)=>f x)=f∧J9l f x l++[E2 (f (J2a l x))]=J9l f y l))∧Jwn y l x) (J9l f x l=List.map (fun(x:Out)=>f (x,PUnit.unit)) l))=_).mp ?_
 delta Z14 Z43 Z78 Z91 Z92 Jcw Jse Jxt Jro J0m Jwr J0l J9l Jwn J2h J5z J2a J19 Br Iw Bd Tw Sf Si Ln Nc B0 E2
 intro hb hq
 refine⟨(0:Nat),⟨rfl,rfl,rfl,rfl,rfl,by simp⟩,Nat.zero_le _,fun(k:Nat) hk=>⟨fun h=> ?_,fun h=> ?_⟩⟩
 ·have hlt:k<l.length:=by simpa using h
  refine⟨by omega,⟨hq (l.getD k Ja3) (Jd hlt),by simp only[List.length_map,List.length_take];omega⟩,by omega,(k+1:Nat),⟨rfl,by simp,rfl,rfl,rfl, ?_⟩,by omega,by omega⟩
  rw[←K4 (d:=Ja3) hlt,List.map_append];rfl
 ·have hlt:¬k<l.length:=by simpa using h
  rw[List.take_of_length_le (by omega)]
abbrev K2f:=K2g.add K39
def K57:Con:={args:=[.val true V5, .ref 9 .str],ress:=[Bo],owns:=[],pre:=fun _=>[],spec:=fun(x,s,_)=>(x.2.1.toList==s.toList,())}
theorem K37:Ok Tryz.prog 95 K57:=okW K2f Tryz.f95 na fun xx=>by
 obtain⟨⟨(n:ByteArray),(f:ByteArray),⟨(a:Int),(b:Int)⟩,(p:Int)⟩,(s:ByteArray),_⟩:=xx
 refine(by kernel_rfl:(Lb f s=Lb f s)=_).mp ?_
 delta Lb
 rfl
abbrev K2e:=K2f.add K37
def K56:Con:={args:=[.val true V5],ress:=[(true,Hp)],owns:=[],pre:=fun _=>[],spec:=fun(x,_)=>(x.2.2.1,())}
theorem K36:Ok Tryz.prog 96 K56:=okW K2e Tryz.f96 na fun xx=>by
 obtain⟨⟨(n:ByteArray),(f:ByteArray),⟨(a:Int),(b:Int)⟩,(p:Int)⟩,_⟩:=xx
 refine(by kernel_rfl:((a,b)=(a,b))=_).mp ?_
 rfl
abbrev K2d:=K2e.add K36
end Go.Proofs.YtcibbcfiemeoiaaGreatDoor

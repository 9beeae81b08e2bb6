/- Contracts of the functions that the law reaches: part of the proof. -/
import Derived.Test.YtcibbcfiemeoiaaGreatDoorFA
import Derived.Shelf.Strconv.ErrVarAll
import Derived.Lib.ItoaLen
import Derived.Lib.ItoaMem
set_option linter.unusedSimpArgs false
set_option linter.unusedVariables false
set_option maxRecDepth 20000
namespace Go.Proofs.YtcibbcfiemeoiaaGreatDoor
open Go.Sx
set_option maxHeartbeats 20000000
abbrev Jon:=ByteArray×Int×Int×Int×Int×Int
abbrev Jiu:Sch:= .prod .str (.prod sI (.prod sI (.prod sI (.prod sI sI))))
abbrev Jmm:=Int×Int×Int×Int
def Jcs (M:List Met) (s:ByteArray) (h:Int):Met:=M.getD (Kq M s h).toNat Jmj
def Jdd (st:Int) (M:List Met) (x:Ord):Int→Nat→Jmm→Jmm
 |_,0,a=>a
 |h,n+1,(c,s,g,f)=>Jdd st M x (h+1) n (bif Jr x h&&decide (h<st) then(c+1,s+(Jcs M x.1 h).2.2.1,g+(Jcs M x.1 h).2.2.2,f+3*(x.2.2.2.2.1-(Jcs M x.1 h).2.2.2)) else(c,s,g,f))
def Hc (st:Int) (M:List Met) (x:Ord):Jmm:=Jdd st M x x.2.2.2.1.1 (Uo x) (0,0,0,0)
def Uf (st:Int) (M:List Met) (x:Ord):Jon:=(x.1,(Hc st M x).1,(Hc st M x).2.1,(Hc st M x).2.2.1,(Hc st M x).2.2.1*x.2.2.2.2.2.1,(Hc st M x).2.2.2)
def Kr2:Con:={args:=[Jbj, .val true Lf],ress:=[(true,Jiu)],owns:=[],pre:=fun(r,x,_)=>[Jn r,x∈r.2.2.2.1],spec:=fun((_,st,_,_,M,_),x,_)=>(Uf st M x,())}
abbrev J6s (tk st:Int) (S:List Sta) (O:List Ord) (M:List Met) (X:List Out) (Q:List Per) (x:Ord):Ann:={X:=Nat×Jmm,σ:=fun(j,c,s,g,f)=>⟨14,[(0, .one (.fv 12)),(1, .one (.ptr 10 0)),(3, .one (.int .i64 (x.2.2.2.1.1+j)))],[(0, .imm 127 Fd S),(1, .imm 130 Lf O),(2, .imm 155 Jah M),(3, .imm 188 Zg X),(4, .imm 235 Hm Q),(5, .box 105 [.int .i64 tk, .int .i64 st, .sl 0, .sl 1, .sl 2, .sl 3, .sl 4]),(6, .box 130 (bxO x)),(7, .box 129 [.str Ja, .int .i64 0, .int .i64 0, .int .i64 0, .int .i64 0, .int .i64 0]),(8, .box 129 [.str x.1, .int .i64 c, .int .i64 s, .int .i64 g, .int .i64 0, .int .i64 f]),(10, .box 130 (bxO x)),(12, .yld .ready),(13, .sus [(2, .one (.ptr 5 0)),(3, .one (.ptr 6 0)),(4, .one (.ptr 7 0)),(5, .one (.ptr 8 0))])]⟩,inv:=fun(j,c,s,g,f)=>j≤Uo x∧(0≤c∧c≤j)∧(0≤s∧s≤1000*j)∧(0≤g∧g≤1000*j)∧(-3000*j≤f∧f≤3000*j)∧Jdd st M x (x.2.2.2.1.1+j) (Uo x-j) (c,s,g,f)=Hc st M x,mu:=fun(j,_)=>Uo x-j}
def Kai (a:Int) (b:Nat):=0≤a∧a≤1000*Nc b
def Klk (a:List Met) (b:Bt) (c:Int) (d:Nat×Jmm):=(Gt a (Kq a b (c+Nc d.1)) Jyz).2.2
def Kk3 (a:Int) (b:List Met) (c:Bt) (d:Int) (e:Nat×Jmm):=a-(Klk b c d e).2
def Kkq (a:Nat×Jmm) (b:List Met) (c:Bt) (d:Int):=a.2.2.1+(Klk b c d a).1
def J9s (a:Nat×Jmm) (b:List Met) (c:Bt) (d:Int):=a.2.2.2.1+(Klk b c d a).2
def Kj1 (a:Nat×Jmm) (b:Int) (c:List Met) (d:Bt) (e:Int):=a.2.2.2.2+3*Kk3 b c d e a
def Kty (a:Nat) (b c d:Bt) (e f g h i j k l m n:Int) (o:List Met):=a≤Uo (b,c,d,(e,f),g,h,i)∧(0≤j∧j≤Nc a)∧Kai k a∧Kai l a∧((-3000)*Nc a≤m∧m≤3000*Nc a)∧Jdd n o (b,c,d,(e,f),g,h,i) (e+Nc a) (Uo (b,c,d,(e,f),g,h,i)-a) (j,k,l,m)=Hc n o (b,c,d,(e,f),g,h,i)
def Kts (a:Nat×Int×Int×Int×Int) (b c d:Bt) (e f g h i j:Int) (k:List Met):=match a with|(j_1,c_1,s,g_1,f_1)=>Kty j_1 b c d e f g h i c_1 s g_1 f_1 j k
def Ktl (a:Nat×Int×Int×Int×Int) (b c d:Bt) (e f g h i j:Int) (k:List Met) (l:Nat×Jmm):=Kts a b c d e f g h i j k∧Uo (b,c,d,(e,f),g,h,i)-a.1<Uo (b,c,d,(e,f),g,h,i)-l.1
def J75 (a:Nat×Jmm) (b:Int) (c:Bt) (d:Int) (e:List Met) (f g:Bt) (h i j k:Int) (l:List Sta) (m:List Ord) (n:List Out) (o:List Per) (p:Int):=Br false (Iw (a.2.2.2.1*b)∧Sf true ((c,a.2.1,a.2.2.1,a.2.2.2.1,a.2.2.2.1*b,a.2.2.2.2)=Uf d e (c,f,g,(h,i),j,b,k))) (Iw (h+Nc a.1+1)∧∃(y:Nat×Int×Int×Int×Int),(h+Nc a.1+1=h+Nc y.1∧Sf l (Sf m (Sf e (Sf n (Sf o (Si p (Si d (Sf c (Sf f (Sf g (Si h (Si i (Si j (Si b (Si k (Sf Ja (Si 0 (Si 0 (Si 0 (Si 0 (Si 0 (Sf c (a.2.1=y.2.1∧a.2.2.1=y.2.2.1∧a.2.2.2.1=y.2.2.2.1∧Si 0 (a.2.2.2.2=y.2.2.2.2∧Sf c (Sf f (Sf g (Si h (Si i (Si j (Si b (k=k)))))))))))))))))))))))))))))))∧Ktl y c f g h i j b k d e a)
theorem Kql:Ok Tryz.prog 126 Kr2:=Jyd K4h Tryz.f126 (Uy (l:=([(178,Tryz.f178),(247,Tryz.f247)]:List (Nat×Func))) (List.forall_mem_cons.2 ⟨by kernel_rfl,List.forall_mem_cons.2 ⟨by kernel_rfl,by simp⟩⟩)) (fun xx=>na ()) (fun xx=>fun f' id=>if f'=247 then some (J6s xx.1.1 xx.1.2.1 xx.1.2.2.1 xx.1.2.2.2.1 xx.1.2.2.2.2.1 xx.1.2.2.2.2.2.1 xx.1.2.2.2.2.2.2 (xx.2.1.1,xx.2.1.2.1,xx.2.1.2.2.1,(xx.2.1.2.2.2.1.1,xx.2.1.2.2.2.1.2),xx.2.1.2.2.2.2.1,xx.2.1.2.2.2.2.2.1,xx.2.1.2.2.2.2.2.2)) else none) fun xx=>by
 obtain⟨⟨(tk:Int),(st:Int),(S:List Sta),(O:List Ord),(M:List Met),(X:List Out),(Q:List Per)⟩,⟨(n:ByteArray),(f:ByteArray),(t:ByteArray),⟨(a:Int),(b:Int)⟩,(p:Int),(c:Int),(r:Int)⟩,_⟩:=xx
 refine(by kernel_rfl:(Jx tk st S O M X Q→(n,f,t,(a,b),p,c,r)∈O→∃(x:Nat×Int×Int×Int×Int),(a=a+Nc x.1∧Sf S (Sf O (Sf M (Sf X (Sf Q (Si tk (Si st (Sf n (Sf f (Sf t (Si a (Si b (Si p (Si c (Si r (B0=Ja∧Si 0 (Si 0 (Si 0 (Si 0 (Si 0 (Sf n (0=x.2.1∧0=x.2.2.1∧0=x.2.2.2.1∧Si 0 (0=x.2.2.2.2∧Sf n (Sf f (Sf t (Si a (Si b (Si p (Si c (r=r))))))))))))))))))))))))))))))∧Kts x n f t a b p c r st M∧∀(x:Nat×Jmm),(match x with|(j,c_1,s,g,f_1)=>Kty j n f t a b p c r c_1 s g f_1 st M)→Br (decide (a+Nc x.1<b)) (Br (Jr (n,f,t,(a,b),p,c,r) (a+Nc x.1)) (Br (decide (a+Nc x.1<st)) ((Jx tk st S O M X Q∧Tw (Bd (Kq M n (a+Nc x.1)) (Ln M)))∧Iw (x.2.1+1)∧Iw (Kkq x M n a)∧Iw (J9s x M n a)∧(Iw (Kk3 p M n a x)∧Iw (3*Kk3 p M n a x)∧Iw (Kj1 x p M n a))∧Br false (Iw (J9s x M n a*c)∧Sf true ((n,x.2.1+1,Kkq x M n a,J9s x M n a,J9s x M n a*c,Kj1 x p M n a)=Uf st M (n,f,t,(a,b),p,c,r))) (Iw (a+Nc x.1+1)∧∃(y:Nat×Int×Int×Int×Int),(a+Nc x.1+1=a+Nc y.1∧Sf S (Sf O (Sf M (Sf X (Sf Q (Si tk (Si st (Sf n (Sf f (Sf t (Si a (Si b (Si p (Si c (Si r (Sf Ja (Si 0 (Si 0 (Si 0 (Si 0 (Si 0 (Sf n (x.2.1+1=y.2.1∧Kkq x M n a=y.2.2.1∧J9s x M n a=y.2.2.2.1∧Si 0 (Kj1 x p M n a=y.2.2.2.2∧Sf n (Sf f (Sf t (Si a (Si b (Si p (Si c (r=r)))))))))))))))))))))))))))))))∧Ktl y n f t a b p c r st M x)) (J75 x c n st M f t a b p r S O X Q tk)) (J75 x c n st M f t a b p r S O X Q tk)) (Iw (x.2.2.2.1*c)∧Sf true ((n,x.2.1,x.2.2.1,x.2.2.2.1,x.2.2.2.1*c,x.2.2.2.2)=Uf st M (n,f,t,(a,b),p,c,r))))=_).mp ?_
 delta Z65 Z73 Jyz Jx Kai Klk Kk3 Kkq J9s Kj1 Kty Kts Ktl J75 Br Iw Bd Tw Sf Si Ln Nc Gt B0
 intro hr hx
 have hO:=hr.ord _ hx
 have hD:=hr.done _ hx
 have b0:=hO.span.lo
 have b1:=hO.span.mid
 have b2:=hO.span.hi
 have b3:=hO.span.len
 have bp:=hO.pow
 have bc:=hO.pri
 have hn:Uo (n,f,t,(a,b),p,c,r)≤48∧(Uo (n,f,t,(a,b),p,c,r):Int)=b-a:=by
  dsimp only at b1 b3
  unfold Uo
  constructor<;>dsimp only<;>omega
 dsimp only at b0 b1 b2 b3 bp bc hD
 refine⟨((0:Nat),(0,0,0,0)),by(repeat' first|exact rfl|apply And.intro|exact(Int.add_zero _).symm|omega|dsimp only;omega),⟨Nat.zero_le _,by omega,by omega,by omega,by omega, ?_⟩,fun(y:Nat×Jmm) hy=>⟨fun h1=> ?_,fun h1=> ?_⟩⟩
 ·unfold Hc
  rw[Nat.sub_zero]
  simp only[Int.natCast_zero,Int.add_zero]
 ·obtain⟨j,c1,s1,g1,f1⟩:=y
  obtain⟨k1,k2,k3,k4,k5,k6⟩:=hy
  have h1:a+(j:Int)<b:=of_decide_eq_true h1
  have hj:Uo (n,f,t,(a,b),p,c,r)-j=(Uo (n,f,t,(a,b),p,c,r)-(j+1))+1:=by omega
  rw[hj,Jdd] at k6
  have hc:a+(j:Int)+1=a+((j+1:Nat):Int):=by omega
  have hB: -9223372036854775808≤a+(j:Int)+1∧a+(j:Int)+1≤9223372036854775807:=by omega
  refine⟨fun h2=>⟨fun h3=> ?_,fun h3=>⟨fun h=>(by cases h),fun _=>⟨hB,(j+1,c1,s1,g1,f1),by(repeat' first|exact rfl|apply And.intro|exact(Int.add_zero _).symm|omega|dsimp only;omega),⟨by(first|omega|dsimp only;omega),by(first|omega|dsimp only;omega),by(first|omega|dsimp only;omega),by(first|omega|dsimp only;omega),by(first|omega|dsimp only;omega), ?_⟩,by(first|omega|dsimp only;omega)⟩⟩⟩,fun h2=>⟨fun h=>(by cases h),fun _=>⟨hB,(j+1,c1,s1,g1,f1),by(repeat' first|exact rfl|apply And.intro|exact(Int.add_zero _).symm|omega|dsimp only;omega),⟨by(first|omega|dsimp only;omega),by(first|omega|dsimp only;omega),by(first|omega|dsimp only;omega),by(first|omega|dsimp only;omega),by(first|omega|dsimp only;omega), ?_⟩,by(first|omega|dsimp only;omega)⟩⟩⟩
  ·have h3':a+(j:Int)<st:=of_decide_eq_true h3
   have hm:0≤Kq M n (a+(j:Int)):=hD _ h2 h3'
   have hl:=Jav (l:=M) (s:=n) (h:=a+(j:Int))
   have hM:Jx7 (Jcs M n (a+(j:Int))):=hr.met _ (Je (show _<M.length by omega))
   have m1:=hM.sent
   have m2:=hM.got
   have e:M.getD (Kq M n (a+(j:Int))).toNat (Ja,0,0,0)=Jcs M n (a+(j:Int)):=rfl
   simp only[]
   rw[show(({data:={toList:=[]}}:ByteArray),(0:Int),(0:Int),(0:Int))=(Ja,0,0,0) from rfl,e]
   rw[h2,h3,Bool.true_and,cond_true] at k6
   refine⟨⟨hr,⟨hm,hl⟩,hm,hl⟩,by omega,by omega,by omega,⟨by omega,by omega,by omega⟩,fun h=>(by cases h),fun _=>⟨hB,(j+1,c1+1,s1+(Jcs M n (a+(j:Int))).2.2.1,g1+(Jcs M n (a+(j:Int))).2.2.2,f1+3*(p-(Jcs M n (a+(j:Int))).2.2.2)),by(repeat' first|exact rfl|apply And.intro|exact(Int.add_zero _).symm|omega|dsimp only;omega),⟨by(first|omega|dsimp only;omega),by(first|omega|dsimp only;omega),by(first|omega|dsimp only;omega),by(first|omega|dsimp only;omega),by(first|omega|dsimp only;omega), ?_⟩,by(first|omega|dsimp only;omega)⟩⟩
   rw[hc] at k6
   exact k6
  ·rw[h3,Bool.and_false,cond_false,hc] at k6
   exact k6
  ·rw[show Jr (n,f,t,(a,b),p,c,r) (a+(j:Int))=false from h2,Bool.false_and,cond_false,hc] at k6
   exact k6
 ·obtain⟨j,c1,s1,g1,f1⟩:=y
  obtain⟨k1,k2,k3,k4,k5,k6⟩:=hy
  have h1:¬a+(j:Int)<b:=of_decide_eq_false h1
  have hj:Uo (n,f,t,(a,b),p,c,r)-j=0:=by omega
  rw[hj,Jdd] at k6
  have q1:0≤g1*c:=Int.mul_nonneg k4.1 bc.1
  have q2:g1*c≤48000*1000:=Int.mul_le_mul (by omega) bc.2 bc.1 (by decide)
  refine⟨⟨by(first|omega|dsimp only;omega),by(first|omega|dsimp only;omega)⟩,rfl, ?_⟩
  unfold Uf
  rw[←k6]
abbrev K4g:=K4h.add Kql
def bd4 (k:Int) (a:Jmm):Prop:=(0≤a.1∧a.1≤k)∧(0≤a.2.1∧a.2.1≤1000*k)∧(0≤a.2.2.1∧a.2.2.1≤a.2.1)∧-3000*k≤a.2.2.2∧a.2.2.2≤3000*k
theorem Jp6 {st:Int} {M:List Met} {x:Ord} (hp:1≤x.2.2.2.2.1∧x.2.2.2.2.1≤1000) (hM:∀m∈M,Jx7 m) (hd:∀h,Jr x h=true→h<st→0≤Kq M x.1 h):∀(n:Nat) (h:Int) (a:Jmm) (k:Int),bd4 k a→bd4 (k+n) (Jdd st M x h n a)
 |0,_,_,k,ha=>by unfold Jdd;rw[show k+((0:Nat):Int)=k by omega];exact ha
 | n + 1, h, (c, s, g, f), k, ha => by
  unfold Jdd
  rw[show k+((n+1:Nat):Int)=(k+1)+n by omega]
  apply Jp6 hp hM hd n
  unfold bd4 at ha⊢
  dsimp only at ha
  cases hb:Jr x h&&decide (h<st) with
  |false=>simp only[cond_false];omega
  |true=>
   have h1:=Bool.and_eq_true_iff.1 hb
   have hm:0≤Kq M x.1 h:=hd h h1.1 (of_decide_eq_true h1.2)
   have hl:=Jav (l:=M) (s:=x.1) (h:=h)
   have hk:Jx7 (Jcs M x.1 h):=hM _ (Je (show _<M.length by omega))
   have m1:=hk.sent
   have m2:=hk.got
   simp only[cond_true]
   omega
theorem Jot {S:List Sta} {x:Ord} (h:Jdj S x):Uo x≤48:=by
 have:=h.span.len
 have:=h.span.mid
 unfold Uo
 omega
structure J39 (b:Jon):Prop where
 hours:0≤b.2.1∧b.2.1≤48
 sent:0≤b.2.2.1∧b.2.2.1≤48000
 got:0≤b.2.2.2.1∧b.2.2.2.1≤b.2.2.1
 money:0≤b.2.2.2.2.1∧b.2.2.2.2.1≤48000000
 fine: -144000≤b.2.2.2.2.2∧b.2.2.2.2.2≤144000
theorem Jbb {tk st:Int} {S:List Sta} {O:List Ord} {M:List Met} {X:List Out} {Q:List Per} {x:Ord} (hr:Jn (tk,st,S,O,M,X,Q)) (hx:x∈O):J39 (Uf st M x):=by
 have hO:=hr.ord _ hx
 have hs:=Jot hO
 have h:=Jp6 hO.pow hr.met (hr.done _ hx) (Uo x) x.2.2.2.1.1 (0,0,0,0) 0 (by unfold bd4;simp)
 have bc:=hO.pri
 unfold bd4 at h
 have h:(0≤(Hc st M x).1∧(Hc st M x).1≤0+(Uo x:Int))∧(0≤(Hc st M x).2.1∧(Hc st M x).2.1≤1000*(0+(Uo x:Int)))∧(0≤(Hc st M x).2.2.1∧(Hc st M x).2.2.1≤(Hc st M x).2.1)∧-3000*(0+(Uo x:Int))≤(Hc st M x).2.2.2∧(Hc st M x).2.2.2≤3000*(0+(Uo x:Int)):=h
 have q1:0≤(Hc st M x).2.2.1*x.2.2.2.2.2.1:=Int.mul_nonneg h.2.2.1.1 bc.1
 have q2:(Hc st M x).2.2.1*x.2.2.2.2.2.1≤48000*1000:=Int.mul_le_mul (by omega) bc.2 bc.1 (by decide)
 exact⟨by unfold Uf;(first|omega|dsimp only;omega),by unfold Uf;(first|omega|dsimp only;omega),by unfold Uf;(first|omega|dsimp only;omega),by unfold Uf;(first|omega|dsimp only;omega),by unfold Uf;(first|omega|dsimp only;omega)⟩
def Fj (x:Ord) (a b:ByteArray):Bool:=x.2.1.toList==a.toList&&(x.2.2.1.toList==b.toList&&true)
def Kdo (st:Int) (M:List Met) (a b:ByteArray) (x:Ord) (n:Int):Int:=(bif Fj x b a then(bif Fj x a b then n+((Uf st M x).2.2.2.2.1-(Uf st M x).2.2.2.2.2) else n)-((Uf st M x).2.2.2.2.1-(Uf st M x).2.2.2.2.2) else(bif Fj x a b then n+((Uf st M x).2.2.2.2.1-(Uf st M x).2.2.2.2.2) else n))
def Jxj (st:Int) (M:List Met) (a b:ByteArray):List Ord→Int→Int
 |[],n=>n
 |x::l,n=>Jxj st M a b l (Kdo st M a b x n)
def Dp (st:Int) (O:List Ord) (M:List Met) (a b:ByteArray):Int:=Jxj st M a b O 0
def J02:Con:={args:=[Jbj,aS,aS],ress:=[I],owns:=[],pre:=fun(r,_)=>[Jn r],spec:=fun((_,st,_,O,M,_),a,b,_)=>(Dp st O M a b,())}
abbrev Kdh (tk st:Int) (S:List Sta) (O:List Ord) (M:List Met) (X:List Out) (Q:List Per) (a b:ByteArray):Ann:={X:=Nat×Int,σ:=fun(k,n)=>⟨6,[(1, .one (.str a)),(2, .one (.str b)),(3, .one (.ptr 5 0)),(7, .one (.int .i64 n)),(13, .one (.sl 1)),(14, .one (.int .i64 O.length)),(15, .one (.int .i64 k))],[(0, .imm 127 Fd S),(1, .imm 130 Lf O),(2, .imm 155 Jah M),(3, .imm 188 Zg X),(4, .imm 235 Hm Q),(5, .box 105 [.int .i64 tk, .int .i64 st, .sl 0, .sl 1, .sl 2, .sl 3, .sl 4])]⟩,inv:=fun(k,n)=>k≤O.length∧(-100000000*k≤n∧n≤100000000*k)∧Jxj st M a b (O.drop k) n=Dp st O M a b,mu:=fun(k,_)=>O.length-k}
def Kkl (a:List Ord) (b:Nat×Int) (c:Bt):=Lb (Kf2 a b) c
def Kkh (a:List Ord) (b:Nat×Int) (c:Bt):=Lb (Kfy a b) c
def Ket (a:List Ord) (b c:Nat×Int) (d:List Sta) (e:List Met) (f:List Out) (g:List Per) (h i:Int):=Si (Ln a) (Jqi b c d a e f g h i)
def Kih (a:Nat×Int) (b:List Ord) (c:Int) (d:List Met) (e f:Bt):=a.1≤List.length b∧((-100000000)*Nc a.1≤a.2∧a.2≤100000000*Nc a.1)∧Jxj c d e f (List.drop a.1 b) a.2=Dp c b d e f
def Kh4 (a:List Ord) (b:Nat×Int) (c d:Bt):=Kkl a b c&&(Kkh a b d&&true)
def Keg (a:Nat×Int) (b:List Ord) (c:Int) (d:List Met) (e f:Bt) (g:Nat×Int):=Kih a b c d e f∧List.length b-a.1<List.length b-g.1
def Ktk (a:Int) (b:List Met) (c:List Ord) (d:Nat×Int):=(Uf a b (J6z c d)).2.2.2.2
def Jxx (a:Int) (b:List Met) (c:List Ord) (d:Nat×Int):=(Ktk a b c d).1-(Ktk a b c d).2
def J16 (a:Int) (b:List Met) (c:List Ord) (d:Nat×Int):=Iw (Jxx a b c d)
def J79 (a:Nat×Int) (b:Int) (c:List Met) (d:List Ord):=a.2-Jxx b c d a
def J15 (a:Nat×Int) (b:Int) (c:List Met) (d:List Ord):=a.2+Jxx b c d a
def J7x (a:Nat×Int) (b:Int) (c:List Met) (d:List Ord):=J15 a b c d-Jxx b c d a
theorem Kqk:Ok Tryz.prog 127 J02:=okW K4g Tryz.f127 (fun xx=>X8 (Kdh xx.1.1 xx.1.2.1 xx.1.2.2.1 xx.1.2.2.2.1 xx.1.2.2.2.2.1 xx.1.2.2.2.2.2.1 xx.1.2.2.2.2.2.2 xx.2.1 xx.2.2.1)) fun xx=>by
 obtain⟨⟨(tk:Int),(st:Int),(S:List Sta),(O:List Ord),(M:List Met),(X:List Out),(Q:List Per)⟩,(a:ByteArray),(b:ByteArray),_⟩:=xx
 refine(by kernel_rfl:(Jx tk st S O M X Q→∃(x:Nat×Int),Sf a (Sf b (0=x.2∧Si (Ln O) (Jyn x S O M X Q tk st)))∧Kih x O st M a b∧∀(x:Nat×Int),Kih x O st M a b→Br (decide (Nc x.1<Ln O)) (Tw (Bd (Nc x.1) (Ln O))∧(Jx tk st S O M X Q∧J6z O x∈O)∧Br (Kh4 O x a b) ((J16 st M O x∧Iw (J15 x st M O))∧Br (Kh4 O x b a) ((J16 st M O x∧Iw (J7x x st M O))∧Z34 x∧∃(y:Nat×Int),Sf a (Sf b (J7x x st M O=y.2∧Ket O x y S M X Q tk st))∧Keg y O st M a b x) (Z34 x∧∃(y:Nat×Int),Sf a (Sf b (J15 x st M O=y.2∧Ket O x y S M X Q tk st))∧Keg y O st M a b x)) (Br (Kh4 O x b a) ((J16 st M O x∧Iw (J79 x st M O))∧Z34 x∧∃(y:Nat×Int),Sf a (Sf b (J79 x st M O=y.2∧Ket O x y S M X Q tk st))∧Keg y O st M a b x) (Z34 x∧∃(y:Nat×Int),Sf a (Sf b (x.2=y.2∧Ket O x y S M X Q tk st))∧Keg y O st M a b x))) (x.2=Dp st O M a b))=_).mp ?_
 delta Z34 Z65 Z73 Jsk Jx Jde Kf5 Kf3 Kf2 Kf1 Kf0 Kfy Kfx Kfv Kfu Kkl Kkh Jqj Jyn Jqi Ket Kih Kh4 Keg J6z Ktk Jxx J16 J79 J15 J7x Br Iw Bd Tw Sf Si Ln Nc B0 Lb E2
 intro hr
 have nO:O.length≤32:=hr.nO
 refine⟨((0:Nat),(0:Int)),by(repeat' first|exact rfl|apply And.intro|exact(Int.add_zero _).symm|omega|dsimp only;omega),⟨Nat.zero_le _,by omega,rfl⟩,fun(x:Nat×Int) hk=>⟨fun h1=> ?_,fun h1=> ?_⟩⟩
 ·obtain⟨k,n⟩:=x
  have hlt:k<O.length:=by simpa using h1
  have hx:=Je (d:=J6) hlt
  have hb:=Jbb hr hx
  obtain⟨k1,k2,k3⟩:=hk
  rw[Jz (d:=J6) hlt,Jxj] at k3
  have m1:=hb.money
  have m2:=hb.fine
  have hz:((({data:={toList:=[]}}:ByteArray),({data:={toList:=[]}}:ByteArray),({data:={toList:=[]}}:ByteArray),((0:Int),(0:Int)),(0:Int),(0:Int),(0:Int)):Ord)=J6:=rfl
  dsimp only at k1 k2 k3
  simp only[hz,Prod.eta]
  generalize O.getD k J6=y at*
  have k3:Jxj st M a b (List.drop (k+1) O) (bif Fj y b a then(bif Fj y a b then n+((Uf st M y).2.2.2.2.1-(Uf st M y).2.2.2.2.2) else n)-((Uf st M y).2.2.2.2.1-(Uf st M y).2.2.2.2.2) else(bif Fj y a b then n+((Uf st M y).2.2.2.2.1-(Uf st M y).2.2.2.2.2) else n))=Dp st O M a b:=k3
  refine⟨⟨⟨by omega,by omega⟩,by omega,by omega⟩,⟨hr,hx⟩,fun h2=>⟨⟨⟨by omega,by omega⟩,by omega,by omega⟩,fun h3=>⟨⟨⟨by omega,by omega⟩,by omega,by omega⟩,⟨⟨by omega,by omega⟩,(k+1,n+((Uf st M y).2.2.2.2.1-(Uf st M y).2.2.2.2.2)-((Uf st M y).2.2.2.2.1-(Uf st M y).2.2.2.2.2)),by(repeat' first|exact rfl|exact⟨⟩|apply And.intro|omega|dsimp only;omega),⟨by(first|omega|dsimp only;omega),by(first|omega|dsimp only;omega), ?_⟩,by(first|omega|dsimp only;omega)⟩⟩,fun h3=>⟨⟨by omega,by omega⟩,(k+1,n+((Uf st M y).2.2.2.2.1-(Uf st M y).2.2.2.2.2)),by(repeat' first|exact rfl|exact⟨⟩|apply And.intro|omega|dsimp only;omega),⟨by(first|omega|dsimp only;omega),by(first|omega|dsimp only;omega), ?_⟩,by(first|omega|dsimp only;omega)⟩⟩,fun h2=>⟨fun h3=>⟨⟨⟨by omega,by omega⟩,by omega,by omega⟩,⟨⟨by omega,by omega⟩,(k+1,n-((Uf st M y).2.2.2.2.1-(Uf st M y).2.2.2.2.2)),by(repeat' first|exact rfl|exact⟨⟩|apply And.intro|omega|dsimp only;omega),⟨by(first|omega|dsimp only;omega),by(first|omega|dsimp only;omega), ?_⟩,by(first|omega|dsimp only;omega)⟩⟩,fun h3=>⟨⟨by omega,by omega⟩,(k+1,n),by(repeat' first|exact rfl|exact⟨⟩|apply And.intro|omega|dsimp only;omega),⟨by(first|omega|dsimp only;omega),by(first|omega|dsimp only;omega), ?_⟩,by(first|omega|dsimp only;omega)⟩⟩⟩
  all_goals (have h2:Fj y a b=_:=h2;have h3:Fj y b a=_:=h3;rw[h2,h3] at k3;exact k3)
 ·obtain⟨k,n⟩:=x
  have hlt:¬k<O.length:=by simpa using h1
  obtain⟨k1,k2,k3⟩:=hk
  have:k=O.length:=by omega
  rw[this,List.drop_length,Jxj] at k3
  exact k3
abbrev K4f:=K4g.add Kqk
theorem Jxi {tk st:Int} {S:List Sta} {O:List Ord} {M:List Met} {X:List Out} {Q:List Per} {a b:ByteArray} (hr:Jn (tk,st,S,O,M,X,Q)):∀(l:List Ord) (n:Int),(∀x∈l,x∈O)→n-100000000*l.length≤Jxj st M a b l n∧Jxj st M a b l n≤n+100000000*l.length
 |[],n,_=>by simp[Jxj]
 | x :: l, n, h => by
  have hb:=Jbb hr (h x (List.mem_cons_self ..))
  have ih:=Jxi (a:=a) (b:=b) hr l (Kdo st M a b x n) fun y hy=>h y (List.mem_cons_of_mem _ hy)
  have m1:=hb.money
  have m2:=hb.fine
  have hd:n-100000000≤Kdo st M a b x n∧Kdo st M a b x n≤n+100000000:=by
   unfold Kdo
   cases Fj x a b<;>cases Fj x b a<;>simp only[cond_true,cond_false]<;>omega
  simp only[List.length_cons]
  unfold Jxj
  omega
theorem Jqg {tk st:Int} {S:List Sta} {O:List Ord} {M:List Met} {X:List Out} {Q:List Per} {a b:ByteArray} (hr:Jn (tk,st,S,O,M,X,Q)): -3200000000≤Dp st O M a b∧Dp st O M a b≤3200000000:=by
 have h:=Jxi (a:=a) (b:=b) hr O 0 fun _ h=>h
 have nO:O.length≤32:=hr.nO
 unfold Dp
 omega
def Jyi (st:Int) (O:List Ord) (M:List Met) (s:ByteArray):List Sta→Int→Int
 |[],n=>n
 |x::l,n=>Jyi st O M s l (bif x.1.toList !=s.toList then n+Dp st O M s x.1 else n)
def Jww (st:Int) (S:List Sta) (O:List Ord) (M:List Met) (s:ByteArray):Int:=Jyi st O M s S 0
def J0z:Con:={args:=[Jbj,aS],ress:=[I],owns:=[],pre:=fun(r,_)=>[Jn r],spec:=fun((_,st,S,O,M,_),s,_)=>(Jww st S O M s,())}
abbrev Kdg (tk st:Int) (S:List Sta) (O:List Ord) (M:List Met) (X:List Out) (Q:List Per) (s:ByteArray):Ann:={X:=Nat×Int,σ:=fun(k,n)=>⟨6,[(1, .one (.str s)),(2, .one (.ptr 5 0)),(5, .one (.int .i64 n)),(9, .one (.sl 0)),(10, .one (.int .i64 S.length)),(11, .one (.int .i64 k))],[(0, .imm 127 Fd S),(1, .imm 130 Lf O),(2, .imm 155 Jah M),(3, .imm 188 Zg X),(4, .imm 235 Hm Q),(5, .box 105 [.int .i64 tk, .int .i64 st, .sl 0, .sl 1, .sl 2, .sl 3, .sl 4])]⟩,inv:=fun(k,n)=>k≤S.length∧(-3200000000*k≤n∧n≤3200000000*k)∧Jyi st O M s (S.drop k) n=Jww st S O M s,mu:=fun(k,_)=>S.length-k}
def Kmm (a:List Sta) (b:Nat×Int):=(List.getD a b.1 Z9).1
def Kii (a:Nat×Int) (b:List Sta) (c:Int) (d:List Ord) (e:List Met) (f:Bt):=a.1≤List.length b∧((-3200000000)*Nc a.1≤a.2∧a.2≤3200000000*Nc a.1)∧Jyi c d e f (List.drop a.1 b) a.2=Jww c b d e f
def Kva (a:Nat×Int) (b:List Sta) (c:Int) (d:List Ord) (e:List Met) (f:Bt) (g:Nat×Int):=Kii a b c d e f∧List.length b-a.1<List.length b-g.1
theorem Kqj:Ok Tryz.prog 128 J0z:=okW K4f Tryz.f128 (fun xx=>X8 (Kdg xx.1.1 xx.1.2.1 xx.1.2.2.1 xx.1.2.2.2.1 xx.1.2.2.2.2.1 xx.1.2.2.2.2.2.1 xx.1.2.2.2.2.2.2 xx.2.1)) fun xx=>by
 obtain⟨⟨(tk:Int),(st:Int),(S:List Sta),(O:List Ord),(M:List Met),(X:List Out),(Q:List Per)⟩,(s:ByteArray),_⟩:=xx
 refine(by kernel_rfl:(Jx tk st S O M X Q→∃(x:Nat×Int),Sf s (0=x.2∧Si (Ln S) (Jyn x S O M X Q tk st))∧Kii x S st O M s∧∀(x:Nat×Int),Kii x S st O M s→Br (decide (Nc x.1<Ln S)) (Tw (Bd (Nc x.1) (Ln S))∧Br (!Lb (Kmm S x) s) ((Jx tk st S O M X Q∧Iw (x.2+Dp st O M s (Kmm S x)))∧Z34 x∧∃(y:Nat×Int),Sf s (x.2+Dp st O M s (Kmm S x)=y.2∧Si (Ln S) (Jqi x y S O M X Q tk st))∧Kva y S st O M s x) (Z34 x∧∃(y:Nat×Int),Sf s (x.2=y.2∧Si (Ln S) (Jqi x y S O M X Q tk st))∧Kva y S st O M s x)) (x.2=Jww st S O M s))=_).mp ?_
 delta Z9 Z34 Z65 Jsk Jx Kmm Jqj Jyn Jqi Kii Kva Br Iw Bd Tw Sf Si Ln Nc B0 Lb
 intro hr
 have nS:S.length≤6:=hr.nS
 refine⟨((0:Nat),(0:Int)),by(repeat' first|exact rfl|exact⟨⟩|apply And.intro|omega|dsimp only;omega),⟨Nat.zero_le _,by omega,rfl⟩,fun(x:Nat×Int) hk=>⟨fun h1=> ?_,fun h1=> ?_⟩⟩
 ·obtain⟨k,n⟩:=x
  have hlt:k<S.length:=by simpa using h1
  obtain⟨k1,k2,k3⟩:=hk
  rw[Jz (d:=Jsu) hlt,Jyi] at k3
  have hz:((({data:={toList:=[]}}:ByteArray),(0:Int),(0:Int)):Sta)=Jsu:=rfl
  dsimp only at k1 k2 k3
  simp only[hz,Prod.eta]
  generalize S.getD k Jsu=y at*
  have hb:=Jqg (a:=s) (b:=y.1) hr
  refine⟨⟨⟨by omega,by omega⟩,by omega,by omega⟩,fun h2=>⟨⟨hr,by omega,by omega⟩,⟨by omega,by omega⟩,(k+1,n+Dp st O M s y.1),by(repeat' first|exact rfl|exact⟨⟩|apply And.intro|omega|dsimp only;omega),⟨by(first|omega|dsimp only;omega),by(first|omega|dsimp only;omega), ?_⟩,by(first|omega|dsimp only;omega)⟩,fun h2=>⟨⟨by omega,by omega⟩,(k+1,n),by(repeat' first|exact rfl|exact⟨⟩|apply And.intro|omega|dsimp only;omega),⟨by(first|omega|dsimp only;omega),by(first|omega|dsimp only;omega), ?_⟩,by(first|omega|dsimp only;omega)⟩⟩
  all_goals (have h2:(y.1.toList !=s.toList)=_:=h2;rw[h2] at k3;exact k3)
 ·obtain⟨k,n⟩:=x
  have hlt:¬k<S.length:=by simpa using h1
  obtain⟨k1,k2,k3⟩:=hk
  have:k=S.length:=by omega
  rw[this,List.drop_length,Jyi] at k3
  exact k3
abbrev K4e:=K4f.add Kqj
def J20 (num den:Int):Int×Int:=(num.tdiv (Nat.gcd num.toNat den.toNat:Nat),den.tdiv (Nat.gcd num.toNat den.toNat:Nat))
def K6f:Con:={args:=[aI,aI],ress:=[(true,Hx)],owns:=[],pre:=fun(a,b,_)=>[0≤a∧a≤1000000000000,1≤b∧b≤1000000000000],spec:=fun(a,b,_)=>(J20 a b,())}
abbrev Kdb (num den:Int):Ann:={X:=Int×Int,σ:=fun(a,b)=>⟨1,[(0, .one (.int .i64 num)),(1, .one (.int .i64 den)),(4, .one (.ptr 0 0)),(5, .one (.int .i64 a)),(6, .one (.int .i64 b))],[(0, .box 54 [.int .i64 0, .int .i64 0])]⟩,inv:=fun(a,b)=>(0≤a∧a≤1000000000000)∧(0≤b∧b≤1000000000000)∧(a=0→b≠0)∧Nat.gcd a.toNat b.toNat=Nat.gcd num.toNat den.toNat,mu:=fun(_,b)=>b.toNat}
def Z27:=Tw ((0:Int)=0)
def Kib (a:Int×Int) (b c:Int):=(0≤a.1∧a.1≤1000000000000)∧(0≤a.2∧a.2≤1000000000000)∧(a.1=0→a.2=0→False)∧Nat.gcd (Int.toNat a.1) (Int.toNat a.2)=Nat.gcd (Int.toNat b) (Int.toNat c)
theorem K4q:Ok Tryz.prog 99 K6f:=okW K4e Tryz.f99 (fun xx=>X8 (Kdb xx.1 xx.2.1)) fun xx=>by
 obtain⟨(num:Int),(den:Int),_⟩:=xx
 refine(by kernel_rfl:(0≤num∧num≤1000000000000→1≤den∧den≤1000000000000→∃(x:Int×Int),Si num (Si den (num=x.1∧den=x.2∧Z27))∧Kib x num den∧∀(x:Int×Int),Kib x num den→Br (x.2 !=0) ((x.2=0→False)∧∃(y:Int×Int),Si num (Si den (x.2=y.1∧Int.tmod x.1 x.2=y.2∧Z27))∧Kib y num den∧Int.toNat y.2<Int.toNat x.2) (((x.1=0→False)∧Iw (Int.tdiv num x.1)∧(x.1=0→False)∧Iw (Int.tdiv den x.1))∧(Int.tdiv num x.1,Int.tdiv den x.1)=J20 num den))=_).mp ?_
 delta Z27 Kib Br Iw Tw Si
 intro h1' h2
 refine⟨(num,den),by(repeat' first|exact rfl|exact⟨⟩|apply And.intro|omega|dsimp only;omega),⟨h1',by(first|omega|dsimp only;omega),by(first|omega|dsimp only;omega),rfl⟩,fun(x:Int×Int) hk=>⟨fun h1=> ?_,fun h1=> ?_⟩⟩
 ·obtain⟨a,b⟩:=x
  obtain⟨k1,k2,k3,k4⟩:=hk
  dsimp only at k1 k2 k3 k4 h1
  have hb:b≠0:=bne_iff_ne.1 h1
  obtain⟨A,rfl⟩:=Int.eq_ofNat_of_zero_le k1.1
  obtain⟨B,rfl⟩:=Int.eq_ofNat_of_zero_le k2.1
  have hB:0<B:=by omega
  have hm:=Nat.mod_lt A hB
  have e:((A:Int).tmod (B:Int))=((A %B:Nat):Int):=(Int.ofNat_tmod A B).symm
  refine⟨hb,((B:Int),((A %B:Nat):Int)),⟨rfl,rfl,rfl,e,rfl,rfl⟩,⟨by(first|omega|dsimp only;omega),by(first|omega|dsimp only;omega),fun h=>(by dsimp only at h;omega), ?_⟩, ?_⟩
  ·rw[←k4]
   simp only[Int.toNat_natCast]
   rw[Nat.gcd_comm A B,Nat.gcd_rec B A,Nat.gcd_comm]
  ·simp only[Int.toNat_natCast]
   exact hm
 ·obtain⟨a,b⟩:=x
  obtain⟨k1,k2,k3,k4⟩:=hk
  dsimp only at k1 k2 k3 k4 h1
  have hb:b=0:=by simpa using h1
  subst hb
  have ha:a≠0:=fun h=>k3 h rfl
  have hg:(Nat.gcd num.toNat den.toNat:Int)=a:=by rw[←k4];simp;omega
  have d1:0≤num.tdiv a:=Int.tdiv_nonneg h1'.1 k1.1
  have d2:num.tdiv a≤num:=Int.tdiv_le_self _ h1'.1
  have d3:0≤den.tdiv a:=Int.tdiv_nonneg (by omega) k1.1
  have d4:den.tdiv a≤den:=Int.tdiv_le_self _ (by omega)
  refine⟨⟨ha,⟨by(first|omega|dsimp only;omega),by(first|omega|dsimp only;omega)⟩,ha,by(first|omega|dsimp only;omega),by(first|omega|dsimp only;omega)⟩, ?_⟩
  unfold J20
  rw[hg]
abbrev K4d:=K4e.add K4q
abbrev Ka2:Sch:= .prod .str (.prod sI .bool)
abbrev Frm:=ByteArray×Int×Bool
def Zp (k:ByteArray):Frm:=
 bif k.toList==Ju.toList then(⟨⟨[83]⟩⟩,2,true) else
 bif k.toList==Ub.toList then(⟨⟨[115]⟩⟩,2,true) else
 bif k.toList==Kl.toList then(⟨⟨[79,115,115]⟩⟩,4,true) else
 bif k.toList==K7.toList then(⟨⟨[111]⟩⟩,4,true) else
 bif k.toList==Vp.toList then(⟨⟨[111]⟩⟩,1,true) else
 bif k.toList==Jv.toList then(⟨⟨[88,115]⟩⟩,4,true) else
 bif k.toList==Js.toList then(⟨⟨[120]⟩⟩,1,true) else
 bif k.toList==Kf.toList then(⟨⟨[80,120]⟩⟩,1,true) else
 bif k.toList==Ke.toList then(⟨⟨[112]⟩⟩,1,true) else
 bif k.toList==Jd.toList then(⟨⟨[]⟩⟩,2,true) else
 bif k.toList==Jp.toList then(⟨⟨[]⟩⟩,0,true) else
 (Ja,0,false)
def Krx:Con:={args:=[aS],ress:=[(true,Ka2)],owns:=[],pre:=fun _=>[],spec:=fun(k,_)=>(Zp k,())}
theorem Kbg:Ok Tryz.prog 110 Krx:=okW K4d Tryz.f110 na fun xx=>by
 obtain⟨(k:ByteArray),_⟩:=xx
 refine(by kernel_rfl:(Br (Lb k Ju) ((ByteArray.mk (Array.mk [83]),2,true)=Zp k) (Br (Lb k Ub) ((ByteArray.mk (Array.mk [115]),2,true)=Zp k) (Br (Lb k Kl) ((ByteArray.mk (Array.mk [79,115,115]),4,true)=Zp k) (Br (Lb k K7) ((ByteArray.mk (Array.mk [111]),4,true)=Zp k) (Br (Lb k Vp) ((ByteArray.mk (Array.mk [111]),1,true)=Zp k) (Br (Lb k Jv) ((ByteArray.mk (Array.mk [88,115]),4,true)=Zp k) (Br (Lb k Js) ((ByteArray.mk (Array.mk [120]),1,true)=Zp k) (Br (Lb k Kf) ((ByteArray.mk (Array.mk [80,120]),1,true)=Zp k) (Br (Lb k Ke) ((ByteArray.mk (Array.mk [112]),1,true)=Zp k) (Br (Lb k Jd) ((B0,2,true)=Zp k) (Br (Lb k Jp) ((B0,0,true)=Zp k) ((B0,0,false)=Zp k))))))))))))=_).mp ?_
 delta Br B0 Lb K7 Kl Jv Kf Ub Js Ke Jd Ju Vp Jp
 unfold Zp
 repeat' first|(refine⟨fun h=> ?_,fun h=> ?_⟩)|(rw[h];clear h)
 all_goals rfl
abbrev K76:=K4d.add Kbg
abbrev K4c:=K76
abbrev Jk0:Sch:= .prod sI (.prod sI (.prod (.list 114 Fd) (.prod (.list 119 Lf) (.prod (.list 121 Jah) (.prod (.list 123 Zg) (.list 125 Hm))))))
abbrev Zx:AK:= .val true Jk0
def Kr8:Con:={args:=[Zx,aS],ress:=[I],owns:=[],pre:=fun((_,_,L,_),_)=>[L.length≤1000000],spec:=fun((_,_,L,_),s,_)=>(J0 L s,())}
abbrev J6w (tk st:Int) (S:List Sta) (O:List Ord) (M:List Met) (X:List Out) (Q:List Per) (s:ByteArray):Ann:={X:=Nat,σ:=fun k=>⟨6,[(1, .one (.str s)),(2, .one (.ptr 5 0)),(5, .one (.int .i64 k))],[(0, .imm 114 Fd S),(1, .imm 119 Lf O),(2, .imm 121 Jah M),(3, .imm 123 Zg X),(4, .imm 125 Hm Q),(5, .box 37 [.int .i64 tk, .int .i64 st, .sl 0, .sl 1, .sl 2, .sl 3, .sl 4])]⟩,inv:=fun k=>k≤S.length∧J0 S s=Vg (fun x=>x.1.toList==s.toList) (S.drop k) k,mu:=fun k=>S.length-k}
def Kkv (a:Nat) (b:List Sta) (c:Bt):=a≤List.length b∧J0 b c=Vg (fun(x:Sta)=>Lb x.1 c) (List.drop a b) a
def Jym (a:Bt) (b:Nat) (c:List Sta) (d:List Ord) (e:List Met) (f:List Out) (g:List Per) (h i:Int):=Sf a (0=Nc b∧Jqj c d e f g h i)
def Jyl (a:Bt) (b c:Nat) (d:List Sta) (e:List Ord) (f:List Met) (g:List Out) (h:List Per) (i j:Int):=Sf a (Z95 b c∧Jqj d e f g h i j)
theorem K5w:Ok Tryz.prog 21 Kr8:=okW K4c Tryz.f21 (fun xx=>X8 (J6w xx.1.1 xx.1.2.1 xx.1.2.2.1 xx.1.2.2.2.1 xx.1.2.2.2.2.1 xx.1.2.2.2.2.2.1 xx.1.2.2.2.2.2.2 xx.2.1)) fun xx=>by
 obtain⟨⟨(tk:Int),(st:Int),(S:List Sta),(O:List Ord),(M:List Met),(X:List Out),(Q:List Per)⟩,(s:ByteArray),_⟩:=xx
 refine(by kernel_rfl:(Z59 S→∃(x:Nat),Jym s x S O M X Q tk st∧Kkv x S s∧∀(x:Nat),Kkv x S s→Br (decide (Nc x<Ln S)) (Tw (Bd (Nc x) (Ln S))∧Br (Lb (List.getD S x Z9).1 s) (Nc x=J0 S s) (Z19 x∧∃(y:Nat),Jyl s x y S O M X Q tk st∧Kkv y S s∧List.length S-y<List.length S-x)) (Z69=J0 S s))=_).mp ?_
 delta Z9 Z19 Z59 Z69 Z95 Kkv Jqj Jym Jyl Br Iw Bd Tw Sf Si Ln Nc B0 Lb
 intro hb
 refine⟨(0:Nat),by(repeat' first|exact rfl|exact⟨⟩|apply And.intro|omega|dsimp only;omega),⟨Nat.zero_le _,rfl⟩,fun(k:Nat) hk=>⟨fun h=> ?_,fun h=> ?_⟩⟩
 ·have hlt:k<S.length:=by simpa using h
  have hd:=Yc (p:=fun x=>x.1.toList==s.toList) (d:=Jsu) hlt
  refine⟨by omega,fun h1=> ?_,fun h1=>⟨by omega,(k+1:Nat),by(repeat' first|exact rfl|exact⟨⟩|apply And.intro|omega|dsimp only;omega),⟨by omega, ?_⟩,by omega⟩⟩
  ·rw[hk.2,hd,if_pos (show((S.getD k Jsu).1.toList==s.toList)=true from h1)]
  ·rw[hk.2,hd,if_neg (by rw[show((S.getD k Jsu).1.toList==s.toList)=false from h1];simp)]
 ·have hlt:¬k<S.length:=by simpa using h
  have:k=S.length:=by omega
  rw[hk.2,this,List.drop_length];rfl
abbrev K4b:=K4c.add K5w
def Kr7:Con:={args:=[Zx,aS],ress:=[I],owns:=[],pre:=fun((_,_,_,L,_),_)=>[L.length≤1000000],spec:=fun((_,_,_,L,_),s,_)=>(Kp L s,())}
abbrev J6v (tk st:Int) (S:List Sta) (O:List Ord) (M:List Met) (X:List Out) (Q:List Per) (s:ByteArray):Ann:={X:=Nat,σ:=fun k=>⟨6,[(1, .one (.str s)),(2, .one (.ptr 5 0)),(5, .one (.int .i64 k))],[(0, .imm 114 Fd S),(1, .imm 119 Lf O),(2, .imm 121 Jah M),(3, .imm 123 Zg X),(4, .imm 125 Hm Q),(5, .box 37 [.int .i64 tk, .int .i64 st, .sl 0, .sl 1, .sl 2, .sl 3, .sl 4])]⟩,inv:=fun k=>k≤O.length∧Kp O s=Vg (fun x=>x.1.toList==s.toList) (O.drop k) k,mu:=fun k=>O.length-k}
def Kky (a:Nat) (b:List Ord) (c:Bt):=a≤List.length b∧Kp b c=Vg (fun(x:Ord)=>Lb x.1 c) (List.drop a b) a
theorem K40:Ok Tryz.prog 86 Kr7:=okW K4b Tryz.f86 (fun xx=>X8 (J6v xx.1.1 xx.1.2.1 xx.1.2.2.1 xx.1.2.2.2.1 xx.1.2.2.2.2.1 xx.1.2.2.2.2.2.1 xx.1.2.2.2.2.2.2 xx.2.1)) fun xx=>by
 obtain⟨⟨(tk:Int),(st:Int),(S:List Sta),(O:List Ord),(M:List Met),(X:List Out),(Q:List Per)⟩,(s:ByteArray),_⟩:=xx
 refine(by kernel_rfl:(Z43 O→∃(x:Nat),Jym s x S O M X Q tk st∧Kky x O s∧∀(x:Nat),Kky x O s→Br (decide (Nc x<Ln O)) (Tw (Bd (Nc x) (Ln O))∧Br (Lb (Kf4 O x) s) (Nc x=Kp O s) (Z19 x∧∃(y:Nat),Jyl s x y S O M X Q tk st∧Kky y O s∧List.length O-y<List.length O-x)) (Z69=Kp O s))=_).mp ?_
 delta Z19 Z43 Z69 Z73 Z95 Jde Kf6 Kf4 Kky Jqj Jym Jyl Br Iw Bd Tw Sf Si Ln Nc B0 Lb
 intro hb
 refine⟨(0:Nat),by(repeat' first|exact rfl|exact⟨⟩|apply And.intro|omega|dsimp only;omega),⟨Nat.zero_le _,rfl⟩,fun(k:Nat) hk=>⟨fun h=> ?_,fun h=> ?_⟩⟩
 ·have hlt:k<O.length:=by simpa using h
  have hd:=Yc (p:=fun x=>x.1.toList==s.toList) (d:=J6) hlt
  refine⟨by omega,fun h1=> ?_,fun h1=>⟨by omega,(k+1:Nat),by(repeat' first|exact rfl|exact⟨⟩|apply And.intro|omega|dsimp only;omega),⟨by omega, ?_⟩,by omega⟩⟩
  ·rw[hk.2,hd,if_pos (show((O.getD k J6).1.toList==s.toList)=true from h1)]
  ·rw[hk.2,hd,if_neg (by rw[show((O.getD k J6).1.toList==s.toList)=false from h1];simp)]
 ·have hlt:¬k<O.length:=by simpa using h
  have:k=O.length:=by omega
  rw[hk.2,this,List.drop_length];rfl
abbrev K4a:=K4b.add K40
def Kr6:Con:={args:=[Zx,aS],ress:=[I],owns:=[],pre:=fun((_,_,_,_,_,L,_),_)=>[L.length≤1000000],spec:=fun((_,_,_,_,_,L,_),s,_)=>(J7 L s,())}
abbrev J6u (tk st:Int) (S:List Sta) (O:List Ord) (M:List Met) (X:List Out) (Q:List Per) (s:ByteArray):Ann:={X:=Nat,σ:=fun k=>⟨6,[(1, .one (.str s)),(2, .one (.ptr 5 0)),(5, .one (.int .i64 k))],[(0, .imm 114 Fd S),(1, .imm 119 Lf O),(2, .imm 121 Jah M),(3, .imm 123 Zg X),(4, .imm 125 Hm Q),(5, .box 37 [.int .i64 tk, .int .i64 st, .sl 0, .sl 1, .sl 2, .sl 3, .sl 4])]⟩,inv:=fun k=>k≤X.length∧J7 X s=Vg (fun x=>x.1.toList==s.toList) (X.drop k) k,mu:=fun k=>X.length-k}
def Kkt (a:Nat) (b:List Out) (c:Bt):=a≤List.length b∧J7 b c=Vg (fun(x:Out)=>Lb x.1 c) (List.drop a b) a
theorem K4z:Ok Tryz.prog 87 Kr6:=okW K4a Tryz.f87 (fun xx=>X8 (J6u xx.1.1 xx.1.2.1 xx.1.2.2.1 xx.1.2.2.2.1 xx.1.2.2.2.2.1 xx.1.2.2.2.2.2.1 xx.1.2.2.2.2.2.2 xx.2.1)) fun xx=>by
 obtain⟨⟨(tk:Int),(st:Int),(S:List Sta),(O:List Ord),(M:List Met),(X:List Out),(Q:List Per)⟩,(s:ByteArray),_⟩:=xx
 refine(by kernel_rfl:(Z58 X→∃(x:Nat),Jym s x S O M X Q tk st∧Kkt x X s∧∀(x:Nat),Kkt x X s→Br (Js9 x X) (Tw (Z22 x X)∧Br (Lb (J1p X x) s) (Nc x=J7 X s) (Z19 x∧∃(y:Nat),Jyl s x y S O M X Q tk st∧Kkt y X s∧Jyv X y x)) (Z69=J7 X s))=_).mp ?_
 delta Z19 Z22 Z58 Z69 Z95 Js9 Jgf Jyv J1q J1p Kkt Jqj Jym Jyl Br Iw Bd Tw Sf Si Ln Nc B0 Lb
 intro hb
 refine⟨(0:Nat),by(repeat' first|exact rfl|exact⟨⟩|apply And.intro|omega|dsimp only;omega),⟨Nat.zero_le _,rfl⟩,fun(k:Nat) hk=>⟨fun h=> ?_,fun h=> ?_⟩⟩
 ·have hlt:k<X.length:=by simpa using h
  have hd:=Yc (p:=fun x=>x.1.toList==s.toList) (d:=Jbh) hlt
  refine⟨by omega,fun h1=> ?_,fun h1=>⟨by omega,(k+1:Nat),by(repeat' first|exact rfl|exact⟨⟩|apply And.intro|omega|dsimp only;omega),⟨by omega, ?_⟩,by omega⟩⟩
  ·rw[hk.2,hd,if_pos (show((X.getD k Jbh).1.toList==s.toList)=true from h1)]
  ·rw[hk.2,hd,if_neg (by rw[show((X.getD k Jbh).1.toList==s.toList)=false from h1];simp)]
 ·have hlt:¬k<X.length:=by simpa using h
  have:k=X.length:=by omega
  rw[hk.2,this,List.drop_length];rfl
abbrev K39:=K4a.add K4z
def Kr5:Con:={args:=[Zx,aS],ress:=[I],owns:=[],pre:=fun((_,_,_,_,_,_,L),_)=>[L.length≤1000000],spec:=fun((_,_,_,_,_,_,L),s,_)=>(U2 L s,())}
abbrev J6t (tk st:Int) (S:List Sta) (O:List Ord) (M:List Met) (X:List Out) (Q:List Per) (s:ByteArray):Ann:={X:=Nat,σ:=fun k=>⟨6,[(1, .one (.str s)),(2, .one (.ptr 5 0)),(5, .one (.int .i64 k))],[(0, .imm 114 Fd S),(1, .imm 119 Lf O),(2, .imm 121 Jah M),(3, .imm 123 Zg X),(4, .imm 125 Hm Q),(5, .box 37 [.int .i64 tk, .int .i64 st, .sl 0, .sl 1, .sl 2, .sl 3, .sl 4])]⟩,inv:=fun k=>k≤Q.length∧U2 Q s=Vg (fun x=>x.1.toList==s.toList) (Q.drop k) k,mu:=fun k=>Q.length-k}
def Kku (a:Nat) (b:List Per) (c:Bt):=a≤List.length b∧U2 b c=Vg (fun(x:Per)=>Lb x.1 c) (List.drop a b) a
theorem K4y:Ok Tryz.prog 88 Kr5:=okW K39 Tryz.f88 (fun xx=>X8 (J6t xx.1.1 xx.1.2.1 xx.1.2.2.1 xx.1.2.2.2.1 xx.1.2.2.2.2.1 xx.1.2.2.2.2.2.1 xx.1.2.2.2.2.2.2 xx.2.1)) fun xx=>by
 obtain⟨⟨(tk:Int),(st:Int),(S:List Sta),(O:List Ord),(M:List Met),(X:List Out),(Q:List Per)⟩,(s:ByteArray),_⟩:=xx
 refine(by kernel_rfl:(Z50 Q→∃(x:Nat),Jym s x S O M X Q tk st∧Kku x Q s∧∀(x:Nat),Kku x Q s→Br (Jy2 x Q) (Tw (Bd (Nc x) (Ln Q))∧Br (Lb (List.getD Q x (B0,B0,false)).1 s) (Nc x=U2 Q s) (Z19 x∧∃(y:Nat),Jyl s x y S O M X Q tk st∧Kku y Q s∧J1t Q y x)) (Z69=U2 Q s))=_).mp ?_
 delta Z19 Z50 Z69 Z95 Jy2 J1t Kku Jqj Jym Jyl Br Iw Bd Tw Sf Si Ln Nc B0 Lb
 intro hb
 refine⟨(0:Nat),by(repeat' first|exact rfl|exact⟨⟩|apply And.intro|omega|dsimp only;omega),⟨Nat.zero_le _,rfl⟩,fun(k:Nat) hk=>⟨fun h=> ?_,fun h=> ?_⟩⟩
 ·have hlt:k<Q.length:=by simpa using h
  have hd:=Yc (p:=fun x=>x.1.toList==s.toList) (d:=Jiz) hlt
  refine⟨by omega,fun h1=> ?_,fun h1=>⟨by omega,(k+1:Nat),by(repeat' first|exact rfl|exact⟨⟩|apply And.intro|omega|dsimp only;omega),⟨by omega, ?_⟩,by omega⟩⟩
  ·rw[hk.2,hd,if_pos (show((Q.getD k Jiz).1.toList==s.toList)=true from h1)]
  ·rw[hk.2,hd,if_neg (by rw[show((Q.getD k Jiz).1.toList==s.toList)=false from h1];simp)]
 ·have hlt:¬k<Q.length:=by simpa using h
  have:k=Q.length:=by omega
  rw[hk.2,this,List.drop_length];rfl
abbrev K38:=K39.add K4y
def atS (r:Reg) (c:Int) (s:ByteArray):Int:=bif c==115 then J0 r.2.2.1 s else bif c==111 then Kp r.2.2.2.1 s else bif c==120 then J7 r.2.2.2.2.2.1 s else U2 r.2.2.2.2.2.2 s
def cAt:Con:={args:=[Zx, .val false (.int .u8),aS],ress:=[I],owns:=[],pre:=fun(r,_)=>[Jn r],spec:=fun(r,c,s,_)=>(atS r c s,())}
theorem Ko1:Ok Tryz.prog 192 cAt:=okW K38 Tryz.f192 na fun xx=>by
 obtain⟨⟨(tk:Int),(st:Int),(S:List Sta),(O:List Ord),(M:List Met),(X:List Out),(Q:List Per)⟩,(c:Int),(s:ByteArray),_⟩:=xx
 refine(by kernel_rfl:(Jx tk st S O M X Q→Br (c==115) (Z59 S∧J0 S s=atS (Z65 tk st S O M X Q) c s) (Br (c==111) (Z43 O∧Kp O s=atS (Z65 tk st S O M X Q) c s) (Br (c==120) (Z58 X∧J7 X s=atS (Z65 tk st S O M X Q) c s) (Z50 Q∧U2 Q s=atS (Z65 tk st S O M X Q) c s))))=_).mp ?_
 delta Z43 Z50 Z58 Z59 Z65 Jx Br
 intro hr
 have nS:S.length≤6:=hr.nS
 have nO:O.length≤32:=hr.nO
 have nX:X.length≤16:=hr.nX
 have nQ:Q.length≤16:=hr.nQ
 unfold atS
 repeat' first|(refine⟨fun h=> ?_,fun h=> ?_⟩)|(rw[h];clear h)
 all_goals exact⟨by omega,rfl⟩
abbrev K37:=K38.add Ko1
theorem Ko8:Ok Tryz.prog 181 Jwe:=okW K37 Tryz.f181 na fun xx=>by
 obtain⟨⟨(a:Int),(b:Int)⟩,(h:Int),_⟩:=xx
 refine(by kernel_rfl:((bif decide (a≤h) then decide (h<b) else false)=Ko (a,b) h)=_).mp ?_
 rfl
abbrev K36:=K37.add Ko8
def Jsb:Con:={args:=[.val true Lf,aI],ress:=[Bo],owns:=[],pre:=fun(x,_)=>[-1≤x.2.2.2.2.2.2],spec:=fun(x,h,_)=>(Jr x h,())}
theorem Kqy:Ok Tryz.prog 103 Jsb:=okW K36 Tryz.f103 na fun xx=>by
 obtain⟨⟨(n:ByteArray),(f:ByteArray),(t:ByteArray),⟨(a:Int),(b:Int)⟩,(p:Int),(c:Int),(r:Int)⟩,(h:Int),_⟩:=xx
 refine(by kernel_rfl:(Z69≤r→(bif Ko (a,b) h then bif decide (r<0) then true else decide (h<r) else false)=Jr (n,f,t,(a,b),p,c,r) h)=_).mp ?_
 delta Z69
 intro hr
 unfold Jr
 have:(r== -1)=decide (r<0):=by
  by_cases q:r= -1
  ·rw[q];rfl
  ·rw[beq_eq_false_iff_ne.2 q,decide_eq_false (by(first|omega|dsimp only;omega))]
 dsimp only
 rw[this]
abbrev K35:=K36.add Kqy
def K6n:Con:={args:=[Zx,aS,aI],ress:=[I],owns:=[],pre:=fun(r,s,_)=>[Jn r,0≤J0 r.2.2.1 s],spec:=fun((_,_,S,_,_,X,_),s,h,_)=>(Jgu X s h (Ho S s).2.1,())}
abbrev Kdf (tk st:Int) (S:List Sta) (O:List Ord) (M:List Met) (X:List Out) (Q:List Per) (s:ByteArray) (h:Int):Ann:={X:=Nat×Int,σ:=fun(k,n)=>⟨6,[(1, .one (.str s)),(2, .one (.int .i64 h)),(3, .one (.ptr 5 0)),(7, .one (.int .i64 n)),(8, .one (.int .i64 k))],[(0, .imm 114 Fd S),(1, .imm 119 Lf O),(2, .imm 121 Jah M),(3, .imm 123 Zg X),(4, .imm 125 Hm Q),(5, .box 37 [.int .i64 tk, .int .i64 st, .sl 0, .sl 1, .sl 2, .sl 3, .sl 4])]⟩,inv:=fun(k,n)=>k≤X.length∧Jgu (X.drop k) s h n=Jgu X s h (Ho S s).2.1,mu:=fun(k,_)=>X.length-k}
def Kkj (a:Nat×Int) (b:List Out) (c:Bt) (d:Int) (e:List Sta):=a.1≤List.length b∧Jgu (List.drop a.1 b) c d a.2=Jgu b c d (Ho e c).2.1
def Kxd (a:Nat×Int) (b:List Out) (c:Bt) (d:Int) (e:List Sta) (f:Nat×Int):=Kkj a b c d e∧List.length b-a.1<List.length b-f.1
theorem Kq1:Ok Tryz.prog 100 K6n:=okW K35 Tryz.f100 (fun xx=>X8 (Kdf xx.1.1 xx.1.2.1 xx.1.2.2.1 xx.1.2.2.2.1 xx.1.2.2.2.2.1 xx.1.2.2.2.2.2.1 xx.1.2.2.2.2.2.2 xx.2.1 xx.2.2.1)) fun xx=>by
 obtain⟨⟨(tk:Int),(st:Int),(S:List Sta),(O:List Ord),(M:List Met),(X:List Out),(Q:List Per)⟩,(s:ByteArray),(h:Int),_⟩:=xx
 refine(by kernel_rfl:(Jx tk st S O M X Q→Z20 S s→(Z59 S∧Tw (Bd (J0 S s) (Ln S)))∧∃(x:Nat×Int),Sf s (Si h ((Kgm S s).2.1=x.2∧Jyn x S O M X Q tk st))∧Kkj x X s h S∧∀(x:Nat×Int),Kkj x X s h S→Br (decide (Nc x.1<Ln X)) (Tw (Bd (Nc x.1) (Ln X))∧Br (bif bif Lb (J94 X x).1 s then Ko (Kln X x) h else false then decide (J9z X x<x.2) else false) (Z34 x∧∃(y:Nat×Int),Sf s (Si h (J9z X x=y.2∧Jqi x y S O M X Q tk st))∧Kxd y X s h S x) (Z34 x∧∃(y:Nat×Int),Sf s (Si h (x.2=y.2∧Jqi x y S O M X Q tk st))∧Kxd y X s h S x)) (x.2=Jgu X s h (Ho S s).2.1))=_).mp ?_
 delta Z9 Z20 Z34 Z59 Z65 Jsk Jx Jgf Kgm J94 J9z Kln Kkj Jqj Jyn Kxd Jqi Br Iw Bd Tw Sf Si Ln Nc Gt B0 Lb E2
 intro hr hf
 have nS:S.length≤6:=hr.nS
 have nX:X.length≤16:=hr.nX
 have hl:=K6 (l:=S) (s:=s)
 refine⟨⟨by omega,⟨hf,hl⟩,hf,hl⟩,((0:Nat),(Ho S s).2.1),by(repeat' first|exact rfl|exact⟨⟩|apply And.intro|omega|dsimp only;omega),⟨Nat.zero_le _,rfl⟩,fun(x:Nat×Int) hk=>⟨fun h1=> ?_,fun h1=> ?_⟩⟩
 ·obtain⟨k,n⟩:=x
  have hlt:k<X.length:=by simpa using h1
  obtain⟨k1,k2⟩:=hk
  rw[Jz (d:=Jbh) hlt,Jgu] at k2
  have hz:((({data:={toList:=[]}}:ByteArray),({data:={toList:=[]}}:ByteArray),((0:Int),(0:Int)),(0:Int)):Out)=Jbh:=rfl
  dsimp only at k1 k2
  simp only[hz,Prod.eta]
  generalize X.getD k Jbh=y at*
  have hc:(bif bif bif y.2.1.toList==s.toList then Ko y.2.2.1 h else false then decide (y.2.2.2<n) else false then y.2.2.2 else n)=bif Jzv y s h then min n y.2.2.2 else n:=by
   unfold Jzv
   cases bif y.2.1.toList==s.toList then Ko y.2.2.1 h else false
   ·rfl
   ·by_cases q:y.2.2.2<n
    ·simp only[cond_true,decide_eq_true q];omega
    ·simp only[cond_true,decide_eq_false q,cond_false];omega
  refine⟨⟨⟨by omega,by omega⟩,by omega,by omega⟩,fun h2=>⟨⟨by omega,by omega⟩,(k+1,y.2.2.2),by(repeat' first|exact rfl|exact⟨⟩|apply And.intro|omega|dsimp only;omega),⟨by(first|omega|dsimp only;omega), ?_⟩,by(first|omega|dsimp only;omega)⟩,fun h2=>⟨⟨by omega,by omega⟩,(k+1,n),by(repeat' first|exact rfl|exact⟨⟩|apply And.intro|omega|dsimp only;omega),⟨by(first|omega|dsimp only;omega), ?_⟩,by(first|omega|dsimp only;omega)⟩⟩
  all_goals (rw[←hc] at k2;have h2:(bif bif y.2.1.toList==s.toList then Ko y.2.2.1 h else false then decide (y.2.2.2<n) else false)=_:=h2;rw[h2] at k2;exact k2)
 ·obtain⟨k,n⟩:=x
  have hlt:¬k<X.length:=by simpa using h1
  obtain⟨k1,k2⟩:=hk
  have:k=X.length:=by omega
  rw[this,List.drop_length,Jgu] at k2
  exact k2
abbrev K34:=K35.add Kq1
def J0w:Con:={args:=[Zx,aS,aI],ress:=[I],owns:=[],pre:=fun(r,_)=>[Jn r],spec:=fun((_,_,_,O,_),s,h,_)=>(Vc O s h,())}
abbrev Jse (tk st:Int) (S:List Sta) (O:List Ord) (M:List Met) (X:List Out) (Q:List Per) (s:ByteArray) (h:Int):Ann:={X:=Nat×Int,σ:=fun(k,n)=>⟨6,[(1, .one (.str s)),(2, .one (.int .i64 h)),(3, .one (.ptr 5 0)),(7, .one (.int .i64 n)),(8, .one (.int .i64 k))],[(0, .imm 114 Fd S),(1, .imm 119 Lf O),(2, .imm 121 Jah M),(3, .imm 123 Zg X),(4, .imm 125 Hm Q),(5, .box 37 [.int .i64 tk, .int .i64 st, .sl 0, .sl 1, .sl 2, .sl 3, .sl 4])]⟩,inv:=fun(k,n)=>k≤O.length∧(0≤n∧n≤1000*k)∧n+Vc (O.drop k) s h=Vc O s h,mu:=fun(k,_)=>O.length-k}
def Ki7 (a:Nat×Int) (b:List Ord) (c:Bt) (d:Int):=a.1≤List.length b∧(0≤a.2∧a.2≤1000*Nc a.1)∧a.2+Vc (List.drop a.1 b) c d=Vc b c d
def Kvv (a:Nat×Int) (b:List Ord) (c:Bt) (d:Int) (e:Nat×Int):=Ki7 a b c d∧List.length b-a.1<List.length b-e.1
def Kvf (a:List Ord) (b:Nat×Int) (c:Bt):=bif Kkl a b c then true else Kkh a b c
theorem Kq0:Ok Tryz.prog 101 J0w:=okW K34 Tryz.f101 (fun xx=>X8 (Jse xx.1.1 xx.1.2.1 xx.1.2.2.1 xx.1.2.2.2.1 xx.1.2.2.2.2.1 xx.1.2.2.2.2.2.1 xx.1.2.2.2.2.2.2 xx.2.1 xx.2.2.1)) fun xx=>by
 obtain⟨⟨(tk:Int),(st:Int),(S:List Sta),(O:List Ord),(M:List Met),(X:List Out),(Q:List Per)⟩,(s:ByteArray),(h:Int),_⟩:=xx
 refine(by kernel_rfl:(Jx tk st S O M X Q→∃(x:Nat×Int),Sf s (Si h (0=x.2∧Jyn x S O M X Q tk st))∧Ki7 x O s h∧∀(x:Nat×Int),Ki7 x O s h→Br (decide (Nc x.1<Ln O)) (Tw (Bd (Nc x.1) (Ln O))∧(Kvf O x s=true→Z69≤(Kfu O x).2)∧Br (bif Kvf O x s then Khg O x h else false) (Kj5 x O∧Z34 x∧∃(y:Nat×Int),Sf s (Si h (Kj3 x O y∧Jqi x y S O M X Q tk st))∧Kvv y O s h x) (Z34 x∧∃(y:Nat×Int),Sf s (Si h (x.2=y.2∧Jqi x y S O M X Q tk st))∧Kvv y O s h x)) (x.2=Vc O s h))=_).mp ?_
 delta Z34 Z65 Z69 Z73 Jsk Jx Jde Kf5 Kf3 Kf2 Kf1 Kf0 Kfy Kfx Kfv Kfu Kkl Kkh Kkd Kj5 Kj3 Jqj Jyn Ki7 Jqi Kvv Kvf J6z Khg Br Iw Bd Tw Sf Si Ln Nc B0 Lb E2
 intro hr
 have nO:O.length≤32:=hr.nO
 refine⟨((0:Nat),(0:Int)),by(repeat' first|exact rfl|exact⟨⟩|apply And.intro|omega|dsimp only;omega),⟨Nat.zero_le _,by omega,by simp⟩,fun(x:Nat×Int) hk=>⟨fun h1=> ?_,fun h1=> ?_⟩⟩
 ·obtain⟨k,n⟩:=x
  have hlt:k<O.length:=by simpa using h1
  obtain⟨k1,k2,k3⟩:=hk
  have hO:=hr.ord _ (Je (d:=J6) hlt)
  rw[Jz (d:=J6) hlt,Vc] at k3
  have hz:((({data:={toList:=[]}}:ByteArray),({data:={toList:=[]}}:ByteArray),({data:={toList:=[]}}:ByteArray),((0:Int),(0:Int)),(0:Int),(0:Int),(0:Int)):Ord)=J6:=rfl
  dsimp only at k1 k2 k3
  simp only[hz,Prod.eta]
  generalize O.getD k J6=y at*
  have hp:=hO.pow
  have ht:=hO.trip
  refine⟨⟨⟨by omega,by omega⟩,by omega,by omega⟩,fun _=>by omega,fun h2=>⟨⟨by omega,by omega⟩,⟨by omega,by omega⟩,(k+1,n+y.2.2.2.2.1),by(repeat' first|exact rfl|exact⟨⟩|apply And.intro|omega|dsimp only;omega),⟨by(first|omega|dsimp only;omega),by(first|omega|dsimp only;omega), ?_⟩,by(first|omega|dsimp only;omega)⟩,fun h2=>⟨⟨by omega,by omega⟩,(k+1,n),by(repeat' first|exact rfl|exact⟨⟩|apply And.intro|omega|dsimp only;omega),⟨by(first|omega|dsimp only;omega),by(first|omega|dsimp only;omega), ?_⟩,by(first|omega|dsimp only;omega)⟩⟩
  all_goals (have h2:(bif Fu y s then Jr y h else false)=_:=h2;rw[h2] at k3;simp only[cond_true,cond_false] at k3;(first|omega|dsimp only;omega))
 ·obtain⟨k,n⟩:=x
  have hlt:¬k<O.length:=by simpa using h1
  obtain⟨k1,k2,k3⟩:=hk
  have:k=O.length:=by omega
  rw[this,List.drop_length,Vc] at k3
  exact(Int.add_zero n).symm.trans k3
abbrev K33:=K34.add Kq0
def J5r:Con:={args:=[Zx,aS,aI],ress:=[I],owns:=[],pre:=fun(r,s,_)=>[Jn r,0≤J0 r.2.2.1 s],spec:=fun((_,_,S,O,_,X,_),s,h,_)=>(Xo S O X s h,())}
theorem Jwb {S:List Sta} {s:ByteArray} {h:Int}:∀{X:List Out} {n:Int},(∀x∈X,Jok S x)→0≤n∧n≤1000→0≤Jgu X s h n∧Jgu X s h n≤1000
 |[],_,_,hn=>hn
 |x::l,n,hX,hn=>by
  have hx:=(hX x (List.mem_cons_self ..)).rest
  unfold Jgu
  refine Jwb (fun y hy=>hX y (List.mem_cons_of_mem _ hy)) ?_
  cases Jzv x s h<;>simp only[cond_true,cond_false]<;>omega
theorem K5s:Ok Tryz.prog 28 J5r:=okW K33 Tryz.f28 na fun xx=>by
 obtain⟨⟨(tk:Int),(st:Int),(S:List Sta),(O:List Ord),(M:List Met),(X:List Out),(Q:List Per)⟩,(s:ByteArray),(h:Int),_⟩:=xx
 refine(by kernel_rfl:(Jx tk st S O M X Q→Z20 S s→(Jx tk st S O M X Q∧Z20 S s∧Jx tk st S O M X Q∧Iw (Jgu X s h (Ho S s).2.1-Vc O s h))∧Jgu X s h (Ho S s).2.1-Vc O s h=Xo S O X s h)=_).mp ?_
 delta Z20 Z65 Jx Iw
 intro hr hf
 have h1:=Jil hr.sta hf
 have h2:=Jwb (s:=s) (h:=h) hr.out (n:=(Ho S s).2.1) ⟨Int.le_trans (by decide) h1.lim.1,h1.lim.2⟩
 have h3:=Jje (s:=s) (h:=h) hr.ord
 have nO:O.length≤32:=hr.nO
 dsimp only at h2 h3
 exact⟨⟨hr,hf,hr,by omega,by omega⟩,rfl⟩
abbrev K32:=K33.add K5s
def L8 (M:List Met) (s:ByteArray) (h:Int):Met×Bool:=if 0≤Kq M s h then(Jcs M s h,true) else(Jmj,false)
def Krs:Con:={args:=[Zx,aS,aI],ress:=[(true,Jah),Bo],owns:=[],pre:=fun(r,_)=>[Jn r],spec:=fun((_,_,_,_,M,_),s,h,_)=>((L8 M s h).1,(L8 M s h).2,())}
abbrev J6p (tk st:Int) (S:List Sta) (O:List Ord) (M:List Met) (X:List Out) (Q:List Per) (s:ByteArray) (h:Int):Ann:={X:=Nat,σ:=fun k=>⟨7,[(1, .one (.str s)),(2, .one (.int .i64 h)),(3, .one (.ptr 5 0)),(6, .one (.ptr 6 0)),(8, .one (.int .i64 k))],[(0, .imm 114 Fd S),(1, .imm 119 Lf O),(2, .imm 121 Jah M),(3, .imm 123 Zg X),(4, .imm 125 Hm Q),(5, .box 37 [.int .i64 tk, .int .i64 st, .sl 0, .sl 1, .sl 2, .sl 3, .sl 4]),(6, .box 121 [.str Ja, .int .i64 0, .int .i64 0, .int .i64 0])]⟩,inv:=fun k=>k≤M.length∧Kq M s h=Vg (fun x=>bif x.1.toList==s.toList then x.2.1==h else false) (M.drop k) k,mu:=fun k=>M.length-k}
def Kjn (a:Nat) (b:List Met) (c:Bt) (d:Int):=a≤List.length b∧Kq b c d=Vg (fun(x:Met)=>bif Lb x.1 c then x.2.1==d else false) (List.drop a b) a
theorem Kqz:Ok Tryz.prog 102 Krs:=okW K32 Tryz.f102 (fun xx=>X8 (J6p xx.1.1 xx.1.2.1 xx.1.2.2.1 xx.1.2.2.2.1 xx.1.2.2.2.2.1 xx.1.2.2.2.2.2.1 xx.1.2.2.2.2.2.2 xx.2.1 xx.2.2.1)) fun xx=>by
 obtain⟨⟨(tk:Int),(st:Int),(S:List Sta),(O:List Ord),(M:List Met),(X:List Out),(Q:List Per)⟩,(s:ByteArray),(h:Int),_⟩:=xx
 refine(by kernel_rfl:(Jx tk st S O M X Q→∃(x:Nat),Sf s (Si h (0=Nc x∧Sf S (Sf O (Sf M (Sf X (Sf Q (Si tk (Si st (B0=Ja∧Si 0 Z27)))))))))∧Kjn x M s h∧∀(x:Nat),Kjn x M s h→Br (decide (Nc x<Ln M)) (Tw (Bd (Nc x) (Ln M))∧Br (bif Lb (Kgl M x).1 s then(Kgi M x).1==h else false) (Kig M x=(L8 M s h).1∧true=(L8 M s h).2) (Z19 x∧∃(y:Nat),Sf s (Si h (Z95 x y∧Sf S (Sf O (Sf M (Sf X (Sf Q (Si tk (Si st (Sf Ja (Si 0 Z27))))))))))∧Kjn y M s h∧List.length M-y<List.length M-x)) (Jyz=(L8 M s h).1∧false=(L8 M s h).2))=_).mp ?_
 delta Z19 Z27 Z65 Z73 Z95 Jyz Jx Kgl Kgi Kjn Kig Br Iw Bd Tw Sf Si Ln Nc B0 Lb E2
 intro hr
 have nM:M.length≤10000:=hr.nM
 refine⟨(0:Nat),by(repeat' first|exact rfl|exact⟨⟩|apply And.intro|omega|dsimp only;omega),⟨Nat.zero_le _,rfl⟩,fun(k:Nat) hk=>⟨fun h1=> ?_,fun h1=> ?_⟩⟩
 ·have hlt:k<M.length:=by simpa using h1
  obtain⟨k1,k2⟩:=hk
  have hd:=Yc (p:=fun x=>bif x.1.toList==s.toList then x.2.1==h else false) (d:=Jmj) hlt
  have hz:((({data:={toList:=[]}}:ByteArray),(0:Int),(0:Int),(0:Int)):Met)=Jmj:=rfl
  simp only[hz,Prod.eta]
  refine⟨⟨⟨by omega,by omega⟩,by omega,by omega⟩,fun h2=> ?_,fun h2=>⟨⟨by omega,by omega⟩,(k+1:Nat),by(repeat' first|exact rfl|exact⟨⟩|apply And.intro|omega|dsimp only;omega),⟨by omega, ?_⟩,by omega⟩⟩
  ·have h2:(bif (M.getD k Jmj).1.toList==s.toList then(M.getD k Jmj).2.1==h else false)=true:=h2
   have e:Kq M s h=k:=by rw[k2,hd,if_pos h2]
   have e2:L8 M s h=(M.getD k Jmj,true):=by
    unfold L8
    rw[if_pos (by omega)]
    unfold Jcs
    rw[e];rfl
   rw[e2]
   repeat' first|exact rfl|exact⟨⟩|apply And.intro|omega|dsimp only;omega
  ·have h2:(bif (M.getD k Jmj).1.toList==s.toList then(M.getD k Jmj).2.1==h else false)=false:=h2
   rw[k2,hd,if_neg (by rw[h2];simp)]
 ·have hlt:¬k<M.length:=by simpa using h1
  obtain⟨k1,k2⟩:=hk
  have:k=M.length:=by omega
  rw[this,List.drop_length,Vg] at k2
  have e2:L8 M s h=(Jmj,false):=by
   unfold L8
   rw[if_neg (by omega)]
  rw[e2]
  repeat' first|exact rfl|exact⟨⟩|apply And.intro|omega|dsimp only;omega
abbrev K75:=K32.add Kqz
abbrev K31:=K75
def J5v:Con:={args:=[Zx,aI],ress:=[(false, .list 198 J2s)],owns:=[true],pre:=fun(r,_)=>[Jn r],spec:=fun((_,_,_,O,M,_),u,_)=>(Kj M u O,())}
abbrev Jw8 (tk st:Int) (S:List Sta) (O:List Ord) (M:List Met) (X:List Out) (Q:List Per) (u:Int):Nat→Option Ann:=fun id=>if id=0 then some {X:=Nat×List Gap,σ:=fun(k,o)=>⟨7,[(1, .one (.int .i64 u)),(2, .one (.ptr 5 0)),(5, .one (.sl 6)),(6, .one (.int .i64 k))],[(0, .imm 114 Fd S),(1, .imm 119 Lf O),(2, .imm 121 Jah M),(3, .imm 123 Zg X),(4, .imm 125 Hm Q),(5, .box 37 [.int .i64 tk, .int .i64 st, .sl 0, .sl 1, .sl 2, .sl 3, .sl 4]),(6, .own 198 J2s o)]⟩,inv:=fun(k,o)=>k≤O.length∧o.length≤48*k∧o++Kj M u (O.drop k)=Kj M u O,mu:=fun(k,_)=>O.length-k}
 else if id=2 then some {X:=Nat×List Gap×Nat,σ:=fun(k,o,j)=>⟨8,[(1, .one (.int .i64 u)),(2, .one (.ptr 5 0)),(5, .one (.sl 6)),(6, .one (.int .i64 k)),(7, .one (.ptr 7 0)),(8, .one (.int .i64 ((O.getD k J6).2.2.2.1.1+j)))],[(0, .imm 114 Fd S),(1, .imm 119 Lf O),(2, .imm 121 Jah M),(3, .imm 123 Zg X),(4, .imm 125 Hm Q),(5, .box 37 [.int .i64 tk, .int .i64 st, .sl 0, .sl 1, .sl 2, .sl 3, .sl 4]),(6, .own 198 J2s o),(7, .box 119 (bxO (O.getD k J6)))]⟩,inv:=fun(k,o,j)=>k<O.length∧j≤Uo (O.getD k J6)∧o.length≤48*k+j∧o++(L7 M u (O.getD k J6) ((O.getD k J6).2.2.2.1.1+j) (Uo (O.getD k J6)-j)++Kj M u (O.drop (k+1)))=Kj M u O,mu:=fun(k,_,j)=>Uo (O.getD k J6)-j,rel:=some fun x y=>y.1=x.1}
 else none
theorem Kq5 {M:List Met} {s:ByteArray} {h:Int}:(!(L8 M s h).2)=decide (Kq M s h<0):=by
 unfold L8
 by_cases q:0≤Kq M s h
 ·rw[if_pos q,decide_eq_false (by omega)];rfl
 ·rw[if_neg q,decide_eq_true (by omega)];rfl
def Ktz (a:Nat×List (Bt×Int)×Nat) (b:List Ord) (c:List Met) (d:Int) (e:Nat×List (Bt×Int)×Nat) (f:Nat×List Gap×Nat):=(Kd6 a b c d∧a.1=e.1)∧Uo (List.getD b a.1 J6)-a.2.2<Uo (List.getD b f.1 J6)-f.2.2
def Ktr (a:List Ord) (b:Nat×List Gap×Nat) (c:Nat×List (Bt×Int)×Nat):=J7g a b c∧J7e a b c∧J7d a b c∧J7a a b c∧J7c a b c∧J7b a b c∧J69 a b c∧J68 a b c
theorem K5r:Ok Tryz.prog 29 J5v:=okW K31 Tryz.f29 (fun xx=>Jw8 xx.1.1 xx.1.2.1 xx.1.2.2.1 xx.1.2.2.2.1 xx.1.2.2.2.2.1 xx.1.2.2.2.2.2.1 xx.1.2.2.2.2.2.2 xx.2.1) fun xx=>by
 obtain⟨⟨(tk:Int),(st:Int),(S:List Sta),(O:List Ord),(M:List Met),(X:List Out),(Q:List Per)⟩,(u:Int),_⟩:=xx
 refine(by kernel_rfl:(Jx tk st S O M X Q→∃(x:Nat×List (ByteArray×Int)),Si u (0=Nc x.1∧Sf S (Sf O (Sf M (Sf X (Sf Q (Si tk (Si st (List.length x.2=0))))))))∧Kfg x O M u∧∀(x:Nat×List Gap),Kjl x O M u→Br (decide (Nc x.1<Ln O)) (Tw (Bd (Nc x.1) (Ln O))∧∃(x0:Nat×List (ByteArray×Int)×Nat),Si u (Nc x.1=Nc x0.1∧Ki1 O x x0∧Sf S (Sf O (Sf M (Sf X (Sf Q (Si tk (Si st (x.2=x0.2.1∧Kfs O x x0∧Kfp O x x0∧Kfi O x x0∧Kfc O x x0∧Kfd O x x0∧Kfe O x x0∧Kfa O x x0∧Ke8 O x x0))))))))∧(Kd6 x0 O M u∧x0.1=x0.1)∧∀(x_1:Nat×List Gap×Nat),Khq x_1 O M u∧x_1.1=x0.1→Br (Kkz O x_1) (Jx tk st S O M X Q∧(J93 O x_1 u=true→Z69≤(Z76 O x_1).2.2)∧Br (bif bif J93 O x_1 u then Khu O x_1 else false then !(L8 M (Z0 O x_1).1 (Jyu O x_1)).2 else false) (Klw x_1∧J9x O x_1∧∃(y:Nat×List (ByteArray×Int)×Nat),Si u (Nc x_1.1=Nc y.1∧J9o O x_1 y∧Sf S (Sf O (Sf M (Sf X (Sf Q (Si tk (Si st (Kjx x_1 O y∧Ktr O x_1 y))))))))∧Ktz y O M u x0 x_1) (J9x O x_1∧∃(y:Nat×List (ByteArray×Int)×Nat),Si u (Nc x_1.1=Nc y.1∧J9o O x_1 y∧Sf S (Sf O (Sf M (Sf X (Sf Q (Si tk (Si st (x_1.2.1=y.2.1∧Ktr O x_1 y))))))))∧Ktz y O M u x0 x_1)) (Iw (Nc x_1.1+1)∧∃(y:Nat×List (ByteArray×Int)),Si u (Nc x_1.1+1=Nc y.1∧Sf S (Sf O (Sf M (Sf X (Sf Q (Si tk (Si st (x_1.2.1=y.2))))))))∧Kei y O M u x)) (x.2=Kj M u O))=_).mp ?_
 delta Z0 Z6 Z36 Z65 Z69 Z73 Z74 Z76 Z77 Z80 Jx Jyu J7g J7e J7d J93 J9x Jde J7c J7b J7a J69 J68 Klw Klc Kk6 Kk2 Kk1 Kkz Kkx Kkw Kko Kkn J9o Kj2 Kfs Kfp Kjx Kfi Kfg Kjl Kfe Kfd Kfc Kfa Ke8 Ki1 Kei Khu Khq Kd6 Ktz Ktr Br Iw Bd Tw Sf Si Ln Nc B0 E2
 intro hr
 have nO:O.length≤32:=hr.nO
 have hz:((({data:={toList:=[]}}:ByteArray),({data:={toList:=[]}}:ByteArray),({data:={toList:=[]}}:ByteArray),((0:Int),(0:Int)),(0:Int),(0:Int),(0:Int)):Ord)=J6:=rfl
 refine⟨((0:Nat),[]),by(repeat' first|exact rfl|exact⟨⟩|apply And.intro|omega|dsimp only;omega),⟨Nat.zero_le _,Nat.zero_le _,rfl⟩,fun(x:Nat×List Gap) hk=>⟨fun h1=> ?_,fun h1=> ?_⟩⟩
 ·obtain⟨k,o⟩:=x
  have hlt:k<O.length:=by simpa using h1
  obtain⟨k1,k2,k3⟩:=hk
  dsimp only at k1 k2 k3
  rw[Jz (d:=J6) hlt,Kj,Juw] at k3
  simp only[hz,Prod.eta]
  have hO:Jdj S (O.getD k J6):=hr.ord _ (Je (d:=J6) hlt)
  have b0:=hO.span.lo
  have b1:=hO.span.mid
  have b2:=hO.span.hi
  have b3:=hO.span.len
  have bt:=hO.trip
  have hn:Uo (O.getD k J6)≤48∧(Uo (O.getD k J6):Int)=(O.getD k J6).2.2.2.1.2-(O.getD k J6).2.2.2.1.1:=by
   unfold Uo
   constructor<;>omega
  refine⟨⟨⟨by omega,by omega⟩,by omega,by omega⟩,(k,o,(0:Nat)),by(repeat' first|exact rfl|exact⟨⟩|apply And.intro|omega|dsimp only;omega),⟨⟨hlt,Nat.zero_le _,by(first|omega|dsimp only;omega), ?_⟩,by(repeat' first|exact rfl|exact⟨⟩|apply And.intro|omega|dsimp only;omega)⟩,fun(y:Nat×List Gap×Nat) hy=> ?_⟩
  ·dsimp only
   simpa[Uo] using k3
  obtain⟨k',o,j⟩:=y
  obtain⟨⟨i1,i2,i3,i4⟩,hkk⟩:=hy
  have hkk:k'=k:=hkk
  subst hkk
  dsimp only at i1 i2 i3 i4
  refine⟨fun h2=> ?_,fun h2=> ?_⟩
  ·have h2:(O.getD k' J6).2.2.2.1.1+(j:Int)<(O.getD k' J6).2.2.2.1.2:=of_decide_eq_true h2
   have hj:Uo (O.getD k' J6)-j=(Uo (O.getD k' J6)-(j+1))+1:=by omega
   rw[hj,L7] at i4
   have hc:(O.getD k' J6).2.2.2.1.1+(j:Int)+1=(O.getD k' J6).2.2.2.1.1+((j+1:Nat):Int):=by omega
   rw[hc] at i4
   have hcnd:(bif bif decide ((O.getD k' J6).2.2.2.1.1+(j:Int)<u) then Jr (O.getD k' J6) ((O.getD k' J6).2.2.2.1.1+(j:Int)) else false then !(L8 M (O.getD k' J6).1 ((O.getD k' J6).2.2.2.1.1+(j:Int))).2 else false)=(Jr (O.getD k' J6) ((O.getD k' J6).2.2.2.1.1+(j:Int))&&(decide ((O.getD k' J6).2.2.2.1.1+(j:Int)<u)&&decide (Kq M (O.getD k' J6).1 ((O.getD k' J6).2.2.2.1.1+(j:Int))<0))):=by
    rw[Kq5]
    cases decide ((O.getD k' J6).2.2.2.1.1+(j:Int)<u)<;>cases Jr (O.getD k' J6) ((O.getD k' J6).2.2.2.1.1+(j:Int))<;>rfl
   refine⟨hr,fun _=>bt.1,fun h3=>⟨by(first|omega|dsimp only;omega),⟨by(first|omega|dsimp only;omega),by(first|omega|dsimp only;omega)⟩,(k',o++[((O.getD k' J6).1,(O.getD k' J6).2.2.2.1.1+(j:Int))],j+1),by(repeat' first|exact rfl|exact⟨⟩|apply And.intro|omega|dsimp only;omega),⟨⟨hlt,by(first|omega|dsimp only;omega),by(simp only[List.length_append,List.length_singleton];omega), ?_⟩,by(repeat' first|exact rfl|exact⟨⟩|apply And.intro|omega|dsimp only;omega)⟩,by(first|omega|dsimp only;omega)⟩,fun h3=>⟨⟨by(first|omega|dsimp only;omega),by(first|omega|dsimp only;omega)⟩,(k',o,j+1),by(repeat' first|exact rfl|exact⟨⟩|apply And.intro|omega|dsimp only;omega),⟨⟨hlt,by(first|omega|dsimp only;omega),by(first|omega|dsimp only;omega), ?_⟩,by(repeat' first|exact rfl|exact⟨⟩|apply And.intro|omega|dsimp only;omega)⟩,by(first|omega|dsimp only;omega)⟩⟩
   all_goals (have h3:(bif bif decide ((O.getD k' J6).2.2.2.1.1+(j:Int)<u) then Jr (O.getD k' J6) ((O.getD k' J6).2.2.2.1.1+(j:Int)) else false then !(L8 M (O.getD k' J6).1 ((O.getD k' J6).2.2.2.1.1+(j:Int))).2 else false)=_:=h3;rw[hcnd] at h3;rw[h3] at i4;simpa using i4)
  ·have h2:¬(O.getD k' J6).2.2.2.1.1+(j:Int)<(O.getD k' J6).2.2.2.1.2:=of_decide_eq_false h2
   have hj:Uo (O.getD k' J6)-j=0:=by omega
   rw[hj,L7] at i4
   exact⟨⟨by(first|omega|dsimp only;omega),by(first|omega|dsimp only;omega)⟩,(k'+1,o),by(repeat' first|exact rfl|exact⟨⟩|apply And.intro|omega|dsimp only;omega),⟨by(first|omega|dsimp only;omega),by(first|omega|dsimp only;omega),by simpa using i4⟩,by(first|omega|dsimp only;omega)⟩
 ·obtain⟨k,o⟩:=x
  have hlt:¬k<O.length:=by simpa using h1
  obtain⟨k1,k2,k3⟩:=hk
  dsimp only at k1 k2 k3
  have:k=O.length:=by omega
  rw[this,List.drop_length,Kj,List.append_nil] at k3
  exact k3
abbrev K74:=K31.add K5r
abbrev K73:=K74
abbrev K72:=K73
abbrev K71:=K72
def Jwt:Jon:=(Ja,0,0,0,0,0)
abbrev K70:=K71
theorem Jjn {α β:Type} {f:α→β} {d:α} {d':β}:∀{l:List α} {k:Nat},k<l.length→(l.map f).getD k d'=f (l.getD k d)
 |[],_,h=>by cases h
 |x::l,0,_=>rfl
 |x::l,k+1,h=>by
  rw[List.map_cons,List.getD_cons_succ,List.getD_cons_succ]
  exact Jjn (by simpa using h)
abbrev K7z:=K70
abbrev K7y:=K7z
abbrev sH3:Sch:= .prod sI (.prod sI sI)
abbrev H3:=Int×Int×Int
def Jr1 (M:List Met) (h:Int) (x:Ord) (a:H3):H3:=bif Jr x h then(a.1+(Jcs M x.1 h).2.2.1,a.2.1+(Jcs M x.1 h).2.2.2,a.2.2+((Jcs M x.1 h).2.2.2*x.2.2.2.2.2.1-3*(x.2.2.2.2.1-(Jcs M x.1 h).2.2.2))) else a
def Jdb (M:List Met) (h:Int):List Ord→H3→H3
 |[],a=>a
 |x::l,a=>Jdb M h l (Jr1 M h x a)
abbrev K7x:=K7y
def Jto:List Jon→Int×Int→Int×Int
 |[],a=>a
 |b::l,(s,g)=>Jto l (s+b.2.2.1,g+b.2.2.2.1)
def Kbi (st:Int) (O:List Ord) (M:List Met):(Int×Int)×Int:=if(Jto (O.map (Uf st M)) (0,0)).1=0 then((0,0),6) else(J20 ((Jto (O.map (Uf st M)) (0,0)).1-(Jto (O.map (Uf st M)) (0,0)).2) (Jto (O.map (Uf st M)) (0,0)).1,0)
abbrev K30:=K7x
def Dj (l:List Ev) (h:Int):Int:=Jh [opE l [],Kh h 0 999999999,bif decide ((Ji l).2.1≤h) then 22 else 0]
def D5 (l:List Ev) (h:Int):H3:=if Dj l h=0 then Jdb (Ji l).2.2.2.2.1 h (Ji l).2.2.2.1 (0,0,0) else(0,0,0)
def J50:Con:={args:=[.val false (.list 67 sEv),aI],ress:=[(true,sH3),I],owns:=[],pre:=fun(l,_)=>[lOk l],spec:=fun(l,h,_)=>(D5 l h,Dj l h,())}
abbrev imR (r:Reg) (i:Nat):List (Nat×Res):=[(i, .imm 127 Fd r.2.2.1),(i+1, .imm 130 Lf r.2.2.2.1),(i+2, .imm 155 Jah r.2.2.2.2.1),(i+3, .imm 188 Zg r.2.2.2.2.2.1),(i+4, .imm 235 Hm r.2.2.2.2.2.2)]
abbrev bxR (r:Reg) (i:Nat):Res:= .box 105 [.int .i64 r.1, .int .i64 r.2.1, .sl i, .sl (i+1), .sl (i+2), .sl (i+3), .sl (i+4)]
abbrev J6r (l:List Ev) (h:Int):Ann:={X:=Nat×H3,σ:=fun(k,a,b,c)=>⟨9,[(1, .one (.int .i64 h)),(4, .one (.ptr 1 0)),(6, .one (.ptr 7 0)),(9, .one (.ptr 8 0)),(33, .one (.sl 3)),(34, .one (.int .i64 (Ji l).2.2.2.1.length)),(35, .one (.int .i64 k))],(1, .box 25 [.int .i64 0, .int .i64 0, .int .i64 0])::(7,bxR (Ji l) 2)::(8, .box 25 [.int .i64 a, .int .i64 b, .int .i64 c])::imR (Ji l) 2⟩,inv:=fun(k,a,b,c)=>Dj l h=0∧k≤(Ji l).2.2.2.1.length∧(0≤a∧a≤1000*k)∧(0≤b∧b≤1000*k)∧(-2000000*k≤c∧c≤2000000*k)∧Jdb (Ji l).2.2.2.2.1 h ((Ji l).2.2.2.1.drop k) (a,b,c)=D5 l h,mu:=fun(k,_)=>(Ji l).2.2.2.1.length-k}
theorem J5i {a b c:Int} (h:Jh [a,b,c]=0):a=0∧b=0∧c=0:=by
 have h:=Ua.1 h
 exact⟨h a (by simp),h b (by simp),h c (by simp)⟩
def Z24 (a:List Ev):=Ln (Ji a).2.2.2.1
def Jxr (a:List Ev):=(Ji a).2.2.1=(Ji a).2.2.1
def Jxq (a:List Ev):=(Ji a).2.2.2.1=(Ji a).2.2.2.1
def Jxp (a:List Ev):=(Ji a).2.2.2.2.1=(Ji a).2.2.2.2.1
def Jxo (a:List Ev):=(Ji a).2.2.2.2.2.2=(Ji a).2.2.2.2.2.2
def Jxn (a:List Ev):=(Ji a).2.2.2.2.2.1=(Ji a).2.2.2.2.2.1
def K0l (a:List Ev) (b:Nat×H3):=List.getD (Ji a).2.2.2.1 b.1 Jde
def K0h (a:List Ev) (b:Nat×H3):=(K0l a b).2
def K0e (a:List Ev) (b:Nat×H3):=(K0l a b).1
def K0c (a:List Ev) (b:Nat×H3):=(K0h a b).2
def Kz9 (a:List Ev) (b:Nat×H3):=(K0c a b).2
def Kz8 (a:List Ev) (b:Nat×H3):=(Kz9 a b).2
def Kz4 (a:List Ev) (b:Nat×H3):=(Kz8 a b).2
def Kz2 (a:List Ev) (b:Nat×H3):=(Kz8 a b).1
def Kxv (a:List Ev) (b:Nat×H3) (c:Int):=Kq (Ji a).2.2.2.2.1 (K0e a b) c
def Kxp (a:List Ev) (b:Int):=Jh [Z10 a,Z71 b,bif decide ((Ji a).2.1≤b) then 22 else 0]
def Kvr (a:List Ev) (b:Nat×H3) (c:Int):=(Gt (Ji a).2.2.2.2.1 (Kxv a b c) Jyz).2.2
def Kia (a:List Ev) (b:Nat×H3) (c:Int):=(Kvr a b c).2
def Kvl (a:Nat×H3) (b:List Ev) (c:Int):=a.2.1+(Kvr b a c).1
def Kvh (a:Nat×H3) (b:List Ev) (c:Int):=a.2.2.1+Kia b a c
def Kh5 (a:List Ev):=Jxr a∧Jxq a∧Jxp a∧Jxn a∧Jxo a
def Kuu (a:List Ev) (b:Nat×H3) (c:Int):=Kz2 a b-Kia a b c
def Kus (a:List Ev) (b:Nat×H3) (c:Int):=Kia a b c*(Kz4 a b).1
def Kuo (a:List Ev) (b:Nat×H3) (c:Int):=3*Kuu a b c
def Kui (a:List Ev) (b:Int) (c:Nat) (d e f:Int):=Dj a b=0∧c≤List.length (Ji a).2.2.2.1∧Kai d c∧Kai e c∧((-2000000)*Nc c≤f∧f≤2000000*Nc c)∧Jdb (Ji a).2.2.2.2.1 b (List.drop c (Ji a).2.2.2.1) (d,e,f)=D5 a b
def Kt5 (a:Nat×Int×Int×Int) (b:List Ev) (c:Int):=match a with|(k,a,b_1,c_1)=>Kui b c k a b_1 c_1
def Ktw (a:Nat×Int×Int×Int) (b:List Ev) (c:Int) (d:Nat×H3):=Kt5 a b c∧List.length (Ji b).2.2.2.1-a.1<List.length (Ji b).2.2.2.1-d.1
def Ktj (a:List Ev) (b:Nat×H3) (c:Int):=Kus a b c-Kuo a b c
def Kti (a:Nat×H3) (b:List Ev) (c:Int):=a.2.2.2+Ktj b a c
theorem K50:Ok Tryz.prog 15 J50:=okW K30 Tryz.f15 (fun xx=>X8 (J6r xx.1 xx.2.1)) fun xx=>by
 obtain⟨(l:List Ev),(h:Int),_⟩:=xx
 refine(by kernel_rfl:(lOk l→J36 l∧3≤1000000∧Br (Kxp l h !=0) (Z73=D5 l h∧Kxp l h=Dj l h) (∃(x:Nat×Int×Int×Int),Si h (Z24 l=Z24 l∧0=Nc x.1∧Si 0 (Si 0 (Si 0 ((Ji l).1=(Ji l).1∧(Ji l).2.1=(Ji l).2.1∧0=x.2.1∧0=x.2.2.1∧0=x.2.2.2∧Kh5 l))))∧Kt5 x l h∧∀(x:Nat×H3),(match x with|(k,a,b,c)=>Kui l h k a b c)→Br (decide (Nc x.1<Z24 l)) (Tw (Bd (Nc x.1) (Z24 l))∧Br (Jr (K0e l x,(K0h l x).1,(K0c l x).1,E2 (Kz9 l x).1,Kz2 l x,E2 (Kz4 l x)) h) ((Jxk l∧Tw (Bd (Kxv l x h) (Ln (Ji l).2.2.2.2.1)))∧Iw (Kvl x l h)∧Iw (Kvh x l h)∧(Iw (Kus l x h)∧Iw (Kuu l x h)∧Iw (Kuo l x h)∧Iw (Ktj l x h)∧Iw (Kti x l h))∧Iw (Nc x.1+1)∧∃(y:Nat×Int×Int×Int),Si h (Si (Z24 l) (Nc x.1+1=Nc y.1∧Si 0 (Si 0 (Si 0 (Si (Ji l).1 (Si (Ji l).2.1 (Kvl x l h=y.2.1∧Kvh x l h=y.2.2.1∧Kti x l h=y.2.2.2∧Kh5 l)))))))∧Ktw y l h x) (Iw (Nc x.1+1)∧∃(y:Nat×Int×Int×Int),Si h (Si (Z24 l) (Nc x.1+1=Nc y.1∧Si 0 (Si 0 (Si 0 (Si (Ji l).1 (Si (Ji l).2.1 (x.2.1=y.2.1∧x.2.2.1=y.2.2.1∧x.2.2.2=y.2.2.2∧Kh5 l)))))))∧Ktw y l h x)) ((x.2.1,E2 x.2.2)=D5 l h∧0=Dj l h)))=_).mp ?_
 delta Z10 Z24 Z71 Z73 J36 Jxr Jyz Jxq Jxp Jxo Jxn Kai Jde K0l K0h K0e K0c Kz9 Kz8 Kz4 Kz2 J1n Kxv Kxp Jxk Kvr Kia Kvl Kvh Kh5 Kuu Kus Kuo Kui Kt5 Ktw Ktj Kti Br Iw Bd Tw Si Ln Nc Gt B0 E2
 intro hl
 refine⟨⟨hl,by decide⟩,by decide,fun e=> ?_,fun e=> ?_⟩
 ·have e:Dj l h≠0:=bne_iff_ne.1 e
  exact⟨by unfold D5;rw[if_neg e],rfl⟩
 ·have e0:Dj l h=0:=bne_eq_false_iff_eq.1 e
  clear e
  have hr:=Zj (l:=l)
  have nO:=hr.nO
  have hst:h<(Ji l).2.1:=by
   have:=(J5i e0).2.2
   by_cases q:(Ji l).2.1≤h
   ·rw[decide_eq_true q] at this;cases this
   ·omega
  refine⟨((0:Nat),0,0,0),by(repeat' first|exact rfl|exact⟨⟩|apply And.intro|omega|dsimp only;omega),⟨e0,Nat.zero_le _,by omega,by omega,by omega,by unfold D5;rw[if_pos e0];rfl⟩,fun(x:Nat×H3) hk=>⟨fun h1=> ?_,fun h1=> ?_⟩⟩
  ·obtain⟨k,a,b,c⟩:=x
   have hlt:k<(Ji l).2.2.2.1.length:=by simpa using h1
   obtain⟨_,k1,k2,k3,k4,k5⟩:=hk
   generalize Ji l=r at*
   obtain⟨tk,st,S,O,M,X,Q⟩:=r
   have hlt:k<O.length:=hlt
   have hst:h<st:=hst
   have nO:O.length≤32:=nO
   have hx:=Je (d:=J6) hlt
   have k5:Jdb M h (O.drop k) (a,b,c)=D5 l h:=k5
   rw[Jz (d:=J6) hlt,Jdb] at k5
   have hz:((({data:={toList:=[]}}:ByteArray),({data:={toList:=[]}}:ByteArray),({data:={toList:=[]}}:ByteArray),((0:Int),(0:Int)),(0:Int),(0:Int),(0:Int)):Ord)=J6:=rfl
   have hzm:((({data:={toList:=[]}}:ByteArray),(0:Int),(0:Int),(0:Int)):Met)=Jmj:=rfl
   simp only[hz,hzm,Prod.eta]
   have hO:Jdj S (O.getD k J6):=hr.ord _ hx
   have hd:∀h,Jr (O.getD k J6) h=true→h<st→0≤Kq M (O.getD k J6).1 h:=hr.done _ hx
   generalize O.getD k J6=y at*
   unfold Jr1 at k5
   have bp:=hO.pow
   have bc:=hO.pri
   have em:M.getD (Kq M y.1 h).toNat Jmj=Jcs M y.1 h:=rfl
   simp only[em]
   refine⟨by(repeat' first|apply And.intro|omega),fun hq=> ?_,fun hq=> ?_⟩
   ·rw[hq,cond_true] at k5
    have hm:=hd _ hq hst
    have hl:=Jav (l:=M) (s:=y.1) (h:=h)
    have hM:Jx7 (Jcs M y.1 h):=hr.met _ (Je (show _<M.length by omega))
    have m1:=hM.sent
    have m2:=hM.got
    have q1:0≤(Jcs M y.1 h).2.2.2*y.2.2.2.2.2.1:=Int.mul_nonneg m2.1 bc.1
    have q2:(Jcs M y.1 h).2.2.2*y.2.2.2.2.2.1≤1000*1000:=Int.mul_le_mul (by omega) bc.2 bc.1 (by decide)
    exact⟨⟨hr,by(repeat' first|apply And.intro|omega),by(repeat' first|apply And.intro|omega)⟩,by(repeat' first|apply And.intro|omega),by(repeat' first|apply And.intro|omega),by(repeat' first|apply And.intro|omega),by(repeat' first|apply And.intro|omega),(k+1,a+(Jcs M y.1 h).2.2.1,b+(Jcs M y.1 h).2.2.2,c+((Jcs M y.1 h).2.2.2*y.2.2.2.2.2.1-3*(y.2.2.2.2.1-(Jcs M y.1 h).2.2.2))),by(repeat' first|exact rfl|exact⟨⟩|apply And.intro|omega|dsimp only;omega),⟨e0,by(first|omega|dsimp only;omega),by(first|omega|dsimp only;omega),by(first|omega|dsimp only;omega),by(first|omega|dsimp only;omega),k5⟩,by(first|omega|dsimp only;omega)⟩
   ·rw[hq,cond_false] at k5
    exact⟨by(repeat' first|apply And.intro|omega),(k+1,a,b,c),by(repeat' first|exact rfl|exact⟨⟩|apply And.intro|omega|dsimp only;omega),⟨e0,by(first|omega|dsimp only;omega),by(first|omega|dsimp only;omega),by(first|omega|dsimp only;omega),by(first|omega|dsimp only;omega),k5⟩,by(first|omega|dsimp only;omega)⟩
  ·obtain⟨k,a,b,c⟩:=x
   have hlt:¬k<(Ji l).2.2.2.1.length:=by simpa using h1
   obtain⟨_,k1,k2,k3,k4,k5⟩:=hk
   have:k=(Ji l).2.2.2.1.length:=by omega
   rw[this,List.drop_length,Jdb] at k5
   exact⟨k5,e0.symm⟩
abbrev K3z:=K30.add K50
def cAb (pre:Reg→Ev→List Prop) (f:Reg→Ev→ByteArray→Bool):Con:={args:=[Jbj,aEv,aS],ress:=[Bo],owns:=[],pre:=fun(r,e,_)=>pre r e,spec:=fun(r,e,s,_)=>(f r e s,())}
def Kc0:Con:=cAb (fun _ _=>[]) (fun _ _ _=>true)
theorem Kp0:Ok Tryz.prog 150 Kc0:=okW K3z Tryz.f150 na fun xx=>by
 obtain⟨⟨(tk:Int),(st:Int),(S:List Sta),(O:List Ord),(M:List Met),(X:List Out),(Q:List Per)⟩,⟨(n:Int),(k:ByteArray),(ns:List ByteArray),(vs:List Int),(tx:ByteArray)⟩,(s:ByteArray),_⟩:=xx
 refine(by kernel_rfl:(true=true)=_).mp ?_
 rfl
abbrev K3y:=K3z.add Kp0
def abO (O:List Ord) (ns:List ByteArray) (s:ByteArray):Bool:=Fu (Yu O (ns.getD 0 Ja)) s
def K6t:Con:={args:=[Jbj,aEv,aS],ress:=[Bo],owns:=[],pre:=fun(r,e,_)=>[Jn r,1≤e.2.2.1.length,0≤Kp r.2.2.2.1 (e.2.2.1.getD 0 Ja)],spec:=fun((tk,st,S,O,M,X,Q),(n,k,ns,vs,tx),s,_)=>(abO O ns s,())}
theorem Kpu:Ok Tryz.prog 156 K6t:=okW K3y Tryz.f156 na fun xx=>by
 obtain⟨⟨(tk:Int),(st:Int),(S:List Sta),(O:List Ord),(M:List Met),(X:List Out),(Q:List Per)⟩,⟨(n:Int),(k:ByteArray),(ns:List ByteArray),(vs:List Int),(tx:ByteArray)⟩,(s:ByteArray),_⟩:=xx
 refine(by kernel_rfl:(Jx tk st S O M X Q→Y1 ns→Js5 O ns→Kjv ns O∧Fu (Khs O ns) s=abO O ns s)=_).mp ?_
 delta Z43 Z65 Z91 Z99 L1 Y1 Jx J7l Jqt Kaj Kaf J7h Js5 Kjv Khs Bd T2 Ln B0 E2
 intro hr h1 h2
 have nO:O.length≤32:=hr.nO
 repeat' first|assumption|exact rfl|trivial|omega|exact K6|exact Uu|exact Ut|exact U0|apply And.intro|intro _
abbrev K3x:=K3y.add Kpu
def abX (X:List Out) (ns:List ByteArray) (s:ByteArray):Bool:=(L5 X (ns.getD 0 Ja)).2.1.toList==s.toList
def K6r:Con:={args:=[Jbj,aEv,aS],ress:=[Bo],owns:=[],pre:=fun(r,e,_)=>[Jn r,1≤e.2.2.1.length,0≤J7 r.2.2.2.2.2.1 (e.2.2.1.getD 0 Ja)],spec:=fun((tk,st,S,O,M,X,Q),(n,k,ns,vs,tx),s,_)=>(abX X ns s,())}
theorem Kpn:Ok Tryz.prog 163 K6r:=okW K3x Tryz.f163 na fun xx=>by
 obtain⟨⟨(tk:Int),(st:Int),(S:List Sta),(O:List Ord),(M:List Met),(X:List Out),(Q:List Per)⟩,⟨(n:Int),(k:ByteArray),(ns:List ByteArray),(vs:List Int),(tx:ByteArray)⟩,(s:ByteArray),_⟩:=xx
 refine(by kernel_rfl:(Jx tk st S O M X Q→Y1 ns→J1r X ns→Kjw ns X∧Lb (Kap X ns).2.1 s=abX X ns s)=_).mp ?_
 delta Z58 Z65 Z91 Z99 L1 Y1 Jx Kap Js7 J1r Kjw Bd T2 Ln B0 Lb
 intro hr h1 h2
 have nX:X.length≤16:=hr.nX
 repeat' first|assumption|exact rfl|trivial|omega|exact K6|exact Uu|exact Ut|exact U0|apply And.intro|intro _
abbrev K3w:=K3x.add Kpn
def abP (X:List Out) (Q:List Per) (ns:List ByteArray) (s:ByteArray):Bool:=(L5 X (Jmi Q (ns.getD 0 Ja)).2.1).2.1.toList==s.toList
def K6s:Con:={args:=[Jbj,aEv,aS],ress:=[Bo],owns:=[],pre:=fun(r,e,_)=>[Jn r,1≤e.2.2.1.length,0≤U2 r.2.2.2.2.2.2 (e.2.2.1.getD 0 Ja)],spec:=fun((tk,st,S,O,M,X,Q),(n,k,ns,vs,tx),s,_)=>(abP X Q ns s,())}
theorem Jzu {Q:List Per} {s:ByteArray} (h:0≤U2 Q s):Jmi Q s∈Q:=by
 have:=U0 (l:=Q) (s:=s)
 exact Je (by omega)
theorem Kpi:Ok Tryz.prog 168 K6s:=okW K3w Tryz.f168 na fun xx=>by
 obtain⟨⟨(tk:Int),(st:Int),(S:List Sta),(O:List Ord),(M:List Met),(X:List Out),(Q:List Per)⟩,⟨(n:Int),(k:ByteArray),(ns:List ByteArray),(vs:List Int),(tx:ByteArray)⟩,(s:ByteArray),_⟩:=xx
 refine(by kernel_rfl:(Jx tk st S O M X Q→Y1 ns→J1s Q ns→T2 (Z99 ns) (Z50 Q∧0≤Jsi Q ns∧Z58 X∧0≤J7 X (Jmi Q (Z91 ns)).2.1)∧Lb (L5 X (Jmi Q (Z91 ns)).2.1).2.1 s=abP X Q ns s)=_).mp ?_
 delta Z50 Z58 Z65 Z91 Z99 L1 Y1 Jx Jsi J1s Bd T2 Ln B0 Lb
 intro hr h1 h2
 have nX:X.length≤16:=hr.nX
 have nQ:Q.length≤16:=hr.nQ
 have h3:0≤J7 X (Jmi Q (ns.getD 0 Ja)).2.1:=hr.per _ (Jzu h2)
 repeat' first|assumption|exact rfl|trivial|omega|exact K6|exact Uu|exact Ut|exact U0|apply And.intro|intro _
abbrev Jqx:=K3w.add Kpi
def abS (r:Reg) (e:Ev) (s:ByteArray):Bool:=match(Jj e.2.1).2.2.2.2 with
 |some 150=>true
 |some 156=>abO r.2.2.2.1 e.2.2.1 s
 |some 163=>abX r.2.2.2.2.2.1 e.2.2.1 s
 |some 168=>abP r.2.2.2.2.2.1 r.2.2.2.2.2.2 e.2.2.1 s
 |_=>false
structure Jgy (r:Reg) (e:Ev):Prop where
 kind:Ym e.2.1=true
 ord:(Jj e.2.1).2.2.2.2=some 156→1≤e.2.2.1.length∧0≤Kp r.2.2.2.1 (e.2.2.1.getD 0 Ja)
 out:(Jj e.2.1).2.2.2.2=some 163→1≤e.2.2.1.length∧0≤J7 r.2.2.2.2.2.1 (e.2.2.1.getD 0 Ja)
 per:(Jj e.2.1).2.2.2.2=some 168→1≤e.2.2.1.length∧0≤U2 r.2.2.2.2.2.2 (e.2.2.1.getD 0 Ja)
def Xf:Con:={args:=[aEv, .ref 105 Jj7, .ref 9 .str],ress:=[Bo],owns:=[],pre:=fun(e,r,_)=>[Jn r,Jgy r e],spec:=fun(e,r,s,_)=>(abS r e s,())}
def Z39:=false=true→False
theorem Jte (n:Int) (ns:List ByteArray) (vs:List Int) (tx:ByteArray) (tk st:Int) (S:List Sta) (O:List Ord) (M:List Met) (X:List Out) (Q:List Per) (s:ByteArray):wpF Tryz.prog Jqx.g (na ()) Tryz.f79 Xf ((n,Jp,ns,vs,tx),(tk,st,S,O,M,X,Q),s,()):=by
 refine(by kernel_rfl:(Jx tk st S O M X Q→Jgy (Z65 tk st S O M X Q) (Z2 n ns vs tx)→Z39∧false=abS (Z65 tk st S O M X Q) (Z2 n ns vs tx) s)=_).mp ?_
 delta Z2 Z39 Z65 Jx Jp
 intro hr ha
 have e:abS (tk,st,S,O,M,X,Q) (n,Jp,ns,vs,tx) s=false:=by unfold abS;rw[show(Jj Jp).2.2.2.2=_ from congrArg (fun x=>x.2.2.2.2) F6];all_goals rfl
 rw[e]
 repeat' first|exact hr|exact h.1|exact h.2|exact rfl|apply And.intro|intro _
 all_goals first|trivial|assumption|contradiction
theorem Jkb (n:Int) (ns:List ByteArray) (vs:List Int) (tx:ByteArray) (tk st:Int) (S:List Sta) (O:List Ord) (M:List Met) (X:List Out) (Q:List Per) (s:ByteArray):wpF Tryz.prog Jqx.g (na ()) Tryz.f79 Xf ((n,Ju,ns,vs,tx),(tk,st,S,O,M,X,Q),s,()):=by
 refine(by kernel_rfl:(Jx tk st S O M X Q→Jgy (Z65 tk st S O M X Q) (Z25 n ns vs tx)→true=abS (Z65 tk st S O M X Q) (Z25 n ns vs tx) s)=_).mp ?_
 delta Z25 Z65 Jx Ju
 intro hr ha
 have e:abS (tk,st,S,O,M,X,Q) (n,Ju,ns,vs,tx) s=true:=by unfold abS;rw[show(Jj Ju).2.2.2.2=_ from congrArg (fun x=>x.2.2.2.2) K2];all_goals rfl
 rw[e]
 repeat' first|exact hr|exact h.1|exact h.2|exact rfl|apply And.intro|intro _
 all_goals first|trivial|assumption|contradiction
theorem Jqz (n:Int) (ns:List ByteArray) (vs:List Int) (tx:ByteArray) (tk st:Int) (S:List Sta) (O:List Ord) (M:List Met) (X:List Out) (Q:List Per) (s:ByteArray):wpF Tryz.prog Jqx.g (na ()) Tryz.f79 Xf ((n,Ub,ns,vs,tx),(tk,st,S,O,M,X,Q),s,()):=by
 refine(by kernel_rfl:(Jx tk st S O M X Q→Jgy (Z65 tk st S O M X Q) (Z7 n ns vs tx)→true=abS (Z65 tk st S O M X Q) (Z7 n ns vs tx) s)=_).mp ?_
 delta Z7 Z65 Jx Ub
 intro hr ha
 have e:abS (tk,st,S,O,M,X,Q) (n,Ub,ns,vs,tx) s=true:=by unfold abS;rw[show(Jj Ub).2.2.2.2=_ from congrArg (fun x=>x.2.2.2.2) U7];all_goals rfl
 rw[e]
 repeat' first|exact hr|exact h.1|exact h.2|exact rfl|apply And.intro|intro _
 all_goals first|trivial|assumption|contradiction
def Jyr (a:Ls):=true=true→Y1 a
def J9a (a b:Int) (c:List Sta) (d:List Ord) (e:List Met) (f:List Out) (g:List Per) (h:Ls):=(true=true→Jx a b c d e f g)∧Jyr h∧(true=true→Js5 d h)
theorem Jq0 (n:Int) (ns:List ByteArray) (vs:List Int) (tx:ByteArray) (tk st:Int) (S:List Sta) (O:List Ord) (M:List Met) (X:List Out) (Q:List Per) (s:ByteArray):wpF Tryz.prog Jqx.g (na ()) Tryz.f79 Xf ((n,Kl,ns,vs,tx),(tk,st,S,O,M,X,Q),s,()):=by
 refine(by kernel_rfl:(Jx tk st S O M X Q→Jgy (Z65 tk st S O M X Q) (Z11 n ns vs tx)→J9a tk st S O M X Q ns∧(bif true then abO O ns s else false)=abS (Z65 tk st S O M X Q) (Z11 n ns vs tx) s)=_).mp ?_
 delta Z11 Z65 L1 Y1 Jx Jyr Js5 J9a Kl
 intro hr ha
 have e:abS (tk,st,S,O,M,X,Q) (n,Kl,ns,vs,tx) s=abO O ns s:=by unfold abS;rw[show(Jj Kl).2.2.2.2=_ from congrArg (fun x=>x.2.2.2.2) Un];all_goals rfl
 have h:=ha.ord (congrArg (fun x=>x.2.2.2.2) Un)
 rw[e]
 repeat' first|exact hr|exact h.1|exact h.2|exact rfl|apply And.intro|intro _
 all_goals first|trivial|assumption|contradiction
theorem Jq1 (n:Int) (ns:List ByteArray) (vs:List Int) (tx:ByteArray) (tk st:Int) (S:List Sta) (O:List Ord) (M:List Met) (X:List Out) (Q:List Per) (s:ByteArray):wpF Tryz.prog Jqx.g (na ()) Tryz.f79 Xf ((n,K7,ns,vs,tx),(tk,st,S,O,M,X,Q),s,()):=by
 refine(by kernel_rfl:(Jx tk st S O M X Q→Jgy (Z65 tk st S O M X Q) (Z12 n ns vs tx)→J9a tk st S O M X Q ns∧(bif true then abO O ns s else false)=abS (Z65 tk st S O M X Q) (Z12 n ns vs tx) s)=_).mp ?_
 delta Z12 Z65 L1 Y1 Jx Jyr Js5 J9a K7
 intro hr ha
 have e:abS (tk,st,S,O,M,X,Q) (n,K7,ns,vs,tx) s=abO O ns s:=by unfold abS;rw[show(Jj K7).2.2.2.2=_ from congrArg (fun x=>x.2.2.2.2) Ud];all_goals rfl
 have h:=ha.ord (congrArg (fun x=>x.2.2.2.2) Ud)
 rw[e]
 repeat' first|exact hr|exact h.1|exact h.2|exact rfl|apply And.intro|intro _
 all_goals first|trivial|assumption|contradiction
theorem Jtf (n:Int) (ns:List ByteArray) (vs:List Int) (tx:ByteArray) (tk st:Int) (S:List Sta) (O:List Ord) (M:List Met) (X:List Out) (Q:List Per) (s:ByteArray):wpF Tryz.prog Jqx.g (na ()) Tryz.f79 Xf ((n,Vp,ns,vs,tx),(tk,st,S,O,M,X,Q),s,()):=by
 refine(by kernel_rfl:(Jx tk st S O M X Q→Jgy (Z65 tk st S O M X Q) (Z3 n ns vs tx)→J9a tk st S O M X Q ns∧(bif true then abO O ns s else false)=abS (Z65 tk st S O M X Q) (Z3 n ns vs tx) s)=_).mp ?_
 delta Z3 Z65 L1 Y1 Jx Jyr Js5 J9a Vp
 intro hr ha
 have e:abS (tk,st,S,O,M,X,Q) (n,Vp,ns,vs,tx) s=abO O ns s:=by unfold abS;rw[show(Jj Vp).2.2.2.2=_ from congrArg (fun x=>x.2.2.2.2) Vd];all_goals rfl
 have h:=ha.ord (congrArg (fun x=>x.2.2.2.2) Vd)
 rw[e]
 repeat' first|exact hr|exact h.1|exact h.2|exact rfl|apply And.intro|intro _
 all_goals first|trivial|assumption|contradiction
def Kic (a b:Int) (c:List Sta) (d:List Ord) (e:List Met) (f:List Out) (g:List Per) (h:Ls):=(true=true→Jx a b c d e f g)∧Jyr h∧(true=true→J1r f h)
theorem Jmq (n:Int) (ns:List ByteArray) (vs:List Int) (tx:ByteArray) (tk st:Int) (S:List Sta) (O:List Ord) (M:List Met) (X:List Out) (Q:List Per) (s:ByteArray):wpF Tryz.prog Jqx.g (na ()) Tryz.f79 Xf ((n,Jv,ns,vs,tx),(tk,st,S,O,M,X,Q),s,()):=by
 refine(by kernel_rfl:(Jx tk st S O M X Q→Jgy (Z65 tk st S O M X Q) (Z21 n ns vs tx)→Kic tk st S O M X Q ns∧(bif true then abX X ns s else false)=abS (Z65 tk st S O M X Q) (Z21 n ns vs tx) s)=_).mp ?_
 delta Z21 Z65 L1 Y1 Jx Jyr J1r Kic Jv
 intro hr ha
 have e:abS (tk,st,S,O,M,X,Q) (n,Jv,ns,vs,tx) s=abX X ns s:=by unfold abS;rw[show(Jj Jv).2.2.2.2=_ from congrArg (fun x=>x.2.2.2.2) Ku];all_goals rfl
 have h:=ha.out (congrArg (fun x=>x.2.2.2.2) Ku)
 rw[e]
 repeat' first|exact hr|exact h.1|exact h.2|exact rfl|apply And.intro|intro _
 all_goals first|trivial|assumption|contradiction
theorem Jkc (n:Int) (ns:List ByteArray) (vs:List Int) (tx:ByteArray) (tk st:Int) (S:List Sta) (O:List Ord) (M:List Met) (X:List Out) (Q:List Per) (s:ByteArray):wpF Tryz.prog Jqx.g (na ()) Tryz.f79 Xf ((n,Js,ns,vs,tx),(tk,st,S,O,M,X,Q),s,()):=by
 refine(by kernel_rfl:(Jx tk st S O M X Q→Jgy (Z65 tk st S O M X Q) (Z26 n ns vs tx)→Kic tk st S O M X Q ns∧(bif true then abX X ns s else false)=abS (Z65 tk st S O M X Q) (Z26 n ns vs tx) s)=_).mp ?_
 delta Z26 Z65 L1 Y1 Jx Jyr J1r Kic Js
 intro hr ha
 have e:abS (tk,st,S,O,M,X,Q) (n,Js,ns,vs,tx) s=abX X ns s:=by unfold abS;rw[show(Jj Js).2.2.2.2=_ from congrArg (fun x=>x.2.2.2.2) Kg];all_goals rfl
 have h:=ha.out (congrArg (fun x=>x.2.2.2.2) Kg)
 rw[e]
 repeat' first|exact hr|exact h.1|exact h.2|exact rfl|apply And.intro|intro _
 all_goals first|trivial|assumption|contradiction
def Kid (a b:Int) (c:List Sta) (d:List Ord) (e:List Met) (f:List Out) (g:List Per) (h:Ls):=(true=true→Jx a b c d e f g)∧Jyr h∧(true=true→J1s g h)
theorem Jmp (n:Int) (ns:List ByteArray) (vs:List Int) (tx:ByteArray) (tk st:Int) (S:List Sta) (O:List Ord) (M:List Met) (X:List Out) (Q:List Per) (s:ByteArray):wpF Tryz.prog Jqx.g (na ()) Tryz.f79 Xf ((n,Kf,ns,vs,tx),(tk,st,S,O,M,X,Q),s,()):=by
 refine(by kernel_rfl:(Jx tk st S O M X Q→Jgy (Z65 tk st S O M X Q) (Z18 n ns vs tx)→Kid tk st S O M X Q ns∧(bif true then abP X Q ns s else false)=abS (Z65 tk st S O M X Q) (Z18 n ns vs tx) s)=_).mp ?_
 delta Z18 Z65 L1 Y1 Jx Jyr J1s Kid Kf
 intro hr ha
 have e:abS (tk,st,S,O,M,X,Q) (n,Kf,ns,vs,tx) s=abP X Q ns s:=by unfold abS;rw[show(Jj Kf).2.2.2.2=_ from congrArg (fun x=>x.2.2.2.2) Kz];all_goals rfl
 have h:=ha.per (congrArg (fun x=>x.2.2.2.2) Kz)
 rw[e]
 repeat' first|exact hr|exact h.1|exact h.2|exact rfl|apply And.intro|intro _
 all_goals first|trivial|assumption|contradiction
theorem Jmo (n:Int) (ns:List ByteArray) (vs:List Int) (tx:ByteArray) (tk st:Int) (S:List Sta) (O:List Ord) (M:List Met) (X:List Out) (Q:List Per) (s:ByteArray):wpF Tryz.prog Jqx.g (na ()) Tryz.f79 Xf ((n,Ke,ns,vs,tx),(tk,st,S,O,M,X,Q),s,()):=by
 refine(by kernel_rfl:(Jx tk st S O M X Q→Jgy (Z65 tk st S O M X Q) (Z17 n ns vs tx)→Kid tk st S O M X Q ns∧(bif true then abP X Q ns s else false)=abS (Z65 tk st S O M X Q) (Z17 n ns vs tx) s)=_).mp ?_
 delta Z17 Z65 L1 Y1 Jx Jyr J1s Kid Ke
 intro hr ha
 have e:abS (tk,st,S,O,M,X,Q) (n,Ke,ns,vs,tx) s=abP X Q ns s:=by unfold abS;rw[show(Jj Ke).2.2.2.2=_ from congrArg (fun x=>x.2.2.2.2) Ky];all_goals rfl
 have h:=ha.per (congrArg (fun x=>x.2.2.2.2) Ky)
 rw[e]
 repeat' first|exact hr|exact h.1|exact h.2|exact rfl|apply And.intro|intro _
 all_goals first|trivial|assumption|contradiction
theorem Jmn (n:Int) (ns:List ByteArray) (vs:List Int) (tx:ByteArray) (tk st:Int) (S:List Sta) (O:List Ord) (M:List Met) (X:List Out) (Q:List Per) (s:ByteArray):wpF Tryz.prog Jqx.g (na ()) Tryz.f79 Xf ((n,Jd,ns,vs,tx),(tk,st,S,O,M,X,Q),s,()):=by
 refine(by kernel_rfl:(Jx tk st S O M X Q→Jgy (Z65 tk st S O M X Q) (Z15 n ns vs tx)→Z39∧false=abS (Z65 tk st S O M X Q) (Z15 n ns vs tx) s)=_).mp ?_
 delta Z15 Z39 Z65 Jx Jd
 intro hr ha
 have e:abS (tk,st,S,O,M,X,Q) (n,Jd,ns,vs,tx) s=false:=by unfold abS;rw[show(Jj Jd).2.2.2.2=_ from congrArg (fun x=>x.2.2.2.2) Kt];all_goals rfl
 rw[e]
 repeat' first|exact hr|exact h.1|exact h.2|exact rfl|apply And.intro|intro _
 all_goals first|trivial|assumption|contradiction
theorem J4c [Sx.Dr] {Γ:Gam} {ann:Nat→Option Ann} {fn:Func} {c:Con} {x:ATup c.args} (hb:fn.body.isSome=true) (h:Ur (c.pre x)→wpF Tryz.prog Γ ann fn c x):wpF Tryz.prog Γ ann fn c x:=by
 unfold wpF at h⊢
 cases hc:fn.body with
 |none=>rw[hc] at hb;cases hb
 |some code=>
  rw[hc] at h
  exact Jax h
theorem K4k:∀x:ATup [aEv, .ref 105 Jj7, .ref 9 .str],wpF Tryz.prog Jqx.g (na ()) Tryz.f79 Xf x
 |((n,k,ns,vs,tx),(tk,st,S,O,M,X,Q),s,())=>by
  refine J4c (by kernel_rfl) fun hp=> ?_
  have ha:Jgy (tk,st,S,O,M,X,Q) (n,k,ns,vs,tx):=hp.2
  rcases U4 ha.kind with h|h|h|h|h|h|h|h|h|h|h<;>dsimp only at h<;>subst h
  ·exact Jte n ns vs tx tk st S O M X Q s
  ·exact Jkb n ns vs tx tk st S O M X Q s
  ·exact Jqz n ns vs tx tk st S O M X Q s
  ·exact Jq0 n ns vs tx tk st S O M X Q s
  ·exact Jq1 n ns vs tx tk st S O M X Q s
  ·exact Jtf n ns vs tx tk st S O M X Q s
  ·exact Jmq n ns vs tx tk st S O M X Q s
  ·exact Jkc n ns vs tx tk st S O M X Q s
  ·exact Jmp n ns vs tx tk st S O M X Q s
  ·exact Jmo n ns vs tx tk st S O M X Q s
  ·exact Jmn n ns vs tx tk st S O M X Q s
theorem K42:Ok Tryz.prog 79 Xf:=Vs mixed Jqx.ok (by kernel_rfl) (by kernel_rfl) na fun xx=>K4k xx
abbrev K7w:=Jqx.add K42
theorem Jay {α:Type} {p:α→Bool} {y:α} (h:p y=true):∀{l:List α} {k:Nat},0≤Vg p (l++[y]) k
 |[],k=>by
  show 0≤Vg p [y] k
  unfold Vg;rw[if_pos h];omega
 |x::l,k=>by
  show 0≤Vg p (x::(l++[y])) k
  unfold Vg
  split
  ·omega
  ·exact Jay h
structure Kg4 (r r':Reg):Prop where
 o:∀s,0≤Kp r.2.2.2.1 s→0≤Kp r'.2.2.2.1 s
 x:∀s,0≤J7 r.2.2.2.2.2.1 s→0≤J7 r'.2.2.2.2.2.1 s
 q:∀s,0≤U2 r.2.2.2.2.2.2 s→0≤U2 r'.2.2.2.2.2.2 s
theorem Jvr {O:List Ord} {y:Ord} {s:ByteArray} (h:0≤Kp O s):0≤Kp (O++[y]) s:=by unfold Kp at h⊢;rw[Yn h];exact h
theorem Jvp {O:List Out} {y:Out} {s:ByteArray} (h:0≤J7 O s):0≤J7 (O++[y]) s:=by unfold J7 at h⊢;rw[Yn h];exact h
theorem Jvq {O:List Per} {y:Per} {s:ByteArray} (h:0≤U2 O s):0≤U2 (O++[y]) s:=by unfold U2 at h⊢;rw[Yn h];exact h
theorem Jb3 {O:List Ord} {a s:ByteArray} {v:Int}:Kp (V6 O a v) s=Kp O s:=by
 unfold Kp V6
 exact Dv fun x hx=>by
  have e:Yu O a=x:=Jfe hx
  rw[e]
theorem Jjq {O:List Out} {a s:ByteArray} {v:Int}:J7 (Jed O a v) s=J7 O s:=by
 unfold J7 Jed
 exact Dv fun x hx=>by
  have e:L5 O a=x:=Jfe hx
  rw[e]
theorem Jb2 {O:List Per} {a s:ByteArray}:U2 (Fz O a) s=U2 O s:=by
 unfold U2 Fz
 exact Dv fun x hx=>by
  have e:Jmi O a=x:=Jfe hx
  rw[e]
theorem Jrc (r:Reg) (e:Ev):Kg4 r (Jl r e):=by
 obtain⟨tk,st,S,O,M,X,Q⟩:=r
 obtain⟨n,k,ns,vs,tx⟩:=e
 unfold Jl doS
 split
 all_goals refine⟨fun s h=> ?_,fun s h=> ?_,fun s h=> ?_⟩
 all_goals first|exact h|(show 0≤Kp (V6 _ _ _) _;rw[Jb3];exact h)|(show 0≤J7 (Jed _ _ _) _;rw[Jjq];exact h)|(show 0≤U2 (Fz _ _) _;rw[Jb2];exact h)|exact Jvr h|exact Jvp h|exact Jvq h|exact Jb3 (O:=O)▸h|exact Jjq (O:=X)▸h|exact Jb2 (O:=Q)▸h
theorem Jgy.mono {r r':Reg} {e:Ev} (h:Jgy r e) (hn:Kg4 r r'):Jgy r' e:=
 ⟨h.kind,fun q=>⟨(h.ord q).1,hn.o _ (h.ord q).2⟩,fun q=>⟨(h.out q).1,hn.x _ (h.out q).2⟩,fun q=>⟨(h.per q).1,hn.q _ (h.per q).2⟩⟩
theorem Jm6 (s:ByteArray):(s.toList==s.toList)=true:=beq_self_eq_true _
theorem J4k {h:Kb} {e:Ev} (hc:Jc e=0) (ha:La h e=0) (hk:(e.2.1.toList==Jp.toList)=false):Jgy (Jl (J2 h.2.2) e) e:=by
 obtain⟨n,k,ns,vs,tx⟩:=e
 have hE:=K0 hc
 rw[V8 hk] at ha
 obtain⟨z1,z2,z3,z4,z5⟩:=Lc ha
 generalize J2 h.2.2=r at*
 obtain⟨tk,st,S,O,M,X,Q⟩:=r
 have hn:=hE.nn
 clear ha z4 z5
 have hkd:=U4 hE.kind
 dsimp only at hn hkd hk z3
 rcases hkd with h|h|h|h|h|h|h|h|h|h|h<;>subst h
 ·exact⟨hE.kind,fun q=>absurd q (by rw[F6];decide),fun q=>absurd q (by rw[F6];decide),fun q=>absurd q (by rw[F6];decide)⟩
 ·exact⟨hE.kind,fun q=>absurd q (by rw[K2];decide),fun q=>absurd q (by rw[K2];decide),fun q=>absurd q (by rw[K2];decide)⟩
 ·exact⟨hE.kind,fun q=>absurd q (by rw[U7];decide),fun q=>absurd q (by rw[U7];decide),fun q=>absurd q (by rw[U7];decide)⟩
 ·simp only[Un,List.length_cons,List.length_nil] at hn z3
  refine⟨hE.kind,fun _=>⟨by dsimp only;omega, ?_⟩,fun q=>absurd q (by rw[Un];decide),fun q=>absurd q (by rw[Un];decide)⟩
  unfold Jl doS
  simp only[Un]
  exact Jay (p:=fun x:Ord=>x.1.toList==(ns.getD 0 Ja).toList) (l:=O) (Jm6 _)
 ·simp only[Ud,List.length_cons,List.length_nil] at hn z3
  refine⟨hE.kind,fun _=>⟨by dsimp only;omega, ?_⟩,fun q=>absurd q (by rw[Ud];decide),fun q=>absurd q (by rw[Ud];decide)⟩
  unfold Jl doS
  simp only[Ud]
  exact Jyf ((Jk z3).1 rfl)
 ·simp only[Vd,List.length_cons,List.length_nil] at hn z3
  refine⟨hE.kind,fun _=>⟨by dsimp only;omega, ?_⟩,fun q=>absurd q (by rw[Vd];decide),fun q=>absurd q (by rw[Vd];decide)⟩
  unfold Jl doS
  simp only[Vd]
  exact by show 0≤Kp (V6 _ _ _) _;rw[Jb3];exact Jyf ((Jk z3).1 rfl)
 ·simp only[Ku,List.length_cons,List.length_nil] at hn z3
  refine⟨hE.kind,fun q=>absurd q (by rw[Ku];decide),fun _=>⟨by dsimp only;omega, ?_⟩,fun q=>absurd q (by rw[Ku];decide)⟩
  unfold Jl doS
  simp only[Ku]
  exact Jay (p:=fun x:Out=>x.1.toList==(ns.getD 0 Ja).toList) (l:=X) (Jm6 _)
 ·simp only[Kg,List.length_cons,List.length_nil] at hn z3
  refine⟨hE.kind,fun q=>absurd q (by rw[Kg];decide),fun _=>⟨by dsimp only;omega, ?_⟩,fun q=>absurd q (by rw[Kg];decide)⟩
  unfold Jl doS
  simp only[Kg]
  exact by show 0≤J7 (Jed _ _ _) _;rw[Jjq];exact J23 ((Jk z3).1 rfl)
 ·simp only[Kz,List.length_cons,List.length_nil] at hn z3
  refine⟨hE.kind,fun q=>absurd q (by rw[Kz];decide),fun q=>absurd q (by rw[Kz];decide),fun _=>⟨by dsimp only;omega, ?_⟩⟩
  unfold Jl doS
  simp only[Kz]
  exact Jay (p:=fun x:Per=>x.1.toList==(ns.getD 0 Ja).toList) (l:=Q) (Jm6 _)
 ·simp only[Ky,List.length_cons,List.length_nil] at hn z3
  refine⟨hE.kind,fun q=>absurd q (by rw[Ky];decide),fun q=>absurd q (by rw[Ky];decide),fun _=>⟨by dsimp only;omega, ?_⟩⟩
  unfold Jl doS
  simp only[Ky]
  exact by show 0≤U2 (Fz _ _) _;rw[Jb2];exact Khd ((Jk z3).1 rfl)
 ·exact⟨hE.kind,fun q=>absurd q (by rw[Kt];decide),fun q=>absurd q (by rw[Kt];decide),fun q=>absurd q (by rw[Kt];decide)⟩
def Jmf (h:Kb):Prop:=∀j k,j<h.2.1.length→j≤k→k<h.2.2.length→Jgy (h.2.2.getD k U1) (h.2.1.getD j ev0)
theorem Jfd {α:Type} {l:List α} {m k:Nat} {d:α} (h:k<m):(l.take m).getD k d=l.getD k d:=by
 rw[List.getD_eq_getElem?_getD,List.getD_eq_getElem?_getD,List.getElem?_take_of_lt h]
theorem Ll {α:Type} {l m:List α} {k:Nat} {d:α} (h:k<l.length):(l++m).getD k d=l.getD k d:=by
 rw[List.getD_eq_getElem?_getD,List.getD_eq_getElem?_getD,List.getElem?_append_left h]
theorem Zo {α:Type} {l:List α} {y d:α}:(l++[y]).getD l.length d=y:=by
 rw[List.getD_eq_getElem?_getD,List.getElem?_append_right (Nat.le_refl _),Nat.sub_self];rfl
theorem Ksh {h:Kb} {e:Ev} (hi:V9 h) (hA:Jmf h) (ha:Kv h e=0):Jmf (Ha h e):=by
 obtain⟨hc,hacc⟩:=add_zero ha
 have n3:=hi.ok.nG
 have hlast:∀e'∈[e],(e.2.1.toList==Jp.toList)=false→Jgy (Jl (J2 h.2.2) e) e:=fun _ _ hk=>J4k hc hacc hk
 obtain⟨E,C,G⟩:=h
 dsimp only at n3
 cases hk:e.2.1.toList==Jp.toList with
 |true=>
  unfold Ha
  rw[hk,cond_true]
  intro j k h1 h2 h3
  simp only[List.length_take] at h1 h3
  dsimp only
  rw[Jfd (by omega),Jfd (by omega)]
  exact hA j k (by dsimp only;omega) h2 (by dsimp only;omega)
 | false =>
  unfold Ha
  rw[hk,cond_false]
  intro j k h1 h2 h3
  simp only[List.length_append,List.length_singleton] at h1 h3
  dsimp only
  by_cases hkn:k<G.length
  ·rw[Ll hkn,Ll (by omega)]
   exact hA j k (by dsimp only;omega) h2 (by dsimp only;omega)
  ·have ek:k=G.length:=by omega
   rw[ek,Zo]
   by_cases hj:j<C.length
   ·rw[Ll hj]
    have:=hA j (G.length-1) hj (by omega) (by dsimp only;omega)
    exact this.mono (Jrc (J2 G) e)
   ·have ej:j=C.length:=by omega
    rw[ej,Zo]
    exact hlast e (List.mem_singleton.2 rfl) hk
theorem J2t:∀{l:List Ev} {h:Kb},V9 h→Jmf h→h.1.length+l.length≤1000→Jmf (Xs h l).1
 |[],_,_,hA,_=>hA
 | e :: l, h, hi, hA, hl => by
  unfold Xs
  simp only[List.length_cons] at hl
  by_cases ha:Kv h e=0
  ·rw[if_pos ha]
   exact J2t (Ft hi (by omega) ha) (Ksh hi hA ha) (by rw[Xl];omega)
  ·rw[if_neg ha];exact hA
theorem Jvh:Jmf V7:=fun j k h1 _ _=>by cases h1
theorem Jzr {l:List Ev}:Jmf (Jb l).1:=by
 unfold Jb
 by_cases h:1000<l.length
 ·rw[if_pos h];exact Jvh
 ·rw[if_neg h];exact J2t Xk Jvh (by show 0+l.length≤1000;omega)
theorem Kbh {h:Kb} (hi:V9 h) (hA:Jmf h) {e:Ev} (he:e∈h.2.1):Jgy (J2 h.2.2) e:=by
 obtain⟨j,hj,rfl⟩:=List.mem_iff_getElem.1 he
 have n3:=hi.ok.nG
 have:=hA j (h.2.2.length-1) hj (by omega) (by omega)
 rw[List.getD_eq_getElem?_getD (l:=h.2.1),List.getElem?_eq_getElem hj] at this
 exact this
def Vq (xs:List ByteArray) (sep:ByteArray):ByteArray:=⟨(Lib.join (xs.map (·.data.toList)) sep.data.toList).toArray⟩
def Krv:Con:={args:=[.val false (.list 9 .str),aS],ress:=[tS],owns:=[],pre:=fun(xs,sep,_)=>[xs.length≤1000000,(Lib.join (xs.map (·.data.toList)) sep.data.toList).length≤140737488355328],spec:=fun(xs,sep,_)=>(Vq xs sep,())}
def Vk (n:Int):ByteArray:=⟨(Lib.itoa n).toArray⟩
def Krw:Con:={args:=[aI],ress:=[tS],owns:=[],pre:=fun(n,_)=>[-9223372036854775808≤n∧n≤9223372036854775807],spec:=fun(n,_)=>(Vk n,())}
theorem J05 (w:World) (q:Nat) (os:Array Obj):RowKit.Below w.heap.size w (Sort.grow (w.drewN q) os):=
 ⟨rfl,rfl,rfl,by first|(simp[Sort.grow];done)|(simp[Sort.grow];omega),fun i hi=>by
  show((w.drewN q).heap++os)[i]? =_
  rw[Array.getElem?_append_left (by show i<w.heap.size;omega)]
  rfl⟩
theorem Kqp:Ok Tryz.prog 122 Krw:=by
 refine⟨⟨Tryz.f122,by kernel_rfl,by kernel_rfl,by kernel_rfl⟩,fun z hz=>(by cases hz),fun F hF=>(by cases hF),fun _ x M R w vs hM hg hpre hargs=> ?_⟩
 obtain⟨n,u⟩:=x
 obtain⟨v,vs',rfl,ha,hr⟩:=hargs
 have hr:vs'=[]:=hr
 subst hr
 obtain⟨cs,rfl,hc⟩:=ha
 have hc:cs=[.int .i64 n]:=hc
 subst hc
 have hpre: -9223372036854775808≤n∧n≤9223372036854775807:=hpre
 refine(Tryz.strconv_Itoa n hpre.1 hpre.2 w (hg w (Sx.Below.refl _ _)).1).mono ?_
 rintro e w' ⟨rfl,k,os,rfl⟩
 exact⟨M,[.string (Vk n)],rfl, .ofK (J05 w k os),fun _ h=>h,fun b h=> .inl h,_,[],rfl,⟨_,rfl,rfl⟩,rfl⟩
theorem Kqo:Ok Tryz.prog 123 Krv:=by
 refine⟨⟨Tryz.f123,by kernel_rfl,by kernel_rfl,by kernel_rfl⟩,fun z hz=>(by cases hz),fun F hF=>(by cases hF),fun _ x M R w vs hM hg hpre hargs=> ?_⟩
 obtain⟨xs,sep,u⟩:=x
 obtain⟨v,vs',rfl,ha,v2,vs2,rfl,hb,hr⟩:=hargs
 have hr:vs2=[]:=hr
 subst hr
 obtain⟨cs,rfl,hc⟩:=ha
 obtain⟨cs2,rfl,hc2⟩:=hb
 have hc2:cs2=[.string sep]:=hc2
 subst hc2
 obtain⟨v,flat,rfl,f1,f2⟩:=hc
 obtain⟨p1,p2⟩:=hpre
 have hflat:=Jej f1
 have fin:∀(e:Ending) (w':World),e= .returned (.string (Vq xs sep))→RowKit.Below w.heap.size w w'→Joj M w [tS] [] (Vq xs sep,()) e w':=fun e w' he hb=>
  ⟨M,[.string (Vq xs sep)],he, .ofK hb,fun _ h=>h,fun b h=> .inl h,_,[],rfl,⟨_,rfl,rfl⟩,rfl⟩
 rcases f2 with⟨rfl|⟨ad,cap,rfl⟩,h0⟩|⟨b,off,cap,rfl,hcap,hk,hm⟩
 ·have:xs=[]:=List.eq_nil_of_length_eq_zero h0
  subst this
  refine(Tryz.strings_Join_none none 0 sep w).mono ?_
  rintro e w' ⟨rfl,rfl⟩
  exact fin _ _ rfl (RowKit.Below.refl _ _)
 ·have:xs=[]:=List.eq_nil_of_length_eq_zero h0
  subst this
  refine(Tryz.strings_Join_none (some ad) cap sep w).mono ?_
  rintro e w' ⟨rfl,rfl⟩
  exact fin _ _ rfl (RowKit.Below.refl _ _)
 ·cases hx:xs with
  |nil=>
   subst hx
   refine(Tryz.strings_Join_none (some ⟨b,off,none⟩) cap sep w).mono ?_
   rintro e w' ⟨rfl,rfl⟩
   exact fin _ _ rfl (RowKit.Below.refl _ _)
  |cons x0 r=>
   rw[←hx]
   have hne:flat≠[]:=by rw[hflat,hx];simp
   refine(Tryz.strings_Join b off cap xs sep w (fun j x hj=>hk j _ (by rw[hflat,List.getElem?_map,hj];rfl)) (hM b (.inl (hm hne))) (by omega) hcap p2).mono ?_
   rintro e w' ⟨rfl,hb⟩
   exact fin _ _ rfl hb
abbrev K7v:=K7w.add Kqo
abbrev K7u:=K7v.add Kqp
def Xx (s p:ByteArray):List ByteArray:=Lib.splitB p 0 (Lib.countB s p) s
def Jp2:Con:={args:=[aS,aS],ress:=[(false, .list 9 .str)],owns:=[true],pre:=fun(s,p,_)=>[s.size≤1000000,1≤p.size],spec:=fun(s,p,_)=>(Xx s p,())}
theorem Jha {M:Nat→Prop} {w:World}:∀{xs:List ByteArray},Ya (Rep M w .str) xs (xs.map Value.string)
 |[]=>rfl
 |x::xs=>⟨[.string x],xs.map Value.string,rfl,rfl,Jha⟩
theorem K5f:Ok Tryz.prog 61 Jp2:=by
 refine⟨⟨Tryz.f61,by kernel_rfl,by kernel_rfl,by kernel_rfl⟩,fun z hz=>(by cases hz),fun F hF=>(by cases hF),fun _ x M R w vs hM hg hpre hargs=> ?_⟩
 obtain⟨s,p,u⟩:=x
 obtain⟨v1,vs1,rfl,ha1,v2,vs2,rfl,ha2,hr⟩:=hargs
 have hr:vs2=[]:=hr
 subst hr
 obtain⟨cs1,rfl,hc1⟩:=ha1
 obtain⟨cs2,rfl,hc2⟩:=ha2
 have hc1:cs1=[.string s]:=hc1
 have hc2:cs2=[.string p]:=hc2
 subst hc1;subst hc2
 have hpre:s.size≤1000000∧1≤p.size:=hpre
 refine(Tryz.strings_Split_shaped s p w ((hg w (.refl _ _)).2 rfl).1 (by omega) hpre.2).mono ?_
 rintro e w' ⟨rfl,rfl⟩
 have hlen:(Xx s p).length=Lib.countB s p+1:=Lib.splitB_all p hpre.2 0 _ s rfl
 have hle:=Lib.countB_le p hpre.2 s.size s (Nat.le_refl _)
 refine⟨M,[_],rfl, .ofK ⟨rfl,rfl,rfl,by show w.heap.size≤(w.heap.push _).size;simp,fun i hi=> ?_⟩,fun _ h=>h,fun b h=> .inl h,_,[],rfl,⟨(Xx s p).map Value.string,Jha,⟨by simp[Sch.size,Jp2], .inr ⟨w.heap.size,Lib.countB s p+1,_,by rw[show(Jp2.spec (s,p,u)).1=Xx s p from rfl,hlen],Nat.le_refl _,heap_alloc_new w _,by rw[show(Jp2.spec (s,p,u)).1=Xx s p from rfl,hlen];exact Nat.le_refl _, ?_, ?_, ?_⟩⟩, ?_⟩,rfl⟩
 ·show(w.heap.push _)[i]? =_
  rw[Array.getElem?_push]
  split
  ·omega
  ·rfl
 ·show _≤9223372036854775807
  have:s.size≤1000000:=hpre.1
  omega
 ·show(List.map Value.string (Xx s p)).toArray.size=_
  simp[Sch.size,hlen]
 ·show(List.map Value.string (Xx s p)).take ((Xx s p).length*1)=_
  rw[List.take_of_length_le (by simp)]
 ·intro g hgb hM'
  have:w.heap.size=g:=Option.some.inj hgb
  have:=hM g (.inl hM')
  omega
abbrev K7t:=K7u.add K5f
def Kr4:Con:={args:=[],ress:=[],owns:=[],pre:=fun _=>[False],spec:=fun _=>(),prim:=some Ksa}
theorem J5p (s:ByteArray) (w:World) (hs:s.size≤1000000) (hg:Sx.Good Tryz.prog w):Calls Tryz.prog 260 #[.string s] w fun e w'=>∃u,e= .returned (.tuple #[.int .i64 (Js0 s),u])∧Jj5 (Jw1 s) u∧Sx.Below w.heap.size w w':=by
 have hw:=(hg w (.refl _ _)).2 rfl
 cases h:Lib.atoiAll s.data.toList
 ·rename_i v
  have e1:Js0 s=v:=by unfold Js0;rw[h]
  have e2:Jw1 s=false:=by unfold Jw1;rw[h]
  rw[e1,e2]
  refine Calls.mono (Any.strconv_Atoi_ok Tryz.laysAtoi s (by omega) v h w) ?_
  rintro e w' ⟨rfl,rfl|⟨t,rfl⟩⟩
  ·exact⟨_,rfl,rfl, .refl _ _⟩
  ·exact⟨_,rfl,rfl, .ofK (Lib.bytesWorld_below w _ t)⟩
 ·have e1:Js0 s=0:=by unfold Js0;rw[h]
  have e2:Jw1 s=true:=by unfold Jw1;rw[h]
  rw[e1,e2]
  obtain⟨tp,pe,hv⟩:=hw.2.1
  refine Calls.mono (Any.strconv_Atoi_syntax_var Tryz.laysAtoi s (by omega) h tp pe w hv) ?_
  rintro e w' ⟨N,rfl,_,_,hb⟩
  exact⟨_,rfl,⟨_,_,rfl⟩, .ofK hb⟩
 ·have e1:Js0 s=Lib.atoiSat s.data.toList:=by unfold Js0;rw[h]
  have e2:Jw1 s=true:=by unfold Jw1;rw[h]
  rw[e1,e2]
  obtain⟨tp,pe,hv⟩:=hw.2.2
  refine Calls.mono (Any.strconv_Atoi_range_var Tryz.laysAtoi s (by omega) h tp pe w hv) ?_
  rintro e w' ⟨N,rfl,_,_,hb⟩
  exact⟨_,rfl,⟨_,_,rfl⟩, .ofK hb⟩
theorem Knz:Ok Tryz.prog 260 Kr4:=⟨⟨Tryz.f260,by kernel_rfl,by kernel_rfl,by kernel_rfl⟩,fun z hz=>(by cases hz),fun F hF=>(by cases hF;exact J6g fun s w hs hg=>J5p s w hs hg),fun _ x M R w vs _ _ hpre _=>False.elim hpre⟩
abbrev K7s:=K7t.add Knz
def Jyh (s p:ByteArray):ByteArray×ByteArray×Bool:=(⟨(Lib.cut s.data.toList p.data.toList).1.toArray⟩,⟨(Lib.cut s.data.toList p.data.toList).2.1.toArray⟩,(Lib.cut s.data.toList p.data.toList).2.2)
def K6m:Con:={args:=[aS,aS],ress:=[tS,tS,Bo],owns:=[],pre:=fun(s,_)=>[s.size≤1000000],spec:=fun(s,p,_)=>((Jyh s p).1,(Jyh s p).2.1,(Jyh s p).2.2,())}
theorem J06 (w:World) (q:Nat):RowKit.Below w.heap.size w (w.drewN q):=⟨rfl,rfl,rfl,Nat.le_refl _,fun i _=>rfl⟩
theorem Kqw:Ok Tryz.prog 107 K6m:=by
 refine⟨⟨Tryz.f107,by kernel_rfl,by kernel_rfl,by kernel_rfl⟩,fun z hz=>(by cases hz),fun F hF=>(by cases hF),fun _ x M R w vs hM hg hpre hargs=> ?_⟩
 obtain⟨s,p,u⟩:=x
 obtain⟨v1,vs1,rfl,ha1,v2,vs2,rfl,ha2,hr⟩:=hargs
 have hr:vs2=[]:=hr
 subst hr
 obtain⟨cs1,rfl,hc1⟩:=ha1
 obtain⟨cs2,rfl,hc2⟩:=ha2
 have hc1:cs1=[.string s]:=hc1
 have hc2:cs2=[.string p]:=hc2
 subst hc1;subst hc2
 have hpre:s.size≤1000000:=hpre
 refine(Tryz.strings_Cut_shaped s p w ((hg w (.refl _ _)).2 rfl).1 (by omega)).mono ?_
 rintro e w' ⟨rfl,n,rfl⟩
 exact⟨M,[.string (Jyh s p).1, .string (Jyh s p).2.1, .bool (Jyh s p).2.2],rfl, .ofK (J06 w n),fun _ h=>h,fun b h=> .inl h,_,_,rfl,⟨_,rfl,rfl⟩,_,_,rfl,⟨_,rfl,rfl⟩,_,[],rfl,⟨_,rfl,rfl⟩,rfl⟩
abbrev K7r:=K7s.add Kqw
def Ka4 (s:ByteArray) (n:Int):ByteArray:=⟨(Lib.repeatL s.data.toList n.toNat).toArray⟩
def K58:Con:={args:=[aS,aI],ress:=[tS],owns:=[],pre:=fun(s,n,_)=>[s.size≤1000000,0≤n∧n≤1000000],spec:=fun(s,n,_)=>(Ka4 s n,())}
theorem Kn0:Ok Tryz.prog 258 K58:=by
 refine⟨⟨Tryz.f258,by kernel_rfl,by kernel_rfl,by kernel_rfl⟩,fun z hz=>(by cases hz),fun F hF=>(by cases hF),fun _ x M R w vs hM hg hpre hargs=> ?_⟩
 obtain⟨s,n,u⟩:=x
 obtain⟨v1,vs1,rfl,ha1,v2,vs2,rfl,ha2,hr⟩:=hargs
 have hr:vs2=[]:=hr
 subst hr
 obtain⟨cs1,rfl,hc1⟩:=ha1
 obtain⟨cs2,rfl,hc2⟩:=ha2
 have hc1:cs1=[.string s]:=hc1
 have hc2:cs2=[.int .i64 n]:=hc2
 subst hc1;subst hc2
 obtain⟨p1,p2,p3⟩:=hpre
 have p1:s.size≤1000000:=p1
 have p2:0≤n:=p2
 have p3:n≤1000000:=p3
 obtain⟨c,rfl⟩:=Int.eq_ofNat_of_zero_le p2
 have p3:(c:Int)≤1000000:=p3
 have hm:s.size*c≤1000000*1000000:=Nat.mul_le_mul p1 (by omega)
 refine(Tryz.strings_Repeat s c w (by omega) (by omega)).mono ?_
 rintro e w' ⟨rfl,hb⟩
 exact⟨M,[.string (Ka4 s c)],rfl, .ofK hb,fun _ h=>h,fun b h=> .inl h,_,[],rfl,⟨_,rfl,rfl⟩,rfl⟩
abbrev K7q:=K7r.add Kn0
abbrev tI:Bool×Sch:=(false, .int .i64)
abbrev tB:Bool×Sch:=(false, .bool)
abbrev K4n:Bool×Sch:=(false, .str)
abbrev taI:AK:= .val false (.int .i64)
abbrev taS:AK:= .val false .str
theorem J4b {n:Int} (h0:0≤n) (h1:n<256):IntKind.u8.wrap n=n:=by
 simp[IntKind.wrap,IntKind.signed,IntKind.bits]
 omega
def Xe (c:Int):Bool:=decide (48≤c)&&decide (c≤57)
theorem Jlr (c:Int):(bif decide (c<48) then true else decide (57<c))= !Xe c:=by
 unfold Xe
 have e1:decide (c<48)= !decide ((48:Int)≤c):=by rw[Bool.eq_iff_iff];simp
 have e2:decide ((57:Int)<c)= !decide (c≤57):=by rw[Bool.eq_iff_iff];simp
 rw[e1,e2]
 cases decide ((48:Int)≤c)<;>cases decide (c≤57)<;>rfl
def Kk:List UInt8→Int→Int×Bool
 |[],n=>(n,true)
 |c::r,n=>if Xe c.toNat=true then Kk r (10*n+(c.toNat-48)) else(0,false)
def Ja5 (s:ByteArray):Bool:=decide (s.size=0)||decide (9<s.size)||(decide (1<s.size)&&decide (Ja9 s 0=48))
def Ka (s:ByteArray):Int×Bool:=if Ja5 s=true then(0,false) else Kk s.data.toList 0
def J56:Con:={args:=[taS],ress:=[tI,tB],owns:=[],pre:=fun(s,_)=>[s.size≤1000000],spec:=fun(s,_)=>((Ka s).1,(Ka s).2,())}
theorem Jwy (s:ByteArray):(bif bif ((s.size:Int)==0) then true else decide (9<(s.size:Int)) then true else bif decide (1<(s.size:Int)) then(((s.data.toList.getD 0 0).toNat:Int)==48) else false)=Ja5 s:=by
 have e1:((s.size:Int)==0)=decide (s.size=0):=by rw[Bool.eq_iff_iff];simp
 have e2:decide (9<(s.size:Int))=decide (9<s.size):=by rw[decide_eq_decide];omega
 have e3:decide (1<(s.size:Int))=decide (1<s.size):=by rw[decide_eq_decide];omega
 have e4:(((s.data.toList.getD 0 0).toNat:Int)==48)=decide (Ja9 s 0=48):=by rw[Bool.eq_iff_iff];simp[Ja9]
 have k:∀a b c d:Bool,(bif bif a then true else b then true else bif c then d else false)=(a||b||(c&&d)):=by decide
 rw[e1,e2,e3,e4,k];rfl
theorem Jfp {c:Nat} (h:Xe c=true):48≤c∧c≤57:=by
 unfold Xe at h
 simp only[Bool.and_eq_true,decide_eq_true_eq] at h
 omega
abbrev K7p:=K7q
theorem Jac:∀{l:List UInt8} {n:Int},0≤n→0≤(Kk l n).1∧(Kk l n).1<(n+1)*10^l.length
 |[],n,h=>⟨h,by simp[Kk];omega⟩
 | c :: r, n, h => by
  unfold Kk
  split
  ·rename_i hc
   have hr:=Jfp hc
   have ih:=Jac (l:=r) (n:=10*n+(c.toNat-48)) (by omega)
   refine⟨ih.1,Int.lt_of_lt_of_le ih.2 ?_⟩
   rw[List.length_cons,Int.pow_succ,Int.mul_comm (10^r.length),←Int.mul_assoc]
   exact Int.mul_le_mul_of_nonneg_right (by omega) (Int.pow_nonneg (by decide))
  ·refine⟨Int.le_refl _,Int.mul_pos (by omega) (Int.pow_pos (by decide))⟩
theorem Jnx (s:ByteArray):0≤(Ka s).1∧(Ka s).1<1000000000:=by
 unfold Ka
 split
 ·exact⟨Int.le_refl _,by decide⟩
 ·rename_i h
  have h:Ja5 s=false:=by simpa using h
  have h9:s.size≤9:=by
   unfold Ja5 at h
   simp only[Bool.or_eq_false_iff,decide_eq_false_iff_not] at h
   omega
  have:=Jac (l:=s.data.toList) (n:=0) (Int.le_refl _)
  refine⟨this.1,Int.lt_of_lt_of_le this.2 ?_⟩
  have hp:=Nat.pow_le_pow_right (n:=10) (by decide) h9
  have hl:s.data.toList.length=s.size:=by simp
  rw[hl,Int.zero_add,Int.one_mul]
  have e:((10:Int)^s.size)=((10^s.size:Nat):Int):=by simp
  rw[e]
  have h2:((10^s.size:Nat):Int)≤((10^9:Nat):Int):=Int.ofNat_le.2 hp
  have h3:((10^9:Nat):Int)=1000000000:=by decide
  omega
def Jj6 (c:UInt8):List UInt8→List (List UInt8)
 |[]=>[[]]
 |x::r=>if x=c then[]::Jj6 c r else match Jj6 c r with
  |[]=>[[x]]
  |h::t=>(x::h)::t
def bs (l:List UInt8):ByteArray:=⟨l.toArray⟩
def Jea (s:ByteArray) (c:Int):List ByteArray:=(Jj6 (UInt8.ofNat c.toNat) s.data.toList).map bs
theorem J4m (c:UInt8):∀l,Jj6 c l≠[]
 |[]=>by simp[Jj6]
 |x::r=>by
  unfold Jj6
  split
  ·simp
  ·split<;>simp
theorem Jap (c x:UInt8) (r:List UInt8):Jj6 c (x::r)=if x=c then[]::Jj6 c r else match Jj6 c r with
  |[]=>[[x]]
  |h::t=>(x::h)::t:=rfl
abbrev Kg1:=K7p
def X2 (n:Int):ByteArray:=⟨(Lib.itoa n).toArray⟩
def Jwd (k:Nat):Con:={args:=[taI],ress:=[K4n],owns:=[],pre:=fun(n,_)=>[k≤18,-(10^k:Int)<n,n<10^(k+1)],spec:=fun(n,_)=>(X2 n,())}
def Kjf (a:Int):=(Iw (48+a)∧0<1)∧ByteArray.mk (Array.mk [UInt8.ofNat (Int.toNat (IntKind.wrap IntKind.u8 (48+a)))])=X2 a
def Z75 (a:Int):=0-Int.tmod a 10
def Kg0:=(10:Int)=0→False
def Kfz (a:Nat):=(10:Int)^(a+(1:Nat))
def Kkg (a:Nat):= -10^a
def Kzn (a:Int) (b:Nat):=Int.tdiv a 10<Kfz b
def Kyi (a:Nat) (b:Int):=Kkg a<Int.tdiv b 10
theorem Jzd {l:List UInt8} {n:Int} (h:l=Lib.itoa n):(⟨⟨l⟩⟩:ByteArray)=X2 n:=by subst h;rfl
theorem Jtk (u:Nat):(X2 (u:Int)).data.toList=Lib.decDigits u:=by unfold X2;rw[Lib.itoa_nonneg]
theorem Kay (u:Nat) (h:1≤u):(X2 (-(u:Int))).data.toList=45::Lib.decDigits u:=by unfold X2;rw[Lib.itoa_neg u h]
theorem Jig (n:Int) (h0: -9223372036854775808≤n) (h1:n≤9223372036854775807):(X2 n).size≤21:=by
 have:=Lib.itoa_length_le n h0 h1
 show(Lib.itoa n).toArray.size≤21
 simpa using this
theorem Jn0 {u:Nat} (h:¬u<10):Lib.decDigits u=Lib.decDigits (u/10)++[UInt8.ofNat (48+u %10)]:=by rw[Lib.decDigits,dif_neg h]
theorem J2m {x:Nat} (h:x<10):UInt8.ofNat (IntKind.u8.wrap (48+(x:Int))).toNat=UInt8.ofNat (48+x):=by
 rw[J4b (by omega) (by omega)]
 congr 1
theorem Jla (n:Int) (h0:¬n<0) (h1:n<10):(⟨⟨[UInt8.ofNat (IntKind.u8.wrap (48+n)).toNat]⟩⟩:ByteArray)=X2 n:=by
 obtain⟨u,rfl⟩:=Int.eq_ofNat_of_zero_le (by omega:0≤n)
 refine Jzd ?_
 have e:Lib.itoa (u:Int)=Lib.decDigits u:=Lib.itoa_nonneg u
 have hu:u<10:=by omega
 rw[e,Lib.decDigits_one hu]
 exact congrArg (·::[]) (J2m hu)
theorem Kaw (n:Int):wpF Tryz.prog Kg1.g (na ()) Tryz.f194 (Jwd 0) (n,()):=by
 refine(by kernel_rfl:(0≤18→-10^0<n→n<10^1→Br (decide (n<0)) (Br (decide ((-10)<n)) (Jx5 3 2) (Jx5 4 2)) (Br (decide (n<10)) (Kjf n) (Jx5 7 2)))=_).mp ?_
 delta Kjf Br Iw
 intro _ h0 h1
 have e0:(10:Int)^0=1:=rfl
 have e1:(10:Int)^1=10:=rfl
 rw[e0] at h0
 rw[e1] at h1
 refine⟨fun h=>absurd (of_decide_eq_true h) (by omega),fun h=>⟨fun h2=>⟨⟨by omega,by decide⟩,Jla n (of_decide_eq_false h) (of_decide_eq_true h2)⟩,fun h2=>absurd (of_decide_eq_false h2) (by omega)⟩⟩
theorem Kav (k:Nat) (n:Int):wpF Tryz.prog ((194,Jwd k)::Kg1.g) (na ()) Tryz.f194 (Jwd (k+1)) (n,()):=by
 refine(by kernel_rfl:(k+1≤18→-Kfz k<n→n<10^(k+1+1)→Br (decide (n<0)) (Br (decide ((-10)<n)) ((Iw (0-n)∧k≤18∧Kkg k<0-n∧0-n<Kfz k∧Nc (1+ByteArray.size (X2 (0-n)))≤9223372036854775807)∧ByteArray.mk (Array.mk (45::([]++(X2 (0-n)).data.toList)))=X2 n) ((Kg0∧Iw (Int.tdiv n 10)∧k≤18∧Kyi k n∧Kzn n k∧Kg0∧Iw (Z75 n)∧k≤18∧Kkg k<Z75 n∧Z75 n<Kfz k∧Nc (ByteArray.size (X2 (Int.tdiv n 10))+ByteArray.size (X2 (Z75 n)))≤9223372036854775807)∧ByteArray.mk (Array.mk ((X2 (Int.tdiv n 10)).data.toList++(X2 (Z75 n)).data.toList))=X2 n)) (Br (decide (n<10)) (Kjf n) ((Kg0∧Iw (Int.tdiv n 10)∧k≤18∧Kyi k n∧Kzn n k∧Kg0∧Iw (48+Int.tmod n 10)∧0<1∧Nc (ByteArray.size (X2 (Int.tdiv n 10))+1)≤9223372036854775807)∧ByteArray.mk (Array.mk ((X2 (Int.tdiv n 10)).data.toList++[UInt8.ofNat (Int.toNat (IntKind.wrap IntKind.u8 (48+Int.tmod n 10)))]))=X2 n)))=_).mp ?_
 delta Z75 Kg0 Kfz Kkg Kzn Kyi Kjf Br Iw Nc
 intro hk h0 h1
 have hp0:(0:Int)<10^k:=Int.pow_pos (by decide)
 have hp1:(1:Int)≤10^k:=by omega
 have hp2:(10:Int)^k≤100000000000000000:=by
  have h:=Nat.pow_le_pow_right (n:=10) (by decide) (show k≤17 by omega)
  have h2:((10^k:Nat):Int)≤((10^17:Nat):Int):=Int.ofNat_le.2 h
  have h3:((10^17:Nat):Int)=100000000000000000:=by decide
  have e:((10:Int)^k)=((10^k:Nat):Int):=by simp
  omega
 have e1:(10:Int)^(k+1)=10^k*10:=Int.pow_succ ..
 have e2:(10:Int)^(k+1+1)=10^k*10*10:=by rw[Int.pow_succ,e1]
 rw[e1] at h0
 rw[e2] at h1
 rw[e1]
 generalize(10:Int)^k=p at*
 refine⟨fun h=>⟨fun h2=> ?_,fun h2=> ?_⟩,fun h=>⟨fun h2=>⟨⟨by have:=of_decide_eq_true h2;have:=of_decide_eq_false h;omega,by decide⟩,Jla n (of_decide_eq_false h) (of_decide_eq_true h2)⟩,fun h2=> ?_⟩⟩
 ·have h:=of_decide_eq_true h
  have h2:=of_decide_eq_true h2
  obtain⟨u,hu⟩:=Int.eq_ofNat_of_zero_le (by omega:0≤0-n)
  have hn:n= -(u:Int):=by omega
  have hs:=Jig (0-n) (by omega) (by omega)
  refine⟨⟨by omega,by omega,by omega,by omega,by omega⟩,Jzd ?_⟩
  rw[hu,Jtk,hn,Lib.itoa_neg u (by omega)];rfl
 ·have h:=of_decide_eq_true h
  have h2:=of_decide_eq_false h2
  obtain⟨u,hu⟩:=Int.eq_ofNat_of_zero_le (by omega:0≤0-n)
  have hn:n= -(u:Int):=by omega
  have ed:n.tdiv 10= -((u/10:Nat):Int):=by rw[hn,Int.neg_tdiv];rfl
  have em:n.tmod 10= -((u %10:Nat):Int):=by rw[hn,Int.neg_tmod];rfl
  have em2:0-n.tmod 10=((u %10:Nat):Int):=by rw[em];omega
  rw[em2,ed]
  have hs1:=Jig (-((u/10:Nat):Int)) (by omega) (by omega)
  have hs2:=Jig ((u %10:Nat):Int) (by omega) (by omega)
  refine⟨⟨by omega,by omega,by omega,by omega,by omega,by omega,by omega,by omega,by omega,by omega,by omega⟩,Jzd ?_⟩
  rw[Kay _ (by omega),Jtk,hn,Lib.itoa_neg u (by omega),Jn0 (u:=u) (by omega),Lib.decDigits_one (i:=u %10) (by omega)];rfl
 ·have h:=of_decide_eq_false h
  have h2:=of_decide_eq_false h2
  obtain⟨u,hu⟩:=Int.eq_ofNat_of_zero_le (by omega:0≤n)
  subst hu
  have ed:(u:Int).tdiv 10=((u/10:Nat):Int):=rfl
  have em:(u:Int).tmod 10=((u %10:Nat):Int):=rfl
  rw[em,ed]
  have hs1:=Jig ((u/10:Nat):Int) (by omega) (by omega)
  refine⟨⟨by omega,by omega,by omega,by omega,by omega,by omega,by omega,by decide,by omega⟩,Jzd ?_⟩
  rw[Jtk,Lib.itoa_nonneg,Jn0 (u:=u) (by omega),J2m (by omega)]
theorem J2x:∀k,Ok Tryz.prog 194 (Jwd k)
 |0=>Vs mixed Kg1.ok (by kernel_rfl) (by kernel_rfl) na fun xx=>Kaw xx.1
 |k+1=>Vs mixed (.cons (J2x k) Kg1.ok) (by kernel_rfl) rfl na fun xx=>Kav k xx.1
theorem Ko0:Ok Tryz.prog 194 (Jwd 17):=J2x 17
abbrev K3v:=Kg1.add Ko0
def Hj:List UInt8→Bool
 |[]=>true
 |b::r=>Xe (b.toNat:Int)&&Hj r
def Jsy (s:ByteArray):Bool:=Hj s.data.toList&&decide (0<s.size)
def K6l:Con:={args:=[aS],ress:=[Bo],owns:=[],pre:=fun(s,_)=>[s.size≤1000000],spec:=fun(s,_)=>(Jsy s,())}
abbrev Kde (s:ByteArray):Ann:={X:=Nat,σ:=fun k=>⟨1,[(0, .one (.str s)),(6, .one (.sl 0))],[(0, .siter s k)]⟩,inv:=fun k=>k≤s.size∧Hj s.data.toList=Hj (s.data.toList.drop k),mu:=fun k=>s.size-k}
theorem Jhk {c:Int} (h:128≤c):Xe c=false:=by
 unfold Xe
 rw[decide_eq_false (show ¬c≤57 by omega),Bool.and_false]
def Kj6 (a:Nat) (b:Bt):=a≤ByteArray.size b∧Hj (Z13 b)=Hj (List.drop a (Z13 b))
theorem Ko5:Ok Tryz.prog 186 K6l:=Jyd K3v Tryz.f186 (Uy (l:=([]:List (Nat×Func))) (by simp)) (fun xx=>X8 (Kde xx.1)) (fun xx=>fun _=>na ()) fun xx=>by
 obtain⟨(s:ByteArray),_⟩:=xx
 refine(by kernel_rfl:(ByteArray.size s≤1000000→∃(x:Nat),Sf s (Sf s (0=x))∧Kj6 x s∧∀(x:Nat),Kj6 x s→(x<ByteArray.size s→Br true (Br (Kk8 s x) (Sf true (false=Jsy s)) (∃(y:Nat),Sf s (Sf s (x+Jgj s x=y))∧Kj6 y s∧ByteArray.size s-y<ByteArray.size s-x)) (Sf true ((!Lb s B0)=Jsy s)))∧((x<ByteArray.size s→False)→Br false False (Sf true ((!Lb s B0)=Jsy s))))=_).mp ?_
 delta Z13 Kk8 Kj6 Br Sf B0 Lb
 intro hb
 refine⟨(0:Nat),⟨rfl,rfl,rfl⟩,⟨Nat.zero_le _,by simp⟩,fun(k:Nat) hk=>⟨fun h=>⟨fun _=>⟨fun h1=>⟨rfl, ?_⟩,fun h1=> ?_⟩,fun h=>(by cases h)⟩,fun h=> ?_⟩⟩
 ·rw[Jlr] at h1
  have h2:Xe (Yb s k)=false:=by simpa using h1
  unfold Jsy
  have h3:Hj s.data.toList=false:=by
   rw[hk.2,D1 h,Hj]
   by_cases ha:(s[k]'h).toNat<128
   ·rw[←(Jdm h ha).1,h2];rfl
   ·rw[Jhk (by omega)];rfl
  rw[h3];rfl
 ·rw[Jlr] at h1
  have h2:Xe (Yb s k)=true:=by simpa using h1
  by_cases ha:(s[k]'h).toNat<128
  ·obtain⟨r1,r2⟩:=Jdm h ha
   refine⟨(k+1:Nat),⟨rfl,rfl,by rw[r2]⟩,⟨by omega, ?_⟩,by omega⟩
   rw[hk.2,D1 h,Hj,←r1,h2]
   rfl
  ·have:=Jk1 h (by omega)
   rw[Jhk this] at h2
   cases h2
 ·have e:k=s.size:=Nat.le_antisymm hk.1 (Nat.le_of_not_lt h)
  refine⟨fun h=>(by cases h),fun _=>⟨rfl, ?_⟩⟩
  rw[e,List.drop_eq_nil_of_le (by simp)] at hk
  unfold Jsy
  rw[hk.2,Ji6]
  rfl
abbrev K7o:=K3v.add Ko5
abbrev K3u:=K7o
theorem Jwr (a:ByteArray):bs a.data.toList=a:=rfl
theorem Jd9 (c:UInt8):∀l:List UInt8,Lib.splitK [c] 0 (l.count c) l=Jj6 c l
 |[]=>rfl
 | x :: r => by
  have ih:=Jd9 c r
  by_cases h:x=c
  ·subst h
   rw[Jap,if_pos rfl,List.count_cons_self]
   have e:Lib.index (x::r) [x]=0:=by simp[Lib.index,List.isPrefixOf]
   rw[Lib.splitK,e,←ih]
   rfl
  ·rw[Jap,if_neg h,List.count_cons_of_ne h,←ih]
   have hp:[c].isPrefixOf (x::r)=false:=by
    have:¬c=x:=fun e=>h e.symm
    simp[List.isPrefixOf,this]
   cases hk:r.count c with
   |zero=>rfl
   | succ k =>
    have hi:Lib.index (x::r) [c]=if Lib.index r [c]== -1 then -1 else Lib.index r [c]+1:=by rw[Lib.index,hp];rfl
    by_cases h1:Lib.index r [c]= -1
    ·have e2:Lib.index (x::r) [c]= -1:=by rw[hi,h1];rfl
     simp only[Lib.splitK,e2,h1]
     rfl
    ·have hg:=Lib.index_ge r [c]
     have e2:Lib.index (x::r) [c]=Lib.index r [c]+1:=by rw[hi,if_neg (by simpa using h1)]
     obtain⟨i,hi⟩:=Int.eq_ofNat_of_zero_le (by omega:0≤Lib.index r [c])
     rw[hi] at e2
     have n1:¬((i:Int)== -1)=true:=by simp
     have n2:¬(((i:Int)+1)== -1)=true:=by simp;omega
     simp only[Lib.splitK,e2,hi]
     rw[if_neg n1,if_neg n2]
     have t1:((i:Int)+1).toNat=i+1:=by omega
     have t2:((i:Int)).toNat=i:=by omega
     simp only[t1,t2,Nat.add_zero,List.take_succ_cons,List.length_cons,List.length_nil]
     rfl
theorem Jd5 (s:ByteArray) (c:UInt8):Xx s ⟨#[c]⟩=(Jj6 c s.data.toList).map bs:=by
 have h:=Lib.splitB_data ⟨#[c]⟩ 0 (Lib.countB s ⟨#[c]⟩) s
 have hc:Lib.countB s ⟨#[c]⟩=s.data.toList.count c:=Lib.count_one c s.data.toList
 rw[hc] at h
 have h2:(Xx s ⟨#[c]⟩).map (·.data.toList)=Jj6 c s.data.toList:=by
  rw[←Jd9]
  unfold Xx
  rw[hc];exact h
 rw[←h2,List.map_map]
 exact(List.map_id' _).symm
theorem Jao (c:UInt8):∀(l w:List UInt8),w∈Jj6 c l→w.length≤l.length
 |[],w,h=>by
  have:w=[]:=by simpa[Jj6] using h
  rw[this];exact Nat.le_refl _
 | x :: r, w, h => by
  rw[Jap] at h
  split at h
  ·rcases List.mem_cons.1 h with h|h
   ·rw[h];exact Nat.zero_le _
   ·exact Nat.le_succ_of_le (Jao c r w h)
  ·split at h
   ·rename_i e;exact absurd e (J4m c r)
   ·rename_i hh t e
    rcases List.mem_cons.1 h with h|h
    ·rw[h]
     exact Nat.succ_le_succ (Jao c r hh (by rw[e];simp))
    ·exact Nat.le_succ_of_le (Jao c r w (by rw[e];simp[h]))
theorem Xg (l:List UInt8):(bs l).size=l.length:=by show l.toArray.size=_;simp
theorem J0k (r:ByteArray) (i:Nat):r.extract 0 i=bs (r.data.toList.take i):=by
 rw[←Jwr (r.extract 0 i),Lib.extract_data];simp
theorem Jpv (r:ByteArray) (i:Nat):r.extract i r.size=bs (r.data.toList.drop i):=by
 rw[←Jwr (r.extract i r.size),Lib.extract_data,List.take_of_length_le (by simp)]
theorem Jim (c:UInt8):∀l:List UInt8,(Jj6 c l).length≤l.length+1
 |[]=>Nat.le_refl _
 | x :: r => by
  have ih:=Jim c r
  rw[Jap]
  split
  ·simp;omega
  ·split
   ·simp
   ·rename_i e;rw[e] at ih;simp at ih⊢;omega
theorem Dl (c:UInt8):∀(l:List UInt8) (n:Int),Kk (l++[c]) n=if(Kk l n).2=true∧Xe c.toNat=true then(10*(Kk l n).1+(c.toNat-48),true) else(0,false)
 |[],n=>by
  show(if Xe c.toNat=true then _ else _)=_
  by_cases h:Xe c.toNat=true
  ·rw[if_pos h,if_pos ⟨rfl,h⟩];rfl
  ·rw[if_neg h,if_neg (fun q=>h q.2)]
 |x::l,n=>by
  have ih:=Dl c l (10*n+(x.toNat-48))
  show(if Xe x.toNat=true then Kk (l++[c]) (10*n+(x.toNat-48)) else(0,false))=_
  have e:Kk (x::l) n=if Xe x.toNat=true then Kk l (10*n+(x.toNat-48)) else(0,false):=rfl
  rw[e]
  by_cases h:Xe x.toNat=true
  ·rw[if_pos h,if_pos h,ih]
  ·rw[if_neg h,if_neg h,if_neg (fun q=>by cases q.1)]
theorem Ja6 (u:Nat):10≤u→Lib.decDigits u=Lib.decDigits (u/10)++[UInt8.ofNat (48+u %10)]:=fun h=>Jn0 (by omega)
theorem Ja4 {x:Nat} (h:x<10):(UInt8.ofNat (48+x)).toNat=48+x:=UInt8.toNat_ofNat_of_lt' (by show 48+x<256;omega)
theorem F7 {x:Nat} (h:x<10):Xe (UInt8.ofNat (48+x)).toNat=true:=by
 rw[Ja4 h];unfold Xe;simp;omega
theorem Jny (u:Nat):Kk (Lib.decDigits u) 0=((u:Int),true):=by
 induction u using Nat.strongRecOn with
 | ind u ih =>
  by_cases h:u<10
  ·rw[Lib.decDigits_one h]
   show(if Xe (UInt8.ofNat (48+u)).toNat=true then _ else _)=_
   rw[if_pos (F7 h),Ja4 h]
   show((_:Int),true)=_
   congr 1;omega
  ·have hd:u %10<10:=Nat.mod_lt _ (by decide)
   rw[Ja6 u (by omega),Dl,ih (u/10) (by omega),if_pos ⟨rfl,F7 hd⟩,Ja4 hd]
   congr 1;dsimp only;omega
theorem Jjv (u:Nat):∃c r,Lib.decDigits u=c::r∧Xe c.toNat=true∧(1≤u→c.toNat≠48):=by
 induction u using Nat.strongRecOn with
 | ind u ih =>
  by_cases h:u<10
  ·refine⟨_,_,Lib.decDigits_one h,F7 h,fun h1=> ?_⟩
   rw[Ja4 h];omega
  ·obtain⟨c,r,e,h1,h2⟩:=ih (u/10) (by omega)
   exact⟨c,r++[UInt8.ofNat (48+u %10)],by rw[Ja6 u (by omega),e];rfl,h1,fun _=>h2 (by omega)⟩
theorem Jfs (u:Nat):1≤(Lib.decDigits u).length:=by
 obtain⟨c,r,e,_⟩:=Jjv u
 rw[e];simp
theorem Jvy:∀(k u:Nat),((Lib.decDigits u).length≤k+1↔u<10^(k+1))
 | 0, u => by
  by_cases h:u<10
  ·rw[Lib.decDigits_one h];simp;omega
  ·have h2:=Jfs (u/10)
   rw[Ja6 u (by omega),List.length_append]
   simp only[List.length_cons,List.length_nil]
   constructor
   ·intro q;omega
   ·intro q;simp at q;omega
 | k + 1, u => by
  by_cases h:u<10
  ·rw[Lib.decDigits_one h]
   have:10≤10^(k+1+1):=by
    rw[Nat.pow_succ]
    have:=Nat.pos_of_ne_zero (n:=10^(k+1)) (by simp)
    omega
   simp;omega
  ·have ih:=Jvy k (u/10)
   rw[Ja6 u (by omega),List.length_append]
   simp only[List.length_cons,List.length_nil]
   rw[Nat.pow_succ]
   constructor
   ·intro q
    have:=ih.1 (by omega)
    omega
   ·intro q
    have:=ih.2 (by omega)
    omega
theorem Kbq:∀(k:Nat) (l:List UInt8),l.length=k+1→(Kk l 0).2=true→(1<l.length→∀c,l.head? =some c→c.toNat≠48)→l=Lib.decDigits (Kk l 0).1.toNat
 | 0, l, hl, hd, _ => by
  match l,hl with
  | [c], _ =>
   have e:Kk [c] 0=if Xe c.toNat=true then((10*0+(c.toNat-48):Int),true) else(0,false):=rfl
   by_cases h:Xe c.toNat=true
   ·rw[e,if_pos h]
    have hr:=Jfp h
    have:((10*0+((c.toNat:Int)-48))).toNat=c.toNat-48:=by omega
    dsimp only
    rw[this,Lib.decDigits_one (by omega),show 48+(c.toNat-48)=c.toNat by omega,UInt8.ofNat_toNat]
   ·rw[e,if_neg h] at hd;cases hd
 | k + 1, l, hl, hd, h0 => by
  obtain⟨i,c,rfl⟩:∃i c,l=i++[c]:=by
   rcases List.eq_nil_or_concat l with h|⟨i,c,h⟩
   ·rw[h] at hl;simp at hl
   ·exact⟨i,c,by simpa using h⟩
  have hil:i.length=k+1:=by simpa using hl
  have hs:=Dl c i 0
  by_cases hc:(Kk i 0).2=true∧Xe c.toNat=true
  ·rw[if_pos hc] at hs
   have hh:∀d,i.head? =some d→d.toNat≠48:=fun d hd=>h0 (by simp;omega) d (by
    cases i with
    |nil=>cases hd
    |cons a b=>exact hd)
   have ih:=Kbq k i hil hc.1 fun _=>hh
   have hr:=Jfp hc.2
   have hn:=(Jac (l:=i) (n:=0) (Int.le_refl _)).1
   obtain⟨m,hm⟩:=Int.eq_ofNat_of_zero_le hn
   rw[hm] at ih hs
   simp only[Int.toNat_natCast] at ih
   have hm1:1≤m:=by
    rcases Nat.eq_zero_or_pos m with h|h
    ·subst h
     rw[ih,Lib.decDigits_one (by decide)] at hh
     exact absurd rfl (hh 48 rfl)
    ·exact h
   rw[hs]
   have e:(10*(m:Int)+((c.toNat:Int)-48)).toNat=10*m+(c.toNat-48):=by omega
   dsimp only
   rw[e,Ja6 _ (by omega),show(10*m+(c.toNat-48))/10=m by omega,show 48+(10*m+(c.toNat-48)) %10=c.toNat by omega,UInt8.ofNat_toNat,←ih]
  ·rw[hs,if_neg hc] at hd;cases hd
theorem Jrr {c:UInt8} {r:List UInt8} {n:Nat} (h:48≤c.toNat∧c.toNat≤57) (h1:¬1844674407370955162≤n) (h2:¬18446744073709551616≤n*10+(c.toNat-48)):Lib.parseUint10 n (c::r)=Lib.parseUint10 (n*10+(c.toNat-48)) r:=by
 simp only[Lib.parseUint10]
 rw[if_pos h,if_neg h1,if_neg h2]
theorem Jcx (c:UInt8) (r:List UInt8) (n:Int):Kk (c::r) n=if Xe c.toNat=true then Kk r (10*n+(c.toNat-48)) else(0,false):=rfl
theorem Juk (l:List UInt8):∀(n:Nat),(Kk l n).2=true→(Kk l n).1<1000000000000000000→Lib.parseUint10 n l= .ok (Kk l n).1.toNat∧(n:Int)≤(Kk l n).1:=by
 induction l with
 |nil=>exact fun n _ _=>⟨rfl,Int.le_refl _⟩
 | cons c r ih =>
  intro n h1 h2
  by_cases h:Xe c.toNat=true
  ·rw[Jcx,if_pos h] at h1 h2⊢
   have hr:=Jfp h
   have en:(10*(n:Int)+((c.toNat:Int)-48))=((n*10+(c.toNat-48):Nat):Int):=by omega
   rw[en] at h1 h2⊢
   obtain⟨a1,a2⟩:=ih _ h1 h2
   have h3:n<1000000000000000000:=by omega
   refine⟨?_,by omega⟩
   rw[Jrr hr (by omega) (by omega)]
   exact a1
  ·rw[Jcx,if_neg h] at h1;cases h1
theorem Ju0 {u:Nat} (h:u<1000000000):Lib.parseMag (Lib.decDigits u)= .ok u:=by
 obtain⟨c,r,e,_⟩:=Jjv u
 unfold Lib.parseMag
 rw[if_neg (by rw[e];simp)]
 have hd:=Jny u
 have:=(Juk (Lib.decDigits u) 0 (by show(Kk _ 0).2=true;rw[hd]) (by show(Kk _ 0).1<_;rw[hd];dsimp only;omega)).1
 rw[this]
 show Lib.NumEnd.ok (Kk _ 0).1.toNat=_
 rw[hd];rfl
theorem Jw0 {v:Int} (h0: -1000000000<v) (h1:v<1000000000):Lib.atoiAll (Lib.itoa v)= .ok v:=by
 rcases(by omega:v<0∨0≤v) with hv|hv
 ·obtain⟨u,hu⟩:=Int.eq_ofNat_of_zero_le (by omega:0≤-v)
  have hn:v= -(u:Int):=by omega
  subst hn
  rw[Lib.itoa_neg u (by omega)]
  have hm:=Ju0 (u:=u) (by omega)
  have e45:(45:UInt8).toNat=45:=rfl
  simp only[Lib.atoiAll,e45]
  rw[if_pos (Or.inr trivial),hm]
  dsimp only
  rw[if_neg (by omega),if_neg (by omega),if_pos trivial]
 ·obtain⟨u,rfl⟩:=Int.eq_ofNat_of_zero_le hv
  have e:Lib.itoa (u:Int)=Lib.decDigits u:=Lib.itoa_nonneg u
  rw[e]
  have hm:=Ju0 (u:=u) (by omega)
  obtain⟨c,r,e,h3,h4⟩:=Jjv u
  have hr:=Jfp h3
  rw[e] at hm⊢
  simp only[Lib.atoiAll]
  rw[if_neg (by omega),hm]
  dsimp only
  rw[if_neg (by omega),if_neg (by omega),if_neg (by omega)]
theorem Jr9 {s:ByteArray} (h:(Ka s).2=true):∃u:Nat,u<1000000000∧s.data.toList=Lib.decDigits u∧(Ka s).1=u:=by
 have hr:=Jnx s
 obtain⟨u,hu⟩:=Int.eq_ofNat_of_zero_le hr.1
 by_cases hb:Ja5 s=true
 ·unfold Ka at h;rw[if_pos hb] at h;cases h
 ·have ed:Ka s=Kk s.data.toList 0:=by unfold Ka;rw[if_neg hb]
  have hb:Ja5 s=false:=by simpa using hb
  unfold Ja5 at hb
  simp only[Bool.or_eq_false_iff,decide_eq_false_iff_not,Bool.and_eq_false_iff] at hb
  obtain⟨⟨b1,b2⟩,b3⟩:=hb
  have hl:s.data.toList.length=s.size:=by simp
  have:=Kbq (s.size-1) s.data.toList (by omega) (by rw[←ed];exact h) (fun hl2 c hc=>by
   rcases b3 with b3|b3
   ·omega
   ·intro q
    apply b3
    have:Ja9 s 0=c.toNat:=by
     unfold Ja9
     rw[List.getD_eq_getElem?_getD]
     have e0:s.data.toList[(0:Int).toNat]? =some c:=by rw[←hc];simp[List.head?_eq_getElem?]
     rw[e0];rfl
    rw[this,q];rfl)
  rw[←ed,hu] at this
  exact⟨u,by omega,this,hu⟩
theorem Jf1:∀{l:List UInt8} {n:Int},Hj l=true→(Kk l n).2=true
 |[],_,_=>rfl
 |c::r,n,h=>by
  rw[Hj,Bool.and_eq_true] at h
  rw[Kk,if_pos h.1]
  exact Jf1 h.2
theorem Jff:∀{l:List UInt8} {n:Int},(Kk l n).2=true→Hj l=true
 |[],_,_=>rfl
 | c :: r, n, h => by
  rw[Kk] at h
  by_cases q:Xe c.toNat=true
  ·rw[if_pos q] at h
   rw[Hj,q,Jff h];rfl
  ·rw[if_neg q] at h;cases h
theorem Jfq:∀{l:List UInt8} {n:Int},(Kk l n).2=false→Kk l n=(0,false)
 |[],_,h=>by cases h
 |c::r,n,h=>by
  rw[Kk] at h⊢
  by_cases q:Xe c.toNat=true
  ·rw[if_pos q] at h⊢;exact Jfq h
  ·rw[if_neg q]
theorem Ju9 (s:ByteArray):(bif bif !Jsy s then true else decide (9<(s.size:Int)) then true else bif decide (1<(s.size:Int)) then(((s.data.toList.getD 0 0).toNat:Int)==48) else false)= !(Ka s).2:=by
 have hb:=Jwy s
 have hl:s.data.toList.length=s.size:=by simp
 unfold Jsy
 cases ha:Hj s.data.toList with
 | false =>
  have e:(Ka s).2=false:=by
   unfold Ka
   split
   ·rfl
   ·cases h:(Kk s.data.toList 0).2 with
    |false=>rfl
    |true=>rw[Jff h] at ha;cases ha
  rw[e];rfl
 | true =>
  have e:(Ka s).2= !Ja5 s:=by
   unfold Ka
   cases hd:Ja5 s with
   |true=>rfl
   |false=>exact Jf1 ha
  rw[e,←hb]
  have e1:decide (0<s.size)= !((s.size:Int)==0):=by
   by_cases q:s.size=0
   ·rw[q];rfl
   ·rw[decide_eq_true (by omega),beq_eq_false_iff_ne.2 (by omega)];rfl
  rw[e1]
  cases((s.size:Int)==0)<;>simp
theorem Jsc {s:ByteArray} (h:(Ka s).2=true):Js0 s=(Ka s).1:=by
 obtain⟨u,h1,h2,h3⟩:=Jr9 h
 have e:Lib.itoa (u:Int)=Lib.decDigits u:=Lib.itoa_nonneg u
 have:=Jw0 (v:=(u:Int)) (by omega) (by omega)
 unfold Js0
 rw[h2,←e,this,h3]
def K1n (a:Bt):=bif !Jsy a then true else decide (9<Nc (ByteArray.size a))
theorem Ko4:Ok Tryz.prog 187 J56:=okW K3u Tryz.f187 na fun xx=>by
 obtain⟨(s:ByteArray),_⟩:=xx
 refine(by kernel_rfl:(ByteArray.size s≤1000000→(ByteArray.size s≤1000000∧(K1n s=false∧decide (1<Nc (ByteArray.size s))=true→Bd 0 (Nc (ByteArray.size s))))∧Br (bif K1n s then true else bif decide (1<Nc (ByteArray.size s)) then Kl2 s==48 else false) (0=(Ka s).1∧false=(Ka s).2) (ByteArray.size s≤1000000∧Js0 s=(Ka s).1∧true=(Ka s).2))=_).mp ?_
 delta Z13 Kl2 K1n Br Bd Nc
 intro hs
 rw[Ju9]
 refine⟨⟨hs,fun h=>⟨Int.le_refl _,by have:=of_decide_eq_true h.2;omega⟩⟩,fun h=> ?_,fun h=> ?_⟩
 ·have h:(Ka s).2=false:=by simpa using h
  have e:Ka s=(0,false):=by
   unfold Ka at h⊢
   split
   ·rfl
   ·rename_i q
    rw[if_neg q] at h
    exact Jfq h
  rw[e];exact⟨rfl,rfl⟩
 ·have h:(Ka s).2=true:=by simpa using h
  exact⟨hs,Jsc h,h.symm⟩
abbrev K3t:=K3u.add Ko4
def Jst:List UInt8→Int→Int
 |[],x=>x
 |b::r,x=>Jst r ((341*x+(b.toNat:Int)).tmod 9999721)
def Jgh (s:ByteArray):Int:=Jst s.data.toList 1
def K16 (l:List UInt8):List UInt8:=List.replicate (7-l.length) 48++l
def Jor (s:ByteArray):ByteArray:=bs (K16 (Lib.itoa (Jgh s)))
theorem Jtn:∀{l:List UInt8} {x:Int},0≤x∧x<9999721→0≤Jst l x∧Jst l x<9999721
 |[],_,h=>h
 |b::r,x,h=>by
  unfold Jst
  have hb:(0:Int)≤b.toNat:=by omega
  exact Jtn ⟨Int.tmod_nonneg _ (by omega),Int.tmod_lt_of_pos _ (by decide)⟩
theorem Jm2 (s:ByteArray):0≤Jgh s∧Jgh s<9999721:=Jtn ⟨by decide,by decide⟩
theorem Jij (s:ByteArray):1≤(Lib.itoa (Jgh s)).length∧(Lib.itoa (Jgh s)).length≤7:=by
 obtain⟨h0,h1⟩:=Jm2 s
 obtain⟨u,hu⟩:=Int.eq_ofNat_of_zero_le h0
 rw[hu] at h1⊢
 rw[show Lib.itoa (u:Int)=Lib.decDigits u from Lib.itoa_nonneg u]
 exact⟨Jfs u,(Jvy 6 u).2 (by have:u<9999721:=(by omega);omega)⟩
theorem K4p (n:Nat):Lib.repeatL [48] n=List.replicate n 48:=by
 induction n with
 |zero=>rfl
 |succ n ih=>rw[List.replicate_succ,←ih];rfl
def K2e:Con:={args:=[aS],ress:=[tS],owns:=[],pre:=fun(s,_)=>[s.size≤1000000],spec:=fun(s,_)=>(Jor s,())}
abbrev Kc5 (s:ByteArray):Ann:={X:=Nat×Int,σ:=fun(k,x)=>⟨0,[(0, .one (.str s)),(3, .one (.int .i64 x)),(7, .one (.int .i64 s.size)),(8, .one (.int .i64 k))],[]⟩,inv:=fun(k,x)=>k≤s.size∧(0≤x∧x<9999721)∧Jst (s.data.toList.drop k) x=Jgh s,mu:=fun(k,_)=>s.size-k}
theorem Jwo (s:ByteArray) (k:Nat):(s.data.toList.getD k 0).toNat<256:=(s.data.toList.getD k 0).toNat_lt
def Kgv (a:Nat×Int):=7-Nc (ByteArray.size (Vk a.2))
def K1c (a:Nat×Int):=Ka4 (ByteArray.mk (Array.mk [48])) (Kgv a)
def Kle (a:Nat×Int) (b:Bt):=341*a.2+Nc (UInt8.toNat (List.getD (Z13 b) a.1 0))
def Kj4 (a:Nat×Int) (b:Bt) (c:Nat×Int):=Int.tmod (Kle a b) 9999721=c.2
def J65 (a:Nat×Int) (b:Bt):=a.1≤ByteArray.size b∧Bd a.2 9999721∧Jst (List.drop a.1 (Z13 b)) a.2=Jgh b
def Kis (a:Nat×Int) (b:Bt) (c:Nat×Int):=J65 a b∧ByteArray.size b-a.1<ByteArray.size b-c.1
def Khv (a:Nat×Int) (b:Bt):=Iw (341*a.2)∧Bd (Nc a.1) (Nc (ByteArray.size b))∧Iw (Nc (UInt8.toNat (List.getD (Z13 b) a.1 0)))∧Iw (Kle a b)∧((9999721:Int)=0→False)
theorem Ko6:Ok Tryz.prog 184 K2e:=okW K3t Tryz.f184 (fun xx=>X8 (Kc5 xx.1)) fun xx=>by
 obtain⟨(s:ByteArray),_⟩:=xx
 refine(by kernel_rfl:(ByteArray.size s≤1000000→∃(x:Nat×Int),Sf s (1=x.2∧Si (Nc (ByteArray.size s)) (0=Nc x.1))∧J65 x s∧∀(x:Nat×Int),J65 x s→Br (decide (Nc x.1<Nc (ByteArray.size s))) (Khv x s∧Z34 x∧∃(y:Nat×Int),Sf s (Kj4 x s y∧Si (Nc (ByteArray.size s)) (Jsk x y))∧Kis y s x) (Iw x.2∧(Iw (Kgv x)∧1≤1000000∧(0≤Kgv x∧Kgv x≤1000000)∧Nc (ByteArray.size (K1c x)+ByteArray.size (Vk x.2))≤9223372036854775807)∧ByteArray.mk (Array.mk ((K1c x).data.toList++(Vk x.2).data.toList))=Jor s))=_).mp ?_
 delta Z13 Z34 Jsk Kgv K1c Kle Kj4 J65 Kis Khv Br Iw Bd Sf Si Nc
 intro hs
 refine⟨((0:Nat),(1:Int)),by(repeat' first|exact rfl|exact⟨⟩|apply And.intro|omega|dsimp only;omega),⟨Nat.zero_le _,by(first|omega|dsimp only;omega),rfl⟩,fun(y:Nat×Int) hk=>⟨fun h=> ?_,fun h=> ?_⟩⟩
 ·obtain⟨k,x⟩:=y
  have hlt:k<s.size:=by simpa using h
  obtain⟨k1,k2,k3⟩:=hk
  dsimp only at k1 k2
  rw[Dn hlt,Jst] at k3
  have hb:=Jwo s k
  refine⟨by(repeat' first|apply And.intro|(first|omega|dsimp only;omega)),by(repeat' first|apply And.intro|(first|omega|dsimp only;omega)),(k+1,_),⟨rfl,rfl,rfl, ?_⟩,⟨by(first|omega|dsimp only;omega), ?_,k3⟩,by(first|omega|dsimp only;omega)⟩
  ·dsimp only;push_cast;rfl
  ·exact⟨Int.tmod_nonneg _ (by(first|omega|dsimp only;omega)),Int.tmod_lt_of_pos _ (by decide)⟩
 ·obtain⟨k,x⟩:=y
  have hlt:¬k<s.size:=by simpa using h
  obtain⟨k1,k2,k3⟩:=hk
  have e:k=s.size:=by omega
  rw[e,List.drop_eq_nil_of_le (by simp),Jst] at k3
  have k3:x=Jgh s:=k3
  have hl:=Jij s
  dsimp only
  rw[k3]
  have hz:(Vk (Jgh s)).size=(Lib.itoa (Jgh s)).length:=rfl
  rw[hz]
  have hr:Ka4 {data:={toList:=[48]}} (7-((Lib.itoa (Jgh s)).length:Int))=bs (List.replicate (7-(Lib.itoa (Jgh s)).length) 48):=by
   unfold Ka4
   rw[show(7-((Lib.itoa (Jgh s)).length:Int)).toNat=7-(Lib.itoa (Jgh s)).length by omega]
   exact congrArg bs (K4p _)
  have hb:=Jm2 s
  rw[hr,Xg,List.length_replicate]
  exact⟨by(repeat' first|apply And.intro|(first|omega|dsimp only;omega)),⟨by(repeat' first|apply And.intro|(first|omega|dsimp only;omega)),by decide,by(repeat' first|apply And.intro|(first|omega|dsimp only;omega)),by omega⟩,rfl⟩
abbrev K3s:=K3t.add Ko6
def J04 (e:Ev):List ByteArray:=Vk e.1::e.2.1::(e.2.2.1++e.2.2.2.1.map Vk)
def Zw (e:Ev):ByteArray:=Vq (J04 e) ⟨⟨[32]⟩⟩
def Kce:Con:={args:=[.val false (.list 3 sI), .fn [I] tS],ress:=[(false, .list 9 .str)],owns:=[true],pre:=fun(l,(q,_),_)=>[l.length≤1000000,∀x∈l,Ur (q (x,()))],spec:=fun(l,(_,f),_)=>(l.map fun x=>f (x,()),())}
def J96 (a:Int×Unit→Bt) (b:Nat) (c:Li):=List.map (fun(x:Int)=>a (x,PUnit.unit)) (List.take b c)
theorem Kov:Ok Tryz.prog 199 Kce:=okW K3s Tryz.f199 (fun xx=>X8 (Jbf 3 9 sI xx.1 tS false xx.2.1.1 xx.2.1.2)) fun xx=>by
 obtain⟨(l:List Int),⟨(q:Int×Unit→List Prop),(f:Int×Unit→ByteArray)⟩,_⟩:=xx
 refine(by kernel_rfl:(Z51 l→Klb l q→∃(x:Nat),Si (Ln l) (0=Nc x∧Sf l ((fun(x:Int×PUnit)=>q x)=q∧(fun(x:Int×PUnit)=>f x)=f∧List.length (J96 f x l)=0))∧x≤List.length l∧∀(x:Nat),x≤List.length l→Br (decide (Nc x<Ln l)) (Tw (Bd (Nc x) (Ln l))∧(Ur (q (Z16 l x,PUnit.unit))∧(List.length (J96 f x l)+1)*16≤140737488355328)∧Z19 x∧∃(y:Nat),Si (Ln l) (Z95 x y∧Sf l ((fun(x:Int×PUnit)=>q x)=q∧(fun(x:Int×PUnit)=>f x)=f∧J96 f x l++[f (Z16 l x,PUnit.unit)]=J96 f y l))∧y≤List.length l∧J31 l y x) (J96 f x l=List.map (fun(x:Int)=>f (x,PUnit.unit)) l))=_).mp ?_
 delta Z16 Z19 Z51 Z95 J31 J7i J96 Klb Br Iw Bd Tw Sf Si Ln Nc
 intro hb hq
 refine⟨(0:Nat),⟨rfl,rfl,rfl,rfl,rfl,by simp⟩,Nat.zero_le _,fun(k:Nat) hk=>⟨fun h=> ?_,fun h=> ?_⟩⟩
 ·have hlt:k<l.length:=by simpa using h
  refine⟨by omega,⟨hq (l.getD k 0) (Je hlt),by simp only[List.length_map,List.length_take];omega⟩,by omega,(k+1:Nat),⟨rfl,by simp,rfl,rfl,rfl, ?_⟩,by omega,by omega⟩
  rw[←Us (d:=0) hlt,List.map_append];rfl
 ·have hlt:¬k<l.length:=by simpa using h
  rw[List.take_of_length_le (by omega)]
abbrev K3r:=K3s.add Kov
structure L3 (e:Ev):Prop where
 num: -999999999≤e.1∧e.1≤999999999
 nn:e.2.2.1.length≤1000
 nv:e.2.2.2.1.length≤1000
 val:∀v∈e.2.2.2.1,-999999999≤v∧v≤999999999
 siz:((J04 e).map fun s=>s.size+1).sum≤1000000
theorem Jji {sep:List UInt8} (hs:sep.length=1):∀{l:List (List UInt8)},(Lib.join l sep).length≤(l.map fun x=>x.length+1).sum
 |[]=>by simp[Lib.join,List.intercalate]
 |[x]=>by simp[Lib.join,List.intercalate,List.intersperse]
 |x::y::r=>by
  have ih:=Jji hs (l:=y::r)
  have e:Lib.join (x::y::r) sep=x++sep++Lib.join (y::r) sep:=by simp[Lib.join,List.intercalate,List.intersperse]
  rw[e]
  simp only[List.length_append,List.map_cons,List.sum_cons] at ih⊢
  omega
theorem Jhr {e:Ev} (h:L3 e):(Lib.join ((J04 e).map (·.data.toList)) [32]).length≤1000000:=by
 refine Nat.le_trans (Jji (sep:=[32]) rfl) (Nat.le_trans (Nat.le_of_eq ?_) h.siz)
 rw[List.map_map]
 congr 1
def Kr1:Con:={args:=[aEv],ress:=[tS],owns:=[],pre:=fun(e,_)=>[L3 e],spec:=fun(e,_)=>(Zw e,())}
def Hr:=ByteArray.mk (Array.mk [32])
def Kl8 (a:Ls) (b:Li):=[]++a++List.map (fun(x:Int)=>Vk x) b
theorem Ko7:Ok Tryz.prog 183 Kr1:=okW K3r Tryz.f183 na fun xx=>by
 obtain⟨⟨(n:Int),(k:ByteArray),(ns:List ByteArray),(vs:List Int),(tx:ByteArray)⟩,_⟩:=xx
 refine(by kernel_rfl:(L3 (n,k,ns,vs,tx)→(Iw n∧(2+List.length ns)*16≤140737488355328)∧(Z51 vs∧(∀(x:Int),J7i vs x→Iw x)∧(List.length (Vk n::k::([]++ns))+List.length (List.map (fun(x:Int)=>Vk x) vs))*16≤140737488355328∧List.length (Vk n::k::Kl8 ns vs)≤1000000∧List.length (Lib.join ((Vk n).data.1::k.data.1::List.map (fun(x:ByteArray)=>Z13 x) (Kl8 ns vs)) [32])≤140737488355328)∧Vq (Vk n::k::Kl8 ns vs) Hr=Zw (n,k,ns,vs,tx))=_).mp ?_
 delta Z13 Z51 Hr J7i Kl8 Iw
 intro h
 have h1: -999999999≤n∧n≤999999999:=h.num
 have h2:ns.length≤1000:=h.nn
 have h3:vs.length≤1000:=h.nv
 have hs:=Jhr h
 simp only[List.nil_append,List.length_cons,List.length_append,List.length_map]
 exact⟨by(repeat' first|apply And.intro|(first|omega|dsimp only;omega)),⟨by omega,fun x hx=>by have:=h.val x hx;omega,by omega,by omega,Nat.le_trans hs (by decide)⟩,rfl⟩
abbrev K3q:=K3r.add Ko7
theorem Jkt (s:ByteArray):(Jor s).size=7:=by
 have h:=Jij s
 unfold Jor K16
 rw[Xg,List.length_append,List.length_replicate]
 omega
theorem Jp4 {e:Ev} (h:L3 e):(Zw e).size≤1000000:=Jhr h
def J4r (e:Ev):ByteArray:=bs ((Zw e).data.toList++[35]++(Jor (Zw e)).data.toList++[10])
def K59:Con:={args:=[aEv],ress:=[tS],owns:=[],pre:=fun(e,_)=>[L3 e],spec:=fun(e,_)=>(J4r e,())}
def Kwj (a:Int) (b:Bt) (c:Ls) (d:Li) (e:Bt):=Array.mk ((Array.mk ((Zw (a,b,c,d,e)).data.toList++[35])).toList++(Jor (Zw (a,b,c,d,e))).data.toList)
theorem Kqx:Ok Tryz.prog 106 K59:=okW K3q Tryz.f106 na fun xx=>by
 obtain⟨⟨(n:Int),(k:ByteArray),(ns:List ByteArray),(vs:List Int),(tx:ByteArray)⟩,_⟩:=xx
 refine(by kernel_rfl:(L3 (n,k,ns,vs,tx)→L3 (n,k,ns,vs,tx)∧(Nc (ByteArray.size (Zw (n,k,ns,vs,tx))+1)≤9223372036854775807∧ByteArray.size (Zw (n,k,ns,vs,tx))≤1000000∧Nc (ByteArray.size (ByteArray.mk (Array.mk ((Zw (n,k,ns,vs,tx)).data.toList++[35])))+ByteArray.size (Jor (Zw (n,k,ns,vs,tx))))≤9223372036854775807∧Nc (ByteArray.size (ByteArray.mk (Kwj n k ns vs tx))+1)≤9223372036854775807)∧ByteArray.mk (Array.mk ((Kwj n k ns vs tx).toList++[10]))=J4r (n,k,ns,vs,tx))=_).mp ?_
 delta Kwj Nc
 intro h
 have h1:=Jp4 h
 have h2:=Jkt (Zw (n,k,ns,vs,tx))
 have h3:(bs ((Zw (n,k,ns,vs,tx)).data.toList++[35])).size=(Zw (n,k,ns,vs,tx)).size+1:=by rw[Xg,List.length_append];simp
 have h4:(bs ((Zw (n,k,ns,vs,tx)).data.toList++[35]++(Jor (Zw (n,k,ns,vs,tx))).data.toList)).size=(Zw (n,k,ns,vs,tx)).size+8:=by rw[Xg,List.length_append,List.length_append];simp[h2]
 refine⟨h,⟨by omega,h1, ?_, ?_⟩,rfl⟩
 ·show((bs ((Zw (n,k,ns,vs,tx)).data.toList++[35])).size+(Jor (Zw (n,k,ns,vs,tx))).size:Nat)≤(9223372036854775807:Int)
  omega
 ·show((bs ((Zw (n,k,ns,vs,tx)).data.toList++[35]++(Jor (Zw (n,k,ns,vs,tx))).data.toList)).size+1:Nat)≤(9223372036854775807:Int)
  omega
abbrev K7n:=K3q.add Kqx
abbrev K3p:=K7n.add Kns
abbrev Tk:=List ByteArray×Bool
def U3:Tk→ByteArray×Tk
 |([],_)=>(Ja,[],true)
 |(w::l,b)=>bif w.toList==Ja.toList then(Ja,[],true) else(w,l,b)
def Ly (t:Tk):Bool:=bif (t.1.length:Int)==0 then true else(t.1.getD 0 Ja).toList==Ja.toList
theorem Jak:∀(t:Tk),U3 t=bif Ly t then(Ja,[],true) else(t.1.getD 0 Ja,t.1.drop 1,t.2)
 |([],_)=>rfl
 | (w :: l, b) => by
  have e:Ly (w::l,b)=(w.toList==Ja.toList):=by
   unfold Ly
   rw[beq_eq_false_iff_ne.2 (show(((w::l,b):Tk).1.length:Int)≠0 by simp;omega)];rfl
  rw[e]
  show(bif w.toList==Ja.toList then(Ja,[],true) else(w,l,b))=_
  cases w.toList==Ja.toList<;>rfl
theorem Jdt {t:Tk} (h:Ly t=false):0<t.1.length:=by
 unfold Ly at h
 by_cases q:t.1.length=0
 ·rw[q] at h;cases h
 ·omega
def J4h (t:Tk):Int×Tk:=((Ka (U3 t).1).1,(U3 t).2.1,bif (U3 t).2.2 then true else !(Ka (U3 t).1).2)
def Dd:Nat→Tk→List ByteArray→List ByteArray×Tk
 |0,t,o=>(o,t)
 |n+1,t,o=>Dd n (U3 t).2 (o++[(U3 t).1])
def Jal:Nat→Tk→List Int→List Int×Tk
 |0,t,o=>(o,t)
 |n+1,t,o=>Jal n (J4h t).2 (o++[(J4h t).1])
def evz:Ev:=(0,Ja,[],[],Ja)
theorem Jjg (k:ByteArray):(Jj k).1.length≤3∧0≤(Jj k).2.1∧(Jj k).2.1≤4:=by
 cases h:Ym k with
 | false =>
  have e:Jj k=([],0,none,none,none):=by
   unfold Ym at h
   unfold Jj
   cases hm:Up .str k Lx with
   |none=>rfl
   |some v=>rw[hm] at h;cases h
  rw[e];decide
 |true=>
  rcases U4 h with h|h|h|h|h|h|h|h|h|h|h<;>subst h
  all_goals first|(rw[F6];decide)|(rw[K2];decide)|(rw[U7];decide)|(rw[Un];decide)|(rw[Ud];decide)|(rw[Vd];decide)|(rw[Ku];decide)|(rw[Kg];decide)|(rw[Kz];decide)|(rw[Ky];decide)|(rw[Kt];decide)
def Xz (ws:List ByteArray):List ByteArray×Tk:=Dd (Jj (U3 (ws,false)).1).1.length (U3 (ws,false)).2 []
def Jcn (ws:List ByteArray):List Int×Tk:=Jal (Jj (U3 (ws,false)).1).2.1.toNat (Xz ws).2 []
def Y2 (ws:List ByteArray):Ev×Bool:=bif Ym (U3 (ws,false)).1 then((0,(U3 (ws,false)).1,(Xz ws).1,(Jcn ws).1,Ja),bif !(Jcn ws).2.2 then((Jcn ws).2.1.length:Int)==0 else false) else(evz,false)
def Krk:Con:={args:=[.val false (.list 9 .str)],ress:=[(true,sEv),Bo],owns:=[],pre:=fun(ws,_)=>[ws.length≤1000000,∀w∈ws,w.size≤1000000],spec:=fun(ws,_)=>((Y2 ws).1,(Y2 ws).2,())}
abbrev J6m (ws:List ByteArray):Nat→Option Ann:=fun id=>if id=0 then some {X:=Nat×Tk×List ByteArray,σ:=fun(i,(rem,b),o)=>⟨9,[(2, .one (.ptr 1 0)),(4, .one (.ptr 2 0)),(5, .one (.fv 3)),(6, .one (.fv 4)),(7, .one (.ptr 5 0)),(8, .one (.ptr 7 0)),(34, .one (.int .i64 (Jj (U3 (ws,false)).1).1.length)),(35, .one (.int .i64 i))],[(1, .box 67 [.int .i64 0, .str Ja, .val (.slice none 0 0), .val (.slice none 0 0), .str Ja]),(2, .box 279 [.sl 0, .bool b]),(3, .clo 210 [.one (.ptr 2 0)] []),(4, .clo 211 [.one (.ptr 2 0)] []),(5, .box 67 [.int .i64 0, .str (U3 (ws,false)).1, .sl 6, .val (.slice none 0 0), .str Ja]),(7, .box 173 [.sl 8, .int .i64 (Jj (U3 (ws,false)).1).2.1, .fno (Jj (U3 (ws,false)).1).2.2.1, .fno (Jj (U3 (ws,false)).1).2.2.2.1, .fno (Jj (U3 (ws,false)).1).2.2.2.2]),(6, .own 9 .str o),(8, .imm 251 Jzn (Jj (U3 (ws,false)).1).1),(0, .imm 9 .str rem)]⟩,inv:=fun(i,t,o)=>i≤(Jj (U3 (ws,false)).1).1.length∧t.1.length≤1000000∧(∀w∈t.1,w.size≤1000000)∧o.length=i∧Dd ((Jj (U3 (ws,false)).1).1.length-i) t o=Xz ws,mu:=fun(i,_)=>(Jj (U3 (ws,false)).1).1.length-i}
 else if id=2 then some {X:=Nat×Tk×List Int,σ:=fun(i,(rem,b),o)=>⟨10,[(2, .one (.ptr 1 0)),(4, .one (.ptr 2 0)),(6, .one (.fv 4)),(7, .one (.ptr 5 0)),(47, .one (.int .i64 (Jj (U3 (ws,false)).1).2.1)),(48, .one (.int .i64 i))],[(1, .box 67 [.int .i64 0, .str Ja, .val (.slice none 0 0), .val (.slice none 0 0), .str Ja]),(2, .box 279 [.sl 0, .bool b]),(4, .clo 211 [.one (.ptr 2 0)] []),(5, .box 67 [.int .i64 0, .str (U3 (ws,false)).1, .sl 6, .sl 9, .str Ja]),(6, .own 9 .str (Xz ws).1),(9, .own 3 sI o),(0, .imm 9 .str rem)]⟩,inv:=fun(i,t,o)=>i≤(Jj (U3 (ws,false)).1).2.1.toNat∧t.1.length≤1000000∧(∀w∈t.1,w.size≤1000000)∧o.length=i∧Jal ((Jj (U3 (ws,false)).1).2.1.toNat-i) t o=Jcn ws,mu:=fun(i,_)=>(Jj (U3 (ws,false)).1).2.1.toNat-i}
 else none
def Z67 (a:Ls):=(Jj (U3 (a,false)).1).1
def Z70 (a:Ls):=(Jj (U3 (a,false)).1).2
def Z86 (a:Ls):=(Z70 a).1
def Kgz (a:Ls):=(Z70 a).2.1
def Kgy (a:Ls):=(Z70 a).2.2.1
def Kgx (a:Ls):=(Z70 a).2.2.2
def Kgw (a:Nat×Tk×Li):=List.getD a.2.1.1 0 B0
def J7m (a:Ls):=Int.toNat (Z86 a)
def Kad (a:Ls):=Ln (Z67 a)
def J7f (a:Ls):=List.length (Z67 a)
def K1t (a:Nat×Tk×Ls):=(List.length a.2.2+1)*16≤140737488355328
def K1p (a:Ls):=(Jj (U3 (a,false)).1).1=Z67 a
def Kz7 (a:Ls):=Sf true (D9=(Y2 a).1∧false=(Y2 a).2)
def Kxj (a:Ls):=Up Sch.str (Z91 a) Lx
def Khr (a:Ls):=Option.getD (Kxj a) J9w
def Kun (a:Nat×(Ls×Bool)×Li) (b:Ls):=a.1≤J7m b∧List.length a.2.1.1≤1000000∧(∀(w:ByteArray),w∈a.2.1.1→ByteArray.size w≤1000000)∧List.length a.2.2=a.1∧Jal (J7m b-a.1) a.2.1 a.2.2=Jcn b
def Kum (a:Ls):=(Khr a).2
def Kul (a:Ls):=(Kum a).2
def Kuk (a:Ls):=(Kul a).2
def Kuc (a:Nat×(Ls×Bool)×Ls) (b:Ls):=a.1≤J7f b∧List.length a.2.1.1≤1000000∧(∀(w:ByteArray),w∈a.2.1.1→ByteArray.size w≤1000000)∧List.length a.2.2=a.1∧Dd (J7f b-a.1) a.2.1 a.2.2=Xz b
def Kt1 (a:Nat×(Ls×Bool)×Li) (b:Ls) (c:Nat×Tk×Li):=Kun a b∧J7m b-a.1<J7m b-c.1
def Ktt (a:Nat×(Ls×Bool)×Ls) (b:Ls) (c:Nat×Tk×Ls):=Kuc a b∧J7f b-a.1<J7f b-c.1
def J7p (a:Nat×(Ls×Bool)×Ls) (b:Ls):=Kuc a b∧∀(x:Nat×Tk×List ByteArray),x.1≤J7f b∧List.length x.2.1.1≤1000000∧(∀(w:ByteArray),w∈x.2.1.1→ByteArray.size w≤1000000)∧List.length x.2.2=x.1∧Dd (J7f b-x.1) x.2.1 x.2.2=Xz b→Br (decide (Nc x.1<Kad b)) (Tw ((Ln x.2.1.1==0)=false→Bd 0 (Ln x.2.1.1))∧Br (bif Ln x.2.1.1==0 then true else Lb (List.getD x.2.1.1 0 B0) B0) (K1t x∧Iw (Nc x.1+1)∧∃(y:Nat×(List ByteArray×Bool)×List ByteArray),Si (Kad b) (Nc x.1+1=Nc y.1∧Si 0 (Sf Ja (Sf Vi (Sf Vi (Sf Ja (true=y.2.1.2∧Si 0 (Sf (U3 (b,false)).1 (Sf Vi (Sf Ja (Si (Z86 b) (Sf (Kgz b) (Sf (Kgy b) (Sf (Kgx b) (x.2.2++[B0]=y.2.2∧K1p b∧List.length y.2.1.1=0))))))))))))))∧Ktt y b x) (Tw (Bd 0 (Ln x.2.1.1))∧((0:Int)≤1∧1≤Ln x.2.1.1∧Ln x.2.1.1≤Ln x.2.1.1)∧K1t x∧Iw (Nc x.1+1)∧∃(y:Nat×(List ByteArray×Bool)×List ByteArray),Si (Kad b) (Nc x.1+1=Nc y.1∧Si 0 (Sf Ja (Sf Vi (Sf Vi (Sf Ja (x.2.1.2=y.2.1.2∧Si 0 (Sf (U3 (b,false)).1 (Sf Vi (Sf Ja (Si (Z86 b) (Sf (Kgz b) (Sf (Kgy b) (Sf (Kgx b) (x.2.2++[List.getD x.2.1.1 0 B0]=y.2.2∧K1p b∧List.drop 1 (List.take (List.length x.2.1.1) x.2.1.1)=y.2.1.1))))))))))))))∧Ktt y b x)) (∃(x_1:Nat×(List ByteArray×Bool)×List Int),Si (Z86 b) (0=Nc x_1.1∧Si 0 (Sf Ja (Sf Vi (Sf Vi (Sf Ja (x.2.1.2=x_1.2.1.2∧Si 0 (Sf (U3 (b,false)).1 (Sf Ja (x.2.2=(Xz b).1∧List.length x_1.2.2=0∧x.2.1.1=x_1.2.1.1)))))))))∧Kun x_1 b∧∀(x:Nat×Tk×List Int),x.1≤J7m b∧List.length x.2.1.1≤1000000∧(∀(w:ByteArray),w∈x.2.1.1→ByteArray.size w≤1000000)∧List.length x.2.2=x.1∧Jal (J7m b-x.1) x.2.1 x.2.2=Jcn b→Br (decide (Nc x.1<Z86 b)) (Tw ((Ln x.2.1.1==0)=false→Bd 0 (Ln x.2.1.1))∧Br (bif Ln x.2.1.1==0 then true else Lb (Kgw x) B0) (0≤1000000∧(List.length x.2.2+1)*8≤140737488355328∧Iw (Nc x.1+1)∧∃(y:Nat×(List ByteArray×Bool)×List Int),Si (Z86 b) (Nc x.1+1=Nc y.1∧Si 0 (Sf Ja (Sf Vi (Sf Vi (Sf Ja (true=y.2.1.2∧Si 0 (Sf (U3 (b,false)).1 (Sf Ja ((Xz b).1=(Xz b).1∧x.2.2++[(Ka B0).1]=y.2.2∧List.length y.2.1.1=0)))))))))∧Kt1 y b x) (Tw (Bd 0 (Ln x.2.1.1))∧((0:Int)≤1∧1≤Ln x.2.1.1∧Ln x.2.1.1≤Ln x.2.1.1)∧ByteArray.size (Kgw x)≤1000000∧(List.length x.2.2+1)*8≤140737488355328∧Iw (Nc x.1+1)∧∃(y:Nat×(List ByteArray×Bool)×List Int),Si (Z86 b) (Nc x.1+1=Nc y.1∧Si 0 (Sf Ja (Sf Vi (Sf Vi (Sf Ja ((bif x.2.1.2 then true else !(Ka (Kgw x)).2)=y.2.1.2∧Si 0 (Sf (U3 (b,false)).1 (Sf Ja ((Xz b).1=(Xz b).1∧x.2.2++[(Ka (Kgw x)).1]=y.2.2∧List.drop 1 (List.take (List.length x.2.1.1) x.2.1.1)=y.2.1.1)))))))))∧Kt1 y b x)) (Sf true ((0,(U3 (b,false)).1,(Xz b).1,x.2.2,Ja)=(Y2 b).1∧(bif !x.2.1.2 then Ln x.2.1.1==0 else false)=(Y2 b).2)))
theorem Kqr:Ok Tryz.prog 120 Krk:=Jyd K3p Tryz.f120 (Uy (l:=([(210,Tryz.f210),(211,Tryz.f211)]:List (Nat×Func))) (List.forall_mem_cons.2 ⟨by kernel_rfl,List.forall_mem_cons.2 ⟨by kernel_rfl,by simp⟩⟩)) (fun xx=>J6m xx.1) (fun xx=>fun _=>na ()) fun xx=>by
 obtain⟨(ws:List ByteArray),_⟩:=xx
 refine(by kernel_rfl:(Jag ws→Jga ws→Tw ((Ln ws==0)=false→Z99 ws)∧Br (bif Ln ws==0 then true else Lb (Z91 ws) B0) (Br true (Kz7 ws) (∃(x:Nat×(List ByteArray×Bool)×List ByteArray),(0=Kad ws∧0=Nc x.1∧Si 0 (B0=Ja∧Sf Vi (Sf Vi (B0=Ja∧true=x.2.1.2∧Si 0 (B0=(U3 (ws,false)).1∧Sf Vi (B0=Ja∧0=Z86 ws∧none=Kgz ws∧none=Kgy ws∧none=Kgx ws∧List.length x.2.2=0∧[]=Z67 ws∧List.length x.2.1.1=0))))))∧J7p x ws)) (Tw (Z99 ws)∧((0:Int)≤1∧1≤Ln ws∧Ln ws≤Ln ws)∧Br (!Option.isSome (Kxj ws)) (Kz7 ws) (∃(x:Nat×(List ByteArray×Bool)×List ByteArray),(Ln (Khr ws).1=Kad ws∧0=Nc x.1∧Si 0 (B0=Ja∧Sf Vi (Sf Vi (B0=Ja∧false=x.2.1.2∧Si 0 (Z91 ws=(U3 (ws,false)).1∧Sf Vi (B0=Ja∧(Kum ws).1=Z86 ws∧(Kul ws).1=Kgz ws∧(Kuk ws).1=Kgy ws∧(Kuk ws).2=Kgx ws∧List.length x.2.2=0∧(Khr ws).1=Z67 ws∧List.drop 1 (List.take (List.length ws) ws)=x.2.1.1))))))∧J7p x ws)))=_).mp ?_
 delta Z67 Z70 Z86 Z91 Z99 Jag Kgz Kgy Kgx Kgw Vi J7m D9 Kad J7f K1t Jgd K1p J9w Kz7 Jga Kxj Khr Kun Kum Kul Kuk Kuc Kt1 Ktt J7p Br Iw Bd Tw Sf Si Ln Nc B0 Lb
 intro h1 h2
 have hk0:Ym Ja=false:=by kernel_rfl
 have hB:=Jjg (ws.getD 0 Ja)
 have hsz:∀k,k<ws.length→(ws.getD k Ja).size≤1000000:=fun k hk=>h2 _ (Je hk)
 refine⟨⟨fun h=> ?_,fun h=> ?_⟩,fun hc=>⟨fun _=>⟨rfl, ?_⟩,fun h=>(by cases h)⟩,fun hc=> ?_⟩
 ·have:=beq_eq_false_iff_ne.1 h;omega
 ·have:=beq_eq_false_iff_ne.1 h;omega
 ·have e:U3 (ws,false)=(Ja,[],true):=by rw[Jak,show Ly (ws,false)=true from hc];rfl
  have e2:Y2 ws=(evz,false):=by unfold Y2;rw[e,hk0];rfl
  rw[e2];exact⟨rfl,rfl⟩
 ·have hc':Ly (ws,false)=false:=hc
  have e:U3 (ws,false)=(ws.getD 0 Ja,ws.drop 1,false):=by rw[Jak,hc'];rfl
  have hl:0<ws.length:=Jdt hc'
  have eD:(Up Sch.str (ws.getD 0 ({data:={toList:=[]}}:ByteArray)) Lx).getD ([],0,none,none,none)=Jj (ws.getD 0 Ja):=rfl
  have eK:(Up Sch.str (ws.getD 0 ({data:={toList:=[]}}:ByteArray)) Lx).isSome=Ym (ws.getD 0 Ja):=rfl
  simp only[e,eD,eK]
  refine⟨by(repeat' first|apply And.intro|(first|omega|dsimp only;omega)),by(repeat' first|apply And.intro|(first|omega|dsimp only;omega)),fun hk=>⟨trivial, ?_⟩,fun hk=>⟨((0:Nat),(ws.drop 1,false),[]), ?_,⟨Nat.zero_le _,by simp only[List.length_drop];omega,fun w hw=>h2 w (List.mem_of_mem_drop hw),rfl,by unfold Xz;rw[e];rfl⟩,fun(x:Nat×Tk×List ByteArray) hx=>⟨fun hlt=> ?_,fun hlt=> ?_⟩⟩⟩
  ·have hk:Ym (ws.getD 0 Ja)=false:=by simpa using hk
   have e2:Y2 ws=(evz,false):=by unfold Y2;rw[e,hk];rfl
   rw[e2];exact⟨rfl,rfl⟩
  ·rw[List.take_length]
   repeat' first|exact rfl|exact⟨⟩|apply And.intro|omega|dsimp only;omega
  ·obtain⟨i,⟨rem,b⟩,o⟩:=x
   obtain⟨i1,i2,i3,i4,i5⟩:=hx
   have hlt:i<(Jj (ws.getD 0 Ja)).1.length:=by simpa using hlt
   dsimp only at i1 i2 i3 i4 i5
   have hn:(Jj (ws.getD 0 Ja)).1.length-i=((Jj (ws.getD 0 Ja)).1.length-(i+1))+1:=by omega
   rw[hn,Dd,Jak] at i5
   refine⟨⟨fun h=> ?_,fun h=> ?_⟩,fun h=> ?_,fun h=> ?_⟩
   ·have:=beq_eq_false_iff_ne.1 h;(first|omega|dsimp only;omega)
   ·have:=beq_eq_false_iff_ne.1 h;(first|omega|dsimp only;omega)
   ·have h:Ly (rem,b)=true:=h
    rw[h,cond_true] at i5
    refine⟨by(first|omega|dsimp only;omega),by(repeat' first|apply And.intro|(first|omega|dsimp only;omega)),(i+1,([],true),o++[Ja]), ?_,⟨by(first|omega|dsimp only;omega),by simp,fun w hw=>(by cases hw),by simp[i4],i5⟩,by(first|omega|dsimp only;omega)⟩
    repeat' first|exact rfl|exact⟨⟩|apply And.intro|omega|dsimp only;omega
   ·have h:Ly (rem,b)=false:=h
    have hr:0<rem.length:=Jdt h
    rw[h,cond_false] at i5
    refine⟨by(repeat' first|apply And.intro|(first|omega|dsimp only;omega)),by(repeat' first|apply And.intro|(first|omega|dsimp only;omega)),by(first|omega|dsimp only;omega),by(repeat' first|apply And.intro|(first|omega|dsimp only;omega)),(i+1,(rem.drop 1,b),o++[rem.getD 0 Ja]), ?_,⟨by(first|omega|dsimp only;omega),by simp only[List.length_drop];omega,fun w hw=>i3 w (List.mem_of_mem_drop hw),by simp[i4],i5⟩,by(first|omega|dsimp only;omega)⟩
    dsimp only
    rw[List.take_length]
    repeat' first|exact rfl|exact⟨⟩|apply And.intro|omega|dsimp only;omega
  ·obtain⟨i,⟨rem,b⟩,o⟩:=x
   obtain⟨i1,i2,i3,i4,i5⟩:=hx
   have hlt:¬i<(Jj (ws.getD 0 Ja)).1.length:=by simpa using hlt
   dsimp only at i1 i2 i3 i4 i5
   have hn:(Jj (ws.getD 0 Ja)).1.length-i=0:=by omega
   rw[hn,Dd] at i5
   have eN:(Xz ws).1=o:=by rw[←i5]
   have eT:(Xz ws).2=(rem,b):=by rw[←i5]
   simp only[eN]
   refine⟨((0:Nat),(rem,b),[]), ?_,⟨Nat.zero_le _,i2,i3,rfl,by unfold Jcn;rw[e,eT];rfl⟩,fun(x:Nat×Tk×List Int) hx=>⟨fun hlt=> ?_,fun hlt=> ?_⟩⟩
   ·repeat' first|exact rfl|exact⟨⟩|apply And.intro|omega|dsimp only;omega
   ·obtain⟨j,⟨rem,b⟩,o2⟩:=x
    obtain⟨j1,j2,j3,j4,j5⟩:=hx
    have hlt:(j:Int)<(Jj (ws.getD 0 Ja)).2.1:=of_decide_eq_true hlt
    dsimp only at j1 j2 j3 j4 j5
    have hn:(Jj (ws.getD 0 Ja)).2.1.toNat-j=((Jj (ws.getD 0 Ja)).2.1.toNat-(j+1))+1:=by omega
    rw[hn,Jal,J4h,Jak] at j5
    refine⟨⟨fun h=> ?_,fun h=> ?_⟩,fun h=> ?_,fun h=> ?_⟩
    ·have:=beq_eq_false_iff_ne.1 h;(first|omega|dsimp only;omega)
    ·have:=beq_eq_false_iff_ne.1 h;(first|omega|dsimp only;omega)
    ·have h:Ly (rem,b)=true:=h
     rw[h,cond_true] at j5
     refine⟨by decide,by(first|omega|dsimp only;omega),by(repeat' first|apply And.intro|(first|omega|dsimp only;omega)),(j+1,([],true),o2++[(Ka Ja).1]), ?_,⟨by(first|omega|dsimp only;omega),by simp,fun w hw=>(by cases hw),by simp[j4],j5⟩,by(first|omega|dsimp only;omega)⟩
     repeat' first|exact rfl|exact⟨⟩|apply And.intro|omega|dsimp only;omega
    ·have h:Ly (rem,b)=false:=h
     have hr:0<rem.length:=Jdt h
     rw[h,cond_false] at j5
     refine⟨by(repeat' first|apply And.intro|(first|omega|dsimp only;omega)),by(repeat' first|apply And.intro|(first|omega|dsimp only;omega)),j3 _ (Je hr),by(first|omega|dsimp only;omega),by(repeat' first|apply And.intro|(first|omega|dsimp only;omega)),(j+1,(rem.drop 1,bif b then true else !(Ka (rem.getD 0 Ja)).2),o2++[(Ka (rem.getD 0 Ja)).1]), ?_,⟨by(first|omega|dsimp only;omega),by simp only[List.length_drop];omega,fun w hw=>j3 w (List.mem_of_mem_drop hw),by simp[j4],j5⟩,by(first|omega|dsimp only;omega)⟩
     dsimp only
     rw[List.take_length]
     repeat' first|exact rfl|exact⟨⟩|apply And.intro|omega|dsimp only;omega
   ·obtain⟨j,⟨rem2,b2⟩,o2⟩:=x
    obtain⟨j1,j2,j3,j4,j5⟩:=hx
    have hlt:¬(j:Int)<(Jj (ws.getD 0 Ja)).2.1:=of_decide_eq_false hlt
    dsimp only at j1 j2 j3 j4 j5
    have hn:(Jj (ws.getD 0 Ja)).2.1.toNat-j=0:=by omega
    rw[hn,Jal] at j5
    have hk:Ym (ws.getD 0 Ja)=true:=by simpa using hk
    have e2:Y2 ws=((0,ws.getD 0 Ja,o,o2,Ja),bif !b2 then((rem2.length:Int)==0) else false):=by
     unfold Y2
     rw[e,hk,cond_true,eN,←j5]
    rw[e2];exact⟨trivial,rfl,rfl⟩
abbrev K3o:=K3p.add Kqr
def Jbi (c:UInt8):List UInt8→List UInt8
 |[]=>[]
 |b::r=>if b=c then[] else b::Jbi c r
def Jgt (c:UInt8):List UInt8→List UInt8
 |[]=>[]
 |b::r=>if b=c then r else Jgt c r
def Jsz (c:UInt8):List UInt8→Bool
 |[]=>false
 |b::r=>if b=c then true else Jsz c r
theorem Ju2 (c:UInt8):∀l:List UInt8,Lib.cut l [c]=(Jbi c l,Jgt c l,Jsz c l)
 |[]=>rfl
 | b :: r => by
  have ih:=Ju2 c r
  have hg:=Lib.index_ge r [c]
  by_cases h:b=c
  ·subst h
   have e:Lib.index (b::r) [b]=0:=by simp[Lib.index,List.isPrefixOf]
   unfold Lib.cut Jbi Jgt Jsz
   rw[e,if_pos rfl,if_pos rfl,if_pos rfl]
   rfl
  ·have hp:[c].isPrefixOf (b::r)=false:=by
    have:¬c=b:=fun e=>h e.symm
    simp[List.isPrefixOf,this]
   have hi:Lib.index (b::r) [c]=if Lib.index r [c]== -1 then -1 else Lib.index r [c]+1:=by rw[Lib.index,hp];rfl
   unfold Jbi Jgt Jsz
   rw[if_neg h,if_neg h,if_neg h]
   unfold Lib.cut at ih⊢
   by_cases h1:Lib.index r [c]= -1
   ·have e2:Lib.index (b::r) [c]= -1:=by rw[hi,h1];rfl
    rw[h1,if_neg (by decide)] at ih
    rw[e2,if_neg (by decide)]
    simp only[Prod.mk.injEq] at ih⊢
    exact⟨by rw[←ih.1],ih.2⟩
   ·obtain⟨i,hj⟩:=Int.eq_ofNat_of_zero_le (by omega:0≤Lib.index r [c])
    have e2:Lib.index (b::r) [c]=((i+1:Nat):Int):=by rw[hi,if_neg (by simpa using h1),hj];rfl
    rw[hj,if_pos (by omega)] at ih
    rw[e2,if_pos (by omega)]
    simp only[Prod.mk.injEq,Int.toNat_natCast,List.length_singleton] at ih⊢
    exact⟨by rw[List.take_succ_cons,ih.1],by rw[←ih.2.1];rfl,ih.2.2⟩
theorem Jjw (c:UInt8):∀l:List UInt8,(Jbi c l).length≤l.length
 |[]=>Nat.le_refl _
 |b::r=>by
  have:=Jjw c r
  unfold Jbi
  split<;>simp only[List.length_cons,List.length_nil]<;>omega
theorem Jdv (c:UInt8):∀l:List UInt8,(Jgt c l).length≤l.length
 |[]=>Nat.le_refl _
 |b::r=>by
  have:=Jdv c r
  unfold Jgt
  split<;>simp only[List.length_cons]<;>omega
theorem Jv1 (s:ByteArray) (c:UInt8):Jyh s ⟨⟨[c]⟩⟩=(bs (Jbi c s.data.toList),bs (Jgt c s.data.toList),Jsz c s.data.toList):=by
 unfold Jyh
 rw[show((⟨⟨[c]⟩⟩:ByteArray).data.toList)=[c] from rfl,Ju2]
 rfl
theorem Jku (s:ByteArray):Xx s ⟨⟨[32]⟩⟩=Jea s 32:=Jd5 s 32
def Yv (s:ByteArray):ByteArray:=bs (s.data.toList.take (s.size-8))
def Jm1 (s:ByteArray):ByteArray:=bs (s.data.toList.drop (s.size-7))
def J5g (b:ByteArray):ByteArray:=bs (Jbi 32 b.data.toList)
def J4o (b:ByteArray):ByteArray:=bs (Jgt 32 b.data.toList)
def evX (b:ByteArray):Ev:=((Ka (J5g b)).1,(Y2 (Jea (J4o b) 32)).1.2)
def okX (b:ByteArray):Bool:=bif bif !(Ka (J5g b)).2 then true else !(Y2 (Jea (J4o b) 32)).2 then true else Jc (evX b) !=0
def Joy (s:ByteArray):Bool:=bif bif decide ((s.size:Int)-7-1<0) then true else((s.data.toList.getD (s.size-8) 0).toNat:Int) !=35 then true else !Jsy (Jm1 s)
def V3 (s:ByteArray):Ev×Int:=bif Joy s then(evz,25) else bif !((Jor (Yv s)).toList==(Jm1 s).toList) then(evz,27) else bif okX (Yv s) then(evz,25) else(evX (Yv s),0)
def U8 (s:ByteArray) (k:Int):Ev×Int:=if(V3 s).2=0 then((V3 s).1,bif (V3 s).1.1 !=k then 11 else 0) else V3 s
def Kco:Con:={args:=[aS,aI],ress:=[(true,sEv),I],owns:=[],pre:=fun(s,_)=>[s.size≤1000000],spec:=fun(s,k,_)=>((U8 s k).1,(U8 s k).2,())}
theorem Jkr (t:Tk):((U3 t).1=Ja∨(U3 t).1∈t.1)∧∀w∈(U3 t).2.1,w∈t.1:=by
 rw[Jak]
 cases h:Ly t with
 |true=>exact⟨.inl rfl,fun w hw=>by cases hw⟩
 |false=>exact⟨.inr (Je (Jdt h)),fun w hw=>List.mem_of_mem_drop hw⟩
theorem Jg3:∀(n:Nat) (t:Tk) (o:List ByteArray),(Dd n t o).1.length=o.length+n
 |0,_,_=>rfl
 |n+1,t,o=>by
  rw[Dd,Jg3 n]
  simp only[List.length_append,List.length_singleton]
  omega
theorem Jg2:∀(n:Nat) (t:Tk) (o:List ByteArray),∀s∈(Dd n t o).1,s∈o∨s=Ja∨s∈t.1
 |0,_,_,s,h=> .inl h
 | n + 1, t, o, s, h => by
  have hs:=Jkr t
  rw[Dd] at h
  rcases Jg2 n _ _ s h with h|h|h
  ·rcases List.mem_append.1 h with h|h
   ·exact .inl h
   ·rw[List.mem_singleton.1 h]
    exact .inr hs.1
  ·exact .inr (.inl h)
  ·exact .inr (.inr (hs.2 _ h))
theorem Jg1:∀(n:Nat) (t:Tk) (o:List Int),(Jal n t o).1.length=o.length+n
 |0,_,_=>rfl
 |n+1,t,o=>by
  rw[Jal,Jg1 n]
  simp only[List.length_append,List.length_singleton]
  omega
theorem Jo7 {ws:List ByteArray} (hw:∀w∈ws,w.size≤1000000):(Y2 ws).1.2.2.1.length≤3∧(Y2 ws).1.2.2.2.1.length≤4∧∀s∈(Y2 ws).1.2.2.1,s.size≤1000000:=by
 have hB:=Jjg (U3 (ws,false)).1
 have hs:=Jkr (ws,false)
 unfold Y2
 cases Ym (U3 (ws,false)).1 with
 |false=>exact⟨Nat.zero_le _,Nat.zero_le _,fun s h=>by cases h⟩
 | true =>
  simp only[cond_true]
  refine⟨?_, ?_,fun s h=> ?_⟩
  ·unfold Xz;rw[Jg3];simp;omega
  ·unfold Jcn;rw[Jg1];simp;omega
  ·rcases Jg2 _ _ _ s h with h|h|h
   ·cases h
   ·rw[h];decide
   ·exact hw _ (hs.2 _ h)
theorem Dz {s:ByteArray} {k:Int} {x:Ev×Int} (h:V3 s=x) (hx:x.2≠0):U8 s k=x:=by
 unfold U8;rw[h,if_neg hx]
def J1x (a:Bt):=Nc (ByteArray.size a)-(7:Int)-1
def Kac (a:Bt):=J1x a+1
def K1u (a:Bt):=decide (J1x a<0)
def Kl4 (a:Bt):=ByteArray.extract a 0 (Int.toNat (J1x a))
def Klh (a:Bt):=ByteArray.extract a (Int.toNat (Kac a)) (ByteArray.size a)
def K06 (a:Bt):=ByteArray.size (Kl4 a)≤1000000
def K0i (a:Bt) (b:Int):=D9=(U8 a b).1∧25=(U8 a b).2
def Kzk (a:Bt):=Jyh (Kl4 a) Hr
def Kzf (a:Bt):=(Kzk a).1
def Ky0 (a:Bt):=(Kzk a).2.1
def Kx4 (a:Bt):=Ka (Kzf a)
def Kxz (a:Bt):=(Kx4 a).1
def Kxl (a:Bt):=(0:Int)≤0∧0≤J1x a∧J1x a≤Nc (ByteArray.size a)
def Kin (a:Bt):=Xx (Ky0 a) Hr
def Kwm (a:Bt):=Y2 (Kin a)
def Kwi (a:Bt):=0≤Kac a∧Kac a≤Nc (ByteArray.size a)∧Nc (ByteArray.size a)≤Nc (ByteArray.size a)
def Kwf (a:Bt):=(Kwm a).1.2
def Kep (a:Bt):=(Kwf a).2
def Kv5 (a:Bt):=(Kep a).2
def Ku8 (a:Bt):=bif K1u a then true else Nc (UInt8.toNat (Gt (Z13 a) (J1x a) 0)) !=35
def Khx (a:Bt):=Ku8 a=false
def Kuj (a:Bt):=bif !(Kx4 a).2 then true else !(Kwm a).2
def Kho (a:Bt):=Kuj a=false
def Kth (a:Bt):=(Kxz a,(Kwf a).1,(Kep a).1,E2 (Kv5 a))
theorem Kqv:Ok Tryz.prog 108 Kco:=okW K3o Tryz.f108 na fun xx=>by
 obtain⟨(s:ByteArray),(k:Int),_⟩:=xx
 refine(by kernel_rfl:(ByteArray.size s≤1000000→(Iw (Nc (ByteArray.size s)-7)∧Iw (J1x s))∧((K1u s=false→Bd (J1x s) (Nc (ByteArray.size s)))∧(Khx s→Iw (Kac s))∧(Khx s→Kwi s)∧(Khx s→ByteArray.size (Klh s)≤1000000))∧Br (bif Ku8 s then true else !Jsy (Klh s)) (K0i s k) ((Kxl s∧K06 s∧Iw (Kac s)∧Kwi s)∧Br (!Lb (Jor (Kl4 s)) (Klh s)) (D9=(U8 s k).1∧27=(U8 s k).2) ((Kxl s∧K06 s)∧ByteArray.size (Kzf s)≤1000000∧(ByteArray.size (Ky0 s)≤1000000∧1≤1∧List.length (Kin s)≤1000000∧∀(w:ByteArray),w∈Kin s→ByteArray.size w≤1000000)∧((Kho s→List.length (Kep s).1≤1000000)∧(Kho s→List.length (Kv5 s).1≤1000000)∧(Kho s→∀(s_1:ByteArray),s_1∈(Kep s).1→ByteArray.size s_1≤1000000))∧Br (bif Kuj s then true else Jc (Kth s) !=0) (K0i s k) (Kth s=(U8 s k).1∧(bif Kxz s !=k then 11 else 0)=(U8 s k).2))))=_).mp ?_
 delta Z13 Hr J1x D9 Kac K1u Kl4 Klh K06 K0i Kzk Kzf Ky0 Kx4 Kxz Kxl Kin Kwm Kwi Kwf Kep Kv5 Ku8 Khx Kuj Kho Kth Br Iw Bd Nc Gt B0 Lb E2
 intro hs
 have hl:s.data.toList.length=s.size:=by simp
 by_cases hq:s.size<8
 ·have hd:decide ((s.size:Int)-7-1<0)=true:=decide_eq_true (by omega)
  have h0:V3 s=(evz,25):=by unfold V3 Joy;rw[hd];rfl
  rw[Dz h0 (by decide)]
  simp only[hd,cond_true]
  exact⟨by(repeat' first|apply And.intro|(first|omega|dsimp only;omega)),⟨⟨fun h=>(by cases h),fun h=>(by cases h),fun h=>(by cases h),fun h=>(by cases h)⟩,fun _=>by(repeat' first|exact rfl|exact⟨⟩|apply And.intro|omega|dsimp only;omega),fun h=>(by cases h)⟩⟩
 ·have e1:((s.size:Int)-7-1).toNat=s.size-8:=by omega
  have e2:((s.size:Int)-7-1+1).toNat=s.size-7:=by omega
  have e3:s.extract 0 (s.size-8)=Yv s:=J0k s _
  have e4:s.extract (s.size-7) s.size=Jm1 s:=Jpv s _
  have hbl:(Yv s).data.toList.length=s.size-8:=by unfold Yv;simp[bs]
  have hbs:(Yv s).size=s.size-8:=by unfold Yv;rw[Xg];simp
  have hts:(Jm1 s).size≤1000000:=by unfold Jm1;rw[Xg];simp;omega
  have hd:decide ((s.size:Int)-7-1<0)=false:=decide_eq_false (by omega)
  simp only[e1,e2,e3,e4,Jv1,Jku]
  have hsh:Joy s=bif bif decide ((s.size:Int)-7-1<0) then true else((s.data.toList.getD (s.size-8) 0).toNat:Int) !=35 then true else !Jsy (Jm1 s):=rfl
  rw[←hsh]
  have hA:(bs (Jbi 32 (Yv s).data.toList)).size≤1000000:=by rw[Xg];have:=Jjw 32 (Yv s).data.toList;omega
  have hZ:(bs (Jgt 32 (Yv s).data.toList)).size≤1000000:=by rw[Xg];have:=Jdv 32 (Yv s).data.toList;omega
  have hW:∀w∈Jea (bs (Jgt 32 (Yv s).data.toList)) 32,w.size≤1000000:=by
   intro w hw
   obtain⟨v,hv,rfl⟩:=List.mem_map.1 hw
   have:=Jao _ _ _ hv
   have h3:=Jdv 32 (Yv s).data.toList
   have h4:(bs (Jgt 32 (Yv s).data.toList)).data.toList.length=(Jgt 32 (Yv s).data.toList).length:=rfl
   rw[Xg]
   omega
  refine⟨by(repeat' first|apply And.intro|(first|omega|dsimp only;omega)),⟨fun _=>by(repeat' first|apply And.intro|(first|omega|dsimp only;omega)),fun _=>by(repeat' first|apply And.intro|(first|omega|dsimp only;omega)),fun _=>by(repeat' first|apply And.intro|(first|omega|dsimp only;omega)),fun _=>hts⟩,fun h=> ?_,fun h=>⟨⟨by(repeat' first|apply And.intro|(first|omega|dsimp only;omega)),by omega,by(repeat' first|apply And.intro|(first|omega|dsimp only;omega)),by(repeat' first|apply And.intro|(first|omega|dsimp only;omega))⟩,fun h2=> ?_,fun h2=>⟨⟨by(repeat' first|apply And.intro|(first|omega|dsimp only;omega)),by omega⟩,hA,⟨hZ,by decide, ?_, ?_⟩, ?_⟩⟩⟩
  ·have h0:V3 s=(evz,25):=by unfold V3;rw[h];rfl
   rw[Dz h0 (by decide)];exact⟨rfl,rfl⟩
  ·have h0:V3 s=(evz,27):=by unfold V3;rw[h,h2];rfl
   rw[Dz h0 (by decide)];exact⟨rfl,rfl⟩
  ·unfold Jea
   rw[List.length_map]
   have:=Jim (UInt8.ofNat (32:Int).toNat) (bs (Jgt 32 (Yv s).data.toList)).data.toList
   have h3:=Jdv 32 (Yv s).data.toList
   have h4:(bs (Jgt 32 (Yv s).data.toList)).data.toList.length=(Jgt 32 (Yv s).data.toList).length:=rfl
   omega
  ·exact hW
  ·have hr:=Jo7 (ws:=Jea (bs (Jgt 32 (Yv s).data.toList)) 32) hW
   refine⟨⟨fun _=>Nat.le_trans hr.1 (by decide),fun _=>Nat.le_trans hr.2.1 (by decide),fun _=>hr.2.2⟩,fun h3=> ?_,fun h3=> ?_⟩
   ·have h3:okX (Yv s)=true:=h3
    have h0:V3 s=(evz,25):=by unfold V3;rw[h,h2,h3];rfl
    rw[Dz h0 (by decide)];exact⟨rfl,rfl⟩
   ·have h3:okX (Yv s)=false:=h3
    have h0:V3 s=(evX (Yv s),0):=by unfold V3;rw[h,h2,h3];rfl
    have h4:U8 s k=(evX (Yv s),bif (evX (Yv s)).1 !=k then 11 else 0):=by unfold U8;rw[h0];rfl
    rw[h4]
    exact⟨rfl,rfl⟩
abbrev K3n:=K3o.add Kqv
def J4s:Nat→List UInt8→Int→List Ev→List Ev×Int×Int
 |0,_,at_,o=>(o,at_,0)
 |f+1,l,at_,o=>
  if l=[] then(o,at_,0) else
  if Jsz 10 l=false then(o,at_,28) else
  if(U8 (bs (Jbi 10 l)) (o.length+1)).2≠0 then(o,at_,(U8 (bs (Jbi 10 l)) (o.length+1)).2) else
  J4s f (Jgt 10 l) (at_+((Jbi 10 l).length+1)) (o++[(U8 (bs (Jbi 10 l)) (o.length+1)).1])
def K5 (s:ByteArray):List Ev×Int×Int:=if 1000000<s.size then([],0,26) else J4s s.size s.data.toList 0 []
def J0u:Con:={args:=[aS],ress:=[(false, .list 67 sEv),I,I],owns:=[],pre:=fun _=>[],spec:=fun(s,_)=>((K5 s).1,(K5 s).2.1,(K5 s).2.2,())}
abbrev Kc8 (s:ByteArray):Ann:={X:=Nat×List Ev,σ:=fun(k,o)=>⟨1,[(0, .one (.str s)),(5, .one (.sl 0)),(6, .one (.int .i64 k))],[(0, .own 67 sEv o)]⟩,inv:=fun(k,o)=>k≤s.size∧s.size≤1000000∧o.length≤1000∧∃f,s.size-k≤f∧J4s f (s.data.toList.drop k) k o=K5 s,mu:=fun(k,_)=>s.size-k}
theorem Jv2 (c:UInt8):∀{l:List UInt8},Jsz c l=true→l=Jbi c l++c::Jgt c l
 |[],h=>by cases h
 | b :: r, h => by
  unfold Jsz at h
  unfold Jbi Jgt
  by_cases q:b=c
  ·rw[if_pos q,if_pos q,q];rfl
  ·rw[if_neg q] at h
   rw[if_neg q,if_neg q,List.cons_append,←Jv2 c h]
theorem Jvw {s:ByteArray} {k:Int} (h:(U8 s k).2=0):Jc (U8 s k).1=0∧(U8 s k).1.1=k:=by
 have h0:(V3 s).2=0:=by
  unfold U8 at h
  by_cases q:(V3 s).2=0
  ·exact q
  ·rw[if_neg q] at h;exact h
 have e:U8 s k=((V3 s).1,bif (V3 s).1.1 !=k then 11 else 0):=by unfold U8;rw[if_pos h0]
 rw[e] at h⊢
 refine⟨?_, ?_⟩
 ·unfold V3 at h0⊢
  cases h1:Joy s with
  |true=>rw[h1] at h0;cases h0
  | false =>
   rw[h1,cond_false] at h0
   rw[cond_false]
   cases h2: !((Jor (Yv s)).toList==(Jm1 s).toList) with
   |true=>rw[h2] at h0;cases h0
   | false =>
    rw[h2,cond_false] at h0
    rw[cond_false]
    cases h3:okX (Yv s) with
    |true=>rw[h3] at h0;cases h0
    | false =>
     rw[cond_false]
     unfold okX at h3
     cases h4:(bif !(Ka (J5g (Yv s))).2 then true else !(Y2 (Jea (J4o (Yv s)) 32)).2) with
     |true=>rw[h4] at h3;cases h3
     |false=>
      rw[h4,cond_false] at h3
      exact bne_eq_false_iff_eq.1 h3
 ·have h:(bif (V3 s).1.1 !=k then(11:Int) else 0)=0:=h
  cases h5:((V3 s).1.1 !=k) with
  |true=>rw[h5] at h;cases h
  |false=>exact bne_eq_false_iff_eq.1 h5
def Kly (a:Bt) (b:Nat×List Ev):=Jyh (ByteArray.extract a b.1 (ByteArray.size a)) (ByteArray.mk (Array.mk [10]))
def K1e (a:Bt) (b:Nat×List Ev):=ByteArray.size (Kly a b).1
def K0m (a:Bt) (b:Nat×List Ev):=Nc (K1e a b)+1
def Kz3 (a:Bt) (b:Nat×List Ev):=U8 (Kly a b).1 (Ln b.2+1)
def Kzz (a:Bt) (b:Nat×List Ev):=(Kz3 a b).2
def Kzy (a:Bt) (b:Nat×List Ev):=(Kz3 a b).1
def Kzr (a:Bt) (b:Nat×List Ev):=(Kzy a b).2
def Kzp (a:Nat×List Ev) (b:Bt):=Nc a.1+K0m b a
def Kzm (a:Bt) (b:Nat×List Ev):=(Kzr a b).2
def Kh6 (a:Nat×List Ev) (b:Bt):=a.1≤ByteArray.size b∧ByteArray.size b≤1000000∧List.length a.2≤1000∧∃(f:Nat),ByteArray.size b-a.1≤f∧J4s f (List.drop a.1 (Z13 b)) (Nc a.1) a.2=K5 b
theorem K5q:Ok Tryz.prog 34 J0u:=okW K3n Tryz.f34 (fun xx=>X8 (Kc8 xx.1)) fun xx=>by
 obtain⟨(s:ByteArray),_⟩:=xx
 refine(by kernel_rfl:(Br (decide (1000000<Nc (ByteArray.size s))) ([]=(K5 s).1∧0=(K5 s).2.1∧26=(K5 s).2.2) (∃(x:Nat×List Ev),Sf s (0=Nc x.1∧List.length x.2=0)∧Kh6 x s∧∀(x:Nat×List Ev),Kh6 x s→Br (decide (Nc x.1<Nc (ByteArray.size s))) (((0≤Nc x.1∧Nc x.1≤Nc (ByteArray.size s)∧Nc (ByteArray.size s)≤Nc (ByteArray.size s))∧ByteArray.size (ByteArray.extract s x.1 (ByteArray.size s))≤1000000)∧Br (!(Kly s x).2.2) (x.2=(K5 s).1∧Nc x.1=(K5 s).2.1∧28=(K5 s).2.2) ((Iw (Ln x.2+1)∧K1e s x≤1000000)∧Br (Kzz s x !=0) (x.2=(K5 s).1∧Nc x.1=(K5 s).2.1∧Kzz s x=(K5 s).2.2) ((List.length x.2+1)*88≤140737488355328∧(Iw (K0m s x)∧Iw (Kzp x s))∧∃(y:Nat×List Ev),Sf s (Kzp x s=Nc y.1∧x.2++[((Kzy s x).1,(Kzr s x).1,(Kzm s x).1,E2 (Kzm s x).2)]=y.2)∧Kh6 y s∧ByteArray.size s-y.1<ByteArray.size s-x.1))) (x.2=(K5 s).1∧Nc x.1=(K5 s).2.1∧0=(K5 s).2.2)))=_).mp ?_
 delta Z13 Kly K1e K0m Kz3 Kzz Kzy Kzr Kzp Kzm Kh6 Br Iw Sf Ln Nc E2
 refine⟨fun h=> ?_,fun h=> ?_⟩
 ·have h:1000000<s.size:=by have:=of_decide_eq_true h;omega
  unfold K5;rw[if_pos h];exact⟨rfl,rfl,rfl⟩
 have hs:¬1000000<s.size:=by have:=of_decide_eq_false h;omega
 have hl:s.data.toList.length=s.size:=by simp
 refine⟨((0:Nat),[]),by(repeat' first|exact rfl|exact⟨⟩|apply And.intro|omega|dsimp only;omega),⟨Nat.zero_le _,by(first|omega|dsimp only;omega),Nat.zero_le _,⟨s.size,by omega,by unfold K5;rw[if_neg hs];rfl⟩⟩,fun(x:Nat×List Ev) hx=>⟨fun hlt=> ?_,fun hlt=> ?_⟩⟩
 ·obtain⟨k,o⟩:=x
  obtain⟨k1,k2,k3,f,kf,k4⟩:=hx
  have hlt:k<s.size:=by simpa using hlt
  dsimp only at k1 k3
  dsimp only at kf
  have hf:f=(f-1)+1:=by omega
  have hne:s.data.toList.drop k≠[]:=by
   intro h
   have:=congrArg List.length h
   rw[List.length_drop,hl] at this
   simp at this;omega
  rw[hf,J4s,if_neg hne] at k4
  have e0:s.extract k s.size=bs (s.data.toList.drop k):=Jpv s k
  have e1:((k:Int)).toNat=k:=Int.toNat_natCast k
  simp only[e1,e0,Jv1]
  have k4:(if Jsz 10 (s.data.toList.drop k)=false then(o,(k:Int),(28:Int)) else if(U8 (bs (Jbi 10 (s.data.toList.drop k))) (o.length+1)).2≠0 then(o,(k:Int),(U8 (bs (Jbi 10 (s.data.toList.drop k))) (o.length+1)).2) else J4s (f-1) (Jgt 10 (s.data.toList.drop k)) (k+((Jbi 10 (s.data.toList.drop k)).length+1)) (o++[(U8 (bs (Jbi 10 (s.data.toList.drop k))) (o.length+1)).1]))=K5 s:=k4
  have hA:=Jjw 10 (s.data.toList.drop k)
  rw[List.length_drop,hl] at hA
  have hbd:∀l,(bs l).data.toList=l:=fun l=>rfl
  simp only[hbd,Xg,List.length_drop,hl]
  refine⟨by(repeat' first|apply And.intro|(first|omega|dsimp only;omega)),fun h=> ?_,fun h=>⟨⟨by(repeat' first|apply And.intro|(first|omega|dsimp only;omega)),by omega⟩,fun h2=> ?_,fun h2=> ?_⟩⟩
  ·have h:Jsz 10 (s.data.toList.drop k)=false:=by simpa using h
   rw[if_pos h] at k4
   rw[←k4];exact⟨rfl,rfl,rfl⟩
  ·have h:Jsz 10 (s.data.toList.drop k)=true:=by simpa using h
   have h2:(U8 (bs (Jbi 10 (s.data.toList.drop k))) (o.length+1)).2≠0:=bne_iff_ne.1 h2
   rw[if_neg (by rw[h];decide),if_pos h2] at k4
   rw[←k4];exact⟨rfl,rfl,rfl⟩
  ·have h:Jsz 10 (s.data.toList.drop k)=true:=by simpa using h
   have h2:(U8 (bs (Jbi 10 (s.data.toList.drop k))) (o.length+1)).2=0:=bne_eq_false_iff_eq.1 h2
   rw[if_neg (by rw[h];decide),if_neg (by rw[h2];simp)] at k4
   have hc:=Jv2 10 h
   have hlc:=congrArg List.length hc
   rw[List.length_drop,hl,List.length_append,List.length_cons] at hlc
   have hd:s.data.toList.drop (k+((Jbi 10 (s.data.toList.drop k)).length+1))=Jgt 10 (s.data.toList.drop k):=by
    rw[←List.drop_drop]
    have:=congrArg (List.drop ((Jbi 10 (s.data.toList.drop k)).length+1)) hc
    rw[this,show(Jbi 10 (s.data.toList.drop k)).length+1=(Jbi 10 (s.data.toList.drop k)).length+1 from rfl]
    simp[List.drop_append]
   have hn:=(Jvw h2)
   have hnum:=Va.1 (show Kh (U8 (bs (Jbi 10 (s.data.toList.drop k))) (o.length+1)).1.1 1 1000=0 by
    have:=(K0 hn.1).num
    exact Va.2 this)
   rw[hn.2] at hnum
   refine⟨by omega,by(repeat' first|apply And.intro|(first|omega|dsimp only;omega)),(k+((Jbi 10 (s.data.toList.drop k)).length+1),o++[(U8 (bs (Jbi 10 (s.data.toList.drop k))) (o.length+1)).1]),by(repeat' first|exact rfl|exact⟨⟩|apply And.intro|omega|dsimp only;omega),⟨by(first|omega|dsimp only;omega),k2,by simp only[List.length_append,List.length_singleton];omega,f-1,by(first|omega|dsimp only;omega), ?_⟩,by(first|omega|dsimp only;omega)⟩
   dsimp only
   rw[hd]
   exact k4
 ·obtain⟨k,o⟩:=x
  obtain⟨k1,k2,k3,f,kf,k4⟩:=hx
  have hlt:¬k<s.size:=by simpa using hlt
  dsimp only at k1 k3
  have e:s.data.toList.drop k=[]:=List.drop_eq_nil_of_le (by omega)
  have k4:J4s f (s.data.toList.drop k) k o=K5 s:=k4
  rw[e] at k4
  have k5:(o,(k:Int),(0:Int))=K5 s:=by
   rw[←k4]
   cases f<;>rfl
  rw[←k5]
  exact⟨rfl,rfl,rfl⟩
abbrev K7m:=K3n.add K5q
theorem Jaw (n:Int) (h0: -9223372036854775808≤n) (h1:n≤9223372036854775807):(Vk n).size≤40:=by
 have:=Lib.itoa_length_le n h0 h1
 have e:(Vk n).size=(Lib.itoa n).length:=rfl
 omega
theorem Kaz {l:List Nat} {b:Nat} (h:∀x∈l,x≤b):l.sum≤b*l.length:=by
 induction l with
 |nil=>simp
 |cons x l ih=>
  have h1:=h x (List.mem_cons_self ..)
  have h2:=ih fun y hy=>h y (List.mem_cons_of_mem _ hy)
  rw[List.sum_cons,List.length_cons,Nat.mul_succ]
  omega
theorem Jpc {s:ByteArray} (h:Yl s=true):s.size≤24:=by
 unfold Yl at h
 simp only[Bool.and_eq_true,decide_eq_true_eq] at h
 omega
theorem J5b {k:ByteArray} (h:Ym k=true):k.size≤7:=by
 rcases U4 h with h|h|h|h|h|h|h|h|h|h|h<;>subst h<;>decide
theorem J6e {e:Ev} (h:Jc e=0):L3 e:=by
 have hE:=K0 h
 have hk:=Jjg e.2.1
 have h1:=hE.num
 have h2:=hE.nn
 have h3:=hE.nv
 have h4:=J5b hE.kind
 refine⟨by omega,by omega,by omega,fun v hv=>by have:=hE.val v hv;omega, ?_⟩
 refine Nat.le_trans (Kaz (b:=41) fun x hx=> ?_) ?_
 ·obtain⟨s,hs,rfl⟩:=List.mem_map.1 hx
  rcases List.mem_cons.1 hs with rfl|hs
  ·have:=Jaw e.1 (by omega) (by omega);omega
  rcases List.mem_cons.1 hs with rfl|hs
  ·omega
  rcases List.mem_append.1 hs with hs|hs
  ·have:=Jpc (hE.name s hs);omega
  ·obtain⟨v,hv,rfl⟩:=List.mem_map.1 hs
   have:=hE.val v hv
   have:=Jaw v (by omega) (by omega);omega
 ·unfold J04
  simp only[List.length_map,List.length_cons,List.length_append]
  omega
theorem Juf {e:Ev} (h:L3 e):(J4r e).size=(Zw e).size+9:=by
 have h2:=Jkt (Zw e)
 unfold J4r
 rw[Xg]
 simp[h2]
abbrev K3m:=K7m
def Krt:Con:={args:=[.val false (.list 67 sEv), .fn [(true,sEv)] tS],ress:=[(false, .list 9 .str)],owns:=[true],pre:=fun(l,(q,_),_)=>[l.length≤1000000,∀x∈l,Ur (q (x,()))],spec:=fun(l,(_,f),_)=>(l.map fun x=>f (x,()),())}
def Z8 (a:Nat) (b:List Ev):=Bd (Nc a) (Ln b)
def Z38 (a:List Ev):=List.length a≤1000000
def Z78 (a:Nat) (b:List Ev):=decide (Nc a<Ln b)
def J1u (a:List Ev) (b:Ev):=b∈a
def J98 (a:Ev×Unit→Bt) (b:Nat) (c:List Ev):=List.map (fun(x:Ev)=>a (x,PUnit.unit)) (List.take b c)
def J3s (a:List Ev) (b:Nat):=List.getD a b D9
def J3q (a:List Ev) (b:Nat):=(J3s a b).2.2
def J3p (a:List Ev) (b:Nat):=(J3s a b).2.1
def J1o (a:List Ev) (b:Nat):=(J3q a b).2
def Jyp (a:Nat) (b:List Ev) (c:Nat):=a≤List.length b∧List.length b-a<List.length b-c
def J9u (a:List Ev) (b:Ev×Unit→List Prop):=∀(x:Ev),J1u a x→Ur (b (x,PUnit.unit))
def Kd8 (a:List Ev) (b:Nat):=((J3s a b).1,J3p a b,(J3q a b).1,E2 (J1o a b))
def J60 (a:List Ev) (b:Nat):=(Kd8 a b,PUnit.unit)
def J88 (a:Ev×Unit→List Prop) (b:List Ev) (c:Nat):=Ur (a (J60 b c))
theorem Kqn:Ok Tryz.prog 124 Krt:=okW K3m Tryz.f124 (fun xx=>X8 (Jbf 67 9 sEv xx.1 tS true xx.2.1.1 xx.2.1.2)) fun xx=>by
 obtain⟨(l:List Ev),⟨(q:Ev×Unit→List Prop),(f:Ev×Unit→ByteArray)⟩,_⟩:=xx
 refine(by kernel_rfl:(Z38 l→J9u l q→∃(x:Nat),Si (Ln l) (0=Nc x∧Sf l ((fun(x:Ev×PUnit)=>q x)=q∧(fun(x:Ev×PUnit)=>f x)=f∧List.length (J98 f x l)=0))∧x≤List.length l∧∀(x:Nat),x≤List.length l→Br (Z78 x l) (Tw (Z8 x l)∧(J88 q l x∧(List.length (J98 f x l)+1)*16≤140737488355328)∧Z19 x∧∃(y:Nat),Si (Ln l) (Z95 x y∧Sf l ((fun(x:Ev×PUnit)=>q x)=q∧(fun(x:Ev×PUnit)=>f x)=f∧J98 f x l++[f (J60 l x)]=J98 f y l))∧Jyp y l x) (J98 f x l=List.map (fun(x:Ev)=>f (x,PUnit.unit)) l))=_).mp ?_
 delta Z8 Z19 Z38 Z78 Z95 J1u D9 J98 J3s J3q J3p J1o Jyp J9u Kd8 J60 J88 Br Iw Bd Tw Sf Si Ln Nc B0 E2
 intro hb hq
 refine⟨(0:Nat),⟨rfl,rfl,rfl,rfl,rfl,by simp⟩,Nat.zero_le _,fun(k:Nat) hk=>⟨fun h=> ?_,fun h=> ?_⟩⟩
 ·have hlt:k<l.length:=by simpa using h
  refine⟨by omega,⟨hq (l.getD k evz) (Je hlt),by simp only[List.length_map,List.length_take];omega⟩,by omega,(k+1:Nat),⟨rfl,by simp,rfl,rfl,rfl, ?_⟩,by omega,by omega⟩
  rw[←Us (d:=evz) hlt,List.map_append];rfl
 ·have hlt:¬k<l.length:=by simpa using h
  rw[List.take_of_length_le (by omega)]
abbrev K3l:=K3m.add Kqn
def cQ (pre:Reg→ByteArray→List Prop) (f:Reg→ByteArray→List ByteArray):Con:={args:=[Jbj,aS],ress:=[(false, .list 9 .str)],owns:=[true],pre:=fun(r,s,_)=>pre r s,spec:=fun(r,s,_)=>(f r s,())}
theorem Jwx {tk st:Int} {S:List Sta} {O:List Ord} {M:List Met} {X:List Out} {Q:List Per} {s:ByteArray} (hr:Jn (tk,st,S,O,M,X,Q)):∀(l:List Sta) (n:Int),n-3200000000*l.length≤Jyi st O M s l n∧Jyi st O M s l n≤n+3200000000*l.length
 |[],n=>by simp[Jyi]
 | x :: l, n => by
  have hb:=Jqg (a:=s) (b:=x.1) hr
  have ih:=Jwx (s:=s) hr l (bif x.1.toList !=s.toList then n+Dp st O M s x.1 else n)
  have hd:n-3200000000≤(bif x.1.toList !=s.toList then n+Dp st O M s x.1 else n)∧(bif x.1.toList !=s.toList then n+Dp st O M s x.1 else n)≤n+3200000000:=by
   cases x.1.toList !=s.toList<;>simp only[cond_true,cond_false]<;>omega
  simp only[List.length_cons]
  unfold Jyi
  omega
theorem Jwv {tk st:Int} {S:List Sta} {O:List Ord} {M:List Met} {X:List Out} {Q:List Per} {s:ByteArray} (hr:Jn (tk,st,S,O,M,X,Q)): -19200000000≤Jww st S O M s∧Jww st S O M s≤19200000000:=by
 have h:=Jwx (s:=s) hr S 0
 have nS:S.length≤6:=hr.nS
 unfold Jww
 omega
def Jug:Reg→ByteArray→List ByteArray:=fun(_,st,S,O,M,_) s=>[Vk (Jww st S O M s)]
def Krn:Con:=cQ (fun r _=>[Jn r]) Jug
theorem Koz:Ok Tryz.prog 195 Krn:=okW K3l Tryz.f195 na fun xx=>by
 obtain⟨⟨(tk:Int),(st:Int),(S:List Sta),(O:List Ord),(M:List Met),(X:List Out),(Q:List Per)⟩,(s:ByteArray),_⟩:=xx
 refine(by kernel_rfl:(Jx tk st S O M X Q→(Jx tk st S O M X Q∧Iw (Jww st S O M s))∧[Vk (Jww st S O M s)]=Jug (Z65 tk st S O M X Q) s)=_).mp ?_
 delta Z65 Jx Iw
 intro hr
 have hb:=Jwv (s:=s) hr
 exact⟨⟨hr,by omega,by omega⟩,rfl⟩
abbrev K3k:=K3l.add Koz
def Jeo:Reg→ByteArray→List ByteArray:=fun(_,_,S,_) s=>[Vk (Ho S s).2.2]
def Kbx:Con:=cQ (fun r s=>[Jn r,0≤J0 r.2.2.1 s]) Jeo
theorem Koy:Ok Tryz.prog 196 Kbx:=okW K3k Tryz.f196 na fun xx=>by
 obtain⟨⟨(tk:Int),(st:Int),(S:List Sta),(O:List Ord),(M:List Met),(X:List Out),(Q:List Per)⟩,(s:ByteArray),_⟩:=xx
 refine(by kernel_rfl:(Jx tk st S O M X Q→Z20 S s→(Z59 S∧Z20 S s∧Iw (Ho S s).2.2)∧[Vk (Ho S s).2.2]=Jeo (Z65 tk st S O M X Q) s)=_).mp ?_
 delta Z20 Z59 Z65 Jx Iw
 intro hr h
 have nS:S.length≤6:=hr.nS
 have hs:0≤(Ho S s).2.2∧(Ho S s).2.2≤1000:=(Jil hr.sta h).pri
 exact⟨⟨by omega,h,by omega,by omega⟩,rfl⟩
abbrev K3j:=K3k.add Koy
def Jep:Reg→ByteArray→List ByteArray:=fun(_,st,_,O,M,_) s=>[Vk (Uf st M (Yu O s)).2.1,Vk (Uf st M (Yu O s)).2.2.1,Vk (Uf st M (Yu O s)).2.2.2.1,Vk (Uf st M (Yu O s)).2.2.2.2.1,Vk (Uf st M (Yu O s)).2.2.2.2.2]
def Kbz:Con:=cQ (fun r s=>[Jn r,0≤Kp r.2.2.2.1 s]) Jep
def Kxk (a:List Ord) (b:Bt):=((Yu a b).1,(Yu a b).2.1,(Yu a b).2.2.1,E2 (Yu a b).2.2.2.1,(Yu a b).2.2.2.2.1,E2 (Yu a b).2.2.2.2.2)
def Kw8 (a:Int) (b:List Met) (c:List Ord) (d:Bt):=(Uf a b (Kxk c d)).2
def Kw4 (a:Int) (b:List Met) (c:List Ord) (d:Bt):=(Kw8 a b c d).1
def Kw3 (a:Int) (b:List Met) (c:List Ord) (d:Bt):=(Kw8 a b c d).2
def Kw0 (a:Int) (b:List Met) (c:List Ord) (d:Bt):=(Kw3 a b c d).1
def Kwz (a:Int) (b:List Met) (c:List Ord) (d:Bt):=(Kw3 a b c d).2
def Kwy (a:Int) (b:List Met) (c:List Ord) (d:Bt):=(Kwz a b c d).2
def Kwx (a:Int) (b:List Met) (c:List Ord) (d:Bt):=(Kwz a b c d).1
def Kwu (a:Int) (b:List Met) (c:List Ord) (d:Bt):=(Kwy a b c d).1
def Kwt (a:Int) (b:List Met) (c:List Ord) (d:Bt):=(Kwy a b c d).2
theorem Kox:Ok Tryz.prog 197 Kbz:=okW K3j Tryz.f197 na fun xx=>by
 obtain⟨⟨(tk:Int),(st:Int),(S:List Sta),(O:List Ord),(M:List Met),(X:List Out),(Q:List Per)⟩,(s:ByteArray),_⟩:=xx
 refine(by kernel_rfl:(Jx tk st S O M X Q→0≤Kp O s→(Z43 O∧0≤Kp O s∧Jx tk st S O M X Q∧Kxk O s∈O)∧(5≤1000000∧∀(x:Int),x∈[Kw4 st M O s,Kw0 st M O s,Kwx st M O s,Kwu st M O s,Kwt st M O s]→Iw x)∧[Vk (Kw4 st M O s),Vk (Kw0 st M O s),Vk (Kwx st M O s),Vk (Kwu st M O s),Vk (Kwt st M O s)]=Jep (Z65 tk st S O M X Q) s)=_).mp ?_
 delta Z43 Z65 Jx Kxk Kw8 Kw4 Kw3 Kw0 Kwz Kwy Kwx Kwu Kwt Iw E2
 intro hr h
 have nO:O.length≤32:=hr.nO
 have hm:=F1 h
 have hb:=Jbb hr hm
 simp only[Prod.eta]
 refine⟨⟨by omega,h,hr,hm⟩,⟨by decide,fun x hx=> ?_⟩,rfl⟩
 have b1:=hb.hours
 have b2:=hb.sent
 have b3:=hb.got
 have b4:=hb.money
 have b5:=hb.fine
 simp only[List.mem_cons,List.not_mem_nil,or_false] at hx
 rcases hx with rfl|rfl|rfl|rfl|rfl<;>omega
abbrev K3i:=K3j.add Kox
def Jda:List Gap→List ByteArray→List ByteArray
 |[],o=>o
 |g::l,o=>Jda l (bif decide ((o.length:Int)<512) then o++[g.1,Vk g.2] else o)
def Jc7:Reg→ByteArray→List ByteArray:=fun(tk,_,_,O,M,_) _=>Jda (Kj M tk O) []
def Kby:Con:=cQ (fun r _=>[Jn r]) Jc7
abbrev J1d (L:List Gap):Ann:={X:=Nat×List ByteArray,σ:=fun(k,o)=>⟨2,[(5, .one (.sl 1)),(11, .one (.sl 0)),(12, .one (.int .i64 L.length)),(13, .one (.int .i64 k))],[(0, .own 200 J2s L),(1, .own 9 .str o)]⟩,inv:=fun(k,o)=>k≤L.length∧o.length≤600∧Jda (L.drop k) o=Jda L [],mu:=fun(k,_)=>L.length-k}
theorem Jll {M:List Met} {u:Int} {x:Ord}:∀(n:Nat) (h:Int),(L7 M u x h n).length≤n
 |0,_=>Nat.le_refl _
 |n+1,h=>by
  have:=Jll (M:=M) (u:=u) (x:=x) n (h+1)
  unfold L7
  rw[List.length_append]
  cases Jr x h&&(decide (h<u)&&decide (Kq M x.1 h<0))<;>simp only[cond_true,cond_false,List.length_singleton,List.length_nil]<;>omega
theorem Jlj {S:List Sta} {M:List Met} {u:Int}:∀{O:List Ord},(∀x∈O,Jdj S x)→(Kj M u O).length≤48*O.length
 |[],_=>Nat.le_refl _
 |x::l,h=>by
  have h1:=Jlj (M:=M) (u:=u) (O:=l) fun y hy=>h y (List.mem_cons_of_mem _ hy)
  have h2:=Jll (M:=M) (u:=u) (x:=x) (x.2.2.2.1.2-x.2.2.2.1.1).toNat x.2.2.2.1.1
  have h3:=Jot (h x (List.mem_cons_self ..))
  unfold Uo at h3
  unfold Kj Juw
  rw[List.length_append,List.length_cons]
  omega
theorem Jpf {M:List Met} {u:Int} {x:Ord}:∀(n:Nat) (h:Int),∀g∈L7 M u x h n,h≤g.2∧g.2<h+n
 |0,_,g,hg=>by cases hg
 | n + 1, h, g, hg => by
  unfold L7 at hg
  rcases List.mem_append.1 hg with hg|hg
  ·cases hb:Jr x h&&(decide (h<u)&&decide (Kq M x.1 h<0)) with
   |false=>rw[hb] at hg;cases hg
   |true=>
    rw[hb,cond_true] at hg
    rw[List.mem_singleton.1 hg]
    constructor<;>dsimp only<;>omega
  ·have:=Jpf n (h+1) g hg
   omega
theorem Jja {S:List Sta} {M:List Met} {u:Int}:∀{O:List Ord},(∀x∈O,Jdj S x)→∀g∈Kj M u O,0≤g.2∧g.2≤999999999
 |[],_,g,hg=>by cases hg
 | x :: l, h, g, hg => by
  unfold Kj at hg
  rcases List.mem_append.1 hg with hg|hg
  ·have hs:=(h x (List.mem_cons_self ..)).span
   have h1:=hs.lo
   have h2:=hs.mid
   have h3:=hs.hi
   have:=Jpf _ _ g hg
   omega
  ·exact Jja (fun y hy=>h y (List.mem_cons_of_mem _ hy)) g hg
def Kil (a:Nat×Ls) (b:List Met) (c:Int) (d:List Ord):=a.1≤List.length (Kj b c d)∧List.length a.2≤600∧Jda (List.drop a.1 (Kj b c d)) a.2=Jda (Kj b c d) []
def Ku5 (a:Nat×Ls) (b:List Met) (c:Int) (d:List Ord) (e:Nat×Ls):=Kil a b c d∧List.length (Kj b c d)-a.1<List.length (Kj b c d)-e.1
theorem Kou:Ok Tryz.prog 200 Kby:=okW K3i Tryz.f200 (fun xx=>X8 (J1d (Kj xx.1.2.2.2.2.1 xx.1.1 xx.1.2.2.2.1))) fun xx=>by
 obtain⟨⟨(tk:Int),(st:Int),(S:List Sta),(O:List Ord),(M:List Met),(X:List Out),(Q:List Per)⟩,(s:ByteArray),_⟩:=xx
 refine(by kernel_rfl:(Jx tk st S O M X Q→Jx tk st S O M X Q∧∃(x:Nat×List ByteArray),Si (Ln (Kj M tk O)) (0=Nc x.1∧Sf (Kj M tk O) (List.length x.2=0))∧Kil x M tk O∧∀(x:Nat×List ByteArray),Kil x M tk O→Br (decide (Nc x.1<Ln (Kj M tk O))) (Tw (Bd (Nc x.1) (Ln (Kj M tk O)))∧Br (decide (Ln x.2<512)) ((Iw (List.getD (Kj M tk O) x.1 (B0,0)).2∧(List.length x.2+2)*16≤140737488355328)∧Iw (Nc x.1+1)∧∃(y:Nat×List ByteArray),Si (Ln (Kj M tk O)) (Nc x.1+1=Nc y.1∧Sf (Kj M tk O) (x.2++[(List.getD (Kj M tk O) x.1 (B0,0)).1,Vk (List.getD (Kj M tk O) x.1 (B0,0)).2]=y.2))∧Ku5 y M tk O x) (Iw (Nc x.1+1)∧∃(y:Nat×List ByteArray),Si (Ln (Kj M tk O)) (Nc x.1+1=Nc y.1∧Sf (Kj M tk O) (x.2=y.2))∧Ku5 y M tk O x)) (x.2=Jc7 (Z65 tk st S O M X Q) s))=_).mp ?_
 delta Z65 Jx Kil Ku5 Br Iw Bd Tw Sf Si Ln Nc B0
 intro hr
 have nO:O.length≤32:=hr.nO
 have hL:(Kj M tk O).length≤48*O.length:=Jlj hr.ord
 have hG:∀g∈Kj M tk O,0≤g.2∧g.2≤999999999:=Jja hr.ord
 have hq:Jc7 (tk,st,S,O,M,X,Q) s=Jda (Kj M tk O) []:=rfl
 rw[hq]
 refine⟨hr,((0:Nat),[]),by(repeat' first|exact rfl|exact⟨⟩|apply And.intro|omega|dsimp only;omega),⟨Nat.zero_le _,Nat.zero_le _,rfl⟩,fun(x:Nat×List ByteArray) hx=>⟨fun hlt=> ?_,fun hlt=> ?_⟩⟩
 ·obtain⟨k,o⟩:=x
  obtain⟨k1,k2,k3⟩:=hx
  have hlt:k<(Kj M tk O).length:=by simpa using hlt
  have hg:=hG _ (Je (d:=(Ja,0)) hlt)
  dsimp only at k1 k2 k3
  rw[Jz (d:=((Ja,0):Gap)) hlt,Jda] at k3
  have hz:((({data:={toList:=[]}}:ByteArray),(0:Int)):Gap)=(Ja,0):=rfl
  simp only[hz]
  refine⟨by(repeat' first|apply And.intro|(first|omega|dsimp only;omega)),fun h=>⟨⟨by(repeat' first|apply And.intro|(first|omega|dsimp only;omega)),by(first|omega|dsimp only;omega)⟩,by(repeat' first|apply And.intro|(first|omega|dsimp only;omega)),(k+1,o++[((Kj M tk O).getD k (Ja,0)).1,Vk ((Kj M tk O).getD k (Ja,0)).2]),by(repeat' first|exact rfl|exact⟨⟩|apply And.intro|omega|dsimp only;omega),⟨by(first|omega|dsimp only;omega), ?_, ?_⟩,by(first|omega|dsimp only;omega)⟩,fun h=>⟨by(repeat' first|apply And.intro|(first|omega|dsimp only;omega)),(k+1,o),by(repeat' first|exact rfl|exact⟨⟩|apply And.intro|omega|dsimp only;omega),⟨by(first|omega|dsimp only;omega),k2, ?_⟩,by(first|omega|dsimp only;omega)⟩⟩
  ·have h:=of_decide_eq_true h
   simp only[List.length_append,List.length_cons,List.length_nil]
   omega
  all_goals (rw[h] at k3;exact k3)
 ·obtain⟨k,o⟩:=x
  obtain⟨k1,k2,k3⟩:=hx
  have hlt:¬k<(Kj M tk O).length:=by simpa using hlt
  have e:k=(Kj M tk O).length:=by dsimp only at k1;omega
  rw[e,List.drop_length,Jda] at k3
  exact k3
abbrev K3h:=K3i.add Kou
def K6a:Con:={args:=[.val true Zg, .ref 105 Jj7],ress:=[Bo],owns:=[],pre:=fun _=>[],spec:=fun(x,(tk,_),_)=>(Ko x.2.2.1 tk,())}
theorem Kor:Ok Tryz.prog 203 K6a:=okW K3h Tryz.f203 na fun xx=>by
 obtain⟨⟨(n:ByteArray),(f:ByteArray),⟨(a:Int),(b:Int)⟩,(p:Int)⟩,⟨(tk:Int),(st:Int),(S:List Sta),(O:List Ord),(M:List Met),(X:List Out),(Q:List Per)⟩,_⟩:=xx
 refine(by kernel_rfl:(Ko (a,b) tk=Ko (a,b) tk)=_).mp ?_
 rfl
abbrev K3g:=K3h.add Kor
def Kcb:Con:={args:=[.val false (.list 188 Zg), .fn [(true,Zg)] Bo],ress:=[(false, .list 188 Zg)],owns:=[true],pre:=fun(l,(q,_),_)=>[l.length≤1000000,∀x∈l,Ur (q (x,()))],spec:=fun(l,(_,f),_)=>(l.filter fun x=>f (x,()),())}
def J3x (a:Out×Unit→Bool) (b:Nat) (c:List Out):=List.filter (fun(x:Out)=>a (x,PUnit.unit)) (List.take b c)
def J67 (a:Nat) (b:List Out) (c:Nat):=a≤List.length b∧Jyv b a c
theorem K4u:Ok Tryz.prog 94 Kcb:=okW K3g Tryz.f94 (fun xx=>X8 (Joc 188 188 Zg xx.1 true xx.2.1.1 xx.2.1.2)) fun xx=>by
 obtain⟨(l:List Out),⟨(q:Out×Unit→List Prop),(f:Out×Unit→Bool)⟩,_⟩:=xx
 refine(by kernel_rfl:(Z58 l→J3n l q→∃(x:Nat),Si (Ln l) (0=Nc x∧Sf l ((fun(x:Out×PUnit)=>q x)=q∧(fun(x:Out×PUnit)=>f x)=f∧List.length (J3x f x l)=0))∧x≤List.length l∧∀(x:Nat),x≤List.length l→Br (Js9 x l) (Tw (Z22 x l)∧J3h q l x∧Br (Kht f l x) ((List.length (J3x f x l)+1)*56≤140737488355328∧Z19 x∧∃(y:Nat),Si (Ln l) (Z95 x y∧Sf l ((fun(x:Out×PUnit)=>q x)=q∧(fun(x:Out×PUnit)=>f x)=f∧J3x f x l++[J89 l x]=J3x f y l))∧J67 y l x) (Z19 x∧∃(y:Nat),Si (Ln l) (Z95 x y∧Sf l ((fun(x:Out×PUnit)=>q x)=q∧(fun(x:Out×PUnit)=>f x)=f∧J3x f x l=J3x f y l))∧J67 y l x)) (J3x f x l=List.filter (fun(x:Out)=>f (x,PUnit.unit)) l))=_).mp ?_
 delta Z19 Z22 Z58 Z95 Js9 Jgf Jyv J3x J1q J1p J3t J67 J3n J89 J3i Kht J3h Br Iw Bd Tw Sf Si Ln Nc B0 E2
 intro hb hq
 refine⟨(0:Nat),⟨rfl,rfl,rfl,rfl,rfl,by simp⟩,Nat.zero_le _,fun(k:Nat) hk=>⟨fun h=> ?_,fun h=> ?_⟩⟩
 ·have hlt:k<l.length:=by simpa using h
  have hf:=Jfm (p:=fun x=>f (x,())) hk
  have ht:=Us (d:=Jbh) hlt
  refine⟨by omega,hq (l.getD k Jbh) (Je hlt),fun h1=> ?_,fun h1=> ?_⟩
  ·have h1:f (l.getD k Jbh,())=true:=h1
   refine⟨by show((List.filter (fun x=>f (x,())) (List.take k l)).length+1)*56≤_;omega,by omega,(k+1:Nat),⟨rfl,by simp,rfl,rfl,rfl, ?_⟩,by omega,by omega⟩
   rw[←ht,List.filter_append,List.filter_cons,if_pos h1];rfl
  ·have h1:f (l.getD k Jbh,())=false:=h1
   refine⟨by omega,(k+1:Nat),⟨rfl,by simp,rfl,rfl,rfl, ?_⟩,by omega,by omega⟩
   rw[←ht,List.filter_append,List.filter_cons,if_neg (by rw[h1];decide)];simp
 ·have hlt:¬k<l.length:=by simpa using h
  rw[List.take_of_length_le (by omega)]
abbrev K3f:=K3g.add K4u
def Kb4:Con:={args:=[.val false (.list 188 Zg), .fn [(true,Zg)] tS],ress:=[(false, .list 9 .str)],owns:=[true],pre:=fun(l,(q,_),_)=>[l.length≤1000000,∀x∈l,Ur (q (x,()))],spec:=fun(l,(_,f),_)=>(l.map fun x=>f (x,()),())}
def J95 (a:Out×Unit→Bt) (b:Nat) (c:List Out):=List.map (fun(x:Out)=>a (x,PUnit.unit)) (List.take b c)
theorem Kos:Ok Tryz.prog 202 Kb4:=okW K3f Tryz.f202 (fun xx=>X8 (Jbf 188 9 Zg xx.1 tS true xx.2.1.1 xx.2.1.2)) fun xx=>by
 obtain⟨(l:List Out),⟨(q:Out×Unit→List Prop),(f:Out×Unit→ByteArray)⟩,_⟩:=xx
 refine(by kernel_rfl:(Z58 l→J3n l q→∃(x:Nat),Si (Ln l) (0=Nc x∧Sf l ((fun(x:Out×PUnit)=>q x)=q∧(fun(x:Out×PUnit)=>f x)=f∧List.length (J95 f x l)=0))∧x≤List.length l∧∀(x:Nat),x≤List.length l→Br (Js9 x l) (Tw (Z22 x l)∧(J3h q l x∧(List.length (J95 f x l)+1)*16≤140737488355328)∧Z19 x∧∃(y:Nat),Si (Ln l) (Z95 x y∧Sf l ((fun(x:Out×PUnit)=>q x)=q∧(fun(x:Out×PUnit)=>f x)=f∧J95 f x l++[f (J3i l x)]=J95 f y l))∧J67 y l x) (J95 f x l=List.map (fun(x:Out)=>f (x,PUnit.unit)) l))=_).mp ?_
 delta Z19 Z22 Z58 Z95 Js9 Jgf Jyv J1q J95 J1p J3t J67 J3n J89 J3i J3h Br Iw Bd Tw Sf Si Ln Nc B0 E2
 intro hb hq
 refine⟨(0:Nat),⟨rfl,rfl,rfl,rfl,rfl,by simp⟩,Nat.zero_le _,fun(k:Nat) hk=>⟨fun h=> ?_,fun h=> ?_⟩⟩
 ·have hlt:k<l.length:=by simpa using h
  refine⟨by omega,⟨hq (l.getD k Jbh) (Je hlt),by simp only[List.length_map,List.length_take];omega⟩,by omega,(k+1:Nat),⟨rfl,by simp,rfl,rfl,rfl, ?_⟩,by omega,by omega⟩
  rw[←Us (d:=Jbh) hlt,List.map_append];rfl
 ·have hlt:¬k<l.length:=by simpa using h
  rw[List.take_of_length_le (by omega)]
abbrev K3e:=K3f.add Kos
def Kb6:Con:={args:=[.val false (.list 235 Hm), .fn [(true,Hm)] tS],ress:=[(false, .list 9 .str)],owns:=[true],pre:=fun(l,(q,_),_)=>[l.length≤1000000,∀x∈l,Ur (q (x,()))],spec:=fun(l,(_,f),_)=>(l.map fun x=>f (x,()),())}
def J97 (a:Per×Unit→Bt) (b:Nat) (c:List Per):=List.map (fun(x:Per)=>a (x,PUnit.unit)) (List.take b c)
theorem Koo:Ok Tryz.prog 206 Kb6:=okW K3e Tryz.f206 (fun xx=>X8 (Jbf 235 9 Hm xx.1 tS true xx.2.1.1 xx.2.1.2)) fun xx=>by
 obtain⟨(l:List Per),⟨(q:Per×Unit→List Prop),(f:Per×Unit→ByteArray)⟩,_⟩:=xx
 refine(by kernel_rfl:(Z50 l→J9t l q→∃(x:Nat),Si (Ln l) (0=Nc x∧Sf l ((fun(x:Per×PUnit)=>q x)=q∧(fun(x:Per×PUnit)=>f x)=f∧List.length (J97 f x l)=0))∧x≤List.length l∧∀(x:Nat),x≤List.length l→Br (Jy2 x l) (Tw (Bd (Nc x) (Ln l))∧(J9n q l x∧(List.length (J97 f x l)+1)*16≤140737488355328)∧Z19 x∧∃(y:Nat),Si (Ln l) (Z95 x y∧Sf l ((fun(x:Per×PUnit)=>q x)=q∧(fun(x:Per×PUnit)=>f x)=f∧J97 f x l++[f (J9r l x)]=J97 f y l))∧Kga y l x) (J97 f x l=List.map (fun(x:Per)=>f (x,PUnit.unit)) l))=_).mp ?_
 delta Z19 Z50 Z95 Jy2 J35 J1t J97 Kga J9t Kfw J9r J9n Br Iw Bd Tw Sf Si Ln Nc B0 E2
 intro hb hq
 refine⟨(0:Nat),⟨rfl,rfl,rfl,rfl,rfl,by simp⟩,Nat.zero_le _,fun(k:Nat) hk=>⟨fun h=> ?_,fun h=> ?_⟩⟩
 ·have hlt:k<l.length:=by simpa using h
  refine⟨by omega,⟨hq (l.getD k Jiz) (Je hlt),by simp only[List.length_map,List.length_take];omega⟩,by omega,(k+1:Nat),⟨rfl,by simp,rfl,rfl,rfl, ?_⟩,by omega,by omega⟩
  rw[←Us (d:=Jiz) hlt,List.map_append];rfl
 ·have hlt:¬k<l.length:=by simpa using h
  rw[List.take_of_length_le (by omega)]
abbrev K3d:=K3e.add Koo
def Jsx:Reg→ByteArray→List ByteArray:=fun(tk,_,_,_,_,X,_) _=>(X.filter fun x=>Ko x.2.2.1 tk).map fun x=>x.1
def Krm:Con:=cQ (fun r _=>[Jn r]) Jsx
theorem Kot:Ok Tryz.prog 201 Krm:=okW K3d Tryz.f201 na fun xx=>by
 obtain⟨⟨(tk:Int),(st:Int),(S:List Sta),(O:List Ord),(M:List Met),(X:List Out),(Q:List Per)⟩,(s:ByteArray),_⟩:=xx
 refine(by kernel_rfl:(Jx tk st S O M X Q→(Z58 X∧Kl1 X∧List.length (List.filter (fun(x:Out)=>Ko x.2.2.1 tk) X)≤1000000∧∀(x:Out),x∈List.filter (fun(x:Out)=>Ko x.2.2.1 tk) X→True)∧List.map (fun(x:Out)=>x.1) (List.filter (fun(x:Out)=>Ko x.2.2.1 tk) X)=Jsx (Z65 tk st S O M X Q) s)=_).mp ?_
 delta Z58 Z65 Jx Kl1
 intro hr
 have nX:X.length≤16:=hr.nX
 have:=List.length_filter_le (fun x:Out=>Ko x.2.2.1 tk) X
 exact⟨⟨by omega,fun _ _=>trivial,Nat.le_trans this (by omega),fun _ _=>trivial⟩,rfl⟩
abbrev K3c:=K3d.add Kot
def Jsw:Reg→ByteArray→List ByteArray:=fun(_,_,_,_,_,_,Q) _=>(L6 Q).map fun x=>x.1
def Krl:Con:=cQ (fun r _=>[Jn r]) Jsw
theorem Kop:Ok Tryz.prog 205 Krl:=okW K3c Tryz.f205 na fun xx=>by
 obtain⟨⟨(tk:Int),(st:Int),(S:List Sta),(O:List Ord),(M:List Met),(X:List Out),(Q:List Per)⟩,(s:ByteArray),_⟩:=xx
 refine(by kernel_rfl:(Jx tk st S O M X Q→Kip tk st S O M X Q∧List.map (fun(x:Per)=>x.1) (L6 Q)=Jsw (Z65 tk st S O M X Q) s)=_).mp ?_
 delta Z65 Jx Kip
 intro hr
 have nQ:Q.length≤16:=hr.nQ
 have:=Jdq (Q:=Q)
 exact⟨⟨hr,by omega,fun _ _=>trivial⟩,rfl⟩
abbrev K3b:=K3c.add Kop
def Jen:Reg→ByteArray→List ByteArray:=fun(_,st,_) _=>[Vk st]
def Kbw:Con:=cQ (fun r _=>[Jn r]) Jen
theorem Kol:Ok Tryz.prog 209 Kbw:=okW K3b Tryz.f209 na fun xx=>by
 obtain⟨⟨(tk:Int),(st:Int),(S:List Sta),(O:List Ord),(M:List Met),(X:List Out),(Q:List Per)⟩,(s:ByteArray),_⟩:=xx
 refine(by kernel_rfl:(Jx tk st S O M X Q→Iw st∧[Vk st]=Jen (Z65 tk st S O M X Q) s)=_).mp ?_
 delta Z65 Jx Iw
 intro hr
 have h1:0≤st∧st≤tk:=hr.st
 have h2:0≤tk∧tk≤999999999:=hr.tk
 exact⟨⟨by omega,by omega⟩,rfl⟩
abbrev K1y:=K3b.add Kol
end Go.Proofs.YtcibbcfiemeoiaaGreatDoor
namespace Go.Proofs.Tryz
open Go.Proofs.YtcibbcfiemeoiaaGreatDoor
def questU:List (ByteArray×Bool×Int×Option Nat):=[(⟨⟨[98,97,108,97,110,99,101]⟩⟩,true,0,some 195),(⟨⟨[114,97,116,101]⟩⟩,true,0,some 196),(⟨⟨[98,105,108,108]⟩⟩,true,1,some 197),(⟨⟨[109,105,115,115,105,110,103]⟩⟩,false,1,some 200),(⟨⟨[111,117,116,97,103,101,115]⟩⟩,false,2,some 201),(⟨⟨[112,101,114,109,105,116,115]⟩⟩,false,3,some 205),(⟨⟨[115,101,116,116,108,101,100]⟩⟩,false,0,some 209)]
end Go.Proofs.Tryz
namespace Go.Proofs.YtcibbcfiemeoiaaGreatDoor
open Go.Sx
set_option maxHeartbeats 20000000
abbrev Uk:ByteArray:=⟨⟨[98,97,108,97,110,99,101]⟩⟩
abbrev Ht:ByteArray:=⟨⟨[114,97,116,101]⟩⟩
abbrev Hu:ByteArray:=⟨⟨[98,105,108,108]⟩⟩
abbrev Uc:ByteArray:=⟨⟨[109,105,115,115,105,110,103]⟩⟩
abbrev Uj:ByteArray:=⟨⟨[111,117,116,97,103,101,115]⟩⟩
abbrev Ui:ByteArray:=⟨⟨[112,101,114,109,105,116,115]⟩⟩
abbrev Uh:ByteArray:=⟨⟨[115,101,116,116,108,101,100]⟩⟩
structure NmR (r:Reg):Prop where
 o:∀x∈r.2.2.2.1,x.1.size≤24
 x:∀x∈r.2.2.2.2.2.1,x.1.size≤24
 q:∀x∈r.2.2.2.2.2.2,x.1.size≤24
def Fa (h:Kb):Prop:=∀r∈h.2.2,NmR r
theorem J43 {e:Ev} (h:Jc e=0) (i:Nat):(e.2.2.1.getD i Ja).size≤24:=by
 by_cases hi:i<e.2.2.1.length
 ·exact Jpc ((K0 h).name _ (Je hi))
 ·rw[List.getD_eq_getElem?_getD,List.getElem?_eq_none (by omega)]
  decide
theorem Jaz {α:Type} {p:α→Prop} {l:List α} {d:α} (h:∀x∈l,p x) (hd:p d) (i:Nat):p (l.getD i d):=by
 by_cases hi:i<l.length
 ·exact h _ (Je hi)
 ·rw[List.getD_eq_getElem?_getD,List.getElem?_eq_none (by omega)]
  exact hd
theorem J4j {r:Reg} {e:Ev} (hr:NmR r) (hc:Jc e=0):NmR (Jl r e):=by
 have hn:=J43 hc
 obtain⟨tk,st,S,O,M,X,Q⟩:=r
 obtain⟨n,k,ns,vs,tx⟩:=e
 have ho:∀x∈O,x.1.size≤24:=hr.o
 have hx:∀x∈X,x.1.size≤24:=hr.x
 have hq:∀x∈Q,x.1.size≤24:=hr.q
 have hO:∀s,(Yu O s).1.size≤24:=fun s=>Jaz (p:=fun x:Ord=>x.1.size≤24) ho (by decide) _
 have hX:∀s,(L5 X s).1.size≤24:=fun s=>Jaz (p:=fun x:Out=>x.1.size≤24) hx (by decide) _
 have hQ:∀s,(Jmi Q s).1.size≤24:=fun s=>Jaz (p:=fun x:Per=>x.1.size≤24) hq (by decide) _
 unfold Jl doS
 split
 all_goals refine⟨fun y hy=> ?_,fun y hy=> ?_,fun y hy=> ?_⟩
 all_goals first|exact ho y hy|exact hx y hy|exact hq y hy|(rcases V0 hy with h|h;(first|exact ho y h|exact hx y h|exact hq y h);rw[h];exact hn 0)|(rcases Jbs hy with h|h;rw[h];(first|exact hO _|exact hX _|exact hQ _);(first|exact ho y h|exact hx y h|exact hq y h))
theorem Ksg {h:Kb} {e:Ev} (hN:Fa h) (ha:Kv h e=0):Fa (Ha h e):=by
 obtain⟨hc,hacc⟩:=add_zero ha
 obtain⟨E,C,G⟩:=h
 have h0:NmR (J2 G):=by
  unfold J2
  exact Jaz (p:=NmR) hN ⟨fun x h=>(by cases h),fun x h=>(by cases h),fun x h=>(by cases h)⟩ _
 cases hk:e.2.1.toList==Jp.toList with
 |true=>
  unfold Ha
  rw[hk,cond_true]
  exact fun r hr=>hN r (List.mem_of_mem_take hr)
 |false=>
  unfold Ha
  rw[hk,cond_false]
  intro r hr
  rcases V0 hr with hr|rfl
  ·exact hN r hr
  ·exact J4j h0 hc
theorem Jez {h:Kb} (hN:Fa h):NmR (J2 h.2.2):=by
 unfold J2
 exact Jaz (p:=NmR) hN ⟨fun x h=>(by cases h),fun x h=>(by cases h),fun x h=>(by cases h)⟩ _
theorem J5f:Fa V7:=fun r h=>by cases h
abbrev K14:Sch:= .prod .bool (.prod sI .fnc)
abbrev Qst:=Bool×Int×Option Nat
def Jem:List (ByteArray×Qst):=Tryz.questU
def J27:Jmh:={kT:=9,gk:=false,gv:=true,ks:= .str,vs:=K14,l:=Jem}
theorem Knj:wpFM Tryz.prog K1y.g (na ()) (fun _=>na ()) (Sx.look ([]:List (Nat×Func))) Tryz.f118 J27:=by
 refine(by kernel_rfl:(Kif∧Sf true ([(Uk,true,0,some 195),(Ht,true,0,some 196),(Hu,true,1,some 197),(Uc,false,1,some 200),(Uj,false,2,some 201),(Ui,false,3,some 205),(Uh,false,0,some 209)]=Jem))=_).mp ?_
 delta Kif Sf Lb Uk Hu Uc Uj Ui Ht Uh
 exact⟨⟨fun _ _=>rfl,fun _=>rfl⟩,rfl,rfl⟩
theorem J40:Ok Tryz.prog 118 (Jmh.con J27):=J2w (Jlf mixed K1y.ok (by kernel_rfl) (by kernel_rfl) (Uy (l:=([]:List (Nat×Func))) (by simp)) (na ()) (fun _=>na ()) Knj)
abbrev K7l:=K1y.add J40
def J5u:Jmh:={kT:=9,gk:=false,gv:=true,ks:= .str,vs:=K14,l:=Tryz.questU}
theorem Kbe:Ok Tryz.prog 118 (Jmh.con J5u):=J40
abbrev Jy4:=K7l.add Kbe
def Jco (k:ByteArray):Qst:=(Up .str k Jem).getD (false,0,none)
def Jhd (k:ByteArray):Bool:=(Up .str k Jem).isSome
def Kq3:ByteArray:=⟨⟨[110,111,110,101]⟩⟩
def Jmk (l:List ByteArray):ByteArray:=bif (l.length:Int)==0 then Kq3 else Vq l ⟨⟨[32]⟩⟩
def Jgw (named:Bool) (what:Int) (f:Reg→ByteArray→List ByteArray) (r:Reg) (ws:List ByteArray):ByteArray×Int:=
 bif named then(bif (ws.length:Int)==2 then(bif (ws.getD 1 Ja).toList==Ja.toList then(Ja,25) else bif !Vl r what (ws.getD 1 Ja) then(Ja,10) else(Jmk (f r (ws.getD 1 Ja)),0)) else(Ja,25))
 else bif (ws.length:Int) !=1 then(Ja,25) else(Jmk (f r Ja),0)
def X7 (r:Reg) (ws:List ByteArray):ByteArray×Int:=match(Jco (ws.getD 0 Ja)).2.2 with
 |some 195=>Jgw true 0 Jug r ws
 |some 196=>Jgw true 0 Jeo r ws
 |some 197=>Jgw true 1 Jep r ws
 |some 200=>Jgw false 1 Jc7 r ws
 |some 201=>Jgw false 2 Jsx r ws
 |some 205=>Jgw false 3 Jsw r ws
 |some 209=>Jgw false 0 Jen r ws
 |_=>(Ja,0)
structure Jf4 (h:Kb) (ws:List ByteArray):Prop where
 hist:Kd h
 nm:Fa h
 len:1≤ws.length
 key:Jhd (ws.getD 0 Ja)=true
 max:ws.length≤1000000
 siz:∀w∈ws,w.size≤1000000
def J01:Xv:={T? :=none,s:=Jit,args:=[.val false (.list 9 .str)],ress:=[tS,I],pre:=fun h (ws,_)=>[Jf4 h ws],spec:=fun h (ws,_)=>((X7 (J2 h.2.2) ws).1,(X7 (J2 h.2.2) ws).2,()),post:=fun h _=>h}
def SmL (l:List ByteArray):Prop:=l.length≤2000∧∀w∈l,w.size≤40
theorem K4 {l:List ByteArray} (h:SmL l):l.length≤1000000∧(Lib.join (l.map fun x=>x.data.toList) [32]).length≤140737488355328:=by
 refine⟨by have:=h.1;omega,Nat.le_trans (Jji rfl) ?_⟩
 have:∀l:List ByteArray,(∀w∈l,w.size≤40)→((l.map fun x=>x.data.toList).map fun x=>x.length+1).sum≤41*l.length:=by
  intro l
  induction l with
  |nil=>intro _;simp
  |cons x r ih=>
   intro h
   have h1:=ih fun w hw=>h w (List.mem_cons_of_mem _ hw)
   have h2:x.data.toList.length≤40:=h x (List.mem_cons_self ..)
   simp only[List.map_cons,List.sum_cons,List.length_cons]
   omega
 have h1:=this l h.2
 have h2:=h.1
 omega
theorem Jin {l:List Int} (h:l.length≤2000) (hb:∀n∈l,-9223372036854775808≤n∧n≤9223372036854775807):SmL (l.map Vk):=by
 refine⟨by simpa using h,fun w hw=> ?_⟩
 obtain⟨n,hn,rfl⟩:=List.mem_map.1 hw
 exact Jaw n (hb n hn).1 (hb n hn).2
theorem Jox {r:Reg} (hr:Jn r) (s:ByteArray):SmL (Jug r s):=by
 obtain⟨tk,st,S,O,M,X,Q⟩:=r
 have hb:=Jwv (s:=s) hr
 exact Jin (l:=[Jww st S O M s]) (by simp) fun n hn=>by rw[List.mem_singleton.1 hn];omega
theorem Jip {r:Reg} (hr:Jn r) {s:ByteArray} (h:0≤J0 r.2.2.1 s):SmL (Jeo r s):=by
 obtain⟨tk,st,S,O,M,X,Q⟩:=r
 have hs:0≤(Ho S s).2.2∧(Ho S s).2.2≤1000:=(Jil hr.sta h).pri
 exact Jin (l:=[(Ho S s).2.2]) (by simp) fun n hn=>by rw[List.mem_singleton.1 hn];omega
theorem Jir {r:Reg} (hr:Jn r) {s:ByteArray} (h:0≤Kp r.2.2.2.1 s):SmL (Jep r s):=by
 obtain⟨tk,st,S,O,M,X,Q⟩:=r
 have hb:=Jbb hr (F1 h)
 have b1:=hb.hours
 have b2:=hb.sent
 have b3:=hb.got
 have b4:=hb.money
 have b5:=hb.fine
 refine Jin (l:=[(Uf st M (Yu O s)).2.1,(Uf st M (Yu O s)).2.2.1,(Uf st M (Yu O s)).2.2.2.1,(Uf st M (Yu O s)).2.2.2.2.1,(Uf st M (Yu O s)).2.2.2.2.2]) (by simp) fun n hn=> ?_
 simp only[List.mem_cons,List.not_mem_nil,or_false] at hn
 rcases hn with rfl|rfl|rfl|rfl|rfl<;>omega
theorem Ji9:∀{l:List Gap} {o:List ByteArray},(∀g∈l,g.1.size≤40∧0≤g.2∧g.2≤999999999)→o.length≤514→(∀w∈o,w.size≤40)→SmL (Jda l o)
 |[],o,_,h1,h2=>⟨by unfold Jda;omega,h2⟩
 | g :: l, o, h, h1, h2 => by
  unfold Jda
  have hg:=h g (List.mem_cons_self ..)
  have h':∀x∈l,x.1.size≤40∧0≤x.2∧x.2≤999999999:=fun x hx=>h x (List.mem_cons_of_mem _ hx)
  cases hd:decide ((o.length:Int)<512) with
  |false=>exact Ji9 h' h1 h2
  |true=>
   have hd:=of_decide_eq_true hd
   rw[cond_true]
   refine Ji9 h' (by rw[List.length_append,List.length_cons,List.length_cons,List.length_nil];omega) fun w hw=> ?_
   simp only[List.mem_append,List.mem_cons,List.not_mem_nil,or_false] at hw
   rcases hw with hw|rfl|rfl
   ·exact h2 w hw
   ·exact hg.1
   ·exact Jaw _ (by omega) (by omega)
theorem Jpe {M:List Met} {u:Int} {x:Ord}:∀(n:Nat) (h:Int),∀g∈L7 M u x h n,g.1=x.1
 |0,_,g,hg=>by cases hg
 | n + 1, h, g, hg => by
  unfold L7 at hg
  rcases List.mem_append.1 hg with hg|hg
  ·cases hb:Jr x h&&(decide (h<u)&&decide (Kq M x.1 h<0)) with
   |false=>rw[hb] at hg;cases hg
   |true=>
    rw[hb,cond_true] at hg
    rw[List.mem_singleton.1 hg]
  ·exact Jpe n (h+1) g hg
theorem Jpd {M:List Met} {u:Int}:∀{O:List Ord},(∀x∈O,x.1.size≤24)→∀g∈Kj M u O,g.1.size≤24
 |[],_,g,hg=>by cases hg
 | x :: l, h, g, hg => by
  unfold Kj at hg
  rcases List.mem_append.1 hg with hg|hg
  ·rw[Jpe _ _ g hg]
   exact h x (List.mem_cons_self ..)
  ·exact Jpd (fun y hy=>h y (List.mem_cons_of_mem _ hy)) g hg
theorem Jiq {r:Reg} (hr:Jn r) (hN:NmR r) (s:ByteArray):SmL (Jc7 r s):=by
 obtain⟨tk,st,S,O,M,X,Q⟩:=r
 refine Ji9 (fun g hg=>⟨?_,Jja hr.ord g hg⟩) (by decide) fun w hw=>by cases hw
 have:=Jpd hN.o g hg
 omega
theorem Jow {r:Reg} (hr:Jn r) (hN:NmR r) (s:ByteArray):SmL (Jsx r s):=by
 obtain⟨tk,st,S,O,M,X,Q⟩:=r
 have nX:X.length≤16:=hr.nX
 have:=List.length_filter_le (fun x:Out=>Ko x.2.2.1 tk) X
 refine⟨by unfold Jsx;rw[List.length_map];omega,fun w hw=> ?_⟩
 obtain⟨x,hx,rfl⟩:=List.mem_map.1 hw
 have:=hN.x x (List.mem_filter.1 hx).1
 omega
theorem Jov {r:Reg} (hr:Jn r) (hN:NmR r) (s:ByteArray):SmL (Jsw r s):=by
 obtain⟨tk,st,S,O,M,X,Q⟩:=r
 have nQ:Q.length≤16:=hr.nQ
 have:=Jdq (Q:=Q)
 refine⟨by unfold Jsw;rw[List.length_map];omega,fun w hw=> ?_⟩
 obtain⟨x,hx,rfl⟩:=List.mem_map.1 hw
 have:=hN.q x (List.mem_filter.1 hx).1
 omega
theorem Jio {r:Reg} (hr:Jn r) (s:ByteArray):SmL (Jen r s):=by
 obtain⟨tk,st,S,O,M,X,Q⟩:=r
 have h1:0≤st∧st≤tk:=hr.st
 have h2:0≤tk∧tk≤999999999:=hr.tk
 exact Jin (l:=[st]) (by simp) fun n hn=>by rw[List.mem_singleton.1 hn];omega
theorem Jey (G:List Reg):(decide (0<(G.length:Int))=true∧J2 G=G.getD ((G.length:Int)-1).toNat U1)∨(decide (0<(G.length:Int))=false∧J2 G=U1):=by
 cases h:decide (0<(G.length:Int)) with
 |true=>exact .inl ⟨rfl,by unfold J2;congr 1;omega⟩
 |false=>exact .inr ⟨rfl,Kn h⟩
theorem Jro:Jco Uk=(true,0,some 195):=by kernel_rfl
theorem Joa (r:Reg) (ws:List ByteArray):X7 r (Uk::ws)=Jgw true 0 Jug r (Uk::ws):=by
 have:(Uk::ws).getD 0 Ja=Uk:=rfl
 unfold X7
 rw[this,Jro]
 rfl
def Z81 (a:List Reg) (b:Ls):=(X7 (J2 a) (Uk::b)).1
def Kmo (a:Ls):=Ln (Uk::a)==2
def Kan (a:List Reg) (b:Ls):=0=(X7 (J2 a) (Uk::b)).2
def Kah:=1≤1000000∧1≤140737488355328
def Jqk (a:Ls):= !Lb (Z91 a) B0
def Jml:=ByteArray.mk (Array.mk [110,111,110,101])
def Kfo (a:Ls):=Jug Vr (Z91 a)
def Kv9 (a:TypeId) (b c:List Ev) (d:List Reg) (e:Ls):=Sf true (Sf a (Sf (b,c,d) (B0=Z81 d e∧25=(X7 (J2 d) (Uk::e)).2)))
def Kek (a:TypeId) (b c:List Ev) (d:List Reg) (e:Ls):=Sf true (Sf a (Sf (b,c,d) (B0=Z81 d e∧10=(X7 (J2 d) (Uk::e)).2)))
def Kd9 (a:TypeId) (b c:List Ev) (d:List Reg) (e:Ls):=Sf true (Sf a (Sf (b,c,d) (Jml=Z81 d e∧Kan d e)))
def Kd2 (a:List Reg):=Jug (Yf a) B0
def Kdt (a:List Reg) (b:Ls):=Jug (Yf a) (Z91 b)
def J2e (a:List Reg):=bif true then !Vl (Yf a) 0 B0 else false
theorem Jid (T:TypeId) (E C:List Ev) (G:List Reg) (ws:List ByteArray):wpFO Tryz.prog Jy4.g (na ()) (fun _=>na ()) (Sx.look ([(75,Tryz.f75)]:List (Nat×Func))) Tryz.f119 J01 T (E,C,G) (Uk::ws,()):=by
 refine(by kernel_rfl:(Jf4 (E,C,G) (Uk::ws)→Tw (Bd 0 (Ln (Uk::ws)))∧Br (bif true then Kmo ws else false) (Tw (Bd 1 (Ln (Uk::ws)))∧Br (bif !true==bif Kmo ws then Jqk ws else false then true else false) (Kv9 T E C G ws) (Br (V2 G) (V1 G∧Jdx G∧Br (Jsp G ws) (Kek T E C G ws) (Y0 G∧Br (Ln (Kdt G ws)==0) (Kd9 T E C G ws) ((List.length (Kdt G ws)≤1000000∧List.length (Lib.join (List.map (fun(x:ByteArray)=>Z13 x) (Kdt G ws)) [32])≤140737488355328)∧Sf true (Sf T (Sf (E,C,G) (Vq (Kdt G ws) Hr=Z81 G ws∧Kan G ws)))))) (Jd1∧Br (J9d ws) (Kek T E C G ws) (Yt∧Br (Ln (Kfo ws)==0) (Kd9 T E C G ws) ((List.length (Kfo ws)≤1000000∧List.length (Lib.join (List.map (fun(x:ByteArray)=>Z13 x) (Kfo ws)) [32])≤140737488355328)∧Sf true (Sf T (Sf (E,C,G) (Vq (Kfo ws) Hr=Z81 G ws∧Kan G ws)))))))) (Br (bif !true==bif Kmo ws then false else false then true else false) (Kv9 T E C G ws) (Br (V2 G) (V1 G∧Jdx G∧Br (J2e G) (Kek T E C G ws) (Y0 G∧Br (Ln (Kd2 G)==0) (Kd9 T E C G ws) ((List.length (Kd2 G)≤1000000∧List.length (Lib.join (List.map (fun(x:ByteArray)=>Z13 x) (Kd2 G)) [32])≤140737488355328)∧Sf true (Sf T (Sf (E,C,G) (Vq (Kd2 G) Hr=Z81 G ws∧Kan G ws)))))) (Jd1∧Br true (Kek T E C G ws) (Yt∧Br false (Kd9 T E C G ws) (Kah∧Sf true (Sf T (Sf (E,C,G) (Vq (Jug Vr B0) Hr=Z81 G ws∧Kan G ws)))))))))=_).mp ?_
 delta Z13 Z81 Z91 V2 Hr Kmo Kan Kah Jqk Jml L9 V1 Vr Yt Jd1 D7 D6 Jaf Kfo Fw Hq Hp Dc Hb J3m J9d Kv9 Kek Kd9 Fv Yf Y0 Kd2 Jdx Kdt Jmd J2e Jsp Br Iw Bd Tw Sf Ln Gt B0 Lb E2 Uk
 intro ha
 obtain⟨hh,hn,-,-,hmax,hsz⟩:=ha
 have hr:Jn (J2 G):=Y6 hh
 have hN:NmR (J2 G):=Jez hn
 have hG:G.length≤1000:=by have:=hh.nE;have:=hh.nC;have:=hh.nG;dsimp only at*;omega
 rw[Joa]
 have hbn:({data:={toList:=[]}}:ByteArray)=Ja:=rfl
 have hl:((Uk::ws).length:Int)=(ws.length:Int)+1:=by simp
 have ha1:(Uk::ws).getD 1 Ja=ws.getD 0 Ja:=rfl
 have hz:((0:Int),(0:Int),([]:List Sta),([]:List Ord),([]:List Met),([]:List Out),([]:List Per))=U1:=rfl
 simp only[hbn,hz,hl,Prod.eta,Jgw,ha1]
 rcases Jey G with⟨hd,e0⟩|⟨hd,e0⟩
 ·rw[e0] at hr hN⊢
  have hp:=of_decide_eq_true hd
  rw[hd]
  generalize G.getD ((G.length:Int)-1).toNat U1=r at hr hN⊢
  cases h2:(ws.length:Int)+1==2
  all_goals cases h3:(ws.getD 0 Ja).toList==Ja.toList
  all_goals cases h4:Vl r 0 (ws.getD 0 Ja)
  all_goals cases h5:(((Jug r (ws.getD 0 Ja)).length:Int)==0)
  all_goals simp only[h2,h3,h4,h5,bne,Jmk,Bool.not_true,Bool.not_false,cond_true,cond_false,BEq.rfl,Bool.true_beq,Bool.false_beq,reduceCtorEq,false_implies,forall_const,true_and,and_true,and_self]
  all_goals repeat' apply And.intro
  all_goals first|omega|(have:=eq_of_beq h2;omega)|exact hr|exact(K4 (Jox hr _)).1|exact(K4 (Jox hr _)).2|rfl|(have:=h4;simpa[Vl] using this)|skip
 ·rw[e0] at hr hN⊢
  rw[hd]
  cases h2:(ws.length:Int)+1==2
  all_goals cases h3:(ws.getD 0 Ja).toList==Ja.toList
  all_goals cases h4:Vl U1 0 (ws.getD 0 Ja)
  all_goals cases h5:(((Jug U1 (ws.getD 0 Ja)).length:Int)==0)
  all_goals simp only[h2,h3,h4,h5,bne,Jmk,Bool.not_true,Bool.not_false,cond_true,cond_false,BEq.rfl,Bool.true_beq,Bool.false_beq,reduceCtorEq,false_implies,forall_const,true_and,and_true,and_self]
  all_goals repeat' apply And.intro
  all_goals first|omega|(have:=eq_of_beq h2;omega)|exact hr|exact(K4 (Jox hr _)).1|exact(K4 (Jox hr _)).2|rfl|(have:=h4;simpa[Vl,U1] using this)|exact nomatch (show true=false from h5)|exact nomatch (show false=true from h5)
theorem J4t:Jco Ht=(true,0,some 196):=by kernel_rfl
theorem J07 (r:Reg) (ws:List ByteArray):X7 r (Ht::ws)=Jgw true 0 Jeo r (Ht::ws):=by
 have:(Ht::ws).getD 0 Ja=Ht:=rfl
 unfold X7
 rw[this,J4t]
 rfl
def Z61 (a:List Reg) (b:Ls):=(X7 (J2 a) (Ht::b)).1
def Kms (a:Ls):=Ln (Ht::a)==2
def Kar (a:List Reg) (b:Ls):=0=(X7 (J2 a) (Ht::b)).2
def Kfk (a:Ls):=Jeo Vr (Z91 a)
def Ker (a:TypeId) (b c:List Ev) (d:List Reg) (e:Ls):=Sf true (Sf a (Sf (b,c,d) (B0=Z61 d e∧10=(X7 (J2 d) (Ht::e)).2)))
def Kwl (a:TypeId) (b c:List Ev) (d:List Reg) (e:Ls):=Sf true (Sf a (Sf (b,c,d) (B0=Z61 d e∧25=(X7 (J2 d) (Ht::e)).2)))
def Kee (a:TypeId) (b c:List Ev) (d:List Reg) (e:Ls):=Sf true (Sf a (Sf (b,c,d) (Jml=Z61 d e∧Kar d e)))
def Kdy (a:List Reg):=Jeo (Yf a) B0
def Kdq (a:List Reg) (b:Ls):=Jeo (Yf a) (Z91 b)
theorem Jq7 (T:TypeId) (E C:List Ev) (G:List Reg) (ws:List ByteArray):wpFO Tryz.prog Jy4.g (na ()) (fun _=>na ()) (Sx.look ([(75,Tryz.f75)]:List (Nat×Func))) Tryz.f119 J01 T (E,C,G) (Ht::ws,()):=by
 refine(by kernel_rfl:(Jf4 (E,C,G) (Ht::ws)→Tw (Bd 0 (Ln (Ht::ws)))∧Br (bif true then Kms ws else false) (Tw (Bd 1 (Ln (Ht::ws)))∧Br (bif !true==bif Kms ws then Jqk ws else false then true else false) (Kwl T E C G ws) (Br (V2 G) (V1 G∧Jdx G∧Br (Jsp G ws) (Ker T E C G ws) ((Y0 G∧0≤J0 (Hq G).1 (Z91 ws))∧Br (Ln (Kdq G ws)==0) (Kee T E C G ws) ((List.length (Kdq G ws)≤1000000∧List.length (Lib.join (List.map (fun(x:ByteArray)=>Z13 x) (Kdq G ws)) [32])≤140737488355328)∧Sf true (Sf T (Sf (E,C,G) (Vq (Kdq G ws) Hr=Z61 G ws∧Kar G ws)))))) (Jd1∧Br (J9d ws) (Ker T E C G ws) ((Yt∧0≤J0 [] (Z91 ws))∧Br (Ln (Kfk ws)==0) (Kee T E C G ws) ((List.length (Kfk ws)≤1000000∧List.length (Lib.join (List.map (fun(x:ByteArray)=>Z13 x) (Kfk ws)) [32])≤140737488355328)∧Sf true (Sf T (Sf (E,C,G) (Vq (Kfk ws) Hr=Z61 G ws∧Kar G ws)))))))) (Br (bif !true==bif Kms ws then false else false then true else false) (Kwl T E C G ws) (Br (V2 G) (V1 G∧Jdx G∧Br (J2e G) (Ker T E C G ws) ((Y0 G∧0≤J0 (Hq G).1 B0)∧Br (Ln (Kdy G)==0) (Kee T E C G ws) ((List.length (Kdy G)≤1000000∧List.length (Lib.join (List.map (fun(x:ByteArray)=>Z13 x) (Kdy G)) [32])≤140737488355328)∧Sf true (Sf T (Sf (E,C,G) (Vq (Kdy G) Hr=Z61 G ws∧Kar G ws)))))) (Jd1∧Br true (Ker T E C G ws) ((Yt∧0≤J0 [] B0)∧Br false (Kee T E C G ws) (Kah∧Sf true (Sf T (Sf (E,C,G) (Vq (Jeo Vr B0) Hr=Z61 G ws∧Kar G ws)))))))))=_).mp ?_
 delta Z13 Z61 Z91 V2 Kms Hr Kar Kah Jqk Jml L9 V1 Vr Yt Jd1 D7 D6 Jaf Kfk Fw Hq Hp Dc Hb J3m J9d Ker Kwl Kee Fv Yf Y0 Kdy Jdx Kdq Jmd J2e Jsp Br Iw Bd Tw Sf Ln Gt B0 Lb E2 Ht
 intro ha
 obtain⟨hh,hn,-,-,hmax,hsz⟩:=ha
 have hr:Jn (J2 G):=Y6 hh
 have hN:NmR (J2 G):=Jez hn
 have hG:G.length≤1000:=by have:=hh.nE;have:=hh.nC;have:=hh.nG;dsimp only at*;omega
 rw[J07]
 have hbn:({data:={toList:=[]}}:ByteArray)=Ja:=rfl
 have hl:((Ht::ws).length:Int)=(ws.length:Int)+1:=by simp
 have ha1:(Ht::ws).getD 1 Ja=ws.getD 0 Ja:=rfl
 have hz:((0:Int),(0:Int),([]:List Sta),([]:List Ord),([]:List Met),([]:List Out),([]:List Per))=U1:=rfl
 simp only[hbn,hz,hl,Prod.eta,Jgw,ha1]
 rcases Jey G with⟨hd,e0⟩|⟨hd,e0⟩
 ·rw[e0] at hr hN⊢
  have hp:=of_decide_eq_true hd
  rw[hd]
  generalize G.getD ((G.length:Int)-1).toNat U1=r at hr hN⊢
  cases h2:(ws.length:Int)+1==2
  all_goals cases h3:(ws.getD 0 Ja).toList==Ja.toList
  all_goals cases h4:Vl r 0 (ws.getD 0 Ja)
  all_goals cases h5:(((Jeo r (ws.getD 0 Ja)).length:Int)==0)
  all_goals simp only[h2,h3,h4,h5,bne,Jmk,Bool.not_true,Bool.not_false,cond_true,cond_false,BEq.rfl,Bool.true_beq,Bool.false_beq,reduceCtorEq,false_implies,forall_const,true_and,and_true,and_self]
  all_goals repeat' apply And.intro
  all_goals first|omega|(have:=eq_of_beq h2;omega)|exact hr|exact(K4 (Jip hr (by have:=h4;simpa[Vl,U1] using this))).1|exact(K4 (Jip hr (by have:=h4;simpa[Vl,U1] using this))).2|rfl|(have:=h4;simpa[Vl] using this)|skip
 ·rw[e0] at hr hN⊢
  rw[hd]
  cases h2:(ws.length:Int)+1==2
  all_goals cases h3:(ws.getD 0 Ja).toList==Ja.toList
  all_goals cases h4:Vl U1 0 (ws.getD 0 Ja)
  all_goals cases h5:(((Jeo U1 (ws.getD 0 Ja)).length:Int)==0)
  all_goals simp only[h2,h3,h4,h5,bne,Jmk,Bool.not_true,Bool.not_false,cond_true,cond_false,BEq.rfl,Bool.true_beq,Bool.false_beq,reduceCtorEq,false_implies,forall_const,true_and,and_true,and_self]
  all_goals repeat' apply And.intro
  all_goals first|omega|(have:=eq_of_beq h2;omega)|exact hr|exact(K4 (Jip hr (by have:=h4;simpa[Vl,U1] using this))).1|exact(K4 (Jip hr (by have:=h4;simpa[Vl,U1] using this))).2|rfl|(have:=h4;simpa[Vl,U1] using this)|exact nomatch (show true=false from h5)|exact nomatch (show false=true from h5)
theorem J4u:Jco Hu=(true,1,some 197):=by kernel_rfl
theorem J08 (r:Reg) (ws:List ByteArray):X7 r (Hu::ws)=Jgw true 1 Jep r (Hu::ws):=by
 have:(Hu::ws).getD 0 Ja=Hu:=rfl
 unfold X7
 rw[this,J4u]
 rfl
def Z44 (a:List Reg) (b:Ls):=(X7 (J2 a) (Hu::b)).1
def Kmr (a:Ls):=Ln (Hu::a)==2
def Kaq (a:List Reg) (b:Ls):=0=(X7 (J2 a) (Hu::b)).2
def Kfl (a:Ls):=Jep Vr (Z91 a)
def Kes (a:TypeId) (b c:List Ev) (d:List Reg) (e:Ls):=Sf true (Sf a (Sf (b,c,d) (B0=Z44 d e∧10=(X7 (J2 d) (Hu::e)).2)))
def Kwn (a:TypeId) (b c:List Ev) (d:List Reg) (e:Ls):=Sf true (Sf a (Sf (b,c,d) (B0=Z44 d e∧25=(X7 (J2 d) (Hu::e)).2)))
def Kef (a:TypeId) (b c:List Ev) (d:List Reg) (e:Ls):=Sf true (Sf a (Sf (b,c,d) (Jml=Z44 d e∧Kaq d e)))
def Kdz (a:List Reg):=Jep (Yf a) B0
def Kdp (a:List Reg) (b:Ls):=Jep (Yf a) (Z91 b)
theorem Jq8 (T:TypeId) (E C:List Ev) (G:List Reg) (ws:List ByteArray):wpFO Tryz.prog Jy4.g (na ()) (fun _=>na ()) (Sx.look ([(75,Tryz.f75)]:List (Nat×Func))) Tryz.f119 J01 T (E,C,G) (Hu::ws,()):=by
 refine(by kernel_rfl:(Jf4 (E,C,G) (Hu::ws)→Tw (Bd 0 (Ln (Hu::ws)))∧Br (bif true then Kmr ws else false) (Tw (Bd 1 (Ln (Hu::ws)))∧Br (bif !true==bif Kmr ws then Jqk ws else false then true else false) (Kwn T E C G ws) (Br (V2 G) (V1 G∧Jdx G∧Br (Jso G ws) (Kes T E C G ws) ((Y0 G∧0≤Kp (Hp G).1 (Z91 ws))∧Br (Ln (Kdp G ws)==0) (Kef T E C G ws) ((List.length (Kdp G ws)≤1000000∧List.length (Lib.join (List.map (fun(x:ByteArray)=>Z13 x) (Kdp G ws)) [32])≤140737488355328)∧Sf true (Sf T (Sf (E,C,G) (Vq (Kdp G ws) Hr=Z44 G ws∧Kaq G ws)))))) (Jd1∧Br (J9e ws) (Kes T E C G ws) ((Yt∧0≤Kp [] (Z91 ws))∧Br (Ln (Kfl ws)==0) (Kef T E C G ws) ((List.length (Kfl ws)≤1000000∧List.length (Lib.join (List.map (fun(x:ByteArray)=>Z13 x) (Kfl ws)) [32])≤140737488355328)∧Sf true (Sf T (Sf (E,C,G) (Vq (Kfl ws) Hr=Z44 G ws∧Kaq G ws)))))))) (Br (bif !true==bif Kmr ws then false else false then true else false) (Kwn T E C G ws) (Br (V2 G) (V1 G∧Jdx G∧Br (bif true then !Vl (Yf G) 1 B0 else false) (Kes T E C G ws) ((Y0 G∧0≤Kp (Hp G).1 B0)∧Br (Ln (Kdz G)==0) (Kef T E C G ws) ((List.length (Kdz G)≤1000000∧List.length (Lib.join (List.map (fun(x:ByteArray)=>Z13 x) (Kdz G)) [32])≤140737488355328)∧Sf true (Sf T (Sf (E,C,G) (Vq (Kdz G) Hr=Z44 G ws∧Kaq G ws)))))) (Jd1∧Br true (Kes T E C G ws) ((Yt∧0≤Kp [] B0)∧Br false (Kef T E C G ws) ((5≤1000000∧9≤140737488355328)∧Sf true (Sf T (Sf (E,C,G) (Vq (Jep Vr B0) Hr=Z44 G ws∧Kaq G ws)))))))))=_).mp ?_
 delta Z13 Z44 Z91 V2 Kmr Hr Kaq Jqk Jml L9 V1 Vr Yt Jd1 D7 D6 Jaf Kfl Fw Hq Hp Dc Hb J9j J9e Kes Kwn Kef Fv Yf Y0 Kdz Jdx Kdp Jsr Jso Br Iw Bd Tw Sf Ln Gt B0 Lb E2 Hu
 intro ha
 obtain⟨hh,hn,-,-,hmax,hsz⟩:=ha
 have hr:Jn (J2 G):=Y6 hh
 have hN:NmR (J2 G):=Jez hn
 have hG:G.length≤1000:=by have:=hh.nE;have:=hh.nC;have:=hh.nG;dsimp only at*;omega
 rw[J08]
 have hbn:({data:={toList:=[]}}:ByteArray)=Ja:=rfl
 have hl:((Hu::ws).length:Int)=(ws.length:Int)+1:=by simp
 have ha1:(Hu::ws).getD 1 Ja=ws.getD 0 Ja:=rfl
 have hz:((0:Int),(0:Int),([]:List Sta),([]:List Ord),([]:List Met),([]:List Out),([]:List Per))=U1:=rfl
 simp only[hbn,hz,hl,Prod.eta,Jgw,ha1]
 rcases Jey G with⟨hd,e0⟩|⟨hd,e0⟩
 ·rw[e0] at hr hN⊢
  have hp:=of_decide_eq_true hd
  rw[hd]
  generalize G.getD ((G.length:Int)-1).toNat U1=r at hr hN⊢
  cases h2:(ws.length:Int)+1==2
  all_goals cases h3:(ws.getD 0 Ja).toList==Ja.toList
  all_goals cases h4:Vl r 1 (ws.getD 0 Ja)
  all_goals cases h5:(((Jep r (ws.getD 0 Ja)).length:Int)==0)
  all_goals simp only[h2,h3,h4,h5,bne,Jmk,Bool.not_true,Bool.not_false,cond_true,cond_false,BEq.rfl,Bool.true_beq,Bool.false_beq,reduceCtorEq,false_implies,forall_const,true_and,and_true,and_self]
  all_goals repeat' apply And.intro
  all_goals first|omega|(have:=eq_of_beq h2;omega)|exact hr|exact(K4 (Jir hr (by have:=h4;simpa[Vl,U1] using this))).1|exact(K4 (Jir hr (by have:=h4;simpa[Vl,U1] using this))).2|rfl|(have:=h4;simpa[Vl] using this)|skip
 ·rw[e0] at hr hN⊢
  rw[hd]
  cases h2:(ws.length:Int)+1==2
  all_goals cases h3:(ws.getD 0 Ja).toList==Ja.toList
  all_goals cases h4:Vl U1 1 (ws.getD 0 Ja)
  all_goals cases h5:(((Jep U1 (ws.getD 0 Ja)).length:Int)==0)
  all_goals simp only[h2,h3,h4,h5,bne,Jmk,Bool.not_true,Bool.not_false,cond_true,cond_false,BEq.rfl,Bool.true_beq,Bool.false_beq,reduceCtorEq,false_implies,forall_const,true_and,and_true,and_self]
  all_goals repeat' apply And.intro
  all_goals first|omega|(have:=eq_of_beq h2;omega)|exact hr|exact(K4 (Jir hr (by have:=h4;simpa[Vl,U1] using this))).1|exact(K4 (Jir hr (by have:=h4;simpa[Vl,U1] using this))).2|rfl|(have:=h4;simpa[Vl,U1] using this)|exact nomatch (show true=false from h5)|exact nomatch (show false=true from h5)
theorem Jrn:Jco Uc=(false,1,some 200):=by kernel_rfl
theorem Jn9 (r:Reg) (ws:List ByteArray):X7 r (Uc::ws)=Jgw false 1 Jc7 r (Uc::ws):=by
 have:(Uc::ws).getD 0 Ja=Uc:=rfl
 unfold X7
 rw[this,Jrn]
 rfl
def Z42 (a:Ls):=Ln (Uc::a)
def Z84 (a:List Reg) (b:Ls):=(X7 (J2 a) (Uc::b)).1
def Kak (a:List Reg) (b:Ls):=0=(X7 (J2 a) (Uc::b)).2
def Kag:=0≤1000000∧0≤140737488355328
def Kzs (a:Ls):=bif true then Z42 a !=1 else false
def Kfn (a:Ls):=Jc7 Vr (Z91 a)
def Kel (a:TypeId) (b c:List Ev) (d:List Reg) (e:Ls):=Sf true (Sf a (Sf (b,c,d) (B0=Z84 d e∧10=(X7 (J2 d) (Uc::e)).2)))
def Kv8 (a:TypeId) (b c:List Ev) (d:List Reg) (e:Ls):=Sf true (Sf a (Sf (b,c,d) (B0=Z84 d e∧25=(X7 (J2 d) (Uc::e)).2)))
def Ked (a:TypeId) (b c:List Ev) (d:List Reg) (e:Ls):=Sf true (Sf a (Sf (b,c,d) (Jml=Z84 d e∧Kak d e)))
def Kdx (a:List Reg):=Jc7 (Yf a) B0
def Kds (a:List Reg) (b:Ls):=Jc7 (Yf a) (Z91 b)
theorem Jic (T:TypeId) (E C:List Ev) (G:List Reg) (ws:List ByteArray):wpFO Tryz.prog Jy4.g (na ()) (fun _=>na ()) (Sx.look ([(75,Tryz.f75)]:List (Nat×Func))) Tryz.f119 J01 T (E,C,G) (Uc::ws,()):=by
 refine(by kernel_rfl:(Jf4 (E,C,G) (Uc::ws)→Tw (Bd 0 (Z42 ws))∧Br false (Tw (Bd 1 (Z42 ws))∧Br (bif !false==bif Z42 ws==2 then Jqk ws else false then true else Kzs ws) (Kv8 T E C G ws) (Br (V2 G) (V1 G∧Jcd G∧Br false (Kel T E C G ws) (Y0 G∧Br (Ln (Kds G ws)==0) (Ked T E C G ws) ((List.length (Kds G ws)≤1000000∧List.length (Lib.join (List.map (fun(x:ByteArray)=>Z13 x) (Kds G ws)) [32])≤140737488355328)∧Sf true (Sf T (Sf (E,C,G) (Vq (Kds G ws) Hr=Z84 G ws∧Kak G ws)))))) (Jbg∧Br false (Kel T E C G ws) (Yt∧Br (Ln (Kfn ws)==0) (Ked T E C G ws) ((List.length (Kfn ws)≤1000000∧List.length (Lib.join (List.map (fun(x:ByteArray)=>Z13 x) (Kfn ws)) [32])≤140737488355328)∧Sf true (Sf T (Sf (E,C,G) (Vq (Kfn ws) Hr=Z84 G ws∧Kak G ws)))))))) (Br (bif !false==bif Z42 ws==2 then false else false then true else Kzs ws) (Kv8 T E C G ws) (Br (V2 G) (V1 G∧Jcd G∧Br false (Kel T E C G ws) (Y0 G∧Br (Ln (Kdx G)==0) (Ked T E C G ws) ((List.length (Kdx G)≤1000000∧List.length (Lib.join (List.map (fun(x:ByteArray)=>Z13 x) (Kdx G)) [32])≤140737488355328)∧Sf true (Sf T (Sf (E,C,G) (Vq (Kdx G) Hr=Z84 G ws∧Kak G ws)))))) (Jbg∧Br false (Kel T E C G ws) (Yt∧Br true (Ked T E C G ws) (Kag∧Sf true (Sf T (Sf (E,C,G) (Vq (Jc7 Vr B0) Hr=Z84 G ws∧Kak G ws)))))))))=_).mp ?_
 delta Z13 Z42 Z84 Z91 V2 Hr Kak Kag Jqk Jml L9 V1 Vr Yt Jbg Kzs D7 D6 Jaf Kfn Fw Hq Hp Dc Hb Kel Kv8 Ked Fv Yf Y0 Kdx Jcd Kds Br Iw Bd Tw Sf Ln Gt B0 Lb E2 Uc
 intro ha
 obtain⟨hh,hn,-,-,hmax,hsz⟩:=ha
 have hr:Jn (J2 G):=Y6 hh
 have hN:NmR (J2 G):=Jez hn
 have hG:G.length≤1000:=by have:=hh.nE;have:=hh.nC;have:=hh.nG;dsimp only at*;omega
 rw[Jn9]
 have hbn:({data:={toList:=[]}}:ByteArray)=Ja:=rfl
 have hl:((Uc::ws).length:Int)=(ws.length:Int)+1:=by simp
 have ha1:(Uc::ws).getD 1 Ja=ws.getD 0 Ja:=rfl
 have hz:((0:Int),(0:Int),([]:List Sta),([]:List Ord),([]:List Met),([]:List Out),([]:List Per))=U1:=rfl
 simp only[hbn,hz,hl,Prod.eta,Jgw,ha1]
 rcases Jey G with⟨hd,e0⟩|⟨hd,e0⟩
 ·rw[e0] at hr hN⊢
  have hp:=of_decide_eq_true hd
  rw[hd]
  generalize G.getD ((G.length:Int)-1).toNat U1=r at hr hN⊢
  cases h2:(ws.length:Int)+1==1
  all_goals cases h6:(ws.length:Int)+1==2
  all_goals cases h3:(ws.getD 0 Ja).toList==Ja.toList
  all_goals cases h5:(((Jc7 r Ja).length:Int)==0)
  all_goals simp only[h2,h3,h5,h6,bne,Jmk,Bool.not_true,Bool.not_false,cond_true,cond_false,BEq.rfl,Bool.true_beq,Bool.false_beq,reduceCtorEq,false_implies,forall_const,true_and,and_true,and_self]
  all_goals repeat' apply And.intro
  all_goals first|omega|(have:=eq_of_beq h2;omega)|exact hr|exact(K4 (Jiq hr hN _)).1|exact(K4 (Jiq hr hN _)).2|rfl|(have:=h4;simpa[Vl] using this)|skip
 ·rw[e0] at hr hN⊢
  rw[hd]
  cases h2:(ws.length:Int)+1==1
  all_goals cases h6:(ws.length:Int)+1==2
  all_goals cases h3:(ws.getD 0 Ja).toList==Ja.toList
  all_goals cases h5:(((Jc7 U1 Ja).length:Int)==0)
  all_goals simp only[h2,h3,h5,h6,bne,Jmk,Bool.not_true,Bool.not_false,cond_true,cond_false,BEq.rfl,Bool.true_beq,Bool.false_beq,reduceCtorEq,false_implies,forall_const,true_and,and_true,and_self]
  all_goals repeat' apply And.intro
  all_goals first|omega|(have:=eq_of_beq h2;omega)|exact hr|exact(K4 (Jiq hr hN _)).1|exact(K4 (Jiq hr hN _)).2|rfl|(have:=h4;simpa[Vl,U1] using this)|exact nomatch (show true=false from h5)|exact nomatch (show false=true from h5)
theorem Jrm:Jco Uj=(false,2,some 201):=by kernel_rfl
theorem Jn8 (r:Reg) (ws:List ByteArray):X7 r (Uj::ws)=Jgw false 2 Jsx r (Uj::ws):=by
 have:(Uj::ws).getD 0 Ja=Uj:=rfl
 unfold X7
 rw[this,Jrm]
 rfl
def Z40 (a:Ls):=Ln (Uj::a)
def Z79 (a:List Reg) (b:Ls):=(X7 (J2 a) (Uj::b)).1
def Kal (a:List Reg) (b:Ls):=0=(X7 (J2 a) (Uj::b)).2
def Kzt (a:Ls):=bif true then Z40 a !=1 else false
def Kfq (a:Ls):=Jsx Vr (Z91 a)
def Kwc (a:TypeId) (b c:List Ev) (d:List Reg) (e:Ls):=Sf true (Sf a (Sf (b,c,d) (B0=Z79 d e∧25=(X7 (J2 d) (Uj::e)).2)))
def Kej (a:TypeId) (b c:List Ev) (d:List Reg) (e:Ls):=Sf true (Sf a (Sf (b,c,d) (B0=Z79 d e∧10=(X7 (J2 d) (Uj::e)).2)))
def Kec (a:TypeId) (b c:List Ev) (d:List Reg) (e:Ls):=Sf true (Sf a (Sf (b,c,d) (Jml=Z79 d e∧Kal d e)))
def Kd1 (a:List Reg):=Jsx (Yf a) B0
def Kdv (a:List Reg) (b:Ls):=Jsx (Yf a) (Z91 b)
theorem Jib (T:TypeId) (E C:List Ev) (G:List Reg) (ws:List ByteArray):wpFO Tryz.prog Jy4.g (na ()) (fun _=>na ()) (Sx.look ([(75,Tryz.f75)]:List (Nat×Func))) Tryz.f119 J01 T (E,C,G) (Uj::ws,()):=by
 refine(by kernel_rfl:(Jf4 (E,C,G) (Uj::ws)→Tw (Bd 0 (Z40 ws))∧Br false (Tw (Bd 1 (Z40 ws))∧Br (bif !false==bif Z40 ws==2 then Jqk ws else false then true else Kzt ws) (Kwc T E C G ws) (Br (V2 G) (V1 G∧Jcd G∧Br false (Kej T E C G ws) (Y0 G∧Br (Ln (Kdv G ws)==0) (Kec T E C G ws) ((List.length (Kdv G ws)≤1000000∧List.length (Lib.join (List.map (fun(x:ByteArray)=>Z13 x) (Kdv G ws)) [32])≤140737488355328)∧Sf true (Sf T (Sf (E,C,G) (Vq (Kdv G ws) Hr=Z79 G ws∧Kal G ws)))))) (Jbg∧Br false (Kej T E C G ws) (Yt∧Br (Ln (Kfq ws)==0) (Kec T E C G ws) ((List.length (Kfq ws)≤1000000∧List.length (Lib.join (List.map (fun(x:ByteArray)=>Z13 x) (Kfq ws)) [32])≤140737488355328)∧Sf true (Sf T (Sf (E,C,G) (Vq (Kfq ws) Hr=Z79 G ws∧Kal G ws)))))))) (Br (bif !false==bif Z40 ws==2 then false else false then true else Kzt ws) (Kwc T E C G ws) (Br (V2 G) (V1 G∧Jcd G∧Br false (Kej T E C G ws) (Y0 G∧Br (Ln (Kd1 G)==0) (Kec T E C G ws) ((List.length (Kd1 G)≤1000000∧List.length (Lib.join (List.map (fun(x:ByteArray)=>Z13 x) (Kd1 G)) [32])≤140737488355328)∧Sf true (Sf T (Sf (E,C,G) (Vq (Kd1 G) Hr=Z79 G ws∧Kal G ws)))))) (Jbg∧Br false (Kej T E C G ws) (Yt∧Br true (Kec T E C G ws) (Kag∧Sf true (Sf T (Sf (E,C,G) (Vq (Jsx Vr B0) Hr=Z79 G ws∧Kal G ws)))))))))=_).mp ?_
 delta Z13 Z40 Z79 Z91 V2 Hr Kal Kag Jqk Jml L9 V1 Vr Yt Jbg Kzt D7 D6 Jaf Kfq Fw Hq Hp Dc Hb Kwc Kej Kec Fv Yf Y0 Kd1 Jcd Kdv Br Iw Bd Tw Sf Ln Gt B0 Lb E2 Uj
 intro ha
 obtain⟨hh,hn,-,-,hmax,hsz⟩:=ha
 have hr:Jn (J2 G):=Y6 hh
 have hN:NmR (J2 G):=Jez hn
 have hG:G.length≤1000:=by have:=hh.nE;have:=hh.nC;have:=hh.nG;dsimp only at*;omega
 rw[Jn8]
 have hbn:({data:={toList:=[]}}:ByteArray)=Ja:=rfl
 have hl:((Uj::ws).length:Int)=(ws.length:Int)+1:=by simp
 have ha1:(Uj::ws).getD 1 Ja=ws.getD 0 Ja:=rfl
 have hz:((0:Int),(0:Int),([]:List Sta),([]:List Ord),([]:List Met),([]:List Out),([]:List Per))=U1:=rfl
 simp only[hbn,hz,hl,Prod.eta,Jgw,ha1]
 rcases Jey G with⟨hd,e0⟩|⟨hd,e0⟩
 ·rw[e0] at hr hN⊢
  have hp:=of_decide_eq_true hd
  rw[hd]
  generalize G.getD ((G.length:Int)-1).toNat U1=r at hr hN⊢
  cases h2:(ws.length:Int)+1==1
  all_goals cases h6:(ws.length:Int)+1==2
  all_goals cases h3:(ws.getD 0 Ja).toList==Ja.toList
  all_goals cases h5:(((Jsx r Ja).length:Int)==0)
  all_goals simp only[h2,h3,h5,h6,bne,Jmk,Bool.not_true,Bool.not_false,cond_true,cond_false,BEq.rfl,Bool.true_beq,Bool.false_beq,reduceCtorEq,false_implies,forall_const,true_and,and_true,and_self]
  all_goals repeat' apply And.intro
  all_goals first|omega|(have:=eq_of_beq h2;omega)|exact hr|exact(K4 (Jow hr hN _)).1|exact(K4 (Jow hr hN _)).2|rfl|(have:=h4;simpa[Vl] using this)|skip
 ·rw[e0] at hr hN⊢
  rw[hd]
  cases h2:(ws.length:Int)+1==1
  all_goals cases h6:(ws.length:Int)+1==2
  all_goals cases h3:(ws.getD 0 Ja).toList==Ja.toList
  all_goals cases h5:(((Jsx U1 Ja).length:Int)==0)
  all_goals simp only[h2,h3,h5,h6,bne,Jmk,Bool.not_true,Bool.not_false,cond_true,cond_false,BEq.rfl,Bool.true_beq,Bool.false_beq,reduceCtorEq,false_implies,forall_const,true_and,and_true,and_self]
  all_goals repeat' apply And.intro
  all_goals first|omega|(have:=eq_of_beq h2;omega)|exact hr|exact(K4 (Jow hr hN _)).1|exact(K4 (Jow hr hN _)).2|rfl|(have:=h4;simpa[Vl,U1] using this)|exact nomatch (show true=false from h5)|exact nomatch (show false=true from h5)
theorem Jrl:Jco Ui=(false,3,some 205):=by kernel_rfl
theorem Jn7 (r:Reg) (ws:List ByteArray):X7 r (Ui::ws)=Jgw false 3 Jsw r (Ui::ws):=by
 have:(Ui::ws).getD 0 Ja=Ui:=rfl
 unfold X7
 rw[this,Jrl]
 rfl
def Z35 (a:Ls):=Ln (Ui::a)
def Z83 (a:List Reg) (b:Ls):=(X7 (J2 a) (Ui::b)).1
def Kao (a:List Reg) (b:Ls):=0=(X7 (J2 a) (Ui::b)).2
def Kzv (a:Ls):=bif true then Z35 a !=1 else false
def Kfr (a:Ls):=Jsw Vr (Z91 a)
def Kwd (a:TypeId) (b c:List Ev) (d:List Reg) (e:Ls):=Sf true (Sf a (Sf (b,c,d) (B0=Z83 d e∧25=(X7 (J2 d) (Ui::e)).2)))
def Keo (a:TypeId) (b c:List Ev) (d:List Reg) (e:Ls):=Sf true (Sf a (Sf (b,c,d) (B0=Z83 d e∧10=(X7 (J2 d) (Ui::e)).2)))
def Kea (a:TypeId) (b c:List Ev) (d:List Reg) (e:Ls):=Sf true (Sf a (Sf (b,c,d) (Jml=Z83 d e∧Kao d e)))
def Kd0 (a:List Reg):=Jsw (Yf a) B0
def Kdu (a:List Reg) (b:Ls):=Jsw (Yf a) (Z91 b)
theorem Jia (T:TypeId) (E C:List Ev) (G:List Reg) (ws:List ByteArray):wpFO Tryz.prog Jy4.g (na ()) (fun _=>na ()) (Sx.look ([(75,Tryz.f75)]:List (Nat×Func))) Tryz.f119 J01 T (E,C,G) (Ui::ws,()):=by
 refine(by kernel_rfl:(Jf4 (E,C,G) (Ui::ws)→Tw (Bd 0 (Z35 ws))∧Br false (Tw (Bd 1 (Z35 ws))∧Br (bif !false==bif Z35 ws==2 then Jqk ws else false then true else Kzv ws) (Kwd T E C G ws) (Br (V2 G) (V1 G∧Jcd G∧Br false (Keo T E C G ws) (Y0 G∧Br (Ln (Kdu G ws)==0) (Kea T E C G ws) ((List.length (Kdu G ws)≤1000000∧List.length (Lib.join (List.map (fun(x:ByteArray)=>Z13 x) (Kdu G ws)) [32])≤140737488355328)∧Sf true (Sf T (Sf (E,C,G) (Vq (Kdu G ws) Hr=Z83 G ws∧Kao G ws)))))) (Jbg∧Br false (Keo T E C G ws) (Yt∧Br (Ln (Kfr ws)==0) (Kea T E C G ws) ((List.length (Kfr ws)≤1000000∧List.length (Lib.join (List.map (fun(x:ByteArray)=>Z13 x) (Kfr ws)) [32])≤140737488355328)∧Sf true (Sf T (Sf (E,C,G) (Vq (Kfr ws) Hr=Z83 G ws∧Kao G ws)))))))) (Br (bif !false==bif Z35 ws==2 then false else false then true else Kzv ws) (Kwd T E C G ws) (Br (V2 G) (V1 G∧Jcd G∧Br false (Keo T E C G ws) (Y0 G∧Br (Ln (Kd0 G)==0) (Kea T E C G ws) ((List.length (Kd0 G)≤1000000∧List.length (Lib.join (List.map (fun(x:ByteArray)=>Z13 x) (Kd0 G)) [32])≤140737488355328)∧Sf true (Sf T (Sf (E,C,G) (Vq (Kd0 G) Hr=Z83 G ws∧Kao G ws)))))) (Jbg∧Br false (Keo T E C G ws) (Yt∧Br true (Kea T E C G ws) (Kag∧Sf true (Sf T (Sf (E,C,G) (Vq (Jsw Vr B0) Hr=Z83 G ws∧Kao G ws)))))))))=_).mp ?_
 delta Z13 Z35 Z83 Z91 V2 Hr Kao Kag Jqk Jml L9 V1 Vr Yt Jbg Kzv D7 D6 Jaf Kfr Fw Hq Hp Dc Hb Kwd Keo Kea Fv Yf Y0 Kd0 Jcd Kdu Br Iw Bd Tw Sf Ln Gt B0 Lb E2 Ui
 intro ha
 obtain⟨hh,hn,-,-,hmax,hsz⟩:=ha
 have hr:Jn (J2 G):=Y6 hh
 have hN:NmR (J2 G):=Jez hn
 have hG:G.length≤1000:=by have:=hh.nE;have:=hh.nC;have:=hh.nG;dsimp only at*;omega
 rw[Jn7]
 have hbn:({data:={toList:=[]}}:ByteArray)=Ja:=rfl
 have hl:((Ui::ws).length:Int)=(ws.length:Int)+1:=by simp
 have ha1:(Ui::ws).getD 1 Ja=ws.getD 0 Ja:=rfl
 have hz:((0:Int),(0:Int),([]:List Sta),([]:List Ord),([]:List Met),([]:List Out),([]:List Per))=U1:=rfl
 simp only[hbn,hz,hl,Prod.eta,Jgw,ha1]
 rcases Jey G with⟨hd,e0⟩|⟨hd,e0⟩
 ·rw[e0] at hr hN⊢
  have hp:=of_decide_eq_true hd
  rw[hd]
  generalize G.getD ((G.length:Int)-1).toNat U1=r at hr hN⊢
  cases h2:(ws.length:Int)+1==1
  all_goals cases h6:(ws.length:Int)+1==2
  all_goals cases h3:(ws.getD 0 Ja).toList==Ja.toList
  all_goals cases h5:(((Jsw r Ja).length:Int)==0)
  all_goals simp only[h2,h3,h5,h6,bne,Jmk,Bool.not_true,Bool.not_false,cond_true,cond_false,BEq.rfl,Bool.true_beq,Bool.false_beq,reduceCtorEq,false_implies,forall_const,true_and,and_true,and_self]
  all_goals repeat' apply And.intro
  all_goals first|omega|(have:=eq_of_beq h2;omega)|exact hr|exact(K4 (Jov hr hN _)).1|exact(K4 (Jov hr hN _)).2|rfl|(have:=h4;simpa[Vl] using this)|skip
 ·rw[e0] at hr hN⊢
  rw[hd]
  cases h2:(ws.length:Int)+1==1
  all_goals cases h6:(ws.length:Int)+1==2
  all_goals cases h3:(ws.getD 0 Ja).toList==Ja.toList
  all_goals cases h5:(((Jsw U1 Ja).length:Int)==0)
  all_goals simp only[h2,h3,h5,h6,bne,Jmk,Bool.not_true,Bool.not_false,cond_true,cond_false,BEq.rfl,Bool.true_beq,Bool.false_beq,reduceCtorEq,false_implies,forall_const,true_and,and_true,and_self]
  all_goals repeat' apply And.intro
  all_goals first|omega|(have:=eq_of_beq h2;omega)|exact hr|exact(K4 (Jov hr hN _)).1|exact(K4 (Jov hr hN _)).2|rfl|(have:=h4;simpa[Vl,U1] using this)|exact nomatch (show true=false from h5)|exact nomatch (show false=true from h5)
theorem Jrk:Jco Uh=(false,0,some 209):=by kernel_rfl
theorem Jn6 (r:Reg) (ws:List ByteArray):X7 r (Uh::ws)=Jgw false 0 Jen r (Uh::ws):=by
 have:(Uh::ws).getD 0 Ja=Uh:=rfl
 unfold X7
 rw[this,Jrk]
 rfl
def Z41 (a:Ls):=Ln (Uh::a)
def Z82 (a:List Reg) (b:Ls):=(X7 (J2 a) (Uh::b)).1
def Kam (a:List Reg) (b:Ls):=0=(X7 (J2 a) (Uh::b)).2
def Kzx (a:Ls):=bif true then Z41 a !=1 else false
def Kfm (a:Ls):=Jen Vr (Z91 a)
def Kwa (a:TypeId) (b c:List Ev) (d:List Reg) (e:Ls):=Sf true (Sf a (Sf (b,c,d) (B0=Z82 d e∧25=(X7 (J2 d) (Uh::e)).2)))
def Kem (a:TypeId) (b c:List Ev) (d:List Reg) (e:Ls):=Sf true (Sf a (Sf (b,c,d) (B0=Z82 d e∧10=(X7 (J2 d) (Uh::e)).2)))
def Keb (a:TypeId) (b c:List Ev) (d:List Reg) (e:Ls):=Sf true (Sf a (Sf (b,c,d) (Jml=Z82 d e∧Kam d e)))
def Kdw (a:List Reg):=Jen (Yf a) B0
def Kdr (a:List Reg) (b:Ls):=Jen (Yf a) (Z91 b)
theorem Jh9 (T:TypeId) (E C:List Ev) (G:List Reg) (ws:List ByteArray):wpFO Tryz.prog Jy4.g (na ()) (fun _=>na ()) (Sx.look ([(75,Tryz.f75)]:List (Nat×Func))) Tryz.f119 J01 T (E,C,G) (Uh::ws,()):=by
 refine(by kernel_rfl:(Jf4 (E,C,G) (Uh::ws)→Tw (Bd 0 (Z41 ws))∧Br false (Tw (Bd 1 (Z41 ws))∧Br (bif !false==bif Z41 ws==2 then Jqk ws else false then true else Kzx ws) (Kwa T E C G ws) (Br (V2 G) (V1 G∧Jcd G∧Br false (Kem T E C G ws) (Y0 G∧Br (Ln (Kdr G ws)==0) (Keb T E C G ws) ((List.length (Kdr G ws)≤1000000∧List.length (Lib.join (List.map (fun(x:ByteArray)=>Z13 x) (Kdr G ws)) [32])≤140737488355328)∧Sf true (Sf T (Sf (E,C,G) (Vq (Kdr G ws) Hr=Z82 G ws∧Kam G ws)))))) (Jbg∧Br false (Kem T E C G ws) (Yt∧Br (Ln (Kfm ws)==0) (Keb T E C G ws) ((List.length (Kfm ws)≤1000000∧List.length (Lib.join (List.map (fun(x:ByteArray)=>Z13 x) (Kfm ws)) [32])≤140737488355328)∧Sf true (Sf T (Sf (E,C,G) (Vq (Kfm ws) Hr=Z82 G ws∧Kam G ws)))))))) (Br (bif !false==bif Z41 ws==2 then false else false then true else Kzx ws) (Kwa T E C G ws) (Br (V2 G) (V1 G∧Jcd G∧Br false (Kem T E C G ws) (Y0 G∧Br (Ln (Kdw G)==0) (Keb T E C G ws) ((List.length (Kdw G)≤1000000∧List.length (Lib.join (List.map (fun(x:ByteArray)=>Z13 x) (Kdw G)) [32])≤140737488355328)∧Sf true (Sf T (Sf (E,C,G) (Vq (Kdw G) Hr=Z82 G ws∧Kam G ws)))))) (Jbg∧Br false (Kem T E C G ws) (Yt∧Br false (Keb T E C G ws) (Kah∧Sf true (Sf T (Sf (E,C,G) (Vq (Jen Vr B0) Hr=Z82 G ws∧Kam G ws)))))))))=_).mp ?_
 delta Z13 Z41 Z82 Z91 V2 Hr Kam Kah Jqk Jml L9 V1 Vr Yt Jbg Kzx D7 D6 Jaf Kfm Fw Hq Hp Dc Hb Kwa Kem Keb Fv Yf Y0 Kdw Jcd Kdr Br Iw Bd Tw Sf Ln Gt B0 Lb E2 Uh
 intro ha
 obtain⟨hh,hn,-,-,hmax,hsz⟩:=ha
 have hr:Jn (J2 G):=Y6 hh
 have hN:NmR (J2 G):=Jez hn
 have hG:G.length≤1000:=by have:=hh.nE;have:=hh.nC;have:=hh.nG;dsimp only at*;omega
 rw[Jn6]
 have hbn:({data:={toList:=[]}}:ByteArray)=Ja:=rfl
 have hl:((Uh::ws).length:Int)=(ws.length:Int)+1:=by simp
 have ha1:(Uh::ws).getD 1 Ja=ws.getD 0 Ja:=rfl
 have hz:((0:Int),(0:Int),([]:List Sta),([]:List Ord),([]:List Met),([]:List Out),([]:List Per))=U1:=rfl
 simp only[hbn,hz,hl,Prod.eta,Jgw,ha1]
 rcases Jey G with⟨hd,e0⟩|⟨hd,e0⟩
 ·rw[e0] at hr hN⊢
  have hp:=of_decide_eq_true hd
  rw[hd]
  generalize G.getD ((G.length:Int)-1).toNat U1=r at hr hN⊢
  cases h2:(ws.length:Int)+1==1
  all_goals cases h6:(ws.length:Int)+1==2
  all_goals cases h3:(ws.getD 0 Ja).toList==Ja.toList
  all_goals cases h5:(((Jen r Ja).length:Int)==0)
  all_goals simp only[h2,h3,h5,h6,bne,Jmk,Bool.not_true,Bool.not_false,cond_true,cond_false,BEq.rfl,Bool.true_beq,Bool.false_beq,reduceCtorEq,false_implies,forall_const,true_and,and_true,and_self]
  all_goals repeat' apply And.intro
  all_goals first|omega|(have:=eq_of_beq h2;omega)|exact hr|exact(K4 (Jio hr _)).1|exact(K4 (Jio hr _)).2|rfl|(have:=h4;simpa[Vl] using this)|skip
 ·rw[e0] at hr hN⊢
  rw[hd]
  cases h2:(ws.length:Int)+1==1
  all_goals cases h6:(ws.length:Int)+1==2
  all_goals cases h3:(ws.getD 0 Ja).toList==Ja.toList
  all_goals cases h5:(((Jen U1 Ja).length:Int)==0)
  all_goals simp only[h2,h3,h5,h6,bne,Jmk,Bool.not_true,Bool.not_false,cond_true,cond_false,BEq.rfl,Bool.true_beq,Bool.false_beq,reduceCtorEq,false_implies,forall_const,true_and,and_true,and_self]
  all_goals repeat' apply And.intro
  all_goals first|omega|(have:=eq_of_beq h2;omega)|exact hr|exact(K4 (Jio hr _)).1|exact(K4 (Jio hr _)).2|rfl|(have:=h4;simpa[Vl,U1] using this)|exact nomatch (show true=false from h5)|exact nomatch (show false=true from h5)
theorem Jnf {k:ByteArray} (h:Jhd k=true):k=Uk∨k=Ht∨k=Hu∨k=Uc∨k=Uj∨k=Ui∨k=Uh:=by
 obtain⟨x,hx,hk⟩:=Je1 h
 have hk:=Ju7 hk
 unfold Jem Tryz.questU at hx
 subst hk
 simp only[List.mem_cons,List.not_mem_nil,or_false] at hx
 rcases hx with rfl|rfl|rfl|rfl|rfl|rfl|rfl
 all_goals simp
theorem Kni (T:TypeId):∀(x:Kb) (y:ATup [.val false (.list 9 .str)]),wpFO Tryz.prog Jy4.g (na ()) (fun _=>na ()) (Sx.look ([(75,Tryz.f75)]:List (Nat×Func))) Tryz.f119 J01 T x y
 | (E, C, G), (l, ()) => by
  refine Jh2 (by kernel_rfl) fun hp=> ?_
  have hl:1≤l.length:=Jf4.len hp
  have hk:Jhd (l.getD 0 Ja)=true:=Jf4.key hp
  obtain⟨w,ws,rfl⟩:∃w ws,l=w::ws:=by
   cases l with
   |nil=>exact absurd hl (by decide)
   |cons w ws=>exact⟨w,ws,rfl⟩
  have hk:Jhd w=true:=hk
  rcases Jnf hk with rfl|rfl|rfl|rfl|rfl|rfl|rfl
  ·exact Jid T E C G ws
  ·exact Jq7 T E C G ws
  ·exact Jq8 T E C G ws
  ·exact Jic T E C G ws
  ·exact Jib T E C G ws
  ·exact Jia T E C G ws
  ·exact Jh9 T E C G ws
theorem Kqs:Ok Tryz.prog 119 (Xv.con J01):=X0 (Ue mixed Jy4.ok (by kernel_rfl) (by kernel_rfl) (Uy (l:=([(75,Tryz.f75)]:List (Nat×Func))) (List.forall_mem_cons.2 ⟨by kernel_rfl,by simp⟩)) (fun _ _=>na ()) (fun _ _=>fun _=>na ()) fun T xx yy _=>Kni T xx yy)
abbrev K7k:=Jy4.add Kqs
abbrev K1x:=K7k.add J40
def doW (line:ByteArray):List ByteArray:=Xx line ⟨⟨[32]⟩⟩
def do1 (line:ByteArray):Int:=Jh [bif decide (4096<(line.size:Int)) then 26 else 0,bif line.toList==Ja.toList then 25 else 0]
def do2 (h:Kb) (ws:List ByteArray):Int:=Jh [bif !(Y2 ws).2 then 25 else 0,bif decide (1000≤(h.1.length:Int)) then 5 else 0]
def evD (h:Kb) (ws:List ByteArray):Ev:=((h.1.length:Int)+1,(Y2 ws).1.2)
def Kbl (n:Int):ByteArray:=bs ([100,111,110,101,32]++(Vk n).data.toList)
def doF (h:Kb) (line:ByteArray):Kb×ByteArray×Int:=
 if do1 line≠0 then(h,Ja,do1 line) else
 if Jhd ((doW line).getD 0 Ja)=true then(h,X7 (J2 h.2.2) (doW line)) else
 if Ym ((doW line).getD 0 Ja)=false then(h,Ja,13) else
 if do2 h (doW line)≠0 then(h,Ja,do2 h (doW line)) else
 if Kv h (evD h (doW line))≠0 then(h,Ja,Kv h (evD h (doW line))) else
 (Ha h (evD h (doW line)),Kbl ((h.1.length:Int)+1),0)
def cDo:Xv:={T? :=some 212,s:=Jit,args:=[aS],ress:=[tS,I],pre:=fun h (l,_)=>[V9 h,Fa h,l.size≤1000000],spec:=fun h (l,_)=>((doF h l).2.1,(doF h l).2.2,()),post:=fun h (l,_)=>(doF h l).1}
theorem Kbm {l:ByteArray} (h:l.size≤1000000) (h4:l.size≤4096):1≤(doW l).length∧(doW l).length≤1000000∧∀w∈doW l,w.size≤1000000:=by
 have e:doW l=(Jj6 32 l.data.toList).map bs:=Jd5 l 32
 have h1:=Jim 32 l.data.toList
 have hl:l.data.toList.length=l.size:=rfl
 rw[e]
 refine⟨?_,by rw[List.length_map];omega,fun w hw=> ?_⟩
 ·rw[List.length_map]
  have:∀l:List UInt8,1≤(Jj6 32 l).length:=by
   intro l
   induction l with
   |nil=>decide
   |cons c r ih=>unfold Jj6;split<;>(try split)<;>simp only[List.length_cons,List.length_nil]<;>omega
  exact this _
 ·obtain⟨v,hv,rfl⟩:=List.mem_map.1 hw
  have:=Jao _ _ v hv
  rw[Xg];omega
def Jyt (a:Bt):=Xx a Hr
def K1s (a:Bt):=(Y2 (Jyt a)).1.2
def K1q (a:Bt):=(K1s a).2
def K1g (a:Bt):=List.getD (Jyt a) 0 B0
def K1b (a:Bt):=Tw (Bd 0 (Ln (Jyt a)))
def Kx0 (a:Bt):=Jh [bif decide (4096<Nc (ByteArray.size a)) then 26 else 0,bif Lb a B0 then 25 else 0]
def Kwb (a:Bt) (b:List Ev):=Jh ((bif !(Y2 (Jyt a)).2 then 25 else 0)::Klu b)
def Khw (a:List Ev) (b:Bt):=(Z1 a,(K1s b).1,(K1q b).1,E2 (K1q b).2)
def Ku2 (a b:List Ev) (c:List Reg) (d:Bt):=U9 (a,b,c) (Khw a d)
def Ku1 (a b:List Ev) (c:List Reg) (d:Bt):=Kv (a,b,c) (Khw a d)
def Ktm (a b:List Ev) (c:List Reg) (d:Bt):=((Ku2 a b c d).1,E2 (Ku2 a b c d).2)=(doF (a,b,c) d).1
theorem K4l (E C:List Ev) (G:List Reg) (line:ByteArray):wpFO Tryz.prog K1x.g (na ()) (fun _=>na ()) (Sx.look ([]:List (Nat×Func))) Tryz.f40 cDo 212 (E,C,G) (line,()):=by
 refine(by kernel_rfl:(V9 (E,C,G)→Fa (E,C,G)→ByteArray.size line≤1000000→Br false (Sf true (Sf 212 ((E,C,G)=(doF (E,C,G) line).1∧B0=(doF (E,C,G) line).2.1∧22=(doF (E,C,G) line).2.2))) (2≤1000000∧Br (Kx0 line !=0) (Sf true (Sf 212 ((E,C,G)=(doF (E,C,G) line).1∧B0=(doF (E,C,G) line).2.1∧Kx0 line=(doF (E,C,G) line).2.2))) ((ByteArray.size line≤1000000∧1≤1)∧K1b line∧Br (Option.isSome (Up Sch.str (K1g line) Jem)) (Jf4 (E,C,G) (Jyt line)∧Sf true (Sf 212 ((E,C,G)=(doF (E,C,G) line).1∧(X7 (J2 G) (Jyt line)).1=(doF (E,C,G) line).2.1∧(X7 (J2 G) (Jyt line)).2=(doF (E,C,G) line).2.2))) (K1b line∧Br (!Option.isSome (Up Sch.str (K1g line) Lx)) (Sf true (Sf 212 ((E,C,G)=(doF (E,C,G) line).1∧B0=(doF (E,C,G) line).2.1∧13=(doF (E,C,G) line).2.2))) ((List.length (Jyt line)≤1000000∧∀(w:ByteArray),w∈Jyt line→ByteArray.size w≤1000000)∧2≤1000000∧Br (Kwb line E !=0) (Sf true (Sf 212 ((E,C,G)=(doF (E,C,G) line).1∧B0=(doF (E,C,G) line).2.1∧Kwb line E=(doF (E,C,G) line).2.2))) (Z64 E∧(Kd (E,C,G)∧Z37 E∧Jb5 (Khw E line))∧Br (Ku1 E C G line !=0) (Sf true (Sf 212 (Ktm E C G line∧B0=(doF (E,C,G) line).2.1∧Ku1 E C G line=(doF (E,C,G) line).2.2))) ((Z64 E∧Nc (5+ByteArray.size (Vk (Z1 E)))≤9223372036854775807)∧Sf true (Sf 212 (Ktm E C G line∧ByteArray.mk (Array.mk (100::111::110::101::32::([]++(Vk (Z1 E)).data.toList)))=(doF (E,C,G) line).2.1∧0=(doF (E,C,G) line).2.2)))))))))=_).mp ?_
 delta Z1 Z37 Z64 Hr Jyt K1s K1q Klu K1g K1b Kx0 Kwb Khw Ku2 Ku1 Ktm Br Iw Bd Tw Sf Ln Nc B0 Lb E2
 intro hi hn hsz
 have hbn:({data:={toList:=[]}}:ByteArray)=Ja:=rfl
 have hW:Xx line {data:={toList:=[32]}}=doW line:=rfl
 have hd1:Jh [bif decide (4096<(line.size:Int)) then 26 else 0,bif line.toList==Ja.toList then 25 else 0]=do1 line:=rfl
 have hd2:Jh [bif !(Y2 (doW line)).2 then 25 else 0,bif decide (1000≤(E.length:Int)) then 5 else 0]=do2 (E,C,G) (doW line):=rfl
 have hq:(Up Sch.str ((doW line).getD 0 Ja) Jem).isSome=Jhd ((doW line).getD 0 Ja):=rfl
 have hk:(Up Sch.str ((doW line).getD 0 Ja) Lx).isSome=Ym ((doW line).getD 0 Ja):=rfl
 have he:((E.length:Int)+1,(Y2 (doW line)).1.2)=evD (E,C,G) (doW line):=rfl
 simp only[hbn,hW,Prod.eta,hd1,hd2,hq,hk,he]
 have nE:E.length≤1000:=hi.ok.nE
 refine⟨fun h=>(nomatch h),fun _=>⟨by decide,fun h1=> ?_,fun h1=> ?_⟩⟩
 ·have e:doF (E,C,G) line=((E,C,G),Ja,do1 line):=by unfold doF;rw[if_pos (bne_iff_ne.1 h1)]
  rw[e];exact⟨trivial,trivial,rfl,rfl,rfl⟩
 have e1:do1 line=0:=bne_eq_false_iff_eq.1 h1
 have h4:line.size≤4096:=by
  cases hc:decide (4096<(line.size:Int)) with
  |false=>have:=of_decide_eq_false hc;omega
  |true=>rw[do1,hc] at e1;exact nomatch (show(26:Int)=0 from e1)
 obtain⟨w1,w2,w3⟩:=Kbm hsz h4
 refine⟨⟨hsz,Nat.le_refl _⟩,by(repeat' first|apply And.intro|(first|omega|dsimp only;omega)),fun h2=> ?_,fun h2=>⟨by(repeat' first|apply And.intro|(first|omega|dsimp only;omega)),fun h3=> ?_,fun h3=> ?_⟩⟩
 ·have e:doF (E,C,G) line=((E,C,G),X7 (J2 G) (doW line)):=by unfold doF;rw[if_neg (by rw[e1];decide),if_pos h2]
  rw[e];exact⟨⟨hi.ok,hn,w1,h2,w2,w3⟩,trivial,trivial,rfl,rfl,rfl⟩
 ·have h3:Ym ((doW line).getD 0 Ja)=false:=by simpa using h3
  have e:doF (E,C,G) line=((E,C,G),Ja,13):=by unfold doF;rw[if_neg (by rw[e1];decide),if_neg (by rw[h2];decide),if_pos h3]
  rw[e];exact⟨trivial,trivial,rfl,rfl,rfl⟩
 have h3:Ym ((doW line).getD 0 Ja)=true:=by simpa using h3
 refine⟨⟨w2,w3⟩,by decide,fun h5=> ?_,fun h5=> ?_⟩
 ·have e:doF (E,C,G) line=((E,C,G),Ja,do2 (E,C,G) (doW line)):=by unfold doF;rw[if_neg (by rw[e1];decide),if_neg (by rw[h2];decide),if_neg (by rw[h3];decide),if_pos (bne_iff_ne.1 h5)]
  rw[e];exact⟨trivial,trivial,rfl,rfl,rfl⟩
 have e5:do2 (E,C,G) (doW line)=0:=bne_eq_false_iff_eq.1 h5
 have hE:E.length<1000:=by
  cases hc:decide (1000≤(E.length:Int)) with
  |false=>have:=of_decide_eq_false hc;omega
  |true=>
   rw[do2] at e5
   have hc:decide (1000≤(((E,C,G):Kb).1.length:Int))=true:=hc
   rw[hc] at e5
   cases hx:(Y2 (doW line)).2<;>rw[hx] at e5<;>exact nomatch e5
 have hz:=Jo7 w3
 have hsz2:Jb5 (evD (E,C,G) (doW line)):=⟨Nat.le_trans hz.1 (by decide),Nat.le_trans hz.2.1 (by decide),hz.2.2⟩
 refine⟨by(repeat' first|apply And.intro|(first|omega|dsimp only;omega)),⟨hi.ok,hE,hsz2⟩,fun h6=> ?_,fun h6=> ?_⟩
 ·have n6:=bne_iff_ne.1 h6
  have e:doF (E,C,G) line=((E,C,G),Ja,Kv (E,C,G) (evD (E,C,G) (doW line))):=by unfold doF;rw[if_neg (by rw[e1];decide),if_neg (by rw[h2];decide),if_neg (by rw[h3];decide),if_neg (by rw[e5];decide),if_pos n6]
  have ea:U9 (E,C,G) (evD (E,C,G) (doW line))=(E,C,G):=by unfold U9;rw[if_neg n6]
  rw[e,ea];exact⟨trivial,trivial,rfl,rfl,rfl⟩
 ·have e6:Kv (E,C,G) (evD (E,C,G) (doW line))=0:=bne_eq_false_iff_eq.1 h6
  have e:doF (E,C,G) line=(Ha (E,C,G) (evD (E,C,G) (doW line)),Kbl ((E.length:Int)+1),0):=by unfold doF;rw[if_neg (by rw[e1];decide),if_neg (by rw[h2];decide),if_neg (by rw[h3];decide),if_neg (by rw[e5];decide),if_neg (by rw[e6];decide)]
  have ea:U9 (E,C,G) (evD (E,C,G) (doW line))=Ha (E,C,G) (evD (E,C,G) (doW line)):=by unfold U9;rw[if_pos e6]
  have hi:=Jaw ((E.length:Int)+1) (by omega) (by omega)
  rw[e,ea];exact⟨⟨by(repeat' first|apply And.intro|(first|omega|dsimp only;omega)),by omega⟩,trivial,trivial,rfl,rfl,rfl⟩
theorem K5o:Ok Tryz.prog 40 (Xv.con cDo):=X0 (Ue mixed K1x.ok (by kernel_rfl) (by kernel_rfl) (Uy (l:=([]:List (Nat×Func))) (by simp)) (fun xx yy=>na ()) (fun xx yy=>fun _=>na ()) fun T xx yy hT=>by obtain rfl:=hT _ rfl;exact K4l xx.1 xx.2.1 xx.2.2 yy.1)
abbrev Kmt:=K1x.add K5o
theorem Kre {h:Kb} {l:ByteArray} (hi:V9 h) (hn:Fa h):V9 (doF h l).1∧Fa (doF h l).1:=by
 unfold doF
 split
 ·exact⟨hi,hn⟩
 split
 ·exact⟨hi,hn⟩
 split
 ·exact⟨hi,hn⟩
 split
 ·exact⟨hi,hn⟩
 split
 ·exact⟨hi,hn⟩
 rename_i h5 h6
 have e5:do2 h (doW l)=0:=Decidable.of_not_not h5
 have hE:h.1.length<1000:=by
  cases hc:decide (1000≤(h.1.length:Int)) with
  |false=>have:=of_decide_eq_false hc;omega
  |true=>
   rw[do2,hc] at e5
   cases hx:(Y2 (doW l)).2<;>rw[hx] at e5<;>exact nomatch e5
 exact⟨Ft hi hE (Decidable.of_not_not h6),Ksg hn (Decidable.of_not_not h6)⟩
abbrev Knn:Sch:= .prod .str (.prod .str sI)
abbrev Say:=ByteArray×ByteArray×Int
def J2r:Say:=(Ja,Ja,0)
def Knm (r:ByteArray×Int) (x:Say):Bool:=bif r.1.toList !=x.2.1.toList then true else r.2 !=x.2.2
def Jdw:Kb→List Say→Kb×Bool
 |h,[]=>(h,true)
 |h,x::l=>bif Knm (doF h x.1).2 x then((doF h x.1).1,false) else Jdw (doF h x.1).1 l
def J84:Xv:={T? :=some 212,s:=Jit,args:=[.val false (.list 147 Knn)],ress:=[Bo],pre:=fun h (l,_)=>[V9 h,Fa h,l.length≤1000000,∀x∈l,x.1.size≤1000000],spec:=fun h (l,_)=>((Jdw h l).2,()),post:=fun h (l,_)=>(Jdw h l).1}
abbrev Jxb (h0:Kb) (l:List Say):Ann:={X:=Kb×Nat,σ:=fun(h,k)=>⟨6,[(0, .one (.ptr 1 0)),(11, .one (.sl 5)),(12, .one (.int .i64 l.length)),(13, .one (.int .i64 k))],[(0, .sus [(0, .one (.ptr 1 0))]),(1, .box 212 [.sl 2, .sl 3, .sl 4]),(2, .own 67 sEv h.1),(3, .own 67 sEv h.2.1),(4, .own 105 Jj7 h.2.2),(5, .imm 147 Knn l)]⟩,inv:=fun(h,k)=>V9 h∧Fa h∧k≤l.length∧Jdw h (l.drop k)=Jdw h0 l,mu:=fun(_,k)=>l.length-k}
def Kgb (a:List Say) (b:Kb×Nat):=List.getD a b.2 (B0,B0,0)
def Kfj (a:Kb×Nat) (b:List Say):=doF (Jsj a) (Kgb b a).1
def Kyb (a:Kb×Nat) (b:List Say):=(Kfj a b).2
def Kju (a:Kb×Nat) (b:List Say):=(Kfj a b).1.2
theorem K12 (E C:List Ev) (G:List Reg) (l:List Say):wpFO Tryz.prog Kmt.g (X8 (Jxb (E,C,G) l)) (fun _=>na ()) (Sx.look ([]:List (Nat×Func))) Tryz.f66 J84 212 (E,C,G) (l,()):=by
 refine(by kernel_rfl:(V9 (E,C,G)→Fa (E,C,G)→List.length l≤1000000→(∀(x:ByteArray×ByteArray×Int),x∈l→ByteArray.size x.1≤1000000)→Br false (Sf true (Sf 212 ((E,C,G)=(Jdw (E,C,G) l).1∧false=(Jdw (E,C,G) l).2))) (∃(x:(List Ev×List Ev×List Reg)×Nat),Si (Ln l) (0=Nc x.2∧E=x.1.1∧C=x.1.2.1∧G=x.1.2.2∧l=l)∧(V9 x.1∧Fa x.1∧x.2≤List.length l∧Jdw x.1 (List.drop x.2 l)=Jdw (E,C,G) l)∧∀(x:Kb×Nat),V9 x.1∧Fa x.1∧x.2≤List.length l∧Jdw x.1 (List.drop x.2 l)=Jdw (E,C,G) l→Br (decide (Nc x.2<Ln l)) (Tw (Bd (Nc x.2) (Ln l))∧(V9 (Jsj x)∧Fa (Jsj x)∧ByteArray.size (Kgb l x).1≤1000000)∧Br (bif !Lb (Kyb x l).1 (Kgb l x).2.1 then true else(Kyb x l).2 !=(Kgb l x).2.2) (Sf true (Sf 212 (((Kfj x l).1.1,E2 (Kju x l))=(Jdw (E,C,G) l).1∧false=(Jdw (E,C,G) l).2))) (Z33 x∧∃(y:(List Ev×List Ev×List Reg)×Nat),Si (Ln l) (Jqu x y∧(Kfj x l).1.1=y.1.1∧(Kju x l).1=y.1.2.1∧(Kju x l).2=y.1.2.2∧l=l)∧(V9 y.1∧Fa y.1∧y.2≤List.length l∧Jdw y.1 (List.drop y.2 l)=Jdw (E,C,G) l)∧List.length l-y.2<List.length l-x.2)) (Sf true (Sf 212 (Jsj x=(Jdw (E,C,G) l).1∧true=(Jdw (E,C,G) l).2)))))=_).mp ?_
 delta Z33 Jqu Jsj Kgb Kfj Kyb Kju Br Iw Bd Tw Sf Si Ln Nc B0 Lb E2
 intro hi hn hl hsz
 refine⟨fun h=>(nomatch h),fun _=>⟨((E,C,G),(0:Nat)),by(repeat' first|exact rfl|exact⟨⟩|apply And.intro|omega|dsimp only;omega),⟨hi,hn,Nat.zero_le _,rfl⟩,fun(x:Kb×Nat) hx=>⟨fun hlt=> ?_,fun hlt=> ?_⟩⟩⟩
 ·obtain⟨h,k⟩:=x
  obtain⟨k1,k2,k3,k4⟩:=hx
  have hlt:k<l.length:=by simpa using hlt
  dsimp only at k1 k2 k3 k4
  have hz:(({data:={toList:=[]}}:ByteArray),({data:={toList:=[]}}:ByteArray),(0:Int))=J2r:=rfl
  simp only[hz,Prod.eta]
  rw[Jz (d:=J2r) hlt,Jdw] at k4
  have hd:=Kre (l:=(l.getD k J2r).1) k1 k2
  refine⟨by(repeat' first|apply And.intro|(first|omega|dsimp only;omega)),⟨k1,k2,hsz _ (Je hlt)⟩,fun h1=> ?_,fun h1=> ?_⟩
  ·have e:Knm (doF h (l.getD k J2r).1).2 (l.getD k J2r)=true:=h1
   rw[e,cond_true] at k4
   rw[←k4]
   exact⟨trivial,trivial,rfl,rfl⟩
  ·have e:Knm (doF h (l.getD k J2r).1).2 (l.getD k J2r)=false:=h1
   rw[e,cond_false] at k4
   exact⟨by(repeat' first|apply And.intro|(first|omega|dsimp only;omega)),((doF h (l.getD k J2r).1).1,k+1),by(repeat' first|exact rfl|exact⟨⟩|apply And.intro|omega|dsimp only;omega),⟨hd.1,hd.2,by(first|omega|dsimp only;omega),k4⟩,by(first|omega|dsimp only;omega)⟩
 ·obtain⟨h,k⟩:=x
  obtain⟨k1,k2,k3,k4⟩:=hx
  have hlt:¬k<l.length:=by simpa using hlt
  have e:k=l.length:=by dsimp only at k3;omega
  rw[e,List.drop_length,Jdw] at k4
  rw[←k4]
  exact⟨rfl,rfl,rfl,rfl⟩
theorem K5e:Ok Tryz.prog 66 (Xv.con J84):=X0 (Ue mixed Kmt.ok (by kernel_rfl) (by kernel_rfl) (Uy (l:=([]:List (Nat×Func))) (by simp)) (fun xx yy=>X8 (Jxb (xx.1,xx.2.1,xx.2.2) yy.1)) (fun xx yy=>fun _=>na ()) fun T xx yy hT=>by obtain rfl:=hT _ rfl;exact K12 xx.1 xx.2.1 xx.2.2 yy.1)
abbrev K3a:=Kmt.add K5e
def Kb7:Con:={args:=[.val false (.list 130 Lf), .fn [(true,Lf)] (true,Jiu)],ress:=[(false, .list 129 Jiu)],owns:=[true],pre:=fun(l,(q,_),_)=>[l.length≤1000000,∀x∈l,Ur (q (x,()))],spec:=fun(l,(_,f),_)=>(l.map fun x=>f (x,()),())}
def Klx:List (ByteArray×Int×Int×Int×Int×Int):=[]
def Kft (a:Ord×Unit→Jon) (b:Nat) (c:List Ord):=List.map (fun(x:Ord)=>a (x,PUnit.unit)) (List.take b c)
def Kvy (a:Ord×Unit→Jon) (b:Nat) (c:List Ord):=List.length (Kft a b c)
def Ktq (a:Ord×Unit→Jon) (b:List Ord) (c:Nat):=a (Kd3 b c)
def Ktp (a:Ord×Unit→Jon) (b:List Ord) (c:Nat):=(Ktq a b c).2
def Kto (a:Ord×Unit→Jon) (b:List Ord) (c:Nat):=(Ktp a b c).2
def Ktn (a:Ord×Unit→Jon) (b:List Ord) (c:Nat):=(Kto a b c).2
theorem Kqm:Ok Tryz.prog 125 Kb7:=okW K3a Tryz.f125 (fun xx=>X8 (Jbf 130 129 Lf xx.1 (true,Jiu) true xx.2.1.1 xx.2.1.2)) fun xx=>by
 obtain⟨(l:List Ord),⟨(q:Ord×Unit→List Prop),(f:Ord×Unit→Jon)⟩,_⟩:=xx
 refine(by kernel_rfl:(Z43 l→Kk9 l q→∃(x:Nat),Si (Ln l) (0=Nc x∧Sf l ((fun(x:Ord×PUnit)=>q x)=q∧(fun(x:Ord×PUnit)=>f x)=f∧Kvy f x l=0))∧x≤List.length l∧∀(x:Nat),x≤List.length l→Br (decide (Nc x<Ln l)) (Tw (Bd (Nc x) (Ln l))∧(Khh q l x∧(Kvy f x l+1)*56≤140737488355328)∧Z19 x∧∃(y:Nat),Si (Ln l) (Z95 x y∧Sf l ((fun(x:Ord×PUnit)=>q x)=q∧(fun(x:Ord×PUnit)=>f x)=f∧Kft f x l++((Ktq f l x).1,(Ktp f l x).1,(Kto f l x).1,(Ktn f l x).1,E2 (Ktn f l x).2)::Klx=Kft f y l))∧y≤List.length l∧List.length l-y<List.length l-x) (Kft f x l=List.map (fun(x:Ord)=>f (x,PUnit.unit)) l))=_).mp ?_
 delta Z19 Z43 Z73 Z95 Jde Klx Kf6 Kla Kk9 Kf4 Kk5 Kk4 Kk0 Kft Kvy Kd3 Ktq Ktp Kto Ktn Khh Br Iw Bd Tw Sf Si Ln Nc B0 E2
 intro hb hq
 refine⟨(0:Nat),⟨rfl,rfl,rfl,rfl,rfl,by simp⟩,Nat.zero_le _,fun(k:Nat) hk=>⟨fun h=> ?_,fun h=> ?_⟩⟩
 ·have hlt:k<l.length:=by simpa using h
  refine⟨by omega,⟨hq (l.getD k J6) (Je hlt),by simp only[List.length_map,List.length_take];omega⟩,by omega,(k+1:Nat),⟨rfl,by simp,rfl,rfl,rfl, ?_⟩,by omega,by omega⟩
  rw[←Us (d:=J6) hlt,List.map_append];rfl
 ·have hlt:¬k<l.length:=by simpa using h
  rw[List.take_of_length_le (by omega)]
abbrev K29:=K3a.add Kqm
def Xh (l:List Ev):List Jon:=(Ji l).2.2.2.1.map (Uf (Ji l).2.1 (Ji l).2.2.2.2.1)
def V4 (l:List Ev):List Jon×Int:=if opE l []=0 then(Xh l,0) else([],opE l [])
def J0y:Con:={args:=[.val false (.list 67 sEv)],ress:=[(false, .list 129 Jiu),I],owns:=[],pre:=fun(l,_)=>[lOk l],spec:=fun(l,_)=>((V4 l).1,(V4 l).2,())}
def Klf (a:List Ev):=Z10 a !=0
def Ke4 (a:List Ev):=List.map (fun(x:Ord)=>Uf (Ji a).2.1 (Ji a).2.2.2.2.1 x) (Ji a).2.2.2.1
def Khp (a:List Ev):=List.length (Ji a).2.2.2.1≤1000000∧∀(x:Ord),x∈(Ji a).2.2.2.1→Jxk a∧x∈(Ji a).2.2.2.1
theorem K5l:Ok Tryz.prog 43 J0y:=okW K29 Tryz.f43 na fun xx=>by
 obtain⟨(l:List Ev),_⟩:=xx
 refine(by kernel_rfl:(lOk l→J36 l∧Br (Klf l) (Klx=(V4 l).1∧Z10 l=(V4 l).2) (Khp l∧Ke4 l=(V4 l).1∧0=(V4 l).2))=_).mp ?_
 delta Z10 J36 Klx Klf J1n Jxk Ke4 Khp Br E2
 intro hl
 have hr:=Zj (l:=l)
 have nO:(Ji l).2.2.2.1.length≤32:=hr.nO
 simp only[Prod.eta]
 refine⟨⟨hl,by decide⟩,fun h=> ?_,fun h=>⟨⟨Nat.le_trans nO (by decide),fun x hx=>⟨hr,hx⟩⟩, ?_⟩⟩
 ·have h:=bne_iff_ne.1 h
  unfold V4;rw[if_neg h]
  exact⟨rfl,rfl⟩
 ·have h:opE l []=0:=bne_eq_false_iff_eq.1 h
  unfold V4;rw[if_pos h]
  exact⟨rfl,rfl⟩
abbrev K28:=K29.add K5l
def Jmb (l:List Ev) (a b:ByteArray):Int:=Jh [opE l [a,b],bif a.toList==b.toList then 24 else 0]
def Jxf (l:List Ev) (a b:ByteArray):Int:=if Jmb l a b=0 then Dp (Ji l).2.1 (Ji l).2.2.2.1 (Ji l).2.2.2.2.1 a b else 0
def J6c:Con:={args:=[.val false (.list 67 sEv),aS,aS],ress:=[I,I],owns:=[],pre:=fun(l,_)=>[lOk l],spec:=fun(l,a,b,_)=>(Jxf l a b,Jmb l a b,())}
def K0y (a:List Ev) (b c:Bt):=Jh [opE a [b,c],bif Lb b c then 24 else 0]
theorem K5k:Ok Tryz.prog 44 J6c:=okW K28 Tryz.f44 na fun xx=>by
 obtain⟨(l:List Ev),(a:ByteArray),(b:ByteArray),_⟩:=xx
 refine(by kernel_rfl:(lOk l→(lOk l∧2≤1000000)∧2≤1000000∧Br (K0y l a b !=0) (0=Jxf l a b∧K0y l a b=Jmb l a b) (Jxk l∧Dp (Ji l).2.1 (Ji l).2.2.2.1 (Ji l).2.2.2.2.1 a b=Jxf l a b∧0=Jmb l a b))=_).mp ?_
 delta K0y J1n Jxk Br Lb E2
 intro hl
 refine⟨⟨hl,by decide⟩,by decide,fun h=> ?_,fun h=> ?_⟩
 ·have h:Jmb l a b≠0:=bne_iff_ne.1 h
  exact⟨by unfold Jxf;rw[if_neg h],rfl⟩
 ·have h:Jmb l a b=0:=bne_eq_false_iff_eq.1 h
  exact⟨Zj,by unfold Jxf;rw[if_pos h],h.symm⟩
abbrev K7j:=K28.add K5k
abbrev K27:=K7j
def Jbt (l:List Ev):(Int×Int)×Int:=if opE l []=0 then Kbi (Ji l).2.1 (Ji l).2.2.2.1 (Ji l).2.2.2.2.1 else((0,0),opE l [])
def J5y:Con:={args:=[.val false (.list 67 sEv)],ress:=[(true,Hx),I],owns:=[],pre:=fun(l,_)=>[lOk l],spec:=fun(l,_)=>((Jbt l).1,(Jbt l).2,())}
abbrev Jw9 (l:List Ev) (B:List Jon):Ann:={X:=Nat×Int×Int,σ:=fun(k,s,g)=>⟨9,[(2, .one (.ptr 1 0)),(6, .one (.int .i64 s)),(7, .one (.int .i64 g)),(23, .one (.sl 8)),(24, .one (.int .i64 B.length)),(25, .one (.int .i64 k))],[(1, .box 54 [.int .i64 0, .int .i64 0]),(8, .own 129 Jiu B)]⟩,inv:=fun(k,s,g)=>k≤B.length∧(0≤s∧s≤48000*k)∧(0≤g∧g≤s)∧Jto (B.drop k) (s,g)=Jto B (0,0),mu:=fun(k,_)=>B.length-k}
def Kgg:=(B0,(0:Int),(0:Int),Z73)
def Kxg (a:List Ev) (b:Nat×Int×Int):=(List.getD (Xh a) b.1 Kgg).2.2
def Kw9 (a:Nat×Int×Int) (b:List Ev):=a.2.1+(Kxg b a).1
def Kw7 (a:Nat×Int×Int) (b:List Ev):=a.2.2+(Kxg b a).2.1
def Khz (a:Nat×Int×Int) (b:List Ev):=a.1≤List.length (Xh b)∧(0≤a.2.1∧a.2.1≤48000*Nc a.1)∧(0≤a.2.2∧a.2.2≤a.2.1)∧Jto (List.drop a.1 (Xh b)) (E2 a.2)=Jto (Xh b) (0,0)
theorem K5j:Ok Tryz.prog 46 J5y:=okW K27 Tryz.f46 (fun xx=>X8 (Jw9 xx.1 (Xh xx.1))) fun xx=>by
 obtain⟨(l:List Ev),_⟩:=xx
 refine(by kernel_rfl:(lOk l→J36 l∧Br (Klf l) ((0,0)=(Jbt l).1∧Z10 l=(Jbt l).2) (Khp l∧∃(x:Nat×Int×Int),(0=x.2.1∧0=x.2.2∧Ln (Ke4 l)=Ln (Xh l)∧0=Nc x.1∧Si 0 (Si 0 (Ke4 l=Xh l)))∧Khz x l∧∀(x:Nat×Int×Int),Khz x l→Br (decide (Nc x.1<Ln (Xh l))) (Tw (Bd (Nc x.1) (Ln (Xh l)))∧Iw (Kw9 x l)∧Iw (Kw7 x l)∧Iw (Nc x.1+1)∧∃(y:Nat×Int×Int),(Kw9 x l=y.2.1∧Kw7 x l=y.2.2∧Si (Ln (Xh l)) (Nc x.1+1=Nc y.1∧Si 0 (Si 0 (Xh l=Xh l))))∧Khz y l∧List.length (Xh l)-y.1<List.length (Xh l)-x.1) (Br (x.2.1==0) ((0,0)=(Jbt l).1∧6=(Jbt l).2) ((Iw (x.2.1-x.2.2)∧(0≤x.2.1-x.2.2∧x.2.1-x.2.2≤1000000000000)∧1≤x.2.1∧x.2.1≤1000000000000)∧E2 (J20 (x.2.1-x.2.2) x.2.1)=(Jbt l).1∧0=(Jbt l).2))))=_).mp ?_
 delta Z10 Z73 J36 Kgg Klf J1n Jxk Ke4 Kxg Kw9 Kw7 Khz Khp Br Iw Bd Tw Si Ln Nc B0 E2
 intro hl
 have hr:=Zj (l:=l)
 have nO:(Ji l).2.2.2.1.length≤32:=hr.nO
 simp only[Prod.eta]
 refine⟨⟨hl,by decide⟩,fun h=> ?_,fun h=>⟨⟨Nat.le_trans nO (by decide),fun x hx=>⟨hr,hx⟩⟩, ?_⟩⟩
 ·have h:=bne_iff_ne.1 h
  unfold Jbt;rw[if_neg h]
  exact⟨rfl,rfl⟩
 have h:opE l []=0:=bne_eq_false_iff_eq.1 h
 have hB:∀b∈Xh l,J39 b:=fun b hb=>by
  obtain⟨x,hx,rfl⟩:=List.mem_map.1 hb
  exact Jbb hr hx
 have nB:(Xh l).length≤32:=by unfold Xh;rw[List.length_map];exact nO
 refine⟨((0:Nat),0,0),by(repeat' first|exact rfl|exact⟨⟩|apply And.intro|omega|dsimp only;omega),⟨Nat.zero_le _,by(first|omega|dsimp only;omega),by(first|omega|dsimp only;omega),rfl⟩,fun(x:Nat×Int×Int) hk=>⟨fun h1=> ?_,fun h1=> ?_⟩⟩
 ·obtain⟨k,s,g⟩:=x
  have hlt:k<(Xh l).length:=by simpa using h1
  have hx:=Je (d:=Jwt) hlt
  have hb:=hB _ hx
  obtain⟨k1,k2,k3,k4⟩:=hk
  rw[Jz (d:=Jwt) hlt,Jto] at k4
  have m1:=hb.sent
  have m2:=hb.got
  have hzb:((({data:={toList:=[]}}:ByteArray),(0:Int),(0:Int),(0:Int),(0:Int),(0:Int)):Jon)=Jwt:=rfl
  dsimp only at k1 k2 k3 k4
  simp only[hzb]
  exact⟨by(repeat' first|apply And.intro|omega),by(repeat' first|apply And.intro|omega),by(repeat' first|apply And.intro|omega),by(repeat' first|apply And.intro|omega),(k+1,s+((Xh l).getD k Jwt).2.2.1,g+((Xh l).getD k Jwt).2.2.2.1),by(repeat' first|exact rfl|exact⟨⟩|apply And.intro|omega|dsimp only;omega),⟨by(first|omega|dsimp only;omega),by(first|omega|dsimp only;omega),by(first|omega|dsimp only;omega),k4⟩,by(first|omega|dsimp only;omega)⟩
 ·obtain⟨k,s,g⟩:=x
  have hlt:¬k<(Xh l).length:=by simpa using h1
  obtain⟨k1,k2,k3,k4⟩:=hk
  have:k=(Xh l).length:=by dsimp only at k1;omega
  rw[this,List.drop_length,Jto] at k4
  have e:Jbt l=if s=0 then((0,0),6) else(J20 (s-g) s,0):=by
   unfold Jbt Kbi
   rw[if_pos h]
   rw[show((Ji l).2.2.2.1.map (Uf (Ji l).2.1 (Ji l).2.2.2.2.1))=Xh l from rfl,←k4]
  dsimp only at k2 k3
  rw[e]
  refine⟨fun h2=> ?_,fun h2=> ?_⟩
  ·have h2:s=0:=by simpa using h2
   rw[if_pos h2]
   exact⟨rfl,rfl⟩
  ·have h2:s≠0:=by simpa using h2
   rw[if_neg h2]
   refine⟨⟨?_, ?_, ?_⟩,rfl,rfl⟩
   all_goals dsimp only
   all_goals (repeat' first|apply And.intro|omega)
abbrev K26:=K27.add K5j
def K6e:Con:={args:=[.ref 167 Jit],ress:=[(true,Jj7)],owns:=[],pre:=fun(h,_)=>[Kd h],spec:=fun(h,_)=>(J2 h.2.2,())}
theorem K46:Ok Tryz.prog 75 K6e:=okW K26 Tryz.f75 na fun xx=>by
 obtain⟨⟨(E:List Ev),(C:List Ev),(G:List Reg)⟩,_⟩:=xx
 refine(by kernel_rfl:(Kd (E,C,G)→Br (V2 G) (V1 G∧Yf G=J2 G) (Vr=J2 G))=_).mp ?_
 delta V2 L9 V1 Vr D7 D6 Jaf Fw Hq Hp Dc Hb Fv Yf Br Iw Bd Tw Ln Gt E2
 intro hh
 have n1:E.length≤1000:=hh.nE
 have n2:C.length≤E.length:=hh.nC
 have n3:G.length=C.length:=hh.nG
 have hG:((G.length:Int)-1).toNat=G.length-1:=by omega
 refine⟨fun h=> ?_,fun h=> ?_⟩
 ·have h:(0:Int)<G.length:=of_decide_eq_true h
  rw[hG]
  exact⟨by(repeat' first|apply And.intro|omega),rfl⟩
 ·exact(Kn h).symm
abbrev K25:=K26.add K46
def Kcd:Con:={args:=[.val false (.list 67 sEv), .fn [(true,sEv)] Bo],ress:=[(false, .list 67 sEv)],owns:=[true],pre:=fun(l,(q,_),_)=>[l.length≤1000000,∀x∈l,Ur (q (x,()))],spec:=fun(l,(_,f),_)=>(l.filter fun x=>f (x,()),())}
def J30 (a:Ev×Unit→Bool) (b:Nat) (c:List Ev):=List.filter (fun(x:Ev)=>a (x,PUnit.unit)) (List.take b c)
theorem K43:Ok Tryz.prog 78 Kcd:=okW K25 Tryz.f78 (fun xx=>X8 (Joc 67 67 sEv xx.1 true xx.2.1.1 xx.2.1.2)) fun xx=>by
 obtain⟨(l:List Ev),⟨(q:Ev×Unit→List Prop),(f:Ev×Unit→Bool)⟩,_⟩:=xx
 refine(by kernel_rfl:(Z38 l→J9u l q→∃(x:Nat),Si (Ln l) (0=Nc x∧Sf l ((fun(x:Ev×PUnit)=>q x)=q∧(fun(x:Ev×PUnit)=>f x)=f∧List.length (J30 f x l)=0))∧x≤List.length l∧∀(x:Nat),x≤List.length l→Br (Z78 x l) (Tw (Z8 x l)∧J88 q l x∧Br (f (J60 l x)) ((List.length (J30 f x l)+1)*88≤140737488355328∧Z19 x∧∃(y:Nat),Si (Ln l) (Z95 x y∧Sf l ((fun(x:Ev×PUnit)=>q x)=q∧(fun(x:Ev×PUnit)=>f x)=f∧J30 f x l++[Kd8 l x]=J30 f y l))∧Jyp y l x) (Z19 x∧∃(y:Nat),Si (Ln l) (Z95 x y∧Sf l ((fun(x:Ev×PUnit)=>q x)=q∧(fun(x:Ev×PUnit)=>f x)=f∧J30 f x l=J30 f y l))∧Jyp y l x)) (J30 f x l=List.filter (fun(x:Ev)=>f (x,PUnit.unit)) l))=_).mp ?_
 delta Z8 Z19 Z38 Z78 Z95 J1u J30 D9 J3s J3q J3p J1o Jyp J9u Kd8 J60 J88 Br Iw Bd Tw Sf Si Ln Nc B0 E2
 intro hb hq
 refine⟨(0:Nat),⟨rfl,rfl,rfl,rfl,rfl,by simp⟩,Nat.zero_le _,fun(k:Nat) hk=>⟨fun h=> ?_,fun h=> ?_⟩⟩
 ·have hlt:k<l.length:=by simpa using h
  have hf:=Jfm (p:=fun x=>f (x,())) hk
  have ht:=Us (d:=ev0) hlt
  refine⟨by omega,hq (l.getD k ev0) (Je hlt),fun h1=> ?_,fun h1=> ?_⟩
  ·have h1:f (l.getD k ev0,())=true:=h1
   refine⟨by show((List.filter (fun x=>f (x,())) (List.take k l)).length+1)*88≤_;omega,by omega,(k+1:Nat),⟨rfl,by simp,rfl,rfl,rfl, ?_⟩,by omega,by omega⟩
   rw[←ht,List.filter_append,List.filter_cons,if_pos h1];rfl
  ·have h1:f (l.getD k ev0,())=false:=h1
   refine⟨by omega,(k+1:Nat),⟨rfl,by simp,rfl,rfl,rfl, ?_⟩,by omega,by omega⟩
   rw[←ht,List.filter_append,List.filter_cons,if_neg (by rw[h1];decide)];simp
 ·have hlt:¬k<l.length:=by simpa using h
  rw[List.take_of_length_le (by omega)]
abbrev K24:=K25.add K43
def Kb9:Con:={args:=[.val false (.list 67 sEv), .fn [(true,sEv)] (true,sEv)],ress:=[(false, .list 67 sEv)],owns:=[true],pre:=fun(l,(q,_),_)=>[l.length≤1000000,∀x∈l,Ur (q (x,()))],spec:=fun(l,(_,f),_)=>(l.map fun x=>f (x,()),())}
def Kae (a:Ev×Unit→Ev) (b:Nat) (c:List Ev):=List.map (fun(x:Ev)=>a (x,PUnit.unit)) (List.take b c)
def Kur (a:Ev×Unit→Ev) (b:List Ev) (c:Nat):=a (J60 b c)
def Kuq (a:Ev×Unit→Ev) (b:List Ev) (c:Nat):=(Kur a b c).2
def Kup (a:Ev×Unit→Ev) (b:List Ev) (c:Nat):=(Kuq a b c).2
theorem K44:Ok Tryz.prog 77 Kb9:=okW K24 Tryz.f77 (fun xx=>X8 (Jbf 67 67 sEv xx.1 (true,sEv) true xx.2.1.1 xx.2.1.2)) fun xx=>by
 obtain⟨(l:List Ev),⟨(q:Ev×Unit→List Prop),(f:Ev×Unit→Ev)⟩,_⟩:=xx
 refine(by kernel_rfl:(Z38 l→J9u l q→∃(x:Nat),Si (Ln l) (0=Nc x∧Sf l ((fun(x:Ev×PUnit)=>q x)=q∧(fun(x:Ev×PUnit)=>f x)=f∧List.length (Kae f x l)=0))∧x≤List.length l∧∀(x:Nat),x≤List.length l→Br (Z78 x l) (Tw (Z8 x l)∧(J88 q l x∧(List.length (Kae f x l)+1)*88≤140737488355328)∧Z19 x∧∃(y:Nat),Si (Ln l) (Z95 x y∧Sf l ((fun(x:Ev×PUnit)=>q x)=q∧(fun(x:Ev×PUnit)=>f x)=f∧Kae f x l++[((Kur f l x).1,(Kuq f l x).1,(Kup f l x).1,E2 (Kup f l x).2)]=Kae f y l))∧Jyp y l x) (Kae f x l=List.map (fun(x:Ev)=>f (x,PUnit.unit)) l))=_).mp ?_
 delta Z8 Z19 Z38 Z78 Z95 J1u D9 Kae J3s J3q J3p J1o Jyp J9u Kd8 J60 Kur Kuq Kup J88 Br Iw Bd Tw Sf Si Ln Nc B0 E2
 intro hb hq
 refine⟨(0:Nat),⟨rfl,rfl,rfl,rfl,rfl,by simp⟩,Nat.zero_le _,fun(k:Nat) hk=>⟨fun h=> ?_,fun h=> ?_⟩⟩
 ·have hlt:k<l.length:=by simpa using h
  refine⟨by omega,⟨hq (l.getD k ev0) (Je hlt),by simp only[List.length_map,List.length_take];omega⟩,by omega,(k+1:Nat),⟨rfl,by simp,rfl,rfl,rfl, ?_⟩,by omega,by omega⟩
  rw[←Us (d:=ev0) hlt,List.map_append];rfl
 ·have hlt:¬k<l.length:=by simpa using h
  rw[List.take_of_length_le (by omega)]
abbrev K23:=K24.add K44
def Xy:List Ev→Nat→List Ev
 |[],_=>[]
 |e::l,i=>((i:Int)+1,e.2)::Xy l (i+1)
def Zb (l:List Ev) (s:ByteArray):Int:=Jh [(Jb l).2.2,bif (bif (Jb l).2.2==0 then !Vl (Ji l) 0 s else false) then 10 else 0]
def Y5 (l:List Ev) (s:ByteArray):List Ev:=(Jb l).1.2.1.filter fun e=>abS (Ji l) e s
def Jan (l:List Ev) (s:ByteArray):List Ev:=if Zb l s=0 then Xy (Y5 l s) 0 else[]
def Kbr:Con:={args:=[.val false (.list 67 sEv),aS],ress:=[(false, .list 67 sEv),I],owns:=[],pre:=fun(l,_)=>[lOk l],spec:=fun(l,s,_)=>(Jan l s,Zb l s,())}
theorem Du:∀(l:List Ev) (i:Nat),(Xy l i).length=l.length
 |[],_=>rfl
 |_::l,i=>by unfold Xy;rw[List.length_cons,List.length_cons,Du l]
theorem Jhb:∀(a b:List Ev) (i:Nat),Xy (a++b) i=Xy a i++Xy b (i+a.length)
 |[],_,_=>rfl
 |x::a,b,i=>by
  rw[List.cons_append,Xy,Xy,Jhb a b (i+1),List.cons_append,List.length_cons,show i+1+a.length=i+(a.length+1) by omega]
theorem Juc {L:List Ev} {k:Nat} (h:k<L.length):(Xy (L.take k) 0++L.drop k).getD k ev0=L.getD k ev0:=by
 have hl:(Xy (L.take k) 0).length=k:=by rw[Du,List.length_take];omega
 rw[Jz (d:=ev0) h,List.getD_eq_getElem?_getD,List.getElem?_append_right (by omega),hl,Nat.sub_self]
 rfl
theorem Jub {L:List Ev} {k:Nat} (h:k<L.length):(Xy (L.take k) 0++L.drop k).set k ((k:Int)+1,(L.getD k ev0).2)=Xy (L.take (k+1)) 0++L.drop (k+1):=by
 have hl:(Xy (L.take k) 0).length=k:=by rw[Du,List.length_take];omega
 rw[Jz (d:=ev0) h,List.set_append_right _ _ (by omega),hl,Nat.sub_self,List.set_cons_zero,←Us (d:=ev0) h,Jhb,List.append_assoc,List.length_take,Nat.min_eq_left (by omega),Nat.zero_add]
 rfl
theorem Jo1:∀{l:List Ev} {h:Kb},∀e∈(Xs h l).1.2.1,e∈h.2.1∨e∈l
 |[],_,e,he=> .inl he
 | x :: l, h, e, he => by
  unfold Xs at he
  by_cases ha:Kv h x=0
  ·rw[if_pos ha] at he
   rcases Jo1 e he with h1|h1
   ·unfold Ha at h1
    cases hk:x.2.1.toList==Jp.toList with
    |true=>rw[hk,cond_true] at h1;exact .inl (List.mem_of_mem_take h1)
    |false=>
     rw[hk,cond_false] at h1
     rcases V0 h1 with h2|rfl
     ·exact .inl h2
     ·exact .inr (List.mem_cons_self ..)
   ·exact .inr (List.mem_cons_of_mem _ h1)
  ·rw[if_neg ha] at he;exact .inl he
theorem Jrj {l:List Ev}:∀e∈(Jb l).1.2.1,e∈l:=by
 unfold Jb
 by_cases h:1000<l.length
 ·rw[if_pos h];intro e he;cases he
 ·rw[if_neg h];intro e he;exact(Jo1 e he).elim (fun h=>by cases h) id
abbrev J6j (l:List Ev) (s:ByteArray):Ann:={X:=Kb×Nat,σ:=fun(h,k)=>⟨8,[(5, .one (.ptr 3 0)),(14, .one (.sl 0)),(15, .one (.int .i64 l.length)),(16, .one (.int .i64 k))],[(0, .imm 67 sEv l),(1, .box 9 [.str s]),(2, .sus [(3, .one (.ptr 1 0))]),(3, .box 167 [.sl 5, .sl 6, .sl 7]),(5, .own 67 sEv h.1),(6, .own 67 sEv h.2.1),(7, .own 105 Jj7 h.2.2)]⟩,inv:=fun(h,k)=>V9 h∧h.1.length=k∧k≤l.length∧l.length≤1000∧Xs h (l.drop k)=Jb l,mu:=fun(_,k)=>l.length-k}
abbrev Kda (L:List Ev):Ann:={X:=Nat,σ:=fun k=>⟨1,[(11, .one (.sl 0)),(44, .one (.sl 0)),(45, .one (.int .i64 L.length)),(46, .one (.int .i64 k))],[(0, .own 67 sEv (Xy (L.take k) 0++L.drop k))]⟩,inv:=fun k=>k≤L.length,mu:=fun k=>L.length-k}
def J66 (a:Nat) (b:List Ev) (c:Bt):=Xy (List.take a (Y5 b c)) 0++List.drop a (Y5 b c)
def Klp (a:Ev):=List.length a.2.2.1≤1000000∧List.length a.2.2.2.1≤1000000
def Keu (a:Kb×Nat):=((J2 a.1.2.2).1,(J2 a.1.2.2).2.1,(J2 a.1.2.2).2.2.1,(J2 a.1.2.2).2.2.2.1,(J2 a.1.2.2).2.2.2.2.1,E2 (J2 a.1.2.2).2.2.2.2.2)
def Kwr (a:Kb×Nat):=Jn (Keu a)
def Kh8 (a:Kb×Nat) (b:Bt):=List.filter (fun(x:Ev)=>abS (Keu a) x b) a.1.2.1
def Kvc (a:Kb×Nat) (b:Bt):=List.map (fun(x:Ev)=>x) (Kh8 a b)
def Ku0 (a:Kb×Nat) (b:Bt):=Jh [0,bif bif true then !Vl (Keu a) 0 b else false then 10 else 0]
def Kt8 (a:Kb×Nat) (b:List Ev):=Jyk a b==0
def Kt6 (a:Kb×Nat) (b:List Ev):=Kt8 a b=true
def J8j (a:Kb×Nat) (b:List Ev) (c:Bt):=Jh [Jyk a b,bif bif Kt8 a b then Kj7 c else false then 10 else 0]
theorem K5z:Ok Tryz.prog 16 Kbr:=Jyd K23 Tryz.f16 (Uy (l:=([(74,Tryz.f74)]:List (Nat×Func))) (List.forall_mem_cons.2 ⟨by kernel_rfl,by simp⟩)) (fun xx=>X8 (Kda (Y5 xx.1 xx.2.1))) (fun xx=>fun f id=>if f=74 then some (J6j xx.1 xx.2.1) else none) fun xx=>by
 obtain⟨(l:List Ev),(s:ByteArray),_⟩:=xx
 refine(by kernel_rfl:(lOk l→Br (Z90 l) ((Z39∧Jbg∧2≤1000000)∧Br true (Sf true ([]=Jan l s∧Jh [5,0]=Zb l s)) (Tw False)) (∃(x:(List Ev×List Ev×List Reg)×Nat),Si (Ln l) (0=Nc x.2∧Sf l (Kjy s x))∧J1m x l∧∀(x:Kb×Nat),J3l x l→Br (Jy1 x l) (Tw (Z31 x l)∧J3g x l∧Br (Jyj x l) (Z33 x∧((Kt6 x l→False)∧(Kt6 x l→Yt)∧2≤1000000)∧Br (J8j x l s !=0) (Sf true ([]=Jan l s∧J8j x l s=Zb l s)) (Tw False)) (Z33 x∧∃(y:(List Ev×List Ev×List Reg)×Nat),Si (Ln l) (Jqu x y∧Sf l (J17 s x l y))∧J3j y l x)) (((true=true→J3z x)∧(true=true→Kwr x)∧2≤1000000)∧Br (Ku0 x s !=0) (Sf true ([]=Jan l s∧Ku0 x s=Zb l s)) (J3z x∧(List.length x.1.2.1≤1000000∧(∀(x_1:Ev),x_1∈x.1.2.1→Kwr x∧Jgy (Keu x) x_1)∧List.length (Kh8 x s)≤1000000∧∀(x_1:Ev),x_1∈Kh8 x s→Klp x_1)∧∃(x_1:Nat),(Ln (Kvc x s)=Ln (Y5 l s)∧0=Nc x_1∧Kvc x s=J66 x_1 l s)∧x_1≤List.length (Y5 l s)∧∀(x:Nat),x≤List.length (Y5 l s)→Br (decide (Nc x<Ln (Y5 l s))) ((Z19 x∧Tw (Bd (Nc x) (Ln (J66 x l s))))∧Z19 x∧∃(y:Nat),Si (Ln (Y5 l s)) (Z95 x y∧List.set (J66 x l s) x (Nc x+1,(List.getD (J66 x l s) x D9).2)=J66 y l s)∧y≤List.length (Y5 l s)∧List.length (Y5 l s)-y<List.length (Y5 l s)-x) (Sf true (J66 x l s=Jan l s∧0=Zb l s))))))=_).mp ?_
 delta Z19 Z31 Z33 Z39 Z90 Z95 Jy1 Jqu Jsj D9 J3z J3r J3o Jyq L9 J66 Klp Vr Yt J9p Kj7 Jbg Kjy J64 J63 J3l J1m Keu Kwr J3j Kh8 Kvc Ku0 Js2 Jyk J87 J86 Kt8 Kt6 J3g Jyj J8j Jsl J17 Br Iw Bd Tw Sf Si Ln Nc B0 E2
 intro hl
 refine⟨fun h=> ?_,fun h=> ?_⟩
 ·have e:Jb l=(V7,0,5):=by unfold Jb;rw[if_pos (by have:=of_decide_eq_true h;omega)]
  have eE:Zb l s=5:=by unfold Zb;rw[e];rfl
  refine⟨⟨fun h=>(by cases h),fun h=>(by cases h),by decide⟩,fun _=>⟨rfl, ?_,eE.symm⟩,fun h=>(by cases h)⟩
  unfold Jan;rw[if_neg (by rw[eE];decide)]
 have hn:l.length≤1000:=by have:=of_decide_eq_false h;omega
 have e0:Jb l=Xs V7 l:=by unfold Jb;rw[if_neg (by omega)]
 refine⟨(V7,(0:Nat)),⟨rfl,rfl,rfl,rfl,rfl,rfl,rfl⟩,⟨Xk,rfl,Nat.zero_le _,hn,e0.symm⟩,fun(x:Kb×Nat) hx=>⟨fun h1=> ?_,fun h1=> ?_⟩⟩
 ·obtain⟨g,k⟩:=x
  obtain⟨hi,hk,hk2,_,hrun⟩:=hx
  dsimp only at hi hk hk2 hrun
  have hlt:k<l.length:=by simpa using h1
  rw[Jz (d:=ev0) hlt,Xs] at hrun
  have hz:=hl.2 _ (Je (d:=ev0) hlt)
  have hev:(0,({data:={toList:=[]}}:ByteArray),([]:List ByteArray),([]:List Int),({data:={toList:=[]}}:ByteArray))=ev0:=rfl
  simp only[hev,Prod.eta]
  refine⟨by omega,⟨hi.ok,(show g.1.length<1000 by omega),hz⟩,fun h2=> ?_,fun h2=> ?_⟩
  ·have n2:Kv g (l.getD k ev0)≠0:=bne_iff_ne.1 h2
   rw[if_neg n2] at hrun
   have b2:(Kv g (l.getD k ev0)==0)=false:=beq_eq_false_iff_ne.2 n2
   have eE:Zb l s=Kv g (l.getD k ev0):=by
    unfold Zb
    rw[←hrun]
    simp only[b2,cond_false]
    unfold Jh
    rw[if_neg n2]
   simp only[b2,cond_false]
   refine⟨by(repeat' first|apply And.intro|(first|omega|dsimp only;omega)),⟨fun h=>(nomatch h),fun h=>(nomatch h),by decide⟩,fun _=>⟨trivial, ?_, ?_⟩,fun h=> ?_⟩
   ·unfold Jan;rw[if_neg (by rw[eE];exact n2)]
   ·rw[eE];unfold Jh;rw[if_neg n2]
   ·have h:=bne_eq_false_iff_eq.1 h
    unfold Jh at h;rw[if_neg n2] at h;exact absurd h n2
  ·have z2:Kv g (l.getD k ev0)=0:=bne_eq_false_iff_eq.1 h2
   rw[if_pos z2] at hrun
   have ea:U9 g (l.getD k ev0)=Ha g (l.getD k ev0):=by unfold U9;rw[if_pos z2]
   rw[ea]
   have hk3:(Ha g (l.getD k ev0)).1.length=g.1.length+1:=Xl
   exact⟨by(repeat' first|apply And.intro|(first|omega|dsimp only;omega)),(Ha g (l.getD k ev0),k+1),by(repeat' first|exact rfl|exact⟨⟩|apply And.intro|omega|dsimp only;omega),⟨Ft hi (by(first|omega|dsimp only;omega)) z2,by(first|omega|dsimp only;omega),by(first|omega|dsimp only;omega),hn,hrun⟩,by(first|omega|dsimp only;omega)⟩
 ·obtain⟨g,k⟩:=x
  obtain⟨hi,hk,hk2,_,hrun⟩:=hx
  dsimp only at hi hk hk2 hrun
  have hlt:¬k<l.length:=by simpa using h1
  have:k=l.length:=by omega
  rw[this,List.drop_length,Xs] at hrun
  simp only[Prod.eta]
  have eR:Ji l=J2 g.2.2:=by unfold Ji;rw[←hrun];rfl
  have eE:Zb l s=Jh [0,bif bif true then !Vl (J2 g.2.2) 0 s else false then 10 else 0]:=by
   unfold Zb;rw[←hrun,eR];rfl
  have eL:Y5 l s=g.2.1.filter fun e=>abS (J2 g.2.2) e s:=by unfold Y5;rw[←hrun,eR]
  rw[←eE]
  have hA:Jmf g:=by have:=Jzr (l:=l);rw[←hrun] at this;exact this
  have nE:g.1.length≤1000:=hi.ok.nE
  have nC:g.2.1.length≤g.1.length:=hi.ok.nC
  have hsub:∀e∈g.2.1,e∈l:=by have:=Jrj (l:=l);rw[←hrun] at this;exact this
  have hfl:=List.length_filter_le (fun e=>abS (J2 g.2.2) e s) g.2.1
  have hL:(Y5 l s).length≤1000:=by rw[eL];omega
  refine⟨⟨fun _=>hi.ok,fun _=>Y6 hi.ok,by decide⟩,fun h2=>⟨trivial, ?_,rfl⟩,fun h2=>⟨hi.ok,⟨Nat.le_trans nC (by omega),fun x hx=>⟨Y6 hi.ok,Kbh hi hA hx⟩,Nat.le_trans hfl (by omega),fun x hx=> ?_⟩,(0:Nat),⟨?_,rfl, ?_⟩,Nat.zero_le _,fun(k:Nat) hk=>⟨fun h3=> ?_,fun h3=> ?_⟩⟩⟩
  ·unfold Jan;rw[if_neg (bne_iff_ne.1 h2)]
  ·have:=hl.2 x (hsub x (List.mem_filter.1 hx).1)
   exact⟨this.1,this.2.1⟩
  ·rw[eL,List.map_id']
  ·rw[eL,List.map_id'];rfl
  ·have hlt:k<(Y5 l s).length:=by simpa using h3
   have hev:(0,({data:={toList:=[]}}:ByteArray),([]:List ByteArray),([]:List Int),({data:={toList:=[]}}:ByteArray))=ev0:=rfl
   rw[hev,Juc hlt]
   refine⟨⟨by omega, ?_⟩,by omega,(k+1:Nat),⟨trivial,by simp,Jub hlt⟩,by omega,by omega⟩
   rw[List.length_append,Du,List.length_take,List.length_drop]
   omega
  ·have hlt:¬k<(Y5 l s).length:=by simpa using h3
   have:k=(Y5 l s).length:=by omega
   have z:Zb l s=0:=bne_eq_false_iff_eq.1 h2
   refine⟨trivial, ?_,z.symm⟩
   unfold Jan
   rw[if_pos z,this,List.take_length,List.drop_length,List.append_nil]
abbrev K7i:=K23.add K5z
namespace Cmp
open Go.Sx
set_option maxHeartbeats 20000000
def Kry:Con:={args:=[.val true Hx, .val true Hx],ress:=[I],owns:=[],pre:=fun(x,y,_)=>[-1000000000≤x.1∧x.1≤1000000000,-1000000000≤y.1∧y.1≤1000000000],spec:=fun(x,y,_)=>(x.1-y.1,())}
theorem ok98 [Sx.Dr]:Ok Tryz.prog 98 Kry:=okW W82 Tryz.f98 na fun xx=>by
 obtain⟨⟨(a:Int),(b:Int)⟩,⟨(c:Int),(d:Int)⟩,_⟩:=xx
 refine(by kernel_rfl:((-1000000000)≤a∧a≤1000000000→(-1000000000)≤c∧c≤1000000000→Iw (a-c)∧a-c=a-c)=_).mp ?_
 delta Iw
 intro h1 h2
 exact⟨by omega,rfl⟩
abbrev W83 [Sx.Dr]:=W82.add ok98
end Cmp
set_option maxHeartbeats 20000000
abbrev Spn:=Int×Int
def J2h:={x:Spn// -1000000000≤x.1∧x.1≤1000000000}
instance:Inhabited J2h:=⟨⟨(0,0),by decide,by decide⟩⟩
def Jr8 (x:J2h):List Value:=[.int .i64 x.1.1, .int .i64 x.1.2]
def Jv5 (x y:J2h):Int:=x.1.1-y.1.1
theorem Je4 {a b:J2h}:Proofs.ltOf Jv5 a b=false↔b.1.1≤a.1.1:=by
 unfold Proofs.ltOf Jv5
 simp only[decide_eq_false_iff_not]
 omega
theorem Jnk (a b:J2h):Proofs.ltOf Jv5 a b=true↔a.1.1<b.1.1:=by
 unfold Proofs.ltOf Jv5
 simp only[decide_eq_true_iff]
 omega
theorem K4o:Sort.SWO (Proofs.ltOf Jv5) where
 irrefl x:=Je4.2 (Int.le_refl _)
 trans x y z h1 h2:=(Jnk x z).2 (Int.lt_trans ((Jnk x y).1 h1) ((Jnk y z).1 h2))
 ntrans x y z h1 h2:=Je4.2 (Int.le_trans (Je4.1 h2) (Je4.1 h1))
theorem Jju (M:Nat→Prop) (w:World) (x:J2h) (cs:List Value):Rep M w Hx x.1 cs↔cs=Jr8 x:=by
 constructor
 ·rintro⟨a,b,rfl,ha,hb⟩
  have ha:a=[.int .i64 x.1.1]:=ha
  have hb:b=[.int .i64 x.1.2]:=hb
  subst ha;subst hb;rfl
 ·rintro rfl
  exact⟨_,_,rfl,rfl,rfl⟩
theorem Jv4 (w:World) (x y:J2h) (hG:Sx.Good Tryz.prog w):Calls Tryz.prog 98 #[.agg (Jr8 x).toArray, .agg (Jr8 y).toArray] w fun e w'=>e= .returned (.int .i64 (Jv5 x y))∧RowKit.Below w.heap.size w w'∧w.drawn≤w'.drawn:=by
 have h:=(@Cmp.ok98 .on).2.2.2 rfl (x.1,y.1,()) (fun _=>False) (fun _=>False) w [.agg (Jr8 x).toArray, .agg (Jr8 y).toArray] (fun b hb=>by rcases hb with hb|hb<;>exact hb.elim) hG.on ⟨x.2,y.2⟩ ⟨_,_,rfl,⟨Jr8 x,rfl,(Jju _ _ _ _).2 rfl⟩,_,_,rfl,⟨Jr8 y,rfl,(Jju _ _ _ _).2 rfl⟩,rfl⟩
 refine h.mono ?_
 rintro e w' ⟨M',vs,rfl,hb,_,_,hr⟩
 obtain⟨v,vs',rfl,⟨cs,rfl,hc⟩,hr⟩:=hr
 have hc:cs=[.int .i64 (Jv5 x y)]:=hc
 have hr:vs'=[]:=hr
 subst hc;subst hr
 exact⟨rfl,@Sx.Below.kit .on _ _ _ hb,hb.dr⟩
theorem Jz9 (w:World):(isAgg 117).run Tryz.prog w= .ok true w:=by kernel_rfl
theorem Jty (w:World):(Go.sizeOf 117).run Tryz.prog w= .ok 2 w:=by kernel_rfl
theorem Ka0 (g cap:Nat) (d:Array J2h) (w:World) (hH:Sort.HoldsK Jr8 2 w g 0 d) (hg:g<w.heap.size) (hd:d.size<4611686018427387904) (hc:Proofs.CmpLays Tryz.prog 98 #[] Jr8 2 Jv5 g 0 d.size w):
  Calls Tryz.prog 97 #[.slice (some ⟨g,0,none⟩) d.size cap, .func (.func 98) #[] #[]] w fun e w'=>e= .returned (.tuple #[])∧∃d' n os,Sort.PermIn 0 d.size d d'∧Sort.SortedIn (Proofs.ltOf Jv5) 0 d.size d'∧w'=Proofs.sortWorldK Jr8 2 w g 0 n d' os:=by
 have eg:∀args w,(callFunc 98 args).run Tryz.prog w= .ok (.enter 98 args) w:=Proofs.enters_of Tryz.func98 (by kernel_rfl) rfl
 exact Proofs.AnyQ.slices_SortFunc Proofs.Tryz.sortS 2 Jz9 Jty Jr8 (fun _=>rfl) (fun x v hv=>by simp[Jr8] at hv;rcases hv with rfl|rfl<;>rfl) Jv5 K4o 98 #[] g 0 cap d w eg hc hH hg hd
theorem Jm5 (w:World):Calls Tryz.prog 97 #[.slice none 0 0, .func (.func 98) #[] #[]] w fun e w'=>e= .returned (.tuple #[])∧w'=w:=
 Proofs.AnyF.slices_SortFunc_none Proofs.Tryz.sortS none 0 _ w
def Kha (l:List Spn):Prop:=(∀x∈l,-1000000000≤x.1∧x.1≤1000000000)∧l.length≤1000000
def J4p (xs ys:List Spn):Prop:=ys.Perm xs∧ys.Pairwise fun a b=>a.1≤b.1
theorem Jph {p:Spn→Prop}:∀l:List Spn,(∀x∈l,p x)→∃zs:List {x:Spn//p x},l=zs.map Subtype.val
 |[],_=>⟨[],rfl⟩
 |x::l,h=>by
  obtain⟨zs,e⟩:=Jph l fun y hy=>h y (List.mem_cons_of_mem _ hy)
  exact⟨⟨x,h x (List.mem_cons_self ..)⟩::zs,by rw[List.map_cons,←e]⟩
theorem Jtx:Jx3 Tryz.prog 97 {T:=117,s:=Hx,g:=98,pre:=Kha,f:=id,rel:=some J4p}:=
 Jzi (s:=Hx) (T:=117) (β:=J2h) (k:=2) Subtype.val Jr8 (fun _=>rfl) rfl Jju Jv5 Kha id J4p Ka0 Jm5 Jv4
  (fun xs h=>Jph xs h.1)
  (fun xs ys hp hs=>⟨hp.map _,List.pairwise_map.2 (hs.imp fun h=>Je4.1 h)⟩)
  (fun xs h=>h.2)
def Kbs:Con:={args:=[],ress:=[],owns:=[],pre:=fun _=>[False],spec:=fun _=>(),srt:=some {T:=117,s:=Hx,g:=98,pre:=Kha,f:=id,rel:=some J4p}}
theorem K4r:Ok Tryz.prog 97 Kbs:=⟨⟨Tryz.f97,by kernel_rfl,by kernel_rfl,by kernel_rfl⟩,fun z hz=>(by cases hz;exact Jtx),fun F hF=>(by cases hF),fun h=>by cases h⟩
abbrev K22:=K7i.add K4r
def J5x:Con:={args:=[.val false (.list 188 Zg), .fn [(true,Zg)] (true,Hx)],ress:=[(false, .list 117 Hx)],owns:=[true],pre:=fun(l,(q,_),_)=>[l.length≤1000000,∀x∈l,Ur (q (x,()))],spec:=fun(l,(_,f),_)=>(l.map fun x=>f (x,()),())}
def J90 (a:Out×Unit→Spn) (b:Nat) (c:List Out):=List.map (fun(x:Out)=>a (x,PUnit.unit)) (List.take b c)
theorem K4v:Ok Tryz.prog 93 J5x:=okW K22 Tryz.f93 (fun xx=>X8 (Jbf 188 117 Zg xx.1 (true,Hx) true xx.2.1.1 xx.2.1.2)) fun xx=>by
 obtain⟨(l:List Out),⟨(q:Out×Unit→List Prop),(f:Out×Unit→Spn)⟩,_⟩:=xx
 refine(by kernel_rfl:(Z58 l→J3n l q→∃(x:Nat),Si (Ln l) (0=Nc x∧Sf l ((fun(x:Out×PUnit)=>q x)=q∧(fun(x:Out×PUnit)=>f x)=f∧List.length (J90 f x l)=0))∧x≤List.length l∧∀(x:Nat),x≤List.length l→Br (Js9 x l) (Tw (Z22 x l)∧(J3h q l x∧(List.length (J90 f x l)+1)*16≤140737488355328)∧Z19 x∧∃(y:Nat),Si (Ln l) (Z95 x y∧Sf l ((fun(x:Out×PUnit)=>q x)=q∧(fun(x:Out×PUnit)=>f x)=f∧J90 f x l++[E2 (f (J3i l x))]=J90 f y l))∧J67 y l x) (J90 f x l=List.map (fun(x:Out)=>f (x,PUnit.unit)) l))=_).mp ?_
 delta Z19 Z22 Z58 Z95 Js9 Jgf Jyv J1q J1p J3t J90 J67 J3n J89 J3i J3h Br Iw Bd Tw Sf Si Ln Nc B0 E2
 intro hb hq
 refine⟨(0:Nat),⟨rfl,rfl,rfl,rfl,rfl,by simp⟩,Nat.zero_le _,fun(k:Nat) hk=>⟨fun h=> ?_,fun h=> ?_⟩⟩
 ·have hlt:k<l.length:=by simpa using h
  refine⟨by omega,⟨hq (l.getD k Jbh) (Je hlt),by simp only[List.length_map,List.length_take];omega⟩,by omega,(k+1:Nat),⟨rfl,by simp,rfl,rfl,rfl, ?_⟩,by omega,by omega⟩
  rw[←Us (d:=Jbh) hlt,List.map_append];rfl
 ·have hlt:¬k<l.length:=by simpa using h
  rw[List.take_of_length_le (by omega)]
abbrev K21:=K22.add K4v
def K6q:Con:={args:=[.val true Zg, .ref 9 .str],ress:=[Bo],owns:=[],pre:=fun _=>[],spec:=fun(x,s,_)=>(x.2.1.toList==s.toList,())}
theorem K4t:Ok Tryz.prog 95 K6q:=okW K21 Tryz.f95 na fun xx=>by
 obtain⟨⟨(n:ByteArray),(f:ByteArray),⟨(a:Int),(b:Int)⟩,(p:Int)⟩,(s:ByteArray),_⟩:=xx
 refine(by kernel_rfl:(Lb f s=Lb f s)=_).mp ?_
 delta Lb
 rfl
abbrev K20:=K21.add K4t
def K6p:Con:={args:=[.val true Zg],ress:=[(true,Hx)],owns:=[],pre:=fun _=>[],spec:=fun(x,_)=>(x.2.2.1,())}
theorem K4s:Ok Tryz.prog 96 K6p:=okW K20 Tryz.f96 na fun xx=>by
 obtain⟨⟨(n:ByteArray),(f:ByteArray),⟨(a:Int),(b:Int)⟩,(p:Int)⟩,_⟩:=xx
 refine(by kernel_rfl:((a,b)=(a,b))=_).mp ?_
 rfl
abbrev K2z:=K20.add K4s
end Go.Proofs.YtcibbcfiemeoiaaGreatDoor

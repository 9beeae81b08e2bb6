/- Contracts of the functions that the law reaches: part of the proof. -/
import Derived.Test.YtcibbcfiemeoiaaGreatDoorFA
import Derived.Shelf.Strconv.ErrVarAll
import Derived.Lib.ItoaLen
import Derived.Lib.ItoaMem
set_option linter.unusedSimpArgs false
set_option linter.unusedVariables false
set_option maxRecDepth 20000
namespace Go.Proofs.YtcibbcfiemeoiaaGreatDoor
open Go.Sx
set_option maxHeartbeats 20000000
abbrev Jdq:=ByteArray×Int×Int×Int×Int×Int
abbrev Jod:Sch:= .prod .str (.prod sI (.prod sI (.prod sI (.prod sI sI))))
abbrev Jng:=Int×Int×Int×Int
def Dt (M:List Met) (s:ByteArray) (h:Int):Met:=M.getD (Kw M s h).toNat Jj0
def Jbv (st:Int) (M:List Met) (x:Ord):Int→Nat→Jng→Jng
 |_,0,a=>a
 |h,n+1,(c,s,g,f)=>Jbv st M x (h+1) n (bif Jh x h&&decide (h<st) then(c+1,s+(Dt M x.1 h).2.2.1,g+(Dt M x.1 h).2.2.2,f+3*(x.2.2.2.2.1-(Dt M x.1 h).2.2.2)) else(c,s,g,f))
def Zi (st:Int) (M:List Met) (x:Ord):Jng:=Jbv st M x x.2.2.2.1.1 (Ua x) (0,0,0,0)
def K6 (st:Int) (M:List Met) (x:Ord):Jdq:=(x.1,(Zi st M x).1,(Zi st M x).2.1,(Zi st M x).2.2.1,(Zi st M x).2.2.1*x.2.2.2.2.2.1,(Zi st M x).2.2.2)
def Ks8:Con:={args:=[Jb4, .val true Lt],ress:=[(true,Jod)],owns:=[],pre:=fun(r,x,_)=>[Jj r,x∈r.2.2.2.1],spec:=fun((_,st,_,_,M,_),x,_)=>(K6 st M x,())}
abbrev J7r (tk st:Int) (S:List Sta) (O:List Ord) (M:List Met) (X:List Out) (Q:List Per) (x:Ord):Ann:={X:=Nat×Jng,σ:=fun(j,c,s,g,f)=>⟨14,[(0, .one (.fv 12)),(1, .one (.ptr 10 0)),(3, .one (.int .i64 (x.2.2.2.1.1+j)))],[(0, .imm 127 Ft S),(1, .imm 130 Lt O),(2, .imm 155 Jaw M),(3, .imm 188 Zw X),(4, .imm 235 Hw Q),(5, .box 105 [.int .i64 tk, .int .i64 st, .sl 0, .sl 1, .sl 2, .sl 3, .sl 4]),(6, .box 130 (bxO x)),(7, .box 129 [.str Ja, .int .i64 0, .int .i64 0, .int .i64 0, .int .i64 0, .int .i64 0]),(8, .box 129 [.str x.1, .int .i64 c, .int .i64 s, .int .i64 g, .int .i64 0, .int .i64 f]),(10, .box 130 (bxO x)),(12, .yld .ready),(13, .sus [(2, .one (.ptr 5 0)),(3, .one (.ptr 6 0)),(4, .one (.ptr 7 0)),(5, .one (.ptr 8 0))])]⟩,inv:=fun(j,c,s,g,f)=>j≤Ua x∧(0≤c∧c≤j)∧(0≤s∧s≤1000*j)∧(0≤g∧g≤1000*j)∧(-3000*j≤f∧f≤3000*j)∧Jbv st M x (x.2.2.2.1.1+j) (Ua x-j) (c,s,g,f)=Zi st M x,mu:=fun(j,_)=>Ua x-j}
def Kbl (a:Int) (b:Nat):=0≤a∧a≤1000*Nc b
def Kmw (a:List Met) (b:Bt) (c:Int) (d:Nat×Jng):=(Gt a (Kw a b (c+Nc d.1)) J0a).2.2
def Kmi (a:Int) (b:List Met) (c:Bt) (d:Int) (e:Nat×Jng):=a-(Kmw b c d e).2
def Kl1 (a:Nat×Jng) (b:List Met) (c:Bt) (d:Int):=a.2.2.1+(Kmw b c d a).1
def Kau (a:Nat×Jng) (b:List Met) (c:Bt) (d:Int):=a.2.2.2.1+(Kmw b c d a).2
def Kle (a:Nat×Jng) (b:Int) (c:List Met) (d:Bt) (e:Int):=a.2.2.2.2+3*Kmi b c d e a
def Kvg (a:Nat) (b c d:Bt) (e f g h i j k l m n:Int) (o:List Met):=a≤Ua (b,c,d,(e,f),g,h,i)∧(0≤j∧j≤Nc a)∧Kbl k a∧Kbl l a∧((-3000)*Nc a≤m∧m≤3000*Nc a)∧Jbv n o (b,c,d,(e,f),g,h,i) (e+Nc a) (Ua (b,c,d,(e,f),g,h,i)-a) (j,k,l,m)=Zi n o (b,c,d,(e,f),g,h,i)
def Kvb (a:Nat×Int×Int×Int×Int) (b c d:Bt) (e f g h i j:Int) (k:List Met):=match a with|(j_1,c_1,s,g_1,f_1)=>Kvg j_1 b c d e f g h i c_1 s g_1 f_1 j k
def Ku4 (a:Nat×Int×Int×Int×Int) (b c d:Bt) (e f g h i j:Int) (k:List Met) (l:Nat×Jng):=Kvb a b c d e f g h i j k∧Ua (b,c,d,(e,f),g,h,i)-a.1<Ua (b,c,d,(e,f),g,h,i)-l.1
def J9a (a:Nat×Jng) (b:Int) (c:Bt) (d:Int) (e:List Met) (f g:Bt) (h i j k:Int) (l:List Sta) (m:List Ord) (n:List Out) (o:List Per) (p:Int):=Br false (Iw (a.2.2.2.1*b)∧Sf true ((c,a.2.1,a.2.2.1,a.2.2.2.1,a.2.2.2.1*b,a.2.2.2.2)=K6 d e (c,f,g,(h,i),j,b,k))) (Iw (h+Nc a.1+1)∧∃(y:Nat×Int×Int×Int×Int),(h+Nc a.1+1=h+Nc y.1∧Sf l (Sf m (Sf e (Sf n (Sf o (Si p (Si d (Sf c (Sf f (Sf g (Si h (Si i (Si j (Si b (Si k (Sf Ja (Si 0 (Si 0 (Si 0 (Si 0 (Si 0 (Sf c (a.2.1=y.2.1∧a.2.2.1=y.2.2.1∧a.2.2.2.1=y.2.2.2.1∧Si 0 (a.2.2.2.2=y.2.2.2.2∧Sf c (Sf f (Sf g (Si h (Si i (Si j (Si b (k=k)))))))))))))))))))))))))))))))∧Ku4 y c f g h i j b k d e a)
theorem Krq:Ok Tryz.prog 126 Ks8:=Jzr K5s Tryz.f126 (U5 (l:=([(178,Tryz.f178),(247,Tryz.f247)]:List (Nat×Func))) (List.forall_mem_cons.2 ⟨by kernel_rfl,List.forall_mem_cons.2 ⟨by kernel_rfl,by simp⟩⟩)) (fun xx=>na ()) (fun xx=>fun f' id=>if f'=247 then some (J7r xx.1.1 xx.1.2.1 xx.1.2.2.1 xx.1.2.2.2.1 xx.1.2.2.2.2.1 xx.1.2.2.2.2.2.1 xx.1.2.2.2.2.2.2 (xx.2.1.1,xx.2.1.2.1,xx.2.1.2.2.1,(xx.2.1.2.2.2.1.1,xx.2.1.2.2.2.1.2),xx.2.1.2.2.2.2.1,xx.2.1.2.2.2.2.2.1,xx.2.1.2.2.2.2.2.2)) else none) fun xx=>by
 obtain⟨⟨(tk:Int),(st:Int),(S:List Sta),(O:List Ord),(M:List Met),(X:List Out),(Q:List Per)⟩,⟨(n:ByteArray),(f:ByteArray),(t:ByteArray),⟨(a:Int),(b:Int)⟩,(p:Int),(c:Int),(r:Int)⟩,_⟩:=xx
 refine(by kernel_rfl:(Jy tk st S O M X Q→(n,f,t,(a,b),p,c,r)∈O→∃(x:Nat×Int×Int×Int×Int),(a=a+Nc x.1∧Sf S (Sf O (Sf M (Sf X (Sf Q (Si tk (Si st (Sf n (Sf f (Sf t (Si a (Si b (Si p (Si c (Si r (B0=Ja∧Si 0 (Si 0 (Si 0 (Si 0 (Si 0 (Sf n (0=x.2.1∧0=x.2.2.1∧0=x.2.2.2.1∧Si 0 (0=x.2.2.2.2∧Sf n (Sf f (Sf t (Si a (Si b (Si p (Si c (r=r))))))))))))))))))))))))))))))∧Kvb x n f t a b p c r st M∧∀(x:Nat×Jng),(match x with|(j,c_1,s,g,f_1)=>Kvg j n f t a b p c r c_1 s g f_1 st M)→Br (decide (a+Nc x.1<b)) (Br (Jh (n,f,t,(a,b),p,c,r) (a+Nc x.1)) (Br (decide (a+Nc x.1<st)) ((Jy tk st S O M X Q∧Tw (Bd (Kw M n (a+Nc x.1)) (Ln M)))∧Iw (x.2.1+1)∧Iw (Kl1 x M n a)∧Iw (Kau x M n a)∧(Iw (Kmi p M n a x)∧Iw (3*Kmi p M n a x)∧Iw (Kle x p M n a))∧Br false (Iw (Kau x M n a*c)∧Sf true ((n,x.2.1+1,Kl1 x M n a,Kau x M n a,Kau x M n a*c,Kle x p M n a)=K6 st M (n,f,t,(a,b),p,c,r))) (Iw (a+Nc x.1+1)∧∃(y:Nat×Int×Int×Int×Int),(a+Nc x.1+1=a+Nc y.1∧Sf S (Sf O (Sf M (Sf X (Sf Q (Si tk (Si st (Sf n (Sf f (Sf t (Si a (Si b (Si p (Si c (Si r (Sf Ja (Si 0 (Si 0 (Si 0 (Si 0 (Si 0 (Sf n (x.2.1+1=y.2.1∧Kl1 x M n a=y.2.2.1∧Kau x M n a=y.2.2.2.1∧Si 0 (Kle x p M n a=y.2.2.2.2∧Sf n (Sf f (Sf t (Si a (Si b (Si p (Si c (r=r)))))))))))))))))))))))))))))))∧Ku4 y n f t a b p c r st M x)) (J9a x c n st M f t a b p r S O X Q tk)) (J9a x c n st M f t a b p r S O X Q tk)) (Iw (x.2.2.2.1*c)∧Sf true ((n,x.2.1,x.2.2.1,x.2.2.2.1,x.2.2.2.1*c,x.2.2.2.2)=K6 st M (n,f,t,(a,b),p,c,r))))=_).mp ?_
 delta Z64 Z71 J0a Jy Kbl Kmw Kmi Kl1 Kau Kle Kvg Kvb Ku4 J9a Br Iw Bd Tw Sf Si Ln Nc Gt B0
 intro hr hx
 have hO:=hr.ord _ hx
 have hD:=hr.done _ hx
 have b0:=hO.span.lo
 have b1:=hO.span.mid
 have b2:=hO.span.hi
 have b3:=hO.span.len
 have bp:=hO.pow
 have bc:=hO.pri
 have hn:Ua (n,f,t,(a,b),p,c,r)≤48∧(Ua (n,f,t,(a,b),p,c,r):Int)=b-a:=by
  dsimp only at b1 b3
  unfold Ua
  constructor<;>dsimp only<;>omega
 dsimp only at b0 b1 b2 b3 bp bc hD
 refine⟨((0:Nat),(0,0,0,0)),Oz,⟨Nat.zero_le _,Oo,Oo,Oo,Oo, ?_⟩,fun(y:Nat×Jng) hy=>⟨fun h1=> ?_,fun h1=> ?_⟩⟩
 ·unfold Zi
  rw[Nat.sub_zero]
  simp only[Int.natCast_zero,Int.add_zero]
 ·obtain⟨j,c1,s1,g1,f1⟩:=y
  obtain⟨k1,k2,k3,k4,k5,k6⟩:=hy
  have h1:a+(j:Int)<b:=of_decide_eq_true h1
  have hj:Ua (n,f,t,(a,b),p,c,r)-j=(Ua (n,f,t,(a,b),p,c,r)-(j+1))+1:=by omega
  rw[hj,Jbv] at k6
  have hc:a+(j:Int)+1=a+((j+1:Nat):Int):=by omega
  have hB: -9223372036854775808≤a+(j:Int)+1∧a+(j:Int)+1≤9223372036854775807:=by omega
  refine⟨fun h2=>⟨fun h3=> ?_,fun h3=>⟨fun h=>(by cases h),fun _=>⟨hB,(j+1,c1,s1,g1,f1),Oz,⟨Om,Om,Om,Om,Om, ?_⟩,Om⟩⟩⟩,fun h2=>⟨fun h=>(by cases h),fun _=>⟨hB,(j+1,c1,s1,g1,f1),Oz,⟨Om,Om,Om,Om,Om, ?_⟩,Om⟩⟩⟩
  ·have h3':a+(j:Int)<st:=of_decide_eq_true h3
   have hm:0≤Kw M n (a+(j:Int)):=hD _ h2 h3'
   have hl:=D2 (l:=M) (s:=n) (h:=a+(j:Int))
   have hM:Jzl (Dt M n (a+(j:Int))):=hr.met _ (Je (show _<M.length by omega))
   have m1:=hM.sent
   have m2:=hM.got
   have e:M.getD (Kw M n (a+(j:Int))).toNat (Ja,0,0,0)=Dt M n (a+(j:Int)):=rfl
   simp only[]
   rw[show(({data:={toList:=[]}}:ByteArray),(0:Int),(0:Int),(0:Int))=(Ja,0,0,0) from rfl,e]
   rw[h2,h3,Bool.true_and,cond_true] at k6
   refine⟨⟨hr,⟨hm,hl⟩,hm,hl⟩,Oo,Oo,Oo,⟨Oo,Oo,Oo⟩,fun h=>(by cases h),fun _=>⟨hB,(j+1,c1+1,s1+(Dt M n (a+(j:Int))).2.2.1,g1+(Dt M n (a+(j:Int))).2.2.2,f1+3*(p-(Dt M n (a+(j:Int))).2.2.2)),Oz,⟨Om,Om,Om,Om,Om, ?_⟩,Om⟩⟩
   rw[hc] at k6
   exact k6
  ·rw[h3,Bool.and_false,cond_false,hc] at k6
   exact k6
  ·rw[show Jh (n,f,t,(a,b),p,c,r) (a+(j:Int))=false from h2,Bool.false_and,cond_false,hc] at k6
   exact k6
 ·obtain⟨j,c1,s1,g1,f1⟩:=y
  obtain⟨k1,k2,k3,k4,k5,k6⟩:=hy
  have h1:¬a+(j:Int)<b:=of_decide_eq_false h1
  have hj:Ua (n,f,t,(a,b),p,c,r)-j=0:=by omega
  rw[hj,Jbv] at k6
  have q1:0≤g1*c:=Int.mul_nonneg k4.1 bc.1
  have q2:g1*c≤48000*1000:=Int.mul_le_mul Oo bc.2 bc.1 Od
  refine⟨⟨Om,Om⟩,rfl, ?_⟩
  unfold K6
  rw[←k6]
abbrev K5r:=K5s.add Krq
def bd4 (k:Int) (a:Jng):Prop:=(0≤a.1∧a.1≤k)∧(0≤a.2.1∧a.2.1≤1000*k)∧(0≤a.2.2.1∧a.2.2.1≤a.2.1)∧-3000*k≤a.2.2.2∧a.2.2.2≤3000*k
theorem Jrt {st:Int} {M:List Met} {x:Ord} (hp:1≤x.2.2.2.2.1∧x.2.2.2.2.1≤1000) (hM:∀m∈M,Jzl m) (hd:∀h,Jh x h=true→h<st→0≤Kw M x.1 h):∀(n:Nat) (h:Int) (a:Jng) (k:Int),bd4 k a→bd4 (k+n) (Jbv st M x h n a)
 |0,_,_,k,ha=>by unfold Jbv;rw[show k+((0:Nat):Int)=k by omega];exact ha
 | n + 1, h, (c, s, g, f), k, ha => by
  unfold Jbv
  rw[show k+((n+1:Nat):Int)=(k+1)+n by omega]
  apply Jrt hp hM hd n
  unfold bd4 at ha⊢
  dsimp only at ha
  cases hb:Jh x h&&decide (h<st) with
  |false=>simp only[cond_false];omega
  |true=>
   have h1:=Bool.and_eq_true_iff.1 hb
   have hm:0≤Kw M x.1 h:=hd h h1.1 (of_decide_eq_true h1.2)
   have hl:=D2 (l:=M) (s:=x.1) (h:=h)
   have hk:Jzl (Dt M x.1 h):=hM _ (Je (show _<M.length by omega))
   have m1:=hk.sent
   have m2:=hk.got
   simp only[cond_true]
   omega
theorem Jqb {S:List Sta} {x:Ord} (h:Jcy S x):Ua x≤48:=by
 have:=h.span.len
 have:=h.span.mid
 unfold Ua
 omega
structure Jsm (b:Jdq):Prop where
 hours:0≤b.2.1∧b.2.1≤48
 sent:0≤b.2.2.1∧b.2.2.1≤48000
 got:0≤b.2.2.2.1∧b.2.2.2.1≤b.2.2.1
 money:0≤b.2.2.2.2.1∧b.2.2.2.2.1≤48000000
 fine: -144000≤b.2.2.2.2.2∧b.2.2.2.2.2≤144000
theorem L9 {tk st:Int} {S:List Sta} {O:List Ord} {M:List Met} {X:List Out} {Q:List Per} {x:Ord} (hr:Jj (tk,st,S,O,M,X,Q)) (hx:x∈O):Jsm (K6 st M x):=by
 have hO:=hr.ord _ hx
 have hs:=Jqb hO
 have h:=Jrt hO.pow hr.met (hr.done _ hx) (Ua x) x.2.2.2.1.1 (0,0,0,0) 0 (by unfold bd4;simp)
 have bc:=hO.pri
 unfold bd4 at h
 have h:(0≤(Zi st M x).1∧(Zi st M x).1≤0+(Ua x:Int))∧(0≤(Zi st M x).2.1∧(Zi st M x).2.1≤1000*(0+(Ua x:Int)))∧(0≤(Zi st M x).2.2.1∧(Zi st M x).2.2.1≤(Zi st M x).2.1)∧-3000*(0+(Ua x:Int))≤(Zi st M x).2.2.2∧(Zi st M x).2.2.2≤3000*(0+(Ua x:Int)):=h
 have q1:0≤(Zi st M x).2.2.1*x.2.2.2.2.2.1:=Int.mul_nonneg h.2.2.1.1 bc.1
 have q2:(Zi st M x).2.2.1*x.2.2.2.2.2.1≤48000*1000:=Int.mul_le_mul Oo bc.2 bc.1 Od
 exact⟨by unfold K6;(first|omega|dsimp only;omega),by unfold K6;(first|omega|dsimp only;omega),by unfold K6;(first|omega|dsimp only;omega),by unfold K6;(first|omega|dsimp only;omega),by unfold K6;(first|omega|dsimp only;omega)⟩
def Hq (x:Ord) (a b:ByteArray):Bool:=x.2.1.toList==a.toList&&(x.2.2.1.toList==b.toList&&true)
def J7y (st:Int) (M:List Met) (a b:ByteArray) (x:Ord) (n:Int):Int:=(bif Hq x b a then(bif Hq x a b then n+((K6 st M x).2.2.2.2.1-(K6 st M x).2.2.2.2.2) else n)-((K6 st M x).2.2.2.2.1-(K6 st M x).2.2.2.2.2) else(bif Hq x a b then n+((K6 st M x).2.2.2.2.1-(K6 st M x).2.2.2.2.2) else n))
def Jr4 (st:Int) (M:List Met) (a b:ByteArray):List Ord→Int→Int
 |[],n=>n
 |x::l,n=>Jr4 st M a b l (J7y st M a b x n)
def Hj (st:Int) (O:List Ord) (M:List Met) (a b:ByteArray):Int:=Jr4 st M a b O 0
def J19:Con:={args:=[Jb4,aS,aS],ress:=[I],owns:=[],pre:=fun(r,_)=>[Jj r],spec:=fun((_,st,_,O,M,_),a,b,_)=>(Hj st O M a b,())}
abbrev Kek (tk st:Int) (S:List Sta) (O:List Ord) (M:List Met) (X:List Out) (Q:List Per) (a b:ByteArray):Ann:={X:=Nat×Int,σ:=fun(k,n)=>⟨6,[(1, .one (.str a)),(2, .one (.str b)),(3, .one (.ptr 5 0)),(7, .one (.int .i64 n)),(13, .one (.sl 1)),(14, .one (.int .i64 O.length)),(15, .one (.int .i64 k))],[(0, .imm 127 Ft S),(1, .imm 130 Lt O),(2, .imm 155 Jaw M),(3, .imm 188 Zw X),(4, .imm 235 Hw Q),(5, .box 105 [.int .i64 tk, .int .i64 st, .sl 0, .sl 1, .sl 2, .sl 3, .sl 4])]⟩,inv:=fun(k,n)=>k≤O.length∧(-100000000*k≤n∧n≤100000000*k)∧Jr4 st M a b (O.drop k) n=Hj st O M a b,mu:=fun(k,_)=>O.length-k}
def Klz (a:List Ord) (b:Nat×Int) (c:Bt):=Lb (Kha a b) c
def Klv (a:List Ord) (b:Nat×Int) (c:Bt):=Lb (Kg9 a b) c
def Kf1 (a:List Ord) (b c:Nat×Int) (d:List Sta) (e:List Met) (f:List Out) (g:List Per) (h i:Int):=Si (Ln a) (Jr6 b c d a e f g h i)
def Kju (a:Nat×Int) (b:List Ord) (c:Int) (d:List Met) (e f:Bt):=a.1≤List.length b∧((-100000000)*Nc a.1≤a.2∧a.2≤100000000*Nc a.1)∧Jr4 c d e f (List.drop a.1 b) a.2=Hj c b d e f
def Kjj (a:List Ord) (b:Nat×Int) (c d:Bt):=Klz a b c&&(Klv a b d&&true)
def Kfo (a:Nat×Int) (b:List Ord) (c:Int) (d:List Met) (e f:Bt) (g:Nat×Int):=Kju a b c d e f∧List.length b-a.1<List.length b-g.1
def Ku3 (a:Int) (b:List Met) (c:List Ord) (d:Nat×Int):=(K6 a b (J7z c d)).2.2.2.2
def Jzd (a:Int) (b:List Met) (c:List Ord) (d:Nat×Int):=(Ku3 a b c d).1-(Ku3 a b c d).2
def J3c (a:Int) (b:List Met) (c:List Ord) (d:Nat×Int):=Iw (Jzd a b c d)
def J9e (a:Nat×Int) (b:Int) (c:List Met) (d:List Ord):=a.2-Jzd b c d a
def J3b (a:Nat×Int) (b:Int) (c:List Met) (d:List Ord):=a.2+Jzd b c d a
def J82 (a:Nat×Int) (b:Int) (c:List Met) (d:List Ord):=J3b a b c d-Jzd b c d a
theorem Krp:Ok Tryz.prog 127 J19:=okW K5r Tryz.f127 (fun xx=>Zn (Kek xx.1.1 xx.1.2.1 xx.1.2.2.1 xx.1.2.2.2.1 xx.1.2.2.2.2.1 xx.1.2.2.2.2.2.1 xx.1.2.2.2.2.2.2 xx.2.1 xx.2.2.1)) fun xx=>by
 obtain⟨⟨(tk:Int),(st:Int),(S:List Sta),(O:List Ord),(M:List Met),(X:List Out),(Q:List Per)⟩,(a:ByteArray),(b:ByteArray),_⟩:=xx
 refine(by kernel_rfl:(Jy tk st S O M X Q→∃(x:Nat×Int),Sf a (Sf b (0=x.2∧Si (Ln O) (Jz0 x S O M X Q tk st)))∧Kju x O st M a b∧∀(x:Nat×Int),Kju x O st M a b→Br (decide (Nc x.1<Ln O)) (Tw (Bd (Nc x.1) (Ln O))∧(Jy tk st S O M X Q∧J7z O x∈O)∧Br (Kjj O x a b) ((J3c st M O x∧Iw (J3b x st M O))∧Br (Kjj O x b a) ((J3c st M O x∧Iw (J82 x st M O))∧Z42 x∧∃(y:Nat×Int),Sf a (Sf b (J82 x st M O=y.2∧Kf1 O x y S M X Q tk st))∧Kfo y O st M a b x) (Z42 x∧∃(y:Nat×Int),Sf a (Sf b (J3b x st M O=y.2∧Kf1 O x y S M X Q tk st))∧Kfo y O st M a b x)) (Br (Kjj O x b a) ((J3c st M O x∧Iw (J9e x st M O))∧Z42 x∧∃(y:Nat×Int),Sf a (Sf b (J9e x st M O=y.2∧Kf1 O x y S M X Q tk st))∧Kfo y O st M a b x) (Z42 x∧∃(y:Nat×Int),Sf a (Sf b (x.2=y.2∧Kf1 O x y S M X Q tk st))∧Kfo y O st M a b x))) (x.2=Hj st O M a b))=_).mp ?_
 delta Z42 Z64 Z71 Jt9 Jy Jen Khe Khc Khb Kha Kg9 Kg7 Kg6 Kg4 Kg3 Klz Klv Jr7 Jz0 Jr6 Kf1 Kju Kjj Kfo J7z Ku3 Jzd J3c J9e J3b J82 Br Iw Bd Tw Sf Si Ln Nc B0 Lb E2
 intro hr
 have nO:O.length≤32:=hr.nO
 refine⟨((0:Nat),(0:Int)),Oz,⟨Nat.zero_le _,Oo,rfl⟩,fun(x:Nat×Int) hk=>⟨fun h1=> ?_,fun h1=> ?_⟩⟩
 ·obtain⟨k,n⟩:=x
  have hlt:k<O.length:=by simpa using h1
  have hx:=Je (d:=Kb) hlt
  have hb:=L9 hr hx
  obtain⟨k1,k2,k3⟩:=hk
  rw[J2 (d:=Kb) hlt,Jr4] at k3
  have m1:=hb.money
  have m2:=hb.fine
  have hz:((({data:={toList:=[]}}:ByteArray),({data:={toList:=[]}}:ByteArray),({data:={toList:=[]}}:ByteArray),((0:Int),(0:Int)),(0:Int),(0:Int),(0:Int)):Ord)=Kb:=rfl
  dsimp only at k1 k2 k3
  simp only[hz,Prod.eta]
  generalize O.getD k Kb=y at*
  have k3:Jr4 st M a b (List.drop (k+1) O) (bif Hq y b a then(bif Hq y a b then n+((K6 st M y).2.2.2.2.1-(K6 st M y).2.2.2.2.2) else n)-((K6 st M y).2.2.2.2.1-(K6 st M y).2.2.2.2.2) else(bif Hq y a b then n+((K6 st M y).2.2.2.2.1-(K6 st M y).2.2.2.2.2) else n))=Hj st O M a b:=k3
  refine⟨⟨⟨Oo,Oo⟩,Oo,Oo⟩,⟨hr,hx⟩,fun h2=>⟨⟨⟨Oo,Oo⟩,Oo,Oo⟩,fun h3=>⟨⟨⟨Oo,Oo⟩,Oo,Oo⟩,⟨⟨Oo,Oo⟩,(k+1,n+((K6 st M y).2.2.2.2.1-(K6 st M y).2.2.2.2.2)-((K6 st M y).2.2.2.2.1-(K6 st M y).2.2.2.2.2)),Oe,⟨Om,Om, ?_⟩,Om⟩⟩,fun h3=>⟨⟨Oo,Oo⟩,(k+1,n+((K6 st M y).2.2.2.2.1-(K6 st M y).2.2.2.2.2)),Oe,⟨Om,Om, ?_⟩,Om⟩⟩,fun h2=>⟨fun h3=>⟨⟨⟨Oo,Oo⟩,Oo,Oo⟩,⟨⟨Oo,Oo⟩,(k+1,n-((K6 st M y).2.2.2.2.1-(K6 st M y).2.2.2.2.2)),Oe,⟨Om,Om, ?_⟩,Om⟩⟩,fun h3=>⟨⟨Oo,Oo⟩,(k+1,n),Oe,⟨Om,Om, ?_⟩,Om⟩⟩⟩
  all_goals (have h2:Hq y a b=_:=h2;have h3:Hq y b a=_:=h3;rw[h2,h3] at k3;exact k3)
 ·obtain⟨k,n⟩:=x
  have hlt:¬k<O.length:=by simpa using h1
  obtain⟨k1,k2,k3⟩:=hk
  have:k=O.length:=by omega
  rw[this,List.drop_length,Jr4] at k3
  exact k3
abbrev K5q:=K5r.add Krp
theorem Jy1 {tk st:Int} {S:List Sta} {O:List Ord} {M:List Met} {X:List Out} {Q:List Per} {a b:ByteArray} (hr:Jj (tk,st,S,O,M,X,Q)):∀(l:List Ord) (n:Int),(∀x∈l,x∈O)→n-100000000*l.length≤Jr4 st M a b l n∧Jr4 st M a b l n≤n+100000000*l.length
 |[],n,_=>by simp[Jr4]
 | x :: l, n, h => by
  have hb:=L9 hr (h x (List.mem_cons_self ..))
  have ih:=Jy1 (a:=a) (b:=b) hr l (J7y st M a b x n) fun y hy=>h y (List.mem_cons_of_mem _ hy)
  have m1:=hb.money
  have m2:=hb.fine
  have hd:n-100000000≤J7y st M a b x n∧J7y st M a b x n≤n+100000000:=by
   unfold J7y
   cases Hq x a b<;>cases Hq x b a<;>simp only[cond_true,cond_false]<;>omega
  simp only[List.length_cons]
  unfold Jr4
  omega
theorem Jkw {tk st:Int} {S:List Sta} {O:List Ord} {M:List Met} {X:List Out} {Q:List Per} {a b:ByteArray} (hr:Jj (tk,st,S,O,M,X,Q)): -3200000000≤Hj st O M a b∧Hj st O M a b≤3200000000:=by
 have h:=Jy1 (a:=a) (b:=b) hr O 0 fun _ h=>h
 have nO:O.length≤32:=hr.nO
 unfold Hj
 omega
def Jt3 (st:Int) (O:List Ord) (M:List Met) (s:ByteArray):List Sta→Int→Int
 |[],n=>n
 |x::l,n=>Jt3 st O M s l (bif x.1.toList !=s.toList then n+Hj st O M s x.1 else n)
def Jm8 (st:Int) (S:List Sta) (O:List Ord) (M:List Met) (s:ByteArray):Int:=Jt3 st O M s S 0
def J16:Con:={args:=[Jb4,aS],ress:=[I],owns:=[],pre:=fun(r,_)=>[Jj r],spec:=fun((_,st,S,O,M,_),s,_)=>(Jm8 st S O M s,())}
abbrev Kej (tk st:Int) (S:List Sta) (O:List Ord) (M:List Met) (X:List Out) (Q:List Per) (s:ByteArray):Ann:={X:=Nat×Int,σ:=fun(k,n)=>⟨6,[(1, .one (.str s)),(2, .one (.ptr 5 0)),(5, .one (.int .i64 n)),(9, .one (.sl 0)),(10, .one (.int .i64 S.length)),(11, .one (.int .i64 k))],[(0, .imm 127 Ft S),(1, .imm 130 Lt O),(2, .imm 155 Jaw M),(3, .imm 188 Zw X),(4, .imm 235 Hw Q),(5, .box 105 [.int .i64 tk, .int .i64 st, .sl 0, .sl 1, .sl 2, .sl 3, .sl 4])]⟩,inv:=fun(k,n)=>k≤S.length∧(-3200000000*k≤n∧n≤3200000000*k)∧Jt3 st O M s (S.drop k) n=Jm8 st S O M s,mu:=fun(k,_)=>S.length-k}
def Knq (a:List Sta) (b:Nat×Int):=(List.getD a b.1 Z14).1
def Kjv (a:Nat×Int) (b:List Sta) (c:Int) (d:List Ord) (e:List Met) (f:Bt):=a.1≤List.length b∧((-3200000000)*Nc a.1≤a.2∧a.2≤3200000000*Nc a.1)∧Jt3 c d e f (List.drop a.1 b) a.2=Jm8 c b d e f
def Kwt (a:Nat×Int) (b:List Sta) (c:Int) (d:List Ord) (e:List Met) (f:Bt) (g:Nat×Int):=Kjv a b c d e f∧List.length b-a.1<List.length b-g.1
theorem Kro:Ok Tryz.prog 128 J16:=okW K5q Tryz.f128 (fun xx=>Zn (Kej xx.1.1 xx.1.2.1 xx.1.2.2.1 xx.1.2.2.2.1 xx.1.2.2.2.2.1 xx.1.2.2.2.2.2.1 xx.1.2.2.2.2.2.2 xx.2.1)) fun xx=>by
 obtain⟨⟨(tk:Int),(st:Int),(S:List Sta),(O:List Ord),(M:List Met),(X:List Out),(Q:List Per)⟩,(s:ByteArray),_⟩:=xx
 refine(by kernel_rfl:(Jy tk st S O M X Q→∃(x:Nat×Int),Sf s (0=x.2∧Si (Ln S) (Jz0 x S O M X Q tk st))∧Kjv x S st O M s∧∀(x:Nat×Int),Kjv x S st O M s→Br (decide (Nc x.1<Ln S)) (Tw (Bd (Nc x.1) (Ln S))∧Br (!Lb (Knq S x) s) ((Jy tk st S O M X Q∧Iw (x.2+Hj st O M s (Knq S x)))∧Z42 x∧∃(y:Nat×Int),Sf s (x.2+Hj st O M s (Knq S x)=y.2∧Si (Ln S) (Jr6 x y S O M X Q tk st))∧Kwt y S st O M s x) (Z42 x∧∃(y:Nat×Int),Sf s (x.2=y.2∧Si (Ln S) (Jr6 x y S O M X Q tk st))∧Kwt y S st O M s x)) (x.2=Jm8 st S O M s))=_).mp ?_
 delta Z14 Z42 Z64 Jt9 Jy Knq Jr7 Jz0 Jr6 Kjv Kwt Br Iw Bd Tw Sf Si Ln Nc B0 Lb
 intro hr
 have nS:S.length≤6:=hr.nS
 refine⟨((0:Nat),(0:Int)),Oe,⟨Nat.zero_le _,Oo,rfl⟩,fun(x:Nat×Int) hk=>⟨fun h1=> ?_,fun h1=> ?_⟩⟩
 ·obtain⟨k,n⟩:=x
  have hlt:k<S.length:=by simpa using h1
  obtain⟨k1,k2,k3⟩:=hk
  rw[J2 (d:=X4) hlt,Jt3] at k3
  have hz:((({data:={toList:=[]}}:ByteArray),(0:Int),(0:Int)):Sta)=X4:=rfl
  dsimp only at k1 k2 k3
  simp only[hz,Prod.eta]
  generalize S.getD k X4=y at*
  have hb:=Jkw (a:=s) (b:=y.1) hr
  refine⟨⟨⟨Oo,Oo⟩,Oo,Oo⟩,fun h2=>⟨⟨hr,Oo,Oo⟩,⟨Oo,Oo⟩,(k+1,n+Hj st O M s y.1),Oe,⟨Om,Om, ?_⟩,Om⟩,fun h2=>⟨⟨Oo,Oo⟩,(k+1,n),Oe,⟨Om,Om, ?_⟩,Om⟩⟩
  all_goals (have h2:(y.1.toList !=s.toList)=_:=h2;rw[h2] at k3;exact k3)
 ·obtain⟨k,n⟩:=x
  have hlt:¬k<S.length:=by simpa using h1
  obtain⟨k1,k2,k3⟩:=hk
  have:k=S.length:=by omega
  rw[this,List.drop_length,Jt3] at k3
  exact k3
abbrev K5p:=K5q.add Kro
def Jqy (num den:Int):Int×Int:=(num.tdiv (Nat.gcd num.toNat den.toNat:Nat),den.tdiv (Nat.gcd num.toNat den.toNat:Nat))
def K7q:Con:={args:=[aI,aI],ress:=[(true,La)],owns:=[],pre:=fun(a,b,_)=>[0≤a∧a≤1000000000000,1≤b∧b≤1000000000000],spec:=fun(a,b,_)=>(Jqy a b,())}
abbrev Keg (num den:Int):Ann:={X:=Int×Int,σ:=fun(a,b)=>⟨1,[(0, .one (.int .i64 num)),(1, .one (.int .i64 den)),(4, .one (.ptr 0 0)),(5, .one (.int .i64 a)),(6, .one (.int .i64 b))],[(0, .box 54 [.int .i64 0, .int .i64 0])]⟩,inv:=fun(a,b)=>(0≤a∧a≤1000000000000)∧(0≤b∧b≤1000000000000)∧(a=0→b≠0)∧Nat.gcd a.toNat b.toNat=Nat.gcd num.toNat den.toNat,mu:=fun(_,b)=>b.toNat}
def Z30:=Tw ((0:Int)=0)
def Kjo (a:Int×Int) (b c:Int):=(0≤a.1∧a.1≤1000000000000)∧(0≤a.2∧a.2≤1000000000000)∧(a.1=0→a.2=0→False)∧Nat.gcd (Int.toNat a.1) (Int.toNat a.2)=Nat.gcd (Int.toNat b) (Int.toNat c)
theorem K52:Ok Tryz.prog 99 K7q:=okW K5p Tryz.f99 (fun xx=>Zn (Keg xx.1 xx.2.1)) fun xx=>by
 obtain⟨(num:Int),(den:Int),_⟩:=xx
 refine(by kernel_rfl:(0≤num∧num≤1000000000000→1≤den∧den≤1000000000000→∃(x:Int×Int),Si num (Si den (num=x.1∧den=x.2∧Z30))∧Kjo x num den∧∀(x:Int×Int),Kjo x num den→Br (x.2 !=0) ((x.2=0→False)∧∃(y:Int×Int),Si num (Si den (x.2=y.1∧Int.tmod x.1 x.2=y.2∧Z30))∧Kjo y num den∧Int.toNat y.2<Int.toNat x.2) (((x.1=0→False)∧Iw (Int.tdiv num x.1)∧(x.1=0→False)∧Iw (Int.tdiv den x.1))∧(Int.tdiv num x.1,Int.tdiv den x.1)=Jqy num den))=_).mp ?_
 delta Z30 Kjo Br Iw Tw Si
 intro h1' h2
 refine⟨(num,den),Oe,⟨h1',Om,Om,rfl⟩,fun(x:Int×Int) hk=>⟨fun h1=> ?_,fun h1=> ?_⟩⟩
 ·obtain⟨a,b⟩:=x
  obtain⟨k1,k2,k3,k4⟩:=hk
  dsimp only at k1 k2 k3 k4 h1
  have hb:b≠0:=bne_iff_ne.1 h1
  obtain⟨A,rfl⟩:=Int.eq_ofNat_of_zero_le k1.1
  obtain⟨B,rfl⟩:=Int.eq_ofNat_of_zero_le k2.1
  have hB:0<B:=by omega
  have hm:=Nat.mod_lt A hB
  have e:((A:Int).tmod (B:Int))=((A %B:Nat):Int):=(Int.ofNat_tmod A B).symm
  refine⟨hb,((B:Int),((A %B:Nat):Int)),⟨rfl,rfl,rfl,e,rfl,rfl⟩,⟨Om,Om,fun h=>(by dsimp only at h;omega), ?_⟩, ?_⟩
  ·rw[←k4]
   simp only[Int.toNat_natCast]
   rw[Nat.gcd_comm A B,Nat.gcd_rec B A,Nat.gcd_comm]
  ·simp only[Int.toNat_natCast]
   exact hm
 ·obtain⟨a,b⟩:=x
  obtain⟨k1,k2,k3,k4⟩:=hk
  dsimp only at k1 k2 k3 k4 h1
  have hb:b=0:=by simpa using h1
  subst hb
  have ha:a≠0:=fun h=>k3 h rfl
  have hg:(Nat.gcd num.toNat den.toNat:Int)=a:=by rw[←k4];simp;omega
  have d1:0≤num.tdiv a:=Int.tdiv_nonneg h1'.1 k1.1
  have d2:num.tdiv a≤num:=Int.tdiv_le_self _ h1'.1
  have d3:0≤den.tdiv a:=Int.tdiv_nonneg Oo k1.1
  have d4:den.tdiv a≤den:=Int.tdiv_le_self _ Oo
  refine⟨⟨ha,⟨Om,Om⟩,ha,Om,Om⟩, ?_⟩
  unfold Jqy
  rw[hg]
abbrev K5o:=K5p.add K52
abbrev Kb7:Sch:= .prod .str (.prod sI .bool)
abbrev Frm:=ByteArray×Int×Bool
def Hd (k:ByteArray):Frm:=
 bif k.toList==Jw.toList then(⟨⟨[83]⟩⟩,2,true) else
 bif k.toList==Uf.toList then(⟨⟨[115]⟩⟩,2,true) else
 bif k.toList==Ki.toList then(⟨⟨[79,115,115]⟩⟩,4,true) else
 bif k.toList==K9.toList then(⟨⟨[111]⟩⟩,4,true) else
 bif k.toList==V2.toList then(⟨⟨[111]⟩⟩,1,true) else
 bif k.toList==Js.toList then(⟨⟨[88,115]⟩⟩,4,true) else
 bif k.toList==Jt.toList then(⟨⟨[120]⟩⟩,1,true) else
 bif k.toList==Kg.toList then(⟨⟨[80,120]⟩⟩,1,true) else
 bif k.toList==Kf.toList then(⟨⟨[112]⟩⟩,1,true) else
 bif k.toList==Jk.toList then(⟨⟨[]⟩⟩,2,true) else
 bif k.toList==Ju.toList then(⟨⟨[]⟩⟩,0,true) else
 (Ja,0,false)
def Ks3:Con:={args:=[aS],ress:=[(true,Kb7)],owns:=[],pre:=fun _=>[],spec:=fun(k,_)=>(Hd k,())}
theorem Kcl:Ok Tryz.prog 110 Ks3:=okW K5o Tryz.f110 na fun xx=>by
 obtain⟨(k:ByteArray),_⟩:=xx
 refine(by kernel_rfl:(Br (Lb k Jw) ((ByteArray.mk (Array.mk [83]),2,true)=Hd k) (Br (Lb k Uf) ((ByteArray.mk (Array.mk [115]),2,true)=Hd k) (Br (Lb k Ki) ((ByteArray.mk (Array.mk [79,115,115]),4,true)=Hd k) (Br (Lb k K9) ((ByteArray.mk (Array.mk [111]),4,true)=Hd k) (Br (Lb k V2) ((ByteArray.mk (Array.mk [111]),1,true)=Hd k) (Br (Lb k Js) ((ByteArray.mk (Array.mk [88,115]),4,true)=Hd k) (Br (Lb k Jt) ((ByteArray.mk (Array.mk [120]),1,true)=Hd k) (Br (Lb k Kg) ((ByteArray.mk (Array.mk [80,120]),1,true)=Hd k) (Br (Lb k Kf) ((ByteArray.mk (Array.mk [112]),1,true)=Hd k) (Br (Lb k Jk) ((B0,2,true)=Hd k) (Br (Lb k Ju) ((B0,0,true)=Hd k) ((B0,0,false)=Hd k))))))))))))=_).mp ?_
 delta Br B0 Lb K9 Ki Js Kg Uf Jt Kf Jk Jw V2 Ju
 unfold Hd
 repeat' first|(refine⟨fun h=> ?_,fun h=> ?_⟩)|(rw[h];clear h)
 all_goals rfl
abbrev K9i:=K5o.add Kcl
abbrev K5n:=K9i
abbrev Jlu:Sch:= .prod sI (.prod sI (.prod (.list 114 Ft) (.prod (.list 119 Lt) (.prod (.list 121 Jaw) (.prod (.list 123 Zw) (.list 125 Hw))))))
abbrev Hk:AK:= .val true Jlu
def Kte:Con:={args:=[Hk,aS],ress:=[I],owns:=[],pre:=fun((_,_,L,_),_)=>[L.length≤1000000],spec:=fun((_,_,L,_),s,_)=>(Jn L s,())}
abbrev J7v (tk st:Int) (S:List Sta) (O:List Ord) (M:List Met) (X:List Out) (Q:List Per) (s:ByteArray):Ann:={X:=Nat,σ:=fun k=>⟨6,[(1, .one (.str s)),(2, .one (.ptr 5 0)),(5, .one (.int .i64 k))],[(0, .imm 114 Ft S),(1, .imm 119 Lt O),(2, .imm 121 Jaw M),(3, .imm 123 Zw X),(4, .imm 125 Hw Q),(5, .box 37 [.int .i64 tk, .int .i64 st, .sl 0, .sl 1, .sl 2, .sl 3, .sl 4])]⟩,inv:=fun k=>k≤S.length∧Jn S s=Vx (fun x=>x.1.toList==s.toList) (S.drop k) k,mu:=fun k=>S.length-k}
def Kl9 (a:Nat) (b:List Sta) (c:Bt):=a≤List.length b∧Jn b c=Vx (fun(x:Sta)=>Lb x.1 c) (List.drop a b) a
def Jzz (a:Bt) (b:Nat) (c:List Sta) (d:List Ord) (e:List Met) (f:List Out) (g:List Per) (h i:Int):=Sf a (0=Nc b∧Jr7 c d e f g h i)
def Jzy (a:Bt) (b c:Nat) (d:List Sta) (e:List Ord) (f:List Met) (g:List Out) (h:List Per) (i j:Int):=Sf a (Z96 b c∧Jr7 d e f g h i j)
theorem K67:Ok Tryz.prog 21 Kte:=okW K5n Tryz.f21 (fun xx=>Zn (J7v xx.1.1 xx.1.2.1 xx.1.2.2.1 xx.1.2.2.2.1 xx.1.2.2.2.2.1 xx.1.2.2.2.2.2.1 xx.1.2.2.2.2.2.2 xx.2.1)) fun xx=>by
 obtain⟨⟨(tk:Int),(st:Int),(S:List Sta),(O:List Ord),(M:List Met),(X:List Out),(Q:List Per)⟩,(s:ByteArray),_⟩:=xx
 refine(by kernel_rfl:(Z59 S→∃(x:Nat),Jzz s x S O M X Q tk st∧Kl9 x S s∧∀(x:Nat),Kl9 x S s→Br (decide (Nc x<Ln S)) (Tw (Bd (Nc x) (Ln S))∧Br (Lb (List.getD S x Z14).1 s) (Nc x=Jn S s) (Z17 x∧∃(y:Nat),Jzy s x y S O M X Q tk st∧Kl9 y S s∧List.length S-y<List.length S-x)) (Z69=Jn S s))=_).mp ?_
 delta Z14 Z17 Z59 Z69 Z96 Kl9 Jr7 Jzz Jzy Br Iw Bd Tw Sf Si Ln Nc B0 Lb
 intro hb
 refine⟨(0:Nat),Oe,⟨Nat.zero_le _,rfl⟩,fun(k:Nat) hk=>⟨fun h=> ?_,fun h=> ?_⟩⟩
 ·have hlt:k<S.length:=by simpa using h
  have hd:=Ym (p:=fun x=>x.1.toList==s.toList) (d:=X4) hlt
  refine⟨Oo,fun h1=> ?_,fun h1=>⟨Oo,(k+1:Nat),Oe,⟨Oo, ?_⟩,Oo⟩⟩
  ·rw[hk.2,hd,if_pos (show((S.getD k X4).1.toList==s.toList)=true from h1)]
  ·rw[hk.2,hd,if_neg (by rw[show((S.getD k X4).1.toList==s.toList)=false from h1];simp)]
 ·have hlt:¬k<S.length:=by simpa using h
  have:k=S.length:=by omega
  rw[hk.2,this,List.drop_length];rfl
abbrev K5m:=K5n.add K67
def Ktd:Con:={args:=[Hk,aS],ress:=[I],owns:=[],pre:=fun((_,_,_,L,_),_)=>[L.length≤1000000],spec:=fun((_,_,_,L,_),s,_)=>(Kd L s,())}
abbrev J7u (tk st:Int) (S:List Sta) (O:List Ord) (M:List Met) (X:List Out) (Q:List Per) (s:ByteArray):Ann:={X:=Nat,σ:=fun k=>⟨6,[(1, .one (.str s)),(2, .one (.ptr 5 0)),(5, .one (.int .i64 k))],[(0, .imm 114 Ft S),(1, .imm 119 Lt O),(2, .imm 121 Jaw M),(3, .imm 123 Zw X),(4, .imm 125 Hw Q),(5, .box 37 [.int .i64 tk, .int .i64 st, .sl 0, .sl 1, .sl 2, .sl 3, .sl 4])]⟩,inv:=fun k=>k≤O.length∧Kd O s=Vx (fun x=>x.1.toList==s.toList) (O.drop k) k,mu:=fun k=>O.length-k}
def Kmc (a:Nat) (b:List Ord) (c:Bt):=a≤List.length b∧Kd b c=Vx (fun(x:Ord)=>Lb x.1 c) (List.drop a b) a
theorem K6c:Ok Tryz.prog 86 Ktd:=okW K5m Tryz.f86 (fun xx=>Zn (J7u xx.1.1 xx.1.2.1 xx.1.2.2.1 xx.1.2.2.2.1 xx.1.2.2.2.2.1 xx.1.2.2.2.2.2.1 xx.1.2.2.2.2.2.2 xx.2.1)) fun xx=>by
 obtain⟨⟨(tk:Int),(st:Int),(S:List Sta),(O:List Ord),(M:List Met),(X:List Out),(Q:List Per)⟩,(s:ByteArray),_⟩:=xx
 refine(by kernel_rfl:(Z55 O→∃(x:Nat),Jzz s x S O M X Q tk st∧Kmc x O s∧∀(x:Nat),Kmc x O s→Br (decide (Nc x<Ln O)) (Tw (Bd (Nc x) (Ln O))∧Br (Lb (Khd O x) s) (Nc x=Kd O s) (Z17 x∧∃(y:Nat),Jzy s x y S O M X Q tk st∧Kmc y O s∧List.length O-y<List.length O-x)) (Z69=Kd O s))=_).mp ?_
 delta Z17 Z55 Z69 Z71 Z96 Jen Khf Khd Kmc Jr7 Jzz Jzy Br Iw Bd Tw Sf Si Ln Nc B0 Lb
 intro hb
 refine⟨(0:Nat),Oe,⟨Nat.zero_le _,rfl⟩,fun(k:Nat) hk=>⟨fun h=> ?_,fun h=> ?_⟩⟩
 ·have hlt:k<O.length:=by simpa using h
  have hd:=Ym (p:=fun x=>x.1.toList==s.toList) (d:=Kb) hlt
  refine⟨Oo,fun h1=> ?_,fun h1=>⟨Oo,(k+1:Nat),Oe,⟨Oo, ?_⟩,Oo⟩⟩
  ·rw[hk.2,hd,if_pos (show((O.getD k Kb).1.toList==s.toList)=true from h1)]
  ·rw[hk.2,hd,if_neg (by rw[show((O.getD k Kb).1.toList==s.toList)=false from h1];simp)]
 ·have hlt:¬k<O.length:=by simpa using h
  have:k=O.length:=by omega
  rw[hk.2,this,List.drop_length];rfl
abbrev K5l:=K5m.add K6c
def Ktc:Con:={args:=[Hk,aS],ress:=[I],owns:=[],pre:=fun((_,_,_,_,_,L,_),_)=>[L.length≤1000000],spec:=fun((_,_,_,_,_,L,_),s,_)=>(J6 L s,())}
abbrev J7t (tk st:Int) (S:List Sta) (O:List Ord) (M:List Met) (X:List Out) (Q:List Per) (s:ByteArray):Ann:={X:=Nat,σ:=fun k=>⟨6,[(1, .one (.str s)),(2, .one (.ptr 5 0)),(5, .one (.int .i64 k))],[(0, .imm 114 Ft S),(1, .imm 119 Lt O),(2, .imm 121 Jaw M),(3, .imm 123 Zw X),(4, .imm 125 Hw Q),(5, .box 37 [.int .i64 tk, .int .i64 st, .sl 0, .sl 1, .sl 2, .sl 3, .sl 4])]⟩,inv:=fun k=>k≤X.length∧J6 X s=Vx (fun x=>x.1.toList==s.toList) (X.drop k) k,mu:=fun k=>X.length-k}
def Kl8 (a:Nat) (b:List Out) (c:Bt):=a≤List.length b∧J6 b c=Vx (fun(x:Out)=>Lb x.1 c) (List.drop a b) a
theorem K6b:Ok Tryz.prog 87 Ktc:=okW K5l Tryz.f87 (fun xx=>Zn (J7t xx.1.1 xx.1.2.1 xx.1.2.2.1 xx.1.2.2.2.1 xx.1.2.2.2.2.1 xx.1.2.2.2.2.2.1 xx.1.2.2.2.2.2.2 xx.2.1)) fun xx=>by
 obtain⟨⟨(tk:Int),(st:Int),(S:List Sta),(O:List Ord),(M:List Met),(X:List Out),(Q:List Per)⟩,(s:ByteArray),_⟩:=xx
 refine(by kernel_rfl:(Z47 X→∃(x:Nat),Jzz s x S O M X Q tk st∧Kl8 x X s∧∀(x:Nat),Kl8 x X s→Br (Z87 x X) (Tw (Z19 x X)∧Br (Lb (J2x X x) s) (Nc x=J6 X s) (Z17 x∧∃(y:Nat),Jzy s x y S O M X Q tk st∧Kl8 y X s∧Jz6 X y x)) (Z69=J6 X s))=_).mp ?_
 delta Z17 Z19 Z47 Z69 Z87 Z96 Jg8 Jz6 J2y J2x Kl8 Jr7 Jzz Jzy Br Iw Bd Tw Sf Si Ln Nc B0 Lb
 intro hb
 refine⟨(0:Nat),Oe,⟨Nat.zero_le _,rfl⟩,fun(k:Nat) hk=>⟨fun h=> ?_,fun h=> ?_⟩⟩
 ·have hlt:k<X.length:=by simpa using h
  have hd:=Ym (p:=fun x=>x.1.toList==s.toList) (d:=Jax) hlt
  refine⟨Oo,fun h1=> ?_,fun h1=>⟨Oo,(k+1:Nat),Oe,⟨Oo, ?_⟩,Oo⟩⟩
  ·rw[hk.2,hd,if_pos (show((X.getD k Jax).1.toList==s.toList)=true from h1)]
  ·rw[hk.2,hd,if_neg (by rw[show((X.getD k Jax).1.toList==s.toList)=false from h1];simp)]
 ·have hlt:¬k<X.length:=by simpa using h
  have:k=X.length:=by omega
  rw[hk.2,this,List.drop_length];rfl
abbrev K5k:=K5l.add K6b
def Ktb:Con:={args:=[Hk,aS],ress:=[I],owns:=[],pre:=fun((_,_,_,_,_,_,L),_)=>[L.length≤1000000],spec:=fun((_,_,_,_,_,_,L),s,_)=>(Va L s,())}
abbrev J7s (tk st:Int) (S:List Sta) (O:List Ord) (M:List Met) (X:List Out) (Q:List Per) (s:ByteArray):Ann:={X:=Nat,σ:=fun k=>⟨6,[(1, .one (.str s)),(2, .one (.ptr 5 0)),(5, .one (.int .i64 k))],[(0, .imm 114 Ft S),(1, .imm 119 Lt O),(2, .imm 121 Jaw M),(3, .imm 123 Zw X),(4, .imm 125 Hw Q),(5, .box 37 [.int .i64 tk, .int .i64 st, .sl 0, .sl 1, .sl 2, .sl 3, .sl 4])]⟩,inv:=fun k=>k≤Q.length∧Va Q s=Vx (fun x=>x.1.toList==s.toList) (Q.drop k) k,mu:=fun k=>Q.length-k}
def Kl7 (a:Nat) (b:List Per) (c:Bt):=a≤List.length b∧Va b c=Vx (fun(x:Per)=>Lb x.1 c) (List.drop a b) a
theorem K6a:Ok Tryz.prog 88 Ktb:=okW K5k Tryz.f88 (fun xx=>Zn (J7s xx.1.1 xx.1.2.1 xx.1.2.2.1 xx.1.2.2.2.1 xx.1.2.2.2.2.1 xx.1.2.2.2.2.2.1 xx.1.2.2.2.2.2.2 xx.2.1)) fun xx=>by
 obtain⟨⟨(tk:Int),(st:Int),(S:List Sta),(O:List Ord),(M:List Met),(X:List Out),(Q:List Per)⟩,(s:ByteArray),_⟩:=xx
 refine(by kernel_rfl:(Z49 Q→∃(x:Nat),Jzz s x S O M X Q tk st∧Kl7 x Q s∧∀(x:Nat),Kl7 x Q s→Br (J0c x Q) (Tw (Bd (Nc x) (Ln Q))∧Br (Lb (List.getD Q x (B0,B0,false)).1 s) (Nc x=Va Q s) (Z17 x∧∃(y:Nat),Jzy s x y S O M X Q tk st∧Kl7 y Q s∧J21 Q y x)) (Z69=Va Q s))=_).mp ?_
 delta Z17 Z49 Z69 Z96 J0c J21 Kl7 Jr7 Jzz Jzy Br Iw Bd Tw Sf Si Ln Nc B0 Lb
 intro hb
 refine⟨(0:Nat),Oe,⟨Nat.zero_le _,rfl⟩,fun(k:Nat) hk=>⟨fun h=> ?_,fun h=> ?_⟩⟩
 ·have hlt:k<Q.length:=by simpa using h
  have hd:=Ym (p:=fun x=>x.1.toList==s.toList) (d:=Jjo) hlt
  refine⟨Oo,fun h1=> ?_,fun h1=>⟨Oo,(k+1:Nat),Oe,⟨Oo, ?_⟩,Oo⟩⟩
  ·rw[hk.2,hd,if_pos (show((Q.getD k Jjo).1.toList==s.toList)=true from h1)]
  ·rw[hk.2,hd,if_neg (by rw[show((Q.getD k Jjo).1.toList==s.toList)=false from h1];simp)]
 ·have hlt:¬k<Q.length:=by simpa using h
  have:k=Q.length:=by omega
  rw[hk.2,this,List.drop_length];rfl
abbrev K5j:=K5k.add K6a
def atS (r:Reg) (c:Int) (s:ByteArray):Int:=bif c==115 then Jn r.2.2.1 s else bif c==111 then Kd r.2.2.2.1 s else bif c==120 then J6 r.2.2.2.2.2.1 s else Va r.2.2.2.2.2.2 s
def cAt:Con:={args:=[Hk, .val false (.int .u8),aS],ress:=[I],owns:=[],pre:=fun(r,_)=>[Jj r],spec:=fun(r,c,s,_)=>(atS r c s,())}
theorem Kp6:Ok Tryz.prog 192 cAt:=okW K5j Tryz.f192 na fun xx=>by
 obtain⟨⟨(tk:Int),(st:Int),(S:List Sta),(O:List Ord),(M:List Met),(X:List Out),(Q:List Per)⟩,(c:Int),(s:ByteArray),_⟩:=xx
 refine(by kernel_rfl:(Jy tk st S O M X Q→Br (c==115) (Z59 S∧Jn S s=atS (Z64 tk st S O M X Q) c s) (Br (c==111) (Z55 O∧Kd O s=atS (Z64 tk st S O M X Q) c s) (Br (c==120) (Z47 X∧J6 X s=atS (Z64 tk st S O M X Q) c s) (Z49 Q∧Va Q s=atS (Z64 tk st S O M X Q) c s))))=_).mp ?_
 delta Z47 Z49 Z55 Z59 Z64 Jy Br
 intro hr
 have nS:S.length≤6:=hr.nS
 have nO:O.length≤32:=hr.nO
 have nX:X.length≤16:=hr.nX
 have nQ:Q.length≤16:=hr.nQ
 unfold atS
 repeat' first|(refine⟨fun h=> ?_,fun h=> ?_⟩)|(rw[h];clear h)
 all_goals exact⟨Oo,rfl⟩
abbrev K5i:=K5j.add Kp6
theorem Kqd:Ok Tryz.prog 181 Jxu:=okW K5i Tryz.f181 na fun xx=>by
 obtain⟨⟨(a:Int),(b:Int)⟩,(h:Int),_⟩:=xx
 refine(by kernel_rfl:((bif decide (a≤h) then decide (h<b) else false)=Kk (a,b) h)=_).mp ?_
 rfl
abbrev K5h:=K5i.add Kqd
def Jt1:Con:={args:=[.val true Lt,aI],ress:=[Bo],owns:=[],pre:=fun(x,_)=>[-1≤x.2.2.2.2.2.2],spec:=fun(x,h,_)=>(Jh x h,())}
theorem Kr3:Ok Tryz.prog 103 Jt1:=okW K5h Tryz.f103 na fun xx=>by
 obtain⟨⟨(n:ByteArray),(f:ByteArray),(t:ByteArray),⟨(a:Int),(b:Int)⟩,(p:Int),(c:Int),(r:Int)⟩,(h:Int),_⟩:=xx
 refine(by kernel_rfl:(Z69≤r→(bif Kk (a,b) h then bif decide (r<0) then true else decide (h<r) else false)=Jh (n,f,t,(a,b),p,c,r) h)=_).mp ?_
 delta Z69
 intro hr
 unfold Jh
 have:(r== -1)=decide (r<0):=by
  by_cases q:r= -1
  ·rw[q];rfl
  ·rw[beq_eq_false_iff_ne.2 q,decide_eq_false Om]
 dsimp only
 rw[this]
abbrev K5g:=K5h.add Kr3
def K7y:Con:={args:=[Hk,aS,aI],ress:=[I],owns:=[],pre:=fun(r,s,_)=>[Jj r,0≤Jn r.2.2.1 s],spec:=fun((_,_,S,_,_,X,_),s,h,_)=>(L8 X s h (Yi S s).2.1,())}
abbrev Kei (tk st:Int) (S:List Sta) (O:List Ord) (M:List Met) (X:List Out) (Q:List Per) (s:ByteArray) (h:Int):Ann:={X:=Nat×Int,σ:=fun(k,n)=>⟨6,[(1, .one (.str s)),(2, .one (.int .i64 h)),(3, .one (.ptr 5 0)),(7, .one (.int .i64 n)),(8, .one (.int .i64 k))],[(0, .imm 114 Ft S),(1, .imm 119 Lt O),(2, .imm 121 Jaw M),(3, .imm 123 Zw X),(4, .imm 125 Hw Q),(5, .box 37 [.int .i64 tk, .int .i64 st, .sl 0, .sl 1, .sl 2, .sl 3, .sl 4])]⟩,inv:=fun(k,n)=>k≤X.length∧L8 (X.drop k) s h n=L8 X s h (Yi S s).2.1,mu:=fun(k,_)=>X.length-k}
def Klx (a:Nat×Int) (b:List Out) (c:Bt) (d:Int) (e:List Sta):=a.1≤List.length b∧L8 (List.drop a.1 b) c d a.2=L8 b c d (Yi e c).2.1
def Kyt (a:Nat×Int) (b:List Out) (c:Bt) (d:Int) (e:List Sta) (f:Nat×Int):=Klx a b c d e∧List.length b-a.1<List.length b-f.1
theorem Kr6:Ok Tryz.prog 100 K7y:=okW K5g Tryz.f100 (fun xx=>Zn (Kei xx.1.1 xx.1.2.1 xx.1.2.2.1 xx.1.2.2.2.1 xx.1.2.2.2.2.1 xx.1.2.2.2.2.2.1 xx.1.2.2.2.2.2.2 xx.2.1 xx.2.2.1)) fun xx=>by
 obtain⟨⟨(tk:Int),(st:Int),(S:List Sta),(O:List Ord),(M:List Met),(X:List Out),(Q:List Per)⟩,(s:ByteArray),(h:Int),_⟩:=xx
 refine(by kernel_rfl:(Jy tk st S O M X Q→Z24 S s→(Z59 S∧Tw (Bd (Jn S s) (Ln S)))∧∃(x:Nat×Int),Sf s (Si h ((Kht S s).2.1=x.2∧Jz0 x S O M X Q tk st))∧Klx x X s h S∧∀(x:Nat×Int),Klx x X s h S→Br (decide (Nc x.1<Ln X)) (Tw (Bd (Nc x.1) (Ln X))∧Br (bif bif Lb (Ka6 X x).1 s then Kk (Km0 X x) h else false then decide (Ka1 X x<x.2) else false) (Z42 x∧∃(y:Nat×Int),Sf s (Si h (Ka1 X x=y.2∧Jr6 x y S O M X Q tk st))∧Kyt y X s h S x) (Z42 x∧∃(y:Nat×Int),Sf s (Si h (x.2=y.2∧Jr6 x y S O M X Q tk st))∧Kyt y X s h S x)) (x.2=L8 X s h (Yi S s).2.1))=_).mp ?_
 delta Z14 Z24 Z42 Z59 Z64 Jt9 Jy Jg8 Kht Ka6 Ka1 Km0 Klx Jr7 Jz0 Kyt Jr6 Br Iw Bd Tw Sf Si Ln Nc Gt B0 Lb E2
 intro hr hf
 have nS:S.length≤6:=hr.nS
 have nX:X.length≤16:=hr.nX
 have hl:=Kt (l:=S) (s:=s)
 refine⟨⟨Oo,⟨hf,hl⟩,hf,hl⟩,((0:Nat),(Yi S s).2.1),Oe,⟨Nat.zero_le _,rfl⟩,fun(x:Nat×Int) hk=>⟨fun h1=> ?_,fun h1=> ?_⟩⟩
 ·obtain⟨k,n⟩:=x
  have hlt:k<X.length:=by simpa using h1
  obtain⟨k1,k2⟩:=hk
  rw[J2 (d:=Jax) hlt,L8] at k2
  have hz:((({data:={toList:=[]}}:ByteArray),({data:={toList:=[]}}:ByteArray),((0:Int),(0:Int)),(0:Int)):Out)=Jax:=rfl
  dsimp only at k1 k2
  simp only[hz,Prod.eta]
  generalize X.getD k Jax=y at*
  have hc:(bif bif bif y.2.1.toList==s.toList then Kk y.2.2.1 h else false then decide (y.2.2.2<n) else false then y.2.2.2 else n)=bif Jff y s h then min n y.2.2.2 else n:=by
   unfold Jff
   cases bif y.2.1.toList==s.toList then Kk y.2.2.1 h else false
   ·rfl
   ·by_cases q:y.2.2.2<n
    ·simp only[cond_true,decide_eq_true q];omega
    ·simp only[cond_true,decide_eq_false q,cond_false];omega
  refine⟨⟨⟨Oo,Oo⟩,Oo,Oo⟩,fun h2=>⟨⟨Oo,Oo⟩,(k+1,y.2.2.2),Oe,⟨Om, ?_⟩,Om⟩,fun h2=>⟨⟨Oo,Oo⟩,(k+1,n),Oe,⟨Om, ?_⟩,Om⟩⟩
  all_goals (rw[←hc] at k2;have h2:(bif bif y.2.1.toList==s.toList then Kk y.2.2.1 h else false then decide (y.2.2.2<n) else false)=_:=h2;rw[h2] at k2;exact k2)
 ·obtain⟨k,n⟩:=x
  have hlt:¬k<X.length:=by simpa using h1
  obtain⟨k1,k2⟩:=hk
  have:k=X.length:=by omega
  rw[this,List.drop_length,L8] at k2
  exact k2
abbrev K5f:=K5g.add Kr6
def J13:Con:={args:=[Hk,aS,aI],ress:=[I],owns:=[],pre:=fun(r,_)=>[Jj r],spec:=fun((_,_,_,O,_),s,h,_)=>(K5 O s h,())}
abbrev Jt5 (tk st:Int) (S:List Sta) (O:List Ord) (M:List Met) (X:List Out) (Q:List Per) (s:ByteArray) (h:Int):Ann:={X:=Nat×Int,σ:=fun(k,n)=>⟨6,[(1, .one (.str s)),(2, .one (.int .i64 h)),(3, .one (.ptr 5 0)),(7, .one (.int .i64 n)),(8, .one (.int .i64 k))],[(0, .imm 114 Ft S),(1, .imm 119 Lt O),(2, .imm 121 Jaw M),(3, .imm 123 Zw X),(4, .imm 125 Hw Q),(5, .box 37 [.int .i64 tk, .int .i64 st, .sl 0, .sl 1, .sl 2, .sl 3, .sl 4])]⟩,inv:=fun(k,n)=>k≤O.length∧(0≤n∧n≤1000*k)∧n+K5 (O.drop k) s h=K5 O s h,mu:=fun(k,_)=>O.length-k}
def Kkk (a:Nat×Int) (b:List Ord) (c:Bt) (d:Int):=a.1≤List.length b∧(0≤a.2∧a.2≤1000*Nc a.1)∧a.2+K5 (List.drop a.1 b) c d=K5 b c d
def Kxf (a:Nat×Int) (b:List Ord) (c:Bt) (d:Int) (e:Nat×Int):=Kkk a b c d∧List.length b-a.1<List.length b-e.1
def Kwy (a:List Ord) (b:Nat×Int) (c:Bt):=bif Klz a b c then true else Klv a b c
theorem Kr5:Ok Tryz.prog 101 J13:=okW K5f Tryz.f101 (fun xx=>Zn (Jt5 xx.1.1 xx.1.2.1 xx.1.2.2.1 xx.1.2.2.2.1 xx.1.2.2.2.2.1 xx.1.2.2.2.2.2.1 xx.1.2.2.2.2.2.2 xx.2.1 xx.2.2.1)) fun xx=>by
 obtain⟨⟨(tk:Int),(st:Int),(S:List Sta),(O:List Ord),(M:List Met),(X:List Out),(Q:List Per)⟩,(s:ByteArray),(h:Int),_⟩:=xx
 refine(by kernel_rfl:(Jy tk st S O M X Q→∃(x:Nat×Int),Sf s (Si h (0=x.2∧Jz0 x S O M X Q tk st))∧Kkk x O s h∧∀(x:Nat×Int),Kkk x O s h→Br (decide (Nc x.1<Ln O)) (Tw (Bd (Nc x.1) (Ln O))∧(Kwy O x s=true→Z69≤(Kg4 O x).2)∧Br (bif Kwy O x s then Kiu O x h else false) (Kli x O∧Z42 x∧∃(y:Nat×Int),Sf s (Si h (Klg x O y∧Jr6 x y S O M X Q tk st))∧Kxf y O s h x) (Z42 x∧∃(y:Nat×Int),Sf s (Si h (x.2=y.2∧Jr6 x y S O M X Q tk st))∧Kxf y O s h x)) (x.2=K5 O s h))=_).mp ?_
 delta Z42 Z64 Z69 Z71 Jt9 Jy Jen Khe Khc Khb Kha Kg9 Kg7 Kg6 Kg4 Kg3 Klz Klv Klo Kli Klg Jr7 Jz0 Kkk Jr6 Kxf Kwy J7z Kiu Br Iw Bd Tw Sf Si Ln Nc B0 Lb E2
 intro hr
 have nO:O.length≤32:=hr.nO
 refine⟨((0:Nat),(0:Int)),Oe,⟨Nat.zero_le _,Oo,by simp⟩,fun(x:Nat×Int) hk=>⟨fun h1=> ?_,fun h1=> ?_⟩⟩
 ·obtain⟨k,n⟩:=x
  have hlt:k<O.length:=by simpa using h1
  obtain⟨k1,k2,k3⟩:=hk
  have hO:=hr.ord _ (Je (d:=Kb) hlt)
  rw[J2 (d:=Kb) hlt,K5] at k3
  have hz:((({data:={toList:=[]}}:ByteArray),({data:={toList:=[]}}:ByteArray),({data:={toList:=[]}}:ByteArray),((0:Int),(0:Int)),(0:Int),(0:Int),(0:Int)):Ord)=Kb:=rfl
  dsimp only at k1 k2 k3
  simp only[hz,Prod.eta]
  generalize O.getD k Kb=y at*
  have hp:=hO.pow
  have ht:=hO.trip
  refine⟨⟨⟨Oo,Oo⟩,Oo,Oo⟩,fun _=>Oo,fun h2=>⟨⟨Oo,Oo⟩,⟨Oo,Oo⟩,(k+1,n+y.2.2.2.2.1),Oe,⟨Om,Om, ?_⟩,Om⟩,fun h2=>⟨⟨Oo,Oo⟩,(k+1,n),Oe,⟨Om,Om, ?_⟩,Om⟩⟩
  all_goals (have h2:(bif Yg y s then Jh y h else false)=_:=h2;rw[h2] at k3;simp only[cond_true,cond_false] at k3;exact Om)
 ·obtain⟨k,n⟩:=x
  have hlt:¬k<O.length:=by simpa using h1
  obtain⟨k1,k2,k3⟩:=hk
  have:k=O.length:=by omega
  rw[this,List.drop_length,K5] at k3
  exact(Int.add_zero n).symm.trans k3
abbrev K5e:=K5f.add Kr5
def J6q:Con:={args:=[Hk,aS,aI],ress:=[I],owns:=[],pre:=fun(r,s,_)=>[Jj r,0≤Jn r.2.2.1 s],spec:=fun((_,_,S,O,_,X,_),s,h,_)=>(Uz S O X s h,())}
theorem Jxr {S:List Sta} {s:ByteArray} {h:Int}:∀{X:List Out} {n:Int},(∀x∈X,Jpv S x)→0≤n∧n≤1000→0≤L8 X s h n∧L8 X s h n≤1000
 |[],_,_,hn=>hn
 |x::l,n,hX,hn=>by
  have hx:=(hX x (List.mem_cons_self ..)).rest
  unfold L8
  refine Jxr (fun y hy=>hX y (List.mem_cons_of_mem _ hy)) ?_
  cases Jff x s h<;>simp only[cond_true,cond_false]<;>omega
theorem K64:Ok Tryz.prog 28 J6q:=okW K5e Tryz.f28 na fun xx=>by
 obtain⟨⟨(tk:Int),(st:Int),(S:List Sta),(O:List Ord),(M:List Met),(X:List Out),(Q:List Per)⟩,(s:ByteArray),(h:Int),_⟩:=xx
 refine(by kernel_rfl:(Jy tk st S O M X Q→Z24 S s→(Jy tk st S O M X Q∧Z24 S s∧Jy tk st S O M X Q∧Iw (L8 X s h (Yi S s).2.1-K5 O s h))∧L8 X s h (Yi S s).2.1-K5 O s h=Uz S O X s h)=_).mp ?_
 delta Z24 Z64 Jy Iw
 intro hr hf
 have h1:=Jjc hr.sta hf
 have h2:=Jxr (s:=s) (h:=h) hr.out (n:=(Yi S s).2.1) ⟨Int.le_trans Od h1.lim.1,h1.lim.2⟩
 have h3:=Jj4 (s:=s) (h:=h) hr.ord
 have nO:O.length≤32:=hr.nO
 dsimp only at h2 h3
 exact⟨⟨hr,hf,hr,Oo,Oo⟩,rfl⟩
abbrev K5d:=K5e.add K64
def Do (M:List Met) (s:ByteArray) (h:Int):Met×Bool:=if 0≤Kw M s h then(Dt M s h,true) else(Jj0,false)
def Ksx:Con:={args:=[Hk,aS,aI],ress:=[(true,Jaw),Bo],owns:=[],pre:=fun(r,_)=>[Jj r],spec:=fun((_,_,_,_,M,_),s,h,_)=>((Do M s h).1,(Do M s h).2,())}
abbrev J7o (tk st:Int) (S:List Sta) (O:List Ord) (M:List Met) (X:List Out) (Q:List Per) (s:ByteArray) (h:Int):Ann:={X:=Nat,σ:=fun k=>⟨7,[(1, .one (.str s)),(2, .one (.int .i64 h)),(3, .one (.ptr 5 0)),(6, .one (.ptr 6 0)),(8, .one (.int .i64 k))],[(0, .imm 114 Ft S),(1, .imm 119 Lt O),(2, .imm 121 Jaw M),(3, .imm 123 Zw X),(4, .imm 125 Hw Q),(5, .box 37 [.int .i64 tk, .int .i64 st, .sl 0, .sl 1, .sl 2, .sl 3, .sl 4]),(6, .box 121 [.str Ja, .int .i64 0, .int .i64 0, .int .i64 0])]⟩,inv:=fun k=>k≤M.length∧Kw M s h=Vx (fun x=>bif x.1.toList==s.toList then x.2.1==h else false) (M.drop k) k,mu:=fun k=>M.length-k}
def Kbv:=Si 0 Z30
def Kk0 (a:Nat) (b:List Met) (c:Bt) (d:Int):=a≤List.length b∧Kw b c d=Vx (fun(x:Met)=>bif Lb x.1 c then x.2.1==d else false) (List.drop a b) a
theorem Kr4:Ok Tryz.prog 102 Ksx:=okW K5d Tryz.f102 (fun xx=>Zn (J7o xx.1.1 xx.1.2.1 xx.1.2.2.1 xx.1.2.2.2.1 xx.1.2.2.2.2.1 xx.1.2.2.2.2.2.1 xx.1.2.2.2.2.2.2 xx.2.1 xx.2.2.1)) fun xx=>by
 obtain⟨⟨(tk:Int),(st:Int),(S:List Sta),(O:List Ord),(M:List Met),(X:List Out),(Q:List Per)⟩,(s:ByteArray),(h:Int),_⟩:=xx
 refine(by kernel_rfl:(Jy tk st S O M X Q→∃(x:Nat),Sf s (Si h (0=Nc x∧Sf S (Sf O (Sf M (Sf X (Sf Q (Si tk (Si st (B0=Ja∧Kbv)))))))))∧Kk0 x M s h∧∀(x:Nat),Kk0 x M s h→Br (decide (Nc x<Ln M)) (Tw (Bd (Nc x) (Ln M))∧Br (bif Lb (Khs M x).1 s then(Khq M x).1==h else false) (Kjt M x=(Do M s h).1∧true=(Do M s h).2) (Z17 x∧∃(y:Nat),Sf s (Si h (Z96 x y∧Sf S (Sf O (Sf M (Sf X (Sf Q (Si tk (Si st (Sf Ja Kbv)))))))))∧Kk0 y M s h∧List.length M-y<List.length M-x)) (J0a=(Do M s h).1∧false=(Do M s h).2))=_).mp ?_
 delta Z17 Z30 Z64 Z71 Z96 J0a Jy Kbv Khs Khq Kk0 Kjt Br Iw Bd Tw Sf Si Ln Nc B0 Lb E2
 intro hr
 have nM:M.length≤10000:=hr.nM
 refine⟨(0:Nat),Oe,⟨Nat.zero_le _,rfl⟩,fun(k:Nat) hk=>⟨fun h1=> ?_,fun h1=> ?_⟩⟩
 ·have hlt:k<M.length:=by simpa using h1
  obtain⟨k1,k2⟩:=hk
  have hd:=Ym (p:=fun x=>bif x.1.toList==s.toList then x.2.1==h else false) (d:=Jj0) hlt
  have hz:((({data:={toList:=[]}}:ByteArray),(0:Int),(0:Int),(0:Int)):Met)=Jj0:=rfl
  simp only[hz,Prod.eta]
  refine⟨⟨⟨Oo,Oo⟩,Oo,Oo⟩,fun h2=> ?_,fun h2=>⟨⟨Oo,Oo⟩,(k+1:Nat),Oe,⟨Oo, ?_⟩,Oo⟩⟩
  ·have h2:(bif (M.getD k Jj0).1.toList==s.toList then(M.getD k Jj0).2.1==h else false)=true:=h2
   have e:Kw M s h=k:=by rw[k2,hd,if_pos h2]
   have e2:Do M s h=(M.getD k Jj0,true):=by
    unfold Do
    rw[if_pos Oo]
    unfold Dt
    rw[e];rfl
   rw[e2]
   exact Oe
  ·have h2:(bif (M.getD k Jj0).1.toList==s.toList then(M.getD k Jj0).2.1==h else false)=false:=h2
   rw[k2,hd,if_neg (by rw[h2];simp)]
 ·have hlt:¬k<M.length:=by simpa using h1
  obtain⟨k1,k2⟩:=hk
  have:k=M.length:=by omega
  rw[this,List.drop_length,Vx] at k2
  have e2:Do M s h=(Jj0,false):=by
   unfold Do
   rw[if_neg Oo]
  rw[e2]
  exact Oe
abbrev K9h:=K5d.add Kr4
abbrev K5c:=K9h
def J6u:Con:={args:=[Hk,aI],ress:=[(false, .list 198 J5h)],owns:=[true],pre:=fun(r,_)=>[Jj r],spec:=fun((_,_,_,O,M,_),u,_)=>(Ks M u O,())}
abbrev Jyr (tk st:Int) (S:List Sta) (O:List Ord) (M:List Met) (X:List Out) (Q:List Per) (u:Int):Nat→Option Ann:=fun id=>if id=0 then some {X:=Nat×List Gap,σ:=fun(k,o)=>⟨7,[(1, .one (.int .i64 u)),(2, .one (.ptr 5 0)),(5, .one (.sl 6)),(6, .one (.int .i64 k))],[(0, .imm 114 Ft S),(1, .imm 119 Lt O),(2, .imm 121 Jaw M),(3, .imm 123 Zw X),(4, .imm 125 Hw Q),(5, .box 37 [.int .i64 tk, .int .i64 st, .sl 0, .sl 1, .sl 2, .sl 3, .sl 4]),(6, .own 198 J5h o)]⟩,inv:=fun(k,o)=>k≤O.length∧o.length≤48*k∧o++Ks M u (O.drop k)=Ks M u O,mu:=fun(k,_)=>O.length-k}
 else if id=2 then some {X:=Nat×List Gap×Nat,σ:=fun(k,o,j)=>⟨8,[(1, .one (.int .i64 u)),(2, .one (.ptr 5 0)),(5, .one (.sl 6)),(6, .one (.int .i64 k)),(7, .one (.ptr 7 0)),(8, .one (.int .i64 ((O.getD k Kb).2.2.2.1.1+j)))],[(0, .imm 114 Ft S),(1, .imm 119 Lt O),(2, .imm 121 Jaw M),(3, .imm 123 Zw X),(4, .imm 125 Hw Q),(5, .box 37 [.int .i64 tk, .int .i64 st, .sl 0, .sl 1, .sl 2, .sl 3, .sl 4]),(6, .own 198 J5h o),(7, .box 119 (bxO (O.getD k Kb)))]⟩,inv:=fun(k,o,j)=>k<O.length∧j≤Ua (O.getD k Kb)∧o.length≤48*k+j∧o++(Dn M u (O.getD k Kb) ((O.getD k Kb).2.2.2.1.1+j) (Ua (O.getD k Kb)-j)++Ks M u (O.drop (k+1)))=Ks M u O,mu:=fun(k,_,j)=>Ua (O.getD k Kb)-j,rel:=some fun x y=>y.1=x.1}
 else none
theorem Ksa {M:List Met} {s:ByteArray} {h:Int}:(!(Do M s h).2)=decide (Kw M s h<0):=by
 unfold Do
 by_cases q:0≤Kw M s h
 ·rw[if_pos q,decide_eq_false Oo];rfl
 ·rw[if_neg q,decide_eq_true Oo];rfl
def Kvh (a:Nat×List (Bt×Int)×Nat) (b:List Ord) (c:List Met) (d:Int) (e:Nat×List (Bt×Int)×Nat) (f:Nat×List Gap×Nat):=(Kfe a b c d∧a.1=e.1)∧Ua (List.getD b a.1 Kb)-a.2.2<Ua (List.getD b f.1 Kb)-f.2.2
def Kva (a:List Ord) (b:Nat×List Gap×Nat) (c:Nat×List (Bt×Int)×Nat):=J8l a b c∧J8j a b c∧J8i a b c∧J8b a b c∧J8f a b c∧J8d a b c∧J77 a b c∧J78 a b c
theorem K63:Ok Tryz.prog 29 J6u:=okW K5c Tryz.f29 (fun xx=>Jyr xx.1.1 xx.1.2.1 xx.1.2.2.1 xx.1.2.2.2.1 xx.1.2.2.2.2.1 xx.1.2.2.2.2.2.1 xx.1.2.2.2.2.2.2 xx.2.1) fun xx=>by
 obtain⟨⟨(tk:Int),(st:Int),(S:List Sta),(O:List Ord),(M:List Met),(X:List Out),(Q:List Per)⟩,(u:Int),_⟩:=xx
 refine(by kernel_rfl:(Jy tk st S O M X Q→∃(x:Nat×List (ByteArray×Int)),Si u (0=Nc x.1∧Sf S (Sf O (Sf M (Sf X (Sf Q (Si tk (Si st (List.length x.2=0))))))))∧Kgo x O M u∧∀(x:Nat×List Gap),Kkz x O M u→Br (decide (Nc x.1<Ln O)) (Tw (Bd (Nc x.1) (Ln O))∧∃(x0:Nat×List (ByteArray×Int)×Nat),Si u (Nc x.1=Nc x0.1∧Kkf O x x0∧Sf S (Sf O (Sf M (Sf X (Sf Q (Si tk (Si st (x.2=x0.2.1∧Kg0 O x x0∧Kgx O x x0∧Kgq O x x0∧Kgm O x x0∧Kgl O x x0∧Kgk O x x0∧Kgi O x x0∧Kgh O x x0))))))))∧(Kfe x0 O M u∧x0.1=x0.1)∧∀(x_1:Nat×List Gap×Nat),Ki3 x_1 O M u∧x_1.1=x0.1→Br (Kmd O x_1) (Jy tk st S O M X Q∧(Ka5 O x_1 u=true→Z69≤(Z79 O x_1).2.2)∧Br (bif bif Ka5 O x_1 u then Ki8 O x_1 else false then !(Do M (Z2 O x_1).1 (Jz7 O x_1)).2 else false) (Km6 x_1∧Ka0 O x_1∧∃(y:Nat×List (ByteArray×Int)×Nat),Si u (Nc x_1.1=Nc y.1∧Kas O x_1 y∧Sf S (Sf O (Sf M (Sf X (Sf Q (Si tk (Si st (Klb x_1 O y∧Kva O x_1 y))))))))∧Kvh y O M u x0 x_1) (Ka0 O x_1∧∃(y:Nat×List (ByteArray×Int)×Nat),Si u (Nc x_1.1=Nc y.1∧Kas O x_1 y∧Sf S (Sf O (Sf M (Sf X (Sf Q (Si tk (Si st (x_1.2.1=y.2.1∧Kva O x_1 y))))))))∧Kvh y O M u x0 x_1)) (Iw (Nc x_1.1+1)∧∃(y:Nat×List (ByteArray×Int)),Si u (Nc x_1.1+1=Nc y.1∧Sf S (Sf O (Sf M (Sf X (Sf Q (Si tk (Si st (x_1.2.1=y.2))))))))∧Kfq y O M u x)) (x.2=Ks M u O))=_).mp ?_
 delta Z2 Z3 Z64 Z69 Z71 Z75 Z77 Z79 Z80 Jy Jz7 J8l J8j J8i Ka5 Ka0 Jen J8f J8d J8b J78 J77 Km6 Kmo Kmj Kmg Kmf Kmd Kmb Kma Kl3 Kl2 Kas Klf Kg0 Kgx Klb Kgq Kgo Kkz Kgm Kgl Kgk Kgi Kgh Kkf Kfq Ki8 Ki3 Kfe Kvh Kva Br Iw Bd Tw Sf Si Ln Nc B0 E2
 intro hr
 have nO:O.length≤32:=hr.nO
 have hz:((({data:={toList:=[]}}:ByteArray),({data:={toList:=[]}}:ByteArray),({data:={toList:=[]}}:ByteArray),((0:Int),(0:Int)),(0:Int),(0:Int),(0:Int)):Ord)=Kb:=rfl
 refine⟨((0:Nat),[]),Oe,⟨Nat.zero_le _,Nat.zero_le _,rfl⟩,fun(x:Nat×List Gap) hk=>⟨fun h1=> ?_,fun h1=> ?_⟩⟩
 ·obtain⟨k,o⟩:=x
  have hlt:k<O.length:=by simpa using h1
  obtain⟨k1,k2,k3⟩:=hk
  dsimp only at k1 k2 k3
  rw[J2 (d:=Kb) hlt,Ks,Jwf] at k3
  simp only[hz,Prod.eta]
  have hO:Jcy S (O.getD k Kb):=hr.ord _ (Je (d:=Kb) hlt)
  have b0:=hO.span.lo
  have b1:=hO.span.mid
  have b2:=hO.span.hi
  have b3:=hO.span.len
  have bt:=hO.trip
  have hn:Ua (O.getD k Kb)≤48∧(Ua (O.getD k Kb):Int)=(O.getD k Kb).2.2.2.1.2-(O.getD k Kb).2.2.2.1.1:=by
   unfold Ua
   constructor<;>omega
  refine⟨⟨⟨Oo,Oo⟩,Oo,Oo⟩,(k,o,(0:Nat)),Oe,⟨⟨hlt,Nat.zero_le _,Om, ?_⟩,Oe⟩,fun(y:Nat×List Gap×Nat) hy=> ?_⟩
  ·dsimp only
   simpa[Ua] using k3
  obtain⟨k',o,j⟩:=y
  obtain⟨⟨i1,i2,i3,i4⟩,hkk⟩:=hy
  have hkk:k'=k:=hkk
  subst hkk
  dsimp only at i1 i2 i3 i4
  refine⟨fun h2=> ?_,fun h2=> ?_⟩
  ·have h2:(O.getD k' Kb).2.2.2.1.1+(j:Int)<(O.getD k' Kb).2.2.2.1.2:=of_decide_eq_true h2
   have hj:Ua (O.getD k' Kb)-j=(Ua (O.getD k' Kb)-(j+1))+1:=by omega
   rw[hj,Dn] at i4
   have hc:(O.getD k' Kb).2.2.2.1.1+(j:Int)+1=(O.getD k' Kb).2.2.2.1.1+((j+1:Nat):Int):=by omega
   rw[hc] at i4
   have hcnd:(bif bif decide ((O.getD k' Kb).2.2.2.1.1+(j:Int)<u) then Jh (O.getD k' Kb) ((O.getD k' Kb).2.2.2.1.1+(j:Int)) else false then !(Do M (O.getD k' Kb).1 ((O.getD k' Kb).2.2.2.1.1+(j:Int))).2 else false)=(Jh (O.getD k' Kb) ((O.getD k' Kb).2.2.2.1.1+(j:Int))&&(decide ((O.getD k' Kb).2.2.2.1.1+(j:Int)<u)&&decide (Kw M (O.getD k' Kb).1 ((O.getD k' Kb).2.2.2.1.1+(j:Int))<0))):=by
    rw[Ksa]
    cases decide ((O.getD k' Kb).2.2.2.1.1+(j:Int)<u)<;>cases Jh (O.getD k' Kb) ((O.getD k' Kb).2.2.2.1.1+(j:Int))<;>rfl
   refine⟨hr,fun _=>bt.1,fun h3=>⟨Om,⟨Om,Om⟩,(k',o++[((O.getD k' Kb).1,(O.getD k' Kb).2.2.2.1.1+(j:Int))],j+1),Oe,⟨⟨hlt,Om,by(simp only[List.length_append,List.length_singleton];omega), ?_⟩,Oe⟩,Om⟩,fun h3=>⟨⟨Om,Om⟩,(k',o,j+1),Oe,⟨⟨hlt,Om,Om, ?_⟩,Oe⟩,Om⟩⟩
   all_goals (have h3:(bif bif decide ((O.getD k' Kb).2.2.2.1.1+(j:Int)<u) then Jh (O.getD k' Kb) ((O.getD k' Kb).2.2.2.1.1+(j:Int)) else false then !(Do M (O.getD k' Kb).1 ((O.getD k' Kb).2.2.2.1.1+(j:Int))).2 else false)=_:=h3;rw[hcnd] at h3;rw[h3] at i4;simpa using i4)
  ·have h2:¬(O.getD k' Kb).2.2.2.1.1+(j:Int)<(O.getD k' Kb).2.2.2.1.2:=of_decide_eq_false h2
   have hj:Ua (O.getD k' Kb)-j=0:=by omega
   rw[hj,Dn] at i4
   exact⟨⟨Om,Om⟩,(k'+1,o),Oe,⟨Om,Om,by simpa using i4⟩,Om⟩
 ·obtain⟨k,o⟩:=x
  have hlt:¬k<O.length:=by simpa using h1
  obtain⟨k1,k2,k3⟩:=hk
  dsimp only at k1 k2 k3
  have:k=O.length:=by omega
  rw[this,List.drop_length,Ks,List.append_nil] at k3
  exact k3
abbrev K9g:=K5c.add K63
abbrev K9f:=K9g
abbrev K9e:=K9f
abbrev K9d:=K9e
def Jya:Jdq:=(Ja,0,0,0,0,0)
abbrev K9c:=K9d
theorem Jq8 {α β:Type} {f:α→β} {d:α} {d':β}:∀{l:List α} {k:Nat},k<l.length→(l.map f).getD k d'=f (l.getD k d)
 |[],_,h=>by cases h
 |x::l,0,_=>rfl
 |x::l,k+1,h=>by
  rw[List.map_cons,List.getD_cons_succ,List.getD_cons_succ]
  exact Jq8 (by simpa using h)
abbrev K9b:=K9c
abbrev K9a:=K9b
abbrev sH3:Sch:= .prod sI (.prod sI sI)
abbrev H3:=Int×Int×Int
def J6d (M:List Met) (h:Int) (x:Ord) (a:H3):H3:=bif Jh x h then(a.1+(Dt M x.1 h).2.2.1,a.2.1+(Dt M x.1 h).2.2.2,a.2.2+((Dt M x.1 h).2.2.2*x.2.2.2.2.2.1-3*(x.2.2.2.2.1-(Dt M x.1 h).2.2.2))) else a
def Jfy (M:List Met) (h:Int):List Ord→H3→H3
 |[],a=>a
 |x::l,a=>Jfy M h l (J6d M h x a)
abbrev K89:=K9a
def Jp9:List Jdq→Int×Int→Int×Int
 |[],a=>a
 |b::l,(s,g)=>Jp9 l (s+b.2.2.1,g+b.2.2.2.1)
def J53 (st:Int) (O:List Ord) (M:List Met):(Int×Int)×Int:=if(Jp9 (O.map (K6 st M)) (0,0)).1=0 then((0,0),6) else(Jqy ((Jp9 (O.map (K6 st M)) (0,0)).1-(Jp9 (O.map (K6 st M)) (0,0)).2) (Jp9 (O.map (K6 st M)) (0,0)).1,0)
abbrev K5b:=K89
def Jbh (l:List Ev) (h:Int):Int:=Ji [opE l [],Km h 0 999999999,bif decide ((Jc l).2.1≤h) then 22 else 0]
def Yc (l:List Ev) (h:Int):H3:=if Jbh l h=0 then Jfy (Jc l).2.2.2.2.1 h (Jc l).2.2.2.1 (0,0,0) else(0,0,0)
def J6y:Con:={args:=[.val false (.list 67 sEv),aI],ress:=[(true,sH3),I],owns:=[],pre:=fun(l,_)=>[lOk l],spec:=fun(l,h,_)=>(Yc l h,Jbh l h,())}
abbrev imR (r:Reg) (i:Nat):List (Nat×Res):=[(i, .imm 127 Ft r.2.2.1),(i+1, .imm 130 Lt r.2.2.2.1),(i+2, .imm 155 Jaw r.2.2.2.2.1),(i+3, .imm 188 Zw r.2.2.2.2.2.1),(i+4, .imm 235 Hw r.2.2.2.2.2.2)]
abbrev bxR (r:Reg) (i:Nat):Res:= .box 105 [.int .i64 r.1, .int .i64 r.2.1, .sl i, .sl (i+1), .sl (i+2), .sl (i+3), .sl (i+4)]
abbrev J7q (l:List Ev) (h:Int):Ann:={X:=Nat×H3,σ:=fun(k,a,b,c)=>⟨9,[(1, .one (.int .i64 h)),(4, .one (.ptr 1 0)),(6, .one (.ptr 7 0)),(9, .one (.ptr 8 0)),(33, .one (.sl 3)),(34, .one (.int .i64 (Jc l).2.2.2.1.length)),(35, .one (.int .i64 k))],(1, .box 25 [.int .i64 0, .int .i64 0, .int .i64 0])::(7,bxR (Jc l) 2)::(8, .box 25 [.int .i64 a, .int .i64 b, .int .i64 c])::imR (Jc l) 2⟩,inv:=fun(k,a,b,c)=>Jbh l h=0∧k≤(Jc l).2.2.2.1.length∧(0≤a∧a≤1000*k)∧(0≤b∧b≤1000*k)∧(-2000000*k≤c∧c≤2000000*k)∧Jfy (Jc l).2.2.2.2.1 h ((Jc l).2.2.2.1.drop k) (a,b,c)=Yc l h,mu:=fun(k,_)=>(Jc l).2.2.2.1.length-k}
theorem J6h {a b c:Int} (h:Ji [a,b,c]=0):a=0∧b=0∧c=0:=by
 have h:=Uw.1 h
 exact⟨h a (by simp),h b (by simp),h c (by simp)⟩
def Z27 (a:List Ev):=Ln (Jc a).2.2.2.1
def Jnp (a:List Ev):=(Jc a).2.2.1=(Jc a).2.2.1
def Jno (a:List Ev):=(Jc a).2.2.2.1=(Jc a).2.2.2.1
def Jnn (a:List Ev):=(Jc a).2.2.2.2.1=(Jc a).2.2.2.2.1
def Jnm (a:List Ev):=(Jc a).2.2.2.2.2.1=(Jc a).2.2.2.2.2.1
def Jnl (a:List Ev):=(Jc a).2.2.2.2.2.2=(Jc a).2.2.2.2.2.2
def K1z (a:List Ev) (b:Nat×H3):=List.getD (Jc a).2.2.2.1 b.1 Jen
def K1w (a:List Ev) (b:Nat×H3):=(K1z a b).1
def K1u (a:List Ev) (b:Nat×H3):=(K1z a b).2
def K1s (a:List Ev) (b:Nat×H3):=(K1u a b).2
def K1r (a:List Ev) (b:Nat×H3):=(K1s a b).2
def K1p (a:List Ev) (b:Nat×H3):=(K1r a b).2
def K1m (a:List Ev) (b:Nat×H3):=(K1p a b).2
def K1k (a:List Ev) (b:Nat×H3):=(K1p a b).1
def Kzb (a:List Ev) (b:Nat×H3) (c:Int):=Kw (Jc a).2.2.2.2.1 (K1w a b) c
def Ky7 (a:List Ev) (b:Int):=Ji [opE a [],Z73 b,bif decide ((Jc a).2.1≤b) then 22 else 0]
def Kw9 (a:List Ev) (b:Nat×H3) (c:Int):=(Gt (Jc a).2.2.2.2.1 (Kzb a b c) J0a).2.2
def Kjn (a:List Ev) (b:Nat×H3) (c:Int):=(Kw9 a b c).2
def Kw6 (a:Nat×H3) (b:List Ev) (c:Int):=a.2.1+(Kw9 b a c).1
def Kwz (a:Nat×H3) (b:List Ev) (c:Int):=a.2.2.1+Kjn b a c
def Kji (a:List Ev):=Jnp a∧Jno a∧Jnn a∧Jnm a∧Jnl a
def Kwf (a:List Ev) (b:Nat×H3) (c:Int):=K1k a b-Kjn a b c
def Kwc (a:List Ev) (b:Nat×H3) (c:Int):=Kjn a b c*(K1m a b).1
def Kv7 (a:List Ev) (b:Nat×H3) (c:Int):=3*Kwf a b c
def Kv2 (a:List Ev) (b:Int) (c:Nat) (d e f:Int):=Jbh a b=0∧c≤List.length (Jc a).2.2.2.1∧Kbl d c∧Kbl e c∧((-2000000)*Nc c≤f∧f≤2000000*Nc c)∧Jfy (Jc a).2.2.2.2.1 b (List.drop c (Jc a).2.2.2.1) (d,e,f)=Yc a b
def Kvn (a:Nat×Int×Int×Int) (b:List Ev) (c:Int):=match a with|(k,a,b_1,c_1)=>Kv2 b c k a b_1 c_1
def Kve (a:Nat×Int×Int×Int) (b:List Ev) (c:Int) (d:Nat×H3):=Kvn a b c∧List.length (Jc b).2.2.2.1-a.1<List.length (Jc b).2.2.2.1-d.1
def Ku1 (a:List Ev) (b:Nat×H3) (c:Int):=Kwc a b c-Kv7 a b c
def Ku0 (a:Nat×H3) (b:List Ev) (c:Int):=a.2.2.2+Ku1 b a c
theorem K7b:Ok Tryz.prog 15 J6y:=okW K5b Tryz.f15 (fun xx=>Zn (J7q xx.1 xx.2.1)) fun xx=>by
 obtain⟨(l:List Ev),(h:Int),_⟩:=xx
 refine(by kernel_rfl:(lOk l→(lOk l∧0≤1000000)∧3≤1000000∧Br (Ky7 l h !=0) (Z71=Yc l h∧Ky7 l h=Jbh l h) (∃(x:Nat×Int×Int×Int),Si h (Z27 l=Z27 l∧0=Nc x.1∧Si 0 (Si 0 (Si 0 ((Jc l).1=(Jc l).1∧(Jc l).2.1=(Jc l).2.1∧0=x.2.1∧0=x.2.2.1∧0=x.2.2.2∧Kji l))))∧Kvn x l h∧∀(x:Nat×H3),(match x with|(k,a,b,c)=>Kv2 l h k a b c)→Br (decide (Nc x.1<Z27 l)) (Tw (Bd (Nc x.1) (Z27 l))∧Br (Jh (K1w l x,(K1u l x).1,(K1s l x).1,E2 (K1r l x).1,K1k l x,E2 (K1m l x)) h) ((Jy3 l∧Tw (Bd (Kzb l x h) (Ln (Jc l).2.2.2.2.1)))∧Iw (Kw6 x l h)∧Iw (Kwz x l h)∧(Iw (Kwc l x h)∧Iw (Kwf l x h)∧Iw (Kv7 l x h)∧Iw (Ku1 l x h)∧Iw (Ku0 x l h))∧Iw (Nc x.1+1)∧∃(y:Nat×Int×Int×Int),Si h (Si (Z27 l) (Nc x.1+1=Nc y.1∧Si 0 (Si 0 (Si 0 (Si (Jc l).1 (Si (Jc l).2.1 (Kw6 x l h=y.2.1∧Kwz x l h=y.2.2.1∧Ku0 x l h=y.2.2.2∧Kji l)))))))∧Kve y l h x) (Iw (Nc x.1+1)∧∃(y:Nat×Int×Int×Int),Si h (Si (Z27 l) (Nc x.1+1=Nc y.1∧Si 0 (Si 0 (Si 0 (Si (Jc l).1 (Si (Jc l).2.1 (x.2.1=y.2.1∧x.2.2.1=y.2.2.1∧x.2.2.2=y.2.2.2∧Kji l)))))))∧Kve y l h x)) ((x.2.1,E2 x.2.2)=Yc l h∧0=Jbh l h)))=_).mp ?_
 delta Z27 Z71 Z73 Jnp J0a Jno Jnn Jnm Jnl Kbl Jen K1z K1w K1u K1s K1r K1p K1m K1k J2v Kzb Ky7 Jy3 Kw9 Kjn Kw6 Kwz Kji Kwf Kwc Kv7 Kv2 Kvn Kve Ku1 Ku0 Br Iw Bd Tw Si Ln Nc Gt B0 E2
 intro hl
 refine⟨⟨hl,Od⟩,Od,fun e=> ?_,fun e=> ?_⟩
 ·have e:Jbh l h≠0:=bne_iff_ne.1 e
  exact⟨by unfold Yc;rw[if_neg e],rfl⟩
 ·have e0:Jbh l h=0:=bne_eq_false_iff_eq.1 e
  clear e
  have hr:=Ly (l:=l)
  have nO:=hr.nO
  have hst:h<(Jc l).2.1:=by
   have:=(J6h e0).2.2
   by_cases q:(Jc l).2.1≤h
   ·rw[decide_eq_true q] at this;cases this
   ·omega
  refine⟨((0:Nat),0,0,0),Oe,⟨e0,Nat.zero_le _,Oo,Oo,Oo,by unfold Yc;rw[if_pos e0];rfl⟩,fun(x:Nat×H3) hk=>⟨fun h1=> ?_,fun h1=> ?_⟩⟩
  ·obtain⟨k,a,b,c⟩:=x
   have hlt:k<(Jc l).2.2.2.1.length:=by simpa using h1
   obtain⟨_,k1,k2,k3,k4,k5⟩:=hk
   generalize Jc l=r at*
   obtain⟨tk,st,S,O,M,X,Q⟩:=r
   have hlt:k<O.length:=hlt
   have hst:h<st:=hst
   have nO:O.length≤32:=nO
   have hx:=Je (d:=Kb) hlt
   have k5:Jfy M h (O.drop k) (a,b,c)=Yc l h:=k5
   rw[J2 (d:=Kb) hlt,Jfy] at k5
   have hz:((({data:={toList:=[]}}:ByteArray),({data:={toList:=[]}}:ByteArray),({data:={toList:=[]}}:ByteArray),((0:Int),(0:Int)),(0:Int),(0:Int),(0:Int)):Ord)=Kb:=rfl
   have hzm:((({data:={toList:=[]}}:ByteArray),(0:Int),(0:Int),(0:Int)):Met)=Jj0:=rfl
   simp only[hz,hzm,Prod.eta]
   have hO:Jcy S (O.getD k Kb):=hr.ord _ hx
   have hd:∀h,Jh (O.getD k Kb) h=true→h<st→0≤Kw M (O.getD k Kb).1 h:=hr.done _ hx
   generalize O.getD k Kb=y at*
   unfold J6d at k5
   have bp:=hO.pow
   have bc:=hO.pri
   have em:M.getD (Kw M y.1 h).toNat Jj0=Dt M y.1 h:=rfl
   simp only[em]
   refine⟨by(repeat' first|apply And.intro|omega),fun hq=> ?_,fun hq=> ?_⟩
   ·rw[hq,cond_true] at k5
    have hm:=hd _ hq hst
    have hl:=D2 (l:=M) (s:=y.1) (h:=h)
    have hM:Jzl (Dt M y.1 h):=hr.met _ (Je (show _<M.length by omega))
    have m1:=hM.sent
    have m2:=hM.got
    have q1:0≤(Dt M y.1 h).2.2.2*y.2.2.2.2.2.1:=Int.mul_nonneg m2.1 bc.1
    have q2:(Dt M y.1 h).2.2.2*y.2.2.2.2.2.1≤1000*1000:=Int.mul_le_mul Oo bc.2 bc.1 Od
    exact⟨⟨hr,by(repeat' first|apply And.intro|omega),by(repeat' first|apply And.intro|omega)⟩,by(repeat' first|apply And.intro|omega),by(repeat' first|apply And.intro|omega),by(repeat' first|apply And.intro|omega),by(repeat' first|apply And.intro|omega),(k+1,a+(Dt M y.1 h).2.2.1,b+(Dt M y.1 h).2.2.2,c+((Dt M y.1 h).2.2.2*y.2.2.2.2.2.1-3*(y.2.2.2.2.1-(Dt M y.1 h).2.2.2))),Oe,⟨e0,Om,Om,Om,Om,k5⟩,Om⟩
   ·rw[hq,cond_false] at k5
    exact⟨by(repeat' first|apply And.intro|omega),(k+1,a,b,c),Oe,⟨e0,Om,Om,Om,Om,k5⟩,Om⟩
  ·obtain⟨k,a,b,c⟩:=x
   have hlt:¬k<(Jc l).2.2.2.1.length:=by simpa using h1
   obtain⟨_,k1,k2,k3,k4,k5⟩:=hk
   have:k=(Jc l).2.2.2.1.length:=by omega
   rw[this,List.drop_length,Jfy] at k5
   exact⟨k5,e0.symm⟩
abbrev K5a:=K5b.add K7b
def cAb (pre:Reg→Ev→List Prop) (f:Reg→Ev→ByteArray→Bool):Con:={args:=[Jb4,aEv,aS],ress:=[Bo],owns:=[],pre:=fun(r,e,_)=>pre r e,spec:=fun(r,e,s,_)=>(f r e s,())}
def Kd5:Con:=cAb (fun _ _=>[]) (fun _ _ _=>true)
theorem Kq5:Ok Tryz.prog 150 Kd5:=okW K5a Tryz.f150 na fun xx=>by
 obtain⟨⟨(tk:Int),(st:Int),(S:List Sta),(O:List Ord),(M:List Met),(X:List Out),(Q:List Per)⟩,⟨(n:Int),(k:ByteArray),(ns:List ByteArray),(vs:List Int),(tx:ByteArray)⟩,(s:ByteArray),_⟩:=xx
 refine(by kernel_rfl:(true=true)=_).mp ?_
 rfl
abbrev K49:=K5a.add Kq5
def abO (O:List Ord) (ns:List ByteArray) (s:ByteArray):Bool:=Yg (Vk O (ns.getD 0 Ja)) s
def K74:Con:={args:=[Jb4,aEv,aS],ress:=[Bo],owns:=[],pre:=fun(r,e,_)=>[Jj r,1≤e.2.2.1.length,0≤Kd r.2.2.2.1 (e.2.2.1.getD 0 Ja)],spec:=fun((tk,st,S,O,M,X,Q),(n,k,ns,vs,tx),s,_)=>(abO O ns s,())}
theorem Kqz:Ok Tryz.prog 156 K74:=okW K49 Tryz.f156 na fun xx=>by
 obtain⟨⟨(tk:Int),(st:Int),(S:List Sta),(O:List Ord),(M:List Met),(X:List Out),(Q:List Per)⟩,⟨(n:Int),(k:ByteArray),(ns:List ByteArray),(vs:List Int),(tx:ByteArray)⟩,(s:ByteArray),_⟩:=xx
 refine(by kernel_rfl:(Jy tk st S O M X Q→Xe ns→Jun O ns→Kk9 ns O∧Yg (Ki6 O ns) s=abO O ns s)=_).mp ?_
 delta Z55 Z64 Z92 Vb Xe Di Jy J8p Jsg Kbm J8m Kbi Jun Kk9 Ki6 Bd T2 Ln B0 E2
 intro hr h1 h2
 have nO:O.length≤32:=hr.nO
 repeat' first|assumption|exact rfl|trivial|omega|exact Kt|exact Uj|exact Ut|exact U8|apply And.intro|intro _
abbrev K48:=K49.add Kqz
def abX (X:List Out) (ns:List ByteArray) (s:ByteArray):Bool:=(Le X (ns.getD 0 Ja)).2.1.toList==s.toList
def K72:Con:={args:=[Jb4,aEv,aS],ress:=[Bo],owns:=[],pre:=fun(r,e,_)=>[Jj r,1≤e.2.2.1.length,0≤J6 r.2.2.2.2.2.1 (e.2.2.1.getD 0 Ja)],spec:=fun((tk,st,S,O,M,X,Q),(n,k,ns,vs,tx),s,_)=>(abX X ns s,())}
theorem Kqs:Ok Tryz.prog 163 K72:=okW K48 Tryz.f163 na fun xx=>by
 obtain⟨⟨(tk:Int),(st:Int),(S:List Sta),(O:List Ord),(M:List Met),(X:List Out),(Q:List Per)⟩,⟨(n:Int),(k:ByteArray),(ns:List ByteArray),(vs:List Int),(tx:ByteArray)⟩,(s:ByteArray),_⟩:=xx
 refine(by kernel_rfl:(Jy tk st S O M X Q→Xe ns→J20 X ns→Kla ns X∧Lb (Kbs X ns).2.1 s=abX X ns s)=_).mp ?_
 delta Z47 Z64 Z92 Vb Xe Di Jy Kbs Jup J20 Kla Bd T2 Ln B0 Lb
 intro hr h1 h2
 have nX:X.length≤16:=hr.nX
 repeat' first|assumption|exact rfl|trivial|omega|exact Kt|exact Uj|exact Ut|exact U8|apply And.intro|intro _
abbrev K47:=K48.add Kqs
def abP (X:List Out) (Q:List Per) (ns:List ByteArray) (s:ByteArray):Bool:=(Le X (Jnh Q (ns.getD 0 Ja)).2.1).2.1.toList==s.toList
def K73:Con:={args:=[Jb4,aEv,aS],ress:=[Bo],owns:=[],pre:=fun(r,e,_)=>[Jj r,1≤e.2.2.1.length,0≤Va r.2.2.2.2.2.2 (e.2.2.1.getD 0 Ja)],spec:=fun((tk,st,S,O,M,X,Q),(n,k,ns,vs,tx),s,_)=>(abP X Q ns s,())}
theorem J02 {Q:List Per} {s:ByteArray} (h:0≤Va Q s):Jnh Q s∈Q:=by
 have:=U8 (l:=Q) (s:=s)
 exact Je Oo
theorem Kqn:Ok Tryz.prog 168 K73:=okW K47 Tryz.f168 na fun xx=>by
 obtain⟨⟨(tk:Int),(st:Int),(S:List Sta),(O:List Ord),(M:List Met),(X:List Out),(Q:List Per)⟩,⟨(n:Int),(k:ByteArray),(ns:List ByteArray),(vs:List Int),(tx:ByteArray)⟩,(s:ByteArray),_⟩:=xx
 refine(by kernel_rfl:(Jy tk st S O M X Q→Xe ns→J2z Q ns→T2 (Z92 ns) (Z49 Q∧0≤Jt7 Q ns∧Z47 X∧0≤J6 X (Jnh Q (Vb ns)).2.1)∧Lb (Le X (Jnh Q (Vb ns)).2.1).2.1 s=abP X Q ns s)=_).mp ?_
 delta Z47 Z49 Z64 Z92 Vb Xe Di Jy Jt7 J2z Bd T2 Ln B0 Lb
 intro hr h1 h2
 have nX:X.length≤16:=hr.nX
 have nQ:Q.length≤16:=hr.nQ
 have h3:0≤J6 X (Jnh Q (ns.getD 0 Ja)).2.1:=hr.per _ (J02 h2)
 repeat' first|assumption|exact rfl|trivial|omega|exact Kt|exact Uj|exact Ut|exact U8|apply And.intro|intro _
abbrev Jsj:=K47.add Kqn
def abS (r:Reg) (e:Ev) (s:ByteArray):Bool:=match(Jm e.2.1).2.2.2.2 with
 |some 150=>true
 |some 156=>abO r.2.2.2.1 e.2.2.1 s
 |some 163=>abX r.2.2.2.2.2.1 e.2.2.1 s
 |some 168=>abP r.2.2.2.2.2.1 r.2.2.2.2.2.2 e.2.2.1 s
 |_=>false
structure Jhm (r:Reg) (e:Ev):Prop where
 kind:Y5 e.2.1=true
 ord:(Jm e.2.1).2.2.2.2=some 156→1≤e.2.2.1.length∧0≤Kd r.2.2.2.1 (e.2.2.1.getD 0 Ja)
 out:(Jm e.2.1).2.2.2.2=some 163→1≤e.2.2.1.length∧0≤J6 r.2.2.2.2.2.1 (e.2.2.1.getD 0 Ja)
 per:(Jm e.2.1).2.2.2.2=some 168→1≤e.2.2.1.length∧0≤Va r.2.2.2.2.2.2 (e.2.2.1.getD 0 Ja)
def Xu:Con:={args:=[aEv, .ref 105 Jlv, .ref 9 .str],ress:=[Bo],owns:=[],pre:=fun(e,r,_)=>[Jj r,Jhm r e],spec:=fun(e,r,s,_)=>(abS r e s,())}
def Z36:=false=true→False
theorem Juw (n:Int) (ns:List ByteArray) (vs:List Int) (tx:ByteArray) (tk st:Int) (S:List Sta) (O:List Ord) (M:List Met) (X:List Out) (Q:List Per) (s:ByteArray):wpF Tryz.prog Jsj.g (na ()) Tryz.f79 Xu ((n,Ju,ns,vs,tx),(tk,st,S,O,M,X,Q),s,()):=by
 refine(by kernel_rfl:(Jy tk st S O M X Q→Jhm (Z64 tk st S O M X Q) (Z1 n ns vs tx)→Z36∧false=abS (Z64 tk st S O M X Q) (Z1 n ns vs tx) s)=_).mp ?_
 delta Z1 Z36 Z64 Jy Ju
 intro hr ha
 have e:abS (tk,st,S,O,M,X,Q) (n,Ju,ns,vs,tx) s=false:=by unfold abS;rw[show(Jm Ju).2.2.2.2=_ from congrArg (fun x=>x.2.2.2.2) Jcg];all_goals rfl
 rw[e]
 repeat' first|exact hr|exact h.1|exact h.2|exact rfl|apply And.intro|intro _
 all_goals first|trivial|assumption|contradiction
theorem Jk3 (n:Int) (ns:List ByteArray) (vs:List Int) (tx:ByteArray) (tk st:Int) (S:List Sta) (O:List Ord) (M:List Met) (X:List Out) (Q:List Per) (s:ByteArray):wpF Tryz.prog Jsj.g (na ()) Tryz.f79 Xu ((n,Jw,ns,vs,tx),(tk,st,S,O,M,X,Q),s,()):=by
 refine(by kernel_rfl:(Jy tk st S O M X Q→Jhm (Z64 tk st S O M X Q) (Z26 n ns vs tx)→true=abS (Z64 tk st S O M X Q) (Z26 n ns vs tx) s)=_).mp ?_
 delta Z26 Z64 Jy Jw
 intro hr ha
 have e:abS (tk,st,S,O,M,X,Q) (n,Jw,ns,vs,tx) s=true:=by unfold abS;rw[show(Jm Jw).2.2.2.2=_ from congrArg (fun x=>x.2.2.2.2) Kp];all_goals rfl
 rw[e]
 repeat' first|exact hr|exact h.1|exact h.2|exact rfl|apply And.intro|intro _
 all_goals first|trivial|assumption|contradiction
theorem Jsn (n:Int) (ns:List ByteArray) (vs:List Int) (tx:ByteArray) (tk st:Int) (S:List Sta) (O:List Ord) (M:List Met) (X:List Out) (Q:List Per) (s:ByteArray):wpF Tryz.prog Jsj.g (na ()) Tryz.f79 Xu ((n,Uf,ns,vs,tx),(tk,st,S,O,M,X,Q),s,()):=by
 refine(by kernel_rfl:(Jy tk st S O M X Q→Jhm (Z64 tk st S O M X Q) (Z15 n ns vs tx)→true=abS (Z64 tk st S O M X Q) (Z15 n ns vs tx) s)=_).mp ?_
 delta Z15 Z64 Jy Uf
 intro hr ha
 have e:abS (tk,st,S,O,M,X,Q) (n,Uf,ns,vs,tx) s=true:=by unfold abS;rw[show(Jm Uf).2.2.2.2=_ from congrArg (fun x=>x.2.2.2.2) U6];all_goals rfl
 rw[e]
 repeat' first|exact hr|exact h.1|exact h.2|exact rfl|apply And.intro|intro _
 all_goals first|trivial|assumption|contradiction
def Jz2 (a:Ls):=true=true→Xe a
def Kab (a b:Int) (c:List Sta) (d:List Ord) (e:List Met) (f:List Out) (g:List Per) (h:Ls):=(true=true→Jy a b c d e f g)∧Jz2 h∧(true=true→Jun d h)
theorem Jso (n:Int) (ns:List ByteArray) (vs:List Int) (tx:ByteArray) (tk st:Int) (S:List Sta) (O:List Ord) (M:List Met) (X:List Out) (Q:List Per) (s:ByteArray):wpF Tryz.prog Jsj.g (na ()) Tryz.f79 Xu ((n,Ki,ns,vs,tx),(tk,st,S,O,M,X,Q),s,()):=by
 refine(by kernel_rfl:(Jy tk st S O M X Q→Jhm (Z64 tk st S O M X Q) (Z13 n ns vs tx)→Kab tk st S O M X Q ns∧(bif true then abO O ns s else false)=abS (Z64 tk st S O M X Q) (Z13 n ns vs tx) s)=_).mp ?_
 delta Z13 Z64 Xe Di Jy Jz2 Jun Kab Ki
 intro hr ha
 have e:abS (tk,st,S,O,M,X,Q) (n,Ki,ns,vs,tx) s=abO O ns s:=by unfold abS;rw[show(Jm Ki).2.2.2.2=_ from congrArg (fun x=>x.2.2.2.2) Uh];all_goals rfl
 have h:=ha.ord (congrArg (fun x=>x.2.2.2.2) Uh)
 rw[e]
 repeat' first|exact hr|exact h.1|exact h.2|exact rfl|apply And.intro|intro _
 all_goals first|trivial|assumption|contradiction
theorem Jsp (n:Int) (ns:List ByteArray) (vs:List Int) (tx:ByteArray) (tk st:Int) (S:List Sta) (O:List Ord) (M:List Met) (X:List Out) (Q:List Per) (s:ByteArray):wpF Tryz.prog Jsj.g (na ()) Tryz.f79 Xu ((n,K9,ns,vs,tx),(tk,st,S,O,M,X,Q),s,()):=by
 refine(by kernel_rfl:(Jy tk st S O M X Q→Jhm (Z64 tk st S O M X Q) (Z10 n ns vs tx)→Kab tk st S O M X Q ns∧(bif true then abO O ns s else false)=abS (Z64 tk st S O M X Q) (Z10 n ns vs tx) s)=_).mp ?_
 delta Z10 Z64 Xe Di Jy Jz2 Jun Kab K9
 intro hr ha
 have e:abS (tk,st,S,O,M,X,Q) (n,K9,ns,vs,tx) s=abO O ns s:=by unfold abS;rw[show(Jm K9).2.2.2.2=_ from congrArg (fun x=>x.2.2.2.2) Ui];all_goals rfl
 have h:=ha.ord (congrArg (fun x=>x.2.2.2.2) Ui)
 rw[e]
 repeat' first|exact hr|exact h.1|exact h.2|exact rfl|apply And.intro|intro _
 all_goals first|trivial|assumption|contradiction
theorem Jux (n:Int) (ns:List ByteArray) (vs:List Int) (tx:ByteArray) (tk st:Int) (S:List Sta) (O:List Ord) (M:List Met) (X:List Out) (Q:List Per) (s:ByteArray):wpF Tryz.prog Jsj.g (na ()) Tryz.f79 Xu ((n,V2,ns,vs,tx),(tk,st,S,O,M,X,Q),s,()):=by
 refine(by kernel_rfl:(Jy tk st S O M X Q→Jhm (Z64 tk st S O M X Q) (Z5 n ns vs tx)→Kab tk st S O M X Q ns∧(bif true then abO O ns s else false)=abS (Z64 tk st S O M X Q) (Z5 n ns vs tx) s)=_).mp ?_
 delta Z5 Z64 Xe Di Jy Jz2 Jun Kab V2
 intro hr ha
 have e:abS (tk,st,S,O,M,X,Q) (n,V2,ns,vs,tx) s=abO O ns s:=by unfold abS;rw[show(Jm V2).2.2.2.2=_ from congrArg (fun x=>x.2.2.2.2) Vl];all_goals rfl
 have h:=ha.ord (congrArg (fun x=>x.2.2.2.2) Vl)
 rw[e]
 repeat' first|exact hr|exact h.1|exact h.2|exact rfl|apply And.intro|intro _
 all_goals first|trivial|assumption|contradiction
def Kjq (a b:Int) (c:List Sta) (d:List Ord) (e:List Met) (f:List Out) (g:List Per) (h:Ls):=(true=true→Jy a b c d e f g)∧Jz2 h∧(true=true→J20 f h)
theorem Jnu (n:Int) (ns:List ByteArray) (vs:List Int) (tx:ByteArray) (tk st:Int) (S:List Sta) (O:List Ord) (M:List Met) (X:List Out) (Q:List Per) (s:ByteArray):wpF Tryz.prog Jsj.g (na ()) Tryz.f79 Xu ((n,Js,ns,vs,tx),(tk,st,S,O,M,X,Q),s,()):=by
 refine(by kernel_rfl:(Jy tk st S O M X Q→Jhm (Z64 tk st S O M X Q) (Z21 n ns vs tx)→Kjq tk st S O M X Q ns∧(bif true then abX X ns s else false)=abS (Z64 tk st S O M X Q) (Z21 n ns vs tx) s)=_).mp ?_
 delta Z21 Z64 Xe Di Jy Jz2 J20 Kjq Js
 intro hr ha
 have e:abS (tk,st,S,O,M,X,Q) (n,Js,ns,vs,tx) s=abX X ns s:=by unfold abS;rw[show(Jm Js).2.2.2.2=_ from congrArg (fun x=>x.2.2.2.2) Kr];all_goals rfl
 have h:=ha.out (congrArg (fun x=>x.2.2.2.2) Kr)
 rw[e]
 repeat' first|exact hr|exact h.1|exact h.2|exact rfl|apply And.intro|intro _
 all_goals first|trivial|assumption|contradiction
theorem Jk4 (n:Int) (ns:List ByteArray) (vs:List Int) (tx:ByteArray) (tk st:Int) (S:List Sta) (O:List Ord) (M:List Met) (X:List Out) (Q:List Per) (s:ByteArray):wpF Tryz.prog Jsj.g (na ()) Tryz.f79 Xu ((n,Jt,ns,vs,tx),(tk,st,S,O,M,X,Q),s,()):=by
 refine(by kernel_rfl:(Jy tk st S O M X Q→Jhm (Z64 tk st S O M X Q) (Z32 n ns vs tx)→Kjq tk st S O M X Q ns∧(bif true then abX X ns s else false)=abS (Z64 tk st S O M X Q) (Z32 n ns vs tx) s)=_).mp ?_
 delta Z32 Z64 Xe Di Jy Jz2 J20 Kjq Jt
 intro hr ha
 have e:abS (tk,st,S,O,M,X,Q) (n,Jt,ns,vs,tx) s=abX X ns s:=by unfold abS;rw[show(Jm Jt).2.2.2.2=_ from congrArg (fun x=>x.2.2.2.2) J5];all_goals rfl
 have h:=ha.out (congrArg (fun x=>x.2.2.2.2) J5)
 rw[e]
 repeat' first|exact hr|exact h.1|exact h.2|exact rfl|apply And.intro|intro _
 all_goals first|trivial|assumption|contradiction
def Kjp (a b:Int) (c:List Sta) (d:List Ord) (e:List Met) (f:List Out) (g:List Per) (h:Ls):=(true=true→Jy a b c d e f g)∧Jz2 h∧(true=true→J2z g h)
theorem Jnt (n:Int) (ns:List ByteArray) (vs:List Int) (tx:ByteArray) (tk st:Int) (S:List Sta) (O:List Ord) (M:List Met) (X:List Out) (Q:List Per) (s:ByteArray):wpF Tryz.prog Jsj.g (na ()) Tryz.f79 Xu ((n,Kg,ns,vs,tx),(tk,st,S,O,M,X,Q),s,()):=by
 refine(by kernel_rfl:(Jy tk st S O M X Q→Jhm (Z64 tk st S O M X Q) (Z22 n ns vs tx)→Kjp tk st S O M X Q ns∧(bif true then abP X Q ns s else false)=abS (Z64 tk st S O M X Q) (Z22 n ns vs tx) s)=_).mp ?_
 delta Z22 Z64 Xe Di Jy Jz2 J2z Kjp Kg
 intro hr ha
 have e:abS (tk,st,S,O,M,X,Q) (n,Kg,ns,vs,tx) s=abP X Q ns s:=by unfold abS;rw[show(Jm Kg).2.2.2.2=_ from congrArg (fun x=>x.2.2.2.2) K1];all_goals rfl
 have h:=ha.per (congrArg (fun x=>x.2.2.2.2) K1)
 rw[e]
 repeat' first|exact hr|exact h.1|exact h.2|exact rfl|apply And.intro|intro _
 all_goals first|trivial|assumption|contradiction
theorem Jns (n:Int) (ns:List ByteArray) (vs:List Int) (tx:ByteArray) (tk st:Int) (S:List Sta) (O:List Ord) (M:List Met) (X:List Out) (Q:List Per) (s:ByteArray):wpF Tryz.prog Jsj.g (na ()) Tryz.f79 Xu ((n,Kf,ns,vs,tx),(tk,st,S,O,M,X,Q),s,()):=by
 refine(by kernel_rfl:(Jy tk st S O M X Q→Jhm (Z64 tk st S O M X Q) (Z23 n ns vs tx)→Kjp tk st S O M X Q ns∧(bif true then abP X Q ns s else false)=abS (Z64 tk st S O M X Q) (Z23 n ns vs tx) s)=_).mp ?_
 delta Z23 Z64 Xe Di Jy Jz2 J2z Kjp Kf
 intro hr ha
 have e:abS (tk,st,S,O,M,X,Q) (n,Kf,ns,vs,tx) s=abP X Q ns s:=by unfold abS;rw[show(Jm Kf).2.2.2.2=_ from congrArg (fun x=>x.2.2.2.2) K0];all_goals rfl
 have h:=ha.per (congrArg (fun x=>x.2.2.2.2) K0)
 rw[e]
 repeat' first|exact hr|exact h.1|exact h.2|exact rfl|apply And.intro|intro _
 all_goals first|trivial|assumption|contradiction
theorem Jnr (n:Int) (ns:List ByteArray) (vs:List Int) (tx:ByteArray) (tk st:Int) (S:List Sta) (O:List Ord) (M:List Met) (X:List Out) (Q:List Per) (s:ByteArray):wpF Tryz.prog Jsj.g (na ()) Tryz.f79 Xu ((n,Jk,ns,vs,tx),(tk,st,S,O,M,X,Q),s,()):=by
 refine(by kernel_rfl:(Jy tk st S O M X Q→Jhm (Z64 tk st S O M X Q) (Z18 n ns vs tx)→Z36∧false=abS (Z64 tk st S O M X Q) (Z18 n ns vs tx) s)=_).mp ?_
 delta Z18 Z36 Z64 Jy Jk
 intro hr ha
 have e:abS (tk,st,S,O,M,X,Q) (n,Jk,ns,vs,tx) s=false:=by unfold abS;rw[show(Jm Jk).2.2.2.2=_ from congrArg (fun x=>x.2.2.2.2) Uy];all_goals rfl
 rw[e]
 repeat' first|exact hr|exact h.1|exact h.2|exact rfl|apply And.intro|intro _
 all_goals first|trivial|assumption|contradiction
theorem J46 [Sx.Dr] {Γ:Gam} {ann:Nat→Option Ann} {fn:Func} {c:Con} {x:ATup c.args} (hb:fn.body.isSome=true) (h:Ux (c.pre x)→wpF Tryz.prog Γ ann fn c x):wpF Tryz.prog Γ ann fn c x:=by
 unfold wpF at h⊢
 cases hc:fn.body with
 |none=>rw[hc] at hb;cases hb
 |some code=>
  rw[hc] at h
  exact Jbe h
theorem K5w:∀x:ATup [aEv, .ref 105 Jlv, .ref 9 .str],wpF Tryz.prog Jsj.g (na ()) Tryz.f79 Xu x
 |((n,k,ns,vs,tx),(tk,st,S,O,M,X,Q),s,())=>by
  refine J46 (by kernel_rfl) fun hp=> ?_
  have ha:Jhm (tk,st,S,O,M,X,Q) (n,k,ns,vs,tx):=hp.2
  rcases Vd ha.kind with h|h|h|h|h|h|h|h|h|h|h<;>dsimp only at h<;>subst h
  ·exact Juw n ns vs tx tk st S O M X Q s
  ·exact Jk3 n ns vs tx tk st S O M X Q s
  ·exact Jsn n ns vs tx tk st S O M X Q s
  ·exact Jso n ns vs tx tk st S O M X Q s
  ·exact Jsp n ns vs tx tk st S O M X Q s
  ·exact Jux n ns vs tx tk st S O M X Q s
  ·exact Jnu n ns vs tx tk st S O M X Q s
  ·exact Jk4 n ns vs tx tk st S O M X Q s
  ·exact Jnt n ns vs tx tk st S O M X Q s
  ·exact Jns n ns vs tx tk st S O M X Q s
  ·exact Jnr n ns vs tx tk st S O M X Q s
theorem K6e:Ok Tryz.prog 79 Xu:=V5 mixed Jsj.ok (by kernel_rfl) (by kernel_rfl) na fun xx=>K5w xx
abbrev K88:=Jsj.add K6e
theorem Jbg {α:Type} {p:α→Bool} {y:α} (h:p y=true):∀{l:List α} {k:Nat},0≤Vx p (l++[y]) k
 |[],k=>by
  show 0≤Vx p [y] k
  unfold Vx;rw[if_pos h];omega
 |x::l,k=>by
  show 0≤Vx p (x::(l++[y])) k
  unfold Vx
  split
  ·omega
  ·exact Jbg h
structure Kib (r r':Reg):Prop where
 o:∀s,0≤Kd r.2.2.2.1 s→0≤Kd r'.2.2.2.1 s
 x:∀s,0≤J6 r.2.2.2.2.2.1 s→0≤J6 r'.2.2.2.2.2.1 s
 q:∀s,0≤Va r.2.2.2.2.2.2 s→0≤Va r'.2.2.2.2.2.2 s
theorem Jxa {O:List Ord} {y:Ord} {s:ByteArray} (h:0≤Kd O s):0≤Kd (O++[y]) s:=by unfold Kd at h⊢;rw[Vn h];exact h
theorem Jw8 {O:List Out} {y:Out} {s:ByteArray} (h:0≤J6 O s):0≤J6 (O++[y]) s:=by unfold J6 at h⊢;rw[Vn h];exact h
theorem Jw9 {O:List Per} {y:Per} {s:ByteArray} (h:0≤Va O s):0≤Va (O++[y]) s:=by unfold Va at h⊢;rw[Vn h];exact h
theorem Ll {O:List Ord} {a s:ByteArray} {v:Int}:Kd (Vj O a v) s=Kd O s:=by
 unfold Kd Vj
 exact L0 fun x hx=>by
  have e:Vk O a=x:=Jck hx
  rw[e]
theorem Jkg {O:List Out} {a s:ByteArray} {v:Int}:J6 (Jad O a v) s=J6 O s:=by
 unfold J6 Jad
 exact L0 fun x hx=>by
  have e:Le O a=x:=Jck hx
  rw[e]
theorem Jcn {O:List Per} {a s:ByteArray}:Va (Jae O a) s=Va O s:=by
 unfold Va Jae
 exact L0 fun x hx=>by
  have e:Jnh O a=x:=Jck hx
  rw[e]
theorem Js1 (r:Reg) (e:Ev):Kib r (Jq r e):=by
 obtain⟨tk,st,S,O,M,X,Q⟩:=r
 obtain⟨n,k,ns,vs,tx⟩:=e
 unfold Jq doS
 split
 all_goals refine⟨fun s h=> ?_,fun s h=> ?_,fun s h=> ?_⟩
 all_goals first|exact h|(show 0≤Kd (Vj _ _ _) _;rw[Ll];exact h)|(show 0≤J6 (Jad _ _ _) _;rw[Jkg];exact h)|(show 0≤Va (Jae _ _) _;rw[Jcn];exact h)|exact Jxa h|exact Jw8 h|exact Jw9 h|exact Ll (O:=O)▸h|exact Jkg (O:=X)▸h|exact Jcn (O:=Q)▸h
theorem Jhm.mono {r r':Reg} {e:Ev} (h:Jhm r e) (hn:Kib r r'):Jhm r' e:=
 ⟨h.kind,fun q=>⟨(h.ord q).1,hn.o _ (h.ord q).2⟩,fun q=>⟨(h.out q).1,hn.x _ (h.out q).2⟩,fun q=>⟨(h.per q).1,hn.q _ (h.per q).2⟩⟩
theorem Joc (s:ByteArray):(s.toList==s.toList)=true:=beq_self_eq_true _
theorem J5e {h:Kh} {e:Ev} (hc:Jb e=0) (ha:Dc h e=0) (hk:(e.2.1.toList==Ju.toList)=false):Jhm (Jq (J7 h.2.2) e) e:=by
 obtain⟨n,k,ns,vs,tx⟩:=e
 have hE:=Ud hc
 rw[Yz hk] at ha
 obtain⟨z1,z2,z3,z4,z5⟩:=D9 ha
 generalize J7 h.2.2=r at*
 obtain⟨tk,st,S,O,M,X,Q⟩:=r
 have hn:=hE.nn
 clear ha z4 z5
 have hkd:=Vd hE.kind
 dsimp only at hn hkd hk z3
 rcases hkd with h|h|h|h|h|h|h|h|h|h|h<;>subst h
 ·exact⟨hE.kind,fun q=>absurd q (by rw[Jcg];decide),fun q=>absurd q (by rw[Jcg];decide),fun q=>absurd q (by rw[Jcg];decide)⟩
 ·exact⟨hE.kind,fun q=>absurd q (by rw[Kp];decide),fun q=>absurd q (by rw[Kp];decide),fun q=>absurd q (by rw[Kp];decide)⟩
 ·exact⟨hE.kind,fun q=>absurd q (by rw[U6];decide),fun q=>absurd q (by rw[U6];decide),fun q=>absurd q (by rw[U6];decide)⟩
 ·simp only[Uh,List.length_cons,List.length_nil] at hn z3
  refine⟨hE.kind,fun _=>⟨by dsimp only;omega, ?_⟩,fun q=>absurd q (by rw[Uh];decide),fun q=>absurd q (by rw[Uh];decide)⟩
  unfold Jq doS
  simp only[Uh]
  exact Jbg (p:=fun x:Ord=>x.1.toList==(ns.getD 0 Ja).toList) (l:=O) (Joc _)
 ·simp only[Ui,List.length_cons,List.length_nil] at hn z3
  refine⟨hE.kind,fun _=>⟨by dsimp only;omega, ?_⟩,fun q=>absurd q (by rw[Ui];decide),fun q=>absurd q (by rw[Ui];decide)⟩
  unfold Jq doS
  simp only[Ui]
  exact Jzt ((Jl z3).1 rfl)
 ·simp only[Vl,List.length_cons,List.length_nil] at hn z3
  refine⟨hE.kind,fun _=>⟨by dsimp only;omega, ?_⟩,fun q=>absurd q (by rw[Vl];decide),fun q=>absurd q (by rw[Vl];decide)⟩
  unfold Jq doS
  simp only[Vl]
  exact by show 0≤Kd (Vj _ _ _) _;rw[Ll];exact Jzt ((Jl z3).1 rfl)
 ·simp only[Kr,List.length_cons,List.length_nil] at hn z3
  refine⟨hE.kind,fun q=>absurd q (by rw[Kr];decide),fun _=>⟨by dsimp only;omega, ?_⟩,fun q=>absurd q (by rw[Kr];decide)⟩
  unfold Jq doS
  simp only[Kr]
  exact Jbg (p:=fun x:Out=>x.1.toList==(ns.getD 0 Ja).toList) (l:=X) (Joc _)
 ·simp only[J5,List.length_cons,List.length_nil] at hn z3
  refine⟨hE.kind,fun q=>absurd q (by rw[J5];decide),fun _=>⟨by dsimp only;omega, ?_⟩,fun q=>absurd q (by rw[J5];decide)⟩
  unfold Jq doS
  simp only[J5]
  exact by show 0≤J6 (Jad _ _ _) _;rw[Jkg];exact J1n ((Jl z3).1 rfl)
 ·simp only[K1,List.length_cons,List.length_nil] at hn z3
  refine⟨hE.kind,fun q=>absurd q (by rw[K1];decide),fun q=>absurd q (by rw[K1];decide),fun _=>⟨by dsimp only;omega, ?_⟩⟩
  unfold Jq doS
  simp only[K1]
  exact Jbg (p:=fun x:Per=>x.1.toList==(ns.getD 0 Ja).toList) (l:=Q) (Joc _)
 ·simp only[K0,List.length_cons,List.length_nil] at hn z3
  refine⟨hE.kind,fun q=>absurd q (by rw[K0];decide),fun q=>absurd q (by rw[K0];decide),fun _=>⟨by dsimp only;omega, ?_⟩⟩
  unfold Jq doS
  simp only[K0]
  exact by show 0≤Va (Jae _ _) _;rw[Jcn];exact Kik ((Jl z3).1 rfl)
 ·exact⟨hE.kind,fun q=>absurd q (by rw[Uy];decide),fun q=>absurd q (by rw[Uy];decide),fun q=>absurd q (by rw[Uy];decide)⟩
def Jne (h:Kh):Prop:=∀j k,j<h.2.1.length→j≤k→k<h.2.2.length→Jhm (h.2.2.getD k U9) (h.2.1.getD j ev0)
theorem Jmt {α:Type} {l:List α} {m k:Nat} {d:α} (h:k<m):(l.take m).getD k d=l.getD k d:=by
 rw[List.getD_eq_getElem?_getD,List.getD_eq_getElem?_getD,List.getElem?_take_of_lt h]
theorem Fe {α:Type} {l m:List α} {k:Nat} {d:α} (h:k<l.length):(l++m).getD k d=l.getD k d:=by
 rw[List.getD_eq_getElem?_getD,List.getD_eq_getElem?_getD,List.getElem?_append_left h]
theorem Jf2 {α:Type} {l:List α} {y d:α}:(l++[y]).getD l.length d=y:=by
 rw[List.getD_eq_getElem?_getD,List.getElem?_append_right (Nat.le_refl _),Nat.sub_self];rfl
theorem Ktt {h:Kh} {e:Ev} (hi:Ys h) (hA:Jne h) (ha:Ue h e=0):Jne (Hz h e):=by
 obtain⟨hc,hacc⟩:=add_zero ha
 have n3:=hi.ok.nG
 have hlast:∀e'∈[e],(e.2.1.toList==Ju.toList)=false→Jhm (Jq (J7 h.2.2) e) e:=fun _ _ hk=>J5e hc hacc hk
 obtain⟨E,C,G⟩:=h
 dsimp only at n3
 cases hk:e.2.1.toList==Ju.toList with
 |true=>
  unfold Hz
  rw[hk,cond_true]
  intro j k h1 h2 h3
  simp only[List.length_take] at h1 h3
  dsimp only
  rw[Jmt Oo,Jmt Oo]
  exact hA j k (by dsimp only;omega) h2 (by dsimp only;omega)
 | false =>
  unfold Hz
  rw[hk,cond_false]
  intro j k h1 h2 h3
  simp only[List.length_append,List.length_singleton] at h1 h3
  dsimp only
  by_cases hkn:k<G.length
  ·rw[Fe hkn,Fe Oo]
   exact hA j k (by dsimp only;omega) h2 (by dsimp only;omega)
  ·have ek:k=G.length:=by omega
   rw[ek,Jf2]
   by_cases hj:j<C.length
   ·rw[Fe hj]
    have:=hA j (G.length-1) hj Oo (by dsimp only;omega)
    exact this.mono (Js1 (J7 G) e)
   ·have ej:j=C.length:=by omega
    rw[ej,Jf2]
    exact hlast e (List.mem_singleton.2 rfl) hk
theorem J3s:∀{l:List Ev} {h:Kh},Ys h→Jne h→h.1.length+l.length≤1000→Jne (Dz h l).1
 |[],_,_,hA,_=>hA
 | e :: l, h, hi, hA, hl => by
  unfold Dz
  simp only[List.length_cons] at hl
  by_cases ha:Ue h e=0
  ·rw[if_pos ha]
   exact J3s (Jb0 hi Oo ha) (Ktt hi hA ha) (by rw[Xz];omega)
  ·rw[if_neg ha];exact hA
theorem Jw1:Jne Xt:=fun j k h1 _ _=>by cases h1
theorem J0z {l:List Ev}:Jne (Jd l).1:=by
 unfold Jd
 by_cases h:1000<l.length
 ·rw[if_pos h];exact Jw1
 ·rw[if_neg h];exact J3s Xy Jw1 (by show 0+l.length≤1000;omega)
theorem Kcm {h:Kh} (hi:Ys h) (hA:Jne h) {e:Ev} (he:e∈h.2.1):Jhm (J7 h.2.2) e:=by
 obtain⟨j,hj,rfl⟩:=List.mem_iff_getElem.1 he
 have n3:=hi.ok.nG
 have:=hA j (h.2.2.length-1) hj Oo Oo
 rw[List.getD_eq_getElem?_getD (l:=h.2.1),List.getElem?_eq_getElem hj] at this
 exact this
def V3 (xs:List ByteArray) (sep:ByteArray):ByteArray:=⟨(Lib.join (xs.map (·.data.toList)) sep.data.toList).toArray⟩
def Ks1:Con:={args:=[.val false (.list 9 .str),aS],ress:=[tS],owns:=[],pre:=fun(xs,sep,_)=>[xs.length≤1000000,(Lib.join (xs.map (·.data.toList)) sep.data.toList).length≤140737488355328],spec:=fun(xs,sep,_)=>(V3 xs sep,())}
def Vw (n:Int):ByteArray:=⟨(Lib.itoa n).toArray⟩
def Ks2:Con:={args:=[aI],ress:=[tS],owns:=[],pre:=fun(n,_)=>[-9223372036854775808≤n∧n≤9223372036854775807],spec:=fun(n,_)=>(Vw n,())}
theorem J2c (w:World) (q:Nat) (os:Array Obj):RowKit.Below w.heap.size w (Sort.grow (w.drewN q) os):=
 ⟨rfl,rfl,rfl,by first|(simp[Sort.grow];done)|(simp[Sort.grow];omega),fun i hi=>by
  show((w.drewN q).heap++os)[i]? =_
  rw[Array.getElem?_append_left (by show i<w.heap.size;omega)]
  rfl⟩
theorem Kru:Ok Tryz.prog 122 Ks2:=by
 refine⟨⟨Tryz.f122,by kernel_rfl,by kernel_rfl,by kernel_rfl⟩,fun z hz=>(by cases hz),fun F hF=>(by cases hF),fun _ x M R w vs hM hg hpre hargs=> ?_⟩
 obtain⟨n,u⟩:=x
 obtain⟨v,vs',rfl,ha,hr⟩:=hargs
 have hr:vs'=[]:=hr
 subst hr
 obtain⟨cs,rfl,hc⟩:=ha
 have hc:cs=[.int .i64 n]:=hc
 subst hc
 have hpre: -9223372036854775808≤n∧n≤9223372036854775807:=hpre
 refine(Tryz.strconv_Itoa n hpre.1 hpre.2 w (hg w (Sx.Below.refl _ _)).1).mono ?_
 rintro e w' ⟨rfl,k,os,rfl⟩
 exact⟨M,[.string (Vw n)],rfl, .ofK (J2c w k os),fun _ h=>h,fun b h=> .inl h,_,[],rfl,⟨_,rfl,rfl⟩,rfl⟩
theorem Krt:Ok Tryz.prog 123 Ks1:=by
 refine⟨⟨Tryz.f123,by kernel_rfl,by kernel_rfl,by kernel_rfl⟩,fun z hz=>(by cases hz),fun F hF=>(by cases hF),fun _ x M R w vs hM hg hpre hargs=> ?_⟩
 obtain⟨xs,sep,u⟩:=x
 obtain⟨v,vs',rfl,ha,v2,vs2,rfl,hb,hr⟩:=hargs
 have hr:vs2=[]:=hr
 subst hr
 obtain⟨cs,rfl,hc⟩:=ha
 obtain⟨cs2,rfl,hc2⟩:=hb
 have hc2:cs2=[.string sep]:=hc2
 subst hc2
 obtain⟨v,flat,rfl,f1,f2⟩:=hc
 obtain⟨p1,p2⟩:=hpre
 have hflat:=Je4 f1
 have fin:∀(e:Ending) (w':World),e= .returned (.string (V3 xs sep))→RowKit.Below w.heap.size w w'→Jpu M w [tS] [] (V3 xs sep,()) e w':=fun e w' he hb=>
  ⟨M,[.string (V3 xs sep)],he, .ofK hb,fun _ h=>h,fun b h=> .inl h,_,[],rfl,⟨_,rfl,rfl⟩,rfl⟩
 rcases f2 with⟨rfl|⟨ad,cap,rfl⟩,h0⟩|⟨b,off,cap,rfl,hcap,hk,hm⟩
 ·have:xs=[]:=List.eq_nil_of_length_eq_zero h0
  subst this
  refine(Tryz.strings_Join_none none 0 sep w).mono ?_
  rintro e w' ⟨rfl,rfl⟩
  exact fin _ _ rfl (RowKit.Below.refl _ _)
 ·have:xs=[]:=List.eq_nil_of_length_eq_zero h0
  subst this
  refine(Tryz.strings_Join_none (some ad) cap sep w).mono ?_
  rintro e w' ⟨rfl,rfl⟩
  exact fin _ _ rfl (RowKit.Below.refl _ _)
 ·cases hx:xs with
  |nil=>
   subst hx
   refine(Tryz.strings_Join_none (some ⟨b,off,none⟩) cap sep w).mono ?_
   rintro e w' ⟨rfl,rfl⟩
   exact fin _ _ rfl (RowKit.Below.refl _ _)
  |cons x0 r=>
   rw[←hx]
   have hne:flat≠[]:=by rw[hflat,hx];simp
   refine(Tryz.strings_Join b off cap xs sep w (fun j x hj=>hk j _ (by rw[hflat,List.getElem?_map,hj];rfl)) (hM b (.inl (hm hne))) Oo hcap p2).mono ?_
   rintro e w' ⟨rfl,hb⟩
   exact fin _ _ rfl hb
abbrev K87:=K88.add Krt
abbrev K86:=K87.add Kru
def Za (s p:ByteArray):List ByteArray:=Lib.splitB p 0 (Lib.countB s p) s
def Jrp:Con:={args:=[aS,aS],ress:=[(false, .list 9 .str)],owns:=[true],pre:=fun(s,p,_)=>[s.size≤1000000,1≤p.size],spec:=fun(s,p,_)=>(Za s p,())}
theorem Jhz {M:Nat→Prop} {w:World}:∀{xs:List ByteArray},Yj (Rep M w .str) xs (xs.map Value.string)
 |[]=>rfl
 |x::xs=>⟨[.string x],xs.map Value.string,rfl,rfl,Jhz⟩
theorem K6r:Ok Tryz.prog 61 Jrp:=by
 refine⟨⟨Tryz.f61,by kernel_rfl,by kernel_rfl,by kernel_rfl⟩,fun z hz=>(by cases hz),fun F hF=>(by cases hF),fun _ x M R w vs hM hg hpre hargs=> ?_⟩
 obtain⟨s,p,u⟩:=x
 obtain⟨v1,vs1,rfl,ha1,v2,vs2,rfl,ha2,hr⟩:=hargs
 have hr:vs2=[]:=hr
 subst hr
 obtain⟨cs1,rfl,hc1⟩:=ha1
 obtain⟨cs2,rfl,hc2⟩:=ha2
 have hc1:cs1=[.string s]:=hc1
 have hc2:cs2=[.string p]:=hc2
 subst hc1;subst hc2
 have hpre:s.size≤1000000∧1≤p.size:=hpre
 refine(Tryz.strings_Split_shaped s p w ((hg w (.refl _ _)).2 rfl).1 Oo hpre.2).mono ?_
 rintro e w' ⟨rfl,rfl⟩
 have hlen:(Za s p).length=Lib.countB s p+1:=Lib.splitB_all p hpre.2 0 _ s rfl
 have hle:=Lib.countB_le p hpre.2 s.size s (Nat.le_refl _)
 refine⟨M,[_],rfl, .ofK ⟨rfl,rfl,rfl,by show w.heap.size≤(w.heap.push _).size;simp,fun i hi=> ?_⟩,fun _ h=>h,fun b h=> .inl h,_,[],rfl,⟨(Za s p).map Value.string,Jhz,⟨by simp[Sch.size,Jrp], .inr ⟨w.heap.size,Lib.countB s p+1,_,by rw[show(Jrp.spec (s,p,u)).1=Za s p from rfl,hlen],Nat.le_refl _,heap_alloc_new w _,by rw[show(Jrp.spec (s,p,u)).1=Za s p from rfl,hlen];exact Nat.le_refl _, ?_, ?_, ?_⟩⟩, ?_⟩,rfl⟩
 ·show(w.heap.push _)[i]? =_
  rw[Array.getElem?_push]
  split
  ·omega
  ·rfl
 ·show _≤9223372036854775807
  have:s.size≤1000000:=hpre.1
  omega
 ·show(List.map Value.string (Za s p)).toArray.size=_
  simp[Sch.size,hlen]
 ·show(List.map Value.string (Za s p)).take ((Za s p).length*1)=_
  rw[List.take_of_length_le (by simp)]
 ·intro g hgb hM'
  have:w.heap.size=g:=Option.some.inj hgb
  have:=hM g (.inl hM')
  omega
abbrev K85:=K86.add K6r
def Kta:Con:={args:=[],ress:=[],owns:=[],pre:=fun _=>[False],spec:=fun _=>(),prim:=some Ktg}
theorem J6o (s:ByteArray) (w:World) (hs:s.size≤1000000) (hg:Sx.Good Tryz.prog w):Calls Tryz.prog 260 #[.string s] w fun e w'=>∃u,e= .returned (.tuple #[.int .i64 (Juj s),u])∧Jky (Jyj s) u∧Sx.Below w.heap.size w w':=by
 have hw:=(hg w (.refl _ _)).2 rfl
 cases h:Lib.atoiAll s.data.toList
 ·rename_i v
  have e1:Juj s=v:=by unfold Juj;rw[h]
  have e2:Jyj s=false:=by unfold Jyj;rw[h]
  rw[e1,e2]
  refine Calls.mono (Any.strconv_Atoi_ok Tryz.laysAtoi s Oo v h w) ?_
  rintro e w' ⟨rfl,rfl|⟨t,rfl⟩⟩
  ·exact⟨_,rfl,rfl, .refl _ _⟩
  ·exact⟨_,rfl,rfl, .ofK (Lib.bytesWorld_below w _ t)⟩
 ·have e1:Juj s=0:=by unfold Juj;rw[h]
  have e2:Jyj s=true:=by unfold Jyj;rw[h]
  rw[e1,e2]
  obtain⟨tp,pe,hv⟩:=hw.2.1
  refine Calls.mono (Any.strconv_Atoi_syntax_var Tryz.laysAtoi s Oo h tp pe w hv) ?_
  rintro e w' ⟨N,rfl,_,_,hb⟩
  exact⟨_,rfl,⟨_,_,rfl⟩, .ofK hb⟩
 ·have e1:Juj s=Lib.atoiSat s.data.toList:=by unfold Juj;rw[h]
  have e2:Jyj s=true:=by unfold Jyj;rw[h]
  rw[e1,e2]
  obtain⟨tp,pe,hv⟩:=hw.2.2
  refine Calls.mono (Any.strconv_Atoi_range_var Tryz.laysAtoi s Oo h tp pe w hv) ?_
  rintro e w' ⟨N,rfl,_,_,hb⟩
  exact⟨_,rfl,⟨_,_,rfl⟩, .ofK hb⟩
theorem Ko4:Ok Tryz.prog 260 Kta:=⟨⟨Tryz.f260,by kernel_rfl,by kernel_rfl,by kernel_rfl⟩,fun z hz=>(by cases hz),fun F hF=>(by cases hF;exact J7g fun s w hs hg=>J6o s w hs hg),fun _ x M R w vs _ _ hpre _=>False.elim hpre⟩
abbrev K84:=K85.add Ko4
def Jzv (s p:ByteArray):ByteArray×ByteArray×Bool:=(⟨(Lib.cut s.data.toList p.data.toList).1.toArray⟩,⟨(Lib.cut s.data.toList p.data.toList).2.1.toArray⟩,(Lib.cut s.data.toList p.data.toList).2.2)
def K7x:Con:={args:=[aS,aS],ress:=[tS,tS,Bo],owns:=[],pre:=fun(s,_)=>[s.size≤1000000],spec:=fun(s,p,_)=>((Jzv s p).1,(Jzv s p).2.1,(Jzv s p).2.2,())}
theorem J2d (w:World) (q:Nat):RowKit.Below w.heap.size w (w.drewN q):=⟨rfl,rfl,rfl,Nat.le_refl _,fun i _=>rfl⟩
theorem Kr1:Ok Tryz.prog 107 K7x:=by
 refine⟨⟨Tryz.f107,by kernel_rfl,by kernel_rfl,by kernel_rfl⟩,fun z hz=>(by cases hz),fun F hF=>(by cases hF),fun _ x M R w vs hM hg hpre hargs=> ?_⟩
 obtain⟨s,p,u⟩:=x
 obtain⟨v1,vs1,rfl,ha1,v2,vs2,rfl,ha2,hr⟩:=hargs
 have hr:vs2=[]:=hr
 subst hr
 obtain⟨cs1,rfl,hc1⟩:=ha1
 obtain⟨cs2,rfl,hc2⟩:=ha2
 have hc1:cs1=[.string s]:=hc1
 have hc2:cs2=[.string p]:=hc2
 subst hc1;subst hc2
 have hpre:s.size≤1000000:=hpre
 refine(Tryz.strings_Cut_shaped s p w ((hg w (.refl _ _)).2 rfl).1 Oo).mono ?_
 rintro e w' ⟨rfl,n,rfl⟩
 exact⟨M,[.string (Jzv s p).1, .string (Jzv s p).2.1, .bool (Jzv s p).2.2],rfl, .ofK (J2d w n),fun _ h=>h,fun b h=> .inl h,_,_,rfl,⟨_,rfl,rfl⟩,_,_,rfl,⟨_,rfl,rfl⟩,_,[],rfl,⟨_,rfl,rfl⟩,rfl⟩
abbrev K83:=K84.add Kr1
def Kb9 (s:ByteArray) (n:Int):ByteArray:=⟨(Lib.repeatL s.data.toList n.toNat).toArray⟩
def K7j:Con:={args:=[aS,aI],ress:=[tS],owns:=[],pre:=fun(s,n,_)=>[s.size≤1000000,0≤n∧n≤1000000],spec:=fun(s,n,_)=>(Kb9 s n,())}
theorem Ko5:Ok Tryz.prog 258 K7j:=by
 refine⟨⟨Tryz.f258,by kernel_rfl,by kernel_rfl,by kernel_rfl⟩,fun z hz=>(by cases hz),fun F hF=>(by cases hF),fun _ x M R w vs hM hg hpre hargs=> ?_⟩
 obtain⟨s,n,u⟩:=x
 obtain⟨v1,vs1,rfl,ha1,v2,vs2,rfl,ha2,hr⟩:=hargs
 have hr:vs2=[]:=hr
 subst hr
 obtain⟨cs1,rfl,hc1⟩:=ha1
 obtain⟨cs2,rfl,hc2⟩:=ha2
 have hc1:cs1=[.string s]:=hc1
 have hc2:cs2=[.int .i64 n]:=hc2
 subst hc1;subst hc2
 obtain⟨p1,p2,p3⟩:=hpre
 have p1:s.size≤1000000:=p1
 have p2:0≤n:=p2
 have p3:n≤1000000:=p3
 obtain⟨c,rfl⟩:=Int.eq_ofNat_of_zero_le p2
 have p3:(c:Int)≤1000000:=p3
 have hm:s.size*c≤1000000*1000000:=Nat.mul_le_mul p1 Oo
 refine(Tryz.strings_Repeat s c w Oo Oo).mono ?_
 rintro e w' ⟨rfl,hb⟩
 exact⟨M,[.string (Kb9 s c)],rfl, .ofK hb,fun _ h=>h,fun b h=> .inl h,_,[],rfl,⟨_,rfl,rfl⟩,rfl⟩
abbrev K82:=K83.add Ko5
abbrev tI:Bool×Sch:=(false, .int .i64)
abbrev tB:Bool×Sch:=(false, .bool)
abbrev K5z:Bool×Sch:=(false, .str)
abbrev taI:AK:= .val false (.int .i64)
abbrev taS:AK:= .val false .str
theorem J45 {n:Int} (h0:0≤n) (h1:n<256):IntKind.u8.wrap n=n:=by
 simp[IntKind.wrap,IntKind.signed,IntKind.bits]
 omega
def Xs (c:Int):Bool:=decide (48≤c)&&decide (c≤57)
theorem Jmp (c:Int):(bif decide (c<48) then true else decide (57<c))= !Xs c:=by
 unfold Xs
 have e1:decide (c<48)= !decide ((48:Int)≤c):=by rw[Bool.eq_iff_iff];simp
 have e2:decide ((57:Int)<c)= !decide (c≤57):=by rw[Bool.eq_iff_iff];simp
 rw[e1,e2]
 cases decide ((48:Int)≤c)<;>cases decide (c≤57)<;>rfl
def Kl:List UInt8→Int→Int×Bool
 |[],n=>(n,true)
 |c::r,n=>if Xs c.toNat=true then Kl r (10*n+(c.toNat-48)) else(0,false)
def Jbo (s:ByteArray):Bool:=decide (s.size=0)||decide (9<s.size)||(decide (1<s.size)&&decide (Jbt s 0=48))
def Ka (s:ByteArray):Int×Bool:=if Jbo s=true then(0,false) else Kl s.data.toList 0
def J64:Con:={args:=[taS],ress:=[tI,tB],owns:=[],pre:=fun(s,_)=>[s.size≤1000000],spec:=fun(s,_)=>((Ka s).1,(Ka s).2,())}
theorem Jyg (s:ByteArray):(bif bif ((s.size:Int)==0) then true else decide (9<(s.size:Int)) then true else bif decide (1<(s.size:Int)) then(((s.data.toList.getD 0 0).toNat:Int)==48) else false)=Jbo s:=by
 have e1:((s.size:Int)==0)=decide (s.size=0):=by rw[Bool.eq_iff_iff];simp
 have e2:decide (9<(s.size:Int))=decide (9<s.size):=by rw[decide_eq_decide];omega
 have e3:decide (1<(s.size:Int))=decide (1<s.size):=by rw[decide_eq_decide];omega
 have e4:(((s.data.toList.getD 0 0).toNat:Int)==48)=decide (Jbt s 0=48):=by rw[Bool.eq_iff_iff];simp[Jbt]
 have k:∀a b c d:Bool,(bif bif a then true else b then true else bif c then d else false)=(a||b||(c&&d)):=by decide
 rw[e1,e2,e3,e4,k];rfl
theorem Jge {c:Nat} (h:Xs c=true):48≤c∧c≤57:=by
 unfold Xs at h
 simp only[Bool.and_eq_true,decide_eq_true_eq] at h
 omega
abbrev K81:=K82
theorem Jar:∀{l:List UInt8} {n:Int},0≤n→0≤(Kl l n).1∧(Kl l n).1<(n+1)*10^l.length
 |[],n,h=>⟨h,by simp[Kl];omega⟩
 | c :: r, n, h => by
  unfold Kl
  split
  ·rename_i hc
   have hr:=Jge hc
   have ih:=Jar (l:=r) (n:=10*n+(c.toNat-48)) Oo
   refine⟨ih.1,Int.lt_of_lt_of_le ih.2 ?_⟩
   rw[List.length_cons,Int.pow_succ,Int.mul_comm (10^r.length),←Int.mul_assoc]
   exact Int.mul_le_mul_of_nonneg_right Oo (Int.pow_nonneg Od)
  ·refine⟨Int.le_refl _,Int.mul_pos Oo (Int.pow_pos Od)⟩
theorem Jo6 (s:ByteArray):0≤(Ka s).1∧(Ka s).1<1000000000:=by
 unfold Ka
 split
 ·exact⟨Int.le_refl _,Od⟩
 ·rename_i h
  have h:Jbo s=false:=by simpa using h
  have h9:s.size≤9:=by
   unfold Jbo at h
   simp only[Bool.or_eq_false_iff,decide_eq_false_iff_not] at h
   omega
  have:=Jar (l:=s.data.toList) (n:=0) (Int.le_refl _)
  refine⟨this.1,Int.lt_of_lt_of_le this.2 ?_⟩
  have hp:=Nat.pow_le_pow_right (n:=10) Od h9
  have hl:s.data.toList.length=s.size:=by simp
  rw[hl,Int.zero_add,Int.one_mul]
  have e:((10:Int)^s.size)=((10^s.size:Nat):Int):=by simp
  rw[e]
  have h2:((10^s.size:Nat):Int)≤((10^9:Nat):Int):=Int.ofNat_le.2 hp
  have h3:((10^9:Nat):Int)=1000000000:=by decide
  omega
def Jkz (c:UInt8):List UInt8→List (List UInt8)
 |[]=>[[]]
 |x::r=>if x=c then[]::Jkz c r else match Jkz c r with
  |[]=>[[x]]
  |h::t=>(x::h)::t
def bs (l:List UInt8):ByteArray:=⟨l.toArray⟩
def Jex (s:ByteArray) (c:Int):List ByteArray:=(Jkz (UInt8.ofNat c.toNat) s.data.toList).map bs
theorem J5g (c:UInt8):∀l,Jkz c l≠[]
 |[]=>by simp[Jkz]
 |x::r=>by
  unfold Jkz
  split
  ·simp
  ·split<;>simp
theorem Ja6 (c x:UInt8) (r:List UInt8):Jkz c (x::r)=if x=c then[]::Jkz c r else match Jkz c r with
  |[]=>[[x]]
  |h::t=>(x::h)::t:=rfl
abbrev Kh9:=K81
def Zg (n:Int):ByteArray:=⟨(Lib.itoa n).toArray⟩
def Jxt (k:Nat):Con:={args:=[taI],ress:=[K5z],owns:=[],pre:=fun(n,_)=>[k≤18,-(10^k:Int)<n,n<10^(k+1)],spec:=fun(n,_)=>(Zg n,())}
def Kks (a:Int):=(Iw (48+a)∧0<1)∧ByteArray.mk (Array.mk [UInt8.ofNat (Int.toNat (IntKind.wrap IntKind.u8 (48+a)))])=Zg a
def Z74 (a:Int):=0-Int.tmod a 10
def Kh8:=(10:Int)=0→False
def Kg8 (a:Nat):=(10:Int)^(a+(1:Nat))
def Klt (a:Nat):= -10^a
def K05 (a:Int) (b:Nat):=Int.tdiv a 10<Kg8 b
def Kzx (a:Nat) (b:Int):=Klt a<Int.tdiv b 10
theorem J0l {l:List UInt8} {n:Int} (h:l=Lib.itoa n):(⟨⟨l⟩⟩:ByteArray)=Zg n:=by subst h;rfl
theorem Ju2 (u:Nat):(Zg (u:Int)).data.toList=Lib.decDigits u:=by unfold Zg;rw[Lib.itoa_nonneg]
theorem Kb3 (u:Nat) (h:1≤u):(Zg (-(u:Int))).data.toList=45::Lib.decDigits u:=by unfold Zg;rw[Lib.itoa_neg u h]
theorem Ji5 (n:Int) (h0: -9223372036854775808≤n) (h1:n≤9223372036854775807):(Zg n).size≤21:=by
 have:=Lib.itoa_length_le n h0 h1
 show(Lib.itoa n).toArray.size≤21
 simpa using this
theorem Jo9 {u:Nat} (h:¬u<10):Lib.decDigits u=Lib.decDigits (u/10)++[UInt8.ofNat (48+u %10)]:=by rw[Lib.decDigits,dif_neg h]
theorem J3m {x:Nat} (h:x<10):UInt8.ofNat (IntKind.u8.wrap (48+(x:Int))).toNat=UInt8.ofNat (48+x):=by
 rw[J45 Oo Oo]
 congr 1
theorem Jl7 (n:Int) (h0:¬n<0) (h1:n<10):(⟨⟨[UInt8.ofNat (IntKind.u8.wrap (48+n)).toNat]⟩⟩:ByteArray)=Zg n:=by
 obtain⟨u,rfl⟩:=Int.eq_ofNat_of_zero_le (by omega:0≤n)
 refine J0l ?_
 have e:Lib.itoa (u:Int)=Lib.decDigits u:=Lib.itoa_nonneg u
 have hu:u<10:=by omega
 rw[e,Lib.decDigits_one hu]
 exact congrArg (·::[]) (J3m hu)
theorem Kb1 (n:Int):wpF Tryz.prog Kh9.g (na ()) Tryz.f194 (Jxt 0) (n,()):=by
 refine(by kernel_rfl:(0≤18→-10^0<n→n<10^1→Br (decide (n<0)) (Br (decide ((-10)<n)) (Jzj 3 2) (Jzj 4 2)) (Br (decide (n<10)) (Kks n) (Jzj 7 2)))=_).mp ?_
 delta Kks Br Iw
 intro _ h0 h1
 have e0:(10:Int)^0=1:=rfl
 have e1:(10:Int)^1=10:=rfl
 rw[e0] at h0
 rw[e1] at h1
 refine⟨fun h=>absurd (of_decide_eq_true h) Oo,fun h=>⟨fun h2=>⟨⟨Oo,Od⟩,Jl7 n (of_decide_eq_false h) (of_decide_eq_true h2)⟩,fun h2=>absurd (of_decide_eq_false h2) Oo⟩⟩
theorem Kb0 (k:Nat) (n:Int):wpF Tryz.prog ((194,Jxt k)::Kh9.g) (na ()) Tryz.f194 (Jxt (k+1)) (n,()):=by
 refine(by kernel_rfl:(k+1≤18→-Kg8 k<n→n<10^(k+1+1)→Br (decide (n<0)) (Br (decide ((-10)<n)) ((Iw (0-n)∧k≤18∧Klt k<0-n∧0-n<Kg8 k∧Nc (1+ByteArray.size (Zg (0-n)))≤9223372036854775807)∧ByteArray.mk (Array.mk (45::([]++(Zg (0-n)).data.toList)))=Zg n) ((Kh8∧Iw (Int.tdiv n 10)∧k≤18∧Kzx k n∧K05 n k∧Kh8∧Iw (Z74 n)∧k≤18∧Klt k<Z74 n∧Z74 n<Kg8 k∧Nc (ByteArray.size (Zg (Int.tdiv n 10))+ByteArray.size (Zg (Z74 n)))≤9223372036854775807)∧ByteArray.mk (Array.mk ((Zg (Int.tdiv n 10)).data.toList++(Zg (Z74 n)).data.toList))=Zg n)) (Br (decide (n<10)) (Kks n) ((Kh8∧Iw (Int.tdiv n 10)∧k≤18∧Kzx k n∧K05 n k∧Kh8∧Iw (48+Int.tmod n 10)∧0<1∧Nc (ByteArray.size (Zg (Int.tdiv n 10))+1)≤9223372036854775807)∧ByteArray.mk (Array.mk ((Zg (Int.tdiv n 10)).data.toList++[UInt8.ofNat (Int.toNat (IntKind.wrap IntKind.u8 (48+Int.tmod n 10)))]))=Zg n)))=_).mp ?_
 delta Z74 Kh8 Kg8 Klt K05 Kzx Kks Br Iw Nc
 intro hk h0 h1
 have hp0:(0:Int)<10^k:=Int.pow_pos Od
 have hp1:(1:Int)≤10^k:=by omega
 have hp2:(10:Int)^k≤100000000000000000:=by
  have h:=Nat.pow_le_pow_right (n:=10) Od (show k≤17 by omega)
  have h2:((10^k:Nat):Int)≤((10^17:Nat):Int):=Int.ofNat_le.2 h
  have h3:((10^17:Nat):Int)=100000000000000000:=by decide
  have e:((10:Int)^k)=((10^k:Nat):Int):=by simp
  omega
 have e1:(10:Int)^(k+1)=10^k*10:=Int.pow_succ ..
 have e2:(10:Int)^(k+1+1)=10^k*10*10:=by rw[Int.pow_succ,e1]
 rw[e1] at h0
 rw[e2] at h1
 rw[e1]
 generalize(10:Int)^k=p at*
 refine⟨fun h=>⟨fun h2=> ?_,fun h2=> ?_⟩,fun h=>⟨fun h2=>⟨⟨by have:=of_decide_eq_true h2;have:=of_decide_eq_false h;omega,Od⟩,Jl7 n (of_decide_eq_false h) (of_decide_eq_true h2)⟩,fun h2=> ?_⟩⟩
 ·have h:=of_decide_eq_true h
  have h2:=of_decide_eq_true h2
  obtain⟨u,hu⟩:=Int.eq_ofNat_of_zero_le (by omega:0≤0-n)
  have hn:n= -(u:Int):=by omega
  have hs:=Ji5 (0-n) Oo Oo
  refine⟨⟨Oo,Oo,Oo,Oo,Oo⟩,J0l ?_⟩
  rw[hu,Ju2,hn,Lib.itoa_neg u Oo];rfl
 ·have h:=of_decide_eq_true h
  have h2:=of_decide_eq_false h2
  obtain⟨u,hu⟩:=Int.eq_ofNat_of_zero_le (by omega:0≤0-n)
  have hn:n= -(u:Int):=by omega
  have ed:n.tdiv 10= -((u/10:Nat):Int):=by rw[hn,Int.neg_tdiv];rfl
  have em:n.tmod 10= -((u %10:Nat):Int):=by rw[hn,Int.neg_tmod];rfl
  have em2:0-n.tmod 10=((u %10:Nat):Int):=by rw[em];omega
  rw[em2,ed]
  have hs1:=Ji5 (-((u/10:Nat):Int)) Oo Oo
  have hs2:=Ji5 ((u %10:Nat):Int) Oo Oo
  refine⟨⟨Oo,Oo,Oo,Oo,Oo,Oo,Oo,Oo,Oo,Oo,Oo⟩,J0l ?_⟩
  rw[Kb3 _ Oo,Ju2,hn,Lib.itoa_neg u Oo,Jo9 (u:=u) Oo,Lib.decDigits_one (i:=u %10) Oo];rfl
 ·have h:=of_decide_eq_false h
  have h2:=of_decide_eq_false h2
  obtain⟨u,hu⟩:=Int.eq_ofNat_of_zero_le (by omega:0≤n)
  subst hu
  have ed:(u:Int).tdiv 10=((u/10:Nat):Int):=rfl
  have em:(u:Int).tmod 10=((u %10:Nat):Int):=rfl
  rw[em,ed]
  have hs1:=Ji5 ((u/10:Nat):Int) Oo Oo
  refine⟨⟨Oo,Oo,Oo,Oo,Oo,Oo,Oo,Od,Oo⟩,J0l ?_⟩
  rw[Ju2,Lib.itoa_nonneg,Jo9 (u:=u) Oo,J3m Oo]
theorem J3w:∀k,Ok Tryz.prog 194 (Jxt k)
 |0=>V5 mixed Kh9.ok (by kernel_rfl) (by kernel_rfl) na fun xx=>Kb1 xx.1
 |k+1=>V5 mixed (.cons (J3w k) Kh9.ok) (by kernel_rfl) rfl na fun xx=>Kb0 k xx.1
theorem Kp5:Ok Tryz.prog 194 (Jxt 17):=J3w 17
abbrev K46:=Kh9.add Kp5
def Ht:List UInt8→Bool
 |[]=>true
 |b::r=>Xs (b.toNat:Int)&&Ht r
def Juh (s:ByteArray):Bool:=Ht s.data.toList&&decide (0<s.size)
def K7w:Con:={args:=[aS],ress:=[Bo],owns:=[],pre:=fun(s,_)=>[s.size≤1000000],spec:=fun(s,_)=>(Juh s,())}
abbrev Keh (s:ByteArray):Ann:={X:=Nat,σ:=fun k=>⟨1,[(0, .one (.str s)),(6, .one (.sl 0))],[(0, .siter s k)]⟩,inv:=fun k=>k≤s.size∧Ht s.data.toList=Ht (s.data.toList.drop k),mu:=fun k=>s.size-k}
theorem Jia {c:Int} (h:128≤c):Xs c=false:=by
 unfold Xs
 rw[decide_eq_false (show ¬c≤57 by omega),Bool.and_false]
def Klj (a:Nat) (b:Bt):=a≤ByteArray.size b∧Ht (Z16 b)=Ht (List.drop a (Z16 b))
theorem Kqa:Ok Tryz.prog 186 K7w:=Jzr K46 Tryz.f186 (U5 (l:=([]:List (Nat×Func))) (by simp)) (fun xx=>Zn (Keh xx.1)) (fun xx=>fun _=>na ()) fun xx=>by
 obtain⟨(s:ByteArray),_⟩:=xx
 refine(by kernel_rfl:(ByteArray.size s≤1000000→∃(x:Nat),Sf s (Sf s (0=x))∧Klj x s∧∀(x:Nat),Klj x s→(x<ByteArray.size s→Br true (Br (Kmm s x) (Sf true (false=Juh s)) (∃(y:Nat),Sf s (Sf s (x+Jhb s x=y))∧Klj y s∧ByteArray.size s-y<ByteArray.size s-x)) (Sf true ((!Lb s B0)=Juh s)))∧((x<ByteArray.size s→False)→Br false False (Sf true ((!Lb s B0)=Juh s))))=_).mp ?_
 delta Z16 Kmm Klj Br Sf B0 Lb
 intro hb
 refine⟨(0:Nat),⟨rfl,rfl,rfl⟩,⟨Nat.zero_le _,by simp⟩,fun(k:Nat) hk=>⟨fun h=>⟨fun _=>⟨fun h1=>⟨rfl, ?_⟩,fun h1=> ?_⟩,fun h=>(by cases h)⟩,fun h=> ?_⟩⟩
 ·rw[Jmp] at h1
  have h2:Xs (Yk s k)=false:=by simpa using h1
  unfold Juh
  have h3:Ht s.data.toList=false:=by
   rw[hk.2,Fj h,Ht]
   by_cases ha:(s[k]'h).toNat<128
   ·rw[←(Jd4 h ha).1,h2];rfl
   ·rw[Jia Oo];rfl
  rw[h3];rfl
 ·rw[Jmp] at h1
  have h2:Xs (Yk s k)=true:=by simpa using h1
  by_cases ha:(s[k]'h).toNat<128
  ·obtain⟨r1,r2⟩:=Jd4 h ha
   refine⟨(k+1:Nat),⟨rfl,rfl,by rw[r2]⟩,⟨Oo, ?_⟩,Oo⟩
   rw[hk.2,Fj h,Ht,←r1,h2]
   rfl
  ·have:=Jlw h Oo
   rw[Jia this] at h2
   cases h2
 ·have e:k=s.size:=Nat.le_antisymm hk.1 (Nat.le_of_not_lt h)
  refine⟨fun h=>(by cases h),fun _=>⟨rfl, ?_⟩⟩
  rw[e,List.drop_eq_nil_of_le (by simp)] at hk
  unfold Juh
  rw[hk.2,Jjv]
  rfl
abbrev K80:=K46.add Kqa
abbrev K45:=K80
theorem Jx7 (a:ByteArray):bs a.data.toList=a:=rfl
theorem Jew (c:UInt8):∀l:List UInt8,Lib.splitK [c] 0 (l.count c) l=Jkz c l
 |[]=>rfl
 | x :: r => by
  have ih:=Jew c r
  by_cases h:x=c
  ·subst h
   rw[Ja6,if_pos rfl,List.count_cons_self]
   have e:Lib.index (x::r) [x]=0:=by simp[Lib.index,List.isPrefixOf]
   rw[Lib.splitK,e,←ih]
   rfl
  ·rw[Ja6,if_neg h,List.count_cons_of_ne h,←ih]
   have hp:[c].isPrefixOf (x::r)=false:=by
    have:¬c=x:=fun e=>h e.symm
    simp[List.isPrefixOf,this]
   cases hk:r.count c with
   |zero=>rfl
   | succ k =>
    have hi:Lib.index (x::r) [c]=if Lib.index r [c]== -1 then -1 else Lib.index r [c]+1:=by rw[Lib.index,hp];rfl
    by_cases h1:Lib.index r [c]= -1
    ·have e2:Lib.index (x::r) [c]= -1:=by rw[hi,h1];rfl
     simp only[Lib.splitK,e2,h1]
     rfl
    ·have hg:=Lib.index_ge r [c]
     have e2:Lib.index (x::r) [c]=Lib.index r [c]+1:=by rw[hi,if_neg (by simpa using h1)]
     obtain⟨i,hi⟩:=Int.eq_ofNat_of_zero_le (by omega:0≤Lib.index r [c])
     rw[hi] at e2
     have n1:¬((i:Int)== -1)=true:=by simp
     have n2:¬(((i:Int)+1)== -1)=true:=by simp;omega
     simp only[Lib.splitK,e2,hi]
     rw[if_neg n1,if_neg n2]
     have t1:((i:Int)+1).toNat=i+1:=by omega
     have t2:((i:Int)).toNat=i:=by omega
     simp only[t1,t2,Nat.add_zero,List.take_succ_cons,List.length_cons,List.length_nil]
     rfl
theorem Jeq (s:ByteArray) (c:UInt8):Za s ⟨#[c]⟩=(Jkz c s.data.toList).map bs:=by
 have h:=Lib.splitB_data ⟨#[c]⟩ 0 (Lib.countB s ⟨#[c]⟩) s
 have hc:Lib.countB s ⟨#[c]⟩=s.data.toList.count c:=Lib.count_one c s.data.toList
 rw[hc] at h
 have h2:(Za s ⟨#[c]⟩).map (·.data.toList)=Jkz c s.data.toList:=by
  rw[←Jew]
  unfold Za
  rw[hc];exact h
 rw[←h2,List.map_map]
 exact(List.map_id' _).symm
theorem Ja5 (c:UInt8):∀(l w:List UInt8),w∈Jkz c l→w.length≤l.length
 |[],w,h=>by
  have:w=[]:=by simpa[Jkz] using h
  rw[this];exact Nat.le_refl _
 | x :: r, w, h => by
  rw[Ja6] at h
  split at h
  ·rcases List.mem_cons.1 h with h|h
   ·rw[h];exact Nat.zero_le _
   ·exact Nat.le_succ_of_le (Ja5 c r w h)
  ·split at h
   ·rename_i e;exact absurd e (J5g c r)
   ·rename_i hh t e
    rcases List.mem_cons.1 h with h|h
    ·rw[h]
     exact Nat.succ_le_succ (Ja5 c r hh (by rw[e];simp))
    ·exact Nat.le_succ_of_le (Ja5 c r w (by rw[e];simp[h]))
theorem Xv (l:List UInt8):(bs l).size=l.length:=by show l.toArray.size=_;simp
theorem J1r (r:ByteArray) (i:Nat):r.extract 0 i=bs (r.data.toList.take i):=by
 rw[←Jx7 (r.extract 0 i),Lib.extract_data];simp
theorem Jrg (r:ByteArray) (i:Nat):r.extract i r.size=bs (r.data.toList.drop i):=by
 rw[←Jx7 (r.extract i r.size),Lib.extract_data,List.take_of_length_le (by simp)]
theorem Jjd (c:UInt8):∀l:List UInt8,(Jkz c l).length≤l.length+1
 |[]=>Nat.le_refl _
 | x :: r => by
  have ih:=Jjd c r
  rw[Ja6]
  split
  ·simp;omega
  ·split
   ·simp
   ·rename_i e;rw[e] at ih;simp at ih⊢;omega
theorem D5 (c:UInt8):∀(l:List UInt8) (n:Int),Kl (l++[c]) n=if(Kl l n).2=true∧Xs c.toNat=true then(10*(Kl l n).1+(c.toNat-48),true) else(0,false)
 |[],n=>by
  show(if Xs c.toNat=true then _ else _)=_
  by_cases h:Xs c.toNat=true
  ·rw[if_pos h,if_pos ⟨rfl,h⟩];rfl
  ·rw[if_neg h,if_neg (fun q=>h q.2)]
 |x::l,n=>by
  have ih:=D5 c l (10*n+(x.toNat-48))
  show(if Xs x.toNat=true then Kl (l++[c]) (10*n+(x.toNat-48)) else(0,false))=_
  have e:Kl (x::l) n=if Xs x.toNat=true then Kl l (10*n+(x.toNat-48)) else(0,false):=rfl
  rw[e]
  by_cases h:Xs x.toNat=true
  ·rw[if_pos h,if_pos h,ih]
  ·rw[if_neg h,if_neg h,if_neg (fun q=>by cases q.1)]
theorem Jbp (u:Nat):10≤u→Lib.decDigits u=Lib.decDigits (u/10)++[UInt8.ofNat (48+u %10)]:=fun h=>Jo9 Oo
theorem Jbn {x:Nat} (h:x<10):(UInt8.ofNat (48+x)).toNat=48+x:=UInt8.toNat_ofNat_of_lt' (by show 48+x<256;omega)
theorem Jal {x:Nat} (h:x<10):Xs (UInt8.ofNat (48+x)).toNat=true:=by
 rw[Jbn h];unfold Xs;simp;omega
theorem Jo7 (u:Nat):Kl (Lib.decDigits u) 0=((u:Int),true):=by
 induction u using Nat.strongRecOn with
 | ind u ih =>
  by_cases h:u<10
  ·rw[Lib.decDigits_one h]
   show(if Xs (UInt8.ofNat (48+u)).toNat=true then _ else _)=_
   rw[if_pos (Jal h),Jbn h]
   show((_:Int),true)=_
   congr 1;omega
  ·have hd:u %10<10:=Nat.mod_lt _ Od
   rw[Jbp u Oo,D5,ih (u/10) Oo,if_pos ⟨rfl,Jal hd⟩,Jbn hd]
   congr 1;dsimp only;omega
theorem Jkl (u:Nat):∃c r,Lib.decDigits u=c::r∧Xs c.toNat=true∧(1≤u→c.toNat≠48):=by
 induction u using Nat.strongRecOn with
 | ind u ih =>
  by_cases h:u<10
  ·refine⟨_,_,Lib.decDigits_one h,Jal h,fun h1=> ?_⟩
   rw[Jbn h];omega
  ·obtain⟨c,r,e,h1,h2⟩:=ih (u/10) Oo
   exact⟨c,r++[UInt8.ofNat (48+u %10)],by rw[Jbp u Oo,e];rfl,h1,fun _=>h2 Oo⟩
theorem Jgh (u:Nat):1≤(Lib.decDigits u).length:=by
 obtain⟨c,r,e,_⟩:=Jkl u
 rw[e];simp
theorem Jxe:∀(k u:Nat),((Lib.decDigits u).length≤k+1↔u<10^(k+1))
 | 0, u => by
  by_cases h:u<10
  ·rw[Lib.decDigits_one h];simp;omega
  ·have h2:=Jgh (u/10)
   rw[Jbp u Oo,List.length_append]
   simp only[List.length_cons,List.length_nil]
   constructor
   ·intro q;omega
   ·intro q;simp at q;omega
 | k + 1, u => by
  by_cases h:u<10
  ·rw[Lib.decDigits_one h]
   have:10≤10^(k+1+1):=by
    rw[Nat.pow_succ]
    have:=Nat.pos_of_ne_zero (n:=10^(k+1)) (by simp)
    omega
   simp;omega
  ·have ih:=Jxe k (u/10)
   rw[Jbp u Oo,List.length_append]
   simp only[List.length_cons,List.length_nil]
   rw[Nat.pow_succ]
   constructor
   ·intro q
    have:=ih.1 Oo
    omega
   ·intro q
    have:=ih.2 Oo
    omega
theorem Kcv:∀(k:Nat) (l:List UInt8),l.length=k+1→(Kl l 0).2=true→(1<l.length→∀c,l.head? =some c→c.toNat≠48)→l=Lib.decDigits (Kl l 0).1.toNat
 | 0, l, hl, hd, _ => by
  match l,hl with
  | [c], _ =>
   have e:Kl [c] 0=if Xs c.toNat=true then((10*0+(c.toNat-48):Int),true) else(0,false):=rfl
   by_cases h:Xs c.toNat=true
   ·rw[e,if_pos h]
    have hr:=Jge h
    have:((10*0+((c.toNat:Int)-48))).toNat=c.toNat-48:=by omega
    dsimp only
    rw[this,Lib.decDigits_one Oo,show 48+(c.toNat-48)=c.toNat by omega,UInt8.ofNat_toNat]
   ·rw[e,if_neg h] at hd;cases hd
 | k + 1, l, hl, hd, h0 => by
  obtain⟨i,c,rfl⟩:∃i c,l=i++[c]:=by
   rcases List.eq_nil_or_concat l with h|⟨i,c,h⟩
   ·rw[h] at hl;simp at hl
   ·exact⟨i,c,by simpa using h⟩
  have hil:i.length=k+1:=by simpa using hl
  have hs:=D5 c i 0
  by_cases hc:(Kl i 0).2=true∧Xs c.toNat=true
  ·rw[if_pos hc] at hs
   have hh:∀d,i.head? =some d→d.toNat≠48:=fun d hd=>h0 (by simp;omega) d (by
    cases i with
    |nil=>cases hd
    |cons a b=>exact hd)
   have ih:=Kcv k i hil hc.1 fun _=>hh
   have hr:=Jge hc.2
   have hn:=(Jar (l:=i) (n:=0) (Int.le_refl _)).1
   obtain⟨m,hm⟩:=Int.eq_ofNat_of_zero_le hn
   rw[hm] at ih hs
   simp only[Int.toNat_natCast] at ih
   have hm1:1≤m:=by
    rcases Nat.eq_zero_or_pos m with h|h
    ·subst h
     rw[ih,Lib.decDigits_one Od] at hh
     exact absurd rfl (hh 48 rfl)
    ·exact h
   rw[hs]
   have e:(10*(m:Int)+((c.toNat:Int)-48)).toNat=10*m+(c.toNat-48):=by omega
   dsimp only
   rw[e,Jbp _ Oo,show(10*m+(c.toNat-48))/10=m by omega,show 48+(10*m+(c.toNat-48)) %10=c.toNat by omega,UInt8.ofNat_toNat,←ih]
  ·rw[hs,if_neg hc] at hd;cases hd
theorem Jti {c:UInt8} {r:List UInt8} {n:Nat} (h:48≤c.toNat∧c.toNat≤57) (h1:¬1844674407370955162≤n) (h2:¬18446744073709551616≤n*10+(c.toNat-48)):Lib.parseUint10 n (c::r)=Lib.parseUint10 (n*10+(c.toNat-48)) r:=by
 simp only[Lib.parseUint10]
 rw[if_pos h,if_neg h1,if_neg h2]
theorem Jdg (c:UInt8) (r:List UInt8) (n:Int):Kl (c::r) n=if Xs c.toNat=true then Kl r (10*n+(c.toNat-48)) else(0,false):=rfl
theorem Jv2 (l:List UInt8):∀(n:Nat),(Kl l n).2=true→(Kl l n).1<1000000000000000000→Lib.parseUint10 n l= .ok (Kl l n).1.toNat∧(n:Int)≤(Kl l n).1:=by
 induction l with
 |nil=>exact fun n _ _=>⟨rfl,Int.le_refl _⟩
 | cons c r ih =>
  intro n h1 h2
  by_cases h:Xs c.toNat=true
  ·rw[Jdg,if_pos h] at h1 h2⊢
   have hr:=Jge h
   have en:(10*(n:Int)+((c.toNat:Int)-48))=((n*10+(c.toNat-48):Nat):Int):=by omega
   rw[en] at h1 h2⊢
   obtain⟨a1,a2⟩:=ih _ h1 h2
   have h3:n<1000000000000000000:=by omega
   refine⟨?_,Oo⟩
   rw[Jti hr Oo Oo]
   exact a1
  ·rw[Jdg,if_neg h] at h1;cases h1
theorem Jwj {u:Nat} (h:u<1000000000):Lib.parseMag (Lib.decDigits u)= .ok u:=by
 obtain⟨c,r,e,_⟩:=Jkl u
 unfold Lib.parseMag
 rw[if_neg (by rw[e];simp)]
 have hd:=Jo7 u
 have:=(Jv2 (Lib.decDigits u) 0 (by show(Kl _ 0).2=true;rw[hd]) (by show(Kl _ 0).1<_;rw[hd];dsimp only;omega)).1
 rw[this]
 show Lib.NumEnd.ok (Kl _ 0).1.toNat=_
 rw[hd];rfl
theorem Jyi {v:Int} (h0: -1000000000<v) (h1:v<1000000000):Lib.atoiAll (Lib.itoa v)= .ok v:=by
 rcases(by omega:v<0∨0≤v) with hv|hv
 ·obtain⟨u,hu⟩:=Int.eq_ofNat_of_zero_le (by omega:0≤-v)
  have hn:v= -(u:Int):=by omega
  subst hn
  rw[Lib.itoa_neg u Oo]
  have hm:=Jwj (u:=u) Oo
  have e45:(45:UInt8).toNat=45:=rfl
  simp only[Lib.atoiAll,e45]
  rw[if_pos (Or.inr trivial),hm]
  dsimp only
  rw[if_neg Oo,if_neg Oo,if_pos trivial]
 ·obtain⟨u,rfl⟩:=Int.eq_ofNat_of_zero_le hv
  have e:Lib.itoa (u:Int)=Lib.decDigits u:=Lib.itoa_nonneg u
  rw[e]
  have hm:=Jwj (u:=u) Oo
  obtain⟨c,r,e,h3,h4⟩:=Jkl u
  have hr:=Jge h3
  rw[e] at hm⊢
  simp only[Lib.atoiAll]
  rw[if_neg Oo,hm]
  dsimp only
  rw[if_neg Oo,if_neg Oo,if_neg Oo]
theorem Jtz {s:ByteArray} (h:(Ka s).2=true):∃u:Nat,u<1000000000∧s.data.toList=Lib.decDigits u∧(Ka s).1=u:=by
 have hr:=Jo6 s
 obtain⟨u,hu⟩:=Int.eq_ofNat_of_zero_le hr.1
 by_cases hb:Jbo s=true
 ·unfold Ka at h;rw[if_pos hb] at h;cases h
 ·have ed:Ka s=Kl s.data.toList 0:=by unfold Ka;rw[if_neg hb]
  have hb:Jbo s=false:=by simpa using hb
  unfold Jbo at hb
  simp only[Bool.or_eq_false_iff,decide_eq_false_iff_not,Bool.and_eq_false_iff] at hb
  obtain⟨⟨b1,b2⟩,b3⟩:=hb
  have hl:s.data.toList.length=s.size:=by simp
  have:=Kcv (s.size-1) s.data.toList Oo (by rw[←ed];exact h) (fun hl2 c hc=>by
   rcases b3 with b3|b3
   ·omega
   ·intro q
    apply b3
    have:Jbt s 0=c.toNat:=by
     unfold Jbt
     rw[List.getD_eq_getElem?_getD]
     have e0:s.data.toList[(0:Int).toNat]? =some c:=by rw[←hc];simp[List.head?_eq_getElem?]
     rw[e0];rfl
    rw[this,q];rfl)
  rw[←ed,hu] at this
  exact⟨u,Oo,this,hu⟩
theorem Jgv:∀{l:List UInt8} {n:Int},Ht l=true→(Kl l n).2=true
 |[],_,_=>rfl
 |c::r,n,h=>by
  rw[Ht,Bool.and_eq_true] at h
  rw[Kl,if_pos h.1]
  exact Jgv h.2
theorem Jf3:∀{l:List UInt8} {n:Int},(Kl l n).2=true→Ht l=true
 |[],_,_=>rfl
 | c :: r, n, h => by
  rw[Kl] at h
  by_cases q:Xs c.toNat=true
  ·rw[if_pos q] at h
   rw[Ht,q,Jf3 h];rfl
  ·rw[if_neg q] at h;cases h
theorem Jgf:∀{l:List UInt8} {n:Int},(Kl l n).2=false→Kl l n=(0,false)
 |[],_,h=>by cases h
 |c::r,n,h=>by
  rw[Kl] at h⊢
  by_cases q:Xs c.toNat=true
  ·rw[if_pos q] at h⊢;exact Jgf h
  ·rw[if_neg q]
theorem Jwv (s:ByteArray):(bif bif !Juh s then true else decide (9<(s.size:Int)) then true else bif decide (1<(s.size:Int)) then(((s.data.toList.getD 0 0).toNat:Int)==48) else false)= !(Ka s).2:=by
 have hb:=Jyg s
 have hl:s.data.toList.length=s.size:=by simp
 unfold Juh
 cases ha:Ht s.data.toList with
 | false =>
  have e:(Ka s).2=false:=by
   unfold Ka
   split
   ·rfl
   ·cases h:(Kl s.data.toList 0).2 with
    |false=>rfl
    |true=>rw[Jf3 h] at ha;cases ha
  rw[e];rfl
 | true =>
  have e:(Ka s).2= !Jbo s:=by
   unfold Ka
   cases hd:Jbo s with
   |true=>rfl
   |false=>exact Jgv ha
  rw[e,←hb]
  have e1:decide (0<s.size)= !((s.size:Int)==0):=by
   by_cases q:s.size=0
   ·rw[q];rfl
   ·rw[decide_eq_true Oo,beq_eq_false_iff_ne.2 Oo];rfl
  rw[e1]
  cases((s.size:Int)==0)<;>simp
theorem Jt4 {s:ByteArray} (h:(Ka s).2=true):Juj s=(Ka s).1:=by
 obtain⟨u,h1,h2,h3⟩:=Jtz h
 have e:Lib.itoa (u:Int)=Lib.decDigits u:=Lib.itoa_nonneg u
 have:=Jyi (v:=(u:Int)) Oo Oo
 unfold Juj
 rw[h2,←e,this,h3]
def K2y (a:Bt):=bif !Juh a then true else decide (9<Nc (ByteArray.size a))
theorem Kp9:Ok Tryz.prog 187 J64:=okW K45 Tryz.f187 na fun xx=>by
 obtain⟨(s:ByteArray),_⟩:=xx
 refine(by kernel_rfl:(ByteArray.size s≤1000000→(ByteArray.size s≤1000000∧(K2y s=false∧decide (1<Nc (ByteArray.size s))=true→Bd 0 (Nc (ByteArray.size s))))∧Br (bif K2y s then true else bif decide (1<Nc (ByteArray.size s)) then Kne s==48 else false) (0=(Ka s).1∧false=(Ka s).2) (ByteArray.size s≤1000000∧Juj s=(Ka s).1∧true=(Ka s).2))=_).mp ?_
 delta Z16 Kne K2y Br Bd Nc
 intro hs
 rw[Jwv]
 refine⟨⟨hs,fun h=>⟨Int.le_refl _,by have:=of_decide_eq_true h.2;omega⟩⟩,fun h=> ?_,fun h=> ?_⟩
 ·have h:(Ka s).2=false:=by simpa using h
  have e:Ka s=(0,false):=by
   unfold Ka at h⊢
   split
   ·rfl
   ·rename_i q
    rw[if_neg q] at h
    exact Jgf h
  rw[e];exact⟨rfl,rfl⟩
 ·have h:(Ka s).2=true:=by simpa using h
  exact⟨hs,Jt4 h,h.symm⟩
abbrev K44:=K45.add Kp9
def Jud:List UInt8→Int→Int
 |[],x=>x
 |b::r,x=>Jud r ((341*x+(b.toNat:Int)).tmod 9999721)
def Jg9 (s:ByteArray):Int:=Jud s.data.toList 1
def K3f (l:List UInt8):List UInt8:=List.replicate (7-l.length) 48++l
def Jp3 (s:ByteArray):ByteArray:=bs (K3f (Lib.itoa (Jg9 s)))
theorem Ju5:∀{l:List UInt8} {x:Int},0≤x∧x<9999721→0≤Jud l x∧Jud l x<9999721
 |[],_,h=>h
 |b::r,x,h=>by
  unfold Jud
  have hb:(0:Int)≤b.toNat:=by omega
  exact Ju5 ⟨Int.tmod_nonneg _ Oo,Int.tmod_lt_of_pos _ Od⟩
theorem Jn7 (s:ByteArray):0≤Jg9 s∧Jg9 s<9999721:=Ju5 ⟨Od,Od⟩
theorem Ji8 (s:ByteArray):1≤(Lib.itoa (Jg9 s)).length∧(Lib.itoa (Jg9 s)).length≤7:=by
 obtain⟨h0,h1⟩:=Jn7 s
 obtain⟨u,hu⟩:=Int.eq_ofNat_of_zero_le h0
 rw[hu] at h1⊢
 rw[show Lib.itoa (u:Int)=Lib.decDigits u from Lib.itoa_nonneg u]
 exact⟨Jgh u,(Jxe 6 u).2 (by have:u<9999721:=Oo;omega)⟩
theorem K51 (n:Nat):Lib.repeatL [48] n=List.replicate n 48:=by
 induction n with
 |zero=>rfl
 |succ n ih=>rw[List.replicate_succ,←ih];rfl
def K3n:Con:={args:=[aS],ress:=[tS],owns:=[],pre:=fun(s,_)=>[s.size≤1000000],spec:=fun(s,_)=>(Jp3 s,())}
abbrev Keb (s:ByteArray):Ann:={X:=Nat×Int,σ:=fun(k,x)=>⟨0,[(0, .one (.str s)),(3, .one (.int .i64 x)),(7, .one (.int .i64 s.size)),(8, .one (.int .i64 k))],[]⟩,inv:=fun(k,x)=>k≤s.size∧(0≤x∧x<9999721)∧Jud (s.data.toList.drop k) x=Jg9 s,mu:=fun(k,_)=>s.size-k}
theorem Jx4 (s:ByteArray) (k:Nat):(s.data.toList.getD k 0).toNat<256:=(s.data.toList.getD k 0).toNat_lt
def Kh3 (a:Nat×Int):=7-Nc (ByteArray.size (Vw a.2))
def K2n (a:Nat×Int):=Kb9 (ByteArray.mk (Array.mk [48])) (Kh3 a)
def Kms (a:Nat×Int) (b:Bt):=341*a.2+Nc (UInt8.toNat (List.getD (Z16 b) a.1 0))
def Klh (a:Nat×Int) (b:Bt) (c:Nat×Int):=Int.tmod (Kms a b) 9999721=c.2
def J74 (a:Nat×Int) (b:Bt):=a.1≤ByteArray.size b∧Bd a.2 9999721∧Jud (List.drop a.1 (Z16 b)) a.2=Jg9 b
def Kj6 (a:Nat×Int) (b:Bt) (c:Nat×Int):=J74 a b∧ByteArray.size b-a.1<ByteArray.size b-c.1
def Ki9 (a:Nat×Int) (b:Bt):=Iw (341*a.2)∧Bd (Nc a.1) (Nc (ByteArray.size b))∧Iw (Nc (UInt8.toNat (List.getD (Z16 b) a.1 0)))∧Iw (Kms a b)∧((9999721:Int)=0→False)
theorem Kqb:Ok Tryz.prog 184 K3n:=okW K44 Tryz.f184 (fun xx=>Zn (Keb xx.1)) fun xx=>by
 obtain⟨(s:ByteArray),_⟩:=xx
 refine(by kernel_rfl:(ByteArray.size s≤1000000→∃(x:Nat×Int),Sf s (1=x.2∧Si (Nc (ByteArray.size s)) (0=Nc x.1))∧J74 x s∧∀(x:Nat×Int),J74 x s→Br (decide (Nc x.1<Nc (ByteArray.size s))) (Ki9 x s∧Z42 x∧∃(y:Nat×Int),Sf s (Klh x s y∧Si (Nc (ByteArray.size s)) (Jt9 x y))∧Kj6 y s x) (Iw x.2∧(Iw (Kh3 x)∧1≤1000000∧(0≤Kh3 x∧Kh3 x≤1000000)∧Nc (ByteArray.size (K2n x)+ByteArray.size (Vw x.2))≤9223372036854775807)∧ByteArray.mk (Array.mk ((K2n x).data.toList++(Vw x.2).data.toList))=Jp3 s))=_).mp ?_
 delta Z16 Z42 Jt9 Kh3 K2n Kms Klh J74 Kj6 Ki9 Br Iw Bd Sf Si Nc
 intro hs
 refine⟨((0:Nat),(1:Int)),Oe,⟨Nat.zero_le _,Om,rfl⟩,fun(y:Nat×Int) hk=>⟨fun h=> ?_,fun h=> ?_⟩⟩
 ·obtain⟨k,x⟩:=y
  have hlt:k<s.size:=by simpa using h
  obtain⟨k1,k2,k3⟩:=hk
  dsimp only at k1 k2
  rw[D7 hlt,Jud] at k3
  have hb:=Jx4 s k
  refine⟨by(repeat' first|apply And.intro|(first|omega|dsimp only;omega)),by(repeat' first|apply And.intro|(first|omega|dsimp only;omega)),(k+1,_),⟨rfl,rfl,rfl, ?_⟩,⟨Om, ?_,k3⟩,Om⟩
  ·dsimp only;push_cast;rfl
  ·exact⟨Int.tmod_nonneg _ Om,Int.tmod_lt_of_pos _ Od⟩
 ·obtain⟨k,x⟩:=y
  have hlt:¬k<s.size:=by simpa using h
  obtain⟨k1,k2,k3⟩:=hk
  have e:k=s.size:=by omega
  rw[e,List.drop_eq_nil_of_le (by simp),Jud] at k3
  have k3:x=Jg9 s:=k3
  have hl:=Ji8 s
  dsimp only
  rw[k3]
  have hz:(Vw (Jg9 s)).size=(Lib.itoa (Jg9 s)).length:=rfl
  rw[hz]
  have hr:Kb9 {data:={toList:=[48]}} (7-((Lib.itoa (Jg9 s)).length:Int))=bs (List.replicate (7-(Lib.itoa (Jg9 s)).length) 48):=by
   unfold Kb9
   rw[show(7-((Lib.itoa (Jg9 s)).length:Int)).toNat=7-(Lib.itoa (Jg9 s)).length by omega]
   exact congrArg bs (K51 _)
  have hb:=Jn7 s
  rw[hr,Xv,List.length_replicate]
  exact⟨by(repeat' first|apply And.intro|(first|omega|dsimp only;omega)),⟨by(repeat' first|apply And.intro|(first|omega|dsimp only;omega)),Od,by(repeat' first|apply And.intro|(first|omega|dsimp only;omega)),Oo⟩,rfl⟩
abbrev K43:=K44.add Kqb
def J2a (e:Ev):List ByteArray:=Vw e.1::e.2.1::(e.2.2.1++e.2.2.2.1.map Vw)
def Hi (e:Ev):ByteArray:=V3 (J2a e) ⟨⟨[32]⟩⟩
def Kdi:Con:={args:=[.val false (.list 3 sI), .fn [I] tS],ress:=[(false, .list 9 .str)],owns:=[true],pre:=fun(l,(q,_),_)=>[l.length≤1000000,∀x∈l,Ux (q (x,()))],spec:=fun(l,(_,f),_)=>(l.map fun x=>f (x,()),())}
def Kba (a:Int×Unit→Bt) (b:Nat) (c:Li):=List.map (fun(x:Int)=>a (x,PUnit.unit)) (List.take b c)
theorem Kp0:Ok Tryz.prog 199 Kdi:=okW K43 Tryz.f199 (fun xx=>Zn (Jbz 3 9 sI xx.1 tS false xx.2.1.1 xx.2.1.2)) fun xx=>by
 obtain⟨(l:List Int),⟨(q:Int×Unit→List Prop),(f:Int×Unit→ByteArray)⟩,_⟩:=xx
 refine(by kernel_rfl:(Z52 l→Kmq l q→∃(x:Nat),Si (Ln l) (0=Nc x∧Sf l ((fun(x:Int×PUnit)=>q x)=q∧(fun(x:Int×PUnit)=>f x)=f∧List.length (Kba f x l)=0))∧x≤List.length l∧∀(x:Nat),x≤List.length l→Br (decide (Nc x<Ln l)) (Tw (Bd (Nc x) (Ln l))∧(Ux (q (Z20 l x,PUnit.unit))∧(List.length (Kba f x l)+1)*16≤140737488355328)∧Z17 x∧∃(y:Nat),Si (Ln l) (Z96 x y∧Sf l ((fun(x:Int×PUnit)=>q x)=q∧(fun(x:Int×PUnit)=>f x)=f∧Kba f x l++[f (Z20 l x,PUnit.unit)]=Kba f y l))∧y≤List.length l∧J4u l y x) (Kba f x l=List.map (fun(x:Int)=>f (x,PUnit.unit)) l))=_).mp ?_
 delta Z17 Z20 Z52 Z96 J4u J8n Kba Kmq Br Iw Bd Tw Sf Si Ln Nc
 intro hb hq
 refine⟨(0:Nat),⟨rfl,rfl,rfl,rfl,rfl,by simp⟩,Nat.zero_le _,fun(k:Nat) hk=>⟨fun h=> ?_,fun h=> ?_⟩⟩
 ·have hlt:k<l.length:=by simpa using h
  refine⟨Oo,⟨hq (l.getD k 0) (Je hlt),by simp only[List.length_map,List.length_take];omega⟩,Oo,(k+1:Nat),⟨rfl,by simp,rfl,rfl,rfl, ?_⟩,Oo,Oo⟩
  rw[←Ve (d:=0) hlt,List.map_append];rfl
 ·have hlt:¬k<l.length:=by simpa using h
  rw[List.take_of_length_le Oo]
abbrev K42:=K43.add Kp0
structure Dk (e:Ev):Prop where
 num: -999999999≤e.1∧e.1≤999999999
 nn:e.2.2.1.length≤1000
 nv:e.2.2.2.1.length≤1000
 val:∀v∈e.2.2.2.1,-999999999≤v∧v≤999999999
 siz:((J2a e).map fun s=>s.size+1).sum≤1000000
theorem Jj8 {sep:List UInt8} (hs:sep.length=1):∀{l:List (List UInt8)},(Lib.join l sep).length≤(l.map fun x=>x.length+1).sum
 |[]=>by simp[Lib.join,List.intercalate]
 |[x]=>by simp[Lib.join,List.intercalate,List.intersperse]
 |x::y::r=>by
  have ih:=Jj8 hs (l:=y::r)
  have e:Lib.join (x::y::r) sep=x++sep++Lib.join (y::r) sep:=by simp[Lib.join,List.intercalate,List.intersperse]
  rw[e]
  simp only[List.length_append,List.map_cons,List.sum_cons] at ih⊢
  omega
theorem Jif {e:Ev} (h:Dk e):(Lib.join ((J2a e).map (·.data.toList)) [32]).length≤1000000:=by
 refine Nat.le_trans (Jj8 (sep:=[32]) rfl) (Nat.le_trans (Nat.le_of_eq ?_) h.siz)
 rw[List.map_map]
 congr 1
def Ks7:Con:={args:=[aEv],ress:=[tS],owns:=[],pre:=fun(e,_)=>[Dk e],spec:=fun(e,_)=>(Hi e,())}
def H2:=ByteArray.mk (Array.mk [32])
def Knh (a:Ls) (b:Li):=[]++a++List.map (fun(x:Int)=>Vw x) b
theorem Kqc:Ok Tryz.prog 183 Ks7:=okW K42 Tryz.f183 na fun xx=>by
 obtain⟨⟨(n:Int),(k:ByteArray),(ns:List ByteArray),(vs:List Int),(tx:ByteArray)⟩,_⟩:=xx
 refine(by kernel_rfl:(Dk (n,k,ns,vs,tx)→(Iw n∧(2+List.length ns)*16≤140737488355328)∧(Z52 vs∧(∀(x:Int),J8n vs x→Iw x)∧(List.length (Vw n::k::([]++ns))+List.length (List.map (fun(x:Int)=>Vw x) vs))*16≤140737488355328∧List.length (Vw n::k::Knh ns vs)≤1000000∧List.length (Lib.join ((Vw n).data.1::k.data.1::List.map (fun(x:ByteArray)=>Z16 x) (Knh ns vs)) [32])≤140737488355328)∧V3 (Vw n::k::Knh ns vs) H2=Hi (n,k,ns,vs,tx))=_).mp ?_
 delta Z16 Z52 H2 J8n Knh Iw
 intro h
 have h1: -999999999≤n∧n≤999999999:=h.num
 have h2:ns.length≤1000:=h.nn
 have h3:vs.length≤1000:=h.nv
 have hs:=Jif h
 simp only[List.nil_append,List.length_cons,List.length_append,List.length_map]
 exact⟨by(repeat' first|apply And.intro|(first|omega|dsimp only;omega)),⟨Oo,fun x hx=>by have:=h.val x hx;omega,Oo,Oo,Nat.le_trans hs Od⟩,rfl⟩
abbrev K41:=K42.add Kqc
theorem Jll (s:ByteArray):(Jp3 s).size=7:=by
 have h:=Ji8 s
 unfold Jp3 K3f
 rw[Xv,List.length_append,List.length_replicate]
 omega
theorem Jrr {e:Ev} (h:Dk e):(Hi e).size≤1000000:=Jif h
def J5n (e:Ev):ByteArray:=bs ((Hi e).data.toList++[35]++(Jp3 (Hi e)).data.toList++[10])
def K7k:Con:={args:=[aEv],ress:=[tS],owns:=[],pre:=fun(e,_)=>[Dk e],spec:=fun(e,_)=>(J5n e,())}
def Kxz (a:Int) (b:Bt) (c:Ls) (d:Li) (e:Bt):=Array.mk ((Array.mk ((Hi (a,b,c,d,e)).data.toList++[35])).toList++(Jp3 (Hi (a,b,c,d,e))).data.toList)
theorem Kr2:Ok Tryz.prog 106 K7k:=okW K41 Tryz.f106 na fun xx=>by
 obtain⟨⟨(n:Int),(k:ByteArray),(ns:List ByteArray),(vs:List Int),(tx:ByteArray)⟩,_⟩:=xx
 refine(by kernel_rfl:(Dk (n,k,ns,vs,tx)→Dk (n,k,ns,vs,tx)∧(Nc (ByteArray.size (Hi (n,k,ns,vs,tx))+1)≤9223372036854775807∧ByteArray.size (Hi (n,k,ns,vs,tx))≤1000000∧Nc (ByteArray.size (ByteArray.mk (Array.mk ((Hi (n,k,ns,vs,tx)).data.toList++[35])))+ByteArray.size (Jp3 (Hi (n,k,ns,vs,tx))))≤9223372036854775807∧Nc (ByteArray.size (ByteArray.mk (Kxz n k ns vs tx))+1)≤9223372036854775807)∧ByteArray.mk (Array.mk ((Kxz n k ns vs tx).toList++[10]))=J5n (n,k,ns,vs,tx))=_).mp ?_
 delta Kxz Nc
 intro h
 have h1:=Jrr h
 have h2:=Jll (Hi (n,k,ns,vs,tx))
 have h3:(bs ((Hi (n,k,ns,vs,tx)).data.toList++[35])).size=(Hi (n,k,ns,vs,tx)).size+1:=by rw[Xv,List.length_append];simp
 have h4:(bs ((Hi (n,k,ns,vs,tx)).data.toList++[35]++(Jp3 (Hi (n,k,ns,vs,tx))).data.toList)).size=(Hi (n,k,ns,vs,tx)).size+8:=by rw[Xv,List.length_append,List.length_append];simp[h2]
 refine⟨h,⟨Oo,h1, ?_, ?_⟩,rfl⟩
 ·show((bs ((Hi (n,k,ns,vs,tx)).data.toList++[35])).size+(Jp3 (Hi (n,k,ns,vs,tx))).size:Nat)≤(9223372036854775807:Int)
  omega
 ·show((bs ((Hi (n,k,ns,vs,tx)).data.toList++[35]++(Jp3 (Hi (n,k,ns,vs,tx))).data.toList)).size+1:Nat)≤(9223372036854775807:Int)
  omega
abbrev K8z:=K41.add Kr2
abbrev K40:=K8z.add Kox
abbrev Tk:=List ByteArray×Bool
def Vc:Tk→ByteArray×Tk
 |([],_)=>(Ja,[],true)
 |(w::l,b)=>bif w.toList==Ja.toList then(Ja,[],true) else(w,l,b)
def De (t:Tk):Bool:=bif (t.1.length:Int)==0 then true else(t.1.getD 0 Ja).toList==Ja.toList
theorem Ja0:∀(t:Tk),Vc t=bif De t then(Ja,[],true) else(t.1.getD 0 Ja,t.1.drop 1,t.2)
 |([],_)=>rfl
 | (w :: l, b) => by
  have e:De (w::l,b)=(w.toList==Ja.toList):=by
   unfold De
   rw[beq_eq_false_iff_ne.2 (show(((w::l,b):Tk).1.length:Int)≠0 by simp;omega)];rfl
  rw[e]
  show(bif w.toList==Ja.toList then(Ja,[],true) else(w,l,b))=_
  cases w.toList==Ja.toList<;>rfl
theorem Jec {t:Tk} (h:De t=false):0<t.1.length:=by
 unfold De at h
 by_cases q:t.1.length=0
 ·rw[q] at h;cases h
 ·omega
def J5b (t:Tk):Int×Tk:=((Ka (Vc t).1).1,(Vc t).2.1,bif (Vc t).2.2 then true else !(Ka (Vc t).1).2)
def Dv:Nat→Tk→List ByteArray→List ByteArray×Tk
 |0,t,o=>(o,t)
 |n+1,t,o=>Dv n (Vc t).2 (o++[(Vc t).1])
def Ja1:Nat→Tk→List Int→List Int×Tk
 |0,t,o=>(o,t)
 |n+1,t,o=>Ja1 n (J5b t).2 (o++[(J5b t).1])
def evz:Ev:=(0,Ja,[],[],Ja)
theorem Jj6 (k:ByteArray):(Jm k).1.length≤3∧0≤(Jm k).2.1∧(Jm k).2.1≤4:=by
 cases h:Y5 k with
 | false =>
  have e:Jm k=([],0,none,none,none):=by
   unfold Y5 at h
   unfold Jm
   cases hm:Uu .str k Dd with
   |none=>rfl
   |some v=>rw[hm] at h;cases h
  rw[e];decide
 |true=>
  rcases Vd h with h|h|h|h|h|h|h|h|h|h|h<;>subst h
  all_goals first|(rw[Jcg];decide)|(rw[Kp];decide)|(rw[U6];decide)|(rw[Uh];decide)|(rw[Ui];decide)|(rw[Vl];decide)|(rw[Kr];decide)|(rw[J5];decide)|(rw[K1];decide)|(rw[K0];decide)|(rw[Uy];decide)
def Zc (ws:List ByteArray):List ByteArray×Tk:=Dv (Jm (Vc (ws,false)).1).1.length (Vc (ws,false)).2 []
def Jc7 (ws:List ByteArray):List Int×Tk:=Ja1 (Jm (Vc (ws,false)).1).2.1.toNat (Zc ws).2 []
def Xf (ws:List ByteArray):Ev×Bool:=bif Y5 (Vc (ws,false)).1 then((0,(Vc (ws,false)).1,(Zc ws).1,(Jc7 ws).1,Ja),bif !(Jc7 ws).2.2 then((Jc7 ws).2.1.length:Int)==0 else false) else(evz,false)
def Ksp:Con:={args:=[.val false (.list 9 .str)],ress:=[(true,sEv),Bo],owns:=[],pre:=fun(ws,_)=>[ws.length≤1000000,∀w∈ws,w.size≤1000000],spec:=fun(ws,_)=>((Xf ws).1,(Xf ws).2,())}
abbrev J7l (ws:List ByteArray):Nat→Option Ann:=fun id=>if id=0 then some {X:=Nat×Tk×List ByteArray,σ:=fun(i,(rem,b),o)=>⟨9,[(2, .one (.ptr 1 0)),(4, .one (.ptr 2 0)),(5, .one (.fv 3)),(6, .one (.fv 4)),(7, .one (.ptr 5 0)),(8, .one (.ptr 7 0)),(34, .one (.int .i64 (Jm (Vc (ws,false)).1).1.length)),(35, .one (.int .i64 i))],[(1, .box 67 [.int .i64 0, .str Ja, .val (.slice none 0 0), .val (.slice none 0 0), .str Ja]),(2, .box 279 [.sl 0, .bool b]),(3, .clo 210 [.one (.ptr 2 0)] []),(4, .clo 211 [.one (.ptr 2 0)] []),(5, .box 67 [.int .i64 0, .str (Vc (ws,false)).1, .sl 6, .val (.slice none 0 0), .str Ja]),(7, .box 173 [.sl 8, .int .i64 (Jm (Vc (ws,false)).1).2.1, .fno (Jm (Vc (ws,false)).1).2.2.1, .fno (Jm (Vc (ws,false)).1).2.2.2.1, .fno (Jm (Vc (ws,false)).1).2.2.2.2]),(6, .own 9 .str o),(8, .imm 251 J0v (Jm (Vc (ws,false)).1).1),(0, .imm 9 .str rem)]⟩,inv:=fun(i,t,o)=>i≤(Jm (Vc (ws,false)).1).1.length∧t.1.length≤1000000∧(∀w∈t.1,w.size≤1000000)∧o.length=i∧Dv ((Jm (Vc (ws,false)).1).1.length-i) t o=Zc ws,mu:=fun(i,_)=>(Jm (Vc (ws,false)).1).1.length-i}
 else if id=2 then some {X:=Nat×Tk×List Int,σ:=fun(i,(rem,b),o)=>⟨10,[(2, .one (.ptr 1 0)),(4, .one (.ptr 2 0)),(6, .one (.fv 4)),(7, .one (.ptr 5 0)),(47, .one (.int .i64 (Jm (Vc (ws,false)).1).2.1)),(48, .one (.int .i64 i))],[(1, .box 67 [.int .i64 0, .str Ja, .val (.slice none 0 0), .val (.slice none 0 0), .str Ja]),(2, .box 279 [.sl 0, .bool b]),(4, .clo 211 [.one (.ptr 2 0)] []),(5, .box 67 [.int .i64 0, .str (Vc (ws,false)).1, .sl 6, .sl 9, .str Ja]),(6, .own 9 .str (Zc ws).1),(9, .own 3 sI o),(0, .imm 9 .str rem)]⟩,inv:=fun(i,t,o)=>i≤(Jm (Vc (ws,false)).1).2.1.toNat∧t.1.length≤1000000∧(∀w∈t.1,w.size≤1000000)∧o.length=i∧Ja1 ((Jm (Vc (ws,false)).1).2.1.toNat-i) t o=Jc7 ws,mu:=fun(i,_)=>(Jm (Vc (ws,false)).1).2.1.toNat-i}
 else none
def Z68 (a:Ls):=(Jm (Vc (a,false)).1).2
def Z72 (a:Ls):=(Jm (Vc (a,false)).1).1
def Z90 (a:Ls):=(Z68 a).1
def Kh7 (a:Ls):=(Z68 a).2.1
def Kh6 (a:Ls):=(Z68 a).2.2.2
def Kh5 (a:Ls):=(Z68 a).2.2.1
def Kh4 (a:Nat×Tk×Li):=List.getD a.2.1.1 0 B0
def J8q (a:Ls):=Int.toNat (Z90 a)
def Kbe (a:Ls):=Ln (Z72 a)
def J8k (a:Ls):=List.length (Z72 a)
def K22 (a:Nat×Tk×Ls):=(List.length a.2.2+1)*16≤140737488355328
def K20 (a:Ls):=(Jm (Vc (a,false)).1).1=Z72 a
def K1o (a:Ls):=Sf true (Jaa=(Xf a).1∧false=(Xf a).2)
def Kyz (a:Ls):=Uu Sch.str (Vb a) Dd
def Ki5 (a:Ls):=Option.getD (Kyz a) Kay
def Kv8 (a:Nat×(Ls×Bool)×Li) (b:Ls):=a.1≤J8q b∧List.length a.2.1.1≤1000000∧(∀(w:ByteArray),w∈a.2.1.1→ByteArray.size w≤1000000)∧List.length a.2.2=a.1∧Ja1 (J8q b-a.1) a.2.1 a.2.2=Jc7 b
def Kv6 (a:Ls):=(Ki5 a).2
def Kv5 (a:Ls):=(Kv6 a).2
def Kv4 (a:Ls):=(Kv5 a).2
def Kvu (a:Nat×(Ls×Bool)×Ls) (b:Ls):=a.1≤J8k b∧List.length a.2.1.1≤1000000∧(∀(w:ByteArray),w∈a.2.1.1→ByteArray.size w≤1000000)∧List.length a.2.2=a.1∧Dv (J8k b-a.1) a.2.1 a.2.2=Zc b
def Kvj (a:Nat×(Ls×Bool)×Li) (b:Ls) (c:Nat×Tk×Li):=Kv8 a b∧J8q b-a.1<J8q b-c.1
def Kvc (a:Nat×(Ls×Bool)×Ls) (b:Ls) (c:Nat×Tk×Ls):=Kvu a b∧J8k b-a.1<J8k b-c.1
def J8u (a:Nat×(Ls×Bool)×Ls) (b:Ls):=Kvu a b∧∀(x:Nat×Tk×List ByteArray),x.1≤J8k b∧List.length x.2.1.1≤1000000∧(∀(w:ByteArray),w∈x.2.1.1→ByteArray.size w≤1000000)∧List.length x.2.2=x.1∧Dv (J8k b-x.1) x.2.1 x.2.2=Zc b→Br (decide (Nc x.1<Kbe b)) (Tw ((Ln x.2.1.1==0)=false→Bd 0 (Ln x.2.1.1))∧Br (bif Ln x.2.1.1==0 then true else Lb (List.getD x.2.1.1 0 B0) B0) (K22 x∧Iw (Nc x.1+1)∧∃(y:Nat×(List ByteArray×Bool)×List ByteArray),Si (Kbe b) (Nc x.1+1=Nc y.1∧Si 0 (Sf Ja (Sf Vs (Sf Vs (Sf Ja (true=y.2.1.2∧Si 0 (Sf (Vc (b,false)).1 (Sf Vs (Sf Ja (Si (Z90 b) (Sf (Kh7 b) (Sf (Kh5 b) (Sf (Kh6 b) (x.2.2++[B0]=y.2.2∧K20 b∧List.length y.2.1.1=0))))))))))))))∧Kvc y b x) (Tw (Bd 0 (Ln x.2.1.1))∧((0:Int)≤1∧1≤Ln x.2.1.1∧Ln x.2.1.1≤Ln x.2.1.1)∧K22 x∧Iw (Nc x.1+1)∧∃(y:Nat×(List ByteArray×Bool)×List ByteArray),Si (Kbe b) (Nc x.1+1=Nc y.1∧Si 0 (Sf Ja (Sf Vs (Sf Vs (Sf Ja (x.2.1.2=y.2.1.2∧Si 0 (Sf (Vc (b,false)).1 (Sf Vs (Sf Ja (Si (Z90 b) (Sf (Kh7 b) (Sf (Kh5 b) (Sf (Kh6 b) (x.2.2++[List.getD x.2.1.1 0 B0]=y.2.2∧K20 b∧List.drop 1 (List.take (List.length x.2.1.1) x.2.1.1)=y.2.1.1))))))))))))))∧Kvc y b x)) (∃(x_1:Nat×(List ByteArray×Bool)×List Int),Si (Z90 b) (0=Nc x_1.1∧Si 0 (Sf Ja (Sf Vs (Sf Vs (Sf Ja (x.2.1.2=x_1.2.1.2∧Si 0 (Sf (Vc (b,false)).1 (Sf Ja (x.2.2=(Zc b).1∧List.length x_1.2.2=0∧x.2.1.1=x_1.2.1.1)))))))))∧Kv8 x_1 b∧∀(x:Nat×Tk×List Int),x.1≤J8q b∧List.length x.2.1.1≤1000000∧(∀(w:ByteArray),w∈x.2.1.1→ByteArray.size w≤1000000)∧List.length x.2.2=x.1∧Ja1 (J8q b-x.1) x.2.1 x.2.2=Jc7 b→Br (decide (Nc x.1<Z90 b)) (Tw ((Ln x.2.1.1==0)=false→Bd 0 (Ln x.2.1.1))∧Br (bif Ln x.2.1.1==0 then true else Lb (Kh4 x) B0) (0≤1000000∧(List.length x.2.2+1)*8≤140737488355328∧Iw (Nc x.1+1)∧∃(y:Nat×(List ByteArray×Bool)×List Int),Si (Z90 b) (Nc x.1+1=Nc y.1∧Si 0 (Sf Ja (Sf Vs (Sf Vs (Sf Ja (true=y.2.1.2∧Si 0 (Sf (Vc (b,false)).1 (Sf Ja ((Zc b).1=(Zc b).1∧x.2.2++[(Ka B0).1]=y.2.2∧List.length y.2.1.1=0)))))))))∧Kvj y b x) (Tw (Bd 0 (Ln x.2.1.1))∧((0:Int)≤1∧1≤Ln x.2.1.1∧Ln x.2.1.1≤Ln x.2.1.1)∧ByteArray.size (Kh4 x)≤1000000∧(List.length x.2.2+1)*8≤140737488355328∧Iw (Nc x.1+1)∧∃(y:Nat×(List ByteArray×Bool)×List Int),Si (Z90 b) (Nc x.1+1=Nc y.1∧Si 0 (Sf Ja (Sf Vs (Sf Vs (Sf Ja ((bif x.2.1.2 then true else !(Ka (Kh4 x)).2)=y.2.1.2∧Si 0 (Sf (Vc (b,false)).1 (Sf Ja ((Zc b).1=(Zc b).1∧x.2.2++[(Ka (Kh4 x)).1]=y.2.2∧List.drop 1 (List.take (List.length x.2.1.1) x.2.1.1)=y.2.1.1)))))))))∧Kvj y b x)) (Sf true ((0,(Vc (b,false)).1,(Zc b).1,x.2.2,Ja)=(Xf b).1∧(bif !x.2.1.2 then Ln x.2.1.1==0 else false)=(Xf b).2)))
theorem Krw:Ok Tryz.prog 120 Ksp:=Jzr K40 Tryz.f120 (U5 (l:=([(210,Tryz.f210),(211,Tryz.f211)]:List (Nat×Func))) (List.forall_mem_cons.2 ⟨by kernel_rfl,List.forall_mem_cons.2 ⟨by kernel_rfl,by simp⟩⟩)) (fun xx=>J7l xx.1) (fun xx=>fun _=>na ()) fun xx=>by
 obtain⟨(ws:List ByteArray),_⟩:=xx
 refine(by kernel_rfl:(Jb2 ws→Jih ws→Tw ((Ln ws==0)=false→Z92 ws)∧Br (bif Ln ws==0 then true else Lb (Vb ws) B0) (Br true (K1o ws) (∃(x:Nat×(List ByteArray×Bool)×List ByteArray),(0=Kbe ws∧0=Nc x.1∧Si 0 (B0=Ja∧Sf Vs (Sf Vs (B0=Ja∧true=x.2.1.2∧Si 0 (B0=(Vc (ws,false)).1∧Sf Vs (B0=Ja∧0=Z90 ws∧none=Kh7 ws∧none=Kh5 ws∧none=Kh6 ws∧List.length x.2.2=0∧[]=Z72 ws∧List.length x.2.1.1=0))))))∧J8u x ws)) (Tw (Z92 ws)∧((0:Int)≤1∧1≤Ln ws∧Ln ws≤Ln ws)∧Br (!Option.isSome (Kyz ws)) (K1o ws) (∃(x:Nat×(List ByteArray×Bool)×List ByteArray),(Ln (Ki5 ws).1=Kbe ws∧0=Nc x.1∧Si 0 (B0=Ja∧Sf Vs (Sf Vs (B0=Ja∧false=x.2.1.2∧Si 0 (Vb ws=(Vc (ws,false)).1∧Sf Vs (B0=Ja∧(Kv6 ws).1=Z90 ws∧(Kv5 ws).1=Kh7 ws∧(Kv4 ws).1=Kh5 ws∧(Kv4 ws).2=Kh6 ws∧List.length x.2.2=0∧(Ki5 ws).1=Z72 ws∧List.drop 1 (List.take (List.length ws) ws)=x.2.1.1))))))∧J8u x ws)))=_).mp ?_
 delta Z68 Z72 Z90 Z92 Vb Jb2 Kh7 Kh6 Kh5 Kh4 Vs J8q Jaa Kbe J8k K22 K20 Jhl Kay K1o Jih Kyz Ki5 Kv8 Kv6 Kv5 Kv4 Kvu Kvj Kvc J8u Br Iw Bd Tw Sf Si Ln Nc B0 Lb
 intro h1 h2
 have hk0:Y5 Ja=false:=by kernel_rfl
 have hB:=Jj6 (ws.getD 0 Ja)
 have hsz:∀k,k<ws.length→(ws.getD k Ja).size≤1000000:=fun k hk=>h2 _ (Je hk)
 refine⟨⟨fun h=> ?_,fun h=> ?_⟩,fun hc=>⟨fun _=>⟨rfl, ?_⟩,fun h=>(by cases h)⟩,fun hc=> ?_⟩
 ·have:=beq_eq_false_iff_ne.1 h;omega
 ·have:=beq_eq_false_iff_ne.1 h;omega
 ·have e:Vc (ws,false)=(Ja,[],true):=by rw[Ja0,show De (ws,false)=true from hc];rfl
  have e2:Xf ws=(evz,false):=by unfold Xf;rw[e,hk0];rfl
  rw[e2];exact⟨rfl,rfl⟩
 ·have hc':De (ws,false)=false:=hc
  have e:Vc (ws,false)=(ws.getD 0 Ja,ws.drop 1,false):=by rw[Ja0,hc'];rfl
  have hl:0<ws.length:=Jec hc'
  have eD:(Uu Sch.str (ws.getD 0 ({data:={toList:=[]}}:ByteArray)) Dd).getD ([],0,none,none,none)=Jm (ws.getD 0 Ja):=rfl
  have eK:(Uu Sch.str (ws.getD 0 ({data:={toList:=[]}}:ByteArray)) Dd).isSome=Y5 (ws.getD 0 Ja):=rfl
  simp only[e,eD,eK]
  refine⟨by(repeat' first|apply And.intro|(first|omega|dsimp only;omega)),by(repeat' first|apply And.intro|(first|omega|dsimp only;omega)),fun hk=>⟨trivial, ?_⟩,fun hk=>⟨((0:Nat),(ws.drop 1,false),[]), ?_,⟨Nat.zero_le _,by simp only[List.length_drop];omega,fun w hw=>h2 w (List.mem_of_mem_drop hw),rfl,by unfold Zc;rw[e];rfl⟩,fun(x:Nat×Tk×List ByteArray) hx=>⟨fun hlt=> ?_,fun hlt=> ?_⟩⟩⟩
  ·have hk:Y5 (ws.getD 0 Ja)=false:=by simpa using hk
   have e2:Xf ws=(evz,false):=by unfold Xf;rw[e,hk];rfl
   rw[e2];exact⟨rfl,rfl⟩
  ·rw[List.take_length]
   exact Oe
  ·obtain⟨i,⟨rem,b⟩,o⟩:=x
   obtain⟨i1,i2,i3,i4,i5⟩:=hx
   have hlt:i<(Jm (ws.getD 0 Ja)).1.length:=by simpa using hlt
   dsimp only at i1 i2 i3 i4 i5
   have hn:(Jm (ws.getD 0 Ja)).1.length-i=((Jm (ws.getD 0 Ja)).1.length-(i+1))+1:=by omega
   rw[hn,Dv,Ja0] at i5
   refine⟨⟨fun h=> ?_,fun h=> ?_⟩,fun h=> ?_,fun h=> ?_⟩
   ·have:=beq_eq_false_iff_ne.1 h;exact Om
   ·have:=beq_eq_false_iff_ne.1 h;exact Om
   ·have h:De (rem,b)=true:=h
    rw[h,cond_true] at i5
    refine⟨Om,by(repeat' first|apply And.intro|(first|omega|dsimp only;omega)),(i+1,([],true),o++[Ja]), ?_,⟨Om,by simp,fun w hw=>(by cases hw),by simp[i4],i5⟩,Om⟩
    exact Oe
   ·have h:De (rem,b)=false:=h
    have hr:0<rem.length:=Jec h
    rw[h,cond_false] at i5
    refine⟨by(repeat' first|apply And.intro|(first|omega|dsimp only;omega)),by(repeat' first|apply And.intro|(first|omega|dsimp only;omega)),Om,by(repeat' first|apply And.intro|(first|omega|dsimp only;omega)),(i+1,(rem.drop 1,b),o++[rem.getD 0 Ja]), ?_,⟨Om,by simp only[List.length_drop];omega,fun w hw=>i3 w (List.mem_of_mem_drop hw),by simp[i4],i5⟩,Om⟩
    dsimp only
    rw[List.take_length]
    exact Oe
  ·obtain⟨i,⟨rem,b⟩,o⟩:=x
   obtain⟨i1,i2,i3,i4,i5⟩:=hx
   have hlt:¬i<(Jm (ws.getD 0 Ja)).1.length:=by simpa using hlt
   dsimp only at i1 i2 i3 i4 i5
   have hn:(Jm (ws.getD 0 Ja)).1.length-i=0:=by omega
   rw[hn,Dv] at i5
   have eN:(Zc ws).1=o:=by rw[←i5]
   have eT:(Zc ws).2=(rem,b):=by rw[←i5]
   simp only[eN]
   refine⟨((0:Nat),(rem,b),[]), ?_,⟨Nat.zero_le _,i2,i3,rfl,by unfold Jc7;rw[e,eT];rfl⟩,fun(x:Nat×Tk×List Int) hx=>⟨fun hlt=> ?_,fun hlt=> ?_⟩⟩
   ·exact Oe
   ·obtain⟨j,⟨rem,b⟩,o2⟩:=x
    obtain⟨j1,j2,j3,j4,j5⟩:=hx
    have hlt:(j:Int)<(Jm (ws.getD 0 Ja)).2.1:=of_decide_eq_true hlt
    dsimp only at j1 j2 j3 j4 j5
    have hn:(Jm (ws.getD 0 Ja)).2.1.toNat-j=((Jm (ws.getD 0 Ja)).2.1.toNat-(j+1))+1:=by omega
    rw[hn,Ja1,J5b,Ja0] at j5
    refine⟨⟨fun h=> ?_,fun h=> ?_⟩,fun h=> ?_,fun h=> ?_⟩
    ·have:=beq_eq_false_iff_ne.1 h;exact Om
    ·have:=beq_eq_false_iff_ne.1 h;exact Om
    ·have h:De (rem,b)=true:=h
     rw[h,cond_true] at j5
     refine⟨Od,Om,by(repeat' first|apply And.intro|(first|omega|dsimp only;omega)),(j+1,([],true),o2++[(Ka Ja).1]), ?_,⟨Om,by simp,fun w hw=>(by cases hw),by simp[j4],j5⟩,Om⟩
     exact Oe
    ·have h:De (rem,b)=false:=h
     have hr:0<rem.length:=Jec h
     rw[h,cond_false] at j5
     refine⟨by(repeat' first|apply And.intro|(first|omega|dsimp only;omega)),by(repeat' first|apply And.intro|(first|omega|dsimp only;omega)),j3 _ (Je hr),Om,by(repeat' first|apply And.intro|(first|omega|dsimp only;omega)),(j+1,(rem.drop 1,bif b then true else !(Ka (rem.getD 0 Ja)).2),o2++[(Ka (rem.getD 0 Ja)).1]), ?_,⟨Om,by simp only[List.length_drop];omega,fun w hw=>j3 w (List.mem_of_mem_drop hw),by simp[j4],j5⟩,Om⟩
     dsimp only
     rw[List.take_length]
     exact Oe
   ·obtain⟨j,⟨rem2,b2⟩,o2⟩:=x
    obtain⟨j1,j2,j3,j4,j5⟩:=hx
    have hlt:¬(j:Int)<(Jm (ws.getD 0 Ja)).2.1:=of_decide_eq_false hlt
    dsimp only at j1 j2 j3 j4 j5
    have hn:(Jm (ws.getD 0 Ja)).2.1.toNat-j=0:=by omega
    rw[hn,Ja1] at j5
    have hk:Y5 (ws.getD 0 Ja)=true:=by simpa using hk
    have e2:Xf ws=((0,ws.getD 0 Ja,o,o2,Ja),bif !b2 then((rem2.length:Int)==0) else false):=by
     unfold Xf
     rw[e,hk,cond_true,eN,←j5]
    rw[e2];exact⟨trivial,rfl,rfl⟩
abbrev K4z:=K40.add Krw
def Jb3 (c:UInt8):List UInt8→List UInt8
 |[]=>[]
 |b::r=>if b=c then[] else b::Jb3 c r
def Jhi (c:UInt8):List UInt8→List UInt8
 |[]=>[]
 |b::r=>if b=c then r else Jhi c r
def Jui (c:UInt8):List UInt8→Bool
 |[]=>false
 |b::r=>if b=c then true else Jui c r
theorem Jwn (c:UInt8):∀l:List UInt8,Lib.cut l [c]=(Jb3 c l,Jhi c l,Jui c l)
 |[]=>rfl
 | b :: r => by
  have ih:=Jwn c r
  have hg:=Lib.index_ge r [c]
  by_cases h:b=c
  ·subst h
   have e:Lib.index (b::r) [b]=0:=by simp[Lib.index,List.isPrefixOf]
   unfold Lib.cut Jb3 Jhi Jui
   rw[e,if_pos rfl,if_pos rfl,if_pos rfl]
   rfl
  ·have hp:[c].isPrefixOf (b::r)=false:=by
    have:¬c=b:=fun e=>h e.symm
    simp[List.isPrefixOf,this]
   have hi:Lib.index (b::r) [c]=if Lib.index r [c]== -1 then -1 else Lib.index r [c]+1:=by rw[Lib.index,hp];rfl
   unfold Jb3 Jhi Jui
   rw[if_neg h,if_neg h,if_neg h]
   unfold Lib.cut at ih⊢
   by_cases h1:Lib.index r [c]= -1
   ·have e2:Lib.index (b::r) [c]= -1:=by rw[hi,h1];rfl
    rw[h1,if_neg Od] at ih
    rw[e2,if_neg Od]
    simp only[Prod.mk.injEq] at ih⊢
    exact⟨by rw[←ih.1],ih.2⟩
   ·obtain⟨i,hj⟩:=Int.eq_ofNat_of_zero_le (by omega:0≤Lib.index r [c])
    have e2:Lib.index (b::r) [c]=((i+1:Nat):Int):=by rw[hi,if_neg (by simpa using h1),hj];rfl
    rw[hj,if_pos Oo] at ih
    rw[e2,if_pos Oo]
    simp only[Prod.mk.injEq,Int.toNat_natCast,List.length_singleton] at ih⊢
    exact⟨by rw[List.take_succ_cons,ih.1],by rw[←ih.2.1];rfl,ih.2.2⟩
theorem Jkm (c:UInt8):∀l:List UInt8,(Jb3 c l).length≤l.length
 |[]=>Nat.le_refl _
 |b::r=>by
  have:=Jkm c r
  unfold Jb3
  split<;>simp only[List.length_cons,List.length_nil]<;>omega
theorem Jee (c:UInt8):∀l:List UInt8,(Jhi c l).length≤l.length
 |[]=>Nat.le_refl _
 |b::r=>by
  have:=Jee c r
  unfold Jhi
  split<;>simp only[List.length_cons]<;>omega
theorem Jxh (s:ByteArray) (c:UInt8):Jzv s ⟨⟨[c]⟩⟩=(bs (Jb3 c s.data.toList),bs (Jhi c s.data.toList),Jui c s.data.toList):=by
 unfold Jzv
 rw[show((⟨⟨[c]⟩⟩:ByteArray).data.toList)=[c] from rfl,Jwn]
 rfl
theorem Jlo (s:ByteArray):Za s ⟨⟨[32]⟩⟩=Jex s 32:=Jeq s 32
def Y7 (s:ByteArray):ByteArray:=bs (s.data.toList.take (s.size-8))
def Jn6 (s:ByteArray):ByteArray:=bs (s.data.toList.drop (s.size-7))
def J6f (b:ByteArray):ByteArray:=bs (Jb3 32 b.data.toList)
def J5k (b:ByteArray):ByteArray:=bs (Jhi 32 b.data.toList)
def evX (b:ByteArray):Ev:=((Ka (J6f b)).1,(Xf (Jex (J5k b) 32)).1.2)
def okX (b:ByteArray):Bool:=bif bif !(Ka (J6f b)).2 then true else !(Xf (Jex (J5k b) 32)).2 then true else Jb (evX b) !=0
def Jqg (s:ByteArray):Bool:=bif bif decide ((s.size:Int)-7-1<0) then true else((s.data.toList.getD (s.size-8) 0).toNat:Int) !=35 then true else !Juh (Jn6 s)
def Yf (s:ByteArray):Ev×Int:=bif Jqg s then(evz,25) else bif !((Jp3 (Y7 s)).toList==(Jn6 s).toList) then(evz,27) else bif okX (Y7 s) then(evz,25) else(evX (Y7 s),0)
def Vh (s:ByteArray) (k:Int):Ev×Int:=if(Yf s).2=0 then((Yf s).1,bif (Yf s).1.1 !=k then 11 else 0) else Yf s
def Kds:Con:={args:=[aS,aI],ress:=[(true,sEv),I],owns:=[],pre:=fun(s,_)=>[s.size≤1000000],spec:=fun(s,k,_)=>((Vh s k).1,(Vh s k).2,())}
theorem Jlj (t:Tk):((Vc t).1=Ja∨(Vc t).1∈t.1)∧∀w∈(Vc t).2.1,w∈t.1:=by
 rw[Ja0]
 cases h:De t with
 |true=>exact⟨.inl rfl,fun w hw=>by cases hw⟩
 |false=>exact⟨.inr (Je (Jec h)),fun w hw=>List.mem_of_mem_drop hw⟩
theorem Jhr:∀(n:Nat) (t:Tk) (o:List ByteArray),(Dv n t o).1.length=o.length+n
 |0,_,_=>rfl
 |n+1,t,o=>by
  rw[Dv,Jhr n]
  simp only[List.length_append,List.length_singleton]
  omega
theorem Jhq:∀(n:Nat) (t:Tk) (o:List ByteArray),∀s∈(Dv n t o).1,s∈o∨s=Ja∨s∈t.1
 |0,_,_,s,h=> .inl h
 | n + 1, t, o, s, h => by
  have hs:=Jlj t
  rw[Dv] at h
  rcases Jhq n _ _ s h with h|h|h
  ·rcases List.mem_append.1 h with h|h
   ·exact .inl h
   ·rw[List.mem_singleton.1 h]
    exact .inr hs.1
  ·exact .inr (.inl h)
  ·exact .inr (.inr (hs.2 _ h))
theorem Jhp:∀(n:Nat) (t:Tk) (o:List Int),(Ja1 n t o).1.length=o.length+n
 |0,_,_=>rfl
 |n+1,t,o=>by
  rw[Ja1,Jhp n]
  simp only[List.length_append,List.length_singleton]
  omega
theorem Jqp {ws:List ByteArray} (hw:∀w∈ws,w.size≤1000000):(Xf ws).1.2.2.1.length≤3∧(Xf ws).1.2.2.2.1.length≤4∧∀s∈(Xf ws).1.2.2.1,s.size≤1000000:=by
 have hB:=Jj6 (Vc (ws,false)).1
 have hs:=Jlj (ws,false)
 unfold Xf
 cases Y5 (Vc (ws,false)).1 with
 |false=>exact⟨Nat.zero_le _,Nat.zero_le _,fun s h=>by cases h⟩
 | true =>
  simp only[cond_true]
  refine⟨?_, ?_,fun s h=> ?_⟩
  ·unfold Zc;rw[Jhr];simp;omega
  ·unfold Jc7;rw[Jhp];simp;omega
  ·rcases Jhq _ _ _ s h with h|h|h
   ·cases h
   ·rw[h];decide
   ·exact hw _ (hs.2 _ h)
theorem Fh {s:ByteArray} {k:Int} {x:Ev×Int} (h:Yf s=x) (hx:x.2≠0):Vh s k=x:=by
 unfold Vh;rw[h,if_neg hx]
def J23 (a:Bt):=Nc (ByteArray.size a)-(7:Int)-1
def Kbf (a:Bt):=J23 a+1
def K24 (a:Bt):=decide (J23 a<0)
def Knf (a:Bt):=ByteArray.extract a 0 (Int.toNat (J23 a))
def Kmv (a:Bt):=ByteArray.extract a (Int.toNat (Kbf a)) (ByteArray.size a)
def K2h (a:Bt):=ByteArray.size (Knf a)≤1000000
def K1x (a:Bt) (b:Int):=Jaa=(Vh a b).1∧25=(Vh a b).2
def K01 (a:Bt):=Jzv (Knf a) H2
def K0w (a:Bt):=(K01 a).1
def K0m (a:Bt):=(K01 a).2.1
def Kzj (a:Bt):=Ka (K0w a)
def Kzf (a:Bt):=(Kzj a).1
def Ky4 (a:Bt):=(0:Int)≤0∧0≤J23 a∧J23 a≤Nc (ByteArray.size a)
def Kjz (a:Bt):=Za (K0m a) H2
def Kx2 (a:Bt):=Xf (Kjz a)
def Kxx (a:Bt):=0≤Kbf a∧Kbf a≤Nc (ByteArray.size a)∧Nc (ByteArray.size a)≤Nc (ByteArray.size a)
def Kxv (a:Bt):=(Kx2 a).1.2
def Kfu (a:Bt):=(Kxv a).2
def Kxo (a:Bt):=(Kfu a).2
def Kwr (a:Bt):=bif K24 a then true else Nc (UInt8.toNat (Gt (Z16 a) (J23 a) 0)) !=35
def Kjb (a:Bt):=Kwr a=false
def Kv3 (a:Bt):=bif !(Kzj a).2 then true else !(Kx2 a).2
def Ki2 (a:Bt):=Kv3 a=false
def Kuz (a:Bt):=(Kzf a,(Kxv a).1,(Kfu a).1,E2 (Kxo a))
theorem Kr0:Ok Tryz.prog 108 Kds:=okW K4z Tryz.f108 na fun xx=>by
 obtain⟨(s:ByteArray),(k:Int),_⟩:=xx
 refine(by kernel_rfl:(ByteArray.size s≤1000000→(Iw (Nc (ByteArray.size s)-7)∧Iw (J23 s))∧((K24 s=false→Bd (J23 s) (Nc (ByteArray.size s)))∧(Kjb s→Iw (Kbf s))∧(Kjb s→Kxx s)∧(Kjb s→ByteArray.size (Kmv s)≤1000000))∧Br (bif Kwr s then true else !Juh (Kmv s)) (K1x s k) ((Ky4 s∧K2h s∧Iw (Kbf s)∧Kxx s)∧Br (!Lb (Jp3 (Knf s)) (Kmv s)) (Jaa=(Vh s k).1∧27=(Vh s k).2) ((Ky4 s∧K2h s)∧ByteArray.size (K0w s)≤1000000∧(ByteArray.size (K0m s)≤1000000∧1≤1∧List.length (Kjz s)≤1000000∧∀(w:ByteArray),w∈Kjz s→ByteArray.size w≤1000000)∧((Ki2 s→List.length (Kfu s).1≤1000000)∧(Ki2 s→List.length (Kxo s).1≤1000000)∧(Ki2 s→∀(s_1:ByteArray),s_1∈(Kfu s).1→ByteArray.size s_1≤1000000))∧Br (bif Kv3 s then true else Jb (Kuz s) !=0) (K1x s k) (Kuz s=(Vh s k).1∧(bif Kzf s !=k then 11 else 0)=(Vh s k).2))))=_).mp ?_
 delta Z16 H2 J23 Jaa Kbf K24 Knf Kmv K2h K1x K01 K0w K0m Kzj Kzf Ky4 Kjz Kx2 Kxx Kxv Kfu Kxo Kwr Kjb Kv3 Ki2 Kuz Br Iw Bd Nc Gt B0 Lb E2
 intro hs
 have hl:s.data.toList.length=s.size:=by simp
 by_cases hq:s.size<8
 ·have hd:decide ((s.size:Int)-7-1<0)=true:=decide_eq_true Oo
  have h0:Yf s=(evz,25):=by unfold Yf Jqg;rw[hd];rfl
  rw[Fh h0 Od]
  simp only[hd,cond_true]
  exact⟨by(repeat' first|apply And.intro|(first|omega|dsimp only;omega)),⟨⟨fun h=>(by cases h),fun h=>(by cases h),fun h=>(by cases h),fun h=>(by cases h)⟩,fun _=>Oe,fun h=>(by cases h)⟩⟩
 ·have e1:((s.size:Int)-7-1).toNat=s.size-8:=by omega
  have e2:((s.size:Int)-7-1+1).toNat=s.size-7:=by omega
  have e3:s.extract 0 (s.size-8)=Y7 s:=J1r s _
  have e4:s.extract (s.size-7) s.size=Jn6 s:=Jrg s _
  have hbl:(Y7 s).data.toList.length=s.size-8:=by unfold Y7;simp[bs]
  have hbs:(Y7 s).size=s.size-8:=by unfold Y7;rw[Xv];simp
  have hts:(Jn6 s).size≤1000000:=by unfold Jn6;rw[Xv];simp;omega
  have hd:decide ((s.size:Int)-7-1<0)=false:=decide_eq_false Oo
  simp only[e1,e2,e3,e4,Jxh,Jlo]
  have hsh:Jqg s=bif bif decide ((s.size:Int)-7-1<0) then true else((s.data.toList.getD (s.size-8) 0).toNat:Int) !=35 then true else !Juh (Jn6 s):=rfl
  rw[←hsh]
  have hA:(bs (Jb3 32 (Y7 s).data.toList)).size≤1000000:=by rw[Xv];have:=Jkm 32 (Y7 s).data.toList;omega
  have hZ:(bs (Jhi 32 (Y7 s).data.toList)).size≤1000000:=by rw[Xv];have:=Jee 32 (Y7 s).data.toList;omega
  have hW:∀w∈Jex (bs (Jhi 32 (Y7 s).data.toList)) 32,w.size≤1000000:=by
   intro w hw
   obtain⟨v,hv,rfl⟩:=List.mem_map.1 hw
   have:=Ja5 _ _ _ hv
   have h3:=Jee 32 (Y7 s).data.toList
   have h4:(bs (Jhi 32 (Y7 s).data.toList)).data.toList.length=(Jhi 32 (Y7 s).data.toList).length:=rfl
   rw[Xv]
   omega
  refine⟨by(repeat' first|apply And.intro|(first|omega|dsimp only;omega)),⟨fun _=>by(repeat' first|apply And.intro|(first|omega|dsimp only;omega)),fun _=>by(repeat' first|apply And.intro|(first|omega|dsimp only;omega)),fun _=>by(repeat' first|apply And.intro|(first|omega|dsimp only;omega)),fun _=>hts⟩,fun h=> ?_,fun h=>⟨⟨by(repeat' first|apply And.intro|(first|omega|dsimp only;omega)),Oo,by(repeat' first|apply And.intro|(first|omega|dsimp only;omega)),by(repeat' first|apply And.intro|(first|omega|dsimp only;omega))⟩,fun h2=> ?_,fun h2=>⟨⟨by(repeat' first|apply And.intro|(first|omega|dsimp only;omega)),Oo⟩,hA,⟨hZ,Od, ?_, ?_⟩, ?_⟩⟩⟩
  ·have h0:Yf s=(evz,25):=by unfold Yf;rw[h];rfl
   rw[Fh h0 Od];exact⟨rfl,rfl⟩
  ·have h0:Yf s=(evz,27):=by unfold Yf;rw[h,h2];rfl
   rw[Fh h0 Od];exact⟨rfl,rfl⟩
  ·unfold Jex
   rw[List.length_map]
   have:=Jjd (UInt8.ofNat (32:Int).toNat) (bs (Jhi 32 (Y7 s).data.toList)).data.toList
   have h3:=Jee 32 (Y7 s).data.toList
   have h4:(bs (Jhi 32 (Y7 s).data.toList)).data.toList.length=(Jhi 32 (Y7 s).data.toList).length:=rfl
   omega
  ·exact hW
  ·have hr:=Jqp (ws:=Jex (bs (Jhi 32 (Y7 s).data.toList)) 32) hW
   refine⟨⟨fun _=>Nat.le_trans hr.1 Od,fun _=>Nat.le_trans hr.2.1 Od,fun _=>hr.2.2⟩,fun h3=> ?_,fun h3=> ?_⟩
   ·have h3:okX (Y7 s)=true:=h3
    have h0:Yf s=(evz,25):=by unfold Yf;rw[h,h2,h3];rfl
    rw[Fh h0 Od];exact⟨rfl,rfl⟩
   ·have h3:okX (Y7 s)=false:=h3
    have h0:Yf s=(evX (Y7 s),0):=by unfold Yf;rw[h,h2,h3];rfl
    have h4:Vh s k=(evX (Y7 s),bif (evX (Y7 s)).1 !=k then 11 else 0):=by unfold Vh;rw[h0];rfl
    rw[h4]
    exact⟨rfl,rfl⟩
abbrev K4y:=K4z.add Kr0
def J5o:Nat→List UInt8→Int→List Ev→List Ev×Int×Int
 |0,_,at_,o=>(o,at_,0)
 |f+1,l,at_,o=>
  if l=[] then(o,at_,0) else
  if Jui 10 l=false then(o,at_,28) else
  if(Vh (bs (Jb3 10 l)) (o.length+1)).2≠0 then(o,at_,(Vh (bs (Jb3 10 l)) (o.length+1)).2) else
  J5o f (Jhi 10 l) (at_+((Jb3 10 l).length+1)) (o++[(Vh (bs (Jb3 10 l)) (o.length+1)).1])
def K8 (s:ByteArray):List Ev×Int×Int:=if 1000000<s.size then([],0,26) else J5o s.size s.data.toList 0 []
def J11:Con:={args:=[aS],ress:=[(false, .list 67 sEv),I,I],owns:=[],pre:=fun _=>[],spec:=fun(s,_)=>((K8 s).1,(K8 s).2.1,(K8 s).2.2,())}
abbrev Kee (s:ByteArray):Ann:={X:=Nat×List Ev,σ:=fun(k,o)=>⟨1,[(0, .one (.str s)),(5, .one (.sl 0)),(6, .one (.int .i64 k))],[(0, .own 67 sEv o)]⟩,inv:=fun(k,o)=>k≤s.size∧s.size≤1000000∧o.length≤1000∧∃f,s.size-k≤f∧J5o f (s.data.toList.drop k) k o=K8 s,mu:=fun(k,_)=>s.size-k}
theorem Jxi (c:UInt8):∀{l:List UInt8},Jui c l=true→l=Jb3 c l++c::Jhi c l
 |[],h=>by cases h
 | b :: r, h => by
  unfold Jui at h
  unfold Jb3 Jhi
  by_cases q:b=c
  ·rw[if_pos q,if_pos q,q];rfl
  ·rw[if_neg q] at h
   rw[if_neg q,if_neg q,List.cons_append,←Jxi c h]
theorem Jxc {s:ByteArray} {k:Int} (h:(Vh s k).2=0):Jb (Vh s k).1=0∧(Vh s k).1.1=k:=by
 have h0:(Yf s).2=0:=by
  unfold Vh at h
  by_cases q:(Yf s).2=0
  ·exact q
  ·rw[if_neg q] at h;exact h
 have e:Vh s k=((Yf s).1,bif (Yf s).1.1 !=k then 11 else 0):=by unfold Vh;rw[if_pos h0]
 rw[e] at h⊢
 refine⟨?_, ?_⟩
 ·unfold Yf at h0⊢
  cases h1:Jqg s with
  |true=>rw[h1] at h0;cases h0
  | false =>
   rw[h1,cond_false] at h0
   rw[cond_false]
   cases h2: !((Jp3 (Y7 s)).toList==(Jn6 s).toList) with
   |true=>rw[h2] at h0;cases h0
   | false =>
    rw[h2,cond_false] at h0
    rw[cond_false]
    cases h3:okX (Y7 s) with
    |true=>rw[h3] at h0;cases h0
    | false =>
     rw[cond_false]
     unfold okX at h3
     cases h4:(bif !(Ka (J6f (Y7 s))).2 then true else !(Xf (Jex (J5k (Y7 s)) 32)).2) with
     |true=>rw[h4] at h3;cases h3
     |false=>
      rw[h4,cond_false] at h3
      exact bne_eq_false_iff_eq.1 h3
 ·have h:(bif (Yf s).1.1 !=k then(11:Int) else 0)=0:=h
  cases h5:((Yf s).1.1 !=k) with
  |true=>rw[h5] at h;cases h
  |false=>exact bne_eq_false_iff_eq.1 h5
def Km9 (a:Bt) (b:Nat×List Ev):=Jzv (ByteArray.extract a b.1 (ByteArray.size a)) (ByteArray.mk (Array.mk [10]))
def K2p (a:Bt) (b:Nat×List Ev):=ByteArray.size (Km9 a b).1
def K12 (a:Bt) (b:Nat×List Ev):=Nc (K2p a b)+1
def K1l (a:Bt) (b:Nat×List Ev):=Vh (Km9 a b).1 (Ln b.2+1)
def K1g (a:Bt) (b:Nat×List Ev):=(K1l a b).1
def K1f (a:Bt) (b:Nat×List Ev):=(K1l a b).2
def K08 (a:Nat×List Ev) (b:Bt):=Nc a.1+K12 b a
def K06 (a:Bt) (b:Nat×List Ev):=(K1g a b).2
def K03 (a:Bt) (b:Nat×List Ev):=(K06 a b).2
def Kjk (a:Nat×List Ev) (b:Bt):=a.1≤ByteArray.size b∧ByteArray.size b≤1000000∧List.length a.2≤1000∧∃(f:Nat),ByteArray.size b-a.1≤f∧J5o f (List.drop a.1 (Z16 b)) (Nc a.1) a.2=K8 b
theorem K62:Ok Tryz.prog 34 J11:=okW K4y Tryz.f34 (fun xx=>Zn (Kee xx.1)) fun xx=>by
 obtain⟨(s:ByteArray),_⟩:=xx
 refine(by kernel_rfl:(Br (decide (1000000<Nc (ByteArray.size s))) ([]=(K8 s).1∧0=(K8 s).2.1∧26=(K8 s).2.2) (∃(x:Nat×List Ev),Sf s (0=Nc x.1∧List.length x.2=0)∧Kjk x s∧∀(x:Nat×List Ev),Kjk x s→Br (decide (Nc x.1<Nc (ByteArray.size s))) (((0≤Nc x.1∧Nc x.1≤Nc (ByteArray.size s)∧Nc (ByteArray.size s)≤Nc (ByteArray.size s))∧ByteArray.size (ByteArray.extract s x.1 (ByteArray.size s))≤1000000)∧Br (!(Km9 s x).2.2) (x.2=(K8 s).1∧Nc x.1=(K8 s).2.1∧28=(K8 s).2.2) ((Iw (Ln x.2+1)∧K2p s x≤1000000)∧Br (K1f s x !=0) (x.2=(K8 s).1∧Nc x.1=(K8 s).2.1∧K1f s x=(K8 s).2.2) ((List.length x.2+1)*88≤140737488355328∧(Iw (K12 s x)∧Iw (K08 x s))∧∃(y:Nat×List Ev),Sf s (K08 x s=Nc y.1∧x.2++[((K1g s x).1,(K06 s x).1,(K03 s x).1,E2 (K03 s x).2)]=y.2)∧Kjk y s∧ByteArray.size s-y.1<ByteArray.size s-x.1))) (x.2=(K8 s).1∧Nc x.1=(K8 s).2.1∧0=(K8 s).2.2)))=_).mp ?_
 delta Z16 Km9 K2p K12 K1l K1g K1f K08 K06 K03 Kjk Br Iw Sf Ln Nc E2
 refine⟨fun h=> ?_,fun h=> ?_⟩
 ·have h:1000000<s.size:=by have:=of_decide_eq_true h;omega
  unfold K8;rw[if_pos h];exact⟨rfl,rfl,rfl⟩
 have hs:¬1000000<s.size:=by have:=of_decide_eq_false h;omega
 have hl:s.data.toList.length=s.size:=by simp
 refine⟨((0:Nat),[]),Oe,⟨Nat.zero_le _,Om,Nat.zero_le _,⟨s.size,Oo,by unfold K8;rw[if_neg hs];rfl⟩⟩,fun(x:Nat×List Ev) hx=>⟨fun hlt=> ?_,fun hlt=> ?_⟩⟩
 ·obtain⟨k,o⟩:=x
  obtain⟨k1,k2,k3,f,kf,k4⟩:=hx
  have hlt:k<s.size:=by simpa using hlt
  dsimp only at k1 k3
  dsimp only at kf
  have hf:f=(f-1)+1:=by omega
  have hne:s.data.toList.drop k≠[]:=by
   intro h
   have:=congrArg List.length h
   rw[List.length_drop,hl] at this
   simp at this;omega
  rw[hf,J5o,if_neg hne] at k4
  have e0:s.extract k s.size=bs (s.data.toList.drop k):=Jrg s k
  have e1:((k:Int)).toNat=k:=Int.toNat_natCast k
  simp only[e1,e0,Jxh]
  have k4:(if Jui 10 (s.data.toList.drop k)=false then(o,(k:Int),(28:Int)) else if(Vh (bs (Jb3 10 (s.data.toList.drop k))) (o.length+1)).2≠0 then(o,(k:Int),(Vh (bs (Jb3 10 (s.data.toList.drop k))) (o.length+1)).2) else J5o (f-1) (Jhi 10 (s.data.toList.drop k)) (k+((Jb3 10 (s.data.toList.drop k)).length+1)) (o++[(Vh (bs (Jb3 10 (s.data.toList.drop k))) (o.length+1)).1]))=K8 s:=k4
  have hA:=Jkm 10 (s.data.toList.drop k)
  rw[List.length_drop,hl] at hA
  have hbd:∀l,(bs l).data.toList=l:=fun l=>rfl
  simp only[hbd,Xv,List.length_drop,hl]
  refine⟨by(repeat' first|apply And.intro|(first|omega|dsimp only;omega)),fun h=> ?_,fun h=>⟨⟨by(repeat' first|apply And.intro|(first|omega|dsimp only;omega)),Oo⟩,fun h2=> ?_,fun h2=> ?_⟩⟩
  ·have h:Jui 10 (s.data.toList.drop k)=false:=by simpa using h
   rw[if_pos h] at k4
   rw[←k4];exact⟨rfl,rfl,rfl⟩
  ·have h:Jui 10 (s.data.toList.drop k)=true:=by simpa using h
   have h2:(Vh (bs (Jb3 10 (s.data.toList.drop k))) (o.length+1)).2≠0:=bne_iff_ne.1 h2
   rw[if_neg (by rw[h];decide),if_pos h2] at k4
   rw[←k4];exact⟨rfl,rfl,rfl⟩
  ·have h:Jui 10 (s.data.toList.drop k)=true:=by simpa using h
   have h2:(Vh (bs (Jb3 10 (s.data.toList.drop k))) (o.length+1)).2=0:=bne_eq_false_iff_eq.1 h2
   rw[if_neg (by rw[h];decide),if_neg (by rw[h2];simp)] at k4
   have hc:=Jxi 10 h
   have hlc:=congrArg List.length hc
   rw[List.length_drop,hl,List.length_append,List.length_cons] at hlc
   have hd:s.data.toList.drop (k+((Jb3 10 (s.data.toList.drop k)).length+1))=Jhi 10 (s.data.toList.drop k):=by
    rw[←List.drop_drop]
    have:=congrArg (List.drop ((Jb3 10 (s.data.toList.drop k)).length+1)) hc
    rw[this,show(Jb3 10 (s.data.toList.drop k)).length+1=(Jb3 10 (s.data.toList.drop k)).length+1 from rfl]
    simp[List.drop_append]
   have hn:=(Jxc h2)
   have hnum:=U4.1 (show Km (Vh (bs (Jb3 10 (s.data.toList.drop k))) (o.length+1)).1.1 1 1000=0 by
    have:=(Ud hn.1).num
    exact U4.2 this)
   rw[hn.2] at hnum
   refine⟨Oo,by(repeat' first|apply And.intro|(first|omega|dsimp only;omega)),(k+((Jb3 10 (s.data.toList.drop k)).length+1),o++[(Vh (bs (Jb3 10 (s.data.toList.drop k))) (o.length+1)).1]),Oe,⟨Om,k2,by simp only[List.length_append,List.length_singleton];omega,f-1,Om, ?_⟩,Om⟩
   dsimp only
   rw[hd]
   exact k4
 ·obtain⟨k,o⟩:=x
  obtain⟨k1,k2,k3,f,kf,k4⟩:=hx
  have hlt:¬k<s.size:=by simpa using hlt
  dsimp only at k1 k3
  have e:s.data.toList.drop k=[]:=List.drop_eq_nil_of_le Oo
  have k4:J5o f (s.data.toList.drop k) k o=K8 s:=k4
  rw[e] at k4
  have k5:(o,(k:Int),(0:Int))=K8 s:=by
   rw[←k4]
   cases f<;>rfl
  rw[←k5]
  exact⟨rfl,rfl,rfl⟩
abbrev K8y:=K4y.add K62
theorem Jbd (n:Int) (h0: -9223372036854775808≤n) (h1:n≤9223372036854775807):(Vw n).size≤40:=by
 have:=Lib.itoa_length_le n h0 h1
 have e:(Vw n).size=(Lib.itoa n).length:=rfl
 omega
theorem Kb4 {l:List Nat} {b:Nat} (h:∀x∈l,x≤b):l.sum≤b*l.length:=by
 induction l with
 |nil=>simp
 |cons x l ih=>
  have h1:=h x (List.mem_cons_self ..)
  have h2:=ih fun y hy=>h y (List.mem_cons_of_mem _ hy)
  rw[List.sum_cons,List.length_cons,Nat.mul_succ]
  omega
theorem Jqu {s:ByteArray} (h:Yx s=true):s.size≤24:=by
 unfold Yx at h
 simp only[Bool.and_eq_true,decide_eq_true_eq] at h
 omega
theorem J59 {k:ByteArray} (h:Y5 k=true):k.size≤7:=by
 rcases Vd h with h|h|h|h|h|h|h|h|h|h|h<;>subst h<;>decide
theorem J7c {e:Ev} (h:Jb e=0):Dk e:=by
 have hE:=Ud h
 have hk:=Jj6 e.2.1
 have h1:=hE.num
 have h2:=hE.nn
 have h3:=hE.nv
 have h4:=J59 hE.kind
 refine⟨Oo,Oo,Oo,fun v hv=>by have:=hE.val v hv;omega, ?_⟩
 refine Nat.le_trans (Kb4 (b:=41) fun x hx=> ?_) ?_
 ·obtain⟨s,hs,rfl⟩:=List.mem_map.1 hx
  rcases List.mem_cons.1 hs with rfl|hs
  ·have:=Jbd e.1 Oo Oo;omega
  rcases List.mem_cons.1 hs with rfl|hs
  ·omega
  rcases List.mem_append.1 hs with hs|hs
  ·have:=Jqu (hE.name s hs);omega
  ·obtain⟨v,hv,rfl⟩:=List.mem_map.1 hs
   have:=hE.val v hv
   have:=Jbd v Oo Oo;omega
 ·unfold J2a
  simp only[List.length_map,List.length_cons,List.length_append]
  omega
theorem Jvz {e:Ev} (h:Dk e):(J5n e).size=(Hi e).size+9:=by
 have h2:=Jll (Hi e)
 unfold J5n
 rw[Xv]
 simp[h2]
abbrev K4x:=K8y
def Ksy:Con:={args:=[.val false (.list 67 sEv), .fn [(true,sEv)] tS],ress:=[(false, .list 9 .str)],owns:=[true],pre:=fun(l,(q,_),_)=>[l.length≤1000000,∀x∈l,Ux (q (x,()))],spec:=fun(l,(_,f),_)=>(l.map fun x=>f (x,()),())}
def Z9 (a:Nat) (b:List Ev):=Bd (Nc a) (Ln b)
def Z40 (a:List Ev):=List.length a≤1000000
def J22 (a:List Ev) (b:Ev):=b∈a
def Kbb (a:Ev×Unit→Bt) (b:Nat) (c:List Ev):=List.map (fun(x:Ev)=>a (x,PUnit.unit)) (List.take b c)
def J8h (a:List Ev) (b:Nat):=(List.getD a b Jaa).2
def J8e (a:List Ev) (b:Nat):=(J8h a b).2
def J8a (a:List Ev) (b:Nat):=(J8e a b).2
def J79 (a:Nat) (b:List Ev) (c:Nat):=a≤List.length b∧List.length b-a<List.length b-c
def Kaw (a:List Ev) (b:Ev×Unit→List Prop):=∀(x:Ev),J22 a x→Ux (b (x,PUnit.unit))
def Kfg (a:List Ev) (b:Nat):=((List.getD a b Jaa).1,(J8h a b).1,(J8e a b).1,E2 (J8a a b))
def J70 (a:List Ev) (b:Nat):=(Kfg a b,PUnit.unit)
def J98 (a:Ev×Unit→List Prop) (b:List Ev) (c:Nat):=Ux (a (J70 b c))
theorem Krs:Ok Tryz.prog 124 Ksy:=okW K4x Tryz.f124 (fun xx=>Zn (Jbz 67 9 sEv xx.1 tS true xx.2.1.1 xx.2.1.2)) fun xx=>by
 obtain⟨(l:List Ev),⟨(q:Ev×Unit→List Prop),(f:Ev×Unit→ByteArray)⟩,_⟩:=xx
 refine(by kernel_rfl:(Z40 l→Kaw l q→∃(x:Nat),Si (Ln l) (0=Nc x∧Sf l ((fun(x:Ev×PUnit)=>q x)=q∧(fun(x:Ev×PUnit)=>f x)=f∧List.length (Kbb f x l)=0))∧x≤List.length l∧∀(x:Nat),x≤List.length l→Br (decide (Nc x<Ln l)) (Tw (Z9 x l)∧(J98 q l x∧(List.length (Kbb f x l)+1)*16≤140737488355328)∧Z17 x∧∃(y:Nat),Si (Ln l) (Z96 x y∧Sf l ((fun(x:Ev×PUnit)=>q x)=q∧(fun(x:Ev×PUnit)=>f x)=f∧Kbb f x l++[f (J70 l x)]=Kbb f y l))∧J79 y l x) (Kbb f x l=List.map (fun(x:Ev)=>f (x,PUnit.unit)) l))=_).mp ?_
 delta Z9 Z17 Z40 Z96 J22 Jaa Kbb J8h J8e J8a J79 Kaw Kfg J70 J98 Br Iw Bd Tw Sf Si Ln Nc B0 E2
 intro hb hq
 refine⟨(0:Nat),⟨rfl,rfl,rfl,rfl,rfl,by simp⟩,Nat.zero_le _,fun(k:Nat) hk=>⟨fun h=> ?_,fun h=> ?_⟩⟩
 ·have hlt:k<l.length:=by simpa using h
  refine⟨Oo,⟨hq (l.getD k evz) (Je hlt),by simp only[List.length_map,List.length_take];omega⟩,Oo,(k+1:Nat),⟨rfl,by simp,rfl,rfl,rfl, ?_⟩,Oo,Oo⟩
  rw[←Ve (d:=evz) hlt,List.map_append];rfl
 ·have hlt:¬k<l.length:=by simpa using h
  rw[List.take_of_length_le Oo]
abbrev K4w:=K4x.add Krs
def cQ (pre:Reg→ByteArray→List Prop) (f:Reg→ByteArray→List ByteArray):Con:={args:=[Jb4,aS],ress:=[(false, .list 9 .str)],owns:=[true],pre:=fun(r,s,_)=>pre r s,spec:=fun(r,s,_)=>(f r s,())}
theorem Jyf {tk st:Int} {S:List Sta} {O:List Ord} {M:List Met} {X:List Out} {Q:List Per} {s:ByteArray} (hr:Jj (tk,st,S,O,M,X,Q)):∀(l:List Sta) (n:Int),n-3200000000*l.length≤Jt3 st O M s l n∧Jt3 st O M s l n≤n+3200000000*l.length
 |[],n=>by simp[Jt3]
 | x :: l, n => by
  have hb:=Jkw (a:=s) (b:=x.1) hr
  have ih:=Jyf (s:=s) hr l (bif x.1.toList !=s.toList then n+Hj st O M s x.1 else n)
  have hd:n-3200000000≤(bif x.1.toList !=s.toList then n+Hj st O M s x.1 else n)∧(bif x.1.toList !=s.toList then n+Hj st O M s x.1 else n)≤n+3200000000:=by
   cases x.1.toList !=s.toList<;>simp only[cond_true,cond_false]<;>omega
  simp only[List.length_cons]
  unfold Jt3
  omega
theorem Jyd {tk st:Int} {S:List Sta} {O:List Ord} {M:List Met} {X:List Out} {Q:List Per} {s:ByteArray} (hr:Jj (tk,st,S,O,M,X,Q)): -19200000000≤Jm8 st S O M s∧Jm8 st S O M s≤19200000000:=by
 have h:=Jyf (s:=s) hr S 0
 have nS:S.length≤6:=hr.nS
 unfold Jm8
 omega
def Jv0:Reg→ByteArray→List ByteArray:=fun(_,st,S,O,M,_) s=>[Vw (Jm8 st S O M s)]
def Kss:Con:=cQ (fun r _=>[Jj r]) Jv0
theorem Kp4:Ok Tryz.prog 195 Kss:=okW K4w Tryz.f195 na fun xx=>by
 obtain⟨⟨(tk:Int),(st:Int),(S:List Sta),(O:List Ord),(M:List Met),(X:List Out),(Q:List Per)⟩,(s:ByteArray),_⟩:=xx
 refine(by kernel_rfl:(Jy tk st S O M X Q→(Jy tk st S O M X Q∧Iw (Jm8 st S O M s))∧[Vw (Jm8 st S O M s)]=Jv0 (Z64 tk st S O M X Q) s)=_).mp ?_
 delta Z64 Jy Iw
 intro hr
 have hb:=Jyd (s:=s) hr
 exact⟨⟨hr,Oo,Oo⟩,rfl⟩
abbrev K4v:=K4w.add Kp4
def Je9:Reg→ByteArray→List ByteArray:=fun(_,_,S,_) s=>[Vw (Yi S s).2.2]
def Kc2:Con:=cQ (fun r s=>[Jj r,0≤Jn r.2.2.1 s]) Je9
theorem Kp3:Ok Tryz.prog 196 Kc2:=okW K4v Tryz.f196 na fun xx=>by
 obtain⟨⟨(tk:Int),(st:Int),(S:List Sta),(O:List Ord),(M:List Met),(X:List Out),(Q:List Per)⟩,(s:ByteArray),_⟩:=xx
 refine(by kernel_rfl:(Jy tk st S O M X Q→Z24 S s→(Z59 S∧Z24 S s∧Iw (Yi S s).2.2)∧[Vw (Yi S s).2.2]=Je9 (Z64 tk st S O M X Q) s)=_).mp ?_
 delta Z24 Z59 Z64 Jy Iw
 intro hr h
 have nS:S.length≤6:=hr.nS
 have hs:0≤(Yi S s).2.2∧(Yi S s).2.2≤1000:=(Jjc hr.sta h).pri
 exact⟨⟨Oo,h,Oo,Oo⟩,rfl⟩
abbrev K4u:=K4v.add Kp3
def Jfa:Reg→ByteArray→List ByteArray:=fun(_,st,_,O,M,_) s=>[Vw (K6 st M (Vk O s)).2.1,Vw (K6 st M (Vk O s)).2.2.1,Vw (K6 st M (Vk O s)).2.2.2.1,Vw (K6 st M (Vk O s)).2.2.2.2.1,Vw (K6 st M (Vk O s)).2.2.2.2.2]
def Kc4:Con:=cQ (fun r s=>[Jj r,0≤Kd r.2.2.2.1 s]) Jfa
def Ky1 (a:List Ord) (b:Bt):=((Vk a b).1,(Vk a b).2.1,(Vk a b).2.2.1,E2 (Vk a b).2.2.2.1,(Vk a b).2.2.2.2.1,E2 (Vk a b).2.2.2.2.2)
def Kyn (a:Int) (b:List Met) (c:List Ord) (d:Bt):=(K6 a b (Ky1 c d)).2
def Kyj (a:Int) (b:List Met) (c:List Ord) (d:Bt):=(Kyn a b c d).1
def Kyi (a:Int) (b:List Met) (c:List Ord) (d:Bt):=(Kyn a b c d).2
def Kyf (a:Int) (b:List Met) (c:List Ord) (d:Bt):=(Kyi a b c d).2
def Kye (a:Int) (b:List Met) (c:List Ord) (d:Bt):=(Kyi a b c d).1
def Kyd (a:Int) (b:List Met) (c:List Ord) (d:Bt):=(Kyf a b c d).1
def Kyc (a:Int) (b:List Met) (c:List Ord) (d:Bt):=(Kyf a b c d).2
def Kx9 (a:Int) (b:List Met) (c:List Ord) (d:Bt):=(Kyc a b c d).1
def Kx8 (a:Int) (b:List Met) (c:List Ord) (d:Bt):=(Kyc a b c d).2
theorem Kp2:Ok Tryz.prog 197 Kc4:=okW K4u Tryz.f197 na fun xx=>by
 obtain⟨⟨(tk:Int),(st:Int),(S:List Sta),(O:List Ord),(M:List Met),(X:List Out),(Q:List Per)⟩,(s:ByteArray),_⟩:=xx
 refine(by kernel_rfl:(Jy tk st S O M X Q→0≤Kd O s→(Z55 O∧0≤Kd O s∧Jy tk st S O M X Q∧Ky1 O s∈O)∧(5≤1000000∧∀(x:Int),x∈[Kyj st M O s,Kye st M O s,Kyd st M O s,Kx9 st M O s,Kx8 st M O s]→Iw x)∧[Vw (Kyj st M O s),Vw (Kye st M O s),Vw (Kyd st M O s),Vw (Kx9 st M O s),Vw (Kx8 st M O s)]=Jfa (Z64 tk st S O M X Q) s)=_).mp ?_
 delta Z55 Z64 Jy Ky1 Kyn Kyj Kyi Kyf Kye Kyd Kyc Kx9 Kx8 Iw E2
 intro hr h
 have nO:O.length≤32:=hr.nO
 have hm:=Jag h
 have hb:=L9 hr hm
 simp only[Prod.eta]
 refine⟨⟨Oo,h,hr,hm⟩,⟨Od,fun x hx=> ?_⟩,rfl⟩
 have b1:=hb.hours
 have b2:=hb.sent
 have b3:=hb.got
 have b4:=hb.money
 have b5:=hb.fine
 simp only[List.mem_cons,List.not_mem_nil,or_false] at hx
 rcases hx with rfl|rfl|rfl|rfl|rfl<;>omega
abbrev K4t:=K4u.add Kp2
def Jdu:List Gap→List ByteArray→List ByteArray
 |[],o=>o
 |g::l,o=>Jdu l (bif decide ((o.length:Int)<512) then o++[g.1,Vw g.2] else o)
def Jdr:Reg→ByteArray→List ByteArray:=fun(tk,_,_,O,M,_) _=>Jdu (Ks M tk O) []
def Kc3:Con:=cQ (fun r _=>[Jj r]) Jdr
abbrev J2l (L:List Gap):Ann:={X:=Nat×List ByteArray,σ:=fun(k,o)=>⟨2,[(5, .one (.sl 1)),(11, .one (.sl 0)),(12, .one (.int .i64 L.length)),(13, .one (.int .i64 k))],[(0, .own 200 J5h L),(1, .own 9 .str o)]⟩,inv:=fun(k,o)=>k≤L.length∧o.length≤600∧Jdu (L.drop k) o=Jdu L [],mu:=fun(k,_)=>L.length-k}
theorem Jmi {M:List Met} {u:Int} {x:Ord}:∀(n:Nat) (h:Int),(Dn M u x h n).length≤n
 |0,_=>Nat.le_refl _
 |n+1,h=>by
  have:=Jmi (M:=M) (u:=u) (x:=x) n (h+1)
  unfold Dn
  rw[List.length_append]
  cases Jh x h&&(decide (h<u)&&decide (Kw M x.1 h<0))<;>simp only[cond_true,cond_false,List.length_singleton,List.length_nil]<;>omega
theorem Jmg {S:List Sta} {M:List Met} {u:Int}:∀{O:List Ord},(∀x∈O,Jcy S x)→(Ks M u O).length≤48*O.length
 |[],_=>Nat.le_refl _
 |x::l,h=>by
  have h1:=Jmg (M:=M) (u:=u) (O:=l) fun y hy=>h y (List.mem_cons_of_mem _ hy)
  have h2:=Jmi (M:=M) (u:=u) (x:=x) (x.2.2.2.1.2-x.2.2.2.1.1).toNat x.2.2.2.1.1
  have h3:=Jqb (h x (List.mem_cons_self ..))
  unfold Ua at h3
  unfold Ks Jwf
  rw[List.length_append,List.length_cons]
  omega
theorem Jqx {M:List Met} {u:Int} {x:Ord}:∀(n:Nat) (h:Int),∀g∈Dn M u x h n,h≤g.2∧g.2<h+n
 |0,_,g,hg=>by cases hg
 | n + 1, h, g, hg => by
  unfold Dn at hg
  rcases List.mem_append.1 hg with hg|hg
  ·cases hb:Jh x h&&(decide (h<u)&&decide (Kw M x.1 h<0)) with
   |false=>rw[hb] at hg;cases hg
   |true=>
    rw[hb,cond_true] at hg
    rw[List.mem_singleton.1 hg]
    constructor<;>dsimp only<;>omega
  ·have:=Jqx n (h+1) g hg
   omega
theorem Jjz {S:List Sta} {M:List Met} {u:Int}:∀{O:List Ord},(∀x∈O,Jcy S x)→∀g∈Ks M u O,0≤g.2∧g.2≤999999999
 |[],_,g,hg=>by cases hg
 | x :: l, h, g, hg => by
  unfold Ks at hg
  rcases List.mem_append.1 hg with hg|hg
  ·have hs:=(h x (List.mem_cons_self ..)).span
   have h1:=hs.lo
   have h2:=hs.mid
   have h3:=hs.hi
   have:=Jqx _ _ g hg
   omega
  ·exact Jjz (fun y hy=>h y (List.mem_cons_of_mem _ hy)) g hg
def Kjy (a:Nat×Ls) (b:List Met) (c:Int) (d:List Ord):=a.1≤List.length (Ks b c d)∧List.length a.2≤600∧Jdu (List.drop a.1 (Ks b c d)) a.2=Jdu (Ks b c d) []
def Kwq (a:Nat×Ls) (b:List Met) (c:Int) (d:List Ord) (e:Nat×Ls):=Kjy a b c d∧List.length (Ks b c d)-a.1<List.length (Ks b c d)-e.1
theorem Kpz:Ok Tryz.prog 200 Kc3:=okW K4t Tryz.f200 (fun xx=>Zn (J2l (Ks xx.1.2.2.2.2.1 xx.1.1 xx.1.2.2.2.1))) fun xx=>by
 obtain⟨⟨(tk:Int),(st:Int),(S:List Sta),(O:List Ord),(M:List Met),(X:List Out),(Q:List Per)⟩,(s:ByteArray),_⟩:=xx
 refine(by kernel_rfl:(Jy tk st S O M X Q→Jy tk st S O M X Q∧∃(x:Nat×List ByteArray),Si (Ln (Ks M tk O)) (0=Nc x.1∧Sf (Ks M tk O) (List.length x.2=0))∧Kjy x M tk O∧∀(x:Nat×List ByteArray),Kjy x M tk O→Br (decide (Nc x.1<Ln (Ks M tk O))) (Tw (Bd (Nc x.1) (Ln (Ks M tk O)))∧Br (decide (Ln x.2<512)) ((Iw (List.getD (Ks M tk O) x.1 (B0,0)).2∧(List.length x.2+2)*16≤140737488355328)∧Iw (Nc x.1+1)∧∃(y:Nat×List ByteArray),Si (Ln (Ks M tk O)) (Nc x.1+1=Nc y.1∧Sf (Ks M tk O) (x.2++[(List.getD (Ks M tk O) x.1 (B0,0)).1,Vw (List.getD (Ks M tk O) x.1 (B0,0)).2]=y.2))∧Kwq y M tk O x) (Iw (Nc x.1+1)∧∃(y:Nat×List ByteArray),Si (Ln (Ks M tk O)) (Nc x.1+1=Nc y.1∧Sf (Ks M tk O) (x.2=y.2))∧Kwq y M tk O x)) (x.2=Jdr (Z64 tk st S O M X Q) s))=_).mp ?_
 delta Z64 Jy Kjy Kwq Br Iw Bd Tw Sf Si Ln Nc B0
 intro hr
 have nO:O.length≤32:=hr.nO
 have hL:(Ks M tk O).length≤48*O.length:=Jmg hr.ord
 have hG:∀g∈Ks M tk O,0≤g.2∧g.2≤999999999:=Jjz hr.ord
 have hq:Jdr (tk,st,S,O,M,X,Q) s=Jdu (Ks M tk O) []:=rfl
 rw[hq]
 refine⟨hr,((0:Nat),[]),Oe,⟨Nat.zero_le _,Nat.zero_le _,rfl⟩,fun(x:Nat×List ByteArray) hx=>⟨fun hlt=> ?_,fun hlt=> ?_⟩⟩
 ·obtain⟨k,o⟩:=x
  obtain⟨k1,k2,k3⟩:=hx
  have hlt:k<(Ks M tk O).length:=by simpa using hlt
  have hg:=hG _ (Je (d:=(Ja,0)) hlt)
  dsimp only at k1 k2 k3
  rw[J2 (d:=((Ja,0):Gap)) hlt,Jdu] at k3
  have hz:((({data:={toList:=[]}}:ByteArray),(0:Int)):Gap)=(Ja,0):=rfl
  simp only[hz]
  refine⟨by(repeat' first|apply And.intro|(first|omega|dsimp only;omega)),fun h=>⟨⟨by(repeat' first|apply And.intro|(first|omega|dsimp only;omega)),Om⟩,by(repeat' first|apply And.intro|(first|omega|dsimp only;omega)),(k+1,o++[((Ks M tk O).getD k (Ja,0)).1,Vw ((Ks M tk O).getD k (Ja,0)).2]),Oe,⟨Om, ?_, ?_⟩,Om⟩,fun h=>⟨by(repeat' first|apply And.intro|(first|omega|dsimp only;omega)),(k+1,o),Oe,⟨Om,k2, ?_⟩,Om⟩⟩
  ·have h:=of_decide_eq_true h
   simp only[List.length_append,List.length_cons,List.length_nil]
   omega
  all_goals (rw[h] at k3;exact k3)
 ·obtain⟨k,o⟩:=x
  obtain⟨k1,k2,k3⟩:=hx
  have hlt:¬k<(Ks M tk O).length:=by simpa using hlt
  have e:k=(Ks M tk O).length:=by dsimp only at k1;omega
  rw[e,List.drop_length,Jdu] at k3
  exact k3
abbrev K4s:=K4t.add Kpz
def K7l:Con:={args:=[.val true Zw, .ref 105 Jlv],ress:=[Bo],owns:=[],pre:=fun _=>[],spec:=fun(x,(tk,_),_)=>(Kk x.2.2.1 tk,())}
theorem Kpw:Ok Tryz.prog 203 K7l:=okW K4s Tryz.f203 na fun xx=>by
 obtain⟨⟨(n:ByteArray),(f:ByteArray),⟨(a:Int),(b:Int)⟩,(p:Int)⟩,⟨(tk:Int),(st:Int),(S:List Sta),(O:List Ord),(M:List Met),(X:List Out),(Q:List Per)⟩,_⟩:=xx
 refine(by kernel_rfl:(Kk (a,b) tk=Kk (a,b) tk)=_).mp ?_
 rfl
abbrev K4r:=K4s.add Kpw
def Kdf:Con:={args:=[.val false (.list 188 Zw), .fn [(true,Zw)] Bo],ress:=[(false, .list 188 Zw)],owns:=[true],pre:=fun(l,(q,_),_)=>[l.length≤1000000,∀x∈l,Ux (q (x,()))],spec:=fun(l,(_,f),_)=>(l.filter fun x=>f (x,()),())}
def J4s (a:Out×Unit→Bool) (b:Nat) (c:List Out):=List.filter (fun(x:Out)=>a (x,PUnit.unit)) (List.take b c)
def J76 (a:Nat) (b:List Out) (c:Nat):=a≤List.length b∧Jz6 b a c
theorem K56:Ok Tryz.prog 94 Kdf:=okW K4r Tryz.f94 (fun xx=>Zn (Jpn 188 188 Zw xx.1 true xx.2.1.1 xx.2.1.2)) fun xx=>by
 obtain⟨(l:List Out),⟨(q:Out×Unit→List Prop),(f:Out×Unit→Bool)⟩,_⟩:=xx
 refine(by kernel_rfl:(Z47 l→J4n l q→∃(x:Nat),Si (Ln l) (0=Nc x∧Sf l ((fun(x:Out×PUnit)=>q x)=q∧(fun(x:Out×PUnit)=>f x)=f∧List.length (J4s f x l)=0))∧x≤List.length l∧∀(x:Nat),x≤List.length l→Br (Z87 x l) (Tw (Z19 x l)∧J4j q l x∧Br (Ki7 f l x) ((List.length (J4s f x l)+1)*56≤140737488355328∧Z17 x∧∃(y:Nat),Si (Ln l) (Z96 x y∧Sf l ((fun(x:Out×PUnit)=>q x)=q∧(fun(x:Out×PUnit)=>f x)=f∧J4s f x l++[J99 l x]=J4s f y l))∧J76 y l x) (Z17 x∧∃(y:Nat),Si (Ln l) (Z96 x y∧Sf l ((fun(x:Out×PUnit)=>q x)=q∧(fun(x:Out×PUnit)=>f x)=f∧J4s f x l=J4s f y l))∧J76 y l x)) (J4s f x l=List.filter (fun(x:Out)=>f (x,PUnit.unit)) l))=_).mp ?_
 delta Z17 Z19 Z47 Z87 Z96 Jg8 Jz6 J4s J2y J2x J4o J76 J4n J99 J4k Ki7 J4j Br Iw Bd Tw Sf Si Ln Nc B0 E2
 intro hb hq
 refine⟨(0:Nat),⟨rfl,rfl,rfl,rfl,rfl,by simp⟩,Nat.zero_le _,fun(k:Nat) hk=>⟨fun h=> ?_,fun h=> ?_⟩⟩
 ·have hlt:k<l.length:=by simpa using h
  have hf:=Jga (p:=fun x=>f (x,())) hk
  have ht:=Ve (d:=Jax) hlt
  refine⟨Oo,hq (l.getD k Jax) (Je hlt),fun h1=> ?_,fun h1=> ?_⟩
  ·have h1:f (l.getD k Jax,())=true:=h1
   refine⟨by show((List.filter (fun x=>f (x,())) (List.take k l)).length+1)*56≤_;omega,Oo,(k+1:Nat),⟨rfl,by simp,rfl,rfl,rfl, ?_⟩,Oo,Oo⟩
   rw[←ht,List.filter_append,List.filter_cons,if_pos h1];rfl
  ·have h1:f (l.getD k Jax,())=false:=h1
   refine⟨Oo,(k+1:Nat),⟨rfl,by simp,rfl,rfl,rfl, ?_⟩,Oo,Oo⟩
   rw[←ht,List.filter_append,List.filter_cons,if_neg (by rw[h1];decide)];simp
 ·have hlt:¬k<l.length:=by simpa using h
  rw[List.take_of_length_le Oo]
abbrev K4q:=K4r.add K56
def Kc9:Con:={args:=[.val false (.list 188 Zw), .fn [(true,Zw)] tS],ress:=[(false, .list 9 .str)],owns:=[true],pre:=fun(l,(q,_),_)=>[l.length≤1000000,∀x∈l,Ux (q (x,()))],spec:=fun(l,(_,f),_)=>(l.map fun x=>f (x,()),())}
def Ka8 (a:Out×Unit→Bt) (b:Nat) (c:List Out):=List.map (fun(x:Out)=>a (x,PUnit.unit)) (List.take b c)
theorem Kpx:Ok Tryz.prog 202 Kc9:=okW K4q Tryz.f202 (fun xx=>Zn (Jbz 188 9 Zw xx.1 tS true xx.2.1.1 xx.2.1.2)) fun xx=>by
 obtain⟨(l:List Out),⟨(q:Out×Unit→List Prop),(f:Out×Unit→ByteArray)⟩,_⟩:=xx
 refine(by kernel_rfl:(Z47 l→J4n l q→∃(x:Nat),Si (Ln l) (0=Nc x∧Sf l ((fun(x:Out×PUnit)=>q x)=q∧(fun(x:Out×PUnit)=>f x)=f∧List.length (Ka8 f x l)=0))∧x≤List.length l∧∀(x:Nat),x≤List.length l→Br (Z87 x l) (Tw (Z19 x l)∧(J4j q l x∧(List.length (Ka8 f x l)+1)*16≤140737488355328)∧Z17 x∧∃(y:Nat),Si (Ln l) (Z96 x y∧Sf l ((fun(x:Out×PUnit)=>q x)=q∧(fun(x:Out×PUnit)=>f x)=f∧Ka8 f x l++[f (J4k l x)]=Ka8 f y l))∧J76 y l x) (Ka8 f x l=List.map (fun(x:Out)=>f (x,PUnit.unit)) l))=_).mp ?_
 delta Z17 Z19 Z47 Z87 Z96 Jg8 Jz6 J2y Ka8 J2x J4o J76 J4n J99 J4k J4j Br Iw Bd Tw Sf Si Ln Nc B0 E2
 intro hb hq
 refine⟨(0:Nat),⟨rfl,rfl,rfl,rfl,rfl,by simp⟩,Nat.zero_le _,fun(k:Nat) hk=>⟨fun h=> ?_,fun h=> ?_⟩⟩
 ·have hlt:k<l.length:=by simpa using h
  refine⟨Oo,⟨hq (l.getD k Jax) (Je hlt),by simp only[List.length_map,List.length_take];omega⟩,Oo,(k+1:Nat),⟨rfl,by simp,rfl,rfl,rfl, ?_⟩,Oo,Oo⟩
  rw[←Ve (d:=Jax) hlt,List.map_append];rfl
 ·have hlt:¬k<l.length:=by simpa using h
  rw[List.take_of_length_le Oo]
abbrev K4p:=K4q.add Kpx
def Kdb:Con:={args:=[.val false (.list 235 Hw), .fn [(true,Hw)] tS],ress:=[(false, .list 9 .str)],owns:=[true],pre:=fun(l,(q,_),_)=>[l.length≤1000000,∀x∈l,Ux (q (x,()))],spec:=fun(l,(_,f),_)=>(l.map fun x=>f (x,()),())}
def Ka9 (a:Per×Unit→Bt) (b:Nat) (c:List Per):=List.map (fun(x:Per)=>a (x,PUnit.unit)) (List.take b c)
theorem Kpt:Ok Tryz.prog 206 Kdb:=okW K4p Tryz.f206 (fun xx=>Zn (Jbz 235 9 Hw xx.1 tS true xx.2.1.1 xx.2.1.2)) fun xx=>by
 obtain⟨(l:List Per),⟨(q:Per×Unit→List Prop),(f:Per×Unit→ByteArray)⟩,_⟩:=xx
 refine(by kernel_rfl:(Z49 l→Kav l q→∃(x:Nat),Si (Ln l) (0=Nc x∧Sf l ((fun(x:Per×PUnit)=>q x)=q∧(fun(x:Per×PUnit)=>f x)=f∧List.length (Ka9 f x l)=0))∧x≤List.length l∧∀(x:Nat),x≤List.length l→Br (J0c x l) (Tw (Bd (Nc x) (Ln l))∧(Kar q l x∧(List.length (Ka9 f x l)+1)*16≤140737488355328)∧Z17 x∧∃(y:Nat),Si (Ln l) (Z96 x y∧Sf l ((fun(x:Per×PUnit)=>q x)=q∧(fun(x:Per×PUnit)=>f x)=f∧Ka9 f x l++[f (Kat l x)]=Ka9 f y l))∧Khj y l x) (Ka9 f x l=List.map (fun(x:Per)=>f (x,PUnit.unit)) l))=_).mp ?_
 delta Z17 Z49 Z96 J0c J4z J21 Ka9 Khj Kav Kg5 Kat Kar Br Iw Bd Tw Sf Si Ln Nc B0 E2
 intro hb hq
 refine⟨(0:Nat),⟨rfl,rfl,rfl,rfl,rfl,by simp⟩,Nat.zero_le _,fun(k:Nat) hk=>⟨fun h=> ?_,fun h=> ?_⟩⟩
 ·have hlt:k<l.length:=by simpa using h
  refine⟨Oo,⟨hq (l.getD k Jjo) (Je hlt),by simp only[List.length_map,List.length_take];omega⟩,Oo,(k+1:Nat),⟨rfl,by simp,rfl,rfl,rfl, ?_⟩,Oo,Oo⟩
  rw[←Ve (d:=Jjo) hlt,List.map_append];rfl
 ·have hlt:¬k<l.length:=by simpa using h
  rw[List.take_of_length_le Oo]
abbrev K4o:=K4p.add Kpt
def Jug:Reg→ByteArray→List ByteArray:=fun(tk,_,_,_,_,X,_) _=>(X.filter fun x=>Kk x.2.2.1 tk).map fun x=>x.1
def Ksr:Con:=cQ (fun r _=>[Jj r]) Jug
theorem Kpy:Ok Tryz.prog 201 Ksr:=okW K4o Tryz.f201 na fun xx=>by
 obtain⟨⟨(tk:Int),(st:Int),(S:List Sta),(O:List Ord),(M:List Met),(X:List Out),(Q:List Per)⟩,(s:ByteArray),_⟩:=xx
 refine(by kernel_rfl:(Jy tk st S O M X Q→(Z47 X∧Knc X∧List.length (List.filter (fun(x:Out)=>Kk x.2.2.1 tk) X)≤1000000∧∀(x:Out),x∈List.filter (fun(x:Out)=>Kk x.2.2.1 tk) X→True)∧List.map (fun(x:Out)=>x.1) (List.filter (fun(x:Out)=>Kk x.2.2.1 tk) X)=Jug (Z64 tk st S O M X Q) s)=_).mp ?_
 delta Z47 Z64 Jy Knc
 intro hr
 have nX:X.length≤16:=hr.nX
 have:=List.length_filter_le (fun x:Out=>Kk x.2.2.1 tk) X
 exact⟨⟨Oo,fun _ _=>trivial,Nat.le_trans this Oo,fun _ _=>trivial⟩,rfl⟩
abbrev K4n:=K4o.add Kpy
def Juf:Reg→ByteArray→List ByteArray:=fun(_,_,_,_,_,_,Q) _=>(Dm Q).map fun x=>x.1
def Ksq:Con:=cQ (fun r _=>[Jj r]) Juf
theorem Kpu:Ok Tryz.prog 205 Ksq:=okW K4n Tryz.f205 na fun xx=>by
 obtain⟨⟨(tk:Int),(st:Int),(S:List Sta),(O:List Ord),(M:List Met),(X:List Out),(Q:List Per)⟩,(s:ByteArray),_⟩:=xx
 refine(by kernel_rfl:(Jy tk st S O M X Q→Kj3 tk st S O M X Q∧List.map (fun(x:Per)=>x.1) (Dm Q)=Juf (Z64 tk st S O M X Q) s)=_).mp ?_
 delta Z64 Jy Kj3
 intro hr
 have nQ:Q.length≤16:=hr.nQ
 have:=Jd8 (Q:=Q)
 exact⟨⟨hr,Oo,fun _ _=>trivial⟩,rfl⟩
abbrev K4m:=K4n.add Kpu
def Je8:Reg→ByteArray→List ByteArray:=fun(_,st,_) _=>[Vw st]
def Kc1:Con:=cQ (fun r _=>[Jj r]) Je8
theorem Kpq:Ok Tryz.prog 209 Kc1:=okW K4m Tryz.f209 na fun xx=>by
 obtain⟨⟨(tk:Int),(st:Int),(S:List Sta),(O:List Ord),(M:List Met),(X:List Out),(Q:List Per)⟩,(s:ByteArray),_⟩:=xx
 refine(by kernel_rfl:(Jy tk st S O M X Q→Iw st∧[Vw st]=Je8 (Z64 tk st S O M X Q) s)=_).mp ?_
 delta Z64 Jy Iw
 intro hr
 have h1:0≤st∧st≤tk:=hr.st
 have h2:0≤tk∧tk≤999999999:=hr.tk
 exact⟨⟨Oo,Oo⟩,rfl⟩
abbrev K28:=K4m.add Kpq
end Go.Proofs.YtcibbcfiemeoiaaGreatDoor
namespace Go.Proofs.Tryz
open Go.Proofs.YtcibbcfiemeoiaaGreatDoor
def questU:List (ByteArray×Bool×Int×Option Nat):=[(⟨⟨[98,97,108,97,110,99,101]⟩⟩,true,0,some 195),(⟨⟨[114,97,116,101]⟩⟩,true,0,some 196),(⟨⟨[98,105,108,108]⟩⟩,true,1,some 197),(⟨⟨[109,105,115,115,105,110,103]⟩⟩,false,1,some 200),(⟨⟨[111,117,116,97,103,101,115]⟩⟩,false,2,some 201),(⟨⟨[112,101,114,109,105,116,115]⟩⟩,false,3,some 205),(⟨⟨[115,101,116,116,108,101,100]⟩⟩,false,0,some 209)]
end Go.Proofs.Tryz
namespace Go.Proofs.YtcibbcfiemeoiaaGreatDoor
open Go.Sx
set_option maxHeartbeats 20000000
abbrev Uq:ByteArray:=⟨⟨[98,97,108,97,110,99,101]⟩⟩
abbrev H5:ByteArray:=⟨⟨[114,97,116,101]⟩⟩
abbrev H6:ByteArray:=⟨⟨[98,105,108,108]⟩⟩
abbrev Ug:ByteArray:=⟨⟨[109,105,115,115,105,110,103]⟩⟩
abbrev Up:ByteArray:=⟨⟨[111,117,116,97,103,101,115]⟩⟩
abbrev Uo:ByteArray:=⟨⟨[112,101,114,109,105,116,115]⟩⟩
abbrev Un:ByteArray:=⟨⟨[115,101,116,116,108,101,100]⟩⟩
structure NmR (r:Reg):Prop where
 o:∀x∈r.2.2.2.1,x.1.size≤24
 x:∀x∈r.2.2.2.2.2.1,x.1.size≤24
 q:∀x∈r.2.2.2.2.2.2,x.1.size≤24
def Fq (h:Kh):Prop:=∀r∈h.2.2,NmR r
theorem J5z {e:Ev} (h:Jb e=0) (i:Nat):(e.2.2.1.getD i Ja).size≤24:=by
 by_cases hi:i<e.2.2.1.length
 ·exact Jqu ((Ud h).name _ (Je hi))
 ·rw[List.getD_eq_getElem?_getD,List.getElem?_eq_none Oo]
  decide
theorem Jbi {α:Type} {p:α→Prop} {l:List α} {d:α} (h:∀x∈l,p x) (hd:p d) (i:Nat):p (l.getD i d):=by
 by_cases hi:i<l.length
 ·exact h _ (Je hi)
 ·rw[List.getD_eq_getElem?_getD,List.getElem?_eq_none Oo]
  exact hd
theorem J5d {r:Reg} {e:Ev} (hr:NmR r) (hc:Jb e=0):NmR (Jq r e):=by
 have hn:=J5z hc
 obtain⟨tk,st,S,O,M,X,Q⟩:=r
 obtain⟨n,k,ns,vs,tx⟩:=e
 have ho:∀x∈O,x.1.size≤24:=hr.o
 have hx:∀x∈X,x.1.size≤24:=hr.x
 have hq:∀x∈Q,x.1.size≤24:=hr.q
 have hO:∀s,(Vk O s).1.size≤24:=fun s=>Jbi (p:=fun x:Ord=>x.1.size≤24) ho Od _
 have hX:∀s,(Le X s).1.size≤24:=fun s=>Jbi (p:=fun x:Out=>x.1.size≤24) hx Od _
 have hQ:∀s,(Jnh Q s).1.size≤24:=fun s=>Jbi (p:=fun x:Per=>x.1.size≤24) hq Od _
 unfold Jq doS
 split
 all_goals refine⟨fun y hy=> ?_,fun y hy=> ?_,fun y hy=> ?_⟩
 all_goals first|exact ho y hy|exact hx y hy|exact hq y hy|(rcases Vu hy with h|h;(first|exact ho y h|exact hx y h|exact hq y h);rw[h];exact hn 0)|(rcases Jcd hy with h|h;rw[h];(first|exact hO _|exact hX _|exact hQ _);(first|exact ho y h|exact hx y h|exact hq y h))
theorem Kts {h:Kh} {e:Ev} (hN:Fq h) (ha:Ue h e=0):Fq (Hz h e):=by
 obtain⟨hc,hacc⟩:=add_zero ha
 obtain⟨E,C,G⟩:=h
 have h0:NmR (J7 G):=by
  unfold J7
  exact Jbi (p:=NmR) hN ⟨fun x h=>(by cases h),fun x h=>(by cases h),fun x h=>(by cases h)⟩ _
 cases hk:e.2.1.toList==Ju.toList with
 |true=>
  unfold Hz
  rw[hk,cond_true]
  exact fun r hr=>hN r (List.mem_of_mem_take hr)
 |false=>
  unfold Hz
  rw[hk,cond_false]
  intro r hr
  rcases Vu hr with hr|rfl
  ·exact hN r hr
  ·exact J5d h0 hc
theorem Jfl {h:Kh} (hN:Fq h):NmR (J7 h.2.2):=by
 unfold J7
 exact Jbi (p:=NmR) hN ⟨fun x h=>(by cases h),fun x h=>(by cases h),fun x h=>(by cases h)⟩ _
theorem J6e:Fq Xt:=fun r h=>by cases h
abbrev K3e:Sch:= .prod .bool (.prod sI .fnc)
abbrev Qst:=Bool×Int×Option Nat
def Je7:List (ByteArray×Qst):=Tryz.questU
def J36:Jnf:={kT:=9,gk:=false,gv:=true,ks:= .str,vs:=K3e,l:=Je7}
theorem Koo:wpFM Tryz.prog K28.g (na ()) (fun _=>na ()) (Sx.look ([]:List (Nat×Func))) Tryz.f118 J36:=by
 refine(by kernel_rfl:(Kjs∧Sf true ([(Uq,true,0,some 195),(H5,true,0,some 196),(H6,true,1,some 197),(Ug,false,1,some 200),(Up,false,2,some 201),(Uo,false,3,some 205),(Un,false,0,some 209)]=Je7))=_).mp ?_
 delta Kjs Sf Lb Uq H6 Ug Up Uo H5 Un
 exact⟨⟨fun _ _=>rfl,fun _=>rfl⟩,rfl,rfl⟩
theorem J5w:Ok Tryz.prog 118 (Jnf.con J36):=J3v (Jmc mixed K28.ok (by kernel_rfl) (by kernel_rfl) (U5 (l:=([]:List (Nat×Func))) (by simp)) (na ()) (fun _=>na ()) Koo)
abbrev K8x:=K28.add J5w
def J6t:Jnf:={kT:=9,gk:=false,gv:=true,ks:= .str,vs:=K3e,l:=Tryz.questU}
theorem Kcj:Ok Tryz.prog 118 (Jnf.con J6t):=J5w
abbrev J0d:=K8x.add Kcj
def Jc8 (k:ByteArray):Qst:=(Uu .str k Je7).getD (false,0,none)
def Jh2 (k:ByteArray):Bool:=(Uu .str k Je7).isSome
def Kr8:ByteArray:=⟨⟨[110,111,110,101]⟩⟩
def Jni (l:List ByteArray):ByteArray:=bif (l.length:Int)==0 then Kr8 else V3 l ⟨⟨[32]⟩⟩
def Jhk (named:Bool) (what:Int) (f:Reg→ByteArray→List ByteArray) (r:Reg) (ws:List ByteArray):ByteArray×Int:=
 bif named then(bif (ws.length:Int)==2 then(bif (ws.getD 1 Ja).toList==Ja.toList then(Ja,25) else bif !Vq r what (ws.getD 1 Ja) then(Ja,10) else(Jni (f r (ws.getD 1 Ja)),0)) else(Ja,25))
 else bif (ws.length:Int) !=1 then(Ja,25) else(Jni (f r Ja),0)
def Zm (r:Reg) (ws:List ByteArray):ByteArray×Int:=match(Jc8 (ws.getD 0 Ja)).2.2 with
 |some 195=>Jhk true 0 Jv0 r ws
 |some 196=>Jhk true 0 Je9 r ws
 |some 197=>Jhk true 1 Jfa r ws
 |some 200=>Jhk false 1 Jdr r ws
 |some 201=>Jhk false 2 Jug r ws
 |some 205=>Jhk false 3 Juf r ws
 |some 209=>Jhk false 0 Je8 r ws
 |_=>(Ja,0)
structure Jgy (h:Kh) (ws:List ByteArray):Prop where
 hist:Ke h
 nm:Fq h
 len:1≤ws.length
 key:Jh2 (ws.getD 0 Ja)=true
 max:ws.length≤1000000
 siz:∀w∈ws,w.size≤1000000
def J18:X8:={T? :=none,s:=Jjk,args:=[.val false (.list 9 .str)],ress:=[tS,I],pre:=fun h (ws,_)=>[Jgy h ws],spec:=fun h (ws,_)=>((Zm (J7 h.2.2) ws).1,(Zm (J7 h.2.2) ws).2,()),post:=fun h _=>h}
def SmL (l:List ByteArray):Prop:=l.length≤2000∧∀w∈l,w.size≤40
theorem K7 {l:List ByteArray} (h:SmL l):l.length≤1000000∧(Lib.join (l.map fun x=>x.data.toList) [32]).length≤140737488355328:=by
 refine⟨by have:=h.1;omega,Nat.le_trans (Jj8 rfl) ?_⟩
 have:∀l:List ByteArray,(∀w∈l,w.size≤40)→((l.map fun x=>x.data.toList).map fun x=>x.length+1).sum≤41*l.length:=by
  intro l
  induction l with
  |nil=>intro _;simp
  |cons x r ih=>
   intro h
   have h1:=ih fun w hw=>h w (List.mem_cons_of_mem _ hw)
   have h2:x.data.toList.length≤40:=h x (List.mem_cons_self ..)
   simp only[List.map_cons,List.sum_cons,List.length_cons]
   omega
 have h1:=this l h.2
 have h2:=h.1
 omega
theorem Jje {l:List Int} (h:l.length≤2000) (hb:∀n∈l,-9223372036854775808≤n∧n≤9223372036854775807):SmL (l.map Vw):=by
 refine⟨by simpa using h,fun w hw=> ?_⟩
 obtain⟨n,hn,rfl⟩:=List.mem_map.1 hw
 exact Jbd n (hb n hn).1 (hb n hn).2
theorem Jqf {r:Reg} (hr:Jj r) (s:ByteArray):SmL (Jv0 r s):=by
 obtain⟨tk,st,S,O,M,X,Q⟩:=r
 have hb:=Jyd (s:=s) hr
 exact Jje (l:=[Jm8 st S O M s]) (by simp) fun n hn=>by rw[List.mem_singleton.1 hn];omega
theorem Jjg {r:Reg} (hr:Jj r) {s:ByteArray} (h:0≤Jn r.2.2.1 s):SmL (Je9 r s):=by
 obtain⟨tk,st,S,O,M,X,Q⟩:=r
 have hs:0≤(Yi S s).2.2∧(Yi S s).2.2≤1000:=(Jjc hr.sta h).pri
 exact Jje (l:=[(Yi S s).2.2]) (by simp) fun n hn=>by rw[List.mem_singleton.1 hn];omega
theorem Jji {r:Reg} (hr:Jj r) {s:ByteArray} (h:0≤Kd r.2.2.2.1 s):SmL (Jfa r s):=by
 obtain⟨tk,st,S,O,M,X,Q⟩:=r
 have hb:=L9 hr (Jag h)
 have b1:=hb.hours
 have b2:=hb.sent
 have b3:=hb.got
 have b4:=hb.money
 have b5:=hb.fine
 refine Jje (l:=[(K6 st M (Vk O s)).2.1,(K6 st M (Vk O s)).2.2.1,(K6 st M (Vk O s)).2.2.2.1,(K6 st M (Vk O s)).2.2.2.2.1,(K6 st M (Vk O s)).2.2.2.2.2]) (by simp) fun n hn=> ?_
 simp only[List.mem_cons,List.not_mem_nil,or_false] at hn
 rcases hn with rfl|rfl|rfl|rfl|rfl<;>omega
theorem Jjy:∀{l:List Gap} {o:List ByteArray},(∀g∈l,g.1.size≤40∧0≤g.2∧g.2≤999999999)→o.length≤514→(∀w∈o,w.size≤40)→SmL (Jdu l o)
 |[],o,_,h1,h2=>⟨by unfold Jdu;omega,h2⟩
 | g :: l, o, h, h1, h2 => by
  unfold Jdu
  have hg:=h g (List.mem_cons_self ..)
  have h':∀x∈l,x.1.size≤40∧0≤x.2∧x.2≤999999999:=fun x hx=>h x (List.mem_cons_of_mem _ hx)
  cases hd:decide ((o.length:Int)<512) with
  |false=>exact Jjy h' h1 h2
  |true=>
   have hd:=of_decide_eq_true hd
   rw[cond_true]
   refine Jjy h' (by rw[List.length_append,List.length_cons,List.length_cons,List.length_nil];omega) fun w hw=> ?_
   simp only[List.mem_append,List.mem_cons,List.not_mem_nil,or_false] at hw
   rcases hw with hw|rfl|rfl
   ·exact h2 w hw
   ·exact hg.1
   ·exact Jbd _ Oo Oo
theorem Jqw {M:List Met} {u:Int} {x:Ord}:∀(n:Nat) (h:Int),∀g∈Dn M u x h n,g.1=x.1
 |0,_,g,hg=>by cases hg
 | n + 1, h, g, hg => by
  unfold Dn at hg
  rcases List.mem_append.1 hg with hg|hg
  ·cases hb:Jh x h&&(decide (h<u)&&decide (Kw M x.1 h<0)) with
   |false=>rw[hb] at hg;cases hg
   |true=>
    rw[hb,cond_true] at hg
    rw[List.mem_singleton.1 hg]
  ·exact Jqw n (h+1) g hg
theorem Jqv {M:List Met} {u:Int}:∀{O:List Ord},(∀x∈O,x.1.size≤24)→∀g∈Ks M u O,g.1.size≤24
 |[],_,g,hg=>by cases hg
 | x :: l, h, g, hg => by
  unfold Ks at hg
  rcases List.mem_append.1 hg with hg|hg
  ·rw[Jqw _ _ g hg]
   exact h x (List.mem_cons_self ..)
  ·exact Jqv (fun y hy=>h y (List.mem_cons_of_mem _ hy)) g hg
theorem Jjh {r:Reg} (hr:Jj r) (hN:NmR r) (s:ByteArray):SmL (Jdr r s):=by
 obtain⟨tk,st,S,O,M,X,Q⟩:=r
 refine Jjy (fun g hg=>⟨?_,Jjz hr.ord g hg⟩) Od fun w hw=>by cases hw
 have:=Jqv hN.o g hg
 omega
theorem Jqe {r:Reg} (hr:Jj r) (hN:NmR r) (s:ByteArray):SmL (Jug r s):=by
 obtain⟨tk,st,S,O,M,X,Q⟩:=r
 have nX:X.length≤16:=hr.nX
 have:=List.length_filter_le (fun x:Out=>Kk x.2.2.1 tk) X
 refine⟨by unfold Jug;rw[List.length_map];omega,fun w hw=> ?_⟩
 obtain⟨x,hx,rfl⟩:=List.mem_map.1 hw
 have:=hN.x x (List.mem_filter.1 hx).1
 omega
theorem Jqd {r:Reg} (hr:Jj r) (hN:NmR r) (s:ByteArray):SmL (Juf r s):=by
 obtain⟨tk,st,S,O,M,X,Q⟩:=r
 have nQ:Q.length≤16:=hr.nQ
 have:=Jd8 (Q:=Q)
 refine⟨by unfold Juf;rw[List.length_map];omega,fun w hw=> ?_⟩
 obtain⟨x,hx,rfl⟩:=List.mem_map.1 hw
 have:=hN.q x (List.mem_filter.1 hx).1
 omega
theorem Jjf {r:Reg} (hr:Jj r) (s:ByteArray):SmL (Je8 r s):=by
 obtain⟨tk,st,S,O,M,X,Q⟩:=r
 have h1:0≤st∧st≤tk:=hr.st
 have h2:0≤tk∧tk≤999999999:=hr.tk
 exact Jje (l:=[st]) (by simp) fun n hn=>by rw[List.mem_singleton.1 hn];omega
theorem Jfk (G:List Reg):(decide (0<(G.length:Int))=true∧J7 G=G.getD ((G.length:Int)-1).toNat U9)∨(decide (0<(G.length:Int))=false∧J7 G=U9):=by
 cases h:decide (0<(G.length:Int)) with
 |true=>exact .inl ⟨rfl,by unfold J7;congr 1;omega⟩
 |false=>exact .inr ⟨rfl,Ko h⟩
theorem Jtf:Jc8 Uq=(true,0,some 195):=by kernel_rfl
theorem Jpk (r:Reg) (ws:List ByteArray):Zm r (Uq::ws)=Jhk true 0 Jv0 r (Uq::ws):=by
 have:(Uq::ws).getD 0 Ja=Uq:=rfl
 unfold Zm
 rw[this,Jtf]
 rfl
def Z84 (a:List Reg) (b:Ls):=(Zm (J7 a) (Uq::b)).1
def Kns (a:Ls):=Ln (Uq::a)==2
def Kbo (a:List Reg) (b:Ls):=0=(Zm (J7 a) (Uq::b)).2
def Kbj:=1≤1000000∧1≤140737488355328
def Jr8 (a:Ls):= !Lb (Vb a) B0
def Jnk:=ByteArray.mk (Array.mk [110,111,110,101])
def Kgw (a:Ls):=Jv0 V4 (Vb a)
def Kfx (a:TypeId) (b c:List Ev) (d:List Reg) (e:Ls):=Sf true (Sf a (Sf (b,c,d) (B0=Z84 d e∧10=(Zm (J7 d) (Uq::e)).2)))
def Kxt (a:TypeId) (b c:List Ev) (d:List Reg) (e:Ls):=Sf true (Sf a (Sf (b,c,d) (B0=Z84 d e∧25=(Zm (J7 d) (Uq::e)).2)))
def Kfj (a:TypeId) (b c:List Ev) (d:List Reg) (e:Ls):=Sf true (Sf a (Sf (b,c,d) (Jnk=Z84 d e∧Kbo d e)))
def Ke6 (a:List Reg):=Jv0 (Yq a) B0
def Kez (a:List Reg) (b:Ls):=Jv0 (Yq a) (Vb b)
def Kir (a:List Reg):=bif true then !Vq (Yq a) 0 B0 else false
theorem Ji2 (T:TypeId) (E C:List Ev) (G:List Reg) (ws:List ByteArray):wpFO Tryz.prog J0d.g (na ()) (fun _=>na ()) (Sx.look ([(75,Tryz.f75)]:List (Nat×Func))) Tryz.f119 J18 T (E,C,G) (Uq::ws,()):=by
 refine(by kernel_rfl:(Jgy (E,C,G) (Uq::ws)→Tw (Bd 0 (Ln (Uq::ws)))∧Br (bif true then Kns ws else false) (Tw (Bd 1 (Ln (Uq::ws)))∧Br (bif !true==bif Kns ws then Jr8 ws else false then true else false) (Kxt T E C G ws) (Br (Ye G) (Yd G∧Jeh G∧Br (J93 G ws) (Kfx T E C G ws) (Xd G∧Br (Ln (Kez G ws)==0) (Kfj T E C G ws) ((List.length (Kez G ws)≤1000000∧List.length (Lib.join (List.map (fun(x:ByteArray)=>Z16 x) (Kez G ws)) [32])≤140737488355328)∧Sf true (Sf T (Sf (E,C,G) (V3 (Kez G ws) H2=Z84 G ws∧Kbo G ws)))))) (Jel∧Br (Kaf ws) (Kfx T E C G ws) (Y4∧Br (Ln (Kgw ws)==0) (Kfj T E C G ws) ((List.length (Kgw ws)≤1000000∧List.length (Lib.join (List.map (fun(x:ByteArray)=>Z16 x) (Kgw ws)) [32])≤140737488355328)∧Sf true (Sf T (Sf (E,C,G) (V3 (Kgw ws) H2=Z84 G ws∧Kbo G ws)))))))) (Br (bif !true==bif Kns ws then false else false then true else false) (Kxt T E C G ws) (Br (Ye G) (Yd G∧Jeh G∧Br (Kir G) (Kfx T E C G ws) (Xd G∧Br (Ln (Ke6 G)==0) (Kfj T E C G ws) ((List.length (Ke6 G)≤1000000∧List.length (Lib.join (List.map (fun(x:ByteArray)=>Z16 x) (Ke6 G)) [32])≤140737488355328)∧Sf true (Sf T (Sf (E,C,G) (V3 (Ke6 G) H2=Z84 G ws∧Kbo G ws)))))) (Jel∧Br true (Kfx T E C G ws) (Y4∧Br false (Kfj T E C G ws) (Kbj∧Sf true (Sf T (Sf (E,C,G) (V3 (Jv0 V4 B0) H2=Z84 G ws∧Kbo G ws)))))))))=_).mp ?_
 delta Z16 Z84 Vb Ye H2 Kns Kbo Kbj Jr8 Jnk Dp V4 Yd Y4 Jel Fo Fn Jau Kgw F9 H1 H0 Du Hn J4m Kaf Kfx Kxt Kfj F8 Yq Xd Ke6 Jeh Kez J4g Kir J93 Br Iw Bd Tw Sf Ln Gt B0 Lb E2 Uq
 intro ha
 obtain⟨hh,hn,-,-,hmax,hsz⟩:=ha
 have hr:Jj (J7 G):=Xj hh
 have hN:NmR (J7 G):=Jfl hn
 have hG:G.length≤1000:=by have:=hh.nE;have:=hh.nC;have:=hh.nG;dsimp only at*;omega
 rw[Jpk]
 have hbn:({data:={toList:=[]}}:ByteArray)=Ja:=rfl
 have hl:((Uq::ws).length:Int)=(ws.length:Int)+1:=by simp
 have ha1:(Uq::ws).getD 1 Ja=ws.getD 0 Ja:=rfl
 have hz:((0:Int),(0:Int),([]:List Sta),([]:List Ord),([]:List Met),([]:List Out),([]:List Per))=U9:=rfl
 simp only[hbn,hz,hl,Prod.eta,Jhk,ha1]
 rcases Jfk G with⟨hd,e0⟩|⟨hd,e0⟩
 ·rw[e0] at hr hN⊢
  have hp:=of_decide_eq_true hd
  rw[hd]
  generalize G.getD ((G.length:Int)-1).toNat U9=r at hr hN⊢
  cases h2:(ws.length:Int)+1==2
  all_goals cases h3:(ws.getD 0 Ja).toList==Ja.toList
  all_goals cases h4:Vq r 0 (ws.getD 0 Ja)
  all_goals cases h5:(((Jv0 r (ws.getD 0 Ja)).length:Int)==0)
  all_goals simp only[h2,h3,h4,h5,bne,Jni,Bool.not_true,Bool.not_false,cond_true,cond_false,BEq.rfl,Bool.true_beq,Bool.false_beq,reduceCtorEq,false_implies,forall_const,true_and,and_true,and_self]
  all_goals repeat' apply And.intro
  all_goals first|omega|(have:=eq_of_beq h2;omega)|exact hr|exact(K7 (Jqf hr _)).1|exact(K7 (Jqf hr _)).2|rfl|(have:=h4;simpa[Vq] using this)|skip
 ·rw[e0] at hr hN⊢
  rw[hd]
  cases h2:(ws.length:Int)+1==2
  all_goals cases h3:(ws.getD 0 Ja).toList==Ja.toList
  all_goals cases h4:Vq U9 0 (ws.getD 0 Ja)
  all_goals cases h5:(((Jv0 U9 (ws.getD 0 Ja)).length:Int)==0)
  all_goals simp only[h2,h3,h4,h5,bne,Jni,Bool.not_true,Bool.not_false,cond_true,cond_false,BEq.rfl,Bool.true_beq,Bool.false_beq,reduceCtorEq,false_implies,forall_const,true_and,and_true,and_self]
  all_goals repeat' apply And.intro
  all_goals first|omega|(have:=eq_of_beq h2;omega)|exact hr|exact(K7 (Jqf hr _)).1|exact(K7 (Jqf hr _)).2|rfl|(have:=h4;simpa[Vq,U9] using this)|exact nomatch (show true=false from h5)|exact nomatch (show false=true from h5)
theorem J5p:Jc8 H5=(true,0,some 196):=by kernel_rfl
theorem J2f (r:Reg) (ws:List ByteArray):Zm r (H5::ws)=Jhk true 0 Je9 r (H5::ws):=by
 have:(H5::ws).getD 0 Ja=H5:=rfl
 unfold Zm
 rw[this,J5p]
 rfl
def Z62 (a:List Reg) (b:Ls):=(Zm (J7 a) (H5::b)).1
def Knv (a:Ls):=Ln (H5::a)==2
def Kbt (a:List Reg) (b:Ls):=0=(Zm (J7 a) (H5::b)).2
def Kgt (a:Ls):=Je9 V4 (Vb a)
def Kx3 (a:TypeId) (b c:List Ev) (d:List Reg) (e:Ls):=Sf true (Sf a (Sf (b,c,d) (B0=Z62 d e∧25=(Zm (J7 d) (H5::e)).2)))
def Kfz (a:TypeId) (b c:List Ev) (d:List Reg) (e:Ls):=Sf true (Sf a (Sf (b,c,d) (B0=Z62 d e∧10=(Zm (J7 d) (H5::e)).2)))
def Kfn (a:TypeId) (b c:List Ev) (d:List Reg) (e:Ls):=Sf true (Sf a (Sf (b,c,d) (Jnk=Z62 d e∧Kbt d e)))
def Ke2 (a:List Reg):=Je9 (Yq a) B0
def Key (a:List Reg) (b:Ls):=Je9 (Yq a) (Vb b)
theorem Jsv (T:TypeId) (E C:List Ev) (G:List Reg) (ws:List ByteArray):wpFO Tryz.prog J0d.g (na ()) (fun _=>na ()) (Sx.look ([(75,Tryz.f75)]:List (Nat×Func))) Tryz.f119 J18 T (E,C,G) (H5::ws,()):=by
 refine(by kernel_rfl:(Jgy (E,C,G) (H5::ws)→Tw (Bd 0 (Ln (H5::ws)))∧Br (bif true then Knv ws else false) (Tw (Bd 1 (Ln (H5::ws)))∧Br (bif !true==bif Knv ws then Jr8 ws else false then true else false) (Kx3 T E C G ws) (Br (Ye G) (Yd G∧Jeh G∧Br (J93 G ws) (Kfz T E C G ws) ((Xd G∧0≤Jn (H1 G).1 (Vb ws))∧Br (Ln (Key G ws)==0) (Kfn T E C G ws) ((List.length (Key G ws)≤1000000∧List.length (Lib.join (List.map (fun(x:ByteArray)=>Z16 x) (Key G ws)) [32])≤140737488355328)∧Sf true (Sf T (Sf (E,C,G) (V3 (Key G ws) H2=Z62 G ws∧Kbt G ws)))))) (Jel∧Br (Kaf ws) (Kfz T E C G ws) ((Y4∧0≤Jn [] (Vb ws))∧Br (Ln (Kgt ws)==0) (Kfn T E C G ws) ((List.length (Kgt ws)≤1000000∧List.length (Lib.join (List.map (fun(x:ByteArray)=>Z16 x) (Kgt ws)) [32])≤140737488355328)∧Sf true (Sf T (Sf (E,C,G) (V3 (Kgt ws) H2=Z62 G ws∧Kbt G ws)))))))) (Br (bif !true==bif Knv ws then false else false then true else false) (Kx3 T E C G ws) (Br (Ye G) (Yd G∧Jeh G∧Br (Kir G) (Kfz T E C G ws) ((Xd G∧0≤Jn (H1 G).1 B0)∧Br (Ln (Ke2 G)==0) (Kfn T E C G ws) ((List.length (Ke2 G)≤1000000∧List.length (Lib.join (List.map (fun(x:ByteArray)=>Z16 x) (Ke2 G)) [32])≤140737488355328)∧Sf true (Sf T (Sf (E,C,G) (V3 (Ke2 G) H2=Z62 G ws∧Kbt G ws)))))) (Jel∧Br true (Kfz T E C G ws) ((Y4∧0≤Jn [] B0)∧Br false (Kfn T E C G ws) (Kbj∧Sf true (Sf T (Sf (E,C,G) (V3 (Je9 V4 B0) H2=Z62 G ws∧Kbt G ws)))))))))=_).mp ?_
 delta Z16 Z62 Vb Ye Knv H2 Kbt Kbj Jr8 Jnk Dp V4 Yd Y4 Jel Fo Fn Jau Kgt F9 H1 H0 Du Hn J4m Kaf Kx3 Kfz Kfn F8 Yq Xd Ke2 Jeh Key J4g Kir J93 Br Iw Bd Tw Sf Ln Gt B0 Lb E2 H5
 intro ha
 obtain⟨hh,hn,-,-,hmax,hsz⟩:=ha
 have hr:Jj (J7 G):=Xj hh
 have hN:NmR (J7 G):=Jfl hn
 have hG:G.length≤1000:=by have:=hh.nE;have:=hh.nC;have:=hh.nG;dsimp only at*;omega
 rw[J2f]
 have hbn:({data:={toList:=[]}}:ByteArray)=Ja:=rfl
 have hl:((H5::ws).length:Int)=(ws.length:Int)+1:=by simp
 have ha1:(H5::ws).getD 1 Ja=ws.getD 0 Ja:=rfl
 have hz:((0:Int),(0:Int),([]:List Sta),([]:List Ord),([]:List Met),([]:List Out),([]:List Per))=U9:=rfl
 simp only[hbn,hz,hl,Prod.eta,Jhk,ha1]
 rcases Jfk G with⟨hd,e0⟩|⟨hd,e0⟩
 ·rw[e0] at hr hN⊢
  have hp:=of_decide_eq_true hd
  rw[hd]
  generalize G.getD ((G.length:Int)-1).toNat U9=r at hr hN⊢
  cases h2:(ws.length:Int)+1==2
  all_goals cases h3:(ws.getD 0 Ja).toList==Ja.toList
  all_goals cases h4:Vq r 0 (ws.getD 0 Ja)
  all_goals cases h5:(((Je9 r (ws.getD 0 Ja)).length:Int)==0)
  all_goals simp only[h2,h3,h4,h5,bne,Jni,Bool.not_true,Bool.not_false,cond_true,cond_false,BEq.rfl,Bool.true_beq,Bool.false_beq,reduceCtorEq,false_implies,forall_const,true_and,and_true,and_self]
  all_goals repeat' apply And.intro
  all_goals first|omega|(have:=eq_of_beq h2;omega)|exact hr|exact(K7 (Jjg hr (by have:=h4;simpa[Vq,U9] using this))).1|exact(K7 (Jjg hr (by have:=h4;simpa[Vq,U9] using this))).2|rfl|(have:=h4;simpa[Vq] using this)|skip
 ·rw[e0] at hr hN⊢
  rw[hd]
  cases h2:(ws.length:Int)+1==2
  all_goals cases h3:(ws.getD 0 Ja).toList==Ja.toList
  all_goals cases h4:Vq U9 0 (ws.getD 0 Ja)
  all_goals cases h5:(((Je9 U9 (ws.getD 0 Ja)).length:Int)==0)
  all_goals simp only[h2,h3,h4,h5,bne,Jni,Bool.not_true,Bool.not_false,cond_true,cond_false,BEq.rfl,Bool.true_beq,Bool.false_beq,reduceCtorEq,false_implies,forall_const,true_and,and_true,and_self]
  all_goals repeat' apply And.intro
  all_goals first|omega|(have:=eq_of_beq h2;omega)|exact hr|exact(K7 (Jjg hr (by have:=h4;simpa[Vq,U9] using this))).1|exact(K7 (Jjg hr (by have:=h4;simpa[Vq,U9] using this))).2|rfl|(have:=h4;simpa[Vq,U9] using this)|exact nomatch (show true=false from h5)|exact nomatch (show false=true from h5)
theorem J5q:Jc8 H6=(true,1,some 197):=by kernel_rfl
theorem J2g (r:Reg) (ws:List ByteArray):Zm r (H6::ws)=Jhk true 1 Jfa r (H6::ws):=by
 have:(H6::ws).getD 0 Ja=H6:=rfl
 unfold Zm
 rw[this,J5q]
 rfl
def Z45 (a:List Reg) (b:Ls):=(Zm (J7 a) (H6::b)).1
def Knw (a:Ls):=Ln (H6::a)==2
def Kbu (a:List Reg) (b:Ls):=0=(Zm (J7 a) (H6::b)).2
def Kgu (a:Ls):=Jfa V4 (Vb a)
def Kf0 (a:TypeId) (b c:List Ev) (d:List Reg) (e:Ls):=Sf true (Sf a (Sf (b,c,d) (B0=Z45 d e∧10=(Zm (J7 d) (H6::e)).2)))
def Kx1 (a:TypeId) (b c:List Ev) (d:List Reg) (e:Ls):=Sf true (Sf a (Sf (b,c,d) (B0=Z45 d e∧25=(Zm (J7 d) (H6::e)).2)))
def Kfm (a:TypeId) (b c:List Ev) (d:List Reg) (e:Ls):=Sf true (Sf a (Sf (b,c,d) (Jnk=Z45 d e∧Kbu d e)))
def Ke3 (a:List Reg):=Jfa (Yq a) B0
def Kex (a:List Reg) (b:Ls):=Jfa (Yq a) (Vb b)
theorem Jsw (T:TypeId) (E C:List Ev) (G:List Reg) (ws:List ByteArray):wpFO Tryz.prog J0d.g (na ()) (fun _=>na ()) (Sx.look ([(75,Tryz.f75)]:List (Nat×Func))) Tryz.f119 J18 T (E,C,G) (H6::ws,()):=by
 refine(by kernel_rfl:(Jgy (E,C,G) (H6::ws)→Tw (Bd 0 (Ln (H6::ws)))∧Br (bif true then Knw ws else false) (Tw (Bd 1 (Ln (H6::ws)))∧Br (bif !true==bif Knw ws then Jr8 ws else false then true else false) (Kx1 T E C G ws) (Br (Ye G) (Yd G∧Jeh G∧Br (J92 G ws) (Kf0 T E C G ws) ((Xd G∧0≤Kd (H0 G).1 (Vb ws))∧Br (Ln (Kex G ws)==0) (Kfm T E C G ws) ((List.length (Kex G ws)≤1000000∧List.length (Lib.join (List.map (fun(x:ByteArray)=>Z16 x) (Kex G ws)) [32])≤140737488355328)∧Sf true (Sf T (Sf (E,C,G) (V3 (Kex G ws) H2=Z45 G ws∧Kbu G ws)))))) (Jel∧Br (Kae ws) (Kf0 T E C G ws) ((Y4∧0≤Kd [] (Vb ws))∧Br (Ln (Kgu ws)==0) (Kfm T E C G ws) ((List.length (Kgu ws)≤1000000∧List.length (Lib.join (List.map (fun(x:ByteArray)=>Z16 x) (Kgu ws)) [32])≤140737488355328)∧Sf true (Sf T (Sf (E,C,G) (V3 (Kgu ws) H2=Z45 G ws∧Kbu G ws)))))))) (Br (bif !true==bif Knw ws then false else false then true else false) (Kx1 T E C G ws) (Br (Ye G) (Yd G∧Jeh G∧Br (bif true then !Vq (Yq G) 1 B0 else false) (Kf0 T E C G ws) ((Xd G∧0≤Kd (H0 G).1 B0)∧Br (Ln (Ke3 G)==0) (Kfm T E C G ws) ((List.length (Ke3 G)≤1000000∧List.length (Lib.join (List.map (fun(x:ByteArray)=>Z16 x) (Ke3 G)) [32])≤140737488355328)∧Sf true (Sf T (Sf (E,C,G) (V3 (Ke3 G) H2=Z45 G ws∧Kbu G ws)))))) (Jel∧Br true (Kf0 T E C G ws) ((Y4∧0≤Kd [] B0)∧Br false (Kfm T E C G ws) ((5≤1000000∧9≤140737488355328)∧Sf true (Sf T (Sf (E,C,G) (V3 (Jfa V4 B0) H2=Z45 G ws∧Kbu G ws)))))))))=_).mp ?_
 delta Z16 Z45 Vb Ye Knw H2 Kbu Jr8 Jnk Dp V4 Yd Y4 Jel Fo Fn Jau Kgu F9 H1 H0 Du Hn Kan Kae Kf0 Kx1 Kfm F8 Yq Xd Ke3 Jeh Kex J95 J92 Br Iw Bd Tw Sf Ln Gt B0 Lb E2 H6
 intro ha
 obtain⟨hh,hn,-,-,hmax,hsz⟩:=ha
 have hr:Jj (J7 G):=Xj hh
 have hN:NmR (J7 G):=Jfl hn
 have hG:G.length≤1000:=by have:=hh.nE;have:=hh.nC;have:=hh.nG;dsimp only at*;omega
 rw[J2g]
 have hbn:({data:={toList:=[]}}:ByteArray)=Ja:=rfl
 have hl:((H6::ws).length:Int)=(ws.length:Int)+1:=by simp
 have ha1:(H6::ws).getD 1 Ja=ws.getD 0 Ja:=rfl
 have hz:((0:Int),(0:Int),([]:List Sta),([]:List Ord),([]:List Met),([]:List Out),([]:List Per))=U9:=rfl
 simp only[hbn,hz,hl,Prod.eta,Jhk,ha1]
 rcases Jfk G with⟨hd,e0⟩|⟨hd,e0⟩
 ·rw[e0] at hr hN⊢
  have hp:=of_decide_eq_true hd
  rw[hd]
  generalize G.getD ((G.length:Int)-1).toNat U9=r at hr hN⊢
  cases h2:(ws.length:Int)+1==2
  all_goals cases h3:(ws.getD 0 Ja).toList==Ja.toList
  all_goals cases h4:Vq r 1 (ws.getD 0 Ja)
  all_goals cases h5:(((Jfa r (ws.getD 0 Ja)).length:Int)==0)
  all_goals simp only[h2,h3,h4,h5,bne,Jni,Bool.not_true,Bool.not_false,cond_true,cond_false,BEq.rfl,Bool.true_beq,Bool.false_beq,reduceCtorEq,false_implies,forall_const,true_and,and_true,and_self]
  all_goals repeat' apply And.intro
  all_goals first|omega|(have:=eq_of_beq h2;omega)|exact hr|exact(K7 (Jji hr (by have:=h4;simpa[Vq,U9] using this))).1|exact(K7 (Jji hr (by have:=h4;simpa[Vq,U9] using this))).2|rfl|(have:=h4;simpa[Vq] using this)|skip
 ·rw[e0] at hr hN⊢
  rw[hd]
  cases h2:(ws.length:Int)+1==2
  all_goals cases h3:(ws.getD 0 Ja).toList==Ja.toList
  all_goals cases h4:Vq U9 1 (ws.getD 0 Ja)
  all_goals cases h5:(((Jfa U9 (ws.getD 0 Ja)).length:Int)==0)
  all_goals simp only[h2,h3,h4,h5,bne,Jni,Bool.not_true,Bool.not_false,cond_true,cond_false,BEq.rfl,Bool.true_beq,Bool.false_beq,reduceCtorEq,false_implies,forall_const,true_and,and_true,and_self]
  all_goals repeat' apply And.intro
  all_goals first|omega|(have:=eq_of_beq h2;omega)|exact hr|exact(K7 (Jji hr (by have:=h4;simpa[Vq,U9] using this))).1|exact(K7 (Jji hr (by have:=h4;simpa[Vq,U9] using this))).2|rfl|(have:=h4;simpa[Vq,U9] using this)|exact nomatch (show true=false from h5)|exact nomatch (show false=true from h5)
theorem Jte:Jc8 Ug=(false,1,some 200):=by kernel_rfl
theorem Jpj (r:Reg) (ws:List ByteArray):Zm r (Ug::ws)=Jhk false 1 Jdr r (Ug::ws):=by
 have:(Ug::ws).getD 0 Ja=Ug:=rfl
 unfold Zm
 rw[this,Jte]
 rfl
def Z37 (a:Ls):=Ln (Ug::a)
def Z76 (a:List Reg) (b:Ls):=(Zm (J7 a) (Ug::b)).1
def Kbp (a:List Reg) (b:Ls):=0=(Zm (J7 a) (Ug::b)).2
def Kbk:=0≤1000000∧0≤140737488355328
def K1d (a:Ls):=bif true then Z37 a !=1 else false
def Kgv (a:Ls):=Jdr V4 (Vb a)
def Kfw (a:TypeId) (b c:List Ev) (d:List Reg) (e:Ls):=Sf true (Sf a (Sf (b,c,d) (B0=Z76 d e∧10=(Zm (J7 d) (Ug::e)).2)))
def Kxp (a:TypeId) (b c:List Ev) (d:List Reg) (e:Ls):=Sf true (Sf a (Sf (b,c,d) (B0=Z76 d e∧25=(Zm (J7 d) (Ug::e)).2)))
def Kfk (a:TypeId) (b c:List Ev) (d:List Reg) (e:Ls):=Sf true (Sf a (Sf (b,c,d) (Jnk=Z76 d e∧Kbp d e)))
def Ke4 (a:List Reg):=Jdr (Yq a) B0
def Kew (a:List Reg) (b:Ls):=Jdr (Yq a) (Vb b)
theorem Ji1 (T:TypeId) (E C:List Ev) (G:List Reg) (ws:List ByteArray):wpFO Tryz.prog J0d.g (na ()) (fun _=>na ()) (Sx.look ([(75,Tryz.f75)]:List (Nat×Func))) Tryz.f119 J18 T (E,C,G) (Ug::ws,()):=by
 refine(by kernel_rfl:(Jgy (E,C,G) (Ug::ws)→Tw (Bd 0 (Z37 ws))∧Br false (Tw (Bd 1 (Z37 ws))∧Br (bif !false==bif Z37 ws==2 then Jr8 ws else false then true else K1d ws) (Kxp T E C G ws) (Br (Ye G) (Yd G∧Jcw G∧Br false (Kfw T E C G ws) (Xd G∧Br (Ln (Kew G ws)==0) (Kfk T E C G ws) ((List.length (Kew G ws)≤1000000∧List.length (Lib.join (List.map (fun(x:ByteArray)=>Z16 x) (Kew G ws)) [32])≤140737488355328)∧Sf true (Sf T (Sf (E,C,G) (V3 (Kew G ws) H2=Z76 G ws∧Kbp G ws)))))) (Jb1∧Br false (Kfw T E C G ws) (Y4∧Br (Ln (Kgv ws)==0) (Kfk T E C G ws) ((List.length (Kgv ws)≤1000000∧List.length (Lib.join (List.map (fun(x:ByteArray)=>Z16 x) (Kgv ws)) [32])≤140737488355328)∧Sf true (Sf T (Sf (E,C,G) (V3 (Kgv ws) H2=Z76 G ws∧Kbp G ws)))))))) (Br (bif !false==bif Z37 ws==2 then false else false then true else K1d ws) (Kxp T E C G ws) (Br (Ye G) (Yd G∧Jcw G∧Br false (Kfw T E C G ws) (Xd G∧Br (Ln (Ke4 G)==0) (Kfk T E C G ws) ((List.length (Ke4 G)≤1000000∧List.length (Lib.join (List.map (fun(x:ByteArray)=>Z16 x) (Ke4 G)) [32])≤140737488355328)∧Sf true (Sf T (Sf (E,C,G) (V3 (Ke4 G) H2=Z76 G ws∧Kbp G ws)))))) (Jb1∧Br false (Kfw T E C G ws) (Y4∧Br true (Kfk T E C G ws) (Kbk∧Sf true (Sf T (Sf (E,C,G) (V3 (Jdr V4 B0) H2=Z76 G ws∧Kbp G ws)))))))))=_).mp ?_
 delta Z16 Z37 Z76 Vb Ye H2 Kbp Kbk Jr8 Jnk Dp V4 Yd Y4 Jb1 K1d Fo Fn Jau Kgv F9 H1 H0 Du Hn Kfw Kxp Kfk F8 Yq Xd Ke4 Jcw Kew Br Iw Bd Tw Sf Ln Gt B0 Lb E2 Ug
 intro ha
 obtain⟨hh,hn,-,-,hmax,hsz⟩:=ha
 have hr:Jj (J7 G):=Xj hh
 have hN:NmR (J7 G):=Jfl hn
 have hG:G.length≤1000:=by have:=hh.nE;have:=hh.nC;have:=hh.nG;dsimp only at*;omega
 rw[Jpj]
 have hbn:({data:={toList:=[]}}:ByteArray)=Ja:=rfl
 have hl:((Ug::ws).length:Int)=(ws.length:Int)+1:=by simp
 have ha1:(Ug::ws).getD 1 Ja=ws.getD 0 Ja:=rfl
 have hz:((0:Int),(0:Int),([]:List Sta),([]:List Ord),([]:List Met),([]:List Out),([]:List Per))=U9:=rfl
 simp only[hbn,hz,hl,Prod.eta,Jhk,ha1]
 rcases Jfk G with⟨hd,e0⟩|⟨hd,e0⟩
 ·rw[e0] at hr hN⊢
  have hp:=of_decide_eq_true hd
  rw[hd]
  generalize G.getD ((G.length:Int)-1).toNat U9=r at hr hN⊢
  cases h2:(ws.length:Int)+1==1
  all_goals cases h6:(ws.length:Int)+1==2
  all_goals cases h3:(ws.getD 0 Ja).toList==Ja.toList
  all_goals cases h5:(((Jdr r Ja).length:Int)==0)
  all_goals simp only[h2,h3,h5,h6,bne,Jni,Bool.not_true,Bool.not_false,cond_true,cond_false,BEq.rfl,Bool.true_beq,Bool.false_beq,reduceCtorEq,false_implies,forall_const,true_and,and_true,and_self]
  all_goals repeat' apply And.intro
  all_goals first|omega|(have:=eq_of_beq h2;omega)|exact hr|exact(K7 (Jjh hr hN _)).1|exact(K7 (Jjh hr hN _)).2|rfl|(have:=h4;simpa[Vq] using this)|skip
 ·rw[e0] at hr hN⊢
  rw[hd]
  cases h2:(ws.length:Int)+1==1
  all_goals cases h6:(ws.length:Int)+1==2
  all_goals cases h3:(ws.getD 0 Ja).toList==Ja.toList
  all_goals cases h5:(((Jdr U9 Ja).length:Int)==0)
  all_goals simp only[h2,h3,h5,h6,bne,Jni,Bool.not_true,Bool.not_false,cond_true,cond_false,BEq.rfl,Bool.true_beq,Bool.false_beq,reduceCtorEq,false_implies,forall_const,true_and,and_true,and_self]
  all_goals repeat' apply And.intro
  all_goals first|omega|(have:=eq_of_beq h2;omega)|exact hr|exact(K7 (Jjh hr hN _)).1|exact(K7 (Jjh hr hN _)).2|rfl|(have:=h4;simpa[Vq,U9] using this)|exact nomatch (show true=false from h5)|exact nomatch (show false=true from h5)
theorem Jtd:Jc8 Up=(false,2,some 201):=by kernel_rfl
theorem Jpi (r:Reg) (ws:List ByteArray):Zm r (Up::ws)=Jhk false 2 Jug r (Up::ws):=by
 have:(Up::ws).getD 0 Ja=Up:=rfl
 unfold Zm
 rw[this,Jtd]
 rfl
def Z38 (a:Ls):=Ln (Up::a)
def Z81 (a:List Reg) (b:Ls):=(Zm (J7 a) (Up::b)).1
def Kbn (a:List Reg) (b:Ls):=0=(Zm (J7 a) (Up::b)).2
def K1b (a:Ls):=bif true then Z38 a !=1 else false
def Kgy (a:Ls):=Jug V4 (Vb a)
def Kfs (a:TypeId) (b c:List Ev) (d:List Reg) (e:Ls):=Sf true (Sf a (Sf (b,c,d) (B0=Z81 d e∧10=(Zm (J7 d) (Up::e)).2)))
def Kxq (a:TypeId) (b c:List Ev) (d:List Reg) (e:Ls):=Sf true (Sf a (Sf (b,c,d) (B0=Z81 d e∧25=(Zm (J7 d) (Up::e)).2)))
def Kfi (a:TypeId) (b c:List Ev) (d:List Reg) (e:Ls):=Sf true (Sf a (Sf (b,c,d) (Jnk=Z81 d e∧Kbn d e)))
def Ke7 (a:List Reg):=Jug (Yq a) B0
def Ke0 (a:List Reg) (b:Ls):=Jug (Yq a) (Vb b)
theorem Ji0 (T:TypeId) (E C:List Ev) (G:List Reg) (ws:List ByteArray):wpFO Tryz.prog J0d.g (na ()) (fun _=>na ()) (Sx.look ([(75,Tryz.f75)]:List (Nat×Func))) Tryz.f119 J18 T (E,C,G) (Up::ws,()):=by
 refine(by kernel_rfl:(Jgy (E,C,G) (Up::ws)→Tw (Bd 0 (Z38 ws))∧Br false (Tw (Bd 1 (Z38 ws))∧Br (bif !false==bif Z38 ws==2 then Jr8 ws else false then true else K1b ws) (Kxq T E C G ws) (Br (Ye G) (Yd G∧Jcw G∧Br false (Kfs T E C G ws) (Xd G∧Br (Ln (Ke0 G ws)==0) (Kfi T E C G ws) ((List.length (Ke0 G ws)≤1000000∧List.length (Lib.join (List.map (fun(x:ByteArray)=>Z16 x) (Ke0 G ws)) [32])≤140737488355328)∧Sf true (Sf T (Sf (E,C,G) (V3 (Ke0 G ws) H2=Z81 G ws∧Kbn G ws)))))) (Jb1∧Br false (Kfs T E C G ws) (Y4∧Br (Ln (Kgy ws)==0) (Kfi T E C G ws) ((List.length (Kgy ws)≤1000000∧List.length (Lib.join (List.map (fun(x:ByteArray)=>Z16 x) (Kgy ws)) [32])≤140737488355328)∧Sf true (Sf T (Sf (E,C,G) (V3 (Kgy ws) H2=Z81 G ws∧Kbn G ws)))))))) (Br (bif !false==bif Z38 ws==2 then false else false then true else K1b ws) (Kxq T E C G ws) (Br (Ye G) (Yd G∧Jcw G∧Br false (Kfs T E C G ws) (Xd G∧Br (Ln (Ke7 G)==0) (Kfi T E C G ws) ((List.length (Ke7 G)≤1000000∧List.length (Lib.join (List.map (fun(x:ByteArray)=>Z16 x) (Ke7 G)) [32])≤140737488355328)∧Sf true (Sf T (Sf (E,C,G) (V3 (Ke7 G) H2=Z81 G ws∧Kbn G ws)))))) (Jb1∧Br false (Kfs T E C G ws) (Y4∧Br true (Kfi T E C G ws) (Kbk∧Sf true (Sf T (Sf (E,C,G) (V3 (Jug V4 B0) H2=Z81 G ws∧Kbn G ws)))))))))=_).mp ?_
 delta Z16 Z38 Z81 Vb Ye H2 Kbn Kbk Jr8 Jnk Dp V4 Yd Y4 Jb1 K1b Fo Fn Kgy Jau F9 H1 H0 Du Hn Kfs Kxq Kfi F8 Yq Xd Ke7 Jcw Ke0 Br Iw Bd Tw Sf Ln Gt B0 Lb E2 Up
 intro ha
 obtain⟨hh,hn,-,-,hmax,hsz⟩:=ha
 have hr:Jj (J7 G):=Xj hh
 have hN:NmR (J7 G):=Jfl hn
 have hG:G.length≤1000:=by have:=hh.nE;have:=hh.nC;have:=hh.nG;dsimp only at*;omega
 rw[Jpi]
 have hbn:({data:={toList:=[]}}:ByteArray)=Ja:=rfl
 have hl:((Up::ws).length:Int)=(ws.length:Int)+1:=by simp
 have ha1:(Up::ws).getD 1 Ja=ws.getD 0 Ja:=rfl
 have hz:((0:Int),(0:Int),([]:List Sta),([]:List Ord),([]:List Met),([]:List Out),([]:List Per))=U9:=rfl
 simp only[hbn,hz,hl,Prod.eta,Jhk,ha1]
 rcases Jfk G with⟨hd,e0⟩|⟨hd,e0⟩
 ·rw[e0] at hr hN⊢
  have hp:=of_decide_eq_true hd
  rw[hd]
  generalize G.getD ((G.length:Int)-1).toNat U9=r at hr hN⊢
  cases h2:(ws.length:Int)+1==1
  all_goals cases h6:(ws.length:Int)+1==2
  all_goals cases h3:(ws.getD 0 Ja).toList==Ja.toList
  all_goals cases h5:(((Jug r Ja).length:Int)==0)
  all_goals simp only[h2,h3,h5,h6,bne,Jni,Bool.not_true,Bool.not_false,cond_true,cond_false,BEq.rfl,Bool.true_beq,Bool.false_beq,reduceCtorEq,false_implies,forall_const,true_and,and_true,and_self]
  all_goals repeat' apply And.intro
  all_goals first|omega|(have:=eq_of_beq h2;omega)|exact hr|exact(K7 (Jqe hr hN _)).1|exact(K7 (Jqe hr hN _)).2|rfl|(have:=h4;simpa[Vq] using this)|skip
 ·rw[e0] at hr hN⊢
  rw[hd]
  cases h2:(ws.length:Int)+1==1
  all_goals cases h6:(ws.length:Int)+1==2
  all_goals cases h3:(ws.getD 0 Ja).toList==Ja.toList
  all_goals cases h5:(((Jug U9 Ja).length:Int)==0)
  all_goals simp only[h2,h3,h5,h6,bne,Jni,Bool.not_true,Bool.not_false,cond_true,cond_false,BEq.rfl,Bool.true_beq,Bool.false_beq,reduceCtorEq,false_implies,forall_const,true_and,and_true,and_self]
  all_goals repeat' apply And.intro
  all_goals first|omega|(have:=eq_of_beq h2;omega)|exact hr|exact(K7 (Jqe hr hN _)).1|exact(K7 (Jqe hr hN _)).2|rfl|(have:=h4;simpa[Vq,U9] using this)|exact nomatch (show true=false from h5)|exact nomatch (show false=true from h5)
theorem Jtc:Jc8 Uo=(false,3,some 205):=by kernel_rfl
theorem Jph (r:Reg) (ws:List ByteArray):Zm r (Uo::ws)=Jhk false 3 Juf r (Uo::ws):=by
 have:(Uo::ws).getD 0 Ja=Uo:=rfl
 unfold Zm
 rw[this,Jtc]
 rfl
def Z41 (a:Ls):=Ln (Uo::a)
def Z83 (a:List Reg) (b:Ls):=(Zm (J7 a) (Uo::b)).1
def Kbr (a:List Reg) (b:Ls):=0=(Zm (J7 a) (Uo::b)).2
def K1c (a:Ls):=bif true then Z41 a !=1 else false
def Kgz (a:Ls):=Juf V4 (Vb a)
def Kft (a:TypeId) (b c:List Ev) (d:List Reg) (e:Ls):=Sf true (Sf a (Sf (b,c,d) (B0=Z83 d e∧10=(Zm (J7 d) (Uo::e)).2)))
def Kxu (a:TypeId) (b c:List Ev) (d:List Reg) (e:Ls):=Sf true (Sf a (Sf (b,c,d) (B0=Z83 d e∧25=(Zm (J7 d) (Uo::e)).2)))
def Kfh (a:TypeId) (b c:List Ev) (d:List Reg) (e:Ls):=Sf true (Sf a (Sf (b,c,d) (Jnk=Z83 d e∧Kbr d e)))
def Ke8 (a:List Reg):=Juf (Yq a) B0
def Ke1 (a:List Reg) (b:Ls):=Juf (Yq a) (Vb b)
theorem Jiz (T:TypeId) (E C:List Ev) (G:List Reg) (ws:List ByteArray):wpFO Tryz.prog J0d.g (na ()) (fun _=>na ()) (Sx.look ([(75,Tryz.f75)]:List (Nat×Func))) Tryz.f119 J18 T (E,C,G) (Uo::ws,()):=by
 refine(by kernel_rfl:(Jgy (E,C,G) (Uo::ws)→Tw (Bd 0 (Z41 ws))∧Br false (Tw (Bd 1 (Z41 ws))∧Br (bif !false==bif Z41 ws==2 then Jr8 ws else false then true else K1c ws) (Kxu T E C G ws) (Br (Ye G) (Yd G∧Jcw G∧Br false (Kft T E C G ws) (Xd G∧Br (Ln (Ke1 G ws)==0) (Kfh T E C G ws) ((List.length (Ke1 G ws)≤1000000∧List.length (Lib.join (List.map (fun(x:ByteArray)=>Z16 x) (Ke1 G ws)) [32])≤140737488355328)∧Sf true (Sf T (Sf (E,C,G) (V3 (Ke1 G ws) H2=Z83 G ws∧Kbr G ws)))))) (Jb1∧Br false (Kft T E C G ws) (Y4∧Br (Ln (Kgz ws)==0) (Kfh T E C G ws) ((List.length (Kgz ws)≤1000000∧List.length (Lib.join (List.map (fun(x:ByteArray)=>Z16 x) (Kgz ws)) [32])≤140737488355328)∧Sf true (Sf T (Sf (E,C,G) (V3 (Kgz ws) H2=Z83 G ws∧Kbr G ws)))))))) (Br (bif !false==bif Z41 ws==2 then false else false then true else K1c ws) (Kxu T E C G ws) (Br (Ye G) (Yd G∧Jcw G∧Br false (Kft T E C G ws) (Xd G∧Br (Ln (Ke8 G)==0) (Kfh T E C G ws) ((List.length (Ke8 G)≤1000000∧List.length (Lib.join (List.map (fun(x:ByteArray)=>Z16 x) (Ke8 G)) [32])≤140737488355328)∧Sf true (Sf T (Sf (E,C,G) (V3 (Ke8 G) H2=Z83 G ws∧Kbr G ws)))))) (Jb1∧Br false (Kft T E C G ws) (Y4∧Br true (Kfh T E C G ws) (Kbk∧Sf true (Sf T (Sf (E,C,G) (V3 (Juf V4 B0) H2=Z83 G ws∧Kbr G ws)))))))))=_).mp ?_
 delta Z16 Z41 Z83 Vb Ye H2 Kbr Kbk Jr8 Jnk Dp V4 Yd Y4 Jb1 K1c Fo Fn Kgz Jau F9 H1 H0 Du Hn Kft Kxu Kfh F8 Yq Xd Ke8 Jcw Ke1 Br Iw Bd Tw Sf Ln Gt B0 Lb E2 Uo
 intro ha
 obtain⟨hh,hn,-,-,hmax,hsz⟩:=ha
 have hr:Jj (J7 G):=Xj hh
 have hN:NmR (J7 G):=Jfl hn
 have hG:G.length≤1000:=by have:=hh.nE;have:=hh.nC;have:=hh.nG;dsimp only at*;omega
 rw[Jph]
 have hbn:({data:={toList:=[]}}:ByteArray)=Ja:=rfl
 have hl:((Uo::ws).length:Int)=(ws.length:Int)+1:=by simp
 have ha1:(Uo::ws).getD 1 Ja=ws.getD 0 Ja:=rfl
 have hz:((0:Int),(0:Int),([]:List Sta),([]:List Ord),([]:List Met),([]:List Out),([]:List Per))=U9:=rfl
 simp only[hbn,hz,hl,Prod.eta,Jhk,ha1]
 rcases Jfk G with⟨hd,e0⟩|⟨hd,e0⟩
 ·rw[e0] at hr hN⊢
  have hp:=of_decide_eq_true hd
  rw[hd]
  generalize G.getD ((G.length:Int)-1).toNat U9=r at hr hN⊢
  cases h2:(ws.length:Int)+1==1
  all_goals cases h6:(ws.length:Int)+1==2
  all_goals cases h3:(ws.getD 0 Ja).toList==Ja.toList
  all_goals cases h5:(((Juf r Ja).length:Int)==0)
  all_goals simp only[h2,h3,h5,h6,bne,Jni,Bool.not_true,Bool.not_false,cond_true,cond_false,BEq.rfl,Bool.true_beq,Bool.false_beq,reduceCtorEq,false_implies,forall_const,true_and,and_true,and_self]
  all_goals repeat' apply And.intro
  all_goals first|omega|(have:=eq_of_beq h2;omega)|exact hr|exact(K7 (Jqd hr hN _)).1|exact(K7 (Jqd hr hN _)).2|rfl|(have:=h4;simpa[Vq] using this)|skip
 ·rw[e0] at hr hN⊢
  rw[hd]
  cases h2:(ws.length:Int)+1==1
  all_goals cases h6:(ws.length:Int)+1==2
  all_goals cases h3:(ws.getD 0 Ja).toList==Ja.toList
  all_goals cases h5:(((Juf U9 Ja).length:Int)==0)
  all_goals simp only[h2,h3,h5,h6,bne,Jni,Bool.not_true,Bool.not_false,cond_true,cond_false,BEq.rfl,Bool.true_beq,Bool.false_beq,reduceCtorEq,false_implies,forall_const,true_and,and_true,and_self]
  all_goals repeat' apply And.intro
  all_goals first|omega|(have:=eq_of_beq h2;omega)|exact hr|exact(K7 (Jqd hr hN _)).1|exact(K7 (Jqd hr hN _)).2|rfl|(have:=h4;simpa[Vq,U9] using this)|exact nomatch (show true=false from h5)|exact nomatch (show false=true from h5)
theorem Jtb:Jc8 Un=(false,0,some 209):=by kernel_rfl
theorem Jpg (r:Reg) (ws:List ByteArray):Zm r (Un::ws)=Jhk false 0 Je8 r (Un::ws):=by
 have:(Un::ws).getD 0 Ja=Un:=rfl
 unfold Zm
 rw[this,Jtb]
 rfl
def Z39 (a:Ls):=Ln (Un::a)
def Z82 (a:List Reg) (b:Ls):=(Zm (J7 a) (Un::b)).1
def Kbq (a:List Reg) (b:Ls):=0=(Zm (J7 a) (Un::b)).2
def K1e (a:Ls):=bif true then Z39 a !=1 else false
def Kgr (a:Ls):=Je8 V4 (Vb a)
def Kfr (a:TypeId) (b c:List Ev) (d:List Reg) (e:Ls):=Sf true (Sf a (Sf (b,c,d) (B0=Z82 d e∧10=(Zm (J7 d) (Un::e)).2)))
def Kxr (a:TypeId) (b c:List Ev) (d:List Reg) (e:Ls):=Sf true (Sf a (Sf (b,c,d) (B0=Z82 d e∧25=(Zm (J7 d) (Un::e)).2)))
def Kfl (a:TypeId) (b c:List Ev) (d:List Reg) (e:Ls):=Sf true (Sf a (Sf (b,c,d) (Jnk=Z82 d e∧Kbq d e)))
def Ke5 (a:List Reg):=Je8 (Yq a) B0
def Kev (a:List Reg) (b:Ls):=Je8 (Yq a) (Vb b)
theorem Jiy (T:TypeId) (E C:List Ev) (G:List Reg) (ws:List ByteArray):wpFO Tryz.prog J0d.g (na ()) (fun _=>na ()) (Sx.look ([(75,Tryz.f75)]:List (Nat×Func))) Tryz.f119 J18 T (E,C,G) (Un::ws,()):=by
 refine(by kernel_rfl:(Jgy (E,C,G) (Un::ws)→Tw (Bd 0 (Z39 ws))∧Br false (Tw (Bd 1 (Z39 ws))∧Br (bif !false==bif Z39 ws==2 then Jr8 ws else false then true else K1e ws) (Kxr T E C G ws) (Br (Ye G) (Yd G∧Jcw G∧Br false (Kfr T E C G ws) (Xd G∧Br (Ln (Kev G ws)==0) (Kfl T E C G ws) ((List.length (Kev G ws)≤1000000∧List.length (Lib.join (List.map (fun(x:ByteArray)=>Z16 x) (Kev G ws)) [32])≤140737488355328)∧Sf true (Sf T (Sf (E,C,G) (V3 (Kev G ws) H2=Z82 G ws∧Kbq G ws)))))) (Jb1∧Br false (Kfr T E C G ws) (Y4∧Br (Ln (Kgr ws)==0) (Kfl T E C G ws) ((List.length (Kgr ws)≤1000000∧List.length (Lib.join (List.map (fun(x:ByteArray)=>Z16 x) (Kgr ws)) [32])≤140737488355328)∧Sf true (Sf T (Sf (E,C,G) (V3 (Kgr ws) H2=Z82 G ws∧Kbq G ws)))))))) (Br (bif !false==bif Z39 ws==2 then false else false then true else K1e ws) (Kxr T E C G ws) (Br (Ye G) (Yd G∧Jcw G∧Br false (Kfr T E C G ws) (Xd G∧Br (Ln (Ke5 G)==0) (Kfl T E C G ws) ((List.length (Ke5 G)≤1000000∧List.length (Lib.join (List.map (fun(x:ByteArray)=>Z16 x) (Ke5 G)) [32])≤140737488355328)∧Sf true (Sf T (Sf (E,C,G) (V3 (Ke5 G) H2=Z82 G ws∧Kbq G ws)))))) (Jb1∧Br false (Kfr T E C G ws) (Y4∧Br false (Kfl T E C G ws) (Kbj∧Sf true (Sf T (Sf (E,C,G) (V3 (Je8 V4 B0) H2=Z82 G ws∧Kbq G ws)))))))))=_).mp ?_
 delta Z16 Z39 Z82 Vb Ye H2 Kbq Kbj Jr8 Jnk Dp V4 Yd Y4 Jb1 K1e Fo Fn Jau Kgr F9 H1 H0 Du Hn Kfr Kxr Kfl F8 Yq Xd Ke5 Jcw Kev Br Iw Bd Tw Sf Ln Gt B0 Lb E2 Un
 intro ha
 obtain⟨hh,hn,-,-,hmax,hsz⟩:=ha
 have hr:Jj (J7 G):=Xj hh
 have hN:NmR (J7 G):=Jfl hn
 have hG:G.length≤1000:=by have:=hh.nE;have:=hh.nC;have:=hh.nG;dsimp only at*;omega
 rw[Jpg]
 have hbn:({data:={toList:=[]}}:ByteArray)=Ja:=rfl
 have hl:((Un::ws).length:Int)=(ws.length:Int)+1:=by simp
 have ha1:(Un::ws).getD 1 Ja=ws.getD 0 Ja:=rfl
 have hz:((0:Int),(0:Int),([]:List Sta),([]:List Ord),([]:List Met),([]:List Out),([]:List Per))=U9:=rfl
 simp only[hbn,hz,hl,Prod.eta,Jhk,ha1]
 rcases Jfk G with⟨hd,e0⟩|⟨hd,e0⟩
 ·rw[e0] at hr hN⊢
  have hp:=of_decide_eq_true hd
  rw[hd]
  generalize G.getD ((G.length:Int)-1).toNat U9=r at hr hN⊢
  cases h2:(ws.length:Int)+1==1
  all_goals cases h6:(ws.length:Int)+1==2
  all_goals cases h3:(ws.getD 0 Ja).toList==Ja.toList
  all_goals cases h5:(((Je8 r Ja).length:Int)==0)
  all_goals simp only[h2,h3,h5,h6,bne,Jni,Bool.not_true,Bool.not_false,cond_true,cond_false,BEq.rfl,Bool.true_beq,Bool.false_beq,reduceCtorEq,false_implies,forall_const,true_and,and_true,and_self]
  all_goals repeat' apply And.intro
  all_goals first|omega|(have:=eq_of_beq h2;omega)|exact hr|exact(K7 (Jjf hr _)).1|exact(K7 (Jjf hr _)).2|rfl|(have:=h4;simpa[Vq] using this)|skip
 ·rw[e0] at hr hN⊢
  rw[hd]
  cases h2:(ws.length:Int)+1==1
  all_goals cases h6:(ws.length:Int)+1==2
  all_goals cases h3:(ws.getD 0 Ja).toList==Ja.toList
  all_goals cases h5:(((Je8 U9 Ja).length:Int)==0)
  all_goals simp only[h2,h3,h5,h6,bne,Jni,Bool.not_true,Bool.not_false,cond_true,cond_false,BEq.rfl,Bool.true_beq,Bool.false_beq,reduceCtorEq,false_implies,forall_const,true_and,and_true,and_self]
  all_goals repeat' apply And.intro
  all_goals first|omega|(have:=eq_of_beq h2;omega)|exact hr|exact(K7 (Jjf hr _)).1|exact(K7 (Jjf hr _)).2|rfl|(have:=h4;simpa[Vq,U9] using this)|exact nomatch (show true=false from h5)|exact nomatch (show false=true from h5)
theorem Jon {k:ByteArray} (h:Jh2 k=true):k=Uq∨k=H5∨k=H6∨k=Ug∨k=Up∨k=Uo∨k=Un:=by
 obtain⟨x,hx,hk⟩:=Jfn h
 have hk:=Jws hk
 unfold Je7 Tryz.questU at hx
 subst hk
 simp only[List.mem_cons,List.not_mem_nil,or_false] at hx
 rcases hx with rfl|rfl|rfl|rfl|rfl|rfl|rfl
 all_goals simp
theorem Kon (T:TypeId):∀(x:Kh) (y:ATup [.val false (.list 9 .str)]),wpFO Tryz.prog J0d.g (na ()) (fun _=>na ()) (Sx.look ([(75,Tryz.f75)]:List (Nat×Func))) Tryz.f119 J18 T x y
 | (E, C, G), (l, ()) => by
  refine Jir (by kernel_rfl) fun hp=> ?_
  have hl:1≤l.length:=Jgy.len hp
  have hk:Jh2 (l.getD 0 Ja)=true:=Jgy.key hp
  obtain⟨w,ws,rfl⟩:∃w ws,l=w::ws:=by
   cases l with
   |nil=>exact absurd hl Od
   |cons w ws=>exact⟨w,ws,rfl⟩
  have hk:Jh2 w=true:=hk
  rcases Jon hk with rfl|rfl|rfl|rfl|rfl|rfl|rfl
  ·exact Ji2 T E C G ws
  ·exact Jsv T E C G ws
  ·exact Jsw T E C G ws
  ·exact Ji1 T E C G ws
  ·exact Ji0 T E C G ws
  ·exact Jiz T E C G ws
  ·exact Jiy T E C G ws
theorem Krx:Ok Tryz.prog 119 (X8.con J18):=Zd (Ul mixed J0d.ok (by kernel_rfl) (by kernel_rfl) (U5 (l:=([(75,Tryz.f75)]:List (Nat×Func))) (List.forall_mem_cons.2 ⟨by kernel_rfl,by simp⟩)) (fun _ _=>na ()) (fun _ _=>fun _=>na ()) fun T xx yy _=>Kon T xx yy)
abbrev K8w:=J0d.add Krx
abbrev K27:=K8w.add J5w
def doW (line:ByteArray):List ByteArray:=Za line ⟨⟨[32]⟩⟩
def do1 (line:ByteArray):Int:=Ji [bif decide (4096<(line.size:Int)) then 26 else 0,bif line.toList==Ja.toList then 25 else 0]
def do2 (h:Kh) (ws:List ByteArray):Int:=Ji [bif !(Xf ws).2 then 25 else 0,bif decide (1000≤(h.1.length:Int)) then 5 else 0]
def evD (h:Kh) (ws:List ByteArray):Ev:=((h.1.length:Int)+1,(Xf ws).1.2)
def Kcr (n:Int):ByteArray:=bs ([100,111,110,101,32]++(Vw n).data.toList)
def doF (h:Kh) (line:ByteArray):Kh×ByteArray×Int:=
 if do1 line≠0 then(h,Ja,do1 line) else
 if Jh2 ((doW line).getD 0 Ja)=true then(h,Zm (J7 h.2.2) (doW line)) else
 if Y5 ((doW line).getD 0 Ja)=false then(h,Ja,13) else
 if do2 h (doW line)≠0 then(h,Ja,do2 h (doW line)) else
 if Ue h (evD h (doW line))≠0 then(h,Ja,Ue h (evD h (doW line))) else
 (Hz h (evD h (doW line)),Kcr ((h.1.length:Int)+1),0)
def cDo:X8:={T? :=some 212,s:=Jjk,args:=[aS],ress:=[tS,I],pre:=fun h (l,_)=>[Ys h,Fq h,l.size≤1000000],spec:=fun h (l,_)=>((doF h l).2.1,(doF h l).2.2,()),post:=fun h (l,_)=>(doF h l).1}
theorem Kcs {l:ByteArray} (h:l.size≤1000000) (h4:l.size≤4096):1≤(doW l).length∧(doW l).length≤1000000∧∀w∈doW l,w.size≤1000000:=by
 have e:doW l=(Jkz 32 l.data.toList).map bs:=Jeq l 32
 have h1:=Jjd 32 l.data.toList
 have hl:l.data.toList.length=l.size:=rfl
 rw[e]
 refine⟨?_,by rw[List.length_map];omega,fun w hw=> ?_⟩
 ·rw[List.length_map]
  have:∀l:List UInt8,1≤(Jkz 32 l).length:=by
   intro l
   induction l with
   |nil=>decide
   |cons c r ih=>unfold Jkz;split<;>(try split)<;>simp only[List.length_cons,List.length_nil]<;>omega
  exact this _
 ·obtain⟨v,hv,rfl⟩:=List.mem_map.1 hw
  have:=Ja5 _ _ v hv
  rw[Xv];omega
def Jz5 (a:Bt):=Za a H2
def K23 (a:Bt):=(Xf (Jz5 a)).1.2
def K21 (a:Bt):=(K23 a).2
def K2t (a:Bt):=List.getD (Jz5 a) 0 B0
def K2m (a:Bt):=Tw (Bd 0 (Ln (Jz5 a)))
def Kzg (a:Bt):=Ji [bif decide (4096<Nc (ByteArray.size a)) then 26 else 0,bif Lb a B0 then 25 else 0]
def Kxs (a:Bt) (b:List Ev):=Ji [bif !(Xf (Jz5 a)).2 then 25 else 0,bif decide (1000≤Ln b) then 5 else 0]
def Kja (a:List Ev) (b:Bt):=(Z0 a,(K23 b).1,(K21 b).1,E2 (K21 b).2)
def Kwn (a b:List Ev) (c:List Reg) (d:Bt):=Vo (a,b,c) (Kja a d)
def Kwm (a b:List Ev) (c:List Reg) (d:Bt):=Ue (a,b,c) (Kja a d)
def Ku5 (a b:List Ev) (c:List Reg) (d:Bt):=((Kwn a b c d).1,E2 (Kwn a b c d).2)=(doF (a,b,c) d).1
theorem K5x (E C:List Ev) (G:List Reg) (line:ByteArray):wpFO Tryz.prog K27.g (na ()) (fun _=>na ()) (Sx.look ([]:List (Nat×Func))) Tryz.f40 cDo 212 (E,C,G) (line,()):=by
 refine(by kernel_rfl:(Ys (E,C,G)→Fq (E,C,G)→ByteArray.size line≤1000000→Br false (Sf true (Sf 212 ((E,C,G)=(doF (E,C,G) line).1∧B0=(doF (E,C,G) line).2.1∧22=(doF (E,C,G) line).2.2))) (2≤1000000∧Br (Kzg line !=0) (Sf true (Sf 212 ((E,C,G)=(doF (E,C,G) line).1∧B0=(doF (E,C,G) line).2.1∧Kzg line=(doF (E,C,G) line).2.2))) ((ByteArray.size line≤1000000∧1≤1)∧K2m line∧Br (Option.isSome (Uu Sch.str (K2t line) Je7)) (Jgy (E,C,G) (Jz5 line)∧Sf true (Sf 212 ((E,C,G)=(doF (E,C,G) line).1∧(Zm (J7 G) (Jz5 line)).1=(doF (E,C,G) line).2.1∧(Zm (J7 G) (Jz5 line)).2=(doF (E,C,G) line).2.2))) (K2m line∧Br (!Option.isSome (Uu Sch.str (K2t line) Dd)) (Sf true (Sf 212 ((E,C,G)=(doF (E,C,G) line).1∧B0=(doF (E,C,G) line).2.1∧13=(doF (E,C,G) line).2.2))) ((List.length (Jz5 line)≤1000000∧∀(w:ByteArray),w∈Jz5 line→ByteArray.size w≤1000000)∧2≤1000000∧Br (Kxs line E !=0) (Sf true (Sf 212 ((E,C,G)=(doF (E,C,G) line).1∧B0=(doF (E,C,G) line).2.1∧Kxs line E=(doF (E,C,G) line).2.2))) (Z66 E∧(Ke (E,C,G)∧Z44 E∧Jgc (Kja E line))∧Br (Kwm E C G line !=0) (Sf true (Sf 212 (Ku5 E C G line∧B0=(doF (E,C,G) line).2.1∧Kwm E C G line=(doF (E,C,G) line).2.2))) ((Z66 E∧Nc (5+ByteArray.size (Vw (Z0 E)))≤9223372036854775807)∧Sf true (Sf 212 (Ku5 E C G line∧ByteArray.mk (Array.mk (100::111::110::101::32::([]++(Vw (Z0 E)).data.toList)))=(doF (E,C,G) line).2.1∧0=(doF (E,C,G) line).2.2)))))))))=_).mp ?_
 delta Z0 Z44 Z66 H2 Jz5 K23 K21 K2t K2m Kzg Kxs Kja Kwn Kwm Ku5 Br Iw Bd Tw Sf Ln Nc B0 Lb E2
 intro hi hn hsz
 have hbn:({data:={toList:=[]}}:ByteArray)=Ja:=rfl
 have hW:Za line {data:={toList:=[32]}}=doW line:=rfl
 have hd1:Ji [bif decide (4096<(line.size:Int)) then 26 else 0,bif line.toList==Ja.toList then 25 else 0]=do1 line:=rfl
 have hd2:Ji [bif !(Xf (doW line)).2 then 25 else 0,bif decide (1000≤(E.length:Int)) then 5 else 0]=do2 (E,C,G) (doW line):=rfl
 have hq:(Uu Sch.str ((doW line).getD 0 Ja) Je7).isSome=Jh2 ((doW line).getD 0 Ja):=rfl
 have hk:(Uu Sch.str ((doW line).getD 0 Ja) Dd).isSome=Y5 ((doW line).getD 0 Ja):=rfl
 have he:((E.length:Int)+1,(Xf (doW line)).1.2)=evD (E,C,G) (doW line):=rfl
 simp only[hbn,hW,Prod.eta,hd1,hd2,hq,hk,he]
 have nE:E.length≤1000:=hi.ok.nE
 refine⟨fun h=>(nomatch h),fun _=>⟨Od,fun h1=> ?_,fun h1=> ?_⟩⟩
 ·have e:doF (E,C,G) line=((E,C,G),Ja,do1 line):=by unfold doF;rw[if_pos (bne_iff_ne.1 h1)]
  rw[e];exact⟨trivial,trivial,rfl,rfl,rfl⟩
 have e1:do1 line=0:=bne_eq_false_iff_eq.1 h1
 have h4:line.size≤4096:=by
  cases hc:decide (4096<(line.size:Int)) with
  |false=>have:=of_decide_eq_false hc;omega
  |true=>rw[do1,hc] at e1;exact nomatch (show(26:Int)=0 from e1)
 obtain⟨w1,w2,w3⟩:=Kcs hsz h4
 refine⟨⟨hsz,Nat.le_refl _⟩,by(repeat' first|apply And.intro|(first|omega|dsimp only;omega)),fun h2=> ?_,fun h2=>⟨by(repeat' first|apply And.intro|(first|omega|dsimp only;omega)),fun h3=> ?_,fun h3=> ?_⟩⟩
 ·have e:doF (E,C,G) line=((E,C,G),Zm (J7 G) (doW line)):=by unfold doF;rw[if_neg (by rw[e1];decide),if_pos h2]
  rw[e];exact⟨⟨hi.ok,hn,w1,h2,w2,w3⟩,trivial,trivial,rfl,rfl,rfl⟩
 ·have h3:Y5 ((doW line).getD 0 Ja)=false:=by simpa using h3
  have e:doF (E,C,G) line=((E,C,G),Ja,13):=by unfold doF;rw[if_neg (by rw[e1];decide),if_neg (by rw[h2];decide),if_pos h3]
  rw[e];exact⟨trivial,trivial,rfl,rfl,rfl⟩
 have h3:Y5 ((doW line).getD 0 Ja)=true:=by simpa using h3
 refine⟨⟨w2,w3⟩,Od,fun h5=> ?_,fun h5=> ?_⟩
 ·have e:doF (E,C,G) line=((E,C,G),Ja,do2 (E,C,G) (doW line)):=by unfold doF;rw[if_neg (by rw[e1];decide),if_neg (by rw[h2];decide),if_neg (by rw[h3];decide),if_pos (bne_iff_ne.1 h5)]
  rw[e];exact⟨trivial,trivial,rfl,rfl,rfl⟩
 have e5:do2 (E,C,G) (doW line)=0:=bne_eq_false_iff_eq.1 h5
 have hE:E.length<1000:=by
  cases hc:decide (1000≤(E.length:Int)) with
  |false=>have:=of_decide_eq_false hc;omega
  |true=>
   rw[do2] at e5
   have hc:decide (1000≤(((E,C,G):Kh).1.length:Int))=true:=hc
   rw[hc] at e5
   cases hx:(Xf (doW line)).2<;>rw[hx] at e5<;>exact nomatch e5
 have hz:=Jqp w3
 have hsz2:Jgc (evD (E,C,G) (doW line)):=⟨Nat.le_trans hz.1 Od,Nat.le_trans hz.2.1 Od,hz.2.2⟩
 refine⟨by(repeat' first|apply And.intro|(first|omega|dsimp only;omega)),⟨hi.ok,hE,hsz2⟩,fun h6=> ?_,fun h6=> ?_⟩
 ·have n6:=bne_iff_ne.1 h6
  have e:doF (E,C,G) line=((E,C,G),Ja,Ue (E,C,G) (evD (E,C,G) (doW line))):=by unfold doF;rw[if_neg (by rw[e1];decide),if_neg (by rw[h2];decide),if_neg (by rw[h3];decide),if_neg (by rw[e5];decide),if_pos n6]
  have ea:Vo (E,C,G) (evD (E,C,G) (doW line))=(E,C,G):=by unfold Vo;rw[if_neg n6]
  rw[e,ea];exact⟨trivial,trivial,rfl,rfl,rfl⟩
 ·have e6:Ue (E,C,G) (evD (E,C,G) (doW line))=0:=bne_eq_false_iff_eq.1 h6
  have e:doF (E,C,G) line=(Hz (E,C,G) (evD (E,C,G) (doW line)),Kcr ((E.length:Int)+1),0):=by unfold doF;rw[if_neg (by rw[e1];decide),if_neg (by rw[h2];decide),if_neg (by rw[h3];decide),if_neg (by rw[e5];decide),if_neg (by rw[e6];decide)]
  have ea:Vo (E,C,G) (evD (E,C,G) (doW line))=Hz (E,C,G) (evD (E,C,G) (doW line)):=by unfold Vo;rw[if_pos e6]
  have hi:=Jbd ((E.length:Int)+1) Oo Oo
  rw[e,ea];exact⟨⟨by(repeat' first|apply And.intro|(first|omega|dsimp only;omega)),Oo⟩,trivial,trivial,rfl,rfl,rfl⟩
theorem K60:Ok Tryz.prog 40 (X8.con cDo):=Zd (Ul mixed K27.ok (by kernel_rfl) (by kernel_rfl) (U5 (l:=([]:List (Nat×Func))) (by simp)) (fun xx yy=>na ()) (fun xx yy=>fun _=>na ()) fun T xx yy hT=>by obtain rfl:=hT _ rfl;exact K5x xx.1 xx.2.1 xx.2.2 yy.1)
abbrev Kny:=K27.add K60
theorem Ksj {h:Kh} {l:ByteArray} (hi:Ys h) (hn:Fq h):Ys (doF h l).1∧Fq (doF h l).1:=by
 unfold doF
 split
 ·exact⟨hi,hn⟩
 split
 ·exact⟨hi,hn⟩
 split
 ·exact⟨hi,hn⟩
 split
 ·exact⟨hi,hn⟩
 split
 ·exact⟨hi,hn⟩
 rename_i h5 h6
 have e5:do2 h (doW l)=0:=Decidable.of_not_not h5
 have hE:h.1.length<1000:=by
  cases hc:decide (1000≤(h.1.length:Int)) with
  |false=>have:=of_decide_eq_false hc;omega
  |true=>
   rw[do2,hc] at e5
   cases hx:(Xf (doW l)).2<;>rw[hx] at e5<;>exact nomatch e5
 exact⟨Jb0 hi hE (Decidable.of_not_not h6),Kts hn (Decidable.of_not_not h6)⟩
abbrev Kos:Sch:= .prod .str (.prod .str sI)
abbrev Say:=ByteArray×ByteArray×Int
def J3r:Say:=(Ja,Ja,0)
def Kor (r:ByteArray×Int) (x:Say):Bool:=bif r.1.toList !=x.2.1.toList then true else r.2 !=x.2.2
def Jef:Kh→List Say→Kh×Bool
 |h,[]=>(h,true)
 |h,x::l=>bif Kor (doF h x.1).2 x then((doF h x.1).1,false) else Jef (doF h x.1).1 l
def J90:X8:={T? :=some 212,s:=Jjk,args:=[.val false (.list 147 Kos)],ress:=[Bo],pre:=fun h (l,_)=>[Ys h,Fq h,l.length≤1000000,∀x∈l,x.1.size≤1000000],spec:=fun h (l,_)=>((Jef h l).2,()),post:=fun h (l,_)=>(Jef h l).1}
abbrev Jyu (h0:Kh) (l:List Say):Ann:={X:=Kh×Nat,σ:=fun(h,k)=>⟨6,[(0, .one (.ptr 1 0)),(11, .one (.sl 5)),(12, .one (.int .i64 l.length)),(13, .one (.int .i64 k))],[(0, .sus [(0, .one (.ptr 1 0))]),(1, .box 212 [.sl 2, .sl 3, .sl 4]),(2, .own 67 sEv h.1),(3, .own 67 sEv h.2.1),(4, .own 105 Jlv h.2.2),(5, .imm 147 Kos l)]⟩,inv:=fun(h,k)=>Ys h∧Fq h∧k≤l.length∧Jef h (l.drop k)=Jef h0 l,mu:=fun(_,k)=>l.length-k}
def Khk (a:List Say) (b:Kh×Nat):=List.getD a b.2 (B0,B0,0)
def Kgs (a:Kh×Nat) (b:List Say):=doF (Jy6 a) (Khk b a).1
def Kzp (a:Kh×Nat) (b:List Say):=(Kgs a b).2
def Kk8 (a:Kh×Nat) (b:List Say):=(Kgs a b).1.2
theorem K3c (E C:List Ev) (G:List Reg) (l:List Say):wpFO Tryz.prog Kny.g (Zn (Jyu (E,C,G) l)) (fun _=>na ()) (Sx.look ([]:List (Nat×Func))) Tryz.f66 J90 212 (E,C,G) (l,()):=by
 refine(by kernel_rfl:(Ys (E,C,G)→Fq (E,C,G)→List.length l≤1000000→(∀(x:ByteArray×ByteArray×Int),x∈l→ByteArray.size x.1≤1000000)→Br false (Sf true (Sf 212 ((E,C,G)=(Jef (E,C,G) l).1∧false=(Jef (E,C,G) l).2))) (∃(x:(List Ev×List Ev×List Reg)×Nat),Si (Ln l) (0=Nc x.2∧E=x.1.1∧C=x.1.2.1∧G=x.1.2.2∧l=l)∧(Ys x.1∧Fq x.1∧x.2≤List.length l∧Jef x.1 (List.drop x.2 l)=Jef (E,C,G) l)∧∀(x:Kh×Nat),Ys x.1∧Fq x.1∧x.2≤List.length l∧Jef x.1 (List.drop x.2 l)=Jef (E,C,G) l→Br (decide (Nc x.2<Ln l)) (Tw (Bd (Nc x.2) (Ln l))∧(Ys (Jy6 x)∧Fq (Jy6 x)∧ByteArray.size (Khk l x).1≤1000000)∧Br (bif !Lb (Kzp x l).1 (Khk l x).2.1 then true else(Kzp x l).2 !=(Khk l x).2.2) (Sf true (Sf 212 (((Kgs x l).1.1,E2 (Kk8 x l))=(Jef (E,C,G) l).1∧false=(Jef (E,C,G) l).2))) (Z35 x∧∃(y:(List Ev×List Ev×List Reg)×Nat),Si (Ln l) (Juq x y∧(Kgs x l).1.1=y.1.1∧(Kk8 x l).1=y.1.2.1∧(Kk8 x l).2=y.1.2.2∧l=l)∧(Ys y.1∧Fq y.1∧y.2≤List.length l∧Jef y.1 (List.drop y.2 l)=Jef (E,C,G) l)∧List.length l-y.2<List.length l-x.2)) (Sf true (Sf 212 (Jy6 x=(Jef (E,C,G) l).1∧true=(Jef (E,C,G) l).2)))))=_).mp ?_
 delta Z35 Juq Jy6 Khk Kgs Kzp Kk8 Br Iw Bd Tw Sf Si Ln Nc B0 Lb E2
 intro hi hn hl hsz
 refine⟨fun h=>(nomatch h),fun _=>⟨((E,C,G),(0:Nat)),Oe,⟨hi,hn,Nat.zero_le _,rfl⟩,fun(x:Kh×Nat) hx=>⟨fun hlt=> ?_,fun hlt=> ?_⟩⟩⟩
 ·obtain⟨h,k⟩:=x
  obtain⟨k1,k2,k3,k4⟩:=hx
  have hlt:k<l.length:=by simpa using hlt
  dsimp only at k1 k2 k3 k4
  have hz:(({data:={toList:=[]}}:ByteArray),({data:={toList:=[]}}:ByteArray),(0:Int))=J3r:=rfl
  simp only[hz,Prod.eta]
  rw[J2 (d:=J3r) hlt,Jef] at k4
  have hd:=Ksj (l:=(l.getD k J3r).1) k1 k2
  refine⟨by(repeat' first|apply And.intro|(first|omega|dsimp only;omega)),⟨k1,k2,hsz _ (Je hlt)⟩,fun h1=> ?_,fun h1=> ?_⟩
  ·have e:Kor (doF h (l.getD k J3r).1).2 (l.getD k J3r)=true:=h1
   rw[e,cond_true] at k4
   rw[←k4]
   exact⟨trivial,trivial,rfl,rfl⟩
  ·have e:Kor (doF h (l.getD k J3r).1).2 (l.getD k J3r)=false:=h1
   rw[e,cond_false] at k4
   exact⟨by(repeat' first|apply And.intro|(first|omega|dsimp only;omega)),((doF h (l.getD k J3r).1).1,k+1),Oe,⟨hd.1,hd.2,Om,k4⟩,Om⟩
 ·obtain⟨h,k⟩:=x
  obtain⟨k1,k2,k3,k4⟩:=hx
  have hlt:¬k<l.length:=by simpa using hlt
  have e:k=l.length:=by dsimp only at k3;omega
  rw[e,List.drop_length,Jef] at k4
  rw[←k4]
  exact⟨rfl,rfl,rfl,rfl⟩
theorem K6q:Ok Tryz.prog 66 (X8.con J90):=Zd (Ul mixed Kny.ok (by kernel_rfl) (by kernel_rfl) (U5 (l:=([]:List (Nat×Func))) (by simp)) (fun xx yy=>Zn (Jyu (xx.1,xx.2.1,xx.2.2) yy.1)) (fun xx yy=>fun _=>na ()) fun T xx yy hT=>by obtain rfl:=hT _ rfl;exact K3c xx.1 xx.2.1 xx.2.2 yy.1)
abbrev K4l:=Kny.add K6q
def Kdc:Con:={args:=[.val false (.list 130 Lt), .fn [(true,Lt)] (true,Jod)],ress:=[(false, .list 129 Jod)],owns:=[true],pre:=fun(l,(q,_),_)=>[l.length≤1000000,∀x∈l,Ux (q (x,()))],spec:=fun(l,(_,f),_)=>(l.map fun x=>f (x,()),())}
def Km8:List (ByteArray×Int×Int×Int×Int×Int):=[]
def Kg1 (a:Ord×Unit→Jdq) (b:Nat) (c:List Ord):=List.map (fun(x:Ord)=>a (x,PUnit.unit)) (List.take b c)
def Kxi (a:Ord×Unit→Jdq) (b:Nat) (c:List Ord):=List.length (Kg1 a b c)
def Ku9 (a:Ord×Unit→Jdq) (b:List Ord) (c:Nat):=a (Ke9 b c)
def Ku8 (a:Ord×Unit→Jdq) (b:List Ord) (c:Nat):=(Ku9 a b c).2
def Ku7 (a:Ord×Unit→Jdq) (b:List Ord) (c:Nat):=(Ku8 a b c).2
def Ku6 (a:Ord×Unit→Jdq) (b:List Ord) (c:Nat):=(Ku7 a b c).2
theorem Krr:Ok Tryz.prog 125 Kdc:=okW K4l Tryz.f125 (fun xx=>Zn (Jbz 130 129 Lt xx.1 (true,Jod) true xx.2.1.1 xx.2.1.2)) fun xx=>by
 obtain⟨(l:List Ord),⟨(q:Ord×Unit→List Prop),(f:Ord×Unit→Jdq)⟩,_⟩:=xx
 refine(by kernel_rfl:(Z55 l→Kmn l q→∃(x:Nat),Si (Ln l) (0=Nc x∧Sf l ((fun(x:Ord×PUnit)=>q x)=q∧(fun(x:Ord×PUnit)=>f x)=f∧Kxi f x l=0))∧x≤List.length l∧∀(x:Nat),x≤List.length l→Br (decide (Nc x<Ln l)) (Tw (Bd (Nc x) (Ln l))∧(Kiv q l x∧(Kxi f x l+1)*56≤140737488355328)∧Z17 x∧∃(y:Nat),Si (Ln l) (Z96 x y∧Sf l ((fun(x:Ord×PUnit)=>q x)=q∧(fun(x:Ord×PUnit)=>f x)=f∧Kg1 f x l++((Ku9 f l x).1,(Ku8 f l x).1,(Ku7 f l x).1,(Ku6 f l x).1,E2 (Ku6 f l x).2)::Km8=Kg1 f y l))∧y≤List.length l∧List.length l-y<List.length l-x) (Kg1 f x l=List.map (fun(x:Ord)=>f (x,PUnit.unit)) l))=_).mp ?_
 delta Z17 Z55 Z71 Z96 Jen Km8 Khf Kmp Kmn Khd Kmk Kmh Kme Kg1 Kxi Ke9 Ku9 Ku8 Ku7 Ku6 Kiv Br Iw Bd Tw Sf Si Ln Nc B0 E2
 intro hb hq
 refine⟨(0:Nat),⟨rfl,rfl,rfl,rfl,rfl,by simp⟩,Nat.zero_le _,fun(k:Nat) hk=>⟨fun h=> ?_,fun h=> ?_⟩⟩
 ·have hlt:k<l.length:=by simpa using h
  refine⟨Oo,⟨hq (l.getD k Kb) (Je hlt),by simp only[List.length_map,List.length_take];omega⟩,Oo,(k+1:Nat),⟨rfl,by simp,rfl,rfl,rfl, ?_⟩,Oo,Oo⟩
  rw[←Ve (d:=Kb) hlt,List.map_append];rfl
 ·have hlt:¬k<l.length:=by simpa using h
  rw[List.take_of_length_le Oo]
abbrev K4k:=K4l.add Krr
def Ky (l:List Ev):List Jdq:=(Jc l).2.2.2.1.map (K6 (Jc l).2.1 (Jc l).2.2.2.2.1)
def K2 (l:List Ev):List Jdq×Int:=if opE l []=0 then(Ky l,0) else([],opE l [])
def J15:Con:={args:=[.val false (.list 67 sEv)],ress:=[(false, .list 129 Jod),I],owns:=[],pre:=fun(l,_)=>[lOk l],spec:=fun(l,_)=>((K2 l).1,(K2 l).2,())}
def Kmr (a:List Ev):=opE a [] !=0
def Kgc (a:List Ev):=List.map (fun(x:Ord)=>K6 (Jc a).2.1 (Jc a).2.2.2.2.1 x) (Jc a).2.2.2.1
def Ki4 (a:List Ev):=List.length (Jc a).2.2.2.1≤1000000∧∀(x:Ord),x∈(Jc a).2.2.2.1→Jy3 a∧x∈(Jc a).2.2.2.1
theorem K6x:Ok Tryz.prog 43 J15:=okW K4k Tryz.f43 na fun xx=>by
 obtain⟨(l:List Ev),_⟩:=xx
 refine(by kernel_rfl:(lOk l→(lOk l∧0≤1000000)∧Br (Kmr l) (Km8=(K2 l).1∧opE l []=(K2 l).2) (Ki4 l∧Kgc l=(K2 l).1∧0=(K2 l).2))=_).mp ?_
 delta Km8 Kmr J2v Jy3 Kgc Ki4 Br E2
 intro hl
 have hr:=Ly (l:=l)
 have nO:(Jc l).2.2.2.1.length≤32:=hr.nO
 simp only[Prod.eta]
 refine⟨⟨hl,Od⟩,fun h=> ?_,fun h=>⟨⟨Nat.le_trans nO Od,fun x hx=>⟨hr,hx⟩⟩, ?_⟩⟩
 ·have h:=bne_iff_ne.1 h
  unfold K2;rw[if_neg h]
  exact⟨rfl,rfl⟩
 ·have h:opE l []=0:=bne_eq_false_iff_eq.1 h
  unfold K2;rw[if_pos h]
  exact⟨rfl,rfl⟩
abbrev K4j:=K4k.add K6x
def Jcv (l:List Ev) (a b:ByteArray):Int:=Ji [opE l [a,b],bif a.toList==b.toList then 24 else 0]
def Jkv (l:List Ev) (a b:ByteArray):Int:=if Jcv l a b=0 then Hj (Jc l).2.1 (Jc l).2.2.2.1 (Jc l).2.2.2.2.1 a b else 0
def J7a:Con:={args:=[.val false (.list 67 sEv),aS,aS],ress:=[I,I],owns:=[],pre:=fun(l,_)=>[lOk l],spec:=fun(l,a,b,_)=>(Jkv l a b,Jcv l a b,())}
def K19 (a:List Ev) (b c:Bt):=Ji [opE a [b,c],bif Lb b c then 24 else 0]
theorem K6w:Ok Tryz.prog 44 J7a:=okW K4j Tryz.f44 na fun xx=>by
 obtain⟨(l:List Ev),(a:ByteArray),(b:ByteArray),_⟩:=xx
 refine(by kernel_rfl:(lOk l→(lOk l∧2≤1000000)∧2≤1000000∧Br (K19 l a b !=0) (0=Jkv l a b∧K19 l a b=Jcv l a b) (Jy3 l∧Hj (Jc l).2.1 (Jc l).2.2.2.1 (Jc l).2.2.2.2.1 a b=Jkv l a b∧0=Jcv l a b))=_).mp ?_
 delta K19 J2v Jy3 Br Lb E2
 intro hl
 refine⟨⟨hl,Od⟩,Od,fun h=> ?_,fun h=> ?_⟩
 ·have h:Jcv l a b≠0:=bne_iff_ne.1 h
  exact⟨by unfold Jkv;rw[if_neg h],rfl⟩
 ·have h:Jcv l a b=0:=bne_eq_false_iff_eq.1 h
  exact⟨Ly,by unfold Jkv;rw[if_pos h],h.symm⟩
abbrev K4i:=K4j.add K6w
def Kd8 (l:List Ev) (a:ByteArray):Int:=opE l [a]
def Jzw (l:List Ev) (a:ByteArray):Int:=if opE l [a]=0 then Jm8 (Jc l).2.1 (Jc l).2.2.1 (Jc l).2.2.2.1 (Jc l).2.2.2.2.1 a else 0
def Kd2:Con:={args:=[.val false (.list 67 sEv),aS],ress:=[I,I],owns:=[],pre:=fun(l,_)=>[lOk l],spec:=fun(l,a,_)=>(Jzw l a,Kd8 l a,())}
theorem K6v:Ok Tryz.prog 45 Kd2:=okW K4i Tryz.f45 na fun xx=>by
 obtain⟨(l:List Ev),(a:ByteArray),_⟩:=xx
 refine(by kernel_rfl:(lOk l→(lOk l∧1≤1000000)∧Br (opE l [a] !=0) (0=Jzw l a∧opE l [a]=Kd8 l a) (Jy3 l∧Jm8 (Jc l).2.1 (Jc l).2.2.1 (Jc l).2.2.2.1 (Jc l).2.2.2.2.1 a=Jzw l a∧0=Kd8 l a))=_).mp ?_
 delta J2v Jy3 Br E2
 intro hl
 refine⟨⟨hl,Od⟩,fun h=> ?_,fun h=> ?_⟩
 ·have h:opE l [a]≠0:=bne_iff_ne.1 h
  exact⟨by unfold Jzw;rw[if_neg h],rfl⟩
 ·have h:opE l [a]=0:=bne_eq_false_iff_eq.1 h
  exact⟨Ly,by unfold Jzw;rw[if_pos h],h.symm⟩
abbrev K4h:=K4i.add K6v
def Yl (l:List Ev):(Int×Int)×Int:=if opE l []=0 then J53 (Jc l).2.1 (Jc l).2.2.2.1 (Jc l).2.2.2.2.1 else((0,0),opE l [])
def J6w:Con:={args:=[.val false (.list 67 sEv)],ress:=[(true,La),I],owns:=[],pre:=fun(l,_)=>[lOk l],spec:=fun(l,_)=>((Yl l).1,(Yl l).2,())}
abbrev Jys (l:List Ev) (B:List Jdq):Ann:={X:=Nat×Int×Int,σ:=fun(k,s,g)=>⟨9,[(2, .one (.ptr 1 0)),(6, .one (.int .i64 s)),(7, .one (.int .i64 g)),(23, .one (.sl 8)),(24, .one (.int .i64 B.length)),(25, .one (.int .i64 k))],[(1, .box 54 [.int .i64 0, .int .i64 0]),(8, .own 129 Jod B)]⟩,inv:=fun(k,s,g)=>k≤B.length∧(0≤s∧s≤48000*k)∧(0≤g∧g≤s)∧Jp9 (B.drop k) (s,g)=Jp9 B (0,0),mu:=fun(k,_)=>B.length-k}
def Knn:=(B0,(0:Int),(0:Int),Z71)
def Kyx (a:List Ev) (b:Nat×Int×Int):=(List.getD (Ky a) b.1 Knn).2.2
def Kyo (a:Nat×Int×Int) (b:List Ev):=a.2.1+(Kyx b a).1
def Kyl (a:Nat×Int×Int) (b:List Ev):=a.2.2+(Kyx b a).2.1
def Kjd (a:Nat×Int×Int) (b:List Ev):=a.1≤List.length (Ky b)∧(0≤a.2.1∧a.2.1≤48000*Nc a.1)∧(0≤a.2.2∧a.2.2≤a.2.1)∧Jp9 (List.drop a.1 (Ky b)) (E2 a.2)=Jp9 (Ky b) (0,0)
theorem K6u:Ok Tryz.prog 46 J6w:=okW K4h Tryz.f46 (fun xx=>Zn (Jys xx.1 (Ky xx.1))) fun xx=>by
 obtain⟨(l:List Ev),_⟩:=xx
 refine(by kernel_rfl:(lOk l→(lOk l∧0≤1000000)∧Br (Kmr l) ((0,0)=(Yl l).1∧opE l []=(Yl l).2) (Ki4 l∧∃(x:Nat×Int×Int),(0=x.2.1∧0=x.2.2∧Ln (Kgc l)=Ln (Ky l)∧0=Nc x.1∧Si 0 (Si 0 (Kgc l=Ky l)))∧Kjd x l∧∀(x:Nat×Int×Int),Kjd x l→Br (decide (Nc x.1<Ln (Ky l))) (Tw (Bd (Nc x.1) (Ln (Ky l)))∧Iw (Kyo x l)∧Iw (Kyl x l)∧Iw (Nc x.1+1)∧∃(y:Nat×Int×Int),(Kyo x l=y.2.1∧Kyl x l=y.2.2∧Si (Ln (Ky l)) (Nc x.1+1=Nc y.1∧Si 0 (Si 0 (Ky l=Ky l))))∧Kjd y l∧List.length (Ky l)-y.1<List.length (Ky l)-x.1) (Br (x.2.1==0) ((0,0)=(Yl l).1∧6=(Yl l).2) ((Iw (x.2.1-x.2.2)∧(0≤x.2.1-x.2.2∧x.2.1-x.2.2≤1000000000000)∧1≤x.2.1∧x.2.1≤1000000000000)∧E2 (Jqy (x.2.1-x.2.2) x.2.1)=(Yl l).1∧0=(Yl l).2))))=_).mp ?_
 delta Z71 Knn Kmr J2v Jy3 Kgc Kyx Kyo Kyl Kjd Ki4 Br Iw Bd Tw Si Ln Nc B0 E2
 intro hl
 have hr:=Ly (l:=l)
 have nO:(Jc l).2.2.2.1.length≤32:=hr.nO
 simp only[Prod.eta]
 refine⟨⟨hl,Od⟩,fun h=> ?_,fun h=>⟨⟨Nat.le_trans nO Od,fun x hx=>⟨hr,hx⟩⟩, ?_⟩⟩
 ·have h:=bne_iff_ne.1 h
  unfold Yl;rw[if_neg h]
  exact⟨rfl,rfl⟩
 have h:opE l []=0:=bne_eq_false_iff_eq.1 h
 have hB:∀b∈Ky l,Jsm b:=fun b hb=>by
  obtain⟨x,hx,rfl⟩:=List.mem_map.1 hb
  exact L9 hr hx
 have nB:(Ky l).length≤32:=by unfold Ky;rw[List.length_map];exact nO
 refine⟨((0:Nat),0,0),Oe,⟨Nat.zero_le _,Om,Om,rfl⟩,fun(x:Nat×Int×Int) hk=>⟨fun h1=> ?_,fun h1=> ?_⟩⟩
 ·obtain⟨k,s,g⟩:=x
  have hlt:k<(Ky l).length:=by simpa using h1
  have hx:=Je (d:=Jya) hlt
  have hb:=hB _ hx
  obtain⟨k1,k2,k3,k4⟩:=hk
  rw[J2 (d:=Jya) hlt,Jp9] at k4
  have m1:=hb.sent
  have m2:=hb.got
  have hzb:((({data:={toList:=[]}}:ByteArray),(0:Int),(0:Int),(0:Int),(0:Int),(0:Int)):Jdq)=Jya:=rfl
  dsimp only at k1 k2 k3 k4
  simp only[hzb]
  exact⟨by(repeat' first|apply And.intro|omega),by(repeat' first|apply And.intro|omega),by(repeat' first|apply And.intro|omega),by(repeat' first|apply And.intro|omega),(k+1,s+((Ky l).getD k Jya).2.2.1,g+((Ky l).getD k Jya).2.2.2.1),Oe,⟨Om,Om,Om,k4⟩,Om⟩
 ·obtain⟨k,s,g⟩:=x
  have hlt:¬k<(Ky l).length:=by simpa using h1
  obtain⟨k1,k2,k3,k4⟩:=hk
  have:k=(Ky l).length:=by dsimp only at k1;omega
  rw[this,List.drop_length,Jp9] at k4
  have e:Yl l=if s=0 then((0,0),6) else(Jqy (s-g) s,0):=by
   unfold Yl J53
   rw[if_pos h]
   rw[show((Jc l).2.2.2.1.map (K6 (Jc l).2.1 (Jc l).2.2.2.2.1))=Ky l from rfl,←k4]
  dsimp only at k2 k3
  rw[e]
  refine⟨fun h2=> ?_,fun h2=> ?_⟩
  ·have h2:s=0:=by simpa using h2
   rw[if_pos h2]
   exact⟨rfl,rfl⟩
  ·have h2:s≠0:=by simpa using h2
   rw[if_neg h2]
   refine⟨⟨?_, ?_, ?_⟩,rfl,rfl⟩
   all_goals dsimp only
   all_goals (repeat' first|apply And.intro|omega)
abbrev K4g:=K4h.add K6u
def K7p:Con:={args:=[.ref 167 Jjk],ress:=[(true,Jlv)],owns:=[],pre:=fun(h,_)=>[Ke h],spec:=fun(h,_)=>(J7 h.2.2,())}
theorem K6i:Ok Tryz.prog 75 K7p:=okW K4g Tryz.f75 na fun xx=>by
 obtain⟨⟨(E:List Ev),(C:List Ev),(G:List Reg)⟩,_⟩:=xx
 refine(by kernel_rfl:(Ke (E,C,G)→Br (Ye G) (Yd G∧Yq G=J7 G) (V4=J7 G))=_).mp ?_
 delta Ye Dp V4 Yd Fo Fn Jau F9 H1 H0 Du Hn F8 Yq Br Iw Bd Tw Ln Gt E2
 intro hh
 have n1:E.length≤1000:=hh.nE
 have n2:C.length≤E.length:=hh.nC
 have n3:G.length=C.length:=hh.nG
 have hG:((G.length:Int)-1).toNat=G.length-1:=by omega
 refine⟨fun h=> ?_,fun h=> ?_⟩
 ·have h:(0:Int)<G.length:=of_decide_eq_true h
  rw[hG]
  exact⟨by(repeat' first|apply And.intro|omega),rfl⟩
 ·exact(Ko h).symm
abbrev K4f:=K4g.add K6i
def Kdh:Con:={args:=[.val false (.list 67 sEv), .fn [(true,sEv)] Bo],ress:=[(false, .list 67 sEv)],owns:=[true],pre:=fun(l,(q,_),_)=>[l.length≤1000000,∀x∈l,Ux (q (x,()))],spec:=fun(l,(_,f),_)=>(l.filter fun x=>f (x,()),())}
def J4t (a:Ev×Unit→Bool) (b:Nat) (c:List Ev):=List.filter (fun(x:Ev)=>a (x,PUnit.unit)) (List.take b c)
theorem K6f:Ok Tryz.prog 78 Kdh:=okW K4f Tryz.f78 (fun xx=>Zn (Jpn 67 67 sEv xx.1 true xx.2.1.1 xx.2.1.2)) fun xx=>by
 obtain⟨(l:List Ev),⟨(q:Ev×Unit→List Prop),(f:Ev×Unit→Bool)⟩,_⟩:=xx
 refine(by kernel_rfl:(Z40 l→Kaw l q→∃(x:Nat),Si (Ln l) (0=Nc x∧Sf l ((fun(x:Ev×PUnit)=>q x)=q∧(fun(x:Ev×PUnit)=>f x)=f∧List.length (J4t f x l)=0))∧x≤List.length l∧∀(x:Nat),x≤List.length l→Br (decide (Nc x<Ln l)) (Tw (Z9 x l)∧J98 q l x∧Br (f (J70 l x)) ((List.length (J4t f x l)+1)*88≤140737488355328∧Z17 x∧∃(y:Nat),Si (Ln l) (Z96 x y∧Sf l ((fun(x:Ev×PUnit)=>q x)=q∧(fun(x:Ev×PUnit)=>f x)=f∧J4t f x l++[Kfg l x]=J4t f y l))∧J79 y l x) (Z17 x∧∃(y:Nat),Si (Ln l) (Z96 x y∧Sf l ((fun(x:Ev×PUnit)=>q x)=q∧(fun(x:Ev×PUnit)=>f x)=f∧J4t f x l=J4t f y l))∧J79 y l x)) (J4t f x l=List.filter (fun(x:Ev)=>f (x,PUnit.unit)) l))=_).mp ?_
 delta Z9 Z17 Z40 Z96 J22 Jaa J4t J8h J8e J8a J79 Kaw Kfg J70 J98 Br Iw Bd Tw Sf Si Ln Nc B0 E2
 intro hb hq
 refine⟨(0:Nat),⟨rfl,rfl,rfl,rfl,rfl,by simp⟩,Nat.zero_le _,fun(k:Nat) hk=>⟨fun h=> ?_,fun h=> ?_⟩⟩
 ·have hlt:k<l.length:=by simpa using h
  have hf:=Jga (p:=fun x=>f (x,())) hk
  have ht:=Ve (d:=ev0) hlt
  refine⟨Oo,hq (l.getD k ev0) (Je hlt),fun h1=> ?_,fun h1=> ?_⟩
  ·have h1:f (l.getD k ev0,())=true:=h1
   refine⟨by show((List.filter (fun x=>f (x,())) (List.take k l)).length+1)*88≤_;omega,Oo,(k+1:Nat),⟨rfl,by simp,rfl,rfl,rfl, ?_⟩,Oo,Oo⟩
   rw[←ht,List.filter_append,List.filter_cons,if_pos h1];rfl
  ·have h1:f (l.getD k ev0,())=false:=h1
   refine⟨Oo,(k+1:Nat),⟨rfl,by simp,rfl,rfl,rfl, ?_⟩,Oo,Oo⟩
   rw[←ht,List.filter_append,List.filter_cons,if_neg (by rw[h1];decide)];simp
 ·have hlt:¬k<l.length:=by simpa using h
  rw[List.take_of_length_le Oo]
abbrev K4e:=K4f.add K6f
def Kde:Con:={args:=[.val false (.list 67 sEv), .fn [(true,sEv)] (true,sEv)],ress:=[(false, .list 67 sEv)],owns:=[true],pre:=fun(l,(q,_),_)=>[l.length≤1000000,∀x∈l,Ux (q (x,()))],spec:=fun(l,(_,f),_)=>(l.map fun x=>f (x,()),())}
def Kbh (a:Ev×Unit→Ev) (b:Nat) (c:List Ev):=List.map (fun(x:Ev)=>a (x,PUnit.unit)) (List.take b c)
def Kwb (a:Ev×Unit→Ev) (b:List Ev) (c:Nat):=a (J70 b c)
def Kwa (a:Ev×Unit→Ev) (b:List Ev) (c:Nat):=(Kwb a b c).2
def Kv9 (a:Ev×Unit→Ev) (b:List Ev) (c:Nat):=(Kwa a b c).2
theorem K6g:Ok Tryz.prog 77 Kde:=okW K4e Tryz.f77 (fun xx=>Zn (Jbz 67 67 sEv xx.1 (true,sEv) true xx.2.1.1 xx.2.1.2)) fun xx=>by
 obtain⟨(l:List Ev),⟨(q:Ev×Unit→List Prop),(f:Ev×Unit→Ev)⟩,_⟩:=xx
 refine(by kernel_rfl:(Z40 l→Kaw l q→∃(x:Nat),Si (Ln l) (0=Nc x∧Sf l ((fun(x:Ev×PUnit)=>q x)=q∧(fun(x:Ev×PUnit)=>f x)=f∧List.length (Kbh f x l)=0))∧x≤List.length l∧∀(x:Nat),x≤List.length l→Br (decide (Nc x<Ln l)) (Tw (Z9 x l)∧(J98 q l x∧(List.length (Kbh f x l)+1)*88≤140737488355328)∧Z17 x∧∃(y:Nat),Si (Ln l) (Z96 x y∧Sf l ((fun(x:Ev×PUnit)=>q x)=q∧(fun(x:Ev×PUnit)=>f x)=f∧Kbh f x l++[((Kwb f l x).1,(Kwa f l x).1,(Kv9 f l x).1,E2 (Kv9 f l x).2)]=Kbh f y l))∧J79 y l x) (Kbh f x l=List.map (fun(x:Ev)=>f (x,PUnit.unit)) l))=_).mp ?_
 delta Z9 Z17 Z40 Z96 J22 Jaa Kbh J8h J8e J8a J79 Kaw Kfg J70 Kwb Kwa Kv9 J98 Br Iw Bd Tw Sf Si Ln Nc B0 E2
 intro hb hq
 refine⟨(0:Nat),⟨rfl,rfl,rfl,rfl,rfl,by simp⟩,Nat.zero_le _,fun(k:Nat) hk=>⟨fun h=> ?_,fun h=> ?_⟩⟩
 ·have hlt:k<l.length:=by simpa using h
  refine⟨Oo,⟨hq (l.getD k ev0) (Je hlt),by simp only[List.length_map,List.length_take];omega⟩,Oo,(k+1:Nat),⟨rfl,by simp,rfl,rfl,rfl, ?_⟩,Oo,Oo⟩
  rw[←Ve (d:=ev0) hlt,List.map_append];rfl
 ·have hlt:¬k<l.length:=by simpa using h
  rw[List.take_of_length_le Oo]
abbrev K4d:=K4e.add K6g
def Zb:List Ev→Nat→List Ev
 |[],_=>[]
 |e::l,i=>((i:Int)+1,e.2)::Zb l (i+1)
def Zr (l:List Ev) (s:ByteArray):Int:=Ji [(Jd l).2.2,bif (bif (Jd l).2.2==0 then !Vq (Jc l) 0 s else false) then 10 else 0]
def Xi (l:List Ev) (s:ByteArray):List Ev:=(Jd l).1.2.1.filter fun e=>abS (Jc l) e s
def Ja4 (l:List Ev) (s:ByteArray):List Ev:=if Zr l s=0 then Zb (Xi l s) 0 else[]
def Kcw:Con:={args:=[.val false (.list 67 sEv),aS],ress:=[(false, .list 67 sEv),I],owns:=[],pre:=fun(l,_)=>[lOk l],spec:=fun(l,s,_)=>(Ja4 l s,Zr l s,())}
theorem Fd:∀(l:List Ev) (i:Nat),(Zb l i).length=l.length
 |[],_=>rfl
 |_::l,i=>by unfold Zb;rw[List.length_cons,List.length_cons,Fd l]
theorem Jh0:∀(a b:List Ev) (i:Nat),Zb (a++b) i=Zb a i++Zb b (i+a.length)
 |[],_,_=>rfl
 |x::a,b,i=>by
  rw[List.cons_append,Zb,Zb,Jh0 a b (i+1),List.cons_append,List.length_cons,show i+1+a.length=i+(a.length+1) by omega]
theorem Jvw {L:List Ev} {k:Nat} (h:k<L.length):(Zb (L.take k) 0++L.drop k).getD k ev0=L.getD k ev0:=by
 have hl:(Zb (L.take k) 0).length=k:=by rw[Fd,List.length_take];omega
 rw[J2 (d:=ev0) h,List.getD_eq_getElem?_getD,List.getElem?_append_right Oo,hl,Nat.sub_self]
 rfl
theorem Jvv {L:List Ev} {k:Nat} (h:k<L.length):(Zb (L.take k) 0++L.drop k).set k ((k:Int)+1,(L.getD k ev0).2)=Zb (L.take (k+1)) 0++L.drop (k+1):=by
 have hl:(Zb (L.take k) 0).length=k:=by rw[Fd,List.length_take];omega
 rw[J2 (d:=ev0) h,List.set_append_right _ _ Oo,hl,Nat.sub_self,List.set_cons_zero,←Ve (d:=ev0) h,Jh0,List.append_assoc,List.length_take,Nat.min_eq_left Oo,Nat.zero_add]
 rfl
theorem Jqj:∀{l:List Ev} {h:Kh},∀e∈(Dz h l).1.2.1,e∈h.2.1∨e∈l
 |[],_,e,he=> .inl he
 | x :: l, h, e, he => by
  unfold Dz at he
  by_cases ha:Ue h x=0
  ·rw[if_pos ha] at he
   rcases Jqj e he with h1|h1
   ·unfold Hz at h1
    cases hk:x.2.1.toList==Ju.toList with
    |true=>rw[hk,cond_true] at h1;exact .inl (List.mem_of_mem_take h1)
    |false=>
     rw[hk,cond_false] at h1
     rcases Vu h1 with h2|rfl
     ·exact .inl h2
     ·exact .inr (List.mem_cons_self ..)
   ·exact .inr (List.mem_cons_of_mem _ h1)
  ·rw[if_neg ha] at he;exact .inl he
theorem Jta {l:List Ev}:∀e∈(Jd l).1.2.1,e∈l:=by
 unfold Jd
 by_cases h:1000<l.length
 ·rw[if_pos h];intro e he;cases he
 ·rw[if_neg h];intro e he;exact(Jqj e he).elim (fun h=>by cases h) id
abbrev J7j (l:List Ev) (s:ByteArray):Ann:={X:=Kh×Nat,σ:=fun(h,k)=>⟨8,[(5, .one (.ptr 3 0)),(14, .one (.sl 0)),(15, .one (.int .i64 l.length)),(16, .one (.int .i64 k))],[(0, .imm 67 sEv l),(1, .box 9 [.str s]),(2, .sus [(3, .one (.ptr 1 0))]),(3, .box 167 [.sl 5, .sl 6, .sl 7]),(5, .own 67 sEv h.1),(6, .own 67 sEv h.2.1),(7, .own 105 Jlv h.2.2)]⟩,inv:=fun(h,k)=>Ys h∧h.1.length=k∧k≤l.length∧l.length≤1000∧Dz h (l.drop k)=Jd l,mu:=fun(_,k)=>l.length-k}
abbrev Kef (L:List Ev):Ann:={X:=Nat,σ:=fun k=>⟨1,[(11, .one (.sl 0)),(44, .one (.sl 0)),(45, .one (.int .i64 L.length)),(46, .one (.int .i64 k))],[(0, .own 67 sEv (Zb (L.take k) 0++L.drop k))]⟩,inv:=fun k=>k≤L.length,mu:=fun k=>L.length-k}
def J75 (a:Nat) (b:List Ev) (c:Bt):=Zb (List.take a (Xi b c)) 0++List.drop a (Xi b c)
def Km2 (a:Ev):=List.length a.2.2.1≤1000000∧List.length a.2.2.2.1≤1000000
def Kf2 (a:Kh×Nat):=((J7 a.1.2.2).1,(J7 a.1.2.2).2.1,(J7 a.1.2.2).2.2.1,(J7 a.1.2.2).2.2.2.1,(J7 a.1.2.2).2.2.2.2.1,E2 (J7 a.1.2.2).2.2.2.2.2)
def Kx6 (a:Kh×Nat):=Jj (Kf2 a)
def Kjm (a:Kh×Nat) (b:Bt):=List.filter (fun(x:Ev)=>abS (Kf2 a) x b) a.1.2.1
def Kwv (a:Kh×Nat) (b:Bt):=List.map (fun(x:Ev)=>x) (Kjm a b)
def Kwk (a:Kh×Nat) (b:Bt):=Ji [0,bif bif true then !Vq (Kf2 a) 0 b else false then 10 else 0]
def Kvq (a:Kh×Nat) (b:List Ev):=J4i a b==0
def Kvo (a:Kh×Nat) (b:List Ev):=Kvq a b=true
def J9n (a:Kh×Nat) (b:List Ev) (c:Bt):=Ji [J4i a b,bif bif Kvq a b then Klk c else false then 10 else 0]
theorem K7a:Ok Tryz.prog 16 Kcw:=Jzr K4d Tryz.f16 (U5 (l:=([(74,Tryz.f74)]:List (Nat×Func))) (List.forall_mem_cons.2 ⟨by kernel_rfl,by simp⟩)) (fun xx=>Zn (Kef (Xi xx.1 xx.2.1))) (fun xx=>fun f id=>if f=74 then some (J7j xx.1 xx.2.1) else none) fun xx=>by
 obtain⟨(l:List Ev),(s:ByteArray),_⟩:=xx
 refine(by kernel_rfl:(lOk l→Br (Z94 l) ((Z36∧Jb1∧2≤1000000)∧Br true (Sf true ([]=Ja4 l s∧Ji [5,0]=Zr l s)) (Tw False)) (∃(x:(List Ev×List Ev×List Reg)×Nat),Si (Ln l) (0=Nc x.2∧Sf l (Sf s (Kg2 x)))∧J73 x l∧∀(x:Kh×Nat),Kaj x l→Br (decide (Nc x.2<Ln l)) (Tw (Z25 x l)∧J97 x l∧Br (J4h x l) (Z35 x∧((Kvo x l→False)∧(Kvo x l→Y4)∧2≤1000000)∧Br (J9n x l s !=0) (Sf true ([]=Ja4 l s∧J9n x l s=Zr l s)) (Tw False)) (Z35 x∧∃(y:(List Ev×List Ev×List Reg)×Nat),Si (Ln l) (Juq x y∧Sf l (Sf s (Jze x l y)))∧Kaa y l x)) (((true=true→Kbg x)∧(true=true→Kx6 x)∧2≤1000000)∧Br (Kwk x s !=0) (Sf true ([]=Ja4 l s∧Kwk x s=Zr l s)) (Kbg x∧(List.length x.1.2.1≤1000000∧(∀(x_1:Ev),x_1∈x.1.2.1→Kx6 x∧Jhm (Kf2 x) x_1)∧List.length (Kjm x s)≤1000000∧∀(x_1:Ev),x_1∈Kjm x s→Km2 x_1)∧∃(x_1:Nat),(Ln (Kwv x s)=Ln (Xi l s)∧0=Nc x_1∧Kwv x s=J75 x_1 l s)∧x_1≤List.length (Xi l s)∧∀(x:Nat),x≤List.length (Xi l s)→Br (decide (Nc x<Ln (Xi l s))) ((Z17 x∧Tw (Bd (Nc x) (Ln (J75 x l s))))∧Z17 x∧∃(y:Nat),Si (Ln (Xi l s)) (Z96 x y∧List.set (J75 x l s) x (Nc x+1,(List.getD (J75 x l s) x Jaa).2)=J75 y l s)∧y≤List.length (Xi l s)∧List.length (Xi l s)-y<List.length (Xi l s)-x) (Sf true (J75 x l s=Ja4 l s∧0=Zr l s))))))=_).mp ?_
 delta Z17 Z25 Z35 Z36 Z94 Z96 Juq Jy6 Jaa Kbg J8g J8c Dp J2w J75 Km2 V4 Y4 Kg2 Klk Jb1 Kam Kal Kaj J73 Kf2 Kx6 Kaa Kjm Kwv Kwk Jy2 J4i Kfc Kfb Kvq Kvo J97 J4h J9n Jze Br Iw Bd Tw Sf Si Ln Nc B0 E2
 intro hl
 refine⟨fun h=> ?_,fun h=> ?_⟩
 ·have e:Jd l=(Xt,0,5):=by unfold Jd;rw[if_pos (by have:=of_decide_eq_true h;omega)]
  have eE:Zr l s=5:=by unfold Zr;rw[e];rfl
  refine⟨⟨fun h=>(by cases h),fun h=>(by cases h),Od⟩,fun _=>⟨rfl, ?_,eE.symm⟩,fun h=>(by cases h)⟩
  unfold Ja4;rw[if_neg (by rw[eE];decide)]
 have hn:l.length≤1000:=by have:=of_decide_eq_false h;omega
 have e0:Jd l=Dz Xt l:=by unfold Jd;rw[if_neg Oo]
 refine⟨(Xt,(0:Nat)),⟨rfl,rfl,rfl,rfl,rfl,rfl,rfl⟩,⟨Xy,rfl,Nat.zero_le _,hn,e0.symm⟩,fun(x:Kh×Nat) hx=>⟨fun h1=> ?_,fun h1=> ?_⟩⟩
 ·obtain⟨g,k⟩:=x
  obtain⟨hi,hk,hk2,_,hrun⟩:=hx
  dsimp only at hi hk hk2 hrun
  have hlt:k<l.length:=by simpa using h1
  rw[J2 (d:=ev0) hlt,Dz] at hrun
  have hz:=hl.2 _ (Je (d:=ev0) hlt)
  have hev:(0,({data:={toList:=[]}}:ByteArray),([]:List ByteArray),([]:List Int),({data:={toList:=[]}}:ByteArray))=ev0:=rfl
  simp only[hev,Prod.eta]
  refine⟨Oo,⟨hi.ok,(show g.1.length<1000 by omega),hz⟩,fun h2=> ?_,fun h2=> ?_⟩
  ·have n2:Ue g (l.getD k ev0)≠0:=bne_iff_ne.1 h2
   rw[if_neg n2] at hrun
   have b2:(Ue g (l.getD k ev0)==0)=false:=beq_eq_false_iff_ne.2 n2
   have eE:Zr l s=Ue g (l.getD k ev0):=by
    unfold Zr
    rw[←hrun]
    simp only[b2,cond_false]
    unfold Ji
    rw[if_neg n2]
   simp only[b2,cond_false]
   refine⟨by(repeat' first|apply And.intro|(first|omega|dsimp only;omega)),⟨fun h=>(nomatch h),fun h=>(nomatch h),Od⟩,fun _=>⟨trivial, ?_, ?_⟩,fun h=> ?_⟩
   ·unfold Ja4;rw[if_neg (by rw[eE];exact n2)]
   ·rw[eE];unfold Ji;rw[if_neg n2]
   ·have h:=bne_eq_false_iff_eq.1 h
    unfold Ji at h;rw[if_neg n2] at h;exact absurd h n2
  ·have z2:Ue g (l.getD k ev0)=0:=bne_eq_false_iff_eq.1 h2
   rw[if_pos z2] at hrun
   have ea:Vo g (l.getD k ev0)=Hz g (l.getD k ev0):=by unfold Vo;rw[if_pos z2]
   rw[ea]
   have hk3:(Hz g (l.getD k ev0)).1.length=g.1.length+1:=Xz
   exact⟨by(repeat' first|apply And.intro|(first|omega|dsimp only;omega)),(Hz g (l.getD k ev0),k+1),Oe,⟨Jb0 hi Om z2,Om,Om,hn,hrun⟩,Om⟩
 ·obtain⟨g,k⟩:=x
  obtain⟨hi,hk,hk2,_,hrun⟩:=hx
  dsimp only at hi hk hk2 hrun
  have hlt:¬k<l.length:=by simpa using h1
  have:k=l.length:=by omega
  rw[this,List.drop_length,Dz] at hrun
  simp only[Prod.eta]
  have eR:Jc l=J7 g.2.2:=by unfold Jc;rw[←hrun];rfl
  have eE:Zr l s=Ji [0,bif bif true then !Vq (J7 g.2.2) 0 s else false then 10 else 0]:=by
   unfold Zr;rw[←hrun,eR];rfl
  have eL:Xi l s=g.2.1.filter fun e=>abS (J7 g.2.2) e s:=by unfold Xi;rw[←hrun,eR]
  rw[←eE]
  have hA:Jne g:=by have:=J0z (l:=l);rw[←hrun] at this;exact this
  have nE:g.1.length≤1000:=hi.ok.nE
  have nC:g.2.1.length≤g.1.length:=hi.ok.nC
  have hsub:∀e∈g.2.1,e∈l:=by have:=Jta (l:=l);rw[←hrun] at this;exact this
  have hfl:=List.length_filter_le (fun e=>abS (J7 g.2.2) e s) g.2.1
  have hL:(Xi l s).length≤1000:=by rw[eL];omega
  refine⟨⟨fun _=>hi.ok,fun _=>Xj hi.ok,Od⟩,fun h2=>⟨trivial, ?_,rfl⟩,fun h2=>⟨hi.ok,⟨Nat.le_trans nC Oo,fun x hx=>⟨Xj hi.ok,Kcm hi hA hx⟩,Nat.le_trans hfl Oo,fun x hx=> ?_⟩,(0:Nat),⟨?_,rfl, ?_⟩,Nat.zero_le _,fun(k:Nat) hk=>⟨fun h3=> ?_,fun h3=> ?_⟩⟩⟩
  ·unfold Ja4;rw[if_neg (bne_iff_ne.1 h2)]
  ·have:=hl.2 x (hsub x (List.mem_filter.1 hx).1)
   exact⟨this.1,this.2.1⟩
  ·rw[eL,List.map_id']
  ·rw[eL,List.map_id'];rfl
  ·have hlt:k<(Xi l s).length:=by simpa using h3
   have hev:(0,({data:={toList:=[]}}:ByteArray),([]:List ByteArray),([]:List Int),({data:={toList:=[]}}:ByteArray))=ev0:=rfl
   rw[hev,Jvw hlt]
   refine⟨⟨Oo, ?_⟩,Oo,(k+1:Nat),⟨trivial,by simp,Jvv hlt⟩,Oo,Oo⟩
   rw[List.length_append,Fd,List.length_take,List.length_drop]
   omega
  ·have hlt:¬k<(Xi l s).length:=by simpa using h3
   have:k=(Xi l s).length:=by omega
   have z:Zr l s=0:=bne_eq_false_iff_eq.1 h2
   refine⟨trivial, ?_,z.symm⟩
   unfold Ja4
   rw[if_pos z,this,List.take_length,List.drop_length,List.append_nil]
abbrev K8v:=K4d.add K7a
namespace Cmp
open Go.Sx
set_option maxHeartbeats 20000000
def Ks4:Con:={args:=[.val true La, .val true La],ress:=[I],owns:=[],pre:=fun(x,y,_)=>[-1000000000≤x.1∧x.1≤1000000000,-1000000000≤y.1∧y.1≤1000000000],spec:=fun(x,y,_)=>(x.1-y.1,())}
theorem ok98 [Sx.Dr]:Ok Tryz.prog 98 Ks4:=okW W82 Tryz.f98 na fun xx=>by
 obtain⟨⟨(a:Int),(b:Int)⟩,⟨(c:Int),(d:Int)⟩,_⟩:=xx
 refine(by kernel_rfl:((-1000000000)≤a∧a≤1000000000→(-1000000000)≤c∧c≤1000000000→Iw (a-c)∧a-c=a-c)=_).mp ?_
 delta Iw
 intro h1 h2
 exact⟨Oo,rfl⟩
abbrev W83 [Sx.Dr]:=W82.add ok98
end Cmp
set_option maxHeartbeats 20000000
abbrev Spn:=Int×Int
def J3g:={x:Spn// -1000000000≤x.1∧x.1≤1000000000}
instance:Inhabited J3g:=⟨⟨(0,0),Od,Od⟩⟩
def Jty (x:J3g):List Value:=[.int .i64 x.1.1, .int .i64 x.1.2]
def Jxl (x y:J3g):Int:=x.1.1-y.1.1
theorem Jfq {a b:J3g}:Proofs.ltOf Jxl a b=false↔b.1.1≤a.1.1:=by
 unfold Proofs.ltOf Jxl
 simp only[decide_eq_false_iff_not]
 omega
theorem Jot (a b:J3g):Proofs.ltOf Jxl a b=true↔a.1.1<b.1.1:=by
 unfold Proofs.ltOf Jxl
 simp only[decide_eq_true_iff]
 omega
theorem K50:Sort.SWO (Proofs.ltOf Jxl) where
 irrefl x:=Jfq.2 (Int.le_refl _)
 trans x y z h1 h2:=(Jot x z).2 (Int.lt_trans ((Jot x y).1 h1) ((Jot y z).1 h2))
 ntrans x y z h1 h2:=Jfq.2 (Int.le_trans (Jfq.1 h2) (Jfq.1 h1))
theorem Jkk (M:Nat→Prop) (w:World) (x:J3g) (cs:List Value):Rep M w La x.1 cs↔cs=Jty x:=by
 constructor
 ·rintro⟨a,b,rfl,ha,hb⟩
  have ha:a=[.int .i64 x.1.1]:=ha
  have hb:b=[.int .i64 x.1.2]:=hb
  subst ha;subst hb;rfl
 ·rintro rfl
  exact⟨_,_,rfl,rfl,rfl⟩
theorem Jxk (w:World) (x y:J3g) (hG:Sx.Good Tryz.prog w):Calls Tryz.prog 98 #[.agg (Jty x).toArray, .agg (Jty y).toArray] w fun e w'=>e= .returned (.int .i64 (Jxl x y))∧RowKit.Below w.heap.size w w'∧w.drawn≤w'.drawn:=by
 have h:=(@Cmp.ok98 .on).2.2.2 rfl (x.1,y.1,()) (fun _=>False) (fun _=>False) w [.agg (Jty x).toArray, .agg (Jty y).toArray] (fun b hb=>by rcases hb with hb|hb<;>exact hb.elim) hG.on ⟨x.2,y.2⟩ ⟨_,_,rfl,⟨Jty x,rfl,(Jkk _ _ _ _).2 rfl⟩,_,_,rfl,⟨Jty y,rfl,(Jkk _ _ _ _).2 rfl⟩,rfl⟩
 refine h.mono ?_
 rintro e w' ⟨M',vs,rfl,hb,_,_,hr⟩
 obtain⟨v,vs',rfl,⟨cs,rfl,hc⟩,hr⟩:=hr
 have hc:cs=[.int .i64 (Jxl x y)]:=hc
 have hr:vs'=[]:=hr
 subst hc;subst hr
 exact⟨rfl,@Sx.Below.kit .on _ _ _ hb,hb.dr⟩
theorem J1i (w:World):(isAgg 117).run Tryz.prog w= .ok true w:=by kernel_rfl
theorem Jvh (w:World):(Go.sizeOf 117).run Tryz.prog w= .ok 2 w:=by kernel_rfl
theorem Kb5 (g cap:Nat) (d:Array J3g) (w:World) (hH:Sort.HoldsK Jty 2 w g 0 d) (hg:g<w.heap.size) (hd:d.size<4611686018427387904) (hc:Proofs.CmpLays Tryz.prog 98 #[] Jty 2 Jxl g 0 d.size w):
  Calls Tryz.prog 97 #[.slice (some ⟨g,0,none⟩) d.size cap, .func (.func 98) #[] #[]] w fun e w'=>e= .returned (.tuple #[])∧∃d' n os,Sort.PermIn 0 d.size d d'∧Sort.SortedIn (Proofs.ltOf Jxl) 0 d.size d'∧w'=Proofs.sortWorldK Jty 2 w g 0 n d' os:=by
 have eg:∀args w,(callFunc 98 args).run Tryz.prog w= .ok (.enter 98 args) w:=Proofs.enters_of Tryz.func98 (by kernel_rfl) rfl
 exact Proofs.AnyQ.slices_SortFunc Proofs.Tryz.sortS 2 J1i Jvh Jty (fun _=>rfl) (fun x v hv=>by simp[Jty] at hv;rcases hv with rfl|rfl<;>rfl) Jxl K50 98 #[] g 0 cap d w eg hc hH hg hd
theorem Job (w:World):Calls Tryz.prog 97 #[.slice none 0 0, .func (.func 98) #[] #[]] w fun e w'=>e= .returned (.tuple #[])∧w'=w:=
 Proofs.AnyF.slices_SortFunc_none Proofs.Tryz.sortS none 0 _ w
def Kih (l:List Spn):Prop:=(∀x∈l,-1000000000≤x.1∧x.1≤1000000000)∧l.length≤1000000
def J5l (xs ys:List Spn):Prop:=ys.Perm xs∧ys.Pairwise fun a b=>a.1≤b.1
theorem Jq0 {p:Spn→Prop}:∀l:List Spn,(∀x∈l,p x)→∃zs:List {x:Spn//p x},l=zs.map Subtype.val
 |[],_=>⟨[],rfl⟩
 |x::l,h=>by
  obtain⟨zs,e⟩:=Jq0 l fun y hy=>h y (List.mem_cons_of_mem _ hy)
  exact⟨⟨x,h x (List.mem_cons_self ..)⟩::zs,by rw[List.map_cons,←e]⟩
theorem Jvg:Jzh Tryz.prog 97 {T:=117,s:=La,g:=98,pre:=Kih,f:=id,rel:=some J5l}:=
 J0q (s:=La) (T:=117) (β:=J3g) (k:=2) Subtype.val Jty (fun _=>rfl) rfl Jkk Jxl Kih id J5l Kb5 Job Jxk
  (fun xs h=>Jq0 xs h.1)
  (fun xs ys hp hs=>⟨hp.map _,List.pairwise_map.2 (hs.imp fun h=>Jfq.1 h)⟩)
  (fun xs h=>h.2)
def Kcx:Con:={args:=[],ress:=[],owns:=[],pre:=fun _=>[False],spec:=fun _=>(),srt:=some {T:=117,s:=La,g:=98,pre:=Kih,f:=id,rel:=some J5l}}
theorem K53:Ok Tryz.prog 97 Kcx:=⟨⟨Tryz.f97,by kernel_rfl,by kernel_rfl,by kernel_rfl⟩,fun z hz=>(by cases hz;exact Jvg),fun F hF=>(by cases hF),fun h=>by cases h⟩
abbrev K4c:=K8v.add K53
def J6v:Con:={args:=[.val false (.list 188 Zw), .fn [(true,Zw)] (true,La)],ress:=[(false, .list 117 La)],owns:=[true],pre:=fun(l,(q,_),_)=>[l.length≤1000000,∀x∈l,Ux (q (x,()))],spec:=fun(l,(_,f),_)=>(l.map fun x=>f (x,()),())}
def Ka2 (a:Out×Unit→Spn) (b:Nat) (c:List Out):=List.map (fun(x:Out)=>a (x,PUnit.unit)) (List.take b c)
theorem K57:Ok Tryz.prog 93 J6v:=okW K4c Tryz.f93 (fun xx=>Zn (Jbz 188 117 Zw xx.1 (true,La) true xx.2.1.1 xx.2.1.2)) fun xx=>by
 obtain⟨(l:List Out),⟨(q:Out×Unit→List Prop),(f:Out×Unit→Spn)⟩,_⟩:=xx
 refine(by kernel_rfl:(Z47 l→J4n l q→∃(x:Nat),Si (Ln l) (0=Nc x∧Sf l ((fun(x:Out×PUnit)=>q x)=q∧(fun(x:Out×PUnit)=>f x)=f∧List.length (Ka2 f x l)=0))∧x≤List.length l∧∀(x:Nat),x≤List.length l→Br (Z87 x l) (Tw (Z19 x l)∧(J4j q l x∧(List.length (Ka2 f x l)+1)*16≤140737488355328)∧Z17 x∧∃(y:Nat),Si (Ln l) (Z96 x y∧Sf l ((fun(x:Out×PUnit)=>q x)=q∧(fun(x:Out×PUnit)=>f x)=f∧Ka2 f x l++[E2 (f (J4k l x))]=Ka2 f y l))∧J76 y l x) (Ka2 f x l=List.map (fun(x:Out)=>f (x,PUnit.unit)) l))=_).mp ?_
 delta Z17 Z19 Z47 Z87 Z96 Jg8 Jz6 J2y J2x J4o Ka2 J76 J4n J99 J4k J4j Br Iw Bd Tw Sf Si Ln Nc B0 E2
 intro hb hq
 refine⟨(0:Nat),⟨rfl,rfl,rfl,rfl,rfl,by simp⟩,Nat.zero_le _,fun(k:Nat) hk=>⟨fun h=> ?_,fun h=> ?_⟩⟩
 ·have hlt:k<l.length:=by simpa using h
  refine⟨Oo,⟨hq (l.getD k Jax) (Je hlt),by simp only[List.length_map,List.length_take];omega⟩,Oo,(k+1:Nat),⟨rfl,by simp,rfl,rfl,rfl, ?_⟩,Oo,Oo⟩
  rw[←Ve (d:=Jax) hlt,List.map_append];rfl
 ·have hlt:¬k<l.length:=by simpa using h
  rw[List.take_of_length_le Oo]
abbrev K4b:=K4c.add K57
def K71:Con:={args:=[.val true Zw, .ref 9 .str],ress:=[Bo],owns:=[],pre:=fun _=>[],spec:=fun(x,s,_)=>(x.2.1.toList==s.toList,())}
theorem K55:Ok Tryz.prog 95 K71:=okW K4b Tryz.f95 na fun xx=>by
 obtain⟨⟨(n:ByteArray),(f:ByteArray),⟨(a:Int),(b:Int)⟩,(p:Int)⟩,(s:ByteArray),_⟩:=xx
 refine(by kernel_rfl:(Lb f s=Lb f s)=_).mp ?_
 delta Lb
 rfl
abbrev K4a:=K4b.add K55
def K70:Con:={args:=[.val true Zw],ress:=[(true,La)],owns:=[],pre:=fun _=>[],spec:=fun(x,_)=>(x.2.2.1,())}
theorem K54:Ok Tryz.prog 96 K70:=okW K4a Tryz.f96 na fun xx=>by
 obtain⟨⟨(n:ByteArray),(f:ByteArray),⟨(a:Int),(b:Int)⟩,(p:Int)⟩,_⟩:=xx
 refine(by kernel_rfl:((a,b)=(a,b))=_).mp ?_
 rfl
abbrev K39:=K4a.add K54
end Go.Proofs.YtcibbcfiemeoiaaGreatDoor

/- Contracts of the functions that the law reaches: part of the proof. -/
import Derived.Test.YtcibbcfiemeoiaaGreatDoorFA
import Derived.Shelf.Strconv.ErrVarAll
import Derived.Lib.ItoaLen
import Derived.Lib.ItoaMem
set_option linter.unusedSimpArgs false
set_option linter.unusedVariables false
set_option maxRecDepth 20000
namespace Go.Proofs.YtcibbcfiemeoiaaGreatDoor
open Go.Sx
set_option maxHeartbeats 20000000
abbrev Hl:=ByteArray×Int×Int×Int×Int×Int
abbrev D5:Sch:= .prod .str (.prod sI (.prod sI (.prod sI (.prod sI sI))))
abbrev Lf:=Int×Int×Int×Int
def F1 (M:List Met) (s:ByteArray) (h:Int):Met:=M.getD (Kv M s h).toNat Jhf
def Jb6 (st:Int) (M:List Met) (x:Ord):Int→Nat→Lf→Lf
 |_,0,a=>a
 |h,n+1,(c,s,g,f)=>Jb6 st M x (h+1) n (bif Jo x h&&decide (h<st) then(c+1,s+(F1 M x.1 h).2.2.1,g+(F1 M x.1 h).2.2.2,f+3*(x.2.2.2.2.1-(F1 M x.1 h).2.2.2)) else(c,s,g,f))
def Ha (st:Int) (M:List Met) (x:Ord):Lf:=Jb6 st M x x.2.2.2.1.1 (Ko x) (0,0,0,0)
def Jv (st:Int) (M:List Met) (x:Ord):Hl:=(x.1,(Ha st M x).1,(Ha st M x).2.1,(Ha st M x).2.2.1,(Ha st M x).2.2.1*x.2.2.2.2.2.1,(Ha st M x).2.2.2)
def Ks8:Con:={args:=[Jbf, .val true Zx],ress:=[(true,D5)],owns:=[],pre:=fun(r,x,_)=>[Jj r,x∈r.2.2.2.1],spec:=fun((_,st,_,_,M,_),x,_)=>(Jv st M x,())}
abbrev J52 (tk st:Int) (S:List Sta) (O:List Ord) (M:List Met) (X:List Out) (Q:List Per) (x:Ord):Ann:={X:=Nat×Lf,σ:=fun(j,c,s,g,f)=>⟨14,[(0, .one (.fv 12)),(1, .one (.ptr 10 0)),(3, .one (.int .i64 (x.2.2.2.1.1+j)))],[(0, .imm 127 L5 S),(1, .imm 130 Zx O),(2, .imm 155 Dd M),(3, .imm 188 Xp X),(4, .imm 235 X7 Q),(5, .box 105 [.int .i64 tk, .int .i64 st, .sl 0, .sl 1, .sl 2, .sl 3, .sl 4]),(6, .box 130 (bxO x)),(7, .box 129 [.str Ja, .int .i64 0, .int .i64 0, .int .i64 0, .int .i64 0, .int .i64 0]),(8, .box 129 [.str x.1, .int .i64 c, .int .i64 s, .int .i64 g, .int .i64 0, .int .i64 f]),(10, .box 130 (bxO x)),(12, .yld .ready),(13, .sus [(2, .one (.ptr 5 0)),(3, .one (.ptr 6 0)),(4, .one (.ptr 7 0)),(5, .one (.ptr 8 0))])]⟩,inv:=fun(j,c,s,g,f)=>j≤Ko x∧(0≤c∧c≤j)∧(0≤s∧s≤1000*j)∧(0≤g∧g≤1000*j)∧(-3000*j≤f∧f≤3000*j)∧Jb6 st M x (x.2.2.2.1.1+j) (Ko x-j) (c,s,g,f)=Ha st M x,mu:=fun(j,_)=>Ko x-j}
def Ka9 (a:Int) (b:Nat):=0≤a∧a≤1000*Nc b
def Kmr (a:List Met) (b:Bt) (c:Int) (d:Nat×Lf):=(Gt a (Kv a b (c+Nc d.1)) Js1).2.2
def Kmb (a:Int) (b:List Met) (c:Bt) (d:Int) (e:Nat×Lf):=a-(Kmr b c d e).2
def Klx (a:Nat×Lf) (b:List Met) (c:Bt) (d:Int):=a.2.2.1+(Kmr b c d a).1
def J97 (a:Nat×Lf) (b:List Met) (c:Bt) (d:Int):=a.2.2.2.1+(Kmr b c d a).2
def Klb (a:Nat×Lf) (b:Int) (c:List Met) (d:Bt) (e:Int):=a.2.2.2.2+3*Kmb b c d e a
def Kt9 (a:Nat) (b c d:Bt) (e f g h i j k l m n:Int) (o:List Met):=a≤Ko (b,c,d,(e,f),g,h,i)∧(0≤j∧j≤Nc a)∧Ka9 k a∧Ka9 l a∧((-3000)*Nc a≤m∧m≤3000*Nc a)∧Jb6 n o (b,c,d,(e,f),g,h,i) (e+Nc a) (Ko (b,c,d,(e,f),g,h,i)-a) (j,k,l,m)=Ha n o (b,c,d,(e,f),g,h,i)
def Kt3 (a:Nat×Int×Int×Int×Int) (b c d:Bt) (e f g h i j:Int) (k:List Met):=match a with|(j_1,c_1,s,g_1,f_1)=>Kt9 j_1 b c d e f g h i c_1 s g_1 f_1 j k
def Ktt (a:Nat×Int×Int×Int×Int) (b c d:Bt) (e f g h i j:Int) (k:List Met) (l:Nat×Lf):=Kt3 a b c d e f g h i j k∧Ko (b,c,d,(e,f),g,h,i)-a.1<Ko (b,c,d,(e,f),g,h,i)-l.1
def J7m (a:Nat×Lf) (b:Int) (c:Bt) (d:Int) (e:List Met) (f g:Bt) (h i j k:Int) (l:List Sta) (m:List Ord) (n:List Out) (o:List Per) (p:Int):=Br false (Iw (a.2.2.2.1*b)∧Sf true ((c,a.2.1,a.2.2.1,a.2.2.2.1,a.2.2.2.1*b,a.2.2.2.2)=Jv d e (c,f,g,(h,i),j,b,k))) (Iw (h+Nc a.1+1)∧∃(y:Nat×Int×Int×Int×Int),(h+Nc a.1+1=h+Nc y.1∧Sf l (Sf m (Sf e (Sf n (Sf o (Si p (Si d (Sf c (Sf f (Sf g (Si h (Si i (Si j (Si b (Si k (Sf Ja (Si 0 (Si 0 (Si 0 (Si 0 (Si 0 (Sf c (a.2.1=y.2.1∧a.2.2.1=y.2.2.1∧a.2.2.2.1=y.2.2.2.1∧Si 0 (a.2.2.2.2=y.2.2.2.2∧Sf c (Sf f (Sf g (Si h (Si i (Si j (Si b (k=k)))))))))))))))))))))))))))))))∧Ktt y c f g h i j b k d e a)
theorem Kro:Ok Tryz.prog 126 Ks8:=J2c K5f Tryz.f126 (U5 (l:=([(178,Tryz.f178),(247,Tryz.f247)]:List (Nat×Func))) (List.forall_mem_cons.2 ⟨by kernel_rfl,List.forall_mem_cons.2 ⟨by kernel_rfl,by simp⟩⟩)) (fun xx=>na ()) (fun xx=>fun f' id=>if f'=247 then some (J52 xx.1.1 xx.1.2.1 xx.1.2.2.1 xx.1.2.2.2.1 xx.1.2.2.2.2.1 xx.1.2.2.2.2.2.1 xx.1.2.2.2.2.2.2 (xx.2.1.1,xx.2.1.2.1,xx.2.1.2.2.1,(xx.2.1.2.2.2.1.1,xx.2.1.2.2.2.1.2),xx.2.1.2.2.2.2.1,xx.2.1.2.2.2.2.2.1,xx.2.1.2.2.2.2.2.2)) else none) fun xx=>by
 obtain⟨⟨(tk:Int),(st:Int),(S:List Sta),(O:List Ord),(M:List Met),(X:List Out),(Q:List Per)⟩,⟨(n:ByteArray),(f:ByteArray),(t:ByteArray),⟨(a:Int),(b:Int)⟩,(p:Int),(c:Int),(r:Int)⟩,_⟩:=xx
 refine(by kernel_rfl:(Jr tk st S O M X Q→(n,f,t,(a,b),p,c,r)∈O→∃(x:Nat×Int×Int×Int×Int),(a=a+Nc x.1∧Sf S (Sf O (Sf M (Sf X (Sf Q (Si tk (Si st (Sf n (Sf f (Sf t (Si a (Si b (Si p (Si c (Si r (B0=Ja∧Si 0 (Si 0 (Si 0 (Si 0 (Si 0 (Sf n (0=x.2.1∧0=x.2.2.1∧0=x.2.2.2.1∧Si 0 (0=x.2.2.2.2∧Sf n (Sf f (Sf t (Si a (Si b (Si p (Si c (r=r))))))))))))))))))))))))))))))∧Kt3 x n f t a b p c r st M∧∀(x:Nat×Lf),(match x with|(j,c_1,s,g,f_1)=>Kt9 j n f t a b p c r c_1 s g f_1 st M)→Br (decide (a+Nc x.1<b)) (Br (Jo (n,f,t,(a,b),p,c,r) (a+Nc x.1)) (Br (decide (a+Nc x.1<st)) ((Jr tk st S O M X Q∧Tw (Bd (Kv M n (a+Nc x.1)) (Ln M)))∧Iw (x.2.1+1)∧Iw (Klx x M n a)∧Iw (J97 x M n a)∧(Iw (Kmb p M n a x)∧Iw (3*Kmb p M n a x)∧Iw (Klb x p M n a))∧Br false (Iw (J97 x M n a*c)∧Sf true ((n,x.2.1+1,Klx x M n a,J97 x M n a,J97 x M n a*c,Klb x p M n a)=Jv st M (n,f,t,(a,b),p,c,r))) (Iw (a+Nc x.1+1)∧∃(y:Nat×Int×Int×Int×Int),(a+Nc x.1+1=a+Nc y.1∧Sf S (Sf O (Sf M (Sf X (Sf Q (Si tk (Si st (Sf n (Sf f (Sf t (Si a (Si b (Si p (Si c (Si r (Sf Ja (Si 0 (Si 0 (Si 0 (Si 0 (Si 0 (Sf n (x.2.1+1=y.2.1∧Klx x M n a=y.2.2.1∧J97 x M n a=y.2.2.2.1∧Si 0 (Klb x p M n a=y.2.2.2.2∧Sf n (Sf f (Sf t (Si a (Si b (Si p (Si c (r=r)))))))))))))))))))))))))))))))∧Ktt y n f t a b p c r st M x)) (J7m x c n st M f t a b p r S O X Q tk)) (J7m x c n st M f t a b p r S O X Q tk)) (Iw (x.2.2.2.1*c)∧Sf true ((n,x.2.1,x.2.2.1,x.2.2.2.1,x.2.2.2.1*c,x.2.2.2.2)=Jv st M (n,f,t,(a,b),p,c,r))))=_).mp ?_
 delta Z61 Z66 Js1 Jr Ka9 Kmr Kmb Klx J97 Klb Kt9 Kt3 Ktt J7m Br Iw Bd Tw Sf Si Ln Nc Gt B0
 intro hr hx
 have hO:=hr.ord _ hx
 have hD:=hr.done _ hx
 have b0:=hO.span.lo
 have b1:=hO.span.mid
 have b2:=hO.span.hi
 have b3:=hO.span.len
 have bp:=hO.pow
 have bc:=hO.pri
 have hn:Ko (n,f,t,(a,b),p,c,r)≤48∧(Ko (n,f,t,(a,b),p,c,r):Int)=b-a:=by
  dsimp only at b1 b3
  unfold Ko
  constructor<;>dsimp only<;>omega
 dsimp only at b0 b1 b2 b3 bp bc hD
 refine⟨((0:Nat),(0,0,0,0)),by(repeat' first|exact rfl|apply And.intro|exact(Int.add_zero _).symm|omega|dsimp only;omega),⟨Nat.zero_le _,by omega,by omega,by omega,by omega, ?_⟩,fun(y:Nat×Lf) hy=>⟨fun h1=> ?_,fun h1=> ?_⟩⟩
 ·unfold Ha
  rw[Nat.sub_zero]
  simp only[Int.natCast_zero,Int.add_zero]
 ·obtain⟨j,c1,s1,g1,f1⟩:=y
  obtain⟨k1,k2,k3,k4,k5,k6⟩:=hy
  have h1:a+(j:Int)<b:=of_decide_eq_true h1
  have hj:Ko (n,f,t,(a,b),p,c,r)-j=(Ko (n,f,t,(a,b),p,c,r)-(j+1))+1:=by omega
  rw[hj,Jb6] at k6
  have hc:a+(j:Int)+1=a+((j+1:Nat):Int):=by omega
  have hB: -9223372036854775808≤a+(j:Int)+1∧a+(j:Int)+1≤9223372036854775807:=by omega
  refine⟨fun h2=>⟨fun h3=> ?_,fun h3=>⟨fun h=>(by cases h),fun _=>⟨hB,(j+1,c1,s1,g1,f1),by(repeat' first|exact rfl|apply And.intro|exact(Int.add_zero _).symm|omega|dsimp only;omega),⟨by(first|omega|dsimp only;omega),by(first|omega|dsimp only;omega),by(first|omega|dsimp only;omega),by(first|omega|dsimp only;omega),by(first|omega|dsimp only;omega), ?_⟩,by(first|omega|dsimp only;omega)⟩⟩⟩,fun h2=>⟨fun h=>(by cases h),fun _=>⟨hB,(j+1,c1,s1,g1,f1),by(repeat' first|exact rfl|apply And.intro|exact(Int.add_zero _).symm|omega|dsimp only;omega),⟨by(first|omega|dsimp only;omega),by(first|omega|dsimp only;omega),by(first|omega|dsimp only;omega),by(first|omega|dsimp only;omega),by(first|omega|dsimp only;omega), ?_⟩,by(first|omega|dsimp only;omega)⟩⟩⟩
  ·have h3':a+(j:Int)<st:=of_decide_eq_true h3
   have hm:0≤Kv M n (a+(j:Int)):=hD _ h2 h3'
   have hl:=Jas (l:=M) (s:=n) (h:=a+(j:Int))
   have hM:Jsl (F1 M n (a+(j:Int))):=hr.met _ (Jc (show _<M.length by omega))
   have m1:=hM.sent
   have m2:=hM.got
   have e:M.getD (Kv M n (a+(j:Int))).toNat (Ja,0,0,0)=F1 M n (a+(j:Int)):=rfl
   simp only[]
   rw[show(({data:={toList:=[]}}:ByteArray),(0:Int),(0:Int),(0:Int))=(Ja,0,0,0) from rfl,e]
   rw[h2,h3,Bool.true_and,cond_true] at k6
   refine⟨⟨hr,⟨hm,hl⟩,hm,hl⟩,by omega,by omega,by omega,⟨by omega,by omega,by omega⟩,fun h=>(by cases h),fun _=>⟨hB,(j+1,c1+1,s1+(F1 M n (a+(j:Int))).2.2.1,g1+(F1 M n (a+(j:Int))).2.2.2,f1+3*(p-(F1 M n (a+(j:Int))).2.2.2)),by(repeat' first|exact rfl|apply And.intro|exact(Int.add_zero _).symm|omega|dsimp only;omega),⟨by(first|omega|dsimp only;omega),by(first|omega|dsimp only;omega),by(first|omega|dsimp only;omega),by(first|omega|dsimp only;omega),by(first|omega|dsimp only;omega), ?_⟩,by(first|omega|dsimp only;omega)⟩⟩
   rw[hc] at k6
   exact k6
  ·rw[h3,Bool.and_false,cond_false,hc] at k6
   exact k6
  ·rw[show Jo (n,f,t,(a,b),p,c,r) (a+(j:Int))=false from h2,Bool.false_and,cond_false,hc] at k6
   exact k6
 ·obtain⟨j,c1,s1,g1,f1⟩:=y
  obtain⟨k1,k2,k3,k4,k5,k6⟩:=hy
  have h1:¬a+(j:Int)<b:=of_decide_eq_false h1
  have hj:Ko (n,f,t,(a,b),p,c,r)-j=0:=by omega
  rw[hj,Jb6] at k6
  have q1:0≤g1*c:=Int.mul_nonneg k4.1 bc.1
  have q2:g1*c≤48000*1000:=Int.mul_le_mul (by omega) bc.2 bc.1 (by decide)
  refine⟨⟨by(first|omega|dsimp only;omega),by(first|omega|dsimp only;omega)⟩,rfl, ?_⟩
  unfold Jv
  rw[←k6]
abbrev K5e:=K5f.add Kro
def bd4 (k:Int) (a:Lf):Prop:=(0≤a.1∧a.1≤k)∧(0≤a.2.1∧a.2.1≤1000*k)∧(0≤a.2.2.1∧a.2.2.1≤a.2.1)∧-3000*k≤a.2.2.2∧a.2.2.2≤3000*k
theorem Jp8 {st:Int} {M:List Met} {x:Ord} (hp:1≤x.2.2.2.2.1∧x.2.2.2.2.1≤1000) (hM:∀m∈M,Jsl m) (hd:∀h,Jo x h=true→h<st→0≤Kv M x.1 h):∀(n:Nat) (h:Int) (a:Lf) (k:Int),bd4 k a→bd4 (k+n) (Jb6 st M x h n a)
 |0,_,_,k,ha=>by unfold Jb6;rw[show k+((0:Nat):Int)=k by omega];exact ha
 | n + 1, h, (c, s, g, f), k, ha => by
  unfold Jb6
  rw[show k+((n+1:Nat):Int)=(k+1)+n by omega]
  apply Jp8 hp hM hd n
  unfold bd4 at ha⊢
  dsimp only at ha
  cases hb:Jo x h&&decide (h<st) with
  |false=>simp only[cond_false];omega
  |true=>
   have h1:=Bool.and_eq_true_iff.1 hb
   have hm:0≤Kv M x.1 h:=hd h h1.1 (of_decide_eq_true h1.2)
   have hl:=Jas (l:=M) (s:=x.1) (h:=h)
   have hk:Jsl (F1 M x.1 h):=hM _ (Jc (show _<M.length by omega))
   have m1:=hk.sent
   have m2:=hk.got
   simp only[cond_true]
   omega
theorem Jox {S:List Sta} {x:Ord} (h:Jca S x):Ko x≤48:=by
 have:=h.span.len
 have:=h.span.mid
 unfold Ko
 omega
structure J3i (b:Hl):Prop where
 hours:0≤b.2.1∧b.2.1≤48
 sent:0≤b.2.2.1∧b.2.2.1≤48000
 got:0≤b.2.2.2.1∧b.2.2.2.1≤b.2.2.1
 money:0≤b.2.2.2.2.1∧b.2.2.2.2.1≤48000000
 fine: -144000≤b.2.2.2.2.2∧b.2.2.2.2.2≤144000
theorem Lu {tk st:Int} {S:List Sta} {O:List Ord} {M:List Met} {X:List Out} {Q:List Per} {x:Ord} (hr:Jj (tk,st,S,O,M,X,Q)) (hx:x∈O):J3i (Jv st M x):=by
 have hO:=hr.ord _ hx
 have hs:=Jox hO
 have h:=Jp8 hO.pow hr.met (hr.done _ hx) (Ko x) x.2.2.2.1.1 (0,0,0,0) 0 (by unfold bd4;simp)
 have bc:=hO.pri
 unfold bd4 at h
 have h:(0≤(Ha st M x).1∧(Ha st M x).1≤0+(Ko x:Int))∧(0≤(Ha st M x).2.1∧(Ha st M x).2.1≤1000*(0+(Ko x:Int)))∧(0≤(Ha st M x).2.2.1∧(Ha st M x).2.2.1≤(Ha st M x).2.1)∧-3000*(0+(Ko x:Int))≤(Ha st M x).2.2.2∧(Ha st M x).2.2.2≤3000*(0+(Ko x:Int)):=h
 have q1:0≤(Ha st M x).2.2.1*x.2.2.2.2.2.1:=Int.mul_nonneg h.2.2.1.1 bc.1
 have q2:(Ha st M x).2.2.1*x.2.2.2.2.2.1≤48000*1000:=Int.mul_le_mul (by omega) bc.2 bc.1 (by decide)
 exact⟨by unfold Jv;(first|omega|dsimp only;omega),by unfold Jv;(first|omega|dsimp only;omega),by unfold Jv;(first|omega|dsimp only;omega),by unfold Jv;(first|omega|dsimp only;omega),by unfold Jv;(first|omega|dsimp only;omega)⟩
def Y5 (x:Ord) (a b:ByteArray):Bool:=x.2.1.toList==a.toList&&(x.2.2.1.toList==b.toList&&true)
def Kee (st:Int) (M:List Met) (a b:ByteArray) (x:Ord) (n:Int):Int:=(bif Y5 x b a then(bif Y5 x a b then n+((Jv st M x).2.2.2.2.1-(Jv st M x).2.2.2.2.2) else n)-((Jv st M x).2.2.2.2.1-(Jv st M x).2.2.2.2.2) else(bif Y5 x a b then n+((Jv st M x).2.2.2.2.1-(Jv st M x).2.2.2.2.2) else n))
def Jml (st:Int) (M:List Met) (a b:ByteArray):List Ord→Int→Int
 |[],n=>n
 |x::l,n=>Jml st M a b l (Kee st M a b x n)
def Hb (st:Int) (O:List Ord) (M:List Met) (a b:ByteArray):Int:=Jml st M a b O 0
def J0d:Con:={args:=[Jbf,aS,aS],ress:=[I],owns:=[],pre:=fun(r,_)=>[Jj r],spec:=fun((_,st,_,O,M,_),a,b,_)=>(Hb st O M a b,())}
abbrev Kd7 (tk st:Int) (S:List Sta) (O:List Ord) (M:List Met) (X:List Out) (Q:List Per) (a b:ByteArray):Ann:={X:=Nat×Int,σ:=fun(k,n)=>⟨6,[(1, .one (.str a)),(2, .one (.str b)),(3, .one (.ptr 5 0)),(7, .one (.int .i64 n)),(13, .one (.sl 1)),(14, .one (.int .i64 O.length)),(15, .one (.int .i64 k))],[(0, .imm 127 L5 S),(1, .imm 130 Zx O),(2, .imm 155 Dd M),(3, .imm 188 Xp X),(4, .imm 235 X7 Q),(5, .box 105 [.int .i64 tk, .int .i64 st, .sl 0, .sl 1, .sl 2, .sl 3, .sl 4])]⟩,inv:=fun(k,n)=>k≤O.length∧(-100000000*k≤n∧n≤100000000*k)∧Jml st M a b (O.drop k) n=Hb st O M a b,mu:=fun(k,_)=>O.length-k}
def J96 (a:List Ord) (b:Nat×Int) (c:Bt):=Lb (Kab a b) c
def J95 (a:List Ord) (b:Nat×Int) (c:Bt):=Lb (J99 a b) c
def Kff (a:List Ord) (b c:Nat×Int) (d:List Sta) (e:List Met) (f:List Out) (g:List Per) (h i:Int):=Si (Ln a) (Joi b c d a e f g h i)
def J6c (a:Nat×Int) (b:List Ord) (c:Int) (d:List Met) (e f:Bt):=a.1≤List.length b∧((-100000000)*Nc a.1≤a.2∧a.2≤100000000*Nc a.1)∧Jml c d e f (List.drop a.1 b) a.2=Hb c b d e f
def Kja (a:List Ord) (b:Nat×Int) (c d:Bt):=J96 a b c&&(J95 a b d&&true)
def Jx3 (a:Nat×Int) (b:List Ord) (c:Int) (d:List Met) (e f:Bt) (g:Nat×Int):=J6c a b c d e f∧List.length b-a.1<List.length b-g.1
def Kts (a:Int) (b:List Met) (c:List Ord) (d:Nat×Int):=(Jv a b (J59 c d)).2.2.2.2
def Jxe (a:Int) (b:List Met) (c:List Ord) (d:Nat×Int):=(Kts a b c d).1-(Kts a b c d).2
def J1l (a:Int) (b:List Met) (c:List Ord) (d:Nat×Int):=Iw (Jxe a b c d)
def J7q (a:Nat×Int) (b:Int) (c:List Met) (d:List Ord):=a.2-Jxe b c d a
def J1k (a:Nat×Int) (b:Int) (c:List Met) (d:List Ord):=a.2+Jxe b c d a
def J7e (a:Nat×Int) (b:Int) (c:List Met) (d:List Ord):=J1k a b c d-Jxe b c d a
theorem Krn:Ok Tryz.prog 127 J0d:=okW K5e Tryz.f127 (fun xx=>Xh (Kd7 xx.1.1 xx.1.2.1 xx.1.2.2.1 xx.1.2.2.2.1 xx.1.2.2.2.2.1 xx.1.2.2.2.2.2.1 xx.1.2.2.2.2.2.2 xx.2.1 xx.2.2.1)) fun xx=>by
 obtain⟨⟨(tk:Int),(st:Int),(S:List Sta),(O:List Ord),(M:List Met),(X:List Out),(Q:List Per)⟩,(a:ByteArray),(b:ByteArray),_⟩:=xx
 refine(by kernel_rfl:(Jr tk st S O M X Q→∃(x:Nat×Int),Sf a (Sf b (0=x.2∧Si (Ln O) (Jsv x S O M X Q tk st)))∧J6c x O st M a b∧∀(x:Nat×Int),J6c x O st M a b→Br (decide (Nc x.1<Ln O)) (Tw (Bd (Nc x.1) (Ln O))∧(Jr tk st S O M X Q∧J59 O x∈O)∧Br (Kja O x a b) ((J1l st M O x∧Iw (J1k x st M O))∧Br (Kja O x b a) ((J1l st M O x∧Iw (J7e x st M O))∧Z40 x∧∃(y:Nat×Int),Sf a (Sf b (J7e x st M O=y.2∧Kff O x y S M X Q tk st))∧Jx3 y O st M a b x) (Z40 x∧∃(y:Nat×Int),Sf a (Sf b (J1k x st M O=y.2∧Kff O x y S M X Q tk st))∧Jx3 y O st M a b x)) (Br (Kja O x b a) ((J1l st M O x∧Iw (J7q x st M O))∧Z40 x∧∃(y:Nat×Int),Sf a (Sf b (J7q x st M O=y.2∧Kff O x y S M X Q tk st))∧Jx3 y O st M a b x) (Z40 x∧∃(y:Nat×Int),Sf a (Sf b (x.2=y.2∧Kff O x y S M X Q tk st))∧Jx3 y O st M a b x))) (x.2=Hb st O M a b))=_).mp ?_
 delta Z40 Z61 Z66 Jmn Jr Jdv Kae Kad Kac Kab J99 Kgr Kgo Kgn Kgm J96 J95 Joj Jsv Joi Kff J6c Kja Jx3 J59 Kts Jxe J1l J7q J1k J7e Br Iw Bd Tw Sf Si Ln Nc B0 Lb E2
 intro hr
 have nO:O.length≤32:=hr.nO
 refine⟨((0:Nat),(0:Int)),by(repeat' first|exact rfl|apply And.intro|exact(Int.add_zero _).symm|omega|dsimp only;omega),⟨Nat.zero_le _,by omega,rfl⟩,fun(x:Nat×Int) hk=>⟨fun h1=> ?_,fun h1=> ?_⟩⟩
 ·obtain⟨k,n⟩:=x
  have hlt:k<O.length:=by simpa using h1
  have hx:=Jc (d:=Jl) hlt
  have hb:=Lu hr hx
  obtain⟨k1,k2,k3⟩:=hk
  rw[Jt (d:=Jl) hlt,Jml] at k3
  have m1:=hb.money
  have m2:=hb.fine
  have hz:((({data:={toList:=[]}}:ByteArray),({data:={toList:=[]}}:ByteArray),({data:={toList:=[]}}:ByteArray),((0:Int),(0:Int)),(0:Int),(0:Int),(0:Int)):Ord)=Jl:=rfl
  dsimp only at k1 k2 k3
  simp only[hz,Prod.eta]
  generalize O.getD k Jl=y at*
  have k3:Jml st M a b (List.drop (k+1) O) (bif Y5 y b a then(bif Y5 y a b then n+((Jv st M y).2.2.2.2.1-(Jv st M y).2.2.2.2.2) else n)-((Jv st M y).2.2.2.2.1-(Jv st M y).2.2.2.2.2) else(bif Y5 y a b then n+((Jv st M y).2.2.2.2.1-(Jv st M y).2.2.2.2.2) else n))=Hb st O M a b:=k3
  refine⟨⟨⟨by omega,by omega⟩,by omega,by omega⟩,⟨hr,hx⟩,fun h2=>⟨⟨⟨by omega,by omega⟩,by omega,by omega⟩,fun h3=>⟨⟨⟨by omega,by omega⟩,by omega,by omega⟩,⟨⟨by omega,by omega⟩,(k+1,n+((Jv st M y).2.2.2.2.1-(Jv st M y).2.2.2.2.2)-((Jv st M y).2.2.2.2.1-(Jv st M y).2.2.2.2.2)),by(repeat' first|exact rfl|exact⟨⟩|apply And.intro|omega|dsimp only;omega),⟨by(first|omega|dsimp only;omega),by(first|omega|dsimp only;omega), ?_⟩,by(first|omega|dsimp only;omega)⟩⟩,fun h3=>⟨⟨by omega,by omega⟩,(k+1,n+((Jv st M y).2.2.2.2.1-(Jv st M y).2.2.2.2.2)),by(repeat' first|exact rfl|exact⟨⟩|apply And.intro|omega|dsimp only;omega),⟨by(first|omega|dsimp only;omega),by(first|omega|dsimp only;omega), ?_⟩,by(first|omega|dsimp only;omega)⟩⟩,fun h2=>⟨fun h3=>⟨⟨⟨by omega,by omega⟩,by omega,by omega⟩,⟨⟨by omega,by omega⟩,(k+1,n-((Jv st M y).2.2.2.2.1-(Jv st M y).2.2.2.2.2)),by(repeat' first|exact rfl|exact⟨⟩|apply And.intro|omega|dsimp only;omega),⟨by(first|omega|dsimp only;omega),by(first|omega|dsimp only;omega), ?_⟩,by(first|omega|dsimp only;omega)⟩⟩,fun h3=>⟨⟨by omega,by omega⟩,(k+1,n),by(repeat' first|exact rfl|exact⟨⟩|apply And.intro|omega|dsimp only;omega),⟨by(first|omega|dsimp only;omega),by(first|omega|dsimp only;omega), ?_⟩,by(first|omega|dsimp only;omega)⟩⟩⟩
  all_goals (have h2:Y5 y a b=_:=h2;have h3:Y5 y b a=_:=h3;rw[h2,h3] at k3;exact k3)
 ·obtain⟨k,n⟩:=x
  have hlt:¬k<O.length:=by simpa using h1
  obtain⟨k1,k2,k3⟩:=hk
  have:k=O.length:=by omega
  rw[this,List.drop_length,Jml] at k3
  exact k3
abbrev K5d:=K5e.add Krn
theorem Jw6 {tk st:Int} {S:List Sta} {O:List Ord} {M:List Met} {X:List Out} {Q:List Per} {a b:ByteArray} (hr:Jj (tk,st,S,O,M,X,Q)):∀(l:List Ord) (n:Int),(∀x∈l,x∈O)→n-100000000*l.length≤Jml st M a b l n∧Jml st M a b l n≤n+100000000*l.length
 |[],n,_=>by simp[Jml]
 | x :: l, n, h => by
  have hb:=Lu hr (h x (List.mem_cons_self ..))
  have ih:=Jw6 (a:=a) (b:=b) hr l (Kee st M a b x n) fun y hy=>h y (List.mem_cons_of_mem _ hy)
  have m1:=hb.money
  have m2:=hb.fine
  have hd:n-100000000≤Kee st M a b x n∧Kee st M a b x n≤n+100000000:=by
   unfold Kee
   cases Y5 x a b<;>cases Y5 x b a<;>simp only[cond_true,cond_false]<;>omega
  simp only[List.length_cons]
  unfold Jml
  omega
theorem Jj3 {tk st:Int} {S:List Sta} {O:List Ord} {M:List Met} {X:List Out} {Q:List Per} {a b:ByteArray} (hr:Jj (tk,st,S,O,M,X,Q)): -3200000000≤Hb st O M a b∧Hb st O M a b≤3200000000:=by
 have h:=Jw6 (a:=a) (b:=b) hr O 0 fun _ h=>h
 have nO:O.length≤32:=hr.nO
 unfold Hb
 omega
def Jr6 (st:Int) (O:List Ord) (M:List Met) (s:ByteArray):List Sta→Int→Int
 |[],n=>n
 |x::l,n=>Jr6 st O M s l (bif x.1.toList !=s.toList then n+Hb st O M s x.1 else n)
def Jma (st:Int) (S:List Sta) (O:List Ord) (M:List Met) (s:ByteArray):Int:=Jr6 st O M s S 0
def J0a:Con:={args:=[Jbf,aS],ress:=[I],owns:=[],pre:=fun(r,_)=>[Jj r],spec:=fun((_,st,S,O,M,_),s,_)=>(Jma st S O M s,())}
abbrev Kd6 (tk st:Int) (S:List Sta) (O:List Ord) (M:List Met) (X:List Out) (Q:List Per) (s:ByteArray):Ann:={X:=Nat×Int,σ:=fun(k,n)=>⟨6,[(1, .one (.str s)),(2, .one (.ptr 5 0)),(5, .one (.int .i64 n)),(9, .one (.sl 0)),(10, .one (.int .i64 S.length)),(11, .one (.int .i64 k))],[(0, .imm 127 L5 S),(1, .imm 130 Zx O),(2, .imm 155 Dd M),(3, .imm 188 Xp X),(4, .imm 235 X7 Q),(5, .box 105 [.int .i64 tk, .int .i64 st, .sl 0, .sl 1, .sl 2, .sl 3, .sl 4])]⟩,inv:=fun(k,n)=>k≤S.length∧(-3200000000*k≤n∧n≤3200000000*k)∧Jr6 st O M s (S.drop k) n=Jma st S O M s,mu:=fun(k,_)=>S.length-k}
def Khm (a:List Sta) (b:Nat×Int):=(List.getD a b.1 Z11).1
def Kal (a:Nat×Int) (b:Int) (c:List Ord) (d:List Met) (e:Bt) (f:List Sta):=a.2+Hb b c d e (Khm f a)
def J6d (a:Nat×Int) (b:List Sta) (c:Int) (d:List Ord) (e:List Met) (f:Bt):=a.1≤List.length b∧((-3200000000)*Nc a.1≤a.2∧a.2≤3200000000*Nc a.1)∧Jr6 c d e f (List.drop a.1 b) a.2=Jma c b d e f
def J9m (a:Nat×Int) (b:List Sta) (c:Int) (d:List Ord) (e:List Met) (f:Bt) (g:Nat×Int):=J6d a b c d e f∧List.length b-a.1<List.length b-g.1
theorem Krm:Ok Tryz.prog 128 J0a:=okW K5d Tryz.f128 (fun xx=>Xh (Kd6 xx.1.1 xx.1.2.1 xx.1.2.2.1 xx.1.2.2.2.1 xx.1.2.2.2.2.1 xx.1.2.2.2.2.2.1 xx.1.2.2.2.2.2.2 xx.2.1)) fun xx=>by
 obtain⟨⟨(tk:Int),(st:Int),(S:List Sta),(O:List Ord),(M:List Met),(X:List Out),(Q:List Per)⟩,(s:ByteArray),_⟩:=xx
 refine(by kernel_rfl:(Jr tk st S O M X Q→∃(x:Nat×Int),Sf s (0=x.2∧Si (Ln S) (Jsv x S O M X Q tk st))∧J6d x S st O M s∧∀(x:Nat×Int),J6d x S st O M s→Br (decide (Nc x.1<Ln S)) (Tw (Bd (Nc x.1) (Ln S))∧Br (!Lb (Khm S x) s) ((Jr tk st S O M X Q∧Iw (Kal x st O M s S))∧Z40 x∧∃(y:Nat×Int),Sf s (Kal x st O M s S=y.2∧Si (Ln S) (Joi x y S O M X Q tk st))∧J9m y S st O M s x) (Z40 x∧∃(y:Nat×Int),Sf s (x.2=y.2∧Si (Ln S) (Joi x y S O M X Q tk st))∧J9m y S st O M s x)) (x.2=Jma st S O M s))=_).mp ?_
 delta Z11 Z40 Z61 Jmn Jr Khm Kal Joj Jsv Joi J6d J9m Br Iw Bd Tw Sf Si Ln Nc B0 Lb
 intro hr
 have nS:S.length≤6:=hr.nS
 refine⟨((0:Nat),(0:Int)),by(repeat' first|exact rfl|exact⟨⟩|apply And.intro|omega|dsimp only;omega),⟨Nat.zero_le _,by omega,rfl⟩,fun(x:Nat×Int) hk=>⟨fun h1=> ?_,fun h1=> ?_⟩⟩
 ·obtain⟨k,n⟩:=x
  have hlt:k<S.length:=by simpa using h1
  obtain⟨k1,k2,k3⟩:=hk
  rw[Jt (d:=Jm6) hlt,Jr6] at k3
  have hz:((({data:={toList:=[]}}:ByteArray),(0:Int),(0:Int)):Sta)=Jm6:=rfl
  dsimp only at k1 k2 k3
  simp only[hz,Prod.eta]
  generalize S.getD k Jm6=y at*
  have hb:=Jj3 (a:=s) (b:=y.1) hr
  refine⟨⟨⟨by omega,by omega⟩,by omega,by omega⟩,fun h2=>⟨⟨hr,by omega,by omega⟩,⟨by omega,by omega⟩,(k+1,n+Hb st O M s y.1),by(repeat' first|exact rfl|exact⟨⟩|apply And.intro|omega|dsimp only;omega),⟨by(first|omega|dsimp only;omega),by(first|omega|dsimp only;omega), ?_⟩,by(first|omega|dsimp only;omega)⟩,fun h2=>⟨⟨by omega,by omega⟩,(k+1,n),by(repeat' first|exact rfl|exact⟨⟩|apply And.intro|omega|dsimp only;omega),⟨by(first|omega|dsimp only;omega),by(first|omega|dsimp only;omega), ?_⟩,by(first|omega|dsimp only;omega)⟩⟩
  all_goals (have h2:(y.1.toList !=s.toList)=_:=h2;rw[h2] at k3;exact k3)
 ·obtain⟨k,n⟩:=x
  have hlt:¬k<S.length:=by simpa using h1
  obtain⟨k1,k2,k3⟩:=hk
  have:k=S.length:=by omega
  rw[this,List.drop_length,Jr6] at k3
  exact k3
abbrev K5c:=K5d.add Krm
def Jsq (num den:Int):Int×Int:=(num.tdiv (Nat.gcd num.toNat den.toNat:Nat),den.tdiv (Nat.gcd num.toNat den.toNat:Nat))
def K27:Con:={args:=[aI,aI],ress:=[(true,Ho)],owns:=[],pre:=fun(a,b,_)=>[0≤a∧a≤1000000000000,1≤b∧b≤1000000000000],spec:=fun(a,b,_)=>(Jsq a b,())}
abbrev Kd3 (num den:Int):Ann:={X:=Int×Int,σ:=fun(a,b)=>⟨1,[(0, .one (.int .i64 num)),(1, .one (.int .i64 den)),(4, .one (.ptr 0 0)),(5, .one (.int .i64 a)),(6, .one (.int .i64 b))],[(0, .box 54 [.int .i64 0, .int .i64 0])]⟩,inv:=fun(a,b)=>(0≤a∧a≤1000000000000)∧(0≤b∧b≤1000000000000)∧(a=0→b≠0)∧Nat.gcd a.toNat b.toNat=Nat.gcd num.toNat den.toNat,mu:=fun(_,b)=>b.toNat}
def Z29:=Tw ((0:Int)=0)
def J1d (a:Int):=0≤a∧a≤1000000000000
def Knd (a:Int×Int):=a.2 !=0
def Kjh (a:Int×Int) (b c:Int):=(0≤a.1∧a.1≤1000000000000)∧(0≤a.2∧a.2≤1000000000000)∧(a.1=0→a.2=0→False)∧Nat.gcd (Int.toNat a.1) (Int.toNat a.2)=Nat.gcd (Int.toNat b) (Int.toNat c)
theorem K5q:Ok Tryz.prog 99 K27:=okW K5c Tryz.f99 (fun xx=>Xh (Kd3 xx.1 xx.2.1)) fun xx=>by
 obtain⟨(num:Int),(den:Int),_⟩:=xx
 refine(by kernel_rfl:(J1d num→1≤den∧den≤1000000000000→∃(x:Int×Int),Si num (Si den (num=x.1∧den=x.2∧Z29))∧Kjh x num den∧∀(x:Int×Int),Kjh x num den→Br (Knd x) ((x.2=0→False)∧∃(y:Int×Int),Si num (Si den (x.2=y.1∧Int.tmod x.1 x.2=y.2∧Z29))∧Kjh y num den∧Int.toNat y.2<Int.toNat x.2) (((x.1=0→False)∧Iw (Int.tdiv num x.1)∧(x.1=0→False)∧Iw (Int.tdiv den x.1))∧(Int.tdiv num x.1,Int.tdiv den x.1)=Jsq num den))=_).mp ?_
 delta Z29 J1d Knd Kjh Br Iw Tw Si
 intro h1' h2
 refine⟨(num,den),by(repeat' first|exact rfl|exact⟨⟩|apply And.intro|omega|dsimp only;omega),⟨h1',by(first|omega|dsimp only;omega),by(first|omega|dsimp only;omega),rfl⟩,fun(x:Int×Int) hk=>⟨fun h1=> ?_,fun h1=> ?_⟩⟩
 ·obtain⟨a,b⟩:=x
  obtain⟨k1,k2,k3,k4⟩:=hk
  dsimp only at k1 k2 k3 k4 h1
  have hb:b≠0:=bne_iff_ne.1 h1
  obtain⟨A,rfl⟩:=Int.eq_ofNat_of_zero_le k1.1
  obtain⟨B,rfl⟩:=Int.eq_ofNat_of_zero_le k2.1
  have hB:0<B:=by omega
  have hm:=Nat.mod_lt A hB
  have e:((A:Int).tmod (B:Int))=((A %B:Nat):Int):=(Int.ofNat_tmod A B).symm
  refine⟨hb,((B:Int),((A %B:Nat):Int)),⟨rfl,rfl,rfl,e,rfl,rfl⟩,⟨by(first|omega|dsimp only;omega),by(first|omega|dsimp only;omega),fun h=>(by dsimp only at h;omega), ?_⟩, ?_⟩
  ·rw[←k4]
   simp only[Int.toNat_natCast]
   rw[Nat.gcd_comm A B,Nat.gcd_rec B A,Nat.gcd_comm]
  ·simp only[Int.toNat_natCast]
   exact hm
 ·obtain⟨a,b⟩:=x
  obtain⟨k1,k2,k3,k4⟩:=hk
  dsimp only at k1 k2 k3 k4 h1
  have hb:b=0:=by simpa using h1
  subst hb
  have ha:a≠0:=fun h=>k3 h rfl
  have hg:(Nat.gcd num.toNat den.toNat:Int)=a:=by rw[←k4];simp;omega
  have d1:0≤num.tdiv a:=Int.tdiv_nonneg h1'.1 k1.1
  have d2:num.tdiv a≤num:=Int.tdiv_le_self _ h1'.1
  have d3:0≤den.tdiv a:=Int.tdiv_nonneg (by omega) k1.1
  have d4:den.tdiv a≤den:=Int.tdiv_le_self _ (by omega)
  refine⟨⟨ha,⟨by(first|omega|dsimp only;omega),by(first|omega|dsimp only;omega)⟩,ha,by(first|omega|dsimp only;omega),by(first|omega|dsimp only;omega)⟩, ?_⟩
  unfold Jsq
  rw[hg]
abbrev K5b:=K5c.add K5q
abbrev Kbt:Sch:= .prod .str (.prod sI .bool)
abbrev Frm:=ByteArray×Int×Bool
def Zo (k:ByteArray):Frm:=
 bif k.toList==Jy.toList then(⟨⟨[83]⟩⟩,2,true) else
 bif k.toList==K9.toList then(⟨⟨[115]⟩⟩,2,true) else
 bif k.toList==Kl.toList then(⟨⟨[79,115,115]⟩⟩,4,true) else
 bif k.toList==K3.toList then(⟨⟨[111]⟩⟩,4,true) else
 bif k.toList==Vn.toList then(⟨⟨[111]⟩⟩,1,true) else
 bif k.toList==Jz.toList then(⟨⟨[88,115]⟩⟩,4,true) else
 bif k.toList==Ju.toList then(⟨⟨[120]⟩⟩,1,true) else
 bif k.toList==Kd.toList then(⟨⟨[80,120]⟩⟩,1,true) else
 bif k.toList==Kc.toList then(⟨⟨[112]⟩⟩,1,true) else
 bif k.toList==Jh.toList then(⟨⟨[]⟩⟩,2,true) else
 bif k.toList==J2.toList then(⟨⟨[]⟩⟩,0,true) else
 (Ja,0,false)
def Ks2:Con:={args:=[aS],ress:=[(true,Kbt)],owns:=[],pre:=fun _=>[],spec:=fun(k,_)=>(Zo k,())}
theorem Kb7:Ok Tryz.prog 110 Ks2:=okW K5b Tryz.f110 na fun xx=>by
 obtain⟨(k:ByteArray),_⟩:=xx
 refine(by kernel_rfl:(Br (Lb k Jy) ((ByteArray.mk (Array.mk [83]),2,true)=Zo k) (Br (Lb k K9) ((ByteArray.mk (Array.mk [115]),2,true)=Zo k) (Br (Lb k Kl) ((ByteArray.mk (Array.mk [79,115,115]),4,true)=Zo k) (Br (Lb k K3) ((ByteArray.mk (Array.mk [111]),4,true)=Zo k) (Br (Lb k Vn) ((ByteArray.mk (Array.mk [111]),1,true)=Zo k) (Br (Lb k Jz) ((ByteArray.mk (Array.mk [88,115]),4,true)=Zo k) (Br (Lb k Ju) ((ByteArray.mk (Array.mk [120]),1,true)=Zo k) (Br (Lb k Kd) ((ByteArray.mk (Array.mk [80,120]),1,true)=Zo k) (Br (Lb k Kc) ((ByteArray.mk (Array.mk [112]),1,true)=Zo k) (Br (Lb k Jh) ((B0,2,true)=Zo k) (Br (Lb k J2) ((B0,0,true)=Zo k) ((B0,0,false)=Zo k))))))))))))=_).mp ?_
 delta Br B0 Lb K3 Kl Jz Kd K9 Ju Kc Jh Jy Vn J2
 unfold Zo
 repeat' first|(refine⟨fun h=> ?_,fun h=> ?_⟩)|(rw[h];clear h)
 all_goals rfl
abbrev K8y:=K5b.add Kb7
abbrev K5a:=K8y
abbrev Jk0:Sch:= .prod sI (.prod sI (.prod (.list 114 L5) (.prod (.list 119 Zx) (.prod (.list 121 Dd) (.prod (.list 123 Xp) (.list 125 X7))))))
abbrev Yp:AK:= .val true Jk0
def Kte:Con:={args:=[Yp,aS],ress:=[I],owns:=[],pre:=fun((_,_,L,_),_)=>[L.length≤1000000],spec:=fun((_,_,L,_),s,_)=>(Jx L s,())}
abbrev J56 (tk st:Int) (S:List Sta) (O:List Ord) (M:List Met) (X:List Out) (Q:List Per) (s:ByteArray):Ann:={X:=Nat,σ:=fun k=>⟨6,[(1, .one (.str s)),(2, .one (.ptr 5 0)),(5, .one (.int .i64 k))],[(0, .imm 114 L5 S),(1, .imm 119 Zx O),(2, .imm 121 Dd M),(3, .imm 123 Xp X),(4, .imm 125 X7 Q),(5, .box 37 [.int .i64 tk, .int .i64 st, .sl 0, .sl 1, .sl 2, .sl 3, .sl 4])]⟩,inv:=fun k=>k≤S.length∧Jx S s=Vm (fun x=>x.1.toList==s.toList) (S.drop k) k,mu:=fun k=>S.length-k}
def Kl3 (a:Nat) (b:List Sta) (c:Bt):=a≤List.length b∧Jx b c=Vm (fun(x:Sta)=>Lb x.1 c) (List.drop a b) a
def Jx5 (a:Bt) (b:Nat) (c:List Sta) (d:List Ord) (e:List Met) (f:List Out) (g:List Per) (h i:Int):=Sf a (0=Nc b∧Joj c d e f g h i)
def Jx4 (a:Bt) (b c:Nat) (d:List Sta) (e:List Ord) (f:List Met) (g:List Out) (h:List Per) (i j:Int):=Sf a (V9 b c∧Joj d e f g h i j)
theorem K62:Ok Tryz.prog 21 Kte:=okW K5a Tryz.f21 (fun xx=>Xh (J56 xx.1.1 xx.1.2.1 xx.1.2.2.1 xx.1.2.2.2.1 xx.1.2.2.2.2.1 xx.1.2.2.2.2.2.1 xx.1.2.2.2.2.2.2 xx.2.1)) fun xx=>by
 obtain⟨⟨(tk:Int),(st:Int),(S:List Sta),(O:List Ord),(M:List Met),(X:List Out),(Q:List Per)⟩,(s:ByteArray),_⟩:=xx
 refine(by kernel_rfl:(Z46 S→∃(x:Nat),Jx5 s x S O M X Q tk st∧Kl3 x S s∧∀(x:Nat),Kl3 x S s→Br (decide (Nc x<Ln S)) (Tw (Bd (Nc x) (Ln S))∧Br (Lb (List.getD S x Z11).1 s) (Nc x=Jx S s) (Z14 x∧∃(y:Nat),Jx4 s x y S O M X Q tk st∧Kl3 y S s∧List.length S-y<List.length S-x)) (Z67=Jx S s))=_).mp ?_
 delta Z11 Z14 Z46 Z67 V9 Kl3 Joj Jx5 Jx4 Br Iw Bd Tw Sf Si Ln Nc B0 Lb
 intro hb
 refine⟨(0:Nat),by(repeat' first|exact rfl|exact⟨⟩|apply And.intro|omega|dsimp only;omega),⟨Nat.zero_le _,rfl⟩,fun(k:Nat) hk=>⟨fun h=> ?_,fun h=> ?_⟩⟩
 ·have hlt:k<S.length:=by simpa using h
  have hd:=V5 (p:=fun x=>x.1.toList==s.toList) (d:=Jm6) hlt
  refine⟨by omega,fun h1=> ?_,fun h1=>⟨by omega,(k+1:Nat),by(repeat' first|exact rfl|exact⟨⟩|apply And.intro|omega|dsimp only;omega),⟨by omega, ?_⟩,by omega⟩⟩
  ·rw[hk.2,hd,if_pos (show((S.getD k Jm6).1.toList==s.toList)=true from h1)]
  ·rw[hk.2,hd,if_neg (by rw[show((S.getD k Jm6).1.toList==s.toList)=false from h1];simp)]
 ·have hlt:¬k<S.length:=by simpa using h
  have:k=S.length:=by omega
  rw[hk.2,this,List.drop_length];rfl
abbrev K49:=K5a.add K62
def Ktd:Con:={args:=[Yp,aS],ress:=[I],owns:=[],pre:=fun((_,_,_,L,_),_)=>[L.length≤1000000],spec:=fun((_,_,_,L,_),s,_)=>(Kx L s,())}
abbrev J55 (tk st:Int) (S:List Sta) (O:List Ord) (M:List Met) (X:List Out) (Q:List Per) (s:ByteArray):Ann:={X:=Nat,σ:=fun k=>⟨6,[(1, .one (.str s)),(2, .one (.ptr 5 0)),(5, .one (.int .i64 k))],[(0, .imm 114 L5 S),(1, .imm 119 Zx O),(2, .imm 121 Dd M),(3, .imm 123 Xp X),(4, .imm 125 X7 Q),(5, .box 37 [.int .i64 tk, .int .i64 st, .sl 0, .sl 1, .sl 2, .sl 3, .sl 4])]⟩,inv:=fun k=>k≤O.length∧Kx O s=Vm (fun x=>x.1.toList==s.toList) (O.drop k) k,mu:=fun k=>O.length-k}
def Kl2 (a:Nat) (b:List Ord) (c:Bt):=a≤List.length b∧Kx b c=Vm (fun(x:Ord)=>Lb x.1 c) (List.drop a b) a
theorem K50:Ok Tryz.prog 86 Ktd:=okW K49 Tryz.f86 (fun xx=>Xh (J55 xx.1.1 xx.1.2.1 xx.1.2.2.1 xx.1.2.2.2.1 xx.1.2.2.2.2.1 xx.1.2.2.2.2.2.1 xx.1.2.2.2.2.2.2 xx.2.1)) fun xx=>by
 obtain⟨⟨(tk:Int),(st:Int),(S:List Sta),(O:List Ord),(M:List Met),(X:List Out),(Q:List Per)⟩,(s:ByteArray),_⟩:=xx
 refine(by kernel_rfl:(Z47 O→∃(x:Nat),Jx5 s x S O M X Q tk st∧Kl2 x O s∧∀(x:Nat),Kl2 x O s→Br (decide (Nc x<Ln O)) (Tw (Bd (Nc x) (Ln O))∧Br (Lb (J6h O x) s) (Nc x=Kx O s) (Z14 x∧∃(y:Nat),Jx4 s x y S O M X Q tk st∧Kl2 y O s∧J3a O y x)) (Z67=Kx O s))=_).mp ?_
 delta Z14 Z47 Z66 Z67 V9 J3a Jdv Kah J6h Kl2 Joj Jx5 Jx4 Br Iw Bd Tw Sf Si Ln Nc B0 Lb
 intro hb
 refine⟨(0:Nat),by(repeat' first|exact rfl|exact⟨⟩|apply And.intro|omega|dsimp only;omega),⟨Nat.zero_le _,rfl⟩,fun(k:Nat) hk=>⟨fun h=> ?_,fun h=> ?_⟩⟩
 ·have hlt:k<O.length:=by simpa using h
  have hd:=V5 (p:=fun x=>x.1.toList==s.toList) (d:=Jl) hlt
  refine⟨by omega,fun h1=> ?_,fun h1=>⟨by omega,(k+1:Nat),by(repeat' first|exact rfl|exact⟨⟩|apply And.intro|omega|dsimp only;omega),⟨by omega, ?_⟩,by omega⟩⟩
  ·rw[hk.2,hd,if_pos (show((O.getD k Jl).1.toList==s.toList)=true from h1)]
  ·rw[hk.2,hd,if_neg (by rw[show((O.getD k Jl).1.toList==s.toList)=false from h1];simp)]
 ·have hlt:¬k<O.length:=by simpa using h
  have:k=O.length:=by omega
  rw[hk.2,this,List.drop_length];rfl
abbrev K48:=K49.add K50
def Ktc:Con:={args:=[Yp,aS],ress:=[I],owns:=[],pre:=fun((_,_,_,_,_,L,_),_)=>[L.length≤1000000],spec:=fun((_,_,_,_,_,L,_),s,_)=>(J7 L s,())}
abbrev J54 (tk st:Int) (S:List Sta) (O:List Ord) (M:List Met) (X:List Out) (Q:List Per) (s:ByteArray):Ann:={X:=Nat,σ:=fun k=>⟨6,[(1, .one (.str s)),(2, .one (.ptr 5 0)),(5, .one (.int .i64 k))],[(0, .imm 114 L5 S),(1, .imm 119 Zx O),(2, .imm 121 Dd M),(3, .imm 123 Xp X),(4, .imm 125 X7 Q),(5, .box 37 [.int .i64 tk, .int .i64 st, .sl 0, .sl 1, .sl 2, .sl 3, .sl 4])]⟩,inv:=fun k=>k≤X.length∧J7 X s=Vm (fun x=>x.1.toList==s.toList) (X.drop k) k,mu:=fun k=>X.length-k}
def Kl5 (a:Nat) (b:List Out) (c:Bt):=a≤List.length b∧J7 b c=Vm (fun(x:Out)=>Lb x.1 c) (List.drop a b) a
theorem K5z:Ok Tryz.prog 87 Ktc:=okW K48 Tryz.f87 (fun xx=>Xh (J54 xx.1.1 xx.1.2.1 xx.1.2.2.1 xx.1.2.2.2.1 xx.1.2.2.2.2.1 xx.1.2.2.2.2.2.1 xx.1.2.2.2.2.2.2 xx.2.1)) fun xx=>by
 obtain⟨⟨(tk:Int),(st:Int),(S:List Sta),(O:List Ord),(M:List Met),(X:List Out),(Q:List Per)⟩,(s:ByteArray),_⟩:=xx
 refine(by kernel_rfl:(Z59 X→∃(x:Nat),Jx5 s x S O M X Q tk st∧Kl5 x X s∧∀(x:Nat),Kl5 x X s→Br (Z86 x X) (Tw (Z22 x X)∧Br (Lb (J03 X x) s) (Nc x=J7 X s) (Z14 x∧∃(y:Nat),Jx4 s x y S O M X Q tk st∧Kl5 y X s∧Jyd X y x)) (Z67=J7 X s))=_).mp ?_
 delta Z14 Z22 Z59 Z67 Z86 V9 Jgb Jyd J04 J03 Kl5 Joj Jx5 Jx4 Br Iw Bd Tw Sf Si Ln Nc B0 Lb
 intro hb
 refine⟨(0:Nat),by(repeat' first|exact rfl|exact⟨⟩|apply And.intro|omega|dsimp only;omega),⟨Nat.zero_le _,rfl⟩,fun(k:Nat) hk=>⟨fun h=> ?_,fun h=> ?_⟩⟩
 ·have hlt:k<X.length:=by simpa using h
  have hd:=V5 (p:=fun x=>x.1.toList==s.toList) (d:=Jbd) hlt
  refine⟨by omega,fun h1=> ?_,fun h1=>⟨by omega,(k+1:Nat),by(repeat' first|exact rfl|exact⟨⟩|apply And.intro|omega|dsimp only;omega),⟨by omega, ?_⟩,by omega⟩⟩
  ·rw[hk.2,hd,if_pos (show((X.getD k Jbd).1.toList==s.toList)=true from h1)]
  ·rw[hk.2,hd,if_neg (by rw[show((X.getD k Jbd).1.toList==s.toList)=false from h1];simp)]
 ·have hlt:¬k<X.length:=by simpa using h
  have:k=X.length:=by omega
  rw[hk.2,this,List.drop_length];rfl
abbrev K47:=K48.add K5z
def Ktb:Con:={args:=[Yp,aS],ress:=[I],owns:=[],pre:=fun((_,_,_,_,_,_,L),_)=>[L.length≤1000000],spec:=fun((_,_,_,_,_,_,L),s,_)=>(U0 L s,())}
abbrev J53 (tk st:Int) (S:List Sta) (O:List Ord) (M:List Met) (X:List Out) (Q:List Per) (s:ByteArray):Ann:={X:=Nat,σ:=fun k=>⟨6,[(1, .one (.str s)),(2, .one (.ptr 5 0)),(5, .one (.int .i64 k))],[(0, .imm 114 L5 S),(1, .imm 119 Zx O),(2, .imm 121 Dd M),(3, .imm 123 Xp X),(4, .imm 125 X7 Q),(5, .box 37 [.int .i64 tk, .int .i64 st, .sl 0, .sl 1, .sl 2, .sl 3, .sl 4])]⟩,inv:=fun k=>k≤Q.length∧U0 Q s=Vm (fun x=>x.1.toList==s.toList) (Q.drop k) k,mu:=fun k=>Q.length-k}
def Kl4 (a:Nat) (b:List Per) (c:Bt):=a≤List.length b∧U0 b c=Vm (fun(x:Per)=>Lb x.1 c) (List.drop a b) a
theorem K5y:Ok Tryz.prog 88 Ktb:=okW K47 Tryz.f88 (fun xx=>Xh (J53 xx.1.1 xx.1.2.1 xx.1.2.2.1 xx.1.2.2.2.1 xx.1.2.2.2.2.1 xx.1.2.2.2.2.2.1 xx.1.2.2.2.2.2.2 xx.2.1)) fun xx=>by
 obtain⟨⟨(tk:Int),(st:Int),(S:List Sta),(O:List Ord),(M:List Met),(X:List Out),(Q:List Per)⟩,(s:ByteArray),_⟩:=xx
 refine(by kernel_rfl:(Z45 Q→∃(x:Nat),Jx5 s x S O M X Q tk st∧Kl4 x Q s∧∀(x:Nat),Kl4 x Q s→Br (Jyk x Q) (Tw (Bd (Nc x) (Ln Q))∧Br (Lb (List.getD Q x (B0,B0,false)).1 s) (Nc x=U0 Q s) (Z14 x∧∃(y:Nat),Jx4 s x y S O M X Q tk st∧Kl4 y Q s∧J09 Q y x)) (Z67=U0 Q s))=_).mp ?_
 delta Z14 Z45 Z67 Jyk V9 J09 Kl4 Joj Jx5 Jx4 Br Iw Bd Tw Sf Si Ln Nc B0 Lb
 intro hb
 refine⟨(0:Nat),by(repeat' first|exact rfl|exact⟨⟩|apply And.intro|omega|dsimp only;omega),⟨Nat.zero_le _,rfl⟩,fun(k:Nat) hk=>⟨fun h=> ?_,fun h=> ?_⟩⟩
 ·have hlt:k<Q.length:=by simpa using h
  have hd:=V5 (p:=fun x=>x.1.toList==s.toList) (d:=Jiy) hlt
  refine⟨by omega,fun h1=> ?_,fun h1=>⟨by omega,(k+1:Nat),by(repeat' first|exact rfl|exact⟨⟩|apply And.intro|omega|dsimp only;omega),⟨by omega, ?_⟩,by omega⟩⟩
  ·rw[hk.2,hd,if_pos (show((Q.getD k Jiy).1.toList==s.toList)=true from h1)]
  ·rw[hk.2,hd,if_neg (by rw[show((Q.getD k Jiy).1.toList==s.toList)=false from h1];simp)]
 ·have hlt:¬k<Q.length:=by simpa using h
  have:k=Q.length:=by omega
  rw[hk.2,this,List.drop_length];rfl
abbrev K46:=K47.add K5y
def atS (r:Reg) (c:Int) (s:ByteArray):Int:=bif c==115 then Jx r.2.2.1 s else bif c==111 then Kx r.2.2.2.1 s else bif c==120 then J7 r.2.2.2.2.2.1 s else U0 r.2.2.2.2.2.2 s
def cAt:Con:={args:=[Yp, .val false (.int .u8),aS],ress:=[I],owns:=[],pre:=fun(r,_)=>[Jj r],spec:=fun(r,c,s,_)=>(atS r c s,())}
theorem Kp3:Ok Tryz.prog 192 cAt:=okW K46 Tryz.f192 na fun xx=>by
 obtain⟨⟨(tk:Int),(st:Int),(S:List Sta),(O:List Ord),(M:List Met),(X:List Out),(Q:List Per)⟩,(c:Int),(s:ByteArray),_⟩:=xx
 refine(by kernel_rfl:(Jr tk st S O M X Q→Br (c==115) (Z46 S∧Jx S s=atS (Z61 tk st S O M X Q) c s) (Br (c==111) (Z47 O∧Kx O s=atS (Z61 tk st S O M X Q) c s) (Br (c==120) (Z59 X∧J7 X s=atS (Z61 tk st S O M X Q) c s) (Z45 Q∧U0 Q s=atS (Z61 tk st S O M X Q) c s))))=_).mp ?_
 delta Z45 Z46 Z47 Z59 Z61 Jr Br
 intro hr
 have nS:S.length≤6:=hr.nS
 have nO:O.length≤32:=hr.nO
 have nX:X.length≤16:=hr.nX
 have nQ:Q.length≤16:=hr.nQ
 unfold atS
 repeat' first|(refine⟨fun h=> ?_,fun h=> ?_⟩)|(rw[h];clear h)
 all_goals exact⟨by omega,rfl⟩
abbrev K45:=K46.add Kp3
theorem Kqb:Ok Tryz.prog 181 Jv1:=okW K45 Tryz.f181 na fun xx=>by
 obtain⟨⟨(a:Int),(b:Int)⟩,(h:Int),_⟩:=xx
 refine(by kernel_rfl:((bif decide (a≤h) then decide (h<b) else false)=Kq (a,b) h)=_).mp ?_
 rfl
abbrev K44:=K45.add Kqb
def Jr5:Con:={args:=[.val true Zx,aI],ress:=[Bo],owns:=[],pre:=fun(x,_)=>[-1≤x.2.2.2.2.2.2],spec:=fun(x,h,_)=>(Jo x h,())}
def Khv (a:Int):=Z67≤a
theorem Kr2:Ok Tryz.prog 103 Jr5:=okW K44 Tryz.f103 na fun xx=>by
 obtain⟨⟨(n:ByteArray),(f:ByteArray),(t:ByteArray),⟨(a:Int),(b:Int)⟩,(p:Int),(c:Int),(r:Int)⟩,(h:Int),_⟩:=xx
 refine(by kernel_rfl:(Khv r→(bif Kq (a,b) h then bif decide (r<0) then true else decide (h<r) else false)=Jo (n,f,t,(a,b),p,c,r) h)=_).mp ?_
 delta Z67 Khv
 intro hr
 unfold Jo
 have:(r== -1)=decide (r<0):=by
  by_cases q:r= -1
  ·rw[q];rfl
  ·rw[beq_eq_false_iff_ne.2 q,decide_eq_false (by(first|omega|dsimp only;omega))]
 dsimp only
 rw[this]
abbrev K43:=K44.add Kr2
def K7u:Con:={args:=[Yp,aS,aI],ress:=[I],owns:=[],pre:=fun(r,s,_)=>[Jj r,0≤Jx r.2.2.1 s],spec:=fun((_,_,S,_,_,X,_),s,h,_)=>(Jgq X s h (Hq S s).2.1,())}
abbrev Kd5 (tk st:Int) (S:List Sta) (O:List Ord) (M:List Met) (X:List Out) (Q:List Per) (s:ByteArray) (h:Int):Ann:={X:=Nat×Int,σ:=fun(k,n)=>⟨6,[(1, .one (.str s)),(2, .one (.int .i64 h)),(3, .one (.ptr 5 0)),(7, .one (.int .i64 n)),(8, .one (.int .i64 k))],[(0, .imm 114 L5 S),(1, .imm 119 Zx O),(2, .imm 121 Dd M),(3, .imm 123 Xp X),(4, .imm 125 X7 Q),(5, .box 37 [.int .i64 tk, .int .i64 st, .sl 0, .sl 1, .sl 2, .sl 3, .sl 4])]⟩,inv:=fun(k,n)=>k≤X.length∧Jgq (X.drop k) s h n=Jgq X s h (Hq S s).2.1,mu:=fun(k,_)=>X.length-k}
def Klu (a:Nat×Int) (b:List Out) (c:Bt) (d:Int) (e:List Sta):=a.1≤List.length b∧Jgq (List.drop a.1 b) c d a.2=Jgq b c d (Hq e c).2.1
def Kx0 (a:Nat×Int) (b:List Out) (c:Bt) (d:Int) (e:List Sta) (f:Nat×Int):=Klu a b c d e∧List.length b-a.1<List.length b-f.1
def J9q (a b:Nat×Int) (c:List Sta) (d:List Ord) (e:List Met) (f:List Out) (g:List Per) (h i:Int):=a.2=b.2∧Joi a b c d e f g h i
theorem Kr5:Ok Tryz.prog 100 K7u:=okW K43 Tryz.f100 (fun xx=>Xh (Kd5 xx.1.1 xx.1.2.1 xx.1.2.2.1 xx.1.2.2.2.1 xx.1.2.2.2.2.1 xx.1.2.2.2.2.2.1 xx.1.2.2.2.2.2.2 xx.2.1 xx.2.2.1)) fun xx=>by
 obtain⟨⟨(tk:Int),(st:Int),(S:List Sta),(O:List Ord),(M:List Met),(X:List Out),(Q:List Per)⟩,(s:ByteArray),(h:Int),_⟩:=xx
 refine(by kernel_rfl:(Jr tk st S O M X Q→Z23 S s→(Z46 S∧Tw (Bd (Jx S s) (Ln S)))∧∃(x:Nat×Int),Sf s (Si h ((Khh S s).2.1=x.2∧Jsv x S O M X Q tk st))∧Klu x X s h S∧∀(x:Nat×Int),Klu x X s h S→Br (decide (Nc x.1<Ln X)) (Tw (Bd (Nc x.1) (Ln X))∧Br (bif bif Lb (Kav X x).1 s then Kq (Kmx X x) h else false then decide (Kar X x<x.2) else false) (Z40 x∧∃(y:Nat×Int),Sf s (Si h (Kar X x=y.2∧Joi x y S O M X Q tk st))∧Kx0 y X s h S x) (Z40 x∧∃(y:Nat×Int),Sf s (Si h (J9q x y S O M X Q tk st))∧Kx0 y X s h S x)) (x.2=Jgq X s h (Hq S s).2.1))=_).mp ?_
 delta Z11 Z23 Z40 Z46 Z61 Jmn Jr Jgb Khh Kav Kar Kmx Klu Joj Jsv Kx0 Joi J9q Br Iw Bd Tw Sf Si Ln Nc Gt B0 Lb E2
 intro hr hf
 have nS:S.length≤6:=hr.nS
 have nX:X.length≤16:=hr.nX
 have hl:=K2 (l:=S) (s:=s)
 refine⟨⟨by omega,⟨hf,hl⟩,hf,hl⟩,((0:Nat),(Hq S s).2.1),by(repeat' first|exact rfl|exact⟨⟩|apply And.intro|omega|dsimp only;omega),⟨Nat.zero_le _,rfl⟩,fun(x:Nat×Int) hk=>⟨fun h1=> ?_,fun h1=> ?_⟩⟩
 ·obtain⟨k,n⟩:=x
  have hlt:k<X.length:=by simpa using h1
  obtain⟨k1,k2⟩:=hk
  rw[Jt (d:=Jbd) hlt,Jgq] at k2
  have hz:((({data:={toList:=[]}}:ByteArray),({data:={toList:=[]}}:ByteArray),((0:Int),(0:Int)),(0:Int)):Out)=Jbd:=rfl
  dsimp only at k1 k2
  simp only[hz,Prod.eta]
  generalize X.getD k Jbd=y at*
  have hc:(bif bif bif y.2.1.toList==s.toList then Kq y.2.2.1 h else false then decide (y.2.2.2<n) else false then y.2.2.2 else n)=bif Jzc y s h then min n y.2.2.2 else n:=by
   unfold Jzc
   cases bif y.2.1.toList==s.toList then Kq y.2.2.1 h else false
   ·rfl
   ·by_cases q:y.2.2.2<n
    ·simp only[cond_true,decide_eq_true q];omega
    ·simp only[cond_true,decide_eq_false q,cond_false];omega
  refine⟨⟨⟨by omega,by omega⟩,by omega,by omega⟩,fun h2=>⟨⟨by omega,by omega⟩,(k+1,y.2.2.2),by(repeat' first|exact rfl|exact⟨⟩|apply And.intro|omega|dsimp only;omega),⟨by(first|omega|dsimp only;omega), ?_⟩,by(first|omega|dsimp only;omega)⟩,fun h2=>⟨⟨by omega,by omega⟩,(k+1,n),by(repeat' first|exact rfl|exact⟨⟩|apply And.intro|omega|dsimp only;omega),⟨by(first|omega|dsimp only;omega), ?_⟩,by(first|omega|dsimp only;omega)⟩⟩
  all_goals (rw[←hc] at k2;have h2:(bif bif y.2.1.toList==s.toList then Kq y.2.2.1 h else false then decide (y.2.2.2<n) else false)=_:=h2;rw[h2] at k2;exact k2)
 ·obtain⟨k,n⟩:=x
  have hlt:¬k<X.length:=by simpa using h1
  obtain⟨k1,k2⟩:=hk
  have:k=X.length:=by omega
  rw[this,List.drop_length,Jgq] at k2
  exact k2
abbrev K42:=K43.add Kr5
def Jz7:Con:={args:=[Yp,aS,aI],ress:=[I],owns:=[],pre:=fun(r,_)=>[Jj r],spec:=fun((_,_,_,O,_),s,h,_)=>(U8 O s h,())}
abbrev Jr9 (tk st:Int) (S:List Sta) (O:List Ord) (M:List Met) (X:List Out) (Q:List Per) (s:ByteArray) (h:Int):Ann:={X:=Nat×Int,σ:=fun(k,n)=>⟨6,[(1, .one (.str s)),(2, .one (.int .i64 h)),(3, .one (.ptr 5 0)),(7, .one (.int .i64 n)),(8, .one (.int .i64 k))],[(0, .imm 114 L5 S),(1, .imm 119 Zx O),(2, .imm 121 Dd M),(3, .imm 123 Xp X),(4, .imm 125 X7 Q),(5, .box 37 [.int .i64 tk, .int .i64 st, .sl 0, .sl 1, .sl 2, .sl 3, .sl 4])]⟩,inv:=fun(k,n)=>k≤O.length∧(0≤n∧n≤1000*k)∧n+U8 (O.drop k) s h=U8 O s h,mu:=fun(k,_)=>O.length-k}
def Kke (a:Nat×Int) (b:List Ord) (c:Bt) (d:Int):=a.1≤List.length b∧(0≤a.2∧a.2≤1000*Nc a.1)∧a.2+U8 (List.drop a.1 b) c d=U8 b c d
def Kwr (a:Nat×Int) (b:List Ord) (c:Bt) (d:Int) (e:Nat×Int):=Kke a b c d∧List.length b-a.1<List.length b-e.1
def Kwb (a:List Ord) (b:Nat×Int) (c:Bt):=bif J96 a b c then true else J95 a b c
theorem Kr4:Ok Tryz.prog 101 Jz7:=okW K42 Tryz.f101 (fun xx=>Xh (Jr9 xx.1.1 xx.1.2.1 xx.1.2.2.1 xx.1.2.2.2.1 xx.1.2.2.2.2.1 xx.1.2.2.2.2.2.1 xx.1.2.2.2.2.2.2 xx.2.1 xx.2.2.1)) fun xx=>by
 obtain⟨⟨(tk:Int),(st:Int),(S:List Sta),(O:List Ord),(M:List Met),(X:List Out),(Q:List Per)⟩,(s:ByteArray),(h:Int),_⟩:=xx
 refine(by kernel_rfl:(Jr tk st S O M X Q→∃(x:Nat×Int),Sf s (Si h (0=x.2∧Jsv x S O M X Q tk st))∧Kke x O s h∧∀(x:Nat×Int),Kke x O s h→Br (decide (Nc x.1<Ln O)) (Tw (Bd (Nc x.1) (Ln O))∧(Kwb O x s=true→Z67≤(Kgn O x).2)∧Br (bif Kwb O x s then Kid O x h else false) (Klg x O∧Z40 x∧∃(y:Nat×Int),Sf s (Si h (Kld x O y∧Joi x y S O M X Q tk st))∧Kwr y O s h x) (Z40 x∧∃(y:Nat×Int),Sf s (Si h (J9q x y S O M X Q tk st))∧Kwr y O s h x)) (x.2=U8 O s h))=_).mp ?_
 delta Z40 Z61 Z66 Z67 Jmn Jr Jdv Kae Kad Kac Kab J99 Kgr Kgo Kgn Kgm J96 J95 Klp Klg Kld Joj Jsv Kke Joi J9q Kwr Kwb J59 Kid Br Iw Bd Tw Sf Si Ln Nc B0 Lb E2
 intro hr
 have nO:O.length≤32:=hr.nO
 refine⟨((0:Nat),(0:Int)),by(repeat' first|exact rfl|exact⟨⟩|apply And.intro|omega|dsimp only;omega),⟨Nat.zero_le _,by omega,by simp⟩,fun(x:Nat×Int) hk=>⟨fun h1=> ?_,fun h1=> ?_⟩⟩
 ·obtain⟨k,n⟩:=x
  have hlt:k<O.length:=by simpa using h1
  obtain⟨k1,k2,k3⟩:=hk
  have hO:=hr.ord _ (Jc (d:=Jl) hlt)
  rw[Jt (d:=Jl) hlt,U8] at k3
  have hz:((({data:={toList:=[]}}:ByteArray),({data:={toList:=[]}}:ByteArray),({data:={toList:=[]}}:ByteArray),((0:Int),(0:Int)),(0:Int),(0:Int),(0:Int)):Ord)=Jl:=rfl
  dsimp only at k1 k2 k3
  simp only[hz,Prod.eta]
  generalize O.getD k Jl=y at*
  have hp:=hO.pow
  have ht:=hO.trip
  refine⟨⟨⟨by omega,by omega⟩,by omega,by omega⟩,fun _=>by omega,fun h2=>⟨⟨by omega,by omega⟩,⟨by omega,by omega⟩,(k+1,n+y.2.2.2.2.1),by(repeat' first|exact rfl|exact⟨⟩|apply And.intro|omega|dsimp only;omega),⟨by(first|omega|dsimp only;omega),by(first|omega|dsimp only;omega), ?_⟩,by(first|omega|dsimp only;omega)⟩,fun h2=>⟨⟨by omega,by omega⟩,(k+1,n),by(repeat' first|exact rfl|exact⟨⟩|apply And.intro|omega|dsimp only;omega),⟨by(first|omega|dsimp only;omega),by(first|omega|dsimp only;omega), ?_⟩,by(first|omega|dsimp only;omega)⟩⟩
  all_goals (have h2:(bif Fs y s then Jo y h else false)=_:=h2;rw[h2] at k3;simp only[cond_true,cond_false] at k3;(first|omega|dsimp only;omega))
 ·obtain⟨k,n⟩:=x
  have hlt:¬k<O.length:=by simpa using h1
  obtain⟨k1,k2,k3⟩:=hk
  have:k=O.length:=by omega
  rw[this,List.drop_length,U8] at k3
  exact(Int.add_zero n).symm.trans k3
abbrev K41:=K42.add Kr4
def J4z:Con:={args:=[Yp,aS,aI],ress:=[I],owns:=[],pre:=fun(r,s,_)=>[Jj r,0≤Jx r.2.2.1 s],spec:=fun((_,_,S,O,_,X,_),s,h,_)=>(Xl S O X s h,())}
theorem Jvy {S:List Sta} {s:ByteArray} {h:Int}:∀{X:List Out} {n:Int},(∀x∈X,Jop S x)→0≤n∧n≤1000→0≤Jgq X s h n∧Jgq X s h n≤1000
 |[],_,_,hn=>hn
 |x::l,n,hX,hn=>by
  have hx:=(hX x (List.mem_cons_self ..)).rest
  unfold Jgq
  refine Jvy (fun y hy=>hX y (List.mem_cons_of_mem _ hy)) ?_
  cases Jzc x s h<;>simp only[cond_true,cond_false]<;>omega
theorem K6z:Ok Tryz.prog 28 J4z:=okW K41 Tryz.f28 na fun xx=>by
 obtain⟨⟨(tk:Int),(st:Int),(S:List Sta),(O:List Ord),(M:List Met),(X:List Out),(Q:List Per)⟩,(s:ByteArray),(h:Int),_⟩:=xx
 refine(by kernel_rfl:(Jr tk st S O M X Q→Z23 S s→(Jr tk st S O M X Q∧Z23 S s∧Jr tk st S O M X Q∧Iw (Jgq X s h (Hq S s).2.1-U8 O s h))∧Jgq X s h (Hq S s).2.1-U8 O s h=Xl S O X s h)=_).mp ?_
 delta Z23 Z61 Jr Iw
 intro hr hf
 have h1:=Jil hr.sta hf
 have h2:=Jvy (s:=s) (h:=h) hr.out (n:=(Hq S s).2.1) ⟨Int.le_trans (by decide) h1.lim.1,h1.lim.2⟩
 have h3:=Jjd (s:=s) (h:=h) hr.ord
 have nO:O.length≤32:=hr.nO
 dsimp only at h2 h3
 exact⟨⟨hr,hf,hr,by omega,by omega⟩,rfl⟩
abbrev K40:=K41.add K6z
def Xs (M:List Met) (s:ByteArray) (h:Int):Met×Bool:=if 0≤Kv M s h then(F1 M s h,true) else(Jhf,false)
def Ksw:Con:={args:=[Yp,aS,aI],ress:=[(true,Dd),Bo],owns:=[],pre:=fun(r,_)=>[Jj r],spec:=fun((_,_,_,_,M,_),s,h,_)=>((Xs M s h).1,(Xs M s h).2,())}
abbrev J5x (tk st:Int) (S:List Sta) (O:List Ord) (M:List Met) (X:List Out) (Q:List Per) (s:ByteArray) (h:Int):Ann:={X:=Nat,σ:=fun k=>⟨7,[(1, .one (.str s)),(2, .one (.int .i64 h)),(3, .one (.ptr 5 0)),(6, .one (.ptr 6 0)),(8, .one (.int .i64 k))],[(0, .imm 114 L5 S),(1, .imm 119 Zx O),(2, .imm 121 Dd M),(3, .imm 123 Xp X),(4, .imm 125 X7 Q),(5, .box 37 [.int .i64 tk, .int .i64 st, .sl 0, .sl 1, .sl 2, .sl 3, .sl 4]),(6, .box 121 [.str Ja, .int .i64 0, .int .i64 0, .int .i64 0])]⟩,inv:=fun k=>k≤M.length∧Kv M s h=Vm (fun x=>bif x.1.toList==s.toList then x.2.1==h else false) (M.drop k) k,mu:=fun k=>M.length-k}
def Kkw (a:Nat) (b:List Met) (c:Bt) (d:Int):=a≤List.length b∧Kv b c d=Vm (fun(x:Met)=>bif Lb x.1 c then x.2.1==d else false) (List.drop a b) a
theorem Kr3:Ok Tryz.prog 102 Ksw:=okW K40 Tryz.f102 (fun xx=>Xh (J5x xx.1.1 xx.1.2.1 xx.1.2.2.1 xx.1.2.2.2.1 xx.1.2.2.2.2.1 xx.1.2.2.2.2.2.1 xx.1.2.2.2.2.2.2 xx.2.1 xx.2.2.1)) fun xx=>by
 obtain⟨⟨(tk:Int),(st:Int),(S:List Sta),(O:List Ord),(M:List Met),(X:List Out),(Q:List Per)⟩,(s:ByteArray),(h:Int),_⟩:=xx
 refine(by kernel_rfl:(Jr tk st S O M X Q→∃(x:Nat),Sf s (Si h (0=Nc x∧Sf S (Sf O (Sf M (Sf X (Sf Q (Si tk (Si st (B0=Ja∧Si 0 Z29)))))))))∧Kkw x M s h∧∀(x:Nat),Kkw x M s h→Br (decide (Nc x<Ln M)) (Tw (Bd (Nc x) (Ln M))∧Br (bif Lb (Khg M x).1 s then(Khe M x).1==h else false) (Kjn M x=(Xs M s h).1∧true=(Xs M s h).2) (Z14 x∧∃(y:Nat),Sf s (Si h (V9 x y∧Sf S (Sf O (Sf M (Sf X (Sf Q (Si tk (Si st (Sf Ja (Si 0 Z29))))))))))∧Kkw y M s h∧List.length M-y<List.length M-x)) (Js1=(Xs M s h).1∧false=(Xs M s h).2))=_).mp ?_
 delta Z14 Z29 Z61 Z66 V9 Js1 Jr Khg Khe Kkw Kjn Br Iw Bd Tw Sf Si Ln Nc B0 Lb E2
 intro hr
 have nM:M.length≤10000:=hr.nM
 refine⟨(0:Nat),by(repeat' first|exact rfl|exact⟨⟩|apply And.intro|omega|dsimp only;omega),⟨Nat.zero_le _,rfl⟩,fun(k:Nat) hk=>⟨fun h1=> ?_,fun h1=> ?_⟩⟩
 ·have hlt:k<M.length:=by simpa using h1
  obtain⟨k1,k2⟩:=hk
  have hd:=V5 (p:=fun x=>bif x.1.toList==s.toList then x.2.1==h else false) (d:=Jhf) hlt
  have hz:((({data:={toList:=[]}}:ByteArray),(0:Int),(0:Int),(0:Int)):Met)=Jhf:=rfl
  simp only[hz,Prod.eta]
  refine⟨⟨⟨by omega,by omega⟩,by omega,by omega⟩,fun h2=> ?_,fun h2=>⟨⟨by omega,by omega⟩,(k+1:Nat),by(repeat' first|exact rfl|exact⟨⟩|apply And.intro|omega|dsimp only;omega),⟨by omega, ?_⟩,by omega⟩⟩
  ·have h2:(bif (M.getD k Jhf).1.toList==s.toList then(M.getD k Jhf).2.1==h else false)=true:=h2
   have e:Kv M s h=k:=by rw[k2,hd,if_pos h2]
   have e2:Xs M s h=(M.getD k Jhf,true):=by
    unfold Xs
    rw[if_pos (by omega)]
    unfold F1
    rw[e];rfl
   rw[e2]
   repeat' first|exact rfl|exact⟨⟩|apply And.intro|omega|dsimp only;omega
  ·have h2:(bif (M.getD k Jhf).1.toList==s.toList then(M.getD k Jhf).2.1==h else false)=false:=h2
   rw[k2,hd,if_neg (by rw[h2];simp)]
 ·have hlt:¬k<M.length:=by simpa using h1
  obtain⟨k1,k2⟩:=hk
  have:k=M.length:=by omega
  rw[this,List.drop_length,Vm] at k2
  have e2:Xs M s h=(Jhf,false):=by
   unfold Xs
   rw[if_neg (by omega)]
  rw[e2]
  repeat' first|exact rfl|exact⟨⟩|apply And.intro|omega|dsimp only;omega
abbrev K4z:=K40.add Kr3
def Jao (st:Int) (M:List Met) (x:Ord) (h:Int):Met×Bool:=bif bif decide (st≤h) then true else !Jo x h then(Jhf,false) else Xs M x.1 h
def Kcl:Con:={args:=[Yp, .val true Zx,aI],ress:=[(true,Dd),Bo],owns:=[],pre:=fun(r,x,_)=>[Jj r,-1≤x.2.2.2.2.2.2],spec:=fun((_,st,_,_,M,_),x,h,_)=>((Jao st M x h).1,(Jao st M x h).2,())}
theorem K51:Ok Tryz.prog 85 Kcl:=okW K4z Tryz.f85 na fun xx=>by
 obtain⟨⟨(tk:Int),(st:Int),(S:List Sta),(O:List Ord),(M:List Met),(X:List Out),(Q:List Per)⟩,⟨(n:ByteArray),(f:ByteArray),(t:ByteArray),⟨(a:Int),(b:Int)⟩,(p:Int),(c:Int),(r:Int)⟩,(h:Int),_⟩:=xx
 refine(by kernel_rfl:(Jr tk st S O M X Q→Khv r→(decide (st≤h)=false→Khv r)∧Br (bif decide (st≤h) then true else !Jo (n,f,t,(a,b),p,c,r) h) (Js1=(Jao st M (n,f,t,(a,b),p,c,r) h).1∧false=(Jao st M (n,f,t,(a,b),p,c,r) h).2) (Jr tk st S O M X Q∧((Xs M n h).1.1,(Xs M n h).1.2.1,E2 (Xs M n h).1.2.2)=(Jao st M (n,f,t,(a,b),p,c,r) h).1∧(Xs M n h).2=(Jao st M (n,f,t,(a,b),p,c,r) h).2))=_).mp ?_
 delta Z61 Z66 Z67 Js1 Khv Jr Br B0 E2
 intro hr ht
 refine⟨fun _=>ht,fun h2=> ?_,fun h2=>⟨hr, ?_⟩⟩
 ·have e:Jao st M (n,f,t,(a,b),p,c,r) h=(Jhf,false):=by unfold Jao;rw[show(bif decide (st≤h) then true else !Jo (n,f,t,(a,b),p,c,r) h)=true from h2];rfl
  rw[e]
  repeat' first|exact rfl|exact⟨⟩|apply And.intro|omega|dsimp only;omega
 ·have e:Jao st M (n,f,t,(a,b),p,c,r) h=Xs M n h:=by unfold Jao;rw[show(bif decide (st≤h) then true else !Jo (n,f,t,(a,b),p,c,r) h)=false from h2];rfl
  rw[e]
  repeat' first|exact rfl|exact⟨⟩|apply And.intro|omega|dsimp only;omega
abbrev K4y:=K4z.add K51
def J42:Con:={args:=[Yp,aI],ress:=[(false, .list 198 J3v)],owns:=[true],pre:=fun(r,_)=>[Jj r],spec:=fun((_,_,_,O,M,_),u,_)=>(Kp M u O,())}
abbrev Jww (tk st:Int) (S:List Sta) (O:List Ord) (M:List Met) (X:List Out) (Q:List Per) (u:Int):Nat→Option Ann:=fun id=>if id=0 then some {X:=Nat×List Gap,σ:=fun(k,o)=>⟨7,[(1, .one (.int .i64 u)),(2, .one (.ptr 5 0)),(5, .one (.sl 6)),(6, .one (.int .i64 k))],[(0, .imm 114 L5 S),(1, .imm 119 Zx O),(2, .imm 121 Dd M),(3, .imm 123 Xp X),(4, .imm 125 X7 Q),(5, .box 37 [.int .i64 tk, .int .i64 st, .sl 0, .sl 1, .sl 2, .sl 3, .sl 4]),(6, .own 198 J3v o)]⟩,inv:=fun(k,o)=>k≤O.length∧o.length≤48*k∧o++Kp M u (O.drop k)=Kp M u O,mu:=fun(k,_)=>O.length-k}
 else if id=2 then some {X:=Nat×List Gap×Nat,σ:=fun(k,o,j)=>⟨8,[(1, .one (.int .i64 u)),(2, .one (.ptr 5 0)),(5, .one (.sl 6)),(6, .one (.int .i64 k)),(7, .one (.ptr 7 0)),(8, .one (.int .i64 ((O.getD k Jl).2.2.2.1.1+j)))],[(0, .imm 114 L5 S),(1, .imm 119 Zx O),(2, .imm 121 Dd M),(3, .imm 123 Xp X),(4, .imm 125 X7 Q),(5, .box 37 [.int .i64 tk, .int .i64 st, .sl 0, .sl 1, .sl 2, .sl 3, .sl 4]),(6, .own 198 J3v o),(7, .box 119 (bxO (O.getD k Jl)))]⟩,inv:=fun(k,o,j)=>k<O.length∧j≤Ko (O.getD k Jl)∧o.length≤48*k+j∧o++(L9 M u (O.getD k Jl) ((O.getD k Jl).2.2.2.1.1+j) (Ko (O.getD k Jl)-j)++Kp M u (O.drop (k+1)))=Kp M u O,mu:=fun(k,_,j)=>Ko (O.getD k Jl)-j,rel:=some fun x y=>y.1=x.1}
 else none
theorem Kr9 {M:List Met} {s:ByteArray} {h:Int}:(!(Xs M s h).2)=decide (Kv M s h<0):=by
 unfold Xs
 by_cases q:0≤Kv M s h
 ·rw[if_pos q,decide_eq_false (by omega)];rfl
 ·rw[if_neg q,decide_eq_true (by omega)];rfl
def Kub (a:Nat×List (Bt×Int)×Nat) (b:List Ord) (c:List Met) (d:Int) (e:Nat×List (Bt×Int)×Nat) (f:Nat×List Gap×Nat):=(Ker a b c d∧a.1=e.1)∧Ko (List.getD b a.1 Jl)-a.2.2<Ko (List.getD b f.1 Jl)-f.2.2
def Kt1 (a:List Ord) (b:Nat×List Gap×Nat) (c:Nat×List (Bt×Int)×Nat):=J6y a b c∧J6w a b c∧J6v a b c∧J6r a b c∧J6s a b c∧J6p a b c∧J6l a b c∧J6m a b c
theorem K6y:Ok Tryz.prog 29 J42:=okW K4y Tryz.f29 (fun xx=>Jww xx.1.1 xx.1.2.1 xx.1.2.2.1 xx.1.2.2.2.1 xx.1.2.2.2.2.1 xx.1.2.2.2.2.2.1 xx.1.2.2.2.2.2.2 xx.2.1) fun xx=>by
 obtain⟨⟨(tk:Int),(st:Int),(S:List Sta),(O:List Ord),(M:List Met),(X:List Out),(Q:List Per)⟩,(u:Int),_⟩:=xx
 refine(by kernel_rfl:(Jr tk st S O M X Q→∃(x:Nat×List (ByteArray×Int)),Si u (0=Nc x.1∧Sf S (Sf O (Sf M (Sf X (Sf Q (Si tk (Si st (List.length x.2=0))))))))∧Kf6 x O M u∧∀(x:Nat×List Gap),Kkv x O M u→Br (decide (Nc x.1<Ln O)) (Tw (Bd (Nc x.1) (Ln O))∧∃(x0:Nat×List (ByteArray×Int)×Nat),Si u (Nc x.1=Nc x0.1∧Kj7 O x x0∧Sf S (Sf O (Sf M (Sf X (Sf Q (Si tk (Si st (x.2=x0.2.1∧Kgj O x x0∧Kgi O x x0∧Kf9 O x x0∧Kf4 O x x0∧Kf3 O x x0∧Kf2 O x x0∧Kfy O x x0∧Kfz O x x0))))))))∧(Ker x0 O M u∧x0.1=x0.1)∧∀(x_1:Nat×List Gap×Nat),Kir x_1 O M u∧x_1.1=x0.1→Br (Kl8 O x_1) (Jr tk st S O M X Q∧(Kau O x_1 u=true→Z67≤(Z79 O x_1).2.2)∧Br (bif bif Kau O x_1 u then Kiw O x_1 else false then !(Xs M (Z4 O x_1).1 (Jyc O x_1)).2 else false) (Km3 x_1∧Kao O x_1∧∃(y:Nat×List (ByteArray×Int)×Nat),Si u (Nc x_1.1=Nc y.1∧J93 O x_1 y∧Sf S (Sf O (Sf M (Sf X (Sf Q (Si tk (Si st (Kk7 x_1 O y∧Kt1 O x_1 y))))))))∧Kub y O M u x0 x_1) (Kao O x_1∧∃(y:Nat×List (ByteArray×Int)×Nat),Si u (Nc x_1.1=Nc y.1∧J93 O x_1 y∧Sf S (Sf O (Sf M (Sf X (Sf Q (Si tk (Si st (x_1.2.1=y.2.1∧Kt1 O x_1 y))))))))∧Kub y O M u x0 x_1)) (Iw (Nc x_1.1+1)∧∃(y:Nat×List (ByteArray×Int)),Si u (Nc x_1.1+1=Nc y.1∧Sf S (Sf O (Sf M (Sf X (Sf Q (Si tk (Si st (x_1.2.1=y.2))))))))∧Ke3 y O M u x)) (x.2=Kp M u O))=_).mp ?_
 delta Z4 Z6 Z61 Z66 Z67 Z72 Z73 Z79 Z82 Jr Jyc J6y J6w Kau J6v Kao Jdv J6s J6r J6p J6m J6l Km3 Kmk Kme Kmc Kl9 Kl8 Kl7 Kl6 Klz Kly J93 Klc Kgj Kgi Kk7 Kf9 Kf6 Kkv Kf4 Kf3 Kf2 Kfz Kfy Kj7 Ke3 Kiw Ker Kir Kub Kt1 Br Iw Bd Tw Sf Si Ln Nc B0 E2
 intro hr
 have nO:O.length≤32:=hr.nO
 have hz:((({data:={toList:=[]}}:ByteArray),({data:={toList:=[]}}:ByteArray),({data:={toList:=[]}}:ByteArray),((0:Int),(0:Int)),(0:Int),(0:Int),(0:Int)):Ord)=Jl:=rfl
 refine⟨((0:Nat),[]),by(repeat' first|exact rfl|exact⟨⟩|apply And.intro|omega|dsimp only;omega),⟨Nat.zero_le _,Nat.zero_le _,rfl⟩,fun(x:Nat×List Gap) hk=>⟨fun h1=> ?_,fun h1=> ?_⟩⟩
 ·obtain⟨k,o⟩:=x
  have hlt:k<O.length:=by simpa using h1
  obtain⟨k1,k2,k3⟩:=hk
  dsimp only at k1 k2 k3
  rw[Jt (d:=Jl) hlt,Kp,Juo] at k3
  simp only[hz,Prod.eta]
  have hO:Jca S (O.getD k Jl):=hr.ord _ (Jc (d:=Jl) hlt)
  have b0:=hO.span.lo
  have b1:=hO.span.mid
  have b2:=hO.span.hi
  have b3:=hO.span.len
  have bt:=hO.trip
  have hn:Ko (O.getD k Jl)≤48∧(Ko (O.getD k Jl):Int)=(O.getD k Jl).2.2.2.1.2-(O.getD k Jl).2.2.2.1.1:=by
   unfold Ko
   constructor<;>omega
  refine⟨⟨⟨by omega,by omega⟩,by omega,by omega⟩,(k,o,(0:Nat)),by(repeat' first|exact rfl|exact⟨⟩|apply And.intro|omega|dsimp only;omega),⟨⟨hlt,Nat.zero_le _,by(first|omega|dsimp only;omega), ?_⟩,by(repeat' first|exact rfl|exact⟨⟩|apply And.intro|omega|dsimp only;omega)⟩,fun(y:Nat×List Gap×Nat) hy=> ?_⟩
  ·dsimp only
   simpa[Ko] using k3
  obtain⟨k',o,j⟩:=y
  obtain⟨⟨i1,i2,i3,i4⟩,hkk⟩:=hy
  have hkk:k'=k:=hkk
  subst hkk
  dsimp only at i1 i2 i3 i4
  refine⟨fun h2=> ?_,fun h2=> ?_⟩
  ·have h2:(O.getD k' Jl).2.2.2.1.1+(j:Int)<(O.getD k' Jl).2.2.2.1.2:=of_decide_eq_true h2
   have hj:Ko (O.getD k' Jl)-j=(Ko (O.getD k' Jl)-(j+1))+1:=by omega
   rw[hj,L9] at i4
   have hc:(O.getD k' Jl).2.2.2.1.1+(j:Int)+1=(O.getD k' Jl).2.2.2.1.1+((j+1:Nat):Int):=by omega
   rw[hc] at i4
   have hcnd:(bif bif decide ((O.getD k' Jl).2.2.2.1.1+(j:Int)<u) then Jo (O.getD k' Jl) ((O.getD k' Jl).2.2.2.1.1+(j:Int)) else false then !(Xs M (O.getD k' Jl).1 ((O.getD k' Jl).2.2.2.1.1+(j:Int))).2 else false)=(Jo (O.getD k' Jl) ((O.getD k' Jl).2.2.2.1.1+(j:Int))&&(decide ((O.getD k' Jl).2.2.2.1.1+(j:Int)<u)&&decide (Kv M (O.getD k' Jl).1 ((O.getD k' Jl).2.2.2.1.1+(j:Int))<0))):=by
    rw[Kr9]
    cases decide ((O.getD k' Jl).2.2.2.1.1+(j:Int)<u)<;>cases Jo (O.getD k' Jl) ((O.getD k' Jl).2.2.2.1.1+(j:Int))<;>rfl
   refine⟨hr,fun _=>bt.1,fun h3=>⟨by(first|omega|dsimp only;omega),⟨by(first|omega|dsimp only;omega),by(first|omega|dsimp only;omega)⟩,(k',o++[((O.getD k' Jl).1,(O.getD k' Jl).2.2.2.1.1+(j:Int))],j+1),by(repeat' first|exact rfl|exact⟨⟩|apply And.intro|omega|dsimp only;omega),⟨⟨hlt,by(first|omega|dsimp only;omega),by(simp only[List.length_append,List.length_singleton];omega), ?_⟩,by(repeat' first|exact rfl|exact⟨⟩|apply And.intro|omega|dsimp only;omega)⟩,by(first|omega|dsimp only;omega)⟩,fun h3=>⟨⟨by(first|omega|dsimp only;omega),by(first|omega|dsimp only;omega)⟩,(k',o,j+1),by(repeat' first|exact rfl|exact⟨⟩|apply And.intro|omega|dsimp only;omega),⟨⟨hlt,by(first|omega|dsimp only;omega),by(first|omega|dsimp only;omega), ?_⟩,by(repeat' first|exact rfl|exact⟨⟩|apply And.intro|omega|dsimp only;omega)⟩,by(first|omega|dsimp only;omega)⟩⟩
   all_goals (have h3:(bif bif decide ((O.getD k' Jl).2.2.2.1.1+(j:Int)<u) then Jo (O.getD k' Jl) ((O.getD k' Jl).2.2.2.1.1+(j:Int)) else false then !(Xs M (O.getD k' Jl).1 ((O.getD k' Jl).2.2.2.1.1+(j:Int))).2 else false)=_:=h3;rw[hcnd] at h3;rw[h3] at i4;simpa using i4)
  ·have h2:¬(O.getD k' Jl).2.2.2.1.1+(j:Int)<(O.getD k' Jl).2.2.2.1.2:=of_decide_eq_false h2
   have hj:Ko (O.getD k' Jl)-j=0:=by omega
   rw[hj,L9] at i4
   exact⟨⟨by(first|omega|dsimp only;omega),by(first|omega|dsimp only;omega)⟩,(k'+1,o),by(repeat' first|exact rfl|exact⟨⟩|apply And.intro|omega|dsimp only;omega),⟨by(first|omega|dsimp only;omega),by(first|omega|dsimp only;omega),by simpa using i4⟩,by(first|omega|dsimp only;omega)⟩
 ·obtain⟨k,o⟩:=x
  have hlt:¬k<O.length:=by simpa using h1
  obtain⟨k1,k2,k3⟩:=hk
  dsimp only at k1 k2 k3
  have:k=O.length:=by omega
  rw[this,List.drop_length,Kp,List.append_nil] at k3
  exact k3
abbrev K4x:=K4y.add K6y
def Ks3:Con:={args:=[aI,aI],ress:=[I],owns:=[],pre:=fun(a,b,_)=>[0≤a∧a≤1000000000000,0≤b∧b≤1000000000000],spec:=fun(a,b,_)=>((Nat.gcd a.toNat b.toNat:Nat),())}
abbrev J50 (num den:Int):Ann:={X:=Int×Int,σ:=fun(a,b)=>⟨0,[(0, .one (.int .i64 a)),(1, .one (.int .i64 b))],[]⟩,inv:=fun(a,b)=>(0≤a∧a≤1000000000000)∧(0≤b∧b≤1000000000000)∧Nat.gcd a.toNat b.toNat=Nat.gcd num.toNat den.toNat,mu:=fun(_,b)=>b.toNat}
def Jyj (a b:Int):=Nc (Nat.gcd (Int.toNat a) (Int.toNat b))
def Kj9 (a:Int×Int) (b c:Int):=(0≤a.1∧a.1≤1000000000000)∧(0≤a.2∧a.2≤1000000000000)∧Nat.gcd (Int.toNat a.1) (Int.toNat a.2)=Nat.gcd (Int.toNat b) (Int.toNat c)
theorem Kqa:Ok Tryz.prog 182 Ks3:=okW K4x Tryz.f182 (fun xx=>Xh (J50 xx.1 xx.2.1)) fun xx=>by
 obtain⟨(num:Int),(den:Int),_⟩:=xx
 refine(by kernel_rfl:(J1d num→J1d den→∃(x:Int×Int),(num=x.1∧den=x.2)∧Kj9 x num den∧∀(x:Int×Int),Kj9 x num den→Br (Knd x) ((x.2=0→False)∧∃(y:Int×Int),(x.2=y.1∧Int.tmod x.1 x.2=y.2)∧Kj9 y num den∧Int.toNat y.2<Int.toNat x.2) (Br (decide (x.1<0)) (Iw (0-x.1)∧0-x.1=Jyj num den) (x.1=Jyj num den)))=_).mp ?_
 delta Jyj J1d Knd Kj9 Br Iw Nc
 intro h1' h2
 refine⟨(num,den),by(repeat' first|exact rfl|exact⟨⟩|apply And.intro|omega|dsimp only;omega),⟨h1',h2,rfl⟩,fun(x:Int×Int) hk=>⟨fun h1=> ?_,fun h1=> ?_⟩⟩
 ·obtain⟨a,b⟩:=x
  obtain⟨k1,k2,k4⟩:=hk
  dsimp only at k1 k2 k4 h1
  have hb:b≠0:=bne_iff_ne.1 h1
  obtain⟨A,rfl⟩:=Int.eq_ofNat_of_zero_le k1.1
  obtain⟨B,rfl⟩:=Int.eq_ofNat_of_zero_le k2.1
  have hB:0<B:=by omega
  have hm:=Nat.mod_lt A hB
  have e:((A:Int).tmod (B:Int))=((A %B:Nat):Int):=(Int.ofNat_tmod A B).symm
  refine⟨hb,((B:Int),((A %B:Nat):Int)),⟨rfl,e⟩,⟨by(first|omega|dsimp only;omega),by(first|omega|dsimp only;omega), ?_⟩, ?_⟩
  ·rw[←k4]
   simp only[Int.toNat_natCast]
   rw[Nat.gcd_comm A B,Nat.gcd_rec B A,Nat.gcd_comm]
  ·simp only[Int.toNat_natCast]
   exact hm
 ·obtain⟨a,b⟩:=x
  obtain⟨k1,k2,k4⟩:=hk
  dsimp only at k1 k2 k4 h1
  have hb:b=0:=by simpa using h1
  subst hb
  have hg:(Nat.gcd num.toNat den.toNat:Int)=a:=by rw[←k4];simp;omega
  refine⟨fun h=> ?_,fun _=>hg.symm⟩
  have h:a<0:=of_decide_eq_true h
  omega
abbrev K4w:=K4x.add Kqa
def Kni (a b:Int):=Nc (Nat.gcd (Int.toNat (0-a)) (Int.toNat (0-b)))
def K18 (a b:Int):=Int.tdiv (0-a) (Kni a b)
def K15 (a b:Int):=Int.tdiv (0-a) (Kni b a)
def K1z (a b:Int):=Kni a b=0→False
theorem Kr1:Ok Tryz.prog 105 K27:=okW K4w Tryz.f105 na fun xx=>by
 obtain⟨(num:Int),(den:Int),_⟩:=xx
 refine(by kernel_rfl:(J1d num→1≤den∧den≤1000000000000→Br (decide (den<0)) ((Iw (0-num)∧Iw (0-den))∧(((0:Int)≤0-num∧0-num≤1000000000000)∧(0:Int)≤0-den∧0-den≤1000000000000)∧(K1z num den∧Iw (K18 num den)∧K1z num den∧Iw (K15 den num))∧(K18 num den,K15 den num)=Jsq num den) ((J1d num∧J1d den)∧((Jyj num den=0→False)∧Iw (Int.tdiv num (Jyj num den))∧(Jyj num den=0→False)∧Iw (Int.tdiv den (Jyj num den)))∧(Int.tdiv num (Jyj num den),Int.tdiv den (Jyj num den))=Jsq num den))=_).mp ?_
 delta Jyj J1d Kni K18 K15 K1z Br Iw Nc
 intro h1 h2
 have hg0:0<Nat.gcd num.toNat den.toNat:=Nat.gcd_pos_of_pos_right _ (by omega)
 have d1:0≤num.tdiv (Nat.gcd num.toNat den.toNat:Nat):=Int.tdiv_nonneg h1.1 (by omega)
 have d2:num.tdiv (Nat.gcd num.toNat den.toNat:Nat)≤num:=Int.tdiv_le_self _ h1.1
 have d3:0≤den.tdiv (Nat.gcd num.toNat den.toNat:Nat):=Int.tdiv_nonneg (by omega) (by omega)
 have d4:den.tdiv (Nat.gcd num.toNat den.toNat:Nat)≤den:=Int.tdiv_le_self _ (by omega)
 refine⟨fun h=> ?_,fun h=>⟨⟨h1,by omega,by omega⟩,⟨by omega,⟨by omega,by omega⟩,by omega,by omega,by omega⟩,rfl⟩⟩
 have h:=of_decide_eq_true h
 omega
abbrev K8x:=K4w.add Kr1
abbrev K4v:=K8x
theorem Jy0 {st:Int} {M:List Met} {x:Ord} (hd:∀h,Jo x h=true→h<st→0≤Kv M x.1 h) (h:Int):Jao st M x h=bif Jo x h&&decide (h<st) then(F1 M x.1 h,true) else(Jhf,false):=by
 unfold Jao
 by_cases q:st≤h
 ·rw[decide_eq_true q,decide_eq_false (show ¬h<st by omega),Bool.and_false];rfl
 ·rw[decide_eq_false q,decide_eq_true (show h<st by omega),Bool.and_true,cond_false]
  cases hc:Jo x h with
  |false=>rfl
  |true=>
   simp only[Bool.not_true,cond_false,cond_true]
   unfold Xs
   rw[if_pos (hd h hc (by omega))]
def Jj1:Hl:=(Ja,0,0,0,0,0)
def Kdp:Con:={args:=[Yp],ress:=[(false, .list 234 D5)],owns:=[true],pre:=fun(r,_)=>[Jj r],spec:=fun((_,st,_,O,M,_),_)=>(O.map (Jv st M),())}
abbrev J0s (tk st:Int) (S:List Sta) (O:List Ord) (M:List Met) (X:List Out) (Q:List Per):Nat→Option Ann:=fun id=>if id=0 then some {X:=Nat,σ:=fun k=>⟨7,[(1, .one (.ptr 5 0)),(3, .one (.sl 6)),(4, .one (.int .i64 k))],[(0, .imm 114 L5 S),(1, .imm 119 Zx O),(2, .imm 121 Dd M),(3, .imm 123 Xp X),(4, .imm 125 X7 Q),(5, .box 37 [.int .i64 tk, .int .i64 st, .sl 0, .sl 1, .sl 2, .sl 3, .sl 4]),(6, .own 234 D5 ((O.take k).map (Jv st M)))]⟩,inv:=fun k=>k≤O.length,mu:=fun k=>O.length-k}
 else if id=2 then some {X:=Nat×Nat×Lf,σ:=fun(k,j,c,s,g,f)=>⟨9,[(1, .one (.ptr 5 0)),(3, .one (.sl 6)),(4, .one (.int .i64 k)),(5, .one (.ptr 7 0)),(6, .one (.ptr 8 0)),(7, .one (.int .i64 ((O.getD k Jl).2.2.2.1.1+j)))],[(0, .imm 114 L5 S),(1, .imm 119 Zx O),(2, .imm 121 Dd M),(3, .imm 123 Xp X),(4, .imm 125 X7 Q),(5, .box 37 [.int .i64 tk, .int .i64 st, .sl 0, .sl 1, .sl 2, .sl 3, .sl 4]),(6, .own 234 D5 ((O.take k).map (Jv st M))),(7, .box 119 (bxO (O.getD k Jl))),(8, .box 234 [.str (O.getD k Jl).1, .int .i64 c, .int .i64 s, .int .i64 g, .int .i64 (g*(O.getD k Jl).2.2.2.2.2.1), .int .i64 f])]⟩,inv:=fun(k,j,c,s,g,f)=>k<O.length∧j≤Ko (O.getD k Jl)∧bd4 j (c,s,g,f)∧Jb6 st M (O.getD k Jl) ((O.getD k Jl).2.2.2.1.1+j) (Ko (O.getD k Jl)-j) (c,s,g,f)=Ha st M (O.getD k Jl),mu:=fun(k,j,_)=>Ko (O.getD k Jl)-j,rel:=some fun x y=>y.1=x.1}
 else none
def Z16 (a:List Ord) (b:Nat×Nat×Int×Int×Int×Int):=(List.getD a b.1 Jl).2
def Z20 (a:List Ord) (b:Nat×Nat×Lf):=(List.getD a b.1 Jl).2
def Z65 (a:List Ord) (b:Nat×Nat×Int×Int×Int×Int):=(Z16 a b).2.2
def Z75 (a:List Ord) (b:Nat×Nat×Lf):=(Z20 a b).2.2.1
def Z80 (a:List Ord) (b:Nat×Nat×Lf):=(Z20 a b).2.2.2
def Kbk (a:List Ord) (b:Nat×Nat×Int×Int×Int×Int):=(Z65 a b).1.1
def J3e (a:List Ord) (b:Nat×Nat×Int×Int×Int×Int):=(Z65 a b).2.2
def J1i (a:List Ord) (b:Nat×Nat×Lf):=(Z80 a b).2
def Knn (a:List Ord) (b:Nat×Nat×Lf):=(Z75 a b).1+Nc b.2.1
def Knm (a:Nat×Nat×Int×Int×Int×Int) (b:List Ord):=a.2.2.2.2.1*(J3e b a).1
def Knl (a:Nat×Nat×Lf) (b:List Ord):=a.2.2.2.2.1*(J1i b a).1
def Khd (a:List Ord) (b:Nat×Nat×Lf) (c:Nat×Nat×Int×Int×Int×Int):=(List.getD a b.1 Jl).1=(List.getD a c.1 Jl).1
def Knh (a:List Ord) (b:Nat×Nat×Lf):=Knn a b+1
def Jx8:List (ByteArray×Int×Int×Int×Int×Int):=[]
def K1m (a:List Ord) (b:Nat):=(Kaa a b).1
def J02 (a:Int) (b:List Met) (c:List Ord):=List.map (Jv a b) c
def Kgl (a:Int) (b:List Met) (c:Nat) (d:List Ord):=List.map (Jv a b) (List.take c d)
def K0t (a:Int) (b:List Met) (c:Nat×Nat×Int×Int×Int×Int) (d:List Ord):=List.map (Jv a b) (List.take c.1 d)
def Kle (a:Int) (b:List Met) (c:Nat×Nat×Lf) (d:List Ord):=List.map (Jv a b) (List.take c.1 d)
def K0j (a:List Ord) (b:Nat×Nat×Lf) (c:Nat×Nat×Int×Int×Int×Int):=Knh a b=Kbk a c+Nc c.2.1
def Kz8 (a:List Ord) (b:Nat) (c:Nat×Nat×Int×Int×Int×Int):=J6h a b=(List.getD a c.1 Jl).1
def Kv8 (a:Int) (b:List Met) (c:Nat×Nat×Lf) (d:List Ord) (e:Nat×Nat×Int×Int×Int×Int):=Kle a b c d=K0t a b e d
def Kvr (a:Nat) (b:List Ord) (c:Nat) (d e f g h:Int) (i:List Met):=a<List.length b∧c≤Ko (List.getD b a Jl)∧bd4 (Nc c) (d,e,f,g)∧Jb6 h i (List.getD b a Jl) ((List.getD b a Jl).2.2.2.1.1+Nc c) (Ko (List.getD b a Jl)-c) (d,e,f,g)=Ha h i (List.getD b a Jl)
def Kvn (a:Int) (b:List Met) (c:List Ord) (d:Nat×Nat×Lf):=Jao a b ((List.getD c d.1 Jl).1,(Z20 c d).1,(Z20 c d).2.1,E2 (Z75 c d),(Z80 c d).1,E2 (J1i c d)) (Knn c d)
def Kvl (a:Int) (b:List Met) (c:List Ord) (d:Nat×Nat×Lf):=(Kvn a b c d).1.2.2
def Kiu (a:Int) (b:List Met) (c:List Ord) (d:Nat×Nat×Lf):=(Kvl a b c d).2
def Kvh (a:Nat×Nat×Lf) (b:Int) (c:List Met) (d:List Ord):=a.2.2.2.1+(Kvl b c d a).1
def Kvg (a:Nat×Nat×Lf) (b:Int) (c:List Met) (d:List Ord):=a.2.2.2.2.1+Kiu b c d a
def Kva (a:List Ord) (b:Nat×Nat×Lf) (c:Int) (d:List Met):=(Z80 a b).1-Kiu c d a b
def Ku8 (a:Int) (b:List Met) (c:List Ord) (d:Nat×Nat×Lf):=Kiu a b c d*(J1i c d).1
def Kuz (a:List Ord) (b:Nat×Nat×Lf) (c:Int) (d:List Met):=3*Kva a b c d
def Kuy (a:Nat×Nat×Int×Int×Int×Int) (b:List Ord) (c:Int) (d:List Met):=match a with|(k,j,c_1,s,g,f)=>Kvr k b j c_1 s g f c d
def Kus (a:Nat×Nat×Lf) (b:List Ord) (c:Int) (d:List Met):=a.2.2.2.2.2+Kuz b a c d
def Kum (a:Nat×Nat×Lf) (b:List Ord) (c:Int) (d:List Met):=Knl a b+Ku8 c d b a
def Kua (a:Nat×Nat×Int×Int×Int×Int) (b:List Ord) (c:Int) (d:List Met) (e:Nat×Nat×Int×Int×Int×Int) (f:Nat×Nat×Lf):=(Kuy a b c d∧a.1=e.1)∧Ko (List.getD b a.1 Jl)-a.2.1<Ko (List.getD b f.1 Jl)-f.2.1
theorem K6o:Ok Tryz.prog 47 Kdp:=okW K4v Tryz.f47 (fun xx=>J0s xx.1.1 xx.1.2.1 xx.1.2.2.1 xx.1.2.2.2.1 xx.1.2.2.2.2.1 xx.1.2.2.2.2.2.1 xx.1.2.2.2.2.2.2) fun xx=>by
 obtain⟨⟨(tk:Int),(st:Int),(S:List Sta),(O:List Ord),(M:List Met),(X:List Out),(Q:List Per)⟩,_⟩:=xx
 refine(by kernel_rfl:(Jr tk st S O M X Q→∃(x:Nat),(0=Nc x∧Sf S (Sf O (Sf M (Sf X (Sf Q (Si tk (Si st (List.length (Kgl st M x O)=0))))))))∧x≤List.length O∧∀(x:Nat),x≤List.length O→Br (decide (Nc x<Ln O)) (Tw (Bd (Nc x) (Ln O))∧∃(x0:Nat×Nat×Int×Int×Int×Int),(Nc x=Nc x0.1∧K1m O x=Kbk O x0+Nc x0.2.1∧Sf S (Sf O (Sf M (Sf X (Sf Q (Si tk (Si st (Kgl st M x O=K0t st M x0 O∧Kz8 O x x0∧Kgx O x=(Z16 O x0).1∧Kgu O x=(Z16 O x0).2.1∧K1m O x=Kbk O x0∧(Kaa O x).2=(Z65 O x0).1.2∧Kgp O x=(Z65 O x0).2.1∧(J98 O x).1=(J3e O x0).1∧(J98 O x).2=(J3e O x0).2∧Kz8 O x x0∧0=x0.2.2.1∧0=x0.2.2.2.1∧0=x0.2.2.2.2.1∧0=Knm x0 O∧0=x0.2.2.2.2.2))))))))∧(Kuy x0 O st M∧x0.1=x0.1)∧∀(x_1:Nat×Nat×Lf),(match x_1 with|(k,j,c,s,g,f)=>Kvr k O j c s g f st M)∧x_1.1=x0.1→Br (decide (Knn O x_1<(Z75 O x_1).2)) ((Jr tk st S O M X Q∧Z67≤(J1i O x_1).2)∧Br (Kvn st M O x_1).2 ((Iw (x_1.2.2.1+1)∧Iw (Kvh x_1 st M O)∧Iw (Kvg x_1 st M O))∧(Iw (Ku8 st M O x_1)∧Iw (Kum x_1 O st M)∧Iw (Kva O x_1 st M)∧Iw (Kuz O x_1 st M)∧Iw (Kus x_1 O st M))∧Iw (Knh O x_1)∧∃(y:Nat×Nat×Int×Int×Int×Int),(Nc x_1.1=Nc y.1∧K0j O x_1 y∧Sf S (Sf O (Sf M (Sf X (Sf Q (Si tk (Si st (Kv8 st M x_1 O y∧Khd O x_1 y∧(Z20 O x_1).1=(Z16 O y).1∧(Z20 O x_1).2.1=(Z16 O y).2.1∧(Z75 O x_1).1=Kbk O y∧(Z75 O x_1).2=(Z65 O y).1.2∧(Z80 O x_1).1=(Z65 O y).2.1∧(J1i O x_1).1=(J3e O y).1∧(J1i O x_1).2=(J3e O y).2∧Khd O x_1 y∧x_1.2.2.1+1=y.2.2.1∧Kvh x_1 st M O=y.2.2.2.1∧Kvg x_1 st M O=y.2.2.2.2.1∧Kum x_1 O st M=Knm y O∧Kus x_1 O st M=y.2.2.2.2.2))))))))∧Kua y O st M x0 x_1) (Iw (Knh O x_1)∧∃(y:Nat×Nat×Int×Int×Int×Int),(Nc x_1.1=Nc y.1∧K0j O x_1 y∧Sf S (Sf O (Sf M (Sf X (Sf Q (Si tk (Si st (Kv8 st M x_1 O y∧Khd O x_1 y∧(Z20 O x_1).1=(Z16 O y).1∧(Z20 O x_1).2.1=(Z16 O y).2.1∧(Z75 O x_1).1=Kbk O y∧(Z75 O x_1).2=(Z65 O y).1.2∧(Z80 O x_1).1=(Z65 O y).2.1∧(J1i O x_1).1=(J3e O y).1∧(J1i O x_1).2=(J3e O y).2∧Khd O x_1 y∧x_1.2.2.1=y.2.2.1∧x_1.2.2.2.1=y.2.2.2.1∧x_1.2.2.2.2.1=y.2.2.2.2.1∧Knl x_1 O=Knm y O∧x_1.2.2.2.2.2=y.2.2.2.2.2))))))))∧Kua y O st M x0 x_1)) ((List.length (Kle st M x_1 O)+1)*56≤140737488355328∧Iw (Nc x_1.1+1)∧∃(y:Nat),(Nc x_1.1+1=Nc y∧Sf S (Sf O (Sf M (Sf X (Sf Q (Si tk (Si st (Kle st M x_1 O++((List.getD O x_1.1 Jl).1,x_1.2.2.1,x_1.2.2.2.1,x_1.2.2.2.2.1,Knl x_1 O,x_1.2.2.2.2.2)::Jx8=Kgl st M y O))))))))∧y≤List.length O∧J3a O y x)) (Kgl st M x O=J02 st M O))=_).mp ?_
 delta Z16 Z20 Z61 Z65 Z66 Z67 Z75 Z80 Kbk J3e J1i Jr Knn J3a Knm Knl Khd Knh Jdv Jx8 Kah J6h Kgz Kgy Kgx Kgw Kgu Kaa Kgt K1m J98 Kgp J02 Kgl K0t Kle K0j Kz8 Kv8 Kvr Kvn Kvl Kiu Kvh Kvg Kva Ku8 Kuz Kuy Kus Kum Kua Br Iw Bd Tw Sf Si Ln Nc B0 E2
 intro hr
 have nO:O.length≤32:=hr.nO
 have hz:((({data:={toList:=[]}}:ByteArray),({data:={toList:=[]}}:ByteArray),({data:={toList:=[]}}:ByteArray),((0:Int),(0:Int)),(0:Int),(0:Int),(0:Int)):Ord)=Jl:=rfl
 refine⟨(0:Nat),by(repeat' first|exact rfl|exact⟨⟩|apply And.intro|omega|dsimp only;omega),Nat.zero_le _,fun(k:Nat) hk=>⟨fun h1=> ?_,fun h1=> ?_⟩⟩
 ·have hlt:k<O.length:=by simpa using h1
  simp only[hz,Prod.eta]
  have hO:Jca S (O.getD k Jl):=hr.ord _ (Jc (d:=Jl) hlt)
  have hd:∀h,Jo (O.getD k Jl) h=true→h<st→0≤Kv M (O.getD k Jl).1 h:=hr.done _ (Jc (d:=Jl) hlt)
  have hD:∀h,Jao st M (O.getD k Jl) h=bif Jo (O.getD k Jl) h&&decide (h<st) then(F1 M (O.getD k Jl).1 h,true) else(Jhf,false):=Jy0 hd
  have b0:=hO.span.lo
  have b1:=hO.span.mid
  have b2:=hO.span.hi
  have b3:=hO.span.len
  have bt:=hO.trip
  have bp:=hO.pow
  have bc:=hO.pri
  have hn:Ko (O.getD k Jl)≤48∧(Ko (O.getD k Jl):Int)=(O.getD k Jl).2.2.2.1.2-(O.getD k Jl).2.2.2.1.1:=by
   unfold Ko
   constructor<;>omega
  refine⟨⟨⟨by omega,by omega⟩,by omega,by omega⟩,(k,(0:Nat),0,0,0,0), ?_,⟨⟨hlt,Nat.zero_le _,by unfold bd4;simp, ?_⟩,by(repeat' first|exact rfl|exact⟨⟩|apply And.intro|omega|dsimp only;omega)⟩,fun(y:Nat×Nat×Lf) hy=> ?_⟩
  ·simp only[Int.zero_mul]
   repeat' first|exact rfl|exact⟨⟩|apply And.intro|omega|dsimp only;omega
  ·unfold Ha
   simp only[Nat.sub_zero,Int.natCast_zero,Int.add_zero]
  obtain⟨k',j,c,s,g,f⟩:=y
  obtain⟨⟨i1,i2,i3,i4⟩,hkk⟩:=hy
  have hkk:k'=k:=hkk
  subst hkk
  dsimp only at i1 i2 i3 i4
  unfold bd4 at i3
  dsimp only at i3
  refine⟨fun h2=> ?_,fun h2=> ?_⟩
  ·have h2:(O.getD k' Jl).2.2.2.1.1+(j:Int)<(O.getD k' Jl).2.2.2.1.2:=of_decide_eq_true h2
   have hj:Ko (O.getD k' Jl)-j=(Ko (O.getD k' Jl)-(j+1))+1:=by omega
   rw[hj,Jb6] at i4
   have hc:(O.getD k' Jl).2.2.2.1.1+(j:Int)+1=(O.getD k' Jl).2.2.2.1.1+((j+1:Nat):Int):=by omega
   rw[hc] at i4
   simp only[hD]
   cases hq:Jo (O.getD k' Jl) ((O.getD k' Jl).2.2.2.1.1+(j:Int))&&decide (((O.getD k' Jl).2.2.2.1.1+(j:Int))<st) with
   |false=>
    rw[hq,cond_false] at i4
    simp only[hq,cond_false]
    exact⟨⟨hr,bt.1⟩,fun h=>(by cases h),fun _=>⟨⟨by omega,by omega⟩,(k',j+1,c,s,g,f),by(repeat' first|exact rfl|exact⟨⟩|apply And.intro|omega|dsimp only;omega),⟨⟨hlt,by(first|omega|dsimp only;omega),by unfold bd4;(first|omega|dsimp only;omega),i4⟩,rfl⟩,by(first|omega|dsimp only;omega)⟩⟩
   |true=>
    rw[hq,cond_true] at i4
    simp only[hq,cond_true]
    have hq:=Bool.and_eq_true_iff.1 hq
    have hm:=hd _ hq.1 (of_decide_eq_true hq.2)
    have hl:=Jas (l:=M) (s:=(O.getD k' Jl).1) (h:=((O.getD k' Jl).2.2.2.1.1+(j:Int)))
    have hM:Jsl (F1 M (O.getD k' Jl).1 ((O.getD k' Jl).2.2.2.1.1+(j:Int))):=hr.met _ (Jc (show _<M.length by omega))
    have m1:=hM.sent
    have m2:=hM.got
    have q1:0≤(F1 M (O.getD k' Jl).1 ((O.getD k' Jl).2.2.2.1.1+(j:Int))).2.2.2*(O.getD k' Jl).2.2.2.2.2.1:=Int.mul_nonneg m2.1 bc.1
    have q2:(F1 M (O.getD k' Jl).1 ((O.getD k' Jl).2.2.2.1.1+(j:Int))).2.2.2*(O.getD k' Jl).2.2.2.2.2.1≤1000*1000:=Int.mul_le_mul (by omega) bc.2 bc.1 (by decide)
    have q3:0≤g*(O.getD k' Jl).2.2.2.2.2.1:=Int.mul_nonneg i3.2.2.1.1 bc.1
    have q4:g*(O.getD k' Jl).2.2.2.2.2.1≤48000*1000:=Int.mul_le_mul (by omega) bc.2 bc.1 (by decide)
    refine⟨⟨hr,bt.1⟩,fun _=>⟨⟨⟨by omega,by omega⟩,⟨by omega,by omega⟩,by omega,by omega⟩,⟨⟨by omega,by omega⟩,⟨by omega,by omega⟩,⟨by omega,by omega⟩,⟨by omega,by omega⟩,by omega,by omega⟩,⟨by omega,by omega⟩,(k',j+1,c+1,s+(F1 M (O.getD k' Jl).1 ((O.getD k' Jl).2.2.2.1.1+(j:Int))).2.2.1,g+(F1 M (O.getD k' Jl).1 ((O.getD k' Jl).2.2.2.1.1+(j:Int))).2.2.2,f+3*((O.getD k' Jl).2.2.2.2.1-(F1 M (O.getD k' Jl).1 ((O.getD k' Jl).2.2.2.1.1+(j:Int))).2.2.2)), ?_,⟨⟨hlt,by(first|omega|dsimp only;omega),by unfold bd4;(first|omega|dsimp only;omega),i4⟩,rfl⟩,by(first|omega|dsimp only;omega)⟩,fun h=>(by cases h)⟩
    simp only[Int.add_mul]
    repeat' first|exact rfl|exact⟨⟩|apply And.intro|omega|dsimp only;omega
  ·have h2:¬(O.getD k' Jl).2.2.2.1.1+(j:Int)<(O.getD k' Jl).2.2.2.1.2:=of_decide_eq_false h2
   have hj:Ko (O.getD k' Jl)-j=0:=by omega
   rw[hj,Jb6] at i4
   have e:Jv st M (O.getD k' Jl)=((O.getD k' Jl).1,c,s,g,g*(O.getD k' Jl).2.2.2.2.2.1,f):=by unfold Jv;rw[←i4]
   refine⟨by(simp only[List.length_map,List.length_take];omega),⟨by(first|omega|dsimp only;omega),by(first|omega|dsimp only;omega)⟩,(k'+1:Nat),⟨by simp,trivial,trivial,trivial,trivial,trivial,trivial,trivial, ?_⟩,by(first|omega|dsimp only;omega),by(first|omega|dsimp only;omega)⟩
   rw[←Us (d:=Jl) hlt,List.map_append,List.map_singleton,e]
 ·have hlt:¬k<O.length:=by simpa using h1
  rw[List.take_of_length_le (by omega)]
abbrev K4u:=K4v.add K6o
def Kdt:Con:={args:=[Yp,aS,aS],ress:=[I],owns:=[],pre:=fun(r,_)=>[Jj r],spec:=fun((_,st,_,O,M,_),a,b,_)=>(Hb st O M a b,())}
abbrev J0u (tk st:Int) (S:List Sta) (O:List Ord) (M:List Met) (X:List Out) (Q:List Per) (a b:ByteArray):Ann:={X:=Nat×Int,σ:=fun(k,n)=>⟨7,[(1, .one (.str a)),(2, .one (.str b)),(3, .one (.ptr 5 0)),(7, .one (.sl 6)),(8, .one (.int .i64 n)),(9, .one (.int .i64 k))],[(0, .imm 114 L5 S),(1, .imm 119 Zx O),(2, .imm 121 Dd M),(3, .imm 123 Xp X),(4, .imm 125 X7 Q),(5, .box 37 [.int .i64 tk, .int .i64 st, .sl 0, .sl 1, .sl 2, .sl 3, .sl 4]),(6, .own 234 D5 (O.map (Jv st M)))]⟩,inv:=fun(k,n)=>k≤O.length∧(-100000000*k≤n∧n≤100000000*k)∧Jml st M a b (O.drop k) n=Hb st O M a b,mu:=fun(k,_)=>O.length-k}
theorem Jjm {α β:Type} {f:α→β} {d:α} {d':β}:∀{l:List α} {k:Nat},k<l.length→(l.map f).getD k d'=f (l.getD k d)
 |[],_,h=>by cases h
 |x::l,0,_=>rfl
 |x::l,k+1,h=>by
  rw[List.map_cons,List.getD_cons_succ,List.getD_cons_succ]
  exact Jjm (by simpa using h)
def J05:=(B0,(0:Int),(0:Int),Z66)
def J9r (a:Int) (b:List Met) (c:List Ord):=Ln (J02 a b c)
def J6b (a:Nat×Int) (b:Int) (c:List Met) (d:List Ord):=Bd (Nc a.1) (J9r b c d)
def Kjl (a:Int) (b:List Met) (c:List Ord):=J02 a b c=J02 a b c
def Ki9 (a:List Ord) (b:Nat×Int) (c d:Bt):=bif J96 a b c then J95 a b d else false
def Kvz (a:Int) (b:List Met) (c:List Ord) (d:Nat×Int):=(List.getD (J02 a b c) d.1 J05).2.2.2.2
def Ki2 (a:Int) (b:List Met) (c:List Ord) (d:Nat×Int):=(Kvz a b c d).1
def Ki1 (a:Int) (b:List Met) (c:List Ord) (d:Nat×Int):=(Kvz a b c d).2
def Kvx (a:Nat×Int) (b:Int) (c:List Met) (d:List Ord):=a.2+Ki2 b c d a
def Kvw (a:Nat×Int) (b:Int) (c:List Met) (d:List Ord):=a.2-Ki2 b c d a
def Kve (a:List Sta) (b:List Ord) (c:List Met) (d:List Out) (e:List Per) (f g:Int):=Sf a (Sf b (Sf c (Sf d (Sf e (Si f (Si g (Kjl g c b)))))))
def Kep (a b:Nat×Int) (c:List Sta) (d:List Ord) (e:List Met) (f:List Out) (g:List Per) (h i:Int):=Jmn a b∧Kve c d e f g h i
def Kig (a:Nat×Int) (b:Int) (c:List Met) (d:List Ord):=Kvx a b c d-Ki1 b c d a
def Kt5 (a:Nat×Int) (b:Int) (c:List Met) (d:List Ord):=Kvw a b c d+Ki1 b c d a
def Ktn (a:Nat×Int) (b:Int) (c:List Met) (d:List Ord):=Kig a b c d-Ki2 b c d a
def J7y (a:Nat×Int) (b:Int) (c:List Met) (d:List Ord):=Ktn a b c d+Ki1 b c d a
theorem K6m:Ok Tryz.prog 49 Kdt:=okW K4u Tryz.f49 (fun xx=>Xh (J0u xx.1.1 xx.1.2.1 xx.1.2.2.1 xx.1.2.2.2.1 xx.1.2.2.2.2.1 xx.1.2.2.2.2.2.1 xx.1.2.2.2.2.2.2 xx.2.1 xx.2.2.1)) fun xx=>by
 obtain⟨⟨(tk:Int),(st:Int),(S:List Sta),(O:List Ord),(M:List Met),(X:List Out),(Q:List Per)⟩,(a:ByteArray),(b:ByteArray),_⟩:=xx
 refine(by kernel_rfl:(Jr tk st S O M X Q→Jr tk st S O M X Q∧∃(x:Nat×Int),Sf a (Sf b (0=x.2∧0=Nc x.1∧Kve S O M X Q tk st))∧J6c x O st M a b∧∀(x:Nat×Int),J6c x O st M a b→Br (decide (Nc x.1<J9r st M O)) (Tw (Bd (Nc x.1) (Ln O))∧Br (Ki9 O x a b) (T2 (J6b x st M O) (Iw (Kvx x st M O)∧T2 (J6b x st M O) (Iw (Kig x st M O)))∧Br (Ki9 O x b a) (T2 (J6b x st M O) (Iw (Ktn x st M O)∧T2 (J6b x st M O) (Iw (J7y x st M O)))∧Z40 x∧∃(y:Nat×Int),Sf a (Sf b (J7y x st M O=y.2∧Kep x y S O M X Q tk st))∧Jx3 y O st M a b x) (Z40 x∧∃(y:Nat×Int),Sf a (Sf b (Kig x st M O=y.2∧Kep x y S O M X Q tk st))∧Jx3 y O st M a b x)) (Br (Ki9 O x b a) (T2 (J6b x st M O) (Iw (Kvw x st M O)∧T2 (J6b x st M O) (Iw (Kt5 x st M O)))∧Z40 x∧∃(y:Nat×Int),Sf a (Sf b (Kt5 x st M O=y.2∧Kep x y S O M X Q tk st))∧Jx3 y O st M a b x) (Z40 x∧∃(y:Nat×Int),Sf a (Sf b (x.2=y.2∧Kep x y S O M X Q tk st))∧Jx3 y O st M a b x))) (x.2=Hb st O M a b))=_).mp ?_
 delta Z40 Z61 Z66 Jmn Jr J05 Jdv Kae Kad Kac Kab J99 J02 J96 J95 J9r J6c J6b Kjl Ki9 Jx3 Kvz Ki2 Ki1 Kvx Kvw Kve Kep Kig Kt5 Ktn J7y Br Iw Bd T2 Tw Sf Si Ln Nc B0 Lb
 intro hr
 have nO:O.length≤32:=hr.nO
 have hlen:(O.map (Jv st M)).length=O.length:=List.length_map _
 refine⟨hr,((0:Nat),(0:Int)),by(repeat' first|exact rfl|exact⟨⟩|apply And.intro|omega|dsimp only;omega),⟨Nat.zero_le _,by omega,rfl⟩,fun(x:Nat×Int) hk=>⟨fun h1=> ?_,fun h1=> ?_⟩⟩
 ·obtain⟨k,n⟩:=x
  have hlt:k<O.length:=by simpa[hlen] using h1
  have hx:=Jc (d:=Jl) hlt
  have hb:=Lu hr hx
  obtain⟨k1,k2,k3⟩:=hk
  rw[Jt (d:=Jl) hlt,Jml] at k3
  have m1:=hb.money
  have m2:=hb.fine
  have hz:((({data:={toList:=[]}}:ByteArray),({data:={toList:=[]}}:ByteArray),({data:={toList:=[]}}:ByteArray),((0:Int),(0:Int)),(0:Int),(0:Int),(0:Int)):Ord)=Jl:=rfl
  have hzb:((({data:={toList:=[]}}:ByteArray),(0:Int),(0:Int),(0:Int),(0:Int),(0:Int)):Hl)=Jj1:=rfl
  have hB:(O.map (Jv st M)).getD k Jj1=Jv st M (O.getD k Jl):=Jjm hlt
  dsimp only at k1 k2 k3
  simp only[hz,hzb,hB,hlen,Prod.eta]
  clear hB
  generalize O.getD k Jl=y at*
  have k3:Jml st M a b (List.drop (k+1) O) (bif Y5 y b a then(bif Y5 y a b then n+((Jv st M y).2.2.2.2.1-(Jv st M y).2.2.2.2.2) else n)-((Jv st M y).2.2.2.2.1-(Jv st M y).2.2.2.2.2) else(bif Y5 y a b then n+((Jv st M y).2.2.2.2.1-(Jv st M y).2.2.2.2.2) else n))=Hb st O M a b:=k3
  have e1:∀c d,(bif y.2.1.toList==c.toList then y.2.2.1.toList==d.toList else false)=Y5 y c d:=fun c d=>by
   unfold Y5
   cases y.2.1.toList==c.toList<;>simp
  simp only[e1]
  have fin:∀v,(bif Y5 y b a then(bif Y5 y a b then n+((Jv st M y).2.2.2.2.1-(Jv st M y).2.2.2.2.2) else n)-((Jv st M y).2.2.2.2.1-(Jv st M y).2.2.2.2.2) else(bif Y5 y a b then n+((Jv st M y).2.2.2.2.1-(Jv st M y).2.2.2.2.2) else n))=v→Jml st M a b (List.drop (k+1) O) v=Hb st O M a b:=fun v e=>e▸k3
  refine⟨by(repeat' first|apply And.intro|omega),fun h2=>⟨by(repeat' first|apply And.intro|omega),fun h3=>⟨by(repeat' first|apply And.intro|omega),by(repeat' first|apply And.intro|omega),(k+1,n+(Jv st M y).2.2.2.2.1-(Jv st M y).2.2.2.2.2-(Jv st M y).2.2.2.2.1+(Jv st M y).2.2.2.2.2),by(repeat' first|exact rfl|exact⟨⟩|apply And.intro|omega|dsimp only;omega),⟨by(first|omega|dsimp only;omega),by(first|omega|dsimp only;omega), ?_⟩,by(first|omega|dsimp only;omega)⟩,fun h3=>⟨by(repeat' first|apply And.intro|omega),(k+1,n+(Jv st M y).2.2.2.2.1-(Jv st M y).2.2.2.2.2),by(repeat' first|exact rfl|exact⟨⟩|apply And.intro|omega|dsimp only;omega),⟨by(first|omega|dsimp only;omega),by(first|omega|dsimp only;omega), ?_⟩,by(first|omega|dsimp only;omega)⟩⟩,fun h2=>⟨fun h3=>⟨by(repeat' first|apply And.intro|omega),by(repeat' first|apply And.intro|omega),(k+1,n-(Jv st M y).2.2.2.2.1+(Jv st M y).2.2.2.2.2),by(repeat' first|exact rfl|exact⟨⟩|apply And.intro|omega|dsimp only;omega),⟨by(first|omega|dsimp only;omega),by(first|omega|dsimp only;omega), ?_⟩,by(first|omega|dsimp only;omega)⟩,fun h3=>⟨by(repeat' first|apply And.intro|omega),(k+1,n),by(repeat' first|exact rfl|exact⟨⟩|apply And.intro|omega|dsimp only;omega),⟨by(first|omega|dsimp only;omega),by(first|omega|dsimp only;omega), ?_⟩,by(first|omega|dsimp only;omega)⟩⟩⟩
  all_goals (apply fin;rw[h2,h3];simp only[cond_true,cond_false];try omega)
 ·obtain⟨k,n⟩:=x
  have hlt:¬k<O.length:=by simpa[hlen] using h1
  obtain⟨k1,k2,k3⟩:=hk
  have:k=O.length:=by omega
  rw[this,List.drop_length,Jml] at k3
  exact k3
abbrev K4t:=K4u.add K6m
def Kdq:Con:={args:=[Yp,aS],ress:=[I],owns:=[],pre:=fun(r,_)=>[Jj r],spec:=fun((_,st,S,O,M,_),s,_)=>(Jma st S O M s,())}
abbrev J0t (tk st:Int) (S:List Sta) (O:List Ord) (M:List Met) (X:List Out) (Q:List Per) (s:ByteArray):Ann:={X:=Nat×Int,σ:=fun(k,n)=>⟨6,[(1, .one (.str s)),(2, .one (.ptr 5 0)),(5, .one (.int .i64 n)),(6, .one (.int .i64 k))],[(0, .imm 114 L5 S),(1, .imm 119 Zx O),(2, .imm 121 Dd M),(3, .imm 123 Xp X),(4, .imm 125 X7 Q),(5, .box 37 [.int .i64 tk, .int .i64 st, .sl 0, .sl 1, .sl 2, .sl 3, .sl 4])]⟩,inv:=fun(k,n)=>k≤S.length∧(-3200000000*k≤n∧n≤3200000000*k)∧Jr6 st O M s (S.drop k) n=Jma st S O M s,mu:=fun(k,_)=>S.length-k}
theorem K6l:Ok Tryz.prog 50 Kdq:=okW K4t Tryz.f50 (fun xx=>Xh (J0t xx.1.1 xx.1.2.1 xx.1.2.2.1 xx.1.2.2.2.1 xx.1.2.2.2.2.1 xx.1.2.2.2.2.2.1 xx.1.2.2.2.2.2.2 xx.2.1)) fun xx=>by
 obtain⟨⟨(tk:Int),(st:Int),(S:List Sta),(O:List Ord),(M:List Met),(X:List Out),(Q:List Per)⟩,(s:ByteArray),_⟩:=xx
 refine(by kernel_rfl:(Jr tk st S O M X Q→∃(x:Nat×Int),Sf s (0=x.2∧Jsv x S O M X Q tk st)∧J6d x S st O M s∧∀(x:Nat×Int),J6d x S st O M s→Br (decide (Nc x.1<Ln S)) (Tw (Bd (Nc x.1) (Ln S))∧Br (!Lb (Khm S x) s) ((Jr tk st S O M X Q∧Iw (Kal x st O M s S))∧Z40 x∧∃(y:Nat×Int),Sf s (Kal x st O M s S=y.2∧Joi x y S O M X Q tk st)∧J9m y S st O M s x) (Z40 x∧∃(y:Nat×Int),Sf s (J9q x y S O M X Q tk st)∧J9m y S st O M s x)) (x.2=Jma st S O M s))=_).mp ?_
 delta Z11 Z40 Z61 Jmn Jr Khm Kal Joj Jsv Joi J9q J6d J9m Br Iw Bd Tw Sf Si Ln Nc B0 Lb
 intro hr
 have nS:S.length≤6:=hr.nS
 refine⟨((0:Nat),(0:Int)),by(repeat' first|exact rfl|exact⟨⟩|apply And.intro|omega|dsimp only;omega),⟨Nat.zero_le _,by omega,rfl⟩,fun(x:Nat×Int) hk=>⟨fun h1=> ?_,fun h1=> ?_⟩⟩
 ·obtain⟨k,n⟩:=x
  have hlt:k<S.length:=by simpa using h1
  obtain⟨k1,k2,k3⟩:=hk
  rw[Jt (d:=Jm6) hlt,Jr6] at k3
  have hz:((({data:={toList:=[]}}:ByteArray),(0:Int),(0:Int)):Sta)=Jm6:=rfl
  dsimp only at k1 k2 k3
  simp only[hz,Prod.eta]
  generalize S.getD k Jm6=y at*
  have hb:=Jj3 (a:=s) (b:=y.1) hr
  refine⟨⟨⟨by omega,by omega⟩,by omega,by omega⟩,fun h2=>⟨⟨hr,by omega,by omega⟩,⟨by omega,by omega⟩,(k+1,n+Hb st O M s y.1),by(repeat' first|exact rfl|exact⟨⟩|apply And.intro|omega|dsimp only;omega),⟨by(first|omega|dsimp only;omega),by(first|omega|dsimp only;omega), ?_⟩,by(first|omega|dsimp only;omega)⟩,fun h2=>⟨⟨by omega,by omega⟩,(k+1,n),by(repeat' first|exact rfl|exact⟨⟩|apply And.intro|omega|dsimp only;omega),⟨by(first|omega|dsimp only;omega),by(first|omega|dsimp only;omega), ?_⟩,by(first|omega|dsimp only;omega)⟩⟩
  all_goals (have h2:(y.1.toList !=s.toList)=_:=h2;rw[h2] at k3;exact k3)
 ·obtain⟨k,n⟩:=x
  have hlt:¬k<S.length:=by simpa using h1
  obtain⟨k1,k2,k3⟩:=hk
  have:k=S.length:=by omega
  rw[this,List.drop_length,Jr6] at k3
  exact k3
abbrev K8w:=K4t.add K6l
abbrev sH3:Sch:= .prod sI (.prod sI sI)
abbrev H3:=Int×Int×Int
def Kcb (M:List Met) (h:Int) (x:Ord) (a:H3):H3:=bif Jo x h then(a.1+(F1 M x.1 h).2.2.1,a.2.1+(F1 M x.1 h).2.2.2,a.2.2+((F1 M x.1 h).2.2.2*x.2.2.2.2.2.1-3*(x.2.2.2.2.1-(F1 M x.1 h).2.2.2))) else a
def Jns (M:List Met) (h:Int):List Ord→H3→H3
 |[],a=>a
 |x::l,a=>Jns M h l (Kcb M h x a)
abbrev K4s:=K8w
def Jku:List Hl→Int×Int→Int×Int
 |[],a=>a
 |b::l,(s,g)=>Jku l (s+b.2.2.1,g+b.2.2.2.1)
def Jex (st:Int) (O:List Ord) (M:List Met):(Int×Int)×Int:=if(Jku (O.map (Jv st M)) (0,0)).1=0 then((0,0),6) else(Jsq ((Jku (O.map (Jv st M)) (0,0)).1-(Jku (O.map (Jv st M)) (0,0)).2) (Jku (O.map (Jv st M)) (0,0)).1,0)
def J44:Con:={args:=[Yp],ress:=[(true,Ho),I],owns:=[],pre:=fun(r,_)=>[Jj r],spec:=fun((_,st,_,O,M,_),_)=>((Jex st O M).1,(Jex st O M).2,())}
abbrev Jwx (tk st:Int) (S:List Sta) (O:List Ord) (M:List Met) (X:List Out) (Q:List Per):Ann:={X:=Nat×Int×Int,σ:=fun(k,s,g)=>⟨8,[(2, .one (.ptr 6 0)),(4, .one (.sl 7)),(5, .one (.int .i64 s)),(6, .one (.int .i64 g)),(7, .one (.int .i64 k))],[(0, .imm 114 L5 S),(1, .imm 119 Zx O),(2, .imm 121 Dd M),(3, .imm 123 Xp X),(4, .imm 125 X7 Q),(5, .box 37 [.int .i64 tk, .int .i64 st, .sl 0, .sl 1, .sl 2, .sl 3, .sl 4]),(6, .box 54 [.int .i64 0, .int .i64 0]),(7, .own 234 D5 (O.map (Jv st M)))]⟩,inv:=fun(k,s,g)=>k≤O.length∧(0≤s∧s≤48000*k)∧(0≤g∧g≤s)∧Jku ((O.drop k).map (Jv st M)) (s,g)=Jku (O.map (Jv st M)) (0,0),mu:=fun(k,_)=>O.length-k}
def Kks (a:Nat×Int×Int):=Iw (a.2.1-a.2.2)∧(0≤a.2.1-a.2.2∧a.2.1-a.2.2≤1000000000000)∧1≤a.2.1∧a.2.1≤1000000000000
def Kwy (a:Nat×Int×Int) (b:Int) (c:List Met) (d:List Ord):=Bd (Nc a.1) (J9r b c d)
def Kv2 (a:Int) (b:List Met) (c:List Ord) (d:Nat×Int×Int):=(List.getD (J02 a b c) d.1 J05).2.2
def Kvy (a:Nat×Int×Int) (b:Int) (c:List Met) (d:List Ord):=a.2.1+(Kv2 b c d a).1
def Kvv (a:Nat×Int×Int) (b:Int) (c:List Met) (d:List Ord):=a.2.2+(Kv2 b c d a).2.1
def Kix (a:Nat×Int×Int) (b:List Ord) (c:Int) (d:List Met):=a.1≤List.length b∧(0≤a.2.1∧a.2.1≤48000*Nc a.1)∧(0≤a.2.2∧a.2.2≤a.2.1)∧Jku (List.map (Jv c d) (List.drop a.1 b)) (E2 a.2)=Jku (List.map (Jv c d) b) (0,0)
def Ku0 (a:List Sta) (b:List Ord) (c:List Met) (d:List Out) (e:List Per) (f g:Int):=Sf a (Sf b (Sf c (Sf d (Sf e (Si f (Si g (Si 0 (Si 0 (Kjl g c b)))))))))
theorem K6n:Ok Tryz.prog 48 J44:=okW K4s Tryz.f48 (fun xx=>Xh (Jwx xx.1.1 xx.1.2.1 xx.1.2.2.1 xx.1.2.2.2.1 xx.1.2.2.2.2.1 xx.1.2.2.2.2.2.1 xx.1.2.2.2.2.2.2)) fun xx=>by
 obtain⟨⟨(tk:Int),(st:Int),(S:List Sta),(O:List Ord),(M:List Met),(X:List Out),(Q:List Per)⟩,_⟩:=xx
 refine(by kernel_rfl:(Jr tk st S O M X Q→Jr tk st S O M X Q∧∃(x:Nat×Int×Int),(0=x.2.1∧0=x.2.2∧0=Nc x.1∧Ku0 S O M X Q tk st)∧Kix x O st M∧∀(x:Nat×Int×Int),Kix x O st M→Br (decide (Nc x.1<J9r st M O)) (T2 (Kwy x st M O) (Iw (Kvy x st M O)∧T2 (Kwy x st M O) (Iw (Kvv x st M O)))∧Iw (Nc x.1+1)∧∃(y:Nat×Int×Int),(Kvy x st M O=y.2.1∧Kvv x st M O=y.2.2∧Nc x.1+1=Nc y.1∧Ku0 S O M X Q tk st)∧Kix y O st M∧List.length O-y.1<List.length O-x.1) (Br (x.2.1==0) ((0,0)=(Jex st O M).1∧6=(Jex st O M).2) (Kks x∧E2 (Jsq (x.2.1-x.2.2) x.2.1)=(Jex st O M).1∧0=(Jex st O M).2)))=_).mp ?_
 delta Z61 Z66 Jr J05 J02 Kks J9r Kwy Kjl Kv2 Kvy Kvv Kix Ku0 Br Iw Bd T2 Sf Si Ln Nc B0 E2
 intro hr
 have nO:O.length≤32:=hr.nO
 have hlen:(O.map (Jv st M)).length=O.length:=List.length_map _
 refine⟨hr,((0:Nat),0,0),by(repeat' first|exact rfl|exact⟨⟩|apply And.intro|omega|dsimp only;omega),⟨Nat.zero_le _,by(first|omega|dsimp only;omega),by(first|omega|dsimp only;omega),rfl⟩,fun(x:Nat×Int×Int) hk=>⟨fun h1=> ?_,fun h1=> ?_⟩⟩
 ·obtain⟨k,s,g⟩:=x
  have hlt:k<O.length:=by simpa[hlen] using h1
  have hx:=Jc (d:=Jl) hlt
  have hb:=Lu hr hx
  obtain⟨k1,k2,k3,k4⟩:=hk
  rw[Jt (d:=Jl) hlt,List.map_cons,Jku] at k4
  have m1:=hb.sent
  have m2:=hb.got
  have hzb:((({data:={toList:=[]}}:ByteArray),(0:Int),(0:Int),(0:Int),(0:Int),(0:Int)):Hl)=Jj1:=rfl
  have hB:(O.map (Jv st M)).getD k Jj1=Jv st M (O.getD k Jl):=Jjm hlt
  dsimp only at k1 k2 k3 k4
  simp only[hzb,hB,hlen,Prod.eta]
  exact⟨by(repeat' first|apply And.intro|omega),by(repeat' first|apply And.intro|omega),(k+1,s+(Jv st M (O.getD k Jl)).2.2.1,g+(Jv st M (O.getD k Jl)).2.2.2.1),by(repeat' first|exact rfl|exact⟨⟩|apply And.intro|omega|dsimp only;omega),⟨by(first|omega|dsimp only;omega),by(first|omega|dsimp only;omega),by(first|omega|dsimp only;omega),k4⟩,by(first|omega|dsimp only;omega)⟩
 ·obtain⟨k,s,g⟩:=x
  have hlt:¬k<O.length:=by simpa[hlen] using h1
  obtain⟨k1,k2,k3,k4⟩:=hk
  have:k=O.length:=by omega
  rw[this,List.drop_length,List.map_nil,Jku] at k4
  have e:Jex st O M=if s=0 then((0,0),6) else(Jsq (s-g) s,0):=by unfold Jex;rw[←k4]
  dsimp only at k2 k3
  rw[e]
  refine⟨fun h2=> ?_,fun h2=> ?_⟩
  ·have h2:s=0:=by simpa using h2
   rw[if_pos h2]
   repeat' first|exact rfl|exact⟨⟩|apply And.intro|omega|dsimp only;omega
  ·have h2:s≠0:=by simpa using h2
   rw[if_neg h2]
   refine⟨⟨?_, ?_, ?_⟩,rfl,rfl⟩
   all_goals dsimp only
   all_goals (repeat' first|apply And.intro|omega)
abbrev K4r:=K4s.add K6n
def Jgk (l:List Ev) (h:Int):Int:=Jg [opE l [],Ki h 0 999999999,bif decide ((Jq l).2.1≤h) then 22 else 0]
def Jls (l:List Ev) (h:Int):H3:=if Jgk l h=0 then Jns (Jq l).2.2.2.2.1 h (Jq l).2.2.2.1 (0,0,0) else(0,0,0)
def J47:Con:={args:=[.val false (.list 67 sEv),aI],ress:=[(true,sH3),I],owns:=[],pre:=fun(l,_)=>[lOk l],spec:=fun(l,h,_)=>(Jls l h,Jgk l h,())}
abbrev imR (r:Reg) (i:Nat):List (Nat×Res):=[(i, .imm 127 L5 r.2.2.1),(i+1, .imm 130 Zx r.2.2.2.1),(i+2, .imm 155 Dd r.2.2.2.2.1),(i+3, .imm 188 Xp r.2.2.2.2.2.1),(i+4, .imm 235 X7 r.2.2.2.2.2.2)]
abbrev bxR (r:Reg) (i:Nat):Res:= .box 105 [.int .i64 r.1, .int .i64 r.2.1, .sl i, .sl (i+1), .sl (i+2), .sl (i+3), .sl (i+4)]
abbrev J5z (l:List Ev) (h:Int):Ann:={X:=Nat×H3,σ:=fun(k,a,b,c)=>⟨9,[(1, .one (.int .i64 h)),(4, .one (.ptr 1 0)),(6, .one (.ptr 7 0)),(9, .one (.ptr 8 0)),(33, .one (.sl 3)),(34, .one (.int .i64 (Jq l).2.2.2.1.length)),(35, .one (.int .i64 k))],(1, .box 25 [.int .i64 0, .int .i64 0, .int .i64 0])::(7,bxR (Jq l) 2)::(8, .box 25 [.int .i64 a, .int .i64 b, .int .i64 c])::imR (Jq l) 2⟩,inv:=fun(k,a,b,c)=>Jgk l h=0∧k≤(Jq l).2.2.2.1.length∧(0≤a∧a≤1000*k)∧(0≤b∧b≤1000*k)∧(-2000000*k≤c∧c≤2000000*k)∧Jns (Jq l).2.2.2.2.1 h ((Jq l).2.2.2.1.drop k) (a,b,c)=Jls l h,mu:=fun(k,_)=>(Jq l).2.2.2.1.length-k}
theorem J4q {a b c:Int} (h:Jg [a,b,c]=0):a=0∧b=0∧c=0:=by
 have h:=Uu.1 h
 exact⟨h a (by simp),h b (by simp),h c (by simp)⟩
def Z30 (a:List Ev):=Ln (Jq a).2.2.2.1
def Kht (a:List Ev):=(Jq a).2.2.2.1=(Jq a).2.2.2.1
def Khq (a:List Ev):=(Jq a).2.2.2.2.1=(Jq a).2.2.2.2.1
def Kho (a:List Ev):=(Jq a).2.2.2.2.2.1=(Jq a).2.2.2.2.2.1
def Khn (a:List Ev):=(Jq a).2.2.2.2.2.2=(Jq a).2.2.2.2.2.2
def K09 (a:List Ev) (b:Nat×H3):=List.getD (Jq a).2.2.2.1 b.1 Jdv
def K05 (a:List Ev) (b:Nat×H3):=(K09 a b).1
def K04 (a:List Ev) (b:Nat×H3):=(K09 a b).2
def K02 (a:List Ev) (b:Nat×H3):=(K04 a b).2
def K00 (a:List Ev) (b:Nat×H3):=(K02 a b).2
def K0y (a:List Ev) (b:Nat×H3):=(K00 a b).2
def K0v (a:List Ev) (b:Nat×H3):=(K0y a b).2
def K0u (a:List Ev) (b:Nat×H3):=(K0y a b).1
def Kyi (a:List Ev) (b:Nat×H3) (c:Int):=Kv (Jq a).2.2.2.2.1 (K05 a b) c
def Kyc (a:List Ev) (b:Int):=Jg [opE a [],Z68 b,bif decide ((Jq a).2.1≤b) then 22 else 0]
def Kwm (a:List Ev) (b:Nat×H3) (c:Int):=(Gt (Jq a).2.2.2.2.1 (Kyi a b c) Js1).2.2
def Kjg (a:List Ev) (b:Nat×H3) (c:Int):=(Kwm a b c).2
def Kwh (a:Nat×H3) (b:List Ev) (c:Int):=a.2.1+(Kwm b a c).1
def Kwc (a:Nat×H3) (b:List Ev) (c:Int):=a.2.2.1+Kjg b a c
def Kjb (a:List Ev):=(Jq a).2.2.1=(Jq a).2.2.1∧Kht a∧Khq a∧Kho a∧Khn a
def Kvd (a:List Ev) (b:Nat×H3) (c:Int):=K0u a b-Kjg a b c
def Kvb (a:List Ev) (b:Nat×H3) (c:Int):=Kjg a b c*(K0v a b).1
def Ku4 (a:List Ev) (b:Nat×H3) (c:Int):=3*Kvd a b c
def Kuw (a:List Ev) (b:Int) (c:Nat) (d e f:Int):=Jgk a b=0∧c≤List.length (Jq a).2.2.2.1∧Ka9 d c∧Ka9 e c∧((-2000000)*Nc c≤f∧f≤2000000*Nc c)∧Jns (Jq a).2.2.2.2.1 b (List.drop c (Jq a).2.2.2.1) (d,e,f)=Jls a b
def Kuh (a:Nat×Int×Int×Int) (b:List Ev) (c:Int):=match a with|(k,a,b_1,c_1)=>Kuw b c k a b_1 c_1
def Kt7 (a:Nat×Int×Int×Int) (b:List Ev) (c:Int) (d:Nat×H3):=Kuh a b c∧List.length (Jq b).2.2.2.1-a.1<List.length (Jq b).2.2.2.1-d.1
def Ktq (a:List Ev) (b:Nat×H3) (c:Int):=Kvb a b c-Ku4 a b c
def Ktp (a:Nat×H3) (b:List Ev) (c:Int):=a.2.2.2+Ktq b a c
theorem K68:Ok Tryz.prog 15 J47:=okW K4r Tryz.f15 (fun xx=>Xh (J5z xx.1 xx.2.1)) fun xx=>by
 obtain⟨(l:List Ev),(h:Int),_⟩:=xx
 refine(by kernel_rfl:(lOk l→(lOk l∧0≤1000000)∧3≤1000000∧Br (Kyc l h !=0) (Z66=Jls l h∧Kyc l h=Jgk l h) (∃(x:Nat×Int×Int×Int),Si h (Z30 l=Z30 l∧0=Nc x.1∧Si 0 (Si 0 (Si 0 ((Jq l).1=(Jq l).1∧(Jq l).2.1=(Jq l).2.1∧0=x.2.1∧0=x.2.2.1∧0=x.2.2.2∧Kjb l))))∧Kuh x l h∧∀(x:Nat×H3),(match x with|(k,a,b,c)=>Kuw l h k a b c)→Br (decide (Nc x.1<Z30 l)) (Tw (Bd (Nc x.1) (Z30 l))∧Br (Jo (K05 l x,(K04 l x).1,(K02 l x).1,E2 (K00 l x).1,K0u l x,E2 (K0v l x)) h) ((Jj4 l∧Tw (Bd (Kyi l x h) (Ln (Jq l).2.2.2.2.1)))∧Iw (Kwh x l h)∧Iw (Kwc x l h)∧(Iw (Kvb l x h)∧Iw (Kvd l x h)∧Iw (Ku4 l x h)∧Iw (Ktq l x h)∧Iw (Ktp x l h))∧Iw (Nc x.1+1)∧∃(y:Nat×Int×Int×Int),Si h (Si (Z30 l) (Nc x.1+1=Nc y.1∧Si 0 (Si 0 (Si 0 (Si (Jq l).1 (Si (Jq l).2.1 (Kwh x l h=y.2.1∧Kwc x l h=y.2.2.1∧Ktp x l h=y.2.2.2∧Kjb l)))))))∧Kt7 y l h x) (Iw (Nc x.1+1)∧∃(y:Nat×Int×Int×Int),Si h (Si (Z30 l) (Nc x.1+1=Nc y.1∧Si 0 (Si 0 (Si 0 (Si (Jq l).1 (Si (Jq l).2.1 (x.2.1=y.2.1∧x.2.2.1=y.2.2.1∧x.2.2.2=y.2.2.2∧Kjb l)))))))∧Kt7 y l h x)) ((x.2.1,E2 x.2.2)=Jls l h∧0=Jgk l h)))=_).mp ?_
 delta Z30 Z66 Z68 Js1 Kht Khq Kho Khn Ka9 Jdv K09 K05 K04 K02 K00 K0y K0v K0u Jx6 Kyi Kyc Jj4 Kwm Kjg Kwh Kwc Kjb Kvd Kvb Ku4 Kuw Kuh Kt7 Ktq Ktp Br Iw Bd Tw Si Ln Nc Gt B0 E2
 intro hl
 refine⟨⟨hl,by decide⟩,by decide,fun e=> ?_,fun e=> ?_⟩
 ·have e:Jgk l h≠0:=bne_iff_ne.1 e
  exact⟨by unfold Jls;rw[if_neg e],rfl⟩
 ·have e0:Jgk l h=0:=bne_eq_false_iff_eq.1 e
  clear e
  have hr:=Lj (l:=l)
  have nO:=hr.nO
  have hst:h<(Jq l).2.1:=by
   have:=(J4q e0).2.2
   by_cases q:(Jq l).2.1≤h
   ·rw[decide_eq_true q] at this;cases this
   ·omega
  refine⟨((0:Nat),0,0,0),by(repeat' first|exact rfl|exact⟨⟩|apply And.intro|omega|dsimp only;omega),⟨e0,Nat.zero_le _,by omega,by omega,by omega,by unfold Jls;rw[if_pos e0];rfl⟩,fun(x:Nat×H3) hk=>⟨fun h1=> ?_,fun h1=> ?_⟩⟩
  ·obtain⟨k,a,b,c⟩:=x
   have hlt:k<(Jq l).2.2.2.1.length:=by simpa using h1
   obtain⟨_,k1,k2,k3,k4,k5⟩:=hk
   generalize Jq l=r at*
   obtain⟨tk,st,S,O,M,X,Q⟩:=r
   have hlt:k<O.length:=hlt
   have hst:h<st:=hst
   have nO:O.length≤32:=nO
   have hx:=Jc (d:=Jl) hlt
   have k5:Jns M h (O.drop k) (a,b,c)=Jls l h:=k5
   rw[Jt (d:=Jl) hlt,Jns] at k5
   have hz:((({data:={toList:=[]}}:ByteArray),({data:={toList:=[]}}:ByteArray),({data:={toList:=[]}}:ByteArray),((0:Int),(0:Int)),(0:Int),(0:Int),(0:Int)):Ord)=Jl:=rfl
   have hzm:((({data:={toList:=[]}}:ByteArray),(0:Int),(0:Int),(0:Int)):Met)=Jhf:=rfl
   simp only[hz,hzm,Prod.eta]
   have hO:Jca S (O.getD k Jl):=hr.ord _ hx
   have hd:∀h,Jo (O.getD k Jl) h=true→h<st→0≤Kv M (O.getD k Jl).1 h:=hr.done _ hx
   generalize O.getD k Jl=y at*
   unfold Kcb at k5
   have bp:=hO.pow
   have bc:=hO.pri
   have em:M.getD (Kv M y.1 h).toNat Jhf=F1 M y.1 h:=rfl
   simp only[em]
   refine⟨by(repeat' first|apply And.intro|omega),fun hq=> ?_,fun hq=> ?_⟩
   ·rw[hq,cond_true] at k5
    have hm:=hd _ hq hst
    have hl:=Jas (l:=M) (s:=y.1) (h:=h)
    have hM:Jsl (F1 M y.1 h):=hr.met _ (Jc (show _<M.length by omega))
    have m1:=hM.sent
    have m2:=hM.got
    have q1:0≤(F1 M y.1 h).2.2.2*y.2.2.2.2.2.1:=Int.mul_nonneg m2.1 bc.1
    have q2:(F1 M y.1 h).2.2.2*y.2.2.2.2.2.1≤1000*1000:=Int.mul_le_mul (by omega) bc.2 bc.1 (by decide)
    exact⟨⟨hr,by(repeat' first|apply And.intro|omega),by(repeat' first|apply And.intro|omega)⟩,by(repeat' first|apply And.intro|omega),by(repeat' first|apply And.intro|omega),by(repeat' first|apply And.intro|omega),by(repeat' first|apply And.intro|omega),(k+1,a+(F1 M y.1 h).2.2.1,b+(F1 M y.1 h).2.2.2,c+((F1 M y.1 h).2.2.2*y.2.2.2.2.2.1-3*(y.2.2.2.2.1-(F1 M y.1 h).2.2.2))),by(repeat' first|exact rfl|exact⟨⟩|apply And.intro|omega|dsimp only;omega),⟨e0,by(first|omega|dsimp only;omega),by(first|omega|dsimp only;omega),by(first|omega|dsimp only;omega),by(first|omega|dsimp only;omega),k5⟩,by(first|omega|dsimp only;omega)⟩
   ·rw[hq,cond_false] at k5
    exact⟨by(repeat' first|apply And.intro|omega),(k+1,a,b,c),by(repeat' first|exact rfl|exact⟨⟩|apply And.intro|omega|dsimp only;omega),⟨e0,by(first|omega|dsimp only;omega),by(first|omega|dsimp only;omega),by(first|omega|dsimp only;omega),by(first|omega|dsimp only;omega),k5⟩,by(first|omega|dsimp only;omega)⟩
  ·obtain⟨k,a,b,c⟩:=x
   have hlt:¬k<(Jq l).2.2.2.1.length:=by simpa using h1
   obtain⟨_,k1,k2,k3,k4,k5⟩:=hk
   have:k=(Jq l).2.2.2.1.length:=by omega
   rw[this,List.drop_length,Jns] at k5
   exact⟨k5,e0.symm⟩
abbrev K4q:=K4r.add K68
def cAb (pre:Reg→Ev→List Prop) (f:Reg→Ev→ByteArray→Bool):Con:={args:=[Jbf,aEv,aS],ress:=[Bo],owns:=[],pre:=fun(r,e,_)=>pre r e,spec:=fun(r,e,s,_)=>(f r e s,())}
def Kdv:Con:=cAb (fun _ _=>[]) (fun _ _ _=>true)
theorem Kq3:Ok Tryz.prog 150 Kdv:=okW K4q Tryz.f150 na fun xx=>by
 obtain⟨⟨(tk:Int),(st:Int),(S:List Sta),(O:List Ord),(M:List Met),(X:List Out),(Q:List Per)⟩,⟨(n:Int),(k:ByteArray),(ns:List ByteArray),(vs:List Int),(tx:ByteArray)⟩,(s:ByteArray),_⟩:=xx
 refine(by kernel_rfl:(true=true)=_).mp ?_
 rfl
abbrev K4p:=K4q.add Kq3
def abO (O:List Ord) (ns:List ByteArray) (s:ByteArray):Bool:=Fs (Xz O (ns.getD 0 Ja)) s
def K70:Con:={args:=[Jbf,aEv,aS],ress:=[Bo],owns:=[],pre:=fun(r,e,_)=>[Jj r,1≤e.2.2.1.length,0≤Kx r.2.2.2.1 (e.2.2.1.getD 0 Ja)],spec:=fun((tk,st,S,O,M,X,Q),(n,k,ns,vs,tx),s,_)=>(abO O ns s,())}
theorem Kqx:Ok Tryz.prog 156 K70:=okW K4p Tryz.f156 na fun xx=>by
 obtain⟨⟨(tk:Int),(st:Int),(S:List Sta),(O:List Ord),(M:List Met),(X:List Out),(Q:List Per)⟩,⟨(n:Int),(k:ByteArray),(ns:List ByteArray),(vs:List Int),(tx:ByteArray)⟩,(s:ByteArray),_⟩:=xx
 refine(by kernel_rfl:(Jr tk st S O M X Q→Yz ns→Jsy O ns→Kk5 ns O∧Fs (Kit O ns) s=abO O ns s)=_).mp ?_
 delta Z47 Z61 Z91 Z93 Yz L2 Jr J62 Jqq Ka8 J6z Ka5 Jsy Kk5 Kit Bd T2 Ln B0 E2
 intro hr h1 h2
 have nO:O.length≤32:=hr.nO
 repeat' first|assumption|exact rfl|trivial|omega|exact K2|exact Uz|exact Uo|exact Uy|apply And.intro|intro _
abbrev K4o:=K4p.add Kqx
def abX (X:List Out) (ns:List ByteArray) (s:ByteArray):Bool:=(L7 X (ns.getD 0 Ja)).2.1.toList==s.toList
def K7y:Con:={args:=[Jbf,aEv,aS],ress:=[Bo],owns:=[],pre:=fun(r,e,_)=>[Jj r,1≤e.2.2.1.length,0≤J7 r.2.2.2.2.2.1 (e.2.2.1.getD 0 Ja)],spec:=fun((tk,st,S,O,M,X,Q),(n,k,ns,vs,tx),s,_)=>(abX X ns s,())}
theorem Kqq:Ok Tryz.prog 163 K7y:=okW K4o Tryz.f163 na fun xx=>by
 obtain⟨⟨(tk:Int),(st:Int),(S:List Sta),(O:List Ord),(M:List Met),(X:List Out),(Q:List Per)⟩,⟨(n:Int),(k:ByteArray),(ns:List ByteArray),(vs:List Int),(tx:ByteArray)⟩,(s:ByteArray),_⟩:=xx
 refine(by kernel_rfl:(Jr tk st S O M X Q→Yz ns→J07 X ns→Kk6 ns X∧Lb (Kbf X ns).2.1 s=abX X ns s)=_).mp ?_
 delta Z59 Z61 Z91 Z93 Yz L2 Jr Kbf Js0 J07 Kk6 Bd T2 Ln B0 Lb
 intro hr h1 h2
 have nX:X.length≤16:=hr.nX
 repeat' first|assumption|exact rfl|trivial|omega|exact K2|exact Uz|exact Uo|exact Uy|apply And.intro|intro _
abbrev K4n:=K4o.add Kqq
def abP (X:List Out) (Q:List Per) (ns:List ByteArray) (s:ByteArray):Bool:=(L7 X (Jmj Q (ns.getD 0 Ja)).2.1).2.1.toList==s.toList
def K7z:Con:={args:=[Jbf,aEv,aS],ress:=[Bo],owns:=[],pre:=fun(r,e,_)=>[Jj r,1≤e.2.2.1.length,0≤U0 r.2.2.2.2.2.2 (e.2.2.1.getD 0 Ja)],spec:=fun((tk,st,S,O,M,X,Q),(n,k,ns,vs,tx),s,_)=>(abP X Q ns s,())}
theorem Jzb {Q:List Per} {s:ByteArray} (h:0≤U0 Q s):Jmj Q s∈Q:=by
 have:=Uy (l:=Q) (s:=s)
 exact Jc (by omega)
theorem Kql:Ok Tryz.prog 168 K7z:=okW K4n Tryz.f168 na fun xx=>by
 obtain⟨⟨(tk:Int),(st:Int),(S:List Sta),(O:List Ord),(M:List Met),(X:List Out),(Q:List Per)⟩,⟨(n:Int),(k:ByteArray),(ns:List ByteArray),(vs:List Int),(tx:ByteArray)⟩,(s:ByteArray),_⟩:=xx
 refine(by kernel_rfl:(Jr tk st S O M X Q→Yz ns→J06 Q ns→T2 (Z91 ns) (Z45 Q∧0≤Jsc Q ns∧Z59 X∧0≤J7 X (Jmj Q (Z93 ns)).2.1)∧Lb (L7 X (Jmj Q (Z93 ns)).2.1).2.1 s=abP X Q ns s)=_).mp ?_
 delta Z45 Z59 Z61 Z91 Z93 Yz L2 Jr Jsc J06 Bd T2 Ln B0 Lb
 intro hr h1 h2
 have nX:X.length≤16:=hr.nX
 have nQ:Q.length≤16:=hr.nQ
 have h3:0≤J7 X (Jmj Q (ns.getD 0 Ja)).2.1:=hr.per _ (Jzb h2)
 repeat' first|assumption|exact rfl|trivial|omega|exact K2|exact Uz|exact Uo|exact Uy|apply And.intro|intro _
abbrev Jqt:=K4n.add Kql
def abS (r:Reg) (e:Ev) (s:ByteArray):Bool:=match(Ji e.2.1).2.2.2.2 with
 |some 150=>true
 |some 156=>abO r.2.2.2.1 e.2.2.1 s
 |some 163=>abX r.2.2.2.2.2.1 e.2.2.1 s
 |some 168=>abP r.2.2.2.2.2.1 r.2.2.2.2.2.2 e.2.2.1 s
 |_=>false
structure Jgw (r:Reg) (e:Ev):Prop where
 kind:Yr e.2.1=true
 ord:(Ji e.2.1).2.2.2.2=some 156→1≤e.2.2.1.length∧0≤Kx r.2.2.2.1 (e.2.2.1.getD 0 Ja)
 out:(Ji e.2.1).2.2.2.2=some 163→1≤e.2.2.1.length∧0≤J7 r.2.2.2.2.2.1 (e.2.2.1.getD 0 Ja)
 per:(Ji e.2.1).2.2.2.2=some 168→1≤e.2.2.1.length∧0≤U0 r.2.2.2.2.2.2 (e.2.2.1.getD 0 Ja)
def Xe:Con:={args:=[aEv, .ref 105 Jm9, .ref 9 .str],ress:=[Bo],owns:=[],pre:=fun(e,r,_)=>[Jj r,Jgw r e],spec:=fun(e,r,s,_)=>(abS r e s,())}
def Z35:=false=true→False
theorem Js7 (n:Int) (ns:List ByteArray) (vs:List Int) (tx:ByteArray) (tk st:Int) (S:List Sta) (O:List Ord) (M:List Met) (X:List Out) (Q:List Per) (s:ByteArray):wpF Tryz.prog Jqt.g (na ()) Tryz.f79 Xe ((n,J2,ns,vs,tx),(tk,st,S,O,M,X,Q),s,()):=by
 refine(by kernel_rfl:(Jr tk st S O M X Q→Jgw (Z61 tk st S O M X Q) (Z0 n ns vs tx)→Z35∧false=abS (Z61 tk st S O M X Q) (Z0 n ns vs tx) s)=_).mp ?_
 delta Z0 Z35 Z61 Jr J2
 intro hr ha
 have e:abS (tk,st,S,O,M,X,Q) (n,J2,ns,vs,tx) s=false:=by unfold abS;rw[show(Ji J2).2.2.2.2=_ from congrArg (fun x=>x.2.2.2.2) Jbs];all_goals rfl
 rw[e]
 repeat' first|exact hr|exact h.1|exact h.2|exact rfl|apply And.intro|intro _
 all_goals first|trivial|assumption|contradiction
theorem Jkb (n:Int) (ns:List ByteArray) (vs:List Int) (tx:ByteArray) (tk st:Int) (S:List Sta) (O:List Ord) (M:List Met) (X:List Out) (Q:List Per) (s:ByteArray):wpF Tryz.prog Jqt.g (na ()) Tryz.f79 Xe ((n,Jy,ns,vs,tx),(tk,st,S,O,M,X,Q),s,()):=by
 refine(by kernel_rfl:(Jr tk st S O M X Q→Jgw (Z61 tk st S O M X Q) (Z24 n ns vs tx)→true=abS (Z61 tk st S O M X Q) (Z24 n ns vs tx) s)=_).mp ?_
 delta Z24 Z61 Jr Jy
 intro hr ha
 have e:abS (tk,st,S,O,M,X,Q) (n,Jy,ns,vs,tx) s=true:=by unfold abS;rw[show(Ji Jy).2.2.2.2=_ from congrArg (fun x=>x.2.2.2.2) K8];all_goals rfl
 rw[e]
 repeat' first|exact hr|exact h.1|exact h.2|exact rfl|apply And.intro|intro _
 all_goals first|trivial|assumption|contradiction
theorem Jqv (n:Int) (ns:List ByteArray) (vs:List Int) (tx:ByteArray) (tk st:Int) (S:List Sta) (O:List Ord) (M:List Met) (X:List Out) (Q:List Per) (s:ByteArray):wpF Tryz.prog Jqt.g (na ()) Tryz.f79 Xe ((n,K9,ns,vs,tx),(tk,st,S,O,M,X,Q),s,()):=by
 refine(by kernel_rfl:(Jr tk st S O M X Q→Jgw (Z61 tk st S O M X Q) (Z13 n ns vs tx)→true=abS (Z61 tk st S O M X Q) (Z13 n ns vs tx) s)=_).mp ?_
 delta Z13 Z61 Jr K9
 intro hr ha
 have e:abS (tk,st,S,O,M,X,Q) (n,K9,ns,vs,tx) s=true:=by unfold abS;rw[show(Ji K9).2.2.2.2=_ from congrArg (fun x=>x.2.2.2.2) Va];all_goals rfl
 rw[e]
 repeat' first|exact hr|exact h.1|exact h.2|exact rfl|apply And.intro|intro _
 all_goals first|trivial|assumption|contradiction
def Jx9 (a:Ls):=true=true→Yz a
def J9n (a b:Int) (c:List Sta) (d:List Ord) (e:List Met) (f:List Out) (g:List Per) (h:Ls):=(true=true→Jr a b c d e f g)∧Jx9 h∧(true=true→Jsy d h)
theorem Jqw (n:Int) (ns:List ByteArray) (vs:List Int) (tx:ByteArray) (tk st:Int) (S:List Sta) (O:List Ord) (M:List Met) (X:List Out) (Q:List Per) (s:ByteArray):wpF Tryz.prog Jqt.g (na ()) Tryz.f79 Xe ((n,Kl,ns,vs,tx),(tk,st,S,O,M,X,Q),s,()):=by
 refine(by kernel_rfl:(Jr tk st S O M X Q→Jgw (Z61 tk st S O M X Q) (Z9 n ns vs tx)→J9n tk st S O M X Q ns∧(bif true then abO O ns s else false)=abS (Z61 tk st S O M X Q) (Z9 n ns vs tx) s)=_).mp ?_
 delta Z9 Z61 Yz L2 Jr Jx9 Jsy J9n Kl
 intro hr ha
 have e:abS (tk,st,S,O,M,X,Q) (n,Kl,ns,vs,tx) s=abO O ns s:=by unfold abS;rw[show(Ji Kl).2.2.2.2=_ from congrArg (fun x=>x.2.2.2.2) Uv];all_goals rfl
 have h:=ha.ord (congrArg (fun x=>x.2.2.2.2) Uv)
 rw[e]
 repeat' first|exact hr|exact h.1|exact h.2|exact rfl|apply And.intro|intro _
 all_goals first|trivial|assumption|contradiction
theorem Jqx (n:Int) (ns:List ByteArray) (vs:List Int) (tx:ByteArray) (tk st:Int) (S:List Sta) (O:List Ord) (M:List Met) (X:List Out) (Q:List Per) (s:ByteArray):wpF Tryz.prog Jqt.g (na ()) Tryz.f79 Xe ((n,K3,ns,vs,tx),(tk,st,S,O,M,X,Q),s,()):=by
 refine(by kernel_rfl:(Jr tk st S O M X Q→Jgw (Z61 tk st S O M X Q) (Z10 n ns vs tx)→J9n tk st S O M X Q ns∧(bif true then abO O ns s else false)=abS (Z61 tk st S O M X Q) (Z10 n ns vs tx) s)=_).mp ?_
 delta Z10 Z61 Yz L2 Jr Jx9 Jsy J9n K3
 intro hr ha
 have e:abS (tk,st,S,O,M,X,Q) (n,K3,ns,vs,tx) s=abO O ns s:=by unfold abS;rw[show(Ji K3).2.2.2.2=_ from congrArg (fun x=>x.2.2.2.2) Uw];all_goals rfl
 have h:=ha.ord (congrArg (fun x=>x.2.2.2.2) Uw)
 rw[e]
 repeat' first|exact hr|exact h.1|exact h.2|exact rfl|apply And.intro|intro _
 all_goals first|trivial|assumption|contradiction
theorem Js8 (n:Int) (ns:List ByteArray) (vs:List Int) (tx:ByteArray) (tk st:Int) (S:List Sta) (O:List Ord) (M:List Met) (X:List Out) (Q:List Per) (s:ByteArray):wpF Tryz.prog Jqt.g (na ()) Tryz.f79 Xe ((n,Vn,ns,vs,tx),(tk,st,S,O,M,X,Q),s,()):=by
 refine(by kernel_rfl:(Jr tk st S O M X Q→Jgw (Z61 tk st S O M X Q) (Z3 n ns vs tx)→J9n tk st S O M X Q ns∧(bif true then abO O ns s else false)=abS (Z61 tk st S O M X Q) (Z3 n ns vs tx) s)=_).mp ?_
 delta Z3 Z61 Yz L2 Jr Jx9 Jsy J9n Vn
 intro hr ha
 have e:abS (tk,st,S,O,M,X,Q) (n,Vn,ns,vs,tx) s=abO O ns s:=by unfold abS;rw[show(Ji Vn).2.2.2.2=_ from congrArg (fun x=>x.2.2.2.2) Vo];all_goals rfl
 have h:=ha.ord (congrArg (fun x=>x.2.2.2.2) Vo)
 rw[e]
 repeat' first|exact hr|exact h.1|exact h.2|exact rfl|apply And.intro|intro _
 all_goals first|trivial|assumption|contradiction
def Kji (a b:Int) (c:List Sta) (d:List Ord) (e:List Met) (f:List Out) (g:List Per) (h:Ls):=(true=true→Jr a b c d e f g)∧Jx9 h∧(true=true→J07 f h)
theorem Jmr (n:Int) (ns:List ByteArray) (vs:List Int) (tx:ByteArray) (tk st:Int) (S:List Sta) (O:List Ord) (M:List Met) (X:List Out) (Q:List Per) (s:ByteArray):wpF Tryz.prog Jqt.g (na ()) Tryz.f79 Xe ((n,Jz,ns,vs,tx),(tk,st,S,O,M,X,Q),s,()):=by
 refine(by kernel_rfl:(Jr tk st S O M X Q→Jgw (Z61 tk st S O M X Q) (Z15 n ns vs tx)→Kji tk st S O M X Q ns∧(bif true then abX X ns s else false)=abS (Z61 tk st S O M X Q) (Z15 n ns vs tx) s)=_).mp ?_
 delta Z15 Z61 Yz L2 Jr Jx9 J07 Kji Jz
 intro hr ha
 have e:abS (tk,st,S,O,M,X,Q) (n,Jz,ns,vs,tx) s=abX X ns s:=by unfold abS;rw[show(Ji Jz).2.2.2.2=_ from congrArg (fun x=>x.2.2.2.2) Kw];all_goals rfl
 have h:=ha.out (congrArg (fun x=>x.2.2.2.2) Kw)
 rw[e]
 repeat' first|exact hr|exact h.1|exact h.2|exact rfl|apply And.intro|intro _
 all_goals first|trivial|assumption|contradiction
theorem Jkc (n:Int) (ns:List ByteArray) (vs:List Int) (tx:ByteArray) (tk st:Int) (S:List Sta) (O:List Ord) (M:List Met) (X:List Out) (Q:List Per) (s:ByteArray):wpF Tryz.prog Jqt.g (na ()) Tryz.f79 Xe ((n,Ju,ns,vs,tx),(tk,st,S,O,M,X,Q),s,()):=by
 refine(by kernel_rfl:(Jr tk st S O M X Q→Jgw (Z61 tk st S O M X Q) (Z32 n ns vs tx)→Kji tk st S O M X Q ns∧(bif true then abX X ns s else false)=abS (Z61 tk st S O M X Q) (Z32 n ns vs tx) s)=_).mp ?_
 delta Z32 Z61 Yz L2 Jr Jx9 J07 Kji Ju
 intro hr ha
 have e:abS (tk,st,S,O,M,X,Q) (n,Ju,ns,vs,tx) s=abX X ns s:=by unfold abS;rw[show(Ji Ju).2.2.2.2=_ from congrArg (fun x=>x.2.2.2.2) Kk];all_goals rfl
 have h:=ha.out (congrArg (fun x=>x.2.2.2.2) Kk)
 rw[e]
 repeat' first|exact hr|exact h.1|exact h.2|exact rfl|apply And.intro|intro _
 all_goals first|trivial|assumption|contradiction
def Kjj (a b:Int) (c:List Sta) (d:List Ord) (e:List Met) (f:List Out) (g:List Per) (h:Ls):=(true=true→Jr a b c d e f g)∧Jx9 h∧(true=true→J06 g h)
theorem Jmq (n:Int) (ns:List ByteArray) (vs:List Int) (tx:ByteArray) (tk st:Int) (S:List Sta) (O:List Ord) (M:List Met) (X:List Out) (Q:List Per) (s:ByteArray):wpF Tryz.prog Jqt.g (na ()) Tryz.f79 Xe ((n,Kd,ns,vs,tx),(tk,st,S,O,M,X,Q),s,()):=by
 refine(by kernel_rfl:(Jr tk st S O M X Q→Jgw (Z61 tk st S O M X Q) (Z17 n ns vs tx)→Kjj tk st S O M X Q ns∧(bif true then abP X Q ns s else false)=abS (Z61 tk st S O M X Q) (Z17 n ns vs tx) s)=_).mp ?_
 delta Z17 Z61 Yz L2 Jr Jx9 J06 Kjj Kd
 intro hr ha
 have e:abS (tk,st,S,O,M,X,Q) (n,Kd,ns,vs,tx) s=abP X Q ns s:=by unfold abS;rw[show(Ji Kd).2.2.2.2=_ from congrArg (fun x=>x.2.2.2.2) K6];all_goals rfl
 have h:=ha.per (congrArg (fun x=>x.2.2.2.2) K6)
 rw[e]
 repeat' first|exact hr|exact h.1|exact h.2|exact rfl|apply And.intro|intro _
 all_goals first|trivial|assumption|contradiction
theorem Jmp (n:Int) (ns:List ByteArray) (vs:List Int) (tx:ByteArray) (tk st:Int) (S:List Sta) (O:List Ord) (M:List Met) (X:List Out) (Q:List Per) (s:ByteArray):wpF Tryz.prog Jqt.g (na ()) Tryz.f79 Xe ((n,Kc,ns,vs,tx),(tk,st,S,O,M,X,Q),s,()):=by
 refine(by kernel_rfl:(Jr tk st S O M X Q→Jgw (Z61 tk st S O M X Q) (Z21 n ns vs tx)→Kjj tk st S O M X Q ns∧(bif true then abP X Q ns s else false)=abS (Z61 tk st S O M X Q) (Z21 n ns vs tx) s)=_).mp ?_
 delta Z21 Z61 Yz L2 Jr Jx9 J06 Kjj Kc
 intro hr ha
 have e:abS (tk,st,S,O,M,X,Q) (n,Kc,ns,vs,tx) s=abP X Q ns s:=by unfold abS;rw[show(Ji Kc).2.2.2.2=_ from congrArg (fun x=>x.2.2.2.2) K5];all_goals rfl
 have h:=ha.per (congrArg (fun x=>x.2.2.2.2) K5)
 rw[e]
 repeat' first|exact hr|exact h.1|exact h.2|exact rfl|apply And.intro|intro _
 all_goals first|trivial|assumption|contradiction
theorem Jmo (n:Int) (ns:List ByteArray) (vs:List Int) (tx:ByteArray) (tk st:Int) (S:List Sta) (O:List Ord) (M:List Met) (X:List Out) (Q:List Per) (s:ByteArray):wpF Tryz.prog Jqt.g (na ()) Tryz.f79 Xe ((n,Jh,ns,vs,tx),(tk,st,S,O,M,X,Q),s,()):=by
 refine(by kernel_rfl:(Jr tk st S O M X Q→Jgw (Z61 tk st S O M X Q) (Z18 n ns vs tx)→Z35∧false=abS (Z61 tk st S O M X Q) (Z18 n ns vs tx) s)=_).mp ?_
 delta Z18 Z35 Z61 Jr Jh
 intro hr ha
 have e:abS (tk,st,S,O,M,X,Q) (n,Jh,ns,vs,tx) s=false:=by unfold abS;rw[show(Ji Jh).2.2.2.2=_ from congrArg (fun x=>x.2.2.2.2) Ut];all_goals rfl
 rw[e]
 repeat' first|exact hr|exact h.1|exact h.2|exact rfl|apply And.intro|intro _
 all_goals first|trivial|assumption|contradiction
theorem J3l [Sx.Dr] {Γ:Gam} {ann:Nat→Option Ann} {fn:Func} {c:Con} {x:ATup c.args} (hb:fn.body.isSome=true) (h:Un (c.pre x)→wpF Tryz.prog Γ ann fn c x):wpF Tryz.prog Γ ann fn c x:=by
 unfold wpF at h⊢
 cases hc:fn.body with
 |none=>rw[hc] at hb;cases hb
 |some code=>
  rw[hc] at h
  exact Jau h
theorem K5i:∀x:ATup [aEv, .ref 105 Jm9, .ref 9 .str],wpF Tryz.prog Jqt.g (na ()) Tryz.f79 Xe x
 |((n,k,ns,vs,tx),(tk,st,S,O,M,X,Q),s,())=>by
  refine J3l (by kernel_rfl) fun hp=> ?_
  have ha:Jgw (tk,st,S,O,M,X,Q) (n,k,ns,vs,tx):=hp.2
  rcases Vc ha.kind with h|h|h|h|h|h|h|h|h|h|h<;>dsimp only at h<;>subst h
  ·exact Js7 n ns vs tx tk st S O M X Q s
  ·exact Jkb n ns vs tx tk st S O M X Q s
  ·exact Jqv n ns vs tx tk st S O M X Q s
  ·exact Jqw n ns vs tx tk st S O M X Q s
  ·exact Jqx n ns vs tx tk st S O M X Q s
  ·exact Js8 n ns vs tx tk st S O M X Q s
  ·exact Jmr n ns vs tx tk st S O M X Q s
  ·exact Jkc n ns vs tx tk st S O M X Q s
  ·exact Jmq n ns vs tx tk st S O M X Q s
  ·exact Jmp n ns vs tx tk st S O M X Q s
  ·exact Jmo n ns vs tx tk st S O M X Q s
theorem K55:Ok Tryz.prog 79 Xe:=Vq mixed Jqt.ok (by kernel_rfl) (by kernel_rfl) na fun xx=>K5i xx
abbrev K8v:=Jqt.add K55
theorem Jav {α:Type} {p:α→Bool} {y:α} (h:p y=true):∀{l:List α} {k:Nat},0≤Vm p (l++[y]) k
 |[],k=>by
  show 0≤Vm p [y] k
  unfold Vm;rw[if_pos h];omega
 |x::l,k=>by
  show 0≤Vm p (x::(l++[y])) k
  unfold Vm
  split
  ·omega
  ·exact Jav h
structure Kh2 (r r':Reg):Prop where
 o:∀s,0≤Kx r.2.2.2.1 s→0≤Kx r'.2.2.2.1 s
 x:∀s,0≤J7 r.2.2.2.2.2.1 s→0≤J7 r'.2.2.2.2.2.1 s
 q:∀s,0≤U0 r.2.2.2.2.2.2 s→0≤U0 r'.2.2.2.2.2.2 s
theorem Jvh {O:List Ord} {y:Ord} {s:ByteArray} (h:0≤Kx O s):0≤Kx (O++[y]) s:=by unfold Kx at h⊢;rw[Yj h];exact h
theorem Jvf {O:List Out} {y:Out} {s:ByteArray} (h:0≤J7 O s):0≤J7 (O++[y]) s:=by unfold J7 at h⊢;rw[Yj h];exact h
theorem Jvg {O:List Per} {y:Per} {s:ByteArray} (h:0≤U0 O s):0≤U0 (O++[y]) s:=by unfold U0 at h⊢;rw[Yj h];exact h
theorem Jbz {O:List Ord} {a s:ByteArray} {v:Int}:Kx (Fx O a v) s=Kx O s:=by
 unfold Kx Fx
 exact Dw fun x hx=>by
  have e:Xz O a=x:=Je7 hx
  rw[e]
theorem Jjp {O:List Out} {a s:ByteArray} {v:Int}:J7 (Jd6 O a v) s=J7 O s:=by
 unfold J7 Jd6
 exact Dw fun x hx=>by
  have e:L7 O a=x:=Je7 hx
  rw[e]
theorem Jby {O:List Per} {a s:ByteArray}:U0 (Fy O a) s=U0 O s:=by
 unfold U0 Fy
 exact Dw fun x hx=>by
  have e:Jmj O a=x:=Je7 hx
  rw[e]
theorem Jq8 (r:Reg) (e:Ev):Kh2 r (Js r e):=by
 obtain⟨tk,st,S,O,M,X,Q⟩:=r
 obtain⟨n,k,ns,vs,tx⟩:=e
 unfold Js doS
 split
 all_goals refine⟨fun s h=> ?_,fun s h=> ?_,fun s h=> ?_⟩
 all_goals first|exact h|(show 0≤Kx (Fx _ _ _) _;rw[Jbz];exact h)|(show 0≤J7 (Jd6 _ _ _) _;rw[Jjp];exact h)|(show 0≤U0 (Fy _ _) _;rw[Jby];exact h)|exact Jvh h|exact Jvf h|exact Jvg h|exact Jbz (O:=O)▸h|exact Jjp (O:=X)▸h|exact Jby (O:=Q)▸h
theorem Jgw.mono {r r':Reg} {e:Ev} (h:Jgw r e) (hn:Kh2 r r'):Jgw r' e:=
 ⟨h.kind,fun q=>⟨(h.ord q).1,hn.o _ (h.ord q).2⟩,fun q=>⟨(h.out q).1,hn.x _ (h.out q).2⟩,fun q=>⟨(h.per q).1,hn.q _ (h.per q).2⟩⟩
theorem Jm8 (s:ByteArray):(s.toList==s.toList)=true:=beq_self_eq_true _
theorem J3s {h:Kn} {e:Ev} (hc:Jb e=0) (ha:Da h e=0) (hk:(e.2.1.toList==J2.toList)=false):Jgw (Js (Kf h.2.2) e) e:=by
 obtain⟨n,k,ns,vs,tx⟩:=e
 have hE:=Ul hc
 rw[Yw hk] at ha
 obtain⟨z1,z2,z3,z4,z5⟩:=Jba ha
 generalize Kf h.2.2=r at*
 obtain⟨tk,st,S,O,M,X,Q⟩:=r
 have hn:=hE.nn
 clear ha z4 z5
 have hkd:=Vc hE.kind
 dsimp only at hn hkd hk z3
 rcases hkd with h|h|h|h|h|h|h|h|h|h|h<;>subst h
 ·exact⟨hE.kind,fun q=>absurd q (by rw[Jbs];decide),fun q=>absurd q (by rw[Jbs];decide),fun q=>absurd q (by rw[Jbs];decide)⟩
 ·exact⟨hE.kind,fun q=>absurd q (by rw[K8];decide),fun q=>absurd q (by rw[K8];decide),fun q=>absurd q (by rw[K8];decide)⟩
 ·exact⟨hE.kind,fun q=>absurd q (by rw[Va];decide),fun q=>absurd q (by rw[Va];decide),fun q=>absurd q (by rw[Va];decide)⟩
 ·simp only[Uv,List.length_cons,List.length_nil] at hn z3
  refine⟨hE.kind,fun _=>⟨by dsimp only;omega, ?_⟩,fun q=>absurd q (by rw[Uv];decide),fun q=>absurd q (by rw[Uv];decide)⟩
  unfold Js doS
  simp only[Uv]
  exact Jav (p:=fun x:Ord=>x.1.toList==(ns.getD 0 Ja).toList) (l:=O) (Jm8 _)
 ·simp only[Uw,List.length_cons,List.length_nil] at hn z3
  refine⟨hE.kind,fun _=>⟨by dsimp only;omega, ?_⟩,fun q=>absurd q (by rw[Uw];decide),fun q=>absurd q (by rw[Uw];decide)⟩
  unfold Js doS
  simp only[Uw]
  exact J2j ((Jn z3).1 rfl)
 ·simp only[Vo,List.length_cons,List.length_nil] at hn z3
  refine⟨hE.kind,fun _=>⟨by dsimp only;omega, ?_⟩,fun q=>absurd q (by rw[Vo];decide),fun q=>absurd q (by rw[Vo];decide)⟩
  unfold Js doS
  simp only[Vo]
  exact by show 0≤Kx (Fx _ _ _) _;rw[Jbz];exact J2j ((Jn z3).1 rfl)
 ·simp only[Kw,List.length_cons,List.length_nil] at hn z3
  refine⟨hE.kind,fun q=>absurd q (by rw[Kw];decide),fun _=>⟨by dsimp only;omega, ?_⟩,fun q=>absurd q (by rw[Kw];decide)⟩
  unfold Js doS
  simp only[Kw]
  exact Jav (p:=fun x:Out=>x.1.toList==(ns.getD 0 Ja).toList) (l:=X) (Jm8 _)
 ·simp only[Kk,List.length_cons,List.length_nil] at hn z3
  refine⟨hE.kind,fun q=>absurd q (by rw[Kk];decide),fun _=>⟨by dsimp only;omega, ?_⟩,fun q=>absurd q (by rw[Kk];decide)⟩
  unfold Js doS
  simp only[Kk]
  exact by show 0≤J7 (Jd6 _ _ _) _;rw[Jjp];exact J2i ((Jn z3).1 rfl)
 ·simp only[K6,List.length_cons,List.length_nil] at hn z3
  refine⟨hE.kind,fun q=>absurd q (by rw[K6];decide),fun q=>absurd q (by rw[K6];decide),fun _=>⟨by dsimp only;omega, ?_⟩⟩
  unfold Js doS
  simp only[K6]
  exact Jav (p:=fun x:Per=>x.1.toList==(ns.getD 0 Ja).toList) (l:=Q) (Jm8 _)
 ·simp only[K5,List.length_cons,List.length_nil] at hn z3
  refine⟨hE.kind,fun q=>absurd q (by rw[K5];decide),fun q=>absurd q (by rw[K5];decide),fun _=>⟨by dsimp only;omega, ?_⟩⟩
  unfold Js doS
  simp only[K5]
  exact by show 0≤U0 (Fy _ _) _;rw[Jby];exact Kia ((Jn z3).1 rfl)
 ·exact⟨hE.kind,fun q=>absurd q (by rw[Ut];decide),fun q=>absurd q (by rw[Ut];decide),fun q=>absurd q (by rw[Ut];decide)⟩
def Jmh (h:Kn):Prop:=∀j k,j<h.2.1.length→j≤k→k<h.2.2.length→Jgw (h.2.2.getD k U1) (h.2.1.getD j ev0)
theorem Jlv {α:Type} {l:List α} {m k:Nat} {d:α} (h:k<m):(l.take m).getD k d=l.getD k d:=by
 rw[List.getD_eq_getElem?_getD,List.getD_eq_getElem?_getD,List.getElem?_take_of_lt h]
theorem Jjn {α:Type} {l m:List α} {k:Nat} {d:α} (h:k<l.length):(l++m).getD k d=l.getD k d:=by
 rw[List.getD_eq_getElem?_getD,List.getD_eq_getElem?_getD,List.getElem?_append_left h]
theorem Jlw {α:Type} {l:List α} {y d:α}:(l++[y]).getD l.length d=y:=by
 rw[List.getD_eq_getElem?_getD,List.getElem?_append_right (Nat.le_refl _),Nat.sub_self];rfl
theorem Ktm {h:Kn} {e:Ev} (hi:Y2 h) (hA:Jmh h) (ha:Um h e=0):Jmh (D3 h e):=by
 obtain⟨hc,hacc⟩:=add_zero ha
 have n3:=hi.ok.nG
 have hlast:∀e'∈[e],(e.2.1.toList==J2.toList)=false→Jgw (Js (Kf h.2.2) e) e:=fun _ _ hk=>J3s hc hacc hk
 obtain⟨E,C,G⟩:=h
 dsimp only at n3
 cases hk:e.2.1.toList==J2.toList with
 |true=>
  unfold D3
  rw[hk,cond_true]
  intro j k h1 h2 h3
  simp only[List.length_take] at h1 h3
  dsimp only
  rw[Jlv (by omega),Jlv (by omega)]
  exact hA j k (by dsimp only;omega) h2 (by dsimp only;omega)
 | false =>
  unfold D3
  rw[hk,cond_false]
  intro j k h1 h2 h3
  simp only[List.length_append,List.length_singleton] at h1 h3
  dsimp only
  by_cases hkn:k<G.length
  ·rw[Jjn hkn,Jjn (by omega)]
   exact hA j k (by dsimp only;omega) h2 (by dsimp only;omega)
  ·have ek:k=G.length:=by omega
   rw[ek,Jlw]
   by_cases hj:j<C.length
   ·rw[Jjn hj]
    have:=hA j (G.length-1) hj (by omega) (by dsimp only;omega)
    exact this.mono (Jq8 (Kf G) e)
   ·have ej:j=C.length:=by omega
    rw[ej,Jlw]
    exact hlast e (List.mem_singleton.2 rfl) hk
theorem J18:∀{l:List Ev} {h:Kn},Y2 h→Jmh h→h.1.length+l.length≤1000→Jmh (Jc2 h l).1
 |[],_,_,hA,_=>hA
 | e :: l, h, hi, hA, hl => by
  unfold Jc2
  simp only[List.length_cons] at hl
  by_cases ha:Um h e=0
  ·rw[if_pos ha]
   exact J18 (Jfy hi (by omega) ha) (Ktm hi hA ha) (by rw[D2];omega)
  ·rw[if_neg ha];exact hA
theorem Ju7:Jmh Zz:=fun j k h1 _ _=>by cases h1
theorem Jy8 {l:List Ev}:Jmh (Jd l).1:=by
 unfold Jd
 by_cases h:1000<l.length
 ·rw[if_pos h];exact Ju7
 ·rw[if_neg h];exact J18 Hf Ju7 (by show 0+l.length≤1000;omega)
theorem Kb8 {h:Kn} (hi:Y2 h) (hA:Jmh h) {e:Ev} (he:e∈h.2.1):Jgw (Kf h.2.2) e:=by
 obtain⟨j,hj,rfl⟩:=List.mem_iff_getElem.1 he
 have n3:=hi.ok.nG
 have:=hA j (h.2.2.length-1) hj (by omega) (by omega)
 rw[List.getD_eq_getElem?_getD (l:=h.2.1),List.getElem?_eq_getElem hj] at this
 exact this
def Vp (xs:List ByteArray) (sep:ByteArray):ByteArray:=⟨(Lib.join (xs.map (·.data.toList)) sep.data.toList).toArray⟩
def Ks0:Con:={args:=[.val false (.list 9 .str),aS],ress:=[tS],owns:=[],pre:=fun(xs,sep,_)=>[xs.length≤1000000,(Lib.join (xs.map (·.data.toList)) sep.data.toList).length≤140737488355328],spec:=fun(xs,sep,_)=>(Vp xs sep,())}
def Vg (n:Int):ByteArray:=⟨(Lib.itoa n).toArray⟩
def Ks1:Con:={args:=[aI],ress:=[tS],owns:=[],pre:=fun(n,_)=>[-9223372036854775808≤n∧n≤9223372036854775807],spec:=fun(n,_)=>(Vg n,())}
theorem J0f (w:World) (q:Nat) (os:Array Obj):RowKit.Below w.heap.size w (Sort.grow (w.drewN q) os):=
 ⟨rfl,rfl,rfl,by first|(simp[Sort.grow];done)|(simp[Sort.grow];omega),fun i hi=>by
  show((w.drewN q).heap++os)[i]? =_
  rw[Array.getElem?_append_left (by show i<w.heap.size;omega)]
  rfl⟩
theorem Krs:Ok Tryz.prog 122 Ks1:=by
 refine⟨⟨Tryz.f122,by kernel_rfl,by kernel_rfl,by kernel_rfl⟩,fun z hz=>(by cases hz),fun F hF=>(by cases hF),fun _ x M R w vs hM hg hpre hargs=> ?_⟩
 obtain⟨n,u⟩:=x
 obtain⟨v,vs',rfl,ha,hr⟩:=hargs
 have hr:vs'=[]:=hr
 subst hr
 obtain⟨cs,rfl,hc⟩:=ha
 have hc:cs=[.int .i64 n]:=hc
 subst hc
 have hpre: -9223372036854775808≤n∧n≤9223372036854775807:=hpre
 refine(Tryz.strconv_Itoa n hpre.1 hpre.2 w (hg w (Sx.Below.refl _ _)).1).mono ?_
 rintro e w' ⟨rfl,k,os,rfl⟩
 exact⟨M,[.string (Vg n)],rfl, .ofK (J0f w k os),fun _ h=>h,fun b h=> .inl h,_,[],rfl,⟨_,rfl,rfl⟩,rfl⟩
theorem Krr:Ok Tryz.prog 123 Ks0:=by
 refine⟨⟨Tryz.f123,by kernel_rfl,by kernel_rfl,by kernel_rfl⟩,fun z hz=>(by cases hz),fun F hF=>(by cases hF),fun _ x M R w vs hM hg hpre hargs=> ?_⟩
 obtain⟨xs,sep,u⟩:=x
 obtain⟨v,vs',rfl,ha,v2,vs2,rfl,hb,hr⟩:=hargs
 have hr:vs2=[]:=hr
 subst hr
 obtain⟨cs,rfl,hc⟩:=ha
 obtain⟨cs2,rfl,hc2⟩:=hb
 have hc2:cs2=[.string sep]:=hc2
 subst hc2
 obtain⟨v,flat,rfl,f1,f2⟩:=hc
 obtain⟨p1,p2⟩:=hpre
 have hflat:=Jeb f1
 have fin:∀(e:Ending) (w':World),e= .returned (.string (Vp xs sep))→RowKit.Below w.heap.size w w'→Joo M w [tS] [] (Vp xs sep,()) e w':=fun e w' he hb=>
  ⟨M,[.string (Vp xs sep)],he, .ofK hb,fun _ h=>h,fun b h=> .inl h,_,[],rfl,⟨_,rfl,rfl⟩,rfl⟩
 rcases f2 with⟨rfl|⟨ad,cap,rfl⟩,h0⟩|⟨b,off,cap,rfl,hcap,hk,hm⟩
 ·have:xs=[]:=List.eq_nil_of_length_eq_zero h0
  subst this
  refine(Tryz.strings_Join_none none 0 sep w).mono ?_
  rintro e w' ⟨rfl,rfl⟩
  exact fin _ _ rfl (RowKit.Below.refl _ _)
 ·have:xs=[]:=List.eq_nil_of_length_eq_zero h0
  subst this
  refine(Tryz.strings_Join_none (some ad) cap sep w).mono ?_
  rintro e w' ⟨rfl,rfl⟩
  exact fin _ _ rfl (RowKit.Below.refl _ _)
 ·cases hx:xs with
  |nil=>
   subst hx
   refine(Tryz.strings_Join_none (some ⟨b,off,none⟩) cap sep w).mono ?_
   rintro e w' ⟨rfl,rfl⟩
   exact fin _ _ rfl (RowKit.Below.refl _ _)
  |cons x0 r=>
   rw[←hx]
   have hne:flat≠[]:=by rw[hflat,hx];simp
   refine(Tryz.strings_Join b off cap xs sep w (fun j x hj=>hk j _ (by rw[hflat,List.getElem?_map,hj];rfl)) (hM b (.inl (hm hne))) (by omega) hcap p2).mono ?_
   rintro e w' ⟨rfl,hb⟩
   exact fin _ _ rfl hb
abbrev K8u:=K8v.add Krr
abbrev K8t:=K8u.add Krs
def Xw (s p:ByteArray):List ByteArray:=Lib.splitB p 0 (Lib.countB s p) s
def Jp5:Con:={args:=[aS,aS],ress:=[(false, .list 9 .str)],owns:=[true],pre:=fun(s,p,_)=>[s.size≤1000000,1≤p.size],spec:=fun(s,p,_)=>(Xw s p,())}
theorem Jg8 {M:Nat→Prop} {w:World}:∀{xs:List ByteArray},V3 (Rep M w .str) xs (xs.map Value.string)
 |[]=>rfl
 |x::xs=>⟨[.string x],xs.map Value.string,rfl,rfl,Jg8⟩
theorem K6i:Ok Tryz.prog 61 Jp5:=by
 refine⟨⟨Tryz.f61,by kernel_rfl,by kernel_rfl,by kernel_rfl⟩,fun z hz=>(by cases hz),fun F hF=>(by cases hF),fun _ x M R w vs hM hg hpre hargs=> ?_⟩
 obtain⟨s,p,u⟩:=x
 obtain⟨v1,vs1,rfl,ha1,v2,vs2,rfl,ha2,hr⟩:=hargs
 have hr:vs2=[]:=hr
 subst hr
 obtain⟨cs1,rfl,hc1⟩:=ha1
 obtain⟨cs2,rfl,hc2⟩:=ha2
 have hc1:cs1=[.string s]:=hc1
 have hc2:cs2=[.string p]:=hc2
 subst hc1;subst hc2
 have hpre:s.size≤1000000∧1≤p.size:=hpre
 refine(Tryz.strings_Split_shaped s p w ((hg w (.refl _ _)).2 rfl).1 (by omega) hpre.2).mono ?_
 rintro e w' ⟨rfl,rfl⟩
 have hlen:(Xw s p).length=Lib.countB s p+1:=Lib.splitB_all p hpre.2 0 _ s rfl
 have hle:=Lib.countB_le p hpre.2 s.size s (Nat.le_refl _)
 refine⟨M,[_],rfl, .ofK ⟨rfl,rfl,rfl,by show w.heap.size≤(w.heap.push _).size;simp,fun i hi=> ?_⟩,fun _ h=>h,fun b h=> .inl h,_,[],rfl,⟨(Xw s p).map Value.string,Jg8,⟨by simp[Sch.size,Jp5], .inr ⟨w.heap.size,Lib.countB s p+1,_,by rw[show(Jp5.spec (s,p,u)).1=Xw s p from rfl,hlen],Nat.le_refl _,heap_alloc_new w _,by rw[show(Jp5.spec (s,p,u)).1=Xw s p from rfl,hlen];exact Nat.le_refl _, ?_, ?_, ?_⟩⟩, ?_⟩,rfl⟩
 ·show(w.heap.push _)[i]? =_
  rw[Array.getElem?_push]
  split
  ·omega
  ·rfl
 ·show _≤9223372036854775807
  have:s.size≤1000000:=hpre.1
  omega
 ·show(List.map Value.string (Xw s p)).toArray.size=_
  simp[Sch.size,hlen]
 ·show(List.map Value.string (Xw s p)).take ((Xw s p).length*1)=_
  rw[List.take_of_length_le (by simp)]
 ·intro g hgb hM'
  have:w.heap.size=g:=Option.some.inj hgb
  have:=hM g (.inl hM')
  omega
abbrev K8s:=K8t.add K6i
def Kta:Con:={args:=[],ress:=[],owns:=[],pre:=fun _=>[False],spec:=fun _=>(),prim:=some Ktf}
theorem J4v (s:ByteArray) (w:World) (hs:s.size≤1000000) (hg:Sx.Good Tryz.prog w):Calls Tryz.prog 260 #[.string s] w fun e w'=>∃u,e= .returned (.tuple #[.int .i64 (Jst s),u])∧Jj6 (Jwp s) u∧Sx.Below w.heap.size w w':=by
 have hw:=(hg w (.refl _ _)).2 rfl
 cases h:Lib.atoiAll s.data.toList
 ·rename_i v
  have e1:Jst s=v:=by unfold Jst;rw[h]
  have e2:Jwp s=false:=by unfold Jwp;rw[h]
  rw[e1,e2]
  refine Calls.mono (Any.strconv_Atoi_ok Tryz.laysAtoi s (by omega) v h w) ?_
  rintro e w' ⟨rfl,rfl|⟨t,rfl⟩⟩
  ·exact⟨_,rfl,rfl, .refl _ _⟩
  ·exact⟨_,rfl,rfl, .ofK (Lib.bytesWorld_below w _ t)⟩
 ·have e1:Jst s=0:=by unfold Jst;rw[h]
  have e2:Jwp s=true:=by unfold Jwp;rw[h]
  rw[e1,e2]
  obtain⟨tp,pe,hv⟩:=hw.2.1
  refine Calls.mono (Any.strconv_Atoi_syntax_var Tryz.laysAtoi s (by omega) h tp pe w hv) ?_
  rintro e w' ⟨N,rfl,_,_,hb⟩
  exact⟨_,rfl,⟨_,_,rfl⟩, .ofK hb⟩
 ·have e1:Jst s=Lib.atoiSat s.data.toList:=by unfold Jst;rw[h]
  have e2:Jwp s=true:=by unfold Jwp;rw[h]
  rw[e1,e2]
  obtain⟨tp,pe,hv⟩:=hw.2.2
  refine Calls.mono (Any.strconv_Atoi_range_var Tryz.laysAtoi s (by omega) h tp pe w hv) ?_
  rintro e w' ⟨N,rfl,_,_,hb⟩
  exact⟨_,rfl,⟨_,_,rfl⟩, .ofK hb⟩
theorem Ko1:Ok Tryz.prog 260 Kta:=⟨⟨Tryz.f260,by kernel_rfl,by kernel_rfl,by kernel_rfl⟩,fun z hz=>(by cases hz),fun F hF=>(by cases hF;exact J5o fun s w hs hg=>J4v s w hs hg),fun _ x M R w vs _ _ hpre _=>False.elim hpre⟩
abbrev K8r:=K8s.add Ko1
def Jx1 (s p:ByteArray):ByteArray×ByteArray×Bool:=(⟨(Lib.cut s.data.toList p.data.toList).1.toArray⟩,⟨(Lib.cut s.data.toList p.data.toList).2.1.toArray⟩,(Lib.cut s.data.toList p.data.toList).2.2)
def K7t:Con:={args:=[aS,aS],ress:=[tS,tS,Bo],owns:=[],pre:=fun(s,_)=>[s.size≤1000000],spec:=fun(s,p,_)=>((Jx1 s p).1,(Jx1 s p).2.1,(Jx1 s p).2.2,())}
theorem J0g (w:World) (q:Nat):RowKit.Below w.heap.size w (w.drewN q):=⟨rfl,rfl,rfl,Nat.le_refl _,fun i _=>rfl⟩
theorem Krz:Ok Tryz.prog 107 K7t:=by
 refine⟨⟨Tryz.f107,by kernel_rfl,by kernel_rfl,by kernel_rfl⟩,fun z hz=>(by cases hz),fun F hF=>(by cases hF),fun _ x M R w vs hM hg hpre hargs=> ?_⟩
 obtain⟨s,p,u⟩:=x
 obtain⟨v1,vs1,rfl,ha1,v2,vs2,rfl,ha2,hr⟩:=hargs
 have hr:vs2=[]:=hr
 subst hr
 obtain⟨cs1,rfl,hc1⟩:=ha1
 obtain⟨cs2,rfl,hc2⟩:=ha2
 have hc1:cs1=[.string s]:=hc1
 have hc2:cs2=[.string p]:=hc2
 subst hc1;subst hc2
 have hpre:s.size≤1000000:=hpre
 refine(Tryz.strings_Cut_shaped s p w ((hg w (.refl _ _)).2 rfl).1 (by omega)).mono ?_
 rintro e w' ⟨rfl,n,rfl⟩
 exact⟨M,[.string (Jx1 s p).1, .string (Jx1 s p).2.1, .bool (Jx1 s p).2.2],rfl, .ofK (J0g w n),fun _ h=>h,fun b h=> .inl h,_,_,rfl,⟨_,rfl,rfl⟩,_,_,rfl,⟨_,rfl,rfl⟩,_,[],rfl,⟨_,rfl,rfl⟩,rfl⟩
abbrev K8q:=K8r.add Krz
def Kbv (s:ByteArray) (n:Int):ByteArray:=⟨(Lib.repeatL s.data.toList n.toNat).toArray⟩
def K7g:Con:={args:=[aS,aI],ress:=[tS],owns:=[],pre:=fun(s,n,_)=>[s.size≤1000000,0≤n∧n≤1000000],spec:=fun(s,n,_)=>(Kbv s n,())}
theorem Ko2:Ok Tryz.prog 258 K7g:=by
 refine⟨⟨Tryz.f258,by kernel_rfl,by kernel_rfl,by kernel_rfl⟩,fun z hz=>(by cases hz),fun F hF=>(by cases hF),fun _ x M R w vs hM hg hpre hargs=> ?_⟩
 obtain⟨s,n,u⟩:=x
 obtain⟨v1,vs1,rfl,ha1,v2,vs2,rfl,ha2,hr⟩:=hargs
 have hr:vs2=[]:=hr
 subst hr
 obtain⟨cs1,rfl,hc1⟩:=ha1
 obtain⟨cs2,rfl,hc2⟩:=ha2
 have hc1:cs1=[.string s]:=hc1
 have hc2:cs2=[.int .i64 n]:=hc2
 subst hc1;subst hc2
 obtain⟨p1,p2,p3⟩:=hpre
 have p1:s.size≤1000000:=p1
 have p2:0≤n:=p2
 have p3:n≤1000000:=p3
 obtain⟨c,rfl⟩:=Int.eq_ofNat_of_zero_le p2
 have p3:(c:Int)≤1000000:=p3
 have hm:s.size*c≤1000000*1000000:=Nat.mul_le_mul p1 (by omega)
 refine(Tryz.strings_Repeat s c w (by omega) (by omega)).mono ?_
 rintro e w' ⟨rfl,hb⟩
 exact⟨M,[.string (Kbv s c)],rfl, .ofK hb,fun _ h=>h,fun b h=> .inl h,_,[],rfl,⟨_,rfl,rfl⟩,rfl⟩
abbrev K8p:=K8q.add Ko2
abbrev tI:Bool×Sch:=(false, .int .i64)
abbrev tB:Bool×Sch:=(false, .bool)
abbrev K5l:Bool×Sch:=(false, .str)
abbrev taI:AK:= .val false (.int .i64)
abbrev taS:AK:= .val false .str
theorem J3k {n:Int} (h0:0≤n) (h1:n<256):IntKind.u8.wrap n=n:=by
 simp[IntKind.wrap,IntKind.signed,IntKind.bits]
 omega
def Xd (c:Int):Bool:=decide (48≤c)&&decide (c≤57)
theorem Jlq (c:Int):(bif decide (c<48) then true else decide (57<c))= !Xd c:=by
 unfold Xd
 have e1:decide (c<48)= !decide ((48:Int)≤c):=by rw[Bool.eq_iff_iff];simp
 have e2:decide ((57:Int)<c)= !decide (c≤57):=by rw[Bool.eq_iff_iff];simp
 rw[e1,e2]
 cases decide ((48:Int)≤c)<;>cases decide (c≤57)<;>rfl
def Kh:List UInt8→Int→Int×Bool
 |[],n=>(n,true)
 |c::r,n=>if Xd c.toNat=true then Kh r (10*n+(c.toNat-48)) else(0,false)
def Ja2 (s:ByteArray):Bool:=decide (s.size=0)||decide (9<s.size)||(decide (1<s.size)&&decide (Ja4 s 0=48))
def Ka (s:ByteArray):Int×Bool:=if Ja2 s=true then(0,false) else Kh s.data.toList 0
def J5d:Con:={args:=[taS],ress:=[tI,tB],owns:=[],pre:=fun(s,_)=>[s.size≤1000000],spec:=fun(s,_)=>((Ka s).1,(Ka s).2,())}
theorem Jwm (s:ByteArray):(bif bif ((s.size:Int)==0) then true else decide (9<(s.size:Int)) then true else bif decide (1<(s.size:Int)) then(((s.data.toList.getD 0 0).toNat:Int)==48) else false)=Ja2 s:=by
 have e1:((s.size:Int)==0)=decide (s.size=0):=by rw[Bool.eq_iff_iff];simp
 have e2:decide (9<(s.size:Int))=decide (9<s.size):=by rw[decide_eq_decide];omega
 have e3:decide (1<(s.size:Int))=decide (1<s.size):=by rw[decide_eq_decide];omega
 have e4:(((s.data.toList.getD 0 0).toNat:Int)==48)=decide (Ja4 s 0=48):=by rw[Bool.eq_iff_iff];simp[Ja4]
 have k:∀a b c d:Bool,(bif bif a then true else b then true else bif c then d else false)=(a||b||(c&&d)):=by decide
 rw[e1,e2,e3,e4,k];rfl
theorem Jfl {c:Nat} (h:Xd c=true):48≤c∧c≤57:=by
 unfold Xd at h
 simp only[Bool.and_eq_true,decide_eq_true_eq] at h
 omega
abbrev K8o:=K8p
theorem Jaa:∀{l:List UInt8} {n:Int},0≤n→0≤(Kh l n).1∧(Kh l n).1<(n+1)*10^l.length
 |[],n,h=>⟨h,by simp[Kh];omega⟩
 | c :: r, n, h => by
  unfold Kh
  split
  ·rename_i hc
   have hr:=Jfl hc
   have ih:=Jaa (l:=r) (n:=10*n+(c.toNat-48)) (by omega)
   refine⟨ih.1,Int.lt_of_lt_of_le ih.2 ?_⟩
   rw[List.length_cons,Int.pow_succ,Int.mul_comm (10^r.length),←Int.mul_assoc]
   exact Int.mul_le_mul_of_nonneg_right (by omega) (Int.pow_nonneg (by decide))
  ·refine⟨Int.le_refl _,Int.mul_pos (by omega) (Int.pow_pos (by decide))⟩
theorem Jn0 (s:ByteArray):0≤(Ka s).1∧(Ka s).1<1000000000:=by
 unfold Ka
 split
 ·exact⟨Int.le_refl _,by decide⟩
 ·rename_i h
  have h:Ja2 s=false:=by simpa using h
  have h9:s.size≤9:=by
   unfold Ja2 at h
   simp only[Bool.or_eq_false_iff,decide_eq_false_iff_not] at h
   omega
  have:=Jaa (l:=s.data.toList) (n:=0) (Int.le_refl _)
  refine⟨this.1,Int.lt_of_lt_of_le this.2 ?_⟩
  have hp:=Nat.pow_le_pow_right (n:=10) (by decide) h9
  have hl:s.data.toList.length=s.size:=by simp
  rw[hl,Int.zero_add,Int.one_mul]
  have e:((10:Int)^s.size)=((10^s.size:Nat):Int):=by simp
  rw[e]
  have h2:((10^s.size:Nat):Int)≤((10^9:Nat):Int):=Int.ofNat_le.2 hp
  have h3:((10^9:Nat):Int)=1000000000:=by decide
  omega
def Jj7 (c:UInt8):List UInt8→List (List UInt8)
 |[]=>[[]]
 |x::r=>if x=c then[]::Jj7 c r else match Jj7 c r with
  |[]=>[[x]]
  |h::t=>(x::h)::t
def bs (l:List UInt8):ByteArray:=⟨l.toArray⟩
def Jd3 (s:ByteArray) (c:Int):List ByteArray:=(Jj7 (UInt8.ofNat c.toNat) s.data.toList).map bs
theorem J3u (c:UInt8):∀l,Jj7 c l≠[]
 |[]=>by simp[Jj7]
 |x::r=>by
  unfold Jj7
  split
  ·simp
  ·split<;>simp
theorem Jam (c x:UInt8) (r:List UInt8):Jj7 c (x::r)=if x=c then[]::Jj7 c r else match Jj7 c r with
  |[]=>[[x]]
  |h::t=>(x::h)::t:=rfl
abbrev Kh0:=K8o
def X4 (n:Int):ByteArray:=⟨(Lib.itoa n).toArray⟩
def Jv0 (k:Nat):Con:={args:=[taI],ress:=[K5l],owns:=[],pre:=fun(n,_)=>[k≤18,-(10^k:Int)<n,n<10^(k+1)],spec:=fun(n,_)=>(X4 n,())}
def Kkq (a:Int):=(Iw (48+a)∧0<1)∧ByteArray.mk (Array.mk [UInt8.ofNat (Int.toNat (IntKind.wrap IntKind.u8 (48+a)))])=X4 a
def Z81 (a:Int):=0-Int.tmod a 10
def Khz:=(10:Int)=0→False
def Kgs (a:Nat):=(10:Int)^(a+(1:Nat))
def Kls (a:Nat):= -10^a
def K0d (a:Int) (b:Nat):=Int.tdiv a 10<Kgs b
def Ky7 (a:Nat) (b:Int):=Kls a<Int.tdiv b 10
theorem Jyt {l:List UInt8} {n:Int} (h:l=Lib.itoa n):(⟨⟨l⟩⟩:ByteArray)=X4 n:=by subst h;rfl
theorem Jtd (u:Nat):(X4 (u:Int)).data.toList=Lib.decDigits u:=by unfold X4;rw[Lib.itoa_nonneg]
theorem Kbp (u:Nat) (h:1≤u):(X4 (-(u:Int))).data.toList=45::Lib.decDigits u:=by unfold X4;rw[Lib.itoa_neg u h]
theorem Jig (n:Int) (h0: -9223372036854775808≤n) (h1:n≤9223372036854775807):(X4 n).size≤21:=by
 have:=Lib.itoa_length_le n h0 h1
 show(Lib.itoa n).toArray.size≤21
 simpa using this
theorem Jn3 {u:Nat} (h:¬u<10):Lib.decDigits u=Lib.decDigits (u/10)++[UInt8.ofNat (48+u %10)]:=by rw[Lib.decDigits,dif_neg h]
theorem J12 {x:Nat} (h:x<10):UInt8.ofNat (IntKind.u8.wrap (48+(x:Int))).toNat=UInt8.ofNat (48+x):=by
 rw[J3k (by omega) (by omega)]
 congr 1
theorem Jk9 (n:Int) (h0:¬n<0) (h1:n<10):(⟨⟨[UInt8.ofNat (IntKind.u8.wrap (48+n)).toNat]⟩⟩:ByteArray)=X4 n:=by
 obtain⟨u,rfl⟩:=Int.eq_ofNat_of_zero_le (by omega:0≤n)
 refine Jyt ?_
 have e:Lib.itoa (u:Int)=Lib.decDigits u:=Lib.itoa_nonneg u
 have hu:u<10:=by omega
 rw[e,Lib.decDigits_one hu]
 exact congrArg (·::[]) (J12 hu)
theorem Kbn (n:Int):wpF Tryz.prog Kh0.g (na ()) Tryz.f194 (Jv0 0) (n,()):=by
 refine(by kernel_rfl:(0≤18→-10^0<n→n<10^1→Br (decide (n<0)) (Br (decide ((-10)<n)) (Jxs 3 2) (Jxs 4 2)) (Br (decide (n<10)) (Kkq n) (Jxs 7 2)))=_).mp ?_
 delta Kkq Br Iw
 intro _ h0 h1
 have e0:(10:Int)^0=1:=rfl
 have e1:(10:Int)^1=10:=rfl
 rw[e0] at h0
 rw[e1] at h1
 refine⟨fun h=>absurd (of_decide_eq_true h) (by omega),fun h=>⟨fun h2=>⟨⟨by omega,by decide⟩,Jk9 n (of_decide_eq_false h) (of_decide_eq_true h2)⟩,fun h2=>absurd (of_decide_eq_false h2) (by omega)⟩⟩
theorem Kbm (k:Nat) (n:Int):wpF Tryz.prog ((194,Jv0 k)::Kh0.g) (na ()) Tryz.f194 (Jv0 (k+1)) (n,()):=by
 refine(by kernel_rfl:(k+1≤18→-Kgs k<n→n<10^(k+1+1)→Br (decide (n<0)) (Br (decide ((-10)<n)) ((Iw (0-n)∧k≤18∧Kls k<0-n∧0-n<Kgs k∧Nc (1+ByteArray.size (X4 (0-n)))≤9223372036854775807)∧ByteArray.mk (Array.mk (45::([]++(X4 (0-n)).data.toList)))=X4 n) ((Khz∧Iw (Int.tdiv n 10)∧k≤18∧Ky7 k n∧K0d n k∧Khz∧Iw (Z81 n)∧k≤18∧Kls k<Z81 n∧Z81 n<Kgs k∧Nc (ByteArray.size (X4 (Int.tdiv n 10))+ByteArray.size (X4 (Z81 n)))≤9223372036854775807)∧ByteArray.mk (Array.mk ((X4 (Int.tdiv n 10)).data.toList++(X4 (Z81 n)).data.toList))=X4 n)) (Br (decide (n<10)) (Kkq n) ((Khz∧Iw (Int.tdiv n 10)∧k≤18∧Ky7 k n∧K0d n k∧Khz∧Iw (48+Int.tmod n 10)∧0<1∧Nc (ByteArray.size (X4 (Int.tdiv n 10))+1)≤9223372036854775807)∧ByteArray.mk (Array.mk ((X4 (Int.tdiv n 10)).data.toList++[UInt8.ofNat (Int.toNat (IntKind.wrap IntKind.u8 (48+Int.tmod n 10)))]))=X4 n)))=_).mp ?_
 delta Z81 Khz Kgs Kls K0d Ky7 Kkq Br Iw Nc
 intro hk h0 h1
 have hp0:(0:Int)<10^k:=Int.pow_pos (by decide)
 have hp1:(1:Int)≤10^k:=by omega
 have hp2:(10:Int)^k≤100000000000000000:=by
  have h:=Nat.pow_le_pow_right (n:=10) (by decide) (show k≤17 by omega)
  have h2:((10^k:Nat):Int)≤((10^17:Nat):Int):=Int.ofNat_le.2 h
  have h3:((10^17:Nat):Int)=100000000000000000:=by decide
  have e:((10:Int)^k)=((10^k:Nat):Int):=by simp
  omega
 have e1:(10:Int)^(k+1)=10^k*10:=Int.pow_succ ..
 have e2:(10:Int)^(k+1+1)=10^k*10*10:=by rw[Int.pow_succ,e1]
 rw[e1] at h0
 rw[e2] at h1
 rw[e1]
 generalize(10:Int)^k=p at*
 refine⟨fun h=>⟨fun h2=> ?_,fun h2=> ?_⟩,fun h=>⟨fun h2=>⟨⟨by have:=of_decide_eq_true h2;have:=of_decide_eq_false h;omega,by decide⟩,Jk9 n (of_decide_eq_false h) (of_decide_eq_true h2)⟩,fun h2=> ?_⟩⟩
 ·have h:=of_decide_eq_true h
  have h2:=of_decide_eq_true h2
  obtain⟨u,hu⟩:=Int.eq_ofNat_of_zero_le (by omega:0≤0-n)
  have hn:n= -(u:Int):=by omega
  have hs:=Jig (0-n) (by omega) (by omega)
  refine⟨⟨by omega,by omega,by omega,by omega,by omega⟩,Jyt ?_⟩
  rw[hu,Jtd,hn,Lib.itoa_neg u (by omega)];rfl
 ·have h:=of_decide_eq_true h
  have h2:=of_decide_eq_false h2
  obtain⟨u,hu⟩:=Int.eq_ofNat_of_zero_le (by omega:0≤0-n)
  have hn:n= -(u:Int):=by omega
  have ed:n.tdiv 10= -((u/10:Nat):Int):=by rw[hn,Int.neg_tdiv];rfl
  have em:n.tmod 10= -((u %10:Nat):Int):=by rw[hn,Int.neg_tmod];rfl
  have em2:0-n.tmod 10=((u %10:Nat):Int):=by rw[em];omega
  rw[em2,ed]
  have hs1:=Jig (-((u/10:Nat):Int)) (by omega) (by omega)
  have hs2:=Jig ((u %10:Nat):Int) (by omega) (by omega)
  refine⟨⟨by omega,by omega,by omega,by omega,by omega,by omega,by omega,by omega,by omega,by omega,by omega⟩,Jyt ?_⟩
  rw[Kbp _ (by omega),Jtd,hn,Lib.itoa_neg u (by omega),Jn3 (u:=u) (by omega),Lib.decDigits_one (i:=u %10) (by omega)];rfl
 ·have h:=of_decide_eq_false h
  have h2:=of_decide_eq_false h2
  obtain⟨u,hu⟩:=Int.eq_ofNat_of_zero_le (by omega:0≤n)
  subst hu
  have ed:(u:Int).tdiv 10=((u/10:Nat):Int):=rfl
  have em:(u:Int).tmod 10=((u %10:Nat):Int):=rfl
  rw[em,ed]
  have hs1:=Jig ((u/10:Nat):Int) (by omega) (by omega)
  refine⟨⟨by omega,by omega,by omega,by omega,by omega,by omega,by omega,by decide,by omega⟩,Jyt ?_⟩
  rw[Jtd,Lib.itoa_nonneg,Jn3 (u:=u) (by omega),J12 (by omega)]
theorem J2d:∀k,Ok Tryz.prog 194 (Jv0 k)
 |0=>Vq mixed Kh0.ok (by kernel_rfl) (by kernel_rfl) na fun xx=>Kbn xx.1
 |k+1=>Vq mixed (.cons (J2d k) Kh0.ok) (by kernel_rfl) rfl na fun xx=>Kbm k xx.1
theorem Kp2:Ok Tryz.prog 194 (Jv0 17):=J2d 17
abbrev K4m:=Kh0.add Kp2
def Hk:List UInt8→Bool
 |[]=>true
 |b::r=>Xd (b.toNat:Int)&&Hk r
def Jsr (s:ByteArray):Bool:=Hk s.data.toList&&decide (0<s.size)
def K7s:Con:={args:=[aS],ress:=[Bo],owns:=[],pre:=fun(s,_)=>[s.size≤1000000],spec:=fun(s,_)=>(Jsr s,())}
abbrev Kd4 (s:ByteArray):Ann:={X:=Nat,σ:=fun k=>⟨1,[(0, .one (.str s)),(6, .one (.sl 0))],[(0, .siter s k)]⟩,inv:=fun k=>k≤s.size∧Hk s.data.toList=Hk (s.data.toList.drop k),mu:=fun k=>s.size-k}
theorem Jhj {c:Int} (h:128≤c):Xd c=false:=by
 unfold Xd
 rw[decide_eq_false (show ¬c≤57 by omega),Bool.and_false]
def Klh (a:Nat) (b:Bt):=a≤ByteArray.size b∧Hk (Z12 b)=Hk (List.drop a (Z12 b))
theorem Kp7:Ok Tryz.prog 186 K7s:=J2c K4m Tryz.f186 (U5 (l:=([]:List (Nat×Func))) (by simp)) (fun xx=>Xh (Kd4 xx.1)) (fun xx=>fun _=>na ()) fun xx=>by
 obtain⟨(s:ByteArray),_⟩:=xx
 refine(by kernel_rfl:(ByteArray.size s≤1000000→∃(x:Nat),Sf s (Sf s (0=x))∧Klh x s∧∀(x:Nat),Klh x s→(x<ByteArray.size s→Br true (Br (Kmg s x) (Sf true (false=Jsr s)) (∃(y:Nat),Sf s (Sf s (x+Jgf s x=y))∧Klh y s∧ByteArray.size s-y<ByteArray.size s-x)) (Sf true ((!Lb s B0)=Jsr s)))∧((x<ByteArray.size s→False)→Br false False (Sf true ((!Lb s B0)=Jsr s))))=_).mp ?_
 delta Z12 Kmg Klh Br Sf B0 Lb
 intro hb
 refine⟨(0:Nat),⟨rfl,rfl,rfl⟩,⟨Nat.zero_le _,by simp⟩,fun(k:Nat) hk=>⟨fun h=>⟨fun _=>⟨fun h1=>⟨rfl, ?_⟩,fun h1=> ?_⟩,fun h=>(by cases h)⟩,fun h=> ?_⟩⟩
 ·rw[Jlq] at h1
  have h2:Xd (V4 s k)=false:=by simpa using h1
  unfold Jsr
  have h3:Hk s.data.toList=false:=by
   rw[hk.2,D1 h,Hk]
   by_cases ha:(s[k]'h).toNat<128
   ·rw[←(Jde h ha).1,h2];rfl
   ·rw[Jhj (by omega)];rfl
  rw[h3];rfl
 ·rw[Jlq] at h1
  have h2:Xd (V4 s k)=true:=by simpa using h1
  by_cases ha:(s[k]'h).toNat<128
  ·obtain⟨r1,r2⟩:=Jde h ha
   refine⟨(k+1:Nat),⟨rfl,rfl,by rw[r2]⟩,⟨by omega, ?_⟩,by omega⟩
   rw[hk.2,D1 h,Hk,←r1,h2]
   rfl
  ·have:=Jk1 h (by omega)
   rw[Jhj this] at h2
   cases h2
 ·have e:k=s.size:=Nat.le_antisymm hk.1 (Nat.le_of_not_lt h)
  refine⟨fun h=>(by cases h),fun _=>⟨rfl, ?_⟩⟩
  rw[e,List.drop_eq_nil_of_le (by simp)] at hk
  unfold Jsr
  rw[hk.2,Ji5]
  rfl
abbrev K8n:=K4m.add Kp7
abbrev K4l:=K8n
theorem Jwf (a:ByteArray):bs a.data.toList=a:=rfl
theorem Jd2 (c:UInt8):∀l:List UInt8,Lib.splitK [c] 0 (l.count c) l=Jj7 c l
 |[]=>rfl
 | x :: r => by
  have ih:=Jd2 c r
  by_cases h:x=c
  ·subst h
   rw[Jam,if_pos rfl,List.count_cons_self]
   have e:Lib.index (x::r) [x]=0:=by simp[Lib.index,List.isPrefixOf]
   rw[Lib.splitK,e,←ih]
   rfl
  ·rw[Jam,if_neg h,List.count_cons_of_ne h,←ih]
   have hp:[c].isPrefixOf (x::r)=false:=by
    have:¬c=x:=fun e=>h e.symm
    simp[List.isPrefixOf,this]
   cases hk:r.count c with
   |zero=>rfl
   | succ k =>
    have hi:Lib.index (x::r) [c]=if Lib.index r [c]== -1 then -1 else Lib.index r [c]+1:=by rw[Lib.index,hp];rfl
    by_cases h1:Lib.index r [c]= -1
    ·have e2:Lib.index (x::r) [c]= -1:=by rw[hi,h1];rfl
     simp only[Lib.splitK,e2,h1]
     rfl
    ·have hg:=Lib.index_ge r [c]
     have e2:Lib.index (x::r) [c]=Lib.index r [c]+1:=by rw[hi,if_neg (by simpa using h1)]
     obtain⟨i,hi⟩:=Int.eq_ofNat_of_zero_le (by omega:0≤Lib.index r [c])
     rw[hi] at e2
     have n1:¬((i:Int)== -1)=true:=by simp
     have n2:¬(((i:Int)+1)== -1)=true:=by simp;omega
     simp only[Lib.splitK,e2,hi]
     rw[if_neg n1,if_neg n2]
     have t1:((i:Int)+1).toNat=i+1:=by omega
     have t2:((i:Int)).toNat=i:=by omega
     simp only[t1,t2,Nat.add_zero,List.take_succ_cons,List.length_cons,List.length_nil]
     rfl
theorem Jdy (s:ByteArray) (c:UInt8):Xw s ⟨#[c]⟩=(Jj7 c s.data.toList).map bs:=by
 have h:=Lib.splitB_data ⟨#[c]⟩ 0 (Lib.countB s ⟨#[c]⟩) s
 have hc:Lib.countB s ⟨#[c]⟩=s.data.toList.count c:=Lib.count_one c s.data.toList
 rw[hc] at h
 have h2:(Xw s ⟨#[c]⟩).map (·.data.toList)=Jj7 c s.data.toList:=by
  rw[←Jd2]
  unfold Xw
  rw[hc];exact h
 rw[←h2,List.map_map]
 exact(List.map_id' _).symm
theorem Jal (c:UInt8):∀(l w:List UInt8),w∈Jj7 c l→w.length≤l.length
 |[],w,h=>by
  have:w=[]:=by simpa[Jj7] using h
  rw[this];exact Nat.le_refl _
 | x :: r, w, h => by
  rw[Jam] at h
  split at h
  ·rcases List.mem_cons.1 h with h|h
   ·rw[h];exact Nat.zero_le _
   ·exact Nat.le_succ_of_le (Jal c r w h)
  ·split at h
   ·rename_i e;exact absurd e (J3u c r)
   ·rename_i hh t e
    rcases List.mem_cons.1 h with h|h
    ·rw[h]
     exact Nat.succ_le_succ (Jal c r hh (by rw[e];simp))
    ·exact Nat.le_succ_of_le (Jal c r w (by rw[e];simp[h]))
theorem Xf (l:List UInt8):(bs l).size=l.length:=by show l.toArray.size=_;simp
theorem Jzv (r:ByteArray) (i:Nat):r.extract 0 i=bs (r.data.toList.take i):=by
 rw[←Jwf (r.extract 0 i),Lib.extract_data];simp
theorem Jpx (r:ByteArray) (i:Nat):r.extract i r.size=bs (r.data.toList.drop i):=by
 rw[←Jwf (r.extract i r.size),Lib.extract_data,List.take_of_length_le (by simp)]
theorem Jim (c:UInt8):∀l:List UInt8,(Jj7 c l).length≤l.length+1
 |[]=>Nat.le_refl _
 | x :: r => by
  have ih:=Jim c r
  rw[Jam]
  split
  ·simp;omega
  ·split
   ·simp
   ·rename_i e;rw[e] at ih;simp at ih⊢;omega
theorem Dn (c:UInt8):∀(l:List UInt8) (n:Int),Kh (l++[c]) n=if(Kh l n).2=true∧Xd c.toNat=true then(10*(Kh l n).1+(c.toNat-48),true) else(0,false)
 |[],n=>by
  show(if Xd c.toNat=true then _ else _)=_
  by_cases h:Xd c.toNat=true
  ·rw[if_pos h,if_pos ⟨rfl,h⟩];rfl
  ·rw[if_neg h,if_neg (fun q=>h q.2)]
 |x::l,n=>by
  have ih:=Dn c l (10*n+(x.toNat-48))
  show(if Xd x.toNat=true then Kh (l++[c]) (10*n+(x.toNat-48)) else(0,false))=_
  have e:Kh (x::l) n=if Xd x.toNat=true then Kh l (10*n+(x.toNat-48)) else(0,false):=rfl
  rw[e]
  by_cases h:Xd x.toNat=true
  ·rw[if_pos h,if_pos h,ih]
  ·rw[if_neg h,if_neg h,if_neg (fun q=>by cases q.1)]
theorem Ja3 (u:Nat):10≤u→Lib.decDigits u=Lib.decDigits (u/10)++[UInt8.ofNat (48+u %10)]:=fun h=>Jn3 (by omega)
theorem Ja1 {x:Nat} (h:x<10):(UInt8.ofNat (48+x)).toNat=48+x:=UInt8.toNat_ofNat_of_lt' (by show 48+x<256;omega)
theorem F5 {x:Nat} (h:x<10):Xd (UInt8.ofNat (48+x)).toNat=true:=by
 rw[Ja1 h];unfold Xd;simp;omega
theorem Jn1 (u:Nat):Kh (Lib.decDigits u) 0=((u:Int),true):=by
 induction u using Nat.strongRecOn with
 | ind u ih =>
  by_cases h:u<10
  ·rw[Lib.decDigits_one h]
   show(if Xd (UInt8.ofNat (48+u)).toNat=true then _ else _)=_
   rw[if_pos (F5 h),Ja1 h]
   show((_:Int),true)=_
   congr 1;omega
  ·have hd:u %10<10:=Nat.mod_lt _ (by decide)
   rw[Ja3 u (by omega),Dn,ih (u/10) (by omega),if_pos ⟨rfl,F5 hd⟩,Ja1 hd]
   congr 1;dsimp only;omega
theorem Jju (u:Nat):∃c r,Lib.decDigits u=c::r∧Xd c.toNat=true∧(1≤u→c.toNat≠48):=by
 induction u using Nat.strongRecOn with
 | ind u ih =>
  by_cases h:u<10
  ·refine⟨_,_,Lib.decDigits_one h,F5 h,fun h1=> ?_⟩
   rw[Ja1 h];omega
  ·obtain⟨c,r,e,h1,h2⟩:=ih (u/10) (by omega)
   exact⟨c,r++[UInt8.ofNat (48+u %10)],by rw[Ja3 u (by omega),e];rfl,h1,fun _=>h2 (by omega)⟩
theorem Jfo (u:Nat):1≤(Lib.decDigits u).length:=by
 obtain⟨c,r,e,_⟩:=Jju u
 rw[e];simp
theorem Jvl:∀(k u:Nat),((Lib.decDigits u).length≤k+1↔u<10^(k+1))
 | 0, u => by
  by_cases h:u<10
  ·rw[Lib.decDigits_one h];simp;omega
  ·have h2:=Jfo (u/10)
   rw[Ja3 u (by omega),List.length_append]
   simp only[List.length_cons,List.length_nil]
   constructor
   ·intro q;omega
   ·intro q;simp at q;omega
 | k + 1, u => by
  by_cases h:u<10
  ·rw[Lib.decDigits_one h]
   have:10≤10^(k+1+1):=by
    rw[Nat.pow_succ]
    have:=Nat.pos_of_ne_zero (n:=10^(k+1)) (by simp)
    omega
   simp;omega
  ·have ih:=Jvl k (u/10)
   rw[Ja3 u (by omega),List.length_append]
   simp only[List.length_cons,List.length_nil]
   rw[Nat.pow_succ]
   constructor
   ·intro q
    have:=ih.1 (by omega)
    omega
   ·intro q
    have:=ih.2 (by omega)
    omega
theorem Kch:∀(k:Nat) (l:List UInt8),l.length=k+1→(Kh l 0).2=true→(1<l.length→∀c,l.head? =some c→c.toNat≠48)→l=Lib.decDigits (Kh l 0).1.toNat
 | 0, l, hl, hd, _ => by
  match l,hl with
  | [c], _ =>
   have e:Kh [c] 0=if Xd c.toNat=true then((10*0+(c.toNat-48):Int),true) else(0,false):=rfl
   by_cases h:Xd c.toNat=true
   ·rw[e,if_pos h]
    have hr:=Jfl h
    have:((10*0+((c.toNat:Int)-48))).toNat=c.toNat-48:=by omega
    dsimp only
    rw[this,Lib.decDigits_one (by omega),show 48+(c.toNat-48)=c.toNat by omega,UInt8.ofNat_toNat]
   ·rw[e,if_neg h] at hd;cases hd
 | k + 1, l, hl, hd, h0 => by
  obtain⟨i,c,rfl⟩:∃i c,l=i++[c]:=by
   rcases List.eq_nil_or_concat l with h|⟨i,c,h⟩
   ·rw[h] at hl;simp at hl
   ·exact⟨i,c,by simpa using h⟩
  have hil:i.length=k+1:=by simpa using hl
  have hs:=Dn c i 0
  by_cases hc:(Kh i 0).2=true∧Xd c.toNat=true
  ·rw[if_pos hc] at hs
   have hh:∀d,i.head? =some d→d.toNat≠48:=fun d hd=>h0 (by simp;omega) d (by
    cases i with
    |nil=>cases hd
    |cons a b=>exact hd)
   have ih:=Kch k i hil hc.1 fun _=>hh
   have hr:=Jfl hc.2
   have hn:=(Jaa (l:=i) (n:=0) (Int.le_refl _)).1
   obtain⟨m,hm⟩:=Int.eq_ofNat_of_zero_le hn
   rw[hm] at ih hs
   simp only[Int.toNat_natCast] at ih
   have hm1:1≤m:=by
    rcases Nat.eq_zero_or_pos m with h|h
    ·subst h
     rw[ih,Lib.decDigits_one (by decide)] at hh
     exact absurd rfl (hh 48 rfl)
    ·exact h
   rw[hs]
   have e:(10*(m:Int)+((c.toNat:Int)-48)).toNat=10*m+(c.toNat-48):=by omega
   dsimp only
   rw[e,Ja3 _ (by omega),show(10*m+(c.toNat-48))/10=m by omega,show 48+(10*m+(c.toNat-48)) %10=c.toNat by omega,UInt8.ofNat_toNat,←ih]
  ·rw[hs,if_neg hc] at hd;cases hd
theorem Jrn {c:UInt8} {r:List UInt8} {n:Nat} (h:48≤c.toNat∧c.toNat≤57) (h1:¬1844674407370955162≤n) (h2:¬18446744073709551616≤n*10+(c.toNat-48)):Lib.parseUint10 n (c::r)=Lib.parseUint10 (n*10+(c.toNat-48)) r:=by
 simp only[Lib.parseUint10]
 rw[if_pos h,if_neg h1,if_neg h2]
theorem Jcs (c:UInt8) (r:List UInt8) (n:Int):Kh (c::r) n=if Xd c.toNat=true then Kh r (10*n+(c.toNat-48)) else(0,false):=rfl
theorem Juc (l:List UInt8):∀(n:Nat),(Kh l n).2=true→(Kh l n).1<1000000000000000000→Lib.parseUint10 n l= .ok (Kh l n).1.toNat∧(n:Int)≤(Kh l n).1:=by
 induction l with
 |nil=>exact fun n _ _=>⟨rfl,Int.le_refl _⟩
 | cons c r ih =>
  intro n h1 h2
  by_cases h:Xd c.toNat=true
  ·rw[Jcs,if_pos h] at h1 h2⊢
   have hr:=Jfl h
   have en:(10*(n:Int)+((c.toNat:Int)-48))=((n*10+(c.toNat-48):Nat):Int):=by omega
   rw[en] at h1 h2⊢
   obtain⟨a1,a2⟩:=ih _ h1 h2
   have h3:n<1000000000000000000:=by omega
   refine⟨?_,by omega⟩
   rw[Jrn hr (by omega) (by omega)]
   exact a1
  ·rw[Jcs,if_neg h] at h1;cases h1
theorem Jus {u:Nat} (h:u<1000000000):Lib.parseMag (Lib.decDigits u)= .ok u:=by
 obtain⟨c,r,e,_⟩:=Jju u
 unfold Lib.parseMag
 rw[if_neg (by rw[e];simp)]
 have hd:=Jn1 u
 have:=(Juc (Lib.decDigits u) 0 (by show(Kh _ 0).2=true;rw[hd]) (by show(Kh _ 0).1<_;rw[hd];dsimp only;omega)).1
 rw[this]
 show Lib.NumEnd.ok (Kh _ 0).1.toNat=_
 rw[hd];rfl
theorem Jwo {v:Int} (h0: -1000000000<v) (h1:v<1000000000):Lib.atoiAll (Lib.itoa v)= .ok v:=by
 rcases(by omega:v<0∨0≤v) with hv|hv
 ·obtain⟨u,hu⟩:=Int.eq_ofNat_of_zero_le (by omega:0≤-v)
  have hn:v= -(u:Int):=by omega
  subst hn
  rw[Lib.itoa_neg u (by omega)]
  have hm:=Jus (u:=u) (by omega)
  have e45:(45:UInt8).toNat=45:=rfl
  simp only[Lib.atoiAll,e45]
  rw[if_pos (Or.inr trivial),hm]
  dsimp only
  rw[if_neg (by omega),if_neg (by omega),if_pos trivial]
 ·obtain⟨u,rfl⟩:=Int.eq_ofNat_of_zero_le hv
  have e:Lib.itoa (u:Int)=Lib.decDigits u:=Lib.itoa_nonneg u
  rw[e]
  have hm:=Jus (u:=u) (by omega)
  obtain⟨c,r,e,h3,h4⟩:=Jju u
  have hr:=Jfl h3
  rw[e] at hm⊢
  simp only[Lib.atoiAll]
  rw[if_neg (by omega),hm]
  dsimp only
  rw[if_neg (by omega),if_neg (by omega),if_neg (by omega)]
theorem Jr3 {s:ByteArray} (h:(Ka s).2=true):∃u:Nat,u<1000000000∧s.data.toList=Lib.decDigits u∧(Ka s).1=u:=by
 have hr:=Jn0 s
 obtain⟨u,hu⟩:=Int.eq_ofNat_of_zero_le hr.1
 by_cases hb:Ja2 s=true
 ·unfold Ka at h;rw[if_pos hb] at h;cases h
 ·have ed:Ka s=Kh s.data.toList 0:=by unfold Ka;rw[if_neg hb]
  have hb:Ja2 s=false:=by simpa using hb
  unfold Ja2 at hb
  simp only[Bool.or_eq_false_iff,decide_eq_false_iff_not,Bool.and_eq_false_iff] at hb
  obtain⟨⟨b1,b2⟩,b3⟩:=hb
  have hl:s.data.toList.length=s.size:=by simp
  have:=Kch (s.size-1) s.data.toList (by omega) (by rw[←ed];exact h) (fun hl2 c hc=>by
   rcases b3 with b3|b3
   ·omega
   ·intro q
    apply b3
    have:Ja4 s 0=c.toNat:=by
     unfold Ja4
     rw[List.getD_eq_getElem?_getD]
     have e0:s.data.toList[(0:Int).toNat]? =some c:=by rw[←hc];simp[List.head?_eq_getElem?]
     rw[e0];rfl
    rw[this,q];rfl)
  rw[←ed,hu] at this
  exact⟨u,by omega,this,hu⟩
theorem Jfx:∀{l:List UInt8} {n:Int},Hk l=true→(Kh l n).2=true
 |[],_,_=>rfl
 |c::r,n,h=>by
  rw[Hk,Bool.and_eq_true] at h
  rw[Kh,if_pos h.1]
  exact Jfx h.2
theorem Je8:∀{l:List UInt8} {n:Int},(Kh l n).2=true→Hk l=true
 |[],_,_=>rfl
 | c :: r, n, h => by
  rw[Kh] at h
  by_cases q:Xd c.toNat=true
  ·rw[if_pos q] at h
   rw[Hk,q,Je8 h];rfl
  ·rw[if_neg q] at h;cases h
theorem Jfm:∀{l:List UInt8} {n:Int},(Kh l n).2=false→Kh l n=(0,false)
 |[],_,h=>by cases h
 |c::r,n,h=>by
  rw[Kh] at h⊢
  by_cases q:Xd c.toNat=true
  ·rw[if_pos q] at h⊢;exact Jfm h
  ·rw[if_neg q]
theorem Ju1 (s:ByteArray):(bif bif !Jsr s then true else decide (9<(s.size:Int)) then true else bif decide (1<(s.size:Int)) then(((s.data.toList.getD 0 0).toNat:Int)==48) else false)= !(Ka s).2:=by
 have hb:=Jwm s
 have hl:s.data.toList.length=s.size:=by simp
 unfold Jsr
 cases ha:Hk s.data.toList with
 | false =>
  have e:(Ka s).2=false:=by
   unfold Ka
   split
   ·rfl
   ·cases h:(Kh s.data.toList 0).2 with
    |false=>rfl
    |true=>rw[Je8 h] at ha;cases ha
  rw[e];rfl
 | true =>
  have e:(Ka s).2= !Ja2 s:=by
   unfold Ka
   cases hd:Ja2 s with
   |true=>rfl
   |false=>exact Jfx ha
  rw[e,←hb]
  have e1:decide (0<s.size)= !((s.size:Int)==0):=by
   by_cases q:s.size=0
   ·rw[q];rfl
   ·rw[decide_eq_true (by omega),beq_eq_false_iff_ne.2 (by omega)];rfl
  rw[e1]
  cases((s.size:Int)==0)<;>simp
theorem Jr7 {s:ByteArray} (h:(Ka s).2=true):Jst s=(Ka s).1:=by
 obtain⟨u,h1,h2,h3⟩:=Jr3 h
 have e:Lib.itoa (u:Int)=Lib.decDigits u:=Lib.itoa_nonneg u
 have:=Jwo (v:=(u:Int)) (by omega) (by omega)
 unfold Jst
 rw[h2,←e,this,h3]
def K2c (a:Bt):=bif !Jsr a then true else decide (9<Nc (ByteArray.size a))
theorem Kp6:Ok Tryz.prog 187 J5d:=okW K4l Tryz.f187 na fun xx=>by
 obtain⟨(s:ByteArray),_⟩:=xx
 refine(by kernel_rfl:(ByteArray.size s≤1000000→(ByteArray.size s≤1000000∧(K2c s=false∧decide (1<Nc (ByteArray.size s))=true→Bd 0 (Nc (ByteArray.size s))))∧Br (bif K2c s then true else bif decide (1<Nc (ByteArray.size s)) then Kna s==48 else false) (0=(Ka s).1∧false=(Ka s).2) (ByteArray.size s≤1000000∧Jst s=(Ka s).1∧true=(Ka s).2))=_).mp ?_
 delta Z12 K2c Kna Br Bd Nc
 intro hs
 rw[Ju1]
 refine⟨⟨hs,fun h=>⟨Int.le_refl _,by have:=of_decide_eq_true h.2;omega⟩⟩,fun h=> ?_,fun h=> ?_⟩
 ·have h:(Ka s).2=false:=by simpa using h
  have e:Ka s=(0,false):=by
   unfold Ka at h⊢
   split
   ·rfl
   ·rename_i q
    rw[if_neg q] at h
    exact Jfm h
  rw[e];exact⟨rfl,rfl⟩
 ·have h:(Ka s).2=true:=by simpa using h
  exact⟨hs,Jr7 h,h.symm⟩
abbrev K4k:=K4l.add Kp6
def Jsm:List UInt8→Int→Int
 |[],x=>x
 |b::r,x=>Jsm r ((341*x+(b.toNat:Int)).tmod 9999721)
def Jgd (s:ByteArray):Int:=Jsm s.data.toList 1
def K2t (l:List UInt8):List UInt8:=List.replicate (7-l.length) 48++l
def Jov (s:ByteArray):ByteArray:=bs (K2t (Lib.itoa (Jgd s)))
theorem Jtg:∀{l:List UInt8} {x:Int},0≤x∧x<9999721→0≤Jsm l x∧Jsm l x<9999721
 |[],_,h=>h
 |b::r,x,h=>by
  unfold Jsm
  have hb:(0:Int)≤b.toNat:=by omega
  exact Jtg ⟨Int.tmod_nonneg _ (by omega),Int.tmod_lt_of_pos _ (by decide)⟩
theorem Jm3 (s:ByteArray):0≤Jgd s∧Jgd s<9999721:=Jtg ⟨by decide,by decide⟩
theorem Jij (s:ByteArray):1≤(Lib.itoa (Jgd s)).length∧(Lib.itoa (Jgd s)).length≤7:=by
 obtain⟨h0,h1⟩:=Jm3 s
 obtain⟨u,hu⟩:=Int.eq_ofNat_of_zero_le h0
 rw[hu] at h1⊢
 rw[show Lib.itoa (u:Int)=Lib.decDigits u from Lib.itoa_nonneg u]
 exact⟨Jfo u,(Jvl 6 u).2 (by have:u<9999721:=(by omega);omega)⟩
theorem K5n (n:Nat):Lib.repeatL [48] n=List.replicate n 48:=by
 induction n with
 |zero=>rfl
 |succ n ih=>rw[List.replicate_succ,←ih];rfl
def K22:Con:={args:=[aS],ress:=[tS],owns:=[],pre:=fun(s,_)=>[s.size≤1000000],spec:=fun(s,_)=>(Jov s,())}
abbrev Kdz (s:ByteArray):Ann:={X:=Nat×Int,σ:=fun(k,x)=>⟨0,[(0, .one (.str s)),(3, .one (.int .i64 x)),(7, .one (.int .i64 s.size)),(8, .one (.int .i64 k))],[]⟩,inv:=fun(k,x)=>k≤s.size∧(0≤x∧x<9999721)∧Jsm (s.data.toList.drop k) x=Jgd s,mu:=fun(k,_)=>s.size-k}
theorem Jwc (s:ByteArray) (k:Nat):(s.data.toList.getD k 0).toNat<256:=(s.data.toList.getD k 0).toNat_lt
def Khu (a:Nat×Int):=7-Nc (ByteArray.size (Vg a.2))
def K1y (a:Nat×Int):=Kbv (ByteArray.mk (Array.mk [48])) (Khu a)
def Kmp (a:Nat×Int) (b:Bt):=341*a.2+Nc (UInt8.toNat (List.getD (Z12 b) a.1 0))
def Klf (a:Nat×Int) (b:Bt) (c:Nat×Int):=Int.tmod (Kmp a b) 9999721=c.2
def J6g (a:Nat×Int) (b:Bt):=a.1≤ByteArray.size b∧Bd a.2 9999721∧Jsm (List.drop a.1 (Z12 b)) a.2=Jgd b
def Kjx (a:Nat×Int) (b:Bt) (c:Nat×Int):=J6g a b∧ByteArray.size b-a.1<ByteArray.size b-c.1
def Kiy (a:Nat×Int) (b:Bt):=Iw (341*a.2)∧Bd (Nc a.1) (Nc (ByteArray.size b))∧Iw (Nc (UInt8.toNat (List.getD (Z12 b) a.1 0)))∧Iw (Kmp a b)∧((9999721:Int)=0→False)
theorem Kp8:Ok Tryz.prog 184 K22:=okW K4k Tryz.f184 (fun xx=>Xh (Kdz xx.1)) fun xx=>by
 obtain⟨(s:ByteArray),_⟩:=xx
 refine(by kernel_rfl:(ByteArray.size s≤1000000→∃(x:Nat×Int),Sf s (1=x.2∧Si (Nc (ByteArray.size s)) (0=Nc x.1))∧J6g x s∧∀(x:Nat×Int),J6g x s→Br (decide (Nc x.1<Nc (ByteArray.size s))) (Kiy x s∧Z40 x∧∃(y:Nat×Int),Sf s (Klf x s y∧Si (Nc (ByteArray.size s)) (Jmn x y))∧Kjx y s x) (Iw x.2∧(Iw (Khu x)∧1≤1000000∧(0≤Khu x∧Khu x≤1000000)∧Nc (ByteArray.size (K1y x)+ByteArray.size (Vg x.2))≤9223372036854775807)∧ByteArray.mk (Array.mk ((K1y x).data.toList++(Vg x.2).data.toList))=Jov s))=_).mp ?_
 delta Z12 Z40 Jmn Khu K1y Kmp Klf J6g Kjx Kiy Br Iw Bd Sf Si Nc
 intro hs
 refine⟨((0:Nat),(1:Int)),by(repeat' first|exact rfl|exact⟨⟩|apply And.intro|omega|dsimp only;omega),⟨Nat.zero_le _,by(first|omega|dsimp only;omega),rfl⟩,fun(y:Nat×Int) hk=>⟨fun h=> ?_,fun h=> ?_⟩⟩
 ·obtain⟨k,x⟩:=y
  have hlt:k<s.size:=by simpa using h
  obtain⟨k1,k2,k3⟩:=hk
  dsimp only at k1 k2
  rw[Dp hlt,Jsm] at k3
  have hb:=Jwc s k
  refine⟨by(repeat' first|apply And.intro|(first|omega|dsimp only;omega)),by(repeat' first|apply And.intro|(first|omega|dsimp only;omega)),(k+1,_),⟨rfl,rfl,rfl, ?_⟩,⟨by(first|omega|dsimp only;omega), ?_,k3⟩,by(first|omega|dsimp only;omega)⟩
  ·dsimp only;push_cast;rfl
  ·exact⟨Int.tmod_nonneg _ (by(first|omega|dsimp only;omega)),Int.tmod_lt_of_pos _ (by decide)⟩
 ·obtain⟨k,x⟩:=y
  have hlt:¬k<s.size:=by simpa using h
  obtain⟨k1,k2,k3⟩:=hk
  have e:k=s.size:=by omega
  rw[e,List.drop_eq_nil_of_le (by simp),Jsm] at k3
  have k3:x=Jgd s:=k3
  have hl:=Jij s
  dsimp only
  rw[k3]
  have hz:(Vg (Jgd s)).size=(Lib.itoa (Jgd s)).length:=rfl
  rw[hz]
  have hr:Kbv {data:={toList:=[48]}} (7-((Lib.itoa (Jgd s)).length:Int))=bs (List.replicate (7-(Lib.itoa (Jgd s)).length) 48):=by
   unfold Kbv
   rw[show(7-((Lib.itoa (Jgd s)).length:Int)).toNat=7-(Lib.itoa (Jgd s)).length by omega]
   exact congrArg bs (K5n _)
  have hb:=Jm3 s
  rw[hr,Xf,List.length_replicate]
  exact⟨by(repeat' first|apply And.intro|(first|omega|dsimp only;omega)),⟨by(repeat' first|apply And.intro|(first|omega|dsimp only;omega)),by decide,by(repeat' first|apply And.intro|(first|omega|dsimp only;omega)),by omega⟩,rfl⟩
abbrev K4j:=K4k.add Kp8
def J0e (e:Ev):List ByteArray:=Vg e.1::e.2.1::(e.2.2.1++e.2.2.2.1.map Vg)
def Zu (e:Ev):ByteArray:=Vp (J0e e) ⟨⟨[32]⟩⟩
def Kc5:Con:={args:=[.val false (.list 3 sI), .fn [I] tS],ress:=[(false, .list 9 .str)],owns:=[true],pre:=fun(l,(q,_),_)=>[l.length≤1000000,∀x∈l,Un (q (x,()))],spec:=fun(l,(_,f),_)=>(l.map fun x=>f (x,()),())}
def Kax (a:Int×Unit→Bt) (b:Nat) (c:Li):=List.map (fun(x:Int)=>a (x,PUnit.unit)) (List.take b c)
theorem Kpx:Ok Tryz.prog 199 Kc5:=okW K4j Tryz.f199 (fun xx=>Xh (Ja9 3 9 sI xx.1 tS false xx.2.1.1 xx.2.1.2)) fun xx=>by
 obtain⟨(l:List Int),⟨(q:Int×Unit→List Prop),(f:Int×Unit→ByteArray)⟩,_⟩:=xx
 refine(by kernel_rfl:(Z54 l→Kmi l q→∃(x:Nat),Si (Ln l) (0=Nc x∧Sf l ((fun(x:Int×PUnit)=>q x)=q∧(fun(x:Int×PUnit)=>f x)=f∧List.length (Kax f x l)=0))∧x≤List.length l∧∀(x:Nat),x≤List.length l→Br (decide (Nc x<Ln l)) (Z71 x l∧(Un (q (Z19 l x,PUnit.unit))∧(List.length (Kax f x l)+1)*16≤140737488355328)∧Z14 x∧∃(y:Nat),Si (Ln l) (V9 x y∧Sf l ((fun(x:Int×PUnit)=>q x)=q∧(fun(x:Int×PUnit)=>f x)=f∧Kax f x l++[f (Z19 l x,PUnit.unit)]=Kax f y l))∧y≤List.length l∧J08 l y x) (Kax f x l=List.map (fun(x:Int)=>f (x,PUnit.unit)) l))=_).mp ?_
 delta Z14 Z19 Z54 Z71 V9 J08 J60 Kax Kmi Br Iw Bd Tw Sf Si Ln Nc
 intro hb hq
 refine⟨(0:Nat),⟨rfl,rfl,rfl,rfl,rfl,by simp⟩,Nat.zero_le _,fun(k:Nat) hk=>⟨fun h=> ?_,fun h=> ?_⟩⟩
 ·have hlt:k<l.length:=by simpa using h
  refine⟨by omega,⟨hq (l.getD k 0) (Jc hlt),by simp only[List.length_map,List.length_take];omega⟩,by omega,(k+1:Nat),⟨rfl,by simp,rfl,rfl,rfl, ?_⟩,by omega,by omega⟩
  rw[←Us (d:=0) hlt,List.map_append];rfl
 ·have hlt:¬k<l.length:=by simpa using h
  rw[List.take_of_length_le (by omega)]
abbrev K4i:=K4j.add Kpx
structure L4 (e:Ev):Prop where
 num: -999999999≤e.1∧e.1≤999999999
 nn:e.2.2.1.length≤1000
 nv:e.2.2.2.1.length≤1000
 val:∀v∈e.2.2.2.1,-999999999≤v∧v≤999999999
 siz:((J0e e).map fun s=>s.size+1).sum≤1000000
theorem Jjh {sep:List UInt8} (hs:sep.length=1):∀{l:List (List UInt8)},(Lib.join l sep).length≤(l.map fun x=>x.length+1).sum
 |[]=>by simp[Lib.join,List.intercalate]
 |[x]=>by simp[Lib.join,List.intercalate,List.intersperse]
 |x::y::r=>by
  have ih:=Jjh hs (l:=y::r)
  have e:Lib.join (x::y::r) sep=x++sep++Lib.join (y::r) sep:=by simp[Lib.join,List.intercalate,List.intersperse]
  rw[e]
  simp only[List.length_append,List.map_cons,List.sum_cons] at ih⊢
  omega
theorem Jhq {e:Ev} (h:L4 e):(Lib.join ((J0e e).map (·.data.toList)) [32]).length≤1000000:=by
 refine Nat.le_trans (Jjh (sep:=[32]) rfl) (Nat.le_trans (Nat.le_of_eq ?_) h.siz)
 rw[List.map_map]
 congr 1
def Ks7:Con:={args:=[aEv],ress:=[tS],owns:=[],pre:=fun(e,_)=>[L4 e],spec:=fun(e,_)=>(Zu e,())}
def Ht:=ByteArray.mk (Array.mk [32])
def Knc (a:Ls) (b:Li):=[]++a++List.map (fun(x:Int)=>Vg x) b
theorem Kp9:Ok Tryz.prog 183 Ks7:=okW K4i Tryz.f183 na fun xx=>by
 obtain⟨⟨(n:Int),(k:ByteArray),(ns:List ByteArray),(vs:List Int),(tx:ByteArray)⟩,_⟩:=xx
 refine(by kernel_rfl:(L4 (n,k,ns,vs,tx)→(Iw n∧(2+List.length ns)*16≤140737488355328)∧(Z54 vs∧(∀(x:Int),J60 vs x→Iw x)∧(List.length (Vg n::k::([]++ns))+List.length (List.map (fun(x:Int)=>Vg x) vs))*16≤140737488355328∧List.length (Vg n::k::Knc ns vs)≤1000000∧List.length (Lib.join ((Vg n).data.1::k.data.1::List.map (fun(x:ByteArray)=>Z12 x) (Knc ns vs)) [32])≤140737488355328)∧Vp (Vg n::k::Knc ns vs) Ht=Zu (n,k,ns,vs,tx))=_).mp ?_
 delta Z12 Z54 Ht J60 Knc Iw
 intro h
 have h1: -999999999≤n∧n≤999999999:=h.num
 have h2:ns.length≤1000:=h.nn
 have h3:vs.length≤1000:=h.nv
 have hs:=Jhq h
 simp only[List.nil_append,List.length_cons,List.length_append,List.length_map]
 exact⟨by(repeat' first|apply And.intro|(first|omega|dsimp only;omega)),⟨by omega,fun x hx=>by have:=h.val x hx;omega,by omega,by omega,Nat.le_trans hs (by decide)⟩,rfl⟩
abbrev K4h:=K4i.add Kp9
theorem Jkt (s:ByteArray):(Jov s).size=7:=by
 have h:=Jij s
 unfold Jov K2t
 rw[Xf,List.length_append,List.length_replicate]
 omega
theorem Jp7 {e:Ev} (h:L4 e):(Zu e).size≤1000000:=Jhq h
def J30 (e:Ev):ByteArray:=bs ((Zu e).data.toList++[35]++(Jov (Zu e)).data.toList++[10])
def K7h:Con:={args:=[aEv],ress:=[tS],owns:=[],pre:=fun(e,_)=>[L4 e],spec:=fun(e,_)=>(J30 e,())}
def Kw9 (a:Int) (b:Bt) (c:Ls) (d:Li) (e:Bt):=Array.mk ((Array.mk ((Zu (a,b,c,d,e)).data.toList++[35])).toList++(Jov (Zu (a,b,c,d,e))).data.toList)
theorem Kr0:Ok Tryz.prog 106 K7h:=okW K4h Tryz.f106 na fun xx=>by
 obtain⟨⟨(n:Int),(k:ByteArray),(ns:List ByteArray),(vs:List Int),(tx:ByteArray)⟩,_⟩:=xx
 refine(by kernel_rfl:(L4 (n,k,ns,vs,tx)→L4 (n,k,ns,vs,tx)∧(Nc (ByteArray.size (Zu (n,k,ns,vs,tx))+1)≤9223372036854775807∧ByteArray.size (Zu (n,k,ns,vs,tx))≤1000000∧Nc (ByteArray.size (ByteArray.mk (Array.mk ((Zu (n,k,ns,vs,tx)).data.toList++[35])))+ByteArray.size (Jov (Zu (n,k,ns,vs,tx))))≤9223372036854775807∧Nc (ByteArray.size (ByteArray.mk (Kw9 n k ns vs tx))+1)≤9223372036854775807)∧ByteArray.mk (Array.mk ((Kw9 n k ns vs tx).toList++[10]))=J30 (n,k,ns,vs,tx))=_).mp ?_
 delta Kw9 Nc
 intro h
 have h1:=Jp7 h
 have h2:=Jkt (Zu (n,k,ns,vs,tx))
 have h3:(bs ((Zu (n,k,ns,vs,tx)).data.toList++[35])).size=(Zu (n,k,ns,vs,tx)).size+1:=by rw[Xf,List.length_append];simp
 have h4:(bs ((Zu (n,k,ns,vs,tx)).data.toList++[35]++(Jov (Zu (n,k,ns,vs,tx))).data.toList)).size=(Zu (n,k,ns,vs,tx)).size+8:=by rw[Xf,List.length_append,List.length_append];simp[h2]
 refine⟨h,⟨by omega,h1, ?_, ?_⟩,rfl⟩
 ·show((bs ((Zu (n,k,ns,vs,tx)).data.toList++[35])).size+(Jov (Zu (n,k,ns,vs,tx))).size:Nat)≤(9223372036854775807:Int)
  omega
 ·show((bs ((Zu (n,k,ns,vs,tx)).data.toList++[35]++(Jov (Zu (n,k,ns,vs,tx))).data.toList)).size+1:Nat)≤(9223372036854775807:Int)
  omega
abbrev K8m:=K4h.add Kr0
abbrev K4g:=K8m.add Kou
abbrev Tk:=List ByteArray×Bool
def U2:Tk→ByteArray×Tk
 |([],_)=>(Ja,[],true)
 |(w::l,b)=>bif w.toList==Ja.toList then(Ja,[],true) else(w,l,b)
def Ly (t:Tk):Bool:=bif (t.1.length:Int)==0 then true else(t.1.getD 0 Ja).toList==Ja.toList
theorem Jah:∀(t:Tk),U2 t=bif Ly t then(Ja,[],true) else(t.1.getD 0 Ja,t.1.drop 1,t.2)
 |([],_)=>rfl
 | (w :: l, b) => by
  have e:Ly (w::l,b)=(w.toList==Ja.toList):=by
   unfold Ly
   rw[beq_eq_false_iff_ne.2 (show(((w::l,b):Tk).1.length:Int)≠0 by simp;omega)];rfl
  rw[e]
  show(bif w.toList==Ja.toList then(Ja,[],true) else(w,l,b))=_
  cases w.toList==Ja.toList<;>rfl
theorem Jdl {t:Tk} (h:Ly t=false):0<t.1.length:=by
 unfold Ly at h
 by_cases q:t.1.length=0
 ·rw[q] at h;cases h
 ·omega
def J3p (t:Tk):Int×Tk:=((Ka (U2 t).1).1,(U2 t).2.1,bif (U2 t).2.2 then true else !(Ka (U2 t).1).2)
def Dg:Nat→Tk→List ByteArray→List ByteArray×Tk
 |0,t,o=>(o,t)
 |n+1,t,o=>Dg n (U2 t).2 (o++[(U2 t).1])
def Jai:Nat→Tk→List Int→List Int×Tk
 |0,t,o=>(o,t)
 |n+1,t,o=>Jai n (J3p t).2 (o++[(J3p t).1])
def evz:Ev:=(0,Ja,[],[],Ja)
theorem Jjf (k:ByteArray):(Ji k).1.length≤3∧0≤(Ji k).2.1∧(Ji k).2.1≤4:=by
 cases h:Yr k with
 | false =>
  have e:Ji k=([],0,none,none,none):=by
   unfold Yr at h
   unfold Ji
   cases hm:Uj .str k Lx with
   |none=>rfl
   |some v=>rw[hm] at h;cases h
  rw[e];decide
 |true=>
  rcases Vc h with h|h|h|h|h|h|h|h|h|h|h<;>subst h
  all_goals first|(rw[Jbs];decide)|(rw[K8];decide)|(rw[Va];decide)|(rw[Uv];decide)|(rw[Uw];decide)|(rw[Vo];decide)|(rw[Kw];decide)|(rw[Kk];decide)|(rw[K6];decide)|(rw[K5];decide)|(rw[Ut];decide)
def Xy (ws:List ByteArray):List ByteArray×Tk:=Dg (Ji (U2 (ws,false)).1).1.length (U2 (ws,false)).2 []
def Jcj (ws:List ByteArray):List Int×Tk:=Jai (Ji (U2 (ws,false)).1).2.1.toNat (Xy ws).2 []
def Y0 (ws:List ByteArray):Ev×Bool:=bif Yr (U2 (ws,false)).1 then((0,(U2 (ws,false)).1,(Xy ws).1,(Jcj ws).1,Ja),bif !(Jcj ws).2.2 then((Jcj ws).2.1.length:Int)==0 else false) else(evz,false)
def Kso:Con:={args:=[.val false (.list 9 .str)],ress:=[(true,sEv),Bo],owns:=[],pre:=fun(ws,_)=>[ws.length≤1000000,∀w∈ws,w.size≤1000000],spec:=fun(ws,_)=>((Y0 ws).1,(Y0 ws).2,())}
abbrev J5u (ws:List ByteArray):Nat→Option Ann:=fun id=>if id=0 then some {X:=Nat×Tk×List ByteArray,σ:=fun(i,(rem,b),o)=>⟨9,[(2, .one (.ptr 1 0)),(4, .one (.ptr 2 0)),(5, .one (.fv 3)),(6, .one (.fv 4)),(7, .one (.ptr 5 0)),(8, .one (.ptr 7 0)),(34, .one (.int .i64 (Ji (U2 (ws,false)).1).1.length)),(35, .one (.int .i64 i))],[(1, .box 67 [.int .i64 0, .str Ja, .val (.slice none 0 0), .val (.slice none 0 0), .str Ja]),(2, .box 279 [.sl 0, .bool b]),(3, .clo 210 [.one (.ptr 2 0)] []),(4, .clo 211 [.one (.ptr 2 0)] []),(5, .box 67 [.int .i64 0, .str (U2 (ws,false)).1, .sl 6, .val (.slice none 0 0), .str Ja]),(7, .box 173 [.sl 8, .int .i64 (Ji (U2 (ws,false)).1).2.1, .fno (Ji (U2 (ws,false)).1).2.2.1, .fno (Ji (U2 (ws,false)).1).2.2.2.1, .fno (Ji (U2 (ws,false)).1).2.2.2.2]),(6, .own 9 .str o),(8, .imm 251 Jy4 (Ji (U2 (ws,false)).1).1),(0, .imm 9 .str rem)]⟩,inv:=fun(i,t,o)=>i≤(Ji (U2 (ws,false)).1).1.length∧t.1.length≤1000000∧(∀w∈t.1,w.size≤1000000)∧o.length=i∧Dg ((Ji (U2 (ws,false)).1).1.length-i) t o=Xy ws,mu:=fun(i,_)=>(Ji (U2 (ws,false)).1).1.length-i}
 else if id=2 then some {X:=Nat×Tk×List Int,σ:=fun(i,(rem,b),o)=>⟨10,[(2, .one (.ptr 1 0)),(4, .one (.ptr 2 0)),(6, .one (.fv 4)),(7, .one (.ptr 5 0)),(47, .one (.int .i64 (Ji (U2 (ws,false)).1).2.1)),(48, .one (.int .i64 i))],[(1, .box 67 [.int .i64 0, .str Ja, .val (.slice none 0 0), .val (.slice none 0 0), .str Ja]),(2, .box 279 [.sl 0, .bool b]),(4, .clo 211 [.one (.ptr 2 0)] []),(5, .box 67 [.int .i64 0, .str (U2 (ws,false)).1, .sl 6, .sl 9, .str Ja]),(6, .own 9 .str (Xy ws).1),(9, .own 3 sI o),(0, .imm 9 .str rem)]⟩,inv:=fun(i,t,o)=>i≤(Ji (U2 (ws,false)).1).2.1.toNat∧t.1.length≤1000000∧(∀w∈t.1,w.size≤1000000)∧o.length=i∧Jai ((Ji (U2 (ws,false)).1).2.1.toNat-i) t o=Jcj ws,mu:=fun(i,_)=>(Ji (U2 (ws,false)).1).2.1.toNat-i}
 else none
def Z69 (a:Ls):=(Ji (U2 (a,false)).1).2
def Z70 (a:Ls):=(Ji (U2 (a,false)).1).1
def Jyl (a:Ls):=(Z69 a).1
def Khy (a:Ls):=(Z69 a).2.1
def Khx (a:Ls):=(Z69 a).2.2.2
def Khw (a:Ls):=(Z69 a).2.2.1
def Khs (a:Nat×Tk×Li):=List.getD a.2.1.1 0 B0
def J63 (a:Ls):=Int.toNat (Jyl a)
def Ka3 (a:Ls):=Ln (Z70 a)
def J6x (a:Ls):=List.length (Z70 a)
def K2g (a:Nat×Tk×Ls):=(List.length a.2.2+1)*16≤140737488355328
def K2f (a:Ls):=(Ji (U2 (a,false)).1).1=Z70 a
def K0z (a:Ls):=Sf true (Jae=(Y0 a).1∧false=(Y0 a).2)
def Kx4 (a:Ls):=Uj Sch.str (Z93 a) Lx
def Kis (a:Ls):=Option.getD (Kx4 a) Kak
def Ku5 (a:Nat×(Ls×Bool)×Li) (b:Ls):=a.1≤J63 b∧List.length a.2.1.1≤1000000∧(∀(w:ByteArray),w∈a.2.1.1→ByteArray.size w≤1000000)∧List.length a.2.2=a.1∧Jai (J63 b-a.1) a.2.1 a.2.2=Jcj b
def Ku3 (a:Ls):=(Kis a).2
def Ku2 (a:Ls):=(Ku3 a).2
def Ku1 (a:Ls):=(Ku2 a).2
def Kup (a:Nat×(Ls×Bool)×Ls) (b:Ls):=a.1≤J6x b∧List.length a.2.1.1≤1000000∧(∀(w:ByteArray),w∈a.2.1.1→ByteArray.size w≤1000000)∧List.length a.2.2=a.1∧Dg (J6x b-a.1) a.2.1 a.2.2=Xy b
def Kud (a:Nat×(Ls×Bool)×Li) (b:Ls) (c:Nat×Tk×Li):=Ku5 a b∧J63 b-a.1<J63 b-c.1
def Kt4 (a:Nat×(Ls×Bool)×Ls) (b:Ls) (c:Nat×Tk×Ls):=Kup a b∧J6x b-a.1<J6x b-c.1
def J66 (a:Nat×(Ls×Bool)×Ls) (b:Ls):=Kup a b∧∀(x:Nat×Tk×List ByteArray),x.1≤J6x b∧List.length x.2.1.1≤1000000∧(∀(w:ByteArray),w∈x.2.1.1→ByteArray.size w≤1000000)∧List.length x.2.2=x.1∧Dg (J6x b-x.1) x.2.1 x.2.2=Xy b→Br (decide (Nc x.1<Ka3 b)) (Tw ((Ln x.2.1.1==0)=false→Bd 0 (Ln x.2.1.1))∧Br (bif Ln x.2.1.1==0 then true else Lb (List.getD x.2.1.1 0 B0) B0) (K2g x∧Iw (Nc x.1+1)∧∃(y:Nat×(List ByteArray×Bool)×List ByteArray),Si (Ka3 b) (Nc x.1+1=Nc y.1∧Si 0 (Sf Ja (Sf Vj (Sf Vj (Sf Ja (true=y.2.1.2∧Si 0 (Sf (U2 (b,false)).1 (Sf Vj (Sf Ja (Si (Jyl b) (Sf (Khy b) (Sf (Khw b) (Sf (Khx b) (x.2.2++[B0]=y.2.2∧K2f b∧List.length y.2.1.1=0))))))))))))))∧Kt4 y b x) (Tw (Bd 0 (Ln x.2.1.1))∧((0:Int)≤1∧1≤Ln x.2.1.1∧Ln x.2.1.1≤Ln x.2.1.1)∧K2g x∧Iw (Nc x.1+1)∧∃(y:Nat×(List ByteArray×Bool)×List ByteArray),Si (Ka3 b) (Nc x.1+1=Nc y.1∧Si 0 (Sf Ja (Sf Vj (Sf Vj (Sf Ja (x.2.1.2=y.2.1.2∧Si 0 (Sf (U2 (b,false)).1 (Sf Vj (Sf Ja (Si (Jyl b) (Sf (Khy b) (Sf (Khw b) (Sf (Khx b) (x.2.2++[List.getD x.2.1.1 0 B0]=y.2.2∧K2f b∧List.drop 1 (List.take (List.length x.2.1.1) x.2.1.1)=y.2.1.1))))))))))))))∧Kt4 y b x)) (∃(x_1:Nat×(List ByteArray×Bool)×List Int),Si (Jyl b) (0=Nc x_1.1∧Si 0 (Sf Ja (Sf Vj (Sf Vj (Sf Ja (x.2.1.2=x_1.2.1.2∧Si 0 (Sf (U2 (b,false)).1 (Sf Ja (x.2.2=(Xy b).1∧List.length x_1.2.2=0∧x.2.1.1=x_1.2.1.1)))))))))∧Ku5 x_1 b∧∀(x:Nat×Tk×List Int),x.1≤J63 b∧List.length x.2.1.1≤1000000∧(∀(w:ByteArray),w∈x.2.1.1→ByteArray.size w≤1000000)∧List.length x.2.2=x.1∧Jai (J63 b-x.1) x.2.1 x.2.2=Jcj b→Br (decide (Nc x.1<Jyl b)) (Tw ((Ln x.2.1.1==0)=false→Bd 0 (Ln x.2.1.1))∧Br (bif Ln x.2.1.1==0 then true else Lb (Khs x) B0) (0≤1000000∧(List.length x.2.2+1)*8≤140737488355328∧Iw (Nc x.1+1)∧∃(y:Nat×(List ByteArray×Bool)×List Int),Si (Jyl b) (Nc x.1+1=Nc y.1∧Si 0 (Sf Ja (Sf Vj (Sf Vj (Sf Ja (true=y.2.1.2∧Si 0 (Sf (U2 (b,false)).1 (Sf Ja ((Xy b).1=(Xy b).1∧x.2.2++[(Ka B0).1]=y.2.2∧List.length y.2.1.1=0)))))))))∧Kud y b x) (Tw (Bd 0 (Ln x.2.1.1))∧((0:Int)≤1∧1≤Ln x.2.1.1∧Ln x.2.1.1≤Ln x.2.1.1)∧ByteArray.size (Khs x)≤1000000∧(List.length x.2.2+1)*8≤140737488355328∧Iw (Nc x.1+1)∧∃(y:Nat×(List ByteArray×Bool)×List Int),Si (Jyl b) (Nc x.1+1=Nc y.1∧Si 0 (Sf Ja (Sf Vj (Sf Vj (Sf Ja ((bif x.2.1.2 then true else !(Ka (Khs x)).2)=y.2.1.2∧Si 0 (Sf (U2 (b,false)).1 (Sf Ja ((Xy b).1=(Xy b).1∧x.2.2++[(Ka (Khs x)).1]=y.2.2∧List.drop 1 (List.take (List.length x.2.1.1) x.2.1.1)=y.2.1.1)))))))))∧Kud y b x)) (Sf true ((0,(U2 (b,false)).1,(Xy b).1,x.2.2,Ja)=(Y0 b).1∧(bif !x.2.1.2 then Ln x.2.1.1==0 else false)=(Y0 b).2)))
theorem Kru:Ok Tryz.prog 120 Kso:=J2c K4g Tryz.f120 (U5 (l:=([(210,Tryz.f210),(211,Tryz.f211)]:List (Nat×Func))) (List.forall_mem_cons.2 ⟨by kernel_rfl,List.forall_mem_cons.2 ⟨by kernel_rfl,by simp⟩⟩)) (fun xx=>J5u xx.1) (fun xx=>fun _=>na ()) fun xx=>by
 obtain⟨(ws:List ByteArray),_⟩:=xx
 refine(by kernel_rfl:(Jbc ws→Jhs ws→Tw ((Ln ws==0)=false→Z91 ws)∧Br (bif Ln ws==0 then true else Lb (Z93 ws) B0) (Br true (K0z ws) (∃(x:Nat×(List ByteArray×Bool)×List ByteArray),(0=Ka3 ws∧0=Nc x.1∧Si 0 (B0=Ja∧Sf Vj (Sf Vj (B0=Ja∧true=x.2.1.2∧Si 0 (B0=(U2 (ws,false)).1∧Sf Vj (B0=Ja∧0=Jyl ws∧none=Khy ws∧none=Khw ws∧none=Khx ws∧List.length x.2.2=0∧[]=Z70 ws∧List.length x.2.1.1=0))))))∧J66 x ws)) (Tw (Z91 ws)∧((0:Int)≤1∧1≤Ln ws∧Ln ws≤Ln ws)∧Br (!Option.isSome (Kx4 ws)) (K0z ws) (∃(x:Nat×(List ByteArray×Bool)×List ByteArray),(Ln (Kis ws).1=Ka3 ws∧0=Nc x.1∧Si 0 (B0=Ja∧Sf Vj (Sf Vj (B0=Ja∧false=x.2.1.2∧Si 0 (Z93 ws=(U2 (ws,false)).1∧Sf Vj (B0=Ja∧(Ku3 ws).1=Jyl ws∧(Ku2 ws).1=Khy ws∧(Ku1 ws).1=Khw ws∧(Ku1 ws).2=Khx ws∧List.length x.2.2=0∧(Kis ws).1=Z70 ws∧List.drop 1 (List.take (List.length ws) ws)=x.2.1.1))))))∧J66 x ws)))=_).mp ?_
 delta Z69 Z70 Z91 Z93 Jyl Jbc Khy Khx Khw Khs Vj J63 Jae Ka3 J6x K2g K2f Jgu Kak K0z Jhs Kx4 Kis Ku5 Ku3 Ku2 Ku1 Kup Kud Kt4 J66 Br Iw Bd Tw Sf Si Ln Nc B0 Lb
 intro h1 h2
 have hk0:Yr Ja=false:=by kernel_rfl
 have hB:=Jjf (ws.getD 0 Ja)
 have hsz:∀k,k<ws.length→(ws.getD k Ja).size≤1000000:=fun k hk=>h2 _ (Jc hk)
 refine⟨⟨fun h=> ?_,fun h=> ?_⟩,fun hc=>⟨fun _=>⟨rfl, ?_⟩,fun h=>(by cases h)⟩,fun hc=> ?_⟩
 ·have:=beq_eq_false_iff_ne.1 h;omega
 ·have:=beq_eq_false_iff_ne.1 h;omega
 ·have e:U2 (ws,false)=(Ja,[],true):=by rw[Jah,show Ly (ws,false)=true from hc];rfl
  have e2:Y0 ws=(evz,false):=by unfold Y0;rw[e,hk0];rfl
  rw[e2];exact⟨rfl,rfl⟩
 ·have hc':Ly (ws,false)=false:=hc
  have e:U2 (ws,false)=(ws.getD 0 Ja,ws.drop 1,false):=by rw[Jah,hc'];rfl
  have hl:0<ws.length:=Jdl hc'
  have eD:(Uj Sch.str (ws.getD 0 ({data:={toList:=[]}}:ByteArray)) Lx).getD ([],0,none,none,none)=Ji (ws.getD 0 Ja):=rfl
  have eK:(Uj Sch.str (ws.getD 0 ({data:={toList:=[]}}:ByteArray)) Lx).isSome=Yr (ws.getD 0 Ja):=rfl
  simp only[e,eD,eK]
  refine⟨by(repeat' first|apply And.intro|(first|omega|dsimp only;omega)),by(repeat' first|apply And.intro|(first|omega|dsimp only;omega)),fun hk=>⟨trivial, ?_⟩,fun hk=>⟨((0:Nat),(ws.drop 1,false),[]), ?_,⟨Nat.zero_le _,by simp only[List.length_drop];omega,fun w hw=>h2 w (List.mem_of_mem_drop hw),rfl,by unfold Xy;rw[e];rfl⟩,fun(x:Nat×Tk×List ByteArray) hx=>⟨fun hlt=> ?_,fun hlt=> ?_⟩⟩⟩
  ·have hk:Yr (ws.getD 0 Ja)=false:=by simpa using hk
   have e2:Y0 ws=(evz,false):=by unfold Y0;rw[e,hk];rfl
   rw[e2];exact⟨rfl,rfl⟩
  ·rw[List.take_length]
   repeat' first|exact rfl|exact⟨⟩|apply And.intro|omega|dsimp only;omega
  ·obtain⟨i,⟨rem,b⟩,o⟩:=x
   obtain⟨i1,i2,i3,i4,i5⟩:=hx
   have hlt:i<(Ji (ws.getD 0 Ja)).1.length:=by simpa using hlt
   dsimp only at i1 i2 i3 i4 i5
   have hn:(Ji (ws.getD 0 Ja)).1.length-i=((Ji (ws.getD 0 Ja)).1.length-(i+1))+1:=by omega
   rw[hn,Dg,Jah] at i5
   refine⟨⟨fun h=> ?_,fun h=> ?_⟩,fun h=> ?_,fun h=> ?_⟩
   ·have:=beq_eq_false_iff_ne.1 h;(first|omega|dsimp only;omega)
   ·have:=beq_eq_false_iff_ne.1 h;(first|omega|dsimp only;omega)
   ·have h:Ly (rem,b)=true:=h
    rw[h,cond_true] at i5
    refine⟨by(first|omega|dsimp only;omega),by(repeat' first|apply And.intro|(first|omega|dsimp only;omega)),(i+1,([],true),o++[Ja]), ?_,⟨by(first|omega|dsimp only;omega),by simp,fun w hw=>(by cases hw),by simp[i4],i5⟩,by(first|omega|dsimp only;omega)⟩
    repeat' first|exact rfl|exact⟨⟩|apply And.intro|omega|dsimp only;omega
   ·have h:Ly (rem,b)=false:=h
    have hr:0<rem.length:=Jdl h
    rw[h,cond_false] at i5
    refine⟨by(repeat' first|apply And.intro|(first|omega|dsimp only;omega)),by(repeat' first|apply And.intro|(first|omega|dsimp only;omega)),by(first|omega|dsimp only;omega),by(repeat' first|apply And.intro|(first|omega|dsimp only;omega)),(i+1,(rem.drop 1,b),o++[rem.getD 0 Ja]), ?_,⟨by(first|omega|dsimp only;omega),by simp only[List.length_drop];omega,fun w hw=>i3 w (List.mem_of_mem_drop hw),by simp[i4],i5⟩,by(first|omega|dsimp only;omega)⟩
    dsimp only
    rw[List.take_length]
    repeat' first|exact rfl|exact⟨⟩|apply And.intro|omega|dsimp only;omega
  ·obtain⟨i,⟨rem,b⟩,o⟩:=x
   obtain⟨i1,i2,i3,i4,i5⟩:=hx
   have hlt:¬i<(Ji (ws.getD 0 Ja)).1.length:=by simpa using hlt
   dsimp only at i1 i2 i3 i4 i5
   have hn:(Ji (ws.getD 0 Ja)).1.length-i=0:=by omega
   rw[hn,Dg] at i5
   have eN:(Xy ws).1=o:=by rw[←i5]
   have eT:(Xy ws).2=(rem,b):=by rw[←i5]
   simp only[eN]
   refine⟨((0:Nat),(rem,b),[]), ?_,⟨Nat.zero_le _,i2,i3,rfl,by unfold Jcj;rw[e,eT];rfl⟩,fun(x:Nat×Tk×List Int) hx=>⟨fun hlt=> ?_,fun hlt=> ?_⟩⟩
   ·repeat' first|exact rfl|exact⟨⟩|apply And.intro|omega|dsimp only;omega
   ·obtain⟨j,⟨rem,b⟩,o2⟩:=x
    obtain⟨j1,j2,j3,j4,j5⟩:=hx
    have hlt:(j:Int)<(Ji (ws.getD 0 Ja)).2.1:=of_decide_eq_true hlt
    dsimp only at j1 j2 j3 j4 j5
    have hn:(Ji (ws.getD 0 Ja)).2.1.toNat-j=((Ji (ws.getD 0 Ja)).2.1.toNat-(j+1))+1:=by omega
    rw[hn,Jai,J3p,Jah] at j5
    refine⟨⟨fun h=> ?_,fun h=> ?_⟩,fun h=> ?_,fun h=> ?_⟩
    ·have:=beq_eq_false_iff_ne.1 h;(first|omega|dsimp only;omega)
    ·have:=beq_eq_false_iff_ne.1 h;(first|omega|dsimp only;omega)
    ·have h:Ly (rem,b)=true:=h
     rw[h,cond_true] at j5
     refine⟨by decide,by(first|omega|dsimp only;omega),by(repeat' first|apply And.intro|(first|omega|dsimp only;omega)),(j+1,([],true),o2++[(Ka Ja).1]), ?_,⟨by(first|omega|dsimp only;omega),by simp,fun w hw=>(by cases hw),by simp[j4],j5⟩,by(first|omega|dsimp only;omega)⟩
     repeat' first|exact rfl|exact⟨⟩|apply And.intro|omega|dsimp only;omega
    ·have h:Ly (rem,b)=false:=h
     have hr:0<rem.length:=Jdl h
     rw[h,cond_false] at j5
     refine⟨by(repeat' first|apply And.intro|(first|omega|dsimp only;omega)),by(repeat' first|apply And.intro|(first|omega|dsimp only;omega)),j3 _ (Jc hr),by(first|omega|dsimp only;omega),by(repeat' first|apply And.intro|(first|omega|dsimp only;omega)),(j+1,(rem.drop 1,bif b then true else !(Ka (rem.getD 0 Ja)).2),o2++[(Ka (rem.getD 0 Ja)).1]), ?_,⟨by(first|omega|dsimp only;omega),by simp only[List.length_drop];omega,fun w hw=>j3 w (List.mem_of_mem_drop hw),by simp[j4],j5⟩,by(first|omega|dsimp only;omega)⟩
     dsimp only
     rw[List.take_length]
     repeat' first|exact rfl|exact⟨⟩|apply And.intro|omega|dsimp only;omega
   ·obtain⟨j,⟨rem2,b2⟩,o2⟩:=x
    obtain⟨j1,j2,j3,j4,j5⟩:=hx
    have hlt:¬(j:Int)<(Ji (ws.getD 0 Ja)).2.1:=of_decide_eq_false hlt
    dsimp only at j1 j2 j3 j4 j5
    have hn:(Ji (ws.getD 0 Ja)).2.1.toNat-j=0:=by omega
    rw[hn,Jai] at j5
    have hk:Yr (ws.getD 0 Ja)=true:=by simpa using hk
    have e2:Y0 ws=((0,ws.getD 0 Ja,o,o2,Ja),bif !b2 then((rem2.length:Int)==0) else false):=by
     unfold Y0
     rw[e,hk,cond_true,eN,←j5]
    rw[e2];exact⟨trivial,rfl,rfl⟩
abbrev K4f:=K4g.add Kru
def Jbe (c:UInt8):List UInt8→List UInt8
 |[]=>[]
 |b::r=>if b=c then[] else b::Jbe c r
def Jgp (c:UInt8):List UInt8→List UInt8
 |[]=>[]
 |b::r=>if b=c then r else Jgp c r
def Jss (c:UInt8):List UInt8→Bool
 |[]=>false
 |b::r=>if b=c then true else Jss c r
theorem Juu (c:UInt8):∀l:List UInt8,Lib.cut l [c]=(Jbe c l,Jgp c l,Jss c l)
 |[]=>rfl
 | b :: r => by
  have ih:=Juu c r
  have hg:=Lib.index_ge r [c]
  by_cases h:b=c
  ·subst h
   have e:Lib.index (b::r) [b]=0:=by simp[Lib.index,List.isPrefixOf]
   unfold Lib.cut Jbe Jgp Jss
   rw[e,if_pos rfl,if_pos rfl,if_pos rfl]
   rfl
  ·have hp:[c].isPrefixOf (b::r)=false:=by
    have:¬c=b:=fun e=>h e.symm
    simp[List.isPrefixOf,this]
   have hi:Lib.index (b::r) [c]=if Lib.index r [c]== -1 then -1 else Lib.index r [c]+1:=by rw[Lib.index,hp];rfl
   unfold Jbe Jgp Jss
   rw[if_neg h,if_neg h,if_neg h]
   unfold Lib.cut at ih⊢
   by_cases h1:Lib.index r [c]= -1
   ·have e2:Lib.index (b::r) [c]= -1:=by rw[hi,h1];rfl
    rw[h1,if_neg (by decide)] at ih
    rw[e2,if_neg (by decide)]
    simp only[Prod.mk.injEq] at ih⊢
    exact⟨by rw[←ih.1],ih.2⟩
   ·obtain⟨i,hj⟩:=Int.eq_ofNat_of_zero_le (by omega:0≤Lib.index r [c])
    have e2:Lib.index (b::r) [c]=((i+1:Nat):Int):=by rw[hi,if_neg (by simpa using h1),hj];rfl
    rw[hj,if_pos (by omega)] at ih
    rw[e2,if_pos (by omega)]
    simp only[Prod.mk.injEq,Int.toNat_natCast,List.length_singleton] at ih⊢
    exact⟨by rw[List.take_succ_cons,ih.1],by rw[←ih.2.1];rfl,ih.2.2⟩
theorem Jjv (c:UInt8):∀l:List UInt8,(Jbe c l).length≤l.length
 |[]=>Nat.le_refl _
 |b::r=>by
  have:=Jjv c r
  unfold Jbe
  split<;>simp only[List.length_cons,List.length_nil]<;>omega
theorem Jdn (c:UInt8):∀l:List UInt8,(Jgp c l).length≤l.length
 |[]=>Nat.le_refl _
 |b::r=>by
  have:=Jdn c r
  unfold Jgp
  split<;>simp only[List.length_cons]<;>omega
theorem Jvo (s:ByteArray) (c:UInt8):Jx1 s ⟨⟨[c]⟩⟩=(bs (Jbe c s.data.toList),bs (Jgp c s.data.toList),Jss c s.data.toList):=by
 unfold Jx1
 rw[show((⟨⟨[c]⟩⟩:ByteArray).data.toList)=[c] from rfl,Juu]
 rfl
theorem Jkv (s:ByteArray):Xw s ⟨⟨[32]⟩⟩=Jd3 s 32:=Jdy s 32
def Ys (s:ByteArray):ByteArray:=bs (s.data.toList.take (s.size-8))
def Jm2 (s:ByteArray):ByteArray:=bs (s.data.toList.drop (s.size-7))
def J4o (b:ByteArray):ByteArray:=bs (Jbe 32 b.data.toList)
def J3x (b:ByteArray):ByteArray:=bs (Jgp 32 b.data.toList)
def evX (b:ByteArray):Ev:=((Ka (J4o b)).1,(Y0 (Jd3 (J3x b) 32)).1.2)
def okX (b:ByteArray):Bool:=bif bif !(Ka (J4o b)).2 then true else !(Y0 (Jd3 (J3x b) 32)).2 then true else Jb (evX b) !=0
def Jo2 (s:ByteArray):Bool:=bif bif decide ((s.size:Int)-7-1<0) then true else((s.data.toList.getD (s.size-8) 0).toNat:Int) !=35 then true else !Jsr (Jm2 s)
def V1 (s:ByteArray):Ev×Int:=bif Jo2 s then(evz,25) else bif !((Jov (Ys s)).toList==(Jm2 s).toList) then(evz,27) else bif okX (Ys s) then(evz,25) else(evX (Ys s),0)
def U6 (s:ByteArray) (k:Int):Ev×Int:=if(V1 s).2=0 then((V1 s).1,bif (V1 s).1.1 !=k then 11 else 0) else V1 s
def Kdf:Con:={args:=[aS,aI],ress:=[(true,sEv),I],owns:=[],pre:=fun(s,_)=>[s.size≤1000000],spec:=fun(s,k,_)=>((U6 s k).1,(U6 s k).2,())}
theorem Jkr (t:Tk):((U2 t).1=Ja∨(U2 t).1∈t.1)∧∀w∈(U2 t).2.1,w∈t.1:=by
 rw[Jah]
 cases h:Ly t with
 |true=>exact⟨.inl rfl,fun w hw=>by cases hw⟩
 |false=>exact⟨.inr (Jc (Jdl h)),fun w hw=>List.mem_of_mem_drop hw⟩
theorem Jg1:∀(n:Nat) (t:Tk) (o:List ByteArray),(Dg n t o).1.length=o.length+n
 |0,_,_=>rfl
 |n+1,t,o=>by
  rw[Dg,Jg1 n]
  simp only[List.length_append,List.length_singleton]
  omega
theorem Jg0:∀(n:Nat) (t:Tk) (o:List ByteArray),∀s∈(Dg n t o).1,s∈o∨s=Ja∨s∈t.1
 |0,_,_,s,h=> .inl h
 | n + 1, t, o, s, h => by
  have hs:=Jkr t
  rw[Dg] at h
  rcases Jg0 n _ _ s h with h|h|h
  ·rcases List.mem_append.1 h with h|h
   ·exact .inl h
   ·rw[List.mem_singleton.1 h]
    exact .inr hs.1
  ·exact .inr (.inl h)
  ·exact .inr (.inr (hs.2 _ h))
theorem Jgz:∀(n:Nat) (t:Tk) (o:List Int),(Jai n t o).1.length=o.length+n
 |0,_,_=>rfl
 |n+1,t,o=>by
  rw[Jai,Jgz n]
  simp only[List.length_append,List.length_singleton]
  omega
theorem Jpa {ws:List ByteArray} (hw:∀w∈ws,w.size≤1000000):(Y0 ws).1.2.2.1.length≤3∧(Y0 ws).1.2.2.2.1.length≤4∧∀s∈(Y0 ws).1.2.2.1,s.size≤1000000:=by
 have hB:=Jjf (U2 (ws,false)).1
 have hs:=Jkr (ws,false)
 unfold Y0
 cases Yr (U2 (ws,false)).1 with
 |false=>exact⟨Nat.zero_le _,Nat.zero_le _,fun s h=>by cases h⟩
 | true =>
  simp only[cond_true]
  refine⟨?_, ?_,fun s h=> ?_⟩
  ·unfold Xy;rw[Jg1];simp;omega
  ·unfold Jcj;rw[Jgz];simp;omega
  ·rcases Jg0 _ _ _ s h with h|h|h
   ·cases h
   ·rw[h];decide
   ·exact hw _ (hs.2 _ h)
theorem Dz {s:ByteArray} {k:Int} {x:Ev×Int} (h:V1 s=x) (hx:x.2≠0):U6 s k=x:=by
 unfold U6;rw[h,if_neg hx]
def J1b (a:Bt):=Nc (ByteArray.size a)-(7:Int)-1
def Ka2 (a:Bt):=J1b a+1
def K2i (a:Bt):=decide (J1b a<0)
def Km8 (a:Bt):=ByteArray.extract a 0 (Int.toNat (J1b a))
def Kmq (a:Bt):=ByteArray.extract a (Int.toNat (Ka2 a)) (ByteArray.size a)
def K1s (a:Bt):=ByteArray.size (Km8 a)≤1000000
def K07 (a:Bt) (b:Int):=Jae=(U6 a b).1∧25=(U6 a b).2
def K0a (a:Bt):=Jx1 (Km8 a) Ht
def Kz6 (a:Bt):=(K0a a).1
def Kzo (a:Bt):=(K0a a).2.1
def Kys (a:Bt):=Ka (Kz6 a)
def Kyp (a:Bt):=(Kys a).1
def Kx8 (a:Bt):=(0:Int)≤0∧0≤J1b a∧J1b a≤Nc (ByteArray.size a)
def Kjs (a:Bt):=Xw (Kzo a) Ht
def Kxc (a:Bt):=Y0 (Kjs a)
def Kw8 (a:Bt):=0≤Ka2 a∧Ka2 a≤Nc (ByteArray.size a)∧Nc (ByteArray.size a)≤Nc (ByteArray.size a)
def Kw6 (a:Bt):=(Kxc a).1.2
def Kfa (a:Bt):=(Kw6 a).2
def Kwz (a:Bt):=(Kfa a).2
def Kv0 (a:Bt):=bif K2i a then true else Nc (UInt8.toNat (Gt (Z12 a) (J1b a) 0)) !=35
def Ki0 (a:Bt):=Kv0 a=false
def Kux (a:Bt):=bif !(Kys a).2 then true else !(Kxc a).2
def Kip (a:Bt):=Kux a=false
def Kto (a:Bt):=(Kyp a,(Kw6 a).1,(Kfa a).1,E2 (Kwz a))
theorem Kry:Ok Tryz.prog 108 Kdf:=okW K4f Tryz.f108 na fun xx=>by
 obtain⟨(s:ByteArray),(k:Int),_⟩:=xx
 refine(by kernel_rfl:(ByteArray.size s≤1000000→(Iw (Nc (ByteArray.size s)-7)∧Iw (J1b s))∧((K2i s=false→Bd (J1b s) (Nc (ByteArray.size s)))∧(Ki0 s→Iw (Ka2 s))∧(Ki0 s→Kw8 s)∧(Ki0 s→ByteArray.size (Kmq s)≤1000000))∧Br (bif Kv0 s then true else !Jsr (Kmq s)) (K07 s k) ((Kx8 s∧K1s s∧Iw (Ka2 s)∧Kw8 s)∧Br (!Lb (Jov (Km8 s)) (Kmq s)) (Jae=(U6 s k).1∧27=(U6 s k).2) ((Kx8 s∧K1s s)∧ByteArray.size (Kz6 s)≤1000000∧(ByteArray.size (Kzo s)≤1000000∧1≤1∧List.length (Kjs s)≤1000000∧∀(w:ByteArray),w∈Kjs s→ByteArray.size w≤1000000)∧((Kip s→List.length (Kfa s).1≤1000000)∧(Kip s→List.length (Kwz s).1≤1000000)∧(Kip s→∀(s_1:ByteArray),s_1∈(Kfa s).1→ByteArray.size s_1≤1000000))∧Br (bif Kux s then true else Jb (Kto s) !=0) (K07 s k) (Kto s=(U6 s k).1∧(bif Kyp s !=k then 11 else 0)=(U6 s k).2))))=_).mp ?_
 delta Z12 Ht J1b Jae Ka2 K2i Km8 Kmq K1s K07 K0a Kz6 Kzo Kys Kyp Kx8 Kjs Kxc Kw8 Kw6 Kfa Kwz Kv0 Ki0 Kux Kip Kto Br Iw Bd Nc Gt B0 Lb E2
 intro hs
 have hl:s.data.toList.length=s.size:=by simp
 by_cases hq:s.size<8
 ·have hd:decide ((s.size:Int)-7-1<0)=true:=decide_eq_true (by omega)
  have h0:V1 s=(evz,25):=by unfold V1 Jo2;rw[hd];rfl
  rw[Dz h0 (by decide)]
  simp only[hd,cond_true]
  exact⟨by(repeat' first|apply And.intro|(first|omega|dsimp only;omega)),⟨⟨fun h=>(by cases h),fun h=>(by cases h),fun h=>(by cases h),fun h=>(by cases h)⟩,fun _=>by(repeat' first|exact rfl|exact⟨⟩|apply And.intro|omega|dsimp only;omega),fun h=>(by cases h)⟩⟩
 ·have e1:((s.size:Int)-7-1).toNat=s.size-8:=by omega
  have e2:((s.size:Int)-7-1+1).toNat=s.size-7:=by omega
  have e3:s.extract 0 (s.size-8)=Ys s:=Jzv s _
  have e4:s.extract (s.size-7) s.size=Jm2 s:=Jpx s _
  have hbl:(Ys s).data.toList.length=s.size-8:=by unfold Ys;simp[bs]
  have hbs:(Ys s).size=s.size-8:=by unfold Ys;rw[Xf];simp
  have hts:(Jm2 s).size≤1000000:=by unfold Jm2;rw[Xf];simp;omega
  have hd:decide ((s.size:Int)-7-1<0)=false:=decide_eq_false (by omega)
  simp only[e1,e2,e3,e4,Jvo,Jkv]
  have hsh:Jo2 s=bif bif decide ((s.size:Int)-7-1<0) then true else((s.data.toList.getD (s.size-8) 0).toNat:Int) !=35 then true else !Jsr (Jm2 s):=rfl
  rw[←hsh]
  have hA:(bs (Jbe 32 (Ys s).data.toList)).size≤1000000:=by rw[Xf];have:=Jjv 32 (Ys s).data.toList;omega
  have hZ:(bs (Jgp 32 (Ys s).data.toList)).size≤1000000:=by rw[Xf];have:=Jdn 32 (Ys s).data.toList;omega
  have hW:∀w∈Jd3 (bs (Jgp 32 (Ys s).data.toList)) 32,w.size≤1000000:=by
   intro w hw
   obtain⟨v,hv,rfl⟩:=List.mem_map.1 hw
   have:=Jal _ _ _ hv
   have h3:=Jdn 32 (Ys s).data.toList
   have h4:(bs (Jgp 32 (Ys s).data.toList)).data.toList.length=(Jgp 32 (Ys s).data.toList).length:=rfl
   rw[Xf]
   omega
  refine⟨by(repeat' first|apply And.intro|(first|omega|dsimp only;omega)),⟨fun _=>by(repeat' first|apply And.intro|(first|omega|dsimp only;omega)),fun _=>by(repeat' first|apply And.intro|(first|omega|dsimp only;omega)),fun _=>by(repeat' first|apply And.intro|(first|omega|dsimp only;omega)),fun _=>hts⟩,fun h=> ?_,fun h=>⟨⟨by(repeat' first|apply And.intro|(first|omega|dsimp only;omega)),by omega,by(repeat' first|apply And.intro|(first|omega|dsimp only;omega)),by(repeat' first|apply And.intro|(first|omega|dsimp only;omega))⟩,fun h2=> ?_,fun h2=>⟨⟨by(repeat' first|apply And.intro|(first|omega|dsimp only;omega)),by omega⟩,hA,⟨hZ,by decide, ?_, ?_⟩, ?_⟩⟩⟩
  ·have h0:V1 s=(evz,25):=by unfold V1;rw[h];rfl
   rw[Dz h0 (by decide)];exact⟨rfl,rfl⟩
  ·have h0:V1 s=(evz,27):=by unfold V1;rw[h,h2];rfl
   rw[Dz h0 (by decide)];exact⟨rfl,rfl⟩
  ·unfold Jd3
   rw[List.length_map]
   have:=Jim (UInt8.ofNat (32:Int).toNat) (bs (Jgp 32 (Ys s).data.toList)).data.toList
   have h3:=Jdn 32 (Ys s).data.toList
   have h4:(bs (Jgp 32 (Ys s).data.toList)).data.toList.length=(Jgp 32 (Ys s).data.toList).length:=rfl
   omega
  ·exact hW
  ·have hr:=Jpa (ws:=Jd3 (bs (Jgp 32 (Ys s).data.toList)) 32) hW
   refine⟨⟨fun _=>Nat.le_trans hr.1 (by decide),fun _=>Nat.le_trans hr.2.1 (by decide),fun _=>hr.2.2⟩,fun h3=> ?_,fun h3=> ?_⟩
   ·have h3:okX (Ys s)=true:=h3
    have h0:V1 s=(evz,25):=by unfold V1;rw[h,h2,h3];rfl
    rw[Dz h0 (by decide)];exact⟨rfl,rfl⟩
   ·have h3:okX (Ys s)=false:=h3
    have h0:V1 s=(evX (Ys s),0):=by unfold V1;rw[h,h2,h3];rfl
    have h4:U6 s k=(evX (Ys s),bif (evX (Ys s)).1 !=k then 11 else 0):=by unfold U6;rw[h0];rfl
    rw[h4]
    exact⟨rfl,rfl⟩
abbrev K4e:=K4f.add Kry
def J31:Nat→List UInt8→Int→List Ev→List Ev×Int×Int
 |0,_,at_,o=>(o,at_,0)
 |f+1,l,at_,o=>
  if l=[] then(o,at_,0) else
  if Jss 10 l=false then(o,at_,28) else
  if(U6 (bs (Jbe 10 l)) (o.length+1)).2≠0 then(o,at_,(U6 (bs (Jbe 10 l)) (o.length+1)).2) else
  J31 f (Jgp 10 l) (at_+((Jbe 10 l).length+1)) (o++[(U6 (bs (Jbe 10 l)) (o.length+1)).1])
def K1 (s:ByteArray):List Ev×Int×Int:=if 1000000<s.size then([],0,26) else J31 s.size s.data.toList 0 []
def Jz5:Con:={args:=[aS],ress:=[(false, .list 67 sEv),I,I],owns:=[],pre:=fun _=>[],spec:=fun(s,_)=>((K1 s).1,(K1 s).2.1,(K1 s).2.2,())}
abbrev Kd1 (s:ByteArray):Ann:={X:=Nat×List Ev,σ:=fun(k,o)=>⟨1,[(0, .one (.str s)),(5, .one (.sl 0)),(6, .one (.int .i64 k))],[(0, .own 67 sEv o)]⟩,inv:=fun(k,o)=>k≤s.size∧s.size≤1000000∧o.length≤1000∧∃f,s.size-k≤f∧J31 f (s.data.toList.drop k) k o=K1 s,mu:=fun(k,_)=>s.size-k}
theorem Jvp (c:UInt8):∀{l:List UInt8},Jss c l=true→l=Jbe c l++c::Jgp c l
 |[],h=>by cases h
 | b :: r, h => by
  unfold Jss at h
  unfold Jbe Jgp
  by_cases q:b=c
  ·rw[if_pos q,if_pos q,q];rfl
  ·rw[if_neg q] at h
   rw[if_neg q,if_neg q,List.cons_append,←Jvp c h]
theorem Jvj {s:ByteArray} {k:Int} (h:(U6 s k).2=0):Jb (U6 s k).1=0∧(U6 s k).1.1=k:=by
 have h0:(V1 s).2=0:=by
  unfold U6 at h
  by_cases q:(V1 s).2=0
  ·exact q
  ·rw[if_neg q] at h;exact h
 have e:U6 s k=((V1 s).1,bif (V1 s).1.1 !=k then 11 else 0):=by unfold U6;rw[if_pos h0]
 rw[e] at h⊢
 refine⟨?_, ?_⟩
 ·unfold V1 at h0⊢
  cases h1:Jo2 s with
  |true=>rw[h1] at h0;cases h0
  | false =>
   rw[h1,cond_false] at h0
   rw[cond_false]
   cases h2: !((Jov (Ys s)).toList==(Jm2 s).toList) with
   |true=>rw[h2] at h0;cases h0
   | false =>
    rw[h2,cond_false] at h0
    rw[cond_false]
    cases h3:okX (Ys s) with
    |true=>rw[h3] at h0;cases h0
    | false =>
     rw[cond_false]
     unfold okX at h3
     cases h4:(bif !(Ka (J4o (Ys s))).2 then true else !(Y0 (Jd3 (J3x (Ys s)) 32)).2) with
     |true=>rw[h4] at h3;cases h3
     |false=>
      rw[h4,cond_false] at h3
      exact bne_eq_false_iff_eq.1 h3
 ·have h:(bif (V1 s).1.1 !=k then(11:Int) else 0)=0:=h
  cases h5:((V1 s).1.1 !=k) with
  |true=>rw[h5] at h;cases h
  |false=>exact bne_eq_false_iff_eq.1 h5
def Km4 (a:Bt) (b:Nat×List Ev):=Jx1 (ByteArray.extract a b.1 (ByteArray.size a)) (ByteArray.mk (Array.mk [10]))
def K11 (a:Bt) (b:Nat×List Ev):=ByteArray.size (Km4 a b).1
def K1b (a:Bt) (b:Nat×List Ev):=Nc (K11 a b)+1
def K0w (a:Bt) (b:Nat×List Ev):=U6 (Km4 a b).1 (Ln b.2+1)
def K0q (a:Bt) (b:Nat×List Ev):=(K0w a b).1
def K0p (a:Bt) (b:Nat×List Ev):=(K0w a b).2
def K0h (a:Bt) (b:Nat×List Ev):=(K0q a b).2
def K0f (a:Nat×List Ev) (b:Bt):=Nc a.1+K1b b a
def K0b (a:Bt) (b:Nat×List Ev):=(K0h a b).2
def Kjc (a:Nat×List Ev) (b:Bt):=a.1≤ByteArray.size b∧ByteArray.size b≤1000000∧List.length a.2≤1000∧∃(f:Nat),ByteArray.size b-a.1≤f∧J31 f (List.drop a.1 (Z12 b)) (Nc a.1) a.2=K1 b
theorem K6x:Ok Tryz.prog 34 Jz5:=okW K4e Tryz.f34 (fun xx=>Xh (Kd1 xx.1)) fun xx=>by
 obtain⟨(s:ByteArray),_⟩:=xx
 refine(by kernel_rfl:(Br (decide (1000000<Nc (ByteArray.size s))) ([]=(K1 s).1∧0=(K1 s).2.1∧26=(K1 s).2.2) (∃(x:Nat×List Ev),Sf s (0=Nc x.1∧List.length x.2=0)∧Kjc x s∧∀(x:Nat×List Ev),Kjc x s→Br (decide (Nc x.1<Nc (ByteArray.size s))) (((0≤Nc x.1∧Nc x.1≤Nc (ByteArray.size s)∧Nc (ByteArray.size s)≤Nc (ByteArray.size s))∧ByteArray.size (ByteArray.extract s x.1 (ByteArray.size s))≤1000000)∧Br (!(Km4 s x).2.2) (x.2=(K1 s).1∧Nc x.1=(K1 s).2.1∧28=(K1 s).2.2) ((Iw (Ln x.2+1)∧K11 s x≤1000000)∧Br (K0p s x !=0) (x.2=(K1 s).1∧Nc x.1=(K1 s).2.1∧K0p s x=(K1 s).2.2) ((List.length x.2+1)*88≤140737488355328∧(Iw (K1b s x)∧Iw (K0f x s))∧∃(y:Nat×List Ev),Sf s (K0f x s=Nc y.1∧x.2++[((K0q s x).1,(K0h s x).1,(K0b s x).1,E2 (K0b s x).2)]=y.2)∧Kjc y s∧ByteArray.size s-y.1<ByteArray.size s-x.1))) (x.2=(K1 s).1∧Nc x.1=(K1 s).2.1∧0=(K1 s).2.2)))=_).mp ?_
 delta Z12 Km4 K11 K1b K0w K0q K0p K0h K0f K0b Kjc Br Iw Sf Ln Nc E2
 refine⟨fun h=> ?_,fun h=> ?_⟩
 ·have h:1000000<s.size:=by have:=of_decide_eq_true h;omega
  unfold K1;rw[if_pos h];exact⟨rfl,rfl,rfl⟩
 have hs:¬1000000<s.size:=by have:=of_decide_eq_false h;omega
 have hl:s.data.toList.length=s.size:=by simp
 refine⟨((0:Nat),[]),by(repeat' first|exact rfl|exact⟨⟩|apply And.intro|omega|dsimp only;omega),⟨Nat.zero_le _,by(first|omega|dsimp only;omega),Nat.zero_le _,⟨s.size,by omega,by unfold K1;rw[if_neg hs];rfl⟩⟩,fun(x:Nat×List Ev) hx=>⟨fun hlt=> ?_,fun hlt=> ?_⟩⟩
 ·obtain⟨k,o⟩:=x
  obtain⟨k1,k2,k3,f,kf,k4⟩:=hx
  have hlt:k<s.size:=by simpa using hlt
  dsimp only at k1 k3
  dsimp only at kf
  have hf:f=(f-1)+1:=by omega
  have hne:s.data.toList.drop k≠[]:=by
   intro h
   have:=congrArg List.length h
   rw[List.length_drop,hl] at this
   simp at this;omega
  rw[hf,J31,if_neg hne] at k4
  have e0:s.extract k s.size=bs (s.data.toList.drop k):=Jpx s k
  have e1:((k:Int)).toNat=k:=Int.toNat_natCast k
  simp only[e1,e0,Jvo]
  have k4:(if Jss 10 (s.data.toList.drop k)=false then(o,(k:Int),(28:Int)) else if(U6 (bs (Jbe 10 (s.data.toList.drop k))) (o.length+1)).2≠0 then(o,(k:Int),(U6 (bs (Jbe 10 (s.data.toList.drop k))) (o.length+1)).2) else J31 (f-1) (Jgp 10 (s.data.toList.drop k)) (k+((Jbe 10 (s.data.toList.drop k)).length+1)) (o++[(U6 (bs (Jbe 10 (s.data.toList.drop k))) (o.length+1)).1]))=K1 s:=k4
  have hA:=Jjv 10 (s.data.toList.drop k)
  rw[List.length_drop,hl] at hA
  have hbd:∀l,(bs l).data.toList=l:=fun l=>rfl
  simp only[hbd,Xf,List.length_drop,hl]
  refine⟨by(repeat' first|apply And.intro|(first|omega|dsimp only;omega)),fun h=> ?_,fun h=>⟨⟨by(repeat' first|apply And.intro|(first|omega|dsimp only;omega)),by omega⟩,fun h2=> ?_,fun h2=> ?_⟩⟩
  ·have h:Jss 10 (s.data.toList.drop k)=false:=by simpa using h
   rw[if_pos h] at k4
   rw[←k4];exact⟨rfl,rfl,rfl⟩
  ·have h:Jss 10 (s.data.toList.drop k)=true:=by simpa using h
   have h2:(U6 (bs (Jbe 10 (s.data.toList.drop k))) (o.length+1)).2≠0:=bne_iff_ne.1 h2
   rw[if_neg (by rw[h];decide),if_pos h2] at k4
   rw[←k4];exact⟨rfl,rfl,rfl⟩
  ·have h:Jss 10 (s.data.toList.drop k)=true:=by simpa using h
   have h2:(U6 (bs (Jbe 10 (s.data.toList.drop k))) (o.length+1)).2=0:=bne_eq_false_iff_eq.1 h2
   rw[if_neg (by rw[h];decide),if_neg (by rw[h2];simp)] at k4
   have hc:=Jvp 10 h
   have hlc:=congrArg List.length hc
   rw[List.length_drop,hl,List.length_append,List.length_cons] at hlc
   have hd:s.data.toList.drop (k+((Jbe 10 (s.data.toList.drop k)).length+1))=Jgp 10 (s.data.toList.drop k):=by
    rw[←List.drop_drop]
    have:=congrArg (List.drop ((Jbe 10 (s.data.toList.drop k)).length+1)) hc
    rw[this,show(Jbe 10 (s.data.toList.drop k)).length+1=(Jbe 10 (s.data.toList.drop k)).length+1 from rfl]
    simp[List.drop_append]
   have hn:=(Jvj h2)
   have hnum:=Yg.1 (show Ki (U6 (bs (Jbe 10 (s.data.toList.drop k))) (o.length+1)).1.1 1 1000=0 by
    have:=(Ul hn.1).num
    exact Yg.2 this)
   rw[hn.2] at hnum
   refine⟨by omega,by(repeat' first|apply And.intro|(first|omega|dsimp only;omega)),(k+((Jbe 10 (s.data.toList.drop k)).length+1),o++[(U6 (bs (Jbe 10 (s.data.toList.drop k))) (o.length+1)).1]),by(repeat' first|exact rfl|exact⟨⟩|apply And.intro|omega|dsimp only;omega),⟨by(first|omega|dsimp only;omega),k2,by simp only[List.length_append,List.length_singleton];omega,f-1,by(first|omega|dsimp only;omega), ?_⟩,by(first|omega|dsimp only;omega)⟩
   dsimp only
   rw[hd]
   exact k4
 ·obtain⟨k,o⟩:=x
  obtain⟨k1,k2,k3,f,kf,k4⟩:=hx
  have hlt:¬k<s.size:=by simpa using hlt
  dsimp only at k1 k3
  have e:s.data.toList.drop k=[]:=List.drop_eq_nil_of_le (by omega)
  have k4:J31 f (s.data.toList.drop k) k o=K1 s:=k4
  rw[e] at k4
  have k5:(o,(k:Int),(0:Int))=K1 s:=by
   rw[←k4]
   cases f<;>rfl
  rw[←k5]
  exact⟨rfl,rfl,rfl⟩
abbrev K8l:=K4e.add K6x
theorem Jat (n:Int) (h0: -9223372036854775808≤n) (h1:n≤9223372036854775807):(Vg n).size≤40:=by
 have:=Lib.itoa_length_le n h0 h1
 have e:(Vg n).size=(Lib.itoa n).length:=rfl
 omega
theorem Kbq {l:List Nat} {b:Nat} (h:∀x∈l,x≤b):l.sum≤b*l.length:=by
 induction l with
 |nil=>simp
 |cons x l ih=>
  have h1:=h x (List.mem_cons_self ..)
  have h2:=ih fun y hy=>h y (List.mem_cons_of_mem _ hy)
  rw[List.sum_cons,List.length_cons,Nat.mul_succ]
  omega
theorem Jpf {s:ByteArray} (h:Yi s=true):s.size≤24:=by
 unfold Yi at h
 simp only[Bool.and_eq_true,decide_eq_true_eq] at h
 omega
theorem J4j {k:ByteArray} (h:Yr k=true):k.size≤7:=by
 rcases Vc h with h|h|h|h|h|h|h|h|h|h|h<;>subst h<;>decide
theorem J5m {e:Ev} (h:Jb e=0):L4 e:=by
 have hE:=Ul h
 have hk:=Jjf e.2.1
 have h1:=hE.num
 have h2:=hE.nn
 have h3:=hE.nv
 have h4:=J4j hE.kind
 refine⟨by omega,by omega,by omega,fun v hv=>by have:=hE.val v hv;omega, ?_⟩
 refine Nat.le_trans (Kbq (b:=41) fun x hx=> ?_) ?_
 ·obtain⟨s,hs,rfl⟩:=List.mem_map.1 hx
  rcases List.mem_cons.1 hs with rfl|hs
  ·have:=Jat e.1 (by omega) (by omega);omega
  rcases List.mem_cons.1 hs with rfl|hs
  ·omega
  rcases List.mem_append.1 hs with hs|hs
  ·have:=Jpf (hE.name s hs);omega
  ·obtain⟨v,hv,rfl⟩:=List.mem_map.1 hs
   have:=hE.val v hv
   have:=Jat v (by omega) (by omega);omega
 ·unfold J0e
  simp only[List.length_map,List.length_cons,List.length_append]
  omega
theorem Jt9 {e:Ev} (h:L4 e):(J30 e).size=(Zu e).size+9:=by
 have h2:=Jkt (Zu e)
 unfold J30
 rw[Xf]
 simp[h2]
abbrev K4d:=K8l
def Ksx:Con:={args:=[.val false (.list 67 sEv), .fn [(true,sEv)] tS],ress:=[(false, .list 9 .str)],owns:=[true],pre:=fun(l,(q,_),_)=>[l.length≤1000000,∀x∈l,Un (q (x,()))],spec:=fun(l,(_,f),_)=>(l.map fun x=>f (x,()),())}
def Z7 (a:Nat) (b:List Ev):=Bd (Nc a) (Ln b)
def Z38 (a:List Ev):=List.length a≤1000000
def J1a (a:List Ev) (b:Ev):=b∈a
def Kaz (a:Ev×Unit→Bt) (b:Nat) (c:List Ev):=List.map (fun(x:Ev)=>a (x,PUnit.unit)) (List.take b c)
def J6t (a:List Ev) (b:Nat):=(List.getD a b Jae).2
def J6q (a:List Ev) (b:Nat):=(J6t a b).2
def J6o (a:List Ev) (b:Nat):=(J6q a b).2
def J6n (a:Nat) (b:List Ev) (c:Nat):=a≤List.length b∧List.length b-a<List.length b-c
def Kai (a:List Ev) (b:Ev×Unit→List Prop):=∀(x:Ev),J1a a x→Un (b (x,PUnit.unit))
def Ket (a:List Ev) (b:Nat):=((List.getD a b Jae).1,(J6t a b).1,(J6q a b).1,E2 (J6o a b))
def J6a (a:List Ev) (b:Nat):=(Ket a b,PUnit.unit)
def J9k (a:Ev×Unit→List Prop) (b:List Ev) (c:Nat):=Un (a (J6a b c))
theorem Krq:Ok Tryz.prog 124 Ksx:=okW K4d Tryz.f124 (fun xx=>Xh (Ja9 67 9 sEv xx.1 tS true xx.2.1.1 xx.2.1.2)) fun xx=>by
 obtain⟨(l:List Ev),⟨(q:Ev×Unit→List Prop),(f:Ev×Unit→ByteArray)⟩,_⟩:=xx
 refine(by kernel_rfl:(Z38 l→Kai l q→∃(x:Nat),Si (Ln l) (0=Nc x∧Sf l ((fun(x:Ev×PUnit)=>q x)=q∧(fun(x:Ev×PUnit)=>f x)=f∧List.length (Kaz f x l)=0))∧x≤List.length l∧∀(x:Nat),x≤List.length l→Br (decide (Nc x<Ln l)) (Tw (Z7 x l)∧(J9k q l x∧(List.length (Kaz f x l)+1)*16≤140737488355328)∧Z14 x∧∃(y:Nat),Si (Ln l) (V9 x y∧Sf l ((fun(x:Ev×PUnit)=>q x)=q∧(fun(x:Ev×PUnit)=>f x)=f∧Kaz f x l++[f (J6a l x)]=Kaz f y l))∧J6n y l x) (Kaz f x l=List.map (fun(x:Ev)=>f (x,PUnit.unit)) l))=_).mp ?_
 delta Z7 Z14 Z38 V9 J1a Jae Kaz J6t J6q J6o J6n Kai Ket J6a J9k Br Iw Bd Tw Sf Si Ln Nc B0 E2
 intro hb hq
 refine⟨(0:Nat),⟨rfl,rfl,rfl,rfl,rfl,by simp⟩,Nat.zero_le _,fun(k:Nat) hk=>⟨fun h=> ?_,fun h=> ?_⟩⟩
 ·have hlt:k<l.length:=by simpa using h
  refine⟨by omega,⟨hq (l.getD k evz) (Jc hlt),by simp only[List.length_map,List.length_take];omega⟩,by omega,(k+1:Nat),⟨rfl,by simp,rfl,rfl,rfl, ?_⟩,by omega,by omega⟩
  rw[←Us (d:=evz) hlt,List.map_append];rfl
 ·have hlt:¬k<l.length:=by simpa using h
  rw[List.take_of_length_le (by omega)]
abbrev K4c:=K4d.add Krq
def cQ (pre:Reg→ByteArray→List Prop) (f:Reg→ByteArray→List ByteArray):Con:={args:=[Jbf,aS],ress:=[(false, .list 9 .str)],owns:=[true],pre:=fun(r,s,_)=>pre r s,spec:=fun(r,s,_)=>(f r s,())}
theorem Jwl {tk st:Int} {S:List Sta} {O:List Ord} {M:List Met} {X:List Out} {Q:List Per} {s:ByteArray} (hr:Jj (tk,st,S,O,M,X,Q)):∀(l:List Sta) (n:Int),n-3200000000*l.length≤Jr6 st O M s l n∧Jr6 st O M s l n≤n+3200000000*l.length
 |[],n=>by simp[Jr6]
 | x :: l, n => by
  have hb:=Jj3 (a:=s) (b:=x.1) hr
  have ih:=Jwl (s:=s) hr l (bif x.1.toList !=s.toList then n+Hb st O M s x.1 else n)
  have hd:n-3200000000≤(bif x.1.toList !=s.toList then n+Hb st O M s x.1 else n)∧(bif x.1.toList !=s.toList then n+Hb st O M s x.1 else n)≤n+3200000000:=by
   cases x.1.toList !=s.toList<;>simp only[cond_true,cond_false]<;>omega
  simp only[List.length_cons]
  unfold Jr6
  omega
theorem Jwj {tk st:Int} {S:List Sta} {O:List Ord} {M:List Met} {X:List Out} {Q:List Per} {s:ByteArray} (hr:Jj (tk,st,S,O,M,X,Q)): -19200000000≤Jma st S O M s∧Jma st S O M s≤19200000000:=by
 have h:=Jwl (s:=s) hr S 0
 have nS:S.length≤6:=hr.nS
 unfold Jma
 omega
def Jua:Reg→ByteArray→List ByteArray:=fun(_,st,S,O,M,_) s=>[Vg (Jma st S O M s)]
def Ksr:Con:=cQ (fun r _=>[Jj r]) Jua
theorem Kp1:Ok Tryz.prog 195 Ksr:=okW K4c Tryz.f195 na fun xx=>by
 obtain⟨⟨(tk:Int),(st:Int),(S:List Sta),(O:List Ord),(M:List Met),(X:List Out),(Q:List Per)⟩,(s:ByteArray),_⟩:=xx
 refine(by kernel_rfl:(Jr tk st S O M X Q→(Jr tk st S O M X Q∧Iw (Jma st S O M s))∧[Vg (Jma st S O M s)]=Jua (Z61 tk st S O M X Q) s)=_).mp ?_
 delta Z61 Jr Iw
 intro hr
 have hb:=Jwj (s:=s) hr
 exact⟨⟨hr,by omega,by omega⟩,rfl⟩
abbrev K4b:=K4c.add Kp1
def Jeg:Reg→ByteArray→List ByteArray:=fun(_,_,S,_) s=>[Vg (Hq S s).2.2]
def Kcp:Con:=cQ (fun r s=>[Jj r,0≤Jx r.2.2.1 s]) Jeg
theorem Kp0:Ok Tryz.prog 196 Kcp:=okW K4b Tryz.f196 na fun xx=>by
 obtain⟨⟨(tk:Int),(st:Int),(S:List Sta),(O:List Ord),(M:List Met),(X:List Out),(Q:List Per)⟩,(s:ByteArray),_⟩:=xx
 refine(by kernel_rfl:(Jr tk st S O M X Q→Z23 S s→(Z46 S∧Z23 S s∧Iw (Hq S s).2.2)∧[Vg (Hq S s).2.2]=Jeg (Z61 tk st S O M X Q) s)=_).mp ?_
 delta Z23 Z46 Z61 Jr Iw
 intro hr h
 have nS:S.length≤6:=hr.nS
 have hs:0≤(Hq S s).2.2∧(Hq S s).2.2≤1000:=(Jil hr.sta h).pri
 exact⟨⟨by omega,h,by omega,by omega⟩,rfl⟩
abbrev K4a:=K4b.add Kp0
def Jeh:Reg→ByteArray→List ByteArray:=fun(_,st,_,O,M,_) s=>[Vg (Jv st M (Xz O s)).2.1,Vg (Jv st M (Xz O s)).2.2.1,Vg (Jv st M (Xz O s)).2.2.2.1,Vg (Jv st M (Xz O s)).2.2.2.2.1,Vg (Jv st M (Xz O s)).2.2.2.2.2]
def Kcr:Con:=cQ (fun r s=>[Jj r,0≤Kx r.2.2.2.1 s]) Jeh
def Kx5 (a:List Ord) (b:Bt):=((Xz a b).1,(Xz a b).2.1,(Xz a b).2.2.1,E2 (Xz a b).2.2.2.1,(Xz a b).2.2.2.2.1,E2 (Xz a b).2.2.2.2.2)
def Kxx (a:Int) (b:List Met) (c:List Ord) (d:Bt):=(Jv a b (Kx5 c d)).2
def Kxt (a:Int) (b:List Met) (c:List Ord) (d:Bt):=(Kxx a b c d).2
def Kxs (a:Int) (b:List Met) (c:List Ord) (d:Bt):=(Kxx a b c d).1
def Kxp (a:Int) (b:List Met) (c:List Ord) (d:Bt):=(Kxt a b c d).2
def Kxo (a:Int) (b:List Met) (c:List Ord) (d:Bt):=(Kxt a b c d).1
def Kxn (a:Int) (b:List Met) (c:List Ord) (d:Bt):=(Kxp a b c d).1
def Kxm (a:Int) (b:List Met) (c:List Ord) (d:Bt):=(Kxp a b c d).2
def Kxj (a:Int) (b:List Met) (c:List Ord) (d:Bt):=(Kxm a b c d).2
def Kxi (a:Int) (b:List Met) (c:List Ord) (d:Bt):=(Kxm a b c d).1
theorem Kpz:Ok Tryz.prog 197 Kcr:=okW K4a Tryz.f197 na fun xx=>by
 obtain⟨⟨(tk:Int),(st:Int),(S:List Sta),(O:List Ord),(M:List Met),(X:List Out),(Q:List Per)⟩,(s:ByteArray),_⟩:=xx
 refine(by kernel_rfl:(Jr tk st S O M X Q→0≤Kx O s→(Z47 O∧0≤Kx O s∧Jr tk st S O M X Q∧Kx5 O s∈O)∧(5≤1000000∧∀(x:Int),x∈[Kxs st M O s,Kxo st M O s,Kxn st M O s,Kxi st M O s,Kxj st M O s]→Iw x)∧[Vg (Kxs st M O s),Vg (Kxo st M O s),Vg (Kxn st M O s),Vg (Kxi st M O s),Vg (Kxj st M O s)]=Jeh (Z61 tk st S O M X Q) s)=_).mp ?_
 delta Z47 Z61 Jr Kx5 Kxx Kxt Kxs Kxp Kxo Kxn Kxm Kxj Kxi Iw E2
 intro hr h
 have nO:O.length≤32:=hr.nO
 have hm:=Jbo h
 have hb:=Lu hr hm
 simp only[Prod.eta]
 refine⟨⟨by omega,h,hr,hm⟩,⟨by decide,fun x hx=> ?_⟩,rfl⟩
 have b1:=hb.hours
 have b2:=hb.sent
 have b3:=hb.got
 have b4:=hb.money
 have b5:=hb.fine
 simp only[List.mem_cons,List.not_mem_nil,or_false] at hx
 rcases hx with rfl|rfl|rfl|rfl|rfl<;>omega
abbrev K39:=K4a.add Kpz
def Jc6:List Gap→List ByteArray→List ByteArray
 |[],o=>o
 |g::l,o=>Jc6 l (bif decide ((o.length:Int)<512) then o++[g.1,Vg g.2] else o)
def Jc3:Reg→ByteArray→List ByteArray:=fun(tk,_,_,O,M,_) _=>Jc6 (Kp M tk O) []
def Kcq:Con:=cQ (fun r _=>[Jj r]) Jc3
abbrev J0n (L:List Gap):Ann:={X:=Nat×List ByteArray,σ:=fun(k,o)=>⟨2,[(5, .one (.sl 1)),(11, .one (.sl 0)),(12, .one (.int .i64 L.length)),(13, .one (.int .i64 k))],[(0, .own 200 J3v L),(1, .own 9 .str o)]⟩,inv:=fun(k,o)=>k≤L.length∧o.length≤600∧Jc6 (L.drop k) o=Jc6 L [],mu:=fun(k,_)=>L.length-k}
theorem Jlk {M:List Met} {u:Int} {x:Ord}:∀(n:Nat) (h:Int),(L9 M u x h n).length≤n
 |0,_=>Nat.le_refl _
 |n+1,h=>by
  have:=Jlk (M:=M) (u:=u) (x:=x) n (h+1)
  unfold L9
  rw[List.length_append]
  cases Jo x h&&(decide (h<u)&&decide (Kv M x.1 h<0))<;>simp only[cond_true,cond_false,List.length_singleton,List.length_nil]<;>omega
theorem Jli {S:List Sta} {M:List Met} {u:Int}:∀{O:List Ord},(∀x∈O,Jca S x)→(Kp M u O).length≤48*O.length
 |[],_=>Nat.le_refl _
 |x::l,h=>by
  have h1:=Jli (M:=M) (u:=u) (O:=l) fun y hy=>h y (List.mem_cons_of_mem _ hy)
  have h2:=Jlk (M:=M) (u:=u) (x:=x) (x.2.2.2.1.2-x.2.2.2.1.1).toNat x.2.2.2.1.1
  have h3:=Jox (h x (List.mem_cons_self ..))
  unfold Ko at h3
  unfold Kp Juo
  rw[List.length_append,List.length_cons]
  omega
theorem Jpi {M:List Met} {u:Int} {x:Ord}:∀(n:Nat) (h:Int),∀g∈L9 M u x h n,h≤g.2∧g.2<h+n
 |0,_,g,hg=>by cases hg
 | n + 1, h, g, hg => by
  unfold L9 at hg
  rcases List.mem_append.1 hg with hg|hg
  ·cases hb:Jo x h&&(decide (h<u)&&decide (Kv M x.1 h<0)) with
   |false=>rw[hb] at hg;cases hg
   |true=>
    rw[hb,cond_true] at hg
    rw[List.mem_singleton.1 hg]
    constructor<;>dsimp only<;>omega
  ·have:=Jpi n (h+1) g hg
   omega
theorem Ji9 {S:List Sta} {M:List Met} {u:Int}:∀{O:List Ord},(∀x∈O,Jca S x)→∀g∈Kp M u O,0≤g.2∧g.2≤999999999
 |[],_,g,hg=>by cases hg
 | x :: l, h, g, hg => by
  unfold Kp at hg
  rcases List.mem_append.1 hg with hg|hg
  ·have hs:=(h x (List.mem_cons_self ..)).span
   have h1:=hs.lo
   have h2:=hs.mid
   have h3:=hs.hi
   have:=Jpi _ _ g hg
   omega
  ·exact Ji9 (fun y hy=>h y (List.mem_cons_of_mem _ hy)) g hg
def Kjr (a:Nat×Ls) (b:List Met) (c:Int) (d:List Ord):=a.1≤List.length (Kp b c d)∧List.length a.2≤600∧Jc6 (List.drop a.1 (Kp b c d)) a.2=Jc6 (Kp b c d) []
def Kvu (a:Nat×Ls) (b:List Met) (c:Int) (d:List Ord) (e:Nat×Ls):=Kjr a b c d∧List.length (Kp b c d)-a.1<List.length (Kp b c d)-e.1
theorem Kpw:Ok Tryz.prog 200 Kcq:=okW K39 Tryz.f200 (fun xx=>Xh (J0n (Kp xx.1.2.2.2.2.1 xx.1.1 xx.1.2.2.2.1))) fun xx=>by
 obtain⟨⟨(tk:Int),(st:Int),(S:List Sta),(O:List Ord),(M:List Met),(X:List Out),(Q:List Per)⟩,(s:ByteArray),_⟩:=xx
 refine(by kernel_rfl:(Jr tk st S O M X Q→Jr tk st S O M X Q∧∃(x:Nat×List ByteArray),Si (Ln (Kp M tk O)) (0=Nc x.1∧Sf (Kp M tk O) (List.length x.2=0))∧Kjr x M tk O∧∀(x:Nat×List ByteArray),Kjr x M tk O→Br (decide (Nc x.1<Ln (Kp M tk O))) (Tw (Bd (Nc x.1) (Ln (Kp M tk O)))∧Br (decide (Ln x.2<512)) ((Iw (List.getD (Kp M tk O) x.1 (B0,0)).2∧(List.length x.2+2)*16≤140737488355328)∧Iw (Nc x.1+1)∧∃(y:Nat×List ByteArray),Si (Ln (Kp M tk O)) (Nc x.1+1=Nc y.1∧Sf (Kp M tk O) (x.2++[(List.getD (Kp M tk O) x.1 (B0,0)).1,Vg (List.getD (Kp M tk O) x.1 (B0,0)).2]=y.2))∧Kvu y M tk O x) (Iw (Nc x.1+1)∧∃(y:Nat×List ByteArray),Si (Ln (Kp M tk O)) (Nc x.1+1=Nc y.1∧Sf (Kp M tk O) (x.2=y.2))∧Kvu y M tk O x)) (x.2=Jc3 (Z61 tk st S O M X Q) s))=_).mp ?_
 delta Z61 Jr Kjr Kvu Br Iw Bd Tw Sf Si Ln Nc B0
 intro hr
 have nO:O.length≤32:=hr.nO
 have hL:(Kp M tk O).length≤48*O.length:=Jli hr.ord
 have hG:∀g∈Kp M tk O,0≤g.2∧g.2≤999999999:=Ji9 hr.ord
 have hq:Jc3 (tk,st,S,O,M,X,Q) s=Jc6 (Kp M tk O) []:=rfl
 rw[hq]
 refine⟨hr,((0:Nat),[]),by(repeat' first|exact rfl|exact⟨⟩|apply And.intro|omega|dsimp only;omega),⟨Nat.zero_le _,Nat.zero_le _,rfl⟩,fun(x:Nat×List ByteArray) hx=>⟨fun hlt=> ?_,fun hlt=> ?_⟩⟩
 ·obtain⟨k,o⟩:=x
  obtain⟨k1,k2,k3⟩:=hx
  have hlt:k<(Kp M tk O).length:=by simpa using hlt
  have hg:=hG _ (Jc (d:=(Ja,0)) hlt)
  dsimp only at k1 k2 k3
  rw[Jt (d:=((Ja,0):Gap)) hlt,Jc6] at k3
  have hz:((({data:={toList:=[]}}:ByteArray),(0:Int)):Gap)=(Ja,0):=rfl
  simp only[hz]
  refine⟨by(repeat' first|apply And.intro|(first|omega|dsimp only;omega)),fun h=>⟨⟨by(repeat' first|apply And.intro|(first|omega|dsimp only;omega)),by(first|omega|dsimp only;omega)⟩,by(repeat' first|apply And.intro|(first|omega|dsimp only;omega)),(k+1,o++[((Kp M tk O).getD k (Ja,0)).1,Vg ((Kp M tk O).getD k (Ja,0)).2]),by(repeat' first|exact rfl|exact⟨⟩|apply And.intro|omega|dsimp only;omega),⟨by(first|omega|dsimp only;omega), ?_, ?_⟩,by(first|omega|dsimp only;omega)⟩,fun h=>⟨by(repeat' first|apply And.intro|(first|omega|dsimp only;omega)),(k+1,o),by(repeat' first|exact rfl|exact⟨⟩|apply And.intro|omega|dsimp only;omega),⟨by(first|omega|dsimp only;omega),k2, ?_⟩,by(first|omega|dsimp only;omega)⟩⟩
  ·have h:=of_decide_eq_true h
   simp only[List.length_append,List.length_cons,List.length_nil]
   omega
  all_goals (rw[h] at k3;exact k3)
 ·obtain⟨k,o⟩:=x
  obtain⟨k1,k2,k3⟩:=hx
  have hlt:¬k<(Kp M tk O).length:=by simpa using hlt
  have e:k=(Kp M tk O).length:=by dsimp only at k1;omega
  rw[e,List.drop_length,Jc6] at k3
  exact k3
abbrev K38:=K39.add Kpw
def K7i:Con:={args:=[.val true Xp, .ref 105 Jm9],ress:=[Bo],owns:=[],pre:=fun _=>[],spec:=fun(x,(tk,_),_)=>(Kq x.2.2.1 tk,())}
theorem Kpt:Ok Tryz.prog 203 K7i:=okW K38 Tryz.f203 na fun xx=>by
 obtain⟨⟨(n:ByteArray),(f:ByteArray),⟨(a:Int),(b:Int)⟩,(p:Int)⟩,⟨(tk:Int),(st:Int),(S:List Sta),(O:List Ord),(M:List Met),(X:List Out),(Q:List Per)⟩,_⟩:=xx
 refine(by kernel_rfl:(Kq (a,b) tk=Kq (a,b) tk)=_).mp ?_
 rfl
abbrev K37:=K38.add Kpt
def Kc2:Con:={args:=[.val false (.list 188 Xp), .fn [(true,Xp)] Bo],ress:=[(false, .list 188 Xp)],owns:=[true],pre:=fun(l,(q,_),_)=>[l.length≤1000000,∀x∈l,Un (q (x,()))],spec:=fun(l,(_,f),_)=>(l.filter fun x=>f (x,()),())}
def J28 (a:Out×Unit→Bool) (b:Nat) (c:List Out):=List.filter (fun(x:Out)=>a (x,PUnit.unit)) (List.take b c)
def J6k (a:Nat) (b:List Out) (c:Nat):=a≤List.length b∧Jyd b a c
theorem K5u:Ok Tryz.prog 94 Kc2:=okW K37 Tryz.f94 (fun xx=>Xh (Jof 188 188 Xp xx.1 true xx.2.1.1 xx.2.1.2)) fun xx=>by
 obtain⟨(l:List Out),⟨(q:Out×Unit→List Prop),(f:Out×Unit→Bool)⟩,_⟩:=xx
 refine(by kernel_rfl:(Z59 l→J21 l q→∃(x:Nat),Si (Ln l) (0=Nc x∧Sf l ((fun(x:Out×PUnit)=>q x)=q∧(fun(x:Out×PUnit)=>f x)=f∧List.length (J28 f x l)=0))∧x≤List.length l∧∀(x:Nat),x≤List.length l→Br (Z86 x l) (Tw (Z22 x l)∧J2x q l x∧Br (Kiv f l x) ((List.length (J28 f x l)+1)*56≤140737488355328∧Z14 x∧∃(y:Nat),Si (Ln l) (V9 x y∧Sf l ((fun(x:Out×PUnit)=>q x)=q∧(fun(x:Out×PUnit)=>f x)=f∧J28 f x l++[J9l l x]=J28 f y l))∧J6k y l x) (Z14 x∧∃(y:Nat),Si (Ln l) (V9 x y∧Sf l ((fun(x:Out×PUnit)=>q x)=q∧(fun(x:Out×PUnit)=>f x)=f∧J28 f x l=J28 f y l))∧J6k y l x)) (J28 f x l=List.filter (fun(x:Out)=>f (x,PUnit.unit)) l))=_).mp ?_
 delta Z14 Z22 Z59 Z86 V9 Jgb Jyd J28 J04 J03 J24 J6k J21 J9l J2y Kiv J2x Br Iw Bd Tw Sf Si Ln Nc B0 E2
 intro hb hq
 refine⟨(0:Nat),⟨rfl,rfl,rfl,rfl,rfl,by simp⟩,Nat.zero_le _,fun(k:Nat) hk=>⟨fun h=> ?_,fun h=> ?_⟩⟩
 ·have hlt:k<l.length:=by simpa using h
  have hf:=Jfh (p:=fun x=>f (x,())) hk
  have ht:=Us (d:=Jbd) hlt
  refine⟨by omega,hq (l.getD k Jbd) (Jc hlt),fun h1=> ?_,fun h1=> ?_⟩
  ·have h1:f (l.getD k Jbd,())=true:=h1
   refine⟨by show((List.filter (fun x=>f (x,())) (List.take k l)).length+1)*56≤_;omega,by omega,(k+1:Nat),⟨rfl,by simp,rfl,rfl,rfl, ?_⟩,by omega,by omega⟩
   rw[←ht,List.filter_append,List.filter_cons,if_pos h1];rfl
  ·have h1:f (l.getD k Jbd,())=false:=h1
   refine⟨by omega,(k+1:Nat),⟨rfl,by simp,rfl,rfl,rfl, ?_⟩,by omega,by omega⟩
   rw[←ht,List.filter_append,List.filter_cons,if_neg (by rw[h1];decide)];simp
 ·have hlt:¬k<l.length:=by simpa using h
  rw[List.take_of_length_le (by omega)]
abbrev K36:=K37.add K5u
def Kcw:Con:={args:=[.val false (.list 188 Xp), .fn [(true,Xp)] tS],ress:=[(false, .list 9 .str)],owns:=[true],pre:=fun(l,(q,_),_)=>[l.length≤1000000,∀x∈l,Un (q (x,()))],spec:=fun(l,(_,f),_)=>(l.map fun x=>f (x,()),())}
def Kaw (a:Out×Unit→Bt) (b:Nat) (c:List Out):=List.map (fun(x:Out)=>a (x,PUnit.unit)) (List.take b c)
theorem Kpu:Ok Tryz.prog 202 Kcw:=okW K36 Tryz.f202 (fun xx=>Xh (Ja9 188 9 Xp xx.1 tS true xx.2.1.1 xx.2.1.2)) fun xx=>by
 obtain⟨(l:List Out),⟨(q:Out×Unit→List Prop),(f:Out×Unit→ByteArray)⟩,_⟩:=xx
 refine(by kernel_rfl:(Z59 l→J21 l q→∃(x:Nat),Si (Ln l) (0=Nc x∧Sf l ((fun(x:Out×PUnit)=>q x)=q∧(fun(x:Out×PUnit)=>f x)=f∧List.length (Kaw f x l)=0))∧x≤List.length l∧∀(x:Nat),x≤List.length l→Br (Z86 x l) (Tw (Z22 x l)∧(J2x q l x∧(List.length (Kaw f x l)+1)*16≤140737488355328)∧Z14 x∧∃(y:Nat),Si (Ln l) (V9 x y∧Sf l ((fun(x:Out×PUnit)=>q x)=q∧(fun(x:Out×PUnit)=>f x)=f∧Kaw f x l++[f (J2y l x)]=Kaw f y l))∧J6k y l x) (Kaw f x l=List.map (fun(x:Out)=>f (x,PUnit.unit)) l))=_).mp ?_
 delta Z14 Z22 Z59 Z86 V9 Jgb Jyd J04 Kaw J03 J24 J6k J21 J9l J2y J2x Br Iw Bd Tw Sf Si Ln Nc B0 E2
 intro hb hq
 refine⟨(0:Nat),⟨rfl,rfl,rfl,rfl,rfl,by simp⟩,Nat.zero_le _,fun(k:Nat) hk=>⟨fun h=> ?_,fun h=> ?_⟩⟩
 ·have hlt:k<l.length:=by simpa using h
  refine⟨by omega,⟨hq (l.getD k Jbd) (Jc hlt),by simp only[List.length_map,List.length_take];omega⟩,by omega,(k+1:Nat),⟨rfl,by simp,rfl,rfl,rfl, ?_⟩,by omega,by omega⟩
  rw[←Us (d:=Jbd) hlt,List.map_append];rfl
 ·have hlt:¬k<l.length:=by simpa using h
  rw[List.take_of_length_le (by omega)]
abbrev K35:=K36.add Kpu
def Kcy:Con:={args:=[.val false (.list 235 X7), .fn [(true,X7)] tS],ress:=[(false, .list 9 .str)],owns:=[true],pre:=fun(l,(q,_),_)=>[l.length≤1000000,∀x∈l,Un (q (x,()))],spec:=fun(l,(_,f),_)=>(l.map fun x=>f (x,()),())}
def Kay (a:Per×Unit→Bt) (b:Nat) (c:List Per):=List.map (fun(x:Per)=>a (x,PUnit.unit)) (List.take b c)
theorem Kpq:Ok Tryz.prog 206 Kcy:=okW K35 Tryz.f206 (fun xx=>Xh (Ja9 235 9 X7 xx.1 tS true xx.2.1.1 xx.2.1.2)) fun xx=>by
 obtain⟨(l:List Per),⟨(q:Per×Unit→List Prop),(f:Per×Unit→ByteArray)⟩,_⟩:=xx
 refine(by kernel_rfl:(Z45 l→Kaf l q→∃(x:Nat),Si (Ln l) (0=Nc x∧Sf l ((fun(x:Per×PUnit)=>q x)=q∧(fun(x:Per×PUnit)=>f x)=f∧List.length (Kay f x l)=0))∧x≤List.length l∧∀(x:Nat),x≤List.length l→Br (Jyk x l) (Tw (Bd (Nc x) (Ln l))∧(J92 q l x∧(List.length (Kay f x l)+1)*16≤140737488355328)∧Z14 x∧∃(y:Nat),Si (Ln l) (V9 x y∧Sf l ((fun(x:Per×PUnit)=>q x)=q∧(fun(x:Per×PUnit)=>f x)=f∧Kay f x l++[f (J94 l x)]=Kay f y l))∧Kg5 y l x) (Kay f x l=List.map (fun(x:Per)=>f (x,PUnit.unit)) l))=_).mp ?_
 delta Z14 Z45 Jyk V9 J3d J09 Kay Kg5 Kaf Kgq J94 J92 Br Iw Bd Tw Sf Si Ln Nc B0 E2
 intro hb hq
 refine⟨(0:Nat),⟨rfl,rfl,rfl,rfl,rfl,by simp⟩,Nat.zero_le _,fun(k:Nat) hk=>⟨fun h=> ?_,fun h=> ?_⟩⟩
 ·have hlt:k<l.length:=by simpa using h
  refine⟨by omega,⟨hq (l.getD k Jiy) (Jc hlt),by simp only[List.length_map,List.length_take];omega⟩,by omega,(k+1:Nat),⟨rfl,by simp,rfl,rfl,rfl, ?_⟩,by omega,by omega⟩
  rw[←Us (d:=Jiy) hlt,List.map_append];rfl
 ·have hlt:¬k<l.length:=by simpa using h
  rw[List.take_of_length_le (by omega)]
abbrev K34:=K35.add Kpq
def Jsp:Reg→ByteArray→List ByteArray:=fun(tk,_,_,_,_,X,_) _=>(X.filter fun x=>Kq x.2.2.1 tk).map fun x=>x.1
def Ksq:Con:=cQ (fun r _=>[Jj r]) Jsp
theorem Kpv:Ok Tryz.prog 201 Ksq:=okW K34 Tryz.f201 na fun xx=>by
 obtain⟨⟨(tk:Int),(st:Int),(S:List Sta),(O:List Ord),(M:List Met),(X:List Out),(Q:List Per)⟩,(s:ByteArray),_⟩:=xx
 refine(by kernel_rfl:(Jr tk st S O M X Q→(Z59 X∧Km7 X∧List.length (List.filter (fun(x:Out)=>Kq x.2.2.1 tk) X)≤1000000∧∀(x:Out),x∈List.filter (fun(x:Out)=>Kq x.2.2.1 tk) X→True)∧List.map (fun(x:Out)=>x.1) (List.filter (fun(x:Out)=>Kq x.2.2.1 tk) X)=Jsp (Z61 tk st S O M X Q) s)=_).mp ?_
 delta Z59 Z61 Jr Km7
 intro hr
 have nX:X.length≤16:=hr.nX
 have:=List.length_filter_le (fun x:Out=>Kq x.2.2.1 tk) X
 exact⟨⟨by omega,fun _ _=>trivial,Nat.le_trans this (by omega),fun _ _=>trivial⟩,rfl⟩
abbrev K33:=K34.add Kpv
def Jso:Reg→ByteArray→List ByteArray:=fun(_,_,_,_,_,_,Q) _=>(L8 Q).map fun x=>x.1
def Ksp:Con:=cQ (fun r _=>[Jj r]) Jso
theorem Kpr:Ok Tryz.prog 205 Ksp:=okW K33 Tryz.f205 na fun xx=>by
 obtain⟨⟨(tk:Int),(st:Int),(S:List Sta),(O:List Ord),(M:List Met),(X:List Out),(Q:List Per)⟩,(s:ByteArray),_⟩:=xx
 refine(by kernel_rfl:(Jr tk st S O M X Q→Kjv tk st S O M X Q∧List.map (fun(x:Per)=>x.1) (L8 Q)=Jso (Z61 tk st S O M X Q) s)=_).mp ?_
 delta Z61 Jr Kjv
 intro hr
 have nQ:Q.length≤16:=hr.nQ
 have:=Jdi (Q:=Q)
 exact⟨⟨hr,by omega,fun _ _=>trivial⟩,rfl⟩
abbrev K32:=K33.add Kpr
def Jef:Reg→ByteArray→List ByteArray:=fun(_,st,_) _=>[Vg st]
def Kco:Con:=cQ (fun r _=>[Jj r]) Jef
theorem Kpn:Ok Tryz.prog 209 Kco:=okW K32 Tryz.f209 na fun xx=>by
 obtain⟨⟨(tk:Int),(st:Int),(S:List Sta),(O:List Ord),(M:List Met),(X:List Out),(Q:List Per)⟩,(s:ByteArray),_⟩:=xx
 refine(by kernel_rfl:(Jr tk st S O M X Q→Iw st∧[Vg st]=Jef (Z61 tk st S O M X Q) s)=_).mp ?_
 delta Z61 Jr Iw
 intro hr
 have h1:0≤st∧st≤tk:=hr.st
 have h2:0≤tk∧tk≤999999999:=hr.tk
 exact⟨⟨by omega,by omega⟩,rfl⟩
abbrev K2m:=K32.add Kpn
end Go.Proofs.YtcibbcfiemeoiaaGreatDoor
namespace Go.Proofs.Tryz
open Go.Proofs.YtcibbcfiemeoiaaGreatDoor
def questU:List (ByteArray×Bool×Int×Option Nat):=[(⟨⟨[98,97,108,97,110,99,101]⟩⟩,true,0,some 195),(⟨⟨[114,97,116,101]⟩⟩,true,0,some 196),(⟨⟨[98,105,108,108]⟩⟩,true,1,some 197),(⟨⟨[109,105,115,115,105,110,103]⟩⟩,false,1,some 200),(⟨⟨[111,117,116,97,103,101,115]⟩⟩,false,2,some 201),(⟨⟨[112,101,114,109,105,116,115]⟩⟩,false,3,some 205),(⟨⟨[115,101,116,116,108,101,100]⟩⟩,false,0,some 209)]
end Go.Proofs.Tryz
namespace Go.Proofs.YtcibbcfiemeoiaaGreatDoor
open Go.Sx
abbrev Ug:ByteArray:=⟨⟨[98,97,108,97,110,99,101]⟩⟩
abbrev Hv:ByteArray:=⟨⟨[114,97,116,101]⟩⟩
abbrev Hw:ByteArray:=⟨⟨[98,105,108,108]⟩⟩
abbrev Ua:ByteArray:=⟨⟨[109,105,115,115,105,110,103]⟩⟩
abbrev Uf:ByteArray:=⟨⟨[111,117,116,97,103,101,115]⟩⟩
abbrev Ue:ByteArray:=⟨⟨[112,101,114,109,105,116,115]⟩⟩
abbrev Ud:ByteArray:=⟨⟨[115,101,116,116,108,101,100]⟩⟩
structure NmR (r:Reg):Prop where
 o:∀x∈r.2.2.2.1,x.1.size≤24
 x:∀x∈r.2.2.2.2.2.1,x.1.size≤24
 q:∀x∈r.2.2.2.2.2.2,x.1.size≤24
def Fb (h:Kn):Prop:=∀r∈h.2.2,NmR r
theorem J4b {e:Ev} (h:Jb e=0) (i:Nat):(e.2.2.1.getD i Ja).size≤24:=by
 by_cases hi:i<e.2.2.1.length
 ·exact Jpf ((Ul h).name _ (Jc hi))
 ·rw[List.getD_eq_getElem?_getD,List.getElem?_eq_none (by omega)]
  decide
theorem Jaw {α:Type} {p:α→Prop} {l:List α} {d:α} (h:∀x∈l,p x) (hd:p d) (i:Nat):p (l.getD i d):=by
 by_cases hi:i<l.length
 ·exact h _ (Jc hi)
 ·rw[List.getD_eq_getElem?_getD,List.getElem?_eq_none (by omega)]
  exact hd
theorem J3r {r:Reg} {e:Ev} (hr:NmR r) (hc:Jb e=0):NmR (Js r e):=by
 have hn:=J4b hc
 obtain⟨tk,st,S,O,M,X,Q⟩:=r
 obtain⟨n,k,ns,vs,tx⟩:=e
 have ho:∀x∈O,x.1.size≤24:=hr.o
 have hx:∀x∈X,x.1.size≤24:=hr.x
 have hq:∀x∈Q,x.1.size≤24:=hr.q
 have hO:∀s,(Xz O s).1.size≤24:=fun s=>Jaw (p:=fun x:Ord=>x.1.size≤24) ho (by decide) _
 have hX:∀s,(L7 X s).1.size≤24:=fun s=>Jaw (p:=fun x:Out=>x.1.size≤24) hx (by decide) _
 have hQ:∀s,(Jmj Q s).1.size≤24:=fun s=>Jaw (p:=fun x:Per=>x.1.size≤24) hq (by decide) _
 unfold Js doS
 split
 all_goals refine⟨fun y hy=> ?_,fun y hy=> ?_,fun y hy=> ?_⟩
 all_goals first|exact ho y hy|exact hx y hy|exact hq y hy|(rcases Yd hy with h|h;(first|exact ho y h|exact hx y h|exact hq y h);rw[h];exact hn 0)|(rcases Jbp hy with h|h;rw[h];(first|exact hO _|exact hX _|exact hQ _);(first|exact ho y h|exact hx y h|exact hq y h))
theorem Ktl {h:Kn} {e:Ev} (hN:Fb h) (ha:Um h e=0):Fb (D3 h e):=by
 obtain⟨hc,hacc⟩:=add_zero ha
 obtain⟨E,C,G⟩:=h
 have h0:NmR (Kf G):=by
  unfold Kf
  exact Jaw (p:=NmR) hN ⟨fun x h=>(by cases h),fun x h=>(by cases h),fun x h=>(by cases h)⟩ _
 cases hk:e.2.1.toList==J2.toList with
 |true=>
  unfold D3
  rw[hk,cond_true]
  exact fun r hr=>hN r (List.mem_of_mem_take hr)
 |false=>
  unfold D3
  rw[hk,cond_false]
  intro r hr
  rcases Yd hr with hr|rfl
  ·exact hN r hr
  ·exact J3r h0 hc
theorem Jer {h:Kn} (hN:Fb h):NmR (Kf h.2.2):=by
 unfold Kf
 exact Jaw (p:=NmR) hN ⟨fun x h=>(by cases h),fun x h=>(by cases h),fun x h=>(by cases h)⟩ _
theorem J4n:Fb Zz:=fun r h=>by cases h
abbrev K2s:Sch:= .prod .bool (.prod sI .fnc)
abbrev Qst:=Bool×Int×Option Nat
def Jee:List (ByteArray×Qst):=Tryz.questU
def J2o:Jmi:={kT:=9,gk:=false,gv:=true,ks:= .str,vs:=K2s,l:=Jee}
theorem Kol:wpFM Tryz.prog K2m.g (na ()) (fun _=>na ()) (Sx.look ([]:List (Nat×Func))) Tryz.f118 J2o:=by
 refine(by kernel_rfl:(Kjm∧Sf true ([(Ug,true,0,some 195),(Hv,true,0,some 196),(Hw,true,1,some 197),(Ua,false,1,some 200),(Uf,false,2,some 201),(Ue,false,3,some 205),(Ud,false,0,some 209)]=Jee))=_).mp ?_
 delta Kjm Sf Lb Ug Hw Ua Uf Ue Hv Ud
 exact⟨⟨fun _ _=>rfl,fun _=>rfl⟩,rfl,rfl⟩
theorem J38:Ok Tryz.prog 118 (Jmi.con J2o):=J2b (Jle mixed K2m.ok (by kernel_rfl) (by kernel_rfl) (U5 (l:=([]:List (Nat×Func))) (by simp)) (na ()) (fun _=>na ()) Kol)
abbrev K8k:=K2m.add J38
def J41:Jmi:={kT:=9,gk:=false,gv:=true,ks:= .str,vs:=K2s,l:=Tryz.questU}
theorem Kb5:Ok Tryz.prog 118 (Jmi.con J41):=J38
abbrev Jym:=K8k.add Kb5
def Jck (k:ByteArray):Qst:=(Uj .str k Jee).getD (false,0,none)
def Jhb (k:ByteArray):Bool:=(Uj .str k Jee).isSome
def Kr7:ByteArray:=⟨⟨[110,111,110,101]⟩⟩
def Jmk (l:List ByteArray):ByteArray:=bif (l.length:Int)==0 then Kr7 else Vp l ⟨⟨[32]⟩⟩
def Jgs (named:Bool) (what:Int) (f:Reg→ByteArray→List ByteArray) (r:Reg) (ws:List ByteArray):ByteArray×Int:=
 bif named then(bif (ws.length:Int)==2 then(bif (ws.getD 1 Ja).toList==Ja.toList then(Ja,25) else bif !Ve r what (ws.getD 1 Ja) then(Ja,10) else(Jmk (f r (ws.getD 1 Ja)),0)) else(Ja,25))
 else bif (ws.length:Int) !=1 then(Ja,25) else(Jmk (f r Ja),0)
def Za (r:Reg) (ws:List ByteArray):ByteArray×Int:=match(Jck (ws.getD 0 Ja)).2.2 with
 |some 195=>Jgs true 0 Jua r ws
 |some 196=>Jgs true 0 Jeg r ws
 |some 197=>Jgs true 1 Jeh r ws
 |some 200=>Jgs false 1 Jc3 r ws
 |some 201=>Jgs false 2 Jsp r ws
 |some 205=>Jgs false 3 Jso r ws
 |some 209=>Jgs false 0 Jef r ws
 |_=>(Ja,0)
structure Jf2 (h:Kn) (ws:List ByteArray):Prop where
 hist:Ke h
 nm:Fb h
 len:1≤ws.length
 key:Jhb (ws.getD 0 Ja)=true
 max:ws.length≤1000000
 siz:∀w∈ws,w.size≤1000000
def J0c:Xu:={T? :=none,s:=Jiu,args:=[.val false (.list 9 .str)],ress:=[tS,I],pre:=fun h (ws,_)=>[Jf2 h ws],spec:=fun h (ws,_)=>((Za (Kf h.2.2) ws).1,(Za (Kf h.2.2) ws).2,()),post:=fun h _=>h}
def SmL (l:List ByteArray):Prop:=l.length≤2000∧∀w∈l,w.size≤40
theorem K0 {l:List ByteArray} (h:SmL l):l.length≤1000000∧(Lib.join (l.map fun x=>x.data.toList) [32]).length≤140737488355328:=by
 refine⟨by have:=h.1;omega,Nat.le_trans (Jjh rfl) ?_⟩
 have:∀l:List ByteArray,(∀w∈l,w.size≤40)→((l.map fun x=>x.data.toList).map fun x=>x.length+1).sum≤41*l.length:=by
  intro l
  induction l with
  |nil=>intro _;simp
  |cons x r ih=>
   intro h
   have h1:=ih fun w hw=>h w (List.mem_cons_of_mem _ hw)
   have h2:x.data.toList.length≤40:=h x (List.mem_cons_self ..)
   simp only[List.map_cons,List.sum_cons,List.length_cons]
   omega
 have h1:=this l h.2
 have h2:=h.1
 omega
theorem Jin {l:List Int} (h:l.length≤2000) (hb:∀n∈l,-9223372036854775808≤n∧n≤9223372036854775807):SmL (l.map Vg):=by
 refine⟨by simpa using h,fun w hw=> ?_⟩
 obtain⟨n,hn,rfl⟩:=List.mem_map.1 hw
 exact Jat n (hb n hn).1 (hb n hn).2
theorem Jo1 {r:Reg} (hr:Jj r) (s:ByteArray):SmL (Jua r s):=by
 obtain⟨tk,st,S,O,M,X,Q⟩:=r
 have hb:=Jwj (s:=s) hr
 exact Jin (l:=[Jma st S O M s]) (by simp) fun n hn=>by rw[List.mem_singleton.1 hn];omega
theorem Jip {r:Reg} (hr:Jj r) {s:ByteArray} (h:0≤Jx r.2.2.1 s):SmL (Jeg r s):=by
 obtain⟨tk,st,S,O,M,X,Q⟩:=r
 have hs:0≤(Hq S s).2.2∧(Hq S s).2.2≤1000:=(Jil hr.sta h).pri
 exact Jin (l:=[(Hq S s).2.2]) (by simp) fun n hn=>by rw[List.mem_singleton.1 hn];omega
theorem Jir {r:Reg} (hr:Jj r) {s:ByteArray} (h:0≤Kx r.2.2.2.1 s):SmL (Jeh r s):=by
 obtain⟨tk,st,S,O,M,X,Q⟩:=r
 have hb:=Lu hr (Jbo h)
 have b1:=hb.hours
 have b2:=hb.sent
 have b3:=hb.got
 have b4:=hb.money
 have b5:=hb.fine
 refine Jin (l:=[(Jv st M (Xz O s)).2.1,(Jv st M (Xz O s)).2.2.1,(Jv st M (Xz O s)).2.2.2.1,(Jv st M (Xz O s)).2.2.2.2.1,(Jv st M (Xz O s)).2.2.2.2.2]) (by simp) fun n hn=> ?_
 simp only[List.mem_cons,List.not_mem_nil,or_false] at hn
 rcases hn with rfl|rfl|rfl|rfl|rfl<;>omega
theorem Ji8:∀{l:List Gap} {o:List ByteArray},(∀g∈l,g.1.size≤40∧0≤g.2∧g.2≤999999999)→o.length≤514→(∀w∈o,w.size≤40)→SmL (Jc6 l o)
 |[],o,_,h1,h2=>⟨by unfold Jc6;omega,h2⟩
 | g :: l, o, h, h1, h2 => by
  unfold Jc6
  have hg:=h g (List.mem_cons_self ..)
  have h':∀x∈l,x.1.size≤40∧0≤x.2∧x.2≤999999999:=fun x hx=>h x (List.mem_cons_of_mem _ hx)
  cases hd:decide ((o.length:Int)<512) with
  |false=>exact Ji8 h' h1 h2
  |true=>
   have hd:=of_decide_eq_true hd
   rw[cond_true]
   refine Ji8 h' (by rw[List.length_append,List.length_cons,List.length_cons,List.length_nil];omega) fun w hw=> ?_
   simp only[List.mem_append,List.mem_cons,List.not_mem_nil,or_false] at hw
   rcases hw with hw|rfl|rfl
   ·exact h2 w hw
   ·exact hg.1
   ·exact Jat _ (by omega) (by omega)
theorem Jph {M:List Met} {u:Int} {x:Ord}:∀(n:Nat) (h:Int),∀g∈L9 M u x h n,g.1=x.1
 |0,_,g,hg=>by cases hg
 | n + 1, h, g, hg => by
  unfold L9 at hg
  rcases List.mem_append.1 hg with hg|hg
  ·cases hb:Jo x h&&(decide (h<u)&&decide (Kv M x.1 h<0)) with
   |false=>rw[hb] at hg;cases hg
   |true=>
    rw[hb,cond_true] at hg
    rw[List.mem_singleton.1 hg]
  ·exact Jph n (h+1) g hg
theorem Jpg {M:List Met} {u:Int}:∀{O:List Ord},(∀x∈O,x.1.size≤24)→∀g∈Kp M u O,g.1.size≤24
 |[],_,g,hg=>by cases hg
 | x :: l, h, g, hg => by
  unfold Kp at hg
  rcases List.mem_append.1 hg with hg|hg
  ·rw[Jph _ _ g hg]
   exact h x (List.mem_cons_self ..)
  ·exact Jpg (fun y hy=>h y (List.mem_cons_of_mem _ hy)) g hg
theorem Jiq {r:Reg} (hr:Jj r) (hN:NmR r) (s:ByteArray):SmL (Jc3 r s):=by
 obtain⟨tk,st,S,O,M,X,Q⟩:=r
 refine Ji8 (fun g hg=>⟨?_,Ji9 hr.ord g hg⟩) (by decide) fun w hw=>by cases hw
 have:=Jpg hN.o g hg
 omega
theorem Jo0 {r:Reg} (hr:Jj r) (hN:NmR r) (s:ByteArray):SmL (Jsp r s):=by
 obtain⟨tk,st,S,O,M,X,Q⟩:=r
 have nX:X.length≤16:=hr.nX
 have:=List.length_filter_le (fun x:Out=>Kq x.2.2.1 tk) X
 refine⟨by unfold Jsp;rw[List.length_map];omega,fun w hw=> ?_⟩
 obtain⟨x,hx,rfl⟩:=List.mem_map.1 hw
 have:=hN.x x (List.mem_filter.1 hx).1
 omega
theorem Joz {r:Reg} (hr:Jj r) (hN:NmR r) (s:ByteArray):SmL (Jso r s):=by
 obtain⟨tk,st,S,O,M,X,Q⟩:=r
 have nQ:Q.length≤16:=hr.nQ
 have:=Jdi (Q:=Q)
 refine⟨by unfold Jso;rw[List.length_map];omega,fun w hw=> ?_⟩
 obtain⟨x,hx,rfl⟩:=List.mem_map.1 hw
 have:=hN.q x (List.mem_filter.1 hx).1
 omega
theorem Jio {r:Reg} (hr:Jj r) (s:ByteArray):SmL (Jef r s):=by
 obtain⟨tk,st,S,O,M,X,Q⟩:=r
 have h1:0≤st∧st≤tk:=hr.st
 have h2:0≤tk∧tk≤999999999:=hr.tk
 exact Jin (l:=[st]) (by simp) fun n hn=>by rw[List.mem_singleton.1 hn];omega
theorem Jeq (G:List Reg):(decide (0<(G.length:Int))=true∧Kf G=G.getD ((G.length:Int)-1).toNat U1)∨(decide (0<(G.length:Int))=false∧Kf G=U1):=by
 cases h:decide (0<(G.length:Int)) with
 |true=>exact .inl ⟨rfl,by unfold Kf;congr 1;omega⟩
 |false=>exact .inr ⟨rfl,Km h⟩
theorem Jrk:Jck Ug=(true,0,some 195):=by kernel_rfl
theorem Jod (r:Reg) (ws:List ByteArray):Za r (Ug::ws)=Jgs true 0 Jua r (Ug::ws):=by
 have:(Ug::ws).getD 0 Ja=Ug:=rfl
 unfold Za
 rw[this,Jrk]
 rfl
def Z77 (a:List Reg) (b:Ls):=(Za (Kf a) (Ug::b)).1
def Knq (a:Ls):=Ln (Ug::a)==2
def Kbb (a:List Reg) (b:Ls):=0=(Za (Kf a) (Ug::b)).2
def Ka7:=1≤1000000∧1≤140737488355328
def Jqi (a:Ls):= !Lb (Z93 a) B0
def Jmm:=ByteArray.mk (Array.mk [110,111,110,101])
def Kgf (a:Ls):=Jua Vr (Z93 a)
def Ke7 (a:TypeId) (b c:List Ev) (d:List Reg) (e:Ls):=Sf true (Sf a (Sf (b,c,d) (B0=Z77 d e∧10=(Za (Kf d) (Ug::e)).2)))
def Kw2 (a:TypeId) (b c:List Ev) (d:List Reg) (e:Ls):=Sf true (Sf a (Sf (b,c,d) (B0=Z77 d e∧25=(Za (Kf d) (Ug::e)).2)))
def Kex (a:TypeId) (b c:List Ev) (d:List Reg) (e:Ls):=Sf true (Sf a (Sf (b,c,d) (Jmm=Z77 d e∧Kbb d e)))
def Kel (a:List Reg):=Jua (V8 a) B0
def Jxl (a:List Reg) (b:Ls):=Jua (V8 a) (Z93 b)
def J1t (a:List Reg):=bif true then !Ve (V8 a) 0 B0 else false
theorem Jid (T:TypeId) (E C:List Ev) (G:List Reg) (ws:List ByteArray):wpFO Tryz.prog Jym.g (na ()) (fun _=>na ()) (Sx.look ([(75,Tryz.f75)]:List (Nat×Func))) Tryz.f119 J0c T (E,C,G) (Ug::ws,()):=by
 refine(by kernel_rfl:(Jf2 (E,C,G) (Ug::ws)→Tw (Bd 0 (Ln (Ug::ws)))∧Br (bif true then Knq ws else false) (Tw (Bd 1 (Ln (Ug::ws)))∧Br (bif !true==bif Knq ws then Jqi ws else false then true else false) (Kw2 T E C G ws) (Br (V0 G) (Vz G∧X6 G∧Br (Jsf G ws) (Ke7 T E C G ws) (Yy G∧Br (Ln (Jxl G ws)==0) (Kex T E C G ws) ((List.length (Jxl G ws)≤1000000∧List.length (Lib.join (List.map (fun(x:ByteArray)=>Z12 x) (Jxl G ws)) [32])≤140737488355328)∧Sf true (Sf T (Sf (E,C,G) (Vp (Jxl G ws) Ht=Z77 G ws∧Kbb G ws)))))) (Jds∧Br (J9t ws) (Ke7 T E C G ws) (Yq∧Br (Ln (Kgf ws)==0) (Kex T E C G ws) ((List.length (Kgf ws)≤1000000∧List.length (Lib.join (List.map (fun(x:ByteArray)=>Z12 x) (Kgf ws)) [32])≤140737488355328)∧Sf true (Sf T (Sf (E,C,G) (Vp (Kgf ws) Ht=Z77 G ws∧Kbb G ws)))))))) (Br (bif !true==bif Knq ws then false else false then true else false) (Kw2 T E C G ws) (Br (V0 G) (Vz G∧X6 G∧Br (J1t G) (Ke7 T E C G ws) (Yy G∧Br (Ln (Kel G)==0) (Kex T E C G ws) ((List.length (Kel G)≤1000000∧List.length (Lib.join (List.map (fun(x:ByteArray)=>Z12 x) (Kel G)) [32])≤140737488355328)∧Sf true (Sf T (Sf (E,C,G) (Vp (Kel G) Ht=Z77 G ws∧Kbb G ws)))))) (Jds∧Br true (Ke7 T E C G ws) (Yq∧Br false (Kex T E C G ws) (Ka7∧Sf true (Sf T (Sf (E,C,G) (Vp (Jua Vr B0) Ht=Z77 G ws∧Kbb G ws)))))))))=_).mp ?_
 delta Z12 Z77 Z93 V0 Ht Knq Kbb Ka7 Jqi Jmm Df Vz Vr Yq Jds D9 D8 Jad Kgf Hs Fu Hr De Zy J20 J9t Ke7 Kw2 Kex Ft V8 Yy Kel X6 Jxl Jmf J1t Jsf Br Iw Bd Tw Sf Ln Gt B0 Lb E2 Ug
 intro ha
 obtain⟨hh,hn,-,-,hmax,hsz⟩:=ha
 have hr:Jj (Kf G):=X1 hh
 have hN:NmR (Kf G):=Jer hn
 have hG:G.length≤1000:=by have:=hh.nE;have:=hh.nC;have:=hh.nG;dsimp only at*;omega
 rw[Jod]
 have hbn:({data:={toList:=[]}}:ByteArray)=Ja:=rfl
 have hl:((Ug::ws).length:Int)=(ws.length:Int)+1:=by simp
 have ha1:(Ug::ws).getD 1 Ja=ws.getD 0 Ja:=rfl
 have hz:((0:Int),(0:Int),([]:List Sta),([]:List Ord),([]:List Met),([]:List Out),([]:List Per))=U1:=rfl
 simp only[hbn,hz,hl,Prod.eta,Jgs,ha1]
 rcases Jeq G with⟨hd,e0⟩|⟨hd,e0⟩
 ·rw[e0] at hr hN⊢
  have hp:=of_decide_eq_true hd
  rw[hd]
  generalize G.getD ((G.length:Int)-1).toNat U1=r at hr hN⊢
  cases h2:(ws.length:Int)+1==2
  all_goals cases h3:(ws.getD 0 Ja).toList==Ja.toList
  all_goals cases h4:Ve r 0 (ws.getD 0 Ja)
  all_goals cases h5:(((Jua r (ws.getD 0 Ja)).length:Int)==0)
  all_goals simp only[h2,h3,h4,h5,bne,Jmk,Bool.not_true,Bool.not_false,cond_true,cond_false,BEq.rfl,Bool.true_beq,Bool.false_beq,reduceCtorEq,false_implies,forall_const,true_and,and_true,and_self]
  all_goals repeat' apply And.intro
  all_goals first|omega|(have:=eq_of_beq h2;omega)|exact hr|exact(K0 (Jo1 hr _)).1|exact(K0 (Jo1 hr _)).2|rfl|(have:=h4;simpa[Ve] using this)|skip
 ·rw[e0] at hr hN⊢
  rw[hd]
  cases h2:(ws.length:Int)+1==2
  all_goals cases h3:(ws.getD 0 Ja).toList==Ja.toList
  all_goals cases h4:Ve U1 0 (ws.getD 0 Ja)
  all_goals cases h5:(((Jua U1 (ws.getD 0 Ja)).length:Int)==0)
  all_goals simp only[h2,h3,h4,h5,bne,Jmk,Bool.not_true,Bool.not_false,cond_true,cond_false,BEq.rfl,Bool.true_beq,Bool.false_beq,reduceCtorEq,false_implies,forall_const,true_and,and_true,and_self]
  all_goals repeat' apply And.intro
  all_goals first|omega|(have:=eq_of_beq h2;omega)|exact hr|exact(K0 (Jo1 hr _)).1|exact(K0 (Jo1 hr _)).2|rfl|(have:=h4;simpa[Ve,U1] using this)|exact nomatch (show true=false from h5)|exact nomatch (show false=true from h5)
theorem J32:Jck Hv=(true,0,some 196):=by kernel_rfl
theorem J0h (r:Reg) (ws:List ByteArray):Za r (Hv::ws)=Jgs true 0 Jeg r (Hv::ws):=by
 have:(Hv::ws).getD 0 Ja=Hv:=rfl
 unfold Za
 rw[this,J32]
 rfl
def Z56 (a:List Reg) (b:Ls):=(Za (Kf a) (Hv::b)).1
def Knt (a:Ls):=Ln (Hv::a)==2
def Kbi (a:List Reg) (b:Ls):=0=(Za (Kf a) (Hv::b)).2
def Kgb (a:Ls):=Jeg Vr (Z93 a)
def Kxd (a:TypeId) (b c:List Ev) (d:List Reg) (e:Ls):=Sf true (Sf a (Sf (b,c,d) (B0=Z56 d e∧25=(Za (Kf d) (Hv::e)).2)))
def Kfd (a:TypeId) (b c:List Ev) (d:List Reg) (e:Ls):=Sf true (Sf a (Sf (b,c,d) (B0=Z56 d e∧10=(Za (Kf d) (Hv::e)).2)))
def Kez (a:TypeId) (b c:List Ev) (d:List Reg) (e:Ls):=Sf true (Sf a (Sf (b,c,d) (Jmm=Z56 d e∧Kbi d e)))
def Keh (a:List Reg):=Jeg (V8 a) B0
def Jxk (a:List Reg) (b:Ls):=Jeg (V8 a) (Z93 b)
theorem Jq3 (T:TypeId) (E C:List Ev) (G:List Reg) (ws:List ByteArray):wpFO Tryz.prog Jym.g (na ()) (fun _=>na ()) (Sx.look ([(75,Tryz.f75)]:List (Nat×Func))) Tryz.f119 J0c T (E,C,G) (Hv::ws,()):=by
 refine(by kernel_rfl:(Jf2 (E,C,G) (Hv::ws)→Tw (Bd 0 (Ln (Hv::ws)))∧Br (bif true then Knt ws else false) (Tw (Bd 1 (Ln (Hv::ws)))∧Br (bif !true==bif Knt ws then Jqi ws else false then true else false) (Kxd T E C G ws) (Br (V0 G) (Vz G∧X6 G∧Br (Jsf G ws) (Kfd T E C G ws) ((Yy G∧0≤Jx (Hs G).1 (Z93 ws))∧Br (Ln (Jxk G ws)==0) (Kez T E C G ws) ((List.length (Jxk G ws)≤1000000∧List.length (Lib.join (List.map (fun(x:ByteArray)=>Z12 x) (Jxk G ws)) [32])≤140737488355328)∧Sf true (Sf T (Sf (E,C,G) (Vp (Jxk G ws) Ht=Z56 G ws∧Kbi G ws)))))) (Jds∧Br (J9t ws) (Kfd T E C G ws) ((Yq∧0≤Jx [] (Z93 ws))∧Br (Ln (Kgb ws)==0) (Kez T E C G ws) ((List.length (Kgb ws)≤1000000∧List.length (Lib.join (List.map (fun(x:ByteArray)=>Z12 x) (Kgb ws)) [32])≤140737488355328)∧Sf true (Sf T (Sf (E,C,G) (Vp (Kgb ws) Ht=Z56 G ws∧Kbi G ws)))))))) (Br (bif !true==bif Knt ws then false else false then true else false) (Kxd T E C G ws) (Br (V0 G) (Vz G∧X6 G∧Br (J1t G) (Kfd T E C G ws) ((Yy G∧0≤Jx (Hs G).1 B0)∧Br (Ln (Keh G)==0) (Kez T E C G ws) ((List.length (Keh G)≤1000000∧List.length (Lib.join (List.map (fun(x:ByteArray)=>Z12 x) (Keh G)) [32])≤140737488355328)∧Sf true (Sf T (Sf (E,C,G) (Vp (Keh G) Ht=Z56 G ws∧Kbi G ws)))))) (Jds∧Br true (Kfd T E C G ws) ((Yq∧0≤Jx [] B0)∧Br false (Kez T E C G ws) (Ka7∧Sf true (Sf T (Sf (E,C,G) (Vp (Jeg Vr B0) Ht=Z56 G ws∧Kbi G ws)))))))))=_).mp ?_
 delta Z12 Z56 Z93 V0 Knt Ht Kbi Ka7 Jqi Jmm Df Vz Vr Yq Jds D9 D8 Jad Kgb Hs Fu Hr De Zy J20 J9t Kxd Kfd Kez Ft V8 Yy Keh X6 Jxk Jmf J1t Jsf Br Iw Bd Tw Sf Ln Gt B0 Lb E2 Hv
 intro ha
 obtain⟨hh,hn,-,-,hmax,hsz⟩:=ha
 have hr:Jj (Kf G):=X1 hh
 have hN:NmR (Kf G):=Jer hn
 have hG:G.length≤1000:=by have:=hh.nE;have:=hh.nC;have:=hh.nG;dsimp only at*;omega
 rw[J0h]
 have hbn:({data:={toList:=[]}}:ByteArray)=Ja:=rfl
 have hl:((Hv::ws).length:Int)=(ws.length:Int)+1:=by simp
 have ha1:(Hv::ws).getD 1 Ja=ws.getD 0 Ja:=rfl
 have hz:((0:Int),(0:Int),([]:List Sta),([]:List Ord),([]:List Met),([]:List Out),([]:List Per))=U1:=rfl
 simp only[hbn,hz,hl,Prod.eta,Jgs,ha1]
 rcases Jeq G with⟨hd,e0⟩|⟨hd,e0⟩
 ·rw[e0] at hr hN⊢
  have hp:=of_decide_eq_true hd
  rw[hd]
  generalize G.getD ((G.length:Int)-1).toNat U1=r at hr hN⊢
  cases h2:(ws.length:Int)+1==2
  all_goals cases h3:(ws.getD 0 Ja).toList==Ja.toList
  all_goals cases h4:Ve r 0 (ws.getD 0 Ja)
  all_goals cases h5:(((Jeg r (ws.getD 0 Ja)).length:Int)==0)
  all_goals simp only[h2,h3,h4,h5,bne,Jmk,Bool.not_true,Bool.not_false,cond_true,cond_false,BEq.rfl,Bool.true_beq,Bool.false_beq,reduceCtorEq,false_implies,forall_const,true_and,and_true,and_self]
  all_goals repeat' apply And.intro
  all_goals first|omega|(have:=eq_of_beq h2;omega)|exact hr|exact(K0 (Jip hr (by have:=h4;simpa[Ve,U1] using this))).1|exact(K0 (Jip hr (by have:=h4;simpa[Ve,U1] using this))).2|rfl|(have:=h4;simpa[Ve] using this)|skip
 ·rw[e0] at hr hN⊢
  rw[hd]
  cases h2:(ws.length:Int)+1==2
  all_goals cases h3:(ws.getD 0 Ja).toList==Ja.toList
  all_goals cases h4:Ve U1 0 (ws.getD 0 Ja)
  all_goals cases h5:(((Jeg U1 (ws.getD 0 Ja)).length:Int)==0)
  all_goals simp only[h2,h3,h4,h5,bne,Jmk,Bool.not_true,Bool.not_false,cond_true,cond_false,BEq.rfl,Bool.true_beq,Bool.false_beq,reduceCtorEq,false_implies,forall_const,true_and,and_true,and_self]
  all_goals repeat' apply And.intro
  all_goals first|omega|(have:=eq_of_beq h2;omega)|exact hr|exact(K0 (Jip hr (by have:=h4;simpa[Ve,U1] using this))).1|exact(K0 (Jip hr (by have:=h4;simpa[Ve,U1] using this))).2|rfl|(have:=h4;simpa[Ve,U1] using this)|exact nomatch (show true=false from h5)|exact nomatch (show false=true from h5)
theorem J33:Jck Hw=(true,1,some 197):=by kernel_rfl
theorem J0i (r:Reg) (ws:List ByteArray):Za r (Hw::ws)=Jgs true 1 Jeh r (Hw::ws):=by
 have:(Hw::ws).getD 0 Ja=Hw:=rfl
 unfold Za
 rw[this,J33]
 rfl
def Z43 (a:List Reg) (b:Ls):=(Za (Kf a) (Hw::b)).1
def Knu (a:Ls):=Ln (Hw::a)==2
def Kbh (a:List Reg) (b:Ls):=0=(Za (Kf a) (Hw::b)).2
def Kge (a:Ls):=Jeh Vr (Z93 a)
def Kxb (a:TypeId) (b c:List Ev) (d:List Reg) (e:Ls):=Sf true (Sf a (Sf (b,c,d) (B0=Z43 d e∧25=(Za (Kf d) (Hw::e)).2)))
def Kfc (a:TypeId) (b c:List Ev) (d:List Reg) (e:Ls):=Sf true (Sf a (Sf (b,c,d) (B0=Z43 d e∧10=(Za (Kf d) (Hw::e)).2)))
def Ke0 (a:TypeId) (b c:List Ev) (d:List Reg) (e:Ls):=Sf true (Sf a (Sf (b,c,d) (Jmm=Z43 d e∧Kbh d e)))
def Kef (a:List Reg):=Jeh (V8 a) B0
def Jxi (a:List Reg) (b:Ls):=Jeh (V8 a) (Z93 b)
theorem Jq4 (T:TypeId) (E C:List Ev) (G:List Reg) (ws:List ByteArray):wpFO Tryz.prog Jym.g (na ()) (fun _=>na ()) (Sx.look ([(75,Tryz.f75)]:List (Nat×Func))) Tryz.f119 J0c T (E,C,G) (Hw::ws,()):=by
 refine(by kernel_rfl:(Jf2 (E,C,G) (Hw::ws)→Tw (Bd 0 (Ln (Hw::ws)))∧Br (bif true then Knu ws else false) (Tw (Bd 1 (Ln (Hw::ws)))∧Br (bif !true==bif Knu ws then Jqi ws else false then true else false) (Kxb T E C G ws) (Br (V0 G) (Vz G∧X6 G∧Br (Jsg G ws) (Kfc T E C G ws) ((Yy G∧0≤Kx (Hr G).1 (Z93 ws))∧Br (Ln (Jxi G ws)==0) (Ke0 T E C G ws) ((List.length (Jxi G ws)≤1000000∧List.length (Lib.join (List.map (fun(x:ByteArray)=>Z12 x) (Jxi G ws)) [32])≤140737488355328)∧Sf true (Sf T (Sf (E,C,G) (Vp (Jxi G ws) Ht=Z43 G ws∧Kbh G ws)))))) (Jds∧Br (J9s ws) (Kfc T E C G ws) ((Yq∧0≤Kx [] (Z93 ws))∧Br (Ln (Kge ws)==0) (Ke0 T E C G ws) ((List.length (Kge ws)≤1000000∧List.length (Lib.join (List.map (fun(x:ByteArray)=>Z12 x) (Kge ws)) [32])≤140737488355328)∧Sf true (Sf T (Sf (E,C,G) (Vp (Kge ws) Ht=Z43 G ws∧Kbh G ws)))))))) (Br (bif !true==bif Knu ws then false else false then true else false) (Kxb T E C G ws) (Br (V0 G) (Vz G∧X6 G∧Br (bif true then !Ve (V8 G) 1 B0 else false) (Kfc T E C G ws) ((Yy G∧0≤Kx (Hr G).1 B0)∧Br (Ln (Kef G)==0) (Ke0 T E C G ws) ((List.length (Kef G)≤1000000∧List.length (Lib.join (List.map (fun(x:ByteArray)=>Z12 x) (Kef G)) [32])≤140737488355328)∧Sf true (Sf T (Sf (E,C,G) (Vp (Kef G) Ht=Z43 G ws∧Kbh G ws)))))) (Jds∧Br true (Kfc T E C G ws) ((Yq∧0≤Kx [] B0)∧Br false (Ke0 T E C G ws) ((5≤1000000∧9≤140737488355328)∧Sf true (Sf T (Sf (E,C,G) (Vp (Jeh Vr B0) Ht=Z43 G ws∧Kbh G ws)))))))))=_).mp ?_
 delta Z12 Z43 Z93 V0 Knu Ht Kbh Jqi Jmm Df Vz Vr Yq Jds D9 D8 Jad Kge Hs Fu Hr De Zy J9y J9s Kxb Kfc Ke0 Ft V8 Yy Kef X6 Jxi Jsi Jsg Br Iw Bd Tw Sf Ln Gt B0 Lb E2 Hw
 intro ha
 obtain⟨hh,hn,-,-,hmax,hsz⟩:=ha
 have hr:Jj (Kf G):=X1 hh
 have hN:NmR (Kf G):=Jer hn
 have hG:G.length≤1000:=by have:=hh.nE;have:=hh.nC;have:=hh.nG;dsimp only at*;omega
 rw[J0i]
 have hbn:({data:={toList:=[]}}:ByteArray)=Ja:=rfl
 have hl:((Hw::ws).length:Int)=(ws.length:Int)+1:=by simp
 have ha1:(Hw::ws).getD 1 Ja=ws.getD 0 Ja:=rfl
 have hz:((0:Int),(0:Int),([]:List Sta),([]:List Ord),([]:List Met),([]:List Out),([]:List Per))=U1:=rfl
 simp only[hbn,hz,hl,Prod.eta,Jgs,ha1]
 rcases Jeq G with⟨hd,e0⟩|⟨hd,e0⟩
 ·rw[e0] at hr hN⊢
  have hp:=of_decide_eq_true hd
  rw[hd]
  generalize G.getD ((G.length:Int)-1).toNat U1=r at hr hN⊢
  cases h2:(ws.length:Int)+1==2
  all_goals cases h3:(ws.getD 0 Ja).toList==Ja.toList
  all_goals cases h4:Ve r 1 (ws.getD 0 Ja)
  all_goals cases h5:(((Jeh r (ws.getD 0 Ja)).length:Int)==0)
  all_goals simp only[h2,h3,h4,h5,bne,Jmk,Bool.not_true,Bool.not_false,cond_true,cond_false,BEq.rfl,Bool.true_beq,Bool.false_beq,reduceCtorEq,false_implies,forall_const,true_and,and_true,and_self]
  all_goals repeat' apply And.intro
  all_goals first|omega|(have:=eq_of_beq h2;omega)|exact hr|exact(K0 (Jir hr (by have:=h4;simpa[Ve,U1] using this))).1|exact(K0 (Jir hr (by have:=h4;simpa[Ve,U1] using this))).2|rfl|(have:=h4;simpa[Ve] using this)|skip
 ·rw[e0] at hr hN⊢
  rw[hd]
  cases h2:(ws.length:Int)+1==2
  all_goals cases h3:(ws.getD 0 Ja).toList==Ja.toList
  all_goals cases h4:Ve U1 1 (ws.getD 0 Ja)
  all_goals cases h5:(((Jeh U1 (ws.getD 0 Ja)).length:Int)==0)
  all_goals simp only[h2,h3,h4,h5,bne,Jmk,Bool.not_true,Bool.not_false,cond_true,cond_false,BEq.rfl,Bool.true_beq,Bool.false_beq,reduceCtorEq,false_implies,forall_const,true_and,and_true,and_self]
  all_goals repeat' apply And.intro
  all_goals first|omega|(have:=eq_of_beq h2;omega)|exact hr|exact(K0 (Jir hr (by have:=h4;simpa[Ve,U1] using this))).1|exact(K0 (Jir hr (by have:=h4;simpa[Ve,U1] using this))).2|rfl|(have:=h4;simpa[Ve,U1] using this)|exact nomatch (show true=false from h5)|exact nomatch (show false=true from h5)
theorem Jrj:Jck Ua=(false,1,some 200):=by kernel_rfl
theorem Joc (r:Reg) (ws:List ByteArray):Za r (Ua::ws)=Jgs false 1 Jc3 r (Ua::ws):=by
 have:(Ua::ws).getD 0 Ja=Ua:=rfl
 unfold Za
 rw[this,Jrj]
 rfl
def Z36 (a:Ls):=Ln (Ua::a)
def Z83 (a:List Reg) (b:Ls):=(Za (Kf a) (Ua::b)).1
def Kbe (a:List Reg) (b:Ls):=0=(Za (Kf a) (Ua::b)).2
def Ka6:=0≤1000000∧0≤140737488355328
def K0n (a:Ls):=bif true then Z36 a !=1 else false
def Kga (a:Ls):=Jc3 Vr (Z93 a)
def Kw3 (a:TypeId) (b c:List Ev) (d:List Reg) (e:Ls):=Sf true (Sf a (Sf (b,c,d) (B0=Z83 d e∧25=(Za (Kf d) (Ua::e)).2)))
def Ke5 (a:TypeId) (b c:List Ev) (d:List Reg) (e:Ls):=Sf true (Sf a (Sf (b,c,d) (B0=Z83 d e∧10=(Za (Kf d) (Ua::e)).2)))
def Kew (a:TypeId) (b c:List Ev) (d:List Reg) (e:Ls):=Sf true (Sf a (Sf (b,c,d) (Jmm=Z83 d e∧Kbe d e)))
def Kei (a:List Reg):=Jc3 (V8 a) B0
def Jxj (a:List Reg) (b:Ls):=Jc3 (V8 a) (Z93 b)
theorem Jic (T:TypeId) (E C:List Ev) (G:List Reg) (ws:List ByteArray):wpFO Tryz.prog Jym.g (na ()) (fun _=>na ()) (Sx.look ([(75,Tryz.f75)]:List (Nat×Func))) Tryz.f119 J0c T (E,C,G) (Ua::ws,()):=by
 refine(by kernel_rfl:(Jf2 (E,C,G) (Ua::ws)→Tw (Bd 0 (Z36 ws))∧Br false (Tw (Bd 1 (Z36 ws))∧Br (bif !false==bif Z36 ws==2 then Jqi ws else false then true else K0n ws) (Kw3 T E C G ws) (Br (V0 G) (Vz G∧Xi G∧Br false (Ke5 T E C G ws) (Yy G∧Br (Ln (Jxj G ws)==0) (Kew T E C G ws) ((List.length (Jxj G ws)≤1000000∧List.length (Lib.join (List.map (fun(x:ByteArray)=>Z12 x) (Jxj G ws)) [32])≤140737488355328)∧Sf true (Sf T (Sf (E,C,G) (Vp (Jxj G ws) Ht=Z83 G ws∧Kbe G ws)))))) (Jbb∧Br false (Ke5 T E C G ws) (Yq∧Br (Ln (Kga ws)==0) (Kew T E C G ws) ((List.length (Kga ws)≤1000000∧List.length (Lib.join (List.map (fun(x:ByteArray)=>Z12 x) (Kga ws)) [32])≤140737488355328)∧Sf true (Sf T (Sf (E,C,G) (Vp (Kga ws) Ht=Z83 G ws∧Kbe G ws)))))))) (Br (bif !false==bif Z36 ws==2 then false else false then true else K0n ws) (Kw3 T E C G ws) (Br (V0 G) (Vz G∧Xi G∧Br false (Ke5 T E C G ws) (Yy G∧Br (Ln (Kei G)==0) (Kew T E C G ws) ((List.length (Kei G)≤1000000∧List.length (Lib.join (List.map (fun(x:ByteArray)=>Z12 x) (Kei G)) [32])≤140737488355328)∧Sf true (Sf T (Sf (E,C,G) (Vp (Kei G) Ht=Z83 G ws∧Kbe G ws)))))) (Jbb∧Br false (Ke5 T E C G ws) (Yq∧Br true (Kew T E C G ws) (Ka6∧Sf true (Sf T (Sf (E,C,G) (Vp (Jc3 Vr B0) Ht=Z83 G ws∧Kbe G ws)))))))))=_).mp ?_
 delta Z12 Z36 Z83 Z93 V0 Ht Kbe Ka6 Jqi Jmm Df Vz Vr Yq Jbb K0n D9 D8 Jad Kga Hs Fu Hr De Zy Kw3 Ke5 Kew Ft V8 Yy Kei Xi Jxj Br Iw Bd Tw Sf Ln Gt B0 Lb E2 Ua
 intro ha
 obtain⟨hh,hn,-,-,hmax,hsz⟩:=ha
 have hr:Jj (Kf G):=X1 hh
 have hN:NmR (Kf G):=Jer hn
 have hG:G.length≤1000:=by have:=hh.nE;have:=hh.nC;have:=hh.nG;dsimp only at*;omega
 rw[Joc]
 have hbn:({data:={toList:=[]}}:ByteArray)=Ja:=rfl
 have hl:((Ua::ws).length:Int)=(ws.length:Int)+1:=by simp
 have ha1:(Ua::ws).getD 1 Ja=ws.getD 0 Ja:=rfl
 have hz:((0:Int),(0:Int),([]:List Sta),([]:List Ord),([]:List Met),([]:List Out),([]:List Per))=U1:=rfl
 simp only[hbn,hz,hl,Prod.eta,Jgs,ha1]
 rcases Jeq G with⟨hd,e0⟩|⟨hd,e0⟩
 ·rw[e0] at hr hN⊢
  have hp:=of_decide_eq_true hd
  rw[hd]
  generalize G.getD ((G.length:Int)-1).toNat U1=r at hr hN⊢
  cases h2:(ws.length:Int)+1==1
  all_goals cases h6:(ws.length:Int)+1==2
  all_goals cases h3:(ws.getD 0 Ja).toList==Ja.toList
  all_goals cases h5:(((Jc3 r Ja).length:Int)==0)
  all_goals simp only[h2,h3,h5,h6,bne,Jmk,Bool.not_true,Bool.not_false,cond_true,cond_false,BEq.rfl,Bool.true_beq,Bool.false_beq,reduceCtorEq,false_implies,forall_const,true_and,and_true,and_self]
  all_goals repeat' apply And.intro
  all_goals first|omega|(have:=eq_of_beq h2;omega)|exact hr|exact(K0 (Jiq hr hN _)).1|exact(K0 (Jiq hr hN _)).2|rfl|(have:=h4;simpa[Ve] using this)|skip
 ·rw[e0] at hr hN⊢
  rw[hd]
  cases h2:(ws.length:Int)+1==1
  all_goals cases h6:(ws.length:Int)+1==2
  all_goals cases h3:(ws.getD 0 Ja).toList==Ja.toList
  all_goals cases h5:(((Jc3 U1 Ja).length:Int)==0)
  all_goals simp only[h2,h3,h5,h6,bne,Jmk,Bool.not_true,Bool.not_false,cond_true,cond_false,BEq.rfl,Bool.true_beq,Bool.false_beq,reduceCtorEq,false_implies,forall_const,true_and,and_true,and_self]
  all_goals repeat' apply And.intro
  all_goals first|omega|(have:=eq_of_beq h2;omega)|exact hr|exact(K0 (Jiq hr hN _)).1|exact(K0 (Jiq hr hN _)).2|rfl|(have:=h4;simpa[Ve,U1] using this)|exact nomatch (show true=false from h5)|exact nomatch (show false=true from h5)
theorem Jri:Jck Uf=(false,2,some 201):=by kernel_rfl
theorem Job (r:Reg) (ws:List ByteArray):Za r (Uf::ws)=Jgs false 2 Jsp r (Uf::ws):=by
 have:(Uf::ws).getD 0 Ja=Uf:=rfl
 unfold Za
 rw[this,Jri]
 rfl
def Z41 (a:Ls):=Ln (Uf::a)
def Z76 (a:List Reg) (b:Ls):=(Za (Kf a) (Uf::b)).1
def Kba (a:List Reg) (b:Ls):=0=(Za (Kf a) (Uf::b)).2
def K0m (a:Ls):=bif true then Z41 a !=1 else false
def Kgh (a:Ls):=Jsp Vr (Z93 a)
def Ke8 (a:TypeId) (b c:List Ev) (d:List Reg) (e:Ls):=Sf true (Sf a (Sf (b,c,d) (B0=Z76 d e∧10=(Za (Kf d) (Uf::e)).2)))
def Kw1 (a:TypeId) (b c:List Ev) (d:List Reg) (e:Ls):=Sf true (Sf a (Sf (b,c,d) (B0=Z76 d e∧25=(Za (Kf d) (Uf::e)).2)))
def Key (a:TypeId) (b c:List Ev) (d:List Reg) (e:Ls):=Sf true (Sf a (Sf (b,c,d) (Jmm=Z76 d e∧Kba d e)))
def Kek (a:List Reg):=Jsp (V8 a) B0
def Jxn (a:List Reg) (b:Ls):=Jsp (V8 a) (Z93 b)
theorem Jib (T:TypeId) (E C:List Ev) (G:List Reg) (ws:List ByteArray):wpFO Tryz.prog Jym.g (na ()) (fun _=>na ()) (Sx.look ([(75,Tryz.f75)]:List (Nat×Func))) Tryz.f119 J0c T (E,C,G) (Uf::ws,()):=by
 refine(by kernel_rfl:(Jf2 (E,C,G) (Uf::ws)→Tw (Bd 0 (Z41 ws))∧Br false (Tw (Bd 1 (Z41 ws))∧Br (bif !false==bif Z41 ws==2 then Jqi ws else false then true else K0m ws) (Kw1 T E C G ws) (Br (V0 G) (Vz G∧Xi G∧Br false (Ke8 T E C G ws) (Yy G∧Br (Ln (Jxn G ws)==0) (Key T E C G ws) ((List.length (Jxn G ws)≤1000000∧List.length (Lib.join (List.map (fun(x:ByteArray)=>Z12 x) (Jxn G ws)) [32])≤140737488355328)∧Sf true (Sf T (Sf (E,C,G) (Vp (Jxn G ws) Ht=Z76 G ws∧Kba G ws)))))) (Jbb∧Br false (Ke8 T E C G ws) (Yq∧Br (Ln (Kgh ws)==0) (Key T E C G ws) ((List.length (Kgh ws)≤1000000∧List.length (Lib.join (List.map (fun(x:ByteArray)=>Z12 x) (Kgh ws)) [32])≤140737488355328)∧Sf true (Sf T (Sf (E,C,G) (Vp (Kgh ws) Ht=Z76 G ws∧Kba G ws)))))))) (Br (bif !false==bif Z41 ws==2 then false else false then true else K0m ws) (Kw1 T E C G ws) (Br (V0 G) (Vz G∧Xi G∧Br false (Ke8 T E C G ws) (Yy G∧Br (Ln (Kek G)==0) (Key T E C G ws) ((List.length (Kek G)≤1000000∧List.length (Lib.join (List.map (fun(x:ByteArray)=>Z12 x) (Kek G)) [32])≤140737488355328)∧Sf true (Sf T (Sf (E,C,G) (Vp (Kek G) Ht=Z76 G ws∧Kba G ws)))))) (Jbb∧Br false (Ke8 T E C G ws) (Yq∧Br true (Key T E C G ws) (Ka6∧Sf true (Sf T (Sf (E,C,G) (Vp (Jsp Vr B0) Ht=Z76 G ws∧Kba G ws)))))))))=_).mp ?_
 delta Z12 Z41 Z76 Z93 V0 Ht Kba Ka6 Jqi Jmm Df Vz Vr Yq Jbb K0m D9 D8 Kgh Jad Hs Fu Hr De Zy Ke8 Kw1 Key Ft V8 Yy Kek Xi Jxn Br Iw Bd Tw Sf Ln Gt B0 Lb E2 Uf
 intro ha
 obtain⟨hh,hn,-,-,hmax,hsz⟩:=ha
 have hr:Jj (Kf G):=X1 hh
 have hN:NmR (Kf G):=Jer hn
 have hG:G.length≤1000:=by have:=hh.nE;have:=hh.nC;have:=hh.nG;dsimp only at*;omega
 rw[Job]
 have hbn:({data:={toList:=[]}}:ByteArray)=Ja:=rfl
 have hl:((Uf::ws).length:Int)=(ws.length:Int)+1:=by simp
 have ha1:(Uf::ws).getD 1 Ja=ws.getD 0 Ja:=rfl
 have hz:((0:Int),(0:Int),([]:List Sta),([]:List Ord),([]:List Met),([]:List Out),([]:List Per))=U1:=rfl
 simp only[hbn,hz,hl,Prod.eta,Jgs,ha1]
 rcases Jeq G with⟨hd,e0⟩|⟨hd,e0⟩
 ·rw[e0] at hr hN⊢
  have hp:=of_decide_eq_true hd
  rw[hd]
  generalize G.getD ((G.length:Int)-1).toNat U1=r at hr hN⊢
  cases h2:(ws.length:Int)+1==1
  all_goals cases h6:(ws.length:Int)+1==2
  all_goals cases h3:(ws.getD 0 Ja).toList==Ja.toList
  all_goals cases h5:(((Jsp r Ja).length:Int)==0)
  all_goals simp only[h2,h3,h5,h6,bne,Jmk,Bool.not_true,Bool.not_false,cond_true,cond_false,BEq.rfl,Bool.true_beq,Bool.false_beq,reduceCtorEq,false_implies,forall_const,true_and,and_true,and_self]
  all_goals repeat' apply And.intro
  all_goals first|omega|(have:=eq_of_beq h2;omega)|exact hr|exact(K0 (Jo0 hr hN _)).1|exact(K0 (Jo0 hr hN _)).2|rfl|(have:=h4;simpa[Ve] using this)|skip
 ·rw[e0] at hr hN⊢
  rw[hd]
  cases h2:(ws.length:Int)+1==1
  all_goals cases h6:(ws.length:Int)+1==2
  all_goals cases h3:(ws.getD 0 Ja).toList==Ja.toList
  all_goals cases h5:(((Jsp U1 Ja).length:Int)==0)
  all_goals simp only[h2,h3,h5,h6,bne,Jmk,Bool.not_true,Bool.not_false,cond_true,cond_false,BEq.rfl,Bool.true_beq,Bool.false_beq,reduceCtorEq,false_implies,forall_const,true_and,and_true,and_self]
  all_goals repeat' apply And.intro
  all_goals first|omega|(have:=eq_of_beq h2;omega)|exact hr|exact(K0 (Jo0 hr hN _)).1|exact(K0 (Jo0 hr hN _)).2|rfl|(have:=h4;simpa[Ve,U1] using this)|exact nomatch (show true=false from h5)|exact nomatch (show false=true from h5)
theorem Jrh:Jck Ue=(false,3,some 205):=by kernel_rfl
theorem Joa (r:Reg) (ws:List ByteArray):Za r (Ue::ws)=Jgs false 3 Jso r (Ue::ws):=by
 have:(Ue::ws).getD 0 Ja=Ue:=rfl
 unfold Za
 rw[this,Jrh]
 rfl
def Z37 (a:Ls):=Ln (Ue::a)
def Z78 (a:List Reg) (b:Ls):=(Za (Kf a) (Ue::b)).1
def Kbd (a:List Reg) (b:Ls):=0=(Za (Kf a) (Ue::b)).2
def K0k (a:Ls):=bif true then Z37 a !=1 else false
def Kgg (a:Ls):=Jso Vr (Z93 a)
def Kw5 (a:TypeId) (b c:List Ev) (d:List Reg) (e:Ls):=Sf true (Sf a (Sf (b,c,d) (B0=Z78 d e∧25=(Za (Kf d) (Ue::e)).2)))
def Ke6 (a:TypeId) (b c:List Ev) (d:List Reg) (e:Ls):=Sf true (Sf a (Sf (b,c,d) (B0=Z78 d e∧10=(Za (Kf d) (Ue::e)).2)))
def Keu (a:TypeId) (b c:List Ev) (d:List Reg) (e:Ls):=Sf true (Sf a (Sf (b,c,d) (Jmm=Z78 d e∧Kbd d e)))
def Kej (a:List Reg):=Jso (V8 a) B0
def Jxm (a:List Reg) (b:Ls):=Jso (V8 a) (Z93 b)
theorem Jia (T:TypeId) (E C:List Ev) (G:List Reg) (ws:List ByteArray):wpFO Tryz.prog Jym.g (na ()) (fun _=>na ()) (Sx.look ([(75,Tryz.f75)]:List (Nat×Func))) Tryz.f119 J0c T (E,C,G) (Ue::ws,()):=by
 refine(by kernel_rfl:(Jf2 (E,C,G) (Ue::ws)→Tw (Bd 0 (Z37 ws))∧Br false (Tw (Bd 1 (Z37 ws))∧Br (bif !false==bif Z37 ws==2 then Jqi ws else false then true else K0k ws) (Kw5 T E C G ws) (Br (V0 G) (Vz G∧Xi G∧Br false (Ke6 T E C G ws) (Yy G∧Br (Ln (Jxm G ws)==0) (Keu T E C G ws) ((List.length (Jxm G ws)≤1000000∧List.length (Lib.join (List.map (fun(x:ByteArray)=>Z12 x) (Jxm G ws)) [32])≤140737488355328)∧Sf true (Sf T (Sf (E,C,G) (Vp (Jxm G ws) Ht=Z78 G ws∧Kbd G ws)))))) (Jbb∧Br false (Ke6 T E C G ws) (Yq∧Br (Ln (Kgg ws)==0) (Keu T E C G ws) ((List.length (Kgg ws)≤1000000∧List.length (Lib.join (List.map (fun(x:ByteArray)=>Z12 x) (Kgg ws)) [32])≤140737488355328)∧Sf true (Sf T (Sf (E,C,G) (Vp (Kgg ws) Ht=Z78 G ws∧Kbd G ws)))))))) (Br (bif !false==bif Z37 ws==2 then false else false then true else K0k ws) (Kw5 T E C G ws) (Br (V0 G) (Vz G∧Xi G∧Br false (Ke6 T E C G ws) (Yy G∧Br (Ln (Kej G)==0) (Keu T E C G ws) ((List.length (Kej G)≤1000000∧List.length (Lib.join (List.map (fun(x:ByteArray)=>Z12 x) (Kej G)) [32])≤140737488355328)∧Sf true (Sf T (Sf (E,C,G) (Vp (Kej G) Ht=Z78 G ws∧Kbd G ws)))))) (Jbb∧Br false (Ke6 T E C G ws) (Yq∧Br true (Keu T E C G ws) (Ka6∧Sf true (Sf T (Sf (E,C,G) (Vp (Jso Vr B0) Ht=Z78 G ws∧Kbd G ws)))))))))=_).mp ?_
 delta Z12 Z37 Z78 Z93 V0 Ht Kbd Ka6 Jqi Jmm Df Vz Vr Yq Jbb K0k D9 D8 Jad Kgg Hs Fu Hr De Zy Kw5 Ke6 Keu Ft V8 Yy Kej Xi Jxm Br Iw Bd Tw Sf Ln Gt B0 Lb E2 Ue
 intro ha
 obtain⟨hh,hn,-,-,hmax,hsz⟩:=ha
 have hr:Jj (Kf G):=X1 hh
 have hN:NmR (Kf G):=Jer hn
 have hG:G.length≤1000:=by have:=hh.nE;have:=hh.nC;have:=hh.nG;dsimp only at*;omega
 rw[Joa]
 have hbn:({data:={toList:=[]}}:ByteArray)=Ja:=rfl
 have hl:((Ue::ws).length:Int)=(ws.length:Int)+1:=by simp
 have ha1:(Ue::ws).getD 1 Ja=ws.getD 0 Ja:=rfl
 have hz:((0:Int),(0:Int),([]:List Sta),([]:List Ord),([]:List Met),([]:List Out),([]:List Per))=U1:=rfl
 simp only[hbn,hz,hl,Prod.eta,Jgs,ha1]
 rcases Jeq G with⟨hd,e0⟩|⟨hd,e0⟩
 ·rw[e0] at hr hN⊢
  have hp:=of_decide_eq_true hd
  rw[hd]
  generalize G.getD ((G.length:Int)-1).toNat U1=r at hr hN⊢
  cases h2:(ws.length:Int)+1==1
  all_goals cases h6:(ws.length:Int)+1==2
  all_goals cases h3:(ws.getD 0 Ja).toList==Ja.toList
  all_goals cases h5:(((Jso r Ja).length:Int)==0)
  all_goals simp only[h2,h3,h5,h6,bne,Jmk,Bool.not_true,Bool.not_false,cond_true,cond_false,BEq.rfl,Bool.true_beq,Bool.false_beq,reduceCtorEq,false_implies,forall_const,true_and,and_true,and_self]
  all_goals repeat' apply And.intro
  all_goals first|omega|(have:=eq_of_beq h2;omega)|exact hr|exact(K0 (Joz hr hN _)).1|exact(K0 (Joz hr hN _)).2|rfl|(have:=h4;simpa[Ve] using this)|skip
 ·rw[e0] at hr hN⊢
  rw[hd]
  cases h2:(ws.length:Int)+1==1
  all_goals cases h6:(ws.length:Int)+1==2
  all_goals cases h3:(ws.getD 0 Ja).toList==Ja.toList
  all_goals cases h5:(((Jso U1 Ja).length:Int)==0)
  all_goals simp only[h2,h3,h5,h6,bne,Jmk,Bool.not_true,Bool.not_false,cond_true,cond_false,BEq.rfl,Bool.true_beq,Bool.false_beq,reduceCtorEq,false_implies,forall_const,true_and,and_true,and_self]
  all_goals repeat' apply And.intro
  all_goals first|omega|(have:=eq_of_beq h2;omega)|exact hr|exact(K0 (Joz hr hN _)).1|exact(K0 (Joz hr hN _)).2|rfl|(have:=h4;simpa[Ve,U1] using this)|exact nomatch (show true=false from h5)|exact nomatch (show false=true from h5)
theorem Jrg:Jck Ud=(false,0,some 209):=by kernel_rfl
theorem Jn9 (r:Reg) (ws:List ByteArray):Za r (Ud::ws)=Jgs false 0 Jef r (Ud::ws):=by
 have:(Ud::ws).getD 0 Ja=Ud:=rfl
 unfold Za
 rw[this,Jrg]
 rfl
def Z39 (a:Ls):=Ln (Ud::a)
def Z74 (a:List Reg) (b:Ls):=(Za (Kf a) (Ud::b)).1
def Kbc (a:List Reg) (b:Ls):=0=(Za (Kf a) (Ud::b)).2
def K0o (a:Ls):=bif true then Z39 a !=1 else false
def Kgc (a:Ls):=Jef Vr (Z93 a)
def Ke9 (a:TypeId) (b c:List Ev) (d:List Reg) (e:Ls):=Sf true (Sf a (Sf (b,c,d) (B0=Z74 d e∧10=(Za (Kf d) (Ud::e)).2)))
def Kw4 (a:TypeId) (b c:List Ev) (d:List Reg) (e:Ls):=Sf true (Sf a (Sf (b,c,d) (B0=Z74 d e∧25=(Za (Kf d) (Ud::e)).2)))
def Kev (a:TypeId) (b c:List Ev) (d:List Reg) (e:Ls):=Sf true (Sf a (Sf (b,c,d) (Jmm=Z74 d e∧Kbc d e)))
def Keg (a:List Reg):=Jef (V8 a) B0
def Jxh (a:List Reg) (b:Ls):=Jef (V8 a) (Z93 b)
theorem Jh9 (T:TypeId) (E C:List Ev) (G:List Reg) (ws:List ByteArray):wpFO Tryz.prog Jym.g (na ()) (fun _=>na ()) (Sx.look ([(75,Tryz.f75)]:List (Nat×Func))) Tryz.f119 J0c T (E,C,G) (Ud::ws,()):=by
 refine(by kernel_rfl:(Jf2 (E,C,G) (Ud::ws)→Tw (Bd 0 (Z39 ws))∧Br false (Tw (Bd 1 (Z39 ws))∧Br (bif !false==bif Z39 ws==2 then Jqi ws else false then true else K0o ws) (Kw4 T E C G ws) (Br (V0 G) (Vz G∧Xi G∧Br false (Ke9 T E C G ws) (Yy G∧Br (Ln (Jxh G ws)==0) (Kev T E C G ws) ((List.length (Jxh G ws)≤1000000∧List.length (Lib.join (List.map (fun(x:ByteArray)=>Z12 x) (Jxh G ws)) [32])≤140737488355328)∧Sf true (Sf T (Sf (E,C,G) (Vp (Jxh G ws) Ht=Z74 G ws∧Kbc G ws)))))) (Jbb∧Br false (Ke9 T E C G ws) (Yq∧Br (Ln (Kgc ws)==0) (Kev T E C G ws) ((List.length (Kgc ws)≤1000000∧List.length (Lib.join (List.map (fun(x:ByteArray)=>Z12 x) (Kgc ws)) [32])≤140737488355328)∧Sf true (Sf T (Sf (E,C,G) (Vp (Kgc ws) Ht=Z74 G ws∧Kbc G ws)))))))) (Br (bif !false==bif Z39 ws==2 then false else false then true else K0o ws) (Kw4 T E C G ws) (Br (V0 G) (Vz G∧Xi G∧Br false (Ke9 T E C G ws) (Yy G∧Br (Ln (Keg G)==0) (Kev T E C G ws) ((List.length (Keg G)≤1000000∧List.length (Lib.join (List.map (fun(x:ByteArray)=>Z12 x) (Keg G)) [32])≤140737488355328)∧Sf true (Sf T (Sf (E,C,G) (Vp (Keg G) Ht=Z74 G ws∧Kbc G ws)))))) (Jbb∧Br false (Ke9 T E C G ws) (Yq∧Br false (Kev T E C G ws) (Ka7∧Sf true (Sf T (Sf (E,C,G) (Vp (Jef Vr B0) Ht=Z74 G ws∧Kbc G ws)))))))))=_).mp ?_
 delta Z12 Z39 Z74 Z93 V0 Ht Kbc Ka7 Jqi Jmm Df Vz Vr Yq Jbb K0o D9 D8 Jad Kgc Hs Fu Hr De Zy Ke9 Kw4 Kev Ft V8 Yy Keg Xi Jxh Br Iw Bd Tw Sf Ln Gt B0 Lb E2 Ud
 intro ha
 obtain⟨hh,hn,-,-,hmax,hsz⟩:=ha
 have hr:Jj (Kf G):=X1 hh
 have hN:NmR (Kf G):=Jer hn
 have hG:G.length≤1000:=by have:=hh.nE;have:=hh.nC;have:=hh.nG;dsimp only at*;omega
 rw[Jn9]
 have hbn:({data:={toList:=[]}}:ByteArray)=Ja:=rfl
 have hl:((Ud::ws).length:Int)=(ws.length:Int)+1:=by simp
 have ha1:(Ud::ws).getD 1 Ja=ws.getD 0 Ja:=rfl
 have hz:((0:Int),(0:Int),([]:List Sta),([]:List Ord),([]:List Met),([]:List Out),([]:List Per))=U1:=rfl
 simp only[hbn,hz,hl,Prod.eta,Jgs,ha1]
 rcases Jeq G with⟨hd,e0⟩|⟨hd,e0⟩
 ·rw[e0] at hr hN⊢
  have hp:=of_decide_eq_true hd
  rw[hd]
  generalize G.getD ((G.length:Int)-1).toNat U1=r at hr hN⊢
  cases h2:(ws.length:Int)+1==1
  all_goals cases h6:(ws.length:Int)+1==2
  all_goals cases h3:(ws.getD 0 Ja).toList==Ja.toList
  all_goals cases h5:(((Jef r Ja).length:Int)==0)
  all_goals simp only[h2,h3,h5,h6,bne,Jmk,Bool.not_true,Bool.not_false,cond_true,cond_false,BEq.rfl,Bool.true_beq,Bool.false_beq,reduceCtorEq,false_implies,forall_const,true_and,and_true,and_self]
  all_goals repeat' apply And.intro
  all_goals first|omega|(have:=eq_of_beq h2;omega)|exact hr|exact(K0 (Jio hr _)).1|exact(K0 (Jio hr _)).2|rfl|(have:=h4;simpa[Ve] using this)|skip
 ·rw[e0] at hr hN⊢
  rw[hd]
  cases h2:(ws.length:Int)+1==1
  all_goals cases h6:(ws.length:Int)+1==2
  all_goals cases h3:(ws.getD 0 Ja).toList==Ja.toList
  all_goals cases h5:(((Jef U1 Ja).length:Int)==0)
  all_goals simp only[h2,h3,h5,h6,bne,Jmk,Bool.not_true,Bool.not_false,cond_true,cond_false,BEq.rfl,Bool.true_beq,Bool.false_beq,reduceCtorEq,false_implies,forall_const,true_and,and_true,and_self]
  all_goals repeat' apply And.intro
  all_goals first|omega|(have:=eq_of_beq h2;omega)|exact hr|exact(K0 (Jio hr _)).1|exact(K0 (Jio hr _)).2|rfl|(have:=h4;simpa[Ve,U1] using this)|exact nomatch (show true=false from h5)|exact nomatch (show false=true from h5)
theorem Jni {k:ByteArray} (h:Jhb k=true):k=Ug∨k=Hv∨k=Hw∨k=Ua∨k=Uf∨k=Ue∨k=Ud:=by
 obtain⟨x,hx,hk⟩:=Jet h
 have hk:=Juz hk
 unfold Jee Tryz.questU at hx
 subst hk
 simp only[List.mem_cons,List.not_mem_nil,or_false] at hx
 rcases hx with rfl|rfl|rfl|rfl|rfl|rfl|rfl
 all_goals simp
theorem Kok (T:TypeId):∀(x:Kn) (y:ATup [.val false (.list 9 .str)]),wpFO Tryz.prog Jym.g (na ()) (fun _=>na ()) (Sx.look ([(75,Tryz.f75)]:List (Nat×Func))) Tryz.f119 J0c T x y
 | (E, C, G), (l, ()) => by
  refine Jh2 (by kernel_rfl) fun hp=> ?_
  have hl:1≤l.length:=Jf2.len hp
  have hk:Jhb (l.getD 0 Ja)=true:=Jf2.key hp
  obtain⟨w,ws,rfl⟩:∃w ws,l=w::ws:=by
   cases l with
   |nil=>exact absurd hl (by decide)
   |cons w ws=>exact⟨w,ws,rfl⟩
  have hk:Jhb w=true:=hk
  rcases Jni hk with rfl|rfl|rfl|rfl|rfl|rfl|rfl
  ·exact Jid T E C G ws
  ·exact Jq3 T E C G ws
  ·exact Jq4 T E C G ws
  ·exact Jic T E C G ws
  ·exact Jib T E C G ws
  ·exact Jia T E C G ws
  ·exact Jh9 T E C G ws
theorem Krv:Ok Tryz.prog 119 (Xu.con J0c):=X0 (Ub mixed Jym.ok (by kernel_rfl) (by kernel_rfl) (U5 (l:=([(75,Tryz.f75)]:List (Nat×Func))) (List.forall_mem_cons.2 ⟨by kernel_rfl,by simp⟩)) (fun _ _=>na ()) (fun _ _=>fun _=>na ()) fun T xx yy _=>Kok T xx yy)
abbrev K8j:=Jym.add Krv
abbrev K2l:=K8j.add J38
def doW (line:ByteArray):List ByteArray:=Xw line ⟨⟨[32]⟩⟩
def do1 (line:ByteArray):Int:=Jg [bif decide (4096<(line.size:Int)) then 26 else 0,bif line.toList==Ja.toList then 25 else 0]
def do2 (h:Kn) (ws:List ByteArray):Int:=Jg [bif !(Y0 ws).2 then 25 else 0,bif decide (1000≤(h.1.length:Int)) then 5 else 0]
def evD (h:Kn) (ws:List ByteArray):Ev:=((h.1.length:Int)+1,(Y0 ws).1.2)
def Kcc (n:Int):ByteArray:=bs ([100,111,110,101,32]++(Vg n).data.toList)
def doF (h:Kn) (line:ByteArray):Kn×ByteArray×Int:=
 if do1 line≠0 then(h,Ja,do1 line) else
 if Jhb ((doW line).getD 0 Ja)=true then(h,Za (Kf h.2.2) (doW line)) else
 if Yr ((doW line).getD 0 Ja)=false then(h,Ja,13) else
 if do2 h (doW line)≠0 then(h,Ja,do2 h (doW line)) else
 if Um h (evD h (doW line))≠0 then(h,Ja,Um h (evD h (doW line))) else
 (D3 h (evD h (doW line)),Kcc ((h.1.length:Int)+1),0)
def cDo:Xu:={T? :=some 212,s:=Jiu,args:=[aS],ress:=[tS,I],pre:=fun h (l,_)=>[Y2 h,Fb h,l.size≤1000000],spec:=fun h (l,_)=>((doF h l).2.1,(doF h l).2.2,()),post:=fun h (l,_)=>(doF h l).1}
theorem Kcd {l:ByteArray} (h:l.size≤1000000) (h4:l.size≤4096):1≤(doW l).length∧(doW l).length≤1000000∧∀w∈doW l,w.size≤1000000:=by
 have e:doW l=(Jj7 32 l.data.toList).map bs:=Jdy l 32
 have h1:=Jim 32 l.data.toList
 have hl:l.data.toList.length=l.size:=rfl
 rw[e]
 refine⟨?_,by rw[List.length_map];omega,fun w hw=> ?_⟩
 ·rw[List.length_map]
  have:∀l:List UInt8,1≤(Jj7 32 l).length:=by
   intro l
   induction l with
   |nil=>decide
   |cons c r ih=>unfold Jj7;split<;>(try split)<;>simp only[List.length_cons,List.length_nil]<;>omega
  exact this _
 ·obtain⟨v,hv,rfl⟩:=List.mem_map.1 hw
  have:=Jal _ _ v hv
  rw[Xf];omega
def Jyb (a:Bt):=Xw a Ht
def K2h (a:Bt):=(Y0 (Jyb a)).1.2
def K2e (a:Bt):=(K2h a).2
def K13 (a:Bt):=List.getD (Jyb a) 0 B0
def K1x (a:Bt):=Tw (Bd 0 (Ln (Jyb a)))
def Kyo (a:Bt):=Jg [bif decide (4096<Nc (ByteArray.size a)) then 26 else 0,bif Lb a B0 then 25 else 0]
def Kw0 (a:Bt) (b:List Ev):=Jg [bif !(Y0 (Jyb a)).2 then 25 else 0,bif decide (1000≤Ln b) then 5 else 0]
def Kiz (a:List Ev) (b:Bt):=(Z5 a,(K2h b).1,(K2e b).1,E2 (K2e b).2)
def Kvq (a b:List Ev) (c:List Reg) (d:Bt):=Um (a,b,c) (Kiz a d)
def Kvp (a b:List Ev) (c:List Reg) (d:Bt):=Vi (a,b,c) (Kiz a d)
def Ktu (a b:List Ev) (c:List Reg) (d:Bt):=((Kvp a b c d).1,E2 (Kvp a b c d).2)=(doF (a,b,c) d).1
theorem K5j (E C:List Ev) (G:List Reg) (line:ByteArray):wpFO Tryz.prog K2l.g (na ()) (fun _=>na ()) (Sx.look ([]:List (Nat×Func))) Tryz.f40 cDo 212 (E,C,G) (line,()):=by
 refine(by kernel_rfl:(Y2 (E,C,G)→Fb (E,C,G)→ByteArray.size line≤1000000→Br false (Sf true (Sf 212 ((E,C,G)=(doF (E,C,G) line).1∧B0=(doF (E,C,G) line).2.1∧22=(doF (E,C,G) line).2.2))) (2≤1000000∧Br (Kyo line !=0) (Sf true (Sf 212 ((E,C,G)=(doF (E,C,G) line).1∧B0=(doF (E,C,G) line).2.1∧Kyo line=(doF (E,C,G) line).2.2))) ((ByteArray.size line≤1000000∧1≤1)∧K1x line∧Br (Option.isSome (Uj Sch.str (K13 line) Jee)) (Jf2 (E,C,G) (Jyb line)∧Sf true (Sf 212 ((E,C,G)=(doF (E,C,G) line).1∧(Za (Kf G) (Jyb line)).1=(doF (E,C,G) line).2.1∧(Za (Kf G) (Jyb line)).2=(doF (E,C,G) line).2.2))) (K1x line∧Br (!Option.isSome (Uj Sch.str (K13 line) Lx)) (Sf true (Sf 212 ((E,C,G)=(doF (E,C,G) line).1∧B0=(doF (E,C,G) line).2.1∧13=(doF (E,C,G) line).2.2))) ((List.length (Jyb line)≤1000000∧∀(w:ByteArray),w∈Jyb line→ByteArray.size w≤1000000)∧2≤1000000∧Br (Kw0 line E !=0) (Sf true (Sf 212 ((E,C,G)=(doF (E,C,G) line).1∧B0=(doF (E,C,G) line).2.1∧Kw0 line E=(doF (E,C,G) line).2.2))) (Z62 E∧(Ke (E,C,G)∧Z42 E∧Jfj (Kiz E line))∧Br (Kvq E C G line !=0) (Sf true (Sf 212 (Ktu E C G line∧B0=(doF (E,C,G) line).2.1∧Kvq E C G line=(doF (E,C,G) line).2.2))) ((Z62 E∧Nc (5+ByteArray.size (Vg (Z5 E)))≤9223372036854775807)∧Sf true (Sf 212 (Ktu E C G line∧ByteArray.mk (Array.mk (100::111::110::101::32::([]++(Vg (Z5 E)).data.toList)))=(doF (E,C,G) line).2.1∧0=(doF (E,C,G) line).2.2)))))))))=_).mp ?_
 delta Z5 Z42 Z62 Ht Jyb K2h K2e K13 K1x Kyo Kw0 Kiz Kvq Kvp Ktu Br Iw Bd Tw Sf Ln Nc B0 Lb E2
 intro hi hn hsz
 have hbn:({data:={toList:=[]}}:ByteArray)=Ja:=rfl
 have hW:Xw line {data:={toList:=[32]}}=doW line:=rfl
 have hd1:Jg [bif decide (4096<(line.size:Int)) then 26 else 0,bif line.toList==Ja.toList then 25 else 0]=do1 line:=rfl
 have hd2:Jg [bif !(Y0 (doW line)).2 then 25 else 0,bif decide (1000≤(E.length:Int)) then 5 else 0]=do2 (E,C,G) (doW line):=rfl
 have hq:(Uj Sch.str ((doW line).getD 0 Ja) Jee).isSome=Jhb ((doW line).getD 0 Ja):=rfl
 have hk:(Uj Sch.str ((doW line).getD 0 Ja) Lx).isSome=Yr ((doW line).getD 0 Ja):=rfl
 have he:((E.length:Int)+1,(Y0 (doW line)).1.2)=evD (E,C,G) (doW line):=rfl
 simp only[hbn,hW,Prod.eta,hd1,hd2,hq,hk,he]
 have nE:E.length≤1000:=hi.ok.nE
 refine⟨fun h=>(nomatch h),fun _=>⟨by decide,fun h1=> ?_,fun h1=> ?_⟩⟩
 ·have e:doF (E,C,G) line=((E,C,G),Ja,do1 line):=by unfold doF;rw[if_pos (bne_iff_ne.1 h1)]
  rw[e];exact⟨trivial,trivial,rfl,rfl,rfl⟩
 have e1:do1 line=0:=bne_eq_false_iff_eq.1 h1
 have h4:line.size≤4096:=by
  cases hc:decide (4096<(line.size:Int)) with
  |false=>have:=of_decide_eq_false hc;omega
  |true=>rw[do1,hc] at e1;exact nomatch (show(26:Int)=0 from e1)
 obtain⟨w1,w2,w3⟩:=Kcd hsz h4
 refine⟨⟨hsz,Nat.le_refl _⟩,by(repeat' first|apply And.intro|(first|omega|dsimp only;omega)),fun h2=> ?_,fun h2=>⟨by(repeat' first|apply And.intro|(first|omega|dsimp only;omega)),fun h3=> ?_,fun h3=> ?_⟩⟩
 ·have e:doF (E,C,G) line=((E,C,G),Za (Kf G) (doW line)):=by unfold doF;rw[if_neg (by rw[e1];decide),if_pos h2]
  rw[e];exact⟨⟨hi.ok,hn,w1,h2,w2,w3⟩,trivial,trivial,rfl,rfl,rfl⟩
 ·have h3:Yr ((doW line).getD 0 Ja)=false:=by simpa using h3
  have e:doF (E,C,G) line=((E,C,G),Ja,13):=by unfold doF;rw[if_neg (by rw[e1];decide),if_neg (by rw[h2];decide),if_pos h3]
  rw[e];exact⟨trivial,trivial,rfl,rfl,rfl⟩
 have h3:Yr ((doW line).getD 0 Ja)=true:=by simpa using h3
 refine⟨⟨w2,w3⟩,by decide,fun h5=> ?_,fun h5=> ?_⟩
 ·have e:doF (E,C,G) line=((E,C,G),Ja,do2 (E,C,G) (doW line)):=by unfold doF;rw[if_neg (by rw[e1];decide),if_neg (by rw[h2];decide),if_neg (by rw[h3];decide),if_pos (bne_iff_ne.1 h5)]
  rw[e];exact⟨trivial,trivial,rfl,rfl,rfl⟩
 have e5:do2 (E,C,G) (doW line)=0:=bne_eq_false_iff_eq.1 h5
 have hE:E.length<1000:=by
  cases hc:decide (1000≤(E.length:Int)) with
  |false=>have:=of_decide_eq_false hc;omega
  |true=>
   rw[do2] at e5
   have hc:decide (1000≤(((E,C,G):Kn).1.length:Int))=true:=hc
   rw[hc] at e5
   cases hx:(Y0 (doW line)).2<;>rw[hx] at e5<;>exact nomatch e5
 have hz:=Jpa w3
 have hsz2:Jfj (evD (E,C,G) (doW line)):=⟨Nat.le_trans hz.1 (by decide),Nat.le_trans hz.2.1 (by decide),hz.2.2⟩
 refine⟨by(repeat' first|apply And.intro|(first|omega|dsimp only;omega)),⟨hi.ok,hE,hsz2⟩,fun h6=> ?_,fun h6=> ?_⟩
 ·have n6:=bne_iff_ne.1 h6
  have e:doF (E,C,G) line=((E,C,G),Ja,Um (E,C,G) (evD (E,C,G) (doW line))):=by unfold doF;rw[if_neg (by rw[e1];decide),if_neg (by rw[h2];decide),if_neg (by rw[h3];decide),if_neg (by rw[e5];decide),if_pos n6]
  have ea:Vi (E,C,G) (evD (E,C,G) (doW line))=(E,C,G):=by unfold Vi;rw[if_neg n6]
  rw[e,ea];exact⟨trivial,trivial,rfl,rfl,rfl⟩
 ·have e6:Um (E,C,G) (evD (E,C,G) (doW line))=0:=bne_eq_false_iff_eq.1 h6
  have e:doF (E,C,G) line=(D3 (E,C,G) (evD (E,C,G) (doW line)),Kcc ((E.length:Int)+1),0):=by unfold doF;rw[if_neg (by rw[e1];decide),if_neg (by rw[h2];decide),if_neg (by rw[h3];decide),if_neg (by rw[e5];decide),if_neg (by rw[e6];decide)]
  have ea:Vi (E,C,G) (evD (E,C,G) (doW line))=D3 (E,C,G) (evD (E,C,G) (doW line)):=by unfold Vi;rw[if_pos e6]
  have hi:=Jat ((E.length:Int)+1) (by omega) (by omega)
  rw[e,ea];exact⟨⟨by(repeat' first|apply And.intro|(first|omega|dsimp only;omega)),by omega⟩,trivial,trivial,rfl,rfl,rfl⟩
theorem K6v:Ok Tryz.prog 40 (Xu.con cDo):=X0 (Ub mixed K2l.ok (by kernel_rfl) (by kernel_rfl) (U5 (l:=([]:List (Nat×Func))) (by simp)) (fun xx yy=>na ()) (fun xx yy=>fun _=>na ()) fun T xx yy hT=>by obtain rfl:=hT _ rfl;exact K5j xx.1 xx.2.1 xx.2.2 yy.1)
abbrev Knv:=K2l.add K6v
theorem Ksi {h:Kn} {l:ByteArray} (hi:Y2 h) (hn:Fb h):Y2 (doF h l).1∧Fb (doF h l).1:=by
 unfold doF
 split
 ·exact⟨hi,hn⟩
 split
 ·exact⟨hi,hn⟩
 split
 ·exact⟨hi,hn⟩
 split
 ·exact⟨hi,hn⟩
 split
 ·exact⟨hi,hn⟩
 rename_i h5 h6
 have e5:do2 h (doW l)=0:=Decidable.of_not_not h5
 have hE:h.1.length<1000:=by
  cases hc:decide (1000≤(h.1.length:Int)) with
  |false=>have:=of_decide_eq_false hc;omega
  |true=>
   rw[do2,hc] at e5
   cases hx:(Y0 (doW l)).2<;>rw[hx] at e5<;>exact nomatch e5
 exact⟨Jfy hi hE (Decidable.of_not_not h6),Ktl hn (Decidable.of_not_not h6)⟩
abbrev Kop:Sch:= .prod .str (.prod .str sI)
abbrev Say:=ByteArray×ByteArray×Int
def J17:Say:=(Ja,Ja,0)
def Koo (r:ByteArray×Int) (x:Say):Bool:=bif r.1.toList !=x.2.1.toList then true else r.2 !=x.2.2
def Jdo:Kn→List Say→Kn×Bool
 |h,[]=>(h,true)
 |h,x::l=>bif Koo (doF h x.1).2 x then((doF h x.1).1,false) else Jdo (doF h x.1).1 l
def J9i:Xu:={T? :=some 212,s:=Jiu,args:=[.val false (.list 147 Kop)],ress:=[Bo],pre:=fun h (l,_)=>[Y2 h,Fb h,l.length≤1000000,∀x∈l,x.1.size≤1000000],spec:=fun h (l,_)=>((Jdo h l).2,()),post:=fun h (l,_)=>(Jdo h l).1}
abbrev Jw1 (h0:Kn) (l:List Say):Ann:={X:=Kn×Nat,σ:=fun(h,k)=>⟨6,[(0, .one (.ptr 1 0)),(11, .one (.sl 5)),(12, .one (.int .i64 l.length)),(13, .one (.int .i64 k))],[(0, .sus [(0, .one (.ptr 1 0))]),(1, .box 212 [.sl 2, .sl 3, .sl 4]),(2, .own 67 sEv h.1),(3, .own 67 sEv h.2.1),(4, .own 105 Jm9 h.2.2),(5, .imm 147 Kop l)]⟩,inv:=fun(h,k)=>Y2 h∧Fb h∧k≤l.length∧Jdo h (l.drop k)=Jdo h0 l,mu:=fun(_,k)=>l.length-k}
def Kg6 (a:List Say) (b:Kn×Nat):=List.getD a b.2 (B0,B0,0)
def Kgd (a:Kn×Nat) (b:List Say):=doF (Jyf a) (Kg6 b a).1
def Kyy (a:Kn×Nat) (b:List Say):=(Kgd a b).2
def Kk4 (a:Kn×Nat) (b:List Say):=(Kgd a b).1.2
theorem K2q (E C:List Ev) (G:List Reg) (l:List Say):wpFO Tryz.prog Knv.g (Xh (Jw1 (E,C,G) l)) (fun _=>na ()) (Sx.look ([]:List (Nat×Func))) Tryz.f66 J9i 212 (E,C,G) (l,()):=by
 refine(by kernel_rfl:(Y2 (E,C,G)→Fb (E,C,G)→List.length l≤1000000→(∀(x:ByteArray×ByteArray×Int),x∈l→ByteArray.size x.1≤1000000)→Br false (Sf true (Sf 212 ((E,C,G)=(Jdo (E,C,G) l).1∧false=(Jdo (E,C,G) l).2))) (∃(x:(List Ev×List Ev×List Reg)×Nat),Si (Ln l) (0=Nc x.2∧E=x.1.1∧C=x.1.2.1∧G=x.1.2.2∧l=l)∧(Y2 x.1∧Fb x.1∧x.2≤List.length l∧Jdo x.1 (List.drop x.2 l)=Jdo (E,C,G) l)∧∀(x:Kn×Nat),Y2 x.1∧Fb x.1∧x.2≤List.length l∧Jdo x.1 (List.drop x.2 l)=Jdo (E,C,G) l→Br (decide (Nc x.2<Ln l)) (Tw (Bd (Nc x.2) (Ln l))∧(Y2 (Jyf x)∧Fb (Jyf x)∧ByteArray.size (Kg6 l x).1≤1000000)∧Br (bif !Lb (Kyy x l).1 (Kg6 l x).2.1 then true else(Kyy x l).2 !=(Kg6 l x).2.2) (Sf true (Sf 212 (((Kgd x l).1.1,E2 (Kk4 x l))=(Jdo (E,C,G) l).1∧false=(Jdo (E,C,G) l).2))) (Z34 x∧∃(y:(List Ev×List Ev×List Reg)×Nat),Si (Ln l) (Jyh x y∧(Kgd x l).1.1=y.1.1∧(Kk4 x l).1=y.1.2.1∧(Kk4 x l).2=y.1.2.2∧l=l)∧(Y2 y.1∧Fb y.1∧y.2≤List.length l∧Jdo y.1 (List.drop y.2 l)=Jdo (E,C,G) l)∧List.length l-y.2<List.length l-x.2)) (Sf true (Sf 212 (Jyf x=(Jdo (E,C,G) l).1∧true=(Jdo (E,C,G) l).2)))))=_).mp ?_
 delta Z34 Jyh Jyf Kg6 Kgd Kyy Kk4 Br Iw Bd Tw Sf Si Ln Nc B0 Lb E2
 intro hi hn hl hsz
 refine⟨fun h=>(nomatch h),fun _=>⟨((E,C,G),(0:Nat)),by(repeat' first|exact rfl|exact⟨⟩|apply And.intro|omega|dsimp only;omega),⟨hi,hn,Nat.zero_le _,rfl⟩,fun(x:Kn×Nat) hx=>⟨fun hlt=> ?_,fun hlt=> ?_⟩⟩⟩
 ·obtain⟨h,k⟩:=x
  obtain⟨k1,k2,k3,k4⟩:=hx
  have hlt:k<l.length:=by simpa using hlt
  dsimp only at k1 k2 k3 k4
  have hz:(({data:={toList:=[]}}:ByteArray),({data:={toList:=[]}}:ByteArray),(0:Int))=J17:=rfl
  simp only[hz,Prod.eta]
  rw[Jt (d:=J17) hlt,Jdo] at k4
  have hd:=Ksi (l:=(l.getD k J17).1) k1 k2
  refine⟨by(repeat' first|apply And.intro|(first|omega|dsimp only;omega)),⟨k1,k2,hsz _ (Jc hlt)⟩,fun h1=> ?_,fun h1=> ?_⟩
  ·have e:Koo (doF h (l.getD k J17).1).2 (l.getD k J17)=true:=h1
   rw[e,cond_true] at k4
   rw[←k4]
   exact⟨trivial,trivial,rfl,rfl⟩
  ·have e:Koo (doF h (l.getD k J17).1).2 (l.getD k J17)=false:=h1
   rw[e,cond_false] at k4
   exact⟨by(repeat' first|apply And.intro|(first|omega|dsimp only;omega)),((doF h (l.getD k J17).1).1,k+1),by(repeat' first|exact rfl|exact⟨⟩|apply And.intro|omega|dsimp only;omega),⟨hd.1,hd.2,by(first|omega|dsimp only;omega),k4⟩,by(first|omega|dsimp only;omega)⟩
 ·obtain⟨h,k⟩:=x
  obtain⟨k1,k2,k3,k4⟩:=hx
  have hlt:¬k<l.length:=by simpa using hlt
  have e:k=l.length:=by dsimp only at k3;omega
  rw[e,List.drop_length,Jdo] at k4
  rw[←k4]
  exact⟨rfl,rfl,rfl,rfl⟩
theorem K6h:Ok Tryz.prog 66 (Xu.con J9i):=X0 (Ub mixed Knv.ok (by kernel_rfl) (by kernel_rfl) (U5 (l:=([]:List (Nat×Func))) (by simp)) (fun xx yy=>Xh (Jw1 (xx.1,xx.2.1,xx.2.2) yy.1)) (fun xx yy=>fun _=>na ()) fun T xx yy hT=>by obtain rfl:=hT _ rfl;exact K2q xx.1 xx.2.1 xx.2.2 yy.1)
abbrev K31:=Knv.add K6h
end Go.Proofs.YtcibbcfiemeoiaaGreatDoor

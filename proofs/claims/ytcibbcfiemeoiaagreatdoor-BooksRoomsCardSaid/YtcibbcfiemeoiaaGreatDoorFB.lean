/- Contracts of the functions that the law reaches: part of the proof. -/
import Derived.Test.YtcibbcfiemeoiaaGreatDoorFA
import Derived.Shelf.Strconv.ErrVarAll
import Derived.Lib.ItoaLen
import Derived.Lib.ItoaMem
set_option linter.unusedSimpArgs false
set_option linter.unusedVariables false
set_option maxRecDepth 20000
namespace Go.Proofs.YtcibbcfiemeoiaaGreatDoor
open Go.Sx
set_option maxHeartbeats 20000000
abbrev Jqt:=ByteArray×Int×Int×Int×Int×Int
abbrev Jtu:Sch:= .prod .str (.prod sI (.prod sI (.prod sI (.prod sI sI))))
abbrev Jom:=Int×Int×Int×Int
def Jew (M:List Met) (s:ByteArray) (h:Int):Met:=M.getD (K2 M s h).toNat Jmg
def Jjz (st:Int) (M:List Met) (x:Ord):Int→Nat→Jom→Jom
 |_,0,a=>a
 |h,n+1,(c,s,g,f)=>Jjz st M x (h+1) n (bif J2 x h&&decide (h<st) then(c+1,s+(Jew M x.1 h).2.2.1,g+(Jew M x.1 h).2.2.2,f+3*(x.2.2.2.2.1-(Jew M x.1 h).2.2.2)) else(c,s,g,f))
def Lo (st:Int) (M:List Met) (x:Ord):Jom:=Jjz st M x x.2.2.2.1.1 (Um x) (0,0,0,0)
def Un (st:Int) (M:List Met) (x:Ord):Jqt:=(x.1,(Lo st M x).1,(Lo st M x).2.1,(Lo st M x).2.2.1,(Lo st M x).2.2.1*x.2.2.2.2.2.1,(Lo st M x).2.2.2)
def Krh:Con:={args:=[Jbd, .val true Hm],ress:=[(true,Jtu)],owns:=[],pre:=fun(r,x,_)=>[Jk r,x∈r.2.2.2.1],spec:=fun((_,st,_,_,M,_),x,_)=>(Un st M x,())}
abbrev J5v (tk st:Int) (S:List Sta) (O:List Ord) (M:List Met) (X:List Out) (Q:List Per) (x:Ord):Ann:={X:=Nat×Jom,σ:=fun(j,c,s,g,f)=>⟨14,[(0, .one (.fv 12)),(1, .one (.ptr 10 0)),(3, .one (.int .i64 (x.2.2.2.1.1+j)))],[(0, .imm 127 Dp S),(1, .imm 130 Hm O),(2, .imm 155 Fb M),(3, .imm 188 X4 X),(4, .imm 235 Zw Q),(5, .box 105 [.int .i64 tk, .int .i64 st, .sl 0, .sl 1, .sl 2, .sl 3, .sl 4]),(6, .box 130 (bxO x)),(7, .box 129 [.str Ja, .int .i64 0, .int .i64 0, .int .i64 0, .int .i64 0, .int .i64 0]),(8, .box 129 [.str x.1, .int .i64 c, .int .i64 s, .int .i64 g, .int .i64 0, .int .i64 f]),(10, .box 130 (bxO x)),(12, .yld .ready),(13, .sus [(2, .one (.ptr 5 0)),(3, .one (.ptr 6 0)),(4, .one (.ptr 7 0)),(5, .one (.ptr 8 0))])]⟩,inv:=fun(j,c,s,g,f)=>j≤Um x∧(0≤c∧c≤j)∧(0≤s∧s≤1000*j)∧(0≤g∧g≤1000*j)∧(-3000*j≤f∧f≤3000*j)∧Jjz st M x (x.2.2.2.1.1+j) (Um x-j) (c,s,g,f)=Lo st M x,mu:=fun(j,_)=>Um x-j}
def J9m (a:Int) (b:Nat):=0≤a∧a≤1000*Nc b
def Kky (a:List Met) (b:Bt) (c:Int) (d:Nat×Jom):=(Gt a (K2 a b (c+Nc d.1)) Jyk).2.2
def Kkg (a:Int) (b:List Met) (c:Bt) (d:Int) (e:Nat×Jom):=a-(Kky b c d e).2
def Kj2 (a:Nat×Jom) (b:List Met) (c:Bt) (d:Int):=a.2.2.1+(Kky b c d a).1
def J8u (a:Nat×Jom) (b:List Met) (c:Bt) (d:Int):=a.2.2.2.1+(Kky b c d a).2
def Kje (a:Nat×Jom) (b:Int) (c:List Met) (d:Bt) (e:Int):=a.2.2.2.2+3*Kkg b c d e a
def Ktr (a:Nat) (b c d:Bt) (e f g h i j k l m n:Int) (o:List Met):=a≤Um (b,c,d,(e,f),g,h,i)∧(0≤j∧j≤Nc a)∧J9m k a∧J9m l a∧((-3000)*Nc a≤m∧m≤3000*Nc a)∧Jjz n o (b,c,d,(e,f),g,h,i) (e+Nc a) (Um (b,c,d,(e,f),g,h,i)-a) (j,k,l,m)=Lo n o (b,c,d,(e,f),g,h,i)
def Ktk (a:Nat×Int×Int×Int×Int) (b c d:Bt) (e f g h i j:Int) (k:List Met):=match a with|(j_1,c_1,s,g_1,f_1)=>Ktr j_1 b c d e f g h i c_1 s g_1 f_1 j k
def Ks8 (a:Nat×Int×Int×Int×Int) (b c d:Bt) (e f g h i j:Int) (k:List Met) (l:Nat×Jom):=Ktk a b c d e f g h i j k∧Um (b,c,d,(e,f),g,h,i)-a.1<Um (b,c,d,(e,f),g,h,i)-l.1
def J7i (a:Nat×Jom) (b:Int) (c:Bt) (d:Int) (e:List Met) (f g:Bt) (h i j k:Int) (l:List Sta) (m:List Ord) (n:List Out) (o:List Per) (p:Int):=Br false (Iw (a.2.2.2.1*b)∧Sf true ((c,a.2.1,a.2.2.1,a.2.2.2.1,a.2.2.2.1*b,a.2.2.2.2)=Un d e (c,f,g,(h,i),j,b,k))) (Iw (h+Nc a.1+1)∧∃(y:Nat×Int×Int×Int×Int),(h+Nc a.1+1=h+Nc y.1∧Sf l (Sf m (Sf e (Sf n (Sf o (Si p (Si d (Sf c (Sf f (Sf g (Si h (Si i (Si j (Si b (Si k (Sf Ja (Si 0 (Si 0 (Si 0 (Si 0 (Si 0 (Sf c (a.2.1=y.2.1∧a.2.2.1=y.2.2.1∧a.2.2.2.1=y.2.2.2.1∧Si 0 (a.2.2.2.2=y.2.2.2.2∧Sf c (Sf f (Sf g (Si h (Si i (Si j (Si b (k=k)))))))))))))))))))))))))))))))∧Ks8 y c f g h i j b k d e a)
theorem Kpu:Ok Tryz.prog 126 Krh:=J16 K35 Tryz.f126 (U6 (l:=([(178,Tryz.f178),(247,Tryz.f247)]:List (Nat×Func))) (List.forall_mem_cons.2 ⟨by kernel_rfl,List.forall_mem_cons.2 ⟨by kernel_rfl,by simp⟩⟩)) (fun xx=>na ()) (fun xx=>fun f' id=>if f'=247 then some (J5v xx.1.1 xx.1.2.1 xx.1.2.2.1 xx.1.2.2.2.1 xx.1.2.2.2.2.1 xx.1.2.2.2.2.2.1 xx.1.2.2.2.2.2.2 (xx.2.1.1,xx.2.1.2.1,xx.2.1.2.2.1,(xx.2.1.2.2.2.1.1,xx.2.1.2.2.2.1.2),xx.2.1.2.2.2.2.1,xx.2.1.2.2.2.2.2.1,xx.2.1.2.2.2.2.2.2)) else none) fun xx=>by
 obtain⟨⟨(tk:Int),(st:Int),(S:List Sta),(O:List Ord),(M:List Met),(X:List Out),(Q:List Per)⟩,⟨(n:ByteArray),(f:ByteArray),(t:ByteArray),⟨(a:Int),(b:Int)⟩,(p:Int),(c:Int),(r:Int)⟩,_⟩:=xx
 refine(by kernel_rfl:(Jt tk st S O M X Q→(n,f,t,(a,b),p,c,r)∈O→∃(x:Nat×Int×Int×Int×Int),(a=a+Nc x.1∧Sf S (Sf O (Sf M (Sf X (Sf Q (Si tk (Si st (Sf n (Sf f (Sf t (Si a (Si b (Si p (Si c (Si r (B0=Ja∧Si 0 (Si 0 (Si 0 (Si 0 (Si 0 (Sf n (0=x.2.1∧0=x.2.2.1∧0=x.2.2.2.1∧Si 0 (0=x.2.2.2.2∧Sf n (Sf f (Sf t (Si a (Si b (Si p (Si c (r=r))))))))))))))))))))))))))))))∧Ktk x n f t a b p c r st M∧∀(x:Nat×Jom),(match x with|(j,c_1,s,g,f_1)=>Ktr j n f t a b p c r c_1 s g f_1 st M)→Br (decide (a+Nc x.1<b)) (Br (J2 (n,f,t,(a,b),p,c,r) (a+Nc x.1)) (Br (decide (a+Nc x.1<st)) ((Jt tk st S O M X Q∧Tw (Bd (K2 M n (a+Nc x.1)) (Ln M)))∧Iw (x.2.1+1)∧Iw (Kj2 x M n a)∧Iw (J8u x M n a)∧(Iw (Kkg p M n a x)∧Iw (3*Kkg p M n a x)∧Iw (Kje x p M n a))∧Br false (Iw (J8u x M n a*c)∧Sf true ((n,x.2.1+1,Kj2 x M n a,J8u x M n a,J8u x M n a*c,Kje x p M n a)=Un st M (n,f,t,(a,b),p,c,r))) (Iw (a+Nc x.1+1)∧∃(y:Nat×Int×Int×Int×Int),(a+Nc x.1+1=a+Nc y.1∧Sf S (Sf O (Sf M (Sf X (Sf Q (Si tk (Si st (Sf n (Sf f (Sf t (Si a (Si b (Si p (Si c (Si r (Sf Ja (Si 0 (Si 0 (Si 0 (Si 0 (Si 0 (Sf n (x.2.1+1=y.2.1∧Kj2 x M n a=y.2.2.1∧J8u x M n a=y.2.2.2.1∧Si 0 (Kje x p M n a=y.2.2.2.2∧Sf n (Sf f (Sf t (Si a (Si b (Si p (Si c (r=r)))))))))))))))))))))))))))))))∧Ks8 y n f t a b p c r st M x)) (J7i x c n st M f t a b p r S O X Q tk)) (J7i x c n st M f t a b p r S O X Q tk)) (Iw (x.2.2.2.1*c)∧Sf true ((n,x.2.1,x.2.2.1,x.2.2.2.1,x.2.2.2.1*c,x.2.2.2.2)=Un st M (n,f,t,(a,b),p,c,r))))=_).mp ?_
 delta Z66 Z70 Jyk Jt J9m Kky Kkg Kj2 J8u Kje Ktr Ktk Ks8 J7i Br Iw Bd Tw Sf Si Ln Nc Gt B0
 intro hr hx
 have hO:=hr.ord _ hx
 have hD:=hr.done _ hx
 have b0:=hO.span.lo
 have b1:=hO.span.mid
 have b2:=hO.span.hi
 have b3:=hO.span.len
 have bp:=hO.pow
 have bc:=hO.pri
 have hn:Um (n,f,t,(a,b),p,c,r)≤48∧(Um (n,f,t,(a,b),p,c,r):Int)=b-a:=by
  dsimp only at b1 b3
  unfold Um
  constructor<;>dsimp only<;>omega
 dsimp only at b0 b1 b2 b3 bp bc hD
 refine⟨((0:Nat),(0,0,0,0)),by(repeat' first|exact rfl|apply And.intro|exact(Int.add_zero _).symm|omega|dsimp only;omega),⟨Nat.zero_le _,by omega,by omega,by omega,by omega, ?_⟩,fun(y:Nat×Jom) hy=>⟨fun h1=> ?_,fun h1=> ?_⟩⟩
 ·unfold Lo
  rw[Nat.sub_zero]
  simp only[Int.natCast_zero,Int.add_zero]
 ·obtain⟨j,c1,s1,g1,f1⟩:=y
  obtain⟨k1,k2,k3,k4,k5,k6⟩:=hy
  have h1:a+(j:Int)<b:=of_decide_eq_true h1
  have hj:Um (n,f,t,(a,b),p,c,r)-j=(Um (n,f,t,(a,b),p,c,r)-(j+1))+1:=by omega
  rw[hj,Jjz] at k6
  have hc:a+(j:Int)+1=a+((j+1:Nat):Int):=by omega
  have hB: -9223372036854775808≤a+(j:Int)+1∧a+(j:Int)+1≤9223372036854775807:=by omega
  refine⟨fun h2=>⟨fun h3=> ?_,fun h3=>⟨fun h=>(by cases h),fun _=>⟨hB,(j+1,c1,s1,g1,f1),by(repeat' first|exact rfl|apply And.intro|exact(Int.add_zero _).symm|omega|dsimp only;omega),⟨by(first|omega|dsimp only;omega),by(first|omega|dsimp only;omega),by(first|omega|dsimp only;omega),by(first|omega|dsimp only;omega),by(first|omega|dsimp only;omega), ?_⟩,by(first|omega|dsimp only;omega)⟩⟩⟩,fun h2=>⟨fun h=>(by cases h),fun _=>⟨hB,(j+1,c1,s1,g1,f1),by(repeat' first|exact rfl|apply And.intro|exact(Int.add_zero _).symm|omega|dsimp only;omega),⟨by(first|omega|dsimp only;omega),by(first|omega|dsimp only;omega),by(first|omega|dsimp only;omega),by(first|omega|dsimp only;omega),by(first|omega|dsimp only;omega), ?_⟩,by(first|omega|dsimp only;omega)⟩⟩⟩
  ·have h3':a+(j:Int)<st:=of_decide_eq_true h3
   have hm:0≤K2 M n (a+(j:Int)):=hD _ h2 h3'
   have hl:=Jev (l:=M) (s:=n) (h:=a+(j:Int))
   have hM:Jxu (Jew M n (a+(j:Int))):=hr.met _ (Jc (show _<M.length by omega))
   have m1:=hM.sent
   have m2:=hM.got
   have e:M.getD (K2 M n (a+(j:Int))).toNat (Ja,0,0,0)=Jew M n (a+(j:Int)):=rfl
   simp only[]
   rw[show(({data:={toList:=[]}}:ByteArray),(0:Int),(0:Int),(0:Int))=(Ja,0,0,0) from rfl,e]
   rw[h2,h3,Bool.true_and,cond_true] at k6
   refine⟨⟨hr,⟨hm,hl⟩,hm,hl⟩,by omega,by omega,by omega,⟨by omega,by omega,by omega⟩,fun h=>(by cases h),fun _=>⟨hB,(j+1,c1+1,s1+(Jew M n (a+(j:Int))).2.2.1,g1+(Jew M n (a+(j:Int))).2.2.2,f1+3*(p-(Jew M n (a+(j:Int))).2.2.2)),by(repeat' first|exact rfl|apply And.intro|exact(Int.add_zero _).symm|omega|dsimp only;omega),⟨by(first|omega|dsimp only;omega),by(first|omega|dsimp only;omega),by(first|omega|dsimp only;omega),by(first|omega|dsimp only;omega),by(first|omega|dsimp only;omega), ?_⟩,by(first|omega|dsimp only;omega)⟩⟩
   rw[hc] at k6
   exact k6
  ·rw[h3,Bool.and_false,cond_false,hc] at k6
   exact k6
  ·rw[show J2 (n,f,t,(a,b),p,c,r) (a+(j:Int))=false from h2,Bool.false_and,cond_false,hc] at k6
   exact k6
 ·obtain⟨j,c1,s1,g1,f1⟩:=y
  obtain⟨k1,k2,k3,k4,k5,k6⟩:=hy
  have h1:¬a+(j:Int)<b:=of_decide_eq_false h1
  have hj:Um (n,f,t,(a,b),p,c,r)-j=0:=by omega
  rw[hj,Jjz] at k6
  have q1:0≤g1*c:=Int.mul_nonneg k4.1 bc.1
  have q2:g1*c≤48000*1000:=Int.mul_le_mul (by omega) bc.2 bc.1 (by decide)
  refine⟨⟨by(first|omega|dsimp only;omega),by(first|omega|dsimp only;omega)⟩,rfl, ?_⟩
  unfold Un
  rw[←k6]
abbrev K34:=K35.add Kpu
def bd4 (k:Int) (a:Jom):Prop:=(0≤a.1∧a.1≤k)∧(0≤a.2.1∧a.2.1≤1000*k)∧(0≤a.2.2.1∧a.2.2.1≤a.2.1)∧-3000*k≤a.2.2.2∧a.2.2.2≤3000*k
theorem Jp2 {st:Int} {M:List Met} {x:Ord} (hp:1≤x.2.2.2.2.1∧x.2.2.2.2.1≤1000) (hM:∀m∈M,Jxu m) (hd:∀h,J2 x h=true→h<st→0≤K2 M x.1 h):∀(n:Nat) (h:Int) (a:Jom) (k:Int),bd4 k a→bd4 (k+n) (Jjz st M x h n a)
 |0,_,_,k,ha=>by unfold Jjz;rw[show k+((0:Nat):Int)=k by omega];exact ha
 | n + 1, h, (c, s, g, f), k, ha => by
  unfold Jjz
  rw[show k+((n+1:Nat):Int)=(k+1)+n by omega]
  apply Jp2 hp hM hd n
  unfold bd4 at ha⊢
  dsimp only at ha
  cases hb:J2 x h&&decide (h<st) with
  |false=>simp only[cond_false];omega
  |true=>
   have h1:=Bool.and_eq_true_iff.1 hb
   have hm:0≤K2 M x.1 h:=hd h h1.1 (of_decide_eq_true h1.2)
   have hl:=Jev (l:=M) (s:=x.1) (h:=h)
   have hk:Jxu (Jew M x.1 h):=hM _ (Jc (show _<M.length by omega))
   have m1:=hk.sent
   have m2:=hk.got
   simp only[cond_true]
   omega
theorem Jor {S:List Sta} {x:Ord} (h:Jdc S x):Um x≤48:=by
 have:=h.span.len
 have:=h.span.mid
 unfold Um
 omega
structure J3c (b:Jqt):Prop where
 hours:0≤b.2.1∧b.2.1≤48
 sent:0≤b.2.2.1∧b.2.2.1≤48000
 got:0≤b.2.2.2.1∧b.2.2.2.1≤b.2.2.1
 money:0≤b.2.2.2.2.1∧b.2.2.2.2.1≤48000000
 fine: -144000≤b.2.2.2.2.2∧b.2.2.2.2.2≤144000
theorem Ja4 {tk st:Int} {S:List Sta} {O:List Ord} {M:List Met} {X:List Out} {Q:List Per} {x:Ord} (hr:Jk (tk,st,S,O,M,X,Q)) (hx:x∈O):J3c (Un st M x):=by
 have hO:=hr.ord _ hx
 have hs:=Jor hO
 have h:=Jp2 hO.pow hr.met (hr.done _ hx) (Um x) x.2.2.2.1.1 (0,0,0,0) 0 (by unfold bd4;simp)
 have bc:=hO.pri
 unfold bd4 at h
 have h:(0≤(Lo st M x).1∧(Lo st M x).1≤0+(Um x:Int))∧(0≤(Lo st M x).2.1∧(Lo st M x).2.1≤1000*(0+(Um x:Int)))∧(0≤(Lo st M x).2.2.1∧(Lo st M x).2.2.1≤(Lo st M x).2.1)∧-3000*(0+(Um x:Int))≤(Lo st M x).2.2.2∧(Lo st M x).2.2.2≤3000*(0+(Um x:Int)):=h
 have q1:0≤(Lo st M x).2.2.1*x.2.2.2.2.2.1:=Int.mul_nonneg h.2.2.1.1 bc.1
 have q2:(Lo st M x).2.2.1*x.2.2.2.2.2.1≤48000*1000:=Int.mul_le_mul (by omega) bc.2 bc.1 (by decide)
 exact⟨by unfold Un;(first|omega|dsimp only;omega),by unfold Un;(first|omega|dsimp only;omega),by unfold Un;(first|omega|dsimp only;omega),by unfold Un;(first|omega|dsimp only;omega),by unfold Un;(first|omega|dsimp only;omega)⟩
def Fh (x:Ord) (a b:ByteArray):Bool:=x.2.1.toList==a.toList&&(x.2.2.1.toList==b.toList&&true)
def Kcu (st:Int) (M:List Met) (a b:ByteArray) (x:Ord) (n:Int):Int:=(bif Fh x b a then(bif Fh x a b then n+((Un st M x).2.2.2.2.1-(Un st M x).2.2.2.2.2) else n)-((Un st M x).2.2.2.2.1-(Un st M x).2.2.2.2.2) else(bif Fh x a b then n+((Un st M x).2.2.2.2.1-(Un st M x).2.2.2.2.2) else n))
def Jxc (st:Int) (M:List Met) (a b:ByteArray):List Ord→Int→Int
 |[],n=>n
 |x::l,n=>Jxc st M a b l (Kcu st M a b x n)
def Dn (st:Int) (O:List Ord) (M:List Met) (a b:ByteArray):Int:=Jxc st M a b O 0
def J0f:Con:={args:=[Jbd,aS,aS],ress:=[I],owns:=[],pre:=fun(r,_)=>[Jk r],spec:=fun((_,st,_,O,M,_),a,b,_)=>(Dn st O M a b,())}
abbrev Kcn (tk st:Int) (S:List Sta) (O:List Ord) (M:List Met) (X:List Out) (Q:List Per) (a b:ByteArray):Ann:={X:=Nat×Int,σ:=fun(k,n)=>⟨6,[(1, .one (.str a)),(2, .one (.str b)),(3, .one (.ptr 5 0)),(7, .one (.int .i64 n)),(13, .one (.sl 1)),(14, .one (.int .i64 O.length)),(15, .one (.int .i64 k))],[(0, .imm 127 Dp S),(1, .imm 130 Hm O),(2, .imm 155 Fb M),(3, .imm 188 X4 X),(4, .imm 235 Zw Q),(5, .box 105 [.int .i64 tk, .int .i64 st, .sl 0, .sl 1, .sl 2, .sl 3, .sl 4])]⟩,inv:=fun(k,n)=>k≤O.length∧(-100000000*k≤n∧n≤100000000*k)∧Jxc st M a b (O.drop k) n=Dn st O M a b,mu:=fun(k,_)=>O.length-k}
def Kjz (a:List Ord) (b:Nat×Int) (c:Bt):=Lb (Ke7 a b) c
def Kjw (a:List Ord) (b:Nat×Int) (c:Bt):=Lb (Ke4 a b) c
def Kd0 (a:List Ord) (b c:Nat×Int) (d:List Sta) (e:List Met) (f:List Out) (g:List Per) (h i:Int):=Si (Ln a) (Jqe b c d a e f g h i)
def Kht (a:Nat×Int) (b:List Ord) (c:Int) (d:List Met) (e f:Bt):=a.1≤List.length b∧((-100000000)*Nc a.1≤a.2∧a.2≤100000000*Nc a.1)∧Jxc c d e f (List.drop a.1 b) a.2=Dn c b d e f
def Khh (a:List Ord) (b:Nat×Int) (c d:Bt):=Kjz a b c&&(Kjw a b d&&true)
def Kdn (a:Nat×Int) (b:List Ord) (c:Int) (d:List Met) (e f:Bt) (g:Nat×Int):=Kht a b c d e f∧List.length b-a.1<List.length b-g.1
def Ks7 (a:Int) (b:List Met) (c:List Ord) (d:Nat×Int):=(Un a b (J52 c d)).2.2.2.2
def Jxl (a:Int) (b:List Met) (c:List Ord) (d:Nat×Int):=(Ks7 a b c d).1-(Ks7 a b c d).2
def J1g (a:Int) (b:List Met) (c:List Ord) (d:Nat×Int):=Iw (Jxl a b c d)
def J1f (a:Nat×Int) (b:Int) (c:List Met) (d:List Ord):=a.2+Jxl b c d a
def J7m (a:Nat×Int) (b:Int) (c:List Met) (d:List Ord):=a.2-Jxl b c d a
def J7a (a:Nat×Int) (b:Int) (c:List Met) (d:List Ord):=J1f a b c d-Jxl b c d a
theorem Kpt:Ok Tryz.prog 127 J0f:=okW K34 Tryz.f127 (fun xx=>Xo (Kcn xx.1.1 xx.1.2.1 xx.1.2.2.1 xx.1.2.2.2.1 xx.1.2.2.2.2.1 xx.1.2.2.2.2.2.1 xx.1.2.2.2.2.2.2 xx.2.1 xx.2.2.1)) fun xx=>by
 obtain⟨⟨(tk:Int),(st:Int),(S:List Sta),(O:List Ord),(M:List Met),(X:List Out),(Q:List Per)⟩,(a:ByteArray),(b:ByteArray),_⟩:=xx
 refine(by kernel_rfl:(Jt tk st S O M X Q→∃(x:Nat×Int),Sf a (Sf b (0=x.2∧Si (Ln O) (Jx9 x S O M X Q tk st)))∧Kht x O st M a b∧∀(x:Nat×Int),Kht x O st M a b→Br (decide (Nc x.1<Ln O)) (Tw (Bd (Nc x.1) (Ln O))∧(Jt tk st S O M X Q∧J52 O x∈O)∧Br (Khh O x a b) ((J1g st M O x∧Iw (J1f x st M O))∧Br (Khh O x b a) ((J1g st M O x∧Iw (J7a x st M O))∧Z37 x∧∃(y:Nat×Int),Sf a (Sf b (J7a x st M O=y.2∧Kd0 O x y S M X Q tk st))∧Kdn y O st M a b x) (Z37 x∧∃(y:Nat×Int),Sf a (Sf b (J1f x st M O=y.2∧Kd0 O x y S M X Q tk st))∧Kdn y O st M a b x)) (Br (Khh O x b a) ((J1g st M O x∧Iw (J7m x st M O))∧Z37 x∧∃(y:Nat×Int),Sf a (Sf b (J7m x st M O=y.2∧Kd0 O x y S M X Q tk st))∧Kdn y O st M a b x) (Z37 x∧∃(y:Nat×Int),Sf a (Sf b (x.2=y.2∧Kd0 O x y S M X Q tk st))∧Kdn y O st M a b x))) (x.2=Dn st O M a b))=_).mp ?_
 delta Z37 Z66 Z70 Jse Jt Jgd Kfb Ke9 Ke8 Ke7 Ke5 Ke4 Ke3 Ke1 Ke0 Kjz Kjw Jqf Jx9 Jqe Kd0 Kht Khh Kdn J52 Ks7 Jxl J1g J1f J7m J7a Br Iw Bd Tw Sf Si Ln Nc B0 Lb E2
 intro hr
 have nO:O.length≤32:=hr.nO
 refine⟨((0:Nat),(0:Int)),by(repeat' first|exact rfl|apply And.intro|exact(Int.add_zero _).symm|omega|dsimp only;omega),⟨Nat.zero_le _,by omega,rfl⟩,fun(x:Nat×Int) hk=>⟨fun h1=> ?_,fun h1=> ?_⟩⟩
 ·obtain⟨k,n⟩:=x
  have hlt:k<O.length:=by simpa using h1
  have hx:=Jc (d:=Kl) hlt
  have hb:=Ja4 hr hx
  obtain⟨k1,k2,k3⟩:=hk
  rw[Js (d:=Kl) hlt,Jxc] at k3
  have m1:=hb.money
  have m2:=hb.fine
  have hz:((({data:={toList:=[]}}:ByteArray),({data:={toList:=[]}}:ByteArray),({data:={toList:=[]}}:ByteArray),((0:Int),(0:Int)),(0:Int),(0:Int),(0:Int)):Ord)=Kl:=rfl
  dsimp only at k1 k2 k3
  simp only[hz,Prod.eta]
  generalize O.getD k Kl=y at*
  have k3:Jxc st M a b (List.drop (k+1) O) (bif Fh y b a then(bif Fh y a b then n+((Un st M y).2.2.2.2.1-(Un st M y).2.2.2.2.2) else n)-((Un st M y).2.2.2.2.1-(Un st M y).2.2.2.2.2) else(bif Fh y a b then n+((Un st M y).2.2.2.2.1-(Un st M y).2.2.2.2.2) else n))=Dn st O M a b:=k3
  refine⟨⟨⟨by omega,by omega⟩,by omega,by omega⟩,⟨hr,hx⟩,fun h2=>⟨⟨⟨by omega,by omega⟩,by omega,by omega⟩,fun h3=>⟨⟨⟨by omega,by omega⟩,by omega,by omega⟩,⟨⟨by omega,by omega⟩,(k+1,n+((Un st M y).2.2.2.2.1-(Un st M y).2.2.2.2.2)-((Un st M y).2.2.2.2.1-(Un st M y).2.2.2.2.2)),by(repeat' first|exact rfl|exact⟨⟩|apply And.intro|omega|dsimp only;omega),⟨by(first|omega|dsimp only;omega),by(first|omega|dsimp only;omega), ?_⟩,by(first|omega|dsimp only;omega)⟩⟩,fun h3=>⟨⟨by omega,by omega⟩,(k+1,n+((Un st M y).2.2.2.2.1-(Un st M y).2.2.2.2.2)),by(repeat' first|exact rfl|exact⟨⟩|apply And.intro|omega|dsimp only;omega),⟨by(first|omega|dsimp only;omega),by(first|omega|dsimp only;omega), ?_⟩,by(first|omega|dsimp only;omega)⟩⟩,fun h2=>⟨fun h3=>⟨⟨⟨by omega,by omega⟩,by omega,by omega⟩,⟨⟨by omega,by omega⟩,(k+1,n-((Un st M y).2.2.2.2.1-(Un st M y).2.2.2.2.2)),by(repeat' first|exact rfl|exact⟨⟩|apply And.intro|omega|dsimp only;omega),⟨by(first|omega|dsimp only;omega),by(first|omega|dsimp only;omega), ?_⟩,by(first|omega|dsimp only;omega)⟩⟩,fun h3=>⟨⟨by omega,by omega⟩,(k+1,n),by(repeat' first|exact rfl|exact⟨⟩|apply And.intro|omega|dsimp only;omega),⟨by(first|omega|dsimp only;omega),by(first|omega|dsimp only;omega), ?_⟩,by(first|omega|dsimp only;omega)⟩⟩⟩
  all_goals (have h2:Fh y a b=_:=h2;have h3:Fh y b a=_:=h3;rw[h2,h3] at k3;exact k3)
 ·obtain⟨k,n⟩:=x
  have hlt:¬k<O.length:=by simpa using h1
  obtain⟨k1,k2,k3⟩:=hk
  have:k=O.length:=by omega
  rw[this,List.drop_length,Jxc] at k3
  exact k3
abbrev K33:=K34.add Kpt
theorem Jxb {tk st:Int} {S:List Sta} {O:List Ord} {M:List Met} {X:List Out} {Q:List Per} {a b:ByteArray} (hr:Jk (tk,st,S,O,M,X,Q)):∀(l:List Ord) (n:Int),(∀x∈l,x∈O)→n-100000000*l.length≤Jxc st M a b l n∧Jxc st M a b l n≤n+100000000*l.length
 |[],n,_=>by simp[Jxc]
 | x :: l, n, h => by
  have hb:=Ja4 hr (h x (List.mem_cons_self ..))
  have ih:=Jxb (a:=a) (b:=b) hr l (Kcu st M a b x n) fun y hy=>h y (List.mem_cons_of_mem _ hy)
  have m1:=hb.money
  have m2:=hb.fine
  have hd:n-100000000≤Kcu st M a b x n∧Kcu st M a b x n≤n+100000000:=by
   unfold Kcu
   cases Fh x a b<;>cases Fh x b a<;>simp only[cond_true,cond_false]<;>omega
  simp only[List.length_cons]
  unfold Jxc
  omega
theorem Jqc {tk st:Int} {S:List Sta} {O:List Ord} {M:List Met} {X:List Out} {Q:List Per} {a b:ByteArray} (hr:Jk (tk,st,S,O,M,X,Q)): -3200000000≤Dn st O M a b∧Dn st O M a b≤3200000000:=by
 have h:=Jxb (a:=a) (b:=b) hr O 0 fun _ h=>h
 have nO:O.length≤32:=hr.nO
 unfold Dn
 omega
def Jx4 (st:Int) (O:List Ord) (M:List Met) (s:ByteArray):List Sta→Int→Int
 |[],n=>n
 |x::l,n=>Jx4 st O M s l (bif x.1.toList !=s.toList then n+Dn st O M s x.1 else n)
def Jwn (st:Int) (S:List Sta) (O:List Ord) (M:List Met) (s:ByteArray):Int:=Jx4 st O M s S 0
def J0c:Con:={args:=[Jbd,aS],ress:=[I],owns:=[],pre:=fun(r,_)=>[Jk r],spec:=fun((_,st,S,O,M,_),s,_)=>(Jwn st S O M s,())}
abbrev Kck (tk st:Int) (S:List Sta) (O:List Ord) (M:List Met) (X:List Out) (Q:List Per) (s:ByteArray):Ann:={X:=Nat×Int,σ:=fun(k,n)=>⟨6,[(1, .one (.str s)),(2, .one (.ptr 5 0)),(5, .one (.int .i64 n)),(9, .one (.sl 0)),(10, .one (.int .i64 S.length)),(11, .one (.int .i64 k))],[(0, .imm 127 Dp S),(1, .imm 130 Hm O),(2, .imm 155 Fb M),(3, .imm 188 X4 X),(4, .imm 235 Zw Q),(5, .box 105 [.int .i64 tk, .int .i64 st, .sl 0, .sl 1, .sl 2, .sl 3, .sl 4])]⟩,inv:=fun(k,n)=>k≤S.length∧(-3200000000*k≤n∧n≤3200000000*k)∧Jx4 st O M s (S.drop k) n=Jwn st S O M s,mu:=fun(k,_)=>S.length-k}
def Klt (a:List Sta) (b:Nat×Int):=(List.getD a b.1 Z10).1
def Khv (a:Nat×Int) (b:List Sta) (c:Int) (d:List Ord) (e:List Met) (f:Bt):=a.1≤List.length b∧((-3200000000)*Nc a.1≤a.2∧a.2≤3200000000*Nc a.1)∧Jx4 c d e f (List.drop a.1 b) a.2=Jwn c b d e f
def Ku2 (a:Nat×Int) (b:List Sta) (c:Int) (d:List Ord) (e:List Met) (f:Bt) (g:Nat×Int):=Khv a b c d e f∧List.length b-a.1<List.length b-g.1
theorem Kps:Ok Tryz.prog 128 J0c:=okW K33 Tryz.f128 (fun xx=>Xo (Kck xx.1.1 xx.1.2.1 xx.1.2.2.1 xx.1.2.2.2.1 xx.1.2.2.2.2.1 xx.1.2.2.2.2.2.1 xx.1.2.2.2.2.2.2 xx.2.1)) fun xx=>by
 obtain⟨⟨(tk:Int),(st:Int),(S:List Sta),(O:List Ord),(M:List Met),(X:List Out),(Q:List Per)⟩,(s:ByteArray),_⟩:=xx
 refine(by kernel_rfl:(Jt tk st S O M X Q→∃(x:Nat×Int),Sf s (0=x.2∧Si (Ln S) (Jx9 x S O M X Q tk st))∧Khv x S st O M s∧∀(x:Nat×Int),Khv x S st O M s→Br (decide (Nc x.1<Ln S)) (Tw (Bd (Nc x.1) (Ln S))∧Br (!Lb (Klt S x) s) ((Jt tk st S O M X Q∧Iw (x.2+Dn st O M s (Klt S x)))∧Z37 x∧∃(y:Nat×Int),Sf s (x.2+Dn st O M s (Klt S x)=y.2∧Si (Ln S) (Jqe x y S O M X Q tk st))∧Ku2 y S st O M s x) (Z37 x∧∃(y:Nat×Int),Sf s (x.2=y.2∧Si (Ln S) (Jqe x y S O M X Q tk st))∧Ku2 y S st O M s x)) (x.2=Jwn st S O M s))=_).mp ?_
 delta Z10 Z37 Z66 Jse Jt Klt Jqf Jx9 Jqe Khv Ku2 Br Iw Bd Tw Sf Si Ln Nc B0 Lb
 intro hr
 have nS:S.length≤6:=hr.nS
 refine⟨((0:Nat),(0:Int)),by(repeat' first|exact rfl|exact⟨⟩|apply And.intro|omega|dsimp only;omega),⟨Nat.zero_le _,by omega,rfl⟩,fun(x:Nat×Int) hk=>⟨fun h1=> ?_,fun h1=> ?_⟩⟩
 ·obtain⟨k,n⟩:=x
  have hlt:k<S.length:=by simpa using h1
  obtain⟨k1,k2,k3⟩:=hk
  rw[Js (d:=Jsm) hlt,Jx4] at k3
  have hz:((({data:={toList:=[]}}:ByteArray),(0:Int),(0:Int)):Sta)=Jsm:=rfl
  dsimp only at k1 k2 k3
  simp only[hz,Prod.eta]
  generalize S.getD k Jsm=y at*
  have hb:=Jqc (a:=s) (b:=y.1) hr
  refine⟨⟨⟨by omega,by omega⟩,by omega,by omega⟩,fun h2=>⟨⟨hr,by omega,by omega⟩,⟨by omega,by omega⟩,(k+1,n+Dn st O M s y.1),by(repeat' first|exact rfl|exact⟨⟩|apply And.intro|omega|dsimp only;omega),⟨by(first|omega|dsimp only;omega),by(first|omega|dsimp only;omega), ?_⟩,by(first|omega|dsimp only;omega)⟩,fun h2=>⟨⟨by omega,by omega⟩,(k+1,n),by(repeat' first|exact rfl|exact⟨⟩|apply And.intro|omega|dsimp only;omega),⟨by(first|omega|dsimp only;omega),by(first|omega|dsimp only;omega), ?_⟩,by(first|omega|dsimp only;omega)⟩⟩
  all_goals (have h2:(y.1.toList !=s.toList)=_:=h2;rw[h2] at k3;exact k3)
 ·obtain⟨k,n⟩:=x
  have hlt:¬k<S.length:=by simpa using h1
  obtain⟨k1,k2,k3⟩:=hk
  have:k=S.length:=by omega
  rw[this,List.drop_length,Jx4] at k3
  exact k3
abbrev K32:=K33.add Kps
def Jrt (num den:Int):Int×Int:=(num.tdiv (Nat.gcd num.toNat den.toNat:Nat),den.tdiv (Nat.gcd num.toNat den.toNat:Nat))
def K12:Con:={args:=[aI,aI],ress:=[(true,Hi)],owns:=[],pre:=fun(a,b,_)=>[0≤a∧a≤1000000000000,1≤b∧b≤1000000000000],spec:=fun(a,b,_)=>(Jrt a b,())}
abbrev Kch (num den:Int):Ann:={X:=Int×Int,σ:=fun(a,b)=>⟨1,[(0, .one (.int .i64 num)),(1, .one (.int .i64 den)),(4, .one (.ptr 0 0)),(5, .one (.int .i64 a)),(6, .one (.int .i64 b))],[(0, .box 54 [.int .i64 0, .int .i64 0])]⟩,inv:=fun(a,b)=>(0≤a∧a≤1000000000000)∧(0≤b∧b≤1000000000000)∧(a=0→b≠0)∧Nat.gcd a.toNat b.toNat=Nat.gcd num.toNat den.toNat,mu:=fun(_,b)=>b.toNat}
def Z26:=Tw ((0:Int)=0)
def J08 (a:Int):=0≤a∧a≤1000000000000
def Klk (a:Int×Int):=a.2 !=0
def Khn (a:Int×Int) (b c:Int):=(0≤a.1∧a.1≤1000000000000)∧(0≤a.2∧a.2≤1000000000000)∧(a.1=0→a.2=0→False)∧Nat.gcd (Int.toNat a.1) (Int.toNat a.2)=Nat.gcd (Int.toNat b) (Int.toNat c)
theorem K4g:Ok Tryz.prog 99 K12:=okW K32 Tryz.f99 (fun xx=>Xo (Kch xx.1 xx.2.1)) fun xx=>by
 obtain⟨(num:Int),(den:Int),_⟩:=xx
 refine(by kernel_rfl:(J08 num→1≤den∧den≤1000000000000→∃(x:Int×Int),Si num (Si den (num=x.1∧den=x.2∧Z26))∧Khn x num den∧∀(x:Int×Int),Khn x num den→Br (Klk x) ((x.2=0→False)∧∃(y:Int×Int),Si num (Si den (x.2=y.1∧Int.tmod x.1 x.2=y.2∧Z26))∧Khn y num den∧Int.toNat y.2<Int.toNat x.2) (((x.1=0→False)∧Iw (Int.tdiv num x.1)∧(x.1=0→False)∧Iw (Int.tdiv den x.1))∧(Int.tdiv num x.1,Int.tdiv den x.1)=Jrt num den))=_).mp ?_
 delta Z26 J08 Klk Khn Br Iw Tw Si
 intro h1' h2
 refine⟨(num,den),by(repeat' first|exact rfl|exact⟨⟩|apply And.intro|omega|dsimp only;omega),⟨h1',by(first|omega|dsimp only;omega),by(first|omega|dsimp only;omega),rfl⟩,fun(x:Int×Int) hk=>⟨fun h1=> ?_,fun h1=> ?_⟩⟩
 ·obtain⟨a,b⟩:=x
  obtain⟨k1,k2,k3,k4⟩:=hk
  dsimp only at k1 k2 k3 k4 h1
  have hb:b≠0:=bne_iff_ne.1 h1
  obtain⟨A,rfl⟩:=Int.eq_ofNat_of_zero_le k1.1
  obtain⟨B,rfl⟩:=Int.eq_ofNat_of_zero_le k2.1
  have hB:0<B:=by omega
  have hm:=Nat.mod_lt A hB
  have e:((A:Int).tmod (B:Int))=((A %B:Nat):Int):=(Int.ofNat_tmod A B).symm
  refine⟨hb,((B:Int),((A %B:Nat):Int)),⟨rfl,rfl,rfl,e,rfl,rfl⟩,⟨by(first|omega|dsimp only;omega),by(first|omega|dsimp only;omega),fun h=>(by dsimp only at h;omega), ?_⟩, ?_⟩
  ·rw[←k4]
   simp only[Int.toNat_natCast]
   rw[Nat.gcd_comm A B,Nat.gcd_rec B A,Nat.gcd_comm]
  ·simp only[Int.toNat_natCast]
   exact hm
 ·obtain⟨a,b⟩:=x
  obtain⟨k1,k2,k3,k4⟩:=hk
  dsimp only at k1 k2 k3 k4 h1
  have hb:b=0:=by simpa using h1
  subst hb
  have ha:a≠0:=fun h=>k3 h rfl
  have hg:(Nat.gcd num.toNat den.toNat:Int)=a:=by rw[←k4];simp;omega
  have d1:0≤num.tdiv a:=Int.tdiv_nonneg h1'.1 k1.1
  have d2:num.tdiv a≤num:=Int.tdiv_le_self _ h1'.1
  have d3:0≤den.tdiv a:=Int.tdiv_nonneg (by omega) k1.1
  have d4:den.tdiv a≤den:=Int.tdiv_le_self _ (by omega)
  refine⟨⟨ha,⟨by(first|omega|dsimp only;omega),by(first|omega|dsimp only;omega)⟩,ha,by(first|omega|dsimp only;omega),by(first|omega|dsimp only;omega)⟩, ?_⟩
  unfold Jrt
  rw[hg]
abbrev K31:=K32.add K4g
abbrev J99:Sch:= .prod .str (.prod sI .bool)
abbrev Frm:=ByteArray×Int×Bool
def Zm (k:ByteArray):Frm:=
 bif k.toList==Ju.toList then(⟨⟨[83]⟩⟩,2,true) else
 bif k.toList==K7.toList then(⟨⟨[115]⟩⟩,2,true) else
 bif k.toList==Kk.toList then(⟨⟨[79,115,115]⟩⟩,4,true) else
 bif k.toList==K0.toList then(⟨⟨[111]⟩⟩,4,true) else
 bif k.toList==Vo.toList then(⟨⟨[111]⟩⟩,1,true) else
 bif k.toList==Jv.toList then(⟨⟨[88,115]⟩⟩,4,true) else
 bif k.toList==Jq.toList then(⟨⟨[120]⟩⟩,1,true) else
 bif k.toList==Kb.toList then(⟨⟨[80,120]⟩⟩,1,true) else
 bif k.toList==Ka.toList then(⟨⟨[112]⟩⟩,1,true) else
 bif k.toList==Jh.toList then(⟨⟨[]⟩⟩,2,true) else
 bif k.toList==Jz.toList then(⟨⟨[]⟩⟩,0,true) else
 (Ja,0,false)
def Krb:Con:={args:=[aS],ress:=[(true,J99)],owns:=[],pre:=fun _=>[],spec:=fun(k,_)=>(Zm k,())}
theorem Kam:Ok Tryz.prog 110 Krb:=okW K31 Tryz.f110 na fun xx=>by
 obtain⟨(k:ByteArray),_⟩:=xx
 refine(by kernel_rfl:(Br (Lb k Ju) ((ByteArray.mk (Array.mk [83]),2,true)=Zm k) (Br (Lb k K7) ((ByteArray.mk (Array.mk [115]),2,true)=Zm k) (Br (Lb k Kk) ((ByteArray.mk (Array.mk [79,115,115]),4,true)=Zm k) (Br (Lb k K0) ((ByteArray.mk (Array.mk [111]),4,true)=Zm k) (Br (Lb k Vo) ((ByteArray.mk (Array.mk [111]),1,true)=Zm k) (Br (Lb k Jv) ((ByteArray.mk (Array.mk [88,115]),4,true)=Zm k) (Br (Lb k Jq) ((ByteArray.mk (Array.mk [120]),1,true)=Zm k) (Br (Lb k Kb) ((ByteArray.mk (Array.mk [80,120]),1,true)=Zm k) (Br (Lb k Ka) ((ByteArray.mk (Array.mk [112]),1,true)=Zm k) (Br (Lb k Jh) ((B0,2,true)=Zm k) (Br (Lb k Jz) ((B0,0,true)=Zm k) ((B0,0,false)=Zm k))))))))))))=_).mp ?_
 delta Br B0 Lb K0 Kk Jv Kb K7 Jq Ka Jh Ju Vo Jz
 unfold Zm
 repeat' first|(refine⟨fun h=> ?_,fun h=> ?_⟩)|(rw[h];clear h)
 all_goals rfl
abbrev K7v:=K31.add Kam
abbrev K30:=K7v
abbrev Jky:Sch:= .prod sI (.prod sI (.prod (.list 114 Dp) (.prod (.list 119 Hm) (.prod (.list 121 Fb) (.prod (.list 123 X4) (.list 125 Zw))))))
abbrev X2:AK:= .val true Jky
def Kro:Con:={args:=[X2,aS],ress:=[I],owns:=[],pre:=fun((_,_,L,_),_)=>[L.length≤1000000],spec:=fun((_,_,L,_),s,_)=>(Jx L s,())}
abbrev J5z (tk st:Int) (S:List Sta) (O:List Ord) (M:List Met) (X:List Out) (Q:List Per) (s:ByteArray):Ann:={X:=Nat,σ:=fun k=>⟨6,[(1, .one (.str s)),(2, .one (.ptr 5 0)),(5, .one (.int .i64 k))],[(0, .imm 114 Dp S),(1, .imm 119 Hm O),(2, .imm 121 Fb M),(3, .imm 123 X4 X),(4, .imm 125 Zw Q),(5, .box 37 [.int .i64 tk, .int .i64 st, .sl 0, .sl 1, .sl 2, .sl 3, .sl 4])]⟩,inv:=fun k=>k≤S.length∧Jx S s=Vn (fun x=>x.1.toList==s.toList) (S.drop k) k,mu:=fun k=>S.length-k}
def Kj9 (a:Nat) (b:List Sta) (c:Bt):=a≤List.length b∧Jx b c=Vn (fun(x:Sta)=>Lb x.1 c) (List.drop a b) a
def Jx8 (a:Bt) (b:Nat) (c:List Sta) (d:List Ord) (e:List Met) (f:List Out) (g:List Per) (h i:Int):=Sf a (0=Nc b∧Jqf c d e f g h i)
def Jx7 (a:Bt) (b c:Nat) (d:List Sta) (e:List Ord) (f:List Met) (g:List Out) (h:List Per) (i j:Int):=Sf a (V5 b c∧Jqf d e f g h i j)
theorem K5n:Ok Tryz.prog 21 Kro:=okW K30 Tryz.f21 (fun xx=>Xo (J5z xx.1.1 xx.1.2.1 xx.1.2.2.1 xx.1.2.2.2.1 xx.1.2.2.2.2.1 xx.1.2.2.2.2.2.1 xx.1.2.2.2.2.2.2 xx.2.1)) fun xx=>by
 obtain⟨⟨(tk:Int),(st:Int),(S:List Sta),(O:List Ord),(M:List Met),(X:List Out),(Q:List Per)⟩,(s:ByteArray),_⟩:=xx
 refine(by kernel_rfl:(Z55 S→∃(x:Nat),Jx8 s x S O M X Q tk st∧Kj9 x S s∧∀(x:Nat),Kj9 x S s→Br (decide (Nc x<Ln S)) (Tw (Bd (Nc x) (Ln S))∧Br (Lb (List.getD S x Z10).1 s) (Nc x=Jx S s) (Z20 x∧∃(y:Nat),Jx7 s x y S O M X Q tk st∧Kj9 y S s∧List.length S-y<List.length S-x)) (Z68=Jx S s))=_).mp ?_
 delta Z10 Z20 Z55 Z68 V5 Kj9 Jqf Jx8 Jx7 Br Iw Bd Tw Sf Si Ln Nc B0 Lb
 intro hb
 refine⟨(0:Nat),by(repeat' first|exact rfl|exact⟨⟩|apply And.intro|omega|dsimp only;omega),⟨Nat.zero_le _,rfl⟩,fun(k:Nat) hk=>⟨fun h=> ?_,fun h=> ?_⟩⟩
 ·have hlt:k<S.length:=by simpa using h
  have hd:=V9 (p:=fun x=>x.1.toList==s.toList) (d:=Jsm) hlt
  refine⟨by omega,fun h1=> ?_,fun h1=>⟨by omega,(k+1:Nat),by(repeat' first|exact rfl|exact⟨⟩|apply And.intro|omega|dsimp only;omega),⟨by omega, ?_⟩,by omega⟩⟩
  ·rw[hk.2,hd,if_pos (show((S.getD k Jsm).1.toList==s.toList)=true from h1)]
  ·rw[hk.2,hd,if_neg (by rw[show((S.getD k Jsm).1.toList==s.toList)=false from h1];simp)]
 ·have hlt:¬k<S.length:=by simpa using h
  have:k=S.length:=by omega
  rw[hk.2,this,List.drop_length];rfl
abbrev K3z:=K30.add K5n
def Krn:Con:={args:=[X2,aS],ress:=[I],owns:=[],pre:=fun((_,_,_,L,_),_)=>[L.length≤1000000],spec:=fun((_,_,_,L,_),s,_)=>(Ku L s,())}
abbrev J5y (tk st:Int) (S:List Sta) (O:List Ord) (M:List Met) (X:List Out) (Q:List Per) (s:ByteArray):Ann:={X:=Nat,σ:=fun k=>⟨6,[(1, .one (.str s)),(2, .one (.ptr 5 0)),(5, .one (.int .i64 k))],[(0, .imm 114 Dp S),(1, .imm 119 Hm O),(2, .imm 121 Fb M),(3, .imm 123 X4 X),(4, .imm 125 Zw Q),(5, .box 37 [.int .i64 tk, .int .i64 st, .sl 0, .sl 1, .sl 2, .sl 3, .sl 4])]⟩,inv:=fun k=>k≤O.length∧Ku O s=Vn (fun x=>x.1.toList==s.toList) (O.drop k) k,mu:=fun k=>O.length-k}
def Kj8 (a:Nat) (b:List Ord) (c:Bt):=a≤List.length b∧Ku b c=Vn (fun(x:Ord)=>Lb x.1 c) (List.drop a b) a
theorem K4q:Ok Tryz.prog 86 Krn:=okW K3z Tryz.f86 (fun xx=>Xo (J5y xx.1.1 xx.1.2.1 xx.1.2.2.1 xx.1.2.2.2.1 xx.1.2.2.2.2.1 xx.1.2.2.2.2.2.1 xx.1.2.2.2.2.2.2 xx.2.1)) fun xx=>by
 obtain⟨⟨(tk:Int),(st:Int),(S:List Sta),(O:List Ord),(M:List Met),(X:List Out),(Q:List Per)⟩,(s:ByteArray),_⟩:=xx
 refine(by kernel_rfl:(Z56 O→∃(x:Nat),Jx8 s x S O M X Q tk st∧Kj8 x O s∧∀(x:Nat),Kj8 x O s→Br (decide (Nc x<Ln O)) (Tw (Bd (Nc x) (Ln O))∧Br (Lb (Kfa O x) s) (Nc x=Ku O s) (Z20 x∧∃(y:Nat),Jx7 s x y S O M X Q tk st∧Kj8 y O s∧List.length O-y<List.length O-x)) (Z68=Ku O s))=_).mp ?_
 delta Z20 Z56 Z68 Z70 V5 Jgd Kfc Kfa Kj8 Jqf Jx8 Jx7 Br Iw Bd Tw Sf Si Ln Nc B0 Lb
 intro hb
 refine⟨(0:Nat),by(repeat' first|exact rfl|exact⟨⟩|apply And.intro|omega|dsimp only;omega),⟨Nat.zero_le _,rfl⟩,fun(k:Nat) hk=>⟨fun h=> ?_,fun h=> ?_⟩⟩
 ·have hlt:k<O.length:=by simpa using h
  have hd:=V9 (p:=fun x=>x.1.toList==s.toList) (d:=Kl) hlt
  refine⟨by omega,fun h1=> ?_,fun h1=>⟨by omega,(k+1:Nat),by(repeat' first|exact rfl|exact⟨⟩|apply And.intro|omega|dsimp only;omega),⟨by omega, ?_⟩,by omega⟩⟩
  ·rw[hk.2,hd,if_pos (show((O.getD k Kl).1.toList==s.toList)=true from h1)]
  ·rw[hk.2,hd,if_neg (by rw[show((O.getD k Kl).1.toList==s.toList)=false from h1];simp)]
 ·have hlt:¬k<O.length:=by simpa using h
  have:k=O.length:=by omega
  rw[hk.2,this,List.drop_length];rfl
abbrev K3y:=K3z.add K4q
def Krm:Con:={args:=[X2,aS],ress:=[I],owns:=[],pre:=fun((_,_,_,_,_,L,_),_)=>[L.length≤1000000],spec:=fun((_,_,_,_,_,L,_),s,_)=>(J5 L s,())}
abbrev J5x (tk st:Int) (S:List Sta) (O:List Ord) (M:List Met) (X:List Out) (Q:List Per) (s:ByteArray):Ann:={X:=Nat,σ:=fun k=>⟨6,[(1, .one (.str s)),(2, .one (.ptr 5 0)),(5, .one (.int .i64 k))],[(0, .imm 114 Dp S),(1, .imm 119 Hm O),(2, .imm 121 Fb M),(3, .imm 123 X4 X),(4, .imm 125 Zw Q),(5, .box 37 [.int .i64 tk, .int .i64 st, .sl 0, .sl 1, .sl 2, .sl 3, .sl 4])]⟩,inv:=fun k=>k≤X.length∧J5 X s=Vn (fun x=>x.1.toList==s.toList) (X.drop k) k,mu:=fun k=>X.length-k}
def Kka (a:Nat) (b:List Out) (c:Bt):=a≤List.length b∧J5 b c=Vn (fun(x:Out)=>Lb x.1 c) (List.drop a b) a
theorem K4p:Ok Tryz.prog 87 Krm:=okW K3y Tryz.f87 (fun xx=>Xo (J5x xx.1.1 xx.1.2.1 xx.1.2.2.1 xx.1.2.2.2.1 xx.1.2.2.2.2.1 xx.1.2.2.2.2.2.1 xx.1.2.2.2.2.2.2 xx.2.1)) fun xx=>by
 obtain⟨⟨(tk:Int),(st:Int),(S:List Sta),(O:List Ord),(M:List Met),(X:List Out),(Q:List Per)⟩,(s:ByteArray),_⟩:=xx
 refine(by kernel_rfl:(Z54 X→∃(x:Nat),Jx8 s x S O M X Q tk st∧Kka x X s∧∀(x:Nat),Kka x X s→Br (Js0 x X) (Tw (Z14 x X)∧Br (Lb (J00 X x) s) (Nc x=J5 X s) (Z20 x∧∃(y:Nat),Jx7 s x y S O M X Q tk st∧Kka y X s∧Jyf X y x)) (Z68=J5 X s))=_).mp ?_
 delta Z14 Z20 Z54 Z68 V5 Js0 Jc9 Jyf J01 J00 Kka Jqf Jx8 Jx7 Br Iw Bd Tw Sf Si Ln Nc B0 Lb
 intro hb
 refine⟨(0:Nat),by(repeat' first|exact rfl|exact⟨⟩|apply And.intro|omega|dsimp only;omega),⟨Nat.zero_le _,rfl⟩,fun(k:Nat) hk=>⟨fun h=> ?_,fun h=> ?_⟩⟩
 ·have hlt:k<X.length:=by simpa using h
  have hd:=V9 (p:=fun x=>x.1.toList==s.toList) (d:=V8) hlt
  refine⟨by omega,fun h1=> ?_,fun h1=>⟨by omega,(k+1:Nat),by(repeat' first|exact rfl|exact⟨⟩|apply And.intro|omega|dsimp only;omega),⟨by omega, ?_⟩,by omega⟩⟩
  ·rw[hk.2,hd,if_pos (show((X.getD k V8).1.toList==s.toList)=true from h1)]
  ·rw[hk.2,hd,if_neg (by rw[show((X.getD k V8).1.toList==s.toList)=false from h1];simp)]
 ·have hlt:¬k<X.length:=by simpa using h
  have:k=X.length:=by omega
  rw[hk.2,this,List.drop_length];rfl
abbrev K3x:=K3y.add K4p
def Krl:Con:={args:=[X2,aS],ress:=[I],owns:=[],pre:=fun((_,_,_,_,_,_,L),_)=>[L.length≤1000000],spec:=fun((_,_,_,_,_,_,L),s,_)=>(Uz L s,())}
abbrev J5w (tk st:Int) (S:List Sta) (O:List Ord) (M:List Met) (X:List Out) (Q:List Per) (s:ByteArray):Ann:={X:=Nat,σ:=fun k=>⟨6,[(1, .one (.str s)),(2, .one (.ptr 5 0)),(5, .one (.int .i64 k))],[(0, .imm 114 Dp S),(1, .imm 119 Hm O),(2, .imm 121 Fb M),(3, .imm 123 X4 X),(4, .imm 125 Zw Q),(5, .box 37 [.int .i64 tk, .int .i64 st, .sl 0, .sl 1, .sl 2, .sl 3, .sl 4])]⟩,inv:=fun k=>k≤Q.length∧Uz Q s=Vn (fun x=>x.1.toList==s.toList) (Q.drop k) k,mu:=fun k=>Q.length-k}
def Kkc (a:Nat) (b:List Per) (c:Bt):=a≤List.length b∧Uz b c=Vn (fun(x:Per)=>Lb x.1 c) (List.drop a b) a
theorem K4o:Ok Tryz.prog 88 Krl:=okW K3x Tryz.f88 (fun xx=>Xo (J5w xx.1.1 xx.1.2.1 xx.1.2.2.1 xx.1.2.2.2.1 xx.1.2.2.2.2.1 xx.1.2.2.2.2.2.1 xx.1.2.2.2.2.2.2 xx.2.1)) fun xx=>by
 obtain⟨⟨(tk:Int),(st:Int),(S:List Sta),(O:List Ord),(M:List Met),(X:List Out),(Q:List Per)⟩,(s:ByteArray),_⟩:=xx
 refine(by kernel_rfl:(Z45 Q→∃(x:Nat),Jx8 s x S O M X Q tk st∧Kkc x Q s∧∀(x:Nat),Kkc x Q s→Br (Z94 x Q) (Tw (Bd (Nc x) (Ln Q))∧Br (Lb (List.getD Q x (B0,B0,false)).1 s) (Nc x=Uz Q s) (Z20 x∧∃(y:Nat),Jx7 s x y S O M X Q tk st∧Kkc y Q s∧J04 Q y x)) (Z68=Uz Q s))=_).mp ?_
 delta Z20 Z45 Z68 Z94 V5 J04 Kkc Jqf Jx8 Jx7 Br Iw Bd Tw Sf Si Ln Nc B0 Lb
 intro hb
 refine⟨(0:Nat),by(repeat' first|exact rfl|exact⟨⟩|apply And.intro|omega|dsimp only;omega),⟨Nat.zero_le _,rfl⟩,fun(k:Nat) hk=>⟨fun h=> ?_,fun h=> ?_⟩⟩
 ·have hlt:k<Q.length:=by simpa using h
  have hd:=V9 (p:=fun x=>x.1.toList==s.toList) (d:=Jix) hlt
  refine⟨by omega,fun h1=> ?_,fun h1=>⟨by omega,(k+1:Nat),by(repeat' first|exact rfl|exact⟨⟩|apply And.intro|omega|dsimp only;omega),⟨by omega, ?_⟩,by omega⟩⟩
  ·rw[hk.2,hd,if_pos (show((Q.getD k Jix).1.toList==s.toList)=true from h1)]
  ·rw[hk.2,hd,if_neg (by rw[show((Q.getD k Jix).1.toList==s.toList)=false from h1];simp)]
 ·have hlt:¬k<Q.length:=by simpa using h
  have:k=Q.length:=by omega
  rw[hk.2,this,List.drop_length];rfl
abbrev K3w:=K3x.add K4o
def atS (r:Reg) (c:Int) (s:ByteArray):Int:=bif c==115 then Jx r.2.2.1 s else bif c==111 then Ku r.2.2.2.1 s else bif c==120 then J5 r.2.2.2.2.2.1 s else Uz r.2.2.2.2.2.2 s
def cAt:Con:={args:=[X2, .val false (.int .u8),aS],ress:=[I],owns:=[],pre:=fun(r,_)=>[Jk r],spec:=fun(r,c,s,_)=>(atS r c s,())}
theorem Kn9:Ok Tryz.prog 192 cAt:=okW K3w Tryz.f192 na fun xx=>by
 obtain⟨⟨(tk:Int),(st:Int),(S:List Sta),(O:List Ord),(M:List Met),(X:List Out),(Q:List Per)⟩,(c:Int),(s:ByteArray),_⟩:=xx
 refine(by kernel_rfl:(Jt tk st S O M X Q→Br (c==115) (Z55 S∧Jx S s=atS (Z66 tk st S O M X Q) c s) (Br (c==111) (Z56 O∧Ku O s=atS (Z66 tk st S O M X Q) c s) (Br (c==120) (Z54 X∧J5 X s=atS (Z66 tk st S O M X Q) c s) (Z45 Q∧Uz Q s=atS (Z66 tk st S O M X Q) c s))))=_).mp ?_
 delta Z45 Z54 Z55 Z56 Z66 Jt Br
 intro hr
 have nS:S.length≤6:=hr.nS
 have nO:O.length≤32:=hr.nO
 have nX:X.length≤16:=hr.nX
 have nQ:Q.length≤16:=hr.nQ
 unfold atS
 repeat' first|(refine⟨fun h=> ?_,fun h=> ?_⟩)|(rw[h];clear h)
 all_goals exact⟨by omega,rfl⟩
abbrev K3v:=K3w.add Kn9
theorem Koh:Ok Tryz.prog 181 Jv5:=okW K3v Tryz.f181 na fun xx=>by
 obtain⟨⟨(a:Int),(b:Int)⟩,(h:Int),_⟩:=xx
 refine(by kernel_rfl:((bif decide (a≤h) then decide (h<b) else false)=Ko (a,b) h)=_).mp ?_
 rfl
abbrev K3u:=K3v.add Koh
def Jr7:Con:={args:=[.val true Hm,aI],ress:=[Bo],owns:=[],pre:=fun(x,_)=>[-1≤x.2.2.2.2.2.2],spec:=fun(x,h,_)=>(J2 x h,())}
theorem Kp9:Ok Tryz.prog 103 Jr7:=okW K3u Tryz.f103 na fun xx=>by
 obtain⟨⟨(n:ByteArray),(f:ByteArray),(t:ByteArray),⟨(a:Int),(b:Int)⟩,(p:Int),(c:Int),(r:Int)⟩,(h:Int),_⟩:=xx
 refine(by kernel_rfl:(Z68≤r→(bif Ko (a,b) h then bif decide (r<0) then true else decide (h<r) else false)=J2 (n,f,t,(a,b),p,c,r) h)=_).mp ?_
 delta Z68
 intro hr
 unfold J2
 have:(r== -1)=decide (r<0):=by
  by_cases q:r= -1
  ·rw[q];rfl
  ·rw[beq_eq_false_iff_ne.2 q,decide_eq_false (by(first|omega|dsimp only;omega))]
 dsimp only
 rw[this]
abbrev K3t:=K3u.add Kp9
def K6g:Con:={args:=[X2,aS,aI],ress:=[I],owns:=[],pre:=fun(r,s,_)=>[Jk r,0≤Jx r.2.2.1 s],spec:=fun((_,_,S,_,_,X,_),s,h,_)=>(Jgs X s h (Hl S s).2.1,())}
abbrev Kcj (tk st:Int) (S:List Sta) (O:List Ord) (M:List Met) (X:List Out) (Q:List Per) (s:ByteArray) (h:Int):Ann:={X:=Nat×Int,σ:=fun(k,n)=>⟨6,[(1, .one (.str s)),(2, .one (.int .i64 h)),(3, .one (.ptr 5 0)),(7, .one (.int .i64 n)),(8, .one (.int .i64 k))],[(0, .imm 114 Dp S),(1, .imm 119 Hm O),(2, .imm 121 Fb M),(3, .imm 123 X4 X),(4, .imm 125 Zw Q),(5, .box 37 [.int .i64 tk, .int .i64 st, .sl 0, .sl 1, .sl 2, .sl 3, .sl 4])]⟩,inv:=fun(k,n)=>k≤X.length∧Jgs (X.drop k) s h n=Jgs X s h (Hl S s).2.1,mu:=fun(k,_)=>X.length-k}
def Kjy (a:Nat×Int) (b:List Out) (c:Bt) (d:Int) (e:List Sta):=a.1≤List.length b∧Jgs (List.drop a.1 b) c d a.2=Jgs b c d (Hl e c).2.1
def Kwx (a:Nat×Int) (b:List Out) (c:Bt) (d:Int) (e:List Sta) (f:Nat×Int):=Kjy a b c d e∧List.length b-a.1<List.length b-f.1
theorem Kqc:Ok Tryz.prog 100 K6g:=okW K3t Tryz.f100 (fun xx=>Xo (Kcj xx.1.1 xx.1.2.1 xx.1.2.2.1 xx.1.2.2.2.1 xx.1.2.2.2.2.1 xx.1.2.2.2.2.2.1 xx.1.2.2.2.2.2.2 xx.2.1 xx.2.2.1)) fun xx=>by
 obtain⟨⟨(tk:Int),(st:Int),(S:List Sta),(O:List Ord),(M:List Met),(X:List Out),(Q:List Per)⟩,(s:ByteArray),(h:Int),_⟩:=xx
 refine(by kernel_rfl:(Jt tk st S O M X Q→Z18 S s→(Z55 S∧Tw (Bd (Jx S s) (Ln S)))∧∃(x:Nat×Int),Sf s (Si h ((Kfr S s).2.1=x.2∧Jx9 x S O M X Q tk st))∧Kjy x X s h S∧∀(x:Nat×Int),Kjy x X s h S→Br (decide (Nc x.1<Ln X)) (Tw (Bd (Nc x.1) (Ln X))∧Br (bif bif Lb (J88 X x).1 s then Ko (Kk3 X x) h else false then decide (J84 X x<x.2) else false) (Z37 x∧∃(y:Nat×Int),Sf s (Si h (J84 X x=y.2∧Jqe x y S O M X Q tk st))∧Kwx y X s h S x) (Z37 x∧∃(y:Nat×Int),Sf s (Si h (x.2=y.2∧Jqe x y S O M X Q tk st))∧Kwx y X s h S x)) (x.2=Jgs X s h (Hl S s).2.1))=_).mp ?_
 delta Z10 Z18 Z37 Z55 Z66 Jse Jt Jc9 Kfr J88 J84 Kk3 Kjy Jqf Jx9 Kwx Jqe Br Iw Bd Tw Sf Si Ln Nc Gt B0 Lb E2
 intro hr hf
 have nS:S.length≤6:=hr.nS
 have nX:X.length≤16:=hr.nX
 have hl:=Kz (l:=S) (s:=s)
 refine⟨⟨by omega,⟨hf,hl⟩,hf,hl⟩,((0:Nat),(Hl S s).2.1),by(repeat' first|exact rfl|exact⟨⟩|apply And.intro|omega|dsimp only;omega),⟨Nat.zero_le _,rfl⟩,fun(x:Nat×Int) hk=>⟨fun h1=> ?_,fun h1=> ?_⟩⟩
 ·obtain⟨k,n⟩:=x
  have hlt:k<X.length:=by simpa using h1
  obtain⟨k1,k2⟩:=hk
  rw[Js (d:=V8) hlt,Jgs] at k2
  have hz:((({data:={toList:=[]}}:ByteArray),({data:={toList:=[]}}:ByteArray),((0:Int),(0:Int)),(0:Int)):Out)=V8:=rfl
  dsimp only at k1 k2
  simp only[hz,Prod.eta]
  generalize X.getD k V8=y at*
  have hc:(bif bif bif y.2.1.toList==s.toList then Ko y.2.2.1 h else false then decide (y.2.2.2<n) else false then y.2.2.2 else n)=bif Jzc y s h then min n y.2.2.2 else n:=by
   unfold Jzc
   cases bif y.2.1.toList==s.toList then Ko y.2.2.1 h else false
   ·rfl
   ·by_cases q:y.2.2.2<n
    ·simp only[cond_true,decide_eq_true q];omega
    ·simp only[cond_true,decide_eq_false q,cond_false];omega
  refine⟨⟨⟨by omega,by omega⟩,by omega,by omega⟩,fun h2=>⟨⟨by omega,by omega⟩,(k+1,y.2.2.2),by(repeat' first|exact rfl|exact⟨⟩|apply And.intro|omega|dsimp only;omega),⟨by(first|omega|dsimp only;omega), ?_⟩,by(first|omega|dsimp only;omega)⟩,fun h2=>⟨⟨by omega,by omega⟩,(k+1,n),by(repeat' first|exact rfl|exact⟨⟩|apply And.intro|omega|dsimp only;omega),⟨by(first|omega|dsimp only;omega), ?_⟩,by(first|omega|dsimp only;omega)⟩⟩
  all_goals (rw[←hc] at k2;have h2:(bif bif y.2.1.toList==s.toList then Ko y.2.2.1 h else false then decide (y.2.2.2<n) else false)=_:=h2;rw[h2] at k2;exact k2)
 ·obtain⟨k,n⟩:=x
  have hlt:¬k<X.length:=by simpa using h1
  obtain⟨k1,k2⟩:=hk
  have:k=X.length:=by omega
  rw[this,List.drop_length,Jgs] at k2
  exact k2
abbrev K3s:=K3t.add Kqc
def J0a:Con:={args:=[X2,aS,aI],ress:=[I],owns:=[],pre:=fun(r,_)=>[Jk r],spec:=fun((_,_,_,O,_),s,h,_)=>(U9 O s h,())}
abbrev Jsa (tk st:Int) (S:List Sta) (O:List Ord) (M:List Met) (X:List Out) (Q:List Per) (s:ByteArray) (h:Int):Ann:={X:=Nat×Int,σ:=fun(k,n)=>⟨6,[(1, .one (.str s)),(2, .one (.int .i64 h)),(3, .one (.ptr 5 0)),(7, .one (.int .i64 n)),(8, .one (.int .i64 k))],[(0, .imm 114 Dp S),(1, .imm 119 Hm O),(2, .imm 121 Fb M),(3, .imm 123 X4 X),(4, .imm 125 Zw Q),(5, .box 37 [.int .i64 tk, .int .i64 st, .sl 0, .sl 1, .sl 2, .sl 3, .sl 4])]⟩,inv:=fun(k,n)=>k≤O.length∧(0≤n∧n≤1000*k)∧n+U9 (O.drop k) s h=U9 O s h,mu:=fun(k,_)=>O.length-k}
def Kim (a:Nat×Int) (b:List Ord) (c:Bt) (d:Int):=a.1≤List.length b∧(0≤a.2∧a.2≤1000*Nc a.1)∧a.2+U9 (List.drop a.1 b) c d=U9 b c d
def Kvp (a:Nat×Int) (b:List Ord) (c:Bt) (d:Int) (e:Nat×Int):=Kim a b c d∧List.length b-a.1<List.length b-e.1
def Ku9 (a:List Ord) (b:Nat×Int) (c:Bt):=bif Kjz a b c then true else Kjw a b c
theorem Kqb:Ok Tryz.prog 101 J0a:=okW K3s Tryz.f101 (fun xx=>Xo (Jsa xx.1.1 xx.1.2.1 xx.1.2.2.1 xx.1.2.2.2.1 xx.1.2.2.2.2.1 xx.1.2.2.2.2.2.1 xx.1.2.2.2.2.2.2 xx.2.1 xx.2.2.1)) fun xx=>by
 obtain⟨⟨(tk:Int),(st:Int),(S:List Sta),(O:List Ord),(M:List Met),(X:List Out),(Q:List Per)⟩,(s:ByteArray),(h:Int),_⟩:=xx
 refine(by kernel_rfl:(Jt tk st S O M X Q→∃(x:Nat×Int),Sf s (Si h (0=x.2∧Jx9 x S O M X Q tk st))∧Kim x O s h∧∀(x:Nat×Int),Kim x O s h→Br (decide (Nc x.1<Ln O)) (Tw (Bd (Nc x.1) (Ln O))∧(Ku9 O x s=true→Z68≤(Ke1 O x).2)∧Br (bif Ku9 O x s then Kgo O x h else false) (Kjj x O∧Z37 x∧∃(y:Nat×Int),Sf s (Si h (Kjh x O y∧Jqe x y S O M X Q tk st))∧Kvp y O s h x) (Z37 x∧∃(y:Nat×Int),Sf s (Si h (x.2=y.2∧Jqe x y S O M X Q tk st))∧Kvp y O s h x)) (x.2=U9 O s h))=_).mp ?_
 delta Z37 Z66 Z68 Z70 Jse Jt Jgd Kfb Ke9 Ke8 Ke7 Ke5 Ke4 Ke3 Ke1 Ke0 Kjz Kjw Kjq Kjj Kjh Jqf Jx9 Kim Jqe Kvp Ku9 J52 Kgo Br Iw Bd Tw Sf Si Ln Nc B0 Lb E2
 intro hr
 have nO:O.length≤32:=hr.nO
 refine⟨((0:Nat),(0:Int)),by(repeat' first|exact rfl|exact⟨⟩|apply And.intro|omega|dsimp only;omega),⟨Nat.zero_le _,by omega,by simp⟩,fun(x:Nat×Int) hk=>⟨fun h1=> ?_,fun h1=> ?_⟩⟩
 ·obtain⟨k,n⟩:=x
  have hlt:k<O.length:=by simpa using h1
  obtain⟨k1,k2,k3⟩:=hk
  have hO:=hr.ord _ (Jc (d:=Kl) hlt)
  rw[Js (d:=Kl) hlt,U9] at k3
  have hz:((({data:={toList:=[]}}:ByteArray),({data:={toList:=[]}}:ByteArray),({data:={toList:=[]}}:ByteArray),((0:Int),(0:Int)),(0:Int),(0:Int),(0:Int)):Ord)=Kl:=rfl
  dsimp only at k1 k2 k3
  simp only[hz,Prod.eta]
  generalize O.getD k Kl=y at*
  have hp:=hO.pow
  have ht:=hO.trip
  refine⟨⟨⟨by omega,by omega⟩,by omega,by omega⟩,fun _=>by omega,fun h2=>⟨⟨by omega,by omega⟩,⟨by omega,by omega⟩,(k+1,n+y.2.2.2.2.1),by(repeat' first|exact rfl|exact⟨⟩|apply And.intro|omega|dsimp only;omega),⟨by(first|omega|dsimp only;omega),by(first|omega|dsimp only;omega), ?_⟩,by(first|omega|dsimp only;omega)⟩,fun h2=>⟨⟨by omega,by omega⟩,(k+1,n),by(repeat' first|exact rfl|exact⟨⟩|apply And.intro|omega|dsimp only;omega),⟨by(first|omega|dsimp only;omega),by(first|omega|dsimp only;omega), ?_⟩,by(first|omega|dsimp only;omega)⟩⟩
  all_goals (have h2:(bif Fr y s then J2 y h else false)=_:=h2;rw[h2] at k3;simp only[cond_true,cond_false] at k3;(first|omega|dsimp only;omega))
 ·obtain⟨k,n⟩:=x
  have hlt:¬k<O.length:=by simpa using h1
  obtain⟨k1,k2,k3⟩:=hk
  have:k=O.length:=by omega
  rw[this,List.drop_length,U9] at k3
  exact(Int.add_zero n).symm.trans k3
abbrev K3r:=K3s.add Kqb
def J4s:Con:={args:=[X2,aS,aI],ress:=[I],owns:=[],pre:=fun(r,s,_)=>[Jk r,0≤Jx r.2.2.1 s],spec:=fun((_,_,S,O,_,X,_),s,h,_)=>(Xd S O X s h,())}
theorem Jv2 {S:List Sta} {s:ByteArray} {h:Int}:∀{X:List Out} {n:Int},(∀x∈X,Jj3 S x)→0≤n∧n≤1000→0≤Jgs X s h n∧Jgs X s h n≤1000
 |[],_,_,hn=>hn
 |x::l,n,hX,hn=>by
  have hx:=(hX x (List.mem_cons_self ..)).rest
  unfold Jgs
  refine Jv2 (fun y hy=>hX y (List.mem_cons_of_mem _ hy)) ?_
  cases Jzc x s h<;>simp only[cond_true,cond_false]<;>omega
theorem K5j:Ok Tryz.prog 28 J4s:=okW K3r Tryz.f28 na fun xx=>by
 obtain⟨⟨(tk:Int),(st:Int),(S:List Sta),(O:List Ord),(M:List Met),(X:List Out),(Q:List Per)⟩,(s:ByteArray),(h:Int),_⟩:=xx
 refine(by kernel_rfl:(Jt tk st S O M X Q→Z18 S s→(Jt tk st S O M X Q∧Z18 S s∧Jt tk st S O M X Q∧Iw (Jgs X s h (Hl S s).2.1-U9 O s h))∧Jgs X s h (Hl S s).2.1-U9 O s h=Xd S O X s h)=_).mp ?_
 delta Z18 Z66 Jt Iw
 intro hr hf
 have h1:=Jil hr.sta hf
 have h2:=Jv2 (s:=s) (h:=h) hr.out (n:=(Hl S s).2.1) ⟨Int.le_trans (by decide) h1.lim.1,h1.lim.2⟩
 have h3:=Jjc (s:=s) (h:=h) hr.ord
 have nO:O.length≤32:=hr.nO
 dsimp only at h2 h3
 exact⟨⟨hr,hf,hr,by omega,by omega⟩,rfl⟩
abbrev K3q:=K3r.add K5j
def L4 (M:List Met) (s:ByteArray) (h:Int):Met×Bool:=if 0≤K2 M s h then(Jew M s h,true) else(Jmg,false)
def Kq4:Con:={args:=[X2,aS,aI],ress:=[(true,Fb),Bo],owns:=[],pre:=fun(r,_)=>[Jk r],spec:=fun((_,_,_,_,M,_),s,h,_)=>((L4 M s h).1,(L4 M s h).2,())}
abbrev J5q (tk st:Int) (S:List Sta) (O:List Ord) (M:List Met) (X:List Out) (Q:List Per) (s:ByteArray) (h:Int):Ann:={X:=Nat,σ:=fun k=>⟨7,[(1, .one (.str s)),(2, .one (.int .i64 h)),(3, .one (.ptr 5 0)),(6, .one (.ptr 6 0)),(8, .one (.int .i64 k))],[(0, .imm 114 Dp S),(1, .imm 119 Hm O),(2, .imm 121 Fb M),(3, .imm 123 X4 X),(4, .imm 125 Zw Q),(5, .box 37 [.int .i64 tk, .int .i64 st, .sl 0, .sl 1, .sl 2, .sl 3, .sl 4]),(6, .box 121 [.str Ja, .int .i64 0, .int .i64 0, .int .i64 0])]⟩,inv:=fun k=>k≤M.length∧K2 M s h=Vn (fun x=>bif x.1.toList==s.toList then x.2.1==h else false) (M.drop k) k,mu:=fun k=>M.length-k}
def Ki0 (a:Nat) (b:List Met) (c:Bt) (d:Int):=a≤List.length b∧K2 b c d=Vn (fun(x:Met)=>bif Lb x.1 c then x.2.1==d else false) (List.drop a b) a
theorem Kqa:Ok Tryz.prog 102 Kq4:=okW K3q Tryz.f102 (fun xx=>Xo (J5q xx.1.1 xx.1.2.1 xx.1.2.2.1 xx.1.2.2.2.1 xx.1.2.2.2.2.1 xx.1.2.2.2.2.2.1 xx.1.2.2.2.2.2.2 xx.2.1 xx.2.2.1)) fun xx=>by
 obtain⟨⟨(tk:Int),(st:Int),(S:List Sta),(O:List Ord),(M:List Met),(X:List Out),(Q:List Per)⟩,(s:ByteArray),(h:Int),_⟩:=xx
 refine(by kernel_rfl:(Jt tk st S O M X Q→∃(x:Nat),Sf s (Si h (0=Nc x∧Sf S (Sf O (Sf M (Sf X (Sf Q (Si tk (Si st (B0=Ja∧Si 0 Z26)))))))))∧Ki0 x M s h∧∀(x:Nat),Ki0 x M s h→Br (decide (Nc x<Ln M)) (Tw (Bd (Nc x) (Ln M))∧Br (bif Lb (Kfp M x).1 s then(Kfn M x).1==h else false) (Khs M x=(L4 M s h).1∧true=(L4 M s h).2) (Z20 x∧∃(y:Nat),Sf s (Si h (V5 x y∧Sf S (Sf O (Sf M (Sf X (Sf Q (Si tk (Si st (Sf Ja (Si 0 Z26))))))))))∧Ki0 y M s h∧List.length M-y<List.length M-x)) (Jyk=(L4 M s h).1∧false=(L4 M s h).2))=_).mp ?_
 delta Z20 Z26 Z66 Z70 V5 Jyk Jt Kfp Kfn Ki0 Khs Br Iw Bd Tw Sf Si Ln Nc B0 Lb E2
 intro hr
 have nM:M.length≤10000:=hr.nM
 refine⟨(0:Nat),by(repeat' first|exact rfl|exact⟨⟩|apply And.intro|omega|dsimp only;omega),⟨Nat.zero_le _,rfl⟩,fun(k:Nat) hk=>⟨fun h1=> ?_,fun h1=> ?_⟩⟩
 ·have hlt:k<M.length:=by simpa using h1
  obtain⟨k1,k2⟩:=hk
  have hd:=V9 (p:=fun x=>bif x.1.toList==s.toList then x.2.1==h else false) (d:=Jmg) hlt
  have hz:((({data:={toList:=[]}}:ByteArray),(0:Int),(0:Int),(0:Int)):Met)=Jmg:=rfl
  simp only[hz,Prod.eta]
  refine⟨⟨⟨by omega,by omega⟩,by omega,by omega⟩,fun h2=> ?_,fun h2=>⟨⟨by omega,by omega⟩,(k+1:Nat),by(repeat' first|exact rfl|exact⟨⟩|apply And.intro|omega|dsimp only;omega),⟨by omega, ?_⟩,by omega⟩⟩
  ·have h2:(bif (M.getD k Jmg).1.toList==s.toList then(M.getD k Jmg).2.1==h else false)=true:=h2
   have e:K2 M s h=k:=by rw[k2,hd,if_pos h2]
   have e2:L4 M s h=(M.getD k Jmg,true):=by
    unfold L4
    rw[if_pos (by omega)]
    unfold Jew
    rw[e];rfl
   rw[e2]
   repeat' first|exact rfl|exact⟨⟩|apply And.intro|omega|dsimp only;omega
  ·have h2:(bif (M.getD k Jmg).1.toList==s.toList then(M.getD k Jmg).2.1==h else false)=false:=h2
   rw[k2,hd,if_neg (by rw[h2];simp)]
 ·have hlt:¬k<M.length:=by simpa using h1
  obtain⟨k1,k2⟩:=hk
  have:k=M.length:=by omega
  rw[this,List.drop_length,Vn] at k2
  have e2:L4 M s h=(Jmg,false):=by
   unfold L4
   rw[if_neg (by omega)]
  rw[e2]
  repeat' first|exact rfl|exact⟨⟩|apply And.intro|omega|dsimp only;omega
abbrev K7u:=K3q.add Kqa
abbrev K3p:=K7u
def J4v:Con:={args:=[X2,aI],ress:=[(false, .list 198 Jre)],owns:=[true],pre:=fun(r,_)=>[Jk r],spec:=fun((_,_,_,O,M,_),u,_)=>(Ke M u O,())}
abbrev Jw0 (tk st:Int) (S:List Sta) (O:List Ord) (M:List Met) (X:List Out) (Q:List Per) (u:Int):Nat→Option Ann:=fun id=>if id=0 then some {X:=Nat×List Gap,σ:=fun(k,o)=>⟨7,[(1, .one (.int .i64 u)),(2, .one (.ptr 5 0)),(5, .one (.sl 6)),(6, .one (.int .i64 k))],[(0, .imm 114 Dp S),(1, .imm 119 Hm O),(2, .imm 121 Fb M),(3, .imm 123 X4 X),(4, .imm 125 Zw Q),(5, .box 37 [.int .i64 tk, .int .i64 st, .sl 0, .sl 1, .sl 2, .sl 3, .sl 4]),(6, .own 198 Jre o)]⟩,inv:=fun(k,o)=>k≤O.length∧o.length≤48*k∧o++Ke M u (O.drop k)=Ke M u O,mu:=fun(k,_)=>O.length-k}
 else if id=2 then some {X:=Nat×List Gap×Nat,σ:=fun(k,o,j)=>⟨8,[(1, .one (.int .i64 u)),(2, .one (.ptr 5 0)),(5, .one (.sl 6)),(6, .one (.int .i64 k)),(7, .one (.ptr 7 0)),(8, .one (.int .i64 ((O.getD k Kl).2.2.2.1.1+j)))],[(0, .imm 114 Dp S),(1, .imm 119 Hm O),(2, .imm 121 Fb M),(3, .imm 123 X4 X),(4, .imm 125 Zw Q),(5, .box 37 [.int .i64 tk, .int .i64 st, .sl 0, .sl 1, .sl 2, .sl 3, .sl 4]),(6, .own 198 Jre o),(7, .box 119 (bxO (O.getD k Kl)))]⟩,inv:=fun(k,o,j)=>k<O.length∧j≤Um (O.getD k Kl)∧o.length≤48*k+j∧o++(L3 M u (O.getD k Kl) ((O.getD k Kl).2.2.2.1.1+j) (Um (O.getD k Kl)-j)++Ke M u (O.drop (k+1)))=Ke M u O,mu:=fun(k,_,j)=>Um (O.getD k Kl)-j,rel:=some fun x y=>y.1=x.1}
 else none
theorem Kqg {M:List Met} {s:ByteArray} {h:Int}:(!(L4 M s h).2)=decide (K2 M s h<0):=by
 unfold L4
 by_cases q:0≤K2 M s h
 ·rw[if_pos q,decide_eq_false (by omega)];rfl
 ·rw[if_neg q,decide_eq_true (by omega)];rfl
def Kts (a:Nat×List (Bt×Int)×Nat) (b:List Ord) (c:List Met) (d:Int) (e:Nat×List (Bt×Int)×Nat) (f:Nat×List Gap×Nat):=(Kdd a b c d∧a.1=e.1)∧Um (List.getD b a.1 Kl)-a.2.2<Um (List.getD b f.1 Kl)-f.2.2
def Ktf (a:List Ord) (b:Nat×List Gap×Nat) (c:Nat×List (Bt×Int)×Nat):=J6t a b c∧J6r a b c∧J6p a b c∧J6l a b c∧J6m a b c∧J6k a b c∧J6f a b c∧J6e a b c
theorem K5i:Ok Tryz.prog 29 J4v:=okW K3p Tryz.f29 (fun xx=>Jw0 xx.1.1 xx.1.2.1 xx.1.2.2.1 xx.1.2.2.2.1 xx.1.2.2.2.2.1 xx.1.2.2.2.2.2.1 xx.1.2.2.2.2.2.2 xx.2.1) fun xx=>by
 obtain⟨⟨(tk:Int),(st:Int),(S:List Sta),(O:List Ord),(M:List Met),(X:List Out),(Q:List Per)⟩,(u:Int),_⟩:=xx
 refine(by kernel_rfl:(Jt tk st S O M X Q→∃(x:Nat×List (ByteArray×Int)),Si u (0=Nc x.1∧Sf S (Sf O (Sf M (Sf X (Sf Q (Si tk (Si st (List.length x.2=0))))))))∧Kel x O M u∧∀(x:Nat×List Gap),Kiy x O M u→Br (decide (Nc x.1<Ln O)) (Tw (Bd (Nc x.1) (Ln O))∧∃(x0:Nat×List (ByteArray×Int)×Nat),Si u (Nc x.1=Nc x0.1∧Kif O x x0∧Sf S (Sf O (Sf M (Sf X (Sf Q (Si tk (Si st (x.2=x0.2.1∧Kex O x x0∧Kew O x x0∧Kem O x x0∧Kei O x x0∧Kej O x x0∧Keh O x x0∧Kee O x x0∧Ked O x x0))))))))∧(Kdd x0 O M u∧x0.1=x0.1)∧∀(x_1:Nat×List Gap×Nat),Kgz x_1 O M u∧x_1.1=x0.1→Br (Kkd O x_1) (Jt tk st S O M X Q∧(J87 O x_1 u=true→Z68≤(Z77 O x_1).2.2)∧Br (bif bif J87 O x_1 u then Kg4 O x_1 else false then !(L4 M (Z5 O x_1).1 (Jye O x_1)).2 else false) (Kk8 x_1∧J81 O x_1∧∃(y:Nat×List (ByteArray×Int)×Nat),Si u (Nc x_1.1=Nc y.1∧J8r O x_1 y∧Sf S (Sf O (Sf M (Sf X (Sf Q (Si tk (Si st (Kja x_1 O y∧Ktf O x_1 y))))))))∧Kts y O M u x0 x_1) (J81 O x_1∧∃(y:Nat×List (ByteArray×Int)×Nat),Si u (Nc x_1.1=Nc y.1∧J8r O x_1 y∧Sf S (Sf O (Sf M (Sf X (Sf Q (Si tk (Si st (x_1.2.1=y.2.1∧Ktf O x_1 y))))))))∧Kts y O M u x0 x_1)) (Iw (Nc x_1.1+1)∧∃(y:Nat×List (ByteArray×Int)),Si u (Nc x_1.1+1=Nc y.1∧Sf S (Sf O (Sf M (Sf X (Sf Q (Si tk (Si st (x_1.2.1=y.2))))))))∧Kdp y O M u x)) (x.2=Ke M u O))=_).mp ?_
 delta Z5 Z6 Z43 Z66 Z68 Z70 Z74 Z75 Z77 Z81 Jt Jye J6t J6r J87 J6p J81 Jgd J6m J6l J6k J6f J6e Kk8 Kko Kkj Kkh Kkf Kkd Kkb Kj7 Kj4 Kj3 J8r Kjg Kex Kew Kja Kem Kel Kiy Kej Kei Keh Kee Ked Kif Kdp Kg4 Kdd Kgz Kts Ktf Br Iw Bd Tw Sf Si Ln Nc B0 E2
 intro hr
 have nO:O.length≤32:=hr.nO
 have hz:((({data:={toList:=[]}}:ByteArray),({data:={toList:=[]}}:ByteArray),({data:={toList:=[]}}:ByteArray),((0:Int),(0:Int)),(0:Int),(0:Int),(0:Int)):Ord)=Kl:=rfl
 refine⟨((0:Nat),[]),by(repeat' first|exact rfl|exact⟨⟩|apply And.intro|omega|dsimp only;omega),⟨Nat.zero_le _,Nat.zero_le _,rfl⟩,fun(x:Nat×List Gap) hk=>⟨fun h1=> ?_,fun h1=> ?_⟩⟩
 ·obtain⟨k,o⟩:=x
  have hlt:k<O.length:=by simpa using h1
  obtain⟨k1,k2,k3⟩:=hk
  dsimp only at k1 k2 k3
  rw[Js (d:=Kl) hlt,Ke,Juq] at k3
  simp only[hz,Prod.eta]
  have hO:Jdc S (O.getD k Kl):=hr.ord _ (Jc (d:=Kl) hlt)
  have b0:=hO.span.lo
  have b1:=hO.span.mid
  have b2:=hO.span.hi
  have b3:=hO.span.len
  have bt:=hO.trip
  have hn:Um (O.getD k Kl)≤48∧(Um (O.getD k Kl):Int)=(O.getD k Kl).2.2.2.1.2-(O.getD k Kl).2.2.2.1.1:=by
   unfold Um
   constructor<;>omega
  refine⟨⟨⟨by omega,by omega⟩,by omega,by omega⟩,(k,o,(0:Nat)),by(repeat' first|exact rfl|exact⟨⟩|apply And.intro|omega|dsimp only;omega),⟨⟨hlt,Nat.zero_le _,by(first|omega|dsimp only;omega), ?_⟩,by(repeat' first|exact rfl|exact⟨⟩|apply And.intro|omega|dsimp only;omega)⟩,fun(y:Nat×List Gap×Nat) hy=> ?_⟩
  ·dsimp only
   simpa[Um] using k3
  obtain⟨k',o,j⟩:=y
  obtain⟨⟨i1,i2,i3,i4⟩,hkk⟩:=hy
  have hkk:k'=k:=hkk
  subst hkk
  dsimp only at i1 i2 i3 i4
  refine⟨fun h2=> ?_,fun h2=> ?_⟩
  ·have h2:(O.getD k' Kl).2.2.2.1.1+(j:Int)<(O.getD k' Kl).2.2.2.1.2:=of_decide_eq_true h2
   have hj:Um (O.getD k' Kl)-j=(Um (O.getD k' Kl)-(j+1))+1:=by omega
   rw[hj,L3] at i4
   have hc:(O.getD k' Kl).2.2.2.1.1+(j:Int)+1=(O.getD k' Kl).2.2.2.1.1+((j+1:Nat):Int):=by omega
   rw[hc] at i4
   have hcnd:(bif bif decide ((O.getD k' Kl).2.2.2.1.1+(j:Int)<u) then J2 (O.getD k' Kl) ((O.getD k' Kl).2.2.2.1.1+(j:Int)) else false then !(L4 M (O.getD k' Kl).1 ((O.getD k' Kl).2.2.2.1.1+(j:Int))).2 else false)=(J2 (O.getD k' Kl) ((O.getD k' Kl).2.2.2.1.1+(j:Int))&&(decide ((O.getD k' Kl).2.2.2.1.1+(j:Int)<u)&&decide (K2 M (O.getD k' Kl).1 ((O.getD k' Kl).2.2.2.1.1+(j:Int))<0))):=by
    rw[Kqg]
    cases decide ((O.getD k' Kl).2.2.2.1.1+(j:Int)<u)<;>cases J2 (O.getD k' Kl) ((O.getD k' Kl).2.2.2.1.1+(j:Int))<;>rfl
   refine⟨hr,fun _=>bt.1,fun h3=>⟨by(first|omega|dsimp only;omega),⟨by(first|omega|dsimp only;omega),by(first|omega|dsimp only;omega)⟩,(k',o++[((O.getD k' Kl).1,(O.getD k' Kl).2.2.2.1.1+(j:Int))],j+1),by(repeat' first|exact rfl|exact⟨⟩|apply And.intro|omega|dsimp only;omega),⟨⟨hlt,by(first|omega|dsimp only;omega),by(simp only[List.length_append,List.length_singleton];omega), ?_⟩,by(repeat' first|exact rfl|exact⟨⟩|apply And.intro|omega|dsimp only;omega)⟩,by(first|omega|dsimp only;omega)⟩,fun h3=>⟨⟨by(first|omega|dsimp only;omega),by(first|omega|dsimp only;omega)⟩,(k',o,j+1),by(repeat' first|exact rfl|exact⟨⟩|apply And.intro|omega|dsimp only;omega),⟨⟨hlt,by(first|omega|dsimp only;omega),by(first|omega|dsimp only;omega), ?_⟩,by(repeat' first|exact rfl|exact⟨⟩|apply And.intro|omega|dsimp only;omega)⟩,by(first|omega|dsimp only;omega)⟩⟩
   all_goals (have h3:(bif bif decide ((O.getD k' Kl).2.2.2.1.1+(j:Int)<u) then J2 (O.getD k' Kl) ((O.getD k' Kl).2.2.2.1.1+(j:Int)) else false then !(L4 M (O.getD k' Kl).1 ((O.getD k' Kl).2.2.2.1.1+(j:Int))).2 else false)=_:=h3;rw[hcnd] at h3;rw[h3] at i4;simpa using i4)
  ·have h2:¬(O.getD k' Kl).2.2.2.1.1+(j:Int)<(O.getD k' Kl).2.2.2.1.2:=of_decide_eq_false h2
   have hj:Um (O.getD k' Kl)-j=0:=by omega
   rw[hj,L3] at i4
   exact⟨⟨by(first|omega|dsimp only;omega),by(first|omega|dsimp only;omega)⟩,(k'+1,o),by(repeat' first|exact rfl|exact⟨⟩|apply And.intro|omega|dsimp only;omega),⟨by(first|omega|dsimp only;omega),by(first|omega|dsimp only;omega),by simpa using i4⟩,by(first|omega|dsimp only;omega)⟩
 ·obtain⟨k,o⟩:=x
  have hlt:¬k<O.length:=by simpa using h1
  obtain⟨k1,k2,k3⟩:=hk
  dsimp only at k1 k2 k3
  have:k=O.length:=by omega
  rw[this,List.drop_length,Ke,List.append_nil] at k3
  exact k3
abbrev K3o:=K3p.add K5i
def Krc:Con:={args:=[aI,aI],ress:=[I],owns:=[],pre:=fun(a,b,_)=>[0≤a∧a≤1000000000000,0≤b∧b≤1000000000000],spec:=fun(a,b,_)=>((Nat.gcd a.toNat b.toNat:Nat),())}
abbrev J5t (num den:Int):Ann:={X:=Int×Int,σ:=fun(a,b)=>⟨0,[(0, .one (.int .i64 a)),(1, .one (.int .i64 b))],[]⟩,inv:=fun(a,b)=>(0≤a∧a≤1000000000000)∧(0≤b∧b≤1000000000000)∧Nat.gcd a.toNat b.toNat=Nat.gcd num.toNat den.toNat,mu:=fun(_,b)=>b.toNat}
def Jym (a b:Int):=Nc (Nat.gcd (Int.toNat a) (Int.toNat b))
def Kih (a:Int×Int) (b c:Int):=(0≤a.1∧a.1≤1000000000000)∧(0≤a.2∧a.2≤1000000000000)∧Nat.gcd (Int.toNat a.1) (Int.toNat a.2)=Nat.gcd (Int.toNat b) (Int.toNat c)
theorem Kog:Ok Tryz.prog 182 Krc:=okW K3o Tryz.f182 (fun xx=>Xo (J5t xx.1 xx.2.1)) fun xx=>by
 obtain⟨(num:Int),(den:Int),_⟩:=xx
 refine(by kernel_rfl:(J08 num→J08 den→∃(x:Int×Int),(num=x.1∧den=x.2)∧Kih x num den∧∀(x:Int×Int),Kih x num den→Br (Klk x) ((x.2=0→False)∧∃(y:Int×Int),(x.2=y.1∧Int.tmod x.1 x.2=y.2)∧Kih y num den∧Int.toNat y.2<Int.toNat x.2) (Br (decide (x.1<0)) (Iw (0-x.1)∧0-x.1=Jym num den) (x.1=Jym num den)))=_).mp ?_
 delta Jym J08 Klk Kih Br Iw Nc
 intro h1' h2
 refine⟨(num,den),by(repeat' first|exact rfl|exact⟨⟩|apply And.intro|omega|dsimp only;omega),⟨h1',h2,rfl⟩,fun(x:Int×Int) hk=>⟨fun h1=> ?_,fun h1=> ?_⟩⟩
 ·obtain⟨a,b⟩:=x
  obtain⟨k1,k2,k4⟩:=hk
  dsimp only at k1 k2 k4 h1
  have hb:b≠0:=bne_iff_ne.1 h1
  obtain⟨A,rfl⟩:=Int.eq_ofNat_of_zero_le k1.1
  obtain⟨B,rfl⟩:=Int.eq_ofNat_of_zero_le k2.1
  have hB:0<B:=by omega
  have hm:=Nat.mod_lt A hB
  have e:((A:Int).tmod (B:Int))=((A %B:Nat):Int):=(Int.ofNat_tmod A B).symm
  refine⟨hb,((B:Int),((A %B:Nat):Int)),⟨rfl,e⟩,⟨by(first|omega|dsimp only;omega),by(first|omega|dsimp only;omega), ?_⟩, ?_⟩
  ·rw[←k4]
   simp only[Int.toNat_natCast]
   rw[Nat.gcd_comm A B,Nat.gcd_rec B A,Nat.gcd_comm]
  ·simp only[Int.toNat_natCast]
   exact hm
 ·obtain⟨a,b⟩:=x
  obtain⟨k1,k2,k4⟩:=hk
  dsimp only at k1 k2 k4 h1
  have hb:b=0:=by simpa using h1
  subst hb
  have hg:(Nat.gcd num.toNat den.toNat:Int)=a:=by rw[←k4];simp;omega
  refine⟨fun h=> ?_,fun _=>hg.symm⟩
  have h:a<0:=of_decide_eq_true h
  omega
abbrev K3n:=K3o.add Kog
def Klr (a b:Int):=Nc (Nat.gcd (Int.toNat (0-a)) (Int.toNat (0-b)))
def K01 (a b:Int):=Int.tdiv (0-a) (Klr a b)
def K00 (a b:Int):=Int.tdiv (0-a) (Klr b a)
def K0t (a b:Int):=Klr a b=0→False
theorem Kp7:Ok Tryz.prog 105 K12:=okW K3n Tryz.f105 na fun xx=>by
 obtain⟨(num:Int),(den:Int),_⟩:=xx
 refine(by kernel_rfl:(J08 num→1≤den∧den≤1000000000000→Br (decide (den<0)) ((Iw (0-num)∧Iw (0-den))∧(((0:Int)≤0-num∧0-num≤1000000000000)∧(0:Int)≤0-den∧0-den≤1000000000000)∧(K0t num den∧Iw (K01 num den)∧K0t num den∧Iw (K00 den num))∧(K01 num den,K00 den num)=Jrt num den) ((J08 num∧J08 den)∧((Jym num den=0→False)∧Iw (Int.tdiv num (Jym num den))∧(Jym num den=0→False)∧Iw (Int.tdiv den (Jym num den)))∧(Int.tdiv num (Jym num den),Int.tdiv den (Jym num den))=Jrt num den))=_).mp ?_
 delta Jym J08 Klr K01 K00 K0t Br Iw Nc
 intro h1 h2
 have hg0:0<Nat.gcd num.toNat den.toNat:=Nat.gcd_pos_of_pos_right _ (by omega)
 have d1:0≤num.tdiv (Nat.gcd num.toNat den.toNat:Nat):=Int.tdiv_nonneg h1.1 (by omega)
 have d2:num.tdiv (Nat.gcd num.toNat den.toNat:Nat)≤num:=Int.tdiv_le_self _ h1.1
 have d3:0≤den.tdiv (Nat.gcd num.toNat den.toNat:Nat):=Int.tdiv_nonneg (by omega) (by omega)
 have d4:den.tdiv (Nat.gcd num.toNat den.toNat:Nat)≤den:=Int.tdiv_le_self _ (by omega)
 refine⟨fun h=> ?_,fun h=>⟨⟨h1,by omega,by omega⟩,⟨by omega,⟨by omega,by omega⟩,by omega,by omega,by omega⟩,rfl⟩⟩
 have h:=of_decide_eq_true h
 omega
abbrev K3m:=K3n.add Kp7
def Jae (l:List Int) (n:Int):Bool:=l.any fun x=>x==n
def J41:Con:={args:=[.val false (.list 3 sI),aI],ress:=[Bo],owns:=[],pre:=fun(l,_)=>[l.length≤1000000],spec:=fun(l,n,_)=>(Jae l n,())}
abbrev Jw2 (l:List Int) (n:Int):Ann:={X:=Nat,σ:=fun k=>⟨1,[(0, .one (.sl 0)),(1, .one (.int .i64 n)),(5, .one (.int .i64 k))],[(0, .imm 3 sI l)]⟩,inv:=fun k=>k≤l.length∧Jae (l.drop k) n=Jae l n,mu:=fun k=>l.length-k}
def Kli (a:Nat) (b:Li) (c:Int):=a≤List.length b∧Jae (List.drop a b) c=Jae b c
theorem Kp8:Ok Tryz.prog 104 J41:=okW K3m Tryz.f104 (fun xx=>Xo (Jw2 xx.1 xx.2.1)) fun xx=>by
 obtain⟨(l:List Int),(n:Int),_⟩:=xx
 refine(by kernel_rfl:(Z47 l→∃(x:Nat),Si n (0=Nc x∧l=l)∧Kli x l n∧∀(x:Nat),Kli x l n→Br (Z95 x l) (Z78 x l∧Br (Z15 l x==n) (true=Jae l n) (Z20 x∧∃(y:Nat),Si n (V5 x y∧l=l)∧Kli y l n∧Jxf l y x)) (false=Jae l n))=_).mp ?_
 delta Z15 Z20 Z47 Z78 Z95 V5 Jxf Kli Br Iw Bd Tw Si Ln Nc
 intro hb
 refine⟨(0:Nat),by(repeat' first|exact rfl|exact⟨⟩|apply And.intro|omega|dsimp only;omega),⟨Nat.zero_le _,rfl⟩,fun(k:Nat) hk=>⟨fun h=> ?_,fun h=> ?_⟩⟩
 ·have hlt:k<l.length:=by simpa using h
  obtain⟨k1,k2⟩:=hk
  rw[Js (d:=(0:Int)) hlt,Jae,List.any_cons] at k2
  refine⟨by omega,fun h1=> ?_,fun h1=>⟨by omega,(k+1:Nat),by(repeat' first|exact rfl|exact⟨⟩|apply And.intro|omega|dsimp only;omega),⟨by omega, ?_⟩,by omega⟩⟩
  ·rw[←k2,show(l.getD k 0==n)=true from h1];rfl
  ·rw[←k2,show(l.getD k 0==n)=false from h1];rfl
 ·have hlt:¬k<l.length:=by simpa using h
  obtain⟨k1,k2⟩:=hk
  have:k=l.length:=by omega
  rw[this,List.drop_length] at k2
  exact k2
abbrev K7t:=K3m.add Kp8
def Jwl:Jqt:=(Ja,0,0,0,0,0)
abbrev K7s:=K7t
abbrev K7r:=K7s
abbrev K7q:=K7r
abbrev sH3:Sch:= .prod sI (.prod sI sI)
abbrev H3:=Int×Int×Int
def Kar (M:List Met) (h:Int) (x:Ord) (a:H3):H3:=bif J2 x h then(a.1+(Jew M x.1 h).2.2.1,a.2.1+(Jew M x.1 h).2.2.2,a.2.2+((Jew M x.1 h).2.2.2*x.2.2.2.2.2.1-3*(x.2.2.2.2.1-(Jew M x.1 h).2.2.2))) else a
def Jno (M:List Met) (h:Int):List Ord→H3→H3
 |[],a=>a
 |x::l,a=>Jno M h l (Kar M h x a)
abbrev K7p:=K7q
def Jtg:List Jqt→Int×Int→Int×Int
 |[],a=>a
 |b::l,(s,g)=>Jtg l (s+b.2.2.1,g+b.2.2.2.1)
def Kao (st:Int) (O:List Ord) (M:List Met):(Int×Int)×Int:=if(Jtg (O.map (Un st M)) (0,0)).1=0 then((0,0),6) else(Jrt ((Jtg (O.map (Un st M)) (0,0)).1-(Jtg (O.map (Un st M)) (0,0)).2) (Jtg (O.map (Un st M)) (0,0)).1,0)
abbrev K3l:=K7p
def Jgm (l:List Ev) (h:Int):Int:=Jf [opE l [],Kf h 0 999999999,bif decide ((Jo l).2.1≤h) then 22 else 0]
def Jlq (l:List Ev) (h:Int):H3:=if Jgm l h=0 then Jno (Jo l).2.2.2.2.1 h (Jo l).2.2.2.1 (0,0,0) else(0,0,0)
def J40:Con:={args:=[.val false (.list 67 sEv),aI],ress:=[(true,sH3),I],owns:=[],pre:=fun(l,_)=>[lOk l],spec:=fun(l,h,_)=>(Jlq l h,Jgm l h,())}
abbrev imR (r:Reg) (i:Nat):List (Nat×Res):=[(i, .imm 127 Dp r.2.2.1),(i+1, .imm 130 Hm r.2.2.2.1),(i+2, .imm 155 Fb r.2.2.2.2.1),(i+3, .imm 188 X4 r.2.2.2.2.2.1),(i+4, .imm 235 Zw r.2.2.2.2.2.2)]
abbrev bxR (r:Reg) (i:Nat):Res:= .box 105 [.int .i64 r.1, .int .i64 r.2.1, .sl i, .sl (i+1), .sl (i+2), .sl (i+3), .sl (i+4)]
abbrev J5s (l:List Ev) (h:Int):Ann:={X:=Nat×H3,σ:=fun(k,a,b,c)=>⟨9,[(1, .one (.int .i64 h)),(4, .one (.ptr 1 0)),(6, .one (.ptr 7 0)),(9, .one (.ptr 8 0)),(33, .one (.sl 3)),(34, .one (.int .i64 (Jo l).2.2.2.1.length)),(35, .one (.int .i64 k))],(1, .box 25 [.int .i64 0, .int .i64 0, .int .i64 0])::(7,bxR (Jo l) 2)::(8, .box 25 [.int .i64 a, .int .i64 b, .int .i64 c])::imR (Jo l) 2⟩,inv:=fun(k,a,b,c)=>Jgm l h=0∧k≤(Jo l).2.2.2.1.length∧(0≤a∧a≤1000*k)∧(0≤b∧b≤1000*k)∧(-2000000*k≤c∧c≤2000000*k)∧Jno (Jo l).2.2.2.2.1 h ((Jo l).2.2.2.1.drop k) (a,b,c)=Jlq l h,mu:=fun(k,_)=>(Jo l).2.2.2.1.length-k}
theorem J4k {a b c:Int} (h:Jf [a,b,c]=0):a=0∧b=0∧c=0:=by
 have h:=Ut.1 h
 exact⟨h a (by simp),h b (by simp),h c (by simp)⟩
def Z23 (a:List Ev):=Ln (Jo a).2.2.2.1
def Kf2 (a:List Ev):=(Jo a).2.2.2.1=(Jo a).2.2.2.1
def Kfz (a:List Ev):=(Jo a).2.2.2.2.1=(Jo a).2.2.2.2.1
def Kfw (a:List Ev):=(Jo a).2.2.2.2.2.1=(Jo a).2.2.2.2.2.1
def Kfv (a:List Ev):=(Jo a).2.2.2.2.2.2=(Jo a).2.2.2.2.2.2
def Kz3 (a:List Ev) (b:Nat×H3):=List.getD (Jo a).2.2.2.1 b.1 Jgd
def Kzy (a:List Ev) (b:Nat×H3):=(Kz3 a b).2
def Kzx (a:List Ev) (b:Nat×H3):=(Kz3 a b).1
def Kzw (a:List Ev) (b:Nat×H3):=(Kzy a b).2
def Kzv (a:List Ev) (b:Nat×H3):=(Kzw a b).2
def Kzs (a:List Ev) (b:Nat×H3):=(Kzv a b).2
def Kzp (a:List Ev) (b:Nat×H3):=(Kzs a b).1
def Kzn (a:List Ev) (b:Nat×H3):=(Kzs a b).2
def Kxe (a:List Ev) (b:Nat×H3) (c:Int):=K2 (Jo a).2.2.2.2.1 (Kzx a b) c
def Kw8 (a:List Ev) (b:Int):=Jf [opE a [],Z69 b,bif decide ((Jo a).2.1≤b) then 22 else 0]
def Kvk (a:List Ev) (b:Nat×H3) (c:Int):=(Gt (Jo a).2.2.2.2.1 (Kxe a b c) Jyk).2.2
def Khm (a:List Ev) (b:Nat×H3) (c:Int):=(Kvk a b c).2
def Kvf (a:Nat×H3) (b:List Ev) (c:Int):=a.2.1+(Kvk b a c).1
def Kvd (a:Nat×H3) (b:List Ev) (c:Int):=a.2.2.1+Khm b a c
def Khg (a:List Ev):=(Jo a).2.2.1=(Jo a).2.2.1∧Kf2 a∧Kfz a∧Kfw a∧Kfv a
def Kup (a:List Ev) (b:Nat×H3) (c:Int):=Kzp a b-Khm a b c
def Kuo (a:List Ev) (b:Nat×H3) (c:Int):=Khm a b c*(Kzn a b).1
def Kuk (a:List Ev) (b:Nat×H3) (c:Int):=3*Kup a b c
def Kue (a:List Ev) (b:Int) (c:Nat) (d e f:Int):=Jgm a b=0∧c≤List.length (Jo a).2.2.2.1∧J9m d c∧J9m e c∧((-2000000)*Nc c≤f∧f≤2000000*Nc c)∧Jno (Jo a).2.2.2.2.1 b (List.drop c (Jo a).2.2.2.1) (d,e,f)=Jlq a b
def Kt0 (a:Nat×Int×Int×Int) (b:List Ev) (c:Int):=match a with|(k,a,b_1,c_1)=>Kue b c k a b_1 c_1
def Kto (a:Nat×Int×Int×Int) (b:List Ev) (c:Int) (d:Nat×H3):=Kt0 a b c∧List.length (Jo b).2.2.2.1-a.1<List.length (Jo b).2.2.2.1-d.1
def Ks6 (a:List Ev) (b:Nat×H3) (c:Int):=Kuo a b c-Kuk a b c
def Ks5 (a:Nat×H3) (b:List Ev) (c:Int):=a.2.2.2+Ks6 b a c
theorem K5t:Ok Tryz.prog 15 J40:=okW K3l Tryz.f15 (fun xx=>Xo (J5s xx.1 xx.2.1)) fun xx=>by
 obtain⟨(l:List Ev),(h:Int),_⟩:=xx
 refine(by kernel_rfl:(lOk l→(lOk l∧0≤1000000)∧3≤1000000∧Br (Kw8 l h !=0) (Z70=Jlq l h∧Kw8 l h=Jgm l h) (∃(x:Nat×Int×Int×Int),Si h (Z23 l=Z23 l∧0=Nc x.1∧Si 0 (Si 0 (Si 0 ((Jo l).1=(Jo l).1∧(Jo l).2.1=(Jo l).2.1∧0=x.2.1∧0=x.2.2.1∧0=x.2.2.2∧Khg l))))∧Kt0 x l h∧∀(x:Nat×H3),(match x with|(k,a,b,c)=>Kue l h k a b c)→Br (decide (Nc x.1<Z23 l)) (Tw (Bd (Nc x.1) (Z23 l))∧Br (J2 (Kzx l x,(Kzy l x).1,(Kzw l x).1,E2 (Kzv l x).1,Kzp l x,E2 (Kzn l x)) h) ((Jj1 l∧Tw (Bd (Kxe l x h) (Ln (Jo l).2.2.2.2.1)))∧Iw (Kvf x l h)∧Iw (Kvd x l h)∧(Iw (Kuo l x h)∧Iw (Kup l x h)∧Iw (Kuk l x h)∧Iw (Ks6 l x h)∧Iw (Ks5 x l h))∧Iw (Nc x.1+1)∧∃(y:Nat×Int×Int×Int),Si h (Si (Z23 l) (Nc x.1+1=Nc y.1∧Si 0 (Si 0 (Si 0 (Si (Jo l).1 (Si (Jo l).2.1 (Kvf x l h=y.2.1∧Kvd x l h=y.2.2.1∧Ks5 x l h=y.2.2.2∧Khg l)))))))∧Kto y l h x) (Iw (Nc x.1+1)∧∃(y:Nat×Int×Int×Int),Si h (Si (Z23 l) (Nc x.1+1=Nc y.1∧Si 0 (Si 0 (Si 0 (Si (Jo l).1 (Si (Jo l).2.1 (x.2.1=y.2.1∧x.2.2.1=y.2.2.1∧x.2.2.2=y.2.2.2∧Khg l)))))))∧Kto y l h x)) ((x.2.1,E2 x.2.2)=Jlq l h∧0=Jgm l h)))=_).mp ?_
 delta Z23 Z69 Z70 Jyk Kf2 Kfz Kfw Kfv J9m Jgd Kz3 Kzy Kzx Kzw Kzv Kzs Kzp Kzn J0z Kxe Kw8 Jj1 Kvk Khm Kvf Kvd Khg Kup Kuo Kuk Kue Kt0 Kto Ks6 Ks5 Br Iw Bd Tw Si Ln Nc Gt B0 E2
 intro hl
 refine⟨⟨hl,by decide⟩,by decide,fun e=> ?_,fun e=> ?_⟩
 ·have e:Jgm l h≠0:=bne_iff_ne.1 e
  exact⟨by unfold Jlq;rw[if_neg e],rfl⟩
 ·have e0:Jgm l h=0:=bne_eq_false_iff_eq.1 e
  clear e
  have hr:=Dg (l:=l)
  have nO:=hr.nO
  have hst:h<(Jo l).2.1:=by
   have:=(J4k e0).2.2
   by_cases q:(Jo l).2.1≤h
   ·rw[decide_eq_true q] at this;cases this
   ·omega
  refine⟨((0:Nat),0,0,0),by(repeat' first|exact rfl|exact⟨⟩|apply And.intro|omega|dsimp only;omega),⟨e0,Nat.zero_le _,by omega,by omega,by omega,by unfold Jlq;rw[if_pos e0];rfl⟩,fun(x:Nat×H3) hk=>⟨fun h1=> ?_,fun h1=> ?_⟩⟩
  ·obtain⟨k,a,b,c⟩:=x
   have hlt:k<(Jo l).2.2.2.1.length:=by simpa using h1
   obtain⟨_,k1,k2,k3,k4,k5⟩:=hk
   generalize Jo l=r at*
   obtain⟨tk,st,S,O,M,X,Q⟩:=r
   have hlt:k<O.length:=hlt
   have hst:h<st:=hst
   have nO:O.length≤32:=nO
   have hx:=Jc (d:=Kl) hlt
   have k5:Jno M h (O.drop k) (a,b,c)=Jlq l h:=k5
   rw[Js (d:=Kl) hlt,Jno] at k5
   have hz:((({data:={toList:=[]}}:ByteArray),({data:={toList:=[]}}:ByteArray),({data:={toList:=[]}}:ByteArray),((0:Int),(0:Int)),(0:Int),(0:Int),(0:Int)):Ord)=Kl:=rfl
   have hzm:((({data:={toList:=[]}}:ByteArray),(0:Int),(0:Int),(0:Int)):Met)=Jmg:=rfl
   simp only[hz,hzm,Prod.eta]
   have hO:Jdc S (O.getD k Kl):=hr.ord _ hx
   have hd:∀h,J2 (O.getD k Kl) h=true→h<st→0≤K2 M (O.getD k Kl).1 h:=hr.done _ hx
   generalize O.getD k Kl=y at*
   unfold Kar at k5
   have bp:=hO.pow
   have bc:=hO.pri
   have em:M.getD (K2 M y.1 h).toNat Jmg=Jew M y.1 h:=rfl
   simp only[em]
   refine⟨by(repeat' first|apply And.intro|omega),fun hq=> ?_,fun hq=> ?_⟩
   ·rw[hq,cond_true] at k5
    have hm:=hd _ hq hst
    have hl:=Jev (l:=M) (s:=y.1) (h:=h)
    have hM:Jxu (Jew M y.1 h):=hr.met _ (Jc (show _<M.length by omega))
    have m1:=hM.sent
    have m2:=hM.got
    have q1:0≤(Jew M y.1 h).2.2.2*y.2.2.2.2.2.1:=Int.mul_nonneg m2.1 bc.1
    have q2:(Jew M y.1 h).2.2.2*y.2.2.2.2.2.1≤1000*1000:=Int.mul_le_mul (by omega) bc.2 bc.1 (by decide)
    exact⟨⟨hr,by(repeat' first|apply And.intro|omega),by(repeat' first|apply And.intro|omega)⟩,by(repeat' first|apply And.intro|omega),by(repeat' first|apply And.intro|omega),by(repeat' first|apply And.intro|omega),by(repeat' first|apply And.intro|omega),(k+1,a+(Jew M y.1 h).2.2.1,b+(Jew M y.1 h).2.2.2,c+((Jew M y.1 h).2.2.2*y.2.2.2.2.2.1-3*(y.2.2.2.2.1-(Jew M y.1 h).2.2.2))),by(repeat' first|exact rfl|exact⟨⟩|apply And.intro|omega|dsimp only;omega),⟨e0,by(first|omega|dsimp only;omega),by(first|omega|dsimp only;omega),by(first|omega|dsimp only;omega),by(first|omega|dsimp only;omega),k5⟩,by(first|omega|dsimp only;omega)⟩
   ·rw[hq,cond_false] at k5
    exact⟨by(repeat' first|apply And.intro|omega),(k+1,a,b,c),by(repeat' first|exact rfl|exact⟨⟩|apply And.intro|omega|dsimp only;omega),⟨e0,by(first|omega|dsimp only;omega),by(first|omega|dsimp only;omega),by(first|omega|dsimp only;omega),by(first|omega|dsimp only;omega),k5⟩,by(first|omega|dsimp only;omega)⟩
  ·obtain⟨k,a,b,c⟩:=x
   have hlt:¬k<(Jo l).2.2.2.1.length:=by simpa using h1
   obtain⟨_,k1,k2,k3,k4,k5⟩:=hk
   have:k=(Jo l).2.2.2.1.length:=by omega
   rw[this,List.drop_length,Jno] at k5
   exact⟨k5,e0.symm⟩
abbrev K3k:=K3l.add K5t
def cAb (pre:Reg→Ev→List Prop) (f:Reg→Ev→ByteArray→Bool):Con:={args:=[Jbd,aEv,aS],ress:=[Bo],owns:=[],pre:=fun(r,e,_)=>pre r e,spec:=fun(r,e,s,_)=>(f r e s,())}
def Kb8:Con:=cAb (fun _ _=>[]) (fun _ _ _=>true)
theorem Ko9:Ok Tryz.prog 150 Kb8:=okW K3k Tryz.f150 na fun xx=>by
 obtain⟨⟨(tk:Int),(st:Int),(S:List Sta),(O:List Ord),(M:List Met),(X:List Out),(Q:List Per)⟩,⟨(n:Int),(k:ByteArray),(ns:List ByteArray),(vs:List Int),(tx:ByteArray)⟩,(s:ByteArray),_⟩:=xx
 refine(by kernel_rfl:(true=true)=_).mp ?_
 rfl
abbrev K3j:=K3k.add Ko9
def abO (O:List Ord) (ns:List ByteArray) (s:ByteArray):Bool:=Fr (Xy O (ns.getD 0 Ja)) s
def K6m:Con:={args:=[Jbd,aEv,aS],ress:=[Bo],owns:=[],pre:=fun(r,e,_)=>[Jk r,1≤e.2.2.1.length,0≤Ku r.2.2.2.1 (e.2.2.1.getD 0 Ja)],spec:=fun((tk,st,S,O,M,X,Q),(n,k,ns,vs,tx),s,_)=>(abO O ns s,())}
theorem Ko3:Ok Tryz.prog 156 K6m:=okW K3j Tryz.f156 na fun xx=>by
 obtain⟨⟨(tk:Int),(st:Int),(S:List Sta),(O:List Ord),(M:List Met),(X:List Out),(Q:List Per)⟩,⟨(n:Int),(k:ByteArray),(ns:List ByteArray),(vs:List Int),(tx:ByteArray)⟩,(s:ByteArray),_⟩:=xx
 refine(by kernel_rfl:(Jt tk st S O M X Q→Y0 ns→Jsw O ns→Ki8 ns O∧Fr (Kg1 O ns) s=abO O ns s)=_).mp ?_
 delta Z56 Z66 Z87 Z92 Lx Y0 Jt J6y Jqp J9l J6u J9i Jsw Ki8 Kg1 Bd T2 Ln B0 E2
 intro hr h1 h2
 have nO:O.length≤32:=hr.nO
 repeat' first|assumption|exact rfl|trivial|omega|exact Kz|exact Uy|exact Uo|exact Ux|apply And.intro|intro _
abbrev K3i:=K3j.add Ko3
def abX (X:List Out) (ns:List ByteArray) (s:ByteArray):Bool:=(L1 X (ns.getD 0 Ja)).2.1.toList==s.toList
def K6k:Con:={args:=[Jbd,aEv,aS],ress:=[Bo],owns:=[],pre:=fun(r,e,_)=>[Jk r,1≤e.2.2.1.length,0≤J5 r.2.2.2.2.2.1 (e.2.2.1.getD 0 Ja)],spec:=fun((tk,st,S,O,M,X,Q),(n,k,ns,vs,tx),s,_)=>(abX X ns s,())}
theorem Kow:Ok Tryz.prog 163 K6k:=okW K3i Tryz.f163 na fun xx=>by
 obtain⟨⟨(tk:Int),(st:Int),(S:List Sta),(O:List Ord),(M:List Met),(X:List Out),(Q:List Per)⟩,⟨(n:Int),(k:ByteArray),(ns:List ByteArray),(vs:List Int),(tx:ByteArray)⟩,(s:ByteArray),_⟩:=xx
 refine(by kernel_rfl:(Jt tk st S O M X Q→Y0 ns→J03 X ns→Ki9 ns X∧Lb (J9t X ns).2.1 s=abX X ns s)=_).mp ?_
 delta Z54 Z66 Z87 Z92 Lx Y0 Jt J9t Jsy J03 Ki9 Bd T2 Ln B0 Lb
 intro hr h1 h2
 have nX:X.length≤16:=hr.nX
 repeat' first|assumption|exact rfl|trivial|omega|exact Kz|exact Uy|exact Uo|exact Ux|apply And.intro|intro _
abbrev K3h:=K3i.add Kow
def abP (X:List Out) (Q:List Per) (ns:List ByteArray) (s:ByteArray):Bool:=(L1 X (Jmf Q (ns.getD 0 Ja)).2.1).2.1.toList==s.toList
def K6l:Con:={args:=[Jbd,aEv,aS],ress:=[Bo],owns:=[],pre:=fun(r,e,_)=>[Jk r,1≤e.2.2.1.length,0≤Uz r.2.2.2.2.2.2 (e.2.2.1.getD 0 Ja)],spec:=fun((tk,st,S,O,M,X,Q),(n,k,ns,vs,tx),s,_)=>(abP X Q ns s,())}
theorem Jzb {Q:List Per} {s:ByteArray} (h:0≤Uz Q s):Jmf Q s∈Q:=by
 have:=Ux (l:=Q) (s:=s)
 exact Jc (by omega)
theorem Kor:Ok Tryz.prog 168 K6l:=okW K3h Tryz.f168 na fun xx=>by
 obtain⟨⟨(tk:Int),(st:Int),(S:List Sta),(O:List Ord),(M:List Met),(X:List Out),(Q:List Per)⟩,⟨(n:Int),(k:ByteArray),(ns:List ByteArray),(vs:List Int),(tx:ByteArray)⟩,(s:ByteArray),_⟩:=xx
 refine(by kernel_rfl:(Jt tk st S O M X Q→Y0 ns→J02 Q ns→T2 (Z92 ns) (Z45 Q∧0≤Jsd Q ns∧Z54 X∧0≤J5 X (Jmf Q (Z87 ns)).2.1)∧Lb (L1 X (Jmf Q (Z87 ns)).2.1).2.1 s=abP X Q ns s)=_).mp ?_
 delta Z45 Z54 Z66 Z87 Z92 Lx Y0 Jt Jsd J02 Bd T2 Ln B0 Lb
 intro hr h1 h2
 have nX:X.length≤16:=hr.nX
 have nQ:Q.length≤16:=hr.nQ
 have h3:0≤J5 X (Jmf Q (ns.getD 0 Ja)).2.1:=hr.per _ (Jzb h2)
 repeat' first|assumption|exact rfl|trivial|omega|exact Kz|exact Uy|exact Uo|exact Ux|apply And.intro|intro _
abbrev Jqr:=K3h.add Kor
def abS (r:Reg) (e:Ev) (s:ByteArray):Bool:=match(Ji e.2.1).2.2.2.2 with
 |some 150=>true
 |some 156=>abO r.2.2.2.1 e.2.2.1 s
 |some 163=>abX r.2.2.2.2.2.1 e.2.2.1 s
 |some 168=>abP r.2.2.2.2.2.1 r.2.2.2.2.2.2 e.2.2.1 s
 |_=>false
structure Jgw (r:Reg) (e:Ev):Prop where
 kind:Ys e.2.1=true
 ord:(Ji e.2.1).2.2.2.2=some 156→1≤e.2.2.1.length∧0≤Ku r.2.2.2.1 (e.2.2.1.getD 0 Ja)
 out:(Ji e.2.1).2.2.2.2=some 163→1≤e.2.2.1.length∧0≤J5 r.2.2.2.2.2.1 (e.2.2.1.getD 0 Ja)
 per:(Ji e.2.1).2.2.2.2=some 168→1≤e.2.2.1.length∧0≤Uz r.2.2.2.2.2.2 (e.2.2.1.getD 0 Ja)
def Xg:Con:={args:=[aEv, .ref 105 Jm3, .ref 9 .str],ress:=[Bo],owns:=[],pre:=fun(e,r,_)=>[Jk r,Jgw r e],spec:=fun(e,r,s,_)=>(abS r e s,())}
def Z41:=false=true→False
theorem Js6 (n:Int) (ns:List ByteArray) (vs:List Int) (tx:ByteArray) (tk st:Int) (S:List Sta) (O:List Ord) (M:List Met) (X:List Out) (Q:List Per) (s:ByteArray):wpF Tryz.prog Jqr.g (na ()) Tryz.f79 Xg ((n,Jz,ns,vs,tx),(tk,st,S,O,M,X,Q),s,()):=by
 refine(by kernel_rfl:(Jt tk st S O M X Q→Jgw (Z66 tk st S O M X Q) (Z1 n ns vs tx)→Z41∧false=abS (Z66 tk st S O M X Q) (Z1 n ns vs tx) s)=_).mp ?_
 delta Z1 Z41 Z66 Jt Jz
 intro hr ha
 have e:abS (tk,st,S,O,M,X,Q) (n,Jz,ns,vs,tx) s=false:=by unfold abS;rw[show(Ji Jz).2.2.2.2=_ from congrArg (fun x=>x.2.2.2.2) Jbs];all_goals rfl
 rw[e]
 repeat' first|exact hr|exact h.1|exact h.2|exact rfl|apply And.intro|intro _
 all_goals first|trivial|assumption|contradiction
theorem Jj9 (n:Int) (ns:List ByteArray) (vs:List Int) (tx:ByteArray) (tk st:Int) (S:List Sta) (O:List Ord) (M:List Met) (X:List Out) (Q:List Per) (s:ByteArray):wpF Tryz.prog Jqr.g (na ()) Tryz.f79 Xg ((n,Ju,ns,vs,tx),(tk,st,S,O,M,X,Q),s,()):=by
 refine(by kernel_rfl:(Jt tk st S O M X Q→Jgw (Z66 tk st S O M X Q) (Z24 n ns vs tx)→true=abS (Z66 tk st S O M X Q) (Z24 n ns vs tx) s)=_).mp ?_
 delta Z24 Z66 Jt Ju
 intro hr ha
 have e:abS (tk,st,S,O,M,X,Q) (n,Ju,ns,vs,tx) s=true:=by unfold abS;rw[show(Ji Ju).2.2.2.2=_ from congrArg (fun x=>x.2.2.2.2) K6];all_goals rfl
 rw[e]
 repeat' first|exact hr|exact h.1|exact h.2|exact rfl|apply And.intro|intro _
 all_goals first|trivial|assumption|contradiction
theorem Jqu (n:Int) (ns:List ByteArray) (vs:List Int) (tx:ByteArray) (tk st:Int) (S:List Sta) (O:List Ord) (M:List Met) (X:List Out) (Q:List Per) (s:ByteArray):wpF Tryz.prog Jqr.g (na ()) Tryz.f79 Xg ((n,K7,ns,vs,tx),(tk,st,S,O,M,X,Q),s,()):=by
 refine(by kernel_rfl:(Jt tk st S O M X Q→Jgw (Z66 tk st S O M X Q) (Z7 n ns vs tx)→true=abS (Z66 tk st S O M X Q) (Z7 n ns vs tx) s)=_).mp ?_
 delta Z7 Z66 Jt K7
 intro hr ha
 have e:abS (tk,st,S,O,M,X,Q) (n,K7,ns,vs,tx) s=true:=by unfold abS;rw[show(Ji K7).2.2.2.2=_ from congrArg (fun x=>x.2.2.2.2) Vb];all_goals rfl
 rw[e]
 repeat' first|exact hr|exact h.1|exact h.2|exact rfl|apply And.intro|intro _
 all_goals first|trivial|assumption|contradiction
def Jyb (a:Ls):=true=true→Y0 a
def J8e (a b:Int) (c:List Sta) (d:List Ord) (e:List Met) (f:List Out) (g:List Per) (h:Ls):=(true=true→Jt a b c d e f g)∧Jyb h∧(true=true→Jsw d h)
theorem Jqv (n:Int) (ns:List ByteArray) (vs:List Int) (tx:ByteArray) (tk st:Int) (S:List Sta) (O:List Ord) (M:List Met) (X:List Out) (Q:List Per) (s:ByteArray):wpF Tryz.prog Jqr.g (na ()) Tryz.f79 Xg ((n,Kk,ns,vs,tx),(tk,st,S,O,M,X,Q),s,()):=by
 refine(by kernel_rfl:(Jt tk st S O M X Q→Jgw (Z66 tk st S O M X Q) (Z8 n ns vs tx)→J8e tk st S O M X Q ns∧(bif true then abO O ns s else false)=abS (Z66 tk st S O M X Q) (Z8 n ns vs tx) s)=_).mp ?_
 delta Z8 Z66 Lx Y0 Jt Jyb Jsw J8e Kk
 intro hr ha
 have e:abS (tk,st,S,O,M,X,Q) (n,Kk,ns,vs,tx) s=abO O ns s:=by unfold abS;rw[show(Ji Kk).2.2.2.2=_ from congrArg (fun x=>x.2.2.2.2) Uu];all_goals rfl
 have h:=ha.ord (congrArg (fun x=>x.2.2.2.2) Uu)
 rw[e]
 repeat' first|exact hr|exact h.1|exact h.2|exact rfl|apply And.intro|intro _
 all_goals first|trivial|assumption|contradiction
theorem Jqw (n:Int) (ns:List ByteArray) (vs:List Int) (tx:ByteArray) (tk st:Int) (S:List Sta) (O:List Ord) (M:List Met) (X:List Out) (Q:List Per) (s:ByteArray):wpF Tryz.prog Jqr.g (na ()) Tryz.f79 Xg ((n,K0,ns,vs,tx),(tk,st,S,O,M,X,Q),s,()):=by
 refine(by kernel_rfl:(Jt tk st S O M X Q→Jgw (Z66 tk st S O M X Q) (Z13 n ns vs tx)→J8e tk st S O M X Q ns∧(bif true then abO O ns s else false)=abS (Z66 tk st S O M X Q) (Z13 n ns vs tx) s)=_).mp ?_
 delta Z13 Z66 Lx Y0 Jt Jyb Jsw J8e K0
 intro hr ha
 have e:abS (tk,st,S,O,M,X,Q) (n,K0,ns,vs,tx) s=abO O ns s:=by unfold abS;rw[show(Ji K0).2.2.2.2=_ from congrArg (fun x=>x.2.2.2.2) Uv];all_goals rfl
 have h:=ha.ord (congrArg (fun x=>x.2.2.2.2) Uv)
 rw[e]
 repeat' first|exact hr|exact h.1|exact h.2|exact rfl|apply And.intro|intro _
 all_goals first|trivial|assumption|contradiction
theorem Js7 (n:Int) (ns:List ByteArray) (vs:List Int) (tx:ByteArray) (tk st:Int) (S:List Sta) (O:List Ord) (M:List Met) (X:List Out) (Q:List Per) (s:ByteArray):wpF Tryz.prog Jqr.g (na ()) Tryz.f79 Xg ((n,Vo,ns,vs,tx),(tk,st,S,O,M,X,Q),s,()):=by
 refine(by kernel_rfl:(Jt tk st S O M X Q→Jgw (Z66 tk st S O M X Q) (Z3 n ns vs tx)→J8e tk st S O M X Q ns∧(bif true then abO O ns s else false)=abS (Z66 tk st S O M X Q) (Z3 n ns vs tx) s)=_).mp ?_
 delta Z3 Z66 Lx Y0 Jt Jyb Jsw J8e Vo
 intro hr ha
 have e:abS (tk,st,S,O,M,X,Q) (n,Vo,ns,vs,tx) s=abO O ns s:=by unfold abS;rw[show(Ji Vo).2.2.2.2=_ from congrArg (fun x=>x.2.2.2.2) Vp];all_goals rfl
 have h:=ha.ord (congrArg (fun x=>x.2.2.2.2) Vp)
 rw[e]
 repeat' first|exact hr|exact h.1|exact h.2|exact rfl|apply And.intro|intro _
 all_goals first|trivial|assumption|contradiction
def Khp (a b:Int) (c:List Sta) (d:List Ord) (e:List Met) (f:List Out) (g:List Per) (h:Ls):=(true=true→Jt a b c d e f g)∧Jyb h∧(true=true→J03 f h)
theorem Jmm (n:Int) (ns:List ByteArray) (vs:List Int) (tx:ByteArray) (tk st:Int) (S:List Sta) (O:List Ord) (M:List Met) (X:List Out) (Q:List Per) (s:ByteArray):wpF Tryz.prog Jqr.g (na ()) Tryz.f79 Xg ((n,Jv,ns,vs,tx),(tk,st,S,O,M,X,Q),s,()):=by
 refine(by kernel_rfl:(Jt tk st S O M X Q→Jgw (Z66 tk st S O M X Q) (Z19 n ns vs tx)→Khp tk st S O M X Q ns∧(bif true then abX X ns s else false)=abS (Z66 tk st S O M X Q) (Z19 n ns vs tx) s)=_).mp ?_
 delta Z19 Z66 Lx Y0 Jt Jyb J03 Khp Jv
 intro hr ha
 have e:abS (tk,st,S,O,M,X,Q) (n,Jv,ns,vs,tx) s=abX X ns s:=by unfold abS;rw[show(Ji Jv).2.2.2.2=_ from congrArg (fun x=>x.2.2.2.2) Kt];all_goals rfl
 have h:=ha.out (congrArg (fun x=>x.2.2.2.2) Kt)
 rw[e]
 repeat' first|exact hr|exact h.1|exact h.2|exact rfl|apply And.intro|intro _
 all_goals first|trivial|assumption|contradiction
theorem Jka (n:Int) (ns:List ByteArray) (vs:List Int) (tx:ByteArray) (tk st:Int) (S:List Sta) (O:List Ord) (M:List Met) (X:List Out) (Q:List Per) (s:ByteArray):wpF Tryz.prog Jqr.g (na ()) Tryz.f79 Xg ((n,Jq,ns,vs,tx),(tk,st,S,O,M,X,Q),s,()):=by
 refine(by kernel_rfl:(Jt tk st S O M X Q→Jgw (Z66 tk st S O M X Q) (Z30 n ns vs tx)→Khp tk st S O M X Q ns∧(bif true then abX X ns s else false)=abS (Z66 tk st S O M X Q) (Z30 n ns vs tx) s)=_).mp ?_
 delta Z30 Z66 Lx Y0 Jt Jyb J03 Khp Jq
 intro hr ha
 have e:abS (tk,st,S,O,M,X,Q) (n,Jq,ns,vs,tx) s=abX X ns s:=by unfold abS;rw[show(Ji Jq).2.2.2.2=_ from congrArg (fun x=>x.2.2.2.2) Kj];all_goals rfl
 have h:=ha.out (congrArg (fun x=>x.2.2.2.2) Kj)
 rw[e]
 repeat' first|exact hr|exact h.1|exact h.2|exact rfl|apply And.intro|intro _
 all_goals first|trivial|assumption|contradiction
def Kho (a b:Int) (c:List Sta) (d:List Ord) (e:List Met) (f:List Out) (g:List Per) (h:Ls):=(true=true→Jt a b c d e f g)∧Jyb h∧(true=true→J02 g h)
theorem Jml (n:Int) (ns:List ByteArray) (vs:List Int) (tx:ByteArray) (tk st:Int) (S:List Sta) (O:List Ord) (M:List Met) (X:List Out) (Q:List Per) (s:ByteArray):wpF Tryz.prog Jqr.g (na ()) Tryz.f79 Xg ((n,Kb,ns,vs,tx),(tk,st,S,O,M,X,Q),s,()):=by
 refine(by kernel_rfl:(Jt tk st S O M X Q→Jgw (Z66 tk st S O M X Q) (Z16 n ns vs tx)→Kho tk st S O M X Q ns∧(bif true then abP X Q ns s else false)=abS (Z66 tk st S O M X Q) (Z16 n ns vs tx) s)=_).mp ?_
 delta Z16 Z66 Lx Y0 Jt Jyb J02 Kho Kb
 intro hr ha
 have e:abS (tk,st,S,O,M,X,Q) (n,Kb,ns,vs,tx) s=abP X Q ns s:=by unfold abS;rw[show(Ji Kb).2.2.2.2=_ from congrArg (fun x=>x.2.2.2.2) K4];all_goals rfl
 have h:=ha.per (congrArg (fun x=>x.2.2.2.2) K4)
 rw[e]
 repeat' first|exact hr|exact h.1|exact h.2|exact rfl|apply And.intro|intro _
 all_goals first|trivial|assumption|contradiction
theorem Jmk (n:Int) (ns:List ByteArray) (vs:List Int) (tx:ByteArray) (tk st:Int) (S:List Sta) (O:List Ord) (M:List Met) (X:List Out) (Q:List Per) (s:ByteArray):wpF Tryz.prog Jqr.g (na ()) Tryz.f79 Xg ((n,Ka,ns,vs,tx),(tk,st,S,O,M,X,Q),s,()):=by
 refine(by kernel_rfl:(Jt tk st S O M X Q→Jgw (Z66 tk st S O M X Q) (Z22 n ns vs tx)→Kho tk st S O M X Q ns∧(bif true then abP X Q ns s else false)=abS (Z66 tk st S O M X Q) (Z22 n ns vs tx) s)=_).mp ?_
 delta Z22 Z66 Lx Y0 Jt Jyb J02 Kho Ka
 intro hr ha
 have e:abS (tk,st,S,O,M,X,Q) (n,Ka,ns,vs,tx) s=abP X Q ns s:=by unfold abS;rw[show(Ji Ka).2.2.2.2=_ from congrArg (fun x=>x.2.2.2.2) K3];all_goals rfl
 have h:=ha.per (congrArg (fun x=>x.2.2.2.2) K3)
 rw[e]
 repeat' first|exact hr|exact h.1|exact h.2|exact rfl|apply And.intro|intro _
 all_goals first|trivial|assumption|contradiction
theorem Jmj (n:Int) (ns:List ByteArray) (vs:List Int) (tx:ByteArray) (tk st:Int) (S:List Sta) (O:List Ord) (M:List Met) (X:List Out) (Q:List Per) (s:ByteArray):wpF Tryz.prog Jqr.g (na ()) Tryz.f79 Xg ((n,Jh,ns,vs,tx),(tk,st,S,O,M,X,Q),s,()):=by
 refine(by kernel_rfl:(Jt tk st S O M X Q→Jgw (Z66 tk st S O M X Q) (Z17 n ns vs tx)→Z41∧false=abS (Z66 tk st S O M X Q) (Z17 n ns vs tx) s)=_).mp ?_
 delta Z17 Z41 Z66 Jt Jh
 intro hr ha
 have e:abS (tk,st,S,O,M,X,Q) (n,Jh,ns,vs,tx) s=false:=by unfold abS;rw[show(Ji Jh).2.2.2.2=_ from congrArg (fun x=>x.2.2.2.2) Us];all_goals rfl
 rw[e]
 repeat' first|exact hr|exact h.1|exact h.2|exact rfl|apply And.intro|intro _
 all_goals first|trivial|assumption|contradiction
theorem J3f [Sx.Dr] {Γ:Gam} {ann:Nat→Option Ann} {fn:Func} {c:Con} {x:ATup c.args} (hb:fn.body.isSome=true) (h:Ul (c.pre x)→wpF Tryz.prog Γ ann fn c x):wpF Tryz.prog Γ ann fn c x:=by
 unfold wpF at h⊢
 cases hc:fn.body with
 |none=>rw[hc] at hb;cases hb
 |some code=>
  rw[hc] at h
  exact Jas h
theorem K38:∀x:ATup [aEv, .ref 105 Jm3, .ref 9 .str],wpF Tryz.prog Jqr.g (na ()) Tryz.f79 Xg x
 |((n,k,ns,vs,tx),(tk,st,S,O,M,X,Q),s,())=>by
  refine J3f (by kernel_rfl) fun hp=> ?_
  have ha:Jgw (tk,st,S,O,M,X,Q) (n,k,ns,vs,tx):=hp.2
  rcases Vd ha.kind with h|h|h|h|h|h|h|h|h|h|h<;>dsimp only at h<;>subst h
  ·exact Js6 n ns vs tx tk st S O M X Q s
  ·exact Jj9 n ns vs tx tk st S O M X Q s
  ·exact Jqu n ns vs tx tk st S O M X Q s
  ·exact Jqv n ns vs tx tk st S O M X Q s
  ·exact Jqw n ns vs tx tk st S O M X Q s
  ·exact Js7 n ns vs tx tk st S O M X Q s
  ·exact Jmm n ns vs tx tk st S O M X Q s
  ·exact Jka n ns vs tx tk st S O M X Q s
  ·exact Jml n ns vs tx tk st S O M X Q s
  ·exact Jmk n ns vs tx tk st S O M X Q s
  ·exact Jmj n ns vs tx tk st S O M X Q s
theorem K4u:Ok Tryz.prog 79 Xg:=Vr mixed Jqr.ok (by kernel_rfl) (by kernel_rfl) na fun xx=>K38 xx
abbrev K7o:=Jqr.add K4u
theorem Jat {α:Type} {p:α→Bool} {y:α} (h:p y=true):∀{l:List α} {k:Nat},0≤Vn p (l++[y]) k
 |[],k=>by
  show 0≤Vn p [y] k
  unfold Vn;rw[if_pos h];omega
 |x::l,k=>by
  show 0≤Vn p (x::(l++[y])) k
  unfold Vn
  split
  ·omega
  ·exact Jat h
structure Kgb (r r':Reg):Prop where
 o:∀s,0≤Ku r.2.2.2.1 s→0≤Ku r'.2.2.2.1 s
 x:∀s,0≤J5 r.2.2.2.2.2.1 s→0≤J5 r'.2.2.2.2.2.1 s
 q:∀s,0≤Uz r.2.2.2.2.2.2 s→0≤Uz r'.2.2.2.2.2.2 s
theorem Jvk {O:List Ord} {y:Ord} {s:ByteArray} (h:0≤Ku O s):0≤Ku (O++[y]) s:=by unfold Ku at h⊢;rw[Yl h];exact h
theorem Jvi {O:List Out} {y:Out} {s:ByteArray} (h:0≤J5 O s):0≤J5 (O++[y]) s:=by unfold J5 at h⊢;rw[Yl h];exact h
theorem Jvj {O:List Per} {y:Per} {s:ByteArray} (h:0≤Uz O s):0≤Uz (O++[y]) s:=by unfold Uz at h⊢;rw[Yl h];exact h
theorem Jbz {O:List Ord} {a s:ByteArray} {v:Int}:Ku (Fw O a v) s=Ku O s:=by
 unfold Ku Fw
 exact Du fun x hx=>by
  have e:Xy O a=x:=Jfa hx
  rw[e]
theorem Jjn {O:List Out} {a s:ByteArray} {v:Int}:J5 (Jd7 O a v) s=J5 O s:=by
 unfold J5 Jd7
 exact Du fun x hx=>by
  have e:L1 O a=x:=Jfa hx
  rw[e]
theorem Jby {O:List Per} {a s:ByteArray}:Uz (Fx O a) s=Uz O s:=by
 unfold Uz Fx
 exact Du fun x hx=>by
  have e:Jmf O a=x:=Jfa hx
  rw[e]
theorem Jq7 (r:Reg) (e:Ev):Kgb r (Jp r e):=by
 obtain⟨tk,st,S,O,M,X,Q⟩:=r
 obtain⟨n,k,ns,vs,tx⟩:=e
 unfold Jp doS
 split
 all_goals refine⟨fun s h=> ?_,fun s h=> ?_,fun s h=> ?_⟩
 all_goals first|exact h|(show 0≤Ku (Fw _ _ _) _;rw[Jbz];exact h)|(show 0≤J5 (Jd7 _ _ _) _;rw[Jjn];exact h)|(show 0≤Uz (Fx _ _) _;rw[Jby];exact h)|exact Jvk h|exact Jvi h|exact Jvj h|exact Jbz (O:=O)▸h|exact Jjn (O:=X)▸h|exact Jby (O:=Q)▸h
theorem Jgw.mono {r r':Reg} {e:Ev} (h:Jgw r e) (hn:Kgb r r'):Jgw r' e:=
 ⟨h.kind,fun q=>⟨(h.ord q).1,hn.o _ (h.ord q).2⟩,fun q=>⟨(h.out q).1,hn.x _ (h.out q).2⟩,fun q=>⟨(h.per q).1,hn.q _ (h.per q).2⟩⟩
theorem Jm2 (s:ByteArray):(s.toList==s.toList)=true:=beq_self_eq_true _
theorem J3m {h:Kn} {e:Ev} (hc:Jb e=0) (ha:L5 h e=0) (hk:(e.2.1.toList==Jz.toList)=false):Jgw (Jp (Kc h.2.2) e) e:=by
 obtain⟨n,k,ns,vs,tx⟩:=e
 have hE:=Uj hc
 rw[Yx hk] at ha
 obtain⟨z1,z2,z3,z4,z5⟩:=Ja9 ha
 generalize Kc h.2.2=r at*
 obtain⟨tk,st,S,O,M,X,Q⟩:=r
 have hn:=hE.nn
 clear ha z4 z5
 have hkd:=Vd hE.kind
 dsimp only at hn hkd hk z3
 rcases hkd with h|h|h|h|h|h|h|h|h|h|h<;>subst h
 ·exact⟨hE.kind,fun q=>absurd q (by rw[Jbs];decide),fun q=>absurd q (by rw[Jbs];decide),fun q=>absurd q (by rw[Jbs];decide)⟩
 ·exact⟨hE.kind,fun q=>absurd q (by rw[K6];decide),fun q=>absurd q (by rw[K6];decide),fun q=>absurd q (by rw[K6];decide)⟩
 ·exact⟨hE.kind,fun q=>absurd q (by rw[Vb];decide),fun q=>absurd q (by rw[Vb];decide),fun q=>absurd q (by rw[Vb];decide)⟩
 ·simp only[Uu,List.length_cons,List.length_nil] at hn z3
  refine⟨hE.kind,fun _=>⟨by dsimp only;omega, ?_⟩,fun q=>absurd q (by rw[Uu];decide),fun q=>absurd q (by rw[Uu];decide)⟩
  unfold Jp doS
  simp only[Uu]
  exact Jat (p:=fun x:Ord=>x.1.toList==(ns.getD 0 Ja).toList) (l:=O) (Jm2 _)
 ·simp only[Uv,List.length_cons,List.length_nil] at hn z3
  refine⟨hE.kind,fun _=>⟨by dsimp only;omega, ?_⟩,fun q=>absurd q (by rw[Uv];decide),fun q=>absurd q (by rw[Uv];decide)⟩
  unfold Jp doS
  simp only[Uv]
  exact J2e ((Jm z3).1 rfl)
 ·simp only[Vp,List.length_cons,List.length_nil] at hn z3
  refine⟨hE.kind,fun _=>⟨by dsimp only;omega, ?_⟩,fun q=>absurd q (by rw[Vp];decide),fun q=>absurd q (by rw[Vp];decide)⟩
  unfold Jp doS
  simp only[Vp]
  exact by show 0≤Ku (Fw _ _ _) _;rw[Jbz];exact J2e ((Jm z3).1 rfl)
 ·simp only[Kt,List.length_cons,List.length_nil] at hn z3
  refine⟨hE.kind,fun q=>absurd q (by rw[Kt];decide),fun _=>⟨by dsimp only;omega, ?_⟩,fun q=>absurd q (by rw[Kt];decide)⟩
  unfold Jp doS
  simp only[Kt]
  exact Jat (p:=fun x:Out=>x.1.toList==(ns.getD 0 Ja).toList) (l:=X) (Jm2 _)
 ·simp only[Kj,List.length_cons,List.length_nil] at hn z3
  refine⟨hE.kind,fun q=>absurd q (by rw[Kj];decide),fun _=>⟨by dsimp only;omega, ?_⟩,fun q=>absurd q (by rw[Kj];decide)⟩
  unfold Jp doS
  simp only[Kj]
  exact by show 0≤J5 (Jd7 _ _ _) _;rw[Jjn];exact J2d ((Jm z3).1 rfl)
 ·simp only[K4,List.length_cons,List.length_nil] at hn z3
  refine⟨hE.kind,fun q=>absurd q (by rw[K4];decide),fun q=>absurd q (by rw[K4];decide),fun _=>⟨by dsimp only;omega, ?_⟩⟩
  unfold Jp doS
  simp only[K4]
  exact Jat (p:=fun x:Per=>x.1.toList==(ns.getD 0 Ja).toList) (l:=Q) (Jm2 _)
 ·simp only[K3,List.length_cons,List.length_nil] at hn z3
  refine⟨hE.kind,fun q=>absurd q (by rw[K3];decide),fun q=>absurd q (by rw[K3];decide),fun _=>⟨by dsimp only;omega, ?_⟩⟩
  unfold Jp doS
  simp only[K3]
  exact by show 0≤Uz (Fx _ _) _;rw[Jby];exact Kgj ((Jm z3).1 rfl)
 ·exact⟨hE.kind,fun q=>absurd q (by rw[Us];decide),fun q=>absurd q (by rw[Us];decide),fun q=>absurd q (by rw[Us];decide)⟩
def Jmd (h:Kn):Prop:=∀j k,j<h.2.1.length→j≤k→k<h.2.2.length→Jgw (h.2.2.getD k U0) (h.2.1.getD j ev0)
theorem Jlt {α:Type} {l:List α} {m k:Nat} {d:α} (h:k<m):(l.take m).getD k d=l.getD k d:=by
 rw[List.getD_eq_getElem?_getD,List.getD_eq_getElem?_getD,List.getElem?_take_of_lt h]
theorem Jjl {α:Type} {l m:List α} {k:Nat} {d:α} (h:k<l.length):(l++m).getD k d=l.getD k d:=by
 rw[List.getD_eq_getElem?_getD,List.getD_eq_getElem?_getD,List.getElem?_append_left h]
theorem Jlu {α:Type} {l:List α} {y d:α}:(l++[y]).getD l.length d=y:=by
 rw[List.getD_eq_getElem?_getD,List.getElem?_append_right (Nat.le_refl _),Nat.sub_self];rfl
theorem Krx {h:Kn} {e:Ev} (hi:Y3 h) (hA:Jmd h) (ha:Uk h e=0):Jmd (D1 h e):=by
 obtain⟨hc,hacc⟩:=add_zero ha
 have n3:=hi.ok.nG
 have hlast:∀e'∈[e],(e.2.1.toList==Jz.toList)=false→Jgw (Jp (Kc h.2.2) e) e:=fun _ _ hk=>J3m hc hacc hk
 obtain⟨E,C,G⟩:=h
 dsimp only at n3
 cases hk:e.2.1.toList==Jz.toList with
 |true=>
  unfold D1
  rw[hk,cond_true]
  intro j k h1 h2 h3
  simp only[List.length_take] at h1 h3
  dsimp only
  rw[Jlt (by omega),Jlt (by omega)]
  exact hA j k (by dsimp only;omega) h2 (by dsimp only;omega)
 | false =>
  unfold D1
  rw[hk,cond_false]
  intro j k h1 h2 h3
  simp only[List.length_append,List.length_singleton] at h1 h3
  dsimp only
  by_cases hkn:k<G.length
  ·rw[Jjl hkn,Jjl (by omega)]
   exact hA j k (by dsimp only;omega) h2 (by dsimp only;omega)
  ·have ek:k=G.length:=by omega
   rw[ek,Jlu]
   by_cases hj:j<C.length
   ·rw[Jjl hj]
    have:=hA j (G.length-1) hj (by omega) (by dsimp only;omega)
    exact this.mono (Jq7 (Kc G) e)
   ·have ej:j=C.length:=by omega
    rw[ej,Jlu]
    exact hlast e (List.mem_singleton.2 rfl) hk
theorem J11:∀{l:List Ev} {h:Kn},Y3 h→Jmd h→h.1.length+l.length≤1000→Jmd (Jc0 h l).1
 |[],_,_,hA,_=>hA
 | e :: l, h, hi, hA, hl => by
  unfold Jc0
  simp only[List.length_cons] at hl
  by_cases ha:Uk h e=0
  ·rw[if_pos ha]
   exact J11 (Jf2 hi (by omega) ha) (Krx hi hA ha) (by rw[D0];omega)
  ·rw[if_neg ha];exact hA
theorem Jva:Jmd Zx:=fun j k h1 _ _=>by cases h1
theorem Jy8 {l:List Ev}:Jmd (Jg l).1:=by
 unfold Jg
 by_cases h:1000<l.length
 ·rw[if_pos h];exact Jva
 ·rw[if_neg h];exact J11 Hb Jva (by show 0+l.length≤1000;omega)
theorem Kan {h:Kn} (hi:Y3 h) (hA:Jmd h) {e:Ev} (he:e∈h.2.1):Jgw (Kc h.2.2) e:=by
 obtain⟨j,hj,rfl⟩:=List.mem_iff_getElem.1 he
 have n3:=hi.ok.nG
 have:=hA j (h.2.2.length-1) hj (by omega) (by omega)
 rw[List.getD_eq_getElem?_getD (l:=h.2.1),List.getElem?_eq_getElem hj] at this
 exact this
def Vq (xs:List ByteArray) (sep:ByteArray):ByteArray:=⟨(Lib.join (xs.map (·.data.toList)) sep.data.toList).toArray⟩
def Kq8:Con:={args:=[.val false (.list 9 .str),aS],ress:=[tS],owns:=[],pre:=fun(xs,sep,_)=>[xs.length≤1000000,(Lib.join (xs.map (·.data.toList)) sep.data.toList).length≤140737488355328],spec:=fun(xs,sep,_)=>(Vq xs sep,())}
def Vh (n:Int):ByteArray:=⟨(Lib.itoa n).toArray⟩
def Kq9:Con:={args:=[aI],ress:=[tS],owns:=[],pre:=fun(n,_)=>[-9223372036854775808≤n∧n≤9223372036854775807],spec:=fun(n,_)=>(Vh n,())}
theorem J0h (w:World) (q:Nat) (os:Array Obj):RowKit.Below w.heap.size w (Sort.grow (w.drewN q) os):=
 ⟨rfl,rfl,rfl,by first|(simp[Sort.grow];done)|(simp[Sort.grow];omega),fun i hi=>by
  show((w.drewN q).heap++os)[i]? =_
  rw[Array.getElem?_append_left (by show i<w.heap.size;omega)]
  rfl⟩
theorem Kpy:Ok Tryz.prog 122 Kq9:=by
 refine⟨⟨Tryz.f122,by kernel_rfl,by kernel_rfl,by kernel_rfl⟩,fun z hz=>(by cases hz),fun F hF=>(by cases hF),fun _ x M R w vs hM hg hpre hargs=> ?_⟩
 obtain⟨n,u⟩:=x
 obtain⟨v,vs',rfl,ha,hr⟩:=hargs
 have hr:vs'=[]:=hr
 subst hr
 obtain⟨cs,rfl,hc⟩:=ha
 have hc:cs=[.int .i64 n]:=hc
 subst hc
 have hpre: -9223372036854775808≤n∧n≤9223372036854775807:=hpre
 refine(Tryz.strconv_Itoa n hpre.1 hpre.2 w (hg w (Sx.Below.refl _ _)).1).mono ?_
 rintro e w' ⟨rfl,k,os,rfl⟩
 exact⟨M,[.string (Vh n)],rfl, .ofK (J0h w k os),fun _ h=>h,fun b h=> .inl h,_,[],rfl,⟨_,rfl,rfl⟩,rfl⟩
theorem Kpx:Ok Tryz.prog 123 Kq8:=by
 refine⟨⟨Tryz.f123,by kernel_rfl,by kernel_rfl,by kernel_rfl⟩,fun z hz=>(by cases hz),fun F hF=>(by cases hF),fun _ x M R w vs hM hg hpre hargs=> ?_⟩
 obtain⟨xs,sep,u⟩:=x
 obtain⟨v,vs',rfl,ha,v2,vs2,rfl,hb,hr⟩:=hargs
 have hr:vs2=[]:=hr
 subst hr
 obtain⟨cs,rfl,hc⟩:=ha
 obtain⟨cs2,rfl,hc2⟩:=hb
 have hc2:cs2=[.string sep]:=hc2
 subst hc2
 obtain⟨v,flat,rfl,f1,f2⟩:=hc
 obtain⟨p1,p2⟩:=hpre
 have hflat:=Jec f1
 have fin:∀(e:Ending) (w':World),e= .returned (.string (Vq xs sep))→RowKit.Below w.heap.size w w'→Joi M w [tS] [] (Vq xs sep,()) e w':=fun e w' he hb=>
  ⟨M,[.string (Vq xs sep)],he, .ofK hb,fun _ h=>h,fun b h=> .inl h,_,[],rfl,⟨_,rfl,rfl⟩,rfl⟩
 rcases f2 with⟨rfl|⟨ad,cap,rfl⟩,h0⟩|⟨b,off,cap,rfl,hcap,hk,hm⟩
 ·have:xs=[]:=List.eq_nil_of_length_eq_zero h0
  subst this
  refine(Tryz.strings_Join_none none 0 sep w).mono ?_
  rintro e w' ⟨rfl,rfl⟩
  exact fin _ _ rfl (RowKit.Below.refl _ _)
 ·have:xs=[]:=List.eq_nil_of_length_eq_zero h0
  subst this
  refine(Tryz.strings_Join_none (some ad) cap sep w).mono ?_
  rintro e w' ⟨rfl,rfl⟩
  exact fin _ _ rfl (RowKit.Below.refl _ _)
 ·cases hx:xs with
  |nil=>
   subst hx
   refine(Tryz.strings_Join_none (some ⟨b,off,none⟩) cap sep w).mono ?_
   rintro e w' ⟨rfl,rfl⟩
   exact fin _ _ rfl (RowKit.Below.refl _ _)
  |cons x0 r=>
   rw[←hx]
   have hne:flat≠[]:=by rw[hflat,hx];simp
   refine(Tryz.strings_Join b off cap xs sep w (fun j x hj=>hk j _ (by rw[hflat,List.getElem?_map,hj];rfl)) (hM b (.inl (hm hne))) (by omega) hcap p2).mono ?_
   rintro e w' ⟨rfl,hb⟩
   exact fin _ _ rfl hb
abbrev K7n:=K7o.add Kpx
abbrev K7m:=K7n.add Kpy
def Xv (s p:ByteArray):List ByteArray:=Lib.splitB p 0 (Lib.countB s p) s
def Jpz:Con:={args:=[aS,aS],ress:=[(false, .list 9 .str)],owns:=[true],pre:=fun(s,p,_)=>[s.size≤1000000,1≤p.size],spec:=fun(s,p,_)=>(Xv s p,())}
theorem Jg7 {M:Nat→Prop} {w:World}:∀{xs:List ByteArray},V6 (Rep M w .str) xs (xs.map Value.string)
 |[]=>rfl
 |x::xs=>⟨[.string x],xs.map Value.string,rfl,rfl,Jg7⟩
theorem K47:Ok Tryz.prog 61 Jpz:=by
 refine⟨⟨Tryz.f61,by kernel_rfl,by kernel_rfl,by kernel_rfl⟩,fun z hz=>(by cases hz),fun F hF=>(by cases hF),fun _ x M R w vs hM hg hpre hargs=> ?_⟩
 obtain⟨s,p,u⟩:=x
 obtain⟨v1,vs1,rfl,ha1,v2,vs2,rfl,ha2,hr⟩:=hargs
 have hr:vs2=[]:=hr
 subst hr
 obtain⟨cs1,rfl,hc1⟩:=ha1
 obtain⟨cs2,rfl,hc2⟩:=ha2
 have hc1:cs1=[.string s]:=hc1
 have hc2:cs2=[.string p]:=hc2
 subst hc1;subst hc2
 have hpre:s.size≤1000000∧1≤p.size:=hpre
 refine(Tryz.strings_Split_shaped s p w ((hg w (.refl _ _)).2 rfl).1 (by omega) hpre.2).mono ?_
 rintro e w' ⟨rfl,rfl⟩
 have hlen:(Xv s p).length=Lib.countB s p+1:=Lib.splitB_all p hpre.2 0 _ s rfl
 have hle:=Lib.countB_le p hpre.2 s.size s (Nat.le_refl _)
 refine⟨M,[_],rfl, .ofK ⟨rfl,rfl,rfl,by show w.heap.size≤(w.heap.push _).size;simp,fun i hi=> ?_⟩,fun _ h=>h,fun b h=> .inl h,_,[],rfl,⟨(Xv s p).map Value.string,Jg7,⟨by simp[Sch.size,Jpz], .inr ⟨w.heap.size,Lib.countB s p+1,_,by rw[show(Jpz.spec (s,p,u)).1=Xv s p from rfl,hlen],Nat.le_refl _,heap_alloc_new w _,by rw[show(Jpz.spec (s,p,u)).1=Xv s p from rfl,hlen];exact Nat.le_refl _, ?_, ?_, ?_⟩⟩, ?_⟩,rfl⟩
 ·show(w.heap.push _)[i]? =_
  rw[Array.getElem?_push]
  split
  ·omega
  ·rfl
 ·show _≤9223372036854775807
  have:s.size≤1000000:=hpre.1
  omega
 ·show(List.map Value.string (Xv s p)).toArray.size=_
  simp[Sch.size,hlen]
 ·show(List.map Value.string (Xv s p)).take ((Xv s p).length*1)=_
  rw[List.take_of_length_le (by simp)]
 ·intro g hgb hM'
  have:w.heap.size=g:=Option.some.inj hgb
  have:=hM g (.inl hM')
  omega
abbrev K7l:=K7m.add K47
def Krk:Con:={args:=[],ress:=[],owns:=[],pre:=fun _=>[False],spec:=fun _=>(),prim:=some Krq}
theorem J4p (s:ByteArray) (w:World) (hs:s.size≤1000000) (hg:Sx.Good Tryz.prog w):Calls Tryz.prog 260 #[.string s] w fun e w'=>∃u,e= .returned (.tuple #[.int .i64 (Jss s),u])∧Jj4 (Jwt s) u∧Sx.Below w.heap.size w w':=by
 have hw:=(hg w (.refl _ _)).2 rfl
 cases h:Lib.atoiAll s.data.toList
 ·rename_i v
  have e1:Jss s=v:=by unfold Jss;rw[h]
  have e2:Jwt s=false:=by unfold Jwt;rw[h]
  rw[e1,e2]
  refine Calls.mono (Any.strconv_Atoi_ok Tryz.laysAtoi s (by omega) v h w) ?_
  rintro e w' ⟨rfl,rfl|⟨t,rfl⟩⟩
  ·exact⟨_,rfl,rfl, .refl _ _⟩
  ·exact⟨_,rfl,rfl, .ofK (Lib.bytesWorld_below w _ t)⟩
 ·have e1:Jss s=0:=by unfold Jss;rw[h]
  have e2:Jwt s=true:=by unfold Jwt;rw[h]
  rw[e1,e2]
  obtain⟨tp,pe,hv⟩:=hw.2.1
  refine Calls.mono (Any.strconv_Atoi_syntax_var Tryz.laysAtoi s (by omega) h tp pe w hv) ?_
  rintro e w' ⟨N,rfl,_,_,hb⟩
  exact⟨_,rfl,⟨_,_,rfl⟩, .ofK hb⟩
 ·have e1:Jss s=Lib.atoiSat s.data.toList:=by unfold Jss;rw[h]
  have e2:Jwt s=true:=by unfold Jwt;rw[h]
  rw[e1,e2]
  obtain⟨tp,pe,hv⟩:=hw.2.2
  refine Calls.mono (Any.strconv_Atoi_range_var Tryz.laysAtoi s (by omega) h tp pe w hv) ?_
  rintro e w' ⟨N,rfl,_,_,hb⟩
  exact⟨_,rfl,⟨_,_,rfl⟩, .ofK hb⟩
theorem Km7:Ok Tryz.prog 260 Krk:=⟨⟨Tryz.f260,by kernel_rfl,by kernel_rfl,by kernel_rfl⟩,fun z hz=>(by cases hz),fun F hF=>(by cases hF;exact J5h fun s w hs hg=>J4p s w hs hg),fun _ x M R w vs _ _ hpre _=>False.elim hpre⟩
abbrev K7k:=K7l.add Km7
def Jx3 (s p:ByteArray):ByteArray×ByteArray×Bool:=(⟨(Lib.cut s.data.toList p.data.toList).1.toArray⟩,⟨(Lib.cut s.data.toList p.data.toList).2.1.toArray⟩,(Lib.cut s.data.toList p.data.toList).2.2)
def K6f:Con:={args:=[aS,aS],ress:=[tS,tS,Bo],owns:=[],pre:=fun(s,_)=>[s.size≤1000000],spec:=fun(s,p,_)=>((Jx3 s p).1,(Jx3 s p).2.1,(Jx3 s p).2.2,())}
theorem J0i (w:World) (q:Nat):RowKit.Below w.heap.size w (w.drewN q):=⟨rfl,rfl,rfl,Nat.le_refl _,fun i _=>rfl⟩
theorem Kp5:Ok Tryz.prog 107 K6f:=by
 refine⟨⟨Tryz.f107,by kernel_rfl,by kernel_rfl,by kernel_rfl⟩,fun z hz=>(by cases hz),fun F hF=>(by cases hF),fun _ x M R w vs hM hg hpre hargs=> ?_⟩
 obtain⟨s,p,u⟩:=x
 obtain⟨v1,vs1,rfl,ha1,v2,vs2,rfl,ha2,hr⟩:=hargs
 have hr:vs2=[]:=hr
 subst hr
 obtain⟨cs1,rfl,hc1⟩:=ha1
 obtain⟨cs2,rfl,hc2⟩:=ha2
 have hc1:cs1=[.string s]:=hc1
 have hc2:cs2=[.string p]:=hc2
 subst hc1;subst hc2
 have hpre:s.size≤1000000:=hpre
 refine(Tryz.strings_Cut_shaped s p w ((hg w (.refl _ _)).2 rfl).1 (by omega)).mono ?_
 rintro e w' ⟨rfl,n,rfl⟩
 exact⟨M,[.string (Jx3 s p).1, .string (Jx3 s p).2.1, .bool (Jx3 s p).2.2],rfl, .ofK (J0i w n),fun _ h=>h,fun b h=> .inl h,_,_,rfl,⟨_,rfl,rfl⟩,_,_,rfl,⟨_,rfl,rfl⟩,_,[],rfl,⟨_,rfl,rfl⟩,rfl⟩
abbrev K7j:=K7k.add Kp5
def Kab (s:ByteArray) (n:Int):ByteArray:=⟨(Lib.repeatL s.data.toList n.toNat).toArray⟩
def K52:Con:={args:=[aS,aI],ress:=[tS],owns:=[],pre:=fun(s,n,_)=>[s.size≤1000000,0≤n∧n≤1000000],spec:=fun(s,n,_)=>(Kab s n,())}
theorem Km8:Ok Tryz.prog 258 K52:=by
 refine⟨⟨Tryz.f258,by kernel_rfl,by kernel_rfl,by kernel_rfl⟩,fun z hz=>(by cases hz),fun F hF=>(by cases hF),fun _ x M R w vs hM hg hpre hargs=> ?_⟩
 obtain⟨s,n,u⟩:=x
 obtain⟨v1,vs1,rfl,ha1,v2,vs2,rfl,ha2,hr⟩:=hargs
 have hr:vs2=[]:=hr
 subst hr
 obtain⟨cs1,rfl,hc1⟩:=ha1
 obtain⟨cs2,rfl,hc2⟩:=ha2
 have hc1:cs1=[.string s]:=hc1
 have hc2:cs2=[.int .i64 n]:=hc2
 subst hc1;subst hc2
 obtain⟨p1,p2,p3⟩:=hpre
 have p1:s.size≤1000000:=p1
 have p2:0≤n:=p2
 have p3:n≤1000000:=p3
 obtain⟨c,rfl⟩:=Int.eq_ofNat_of_zero_le p2
 have p3:(c:Int)≤1000000:=p3
 have hm:s.size*c≤1000000*1000000:=Nat.mul_le_mul p1 (by omega)
 refine(Tryz.strings_Repeat s c w (by omega) (by omega)).mono ?_
 rintro e w' ⟨rfl,hb⟩
 exact⟨M,[.string (Kab s c)],rfl, .ofK hb,fun _ h=>h,fun b h=> .inl h,_,[],rfl,⟨_,rfl,rfl⟩,rfl⟩
abbrev K7i:=K7j.add Km8
abbrev tI:Bool×Sch:=(false, .int .i64)
abbrev tB:Bool×Sch:=(false, .bool)
abbrev K4b:Bool×Sch:=(false, .str)
abbrev taI:AK:= .val false (.int .i64)
abbrev taS:AK:= .val false .str
theorem J3e {n:Int} (h0:0≤n) (h1:n<256):IntKind.u8.wrap n=n:=by
 simp[IntKind.wrap,IntKind.signed,IntKind.bits]
 omega
def Xf (c:Int):Bool:=decide (48≤c)&&decide (c≤57)
theorem Jlo (c:Int):(bif decide (c<48) then true else decide (57<c))= !Xf c:=by
 unfold Xf
 have e1:decide (c<48)= !decide ((48:Int)≤c):=by rw[Bool.eq_iff_iff];simp
 have e2:decide ((57:Int)<c)= !decide (c≤57):=by rw[Bool.eq_iff_iff];simp
 rw[e1,e2]
 cases decide ((48:Int)≤c)<;>cases decide (c≤57)<;>rfl
def Kh:List UInt8→Int→Int×Bool
 |[],n=>(n,true)
 |c::r,n=>if Xf c.toNat=true then Kh r (10*n+(c.toNat-48)) else(0,false)
def Ja0 (s:ByteArray):Bool:=decide (s.size=0)||decide (9<s.size)||(decide (1<s.size)&&decide (Ja2 s 0=48))
def J8 (s:ByteArray):Int×Bool:=if Ja0 s=true then(0,false) else Kh s.data.toList 0
def J47:Con:={args:=[taS],ress:=[tI,tB],owns:=[],pre:=fun(s,_)=>[s.size≤1000000],spec:=fun(s,_)=>((J8 s).1,(J8 s).2,())}
theorem Jwp (s:ByteArray):(bif bif ((s.size:Int)==0) then true else decide (9<(s.size:Int)) then true else bif decide (1<(s.size:Int)) then(((s.data.toList.getD 0 0).toNat:Int)==48) else false)=Ja0 s:=by
 have e1:((s.size:Int)==0)=decide (s.size=0):=by rw[Bool.eq_iff_iff];simp
 have e2:decide (9<(s.size:Int))=decide (9<s.size):=by rw[decide_eq_decide];omega
 have e3:decide (1<(s.size:Int))=decide (1<s.size):=by rw[decide_eq_decide];omega
 have e4:(((s.data.toList.getD 0 0).toNat:Int)==48)=decide (Ja2 s 0=48):=by rw[Bool.eq_iff_iff];simp[Ja2]
 have k:∀a b c d:Bool,(bif bif a then true else b then true else bif c then d else false)=(a||b||(c&&d)):=by decide
 rw[e1,e2,e3,e4,k];rfl
theorem Jfo {c:Nat} (h:Xf c=true):48≤c∧c≤57:=by
 unfold Xf at h
 simp only[Bool.and_eq_true,decide_eq_true_eq] at h
 omega
abbrev K7h:=K7i
theorem F9:∀{l:List UInt8} {n:Int},0≤n→0≤(Kh l n).1∧(Kh l n).1<(n+1)*10^l.length
 |[],n,h=>⟨h,by simp[Kh];omega⟩
 | c :: r, n, h => by
  unfold Kh
  split
  ·rename_i hc
   have hr:=Jfo hc
   have ih:=F9 (l:=r) (n:=10*n+(c.toNat-48)) (by omega)
   refine⟨ih.1,Int.lt_of_lt_of_le ih.2 ?_⟩
   rw[List.length_cons,Int.pow_succ,Int.mul_comm (10^r.length),←Int.mul_assoc]
   exact Int.mul_le_mul_of_nonneg_right (by omega) (Int.pow_nonneg (by decide))
  ·refine⟨Int.le_refl _,Int.mul_pos (by omega) (Int.pow_pos (by decide))⟩
theorem Jnw (s:ByteArray):0≤(J8 s).1∧(J8 s).1<1000000000:=by
 unfold J8
 split
 ·exact⟨Int.le_refl _,by decide⟩
 ·rename_i h
  have h:Ja0 s=false:=by simpa using h
  have h9:s.size≤9:=by
   unfold Ja0 at h
   simp only[Bool.or_eq_false_iff,decide_eq_false_iff_not] at h
   omega
  have:=F9 (l:=s.data.toList) (n:=0) (Int.le_refl _)
  refine⟨this.1,Int.lt_of_lt_of_le this.2 ?_⟩
  have hp:=Nat.pow_le_pow_right (n:=10) (by decide) h9
  have hl:s.data.toList.length=s.size:=by simp
  rw[hl,Int.zero_add,Int.one_mul]
  have e:((10:Int)^s.size)=((10^s.size:Nat):Int):=by simp
  rw[e]
  have h2:((10^s.size:Nat):Int)≤((10^9:Nat):Int):=Int.ofNat_le.2 hp
  have h3:((10^9:Nat):Int)=1000000000:=by decide
  omega
def Jj5 (c:UInt8):List UInt8→List (List UInt8)
 |[]=>[[]]
 |x::r=>if x=c then[]::Jj5 c r else match Jj5 c r with
  |[]=>[[x]]
  |h::t=>(x::h)::t
def bs (l:List UInt8):ByteArray:=⟨l.toArray⟩
def Jd4 (s:ByteArray) (c:Int):List ByteArray:=(Jj5 (UInt8.ofNat c.toNat) s.data.toList).map bs
theorem J3o (c:UInt8):∀l,Jj5 c l≠[]
 |[]=>by simp[Jj5]
 |x::r=>by
  unfold Jj5
  split
  ·simp
  ·split<;>simp
theorem Jam (c x:UInt8) (r:List UInt8):Jj5 c (x::r)=if x=c then[]::Jj5 c r else match Jj5 c r with
  |[]=>[[x]]
  |h::t=>(x::h)::t:=rfl
abbrev Kf9:=K7h
def X3 (n:Int):ByteArray:=⟨(Lib.itoa n).toArray⟩
def Jv4 (k:Nat):Con:={args:=[taI],ress:=[K4b],owns:=[],pre:=fun(n,_)=>[k≤18,-(10^k:Int)<n,n<10^(k+1)],spec:=fun(n,_)=>(X3 n,())}
def Kiu (a:Int):=(Iw (48+a)∧0<1)∧ByteArray.mk (Array.mk [UInt8.ofNat (Int.toNat (IntKind.wrap IntKind.u8 (48+a)))])=X3 a
def Z72 (a:Int):=0-Int.tmod a 10
def Kf8:=(10:Int)=0→False
def Ke6 (a:Nat):=(10:Int)^(a+(1:Nat))
def Kjv (a:Nat):= -10^a
def Ky8 (a:Int) (b:Nat):=Int.tdiv a 10<Ke6 b
def Kx2 (a:Nat) (b:Int):=Kjv a<Int.tdiv b 10
theorem Jyv {l:List UInt8} {n:Int} (h:l=Lib.itoa n):(⟨⟨l⟩⟩:ByteArray)=X3 n:=by subst h;rfl
theorem Jtc (u:Nat):(X3 (u:Int)).data.toList=Lib.decDigits u:=by unfold X3;rw[Lib.itoa_nonneg]
theorem J95 (u:Nat) (h:1≤u):(X3 (-(u:Int))).data.toList=45::Lib.decDigits u:=by unfold X3;rw[Lib.itoa_neg u h]
theorem Jig (n:Int) (h0: -9223372036854775808≤n) (h1:n≤9223372036854775807):(X3 n).size≤21:=by
 have:=Lib.itoa_length_le n h0 h1
 show(Lib.itoa n).toArray.size≤21
 simpa using this
theorem Jnz {u:Nat} (h:¬u<10):Lib.decDigits u=Lib.decDigits (u/10)++[UInt8.ofNat (48+u %10)]:=by rw[Lib.decDigits,dif_neg h]
theorem J1v {x:Nat} (h:x<10):UInt8.ofNat (IntKind.u8.wrap (48+(x:Int))).toNat=UInt8.ofNat (48+x):=by
 rw[J3e (by omega) (by omega)]
 congr 1
theorem Jk8 (n:Int) (h0:¬n<0) (h1:n<10):(⟨⟨[UInt8.ofNat (IntKind.u8.wrap (48+n)).toNat]⟩⟩:ByteArray)=X3 n:=by
 obtain⟨u,rfl⟩:=Int.eq_ofNat_of_zero_le (by omega:0≤n)
 refine Jyv ?_
 have e:Lib.itoa (u:Int)=Lib.decDigits u:=Lib.itoa_nonneg u
 have hu:u<10:=by omega
 rw[e,Lib.decDigits_one hu]
 exact congrArg (·::[]) (J1v hu)
theorem J93 (n:Int):wpF Tryz.prog Kf9.g (na ()) Tryz.f194 (Jv4 0) (n,()):=by
 refine(by kernel_rfl:(0≤18→-10^0<n→n<10^1→Br (decide (n<0)) (Br (decide ((-10)<n)) (Jxs 3 2) (Jxs 4 2)) (Br (decide (n<10)) (Kiu n) (Jxs 7 2)))=_).mp ?_
 delta Kiu Br Iw
 intro _ h0 h1
 have e0:(10:Int)^0=1:=rfl
 have e1:(10:Int)^1=10:=rfl
 rw[e0] at h0
 rw[e1] at h1
 refine⟨fun h=>absurd (of_decide_eq_true h) (by omega),fun h=>⟨fun h2=>⟨⟨by omega,by decide⟩,Jk8 n (of_decide_eq_false h) (of_decide_eq_true h2)⟩,fun h2=>absurd (of_decide_eq_false h2) (by omega)⟩⟩
theorem J92 (k:Nat) (n:Int):wpF Tryz.prog ((194,Jv4 k)::Kf9.g) (na ()) Tryz.f194 (Jv4 (k+1)) (n,()):=by
 refine(by kernel_rfl:(k+1≤18→-Ke6 k<n→n<10^(k+1+1)→Br (decide (n<0)) (Br (decide ((-10)<n)) ((Iw (0-n)∧k≤18∧Kjv k<0-n∧0-n<Ke6 k∧Nc (1+ByteArray.size (X3 (0-n)))≤9223372036854775807)∧ByteArray.mk (Array.mk (45::([]++(X3 (0-n)).data.toList)))=X3 n) ((Kf8∧Iw (Int.tdiv n 10)∧k≤18∧Kx2 k n∧Ky8 n k∧Kf8∧Iw (Z72 n)∧k≤18∧Kjv k<Z72 n∧Z72 n<Ke6 k∧Nc (ByteArray.size (X3 (Int.tdiv n 10))+ByteArray.size (X3 (Z72 n)))≤9223372036854775807)∧ByteArray.mk (Array.mk ((X3 (Int.tdiv n 10)).data.toList++(X3 (Z72 n)).data.toList))=X3 n)) (Br (decide (n<10)) (Kiu n) ((Kf8∧Iw (Int.tdiv n 10)∧k≤18∧Kx2 k n∧Ky8 n k∧Kf8∧Iw (48+Int.tmod n 10)∧0<1∧Nc (ByteArray.size (X3 (Int.tdiv n 10))+1)≤9223372036854775807)∧ByteArray.mk (Array.mk ((X3 (Int.tdiv n 10)).data.toList++[UInt8.ofNat (Int.toNat (IntKind.wrap IntKind.u8 (48+Int.tmod n 10)))]))=X3 n)))=_).mp ?_
 delta Z72 Kf8 Ke6 Kjv Ky8 Kx2 Kiu Br Iw Nc
 intro hk h0 h1
 have hp0:(0:Int)<10^k:=Int.pow_pos (by decide)
 have hp1:(1:Int)≤10^k:=by omega
 have hp2:(10:Int)^k≤100000000000000000:=by
  have h:=Nat.pow_le_pow_right (n:=10) (by decide) (show k≤17 by omega)
  have h2:((10^k:Nat):Int)≤((10^17:Nat):Int):=Int.ofNat_le.2 h
  have h3:((10^17:Nat):Int)=100000000000000000:=by decide
  have e:((10:Int)^k)=((10^k:Nat):Int):=by simp
  omega
 have e1:(10:Int)^(k+1)=10^k*10:=Int.pow_succ ..
 have e2:(10:Int)^(k+1+1)=10^k*10*10:=by rw[Int.pow_succ,e1]
 rw[e1] at h0
 rw[e2] at h1
 rw[e1]
 generalize(10:Int)^k=p at*
 refine⟨fun h=>⟨fun h2=> ?_,fun h2=> ?_⟩,fun h=>⟨fun h2=>⟨⟨by have:=of_decide_eq_true h2;have:=of_decide_eq_false h;omega,by decide⟩,Jk8 n (of_decide_eq_false h) (of_decide_eq_true h2)⟩,fun h2=> ?_⟩⟩
 ·have h:=of_decide_eq_true h
  have h2:=of_decide_eq_true h2
  obtain⟨u,hu⟩:=Int.eq_ofNat_of_zero_le (by omega:0≤0-n)
  have hn:n= -(u:Int):=by omega
  have hs:=Jig (0-n) (by omega) (by omega)
  refine⟨⟨by omega,by omega,by omega,by omega,by omega⟩,Jyv ?_⟩
  rw[hu,Jtc,hn,Lib.itoa_neg u (by omega)];rfl
 ·have h:=of_decide_eq_true h
  have h2:=of_decide_eq_false h2
  obtain⟨u,hu⟩:=Int.eq_ofNat_of_zero_le (by omega:0≤0-n)
  have hn:n= -(u:Int):=by omega
  have ed:n.tdiv 10= -((u/10:Nat):Int):=by rw[hn,Int.neg_tdiv];rfl
  have em:n.tmod 10= -((u %10:Nat):Int):=by rw[hn,Int.neg_tmod];rfl
  have em2:0-n.tmod 10=((u %10:Nat):Int):=by rw[em];omega
  rw[em2,ed]
  have hs1:=Jig (-((u/10:Nat):Int)) (by omega) (by omega)
  have hs2:=Jig ((u %10:Nat):Int) (by omega) (by omega)
  refine⟨⟨by omega,by omega,by omega,by omega,by omega,by omega,by omega,by omega,by omega,by omega,by omega⟩,Jyv ?_⟩
  rw[J95 _ (by omega),Jtc,hn,Lib.itoa_neg u (by omega),Jnz (u:=u) (by omega),Lib.decDigits_one (i:=u %10) (by omega)];rfl
 ·have h:=of_decide_eq_false h
  have h2:=of_decide_eq_false h2
  obtain⟨u,hu⟩:=Int.eq_ofNat_of_zero_le (by omega:0≤n)
  subst hu
  have ed:(u:Int).tdiv 10=((u/10:Nat):Int):=rfl
  have em:(u:Int).tmod 10=((u %10:Nat):Int):=rfl
  rw[em,ed]
  have hs1:=Jig ((u/10:Nat):Int) (by omega) (by omega)
  refine⟨⟨by omega,by omega,by omega,by omega,by omega,by omega,by omega,by decide,by omega⟩,Jyv ?_⟩
  rw[Jtc,Lib.itoa_nonneg,Jnz (u:=u) (by omega),J1v (by omega)]
theorem J17:∀k,Ok Tryz.prog 194 (Jv4 k)
 |0=>Vr mixed Kf9.ok (by kernel_rfl) (by kernel_rfl) na fun xx=>J93 xx.1
 |k+1=>Vr mixed (.cons (J17 k) Kf9.ok) (by kernel_rfl) rfl na fun xx=>J92 k xx.1
theorem Kn8:Ok Tryz.prog 194 (Jv4 17):=J17 17
abbrev K3g:=Kf9.add Kn8
def Hg:List UInt8→Bool
 |[]=>true
 |b::r=>Xf (b.toNat:Int)&&Hg r
def Jsq (s:ByteArray):Bool:=Hg s.data.toList&&decide (0<s.size)
def K6e:Con:={args:=[aS],ress:=[Bo],owns:=[],pre:=fun(s,_)=>[s.size≤1000000],spec:=fun(s,_)=>(Jsq s,())}
abbrev Kci (s:ByteArray):Ann:={X:=Nat,σ:=fun k=>⟨1,[(0, .one (.str s)),(6, .one (.sl 0))],[(0, .siter s k)]⟩,inv:=fun k=>k≤s.size∧Hg s.data.toList=Hg (s.data.toList.drop k),mu:=fun k=>s.size-k}
theorem Jhh {c:Int} (h:128≤c):Xf c=false:=by
 unfold Xf
 rw[decide_eq_false (show ¬c≤57 by omega),Bool.and_false]
def Kjm (a:Nat) (b:Bt):=a≤ByteArray.size b∧Hg (Z11 b)=Hg (List.drop a (Z11 b))
theorem Kod:Ok Tryz.prog 186 K6e:=J16 K3g Tryz.f186 (U6 (l:=([]:List (Nat×Func))) (by simp)) (fun xx=>Xo (Kci xx.1)) (fun xx=>fun _=>na ()) fun xx=>by
 obtain⟨(s:ByteArray),_⟩:=xx
 refine(by kernel_rfl:(ByteArray.size s≤1000000→∃(x:Nat),Sf s (Sf s (0=x))∧Kjm x s∧∀(x:Nat),Kjm x s→(x<ByteArray.size s→Br true (Br (Kkl s x) (Sf true (false=Jsq s)) (∃(y:Nat),Sf s (Sf s (x+Jgi s x=y))∧Kjm y s∧ByteArray.size s-y<ByteArray.size s-x)) (Sf true ((!Lb s B0)=Jsq s)))∧((x<ByteArray.size s→False)→Br false False (Sf true ((!Lb s B0)=Jsq s))))=_).mp ?_
 delta Z11 Kkl Kjm Br Sf B0 Lb
 intro hb
 refine⟨(0:Nat),⟨rfl,rfl,rfl⟩,⟨Nat.zero_le _,by simp⟩,fun(k:Nat) hk=>⟨fun h=>⟨fun _=>⟨fun h1=>⟨rfl, ?_⟩,fun h1=> ?_⟩,fun h=>(by cases h)⟩,fun h=> ?_⟩⟩
 ·rw[Jlo] at h1
  have h2:Xf (V7 s k)=false:=by simpa using h1
  unfold Jsq
  have h3:Hg s.data.toList=false:=by
   rw[hk.2,Dz h,Hg]
   by_cases ha:(s[k]'h).toNat<128
   ·rw[←(Jdf h ha).1,h2];rfl
   ·rw[Jhh (by omega)];rfl
  rw[h3];rfl
 ·rw[Jlo] at h1
  have h2:Xf (V7 s k)=true:=by simpa using h1
  by_cases ha:(s[k]'h).toNat<128
  ·obtain⟨r1,r2⟩:=Jdf h ha
   refine⟨(k+1:Nat),⟨rfl,rfl,by rw[r2]⟩,⟨by omega, ?_⟩,by omega⟩
   rw[hk.2,Dz h,Hg,←r1,h2]
   rfl
  ·have:=Jkz h (by omega)
   rw[Jhh this] at h2
   cases h2
 ·have e:k=s.size:=Nat.le_antisymm hk.1 (Nat.le_of_not_lt h)
  refine⟨fun h=>(by cases h),fun _=>⟨rfl, ?_⟩⟩
  rw[e,List.drop_eq_nil_of_le (by simp)] at hk
  unfold Jsq
  rw[hk.2,Ji4]
  rfl
abbrev K7g:=K3g.add Kod
abbrev K3f:=K7g
theorem Jwj (a:ByteArray):bs a.data.toList=a:=rfl
theorem Jd3 (c:UInt8):∀l:List UInt8,Lib.splitK [c] 0 (l.count c) l=Jj5 c l
 |[]=>rfl
 | x :: r => by
  have ih:=Jd3 c r
  by_cases h:x=c
  ·subst h
   rw[Jam,if_pos rfl,List.count_cons_self]
   have e:Lib.index (x::r) [x]=0:=by simp[Lib.index,List.isPrefixOf]
   rw[Lib.splitK,e,←ih]
   rfl
  ·rw[Jam,if_neg h,List.count_cons_of_ne h,←ih]
   have hp:[c].isPrefixOf (x::r)=false:=by
    have:¬c=x:=fun e=>h e.symm
    simp[List.isPrefixOf,this]
   cases hk:r.count c with
   |zero=>rfl
   | succ k =>
    have hi:Lib.index (x::r) [c]=if Lib.index r [c]== -1 then -1 else Lib.index r [c]+1:=by rw[Lib.index,hp];rfl
    by_cases h1:Lib.index r [c]= -1
    ·have e2:Lib.index (x::r) [c]= -1:=by rw[hi,h1];rfl
     simp only[Lib.splitK,e2,h1]
     rfl
    ·have hg:=Lib.index_ge r [c]
     have e2:Lib.index (x::r) [c]=Lib.index r [c]+1:=by rw[hi,if_neg (by simpa using h1)]
     obtain⟨i,hi⟩:=Int.eq_ofNat_of_zero_le (by omega:0≤Lib.index r [c])
     rw[hi] at e2
     have n1:¬((i:Int)== -1)=true:=by simp
     have n2:¬(((i:Int)+1)== -1)=true:=by simp;omega
     simp only[Lib.splitK,e2,hi]
     rw[if_neg n1,if_neg n2]
     have t1:((i:Int)+1).toNat=i+1:=by omega
     have t2:((i:Int)).toNat=i:=by omega
     simp only[t1,t2,Nat.add_zero,List.take_succ_cons,List.length_cons,List.length_nil]
     rfl
theorem Jdz (s:ByteArray) (c:UInt8):Xv s ⟨#[c]⟩=(Jj5 c s.data.toList).map bs:=by
 have h:=Lib.splitB_data ⟨#[c]⟩ 0 (Lib.countB s ⟨#[c]⟩) s
 have hc:Lib.countB s ⟨#[c]⟩=s.data.toList.count c:=Lib.count_one c s.data.toList
 rw[hc] at h
 have h2:(Xv s ⟨#[c]⟩).map (·.data.toList)=Jj5 c s.data.toList:=by
  rw[←Jd3]
  unfold Xv
  rw[hc];exact h
 rw[←h2,List.map_map]
 exact(List.map_id' _).symm
theorem Jal (c:UInt8):∀(l w:List UInt8),w∈Jj5 c l→w.length≤l.length
 |[],w,h=>by
  have:w=[]:=by simpa[Jj5] using h
  rw[this];exact Nat.le_refl _
 | x :: r, w, h => by
  rw[Jam] at h
  split at h
  ·rcases List.mem_cons.1 h with h|h
   ·rw[h];exact Nat.zero_le _
   ·exact Nat.le_succ_of_le (Jal c r w h)
  ·split at h
   ·rename_i e;exact absurd e (J3o c r)
   ·rename_i hh t e
    rcases List.mem_cons.1 h with h|h
    ·rw[h]
     exact Nat.succ_le_succ (Jal c r hh (by rw[e];simp))
    ·exact Nat.le_succ_of_le (Jal c r w (by rw[e];simp[h]))
theorem Xh (l:List UInt8):(bs l).size=l.length:=by show l.toArray.size=_;simp
theorem Jzy (r:ByteArray) (i:Nat):r.extract 0 i=bs (r.data.toList.take i):=by
 rw[←Jwj (r.extract 0 i),Lib.extract_data];simp
theorem Jpr (r:ByteArray) (i:Nat):r.extract i r.size=bs (r.data.toList.drop i):=by
 rw[←Jwj (r.extract i r.size),Lib.extract_data,List.take_of_length_le (by simp)]
theorem Jim (c:UInt8):∀l:List UInt8,(Jj5 c l).length≤l.length+1
 |[]=>Nat.le_refl _
 | x :: r => by
  have ih:=Jim c r
  rw[Jam]
  split
  ·simp;omega
  ·split
   ·simp
   ·rename_i e;rw[e] at ih;simp at ih⊢;omega
theorem Dj (c:UInt8):∀(l:List UInt8) (n:Int),Kh (l++[c]) n=if(Kh l n).2=true∧Xf c.toNat=true then(10*(Kh l n).1+(c.toNat-48),true) else(0,false)
 |[],n=>by
  show(if Xf c.toNat=true then _ else _)=_
  by_cases h:Xf c.toNat=true
  ·rw[if_pos h,if_pos ⟨rfl,h⟩];rfl
  ·rw[if_neg h,if_neg (fun q=>h q.2)]
 |x::l,n=>by
  have ih:=Dj c l (10*n+(x.toNat-48))
  show(if Xf x.toNat=true then Kh (l++[c]) (10*n+(x.toNat-48)) else(0,false))=_
  have e:Kh (x::l) n=if Xf x.toNat=true then Kh l (10*n+(x.toNat-48)) else(0,false):=rfl
  rw[e]
  by_cases h:Xf x.toNat=true
  ·rw[if_pos h,if_pos h,ih]
  ·rw[if_neg h,if_neg h,if_neg (fun q=>by cases q.1)]
theorem Ja1 (u:Nat):10≤u→Lib.decDigits u=Lib.decDigits (u/10)++[UInt8.ofNat (48+u %10)]:=fun h=>Jnz (by omega)
theorem Jaz {x:Nat} (h:x<10):(UInt8.ofNat (48+x)).toNat=48+x:=UInt8.toNat_ofNat_of_lt' (by show 48+x<256;omega)
theorem F4 {x:Nat} (h:x<10):Xf (UInt8.ofNat (48+x)).toNat=true:=by
 rw[Jaz h];unfold Xf;simp;omega
theorem Jnx (u:Nat):Kh (Lib.decDigits u) 0=((u:Int),true):=by
 induction u using Nat.strongRecOn with
 | ind u ih =>
  by_cases h:u<10
  ·rw[Lib.decDigits_one h]
   show(if Xf (UInt8.ofNat (48+u)).toNat=true then _ else _)=_
   rw[if_pos (F4 h),Jaz h]
   show((_:Int),true)=_
   congr 1;omega
  ·have hd:u %10<10:=Nat.mod_lt _ (by decide)
   rw[Ja1 u (by omega),Dj,ih (u/10) (by omega),if_pos ⟨rfl,F4 hd⟩,Jaz hd]
   congr 1;dsimp only;omega
theorem Jjs (u:Nat):∃c r,Lib.decDigits u=c::r∧Xf c.toNat=true∧(1≤u→c.toNat≠48):=by
 induction u using Nat.strongRecOn with
 | ind u ih =>
  by_cases h:u<10
  ·refine⟨_,_,Lib.decDigits_one h,F4 h,fun h1=> ?_⟩
   rw[Jaz h];omega
  ·obtain⟨c,r,e,h1,h2⟩:=ih (u/10) (by omega)
   exact⟨c,r++[UInt8.ofNat (48+u %10)],by rw[Ja1 u (by omega),e];rfl,h1,fun _=>h2 (by omega)⟩
theorem Jfr (u:Nat):1≤(Lib.decDigits u).length:=by
 obtain⟨c,r,e,_⟩:=Jjs u
 rw[e];simp
theorem Jvo:∀(k u:Nat),((Lib.decDigits u).length≤k+1↔u<10^(k+1))
 | 0, u => by
  by_cases h:u<10
  ·rw[Lib.decDigits_one h];simp;omega
  ·have h2:=Jfr (u/10)
   rw[Ja1 u (by omega),List.length_append]
   simp only[List.length_cons,List.length_nil]
   constructor
   ·intro q;omega
   ·intro q;simp at q;omega
 | k + 1, u => by
  by_cases h:u<10
  ·rw[Lib.decDigits_one h]
   have:10≤10^(k+1+1):=by
    rw[Nat.pow_succ]
    have:=Nat.pos_of_ne_zero (n:=10^(k+1)) (by simp)
    omega
   simp;omega
  ·have ih:=Jvo k (u/10)
   rw[Ja1 u (by omega),List.length_append]
   simp only[List.length_cons,List.length_nil]
   rw[Nat.pow_succ]
   constructor
   ·intro q
    have:=ih.1 (by omega)
    omega
   ·intro q
    have:=ih.2 (by omega)
    omega
theorem Kay:∀(k:Nat) (l:List UInt8),l.length=k+1→(Kh l 0).2=true→(1<l.length→∀c,l.head? =some c→c.toNat≠48)→l=Lib.decDigits (Kh l 0).1.toNat
 | 0, l, hl, hd, _ => by
  match l,hl with
  | [c], _ =>
   have e:Kh [c] 0=if Xf c.toNat=true then((10*0+(c.toNat-48):Int),true) else(0,false):=rfl
   by_cases h:Xf c.toNat=true
   ·rw[e,if_pos h]
    have hr:=Jfo h
    have:((10*0+((c.toNat:Int)-48))).toNat=c.toNat-48:=by omega
    dsimp only
    rw[this,Lib.decDigits_one (by omega),show 48+(c.toNat-48)=c.toNat by omega,UInt8.ofNat_toNat]
   ·rw[e,if_neg h] at hd;cases hd
 | k + 1, l, hl, hd, h0 => by
  obtain⟨i,c,rfl⟩:∃i c,l=i++[c]:=by
   rcases List.eq_nil_or_concat l with h|⟨i,c,h⟩
   ·rw[h] at hl;simp at hl
   ·exact⟨i,c,by simpa using h⟩
  have hil:i.length=k+1:=by simpa using hl
  have hs:=Dj c i 0
  by_cases hc:(Kh i 0).2=true∧Xf c.toNat=true
  ·rw[if_pos hc] at hs
   have hh:∀d,i.head? =some d→d.toNat≠48:=fun d hd=>h0 (by simp;omega) d (by
    cases i with
    |nil=>cases hd
    |cons a b=>exact hd)
   have ih:=Kay k i hil hc.1 fun _=>hh
   have hr:=Jfo hc.2
   have hn:=(F9 (l:=i) (n:=0) (Int.le_refl _)).1
   obtain⟨m,hm⟩:=Int.eq_ofNat_of_zero_le hn
   rw[hm] at ih hs
   simp only[Int.toNat_natCast] at ih
   have hm1:1≤m:=by
    rcases Nat.eq_zero_or_pos m with h|h
    ·subst h
     rw[ih,Lib.decDigits_one (by decide)] at hh
     exact absurd rfl (hh 48 rfl)
    ·exact h
   rw[hs]
   have e:(10*(m:Int)+((c.toNat:Int)-48)).toNat=10*m+(c.toNat-48):=by omega
   dsimp only
   rw[e,Ja1 _ (by omega),show(10*m+(c.toNat-48))/10=m by omega,show 48+(10*m+(c.toNat-48)) %10=c.toNat by omega,UInt8.ofNat_toNat,←ih]
  ·rw[hs,if_neg hc] at hd;cases hd
theorem Jro {c:UInt8} {r:List UInt8} {n:Nat} (h:48≤c.toNat∧c.toNat≤57) (h1:¬1844674407370955162≤n) (h2:¬18446744073709551616≤n*10+(c.toNat-48)):Lib.parseUint10 n (c::r)=Lib.parseUint10 (n*10+(c.toNat-48)) r:=by
 simp only[Lib.parseUint10]
 rw[if_pos h,if_neg h1,if_neg h2]
theorem Jcr (c:UInt8) (r:List UInt8) (n:Int):Kh (c::r) n=if Xf c.toNat=true then Kh r (10*n+(c.toNat-48)) else(0,false):=rfl
theorem Jud (l:List UInt8):∀(n:Nat),(Kh l n).2=true→(Kh l n).1<1000000000000000000→Lib.parseUint10 n l= .ok (Kh l n).1.toNat∧(n:Int)≤(Kh l n).1:=by
 induction l with
 |nil=>exact fun n _ _=>⟨rfl,Int.le_refl _⟩
 | cons c r ih =>
  intro n h1 h2
  by_cases h:Xf c.toNat=true
  ·rw[Jcr,if_pos h] at h1 h2⊢
   have hr:=Jfo h
   have en:(10*(n:Int)+((c.toNat:Int)-48))=((n*10+(c.toNat-48):Nat):Int):=by omega
   rw[en] at h1 h2⊢
   obtain⟨a1,a2⟩:=ih _ h1 h2
   have h3:n<1000000000000000000:=by omega
   refine⟨?_,by omega⟩
   rw[Jro hr (by omega) (by omega)]
   exact a1
  ·rw[Jcr,if_neg h] at h1;cases h1
theorem Juu {u:Nat} (h:u<1000000000):Lib.parseMag (Lib.decDigits u)= .ok u:=by
 obtain⟨c,r,e,_⟩:=Jjs u
 unfold Lib.parseMag
 rw[if_neg (by rw[e];simp)]
 have hd:=Jnx u
 have:=(Jud (Lib.decDigits u) 0 (by show(Kh _ 0).2=true;rw[hd]) (by show(Kh _ 0).1<_;rw[hd];dsimp only;omega)).1
 rw[this]
 show Lib.NumEnd.ok (Kh _ 0).1.toNat=_
 rw[hd];rfl
theorem Jws {v:Int} (h0: -1000000000<v) (h1:v<1000000000):Lib.atoiAll (Lib.itoa v)= .ok v:=by
 rcases(by omega:v<0∨0≤v) with hv|hv
 ·obtain⟨u,hu⟩:=Int.eq_ofNat_of_zero_le (by omega:0≤-v)
  have hn:v= -(u:Int):=by omega
  subst hn
  rw[Lib.itoa_neg u (by omega)]
  have hm:=Juu (u:=u) (by omega)
  have e45:(45:UInt8).toNat=45:=rfl
  simp only[Lib.atoiAll,e45]
  rw[if_pos (Or.inr trivial),hm]
  dsimp only
  rw[if_neg (by omega),if_neg (by omega),if_pos trivial]
 ·obtain⟨u,rfl⟩:=Int.eq_ofNat_of_zero_le hv
  have e:Lib.itoa (u:Int)=Lib.decDigits u:=Lib.itoa_nonneg u
  rw[e]
  have hm:=Juu (u:=u) (by omega)
  obtain⟨c,r,e,h3,h4⟩:=Jjs u
  have hr:=Jfo h3
  rw[e] at hm⊢
  simp only[Lib.atoiAll]
  rw[if_neg (by omega),hm]
  dsimp only
  rw[if_neg (by omega),if_neg (by omega),if_neg (by omega)]
theorem Jr5 {s:ByteArray} (h:(J8 s).2=true):∃u:Nat,u<1000000000∧s.data.toList=Lib.decDigits u∧(J8 s).1=u:=by
 have hr:=Jnw s
 obtain⟨u,hu⟩:=Int.eq_ofNat_of_zero_le hr.1
 by_cases hb:Ja0 s=true
 ·unfold J8 at h;rw[if_pos hb] at h;cases h
 ·have ed:J8 s=Kh s.data.toList 0:=by unfold J8;rw[if_neg hb]
  have hb:Ja0 s=false:=by simpa using hb
  unfold Ja0 at hb
  simp only[Bool.or_eq_false_iff,decide_eq_false_iff_not,Bool.and_eq_false_iff] at hb
  obtain⟨⟨b1,b2⟩,b3⟩:=hb
  have hl:s.data.toList.length=s.size:=by simp
  have:=Kay (s.size-1) s.data.toList (by omega) (by rw[←ed];exact h) (fun hl2 c hc=>by
   rcases b3 with b3|b3
   ·omega
   ·intro q
    apply b3
    have:Ja2 s 0=c.toNat:=by
     unfold Ja2
     rw[List.getD_eq_getElem?_getD]
     have e0:s.data.toList[(0:Int).toNat]? =some c:=by rw[←hc];simp[List.head?_eq_getElem?]
     rw[e0];rfl
    rw[this,q];rfl)
  rw[←ed,hu] at this
  exact⟨u,by omega,this,hu⟩
theorem Jf1:∀{l:List UInt8} {n:Int},Hg l=true→(Kh l n).2=true
 |[],_,_=>rfl
 |c::r,n,h=>by
  rw[Hg,Bool.and_eq_true] at h
  rw[Kh,if_pos h.1]
  exact Jf1 h.2
theorem Jfb:∀{l:List UInt8} {n:Int},(Kh l n).2=true→Hg l=true
 |[],_,_=>rfl
 | c :: r, n, h => by
  rw[Kh] at h
  by_cases q:Xf c.toNat=true
  ·rw[if_pos q] at h
   rw[Hg,q,Jfb h];rfl
  ·rw[if_neg q] at h;cases h
theorem Jfp:∀{l:List UInt8} {n:Int},(Kh l n).2=false→Kh l n=(0,false)
 |[],_,h=>by cases h
 |c::r,n,h=>by
  rw[Kh] at h⊢
  by_cases q:Xf c.toNat=true
  ·rw[if_pos q] at h⊢;exact Jfp h
  ·rw[if_neg q]
theorem Ju3 (s:ByteArray):(bif bif !Jsq s then true else decide (9<(s.size:Int)) then true else bif decide (1<(s.size:Int)) then(((s.data.toList.getD 0 0).toNat:Int)==48) else false)= !(J8 s).2:=by
 have hb:=Jwp s
 have hl:s.data.toList.length=s.size:=by simp
 unfold Jsq
 cases ha:Hg s.data.toList with
 | false =>
  have e:(J8 s).2=false:=by
   unfold J8
   split
   ·rfl
   ·cases h:(Kh s.data.toList 0).2 with
    |false=>rfl
    |true=>rw[Jfb h] at ha;cases ha
  rw[e];rfl
 | true =>
  have e:(J8 s).2= !Ja0 s:=by
   unfold J8
   cases hd:Ja0 s with
   |true=>rfl
   |false=>exact Jf1 ha
  rw[e,←hb]
  have e1:decide (0<s.size)= !((s.size:Int)==0):=by
   by_cases q:s.size=0
   ·rw[q];rfl
   ·rw[decide_eq_true (by omega),beq_eq_false_iff_ne.2 (by omega)];rfl
  rw[e1]
  cases((s.size:Int)==0)<;>simp
theorem Jr8 {s:ByteArray} (h:(J8 s).2=true):Jss s=(J8 s).1:=by
 obtain⟨u,h1,h2,h3⟩:=Jr5 h
 have e:Lib.itoa (u:Int)=Lib.decDigits u:=Lib.itoa_nonneg u
 have:=Jws (v:=(u:Int)) (by omega) (by omega)
 unfold Jss
 rw[h2,←e,this,h3]
def K08 (a:Bt):=bif !Jsq a then true else decide (9<Nc (ByteArray.size a))
theorem Koc:Ok Tryz.prog 187 J47:=okW K3f Tryz.f187 na fun xx=>by
 obtain⟨(s:ByteArray),_⟩:=xx
 refine(by kernel_rfl:(ByteArray.size s≤1000000→(ByteArray.size s≤1000000∧(K08 s=false∧decide (1<Nc (ByteArray.size s))=true→Bd 0 (Nc (ByteArray.size s))))∧Br (bif K08 s then true else bif decide (1<Nc (ByteArray.size s)) then Kle s==48 else false) (0=(J8 s).1∧false=(J8 s).2) (ByteArray.size s≤1000000∧Jss s=(J8 s).1∧true=(J8 s).2))=_).mp ?_
 delta Z11 K08 Kle Br Bd Nc
 intro hs
 rw[Ju3]
 refine⟨⟨hs,fun h=>⟨Int.le_refl _,by have:=of_decide_eq_true h.2;omega⟩⟩,fun h=> ?_,fun h=> ?_⟩
 ·have h:(J8 s).2=false:=by simpa using h
  have e:J8 s=(0,false):=by
   unfold J8 at h⊢
   split
   ·rfl
   ·rename_i q
    rw[if_neg q] at h
    exact Jfp h
  rw[e];exact⟨rfl,rfl⟩
 ·have h:(J8 s).2=true:=by simpa using h
  exact⟨hs,Jr8 h,h.symm⟩
abbrev K3e:=K3f.add Koc
def Jsl:List UInt8→Int→Int
 |[],x=>x
 |b::r,x=>Jsl r ((341*x+(b.toNat:Int)).tmod 9999721)
def Jgg (s:ByteArray):Int:=Jsl s.data.toList 1
def K1p (l:List UInt8):List UInt8:=List.replicate (7-l.length) 48++l
def Jop (s:ByteArray):ByteArray:=bs (K1p (Lib.itoa (Jgg s)))
theorem Jtf:∀{l:List UInt8} {x:Int},0≤x∧x<9999721→0≤Jsl l x∧Jsl l x<9999721
 |[],_,h=>h
 |b::r,x,h=>by
  unfold Jsl
  have hb:(0:Int)≤b.toNat:=by omega
  exact Jtf ⟨Int.tmod_nonneg _ (by omega),Int.tmod_lt_of_pos _ (by decide)⟩
theorem Jmy (s:ByteArray):0≤Jgg s∧Jgg s<9999721:=Jtf ⟨by decide,by decide⟩
theorem Jij (s:ByteArray):1≤(Lib.itoa (Jgg s)).length∧(Lib.itoa (Jgg s)).length≤7:=by
 obtain⟨h0,h1⟩:=Jmy s
 obtain⟨u,hu⟩:=Int.eq_ofNat_of_zero_le h0
 rw[hu] at h1⊢
 rw[show Lib.itoa (u:Int)=Lib.decDigits u from Lib.itoa_nonneg u]
 exact⟨Jfr u,(Jvo 6 u).2 (by have:u<9999721:=(by omega);omega)⟩
theorem K4d (n:Nat):Lib.repeatL [48] n=List.replicate n 48:=by
 induction n with
 |zero=>rfl
 |succ n ih=>rw[List.replicate_succ,←ih];rfl
def K1x:Con:={args:=[aS],ress:=[tS],owns:=[],pre:=fun(s,_)=>[s.size≤1000000],spec:=fun(s,_)=>(Jop s,())}
abbrev Kcd (s:ByteArray):Ann:={X:=Nat×Int,σ:=fun(k,x)=>⟨0,[(0, .one (.str s)),(3, .one (.int .i64 x)),(7, .one (.int .i64 s.size)),(8, .one (.int .i64 k))],[]⟩,inv:=fun(k,x)=>k≤s.size∧(0≤x∧x<9999721)∧Jsl (s.data.toList.drop k) x=Jgg s,mu:=fun(k,_)=>s.size-k}
theorem Jwg (s:ByteArray) (k:Nat):(s.data.toList.getD k 0).toNat<256:=(s.data.toList.getD k 0).toNat_lt
def Kf4 (a:Nat×Int):=7-Nc (ByteArray.size (Vh a.2))
def K0s (a:Nat×Int):=Kab (ByteArray.mk (Array.mk [48])) (Kf4 a)
def Kks (a:Nat×Int) (b:Bt):=341*a.2+Nc (UInt8.toNat (List.getD (Z11 b) a.1 0))
def Kji (a:Nat×Int) (b:Bt) (c:Nat×Int):=Int.tmod (Kks a b) 9999721=c.2
def J6b (a:Nat×Int) (b:Bt):=a.1≤ByteArray.size b∧Bd a.2 9999721∧Jsl (List.drop a.1 (Z11 b)) a.2=Jgg b
def Kh4 (a:Nat×Int) (b:Bt) (c:Nat×Int):=J6b a b∧ByteArray.size b-a.1<ByteArray.size b-c.1
def Kg7 (a:Nat×Int) (b:Bt):=Iw (341*a.2)∧Bd (Nc a.1) (Nc (ByteArray.size b))∧Iw (Nc (UInt8.toNat (List.getD (Z11 b) a.1 0)))∧Iw (Kks a b)∧((9999721:Int)=0→False)
theorem Koe:Ok Tryz.prog 184 K1x:=okW K3e Tryz.f184 (fun xx=>Xo (Kcd xx.1)) fun xx=>by
 obtain⟨(s:ByteArray),_⟩:=xx
 refine(by kernel_rfl:(ByteArray.size s≤1000000→∃(x:Nat×Int),Sf s (1=x.2∧Si (Nc (ByteArray.size s)) (0=Nc x.1))∧J6b x s∧∀(x:Nat×Int),J6b x s→Br (decide (Nc x.1<Nc (ByteArray.size s))) (Kg7 x s∧Z37 x∧∃(y:Nat×Int),Sf s (Kji x s y∧Si (Nc (ByteArray.size s)) (Jse x y))∧Kh4 y s x) (Iw x.2∧(Iw (Kf4 x)∧1≤1000000∧(0≤Kf4 x∧Kf4 x≤1000000)∧Nc (ByteArray.size (K0s x)+ByteArray.size (Vh x.2))≤9223372036854775807)∧ByteArray.mk (Array.mk ((K0s x).data.toList++(Vh x.2).data.toList))=Jop s))=_).mp ?_
 delta Z11 Z37 Jse Kf4 K0s Kks Kji J6b Kh4 Kg7 Br Iw Bd Sf Si Nc
 intro hs
 refine⟨((0:Nat),(1:Int)),by(repeat' first|exact rfl|exact⟨⟩|apply And.intro|omega|dsimp only;omega),⟨Nat.zero_le _,by(first|omega|dsimp only;omega),rfl⟩,fun(y:Nat×Int) hk=>⟨fun h=> ?_,fun h=> ?_⟩⟩
 ·obtain⟨k,x⟩:=y
  have hlt:k<s.size:=by simpa using h
  obtain⟨k1,k2,k3⟩:=hk
  dsimp only at k1 k2
  rw[Dl hlt,Jsl] at k3
  have hb:=Jwg s k
  refine⟨by(repeat' first|apply And.intro|(first|omega|dsimp only;omega)),by(repeat' first|apply And.intro|(first|omega|dsimp only;omega)),(k+1,_),⟨rfl,rfl,rfl, ?_⟩,⟨by(first|omega|dsimp only;omega), ?_,k3⟩,by(first|omega|dsimp only;omega)⟩
  ·dsimp only;push_cast;rfl
  ·exact⟨Int.tmod_nonneg _ (by(first|omega|dsimp only;omega)),Int.tmod_lt_of_pos _ (by decide)⟩
 ·obtain⟨k,x⟩:=y
  have hlt:¬k<s.size:=by simpa using h
  obtain⟨k1,k2,k3⟩:=hk
  have e:k=s.size:=by omega
  rw[e,List.drop_eq_nil_of_le (by simp),Jsl] at k3
  have k3:x=Jgg s:=k3
  have hl:=Jij s
  dsimp only
  rw[k3]
  have hz:(Vh (Jgg s)).size=(Lib.itoa (Jgg s)).length:=rfl
  rw[hz]
  have hr:Kab {data:={toList:=[48]}} (7-((Lib.itoa (Jgg s)).length:Int))=bs (List.replicate (7-(Lib.itoa (Jgg s)).length) 48):=by
   unfold Kab
   rw[show(7-((Lib.itoa (Jgg s)).length:Int)).toNat=7-(Lib.itoa (Jgg s)).length by omega]
   exact congrArg bs (K4d _)
  have hb:=Jmy s
  rw[hr,Xh,List.length_replicate]
  exact⟨by(repeat' first|apply And.intro|(first|omega|dsimp only;omega)),⟨by(repeat' first|apply And.intro|(first|omega|dsimp only;omega)),by decide,by(repeat' first|apply And.intro|(first|omega|dsimp only;omega)),by omega⟩,rfl⟩
abbrev K3d:=K3e.add Koe
def J0g (e:Ev):List ByteArray:=Vh e.1::e.2.1::(e.2.2.1++e.2.2.2.1.map Vh)
def Zr (e:Ev):ByteArray:=Vq (J0g e) ⟨⟨[32]⟩⟩
def Kbm:Con:={args:=[.val false (.list 3 sI), .fn [I] tS],ress:=[(false, .list 9 .str)],owns:=[true],pre:=fun(l,(q,_),_)=>[l.length≤1000000,∀x∈l,Ul (q (x,()))],spec:=fun(l,(_,f),_)=>(l.map fun x=>f (x,()),())}
def J9a (a:Int×Unit→Bt) (b:Nat) (c:Li):=List.map (fun(x:Int)=>a (x,PUnit.unit)) (List.take b c)
theorem Kn3:Ok Tryz.prog 199 Kbm:=okW K3d Tryz.f199 (fun xx=>Xo (Ja8 3 9 sI xx.1 tS false xx.2.1.1 xx.2.1.2)) fun xx=>by
 obtain⟨(l:List Int),⟨(q:Int×Unit→List Prop),(f:Int×Unit→ByteArray)⟩,_⟩:=xx
 refine(by kernel_rfl:(Z47 l→Kkp l q→∃(x:Nat),Si (Ln l) (0=Nc x∧Sf l ((fun(x:Int×PUnit)=>q x)=q∧(fun(x:Int×PUnit)=>f x)=f∧List.length (J9a f x l)=0))∧x≤List.length l∧∀(x:Nat),x≤List.length l→Br (Z95 x l) (Z78 x l∧(Ul (q (Z15 l x,PUnit.unit))∧(List.length (J9a f x l)+1)*16≤140737488355328)∧Z20 x∧∃(y:Nat),Si (Ln l) (V5 x y∧Sf l ((fun(x:Int×PUnit)=>q x)=q∧(fun(x:Int×PUnit)=>f x)=f∧J9a f x l++[f (Z15 l x,PUnit.unit)]=J9a f y l))∧y≤List.length l∧Jxf l y x) (J9a f x l=List.map (fun(x:Int)=>f (x,PUnit.unit)) l))=_).mp ?_
 delta Z15 Z20 Z47 Z78 Z95 V5 J6w Jxf J9a Kkp Br Iw Bd Tw Sf Si Ln Nc
 intro hb hq
 refine⟨(0:Nat),⟨rfl,rfl,rfl,rfl,rfl,by simp⟩,Nat.zero_le _,fun(k:Nat) hk=>⟨fun h=> ?_,fun h=> ?_⟩⟩
 ·have hlt:k<l.length:=by simpa using h
  refine⟨by omega,⟨hq (l.getD k 0) (Jc hlt),by simp only[List.length_map,List.length_take];omega⟩,by omega,(k+1:Nat),⟨rfl,by simp,rfl,rfl,rfl, ?_⟩,by omega,by omega⟩
  rw[←U3 (d:=0) hlt,List.map_append];rfl
 ·have hlt:¬k<l.length:=by simpa using h
  rw[List.take_of_length_le (by omega)]
abbrev K3c:=K3d.add Kn3
structure Lz (e:Ev):Prop where
 num: -999999999≤e.1∧e.1≤999999999
 nn:e.2.2.1.length≤1000
 nv:e.2.2.2.1.length≤1000
 val:∀v∈e.2.2.2.1,-999999999≤v∧v≤999999999
 siz:((J0g e).map fun s=>s.size+1).sum≤1000000
theorem Jjg {sep:List UInt8} (hs:sep.length=1):∀{l:List (List UInt8)},(Lib.join l sep).length≤(l.map fun x=>x.length+1).sum
 |[]=>by simp[Lib.join,List.intercalate]
 |[x]=>by simp[Lib.join,List.intercalate,List.intersperse]
 |x::y::r=>by
  have ih:=Jjg hs (l:=y::r)
  have e:Lib.join (x::y::r) sep=x++sep++Lib.join (y::r) sep:=by simp[Lib.join,List.intercalate,List.intersperse]
  rw[e]
  simp only[List.length_append,List.map_cons,List.sum_cons] at ih⊢
  omega
theorem Jhp {e:Ev} (h:Lz e):(Lib.join ((J0g e).map (·.data.toList)) [32]).length≤1000000:=by
 refine Nat.le_trans (Jjg (sep:=[32]) rfl) (Nat.le_trans (Nat.le_of_eq ?_) h.siz)
 rw[List.map_map]
 congr 1
def Krg:Con:={args:=[aEv],ress:=[tS],owns:=[],pre:=fun(e,_)=>[Lz e],spec:=fun(e,_)=>(Zr e,())}
def Hp:=ByteArray.mk (Array.mk [32])
def Klj (a:Ls) (b:Li):=[]++a++List.map (fun(x:Int)=>Vh x) b
theorem Kof:Ok Tryz.prog 183 Krg:=okW K3c Tryz.f183 na fun xx=>by
 obtain⟨⟨(n:Int),(k:ByteArray),(ns:List ByteArray),(vs:List Int),(tx:ByteArray)⟩,_⟩:=xx
 refine(by kernel_rfl:(Lz (n,k,ns,vs,tx)→(Iw n∧(2+List.length ns)*16≤140737488355328)∧(Z47 vs∧(∀(x:Int),J6w vs x→Iw x)∧(List.length (Vh n::k::([]++ns))+List.length (List.map (fun(x:Int)=>Vh x) vs))*16≤140737488355328∧List.length (Vh n::k::Klj ns vs)≤1000000∧List.length (Lib.join ((Vh n).data.1::k.data.1::List.map (fun(x:ByteArray)=>Z11 x) (Klj ns vs)) [32])≤140737488355328)∧Vq (Vh n::k::Klj ns vs) Hp=Zr (n,k,ns,vs,tx))=_).mp ?_
 delta Z11 Z47 Hp J6w Klj Iw
 intro h
 have h1: -999999999≤n∧n≤999999999:=h.num
 have h2:ns.length≤1000:=h.nn
 have h3:vs.length≤1000:=h.nv
 have hs:=Jhp h
 simp only[List.nil_append,List.length_cons,List.length_append,List.length_map]
 exact⟨by(repeat' first|apply And.intro|(first|omega|dsimp only;omega)),⟨by omega,fun x hx=>by have:=h.val x hx;omega,by omega,by omega,Nat.le_trans hs (by decide)⟩,rfl⟩
abbrev K3b:=K3c.add Kof
theorem Jkr (s:ByteArray):(Jop s).size=7:=by
 have h:=Jij s
 unfold Jop K1p
 rw[Xh,List.length_append,List.length_replicate]
 omega
theorem Jp1 {e:Ev} (h:Lz e):(Zr e).size≤1000000:=Jhp h
def J3t (e:Ev):ByteArray:=bs ((Zr e).data.toList++[35]++(Jop (Zr e)).data.toList++[10])
def K53:Con:={args:=[aEv],ress:=[tS],owns:=[],pre:=fun(e,_)=>[Lz e],spec:=fun(e,_)=>(J3t e,())}
def Kv7 (a:Int) (b:Bt) (c:Ls) (d:Li) (e:Bt):=Array.mk ((Array.mk ((Zr (a,b,c,d,e)).data.toList++[35])).toList++(Jop (Zr (a,b,c,d,e))).data.toList)
theorem Kp6:Ok Tryz.prog 106 K53:=okW K3b Tryz.f106 na fun xx=>by
 obtain⟨⟨(n:Int),(k:ByteArray),(ns:List ByteArray),(vs:List Int),(tx:ByteArray)⟩,_⟩:=xx
 refine(by kernel_rfl:(Lz (n,k,ns,vs,tx)→Lz (n,k,ns,vs,tx)∧(Nc (ByteArray.size (Zr (n,k,ns,vs,tx))+1)≤9223372036854775807∧ByteArray.size (Zr (n,k,ns,vs,tx))≤1000000∧Nc (ByteArray.size (ByteArray.mk (Array.mk ((Zr (n,k,ns,vs,tx)).data.toList++[35])))+ByteArray.size (Jop (Zr (n,k,ns,vs,tx))))≤9223372036854775807∧Nc (ByteArray.size (ByteArray.mk (Kv7 n k ns vs tx))+1)≤9223372036854775807)∧ByteArray.mk (Array.mk ((Kv7 n k ns vs tx).toList++[10]))=J3t (n,k,ns,vs,tx))=_).mp ?_
 delta Kv7 Nc
 intro h
 have h1:=Jp1 h
 have h2:=Jkr (Zr (n,k,ns,vs,tx))
 have h3:(bs ((Zr (n,k,ns,vs,tx)).data.toList++[35])).size=(Zr (n,k,ns,vs,tx)).size+1:=by rw[Xh,List.length_append];simp
 have h4:(bs ((Zr (n,k,ns,vs,tx)).data.toList++[35]++(Jop (Zr (n,k,ns,vs,tx))).data.toList)).size=(Zr (n,k,ns,vs,tx)).size+8:=by rw[Xh,List.length_append,List.length_append];simp[h2]
 refine⟨h,⟨by omega,h1, ?_, ?_⟩,rfl⟩
 ·show((bs ((Zr (n,k,ns,vs,tx)).data.toList++[35])).size+(Jop (Zr (n,k,ns,vs,tx))).size:Nat)≤(9223372036854775807:Int)
  omega
 ·show((bs ((Zr (n,k,ns,vs,tx)).data.toList++[35]++(Jop (Zr (n,k,ns,vs,tx))).data.toList)).size+1:Nat)≤(9223372036854775807:Int)
  omega
abbrev K7f:=K3b.add Kp6
abbrev K3a:=K7f.add Km0
abbrev Tk:=List ByteArray×Bool
def U2:Tk→ByteArray×Tk
 |([],_)=>(Ja,[],true)
 |(w::l,b)=>bif w.toList==Ja.toList then(Ja,[],true) else(w,l,b)
def Lt (t:Tk):Bool:=bif (t.1.length:Int)==0 then true else(t.1.getD 0 Ja).toList==Ja.toList
theorem Jah:∀(t:Tk),U2 t=bif Lt t then(Ja,[],true) else(t.1.getD 0 Ja,t.1.drop 1,t.2)
 |([],_)=>rfl
 | (w :: l, b) => by
  have e:Lt (w::l,b)=(w.toList==Ja.toList):=by
   unfold Lt
   rw[beq_eq_false_iff_ne.2 (show(((w::l,b):Tk).1.length:Int)≠0 by simp;omega)];rfl
  rw[e]
  show(bif w.toList==Ja.toList then(Ja,[],true) else(w,l,b))=_
  cases w.toList==Ja.toList<;>rfl
theorem Jdm {t:Tk} (h:Lt t=false):0<t.1.length:=by
 unfold Lt at h
 by_cases q:t.1.length=0
 ·rw[q] at h;cases h
 ·omega
def J3j (t:Tk):Int×Tk:=((J8 (U2 t).1).1,(U2 t).2.1,bif (U2 t).2.2 then true else !(J8 (U2 t).1).2)
def Da:Nat→Tk→List ByteArray→List ByteArray×Tk
 |0,t,o=>(o,t)
 |n+1,t,o=>Da n (U2 t).2 (o++[(U2 t).1])
def Jai:Nat→Tk→List Int→List Int×Tk
 |0,t,o=>(o,t)
 |n+1,t,o=>Jai n (J3j t).2 (o++[(J3j t).1])
def evz:Ev:=(0,Ja,[],[],Ja)
theorem Jje (k:ByteArray):(Ji k).1.length≤3∧0≤(Ji k).2.1∧(Ji k).2.1≤4:=by
 cases h:Ys k with
 | false =>
  have e:Ji k=([],0,none,none,none):=by
   unfold Ys at h
   unfold Ji
   cases hm:Uh .str k Lr with
   |none=>rfl
   |some v=>rw[hm] at h;cases h
  rw[e];decide
 |true=>
  rcases Vd h with h|h|h|h|h|h|h|h|h|h|h<;>subst h
  all_goals first|(rw[Jbs];decide)|(rw[K6];decide)|(rw[Vb];decide)|(rw[Uu];decide)|(rw[Uv];decide)|(rw[Vp];decide)|(rw[Kt];decide)|(rw[Kj];decide)|(rw[K4];decide)|(rw[K3];decide)|(rw[Us];decide)
def Xx (ws:List ByteArray):List ByteArray×Tk:=Da (Ji (U2 (ws,false)).1).1.length (U2 (ws,false)).2 []
def Jci (ws:List ByteArray):List Int×Tk:=Jai (Ji (U2 (ws,false)).1).2.1.toNat (Xx ws).2 []
def Y1 (ws:List ByteArray):Ev×Bool:=bif Ys (U2 (ws,false)).1 then((0,(U2 (ws,false)).1,(Xx ws).1,(Jci ws).1,Ja),bif !(Jci ws).2.2 then((Jci ws).2.1.length:Int)==0 else false) else(evz,false)
def Kqw:Con:={args:=[.val false (.list 9 .str)],ress:=[(true,sEv),Bo],owns:=[],pre:=fun(ws,_)=>[ws.length≤1000000,∀w∈ws,w.size≤1000000],spec:=fun(ws,_)=>((Y1 ws).1,(Y1 ws).2,())}
abbrev J5n (ws:List ByteArray):Nat→Option Ann:=fun id=>if id=0 then some {X:=Nat×Tk×List ByteArray,σ:=fun(i,(rem,b),o)=>⟨9,[(2, .one (.ptr 1 0)),(4, .one (.ptr 2 0)),(5, .one (.fv 3)),(6, .one (.fv 4)),(7, .one (.ptr 5 0)),(8, .one (.ptr 7 0)),(34, .one (.int .i64 (Ji (U2 (ws,false)).1).1.length)),(35, .one (.int .i64 i))],[(1, .box 67 [.int .i64 0, .str Ja, .val (.slice none 0 0), .val (.slice none 0 0), .str Ja]),(2, .box 279 [.sl 0, .bool b]),(3, .clo 210 [.one (.ptr 2 0)] []),(4, .clo 211 [.one (.ptr 2 0)] []),(5, .box 67 [.int .i64 0, .str (U2 (ws,false)).1, .sl 6, .val (.slice none 0 0), .str Ja]),(7, .box 173 [.sl 8, .int .i64 (Ji (U2 (ws,false)).1).2.1, .fno (Ji (U2 (ws,false)).1).2.2.1, .fno (Ji (U2 (ws,false)).1).2.2.2.1, .fno (Ji (U2 (ws,false)).1).2.2.2.2]),(6, .own 9 .str o),(8, .imm 251 Jy4 (Ji (U2 (ws,false)).1).1),(0, .imm 9 .str rem)]⟩,inv:=fun(i,t,o)=>i≤(Ji (U2 (ws,false)).1).1.length∧t.1.length≤1000000∧(∀w∈t.1,w.size≤1000000)∧o.length=i∧Da ((Ji (U2 (ws,false)).1).1.length-i) t o=Xx ws,mu:=fun(i,_)=>(Ji (U2 (ws,false)).1).1.length-i}
 else if id=2 then some {X:=Nat×Tk×List Int,σ:=fun(i,(rem,b),o)=>⟨10,[(2, .one (.ptr 1 0)),(4, .one (.ptr 2 0)),(6, .one (.fv 4)),(7, .one (.ptr 5 0)),(47, .one (.int .i64 (Ji (U2 (ws,false)).1).2.1)),(48, .one (.int .i64 i))],[(1, .box 67 [.int .i64 0, .str Ja, .val (.slice none 0 0), .val (.slice none 0 0), .str Ja]),(2, .box 279 [.sl 0, .bool b]),(4, .clo 211 [.one (.ptr 2 0)] []),(5, .box 67 [.int .i64 0, .str (U2 (ws,false)).1, .sl 6, .sl 9, .str Ja]),(6, .own 9 .str (Xx ws).1),(9, .own 3 sI o),(0, .imm 9 .str rem)]⟩,inv:=fun(i,t,o)=>i≤(Ji (U2 (ws,false)).1).2.1.toNat∧t.1.length≤1000000∧(∀w∈t.1,w.size≤1000000)∧o.length=i∧Jai ((Ji (U2 (ws,false)).1).2.1.toNat-i) t o=Jci ws,mu:=fun(i,_)=>(Ji (U2 (ws,false)).1).2.1.toNat-i}
 else none
def Z67 (a:Ls):=(Ji (U2 (a,false)).1).2
def Z71 (a:Ls):=(Ji (U2 (a,false)).1).1
def Jyn (a:Ls):=(Z67 a).1
def Kf7 (a:Ls):=(Z67 a).2.1
def Kf6 (a:Ls):=(Z67 a).2.2.1
def Kf5 (a:Ls):=(Z67 a).2.2.2
def Kf3 (a:Nat×Tk×Li):=List.getD a.2.1.1 0 B0
def J6z (a:Ls):=Int.toNat (Jyn a)
def J9g (a:Ls):=Ln (Z71 a)
def J6s (a:Ls):=List.length (Z71 a)
def K1d (a:Nat×Tk×Ls):=(List.length a.2.2+1)*16≤140737488355328
def K1b (a:Ls):=(Ji (U2 (a,false)).1).1=Z71 a
def Kzt (a:Ls):=Sf true (Jad=(Y1 a).1∧false=(Y1 a).2)
def Kw1 (a:Ls):=Uh Sch.str (Z87 a) Lr
def Kg0 (a:Ls):=Option.getD (Kw1 a) J8y
def Kuj (a:Nat×(Ls×Bool)×Li) (b:Ls):=a.1≤J6z b∧List.length a.2.1.1≤1000000∧(∀(w:ByteArray),w∈a.2.1.1→ByteArray.size w≤1000000)∧List.length a.2.2=a.1∧Jai (J6z b-a.1) a.2.1 a.2.2=Jci b
def Kui (a:Ls):=(Kg0 a).2
def Kuh (a:Ls):=(Kui a).2
def Kug (a:Ls):=(Kuh a).2
def Kt7 (a:Nat×(Ls×Bool)×Ls) (b:Ls):=a.1≤J6s b∧List.length a.2.1.1≤1000000∧(∀(w:ByteArray),w∈a.2.1.1→ByteArray.size w≤1000000)∧List.length a.2.2=a.1∧Da (J6s b-a.1) a.2.1 a.2.2=Xx b
def Ktu (a:Nat×(Ls×Bool)×Li) (b:Ls) (c:Nat×Tk×Li):=Kuj a b∧J6z b-a.1<J6z b-c.1
def Ktl (a:Nat×(Ls×Bool)×Ls) (b:Ls) (c:Nat×Tk×Ls):=Kt7 a b∧J6s b-a.1<J6s b-c.1
def J62 (a:Nat×(Ls×Bool)×Ls) (b:Ls):=Kt7 a b∧∀(x:Nat×Tk×List ByteArray),x.1≤J6s b∧List.length x.2.1.1≤1000000∧(∀(w:ByteArray),w∈x.2.1.1→ByteArray.size w≤1000000)∧List.length x.2.2=x.1∧Da (J6s b-x.1) x.2.1 x.2.2=Xx b→Br (decide (Nc x.1<J9g b)) (Tw ((Ln x.2.1.1==0)=false→Bd 0 (Ln x.2.1.1))∧Br (bif Ln x.2.1.1==0 then true else Lb (List.getD x.2.1.1 0 B0) B0) (K1d x∧Iw (Nc x.1+1)∧∃(y:Nat×(List ByteArray×Bool)×List ByteArray),Si (J9g b) (Nc x.1+1=Nc y.1∧Si 0 (Sf Ja (Sf Vk (Sf Vk (Sf Ja (true=y.2.1.2∧Si 0 (Sf (U2 (b,false)).1 (Sf Vk (Sf Ja (Si (Jyn b) (Sf (Kf7 b) (Sf (Kf6 b) (Sf (Kf5 b) (x.2.2++[B0]=y.2.2∧K1b b∧List.length y.2.1.1=0))))))))))))))∧Ktl y b x) (Tw (Bd 0 (Ln x.2.1.1))∧((0:Int)≤1∧1≤Ln x.2.1.1∧Ln x.2.1.1≤Ln x.2.1.1)∧K1d x∧Iw (Nc x.1+1)∧∃(y:Nat×(List ByteArray×Bool)×List ByteArray),Si (J9g b) (Nc x.1+1=Nc y.1∧Si 0 (Sf Ja (Sf Vk (Sf Vk (Sf Ja (x.2.1.2=y.2.1.2∧Si 0 (Sf (U2 (b,false)).1 (Sf Vk (Sf Ja (Si (Jyn b) (Sf (Kf7 b) (Sf (Kf6 b) (Sf (Kf5 b) (x.2.2++[List.getD x.2.1.1 0 B0]=y.2.2∧K1b b∧List.drop 1 (List.take (List.length x.2.1.1) x.2.1.1)=y.2.1.1))))))))))))))∧Ktl y b x)) (∃(x_1:Nat×(List ByteArray×Bool)×List Int),Si (Jyn b) (0=Nc x_1.1∧Si 0 (Sf Ja (Sf Vk (Sf Vk (Sf Ja (x.2.1.2=x_1.2.1.2∧Si 0 (Sf (U2 (b,false)).1 (Sf Ja (x.2.2=(Xx b).1∧List.length x_1.2.2=0∧x.2.1.1=x_1.2.1.1)))))))))∧Kuj x_1 b∧∀(x:Nat×Tk×List Int),x.1≤J6z b∧List.length x.2.1.1≤1000000∧(∀(w:ByteArray),w∈x.2.1.1→ByteArray.size w≤1000000)∧List.length x.2.2=x.1∧Jai (J6z b-x.1) x.2.1 x.2.2=Jci b→Br (decide (Nc x.1<Jyn b)) (Tw ((Ln x.2.1.1==0)=false→Bd 0 (Ln x.2.1.1))∧Br (bif Ln x.2.1.1==0 then true else Lb (Kf3 x) B0) (0≤1000000∧(List.length x.2.2+1)*8≤140737488355328∧Iw (Nc x.1+1)∧∃(y:Nat×(List ByteArray×Bool)×List Int),Si (Jyn b) (Nc x.1+1=Nc y.1∧Si 0 (Sf Ja (Sf Vk (Sf Vk (Sf Ja (true=y.2.1.2∧Si 0 (Sf (U2 (b,false)).1 (Sf Ja ((Xx b).1=(Xx b).1∧x.2.2++[(J8 B0).1]=y.2.2∧List.length y.2.1.1=0)))))))))∧Ktu y b x) (Tw (Bd 0 (Ln x.2.1.1))∧((0:Int)≤1∧1≤Ln x.2.1.1∧Ln x.2.1.1≤Ln x.2.1.1)∧ByteArray.size (Kf3 x)≤1000000∧(List.length x.2.2+1)*8≤140737488355328∧Iw (Nc x.1+1)∧∃(y:Nat×(List ByteArray×Bool)×List Int),Si (Jyn b) (Nc x.1+1=Nc y.1∧Si 0 (Sf Ja (Sf Vk (Sf Vk (Sf Ja ((bif x.2.1.2 then true else !(J8 (Kf3 x)).2)=y.2.1.2∧Si 0 (Sf (U2 (b,false)).1 (Sf Ja ((Xx b).1=(Xx b).1∧x.2.2++[(J8 (Kf3 x)).1]=y.2.2∧List.drop 1 (List.take (List.length x.2.1.1) x.2.1.1)=y.2.1.1)))))))))∧Ktu y b x)) (Sf true ((0,(U2 (b,false)).1,(Xx b).1,x.2.2,Ja)=(Y1 b).1∧(bif !x.2.1.2 then Ln x.2.1.1==0 else false)=(Y1 b).2)))
theorem Kp0:Ok Tryz.prog 120 Kqw:=J16 K3a Tryz.f120 (U6 (l:=([(210,Tryz.f210),(211,Tryz.f211)]:List (Nat×Func))) (List.forall_mem_cons.2 ⟨by kernel_rfl,List.forall_mem_cons.2 ⟨by kernel_rfl,by simp⟩⟩)) (fun xx=>J5n xx.1) (fun xx=>fun _=>na ()) fun xx=>by
 obtain⟨(ws:List ByteArray),_⟩:=xx
 refine(by kernel_rfl:(Jbb ws→Jhr ws→Tw ((Ln ws==0)=false→Z92 ws)∧Br (bif Ln ws==0 then true else Lb (Z87 ws) B0) (Br true (Kzt ws) (∃(x:Nat×(List ByteArray×Bool)×List ByteArray),(0=J9g ws∧0=Nc x.1∧Si 0 (B0=Ja∧Sf Vk (Sf Vk (B0=Ja∧true=x.2.1.2∧Si 0 (B0=(U2 (ws,false)).1∧Sf Vk (B0=Ja∧0=Jyn ws∧none=Kf7 ws∧none=Kf6 ws∧none=Kf5 ws∧List.length x.2.2=0∧[]=Z71 ws∧List.length x.2.1.1=0))))))∧J62 x ws)) (Tw (Z92 ws)∧((0:Int)≤1∧1≤Ln ws∧Ln ws≤Ln ws)∧Br (!Option.isSome (Kw1 ws)) (Kzt ws) (∃(x:Nat×(List ByteArray×Bool)×List ByteArray),(Ln (Kg0 ws).1=J9g ws∧0=Nc x.1∧Si 0 (B0=Ja∧Sf Vk (Sf Vk (B0=Ja∧false=x.2.1.2∧Si 0 (Z87 ws=(U2 (ws,false)).1∧Sf Vk (B0=Ja∧(Kui ws).1=Jyn ws∧(Kuh ws).1=Kf7 ws∧(Kug ws).1=Kf6 ws∧(Kug ws).2=Kf5 ws∧List.length x.2.2=0∧(Kg0 ws).1=Z71 ws∧List.drop 1 (List.take (List.length ws) ws)=x.2.1.1))))))∧J62 x ws)))=_).mp ?_
 delta Z67 Z71 Z87 Z92 Jyn Jbb Kf7 Kf6 Kf5 Kf3 Vk J6z Jad J9g J6s K1d K1b Jgv J8y Kzt Jhr Kw1 Kg0 Kuj Kui Kuh Kug Kt7 Ktu Ktl J62 Br Iw Bd Tw Sf Si Ln Nc B0 Lb
 intro h1 h2
 have hk0:Ys Ja=false:=by kernel_rfl
 have hB:=Jje (ws.getD 0 Ja)
 have hsz:∀k,k<ws.length→(ws.getD k Ja).size≤1000000:=fun k hk=>h2 _ (Jc hk)
 refine⟨⟨fun h=> ?_,fun h=> ?_⟩,fun hc=>⟨fun _=>⟨rfl, ?_⟩,fun h=>(by cases h)⟩,fun hc=> ?_⟩
 ·have:=beq_eq_false_iff_ne.1 h;omega
 ·have:=beq_eq_false_iff_ne.1 h;omega
 ·have e:U2 (ws,false)=(Ja,[],true):=by rw[Jah,show Lt (ws,false)=true from hc];rfl
  have e2:Y1 ws=(evz,false):=by unfold Y1;rw[e,hk0];rfl
  rw[e2];exact⟨rfl,rfl⟩
 ·have hc':Lt (ws,false)=false:=hc
  have e:U2 (ws,false)=(ws.getD 0 Ja,ws.drop 1,false):=by rw[Jah,hc'];rfl
  have hl:0<ws.length:=Jdm hc'
  have eD:(Uh Sch.str (ws.getD 0 ({data:={toList:=[]}}:ByteArray)) Lr).getD ([],0,none,none,none)=Ji (ws.getD 0 Ja):=rfl
  have eK:(Uh Sch.str (ws.getD 0 ({data:={toList:=[]}}:ByteArray)) Lr).isSome=Ys (ws.getD 0 Ja):=rfl
  simp only[e,eD,eK]
  refine⟨by(repeat' first|apply And.intro|(first|omega|dsimp only;omega)),by(repeat' first|apply And.intro|(first|omega|dsimp only;omega)),fun hk=>⟨trivial, ?_⟩,fun hk=>⟨((0:Nat),(ws.drop 1,false),[]), ?_,⟨Nat.zero_le _,by simp only[List.length_drop];omega,fun w hw=>h2 w (List.mem_of_mem_drop hw),rfl,by unfold Xx;rw[e];rfl⟩,fun(x:Nat×Tk×List ByteArray) hx=>⟨fun hlt=> ?_,fun hlt=> ?_⟩⟩⟩
  ·have hk:Ys (ws.getD 0 Ja)=false:=by simpa using hk
   have e2:Y1 ws=(evz,false):=by unfold Y1;rw[e,hk];rfl
   rw[e2];exact⟨rfl,rfl⟩
  ·rw[List.take_length]
   repeat' first|exact rfl|exact⟨⟩|apply And.intro|omega|dsimp only;omega
  ·obtain⟨i,⟨rem,b⟩,o⟩:=x
   obtain⟨i1,i2,i3,i4,i5⟩:=hx
   have hlt:i<(Ji (ws.getD 0 Ja)).1.length:=by simpa using hlt
   dsimp only at i1 i2 i3 i4 i5
   have hn:(Ji (ws.getD 0 Ja)).1.length-i=((Ji (ws.getD 0 Ja)).1.length-(i+1))+1:=by omega
   rw[hn,Da,Jah] at i5
   refine⟨⟨fun h=> ?_,fun h=> ?_⟩,fun h=> ?_,fun h=> ?_⟩
   ·have:=beq_eq_false_iff_ne.1 h;(first|omega|dsimp only;omega)
   ·have:=beq_eq_false_iff_ne.1 h;(first|omega|dsimp only;omega)
   ·have h:Lt (rem,b)=true:=h
    rw[h,cond_true] at i5
    refine⟨by(first|omega|dsimp only;omega),by(repeat' first|apply And.intro|(first|omega|dsimp only;omega)),(i+1,([],true),o++[Ja]), ?_,⟨by(first|omega|dsimp only;omega),by simp,fun w hw=>(by cases hw),by simp[i4],i5⟩,by(first|omega|dsimp only;omega)⟩
    repeat' first|exact rfl|exact⟨⟩|apply And.intro|omega|dsimp only;omega
   ·have h:Lt (rem,b)=false:=h
    have hr:0<rem.length:=Jdm h
    rw[h,cond_false] at i5
    refine⟨by(repeat' first|apply And.intro|(first|omega|dsimp only;omega)),by(repeat' first|apply And.intro|(first|omega|dsimp only;omega)),by(first|omega|dsimp only;omega),by(repeat' first|apply And.intro|(first|omega|dsimp only;omega)),(i+1,(rem.drop 1,b),o++[rem.getD 0 Ja]), ?_,⟨by(first|omega|dsimp only;omega),by simp only[List.length_drop];omega,fun w hw=>i3 w (List.mem_of_mem_drop hw),by simp[i4],i5⟩,by(first|omega|dsimp only;omega)⟩
    dsimp only
    rw[List.take_length]
    repeat' first|exact rfl|exact⟨⟩|apply And.intro|omega|dsimp only;omega
  ·obtain⟨i,⟨rem,b⟩,o⟩:=x
   obtain⟨i1,i2,i3,i4,i5⟩:=hx
   have hlt:¬i<(Ji (ws.getD 0 Ja)).1.length:=by simpa using hlt
   dsimp only at i1 i2 i3 i4 i5
   have hn:(Ji (ws.getD 0 Ja)).1.length-i=0:=by omega
   rw[hn,Da] at i5
   have eN:(Xx ws).1=o:=by rw[←i5]
   have eT:(Xx ws).2=(rem,b):=by rw[←i5]
   simp only[eN]
   refine⟨((0:Nat),(rem,b),[]), ?_,⟨Nat.zero_le _,i2,i3,rfl,by unfold Jci;rw[e,eT];rfl⟩,fun(x:Nat×Tk×List Int) hx=>⟨fun hlt=> ?_,fun hlt=> ?_⟩⟩
   ·repeat' first|exact rfl|exact⟨⟩|apply And.intro|omega|dsimp only;omega
   ·obtain⟨j,⟨rem,b⟩,o2⟩:=x
    obtain⟨j1,j2,j3,j4,j5⟩:=hx
    have hlt:(j:Int)<(Ji (ws.getD 0 Ja)).2.1:=of_decide_eq_true hlt
    dsimp only at j1 j2 j3 j4 j5
    have hn:(Ji (ws.getD 0 Ja)).2.1.toNat-j=((Ji (ws.getD 0 Ja)).2.1.toNat-(j+1))+1:=by omega
    rw[hn,Jai,J3j,Jah] at j5
    refine⟨⟨fun h=> ?_,fun h=> ?_⟩,fun h=> ?_,fun h=> ?_⟩
    ·have:=beq_eq_false_iff_ne.1 h;(first|omega|dsimp only;omega)
    ·have:=beq_eq_false_iff_ne.1 h;(first|omega|dsimp only;omega)
    ·have h:Lt (rem,b)=true:=h
     rw[h,cond_true] at j5
     refine⟨by decide,by(first|omega|dsimp only;omega),by(repeat' first|apply And.intro|(first|omega|dsimp only;omega)),(j+1,([],true),o2++[(J8 Ja).1]), ?_,⟨by(first|omega|dsimp only;omega),by simp,fun w hw=>(by cases hw),by simp[j4],j5⟩,by(first|omega|dsimp only;omega)⟩
     repeat' first|exact rfl|exact⟨⟩|apply And.intro|omega|dsimp only;omega
    ·have h:Lt (rem,b)=false:=h
     have hr:0<rem.length:=Jdm h
     rw[h,cond_false] at j5
     refine⟨by(repeat' first|apply And.intro|(first|omega|dsimp only;omega)),by(repeat' first|apply And.intro|(first|omega|dsimp only;omega)),j3 _ (Jc hr),by(first|omega|dsimp only;omega),by(repeat' first|apply And.intro|(first|omega|dsimp only;omega)),(j+1,(rem.drop 1,bif b then true else !(J8 (rem.getD 0 Ja)).2),o2++[(J8 (rem.getD 0 Ja)).1]), ?_,⟨by(first|omega|dsimp only;omega),by simp only[List.length_drop];omega,fun w hw=>j3 w (List.mem_of_mem_drop hw),by simp[j4],j5⟩,by(first|omega|dsimp only;omega)⟩
     dsimp only
     rw[List.take_length]
     repeat' first|exact rfl|exact⟨⟩|apply And.intro|omega|dsimp only;omega
   ·obtain⟨j,⟨rem2,b2⟩,o2⟩:=x
    obtain⟨j1,j2,j3,j4,j5⟩:=hx
    have hlt:¬(j:Int)<(Ji (ws.getD 0 Ja)).2.1:=of_decide_eq_false hlt
    dsimp only at j1 j2 j3 j4 j5
    have hn:(Ji (ws.getD 0 Ja)).2.1.toNat-j=0:=by omega
    rw[hn,Jai] at j5
    have hk:Ys (ws.getD 0 Ja)=true:=by simpa using hk
    have e2:Y1 ws=((0,ws.getD 0 Ja,o,o2,Ja),bif !b2 then((rem2.length:Int)==0) else false):=by
     unfold Y1
     rw[e,hk,cond_true,eN,←j5]
    rw[e2];exact⟨trivial,rfl,rfl⟩
abbrev K29:=K3a.add Kp0
def Jbc (c:UInt8):List UInt8→List UInt8
 |[]=>[]
 |b::r=>if b=c then[] else b::Jbc c r
def Jgr (c:UInt8):List UInt8→List UInt8
 |[]=>[]
 |b::r=>if b=c then r else Jgr c r
def Jsr (c:UInt8):List UInt8→Bool
 |[]=>false
 |b::r=>if b=c then true else Jsr c r
theorem Juw (c:UInt8):∀l:List UInt8,Lib.cut l [c]=(Jbc c l,Jgr c l,Jsr c l)
 |[]=>rfl
 | b :: r => by
  have ih:=Juw c r
  have hg:=Lib.index_ge r [c]
  by_cases h:b=c
  ·subst h
   have e:Lib.index (b::r) [b]=0:=by simp[Lib.index,List.isPrefixOf]
   unfold Lib.cut Jbc Jgr Jsr
   rw[e,if_pos rfl,if_pos rfl,if_pos rfl]
   rfl
  ·have hp:[c].isPrefixOf (b::r)=false:=by
    have:¬c=b:=fun e=>h e.symm
    simp[List.isPrefixOf,this]
   have hi:Lib.index (b::r) [c]=if Lib.index r [c]== -1 then -1 else Lib.index r [c]+1:=by rw[Lib.index,hp];rfl
   unfold Jbc Jgr Jsr
   rw[if_neg h,if_neg h,if_neg h]
   unfold Lib.cut at ih⊢
   by_cases h1:Lib.index r [c]= -1
   ·have e2:Lib.index (b::r) [c]= -1:=by rw[hi,h1];rfl
    rw[h1,if_neg (by decide)] at ih
    rw[e2,if_neg (by decide)]
    simp only[Prod.mk.injEq] at ih⊢
    exact⟨by rw[←ih.1],ih.2⟩
   ·obtain⟨i,hj⟩:=Int.eq_ofNat_of_zero_le (by omega:0≤Lib.index r [c])
    have e2:Lib.index (b::r) [c]=((i+1:Nat):Int):=by rw[hi,if_neg (by simpa using h1),hj];rfl
    rw[hj,if_pos (by omega)] at ih
    rw[e2,if_pos (by omega)]
    simp only[Prod.mk.injEq,Int.toNat_natCast,List.length_singleton] at ih⊢
    exact⟨by rw[List.take_succ_cons,ih.1],by rw[←ih.2.1];rfl,ih.2.2⟩
theorem Jjt (c:UInt8):∀l:List UInt8,(Jbc c l).length≤l.length
 |[]=>Nat.le_refl _
 |b::r=>by
  have:=Jjt c r
  unfold Jbc
  split<;>simp only[List.length_cons,List.length_nil]<;>omega
theorem Jdo (c:UInt8):∀l:List UInt8,(Jgr c l).length≤l.length
 |[]=>Nat.le_refl _
 |b::r=>by
  have:=Jdo c r
  unfold Jgr
  split<;>simp only[List.length_cons]<;>omega
theorem Jvr (s:ByteArray) (c:UInt8):Jx3 s ⟨⟨[c]⟩⟩=(bs (Jbc c s.data.toList),bs (Jgr c s.data.toList),Jsr c s.data.toList):=by
 unfold Jx3
 rw[show((⟨⟨[c]⟩⟩:ByteArray).data.toList)=[c] from rfl,Juw]
 rfl
theorem Jks (s:ByteArray):Xv s ⟨⟨[32]⟩⟩=Jd4 s 32:=Jdz s 32
def Yt (s:ByteArray):ByteArray:=bs (s.data.toList.take (s.size-8))
def Jmx (s:ByteArray):ByteArray:=bs (s.data.toList.drop (s.size-7))
def J4i (b:ByteArray):ByteArray:=bs (Jbc 32 b.data.toList)
def J3q (b:ByteArray):ByteArray:=bs (Jgr 32 b.data.toList)
def evX (b:ByteArray):Ev:=((J8 (J4i b)).1,(Y1 (Jd4 (J3q b) 32)).1.2)
def okX (b:ByteArray):Bool:=bif bif !(J8 (J4i b)).2 then true else !(Y1 (Jd4 (J3q b) 32)).2 then true else Jb (evX b) !=0
def Jow (s:ByteArray):Bool:=bif bif decide ((s.size:Int)-7-1<0) then true else((s.data.toList.getD (s.size-8) 0).toNat:Int) !=35 then true else !Jsq (Jmx s)
def V3 (s:ByteArray):Ev×Int:=bif Jow s then(evz,25) else bif !((Jop (Yt s)).toList==(Jmx s).toList) then(evz,27) else bif okX (Yt s) then(evz,25) else(evX (Yt s),0)
def U7 (s:ByteArray) (k:Int):Ev×Int:=if(V3 s).2=0 then((V3 s).1,bif (V3 s).1.1 !=k then 11 else 0) else V3 s
def Kbw:Con:={args:=[aS,aI],ress:=[(true,sEv),I],owns:=[],pre:=fun(s,_)=>[s.size≤1000000],spec:=fun(s,k,_)=>((U7 s k).1,(U7 s k).2,())}
theorem Jkp (t:Tk):((U2 t).1=Ja∨(U2 t).1∈t.1)∧∀w∈(U2 t).2.1,w∈t.1:=by
 rw[Jah]
 cases h:Lt t with
 |true=>exact⟨.inl rfl,fun w hw=>by cases hw⟩
 |false=>exact⟨.inr (Jc (Jdm h)),fun w hw=>List.mem_of_mem_drop hw⟩
theorem Jg1:∀(n:Nat) (t:Tk) (o:List ByteArray),(Da n t o).1.length=o.length+n
 |0,_,_=>rfl
 |n+1,t,o=>by
  rw[Da,Jg1 n]
  simp only[List.length_append,List.length_singleton]
  omega
theorem Jg0:∀(n:Nat) (t:Tk) (o:List ByteArray),∀s∈(Da n t o).1,s∈o∨s=Ja∨s∈t.1
 |0,_,_,s,h=> .inl h
 | n + 1, t, o, s, h => by
  have hs:=Jkp t
  rw[Da] at h
  rcases Jg0 n _ _ s h with h|h|h
  ·rcases List.mem_append.1 h with h|h
   ·exact .inl h
   ·rw[List.mem_singleton.1 h]
    exact .inr hs.1
  ·exact .inr (.inl h)
  ·exact .inr (.inr (hs.2 _ h))
theorem Jgz:∀(n:Nat) (t:Tk) (o:List Int),(Jai n t o).1.length=o.length+n
 |0,_,_=>rfl
 |n+1,t,o=>by
  rw[Jai,Jgz n]
  simp only[List.length_append,List.length_singleton]
  omega
theorem Jo4 {ws:List ByteArray} (hw:∀w∈ws,w.size≤1000000):(Y1 ws).1.2.2.1.length≤3∧(Y1 ws).1.2.2.2.1.length≤4∧∀s∈(Y1 ws).1.2.2.1,s.size≤1000000:=by
 have hB:=Jje (U2 (ws,false)).1
 have hs:=Jkp (ws,false)
 unfold Y1
 cases Ys (U2 (ws,false)).1 with
 |false=>exact⟨Nat.zero_le _,Nat.zero_le _,fun s h=>by cases h⟩
 | true =>
  simp only[cond_true]
  refine⟨?_, ?_,fun s h=> ?_⟩
  ·unfold Xx;rw[Jg1];simp;omega
  ·unfold Jci;rw[Jgz];simp;omega
  ·rcases Jg0 _ _ _ s h with h|h|h
   ·cases h
   ·rw[h];decide
   ·exact hw _ (hs.2 _ h)
theorem Dx {s:ByteArray} {k:Int} {x:Ev×Int} (h:V3 s=x) (hx:x.2≠0):U7 s k=x:=by
 unfold U7;rw[h,if_neg hx]
def J07 (a:Bt):=Nc (ByteArray.size a)-(7:Int)-1
def J9f (a:Bt):=J07 a+1
def K1e (a:Bt):=decide (J07 a<0)
def Klg (a:Bt):=ByteArray.extract a 0 (Int.toNat (J07 a))
def Kkw (a:Bt):=ByteArray.extract a (Int.toNat (J9f a)) (ByteArray.size a)
def K0m (a:Bt):=ByteArray.size (Klg a)≤1000000
def Kz1 (a:Bt) (b:Int):=Jad=(U7 a b).1∧25=(U7 a b).2
def Ky4 (a:Bt):=Jx3 (Klg a) Hp
def Ky2 (a:Bt):=(Ky4 a).1
def Kym (a:Bt):=(Ky4 a).2.1
def Kxo (a:Bt):=J8 (Ky2 a)
def Kxk (a:Bt):=(Kxo a).1
def Kw4 (a:Bt):=(0:Int)≤0∧0≤J07 a∧J07 a≤Nc (ByteArray.size a)
def Kh0 (a:Bt):=Xv (Kym a) Hp
def Kwb (a:Bt):=Y1 (Kh0 a)
def Kv6 (a:Bt):=0≤J9f a∧J9f a≤Nc (ByteArray.size a)∧Nc (ByteArray.size a)≤Nc (ByteArray.size a)
def Kv4 (a:Bt):=(Kwb a).1.2
def Kdw (a:Bt):=(Kv4 a).2
def Kvx (a:Bt):=(Kdw a).2
def Ku1 (a:Bt):=bif K1e a then true else Nc (UInt8.toNat (Gt (Z11 a) (J07 a) 0)) !=35
def Kg9 (a:Bt):=Ku1 a=false
def Kuf (a:Bt):=bif !(Kxo a).2 then true else !(Kwb a).2
def Kgy (a:Bt):=Kuf a=false
def Ks4 (a:Bt):=(Kxk a,(Kv4 a).1,(Kdw a).1,E2 (Kvx a))
theorem Kp4:Ok Tryz.prog 108 Kbw:=okW K29 Tryz.f108 na fun xx=>by
 obtain⟨(s:ByteArray),(k:Int),_⟩:=xx
 refine(by kernel_rfl:(ByteArray.size s≤1000000→(Iw (Nc (ByteArray.size s)-7)∧Iw (J07 s))∧((K1e s=false→Bd (J07 s) (Nc (ByteArray.size s)))∧(Kg9 s→Iw (J9f s))∧(Kg9 s→Kv6 s)∧(Kg9 s→ByteArray.size (Kkw s)≤1000000))∧Br (bif Ku1 s then true else !Jsq (Kkw s)) (Kz1 s k) ((Kw4 s∧K0m s∧Iw (J9f s)∧Kv6 s)∧Br (!Lb (Jop (Klg s)) (Kkw s)) (Jad=(U7 s k).1∧27=(U7 s k).2) ((Kw4 s∧K0m s)∧ByteArray.size (Ky2 s)≤1000000∧(ByteArray.size (Kym s)≤1000000∧1≤1∧List.length (Kh0 s)≤1000000∧∀(w:ByteArray),w∈Kh0 s→ByteArray.size w≤1000000)∧((Kgy s→List.length (Kdw s).1≤1000000)∧(Kgy s→List.length (Kvx s).1≤1000000)∧(Kgy s→∀(s_1:ByteArray),s_1∈(Kdw s).1→ByteArray.size s_1≤1000000))∧Br (bif Kuf s then true else Jb (Ks4 s) !=0) (Kz1 s k) (Ks4 s=(U7 s k).1∧(bif Kxk s !=k then 11 else 0)=(U7 s k).2))))=_).mp ?_
 delta Z11 Hp J07 Jad J9f K1e Klg Kkw K0m Kz1 Ky4 Ky2 Kym Kxo Kxk Kw4 Kh0 Kwb Kv6 Kv4 Kdw Kvx Ku1 Kg9 Kuf Kgy Ks4 Br Iw Bd Nc Gt B0 Lb E2
 intro hs
 have hl:s.data.toList.length=s.size:=by simp
 by_cases hq:s.size<8
 ·have hd:decide ((s.size:Int)-7-1<0)=true:=decide_eq_true (by omega)
  have h0:V3 s=(evz,25):=by unfold V3 Jow;rw[hd];rfl
  rw[Dx h0 (by decide)]
  simp only[hd,cond_true]
  exact⟨by(repeat' first|apply And.intro|(first|omega|dsimp only;omega)),⟨⟨fun h=>(by cases h),fun h=>(by cases h),fun h=>(by cases h),fun h=>(by cases h)⟩,fun _=>by(repeat' first|exact rfl|exact⟨⟩|apply And.intro|omega|dsimp only;omega),fun h=>(by cases h)⟩⟩
 ·have e1:((s.size:Int)-7-1).toNat=s.size-8:=by omega
  have e2:((s.size:Int)-7-1+1).toNat=s.size-7:=by omega
  have e3:s.extract 0 (s.size-8)=Yt s:=Jzy s _
  have e4:s.extract (s.size-7) s.size=Jmx s:=Jpr s _
  have hbl:(Yt s).data.toList.length=s.size-8:=by unfold Yt;simp[bs]
  have hbs:(Yt s).size=s.size-8:=by unfold Yt;rw[Xh];simp
  have hts:(Jmx s).size≤1000000:=by unfold Jmx;rw[Xh];simp;omega
  have hd:decide ((s.size:Int)-7-1<0)=false:=decide_eq_false (by omega)
  simp only[e1,e2,e3,e4,Jvr,Jks]
  have hsh:Jow s=bif bif decide ((s.size:Int)-7-1<0) then true else((s.data.toList.getD (s.size-8) 0).toNat:Int) !=35 then true else !Jsq (Jmx s):=rfl
  rw[←hsh]
  have hA:(bs (Jbc 32 (Yt s).data.toList)).size≤1000000:=by rw[Xh];have:=Jjt 32 (Yt s).data.toList;omega
  have hZ:(bs (Jgr 32 (Yt s).data.toList)).size≤1000000:=by rw[Xh];have:=Jdo 32 (Yt s).data.toList;omega
  have hW:∀w∈Jd4 (bs (Jgr 32 (Yt s).data.toList)) 32,w.size≤1000000:=by
   intro w hw
   obtain⟨v,hv,rfl⟩:=List.mem_map.1 hw
   have:=Jal _ _ _ hv
   have h3:=Jdo 32 (Yt s).data.toList
   have h4:(bs (Jgr 32 (Yt s).data.toList)).data.toList.length=(Jgr 32 (Yt s).data.toList).length:=rfl
   rw[Xh]
   omega
  refine⟨by(repeat' first|apply And.intro|(first|omega|dsimp only;omega)),⟨fun _=>by(repeat' first|apply And.intro|(first|omega|dsimp only;omega)),fun _=>by(repeat' first|apply And.intro|(first|omega|dsimp only;omega)),fun _=>by(repeat' first|apply And.intro|(first|omega|dsimp only;omega)),fun _=>hts⟩,fun h=> ?_,fun h=>⟨⟨by(repeat' first|apply And.intro|(first|omega|dsimp only;omega)),by omega,by(repeat' first|apply And.intro|(first|omega|dsimp only;omega)),by(repeat' first|apply And.intro|(first|omega|dsimp only;omega))⟩,fun h2=> ?_,fun h2=>⟨⟨by(repeat' first|apply And.intro|(first|omega|dsimp only;omega)),by omega⟩,hA,⟨hZ,by decide, ?_, ?_⟩, ?_⟩⟩⟩
  ·have h0:V3 s=(evz,25):=by unfold V3;rw[h];rfl
   rw[Dx h0 (by decide)];exact⟨rfl,rfl⟩
  ·have h0:V3 s=(evz,27):=by unfold V3;rw[h,h2];rfl
   rw[Dx h0 (by decide)];exact⟨rfl,rfl⟩
  ·unfold Jd4
   rw[List.length_map]
   have:=Jim (UInt8.ofNat (32:Int).toNat) (bs (Jgr 32 (Yt s).data.toList)).data.toList
   have h3:=Jdo 32 (Yt s).data.toList
   have h4:(bs (Jgr 32 (Yt s).data.toList)).data.toList.length=(Jgr 32 (Yt s).data.toList).length:=rfl
   omega
  ·exact hW
  ·have hr:=Jo4 (ws:=Jd4 (bs (Jgr 32 (Yt s).data.toList)) 32) hW
   refine⟨⟨fun _=>Nat.le_trans hr.1 (by decide),fun _=>Nat.le_trans hr.2.1 (by decide),fun _=>hr.2.2⟩,fun h3=> ?_,fun h3=> ?_⟩
   ·have h3:okX (Yt s)=true:=h3
    have h0:V3 s=(evz,25):=by unfold V3;rw[h,h2,h3];rfl
    rw[Dx h0 (by decide)];exact⟨rfl,rfl⟩
   ·have h3:okX (Yt s)=false:=h3
    have h0:V3 s=(evX (Yt s),0):=by unfold V3;rw[h,h2,h3];rfl
    have h4:U7 s k=(evX (Yt s),bif (evX (Yt s)).1 !=k then 11 else 0):=by unfold U7;rw[h0];rfl
    rw[h4]
    exact⟨rfl,rfl⟩
abbrev K28:=K29.add Kp4
def J3u:Nat→List UInt8→Int→List Ev→List Ev×Int×Int
 |0,_,at_,o=>(o,at_,0)
 |f+1,l,at_,o=>
  if l=[] then(o,at_,0) else
  if Jsr 10 l=false then(o,at_,28) else
  if(U7 (bs (Jbc 10 l)) (o.length+1)).2≠0 then(o,at_,(U7 (bs (Jbc 10 l)) (o.length+1)).2) else
  J3u f (Jgr 10 l) (at_+((Jbc 10 l).length+1)) (o++[(U7 (bs (Jbc 10 l)) (o.length+1)).1])
def Ky (s:ByteArray):List Ev×Int×Int:=if 1000000<s.size then([],0,26) else J3u s.size s.data.toList 0 []
def Jz8:Con:={args:=[aS],ress:=[(false, .list 67 sEv),I,I],owns:=[],pre:=fun _=>[],spec:=fun(s,_)=>((Ky s).1,(Ky s).2.1,(Ky s).2.2,())}
abbrev Kcf (s:ByteArray):Ann:={X:=Nat×List Ev,σ:=fun(k,o)=>⟨1,[(0, .one (.str s)),(5, .one (.sl 0)),(6, .one (.int .i64 k))],[(0, .own 67 sEv o)]⟩,inv:=fun(k,o)=>k≤s.size∧s.size≤1000000∧o.length≤1000∧∃f,s.size-k≤f∧J3u f (s.data.toList.drop k) k o=Ky s,mu:=fun(k,_)=>s.size-k}
theorem Jvs (c:UInt8):∀{l:List UInt8},Jsr c l=true→l=Jbc c l++c::Jgr c l
 |[],h=>by cases h
 | b :: r, h => by
  unfold Jsr at h
  unfold Jbc Jgr
  by_cases q:b=c
  ·rw[if_pos q,if_pos q,q];rfl
  ·rw[if_neg q] at h
   rw[if_neg q,if_neg q,List.cons_append,←Jvs c h]
theorem Jvm {s:ByteArray} {k:Int} (h:(U7 s k).2=0):Jb (U7 s k).1=0∧(U7 s k).1.1=k:=by
 have h0:(V3 s).2=0:=by
  unfold U7 at h
  by_cases q:(V3 s).2=0
  ·exact q
  ·rw[if_neg q] at h;exact h
 have e:U7 s k=((V3 s).1,bif (V3 s).1.1 !=k then 11 else 0):=by unfold U7;rw[if_pos h0]
 rw[e] at h⊢
 refine⟨?_, ?_⟩
 ·unfold V3 at h0⊢
  cases h1:Jow s with
  |true=>rw[h1] at h0;cases h0
  | false =>
   rw[h1,cond_false] at h0
   rw[cond_false]
   cases h2: !((Jop (Yt s)).toList==(Jmx s).toList) with
   |true=>rw[h2] at h0;cases h0
   | false =>
    rw[h2,cond_false] at h0
    rw[cond_false]
    cases h3:okX (Yt s) with
    |true=>rw[h3] at h0;cases h0
    | false =>
     rw[cond_false]
     unfold okX at h3
     cases h4:(bif !(J8 (J4i (Yt s))).2 then true else !(Y1 (Jd4 (J3q (Yt s)) 32)).2) with
     |true=>rw[h4] at h3;cases h3
     |false=>
      rw[h4,cond_false] at h3
      exact bne_eq_false_iff_eq.1 h3
 ·have h:(bif (V3 s).1.1 !=k then(11:Int) else 0)=0:=h
  cases h5:((V3 s).1.1 !=k) with
  |true=>rw[h5] at h;cases h
  |false=>exact bne_eq_false_iff_eq.1 h5
def Kla (a:Bt) (b:Nat×List Ev):=Jx3 (ByteArray.extract a b.1 (ByteArray.size a)) (ByteArray.mk (Array.mk [10]))
def K0v (a:Bt) (b:Nat×List Ev):=ByteArray.size (Kla a b).1
def Kz4 (a:Bt) (b:Nat×List Ev):=Nc (K0v a b)+1
def Kzo (a:Bt) (b:Nat×List Ev):=U7 (Kla a b).1 (Ln b.2+1)
def Kzk (a:Bt) (b:Nat×List Ev):=(Kzo a b).2
def Kzj (a:Bt) (b:Nat×List Ev):=(Kzo a b).1
def Kza (a:Nat×List Ev) (b:Bt):=Nc a.1+Kz4 b a
def Ky9 (a:Bt) (b:Nat×List Ev):=(Kzj a b).2
def Ky6 (a:Bt) (b:Nat×List Ev):=(Ky9 a b).2
def Khi (a:Nat×List Ev) (b:Bt):=a.1≤ByteArray.size b∧ByteArray.size b≤1000000∧List.length a.2≤1000∧∃(f:Nat),ByteArray.size b-a.1≤f∧J3u f (List.drop a.1 (Z11 b)) (Nc a.1) a.2=Ky b
theorem K5e:Ok Tryz.prog 34 Jz8:=okW K28 Tryz.f34 (fun xx=>Xo (Kcf xx.1)) fun xx=>by
 obtain⟨(s:ByteArray),_⟩:=xx
 refine(by kernel_rfl:(Br (decide (1000000<Nc (ByteArray.size s))) ([]=(Ky s).1∧0=(Ky s).2.1∧26=(Ky s).2.2) (∃(x:Nat×List Ev),Sf s (0=Nc x.1∧List.length x.2=0)∧Khi x s∧∀(x:Nat×List Ev),Khi x s→Br (decide (Nc x.1<Nc (ByteArray.size s))) (((0≤Nc x.1∧Nc x.1≤Nc (ByteArray.size s)∧Nc (ByteArray.size s)≤Nc (ByteArray.size s))∧ByteArray.size (ByteArray.extract s x.1 (ByteArray.size s))≤1000000)∧Br (!(Kla s x).2.2) (x.2=(Ky s).1∧Nc x.1=(Ky s).2.1∧28=(Ky s).2.2) ((Iw (Ln x.2+1)∧K0v s x≤1000000)∧Br (Kzk s x !=0) (x.2=(Ky s).1∧Nc x.1=(Ky s).2.1∧Kzk s x=(Ky s).2.2) ((List.length x.2+1)*88≤140737488355328∧(Iw (Kz4 s x)∧Iw (Kza x s))∧∃(y:Nat×List Ev),Sf s (Kza x s=Nc y.1∧x.2++[((Kzj s x).1,(Ky9 s x).1,(Ky6 s x).1,E2 (Ky6 s x).2)]=y.2)∧Khi y s∧ByteArray.size s-y.1<ByteArray.size s-x.1))) (x.2=(Ky s).1∧Nc x.1=(Ky s).2.1∧0=(Ky s).2.2)))=_).mp ?_
 delta Z11 Kla K0v Kz4 Kzo Kzk Kzj Kza Ky9 Ky6 Khi Br Iw Sf Ln Nc E2
 refine⟨fun h=> ?_,fun h=> ?_⟩
 ·have h:1000000<s.size:=by have:=of_decide_eq_true h;omega
  unfold Ky;rw[if_pos h];exact⟨rfl,rfl,rfl⟩
 have hs:¬1000000<s.size:=by have:=of_decide_eq_false h;omega
 have hl:s.data.toList.length=s.size:=by simp
 refine⟨((0:Nat),[]),by(repeat' first|exact rfl|exact⟨⟩|apply And.intro|omega|dsimp only;omega),⟨Nat.zero_le _,by(first|omega|dsimp only;omega),Nat.zero_le _,⟨s.size,by omega,by unfold Ky;rw[if_neg hs];rfl⟩⟩,fun(x:Nat×List Ev) hx=>⟨fun hlt=> ?_,fun hlt=> ?_⟩⟩
 ·obtain⟨k,o⟩:=x
  obtain⟨k1,k2,k3,f,kf,k4⟩:=hx
  have hlt:k<s.size:=by simpa using hlt
  dsimp only at k1 k3
  dsimp only at kf
  have hf:f=(f-1)+1:=by omega
  have hne:s.data.toList.drop k≠[]:=by
   intro h
   have:=congrArg List.length h
   rw[List.length_drop,hl] at this
   simp at this;omega
  rw[hf,J3u,if_neg hne] at k4
  have e0:s.extract k s.size=bs (s.data.toList.drop k):=Jpr s k
  have e1:((k:Int)).toNat=k:=Int.toNat_natCast k
  simp only[e1,e0,Jvr]
  have k4:(if Jsr 10 (s.data.toList.drop k)=false then(o,(k:Int),(28:Int)) else if(U7 (bs (Jbc 10 (s.data.toList.drop k))) (o.length+1)).2≠0 then(o,(k:Int),(U7 (bs (Jbc 10 (s.data.toList.drop k))) (o.length+1)).2) else J3u (f-1) (Jgr 10 (s.data.toList.drop k)) (k+((Jbc 10 (s.data.toList.drop k)).length+1)) (o++[(U7 (bs (Jbc 10 (s.data.toList.drop k))) (o.length+1)).1]))=Ky s:=k4
  have hA:=Jjt 10 (s.data.toList.drop k)
  rw[List.length_drop,hl] at hA
  have hbd:∀l,(bs l).data.toList=l:=fun l=>rfl
  simp only[hbd,Xh,List.length_drop,hl]
  refine⟨by(repeat' first|apply And.intro|(first|omega|dsimp only;omega)),fun h=> ?_,fun h=>⟨⟨by(repeat' first|apply And.intro|(first|omega|dsimp only;omega)),by omega⟩,fun h2=> ?_,fun h2=> ?_⟩⟩
  ·have h:Jsr 10 (s.data.toList.drop k)=false:=by simpa using h
   rw[if_pos h] at k4
   rw[←k4];exact⟨rfl,rfl,rfl⟩
  ·have h:Jsr 10 (s.data.toList.drop k)=true:=by simpa using h
   have h2:(U7 (bs (Jbc 10 (s.data.toList.drop k))) (o.length+1)).2≠0:=bne_iff_ne.1 h2
   rw[if_neg (by rw[h];decide),if_pos h2] at k4
   rw[←k4];exact⟨rfl,rfl,rfl⟩
  ·have h:Jsr 10 (s.data.toList.drop k)=true:=by simpa using h
   have h2:(U7 (bs (Jbc 10 (s.data.toList.drop k))) (o.length+1)).2=0:=bne_eq_false_iff_eq.1 h2
   rw[if_neg (by rw[h];decide),if_neg (by rw[h2];simp)] at k4
   have hc:=Jvs 10 h
   have hlc:=congrArg List.length hc
   rw[List.length_drop,hl,List.length_append,List.length_cons] at hlc
   have hd:s.data.toList.drop (k+((Jbc 10 (s.data.toList.drop k)).length+1))=Jgr 10 (s.data.toList.drop k):=by
    rw[←List.drop_drop]
    have:=congrArg (List.drop ((Jbc 10 (s.data.toList.drop k)).length+1)) hc
    rw[this,show(Jbc 10 (s.data.toList.drop k)).length+1=(Jbc 10 (s.data.toList.drop k)).length+1 from rfl]
    simp[List.drop_append]
   have hn:=(Jvm h2)
   have hnum:=Yi.1 (show Kf (U7 (bs (Jbc 10 (s.data.toList.drop k))) (o.length+1)).1.1 1 1000=0 by
    have:=(Uj hn.1).num
    exact Yi.2 this)
   rw[hn.2] at hnum
   refine⟨by omega,by(repeat' first|apply And.intro|(first|omega|dsimp only;omega)),(k+((Jbc 10 (s.data.toList.drop k)).length+1),o++[(U7 (bs (Jbc 10 (s.data.toList.drop k))) (o.length+1)).1]),by(repeat' first|exact rfl|exact⟨⟩|apply And.intro|omega|dsimp only;omega),⟨by(first|omega|dsimp only;omega),k2,by simp only[List.length_append,List.length_singleton];omega,f-1,by(first|omega|dsimp only;omega), ?_⟩,by(first|omega|dsimp only;omega)⟩
   dsimp only
   rw[hd]
   exact k4
 ·obtain⟨k,o⟩:=x
  obtain⟨k1,k2,k3,f,kf,k4⟩:=hx
  have hlt:¬k<s.size:=by simpa using hlt
  dsimp only at k1 k3
  have e:s.data.toList.drop k=[]:=List.drop_eq_nil_of_le (by omega)
  have k4:J3u f (s.data.toList.drop k) k o=Ky s:=k4
  rw[e] at k4
  have k5:(o,(k:Int),(0:Int))=Ky s:=by
   rw[←k4]
   cases f<;>rfl
  rw[←k5]
  exact⟨rfl,rfl,rfl⟩
abbrev K7e:=K28.add K5e
theorem Jar (n:Int) (h0: -9223372036854775808≤n) (h1:n≤9223372036854775807):(Vh n).size≤40:=by
 have:=Lib.itoa_length_le n h0 h1
 have e:(Vh n).size=(Lib.itoa n).length:=rfl
 omega
theorem J96 {l:List Nat} {b:Nat} (h:∀x∈l,x≤b):l.sum≤b*l.length:=by
 induction l with
 |nil=>simp
 |cons x l ih=>
  have h1:=h x (List.mem_cons_self ..)
  have h2:=ih fun y hy=>h y (List.mem_cons_of_mem _ hy)
  rw[List.sum_cons,List.length_cons,Nat.mul_succ]
  omega
theorem Jo9 {s:ByteArray} (h:Yk s=true):s.size≤24:=by
 unfold Yk at h
 simp only[Bool.and_eq_true,decide_eq_true_eq] at h
 omega
theorem J4d {k:ByteArray} (h:Ys k=true):k.size≤7:=by
 rcases Vd h with h|h|h|h|h|h|h|h|h|h|h<;>subst h<;>decide
theorem J5f {e:Ev} (h:Jb e=0):Lz e:=by
 have hE:=Uj h
 have hk:=Jje e.2.1
 have h1:=hE.num
 have h2:=hE.nn
 have h3:=hE.nv
 have h4:=J4d hE.kind
 refine⟨by omega,by omega,by omega,fun v hv=>by have:=hE.val v hv;omega, ?_⟩
 refine Nat.le_trans (J96 (b:=41) fun x hx=> ?_) ?_
 ·obtain⟨s,hs,rfl⟩:=List.mem_map.1 hx
  rcases List.mem_cons.1 hs with rfl|hs
  ·have:=Jar e.1 (by omega) (by omega);omega
  rcases List.mem_cons.1 hs with rfl|hs
  ·omega
  rcases List.mem_append.1 hs with hs|hs
  ·have:=Jo9 (hE.name s hs);omega
  ·obtain⟨v,hv,rfl⟩:=List.mem_map.1 hs
   have:=hE.val v hv
   have:=Jar v (by omega) (by omega);omega
 ·unfold J0g
  simp only[List.length_map,List.length_cons,List.length_append]
  omega
theorem Jua {e:Ev} (h:Lz e):(J3t e).size=(Zr e).size+9:=by
 have h2:=Jkr (Zr e)
 unfold J3t
 rw[Xh]
 simp[h2]
abbrev K27:=K7e
def Kq5:Con:={args:=[.val false (.list 67 sEv), .fn [(true,sEv)] tS],ress:=[(false, .list 9 .str)],owns:=[true],pre:=fun(l,(q,_),_)=>[l.length≤1000000,∀x∈l,Ul (q (x,()))],spec:=fun(l,(_,f),_)=>(l.map fun x=>f (x,()),())}
def Z12 (a:Nat) (b:List Ev):=Bd (Nc a) (Ln b)
def Z39 (a:List Ev):=List.length a≤1000000
def J06 (a:List Ev) (b:Ev):=b∈a
def J9d (a:Ev×Unit→Bt) (b:Nat) (c:List Ev):=List.map (fun(x:Ev)=>a (x,PUnit.unit)) (List.take b c)
def J6n (a:List Ev) (b:Nat):=(List.getD a b Jad).2
def J6i (a:List Ev) (b:Nat):=(J6n a b).2
def J6h (a:Nat) (b:List Ev) (c:Nat):=a≤List.length b∧List.length b-a<List.length b-c
def J6g (a:List Ev) (b:Nat):=(J6i a b).2
def J8w (a:List Ev) (b:Ev×Unit→List Prop):=∀(x:Ev),J06 a x→Ul (b (x,PUnit.unit))
def Kdf (a:List Ev) (b:Nat):=((List.getD a b Jad).1,(J6n a b).1,(J6i a b).1,E2 (J6g a b))
def J55 (a:List Ev) (b:Nat):=(Kdf a b,PUnit.unit)
def J8c (a:Ev×Unit→List Prop) (b:List Ev) (c:Nat):=Ul (a (J55 b c))
theorem Kpw:Ok Tryz.prog 124 Kq5:=okW K27 Tryz.f124 (fun xx=>Xo (Ja8 67 9 sEv xx.1 tS true xx.2.1.1 xx.2.1.2)) fun xx=>by
 obtain⟨(l:List Ev),⟨(q:Ev×Unit→List Prop),(f:Ev×Unit→ByteArray)⟩,_⟩:=xx
 refine(by kernel_rfl:(Z39 l→J8w l q→∃(x:Nat),Si (Ln l) (0=Nc x∧Sf l ((fun(x:Ev×PUnit)=>q x)=q∧(fun(x:Ev×PUnit)=>f x)=f∧List.length (J9d f x l)=0))∧x≤List.length l∧∀(x:Nat),x≤List.length l→Br (decide (Nc x<Ln l)) (Tw (Z12 x l)∧(J8c q l x∧(List.length (J9d f x l)+1)*16≤140737488355328)∧Z20 x∧∃(y:Nat),Si (Ln l) (V5 x y∧Sf l ((fun(x:Ev×PUnit)=>q x)=q∧(fun(x:Ev×PUnit)=>f x)=f∧J9d f x l++[f (J55 l x)]=J9d f y l))∧J6h y l x) (J9d f x l=List.map (fun(x:Ev)=>f (x,PUnit.unit)) l))=_).mp ?_
 delta Z12 Z20 Z39 V5 J06 Jad J9d J6n J6i J6h J6g J8w Kdf J55 J8c Br Iw Bd Tw Sf Si Ln Nc B0 E2
 intro hb hq
 refine⟨(0:Nat),⟨rfl,rfl,rfl,rfl,rfl,by simp⟩,Nat.zero_le _,fun(k:Nat) hk=>⟨fun h=> ?_,fun h=> ?_⟩⟩
 ·have hlt:k<l.length:=by simpa using h
  refine⟨by omega,⟨hq (l.getD k evz) (Jc hlt),by simp only[List.length_map,List.length_take];omega⟩,by omega,(k+1:Nat),⟨rfl,by simp,rfl,rfl,rfl, ?_⟩,by omega,by omega⟩
  rw[←U3 (d:=evz) hlt,List.map_append];rfl
 ·have hlt:¬k<l.length:=by simpa using h
  rw[List.take_of_length_le (by omega)]
abbrev K26:=K27.add Kpw
def cQ (pre:Reg→ByteArray→List Prop) (f:Reg→ByteArray→List ByteArray):Con:={args:=[Jbd,aS],ress:=[(false, .list 9 .str)],owns:=[true],pre:=fun(r,s,_)=>pre r s,spec:=fun(r,s,_)=>(f r s,())}
theorem Jwo {tk st:Int} {S:List Sta} {O:List Ord} {M:List Met} {X:List Out} {Q:List Per} {s:ByteArray} (hr:Jk (tk,st,S,O,M,X,Q)):∀(l:List Sta) (n:Int),n-3200000000*l.length≤Jx4 st O M s l n∧Jx4 st O M s l n≤n+3200000000*l.length
 |[],n=>by simp[Jx4]
 | x :: l, n => by
  have hb:=Jqc (a:=s) (b:=x.1) hr
  have ih:=Jwo (s:=s) hr l (bif x.1.toList !=s.toList then n+Dn st O M s x.1 else n)
  have hd:n-3200000000≤(bif x.1.toList !=s.toList then n+Dn st O M s x.1 else n)∧(bif x.1.toList !=s.toList then n+Dn st O M s x.1 else n)≤n+3200000000:=by
   cases x.1.toList !=s.toList<;>simp only[cond_true,cond_false]<;>omega
  simp only[List.length_cons]
  unfold Jx4
  omega
theorem Jwm {tk st:Int} {S:List Sta} {O:List Ord} {M:List Met} {X:List Out} {Q:List Per} {s:ByteArray} (hr:Jk (tk,st,S,O,M,X,Q)): -19200000000≤Jwn st S O M s∧Jwn st S O M s≤19200000000:=by
 have h:=Jwo (s:=s) hr S 0
 have nS:S.length≤6:=hr.nS
 unfold Jwn
 omega
def Jub:Reg→ByteArray→List ByteArray:=fun(_,st,S,O,M,_) s=>[Vh (Jwn st S O M s)]
def Kqz:Con:=cQ (fun r _=>[Jk r]) Jub
theorem Kn7:Ok Tryz.prog 195 Kqz:=okW K26 Tryz.f195 na fun xx=>by
 obtain⟨⟨(tk:Int),(st:Int),(S:List Sta),(O:List Ord),(M:List Met),(X:List Out),(Q:List Per)⟩,(s:ByteArray),_⟩:=xx
 refine(by kernel_rfl:(Jt tk st S O M X Q→(Jt tk st S O M X Q∧Iw (Jwn st S O M s))∧[Vh (Jwn st S O M s)]=Jub (Z66 tk st S O M X Q) s)=_).mp ?_
 delta Z66 Jt Iw
 intro hr
 have hb:=Jwm (s:=s) hr
 exact⟨⟨hr,by omega,by omega⟩,rfl⟩
abbrev K25:=K26.add Kn7
def Jeh:Reg→ByteArray→List ByteArray:=fun(_,_,S,_) s=>[Vh (Hl S s).2.2]
def Ka6:Con:=cQ (fun r s=>[Jk r,0≤Jx r.2.2.1 s]) Jeh
theorem Kn6:Ok Tryz.prog 196 Ka6:=okW K25 Tryz.f196 na fun xx=>by
 obtain⟨⟨(tk:Int),(st:Int),(S:List Sta),(O:List Ord),(M:List Met),(X:List Out),(Q:List Per)⟩,(s:ByteArray),_⟩:=xx
 refine(by kernel_rfl:(Jt tk st S O M X Q→Z18 S s→(Z55 S∧Z18 S s∧Iw (Hl S s).2.2)∧[Vh (Hl S s).2.2]=Jeh (Z66 tk st S O M X Q) s)=_).mp ?_
 delta Z18 Z55 Z66 Jt Iw
 intro hr h
 have nS:S.length≤6:=hr.nS
 have hs:0≤(Hl S s).2.2∧(Hl S s).2.2≤1000:=(Jil hr.sta h).pri
 exact⟨⟨by omega,h,by omega,by omega⟩,rfl⟩
abbrev K24:=K25.add Kn6
def Jei:Reg→ByteArray→List ByteArray:=fun(_,st,_,O,M,_) s=>[Vh (Un st M (Xy O s)).2.1,Vh (Un st M (Xy O s)).2.2.1,Vh (Un st M (Xy O s)).2.2.2.1,Vh (Un st M (Xy O s)).2.2.2.2.1,Vh (Un st M (Xy O s)).2.2.2.2.2]
def Ka8:Con:=cQ (fun r s=>[Jk r,0≤Ku r.2.2.2.1 s]) Jei
def Kw2 (a:List Ord) (b:Bt):=((Xy a b).1,(Xy a b).2.1,(Xy a b).2.2.1,E2 (Xy a b).2.2.2.1,(Xy a b).2.2.2.2.1,E2 (Xy a b).2.2.2.2.2)
def Kwv (a:Int) (b:List Met) (c:List Ord) (d:Bt):=(Un a b (Kw2 c d)).2
def Kwr (a:Int) (b:List Met) (c:List Ord) (d:Bt):=(Kwv a b c d).1
def Kwq (a:Int) (b:List Met) (c:List Ord) (d:Bt):=(Kwv a b c d).2
def Kwn (a:Int) (b:List Met) (c:List Ord) (d:Bt):=(Kwq a b c d).2
def Kwm (a:Int) (b:List Met) (c:List Ord) (d:Bt):=(Kwq a b c d).1
def Kwl (a:Int) (b:List Met) (c:List Ord) (d:Bt):=(Kwn a b c d).1
def Kwj (a:Int) (b:List Met) (c:List Ord) (d:Bt):=(Kwn a b c d).2
def Kwh (a:Int) (b:List Met) (c:List Ord) (d:Bt):=(Kwj a b c d).1
def Kwg (a:Int) (b:List Met) (c:List Ord) (d:Bt):=(Kwj a b c d).2
theorem Kn5:Ok Tryz.prog 197 Ka8:=okW K24 Tryz.f197 na fun xx=>by
 obtain⟨⟨(tk:Int),(st:Int),(S:List Sta),(O:List Ord),(M:List Met),(X:List Out),(Q:List Per)⟩,(s:ByteArray),_⟩:=xx
 refine(by kernel_rfl:(Jt tk st S O M X Q→0≤Ku O s→(Z56 O∧0≤Ku O s∧Jt tk st S O M X Q∧Kw2 O s∈O)∧(5≤1000000∧∀(x:Int),x∈[Kwr st M O s,Kwm st M O s,Kwl st M O s,Kwh st M O s,Kwg st M O s]→Iw x)∧[Vh (Kwr st M O s),Vh (Kwm st M O s),Vh (Kwl st M O s),Vh (Kwh st M O s),Vh (Kwg st M O s)]=Jei (Z66 tk st S O M X Q) s)=_).mp ?_
 delta Z56 Z66 Jt Kw2 Kwv Kwr Kwq Kwn Kwm Kwl Kwj Kwh Kwg Iw E2
 intro hr h
 have nO:O.length≤32:=hr.nO
 have hm:=Jbn h
 have hb:=Ja4 hr hm
 simp only[Prod.eta]
 refine⟨⟨by omega,h,hr,hm⟩,⟨by decide,fun x hx=> ?_⟩,rfl⟩
 have b1:=hb.hours
 have b2:=hb.sent
 have b3:=hb.got
 have b4:=hb.money
 have b5:=hb.fine
 simp only[List.mem_cons,List.not_mem_nil,or_false] at hx
 rcases hx with rfl|rfl|rfl|rfl|rfl<;>omega
abbrev K23:=K24.add Kn5
def Jc4:List Gap→List ByteArray→List ByteArray
 |[],o=>o
 |g::l,o=>Jc4 l (bif decide ((o.length:Int)<512) then o++[g.1,Vh g.2] else o)
def Jc1:Reg→ByteArray→List ByteArray:=fun(tk,_,_,O,M,_) _=>Jc4 (Ke M tk O) []
def Ka7:Con:=cQ (fun r _=>[Jk r]) Jc1
abbrev J0q (L:List Gap):Ann:={X:=Nat×List ByteArray,σ:=fun(k,o)=>⟨2,[(5, .one (.sl 1)),(11, .one (.sl 0)),(12, .one (.int .i64 L.length)),(13, .one (.int .i64 k))],[(0, .own 200 Jre L),(1, .own 9 .str o)]⟩,inv:=fun(k,o)=>k≤L.length∧o.length≤600∧Jc4 (L.drop k) o=Jc4 L [],mu:=fun(k,_)=>L.length-k}
theorem Jli {M:List Met} {u:Int} {x:Ord}:∀(n:Nat) (h:Int),(L3 M u x h n).length≤n
 |0,_=>Nat.le_refl _
 |n+1,h=>by
  have:=Jli (M:=M) (u:=u) (x:=x) n (h+1)
  unfold L3
  rw[List.length_append]
  cases J2 x h&&(decide (h<u)&&decide (K2 M x.1 h<0))<;>simp only[cond_true,cond_false,List.length_singleton,List.length_nil]<;>omega
theorem Jlg {S:List Sta} {M:List Met} {u:Int}:∀{O:List Ord},(∀x∈O,Jdc S x)→(Ke M u O).length≤48*O.length
 |[],_=>Nat.le_refl _
 |x::l,h=>by
  have h1:=Jlg (M:=M) (u:=u) (O:=l) fun y hy=>h y (List.mem_cons_of_mem _ hy)
  have h2:=Jli (M:=M) (u:=u) (x:=x) (x.2.2.2.1.2-x.2.2.2.1.1).toNat x.2.2.2.1.1
  have h3:=Jor (h x (List.mem_cons_self ..))
  unfold Um at h3
  unfold Ke Juq
  rw[List.length_append,List.length_cons]
  omega
theorem Jpc {M:List Met} {u:Int} {x:Ord}:∀(n:Nat) (h:Int),∀g∈L3 M u x h n,h≤g.2∧g.2<h+n
 |0,_,g,hg=>by cases hg
 | n + 1, h, g, hg => by
  unfold L3 at hg
  rcases List.mem_append.1 hg with hg|hg
  ·cases hb:J2 x h&&(decide (h<u)&&decide (K2 M x.1 h<0)) with
   |false=>rw[hb] at hg;cases hg
   |true=>
    rw[hb,cond_true] at hg
    rw[List.mem_singleton.1 hg]
    constructor<;>dsimp only<;>omega
  ·have:=Jpc n (h+1) g hg
   omega
theorem Ji8 {S:List Sta} {M:List Met} {u:Int}:∀{O:List Ord},(∀x∈O,Jdc S x)→∀g∈Ke M u O,0≤g.2∧g.2≤999999999
 |[],_,g,hg=>by cases hg
 | x :: l, h, g, hg => by
  unfold Ke at hg
  rcases List.mem_append.1 hg with hg|hg
  ·have hs:=(h x (List.mem_cons_self ..)).span
   have h1:=hs.lo
   have h2:=hs.mid
   have h3:=hs.hi
   have:=Jpc _ _ g hg
   omega
  ·exact Ji8 (fun y hy=>h y (List.mem_cons_of_mem _ hy)) g hg
def Khy (a:Nat×Ls) (b:List Met) (c:Int) (d:List Ord):=a.1≤List.length (Ke b c d)∧List.length a.2≤600∧Jc4 (List.drop a.1 (Ke b c d)) a.2=Jc4 (Ke b c d) []
def Ku0 (a:Nat×Ls) (b:List Met) (c:Int) (d:List Ord) (e:Nat×Ls):=Khy a b c d∧List.length (Ke b c d)-a.1<List.length (Ke b c d)-e.1
theorem Kn2:Ok Tryz.prog 200 Ka7:=okW K23 Tryz.f200 (fun xx=>Xo (J0q (Ke xx.1.2.2.2.2.1 xx.1.1 xx.1.2.2.2.1))) fun xx=>by
 obtain⟨⟨(tk:Int),(st:Int),(S:List Sta),(O:List Ord),(M:List Met),(X:List Out),(Q:List Per)⟩,(s:ByteArray),_⟩:=xx
 refine(by kernel_rfl:(Jt tk st S O M X Q→Jt tk st S O M X Q∧∃(x:Nat×List ByteArray),Si (Ln (Ke M tk O)) (0=Nc x.1∧Sf (Ke M tk O) (List.length x.2=0))∧Khy x M tk O∧∀(x:Nat×List ByteArray),Khy x M tk O→Br (decide (Nc x.1<Ln (Ke M tk O))) (Tw (Bd (Nc x.1) (Ln (Ke M tk O)))∧Br (decide (Ln x.2<512)) ((Iw (List.getD (Ke M tk O) x.1 (B0,0)).2∧(List.length x.2+2)*16≤140737488355328)∧Iw (Nc x.1+1)∧∃(y:Nat×List ByteArray),Si (Ln (Ke M tk O)) (Nc x.1+1=Nc y.1∧Sf (Ke M tk O) (x.2++[(List.getD (Ke M tk O) x.1 (B0,0)).1,Vh (List.getD (Ke M tk O) x.1 (B0,0)).2]=y.2))∧Ku0 y M tk O x) (Iw (Nc x.1+1)∧∃(y:Nat×List ByteArray),Si (Ln (Ke M tk O)) (Nc x.1+1=Nc y.1∧Sf (Ke M tk O) (x.2=y.2))∧Ku0 y M tk O x)) (x.2=Jc1 (Z66 tk st S O M X Q) s))=_).mp ?_
 delta Z66 Jt Khy Ku0 Br Iw Bd Tw Sf Si Ln Nc B0
 intro hr
 have nO:O.length≤32:=hr.nO
 have hL:(Ke M tk O).length≤48*O.length:=Jlg hr.ord
 have hG:∀g∈Ke M tk O,0≤g.2∧g.2≤999999999:=Ji8 hr.ord
 have hq:Jc1 (tk,st,S,O,M,X,Q) s=Jc4 (Ke M tk O) []:=rfl
 rw[hq]
 refine⟨hr,((0:Nat),[]),by(repeat' first|exact rfl|exact⟨⟩|apply And.intro|omega|dsimp only;omega),⟨Nat.zero_le _,Nat.zero_le _,rfl⟩,fun(x:Nat×List ByteArray) hx=>⟨fun hlt=> ?_,fun hlt=> ?_⟩⟩
 ·obtain⟨k,o⟩:=x
  obtain⟨k1,k2,k3⟩:=hx
  have hlt:k<(Ke M tk O).length:=by simpa using hlt
  have hg:=hG _ (Jc (d:=(Ja,0)) hlt)
  dsimp only at k1 k2 k3
  rw[Js (d:=((Ja,0):Gap)) hlt,Jc4] at k3
  have hz:((({data:={toList:=[]}}:ByteArray),(0:Int)):Gap)=(Ja,0):=rfl
  simp only[hz]
  refine⟨by(repeat' first|apply And.intro|(first|omega|dsimp only;omega)),fun h=>⟨⟨by(repeat' first|apply And.intro|(first|omega|dsimp only;omega)),by(first|omega|dsimp only;omega)⟩,by(repeat' first|apply And.intro|(first|omega|dsimp only;omega)),(k+1,o++[((Ke M tk O).getD k (Ja,0)).1,Vh ((Ke M tk O).getD k (Ja,0)).2]),by(repeat' first|exact rfl|exact⟨⟩|apply And.intro|omega|dsimp only;omega),⟨by(first|omega|dsimp only;omega), ?_, ?_⟩,by(first|omega|dsimp only;omega)⟩,fun h=>⟨by(repeat' first|apply And.intro|(first|omega|dsimp only;omega)),(k+1,o),by(repeat' first|exact rfl|exact⟨⟩|apply And.intro|omega|dsimp only;omega),⟨by(first|omega|dsimp only;omega),k2, ?_⟩,by(first|omega|dsimp only;omega)⟩⟩
  ·have h:=of_decide_eq_true h
   simp only[List.length_append,List.length_cons,List.length_nil]
   omega
  all_goals (rw[h] at k3;exact k3)
 ·obtain⟨k,o⟩:=x
  obtain⟨k1,k2,k3⟩:=hx
  have hlt:¬k<(Ke M tk O).length:=by simpa using hlt
  have e:k=(Ke M tk O).length:=by dsimp only at k1;omega
  rw[e,List.drop_length,Jc4] at k3
  exact k3
abbrev K22:=K23.add Kn2
def K54:Con:={args:=[.val true X4, .ref 105 Jm3],ress:=[Bo],owns:=[],pre:=fun _=>[],spec:=fun(x,(tk,_),_)=>(Ko x.2.2.1 tk,())}
theorem Knz:Ok Tryz.prog 203 K54:=okW K22 Tryz.f203 na fun xx=>by
 obtain⟨⟨(n:ByteArray),(f:ByteArray),⟨(a:Int),(b:Int)⟩,(p:Int)⟩,⟨(tk:Int),(st:Int),(S:List Sta),(O:List Ord),(M:List Met),(X:List Out),(Q:List Per)⟩,_⟩:=xx
 refine(by kernel_rfl:(Ko (a,b) tk=Ko (a,b) tk)=_).mp ?_
 rfl
abbrev K21:=K22.add Knz
def Kbj:Con:={args:=[.val false (.list 188 X4), .fn [(true,X4)] Bo],ress:=[(false, .list 188 X4)],owns:=[true],pre:=fun(l,(q,_),_)=>[l.length≤1000000,∀x∈l,Ul (q (x,()))],spec:=fun(l,(_,f),_)=>(l.filter fun x=>f (x,()),())}
def J24 (a:Out×Unit→Bool) (b:Nat) (c:List Out):=List.filter (fun(x:Out)=>a (x,PUnit.unit)) (List.take b c)
def J6d (a:Nat) (b:List Out) (c:Nat):=a≤List.length b∧Jyf b a c
theorem K4k:Ok Tryz.prog 94 Kbj:=okW K21 Tryz.f94 (fun xx=>Xo (Joc 188 188 X4 xx.1 true xx.2.1.1 xx.2.1.2)) fun xx=>by
 obtain⟨(l:List Out),⟨(q:Out×Unit→List Prop),(f:Out×Unit→Bool)⟩,_⟩:=xx
 refine(by kernel_rfl:(Z54 l→J2x l q→∃(x:Nat),Si (Ln l) (0=Nc x∧Sf l ((fun(x:Out×PUnit)=>q x)=q∧(fun(x:Out×PUnit)=>f x)=f∧List.length (J24 f x l)=0))∧x≤List.length l∧∀(x:Nat),x≤List.length l→Br (Js0 x l) (Tw (Z14 x l)∧J2t q l x∧Br (Kg3 f l x) ((List.length (J24 f x l)+1)*56≤140737488355328∧Z20 x∧∃(y:Nat),Si (Ln l) (V5 x y∧Sf l ((fun(x:Out×PUnit)=>q x)=q∧(fun(x:Out×PUnit)=>f x)=f∧J24 f x l++[J8d l x]=J24 f y l))∧J6d y l x) (Z20 x∧∃(y:Nat),Si (Ln l) (V5 x y∧Sf l ((fun(x:Out×PUnit)=>q x)=q∧(fun(x:Out×PUnit)=>f x)=f∧J24 f x l=J24 f y l))∧J6d y l x)) (J24 f x l=List.filter (fun(x:Out)=>f (x,PUnit.unit)) l))=_).mp ?_
 delta Z14 Z20 Z54 V5 Js0 Jc9 Jyf J24 J01 J00 J20 J6d J2x J8d J2u Kg3 J2t Br Iw Bd Tw Sf Si Ln Nc B0 E2
 intro hb hq
 refine⟨(0:Nat),⟨rfl,rfl,rfl,rfl,rfl,by simp⟩,Nat.zero_le _,fun(k:Nat) hk=>⟨fun h=> ?_,fun h=> ?_⟩⟩
 ·have hlt:k<l.length:=by simpa using h
  have hf:=Jfk (p:=fun x=>f (x,())) hk
  have ht:=U3 (d:=V8) hlt
  refine⟨by omega,hq (l.getD k V8) (Jc hlt),fun h1=> ?_,fun h1=> ?_⟩
  ·have h1:f (l.getD k V8,())=true:=h1
   refine⟨by show((List.filter (fun x=>f (x,())) (List.take k l)).length+1)*56≤_;omega,by omega,(k+1:Nat),⟨rfl,by simp,rfl,rfl,rfl, ?_⟩,by omega,by omega⟩
   rw[←ht,List.filter_append,List.filter_cons,if_pos h1];rfl
  ·have h1:f (l.getD k V8,())=false:=h1
   refine⟨by omega,(k+1:Nat),⟨rfl,by simp,rfl,rfl,rfl, ?_⟩,by omega,by omega⟩
   rw[←ht,List.filter_append,List.filter_cons,if_neg (by rw[h1];decide)];simp
 ·have hlt:¬k<l.length:=by simpa using h
  rw[List.take_of_length_le (by omega)]
abbrev K20:=K21.add K4k
def Kbd:Con:={args:=[.val false (.list 188 X4), .fn [(true,X4)] tS],ress:=[(false, .list 9 .str)],owns:=[true],pre:=fun(l,(q,_),_)=>[l.length≤1000000,∀x∈l,Ul (q (x,()))],spec:=fun(l,(_,f),_)=>(l.map fun x=>f (x,()),())}
def J9b (a:Out×Unit→Bt) (b:Nat) (c:List Out):=List.map (fun(x:Out)=>a (x,PUnit.unit)) (List.take b c)
theorem Kn0:Ok Tryz.prog 202 Kbd:=okW K20 Tryz.f202 (fun xx=>Xo (Ja8 188 9 X4 xx.1 tS true xx.2.1.1 xx.2.1.2)) fun xx=>by
 obtain⟨(l:List Out),⟨(q:Out×Unit→List Prop),(f:Out×Unit→ByteArray)⟩,_⟩:=xx
 refine(by kernel_rfl:(Z54 l→J2x l q→∃(x:Nat),Si (Ln l) (0=Nc x∧Sf l ((fun(x:Out×PUnit)=>q x)=q∧(fun(x:Out×PUnit)=>f x)=f∧List.length (J9b f x l)=0))∧x≤List.length l∧∀(x:Nat),x≤List.length l→Br (Js0 x l) (Tw (Z14 x l)∧(J2t q l x∧(List.length (J9b f x l)+1)*16≤140737488355328)∧Z20 x∧∃(y:Nat),Si (Ln l) (V5 x y∧Sf l ((fun(x:Out×PUnit)=>q x)=q∧(fun(x:Out×PUnit)=>f x)=f∧J9b f x l++[f (J2u l x)]=J9b f y l))∧J6d y l x) (J9b f x l=List.map (fun(x:Out)=>f (x,PUnit.unit)) l))=_).mp ?_
 delta Z14 Z20 Z54 V5 Js0 Jc9 Jyf J01 J9b J00 J20 J6d J2x J8d J2u J2t Br Iw Bd Tw Sf Si Ln Nc B0 E2
 intro hb hq
 refine⟨(0:Nat),⟨rfl,rfl,rfl,rfl,rfl,by simp⟩,Nat.zero_le _,fun(k:Nat) hk=>⟨fun h=> ?_,fun h=> ?_⟩⟩
 ·have hlt:k<l.length:=by simpa using h
  refine⟨by omega,⟨hq (l.getD k V8) (Jc hlt),by simp only[List.length_map,List.length_take];omega⟩,by omega,(k+1:Nat),⟨rfl,by simp,rfl,rfl,rfl, ?_⟩,by omega,by omega⟩
  rw[←U3 (d:=V8) hlt,List.map_append];rfl
 ·have hlt:¬k<l.length:=by simpa using h
  rw[List.take_of_length_le (by omega)]
abbrev K2z:=K20.add Kn0
def Kbf:Con:={args:=[.val false (.list 235 Zw), .fn [(true,Zw)] tS],ress:=[(false, .list 9 .str)],owns:=[true],pre:=fun(l,(q,_),_)=>[l.length≤1000000,∀x∈l,Ul (q (x,()))],spec:=fun(l,(_,f),_)=>(l.map fun x=>f (x,()),())}
def J89 (a:Per×Unit→Bt) (b:Nat) (c:List Per):=List.map (fun(x:Per)=>a (x,PUnit.unit)) (List.take b c)
theorem Knw:Ok Tryz.prog 206 Kbf:=okW K2z Tryz.f206 (fun xx=>Xo (Ja8 235 9 Zw xx.1 tS true xx.2.1.1 xx.2.1.2)) fun xx=>by
 obtain⟨(l:List Per),⟨(q:Per×Unit→List Prop),(f:Per×Unit→ByteArray)⟩,_⟩:=xx
 refine(by kernel_rfl:(Z45 l→J8v l q→∃(x:Nat),Si (Ln l) (0=Nc x∧Sf l ((fun(x:Per×PUnit)=>q x)=q∧(fun(x:Per×PUnit)=>f x)=f∧List.length (J89 f x l)=0))∧x≤List.length l∧∀(x:Nat),x≤List.length l→Br (Z94 x l) (Tw (Bd (Nc x) (Ln l))∧(J8s q l x∧(List.length (J89 f x l)+1)*16≤140737488355328)∧Z20 x∧∃(y:Nat),Si (Ln l) (V5 x y∧Sf l ((fun(x:Per×PUnit)=>q x)=q∧(fun(x:Per×PUnit)=>f x)=f∧J89 f x l++[f (J8t l x)]=J89 f y l))∧Kfh y l x) (J89 f x l=List.map (fun(x:Per)=>f (x,PUnit.unit)) l))=_).mp ?_
 delta Z20 Z45 Z94 V5 J28 J04 J89 Kfh J8v Ke2 J8t J8s Br Iw Bd Tw Sf Si Ln Nc B0 E2
 intro hb hq
 refine⟨(0:Nat),⟨rfl,rfl,rfl,rfl,rfl,by simp⟩,Nat.zero_le _,fun(k:Nat) hk=>⟨fun h=> ?_,fun h=> ?_⟩⟩
 ·have hlt:k<l.length:=by simpa using h
  refine⟨by omega,⟨hq (l.getD k Jix) (Jc hlt),by simp only[List.length_map,List.length_take];omega⟩,by omega,(k+1:Nat),⟨rfl,by simp,rfl,rfl,rfl, ?_⟩,by omega,by omega⟩
  rw[←U3 (d:=Jix) hlt,List.map_append];rfl
 ·have hlt:¬k<l.length:=by simpa using h
  rw[List.take_of_length_le (by omega)]
abbrev K2y:=K2z.add Knw
def Jsp:Reg→ByteArray→List ByteArray:=fun(tk,_,_,_,_,X,_) _=>(X.filter fun x=>Ko x.2.2.1 tk).map fun x=>x.1
def Kqy:Con:=cQ (fun r _=>[Jk r]) Jsp
theorem Kn1:Ok Tryz.prog 201 Kqy:=okW K2y Tryz.f201 na fun xx=>by
 obtain⟨⟨(tk:Int),(st:Int),(S:List Sta),(O:List Ord),(M:List Met),(X:List Out),(Q:List Per)⟩,(s:ByteArray),_⟩:=xx
 refine(by kernel_rfl:(Jt tk st S O M X Q→(Z54 X∧Kld X∧List.length (List.filter (fun(x:Out)=>Ko x.2.2.1 tk) X)≤1000000∧∀(x:Out),x∈List.filter (fun(x:Out)=>Ko x.2.2.1 tk) X→True)∧List.map (fun(x:Out)=>x.1) (List.filter (fun(x:Out)=>Ko x.2.2.1 tk) X)=Jsp (Z66 tk st S O M X Q) s)=_).mp ?_
 delta Z54 Z66 Jt Kld
 intro hr
 have nX:X.length≤16:=hr.nX
 have:=List.length_filter_le (fun x:Out=>Ko x.2.2.1 tk) X
 exact⟨⟨by omega,fun _ _=>trivial,Nat.le_trans this (by omega),fun _ _=>trivial⟩,rfl⟩
abbrev K2x:=K2y.add Kn1
def Jso:Reg→ByteArray→List ByteArray:=fun(_,_,_,_,_,_,Q) _=>(L2 Q).map fun x=>x.1
def Kqx:Con:=cQ (fun r _=>[Jk r]) Jso
theorem Knx:Ok Tryz.prog 205 Kqx:=okW K2x Tryz.f205 na fun xx=>by
 obtain⟨⟨(tk:Int),(st:Int),(S:List Sta),(O:List Ord),(M:List Met),(X:List Out),(Q:List Per)⟩,(s:ByteArray),_⟩:=xx
 refine(by kernel_rfl:(Jt tk st S O M X Q→Kh2 tk st S O M X Q∧List.map (fun(x:Per)=>x.1) (L2 Q)=Jso (Z66 tk st S O M X Q) s)=_).mp ?_
 delta Z66 Jt Kh2
 intro hr
 have nQ:Q.length≤16:=hr.nQ
 have:=Jdj (Q:=Q)
 exact⟨⟨hr,by omega,fun _ _=>trivial⟩,rfl⟩
abbrev K2w:=K2x.add Knx
def Jeg:Reg→ByteArray→List ByteArray:=fun(_,st,_) _=>[Vh st]
def Ka5:Con:=cQ (fun r _=>[Jk r]) Jeg
theorem Knt:Ok Tryz.prog 209 Ka5:=okW K2w Tryz.f209 na fun xx=>by
 obtain⟨⟨(tk:Int),(st:Int),(S:List Sta),(O:List Ord),(M:List Met),(X:List Out),(Q:List Per)⟩,(s:ByteArray),_⟩:=xx
 refine(by kernel_rfl:(Jt tk st S O M X Q→Iw st∧[Vh st]=Jeg (Z66 tk st S O M X Q) s)=_).mp ?_
 delta Z66 Jt Iw
 intro hr
 have h1:0≤st∧st≤tk:=hr.st
 have h2:0≤tk∧tk≤999999999:=hr.tk
 exact⟨⟨by omega,by omega⟩,rfl⟩
abbrev K1i:=K2w.add Knt
end Go.Proofs.YtcibbcfiemeoiaaGreatDoor
namespace Go.Proofs.Tryz
open Go.Proofs.YtcibbcfiemeoiaaGreatDoor
def questU:List (ByteArray×Bool×Int×Option Nat):=[(⟨⟨[98,97,108,97,110,99,101]⟩⟩,true,0,some 195),(⟨⟨[114,97,116,101]⟩⟩,true,0,some 196),(⟨⟨[98,105,108,108]⟩⟩,true,1,some 197),(⟨⟨[109,105,115,115,105,110,103]⟩⟩,false,1,some 200),(⟨⟨[111,117,116,97,103,101,115]⟩⟩,false,2,some 201),(⟨⟨[112,101,114,109,105,116,115]⟩⟩,false,3,some 205),(⟨⟨[115,101,116,116,108,101,100]⟩⟩,false,0,some 209)]
end Go.Proofs.Tryz
namespace Go.Proofs.YtcibbcfiemeoiaaGreatDoor
open Go.Sx
set_option maxHeartbeats 20000000
abbrev Ue:ByteArray:=⟨⟨[98,97,108,97,110,99,101]⟩⟩
abbrev Hr:ByteArray:=⟨⟨[114,97,116,101]⟩⟩
abbrev Hs:ByteArray:=⟨⟨[98,105,108,108]⟩⟩
abbrev K8:ByteArray:=⟨⟨[109,105,115,115,105,110,103]⟩⟩
abbrev Ud:ByteArray:=⟨⟨[111,117,116,97,103,101,115]⟩⟩
abbrev Uc:ByteArray:=⟨⟨[112,101,114,109,105,116,115]⟩⟩
abbrev Ub:ByteArray:=⟨⟨[115,101,116,116,108,101,100]⟩⟩
structure NmR (r:Reg):Prop where
 o:∀x∈r.2.2.2.1,x.1.size≤24
 x:∀x∈r.2.2.2.2.2.1,x.1.size≤24
 q:∀x∈r.2.2.2.2.2.2,x.1.size≤24
def D8 (h:Kn):Prop:=∀r∈h.2.2,NmR r
theorem J34 {e:Ev} (h:Jb e=0) (i:Nat):(e.2.2.1.getD i Ja).size≤24:=by
 by_cases hi:i<e.2.2.1.length
 ·exact Jo9 ((Uj h).name _ (Jc hi))
 ·rw[List.getD_eq_getElem?_getD,List.getElem?_eq_none (by omega)]
  decide
theorem Jau {α:Type} {p:α→Prop} {l:List α} {d:α} (h:∀x∈l,p x) (hd:p d) (i:Nat):p (l.getD i d):=by
 by_cases hi:i<l.length
 ·exact h _ (Jc hi)
 ·rw[List.getD_eq_getElem?_getD,List.getElem?_eq_none (by omega)]
  exact hd
theorem J3l {r:Reg} {e:Ev} (hr:NmR r) (hc:Jb e=0):NmR (Jp r e):=by
 have hn:=J34 hc
 obtain⟨tk,st,S,O,M,X,Q⟩:=r
 obtain⟨n,k,ns,vs,tx⟩:=e
 have ho:∀x∈O,x.1.size≤24:=hr.o
 have hx:∀x∈X,x.1.size≤24:=hr.x
 have hq:∀x∈Q,x.1.size≤24:=hr.q
 have hO:∀s,(Xy O s).1.size≤24:=fun s=>Jau (p:=fun x:Ord=>x.1.size≤24) ho (by decide) _
 have hX:∀s,(L1 X s).1.size≤24:=fun s=>Jau (p:=fun x:Out=>x.1.size≤24) hx (by decide) _
 have hQ:∀s,(Jmf Q s).1.size≤24:=fun s=>Jau (p:=fun x:Per=>x.1.size≤24) hq (by decide) _
 unfold Jp doS
 split
 all_goals refine⟨fun y hy=> ?_,fun y hy=> ?_,fun y hy=> ?_⟩
 all_goals first|exact ho y hy|exact hx y hy|exact hq y hy|(rcases Yf hy with h|h;(first|exact ho y h|exact hx y h|exact hq y h);rw[h];exact hn 0)|(rcases Jbo hy with h|h;rw[h];(first|exact hO _|exact hX _|exact hQ _);(first|exact ho y h|exact hx y h|exact hq y h))
theorem Krw {h:Kn} {e:Ev} (hN:D8 h) (ha:Uk h e=0):D8 (D1 h e):=by
 obtain⟨hc,hacc⟩:=add_zero ha
 obtain⟨E,C,G⟩:=h
 have h0:NmR (Kc G):=by
  unfold Kc
  exact Jau (p:=NmR) hN ⟨fun x h=>(by cases h),fun x h=>(by cases h),fun x h=>(by cases h)⟩ _
 cases hk:e.2.1.toList==Jz.toList with
 |true=>
  unfold D1
  rw[hk,cond_true]
  exact fun r hr=>hN r (List.mem_of_mem_take hr)
 |false=>
  unfold D1
  rw[hk,cond_false]
  intro r hr
  rcases Yf hr with hr|rfl
  ·exact hN r hr
  ·exact J3l h0 hc
theorem Jes {h:Kn} (hN:D8 h):NmR (Kc h.2.2):=by
 unfold Kc
 exact Jau (p:=NmR) hN ⟨fun x h=>(by cases h),fun x h=>(by cases h),fun x h=>(by cases h)⟩ _
theorem J4h:D8 Zx:=fun r h=>by cases h
abbrev K1o:Sch:= .prod .bool (.prod sI .fnc)
abbrev Qst:=Bool×Int×Option Nat
def Jef:List (ByteArray×Qst):=Tryz.questU
def J2j:Jme:={kT:=9,gk:=false,gv:=true,ks:= .str,vs:=K1o,l:=Jef}
theorem Kmr:wpFM Tryz.prog K1i.g (na ()) (fun _=>na ()) (Sx.look ([]:List (Nat×Func))) Tryz.f118 J2j:=by
 refine(by kernel_rfl:(Khr∧Sf true ([(Ue,true,0,some 195),(Hr,true,0,some 196),(Hs,true,1,some 197),(K8,false,1,some 200),(Ud,false,2,some 201),(Uc,false,3,some 205),(Ub,false,0,some 209)]=Jef))=_).mp ?_
 delta Khr Sf Lb Ue Hs K8 Ud Uc Hr Ub
 exact⟨⟨fun _ _=>rfl,fun _=>rfl⟩,rfl,rfl⟩
theorem J31:Ok Tryz.prog 118 (Jme.con J2j):=J15 (Jlc mixed K1i.ok (by kernel_rfl) (by kernel_rfl) (U6 (l:=([]:List (Nat×Func))) (by simp)) (na ()) (fun _=>na ()) Kmr)
abbrev K7d:=K1i.add J31
def J4u:Jme:={kT:=9,gk:=false,gv:=true,ks:= .str,vs:=K1o,l:=Tryz.questU}
theorem Kak:Ok Tryz.prog 118 (Jme.con J4u):=J31
abbrev Jyo:=K7d.add Kak
def Jcj (k:ByteArray):Qst:=(Uh .str k Jef).getD (false,0,none)
def Jha (k:ByteArray):Bool:=(Uh .str k Jef).isSome
def Kqe:ByteArray:=⟨⟨[110,111,110,101]⟩⟩
def Jmh (l:List ByteArray):ByteArray:=bif (l.length:Int)==0 then Kqe else Vq l ⟨⟨[32]⟩⟩
def Jgu (named:Bool) (what:Int) (f:Reg→ByteArray→List ByteArray) (r:Reg) (ws:List ByteArray):ByteArray×Int:=
 bif named then(bif (ws.length:Int)==2 then(bif (ws.getD 1 Ja).toList==Ja.toList then(Ja,25) else bif !Vf r what (ws.getD 1 Ja) then(Ja,10) else(Jmh (f r (ws.getD 1 Ja)),0)) else(Ja,25))
 else bif (ws.length:Int) !=1 then(Ja,25) else(Jmh (f r Ja),0)
def X8 (r:Reg) (ws:List ByteArray):ByteArray×Int:=match(Jcj (ws.getD 0 Ja)).2.2 with
 |some 195=>Jgu true 0 Jub r ws
 |some 196=>Jgu true 0 Jeh r ws
 |some 197=>Jgu true 1 Jei r ws
 |some 200=>Jgu false 1 Jc1 r ws
 |some 201=>Jgu false 2 Jsp r ws
 |some 205=>Jgu false 3 Jso r ws
 |some 209=>Jgu false 0 Jeg r ws
 |_=>(Ja,0)
structure Jf5 (h:Kn) (ws:List ByteArray):Prop where
 hist:Kd h
 nm:D8 h
 len:1≤ws.length
 key:Jha (ws.getD 0 Ja)=true
 max:ws.length≤1000000
 siz:∀w∈ws,w.size≤1000000
def J0e:Xt:={T? :=none,s:=Jit,args:=[.val false (.list 9 .str)],ress:=[tS,I],pre:=fun h (ws,_)=>[Jf5 h ws],spec:=fun h (ws,_)=>((X8 (Kc h.2.2) ws).1,(X8 (Kc h.2.2) ws).2,()),post:=fun h _=>h}
def SmL (l:List ByteArray):Prop:=l.length≤2000∧∀w∈l,w.size≤40
theorem Kx {l:List ByteArray} (h:SmL l):l.length≤1000000∧(Lib.join (l.map fun x=>x.data.toList) [32]).length≤140737488355328:=by
 refine⟨by have:=h.1;omega,Nat.le_trans (Jjg rfl) ?_⟩
 have:∀l:List ByteArray,(∀w∈l,w.size≤40)→((l.map fun x=>x.data.toList).map fun x=>x.length+1).sum≤41*l.length:=by
  intro l
  induction l with
  |nil=>intro _;simp
  |cons x r ih=>
   intro h
   have h1:=ih fun w hw=>h w (List.mem_cons_of_mem _ hw)
   have h2:x.data.toList.length≤40:=h x (List.mem_cons_self ..)
   simp only[List.map_cons,List.sum_cons,List.length_cons]
   omega
 have h1:=this l h.2
 have h2:=h.1
 omega
theorem Jin {l:List Int} (h:l.length≤2000) (hb:∀n∈l,-9223372036854775808≤n∧n≤9223372036854775807):SmL (l.map Vh):=by
 refine⟨by simpa using h,fun w hw=> ?_⟩
 obtain⟨n,hn,rfl⟩:=List.mem_map.1 hw
 exact Jar n (hb n hn).1 (hb n hn).2
theorem Jov {r:Reg} (hr:Jk r) (s:ByteArray):SmL (Jub r s):=by
 obtain⟨tk,st,S,O,M,X,Q⟩:=r
 have hb:=Jwm (s:=s) hr
 exact Jin (l:=[Jwn st S O M s]) (by simp) fun n hn=>by rw[List.mem_singleton.1 hn];omega
theorem Jip {r:Reg} (hr:Jk r) {s:ByteArray} (h:0≤Jx r.2.2.1 s):SmL (Jeh r s):=by
 obtain⟨tk,st,S,O,M,X,Q⟩:=r
 have hs:0≤(Hl S s).2.2∧(Hl S s).2.2≤1000:=(Jil hr.sta h).pri
 exact Jin (l:=[(Hl S s).2.2]) (by simp) fun n hn=>by rw[List.mem_singleton.1 hn];omega
theorem Jir {r:Reg} (hr:Jk r) {s:ByteArray} (h:0≤Ku r.2.2.2.1 s):SmL (Jei r s):=by
 obtain⟨tk,st,S,O,M,X,Q⟩:=r
 have hb:=Ja4 hr (Jbn h)
 have b1:=hb.hours
 have b2:=hb.sent
 have b3:=hb.got
 have b4:=hb.money
 have b5:=hb.fine
 refine Jin (l:=[(Un st M (Xy O s)).2.1,(Un st M (Xy O s)).2.2.1,(Un st M (Xy O s)).2.2.2.1,(Un st M (Xy O s)).2.2.2.2.1,(Un st M (Xy O s)).2.2.2.2.2]) (by simp) fun n hn=> ?_
 simp only[List.mem_cons,List.not_mem_nil,or_false] at hn
 rcases hn with rfl|rfl|rfl|rfl|rfl<;>omega
theorem Ji7:∀{l:List Gap} {o:List ByteArray},(∀g∈l,g.1.size≤40∧0≤g.2∧g.2≤999999999)→o.length≤514→(∀w∈o,w.size≤40)→SmL (Jc4 l o)
 |[],o,_,h1,h2=>⟨by unfold Jc4;omega,h2⟩
 | g :: l, o, h, h1, h2 => by
  unfold Jc4
  have hg:=h g (List.mem_cons_self ..)
  have h':∀x∈l,x.1.size≤40∧0≤x.2∧x.2≤999999999:=fun x hx=>h x (List.mem_cons_of_mem _ hx)
  cases hd:decide ((o.length:Int)<512) with
  |false=>exact Ji7 h' h1 h2
  |true=>
   have hd:=of_decide_eq_true hd
   rw[cond_true]
   refine Ji7 h' (by rw[List.length_append,List.length_cons,List.length_cons,List.length_nil];omega) fun w hw=> ?_
   simp only[List.mem_append,List.mem_cons,List.not_mem_nil,or_false] at hw
   rcases hw with hw|rfl|rfl
   ·exact h2 w hw
   ·exact hg.1
   ·exact Jar _ (by omega) (by omega)
theorem Jpb {M:List Met} {u:Int} {x:Ord}:∀(n:Nat) (h:Int),∀g∈L3 M u x h n,g.1=x.1
 |0,_,g,hg=>by cases hg
 | n + 1, h, g, hg => by
  unfold L3 at hg
  rcases List.mem_append.1 hg with hg|hg
  ·cases hb:J2 x h&&(decide (h<u)&&decide (K2 M x.1 h<0)) with
   |false=>rw[hb] at hg;cases hg
   |true=>
    rw[hb,cond_true] at hg
    rw[List.mem_singleton.1 hg]
  ·exact Jpb n (h+1) g hg
theorem Jpa {M:List Met} {u:Int}:∀{O:List Ord},(∀x∈O,x.1.size≤24)→∀g∈Ke M u O,g.1.size≤24
 |[],_,g,hg=>by cases hg
 | x :: l, h, g, hg => by
  unfold Ke at hg
  rcases List.mem_append.1 hg with hg|hg
  ·rw[Jpb _ _ g hg]
   exact h x (List.mem_cons_self ..)
  ·exact Jpa (fun y hy=>h y (List.mem_cons_of_mem _ hy)) g hg
theorem Jiq {r:Reg} (hr:Jk r) (hN:NmR r) (s:ByteArray):SmL (Jc1 r s):=by
 obtain⟨tk,st,S,O,M,X,Q⟩:=r
 refine Ji7 (fun g hg=>⟨?_,Ji8 hr.ord g hg⟩) (by decide) fun w hw=>by cases hw
 have:=Jpa hN.o g hg
 omega
theorem Jou {r:Reg} (hr:Jk r) (hN:NmR r) (s:ByteArray):SmL (Jsp r s):=by
 obtain⟨tk,st,S,O,M,X,Q⟩:=r
 have nX:X.length≤16:=hr.nX
 have:=List.length_filter_le (fun x:Out=>Ko x.2.2.1 tk) X
 refine⟨by unfold Jsp;rw[List.length_map];omega,fun w hw=> ?_⟩
 obtain⟨x,hx,rfl⟩:=List.mem_map.1 hw
 have:=hN.x x (List.mem_filter.1 hx).1
 omega
theorem Jot {r:Reg} (hr:Jk r) (hN:NmR r) (s:ByteArray):SmL (Jso r s):=by
 obtain⟨tk,st,S,O,M,X,Q⟩:=r
 have nQ:Q.length≤16:=hr.nQ
 have:=Jdj (Q:=Q)
 refine⟨by unfold Jso;rw[List.length_map];omega,fun w hw=> ?_⟩
 obtain⟨x,hx,rfl⟩:=List.mem_map.1 hw
 have:=hN.q x (List.mem_filter.1 hx).1
 omega
theorem Jio {r:Reg} (hr:Jk r) (s:ByteArray):SmL (Jeg r s):=by
 obtain⟨tk,st,S,O,M,X,Q⟩:=r
 have h1:0≤st∧st≤tk:=hr.st
 have h2:0≤tk∧tk≤999999999:=hr.tk
 exact Jin (l:=[st]) (by simp) fun n hn=>by rw[List.mem_singleton.1 hn];omega
theorem Jer (G:List Reg):(decide (0<(G.length:Int))=true∧Kc G=G.getD ((G.length:Int)-1).toNat U0)∨(decide (0<(G.length:Int))=false∧Kc G=U0):=by
 cases h:decide (0<(G.length:Int)) with
 |true=>exact .inl ⟨rfl,by unfold Kc;congr 1;omega⟩
 |false=>exact .inr ⟨rfl,Km h⟩
theorem Jrl:Jcj Ue=(true,0,some 195):=by kernel_rfl
theorem Joa (r:Reg) (ws:List ByteArray):X8 r (Ue::ws)=Jgu true 0 Jub r (Ue::ws):=by
 have:(Ue::ws).getD 0 Ja=Ue:=rfl
 unfold X8
 rw[this,Jrl]
 rfl
def Z80 (a:List Reg) (b:Ls):=(X8 (Kc a) (Ue::b)).1
def Klu (a:Ls):=Ln (Ue::a)==2
def J9n (a:List Reg) (b:Ls):=0=(X8 (Kc a) (Ue::b)).2
def J9j:=1≤1000000∧1≤140737488355328
def Jqg (a:Ls):= !Lb (Z87 a) B0
def Jmi:=ByteArray.mk (Array.mk [110,111,110,101])
def Ket (a:Ls):=Jub Vs (Z87 a)
def Kv1 (a:TypeId) (b c:List Ev) (d:List Reg) (e:Ls):=Sf true (Sf a (Sf (b,c,d) (B0=Z80 d e∧25=(X8 (Kc d) (Ue::e)).2)))
def Kds (a:TypeId) (b c:List Ev) (d:List Reg) (e:Ls):=Sf true (Sf a (Sf (b,c,d) (B0=Z80 d e∧10=(X8 (Kc d) (Ue::e)).2)))
def Kdh (a:TypeId) (b c:List Ev) (d:List Reg) (e:Ls):=Sf true (Sf a (Sf (b,c,d) (Jmi=Z80 d e∧J9n d e)))
def Kc8 (a:List Reg):=Jub (Yc a) B0
def Kc1 (a:List Reg) (b:Ls):=Jub (Yc a) (Z87 b)
def J1o (a:List Reg):=bif true then !Vf (Yc a) 0 B0 else false
theorem Jid (T:TypeId) (E C:List Ev) (G:List Reg) (ws:List ByteArray):wpFO Tryz.prog Jyo.g (na ()) (fun _=>na ()) (Sx.look ([(75,Tryz.f75)]:List (Nat×Func))) Tryz.f119 J0e T (E,C,G) (Ue::ws,()):=by
 refine(by kernel_rfl:(Jf5 (E,C,G) (Ue::ws)→Tw (Bd 0 (Ln (Ue::ws)))∧Br (bif true then Klu ws else false) (Tw (Bd 1 (Ln (Ue::ws)))∧Br (bif !true==bif Klu ws then Jqg ws else false then true else false) (Kv1 T E C G ws) (Br (V2 G) (V1 G∧Jdq G∧Br (Jsh G ws) (Kds T E C G ws) (Yz G∧Br (Ln (Kc1 G ws)==0) (Kdh T E C G ws) ((List.length (Kc1 G ws)≤1000000∧List.length (Lib.join (List.map (fun(x:ByteArray)=>Z11 x) (Kc1 G ws)) [32])≤140737488355328)∧Sf true (Sf T (Sf (E,C,G) (Vq (Kc1 G ws) Hp=Z80 G ws∧J9n G ws)))))) (Jdu∧Br (J8i ws) (Kds T E C G ws) (Yr∧Br (Ln (Ket ws)==0) (Kdh T E C G ws) ((List.length (Ket ws)≤1000000∧List.length (Lib.join (List.map (fun(x:ByteArray)=>Z11 x) (Ket ws)) [32])≤140737488355328)∧Sf true (Sf T (Sf (E,C,G) (Vq (Ket ws) Hp=Z80 G ws∧J9n G ws)))))))) (Br (bif !true==bif Klu ws then false else false then true else false) (Kv1 T E C G ws) (Br (V2 G) (V1 G∧Jdq G∧Br (J1o G) (Kds T E C G ws) (Yz G∧Br (Ln (Kc8 G)==0) (Kdh T E C G ws) ((List.length (Kc8 G)≤1000000∧List.length (Lib.join (List.map (fun(x:ByteArray)=>Z11 x) (Kc8 G)) [32])≤140737488355328)∧Sf true (Sf T (Sf (E,C,G) (Vq (Kc8 G) Hp=Z80 G ws∧J9n G ws)))))) (Jdu∧Br true (Kds T E C G ws) (Yr∧Br false (Kdh T E C G ws) (J9j∧Sf true (Sf T (Sf (E,C,G) (Vq (Jub Vs B0) Hp=Z80 G ws∧J9n G ws)))))))))=_).mp ?_
 delta Z11 Z80 Z87 V2 Hp Klu J9n J9j Jqg Jmi L9 Vs V1 Yr Jdu D6 D5 Ket Jac Ft Ho Hn L8 Zv J2w J8i Kv1 Kds Kdh Fs Yc Yz Kc8 Jdq Kc1 J2s J1o Jsh Br Iw Bd Tw Sf Ln Gt B0 Lb E2 Ue
 intro ha
 obtain⟨hh,hn,-,-,hmax,hsz⟩:=ha
 have hr:Jk (Kc G):=X0 hh
 have hN:NmR (Kc G):=Jes hn
 have hG:G.length≤1000:=by have:=hh.nE;have:=hh.nC;have:=hh.nG;dsimp only at*;omega
 rw[Joa]
 have hbn:({data:={toList:=[]}}:ByteArray)=Ja:=rfl
 have hl:((Ue::ws).length:Int)=(ws.length:Int)+1:=by simp
 have ha1:(Ue::ws).getD 1 Ja=ws.getD 0 Ja:=rfl
 have hz:((0:Int),(0:Int),([]:List Sta),([]:List Ord),([]:List Met),([]:List Out),([]:List Per))=U0:=rfl
 simp only[hbn,hz,hl,Prod.eta,Jgu,ha1]
 rcases Jer G with⟨hd,e0⟩|⟨hd,e0⟩
 ·rw[e0] at hr hN⊢
  have hp:=of_decide_eq_true hd
  rw[hd]
  generalize G.getD ((G.length:Int)-1).toNat U0=r at hr hN⊢
  cases h2:(ws.length:Int)+1==2
  all_goals cases h3:(ws.getD 0 Ja).toList==Ja.toList
  all_goals cases h4:Vf r 0 (ws.getD 0 Ja)
  all_goals cases h5:(((Jub r (ws.getD 0 Ja)).length:Int)==0)
  all_goals simp only[h2,h3,h4,h5,bne,Jmh,Bool.not_true,Bool.not_false,cond_true,cond_false,BEq.rfl,Bool.true_beq,Bool.false_beq,reduceCtorEq,false_implies,forall_const,true_and,and_true,and_self]
  all_goals repeat' apply And.intro
  all_goals first|omega|(have:=eq_of_beq h2;omega)|exact hr|exact(Kx (Jov hr _)).1|exact(Kx (Jov hr _)).2|rfl|(have:=h4;simpa[Vf] using this)|skip
 ·rw[e0] at hr hN⊢
  rw[hd]
  cases h2:(ws.length:Int)+1==2
  all_goals cases h3:(ws.getD 0 Ja).toList==Ja.toList
  all_goals cases h4:Vf U0 0 (ws.getD 0 Ja)
  all_goals cases h5:(((Jub U0 (ws.getD 0 Ja)).length:Int)==0)
  all_goals simp only[h2,h3,h4,h5,bne,Jmh,Bool.not_true,Bool.not_false,cond_true,cond_false,BEq.rfl,Bool.true_beq,Bool.false_beq,reduceCtorEq,false_implies,forall_const,true_and,and_true,and_self]
  all_goals repeat' apply And.intro
  all_goals first|omega|(have:=eq_of_beq h2;omega)|exact hr|exact(Kx (Jov hr _)).1|exact(Kx (Jov hr _)).2|rfl|(have:=h4;simpa[Vf,U0] using this)|exact nomatch (show true=false from h5)|exact nomatch (show false=true from h5)
theorem J3v:Jcj Hr=(true,0,some 196):=by kernel_rfl
theorem J0j (r:Reg) (ws:List ByteArray):X8 r (Hr::ws)=Jgu true 0 Jeh r (Hr::ws):=by
 have:(Hr::ws).getD 0 Ja=Hr:=rfl
 unfold X8
 rw[this,J3v]
 rfl
def Z51 (a:List Reg) (b:Ls):=(X8 (Kc a) (Hr::b)).1
def Kly (a:Ls):=Ln (Hr::a)==2
def J9u (a:List Reg) (b:Ls):=0=(X8 (Kc a) (Hr::b)).2
def Keo (a:Ls):=Jeh Vs (Z87 a)
def Kdz (a:TypeId) (b c:List Ev) (d:List Reg) (e:Ls):=Sf true (Sf a (Sf (b,c,d) (B0=Z51 d e∧10=(X8 (Kc d) (Hr::e)).2)))
def Kv9 (a:TypeId) (b c:List Ev) (d:List Reg) (e:Ls):=Sf true (Sf a (Sf (b,c,d) (B0=Z51 d e∧25=(X8 (Kc d) (Hr::e)).2)))
def Kdm (a:TypeId) (b c:List Ev) (d:List Reg) (e:Ls):=Sf true (Sf a (Sf (b,c,d) (Jmi=Z51 d e∧J9u d e)))
def Kc2 (a:List Reg):=Jeh (Yc a) B0
def Kcy (a:List Reg) (b:Ls):=Jeh (Yc a) (Z87 b)
theorem Jq2 (T:TypeId) (E C:List Ev) (G:List Reg) (ws:List ByteArray):wpFO Tryz.prog Jyo.g (na ()) (fun _=>na ()) (Sx.look ([(75,Tryz.f75)]:List (Nat×Func))) Tryz.f119 J0e T (E,C,G) (Hr::ws,()):=by
 refine(by kernel_rfl:(Jf5 (E,C,G) (Hr::ws)→Tw (Bd 0 (Ln (Hr::ws)))∧Br (bif true then Kly ws else false) (Tw (Bd 1 (Ln (Hr::ws)))∧Br (bif !true==bif Kly ws then Jqg ws else false then true else false) (Kv9 T E C G ws) (Br (V2 G) (V1 G∧Jdq G∧Br (Jsh G ws) (Kdz T E C G ws) ((Yz G∧0≤Jx (Ho G).1 (Z87 ws))∧Br (Ln (Kcy G ws)==0) (Kdm T E C G ws) ((List.length (Kcy G ws)≤1000000∧List.length (Lib.join (List.map (fun(x:ByteArray)=>Z11 x) (Kcy G ws)) [32])≤140737488355328)∧Sf true (Sf T (Sf (E,C,G) (Vq (Kcy G ws) Hp=Z51 G ws∧J9u G ws)))))) (Jdu∧Br (J8i ws) (Kdz T E C G ws) ((Yr∧0≤Jx [] (Z87 ws))∧Br (Ln (Keo ws)==0) (Kdm T E C G ws) ((List.length (Keo ws)≤1000000∧List.length (Lib.join (List.map (fun(x:ByteArray)=>Z11 x) (Keo ws)) [32])≤140737488355328)∧Sf true (Sf T (Sf (E,C,G) (Vq (Keo ws) Hp=Z51 G ws∧J9u G ws)))))))) (Br (bif !true==bif Kly ws then false else false then true else false) (Kv9 T E C G ws) (Br (V2 G) (V1 G∧Jdq G∧Br (J1o G) (Kdz T E C G ws) ((Yz G∧0≤Jx (Ho G).1 B0)∧Br (Ln (Kc2 G)==0) (Kdm T E C G ws) ((List.length (Kc2 G)≤1000000∧List.length (Lib.join (List.map (fun(x:ByteArray)=>Z11 x) (Kc2 G)) [32])≤140737488355328)∧Sf true (Sf T (Sf (E,C,G) (Vq (Kc2 G) Hp=Z51 G ws∧J9u G ws)))))) (Jdu∧Br true (Kdz T E C G ws) ((Yr∧0≤Jx [] B0)∧Br false (Kdm T E C G ws) (J9j∧Sf true (Sf T (Sf (E,C,G) (Vq (Jeh Vs B0) Hp=Z51 G ws∧J9u G ws)))))))))=_).mp ?_
 delta Z11 Z51 Z87 V2 Kly Hp J9u J9j Jqg Jmi L9 Vs V1 Yr Jdu D6 D5 Jac Keo Ft Ho Hn L8 Zv J2w J8i Kdz Kv9 Kdm Fs Yc Yz Kc2 Jdq Kcy J2s J1o Jsh Br Iw Bd Tw Sf Ln Gt B0 Lb E2 Hr
 intro ha
 obtain⟨hh,hn,-,-,hmax,hsz⟩:=ha
 have hr:Jk (Kc G):=X0 hh
 have hN:NmR (Kc G):=Jes hn
 have hG:G.length≤1000:=by have:=hh.nE;have:=hh.nC;have:=hh.nG;dsimp only at*;omega
 rw[J0j]
 have hbn:({data:={toList:=[]}}:ByteArray)=Ja:=rfl
 have hl:((Hr::ws).length:Int)=(ws.length:Int)+1:=by simp
 have ha1:(Hr::ws).getD 1 Ja=ws.getD 0 Ja:=rfl
 have hz:((0:Int),(0:Int),([]:List Sta),([]:List Ord),([]:List Met),([]:List Out),([]:List Per))=U0:=rfl
 simp only[hbn,hz,hl,Prod.eta,Jgu,ha1]
 rcases Jer G with⟨hd,e0⟩|⟨hd,e0⟩
 ·rw[e0] at hr hN⊢
  have hp:=of_decide_eq_true hd
  rw[hd]
  generalize G.getD ((G.length:Int)-1).toNat U0=r at hr hN⊢
  cases h2:(ws.length:Int)+1==2
  all_goals cases h3:(ws.getD 0 Ja).toList==Ja.toList
  all_goals cases h4:Vf r 0 (ws.getD 0 Ja)
  all_goals cases h5:(((Jeh r (ws.getD 0 Ja)).length:Int)==0)
  all_goals simp only[h2,h3,h4,h5,bne,Jmh,Bool.not_true,Bool.not_false,cond_true,cond_false,BEq.rfl,Bool.true_beq,Bool.false_beq,reduceCtorEq,false_implies,forall_const,true_and,and_true,and_self]
  all_goals repeat' apply And.intro
  all_goals first|omega|(have:=eq_of_beq h2;omega)|exact hr|exact(Kx (Jip hr (by have:=h4;simpa[Vf,U0] using this))).1|exact(Kx (Jip hr (by have:=h4;simpa[Vf,U0] using this))).2|rfl|(have:=h4;simpa[Vf] using this)|skip
 ·rw[e0] at hr hN⊢
  rw[hd]
  cases h2:(ws.length:Int)+1==2
  all_goals cases h3:(ws.getD 0 Ja).toList==Ja.toList
  all_goals cases h4:Vf U0 0 (ws.getD 0 Ja)
  all_goals cases h5:(((Jeh U0 (ws.getD 0 Ja)).length:Int)==0)
  all_goals simp only[h2,h3,h4,h5,bne,Jmh,Bool.not_true,Bool.not_false,cond_true,cond_false,BEq.rfl,Bool.true_beq,Bool.false_beq,reduceCtorEq,false_implies,forall_const,true_and,and_true,and_self]
  all_goals repeat' apply And.intro
  all_goals first|omega|(have:=eq_of_beq h2;omega)|exact hr|exact(Kx (Jip hr (by have:=h4;simpa[Vf,U0] using this))).1|exact(Kx (Jip hr (by have:=h4;simpa[Vf,U0] using this))).2|rfl|(have:=h4;simpa[Vf,U0] using this)|exact nomatch (show true=false from h5)|exact nomatch (show false=true from h5)
theorem J3w:Jcj Hs=(true,1,some 197):=by kernel_rfl
theorem J0k (r:Reg) (ws:List ByteArray):X8 r (Hs::ws)=Jgu true 1 Jei r (Hs::ws):=by
 have:(Hs::ws).getD 0 Ja=Hs:=rfl
 unfold X8
 rw[this,J3w]
 rfl
def Z46 (a:List Reg) (b:Ls):=(X8 (Kc a) (Hs::b)).1
def Klz (a:Ls):=Ln (Hs::a)==2
def J9v (a:List Reg) (b:Ls):=0=(X8 (Kc a) (Hs::b)).2
def Kep (a:Ls):=Jei Vs (Z87 a)
def Kwa (a:TypeId) (b c:List Ev) (d:List Reg) (e:Ls):=Sf true (Sf a (Sf (b,c,d) (B0=Z46 d e∧25=(X8 (Kc d) (Hs::e)).2)))
def Kdy (a:TypeId) (b c:List Ev) (d:List Reg) (e:Ls):=Sf true (Sf a (Sf (b,c,d) (B0=Z46 d e∧10=(X8 (Kc d) (Hs::e)).2)))
def Kdl (a:TypeId) (b c:List Ev) (d:List Reg) (e:Ls):=Sf true (Sf a (Sf (b,c,d) (Jmi=Z46 d e∧J9v d e)))
def Kc3 (a:List Reg):=Jei (Yc a) B0
def Kcw (a:List Reg) (b:Ls):=Jei (Yc a) (Z87 b)
theorem Jq3 (T:TypeId) (E C:List Ev) (G:List Reg) (ws:List ByteArray):wpFO Tryz.prog Jyo.g (na ()) (fun _=>na ()) (Sx.look ([(75,Tryz.f75)]:List (Nat×Func))) Tryz.f119 J0e T (E,C,G) (Hs::ws,()):=by
 refine(by kernel_rfl:(Jf5 (E,C,G) (Hs::ws)→Tw (Bd 0 (Ln (Hs::ws)))∧Br (bif true then Klz ws else false) (Tw (Bd 1 (Ln (Hs::ws)))∧Br (bif !true==bif Klz ws then Jqg ws else false then true else false) (Kwa T E C G ws) (Br (V2 G) (V1 G∧Jdq G∧Br (Jsi G ws) (Kdy T E C G ws) ((Yz G∧0≤Ku (Hn G).1 (Z87 ws))∧Br (Ln (Kcw G ws)==0) (Kdl T E C G ws) ((List.length (Kcw G ws)≤1000000∧List.length (Lib.join (List.map (fun(x:ByteArray)=>Z11 x) (Kcw G ws)) [32])≤140737488355328)∧Sf true (Sf T (Sf (E,C,G) (Vq (Kcw G ws) Hp=Z46 G ws∧J9v G ws)))))) (Jdu∧Br (J8h ws) (Kdy T E C G ws) ((Yr∧0≤Ku [] (Z87 ws))∧Br (Ln (Kep ws)==0) (Kdl T E C G ws) ((List.length (Kep ws)≤1000000∧List.length (Lib.join (List.map (fun(x:ByteArray)=>Z11 x) (Kep ws)) [32])≤140737488355328)∧Sf true (Sf T (Sf (E,C,G) (Vq (Kep ws) Hp=Z46 G ws∧J9v G ws)))))))) (Br (bif !true==bif Klz ws then false else false then true else false) (Kwa T E C G ws) (Br (V2 G) (V1 G∧Jdq G∧Br (bif true then !Vf (Yc G) 1 B0 else false) (Kdy T E C G ws) ((Yz G∧0≤Ku (Hn G).1 B0)∧Br (Ln (Kc3 G)==0) (Kdl T E C G ws) ((List.length (Kc3 G)≤1000000∧List.length (Lib.join (List.map (fun(x:ByteArray)=>Z11 x) (Kc3 G)) [32])≤140737488355328)∧Sf true (Sf T (Sf (E,C,G) (Vq (Kc3 G) Hp=Z46 G ws∧J9v G ws)))))) (Jdu∧Br true (Kdy T E C G ws) ((Yr∧0≤Ku [] B0)∧Br false (Kdl T E C G ws) ((5≤1000000∧9≤140737488355328)∧Sf true (Sf T (Sf (E,C,G) (Vq (Jei Vs B0) Hp=Z46 G ws∧J9v G ws)))))))))=_).mp ?_
 delta Z11 Z46 Z87 V2 Klz Hp J9v Jqg Jmi L9 Vs V1 Yr Jdu D6 D5 Jac Kep Ft Ho Hn L8 Zv J8n J8h Kwa Kdy Kdl Fs Yc Yz Kc3 Jdq Kcw J79 Jsi Br Iw Bd Tw Sf Ln Gt B0 Lb E2 Hs
 intro ha
 obtain⟨hh,hn,-,-,hmax,hsz⟩:=ha
 have hr:Jk (Kc G):=X0 hh
 have hN:NmR (Kc G):=Jes hn
 have hG:G.length≤1000:=by have:=hh.nE;have:=hh.nC;have:=hh.nG;dsimp only at*;omega
 rw[J0k]
 have hbn:({data:={toList:=[]}}:ByteArray)=Ja:=rfl
 have hl:((Hs::ws).length:Int)=(ws.length:Int)+1:=by simp
 have ha1:(Hs::ws).getD 1 Ja=ws.getD 0 Ja:=rfl
 have hz:((0:Int),(0:Int),([]:List Sta),([]:List Ord),([]:List Met),([]:List Out),([]:List Per))=U0:=rfl
 simp only[hbn,hz,hl,Prod.eta,Jgu,ha1]
 rcases Jer G with⟨hd,e0⟩|⟨hd,e0⟩
 ·rw[e0] at hr hN⊢
  have hp:=of_decide_eq_true hd
  rw[hd]
  generalize G.getD ((G.length:Int)-1).toNat U0=r at hr hN⊢
  cases h2:(ws.length:Int)+1==2
  all_goals cases h3:(ws.getD 0 Ja).toList==Ja.toList
  all_goals cases h4:Vf r 1 (ws.getD 0 Ja)
  all_goals cases h5:(((Jei r (ws.getD 0 Ja)).length:Int)==0)
  all_goals simp only[h2,h3,h4,h5,bne,Jmh,Bool.not_true,Bool.not_false,cond_true,cond_false,BEq.rfl,Bool.true_beq,Bool.false_beq,reduceCtorEq,false_implies,forall_const,true_and,and_true,and_self]
  all_goals repeat' apply And.intro
  all_goals first|omega|(have:=eq_of_beq h2;omega)|exact hr|exact(Kx (Jir hr (by have:=h4;simpa[Vf,U0] using this))).1|exact(Kx (Jir hr (by have:=h4;simpa[Vf,U0] using this))).2|rfl|(have:=h4;simpa[Vf] using this)|skip
 ·rw[e0] at hr hN⊢
  rw[hd]
  cases h2:(ws.length:Int)+1==2
  all_goals cases h3:(ws.getD 0 Ja).toList==Ja.toList
  all_goals cases h4:Vf U0 1 (ws.getD 0 Ja)
  all_goals cases h5:(((Jei U0 (ws.getD 0 Ja)).length:Int)==0)
  all_goals simp only[h2,h3,h4,h5,bne,Jmh,Bool.not_true,Bool.not_false,cond_true,cond_false,BEq.rfl,Bool.true_beq,Bool.false_beq,reduceCtorEq,false_implies,forall_const,true_and,and_true,and_self]
  all_goals repeat' apply And.intro
  all_goals first|omega|(have:=eq_of_beq h2;omega)|exact hr|exact(Kx (Jir hr (by have:=h4;simpa[Vf,U0] using this))).1|exact(Kx (Jir hr (by have:=h4;simpa[Vf,U0] using this))).2|rfl|(have:=h4;simpa[Vf,U0] using this)|exact nomatch (show true=false from h5)|exact nomatch (show false=true from h5)
theorem Jrk:Jcj K8=(false,1,some 200):=by kernel_rfl
theorem Jn9 (r:Reg) (ws:List ByteArray):X8 r (K8::ws)=Jgu false 1 Jc1 r (K8::ws):=by
 have:(K8::ws).getD 0 Ja=K8:=rfl
 unfold X8
 rw[this,Jrk]
 rfl
def Z40 (a:Ls):=Ln (K8::a)
def Z76 (a:List Reg) (b:Ls):=(X8 (Kc a) (K8::b)).1
def J9r (a:List Reg) (b:Ls):=0=(X8 (Kc a) (K8::b)).2
def J9k:=0≤1000000∧0≤140737488355328
def Kzd (a:Ls):=bif true then Z40 a !=1 else false
def Keq (a:Ls):=Jc1 Vs (Z87 a)
def Kv0 (a:TypeId) (b c:List Ev) (d:List Reg) (e:Ls):=Sf true (Sf a (Sf (b,c,d) (B0=Z76 d e∧25=(X8 (Kc d) (K8::e)).2)))
def Kdr (a:TypeId) (b c:List Ev) (d:List Reg) (e:Ls):=Sf true (Sf a (Sf (b,c,d) (B0=Z76 d e∧10=(X8 (Kc d) (K8::e)).2)))
def Kdj (a:TypeId) (b c:List Ev) (d:List Reg) (e:Ls):=Sf true (Sf a (Sf (b,c,d) (Jmi=Z76 d e∧J9r d e)))
def Kc4 (a:List Reg):=Jc1 (Yc a) B0
def Kcv (a:List Reg) (b:Ls):=Jc1 (Yc a) (Z87 b)
theorem Jic (T:TypeId) (E C:List Ev) (G:List Reg) (ws:List ByteArray):wpFO Tryz.prog Jyo.g (na ()) (fun _=>na ()) (Sx.look ([(75,Tryz.f75)]:List (Nat×Func))) Tryz.f119 J0e T (E,C,G) (K8::ws,()):=by
 refine(by kernel_rfl:(Jf5 (E,C,G) (K8::ws)→Tw (Bd 0 (Z40 ws))∧Br false (Tw (Bd 1 (Z40 ws))∧Br (bif !false==bif Z40 ws==2 then Jqg ws else false then true else Kzd ws) (Kv0 T E C G ws) (Br (V2 G) (V1 G∧Jb9 G∧Br false (Kdr T E C G ws) (Yz G∧Br (Ln (Kcv G ws)==0) (Kdj T E C G ws) ((List.length (Kcv G ws)≤1000000∧List.length (Lib.join (List.map (fun(x:ByteArray)=>Z11 x) (Kcv G ws)) [32])≤140737488355328)∧Sf true (Sf T (Sf (E,C,G) (Vq (Kcv G ws) Hp=Z76 G ws∧J9r G ws)))))) (Jba∧Br false (Kdr T E C G ws) (Yr∧Br (Ln (Keq ws)==0) (Kdj T E C G ws) ((List.length (Keq ws)≤1000000∧List.length (Lib.join (List.map (fun(x:ByteArray)=>Z11 x) (Keq ws)) [32])≤140737488355328)∧Sf true (Sf T (Sf (E,C,G) (Vq (Keq ws) Hp=Z76 G ws∧J9r G ws)))))))) (Br (bif !false==bif Z40 ws==2 then false else false then true else Kzd ws) (Kv0 T E C G ws) (Br (V2 G) (V1 G∧Jb9 G∧Br false (Kdr T E C G ws) (Yz G∧Br (Ln (Kc4 G)==0) (Kdj T E C G ws) ((List.length (Kc4 G)≤1000000∧List.length (Lib.join (List.map (fun(x:ByteArray)=>Z11 x) (Kc4 G)) [32])≤140737488355328)∧Sf true (Sf T (Sf (E,C,G) (Vq (Kc4 G) Hp=Z76 G ws∧J9r G ws)))))) (Jba∧Br false (Kdr T E C G ws) (Yr∧Br true (Kdj T E C G ws) (J9k∧Sf true (Sf T (Sf (E,C,G) (Vq (Jc1 Vs B0) Hp=Z76 G ws∧J9r G ws)))))))))=_).mp ?_
 delta Z11 Z40 Z76 Z87 V2 Hp J9r J9k Jqg Jmi L9 Vs V1 Yr Jba Kzd D6 D5 Jac Keq Ft Ho Hn L8 Zv Kv0 Kdr Kdj Fs Yc Yz Kc4 Jb9 Kcv Br Iw Bd Tw Sf Ln Gt B0 Lb E2 K8
 intro ha
 obtain⟨hh,hn,-,-,hmax,hsz⟩:=ha
 have hr:Jk (Kc G):=X0 hh
 have hN:NmR (Kc G):=Jes hn
 have hG:G.length≤1000:=by have:=hh.nE;have:=hh.nC;have:=hh.nG;dsimp only at*;omega
 rw[Jn9]
 have hbn:({data:={toList:=[]}}:ByteArray)=Ja:=rfl
 have hl:((K8::ws).length:Int)=(ws.length:Int)+1:=by simp
 have ha1:(K8::ws).getD 1 Ja=ws.getD 0 Ja:=rfl
 have hz:((0:Int),(0:Int),([]:List Sta),([]:List Ord),([]:List Met),([]:List Out),([]:List Per))=U0:=rfl
 simp only[hbn,hz,hl,Prod.eta,Jgu,ha1]
 rcases Jer G with⟨hd,e0⟩|⟨hd,e0⟩
 ·rw[e0] at hr hN⊢
  have hp:=of_decide_eq_true hd
  rw[hd]
  generalize G.getD ((G.length:Int)-1).toNat U0=r at hr hN⊢
  cases h2:(ws.length:Int)+1==1
  all_goals cases h6:(ws.length:Int)+1==2
  all_goals cases h3:(ws.getD 0 Ja).toList==Ja.toList
  all_goals cases h5:(((Jc1 r Ja).length:Int)==0)
  all_goals simp only[h2,h3,h5,h6,bne,Jmh,Bool.not_true,Bool.not_false,cond_true,cond_false,BEq.rfl,Bool.true_beq,Bool.false_beq,reduceCtorEq,false_implies,forall_const,true_and,and_true,and_self]
  all_goals repeat' apply And.intro
  all_goals first|omega|(have:=eq_of_beq h2;omega)|exact hr|exact(Kx (Jiq hr hN _)).1|exact(Kx (Jiq hr hN _)).2|rfl|(have:=h4;simpa[Vf] using this)|skip
 ·rw[e0] at hr hN⊢
  rw[hd]
  cases h2:(ws.length:Int)+1==1
  all_goals cases h6:(ws.length:Int)+1==2
  all_goals cases h3:(ws.getD 0 Ja).toList==Ja.toList
  all_goals cases h5:(((Jc1 U0 Ja).length:Int)==0)
  all_goals simp only[h2,h3,h5,h6,bne,Jmh,Bool.not_true,Bool.not_false,cond_true,cond_false,BEq.rfl,Bool.true_beq,Bool.false_beq,reduceCtorEq,false_implies,forall_const,true_and,and_true,and_self]
  all_goals repeat' apply And.intro
  all_goals first|omega|(have:=eq_of_beq h2;omega)|exact hr|exact(Kx (Jiq hr hN _)).1|exact(Kx (Jiq hr hN _)).2|rfl|(have:=h4;simpa[Vf,U0] using this)|exact nomatch (show true=false from h5)|exact nomatch (show false=true from h5)
theorem Jrj:Jcj Ud=(false,2,some 201):=by kernel_rfl
theorem Jn8 (r:Reg) (ws:List ByteArray):X8 r (Ud::ws)=Jgu false 2 Jsp r (Ud::ws):=by
 have:(Ud::ws).getD 0 Ja=Ud:=rfl
 unfold X8
 rw[this,Jrj]
 rfl
def Z36 (a:Ls):=Ln (Ud::a)
def Z83 (a:List Reg) (b:Ls):=(X8 (Kc a) (Ud::b)).1
def J9o (a:List Reg) (b:Ls):=0=(X8 (Kc a) (Ud::b)).2
def Kzf (a:Ls):=bif true then Z36 a !=1 else false
def Keu (a:Ls):=Jsp Vs (Z87 a)
def Kdv (a:TypeId) (b c:List Ev) (d:List Reg) (e:Ls):=Sf true (Sf a (Sf (b,c,d) (B0=Z83 d e∧10=(X8 (Kc d) (Ud::e)).2)))
def Kvz (a:TypeId) (b c:List Ev) (d:List Reg) (e:Ls):=Sf true (Sf a (Sf (b,c,d) (B0=Z83 d e∧25=(X8 (Kc d) (Ud::e)).2)))
def Kdi (a:TypeId) (b c:List Ev) (d:List Reg) (e:Ls):=Sf true (Sf a (Sf (b,c,d) (Jmi=Z83 d e∧J9o d e)))
def Kc6 (a:List Reg):=Jsp (Yc a) B0
def Kc0 (a:List Reg) (b:Ls):=Jsp (Yc a) (Z87 b)
theorem Jib (T:TypeId) (E C:List Ev) (G:List Reg) (ws:List ByteArray):wpFO Tryz.prog Jyo.g (na ()) (fun _=>na ()) (Sx.look ([(75,Tryz.f75)]:List (Nat×Func))) Tryz.f119 J0e T (E,C,G) (Ud::ws,()):=by
 refine(by kernel_rfl:(Jf5 (E,C,G) (Ud::ws)→Tw (Bd 0 (Z36 ws))∧Br false (Tw (Bd 1 (Z36 ws))∧Br (bif !false==bif Z36 ws==2 then Jqg ws else false then true else Kzf ws) (Kvz T E C G ws) (Br (V2 G) (V1 G∧Jb9 G∧Br false (Kdv T E C G ws) (Yz G∧Br (Ln (Kc0 G ws)==0) (Kdi T E C G ws) ((List.length (Kc0 G ws)≤1000000∧List.length (Lib.join (List.map (fun(x:ByteArray)=>Z11 x) (Kc0 G ws)) [32])≤140737488355328)∧Sf true (Sf T (Sf (E,C,G) (Vq (Kc0 G ws) Hp=Z83 G ws∧J9o G ws)))))) (Jba∧Br false (Kdv T E C G ws) (Yr∧Br (Ln (Keu ws)==0) (Kdi T E C G ws) ((List.length (Keu ws)≤1000000∧List.length (Lib.join (List.map (fun(x:ByteArray)=>Z11 x) (Keu ws)) [32])≤140737488355328)∧Sf true (Sf T (Sf (E,C,G) (Vq (Keu ws) Hp=Z83 G ws∧J9o G ws)))))))) (Br (bif !false==bif Z36 ws==2 then false else false then true else Kzf ws) (Kvz T E C G ws) (Br (V2 G) (V1 G∧Jb9 G∧Br false (Kdv T E C G ws) (Yz G∧Br (Ln (Kc6 G)==0) (Kdi T E C G ws) ((List.length (Kc6 G)≤1000000∧List.length (Lib.join (List.map (fun(x:ByteArray)=>Z11 x) (Kc6 G)) [32])≤140737488355328)∧Sf true (Sf T (Sf (E,C,G) (Vq (Kc6 G) Hp=Z83 G ws∧J9o G ws)))))) (Jba∧Br false (Kdv T E C G ws) (Yr∧Br true (Kdi T E C G ws) (J9k∧Sf true (Sf T (Sf (E,C,G) (Vq (Jsp Vs B0) Hp=Z83 G ws∧J9o G ws)))))))))=_).mp ?_
 delta Z11 Z36 Z83 Z87 V2 Hp J9o J9k Jqg Jmi L9 Vs V1 Yr Jba Kzf D6 D5 Keu Jac Ft Ho Hn L8 Zv Kdv Kvz Kdi Fs Yc Yz Kc6 Jb9 Kc0 Br Iw Bd Tw Sf Ln Gt B0 Lb E2 Ud
 intro ha
 obtain⟨hh,hn,-,-,hmax,hsz⟩:=ha
 have hr:Jk (Kc G):=X0 hh
 have hN:NmR (Kc G):=Jes hn
 have hG:G.length≤1000:=by have:=hh.nE;have:=hh.nC;have:=hh.nG;dsimp only at*;omega
 rw[Jn8]
 have hbn:({data:={toList:=[]}}:ByteArray)=Ja:=rfl
 have hl:((Ud::ws).length:Int)=(ws.length:Int)+1:=by simp
 have ha1:(Ud::ws).getD 1 Ja=ws.getD 0 Ja:=rfl
 have hz:((0:Int),(0:Int),([]:List Sta),([]:List Ord),([]:List Met),([]:List Out),([]:List Per))=U0:=rfl
 simp only[hbn,hz,hl,Prod.eta,Jgu,ha1]
 rcases Jer G with⟨hd,e0⟩|⟨hd,e0⟩
 ·rw[e0] at hr hN⊢
  have hp:=of_decide_eq_true hd
  rw[hd]
  generalize G.getD ((G.length:Int)-1).toNat U0=r at hr hN⊢
  cases h2:(ws.length:Int)+1==1
  all_goals cases h6:(ws.length:Int)+1==2
  all_goals cases h3:(ws.getD 0 Ja).toList==Ja.toList
  all_goals cases h5:(((Jsp r Ja).length:Int)==0)
  all_goals simp only[h2,h3,h5,h6,bne,Jmh,Bool.not_true,Bool.not_false,cond_true,cond_false,BEq.rfl,Bool.true_beq,Bool.false_beq,reduceCtorEq,false_implies,forall_const,true_and,and_true,and_self]
  all_goals repeat' apply And.intro
  all_goals first|omega|(have:=eq_of_beq h2;omega)|exact hr|exact(Kx (Jou hr hN _)).1|exact(Kx (Jou hr hN _)).2|rfl|(have:=h4;simpa[Vf] using this)|skip
 ·rw[e0] at hr hN⊢
  rw[hd]
  cases h2:(ws.length:Int)+1==1
  all_goals cases h6:(ws.length:Int)+1==2
  all_goals cases h3:(ws.getD 0 Ja).toList==Ja.toList
  all_goals cases h5:(((Jsp U0 Ja).length:Int)==0)
  all_goals simp only[h2,h3,h5,h6,bne,Jmh,Bool.not_true,Bool.not_false,cond_true,cond_false,BEq.rfl,Bool.true_beq,Bool.false_beq,reduceCtorEq,false_implies,forall_const,true_and,and_true,and_self]
  all_goals repeat' apply And.intro
  all_goals first|omega|(have:=eq_of_beq h2;omega)|exact hr|exact(Kx (Jou hr hN _)).1|exact(Kx (Jou hr hN _)).2|rfl|(have:=h4;simpa[Vf,U0] using this)|exact nomatch (show true=false from h5)|exact nomatch (show false=true from h5)
theorem Jri:Jcj Uc=(false,3,some 205):=by kernel_rfl
theorem Jn7 (r:Reg) (ws:List ByteArray):X8 r (Uc::ws)=Jgu false 3 Jso r (Uc::ws):=by
 have:(Uc::ws).getD 0 Ja=Uc:=rfl
 unfold X8
 rw[this,Jri]
 rfl
def Z44 (a:Ls):=Ln (Uc::a)
def Z73 (a:List Reg) (b:Ls):=(X8 (Kc a) (Uc::b)).1
def J9q (a:List Reg) (b:Ls):=0=(X8 (Kc a) (Uc::b)).2
def Kzc (a:Ls):=bif true then Z44 a !=1 else false
def Kev (a:Ls):=Jso Vs (Z87 a)
def Kv3 (a:TypeId) (b c:List Ev) (d:List Reg) (e:Ls):=Sf true (Sf a (Sf (b,c,d) (B0=Z73 d e∧25=(X8 (Kc d) (Uc::e)).2)))
def Kdt (a:TypeId) (b c:List Ev) (d:List Reg) (e:Ls):=Sf true (Sf a (Sf (b,c,d) (B0=Z73 d e∧10=(X8 (Kc d) (Uc::e)).2)))
def Kdg (a:TypeId) (b c:List Ev) (d:List Reg) (e:Ls):=Sf true (Sf a (Sf (b,c,d) (Jmi=Z73 d e∧J9q d e)))
def Kc7 (a:List Reg):=Jso (Yc a) B0
def Kcz (a:List Reg) (b:Ls):=Jso (Yc a) (Z87 b)
theorem Jia (T:TypeId) (E C:List Ev) (G:List Reg) (ws:List ByteArray):wpFO Tryz.prog Jyo.g (na ()) (fun _=>na ()) (Sx.look ([(75,Tryz.f75)]:List (Nat×Func))) Tryz.f119 J0e T (E,C,G) (Uc::ws,()):=by
 refine(by kernel_rfl:(Jf5 (E,C,G) (Uc::ws)→Tw (Bd 0 (Z44 ws))∧Br false (Tw (Bd 1 (Z44 ws))∧Br (bif !false==bif Z44 ws==2 then Jqg ws else false then true else Kzc ws) (Kv3 T E C G ws) (Br (V2 G) (V1 G∧Jb9 G∧Br false (Kdt T E C G ws) (Yz G∧Br (Ln (Kcz G ws)==0) (Kdg T E C G ws) ((List.length (Kcz G ws)≤1000000∧List.length (Lib.join (List.map (fun(x:ByteArray)=>Z11 x) (Kcz G ws)) [32])≤140737488355328)∧Sf true (Sf T (Sf (E,C,G) (Vq (Kcz G ws) Hp=Z73 G ws∧J9q G ws)))))) (Jba∧Br false (Kdt T E C G ws) (Yr∧Br (Ln (Kev ws)==0) (Kdg T E C G ws) ((List.length (Kev ws)≤1000000∧List.length (Lib.join (List.map (fun(x:ByteArray)=>Z11 x) (Kev ws)) [32])≤140737488355328)∧Sf true (Sf T (Sf (E,C,G) (Vq (Kev ws) Hp=Z73 G ws∧J9q G ws)))))))) (Br (bif !false==bif Z44 ws==2 then false else false then true else Kzc ws) (Kv3 T E C G ws) (Br (V2 G) (V1 G∧Jb9 G∧Br false (Kdt T E C G ws) (Yz G∧Br (Ln (Kc7 G)==0) (Kdg T E C G ws) ((List.length (Kc7 G)≤1000000∧List.length (Lib.join (List.map (fun(x:ByteArray)=>Z11 x) (Kc7 G)) [32])≤140737488355328)∧Sf true (Sf T (Sf (E,C,G) (Vq (Kc7 G) Hp=Z73 G ws∧J9q G ws)))))) (Jba∧Br false (Kdt T E C G ws) (Yr∧Br true (Kdg T E C G ws) (J9k∧Sf true (Sf T (Sf (E,C,G) (Vq (Jso Vs B0) Hp=Z73 G ws∧J9q G ws)))))))))=_).mp ?_
 delta Z11 Z44 Z73 Z87 V2 Hp J9q J9k Jqg Jmi L9 Vs V1 Yr Jba Kzc D6 D5 Kev Jac Ft Ho Hn L8 Zv Kv3 Kdt Kdg Fs Yc Yz Kc7 Jb9 Kcz Br Iw Bd Tw Sf Ln Gt B0 Lb E2 Uc
 intro ha
 obtain⟨hh,hn,-,-,hmax,hsz⟩:=ha
 have hr:Jk (Kc G):=X0 hh
 have hN:NmR (Kc G):=Jes hn
 have hG:G.length≤1000:=by have:=hh.nE;have:=hh.nC;have:=hh.nG;dsimp only at*;omega
 rw[Jn7]
 have hbn:({data:={toList:=[]}}:ByteArray)=Ja:=rfl
 have hl:((Uc::ws).length:Int)=(ws.length:Int)+1:=by simp
 have ha1:(Uc::ws).getD 1 Ja=ws.getD 0 Ja:=rfl
 have hz:((0:Int),(0:Int),([]:List Sta),([]:List Ord),([]:List Met),([]:List Out),([]:List Per))=U0:=rfl
 simp only[hbn,hz,hl,Prod.eta,Jgu,ha1]
 rcases Jer G with⟨hd,e0⟩|⟨hd,e0⟩
 ·rw[e0] at hr hN⊢
  have hp:=of_decide_eq_true hd
  rw[hd]
  generalize G.getD ((G.length:Int)-1).toNat U0=r at hr hN⊢
  cases h2:(ws.length:Int)+1==1
  all_goals cases h6:(ws.length:Int)+1==2
  all_goals cases h3:(ws.getD 0 Ja).toList==Ja.toList
  all_goals cases h5:(((Jso r Ja).length:Int)==0)
  all_goals simp only[h2,h3,h5,h6,bne,Jmh,Bool.not_true,Bool.not_false,cond_true,cond_false,BEq.rfl,Bool.true_beq,Bool.false_beq,reduceCtorEq,false_implies,forall_const,true_and,and_true,and_self]
  all_goals repeat' apply And.intro
  all_goals first|omega|(have:=eq_of_beq h2;omega)|exact hr|exact(Kx (Jot hr hN _)).1|exact(Kx (Jot hr hN _)).2|rfl|(have:=h4;simpa[Vf] using this)|skip
 ·rw[e0] at hr hN⊢
  rw[hd]
  cases h2:(ws.length:Int)+1==1
  all_goals cases h6:(ws.length:Int)+1==2
  all_goals cases h3:(ws.getD 0 Ja).toList==Ja.toList
  all_goals cases h5:(((Jso U0 Ja).length:Int)==0)
  all_goals simp only[h2,h3,h5,h6,bne,Jmh,Bool.not_true,Bool.not_false,cond_true,cond_false,BEq.rfl,Bool.true_beq,Bool.false_beq,reduceCtorEq,false_implies,forall_const,true_and,and_true,and_self]
  all_goals repeat' apply And.intro
  all_goals first|omega|(have:=eq_of_beq h2;omega)|exact hr|exact(Kx (Jot hr hN _)).1|exact(Kx (Jot hr hN _)).2|rfl|(have:=h4;simpa[Vf,U0] using this)|exact nomatch (show true=false from h5)|exact nomatch (show false=true from h5)
theorem Jrh:Jcj Ub=(false,0,some 209):=by kernel_rfl
theorem Jn6 (r:Reg) (ws:List ByteArray):X8 r (Ub::ws)=Jgu false 0 Jeg r (Ub::ws):=by
 have:(Ub::ws).getD 0 Ja=Ub:=rfl
 unfold X8
 rw[this,Jrh]
 rfl
def Z38 (a:Ls):=Ln (Ub::a)
def Z79 (a:List Reg) (b:Ls):=(X8 (Kc a) (Ub::b)).1
def J9p (a:List Reg) (b:Ls):=0=(X8 (Kc a) (Ub::b)).2
def Kzh (a:Ls):=bif true then Z38 a !=1 else false
def Ker (a:Ls):=Jeg Vs (Z87 a)
def Kvy (a:TypeId) (b c:List Ev) (d:List Reg) (e:Ls):=Sf true (Sf a (Sf (b,c,d) (B0=Z79 d e∧25=(X8 (Kc d) (Ub::e)).2)))
def Kdq (a:TypeId) (b c:List Ev) (d:List Reg) (e:Ls):=Sf true (Sf a (Sf (b,c,d) (B0=Z79 d e∧10=(X8 (Kc d) (Ub::e)).2)))
def Kdk (a:TypeId) (b c:List Ev) (d:List Reg) (e:Ls):=Sf true (Sf a (Sf (b,c,d) (Jmi=Z79 d e∧J9p d e)))
def Kc5 (a:List Reg):=Jeg (Yc a) B0
def Kcx (a:List Reg) (b:Ls):=Jeg (Yc a) (Z87 b)
theorem Jh9 (T:TypeId) (E C:List Ev) (G:List Reg) (ws:List ByteArray):wpFO Tryz.prog Jyo.g (na ()) (fun _=>na ()) (Sx.look ([(75,Tryz.f75)]:List (Nat×Func))) Tryz.f119 J0e T (E,C,G) (Ub::ws,()):=by
 refine(by kernel_rfl:(Jf5 (E,C,G) (Ub::ws)→Tw (Bd 0 (Z38 ws))∧Br false (Tw (Bd 1 (Z38 ws))∧Br (bif !false==bif Z38 ws==2 then Jqg ws else false then true else Kzh ws) (Kvy T E C G ws) (Br (V2 G) (V1 G∧Jb9 G∧Br false (Kdq T E C G ws) (Yz G∧Br (Ln (Kcx G ws)==0) (Kdk T E C G ws) ((List.length (Kcx G ws)≤1000000∧List.length (Lib.join (List.map (fun(x:ByteArray)=>Z11 x) (Kcx G ws)) [32])≤140737488355328)∧Sf true (Sf T (Sf (E,C,G) (Vq (Kcx G ws) Hp=Z79 G ws∧J9p G ws)))))) (Jba∧Br false (Kdq T E C G ws) (Yr∧Br (Ln (Ker ws)==0) (Kdk T E C G ws) ((List.length (Ker ws)≤1000000∧List.length (Lib.join (List.map (fun(x:ByteArray)=>Z11 x) (Ker ws)) [32])≤140737488355328)∧Sf true (Sf T (Sf (E,C,G) (Vq (Ker ws) Hp=Z79 G ws∧J9p G ws)))))))) (Br (bif !false==bif Z38 ws==2 then false else false then true else Kzh ws) (Kvy T E C G ws) (Br (V2 G) (V1 G∧Jb9 G∧Br false (Kdq T E C G ws) (Yz G∧Br (Ln (Kc5 G)==0) (Kdk T E C G ws) ((List.length (Kc5 G)≤1000000∧List.length (Lib.join (List.map (fun(x:ByteArray)=>Z11 x) (Kc5 G)) [32])≤140737488355328)∧Sf true (Sf T (Sf (E,C,G) (Vq (Kc5 G) Hp=Z79 G ws∧J9p G ws)))))) (Jba∧Br false (Kdq T E C G ws) (Yr∧Br false (Kdk T E C G ws) (J9j∧Sf true (Sf T (Sf (E,C,G) (Vq (Jeg Vs B0) Hp=Z79 G ws∧J9p G ws)))))))))=_).mp ?_
 delta Z11 Z38 Z79 Z87 V2 Hp J9p J9j Jqg Jmi L9 Vs V1 Yr Jba Kzh D6 D5 Jac Ker Ft Ho Hn L8 Zv Kvy Kdq Kdk Fs Yc Yz Kc5 Jb9 Kcx Br Iw Bd Tw Sf Ln Gt B0 Lb E2 Ub
 intro ha
 obtain⟨hh,hn,-,-,hmax,hsz⟩:=ha
 have hr:Jk (Kc G):=X0 hh
 have hN:NmR (Kc G):=Jes hn
 have hG:G.length≤1000:=by have:=hh.nE;have:=hh.nC;have:=hh.nG;dsimp only at*;omega
 rw[Jn6]
 have hbn:({data:={toList:=[]}}:ByteArray)=Ja:=rfl
 have hl:((Ub::ws).length:Int)=(ws.length:Int)+1:=by simp
 have ha1:(Ub::ws).getD 1 Ja=ws.getD 0 Ja:=rfl
 have hz:((0:Int),(0:Int),([]:List Sta),([]:List Ord),([]:List Met),([]:List Out),([]:List Per))=U0:=rfl
 simp only[hbn,hz,hl,Prod.eta,Jgu,ha1]
 rcases Jer G with⟨hd,e0⟩|⟨hd,e0⟩
 ·rw[e0] at hr hN⊢
  have hp:=of_decide_eq_true hd
  rw[hd]
  generalize G.getD ((G.length:Int)-1).toNat U0=r at hr hN⊢
  cases h2:(ws.length:Int)+1==1
  all_goals cases h6:(ws.length:Int)+1==2
  all_goals cases h3:(ws.getD 0 Ja).toList==Ja.toList
  all_goals cases h5:(((Jeg r Ja).length:Int)==0)
  all_goals simp only[h2,h3,h5,h6,bne,Jmh,Bool.not_true,Bool.not_false,cond_true,cond_false,BEq.rfl,Bool.true_beq,Bool.false_beq,reduceCtorEq,false_implies,forall_const,true_and,and_true,and_self]
  all_goals repeat' apply And.intro
  all_goals first|omega|(have:=eq_of_beq h2;omega)|exact hr|exact(Kx (Jio hr _)).1|exact(Kx (Jio hr _)).2|rfl|(have:=h4;simpa[Vf] using this)|skip
 ·rw[e0] at hr hN⊢
  rw[hd]
  cases h2:(ws.length:Int)+1==1
  all_goals cases h6:(ws.length:Int)+1==2
  all_goals cases h3:(ws.getD 0 Ja).toList==Ja.toList
  all_goals cases h5:(((Jeg U0 Ja).length:Int)==0)
  all_goals simp only[h2,h3,h5,h6,bne,Jmh,Bool.not_true,Bool.not_false,cond_true,cond_false,BEq.rfl,Bool.true_beq,Bool.false_beq,reduceCtorEq,false_implies,forall_const,true_and,and_true,and_self]
  all_goals repeat' apply And.intro
  all_goals first|omega|(have:=eq_of_beq h2;omega)|exact hr|exact(Kx (Jio hr _)).1|exact(Kx (Jio hr _)).2|rfl|(have:=h4;simpa[Vf,U0] using this)|exact nomatch (show true=false from h5)|exact nomatch (show false=true from h5)
theorem Jnc {k:ByteArray} (h:Jha k=true):k=Ue∨k=Hr∨k=Hs∨k=K8∨k=Ud∨k=Uc∨k=Ub:=by
 obtain⟨x,hx,hk⟩:=Jeu h
 have hk:=Ju1 hk
 unfold Jef Tryz.questU at hx
 subst hk
 simp only[List.mem_cons,List.not_mem_nil,or_false] at hx
 rcases hx with rfl|rfl|rfl|rfl|rfl|rfl|rfl
 all_goals simp
theorem Kmq (T:TypeId):∀(x:Kn) (y:ATup [.val false (.list 9 .str)]),wpFO Tryz.prog Jyo.g (na ()) (fun _=>na ()) (Sx.look ([(75,Tryz.f75)]:List (Nat×Func))) Tryz.f119 J0e T x y
 | (E, C, G), (l, ()) => by
  refine Jh2 (by kernel_rfl) fun hp=> ?_
  have hl:1≤l.length:=Jf5.len hp
  have hk:Jha (l.getD 0 Ja)=true:=Jf5.key hp
  obtain⟨w,ws,rfl⟩:∃w ws,l=w::ws:=by
   cases l with
   |nil=>exact absurd hl (by decide)
   |cons w ws=>exact⟨w,ws,rfl⟩
  have hk:Jha w=true:=hk
  rcases Jnc hk with rfl|rfl|rfl|rfl|rfl|rfl|rfl
  ·exact Jid T E C G ws
  ·exact Jq2 T E C G ws
  ·exact Jq3 T E C G ws
  ·exact Jic T E C G ws
  ·exact Jib T E C G ws
  ·exact Jia T E C G ws
  ·exact Jh9 T E C G ws
theorem Kp1:Ok Tryz.prog 119 (Xt.con J0e):=Xz (K9 mixed Jyo.ok (by kernel_rfl) (by kernel_rfl) (U6 (l:=([(75,Tryz.f75)]:List (Nat×Func))) (List.forall_mem_cons.2 ⟨by kernel_rfl,by simp⟩)) (fun _ _=>na ()) (fun _ _=>fun _=>na ()) fun T xx yy _=>Kmq T xx yy)
abbrev K7c:=Jyo.add Kp1
abbrev K1h:=K7c.add J31
def doW (line:ByteArray):List ByteArray:=Xv line ⟨⟨[32]⟩⟩
def do1 (line:ByteArray):Int:=Jf [bif decide (4096<(line.size:Int)) then 26 else 0,bif line.toList==Ja.toList then 25 else 0]
def do2 (h:Kn) (ws:List ByteArray):Int:=Jf [bif !(Y1 ws).2 then 25 else 0,bif decide (1000≤(h.1.length:Int)) then 5 else 0]
def evD (h:Kn) (ws:List ByteArray):Ev:=((h.1.length:Int)+1,(Y1 ws).1.2)
def Kas (n:Int):ByteArray:=bs ([100,111,110,101,32]++(Vh n).data.toList)
def doF (h:Kn) (line:ByteArray):Kn×ByteArray×Int:=
 if do1 line≠0 then(h,Ja,do1 line) else
 if Jha ((doW line).getD 0 Ja)=true then(h,X8 (Kc h.2.2) (doW line)) else
 if Ys ((doW line).getD 0 Ja)=false then(h,Ja,13) else
 if do2 h (doW line)≠0 then(h,Ja,do2 h (doW line)) else
 if Uk h (evD h (doW line))≠0 then(h,Ja,Uk h (evD h (doW line))) else
 (D1 h (evD h (doW line)),Kas ((h.1.length:Int)+1),0)
def cDo:Xt:={T? :=some 212,s:=Jit,args:=[aS],ress:=[tS,I],pre:=fun h (l,_)=>[Y3 h,D8 h,l.size≤1000000],spec:=fun h (l,_)=>((doF h l).2.1,(doF h l).2.2,()),post:=fun h (l,_)=>(doF h l).1}
theorem Kat {l:ByteArray} (h:l.size≤1000000) (h4:l.size≤4096):1≤(doW l).length∧(doW l).length≤1000000∧∀w∈doW l,w.size≤1000000:=by
 have e:doW l=(Jj5 32 l.data.toList).map bs:=Jdz l 32
 have h1:=Jim 32 l.data.toList
 have hl:l.data.toList.length=l.size:=rfl
 rw[e]
 refine⟨?_,by rw[List.length_map];omega,fun w hw=> ?_⟩
 ·rw[List.length_map]
  have:∀l:List UInt8,1≤(Jj5 32 l).length:=by
   intro l
   induction l with
   |nil=>decide
   |cons c r ih=>unfold Jj5;split<;>(try split)<;>simp only[List.length_cons,List.length_nil]<;>omega
  exact this _
 ·obtain⟨v,hv,rfl⟩:=List.mem_map.1 hw
  have:=Jal _ _ v hv
  rw[Xh];omega
def Jyd (a:Bt):=Xv a Hp
def K1c (a:Bt):=(Y1 (Jyd a)).1.2
def K1a (a:Bt):=(K1c a).2
def K0x (a:Bt):=List.getD (Jyd a) 0 B0
def K0r (a:Bt):=Tw (Bd 0 (Ln (Jyd a)))
def Kxl (a:Bt):=Jf [bif decide (4096<Nc (ByteArray.size a)) then 26 else 0,bif Lb a B0 then 25 else 0]
def Kv2 (a:Bt) (b:List Ev):=Jf [bif !(Y1 (Jyd a)).2 then 25 else 0,bif decide (1000≤Ln b) then 5 else 0]
def Kg8 (a:List Ev) (b:Bt):=(Z0 a,(K1c b).1,(K1a b).1,E2 (K1a b).2)
def Kux (a b:List Ev) (c:List Reg) (d:Bt):=Uk (a,b,c) (Kg8 a d)
def Kuw (a b:List Ev) (c:List Reg) (d:Bt):=Vj (a,b,c) (Kg8 a d)
def Ks9 (a b:List Ev) (c:List Reg) (d:Bt):=((Kuw a b c d).1,E2 (Kuw a b c d).2)=(doF (a,b,c) d).1
theorem K39 (E C:List Ev) (G:List Reg) (line:ByteArray):wpFO Tryz.prog K1h.g (na ()) (fun _=>na ()) (Sx.look ([]:List (Nat×Func))) Tryz.f40 cDo 212 (E,C,G) (line,()):=by
 refine(by kernel_rfl:(Y3 (E,C,G)→D8 (E,C,G)→ByteArray.size line≤1000000→Br false (Sf true (Sf 212 ((E,C,G)=(doF (E,C,G) line).1∧B0=(doF (E,C,G) line).2.1∧22=(doF (E,C,G) line).2.2))) (2≤1000000∧Br (Kxl line !=0) (Sf true (Sf 212 ((E,C,G)=(doF (E,C,G) line).1∧B0=(doF (E,C,G) line).2.1∧Kxl line=(doF (E,C,G) line).2.2))) ((ByteArray.size line≤1000000∧1≤1)∧K0r line∧Br (Option.isSome (Uh Sch.str (K0x line) Jef)) (Jf5 (E,C,G) (Jyd line)∧Sf true (Sf 212 ((E,C,G)=(doF (E,C,G) line).1∧(X8 (Kc G) (Jyd line)).1=(doF (E,C,G) line).2.1∧(X8 (Kc G) (Jyd line)).2=(doF (E,C,G) line).2.2))) (K0r line∧Br (!Option.isSome (Uh Sch.str (K0x line) Lr)) (Sf true (Sf 212 ((E,C,G)=(doF (E,C,G) line).1∧B0=(doF (E,C,G) line).2.1∧13=(doF (E,C,G) line).2.2))) ((List.length (Jyd line)≤1000000∧∀(w:ByteArray),w∈Jyd line→ByteArray.size w≤1000000)∧2≤1000000∧Br (Kv2 line E !=0) (Sf true (Sf 212 ((E,C,G)=(doF (E,C,G) line).1∧B0=(doF (E,C,G) line).2.1∧Kv2 line E=(doF (E,C,G) line).2.2))) (Z65 E∧(Kd (E,C,G)∧Z42 E∧Jfm (Kg8 E line))∧Br (Kux E C G line !=0) (Sf true (Sf 212 (Ks9 E C G line∧B0=(doF (E,C,G) line).2.1∧Kux E C G line=(doF (E,C,G) line).2.2))) ((Z65 E∧Nc (5+ByteArray.size (Vh (Z0 E)))≤9223372036854775807)∧Sf true (Sf 212 (Ks9 E C G line∧ByteArray.mk (Array.mk (100::111::110::101::32::([]++(Vh (Z0 E)).data.toList)))=(doF (E,C,G) line).2.1∧0=(doF (E,C,G) line).2.2)))))))))=_).mp ?_
 delta Z0 Z42 Z65 Hp Jyd K1c K1a K0x K0r Kxl Kv2 Kg8 Kux Kuw Ks9 Br Iw Bd Tw Sf Ln Nc B0 Lb E2
 intro hi hn hsz
 have hbn:({data:={toList:=[]}}:ByteArray)=Ja:=rfl
 have hW:Xv line {data:={toList:=[32]}}=doW line:=rfl
 have hd1:Jf [bif decide (4096<(line.size:Int)) then 26 else 0,bif line.toList==Ja.toList then 25 else 0]=do1 line:=rfl
 have hd2:Jf [bif !(Y1 (doW line)).2 then 25 else 0,bif decide (1000≤(E.length:Int)) then 5 else 0]=do2 (E,C,G) (doW line):=rfl
 have hq:(Uh Sch.str ((doW line).getD 0 Ja) Jef).isSome=Jha ((doW line).getD 0 Ja):=rfl
 have hk:(Uh Sch.str ((doW line).getD 0 Ja) Lr).isSome=Ys ((doW line).getD 0 Ja):=rfl
 have he:((E.length:Int)+1,(Y1 (doW line)).1.2)=evD (E,C,G) (doW line):=rfl
 simp only[hbn,hW,Prod.eta,hd1,hd2,hq,hk,he]
 have nE:E.length≤1000:=hi.ok.nE
 refine⟨fun h=>(nomatch h),fun _=>⟨by decide,fun h1=> ?_,fun h1=> ?_⟩⟩
 ·have e:doF (E,C,G) line=((E,C,G),Ja,do1 line):=by unfold doF;rw[if_pos (bne_iff_ne.1 h1)]
  rw[e];exact⟨trivial,trivial,rfl,rfl,rfl⟩
 have e1:do1 line=0:=bne_eq_false_iff_eq.1 h1
 have h4:line.size≤4096:=by
  cases hc:decide (4096<(line.size:Int)) with
  |false=>have:=of_decide_eq_false hc;omega
  |true=>rw[do1,hc] at e1;exact nomatch (show(26:Int)=0 from e1)
 obtain⟨w1,w2,w3⟩:=Kat hsz h4
 refine⟨⟨hsz,Nat.le_refl _⟩,by(repeat' first|apply And.intro|(first|omega|dsimp only;omega)),fun h2=> ?_,fun h2=>⟨by(repeat' first|apply And.intro|(first|omega|dsimp only;omega)),fun h3=> ?_,fun h3=> ?_⟩⟩
 ·have e:doF (E,C,G) line=((E,C,G),X8 (Kc G) (doW line)):=by unfold doF;rw[if_neg (by rw[e1];decide),if_pos h2]
  rw[e];exact⟨⟨hi.ok,hn,w1,h2,w2,w3⟩,trivial,trivial,rfl,rfl,rfl⟩
 ·have h3:Ys ((doW line).getD 0 Ja)=false:=by simpa using h3
  have e:doF (E,C,G) line=((E,C,G),Ja,13):=by unfold doF;rw[if_neg (by rw[e1];decide),if_neg (by rw[h2];decide),if_pos h3]
  rw[e];exact⟨trivial,trivial,rfl,rfl,rfl⟩
 have h3:Ys ((doW line).getD 0 Ja)=true:=by simpa using h3
 refine⟨⟨w2,w3⟩,by decide,fun h5=> ?_,fun h5=> ?_⟩
 ·have e:doF (E,C,G) line=((E,C,G),Ja,do2 (E,C,G) (doW line)):=by unfold doF;rw[if_neg (by rw[e1];decide),if_neg (by rw[h2];decide),if_neg (by rw[h3];decide),if_pos (bne_iff_ne.1 h5)]
  rw[e];exact⟨trivial,trivial,rfl,rfl,rfl⟩
 have e5:do2 (E,C,G) (doW line)=0:=bne_eq_false_iff_eq.1 h5
 have hE:E.length<1000:=by
  cases hc:decide (1000≤(E.length:Int)) with
  |false=>have:=of_decide_eq_false hc;omega
  |true=>
   rw[do2] at e5
   have hc:decide (1000≤(((E,C,G):Kn).1.length:Int))=true:=hc
   rw[hc] at e5
   cases hx:(Y1 (doW line)).2<;>rw[hx] at e5<;>exact nomatch e5
 have hz:=Jo4 w3
 have hsz2:Jfm (evD (E,C,G) (doW line)):=⟨Nat.le_trans hz.1 (by decide),Nat.le_trans hz.2.1 (by decide),hz.2.2⟩
 refine⟨by(repeat' first|apply And.intro|(first|omega|dsimp only;omega)),⟨hi.ok,hE,hsz2⟩,fun h6=> ?_,fun h6=> ?_⟩
 ·have n6:=bne_iff_ne.1 h6
  have e:doF (E,C,G) line=((E,C,G),Ja,Uk (E,C,G) (evD (E,C,G) (doW line))):=by unfold doF;rw[if_neg (by rw[e1];decide),if_neg (by rw[h2];decide),if_neg (by rw[h3];decide),if_neg (by rw[e5];decide),if_pos n6]
  have ea:Vj (E,C,G) (evD (E,C,G) (doW line))=(E,C,G):=by unfold Vj;rw[if_neg n6]
  rw[e,ea];exact⟨trivial,trivial,rfl,rfl,rfl⟩
 ·have e6:Uk (E,C,G) (evD (E,C,G) (doW line))=0:=bne_eq_false_iff_eq.1 h6
  have e:doF (E,C,G) line=(D1 (E,C,G) (evD (E,C,G) (doW line)),Kas ((E.length:Int)+1),0):=by unfold doF;rw[if_neg (by rw[e1];decide),if_neg (by rw[h2];decide),if_neg (by rw[h3];decide),if_neg (by rw[e5];decide),if_neg (by rw[e6];decide)]
  have ea:Vj (E,C,G) (evD (E,C,G) (doW line))=D1 (E,C,G) (evD (E,C,G) (doW line)):=by unfold Vj;rw[if_pos e6]
  have hi:=Jar ((E.length:Int)+1) (by omega) (by omega)
  rw[e,ea];exact⟨⟨by(repeat' first|apply And.intro|(first|omega|dsimp only;omega)),by omega⟩,trivial,trivial,rfl,rfl,rfl⟩
theorem K5c:Ok Tryz.prog 40 (Xt.con cDo):=Xz (K9 mixed K1h.ok (by kernel_rfl) (by kernel_rfl) (U6 (l:=([]:List (Nat×Func))) (by simp)) (fun xx yy=>na ()) (fun xx yy=>fun _=>na ()) fun T xx yy hT=>by obtain rfl:=hT _ rfl;exact K39 xx.1 xx.2.1 xx.2.2 yy.1)
abbrev Kl1:=K1h.add K5c
theorem Kqq {h:Kn} {l:ByteArray} (hi:Y3 h) (hn:D8 h):Y3 (doF h l).1∧D8 (doF h l).1:=by
 unfold doF
 split
 ·exact⟨hi,hn⟩
 split
 ·exact⟨hi,hn⟩
 split
 ·exact⟨hi,hn⟩
 split
 ·exact⟨hi,hn⟩
 split
 ·exact⟨hi,hn⟩
 rename_i h5 h6
 have e5:do2 h (doW l)=0:=Decidable.of_not_not h5
 have hE:h.1.length<1000:=by
  cases hc:decide (1000≤(h.1.length:Int)) with
  |false=>have:=of_decide_eq_false hc;omega
  |true=>
   rw[do2,hc] at e5
   cases hx:(Y1 (doW l)).2<;>rw[hx] at e5<;>exact nomatch e5
 exact⟨Jf2 hi hE (Decidable.of_not_not h6),Krw hn (Decidable.of_not_not h6)⟩
abbrev Kmv:Sch:= .prod .str (.prod .str sI)
abbrev Say:=ByteArray×ByteArray×Int
def J10:Say:=(Ja,Ja,0)
def Kmu (r:ByteArray×Int) (x:Say):Bool:=bif r.1.toList !=x.2.1.toList then true else r.2 !=x.2.2
def Jdp:Kn→List Say→Kn×Bool
 |h,[]=>(h,true)
 |h,x::l=>bif Kmu (doF h x.1).2 x then((doF h x.1).1,false) else Jdp (doF h x.1).1 l
def J78:Xt:={T? :=some 212,s:=Jit,args:=[.val false (.list 147 Kmv)],ress:=[Bo],pre:=fun h (l,_)=>[Y3 h,D8 h,l.length≤1000000,∀x∈l,x.1.size≤1000000],spec:=fun h (l,_)=>((Jdp h l).2,()),post:=fun h (l,_)=>(Jdp h l).1}
abbrev Jw5 (h0:Kn) (l:List Say):Ann:={X:=Kn×Nat,σ:=fun(h,k)=>⟨6,[(0, .one (.ptr 1 0)),(11, .one (.sl 5)),(12, .one (.int .i64 l.length)),(13, .one (.int .i64 k))],[(0, .sus [(0, .one (.ptr 1 0))]),(1, .box 212 [.sl 2, .sl 3, .sl 4]),(2, .own 67 sEv h.1),(3, .own 67 sEv h.2.1),(4, .own 105 Jm3 h.2.2),(5, .imm 147 Kmv l)]⟩,inv:=fun(h,k)=>Y3 h∧D8 h∧k≤l.length∧Jdp h (l.drop k)=Jdp h0 l,mu:=fun(_,k)=>l.length-k}
def Kfi (a:List Say) (b:Kn×Nat):=List.getD a b.2 (B0,B0,0)
def Kes (a:Kn×Nat) (b:List Say):=doF (Jyh a) (Kfi b a).1
def Kxu (a:Kn×Nat) (b:List Say):=(Kes a b).2
def Ki7 (a:Kn×Nat) (b:List Say):=(Kes a b).1.2
theorem K1m (E C:List Ev) (G:List Reg) (l:List Say):wpFO Tryz.prog Kl1.g (Xo (Jw5 (E,C,G) l)) (fun _=>na ()) (Sx.look ([]:List (Nat×Func))) Tryz.f66 J78 212 (E,C,G) (l,()):=by
 refine(by kernel_rfl:(Y3 (E,C,G)→D8 (E,C,G)→List.length l≤1000000→(∀(x:ByteArray×ByteArray×Int),x∈l→ByteArray.size x.1≤1000000)→Br false (Sf true (Sf 212 ((E,C,G)=(Jdp (E,C,G) l).1∧false=(Jdp (E,C,G) l).2))) (∃(x:(List Ev×List Ev×List Reg)×Nat),Si (Ln l) (0=Nc x.2∧E=x.1.1∧C=x.1.2.1∧G=x.1.2.2∧l=l)∧(Y3 x.1∧D8 x.1∧x.2≤List.length l∧Jdp x.1 (List.drop x.2 l)=Jdp (E,C,G) l)∧∀(x:Kn×Nat),Y3 x.1∧D8 x.1∧x.2≤List.length l∧Jdp x.1 (List.drop x.2 l)=Jdp (E,C,G) l→Br (decide (Nc x.2<Ln l)) (Tw (Bd (Nc x.2) (Ln l))∧(Y3 (Jyh x)∧D8 (Jyh x)∧ByteArray.size (Kfi l x).1≤1000000)∧Br (bif !Lb (Kxu x l).1 (Kfi l x).2.1 then true else(Kxu x l).2 !=(Kfi l x).2.2) (Sf true (Sf 212 (((Kes x l).1.1,E2 (Ki7 x l))=(Jdp (E,C,G) l).1∧false=(Jdp (E,C,G) l).2))) (Z33 x∧∃(y:(List Ev×List Ev×List Reg)×Nat),Si (Ln l) (Jyj x y∧(Kes x l).1.1=y.1.1∧(Ki7 x l).1=y.1.2.1∧(Ki7 x l).2=y.1.2.2∧l=l)∧(Y3 y.1∧D8 y.1∧y.2≤List.length l∧Jdp y.1 (List.drop y.2 l)=Jdp (E,C,G) l)∧List.length l-y.2<List.length l-x.2)) (Sf true (Sf 212 (Jyh x=(Jdp (E,C,G) l).1∧true=(Jdp (E,C,G) l).2)))))=_).mp ?_
 delta Z33 Jyj Jyh Kfi Kes Kxu Ki7 Br Iw Bd Tw Sf Si Ln Nc B0 Lb E2
 intro hi hn hl hsz
 refine⟨fun h=>(nomatch h),fun _=>⟨((E,C,G),(0:Nat)),by(repeat' first|exact rfl|exact⟨⟩|apply And.intro|omega|dsimp only;omega),⟨hi,hn,Nat.zero_le _,rfl⟩,fun(x:Kn×Nat) hx=>⟨fun hlt=> ?_,fun hlt=> ?_⟩⟩⟩
 ·obtain⟨h,k⟩:=x
  obtain⟨k1,k2,k3,k4⟩:=hx
  have hlt:k<l.length:=by simpa using hlt
  dsimp only at k1 k2 k3 k4
  have hz:(({data:={toList:=[]}}:ByteArray),({data:={toList:=[]}}:ByteArray),(0:Int))=J10:=rfl
  simp only[hz,Prod.eta]
  rw[Js (d:=J10) hlt,Jdp] at k4
  have hd:=Kqq (l:=(l.getD k J10).1) k1 k2
  refine⟨by(repeat' first|apply And.intro|(first|omega|dsimp only;omega)),⟨k1,k2,hsz _ (Jc hlt)⟩,fun h1=> ?_,fun h1=> ?_⟩
  ·have e:Kmu (doF h (l.getD k J10).1).2 (l.getD k J10)=true:=h1
   rw[e,cond_true] at k4
   rw[←k4]
   exact⟨trivial,trivial,rfl,rfl⟩
  ·have e:Kmu (doF h (l.getD k J10).1).2 (l.getD k J10)=false:=h1
   rw[e,cond_false] at k4
   exact⟨by(repeat' first|apply And.intro|(first|omega|dsimp only;omega)),((doF h (l.getD k J10).1).1,k+1),by(repeat' first|exact rfl|exact⟨⟩|apply And.intro|omega|dsimp only;omega),⟨hd.1,hd.2,by(first|omega|dsimp only;omega),k4⟩,by(first|omega|dsimp only;omega)⟩
 ·obtain⟨h,k⟩:=x
  obtain⟨k1,k2,k3,k4⟩:=hx
  have hlt:¬k<l.length:=by simpa using hlt
  have e:k=l.length:=by dsimp only at k3;omega
  rw[e,List.drop_length,Jdp] at k4
  rw[←k4]
  exact⟨rfl,rfl,rfl,rfl⟩
theorem K46:Ok Tryz.prog 66 (Xt.con J78):=Xz (K9 mixed Kl1.ok (by kernel_rfl) (by kernel_rfl) (U6 (l:=([]:List (Nat×Func))) (by simp)) (fun xx yy=>Xo (Jw5 (xx.1,xx.2.1,xx.2.2) yy.1)) (fun xx yy=>fun _=>na ()) fun T xx yy hT=>by obtain rfl:=hT _ rfl;exact K1m xx.1 xx.2.1 xx.2.2 yy.1)
abbrev K2v:=Kl1.add K46
def Kbg:Con:={args:=[.val false (.list 130 Hm), .fn [(true,Hm)] (true,Jtu)],ress:=[(false, .list 129 Jtu)],owns:=[true],pre:=fun(l,(q,_),_)=>[l.length≤1000000,∀x∈l,Ul (q (x,()))],spec:=fun(l,(_,f),_)=>(l.map fun x=>f (x,()),())}
def Kez (a:Ord×Unit→Jqt) (b:Nat) (c:List Ord):=List.map (fun(x:Ord)=>a (x,PUnit.unit)) (List.take b c)
def Kvs (a:Ord×Unit→Jqt) (b:Nat) (c:List Ord):=List.length (Kez a b c)
def Ktd (a:Ord×Unit→Jqt) (b:List Ord) (c:Nat):=a (Kc9 b c)
def Ktc (a:Ord×Unit→Jqt) (b:List Ord) (c:Nat):=(Ktd a b c).2
def Ktb (a:Ord×Unit→Jqt) (b:List Ord) (c:Nat):=(Ktc a b c).2
def Kta (a:Ord×Unit→Jqt) (b:List Ord) (c:Nat):=(Ktb a b c).2
theorem Kpv:Ok Tryz.prog 125 Kbg:=okW K2v Tryz.f125 (fun xx=>Xo (Ja8 130 129 Hm xx.1 (true,Jtu) true xx.2.1.1 xx.2.1.2)) fun xx=>by
 obtain⟨(l:List Ord),⟨(q:Ord×Unit→List Prop),(f:Ord×Unit→Jqt)⟩,_⟩:=xx
 refine(by kernel_rfl:(Z56 l→Kkq l q→∃(x:Nat),Si (Ln l) (0=Nc x∧Sf l ((fun(x:Ord×PUnit)=>q x)=q∧(fun(x:Ord×PUnit)=>f x)=f∧Kvs f x l=0))∧x≤List.length l∧∀(x:Nat),x≤List.length l→Br (decide (Nc x<Ln l)) (Tw (Bd (Nc x) (Ln l))∧(Kgp q l x∧(Kvs f x l+1)*56≤140737488355328)∧Z20 x∧∃(y:Nat),Si (Ln l) (V5 x y∧Sf l ((fun(x:Ord×PUnit)=>q x)=q∧(fun(x:Ord×PUnit)=>f x)=f∧Kez f x l++[((Ktd f l x).1,(Ktc f l x).1,(Ktb f l x).1,(Kta f l x).1,E2 (Kta f l x).2)]=Kez f y l))∧y≤List.length l∧List.length l-y<List.length l-x) (Kez f x l=List.map (fun(x:Ord)=>f (x,PUnit.unit)) l))=_).mp ?_
 delta Z20 Z56 Z70 V5 Jgd Kfc Kkr Kkq Kfa Kkk Kki Kke Kez Kvs Kc9 Ktd Ktc Ktb Kta Kgp Br Iw Bd Tw Sf Si Ln Nc B0 E2
 intro hb hq
 refine⟨(0:Nat),⟨rfl,rfl,rfl,rfl,rfl,by simp⟩,Nat.zero_le _,fun(k:Nat) hk=>⟨fun h=> ?_,fun h=> ?_⟩⟩
 ·have hlt:k<l.length:=by simpa using h
  refine⟨by omega,⟨hq (l.getD k Kl) (Jc hlt),by simp only[List.length_map,List.length_take];omega⟩,by omega,(k+1:Nat),⟨rfl,by simp,rfl,rfl,rfl, ?_⟩,by omega,by omega⟩
  rw[←U3 (d:=Kl) hlt,List.map_append];rfl
 ·have hlt:¬k<l.length:=by simpa using h
  rw[List.take_of_length_le (by omega)]
abbrev K7b:=K2v.add Kpv
def Zs (l:List Ev):List Jqt:=(Jo l).2.2.2.1.map (Un (Jo l).2.1 (Jo l).2.2.2.2.1)
abbrev K2u:=K7b
def Jmc (l:List Ev) (a b:ByteArray):Int:=Jf [opE l [a,b],bif a.toList==b.toList then 24 else 0]
def Jw9 (l:List Ev) (a b:ByteArray):Int:=if Jmc l a b=0 then Dn (Jo l).2.1 (Jo l).2.2.2.1 (Jo l).2.2.2.2.1 a b else 0
def J5d:Con:={args:=[.val false (.list 67 sEv),aS,aS],ress:=[I,I],owns:=[],pre:=fun(l,_)=>[lOk l],spec:=fun(l,a,b,_)=>(Jw9 l a b,Jmc l a b,())}
def K0f (a:List Ev) (b c:Bt):=Jf [opE a [b,c],bif Lb b c then 24 else 0]
theorem K49:Ok Tryz.prog 44 J5d:=okW K2u Tryz.f44 na fun xx=>by
 obtain⟨(l:List Ev),(a:ByteArray),(b:ByteArray),_⟩:=xx
 refine(by kernel_rfl:(lOk l→(lOk l∧2≤1000000)∧2≤1000000∧Br (K0f l a b !=0) (0=Jw9 l a b∧K0f l a b=Jmc l a b) (Jj1 l∧Dn (Jo l).2.1 (Jo l).2.2.2.1 (Jo l).2.2.2.2.1 a b=Jw9 l a b∧0=Jmc l a b))=_).mp ?_
 delta K0f J0z Jj1 Br Lb E2
 intro hl
 refine⟨⟨hl,by decide⟩,by decide,fun h=> ?_,fun h=> ?_⟩
 ·have h:Jmc l a b≠0:=bne_iff_ne.1 h
  exact⟨by unfold Jw9;rw[if_neg h],rfl⟩
 ·have h:Jmc l a b=0:=bne_eq_false_iff_eq.1 h
  exact⟨Dg,by unfold Jw9;rw[if_pos h],h.symm⟩
abbrev K7a:=K2u.add K49
abbrev K2t:=K7a
def Jbp (l:List Ev):(Int×Int)×Int:=if opE l []=0 then Kao (Jo l).2.1 (Jo l).2.2.2.1 (Jo l).2.2.2.2.1 else((0,0),opE l [])
def J4y:Con:={args:=[.val false (.list 67 sEv)],ress:=[(true,Hi),I],owns:=[],pre:=fun(l,_)=>[lOk l],spec:=fun(l,_)=>((Jbp l).1,(Jbp l).2,())}
abbrev Jw1 (l:List Ev) (B:List Jqt):Ann:={X:=Nat×Int×Int,σ:=fun(k,s,g)=>⟨9,[(2, .one (.ptr 1 0)),(6, .one (.int .i64 s)),(7, .one (.int .i64 g)),(23, .one (.sl 8)),(24, .one (.int .i64 B.length)),(25, .one (.int .i64 k))],[(1, .box 54 [.int .i64 0, .int .i64 0]),(8, .own 129 Jtu B)]⟩,inv:=fun(k,s,g)=>k≤B.length∧(0≤s∧s≤48000*k)∧(0≤g∧g≤s)∧Jtg (B.drop k) (s,g)=Jtg B (0,0),mu:=fun(k,_)=>B.length-k}
def Kw3 (a:List Ev):=List.map (fun(x:Ord)=>Un (Jo a).2.1 (Jo a).2.2.2.2.1 x) (Jo a).2.2.2.1
def Kwz (a:List Ev) (b:Nat×Int×Int):=(List.getD (Zs a) b.1 (B0,0,0,Z70)).2.2
def Kww (a:Nat×Int×Int) (b:List Ev):=a.2.1+(Kwz b a).1
def Kws (a:Nat×Int×Int) (b:List Ev):=a.2.2+(Kwz b a).2.1
def Khb (a:Nat×Int×Int) (b:List Ev):=a.1≤List.length (Zs b)∧(0≤a.2.1∧a.2.1≤48000*Nc a.1)∧(0≤a.2.2∧a.2.2≤a.2.1)∧Jtg (List.drop a.1 (Zs b)) (E2 a.2)=Jtg (Zs b) (0,0)
theorem K48:Ok Tryz.prog 46 J4y:=okW K2t Tryz.f46 (fun xx=>Xo (Jw1 xx.1 (Zs xx.1))) fun xx=>by
 obtain⟨(l:List Ev),_⟩:=xx
 refine(by kernel_rfl:(lOk l→(lOk l∧0≤1000000)∧Br (opE l [] !=0) ((0,0)=(Jbp l).1∧opE l []=(Jbp l).2) ((List.length (Jo l).2.2.2.1≤1000000∧∀(x:Ord),x∈(Jo l).2.2.2.1→Jj1 l∧x∈(Jo l).2.2.2.1)∧∃(x:Nat×Int×Int),(0=x.2.1∧0=x.2.2∧Ln (Kw3 l)=Ln (Zs l)∧0=Nc x.1∧Si 0 (Si 0 (Kw3 l=Zs l)))∧Khb x l∧∀(x:Nat×Int×Int),Khb x l→Br (decide (Nc x.1<Ln (Zs l))) (Tw (Bd (Nc x.1) (Ln (Zs l)))∧Iw (Kww x l)∧Iw (Kws x l)∧Iw (Nc x.1+1)∧∃(y:Nat×Int×Int),(Kww x l=y.2.1∧Kws x l=y.2.2∧Si (Ln (Zs l)) (Nc x.1+1=Nc y.1∧Si 0 (Si 0 (Zs l=Zs l))))∧Khb y l∧List.length (Zs l)-y.1<List.length (Zs l)-x.1) (Br (x.2.1==0) ((0,0)=(Jbp l).1∧6=(Jbp l).2) ((Iw (x.2.1-x.2.2)∧(0≤x.2.1-x.2.2∧x.2.1-x.2.2≤1000000000000)∧1≤x.2.1∧x.2.1≤1000000000000)∧E2 (Jrt (x.2.1-x.2.2) x.2.1)=(Jbp l).1∧0=(Jbp l).2))))=_).mp ?_
 delta Z70 J0z Jj1 Kw3 Kwz Kww Kws Khb Br Iw Bd Tw Si Ln Nc B0 E2
 intro hl
 have hr:=Dg (l:=l)
 have nO:(Jo l).2.2.2.1.length≤32:=hr.nO
 simp only[Prod.eta]
 refine⟨⟨hl,by decide⟩,fun h=> ?_,fun h=>⟨⟨Nat.le_trans nO (by decide),fun x hx=>⟨hr,hx⟩⟩, ?_⟩⟩
 ·have h:=bne_iff_ne.1 h
  unfold Jbp;rw[if_neg h]
  exact⟨rfl,rfl⟩
 have h:opE l []=0:=bne_eq_false_iff_eq.1 h
 have hB:∀b∈Zs l,J3c b:=fun b hb=>by
  obtain⟨x,hx,rfl⟩:=List.mem_map.1 hb
  exact Ja4 hr hx
 have nB:(Zs l).length≤32:=by unfold Zs;rw[List.length_map];exact nO
 refine⟨((0:Nat),0,0),by(repeat' first|exact rfl|exact⟨⟩|apply And.intro|omega|dsimp only;omega),⟨Nat.zero_le _,by(first|omega|dsimp only;omega),by(first|omega|dsimp only;omega),rfl⟩,fun(x:Nat×Int×Int) hk=>⟨fun h1=> ?_,fun h1=> ?_⟩⟩
 ·obtain⟨k,s,g⟩:=x
  have hlt:k<(Zs l).length:=by simpa using h1
  have hx:=Jc (d:=Jwl) hlt
  have hb:=hB _ hx
  obtain⟨k1,k2,k3,k4⟩:=hk
  rw[Js (d:=Jwl) hlt,Jtg] at k4
  have m1:=hb.sent
  have m2:=hb.got
  have hzb:((({data:={toList:=[]}}:ByteArray),(0:Int),(0:Int),(0:Int),(0:Int),(0:Int)):Jqt)=Jwl:=rfl
  dsimp only at k1 k2 k3 k4
  simp only[hzb]
  exact⟨by(repeat' first|apply And.intro|omega),by(repeat' first|apply And.intro|omega),by(repeat' first|apply And.intro|omega),by(repeat' first|apply And.intro|omega),(k+1,s+((Zs l).getD k Jwl).2.2.1,g+((Zs l).getD k Jwl).2.2.2.1),by(repeat' first|exact rfl|exact⟨⟩|apply And.intro|omega|dsimp only;omega),⟨by(first|omega|dsimp only;omega),by(first|omega|dsimp only;omega),by(first|omega|dsimp only;omega),k4⟩,by(first|omega|dsimp only;omega)⟩
 ·obtain⟨k,s,g⟩:=x
  have hlt:¬k<(Zs l).length:=by simpa using h1
  obtain⟨k1,k2,k3,k4⟩:=hk
  have:k=(Zs l).length:=by dsimp only at k1;omega
  rw[this,List.drop_length,Jtg] at k4
  have e:Jbp l=if s=0 then((0,0),6) else(Jrt (s-g) s,0):=by
   unfold Jbp Kao
   rw[if_pos h]
   rw[show((Jo l).2.2.2.1.map (Un (Jo l).2.1 (Jo l).2.2.2.2.1))=Zs l from rfl,←k4]
  dsimp only at k2 k3
  rw[e]
  refine⟨fun h2=> ?_,fun h2=> ?_⟩
  ·have h2:s=0:=by simpa using h2
   rw[if_pos h2]
   exact⟨rfl,rfl⟩
  ·have h2:s≠0:=by simpa using h2
   rw[if_neg h2]
   refine⟨⟨?_, ?_, ?_⟩,rfl,rfl⟩
   all_goals dsimp only
   all_goals (repeat' first|apply And.intro|omega)
abbrev K2s:=K2t.add K48
def K58:Con:={args:=[.ref 167 Jit],ress:=[(true,Jm3)],owns:=[],pre:=fun(h,_)=>[Kd h],spec:=fun(h,_)=>(Kc h.2.2,())}
theorem K4y:Ok Tryz.prog 75 K58:=okW K2s Tryz.f75 na fun xx=>by
 obtain⟨⟨(E:List Ev),(C:List Ev),(G:List Reg)⟩,_⟩:=xx
 refine(by kernel_rfl:(Kd (E,C,G)→Br (V2 G) (V1 G∧Yc G=Kc G) (Vs=Kc G))=_).mp ?_
 delta V2 L9 Vs V1 D6 D5 Jac Ft Ho Hn L8 Zv Fs Yc Br Iw Bd Tw Ln Gt E2
 intro hh
 have n1:E.length≤1000:=hh.nE
 have n2:C.length≤E.length:=hh.nC
 have n3:G.length=C.length:=hh.nG
 have hG:((G.length:Int)-1).toNat=G.length-1:=by omega
 refine⟨fun h=> ?_,fun h=> ?_⟩
 ·have h:(0:Int)<G.length:=of_decide_eq_true h
  rw[hG]
  exact⟨by(repeat' first|apply And.intro|omega),rfl⟩
 ·exact(Km h).symm
abbrev K2r:=K2s.add K4y
def Kbl:Con:={args:=[.val false (.list 67 sEv), .fn [(true,sEv)] Bo],ress:=[(false, .list 67 sEv)],owns:=[true],pre:=fun(l,(q,_),_)=>[l.length≤1000000,∀x∈l,Ul (q (x,()))],spec:=fun(l,(_,f),_)=>(l.filter fun x=>f (x,()),())}
def J25 (a:Ev×Unit→Bool) (b:Nat) (c:List Ev):=List.filter (fun(x:Ev)=>a (x,PUnit.unit)) (List.take b c)
theorem K4v:Ok Tryz.prog 78 Kbl:=okW K2r Tryz.f78 (fun xx=>Xo (Joc 67 67 sEv xx.1 true xx.2.1.1 xx.2.1.2)) fun xx=>by
 obtain⟨(l:List Ev),⟨(q:Ev×Unit→List Prop),(f:Ev×Unit→Bool)⟩,_⟩:=xx
 refine(by kernel_rfl:(Z39 l→J8w l q→∃(x:Nat),Si (Ln l) (0=Nc x∧Sf l ((fun(x:Ev×PUnit)=>q x)=q∧(fun(x:Ev×PUnit)=>f x)=f∧List.length (J25 f x l)=0))∧x≤List.length l∧∀(x:Nat),x≤List.length l→Br (decide (Nc x<Ln l)) (Tw (Z12 x l)∧J8c q l x∧Br (f (J55 l x)) ((List.length (J25 f x l)+1)*88≤140737488355328∧Z20 x∧∃(y:Nat),Si (Ln l) (V5 x y∧Sf l ((fun(x:Ev×PUnit)=>q x)=q∧(fun(x:Ev×PUnit)=>f x)=f∧J25 f x l++[Kdf l x]=J25 f y l))∧J6h y l x) (Z20 x∧∃(y:Nat),Si (Ln l) (V5 x y∧Sf l ((fun(x:Ev×PUnit)=>q x)=q∧(fun(x:Ev×PUnit)=>f x)=f∧J25 f x l=J25 f y l))∧J6h y l x)) (J25 f x l=List.filter (fun(x:Ev)=>f (x,PUnit.unit)) l))=_).mp ?_
 delta Z12 Z20 Z39 V5 J06 Jad J25 J6n J6i J6h J6g J8w Kdf J55 J8c Br Iw Bd Tw Sf Si Ln Nc B0 E2
 intro hb hq
 refine⟨(0:Nat),⟨rfl,rfl,rfl,rfl,rfl,by simp⟩,Nat.zero_le _,fun(k:Nat) hk=>⟨fun h=> ?_,fun h=> ?_⟩⟩
 ·have hlt:k<l.length:=by simpa using h
  have hf:=Jfk (p:=fun x=>f (x,())) hk
  have ht:=U3 (d:=ev0) hlt
  refine⟨by omega,hq (l.getD k ev0) (Jc hlt),fun h1=> ?_,fun h1=> ?_⟩
  ·have h1:f (l.getD k ev0,())=true:=h1
   refine⟨by show((List.filter (fun x=>f (x,())) (List.take k l)).length+1)*88≤_;omega,by omega,(k+1:Nat),⟨rfl,by simp,rfl,rfl,rfl, ?_⟩,by omega,by omega⟩
   rw[←ht,List.filter_append,List.filter_cons,if_pos h1];rfl
  ·have h1:f (l.getD k ev0,())=false:=h1
   refine⟨by omega,(k+1:Nat),⟨rfl,by simp,rfl,rfl,rfl, ?_⟩,by omega,by omega⟩
   rw[←ht,List.filter_append,List.filter_cons,if_neg (by rw[h1];decide)];simp
 ·have hlt:¬k<l.length:=by simpa using h
  rw[List.take_of_length_le (by omega)]
abbrev K2q:=K2r.add K4v
def Kbi:Con:={args:=[.val false (.list 67 sEv), .fn [(true,sEv)] (true,sEv)],ress:=[(false, .list 67 sEv)],owns:=[true],pre:=fun(l,(q,_),_)=>[l.length≤1000000,∀x∈l,Ul (q (x,()))],spec:=fun(l,(_,f),_)=>(l.map fun x=>f (x,()),())}
def J9h (a:Ev×Unit→Ev) (b:Nat) (c:List Ev):=List.map (fun(x:Ev)=>a (x,PUnit.unit)) (List.take b c)
def Kun (a:Ev×Unit→Ev) (b:List Ev) (c:Nat):=a (J55 b c)
def Kum (a:Ev×Unit→Ev) (b:List Ev) (c:Nat):=(Kun a b c).2
def Kul (a:Ev×Unit→Ev) (b:List Ev) (c:Nat):=(Kum a b c).2
theorem K4w:Ok Tryz.prog 77 Kbi:=okW K2q Tryz.f77 (fun xx=>Xo (Ja8 67 67 sEv xx.1 (true,sEv) true xx.2.1.1 xx.2.1.2)) fun xx=>by
 obtain⟨(l:List Ev),⟨(q:Ev×Unit→List Prop),(f:Ev×Unit→Ev)⟩,_⟩:=xx
 refine(by kernel_rfl:(Z39 l→J8w l q→∃(x:Nat),Si (Ln l) (0=Nc x∧Sf l ((fun(x:Ev×PUnit)=>q x)=q∧(fun(x:Ev×PUnit)=>f x)=f∧List.length (J9h f x l)=0))∧x≤List.length l∧∀(x:Nat),x≤List.length l→Br (decide (Nc x<Ln l)) (Tw (Z12 x l)∧(J8c q l x∧(List.length (J9h f x l)+1)*88≤140737488355328)∧Z20 x∧∃(y:Nat),Si (Ln l) (V5 x y∧Sf l ((fun(x:Ev×PUnit)=>q x)=q∧(fun(x:Ev×PUnit)=>f x)=f∧J9h f x l++[((Kun f l x).1,(Kum f l x).1,(Kul f l x).1,E2 (Kul f l x).2)]=J9h f y l))∧J6h y l x) (J9h f x l=List.map (fun(x:Ev)=>f (x,PUnit.unit)) l))=_).mp ?_
 delta Z12 Z20 Z39 V5 J06 Jad J9h J6n J6i J6h J6g J8w Kdf J55 Kun Kum Kul J8c Br Iw Bd Tw Sf Si Ln Nc B0 E2
 intro hb hq
 refine⟨(0:Nat),⟨rfl,rfl,rfl,rfl,rfl,by simp⟩,Nat.zero_le _,fun(k:Nat) hk=>⟨fun h=> ?_,fun h=> ?_⟩⟩
 ·have hlt:k<l.length:=by simpa using h
  refine⟨by omega,⟨hq (l.getD k ev0) (Jc hlt),by simp only[List.length_map,List.length_take];omega⟩,by omega,(k+1:Nat),⟨rfl,by simp,rfl,rfl,rfl, ?_⟩,by omega,by omega⟩
  rw[←U3 (d:=ev0) hlt,List.map_append];rfl
 ·have hlt:¬k<l.length:=by simpa using h
  rw[List.take_of_length_le (by omega)]
abbrev K2p:=K2q.add K4w
def Xw:List Ev→Nat→List Ev
 |[],_=>[]
 |e::l,i=>((i:Int)+1,e.2)::Xw l (i+1)
def Zb (l:List Ev) (s:ByteArray):Int:=Jf [(Jg l).2.2,bif (bif (Jg l).2.2==0 then !Vf (Jo l) 0 s else false) then 10 else 0]
def Y5 (l:List Ev) (s:ByteArray):List Ev:=(Jg l).1.2.1.filter fun e=>abS (Jo l) e s
def Jak (l:List Ev) (s:ByteArray):List Ev:=if Zb l s=0 then Xw (Y5 l s) 0 else[]
def Kaz:Con:={args:=[.val false (.list 67 sEv),aS],ress:=[(false, .list 67 sEv),I],owns:=[],pre:=fun(l,_)=>[lOk l],spec:=fun(l,s,_)=>(Jak l s,Zb l s,())}
theorem Dt:∀(l:List Ev) (i:Nat),(Xw l i).length=l.length
 |[],_=>rfl
 |_::l,i=>by unfold Xw;rw[List.length_cons,List.length_cons,Dt l]
theorem Jg8:∀(a b:List Ev) (i:Nat),Xw (a++b) i=Xw a i++Xw b (i+a.length)
 |[],_,_=>rfl
 |x::a,b,i=>by
  rw[List.cons_append,Xw,Xw,Jg8 a b (i+1),List.cons_append,List.length_cons,show i+1+a.length=i+(a.length+1) by omega]
theorem Jt7 {L:List Ev} {k:Nat} (h:k<L.length):(Xw (L.take k) 0++L.drop k).getD k ev0=L.getD k ev0:=by
 have hl:(Xw (L.take k) 0).length=k:=by rw[Dt,List.length_take];omega
 rw[Js (d:=ev0) h,List.getD_eq_getElem?_getD,List.getElem?_append_right (by omega),hl,Nat.sub_self]
 rfl
theorem Jt6 {L:List Ev} {k:Nat} (h:k<L.length):(Xw (L.take k) 0++L.drop k).set k ((k:Int)+1,(L.getD k ev0).2)=Xw (L.take (k+1)) 0++L.drop (k+1):=by
 have hl:(Xw (L.take k) 0).length=k:=by rw[Dt,List.length_take];omega
 rw[Js (d:=ev0) h,List.set_append_right _ _ (by omega),hl,Nat.sub_self,List.set_cons_zero,←U3 (d:=ev0) h,Jg8,List.append_assoc,List.length_take,Nat.min_eq_left (by omega),Nat.zero_add]
 rfl
theorem Joz:∀{l:List Ev} {h:Kn},∀e∈(Jc0 h l).1.2.1,e∈h.2.1∨e∈l
 |[],_,e,he=> .inl he
 | x :: l, h, e, he => by
  unfold Jc0 at he
  by_cases ha:Uk h x=0
  ·rw[if_pos ha] at he
   rcases Joz e he with h1|h1
   ·unfold D1 at h1
    cases hk:x.2.1.toList==Jz.toList with
    |true=>rw[hk,cond_true] at h1;exact .inl (List.mem_of_mem_take h1)
    |false=>
     rw[hk,cond_false] at h1
     rcases Yf h1 with h2|rfl
     ·exact .inl h2
     ·exact .inr (List.mem_cons_self ..)
   ·exact .inr (List.mem_cons_of_mem _ h1)
  ·rw[if_neg ha] at he;exact .inl he
theorem Jrg {l:List Ev}:∀e∈(Jg l).1.2.1,e∈l:=by
 unfold Jg
 by_cases h:1000<l.length
 ·rw[if_pos h];intro e he;cases he
 ·rw[if_neg h];intro e he;exact(Joz e he).elim (fun h=>by cases h) id
abbrev J5l (l:List Ev) (s:ByteArray):Ann:={X:=Kn×Nat,σ:=fun(h,k)=>⟨8,[(5, .one (.ptr 3 0)),(14, .one (.sl 0)),(15, .one (.int .i64 l.length)),(16, .one (.int .i64 k))],[(0, .imm 67 sEv l),(1, .box 9 [.str s]),(2, .sus [(3, .one (.ptr 1 0))]),(3, .box 167 [.sl 5, .sl 6, .sl 7]),(5, .own 67 sEv h.1),(6, .own 67 sEv h.2.1),(7, .own 105 Jm3 h.2.2)]⟩,inv:=fun(h,k)=>Y3 h∧h.1.length=k∧k≤l.length∧l.length≤1000∧Jc0 h (l.drop k)=Jg l,mu:=fun(_,k)=>l.length-k}
abbrev Kcg (L:List Ev):Ann:={X:=Nat,σ:=fun k=>⟨1,[(11, .one (.sl 0)),(44, .one (.sl 0)),(45, .one (.int .i64 L.length)),(46, .one (.int .i64 k))],[(0, .own 67 sEv (Xw (L.take k) 0++L.drop k))]⟩,inv:=fun k=>k≤L.length,mu:=fun k=>L.length-k}
def J6c (a:Nat) (b:List Ev) (c:Bt):=Xw (List.take a (Y5 b c)) 0++List.drop a (Y5 b c)
def Kk4 (a:Ev):=List.length a.2.2.1≤1000000∧List.length a.2.2.2.1≤1000000
def Kd1 (a:Kn×Nat):=((Kc a.1.2.2).1,(Kc a.1.2.2).2.1,(Kc a.1.2.2).2.2.1,(Kc a.1.2.2).2.2.2.1,(Kc a.1.2.2).2.2.2.2.1,E2 (Kc a.1.2.2).2.2.2.2.2)
def Kwd (a:Kn×Nat):=Jk (Kd1 a)
def Khk (a:Kn×Nat) (b:Bt):=List.filter (fun(x:Ev)=>abS (Kd1 a) x b) a.1.2.1
def Ku5 (a:Kn×Nat) (b:Bt):=List.map (fun(x:Ev)=>x) (Khk a b)
def Kuv (a:Kn×Nat) (b:Bt):=Jf [0,bif bif true then !Vf (Kd1 a) 0 b else false then 10 else 0]
def Kt3 (a:Kn×Nat) (b:List Ev):=J8b a b==0
def Kt1 (a:Kn×Nat) (b:List Ev):=Kt3 a b=true
def J7v (a:Kn×Nat) (b:List Ev) (c:Bt):=Jf [J8b a b,bif bif Kt3 a b then Kjl c else false then 10 else 0]
theorem K5s:Ok Tryz.prog 16 Kaz:=J16 K2p Tryz.f16 (U6 (l:=([(74,Tryz.f74)]:List (Nat×Func))) (List.forall_mem_cons.2 ⟨by kernel_rfl,by simp⟩)) (fun xx=>Xo (Kcg (Y5 xx.1 xx.2.1))) (fun xx=>fun f id=>if f=74 then some (J5l xx.1 xx.2.1) else none) fun xx=>by
 obtain⟨(l:List Ev),(s:ByteArray),_⟩:=xx
 refine(by kernel_rfl:(lOk l→Br (decide (1000<Ln l)) ((Z41∧Jba∧2≤1000000)∧Br true (Sf true ([]=Jak l s∧Jf [5,0]=Zb l s)) (Tw False)) (∃(x:(List Ev×List Ev×List Reg)×Nat),Si (Ln l) (0=Nc x.2∧Sf l (Sf s (Kjo x)))∧Kd9 x l∧∀(x:Kn×Nat),Kid x l→Br (decide (Nc x.2<Ln l)) (Tw (Z29 x l)∧Kgu x l∧Br (Kdb x l) (Z33 x∧((Kt1 x l→False)∧(Kt1 x l→Yr)∧2≤1000000)∧Br (J7v x l s !=0) (Sf true ([]=Jak l s∧J7v x l s=Zb l s)) (Tw False)) (Z33 x∧∃(y:(List Ev×List Ev×List Reg)×Nat),Si (Ln l) (Jyj x y∧Sf l (Sf s (J1h x l y)))∧Khl y l x)) (((true=true→Kfq x)∧(true=true→Kwd x)∧2≤1000000)∧Br (Kuv x s !=0) (Sf true ([]=Jak l s∧Kuv x s=Zb l s)) (Kfq x∧(List.length x.1.2.1≤1000000∧(∀(x_1:Ev),x_1∈x.1.2.1→Kwd x∧Jgw (Kd1 x) x_1)∧List.length (Khk x s)≤1000000∧∀(x_1:Ev),x_1∈Khk x s→Kk4 x_1)∧∃(x_1:Nat),(Ln (Ku5 x s)=Ln (Y5 l s)∧0=Nc x_1∧Ku5 x s=J6c x_1 l s)∧x_1≤List.length (Y5 l s)∧∀(x:Nat),x≤List.length (Y5 l s)→Br (decide (Nc x<Ln (Y5 l s))) ((Z20 x∧Tw (Bd (Nc x) (Ln (J6c x l s))))∧Z20 x∧∃(y:Nat),Si (Ln (Y5 l s)) (V5 x y∧List.set (J6c x l s) x (Nc x+1,(List.getD (J6c x l s) x Jad).2)=J6c y l s)∧y≤List.length (Y5 l s)∧List.length (Y5 l s)-y<List.length (Y5 l s)-x) (Sf true (J6c x l s=Jak l s∧0=Zb l s))))))=_).mp ?_
 delta Z20 Z29 Z33 Z41 V5 Jyj Jyh Jad Kfq J80 J8z J2y L9 J6c Kk4 Vs Yr Kjo Kjl Jba Keg Kef Kid Kd9 Kd1 Kwd Khl Khk Ku5 Kuv Jx6 Kgx J8b Kgw Kt3 Kt1 Kgu Kdb J7v J1h Br Iw Bd Tw Sf Si Ln Nc B0 E2
 intro hl
 refine⟨fun h=> ?_,fun h=> ?_⟩
 ·have e:Jg l=(Zx,0,5):=by unfold Jg;rw[if_pos (by have:=of_decide_eq_true h;omega)]
  have eE:Zb l s=5:=by unfold Zb;rw[e];rfl
  refine⟨⟨fun h=>(by cases h),fun h=>(by cases h),by decide⟩,fun _=>⟨rfl, ?_,eE.symm⟩,fun h=>(by cases h)⟩
  unfold Jak;rw[if_neg (by rw[eE];decide)]
 have hn:l.length≤1000:=by have:=of_decide_eq_false h;omega
 have e0:Jg l=Jc0 Zx l:=by unfold Jg;rw[if_neg (by omega)]
 refine⟨(Zx,(0:Nat)),⟨rfl,rfl,rfl,rfl,rfl,rfl,rfl⟩,⟨Hb,rfl,Nat.zero_le _,hn,e0.symm⟩,fun(x:Kn×Nat) hx=>⟨fun h1=> ?_,fun h1=> ?_⟩⟩
 ·obtain⟨g,k⟩:=x
  obtain⟨hi,hk,hk2,_,hrun⟩:=hx
  dsimp only at hi hk hk2 hrun
  have hlt:k<l.length:=by simpa using h1
  rw[Js (d:=ev0) hlt,Jc0] at hrun
  have hz:=hl.2 _ (Jc (d:=ev0) hlt)
  have hev:(0,({data:={toList:=[]}}:ByteArray),([]:List ByteArray),([]:List Int),({data:={toList:=[]}}:ByteArray))=ev0:=rfl
  simp only[hev,Prod.eta]
  refine⟨by omega,⟨hi.ok,(show g.1.length<1000 by omega),hz⟩,fun h2=> ?_,fun h2=> ?_⟩
  ·have n2:Uk g (l.getD k ev0)≠0:=bne_iff_ne.1 h2
   rw[if_neg n2] at hrun
   have b2:(Uk g (l.getD k ev0)==0)=false:=beq_eq_false_iff_ne.2 n2
   have eE:Zb l s=Uk g (l.getD k ev0):=by
    unfold Zb
    rw[←hrun]
    simp only[b2,cond_false]
    unfold Jf
    rw[if_neg n2]
   simp only[b2,cond_false]
   refine⟨by(repeat' first|apply And.intro|(first|omega|dsimp only;omega)),⟨fun h=>(nomatch h),fun h=>(nomatch h),by decide⟩,fun _=>⟨trivial, ?_, ?_⟩,fun h=> ?_⟩
   ·unfold Jak;rw[if_neg (by rw[eE];exact n2)]
   ·rw[eE];unfold Jf;rw[if_neg n2]
   ·have h:=bne_eq_false_iff_eq.1 h
    unfold Jf at h;rw[if_neg n2] at h;exact absurd h n2
  ·have z2:Uk g (l.getD k ev0)=0:=bne_eq_false_iff_eq.1 h2
   rw[if_pos z2] at hrun
   have ea:Vj g (l.getD k ev0)=D1 g (l.getD k ev0):=by unfold Vj;rw[if_pos z2]
   rw[ea]
   have hk3:(D1 g (l.getD k ev0)).1.length=g.1.length+1:=D0
   exact⟨by(repeat' first|apply And.intro|(first|omega|dsimp only;omega)),(D1 g (l.getD k ev0),k+1),by(repeat' first|exact rfl|exact⟨⟩|apply And.intro|omega|dsimp only;omega),⟨Jf2 hi (by(first|omega|dsimp only;omega)) z2,by(first|omega|dsimp only;omega),by(first|omega|dsimp only;omega),hn,hrun⟩,by(first|omega|dsimp only;omega)⟩
 ·obtain⟨g,k⟩:=x
  obtain⟨hi,hk,hk2,_,hrun⟩:=hx
  dsimp only at hi hk hk2 hrun
  have hlt:¬k<l.length:=by simpa using h1
  have:k=l.length:=by omega
  rw[this,List.drop_length,Jc0] at hrun
  simp only[Prod.eta]
  have eR:Jo l=Kc g.2.2:=by unfold Jo;rw[←hrun];rfl
  have eE:Zb l s=Jf [0,bif bif true then !Vf (Kc g.2.2) 0 s else false then 10 else 0]:=by
   unfold Zb;rw[←hrun,eR];rfl
  have eL:Y5 l s=g.2.1.filter fun e=>abS (Kc g.2.2) e s:=by unfold Y5;rw[←hrun,eR]
  rw[←eE]
  have hA:Jmd g:=by have:=Jy8 (l:=l);rw[←hrun] at this;exact this
  have nE:g.1.length≤1000:=hi.ok.nE
  have nC:g.2.1.length≤g.1.length:=hi.ok.nC
  have hsub:∀e∈g.2.1,e∈l:=by have:=Jrg (l:=l);rw[←hrun] at this;exact this
  have hfl:=List.length_filter_le (fun e=>abS (Kc g.2.2) e s) g.2.1
  have hL:(Y5 l s).length≤1000:=by rw[eL];omega
  refine⟨⟨fun _=>hi.ok,fun _=>X0 hi.ok,by decide⟩,fun h2=>⟨trivial, ?_,rfl⟩,fun h2=>⟨hi.ok,⟨Nat.le_trans nC (by omega),fun x hx=>⟨X0 hi.ok,Kan hi hA hx⟩,Nat.le_trans hfl (by omega),fun x hx=> ?_⟩,(0:Nat),⟨?_,rfl, ?_⟩,Nat.zero_le _,fun(k:Nat) hk=>⟨fun h3=> ?_,fun h3=> ?_⟩⟩⟩
  ·unfold Jak;rw[if_neg (bne_iff_ne.1 h2)]
  ·have:=hl.2 x (hsub x (List.mem_filter.1 hx).1)
   exact⟨this.1,this.2.1⟩
  ·rw[eL,List.map_id']
  ·rw[eL,List.map_id'];rfl
  ·have hlt:k<(Y5 l s).length:=by simpa using h3
   have hev:(0,({data:={toList:=[]}}:ByteArray),([]:List ByteArray),([]:List Int),({data:={toList:=[]}}:ByteArray))=ev0:=rfl
   rw[hev,Jt7 hlt]
   refine⟨⟨by omega, ?_⟩,by omega,(k+1:Nat),⟨trivial,by simp,Jt6 hlt⟩,by omega,by omega⟩
   rw[List.length_append,Dt,List.length_take,List.length_drop]
   omega
  ·have hlt:¬k<(Y5 l s).length:=by simpa using h3
   have:k=(Y5 l s).length:=by omega
   have z:Zb l s=0:=bne_eq_false_iff_eq.1 h2
   refine⟨trivial, ?_,z.symm⟩
   unfold Jak
   rw[if_pos z,this,List.take_length,List.drop_length,List.append_nil]
abbrev K69:=K2p.add K5s
namespace Cmp
open Go.Sx
set_option maxHeartbeats 20000000
def Krd:Con:={args:=[.val true Hi, .val true Hi],ress:=[I],owns:=[],pre:=fun(x,y,_)=>[-1000000000≤x.1∧x.1≤1000000000,-1000000000≤y.1∧y.1≤1000000000],spec:=fun(x,y,_)=>(x.1-y.1,())}
theorem ok98 [Sx.Dr]:Ok Tryz.prog 98 Krd:=okW W82 Tryz.f98 na fun xx=>by
 obtain⟨⟨(a:Int),(b:Int)⟩,⟨(c:Int),(d:Int)⟩,_⟩:=xx
 refine(by kernel_rfl:((-1000000000)≤a∧a≤1000000000→(-1000000000)≤c∧c≤1000000000→Iw (a-c)∧a-c=a-c)=_).mp ?_
 delta Iw
 intro h1 h2
 exact⟨by omega,rfl⟩
abbrev W83 [Sx.Dr]:=W82.add ok98
end Cmp
end Go.Proofs.YtcibbcfiemeoiaaGreatDoor

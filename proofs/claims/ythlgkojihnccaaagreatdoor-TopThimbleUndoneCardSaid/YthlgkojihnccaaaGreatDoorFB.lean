/- Contracts of the functions that the law reaches: part of the proof. -/
import Derived.Test.YthlgkojihnccaaaGreatDoorFA
import Derived.Shelf.Strconv.ErrVarAll
import Derived.Lib.ItoaLen
import Derived.Lib.ItoaMem
set_option linter.unusedSimpArgs false
set_option linter.unusedVariables false
set_option maxRecDepth 20000
namespace Go.Proofs.YthlgkojihnccaaaGreatDoor
open Go.Sx
set_option maxHeartbeats 20000000
abbrev Jnz:=ByteArray×Int×Int×Int×Int×Int
abbrev Jqw:Sch:= .prod .str (.prod sI (.prod sI (.prod sI (.prod sI sI))))
abbrev Jlv:=Int×Int×Int×Int
def Jrt (M:List Met) (s:ByteArray) (h:Int):Met:=M.getD (Ub M s h).toNat Jmo
def Jhm (st:Int) (M:List Met) (x:Ord):Int→Nat→Jlv→Jlv
 |_,0,a=>a
 |h,n+1,(c,s,g,f)=>Jhm st M x (h+1) n (bif Ka x h&&decide (h<st) then(c+1,s+(Jrt M x.1 h).2.2.1,g+(Jrt M x.1 h).2.2.2,f+3*(x.2.2.2.2.1-(Jrt M x.1 h).2.2.2)) else(c,s,g,f))
def Hm (st:Int) (M:List Met) (x:Ord):Jlv:=Jhm st M x x.2.2.2.1.1 (K1 x) (0,0,0,0)
def Uy (st:Int) (M:List Met) (x:Ord):Jnz:=(x.1,(Hm st M x).1,(Hm st M x).2.1,(Hm st M x).2.2.1,(Hm st M x).2.2.1*x.2.2.2.2.2.1,(Hm st M x).2.2.2)
def Kis:Con:={args:=[Jat, .val true Yn],ress:=[(true,Jqw)],owns:=[],pre:=fun(r,x,_)=>[Js r,x∈r.2.2.2.1],spec:=fun((_,st,_,_,M,_),x,_)=>(Uy st M x,())}
abbrev J1a (tk st:Int) (S:List Sta) (O:List Ord) (M:List Met) (X:List Out) (Q:List Per) (x:Ord):Ann:={X:=Nat×Jlv,σ:=fun(j,c,s,g,f)=>⟨14,[(0, .one (.fv 12)),(1, .one (.ptr 10 0)),(3, .one (.int .i64 (x.2.2.2.1.1+j)))],[(0, .imm 109 Xc S),(1, .imm 110 Yn O),(2, .imm 111 Xx M),(3, .imm 112 Xi X),(4, .imm 113 Yv Q),(5, .box 48 [.int .i64 tk, .int .i64 st, .sl 0, .sl 1, .sl 2, .sl 3, .sl 4]),(6, .box 110 (bxO x)),(7, .box 125 [.str Jd, .int .i64 0, .int .i64 0, .int .i64 0, .int .i64 0, .int .i64 0]),(8, .box 125 [.str x.1, .int .i64 c, .int .i64 s, .int .i64 g, .int .i64 0, .int .i64 f]),(10, .box 110 (bxO x)),(12, .yld .ready),(13, .sus [(2, .one (.ptr 5 0)),(3, .one (.ptr 6 0)),(4, .one (.ptr 7 0)),(5, .one (.ptr 8 0))])]⟩,inv:=fun(j,c,s,g,f)=>j≤K1 x∧(0≤c∧c≤j)∧(0≤s∧s≤1000*j)∧(0≤g∧g≤1000*j)∧(-3000*j≤f∧f≤3000*j)∧Jhm st M x (x.2.2.2.1.1+j) (K1 x-j) (c,s,g,f)=Hm st M x,mu:=fun(j,_)=>K1 x-j}
def Kd8 (a:List Met) (b:Bt) (c:Int) (d:Nat×Jlv):=(Gt a (Ub a b (c+Nc d.1)) Juy).2.2
def Kdw (a:Int) (b:List Met) (c:Bt) (d:Int) (e:Nat×Jlv):=a-(Kd8 b c d e).2
def Kdl (a:Nat×Jlv) (b:List Met) (c:Bt) (d:Int):=a.2.2.1+(Kd8 b c d a).1
def J3l (a:Nat×Jlv) (b:List Met) (c:Bt) (d:Int):=a.2.2.2.1+(Kd8 b c d a).2
def Kct (a:Nat×Jlv) (b:Int) (c:List Met) (d:Bt) (e:Int):=a.2.2.2.2+3*Kdw b c d e a
def Kmo (a:Nat) (b c d:Bt) (e f g h i j k l m n:Int) (o:List Met):=a≤K1 (b,c,d,(e,f),g,h,i)∧(0≤j∧j≤Nc a)∧(0≤k∧k≤1000*Nc a)∧(0≤l∧l≤1000*Nc a)∧((-3000)*Nc a≤m∧m≤3000*Nc a)∧Jhm n o (b,c,d,(e,f),g,h,i) (e+Nc a) (K1 (b,c,d,(e,f),g,h,i)-a) (j,k,l,m)=Hm n o (b,c,d,(e,f),g,h,i)
def Kmc (a:Nat×Int×Int×Int×Int) (b c d:Bt) (e f g h i j:Int) (k:List Met):=match a with|(j_1,c_1,s,g_1,f_1)=>Kmo j_1 b c d e f g h i c_1 s g_1 f_1 j k
def Klv (a:Nat×Int×Int×Int×Int) (b c d:Bt) (e f g h i j:Int) (k:List Met) (l:Nat×Jlv):=Kmc a b c d e f g h i j k∧K1 (b,c,d,(e,f),g,h,i)-a.1<K1 (b,c,d,(e,f),g,h,i)-l.1
def Kj2 (a:Nat×Jlv) (b:Int) (c:Bt) (d:Int) (e:List Met) (f g:Bt) (h i j k:Int) (l:List Sta) (m:List Ord) (n:List Out) (o:List Per) (p:Int):=Br false (Iw (a.2.2.2.1*b)∧Sf true ((c,a.2.1,a.2.2.1,a.2.2.2.1,a.2.2.2.1*b,a.2.2.2.2)=Uy d e (c,f,g,(h,i),j,b,k))) (Iw (h+Nc a.1+1)∧∃(y:Nat×Int×Int×Int×Int),(h+Nc a.1+1=h+Nc y.1∧Sf l (Sf m (Sf e (Sf n (Sf o (Si p (Si d (Sf c (Sf f (Sf g (Si h (Si i (Si j (Si b (Si k (Sf Jd (Si 0 (Si 0 (Si 0 (Si 0 (Si 0 (Sf c (a.2.1=y.2.1∧a.2.2.1=y.2.2.1∧a.2.2.2.1=y.2.2.2.1∧Si 0 (a.2.2.2.2=y.2.2.2.2∧Sf c (Sf f (Sf g (Si h (Si i (Si j (Si b (k=k)))))))))))))))))))))))))))))))∧Klv y c f g h i j b k d e a)
theorem Kwu:Ok Tryz.prog 42 Kis:=Jvw W94 Tryz.f42 (Uq (l:=([(76,Tryz.f76),(133,Tryz.f133)]:List (Nat×Func))) (List.forall_mem_cons.2 ⟨by kernel_rfl,List.forall_mem_cons.2 ⟨by kernel_rfl,by simp⟩⟩)) (fun xx=>na ()) (fun xx=>fun f' id=>if f'=133 then some (J1a xx.1.1 xx.1.2.1 xx.1.2.2.1 xx.1.2.2.2.1 xx.1.2.2.2.2.1 xx.1.2.2.2.2.2.1 xx.1.2.2.2.2.2.2 (xx.2.1.1,xx.2.1.2.1,xx.2.1.2.2.1,(xx.2.1.2.2.2.1.1,xx.2.1.2.2.2.1.2),xx.2.1.2.2.2.2.1,xx.2.1.2.2.2.2.2.1,xx.2.1.2.2.2.2.2.2)) else none) fun xx=>by
 obtain⟨⟨(tk:Int),(st:Int),(S:List Sta),(O:List Ord),(M:List Met),(X:List Out),(Q:List Per)⟩,⟨(n:ByteArray),(f:ByteArray),(t:ByteArray),⟨(a:Int),(b:Int)⟩,(p:Int),(c:Int),(r:Int)⟩,_⟩:=xx
 refine(by kernel_rfl:(Kf tk st S O M X Q→(n,f,t,(a,b),p,c,r)∈O→∃(x:Nat×Int×Int×Int×Int),(a=a+Nc x.1∧Sf S (Sf O (Sf M (Sf X (Sf Q (Si tk (Si st (Sf n (Sf f (Sf t (Si a (Si b (Si p (Si c (Si r (B0=Jd∧Si 0 (Si 0 (Si 0 (Si 0 (Si 0 (Sf n (0=x.2.1∧0=x.2.2.1∧0=x.2.2.2.1∧Si 0 (0=x.2.2.2.2∧Sf n (Sf f (Sf t (Si a (Si b (Si p (Si c (r=r))))))))))))))))))))))))))))))∧Kmc x n f t a b p c r st M∧∀(x:Nat×Jlv),(match x with|(j,c_1,s,g,f_1)=>Kmo j n f t a b p c r c_1 s g f_1 st M)→Br (decide (a+Nc x.1<b)) (Br (Ka (n,f,t,(a,b),p,c,r) (a+Nc x.1)) (Br (decide (a+Nc x.1<st)) ((Kf tk st S O M X Q∧Tw (Bd (Ub M n (a+Nc x.1)) (Ln M)))∧Iw (x.2.1+1)∧Iw (Kdl x M n a)∧Iw (J3l x M n a)∧(Iw (Kdw p M n a x)∧Iw (3*Kdw p M n a x)∧Iw (Kct x p M n a))∧Br false (Iw (J3l x M n a*c)∧Sf true ((n,x.2.1+1,Kdl x M n a,J3l x M n a,J3l x M n a*c,Kct x p M n a)=Uy st M (n,f,t,(a,b),p,c,r))) (Iw (a+Nc x.1+1)∧∃(y:Nat×Int×Int×Int×Int),(a+Nc x.1+1=a+Nc y.1∧Sf S (Sf O (Sf M (Sf X (Sf Q (Si tk (Si st (Sf n (Sf f (Sf t (Si a (Si b (Si p (Si c (Si r (Sf Jd (Si 0 (Si 0 (Si 0 (Si 0 (Si 0 (Sf n (x.2.1+1=y.2.1∧Kdl x M n a=y.2.2.1∧J3l x M n a=y.2.2.2.1∧Si 0 (Kct x p M n a=y.2.2.2.2∧Sf n (Sf f (Sf t (Si a (Si b (Si p (Si c (r=r)))))))))))))))))))))))))))))))∧Klv y n f t a b p c r st M x)) (Kj2 x c n st M f t a b p r S O X Q tk)) (Kj2 x c n st M f t a b p r S O X Q tk)) (Iw (x.2.2.2.1*c)∧Sf true ((n,x.2.1,x.2.2.1,x.2.2.2.1,x.2.2.2.1*c,x.2.2.2.2)=Uy st M (n,f,t,(a,b),p,c,r))))=_).mp ?_
 delta Z62 Z72 Juy Kf Kd8 Kdw Kdl J3l Kct Kmo Kmc Klv Kj2 Br Iw Bd Tw Sf Si Ln Nc Gt B0
 intro hr hx
 have hO:=hr.ord _ hx
 have hD:=hr.done _ hx
 have b0:=hO.span.lo
 have b1:=hO.span.mid
 have b2:=hO.span.hi
 have b3:=hO.span.len
 have bp:=hO.pow
 have bc:=hO.pri
 have hn:K1 (n,f,t,(a,b),p,c,r)≤48∧(K1 (n,f,t,(a,b),p,c,r):Int)=b-a:=by
  dsimp only at b1 b3
  unfold K1
  constructor<;>dsimp only<;>omega
 dsimp only at b0 b1 b2 b3 bp bc hD
 refine⟨((0:Nat),(0,0,0,0)),by(repeat' first|exact rfl|apply And.intro|exact(Int.add_zero _).symm|omega|dsimp only;omega),⟨Nat.zero_le _,by omega,by omega,by omega,by omega, ?_⟩,fun(y:Nat×Jlv) hy=>⟨fun h1=> ?_,fun h1=> ?_⟩⟩
 ·unfold Hm
  rw[Nat.sub_zero]
  simp only[Int.natCast_zero,Int.add_zero]
 ·obtain⟨j,c1,s1,g1,f1⟩:=y
  obtain⟨k1,k2,k3,k4,k5,k6⟩:=hy
  have h1:a+(j:Int)<b:=of_decide_eq_true h1
  have hj:K1 (n,f,t,(a,b),p,c,r)-j=(K1 (n,f,t,(a,b),p,c,r)-(j+1))+1:=by omega
  rw[hj,Jhm] at k6
  have hc:a+(j:Int)+1=a+((j+1:Nat):Int):=by omega
  have hB: -9223372036854775808≤a+(j:Int)+1∧a+(j:Int)+1≤9223372036854775807:=by omega
  refine⟨fun h2=>⟨fun h3=> ?_,fun h3=>⟨fun h=>(by cases h),fun _=>⟨hB,(j+1,c1,s1,g1,f1),by(repeat' first|exact rfl|apply And.intro|exact(Int.add_zero _).symm|omega|dsimp only;omega),⟨by(first|omega|dsimp only;omega),by(first|omega|dsimp only;omega),by(first|omega|dsimp only;omega),by(first|omega|dsimp only;omega),by(first|omega|dsimp only;omega), ?_⟩,by(first|omega|dsimp only;omega)⟩⟩⟩,fun h2=>⟨fun h=>(by cases h),fun _=>⟨hB,(j+1,c1,s1,g1,f1),by(repeat' first|exact rfl|apply And.intro|exact(Int.add_zero _).symm|omega|dsimp only;omega),⟨by(first|omega|dsimp only;omega),by(first|omega|dsimp only;omega),by(first|omega|dsimp only;omega),by(first|omega|dsimp only;omega),by(first|omega|dsimp only;omega), ?_⟩,by(first|omega|dsimp only;omega)⟩⟩⟩
  ·have h3':a+(j:Int)<st:=of_decide_eq_true h3
   have hm:0≤Ub M n (a+(j:Int)):=hD _ h2 h3'
   have hl:=Jix (l:=M) (s:=n) (h:=a+(j:Int))
   have hM:Jxi (Jrt M n (a+(j:Int))):=hr.met _ (Je (show _<M.length by omega))
   have m1:=hM.sent
   have m2:=hM.got
   have e:M.getD (Ub M n (a+(j:Int))).toNat (Jd,0,0,0)=Jrt M n (a+(j:Int)):=rfl
   simp only[]
   rw[show(({data:={toList:=[]}}:ByteArray),(0:Int),(0:Int),(0:Int))=(Jd,0,0,0) from rfl,e]
   rw[h2,h3,Bool.true_and,cond_true] at k6
   refine⟨⟨hr,⟨hm,hl⟩,hm,hl⟩,by omega,by omega,by omega,⟨by omega,by omega,by omega⟩,fun h=>(by cases h),fun _=>⟨hB,(j+1,c1+1,s1+(Jrt M n (a+(j:Int))).2.2.1,g1+(Jrt M n (a+(j:Int))).2.2.2,f1+3*(p-(Jrt M n (a+(j:Int))).2.2.2)),by(repeat' first|exact rfl|apply And.intro|exact(Int.add_zero _).symm|omega|dsimp only;omega),⟨by(first|omega|dsimp only;omega),by(first|omega|dsimp only;omega),by(first|omega|dsimp only;omega),by(first|omega|dsimp only;omega),by(first|omega|dsimp only;omega), ?_⟩,by(first|omega|dsimp only;omega)⟩⟩
   rw[hc] at k6
   exact k6
  ·rw[h3,Bool.and_false,cond_false,hc] at k6
   exact k6
  ·rw[show Ka (n,f,t,(a,b),p,c,r) (a+(j:Int))=false from h2,Bool.false_and,cond_false,hc] at k6
   exact k6
 ·obtain⟨j,c1,s1,g1,f1⟩:=y
  obtain⟨k1,k2,k3,k4,k5,k6⟩:=hy
  have h1:¬a+(j:Int)<b:=of_decide_eq_false h1
  have hj:K1 (n,f,t,(a,b),p,c,r)-j=0:=by omega
  rw[hj,Jhm] at k6
  have q1:0≤g1*c:=Int.mul_nonneg k4.1 bc.1
  have q2:g1*c≤48000*1000:=Int.mul_le_mul (by omega) bc.2 bc.1 (by decide)
  refine⟨⟨by(first|omega|dsimp only;omega),by(first|omega|dsimp only;omega)⟩,rfl, ?_⟩
  unfold Uy
  rw[←k6]
abbrev W95:=W94.add Kwu
def bd4 (k:Int) (a:Jlv):Prop:=(0≤a.1∧a.1≤k)∧(0≤a.2.1∧a.2.1≤1000*k)∧(0≤a.2.2.1∧a.2.2.1≤a.2.1)∧-3000*k≤a.2.2.2∧a.2.2.2≤3000*k
theorem Jnd {st:Int} {M:List Met} {x:Ord} (hp:1≤x.2.2.2.2.1∧x.2.2.2.2.1≤1000) (hM:∀m∈M,Jxi m) (hd:∀h,Ka x h=true→h<st→0≤Ub M x.1 h):∀(n:Nat) (h:Int) (a:Jlv) (k:Int),bd4 k a→bd4 (k+n) (Jhm st M x h n a)
 |0,_,_,k,ha=>by unfold Jhm;rw[show k+((0:Nat):Int)=k by omega];exact ha
 | n + 1, h, (c, s, g, f), k, ha => by
  unfold Jhm
  rw[show k+((n+1:Nat):Int)=(k+1)+n by omega]
  apply Jnd hp hM hd n
  unfold bd4 at ha⊢
  dsimp only at ha
  cases hb:Ka x h&&decide (h<st) with
  |false=>simp only[cond_false];omega
  |true=>
   have h1:=Bool.and_eq_true_iff.1 hb
   have hm:0≤Ub M x.1 h:=hd h h1.1 (of_decide_eq_true h1.2)
   have hl:=Jix (l:=M) (s:=x.1) (h:=h)
   have hk:Jxi (Jrt M x.1 h):=hM _ (Je (show _<M.length by omega))
   have m1:=hk.sent
   have m2:=hk.got
   simp only[cond_true]
   omega
theorem Jvk {S:List Sta} {x:Ord} (h:Jhp S x):K1 x≤48:=by
 have:=h.span.len
 have:=h.span.mid
 unfold K1
 omega
structure Jy4 (b:Jnz):Prop where
 hours:0≤b.2.1∧b.2.1≤48
 sent:0≤b.2.2.1∧b.2.2.1≤48000
 got:0≤b.2.2.2.1∧b.2.2.2.1≤b.2.2.1
 money:0≤b.2.2.2.2.1∧b.2.2.2.2.1≤48000000
 fine: -144000≤b.2.2.2.2.2∧b.2.2.2.2.2≤144000
theorem Jnc {tk st:Int} {S:List Sta} {O:List Ord} {M:List Met} {X:List Out} {Q:List Per} {x:Ord} (hr:Js (tk,st,S,O,M,X,Q)) (hx:x∈O):Jy4 (Uy st M x):=by
 have hO:=hr.ord _ hx
 have hs:=Jvk hO
 have h:=Jnd hO.pow hr.met (hr.done _ hx) (K1 x) x.2.2.2.1.1 (0,0,0,0) 0 (by unfold bd4;simp)
 have bc:=hO.pri
 unfold bd4 at h
 have h:(0≤(Hm st M x).1∧(Hm st M x).1≤0+(K1 x:Int))∧(0≤(Hm st M x).2.1∧(Hm st M x).2.1≤1000*(0+(K1 x:Int)))∧(0≤(Hm st M x).2.2.1∧(Hm st M x).2.2.1≤(Hm st M x).2.1)∧-3000*(0+(K1 x:Int))≤(Hm st M x).2.2.2∧(Hm st M x).2.2.2≤3000*(0+(K1 x:Int)):=h
 have q1:0≤(Hm st M x).2.2.1*x.2.2.2.2.2.1:=Int.mul_nonneg h.2.2.1.1 bc.1
 have q2:(Hm st M x).2.2.1*x.2.2.2.2.2.1≤48000*1000:=Int.mul_le_mul (by omega) bc.2 bc.1 (by decide)
 exact⟨by unfold Uy;(first|omega|dsimp only;omega),by unfold Uy;(first|omega|dsimp only;omega),by unfold Uy;(first|omega|dsimp only;omega),by unfold Uy;(first|omega|dsimp only;omega),by unfold Uy;(first|omega|dsimp only;omega)⟩
def Jbb (x:Ord) (a b:ByteArray):Bool:=x.2.1.toList==a.toList&&(x.2.2.1.toList==b.toList&&true)
def Kyc (st:Int) (M:List Met) (a b:ByteArray) (x:Ord) (n:Int):Int:=(bif Jbb x b a then(bif Jbb x a b then n+((Uy st M x).2.2.2.2.1-(Uy st M x).2.2.2.2.2) else n)-((Uy st M x).2.2.2.2.1-(Uy st M x).2.2.2.2.2) else(bif Jbb x a b then n+((Uy st M x).2.2.2.2.1-(Uy st M x).2.2.2.2.2) else n))
def J1j (st:Int) (M:List Met) (a b:ByteArray):List Ord→Int→Int
 |[],n=>n
 |x::l,n=>J1j st M a b l (Kyc st M a b x n)
def Jli (st:Int) (O:List Ord) (M:List Met) (a b:ByteArray):Int:=J1j st M a b O 0
def Jwu:Con:={args:=[Jat,aS,aS],ress:=[I],owns:=[],pre:=fun(r,_)=>[Js r],spec:=fun((_,st,_,O,M,_),a,b,_)=>(Jli st O M a b,())}
abbrev J6o (tk st:Int) (S:List Sta) (O:List Ord) (M:List Met) (X:List Out) (Q:List Per) (a b:ByteArray):Ann:={X:=Nat×Int,σ:=fun(k,n)=>⟨6,[(1, .one (.str a)),(2, .one (.str b)),(3, .one (.ptr 5 0)),(7, .one (.int .i64 n)),(13, .one (.sl 1)),(14, .one (.int .i64 O.length)),(15, .one (.int .i64 k))],[(0, .imm 109 Xc S),(1, .imm 110 Yn O),(2, .imm 111 Xx M),(3, .imm 112 Xi X),(4, .imm 113 Yv Q),(5, .box 48 [.int .i64 tk, .int .i64 st, .sl 0, .sl 1, .sl 2, .sl 3, .sl 4])]⟩,inv:=fun(k,n)=>k≤O.length∧(-100000000*k≤n∧n≤100000000*k)∧J1j st M a b (O.drop k) n=Jli st O M a b,mu:=fun(k,_)=>O.length-k}
def Kdf (a:List Ord) (b:Nat×Int) (c:Bt):=Lb (J8h a b) c
def Kdc (a:List Ord) (b:Nat×Int) (c:Bt):=Lb (J8e a b) c
def J7i (a:List Ord) (b c:Nat×Int) (d:List Sta) (e:List Met) (f:List Out) (g:List Per) (h i:Int):=Si (Ln a) (Jt6 b c d a e f g h i)
def Kba (a:Nat×Int) (b:List Ord) (c:Int) (d:List Met) (e f:Bt):=a.1≤List.length b∧((-100000000)*Nc a.1≤a.2∧a.2≤100000000*Nc a.1)∧J1j c d e f (List.drop a.1 b) a.2=Jli c b d e f
def Ka4 (a:List Ord) (b:Nat×Int) (c d:Bt):=Kdf a b c&&(Kdc a b d&&true)
def J7c (a:Nat×Int) (b:List Ord) (c:Int) (d:List Met) (e f:Bt) (g:Nat×Int):=Kba a b c d e f∧List.length b-a.1<List.length b-g.1
def Klu (a:Int) (b:List Met) (c:List Ord) (d:Nat×Int):=(Uy a b (J1l c d)).2.2.2.2
def J61 (a:Int) (b:List Met) (c:List Ord) (d:Nat×Int):=(Klu a b c d).1-(Klu a b c d).2
def J94 (a:Int) (b:List Met) (c:List Ord) (d:Nat×Int):=Iw (J61 a b c d)
def J93 (a:Nat×Int) (b:Int) (c:List Met) (d:List Ord):=a.2+J61 b c d a
def Kj6 (a:Nat×Int) (b:Int) (c:List Met) (d:List Ord):=a.2-J61 b c d a
def Kjr (a:Nat×Int) (b:Int) (c:List Met) (d:List Ord):=J93 a b c d-J61 b c d a
theorem Kww:Ok Tryz.prog 40 Jwu:=okW W95 Tryz.f40 (fun xx=>Ho (J6o xx.1.1 xx.1.2.1 xx.1.2.2.1 xx.1.2.2.2.1 xx.1.2.2.2.2.1 xx.1.2.2.2.2.2.1 xx.1.2.2.2.2.2.2 xx.2.1 xx.2.2.1)) fun xx=>by
 obtain⟨⟨(tk:Int),(st:Int),(S:List Sta),(O:List Ord),(M:List Met),(X:List Out),(Q:List Per)⟩,(a:ByteArray),(b:ByteArray),_⟩:=xx
 refine(by kernel_rfl:(Kf tk st S O M X Q→∃(x:Nat×Int),Sf a (Sf b (0=x.2∧Si (Ln O) (Jyi x S O M X Q tk st)))∧Kba x O st M a b∧∀(x:Nat×Int),Kba x O st M a b→Br (decide (Nc x.1<Ln O)) (Tw (Bd (Nc x.1) (Ln O))∧(Kf tk st S O M X Q∧J1l O x∈O)∧Br (Ka4 O x a b) ((J94 st M O x∧Iw (J93 x st M O))∧Br (Ka4 O x b a) ((J94 st M O x∧Iw (Kjr x st M O))∧Z42 x∧∃(y:Nat×Int),Sf a (Sf b (Kjr x st M O=y.2∧J7i O x y S M X Q tk st))∧J7c y O st M a b x) (Z42 x∧∃(y:Nat×Int),Sf a (Sf b (J93 x st M O=y.2∧J7i O x y S M X Q tk st))∧J7c y O st M a b x)) (Br (Ka4 O x b a) ((J94 st M O x∧Iw (Kj6 x st M O))∧Z42 x∧∃(y:Nat×Int),Sf a (Sf b (Kj6 x st M O=y.2∧J7i O x y S M X Q tk st))∧J7c y O st M a b x) (Z42 x∧∃(y:Nat×Int),Sf a (Sf b (x.2=y.2∧J7i O x y S M X Q tk st))∧J7c y O st M a b x))) (x.2=Jli st O M a b))=_).mp ?_
 delta Z42 Z62 Z72 Jux Kf Jej J8j J8i J8h J8g J8f J8e J8d J8b J8a Kdf Kdc Jpe Jyi Jt6 J7i Kba Ka4 J7c J1l Klu J61 J94 J93 Kj6 Kjr Br Iw Bd Tw Sf Si Ln Nc B0 Lb E2
 intro hr
 have nO:O.length≤32:=hr.nO
 refine⟨((0:Nat),(0:Int)),by(repeat' first|exact rfl|apply And.intro|exact(Int.add_zero _).symm|omega|dsimp only;omega),⟨Nat.zero_le _,by omega,rfl⟩,fun(x:Nat×Int) hk=>⟨fun h1=> ?_,fun h1=> ?_⟩⟩
 ·obtain⟨k,n⟩:=x
  have hlt:k<O.length:=by simpa using h1
  have hx:=Je (d:=Km) hlt
  have hb:=Jnc hr hx
  obtain⟨k1,k2,k3⟩:=hk
  rw[Jo (d:=Km) hlt,J1j] at k3
  have m1:=hb.money
  have m2:=hb.fine
  have hz:((({data:={toList:=[]}}:ByteArray),({data:={toList:=[]}}:ByteArray),({data:={toList:=[]}}:ByteArray),((0:Int),(0:Int)),(0:Int),(0:Int),(0:Int)):Ord)=Km:=rfl
  dsimp only at k1 k2 k3
  simp only[hz,Prod.eta]
  generalize O.getD k Km=y at*
  have k3:J1j st M a b (List.drop (k+1) O) (bif Jbb y b a then(bif Jbb y a b then n+((Uy st M y).2.2.2.2.1-(Uy st M y).2.2.2.2.2) else n)-((Uy st M y).2.2.2.2.1-(Uy st M y).2.2.2.2.2) else(bif Jbb y a b then n+((Uy st M y).2.2.2.2.1-(Uy st M y).2.2.2.2.2) else n))=Jli st O M a b:=k3
  refine⟨⟨⟨by omega,by omega⟩,by omega,by omega⟩,⟨hr,hx⟩,fun h2=>⟨⟨⟨by omega,by omega⟩,by omega,by omega⟩,fun h3=>⟨⟨⟨by omega,by omega⟩,by omega,by omega⟩,⟨⟨by omega,by omega⟩,(k+1,n+((Uy st M y).2.2.2.2.1-(Uy st M y).2.2.2.2.2)-((Uy st M y).2.2.2.2.1-(Uy st M y).2.2.2.2.2)),by simp,⟨by(first|omega|dsimp only;omega),by(first|omega|dsimp only;omega), ?_⟩,by(first|omega|dsimp only;omega)⟩⟩,fun h3=>⟨⟨by omega,by omega⟩,(k+1,n+((Uy st M y).2.2.2.2.1-(Uy st M y).2.2.2.2.2)),by simp,⟨by(first|omega|dsimp only;omega),by(first|omega|dsimp only;omega), ?_⟩,by(first|omega|dsimp only;omega)⟩⟩,fun h2=>⟨fun h3=>⟨⟨⟨by omega,by omega⟩,by omega,by omega⟩,⟨⟨by omega,by omega⟩,(k+1,n-((Uy st M y).2.2.2.2.1-(Uy st M y).2.2.2.2.2)),by simp,⟨by(first|omega|dsimp only;omega),by(first|omega|dsimp only;omega), ?_⟩,by(first|omega|dsimp only;omega)⟩⟩,fun h3=>⟨⟨by omega,by omega⟩,(k+1,n),by simp,⟨by(first|omega|dsimp only;omega),by(first|omega|dsimp only;omega), ?_⟩,by(first|omega|dsimp only;omega)⟩⟩⟩
  all_goals (have h2:Jbb y a b=_:=h2;have h3:Jbb y b a=_:=h3;rw[h2,h3] at k3;exact k3)
 ·obtain⟨k,n⟩:=x
  have hlt:¬k<O.length:=by simpa using h1
  obtain⟨k1,k2,k3⟩:=hk
  have:k=O.length:=by omega
  rw[this,List.drop_length,J1j] at k3
  exact k3
abbrev W96:=W95.add Kww
def J2u (num den:Int):Int×Int:=(num.tdiv (Nat.gcd num.toNat den.toNat:Nat),den.tdiv (Nat.gcd num.toNat den.toNat:Nat))
def Kxy:Con:={args:=[aI,aI],ress:=[(true,Jid)],owns:=[],pre:=fun(a,b,_)=>[0≤a∧a≤1000000000000,1≤b∧b≤1000000000000],spec:=fun(a,b,_)=>(J2u a b,())}
abbrev J6l (num den:Int):Ann:={X:=Int×Int,σ:=fun(a,b)=>⟨1,[(0, .one (.int .i64 num)),(1, .one (.int .i64 den)),(4, .one (.ptr 0 0)),(5, .one (.int .i64 a)),(6, .one (.int .i64 b))],[(0, .box 74 [.int .i64 0, .int .i64 0])]⟩,inv:=fun(a,b)=>(0≤a∧a≤1000000000000)∧(0≤b∧b≤1000000000000)∧(a=0→b≠0)∧Nat.gcd a.toNat b.toNat=Nat.gcd num.toNat den.toNat,mu:=fun(_,b)=>b.toNat}
def Z39:=Tw ((0:Int)=0)
def Ka8 (a:Int×Int) (b c:Int):=(0≤a.1∧a.1≤1000000000000)∧(0≤a.2∧a.2≤1000000000000)∧(a.1=0→a.2=0→False)∧Nat.gcd (Int.toNat a.1) (Int.toNat a.2)=Nat.gcd (Int.toNat b) (Int.toNat c)
theorem Kwt:Ok Tryz.prog 43 Kxy:=okW W96 Tryz.f43 (fun xx=>Ho (J6l xx.1 xx.2.1)) fun xx=>by
 obtain⟨(num:Int),(den:Int),_⟩:=xx
 refine(by kernel_rfl:(0≤num∧num≤1000000000000→1≤den∧den≤1000000000000→∃(x:Int×Int),Si num (Si den (num=x.1∧den=x.2∧Z39))∧Ka8 x num den∧∀(x:Int×Int),Ka8 x num den→Br (x.2 !=0) ((x.2=0→False)∧∃(y:Int×Int),Si num (Si den (x.2=y.1∧Int.tmod x.1 x.2=y.2∧Z39))∧Ka8 y num den∧Int.toNat y.2<Int.toNat x.2) (((x.1=0→False)∧Iw (Int.tdiv num x.1)∧(x.1=0→False)∧Iw (Int.tdiv den x.1))∧(Int.tdiv num x.1,Int.tdiv den x.1)=J2u num den))=_).mp ?_
 delta Z39 Ka8 Br Iw Tw Si
 intro h1' h2
 refine⟨(num,den),by simp,⟨h1',by(first|omega|dsimp only;omega),by(first|omega|dsimp only;omega),rfl⟩,fun(x:Int×Int) hk=>⟨fun h1=> ?_,fun h1=> ?_⟩⟩
 ·obtain⟨a,b⟩:=x
  obtain⟨k1,k2,k3,k4⟩:=hk
  dsimp only at k1 k2 k3 k4 h1
  have hb:b≠0:=bne_iff_ne.1 h1
  obtain⟨A,rfl⟩:=Int.eq_ofNat_of_zero_le k1.1
  obtain⟨B,rfl⟩:=Int.eq_ofNat_of_zero_le k2.1
  have hB:0<B:=by omega
  have hm:=Nat.mod_lt A hB
  have e:((A:Int).tmod (B:Int))=((A %B:Nat):Int):=(Int.ofNat_tmod A B).symm
  refine⟨hb,((B:Int),((A %B:Nat):Int)),⟨rfl,rfl,rfl,e,rfl,rfl⟩,⟨by(first|omega|dsimp only;omega),by(first|omega|dsimp only;omega),fun h=>(by dsimp only at h;omega), ?_⟩, ?_⟩
  ·rw[←k4]
   simp only[Int.toNat_natCast]
   rw[Nat.gcd_comm A B,Nat.gcd_rec B A,Nat.gcd_comm]
  ·simp only[Int.toNat_natCast]
   exact hm
 ·obtain⟨a,b⟩:=x
  obtain⟨k1,k2,k3,k4⟩:=hk
  dsimp only at k1 k2 k3 k4 h1
  have hb:b=0:=by simpa using h1
  subst hb
  have ha:a≠0:=fun h=>k3 h rfl
  have hg:(Nat.gcd num.toNat den.toNat:Int)=a:=by rw[←k4];simp;omega
  have d1:0≤num.tdiv a:=Int.tdiv_nonneg h1'.1 k1.1
  have d2:num.tdiv a≤num:=Int.tdiv_le_self _ h1'.1
  have d3:0≤den.tdiv a:=Int.tdiv_nonneg (by omega) k1.1
  have d4:den.tdiv a≤den:=Int.tdiv_le_self _ (by omega)
  refine⟨⟨ha,⟨by(first|omega|dsimp only;omega),by(first|omega|dsimp only;omega)⟩,ha,by(first|omega|dsimp only;omega),by(first|omega|dsimp only;omega)⟩, ?_⟩
  unfold J2u
  rw[hg]
abbrev W97:=W96.add Kwt
abbrev J4o:Sch:= .prod .str (.prod sI .bool)
abbrev Frm:=ByteArray×Int×Bool
def X6 (k:ByteArray):Frm:=
 bif k.toList==Ju.toList then(⟨⟨[83]⟩⟩,2,true) else
 bif k.toList==Kx.toList then(⟨⟨[115]⟩⟩,2,true) else
 bif k.toList==Ke.toList then(⟨⟨[79,115,115]⟩⟩,4,true) else
 bif k.toList==Ks.toList then(⟨⟨[111]⟩⟩,4,true) else
 bif k.toList==Vj.toList then(⟨⟨[111]⟩⟩,1,true) else
 bif k.toList==Jz.toList then(⟨⟨[88,115]⟩⟩,4,true) else
 bif k.toList==Jw.toList then(⟨⟨[120]⟩⟩,1,true) else
 bif k.toList==Kj.toList then(⟨⟨[80,120]⟩⟩,1,true) else
 bif k.toList==Ki.toList then(⟨⟨[112]⟩⟩,1,true) else
 bif k.toList==Jh.toList then(⟨⟨[]⟩⟩,2,true) else
 bif k.toList==J0.toList then(⟨⟨[]⟩⟩,0,true) else
 (Jd,0,false)
def Kik:Con:={args:=[aS],ress:=[(true,J4o)],owns:=[],pre:=fun _=>[],spec:=fun(k,_)=>(X6 k,())}
def J4h:=ByteArray.mk (Array.mk [111])
theorem Kti:Ok Tryz.prog 45 Kik:=okW W97 Tryz.f45 na fun xx=>by
 obtain⟨(k:ByteArray),_⟩:=xx
 refine(by kernel_rfl:(Br (Lb k Ju) ((ByteArray.mk (Array.mk [83]),2,true)=X6 k) (Br (Lb k Kx) ((ByteArray.mk (Array.mk [115]),2,true)=X6 k) (Br (Lb k Ke) ((ByteArray.mk (Array.mk [79,115,115]),4,true)=X6 k) (Br (Lb k Ks) ((J4h,4,true)=X6 k) (Br (Lb k Vj) ((J4h,1,true)=X6 k) (Br (Lb k Jz) ((ByteArray.mk (Array.mk [88,115]),4,true)=X6 k) (Br (Lb k Jw) ((ByteArray.mk (Array.mk [120]),1,true)=X6 k) (Br (Lb k Kj) ((ByteArray.mk (Array.mk [80,120]),1,true)=X6 k) (Br (Lb k Ki) ((ByteArray.mk (Array.mk [112]),1,true)=X6 k) (Br (Lb k Jh) ((B0,2,true)=X6 k) (Br (Lb k J0) ((B0,0,true)=X6 k) ((B0,0,false)=X6 k))))))))))))=_).mp ?_
 delta J4h Br B0 Lb Ks Ke Jz Kj Kx Jw Ki Jh Ju Vj J0
 unfold X6
 repeat' first|(refine⟨fun h=> ?_,fun h=> ?_⟩)|(rw[h];clear h)
 all_goals rfl
abbrev W98:=W97.add Kti
abbrev Jie:Sch:= .prod sI (.prod sI (.prod (.list 98 Xc) (.prod (.list 102 Yn) (.prod (.list 104 Xx) (.prod (.list 106 Xi) (.list 108 Yv))))))
abbrev Y9:AK:= .val true Jie
def Kix:Con:={args:=[Y9,aS],ress:=[I],owns:=[],pre:=fun((_,_,L,_),_)=>[L.length≤1000000],spec:=fun((_,_,L,_),s,_)=>(J3 L s,())}
abbrev J1e (tk st:Int) (S:List Sta) (O:List Ord) (M:List Met) (X:List Out) (Q:List Per) (s:ByteArray):Ann:={X:=Nat,σ:=fun k=>⟨6,[(1, .one (.str s)),(2, .one (.ptr 5 0)),(5, .one (.int .i64 k))],[(0, .imm 98 Xc S),(1, .imm 102 Yn O),(2, .imm 104 Xx M),(3, .imm 106 Xi X),(4, .imm 108 Yv Q),(5, .box 31 [.int .i64 tk, .int .i64 st, .sl 0, .sl 1, .sl 2, .sl 3, .sl 4])]⟩,inv:=fun k=>k≤S.length∧J3 S s=Vb (fun x=>x.1.toList==s.toList) (S.drop k) k,mu:=fun k=>S.length-k}
def Kdq (a:Nat) (b:List Sta) (c:Bt):=a≤List.length b∧J3 b c=Vb (fun(x:Sta)=>Lb x.1 c) (List.drop a b) a
def Jun (a:Bt) (b:Nat) (c:List Sta) (d:List Ord) (e:List Met) (f:List Out) (g:List Per) (h i:Int):=Sf a (0=Nc b∧Jpe c d e f g h i)
def Jum (a:Bt) (b c:Nat) (d:List Sta) (e:List Ord) (f:List Met) (g:List Out) (h:List Per) (i j:Int):=Sf a (Z93 b c∧Jpe d e f g h i j)
theorem Kv1:Ok Tryz.prog 82 Kix:=okW W98 Tryz.f82 (fun xx=>Ho (J1e xx.1.1 xx.1.2.1 xx.1.2.2.1 xx.1.2.2.2.1 xx.1.2.2.2.2.1 xx.1.2.2.2.2.2.1 xx.1.2.2.2.2.2.2 xx.2.1)) fun xx=>by
 obtain⟨⟨(tk:Int),(st:Int),(S:List Sta),(O:List Ord),(M:List Met),(X:List Out),(Q:List Per)⟩,(s:ByteArray),_⟩:=xx
 refine(by kernel_rfl:(Z53 S→∃(x:Nat),Jun s x S O M X Q tk st∧Kdq x S s∧∀(x:Nat),Kdq x S s→Br (decide (Nc x<Ln S)) (Tw (Bd (Nc x) (Ln S))∧Br (Lb (Jyw S x) s) (Nc x=J3 S s) (Z25 x∧∃(y:Nat),Jum s x y S O M X Q tk st∧Kdq y S s∧Jyv S y x)) (Z70=J3 S s))=_).mp ?_
 delta Z19 Z25 Z53 Z70 Z93 Jyw Jyv Kdq Jpe Jun Jum Br Iw Bd Tw Sf Si Ln Nc B0 Lb
 intro hb
 refine⟨(0:Nat),by simp,⟨Nat.zero_le _,rfl⟩,fun(k:Nat) hk=>⟨fun h=> ?_,fun h=> ?_⟩⟩
 ·have hlt:k<S.length:=by simpa using h
  have hd:=Vr (p:=fun x=>x.1.toList==s.toList) (d:=Jvg) hlt
  refine⟨by omega,fun h1=> ?_,fun h1=>⟨by omega,(k+1:Nat),by simp,⟨by omega, ?_⟩,by omega⟩⟩
  ·rw[hk.2,hd,if_pos (show((S.getD k Jvg).1.toList==s.toList)=true from h1)]
  ·rw[hk.2,hd,if_neg (by rw[show((S.getD k Jvg).1.toList==s.toList)=false from h1];simp)]
 ·have hlt:¬k<S.length:=by simpa using h
  have:k=S.length:=by omega
  rw[hk.2,this,List.drop_length];rfl
abbrev W99:=W98.add Kv1
def Kiw:Con:={args:=[Y9,aS],ress:=[I],owns:=[],pre:=fun((_,_,_,L,_),_)=>[L.length≤1000000],spec:=fun((_,_,_,L,_),s,_)=>(Uo L s,())}
abbrev J1d (tk st:Int) (S:List Sta) (O:List Ord) (M:List Met) (X:List Out) (Q:List Per) (s:ByteArray):Ann:={X:=Nat,σ:=fun k=>⟨6,[(1, .one (.str s)),(2, .one (.ptr 5 0)),(5, .one (.int .i64 k))],[(0, .imm 98 Xc S),(1, .imm 102 Yn O),(2, .imm 104 Xx M),(3, .imm 106 Xi X),(4, .imm 108 Yv Q),(5, .box 31 [.int .i64 tk, .int .i64 st, .sl 0, .sl 1, .sl 2, .sl 3, .sl 4])]⟩,inv:=fun k=>k≤O.length∧Uo O s=Vb (fun x=>x.1.toList==s.toList) (O.drop k) k,mu:=fun k=>O.length-k}
def Kds (a:Nat) (b:List Ord) (c:Bt):=a≤List.length b∧Uo b c=Vb (fun(x:Ord)=>Lb x.1 c) (List.drop a b) a
theorem Kvt:Ok Tryz.prog 90 Kiw:=okW W99 Tryz.f90 (fun xx=>Ho (J1d xx.1.1 xx.1.2.1 xx.1.2.2.1 xx.1.2.2.2.1 xx.1.2.2.2.2.1 xx.1.2.2.2.2.2.1 xx.1.2.2.2.2.2.2 xx.2.1)) fun xx=>by
 obtain⟨⟨(tk:Int),(st:Int),(S:List Sta),(O:List Ord),(M:List Met),(X:List Out),(Q:List Per)⟩,(s:ByteArray),_⟩:=xx
 refine(by kernel_rfl:(Z61 O→∃(x:Nat),Jun s x S O M X Q tk st∧Kds x O s∧∀(x:Nat),Kds x O s→Br (Z97 x O) (Tw (Bd (Nc x) (Ln O))∧Br (Lb (Jxc O x) s) (Nc x=Uo O s) (Z25 x∧∃(y:Nat),Jum s x y S O M X Q tk st∧Kds y O s∧List.length O-y<List.length O-x)) (Z70=Uo O s))=_).mp ?_
 delta Z25 Z61 Z70 Z72 Z93 Z97 Jej J1y Jxc Kds Jpe Jun Jum Br Iw Bd Tw Sf Si Ln Nc B0 Lb
 intro hb
 refine⟨(0:Nat),by simp,⟨Nat.zero_le _,rfl⟩,fun(k:Nat) hk=>⟨fun h=> ?_,fun h=> ?_⟩⟩
 ·have hlt:k<O.length:=by simpa using h
  have hd:=Vr (p:=fun x=>x.1.toList==s.toList) (d:=Km) hlt
  refine⟨by omega,fun h1=> ?_,fun h1=>⟨by omega,(k+1:Nat),by simp,⟨by omega, ?_⟩,by omega⟩⟩
  ·rw[hk.2,hd,if_pos (show((O.getD k Km).1.toList==s.toList)=true from h1)]
  ·rw[hk.2,hd,if_neg (by rw[show((O.getD k Km).1.toList==s.toList)=false from h1];simp)]
 ·have hlt:¬k<O.length:=by simpa using h
  have:k=O.length:=by omega
  rw[hk.2,this,List.drop_length];rfl
abbrev Kvb:=W99.add Kvt
def Kiv:Con:={args:=[Y9,aS],ress:=[I],owns:=[],pre:=fun((_,_,_,_,_,L,_),_)=>[L.length≤1000000],spec:=fun((_,_,_,_,_,L,_),s,_)=>(Kb L s,())}
abbrev J1c (tk st:Int) (S:List Sta) (O:List Ord) (M:List Met) (X:List Out) (Q:List Per) (s:ByteArray):Ann:={X:=Nat,σ:=fun k=>⟨6,[(1, .one (.str s)),(2, .one (.ptr 5 0)),(5, .one (.int .i64 k))],[(0, .imm 98 Xc S),(1, .imm 102 Yn O),(2, .imm 104 Xx M),(3, .imm 106 Xi X),(4, .imm 108 Yv Q),(5, .box 31 [.int .i64 tk, .int .i64 st, .sl 0, .sl 1, .sl 2, .sl 3, .sl 4])]⟩,inv:=fun k=>k≤X.length∧Kb X s=Vb (fun x=>x.1.toList==s.toList) (X.drop k) k,mu:=fun k=>X.length-k}
def Kdo (a:Nat) (b:List Out) (c:Bt):=a≤List.length b∧Kb b c=Vb (fun(x:Out)=>Lb x.1 c) (List.drop a b) a
theorem Kvz:Ok Tryz.prog 84 Kiv:=okW Kvb Tryz.f84 (fun xx=>Ho (J1c xx.1.1 xx.1.2.1 xx.1.2.2.1 xx.1.2.2.2.1 xx.1.2.2.2.2.1 xx.1.2.2.2.2.2.1 xx.1.2.2.2.2.2.2 xx.2.1)) fun xx=>by
 obtain⟨⟨(tk:Int),(st:Int),(S:List Sta),(O:List Ord),(M:List Met),(X:List Out),(Q:List Per)⟩,(s:ByteArray),_⟩:=xx
 refine(by kernel_rfl:(Z54 X→∃(x:Nat),Jun s x S O M X Q tk st∧Kdo x X s∧∀(x:Nat),Kdo x X s→Br (Z98 x X) (Tw (Z27 x X)∧Br (Lb (Juq X x) s) (Nc x=Kb X s) (Z25 x∧∃(y:Nat),Jum s x y S O M X Q tk st∧Kdo y X s∧Jus X y x)) (Z70=Kb X s))=_).mp ?_
 delta Z25 Z27 Z54 Z70 Z93 Z98 Jel Jus Juq Kdo Jpe Jun Jum Br Iw Bd Tw Sf Si Ln Nc B0 Lb
 intro hb
 refine⟨(0:Nat),by simp,⟨Nat.zero_le _,rfl⟩,fun(k:Nat) hk=>⟨fun h=> ?_,fun h=> ?_⟩⟩
 ·have hlt:k<X.length:=by simpa using h
  have hd:=Vr (p:=fun x=>x.1.toList==s.toList) (d:=Jfi) hlt
  refine⟨by omega,fun h1=> ?_,fun h1=>⟨by omega,(k+1:Nat),by simp,⟨by omega, ?_⟩,by omega⟩⟩
  ·rw[hk.2,hd,if_pos (show((X.getD k Jfi).1.toList==s.toList)=true from h1)]
  ·rw[hk.2,hd,if_neg (by rw[show((X.getD k Jfi).1.toList==s.toList)=false from h1];simp)]
 ·have hlt:¬k<X.length:=by simpa using h
  have:k=X.length:=by omega
  rw[hk.2,this,List.drop_length];rfl
abbrev Kva:=Kvb.add Kvz
def Kiu:Con:={args:=[Y9,aS],ress:=[I],owns:=[],pre:=fun((_,_,_,_,_,_,L),_)=>[L.length≤1000000],spec:=fun((_,_,_,_,_,_,L),s,_)=>(U2 L s,())}
abbrev J1b (tk st:Int) (S:List Sta) (O:List Ord) (M:List Met) (X:List Out) (Q:List Per) (s:ByteArray):Ann:={X:=Nat,σ:=fun k=>⟨6,[(1, .one (.str s)),(2, .one (.ptr 5 0)),(5, .one (.int .i64 k))],[(0, .imm 98 Xc S),(1, .imm 102 Yn O),(2, .imm 104 Xx M),(3, .imm 106 Xi X),(4, .imm 108 Yv Q),(5, .box 31 [.int .i64 tk, .int .i64 st, .sl 0, .sl 1, .sl 2, .sl 3, .sl 4])]⟩,inv:=fun k=>k≤Q.length∧U2 Q s=Vb (fun x=>x.1.toList==s.toList) (Q.drop k) k,mu:=fun k=>Q.length-k}
def Kdt (a:Nat) (b:List Per) (c:Bt):=a≤List.length b∧U2 b c=Vb (fun(x:Per)=>Lb x.1 c) (List.drop a b) a
theorem Kvw:Ok Tryz.prog 87 Kiu:=okW Kva Tryz.f87 (fun xx=>Ho (J1b xx.1.1 xx.1.2.1 xx.1.2.2.1 xx.1.2.2.2.1 xx.1.2.2.2.2.1 xx.1.2.2.2.2.2.1 xx.1.2.2.2.2.2.2 xx.2.1)) fun xx=>by
 obtain⟨⟨(tk:Int),(st:Int),(S:List Sta),(O:List Ord),(M:List Met),(X:List Out),(Q:List Per)⟩,(s:ByteArray),_⟩:=xx
 refine(by kernel_rfl:(Z49 Q→∃(x:Nat),Jun s x S O M X Q tk st∧Kdt x Q s∧∀(x:Nat),Kdt x Q s→Br (Jpx x Q) (Tw (Z31 x Q)∧Br (Lb (Jxh Q x) s) (Nc x=U2 Q s) (Z25 x∧∃(y:Nat),Jum s x y S O M X Q tk st∧Kdt y Q s∧Juu Q y x)) (Z70=U2 Q s))=_).mp ?_
 delta Z25 Z31 Z49 Z70 Z93 Jpx Jxh Juu Kdt Jpe Jun Jum Br Iw Bd Tw Sf Si Ln Nc B0 Lb
 intro hb
 refine⟨(0:Nat),by simp,⟨Nat.zero_le _,rfl⟩,fun(k:Nat) hk=>⟨fun h=> ?_,fun h=> ?_⟩⟩
 ·have hlt:k<Q.length:=by simpa using h
  have hd:=Vr (p:=fun x=>x.1.toList==s.toList) (d:=Jip) hlt
  refine⟨by omega,fun h1=> ?_,fun h1=>⟨by omega,(k+1:Nat),by simp,⟨by omega, ?_⟩,by omega⟩⟩
  ·rw[hk.2,hd,if_pos (show((Q.getD k Jip).1.toList==s.toList)=true from h1)]
  ·rw[hk.2,hd,if_neg (by rw[show((Q.getD k Jip).1.toList==s.toList)=false from h1];simp)]
 ·have hlt:¬k<Q.length:=by simpa using h
  have:k=Q.length:=by omega
  rw[hk.2,this,List.drop_length];rfl
abbrev Ku9:=Kva.add Kvw
def atS (r:Reg) (c:Int) (s:ByteArray):Int:=bif c==115 then J3 r.2.2.1 s else bif c==111 then Uo r.2.2.2.1 s else bif c==120 then Kb r.2.2.2.2.2.1 s else U2 r.2.2.2.2.2.2 s
def cAt:Con:={args:=[Y9, .val false (.int .u8),aS],ress:=[I],owns:=[],pre:=fun(r,_)=>[Js r],spec:=fun(r,c,s,_)=>(atS r c s,())}
theorem Kv3:Ok Tryz.prog 80 cAt:=okW Ku9 Tryz.f80 na fun xx=>by
 obtain⟨⟨(tk:Int),(st:Int),(S:List Sta),(O:List Ord),(M:List Met),(X:List Out),(Q:List Per)⟩,(c:Int),(s:ByteArray),_⟩:=xx
 refine(by kernel_rfl:(Kf tk st S O M X Q→Br (c==115) (Z53 S∧J3 S s=atS (Z62 tk st S O M X Q) c s) (Br (c==111) (Z61 O∧Uo O s=atS (Z62 tk st S O M X Q) c s) (Br (c==120) (Z54 X∧Kb X s=atS (Z62 tk st S O M X Q) c s) (Z49 Q∧U2 Q s=atS (Z62 tk st S O M X Q) c s))))=_).mp ?_
 delta Z49 Z53 Z54 Z61 Z62 Kf Br
 intro hr
 have nS:S.length≤6:=hr.nS
 have nO:O.length≤32:=hr.nO
 have nX:X.length≤16:=hr.nX
 have nQ:Q.length≤16:=hr.nQ
 unfold atS
 repeat' first|(refine⟨fun h=> ?_,fun h=> ?_⟩)|(rw[h];clear h)
 all_goals exact⟨by omega,rfl⟩
abbrev Ku8:=Ku9.add Kv3
theorem Kvx:Ok Tryz.prog 86 Js7:=okW Ku8 Tryz.f86 na fun xx=>by
 obtain⟨⟨(a:Int),(b:Int)⟩,(h:Int),_⟩:=xx
 refine(by kernel_rfl:((bif decide (a≤h) then decide (h<b) else false)=Uh (a,b) h)=_).mp ?_
 rfl
abbrev Ku7:=Ku8.add Kvx
def Jo7:Con:={args:=[.val true Yn,aI],ress:=[Bo],owns:=[],pre:=fun(x,_)=>[-1≤x.2.2.2.2.2.2],spec:=fun(x,h,_)=>(Ka x h,())}
theorem Kvs:Ok Tryz.prog 91 Jo7:=okW Ku7 Tryz.f91 na fun xx=>by
 obtain⟨⟨(n:ByteArray),(f:ByteArray),(t:ByteArray),⟨(a:Int),(b:Int)⟩,(p:Int),(c:Int),(r:Int)⟩,(h:Int),_⟩:=xx
 refine(by kernel_rfl:(Z70≤r→(bif Uh (a,b) h then bif decide (r<0) then true else decide (h<r) else false)=Ka (n,f,t,(a,b),p,c,r) h)=_).mp ?_
 delta Z70
 intro hr
 unfold Ka
 have:(r== -1)=decide (r<0):=by
  by_cases q:r= -1
  ·rw[q];rfl
  ·rw[beq_eq_false_iff_ne.2 q,decide_eq_false (by(first|omega|dsimp only;omega))]
 dsimp only
 rw[this]
abbrev Ku6:=Ku7.add Kvs
def Kx6:Con:={args:=[Y9,aS,aI],ress:=[I],owns:=[],pre:=fun(r,s,_)=>[Js r,0≤J3 r.2.2.1 s],spec:=fun((_,_,S,_,_,X,_),s,h,_)=>(Jex X s h (Lm S s).2.1,())}
abbrev J6n (tk st:Int) (S:List Sta) (O:List Ord) (M:List Met) (X:List Out) (Q:List Per) (s:ByteArray) (h:Int):Ann:={X:=Nat×Int,σ:=fun(k,n)=>⟨6,[(1, .one (.str s)),(2, .one (.int .i64 h)),(3, .one (.ptr 5 0)),(7, .one (.int .i64 n)),(8, .one (.int .i64 k))],[(0, .imm 98 Xc S),(1, .imm 102 Yn O),(2, .imm 104 Xx M),(3, .imm 106 Xi X),(4, .imm 108 Yv Q),(5, .box 31 [.int .i64 tk, .int .i64 st, .sl 0, .sl 1, .sl 2, .sl 3, .sl 4])]⟩,inv:=fun(k,n)=>k≤X.length∧Jex (X.drop k) s h n=Jex X s h (Lm S s).2.1,mu:=fun(k,_)=>X.length-k}
def Kde (a:Nat×Int) (b:List Out) (c:Bt) (d:Int) (e:List Sta):=a.1≤List.length b∧Jex (List.drop a.1 b) c d a.2=Jex b c d (Lm e c).2.1
def Ko2 (a:Nat×Int) (b:List Out) (c:Bt) (d:Int) (e:List Sta) (f:Nat×Int):=Kde a b c d e∧List.length b-a.1<List.length b-f.1
theorem Kgv:Ok Tryz.prog 137 Kx6:=okW Ku6 Tryz.f137 (fun xx=>Ho (J6n xx.1.1 xx.1.2.1 xx.1.2.2.1 xx.1.2.2.2.1 xx.1.2.2.2.2.1 xx.1.2.2.2.2.2.1 xx.1.2.2.2.2.2.2 xx.2.1 xx.2.2.1)) fun xx=>by
 obtain⟨⟨(tk:Int),(st:Int),(S:List Sta),(O:List Ord),(M:List Met),(X:List Out),(Q:List Per)⟩,(s:ByteArray),(h:Int),_⟩:=xx
 refine(by kernel_rfl:(Kf tk st S O M X Q→Z29 S s→(Z53 S∧Tw (Bd (J3 S s) (Ln S)))∧∃(x:Nat×Int),Sf s (Si h ((J82 S s).2.1=x.2∧Jyi x S O M X Q tk st))∧Kde x X s h S∧∀(x:Nat×Int),Kde x X s h S→Br (decide (Nc x.1<Ln X)) (Tw (Bd (Nc x.1) (Ln X))∧Br (bif bif Lb (J31 X x).1 s then Uh (Kee X x) h else false then decide (J3w X x<x.2) else false) (Z42 x∧∃(y:Nat×Int),Sf s (Si h (J3w X x=y.2∧Jt6 x y S O M X Q tk st))∧Ko2 y X s h S x) (Z42 x∧∃(y:Nat×Int),Sf s (Si h (x.2=y.2∧Jt6 x y S O M X Q tk st))∧Ko2 y X s h S x)) (x.2=Jex X s h (Lm S s).2.1))=_).mp ?_
 delta Z19 Z29 Z42 Z53 Z62 Jux Kf Jel J82 J31 J3w Kee Kde Jpe Jyi Ko2 Jt6 Br Iw Bd Tw Sf Si Ln Nc Gt B0 Lb E2
 intro hr hf
 have nS:S.length≤6:=hr.nS
 have nX:X.length≤16:=hr.nX
 have hl:=Kv (l:=S) (s:=s)
 refine⟨⟨by omega,⟨hf,hl⟩,hf,hl⟩,((0:Nat),(Lm S s).2.1),by(repeat' first|exact rfl|exact⟨⟩|apply And.intro|omega|dsimp only;omega),⟨Nat.zero_le _,rfl⟩,fun(x:Nat×Int) hk=>⟨fun h1=> ?_,fun h1=> ?_⟩⟩
 ·obtain⟨k,n⟩:=x
  have hlt:k<X.length:=by simpa using h1
  obtain⟨k1,k2⟩:=hk
  rw[Jo (d:=Jfi) hlt,Jex] at k2
  have hz:((({data:={toList:=[]}}:ByteArray),({data:={toList:=[]}}:ByteArray),((0:Int),(0:Int)),(0:Int)):Out)=Jfi:=rfl
  dsimp only at k1 k2
  simp only[hz,Prod.eta]
  generalize X.getD k Jfi=y at*
  have hc:(bif bif bif y.2.1.toList==s.toList then Uh y.2.2.1 h else false then decide (y.2.2.2<n) else false then y.2.2.2 else n)=bif Jvv y s h then min n y.2.2.2 else n:=by
   unfold Jvv
   cases bif y.2.1.toList==s.toList then Uh y.2.2.1 h else false
   ·rfl
   ·by_cases q:y.2.2.2<n
    ·simp only[cond_true,decide_eq_true q];omega
    ·simp only[cond_true,decide_eq_false q,cond_false];omega
  refine⟨⟨⟨by omega,by omega⟩,by omega,by omega⟩,fun h2=>⟨⟨by omega,by omega⟩,(k+1,y.2.2.2),by simp,⟨by(first|omega|dsimp only;omega), ?_⟩,by(first|omega|dsimp only;omega)⟩,fun h2=>⟨⟨by omega,by omega⟩,(k+1,n),by simp,⟨by(first|omega|dsimp only;omega), ?_⟩,by(first|omega|dsimp only;omega)⟩⟩
  all_goals (rw[←hc] at k2;have h2:(bif bif y.2.1.toList==s.toList then Uh y.2.2.1 h else false then decide (y.2.2.2<n) else false)=_:=h2;rw[h2] at k2;exact k2)
 ·obtain⟨k,n⟩:=x
  have hlt:¬k<X.length:=by simpa using h1
  obtain⟨k1,k2⟩:=hk
  have:k=X.length:=by omega
  rw[this,List.drop_length,Jex] at k2
  exact k2
abbrev Ku5:=Ku6.add Kgv
def Jwr:Con:={args:=[Y9,aS,aI],ress:=[I],owns:=[],pre:=fun(r,_)=>[Js r],spec:=fun((_,_,_,O,_),s,h,_)=>(Um O s h,())}
abbrev Jpc (tk st:Int) (S:List Sta) (O:List Ord) (M:List Met) (X:List Out) (Q:List Per) (s:ByteArray) (h:Int):Ann:={X:=Nat×Int,σ:=fun(k,n)=>⟨6,[(1, .one (.str s)),(2, .one (.int .i64 h)),(3, .one (.ptr 5 0)),(7, .one (.int .i64 n)),(8, .one (.int .i64 k))],[(0, .imm 98 Xc S),(1, .imm 102 Yn O),(2, .imm 104 Xx M),(3, .imm 106 Xi X),(4, .imm 108 Yv Q),(5, .box 31 [.int .i64 tk, .int .i64 st, .sl 0, .sl 1, .sl 2, .sl 3, .sl 4])]⟩,inv:=fun(k,n)=>k≤O.length∧(0≤n∧n≤1000*k)∧n+Um (O.drop k) s h=Um O s h,mu:=fun(k,_)=>O.length-k}
def Kbz (a:Nat×Int) (b:List Ord) (c:Bt) (d:Int):=a.1≤List.length b∧(0≤a.2∧a.2≤1000*Nc a.1)∧a.2+Um (List.drop a.1 b) c d=Um b c d
def Kob (a:Nat×Int) (b:List Ord) (c:Bt) (d:Int) (e:Nat×Int):=Kbz a b c d∧List.length b-a.1<List.length b-e.1
def Kny (a:List Ord) (b:Nat×Int) (c:Bt):=bif Kdf a b c then true else Kdc a b c
theorem Kv0:Ok Tryz.prog 83 Jwr:=okW Ku5 Tryz.f83 (fun xx=>Ho (Jpc xx.1.1 xx.1.2.1 xx.1.2.2.1 xx.1.2.2.2.1 xx.1.2.2.2.2.1 xx.1.2.2.2.2.2.1 xx.1.2.2.2.2.2.2 xx.2.1 xx.2.2.1)) fun xx=>by
 obtain⟨⟨(tk:Int),(st:Int),(S:List Sta),(O:List Ord),(M:List Met),(X:List Out),(Q:List Per)⟩,(s:ByteArray),(h:Int),_⟩:=xx
 refine(by kernel_rfl:(Kf tk st S O M X Q→∃(x:Nat×Int),Sf s (Si h (0=x.2∧Jyi x S O M X Q tk st))∧Kbz x O s h∧∀(x:Nat×Int),Kbz x O s h→Br (decide (Nc x.1<Ln O)) (Tw (Bd (Nc x.1) (Ln O))∧(Kny O x s=true→Z70≤(J8b O x).2)∧Br (bif Kny O x s then Kaf O x h else false) (Kcy x O∧Z42 x∧∃(y:Nat×Int),Sf s (Si h (Kcx x O y∧Jt6 x y S O M X Q tk st))∧Kob y O s h x) (Z42 x∧∃(y:Nat×Int),Sf s (Si h (x.2=y.2∧Jt6 x y S O M X Q tk st))∧Kob y O s h x)) (x.2=Um O s h))=_).mp ?_
 delta Z42 Z62 Z70 Z72 Jux Kf Jej J8j J8i J8h J8g J8f J8e J8d J8b J8a Kdf Kdc Kc4 Kcy Kcx Jpe Jyi Kbz Jt6 Kob Kny J1l Kaf Br Iw Bd Tw Sf Si Ln Nc B0 Lb E2
 intro hr
 have nO:O.length≤32:=hr.nO
 refine⟨((0:Nat),(0:Int)),by simp,⟨Nat.zero_le _,by omega,by simp⟩,fun(x:Nat×Int) hk=>⟨fun h1=> ?_,fun h1=> ?_⟩⟩
 ·obtain⟨k,n⟩:=x
  have hlt:k<O.length:=by simpa using h1
  obtain⟨k1,k2,k3⟩:=hk
  have hO:=hr.ord _ (Je (d:=Km) hlt)
  rw[Jo (d:=Km) hlt,Um] at k3
  have hz:((({data:={toList:=[]}}:ByteArray),({data:={toList:=[]}}:ByteArray),({data:={toList:=[]}}:ByteArray),((0:Int),(0:Int)),(0:Int),(0:Int),(0:Int)):Ord)=Km:=rfl
  dsimp only at k1 k2 k3
  simp only[hz,Prod.eta]
  generalize O.getD k Km=y at*
  have hp:=hO.pow
  have ht:=hO.trip
  refine⟨⟨⟨by omega,by omega⟩,by omega,by omega⟩,fun _=>by omega,fun h2=>⟨⟨by omega,by omega⟩,⟨by omega,by omega⟩,(k+1,n+y.2.2.2.2.1),by simp,⟨by(first|omega|dsimp only;omega),by(first|omega|dsimp only;omega), ?_⟩,by(first|omega|dsimp only;omega)⟩,fun h2=>⟨⟨by omega,by omega⟩,(k+1,n),by simp,⟨by(first|omega|dsimp only;omega),by(first|omega|dsimp only;omega), ?_⟩,by(first|omega|dsimp only;omega)⟩⟩
  all_goals (have h2:(bif Dt y s then Ka y h else false)=_:=h2;rw[h2] at k3;simp only[cond_true,cond_false] at k3;(first|omega|dsimp only;omega))
 ·obtain⟨k,n⟩:=x
  have hlt:¬k<O.length:=by simpa using h1
  obtain⟨k1,k2,k3⟩:=hk
  have:k=O.length:=by omega
  rw[this,List.drop_length,Um] at k3
  exact(Int.add_zero n).symm.trans k3
abbrev Ku4:=Ku5.add Kv0
def J0b:Con:={args:=[Y9,aS,aI],ress:=[I],owns:=[],pre:=fun(r,s,_)=>[Js r,0≤J3 r.2.2.1 s],spec:=fun((_,_,S,O,_,X,_),s,h,_)=>(Xm S O X s h,())}
theorem Js4 {S:List Sta} {s:ByteArray} {h:Int}:∀{X:List Out} {n:Int},(∀x∈X,Jls S x)→0≤n∧n≤1000→0≤Jex X s h n∧Jex X s h n≤1000
 |[],_,_,hn=>hn
 |x::l,n,hX,hn=>by
  have hx:=(hX x (List.mem_cons_self ..)).rest
  unfold Jex
  refine Js4 (fun y hy=>hX y (List.mem_cons_of_mem _ hy)) ?_
  cases Jvv x s h<;>simp only[cond_true,cond_false]<;>omega
theorem Kvu:Ok Tryz.prog 89 J0b:=okW Ku4 Tryz.f89 na fun xx=>by
 obtain⟨⟨(tk:Int),(st:Int),(S:List Sta),(O:List Ord),(M:List Met),(X:List Out),(Q:List Per)⟩,(s:ByteArray),(h:Int),_⟩:=xx
 refine(by kernel_rfl:(Kf tk st S O M X Q→Z29 S s→(Kf tk st S O M X Q∧Z29 S s∧Kf tk st S O M X Q∧Iw (Jex X s h (Lm S s).2.1-Um O s h))∧Jex X s h (Lm S s).2.1-Um O s h=Xm S O X s h)=_).mp ?_
 delta Z29 Z62 Kf Iw
 intro hr hf
 have h1:=Jqn hr.sta hf
 have h2:=Js4 (s:=s) (h:=h) hr.out (n:=(Lm S s).2.1) ⟨Int.le_trans (by decide) h1.lim.1,h1.lim.2⟩
 have h3:=Jgv (s:=s) (h:=h) hr.ord
 have nO:O.length≤32:=hr.nO
 dsimp only at h2 h3
 exact⟨⟨hr,hf,hr,by omega,by omega⟩,rfl⟩
abbrev Ku3:=Ku4.add Kvu
def Hz (M:List Met) (s:ByteArray) (h:Int):Met×Bool:=if 0≤Ub M s h then(Jrt M s h,true) else(Jmo,false)
def Kig:Con:={args:=[Y9,aS,aI],ress:=[(true,Xx),Bo],owns:=[],pre:=fun(r,_)=>[Js r],spec:=fun((_,_,_,_,M,_),s,h,_)=>((Hz M s h).1,(Hz M s h).2,())}
abbrev J07 (tk st:Int) (S:List Sta) (O:List Ord) (M:List Met) (X:List Out) (Q:List Per) (s:ByteArray) (h:Int):Ann:={X:=Nat,σ:=fun k=>⟨7,[(1, .one (.str s)),(2, .one (.int .i64 h)),(3, .one (.ptr 5 0)),(6, .one (.ptr 6 0)),(8, .one (.int .i64 k))],[(0, .imm 98 Xc S),(1, .imm 102 Yn O),(2, .imm 104 Xx M),(3, .imm 106 Xi X),(4, .imm 108 Yv Q),(5, .box 31 [.int .i64 tk, .int .i64 st, .sl 0, .sl 1, .sl 2, .sl 3, .sl 4]),(6, .box 104 [.str Jd, .int .i64 0, .int .i64 0, .int .i64 0])]⟩,inv:=fun k=>k≤M.length∧Ub M s h=Vb (fun x=>bif x.1.toList==s.toList then x.2.1==h else false) (M.drop k) k,mu:=fun k=>M.length-k}
def Kci (a:Nat) (b:List Met) (c:Bt) (d:Int):=a≤List.length b∧Ub b c d=Vb (fun(x:Met)=>bif Lb x.1 c then x.2.1==d else false) (List.drop a b) a
theorem Kvr:Ok Tryz.prog 92 Kig:=okW Ku3 Tryz.f92 (fun xx=>Ho (J07 xx.1.1 xx.1.2.1 xx.1.2.2.1 xx.1.2.2.2.1 xx.1.2.2.2.2.1 xx.1.2.2.2.2.2.1 xx.1.2.2.2.2.2.2 xx.2.1 xx.2.2.1)) fun xx=>by
 obtain⟨⟨(tk:Int),(st:Int),(S:List Sta),(O:List Ord),(M:List Met),(X:List Out),(Q:List Per)⟩,(s:ByteArray),(h:Int),_⟩:=xx
 refine(by kernel_rfl:(Kf tk st S O M X Q→∃(x:Nat),Sf s (Si h (0=Nc x∧Sf S (Sf O (Sf M (Sf X (Sf Q (Si tk (Si st (B0=Jd∧Si 0 Z39)))))))))∧Kci x M s h∧∀(x:Nat),Kci x M s h→Br (decide (Nc x<Ln M)) (Tw (Bd (Nc x) (Ln M))∧Br (bif Lb (Jyq M x) s then Jyo M x==h else false) (J3a M x=(Hz M s h).1∧true=(Hz M s h).2) (Z25 x∧∃(y:Nat),Sf s (Si h (Z93 x y∧Sf S (Sf O (Sf M (Sf X (Sf Q (Si tk (Si st (Sf Jd (Si 0 Z39))))))))))∧Kci y M s h∧Jyu M y x)) (Juy=(Hz M s h).1∧false=(Hz M s h).2))=_).mp ?_
 delta Z25 Z39 Z62 Z72 Z93 Juy Kf Jyu J2b Jyq Jyo Jxf Kci J3a Br Iw Bd Tw Sf Si Ln Nc B0 Lb E2
 intro hr
 have nM:M.length≤10000:=hr.nM
 refine⟨(0:Nat),by(repeat' first|exact rfl|exact⟨⟩|apply And.intro|omega|dsimp only;omega),⟨Nat.zero_le _,rfl⟩,fun(k:Nat) hk=>⟨fun h1=> ?_,fun h1=> ?_⟩⟩
 ·have hlt:k<M.length:=by simpa using h1
  obtain⟨k1,k2⟩:=hk
  have hd:=Vr (p:=fun x=>bif x.1.toList==s.toList then x.2.1==h else false) (d:=Jmo) hlt
  have hz:((({data:={toList:=[]}}:ByteArray),(0:Int),(0:Int),(0:Int)):Met)=Jmo:=rfl
  simp only[hz,Prod.eta]
  refine⟨⟨⟨by omega,by omega⟩,by omega,by omega⟩,fun h2=> ?_,fun h2=>⟨⟨by omega,by omega⟩,(k+1:Nat),by simp,⟨by omega, ?_⟩,by omega⟩⟩
  ·have h2:(bif (M.getD k Jmo).1.toList==s.toList then(M.getD k Jmo).2.1==h else false)=true:=h2
   have e:Ub M s h=k:=by rw[k2,hd,if_pos h2]
   have e2:Hz M s h=(M.getD k Jmo,true):=by
    unfold Hz
    rw[if_pos (by omega)]
    unfold Jrt
    rw[e];rfl
   rw[e2]
   repeat' first|exact rfl|exact⟨⟩|apply And.intro|omega|dsimp only;omega
  ·have h2:(bif (M.getD k Jmo).1.toList==s.toList then(M.getD k Jmo).2.1==h else false)=false:=h2
   rw[k2,hd,if_neg (by rw[h2];simp)]
 ·have hlt:¬k<M.length:=by simpa using h1
  obtain⟨k1,k2⟩:=hk
  have:k=M.length:=by omega
  rw[this,List.drop_length,Vb] at k2
  have e2:Hz M s h=(Jmo,false):=by
   unfold Hz
   rw[if_neg (by omega)]
  rw[e2]
  repeat' first|exact rfl|exact⟨⟩|apply And.intro|omega|dsimp only;omega
abbrev Ku2:=Ku3.add Kvr
def J0d:Con:={args:=[Y9,aI],ress:=[(false, .list 202 J2q)],owns:=[true],pre:=fun(r,_)=>[Js r],spec:=fun((_,_,_,O,M,_),u,_)=>(V3 M u O,())}
abbrev Jty (tk st:Int) (S:List Sta) (O:List Ord) (M:List Met) (X:List Out) (Q:List Per) (u:Int):Nat→Option Ann:=fun id=>if id=0 then some {X:=Nat×List Gap,σ:=fun(k,o)=>⟨7,[(1, .one (.int .i64 u)),(2, .one (.ptr 5 0)),(5, .one (.sl 6)),(6, .one (.int .i64 k))],[(0, .imm 98 Xc S),(1, .imm 102 Yn O),(2, .imm 104 Xx M),(3, .imm 106 Xi X),(4, .imm 108 Yv Q),(5, .box 31 [.int .i64 tk, .int .i64 st, .sl 0, .sl 1, .sl 2, .sl 3, .sl 4]),(6, .own 202 J2q o)]⟩,inv:=fun(k,o)=>k≤O.length∧o.length≤48*k∧o++V3 M u (O.drop k)=V3 M u O,mu:=fun(k,_)=>O.length-k}
 else if id=2 then some {X:=Nat×List Gap×Nat,σ:=fun(k,o,j)=>⟨8,[(1, .one (.int .i64 u)),(2, .one (.ptr 5 0)),(5, .one (.sl 6)),(6, .one (.int .i64 k)),(7, .one (.ptr 7 0)),(8, .one (.int .i64 ((O.getD k Km).2.2.2.1.1+j)))],[(0, .imm 98 Xc S),(1, .imm 102 Yn O),(2, .imm 104 Xx M),(3, .imm 106 Xi X),(4, .imm 108 Yv Q),(5, .box 31 [.int .i64 tk, .int .i64 st, .sl 0, .sl 1, .sl 2, .sl 3, .sl 4]),(6, .own 202 J2q o),(7, .box 102 (bxO (O.getD k Km)))]⟩,inv:=fun(k,o,j)=>k<O.length∧j≤K1 (O.getD k Km)∧o.length≤48*k+j∧o++(Jbq M u (O.getD k Km) ((O.getD k Km).2.2.2.1.1+j) (K1 (O.getD k Km)-j)++V3 M u (O.drop (k+1)))=V3 M u O,mu:=fun(k,_,j)=>K1 (O.getD k Km)-j,rel:=some fun x y=>y.1=x.1}
 else none
theorem Khy {M:List Met} {s:ByteArray} {h:Int}:(!(Hz M s h).2)=decide (Ub M s h<0):=by
 unfold Hz
 by_cases q:0≤Ub M s h
 ·rw[if_pos q,decide_eq_false (by omega)];rfl
 ·rw[if_neg q,decide_eq_true (by omega)];rfl
def Kmq (a:Nat×List (Bt×Int)×Nat) (b:List Ord) (c:List Met) (d:Int) (e:Nat×List (Bt×Int)×Nat) (f:Nat×List Gap×Nat):=(J7a a b c d∧a.1=e.1)∧K1 (List.getD b a.1 Km)-a.2.2<K1 (List.getD b f.1 Km)-f.2.2
def Kl0 (a:List Ord) (b:Nat×List Gap×Nat) (c:Nat×List (Bt×Int)×Nat):=J2a a b c∧J18 a b c∧J16 a b c∧J14 a b c∧J15 a b c∧J12 a b c∧J10 a b c∧J11 a b c
theorem Kvv:Ok Tryz.prog 88 J0d:=okW Ku2 Tryz.f88 (fun xx=>Jty xx.1.1 xx.1.2.1 xx.1.2.2.1 xx.1.2.2.2.1 xx.1.2.2.2.2.1 xx.1.2.2.2.2.2.1 xx.1.2.2.2.2.2.2 xx.2.1) fun xx=>by
 obtain⟨⟨(tk:Int),(st:Int),(S:List Sta),(O:List Ord),(M:List Met),(X:List Out),(Q:List Per)⟩,(u:Int),_⟩:=xx
 refine(by kernel_rfl:(Kf tk st S O M X Q→∃(x:Nat×List (ByteArray×Int)),Si u (0=Nc x.1∧Sf S (Sf O (Sf M (Sf X (Sf Q (Si tk (Si st (List.length x.2=0))))))))∧J74 x O M u∧∀(x:Nat×List Gap),Kcg x O M u→Br (decide (Nc x.1<Ln O)) (Tw (Bd (Nc x.1) (Ln O))∧∃(x0:Nat×List (ByteArray×Int)×Nat),Si u (Nc x.1=Nc x0.1∧Kbs O x x0∧Sf S (Sf O (Sf M (Sf X (Sf Q (Si tk (Si st (x.2=x0.2.1∧J78 O x x0∧J77 O x x0∧J75 O x x0∧J7z O x x0∧J70 O x x0∧J71 O x x0∧J7w O x x0∧J7v O x x0))))))))∧(J7a x0 O M u∧x0.1=x0.1)∧∀(x_1:Nat×List Gap×Nat),Kas x_1 O M u∧x_1.1=x0.1→Br (Kdu O x_1) (Kf tk st S O M X Q∧(J30 O x_1 u=true→Z70≤(Z78 O x_1).2.2)∧Br (bif bif J30 O x_1 u then Kav O x_1 else false then !(Hz M (Z1 O x_1).1 (Jut O x_1)).2 else false) (Kek x_1∧J3t O x_1∧∃(y:Nat×List (ByteArray×Int)×Nat),Si u (Nc x_1.1=Nc y.1∧J3j O x_1 y∧Sf S (Sf O (Sf M (Sf X (Sf Q (Si tk (Si st (Kcq x_1 O y∧Kl0 O x_1 y))))))))∧Kmq y O M u x0 x_1) (J3t O x_1∧∃(y:Nat×List (ByteArray×Int)×Nat),Si u (Nc x_1.1=Nc y.1∧J3j O x_1 y∧Sf S (Sf O (Sf M (Sf X (Sf Q (Si tk (Si st (x_1.2.1=y.2.1∧Kl0 O x_1 y))))))))∧Kmq y O M u x0 x_1)) (Iw (Nc x_1.1+1)∧∃(y:Nat×List (ByteArray×Int)),Si u (Nc x_1.1+1=Nc y.1∧Sf S (Sf O (Sf M (Sf X (Sf Q (Si tk (Si st (x_1.2.1=y.2))))))))∧J7e y O M u x)) (x.2=V3 M u O))=_).mp ?_
 delta Z1 Z8 Z62 Z70 Z72 Z77 Z78 Z80 Z81 Kf Jut J2a J18 J30 J16 J3t Jej J15 J14 J12 J11 J10 Kek Kd3 Kdy Kdx Kdv Kdu Kdr Kdp Kdk Kdj J3j Kcu J78 J77 Kcq J75 Kcg J74 J71 J70 J7z J7w J7v Kbs J7e Kav Kas J7a Kmq Kl0 Br Iw Bd Tw Sf Si Ln Nc B0 E2
 intro hr
 have nO:O.length≤32:=hr.nO
 have hz:((({data:={toList:=[]}}:ByteArray),({data:={toList:=[]}}:ByteArray),({data:={toList:=[]}}:ByteArray),((0:Int),(0:Int)),(0:Int),(0:Int),(0:Int)):Ord)=Km:=rfl
 refine⟨((0:Nat),[]),by simp,⟨Nat.zero_le _,Nat.zero_le _,rfl⟩,fun(x:Nat×List Gap) hk=>⟨fun h1=> ?_,fun h1=> ?_⟩⟩
 ·obtain⟨k,o⟩:=x
  have hlt:k<O.length:=by simpa using h1
  obtain⟨k1,k2,k3⟩:=hk
  dsimp only at k1 k2 k3
  rw[Jo (d:=Km) hlt,V3,Jv0] at k3
  simp only[hz,Prod.eta]
  have hO:Jhp S (O.getD k Km):=hr.ord _ (Je (d:=Km) hlt)
  have b0:=hO.span.lo
  have b1:=hO.span.mid
  have b2:=hO.span.hi
  have b3:=hO.span.len
  have bt:=hO.trip
  have hn:K1 (O.getD k Km)≤48∧(K1 (O.getD k Km):Int)=(O.getD k Km).2.2.2.1.2-(O.getD k Km).2.2.2.1.1:=by
   unfold K1
   constructor<;>omega
  refine⟨⟨⟨by omega,by omega⟩,by omega,by omega⟩,(k,o,(0:Nat)),by simp,⟨⟨hlt,Nat.zero_le _,by(first|omega|dsimp only;omega), ?_⟩,by simp⟩,fun(y:Nat×List Gap×Nat) hy=> ?_⟩
  ·dsimp only
   simpa[K1] using k3
  obtain⟨k',o,j⟩:=y
  obtain⟨⟨i1,i2,i3,i4⟩,hkk⟩:=hy
  have hkk:k'=k:=hkk
  subst hkk
  dsimp only at i1 i2 i3 i4
  refine⟨fun h2=> ?_,fun h2=> ?_⟩
  ·have h2:(O.getD k' Km).2.2.2.1.1+(j:Int)<(O.getD k' Km).2.2.2.1.2:=of_decide_eq_true h2
   have hj:K1 (O.getD k' Km)-j=(K1 (O.getD k' Km)-(j+1))+1:=by omega
   rw[hj,Jbq] at i4
   have hc:(O.getD k' Km).2.2.2.1.1+(j:Int)+1=(O.getD k' Km).2.2.2.1.1+((j+1:Nat):Int):=by omega
   rw[hc] at i4
   have hcnd:(bif bif decide ((O.getD k' Km).2.2.2.1.1+(j:Int)<u) then Ka (O.getD k' Km) ((O.getD k' Km).2.2.2.1.1+(j:Int)) else false then !(Hz M (O.getD k' Km).1 ((O.getD k' Km).2.2.2.1.1+(j:Int))).2 else false)=(Ka (O.getD k' Km) ((O.getD k' Km).2.2.2.1.1+(j:Int))&&(decide ((O.getD k' Km).2.2.2.1.1+(j:Int)<u)&&decide (Ub M (O.getD k' Km).1 ((O.getD k' Km).2.2.2.1.1+(j:Int))<0))):=by
    rw[Khy]
    cases decide ((O.getD k' Km).2.2.2.1.1+(j:Int)<u)<;>cases Ka (O.getD k' Km) ((O.getD k' Km).2.2.2.1.1+(j:Int))<;>rfl
   refine⟨hr,fun _=>bt.1,fun h3=>⟨by(first|omega|dsimp only;omega),⟨by(first|omega|dsimp only;omega),by(first|omega|dsimp only;omega)⟩,(k',o++[((O.getD k' Km).1,(O.getD k' Km).2.2.2.1.1+(j:Int))],j+1),by(repeat' first|exact rfl|exact⟨⟩|apply And.intro|omega|dsimp only;omega),⟨⟨hlt,by(first|omega|dsimp only;omega),by(simp only[List.length_append,List.length_singleton];omega), ?_⟩,by simp⟩,by(first|omega|dsimp only;omega)⟩,fun h3=>⟨⟨by(first|omega|dsimp only;omega),by(first|omega|dsimp only;omega)⟩,(k',o,j+1),by(repeat' first|exact rfl|exact⟨⟩|apply And.intro|omega|dsimp only;omega),⟨⟨hlt,by(first|omega|dsimp only;omega),by(first|omega|dsimp only;omega), ?_⟩,by simp⟩,by(first|omega|dsimp only;omega)⟩⟩
   all_goals (have h3:(bif bif decide ((O.getD k' Km).2.2.2.1.1+(j:Int)<u) then Ka (O.getD k' Km) ((O.getD k' Km).2.2.2.1.1+(j:Int)) else false then !(Hz M (O.getD k' Km).1 ((O.getD k' Km).2.2.2.1.1+(j:Int))).2 else false)=_:=h3;rw[hcnd] at h3;rw[h3] at i4;simpa using i4)
  ·have h2:¬(O.getD k' Km).2.2.2.1.1+(j:Int)<(O.getD k' Km).2.2.2.1.2:=of_decide_eq_false h2
   have hj:K1 (O.getD k' Km)-j=0:=by omega
   rw[hj,Jbq] at i4
   exact⟨⟨by(first|omega|dsimp only;omega),by(first|omega|dsimp only;omega)⟩,(k'+1,o),by simp,⟨by(first|omega|dsimp only;omega),by(first|omega|dsimp only;omega),by simpa using i4⟩,by(first|omega|dsimp only;omega)⟩
 ·obtain⟨k,o⟩:=x
  have hlt:¬k<O.length:=by simpa using h1
  obtain⟨k1,k2,k3⟩:=hk
  dsimp only at k1 k2 k3
  have:k=O.length:=by omega
  rw[this,List.drop_length,V3,List.append_nil] at k3
  exact k3
abbrev Ku1:=Ku2.add Kvv
def Jtn:Jnz:=(Jd,0,0,0,0,0)
def Jqi:List Jnz→Int×Int→Int×Int
 |[],a=>a
 |b::l,(s,g)=>Jqi l (s+b.2.2.1,g+b.2.2.2.1)
def J4x (st:Int) (O:List Ord) (M:List Met):(Int×Int)×Int:=if(Jqi (O.map (Uy st M)) (0,0)).1=0 then((0,0),6) else(J2u ((Jqi (O.map (Uy st M)) (0,0)).1-(Jqi (O.map (Uy st M)) (0,0)).2) (Jqi (O.map (Uy st M)) (0,0)).1,0)
def cAb (pre:Reg→Ev→List Prop) (f:Reg→Ev→ByteArray→Bool):Con:={args:=[Jat,aEv,aS],ress:=[Bo],owns:=[],pre:=fun(r,e,_)=>pre r e,spec:=fun(r,e,s,_)=>(f r e s,())}
def J6e:Con:=cAb (fun _ _=>[]) (fun _ _ _=>true)
theorem Kvn:Ok Tryz.prog 96 J6e:=okW Ku1 Tryz.f96 na fun xx=>by
 obtain⟨⟨(tk:Int),(st:Int),(S:List Sta),(O:List Ord),(M:List Met),(X:List Out),(Q:List Per)⟩,⟨(n:Int),(k:ByteArray),(ns:List ByteArray),(vs:List Int),(tx:ByteArray)⟩,(s:ByteArray),_⟩:=xx
 refine(by kernel_rfl:(true=true)=_).mp ?_
 rfl
abbrev Ku0:=Ku1.add Kvn
def abO (O:List Ord) (ns:List ByteArray) (s:ByteArray):Bool:=Dt (Dd O (ns.getD 0 Jd)) s
def Kx9:Con:={args:=[Jat,aEv,aS],ress:=[Bo],owns:=[],pre:=fun(r,e,_)=>[Js r,1≤e.2.2.1.length,0≤Uo r.2.2.2.1 (e.2.2.1.getD 0 Jd)],spec:=fun((tk,st,S,O,M,X,Q),(n,k,ns,vs,tx),s,_)=>(abO O ns s,())}
theorem Khs:Ok Tryz.prog 102 Kx9:=okW Ku0 Tryz.f102 na fun xx=>by
 obtain⟨⟨(tk:Int),(st:Int),(S:List Sta),(O:List Ord),(M:List Met),(X:List Out),(Q:List Per)⟩,⟨(n:Int),(k:ByteArray),(ns:List ByteArray),(vs:List Int),(tx:ByteArray)⟩,(s:ByteArray),_⟩:=xx
 refine(by kernel_rfl:(Kf tk st S O M X Q→Xk ns→Jyn O ns→Kcp ns O∧Dt (Kau O ns) s=abO O ns s)=_).mp ?_
 delta Z61 Z62 Z99 Vl Xk Fa Kf J2g Jnv J4f J4d J2c Jyn Kcp Kau Bd T2 Ln B0 E2
 intro hr h1 h2
 have nO:O.length≤32:=hr.nO
 repeat' first|assumption|exact rfl|trivial|omega|exact Kv|exact Ue|exact K2|exact Ud|apply And.intro|intro _
abbrev Kuz:=Ku0.add Khs
def abX (X:List Out) (ns:List ByteArray) (s:ByteArray):Bool:=(H9 X (ns.getD 0 Jd)).2.1.toList==s.toList
def Kx7:Con:={args:=[Jat,aEv,aS],ress:=[Bo],owns:=[],pre:=fun(r,e,_)=>[Js r,1≤e.2.2.1.length,0≤Kb r.2.2.2.2.2.1 (e.2.2.1.getD 0 Jd)],spec:=fun((tk,st,S,O,M,X,Q),(n,k,ns,vs,tx),s,_)=>(abX X ns s,())}
theorem Khl:Ok Tryz.prog 109 Kx7:=okW Kuz Tryz.f109 na fun xx=>by
 obtain⟨⟨(tk:Int),(st:Int),(S:List Sta),(O:List Ord),(M:List Met),(X:List Out),(Q:List Per)⟩,⟨(n:Int),(k:ByteArray),(ns:List ByteArray),(vs:List Int),(tx:ByteArray)⟩,(s:ByteArray),_⟩:=xx
 refine(by kernel_rfl:(Kf tk st S O M X Q→Xk ns→J37 X ns→Kco ns X∧Lb (J4g X ns).2.1 s=abX X ns s)=_).mp ?_
 delta Z54 Z62 Z99 Vl Xk Fa Kf J4g Jpu J37 Kco Bd T2 Ln B0 Lb
 intro hr h1 h2
 have nX:X.length≤16:=hr.nX
 repeat' first|assumption|exact rfl|trivial|omega|exact Kv|exact Ue|exact K2|exact Ud|apply And.intro|intro _
abbrev Kuy:=Kuz.add Khl
def abP (X:List Out) (Q:List Per) (ns:List ByteArray) (s:ByteArray):Bool:=(H9 X (Jmk Q (ns.getD 0 Jd)).2.1).2.1.toList==s.toList
def Kx8:Con:={args:=[Jat,aEv,aS],ress:=[Bo],owns:=[],pre:=fun(r,e,_)=>[Js r,1≤e.2.2.1.length,0≤U2 r.2.2.2.2.2.2 (e.2.2.1.getD 0 Jd)],spec:=fun((tk,st,S,O,M,X,Q),(n,k,ns,vs,tx),s,_)=>(abP X Q ns s,())}
theorem Jvt {Q:List Per} {s:ByteArray} (h:0≤U2 Q s):Jmk Q s∈Q:=by
 have:=Ud (l:=Q) (s:=s)
 exact Je (by omega)
theorem Khg:Ok Tryz.prog 114 Kx8:=okW Kuy Tryz.f114 na fun xx=>by
 obtain⟨⟨(tk:Int),(st:Int),(S:List Sta),(O:List Ord),(M:List Met),(X:List Out),(Q:List Per)⟩,⟨(n:Int),(k:ByteArray),(ns:List ByteArray),(vs:List Int),(tx:ByteArray)⟩,(s:ByteArray),_⟩:=xx
 refine(by kernel_rfl:(Kf tk st S O M X Q→Xk ns→J35 Q ns→T2 (Vl ns) (Z49 Q∧0≤Jph Q ns∧Z54 X∧0≤Kb X (Jmk Q (Z99 ns)).2.1)∧Lb (H9 X (Jmk Q (Z99 ns)).2.1).2.1 s=abP X Q ns s)=_).mp ?_
 delta Z49 Z54 Z62 Z99 Vl Xk Fa Kf Jph J35 Bd T2 Ln B0 Lb
 intro hr h1 h2
 have nX:X.length≤16:=hr.nX
 have nQ:Q.length≤16:=hr.nQ
 have h3:0≤Kb X (Jmk Q (ns.getD 0 Jd)).2.1:=hr.per _ (Jvt h2)
 repeat' first|assumption|exact rfl|trivial|omega|exact Kv|exact Ue|exact K2|exact Ud|apply And.intro|intro _
abbrev Kym:=Kuy.add Khg
structure Kta (r:Reg) (e:Ev):Prop where
 kind:V4 e.2.1=true
 ord:(Jj e.2.1).2.2.2.2=some 102→1≤e.2.2.1.length∧0≤Uo r.2.2.2.1 (e.2.2.1.getD 0 Jd)
 out:(Jj e.2.1).2.2.2.2=some 109→1≤e.2.2.1.length∧0≤Kb r.2.2.2.2.2.1 (e.2.2.1.getD 0 Jd)
 per:(Jj e.2.1).2.2.2.2=some 114→1≤e.2.2.1.length∧0≤U2 r.2.2.2.2.2.2 (e.2.2.1.getD 0 Jd)
structure Ks7 (r r':Reg):Prop where
 o:∀s,0≤Uo r.2.2.2.1 s→0≤Uo r'.2.2.2.1 s
 x:∀s,0≤Kb r.2.2.2.2.2.1 s→0≤Kb r'.2.2.2.2.2.1 s
 q:∀s,0≤U2 r.2.2.2.2.2.2 s→0≤U2 r'.2.2.2.2.2.2 s
theorem Kta.mono {r r':Reg} {e:Ev} (h:Kta r e) (hn:Ks7 r r'):Kta r' e:=
 ⟨h.kind,fun q=>⟨(h.ord q).1,hn.o _ (h.ord q).2⟩,fun q=>⟨(h.out q).1,hn.x _ (h.out q).2⟩,fun q=>⟨(h.per q).1,hn.q _ (h.per q).2⟩⟩
theorem Ji7 {α:Type} {l:List α} {m k:Nat} {d:α} (h:k<m):(l.take m).getD k d=l.getD k d:=by
 rw[List.getD_eq_getElem?_getD,List.getD_eq_getElem?_getD,List.getElem?_take_of_lt h]
theorem Jmt {α:Type} {l m:List α} {k:Nat} {d:α} (h:k<l.length):(l++m).getD k d=l.getD k d:=by
 rw[List.getD_eq_getElem?_getD,List.getD_eq_getElem?_getD,List.getElem?_append_left h]
theorem Ji8 {α:Type} {l:List α} {y d:α}:(l++[y]).getD l.length d=y:=by
 rw[List.getD_eq_getElem?_getD,List.getElem?_append_right (Nat.le_refl _),Nat.sub_self];rfl
def Jkx (xs:List ByteArray) (sep:ByteArray):ByteArray:=⟨(Lib.join (xs.map (·.data.toList)) sep.data.toList).toArray⟩
def Kii:Con:={args:=[.val false (.list 9 .str),aS],ress:=[tS],owns:=[],pre:=fun(xs,sep,_)=>[xs.length≤1000000,(Lib.join (xs.map (·.data.toList)) sep.data.toList).length≤140737488355328],spec:=fun(xs,sep,_)=>(Jkx xs sep,())}
def Yf (n:Int):ByteArray:=⟨(Lib.itoa n).toArray⟩
def Kij:Con:={args:=[aI],ress:=[tS],owns:=[],pre:=fun(n,_)=>[-9223372036854775808≤n∧n≤9223372036854775807],spec:=fun(n,_)=>(Yf n,())}
theorem Jwx (w:World) (q:Nat) (os:Array Obj):RowKit.Below w.heap.size w (Sort.grow (w.drewN q) os):=
 ⟨rfl,rfl,rfl,by first|(simp[Sort.grow];done)|(simp[Sort.grow];omega),fun i hi=>by
  show((w.drewN q).heap++os)[i]? =_
  rw[Array.getElem?_append_left (by show i<w.heap.size;omega)]
  rfl⟩
theorem Kg3:Ok Tryz.prog 128 Kij:=by
 refine⟨⟨Tryz.f128,by kernel_rfl,by kernel_rfl,by kernel_rfl⟩,fun z hz=>(by cases hz),fun F hF=>(by cases hF),fun _ x M R w vs hM hg hpre hargs=> ?_⟩
 obtain⟨n,u⟩:=x
 obtain⟨v,vs',rfl,ha,hr⟩:=hargs
 have hr:vs'=[]:=hr
 subst hr
 obtain⟨cs,rfl,hc⟩:=ha
 have hc:cs=[.int .i64 n]:=hc
 subst hc
 have hpre: -9223372036854775808≤n∧n≤9223372036854775807:=hpre
 refine(Tryz.strconv_Itoa n hpre.1 hpre.2 w (hg w (Sx.Below.refl _ _)).1).mono ?_
 rintro e w' ⟨rfl,k,os,rfl⟩
 exact⟨M,[.string (Yf n)],rfl, .ofK (Jwx w k os),fun _ h=>h,fun b h=> .inl h,_,[],rfl,⟨_,rfl,rfl⟩,rfl⟩
theorem Kg2:Ok Tryz.prog 129 Kii:=by
 refine⟨⟨Tryz.f129,by kernel_rfl,by kernel_rfl,by kernel_rfl⟩,fun z hz=>(by cases hz),fun F hF=>(by cases hF),fun _ x M R w vs hM hg hpre hargs=> ?_⟩
 obtain⟨xs,sep,u⟩:=x
 obtain⟨v,vs',rfl,ha,v2,vs2,rfl,hb,hr⟩:=hargs
 have hr:vs2=[]:=hr
 subst hr
 obtain⟨cs,rfl,hc⟩:=ha
 obtain⟨cs2,rfl,hc2⟩:=hb
 have hc2:cs2=[.string sep]:=hc2
 subst hc2
 obtain⟨v,flat,rfl,f1,f2⟩:=hc
 obtain⟨p1,p2⟩:=hpre
 have hflat:=Jct f1
 have fin:∀(e:Ending) (w':World),e= .returned (.string (Jkx xs sep))→RowKit.Below w.heap.size w w'→Jlr M w [tS] [] (Jkx xs sep,()) e w':=fun e w' he hb=>
  ⟨M,[.string (Jkx xs sep)],he, .ofK hb,fun _ h=>h,fun b h=> .inl h,_,[],rfl,⟨_,rfl,rfl⟩,rfl⟩
 rcases f2 with⟨rfl|⟨ad,cap,rfl⟩,h0⟩|⟨b,off,cap,rfl,hcap,hk,hm⟩
 ·have:xs=[]:=List.eq_nil_of_length_eq_zero h0
  subst this
  refine(Tryz.strings_Join_none none 0 sep w).mono ?_
  rintro e w' ⟨rfl,rfl⟩
  exact fin _ _ rfl (RowKit.Below.refl _ _)
 ·have:xs=[]:=List.eq_nil_of_length_eq_zero h0
  subst this
  refine(Tryz.strings_Join_none (some ad) cap sep w).mono ?_
  rintro e w' ⟨rfl,rfl⟩
  exact fin _ _ rfl (RowKit.Below.refl _ _)
 ·cases hx:xs with
  |nil=>
   subst hx
   refine(Tryz.strings_Join_none (some ⟨b,off,none⟩) cap sep w).mono ?_
   rintro e w' ⟨rfl,rfl⟩
   exact fin _ _ rfl (RowKit.Below.refl _ _)
  |cons x0 r=>
   rw[←hx]
   have hne:flat≠[]:=by rw[hflat,hx];simp
   refine(Tryz.strings_Join b off cap xs sep w (fun j x hj=>hk j _ (by rw[hflat,List.getElem?_map,hj];rfl)) (hM b (.inl (hm hne))) (by omega) hcap p2).mono ?_
   rintro e w' ⟨rfl,hb⟩
   exact fin _ _ rfl hb
abbrev Kyl:=Kym.add Kg2
abbrev Kyk:=Kyl.add Kg3
def Zr (s p:ByteArray):List ByteArray:=Lib.splitB p 0 (Lib.countB s p) s
def Jm9:Con:={args:=[aS,aS],ress:=[(false, .list 9 .str)],owns:=[true],pre:=fun(s,p,_)=>[s.size≤1000000,1≤p.size],spec:=fun(s,p,_)=>(Zr s p,())}
theorem Jfe {M:Nat→Prop} {w:World}:∀{xs:List ByteArray},Yc (Rep M w .str) xs (xs.map Value.string)
 |[]=>rfl
 |x::xs=>⟨[.string x],xs.map Value.string,rfl,rfl,Jfe⟩
theorem Kg4:Ok Tryz.prog 127 Jm9:=by
 refine⟨⟨Tryz.f127,by kernel_rfl,by kernel_rfl,by kernel_rfl⟩,fun z hz=>(by cases hz),fun F hF=>(by cases hF),fun _ x M R w vs hM hg hpre hargs=> ?_⟩
 obtain⟨s,p,u⟩:=x
 obtain⟨v1,vs1,rfl,ha1,v2,vs2,rfl,ha2,hr⟩:=hargs
 have hr:vs2=[]:=hr
 subst hr
 obtain⟨cs1,rfl,hc1⟩:=ha1
 obtain⟨cs2,rfl,hc2⟩:=ha2
 have hc1:cs1=[.string s]:=hc1
 have hc2:cs2=[.string p]:=hc2
 subst hc1;subst hc2
 have hpre:s.size≤1000000∧1≤p.size:=hpre
 refine(Tryz.strings_Split_shaped s p w ((hg w (.refl _ _)).2 rfl).1 (by omega) hpre.2).mono ?_
 rintro e w' ⟨rfl,rfl⟩
 have hlen:(Zr s p).length=Lib.countB s p+1:=Lib.splitB_all p hpre.2 0 _ s rfl
 have hle:=Lib.countB_le p hpre.2 s.size s (Nat.le_refl _)
 refine⟨M,[_],rfl, .ofK ⟨rfl,rfl,rfl,by show w.heap.size≤(w.heap.push _).size;simp,fun i hi=> ?_⟩,fun _ h=>h,fun b h=> .inl h,_,[],rfl,⟨(Zr s p).map Value.string,Jfe,⟨by simp[Sch.size,Jm9], .inr ⟨w.heap.size,Lib.countB s p+1,_,by rw[show(Jm9.spec (s,p,u)).1=Zr s p from rfl,hlen],Nat.le_refl _,heap_alloc_new w _,by rw[show(Jm9.spec (s,p,u)).1=Zr s p from rfl,hlen];exact Nat.le_refl _, ?_, ?_, ?_⟩⟩, ?_⟩,rfl⟩
 ·show(w.heap.push _)[i]? =_
  rw[Array.getElem?_push]
  split
  ·omega
  ·rfl
 ·show _≤9223372036854775807
  have:s.size≤1000000:=hpre.1
  omega
 ·show(List.map Value.string (Zr s p)).toArray.size=_
  simp[Sch.size,hlen]
 ·show(List.map Value.string (Zr s p)).take ((Zr s p).length*1)=_
  rw[List.take_of_length_le (by simp)]
 ·intro g hgb hM'
  have:w.heap.size=g:=Option.some.inj hgb
  have:=hM g (.inl hM')
  omega
abbrev Kyj:=Kyk.add Kg4
def Kit:Con:={args:=[],ress:=[],owns:=[],pre:=fun _=>[False],spec:=fun _=>(),prim:=some Ki0}
theorem J0a (s:ByteArray) (w:World) (hs:s.size≤1000000) (hg:Sx.Good Tryz.prog w):Calls Tryz.prog 165 #[.string s] w fun e w'=>∃u,e= .returned (.tuple #[.int .i64 (Jpm s),u])∧Jhr (Jtr s) u∧Sx.Below w.heap.size w w':=by
 have hw:=(hg w (.refl _ _)).2 rfl
 cases h:Lib.atoiAll s.data.toList
 ·rename_i v
  have e1:Jpm s=v:=by unfold Jpm;rw[h]
  have e2:Jtr s=false:=by unfold Jtr;rw[h]
  rw[e1,e2]
  refine Calls.mono (Any.strconv_Atoi_ok Tryz.laysAtoi s (by omega) v h w) ?_
  rintro e w' ⟨rfl,rfl|⟨t,rfl⟩⟩
  ·exact⟨_,rfl,rfl, .refl _ _⟩
  ·exact⟨_,rfl,rfl, .ofK (Lib.bytesWorld_below w _ t)⟩
 ·have e1:Jpm s=0:=by unfold Jpm;rw[h]
  have e2:Jtr s=true:=by unfold Jtr;rw[h]
  rw[e1,e2]
  obtain⟨tp,pe,hv⟩:=hw.2.1
  refine Calls.mono (Any.strconv_Atoi_syntax_var Tryz.laysAtoi s (by omega) h tp pe w hv) ?_
  rintro e w' ⟨N,rfl,_,_,hb⟩
  exact⟨_,rfl,⟨_,_,rfl⟩, .ofK hb⟩
 ·have e1:Jpm s=Lib.atoiSat s.data.toList:=by unfold Jpm;rw[h]
  have e2:Jtr s=true:=by unfold Jtr;rw[h]
  rw[e1,e2]
  obtain⟨tp,pe,hv⟩:=hw.2.2
  refine Calls.mono (Any.strconv_Atoi_range_var Tryz.laysAtoi s (by omega) h tp pe w hv) ?_
  rintro e w' ⟨N,rfl,_,_,hb⟩
  exact⟨_,rfl,⟨_,_,rfl⟩, .ofK hb⟩
theorem Kf4:Ok Tryz.prog 165 Kit:=⟨⟨Tryz.f165,by kernel_rfl,by kernel_rfl,by kernel_rfl⟩,fun z hz=>(by cases hz),fun F hF=>(by cases hF;exact J0x fun s w hs hg=>J0a s w hs hg),fun _ x M R w vs _ _ hpre _=>False.elim hpre⟩
abbrev Kyi:=Kyj.add Kf4
def Juj (s p:ByteArray):ByteArray×ByteArray×Bool:=(⟨(Lib.cut s.data.toList p.data.toList).1.toArray⟩,⟨(Lib.cut s.data.toList p.data.toList).2.1.toArray⟩,(Lib.cut s.data.toList p.data.toList).2.2)
def Kx5:Con:={args:=[aS,aS],ress:=[tS,tS,Bo],owns:=[],pre:=fun(s,_)=>[s.size≤1000000],spec:=fun(s,p,_)=>((Juj s p).1,(Juj s p).2.1,(Juj s p).2.2,())}
theorem Jwy (w:World) (q:Nat):RowKit.Below w.heap.size w (w.drewN q):=⟨rfl,rfl,rfl,Nat.le_refl _,fun i _=>rfl⟩
theorem Kwh:Ok Tryz.prog 60 Kx5:=by
 refine⟨⟨Tryz.f60,by kernel_rfl,by kernel_rfl,by kernel_rfl⟩,fun z hz=>(by cases hz),fun F hF=>(by cases hF),fun _ x M R w vs hM hg hpre hargs=> ?_⟩
 obtain⟨s,p,u⟩:=x
 obtain⟨v1,vs1,rfl,ha1,v2,vs2,rfl,ha2,hr⟩:=hargs
 have hr:vs2=[]:=hr
 subst hr
 obtain⟨cs1,rfl,hc1⟩:=ha1
 obtain⟨cs2,rfl,hc2⟩:=ha2
 have hc1:cs1=[.string s]:=hc1
 have hc2:cs2=[.string p]:=hc2
 subst hc1;subst hc2
 have hpre:s.size≤1000000:=hpre
 refine(Tryz.strings_Cut_shaped s p w ((hg w (.refl _ _)).2 rfl).1 (by omega)).mono ?_
 rintro e w' ⟨rfl,n,rfl⟩
 exact⟨M,[.string (Juj s p).1, .string (Juj s p).2.1, .bool (Juj s p).2.2],rfl, .ofK (Jwy w n),fun _ h=>h,fun b h=> .inl h,_,_,rfl,⟨_,rfl,rfl⟩,_,_,rfl,⟨_,rfl,rfl⟩,_,[],rfl,⟨_,rfl,rfl⟩,rfl⟩
abbrev Kyh:=Kyi.add Kwh
def J4q (s:ByteArray) (n:Int):ByteArray:=⟨(Lib.repeatL s.data.toList n.toNat).toArray⟩
def Kxs:Con:={args:=[aS,aI],ress:=[tS],owns:=[],pre:=fun(s,n,_)=>[s.size≤1000000,0≤n∧n≤1000000],spec:=fun(s,n,_)=>(J4q s n,())}
theorem Kg0:Ok Tryz.prog 131 Kxs:=by
 refine⟨⟨Tryz.f131,by kernel_rfl,by kernel_rfl,by kernel_rfl⟩,fun z hz=>(by cases hz),fun F hF=>(by cases hF),fun _ x M R w vs hM hg hpre hargs=> ?_⟩
 obtain⟨s,n,u⟩:=x
 obtain⟨v1,vs1,rfl,ha1,v2,vs2,rfl,ha2,hr⟩:=hargs
 have hr:vs2=[]:=hr
 subst hr
 obtain⟨cs1,rfl,hc1⟩:=ha1
 obtain⟨cs2,rfl,hc2⟩:=ha2
 have hc1:cs1=[.string s]:=hc1
 have hc2:cs2=[.int .i64 n]:=hc2
 subst hc1;subst hc2
 obtain⟨p1,p2,p3⟩:=hpre
 have p1:s.size≤1000000:=p1
 have p2:0≤n:=p2
 have p3:n≤1000000:=p3
 obtain⟨c,rfl⟩:=Int.eq_ofNat_of_zero_le p2
 have p3:(c:Int)≤1000000:=p3
 have hm:s.size*c≤1000000*1000000:=Nat.mul_le_mul p1 (by omega)
 refine(Tryz.strings_Repeat s c w (by omega) (by omega)).mono ?_
 rintro e w' ⟨rfl,hb⟩
 exact⟨M,[.string (J4q s c)],rfl, .ofK hb,fun _ h=>h,fun b h=> .inl h,_,[],rfl,⟨_,rfl,rfl⟩,rfl⟩
abbrev Kux:=Kyh.add Kg0
abbrev tI:Bool×Sch:=(false, .int .i64)
abbrev tB:Bool×Sch:=(false, .bool)
abbrev taS:AK:= .val false .str
theorem J4l {n:Int} (h0:0≤n) (h1:n<256):IntKind.u8.wrap n=n:=by
 simp[IntKind.wrap,IntKind.signed,IntKind.bits]
 omega
def Yg (c:Int):Bool:=decide (48≤c)&&decide (c≤57)
theorem Ji3 (c:Int):(bif decide (c<48) then true else decide (57<c))= !Yg c:=by
 unfold Yg
 have e1:decide (c<48)= !decide ((48:Int)≤c):=by rw[Bool.eq_iff_iff];simp
 have e2:decide ((57:Int)<c)= !decide (c≤57):=by rw[Bool.eq_iff_iff];simp
 rw[e1,e2]
 cases decide ((48:Int)≤c)<;>cases decide (c≤57)<;>rfl
def J9:List UInt8→Int→Int×Bool
 |[],n=>(n,true)
 |c::r,n=>if Yg c.toNat=true then J9 r (10*n+(c.toNat-48)) else(0,false)
def Lh (s:ByteArray):Bool:=decide (s.size=0)||decide (9<s.size)||(decide (1<s.size)&&decide (Dq s 0=48))
def Jy (s:ByteArray):Int×Bool:=if Lh s=true then(0,false) else J9 s.data.toList 0
def J0l:Con:={args:=[taS],ress:=[tI,tB],owns:=[],pre:=fun(s,_)=>[s.size≤1000000],spec:=fun(s,_)=>((Jy s).1,(Jy s).2,())}
theorem Jtp (s:ByteArray):(bif bif ((s.size:Int)==0) then true else decide (9<(s.size:Int)) then true else bif decide (1<(s.size:Int)) then(((s.data.toList.getD 0 0).toNat:Int)==48) else false)=Lh s:=by
 have e1:((s.size:Int)==0)=decide (s.size=0):=by rw[Bool.eq_iff_iff];simp
 have e2:decide (9<(s.size:Int))=decide (9<s.size):=by rw[decide_eq_decide];omega
 have e3:decide (1<(s.size:Int))=decide (1<s.size):=by rw[decide_eq_decide];omega
 have e4:(((s.data.toList.getD 0 0).toNat:Int)==48)=decide (Dq s 0=48):=by rw[Bool.eq_iff_iff];simp[Dq]
 have k:∀a b c d:Bool,(bif bif a then true else b then true else bif c then d else false)=(a||b||(c&&d)):=by decide
 rw[e1,e2,e3,e4,k];rfl
theorem Jal {c:Nat} (h:Yg c=true):48≤c∧c≤57:=by
 unfold Yg at h
 simp only[Bool.and_eq_true,decide_eq_true_eq] at h
 omega
theorem D7:∀{l:List UInt8} {n:Int},0≤n→0≤(J9 l n).1∧(J9 l n).1<(n+1)*10^l.length
 |[],n,h=>⟨h,by simp[J9];omega⟩
 | c :: r, n, h => by
  unfold J9
  split
  ·rename_i hc
   have hr:=Jal hc
   have ih:=D7 (l:=r) (n:=10*n+(c.toNat-48)) (by omega)
   refine⟨ih.1,Int.lt_of_lt_of_le ih.2 ?_⟩
   rw[List.length_cons,Int.pow_succ,Int.mul_comm (10^r.length),←Int.mul_assoc]
   exact Int.mul_le_mul_of_nonneg_right (by omega) (Int.pow_nonneg (by decide))
  ·refine⟨Int.le_refl _,Int.mul_pos (by omega) (Int.pow_pos (by decide))⟩
theorem Jk4 (s:ByteArray):0≤(Jy s).1∧(Jy s).1<1000000000:=by
 unfold Jy
 split
 ·exact⟨Int.le_refl _,by decide⟩
 ·rename_i h
  have h:Lh s=false:=by simpa using h
  have h9:s.size≤9:=by
   unfold Lh at h
   simp only[Bool.or_eq_false_iff,decide_eq_false_iff_not] at h
   omega
  have:=D7 (l:=s.data.toList) (n:=0) (Int.le_refl _)
  refine⟨this.1,Int.lt_of_lt_of_le this.2 ?_⟩
  have hp:=Nat.pow_le_pow_right (n:=10) (by decide) h9
  have hl:s.data.toList.length=s.size:=by simp
  rw[hl,Int.zero_add,Int.one_mul]
  have e:((10:Int)^s.size)=((10^s.size:Nat):Int):=by simp
  rw[e]
  have h2:((10^s.size:Nat):Int)≤((10^9:Nat):Int):=Int.ofNat_le.2 hp
  have h3:((10^9:Nat):Int)=1000000000:=by decide
  omega
def Jen (c:UInt8):List UInt8→List (List UInt8)
 |[]=>[[]]
 |x::r=>if x=c then[]::Jen c r else match Jen c r with
  |[]=>[[x]]
  |h::t=>(x::h)::t
def bs (l:List UInt8):ByteArray:=⟨l.toArray⟩
def Ja2 (s:ByteArray) (c:Int):List ByteArray:=(Jen (UInt8.ofNat c.toNat) s.data.toList).map bs
theorem Jzg (c:UInt8):∀l,Jen c l≠[]
 |[]=>by simp[Jen]
 |x::r=>by
  unfold Jen
  split
  ·simp
  ·split<;>simp
theorem Xu (c x:UInt8) (r:List UInt8):Jen c (x::r)=if x=c then[]::Jen c r else match Jen c r with
  |[]=>[[x]]
  |h::t=>(x::h)::t:=rfl
def J4m (n:Int):ByteArray:=⟨(Lib.itoa n).toArray⟩
theorem Jz8 {u:Nat} (h:¬u<10):Lib.decDigits u=Lib.decDigits (u/10)++[UInt8.ofNat (48+u %10)]:=by rw[Lib.decDigits,dif_neg h]
def Vg:List UInt8→Bool
 |[]=>true
 |b::r=>Yg (b.toNat:Int)&&Vg r
def Jm3 (s:ByteArray):Bool:=Vg s.data.toList&&decide (0<s.size)
def Kx4:Con:={args:=[aS],ress:=[Bo],owns:=[],pre:=fun(s,_)=>[s.size≤1000000],spec:=fun(s,_)=>(Jm3 s,())}
abbrev J6m (s:ByteArray):Ann:={X:=Nat,σ:=fun k=>⟨1,[(0, .one (.str s)),(6, .one (.sl 0))],[(0, .siter s k)]⟩,inv:=fun k=>k≤s.size∧Vg s.data.toList=Vg (s.data.toList.drop k),mu:=fun k=>s.size-k}
theorem Jfp {c:Int} (h:128≤c):Yg c=false:=by
 unfold Yg
 rw[decide_eq_false (show ¬c≤57 by omega),Bool.and_false]
def Kcz (a:Nat) (b:Bt):=a≤ByteArray.size b∧Vg (Z13 b)=Vg (List.drop a (Z13 b))
theorem Kg7:Ok Tryz.prog 124 Kx4:=Jvw Kux Tryz.f124 (Uq (l:=([]:List (Nat×Func))) (by simp)) (fun xx=>Ho (J6m xx.1)) (fun xx=>fun _=>na ()) fun xx=>by
 obtain⟨(s:ByteArray),_⟩:=xx
 refine(by kernel_rfl:(ByteArray.size s≤1000000→∃(x:Nat),Sf s (Sf s (0=x))∧Kcz x s∧∀(x:Nat),Kcz x s→(x<ByteArray.size s→Br true (Br (Kd0 s x) (Sf true (false=Jm3 s)) (∃(y:Nat),Sf s (Sf s (x+Jep s x=y))∧Kcz y s∧ByteArray.size s-y<ByteArray.size s-x)) (Sf true ((!Lb s B0)=Jm3 s)))∧((x<ByteArray.size s→False)→Br false False (Sf true ((!Lb s B0)=Jm3 s))))=_).mp ?_
 delta Z13 Kd0 Kcz Br Sf B0 Lb
 intro hb
 refine⟨(0:Nat),⟨rfl,rfl,rfl⟩,⟨Nat.zero_le _,by simp⟩,fun(k:Nat) hk=>⟨fun h=>⟨fun _=>⟨fun h1=>⟨rfl, ?_⟩,fun h1=> ?_⟩,fun h=>(by cases h)⟩,fun h=> ?_⟩⟩
 ·rw[Ji3] at h1
  have h2:Yg (Vo s k)=false:=by simpa using h1
  unfold Jm3
  have h3:Vg s.data.toList=false:=by
   rw[hk.2,Ly h,Vg]
   by_cases ha:(s[k]'h).toNat<128
   ·rw[←(Jbz h ha).1,h2];rfl
   ·rw[Jfp (by omega)];rfl
  rw[h3];rfl
 ·rw[Ji3] at h1
  have h2:Yg (Vo s k)=true:=by simpa using h1
  by_cases ha:(s[k]'h).toNat<128
  ·obtain⟨r1,r2⟩:=Jbz h ha
   refine⟨(k+1:Nat),⟨rfl,rfl,by rw[r2]⟩,⟨by omega, ?_⟩,by omega⟩
   rw[hk.2,Ly h,Vg,←r1,h2]
   rfl
  ·have:=Jig h (by omega)
   rw[Jfp this] at h2
   cases h2
 ·have e:k=s.size:=Nat.le_antisymm hk.1 (Nat.le_of_not_lt h)
  refine⟨fun h=>(by cases h),fun _=>⟨rfl, ?_⟩⟩
  rw[e,List.drop_eq_nil_of_le (by simp)] at hk
  unfold Jm3
  rw[hk.2,Jgr]
  rfl
abbrev Kuw:=Kux.add Kg7
theorem Jtk (a:ByteArray):bs a.data.toList=a:=rfl
theorem Jcl (c:UInt8):∀l:List UInt8,Lib.splitK [c] 0 (l.count c) l=Jen c l
 |[]=>rfl
 | x :: r => by
  have ih:=Jcl c r
  by_cases h:x=c
  ·subst h
   rw[Xu,if_pos rfl,List.count_cons_self]
   have e:Lib.index (x::r) [x]=0:=by simp[Lib.index,List.isPrefixOf]
   rw[Lib.splitK,e,←ih]
   rfl
  ·rw[Xu,if_neg h,List.count_cons_of_ne h,←ih]
   have hp:[c].isPrefixOf (x::r)=false:=by
    have:¬c=x:=fun e=>h e.symm
    simp[List.isPrefixOf,this]
   cases hk:r.count c with
   |zero=>rfl
   | succ k =>
    have hi:Lib.index (x::r) [c]=if Lib.index r [c]== -1 then -1 else Lib.index r [c]+1:=by rw[Lib.index,hp];rfl
    by_cases h1:Lib.index r [c]= -1
    ·have e2:Lib.index (x::r) [c]= -1:=by rw[hi,h1];rfl
     simp only[Lib.splitK,e2,h1]
     rfl
    ·have hg:=Lib.index_ge r [c]
     have e2:Lib.index (x::r) [c]=Lib.index r [c]+1:=by rw[hi,if_neg (by simpa using h1)]
     obtain⟨i,hi⟩:=Int.eq_ofNat_of_zero_le (by omega:0≤Lib.index r [c])
     rw[hi] at e2
     have n1:¬((i:Int)== -1)=true:=by simp
     have n2:¬(((i:Int)+1)== -1)=true:=by simp;omega
     simp only[Lib.splitK,e2,hi]
     rw[if_neg n1,if_neg n2]
     have t1:((i:Int)+1).toNat=i+1:=by omega
     have t2:((i:Int)).toNat=i:=by omega
     simp only[t1,t2,Nat.add_zero,List.take_succ_cons,List.length_cons,List.length_nil]
     rfl
theorem Jj6 (s:ByteArray) (c:UInt8):Zr s ⟨#[c]⟩=(Jen c s.data.toList).map bs:=by
 have h:=Lib.splitB_data ⟨#[c]⟩ 0 (Lib.countB s ⟨#[c]⟩) s
 have hc:Lib.countB s ⟨#[c]⟩=s.data.toList.count c:=Lib.count_one c s.data.toList
 rw[hc] at h
 have h2:(Zr s ⟨#[c]⟩).map (·.data.toList)=Jen c s.data.toList:=by
  rw[←Jcl]
  unfold Zr
  rw[hc];exact h
 rw[←h2,List.map_map]
 exact(List.map_id' _).symm
theorem Jby (c:UInt8):∀(l w:List UInt8),w∈Jen c l→w.length≤l.length
 |[],w,h=>by
  have:w=[]:=by simpa[Jen] using h
  rw[this];exact Nat.le_refl _
 | x :: r, w, h => by
  rw[Xu] at h
  split at h
  ·rcases List.mem_cons.1 h with h|h
   ·rw[h];exact Nat.zero_le _
   ·exact Nat.le_succ_of_le (Jby c r w h)
  ·split at h
   ·rename_i e;exact absurd e (Jzg c r)
   ·rename_i hh t e
    rcases List.mem_cons.1 h with h|h
    ·rw[h]
     exact Nat.succ_le_succ (Jby c r hh (by rw[e];simp))
    ·exact Nat.le_succ_of_le (Jby c r w (by rw[e];simp[h]))
theorem Up (l:List UInt8):(bs l).size=l.length:=by show l.toArray.size=_;simp
theorem Jm0 (r:ByteArray) (i:Nat):r.extract 0 i=bs (r.data.toList.take i):=by
 rw[←Jtk (r.extract 0 i),Lib.extract_data];simp
theorem Jm1 (r:ByteArray) (i:Nat):r.extract i r.size=bs (r.data.toList.drop i):=by
 rw[←Jtk (r.extract i r.size),Lib.extract_data,List.take_of_length_le (by simp)]
theorem Jl2 (c:UInt8):∀l:List UInt8,(Jen c l).length≤l.length+1
 |[]=>Nat.le_refl _
 | x :: r => by
  have ih:=Jl2 c r
  rw[Xu]
  split
  ·simp;omega
  ·split
   ·simp
   ·rename_i e;rw[e] at ih;simp at ih⊢;omega
theorem Lg (c:UInt8):∀(l:List UInt8) (n:Int),J9 (l++[c]) n=if(J9 l n).2=true∧Yg c.toNat=true then(10*(J9 l n).1+(c.toNat-48),true) else(0,false)
 |[],n=>by
  show(if Yg c.toNat=true then _ else _)=_
  by_cases h:Yg c.toNat=true
  ·rw[if_pos h,if_pos ⟨rfl,h⟩];rfl
  ·rw[if_neg h,if_neg (fun q=>h q.2)]
 |x::l,n=>by
  have ih:=Lg c l (10*n+(x.toNat-48))
  show(if Yg x.toNat=true then J9 (l++[c]) (10*n+(x.toNat-48)) else(0,false))=_
  have e:J9 (x::l) n=if Yg x.toNat=true then J9 l (10*n+(x.toNat-48)) else(0,false):=rfl
  rw[e]
  by_cases h:Yg x.toNat=true
  ·rw[if_pos h,if_pos h,ih]
  ·rw[if_neg h,if_neg h,if_neg (fun q=>by cases q.1)]
theorem Lx (u:Nat):10≤u→Lib.decDigits u=Lib.decDigits (u/10)++[UInt8.ofNat (48+u %10)]:=fun h=>Jz8 (by omega)
theorem Ft {x:Nat} (h:x<10):(UInt8.ofNat (48+x)).toNat=48+x:=UInt8.toNat_ofNat_of_lt' (by show 48+x<256;omega)
theorem X3 {x:Nat} (h:x<10):Yg (UInt8.ofNat (48+x)).toNat=true:=by
 rw[Ft h];unfold Yg;simp;omega
theorem Jdt (u:Nat):J9 (Lib.decDigits u) 0=((u:Int),true):=by
 induction u using Nat.strongRecOn with
 | ind u ih =>
  by_cases h:u<10
  ·rw[Lib.decDigits_one h]
   show(if Yg (UInt8.ofNat (48+u)).toNat=true then _ else _)=_
   rw[if_pos (X3 h),Ft h]
   show((_:Int),true)=_
   congr 1;omega
  ·have hd:u %10<10:=Nat.mod_lt _ (by decide)
   rw[Lx u (by omega),Lg,ih (u/10) (by omega),if_pos ⟨rfl,X3 hd⟩,Ft hd]
   congr 1;dsimp only;omega
theorem Jb6 (u:Nat):∃c r,Lib.decDigits u=c::r∧Yg c.toNat=true∧(1≤u→c.toNat≠48):=by
 induction u using Nat.strongRecOn with
 | ind u ih =>
  by_cases h:u<10
  ·refine⟨_,_,Lib.decDigits_one h,X3 h,fun h1=> ?_⟩
   rw[Ft h];omega
  ·obtain⟨c,r,e,h1,h2⟩:=ih (u/10) (by omega)
   exact⟨c,r++[UInt8.ofNat (48+u %10)],by rw[Lx u (by omega),e];rfl,h1,fun _=>h2 (by omega)⟩
theorem D8 (u:Nat):1≤(Lib.decDigits u).length:=by
 obtain⟨c,r,e,_⟩:=Jb6 u
 rw[e];simp
theorem Jk6:∀(k u:Nat),((Lib.decDigits u).length≤k+1↔u<10^(k+1))
 | 0, u => by
  by_cases h:u<10
  ·rw[Lib.decDigits_one h];simp;omega
  ·have h2:=D8 (u/10)
   rw[Lx u (by omega),List.length_append]
   simp only[List.length_cons,List.length_nil]
   constructor
   ·intro q;omega
   ·intro q;simp at q;omega
 | k + 1, u => by
  by_cases h:u<10
  ·rw[Lib.decDigits_one h]
   have:10≤10^(k+1+1):=by
    rw[Nat.pow_succ]
    have:=Nat.pos_of_ne_zero (n:=10^(k+1)) (by simp)
    omega
   simp;omega
  ·have ih:=Jk6 k (u/10)
   rw[Lx u (by omega),List.length_append]
   simp only[List.length_cons,List.length_nil]
   rw[Nat.pow_succ]
   constructor
   ·intro q
    have:=ih.1 (by omega)
    omega
   ·intro q
    have:=ih.2 (by omega)
    omega
theorem J5a:∀(k:Nat) (l:List UInt8),l.length=k+1→(J9 l 0).2=true→(1<l.length→∀c,l.head? =some c→c.toNat≠48)→l=Lib.decDigits (J9 l 0).1.toNat
 | 0, l, hl, hd, _ => by
  match l,hl with
  | [c], _ =>
   have e:J9 [c] 0=if Yg c.toNat=true then((10*0+(c.toNat-48):Int),true) else(0,false):=rfl
   by_cases h:Yg c.toNat=true
   ·rw[e,if_pos h]
    have hr:=Jal h
    have:((10*0+((c.toNat:Int)-48))).toNat=c.toNat-48:=by omega
    dsimp only
    rw[this,Lib.decDigits_one (by omega),show 48+(c.toNat-48)=c.toNat by omega,UInt8.ofNat_toNat]
   ·rw[e,if_neg h] at hd;cases hd
 | k + 1, l, hl, hd, h0 => by
  obtain⟨i,c,rfl⟩:∃i c,l=i++[c]:=by
   rcases List.eq_nil_or_concat l with h|⟨i,c,h⟩
   ·rw[h] at hl;simp at hl
   ·exact⟨i,c,by simpa using h⟩
  have hil:i.length=k+1:=by simpa using hl
  have hs:=Lg c i 0
  by_cases hc:(J9 i 0).2=true∧Yg c.toNat=true
  ·rw[if_pos hc] at hs
   have hh:∀d,i.head? =some d→d.toNat≠48:=fun d hd=>h0 (by simp;omega) d (by
    cases i with
    |nil=>cases hd
    |cons a b=>exact hd)
   have ih:=J5a k i hil hc.1 fun _=>hh
   have hr:=Jal hc.2
   have hn:=(D7 (l:=i) (n:=0) (Int.le_refl _)).1
   obtain⟨m,hm⟩:=Int.eq_ofNat_of_zero_le hn
   rw[hm] at ih hs
   simp only[Int.toNat_natCast] at ih
   have hm1:1≤m:=by
    rcases Nat.eq_zero_or_pos m with h|h
    ·subst h
     rw[ih,Lib.decDigits_one (by decide)] at hh
     exact absurd rfl (hh 48 rfl)
    ·exact h
   rw[hs]
   have e:(10*(m:Int)+((c.toNat:Int)-48)).toNat=10*m+(c.toNat-48):=by omega
   dsimp only
   rw[e,Lx _ (by omega),show(10*m+(c.toNat-48))/10=m by omega,show 48+(10*m+(c.toNat-48)) %10=c.toNat by omega,UInt8.ofNat_toNat,←ih]
  ·rw[hs,if_neg hc] at hd;cases hd
theorem Joo {c:UInt8} {r:List UInt8} {n:Nat} (h:48≤c.toNat∧c.toNat≤57) (h1:¬1844674407370955162≤n) (h2:¬18446744073709551616≤n*10+(c.toNat-48)):Lib.parseUint10 n (c::r)=Lib.parseUint10 (n*10+(c.toNat-48)) r:=by
 simp only[Lib.parseUint10]
 rw[if_pos h,if_neg h1,if_neg h2]
theorem Jbc (c:UInt8) (r:List UInt8) (n:Int):J9 (c::r) n=if Yg c.toNat=true then J9 r (10*n+(c.toNat-48)) else(0,false):=rfl
theorem Jrg (l:List UInt8):∀(n:Nat),(J9 l n).2=true→(J9 l n).1<1000000000000000000→Lib.parseUint10 n l= .ok (J9 l n).1.toNat∧(n:Int)≤(J9 l n).1:=by
 induction l with
 |nil=>exact fun n _ _=>⟨rfl,Int.le_refl _⟩
 | cons c r ih =>
  intro n h1 h2
  by_cases h:Yg c.toNat=true
  ·rw[Jbc,if_pos h] at h1 h2⊢
   have hr:=Jal h
   have en:(10*(n:Int)+((c.toNat:Int)-48))=((n*10+(c.toNat-48):Nat):Int):=by omega
   rw[en] at h1 h2⊢
   obtain⟨a1,a2⟩:=ih _ h1 h2
   have h3:n<1000000000000000000:=by omega
   refine⟨?_,by omega⟩
   rw[Joo hr (by omega) (by omega)]
   exact a1
  ·rw[Jbc,if_neg h] at h1;cases h1
theorem Kiz (c:UInt8) (r:List UInt8):Dq (bs (c::r)) 0=c.toNat:=rfl
theorem Jo4 {u:Nat} (h:u<1000000000):Jy (bs (Lib.decDigits u))=((u:Int),true):=by
 have hl:=(Jk6 8 u).2 (by simpa using h)
 obtain⟨c,r,e,h1,h2⟩:=Jb6 u
 have hb:Lh (bs (Lib.decDigits u))=false:=by
  unfold Lh
  rw[Up]
  have hp:=D8 u
  simp only[Bool.or_eq_false_iff,decide_eq_false_iff_not,Bool.and_eq_false_iff]
  refine⟨⟨by omega,by omega⟩, ?_⟩
  by_cases hu:1≤u
  ·right
   rw[e,Kiz]
   have:=h2 hu
   omega
  ·left
   have:u=0:=by omega
   subst this
   rw[Lib.decDigits_one (by decide)];simp
 unfold Jy
 rw[hb]
 exact Jdt u
theorem Jrv {u:Nat} (h:u<1000000000):Lib.parseMag (Lib.decDigits u)= .ok u:=by
 obtain⟨c,r,e,_⟩:=Jb6 u
 unfold Lib.parseMag
 rw[if_neg (by rw[e];simp)]
 have hd:=Jdt u
 have:=(Jrg (Lib.decDigits u) 0 (by show(J9 _ 0).2=true;rw[hd]) (by show(J9 _ 0).1<_;rw[hd];dsimp only;omega)).1
 rw[this]
 show Lib.NumEnd.ok (J9 _ 0).1.toNat=_
 rw[hd];rfl
theorem Jtq {v:Int} (h0: -1000000000<v) (h1:v<1000000000):Lib.atoiAll (Lib.itoa v)= .ok v:=by
 rcases(by omega:v<0∨0≤v) with hv|hv
 ·obtain⟨u,hu⟩:=Int.eq_ofNat_of_zero_le (by omega:0≤-v)
  have hn:v= -(u:Int):=by omega
  subst hn
  rw[Lib.itoa_neg u (by omega)]
  have hm:=Jrv (u:=u) (by omega)
  have e45:(45:UInt8).toNat=45:=rfl
  simp only[Lib.atoiAll,e45]
  rw[if_pos (Or.inr trivial),hm]
  dsimp only
  rw[if_neg (by omega),if_neg (by omega),if_pos trivial]
 ·obtain⟨u,rfl⟩:=Int.eq_ofNat_of_zero_le hv
  have e:Lib.itoa (u:Int)=Lib.decDigits u:=Lib.itoa_nonneg u
  rw[e]
  have hm:=Jrv (u:=u) (by omega)
  obtain⟨c,r,e,h3,h4⟩:=Jb6 u
  have hr:=Jal h3
  rw[e] at hm⊢
  simp only[Lib.atoiAll]
  rw[if_neg (by omega),hm]
  dsimp only
  rw[if_neg (by omega),if_neg (by omega),if_neg (by omega)]
theorem Jo3 {s:ByteArray} (h:(Jy s).2=true):∃u:Nat,u<1000000000∧s.data.toList=Lib.decDigits u∧(Jy s).1=u:=by
 have hr:=Jk4 s
 obtain⟨u,hu⟩:=Int.eq_ofNat_of_zero_le hr.1
 by_cases hb:Lh s=true
 ·unfold Jy at h;rw[if_pos hb] at h;cases h
 ·have ed:Jy s=J9 s.data.toList 0:=by unfold Jy;rw[if_neg hb]
  have hb:Lh s=false:=by simpa using hb
  unfold Lh at hb
  simp only[Bool.or_eq_false_iff,decide_eq_false_iff_not,Bool.and_eq_false_iff] at hb
  obtain⟨⟨b1,b2⟩,b3⟩:=hb
  have hl:s.data.toList.length=s.size:=by simp
  have:=J5a (s.size-1) s.data.toList (by omega) (by rw[←ed];exact h) (fun hl2 c hc=>by
   rcases b3 with b3|b3
   ·omega
   ·intro q
    apply b3
    have:Dq s 0=c.toNat:=by
     unfold Dq
     rw[List.getD_eq_getElem?_getD]
     have e0:s.data.toList[(0:Int).toNat]? =some c:=by rw[←hc];simp[List.head?_eq_getElem?]
     rw[e0];rfl
    rw[this,q];rfl)
  rw[←ed,hu] at this
  exact⟨u,by omega,this,hu⟩
theorem Jl3 {c:UInt8}:∀{a:List UInt8} (r:List UInt8),c∉a→Jen c (a++c::r)=a::Jen c r
 |[],r,_=>by rw[List.nil_append,Xu,if_pos rfl]
 |x::a,r,h=>by
  have hx:¬x=c:=fun e=>h (by rw[e];simp)
  rw[List.cons_append,Xu,if_neg hx,Jl3 r (fun q=>h (by simp[q]))]
theorem Jh7 {c:UInt8}:∀{a:List UInt8},c∉a→Jen c a=[a]
 |[],_=>rfl
 |x::a,h=>by
  have hx:¬x=c:=fun e=>h (by rw[e];simp)
  rw[Xu,if_neg hx,Jh7 (a:=a) (fun q=>h (by simp[q]))]
theorem Jst (u:Nat):∀c∈Lib.decDigits u,Yg c.toNat=true:=by
 induction u using Nat.strongRecOn with
 | ind u ih =>
  intro c hc
  by_cases h:u<10
  ·rw[Lib.decDigits_one h] at hc
   have:c=UInt8.ofNat (48+u):=by simpa using hc
   rw[this];exact X3 h
  ·rw[Lx u (by omega)] at hc
   rcases List.mem_append.1 hc with hc|hc
   ·exact ih (u/10) (by omega) c hc
   ·have:c=UInt8.ofNat (48+u %10):=by simpa using hc
    rw[this];exact X3 (Nat.mod_lt _ (by decide))
theorem Jg1 (n:Int):∀c∈Lib.itoa n,c≠10∧c≠32:=by
 have key:∀(u:Nat),∀c∈Lib.decDigits u,c≠10∧c≠32:=fun u c hc=>by
  have hr:=Jal (Jst u c hc)
  have e1:(10:UInt8).toNat=10:=rfl
  have e2:(32:UInt8).toNat=32:=rfl
  exact⟨by rintro rfl;omega,by rintro rfl;omega⟩
 intro c hc
 unfold Lib.itoa at hc
 split at hc
 ·rcases List.mem_cons.1 hc with hc|hc
  ·rw[hc];decide
  ·exact key _ c hc
 ·exact key _ c hc
theorem Jd7:∀{l:List UInt8} {n:Int},Vg l=true→(J9 l n).2=true
 |[],_,_=>rfl
 |c::r,n,h=>by
  rw[Vg,Bool.and_eq_true] at h
  rw[J9,if_pos h.1]
  exact Jd7 h.2
theorem Jdi:∀{l:List UInt8} {n:Int},(J9 l n).2=true→Vg l=true
 |[],_,_=>rfl
 | c :: r, n, h => by
  rw[J9] at h
  by_cases q:Yg c.toNat=true
  ·rw[if_pos q] at h
   rw[Vg,q,Jdi h];rfl
  ·rw[if_neg q] at h;cases h
theorem Jdu:∀{l:List UInt8} {n:Int},(J9 l n).2=false→J9 l n=(0,false)
 |[],_,h=>by cases h
 |c::r,n,h=>by
  rw[J9] at h⊢
  by_cases q:Yg c.toNat=true
  ·rw[if_pos q] at h⊢;exact Jdu h
  ·rw[if_neg q]
theorem Jr9 (s:ByteArray):(bif bif !Jm3 s then true else decide (9<(s.size:Int)) then true else bif decide (1<(s.size:Int)) then(((s.data.toList.getD 0 0).toNat:Int)==48) else false)= !(Jy s).2:=by
 have hb:=Jtp s
 have hl:s.data.toList.length=s.size:=by simp
 unfold Jm3
 cases ha:Vg s.data.toList with
 | false =>
  have e:(Jy s).2=false:=by
   unfold Jy
   split
   ·rfl
   ·cases h:(J9 s.data.toList 0).2 with
    |false=>rfl
    |true=>rw[Jdi h] at ha;cases ha
  rw[e];rfl
 | true =>
  have e:(Jy s).2= !Lh s:=by
   unfold Jy
   cases hd:Lh s with
   |true=>rfl
   |false=>exact Jd7 ha
  rw[e,←hb]
  have e1:decide (0<s.size)= !((s.size:Int)==0):=by
   by_cases q:s.size=0
   ·rw[q];rfl
   ·rw[decide_eq_true (by omega),beq_eq_false_iff_ne.2 (by omega)];rfl
  rw[e1]
  cases((s.size:Int)==0)<;>simp
theorem Jo9 {s:ByteArray} (h:(Jy s).2=true):Jpm s=(Jy s).1:=by
 obtain⟨u,h1,h2,h3⟩:=Jo3 h
 have e:Lib.itoa (u:Int)=Lib.decDigits u:=Lib.itoa_nonneg u
 have:=Jtq (v:=(u:Int)) (by omega) (by omega)
 unfold Jpm
 rw[h2,←e,this,h3]
def Kst (a:Bt):=bif !Jm3 a then true else decide (9<Nc (ByteArray.size a))
theorem Kg6:Ok Tryz.prog 125 J0l:=okW Kuw Tryz.f125 na fun xx=>by
 obtain⟨(s:ByteArray),_⟩:=xx
 refine(by kernel_rfl:(ByteArray.size s≤1000000→(ByteArray.size s≤1000000∧(Kst s=false∧decide (1<Nc (ByteArray.size s))=true→Bd 0 (Nc (ByteArray.size s))))∧Br (bif Kst s then true else bif decide (1<Nc (ByteArray.size s)) then Keq s==48 else false) (0=(Jy s).1∧false=(Jy s).2) (ByteArray.size s≤1000000∧Jpm s=(Jy s).1∧true=(Jy s).2))=_).mp ?_
 delta Z13 Keq Kst Br Bd Nc
 intro hs
 rw[Jr9]
 refine⟨⟨hs,fun h=>⟨Int.le_refl _,by have:=of_decide_eq_true h.2;omega⟩⟩,fun h=> ?_,fun h=> ?_⟩
 ·have h:(Jy s).2=false:=by simpa using h
  have e:Jy s=(0,false):=by
   unfold Jy at h⊢
   split
   ·rfl
   ·rename_i q
    rw[if_neg q] at h
    exact Jdu h
  rw[e];exact⟨rfl,rfl⟩
 ·have h:(Jy s).2=true:=by simpa using h
  exact⟨hs,Jo9 h,h.symm⟩
abbrev Kuv:=Kuw.add Kg6
def Jvd:List UInt8→Int→Int
 |[],x=>x
 |b::r,x=>Jvd r ((341*x+(b.toNat:Int)).tmod 9999721)
def Jh5 (s:ByteArray):Int:=Jvd s.data.toList 1
def J9q (l:List UInt8):List UInt8:=List.replicate (7-l.length) 48++l
def Je6 (s:ByteArray):ByteArray:=bs (J9q (Lib.itoa (Jh5 s)))
theorem Jqh:∀{l:List UInt8} {x:Int},0≤x∧x<9999721→0≤Jvd l x∧Jvd l x<9999721
 |[],_,h=>h
 |b::r,x,h=>by
  unfold Jvd
  have hb:(0:Int)≤b.toNat:=by omega
  exact Jqh ⟨Int.tmod_nonneg _ (by omega),Int.tmod_lt_of_pos _ (by decide)⟩
theorem Jj8 (s:ByteArray):0≤Jh5 s∧Jh5 s<9999721:=Jqh ⟨by decide,by decide⟩
theorem Jl0 (s:ByteArray):1≤(Lib.itoa (Jh5 s)).length∧(Lib.itoa (Jh5 s)).length≤7:=by
 obtain⟨h0,h1⟩:=Jj8 s
 obtain⟨u,hu⟩:=Int.eq_ofNat_of_zero_le h0
 rw[hu] at h1⊢
 rw[show Lib.itoa (u:Int)=Lib.decDigits u from Lib.itoa_nonneg u]
 exact⟨D8 u,(Jk6 6 u).2 (by have:u<9999721:=(by omega);omega)⟩
theorem Kvj (n:Nat):Lib.repeatL [48] n=List.replicate n 48:=by
 induction n with
 |zero=>rfl
 |succ n ih=>rw[List.replicate_succ,←ih];rfl
def Kxq:Con:={args:=[aS],ress:=[tS],owns:=[],pre:=fun(s,_)=>[s.size≤1000000],spec:=fun(s,_)=>(Je6 s,())}
abbrev J6h (s:ByteArray):Ann:={X:=Nat×Int,σ:=fun(k,x)=>⟨0,[(0, .one (.str s)),(3, .one (.int .i64 x)),(7, .one (.int .i64 s.size)),(8, .one (.int .i64 k))],[]⟩,inv:=fun(k,x)=>k≤s.size∧(0≤x∧x<9999721)∧Jvd (s.data.toList.drop k) x=Jh5 s,mu:=fun(k,_)=>s.size-k}
theorem J0t (s:ByteArray) (k:Nat):(s.data.toList.getD k 0).toNat<256:=(s.data.toList.getD k 0).toNat_lt
def J9d (a:Nat×Int):=7-Nc (ByteArray.size (Yf a.2))
def Ksf (a:Nat×Int):=J4q (ByteArray.mk (Array.mk [48])) (J9d a)
def Ksd (a:Nat×Int) (b:Bt):=341*a.2+Nc (UInt8.toNat (List.getD (Z13 b) a.1 0))
def Kcw (a:Nat×Int) (b:Bt):=a.1≤ByteArray.size b∧Bd a.2 9999721∧Jvd (List.drop a.1 (Z13 b)) a.2=Jh5 b
theorem Kwe:Ok Tryz.prog 63 Kxq:=okW Kuv Tryz.f63 (fun xx=>Ho (J6h xx.1)) fun xx=>by
 obtain⟨(s:ByteArray),_⟩:=xx
 refine(by kernel_rfl:(ByteArray.size s≤1000000→∃(x:Nat×Int),Sf s (1=x.2∧Si (Nc (ByteArray.size s)) (0=Nc x.1))∧Kcw x s∧∀(x:Nat×Int),Kcw x s→Br (decide (Nc x.1<Nc (ByteArray.size s))) ((Iw (341*x.2)∧Bd (Nc x.1) (Nc (ByteArray.size s))∧Iw (Nc (UInt8.toNat (List.getD (Z13 s) x.1 0)))∧Iw (Ksd x s)∧((9999721:Int)=0→False))∧Z42 x∧∃(y:Nat×Int),Sf s (Int.tmod (Ksd x s) 9999721=y.2∧Si (Nc (ByteArray.size s)) (Jux x y))∧Kcw y s∧ByteArray.size s-y.1<ByteArray.size s-x.1) (Iw x.2∧(Iw (J9d x)∧1≤1000000∧(0≤J9d x∧J9d x≤1000000)∧Nc (ByteArray.size (Ksf x)+ByteArray.size (Yf x.2))≤9223372036854775807)∧ByteArray.mk (Array.mk ((Ksf x).data.toList++(Yf x.2).data.toList))=Je6 s))=_).mp ?_
 delta Z13 Z42 Jux J9d Ksf Ksd Kcw Br Iw Bd Sf Si Nc
 intro hs
 refine⟨((0:Nat),(1:Int)),by simp,⟨Nat.zero_le _,by(first|omega|dsimp only;omega),rfl⟩,fun(y:Nat×Int) hk=>⟨fun h=> ?_,fun h=> ?_⟩⟩
 ·obtain⟨k,x⟩:=y
  have hlt:k<s.size:=by simpa using h
  obtain⟨k1,k2,k3⟩:=hk
  dsimp only at k1 k2
  rw[Fu hlt,Jvd] at k3
  have hb:=J0t s k
  refine⟨by(dsimp only;omega),by(dsimp only;omega),(k+1,_),⟨rfl,rfl,rfl, ?_⟩,⟨by(first|omega|dsimp only;omega), ?_,k3⟩,by(first|omega|dsimp only;omega)⟩
  ·dsimp only;push_cast;rfl
  ·exact⟨Int.tmod_nonneg _ (by(first|omega|dsimp only;omega)),Int.tmod_lt_of_pos _ (by decide)⟩
 ·obtain⟨k,x⟩:=y
  have hlt:¬k<s.size:=by simpa using h
  obtain⟨k1,k2,k3⟩:=hk
  have e:k=s.size:=by omega
  rw[e,List.drop_eq_nil_of_le (by simp),Jvd] at k3
  have k3:x=Jh5 s:=k3
  have hl:=Jl0 s
  dsimp only
  rw[k3]
  have hz:(Yf (Jh5 s)).size=(Lib.itoa (Jh5 s)).length:=rfl
  rw[hz]
  have hr:J4q {data:={toList:=[48]}} (7-((Lib.itoa (Jh5 s)).length:Int))=bs (List.replicate (7-(Lib.itoa (Jh5 s)).length) 48):=by
   unfold J4q
   rw[show(7-((Lib.itoa (Jh5 s)).length:Int)).toNat=7-(Lib.itoa (Jh5 s)).length by omega]
   exact congrArg bs (Kvj _)
  have hb:=Jj8 s
  rw[hr,Up,List.length_replicate]
  exact⟨by omega,⟨by omega,by decide,by omega,by omega⟩,rfl⟩
abbrev Kuu:=Kuv.add Kwe
def Jo8 (e:Ev):List ByteArray:=Yf e.1::e.2.1::(e.2.2.1++e.2.2.2.1.map Yf)
def Ku (e:Ev):ByteArray:=Jkx (Jo8 e) ⟨⟨[32]⟩⟩
def J5t:Con:={args:=[.val false (.list 3 sI), .fn [I] tS],ress:=[(false, .list 9 .str)],owns:=[true],pre:=fun(l,(q,_),_)=>[l.length≤1000000,∀x∈l,K6 (q (x,()))],spec:=fun(l,(_,f),_)=>(l.map fun x=>f (x,()),())}
def J34 (a:Int×Unit→Bt) (b:Nat) (c:Li):=List.map (fun(x:Int)=>a (x,PUnit.unit)) (List.take b c)
theorem Kg1:Ok Tryz.prog 130 J5t:=okW Kuu Tryz.f130 (fun xx=>Ho (Jjm 3 9 sI xx.1 tS false xx.2.1.1 xx.2.1.2)) fun xx=>by
 obtain⟨(l:List Int),⟨(q:Int×Unit→List Prop),(f:Int×Unit→ByteArray)⟩,_⟩:=xx
 refine(by kernel_rfl:(Z55 l→Kd1 l q→∃(x:Nat),Si (Ln l) (0=Nc x∧Sf l ((fun(x:Int×PUnit)=>q x)=q∧(fun(x:Int×PUnit)=>f x)=f∧List.length (J34 f x l)=0))∧x≤List.length l∧∀(x:Nat),x≤List.length l→Br (decide (Nc x<Ln l)) (Z82 x l∧(K6 (q (Z21 l x,PUnit.unit))∧(List.length (J34 f x l)+1)*16≤140737488355328)∧Z25 x∧∃(y:Nat),Si (Ln l) (Z93 x y∧Sf l ((fun(x:Int×PUnit)=>q x)=q∧(fun(x:Int×PUnit)=>f x)=f∧J34 f x l++[f (Z21 l x,PUnit.unit)]=J34 f y l))∧y≤List.length l∧Jt9 l y x) (J34 f x l=List.map (fun(x:Int)=>f (x,PUnit.unit)) l))=_).mp ?_
 delta Z21 Z25 Z55 Z82 Z93 Jt9 J2d J34 Kd1 Br Iw Bd Tw Sf Si Ln Nc
 intro hb hq
 refine⟨(0:Nat),⟨rfl,rfl,rfl,rfl,rfl,by simp⟩,Nat.zero_le _,fun(k:Nat) hk=>⟨fun h=> ?_,fun h=> ?_⟩⟩
 ·have hlt:k<l.length:=by simpa using h
  refine⟨by omega,⟨hq (l.getD k 0) (Je hlt),by simp only[List.length_map,List.length_take];omega⟩,by omega,(k+1:Nat),⟨rfl,by simp,rfl,rfl,rfl, ?_⟩,by omega,by omega⟩
  rw[←K7 (d:=0) hlt,List.map_append];rfl
 ·have hlt:¬k<l.length:=by simpa using h
  rw[List.take_of_length_le (by omega)]
abbrev Kut:=Kuu.add Kg1
structure Du (e:Ev):Prop where
 num: -999999999≤e.1∧e.1≤999999999
 nn:e.2.2.1.length≤1000
 nv:e.2.2.2.1.length≤1000
 val:∀v∈e.2.2.2.1,-999999999≤v∧v≤999999999
 siz:((Jo8 e).map fun s=>s.size+1).sum≤1000000
theorem Jg0 {sep:List UInt8} (hs:sep.length=1):∀{l:List (List UInt8)},(Lib.join l sep).length≤(l.map fun x=>x.length+1).sum
 |[]=>by simp[Lib.join,List.intercalate]
 |[x]=>by simp[Lib.join,List.intercalate,List.intersperse]
 |x::y::r=>by
  have ih:=Jg0 hs (l:=y::r)
  have e:Lib.join (x::y::r) sep=x++sep++Lib.join (y::r) sep:=by simp[Lib.join,List.intercalate,List.intersperse]
  rw[e]
  simp only[List.length_append,List.map_cons,List.sum_cons] at ih⊢
  omega
theorem Jfw {e:Ev} (h:Du e):(Lib.join ((Jo8 e).map (·.data.toList)) [32]).length≤1000000:=by
 refine Nat.le_trans (Jg0 (sep:=[32]) rfl) (Nat.le_trans (Nat.le_of_eq ?_) h.siz)
 rw[List.map_map]
 congr 1
def Kir:Con:={args:=[aEv],ress:=[tS],owns:=[],pre:=fun(e,_)=>[Du e],spec:=fun(e,_)=>(Ku e,())}
def J9a:=ByteArray.mk (Array.mk [32])
def Ket (a:Ls) (b:Li):=[]++a++List.map (fun(x:Int)=>Yf x) b
theorem Kwf:Ok Tryz.prog 62 Kir:=okW Kut Tryz.f62 na fun xx=>by
 obtain⟨⟨(n:Int),(k:ByteArray),(ns:List ByteArray),(vs:List Int),(tx:ByteArray)⟩,_⟩:=xx
 refine(by kernel_rfl:(Du (n,k,ns,vs,tx)→(Iw n∧(2+List.length ns)*16≤140737488355328)∧(Z55 vs∧(∀(x:Int),J2d vs x→Iw x)∧(List.length (Yf n::k::([]++ns))+List.length (List.map (fun(x:Int)=>Yf x) vs))*16≤140737488355328∧List.length (Yf n::k::Ket ns vs)≤1000000∧List.length (Lib.join ((Yf n).data.1::k.data.1::List.map (fun(x:ByteArray)=>Z13 x) (Ket ns vs)) [32])≤140737488355328)∧Jkx (Yf n::k::Ket ns vs) J9a=Ku (n,k,ns,vs,tx))=_).mp ?_
 delta Z13 Z55 J9a J2d Ket Iw
 intro h
 have h1: -999999999≤n∧n≤999999999:=h.num
 have h2:ns.length≤1000:=h.nn
 have h3:vs.length≤1000:=h.nv
 have hs:=Jfw h
 simp only[List.nil_append,List.length_cons,List.length_append,List.length_map]
 exact⟨by omega,⟨by omega,fun x hx=>by have:=h.val x hx;omega,by omega,by omega,Nat.le_trans hs (by decide)⟩,rfl⟩
abbrev Kus:=Kut.add Kwf
theorem Fg (s:ByteArray):(Je6 s).size=7:=by
 have h:=Jl0 s
 unfold Je6 J9q
 rw[Up,List.length_append,List.length_replicate]
 omega
theorem Jnb {e:Ev} (h:Du e):(Ku e).size≤1000000:=Jfw h
def Jgk (e:Ev):ByteArray:=bs ((Ku e).data.toList++[35]++(Je6 (Ku e)).data.toList++[10])
def Kxt:Con:={args:=[aEv],ress:=[tS],owns:=[],pre:=fun(e,_)=>[Du e],spec:=fun(e,_)=>(Jgk e,())}
def Koq (a:Int) (b:Bt) (c:Ls) (d:Li) (e:Bt):=Array.mk ((Array.mk ((Ku (a,b,c,d,e)).data.toList++[35])).toList++(Je6 (Ku (a,b,c,d,e))).data.toList)
theorem Kw5:Ok Tryz.prog 29 Kxt:=okW Kus Tryz.f29 na fun xx=>by
 obtain⟨⟨(n:Int),(k:ByteArray),(ns:List ByteArray),(vs:List Int),(tx:ByteArray)⟩,_⟩:=xx
 refine(by kernel_rfl:(Du (n,k,ns,vs,tx)→Du (n,k,ns,vs,tx)∧(Nc (ByteArray.size (Ku (n,k,ns,vs,tx))+1)≤9223372036854775807∧ByteArray.size (Ku (n,k,ns,vs,tx))≤1000000∧Nc (ByteArray.size (ByteArray.mk (Array.mk ((Ku (n,k,ns,vs,tx)).data.toList++[35])))+ByteArray.size (Je6 (Ku (n,k,ns,vs,tx))))≤9223372036854775807∧Nc (ByteArray.size (ByteArray.mk (Koq n k ns vs tx))+1)≤9223372036854775807)∧ByteArray.mk (Array.mk ((Koq n k ns vs tx).toList++[10]))=Jgk (n,k,ns,vs,tx))=_).mp ?_
 delta Koq Nc
 intro h
 have h1:=Jnb h
 have h2:=Fg (Ku (n,k,ns,vs,tx))
 have h3:(bs ((Ku (n,k,ns,vs,tx)).data.toList++[35])).size=(Ku (n,k,ns,vs,tx)).size+1:=by rw[Up,List.length_append];simp
 have h4:(bs ((Ku (n,k,ns,vs,tx)).data.toList++[35]++(Je6 (Ku (n,k,ns,vs,tx))).data.toList)).size=(Ku (n,k,ns,vs,tx)).size+8:=by rw[Up,List.length_append,List.length_append];simp[h2]
 refine⟨h,⟨by omega,h1, ?_, ?_⟩,rfl⟩
 ·show((bs ((Ku (n,k,ns,vs,tx)).data.toList++[35])).size+(Je6 (Ku (n,k,ns,vs,tx))).size:Nat)≤(9223372036854775807:Int)
  omega
 ·show((bs ((Ku (n,k,ns,vs,tx)).data.toList++[35]++(Je6 (Ku (n,k,ns,vs,tx))).data.toList)).size+1:Nat)≤(9223372036854775807:Int)
  omega
abbrev Kyg:=Kus.add Kw5
abbrev Kur:=Kyg.add Kfw
abbrev Tk:=List ByteArray×Bool
def K8:Tk→ByteArray×Tk
 |([],_)=>(Jd,[],true)
 |(w::l,b)=>bif w.toList==Jd.toList then(Jd,[],true) else(w,l,b)
def Hs (t:Tk):Bool:=bif (t.1.length:Int)==0 then true else(t.1.getD 0 Jd).toList==Jd.toList
theorem Fe:∀(t:Tk),K8 t=bif Hs t then(Jd,[],true) else(t.1.getD 0 Jd,t.1.drop 1,t.2)
 |([],_)=>rfl
 | (w :: l, b) => by
  have e:Hs (w::l,b)=(w.toList==Jd.toList):=by
   unfold Hs
   rw[beq_eq_false_iff_ne.2 (show(((w::l,b):Tk).1.length:Int)≠0 by simp;omega)];rfl
  rw[e]
  show(bif w.toList==Jd.toList then(Jd,[],true) else(w,l,b))=_
  cases w.toList==Jd.toList<;>rfl
theorem Jb4 {t:Tk} (h:Hs t=false):0<t.1.length:=by
 unfold Hs at h
 by_cases q:t.1.length=0
 ·rw[q] at h;cases h
 ·omega
def Jqd (t:Tk):Int×Tk:=((Jy (K8 t).1).1,(K8 t).2.1,bif (K8 t).2.2 then true else !(Jy (K8 t).1).2)
def Yd:Nat→Tk→List ByteArray→List ByteArray×Tk
 |0,t,o=>(o,t)
 |n+1,t,o=>Yd n (K8 t).2 (o++[(K8 t).1])
def Xh:Nat→Tk→List Int→List Int×Tk
 |0,t,o=>(o,t)
 |n+1,t,o=>Xh n (Jqd t).2 (o++[(Jqd t).1])
def evz:Ev:=(0,Jd,[],[],Jd)
theorem Jae (k:ByteArray):(Jj k).1.length≤3∧0≤(Jj k).2.1∧(Jj k).2.1≤4:=by
 cases h:V4 k with
 | false =>
  have e:Jj k=([],0,none,none,none):=by
   unfold V4 at h
   unfold Jj
   cases hm:V2 .str k Di with
   |none=>rfl
   |some v=>rw[hm] at h;cases h
  rw[e];decide
 |true=>
  rcases U3 h with h|h|h|h|h|h|h|h|h|h|h<;>subst h
  all_goals first|(rw[Jr8];decide)|(rw[Us];decide)|(rw[Vx];decide)|(rw[Vy];decide)|(rw[Vz];decide)|(rw[Xe];decide)|(rw[Ut];decide)|(rw[K5];decide)|(rw[U1];decide)|(rw[U0];decide)|(rw[Va];decide)
def Y6 (ws:List ByteArray):List ByteArray×Tk:=Yd (Jj (K8 (ws,false)).1).1.length (K8 (ws,false)).2 []
def Fl (ws:List ByteArray):List Int×Tk:=Xh (Jj (K8 (ws,false)).1).2.1.toNat (Y6 ws).2 []
def Xn (ws:List ByteArray):Ev×Bool:=bif V4 (K8 (ws,false)).1 then((0,(K8 (ws,false)).1,(Y6 ws).1,(Fl ws).1,Jd),bif !(Fl ws).2.2 then((Fl ws).2.1.length:Int)==0 else false) else(evz,false)
def Kib:Con:={args:=[.val false (.list 9 .str)],ress:=[(true,sEv),Bo],owns:=[],pre:=fun(ws,_)=>[ws.length≤1000000,∀w∈ws,w.size≤1000000],spec:=fun(ws,_)=>((Xn ws).1,(Xn ws).2,())}
abbrev J04 (ws:List ByteArray):Nat→Option Ann:=fun id=>if id=0 then some {X:=Nat×Tk×List ByteArray,σ:=fun(i,(rem,b),o)=>⟨9,[(2, .one (.ptr 1 0)),(4, .one (.ptr 2 0)),(5, .one (.fv 3)),(6, .one (.fv 4)),(7, .one (.ptr 5 0)),(8, .one (.ptr 7 0)),(34, .one (.int .i64 (Jj (K8 (ws,false)).1).1.length)),(35, .one (.int .i64 i))],[(1, .box 37 [.int .i64 0, .str Jd, .val (.slice none 0 0), .val (.slice none 0 0), .str Jd]),(2, .box 228 [.sl 0, .bool b]),(3, .clo 166 [.one (.ptr 2 0)] []),(4, .clo 167 [.one (.ptr 2 0)] []),(5, .box 37 [.int .i64 0, .str (K8 (ws,false)).1, .sl 6, .val (.slice none 0 0), .str Jd]),(7, .box 142 [.sl 8, .int .i64 (Jj (K8 (ws,false)).1).2.1, .fno (Jj (K8 (ws,false)).1).2.2.1, .fno (Jj (K8 (ws,false)).1).2.2.2.1, .fno (Jj (K8 (ws,false)).1).2.2.2.2]),(6, .own 9 .str o),(8, .imm 151 Jvn (Jj (K8 (ws,false)).1).1),(0, .imm 9 .str rem)]⟩,inv:=fun(i,t,o)=>i≤(Jj (K8 (ws,false)).1).1.length∧t.1.length≤1000000∧(∀w∈t.1,w.size≤1000000)∧o.length=i∧Yd ((Jj (K8 (ws,false)).1).1.length-i) t o=Y6 ws,mu:=fun(i,_)=>(Jj (K8 (ws,false)).1).1.length-i}
 else if id=2 then some {X:=Nat×Tk×List Int,σ:=fun(i,(rem,b),o)=>⟨10,[(2, .one (.ptr 1 0)),(4, .one (.ptr 2 0)),(6, .one (.fv 4)),(7, .one (.ptr 5 0)),(47, .one (.int .i64 (Jj (K8 (ws,false)).1).2.1)),(48, .one (.int .i64 i))],[(1, .box 37 [.int .i64 0, .str Jd, .val (.slice none 0 0), .val (.slice none 0 0), .str Jd]),(2, .box 228 [.sl 0, .bool b]),(4, .clo 167 [.one (.ptr 2 0)] []),(5, .box 37 [.int .i64 0, .str (K8 (ws,false)).1, .sl 6, .sl 9, .str Jd]),(6, .own 9 .str (Y6 ws).1),(9, .own 3 sI o),(0, .imm 9 .str rem)]⟩,inv:=fun(i,t,o)=>i≤(Jj (K8 (ws,false)).1).2.1.toNat∧t.1.length≤1000000∧(∀w∈t.1,w.size≤1000000)∧o.length=i∧Xh ((Jj (K8 (ws,false)).1).2.1.toNat-i) t o=Fl ws,mu:=fun(i,_)=>(Jj (K8 (ws,false)).1).2.1.toNat-i}
 else none
def Z71 (a:Ls):=(Jj (K8 (a,false)).1).2
def Z73 (a:Ls):=(Jj (K8 (a,false)).1).1
def Z87 (a:Ls):=(Z71 a).1
def J9g (a:Ls):=(Z71 a).2.1
def J9f (a:Ls):=(Z71 a).2.2.1
def J9e (a:Ls):=(Z71 a).2.2.2
def J9c (a:Nat×Tk×Li):=List.getD a.2.1.1 0 B0
def J2h (a:Ls):=Int.toNat (Z87 a)
def J4b (a:Ls):=Ln (Z73 a)
def J19 (a:Ls):=List.length (Z73 a)
def Ksz (a:Nat×Tk×Ls):=(List.length a.2.2+1)*16≤140737488355328
def Ksy (a:Ls):=(Jj (K8 (a,false)).1).1=Z73 a
def Krk (a:Ls):=Sf true (H2=(Xn a).1∧false=(Xn a).2)
def Ko6 (a:Ls):=V2 Sch.str (Z99 a) Di
def Kat (a:Ls):=Option.getD (Ko6 a) J3r
def Kng (a:Nat×(Ls×Bool)×Li) (b:Ls):=a.1≤J2h b∧List.length a.2.1.1≤1000000∧(∀(w:ByteArray),w∈a.2.1.1→ByteArray.size w≤1000000)∧List.length a.2.2=a.1∧Xh (J2h b-a.1) a.2.1 a.2.2=Fl b
def Knf (a:Ls):=(Kat a).2
def Kne (a:Ls):=(Knf a).2
def Knd (a:Ls):=(Kne a).2
def Km5 (a:Nat×(Ls×Bool)×Ls) (b:Ls):=a.1≤J19 b∧List.length a.2.1.1≤1000000∧(∀(w:ByteArray),w∈a.2.1.1→ByteArray.size w≤1000000)∧List.length a.2.2=a.1∧Yd (J19 b-a.1) a.2.1 a.2.2=Y6 b
def Kmt (a:Nat×(Ls×Bool)×Li) (b:Ls) (c:Nat×Tk×Li):=Kng a b∧J2h b-a.1<J2h b-c.1
def Kmd (a:Nat×(Ls×Bool)×Ls) (b:Ls) (c:Nat×Tk×Ls):=Km5 a b∧J19 b-a.1<J19 b-c.1
def Kjb (a:Nat×(Ls×Bool)×Ls) (b:Ls):=Km5 a b∧∀(x:Nat×Tk×List ByteArray),x.1≤J19 b∧List.length x.2.1.1≤1000000∧(∀(w:ByteArray),w∈x.2.1.1→ByteArray.size w≤1000000)∧List.length x.2.2=x.1∧Yd (J19 b-x.1) x.2.1 x.2.2=Y6 b→Br (decide (Nc x.1<J4b b)) (Tw ((Ln x.2.1.1==0)=false→Bd 0 (Ln x.2.1.1))∧Br (bif Ln x.2.1.1==0 then true else Lb (List.getD x.2.1.1 0 B0) B0) (Ksz x∧Iw (Nc x.1+1)∧∃(y:Nat×(List ByteArray×Bool)×List ByteArray),Si (J4b b) (Nc x.1+1=Nc y.1∧Si 0 (Sf Jd (Sf Jr (Sf Jr (Sf Jd (true=y.2.1.2∧Si 0 (Sf (K8 (b,false)).1 (Sf Jr (Sf Jd (Si (Z87 b) (Sf (J9g b) (Sf (J9f b) (Sf (J9e b) (x.2.2++[B0]=y.2.2∧Ksy b∧List.length y.2.1.1=0))))))))))))))∧Kmd y b x) (Tw (Bd 0 (Ln x.2.1.1))∧((0:Int)≤1∧1≤Ln x.2.1.1∧Ln x.2.1.1≤Ln x.2.1.1)∧Ksz x∧Iw (Nc x.1+1)∧∃(y:Nat×(List ByteArray×Bool)×List ByteArray),Si (J4b b) (Nc x.1+1=Nc y.1∧Si 0 (Sf Jd (Sf Jr (Sf Jr (Sf Jd (x.2.1.2=y.2.1.2∧Si 0 (Sf (K8 (b,false)).1 (Sf Jr (Sf Jd (Si (Z87 b) (Sf (J9g b) (Sf (J9f b) (Sf (J9e b) (x.2.2++[List.getD x.2.1.1 0 B0]=y.2.2∧Ksy b∧List.drop 1 (List.take (List.length x.2.1.1) x.2.1.1)=y.2.1.1))))))))))))))∧Kmd y b x)) (∃(x_1:Nat×(List ByteArray×Bool)×List Int),Si (Z87 b) (0=Nc x_1.1∧Si 0 (Sf Jd (Sf Jr (Sf Jr (Sf Jd (x.2.1.2=x_1.2.1.2∧Si 0 (Sf (K8 (b,false)).1 (Sf Jd (x.2.2=(Y6 b).1∧List.length x_1.2.2=0∧x.2.1.1=x_1.2.1.1)))))))))∧Kng x_1 b∧∀(x:Nat×Tk×List Int),x.1≤J2h b∧List.length x.2.1.1≤1000000∧(∀(w:ByteArray),w∈x.2.1.1→ByteArray.size w≤1000000)∧List.length x.2.2=x.1∧Xh (J2h b-x.1) x.2.1 x.2.2=Fl b→Br (decide (Nc x.1<Z87 b)) (Tw ((Ln x.2.1.1==0)=false→Bd 0 (Ln x.2.1.1))∧Br (bif Ln x.2.1.1==0 then true else Lb (J9c x) B0) (0≤1000000∧(List.length x.2.2+1)*8≤140737488355328∧Iw (Nc x.1+1)∧∃(y:Nat×(List ByteArray×Bool)×List Int),Si (Z87 b) (Nc x.1+1=Nc y.1∧Si 0 (Sf Jd (Sf Jr (Sf Jr (Sf Jd (true=y.2.1.2∧Si 0 (Sf (K8 (b,false)).1 (Sf Jd ((Y6 b).1=(Y6 b).1∧x.2.2++[(Jy B0).1]=y.2.2∧List.length y.2.1.1=0)))))))))∧Kmt y b x) (Tw (Bd 0 (Ln x.2.1.1))∧((0:Int)≤1∧1≤Ln x.2.1.1∧Ln x.2.1.1≤Ln x.2.1.1)∧ByteArray.size (J9c x)≤1000000∧(List.length x.2.2+1)*8≤140737488355328∧Iw (Nc x.1+1)∧∃(y:Nat×(List ByteArray×Bool)×List Int),Si (Z87 b) (Nc x.1+1=Nc y.1∧Si 0 (Sf Jd (Sf Jr (Sf Jr (Sf Jd ((bif x.2.1.2 then true else !(Jy (J9c x)).2)=y.2.1.2∧Si 0 (Sf (K8 (b,false)).1 (Sf Jd ((Y6 b).1=(Y6 b).1∧x.2.2++[(Jy (J9c x)).1]=y.2.2∧List.drop 1 (List.take (List.length x.2.1.1) x.2.1.1)=y.2.1.1)))))))))∧Kmt y b x)) (Sf true ((0,(K8 (b,false)).1,(Y6 b).1,x.2.2,Jd)=(Xn b).1∧(bif !x.2.1.2 then Ln x.2.1.1==0 else false)=(Xn b).2)))
theorem Kg5:Ok Tryz.prog 126 Kib:=Jvw Kur Tryz.f126 (Uq (l:=([(166,Tryz.f166),(167,Tryz.f167)]:List (Nat×Func))) (List.forall_mem_cons.2 ⟨by kernel_rfl,List.forall_mem_cons.2 ⟨by kernel_rfl,by simp⟩⟩)) (fun xx=>J04 xx.1) (fun xx=>fun _=>na ()) fun xx=>by
 obtain⟨(ws:List ByteArray),_⟩:=xx
 refine(by kernel_rfl:(Hw ws→Jau ws→Tw ((Ln ws==0)=false→Vl ws)∧Br (bif Ln ws==0 then true else Lb (Z99 ws) B0) (Br true (Krk ws) (∃(x:Nat×(List ByteArray×Bool)×List ByteArray),(0=J4b ws∧0=Nc x.1∧Si 0 (B0=Jd∧Sf Jr (Sf Jr (B0=Jd∧true=x.2.1.2∧Si 0 (B0=(K8 (ws,false)).1∧Sf Jr (B0=Jd∧0=Z87 ws∧none=J9g ws∧none=J9f ws∧none=J9e ws∧List.length x.2.2=0∧[]=Z73 ws∧List.length x.2.1.1=0))))))∧Kjb x ws)) (Tw (Vl ws)∧((0:Int)≤1∧1≤Ln ws∧Ln ws≤Ln ws)∧Br (!Option.isSome (Ko6 ws)) (Krk ws) (∃(x:Nat×(List ByteArray×Bool)×List ByteArray),(Ln (Kat ws).1=J4b ws∧0=Nc x.1∧Si 0 (B0=Jd∧Sf Jr (Sf Jr (B0=Jd∧false=x.2.1.2∧Si 0 (Z99 ws=(K8 (ws,false)).1∧Sf Jr (B0=Jd∧(Knf ws).1=Z87 ws∧(Kne ws).1=J9g ws∧(Knd ws).1=J9f ws∧(Knd ws).2=J9e ws∧List.length x.2.2=0∧(Kat ws).1=Z73 ws∧List.drop 1 (List.take (List.length ws) ws)=x.2.1.1))))))∧Kjb x ws)))=_).mp ?_
 delta Z71 Z73 Z87 Z99 Vl Hw J9g J9f J9e J9c Jr J2h H2 J4b J19 Ksz Ksy Jcd J3r Krk Jau Ko6 Kat Kng Knf Kne Knd Km5 Kmt Kmd Kjb Br Iw Bd Tw Sf Si Ln Nc B0 Lb
 intro h1 h2
 have hk0:V4 Jd=false:=by kernel_rfl
 have hB:=Jae (ws.getD 0 Jd)
 have hsz:∀k,k<ws.length→(ws.getD k Jd).size≤1000000:=fun k hk=>h2 _ (Je hk)
 refine⟨⟨fun h=> ?_,fun h=> ?_⟩,fun hc=>⟨fun _=>⟨rfl, ?_⟩,fun h=>(by cases h)⟩,fun hc=> ?_⟩
 ·have:=beq_eq_false_iff_ne.1 h;omega
 ·have:=beq_eq_false_iff_ne.1 h;omega
 ·have e:K8 (ws,false)=(Jd,[],true):=by rw[Fe,show Hs (ws,false)=true from hc];rfl
  have e2:Xn ws=(evz,false):=by unfold Xn;rw[e,hk0];rfl
  rw[e2];exact⟨rfl,rfl⟩
 ·have hc':Hs (ws,false)=false:=hc
  have e:K8 (ws,false)=(ws.getD 0 Jd,ws.drop 1,false):=by rw[Fe,hc'];rfl
  have hl:0<ws.length:=Jb4 hc'
  have eD:(V2 Sch.str (ws.getD 0 ({data:={toList:=[]}}:ByteArray)) Di).getD ([],0,none,none,none)=Jj (ws.getD 0 Jd):=rfl
  have eK:(V2 Sch.str (ws.getD 0 ({data:={toList:=[]}}:ByteArray)) Di).isSome=V4 (ws.getD 0 Jd):=rfl
  simp only[e,eD,eK]
  refine⟨by omega,by omega,fun hk=>⟨trivial, ?_⟩,fun hk=>⟨((0:Nat),(ws.drop 1,false),[]), ?_,⟨Nat.zero_le _,by simp only[List.length_drop];omega,fun w hw=>h2 w (List.mem_of_mem_drop hw),rfl,by unfold Y6;rw[e];rfl⟩,fun(x:Nat×Tk×List ByteArray) hx=>⟨fun hlt=> ?_,fun hlt=> ?_⟩⟩⟩
  ·have hk:V4 (ws.getD 0 Jd)=false:=by simpa using hk
   have e2:Xn ws=(evz,false):=by unfold Xn;rw[e,hk];rfl
   rw[e2];exact⟨rfl,rfl⟩
  ·rw[List.take_length]
   repeat' first|exact rfl|exact⟨⟩|apply And.intro|omega|dsimp only;omega
  ·obtain⟨i,⟨rem,b⟩,o⟩:=x
   obtain⟨i1,i2,i3,i4,i5⟩:=hx
   have hlt:i<(Jj (ws.getD 0 Jd)).1.length:=by simpa using hlt
   dsimp only at i1 i2 i3 i4 i5
   have hn:(Jj (ws.getD 0 Jd)).1.length-i=((Jj (ws.getD 0 Jd)).1.length-(i+1))+1:=by omega
   rw[hn,Yd,Fe] at i5
   refine⟨⟨fun h=> ?_,fun h=> ?_⟩,fun h=> ?_,fun h=> ?_⟩
   ·have:=beq_eq_false_iff_ne.1 h;(first|omega|dsimp only;omega)
   ·have:=beq_eq_false_iff_ne.1 h;(first|omega|dsimp only;omega)
   ·have h:Hs (rem,b)=true:=h
    rw[h,cond_true] at i5
    refine⟨by(first|omega|dsimp only;omega),by(dsimp only;omega),(i+1,([],true),o++[Jd]), ?_,⟨by(first|omega|dsimp only;omega),by simp,fun w hw=>(by cases hw),by simp[i4],i5⟩,by(first|omega|dsimp only;omega)⟩
    repeat' first|exact rfl|exact⟨⟩|apply And.intro|omega|dsimp only;omega
   ·have h:Hs (rem,b)=false:=h
    have hr:0<rem.length:=Jb4 h
    rw[h,cond_false] at i5
    refine⟨by(dsimp only;omega),by(dsimp only;omega),by(first|omega|dsimp only;omega),by(dsimp only;omega),(i+1,(rem.drop 1,b),o++[rem.getD 0 Jd]), ?_,⟨by(first|omega|dsimp only;omega),by simp only[List.length_drop];omega,fun w hw=>i3 w (List.mem_of_mem_drop hw),by simp[i4],i5⟩,by(first|omega|dsimp only;omega)⟩
    dsimp only
    rw[List.take_length]
    repeat' first|exact rfl|exact⟨⟩|apply And.intro|omega|dsimp only;omega
  ·obtain⟨i,⟨rem,b⟩,o⟩:=x
   obtain⟨i1,i2,i3,i4,i5⟩:=hx
   have hlt:¬i<(Jj (ws.getD 0 Jd)).1.length:=by simpa using hlt
   dsimp only at i1 i2 i3 i4 i5
   have hn:(Jj (ws.getD 0 Jd)).1.length-i=0:=by omega
   rw[hn,Yd] at i5
   have eN:(Y6 ws).1=o:=by rw[←i5]
   have eT:(Y6 ws).2=(rem,b):=by rw[←i5]
   simp only[eN]
   refine⟨((0:Nat),(rem,b),[]), ?_,⟨Nat.zero_le _,i2,i3,rfl,by unfold Fl;rw[e,eT];rfl⟩,fun(x:Nat×Tk×List Int) hx=>⟨fun hlt=> ?_,fun hlt=> ?_⟩⟩
   ·repeat' first|exact rfl|exact⟨⟩|apply And.intro|omega|dsimp only;omega
   ·obtain⟨j,⟨rem,b⟩,o2⟩:=x
    obtain⟨j1,j2,j3,j4,j5⟩:=hx
    have hlt:(j:Int)<(Jj (ws.getD 0 Jd)).2.1:=of_decide_eq_true hlt
    dsimp only at j1 j2 j3 j4 j5
    have hn:(Jj (ws.getD 0 Jd)).2.1.toNat-j=((Jj (ws.getD 0 Jd)).2.1.toNat-(j+1))+1:=by omega
    rw[hn,Xh,Jqd,Fe] at j5
    refine⟨⟨fun h=> ?_,fun h=> ?_⟩,fun h=> ?_,fun h=> ?_⟩
    ·have:=beq_eq_false_iff_ne.1 h;(first|omega|dsimp only;omega)
    ·have:=beq_eq_false_iff_ne.1 h;(first|omega|dsimp only;omega)
    ·have h:Hs (rem,b)=true:=h
     rw[h,cond_true] at j5
     refine⟨by decide,by(first|omega|dsimp only;omega),by(dsimp only;omega),(j+1,([],true),o2++[(Jy Jd).1]), ?_,⟨by(first|omega|dsimp only;omega),by simp,fun w hw=>(by cases hw),by simp[j4],j5⟩,by(first|omega|dsimp only;omega)⟩
     repeat' first|exact rfl|exact⟨⟩|apply And.intro|omega|dsimp only;omega
    ·have h:Hs (rem,b)=false:=h
     have hr:0<rem.length:=Jb4 h
     rw[h,cond_false] at j5
     refine⟨by(dsimp only;omega),by(dsimp only;omega),j3 _ (Je hr),by(first|omega|dsimp only;omega),by(dsimp only;omega),(j+1,(rem.drop 1,bif b then true else !(Jy (rem.getD 0 Jd)).2),o2++[(Jy (rem.getD 0 Jd)).1]), ?_,⟨by(first|omega|dsimp only;omega),by simp only[List.length_drop];omega,fun w hw=>j3 w (List.mem_of_mem_drop hw),by simp[j4],j5⟩,by(first|omega|dsimp only;omega)⟩
     dsimp only
     rw[List.take_length]
     repeat' first|exact rfl|exact⟨⟩|apply And.intro|omega|dsimp only;omega
   ·obtain⟨j,⟨rem2,b2⟩,o2⟩:=x
    obtain⟨j1,j2,j3,j4,j5⟩:=hx
    have hlt:¬(j:Int)<(Jj (ws.getD 0 Jd)).2.1:=of_decide_eq_false hlt
    dsimp only at j1 j2 j3 j4 j5
    have hn:(Jj (ws.getD 0 Jd)).2.1.toNat-j=0:=by omega
    rw[hn,Xh] at j5
    have hk:V4 (ws.getD 0 Jd)=true:=by simpa using hk
    have e2:Xn ws=((0,ws.getD 0 Jd,o,o2,Jd),bif !b2 then((rem2.length:Int)==0) else false):=by
     unfold Xn
     rw[e,hk,cond_true,eN,←j5]
    rw[e2];exact⟨trivial,rfl,rfl⟩
abbrev Kuq:=Kur.add Kg5
def H1 (c:UInt8):List UInt8→List UInt8
 |[]=>[]
 |b::r=>if b=c then[] else b::H1 c r
def F3 (c:UInt8):List UInt8→List UInt8
 |[]=>[]
 |b::r=>if b=c then r else F3 c r
def Jew (c:UInt8):List UInt8→Bool
 |[]=>false
 |b::r=>if b=c then true else Jew c r
theorem Jry (c:UInt8):∀l:List UInt8,Lib.cut l [c]=(H1 c l,F3 c l,Jew c l)
 |[]=>rfl
 | b :: r => by
  have ih:=Jry c r
  have hg:=Lib.index_ge r [c]
  by_cases h:b=c
  ·subst h
   have e:Lib.index (b::r) [b]=0:=by simp[Lib.index,List.isPrefixOf]
   unfold Lib.cut H1 F3 Jew
   rw[e,if_pos rfl,if_pos rfl,if_pos rfl]
   rfl
  ·have hp:[c].isPrefixOf (b::r)=false:=by
    have:¬c=b:=fun e=>h e.symm
    simp[List.isPrefixOf,this]
   have hi:Lib.index (b::r) [c]=if Lib.index r [c]== -1 then -1 else Lib.index r [c]+1:=by rw[Lib.index,hp];rfl
   unfold H1 F3 Jew
   rw[if_neg h,if_neg h,if_neg h]
   unfold Lib.cut at ih⊢
   by_cases h1:Lib.index r [c]= -1
   ·have e2:Lib.index (b::r) [c]= -1:=by rw[hi,h1];rfl
    rw[h1,if_neg (by decide)] at ih
    rw[e2,if_neg (by decide)]
    simp only[Prod.mk.injEq] at ih⊢
    exact⟨by rw[←ih.1],ih.2⟩
   ·obtain⟨i,hj⟩:=Int.eq_ofNat_of_zero_le (by omega:0≤Lib.index r [c])
    have e2:Lib.index (b::r) [c]=((i+1:Nat):Int):=by rw[hi,if_neg (by simpa using h1),hj];rfl
    rw[hj,if_pos (by omega)] at ih
    rw[e2,if_pos (by omega)]
    simp only[Prod.mk.injEq,Int.toNat_natCast,List.length_singleton] at ih⊢
    exact⟨by rw[List.take_succ_cons,ih.1],by rw[←ih.2.1];rfl,ih.2.2⟩
theorem Jhg (c:UInt8):∀l:List UInt8,(H1 c l).length≤l.length
 |[]=>Nat.le_refl _
 |b::r=>by
  have:=Jhg c r
  unfold H1
  split<;>simp only[List.length_cons,List.length_nil]<;>omega
theorem Jb7 (c:UInt8):∀l:List UInt8,(F3 c l).length≤l.length
 |[]=>Nat.le_refl _
 |b::r=>by
  have:=Jb7 c r
  unfold F3
  split<;>simp only[List.length_cons]<;>omega
theorem Jsv (s:ByteArray) (c:UInt8):Juj s ⟨⟨[c]⟩⟩=(bs (H1 c s.data.toList),bs (F3 c s.data.toList),Jew c s.data.toList):=by
 unfold Juj
 rw[show((⟨⟨[c]⟩⟩:ByteArray).data.toList)=[c] from rfl,Jry]
 rfl
theorem Jh6 (s:ByteArray):Zr s ⟨⟨[32]⟩⟩=Ja2 s 32:=Jj6 s 32
def Vu (s:ByteArray):ByteArray:=bs (s.data.toList.take (s.size-8))
def Jgb (s:ByteArray):ByteArray:=bs (s.data.toList.drop (s.size-7))
def Jsh (b:ByteArray):ByteArray:=bs (H1 32 b.data.toList)
def Jq6 (b:ByteArray):ByteArray:=bs (F3 32 b.data.toList)
def evX (b:ByteArray):Ev:=((Jy (Jsh b)).1,(Xn (Ja2 (Jq6 b) 32)).1.2)
def okX (b:ByteArray):Bool:=bif bif !(Jy (Jsh b)).2 then true else !(Xn (Ja2 (Jq6 b) 32)).2 then true else Ja (evX b) !=0
def Je8 (s:ByteArray):Bool:=bif bif decide ((s.size:Int)-7-1<0) then true else((s.data.toList.getD (s.size-8) 0).toNat:Int) !=35 then true else !Jm3 (Jgb s)
def U6 (s:ByteArray):Ev×Int:=bif Je8 s then(evz,25) else bif !((Je6 (Vu s)).toList==(Jgb s).toList) then(evz,27) else bif okX (Vu s) then(evz,25) else(evX (Vu s),0)
def Ky (s:ByteArray) (k:Int):Ev×Int:=if(U6 s).2=0 then((U6 s).1,bif (U6 s).1.1 !=k then 11 else 0) else U6 s
def J52:Con:={args:=[aS,aI],ress:=[(true,sEv),I],owns:=[],pre:=fun(s,_)=>[s.size≤1000000],spec:=fun(s,k,_)=>((Ky s k).1,(Ky s k).2,())}
theorem Jh3 (t:Tk):((K8 t).1=Jd∨(K8 t).1∈t.1)∧∀w∈(K8 t).2.1,w∈t.1:=by
 rw[Fe]
 cases h:Hs t with
 |true=>exact⟨.inl rfl,fun w hw=>by cases hw⟩
 |false=>exact⟨.inr (Je (Jb4 h)),fun w hw=>List.mem_of_mem_drop hw⟩
theorem Je5:∀(n:Nat) (t:Tk) (o:List ByteArray),(Yd n t o).1.length=o.length+n
 |0,_,_=>rfl
 |n+1,t,o=>by
  rw[Yd,Je5 n]
  simp only[List.length_append,List.length_singleton]
  omega
theorem Je4:∀(n:Nat) (t:Tk) (o:List ByteArray),∀s∈(Yd n t o).1,s∈o∨s=Jd∨s∈t.1
 |0,_,_,s,h=> .inl h
 | n + 1, t, o, s, h => by
  have hs:=Jh3 t
  rw[Yd] at h
  rcases Je4 n _ _ s h with h|h|h
  ·rcases List.mem_append.1 h with h|h
   ·exact .inl h
   ·rw[List.mem_singleton.1 h]
    exact .inr hs.1
  ·exact .inr (.inl h)
  ·exact .inr (.inr (hs.2 _ h))
theorem Je3:∀(n:Nat) (t:Tk) (o:List Int),(Xh n t o).1.length=o.length+n
 |0,_,_=>rfl
 |n+1,t,o=>by
  rw[Xh,Je3 n]
  simp only[List.length_append,List.length_singleton]
  omega
theorem Jvq {ws:List ByteArray} (hw:∀w∈ws,w.size≤1000000):(Xn ws).1.2.2.1.length≤3∧(Xn ws).1.2.2.2.1.length≤4∧∀s∈(Xn ws).1.2.2.1,s.size≤1000000:=by
 have hB:=Jae (K8 (ws,false)).1
 have hs:=Jh3 (ws,false)
 unfold Xn
 cases V4 (K8 (ws,false)).1 with
 |false=>exact⟨Nat.zero_le _,Nat.zero_le _,fun s h=>by cases h⟩
 | true =>
  simp only[cond_true]
  refine⟨?_, ?_,fun s h=> ?_⟩
  ·unfold Y6;rw[Je5];simp;omega
  ·unfold Fl;rw[Je3];simp;omega
  ·rcases Je4 _ _ _ s h with h|h|h
   ·cases h
   ·rw[h];decide
   ·exact hw _ (hs.2 _ h)
theorem Lu {s:ByteArray} {k:Int} {x:Ev×Int} (h:U6 s=x) (hx:x.2≠0):Ky s k=x:=by
 unfold Ky;rw[h,if_neg hx]
def Jxg (a:Bt):=Nc (ByteArray.size a)-(7:Int)-1
def J4a (a:Bt):=Jxg a+1
def Ks0 (a:Bt):=decide (Jxg a<0)
def Kep (a:Bt):=ByteArray.extract a 0 (Int.toNat (Jxg a))
def Kd7 (a:Bt):=ByteArray.extract a (Int.toNat (J4a a)) (ByteArray.size a)
def Kr9 (a:Bt):=ByteArray.size (Kep a)≤1000000
def Kro (a:Bt) (b:Int):=H2=(Ky a b).1∧25=(Ky a b).2
def Kqy (a:Bt):=Juj (Kep a) J9a
def Kqu (a:Bt):=(Kqy a).1
def Kqe (a:Bt):=(Kqy a).2.1
def Kpj (a:Bt):=Jy (Kqu a)
def Kpg (a:Bt):=(Kpj a).1
def Ko8 (a:Bt):=(0:Int)≤0∧0≤Jxg a∧Jxg a≤Nc (ByteArray.size a)
def Kbf (a:Bt):=Zr (Kqe a) J9a
def Kos (a:Bt):=Xn (Kbf a)
def Kop (a:Bt):=0≤J4a a∧J4a a≤Nc (ByteArray.size a)∧Nc (ByteArray.size a)≤Nc (ByteArray.size a)
def Kon (a:Bt):=(Kos a).1.2
def J7g (a:Bt):=(Kon a).2
def Kom (a:Bt):=(J7g a).2
def Knt (a:Bt):=bif Ks0 a then true else Nc (UInt8.toNat (Gt (Z13 a) (Jxg a) 0)) !=35
def Kax (a:Bt):=Knt a=false
def Knc (a:Bt):=bif !(Kpj a).2 then true else !(Kos a).2
def Kaq (a:Bt):=Knc a=false
def Klr (a:Bt):=(Kpg a,(Kon a).1,(J7g a).1,E2 (Kom a))
theorem Kwg:Ok Tryz.prog 61 J52:=okW Kuq Tryz.f61 na fun xx=>by
 obtain⟨(s:ByteArray),(k:Int),_⟩:=xx
 refine(by kernel_rfl:(ByteArray.size s≤1000000→(Iw (Nc (ByteArray.size s)-7)∧Iw (Jxg s))∧((Ks0 s=false→Bd (Jxg s) (Nc (ByteArray.size s)))∧(Kax s→Iw (J4a s))∧(Kax s→Kop s)∧(Kax s→ByteArray.size (Kd7 s)≤1000000))∧Br (bif Knt s then true else !Jm3 (Kd7 s)) (Kro s k) ((Ko8 s∧Kr9 s∧Iw (J4a s)∧Kop s)∧Br (!Lb (Je6 (Kep s)) (Kd7 s)) (H2=(Ky s k).1∧27=(Ky s k).2) ((Ko8 s∧Kr9 s)∧ByteArray.size (Kqu s)≤1000000∧(ByteArray.size (Kqe s)≤1000000∧1≤1∧List.length (Kbf s)≤1000000∧∀(w:ByteArray),w∈Kbf s→ByteArray.size w≤1000000)∧((Kaq s→List.length (J7g s).1≤1000000)∧(Kaq s→List.length (Kom s).1≤1000000)∧(Kaq s→∀(s_1:ByteArray),s_1∈(J7g s).1→ByteArray.size s_1≤1000000))∧Br (bif Knc s then true else Ja (Klr s) !=0) (Kro s k) (Klr s=(Ky s k).1∧(bif Kpg s !=k then 11 else 0)=(Ky s k).2))))=_).mp ?_
 delta Z13 J9a Jxg H2 J4a Ks0 Kep Kd7 Kr9 Kro Kqy Kqu Kqe Kpj Kpg Ko8 Kbf Kos Kop Kon J7g Kom Knt Kax Knc Kaq Klr Br Iw Bd Nc Gt B0 Lb E2
 intro hs
 have hl:s.data.toList.length=s.size:=by simp
 by_cases hq:s.size<8
 ·have hd:decide ((s.size:Int)-7-1<0)=true:=decide_eq_true (by omega)
  have h0:U6 s=(evz,25):=by unfold U6 Je8;rw[hd];rfl
  rw[Lu h0 (by decide)]
  simp only[hd,cond_true]
  exact⟨by omega,⟨⟨fun h=>(by cases h),fun h=>(by cases h),fun h=>(by cases h),fun h=>(by cases h)⟩,fun _=>by(repeat' first|exact rfl|exact⟨⟩|apply And.intro|omega|dsimp only;omega),fun h=>(by cases h)⟩⟩
 ·have e1:((s.size:Int)-7-1).toNat=s.size-8:=by omega
  have e2:((s.size:Int)-7-1+1).toNat=s.size-7:=by omega
  have e3:s.extract 0 (s.size-8)=Vu s:=Jm0 s _
  have e4:s.extract (s.size-7) s.size=Jgb s:=Jm1 s _
  have hbl:(Vu s).data.toList.length=s.size-8:=by unfold Vu;simp[bs]
  have hbs:(Vu s).size=s.size-8:=by unfold Vu;rw[Up];simp
  have hts:(Jgb s).size≤1000000:=by unfold Jgb;rw[Up];simp;omega
  have hd:decide ((s.size:Int)-7-1<0)=false:=decide_eq_false (by omega)
  simp only[e1,e2,e3,e4,Jsv,Jh6]
  have hsh:Je8 s=bif bif decide ((s.size:Int)-7-1<0) then true else((s.data.toList.getD (s.size-8) 0).toNat:Int) !=35 then true else !Jm3 (Jgb s):=rfl
  rw[←hsh]
  have hA:(bs (H1 32 (Vu s).data.toList)).size≤1000000:=by rw[Up];have:=Jhg 32 (Vu s).data.toList;omega
  have hZ:(bs (F3 32 (Vu s).data.toList)).size≤1000000:=by rw[Up];have:=Jb7 32 (Vu s).data.toList;omega
  have hW:∀w∈Ja2 (bs (F3 32 (Vu s).data.toList)) 32,w.size≤1000000:=by
   intro w hw
   obtain⟨v,hv,rfl⟩:=List.mem_map.1 hw
   have:=Jby _ _ _ hv
   have h3:=Jb7 32 (Vu s).data.toList
   have h4:(bs (F3 32 (Vu s).data.toList)).data.toList.length=(F3 32 (Vu s).data.toList).length:=rfl
   rw[Up]
   omega
  refine⟨by omega,⟨fun _=>by omega,fun _=>by omega,fun _=>by omega,fun _=>hts⟩,fun h=> ?_,fun h=>⟨⟨by omega,by omega,by omega,by omega⟩,fun h2=> ?_,fun h2=>⟨⟨by omega,by omega⟩,hA,⟨hZ,by decide, ?_, ?_⟩, ?_⟩⟩⟩
  ·have h0:U6 s=(evz,25):=by unfold U6;rw[h];rfl
   rw[Lu h0 (by decide)];exact⟨rfl,rfl⟩
  ·have h0:U6 s=(evz,27):=by unfold U6;rw[h,h2];rfl
   rw[Lu h0 (by decide)];exact⟨rfl,rfl⟩
  ·unfold Ja2
   rw[List.length_map]
   have:=Jl2 (UInt8.ofNat (32:Int).toNat) (bs (F3 32 (Vu s).data.toList)).data.toList
   have h3:=Jb7 32 (Vu s).data.toList
   have h4:(bs (F3 32 (Vu s).data.toList)).data.toList.length=(F3 32 (Vu s).data.toList).length:=rfl
   omega
  ·exact hW
  ·have hr:=Jvq (ws:=Ja2 (bs (F3 32 (Vu s).data.toList)) 32) hW
   refine⟨⟨fun _=>Nat.le_trans hr.1 (by decide),fun _=>Nat.le_trans hr.2.1 (by decide),fun _=>hr.2.2⟩,fun h3=> ?_,fun h3=> ?_⟩
   ·have h3:okX (Vu s)=true:=h3
    have h0:U6 s=(evz,25):=by unfold U6;rw[h,h2,h3];rfl
    rw[Lu h0 (by decide)];exact⟨rfl,rfl⟩
   ·have h3:okX (Vu s)=false:=h3
    have h0:U6 s=(evX (Vu s),0):=by unfold U6;rw[h,h2,h3];rfl
    have h4:Ky s k=(evX (Vu s),bif (evX (Vu s)).1 !=k then 11 else 0):=by unfold Ky;rw[h0];rfl
    rw[h4]
    exact⟨rfl,rfl⟩
abbrev Kup:=Kuq.add Kwg
def Jcw:Nat→List UInt8→Int→List Ev→List Ev×Int×Int
 |0,_,at_,o=>(o,at_,0)
 |f+1,l,at_,o=>
  if l=[] then(o,at_,0) else
  if Jew 10 l=false then(o,at_,28) else
  if(Ky (bs (H1 10 l)) (o.length+1)).2≠0 then(o,at_,(Ky (bs (H1 10 l)) (o.length+1)).2) else
  Jcw f (F3 10 l) (at_+((H1 10 l).length+1)) (o++[(Ky (bs (H1 10 l)) (o.length+1)).1])
def Jc (s:ByteArray):List Ev×Int×Int:=if 1000000<s.size then([],0,26) else Jcw s.size s.data.toList 0 []
def Jwp:Con:={args:=[aS],ress:=[(false, .list 37 sEv),I,I],owns:=[],pre:=fun _=>[],spec:=fun(s,_)=>((Jc s).1,(Jc s).2.1,(Jc s).2.2,())}
abbrev J6k (s:ByteArray):Ann:={X:=Nat×List Ev,σ:=fun(k,o)=>⟨1,[(0, .one (.str s)),(5, .one (.sl 0)),(6, .one (.int .i64 k))],[(0, .own 37 sEv o)]⟩,inv:=fun(k,o)=>k≤s.size∧s.size≤1000000∧o.length≤1000∧∃f,s.size-k≤f∧Jcw f (s.data.toList.drop k) k o=Jc s,mu:=fun(k,_)=>s.size-k}
theorem Jsx (c:UInt8):∀{l:List UInt8},Jew c l=true→l=H1 c l++c::F3 c l
 |[],h=>by cases h
 | b :: r, h => by
  unfold Jew at h
  unfold H1 F3
  by_cases q:b=c
  ·rw[if_pos q,if_pos q,q];rfl
  ·rw[if_neg q] at h
   rw[if_neg q,if_neg q,List.cons_append,←Jsx c h]
theorem Jdr {s:ByteArray} {k:Int} (h:(Ky s k).2=0):Ja (Ky s k).1=0∧(Ky s k).1.1=k:=by
 have h0:(U6 s).2=0:=by
  unfold Ky at h
  by_cases q:(U6 s).2=0
  ·exact q
  ·rw[if_neg q] at h;exact h
 have e:Ky s k=((U6 s).1,bif (U6 s).1.1 !=k then 11 else 0):=by unfold Ky;rw[if_pos h0]
 rw[e] at h⊢
 refine⟨?_, ?_⟩
 ·unfold U6 at h0⊢
  cases h1:Je8 s with
  |true=>rw[h1] at h0;cases h0
  | false =>
   rw[h1,cond_false] at h0
   rw[cond_false]
   cases h2: !((Je6 (Vu s)).toList==(Jgb s).toList) with
   |true=>rw[h2] at h0;cases h0
   | false =>
    rw[h2,cond_false] at h0
    rw[cond_false]
    cases h3:okX (Vu s) with
    |true=>rw[h3] at h0;cases h0
    | false =>
     rw[cond_false]
     unfold okX at h3
     cases h4:(bif !(Jy (Jsh (Vu s))).2 then true else !(Xn (Ja2 (Jq6 (Vu s)) 32)).2) with
     |true=>rw[h4] at h3;cases h3
     |false=>
      rw[h4,cond_false] at h3
      exact bne_eq_false_iff_eq.1 h3
 ·have h:(bif (U6 s).1.1 !=k then(11:Int) else 0)=0:=h
  cases h5:((U6 s).1.1 !=k) with
  |true=>rw[h5] at h;cases h
  |false=>exact bne_eq_false_iff_eq.1 h5
def Kem (a:Bt) (b:Nat×List Ev):=Juj (ByteArray.extract a b.1 (ByteArray.size a)) (ByteArray.mk (Array.mk [10]))
def Ksh (a:Bt) (b:Nat×List Ev):=ByteArray.size (Kem a b).1
def Krq (a:Bt) (b:Nat×List Ev):=Nc (Ksh a b)+1
def Krh (a:Bt) (b:Nat×List Ev):=Ky (Kem a b).1 (Ln b.2+1)
def Kra (a:Bt) (b:Nat×List Ev):=(Krh a b).2
def Kq8 (a:Bt) (b:Nat×List Ev):=(Krh a b).1
def Kq4 (a:Bt) (b:Nat×List Ev):=(Kq8 a b).2
def Kq2 (a:Nat×List Ev) (b:Bt):=Nc a.1+Krq b a
def Kq0 (a:Bt) (b:Nat×List Ev):=(Kq4 a b).2
def Ka5 (a:Nat×List Ev) (b:Bt):=a.1≤ByteArray.size b∧ByteArray.size b≤1000000∧List.length a.2≤1000∧∃(f:Nat),ByteArray.size b-a.1≤f∧Jcw f (List.drop a.1 (Z13 b)) (Nc a.1) a.2=Jc b
theorem Kw6:Ok Tryz.prog 28 Jwp:=okW Kup Tryz.f28 (fun xx=>Ho (J6k xx.1)) fun xx=>by
 obtain⟨(s:ByteArray),_⟩:=xx
 refine(by kernel_rfl:(Br (decide (1000000<Nc (ByteArray.size s))) ([]=(Jc s).1∧0=(Jc s).2.1∧26=(Jc s).2.2) (∃(x:Nat×List Ev),Sf s (0=Nc x.1∧List.length x.2=0)∧Ka5 x s∧∀(x:Nat×List Ev),Ka5 x s→Br (decide (Nc x.1<Nc (ByteArray.size s))) (((0≤Nc x.1∧Nc x.1≤Nc (ByteArray.size s)∧Nc (ByteArray.size s)≤Nc (ByteArray.size s))∧ByteArray.size (ByteArray.extract s x.1 (ByteArray.size s))≤1000000)∧Br (!(Kem s x).2.2) (x.2=(Jc s).1∧Nc x.1=(Jc s).2.1∧28=(Jc s).2.2) ((Iw (Ln x.2+1)∧Ksh s x≤1000000)∧Br (Kra s x !=0) (x.2=(Jc s).1∧Nc x.1=(Jc s).2.1∧Kra s x=(Jc s).2.2) ((List.length x.2+1)*88≤140737488355328∧(Iw (Krq s x)∧Iw (Kq2 x s))∧∃(y:Nat×List Ev),Sf s (Kq2 x s=Nc y.1∧x.2++[((Kq8 s x).1,(Kq4 s x).1,(Kq0 s x).1,E2 (Kq0 s x).2)]=y.2)∧Ka5 y s∧ByteArray.size s-y.1<ByteArray.size s-x.1))) (x.2=(Jc s).1∧Nc x.1=(Jc s).2.1∧0=(Jc s).2.2)))=_).mp ?_
 delta Z13 Kem Ksh Krq Krh Kra Kq8 Kq4 Kq2 Kq0 Ka5 Br Iw Sf Ln Nc E2
 refine⟨fun h=> ?_,fun h=> ?_⟩
 ·have h:1000000<s.size:=by have:=of_decide_eq_true h;omega
  unfold Jc;rw[if_pos h];exact⟨rfl,rfl,rfl⟩
 have hs:¬1000000<s.size:=by have:=of_decide_eq_false h;omega
 have hl:s.data.toList.length=s.size:=by simp
 refine⟨((0:Nat),[]),by simp,⟨Nat.zero_le _,by(first|omega|dsimp only;omega),Nat.zero_le _,⟨s.size,by omega,by unfold Jc;rw[if_neg hs];rfl⟩⟩,fun(x:Nat×List Ev) hx=>⟨fun hlt=> ?_,fun hlt=> ?_⟩⟩
 ·obtain⟨k,o⟩:=x
  obtain⟨k1,k2,k3,f,kf,k4⟩:=hx
  have hlt:k<s.size:=by simpa using hlt
  dsimp only at k1 k3
  dsimp only at kf
  have hf:f=(f-1)+1:=by omega
  have hne:s.data.toList.drop k≠[]:=by
   intro h
   have:=congrArg List.length h
   rw[List.length_drop,hl] at this
   simp at this;omega
  rw[hf,Jcw,if_neg hne] at k4
  have e0:s.extract k s.size=bs (s.data.toList.drop k):=Jm1 s k
  have e1:((k:Int)).toNat=k:=Int.toNat_natCast k
  simp only[e1,e0,Jsv]
  have k4:(if Jew 10 (s.data.toList.drop k)=false then(o,(k:Int),(28:Int)) else if(Ky (bs (H1 10 (s.data.toList.drop k))) (o.length+1)).2≠0 then(o,(k:Int),(Ky (bs (H1 10 (s.data.toList.drop k))) (o.length+1)).2) else Jcw (f-1) (F3 10 (s.data.toList.drop k)) (k+((H1 10 (s.data.toList.drop k)).length+1)) (o++[(Ky (bs (H1 10 (s.data.toList.drop k))) (o.length+1)).1]))=Jc s:=k4
  have hA:=Jhg 10 (s.data.toList.drop k)
  rw[List.length_drop,hl] at hA
  have hbd:∀l,(bs l).data.toList=l:=fun l=>rfl
  simp only[hbd,Up,List.length_drop,hl]
  refine⟨by omega,fun h=> ?_,fun h=>⟨⟨by omega,by omega⟩,fun h2=> ?_,fun h2=> ?_⟩⟩
  ·have h:Jew 10 (s.data.toList.drop k)=false:=by simpa using h
   rw[if_pos h] at k4
   rw[←k4];exact⟨rfl,rfl,rfl⟩
  ·have h:Jew 10 (s.data.toList.drop k)=true:=by simpa using h
   have h2:(Ky (bs (H1 10 (s.data.toList.drop k))) (o.length+1)).2≠0:=bne_iff_ne.1 h2
   rw[if_neg (by rw[h];decide),if_pos h2] at k4
   rw[←k4];exact⟨rfl,rfl,rfl⟩
  ·have h:Jew 10 (s.data.toList.drop k)=true:=by simpa using h
   have h2:(Ky (bs (H1 10 (s.data.toList.drop k))) (o.length+1)).2=0:=bne_eq_false_iff_eq.1 h2
   rw[if_neg (by rw[h];decide),if_neg (by rw[h2];simp)] at k4
   have hc:=Jsx 10 h
   have hlc:=congrArg List.length hc
   rw[List.length_drop,hl,List.length_append,List.length_cons] at hlc
   have hd:s.data.toList.drop (k+((H1 10 (s.data.toList.drop k)).length+1))=F3 10 (s.data.toList.drop k):=by
    rw[←List.drop_drop]
    have:=congrArg (List.drop ((H1 10 (s.data.toList.drop k)).length+1)) hc
    rw[this,show(H1 10 (s.data.toList.drop k)).length+1=(H1 10 (s.data.toList.drop k)).length+1 from rfl]
    simp[List.drop_append]
   have hn:=(Jdr h2)
   have hnum:=Ko.1 (show Jp (Ky (bs (H1 10 (s.data.toList.drop k))) (o.length+1)).1.1 1 1000=0 by
    have:=(J2 hn.1).num
    exact Ko.2 this)
   rw[hn.2] at hnum
   refine⟨by omega,by omega,(k+((H1 10 (s.data.toList.drop k)).length+1),o++[(Ky (bs (H1 10 (s.data.toList.drop k))) (o.length+1)).1]),by simp,⟨by(first|omega|dsimp only;omega),k2,by simp only[List.length_append,List.length_singleton];omega,f-1,by(first|omega|dsimp only;omega), ?_⟩,by(first|omega|dsimp only;omega)⟩
   dsimp only
   rw[hd]
   exact k4
 ·obtain⟨k,o⟩:=x
  obtain⟨k1,k2,k3,f,kf,k4⟩:=hx
  have hlt:¬k<s.size:=by simpa using hlt
  dsimp only at k1 k3
  have e:s.data.toList.drop k=[]:=List.drop_eq_nil_of_le (by omega)
  have k4:Jcw f (s.data.toList.drop k) k o=Jc s:=k4
  rw[e] at k4
  have k5:(o,(k:Int),(0:Int))=Jc s:=by
   rw[←k4]
   cases f<;>rfl
  rw[←k5]
  exact⟨rfl,rfl,rfl⟩
abbrev Kuo:=Kup.add Kw6
theorem Jb1 (n:Int) (h0: -9223372036854775808≤n) (h1:n≤9223372036854775807):(Yf n).size≤40:=by
 have:=Lib.itoa_length_le n h0 h1
 have e:(Yf n).size=(Lib.itoa n).length:=rfl
 omega
theorem Jxn {l:List Nat} {b:Nat} (h:∀x∈l,x≤b):l.sum≤b*l.length:=by
 induction l with
 |nil=>simp
 |cons x l ih=>
  have h1:=h x (List.mem_cons_self ..)
  have h2:=ih fun y hy=>h y (List.mem_cons_of_mem _ hy)
  rw[List.sum_cons,List.length_cons,Nat.mul_succ]
  omega
theorem Jgs {s:ByteArray} (h:Vk s=true):s.size≤24:=by
 unfold Vk at h
 simp only[Bool.and_eq_true,decide_eq_true_eq] at h
 omega
theorem Jr6 {k:ByteArray} (h:V4 k=true):k.size≤7:=by
 rcases U3 h with h|h|h|h|h|h|h|h|h|h|h<;>subst h<;>decide
theorem Jtm {e:Ev} (h:Ja e=0):Du e:=by
 have hE:=J2 h
 have hk:=Jae e.2.1
 have h1:=hE.num
 have h2:=hE.nn
 have h3:=hE.nv
 have h4:=Jr6 hE.kind
 refine⟨by omega,by omega,by omega,fun v hv=>by have:=hE.val v hv;omega, ?_⟩
 refine Nat.le_trans (Jxn (b:=41) fun x hx=> ?_) ?_
 ·obtain⟨s,hs,rfl⟩:=List.mem_map.1 hx
  rcases List.mem_cons.1 hs with rfl|hs
  ·have:=Jb1 e.1 (by omega) (by omega);omega
  rcases List.mem_cons.1 hs with rfl|hs
  ·omega
  rcases List.mem_append.1 hs with hs|hs
  ·have:=Jgs (hE.name s hs);omega
  ·obtain⟨v,hv,rfl⟩:=List.mem_map.1 hs
   have:=hE.val v hv
   have:=Jb1 v (by omega) (by omega);omega
 ·unfold Jo8
  simp only[List.length_map,List.length_cons,List.length_append]
  omega
theorem Jil {e:Ev} (h:Du e):(Jgk e).size=(Ku e).size+9:=by
 have h2:=Fg (Ku e)
 unfold Jgk
 rw[Up]
 simp[h2]
def J2y (log:ByteArray) (e:Ev):Int:=Jg [(Jc log).2.2,Ja e,bif e.1 !=((Jc log).1.length:Int)+1 then 11 else 0]
def Jpa (log:ByteArray) (e:Ev):ByteArray×Int:=if J2y log e≠0 then(Jd,J2y log e) else if 1000000<log.size+(Jgk e).size then(Jd,26) else(bs (log.data.toList++(Jgk e).data.toList),0)
def J0r:Con:={args:=[aS,aEv],ress:=[tS,I],owns:=[],pre:=fun(s,e,_)=>[s.size≤1000000000,e.2.2.1.length≤1000000,e.2.2.2.1.length≤1000000,∀s∈e.2.2.1,s.size≤1000000],spec:=fun(s,e,_)=>((Jpa s e).1,(Jpa s e).2,())}
theorem Jmf:∀(f:Nat) (l:List UInt8) (a:Int) (o:List Ev),o.length≤1000→(Jcw f l a o).1.length≤1000
 |0,_,_,_,h=>h
 | f + 1, l, a, o, h => by
  unfold Jcw
  split
  ·exact h
  split
  ·exact h
  split
  ·exact h
  ·rename_i q
   have q:(Ky (bs (H1 10 l)) (o.length+1)).2=0:=Decidable.of_not_not q
   have hn:=Jdr q
   have hnum:=(J2 hn.1).num
   rw[hn.2] at hnum
   exact Jmf f _ _ _ (by simp only[List.length_append,List.length_singleton];omega)
theorem Dz (s:ByteArray):(Jc s).1.length≤1000:=by
 unfold Jc
 split
 ·exact Nat.zero_le _
 ·exact Jmf _ _ _ _ (Nat.zero_le _)
def Z0 (a:Bt):=Ln (Jc a).1
def Koi (a:Bt) (b:Int) (c:Bt) (d:Ls) (e:Li) (f:Bt):=Jg [(Jc a).2.2,Z63 b c d e f,bif b !=Z0 a+1 then 11 else 0]
theorem ok8:Ok Tryz.prog 8 J0r:=okW Kuo Tryz.f8 na fun xx=>by
 obtain⟨(s:ByteArray),⟨(n:Int),(k:ByteArray),(ns:List ByteArray),(vs:List Int),(tx:ByteArray)⟩,_⟩:=xx
 refine(by kernel_rfl:(ByteArray.size s≤1000000000→Hw ns→Z55 vs→Jau ns→(Hw ns∧Z55 vs∧Jau ns∧Iw (Z0 s+1)∧3≤1000000)∧Br (Koi s n k ns vs tx !=0) (B0=(Jpa s (n,k,ns,vs,tx)).1∧Koi s n k ns vs tx=(Jpa s (n,k,ns,vs,tx)).2) ((Du (n,k,ns,vs,tx)∧Nc (ByteArray.size s+ByteArray.size (Jgk (n,k,ns,vs,tx)))≤9223372036854775807)∧Br (decide (1000000<Nc (ByteArray.size (ByteArray.mk (Array.mk (Z13 s++(Jgk (n,k,ns,vs,tx)).data.toList)))))) (B0=(Jpa s (n,k,ns,vs,tx)).1∧26=(Jpa s (n,k,ns,vs,tx)).2) (ByteArray.mk (Array.mk (Z13 s++(Jgk (n,k,ns,vs,tx)).data.toList))=(Jpa s (n,k,ns,vs,tx)).1∧0=(Jpa s (n,k,ns,vs,tx)).2)))=_).mp ?_
 delta Z0 Z13 Z55 Z63 Hw Jcd Jau Koi Br Iw Ln Nc B0
 intro hs h1 h2 h3
 have hl:=Dz s
 have hz:(⟨⟨s.data.toList++(Jgk (n,k,ns,vs,tx)).data.toList⟩⟩:ByteArray).size=s.size+(Jgk (n,k,ns,vs,tx)).size:=by
  show(bs _).size=_
  rw[Up,List.length_append];simp
 rw[hz]
 refine⟨⟨h1,h2,h3,by(repeat' first|apply And.intro|(first|omega|dsimp only;omega)),by decide⟩,fun h=> ?_,fun h=> ?_⟩
 ·have h:J2y s (n,k,ns,vs,tx)≠0:=bne_iff_ne.1 h
  unfold Jpa;rw[if_pos h];exact⟨rfl,rfl⟩
 ·have h:J2y s (n,k,ns,vs,tx)=0:=bne_eq_false_iff_eq.1 h
  have hz0:∀{l:List Int},Jg l=0→∀x∈l,x=0:=fun h=>Kz.1 h
  have hc:Ja (n,k,ns,vs,tx)=0:=hz0 h _ (by simp)
  have hb:=Jtm hc
  have hr:=Jil hb
  have hb2:=Jnb hb
  unfold Jpa
  rw[if_neg (by rw[h];simp)]
  refine⟨⟨hb,by omega⟩,fun h2=> ?_,fun h2=> ?_⟩
  ·have h2:1000000<s.size+(Jgk (n,k,ns,vs,tx)).size:=by have:=of_decide_eq_true h2;omega
   rw[if_pos h2];exact⟨rfl,rfl⟩
  ·have h2:¬1000000<s.size+(Jgk (n,k,ns,vs,tx)).size:=by have:=of_decide_eq_false h2;omega
   rw[if_neg h2];exact⟨rfl,rfl⟩
abbrev Kun:=Kuo.add ok8
end Go.Proofs.YthlgkojihnccaaaGreatDoor
namespace Go.Proofs.Tryz
open Go.Proofs.YthlgkojihnccaaaGreatDoor
end Go.Proofs.Tryz
namespace Go.Proofs.YthlgkojihnccaaaGreatDoor
open Go.Sx
set_option maxHeartbeats 20000000
structure NmR (r:Reg):Prop where
 o:∀x∈r.2.2.2.1,x.1.size≤24
 x:∀x∈r.2.2.2.2.2.1,x.1.size≤24
 q:∀x∈r.2.2.2.2.2.2,x.1.size≤24
def J5o:Con:={args:=[.val false (.list 110 Yn), .fn [(true,Yn)] (true,Jqw)],ress:=[(false, .list 125 Jqw)],owns:=[true],pre:=fun(l,(q,_),_)=>[l.length≤1000000,∀x∈l,K6 (q (x,()))],spec:=fun(l,(_,f),_)=>(l.map fun x=>f (x,()),())}
def J3s (a:Nat) (b:List Ord) (c:Nat):=a≤List.length b∧List.length b-a<List.length b-c
def J79 (a:Ord×Unit→Jnz) (b:Nat) (c:List Ord):=List.map (fun(x:Ord)=>a (x,PUnit.unit)) (List.take b c)
def Kof (a:Ord×Unit→Jnz) (b:Nat) (c:List Ord):=List.length (J79 a b c)
def Klz (a:Ord×Unit→Jnz) (b:List Ord) (c:Nat):=a (J66 b c)
def Kly (a:Ord×Unit→Jnz) (b:List Ord) (c:Nat):=(Klz a b c).2
def Klx (a:Ord×Unit→Jnz) (b:List Ord) (c:Nat):=(Kly a b c).2
def Klw (a:Ord×Unit→Jnz) (b:List Ord) (c:Nat):=(Klx a b c).2
theorem Kwv:Ok Tryz.prog 41 J5o:=okW Kun Tryz.f41 (fun xx=>Ho (Jjm 110 125 Yn xx.1 (true,Jqw) true xx.2.1.1 xx.2.1.2)) fun xx=>by
 obtain⟨(l:List Ord),⟨(q:Ord×Unit→List Prop),(f:Ord×Unit→Jnz)⟩,_⟩:=xx
 refine(by kernel_rfl:(Z61 l→Kd4 l q→∃(x:Nat),Si (Ln l) (0=Nc x∧Sf l ((fun(x:Ord×PUnit)=>q x)=q∧(fun(x:Ord×PUnit)=>f x)=f∧Kof f x l=0))∧x≤List.length l∧∀(x:Nat),x≤List.length l→Br (Z97 x l) (Tw (Bd (Nc x) (Ln l))∧(Kag q l x∧(Kof f x l+1)*56≤140737488355328)∧Z25 x∧∃(y:Nat),Si (Ln l) (Z93 x y∧Sf l ((fun(x:Ord×PUnit)=>q x)=q∧(fun(x:Ord×PUnit)=>f x)=f∧J79 f x l++[((Klz f l x).1,(Kly f l x).1,(Klx f l x).1,(Klw f l x).1,E2 (Klw f l x).2)]=J79 f y l))∧J3s y l x) (J79 f x l=List.map (fun(x:Ord)=>f (x,PUnit.unit)) l))=_).mp ?_
 delta Z25 Z61 Z72 Z93 Z97 Jej J3s J1y Kd4 Jxc J3p J3o J1x J1w J3n J3m J1v J1u J1t J79 Kof J67 J66 Klz Kly Klx Klw Kag Br Iw Bd Tw Sf Si Ln Nc B0 E2
 intro hb hq
 refine⟨(0:Nat),⟨rfl,rfl,rfl,rfl,rfl,by simp⟩,Nat.zero_le _,fun(k:Nat) hk=>⟨fun h=> ?_,fun h=> ?_⟩⟩
 ·have hlt:k<l.length:=by simpa using h
  refine⟨by omega,⟨hq (l.getD k Km) (Je hlt),by simp only[List.length_map,List.length_take];omega⟩,by omega,(k+1:Nat),⟨rfl,by simp,rfl,rfl,rfl, ?_⟩,by omega,by omega⟩
  rw[←K7 (d:=Km) hlt,List.map_append];rfl
 ·have hlt:¬k<l.length:=by simpa using h
  rw[List.take_of_length_le (by omega)]
abbrev Kum:=Kun.add Kwv
def Zb (l:List Ev):List Jnz:=(Ui l).2.2.2.1.map (Uy (Ui l).2.1 (Ui l).2.2.2.2.1)
def Jpd (l:List Ev) (a b:ByteArray):Int:=Jg [opE l [a,b],bif a.toList==b.toList then 24 else 0]
def Jt4 (l:List Ev) (a b:ByteArray):Int:=if Jpd l a b=0 then Jli (Ui l).2.1 (Ui l).2.2.2.1 (Ui l).2.2.2.2.1 a b else 0
def J0s:Con:={args:=[.val false (.list 37 sEv),aS,aS],ress:=[I,I],owns:=[],pre:=fun(l,_)=>[lOk l],spec:=fun(l,a,b,_)=>(Jt4 l a b,Jpd l a b,())}
def Krz (a:List Ev) (b c:Bt):=Jg [opE a [b,c],bif Lb b c then 24 else 0]
def J1s (a:List Ev):=((Ui a).1,(Ui a).2.1,(Ui a).2.2.1,(Ui a).2.2.2.1,(Ui a).2.2.2.2.1,E2 (Ui a).2.2.2.2.2)
def Kb4 (a:List Ev):=Js (J1s a)
theorem Kxc:Ok Tryz.prog 19 J0s:=okW Kum Tryz.f19 na fun xx=>by
 obtain⟨(l:List Ev),(a:ByteArray),(b:ByteArray),_⟩:=xx
 refine(by kernel_rfl:(lOk l→(lOk l∧2≤1000000)∧2≤1000000∧Br (Krz l a b !=0) (0=Jt4 l a b∧Krz l a b=Jpd l a b) (Kb4 l∧Jli (Ui l).2.1 (Ui l).2.2.2.1 (Ui l).2.2.2.2.1 a b=Jt4 l a b∧0=Jpd l a b))=_).mp ?_
 delta Krz J1s Kb4 Br Lb E2
 intro hl
 refine⟨⟨hl,by decide⟩,by decide,fun h=> ?_,fun h=> ?_⟩
 ·have h:Jpd l a b≠0:=bne_iff_ne.1 h
  exact⟨by unfold Jt4;rw[if_neg h],rfl⟩
 ·have h:Jpd l a b=0:=bne_eq_false_iff_eq.1 h
  exact⟨Jkm,by unfold Jt4;rw[if_pos h],h.symm⟩
abbrev Kul:=Kum.add Kxc
def Jc6 (l:List Ev):(Int×Int)×Int:=if opE l []=0 then J4x (Ui l).2.1 (Ui l).2.2.2.1 (Ui l).2.2.2.2.1 else((0,0),opE l [])
def J0e:Con:={args:=[.val false (.list 37 sEv)],ress:=[(true,Jid),I],owns:=[],pre:=fun(l,_)=>[lOk l],spec:=fun(l,_)=>((Jc6 l).1,(Jc6 l).2,())}
abbrev Jtz (l:List Ev) (B:List Jnz):Ann:={X:=Nat×Int×Int,σ:=fun(k,s,g)=>⟨9,[(2, .one (.ptr 1 0)),(6, .one (.int .i64 s)),(7, .one (.int .i64 g)),(23, .one (.sl 8)),(24, .one (.int .i64 B.length)),(25, .one (.int .i64 k))],[(1, .box 74 [.int .i64 0, .int .i64 0]),(8, .own 125 Jqw B)]⟩,inv:=fun(k,s,g)=>k≤B.length∧(0≤s∧s≤48000*k)∧(0≤g∧g≤s)∧Jqi (B.drop k) (s,g)=Jqi B (0,0),mu:=fun(k,_)=>B.length-k}
def Ko7 (a:List Ev):=List.map (fun(x:Ord)=>Uy (Ui a).2.1 (Ui a).2.2.2.2.1 x) (Ui a).2.2.2.1
def Ko4 (a:List Ev) (b:Nat×Int×Int):=(List.getD (Zb a) b.1 (B0,0,0,Z72)).2.2
def Ko1 (a:Nat×Int×Int) (b:List Ev):=a.2.1+(Ko4 b a).1
def Koz (a:Nat×Int×Int) (b:List Ev):=a.2.2+(Ko4 b a).2.1
def Kaz (a:Nat×Int×Int) (b:List Ev):=a.1≤List.length (Zb b)∧(0≤a.2.1∧a.2.1≤48000*Nc a.1)∧(0≤a.2.2∧a.2.2≤a.2.1)∧Jqi (List.drop a.1 (Zb b)) (E2 a.2)=Jqi (Zb b) (0,0)
theorem Kxb:Ok Tryz.prog 20 J0e:=okW Kul Tryz.f20 (fun xx=>Ho (Jtz xx.1 (Zb xx.1))) fun xx=>by
 obtain⟨(l:List Ev),_⟩:=xx
 refine(by kernel_rfl:(lOk l→(lOk l∧0≤1000000)∧Br (opE l [] !=0) ((0,0)=(Jc6 l).1∧opE l []=(Jc6 l).2) ((List.length (Ui l).2.2.2.1≤1000000∧∀(x:Ord),x∈(Ui l).2.2.2.1→Kb4 l∧x∈(Ui l).2.2.2.1)∧∃(x:Nat×Int×Int),(0=x.2.1∧0=x.2.2∧Ln (Ko7 l)=Ln (Zb l)∧0=Nc x.1∧Si 0 (Si 0 (Ko7 l=Zb l)))∧Kaz x l∧∀(x:Nat×Int×Int),Kaz x l→Br (decide (Nc x.1<Ln (Zb l))) (Tw (Bd (Nc x.1) (Ln (Zb l)))∧Iw (Ko1 x l)∧Iw (Koz x l)∧Iw (Nc x.1+1)∧∃(y:Nat×Int×Int),(Ko1 x l=y.2.1∧Koz x l=y.2.2∧Si (Ln (Zb l)) (Nc x.1+1=Nc y.1∧Si 0 (Si 0 (Zb l=Zb l))))∧Kaz y l∧List.length (Zb l)-y.1<List.length (Zb l)-x.1) (Br (x.2.1==0) ((0,0)=(Jc6 l).1∧6=(Jc6 l).2) ((Iw (x.2.1-x.2.2)∧(0≤x.2.1-x.2.2∧x.2.1-x.2.2≤1000000000000)∧1≤x.2.1∧x.2.1≤1000000000000)∧E2 (J2u (x.2.1-x.2.2) x.2.1)=(Jc6 l).1∧0=(Jc6 l).2))))=_).mp ?_
 delta Z72 J1s Kb4 Ko7 Ko4 Ko1 Koz Kaz Br Iw Bd Tw Si Ln Nc B0 E2
 intro hl
 have hr:=Jkm (l:=l)
 have nO:(Ui l).2.2.2.1.length≤32:=hr.nO
 simp only[Prod.eta]
 refine⟨⟨hl,by decide⟩,fun h=> ?_,fun h=>⟨⟨Nat.le_trans nO (by decide),fun x hx=>⟨hr,hx⟩⟩, ?_⟩⟩
 ·have h:=bne_iff_ne.1 h
  unfold Jc6;rw[if_neg h]
  exact⟨rfl,rfl⟩
 have h:opE l []=0:=bne_eq_false_iff_eq.1 h
 have hB:∀b∈Zb l,Jy4 b:=fun b hb=>by
  obtain⟨x,hx,rfl⟩:=List.mem_map.1 hb
  exact Jnc hr hx
 have nB:(Zb l).length≤32:=by unfold Zb;rw[List.length_map];exact nO
 refine⟨((0:Nat),0,0),by(repeat' first|exact rfl|exact⟨⟩|apply And.intro|omega|dsimp only;omega),⟨Nat.zero_le _,by(first|omega|dsimp only;omega),by(first|omega|dsimp only;omega),rfl⟩,fun(x:Nat×Int×Int) hk=>⟨fun h1=> ?_,fun h1=> ?_⟩⟩
 ·obtain⟨k,s,g⟩:=x
  have hlt:k<(Zb l).length:=by simpa using h1
  have hx:=Je (d:=Jtn) hlt
  have hb:=hB _ hx
  obtain⟨k1,k2,k3,k4⟩:=hk
  rw[Jo (d:=Jtn) hlt,Jqi] at k4
  have m1:=hb.sent
  have m2:=hb.got
  have hzb:((({data:={toList:=[]}}:ByteArray),(0:Int),(0:Int),(0:Int),(0:Int),(0:Int)):Jnz)=Jtn:=rfl
  dsimp only at k1 k2 k3 k4
  simp only[hzb]
  exact⟨by omega,by omega,by omega,by omega,(k+1,s+((Zb l).getD k Jtn).2.2.1,g+((Zb l).getD k Jtn).2.2.2.1),by simp,⟨by(first|omega|dsimp only;omega),by(first|omega|dsimp only;omega),by(first|omega|dsimp only;omega),k4⟩,by(first|omega|dsimp only;omega)⟩
 ·obtain⟨k,s,g⟩:=x
  have hlt:¬k<(Zb l).length:=by simpa using h1
  obtain⟨k1,k2,k3,k4⟩:=hk
  have:k=(Zb l).length:=by dsimp only at k1;omega
  rw[this,List.drop_length,Jqi] at k4
  have e:Jc6 l=if s=0 then((0,0),6) else(J2u (s-g) s,0):=by
   unfold Jc6 J4x
   rw[if_pos h]
   rw[show((Ui l).2.2.2.1.map (Uy (Ui l).2.1 (Ui l).2.2.2.2.1))=Zb l from rfl,←k4]
  dsimp only at k2 k3
  rw[e]
  refine⟨fun h2=> ?_,fun h2=> ?_⟩
  ·have h2:s=0:=by simpa using h2
   rw[if_pos h2]
   exact⟨rfl,rfl⟩
  ·have h2:s≠0:=by simpa using h2
   rw[if_neg h2]
   refine⟨⟨?_, ?_, ?_⟩,rfl,rfl⟩
   all_goals dsimp only
   all_goals (repeat' first|apply And.intro|omega)
abbrev Kuk:=Kul.add Kxb
def Kxx:Con:={args:=[.ref 94 Jqv],ress:=[(true,Jif)],owns:=[],pre:=fun(h,_)=>[Kc h],spec:=fun(h,_)=>(Uv h.2.2,())}
theorem Kw4:Ok Tryz.prog 30 Kxx:=okW Kuk Tryz.f30 na fun xx=>by
 obtain⟨⟨(E:List Ev),(C:List Ev),(G:List Reg)⟩,_⟩:=xx
 refine(by kernel_rfl:(Kc (E,C,G)→Br (Xq G) (Xp G∧Zp G=Uv G) (Yq=Uv G))=_).mp ?_
 delta Xq Fb Yq Xp Jbl Jbk Jcb Jbs L7 L6 F1 Hq Jbr Zp Br Iw Bd Tw Ln Gt E2
 intro hh
 have n1:E.length≤1000:=hh.nE
 have n2:C.length≤E.length:=hh.nC
 have n3:G.length=C.length:=hh.nG
 have hG:((G.length:Int)-1).toNat=G.length-1:=by omega
 refine⟨fun h=> ?_,fun h=> ?_⟩
 ·have h:(0:Int)<G.length:=of_decide_eq_true h
  rw[hG]
  exact⟨by omega,rfl⟩
 ·exact(Kk h).symm
abbrev Kuj:=Kuk.add Kw4
def J5q:Con:={args:=[.val false (.list 37 sEv), .fn [(true,sEv)] (true,sEv)],ress:=[(false, .list 37 sEv)],owns:=[true],pre:=fun(l,(q,_),_)=>[l.length≤1000000,∀x∈l,K6 (q (x,()))],spec:=fun(l,(_,f),_)=>(l.map fun x=>f (x,()),())}
def Z17 (a:Nat) (b:List Ev):=Bd (Nc a) (Ln b)
def J4e (a:List Ev) (b:Ev):=b∈a
def J4c (a:Ev×Unit→Ev) (b:Nat) (c:List Ev):=List.map (fun(x:Ev)=>a (x,PUnit.unit)) (List.take b c)
def J3u (a:List Ev) (b:Nat):=List.getD a b H2
def J8r (a:List Ev) (b:Nat):=(J3u a b).1
def Jxe (a:List Ev) (b:Nat):=(J3u a b).2.2
def J13 (a:List Ev) (b:Nat):=(J3u a b).2.1
def Jxd (a:List Ev) (b:Nat):=(Jxe a b).2
def Knk (a:List Ev) (b:Nat):=((J8r a b,J13 a b,(Jxe a b).1,E2 (Jxd a b)),PUnit.unit)
def Knj (a:Ev×Unit→Ev) (b:List Ev) (c:Nat):=a (Knk b c)
def Kni (a:Ev×Unit→Ev) (b:List Ev) (c:Nat):=(Knj a b c).2
def Knh (a:Ev×Unit→Ev) (b:List Ev) (c:Nat):=(Kni a b c).2
theorem Kw0:Ok Tryz.prog 35 J5q:=okW Kuj Tryz.f35 (fun xx=>Ho (Jjm 37 37 sEv xx.1 (true,sEv) true xx.2.1.1 xx.2.1.2)) fun xx=>by
 obtain⟨(l:List Ev),⟨(q:Ev×Unit→List Prop),(f:Ev×Unit→Ev)⟩,_⟩:=xx
 refine(by kernel_rfl:(List.length l≤1000000→(∀(x:Ev),J4e l x→K6 (q (x,PUnit.unit)))→∃(x:Nat),Si (Ln l) (0=Nc x∧Sf l ((fun(x:Ev×PUnit)=>q x)=q∧(fun(x:Ev×PUnit)=>f x)=f∧List.length (J4c f x l)=0))∧x≤List.length l∧∀(x:Nat),x≤List.length l→Br (decide (Nc x<Ln l)) (Tw (Z17 x l)∧(K6 (q (Knk l x))∧(List.length (J4c f x l)+1)*88≤140737488355328)∧Z25 x∧∃(y:Nat),Si (Ln l) (Z93 x y∧Sf l ((fun(x:Ev×PUnit)=>q x)=q∧(fun(x:Ev×PUnit)=>f x)=f∧J4c f x l++[((Knj f l x).1,(Kni f l x).1,(Knh f l x).1,E2 (Knh f l x).2)]=J4c f y l))∧y≤List.length l∧List.length l-y<List.length l-x) (J4c f x l=List.map (fun(x:Ev)=>f (x,PUnit.unit)) l))=_).mp ?_
 delta Z17 Z25 Z93 J4e H2 J4c J3u J8r Jxe J13 Jxd Knk Knj Kni Knh Br Iw Bd Tw Sf Si Ln Nc B0 E2
 intro hb hq
 refine⟨(0:Nat),⟨rfl,rfl,rfl,rfl,rfl,by simp⟩,Nat.zero_le _,fun(k:Nat) hk=>⟨fun h=> ?_,fun h=> ?_⟩⟩
 ·have hlt:k<l.length:=by simpa using h
  refine⟨by omega,⟨hq (l.getD k ev0) (Je hlt),by simp only[List.length_map,List.length_take];omega⟩,by omega,(k+1:Nat),⟨rfl,by simp,rfl,rfl,rfl, ?_⟩,by omega,by omega⟩
  rw[←K7 (d:=ev0) hlt,List.map_append];rfl
 ·have hlt:¬k<l.length:=by simpa using h
  rw[List.take_of_length_le (by omega)]
abbrev Kui:=Kuj.add Kw0
def Dc:List Ev→Nat→List Ev
 |[],_=>[]
 |e::l,i=>((i:Int)+1,e.2)::Dc l (i+1)
theorem Lo:∀(l:List Ev) (i:Nat),(Dc l i).length=l.length
 |[],_=>rfl
 |_::l,i=>by unfold Dc;rw[List.length_cons,List.length_cons,Lo l]
theorem Jff:∀(a b:List Ev) (i:Nat),Dc (a++b) i=Dc a i++Dc b (i+a.length)
 |[],_,_=>rfl
 |x::a,b,i=>by
  rw[List.cons_append,Dc,Dc,Jff a b (i+1),List.cons_append,List.length_cons,show i+1+a.length=i+(a.length+1) by omega]
def J0k:Con:={args:=[.ref 96 Jqv],ress:=[(false, .list 37 sEv)],owns:=[],pre:=fun(h,_)=>[h.1.length≤1000,∀e∈h.1,F2 e],spec:=fun(h,_)=>(h.1,())}
def J8k (a:Ev):=List.length a.2.2.1≤1000000∧List.length a.2.2.2.1≤1000000
def Kb3 (a:List Ev):=∀(x:Ev),J4e a x→J8k x
theorem Kxf:Ok Tryz.prog 15 J0k:=okW Kui Tryz.f15 na fun xx=>by
 obtain⟨⟨(E:List Ev),(C:List Ev),(G:List Reg)⟩,_⟩:=xx
 refine(by kernel_rfl:(List.length E≤1000→(∀(e:Ev),J4e E e→F2 e)→Br false ([]=E) ((List.length E≤1000000∧Kb3 E)∧List.map (fun(x:Ev)=>x) E=E))=_).mp ?_
 delta J4e J8k Kb3 Br
 intro h1 h2
 refine⟨fun h=>(nomatch h),fun _=>⟨⟨by omega,fun x hx=>⟨(h2 x hx).1,(h2 x hx).2.1⟩⟩,List.map_id' _⟩⟩
abbrev Kuh:=Kui.add Kxf
def Ktn (l:List Ev):ByteArray:=Jkx (l.map Jgk) Jd
def eqL {α:Type} (p:α→α→Bool):List α→List α→Bool
 |[],[]=>true
 |x::l,y::r=>bif p x y then eqL p l r else false
 |_,_=>false
theorem Jm2 {α:Type} {p:α→α→Bool}:∀{l r:List α},l.length≠r.length→eqL p l r=false
 |[],[],h=>absurd rfl h
 |[],_::_,_=>rfl
 |_::_,[],_=>rfl
 |x::l,y::r,h=>by
  unfold eqL
  rw[Jm2 (fun e=>h (by rw[List.length_cons,List.length_cons,e]))]
  cases p x y<;>rfl
theorem Jb3 {α:Type} {p:α→α→Bool} (h:∀x,p x x=true):∀l:List α,eqL p l l=true
 |[]=>rfl
 |x::l=>by unfold eqL;rw[h x,cond_true];exact Jb3 h l
def Dy (a b:ByteArray):Bool:= !(a.toList !=b.toList)
def Dx (a b:Int):Bool:= !(a !=b)
abbrev Jle (T:TypeId) (s:Sch) (p:s.T→s.T→Bool) (xs ys:List s.T):Ann:={X:=Nat,σ:=fun k=>⟨2,[(0, .one (.sl 0)),(1, .one (.sl 1)),(5, .one (.int .i64 k))],[(0, .imm T s xs),(1, .imm T s ys)]⟩,inv:=fun k=>k≤xs.length∧xs.length=ys.length∧eqL p (xs.drop k) (ys.drop k)=eqL p xs ys,mu:=fun k=>xs.length-k}
def J5h (T:TypeId) (s:Sch) (p:s.T→s.T→Bool):Con:={args:=[.val false (.list T s), .val false (.list T s)],ress:=[Bo],owns:=[],pre:=fun(xs,_)=>[xs.length≤1000000],spec:=fun(xs,ys,_)=>(eqL p xs ys,())}
def J5d:Con:=J5h 9 .str Dy
def Kbc (a:Nat) (b c:Ls):=a≤List.length b∧List.length b=List.length c∧eqL Dy (List.drop a b) (List.drop a c)=eqL Dy b c
theorem Kw2:Ok Tryz.prog 33 J5d:=okW Kuh Tryz.f33 (fun xx=>Ho (Jle 9 .str Dy xx.1 xx.2.1)) fun xx=>by
 obtain⟨(xs:List ByteArray),(ys:List ByteArray),_⟩:=xx
 refine(by kernel_rfl:(Hw xs→Br (Ln xs !=Ln ys) (false=eqL Dy xs ys) (∃(x:Nat),(0=Nc x∧Sf xs (ys=ys))∧Kbc x xs ys∧∀(x:Nat),Kbc x xs ys→Br (decide (Nc x<Ln xs)) (T2 (Z79 x xs) (Tw (Z79 x ys))∧Br (!Lb (Z28 xs x) (Z28 ys x)) (false=eqL Dy xs ys) (Z25 x∧∃(y:Nat),(Z93 x y∧Sf xs (ys=ys))∧Kbc y xs ys∧J33 xs y x)) (true=eqL Dy xs ys)))=_).mp ?_
 delta Z25 Z28 Z79 Z93 Hw J33 Kbc Br Iw Bd T2 Tw Sf Ln Nc B0 Lb
 intro hl
 refine⟨fun h=> ?_,fun h=>⟨(0:Nat),by simp,⟨Nat.zero_le _, ?_,rfl⟩,fun(k:Nat) hk=>⟨fun h1=> ?_,fun h1=> ?_⟩⟩⟩
 ·have h:((xs.length:Int) !=ys.length)=true:=h
  exact(Jm2 (by have:=bne_iff_ne.1 h;omega)).symm
 ·have h:((xs.length:Int) !=ys.length)=false:=h
  have:=bne_eq_false_iff_eq.1 h
  omega
 ·obtain⟨k1,k2,k3⟩:=hk
  have hlt:k<xs.length:=by simpa using h1
  rw[Jo (l:=xs) (d:=Jd) hlt,Jo (l:=ys) (d:=Jd) (by omega),eqL] at k3
  refine⟨by omega,fun h2=> ?_,fun h2=> ?_⟩
  ·have h2:Dy (xs.getD k Jd) (ys.getD k Jd)=false:=by unfold Dy;rw[show((xs.getD k Jd).toList !=(ys.getD k Jd).toList)=true from h2];rfl
   rw[h2] at k3;exact k3
  ·have h2:Dy (xs.getD k Jd) (ys.getD k Jd)=true:=by unfold Dy;rw[show((xs.getD k Jd).toList !=(ys.getD k Jd).toList)=false from h2];rfl
   rw[h2] at k3
   exact⟨by omega,(k+1:Nat),by simp,⟨by omega,k2,k3⟩,by omega⟩
 ·obtain⟨k1,k2,k3⟩:=hk
  have hlt:¬k<xs.length:=by simpa using h1
  rw[List.drop_eq_nil_of_le (by omega),List.drop_eq_nil_of_le (by omega)] at k3
  exact k3
abbrev Kug:=Kuh.add Kw2
def J5f:Con:=J5h 3 sI Dx
def Kbx (a:Nat) (b c:Li):=a≤List.length b∧List.length b=List.length c∧eqL Dx (List.drop a b) (List.drop a c)=eqL Dx b c
theorem Kw1:Ok Tryz.prog 34 J5f:=okW Kug Tryz.f34 (fun xx=>Ho (Jle 3 sI Dx xx.1 xx.2.1)) fun xx=>by
 obtain⟨(xs:List Int),(ys:List Int),_⟩:=xx
 refine(by kernel_rfl:(Z55 xs→Br (Ln xs !=Ln ys) (false=eqL Dx xs ys) (∃(x:Nat),(0=Nc x∧Sf xs (ys=ys))∧Kbx x xs ys∧∀(x:Nat),Kbx x xs ys→Br (decide (Nc x<Ln xs)) (T2 (Bd (Nc x) (Ln xs)) (Z82 x ys)∧Br (Z21 xs x !=Z21 ys x) (false=eqL Dx xs ys) (Z25 x∧∃(y:Nat),(Z93 x y∧Sf xs (ys=ys))∧Kbx y xs ys∧Jt9 xs y x)) (true=eqL Dx xs ys)))=_).mp ?_
 delta Z21 Z25 Z55 Z82 Z93 Jt9 Kbx Br Iw Bd T2 Tw Sf Ln Nc
 intro hl
 refine⟨fun h=> ?_,fun h=>⟨(0:Nat),by simp,⟨Nat.zero_le _, ?_,rfl⟩,fun(k:Nat) hk=>⟨fun h1=> ?_,fun h1=> ?_⟩⟩⟩
 ·have h:((xs.length:Int) !=ys.length)=true:=h
  exact(Jm2 (by have:=bne_iff_ne.1 h;omega)).symm
 ·have h:((xs.length:Int) !=ys.length)=false:=h
  have:=bne_eq_false_iff_eq.1 h
  omega
 ·obtain⟨k1,k2,k3⟩:=hk
  have hlt:k<xs.length:=by simpa using h1
  rw[Jo (l:=xs) (d:=(0:Int)) hlt,Jo (l:=ys) (d:=(0:Int)) (by omega),eqL] at k3
  refine⟨by omega,fun h2=> ?_,fun h2=> ?_⟩
  ·have h2:Dx (xs.getD k 0) (ys.getD k 0)=false:=by unfold Dx;rw[show(xs.getD k 0 !=ys.getD k 0)=true from h2];rfl
   rw[h2] at k3;exact k3
  ·have h2:Dx (xs.getD k 0) (ys.getD k 0)=true:=by unfold Dx;rw[show(xs.getD k 0 !=ys.getD k 0)=false from h2];rfl
   rw[h2] at k3
   exact⟨by omega,(k+1:Nat),by simp,⟨by omega,k2,k3⟩,by omega⟩
 ·obtain⟨k1,k2,k3⟩:=hk
  have hlt:¬k<xs.length:=by simpa using h1
  rw[List.drop_eq_nil_of_le (by omega),List.drop_eq_nil_of_le (by omega)] at k3
  exact k3
abbrev Kuf:=Kug.add Kw1
def Jwl (a b:Ev):Bool:=bif bif bif bif a.1 !=b.1 then true else !(a.2.1.toList==b.2.1.toList) then true else !eqL Dy a.2.2.1 b.2.2.1 then true else !eqL Dx a.2.2.2.1 b.2.2.2.1 then true else !(a.2.2.2.2.toList==b.2.2.2.2.toList)
def Zg (a b:Ev):Bool:= !Jwl a b
theorem Joh (a:ByteArray):Dy a a=true:=by unfold Dy;simp
theorem Jog (a:Int):Dx a a=true:=by unfold Dx;simp
def J5g:Con:={args:=[.val false (.list 37 sEv), .val false (.list 37 sEv)],ress:=[Bo],owns:=[],pre:=fun(xs,_)=>[xs.length≤1000000,∀x∈xs,x.2.2.1.length≤1000000∧x.2.2.2.1.length≤1000000],spec:=fun(xs,ys,_)=>(eqL Zg xs ys,())}
def J8p (a:List Ev) (b:Nat):=(Jxd a b).2
def Kb7 (a:Nat) (b c:List Ev):=a≤List.length b∧List.length b=List.length c∧eqL Zg (List.drop a b) (List.drop a c)=eqL Zg b c
def Kok (a:List Ev) (b:Nat) (c:List Ev):=J8r a b !=J8r c b
def Koc (a:List Ev) (b:Nat) (c:List Ev):=Kok a b c=false
def Km7 (a:List Ev) (b:Nat) (c:List Ev):=bif Kok a b c then true else !Lb (J13 a b) (J13 c b)
def Kap (a:List Ev) (b:Nat) (c:List Ev):=Km7 a b c=false
def Kl1 (a:List Ev) (b:Nat) (c:List Ev):=bif Km7 a b c then true else !eqL Dy (Jxe a b).1 (Jxe c b).1
def Kah (a:List Ev) (b:Nat) (c:List Ev):=Kl1 a b c=false
def Klq (a:List Ev) (b:Nat) (c:List Ev):=bif Kl1 a b c then true else !eqL Dx (Jxd a b).1 (Jxd c b).1
def Klp (a:List Ev) (b:Nat) (c:List Ev):=Klq a b c=false
theorem Kxg:Ok Tryz.prog 14 J5g:=okW Kuf Tryz.f14 (fun xx=>Ho (Jle 37 sEv Zg xx.1 xx.2.1)) fun xx=>by
 obtain⟨(xs:List Ev),(ys:List Ev),_⟩:=xx
 refine(by kernel_rfl:(List.length xs≤1000000→Kb3 xs→Br (Ln xs !=Ln ys) (false=eqL Zg xs ys) (∃(x:Nat),(0=Nc x∧Sf xs (ys=ys))∧Kb7 x xs ys∧∀(x:Nat),Kb7 x xs ys→Br (decide (Nc x<Ln xs)) (T2 (Z17 x xs) (T2 (Z17 x ys) (T2 (Koc xs x ys→Z17 x xs) (T2 (Koc xs x ys→Z17 x ys) (T2 (Kap xs x ys→Z17 x xs) (T2 (Kap xs x ys→Z17 x ys) ((Kap xs x ys→List.length (Jxe xs x).1≤1000000)∧T2 (Kah xs x ys→Z17 x xs) (T2 (Kah xs x ys→Z17 x ys) ((Kah xs x ys→List.length (Jxd xs x).1≤1000000)∧T2 (Klp xs x ys→Z17 x xs) (Tw (Klp xs x ys→Z17 x ys))))))))))∧Br (bif Klq xs x ys then true else !Lb (J8p xs x) (J8p ys x)) (false=eqL Zg xs ys) (Z25 x∧∃(y:Nat),(Z93 x y∧Sf xs (ys=ys))∧Kb7 y xs ys∧List.length xs-y<List.length xs-x)) (true=eqL Zg xs ys)))=_).mp ?_
 delta Z17 Z25 Z93 J4e H2 J3u J8r Jxe J13 Jxd J8p J8k Kb7 Kb3 Kok Koc Km7 Kap Kl1 Kah Klq Klp Br Iw Bd T2 Tw Sf Ln Nc B0 Lb
 intro hl hs
 refine⟨fun h=> ?_,fun h=>⟨(0:Nat),by simp,⟨Nat.zero_le _, ?_,rfl⟩,fun(k:Nat) hk=>⟨fun h1=> ?_,fun h1=> ?_⟩⟩⟩
 ·have h:((xs.length:Int) !=ys.length)=true:=h
  exact(Jm2 (by have:=bne_iff_ne.1 h;omega)).symm
 ·have h:((xs.length:Int) !=ys.length)=false:=h
  have:=bne_eq_false_iff_eq.1 h
  omega
 ·obtain⟨k1,k2,k3⟩:=hk
  have hlt:k<xs.length:=by simpa using h1
  rw[Jo (l:=xs) (d:=ev0) hlt,Jo (l:=ys) (d:=ev0) (by omega),eqL] at k3
  have hz:((0:Int),({data:={toList:=[]}}:ByteArray),([]:List ByteArray),([]:List Int),({data:={toList:=[]}}:ByteArray))=ev0:=rfl
  have hx:((0:Int)≤(k:Int)∧(k:Int)<(xs.length:Int))=True:=eq_true (by omega)
  have hy:((0:Int)≤(k:Int)∧(k:Int)<(ys.length:Int))=True:=eq_true (by omega)
  have ha:=hs _ (Je (d:=ev0) hlt)
  simp only[hz,hx,hy,implies_true,true_and,and_true]
  generalize xs.getD k ev0=a at ha k3⊢
  generalize ys.getD k ev0=b at k3⊢
  refine⟨⟨fun _=>ha.1,fun _=>ha.2⟩,fun h2=> ?_,fun h2=> ?_⟩
  ·have h2:Zg a b=false:=by unfold Zg;rw[show Jwl a b=true from h2];rfl
   rw[h2] at k3;exact k3
  ·have h2:Zg a b=true:=by unfold Zg;rw[show Jwl a b=false from h2];rfl
   rw[h2] at k3
   exact⟨by omega,(k+1:Nat),by omega,⟨by omega,k2,k3⟩,by omega⟩
 ·obtain⟨k1,k2,k3⟩:=hk
  have hlt:¬k<xs.length:=by simpa using h1
  rw[List.drop_eq_nil_of_le (by omega),List.drop_eq_nil_of_le (by omega)] at k3
  exact k3
abbrev Kue:=Kuf.add Kxg
def Jfn (e:Ev):Bool:=bif bif bif decide (40<(e.2.1.size:Int)) then true else decide (6<(e.2.2.1.length:Int)) then true else decide (8<(e.2.2.2.1.length:Int)) then true else decide (200<(e.2.2.2.2.size:Int))
def Y5 (e:Ev):Bool:=bif Jfn e then false else e.2.2.1.all fun s=> !decide (40<(s.size:Int))
def Zf (l:List Ev) (n:Int):Bool:=bif decide (n<(l.length:Int)) then false else l.all Y5
def J5c:Con:={args:=[.val false (.list 37 sEv),aI],ress:=[Bo],owns:=[],pre:=fun(_,n,_)=>[n≤1000000],spec:=fun(l,n,_)=>(Zf l n,())}
abbrev Jw1 (l:List Ev) (n:Int):Nat→Option Ann:=fun id=>if id=0 then some {X:=Nat,σ:=fun k=>⟨1,[(0, .one (.sl 0)),(5, .one (.int .i64 k))],[(0, .imm 37 sEv l)]⟩,inv:=fun k=>k≤l.length∧(l.drop k).all Y5=l.all Y5,mu:=fun k=>l.length-k}
 else if id=2 then some {X:=Nat×Nat,σ:=fun(k,j)=>⟨1,[(0, .one (.sl 0)),(5, .one (.int .i64 k)),(6, .one (.int .i64 j))],[(0, .imm 37 sEv l)]⟩,inv:=fun(k,j)=>k<l.length∧j≤(l.getD k ev0).2.2.1.length∧(l.getD k ev0).2.2.1.length≤6∧(bif (((l.getD k ev0).2.2.1.drop j).all fun s=> !decide (40<(s.size:Int))) then(l.drop (k+1)).all Y5 else false)=l.all Y5,mu:=fun(k,j)=>(l.getD k ev0).2.2.1.length-j,rel:=some fun x0 x=>x0.1=x.1} else none
def J85 (a:List Ev) (b:Nat×Nat):=List.length (List.getD a b.1 ev0).2.2.1
def Kea (a:Nat) (b:List Ev):=a≤List.length b∧List.all (List.drop a b) Y5=List.all b Y5
def Ksb (a:List Ev) (b:Nat×Nat):=Ln (List.getD a b.1 H2).2.2.1
def Krm (a:List Ev) (b:Nat):=decide (40<Nc (ByteArray.size (J13 a b)))
def Knv (a:List Ev) (b:Nat):=bif Krm a b then true else decide (6<Ln (Jxe a b).1)
def Knb (a:List Ev) (b:Nat):=bif Knv a b then true else decide (8<Ln (Jxd a b).1)
def Km9 (a:Nat×Nat) (b:List Ev):=a.1<List.length b∧a.2≤J85 b a∧J85 b a≤6∧(bif List.all (List.drop a.2 (List.getD b a.1 ev0).2.2.1) fun(s:ByteArray)=> !decide (40<Nc (ByteArray.size s)) then List.all (List.drop (a.1+1) b) Y5 else false)=List.all b Y5
def Km4 (a:Nat×Nat) (b:List Ev) (c:Nat×Nat):=Km9 a b∧c.1=a.1
theorem ok4:Ok Tryz.prog 4 J5c:=okW Kue Tryz.f4 (fun xx=>Jw1 xx.1 xx.2.1) fun xx=>by
 obtain⟨(l:List Ev),(n:Int),_⟩:=xx
 refine(by kernel_rfl:(n≤1000000→Br (decide (n<Ln l)) (false=Zf l n) (∃(x:Nat),(0=Nc x∧l=l)∧Kea x l∧∀(x:Nat),Kea x l→Br (decide (Nc x<Ln l)) (T2 (Z17 x l) (T2 (Krm l x=false→Z17 x l) (T2 (Knv l x=false→Z17 x l) (Tw (Knb l x=false→Z17 x l))))∧Br (bif Knb l x then true else decide (200<Nc (ByteArray.size (J8p l x)))) (false=Zf l n) (∃(x0:Nat×Nat),(Nc x=Nc x0.1∧0=Nc x0.2∧l=l)∧(Km9 x0 l∧x0.1=x0.1)∧∀(x_1:Nat×Nat),Km4 x_1 l x0→Tw (Bd (Nc x_1.1) (Ln l))∧Br (decide (Nc x_1.2<Ksb l x_1)) (T2 (Bd (Nc x_1.1) (Ln l)) (Tw (Bd (Nc x_1.2) (Ksb l x_1)))∧Br (decide (40<Nc (ByteArray.size (List.getD (List.getD l x_1.1 H2).2.2.1 x_1.2 B0)))) (false=Zf l n) (Iw (Nc x_1.2+1)∧∃(y:Nat×Nat),(Nc x_1.1=Nc y.1∧Nc x_1.2+1=Nc y.2∧l=l)∧Km4 y l x0∧J85 l y-y.2<J85 l x_1-x_1.2)) (Iw (Nc x_1.1+1)∧∃(y:Nat),(Nc x_1.1+1=Nc y∧l=l)∧Kea y l∧List.length l-y<List.length l-x))) (true=Zf l n)))=_).mp ?_
 delta Z17 J85 H2 J3u Jxe J13 Jxd J8p Kea Ksb Krm Knv Knb Km9 Km4 Br Iw Bd T2 Tw Ln Nc B0
 intro hn
 refine⟨fun h=> ?_,fun h=>⟨(0:Nat),by simp,⟨Nat.zero_le _,rfl⟩,fun(k:Nat) hk=>⟨fun h1=> ?_,fun h1=> ?_⟩⟩⟩
 ·unfold Zf;rw[h];rfl
 ·have hsh:Zf l n=l.all Y5:=by unfold Zf;rw[h];rfl
  obtain⟨k1,k2⟩:=hk
  have hlt:k<l.length:=by simpa using h1
  have hn2:(l.length:Int)≤n:=by have:=of_decide_eq_false h;omega
  rw[Jo (d:=ev0) hlt,List.all_cons] at k2
  have hz:((0:Int),({data:={toList:=[]}}:ByteArray),([]:List ByteArray),([]:List Int),({data:={toList:=[]}}:ByteArray))=ev0:=rfl
  have hx:((0:Int)≤(k:Int)∧(k:Int)<(l.length:Int))=True:=eq_true (by omega)
  simp only[hz,hx,implies_true,true_and,and_true]
  refine⟨fun h2=> ?_,fun h2=> ?_⟩
  ·have h2:Y5 (l.getD k ev0)=false:=by unfold Y5;rw[show Jfn (l.getD k ev0)=true from h2];rfl
   rw[h2] at k2
   rw[hsh,←k2];rfl
  ·have h2:Jfn (l.getD k ev0)=false:=h2
   have h6:(l.getD k ev0).2.2.1.length≤6:=by
    unfold Jfn at h2
    cases hc:decide (6<((l.getD k ev0).2.2.1.length:Int)) with
    |false=>have:=of_decide_eq_false hc;omega
    |true=>rw[hc] at h2;simp at h2
   have hand:∀u v:Bool,(bif u then v else false)=(u&&v):=by decide
   have hsb:Y5 (l.getD k ev0)=(l.getD k ev0).2.2.1.all fun s=> !decide (40<(s.size:Int)):=by unfold Y5;rw[h2];rfl
   refine⟨(k,(0:Nat)),by simp,⟨hlt,Nat.zero_le _,h6,by rw[hand];rw[hsb] at k2;exact k2⟩,fun(x:Nat×Nat) hx=> ?_⟩
   obtain⟨k',j⟩:=x
   obtain⟨⟨j1,j2,j3,j4⟩,j5⟩:=hx
   have j5:k=k':=j5
   subst j5
   dsimp only at j1 j2 j3 j4⊢
   refine⟨by omega,fun h3=> ?_,fun h3=> ?_⟩
   ·have hj:j<(l.getD k ev0).2.2.1.length:=Int.ofNat_lt.1 (of_decide_eq_true h3)
    rw[Jo (d:=Jd) hj,List.all_cons] at j4
    refine⟨⟨by omega,by omega, ?_, ?_⟩,fun h4=> ?_,fun h4=>⟨?_,(k,j+1),⟨rfl,by simp⟩,⟨⟨hlt,by dsimp only;omega,j3, ?_⟩,rfl⟩, ?_⟩⟩
    ·exact⟨by omega,Int.ofNat_lt.2 hj⟩
    ·exact⟨by omega,Int.ofNat_lt.2 hj⟩
    ·have h4:decide (40<(((l.getD k ev0).2.2.1.getD j Jd).size:Int))=true:=h4
     rw[h4] at j4
     rw[hsh,←j4];rfl
    ·omega
    ·have h4:decide (40<(((l.getD k ev0).2.2.1.getD j Jd).size:Int))=false:=h4
     rw[h4] at j4
     exact j4
    ·dsimp only;omega
   ·have hj:¬j<(l.getD k ev0).2.2.1.length:=fun q=>of_decide_eq_false h3 (Int.ofNat_lt.2 q)
    rw[List.drop_eq_nil_of_le (by omega)] at j4
    exact⟨by omega,(k+1:Nat),by simp,⟨by omega,j4⟩,by omega⟩
 ·have hsh:Zf l n=l.all Y5:=by unfold Zf;rw[h];rfl
  obtain⟨k1,k2⟩:=hk
  have hlt:¬k<l.length:=by simpa using h1
  rw[List.drop_eq_nil_of_le (by omega)] at k2
  rw[hsh,←k2];rfl
abbrev Kyf:=Kue.add ok4
theorem Jwd {k:ByteArray} (h:V4 k=false):(X6 k).2.2=false:=by
 have hne:∀w:ByteArray,V4 w=true→(k.toList==w.toList)=false:=fun w hw=>by
  cases hc:k.toList==w.toList with
  |false=>rfl
  |true=>
   have:=Y3 hc
   subst this
   rw[hw] at h;cases h
 unfold X6
 rw[hne Ju (by kernel_rfl),hne Kx (by kernel_rfl),hne Ke (by kernel_rfl),hne Ks (by kernel_rfl),hne Vj (by kernel_rfl),hne Jz (by kernel_rfl),hne Jw (by kernel_rfl),hne Kj (by kernel_rfl),hne Ki (by kernel_rfl),hne Jh (by kernel_rfl),hne J0 (by kernel_rfl)]
 rfl
theorem Jk2 {k:ByteArray} (h:V4 k=true):(X6 k).2.2=true∧(X6 k).1.size=(Jj k).1.length∧(X6 k).2.1=(Jj k).2.1:=by
 rcases U3 h with h|h|h|h|h|h|h|h|h|h|h<;>subst h
 all_goals exact⟨by kernel_rfl,by kernel_rfl,by kernel_rfl⟩
def J5 (k:ByteArray):ByteArray×Int×Bool:=X6 k
def J5x:Con:={args:=[aS],ress:=[(true,J4o)],owns:=[],pre:=fun _=>[],spec:=fun(k,_)=>(J5 k,())}
theorem J4w:Ok Tryz.prog 45 J5x:=Kti
abbrev Kud:=Kyf.add J4w
def ckN (ns:List ByteArray):Int:=Jg (ns.map fun s=>bif Vk s then 0 else 8)
def ckV (vs:List Int):Int:=Jg (vs.map fun n=>Jp n 0 999999999)
theorem Jhe (t:ByteArray):(t.toList==Jd.toList)= !decide (0<t.size):=by
 cases h:t.toList==Jd.toList with
 |true=>have:=Y3 h;subst this;rfl
 | false =>
  have:0<t.size:=Nat.pos_of_ne_zero fun h0=>by
   have e:t.data.toList=[]:=List.eq_nil_of_length_eq_zero h0
   rw[Lib.toList_data,Lib.toList_data,e] at h
   exact nomatch (show true=false from h)
  rw[decide_eq_true this];rfl
theorem V5 (x:Int) (l:List Int):Jg (x::l)=if x=0 then Jg l else x:=rfl
def J6b:Con:={args:=[aEv],ress:=[I],owns:=[],pre:=fun(e,_)=>[e.2.2.1.length≤1000000,e.2.2.2.1.length≤1000000,∀s∈e.2.2.1,s.size≤1000000],spec:=fun(e,_)=>(Ja e,())}
abbrev Ki5 (n:Int) (k:ByteArray) (ns:List ByteArray) (vs:List Int) (t:ByteArray):Nat→Option Ann:=fun id=>if id=0 then some {X:=Nat,σ:=fun i=>⟨4,[(1, .one (.ptr 2 0)),(3, .one (.ptr 3 0)),(4, .one (.int .i64 i))],[(2, .box 37 [.int .i64 n, .str k, .sl 0, .sl 1, .str t]),(3, .box 130 [.str (J5 k).1, .int .i64 (J5 k).2.1, .bool (J5 k).2.2]),(0, .imm 9 .str ns),(1, .imm 3 sI vs)]⟩,inv:=fun i=>i≤ns.length∧ckN (ns.drop i)=ckN ns,mu:=fun i=>ns.length-i}
 else if id=2 then some {X:=Nat,σ:=fun i=>⟨4,[(1, .one (.ptr 2 0)),(3, .one (.ptr 3 0)),(5, .one (.int .i64 i))],[(2, .box 37 [.int .i64 n, .str k, .sl 0, .sl 1, .str t]),(3, .box 130 [.str (J5 k).1, .int .i64 (J5 k).2.1, .bool (J5 k).2.2]),(0, .imm 9 .str ns),(1, .imm 3 sI vs)]⟩,inv:=fun i=>i≤vs.length∧ckV (vs.drop i)=ckV vs,mu:=fun i=>vs.length-i}
 else none
def Z15 (a:Bt):=Nc (ByteArray.size (J5 a).1)
def Kew (a:Nat) (b:Li):=a≤List.length b∧ckV (List.drop a b)=ckV b
def Keo (a:Nat) (b:Ls):=a≤List.length b∧ckN (List.drop a b)=ckN b
def Ko5 (a:Int) (b c:Bt) (d:Ls) (e:Li):=Si a (Sf b (Sf c (Sf (J5 b).1 (Si (J5 b).2.1 (Sf (J5 b).2.2 (Sf d (e=e)))))))
def Kot (a:Nat) (b:Int) (c d:Bt) (e:Ls) (f:Li):=0=Nc a∧Ko5 b c d e f
def Kol (a b:Nat) (c:Int) (d e:Bt) (f:Ls) (g:Li):=Z93 a b∧Ko5 c d e f g
theorem Kxa:Ok Tryz.prog 21 J6b:=okW Kud Tryz.f21 (fun xx=>Ki5 xx.1.1 xx.1.2.1 xx.1.2.2.1 xx.1.2.2.2.1 xx.1.2.2.2.2) fun xx=>by
 obtain⟨⟨(n:Int),(k:ByteArray),(ns:List ByteArray),(vs:List Int),(t:ByteArray)⟩,_⟩:=xx
 refine(by kernel_rfl:(Hw ns→Z55 vs→Jau ns→Br (Y2 n 1 1000) (3=Z63 n k ns vs t) (Br (!(J5 k).2.2) (13=Z63 n k ns vs t) (Br (bif Ln ns !=Z15 k then true else Ln vs !=(J5 k).2.1) (2=Z63 n k ns vs t) (∃(x:Nat),Kot x n k t ns vs∧Keo x ns∧∀(x:Nat),Keo x ns→Br (decide (Nc x<Z15 k)) (T2 (Z79 x ns) (ByteArray.size (Z28 ns x)≤1000000)∧Br (!Vk (Z28 ns x)) (8=Z63 n k ns vs t) (Z25 x∧∃(y:Nat),Kol x y n k t ns vs∧Keo y ns∧J33 ns y x)) (∃(x:Nat),Kot x n k t ns vs∧Kew x vs∧∀(x:Nat),Kew x vs→Br (decide (Nc x<(J5 k).2.1)) (Z82 x vs∧Br (Y2 (Z21 vs x) 0 999999999) (3=Z63 n k ns vs t) (Z25 x∧∃(y:Nat),Kol x y n k t ns vs∧Kew y vs∧Jt9 vs y x)) (Br (!Lb t B0) (1=Z63 n k ns vs t) (0=Z63 n k ns vs t)))))))=_).mp ?_
 delta Z15 Z21 Z25 Z28 Z55 Z63 Z79 Z82 Z93 Hw Jt9 J33 Kew Jcd Keo Jau Ko5 Kot Kol Br Iw Bd T2 Tw Sf Si Ln Nc B0 Lb
 intro h1 h2 h3
 have hE1:Jp n 1 1000=bif Y2 n 1 1000 then 3 else 0:=rfl
 have hQ:J5 k=X6 k:=rfl
 refine⟨fun h=> ?_,fun h=>⟨fun h4=> ?_,fun h4=> ?_⟩⟩
 ·have e:Jp n 1 1000=3:=by rw[hE1,h];rfl
  unfold Ja
  rw[if_pos (by dsimp only;rw[e];decide),e]
 ·have e:Jp n 1 1000=0:=by rw[hE1,h];rfl
  have hk:V4 k=false:=by
   cases hk:V4 k with
   |false=>rfl
   |true=>
    have:=(Jk2 hk).1
    have h4:(!(X6 k).2.2)=true:=h4
    rw[this] at h4;cases h4
  unfold Ja
  rw[if_neg (by dsimp only;rw[e];decide)]
  dsimp only
  rw[hk];rfl
 have e:Jp n 1 1000=0:=by rw[hE1,h];rfl
 have hk:V4 k=true:=by
  cases hk:V4 k with
  |true=>rfl
  |false=>
   have:=Jwd hk
   have h4:(!(X6 k).2.2)=false:=h4
   rw[this] at h4;cases h4
 obtain⟨f1,f2,f3⟩:=Jk2 hk
 rw[←hQ] at f1 f2 f3
 have hc:Ja (n,k,ns,vs,t)=if ns.length=(Jj k).1.length∧(vs.length:Int)=(Jj k).2.1 then Jg [ckN ns,ckV vs,bif decide (0<t.size) then 1 else 0] else 2:=by
  unfold Ja
  rw[if_neg (by dsimp only;rw[e];decide)]
  dsimp only
  rw[hk,cond_true];rfl
 refine⟨fun h5=> ?_,fun h5=> ?_⟩
 ·rw[hc,if_neg fun q=> ?_]
  have a1:((ns.length:Int) !=((J5 k).1.size:Int))=false:=bne_eq_false_iff_eq.2 (by rw[f2];exact congrArg _ q.1)
  have a2:((vs.length:Int) !=(J5 k).2.1)=false:=bne_eq_false_iff_eq.2 (by rw[f3];exact q.2)
  have h5:(bif (ns.length:Int) !=((J5 k).1.size:Int) then true else(vs.length:Int) !=(J5 k).2.1)=true:=h5
  rw[a1,a2] at h5;cases h5
 have h5:(bif (ns.length:Int) !=((J5 k).1.size:Int) then true else(vs.length:Int) !=(J5 k).2.1)=false:=h5
 have a:=bn1 h5
 have a1:(ns.length:Int)=((J5 k).1.size:Int):=bne_eq_false_iff_eq.1 a.1
 have a2:(vs.length:Int)=(J5 k).2.1:=bne_eq_false_iff_eq.1 a.2
 rw[if_pos ⟨by rw[f2] at a1;omega,by rw[a2,f3]⟩] at hc
 refine⟨(0:Nat),by simp,⟨Nat.zero_le _,rfl⟩,fun(i:Nat) hi=>⟨fun h6=> ?_,fun h6=> ?_⟩⟩
 ·have h6:(i:Int)<((J5 k).1.size:Int):=of_decide_eq_true h6
  have hlt:i<ns.length:=by omega
  have hN:ckN (ns.drop i)=if(bif Vk (ns.getD i Jd) then(0:Int) else 8)=0 then ckN (ns.drop (i+1)) else bif Vk (ns.getD i Jd) then 0 else 8:=by
   rw[Jo (d:=Jd) hlt]
   exact V5 _ _
  refine⟨⟨by omega,by omega,h3 _ (Je hlt)⟩,fun h7=> ?_,fun h7=>⟨by omega,(i+1:Nat),by simp,⟨by omega, ?_⟩,by omega⟩⟩
  ·have h7:(!Vk (ns.getD i Jd))=true:=h7
   have h7:Vk (ns.getD i Jd)=false:=by simpa using h7
   rw[h7] at hN
   have:ckN ns=8:=by rw[←hi.2,hN];rfl
   rw[hc,V5,this];rfl
  ·have h7:(!Vk (ns.getD i Jd))=false:=h7
   have h7:Vk (ns.getD i Jd)=true:=by simpa using h7
   rw[h7] at hN
   rw[←hi.2,hN];rfl
 ·have h6:¬(i:Int)<((J5 k).1.size:Int):=of_decide_eq_false h6
  have hN:ckN ns=0:=by rw[←hi.2,List.drop_eq_nil_of_le (by omega)];rfl
  refine⟨(0:Nat),by simp,⟨Nat.zero_le _,rfl⟩,fun(j:Nat) hj=>⟨fun h8=> ?_,fun h8=> ?_⟩⟩
  ·have h8:(j:Int)<(J5 k).2.1:=of_decide_eq_true h8
   have hlt:j<vs.length:=by omega
   have hV:ckV (vs.drop j)=if Jp (vs.getD j 0) 0 999999999=0 then ckV (vs.drop (j+1)) else Jp (vs.getD j 0) 0 999999999:=by
    rw[Jo (d:=(0:Int)) hlt]
    exact V5 _ _
   have hW:Jp (vs.getD j 0) 0 999999999=bif Y2 (vs.getD j 0) 0 999999999 then 3 else 0:=rfl
   refine⟨by omega,fun h7=> ?_,fun h7=>⟨by omega,(j+1:Nat),by simp,⟨by omega, ?_⟩,by omega⟩⟩
   ·rw[hW,h7] at hV
    have:ckV vs=3:=by rw[←hj.2,hV];rfl
    rw[hc,V5,hN,if_pos rfl,V5,this];rfl
   ·rw[hW,h7] at hV
    rw[←hj.2,hV];rfl
  ·have h8:¬(j:Int)<(J5 k).2.1:=of_decide_eq_false h8
   have hV:ckV vs=0:=by rw[←hj.2,List.drop_eq_nil_of_le (by omega)];rfl
   have hz:(t.toList==({data:={toList:=[]}}:ByteArray).toList)= !decide (0<t.size):=Jhe t
   rw[hz,hc,V5,hN,if_pos rfl,V5,hV,if_pos rfl]
   cases decide (0<t.size)
   ·exact⟨fun h=>(nomatch h),fun _=>rfl⟩
   ·exact⟨fun _=>rfl,fun h=>(nomatch h)⟩
abbrev Kuc:=Kud.add Kxa
theorem Jfu (e:Ev):(Ku e).data.toList=(J4m e.1).data.toList++32::Lib.join ((e.2.1::(e.2.2.1++e.2.2.2.1.map Yf)).map (·.data.toList)) [32]:=by
 show(Lib.join ((Yf e.1::e.2.1::(e.2.2.1++e.2.2.2.1.map Yf)).map (·.data.toList)) [32]).toArray.toList=_
 rw[List.toList_toArray]
 simp[Lib.join,List.intercalate]
 rfl
def emB (w:ByteArray):Bool:=w.toList==Jd.toList
def dgB (w:ByteArray):Bool:=(Jy w).2
def dgN (w:ByteArray):Int:=(Jy w).1
theorem F7 {w:ByteArray} {l:List ByteArray} {b:Bool} (h:emB w=false):K8 (w::l,b)=(w,l,b):=by
 show(bif emB w then _ else _)=_
 rw[h];rfl
theorem Jck:∀(n:Nat) (l:List ByteArray) (b:Bool) (o:List ByteArray),n≤l.length→(∀w∈l.take n,emB w=false)→Yd n (l,b) o=(o++l.take n,l.drop n,b)
 |0,_,_,_,_,_=>by simp[Yd]
 |n+1,[],_,_,h,_=>by simp at h
 |n+1,w::l,b,o,h,hw=>by
  rw[Yd,F7 (hw w (by simp))]
  have:=Jck n l b (o++[w]) (by simpa using h) fun v hv=>hw v (by simp[hv])
  rw[this];simp
theorem J42 {w:ByteArray} (h:dgB w=true):emB w=false:=by
 cases q:emB w with
 |false=>rfl
 |true=>
  have:=Y3 q
  subst this
  exact absurd h (by decide+kernel)
theorem Joc {w:ByteArray} {l:List ByteArray} (h:dgB w=true):Jqd (w::l,false)=(dgN w,l,false):=by
 unfold Jqd
 rw[F7 (J42 h)]
 show(_,_,bif false then true else !dgB w)=_
 rw[h];rfl
theorem Jcj:∀(n:Nat) (l:List ByteArray) (o:List Int),n≤l.length→(∀w∈l.take n,dgB w=true)→Xh n (l,false) o=(o++(l.take n).map dgN,l.drop n,false)
 |0,_,_,_,_=>by simp[Xh]
 |n+1,[],_,h,_=>by simp at h
 |n+1,w::l,o,h,hw=>by
  rw[Xh,Joc (hw w (by simp))]
  have:=Jcj n l (o++[dgN w]) (by simpa using h) fun v hv=>hw v (by simp[hv])
  rw[this];simp
theorem Jz0 {k:ByteArray} (h:V4 k=true):emB k=false:=by
 cases q:emB k with
 |false=>rfl
 |true=>
  have:=Y3 q
  subst this
  exact absurd h (by rw[show V4 Jd=false by kernel_rfl];simp)
def nrK (k:ByteArray):Nat:=(Jj k).1.length
def nvK (k:ByteArray):Nat:=(Jj k).2.1.toNat
def Jy6 (w0:ByteArray) (l:List ByteArray):Prop:=l.length=nrK w0+nvK w0∧(∀w∈l.take (nrK w0),emB w=false)∧∀w∈l.drop (nrK w0),dgB w=true
theorem Jre {w0:ByteArray} (hk:V4 w0=true) (l:List ByteArray):Xn (w0::l)=((0,w0,(Yd (nrK w0) (l,false) []).1,(Xh (nvK w0) (Yd (nrK w0) (l,false) []).2 []).1,Jd),bif !(Xh (nvK w0) (Yd (nrK w0) (l,false) []).2 []).2.2 then((Xh (nvK w0) (Yd (nrK w0) (l,false) []).2 []).2.1.length:Int)==0 else false):=by
 have e:K8 (w0::l,false)=(w0,l,false):=F7 (Jz0 hk)
 unfold Xn Fl Y6
 rw[e,hk];rfl
theorem Jrd {w0:ByteArray} (hk:V4 w0=true) {l:List ByteArray} (h:Jy6 w0 l):Xn (w0::l)=((0,w0,l.take (nrK w0),(l.drop (nrK w0)).map dgN,Jd),true):=by
 obtain⟨h1,h2,h3⟩:=h
 have e1:Yd (nrK w0) (l,false) []=(l.take (nrK w0),l.drop (nrK w0),false):=by
  rw[Jck _ _ _ _ (by omega) h2];rfl
 have e2:Xh (nvK w0) (l.drop (nrK w0),false) []=((l.drop (nrK w0)).map dgN,[],false):=by
  have e3:(l.drop (nrK w0)).drop (nvK w0)=[]:=List.drop_eq_nil_of_le (by rw[List.length_drop];omega)
  rw[Jcj _ _ _ (by rw[List.length_drop];omega) (fun w hw=>h3 w (List.mem_of_mem_take hw)),List.take_of_length_le (by rw[List.length_drop];omega),e3];rfl
 rw[Jre hk,e1,e2];rfl
theorem Jx6 {c:UInt8}:∀{l:List UInt8} {k:Nat},c∉l.take k→k<l.length→l.getD k 0=c→Jew c l=true∧H1 c l=l.take k∧F3 c l=l.drop (k+1)
 |[],_,_,h,_=>by simp at h
 |b::r,0,_,_,h=>by
  have h:b=c:=h
  unfold Jew H1 F3
  rw[if_pos h,if_pos h,if_pos h]
  exact⟨rfl,rfl,rfl⟩
 |b::r,k+1,h,hl,hg=>by
  rw[List.take_succ_cons,List.mem_cons,not_or] at h
  have ih:=Jx6 (l:=r) (k:=k) h.2 (by simpa using hl) (by simpa using hg)
  have hb:¬b=c:=fun q=>h.1 q.symm
  unfold Jew H1 F3
  rw[if_neg hb,if_neg hb,if_neg hb,ih.1,ih.2.1,ih.2.2]
  exact⟨rfl,rfl,rfl⟩
theorem Jx5 {c:UInt8}:∀{l:List UInt8},c∉l→Jew c l=false
 |[],_=>rfl
 |b::r,h=>by
  rw[List.mem_cons,not_or] at h
  unfold Jew
  rw[if_neg fun q=>h.1 q.symm]
  exact Jx5 h.2
def Jga (c:Int):Int:=bif c==115 then 0 else bif c==111 then 1 else bif c==120 then 2 else 3
def Jih (b:UInt8):Int×Bool:=bif decide ((97:Int)≤(b.toNat:Int)) then(Jga b.toNat,true) else(Jga (b.toNat+97-65),false)
theorem Jyd (r:Reg) (c:Int) (s:ByteArray):Ze r (Jga c) s=decide (0≤atS r c s):=by
 unfold atS Jga
 cases h1:c==115 with
 |true=>rfl
 | false =>
  cases h2:c==111 with
  |true=>rfl
  |false=>
   cases h3:c==120 with
   |true=>rfl
   |false=>rfl
theorem Jo2 {k:ByteArray} (h:V4 k=true):(Jj k).1=(J5 k).1.data.toList.map Jih∧((Jj k).1.drop 1).all (fun x=>x.2)=true:=by
 rcases U3 h with h|h|h|h|h|h|h|h|h|h|h<;>subst h
 all_goals exact⟨by kernel_rfl,by kernel_rfl⟩
theorem Jch {r:Reg} {ns:List ByteArray}:∀{l:List (Int×Bool)} {i:Nat},l.all (fun x=>x.2)=true→Kp r ns l i=false
 |[],_,_=>rfl
 |(w,b)::l,i,h=>by
  rw[List.all_cons,Bool.and_eq_true] at h
  have hb:b=true:=h.1
  subst hb
  unfold Kp
  exact Jch h.2
def Jn (r:Reg) (k:ByteArray) (ns:List ByteArray):Int:=bif Kd r ns (Jj k).1 0 then 10 else bif Kp r ns (Jj k).1 0 then 9 else 0
def J5k:Con:={args:=[Y9,aEv],ress:=[I],owns:=[],pre:=fun(r,e,_)=>[Js r,V4 e.2.1=true,e.2.2.1.length=(Jj e.2.1).1.length],spec:=fun(r,e,_)=>(Jn r e.2.1 e.2.2.1,())}
abbrev J6q (tk st:Int) (S:List Sta) (O:List Ord) (M:List Met) (X:List Out) (Q:List Per) (n:Int) (k:ByteArray) (ns:List ByteArray) (vs:List Int) (tx:ByteArray):Ann:={X:=Nat,σ:=fun i=>⟨9,[(2, .one (.ptr 7 0)),(3, .one (.ptr 8 0)),(5, .one (.str (J5 k).1)),(6, .one (.int .i64 i))],[(0, .imm 98 Xc S),(1, .imm 102 Yn O),(2, .imm 104 Xx M),(3, .imm 106 Xi X),(4, .imm 108 Yv Q),(5, .imm 9 .str ns),(6, .imm 3 sI vs),(7, .box 31 [.int .i64 tk, .int .i64 st, .sl 0, .sl 1, .sl 2, .sl 3, .sl 4]),(8, .box 37 [.int .i64 n, .str k, .sl 5, .sl 6, .str tx])]⟩,inv:=fun i=>i≤(J5 k).1.size∧Kd (tk,st,S,O,M,X,Q) ns ((Jj k).1.drop i) i=Kd (tk,st,S,O,M,X,Q) ns (Jj k).1 0,mu:=fun i=>(J5 k).1.size-i}
def Ksn (a:Bt):=Nc (UInt8.toNat (List.getD (J5 a).1.data.toList 0 0))
def Kr3 (a:Bt) (b:Nat):=decide (97≤Nc (UInt8.toNat (List.getD (J5 a).1.data.toList b 0)))
def Kc9 (a:Bt) (b:Nat):=Kr3 a b=true
def Ko0 (a:Bt):=bif decide (0<Z15 a) then decide (Ksn a<97) else false
def Kbd (a:Bt):=Ko0 a=true
def Kbb (a:Nat) (b:Bt) (c d:Int) (e:List Sta) (f:List Ord) (g:List Met) (h:List Out) (i:List Per) (j:Ls):=a≤ByteArray.size (J5 b).1∧Kd (Z62 c d e f g h i) j (List.drop a (Jj b).1) a=Kd (Z62 c d e f g h i) j (Jj b).1 0
theorem Kwq:Ok Tryz.prog 47 J5k:=okW Kuc Tryz.f47 (fun xx=>Ho (J6q xx.1.1 xx.1.2.1 xx.1.2.2.1 xx.1.2.2.2.1 xx.1.2.2.2.2.1 xx.1.2.2.2.2.2.1 xx.1.2.2.2.2.2.2 xx.2.1.1 xx.2.1.2.1 xx.2.1.2.2.1 xx.2.1.2.2.2.1 xx.2.1.2.2.2.2)) fun xx=>by
 obtain⟨⟨(tk:Int),(st:Int),(S:List Sta),(O:List Ord),(M:List Met),(X:List Out),(Q:List Per)⟩,⟨(n:Int),(k:ByteArray),(ns:List ByteArray),(vs:List Int),(tx:ByteArray)⟩,_⟩:=xx
 refine(by kernel_rfl:(Kf tk st S O M X Q→V4 k=true→List.length ns=List.length (Jj k).1→∃(x:Nat),Sf (J5 k).1 (0=Nc x∧Sf S (Sf O (Sf M (Sf X (Sf Q (Sf ns (Sf vs (Si tk (Si st (Si n (Sf k (tx=tx))))))))))))∧Kbb x k tk st S O M X Q ns∧∀(x:Nat),Kbb x k tk st S O M X Q ns→Br (decide (Nc x<Z15 k)) ((Bd (Nc x) (Z15 k)∧(Kc9 k x→Bd (Nc x) (Z15 k))∧T2 (Kc9 k x→Z79 x ns) (Kc9 k x→Kf tk st S O M X Q))∧Br (bif Kr3 k x then decide (atS (Z62 tk st S O M X Q) (Nc (UInt8.toNat (List.getD (J5 k).1.data.toList x 0))) (Z28 ns x)<0) else false) (10=Jn (Z62 tk st S O M X Q) k ns) (Z25 x∧∃(y:Nat),Sf (J5 k).1 (Z93 x y∧Sf S (Sf O (Sf M (Sf X (Sf Q (Sf ns (Sf vs (Si tk (Si st (Si n (Sf k (tx=tx))))))))))))∧Kbb y k tk st S O M X Q ns∧ByteArray.size (J5 k).1-y<ByteArray.size (J5 k).1-x)) (((decide (0<Z15 k)=true→Bd 0 (Z15 k))∧(Kbd k→Bd 0 (Z15 k))∧T2 (Kbd k→Vl ns) (Kbd k→Kf tk st S O M X Q))∧Br (bif Ko0 k then decide (0≤atS (Z62 tk st S O M X Q) (IntKind.wrap IntKind.u8 (IntKind.wrap IntKind.u8 (Ksn k+97)-65)) (Z99 ns)) else false) (9=Jn (Z62 tk st S O M X Q) k ns) (0=Jn (Z62 tk st S O M X Q) k ns)))=_).mp ?_
 delta Z15 Z25 Z28 Z62 Z79 Z93 Z99 Vl Kf Ksn Kr3 Kc9 Ko0 Kbd Kbb Br Iw Bd T2 Sf Si Ln Nc B0
 intro hr hk hn
 obtain⟨f1,f2,f3⟩:=Jk2 hk
 have f2:(J5 k).1.size=(Jj k).1.length:=f2
 obtain⟨fr,fk⟩:=Jo2 hk
 have hB:=Jae k
 have hfl:(J5 k).1.data.toList.length=(J5 k).1.size:=rfl
 have hb0:∀i,i<(J5 k).1.size→(Jj k).1.getD i (0,false)=Jih ((J5 k).1.data.toList.getD i 0):=fun i hi=>by
  rw[fr,List.getD_eq_getElem?_getD,List.getElem?_map,List.getD_eq_getElem?_getD]
  rw[List.getElem?_eq_getElem (by omega)];rfl
 refine⟨(0:Nat),by simp,⟨Nat.zero_le _,rfl⟩,fun(i:Nat) hi=>⟨fun h1=> ?_,fun h1=> ?_⟩⟩
 ·have hlt:i<(J5 k).1.size:=by simpa using h1
  have h0:=hi.2
  rw[Jo (d:=((0:Int),false)) (by omega),hb0 i hlt] at h0
  have hu:Kd (tk,st,S,O,M,X,Q) ns (Jih ((J5 k).1.data.toList.getD i 0)::(Jj k).1.drop (i+1)) i=bif (bif decide (97≤(((J5 k).1.data.toList.getD i 0).toNat:Int)) then decide (atS (tk,st,S,O,M,X,Q) (((J5 k).1.data.toList.getD i 0).toNat:Int) (ns.getD i Jd)<0) else false) then true else Kd (tk,st,S,O,M,X,Q) ns ((Jj k).1.drop (i+1)) (i+1):=by
   unfold Jih
   cases hc:decide ((97:Int)≤(((J5 k).1.data.toList.getD i 0).toNat:Int)) with
   |false=>rfl
   | true =>
    rw[cond_true,Kd,Jyd,cond_true]
    have:(!decide (0≤atS (tk,st,S,O,M,X,Q) (((J5 k).1.data.toList.getD i 0).toNat:Int) (ns.getD i Jd)))=decide (atS (tk,st,S,O,M,X,Q) (((J5 k).1.data.toList.getD i 0).toNat:Int) (ns.getD i Jd)<0):=by
     rw[Bool.eq_iff_iff];simp
    rw[this];rfl
  rw[hu] at h0
  refine⟨⟨by omega,fun _=>by omega,fun _=>by omega,fun _=>by omega,fun _=>hr⟩,fun h2=> ?_,fun h2=>⟨by omega,(i+1:Nat),by simp,⟨by omega, ?_⟩,by omega⟩⟩
  ·rw[show(bif decide (97≤(((J5 k).1.data.toList.getD i 0).toNat:Int)) then decide (atS (tk,st,S,O,M,X,Q) (((J5 k).1.data.toList.getD i 0).toNat:Int) (ns.getD i Jd)<0) else false)=true from h2,cond_true] at h0
   unfold Jn;rw[←h0];rfl
  ·rw[show(bif decide (97≤(((J5 k).1.data.toList.getD i 0).toNat:Int)) then decide (atS (tk,st,S,O,M,X,Q) (((J5 k).1.data.toList.getD i 0).toNat:Int) (ns.getD i Jd)<0) else false)=false from h2,cond_false] at h0
   exact h0
 ·have hlt:¬i<(J5 k).1.size:=by simpa using h1
  have h0:=hi.2
  rw[List.drop_eq_nil_of_le (by omega)] at h0
  have hu0:Kd (tk,st,S,O,M,X,Q) ns (Jj k).1 0=false:=h0.symm
  have hN:Jn (tk,st,S,O,M,X,Q) k ns=bif Kp (tk,st,S,O,M,X,Q) ns (Jj k).1 0 then 9 else 0:=by unfold Jn;rw[hu0];rfl
  have g0:∀{p:Prop},(bif decide ((0:Int)<((J5 k).1.size:Int)) then decide ((((J5 k).1.data.toList.getD 0 0).toNat:Int)<97) else false)=true→(J5 k).1.size≠0:=fun{p} h=>by
   intro q
   rw[q] at h
   cases h
  have hz:∀{b:Bool},(bif decide ((0:Int)<((J5 k).1.size:Int)) then b else false)=true→0<(J5 k).1.size:=fun{b} h=>by
   by_cases q:0<(J5 k).1.size
   ·exact q
   ·rw[decide_eq_false (show ¬(0:Int)<((J5 k).1.size:Int) by omega)] at h;cases h
  have key:(bif bif decide ((0:Int)<((J5 k).1.size:Int)) then decide ((((J5 k).1.data.toList.getD 0 0).toNat:Int)<97) else false then decide (0≤atS (tk,st,S,O,M,X,Q) (IntKind.u8.wrap (IntKind.u8.wrap ((((J5 k).1.data.toList.getD 0 0).toNat:Int)+97)-65)) (ns.getD 0 Jd)) else false)=Kp (tk,st,S,O,M,X,Q) ns (Jj k).1 0:=by
   by_cases q:0<(J5 k).1.size
   ·rw[decide_eq_true (show(0:Int)<((J5 k).1.size:Int) by omega),cond_true]
    have hc:=Jo (l:=(Jj k).1) (k:=0) (d:=((0:Int),false)) (by omega)
    rw[List.drop_zero,hb0 0 q] at hc
    rw[hc]
    unfold Jih
    by_cases q1:(97:Int)≤(((J5 k).1.data.toList.getD 0 0).toNat:Int)
    ·rw[decide_eq_true q1,decide_eq_false (show ¬(((J5 k).1.data.toList.getD 0 0).toNat:Int)<97 by omega)]
     exact(Jch fk).symm
    ·rw[decide_eq_false q1,decide_eq_true (show(((J5 k).1.data.toList.getD 0 0).toNat:Int)<97 by omega)]
     rw[cond_true,cond_false,Kp,Jyd,Jch fk,J4l (n:=(((J5 k).1.data.toList.getD 0 0).toNat:Int)+97) (by omega) (by omega),J4l (n:=(((J5 k).1.data.toList.getD 0 0).toNat:Int)+97-65) (by omega) (by omega)]
     show _=bif _ then true else false
     cases decide (0≤atS (tk,st,S,O,M,X,Q) ((((J5 k).1.data.toList.getD 0 0).toNat:Int)+97-65) (ns.getD 0 Jd))<;>rfl
   ·rw[decide_eq_false (show ¬(0:Int)<((J5 k).1.size:Int) by omega)]
    have:(Jj k).1=[]:=List.eq_nil_of_length_eq_zero (by omega)
    rw[this];rfl
  refine⟨⟨fun h=>⟨by decide,of_decide_eq_true h⟩,fun h=>⟨by decide,by have:=hz h;omega⟩,fun h=>⟨by decide,by have:=hz h;omega⟩,fun h=>⟨by decide,by have:=hz h;omega⟩,fun _=>hr⟩,fun h2=> ?_,fun h2=> ?_⟩
  ·rw[hN,show Kp (tk,st,S,O,M,X,Q) ns (Jj k).1 0=true from key.symm.trans h2];rfl
  ·rw[hN,show Kp (tk,st,S,O,M,X,Q) ns (Jj k).1 0=false from key.symm.trans h2];rfl
abbrev Kub:=Kuc.add Kwq
def Vs (Q:List Per) (s:ByteArray):Bool:=decide ((0:Int)<((L2 Q).filter fun p=>p.2.1.toList==s.toList).length)
theorem Jk1 (x:Per) (Q:List Per) (s:ByteArray):Vs (x::Q) s=bif (bif x.2.1.toList==s.toList then x.2.2 else false) then true else Vs Q s:=by
 unfold Vs L2
 rw[List.filter_cons]
 cases h1:x.2.2 with
 |false=>
  rw[if_neg (by simp)]
  cases(x.2.1.toList==s.toList)<;>rfl
 | true =>
  rw[if_pos rfl,List.filter_cons]
  cases h2:(x.2.1.toList==s.toList) with
  |false=>rfl
  |true=>
   rw[if_pos rfl]
   exact decide_eq_true (by simp only[List.length_cons];omega)
def J5v:Con:={args:=[Y9,aS],ress:=[Bo],owns:=[],pre:=fun((_,_,_,_,_,_,Q),_)=>[Q.length≤1000000],spec:=fun((_,_,_,_,_,_,Q),s,_)=>(Vs Q s,())}
abbrev J6p (tk st:Int) (S:List Sta) (O:List Ord) (M:List Met) (X:List Out) (Q:List Per) (s:ByteArray):Ann:={X:=Nat,σ:=fun k=>⟨6,[(1, .one (.str s)),(2, .one (.ptr 5 0)),(5, .one (.int .i64 k))],[(0, .imm 98 Xc S),(1, .imm 102 Yn O),(2, .imm 104 Xx M),(3, .imm 106 Xi X),(4, .imm 108 Yv Q),(5, .box 31 [.int .i64 tk, .int .i64 st, .sl 0, .sl 1, .sl 2, .sl 3, .sl 4])]⟩,inv:=fun k=>k≤Q.length∧Vs Q s=Vs (Q.drop k) s,mu:=fun k=>Q.length-k}
def J4i (a:List Per) (b:Nat):=(Juz a b).1
def Ken (a:Nat) (b:List Per) (c:Bt):=a≤List.length b∧Vs b c=Vs (List.drop a b) c
theorem Kvy:Ok Tryz.prog 85 J5v:=okW Kub Tryz.f85 (fun xx=>Ho (J6p xx.1.1 xx.1.2.1 xx.1.2.2.1 xx.1.2.2.2.1 xx.1.2.2.2.2.1 xx.1.2.2.2.2.2.1 xx.1.2.2.2.2.2.2 xx.2.1)) fun xx=>by
 obtain⟨⟨(tk:Int),(st:Int),(S:List Sta),(O:List Ord),(M:List Met),(X:List Out),(Q:List Per)⟩,(s:ByteArray),_⟩:=xx
 refine(by kernel_rfl:(Z49 Q→∃(x:Nat),Jun s x S O M X Q tk st∧Ken x Q s∧∀(x:Nat),Ken x Q s→Br (Jpx x Q) (T2 (Z31 x Q) (Tw (Lb (J4i Q x) s=true→Z31 x Q))∧Br (bif Lb (J4i Q x) s then(Juz Q x).2 else false) (true=Vs Q s) (Z25 x∧∃(y:Nat),Jum s x y S O M X Q tk st∧Ken y Q s∧Juu Q y x)) (false=Vs Q s))=_).mp ?_
 delta Z25 Z31 Z49 Z93 Jpx Juz J4i Juu Ken Jpe Jun Jum Br Iw Bd T2 Tw Sf Si Ln Nc B0 Lb
 intro hb
 refine⟨(0:Nat),by simp,⟨Nat.zero_le _,rfl⟩,fun(k:Nat) hk=>⟨fun h=> ?_,fun h=> ?_⟩⟩
 ·have hlt:k<Q.length:=by simpa using h
  have hd:=Jo (d:=Jip) hlt
  have h0:=hk.2
  rw[hd,Jk1] at h0
  refine⟨⟨by omega,by omega,fun _=>by omega,fun _=>by omega⟩,fun h1=> ?_,fun h1=>⟨by omega,(k+1:Nat),by simp,⟨by omega, ?_⟩,by omega⟩⟩
  ·rw[h0,show(bif (Q.getD k Jip).snd.fst.toList==s.toList then(Q.getD k Jip).snd.snd else false)=true from h1];rfl
  ·rw[h0,show(bif (Q.getD k Jip).snd.fst.toList==s.toList then(Q.getD k Jip).snd.snd else false)=false from h1];rfl
 ·have hlt:¬k<Q.length:=by simpa using h
  have:k=Q.length:=by omega
  rw[hk.2,this,List.drop_length];rfl
abbrev Kua:=Kub.add Kvy
def J6f (t a b:Int):Bool:=bif (bif decide (a<t) then true else decide (b≤a)) then true else decide (48<b-a)
def Jwt:Con:={args:=[aI, .val true Jid],ress:=[Bo],owns:=[],pre:=fun(_,s,_)=>[0≤s.1∧s.1≤999999999,0≤s.2∧s.2≤999999999],spec:=fun(t,s,_)=>(J6f t s.1 s.2,())}
theorem Kv2:Ok Tryz.prog 81 Jwt:=okW Kua Tryz.f81 na fun xx=>by
 obtain⟨(t:Int),⟨(a:Int),(b:Int)⟩,_⟩:=xx
 refine(by kernel_rfl:(J4j a→J4j b→((bif decide (a<t) then true else decide (b≤a))=false→Iw (b-a))∧(bif bif decide (a<t) then true else decide (b≤a) then true else decide (48<b-a))=J6f t a b)=_).mp ?_
 delta J4j Iw
 intro h1 h2
 exact⟨fun _=>by omega,rfl⟩
abbrev Jpi:=Kua.add Kv2
def Jaw (X:List Out):Prop:=(X.map fun x=>x.1).Nodup
theorem Jsc:∀{l:List Out} {k:Nat} {x:Out},(l.map fun x=>x.1).Nodup→x∈l→∃i,Vb (fun y:Out=>y.1.toList==x.1.toList) l k=((k+i:Nat):Int)∧i<l.length∧l.getD i Jfi=x
 |[],_,_,_,h=>by cases h
 | y :: l, k, x, hn, h => by
  rw[List.map_cons,List.nodup_cons] at hn
  unfold Vb
  by_cases q:(y.1.toList==x.1.toList)=true
  ·have q1:=Y3 q
   rw[if_pos q]
   rcases List.mem_cons.1 h with h|h
   ·exact⟨0,rfl,by simp,h.symm⟩
   ·exact absurd (q1▸List.mem_map_of_mem (f:=fun z:Out=>z.1) h) hn.1
  ·rw[if_neg q]
   rcases List.mem_cons.1 h with h|h
   ·subst h;exact absurd (beq_self_eq_true _) q
   ·obtain⟨i,h1,h2,h3⟩:=Jsc (k:=k+1) hn.2 h
    exact⟨i+1,by rw[h1];congr 1;omega,by simp;omega,h3⟩
theorem Jy9 {X:List Out} (h:Jaw X) {x:Out} (hx:x∈X):H9 X x.1=x:=by
 obtain⟨i,h1,_,h3⟩:=Jsc (k:=0) h hx
 unfold H9 Kb
 rw[h1,Nat.zero_add,Int.toNat_natCast]
 exact h3
theorem Jms {α:Type} {p:α→Bool}:∀{l:List α} {k:Nat},Vb p l k<0→∀x∈l,p x=false
 |[],_,_,x,hx=>by cases hx
 | y :: l, k, h, x, hx => by
  unfold Vb at h
  by_cases q:p y=true
  ·rw[if_pos q] at h;omega
  ·rw[if_neg q] at h
   rcases List.mem_cons.1 hx with hx|hx
   ·subst hx;simpa using q
   ·exact Jms h x hx
theorem Jn9 {X:List Out} {x:Out} (h:Jaw X) (hn:Kb X x.1<0):Jaw (X++[x]):=by
 unfold Jaw at h⊢
 rw[List.map_append,List.nodup_append]
 refine⟨h,by simp,fun a ha b hb=> ?_⟩
 obtain⟨y,hy,rfl⟩:=List.mem_map.1 ha
 have hb:b=x.1:=by simpa using hb
 subst hb
 intro e
 have:=Jms hn y hy
 rw[e,beq_self_eq_true] at this
 cases this
theorem Jy8 {X:List Out} {s:ByteArray} {v:Int} (h:Jaw X) (hf:0≤Kb X s):Jaw (Jkc X s v):=by
 unfold Jaw Jkc at*
 have hl:=K2 (l:=X) (s:=s)
 rw[List.map_set]
 have:(X.map fun x=>x.1).set (Kb X s).toNat (H9 X s).1=X.map fun x=>x.1:=by
  apply List.ext_getElem?
  intro i
  rw[List.getElem?_set]
  by_cases q:(Kb X s).toNat=i
  ·rw[if_pos q]
   subst q
   rw[if_pos (by rw[List.length_map];omega),List.getElem?_map]
   unfold H9
   rw[List.getD_eq_getElem?_getD,List.getElem?_eq_getElem (by omega)]
   rfl
  ·rw[if_neg q]
 rw[this]
 exact h
def Uu (r:Reg) (e:Ev):Int:=if decide (e.2.2.2.1.getD 0 0<r.1)=true then 22 else if Jn r e.2.1 e.2.2.1≠0 then Jn r e.2.1 e.2.2.1 else ckS r e
def V8 (r:Reg) (e:Ev):Reg:=if decide (e.2.2.2.1.getD 0 0<r.1)=true then r else if Jn r e.2.1 e.2.2.1≠0 then r else if ckS r e≠0 then(e.2.2.2.1.getD 0 0,r.2) else Jv r e
def Hu:Con:={args:=[Y9,aEv],ress:=[(true,Jie),I],owns:=[],pre:=fun(r,e,_)=>[Js r,Jaw r.2.2.2.2.2.1,r.2.2.2.2.1.length<10000,Ja e=0,(e.2.1.toList==J0.toList)=false],spec:=fun(r,e,_)=>(V8 r e,Uu r e,())}
abbrev J44:Ann:={X:=Unit,σ:=fun _=>⟨0,[],[]⟩,inv:=fun _=>True,mu:=fun _=>0,un:=7777}
abbrev Hv:Nat→Option Ann:=fun id=>if id=1000034 then some J44 else none
abbrev Xg (o:Option Ann):FuncId→Nat→Option Ann:=fun f id=>if f=49∨f=50 then(if id=1000073∨id=1000147∨id=1000195∨id=1000233∨id=1000052∨id=1000077∨id=1000097∨id=1000198 then some J44 else if id=1∨id=3 then o else none) else none
theorem Jor {r:Reg} {k:ByteArray} {ns:List ByteArray} (h:Jn r k ns=0):Kd r ns (Jj k).1 0=false∧Kp r ns (Jj k).1 0=false:=by
 unfold Jn at h
 cases h1:Kd r ns (Jj k).1 0 with
 |true=>rw[h1] at h;cases h
 |false=>
  rw[h1,cond_false] at h
  cases h2:Kp r ns (Jj k).1 0 with
  |true=>rw[h2] at h;cases h
  |false=>exact⟨rfl,rfl⟩
theorem Jnl {r:Reg} {e:Ev} (h:decide (e.2.2.2.1.getD 0 0<r.1)=true):V8 r e=r∧Uu r e=22:=by unfold V8 Uu;rw[if_pos h,if_pos h];exact⟨rfl,rfl⟩
theorem Jjo {r:Reg} {e:Ev} (h:decide (e.2.2.2.1.getD 0 0<r.1)=false) (h2:Jn r e.2.1 e.2.2.1≠0):V8 r e=r∧Uu r e=Jn r e.2.1 e.2.2.1:=by
 have a:¬decide (e.2.2.2.1.getD 0 0<r.1)=true:=by rw[h];simp
 unfold V8 Uu
 constructor
 ·rw[if_neg a,if_pos h2]
 ·rw[if_neg a,if_pos h2]
theorem J6t {r:Reg} {e:Ev} {c:Int} (h:decide (e.2.2.2.1.getD 0 0<r.1)=false) (h2:Jn r e.2.1 e.2.2.1=0) (h3:ckS r e=c) (h4:c≠0):V8 r e=(e.2.2.2.1.getD 0 0,r.2)∧Uu r e=c:=by
 have a:¬decide (e.2.2.2.1.getD 0 0<r.1)=true:=by rw[h];simp
 have b:¬Jn r e.2.1 e.2.2.1≠0:=by rw[h2];simp
 have d:ckS r e≠0:=by rw[h3];exact h4
 unfold V8 Uu
 rw[if_neg a,if_neg a,if_neg b,if_neg b,if_pos d]
 exact⟨rfl,h3⟩
theorem J6r {r:Reg} {e:Ev} (h:decide (e.2.2.2.1.getD 0 0<r.1)=false) (h2:Jn r e.2.1 e.2.2.1=0) (h3:ckS r e=0):V8 r e=Jv r e∧Uu r e=0:=by
 have a:¬decide (e.2.2.2.1.getD 0 0<r.1)=true:=by rw[h];simp
 have b:¬Jn r e.2.1 e.2.2.1≠0:=by rw[h2];simp
 have d:¬ckS r e≠0:=by rw[h3];simp
 unfold V8 Uu
 rw[if_neg a,if_neg a,if_neg b,if_neg b,if_neg d]
 exact⟨rfl,h3⟩
theorem Zm (n lo hi:Int):Jp n lo hi=bif Y2 n lo hi then 3 else 0:=rfl
theorem J6u {r:Reg} {e:Ev} (h:decide (e.2.2.2.1.getD 0 0<r.1)=false) (h2:(Jn r e.2.1 e.2.2.1 !=0)=false):Uu r e=ckS r e:=by
 have h2:Jn r e.2.1 e.2.2.1=0:=by simpa using h2
 unfold Uu
 rw[if_neg (by rw[h];simp),if_neg (by rw[h2];simp)]
theorem Ki7 {r:Reg} {e:Ev} (h:decide (e.2.2.2.1.getD 0 0<r.1)=false) (h2:(Jn r e.2.1 e.2.2.1 !=0)=false) (h3:ckS r e≠0):V8 r e=(e.2.2.2.1.getD 0 0,r.2):=by
 have h2:Jn r e.2.1 e.2.2.1=0:=by simpa using h2
 exact(J6t h h2 rfl h3).1
theorem Ki8 {r:Reg} {e:Ev} (h:decide (e.2.2.2.1.getD 0 0<r.1)=false) (h2:(Jn r e.2.1 e.2.2.1 !=0)=false) (h3:ckS r e=0):V8 r e=Jv r e:=by
 have h2:Jn r e.2.1 e.2.2.1=0:=by simpa using h2
 exact(J6r h h2 h3).1
theorem Jkz {α:Type} {p:α→Bool} {d:α}:∀{l:List α} {k:Nat},0≤Vb p l k→∃i,Vb p l k=((k+i:Nat):Int)∧p (l.getD i d)=true
 |[],k,h=>by unfold Vb at h;exact absurd h (by decide)
 | x :: l, k, h => by
  unfold Vb at h⊢
  by_cases q:p x=true
  ·rw[if_pos q];exact⟨0,rfl,q⟩
  ·rw[if_neg q] at h⊢
   obtain⟨i,h1,h2⟩:=Jkz (d:=d) h
   exact⟨i+1,by rw[h1];congr 1;omega,h2⟩
theorem Jir {X:List Out} {s:ByteArray} (h:0≤Kb X s):(H9 X s).1=s:=by
 unfold Kb at h
 obtain⟨i,h1,h2⟩:=Jkz (d:=Jfi) h
 have:H9 X s=X.getD i Jfi:=by unfold H9 Kb;rw[h1,Nat.zero_add];rfl
 rw[this]
 exact Y3 h2
theorem Khx {M:List Met} {s:ByteArray} {h:Int}:decide (0≤Ub M s h)=(Hz M s h).2:=by
 unfold Hz
 by_cases q:0≤Ub M s h
 ·rw[if_pos q,decide_eq_true q]
 ·rw[if_neg q,decide_eq_false q]
theorem Jnh {f:Int→Bool} {a:Int} {k n:Nat} (h:k<n):Jpb f (a+(k:Int)) (n-k)=bif f (a+(k:Int)) then true else Jpb f (a+((k+1:Nat):Int)) (n-(k+1)):=by
 have hj:n-k=(n-(k+1))+1:=by omega
 rw[hj,Jpb]
 have:a+(k:Int)+1=a+((k+1:Nat):Int):=by push_cast;omega
 rw[this]
theorem Jni {f:Int→Bool} {a:Int} {k n:Nat} (h:n≤k):Jpb f a (n-k)=false:=by
 have hj:n-k=0:=by omega
 rw[hj];rfl
theorem Kxm (a b p:Int):decide (min a b<p)=bif decide (a<p) then true else decide (b<p):=by
 by_cases h:a<p
 ·rw[decide_eq_true h];exact decide_eq_true (by omega)
 ·rw[decide_eq_false h,cond_false]
  by_cases h2:b<p
  ·rw[decide_eq_true h2];exact decide_eq_true (by omega)
  ·rw[decide_eq_false h2];exact decide_eq_false (by omega)
theorem Kh1 {α:Type} {l:List α} {p:α→Bool}:decide ((0:Int)<(l.filter p).length)=l.any p:=by
 induction l with
 |nil=>rfl
 |cons x l ih=>
  rw[List.filter_cons,List.any_cons]
  cases h:p x with
  |true=>rw[if_pos rfl,Bool.true_or];exact decide_eq_true (by rw[List.length_cons];omega)
  |false=>rw[if_neg (by simp),Bool.false_or];exact ih
theorem Jzy {X:List Out} {Q:List Per} {u:Int} (hu:Jaw X) (hp:∀p∈Q,0≤Kb X p.2.1):decide ((0:Int)<((L2 Q).filter fun p=>decide ((H9 X p.2.1).2.2.1.2≤u)).length)=X.any fun x=>decide (x.2.2.1.2≤u)&&Vs Q x.1:=by
 rw[Kh1,Bool.eq_iff_iff,List.any_eq_true,List.any_eq_true]
 constructor
 ·rintro⟨p,h1,h2⟩
  have hq:=Jis h1
  have h3:=hp p hq
  refine⟨H9 X p.2.1,Jrh h3, ?_⟩
  rw[h2,Bool.true_and]
  unfold Vs
  rw[Kh1,List.any_eq_true]
  exact⟨p,h1,by rw[Jir h3,beq_self_eq_true]⟩
 ·rintro⟨x,h1,h2⟩
  rw[Bool.and_eq_true] at h2
  obtain⟨h2,h3⟩:=h2
  unfold Vs at h3
  rw[Kh1,List.any_eq_true] at h3
  obtain⟨p,h4,h5⟩:=h3
  have h6:p.2.1=x.1:=Y3 h5
  exact⟨p,h4,by rw[h6,Jy9 hu h1];exact h2⟩
theorem Y7 {X:List Ord} {s:ByteArray} (h:0≤Uo X s):(Dd X s).1=s:=by
 unfold Uo at h
 obtain⟨i,h1,h2⟩:=Jkz (d:=Km) h
 have:Dd X s=X.getD i Km:=by unfold Dd Uo;rw[h1,Nat.zero_add];rfl
 rw[this]
 exact Y3 h2
section
variable {r:Reg} {e:Ev}
theorem lfT (h:decide (e.2.2.2.1.getD 0 0<r.1)=true):True∧r=V8 r e∧22=Uu r e:=⟨trivial,(Jnl h).1.symm,(Jnl h).2.symm⟩
theorem lfN (h:decide (e.2.2.2.1.getD 0 0<r.1)=false) (h2:(Jn r e.2.1 e.2.2.1 !=0)=true):True∧r=V8 r e∧Jn r e.2.1 e.2.2.1=Uu r e:=⟨trivial,(Jjo h (bne_iff_ne.mp h2)).1.symm,(Jjo h (bne_iff_ne.mp h2)).2.symm⟩
theorem lfA {c:Int} {R:Reg} (h:decide (e.2.2.2.1.getD 0 0<r.1)=false) (h2:(Jn r e.2.1 e.2.2.1 !=0)=false) (h3:ckS r e=c) (h4:(c≠0∧(e.2.2.2.1.getD 0 0,r.2)=R)∨(c=0∧Jv r e=R)):True∧R=V8 r e∧c=Uu r e:=by
 rcases h4 with⟨h4,rfl⟩|⟨rfl,rfl⟩
 ·exact⟨trivial,(Ki7 h h2 (by rw[h3];exact h4)).symm,((J6u h h2).trans h3).symm⟩
 ·exact⟨trivial,(Ki8 h h2 h3).symm,((J6u h h2).trans h3).symm⟩
theorem Juh (hr:Js r) (hc:Ja e=0):e.2.2.1.length=(Jj e.2.1).1.length∧(e.2.2.2.1.length:Int)=(Jj e.2.1).2.1∧r.2.2.1.length≤6∧r.2.2.2.1.length≤32∧r.2.2.2.2.2.1.length≤16∧r.2.2.2.2.2.2.length≤16∧∀i,i<e.2.2.2.1.length→(0≤e.2.2.2.1.getD i 0∧e.2.2.2.1.getD i 0≤999999999):=
 have hE:=J2 hc
 ⟨hE.nn,hE.nv,hr.nS,hr.nO,hr.nX,hr.nQ,fun _ hi=>hE.val _ (Je hi)⟩
theorem fcN {k ns} (a:(Jn r k ns !=0)=false):Kd r ns (Jj k).1 0=false:=(Jor (by simpa using a)).1
end
theorem Kya (a b:Bool):(a&&b)=bif a then b else false:=by cases a<;>rfl
theorem rcb:({data:={toList:=[]}}:ByteArray)=Jd:=congrArg (fun x=>x) rfl
theorem rcS (S s):List.getD S (J3 S s).toNat (Jd,0,0)=Lm S s:=congrArg (fun x=>x) rfl
theorem rcO (O s):List.getD O (Uo O s).toNat (Jd,Jd,Jd,(0,0),0,0,0)=Dd O s:=congrArg (fun x=>x) rfl
theorem rcX (X s):List.getD X (Kb X s).toNat (Jd,Jd,(0,0),0)=H9 X s:=congrArg (fun x=>x) rfl
theorem rcQ (Q s):List.getD Q (U2 Q s).toNat (Jd,Jd,false)=Jmk Q s:=congrArg (fun x=>x) rfl
set_option maxHeartbeats 20000000
def Z47 (a:List Met):=List.length a<10000
def Jf3 (a:Li) (b:Int):=decide (Z95 a<b)
def Jf2 (a:List Per):=(0+List.length a)*40≤140737488355328
def Jf1 (a:List Sta):=(0+List.length a)*32≤140737488355328
def Jf0 (a:List Out):=(0+List.length a)*56≤140737488355328
def Jfz (a:List Met):=(0+List.length a)*40≤140737488355328
def Jfy (a:List Ord):=(0+List.length a)*88≤140737488355328
def Jbt (a:Li) (b:Int) (c:List Sta) (d:List Ord) (e:List Met) (f:List Out) (g:List Per):=(Z95 a,b,c,d,e,f,g)
def Jps (a b:Int) (c:List Sta) (d:List Ord) (e:List Met) (f:List Out) (g:List Per) (h:Ls):=Kf a b c d e f g∧Sf true (List.length h=1)
variable (T:TypeId) (E C:List Ev) (G:List Reg) (tk st:Int) (S:List Sta) (O:List Ord) (M:List Met) (X:List Out) (Q:List Per) (n:Int) (ns:List ByteArray) (vs:List Int) (tx:ByteArray)
theorem Jh1:wpFG Tryz.prog Jpi.g Hv (Xg (none)) (Sx.look ([(48,Tryz.f48),(49,Tryz.f49),(50,Tryz.f50)]:List (Nat×Func))) Tryz.f22 Hu ((tk,st,S,O,M,X,Q),(n,Ju,ns,vs,tx),()):=by
 refine(by kernel_rfl:(Kf tk st S O M X Q→Jaw X→Z47 M→Ja (Z40 n ns vs tx)=0→Lb Ju J0=false→Z84 vs∧Br (Jf3 vs tk) (Sf true (Z62 tk st S O M X Q=V8 (Z62 tk st S O M X Q) (Z40 n ns vs tx)∧22=Uu (Z62 tk st S O M X Q) (Z40 n ns vs tx))) (Jps tk st S O M X Q ns∧Br (Jn (Z62 tk st S O M X Q) Ju ns !=0) (Sf true (Z62 tk st S O M X Q=V8 (Z62 tk st S O M X Q) (Z40 n ns vs tx)∧Jn (Z62 tk st S O M X Q) Ju ns=Uu (Z62 tk st S O M X Q) (Z40 n ns vs tx))) (Jf1 S∧Jfy O∧Jfz M∧Jf0 X∧Jf2 Q∧Z86 vs∧Br (Y2 (Z94 vs) 1 1000) (Z84 vs∧Sf true (Jbt vs st S O M X Q=V8 (Z62 tk st S O M X Q) (Z40 n ns vs tx)∧3=Uu (Z62 tk st S O M X Q) (Z40 n ns vs tx))) (Br (decide (6≤Ln ([]++S))) (Z84 vs∧Sf true (Jbt vs st S O M X Q=V8 (Z62 tk st S O M X Q) (Z40 n ns vs tx)∧5=Uu (Z62 tk st S O M X Q) (Z40 n ns vs tx))) (Kcr ns vs S∧Z84 vs∧Sf true ((Z95 vs,st,Kdn S ns vs,O,M,X,Q)=V8 (Z62 tk st S O M X Q) (Z40 n ns vs tx)∧0=Uu (Z62 tk st S O M X Q) (Z40 n ns vs tx)))))))=_).mp ?_
 delta Z34 Z36 Z40 Z47 Z62 Z84 Z86 Z94 Z95 Z99 Vl Kf Jf3 Jf2 Jf1 Jf0 Jfz Jfy Jbt Jps Kdn Kcr Br Bd T2 Tw Sf Ln B0 Lb Ju J0
 intro hr hu hm hc _
 obtain⟨hn,hv,nS,nO,nX,nQ,hx⟩:=Juh hr hc
 simp only[Us,List.length_cons,List.length_nil] at hn hv nS nO nX nQ hx
 have cE:ckS (tk,st,S,O,M,X,Q) (n,Ju,ns,vs,tx)=Jjh S vs:=by simp only[ckS,Us]
 have sE:Jv (tk,st,S,O,M,X,Q) (n,Ju,ns,vs,tx)=(vs.getD 0 0,(Fs (tk,st,S,O,M,X,Q) (n,Ju,ns,vs,tx)).2):=by simp only[Jv,doS,Us]
 simp only[List.nil_append,rcb,rcS,rcO,rcX,rcQ,Prod.eta]
 repeat' first|exact lfT ‹_›|exact lfN ‹_› ‹_›|exact lfA ‹_› ‹_› (cE.trans (by clear cE sE hx hc;simp only[Jjh,Jg,Zm,List.nil_append, *,cond_true,cond_false,reduceIte,decide_true,decide_false,Bool.not_true,Bool.not_false,Int.reduceEq,Int.reduceNe,ne_eq,not_false_eq_true,not_true_eq_false];first|done|rfl|decide)) (by first|exact .inl ⟨by decide,rfl⟩|exact .inl ⟨bne_iff_ne.mp ‹_›,rfl⟩|exact .inr ⟨rfl,sE.trans (by first|rfl|simp only[Fs,List.nil_append])⟩)|apply And.intro|intro _
 all_goals first|omega|trivial|assumption
def Kr0 (a:List Sta) (b:Ls):=Gt ([]++a) (Jyy a b) Z19
theorem Jn6:wpFG Tryz.prog Jpi.g Hv (Xg (none)) (Sx.look ([(48,Tryz.f48),(49,Tryz.f49),(50,Tryz.f50)]:List (Nat×Func))) Tryz.f22 Hu ((tk,st,S,O,M,X,Q),(n,Kx,ns,vs,tx),()):=by
 refine(by kernel_rfl:(Kf tk st S O M X Q→Jaw X→Z47 M→Ja (Z18 n ns vs tx)=0→Lb Kx J0=false→Z84 vs∧Br (Jf3 vs tk) (Sf true (Z62 tk st S O M X Q=V8 (Z62 tk st S O M X Q) (Z18 n ns vs tx)∧22=Uu (Z62 tk st S O M X Q) (Z18 n ns vs tx))) (Jps tk st S O M X Q ns∧Br (Jn (Z62 tk st S O M X Q) Kx ns !=0) (Sf true (Z62 tk st S O M X Q=V8 (Z62 tk st S O M X Q) (Z18 n ns vs tx)∧Jn (Z62 tk st S O M X Q) Kx ns=Uu (Z62 tk st S O M X Q) (Z18 n ns vs tx))) (Jf1 S∧Jfy O∧Jfz M∧Jf0 X∧Jf2 Q∧Z86 vs∧Br (decide (1000<Z94 vs)) (Z84 vs∧Sf true (Jbt vs st S O M X Q=V8 (Z62 tk st S O M X Q) (Z18 n ns vs tx)∧3=Uu (Z62 tk st S O M X Q) (Z18 n ns vs tx))) (T2 (Vl ns) (Z53 S∧T2 (Z34 vs) (Tw (Bd (Jyy S ns) (Ln ([]++S)))))∧Z84 vs∧Sf true ((Z95 vs,st,List.set ([]++S) (Int.toNat (Jyy S ns)) ((Kr0 S ns).1,(Kr0 S ns).2.1,Z94 vs),O,M,X,Q)=V8 (Z62 tk st S O M X Q) (Z18 n ns vs tx)∧0=Uu (Z62 tk st S O M X Q) (Z18 n ns vs tx))))))=_).mp ?_
 delta Z18 Z19 Z34 Z36 Z47 Z53 Z62 Z84 Z86 Z94 Z95 Z99 Vl Kf Jyy Jf3 Jf2 Jf1 Jf0 Jfz Jfy Jbt Jps Kr0 Br Bd T2 Tw Sf Ln Gt B0 Lb Kx J0
 intro hr hu hm hc _
 obtain⟨hn,hv,nS,nO,nX,nQ,hx⟩:=Juh hr hc
 simp only[Vx,List.length_cons,List.length_nil] at hn hv nS nO nX nQ hx
 have cE:ckS (tk,st,S,O,M,X,Q) (n,Kx,ns,vs,tx)=Jla vs:=by simp only[ckS,Vx]
 have sE:Jv (tk,st,S,O,M,X,Q) (n,Kx,ns,vs,tx)=(vs.getD 0 0,(Dk (tk,st,S,O,M,X,Q) (n,Kx,ns,vs,tx)).2):=by simp only[Jv,doS,Vx]
 have hp:decide (vs.getD 1 0<0)=false:=decide_eq_false (by have:=hx 1 (by omega);omega)
 have hF:(Jn (tk,st,S,O,M,X,Q) Kx ns !=0)=false→(0≤J3 S (ns.getD 0 Jd)∧J3 S (ns.getD 0 Jd)<S.length):=fun a=>by
  have z:=fcN a
  rw[Vx] at z
  obtain⟨k0,z⟩:=Jm z
  exact⟨Jpl (k0 rfl),Kv⟩
 simp only[List.nil_append,rcb,rcS,rcO,rcX,rcQ,Prod.eta]
 repeat' first|exact lfT ‹_›|exact lfN ‹_› ‹_›|exact lfA ‹_› ‹_› (cE.trans (by clear cE sE hF hx hc;simp only[Jla,Jp,Bool.false_or,Zm,List.nil_append, *,cond_true,cond_false,reduceIte,decide_true,decide_false,Bool.not_true,Bool.not_false,Int.reduceEq,Int.reduceNe,ne_eq,not_false_eq_true,not_true_eq_false];first|done|rfl|decide)) (by first|exact .inl ⟨by decide,rfl⟩|exact .inl ⟨bne_iff_ne.mp ‹_›,rfl⟩|exact .inr ⟨rfl,sE.trans (by first|rfl|simp only[Dk,List.nil_append]|simp only[Dk,Y7 (hF ‹_›).1])⟩)|apply And.intro|intro _
 all_goals first|omega|trivial|assumption|(have:=hF ‹_›;omega)
def J8o (a:List Ord) (b:Ls):=Bd (Jnv a b) (Ln ([]++a))
def Kec (a:List Ord) (b:Ls):=Tw (J8o a b)
def J3g (a:Li) (b:Int) (c:List Sta) (d:List Ord) (e:List Met) (f:List Out) (g:List Per) (h i:Int) (j:Ls) (k:Bt):=Jbt a b c d e f g=V8 (Z62 h b c d e f g) (Z20 i j a k)
def Kb8 (a:List Ord) (b:Ls):=Gt ([]++a) (Jnv a b) Jej
def J3e (a:List Ord) (b:Ls):=(Kb8 a b).1
def Kb5 (a:List Ord) (b:Ls):=(Kb8 a b).2
def Kb1 (a:List Ord) (b:Ls):=(Kb5 a b).1
def Kb0 (a:List Ord) (b:Ls):=(Kb5 a b).2
def Kbw (a:List Ord) (b:Ls):=(Kb0 a b).1
def Kbv (a:List Ord) (b:Ls):=(Kb0 a b).2
def Kbu (a:List Ord) (b:Ls):=(Kbv a b).2
def Kbt (a:List Ord) (b:Ls):=(Kbv a b).1
def J7r (a:List Ord) (b:Ls):=(Kbu a b).2
def J7q (a:List Ord) (b:Ls):=(Kbu a b).1
def Kbr (a:List Ord) (b:Ls):=(J7r a b).2
def J7j (a:List Ord) (b:Ls):=E2 (Kbt a b)
def Koj (a:List Ord) (b:Ls) (c:Li):=decide (J7q a b<Z85 c)
def Kn8 (a:List Ord) (b:Ls) (c:Li):=Koj a b c=false
theorem Jn8:wpFG Tryz.prog Jpi.g Hv (Xg (none)) (Sx.look ([(48,Tryz.f48),(49,Tryz.f49),(50,Tryz.f50)]:List (Nat×Func))) Tryz.f22 Hu ((tk,st,S,O,M,X,Q),(n,Ks,ns,vs,tx),()):=by
 refine(by kernel_rfl:(Kf tk st S O M X Q→Jaw X→Z47 M→Ja (Z20 n ns vs tx)=0→Lb Ks J0=false→Z84 vs∧Br (Jf3 vs tk) (Sf true (Z62 tk st S O M X Q=V8 (Z62 tk st S O M X Q) (Z20 n ns vs tx)∧22=Uu (Z62 tk st S O M X Q) (Z20 n ns vs tx))) (Jps tk st S O M X Q ns∧Br (Jn (Z62 tk st S O M X Q) Ks ns !=0) (Sf true (Z62 tk st S O M X Q=V8 (Z62 tk st S O M X Q) (Z20 n ns vs tx)∧Jn (Z62 tk st S O M X Q) Ks ns=Uu (Z62 tk st S O M X Q) (Z20 n ns vs tx))) (Jf1 S∧Jfy O∧Jfz M∧Jf0 X∧Jf2 Q∧T2 (Vl ns) (Z61 O∧Kec O ns)∧T2 (Z34 vs) (Z84 vs)∧Br (Keh vs) (Z84 vs∧Sf true (J3g vs st S O M X Q tk n ns tx∧11=Uu (Z62 tk st S O M X Q) (Z20 n ns vs tx))) (Z86 vs∧Br (!Uh (J7j O ns) (Z94 vs)) (Z84 vs∧Sf true (J3g vs st S O M X Q tk n ns tx∧14=Uu (Z62 tk st S O M X Q) (Z20 n ns vs tx))) (T2 (Z34 vs) (Z70≤Kbr O ns)∧Br (!Ka (J3e O ns,Kb1 O ns,Kbw O ns,J7j O ns,J7q O ns,E2 (J7r O ns)) (Z94 vs)) (Z84 vs∧Sf true (J3g vs st S O M X Q tk n ns tx∧23=Uu (Z62 tk st S O M X Q) (Z20 n ns vs tx))) (T2 (Z34 vs) (Kf tk st S O M X Q)∧Br (Hz M (J3e O ns) (Z94 vs)).2 (Z84 vs∧Sf true (J3g vs st S O M X Q tk n ns tx∧9=Uu (Z62 tk st S O M X Q) (Z20 n ns vs tx))) (T2 (Z32 vs) (T2 (Kn8 O ns vs→Z37 vs) (Tw (Kn8 O ns vs→Z32 vs)))∧Br (bif Koj O ns vs then true else Kei vs) (Z84 vs∧Sf true (J3g vs st S O M X Q tk n ns tx∧3=Uu (Z62 tk st S O M X Q) (Z20 n ns vs tx))) (Kbq vs M∧Z84 vs∧Sf true ((Z95 vs,st,S,O,M++[(J3e O ns,Kdb vs)],X,Q)=V8 (Z62 tk st S O M X Q) (Z20 n ns vs tx)∧0=Uu (Z62 tk st S O M X Q) (Z20 n ns vs tx))))))))))=_).mp ?_
 delta Z20 Z32 Z34 Z36 Z37 Z47 Z61 Z62 Z70 Z72 Z84 Z85 Z86 Z90 Z94 Z95 Z99 Vl Kf Jnv Jf3 Jf2 Jf1 Jf0 Jfz Jfy Jbt Jej J8o Kei Keh Kec Jps Kdb J3g Kb8 J3e Kb5 Kb1 Kb0 Kbw Kbv Kbu Kbt J7r J7q Kbr Kbq J7j Koj Kn8 Br Bd T2 Tw Sf Ln Gt B0 Lb E2 Ks J0
 intro hr hu hm hc _
 obtain⟨hn,hv,nS,nO,nX,nQ,hx⟩:=Juh hr hc
 simp only[Vz,List.length_cons,List.length_nil] at hn hv nS nO nX nQ hx
 have cE:ckS (tk,st,S,O,M,X,Q) (n,Ks,ns,vs,tx)=Jji O M ns vs:=by simp only[ckS,Vz]
 have sE:Jv (tk,st,S,O,M,X,Q) (n,Ks,ns,vs,tx)=(vs.getD 0 0,(Dp (tk,st,S,O,M,X,Q) (n,Ks,ns,vs,tx)).2):=by simp only[Jv,doS,Vz]
 have hF:(Jn (tk,st,S,O,M,X,Q) Ks ns !=0)=false→(0≤Uo O (ns.getD 0 Jd)∧Uo O (ns.getD 0 Jd)<O.length):=fun a=>by
  have z:=fcN a
  rw[Vz] at z
  obtain⟨k0,z⟩:=Jm z
  exact⟨J2x (k0 rfl),Ue⟩
 have hP:(Jn (tk,st,S,O,M,X,Q) Ks ns !=0)=false→-1≤(Dd O (ns.getD 0 Jd)).2.2.2.2.2.2:=fun a=>(hr.ord _ (Jgm (hF a).1)).trip.1
 simp only[List.nil_append,rcb,rcS,rcO,rcX,rcQ,Prod.eta]
 repeat' first|exact lfT ‹_›|exact lfN ‹_› ‹_›|exact lfA ‹_› ‹_› (cE.trans (by have hp:=hP ‹_›;clear cE sE hF hP hx hc;simp only[Jji,Khx,Jg,Zm,List.nil_append, *,cond_true,cond_false,reduceIte,decide_true,decide_false,Bool.not_true,Bool.not_false,Int.reduceEq,Int.reduceNe,ne_eq,not_false_eq_true,not_true_eq_false];first|done|rfl|decide)) (by first|exact .inl ⟨by decide,rfl⟩|exact .inl ⟨bne_iff_ne.mp ‹_›,rfl⟩|exact .inr ⟨rfl,sE.trans (by first|rfl|(simp only[Dp,List.nil_append];done)|simp only[Dp,Y7 (hF ‹_›).1])⟩)|apply And.intro|intro _
 all_goals first|omega|trivial|assumption|exact hP ‹_›|(have:=hF ‹_›;omega)
def Kow (a:List Ord) (b:Ls):=decide (0≤Kbr a b)
def Koo (a:List Ord) (b:Ls):=Kow a b=false
theorem Jp7:wpFG Tryz.prog Jpi.g Hv (Xg (none)) (Sx.look ([(48,Tryz.f48),(49,Tryz.f49),(50,Tryz.f50)]:List (Nat×Func))) Tryz.f22 Hu ((tk,st,S,O,M,X,Q),(n,Vj,ns,vs,tx),()):=by
 refine(by kernel_rfl:(Kf tk st S O M X Q→Jaw X→Z47 M→Ja (Z6 n ns vs tx)=0→Lb Vj J0=false→Z84 vs∧Br (Jf3 vs tk) (Sf true (Z62 tk st S O M X Q=V8 (Z62 tk st S O M X Q) (Z6 n ns vs tx)∧22=Uu (Z62 tk st S O M X Q) (Z6 n ns vs tx))) (Jps tk st S O M X Q ns∧Br (Jn (Z62 tk st S O M X Q) Vj ns !=0) (Sf true (Z62 tk st S O M X Q=V8 (Z62 tk st S O M X Q) (Z6 n ns vs tx)∧Jn (Z62 tk st S O M X Q) Vj ns=Uu (Z62 tk st S O M X Q) (Z6 n ns vs tx))) (Jf1 S∧Jfy O∧Jfz M∧Jf0 X∧Jf2 Q∧T2 (Vl ns) (Z61 O)∧T2 (J8o O ns) (T2 (Koo O ns→J8o O ns) (Tw (Koo O ns→Z36 vs)))∧Br (bif Kow O ns then true else decide ((Kbt O ns).2≤Z95 vs)) (Z84 vs∧Sf true (Jbt vs st S O M X Q=V8 (Z62 tk st S O M X Q) (Z6 n ns vs tx)∧23=Uu (Z62 tk st S O M X Q) (Z6 n ns vs tx))) (T2 (Z36 vs) (Kec O ns)∧Z84 vs∧Sf true ((Z95 vs,st,S,List.set ([]++O) (Int.toNat (Jnv O ns)) (J3e O ns,Kb1 O ns,Kbw O ns,J7j O ns,J7q O ns,(J7r O ns).1,Z95 vs),M,X,Q)=V8 (Z62 tk st S O M X Q) (Z6 n ns vs tx)∧0=Uu (Z62 tk st S O M X Q) (Z6 n ns vs tx))))))=_).mp ?_
 delta Z6 Z36 Z47 Z61 Z62 Z72 Z84 Z95 Z99 Vl Kf Jnv Jf3 Jf2 Jf1 Jf0 Jfz Jfy Jbt Jej J8o Kec Jps Kb8 J3e Kb5 Kb1 Kb0 Kbw Kbv Kbu Kbt J7r J7q Kbr J7j Kow Koo Br Bd T2 Tw Sf Ln Gt B0 Lb E2 Vj J0
 intro hr hu hm hc _
 obtain⟨hn,hv,nS,nO,nX,nQ,hx⟩:=Juh hr hc
 simp only[Xe,List.length_cons,List.length_nil] at hn hv nS nO nX nQ hx
 have cE:ckS (tk,st,S,O,M,X,Q) (n,Vj,ns,vs,tx)=Jbd O ns vs:=by simp only[ckS,Xe]
 have sE:Jv (tk,st,S,O,M,X,Q) (n,Vj,ns,vs,tx)=(vs.getD 0 0,(Dj (tk,st,S,O,M,X,Q) (n,Vj,ns,vs,tx)).2):=by simp only[Jv,doS,Xe]
 have hF:(Jn (tk,st,S,O,M,X,Q) Vj ns !=0)=false→(0≤Uo O (ns.getD 0 Jd)∧Uo O (ns.getD 0 Jd)<O.length):=fun a=>by
  have z:=fcN a
  rw[Xe] at z
  obtain⟨k0,z⟩:=Jm z
  exact⟨J2x (k0 rfl),Ue⟩
 have hP:(Jn (tk,st,S,O,M,X,Q) Vj ns !=0)=false→((Dd O (ns.getD 0 Jd)).2.2.2.2.2.2 != -1)=decide (0≤(Dd O (ns.getD 0 Jd)).2.2.2.2.2.2):=fun a=>by
  have h: -1≤(Dd O (ns.getD 0 Jd)).2.2.2.2.2.2:=(hr.ord _ (Jgm (hF a).1)).trip.1
  by_cases q:0≤(Dd O (ns.getD 0 Jd)).2.2.2.2.2.2
  ·rw[decide_eq_true q];exact bne_iff_ne.mpr (by omega)
  ·rw[decide_eq_false q];exact bne_eq_false_iff_eq.mpr (by omega)
 simp only[List.nil_append,rcb,rcS,rcO,rcX,rcQ,Prod.eta]
 repeat' first|exact lfT ‹_›|exact lfN ‹_› ‹_›|exact lfA ‹_› ‹_› (cE.trans (by have hp:=hP ‹_›;clear cE sE hF hP hx hc;simp only[Jbd,Zm,List.nil_append, *,cond_true,cond_false,reduceIte,decide_true,decide_false,Bool.not_true,Bool.not_false,Int.reduceEq,Int.reduceNe,ne_eq,not_false_eq_true,not_true_eq_false];first|done|rfl|decide)) (by first|exact .inl ⟨by decide,rfl⟩|exact .inl ⟨bne_iff_ne.mp ‹_›,rfl⟩|exact .inr ⟨rfl,sE.trans (by first|rfl|simp only[Dj,List.nil_append]|simp only[Dj,Y7 (hF ‹_›).1])⟩)|apply And.intro|intro _
 all_goals first|omega|trivial|assumption|exact hP ‹_›|(have:=hF ‹_›;omega)
def Krb (a:List Out) (b:Ls):=Gt ([]++a) (Jpu a b) Jel
def Kq7 (a:List Out) (b:Ls) (c:Li):=T2 (Bd (Jpu a b) (Ln ([]++a))) (Z84 c)
def Kq6 (a:List Out) (b:Ls):=(Krb a b).2
def Kq1 (a:List Out) (b:Ls):=(Kq6 a b).2
def Kqx (a:List Out) (b:Ls):=(Kq1 a b).1
def Kqp (a:List Out) (b:Ls):=(Kqx a b).1
theorem Jh2:wpFG Tryz.prog Jpi.g Hv (Xg (none)) (Sx.look ([(48,Tryz.f48),(49,Tryz.f49),(50,Tryz.f50)]:List (Nat×Func))) Tryz.f22 Hu ((tk,st,S,O,M,X,Q),(n,Jw,ns,vs,tx),()):=by
 refine(by kernel_rfl:(Kf tk st S O M X Q→Jaw X→Z47 M→Ja (Z38 n ns vs tx)=0→Lb Jw J0=false→Z84 vs∧Br (Jf3 vs tk) (Sf true (Z62 tk st S O M X Q=V8 (Z62 tk st S O M X Q) (Z38 n ns vs tx)∧22=Uu (Z62 tk st S O M X Q) (Z38 n ns vs tx))) (Jps tk st S O M X Q ns∧Br (Jn (Z62 tk st S O M X Q) Jw ns !=0) (Sf true (Z62 tk st S O M X Q=V8 (Z62 tk st S O M X Q) (Z38 n ns vs tx)∧Jn (Z62 tk st S O M X Q) Jw ns=Uu (Z62 tk st S O M X Q) (Z38 n ns vs tx))) (Jf1 S∧Jfy O∧Jfz M∧Jf0 X∧Jf2 Q∧T2 (Vl ns) (Z54 X)∧Kq7 X ns vs∧Br (decide (Z95 vs≤Kqp X ns)) (Z84 vs∧Sf true (Jbt vs st S O M X Q=V8 (Z62 tk st S O M X Q) (Z38 n ns vs tx)∧21=Uu (Z62 tk st S O M X Q) (Z38 n ns vs tx))) (Kq7 X ns vs∧Br (decide ((Kqx X ns).2≤Z95 vs)) (Z84 vs∧Sf true (Jbt vs st S O M X Q=V8 (Z62 tk st S O M X Q) (Z38 n ns vs tx)∧23=Uu (Z62 tk st S O M X Q) (Z38 n ns vs tx))) (T2 (Vl ns) (Z49 Q)∧Br (Vs Q (Z99 ns)) (Z84 vs∧Sf true (Jbt vs st S O M X Q=V8 (Z62 tk st S O M X Q) (Z38 n ns vs tx)∧32=Uu (Z62 tk st S O M X Q) (Z38 n ns vs tx))) (T2 (Z36 vs) (Tw (Bd (Jpu X ns) (Ln ([]++X))))∧Z84 vs∧Sf true ((Z95 vs,st,S,O,M,List.set ([]++X) (Int.toNat (Jpu X ns)) ((Krb X ns).1,(Kq6 X ns).1,(Kqp X ns,Z95 vs),(Kq1 X ns).2),Q)=V8 (Z62 tk st S O M X Q) (Z38 n ns vs tx)∧0=Uu (Z62 tk st S O M X Q) (Z38 n ns vs tx))))))))=_).mp ?_
 delta Z36 Z38 Z47 Z49 Z54 Z62 Z84 Z95 Z99 Vl Kf Jel Jpu Jf3 Jf2 Jf1 Jf0 Jfz Jfy Jbt Jps Krb Kq7 Kq6 Kq1 Kqx Kqp Br Bd T2 Tw Sf Ln Gt B0 Lb Jw J0
 intro hr hu hm hc _
 obtain⟨hn,hv,nS,nO,nX,nQ,hx⟩:=Juh hr hc
 simp only[K5,List.length_cons,List.length_nil] at hn hv nS nO nX nQ hx
 have cE:ckS (tk,st,S,O,M,X,Q) (n,Jw,ns,vs,tx)=Jbe X Q ns vs:=by simp only[ckS,K5]
 have sE:Jv (tk,st,S,O,M,X,Q) (n,Jw,ns,vs,tx)=(vs.getD 0 0,(Dl (tk,st,S,O,M,X,Q) (n,Jw,ns,vs,tx)).2):=by simp only[Jv,doS,K5]
 have hF:(Jn (tk,st,S,O,M,X,Q) Jw ns !=0)=false→(0≤Kb X (ns.getD 0 Jd)∧Kb X (ns.getD 0 Jd)<X.length):=fun a=>by
  have z:=fcN a
  rw[K5] at z
  obtain⟨k0,z⟩:=Jm z
  exact⟨Jz4 (k0 rfl),K2⟩
 have hP:(Jn (tk,st,S,O,M,X,Q) Jw ns !=0)=false→decide ((0:Int)<((L2 Q).filter fun p=>p.2.1.toList==(H9 X (ns.getD 0 Jd)).1.toList).length)=Vs Q (ns.getD 0 Jd):=fun a=>by rw[Jir (hF a).1];rfl
 simp only[List.nil_append,rcb,rcS,rcO,rcX,rcQ,Prod.eta]
 repeat' first|exact lfT ‹_›|exact lfN ‹_› ‹_›|exact lfA ‹_› ‹_› (cE.trans (by have hp:=hP ‹_›;clear cE sE hF hP hx hc;simp only[Jbe,Jg,Zm,List.nil_append, *,cond_true,cond_false,reduceIte,decide_true,decide_false,Bool.not_true,Bool.not_false,Int.reduceEq,Int.reduceNe,ne_eq,not_false_eq_true,not_true_eq_false];first|done|rfl|decide)) (by first|exact .inl ⟨by decide,rfl⟩|exact .inl ⟨bne_iff_ne.mp ‹_›,rfl⟩|exact .inr ⟨rfl,sE.trans (by first|rfl|simp only[Dl,List.nil_append]|simp only[Dl,Y7 (hF ‹_›).1])⟩)|apply And.intro|intro _
 all_goals first|omega|trivial|assumption|exact hP ‹_›|(have:=hF ‹_›;omega)
theorem Jj4:wpFG Tryz.prog Jpi.g Hv (Xg (none)) (Sx.look ([(48,Tryz.f48),(49,Tryz.f49),(50,Tryz.f50)]:List (Nat×Func))) Tryz.f22 Hu ((tk,st,S,O,M,X,Q),(n,Kj,ns,vs,tx),()):=by
 refine(by kernel_rfl:(Kf tk st S O M X Q→Jaw X→Z47 M→Ja (Z30 n ns vs tx)=0→Lb Kj J0=false→Z84 vs∧Br (Jf3 vs tk) (Sf true (Z62 tk st S O M X Q=V8 (Z62 tk st S O M X Q) (Z30 n ns vs tx)∧22=Uu (Z62 tk st S O M X Q) (Z30 n ns vs tx))) ((Kf tk st S O M X Q∧Sf true (Jnx ns))∧Br (Jn (Z62 tk st S O M X Q) Kj ns !=0) (Sf true (Z62 tk st S O M X Q=V8 (Z62 tk st S O M X Q) (Z30 n ns vs tx)∧Jn (Z62 tk st S O M X Q) Kj ns=Uu (Z62 tk st S O M X Q) (Z30 n ns vs tx))) (Jf1 S∧Jfy O∧Jfz M∧Jf0 X∧Jf2 Q∧T2 (Z88 ns) (Z54 X∧T2 (Bd (Kb X (Z96 ns)) (Ln ([]++X))) (Z84 vs))∧Br (!Uh (E2 (Gt ([]++X) (Kb X (Z96 ns)) Jel).2.2.1) (Z95 vs)) (Z84 vs∧Sf true (Jbt vs st S O M X Q=V8 (Z62 tk st S O M X Q) (Z30 n ns vs tx)∧22=Uu (Z62 tk st S O M X Q) (Z30 n ns vs tx))) (Br (decide (16≤Ln ([]++Q))) (Z84 vs∧Sf true (Jbt vs st S O M X Q=V8 (Z62 tk st S O M X Q) (Z30 n ns vs tx)∧5=Uu (Z62 tk st S O M X Q) (Z30 n ns vs tx))) (Kch ns Q∧Z84 vs∧Sf true ((Z95 vs,st,S,O,M,Kdi X Q ns)=V8 (Z62 tk st S O M X Q) (Z30 n ns vs tx)∧0=Uu (Z62 tk st S O M X Q) (Z30 n ns vs tx)))))))=_).mp ?_
 delta Z30 Z36 Z47 Z54 Z62 Z84 Z88 Z95 Z96 Z99 Vl Jnx Kf Jel Jf3 Jf2 Jf1 Jf0 Jfz Jfy Jbt Kdi Kch Br Bd T2 Tw Sf Ln Gt B0 Lb E2 Kj J0
 intro hr hu hm hc _
 obtain⟨hn,hv,nS,nO,nX,nQ,hx⟩:=Juh hr hc
 simp only[U1,List.length_cons,List.length_nil] at hn hv nS nO nX nQ hx
 have cE:ckS (tk,st,S,O,M,X,Q) (n,Kj,ns,vs,tx)=Jbf X Q ns vs:=by simp only[ckS,U1]
 have sE:Jv (tk,st,S,O,M,X,Q) (n,Kj,ns,vs,tx)=(vs.getD 0 0,(Dn (tk,st,S,O,M,X,Q) (n,Kj,ns,vs,tx)).2):=by simp only[Jv,doS,U1]
 have hF:(Jn (tk,st,S,O,M,X,Q) Kj ns !=0)=false→(0≤Kb X (ns.getD 1 Jd)∧Kb X (ns.getD 1 Jd)<X.length):=fun a=>by
  have z:=fcN a
  rw[U1] at z
  obtain⟨k0,z⟩:=Jm z
  obtain⟨k1,z⟩:=Jm z
  exact⟨Jz4 (k1 rfl),K2⟩
 simp only[List.nil_append,rcb,rcS,rcO,rcX,rcQ,Prod.eta]
 repeat' first|exact lfT ‹_›|exact lfN ‹_› ‹_›|exact lfA ‹_› ‹_› (cE.trans (by clear cE sE hF hx hc;simp only[Jbf,Jg,Zm,List.nil_append, *,cond_true,cond_false,reduceIte,decide_true,decide_false,Bool.not_true,Bool.not_false,Int.reduceEq,Int.reduceNe,ne_eq,not_false_eq_true,not_true_eq_false];first|done|rfl|decide)) (by first|exact .inl ⟨by decide,rfl⟩|exact .inl ⟨bne_iff_ne.mp ‹_›,rfl⟩|exact .inr ⟨rfl,sE.trans (by first|rfl|simp only[Dn,List.nil_append]|simp only[Dn,Y7 (hF ‹_›).1])⟩)|apply And.intro|intro _
 all_goals first|omega|trivial|assumption|(have:=hF ‹_›;omega)
def Ksk (a:List Per) (b:Ls):=Tw (Bd (Jph a b) (Ln ([]++a)))
def Ksc (a:List Per) (b:Ls):=Gt ([]++a) (Jph a b) (B0,B0,false)
def Ksa (a:List Per) (b:Ls):=(Ksc a b).2
theorem Jj3:wpFG Tryz.prog Jpi.g Hv (Xg (none)) (Sx.look ([(48,Tryz.f48),(49,Tryz.f49),(50,Tryz.f50)]:List (Nat×Func))) Tryz.f22 Hu ((tk,st,S,O,M,X,Q),(n,Ki,ns,vs,tx),()):=by
 refine(by kernel_rfl:(Kf tk st S O M X Q→Jaw X→Z47 M→Ja (Z23 n ns vs tx)=0→Lb Ki J0=false→Z84 vs∧Br (Jf3 vs tk) (Sf true (Z62 tk st S O M X Q=V8 (Z62 tk st S O M X Q) (Z23 n ns vs tx)∧22=Uu (Z62 tk st S O M X Q) (Z23 n ns vs tx))) (Jps tk st S O M X Q ns∧Br (Jn (Z62 tk st S O M X Q) Ki ns !=0) (Sf true (Z62 tk st S O M X Q=V8 (Z62 tk st S O M X Q) (Z23 n ns vs tx)∧Jn (Z62 tk st S O M X Q) Ki ns=Uu (Z62 tk st S O M X Q) (Z23 n ns vs tx))) (Jf1 S∧Jfy O∧Jfz M∧Jf0 X∧Jf2 Q∧T2 (Vl ns) (Z49 Q)∧Ksk Q ns∧Br (!(Ksa Q ns).2) (Z84 vs∧Sf true (Jbt vs st S O M X Q=V8 (Z62 tk st S O M X Q) (Z23 n ns vs tx)∧23=Uu (Z62 tk st S O M X Q) (Z23 n ns vs tx))) (Ksk Q ns∧Z84 vs∧Sf true ((Z95 vs,st,S,O,M,X,List.set ([]++Q) (Int.toNat (Jph Q ns)) ((Ksc Q ns).1,(Ksa Q ns).1,false))=V8 (Z62 tk st S O M X Q) (Z23 n ns vs tx)∧0=Uu (Z62 tk st S O M X Q) (Z23 n ns vs tx))))))=_).mp ?_
 delta Z23 Z36 Z47 Z49 Z62 Z84 Z95 Z99 Vl Kf Jph Jf3 Jf2 Jf1 Jf0 Jfz Jfy Jbt Ksk Ksc Ksa Jps Br Bd T2 Tw Sf Ln Gt B0 Lb Ki J0
 intro hr hu hm hc _
 obtain⟨hn,hv,nS,nO,nX,nQ,hx⟩:=Juh hr hc
 simp only[U0,List.length_cons,List.length_nil] at hn hv nS nO nX nQ hx
 have cE:ckS (tk,st,S,O,M,X,Q) (n,Ki,ns,vs,tx)=Jk9 Q ns:=by simp only[ckS,U0]
 have sE:Jv (tk,st,S,O,M,X,Q) (n,Ki,ns,vs,tx)=(vs.getD 0 0,(Jev (tk,st,S,O,M,X,Q) (n,Ki,ns,vs,tx)).2):=by simp only[Jv,doS,U0]
 have hF:(Jn (tk,st,S,O,M,X,Q) Ki ns !=0)=false→(0≤U2 Q (ns.getD 0 Jd)∧U2 Q (ns.getD 0 Jd)<Q.length):=fun a=>by
  have z:=fcN a
  rw[U0] at z
  obtain⟨k0,z⟩:=Jm z
  exact⟨Kh5 (k0 rfl),Ud⟩
 simp only[List.nil_append,rcb,rcS,rcO,rcX,rcQ,Prod.eta]
 repeat' first|exact lfT ‹_›|exact lfN ‹_› ‹_›|exact lfA ‹_› ‹_› (cE.trans (by clear cE sE hF hx hc;simp only[Jk9,Zm,List.nil_append, *,cond_true,cond_false,reduceIte,decide_true,decide_false,Bool.not_true,Bool.not_false,Int.reduceEq,Int.reduceNe,ne_eq,not_false_eq_true,not_true_eq_false];first|done|rfl|decide)) (by first|exact .inl ⟨by decide,rfl⟩|exact .inl ⟨bne_iff_ne.mp ‹_›,rfl⟩|exact .inr ⟨rfl,sE.trans (by first|rfl|simp only[Jev,List.nil_append]|simp only[Jev,Y7 (hF ‹_›).1])⟩)|apply And.intro|intro _
 all_goals first|omega|trivial|assumption|(have:=hF ‹_›;omega)
abbrev Jfx (tk st:Int) (S:List Sta) (O:List Ord) (M:List Met) (X:List Out) (Q:List Per) (n:Int) (ns:List ByteArray) (vs:List Int) (tx:ByteArray):Ann:={X:=Nat,σ:=fun k=>⟨30,[(2, .one (.ptr 25 0)),(3, .one (.ptr 26 0)),(4, .one (.ptr 27 0)),(6, .one (.sl 6)),(7, .one (.ptr 28 0)),(8, .one (.int .i64 (vs.getD 1 0+k)))],[(5, .imm 9 .str ns),(6, .imm 3 sI vs),(8, .box 37 [.int .i64 n, .str Ke, .sl 5, .sl 6, .str tx]),(9, .box 31 Jjs),(23, .box 31 [.int .i64 tk, .int .i64 st, .sl 14, .sl 16, .sl 18, .sl 20, .sl 22]),(24, .sus [(3, .one (.ptr 8 0)),(4, .one (.ptr 9 0)),(7, .one (.ptr 23 0))]),(25, .box 31 [.int .i64 tk, .int .i64 st, .sl 14, .sl 16, .sl 18, .sl 20, .sl 22]),(26, .box 37 [.int .i64 n, .str Ke, .sl 5, .sl 6, .str tx]),(27, .box 31 Jjs),(28, .box 100 [.int .i64 (vs.getD 1 0), .int .i64 (vs.getD 2 0)]),(14, .own 98 Xc S),(16, .own 102 Yn O),(18, .own 104 Xx M),(20, .own 106 Xi X),(22, .own 108 Yv Q)]⟩,inv:=fun k=>k≤(vs.getD 2 0-vs.getD 1 0).toNat∧Jsk S O X (n,Ke,ns,vs,tx)=Jpb (fun h=>decide (min (Xm S O X (ns.getD 1 Jd) h) (Xm S O X (ns.getD 2 Jd) h)<vs.getD 3 0)) (vs.getD 1 0+k) ((vs.getD 2 0-vs.getD 1 0).toNat-k),mu:=fun k=>(vs.getD 2 0-vs.getD 1 0).toNat-k}
def Jpt (a:Li) (b:Nat):=Z94 a+Nc b
def J8z (a:Li) (b:Nat):=Jpt a b+1
def Keg (a:Li):=Int.toNat (Z85 a-Z94 a)
def Ked (a:Li) (b:Nat):=Z94 a=Jpt a b
def Kd9 (a:Nat) (b:Li):=a≤Keg b
def J3q (a:Li) (b:Nat):=Keg a-b
def Kdz (a:Li) (b:Nat):=decide (Jpt a b<Z85 a)
def Kc7 (a:Li):=J6f (Z95 a) (Z94 a) (Z85 a)
def Kc6 (a:Li) (b c:Nat):=J8z a b=Jpt a c
def J3h (a:Li) (b:Int) (c:List Sta) (d:List Ord) (e:List Met) (f:List Out) (g:List Per) (h i:Int) (j:Ls) (k:Bt):=Jbt a b c d e f g=V8 (Z62 h b c d e f g) (Z12 i j a k)
def J7s (a:List Sta) (b:List Ord) (c:List Out) (d:Ls) (e:Li) (f:Nat):=decide (Xm a b c (Z96 d) (Jpt e f)<Z90 e)=false
def Kbe (a:Li) (b c:Nat):=J3q a b<J3q a c
def Ka2 (a:Li):=T2 (Z36 a) ((0≤Z94 a∧Z94 a≤999999999)∧0≤Z85 a∧Z85 a≤999999999)
def Kal (a:Nat) (b:Li) (c:List Sta) (d:List Ord) (e:List Out) (f:Int) (g:Ls) (h:Bt):=Kd9 a b∧Jsk c d e (Z12 f g b h)=Jpb (fun(h:Int)=>decide (min (Xm c d e (Jho g) h) (Xm c d e (J2i g) h)<Z90 b)) (Jpt b a) (J3q b a)
def Kak (a:Bt) (b:Li) (c:List Sta) (d:List Ord) (e:List Met) (f:List Out) (g:List Per):=Sf a (Si 0 (Si 0 (Sf Jr (Sf Jr (Sf Jr (Sf Jr (Sf Jr (Si (Z94 b) (Si (Z85 b) (Sf c (Sf d (Sf e (Sf f (g=g))))))))))))))
def Kkj (a:Ls) (b:Li) (c:Int) (d:Bt) (e f:Int) (g:List Sta) (h:List Ord) (i:List Met) (j:List Out) (k:List Per):=Sf a (Sf b (Si c (Sf Ke (Sf d (Si 0 (Si 0 (Sf Jr (Sf Jr (Sf Jr (Sf Jr (Sf Jr (Si e (Si f (Si e (Si f (Si c (Sf Ke (Kak d b g h i j k))))))))))))))))))
theorem Jn7:wpFG Tryz.prog Jpi.g Hv (Xg (some (Jfx tk st S O M X Q n ns vs tx))) (Sx.look ([(48,Tryz.f48),(49,Tryz.f49),(50,Tryz.f50)]:List (Nat×Func))) Tryz.f22 Hu ((tk,st,S,O,M,X,Q),(n,Ke,ns,vs,tx),()):=by
 refine(by kernel_rfl:(Kf tk st S O M X Q→Jaw X→Z47 M→Ja (Z12 n ns vs tx)=0→Lb Ke J0=false→Z84 vs∧Br (Jf3 vs tk) (Sf true (Z62 tk st S O M X Q=V8 (Z62 tk st S O M X Q) (Z12 n ns vs tx)∧22=Uu (Z62 tk st S O M X Q) (Z12 n ns vs tx))) ((Kf tk st S O M X Q∧Sf true (Jpw ns))∧Br (Jn (Z62 tk st S O M X Q) Ke ns !=0) (Sf true (Z62 tk st S O M X Q=V8 (Z62 tk st S O M X Q) (Z12 n ns vs tx)∧Jn (Z62 tk st S O M X Q) Ke ns=Uu (Z62 tk st S O M X Q) (Z12 n ns vs tx))) (Jf1 S∧Jfy O∧Jfz M∧Jf0 X∧Jf2 Q∧J3y vs∧T2 (Z88 ns) (Tw (Jy1 ns))∧Br (Ker ns) (Z84 vs∧Sf true (J3h vs st S O M X Q tk n ns tx∧24=Uu (Z62 tk st S O M X Q) (Z12 n ns vs tx))) (Ka2 vs∧Br (Kc7 vs) (Z84 vs∧Sf true (J3h vs st S O M X Q tk n ns tx∧14=Uu (Z62 tk st S O M X Q) (Z12 n ns vs tx))) (Z91 vs∧Br (Y2 (Z90 vs) 1 1000) (Z84 vs∧Sf true (J3h vs st S O M X Q tk n ns tx∧3=Uu (Z62 tk st S O M X Q) (Z12 n ns vs tx))) (∃(x:Nat),(Ked vs x∧Kkj ns vs n tx tk st S O M X Q)∧Kal x vs S O X n ns tx∧∀(x:Nat),Kal x vs S O X n ns tx→Br (Kdz vs x) (T2 (Z88 ns) (Kf tk st S O M X Q∧Jyp S ns∧T2 (Z37 vs) (T2 (J7s S O X ns vs x→Jy1 ns) ((J7s S O X ns vs x→Kf tk st S O M X Q)∧(J7s S O X ns vs x→0≤J3 S (Z92 ns))∧Tw (J7s S O X ns vs x→Z37 vs))))∧Br (bif decide (Xm S O X (Z96 ns) (Jpt vs x)<Z90 vs) then true else decide (Xm S O X (Z92 ns) (Jpt vs x)<Z90 vs)) (Z84 vs∧Sf true (J3h vs st S O M X Q tk n ns tx∧4=Uu (Z62 tk st S O M X Q) (Z12 n ns vs tx))) (Iw (J8z vs x)∧∃(y:Nat),(Kc6 vs x y∧Kkj ns vs n tx tk st S O M X Q)∧Kal y vs S O X n ns tx∧Kbe vs y x)) (Br (decide (32≤Ln O)) (Z84 vs∧Sf true (J3h vs st S O M X Q tk n ns tx∧5=Uu (Z62 tk st S O M X Q) (Z12 n ns vs tx))) (T2 (Vl ns) (T2 (Z88 ns) (T2 (Jy1 ns) (T2 (Z37 vs) (T2 (Z88 ns) (Z53 S∧T2 (Bd (Juv S ns) (Ln S)) ((List.length O+1)*88≤140737488355328))))))∧Z84 vs∧Sf true ((Z95 vs,st,S,O++[(Z99 ns,Z96 ns,Z92 ns,J3v vs,Z90 vs,(Gt S (Juv S ns) Z19).2.2,Z70)],M,X,Q)=V8 (Z62 tk st S O M X Q) (Z12 n ns vs tx)∧0=Uu (Z62 tk st S O M X Q) (Z12 n ns vs tx))))))))))=_).mp ?_
 delta Z12 Z19 Z32 Z34 Z36 Z37 Z47 Z53 Z62 Z70 Z84 Z85 Z88 Z90 Z91 Z92 Z94 Z95 Z96 Z99 Jy1 Vl Jpw Jho J2i Kf Jr Juv Jpt Jf3 Jf2 Jf1 Jf0 Jfz Jfy Jyp J8z Jbt J3y J3v Ker Keg Ked Kd9 J3q Kdz Kc7 Kc6 J3h J7s Kbe Ka2 Kal Kak Kkj Br Iw Bd T2 Tw Sf Si Ln Nc Gt B0 Lb Ke J0
 intro hr hu hm hc _
 obtain⟨hn,hv,nS,nO,nX,nQ,hx⟩:=Juh hr hc
 simp only[Vy,List.length_cons,List.length_nil] at hn hv nS nO nX nQ hx
 have cE:ckS (tk,st,S,O,M,X,Q) (n,Ke,ns,vs,tx)=Jan S O X (n,Ke,ns,vs,tx):=by simp only[ckS,Vy]
 have sE:Jv (tk,st,S,O,M,X,Q) (n,Ke,ns,vs,tx)=(vs.getD 0 0,(Do (tk,st,S,O,M,X,Q) (n,Ke,ns,vs,tx)).2):=by simp only[Jv,doS,Vy]
 have hF:(Jn (tk,st,S,O,M,X,Q) Ke ns !=0)=false→(0≤J3 S (ns.getD 1 Jd)∧J3 S (ns.getD 1 Jd)<S.length)∧(0≤J3 S (ns.getD 2 Jd)∧J3 S (ns.getD 2 Jd)<S.length):=fun a=>by
  have z:=fcN a
  rw[Vy] at z
  obtain⟨k0,z⟩:=Jm z
  obtain⟨k1,z⟩:=Jm z
  obtain⟨k2,z⟩:=Jm z
  exact⟨⟨Jpl (k1 rfl),Kv⟩,⟨Jpl (k2 rfl),Kv⟩⟩
 have v1:=hx 1 (by omega)
 have v2:=hx 2 (by omega)
 have v3:=hx 3 (by omega)
 have pE:Xv (n,Ke,ns,vs,tx)=bif J6f (vs.getD 0 0) (vs.getD 1 0) (vs.getD 2 0) then 14 else 0:=rfl
 simp only[List.nil_append,rcb,rcS,rcO,rcX,rcQ,Prod.eta]
 repeat' first|exact lfT ‹_›|exact lfN ‹_› ‹_›|exact lfA ‹_› ‹_› (cE.trans (by clear cE sE hF hx hc;simp only[Jan,Jfs,Jg,Zm,List.nil_append, *,cond_true,cond_false,reduceIte,decide_true,decide_false,Bool.not_true,Bool.not_false,Int.reduceEq,Int.reduceNe,ne_eq,not_false_eq_true,not_true_eq_false];first|done|rfl|decide)) (by first|exact .inl ⟨by decide,rfl⟩|exact .inl ⟨bne_iff_ne.mp ‹_›,rfl⟩|exact .inr ⟨rfl,sE.trans (by first|rfl|(simp only[Do,List.nil_append];done)|simp only[Do,Y7 (hF ‹_›).1])⟩)|(refine⟨(0:Nat),by(repeat' first|exact rfl|exact⟨⟩|apply And.intro|omega|dsimp only;omega),⟨Nat.zero_le _,by simp[Zk,U7,Jsk]⟩,fun(k:Nat) hk=>⟨fun h1=> ?_,fun h1=> ?_⟩⟩;obtain⟨k1,k2⟩:=hk;replace h1:=of_decide_eq_true h1;rw[Jnh (by omega)] at k2;rw[Kxm] at k2;rotate_left;obtain⟨k1,k2⟩:=hk;replace h1:=of_decide_eq_false h1;rw[Jni (by omega)] at k2)|(refine⟨(k+1:Nat),by(repeat' first|exact rfl|exact⟨⟩|apply And.intro|omega|dsimp only;omega),⟨by omega, ?_⟩,by omega⟩;rw[k2,show(bif decide (Xm S O X (ns.getD 1 Jd) (vs.getD 1 0+k)<vs.getD 3 0) then true else decide (Xm S O X (ns.getD 2 Jd) (vs.getD 1 0+k)<vs.getD 3 0))=false from ‹_›];rfl)|apply And.intro|intro _
 all_goals first|omega|trivial|assumption|(have:=hF ‹_›;omega)
abbrev Jd5 (tk st:Int) (S:List Sta) (O:List Ord) (M:List Met) (X:List Out) (Q:List Per) (n:Int) (ns:List ByteArray) (vs:List Int) (tx:ByteArray):Ann:={X:=Nat,σ:=fun k=>⟨30,[(2, .one (.ptr 25 0)),(3, .one (.ptr 26 0)),(4, .one (.ptr 27 0)),(6, .one (.sl 6)),(7, .one (.ptr 28 0)),(8, .one (.int .i64 (vs.getD 1 0+k)))],[(5, .imm 9 .str ns),(6, .imm 3 sI vs),(8, .box 37 [.int .i64 n, .str Jz, .sl 5, .sl 6, .str tx]),(9, .box 31 Jjs),(23, .box 31 [.int .i64 tk, .int .i64 st, .sl 14, .sl 16, .sl 18, .sl 20, .sl 22]),(24, .sus [(3, .one (.ptr 8 0)),(4, .one (.ptr 9 0)),(7, .one (.ptr 23 0))]),(25, .box 31 [.int .i64 tk, .int .i64 st, .sl 14, .sl 16, .sl 18, .sl 20, .sl 22]),(26, .box 37 [.int .i64 n, .str Jz, .sl 5, .sl 6, .str tx]),(27, .box 31 Jjs),(28, .box 100 [.int .i64 (vs.getD 1 0), .int .i64 (vs.getD 2 0)]),(14, .own 98 Xc S),(16, .own 102 Yn O),(18, .own 104 Xx M),(20, .own 106 Xi X),(22, .own 108 Yv Q)]⟩,inv:=fun k=>k≤(vs.getD 2 0-vs.getD 1 0).toNat∧Zk (U7 (n,Jz,ns,vs,tx)) (fun h=>decide (vs.getD 3 0<Um O (ns.getD 1 Jd) h))=Jpb (fun h=>decide (vs.getD 3 0<Um O (ns.getD 1 Jd) h)) (vs.getD 1 0+k) ((vs.getD 2 0-vs.getD 1 0).toNat-k),mu:=fun k=>(vs.getD 2 0-vs.getD 1 0).toNat-k}
def J76 (a:Li) (b:Int) (c:List Sta) (d:List Ord) (e:List Met) (f:List Out) (g:List Per) (h i:Int) (j:Ls) (k:Bt):=Jbt a b c d e f g=V8 (Z62 h b c d e f g) (Z22 i j a k)
def Kaj (a:Nat) (b:Li) (c:Int) (d:Ls) (e:Bt) (f:List Ord):=Kd9 a b∧(Zk (U7 (Z22 c d b e)) fun(h:Int)=>decide (Z90 b<Um f (Jho d) h))=Jpb (fun(h:Int)=>decide (Z90 b<Um f (Jho d) h)) (Jpt b a) (J3q b a)
def Kki (a:Ls) (b:Li) (c:Int) (d:Bt) (e f:Int) (g:List Sta) (h:List Ord) (i:List Met) (j:List Out) (k:List Per):=Sf a (Sf b (Si c (Sf Jz (Sf d (Si 0 (Si 0 (Sf Jr (Sf Jr (Sf Jr (Sf Jr (Sf Jr (Si e (Si f (Si e (Si f (Si c (Sf Jz (Kak d b g h i j k))))))))))))))))))
theorem Jj5:wpFG Tryz.prog Jpi.g Hv (Xg (some (Jd5 tk st S O M X Q n ns vs tx))) (Sx.look ([(48,Tryz.f48),(49,Tryz.f49),(50,Tryz.f50)]:List (Nat×Func))) Tryz.f22 Hu ((tk,st,S,O,M,X,Q),(n,Jz,ns,vs,tx),()):=by
 refine(by kernel_rfl:(Kf tk st S O M X Q→Jaw X→Z47 M→Ja (Z22 n ns vs tx)=0→Lb Jz J0=false→Z84 vs∧Br (Jf3 vs tk) (Sf true (Z62 tk st S O M X Q=V8 (Z62 tk st S O M X Q) (Z22 n ns vs tx)∧22=Uu (Z62 tk st S O M X Q) (Z22 n ns vs tx))) ((Kf tk st S O M X Q∧Sf true (Jnx ns))∧Br (Jn (Z62 tk st S O M X Q) Jz ns !=0) (Sf true (Z62 tk st S O M X Q=V8 (Z62 tk st S O M X Q) (Z22 n ns vs tx)∧Jn (Z62 tk st S O M X Q) Jz ns=Uu (Z62 tk st S O M X Q) (Z22 n ns vs tx))) (Jf1 S∧Jfy O∧Jfz M∧Jf0 X∧Jf2 Q∧J3y vs∧Ka2 vs∧Br (Kc7 vs) (Z84 vs∧Sf true (J76 vs st S O M X Q tk n ns tx∧14=Uu (Z62 tk st S O M X Q) (Z22 n ns vs tx))) (T2 (Z37 vs) (T2 (Z88 ns) (Z53 S∧Tw (Bd (Juv S ns) (Ln ([]++S)))))∧Br (decide ((Gt ([]++S) (Juv S ns) Z19).2.1≤Z90 vs)) (Z84 vs∧Sf true (J76 vs st S O M X Q tk n ns tx∧3=Uu (Z62 tk st S O M X Q) (Z22 n ns vs tx))) (∃(x:Nat),(Ked vs x∧Kki ns vs n tx tk st S O M X Q)∧Kaj x vs n ns tx O∧∀(x:Nat),Kaj x vs n ns tx O→Br (Kdz vs x) (T2 (Z88 ns) (Kf tk st S O M X Q∧Z91 vs)∧Br (decide (Z90 vs<Um O (Z96 ns) (Jpt vs x))) (Z84 vs∧Sf true (J76 vs st S O M X Q tk n ns tx∧24=Uu (Z62 tk st S O M X Q) (Z22 n ns vs tx))) (Iw (J8z vs x)∧∃(y:Nat),(Kc6 vs x y∧Kki ns vs n tx tk st S O M X Q)∧Kaj y vs n ns tx O∧Kbe vs y x)) (Br (decide (16≤Ln X)) (Z84 vs∧Sf true (J76 vs st S O M X Q tk n ns tx∧5=Uu (Z62 tk st S O M X Q) (Z22 n ns vs tx))) (T2 (Vl ns) (T2 (Z88 ns) (Kd5 vs X))∧Z84 vs∧Sf true ((Z95 vs,st,S,O,M,X++[(Z99 ns,Z96 ns,J3v vs,Z90 vs)],Q)=V8 (Z62 tk st S O M X Q) (Z22 n ns vs tx)∧0=Uu (Z62 tk st S O M X Q) (Z22 n ns vs tx)))))))))=_).mp ?_
 delta Z19 Z22 Z32 Z34 Z36 Z37 Z47 Z53 Z62 Z84 Z85 Z88 Z90 Z91 Z94 Z95 Z96 Z99 Vl Jnx Jho Kf Jr Juv Jpt Jf3 Jf2 Jf1 Jf0 Jfz Jfy J8z Jbt J3y J3v Keg Ked Kd9 J3q Kd5 Kdz Kc7 Kc6 J76 Kbe Ka2 Kak Kaj Kki Br Iw Bd T2 Tw Sf Si Ln Nc Gt B0 Lb Jz J0
 intro hr hu hm hc _
 obtain⟨hn,hv,nS,nO,nX,nQ,hx⟩:=Juh hr hc
 simp only[Ut,List.length_cons,List.length_nil] at hn hv nS nO nX nQ hx
 have cE:ckS (tk,st,S,O,M,X,Q) (n,Jz,ns,vs,tx)=Jam S O X (n,Jz,ns,vs,tx):=by simp only[ckS,Ut]
 have sE:Jv (tk,st,S,O,M,X,Q) (n,Jz,ns,vs,tx)=(vs.getD 0 0,(Dm (tk,st,S,O,M,X,Q) (n,Jz,ns,vs,tx)).2):=by simp only[Jv,doS,Ut]
 have hF:(Jn (tk,st,S,O,M,X,Q) Jz ns !=0)=false→(0≤J3 S (ns.getD 1 Jd)∧J3 S (ns.getD 1 Jd)<S.length):=fun a=>by
  have z:=fcN a
  rw[Ut] at z
  obtain⟨k0,z⟩:=Jm z
  obtain⟨k1,z⟩:=Jm z
  exact⟨Jpl (k1 rfl),Kv⟩
 have v1:=hx 1 (by omega)
 have v2:=hx 2 (by omega)
 have v3:=hx 3 (by omega)
 have pE:Xv (n,Jz,ns,vs,tx)=bif J6f (vs.getD 0 0) (vs.getD 1 0) (vs.getD 2 0) then 14 else 0:=rfl
 simp only[List.nil_append,rcb,rcS,rcO,rcX,rcQ,Prod.eta]
 repeat' first|exact lfT ‹_›|exact lfN ‹_› ‹_›|exact lfA ‹_› ‹_› (cE.trans (by clear cE sE hF hx hc;simp only[Jam,Jfr,Jg,Zm,List.nil_append, *,cond_true,cond_false,reduceIte,decide_true,decide_false,Bool.not_true,Bool.not_false,Int.reduceEq,Int.reduceNe,ne_eq,not_false_eq_true,not_true_eq_false];first|done|rfl|decide)) (by first|exact .inl ⟨by decide,rfl⟩|exact .inl ⟨bne_iff_ne.mp ‹_›,rfl⟩|exact .inr ⟨rfl,sE.trans (by first|rfl|(simp only[Dm,List.nil_append];done)|simp only[Dm,Y7 (hF ‹_›).1])⟩)|(refine⟨(0:Nat),by(repeat' first|exact rfl|exact⟨⟩|apply And.intro|omega|dsimp only;omega),⟨Nat.zero_le _,by simp[Zk,U7,Jsk]⟩,fun(k:Nat) hk=>⟨fun h1=> ?_,fun h1=> ?_⟩⟩;obtain⟨k1,k2⟩:=hk;replace h1:=of_decide_eq_true h1;rw[Jnh (by omega)] at k2;skip;rotate_left;obtain⟨k1,k2⟩:=hk;replace h1:=of_decide_eq_false h1;rw[Jni (by omega)] at k2)|(refine⟨(k+1:Nat),by(repeat' first|exact rfl|exact⟨⟩|apply And.intro|omega|dsimp only;omega),⟨by omega, ?_⟩,by omega⟩;rw[k2,show decide (vs.getD 3 0<Um O (ns.getD 1 Jd) (vs.getD 1 0+k))=false from ‹_›];rfl)|apply And.intro|intro _
 all_goals first|omega|trivial|assumption|(have:=hF ‹_›;omega)
abbrev Jd4 (tk st:Int) (S:List Sta) (O:List Ord) (M:List Met) (X:List Out) (Q:List Per) (n:Int) (ns:List ByteArray) (vs:List Int) (tx:ByteArray):Ann:={X:=Nat,σ:=fun k=>⟨30,[(2, .one (.ptr 25 0)),(3, .one (.ptr 26 0)),(4, .one (.ptr 27 0)),(6, .one (.sl 6)),(11, .one (.int .i64 k))],[(5, .imm 9 .str ns),(6, .imm 3 sI vs),(8, .box 37 [.int .i64 n, .str Jh, .sl 5, .sl 6, .str tx]),(9, .box 31 Jjs),(23, .box 31 [.int .i64 tk, .int .i64 st, .sl 14, .sl 16, .sl 18, .sl 20, .sl 22]),(24, .sus [(3, .one (.ptr 8 0)),(4, .one (.ptr 9 0)),(7, .one (.ptr 23 0))]),(25, .box 31 [.int .i64 tk, .int .i64 st, .sl 14, .sl 16, .sl 18, .sl 20, .sl 22]),(26, .box 37 [.int .i64 n, .str Jh, .sl 5, .sl 6, .str tx]),(27, .box 31 Jjs),(14, .imm 98 Xc S),(16, .imm 102 Yn O),(18, .imm 104 Xx M),(20, .imm 106 Xi X),(22, .imm 108 Yv Q)]⟩,inv:=fun k=>k≤X.length∧(X.any fun x=>decide (x.2.2.1.2≤vs.getD 1 0)&&Vs Q x.1)=((X.drop k).any fun x=>decide (x.2.2.1.2≤vs.getD 1 0)&&Vs Q x.1),mu:=fun k=>X.length-k}
def J8v (a:List Out) (b:Nat):=(Jyl a b).2
def Krj (a:List Out) (b:Nat) (c:Li):=decide (J8v a b≤Z94 c)
def Kqr (a:List Out) (b:Nat) (c:Li):=Krj a b c=true
def Kay (a:Nat) (b:List Out) (c:Li) (d:List Per):=a≤List.length b∧(List.any b fun(x:Out)=>decide (x.2.2.1.2≤Z94 c)&&Vs d x.1)=List.any (List.drop a b) fun(x:Out)=>decide (x.2.2.1.2≤Z94 c)&&Vs d x.1
def Kns (a:Li) (b:Int) (c:List Sta) (d:List Ord) (e:List Met) (f:List Out) (g:List Per) (h i:Int) (j:Ls) (k:Bt):=Z84 a∧Sf true (Jbt a b c d e f g=V8 (Z62 h b c d e f g) (Z26 i j a k)∧32=Uu (Z62 h b c d e f g) (Z26 i j a k))
def Klo (a:Ls) (b:Li) (c:Int) (d:Bt) (e f:Int) (g:List Sta) (h:List Ord) (i:List Met) (j:List Out) (k:List Per):=Sf a (Sf b (Si c (Sf Jh (Sf d (Si 0 (Si 0 (Sf Jr (Sf Jr (Sf Jr (Sf Jr (Sf Jr (Si e (Si f (Si e (Si f (Si c (Sf Jh (Sf d (Si 0 (Si 0 (Sf Jr (Sf Jr (Sf Jr (Sf Jr (Sf Jr (Sf g (Sf h (Sf i (Sf j (k=k))))))))))))))))))))))))))))))
theorem Jj2:wpFG Tryz.prog Jpi.g Hv (Xg (some (Jd4 tk st S O M X Q n ns vs tx))) (Sx.look ([(48,Tryz.f48),(49,Tryz.f49),(50,Tryz.f50)]:List (Nat×Func))) Tryz.f22 Hu ((tk,st,S,O,M,X,Q),(n,Jh,ns,vs,tx),()):=by
 refine(by kernel_rfl:(Kf tk st S O M X Q→Jaw X→Z47 M→Ja (Z26 n ns vs tx)=0→Lb Jh J0=false→Z84 vs∧Br (Jf3 vs tk) (Sf true (Z62 tk st S O M X Q=V8 (Z62 tk st S O M X Q) (Z26 n ns vs tx)∧22=Uu (Z62 tk st S O M X Q) (Z26 n ns vs tx))) ((Kf tk st S O M X Q∧Sf true (List.length ns=0))∧Br (Jn (Z62 tk st S O M X Q) Jh ns !=0) (Sf true (Z62 tk st S O M X Q=V8 (Z62 tk st S O M X Q) (Z26 n ns vs tx)∧Jn (Z62 tk st S O M X Q) Jh ns=Uu (Z62 tk st S O M X Q) (Z26 n ns vs tx))) (Jf1 S∧Jfy O∧Jfz M∧Jf0 X∧Jf2 Q∧T2 (Z34 vs) (T2 (J84 vs st=false→Z34 vs) (Kdm vs st))∧Br (Kb2 vs st) (Z84 vs∧Sf true (Jbt vs st S O M X Q=V8 (Z62 tk st S O M X Q) (Z26 n ns vs tx)∧14=Uu (Z62 tk st S O M X Q) (Z26 n ns vs tx))) (T2 (Z34 vs) (Kf tk st S O M X Q)∧Br (decide (0<Ln (V3 M (Z94 vs) O))) (Kns vs st S O M X Q tk n ns tx) (∃(x:Nat),(0=Nc x∧Klo ns vs n tx tk st S O M X Q)∧Kay x X vs Q∧∀(x:Nat),Kay x X vs Q→Br (Z98 x X) (T2 (Z27 x X) (T2 (Z34 vs) (T2 (Kqr X x vs→Z27 x X) (Kqr X x vs→Z49 Q)))∧Br (bif Krj X x vs then Vs Q (Juq X x) else false) (Kns vs st S O M X Q tk n ns tx) (Z25 x∧∃(y:Nat),(Z93 x y∧Klo ns vs n tx tk st S O M X Q)∧Kay y X vs Q∧Jus X y x)) (Z86 vs∧Z84 vs∧Sf true ((Z95 vs,Z94 vs,S,O,M,X,Q)=V8 (Z62 tk st S O M X Q) (Z26 n ns vs tx)∧0=Uu (Z62 tk st S O M X Q) (Z26 n ns vs tx))))))))=_).mp ?_
 delta Z25 Z26 Z27 Z34 Z36 Z47 Z49 Z62 Z84 Z86 Z93 Z94 Z95 Z98 Kf Jr Jel J84 Jf3 Jus Jf2 Jf1 Jf0 Jfz Jfy Jbt J17 Juq Jyl J8v Kdm Krj Kqr Kb2 Kay Kns Klo Br Iw Bd T2 Tw Sf Si Ln Nc B0 Lb Jh J0
 intro hr hu hm hc _
 obtain⟨hn,hv,nS,nO,nX,nQ,hx⟩:=Juh hr hc
 simp only[Va,List.length_cons,List.length_nil] at hn hv nS nO nX nQ hx
 have cE:ckS (tk,st,S,O,M,X,Q) (n,Jh,ns,vs,tx)=Ht st O M X Q vs:=by simp only[ckS,Va]
 have sE:Jv (tk,st,S,O,M,X,Q) (n,Jh,ns,vs,tx)=(vs.getD 0 0,(Fr (tk,st,S,O,M,X,Q) (n,Jh,ns,vs,tx)).2):=by simp only[Jv,doS,Va]
 have lE:=Jzy (Q:=Q) (u:=vs.getD 1 0) hu hr.per
 have v1:=hx 1 (by omega)
 simp only[List.nil_append,rcb,rcS,rcO,rcX,rcQ,Prod.eta]
 repeat' first|exact lfT ‹_›|exact lfN ‹_› ‹_›|exact lfA ‹_› ‹_› (cE.trans (by clear cE sE hx hc;simp only[Ht,Bool.true_or,Bool.false_or,Zm,List.nil_append, *,cond_true,cond_false,reduceIte,decide_true,decide_false,Bool.not_true,Bool.not_false,Int.reduceEq,Int.reduceNe,ne_eq,not_false_eq_true,not_true_eq_false];first|done|rfl|decide)) (by first|exact .inl ⟨by decide,rfl⟩|exact .inl ⟨bne_iff_ne.mp ‹_›,rfl⟩|exact .inr ⟨rfl,sE.trans (by first|rfl|simp only[Fr,List.nil_append])⟩)|(refine⟨(0:Nat),by(repeat' first|exact rfl|exact⟨⟩|apply And.intro|omega|dsimp only;omega),⟨Nat.zero_le _,rfl⟩,fun(k:Nat) hk=>⟨fun h1=> ?_,fun h1=> ?_⟩⟩;obtain⟨k1,k2⟩:=hk;replace h1:=of_decide_eq_true h1;rw[Jo (d:=(Jd,Jd,(0,0),0)) (by omega),List.any_cons] at k2;rw[Kya] at k2;rotate_left;obtain⟨k1,k2⟩:=hk;replace h1:=of_decide_eq_false h1;rw[List.drop_eq_nil_of_le (by omega),List.any_nil] at k2)|(refine⟨(k+1:Nat),by(repeat' first|exact rfl|exact⟨⟩|apply And.intro|omega|dsimp only;omega),⟨by omega, ?_⟩,by omega⟩;rw[k2,show(bif decide ((X.getD k (Jd,Jd,(0,0),0)).2.2.1.2≤vs.getD 1 0) then Vs Q (X.getD k (Jd,Jd,(0,0),0)).1 else false)=false from ‹_›];rfl)|apply And.intro|intro _
 all_goals first|omega|trivial|assumption
def Jpk (k:ByteArray):Nat:=if k=Jz then 1 else if k=Ke then 2 else if k=Jh then 3 else 0
def Jtv (tk st:Int) (S:List Sta) (O:List Ord) (M:List Met) (X:List Out) (Q:List Per) (n:Int) (ns:List ByteArray) (vs:List Int) (tx:ByteArray):Nat→Option Ann
 |1=>some (Jd5 tk st S O M X Q n ns vs tx)
 |2=>some (Jfx tk st S O M X Q n ns vs tx)
 |3=>some (Jd4 tk st S O M X Q n ns vs tx)
 |_=>none
def Jtw:ATup [Y9,aEv]→Option Ann
 |((tk,st,S,O,M,X,Q),(n,k,ns,vs,tx),())=>Jtv tk st S O M X Q n ns vs tx (Jpk k)
theorem Ju8 {Γ:Gam} {ann:Nat→Option Ann} {annF:FuncId→Nat→Option Ann} {lib:FuncId→Option Func} {fn:Func} {c:Con} {x:ATup c.args} (hb:fn.body.isSome=true) (h:K6 (c.pre x)→wpFG Tryz.prog Γ ann annF lib fn c x):wpFG Tryz.prog Γ ann annF lib fn c x:=by
 unfold wpFG at h⊢
 cases hc:fn.body with
 |none=>rw[hc] at hb;cases hb
 |some code=>
  rw[hc] at h
  exact Jde h
theorem Da {tk st:Int} {S:List Sta} {O:List Ord} {M:List Met} {X:List Out} {Q:List Per} {n:Int} {k:ByteArray} {ns:List ByteArray} {vs:List Int} {tx:ByteArray} {i:Nat} (h:Jpk k=i):Jtw ((tk,st,S,O,M,X,Q),(n,k,ns,vs,tx),())=Jtv tk st S O M X Q n ns vs tx i:=by rw[←h];rfl
theorem Kvh:∀x:ATup [Y9,aEv],wpFG Tryz.prog Jpi.g Hv (Xg (Jtw x)) (Sx.look ([(48,Tryz.f48),(49,Tryz.f49),(50,Tryz.f50)]:List (Nat×Func))) Tryz.f22 Hu x
 | ((tk, st, S, O, M, X, Q), (n, k, ns, vs, tx), ()) => by
  refine Ju8 (by kernel_rfl) fun hp=> ?_
  have hc:Ja (n,k,ns,vs,tx)=0:=hp.2.2.2.1
  rcases U3 (J2 hc).kind with h|h|h|h|h|h|h|h|h|h|h<;>dsimp only at h<;>subst h
  ·have h4:(J0.toList==J0.toList)=false:=hp.2.2.2.2
   rw[show(J0.toList==J0.toList)=true from by kernel_rfl] at h4
   cases h4
  ·rw[Da (show Jpk Ju=0 from by kernel_rfl)];exact Jh1 tk st S O M X Q n ns vs tx
  ·rw[Da (show Jpk Kx=0 from by kernel_rfl)];exact Jn6 tk st S O M X Q n ns vs tx
  ·rw[Da (show Jpk Ke=2 from by kernel_rfl)];exact Jn7 tk st S O M X Q n ns vs tx
  ·rw[Da (show Jpk Ks=0 from by kernel_rfl)];exact Jn8 tk st S O M X Q n ns vs tx
  ·rw[Da (show Jpk Vj=0 from by kernel_rfl)];exact Jp7 tk st S O M X Q n ns vs tx
  ·rw[Da (show Jpk Jz=1 from by kernel_rfl)];exact Jj5 tk st S O M X Q n ns vs tx
  ·rw[Da (show Jpk Jw=0 from by kernel_rfl)];exact Jh2 tk st S O M X Q n ns vs tx
  ·rw[Da (show Jpk Kj=0 from by kernel_rfl)];exact Jj4 tk st S O M X Q n ns vs tx
  ·rw[Da (show Jpk Ki=0 from by kernel_rfl)];exact Jj3 tk st S O M X Q n ns vs tx
  ·rw[Da (show Jpk Jh=3 from by kernel_rfl)];exact Jj2 tk st S O M X Q n ns vs tx
theorem Kw9:Ok Tryz.prog 22 Hu:=Jc2 mixed Jpi.ok (by kernel_rfl) (by kernel_rfl) (Uq (l:=([(48,Tryz.f48),(49,Tryz.f49),(50,Tryz.f50)]:List (Nat×Func))) (List.forall_mem_cons.2 ⟨by kernel_rfl,List.forall_mem_cons.2 ⟨by kernel_rfl,List.forall_mem_cons.2 ⟨by kernel_rfl,by simp⟩⟩⟩)) (fun _=>Hv) (fun xx=>Xg (Jtw xx)) fun xx=>Kvh xx
abbrev Kt9:=Jpi.add Kw9
theorem Jlh {h:J8} {e:Ev} (h1:e.1=(h.1.length:Int)+1) (h2:(e.2.1.toList==J0.toList)=false):Hf h e=Uu (Uv h.2.2) e:=by
 unfold Hf Uu Jn
 rw[bne_eq_false_iff_eq.2 h1,h2]
 dsimp only[cond_false]
 cases h3:decide (e.2.2.2.1.getD 0 0<(Uv h.2.2).1) with
 |true=>rw[if_pos rfl];rfl
 | false =>
  rw[if_neg (by simp)]
  cases h4:Kd (Uv h.2.2) e.2.2.1 (Jj e.2.1).1 0 with
  |true=>rw[if_pos (by simp)];rfl
  |false=>
   cases h5:Kp (Uv h.2.2) e.2.2.1 (Jj e.2.1).1 0 with
   |true=>rw[if_pos (by simp)];rfl
   |false=>rw[if_neg (by simp)];rfl
theorem Jw6 {r:Reg} {e:Ev} (h:Uu r e=0):V8 r e=Jv r e:=by
 unfold Uu at h
 unfold V8
 by_cases a:decide (e.2.2.2.1.getD 0 0<r.1)=true
 ·rw[if_pos a] at h;exact absurd h (by decide)
 rw[if_neg a] at h⊢
 by_cases b:Jn r e.2.1 e.2.2.1≠0
 ·rw[if_pos b] at h;exact absurd h b
 rw[if_neg b] at h⊢
 rw[if_neg (by rw[h];simp)]
def Jlt (h:J8):Prop:=∀r∈h.2.2,Jaw r.2.2.2.2.2.1
theorem Jrm {h:J8} (hu:Jlt h):Jaw (Uv h.2.2).2.2.2.2.2.1:=by
 unfold Uv
 by_cases h0:0<h.2.2.length
 ·exact hu _ (Je (by omega))
 ·have:h.2.2=[]:=List.eq_nil_of_length_eq_zero (by omega)
  rw[this];exact List.nodup_nil
theorem Jve {r:Reg} {e:Ev} (hu:Jaw r.2.2.2.2.2.1) (hk:V4 e.2.1=true) (h1:Kd r e.2.2.1 (Jj e.2.1).1 0=false) (h2:Kp r e.2.2.1 (Jj e.2.1).1 0=false):Jaw (Jv r e).2.2.2.2.2.1:=by
 obtain⟨tk,st,S,O,M,X,Q⟩:=r
 obtain⟨n,k,ns,vs,tx⟩:=e
 have hu:Jaw X:=hu
 dsimp only at hk h1 h2
 rcases U3 hk with h|h|h|h|h|h|h|h|h|h|h<;>subst h
 ·simp only[Jv,doS,Jr8];exact hu
 ·simp only[Jv,doS,Us];exact hu
 ·simp only[Jv,doS,Vx];exact hu
 ·simp only[Jv,doS,Vy];exact hu
 ·simp only[Jv,doS,Vz];exact hu
 ·simp only[Jv,doS,Xe];exact hu
 ·rw[Ut] at h2
  unfold Kp at h2
  have h3:Ze (tk,st,S,O,M,X,Q) 2 (ns.getD 0 Jd)=false:=by
   cases q:Ze (tk,st,S,O,M,X,Q) 2 (ns.getD 0 Jd) with
   |false=>rfl
   |true=>rw[q] at h2;cases h2
  rw[Jdh] at h3
  have h3:=of_decide_eq_false h3
  simp only[Jv,doS,Ut]
  exact Jn9 hu (by dsimp only at h3⊢;omega)
 ·rw[K5] at h1
  have h3:=Jz4 ((Jm h1).1 rfl)
  simp only[Jv,doS,K5]
  exact Jy8 hu h3
 ·simp only[Jv,doS,U1];exact hu
 ·simp only[Jv,doS,U0];exact hu
 ·simp only[Jv,doS,Va];exact hu
theorem Jt5 {h:J8} {e:Ev} (hk:(e.2.1.toList==J0.toList)=false) (ha:Hf h e=0):Kd (Uv h.2.2) e.2.2.1 (Jj e.2.1).1 0=false∧Kp (Uv h.2.2) e.2.2.1 (Jj e.2.1).1 0=false:=by
 obtain⟨n,k,ns,vs,tx⟩:=e
 have:=F0 ((Ym (h:=h) (n:=n) (k:=k) (ns:=ns) (vs:=vs) (tx:=tx) hk).symm.trans ha)
 exact⟨this.2.2.1,this.2.2.2.1⟩
theorem Jt2 {h:J8} {e:Ev} (hu:Jlt h) (ha:Kn h e=0):Jlt (Zd h e):=by
 obtain⟨hc,hacc⟩:=add_zero ha
 intro r hr
 unfold Zd at hr
 cases hk:e.2.1.toList==J0.toList with
 |true=>
  rw[hk,cond_true] at hr
  exact hu r (List.mem_of_mem_take hr)
 | false =>
  rw[hk,cond_false] at hr
  rcases Xo hr with hr|hr
  ·exact hu r hr
  ·subst hr
   have:=Jt5 hk hacc
   exact Jve (Jrm hu) (J2 hc).kind this.1 this.2
def L5 (l:List Ev):List Ev:=if(Jb l).2.2=0 then(Jb l).1.2.1 else[]
def Kxr:Con:={args:=[.val false (.list 37 sEv)],ress:=[(false, .list 37 sEv),(true,Jie),I,I],owns:=[],pre:=fun(l,_)=>[lOk l],spec:=fun(l,_)=>(L5 l,Ui l,(Jb l).2.1,(Jb l).2.2,())}
abbrev J6i (l:List Ev):Ann:={X:=J8×Nat,σ:=fun(h,i)=>⟨4,[(0, .one (.sl 0)),(3, .one (.ptr 1 0)),(6, .one (.sl 2)),(7, .one (.sl 3)),(8, .one (.int .i64 i))],[(0, .imm 37 sEv l),(1, .box 31 Jjs),(2, .own 37 sEv h.2.1),(3, .own 31 Jie (Vq::h.2.2))]⟩,inv:=fun(h,i)=>Yb h∧Jlt h∧h.1.length=i∧i≤l.length∧l.length≤1000∧Vp h (l.drop i)=Jb l,mu:=fun(_,i)=>l.length-i}
theorem Jse:Jlt Xf:=fun _ h=>(by cases h)
theorem Kxl {C:List Ev} {G:List Reg} (h:G.length=C.length):(Vq::G).getD C.length Vq=Uv G:=by
 unfold Uv
 rw[←h]
 cases G with
 |nil=>rfl
 |cons a G=>rfl
theorem J4p {h:J8} {e:Ev} {l l':List Ev} {v:Int} (hr:Vp h (e::l')=Jb l) (ha:Kn h e=v) (hv:v≠0):[]=L5 l∧Vq=Ui l∧(h.1.length:Int)+1=(Jb l).2.1∧v=(Jb l).2.2:=by
 unfold Vp at hr
 rw[if_neg (by rw[ha];exact hv),ha] at hr
 refine⟨?_, ?_,by rw[←hr],by rw[←hr]⟩
 ·unfold L5;rw[←hr,if_neg (by exact hv)]
 ·unfold Ui;rw[←hr,if_neg (by exact hv)]
theorem Jqx {h:J8} {e:Ev} {l l':List Ev} (hr:Vp h (e::l')=Jb l) (ha:Kn h e=0):Vp (Zd h e) l'=Jb l:=by
 unfold Vp at hr
 rwa[if_pos ha] at hr
theorem J6v {E C:List Ev} {G:List Reg} {e:Ev} {k:Nat} (hk:E.length=k):Kn (E,C,G) e=bif (bif Ja e==0 then e.1 !=(k:Int)+1 else false) then 11 else bif (bif Ja e==0 then e.2.1.toList==J0.toList else false) then(bif (C.length:Int)==0 then 12 else bif (C.getD (C.length-1) ev0).2.1.toList==Jh.toList then 21 else 0) else bif Ja e==0 then Uu (Uv G) e else Ja e:=by
 subst hk
 unfold Kn
 by_cases hc:Ja e=0
 ·rw[if_neg (by rw[hc];simp),hc,show((0:Int)==0)=true from rfl,cond_true,cond_true,cond_true]
  cases h1:e.1 !=(E.length:Int)+1 with
  |true=>unfold Hf;rw[h1];rfl
  |false=>
   cases h2:e.2.1.toList==J0.toList with
   |true=>unfold Hf;rw[h1,h2];rfl
   |false=>rw[cond_false,cond_false];exact Jlh (h:=(E,C,G)) (bne_eq_false_iff_eq.1 h1) h2
 ·rw[if_pos hc,beq_false_of_ne hc,cond_false,cond_false,cond_false];rfl
def Z64 (a:J8×Nat):=Ln a.1.2.1-1
def Ksg (a:List Ev) (b:J8×Nat):=Lb (Jyj a b).1 J0
def Kr6:=[Yq]
def Kpi (a:J8×Nat):=List.getD (Vq::a.1.2.2) (List.length a.1.2.1) Yq
def Kpe (a:J8×Nat):=(Kpi a).2
def Kpd (a:J8×Nat):=(Kpe a).2
def Kpc (a:J8×Nat):=(0+List.length (Vq::a.1.2.2))*136≤140737488355328∧(List.length (Vq::a.1.2.2)+1)*136≤140737488355328
def Kpb (a:J8×Nat):=(Kpd a).2
def Kca (a:J8×Nat):=(Kpb a).2
def Ko9 (a:J8×Nat):=(Kca a).2
def Ko3 (a:J8×Nat) (b:List Ev):=(0+List.length a.1.2.1)*88≤140737488355328∧T2 (Z35 a b) ((List.length a.1.2.1+1)*88≤140737488355328)
def Kox (a:(List Ev×List Ev×List Reg)×Nat) (b:List Ev):=Yb a.1∧Jlt a.1∧J1r a b
def Ka3 (a:(List Ev×List Ev×List Reg)×Nat) (b:List Ev) (c:J8×Nat):=Kox a b∧List.length b-a.2<List.length b-c.2
def J7b (a:List Ev) (b:J8×Nat):=Ja (Jpq a b)
def J69 (a:List Ev) (b:J8×Nat):=J7b a b==0
def Kna (a:List Ev) (b:J8×Nat):=J69 a b=true
def Km8 (a:J8×Nat) (b:List Ev) (c:(List Ev×List Ev×List Reg)×Nat):=a.1.2.1++[Jpq b a]=c.1.2.1
def Km1 (a:List Ev) (b:J8×Nat):=Kna a b→Z35 b a
def J63 (a:J8×Nat):=((Kpi a).1,(Kpe a).1,(Kpd a).1,(Kpb a).1,(Kca a).1,E2 (Ko9 a))
def Kkc (a:J8×Nat) (b:List Ev):=V8 (J63 a) (Jpq b a)
def Kkb (a:J8×Nat) (b:List Ev):=Uu (J63 a) (Jpq b a)
def Kka (a:J8×Nat) (b:List Ev):=(Kkc a b).2
def Kj9 (a:J8×Nat) (b:List Ev):=(Kka a b).2
def Kj8 (a:J8×Nat) (b:List Ev):=(Kj9 a b).2
def Kj7 (a:J8×Nat) (b:List Ev):=(Kj8 a b).2
def J60 (a:J8×Nat) (b:List Ev):=Ko3 a b∧Kpc a∧Z41 a∧∃(y:(List Ev×List Ev×List Reg)×Nat),(Jnw a y∧Sf b (Si 0 (Si 0 (Sf Jr (Sf Jr (Sf Jr (Sf Jr (Sf Jr (Km8 a b y∧Vq::(a.1.2.2++Kr6)=Vq::y.1.2.2)))))))))∧Ka3 y b a
def J6x (a:J8×Nat) (b:List Ev):=T2 (Bd (Ln a.1.2.1) (Ln (Vq::a.1.2.2))) (T2 (Z35 a b) (Js (J63 a)∧Jaw (Ko9 a).1∧List.length (Kca a).1<10000∧J7b b a=0∧Ksg b a=false))∧Br (Kkb a b !=0) (Z41 a∧[]=L5 b∧Jln b∧Jyz a b∧Kkb a b=(Jb b).2.2) (Ko3 a b∧Kpc a∧Z41 a∧∃(y:(List Ev×List Ev×List Reg)×Nat),(Jnw a y∧Sf b (Si 0 (Si 0 (Sf Jr (Sf Jr (Sf Jr (Sf Jr (Sf Jr (Km8 a b y∧Vq::(a.1.2.2++[((Kkc a b).1,(Kka a b).1,(Kj9 a b).1,(Kj8 a b).1,(Kj7 a b).1,E2 (Kj7 a b).2)])=Vq::y.1.2.2)))))))))∧Ka3 y b a)
def Kja (a:J8×Nat) (b:List Ev):=Br (Ln a.1.2.1==0) (Br false (J6x a b) (Br true (Z41 a∧[]=L5 b∧Jln b∧Jyz a b∧12=(Jb b).2.2) (J60 a b))) ((Iw (Z64 a)∧Tw (Bd (Z64 a) (Ln a.1.2.1)))∧Br (Lb (Gt a.1.2.1 (Z64 a) H2).2.1 Jh) (Br false (J6x a b) (Br true (Z41 a∧[]=L5 b∧Jln b∧Jyz a b∧21=(Jb b).2.2) (J60 a b))) ((Iw (Z64 a)∧(0≤Z64 a∧Z64 a≤Ln a.1.2.1)∧0≤Ln a.1.2.1∧Ln a.1.2.1≤Ln (Vq::a.1.2.2))∧Z41 a∧∃(y:(List Ev×List Ev×List Reg)×Nat),(Jnw a y∧Sf b (Si 0 (Si 0 (Sf Jr (Sf Jr (Sf Jr (Sf Jr (Sf Jr (List.take (Int.toNat (Z64 a)) a.1.2.1=y.1.2.1∧List.take (List.length a.1.2.1) (Vq::a.1.2.2)=Vq::y.1.2.2)))))))))∧Ka3 y b a))
theorem ok6:Ok Tryz.prog 6 Kxr:=okW Kt9 Tryz.f6 (fun xx=>Ho (J6i xx.1)) fun xx=>by
 obtain⟨(l:List Ev),_⟩:=xx
 refine(by kernel_rfl:(lOk l→Br (Z89 l) ([]=L5 l∧Kbi l) (∃(x:(List Ev×List Ev×List Reg)×Nat),(0=Nc x.2∧Sf l (Si 0 (Si 0 (Sf Jr (Sf Jr (Sf Jr (Sf Jr (Sf Jr (List.length x.1.2.1=0∧Kr6=Vq::x.1.2.2)))))))))∧Kox x l∧∀(x:J8×Nat),Yb x.1∧Jlt x.1∧J1q x l→Br (Ju1 x l) (T2 (Z35 x l) (List.length (Jup l x).1≤1000000∧List.length (Jup l x).2.1≤1000000∧∀(s:ByteArray),s∈(Jup l x).1→ByteArray.size s≤1000000)∧T2 (Km1 l x) (Kna l x→Z41 x)∧Br (bif J69 l x then(Jyk l x).1 !=Nc x.2+1 else false) (Tw (false=true→Z35 x l)∧Br false (Kja x l) (Br false (J6x x l) (Br true (Z41 x∧[]=L5 l∧Jln l∧Jyz x l∧11=(Jb l).2.2) (J60 x l)))) (Tw (Km1 l x)∧Br (bif J69 l x then Ksg l x else false) (Kja x l) (Br (J69 l x) (J6x x l) (Br (J7b l x !=0) (Z41 x∧[]=L5 l∧Jln l∧Jyz x l∧J7b l x=(Jb l).2.2) (J60 x l))))) (Tw (Bd (Ln x.1.2.1) (Ln (Vq::x.1.2.2)))∧x.1.2.1=L5 l∧J63 x=Ui l∧J8x l)))=_).mp ?_
 delta Z35 Z41 Z64 Z89 Ju1 Jnw Jr Jyz H2 J8x Jyk Jyj Jup Fb Yq Ksg Kr6 Jln Kpi Kpe Kpd Kpc J1r Kpb J1q Kca Ko9 Ko3 Kbi Kox Ka3 Jpq J7b J69 Kna Km8 Km1 J63 Kkc Kkb Kka Kj9 Kj8 Kj7 J60 J6x Kja Br Iw Bd T2 Tw Sf Si Ln Nc Gt B0 Lb E2 Jh J0
 intro hl
 have hbn:({data:={toList:=[]}}:ByteArray)=Jd:=rfl
 have hev:((0:Int),Jd,([]:List ByteArray),([]:List Int),Jd)=ev0:=rfl
 have hrg:((0:Int),(0:Int),([]:List Sta),([]:List Ord),([]:List Met),([]:List Out),([]:List Per))=Vq:=rfl
 have hun:({data:={toList:=[117,110,100,111]}}:ByteArray)=J0:=rfl
 have hse:({data:={toList:=[115,101,116,116,108,101]}}:ByteArray)=Jh:=rfl
 simp only[hbn,hev,hrg,hun,hse,Prod.eta,Bool.false_eq_true,Bool.true_eq_false,false_implies,true_implies,true_and,and_true]
 refine⟨fun h=> ?_,fun h=>⟨(([],[],[]),(0:Nat)),by(repeat' first|exact rfl|exact⟨⟩|apply And.intro|omega|dsimp only;omega), ?_,fun(x:J8×Nat) hk=> ?_⟩⟩
 ·have e:Jb l=(Xf,0,5):=by unfold Jb;rw[if_pos (by have:=of_decide_eq_true h;omega)]
  refine⟨?_, ?_,by rw[e],by rw[e]⟩
  ·unfold L5;rw[e];rfl
  ·unfold Ui;rw[e];rfl
 ·have hn:l.length≤1000:=by have:=of_decide_eq_false h;omega
  exact⟨V0,Jse,rfl,Nat.zero_le _,hn,by unfold Jb;rw[if_neg (by omega)];rfl⟩
 ·obtain⟨⟨E,C,G⟩,k⟩:=x
  obtain⟨hI,hU,hk1,hk2,hk3,hk4⟩:=hk
  dsimp only at hI hU hk1 hk2 hk3 hk4⊢
  have hG:G.length=C.length:=hI.ok.nG
  have hC:C.length≤E.length:=hI.ok.nC
  have hN:=Kxl hG
  have hR:Js (Uv G):=De hI.ok
  have hUx:Jaw (Uv G).2.2.2.2.2.1:=Jrm (h:=(E,C,G)) hU
  have hM:(Uv G).2.2.2.2.1.length≤E.length:=Jrn hI
  simp only[hN]
  refine⟨fun hlt=> ?_,fun hge=> ?_⟩
  ·have hlt:(k:Int)<l.length:=of_decide_eq_true hlt
   have hz:=hl.2 _ (Je (d:=ev0) (show k<l.length by omega))
   rw[Jo (d:=ev0) (by omega)] at hk4
   generalize l.getD k ev0=e at*
   have hA:=J6v (C:=C) (G:=G) (e:=e) hk1
   have hT:((C.length:Int)-1).toNat=C.length-1:=by omega
   rw[hT]
   have hi64:(-9223372036854775808≤(k:Int)+1∧(k:Int)+1≤9223372036854775807):=⟨by omega,by omega⟩
   have hkk:(0≤(k:Int)∧(k:Int)<l.length):=⟨by omega,hlt⟩
   have no:∀v,Kn (E,C,G) e=v→v≠0→[]=L5 l∧Vq=Ui l∧(k:Int)+1=(Jb l).2.1∧v=(Jb l).2.2:=fun v p q=>by
    have:=J4p hk4 p q
    dsimp only at this
    rwa[hk1] at this
   have len1:((Vq::G).length:Int)=G.length+1:=by simp
   have len2:(Vq::G).length=G.length+1:=by simp
   refine⟨⟨hkk,hkk,hz⟩,⟨fun _=>hkk,fun _=>hkk,fun _=>hi64⟩,fun a=>⟨hi64,no 11 (by rw[hA,a];rfl) (by decide)⟩,fun a=>⟨⟨fun _=>hkk,fun _=>hkk⟩,fun b=>⟨fun c=>⟨hi64,no 12 (by rw[hA,a,b,c];rfl) (by decide)⟩,fun c=> ?_⟩,fun b=>⟨fun c=> ?_,fun c=> ?_⟩⟩⟩
   ·have c0:(C.length:Int)≠0:=by simpa using c
    refine⟨⟨⟨by omega,by omega⟩,⟨by omega,by omega⟩,by omega,by omega⟩,fun d=>⟨hi64,no 21 (by rw[hA,a,b,c,d];rfl) (by decide)⟩,fun d=> ?_⟩
    have ha:Kn (E,C,G) e=0:=by rw[hA,a,b,c,d];rfl
    have hu:(e.2.1.toList==J0.toList)=true:=by
     cases q:Ja e==0 with
     |true=>rw[q] at b;exact b
     |false=>rw[q] at b;cases b
    have eH:Zd (E,C,G) e=(E++[e],C.take (C.length-1),G.take (C.length-1)):=by unfold Zd;rw[hu,cond_true]
    refine⟨⟨⟨by omega,by omega⟩,⟨by omega,by omega⟩,by omega,by omega⟩,hi64,(Zd (E,C,G) e,k+1),⟨by push_cast;rfl,by rw[eH], ?_⟩,⟨Fz hI (by show E.length<1000;omega) ha,Jt2 hU ha,by rw[Y4];show E.length+1=k+1;omega,by show k+1≤l.length;omega,hk3,Jqx hk4 ha⟩,by show l.length-(k+1)<_;omega⟩
    rw[eH]
    have q:C.length=(C.length-1)+1:=by omega
    show List.take C.length (Vq::G)=Vq::G.take (C.length-1)
    conv=>lhs;rw[q]
    rfl
   ·have c0:Ja e=0:=by simpa using c
    have hu:(e.2.1.toList==J0.toList)=false:=by rw[c] at b;exact b
    have hA2:Kn (E,C,G) e=Uu (Uv G) e:=by rw[hA,a,b,c];rfl
    refine⟨⟨⟨by omega,by omega⟩,⟨by omega,by omega⟩,hkk,hkk,hR,hUx,Nat.lt_of_le_of_lt hM (by omega),c0,hu⟩,fun d=>⟨hi64,no _ hA2 (bne_iff_ne.1 d)⟩,fun d=> ?_⟩
    have d0:Uu (Uv G) e=0:=bne_eq_false_iff_eq.1 d
    have ha:=hA2.trans d0
    have eH:Zd (E,C,G) e=(E++[e],C++[e],G++[Jv (Uv G) e]):=by unfold Zd;rw[hu,cond_false]
    refine⟨⟨by omega,hkk,hkk,by omega⟩,⟨by omega,by omega⟩,hi64,(Zd (E,C,G) e,k+1),⟨by push_cast;rfl,by rw[eH],by rw[eH,Jw6 d0]⟩,⟨Fz hI (by show E.length<1000;omega) ha,Jt2 hU ha,by rw[Y4];show E.length+1=k+1;omega,by show k+1≤l.length;omega,hk3,Jqx hk4 ha⟩,by show l.length-(k+1)<_;omega⟩
   ·have c0:Ja e≠0:=by simpa using c
    exact⟨fun d=>⟨hi64,no _ (by rw[hA,a,b,c];rfl) c0⟩,fun d=>absurd (bne_eq_false_iff_eq.1 d) c0⟩
  ·have hge:=of_decide_eq_false hge
   have:k=l.length:=by omega
   rw[this,List.drop_length,Vp] at hk4
   have eR:Ui l=Uv G:=by unfold Ui;rw[←hk4];rfl
   have eC:L5 l=C:=by unfold L5;rw[←hk4];rfl
   have len1:((Vq::G).length:Int)=G.length+1:=by simp
   exact⟨⟨⟨by omega,by omega⟩,by omega,by omega⟩,eC.symm,eR.symm,by rw[←hk4],by rw[←hk4]⟩
abbrev Kt8:=Kt9.add ok6
theorem Jqu {e:Ev} (h:Y5 e=true):e.2.1.size≤40∧e.2.2.1.length≤6∧e.2.2.2.1.length≤8∧e.2.2.2.2.size≤200∧∀s∈e.2.2.1,s.size≤40:=by
 unfold Y5 at h
 cases q:Jfn e with
 |true=>rw[q] at h;cases h
 |false=>
  rw[q,cond_false] at h
  unfold Jfn at q
  have q1:=bn1 q
  have q2:=bn1 q1.1
  have q3:=bn1 q2.1
  have a1:=of_decide_eq_false q1.2
  have a2:=of_decide_eq_false q2.2
  have a3:=of_decide_eq_false q3.2
  have a4:=of_decide_eq_false q3.1
  refine⟨by omega,by omega,by omega,by omega,fun s hs=> ?_⟩
  have:=List.all_eq_true.1 h s hs
  have:decide (40<(s.size:Int))=false:=by simpa using this
  have:=of_decide_eq_false this
  omega
theorem Jqt {l:List Ev} {n:Int} (hn:n≤1000) (h:Zf l n=true):lOk l∧(l.length:Int)≤n:=by
 unfold Zf at h
 cases q:decide (n<(l.length:Int)) with
 |true=>rw[q] at h;cases h
 |false=>
  rw[q,cond_false] at h
  have q:=of_decide_eq_false q
  refine⟨⟨by omega,fun e he=> ?_⟩,by omega⟩
  have b:=Jqu (List.all_eq_true.1 h e he)
  exact⟨by omega,by omega,fun s hs=>by have:=b.2.2.2.2 s hs;omega⟩
abbrev Ki4 (tk st:Int) (S:List Sta) (O:List Ord) (M:List Met) (X:List Out) (Q:List Per):Nat→Option Ann:=fun id=>if id=0 then some {X:=Nat,σ:=fun k=>⟨9,[(1, .one (.ptr 5 0)),(2, .one (.ptr 6 0)),(3, .one (.ptr 7 0)),(20, .one (.sl 0)),(21, .one (.int .i64 S.length)),(22, .one (.int .i64 k))],[(0, .imm 109 Xc S),(1, .imm 110 Yn O),(2, .imm 111 Xx M),(3, .imm 112 Xi X),(4, .imm 113 Yv Q),(5, .box 48 [.int .i64 tk, .int .i64 st, .sl 0, .sl 1, .sl 2, .sl 3, .sl 4]),(6, .box 31 Jjs),(7, .box 31 [.int .i64 tk, .int .i64 st, .sl 8, .val (.slice none 0 0), .val (.slice none 0 0), .val (.slice none 0 0), .val (.slice none 0 0)]),(8, .own 98 Xc (S.take k))]⟩,inv:=fun k=>k≤S.length,mu:=fun k=>S.length-k} else if id=2 then some {X:=Nat,σ:=fun k=>⟨10,[(1, .one (.ptr 5 0)),(2, .one (.ptr 6 0)),(3, .one (.ptr 7 0)),(34, .one (.sl 1)),(35, .one (.int .i64 O.length)),(36, .one (.int .i64 k))],[(0, .imm 109 Xc S),(1, .imm 110 Yn O),(2, .imm 111 Xx M),(3, .imm 112 Xi X),(4, .imm 113 Yv Q),(5, .box 48 [.int .i64 tk, .int .i64 st, .sl 0, .sl 1, .sl 2, .sl 3, .sl 4]),(6, .box 31 Jjs),(7, .box 31 [.int .i64 tk, .int .i64 st, .sl 8, .sl 9, .val (.slice none 0 0), .val (.slice none 0 0), .val (.slice none 0 0)]),(8, .own 98 Xc S),(9, .own 102 Yn (O.take k))]⟩,inv:=fun k=>k≤O.length,mu:=fun k=>O.length-k} else if id=4 then some {X:=Nat,σ:=fun k=>⟨11,[(1, .one (.ptr 5 0)),(2, .one (.ptr 6 0)),(3, .one (.ptr 7 0)),(48, .one (.sl 2)),(49, .one (.int .i64 M.length)),(50, .one (.int .i64 k))],[(0, .imm 109 Xc S),(1, .imm 110 Yn O),(2, .imm 111 Xx M),(3, .imm 112 Xi X),(4, .imm 113 Yv Q),(5, .box 48 [.int .i64 tk, .int .i64 st, .sl 0, .sl 1, .sl 2, .sl 3, .sl 4]),(6, .box 31 Jjs),(7, .box 31 [.int .i64 tk, .int .i64 st, .sl 8, .sl 9, .sl 10, .val (.slice none 0 0), .val (.slice none 0 0)]),(8, .own 98 Xc S),(9, .own 102 Yn O),(10, .own 104 Xx (M.take k))]⟩,inv:=fun k=>k≤M.length,mu:=fun k=>M.length-k} else if id=6 then some {X:=Nat,σ:=fun k=>⟨12,[(1, .one (.ptr 5 0)),(2, .one (.ptr 6 0)),(3, .one (.ptr 7 0)),(62, .one (.sl 3)),(63, .one (.int .i64 X.length)),(64, .one (.int .i64 k))],[(0, .imm 109 Xc S),(1, .imm 110 Yn O),(2, .imm 111 Xx M),(3, .imm 112 Xi X),(4, .imm 113 Yv Q),(5, .box 48 [.int .i64 tk, .int .i64 st, .sl 0, .sl 1, .sl 2, .sl 3, .sl 4]),(6, .box 31 Jjs),(7, .box 31 [.int .i64 tk, .int .i64 st, .sl 8, .sl 9, .sl 10, .sl 11, .val (.slice none 0 0)]),(8, .own 98 Xc S),(9, .own 102 Yn O),(10, .own 104 Xx M),(11, .own 106 Xi (X.take k))]⟩,inv:=fun k=>k≤X.length,mu:=fun k=>X.length-k} else if id=8 then some {X:=Nat,σ:=fun k=>⟨13,[(1, .one (.ptr 5 0)),(2, .one (.ptr 6 0)),(3, .one (.ptr 7 0)),(76, .one (.sl 4)),(77, .one (.int .i64 Q.length)),(78, .one (.int .i64 k))],[(0, .imm 109 Xc S),(1, .imm 110 Yn O),(2, .imm 111 Xx M),(3, .imm 112 Xi X),(4, .imm 113 Yv Q),(5, .box 48 [.int .i64 tk, .int .i64 st, .sl 0, .sl 1, .sl 2, .sl 3, .sl 4]),(6, .box 31 Jjs),(7, .box 31 [.int .i64 tk, .int .i64 st, .sl 8, .sl 9, .sl 10, .sl 11, .sl 12]),(8, .own 98 Xc S),(9, .own 102 Yn O),(10, .own 104 Xx M),(11, .own 106 Xi X),(12, .own 108 Yv (Q.take k))]⟩,inv:=fun k=>k≤Q.length,mu:=fun k=>Q.length-k} else none
def Kia:Con:={args:=[Jat],ress:=[(true,Jie)],owns:=[],pre:=fun((_,_,S,O,M,X,Q),_)=>[S.length≤1000000,O.length≤1000000,M.length≤1000000,X.length≤1000000,Q.length≤1000000],spec:=fun(r,_)=>(r,())}
theorem Kxh:Ok Tryz.prog 13 Kia:=okW Kt8 Tryz.f13 (fun xx=>Ki4 xx.1.1 xx.1.2.1 xx.1.2.2.1 xx.1.2.2.2.1 xx.1.2.2.2.2.1 xx.1.2.2.2.2.2.1 xx.1.2.2.2.2.2.2) fun xx=>by
 obtain⟨⟨(tk:Int),(st:Int),(S:List Sta),(O:List Ord),(M:List Met),(X:List Out),(Q:List Per)⟩,_⟩:=xx
 refine(by kernel_rfl:(Z53 S→Z61 O→Z58 M→Z54 X→Z49 Q→∃(x:Nat),Si (Ln S) (0=Nc x∧Sf S (Sf O (Sf M (Sf X (Sf Q (Si tk (Si st (Si 0 (Si 0 (Sf Jr (Sf Jr (Sf Jr (Sf Jr (Sf Jr (Si tk (Si st (Sf Jr (Sf Jr (Sf Jr (Sf Jr (List.length (List.take x S)=0)))))))))))))))))))))∧x≤List.length S∧∀(x:Nat),x≤List.length S→Br (decide (Nc x<Ln S)) (Tw (Bd (Nc x) (Ln S))∧(List.length (List.take x S)+1)*32≤140737488355328∧Z25 x∧∃(y:Nat),Si (Ln S) (Z93 x y∧Sf S (Sf O (Sf M (Sf X (Sf Q (Si tk (Si st (Si 0 (Si 0 (Sf Jr (Sf Jr (Sf Jr (Sf Jr (Sf Jr (Si tk (Si st (Sf Jr (Sf Jr (Sf Jr (Sf Jr (List.take x S++[Kc5 S x]=List.take y S)))))))))))))))))))))∧y≤List.length S∧Jyv S y x) (∃(x_1:Nat),Si (Ln O) (0=Nc x_1∧Sf S (Sf O (Sf M (Sf X (Sf Q (Si tk (Si st (Si 0 (Si 0 (Sf Jr (Sf Jr (Sf Jr (Sf Jr (Sf Jr (Si tk (Si st (Sf Jr (Sf Jr (Sf Jr (List.take x S=S∧List.length (List.take x_1 O)=0))))))))))))))))))))∧x_1≤List.length O∧∀(x:Nat),x≤List.length O→Br (Z97 x O) (Tw (Bd (Nc x) (Ln O))∧(List.length (List.take x O)+1)*88≤140737488355328∧Z25 x∧∃(y:Nat),Si (Ln O) (Z93 x y∧Sf S (Sf O (Sf M (Sf X (Sf Q (Si tk (Si st (Si 0 (Si 0 (Sf Jr (Sf Jr (Sf Jr (Sf Jr (Sf Jr (Si tk (Si st (Sf Jr (Sf Jr (Sf Jr (Sf S (List.take x O++[J67 O x]=List.take y O)))))))))))))))))))))∧J3s y O x) (∃(x_2:Nat),Si (Ln M) (0=Nc x_2∧Sf S (Sf O (Sf M (Sf X (Sf Q (Si tk (Si st (Si 0 (Si 0 (Sf Jr (Sf Jr (Sf Jr (Sf Jr (Sf Jr (Si tk (Si st (Sf Jr (Sf Jr (Sf S (List.take x O=O∧List.length (List.take x_2 M)=0))))))))))))))))))))∧x_2≤List.length M∧∀(x:Nat),x≤List.length M→Br (decide (Nc x<Ln M)) (Tw (Bd (Nc x) (Ln M))∧(List.length (List.take x M)+1)*40≤140737488355328∧Z25 x∧∃(y:Nat),Si (Ln M) (Z93 x y∧Sf S (Sf O (Sf M (Sf X (Sf Q (Si tk (Si st (Si 0 (Si 0 (Sf Jr (Sf Jr (Sf Jr (Sf Jr (Sf Jr (Si tk (Si st (Sf Jr (Sf Jr (Sf S (Sf O (List.take x M++[J3a M x]=List.take y M)))))))))))))))))))))∧y≤List.length M∧Jyu M y x) (∃(x_3:Nat),Si (Ln X) (0=Nc x_3∧Sf S (Sf O (Sf M (Sf X (Sf Q (Si tk (Si st (Si 0 (Si 0 (Sf Jr (Sf Jr (Sf Jr (Sf Jr (Sf Jr (Si tk (Si st (Sf Jr (Sf S (Sf O (List.take x M=M∧List.length (List.take x_3 X)=0))))))))))))))))))))∧x_3≤List.length X∧∀(x:Nat),x≤List.length X→Br (Z98 x X) (Tw (Z27 x X)∧(List.length (List.take x X)+1)*56≤140737488355328∧Z25 x∧∃(y:Nat),Si (Ln X) (Z93 x y∧Sf S (Sf O (Sf M (Sf X (Sf Q (Si tk (Si st (Si 0 (Si 0 (Sf Jr (Sf Jr (Sf Jr (Sf Jr (Sf Jr (Si tk (Si st (Sf Jr (Sf S (Sf O (Sf M (List.take x X++[Kaw X x]=List.take y X)))))))))))))))))))))∧y≤List.length X∧Jus X y x) (∃(x_4:Nat),Si (Ln Q) (0=Nc x_4∧Sf S (Sf O (Sf M (Sf X (Sf Q (Si tk (Si st (Si 0 (Si 0 (Sf Jr (Sf Jr (Sf Jr (Sf Jr (Sf Jr (Si tk (Si st (Sf S (Sf O (Sf M (List.take x X=X∧List.length (List.take x_4 Q)=0))))))))))))))))))))∧x_4≤List.length Q∧∀(x:Nat),x≤List.length Q→Br (Jpx x Q) (Tw (Z31 x Q)∧(List.length (List.take x Q)+1)*40≤140737488355328∧Z25 x∧∃(y:Nat),Si (Ln Q) (Z93 x y∧Sf S (Sf O (Sf M (Sf X (Sf Q (Si tk (Si st (Si 0 (Si 0 (Sf Jr (Sf Jr (Sf Jr (Sf Jr (Sf Jr (Si tk (Si st (Sf S (Sf O (Sf M (Sf X (List.take x Q++Kc1 Q x=List.take y Q)))))))))))))))))))))∧J1z y Q x) ((tk,st,S,O,M,X,List.take x Q)=Z62 tk st S O M X Q))))))=_).mp ?_
 delta Z19 Z25 Z27 Z31 Z49 Z53 Z54 Z58 Z61 Z62 Z72 Z93 Z97 Z98 Jpx Juz Juy Jxh Jr Jel Jyx Jyw Jyv Juu Jyu Jus J2b Jyq Jyo Jxf J17 Juq J32 Jyl J3z Jej J3s J1z J1y Jxc J3p J3o J1x J1w J3n J3m J1v J8c J1u J1t Kc5 Kc1 J3a Kaw J67 Br Iw Bd Tw Sf Si Ln Nc B0 E2
 intro hS hO hM hX hQ
 refine⟨(0:Nat),by simp,Nat.zero_le _,fun(k:Nat) hk=>⟨fun h=> ?_,fun h=> ?_⟩⟩
 ·have hlt:k<S.length:=by simpa using h
  refine⟨⟨⟨by omega,by omega⟩,by omega,by omega⟩,by rw[List.length_take];omega,⟨by omega,by omega⟩,(k+1:Nat), ?_,by omega,by omega⟩
  repeat' first|exact rfl|apply And.intro|exact K7 (d:=(Jd,0,0)) hlt|(push_cast;rfl)
 rw[List.take_of_length_le (by have:¬k<S.length:=(by simpa using h);omega)]
 clear h hk k
 refine⟨(0:Nat),by simp,Nat.zero_le _,fun(k:Nat) hk=>⟨fun h=> ?_,fun h=> ?_⟩⟩
 ·have hlt:k<O.length:=by simpa using h
  refine⟨⟨⟨by omega,by omega⟩,by omega,by omega⟩,by rw[List.length_take];omega,⟨by omega,by omega⟩,(k+1:Nat), ?_,by omega,by omega⟩
  repeat' first|exact rfl|apply And.intro|exact K7 (d:=(Jd,Jd,Jd,(0,0),0,0,0)) hlt|(push_cast;rfl)
 rw[List.take_of_length_le (by have:¬k<O.length:=(by simpa using h);omega)]
 clear h hk k
 refine⟨(0:Nat),by simp,Nat.zero_le _,fun(k:Nat) hk=>⟨fun h=> ?_,fun h=> ?_⟩⟩
 ·have hlt:k<M.length:=by simpa using h
  refine⟨⟨⟨by omega,by omega⟩,by omega,by omega⟩,by rw[List.length_take];omega,⟨by omega,by omega⟩,(k+1:Nat), ?_,by omega,by omega⟩
  repeat' first|exact rfl|apply And.intro|exact K7 (d:=(Jd,0,0,0)) hlt|(push_cast;rfl)
 rw[List.take_of_length_le (by have:¬k<M.length:=(by simpa using h);omega)]
 clear h hk k
 refine⟨(0:Nat),by simp,Nat.zero_le _,fun(k:Nat) hk=>⟨fun h=> ?_,fun h=> ?_⟩⟩
 ·have hlt:k<X.length:=by simpa using h
  refine⟨⟨⟨by omega,by omega⟩,by omega,by omega⟩,by rw[List.length_take];omega,⟨by omega,by omega⟩,(k+1:Nat), ?_,by omega,by omega⟩
  repeat' first|exact rfl|apply And.intro|exact K7 (d:=(Jd,Jd,(0,0),0)) hlt|(push_cast;rfl)
 rw[List.take_of_length_le (by have:¬k<X.length:=(by simpa using h);omega)]
 clear h hk k
 refine⟨(0:Nat),by simp,Nat.zero_le _,fun(k:Nat) hk=>⟨fun h=> ?_,fun h=> ?_⟩⟩
 ·have hlt:k<Q.length:=by simpa using h
  refine⟨⟨⟨by omega,by omega⟩,by omega,by omega⟩,by rw[List.length_take];omega,⟨by omega,by omega⟩,(k+1:Nat), ?_,by omega,by omega⟩
  repeat' first|exact rfl|apply And.intro|exact K7 (d:=(Jd,Jd,false)) hlt|(push_cast;rfl)
 rw[List.take_of_length_le (by have:¬k<Q.length:=(by simpa using h);omega)]
abbrev Kt7:=Kt8.add Kxh
abbrev Ki3 (tk st:Int) (S:List Sta) (O:List Ord) (M:List Met) (X:List Out) (Q:List Per) (tk2 st2:Int) (S2:List Sta) (O2:List Ord) (M2:List Met) (X2:List Out) (Q2:List Per):Nat→Option Ann:=fun id=>if id=0 then some {X:=Nat,σ:=fun k=>⟨12,[(2, .one (.ptr 10 0)),(3, .one (.ptr 11 0)),(5, .one (.int .i64 k))],[(0, .imm 98 Xc S),(1, .imm 102 Yn O),(2, .imm 104 Xx M),(3, .imm 106 Xi X),(4, .imm 108 Yv Q),(5, .imm 98 Xc S2),(6, .imm 102 Yn O2),(7, .imm 104 Xx M2),(8, .imm 106 Xi X2),(9, .imm 108 Yv Q2),(10, .box 31 [.int .i64 tk, .int .i64 st, .sl 0, .sl 1, .sl 2, .sl 3, .sl 4]),(11, .box 31 [.int .i64 tk2, .int .i64 st2, .sl 5, .sl 6, .sl 7, .sl 8, .sl 9])]⟩,inv:=fun k=>k≤S.length,mu:=fun k=>S.length-k} else if id=2 then some {X:=Nat,σ:=fun k=>⟨12,[(2, .one (.ptr 10 0)),(3, .one (.ptr 11 0)),(6, .one (.int .i64 k))],[(0, .imm 98 Xc S),(1, .imm 102 Yn O),(2, .imm 104 Xx M),(3, .imm 106 Xi X),(4, .imm 108 Yv Q),(5, .imm 98 Xc S2),(6, .imm 102 Yn O2),(7, .imm 104 Xx M2),(8, .imm 106 Xi X2),(9, .imm 108 Yv Q2),(10, .box 31 [.int .i64 tk, .int .i64 st, .sl 0, .sl 1, .sl 2, .sl 3, .sl 4]),(11, .box 31 [.int .i64 tk2, .int .i64 st2, .sl 5, .sl 6, .sl 7, .sl 8, .sl 9])]⟩,inv:=fun k=>k≤O.length,mu:=fun k=>O.length-k} else if id=4 then some {X:=Nat,σ:=fun k=>⟨12,[(2, .one (.ptr 10 0)),(3, .one (.ptr 11 0)),(7, .one (.int .i64 k))],[(0, .imm 98 Xc S),(1, .imm 102 Yn O),(2, .imm 104 Xx M),(3, .imm 106 Xi X),(4, .imm 108 Yv Q),(5, .imm 98 Xc S2),(6, .imm 102 Yn O2),(7, .imm 104 Xx M2),(8, .imm 106 Xi X2),(9, .imm 108 Yv Q2),(10, .box 31 [.int .i64 tk, .int .i64 st, .sl 0, .sl 1, .sl 2, .sl 3, .sl 4]),(11, .box 31 [.int .i64 tk2, .int .i64 st2, .sl 5, .sl 6, .sl 7, .sl 8, .sl 9])]⟩,inv:=fun k=>k≤M.length,mu:=fun k=>M.length-k} else if id=6 then some {X:=Nat,σ:=fun k=>⟨12,[(2, .one (.ptr 10 0)),(3, .one (.ptr 11 0)),(8, .one (.int .i64 k))],[(0, .imm 98 Xc S),(1, .imm 102 Yn O),(2, .imm 104 Xx M),(3, .imm 106 Xi X),(4, .imm 108 Yv Q),(5, .imm 98 Xc S2),(6, .imm 102 Yn O2),(7, .imm 104 Xx M2),(8, .imm 106 Xi X2),(9, .imm 108 Yv Q2),(10, .box 31 [.int .i64 tk, .int .i64 st, .sl 0, .sl 1, .sl 2, .sl 3, .sl 4]),(11, .box 31 [.int .i64 tk2, .int .i64 st2, .sl 5, .sl 6, .sl 7, .sl 8, .sl 9])]⟩,inv:=fun k=>k≤X.length,mu:=fun k=>X.length-k} else if id=8 then some {X:=Nat,σ:=fun k=>⟨12,[(2, .one (.ptr 10 0)),(3, .one (.ptr 11 0)),(9, .one (.int .i64 k))],[(0, .imm 98 Xc S),(1, .imm 102 Yn O),(2, .imm 104 Xx M),(3, .imm 106 Xi X),(4, .imm 108 Yv Q),(5, .imm 98 Xc S2),(6, .imm 102 Yn O2),(7, .imm 104 Xx M2),(8, .imm 106 Xi X2),(9, .imm 108 Yv Q2),(10, .box 31 [.int .i64 tk, .int .i64 st, .sl 0, .sl 1, .sl 2, .sl 3, .sl 4]),(11, .box 31 [.int .i64 tk2, .int .i64 st2, .sl 5, .sl 6, .sl 7, .sl 8, .sl 9])]⟩,inv:=fun k=>k≤Q.length,mu:=fun k=>Q.length-k} else none
def J5e:Con:={args:=[Y9,Y9],ress:=[Bo],owns:=[],pre:=fun(a,b,_)=>[a=b,a.2.2.1.length≤1000000,a.2.2.2.1.length≤1000000,a.2.2.2.2.1.length≤1000000,a.2.2.2.2.2.1.length≤1000000,a.2.2.2.2.2.2.length≤1000000],spec:=fun _=>(true,())}
def Kr5 (a:List Ord) (b:Nat):=(J1v a b).1
def Kr2 (a:List Ord) (b:Nat):=(J1v a b).2
def Kry (a:List Ord) (b:Nat):=(J1u a b).2
def Krw (a:List Ord) (b:Nat):=(J1u a b).1
def J27 (a:Nat) (b:List Sta) (c:List Ord) (d:List Met) (e:List Out) (f:List Per) (g:List Sta) (h:List Ord) (i:List Met) (j:List Out) (k:List Per) (l m n o:Int):=0=Nc a∧Sf b (Sf c (Sf d (Sf e (Sf f (Sf g (Sf h (Sf i (Sf j (Sf k (Si l (Si m (Si n (o=o)))))))))))))
def J26 (a b:Nat) (c:List Sta) (d:List Ord) (e:List Met) (f:List Out) (g:List Per) (h:List Sta) (i:List Ord) (j:List Met) (k:List Out) (l:List Per) (m n o p:Int):=Z93 a b∧Sf c (Sf d (Sf e (Sf f (Sf g (Sf h (Sf i (Sf j (Sf k (Sf l (Si m (Si n (Si o (p=p)))))))))))))
theorem Kxi:Ok Tryz.prog 12 J5e:=okW Kt7 Tryz.f12 (fun xx=>Ki3 xx.1.1 xx.1.2.1 xx.1.2.2.1 xx.1.2.2.2.1 xx.1.2.2.2.2.1 xx.1.2.2.2.2.2.1 xx.1.2.2.2.2.2.2 xx.2.1.1 xx.2.1.2.1 xx.2.1.2.2.1 xx.2.1.2.2.2.1 xx.2.1.2.2.2.2.1 xx.2.1.2.2.2.2.2.1 xx.2.1.2.2.2.2.2.2) fun xx=>by
 obtain⟨⟨(tk:Int),(st:Int),(S:List Sta),(O:List Ord),(M:List Met),(X:List Out),(Q:List Per)⟩,⟨(tk2:Int),(st2:Int),(S2:List Sta),(O2:List Ord),(M2:List Met),(X2:List Out),(Q2:List Per)⟩,_⟩:=xx
 refine(by kernel_rfl:(Z62 tk st S O M X Q=Z62 tk2 st2 S2 O2 M2 X2 Q2→Z53 S→Z61 O→Z58 M→Z54 X→Z49 Q→Br (bif bif bif bif bif bif tk !=tk2 then true else st !=st2 then true else Ln S !=Ln S2 then true else Ln O !=Ln O2 then true else Ln M !=Ln M2 then true else Ln X !=Ln X2 then true else Ln Q !=Ln Q2) (false=true) (∃(x:Nat),J27 x S O M X Q S2 O2 M2 X2 Q2 tk st tk2 st2∧x≤List.length S∧∀(x:Nat),x≤List.length S→Br (decide (Nc x<Ln S)) (T2 (Bd (Nc x) (Ln S)) (Tw (Bd (Nc x) (Ln S2)))∧Br (!(Lb (Jyw S x) (Jyw S2 x)&&((Jyx S x).1==(Jyx S2 x).1&&((Jyx S x).2==(Jyx S2 x).2&&true)))) (false=true) (Z25 x∧∃(y:Nat),J26 x y S O M X Q S2 O2 M2 X2 Q2 tk st tk2 st2∧y≤List.length S∧Jyv S y x)) (∃(x:Nat),J27 x S O M X Q S2 O2 M2 X2 Q2 tk st tk2 st2∧x≤List.length O∧∀(x:Nat),x≤List.length O→Br (Z97 x O) (T2 (Bd (Nc x) (Ln O)) (Tw (Bd (Nc x) (Ln O2)))∧Br (!(Lb (Jxc O x) (Jxc O2 x)&&(Lb (J1x O x) (J1x O2 x)&&(Lb (J1w O x) (J1w O2 x)&&(Kr5 O x==Kr5 O2 x&&(Kr2 O x==Kr2 O2 x&&true)&&(J1t O x==J1t O2 x&&(Krw O x==Krw O2 x&&(Kry O x==Kry O2 x&&true)))))))) (false=true) (Z25 x∧∃(y:Nat),J26 x y S O M X Q S2 O2 M2 X2 Q2 tk st tk2 st2∧J3s y O x)) (∃(x:Nat),J27 x S O M X Q S2 O2 M2 X2 Q2 tk st tk2 st2∧x≤List.length M∧∀(x:Nat),x≤List.length M→Br (decide (Nc x<Ln M)) (T2 (Bd (Nc x) (Ln M)) (Tw (Bd (Nc x) (Ln M2)))∧Br (!(Lb (Jyq M x) (Jyq M2 x)&&(Jyo M x==Jyo M2 x&&((Jxf M x).1==(Jxf M2 x).1&&((Jxf M x).2==(Jxf M2 x).2&&true))))) (false=true) (Z25 x∧∃(y:Nat),J26 x y S O M X Q S2 O2 M2 X2 Q2 tk st tk2 st2∧y≤List.length M∧Jyu M y x)) (∃(x:Nat),J27 x S O M X Q S2 O2 M2 X2 Q2 tk st tk2 st2∧x≤List.length X∧∀(x:Nat),x≤List.length X→Br (Z98 x X) (T2 (Z27 x X) (Tw (Z27 x X2))∧Br (!(Lb (Juq X x) (Juq X2 x)&&(Lb (J32 X x) (J32 X2 x)&&((Jyl X x).1==(Jyl X2 x).1&&(J8v X x==J8v X2 x&&true)&&(J3z X x==J3z X2 x&&true))))) (false=true) (Z25 x∧∃(y:Nat),J26 x y S O M X Q S2 O2 M2 X2 Q2 tk st tk2 st2∧y≤List.length X∧Jus X y x)) (∃(x:Nat),J27 x S O M X Q S2 O2 M2 X2 Q2 tk st tk2 st2∧x≤List.length Q∧∀(x:Nat),x≤List.length Q→Br (Jpx x Q) (T2 (Z31 x Q) (Tw (Z31 x Q2))∧Br (!(Lb (Jxh Q x) (Jxh Q2 x)&&(Lb (J4i Q x) (J4i Q2 x)&&((Juz Q x).2==(Juz Q2 x).2&&true)))) (false=true) (Z25 x∧∃(y:Nat),J26 x y S O M X Q S2 O2 M2 X2 Q2 tk st tk2 st2∧J1z y Q x)) (true=true)))))))=_).mp ?_
 delta Z19 Z25 Z27 Z31 Z49 Z53 Z54 Z58 Z61 Z62 Z72 Z93 Z97 Z98 Jpx Juz Juy Jxh J4i Jel Jyx Jyw Jyv Juu Jyu Jus J2b Jyq Jyo Jxf J17 Juq J32 Jyl J3z J8v Jej J3s J1z J1y Jxc J3p J3o J1x J1w J3n J3m J1v Kr5 J1u J1t Kr2 Kry Krw J27 J26 Br Iw Bd T2 Tw Sf Si Ln Nc B0 Lb
 intro h hS hO hM hX hQ
 cases h
 refine⟨fun h=>absurd h (by simp),fun _=> ?_⟩
 refine⟨(0:Nat),by simp,Nat.zero_le _,fun(k:Nat) hk=>⟨fun h=> ?_,fun _=> ?_⟩⟩
 ·have h:k<S.length:=by simpa using h
  refine⟨?_,fun h2=>absurd h2 (by simp),fun _=>⟨?_,(k+1:Nat),by simp,by omega,by omega⟩⟩<;>(repeat' first|exact rfl|exact⟨⟩|apply And.intro|omega|dsimp only;omega)
 refine⟨(0:Nat),by simp,Nat.zero_le _,fun(k:Nat) hk=>⟨fun h=> ?_,fun _=> ?_⟩⟩
 ·have h:k<O.length:=by simpa using h
  refine⟨?_,fun h2=>absurd h2 (by simp),fun _=>⟨?_,(k+1:Nat),by simp,by omega,by omega⟩⟩<;>(repeat' first|exact rfl|exact⟨⟩|apply And.intro|omega|dsimp only;omega)
 refine⟨(0:Nat),by simp,Nat.zero_le _,fun(k:Nat) hk=>⟨fun h=> ?_,fun _=> ?_⟩⟩
 ·have h:k<M.length:=by simpa using h
  refine⟨?_,fun h2=>absurd h2 (by simp),fun _=>⟨?_,(k+1:Nat),by simp,by omega,by omega⟩⟩<;>(repeat' first|exact rfl|exact⟨⟩|apply And.intro|omega|dsimp only;omega)
 refine⟨(0:Nat),by simp,Nat.zero_le _,fun(k:Nat) hk=>⟨fun h=> ?_,fun _=> ?_⟩⟩
 ·have h:k<X.length:=by simpa using h
  refine⟨?_,fun h2=>absurd h2 (by simp),fun _=>⟨?_,(k+1:Nat),by simp,by omega,by omega⟩⟩<;>(repeat' first|exact rfl|exact⟨⟩|apply And.intro|omega|dsimp only;omega)
 refine⟨(0:Nat),by simp,Nat.zero_le _,fun(k:Nat) hk=>⟨fun h=> ?_,fun _=> ?_⟩⟩
 ·have h:k<Q.length:=by simpa using h
  refine⟨?_,fun h2=>absurd h2 (by simp),fun _=>⟨?_,(k+1:Nat),by simp,by omega,by omega⟩⟩<;>(repeat' first|exact rfl|exact⟨⟩|apply And.intro|omega|dsimp only;omega)
 rfl
abbrev Ks6:=Kt7.add Kxi
theorem Jok {Pr:J8→Prop} (h0:Pr Xf) (hs:∀h e,Yb h→h.1.length<1000→Pr h→Kn h e=0→Pr (Zd h e)) (l:List Ev):Pr (Jb l).1:=by
 have go:∀(l:List Ev) (h:J8),Yb h→Pr h→h.1.length+l.length≤1000→Pr (Vp h l).1:=by
  intro l
  induction l with
  |nil=>intro h _ hp _;exact hp
  | cons e l ih =>
   intro h hi hp hl
   unfold Vp
   simp only[List.length_cons] at hl
   by_cases ha:Kn h e=0
   ·rw[if_pos ha]
    exact ih _ (Fz hi (by omega) ha) (hs h e hi (by omega) hp ha) (by rw[Y4];omega)
   ·rw[if_neg ha];exact hp
 unfold Jb
 by_cases h:1000<l.length
 ·rw[if_pos h];exact h0
 ·rw[if_neg h];exact go l _ V0 h0 (by show 0+l.length≤1000;omega)
def Jhs (C:List Ev) (G:List Reg) (k:Nat):Prop:=Ja (C.getD k ev0)=0∧((C.getD k ev0).2.1.toList==J0.toList)=false∧Uu (Uv (G.take k)) (C.getD k ev0)=0∧G.getD k Vq=Jv (Uv (G.take k)) (C.getD k ev0)
def J2n (h:J8):Prop:=∀k,k<h.2.2.length→Jhs h.2.1 h.2.2 k
theorem Job {α:Type} {l:List α} {m k:Nat} (h:k≤m):(l.take m).take k=l.take k:=by rw[List.take_take,Nat.min_eq_left h]
theorem Ki9 {h:J8} {e:Ev} (hi:Yb h) (hC:J2n h) (ha:Kn h e=0):J2n (Zd h e):=by
 obtain⟨hc,hacc⟩:=add_zero ha
 have n3:=hi.ok.nG
 obtain⟨E,C,G⟩:=h
 dsimp only at n3
 cases hk:e.2.1.toList==J0.toList with
 |true=>
  unfold Zd
  rw[hk,cond_true]
  intro k h3
  simp only[List.length_take] at h3
  dsimp only
  have:=hC k (by dsimp only;omega)
  unfold Jhs at this⊢
  rw[Ji7 (by omega),Ji7 (by omega),Job (by omega)]
  exact this
 | false =>
  have hE:e.1=(E.length:Int)+1:=by
   obtain⟨n,k,ns,vs,tx⟩:=e
   exact(F0 ((Ym (h:=(E,C,G)) (n:=n) (k:=k) (ns:=ns) (vs:=vs) (tx:=tx) hk).symm.trans hacc)).1
  have hA:Uu (Uv G) e=0:=(Jlh (h:=(E,C,G)) hE hk).symm.trans hacc
  unfold Zd
  rw[hk,cond_false]
  intro k h3
  simp only[List.length_append,List.length_singleton] at h3
  dsimp only
  unfold Jhs
  by_cases hkn:k<G.length
  ·have:=hC k hkn
   unfold Jhs at this
   rw[Jmt hkn,Jmt (by omega),List.take_append_of_le_length (by omega)]
   exact this
  ·have ek:k=G.length:=by omega
   rw[ek,Ji8,List.take_left']
   ·rw[n3,Ji8]
    exact⟨hc,hk,hA,rfl⟩
   ·rfl
theorem Jmc {l:List Ev}:J2n (Jb l).1:=Jok (fun _ h=>(by cases h)) (fun _ _ hi _ hp ha=>Ki9 hi hp ha) l
theorem Jcp {e:Ev} {l:List Ev} {h:J8}:Vp h (e::l)=if Kn h e=0 then Vp (Zd h e) l else(h,h.1.length+1,Kn h e):=rfl
theorem Jl9:∀{l m:List Ev} {h:J8},(Vp h l).2.2=0→Vp h (l++m)=Vp (Vp h l).1 m
 |[],_,_,_=>rfl
 | e :: l, m, h, h0 => by
  rw[List.cons_append]
  by_cases ha:Kn h e=0
  ·simp only[Jcp,if_pos ha] at h0⊢
   exact Jl9 h0
  ·rw[Jcp,if_neg ha] at h0;exact absurd h0 ha
structure Kyn (h:J8) (k:Nat):Prop where
 ok:Js (Uv (h.2.2.take k))
 uni:Jaw (Uv (h.2.2.take k)).2.2.2.2.2.1
 met:(Uv (h.2.2.take k)).2.2.2.2.1.length<10000
theorem Jda {a sep:List UInt8} {xs:List (List UInt8)} (h:xs≠[]):Lib.join (a::xs) sep=a++sep++Lib.join xs sep:=by
 cases xs with
 |nil=>exact absurd rfl h
 |cons x r=>simp[Lib.join,List.intercalate,List.intersperse]
theorem Jgz {a sep:List UInt8}:Lib.join [a] sep=a:=by simp[Lib.join,List.intercalate,List.intersperse]
theorem Jmg:∀(f:Nat) (l:List UInt8) (a:Int) (o:List Ev),(∀e∈o,Ja e=0)→∀e∈(Jcw f l a o).1,Ja e=0
 |0,_,_,_,h=>h
 | f + 1, l, a, o, h => by
  unfold Jcw
  split
  ·exact h
  split
  ·exact h
  split
  ·exact h
  ·rename_i q
   have hn:=Jdr (Decidable.of_not_not q)
   exact Jmg f _ _ _ fun e he=>(List.mem_append.1 he).elim (h e) fun he=>by rw[List.mem_singleton.1 he];exact hn.1
theorem Jko (s:ByteArray):∀e∈(Jc s).1,Ja e=0:=by
 unfold Jc
 split
 ·intro e he;cases he
 ·exact Jmg _ _ _ _ fun e he=>nomatch he
theorem Jfv {e:Ev} (h:Ja e=0):(Ku e).size≤400:=by
 have hE:=J2 h
 have hk:=Jae e.2.1
 have h1:=hE.num
 have h2:=hE.nn
 have h3:=hE.nv
 have h4:=Jr6 hE.kind
 show(Lib.join ((Jo8 e).map (·.data.toList)) [32]).toArray.size≤_
 rw[List.size_toArray]
 refine Nat.le_trans (Jg0 (sep:=[32]) rfl) ?_
 rw[List.map_map]
 refine Nat.le_trans (Jxn (b:=41) fun x hx=> ?_) ?_
 ·obtain⟨s,hs,rfl⟩:=List.mem_map.1 hx
  have hz:s.data.toList.length=s.size:=rfl
  show s.data.toList.length+1≤41
  rw[hz]
  rcases List.mem_cons.1 hs with rfl|hs
  ·have:=Jb1 e.1 (by omega) (by omega);omega
  rcases List.mem_cons.1 hs with rfl|hs
  ·omega
  rcases List.mem_append.1 hs with hs|hs
  ·have:=Jgs (hE.name s hs);omega
  ·obtain⟨v,hv,rfl⟩:=List.mem_map.1 hs
   have:=hE.val v hv
   have:=Jb1 v (by omega) (by omega);omega
 ·unfold Jo8
  simp only[List.length_map,List.length_cons,List.length_append]
  omega
end Go.Proofs.YthlgkojihnccaaaGreatDoor

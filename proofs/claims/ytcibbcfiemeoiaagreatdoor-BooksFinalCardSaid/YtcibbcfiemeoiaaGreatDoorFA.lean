/- Contracts of the functions that the law reaches: part of the proof. -/
import Derived.Test.YtcibbcfiemeoiaaGreatDoorProg
import Derived.Test.YtcibbcfiemeoiaaGreatDoorSxC
import Derived.Test.YtcibbcfiemeoiaaGreatDoorShelfA
import Derived.Test.YtcibbcfiemeoiaaGreatDoorLayA
import Derived.KernelRfl
import Derived.Laws.RangeAny
import Derived.Lib.Strings
set_option linter.unusedSimpArgs false
set_option linter.unusedVariables false
set_option maxRecDepth 20000
namespace Go.Proofs.YtcibbcfiemeoiaaGreatDoor
open Go.Sx
set_option maxHeartbeats 20000000
abbrev I:Bool×Sch:=(false, .int .i64)
abbrev Bo:Bool×Sch:=(false, .bool)
abbrev aI:AK:= .val false (.int .i64)
abbrev aB:AK:= .val false .bool
abbrev aS:AK:= .val false .str
abbrev tS:Bool×Sch:=(false, .str)
abbrev sI:Sch:= .int .i64
abbrev W0 [Sx.Dr]:GW Tryz.prog:=⟨[], .nil _⟩
theorem mixed:Tryz.prog.follows .mixedOrders=true:=by kernel_rfl
theorem okW [Sx.Dr] {f:FuncId} {c:Con} (W:GW Tryz.prog) (fn:Func) (ann:ATup c.args→Nat→Option Ann) (h:∀x:ATup c.args,wpF Tryz.prog W.g (ann x) fn c x) (h1:Tryz.prog.funcs[f]? =some fn:=by kernel_rfl) (h2:Jbn fn c=true:=by kernel_rfl):Ok Tryz.prog f c:=Vs mixed W.ok h1 h2 ann h
theorem Jyd [Sx.Dr] {f:FuncId} {c:Con} {lib:FuncId→Option Func} (W:GW Tryz.prog) (fn:Func) (hl:∀f fn,lib f=some fn→Tryz.prog.funcs[f]? =some fn) (ann:ATup c.args→Nat→Option Ann) (annF:ATup c.args→FuncId→Nat→Option Ann) (h:∀x:ATup c.args,wpFG Tryz.prog W.g (ann x) (annF x) lib fn c x) (h1:Tryz.prog.funcs[f]? =some fn:=by kernel_rfl) (h2:Jbn fn c=true:=by kernel_rfl):Ok Tryz.prog f c:=Jev mixed W.ok h1 h2 hl ann annF h
abbrev na {α:Type}:α→Nat→Option Ann:=fun _ _=>none
abbrev X8 (A:Ann):Nat→Option Ann:=fun k=>if k=0 then some A else none
def Krf:Con:={args:=[aB,aI],ress:=[I],owns:=[],pre:=fun _=>[],spec:=fun(b,e,_)=>(bif b then e else 0,())}
theorem K49 [Sx.Dr]:Ok Tryz.prog 71 Krf:=okW W0 Tryz.f71 na fun xx=>by
 obtain⟨(b:Bool),(e:Int),_⟩:=xx
 refine(by kernel_rfl:(Br b (e=bif b then e else 0) (0=bif b then e else 0))=_).mp ?_
 delta Br
 cases b<;>simp
abbrev W1 [Sx.Dr]:=W0.add K49
abbrev W2 [Sx.Dr]:=W1
abbrev W3 [Sx.Dr]:=W2
def Kh (n lo hi:Int):Int:=bif decide (n<lo)||decide (hi<n) then 3 else 0
def J5q:Con:={args:=[aI,aI,aI],ress:=[I],owns:=[],pre:=fun _=>[],spec:=fun(n,lo,hi,_)=>(Kh n lo hi,())}
theorem Kqh [Sx.Dr]:Ok Tryz.prog 133 J5q:=okW W3 Tryz.f133 na fun xx=>by
 obtain⟨(n:Int),(lo:Int),(hi:Int),_⟩:=xx
 refine(by kernel_rfl:((bif bif decide (n<lo) then true else decide (hi<n) then 3 else 0)=Kh n lo hi)=_).mp ?_
 unfold Kh;cases decide (n<lo)<;>rfl
abbrev W4 [Sx.Dr]:=W3.add Kqh
def Xj (n lo hi:Int):Bool:=decide (n<lo)||decide (hi<n)
def J0v:Con:={args:=[aI,aI,aI],ress:=[Bo],owns:=[],pre:=fun _=>[],spec:=fun(n,lo,hi,_)=>(Xj n lo hi,())}
theorem K5x [Sx.Dr]:Ok Tryz.prog 20 J0v:=okW W4 Tryz.f20 na fun xx=>by
 obtain⟨(n:Int),(lo:Int),(hi:Int),_⟩:=xx
 refine(by kernel_rfl:((bif decide (n<lo) then true else decide (hi<n))=Xj n lo hi)=_).mp ?_
 unfold Xj;cases decide (n<lo)<;>rfl
abbrev W5 [Sx.Dr]:=W4.add K5x
def Krg:Con:={args:=[aI],ress:=[I],owns:=[],pre:=fun _=>[],spec:=fun(n,_)=>(Kh n 0 999999999,())}
def Z71 (a:Int):=Kh a 0 999999999
def Kmc (a:Int):=Z71 a=Z71 a
theorem K5a [Sx.Dr]:Ok Tryz.prog 70 Krg:=okW W5 Tryz.f70 na fun xx=>by
 obtain⟨(n:Int),_⟩:=xx
 refine(by kernel_rfl:(Kmc n)=_).mp ?_
 delta Z71 Kmc
 rfl
abbrev W6 [Sx.Dr]:=W5.add K5a
def Jh:List Int→Int
 |[]=>0
 |x::l=>if x=0 then Jh l else x
theorem Jnr {l:List Int} {k:Nat} (h:k<l.length):Jh (l.drop k)=if l.getD k 0=0 then Jh (l.drop (k+1)) else l.getD k 0:=by
 rw[List.drop_eq_getElem_cons h]
 simp[Jh,List.getD_eq_getElem?_getD,h]
def Kcj:Con:={args:=[.val false (.list 26 sI)],ress:=[I],owns:=[],pre:=fun(l,_)=>[l.length≤1000000],spec:=fun(l,_)=>(Jh l,())}
abbrev J1g (l:List Int):Ann:={X:=Nat,σ:=fun k=>⟨1,[(5, .one (.sl 0)),(6, .one (.int .i64 l.length)),(7, .one (.int .i64 k))],[(0, .imm 26 sI l)]⟩,inv:=fun k=>k≤l.length∧Jh l=Jh (l.drop k),mu:=fun k=>l.length-k}
def Z16 (a:Li) (b:Nat):=List.getD a b 0
def Z19 (a:Nat):=Iw (Nc a+1)
def Z51 (a:Li):=List.length a≤1000000
def Z95 (a b:Nat):=Nc a+1=Nc b
def J31 (a:Li) (b c:Nat):=List.length a-b<List.length a-c
def Kl7 (a:Nat) (b:Li):=a≤List.length b∧Jh b=Jh (List.drop a b)
theorem K5b [Sx.Dr]:Ok Tryz.prog 69 Kcj:=okW W6 Tryz.f69 (fun xx=>X8 (J1g xx.1)) fun xx=>by
 obtain⟨(l:List Int),_⟩:=xx
 refine(by kernel_rfl:(Z51 l→∃(x:Nat),Si (Ln l) (0=Nc x∧l=l)∧Kl7 x l∧∀(x:Nat),Kl7 x l→Br (decide (Nc x<Ln l)) (Tw (Bd (Nc x) (Ln l))∧Br (Z16 l x !=0) (Z16 l x=Jh l) (Z19 x∧∃(y:Nat),Si (Ln l) (Z95 x y∧l=l)∧Kl7 y l∧J31 l y x)) (0=Jh l))=_).mp ?_
 delta Z16 Z19 Z51 Z95 J31 Kl7 Br Iw Bd Tw Si Ln Nc
 intro hb
 refine⟨(0:Nat),⟨rfl,rfl,rfl⟩,⟨Nat.zero_le _,rfl⟩,fun(k:Nat) hk=>⟨fun h=> ?_,fun h=> ?_⟩⟩
 ·have hlt:k<l.length:=by simpa using h
  have hd:=Jnr hlt
  refine⟨by omega,fun h1=> ?_,fun h1=>⟨by omega,(k+1:Nat),⟨rfl,by simp,rfl⟩,⟨by omega, ?_⟩,by omega⟩⟩
  ·have h2:¬l.getD k 0=0:=by simpa using h1
   rw[hk.2,hd,if_neg h2]
  ·have h2:l.getD k 0=0:=by simpa using h1
   rw[hk.2,hd,if_pos h2]
 ·have hlt:¬k<l.length:=by simpa using h
  have:k=l.length:=by omega
  rw[hk.2,this,List.drop_length];rfl
abbrev W7 [Sx.Dr]:=W6.add K5b
abbrev W8 [Sx.Dr]:=W7
abbrev W9 [Sx.Dr]:=W8
def okB (f:Bool) (c:Int):Bool:=bif (bif decide ((65:Int)≤c) then decide (c≤90) else false) then true else bif (bif decide ((97:Int)≤c) then decide (c≤122) else false) then true else bif f then false else bif decide (c<48) then c==95 else bif decide (57<c) then c==95 else true
def okL (f:Bool):List UInt8→Bool
 |[]=>true
 |b::r=>okB f (b.toNat:Int)&&okL false r
def Yl (s:ByteArray):Bool:=okL true s.data.toList&&(decide (0<s.size)&&decide ((s.size:Int)≤24))
theorem Juo (f:Bool) (c:Int):(bif !bif (bif decide ((65:Int)≤c) then decide (c≤90) else false) then true else bif decide ((97:Int)≤c) then decide (c≤122) else false then bif f then true else bif (bif decide (c<48) then true else decide (57<c)) then c !=95 else false else false)= !okB f c:=by
 unfold okB bne
 cases decide ((65:Int)≤c)<;>cases decide (c≤90)<;>cases decide ((97:Int)≤c)<;>cases decide (c≤122)<;>cases f<;>cases decide (c<48)<;>cases decide (57<c)<;>cases c==95<;>rfl
theorem Jpa {f:Bool} {c:Int} (h:128≤c):okB f c=false:=by
 unfold okB
 have h1:decide (c≤90)=false:=decide_eq_false (by omega)
 have h2:decide (c≤122)=false:=decide_eq_false (by omega)
 have h3:decide (c<48)=false:=decide_eq_false (by omega)
 have h4:decide ((57:Int)<c)=true:=decide_eq_true (by omega)
 have h5:(c==95)=false:=beq_eq_false_iff_ne.2 (by omega)
 rw[h1,h2,h3,h4,h5]
 cases decide ((65:Int)≤c)<;>cases decide ((97:Int)≤c)<;>cases f<;>rfl
theorem Jdm {s:ByteArray} {k:Nat} (h:k<s.size) (ha:(s[k]'h).toNat<128):Yb s k=((s[k]'h).toNat:Int)∧Jgj s k=1:=by
 unfold Yb Jgj
 rw[decode_ascii s k h ha]
 exact⟨rfl,rfl⟩
theorem Jk1 {s:ByteArray} {k:Nat} (h:k<s.size) (ha:128≤(s[k]'h).toNat):128≤Yb s k:=by
 have:=(decode_high s k h ha).1
 unfold Yb
 omega
theorem D1 {s:ByteArray} {k:Nat} (h:k<s.size):s.data.toList.drop k=(s[k]'h)::s.data.toList.drop (k+1):=by
 rw[List.drop_eq_getElem_cons (by simpa using h)]
 congr 1
theorem Ji6 (s:ByteArray):(!(s.toList==(⟨⟨[]⟩⟩:ByteArray).toList))=decide (0<s.size):=by
 rw[Lib.toList_data,Lib.toList_data]
 have e:s.data.toList.length=s.size:=by simp
 cases h:s.data.toList with
 |nil=>rw[h] at e;simp at e;rw[←e];rfl
 |cons a l=>rw[h] at e;simp at e;rw[←e];simp
theorem Jcp (k:Nat):(((k:Nat):Int)==0)=(k==0):=by
 rw[Bool.eq_iff_iff,beq_iff_eq,beq_iff_eq];omega
def Kb2:Con:={args:=[aS],ress:=[Bo],owns:=[],pre:=fun(s,_)=>[s.size≤1000000],spec:=fun(s,_)=>(Yl s,())}
abbrev J6n (s:ByteArray):Ann:={X:=Nat,σ:=fun k=>⟨1,[(0, .one (.str s)),(7, .one (.sl 0))],[(0, .siter s k)]⟩,inv:=fun k=>k≤s.size∧okL true s.data.toList=okL (k==0) (s.data.toList.drop k),mu:=fun k=>s.size-k}
def Z13 (a:Bt):=a.data.toList
def Kk8 (a:Bt) (b:Nat):=bif decide (Yb a b<48) then true else decide (57<Yb a b)
def K0g (a:Bt):=Sf true ((bif !Lb a B0 then decide (Nc (ByteArray.size a)≤24) else false)=Yl a)
def Kj0 (a:Nat) (b:Bt):=a≤ByteArray.size b∧okL true (Z13 b)=okL (a==0) (List.drop a (Z13 b))
theorem Kqe [Sx.Dr]:Ok Tryz.prog 136 Kb2:=Jyd W9 Tryz.f136 (Uy (l:=([]:List (Nat×Func))) (by simp)) (fun xx=>X8 (J6n xx.1)) (fun xx=>fun _=>na ()) fun xx=>by
 obtain⟨(s:ByteArray),_⟩:=xx
 refine(by kernel_rfl:(ByteArray.size s≤1000000→∃(x:Nat),Sf s (Sf s (0=x))∧Kj0 x s∧∀(x:Nat),Kj0 x s→(x<ByteArray.size s→Br true (Br (bif !bif bif decide (65≤Yb s x) then decide (Yb s x≤90) else false then true else bif decide (97≤Yb s x) then decide (Yb s x≤122) else false then bif Nc x==0 then true else bif Kk8 s x then Yb s x !=95 else false else false) (Sf true (false=Yl s)) (∃(y:Nat),Sf s (Sf s (x+Jgj s x=y))∧Kj0 y s∧ByteArray.size s-y<ByteArray.size s-x)) (K0g s))∧((x<ByteArray.size s→False)→Br false False (K0g s)))=_).mp ?_
 delta Z13 Kk8 K0g Kj0 Br Sf Nc B0 Lb
 intro hb
 refine⟨(0:Nat),⟨rfl,rfl,rfl⟩,⟨Nat.zero_le _,by simp⟩,fun(k:Nat) hk=>⟨fun h=>⟨fun _=>⟨fun h1=>⟨rfl, ?_⟩,fun h1=> ?_⟩,fun h=>(by cases h)⟩,fun h=> ?_⟩⟩
 ·rw[Juo,Jcp] at h1
  have h2:okB (k==0) (Yb s k)=false:=by simpa using h1
  unfold Yl
  have h3:okL true s.data.toList=false:=by
   rw[hk.2,D1 h,okL]
   by_cases ha:(s[k]'h).toNat<128
   ·rw[←(Jdm h ha).1,h2];rfl
   ·rw[Jpa (by omega)];rfl
  rw[h3];rfl
 ·rw[Juo,Jcp] at h1
  have h2:okB (k==0) (Yb s k)=true:=by simpa using h1
  by_cases ha:(s[k]'h).toNat<128
  ·obtain⟨r1,r2⟩:=Jdm h ha
   refine⟨(k+1:Nat),⟨rfl,rfl,by rw[r2]⟩,⟨by omega, ?_⟩,by omega⟩
   rw[hk.2,D1 h,okL,←r1,h2]
   rfl
  ·have:=Jk1 h (by omega)
   rw[Jpa this] at h2
   cases h2
 ·have e:k=s.size:=Nat.le_antisymm hk.1 (Nat.le_of_not_lt h)
  refine⟨fun h=>(by cases h),fun _=>⟨rfl, ?_⟩⟩
  rw[e,List.drop_eq_nil_of_le (by simp)] at hk
  unfold Yl
  rw[hk.2,Ji6]
  cases decide (0<s.size)<;>cases decide ((s.size:Int)≤24)<;>rfl
abbrev W10 [Sx.Dr]:=W9.add Kqe
abbrev aU:AK:= .val false (.int .u8)
def Ju3 (c:Int):Bool:=bif (bif decide ((65:Int)≤c) then decide (c≤90) else false) then true else bif decide ((97:Int)≤c) then decide (c≤122) else false
def Kbn (c:Int):Bool:=bif decide ((48:Int)≤c) then decide (c≤57) else false
def K6h:Con:={args:=[aU],ress:=[Bo],owns:=[],pre:=fun _=>[],spec:=fun(c,_)=>(Ju3 c,())}
theorem Ko3 [Sx.Dr]:Ok Tryz.prog 190 K6h:=okW W10 Tryz.f190 na fun xx=>by
 obtain⟨(c:Int),_⟩:=xx
 refine(by kernel_rfl:((bif bif decide (65≤c) then decide (c≤90) else false then true else bif decide (97≤c) then decide (c≤122) else false)=Ju3 c)=_).mp ?_
 rfl
abbrev W11 [Sx.Dr]:=W10.add Ko3
def K6k:Con:={args:=[aU],ress:=[Bo],owns:=[],pre:=fun _=>[],spec:=fun(c,_)=>(Kbn c,())}
theorem Ko2 [Sx.Dr]:Ok Tryz.prog 191 K6k:=okW W11 Tryz.f191 na fun xx=>by
 obtain⟨(c:Int),_⟩:=xx
 refine(by kernel_rfl:((bif decide (48≤c) then decide (c≤57) else false)=Kbn c)=_).mp ?_
 rfl
abbrev W12 [Sx.Dr]:=W11.add Ko2
theorem J4z (c:Int):okB true c=Ju3 c:=by
 unfold okB Ju3
 cases decide ((65:Int)≤c)<;>cases decide (c≤90)<;>cases decide ((97:Int)≤c)<;>cases decide (c≤122)<;>rfl
theorem J4y (c:Int):(bif bif !Ju3 c then !Kbn c else false then c !=95 else false)= !okB false c:=by
 unfold okB Ju3 Kbn bne
 have e1:decide (c<48)= !decide ((48:Int)≤c):=by rw[Bool.eq_iff_iff];simp
 have e2:decide ((57:Int)<c)= !decide (c≤57):=by rw[Bool.eq_iff_iff];simp
 rw[e1,e2]
 cases decide ((65:Int)≤c)<;>cases decide (c≤90)<;>cases decide ((97:Int)≤c)<;>cases decide (c≤122)<;>cases decide ((48:Int)≤c)<;>cases decide (c≤57)<;>cases c==95<;>rfl
theorem Dn {s:ByteArray} {k:Nat} (h:k<s.size):s.data.toList.drop k=s.data.toList.getD k 0::s.data.toList.drop (k+1):=by
 have h':k<s.data.toList.length:=by simpa using h
 rw[List.drop_eq_getElem_cons h']
 congr 1
 rw[List.getD_eq_getElem?_getD,List.getElem?_eq_getElem h'];rfl
abbrev J1e (s:ByteArray):Ann:={X:=Nat,σ:=fun k=>⟨0,[(0, .one (.str s)),(3, .one (.int .i64 k))],[]⟩,inv:=fun k=>0<k∧k≤s.size∧Yl s=okL false (s.data.toList.drop k),mu:=fun k=>s.size-k}
def Kmd (a:Bt) (b:Nat):=Nc (UInt8.toNat (List.getD (Z13 a) b 0))
def Kl2 (a:Bt):=Nc (UInt8.toNat (List.getD (Z13 a) 0 0))
def K1k (a:Bt) (b:Nat):= !Ju3 (Kmd a b)
def K1f (a:Bt):=bif Nc (ByteArray.size a)==0 then true else decide (24<Nc (ByteArray.size a))
def Kj9 (a:Nat) (b:Bt):=0<a∧a≤ByteArray.size b∧Yl b=okL false (List.drop a (Z13 b))
def Kwq (a:Bt) (b:Nat):=bif K1k a b then !Kbn (Kmd a b) else false
theorem Kqu [Sx.Dr]:Ok Tryz.prog 111 Kb2:=okW W12 Tryz.f111 (fun xx=>X8 (J1e xx.1)) fun xx=>by
 obtain⟨(s:ByteArray),_⟩:=xx
 refine(by kernel_rfl:(ByteArray.size s≤1000000→(K1f s=false→Bd 0 (Nc (ByteArray.size s)))∧Br (bif K1f s then true else !Ju3 (Kl2 s)) (false=Yl s) (∃(x:Nat),Sf s (1=Nc x)∧Kj9 x s∧∀(x:Nat),Kj9 x s→Br (decide (Nc x<Nc (ByteArray.size s))) ((Bd (Nc x) (Nc (ByteArray.size s))∧(K1k s x=true→Bd (Nc x) (Nc (ByteArray.size s)))∧(Kwq s x=true→Bd (Nc x) (Nc (ByteArray.size s))))∧Br (bif Kwq s x then Kmd s x !=95 else false) (false=Yl s) (Z19 x∧∃(y:Nat),Sf s (Z95 x y)∧Kj9 y s∧ByteArray.size s-y<ByteArray.size s-x)) (true=Yl s)))=_).mp ?_
 delta Z13 Z19 Z95 Kmd Kl2 K1k K1f Kj9 Kwq Br Iw Bd Sf Nc
 intro hb
 have e0:∀h:0<s.size,okL true s.data.toList=(Ju3 ((s.data.toList.getD 0 0).toNat:Int)&&okL false (s.data.toList.drop 1)):=fun h=>by
  have:=Dn h
  rw[List.drop_zero] at this
  rw[this,okL,J4z]
  simp
 refine⟨fun h=> ?_,fun h=> ?_,fun h=> ?_⟩
 ·have h1:((s.size:Int)==0)=false:=by revert h;cases((s.size:Int)==0)<;>simp
  have:=beq_eq_false_iff_ne.1 h1
  exact⟨Int.le_refl _,by omega⟩
 ·unfold Yl
  by_cases h0:0<s.size
  ·rw[e0 h0]
   have h1:((s.size:Int)==0)=false:=beq_eq_false_iff_ne.2 (by omega)
   rw[h1] at h
   by_cases h2:(s.size:Int)≤24
   ·have h3:decide ((24:Int)<s.size)=false:=decide_eq_false (by omega)
    rw[h3] at h
    have h4:Ju3 ((s.data.toList.getD 0 0).toNat:Int)=false:=by simpa using h
    rw[h4];rfl
   ·rw[decide_eq_false h2];simp
  ·rw[decide_eq_false h0];simp
 ·have h1:((s.size:Int)==0)=false:=by revert h;cases((s.size:Int)==0)<;>simp
  rw[h1] at h
  have h2:decide ((24:Int)<s.size)=false:=by revert h;cases decide ((24:Int)<s.size)<;>simp
  rw[h2] at h
  have h3:Ju3 ((s.data.toList.getD 0 0).toNat:Int)=true:=by simpa using h
  have h0:0<s.size:=by have:=beq_eq_false_iff_ne.1 h1;omega
  have h24:(s.size:Int)≤24:=by have:=of_decide_eq_false h2;omega
  have en:Yl s=okL false (s.data.toList.drop 1):=by
   unfold Yl
   rw[e0 h0,h3,decide_eq_true h0,decide_eq_true h24];simp
  refine⟨(1:Nat),⟨rfl,rfl⟩,⟨by omega,by omega,en⟩,fun(k:Nat) hk=>⟨fun h=> ?_,fun h=> ?_⟩⟩
  ·have hlt:k<s.size:=by simpa using h
   rw[J4y]
   refine⟨⟨by omega,fun _=>by omega,fun _=>by omega⟩,fun h1=> ?_,fun h1=>⟨by omega,(k+1:Nat),⟨rfl,by simp⟩,⟨by omega,by omega, ?_⟩,by omega⟩⟩
   ·have h2:okB false ((s.data.toList.getD k 0).toNat:Int)=false:=by simpa using h1
    rw[hk.2.2,Dn hlt,okL,h2];rfl
   ·have h2:okB false ((s.data.toList.getD k 0).toNat:Int)=true:=by simpa using h1
    rw[hk.2.2,Dn hlt,okL,h2];rfl
  ·have hlt:¬k<s.size:=by simpa using h
   have:k=s.size:=by omega
   rw[hk.2.2,this,List.drop_eq_nil_of_le (by simp)];rfl
abbrev W13 [Sx.Dr]:=W12.add Kqu
abbrev Jzn:Sch:= .prod sI .bool
abbrev Ka1:Sch:= .prod (.list 251 Jzn) (.prod sI (.prod .fnc (.prod .fnc .fnc)))
abbrev K10:=List (Int×Bool)×Int×Option Nat×Option Nat×Option Nat
abbrev Jp:ByteArray:=⟨⟨[117,110,100,111]⟩⟩
abbrev Ju:ByteArray:=⟨⟨[115,116,97,116,105,111,110]⟩⟩
abbrev Ub:ByteArray:=⟨⟨[112,114,105,99,101]⟩⟩
abbrev Kl:ByteArray:=⟨⟨[111,114,100,101,114]⟩⟩
abbrev K7:ByteArray:=⟨⟨[109,101,116,101,114]⟩⟩
abbrev Vp:ByteArray:=⟨⟨[116,114,105,112]⟩⟩
abbrev Jv:ByteArray:=⟨⟨[111,117,116,97,103,101]⟩⟩
abbrev Js:ByteArray:=⟨⟨[114,101,115,116,111,114,101]⟩⟩
abbrev Kf:ByteArray:=⟨⟨[112,101,114,109,105,116]⟩⟩
abbrev Ke:ByteArray:=⟨⟨[114,101,116,117,114,110]⟩⟩
abbrev Jd:ByteArray:=⟨⟨[115,101,116,116,108,101]⟩⟩
def Lx:List (ByteArray×K10):=[(Jp,[],0,none,none,none),
 (Ju,[(0,false)],2,some 148,some 149,some 150),
 (Ub,[(0,true)],2,some 152,some 153,some 150),
 (Kl,[(1,false),(0,true),(0,true)],4,some 154,some 155,some 156),
 (K7,[(1,true)],4,some 157,some 158,some 156),
 (Vp,[(1,true)],1,some 159,some 160,some 156),
 (Jv,[(2,false),(0,true)],4,some 161,some 162,some 163),
 (Js,[(2,true)],1,some 164,some 165,some 163),
 (Kf,[(3,false),(2,true)],1,some 166,some 167,some 168),
 (Ke,[(3,true)],1,some 169,some 170,some 168),
 (Jd,[],2,some 171,some 172,none)]
def Kch:Con:={args:=[aI],ress:=[(true,Jzn)],owns:=[],pre:=fun _=>[],spec:=fun(t,_)=>((t,false),())}
theorem Kp3 [Sx.Dr]:Ok Tryz.prog 147 Kch:=okW W13 Tryz.f147 na fun xx=>by
 obtain⟨(t:Int),_⟩:=xx
 refine(by kernel_rfl:((t,false)=(t,false))=_).mp ?_
 trivial
abbrev W14 [Sx.Dr]:=W13.add Kp3
def K6d:Con:={args:=[aI],ress:=[(true,Jzn)],owns:=[],pre:=fun _=>[],spec:=fun(t,_)=>((t,true),())}
theorem Kpz [Sx.Dr]:Ok Tryz.prog 151 K6d:=okW W14 Tryz.f151 na fun xx=>by
 obtain⟨(t:Int),_⟩:=xx
 refine(by kernel_rfl:((t,true)=(t,true))=_).mp ?_
 trivial
abbrev W15 [Sx.Dr]:=W14.add Kpz
def J3a:Jmh:={kT:=9,gk:=false,gv:=true,ks:= .str,vs:=Ka1,l:=Lx}
def Kmn:=[((0:Int),true)]
def J9w:List (Int×Bool)×Int×Option Nat×Option Nat×Option Nat:=([],(0:Int),none,none,none)
def Kif:=(∀(k k':ByteArray),some (Lb k k')=some (List.beq (ByteArray.toList k) (ByteArray.toList k')))∧∀(k:ByteArray),true=true
theorem K4j [Sx.Dr]:wpFM Tryz.prog W15.g (na ()) (fun _=>na ()) (Sx.look ([]:List (Nat×Func))) Tryz.f80 J3a:=by
 refine(by kernel_rfl:(Kif∧Sf true ([(Jp,J9w),(Ju,[(0,false)],2,some 148,some 149,some 150),(Ub,Kmn,2,some 152,some 153,some 150),(Kl,(1,false)::(0,true)::Kmn,4,some 154,some 155,some 156),(K7,[(1,true)],4,some 157,some 158,some 156),(Vp,[(1,true)],1,some 159,some 160,some 156),(Jv,(2,false)::Kmn,4,some 161,some 162,some 163),(Js,[(2,true)],1,some 164,some 165,some 163),(Kf,[(3,false),(2,true)],1,some 166,some 167,some 168),(Ke,[(3,true)],1,some 169,some 170,some 168),(Jd,[],2,some 171,some 172,none)]=Lx))=_).mp ?_
 delta Kmn J9w Kif Sf Lb K7 Kl Jv Kf Ub Js Ke Jd Ju Vp Jp
 exact⟨⟨fun _ _=>rfl,fun _=>rfl⟩,rfl,rfl⟩
theorem Kns [Sx.Dr]:Ok Tryz.prog 80 (Jmh.con J3a):=J2w (Jlf mixed W15.ok (by kernel_rfl) (by kernel_rfl) (Uy (l:=([]:List (Nat×Func))) (by simp)) (na ()) (fun _=>na ()) K4j)
abbrev W16 [Sx.Dr]:=W15.add Kns
theorem Je {α:Type} {l:List α} {k:Nat} {d:α} (h:k<l.length):l.getD k d∈l:=by
 simp[List.getD_eq_getElem?_getD,h]
theorem Us {α:Type} {d:α} {l:List α} {k:Nat} (h:k<l.length):l.take k++[l.getD k d]=l.take (k+1):=by
 rw[List.take_succ_eq_append_getElem h,List.getD_eq_getElem?_getD,List.getElem?_eq_getElem h];rfl
abbrev Jbf (T U:TypeId) (s:Sch) (l:List s.T) (r:Bool×Sch) (g:Bool) (q:Tup [(g,s)]→List Prop) (f:Tup [(g,s)]→r.2.T):Ann:={X:=Nat,σ:=fun k=>⟨3,[(1, .one (.fv 1)),(5, .one (.sl 2)),(8, .one (.sl 0)),(9, .one (.int .i64 l.length)),(10, .one (.int .i64 k))],[(0, .imm T s l),(1, .afn [(g,s)] r q f),(2, .own U r.2 ((l.take k).map fun x=>f (x,())))]⟩,inv:=fun k=>k≤l.length,mu:=fun k=>l.length-k}
def Kb5:Con:={args:=[.val false (.list 9 .str), .fn [tS] I],ress:=[(false, .list 26 sI)],owns:=[true],pre:=fun(l,(q,_),_)=>[l.length≤1000000,∀x∈l,Ur (q (x,()))],spec:=fun(l,(_,f),_)=>(l.map fun x=>f (x,()),())}
def Kb8:Con:={args:=[.val false (.list 3 sI), .fn [I] I],ress:=[(false, .list 26 sI)],owns:=[true],pre:=fun(l,(q,_),_)=>[l.length≤1000000,∀x∈l,Ur (q (x,()))],spec:=fun(l,(_,f),_)=>(l.map fun x=>f (x,()),())}
def J7i (a:Li) (b:Int):=b∈a
def Kab (a:Int×Unit→Int) (b:Nat) (c:Li):=List.map (fun(x:Int)=>a (x,PUnit.unit)) (List.take b c)
def Klb (a:Li) (b:Int×Unit→List Prop):=∀(x:Int),J7i a x→Ur (b (x,PUnit.unit))
theorem Kqd [Sx.Dr]:Ok Tryz.prog 137 Kb8:=okW W16 Tryz.f137 (fun xx=>X8 (Jbf 3 26 sI xx.1 I false xx.2.1.1 xx.2.1.2)) fun xx=>by
 obtain⟨(l:List Int),⟨(q:Int×Unit→List Prop),(f:Int×Unit→Int)⟩,_⟩:=xx
 refine(by kernel_rfl:(Z51 l→Klb l q→∃(x:Nat),Si (Ln l) (0=Nc x∧Sf l ((fun(x:Int×PUnit)=>q x)=q∧(fun(x:Int×PUnit)=>f x)=f∧List.length (Kab f x l)=0))∧x≤List.length l∧∀(x:Nat),x≤List.length l→Br (decide (Nc x<Ln l)) (Tw (Bd (Nc x) (Ln l))∧(Ur (q (Z16 l x,PUnit.unit))∧(List.length (Kab f x l)+1)*8≤140737488355328)∧Z19 x∧∃(y:Nat),Si (Ln l) (Z95 x y∧Sf l ((fun(x:Int×PUnit)=>q x)=q∧(fun(x:Int×PUnit)=>f x)=f∧Kab f x l++[f (Z16 l x,PUnit.unit)]=Kab f y l))∧y≤List.length l∧J31 l y x) (Kab f x l=List.map (fun(x:Int)=>f (x,PUnit.unit)) l))=_).mp ?_
 delta Z16 Z19 Z51 Z95 J31 J7i Kab Klb Br Iw Bd Tw Sf Si Ln Nc
 intro hb hq
 refine⟨(0:Nat),⟨rfl,rfl,rfl,rfl,rfl,by simp⟩,Nat.zero_le _,fun(k:Nat) hk=>⟨fun h=> ?_,fun h=> ?_⟩⟩
 ·have hlt:k<l.length:=by simpa using h
  refine⟨by omega,⟨hq (l.getD k 0) (Je hlt),by simp only[List.length_map,List.length_take];omega⟩,by omega,(k+1:Nat),⟨rfl,by simp,rfl,rfl,rfl, ?_⟩,by omega,by omega⟩
  rw[←Us (d:=0) hlt,List.map_append];rfl
 ·have hlt:¬k<l.length:=by simpa using h
  rw[List.take_of_length_le (by omega)]
abbrev W17 [Sx.Dr]:=W16.add Kqd
def Jag (a:Ls):=List.length a≤1000000
def Jgd (a:Ls) (b:Bt):=b∈a
def J92 (a:Bt×Unit→Int) (b:Nat) (c:Ls):=List.map (fun(x:ByteArray)=>a (x,PUnit.unit)) (List.take b c)
theorem Kqg [Sx.Dr]:Ok Tryz.prog 134 Kb5:=okW W17 Tryz.f134 (fun xx=>X8 (Jbf 9 26 .str xx.1 I false xx.2.1.1 xx.2.1.2)) fun xx=>by
 obtain⟨(l:List ByteArray),⟨(q:ByteArray×Unit→List Prop),(f:ByteArray×Unit→Int)⟩,_⟩:=xx
 refine(by kernel_rfl:(Jag l→(∀(x:ByteArray),Jgd l x→Ur (q (x,PUnit.unit)))→∃(x:Nat),Si (Ln l) (0=Nc x∧Sf l ((fun(x:ByteArray×PUnit)=>q x)=q∧(fun(x:ByteArray×PUnit)=>f x)=f∧List.length (J92 f x l)=0))∧x≤List.length l∧∀(x:Nat),x≤List.length l→Br (decide (Nc x<Ln l)) (Tw (Bd (Nc x) (Ln l))∧(Ur (q (List.getD l x B0,PUnit.unit))∧(List.length (J92 f x l)+1)*8≤140737488355328)∧Z19 x∧∃(y:Nat),Si (Ln l) (Z95 x y∧Sf l ((fun(x:ByteArray×PUnit)=>q x)=q∧(fun(x:ByteArray×PUnit)=>f x)=f∧J92 f x l++[f (List.getD l x B0,PUnit.unit)]=J92 f y l))∧y≤List.length l∧List.length l-y<List.length l-x) (J92 f x l=List.map (fun(x:ByteArray)=>f (x,PUnit.unit)) l))=_).mp ?_
 delta Z19 Z95 Jag Jgd J92 Br Iw Bd Tw Sf Si Ln Nc B0
 intro hb hq
 refine⟨(0:Nat),⟨rfl,rfl,rfl,rfl,rfl,by simp⟩,Nat.zero_le _,fun(k:Nat) hk=>⟨fun h=> ?_,fun h=> ?_⟩⟩
 ·have hlt:k<l.length:=by simpa using h
  refine⟨by omega,⟨hq (l.getD k (⟨⟨[]⟩⟩:ByteArray)) (Je hlt),by simp only[List.length_map,List.length_take];omega⟩,by omega,(k+1:Nat),⟨rfl,by simp,rfl,rfl,rfl, ?_⟩,by omega,by omega⟩
  rw[←Us (d:=(⟨⟨[]⟩⟩:ByteArray)) hlt,List.map_append];rfl
 ·have hlt:¬k<l.length:=by simpa using h
  rw[List.take_of_length_le (by omega)]
abbrev W18 [Sx.Dr]:=W17.add Kqg
def Kr0:Con:={args:=[aS],ress:=[I],owns:=[],pre:=fun(s,_)=>[s.size≤1000000],spec:=fun(s,_)=>(bif Yl s then 0 else 8,())}
theorem Kqf [Sx.Dr]:Ok Tryz.prog 135 Kr0:=okW W18 Tryz.f135 na fun xx=>by
 obtain⟨(s:ByteArray),_⟩:=xx
 refine(by kernel_rfl:(ByteArray.size s≤(1000000:Nat)→ByteArray.size s≤(1000000:Nat)∧(bif !Yl s then(8:Int) else(0:Int))=bif Yl s then(0:Int) else(8:Int))=_).mp ?_
 exact fun h=>⟨h,by cases Yl s<;>rfl⟩
abbrev W19 [Sx.Dr]:=W18.add Kqf
def Krz:Con:={args:=[aI],ress:=[I],owns:=[],pre:=fun _=>[],spec:=fun(n,_)=>(Kh n 0 999999999,())}
theorem Kqc [Sx.Dr]:Ok Tryz.prog 138 Krz:=okW W19 Tryz.f138 na fun xx=>by
 obtain⟨(n:Int),_⟩:=xx
 refine(by kernel_rfl:(Kmc n)=_).mp ?_
 delta Z71 Kmc
 rfl
abbrev W20 [Sx.Dr]:=W19.add Kqc
abbrev Ev:=Int×ByteArray×List ByteArray×List Int×ByteArray
abbrev sEv:Sch:= .prod sI (.prod .str (.prod (.list 9 .str) (.prod (.list 3 sI) .str)))
abbrev aEv:AK:= .val true sEv
def Jj (k:ByteArray):K10:=(Up .str k Lx).getD ([],0,none,none,none)
def Ym (k:ByteArray):Bool:=(Up .str k Lx).isSome
def Jc (e:Ev):Int:=
 if Kh e.1 1 1000≠0 then Kh e.1 1 1000 else
 bif Ym e.2.1 then(if e.2.2.1.length=(Jj e.2.1).1.length∧(e.2.2.2.1.length:Int)=(Jj e.2.1).2.1 then
  Jh [Jh (e.2.2.1.map fun s=>bif Yl s then 0 else 8),Jh (e.2.2.2.1.map fun n=>Kh n 0 999999999),bif decide (0<e.2.2.2.2.size) then 1 else 0] else 2) else 13
theorem bn1 {b c:Bool} (h:(bif b then true else c)=false):b=false∧c=false:=by cases b<;>simp_all
def Kcw:Con:={args:=[aEv],ress:=[I],owns:=[],pre:=fun(e,_)=>[e.2.2.1.length≤1000000,e.2.2.2.1.length≤1000000,∀s∈e.2.2.1,s.size≤1000000],spec:=fun(e,_)=>(Jc e,())}
def Z66 (a:Int) (b:Bt) (c:Ls) (d:Li) (e:Bt):=Jc (a,b,c,d,e)
def K0x (a:Ls):=List.map (fun(x:ByteArray)=>match Yl x with|true=>(0:Int)|false=>(8:Int)) a
def Jga (a:Ls):=∀(s:ByteArray),Jgd a s→ByteArray.size s≤1000000
def Ky5 (a:Bt):=Up Sch.str a Lx
def Kux (a:Bt):=Option.getD (Ky5 a) J9w
theorem K18 [Sx.Dr]:Ok Tryz.prog 64 Kcw:=okW W20 Tryz.f64 na fun xx=>by
 obtain⟨⟨(n:Int),(k:ByteArray),(ns:List ByteArray),(vs:List Int),(t:ByteArray)⟩,_⟩:=xx
 refine(by kernel_rfl:(Jag ns→Z51 vs→Jga ns→Br (Kh n 1 (1000:Int) !=0) (Kh n 1 1000=Z66 n k ns vs t) (Br (!Option.isSome (Ky5 k)) (13=Z66 n k ns vs t) (Br (bif Ln ns !=Ln (Kux k).1 then true else Ln vs !=(Kux k).2.1) (2=Z66 n k ns vs t) ((Jag ns∧Jga ns)∧(Z51 vs∧∀(x:Int),J7i vs x→True)∧(List.length (K0x ns)≤1000000∧List.length (List.map (fun(x:Int)=>Z71 x) vs)≤1000000∧3≤1000000)∧Jh [Jh (K0x ns),Jh (List.map (fun(x:Int)=>Z71 x) vs),bif !Lb t B0 then 1 else 0]=Z66 n k ns vs t))))=_).mp ?_
 delta Z51 Z66 Z71 Jag J7i Jgd J9w K0x Jga Ky5 Kux Br Ln B0 Lb
 intro h1 h2 h3
 unfold Jc Jj Ym
 dsimp only
 refine⟨fun h=> ?_,fun h=> ?_⟩
 ·rw[if_pos (bne_iff_ne.1 h)]
 rw[if_neg (by have:=bne_eq_false_iff_eq.1 h;simpa using this)]
 refine⟨fun h4=> ?_,fun h4=> ?_⟩
 ·rw[Bool.not_eq_true'] at h4
  rw[h4];rfl
 rw[Bool.not_eq_false'] at h4
 rw[h4,cond_true]
 refine⟨fun h5=> ?_,fun h5=>⟨⟨h1,h3⟩,⟨h2,fun _ _=>trivial⟩,⟨by simpa using h1,by simpa using h2,by decide⟩, ?_⟩⟩
 ·rw[if_neg]
  rintro⟨e1,e2⟩
  rw[e1,e2] at h5
  simp at h5
 ·have h6:=bn1 h5
  rw[if_pos ⟨Int.ofNat_inj.1 (bne_eq_false_iff_eq.1 h6.1),bne_eq_false_iff_eq.1 h6.2⟩,Ji6]
  rfl
abbrev W21 [Sx.Dr]:=W20.add K18
abbrev Hx:Sch:= .prod sI sI
abbrev Sta:=ByteArray×Int×Int
abbrev Ord:=ByteArray×ByteArray×ByteArray×(Int×Int)×Int×Int×Int
abbrev Met:=ByteArray×Int×Int×Int
abbrev Out:=ByteArray×ByteArray×(Int×Int)×Int
abbrev Per:=ByteArray×ByteArray×Bool
abbrev Fd:Sch:= .prod .str (.prod sI sI)
abbrev Lf:Sch:= .prod .str (.prod .str (.prod .str (.prod Hx (.prod sI (.prod sI sI)))))
abbrev Jah:Sch:= .prod .str (.prod sI (.prod sI sI))
abbrev Zg:Sch:= .prod .str (.prod .str (.prod Hx sI))
abbrev Hm:Sch:= .prod .str (.prod .str .bool)
def K2g:Con:={args:=[.val true Fd],ress:=[tS],owns:=[],pre:=fun _=>[],spec:=fun(x,_)=>(x.1,())}
def K2i:Con:={args:=[.val true Lf],ress:=[tS],owns:=[],pre:=fun _=>[],spec:=fun(x,_)=>(x.1,())}
def K2f:Con:={args:=[.val true Zg],ress:=[tS],owns:=[],pre:=fun _=>[],spec:=fun(x,_)=>(x.1,())}
def K2h:Con:={args:=[.val true Hm],ress:=[tS],owns:=[],pre:=fun _=>[],spec:=fun(x,_)=>(x.1,())}
theorem Kmx [Sx.Dr] (x:Sta):wpF Tryz.prog W21.g (na ()) Tryz.f328 K2g (x,()):=by
 refine(by kernel_rfl:(x.1=x.1)=_).mp ?_
 rfl
theorem Knv [Sx.Dr]:Ok Tryz.prog 328 K2g:=Vs mixed W21.ok (by kernel_rfl) (by kernel_rfl) na fun xx=>Kmx xx.1
abbrev W22 [Sx.Dr]:=W21.add Knv
theorem Kmw [Sx.Dr] (x:Ord):wpF Tryz.prog W22.g (na ()) Tryz.f329 K2i (x,()):=by
 refine(by kernel_rfl:(x.1=x.1)=_).mp ?_
 rfl
theorem Knu [Sx.Dr]:Ok Tryz.prog 329 K2i:=Vs mixed W22.ok (by kernel_rfl) (by kernel_rfl) na fun xx=>Kmw xx.1
abbrev W23 [Sx.Dr]:=W22.add Knu
theorem Km5 [Sx.Dr] (x:Out):wpF Tryz.prog W23.g (na ()) Tryz.f204 K2f (x,()):=by
 refine(by kernel_rfl:(x.1=x.1)=_).mp ?_
 rfl
theorem Koq [Sx.Dr]:Ok Tryz.prog 204 K2f:=Vs mixed W23.ok (by kernel_rfl) (by kernel_rfl) na fun xx=>Km5 xx.1
abbrev W24 [Sx.Dr]:=W23.add Koq
theorem Km4 [Sx.Dr] (x:Per):wpF Tryz.prog W24.g (na ()) Tryz.f208 K2h (x,()):=by
 refine(by kernel_rfl:(x.1=x.1)=_).mp ?_
 rfl
theorem Kom [Sx.Dr]:Ok Tryz.prog 208 K2h:=Vs mixed W24.ok (by kernel_rfl) (by kernel_rfl) na fun xx=>Km4 xx.1
abbrev W25 [Sx.Dr]:=W24.add Kom
def Ja:ByteArray:=⟨⟨[]⟩⟩
def Vg {α:Type} (p:α→Bool):List α→Nat→Int
 |[],_=> -1
 |x::r,k=>if p x=true then(k:Int) else Vg p r (k+1)
theorem Yc {α:Type} {p:α→Bool} {l:List α} {k:Nat} {d:α} (h:k<l.length):Vg p (l.drop k) k=if p (l.getD k d)=true then(k:Int) else Vg p (l.drop (k+1)) (k+1):=by
 rw[List.drop_eq_getElem_cons h]
 simp[Vg,List.getD_eq_getElem?_getD,h]
abbrev Jl8 (T:TypeId) (s:Sch) (g:Bool) (l:List s.T) (q:Tup [(g,s)]→List Prop) (f:Tup [(g,s)]→Bool):Ann:={X:=Nat,σ:=fun k=>⟨2,[(0, .one (.sl 0)),(1, .one (.fv 1)),(7, .one (.int .i64 l.length)),(8, .one (.int .i64 k))],[(0, .imm T s l),(1, .afn [(g,s)] Bo q f)]⟩,inv:=fun k=>k≤l.length∧Vg (fun x=>f (x,())) l 0=Vg (fun x=>f (x,())) (l.drop k) k,mu:=fun k=>l.length-k}
def Kcf (T:TypeId) (s:Sch) (g:Bool):Con:={args:=[.val false (.list T s), .fn [(g,s)] Bo],ress:=[I],owns:=[],pre:=fun(l,(q,_),_)=>[l.length≤1000000,∀x∈l,Ur (q (x,()))],spec:=fun(l,(_,f),_)=>(Vg (fun x=>f (x,())) l 0,())}
def Jsu:Sta:=(Ja,0,0)
def K2k:Con:={args:=[.val true Fd, .ref 9 .str],ress:=[Bo],owns:=[],pre:=fun _=>[],spec:=fun(x,s,_)=>(x.1.toList==s.toList,())}
theorem Km3 [Sx.Dr] (x:Sta) (s:ByteArray):wpF Tryz.prog W25.g (na ()) Tryz.f229 K2k (x,s,()):=by
 refine(by kernel_rfl:(Lb x.1 s=Lb x.1 s)=_).mp ?_
 delta Lb
 rfl
theorem Koi [Sx.Dr]:Ok Tryz.prog 229 K2k:=Vs mixed W25.ok (by kernel_rfl) (by kernel_rfl) na fun xx=>Km3 xx.1 xx.2.1
abbrev W26 [Sx.Dr]:=W25.add Koi
def Z9:=(B0,(0:Int),(0:Int))
def Z59 (a:List Sta):=List.length a≤1000000
def Z69:=(-1)
def Kz0 (a:List Sta) (b:Nat):=(((List.getD a b Z9).1,E2 (List.getD a b Z9).2),PUnit.unit)
def Kjp (a:Nat) (b:List Sta) (c:Sta×Unit→Bool):=a≤List.length b∧Vg (fun(x:Sta)=>c (x,PUnit.unit)) b 0=Vg (fun(x:Sta)=>c (x,PUnit.unit)) (List.drop a b) a
theorem Koj [Sx.Dr]:Ok Tryz.prog 228 (Kcf 127 Fd true):=okW W26 Tryz.f228 (fun xx=>X8 (Jl8 127 Fd true xx.1 xx.2.1.1 xx.2.1.2)) fun xx=>by
 obtain⟨(l:List Sta),⟨(q:Sta×Unit→List Prop),(f:Sta×Unit→Bool)⟩,_⟩:=xx
 refine(by kernel_rfl:(Z59 l→(∀(x:Sta),x∈l→Ur (q (x,PUnit.unit)))→∃(x:Nat),Si (Ln l) (0=Nc x∧Sf l ((fun(x:Sta×PUnit)=>q x)=q∧(fun(x:Sta×PUnit)=>f x)=f))∧Kjp x l f∧∀(x:Nat),Kjp x l f→Br (decide (Nc x<Ln l)) (T2 (Bd (Nc x) (Ln l)) (Ur (q (Kz0 l x)))∧Br (f (Kz0 l x)) (Nc x=Vg (fun(x:Sta)=>f (x,PUnit.unit)) l 0) (Z19 x∧∃(y:Nat),Si (Ln l) (Z95 x y∧Sf l ((fun(x:Sta×PUnit)=>q x)=q∧(fun(x:Sta×PUnit)=>f x)=f))∧Kjp y l f∧List.length l-y<List.length l-x)) (Z69=Vg (fun(x:Sta)=>f (x,PUnit.unit)) l 0))=_).mp ?_
 delta Z9 Z19 Z59 Z69 Z95 Kz0 Kjp Br Iw Bd T2 Sf Si Ln Nc B0 E2
 intro hb hq
 refine⟨(0:Nat),⟨rfl,rfl,rfl,rfl,rfl⟩,⟨Nat.zero_le _,rfl⟩,fun(k:Nat) hk=>⟨fun h=> ?_,fun h=> ?_⟩⟩
 ·have hlt:k<l.length:=by simpa using h
  have hd:=Yc (p:=fun x=>f (x,())) (d:=Jsu) hlt
  refine⟨⟨by omega,by omega,hq (l.getD k Jsu) (Je hlt)⟩,fun h1=> ?_,fun h1=>⟨by omega,(k+1:Nat),⟨rfl,rfl,rfl,by simp,rfl⟩,⟨by omega, ?_⟩,by omega⟩⟩
  ·rw[hk.2,hd,if_pos (show f (l.getD k Jsu,())=true from h1)]
  ·rw[hk.2,hd,if_neg (by rw[show f (l.getD k Jsu,())=false from h1];simp)]
 ·have hlt:¬k<l.length:=by simpa using h
  have:k=l.length:=by omega
  rw[hk.2,this,List.drop_length];rfl
abbrev W27 [Sx.Dr]:=W26.add Koj
def J0 (l:List Sta) (s:ByteArray):Int:=Vg (fun x=>x.1.toList==s.toList) l 0
def Kcl:Con:={args:=[.val false (.list 127 Fd),aS],ress:=[I],owns:=[],pre:=fun(l,_)=>[l.length≤1000000],spec:=fun(l,s,_)=>(J0 l s,())}
theorem Kp7 [Sx.Dr]:Ok Tryz.prog 143 Kcl:=okW W27 Tryz.f143 na fun xx=>by
 obtain⟨(l:List Sta),(s:ByteArray),_⟩:=xx
 refine(by kernel_rfl:(Z59 l→(Z59 l∧∀(x:Sta),x∈l→True)∧Vg (fun(x:Sta)=>List.beq (ByteArray.toList x.1) (ByteArray.toList s)) l 0=J0 l s)=_).mp ?_
 delta Z59
 exact fun h=>⟨⟨h,fun _ _=>trivial⟩,rfl⟩
abbrev W28 [Sx.Dr]:=W27.add Kp7
def J6:Ord:=(Ja,Ja,Ja,(0,0),0,0,0)
def K2m:Con:={args:=[.val true Lf, .ref 9 .str],ress:=[Bo],owns:=[],pre:=fun _=>[],spec:=fun(x,s,_)=>(x.1.toList==s.toList,())}
theorem Km2 [Sx.Dr] (x:Ord) (s:ByteArray):wpF Tryz.prog W28.g (na ()) Tryz.f231 K2m (x,s,()):=by
 refine(by kernel_rfl:(Lb x.1 s=Lb x.1 s)=_).mp ?_
 delta Lb
 rfl
theorem Kog [Sx.Dr]:Ok Tryz.prog 231 K2m:=Vs mixed W28.ok (by kernel_rfl) (by kernel_rfl) na fun xx=>Km2 xx.1 xx.2.1
abbrev W29 [Sx.Dr]:=W28.add Kog
def Z43 (a:List Ord):=List.length a≤1000000
def Z73:=((0:Int),(0:Int),(0:Int))
def Jde:=(B0,B0,B0,((0:Int),(0:Int)),Z73)
def Kf6 (a:List Ord) (b:Nat):=List.getD a b Jde
def Kla (a:List Ord) (b:Nat):=(Kf6 a b).2
def Kk9 (a:List Ord) (b:Ord×Unit→List Prop):=∀(x:Ord),x∈a→Ur (b (x,PUnit.unit))
def Kf4 (a:List Ord) (b:Nat):=(Kf6 a b).1
def Kk5 (a:List Ord) (b:Nat):=(Kla a b).2
def Kk4 (a:List Ord) (b:Nat):=(Kk5 a b).2
def Kk0 (a:List Ord) (b:Nat):=(Kk4 a b).2
def Kjt (a:Nat) (b:List Ord) (c:Ord×Unit→Bool):=a≤List.length b∧Vg (fun(x:Ord)=>c (x,PUnit.unit)) b 0=Vg (fun(x:Ord)=>c (x,PUnit.unit)) (List.drop a b) a
def Kd3 (a:List Ord) (b:Nat):=((Kf4 a b,(Kla a b).1,(Kk5 a b).1,E2 (Kk4 a b).1,(Kk0 a b).1,E2 (Kk0 a b).2),PUnit.unit)
def Khh (a:Ord×Unit→List Prop) (b:List Ord) (c:Nat):=Ur (a (Kd3 b c))
theorem Koh [Sx.Dr]:Ok Tryz.prog 230 (Kcf 130 Lf true):=okW W29 Tryz.f230 (fun xx=>X8 (Jl8 130 Lf true xx.1 xx.2.1.1 xx.2.1.2)) fun xx=>by
 obtain⟨(l:List Ord),⟨(q:Ord×Unit→List Prop),(f:Ord×Unit→Bool)⟩,_⟩:=xx
 refine(by kernel_rfl:(Z43 l→Kk9 l q→∃(x:Nat),Si (Ln l) (0=Nc x∧Sf l ((fun(x:Ord×PUnit)=>q x)=q∧(fun(x:Ord×PUnit)=>f x)=f))∧Kjt x l f∧∀(x:Nat),Kjt x l f→Br (decide (Nc x<Ln l)) (T2 (Bd (Nc x) (Ln l)) (Khh q l x)∧Br (f (Kd3 l x)) (Nc x=Vg (fun(x:Ord)=>f (x,PUnit.unit)) l 0) (Z19 x∧∃(y:Nat),Si (Ln l) (Z95 x y∧Sf l ((fun(x:Ord×PUnit)=>q x)=q∧(fun(x:Ord×PUnit)=>f x)=f))∧Kjt y l f∧List.length l-y<List.length l-x)) (Z69=Vg (fun(x:Ord)=>f (x,PUnit.unit)) l 0))=_).mp ?_
 delta Z19 Z43 Z69 Z73 Z95 Jde Kf6 Kla Kk9 Kf4 Kk5 Kk4 Kk0 Kjt Kd3 Khh Br Iw Bd T2 Sf Si Ln Nc B0 E2
 intro hb hq
 refine⟨(0:Nat),⟨rfl,rfl,rfl,rfl,rfl⟩,⟨Nat.zero_le _,rfl⟩,fun(k:Nat) hk=>⟨fun h=> ?_,fun h=> ?_⟩⟩
 ·have hlt:k<l.length:=by simpa using h
  have hd:=Yc (p:=fun x=>f (x,())) (d:=J6) hlt
  refine⟨⟨by omega,by omega,hq (l.getD k J6) (Je hlt)⟩,fun h1=> ?_,fun h1=>⟨by omega,(k+1:Nat),⟨rfl,rfl,rfl,by simp,rfl⟩,⟨by omega, ?_⟩,by omega⟩⟩
  ·rw[hk.2,hd,if_pos (show f (l.getD k J6,())=true from h1)]
  ·rw[hk.2,hd,if_neg (by rw[show f (l.getD k J6,())=false from h1];simp)]
 ·have hlt:¬k<l.length:=by simpa using h
  have:k=l.length:=by omega
  rw[hk.2,this,List.drop_length];rfl
abbrev W30 [Sx.Dr]:=W29.add Koh
def Kp (l:List Ord) (s:ByteArray):Int:=Vg (fun x=>x.1.toList==s.toList) l 0
def Kcn:Con:={args:=[.val false (.list 130 Lf),aS],ress:=[I],owns:=[],pre:=fun(l,_)=>[l.length≤1000000],spec:=fun(l,s,_)=>(Kp l s,())}
theorem Kp6 [Sx.Dr]:Ok Tryz.prog 144 Kcn:=okW W30 Tryz.f144 na fun xx=>by
 obtain⟨(l:List Ord),(s:ByteArray),_⟩:=xx
 refine(by kernel_rfl:(Z43 l→(Z43 l∧∀(x:Ord),x∈l→True)∧Vg (fun(x:Ord)=>List.beq (ByteArray.toList x.1) (ByteArray.toList s)) l 0=Kp l s)=_).mp ?_
 delta Z43
 exact fun h=>⟨⟨h,fun _ _=>trivial⟩,rfl⟩
abbrev W31 [Sx.Dr]:=W30.add Kp6
def Jbh:Out:=(Ja,Ja,(0,0),0)
def K2j:Con:={args:=[.val true Zg, .ref 9 .str],ress:=[Bo],owns:=[],pre:=fun _=>[],spec:=fun(x,s,_)=>(x.1.toList==s.toList,())}
theorem Km1 [Sx.Dr] (x:Out) (s:ByteArray):wpF Tryz.prog W31.g (na ()) Tryz.f233 K2j (x,s,()):=by
 refine(by kernel_rfl:(Lb x.1 s=Lb x.1 s)=_).mp ?_
 delta Lb
 rfl
theorem Koe [Sx.Dr]:Ok Tryz.prog 233 K2j:=Vs mixed W31.ok (by kernel_rfl) (by kernel_rfl) na fun xx=>Km1 xx.1 xx.2.1
abbrev W32 [Sx.Dr]:=W31.add Koe
def Z22 (a:Nat) (b:List Out):=Bd (Nc a) (Ln b)
def Z58 (a:List Out):=List.length a≤1000000
def Js9 (a:Nat) (b:List Out):=decide (Nc a<Ln b)
def Jgf:=(B0,B0,((0:Int),(0:Int)),(0:Int))
def Jyv (a:List Out) (b c:Nat):=List.length a-b<List.length a-c
def J1q (a:List Out) (b:Nat):=List.getD a b Jgf
def J1p (a:List Out) (b:Nat):=(J1q a b).1
def J3t (a:List Out) (b:Nat):=(J1q a b).2.2
def J3n (a:List Out) (b:Out×Unit→List Prop):=∀(x:Out),x∈a→Ur (b (x,PUnit.unit))
def Kjs (a:Nat) (b:List Out) (c:Out×Unit→Bool):=a≤List.length b∧Vg (fun(x:Out)=>c (x,PUnit.unit)) b 0=Vg (fun(x:Out)=>c (x,PUnit.unit)) (List.drop a b) a
def J89 (a:List Out) (b:Nat):=(J1p a b,(J1q a b).2.1,E2 (J3t a b).1,(J3t a b).2)
def J3i (a:List Out) (b:Nat):=(J89 a b,PUnit.unit)
def Kht (a:Out×Unit→Bool) (b:List Out) (c:Nat):=a (J3i b c)
def J3h (a:Out×Unit→List Prop) (b:List Out) (c:Nat):=Ur (a (J3i b c))
theorem Kof [Sx.Dr]:Ok Tryz.prog 232 (Kcf 188 Zg true):=okW W32 Tryz.f232 (fun xx=>X8 (Jl8 188 Zg true xx.1 xx.2.1.1 xx.2.1.2)) fun xx=>by
 obtain⟨(l:List Out),⟨(q:Out×Unit→List Prop),(f:Out×Unit→Bool)⟩,_⟩:=xx
 refine(by kernel_rfl:(Z58 l→J3n l q→∃(x:Nat),Si (Ln l) (0=Nc x∧Sf l ((fun(x:Out×PUnit)=>q x)=q∧(fun(x:Out×PUnit)=>f x)=f))∧Kjs x l f∧∀(x:Nat),Kjs x l f→Br (Js9 x l) (T2 (Z22 x l) (J3h q l x)∧Br (Kht f l x) (Nc x=Vg (fun(x:Out)=>f (x,PUnit.unit)) l 0) (Z19 x∧∃(y:Nat),Si (Ln l) (Z95 x y∧Sf l ((fun(x:Out×PUnit)=>q x)=q∧(fun(x:Out×PUnit)=>f x)=f))∧Kjs y l f∧Jyv l y x)) (Z69=Vg (fun(x:Out)=>f (x,PUnit.unit)) l 0))=_).mp ?_
 delta Z19 Z22 Z58 Z69 Z95 Js9 Jgf Jyv J1q J1p J3t J3n Kjs J89 J3i Kht J3h Br Iw Bd T2 Sf Si Ln Nc B0 E2
 intro hb hq
 refine⟨(0:Nat),⟨rfl,rfl,rfl,rfl,rfl⟩,⟨Nat.zero_le _,rfl⟩,fun(k:Nat) hk=>⟨fun h=> ?_,fun h=> ?_⟩⟩
 ·have hlt:k<l.length:=by simpa using h
  have hd:=Yc (p:=fun x=>f (x,())) (d:=Jbh) hlt
  refine⟨⟨by omega,by omega,hq (l.getD k Jbh) (Je hlt)⟩,fun h1=> ?_,fun h1=>⟨by omega,(k+1:Nat),⟨rfl,rfl,rfl,by simp,rfl⟩,⟨by omega, ?_⟩,by omega⟩⟩
  ·rw[hk.2,hd,if_pos (show f (l.getD k Jbh,())=true from h1)]
  ·rw[hk.2,hd,if_neg (by rw[show f (l.getD k Jbh,())=false from h1];simp)]
 ·have hlt:¬k<l.length:=by simpa using h
  have:k=l.length:=by omega
  rw[hk.2,this,List.drop_length];rfl
abbrev W33 [Sx.Dr]:=W32.add Kof
def J7 (l:List Out) (s:ByteArray):Int:=Vg (fun x=>x.1.toList==s.toList) l 0
def Kck:Con:={args:=[.val false (.list 188 Zg),aS],ress:=[I],owns:=[],pre:=fun(l,_)=>[l.length≤1000000],spec:=fun(l,s,_)=>(J7 l s,())}
def Kl1 (a:List Out):=∀(x:Out),x∈a→True
theorem Kp5 [Sx.Dr]:Ok Tryz.prog 145 Kck:=okW W33 Tryz.f145 na fun xx=>by
 obtain⟨(l:List Out),(s:ByteArray),_⟩:=xx
 refine(by kernel_rfl:(Z58 l→(Z58 l∧Kl1 l)∧Vg (fun(x:Out)=>List.beq (ByteArray.toList x.1) (ByteArray.toList s)) l 0=J7 l s)=_).mp ?_
 delta Z58 Kl1
 exact fun h=>⟨⟨h,fun _ _=>trivial⟩,rfl⟩
abbrev W34 [Sx.Dr]:=W33.add Kp5
def Jiz:Per:=(Ja,Ja,false)
def K2l:Con:={args:=[.val true Hm, .ref 9 .str],ress:=[Bo],owns:=[],pre:=fun _=>[],spec:=fun(x,s,_)=>(x.1.toList==s.toList,())}
theorem Km0 [Sx.Dr] (x:Per) (s:ByteArray):wpF Tryz.prog W34.g (na ()) Tryz.f235 K2l (x,s,()):=by
 refine(by kernel_rfl:(Lb x.1 s=Lb x.1 s)=_).mp ?_
 delta Lb
 rfl
theorem Koc [Sx.Dr]:Ok Tryz.prog 235 K2l:=Vs mixed W34.ok (by kernel_rfl) (by kernel_rfl) na fun xx=>Km0 xx.1 xx.2.1
abbrev W35 [Sx.Dr]:=W34.add Koc
def Z50 (a:List Per):=List.length a≤1000000
def Jy2 (a:Nat) (b:List Per):=decide (Nc a<Ln b)
def J35 (a:List Per) (b:Nat):=(List.getD a b (B0,B0,false)).2
def J1t (a:List Per) (b c:Nat):=List.length a-b<List.length a-c
def J9t (a:List Per) (b:Per×Unit→List Prop):=∀(x:Per),x∈a→Ur (b (x,PUnit.unit))
def Kfw (a:List Per) (b:Nat):=((List.getD a b (B0,B0,false)).1,E2 (J35 a b))
def J9r (a:List Per) (b:Nat):=(Kfw a b,PUnit.unit)
def Kka (a:Per×Unit→Bool) (b:List Per) (c:Nat):=a (J9r b c)
def J9n (a:Per×Unit→List Prop) (b:List Per) (c:Nat):=Ur (a (J9r b c))
def Kjq (a:Nat) (b:List Per) (c:Per×Unit→Bool):=a≤List.length b∧Vg (fun(x:Per)=>c (x,PUnit.unit)) b 0=Vg (fun(x:Per)=>c (x,PUnit.unit)) (List.drop a b) a
theorem Kod [Sx.Dr]:Ok Tryz.prog 234 (Kcf 235 Hm true):=okW W35 Tryz.f234 (fun xx=>X8 (Jl8 235 Hm true xx.1 xx.2.1.1 xx.2.1.2)) fun xx=>by
 obtain⟨(l:List Per),⟨(q:Per×Unit→List Prop),(f:Per×Unit→Bool)⟩,_⟩:=xx
 refine(by kernel_rfl:(Z50 l→J9t l q→∃(x:Nat),Si (Ln l) (0=Nc x∧Sf l ((fun(x:Per×PUnit)=>q x)=q∧(fun(x:Per×PUnit)=>f x)=f))∧Kjq x l f∧∀(x:Nat),Kjq x l f→Br (Jy2 x l) (T2 (Bd (Nc x) (Ln l)) (J9n q l x)∧Br (Kka f l x) (Nc x=Vg (fun(x:Per)=>f (x,PUnit.unit)) l 0) (Z19 x∧∃(y:Nat),Si (Ln l) (Z95 x y∧Sf l ((fun(x:Per×PUnit)=>q x)=q∧(fun(x:Per×PUnit)=>f x)=f))∧Kjq y l f∧J1t l y x)) (Z69=Vg (fun(x:Per)=>f (x,PUnit.unit)) l 0))=_).mp ?_
 delta Z19 Z50 Z69 Z95 Jy2 J35 J1t J9t Kfw J9r Kka J9n Kjq Br Iw Bd T2 Sf Si Ln Nc B0 E2
 intro hb hq
 refine⟨(0:Nat),⟨rfl,rfl,rfl,rfl,rfl⟩,⟨Nat.zero_le _,rfl⟩,fun(k:Nat) hk=>⟨fun h=> ?_,fun h=> ?_⟩⟩
 ·have hlt:k<l.length:=by simpa using h
  have hd:=Yc (p:=fun x=>f (x,())) (d:=Jiz) hlt
  refine⟨⟨by omega,by omega,hq (l.getD k Jiz) (Je hlt)⟩,fun h1=> ?_,fun h1=>⟨by omega,(k+1:Nat),⟨rfl,rfl,rfl,by simp,rfl⟩,⟨by omega, ?_⟩,by omega⟩⟩
  ·rw[hk.2,hd,if_pos (show f (l.getD k Jiz,())=true from h1)]
  ·rw[hk.2,hd,if_neg (by rw[show f (l.getD k Jiz,())=false from h1];simp)]
 ·have hlt:¬k<l.length:=by simpa using h
  have:k=l.length:=by omega
  rw[hk.2,this,List.drop_length];rfl
abbrev W36 [Sx.Dr]:=W35.add Kod
def U2 (l:List Per) (s:ByteArray):Int:=Vg (fun x=>x.1.toList==s.toList) l 0
def Kcm:Con:={args:=[.val false (.list 235 Hm),aS],ress:=[I],owns:=[],pre:=fun(l,_)=>[l.length≤1000000],spec:=fun(l,s,_)=>(U2 l s,())}
def Kkf (a:List Per):=Z50 a∧∀(x:Per),x∈a→True
theorem Kp4 [Sx.Dr]:Ok Tryz.prog 146 Kcm:=okW W36 Tryz.f146 na fun xx=>by
 obtain⟨(l:List Per),(s:ByteArray),_⟩:=xx
 refine(by kernel_rfl:(Z50 l→Kkf l∧Vg (fun(x:Per)=>List.beq (ByteArray.toList x.1) (ByteArray.toList s)) l 0=U2 l s)=_).mp ?_
 delta Z50 Kkf
 exact fun h=>⟨⟨h,fun _ _=>trivial⟩,rfl⟩
abbrev W37 [Sx.Dr]:=W36.add Kp4
abbrev Reg:=Int×Int×List Sta×List Ord×List Met×List Out×List Per
abbrev Jj7:Sch:= .prod sI (.prod sI (.prod (.list 127 Fd) (.prod (.list 130 Lf) (.prod (.list 155 Jah) (.prod (.list 188 Zg) (.list 235 Hm))))))
abbrev Jbj:AK:= .val true Jj7
def Ko (s:Int×Int) (h:Int):Bool:=bif decide (s.1≤h) then decide (h<s.2) else false
def Jwe:Con:={args:=[.val true Hx,aI],ress:=[Bo],owns:=[],pre:=fun _=>[],spec:=fun(s,h,_)=>(Ko s h,())}
theorem Kqa [Sx.Dr]:Ok Tryz.prog 140 Jwe:=okW W37 Tryz.f140 na fun xx=>by
 obtain⟨⟨(a:Int),(b:Int)⟩,(h:Int),_⟩:=xx
 refine(by kernel_rfl:((bif decide (a≤h) then decide (h<b) else false)=Ko (a,b) h)=_).mp ?_
 rfl
abbrev W38 [Sx.Dr]:=W37.add Kqa
def Jr (x:Ord) (h:Int):Bool:=bif Ko x.2.2.2.1 h then(bif x.2.2.2.2.2.2== -1 then true else decide (h<x.2.2.2.2.2.2)) else false
def J57:Con:={args:=[.val true Lf,aI],ress:=[Bo],owns:=[],pre:=fun _=>[],spec:=fun(x,h,_)=>(Jr x h,())}
theorem K48 [Sx.Dr]:Ok Tryz.prog 72 J57:=okW W38 Tryz.f72 na fun xx=>by
 obtain⟨⟨(n:ByteArray),(f:ByteArray),(t:ByteArray),⟨(a:Int),(b:Int)⟩,(p:Int),(c:Int),(r:Int)⟩,(h:Int),_⟩:=xx
 refine(by kernel_rfl:((bif Ko (a,b) h then bif r==Z69 then true else decide (h<r) else false)=Jr (n,f,t,(a,b),p,c,r) h)=_).mp ?_
 delta Z69
 rfl
abbrev W39 [Sx.Dr]:=W38.add K48
def Fu (x:Ord) (s:ByteArray):Bool:=bif x.2.1.toList==s.toList then true else x.2.2.1.toList==s.toList
def Kcz:Con:={args:=[.val true Lf,aS],ress:=[Bo],owns:=[],pre:=fun _=>[],spec:=fun(x,s,_)=>(Fu x s,())}
theorem Kn7 [Sx.Dr]:Ok Tryz.prog 240 Kcz:=okW W39 Tryz.f240 na fun xx=>by
 obtain⟨⟨(n:ByteArray),(f:ByteArray),(t:ByteArray),⟨(a:Int),(b:Int)⟩,(p:Int),(c:Int),(r:Int)⟩,(s:ByteArray),_⟩:=xx
 refine(by kernel_rfl:((bif Lb f s then true else Lb t s)=Fu (n,f,t,(a,b),p,c,r) s)=_).mp ?_
 delta Lb
 rfl
abbrev W40 [Sx.Dr]:=W39.add Kn7
def Jzv (x:Out) (s:ByteArray) (h:Int):Bool:=bif x.2.1.toList==s.toList then Ko x.2.2.1 h else false
def K6b:Con:={args:=[.val true Zg,aS,aI],ress:=[Bo],owns:=[],pre:=fun _=>[],spec:=fun(x,s,h,_)=>(Jzv x s h,())}
theorem Kpa [Sx.Dr]:Ok Tryz.prog 176 K6b:=okW W40 Tryz.f176 na fun xx=>by
 obtain⟨⟨(n:ByteArray),(f:ByteArray),⟨(a:Int),(b:Int)⟩,(p:Int)⟩,(s:ByteArray),(h:Int),_⟩:=xx
 refine(by kernel_rfl:((bif Lb f s then Ko (a,b) h else false)=Jzv (n,f,(a,b),p) s h)=_).mp ?_
 delta Lb
 rfl
abbrev W41 [Sx.Dr]:=W40.add Kpa
theorem Jz {α:Type} {l:List α} {k:Nat} {d:α} (h:k<l.length):l.drop k=l.getD k d::l.drop (k+1):=by
 rw[List.drop_eq_getElem_cons h,List.getD_eq_getElem?_getD,List.getElem?_eq_getElem h];rfl
theorem Jbw {α:Type} {p:α→Bool}:∀{l:List α} {k:Nat},Vg p l k<k+l.length∧-1≤Vg p l k
 |[],k=>by simp[Vg];omega
 | x :: l, k => by
  unfold Vg
  split
  ·simp only[List.length_cons];omega
  ·have:=Jbw (p:=p) (l:=l) (k:=k+1)
   simp only[List.length_cons];omega
theorem K6 {l:List Sta} {s:ByteArray}:J0 l s<l.length:=by have:=(Jbw (p:=fun x=>x.1.toList==s.toList) (l:=l) (k:=0)).1;unfold J0;omega
theorem Uu {l:List Ord} {s:ByteArray}:Kp l s<l.length:=by have:=(Jbw (p:=fun x=>x.1.toList==s.toList) (l:=l) (k:=0)).1;unfold Kp;omega
theorem Ut {l:List Out} {s:ByteArray}:J7 l s<l.length:=by have:=(Jbw (p:=fun x=>x.1.toList==s.toList) (l:=l) (k:=0)).1;unfold J7;omega
theorem U0 {l:List Per} {s:ByteArray}:U2 l s<l.length:=by have:=(Jbw (p:=fun x=>x.1.toList==s.toList) (l:=l) (k:=0)).1;unfold U2;omega
def Kq (M:List Met) (n:ByteArray) (h:Int):Int:=Vg (fun x=>bif x.1.toList==n.toList then x.2.1==h else false) M 0
theorem Jav {l:List Met} {s:ByteArray} {h:Int}:Kq l s h<l.length:=by have:=(Jbw (p:=fun x=>bif x.1.toList==s.toList then x.2.1==h else false) (l:=l) (k:=0)).1;unfold Kq;omega
structure J8u (x:Sta):Prop where
 lim:1≤x.2.1∧x.2.1≤1000
 pri:0≤x.2.2∧x.2.2≤1000
structure Jme (x:Int×Int):Prop where
 lo:0≤x.1
 mid:x.1≤x.2
 hi:x.2≤999999999
 len:x.2-x.1≤48
structure Jdj (S:List Sta) (x:Ord):Prop where
 span:Jme x.2.2.2.1
 pow:1≤x.2.2.2.2.1∧x.2.2.2.2.1≤1000
 pri:0≤x.2.2.2.2.2.1∧x.2.2.2.2.2.1≤1000
 trip: -1≤x.2.2.2.2.2.2∧x.2.2.2.2.2.2≤999999999
 fr:0≤J0 S x.2.1
 tu:0≤J0 S x.2.2.1
structure Jx7 (x:Met):Prop where
 hour:0≤x.2.1∧x.2.1≤999999999
 sent:0≤x.2.2.1∧x.2.2.1≤1000
 got:0≤x.2.2.2∧x.2.2.2≤x.2.2.1
structure Jok (S:List Sta) (x:Out):Prop where
 span:Jme x.2.2.1
 rest:0≤x.2.2.2∧x.2.2.2≤1000
 sta:0≤J0 S x.2.1
structure Jn (r:Reg):Prop where
 tk:0≤r.1∧r.1≤999999999
 st:0≤r.2.1∧r.2.1≤r.1
 nS:r.2.2.1.length≤6
 nO:r.2.2.2.1.length≤32
 nM:r.2.2.2.2.1.length≤10000
 nX:r.2.2.2.2.2.1.length≤16
 nQ:r.2.2.2.2.2.2.length≤16
 sta:∀x∈r.2.2.1,J8u x
 ord:∀x∈r.2.2.2.1,Jdj r.2.2.1 x
 met:∀x∈r.2.2.2.2.1,Jx7 x
 out:∀x∈r.2.2.2.2.2.1,Jok r.2.2.1 x
 per:∀x∈r.2.2.2.2.2.2,0≤J7 r.2.2.2.2.2.1 x.2.1
 done:∀x∈r.2.2.2.1,∀h,Jr x h=true→h<r.2.1→0≤Kq r.2.2.2.2.1 x.1 h
def Ho (S:List Sta) (s:ByteArray):Sta:=S.getD (J0 S s).toNat Jsu
def J51:Con:={args:=[Jbj,aS],ress:=[(true,Fd)],owns:=[],pre:=fun((_,_,S,_),s,_)=>[S.length≤1000000,0≤J0 S s],spec:=fun((_,_,S,_),s,_)=>(Ho S s,())}
def Z20 (a:List Sta) (b:Bt):=0≤J0 a b
def Kgm (a:List Sta) (b:Bt):=Gt a (J0 a b) Z9
theorem Kpb [Sx.Dr]:Ok Tryz.prog 175 J51:=okW W41 Tryz.f175 na fun xx=>by
 obtain⟨⟨(tk:Int),(st:Int),(S:List Sta),(O:List Ord),(M:List Met),(X:List Out),(Q:List Per)⟩,(s:ByteArray),_⟩:=xx
 refine(by kernel_rfl:(Z59 S→Z20 S s→(Z59 S∧Tw (Bd (J0 S s) (Ln S)))∧((Kgm S s).1,E2 (Kgm S s).2)=Ho S s)=_).mp ?_
 delta Z9 Z20 Z59 Kgm Bd Tw Ln Gt B0 E2
 exact fun h1 h2=>⟨⟨h1,⟨h2,K6⟩,⟨h2,K6⟩⟩,rfl⟩
abbrev W42 [Sx.Dr]:=W41.add Kpb
def Yu (O:List Ord) (s:ByteArray):Ord:=O.getD (Kp O s).toNat J6
def J54:Con:={args:=[Jbj,aS],ress:=[(true,Lf)],owns:=[],pre:=fun((_,_,_,O,_),s,_)=>[O.length≤1000000,0≤Kp O s],spec:=fun((_,_,_,O,_),s,_)=>(Yu O s,())}
def K00 (a:List Ord) (b:Bt):=Gt a (Kp a b) Jde
def K0v (a:List Ord) (b:Bt):=(K00 a b).2
def K0s (a:List Ord) (b:Bt):=(K0v a b).2
def K0q (a:List Ord) (b:Bt):=(K0s a b).2
def K0k (a:List Ord) (b:Bt):=(K0q a b).2
theorem Kow [Sx.Dr]:Ok Tryz.prog 198 J54:=okW W42 Tryz.f198 na fun xx=>by
 obtain⟨⟨(tk:Int),(st:Int),(S:List Sta),(O:List Ord),(M:List Met),(X:List Out),(Q:List Per)⟩,(s:ByteArray),_⟩:=xx
 refine(by kernel_rfl:(Z43 O→0≤Kp O s→(Z43 O∧Tw (Bd (Kp O s) (Ln O)))∧((K00 O s).1,(K0v O s).1,(K0s O s).1,E2 (K0q O s).1,(K0k O s).1,E2 (K0k O s).2)=Yu O s)=_).mp ?_
 delta Z43 Z73 Jde K00 K0v K0s K0q K0k Bd Tw Ln Gt B0 E2
 exact fun h1 h2=>⟨⟨h1,⟨h2,Uu⟩,⟨h2,Uu⟩⟩,rfl⟩
abbrev W43 [Sx.Dr]:=W42.add Kow
def L5 (X:List Out) (s:ByteArray):Out:=X.getD (J7 X s).toNat Jbh
def J53:Con:={args:=[Jbj,aS],ress:=[(true,Zg)],owns:=[],pre:=fun((_,_,_,_,_,X,_),s,_)=>[X.length≤1000000,0≤J7 X s],spec:=fun((_,_,_,_,_,X,_),s,_)=>(L5 X s,())}
def Kl5 (a:List Out) (b:Bt):=(Gt a (J7 a b) Jgf).2
theorem Kn5 [Sx.Dr]:Ok Tryz.prog 242 J53:=okW W43 Tryz.f242 na fun xx=>by
 obtain⟨⟨(tk:Int),(st:Int),(S:List Sta),(O:List Ord),(M:List Met),(X:List Out),(Q:List Per)⟩,(s:ByteArray),_⟩:=xx
 refine(by kernel_rfl:(Z58 X→0≤J7 X s→(Z58 X∧Tw (Bd (J7 X s) (Ln X)))∧((Gt X (J7 X s) Jgf).1,(Kl5 X s).1,E2 (Kl5 X s).2.1,(Kl5 X s).2.2)=L5 X s)=_).mp ?_
 delta Z58 Jgf Kl5 Bd Tw Ln Gt B0 E2
 exact fun h1 h2=>⟨⟨h1,⟨h2,Ut⟩,⟨h2,Ut⟩⟩,rfl⟩
abbrev W44 [Sx.Dr]:=W43.add Kn5
def Jmi (Q:List Per) (s:ByteArray):Per:=Q.getD (U2 Q s).toNat Jiz
def J52:Con:={args:=[Jbj,aS],ress:=[(true,Hm)],owns:=[],pre:=fun((_,_,_,_,_,_,Q),s,_)=>[Q.length≤1000000,0≤U2 Q s],spec:=fun((_,_,_,_,_,_,Q),s,_)=>(Jmi Q s,())}
theorem Kn2 [Sx.Dr]:Ok Tryz.prog 245 J52:=okW W44 Tryz.f245 na fun xx=>by
 obtain⟨⟨(tk:Int),(st:Int),(S:List Sta),(O:List Ord),(M:List Met),(X:List Out),(Q:List Per)⟩,(s:ByteArray),_⟩:=xx
 refine(by kernel_rfl:(Z50 Q→0≤U2 Q s→(Z50 Q∧Tw (Bd (U2 Q s) (Ln Q)))∧((Gt Q (U2 Q s) (B0,B0,false)).1,E2 (Gt Q (U2 Q s) (B0,B0,false)).2)=Jmi Q s)=_).mp ?_
 delta Z50 Bd Tw Ln Gt B0 E2
 exact fun h1 h2=>⟨⟨h1,⟨h2,U0⟩,⟨h2,U0⟩⟩,rfl⟩
abbrev W45 [Sx.Dr]:=W44.add Kn2
def Vc:List Ord→ByteArray→Int→Int
 |[],_,_=>0
 |x::l,s,h=>(bif bif Fu x s then Jr x h else false then x.2.2.2.2.1 else 0)+Vc l s h
theorem Jje {S:List Sta} {s:ByteArray} {h:Int}:∀{O:List Ord},(∀x∈O,Jdj S x)→0≤Vc O s h∧Vc O s h≤1000*O.length
 |[],_=>by simp[Vc]
 |x::l,hO=>by
  have:=Jje (s:=s) (h:=h) (O:=l) fun y hy=>hO y (List.mem_cons_of_mem _ hy)
  have hx:=(hO x (List.mem_cons_self ..)).pow
  unfold Vc
  simp only[List.length_cons]
  cases(bif Fu x s then Jr x h else false)<;>simp only[cond_true,cond_false]<;>omega
def Kru:Con:={args:=[Jbj,aS,aI],ress:=[I],owns:=[],pre:=fun(r,_)=>[Jn r],spec:=fun((_,_,_,O,_),s,h,_)=>(Vc O s h,())}
abbrev J6q (O:List Ord) (s:ByteArray) (h:Int):Ann:={X:=Nat×Int,σ:=fun(k,n)=>⟨1,[(1, .one (.str s)),(2, .one (.int .i64 h)),(7, .one (.int .i64 n)),(11, .one (.sl 0)),(12, .one (.int .i64 O.length)),(13, .one (.int .i64 k))],[(0, .imm 130 Lf O)]⟩,inv:=fun(k,n)=>k≤O.length∧0≤n∧n≤1000*k∧n+Vc (O.drop k) s h=Vc O s h,mu:=fun(k,_)=>O.length-k}
def Z34 (a:Nat×Int):=Iw (Nc a.1+1)
def Z65 (a b:Int) (c:List Sta) (d:List Ord) (e:List Met) (f:List Out) (g:List Per):=(a,b,c,d,e,f,g)
def Jsk (a b:Nat×Int):=Nc a.1+1=Nc b.1
def Jx (a b:Int) (c:List Sta) (d:List Ord) (e:List Met) (f:List Out) (g:List Per):=Jn (Z65 a b c d e f g)
def Kf5 (a:List Ord) (b:Nat×Int):=List.getD a b.1 Jde
def Kf3 (a:List Ord) (b:Nat×Int):=(Kf5 a b).2
def Kf2 (a:List Ord) (b:Nat×Int):=(Kf3 a b).1
def Kf1 (a:List Ord) (b:Nat×Int):=(Kf3 a b).2
def Kf0 (a:List Ord) (b:Nat×Int):=(Kf1 a b).2
def Kfy (a:List Ord) (b:Nat×Int):=(Kf1 a b).1
def Kfx (a:List Ord) (b:Nat×Int):=(Kf0 a b).2
def Kfv (a:List Ord) (b:Nat×Int):=(Kfx a b).1
def Kfu (a:List Ord) (b:Nat×Int):=(Kfx a b).2
def Kkd (a:Nat×Int) (b:List Ord):=a.2+Kfv b a
def Kj5 (a:Nat×Int) (b:List Ord):=Iw (Kkd a b)
def Kj3 (a:Nat×Int) (b:List Ord) (c:Nat×Int):=Kkd a b=c.2
def Ki6 (a:Nat×Int) (b:List Ord) (c:Bt) (d:Int):=a.1≤List.length b∧0≤a.2∧a.2≤1000*Nc a.1∧a.2+Vc (List.drop a.1 b) c d=Vc b c d
def Kvw (a:Nat×Int) (b:List Ord) (c:Bt) (d:Int) (e:Nat×Int):=Ki6 a b c d∧List.length b-a.1<List.length b-e.1
def J6z (a:List Ord) (b:Nat×Int):=((Kf5 a b).1,Kf2 a b,Kfy a b,E2 (Kf0 a b).1,Kfv a b,E2 (Kfu a b))
def Khg (a:List Ord) (b:Nat×Int) (c:Int):=Jr (J6z a b) c
theorem Ko9 [Sx.Dr]:Ok Tryz.prog 177 Kru:=okW W45 Tryz.f177 (fun xx=>X8 (J6q xx.1.2.2.2.1 xx.2.1 xx.2.2.1)) fun xx=>by
 obtain⟨⟨(tk:Int),(st:Int),(S:List Sta),(O:List Ord),(M:List Met),(X:List Out),(Q:List Per)⟩,(s:ByteArray),(h:Int),_⟩:=xx
 refine(by kernel_rfl:(Jx tk st S O M X Q→∃(x:Nat×Int),Sf s (Si h (0=x.2∧Si (Ln O) (0=Nc x.1∧O=O)))∧Ki6 x O s h∧∀(x:Nat×Int),Ki6 x O s h→Br (decide (Nc x.1<Ln O)) (Tw (Bd (Nc x.1) (Ln O))∧Br (bif Fu (J6z O x) s then Khg O x h else false) (Kj5 x O∧Z34 x∧∃(y:Nat×Int),Sf s (Si h (Kj3 x O y∧Si (Ln O) (Jsk x y∧O=O)))∧Kvw y O s h x) (Z34 x∧∃(y:Nat×Int),Sf s (Si h (x.2=y.2∧Si (Ln O) (Jsk x y∧O=O)))∧Kvw y O s h x)) (x.2=Vc O s h))=_).mp ?_
 delta Z34 Z65 Z73 Jsk Jx Jde Kf5 Kf3 Kf2 Kf1 Kf0 Kfy Kfx Kfv Kfu Kkd Kj5 Kj3 Ki6 Kvw J6z Khg Br Iw Bd Tw Sf Si Ln Nc B0 E2
 intro hr
 have hO:∀x∈O,Jdj S x:=hr.ord
 have nO:O.length≤32:=hr.nO
 refine⟨((0:Nat),(0:Int)),⟨rfl,rfl,rfl,rfl,rfl,rfl⟩,⟨Nat.zero_le _,by simp,by simp,by simp⟩,fun(x:Nat×Int) hk=>⟨fun h1=> ?_,fun h1=> ?_⟩⟩
 ·obtain⟨k,n⟩:=x
  have hlt:k<O.length:=by simpa using h1
  have ho:=hO _ (Je (d:=J6) hlt)
  have hp:=ho.pow
  dsimp only at hk⊢
  obtain⟨k1,k2,k3,k4⟩:=hk
  rw[Jz (d:=J6) hlt,Vc] at k4
  refine⟨⟨by omega,by omega⟩,fun h2=> ?_,fun h2=> ?_⟩
  ·have h3:(bif Fu (O.getD k J6) s then Jr (O.getD k J6) h else false)=true:=h2
   rw[h3,cond_true] at k4
   refine⟨⟨?_, ?_⟩,⟨by omega,by omega⟩,(k+1,n+(O.getD k J6).2.2.2.2.1),⟨rfl,rfl,rfl,rfl,by simp,rfl⟩,⟨by simp only;omega,by simp only;omega,by simp only;omega,by simp only;omega⟩,by simp only;omega⟩
   ·show _≤n+(O.getD k J6).2.2.2.2.1;omega
   ·show n+(O.getD k J6).2.2.2.2.1≤_;omega
  ·have h3:(bif Fu (O.getD k J6) s then Jr (O.getD k J6) h else false)=false:=h2
   rw[h3,cond_false] at k4
   refine⟨⟨by omega,by omega⟩,(k+1,n),⟨rfl,rfl,rfl,rfl,by simp,rfl⟩,⟨by simp only;omega,by simp only;omega,by simp only;omega,by simp only;omega⟩,by simp only;omega⟩
 ·obtain⟨k,n⟩:=x
  have hlt:¬k<O.length:=by simpa using h1
  simp only at hk
  have:k=O.length:=by omega
  rw[this,List.drop_length,Vc] at hk
  show n=_
  omega
abbrev W46 [Sx.Dr]:=W45.add Ko9
theorem Jil {S:List Sta} {s:ByteArray} (h:∀x∈S,J8u x) (hf:0≤J0 S s):J8u (Ho S s):=by
 have:=K6 (l:=S) (s:=s)
 exact h _ (Je (by omega))
def Jgu:List Out→ByteArray→Int→Int→Int
 |[],_,_,n=>n
 |x::l,s,h,n=>Jgu l s h (bif Jzv x s h then min n x.2.2.2 else n)
def Xo (S:List Sta) (O:List Ord) (X:List Out) (s:ByteArray) (h:Int):Int:=Jgu X s h (Ho S s).2.1-Vc O s h
def Krj:Con:={args:=[Jbj,aS,aI],ress:=[I],owns:=[],pre:=fun(r,s,_)=>[Jn r,0≤J0 r.2.2.1 s],spec:=fun((_,_,S,O,_,X,_),s,h,_)=>(Xo S O X s h,())}
abbrev J6i (tk st:Int) (S:List Sta) (O:List Ord) (M:List Met) (X:List Out) (Q:List Per) (s:ByteArray) (h:Int):Ann:={X:=Nat×Int,σ:=fun(k,n)=>⟨6,[(1, .one (.str s)),(2, .one (.int .i64 h)),(3, .one (.ptr 5 0)),(7, .one (.int .i64 n)),(15, .one (.sl 3)),(16, .one (.int .i64 X.length)),(17, .one (.int .i64 k))],[(0, .imm 127 Fd S),(1, .imm 130 Lf O),(2, .imm 155 Jah M),(3, .imm 188 Zg X),(4, .imm 235 Hm Q),(5, .box 105 [.int .i64 tk, .int .i64 st, .sl 0, .sl 1, .sl 2, .sl 3, .sl 4])]⟩,inv:=fun(k,n)=>k≤X.length∧0≤n∧n≤1000∧Jgu (X.drop k) s h n=Jgu X s h (Ho S s).2.1,mu:=fun(k,_)=>X.length-k}
def J94 (a:List Out) (b:Nat×Int):=(List.getD a b.1 Jgf).2
def J9z (a:List Out) (b:Nat×Int):=(J94 a b).2.2
def Kln (a:List Out) (b:Nat×Int):=E2 (J94 a b).2.1
def Jqj (a:List Sta) (b:List Ord) (c:List Met) (d:List Out) (e:List Per) (f g:Int):=Sf a (Sf b (Sf c (Sf d (Sf e (Si f (g=g))))))
def Kjc (a:Nat×Int) (b:List Out) (c:Bt) (d:Int) (e:List Sta):=a.1≤List.length b∧0≤a.2∧a.2≤1000∧Jgu (List.drop a.1 b) c d a.2=Jgu b c d (Ho e c).2.1
def Jyn (a:Nat×Int) (b:List Sta) (c:List Ord) (d:List Met) (e:List Out) (f:List Per) (g h:Int):=0=Nc a.1∧Jqj b c d e f g h
def Jqi (a b:Nat×Int) (c:List Sta) (d:List Ord) (e:List Met) (f:List Out) (g:List Per) (h i:Int):=Jsk a b∧Jqj c d e f g h i
def Kvx (a:Nat×Int) (b:List Out) (c:Bt) (d:Int) (e:List Sta) (f:Nat×Int):=Kjc a b c d e∧List.length b-a.1<List.length b-f.1
theorem K4x [Sx.Dr]:Ok Tryz.prog 91 Krj:=okW W46 Tryz.f91 (fun xx=>X8 (J6i xx.1.1 xx.1.2.1 xx.1.2.2.1 xx.1.2.2.2.1 xx.1.2.2.2.2.1 xx.1.2.2.2.2.2.1 xx.1.2.2.2.2.2.2 xx.2.1 xx.2.2.1)) fun xx=>by
 obtain⟨⟨(tk:Int),(st:Int),(S:List Sta),(O:List Ord),(M:List Met),(X:List Out),(Q:List Per)⟩,(s:ByteArray),(h:Int),_⟩:=xx
 refine(by kernel_rfl:(Jx tk st S O M X Q→Z20 S s→(Z59 S∧Z20 S s)∧∃(x:Nat×Int),Sf s (Si h ((Ho S s).2.1=x.2∧Si (Ln X) (Jyn x S O M X Q tk st)))∧Kjc x X s h S∧∀(x:Nat×Int),Kjc x X s h S→Br (decide (Nc x.1<Ln X)) (Tw (Bd (Nc x.1) (Ln X))∧Br (Jzv ((List.getD X x.1 Jgf).1,(J94 X x).1,Kln X x,J9z X x) s h) (Z34 x∧∃(y:Nat×Int),Sf s (Si h (min x.2 (J9z X x)=y.2∧Si (Ln X) (Jqi x y S O M X Q tk st)))∧Kvx y X s h S x) (Z34 x∧∃(y:Nat×Int),Sf s (Si h (x.2=y.2∧Si (Ln X) (Jqi x y S O M X Q tk st)))∧Kvx y X s h S x)) ((Jx tk st S O M X Q∧Iw (x.2-Vc O s h))∧x.2-Vc O s h=Xo S O X s h))=_).mp ?_
 delta Z20 Z34 Z59 Z65 Jsk Jx Jgf J94 J9z Kln Jqj Kjc Jyn Jqi Kvx Br Iw Bd Tw Sf Si Ln Nc B0 E2
 intro hr hf
 have hX:∀x∈X,Jok S x:=hr.out
 have nO:O.length≤32:=hr.nO
 have nX:X.length≤16:=hr.nX
 have nS:S.length≤6:=hr.nS
 have hs:=Jil hr.sta hf
 have hl:=Jje (s:=s) (h:=h) hr.ord
 refine⟨⟨by omega,hf⟩,((0:Nat),(Ho S s).2.1),⟨rfl,rfl,rfl,rfl,rfl,rfl,rfl,rfl,rfl,rfl,rfl,rfl⟩,⟨Nat.zero_le _, ?_,hs.lim.2,by simp⟩,fun(x:Nat×Int) hk=>⟨fun h1=> ?_,fun h1=> ?_⟩⟩
 ·have:=hs.lim.1
  show 0≤(Ho S s).2.1
  simp only at this
  omega
 ·obtain⟨k,n⟩:=x
  have hlt:k<X.length:=by simpa using h1
  have ho:=(hX _ (Je (d:=Jbh) hlt)).rest
  dsimp only at hk⊢
  obtain⟨k1,k2,k3,k4⟩:=hk
  rw[Jz (d:=Jbh) hlt,Jgu] at k4
  refine⟨⟨by omega,by omega⟩,fun h2=> ?_,fun h2=> ?_⟩
  ·have h3:Jzv (X.getD k Jbh) s h=true:=h2
   rw[h3,cond_true] at k4
   exact⟨⟨by omega,by omega⟩,(k+1,min n (X.getD k Jbh).2.2.2),⟨rfl,rfl,rfl,rfl,by simp,rfl,rfl,rfl,rfl,rfl,rfl,rfl⟩,⟨by simp only;omega,by simp only;omega,by simp only;omega,k4⟩,by simp only;omega⟩
  ·have h3:Jzv (X.getD k Jbh) s h=false:=h2
   rw[h3,cond_false] at k4
   exact⟨⟨by omega,by omega⟩,(k+1,n),⟨rfl,rfl,rfl,rfl,by simp,rfl,rfl,rfl,rfl,rfl,rfl,rfl⟩,⟨by simp only;omega,by simp only;omega,by simp only;omega,k4⟩,by simp only;omega⟩
 ·obtain⟨k,n⟩:=x
  have hlt:¬k<X.length:=by simpa using h1
  simp only at hk
  have:k=X.length:=by omega
  rw[this,List.drop_length,Jgu] at hk
  unfold Xo
  have hl2:Vc O s h≤1000*(O.length:Int):=hl.2
  have hl1:0≤Vc O s h:=hl.1
  refine⟨⟨hr, ?_, ?_⟩, ?_⟩
  ·show _≤n-_;omega
  ·show n-_≤_;omega
  ·show n-_=_;omega
abbrev W47 [Sx.Dr]:=W46.add K4x
def Vl (r:Reg) (w:Int) (s:ByteArray):Bool:=bif w==0 then decide (0≤J0 r.2.2.1 s) else bif w==1 then decide (0≤Kp r.2.2.2.1 s) else bif w==2 then decide (0≤J7 r.2.2.2.2.2.1 s) else bif w==3 then decide (0≤U2 r.2.2.2.2.2.2 s) else true
def K6j:Con:={args:=[Jbj,aI,aS],ress:=[Bo],owns:=[],pre:=fun(r,_)=>[Jn r],spec:=fun(r,w,s,_)=>(Vl r w s,())}
theorem K45 [Sx.Dr]:Ok Tryz.prog 76 K6j:=okW W47 Tryz.f76 na fun xx=>by
 obtain⟨⟨(tk:Int),(st:Int),(S:List Sta),(O:List Ord),(M:List Met),(X:List Out),(Q:List Per)⟩,(w:Int),(s:ByteArray),_⟩:=xx
 refine(by kernel_rfl:(Jx tk st S O M X Q→Br (w==0) (Z59 S∧decide (0≤J0 S s)=Vl (Z65 tk st S O M X Q) w s) (Br (w==1) (Z43 O∧decide (0≤Kp O s)=Vl (Z65 tk st S O M X Q) w s) (Br (w==2) (Z58 X∧decide (0≤J7 X s)=Vl (Z65 tk st S O M X Q) w s) (Br (w==3) (Z50 Q∧decide (0≤U2 Q s)=Vl (Z65 tk st S O M X Q) w s) (true=Vl (Z65 tk st S O M X Q) w s)))))=_).mp ?_
 delta Z43 Z50 Z58 Z59 Z65 Jx Br
 intro hr
 have nS:S.length≤6:=hr.nS
 have nO:O.length≤32:=hr.nO
 have nX:X.length≤16:=hr.nX
 have nQ:Q.length≤16:=hr.nQ
 unfold Vl
 refine⟨fun h=> ?_,fun h=> ?_⟩
 ·rw[h];exact⟨by omega,rfl⟩
 rw[h]
 refine⟨fun h=> ?_,fun h=> ?_⟩
 ·rw[h];exact⟨by omega,rfl⟩
 rw[h]
 refine⟨fun h=> ?_,fun h=> ?_⟩
 ·rw[h];exact⟨by omega,rfl⟩
 rw[h]
 refine⟨fun h=> ?_,fun h=> ?_⟩
 ·rw[h];exact⟨by omega,rfl⟩
 rw[h];rfl
abbrev W48 [Sx.Dr]:=W47.add K45
def Jmj:Met:=(Ja,0,0,0)
def K6i:Con:={args:=[.val true Jah, .ref 9 .str, .ref 3 sI],ress:=[Bo],owns:=[],pre:=fun _=>[],spec:=fun(x,s,h,_)=>(bif x.1.toList==s.toList then x.2.1==h else false,())}
theorem Kp8 [Sx.Dr]:Ok Tryz.prog 142 K6i:=okW W48 Tryz.f142 na fun xx=>by
 obtain⟨⟨(a:ByteArray),(b:Int),(c:Int),(d:Int)⟩,(s:ByteArray),(h:Int),_⟩:=xx
 refine(by kernel_rfl:((Lb a s&&(b==h&&(c==c&&(d==d&&true))))=bif Lb a s then b==h else false)=_).mp ?_
 delta Lb
 cases a.toList==s.toList<;>cases b==h<;>simp
abbrev W49 [Sx.Dr]:=W48.add Kp8
def Jyz:=(B0,Z73)
def Kgl (a:List Met) (b:Nat):=List.getD a b Jyz
def Kgi (a:List Met) (b:Nat):=(Kgl a b).2
def Kjr (a:Nat) (b:List Met) (c:Met×Unit→Bool):=a≤List.length b∧Vg (fun(x:Met)=>c (x,PUnit.unit)) b 0=Vg (fun(x:Met)=>c (x,PUnit.unit)) (List.drop a b) a
def Kig (a:List Met) (b:Nat):=((Kgl a b).1,(Kgi a b).1,E2 (Kgi a b).2)
def Kvz (a:List Met) (b:Nat):=(Kig a b,PUnit.unit)
theorem Kp9 [Sx.Dr]:Ok Tryz.prog 141 (Kcf 155 Jah true):=okW W49 Tryz.f141 (fun xx=>X8 (Jl8 155 Jah true xx.1 xx.2.1.1 xx.2.1.2)) fun xx=>by
 obtain⟨(l:List Met),⟨(q:Met×Unit→List Prop),(f:Met×Unit→Bool)⟩,_⟩:=xx
 refine(by kernel_rfl:(List.length l≤1000000→(∀(x:Met),x∈l→Ur (q (x,PUnit.unit)))→∃(x:Nat),Si (Ln l) (0=Nc x∧Sf l ((fun(x:Met×PUnit)=>q x)=q∧(fun(x:Met×PUnit)=>f x)=f))∧Kjr x l f∧∀(x:Nat),Kjr x l f→Br (decide (Nc x<Ln l)) (T2 (Bd (Nc x) (Ln l)) (Ur (q (Kvz l x)))∧Br (f (Kvz l x)) (Nc x=Vg (fun(x:Met)=>f (x,PUnit.unit)) l 0) (Z19 x∧∃(y:Nat),Si (Ln l) (Z95 x y∧Sf l ((fun(x:Met×PUnit)=>q x)=q∧(fun(x:Met×PUnit)=>f x)=f))∧Kjr y l f∧List.length l-y<List.length l-x)) (Z69=Vg (fun(x:Met)=>f (x,PUnit.unit)) l 0))=_).mp ?_
 delta Z19 Z69 Z73 Z95 Jyz Kgl Kgi Kjr Kig Kvz Br Iw Bd T2 Sf Si Ln Nc B0 E2
 intro hb hq
 refine⟨(0:Nat),⟨rfl,rfl,rfl,rfl,rfl⟩,⟨Nat.zero_le _,rfl⟩,fun(k:Nat) hk=>⟨fun h=> ?_,fun h=> ?_⟩⟩
 ·have hlt:k<l.length:=by simpa using h
  have hd:=Yc (p:=fun x=>f (x,())) (d:=Jmj) hlt
  refine⟨⟨by omega,by omega,hq (l.getD k Jmj) (Je hlt)⟩,fun h1=> ?_,fun h1=>⟨by omega,(k+1:Nat),⟨rfl,rfl,rfl,by simp,rfl⟩,⟨by omega, ?_⟩,by omega⟩⟩
  ·rw[hk.2,hd,if_pos (show f (l.getD k Jmj,())=true from h1)]
  ·rw[hk.2,hd,if_neg (by rw[show f (l.getD k Jmj,())=false from h1];simp)]
 ·have hlt:¬k<l.length:=by simpa using h
  have:k=l.length:=by omega
  rw[hk.2,this,List.drop_length];rfl
abbrev W50 [Sx.Dr]:=W49.add Kp9
def Kb3:Con:={args:=[Jbj,aS,aI],ress:=[I],owns:=[],pre:=fun(r,_)=>[Jn r],spec:=fun((_,_,_,_,M,_),s,h,_)=>(Kq M s h,())}
theorem K47 [Sx.Dr]:Ok Tryz.prog 73 Kb3:=okW W50 Tryz.f73 na fun xx=>by
 obtain⟨⟨(tk:Int),(st:Int),(S:List Sta),(O:List Ord),(M:List Met),(X:List Out),(Q:List Per)⟩,(s:ByteArray),(h:Int),_⟩:=xx
 refine(by kernel_rfl:(Jx tk st S O M X Q→(List.length M≤1000000∧∀(x:Met),x∈M→True)∧Vg (fun(x:Met)=>match Lb x.1 s with|true=>x.2.1==h|false=>false) M 0=Kq M s h)=_).mp ?_
 delta Z65 Jx Lb
 intro hr
 have nM:M.length≤10000:=hr.nM
 exact⟨⟨by omega,fun _ _=>trivial⟩,rfl⟩
abbrev W51 [Sx.Dr]:=W50.add K47
def Vt (e:Ev):Int×Int:=(e.2.2.2.1.getD 1 0,e.2.2.2.1.getD 2 0)
def Krh:Con:={args:=[aEv],ress:=[(true,Hx)],owns:=[],pre:=fun(e,_)=>[3≤e.2.2.2.1.length],spec:=fun(e,_)=>(Vt e,())}
def Z23 (a:Li):=Bd 2 (Ln a)
def Z29 (a:Li):=Bd 1 (Ln a)
def Z48 (a:Li):=3≤List.length a
def Z60 (a:Int) (b:Bt) (c:Ls) (d:Li) (e:Bt):=Vt (a,b,c,d,e)
def Z87 (a:Li):=List.getD a 1 0
def Jmc (a:Li):=List.getD a 2 0
def J91 (a:Li):=T2 (Z29 a) (Tw (Z23 a))
def J9y (a:Li):=(Z87 a,Jmc a)
theorem Kn9 [Sx.Dr]:Ok Tryz.prog 238 Krh:=okW W51 Tryz.f238 na fun xx=>by
 obtain⟨⟨(n:Int),(k:ByteArray),(ns:List ByteArray),(vs:List Int),(t:ByteArray)⟩,_⟩:=xx
 refine(by kernel_rfl:(Z48 vs→J91 vs∧J9y vs=Z60 n k ns vs t)=_).mp ?_
 delta Z23 Z29 Z48 Z60 Z87 Jmc J91 J9y Bd T2 Tw Ln
 intro h
 exact⟨⟨⟨by omega,by omega⟩,⟨by omega,by omega⟩,⟨by omega,by omega⟩,⟨by omega,by omega⟩⟩,rfl⟩
abbrev W52 [Sx.Dr]:=W51.add Kn9
abbrev EvV (e:Ev):Prop:=∀v∈e.2.2.2.1,0≤v∧v≤999999999
def Zc (e:Ev):Int:=bif (bif (bif decide ((Vt e).1<e.2.2.2.1.getD 0 0) then true else decide ((Vt e).2≤(Vt e).1)) then true else decide (48<(Vt e).2-(Vt e).1)) then 14 else 0
def J0x:Con:={args:=[aEv],ress:=[I],owns:=[],pre:=fun(e,_)=>[3≤e.2.2.2.1.length,EvV e],spec:=fun(e,_)=>(Zc e,())}
def Z30 (a:Li):=Bd 0 (Ln a)
def Z85 (a:Li):=List.getD a 0 0
def Kw5 (a:Int) (b:Bt) (c:Ls) (d:Li) (e:Bt):=bif decide ((Z60 a b c d e).1<Z85 d) then true else decide ((Z60 a b c d e).2≤(Z60 a b c d e).1)
theorem Kob [Sx.Dr]:Ok Tryz.prog 236 J0x:=okW W52 Tryz.f236 na fun xx=>by
 obtain⟨⟨(n:Int),(k:ByteArray),(ns:List ByteArray),(vs:List Int),(t:ByteArray)⟩,_⟩:=xx
 refine(by kernel_rfl:(Z48 vs→EvV (n,k,ns,vs,t)→Z48 vs∧T2 (Z30 vs) (Kw5 n k ns vs t=false→Iw ((Z60 n k ns vs t).2-(Z60 n k ns vs t).1))∧(bif bif Kw5 n k ns vs t then true else decide (48<(Z60 n k ns vs t).2-(Z60 n k ns vs t).1) then 14 else 0)=Zc (n,k,ns,vs,t))=_).mp ?_
 delta Z30 Z48 Z60 Z85 Kw5 Iw Bd T2 Ln
 intro h hv
 refine⟨h,⟨⟨by omega,by omega⟩,⟨by omega,by omega⟩,fun _=> ?_⟩,rfl⟩
 have h1:=hv (vs.getD 1 0) (Je (show 1<vs.length by omega))
 have h2:=hv (vs.getD 2 0) (Je (show 2<vs.length by omega))
 unfold Vt
 simp only
 omega
abbrev W53 [Sx.Dr]:=W52.add Kob
abbrev Gap:=ByteArray×Int
abbrev J2s:Sch:= .prod .str sI
def L7 (M:List Met) (u:Int) (x:Ord):Int→Nat→List Gap
 |_,0=>[]
 |h,n+1=>(bif Jr x h&&(decide (h<u)&&decide (Kq M x.1 h<0)) then[(x.1,h)] else[])++L7 M u x (h+1) n
def Juw (M:List Met) (u:Int) (x:Ord):List Gap:=L7 M u x x.2.2.2.1.1 (x.2.2.2.1.2-x.2.2.2.1.1).toNat
def Kj (M:List Met) (u:Int):List Ord→List Gap
 |[]=>[]
 |x::l=>Juw M u x++Kj M u l
def Krr:Con:={args:=[Jbj,aI],ress:=[(false, .list 200 J2s)],owns:=[true],pre:=fun(r,_)=>[Jn r],spec:=fun((_,_,_,O,M,_),u,_)=>(Kj M u O,())}
abbrev J6o (tk st:Int) (S:List Sta) (O:List Ord) (M:List Met) (X:List Out) (Q:List Per) (u:Int):Ann:={X:=Nat×List Gap,σ:=fun(k,o)=>⟨9,[(2, .one (.ptr 5 0)),(3, .one (.ptr 6 0)),(5, .one (.ptr 7 0)),(10, .one (.sl 1)),(11, .one (.int .i64 O.length)),(12, .one (.int .i64 k))],[(0, .imm 127 Fd S),(1, .imm 130 Lf O),(2, .imm 155 Jah M),(3, .imm 188 Zg X),(4, .imm 235 Hm Q),(5, .box 105 [.int .i64 tk, .int .i64 st, .sl 0, .sl 1, .sl 2, .sl 3, .sl 4]),(6, .box 3 [.int .i64 u]),(7, .box 50 [.sl 8]),(8, .own 200 J2s o)]⟩,inv:=fun(k,o)=>k≤O.length∧o.length≤48*k∧o++Kj M u (O.drop k)=Kj M u O,mu:=fun(k,_)=>O.length-k}
abbrev bxO (x:Ord):List SC:=[.str x.1, .str x.2.1, .str x.2.2.1, .int .i64 x.2.2.2.1.1, .int .i64 x.2.2.2.1.2, .int .i64 x.2.2.2.2.1, .int .i64 x.2.2.2.2.2.1, .int .i64 x.2.2.2.2.2.2]
def Uo (x:Ord):Nat:=(x.2.2.2.1.2-x.2.2.2.1.1).toNat
abbrev J1f (tk st:Int) (S:List Sta) (O:List Ord) (M:List Met) (X:List Out) (Q:List Per) (u:Int):Ann:={X:=Nat×List Gap×Nat,σ:=fun(k,o,j)=>⟨16,[(0, .one (.fv 13)),(1, .one (.ptr 11 0)),(3, .one (.int .i64 ((O.getD k J6).2.2.2.1.1+j)))],[(0, .imm 127 Fd S),(1, .imm 130 Lf O),(2, .imm 155 Jah M),(3, .imm 188 Zg X),(4, .imm 235 Hm Q),(5, .box 105 [.int .i64 tk, .int .i64 st, .sl 0, .sl 1, .sl 2, .sl 3, .sl 4]),(6, .box 3 [.int .i64 u]),(7, .box 50 [.sl 15]),(9, .box 130 (bxO (O.getD k J6))),(11, .box 130 (bxO (O.getD k J6))),(13, .yld .ready),(14, .sus [(2, .one (.ptr 5 0)),(3, .one (.ptr 6 0)),(5, .one (.ptr 7 0)),(7, .one (.ptr 9 0)),(10, .one (.sl 1)),(11, .one (.int .i64 O.length)),(12, .one (.int .i64 k))]),(15, .own 200 J2s o)]⟩,inv:=fun(k,o,j)=>Jn (tk,st,S,O,M,X,Q)∧k<O.length∧j≤Uo (O.getD k J6)∧o.length≤48*k+j∧o++(L7 M u (O.getD k J6) ((O.getD k J6).2.2.2.1.1+j) (Uo (O.getD k J6)-j)++Kj M u (O.drop (k+1)))=Kj M u O,mu:=fun(k,_,j)=>Uo (O.getD k J6)-j,rel:=some fun x y=>y.1=x.1}
theorem Jwu (a b:Bool):(bif a then b else false)=(a&&b):=by cases a<;>rfl
def Z0 (a:List Ord) (b:Nat×List Gap×Nat):=List.getD a b.1 J6
def Z6 (a:List Ord) (b:Nat×List (Bt×Int)×Nat):=List.getD a b.1 J6
def Z36:List (ByteArray×Int):=[]
def Z74 (a:List Ord) (b:Nat×List (Bt×Int)×Nat):=(Z6 a b).2.2.2.2
def Z76 (a:List Ord) (b:Nat×List Gap×Nat):=(Z0 a b).2.2.2.2
def Z77 (a:List Ord) (b:Nat×List Gap×Nat):=(Z0 a b).2.2.2.1
def Z80 (a:List Ord) (b:Nat×List (Bt×Int)×Nat):=(Z6 a b).2.2.2.1
def Jyu (a:List Ord) (b:Nat×List Gap×Nat):=(Z77 a b).1+Nc b.2.2
def J7g (a:List Ord) (b:Nat×List Gap×Nat) (c:Nat×List (Bt×Int)×Nat):=(Z0 a b).1=(Z6 a c).1
def J7e (a:List Ord) (b:Nat×List Gap×Nat) (c:Nat×List (Bt×Int)×Nat):=(Z0 a b).2.1=(Z6 a c).2.1
def J7d (a:List Ord) (b:Nat×List Gap×Nat) (c:Nat×List (Bt×Int)×Nat):=(Z0 a b).2.2.1=(Z6 a c).2.2.1
def J93 (a:List Ord) (b:Nat×List Gap×Nat) (c:Int):=decide (Jyu a b<c)
def J9x (a:List Ord) (b:Nat×List Gap×Nat):=Iw (Jyu a b+1)
def J7c (a:List Ord) (b:Nat×List Gap×Nat) (c:Nat×List (Bt×Int)×Nat):=(Z77 a b).2=(Z80 a c).2
def J7b (a:List Ord) (b:Nat×List Gap×Nat) (c:Nat×List (Bt×Int)×Nat):=(Z76 a b).1=(Z74 a c).1
def J7a (a:List Ord) (b:Nat×List Gap×Nat) (c:Nat×List (Bt×Int)×Nat):=(Z77 a b).1=(Z80 a c).1
def J69 (a:List Ord) (b:Nat×List Gap×Nat) (c:Nat×List (Bt×Int)×Nat):=(Z76 a b).2.1=(Z74 a c).2.1
def J68 (a:List Ord) (b:Nat×List Gap×Nat) (c:Nat×List (Bt×Int)×Nat):=(Z76 a b).2.2=(Z74 a c).2.2
def Klw (a:Nat×List Gap×Nat):=(List.length a.2.1+1)*24≤140737488355328
def Klc (a:List Ord) (b:Nat×List Gap):=List.getD a b.1 Jde
def Kk6 (a:List Ord) (b:Nat×List Gap):=(Klc a b).2
def Kk2 (a:List Ord) (b:Nat×List Gap):=(Kk6 a b).2
def Kk1 (a:List Ord) (b:Nat×List Gap):=(Kk2 a b).2
def Kkz (a:List Ord) (b:Nat×List Gap×Nat):=decide (Jyu a b<(Z77 a b).2)
def Kkx (a:List Ord) (b:Nat×List Gap):=(Kk1 a b).1
def Kkw (a:List Ord) (b:Nat×List Gap):=(Kk1 a b).2
def Kko (a:List Ord) (b:Nat×List Gap):=(Kkx a b).1
def Kkn (a:List Ord) (b:Nat×List Gap):=(Kkw a b).2
def J9o (a:List Ord) (b:Nat×List Gap×Nat) (c:Nat×List (Bt×Int)×Nat):=Jyu a b+1=(Z80 a c).1+Nc c.2.2
def Kj2 (a:Nat×List Gap×Nat) (b:List Ord):=a.2.1++((Z0 b a).1,Jyu b a)::Z36
def Kfs (a:List Ord) (b:Nat×List Gap) (c:Nat×List (Bt×Int)×Nat):=(Klc a b).1=(Z6 a c).1
def Kfp (a:List Ord) (b:Nat×List Gap) (c:Nat×List (Bt×Int)×Nat):=(Kk6 a b).1=(Z6 a c).2.1
def Kjx (a:Nat×List Gap×Nat) (b:List Ord) (c:Nat×List (Bt×Int)×Nat):=Kj2 a b=c.2.1
def Kfi (a:List Ord) (b:Nat×List Gap) (c:Nat×List (Bt×Int)×Nat):=(Kk2 a b).1=(Z6 a c).2.2.1
def Kfg (a:Nat×List (Bt×Int)) (b:List Ord) (c:List Met) (d:Int):=a.1≤List.length b∧List.length a.2≤48*a.1∧a.2++Kj c d (List.drop a.1 b)=Kj c d b
def Kjl (a:Nat×List Gap) (b:List Ord) (c:List Met) (d:Int):=a.1≤List.length b∧List.length a.2≤48*a.1∧a.2++Kj c d (List.drop a.1 b)=Kj c d b
def Kfe (a:List Ord) (b:Nat×List Gap) (c:Nat×List (Bt×Int)×Nat):=(Kkw a b).1=(Z74 a c).1
def Kfd (a:List Ord) (b:Nat×List Gap) (c:Nat×List (Bt×Int)×Nat):=(Kkx a b).2=(Z80 a c).2
def Kfc (a:List Ord) (b:Nat×List Gap) (c:Nat×List (Bt×Int)×Nat):=Kko a b=(Z80 a c).1
def Kfa (a:List Ord) (b:Nat×List Gap) (c:Nat×List (Bt×Int)×Nat):=(Kkn a b).1=(Z74 a c).2.1
def Ke8 (a:List Ord) (b:Nat×List Gap) (c:Nat×List (Bt×Int)×Nat):=(Kkn a b).2=(Z74 a c).2.2
def Ki1 (a:List Ord) (b:Nat×List Gap) (c:Nat×List (Bt×Int)×Nat):=Kko a b=(Z80 a c).1+Nc c.2.2
def Kei (a:Nat×List (Bt×Int)) (b:List Ord) (c:List Met) (d:Int) (e:Nat×List Gap):=Kfg a b c d∧List.length b-a.1<List.length b-e.1
def Khu (a:List Ord) (b:Nat×List Gap×Nat):=Jr ((Z0 a b).1,(Z0 a b).2.1,(Z0 a b).2.2.1,E2 (Z77 a b),(Z76 a b).1,E2 (Z76 a b).2) (Jyu a b)
def Khq (a:Nat×List Gap×Nat) (b:List Ord) (c:List Met) (d:Int):=a.1<List.length b∧a.2.2≤Uo (List.getD b a.1 J6)∧List.length a.2.1≤48*a.1+a.2.2∧a.2.1++(L7 c d (List.getD b a.1 J6) ((List.getD b a.1 J6).2.2.2.1.1+Nc a.2.2) (Uo (List.getD b a.1 J6)-a.2.2)++Kj c d (List.drop (a.1+1) b))=Kj c d b
def Kd6 (a:Nat×List (Bt×Int)×Nat) (b:List Ord) (c:List Met) (d:Int):=a.1<List.length b∧a.2.2≤Uo (List.getD b a.1 J6)∧List.length a.2.1≤48*a.1+a.2.2∧a.2.1++(L7 c d (List.getD b a.1 J6) ((List.getD b a.1 J6).2.2.2.1.1+Nc a.2.2) (Uo (List.getD b a.1 J6)-a.2.2)++Kj c d (List.drop (a.1+1) b))=Kj c d b
def Kua (a b:Int) (c:List Sta) (d:List Ord) (e:List Met) (f:List Out) (g:List Per) (h:Nat×List (Bt×Int)×Nat) (i:Int):=Jx a b c d e f g∧Kd6 h d e i
def Ktx (a:Nat×List Gap×Nat) (b:List Ord) (c:List Sta) (d:List Met) (e:List Out) (f:List Per) (g h i:Int) (j:Nat×List Gap):=Iw (Nc a.1+1)∧∃(y:Nat×List (ByteArray×Int)),Si (Ln b) (Nc a.1+1=Nc y.1∧Sf c (Sf b (Sf d (Sf e (Sf f (Si g (Si h (Si i (a.2.1=y.2)))))))))∧Kei y b d i j
def Ktv (a b:Int) (c:List Sta) (d:List Ord) (e:List Met) (f:List Out) (g:List Per) (h:Nat×List (Bt×Int)×Nat) (i:Int) (j:Nat×List (Bt×Int)×Nat) (k:Nat×List Gap×Nat):=(Kua a b c d e f g h i∧h.1=j.1)∧Uo (List.getD d h.1 J6)-h.2.2<Uo (List.getD d k.1 J6)-k.2.2
def J7w (a:Nat×List Gap×Nat) (b:List Ord) (c:List Sta) (d:List Met) (e:List Out) (f:List Per) (g h i:Int) (j:Nat×List Gap) (k:Nat×List (Bt×Int)×Nat):=Br false (Ktx a b c d e f g h i j) (J9x b a∧∃(y:Nat×List (ByteArray×Int)×Nat),(J9o b a y∧Sf c (Sf b (Sf d (Sf e (Sf f (Si g (Si h (Si i (J7g b a y∧J7e b a y∧J7d b a y∧J7a b a y∧J7c b a y∧J7b b a y∧J69 b a y∧J68 b a y∧J7g b a y∧J7e b a y∧J7d b a y∧J7a b a y∧J7c b a y∧J7b b a y∧J69 b a y∧J68 b a y∧Si (Ln b) (Nc a.1=Nc y.1∧a.2.1=y.2.1))))))))))∧Ktv g h c b d e f y i k a)
theorem K4w [Sx.Dr]:Ok Tryz.prog 92 Krr:=Jyd W53 Tryz.f92 (Uy (l:=([(178,Tryz.f178),(247,Tryz.f247)]:List (Nat×Func))) (List.forall_mem_cons.2 ⟨by kernel_rfl,List.forall_mem_cons.2 ⟨by kernel_rfl,by simp⟩⟩)) (fun xx=>X8 (J6o xx.1.1 xx.1.2.1 xx.1.2.2.1 xx.1.2.2.2.1 xx.1.2.2.2.2.1 xx.1.2.2.2.2.2.1 xx.1.2.2.2.2.2.2 xx.2.1)) (fun xx=>fun f id=>if f=247 then some (J1f xx.1.1 xx.1.2.1 xx.1.2.2.1 xx.1.2.2.2.1 xx.1.2.2.2.2.1 xx.1.2.2.2.2.2.1 xx.1.2.2.2.2.2.2 xx.2.1) else none) fun xx=>by
 obtain⟨⟨(tk:Int),(st:Int),(S:List Sta),(O:List Ord),(M:List Met),(X:List Out),(Q:List Per)⟩,(u:Int),_⟩:=xx
 refine(by kernel_rfl:(Jx tk st S O M X Q→∃(x:Nat×List (ByteArray×Int)),Si (Ln O) (0=Nc x.1∧Sf S (Sf O (Sf M (Sf X (Sf Q (Si tk (Si st (Si u (List.length x.2=0)))))))))∧Kfg x O M u∧∀(x:Nat×List Gap),Kjl x O M u→Br (decide (Nc x.1<Ln O)) (Tw (Bd (Nc x.1) (Ln O))∧∃(x0:Nat×List (ByteArray×Int)×Nat),(Ki1 O x x0∧Sf S (Sf O (Sf M (Sf X (Sf Q (Si tk (Si st (Si u (Kfs O x x0∧Kfp O x x0∧Kfi O x x0∧Kfc O x x0∧Kfd O x x0∧Kfe O x x0∧Kfa O x x0∧Ke8 O x x0∧Kfs O x x0∧Kfp O x x0∧Kfi O x x0∧Kfc O x x0∧Kfd O x x0∧Kfe O x x0∧Kfa O x x0∧Ke8 O x x0∧Si (Ln O) (Nc x.1=Nc x0.1∧x.2=x0.2.1))))))))))∧(Kua tk st S O M X Q x0 u∧x0.1=x0.1)∧∀(x_1:Nat×List Gap×Nat),(Jx tk st S O M X Q∧Khq x_1 O M u)∧x_1.1=x0.1→Br (Kkz O x_1) (Br (Khu O x_1) ((J93 O x_1 u=true→Jx tk st S O M X Q)∧Br (bif J93 O x_1 u then decide (Kq M (Z0 O x_1).1 (Jyu O x_1)<0) else false) (Klw x_1∧Br false (Iw (Nc x_1.1+1)∧∃(y:Nat×List (ByteArray×Int)),Si (Ln O) (Nc x_1.1+1=Nc y.1∧Sf S (Sf O (Sf M (Sf X (Sf Q (Si tk (Si st (Si u (Kj2 x_1 O=y.2)))))))))∧Kei y O M u x) (J9x O x_1∧∃(y:Nat×List (ByteArray×Int)×Nat),(J9o O x_1 y∧Sf S (Sf O (Sf M (Sf X (Sf Q (Si tk (Si st (Si u (J7g O x_1 y∧J7e O x_1 y∧J7d O x_1 y∧J7a O x_1 y∧J7c O x_1 y∧J7b O x_1 y∧J69 O x_1 y∧J68 O x_1 y∧J7g O x_1 y∧J7e O x_1 y∧J7d O x_1 y∧J7a O x_1 y∧J7c O x_1 y∧J7b O x_1 y∧J69 O x_1 y∧J68 O x_1 y∧Si (Ln O) (Nc x_1.1=Nc y.1∧Kjx x_1 O y))))))))))∧Ktv tk st S O M X Q y u x0 x_1)) (J7w x_1 O S M X Q tk st u x x0)) (J7w x_1 O S M X Q tk st u x x0)) (Ktx x_1 O S M X Q tk st u x)) (Sf true (x.2=Kj M u O)))=_).mp ?_
 delta Z0 Z6 Z36 Z65 Z73 Z74 Z76 Z77 Z80 Jx Jyu J7g J7e J7d J93 J9x Jde J7c J7b J7a J69 J68 Klw Klc Kk6 Kk2 Kk1 Kkz Kkx Kkw Kko Kkn J9o Kj2 Kfs Kfp Kjx Kfi Kfg Kjl Kfe Kfd Kfc Kfa Ke8 Ki1 Kei Khu Khq Kd6 Kua Ktx Ktv J7w Br Iw Bd Tw Sf Si Ln Nc B0 E2
 intro hr
 have nO:O.length≤32:=hr.nO
 refine⟨((0:Nat),[]),by(repeat' first|exact rfl|apply And.intro|exact(Int.add_zero _).symm|omega|dsimp only;omega),⟨Nat.zero_le _,Nat.zero_le _,rfl⟩,fun(x:Nat×List Gap) hk=>⟨fun h1=> ?_,fun h1=> ?_⟩⟩
 ·obtain⟨k,o⟩:=x
  have hlt:k<O.length:=by simpa using h1
  obtain⟨k1,k2,k3⟩:=hk
  dsimp only at k1 k2 k3
  rw[Jz (d:=J6) hlt,Kj,Juw] at k3
  refine⟨⟨⟨by dsimp only;omega,by dsimp only;omega⟩,by dsimp only;omega,by dsimp only;omega⟩,(k,o,(0:Nat)), ?_,⟨⟨hr,hlt,Nat.zero_le _,by simpa using k2, ?_⟩,rfl⟩,fun(y:Nat×List Gap×Nat) hy=> ?_⟩
  ·repeat' first|exact rfl|apply And.intro|exact(Int.add_zero _).symm|omega|dsimp only;omega
  ·simpa[Uo] using k3
  obtain⟨k',o,j⟩:=y
  obtain⟨⟨_,i1,i2,i3,i4⟩,hkk⟩:=hy
  have hkk:k'=k:=hkk
  subst hkk
  dsimp only at i1 i2 i3 i4
  have ho:Jme (O.getD k' J6).2.2.2.1:=(hr.ord (O.getD k' J6) (Je hlt)).span
  have hn:Uo (O.getD k' J6)≤48∧(Uo (O.getD k' J6):Int)=(O.getD k' J6).2.2.2.1.2-(O.getD k' J6).2.2.2.1.1:=by
   have:=ho.mid;have:=ho.len
   unfold Uo
   constructor<;>omega
  have b1:=ho.lo
  have b2:=ho.hi
  refine⟨fun h2=> ?_,fun h2=> ?_⟩
  ·have h2:(O.getD k' J6).2.2.2.1.1+(j:Int)<(O.getD k' J6).2.2.2.1.2:=of_decide_eq_true h2
   have hj:Uo (O.getD k' J6)-j=(Uo (O.getD k' J6)-(j+1))+1:=by omega
   rw[hj,L7] at i4
   have hB: -9223372036854775808≤(O.getD k' J6).2.2.2.1.1+(j:Int)+1∧(O.getD k' J6).2.2.2.1.1+(j:Int)+1≤9223372036854775807:=by omega
   have hc:(O.getD k' J6).2.2.2.1.1+(j:Int)+1=(O.getD k' J6).2.2.2.1.1+((j+1:Nat):Int):=by omega
   refine⟨fun h3=>⟨fun _=>hr,fun h4=>⟨by dsimp only;omega,fun f=>(by cases f),fun _=>⟨hB,(k',o++[((O.getD k' J6).1,(O.getD k' J6).2.2.2.1.1+(j:Int))],j+1), ?_,⟨⟨hr,hlt,by dsimp only;omega,by simp;omega, ?_⟩,rfl⟩,by dsimp only;omega⟩⟩,fun h4=>⟨fun f=>(by cases f),fun _=>⟨hB,(k',o,j+1), ?_,⟨⟨hr,hlt,by dsimp only;omega,by dsimp only;omega, ?_⟩,rfl⟩,by dsimp only;omega⟩⟩⟩,fun h3=>⟨fun f=>(by cases f),fun _=>⟨hB,(k',o,j+1), ?_,⟨⟨hr,hlt,by dsimp only;omega,by dsimp only;omega, ?_⟩,rfl⟩,by dsimp only;omega⟩⟩⟩
   ·repeat' first|exact rfl|apply And.intro|exact(Int.add_zero _).symm|omega|dsimp only;omega
   ·have h3:Jr (O.getD k' J6) ((O.getD k' J6).2.2.2.1.1+(j:Int))=true:=h3
    have h4:(bif decide ((O.getD k' J6).2.2.2.1.1+(j:Int)<u) then decide (Kq M (O.getD k' J6).1 ((O.getD k' J6).2.2.2.1.1+(j:Int))<0) else false)=true:=h4
    rw[Jwu] at h4
    rw[h3,Bool.true_and,h4,hc] at i4
    rw[←i4]
    simp
   ·repeat' first|exact rfl|apply And.intro|exact(Int.add_zero _).symm|omega|dsimp only;omega
   ·have h3:Jr (O.getD k' J6) ((O.getD k' J6).2.2.2.1.1+(j:Int))=true:=h3
    have h4:(bif decide ((O.getD k' J6).2.2.2.1.1+(j:Int)<u) then decide (Kq M (O.getD k' J6).1 ((O.getD k' J6).2.2.2.1.1+(j:Int))<0) else false)=false:=h4
    rw[Jwu] at h4
    rw[h3,Bool.true_and,h4,hc] at i4
    rw[←i4]
    simp
   ·repeat' first|exact rfl|apply And.intro|exact(Int.add_zero _).symm|omega|dsimp only;omega
   ·have h3:Jr (O.getD k' J6) ((O.getD k' J6).2.2.2.1.1+(j:Int))=false:=h3
    rw[h3,hc] at i4
    rw[←i4]
    simp
  ·have h2:¬(O.getD k' J6).2.2.2.1.1+(j:Int)<(O.getD k' J6).2.2.2.1.2:=of_decide_eq_false h2
   have hj:Uo (O.getD k' J6)-j=0:=by omega
   rw[hj,L7] at i4
   refine⟨⟨by dsimp only;omega,by dsimp only;omega⟩,(k'+1,o), ?_,⟨by dsimp only;omega,by dsimp only;omega,by simpa using i4⟩,by dsimp only;omega⟩
   repeat' first|exact rfl|apply And.intro|exact(Int.add_zero _).symm|omega|dsimp only;omega
 ·obtain⟨k,o⟩:=x
  have hlt:¬k<O.length:=by simpa using h1
  obtain⟨k1,k2,k3⟩:=hk
  dsimp only at k1 k2 k3
  have:k=O.length:=by omega
  rw[this,List.drop_length,Kj,List.append_nil] at k3
  exact⟨rfl,k3⟩
abbrev W54 [Sx.Dr]:=W53.add K4w
abbrev aE:AK:=aEv
abbrev Joc (T U:TypeId) (s:Sch) (l:List s.T) (g:Bool) (q:Tup [(g,s)]→List Prop) (f:Tup [(g,s)]→Bool):Ann:={X:=Nat,σ:=fun k=>⟨3,[(1, .one (.fv 1)),(5, .one (.sl 2)),(8, .one (.sl 0)),(9, .one (.int .i64 l.length)),(10, .one (.int .i64 k))],[(0, .imm T s l),(1, .afn [(g,s)] Bo q f),(2, .own U s ((l.take k).filter fun x=>f (x,())))]⟩,inv:=fun k=>k≤l.length,mu:=fun k=>l.length-k}
def Kcc:Con:={args:=[.val false (.list 235 Hm), .fn [(true,Hm)] Bo],ress:=[(false, .list 235 Hm)],owns:=[true],pre:=fun(l,(q,_),_)=>[l.length≤1000000,∀x∈l,Ur (q (x,()))],spec:=fun(l,(_,f),_)=>(l.filter fun x=>f (x,()),())}
theorem Jfm {α:Type} {p:α→Bool} {l:List α} {k:Nat} (h:k≤l.length):((l.take k).filter p).length≤k:=by
 have:=List.length_filter_le p (l.take k)
 rw[List.length_take] at this
 omega
def J3y (a:Per×Unit→Bool) (b:Nat) (c:List Per):=List.filter (fun(x:Per)=>a (x,PUnit.unit)) (List.take b c)
def Kga (a:Nat) (b:List Per) (c:Nat):=a≤List.length b∧J1t b a c
theorem Kn4 [Sx.Dr]:Ok Tryz.prog 243 Kcc:=okW W54 Tryz.f243 (fun xx=>X8 (Joc 235 235 Hm xx.1 true xx.2.1.1 xx.2.1.2)) fun xx=>by
 obtain⟨(l:List Per),⟨(q:Per×Unit→List Prop),(f:Per×Unit→Bool)⟩,_⟩:=xx
 refine(by kernel_rfl:(Z50 l→J9t l q→∃(x:Nat),Si (Ln l) (0=Nc x∧Sf l ((fun(x:Per×PUnit)=>q x)=q∧(fun(x:Per×PUnit)=>f x)=f∧List.length (J3y f x l)=0))∧x≤List.length l∧∀(x:Nat),x≤List.length l→Br (Jy2 x l) (Tw (Bd (Nc x) (Ln l))∧J9n q l x∧Br (Kka f l x) ((List.length (J3y f x l)+1)*40≤140737488355328∧Z19 x∧∃(y:Nat),Si (Ln l) (Z95 x y∧Sf l ((fun(x:Per×PUnit)=>q x)=q∧(fun(x:Per×PUnit)=>f x)=f∧J3y f x l++[Kfw l x]=J3y f y l))∧Kga y l x) (Z19 x∧∃(y:Nat),Si (Ln l) (Z95 x y∧Sf l ((fun(x:Per×PUnit)=>q x)=q∧(fun(x:Per×PUnit)=>f x)=f∧J3y f x l=J3y f y l))∧Kga y l x)) (J3y f x l=List.filter (fun(x:Per)=>f (x,PUnit.unit)) l))=_).mp ?_
 delta Z19 Z50 Z95 Jy2 J35 J1t J3y Kga J9t Kfw J9r Kka J9n Br Iw Bd Tw Sf Si Ln Nc B0 E2
 intro hb hq
 refine⟨(0:Nat),⟨rfl,rfl,rfl,rfl,rfl,by simp⟩,Nat.zero_le _,fun(k:Nat) hk=>⟨fun h=> ?_,fun h=> ?_⟩⟩
 ·have hlt:k<l.length:=by simpa using h
  have hf:=Jfm (p:=fun x=>f (x,())) hk
  have ht:=Us (d:=Jiz) hlt
  refine⟨by omega,hq (l.getD k Jiz) (Je hlt),fun h1=> ?_,fun h1=> ?_⟩
  ·have h1:f (l.getD k Jiz,())=true:=h1
   refine⟨by show((List.filter (fun x=>f (x,())) (List.take k l)).length+1)*40≤_;omega,by omega,(k+1:Nat),⟨rfl,by simp,rfl,rfl,rfl, ?_⟩,by omega,by omega⟩
   rw[←ht,List.filter_append,List.filter_cons,if_pos h1];rfl
  ·have h1:f (l.getD k Jiz,())=false:=h1
   refine⟨by omega,(k+1:Nat),⟨rfl,by simp,rfl,rfl,rfl, ?_⟩,by omega,by omega⟩
   rw[←ht,List.filter_append,List.filter_cons,if_neg (by rw[h1];decide)];simp
 ·have hlt:¬k<l.length:=by simpa using h
  rw[List.take_of_length_le (by omega)]
abbrev W55 [Sx.Dr]:=W54.add Kn4
def J29:Con:={args:=[.val true Hm],ress:=[Bo],owns:=[],pre:=fun _=>[],spec:=fun(x,_)=>(x.2.2,())}
theorem Kmy [Sx.Dr] (x:Per):wpF Tryz.prog W55.g (na ()) Tryz.f261 J29 (x,()):=by
 refine(by kernel_rfl:(x.2.2=x.2.2)=_).mp ?_
 rfl
theorem Kny [Sx.Dr]:Ok Tryz.prog 261 J29:=Vs mixed W55.ok (by kernel_rfl) (by kernel_rfl) na fun xx=>Kmy xx.1
abbrev W56 [Sx.Dr]:=W55.add Kny
def L6 (Q:List Per):List Per:=Q.filter fun x=>x.2.2
def Kb0:Con:={args:=[Jbj],ress:=[(false, .list 235 Hm)],owns:=[true],pre:=fun(r,_)=>[Jn r],spec:=fun((_,_,_,_,_,_,Q),_)=>(L6 Q,())}
theorem Kon [Sx.Dr]:Ok Tryz.prog 207 Kb0:=okW W56 Tryz.f207 na fun xx=>by
 obtain⟨⟨(tk:Int),(st:Int),(S:List Sta),(O:List Ord),(M:List Met),(X:List Out),(Q:List Per)⟩,_⟩:=xx
 refine(by kernel_rfl:(Jx tk st S O M X Q→Kkf Q∧List.filter (fun(x:Per)=>x.2.2) Q=L6 Q)=_).mp ?_
 delta Z50 Z65 Jx Kkf
 intro hr
 have nQ:Q.length≤16:=hr.nQ
 exact⟨⟨by omega,fun _ _=>trivial⟩,rfl⟩
abbrev W57 [Sx.Dr]:=W56.add Kon
theorem Jdq {Q:List Per}:(L6 Q).length≤Q.length:=List.length_filter_le _ _
theorem Jle {Q:List Per} {x:Per} (h:x∈L6 Q):x∈Q:=(List.mem_filter.1 h).1
def Kbu:Con:={args:=[.val true Hm, .ref 188 Zg],ress:=[Bo],owns:=[],pre:=fun _=>[],spec:=fun(x,y,_)=>(x.2.1.toList==y.1.toList,())}
theorem Kmz [Sx.Dr] (x:Per) (y:Out):wpF Tryz.prog W57.g (na ()) Tryz.f244 Kbu (x,y,()):=by
 refine(by kernel_rfl:(Lb x.2.1 y.1=Lb x.2.1 y.1)=_).mp ?_
 delta Lb
 rfl
theorem Kn3 [Sx.Dr]:Ok Tryz.prog 244 Kbu:=Vs mixed W57.ok (by kernel_rfl) (by kernel_rfl) na fun xx=>Kmz xx.1 xx.2.1
abbrev W58 [Sx.Dr]:=W57.add Kn3
def Kri:Con:={args:=[.val true Hm, .ref 105 Jj7, .ref 3 sI],ress:=[Bo],owns:=[],pre:=fun(x,r,_)=>[Jn r,0≤J7 r.2.2.2.2.2.1 x.2.1],spec:=fun(x,(_,_,_,_,_,X,_),h,_)=>(decide ((L5 X x.2.1).2.2.1.2≤h),())}
theorem Kn1 [Sx.Dr]:Ok Tryz.prog 246 Kri:=okW W58 Tryz.f246 na fun xx=>by
 obtain⟨⟨(a:ByteArray),(b:ByteArray),(c:Bool)⟩,⟨(tk:Int),(st:Int),(S:List Sta),(O:List Ord),(M:List Met),(X:List Out),(Q:List Per)⟩,(h:Int),_⟩:=xx
 refine(by kernel_rfl:(Jx tk st S O M X Q→0≤J7 X b→(Z58 X∧0≤J7 X b)∧decide ((L5 X b).2.2.1.2≤h)=decide ((L5 X b).2.2.1.2≤h))=_).mp ?_
 delta Z58 Z65 Jx
 intro hr h
 have nX:X.length≤16:=hr.nX
 repeat' first|assumption|exact rfl|trivial|omega|apply And.intro|intro _
abbrev W59 [Sx.Dr]:=W58.add Kn1
def Krp:Con:={args:=[aI, .ref 105 Jj7, .ref 9 .str, .ref 9 .str, .ref 3 sI],ress:=[Bo],owns:=[],pre:=fun(_,r,a,b,_)=>[Jn r,0≤J0 r.2.2.1 a,0≤J0 r.2.2.1 b],spec:=fun(h,(_,_,S,O,_,X,_),a,b,p,_)=>(decide (min (Xo S O X a h) (Xo S O X b h)<p),())}
theorem Kn8 [Sx.Dr]:Ok Tryz.prog 239 Krp:=okW W59 Tryz.f239 na fun xx=>by
 obtain⟨(h:Int),⟨(tk:Int),(st:Int),(S:List Sta),(O:List Ord),(M:List Met),(X:List Out),(Q:List Per)⟩,(a:ByteArray),(b:ByteArray),(p:Int),_⟩:=xx
 refine(by kernel_rfl:(Jx tk st S O M X Q→Z20 S a→Z20 S b→(Jx tk st S O M X Q∧Z20 S a∧Jx tk st S O M X Q∧Z20 S b)∧decide (min (Xo S O X a h) (Xo S O X b h)<p)=decide (min (Xo S O X a h) (Xo S O X b h)<p))=_).mp ?_
 delta Z20 Z65 Jx
 intro hr h1 h2
 repeat' first|assumption|exact rfl|trivial|omega|apply And.intro|intro _
abbrev W60 [Sx.Dr]:=W59.add Kn8
def Kro:Con:={args:=[aI, .ref 105 Jj7, .ref 9 .str, .ref 3 sI],ress:=[Bo],owns:=[],pre:=fun(_,r,a,_)=>[Jn r],spec:=fun(h,(_,_,_,O,_),a,p,_)=>(decide (p<Vc O a h),())}
theorem Kn6 [Sx.Dr]:Ok Tryz.prog 241 Kro:=okW W60 Tryz.f241 na fun xx=>by
 obtain⟨(h:Int),⟨(tk:Int),(st:Int),(S:List Sta),(O:List Ord),(M:List Met),(X:List Out),(Q:List Per)⟩,(a:ByteArray),(p:Int),_⟩:=xx
 refine(by kernel_rfl:(Jx tk st S O M X Q→Jx tk st S O M X Q∧decide (p<Vc O a h)=decide (p<Vc O a h))=_).mp ?_
 delta Z65 Jx
 intro hr
 repeat' first|assumption|exact rfl|trivial|omega|apply And.intro|intro _
abbrev W61 [Sx.Dr]:=W60.add Kn6
def Jsd (f:Int→Bool):Int→Nat→Bool
 |_,0=>false
 |a,n+1=>bif f a then true else Jsd f (a+1) n
def Hh (s:Int×Int) (f:Int→Bool):Bool:=Jsd f s.1 (s.2-s.1).toNat
def Kcp:Con:={args:=[.val true Hx, .fn [I] Bo],ress:=[Bo],owns:=[],pre:=fun(s,(q,_),_)=>[0≤s.1∧s.1≤999999999,0≤s.2∧s.2≤999999999,∀h,s.1≤h→h<s.2→Ur (q (h,()))],spec:=fun(s,(_,f),_)=>(Hh s fun h=>f (h,()),())}
abbrev J1h (a b:Int) (q:Int×Unit→List Prop) (f:Int×Unit→Bool):Ann:={X:=Nat,σ:=fun k=>⟨2,[(1, .one (.fv 1)),(2, .one (.ptr 0 0)),(5, .one (.bool false)),(11, .one (.int .i64 (b-a))),(12, .one (.int .i64 k))],[(0, .box 117 [.int .i64 a, .int .i64 b]),(1, .afn [I] Bo q f)]⟩,inv:=fun k=>k≤(b-a).toNat∧Hh (a,b) (fun h=>f (h,()))=Jsd (fun h=>f (h,())) (a+k) ((b-a).toNat-k),mu:=fun k=>(b-a).toNat-k}
def Kat (a:Int):=0≤a∧a≤999999999
def Kjg (a:Nat) (b c:Int) (d:Int×Unit→Bool):=a≤Int.toNat (b-c)∧(Hh (c,b) fun(h:Int)=>d (h,PUnit.unit))=Jsd (fun(h:Int)=>d (h,PUnit.unit)) (c+Nc a) (Int.toNat (b-c)-a)
theorem Koa [Sx.Dr]:Ok Tryz.prog 237 Kcp:=okW W61 Tryz.f237 (fun xx=>X8 (J1h xx.1.1 xx.1.2 xx.2.1.1 xx.2.1.2)) fun xx=>by
 obtain⟨⟨(a:Int),(b:Int)⟩,⟨(q:Int×Unit→List Prop),(f:Int×Unit→Bool)⟩,_⟩:=xx
 refine(by kernel_rfl:(Kat a→Kat b→(∀(h:Int),a≤h→h<b→Ur (q (h,PUnit.unit)))→Iw (b-a)∧∃(x:Nat),Sf false (Si (b-a) (0=Nc x∧Si a (Si b ((fun(x:Int×PUnit)=>q x)=q∧(fun(x:Int×PUnit)=>f x)=f))))∧Kjg x b a f∧∀(x:Nat),Kjg x b a f→Br (decide (Nc x<b-a)) ((Iw (a+Nc x)∧Ur (q (a+Nc x,PUnit.unit)))∧Br (f (a+Nc x,PUnit.unit)) (true=Hh (a,b) fun(h:Int)=>f (h,PUnit.unit)) (Z19 x∧∃(y:Nat),Sf false (Si (b-a) (Z95 x y∧Si a (Si b ((fun(x:Int×PUnit)=>q x)=q∧(fun(x:Int×PUnit)=>f x)=f))))∧Kjg y b a f∧Int.toNat (b-a)-y<Int.toNat (b-a)-x)) (false=Hh (a,b) fun(h:Int)=>f (h,PUnit.unit)))=_).mp ?_
 delta Z19 Z95 Kat Kjg Br Iw Sf Si Nc
 intro h1 h2 hq
 refine⟨by omega,(0:Nat),⟨rfl,rfl,rfl,rfl,rfl,rfl,rfl⟩,⟨Nat.zero_le _,by simp[Hh]⟩,fun(k:Nat) hk=>⟨fun h=> ?_,fun h=> ?_⟩⟩
 ·have h:(k:Int)<b-a:=of_decide_eq_true h
  obtain⟨k1,k2⟩:=hk
  have hj:(b-a).toNat-k=((b-a).toNat-(k+1))+1:=by omega
  rw[hj,Jsd] at k2
  refine⟨⟨by omega,hq (a+k) (by omega) (by omega)⟩,fun h3=> ?_,fun h3=>⟨by omega,(k+1:Nat),⟨rfl,rfl,by simp,rfl,rfl,rfl,rfl⟩,⟨by omega, ?_⟩,by omega⟩⟩
  ·rw[k2]
   show true=bif f (a+(k:Int),PUnit.unit) then true else _
   rw[h3];rfl
  ·rw[k2]
   show(bif f (a+(k:Int),PUnit.unit) then true else _)=_
   rw[h3,Int.natCast_add,←Int.add_assoc];rfl
 ·have h:¬(k:Int)<b-a:=of_decide_eq_false h
  have hj:(b-a).toNat-k=0:=by omega
  rw[hk.2,hj];rfl
abbrev W62 [Sx.Dr]:=W61.add Koa
def Jl5 (S:List Sta) (vs:List Int):Int:=Jh [Kh (vs.getD 1 0) 1 1000,bif decide ((6:Int)≤S.length) then 5 else 0]
def Kcq:Con:={args:=[Jbj,aEv],ress:=[I],owns:=[],pre:=fun(r,e,_)=>[Jn r,2≤e.2.2.2.1.length],spec:=fun((tk,st,S,O,M,X,Q),(n,k,ns,vs,tx),_)=>(Jl5 S vs,())}
def Z45 (a:Li):=2≤List.length a
theorem Kp2 [Sx.Dr]:Ok Tryz.prog 148 Kcq:=okW W62 Tryz.f148 na fun xx=>by
 obtain⟨⟨(tk:Int),(st:Int),(S:List Sta),(O:List Ord),(M:List Met),(X:List Out),(Q:List Per)⟩,⟨(n:Int),(k:ByteArray),(ns:List ByteArray),(vs:List Int),(tx:ByteArray)⟩,_⟩:=xx
 refine(by kernel_rfl:(Jx tk st S O M X Q→Z45 vs→T2 (Z29 vs) (2≤1000000)∧Jh [Kh (Z87 vs) 1 1000,bif decide (6≤Ln S) then 5 else 0]=Jl5 S vs)=_).mp ?_
 delta Z29 Z45 Z65 Z87 Jx Bd T2 Ln
 intro hr h
 repeat' first|assumption|exact rfl|trivial|omega|apply And.intro|intro _
abbrev W63 [Sx.Dr]:=W62.add Kp2
def Jn4 (vs:List Int):Int:=Kh (vs.getD 1 0) 0 1000
def Kcs:Con:={args:=[Jbj,aEv],ress:=[I],owns:=[],pre:=fun(r,e,_)=>[2≤e.2.2.2.1.length],spec:=fun((tk,st,S,O,M,X,Q),(n,k,ns,vs,tx),_)=>(Jn4 vs,())}
def Jqw (a:Li):=Tw (Z29 a)
theorem Kpy [Sx.Dr]:Ok Tryz.prog 152 Kcs:=okW W63 Tryz.f152 na fun xx=>by
 obtain⟨⟨(tk:Int),(st:Int),(S:List Sta),(O:List Ord),(M:List Met),(X:List Out),(Q:List Per)⟩,⟨(n:Int),(k:ByteArray),(ns:List ByteArray),(vs:List Int),(tx:ByteArray)⟩,_⟩:=xx
 refine(by kernel_rfl:(Z45 vs→Jqw vs∧Kh (Z87 vs) 0 1000=Jn4 vs)=_).mp ?_
 delta Z29 Z45 Z87 Jqw Bd Tw Ln
 intro h
 repeat' first|assumption|exact rfl|trivial|omega|apply And.intro|intro _
abbrev W64 [Sx.Dr]:=W63.add Kpy
def Ja7 (e:Ev):Int:=Jh [bif (e.2.2.1.getD 1 Ja).toList==(e.2.2.1.getD 2 Ja).toList then 24 else 0,Zc e,Kh (e.2.2.2.1.getD 3 0) 1 1000]
def Jvl (S:List Sta) (O:List Ord) (X:List Out) (e:Ev):Bool:=Hh (Vt e) fun h=>decide (min (Xo S O X (e.2.2.1.getD 1 Ja) h) (Xo S O X (e.2.2.1.getD 2 Ja) h)<e.2.2.2.1.getD 3 0)
def Ja8 (S:List Sta) (O:List Ord) (X:List Out) (e:Ev):Int:=if Ja7 e≠0 then Ja7 e else Jh [bif Jvl S O X e then 4 else 0,bif decide ((32:Int)≤O.length) then 5 else 0]
def Kcu:Con:={args:=[Jbj,aEv],ress:=[I],owns:=[],pre:=fun(r,e,_)=>[Jn r,EvV e,e.2.2.1.length=3,e.2.2.2.1.length=4,0≤J0 r.2.2.1 (e.2.2.1.getD 1 Ja),0≤J0 r.2.2.1 (e.2.2.1.getD 2 Ja)],spec:=fun((tk,st,S,O,M,X,Q),(n,k,ns,vs,tx),_)=>(Ja8 S O X (n,k,ns,vs,tx),())}
def Z28 (a:Li):=Bd 3 (Ln a)
def Z49 (a:Li):=List.length a=4
def Z88 (a:Ls):=List.getD a 2 B0
def Z92 (a:Li):=List.getD a 3 0
def Z93 (a:Ls):=Bd 2 (Ln a)
def Jy3 (a:Li):=Tw (Z28 a)
def Jd4 (a:Ls):=Bd 1 (Ln a)
def Lg (a:Ls):=List.getD a 1 B0
def Jj4 (a:Ls):=List.getD a 1 Ja
def Js8 (a:Ls):=List.length a=3
def J7n (a:Ls):=List.getD a 2 Ja
def Jyw (a:List Sta) (b:Ls):=J0 a (Lg b)
def J3v (a:List Sta) (b:Ls):=0≤Jyw a b
def J99 (a:List Sta) (b:Ls):=0≤J0 a (Jj4 b)
def Kl3 (a:Ls):=Lb (Lg a) (Z88 a)
def Kvn (a:Ls) (b:Int) (c:Bt) (d:Li) (e:Bt):=Jh [bif Kl3 a then 24 else 0,Zc (b,c,a,d,e),Kh (Z92 d) 1 1000]
theorem Kpw [Sx.Dr]:Ok Tryz.prog 154 Kcu:=okW W64 Tryz.f154 na fun xx=>by
 obtain⟨⟨(tk:Int),(st:Int),(S:List Sta),(O:List Ord),(M:List Met),(X:List Out),(Q:List Per)⟩,⟨(n:Int),(k:ByteArray),(ns:List ByteArray),(vs:List Int),(tx:ByteArray)⟩,_⟩:=xx
 refine(by kernel_rfl:(Jx tk st S O M X Q→EvV (n,k,ns,vs,tx)→Js8 ns→Z49 vs→J99 S ns→0≤J0 S (J7n ns)→T2 (Jd4 ns) (T2 (Z93 ns) (Jy3 vs))∧(Z48 vs∧EvV (n,k,ns,vs,tx)∧3≤1000000)∧Br (Kvn ns n k vs tx !=0) (Kvn ns n k vs tx=Ja8 S O X (n,k,ns,vs,tx)) ((Z48 vs∧(0≤(Z60 n k ns vs tx).1∧(Z60 n k ns vs tx).1≤999999999)∧(0≤(Z60 n k ns vs tx).2∧(Z60 n k ns vs tx).2≤999999999)∧∀(h:Int),(Z60 n k ns vs tx).1≤h→h<(Z60 n k ns vs tx).2→Jx tk st S O M X Q∧J3v S ns∧0≤J0 S (Z88 ns))∧2≤1000000∧Jh [bif Hh (E2 (Z60 n k ns vs tx)) fun(h:Int)=>decide (min (Xo S O X (Lg ns) h) (Xo S O X (Z88 ns) h)<Z92 vs) then 4 else 0,bif decide (32≤Ln O) then 5 else 0]=Ja8 S O X (n,k,ns,vs,tx)))=_).mp ?_
 delta Z28 Z48 Z49 Z60 Z65 Z88 Z92 Z93 Jy3 Jd4 Lg Jj4 Js8 J7n Jx Jyw J3v J99 Kl3 Kvn Br Bd T2 Tw Ln B0 Lb E2
 intro hr hv hn hl h1 h2
 have sp:(0≤(Vt (n,k,ns,vs,tx)).1∧(Vt (n,k,ns,vs,tx)).1≤999999999)∧0≤(Vt (n,k,ns,vs,tx)).2∧(Vt (n,k,ns,vs,tx)).2≤999999999:=⟨hv (vs.getD 1 0) (Je (show 1<vs.length by omega)),hv (vs.getD 2 0) (Je (show 2<vs.length by omega))⟩
 refine⟨by omega,⟨by omega,hv,by omega⟩,fun h=> ?_,fun h=>⟨⟨by omega,sp.1,sp.2,fun _ _ _=>⟨hr,h1,h2⟩⟩,by omega, ?_⟩⟩
 ·have h:Ja7 (n,k,ns,vs,tx)≠0:=bne_iff_ne.1 h
  unfold Ja8;rw[if_pos h];rfl
 ·have h:¬Ja7 (n,k,ns,vs,tx)≠0:=by have:=bne_eq_false_iff_eq.1 h;exact fun f=>f this
  unfold Ja8;rw[if_neg h];rfl
abbrev W65 [Sx.Dr]:=W64.add Kpw
def Jjy (O:List Ord) (M:List Met) (ns:List ByteArray) (vs:List Int):Int:=Jh [bif decide (vs.getD 0 0≤vs.getD 1 0) then 11 else 0,bif !Ko (Yu O (ns.getD 0 Ja)).2.2.2.1 (vs.getD 1 0) then 14 else 0,bif !Jr (Yu O (ns.getD 0 Ja)) (vs.getD 1 0) then 23 else 0,bif decide (0≤Kq M (Yu O (ns.getD 0 Ja)).1 (vs.getD 1 0)) then 9 else 0,bif (bif decide ((Yu O (ns.getD 0 Ja)).2.2.2.2.1<vs.getD 2 0) then true else decide (vs.getD 2 0<vs.getD 3 0)) then 3 else 0]
def Kcv:Con:={args:=[Jbj,aEv],ress:=[I],owns:=[],pre:=fun(r,e,_)=>[Jn r,1≤e.2.2.1.length,4≤e.2.2.2.1.length,0≤Kp r.2.2.2.1 (e.2.2.1.getD 0 Ja)],spec:=fun((tk,st,S,O,M,X,Q),(n,k,ns,vs,tx),_)=>(Jjy O M ns vs,())}
def Z55 (a:Li):=4≤List.length a
def Z91 (a:Ls):=List.getD a 0 B0
def Z99 (a:Ls):=Bd 0 (Ln a)
def L1 (a:Ls):=List.getD a 0 Ja
def Y1 (a:Ls):=1≤List.length a
def J7l (a:List Ord) (b:Ls):=Yu a (Z91 b)
def Jqt (a:List Ord) (b:Ls):=Kp a (Z91 b)
def Kaj (a:List Ord) (b:Ls):=(J7l a b).2.2
def Kaf (a:List Ord) (b:Ls):=(Kaj a b).2.1
def J7h (a:List Ord) (b:Ls):=(Kaj a b).2.2
def Js5 (a:List Ord) (b:Ls):=0≤Kp a (L1 b)
def Kls (a:Li):=decide (Z85 a≤Z87 a)
def Klq (a:Li):=decide (Jmc a<Z92 a)
def Khs (a:List Ord) (b:Ls):=((J7l a b).1,(J7l a b).2.1,(Kaj a b).1,E2 (Kaf a b),(J7h a b).1,E2 (J7h a b).2)
theorem Kpt [Sx.Dr]:Ok Tryz.prog 157 Kcv:=okW W65 Tryz.f157 na fun xx=>by
 obtain⟨⟨(tk:Int),(st:Int),(S:List Sta),(O:List Ord),(M:List Met),(X:List Out),(Q:List Per)⟩,⟨(n:Int),(k:ByteArray),(ns:List ByteArray),(vs:List Int),(tx:ByteArray)⟩,_⟩:=xx
 refine(by kernel_rfl:(Jx tk st S O M X Q→Y1 ns→Z55 vs→Js5 O ns→T2 (Z99 ns) (Z43 O∧0≤Jqt O ns∧T2 (Z29 vs) (T2 (Z23 vs) (Jy3 vs)))∧T2 (Z30 vs) (Jx tk st S O M X Q∧5≤1000000)∧Jh [bif Kls vs then 11 else 0,bif !Ko (E2 (Kaf O ns)) (Z87 vs) then 14 else 0,bif !Jr (Khs O ns) (Z87 vs) then 23 else 0,bif decide (0≤Kq M (J7l O ns).1 (Z87 vs)) then 9 else 0,bif bif decide ((J7h O ns).1<Jmc vs) then true else Klq vs then 3 else 0]=Jjy O M ns vs)=_).mp ?_
 delta Z23 Z28 Z29 Z30 Z43 Z55 Z65 Z85 Z87 Z91 Z92 Z99 Jmc Jy3 L1 Y1 Jx J7l Jqt Kaj Kaf J7h Js5 Kls Klq Khs Bd T2 Tw Ln B0 E2
 intro hr h1 h2 h3
 have nO:O.length≤32:=hr.nO
 refine⟨⟨⟨by omega,by omega⟩,⟨by omega,by omega⟩,by omega,h3,by omega⟩,⟨by omega,by omega,hr,by omega⟩,rfl⟩
abbrev W66 [Sx.Dr]:=W65.add Kpt
def Jcy (O:List Ord) (ns:List ByteArray) (vs:List Int):Int:=bif (bif (Yu O (ns.getD 0 Ja)).2.2.2.2.2.2 != -1 then true else decide ((Yu O (ns.getD 0 Ja)).2.2.2.1.2≤vs.getD 0 0)) then 23 else 0
def J58:Con:={args:=[Jbj,aEv],ress:=[I],owns:=[],pre:=fun(r,e,_)=>[Jn r,1≤e.2.2.1.length,1≤e.2.2.2.1.length,0≤Kp r.2.2.2.1 (e.2.2.1.getD 0 Ja)],spec:=fun((tk,st,S,O,M,X,Q),(n,k,ns,vs,tx),_)=>(Jcy O ns vs,())}
def Z54 (a:Li):=1≤List.length a
def Kjv (a:Ls) (b:List Ord):=T2 (Z99 a) (Z43 b∧0≤Jqt b a)
def Kxr (a:List Ord) (b:Ls):=(J7h a b).2.2 !=Z69
theorem Kpr [Sx.Dr]:Ok Tryz.prog 159 J58:=okW W66 Tryz.f159 na fun xx=>by
 obtain⟨⟨(tk:Int),(st:Int),(S:List Sta),(O:List Ord),(M:List Met),(X:List Out),(Q:List Per)⟩,⟨(n:Int),(k:ByteArray),(ns:List ByteArray),(vs:List Int),(tx:ByteArray)⟩,_⟩:=xx
 refine(by kernel_rfl:(Jx tk st S O M X Q→Y1 ns→Z54 vs→Js5 O ns→Kjv ns O∧Tw (Kxr O ns=false→Z30 vs)∧(bif bif Kxr O ns then true else decide ((Kaf O ns).2≤Z85 vs) then 23 else 0)=Jcy O ns vs)=_).mp ?_
 delta Z30 Z43 Z54 Z65 Z69 Z85 Z91 Z99 L1 Y1 Jx J7l Jqt Kaj Kaf J7h Js5 Kjv Kxr Bd T2 Tw Ln B0
 intro hr h1 h2 h3
 have nO:O.length≤32:=hr.nO
 repeat' first|assumption|exact rfl|trivial|omega|apply And.intro|intro _
abbrev W67 [Sx.Dr]:=W66.add Kpr
def Jhp (S:List Sta) (e:Ev):Int:=Jh [Zc e,bif decide ((Ho S (e.2.2.1.getD 1 Ja)).2.1≤e.2.2.2.1.getD 3 0) then 3 else 0]
def Jb8 (S:List Sta) (O:List Ord) (X:List Out) (e:Ev):Int:=if Jhp S e≠0 then Jhp S e else Jh [bif Hh (Vt e) (fun h=>decide (e.2.2.2.1.getD 3 0<Vc O (e.2.2.1.getD 1 Ja) h)) then 24 else 0,bif decide ((16:Int)≤X.length) then 5 else 0]
def Kct:Con:={args:=[Jbj,aEv],ress:=[I],owns:=[],pre:=fun(r,e,_)=>[Jn r,EvV e,e.2.2.1.length=2,e.2.2.2.1.length=4,0≤J0 r.2.2.1 (e.2.2.1.getD 1 Ja)],spec:=fun((tk,st,S,O,M,X,Q),(n,k,ns,vs,tx),_)=>(Jb8 S O X (n,k,ns,vs,tx),())}
def Jqv (a:Ls):=List.length a=2
def Kws (a:Int) (b:Bt) (c:Ls) (d:Li) (e:Bt) (f:List Sta):=Jh [Zc (a,b,c,d,e),bif decide ((Ho f (Lg c)).2.1≤Z92 d) then 3 else 0]
theorem Kpp [Sx.Dr]:Ok Tryz.prog 161 Kct:=okW W67 Tryz.f161 na fun xx=>by
 obtain⟨⟨(tk:Int),(st:Int),(S:List Sta),(O:List Ord),(M:List Met),(X:List Out),(Q:List Per)⟩,⟨(n:Int),(k:ByteArray),(ns:List ByteArray),(vs:List Int),(tx:ByteArray)⟩,_⟩:=xx
 refine(by kernel_rfl:(Jx tk st S O M X Q→EvV (n,k,ns,vs,tx)→Jqv ns→Z49 vs→J99 S ns→T2 (Jd4 ns) (Jy3 vs)∧(Z48 vs∧EvV (n,k,ns,vs,tx)∧Z59 S∧J3v S ns∧2≤1000000)∧Br (Kws n k ns vs tx S !=0) (Kws n k ns vs tx S=Jb8 S O X (n,k,ns,vs,tx)) ((Z48 vs∧(0≤(Z60 n k ns vs tx).1∧(Z60 n k ns vs tx).1≤999999999)∧(0≤(Z60 n k ns vs tx).2∧(Z60 n k ns vs tx).2≤999999999)∧∀(h:Int),(Z60 n k ns vs tx).1≤h→h<(Z60 n k ns vs tx).2→Jx tk st S O M X Q)∧2≤1000000∧Jh [bif Hh (E2 (Z60 n k ns vs tx)) fun(h:Int)=>decide (Z92 vs<Vc O (Lg ns) h) then 24 else 0,bif decide (16≤Ln X) then 5 else 0]=Jb8 S O X (n,k,ns,vs,tx)))=_).mp ?_
 delta Z28 Z48 Z49 Z59 Z60 Z65 Z92 Jy3 Jd4 Lg Jj4 Jqv Jx Jyw J3v J99 Kws Br Bd T2 Tw Ln B0 E2
 intro hr hv hn hl h1
 have sp:(0≤(Vt (n,k,ns,vs,tx)).1∧(Vt (n,k,ns,vs,tx)).1≤999999999)∧0≤(Vt (n,k,ns,vs,tx)).2∧(Vt (n,k,ns,vs,tx)).2≤999999999:=⟨hv (vs.getD 1 0) (Je (show 1<vs.length by omega)),hv (vs.getD 2 0) (Je (show 2<vs.length by omega))⟩
 have nS:S.length≤6:=hr.nS
 refine⟨by omega,⟨by omega,hv,by omega,h1,by omega⟩,fun h=> ?_,fun h=>⟨⟨by omega,sp.1,sp.2,fun _ _ _=>hr⟩,by omega, ?_⟩⟩
 ·have h:Jhp S (n,k,ns,vs,tx)≠0:=bne_iff_ne.1 h
  unfold Jb8;rw[if_pos h];rfl
 ·have h:¬Jhp S (n,k,ns,vs,tx)≠0:=by have:=bne_eq_false_iff_eq.1 h;exact fun f=>f this
  unfold Jb8;rw[if_neg h];rfl
abbrev W68 [Sx.Dr]:=W67.add Kpp
def Jcz (X:List Out) (Q:List Per) (ns:List ByteArray) (vs:List Int):Int:=Jh [bif decide (vs.getD 0 0≤(L5 X (ns.getD 0 Ja)).2.2.1.1) then 21 else 0,bif decide ((L5 X (ns.getD 0 Ja)).2.2.1.2≤vs.getD 0 0) then 23 else 0,bif decide ((0:Int)<((L6 Q).filter fun p=>p.2.1.toList==(L5 X (ns.getD 0 Ja)).1.toList).length) then 32 else 0]
def J6a:Con:={args:=[Jbj,aEv],ress:=[I],owns:=[],pre:=fun(r,e,_)=>[Jn r,1≤e.2.2.1.length,1≤e.2.2.2.1.length,0≤J7 r.2.2.2.2.2.1 (e.2.2.1.getD 0 Ja)],spec:=fun((tk,st,S,O,M,X,Q),(n,k,ns,vs,tx),_)=>(Jcz X Q ns vs,())}
def Kap (a:List Out) (b:Ls):=L5 a (Z91 b)
def Js7 (a:List Out) (b:Ls):=J7 a (Z91 b)
def J1r (a:List Out) (b:Ls):=0≤J7 a (L1 b)
def Kjw (a:Ls) (b:List Out):=T2 (Z99 a) (Z58 b∧0≤Js7 b a)
def Kip (a b:Int) (c:List Sta) (d:List Ord) (e:List Met) (f:List Out) (g:List Per):=Jx a b c d e f g∧List.length (L6 g)≤1000000∧∀(x:Per),x∈L6 g→True
theorem Kpm [Sx.Dr]:Ok Tryz.prog 164 J6a:=okW W68 Tryz.f164 na fun xx=>by
 obtain⟨⟨(tk:Int),(st:Int),(S:List Sta),(O:List Ord),(M:List Met),(X:List Out),(Q:List Per)⟩,⟨(n:Int),(k:ByteArray),(ns:List ByteArray),(vs:List Int),(tx:ByteArray)⟩,_⟩:=xx
 refine(by kernel_rfl:(Jx tk st S O M X Q→Y1 ns→Z54 vs→J1r X ns→Kjw ns X∧Kip tk st S O M X Q∧T2 (Z30 vs) (T2 (Z30 vs) (3≤1000000))∧Jh [bif decide (Z85 vs≤(Kap X ns).2.2.1.1) then 21 else 0,bif decide ((Kap X ns).2.2.1.2≤Z85 vs) then 23 else 0,bif decide (0<Ln (List.filter (fun(x:Per)=>List.beq (ByteArray.toList x.2.1) (ByteArray.toList (Kap X ns).1)) (L6 Q))) then 32 else 0]=Jcz X Q ns vs)=_).mp ?_
 delta Z30 Z54 Z58 Z65 Z85 Z91 Z99 L1 Y1 Jx Kap Js7 J1r Kjw Kip Bd T2 Ln B0
 intro hr h1 h2 h3
 have nX:X.length≤16:=hr.nX
 have nQ:Q.length≤16:=hr.nQ
 have:=Jdq (Q:=Q)
 refine⟨⟨by omega,by omega,by omega,h3⟩,⟨hr,by omega,fun _ _=>trivial⟩,by omega,rfl⟩
abbrev W69 [Sx.Dr]:=W68.add Kpm
def Jc0 (X:List Out) (Q:List Per) (ns:List ByteArray) (vs:List Int):Int:=Jh [bif !Ko (L5 X (ns.getD 1 Ja)).2.2.1 (vs.getD 0 0) then 22 else 0,bif decide ((16:Int)≤Q.length) then 5 else 0]
def J6b:Con:={args:=[Jbj,aEv],ress:=[I],owns:=[],pre:=fun(r,e,_)=>[Jn r,2≤e.2.2.1.length,1≤e.2.2.2.1.length,0≤J7 r.2.2.2.2.2.1 (e.2.2.1.getD 1 Ja)],spec:=fun((tk,st,S,O,M,X,Q),(n,k,ns,vs,tx),_)=>(Jc0 X Q ns vs,())}
def Jy0 (a:Ls):=2≤List.length a
theorem Kpk [Sx.Dr]:Ok Tryz.prog 166 J6b:=okW W69 Tryz.f166 na fun xx=>by
 obtain⟨⟨(tk:Int),(st:Int),(S:List Sta),(O:List Ord),(M:List Met),(X:List Out),(Q:List Per)⟩,⟨(n:Int),(k:ByteArray),(ns:List ByteArray),(vs:List Int),(tx:ByteArray)⟩,_⟩:=xx
 refine(by kernel_rfl:(Jx tk st S O M X Q→Jy0 ns→Z54 vs→0≤J7 X (Jj4 ns)→T2 (Jd4 ns) (Z58 X∧0≤J7 X (Lg ns)∧T2 (Z30 vs) (2≤1000000))∧Jh [bif !Ko (E2 (L5 X (Lg ns)).2.2.1) (Z85 vs) then 22 else 0,bif decide (16≤Ln Q) then 5 else 0]=Jc0 X Q ns vs)=_).mp ?_
 delta Z30 Z54 Z58 Z65 Z85 Jd4 Lg Jj4 Jy0 Jx Bd T2 Ln B0 E2
 intro hr h1 h2 h3
 have nX:X.length≤16:=hr.nX
 repeat' first|assumption|exact rfl|trivial|omega|apply And.intro|intro _
abbrev W70 [Sx.Dr]:=W69.add Kpk
def Jn3 (Q:List Per) (ns:List ByteArray):Int:=bif !(Jmi Q (ns.getD 0 Ja)).2.2 then 23 else 0
def Kcr:Con:={args:=[Jbj,aEv],ress:=[I],owns:=[],pre:=fun(r,e,_)=>[Jn r,1≤e.2.2.1.length,0≤U2 r.2.2.2.2.2.2 (e.2.2.1.getD 0 Ja)],spec:=fun((tk,st,S,O,M,X,Q),(n,k,ns,vs,tx),_)=>(Jn3 Q ns,())}
def Jsi (a:List Per) (b:Ls):=U2 a (Z91 b)
def J1s (a:List Per) (b:Ls):=0≤U2 a (L1 b)
theorem Kph [Sx.Dr]:Ok Tryz.prog 169 Kcr:=okW W70 Tryz.f169 na fun xx=>by
 obtain⟨⟨(tk:Int),(st:Int),(S:List Sta),(O:List Ord),(M:List Met),(X:List Out),(Q:List Per)⟩,⟨(n:Int),(k:ByteArray),(ns:List ByteArray),(vs:List Int),(tx:ByteArray)⟩,_⟩:=xx
 refine(by kernel_rfl:(Jx tk st S O M X Q→Y1 ns→J1s Q ns→T2 (Z99 ns) (Z50 Q∧0≤Jsi Q ns)∧(bif !(Jmi Q (Z91 ns)).2.2 then 23 else 0)=Jn3 Q ns)=_).mp ?_
 delta Z50 Z65 Z91 Z99 L1 Y1 Jx Jsi J1s Bd T2 Ln B0
 intro hr h1 h3
 have nQ:Q.length≤16:=hr.nQ
 repeat' first|assumption|exact rfl|trivial|omega|apply And.intro|intro _
abbrev W71 [Sx.Dr]:=W70.add Kph
def Zu (st:Int) (O:List Ord) (M:List Met) (X:List Out) (Q:List Per) (vs:List Int):Int:=bif (bif decide (vs.getD 1 0≤st) then true else decide (vs.getD 0 0<vs.getD 1 0)) then 14 else bif (bif decide ((0:Int)<(Kj M (vs.getD 1 0) O).length) then true else decide ((0:Int)<((L6 Q).filter fun p=>decide ((L5 X p.2.1).2.2.1.2≤vs.getD 1 0)).length)) then 32 else 0
def J59:Con:={args:=[Jbj,aEv],ress:=[I],owns:=[],pre:=fun(r,e,_)=>[Jn r,2≤e.2.2.2.1.length],spec:=fun((tk,st,S,O,M,X,Q),(n,k,ns,vs,tx),_)=>(Zu st O M X Q vs,())}
def Kgo (a:Li) (b:Int):=decide (Z87 a≤b)
def Kks (a:Li) (b:Int):=Tw (Kgo a b=false→Z30 a)
def Kja (a:Li) (b:Int):=bif Kgo a b then true else decide (Z85 a<Z87 a)
theorem Kpf [Sx.Dr]:Ok Tryz.prog 171 J59:=okW W71 Tryz.f171 na fun xx=>by
 obtain⟨⟨(tk:Int),(st:Int),(S:List Sta),(O:List Ord),(M:List Met),(X:List Out),(Q:List Per)⟩,⟨(n:Int),(k:ByteArray),(ns:List ByteArray),(vs:List Int),(tx:ByteArray)⟩,_⟩:=xx
 refine(by kernel_rfl:(Jx tk st S O M X Q→Z45 vs→Jqw vs∧Kks vs st∧Br (Kja vs st) (14=Zu st O M X Q vs) ((Jx tk st S O M X Q∧List.length (L6 Q)≤1000000∧∀(x:Per),x∈L6 Q→Jx tk st S O M X Q∧0≤J7 X x.2.1)∧Jx tk st S O M X Q∧(bif bif decide (0<Ln (Kj M (Z87 vs) O)) then true else decide (0<Ln (List.filter (fun(x:Per)=>decide ((L5 X x.2.1).2.2.1.2≤Z87 vs)) (L6 Q))) then 32 else 0)=Zu st O M X Q vs))=_).mp ?_
 delta Z29 Z30 Z45 Z65 Z85 Z87 Jqw Jx Kgo Kks Kja Br Bd Tw Ln
 intro hr h1
 have nQ:Q.length≤16:=hr.nQ
 have:=Jdq (Q:=Q)
 refine⟨by omega,⟨fun _=>by omega,fun _=>by omega⟩,fun h=> ?_,fun h=>⟨⟨hr,by omega,fun x hx=>⟨hr,hr.per x (Jle hx)⟩⟩,hr, ?_⟩⟩
 ·unfold Zu;rw[h];rfl
 ·unfold Zu;rw[h];rfl
abbrev W72 [Sx.Dr]:=W71.add Kpf
abbrev Jyg (pre:Reg→Ev→List Prop) (post:Reg→Ev→Reg):Xv:={T? :=some 105,s:=Jj7,args:=[aEv],ress:=[],pre:=fun r (e,_)=>pre r e,spec:=fun _ _=>(),post:=fun r (e,_)=>post r e}
def V6 (O:List Ord) (s:ByteArray) (v:Int):List Ord:=O.set (Kp O s).toNat ((Yu O s).1,(Yu O s).2.1,(Yu O s).2.2.1,(Yu O s).2.2.2.1,(Yu O s).2.2.2.2.1,(Yu O s).2.2.2.2.2.1,v)
def Jed (X:List Out) (s:ByteArray) (v:Int):List Out:=X.set (J7 X s).toNat ((L5 X s).1,(L5 X s).2.1,((L5 X s).2.2.1.1,v),(L5 X s).2.2.2)
def Fz (Q:List Per) (s:ByteArray):List Per:=Q.set (U2 Q s).toNat ((Jmi Q s).1,(Jmi Q s).2.1,false)
def Ja3:Reg→Ev→Reg:=fun(tk,st,S,O,M,X,Q) (n,k,ns,vs,tx)=>(tk,st,S++[(ns.getD 0 Ja,vs.getD 1 0,0)],O,M,X,Q)
def Jwk:Xv:=Jyg (fun r e=>[Jn r,1≤e.2.2.1.length,2≤e.2.2.2.1.length]) Ja3
def Kkr (a:List Sta) (b:Ls) (c:Li):=a++[(Z91 b,Z87 c,0)]
def Kjz (a:Ls) (b:Li) (c:List Sta):=T2 (Z99 a) (T2 (Z29 b) ((List.length c+1)*32≤140737488355328))
theorem Knf [Sx.Dr] (tk st:Int) (S:List Sta) (O:List Ord) (M:List Met) (X:List Out) (Q:List Per) (n:Int) (k:ByteArray) (ns:List ByteArray) (vs:List Int) (tx:ByteArray):wpFO Tryz.prog W72.g (na ()) (fun _=>na ()) (Sx.look ([]:List (Nat×Func))) Tryz.f149 Jwk 105 (tk,st,S,O,M,X,Q) ((n,k,ns,vs,tx),()):=by
 refine(by kernel_rfl:(Jx tk st S O M X Q→Y1 ns→Z45 vs→Kjz ns vs S∧Sf true (Sf 105 ((tk,st,Kkr S ns vs,O,M,X,Q)=Ja3 (Z65 tk st S O M X Q) (n,k,ns,vs,tx))))=_).mp ?_
 delta Z29 Z45 Z65 Z87 Z91 Z99 Y1 Jx Kkr Kjz Bd T2 Sf Ln B0
 intro hr
 have nS:S.length≤6:=hr.nS
 have nO:O.length≤32:=hr.nO
 have nM:M.length≤10000:=hr.nM
 have nX:X.length≤16:=hr.nX
 have nQ:Q.length≤16:=hr.nQ
 intros
 repeat' first|assumption|exact rfl|trivial|omega|exact K6|exact Uu|exact Ut|exact U0|apply And.intro|intro _
theorem Kp1 [Sx.Dr]:Ok Tryz.prog 149 (Xv.con Jwk):=X0 (Ue mixed W72.ok (by kernel_rfl) (by kernel_rfl) (Uy (l:=([]:List (Nat×Func))) (by simp)) (fun xx yy=>na ()) (fun xx yy=>fun _=>na ()) fun T xx yy hT=>by obtain rfl:=hT _ rfl;exact Knf xx.1 xx.2.1 xx.2.2.1 xx.2.2.2.1 xx.2.2.2.2.1 xx.2.2.2.2.2.1 xx.2.2.2.2.2.2 yy.1.1 yy.1.2.1 yy.1.2.2.1 yy.1.2.2.2.1 yy.1.2.2.2.2)
abbrev W73 [Sx.Dr]:=W72.add Kp1
def Fm:Reg→Ev→Reg:=fun(tk,st,S,O,M,X,Q) (n,k,ns,vs,tx)=>(tk,st,S.set (J0 S (ns.getD 0 Ja)).toNat ((Ho S (ns.getD 0 Ja)).1,(Ho S (ns.getD 0 Ja)).2.1,vs.getD 1 0),O,M,X,Q)
def Jwh:Xv:=Jyg (fun r e=>[Jn r,1≤e.2.2.1.length,2≤e.2.2.2.1.length,0≤J0 r.2.2.1 (e.2.2.1.getD 0 Ja)]) Fm
def J32 (a:List Sta) (b:Ls):=J0 a (Z91 b)
def K1i (a:List Sta) (b:Ls):=Gt a (J32 a b) Z9
theorem Kne [Sx.Dr] (tk st:Int) (S:List Sta) (O:List Ord) (M:List Met) (X:List Out) (Q:List Per) (n:Int) (k:ByteArray) (ns:List ByteArray) (vs:List Int) (tx:ByteArray):wpFO Tryz.prog W73.g (na ()) (fun _=>na ()) (Sx.look ([]:List (Nat×Func))) Tryz.f153 Jwh 105 (tk,st,S,O,M,X,Q) ((n,k,ns,vs,tx),()):=by
 refine(by kernel_rfl:(Jx tk st S O M X Q→Y1 ns→Z45 vs→0≤J0 S (L1 ns)→T2 (Z99 ns) (Z59 S∧T2 (Z29 vs) (Tw (Bd (J32 S ns) (Ln S))))∧Sf true (Sf 105 ((tk,st,List.set S (Int.toNat (J32 S ns)) ((K1i S ns).1,(K1i S ns).2.1,Z87 vs),O,M,X,Q)=Fm (Z65 tk st S O M X Q) (n,k,ns,vs,tx))))=_).mp ?_
 delta Z9 Z29 Z45 Z59 Z65 Z87 Z91 Z99 L1 Y1 Jx J32 K1i Bd T2 Tw Sf Ln Gt B0
 intro hr
 have nS:S.length≤6:=hr.nS
 have nO:O.length≤32:=hr.nO
 have nM:M.length≤10000:=hr.nM
 have nX:X.length≤16:=hr.nX
 have nQ:Q.length≤16:=hr.nQ
 intros
 repeat' first|assumption|exact rfl|trivial|omega|exact K6|exact Uu|exact Ut|exact U0|apply And.intro|intro _
theorem Kpx [Sx.Dr]:Ok Tryz.prog 153 (Xv.con Jwh):=X0 (Ue mixed W73.ok (by kernel_rfl) (by kernel_rfl) (Uy (l:=([]:List (Nat×Func))) (by simp)) (fun xx yy=>na ()) (fun xx yy=>fun _=>na ()) fun T xx yy hT=>by obtain rfl:=hT _ rfl;exact Kne xx.1 xx.2.1 xx.2.2.1 xx.2.2.2.1 xx.2.2.2.2.1 xx.2.2.2.2.2.1 xx.2.2.2.2.2.2 yy.1.1 yy.1.2.1 yy.1.2.2.1 yy.1.2.2.2.1 yy.1.2.2.2.2)
abbrev W74 [Sx.Dr]:=W73.add Kpx
def Fq:Reg→Ev→Reg:=fun(tk,st,S,O,M,X,Q) (n,k,ns,vs,tx)=>(tk,st,S,O++[(ns.getD 0 Ja,ns.getD 1 Ja,ns.getD 2 Ja,Vt (n,k,ns,vs,tx),vs.getD 3 0,(Ho S (ns.getD 1 Ja)).2.2,-1)],M,X,Q)
def Jwm:Xv:=Jyg (fun r e=>[Jn r,e.2.2.1.length=3,e.2.2.2.1.length=4,0≤J0 r.2.2.1 (e.2.2.1.getD 1 Ja)]) Fq
theorem Knd [Sx.Dr] (tk st:Int) (S:List Sta) (O:List Ord) (M:List Met) (X:List Out) (Q:List Per) (n:Int) (k:ByteArray) (ns:List ByteArray) (vs:List Int) (tx:ByteArray):wpFO Tryz.prog W74.g (na ()) (fun _=>na ()) (Sx.look ([]:List (Nat×Func))) Tryz.f155 Jwm 105 (tk,st,S,O,M,X,Q) ((n,k,ns,vs,tx),()):=by
 refine(by kernel_rfl:(Jx tk st S O M X Q→Js8 ns→Z49 vs→J99 S ns→T2 (Z99 ns) (T2 (Jd4 ns) (T2 (Z93 ns) (Z48 vs∧T2 (Z28 vs) (T2 (Jd4 ns) (Z59 S∧J3v S ns∧(List.length O+1)*88≤140737488355328)))))∧Sf true (Sf 105 ((tk,st,S,O++[(Z91 ns,Lg ns,Z88 ns,E2 (Z60 n k ns vs tx),Z92 vs,(Ho S (Lg ns)).2.2,Z69)],M,X,Q)=Fq (Z65 tk st S O M X Q) (n,k,ns,vs,tx))))=_).mp ?_
 delta Z28 Z48 Z49 Z59 Z60 Z65 Z69 Z88 Z91 Z92 Z93 Z99 Jd4 Lg Jj4 Js8 Jx Jyw J3v J99 Bd T2 Sf Ln B0 E2
 intro hr
 have nS:S.length≤6:=hr.nS
 have nO:O.length≤32:=hr.nO
 have nM:M.length≤10000:=hr.nM
 have nX:X.length≤16:=hr.nX
 have nQ:Q.length≤16:=hr.nQ
 intros
 repeat' first|assumption|exact rfl|trivial|omega|exact K6|exact Uu|exact Ut|exact U0|apply And.intro|intro _
theorem Kpv [Sx.Dr]:Ok Tryz.prog 155 (Xv.con Jwm):=X0 (Ue mixed W74.ok (by kernel_rfl) (by kernel_rfl) (Uy (l:=([]:List (Nat×Func))) (by simp)) (fun xx yy=>na ()) (fun xx yy=>fun _=>na ()) fun T xx yy hT=>by obtain rfl:=hT _ rfl;exact Knd xx.1 xx.2.1 xx.2.2.1 xx.2.2.2.1 xx.2.2.2.2.1 xx.2.2.2.2.2.1 xx.2.2.2.2.2.2 yy.1.1 yy.1.2.1 yy.1.2.2.1 yy.1.2.2.2.1 yy.1.2.2.2.2)
abbrev W75 [Sx.Dr]:=W74.add Kpv
def Fr:Reg→Ev→Reg:=fun(tk,st,S,O,M,X,Q) (n,k,ns,vs,tx)=>(tk,st,S,O,M++[(ns.getD 0 Ja,vs.getD 1 0,vs.getD 2 0,vs.getD 3 0)],X,Q)
def Jwn:Xv:=Jyg (fun r e=>[Jn r,1≤e.2.2.1.length,4≤e.2.2.2.1.length]) Fr
def Kki (a:Li):=(Z87 a,Jmc a,Z92 a)
def Kiz (a:Li) (b:List Met):=T2 (Z29 a) (T2 (Z23 a) (T2 (Z28 a) ((List.length b+1)*40≤140737488355328)))
theorem Knc [Sx.Dr] (tk st:Int) (S:List Sta) (O:List Ord) (M:List Met) (X:List Out) (Q:List Per) (n:Int) (k:ByteArray) (ns:List ByteArray) (vs:List Int) (tx:ByteArray):wpFO Tryz.prog W75.g (na ()) (fun _=>na ()) (Sx.look ([]:List (Nat×Func))) Tryz.f158 Jwn 105 (tk,st,S,O,M,X,Q) ((n,k,ns,vs,tx),()):=by
 refine(by kernel_rfl:(Jx tk st S O M X Q→Y1 ns→Z55 vs→T2 (Z99 ns) (Kiz vs M)∧Sf true (Sf 105 ((tk,st,S,O,M++[(Z91 ns,Kki vs)],X,Q)=Fr (Z65 tk st S O M X Q) (n,k,ns,vs,tx))))=_).mp ?_
 delta Z23 Z28 Z29 Z55 Z65 Z87 Z91 Z92 Z99 Jmc Y1 Jx Kki Kiz Bd T2 Sf Ln B0
 intro hr
 have nS:S.length≤6:=hr.nS
 have nO:O.length≤32:=hr.nO
 have nM:M.length≤10000:=hr.nM
 have nX:X.length≤16:=hr.nX
 have nQ:Q.length≤16:=hr.nQ
 intros
 repeat' first|assumption|exact rfl|trivial|omega|exact K6|exact Uu|exact Ut|exact U0|apply And.intro|intro _
theorem Kps [Sx.Dr]:Ok Tryz.prog 158 (Xv.con Jwn):=X0 (Ue mixed W75.ok (by kernel_rfl) (by kernel_rfl) (Uy (l:=([]:List (Nat×Func))) (by simp)) (fun xx yy=>na ()) (fun xx yy=>fun _=>na ()) fun T xx yy hT=>by obtain rfl:=hT _ rfl;exact Knc xx.1 xx.2.1 xx.2.2.1 xx.2.2.2.1 xx.2.2.2.2.1 xx.2.2.2.2.2.1 xx.2.2.2.2.2.2 yy.1.1 yy.1.2.1 yy.1.2.2.1 yy.1.2.2.2.1 yy.1.2.2.2.2)
abbrev W76 [Sx.Dr]:=W75.add Kps
def Fl:Reg→Ev→Reg:=fun(tk,st,S,O,M,X,Q) (n,k,ns,vs,tx)=>(tk,st,S,V6 O (ns.getD 0 Ja) (vs.getD 0 0),M,X,Q)
def Jwf:Xv:=Jyg (fun r e=>[Jn r,1≤e.2.2.1.length,1≤e.2.2.2.1.length,0≤Kp r.2.2.2.1 (e.2.2.1.getD 0 Ja)]) Fl
def Kyg (a:List Ord) (b:Ls):=Gt a (Jqt a b) Jde
def Kx9 (a:List Ord) (b:Ls):=(Kyg a b).2
def Kx6 (a:List Ord) (b:Ls):=(Kx9 a b).2
def Kx1 (a:List Ord) (b:Ls):=(Kx6 a b).2
def Kxx (a:List Ord) (b:Ls):=(Kx1 a b).2
theorem Knb [Sx.Dr] (tk st:Int) (S:List Sta) (O:List Ord) (M:List Met) (X:List Out) (Q:List Per) (n:Int) (k:ByteArray) (ns:List ByteArray) (vs:List Int) (tx:ByteArray):wpFO Tryz.prog W76.g (na ()) (fun _=>na ()) (Sx.look ([]:List (Nat×Func))) Tryz.f160 Jwf 105 (tk,st,S,O,M,X,Q) ((n,k,ns,vs,tx),()):=by
 refine(by kernel_rfl:(Jx tk st S O M X Q→Y1 ns→Z54 vs→Js5 O ns→T2 (Z99 ns) (Z43 O∧T2 (Z30 vs) (Tw (Bd (Jqt O ns) (Ln O))))∧Sf true (Sf 105 ((tk,st,S,List.set O (Int.toNat (Jqt O ns)) ((Kyg O ns).1,(Kx9 O ns).1,(Kx6 O ns).1,E2 (Kx1 O ns).1,(Kxx O ns).1,(Kxx O ns).2.1,Z85 vs),M,X,Q)=Fl (Z65 tk st S O M X Q) (n,k,ns,vs,tx))))=_).mp ?_
 delta Z30 Z43 Z54 Z65 Z73 Z85 Z91 Z99 L1 Y1 Jx Jqt Js5 Jde Kyg Kx9 Kx6 Kx1 Kxx Bd T2 Tw Sf Ln Gt B0 E2
 intro hr
 have nS:S.length≤6:=hr.nS
 have nO:O.length≤32:=hr.nO
 have nM:M.length≤10000:=hr.nM
 have nX:X.length≤16:=hr.nX
 have nQ:Q.length≤16:=hr.nQ
 intros
 repeat' first|assumption|exact rfl|trivial|omega|exact K6|exact Uu|exact Ut|exact U0|apply And.intro|intro _
theorem Kpq [Sx.Dr]:Ok Tryz.prog 160 (Xv.con Jwf):=X0 (Ue mixed W76.ok (by kernel_rfl) (by kernel_rfl) (Uy (l:=([]:List (Nat×Func))) (by simp)) (fun xx yy=>na ()) (fun xx yy=>fun _=>na ()) fun T xx yy hT=>by obtain rfl:=hT _ rfl;exact Knb xx.1 xx.2.1 xx.2.2.1 xx.2.2.2.1 xx.2.2.2.2.1 xx.2.2.2.2.2.1 xx.2.2.2.2.2.2 yy.1.1 yy.1.2.1 yy.1.2.2.1 yy.1.2.2.2.1 yy.1.2.2.2.2)
abbrev W77 [Sx.Dr]:=W76.add Kpq
def Fo:Reg→Ev→Reg:=fun(tk,st,S,O,M,X,Q) (n,k,ns,vs,tx)=>(tk,st,S,O,M,X++[(ns.getD 0 Ja,ns.getD 1 Ja,Vt (n,k,ns,vs,tx),vs.getD 3 0)],Q)
def Jwj:Xv:=Jyg (fun r e=>[Jn r,e.2.2.1.length=2,e.2.2.2.1.length=4]) Fo
def Kld (a:Li) (b:List Out):=T2 (Z28 a) ((List.length b+1)*56≤140737488355328)
theorem Kna [Sx.Dr] (tk st:Int) (S:List Sta) (O:List Ord) (M:List Met) (X:List Out) (Q:List Per) (n:Int) (k:ByteArray) (ns:List ByteArray) (vs:List Int) (tx:ByteArray):wpFO Tryz.prog W77.g (na ()) (fun _=>na ()) (Sx.look ([]:List (Nat×Func))) Tryz.f162 Jwj 105 (tk,st,S,O,M,X,Q) ((n,k,ns,vs,tx),()):=by
 refine(by kernel_rfl:(Jx tk st S O M X Q→Jqv ns→Z49 vs→T2 (Z99 ns) (T2 (Jd4 ns) (Z48 vs∧Kld vs X))∧Sf true (Sf 105 ((tk,st,S,O,M,X++[(Z91 ns,Lg ns,E2 (Z60 n k ns vs tx),Z92 vs)],Q)=Fo (Z65 tk st S O M X Q) (n,k,ns,vs,tx))))=_).mp ?_
 delta Z28 Z48 Z49 Z60 Z65 Z91 Z92 Z99 Jd4 Lg Jqv Jx Kld Bd T2 Sf Ln B0 E2
 intro hr
 have nS:S.length≤6:=hr.nS
 have nO:O.length≤32:=hr.nO
 have nM:M.length≤10000:=hr.nM
 have nX:X.length≤16:=hr.nX
 have nQ:Q.length≤16:=hr.nQ
 intros
 repeat' first|assumption|exact rfl|trivial|omega|exact K6|exact Uu|exact Ut|exact U0|apply And.intro|intro _
theorem Kpo [Sx.Dr]:Ok Tryz.prog 162 (Xv.con Jwj):=X0 (Ue mixed W77.ok (by kernel_rfl) (by kernel_rfl) (Uy (l:=([]:List (Nat×Func))) (by simp)) (fun xx yy=>na ()) (fun xx yy=>fun _=>na ()) fun T xx yy hT=>by obtain rfl:=hT _ rfl;exact Kna xx.1 xx.2.1 xx.2.2.1 xx.2.2.2.1 xx.2.2.2.2.1 xx.2.2.2.2.2.1 xx.2.2.2.2.2.2 yy.1.1 yy.1.2.1 yy.1.2.2.1 yy.1.2.2.2.1 yy.1.2.2.2.2)
abbrev W78 [Sx.Dr]:=W77.add Kpo
def Fn:Reg→Ev→Reg:=fun(tk,st,S,O,M,X,Q) (n,k,ns,vs,tx)=>(tk,st,S,O,M,Jed X (ns.getD 0 Ja) (vs.getD 0 0),Q)
def Jwi:Xv:=Jyg (fun r e=>[Jn r,1≤e.2.2.1.length,1≤e.2.2.2.1.length,0≤J7 r.2.2.2.2.2.1 (e.2.2.1.getD 0 Ja)]) Fn
def K0t (a:List Out) (b:Ls):=Gt a (Js7 a b) Jgf
def K0r (a:List Out) (b:Ls):=(K0t a b).2
def K0o (a:List Out) (b:Ls):=(K0r a b).2
theorem Km9 [Sx.Dr] (tk st:Int) (S:List Sta) (O:List Ord) (M:List Met) (X:List Out) (Q:List Per) (n:Int) (k:ByteArray) (ns:List ByteArray) (vs:List Int) (tx:ByteArray):wpFO Tryz.prog W78.g (na ()) (fun _=>na ()) (Sx.look ([]:List (Nat×Func))) Tryz.f165 Jwi 105 (tk,st,S,O,M,X,Q) ((n,k,ns,vs,tx),()):=by
 refine(by kernel_rfl:(Jx tk st S O M X Q→Y1 ns→Z54 vs→J1r X ns→T2 (Z99 ns) (Z58 X∧T2 (Z30 vs) (Tw (Bd (Js7 X ns) (Ln X))))∧Sf true (Sf 105 ((tk,st,S,O,M,List.set X (Int.toNat (Js7 X ns)) ((K0t X ns).1,(K0r X ns).1,((K0o X ns).1.1,Z85 vs),(K0o X ns).2),Q)=Fn (Z65 tk st S O M X Q) (n,k,ns,vs,tx))))=_).mp ?_
 delta Z30 Z54 Z58 Z65 Z85 Z91 Z99 L1 Y1 Jx Jgf Js7 J1r K0t K0r K0o Bd T2 Tw Sf Ln Gt B0
 intro hr
 have nS:S.length≤6:=hr.nS
 have nO:O.length≤32:=hr.nO
 have nM:M.length≤10000:=hr.nM
 have nX:X.length≤16:=hr.nX
 have nQ:Q.length≤16:=hr.nQ
 intros
 repeat' first|assumption|exact rfl|trivial|omega|exact K6|exact Uu|exact Ut|exact U0|apply And.intro|intro _
theorem Kpl [Sx.Dr]:Ok Tryz.prog 165 (Xv.con Jwi):=X0 (Ue mixed W78.ok (by kernel_rfl) (by kernel_rfl) (Uy (l:=([]:List (Nat×Func))) (by simp)) (fun xx yy=>na ()) (fun xx yy=>fun _=>na ()) fun T xx yy hT=>by obtain rfl:=hT _ rfl;exact Km9 xx.1 xx.2.1 xx.2.2.1 xx.2.2.2.1 xx.2.2.2.2.1 xx.2.2.2.2.2.1 xx.2.2.2.2.2.2 yy.1.1 yy.1.2.1 yy.1.2.2.1 yy.1.2.2.2.1 yy.1.2.2.2.2)
abbrev W79 [Sx.Dr]:=W78.add Kpl
def Fp:Reg→Ev→Reg:=fun(tk,st,S,O,M,X,Q) (n,k,ns,vs,tx)=>(tk,st,S,O,M,X,Q++[(ns.getD 0 Ja,ns.getD 1 Ja,true)])
def Jwl:Xv:=Jyg (fun r e=>[Jn r,2≤e.2.2.1.length]) Fp
def Kkp (a:List Out) (b:List Per) (c:Ls):=(a,b++[(Z91 c,Lg c,true)])
def Kjm (a:Ls) (b:List Per):=T2 (Z99 a) (T2 (Jd4 a) ((List.length b+1)*40≤140737488355328))
theorem Km8 [Sx.Dr] (tk st:Int) (S:List Sta) (O:List Ord) (M:List Met) (X:List Out) (Q:List Per) (n:Int) (k:ByteArray) (ns:List ByteArray) (vs:List Int) (tx:ByteArray):wpFO Tryz.prog W79.g (na ()) (fun _=>na ()) (Sx.look ([]:List (Nat×Func))) Tryz.f167 Jwl 105 (tk,st,S,O,M,X,Q) ((n,k,ns,vs,tx),()):=by
 refine(by kernel_rfl:(Jx tk st S O M X Q→Jy0 ns→Kjm ns Q∧Sf true (Sf 105 ((tk,st,S,O,M,Kkp X Q ns)=Fp (Z65 tk st S O M X Q) (n,k,ns,vs,tx))))=_).mp ?_
 delta Z65 Z91 Z99 Jd4 Lg Jy0 Jx Kkp Kjm Bd T2 Sf Ln B0
 intro hr
 have nS:S.length≤6:=hr.nS
 have nO:O.length≤32:=hr.nO
 have nM:M.length≤10000:=hr.nM
 have nX:X.length≤16:=hr.nX
 have nQ:Q.length≤16:=hr.nQ
 intros
 repeat' first|assumption|exact rfl|trivial|omega|exact K6|exact Uu|exact Ut|exact U0|apply And.intro|intro _
theorem Kpj [Sx.Dr]:Ok Tryz.prog 167 (Xv.con Jwl):=X0 (Ue mixed W79.ok (by kernel_rfl) (by kernel_rfl) (Uy (l:=([]:List (Nat×Func))) (by simp)) (fun xx yy=>na ()) (fun xx yy=>fun _=>na ()) fun T xx yy hT=>by obtain rfl:=hT _ rfl;exact Km8 xx.1 xx.2.1 xx.2.2.1 xx.2.2.2.1 xx.2.2.2.2.1 xx.2.2.2.2.2.1 xx.2.2.2.2.2.2 yy.1.1 yy.1.2.1 yy.1.2.2.1 yy.1.2.2.2.1 yy.1.2.2.2.2)
abbrev W80 [Sx.Dr]:=W79.add Kpj
def Jgs:Reg→Ev→Reg:=fun(tk,st,S,O,M,X,Q) (n,k,ns,vs,tx)=>(tk,st,S,O,M,X,Fz Q (ns.getD 0 Ja))
def J3b:Xv:=Jyg (fun r e=>[Jn r,1≤e.2.2.1.length,0≤U2 r.2.2.2.2.2.2 (e.2.2.1.getD 0 Ja)]) Jgs
theorem Km7 [Sx.Dr] (tk st:Int) (S:List Sta) (O:List Ord) (M:List Met) (X:List Out) (Q:List Per) (n:Int) (k:ByteArray) (ns:List ByteArray) (vs:List Int) (tx:ByteArray):wpFO Tryz.prog W80.g (na ()) (fun _=>na ()) (Sx.look ([]:List (Nat×Func))) Tryz.f170 J3b 105 (tk,st,S,O,M,X,Q) ((n,k,ns,vs,tx),()):=by
 refine(by kernel_rfl:(Jx tk st S O M X Q→Y1 ns→J1s Q ns→T2 (Z99 ns) (Z50 Q∧Tw (Bd (Jsi Q ns) (Ln Q)))∧Sf true (Sf 105 ((tk,st,S,O,M,X,List.set Q (Int.toNat (Jsi Q ns)) ((Gt Q (Jsi Q ns) (B0,B0,false)).1,(Gt Q (Jsi Q ns) (B0,B0,false)).2.1,false))=Jgs (Z65 tk st S O M X Q) (n,k,ns,vs,tx))))=_).mp ?_
 delta Z50 Z65 Z91 Z99 L1 Y1 Jx Jsi J1s Bd T2 Tw Sf Ln Gt B0
 intro hr
 have nS:S.length≤6:=hr.nS
 have nO:O.length≤32:=hr.nO
 have nM:M.length≤10000:=hr.nM
 have nX:X.length≤16:=hr.nX
 have nQ:Q.length≤16:=hr.nQ
 intros
 repeat' first|assumption|exact rfl|trivial|omega|exact K6|exact Uu|exact Ut|exact U0|apply And.intro|intro _
theorem Kpg [Sx.Dr]:Ok Tryz.prog 170 (Xv.con J3b):=X0 (Ue mixed W80.ok (by kernel_rfl) (by kernel_rfl) (Uy (l:=([]:List (Nat×Func))) (by simp)) (fun xx yy=>na ()) (fun xx yy=>fun _=>na ()) fun T xx yy hT=>by obtain rfl:=hT _ rfl;exact Km7 xx.1 xx.2.1 xx.2.2.1 xx.2.2.2.1 xx.2.2.2.2.1 xx.2.2.2.2.2.1 xx.2.2.2.2.2.2 yy.1.1 yy.1.2.1 yy.1.2.2.1 yy.1.2.2.2.1 yy.1.2.2.2.2)
abbrev W81 [Sx.Dr]:=W80.add Kpg
def Ja2:Reg→Ev→Reg:=fun(tk,st,S,O,M,X,Q) (n,k,ns,vs,tx)=>(tk,vs.getD 1 0,S,O,M,X,Q)
def Jwg:Xv:=Jyg (fun r e=>[Jn r,2≤e.2.2.2.1.length]) Ja2
theorem Km6 [Sx.Dr] (tk st:Int) (S:List Sta) (O:List Ord) (M:List Met) (X:List Out) (Q:List Per) (n:Int) (k:ByteArray) (ns:List ByteArray) (vs:List Int) (tx:ByteArray):wpFO Tryz.prog W81.g (na ()) (fun _=>na ()) (Sx.look ([]:List (Nat×Func))) Tryz.f172 Jwg 105 (tk,st,S,O,M,X,Q) ((n,k,ns,vs,tx),()):=by
 refine(by kernel_rfl:(Jx tk st S O M X Q→Z45 vs→Jqw vs∧Sf true (Sf 105 ((tk,Z87 vs,S,O,M,X,Q)=Ja2 (Z65 tk st S O M X Q) (n,k,ns,vs,tx))))=_).mp ?_
 delta Z29 Z45 Z65 Z87 Jqw Jx Bd Tw Sf Ln
 intro hr
 have nS:S.length≤6:=hr.nS
 have nO:O.length≤32:=hr.nO
 have nM:M.length≤10000:=hr.nM
 have nX:X.length≤16:=hr.nX
 have nQ:Q.length≤16:=hr.nQ
 intros
 repeat' first|assumption|exact rfl|trivial|omega|exact K6|exact Uu|exact Ut|exact U0|apply And.intro|intro _
theorem Kpe [Sx.Dr]:Ok Tryz.prog 172 (Xv.con Jwg):=X0 (Ue mixed W81.ok (by kernel_rfl) (by kernel_rfl) (Uy (l:=([]:List (Nat×Func))) (by simp)) (fun xx yy=>na ()) (fun xx yy=>fun _=>na ()) fun T xx yy hT=>by obtain rfl:=hT _ rfl;exact Km6 xx.1 xx.2.1 xx.2.2.1 xx.2.2.2.1 xx.2.2.2.2.1 xx.2.2.2.2.2.1 xx.2.2.2.2.2.2 yy.1.1 yy.1.2.1 yy.1.2.2.1 yy.1.2.2.2.1 yy.1.2.2.2.2)
abbrev W82 [Sx.Dr]:=W81.add Kpe
end Go.Proofs.YtcibbcfiemeoiaaGreatDoor
namespace Go.Proofs.YtcibbcfiemeoiaaGreatDoor
instance drOff:Sx.Dr:=Sx.Dr.off
open Go.Sx
def Jc1 (T:TypeId) (s:Sch):Con:={args:=[.val false (.list T s)],ress:=[(false, .list T s)],owns:=[true],pre:=fun(l,_)=>[l.length≤1000000],spec:=fun(l,_)=>(l,())}
theorem Jk6 {M:Nat→Prop} {w:World}:∀{xs:List Int} {flat:List Value},Ya (Rep M w (.int .i64)) xs flat→flat=xs.map (Value.int .i64)
 |[],_,h=>h
 |x::xs,_,⟨c1,c2,rfl,h1,h2⟩=>by
  have h1:c1=[.int .i64 x]:=h1
  rw[h1,Jk6 h2];rfl
theorem Jo6 {M:Nat→Prop} {w:World}:∀(xs:List Int),Ya (Rep M w (.int .i64)) xs (xs.map (Value.int .i64))
 |[]=>rfl
 |x::xs=>⟨[.int .i64 x],xs.map (Value.int .i64),rfl,rfl,Jo6 xs⟩
theorem Jej {M:Nat→Prop} {w:World}:∀{xs:List ByteArray} {flat:List Value},Ya (Rep M w .str) xs flat→flat=xs.map Value.string
 |[],_,h=>h
 |x::xs,_,⟨c1,c2,rfl,h1,h2⟩=>by
  have h1:c1=[.string x]:=h1
  rw[h1,Jej h2];rfl
theorem Jo5 {M:Nat→Prop} {w:World}:∀(xs:List ByteArray),Ya (Rep M w .str) xs (xs.map Value.string)
 |[]=>rfl
 |x::xs=>⟨[.string x],xs.map Value.string,rfl,rfl,Jo5 xs⟩
theorem Kpc:Ok Tryz.prog 174 (Jc1 3 sI):=by
 refine⟨⟨Tryz.f174,by kernel_rfl,by kernel_rfl,by kernel_rfl⟩,fun z hz=>(by cases hz),fun F hF=>(by cases hF),fun _ x M R w vs hM hg hpre hargs=> ?_⟩
 obtain⟨l,u⟩:=x
 obtain⟨v1,vs1,rfl,⟨cs,rfl,hr⟩,hn⟩:=hargs
 have hn:vs1=[]:=hn
 subst hn
 obtain⟨v,flat,rfl,h1,h2⟩:=hr
 have hfl:=Jk6 h1
 have hl:l.length≤1000000:=hpre
 have fin:∀(v':Value) (w':World),w'.ownsRow w.heap.size 3 1 v' l.length (l.map (Value.int .i64))→RowKit.Below w.heap.size w w'→Joj M w (Jc1 3 sI).ress (Jc1 3 sI).owns ((Jc1 3 sI).spec (l,u)) (.returned v') w':=by
  intro v' w' ho hb
  refine⟨M,[v'],rfl, .ofK hb,fun _ h=>h,fun b h=> .inl h,_,[],rfl,⟨l.map (Value.int .i64),Jo6 l,ho,fun g hg' hMg=> ?_⟩,rfl⟩
  rcases ho.2 with⟨rfl,_⟩|⟨g',cap,cur,rfl,hbg,_⟩
  ·cases hg'
  ·have:g'=g:=Option.some.inj hg'
   have:=hM g (.inl hMg)
   omega
 rcases h2 with⟨rfl|⟨ad,cap,rfl⟩,h0⟩|⟨b,off,cap,rfl,hcap,hk,hm⟩
 ·have:l=[]:=List.eq_nil_of_length_eq_zero h0
  subst this
  refine(Tryz.clone174_nil 0 0 w).mono ?_
  rintro e w' ⟨rfl,rfl⟩
  exact fin _ _ ⟨rfl, .inl ⟨rfl,rfl⟩⟩ (RowKit.Below.refl _ _)
 ·have:l=[]:=List.eq_nil_of_length_eq_zero h0
  subst this
  refine(Tryz.clone174_zero ad cap w).mono ?_
  rintro e w' ⟨v',rfl,ho,_,hb⟩
  exact fin _ _ ho hb
 ·refine(Tryz.clone174 b off l.length cap l w (Nat.le_refl _) (by omega) (fun j hj=>hk j _ (by rw[hfl,List.getElem?_map,List.getElem?_eq_getElem hj];simp[List.getD_eq_getElem?_getD,List.getElem?_eq_getElem hj]))).mono ?_
  rintro e w' ⟨v',rfl,ho,_,hb⟩
  rw[List.take_of_length_le (Nat.le_refl _)] at ho
  exact fin _ _ ho hb
abbrev W83:=W82.add Kpc
theorem Kpd:Ok Tryz.prog 173 (Jc1 9 .str):=by
 refine⟨⟨Tryz.f173,by kernel_rfl,by kernel_rfl,by kernel_rfl⟩,fun z hz=>(by cases hz),fun F hF=>(by cases hF),fun _ x M R w vs hM hg hpre hargs=> ?_⟩
 obtain⟨l,u⟩:=x
 obtain⟨v1,vs1,rfl,⟨cs,rfl,hr⟩,hn⟩:=hargs
 have hn:vs1=[]:=hn
 subst hn
 obtain⟨v,flat,rfl,h1,h2⟩:=hr
 have hfl:=Jej h1
 have hl:l.length≤1000000:=hpre
 have fin:∀(v':Value) (w':World),w'.ownsRow w.heap.size 9 1 v' l.length (l.map Value.string)→RowKit.Below w.heap.size w w'→Joj M w (Jc1 9 .str).ress (Jc1 9 .str).owns ((Jc1 9 .str).spec (l,u)) (.returned v') w':=by
  intro v' w' ho hb
  refine⟨M,[v'],rfl, .ofK hb,fun _ h=>h,fun b h=> .inl h,_,[],rfl,⟨l.map Value.string,Jo5 l,ho,fun g hg' hMg=> ?_⟩,rfl⟩
  rcases ho.2 with⟨rfl,_⟩|⟨g',cap,cur,rfl,hbg,_⟩
  ·cases hg'
  ·have:g'=g:=Option.some.inj hg'
   have:=hM g (.inl hMg)
   omega
 rcases h2 with⟨rfl|⟨ad,cap,rfl⟩,h0⟩|⟨b,off,cap,rfl,hcap,hk,hm⟩
 ·have:l=[]:=List.eq_nil_of_length_eq_zero h0
  subst this
  refine(Tryz.clone173_nil 0 0 w).mono ?_
  rintro e w' ⟨rfl,rfl⟩
  exact fin _ _ ⟨rfl, .inl ⟨rfl,rfl⟩⟩ (RowKit.Below.refl _ _)
 ·have:l=[]:=List.eq_nil_of_length_eq_zero h0
  subst this
  refine(Tryz.clone173_zero ad cap w).mono ?_
  rintro e w' ⟨v',rfl,ho,_,hb⟩
  exact fin _ _ ho hb
 ·refine(Tryz.clone173 b off l.length cap l w (Nat.le_refl _) (by omega) (fun j hj=>hk j _ (by rw[hfl,List.getElem?_map,List.getElem?_eq_getElem hj];simp[List.getD_eq_getElem?_getD,List.getElem?_eq_getElem hj]))).mono ?_
  rintro e w' ⟨v',rfl,ho,_,hb⟩
  rw[List.take_of_length_le (Nat.le_refl _)] at ho
  exact fin _ _ ho hb
abbrev W84:=W83.add Kpd
def J28:Con:={args:=[aEv],ress:=[(true,sEv)],owns:=[],pre:=fun(e,_)=>[e.2.2.1.length≤1000000,e.2.2.2.1.length≤1000000],spec:=fun(e,_)=>(e,())}
def Jc6 (a:Ls) (b:Li):=Jag a∧Z51 b
theorem K17:Ok Tryz.prog 81 J28:=okW W84 Tryz.f81 na fun xx=>by
 obtain⟨⟨(n:Int),(k:ByteArray),(ns:List ByteArray),(vs:List Int),(tx:ByteArray)⟩,_⟩:=xx
 refine(by kernel_rfl:(Jag ns→Z51 vs→Jc6 ns vs∧(n,k,ns,vs,tx)=(n,k,ns,vs,tx))=_).mp ?_
 delta Z51 Jag Jc6
 exact fun h1 h2=>⟨⟨h1,h2⟩,rfl⟩
abbrev W85:=W84.add K17
def Jgv (T:TypeId) (s:Sch):Con:={args:=[.val false (.list T s)],ress:=[(false, .list T s)],owns:=[true],pre:=fun(l,_)=>[l.length≤1000000],spec:=fun(l,_)=>(l,())}
theorem Kbc:Ok Tryz.prog 216 (Jgv 127 Fd):=okW W85 Tryz.f216 na fun xx=>by
 obtain⟨(l:List Sta),_⟩:=xx
 refine(by kernel_rfl:(Z59 l→((0≤Ln l∧Ln l≤1000000)∧Ln l≤Ln l∧Ln l≤1000000)∧List.length l=List.length (List.replicate (List.length l) Z9)∧l=l)=_).mp ?_
 delta Z9 Z59 Ln B0
 intro h
 exact⟨⟨⟨by omega,by omega⟩,by omega,by omega⟩,by simp,rfl⟩
abbrev W86:=W85.add Kbc
theorem Kbb:Ok Tryz.prog 217 (Jgv 130 Lf):=okW W86 Tryz.f217 na fun xx=>by
 obtain⟨(l:List Ord),_⟩:=xx
 refine(by kernel_rfl:(Z43 l→((0≤Ln l∧Ln l≤1000000)∧Ln l≤Ln l∧Ln l≤1000000)∧List.length l=List.length (List.replicate (List.length l) Jde)∧l=l)=_).mp ?_
 delta Z43 Z73 Jde Ln B0
 intro h
 exact⟨⟨⟨by omega,by omega⟩,by omega,by omega⟩,by simp,rfl⟩
abbrev W87:=W86.add Kbb
theorem Kba:Ok Tryz.prog 218 (Jgv 155 Jah):=okW W87 Tryz.f218 na fun xx=>by
 obtain⟨(l:List Met),_⟩:=xx
 refine(by kernel_rfl:(List.length l≤1000000→((0≤Ln l∧Ln l≤1000000)∧Ln l≤Ln l∧Ln l≤1000000)∧List.length l=List.length (List.replicate (List.length l) Jyz)∧l=l)=_).mp ?_
 delta Z73 Jyz Ln B0
 intro h
 exact⟨⟨⟨by omega,by omega⟩,by omega,by omega⟩,by simp,rfl⟩
abbrev W88:=W87.add Kba
theorem Ka9:Ok Tryz.prog 219 (Jgv 188 Zg):=okW W88 Tryz.f219 na fun xx=>by
 obtain⟨(l:List Out),_⟩:=xx
 refine(by kernel_rfl:(Z58 l→((0≤Ln l∧Ln l≤1000000)∧Ln l≤Ln l∧Ln l≤1000000)∧List.length l=List.length (List.replicate (List.length l) Jgf)∧l=l)=_).mp ?_
 delta Z58 Jgf Ln B0
 intro h
 exact⟨⟨⟨by omega,by omega⟩,by omega,by omega⟩,by simp,rfl⟩
abbrev W89:=W88.add Ka9
theorem Ka8:Ok Tryz.prog 220 (Jgv 235 Hm):=okW W89 Tryz.f220 na fun xx=>by
 obtain⟨(l:List Per),_⟩:=xx
 refine(by kernel_rfl:(Z50 l→((0≤Ln l∧Ln l≤1000000)∧Ln l≤Ln l∧Ln l≤1000000)∧List.length l=List.length (List.replicate (List.length l) (B0,B0,false))∧l=l)=_).mp ?_
 delta Z50 Ln B0
 intro h
 exact⟨⟨⟨by omega,by omega⟩,by omega,by omega⟩,by simp,rfl⟩
abbrev W90:=W89.add Ka8
end Go.Proofs.YtcibbcfiemeoiaaGreatDoor
namespace Go.Proofs.Tryz
open Go.Proofs.YtcibbcfiemeoiaaGreatDoor
def kindsU:List (ByteArray×K10):=[(Jp,[],0,none,none,none),
 (Ju,[(0,false)],2,some 148,some 149,some 150),
 (Ub,[(0,true)],2,some 152,some 153,some 150),
 (Kl,[(1,false),(0,true),(0,true)],4,some 154,some 155,some 156),
 (K7,[(1,true)],4,some 157,some 158,some 156),
 (Vp,[(1,true)],1,some 159,some 160,some 156),
 (Jv,[(2,false),(0,true)],4,some 161,some 162,some 163),
 (Js,[(2,true)],1,some 164,some 165,some 163),
 (Kf,[(3,false),(2,true)],1,some 166,some 167,some 168),
 (Ke,[(3,true)],1,some 169,some 170,some 168),
 (Jd,[],2,some 171,some 172,none)]
end Go.Proofs.Tryz
namespace Go.Proofs.YtcibbcfiemeoiaaGreatDoor
open Go.Sx
def J5z:Jmh:={kT:=9,gk:=false,gv:=true,ks:= .str,vs:=Ka1,l:=Tryz.kindsU}
theorem Knr:Ok Tryz.prog 80 (Jmh.con J5z):=Kns
abbrev W91:=W90.add Knr
abbrev Kb:=List Ev×List Ev×List Reg
abbrev Jit:Sch:= .prod (.list 67 sEv) (.prod (.list 67 sEv) (.list 105 Jj7))
def U1:Reg:=(0,0,[],[],[],[],[])
def ev0:Ev:=(0,Ja,[],[],Ja)
def J2 (G:List Reg):Reg:=G.getD (G.length-1) U1
structure Kd (h:Kb):Prop where
 nE:h.1.length≤1000
 nC:h.2.1.length≤h.1.length
 nG:h.2.2.length=h.2.1.length
 reg:∀r∈h.2.2,Jn r
def Km (r:Reg) (ns:List ByteArray):List (Int×Bool)→Nat→Bool
 |[],_=>false
 |(w,b)::l,i=>bif (bif b then !Vl r w (ns.getD i Ja) else false) then true else Km r ns l (i+1)
def Kx (r:Reg) (ns:List ByteArray):List (Int×Bool)→Nat→Bool
 |[],_=>false
 |(w,b)::l,i=>bif (bif !b then Vl r w (ns.getD i Ja) else false) then true else Kx r ns l (i+1)
def ckS (r:Reg) (e:Ev):Int:=match(Jj e.2.1).2.2.1 with
 |some 148=>Jl5 r.2.2.1 e.2.2.2.1
 |some 152=>Jn4 e.2.2.2.1
 |some 154=>Ja8 r.2.2.1 r.2.2.2.1 r.2.2.2.2.2.1 e
 |some 157=>Jjy r.2.2.2.1 r.2.2.2.2.1 e.2.2.1 e.2.2.2.1
 |some 159=>Jcy r.2.2.2.1 e.2.2.1 e.2.2.2.1
 |some 161=>Jb8 r.2.2.1 r.2.2.2.1 r.2.2.2.2.2.1 e
 |some 164=>Jcz r.2.2.2.2.2.1 r.2.2.2.2.2.2 e.2.2.1 e.2.2.2.1
 |some 166=>Jc0 r.2.2.2.2.2.1 r.2.2.2.2.2.2 e.2.2.1 e.2.2.2.1
 |some 169=>Jn3 r.2.2.2.2.2.2 e.2.2.1
 |some 171=>Zu r.2.1 r.2.2.2.1 r.2.2.2.2.1 r.2.2.2.2.2.1 r.2.2.2.2.2.2 e.2.2.2.1
 |_=>0
def La (h:Kb) (e:Ev):Int:=
 bif e.1 !=(h.1.length:Int)+1 then 11 else
 bif e.2.1.toList==Jp.toList then(bif (h.2.1.length:Int)==0 then 12 else bif (h.2.1.getD (h.2.1.length-1) ev0).2.1.toList==Jd.toList then 21 else 0) else
 bif decide (e.2.2.2.1.getD 0 0<(J2 h.2.2).1) then 22 else
 bif Km (J2 h.2.2) e.2.2.1 (Jj e.2.1).1 0 then 10 else
 bif Kx (J2 h.2.2) e.2.2.1 (Jj e.2.1).1 0 then 9 else ckS (J2 h.2.2) e
def Jp3:Xv:={T? :=none,s:=Jit,args:=[aEv],ress:=[I],pre:=fun h (e,_)=>[Kd h,Jc e=0],spec:=fun h (e,_)=>(La h e,()),post:=fun h _=>h}
abbrev Xi (m:Nat):Nat→Option Ann:=fun i=>if i=0∨i=2 then some {X:=Unit,σ:=fun _=>⟨0,[],[]⟩,inv:=fun _=>True,mu:=fun _=>0,un:=m} else none
def Jqh (h:Kb) (n:Int) (ns:List ByteArray) (vs:List Int) (roles:List (Int×Bool)) (ck:Int):Int:=
 bif n !=(h.1.length:Int)+1 then 11 else
 bif decide (vs.getD 0 0<(J2 h.2.2).1) then 22 else
 bif Km (J2 h.2.2) ns roles 0 then 10 else
 bif Kx (J2 h.2.2) ns roles 0 then 9 else ck
theorem V8 {h:Kb} {n:Int} {k:ByteArray} {ns:List ByteArray} {vs:List Int} {tx:ByteArray} (h1:(k.toList==Jp.toList)=false):La h (n,k,ns,vs,tx)=Jqh h n ns vs (Jj k).1 (ckS (J2 h.2.2) (n,k,ns,vs,tx)):=by
 unfold La Jqh
 dsimp only
 rw[h1];rfl
theorem K2:Jj Ju=([(0,false)],2,some 148,some 149,some 150):=by kernel_rfl
theorem U7:Jj Ub=([(0,true)],2,some 152,some 153,some 150):=by kernel_rfl
theorem Un:Jj Kl=([(1,false),(0,true),(0,true)],4,some 154,some 155,some 156):=by kernel_rfl
theorem Ud:Jj K7=([(1,true)],4,some 157,some 158,some 156):=by kernel_rfl
theorem Vd:Jj Vp=([(1,true)],1,some 159,some 160,some 156):=by kernel_rfl
theorem Ku:Jj Jv=([(2,false),(0,true)],4,some 161,some 162,some 163):=by kernel_rfl
theorem Kg:Jj Js=([(2,true)],1,some 164,some 165,some 163):=by kernel_rfl
theorem Kz:Jj Kf=([(3,false),(2,true)],1,some 166,some 167,some 168):=by kernel_rfl
theorem Ky:Jj Ke=([(3,true)],1,some 169,some 170,some 168):=by kernel_rfl
theorem Kt:Jj Jd=([],2,some 171,some 172,none):=by kernel_rfl
theorem F6:Jj Jp=([],0,none,none,none):=by kernel_rfl
theorem Jgq {r:Reg} {s:ByteArray}:Vl r 0 s=decide (0≤J0 r.2.2.1 s):=rfl
theorem Jgp {r:Reg} {s:ByteArray}:Vl r 1 s=decide (0≤Kp r.2.2.2.1 s):=rfl
theorem Jfc {r:Reg} {s:ByteArray}:Vl r 2 s=decide (0≤J7 r.2.2.2.2.2.1 s):=rfl
theorem Jgo {r:Reg} {s:ByteArray}:Vl r 3 s=decide (0≤U2 r.2.2.2.2.2.2 s):=rfl
structure J8y (e:Ev):Prop where
 num:1≤e.1∧e.1≤1000
 kind:Ym e.2.1=true
 nn:e.2.2.1.length=(Jj e.2.1).1.length
 nv:(e.2.2.2.1.length:Int)=(Jj e.2.1).2.1
 name:∀s∈e.2.2.1,Yl s=true
 val:EvV e
 txt:e.2.2.2.2.size=0
theorem Ua {l:List Int}:Jh l=0↔∀x∈l,x=0:=by
 induction l with
 |nil=>simp[Jh]
 |cons x l ih=>
  unfold Jh
  by_cases h:x=0
  ·rw[if_pos h,ih];simp[h]
  ·rw[if_neg h];simp[h]
theorem Va {n a b:Int}:Kh n a b=0↔a≤n∧n≤b:=by
 unfold Kh
 by_cases h1:n<a
 ·simp[h1];omega
 ·by_cases h2:b<n
  ·simp[h2]
  ·simp[h1,h2];omega
theorem K0 {e:Ev} (h:Jc e=0):J8y e:=by
 unfold Jc at h
 by_cases h1:Kh e.1 1 1000≠0
 ·rw[if_pos h1] at h;exact absurd h h1
 rw[if_neg h1] at h
 cases hk:Ym e.2.1 with
 |false=>rw[hk] at h;cases h
 | true =>
  rw[hk,cond_true] at h
  by_cases h2:e.2.2.1.length=(Jj e.2.1).1.length∧(e.2.2.2.1.length:Int)=(Jj e.2.1).2.1
  ·rw[if_pos h2] at h
   have h3:=Ua.1 h
   have n1:=Ua.1 (h3 _ (List.mem_cons_self ..))
   have n2:=Ua.1 (h3 _ (List.mem_cons_of_mem _ (List.mem_cons_self ..)))
   have n3:=h3 _ (List.mem_cons_of_mem _ (List.mem_cons_of_mem _ (List.mem_cons_self ..)))
   refine⟨Va.1 (by omega),hk,h2.1,h2.2,fun s hs=> ?_,fun v hv=>Va.1 (n2 _ (List.mem_map_of_mem hv)), ?_⟩
   ·have:=n1 _ (List.mem_map_of_mem hs)
    cases hn:Yl s with
    |true=>rfl
    |false=>rw[hn] at this;cases this
   ·by_cases h4:0<e.2.2.2.2.size
    ·rw[decide_eq_true h4] at n3;cases n3
    ·omega
  ·rw[if_neg h2] at h;cases h
theorem Y6 {h:Kb} (hh:Kd h):Jn (J2 h.2.2):=by
 unfold J2
 by_cases h0:0<h.2.2.length
 ·exact hh.reg _ (Je (by omega))
 ·have:h.2.2=[]:=List.eq_nil_of_length_eq_zero (by omega)
  rw[this]
  exact⟨by decide,by decide,by decide,by decide,by decide,by decide,by decide,fun _ h=>(by cases h),fun _ h=>(by cases h),fun _ h=>(by cases h),fun _ h=>(by cases h),fun _ h=>(by cases h),fun _ h=>(by cases h)⟩
theorem Kn {G:List Reg} (h:decide (0<(G.length:Int))=false):J2 G=U1:=by
 have h:¬0<(G.length:Int):=of_decide_eq_false h
 have:G=[]:=List.eq_nil_of_length_eq_zero (by omega)
 rw[this];rfl
theorem Hs:((0,0,[],[],[],[],[]):Reg)=U1:=rfl
theorem Jhe (G:List Reg):G.getD (G.length-1) U1=J2 G:=rfl
theorem Hz {E C:List Ev} {G:List Reg} {e:Ev} (hh:Kd (E,C,G)) (hc:Jc e=0):e.2.2.1.length=(Jj e.2.1).1.length∧(e.2.2.2.1.length:Int)=(Jj e.2.1).2.1∧Jn (J2 G)∧Jn U1∧E.length≤1000∧C.length≤E.length∧G.length=C.length∧((G.length:Int)-1).toNat=G.length-1∧EvV e:=
 have hE:=K0 hc
 ⟨hE.nn,hE.nv,Y6 hh,Y6 (h:=([],[],[])) ⟨by decide,by decide,rfl,fun _ h=>(by cases h)⟩,hh.nE,hh.nC,hh.nG,by omega,hE.val⟩
def Z1 (a:List Ev):=Ln a+1
def Z2 (a:Int) (b:Ls) (c:Li) (d:Bt):=(a,Jp,b,c,d)
def Z4 (a:List Ev):=Ln a==0
def Z5 (a:List Ev):=Ln a-1
def Z32:=Iw ((0:Int)+1)
def Z57:=Tw (Bd 0 0)
def Z63 (a:List Ev):=Iw (Z5 a)
def Z64 (a:List Ev):=Iw (Z1 a)
def Z94 (a:Li):=Tw (Z30 a)
def V2 (a:List Reg):=decide (0<Ln a)
def J34:=Z32∧False
def Jsh (a b:List Ev) (c:List Reg) (d:Int) (e:Ls) (f:Li) (g:Bt):=La (a,b,c) (Z2 d e f g)
def D9:Int×ByteArray×List ByteArray×List Int×ByteArray:=((0:Int),B0,[],[],B0)
def Jge (a:Li):=decide (Z85 a<0)
def L9:Int×List Sta×List Ord×List Met×List Out×List Per:=((0:Int),[],[],[],[],[])
def Jgc (a:Int) (b:List Ev):=a !=Z1 b
def Jgb (a:List Ev):=Z63 a∧Tw (Bd (Z5 a) (Ln a))
def V1 (a:List Reg):=Iw (Ln a-1)∧Tw (Bd (Ln a-1) (Ln a))
def Vr:=((0:Int),L9)
def Yt:=Jn Vr
def Jd1:=true=true→Yt
def Jbg:=false=true→Yt
def D7 (a:List Reg):=Gt a (Ln a-1) Vr
def D6 (a:List Reg):=(D7 a).2
def Jaf (a:List Reg):=(D7 a).1
def Fw (a:List Reg):=(D6 a).1
def Hq (a:List Reg):=(D6 a).2
def Hp (a:List Reg):=(Hq a).2
def Dc (a:List Reg):=(Hp a).2
def Hb (a:List Reg):=(Dc a).2
def J3m (a:Ls):=Vl Vr 0 (Z91 a)
def Jf9 (a:List Ev):=bif Lb (Gt a (Z5 a) D9).2.1 Jd then(21:Int) else(0:Int)
def J9f (a:Ls):=bif true then J3m a else false
def Jf8 (a:Li) (b:List Reg):=decide (Z85 a<Jaf b)
def Jf7 (a:Ls):=T2 (true=true→Z99 a) Jd1
def Jf6 (a:Ls):=T2 (false=true→Z99 a) Jbg
def Kvu (a:TypeId) (b c:List Ev) (d:List Reg) (e:Int) (f:Ls) (g:Li) (h:Bt):=Br false (Sf true (Sf a (Sf (b,c,d) (10=Jsh b c d e f g h)))) J34
def Fv (a:List Reg):=(Fw a,(Hq a).1,(Hp a).1,(Dc a).1,E2 (Hb a))
def Yf (a:List Reg):=(Jaf a,Fv a)
def Y0 (a:List Reg):=Jn (Yf a)
def Jdx (a:List Reg):=true=true→Y0 a
def Jcd (a:List Reg):=false=true→Y0 a
def Jmd (a:List Reg) (b:Ls):=Vl (Yf a) 0 (Z91 b)
def Jsq (a:List Reg) (b:Ls):=bif true then Jmd a b else false
def He (a:Ls) (b:List Reg):=T2 (true=true→Z99 a) (Jdx b)
def Hd (a:Ls) (b:List Reg):=T2 (false=true→Z99 a) (Jcd b)
variable (T:TypeId) (E C:List Ev) (G:List Reg) (tk st:Int) (S:List Sta) (O:List Ord) (M:List Met) (X:List Out) (Q:List Per) (n:Int) (ns:List ByteArray) (vs:List Int) (tx:ByteArray)
theorem Jq3:wpFO Tryz.prog W91.g (Xi 1) (fun _=>na ()) (Sx.look ([(75,Tryz.f75)]:List (Nat×Func))) Tryz.f130 Jp3 T (E,C,G) ((n,Jp,ns,vs,tx),()):=by
 refine(by kernel_rfl:(Kd (E,C,G)→Jc (Z2 n ns vs tx)=0→Z64 E∧Br (Jgc n E) (Sf true (Sf T (Sf (E,C,G) (11=Jsh E C G n ns vs tx)))) (Br true (Br (Z4 C) (Sf true (Sf T (Sf (E,C,G) (12=Jsh E C G n ns vs tx)))) (Jgb C∧Sf true (Sf T (Sf (E,C,G) (Jf9 C=Jsh E C G n ns vs tx))))) (Br (V2 G) (V1 G∧Z94 vs∧Br (Jf8 vs G) (Sf true (Sf T (Sf (E,C,G) (22=Jsh E C G n ns vs tx)))) (Br false (Z57∧Hd ns G∧Kvu T E C G n ns vs tx) (Br false (Z57∧He ns G∧Br (Jsq G ns) (Sf true (Sf T (Sf (E,C,G) (9=Jsh E C G n ns vs tx)))) J34) (False∧Sf true False)))) (Z94 vs∧Br (Jge vs) (Sf true (Sf T (Sf (E,C,G) (22=Jsh E C G n ns vs tx)))) (Br false (Z57∧Jf6 ns∧Kvu T E C G n ns vs tx) (Br false (Z57∧Jf7 ns∧Br (J9f ns) (Sf true (Sf T (Sf (E,C,G) (9=Jsh E C G n ns vs tx)))) J34) (False∧Sf true False)))))))=_).mp ?_
 delta Z1 Z2 Z4 Z5 Z30 Z32 Z57 Z63 Z64 Z85 Z91 Z94 Z99 V2 J34 Jsh D9 Jge L9 Jgc Jgb V1 Vr Yt Jd1 Jbg D7 D6 Jaf Fw Hq Hp Dc Hb J3m Jf9 J9f Jf8 Jf7 Jf6 Kvu Fv Yf Y0 Jdx Jcd Jmd Jsq He Hd Br Iw Bd T2 Tw Sf Ln Gt B0 Lb E2 Jd Jp
 intro hh hc
 have hE:=K0 hc
 have n1:E.length≤1000:=hh.nE
 have n2:C.length≤E.length:=hh.nC
 have eA:La (E,C,G) (n,Jp,ns,vs,tx)=bif n !=(E.length:Int)+1 then 11 else(bif (C.length:Int)==0 then 12 else bif (C.getD (C.length-1) ev0).2.1.toList==Jd.toList then 21 else 0):=by
  unfold La
  dsimp only
  rw[show(Jp.toList==Jp.toList)=true from by kernel_rfl];rfl
 refine⟨by omega,fun h=>⟨rfl,rfl,rfl, ?_⟩,fun h=>⟨fun _=>⟨fun h2=>⟨rfl,rfl,rfl, ?_⟩,fun h2=> ?_⟩,fun h=>(by cases h)⟩⟩
 ·rw[eA,h];rfl
 ·rw[eA,h,h2];rfl
 ·have h3:¬C.length=0:=fun e=>by rw[e] at h2;cases h2
  have h4:((C.length:Int)-1).toNat=C.length-1:=by omega
  refine⟨⟨⟨by omega,by omega⟩,⟨by omega,by omega⟩,⟨by omega,by omega⟩⟩,rfl,rfl,rfl, ?_⟩
  rw[eA,h,h2,h4];rfl
def Z25 (a:Int) (b:Ls) (c:Li) (d:Bt):=(a,Ju,b,c,d)
def Z47:=Tw (Bd 0 1)
def Joh:=(0:Int)+1+1
def Jgg:=Iw Joh
def Jai:=Tw (Bd ((0:Int)+1) 1)
def Jqm (a b:List Ev) (c:List Reg) (d:Int) (e:Ls) (f:Li) (g:Bt):=La (a,b,c) (Z25 d e f g)
def Jd3:=Jgg∧False
def Jxm (a:Ls):=true=true→Bd ((0:Int)+1) (Ln a)
def Jxl (a:Ls):=false=true→Bd ((0:Int)+1) (Ln a)
def J9m (a:Li):=Yt∧Z45 a
def Jyo (a:Ls):=Vl Vr 0 (Lg a)
def Kew (a:TypeId) (b c:List Ev) (d:List Reg) (e:Int) (f:Ls) (g:Li) (h:Bt):=Sf true (Sf a (Sf (b,c,d) (9=Jqm b c d e f g h)))
def Kit (a:TypeId) (b c:List Ev) (d:List Reg) (e:Int) (f:Ls) (g:Li) (h:Bt):=Sf true (Sf a (Sf (b,c,d) (10=Jqm b c d e f g h)))
def Js3 (a:Ls):=bif true then Jyo a else false
def Jj9 (a:Ls):=T2 (Jxm a) Jd1
def Jj8 (a:Ls):=T2 (Jxl a) Jbg
def Kvj (a:TypeId) (b c:List Ev) (d:List Reg) (e:Int) (f:Ls) (g:Li) (h:Bt):=Br false (Kit a b c d e f g h) Jd3
def Kuy (a:Li) (b:TypeId) (c d:List Ev) (e:List Reg) (f:Int) (g:Ls) (h:Bt):=J9m a∧Sf true (Sf b (Sf (c,d,e) (Jl5 [] a=Jqm c d e f g a h)))
def J85 (a:List Reg) (b:Li):=Y0 a∧Z45 b
def Jgx (a:List Reg) (b:Ls):=Vl (Yf a) 0 (Lg b)
def Jdh (a:List Reg) (b:Ls):=bif true then Jgx a b else false
def Db (a:Ls) (b:List Reg):=T2 (Jxm a) (Jdx b)
def Da (a:Ls) (b:List Reg):=T2 (Jxl a) (Jcd b)
def J8g (a:List Reg) (b:Li) (c:TypeId) (d e:List Ev) (f:Int) (g:Ls) (h:Bt):=J85 a b∧Sf true (Sf c (Sf (d,e,a) (Jl5 (Hq a).1 b=Jqm d e a f g b h)))
def J71 (a:Ls) (b:TypeId) (c d:List Ev) (e:List Reg) (f:Int) (g:Li) (h:Bt):=Br true (Z47∧Jf7 a∧Br (J9f a) (Kew b c d e f a g h) (Z32∧Br false (Jai∧Jj9 a∧Br (Js3 a) (Kew b c d e f a g h) Jd3) (Kuy g b c d e f a h))) (Kuy g b c d e f a h)
def J7q (a:Ls) (b:List Reg) (c:TypeId) (d e:List Ev) (f:Int) (g:Li) (h:Bt):=Br true (Z47∧He a b∧Br (Jsq b a) (Kew c d e b f a g h) (Z32∧Br false (Jai∧Db a b∧Br (Jdh b a) (Kew c d e b f a g h) Jd3) (J8g b g c d e f a h))) (J8g b g c d e f a h)
theorem Jh5:wpFO Tryz.prog W91.g (Xi 2) (fun _=>na ()) (Sx.look ([(75,Tryz.f75)]:List (Nat×Func))) Tryz.f130 Jp3 T (E,C,G) ((n,Ju,ns,vs,tx),()):=by
 refine(by kernel_rfl:(Kd (E,C,G)→Jc (Z25 n ns vs tx)=0→Z64 E∧Br (Jgc n E) (Sf true (Sf T (Sf (E,C,G) (11=Jqm E C G n ns vs tx)))) (Br false (Br (Z4 C) (Sf true (Sf T (Sf (E,C,G) (12=Jqm E C G n ns vs tx)))) (Jgb C∧Sf true (Sf T (Sf (E,C,G) (Jf9 C=Jqm E C G n ns vs tx))))) (Br (V2 G) (V1 G∧Z94 vs∧Br (Jf8 vs G) (Sf true (Sf T (Sf (E,C,G) (22=Jqm E C G n ns vs tx)))) (Br true (Z47∧Hd ns G∧Br false (Kit T E C G n ns vs tx) (Z32∧Br false (Jai∧Da ns G∧Kvj T E C G n ns vs tx) (J7q ns G T E C n vs tx))) (J7q ns G T E C n vs tx))) (Z94 vs∧Br (Jge vs) (Sf true (Sf T (Sf (E,C,G) (22=Jqm E C G n ns vs tx)))) (Br true (Z47∧Jf6 ns∧Br false (Kit T E C G n ns vs tx) (Z32∧Br false (Jai∧Jj8 ns∧Kvj T E C G n ns vs tx) (J71 ns T E C G n vs tx))) (J71 ns T E C G n vs tx))))))=_).mp ?_
 delta Z1 Z4 Z5 Z25 Z30 Z32 Z45 Z47 Z63 Z64 Z85 Z91 Z94 Z99 Lg V2 Joh Jgg Jai Jqm Jd3 D9 Jge Jxm Jxl L9 Jgc Jgb V1 Vr Yt Jd1 Jbg D7 D6 Jaf J9m Fw Hq Hp Dc Hb Jyo J3m Jf9 Kew Kit J9f Js3 Jf8 Jf7 Jf6 Jj9 Jj8 Kvj Kuy Fv Yf Y0 Jdx Jcd J85 Jgx Jmd Jdh Jsq He Hd Db Da J8g J71 J7q Br Iw Bd T2 Tw Sf Ln Gt B0 Lb E2 Jd Ju
 intro hh hc
 have eK:=V8 (h:=(E,C,G)) (n:=n) (k:=Ju) (ns:=ns) (vs:=vs) (tx:=tx) (by kernel_rfl)
 obtain⟨hn,hv,hR,hr0,n1,n2,n3,hG,hV⟩:=Hz hh hc
 simp only[K2,ckS,List.length_cons,List.length_nil] at eK hn hv
 rw[eK]
 simp only[hG,Jhe,Hs,Prod.eta,Jqh,Km,Kx,Jgq,Jgp,Jfc,Jgo,cond_true,cond_false,Bool.not_true,Bool.not_false,Ja]
 repeat' first|apply And.intro|exact hV|intro _
 all_goals first|trivial|omega|assumption|(rename_i h;have h:=of_decide_eq_true h;omega)|(simp only[*,cond_true,cond_false,Bool.not_true,Bool.not_false];done)|(rw[Kn ‹_›];(first|have e1:decide (vs.getD 0 0<U1.1)=true:=‹_›|have e1:decide (vs.getD 0 0<U1.1)=false:=‹_›);simp only[*,cond_true,cond_false,Bool.not_true,Bool.not_false];first|done|rfl)|(simp only[Bool.not_eq_false',decide_eq_true_eq] at*;assumption)
def Z7 (a:Int) (b:Ls) (c:Li) (d:Bt):=(a,Ub,b,c,d)
def Jsg (a b:List Ev) (c:List Reg) (d:Int) (e:Ls) (f:Li) (g:Bt):=La (a,b,c) (Z7 d e f g)
def Kez (a:TypeId) (b c:List Ev) (d:List Reg) (e:Int) (f:Ls) (g:Li) (h:Bt):=Sf true (Sf a (Sf (b,c,d) (9=Jsg b c d e f g h)))
def Kiw (a:TypeId) (b c:List Ev) (d:List Reg) (e:Int) (f:Ls) (g:Li) (h:Bt):=Sf true (Sf a (Sf (b,c,d) (10=Jsg b c d e f g h)))
def J9d (a:Ls):=bif true then !J3m a else false
def Keh (a:Li) (b:TypeId) (c d:List Ev) (e:List Reg) (f:Int) (g:Ls) (h:Bt):=Z45 a∧Sf true (Sf b (Sf (c,d,e) (Jn4 a=Jsg c d e f g a h)))
def Kvm (a:TypeId) (b c:List Ev) (d:List Reg) (e:Int) (f:Ls) (g:Li) (h:Bt):=Br false (Kiw a b c d e f g h) Jd3
def Jsp (a:List Reg) (b:Ls):=bif true then !Jmd a b else false
def J76 (a:Ls) (b:TypeId) (c d:List Ev) (e:List Reg) (f:Int) (g:Li) (h:Bt):=Br true (Z47∧Jf6 a∧Br false (Kez b c d e f a g h) (Z32∧Br false (Jai∧Jj9 a∧Br (Js3 a) (Kez b c d e f a g h) Jd3) (Keh g b c d e f a h))) (Keh g b c d e f a h)
def J7v (a:Ls) (b:List Reg) (c:TypeId) (d e:List Ev) (f:Int) (g:Li) (h:Bt):=Br true (Z47∧Hd a b∧Br false (Kez c d e b f a g h) (Z32∧Br false (Jai∧Db a b∧Br (Jdh b a) (Kez c d e b f a g h) Jd3) (Keh g c d e b f a h))) (Keh g c d e b f a h)
theorem Jmu:wpFO Tryz.prog W91.g (Xi 2) (fun _=>na ()) (Sx.look ([(75,Tryz.f75)]:List (Nat×Func))) Tryz.f130 Jp3 T (E,C,G) ((n,Ub,ns,vs,tx),()):=by
 refine(by kernel_rfl:(Kd (E,C,G)→Jc (Z7 n ns vs tx)=0→Z64 E∧Br (Jgc n E) (Sf true (Sf T (Sf (E,C,G) (11=Jsg E C G n ns vs tx)))) (Br false (Br (Z4 C) (Sf true (Sf T (Sf (E,C,G) (12=Jsg E C G n ns vs tx)))) (Jgb C∧Sf true (Sf T (Sf (E,C,G) (Jf9 C=Jsg E C G n ns vs tx))))) (Br (V2 G) (V1 G∧Z94 vs∧Br (Jf8 vs G) (Sf true (Sf T (Sf (E,C,G) (22=Jsg E C G n ns vs tx)))) (Br true (Z47∧He ns G∧Br (Jsp G ns) (Kiw T E C G n ns vs tx) (Z32∧Br false (Jai∧Da ns G∧Kvm T E C G n ns vs tx) (J7v ns G T E C n vs tx))) (J7v ns G T E C n vs tx))) (Z94 vs∧Br (Jge vs) (Sf true (Sf T (Sf (E,C,G) (22=Jsg E C G n ns vs tx)))) (Br true (Z47∧Jf7 ns∧Br (J9d ns) (Kiw T E C G n ns vs tx) (Z32∧Br false (Jai∧Jj8 ns∧Kvm T E C G n ns vs tx) (J76 ns T E C G n vs tx))) (J76 ns T E C G n vs tx))))))=_).mp ?_
 delta Z1 Z4 Z5 Z7 Z30 Z32 Z45 Z47 Z63 Z64 Z85 Z91 Z94 Z99 Lg V2 Joh Jgg Jai Jsg Jd3 D9 Jge Jxm Jxl L9 Jgc Jgb V1 Vr Yt Jd1 Jbg D7 D6 Jaf Fw Hq Hp Dc Hb Jyo J3m Jf9 Kez Kiw Js3 J9d Jf8 Jf7 Jf6 Jj9 Jj8 Keh Kvm Fv Yf Y0 Jdx Jcd Jgx Jmd Jdh Jsp He Hd Db Da J76 J7v Br Iw Bd T2 Tw Sf Ln Gt B0 Lb E2 Ub Jd
 intro hh hc
 have eK:=V8 (h:=(E,C,G)) (n:=n) (k:=Ub) (ns:=ns) (vs:=vs) (tx:=tx) (by kernel_rfl)
 obtain⟨hn,hv,hR,hr0,n1,n2,n3,hG,hV⟩:=Hz hh hc
 simp only[U7,ckS,List.length_cons,List.length_nil] at eK hn hv
 rw[eK]
 simp only[hG,Jhe,Hs,Prod.eta,Jqh,Km,Kx,Jgq,Jgp,Jfc,Jgo,cond_true,cond_false,Bool.not_true,Bool.not_false,Ja]
 repeat' first|apply And.intro|exact hV|intro _
 all_goals first|trivial|omega|assumption|(rename_i h;have h:=of_decide_eq_true h;omega)|(simp only[*,cond_true,cond_false,Bool.not_true,Bool.not_false];done)|(rw[Kn ‹_›];(first|have e1:decide (vs.getD 0 0<U1.1)=true:=‹_›|have e1:decide (vs.getD 0 0<U1.1)=false:=‹_›);simp only[*,cond_true,cond_false,Bool.not_true,Bool.not_false];first|done|rfl)|(simp only[Bool.not_eq_false',decide_eq_true_eq] at*;assumption)
def Z11 (a:Int) (b:Ls) (c:Li) (d:Bt):=(a,Kl,b,c,d)
def Z52:=Tw (Bd 0 3)
def Kgt:=Tw (Bd ((0:Int)+1) 3)
def Jqr (a b:List Ev) (c:List Reg) (d:Int) (e:Ls) (f:Li) (g:Bt):=La (a,b,c) (Z11 d e f g)
def J7j:=Joh+1
def J3w:=Iw J7j
def Kgj:=Tw (Bd Joh 3)
def Kgd (a:Ls):=0≤J0 [] (Jj4 a)
def Kgc:=Tw (Bd J7j 3)
def K1o (a:Ls):=Bd J7j (Ln a)
def Klv:=Iw (J7j+1)∧False
def Kf8 (a:Ls):=true=true→Bd Joh (Ln a)
def Kf7 (a:Ls):=false=true→Bd Joh (Ln a)
def K05 (a:Ls):=true=true→K1o a
def K04 (a:Ls):=false=true→K1o a
def J9j (a:Ls):=Vl Vr 1 (Z91 a)
def Kff (a:Ls):=Vl Vr 0 (Z88 a)
def J1l (a:TypeId) (b c:List Ev) (d:List Reg) (e:Int) (f:Ls) (g:Li) (h:Bt):=Sf true (Sf a (Sf (b,c,d) (9=Jqr b c d e f g h)))
def J3k (a:TypeId) (b c:List Ev) (d:List Reg) (e:Int) (f:Ls) (g:Li) (h:Bt):=Sf true (Sf a (Sf (b,c,d) (10=Jqr b c d e f g h)))
def Kio (a:Ls):=bif true then !Jyo a else false
def Keq (a:List Reg) (b:Ls):=0≤J0 (Hq a).1 (Jj4 b)
def J9c (a:Ls):=T2 (Kf8 a) Jd1
def J9b (a:Ls):=T2 (Kf7 a) Jbg
def Ku9 (a:TypeId) (b c:List Ev) (d:List Reg) (e:Int) (f:Ls) (g:Li) (h:Bt):=Br false (J3k a b c d e f g h) Klv
def Kd4 (a:Int) (b:Ls) (c:Li) (d:Bt) (e:TypeId) (f g:List Ev) (h:List Reg):=(Yt∧EvV (Z11 a b c d)∧Js8 b∧Z49 c∧Kgd b∧0≤J0 [] (J7n b))∧Sf true (Sf e (Sf (f,g,h) (Ja8 [] [] [] (Z11 a b c d)=Jqr f g h a b c d)))
def Jsr (a:List Reg) (b:Ls):=Vl (Yf a) 1 (Z91 b)
def Jx0 (a:List Reg) (b:Ls):=Vl (Yf a) 0 (Z88 b)
def J2b (a:List Reg) (b:Ls):=bif true then !Jgx a b else false
def Jsn (a:Ls) (b:List Reg):=T2 (Kf8 a) (Jdx b)
def Jsm (a:Ls) (b:List Reg):=T2 (Kf7 a) (Jcd b)
def Jxv (a:List Reg) (b:Int) (c:Ls) (d:Li) (e:Bt) (f:TypeId) (g h:List Ev):=(Y0 a∧EvV (Z11 b c d e)∧Js8 c∧Z49 d∧Keq a c∧0≤J0 (Hq a).1 (J7n c))∧Sf true (Sf f (Sf (g,h,a) (Ja8 (Hq a).1 (Hp a).1 (Hb a).1 (Z11 b c d e)=Jqr g h a b c d e)))
def Jxu (a:Ls) (b:TypeId) (c d:List Ev) (e:List Reg) (f:Int) (g:Li) (h:Bt):=Br true (Z52∧Jf7 a∧Br (bif true then J9j a else false) (J1l b c d e f a g h) (Z32∧Br true (Kgt∧Jj8 a∧Br false (J1l b c d e f a g h) (Jgg∧Br true (Kgj∧J9b a∧Br false (J1l b c d e f a g h) (J3w∧Br false (Kgc∧T2 (K05 a) Jd1∧Br (bif true then Vl Vr 0 (List.getD a 3 B0) else false) (J1l b c d e f a g h) Klv) (Kd4 f a g h b c d e))) (Kd4 f a g h b c d e))) (Kd4 f a g h b c d e))) (Kd4 f a g h b c d e)
def Jxs (a:Ls) (b:List Reg) (c:TypeId) (d e:List Ev) (f:Int) (g:Li) (h:Bt):=Br true (Z52∧He a b∧Br (bif true then Jsr b a else false) (J1l c d e b f a g h) (Z32∧Br true (Kgt∧Da a b∧Br false (J1l c d e b f a g h) (Jgg∧Br true (Kgj∧Jsm a b∧Br false (J1l c d e b f a g h) (J3w∧Br false (Kgc∧T2 (K05 a) (Jdx b)∧Br (bif true then Vl (Yf b) 0 (List.getD a 3 B0) else false) (J1l c d e b f a g h) Klv) (Jxv b f a g h c d e))) (Jxv b f a g h c d e))) (Jxv b f a g h c d e))) (Jxv b f a g h c d e)
theorem Jmv:wpFO Tryz.prog W91.g (Xi 4) (fun _=>na ()) (Sx.look ([(75,Tryz.f75)]:List (Nat×Func))) Tryz.f130 Jp3 T (E,C,G) ((n,Kl,ns,vs,tx),()):=by
 refine(by kernel_rfl:(Kd (E,C,G)→Jc (Z11 n ns vs tx)=0→Z64 E∧Br (Jgc n E) (Sf true (Sf T (Sf (E,C,G) (11=Jqr E C G n ns vs tx)))) (Br false (Br (Z4 C) (Sf true (Sf T (Sf (E,C,G) (12=Jqr E C G n ns vs tx)))) (Jgb C∧Sf true (Sf T (Sf (E,C,G) (Jf9 C=Jqr E C G n ns vs tx))))) (Br (V2 G) (V1 G∧Z94 vs∧Br (Jf8 vs G) (Sf true (Sf T (Sf (E,C,G) (22=Jqr E C G n ns vs tx)))) (Br true (Z52∧Hd ns G∧Br false (J3k T E C G n ns vs tx) (Z32∧Br true (Kgt∧Db ns G∧Br (J2b G ns) (J3k T E C G n ns vs tx) (Jgg∧Br true (Kgj∧Jsn ns G∧Br (bif true then !Jx0 G ns else false) (J3k T E C G n ns vs tx) (J3w∧Br false (Kgc∧T2 (K04 ns) (Jcd G)∧Ku9 T E C G n ns vs tx) (Jxs ns G T E C n vs tx))) (Jxs ns G T E C n vs tx))) (Jxs ns G T E C n vs tx))) (Jxs ns G T E C n vs tx))) (Z94 vs∧Br (Jge vs) (Sf true (Sf T (Sf (E,C,G) (22=Jqr E C G n ns vs tx)))) (Br true (Z52∧Jf6 ns∧Br false (J3k T E C G n ns vs tx) (Z32∧Br true (Kgt∧Jj9 ns∧Br (Kio ns) (J3k T E C G n ns vs tx) (Jgg∧Br true (Kgj∧J9c ns∧Br (bif true then !Kff ns else false) (J3k T E C G n ns vs tx) (J3w∧Br false (Kgc∧T2 (K04 ns) Jbg∧Ku9 T E C G n ns vs tx) (Jxu ns T E C G n vs tx))) (Jxu ns T E C G n vs tx))) (Jxu ns T E C G n vs tx))) (Jxu ns T E C G n vs tx))))))=_).mp ?_
 delta Z1 Z4 Z5 Z11 Z30 Z32 Z49 Z52 Z63 Z64 Z85 Z88 Z91 Z94 Z99 Lg V2 Jj4 Js8 Joh J7n Jgg Kgt Jqr J7j D9 J3w Jge Kgj Jxm Kgd Kgc Jxl K1o L9 Klv Kf8 Kf7 Jgc Jgb V1 Vr K05 Yt K04 Jd1 Jbg D7 D6 Jaf Fw Hq Hp Dc Hb Jyo J9j Kff Jf9 J1l J3k Kio Jf8 Jf7 Jf6 Keq Jj9 Jj8 J9c J9b Ku9 Kd4 Fv Yf Y0 Jdx Jcd Jgx Jsr Jx0 J2b He Hd Db Da Jsn Jsm Jxv Jxu Jxs Br Iw Bd T2 Tw Sf Ln Gt B0 Lb E2 Kl Jd
 intro hh hc
 have eK:=V8 (h:=(E,C,G)) (n:=n) (k:=Kl) (ns:=ns) (vs:=vs) (tx:=tx) (by kernel_rfl)
 obtain⟨hn,hv,hR,hr0,n1,n2,n3,hG,hV⟩:=Hz hh hc
 simp only[Un,ckS,List.length_cons,List.length_nil] at eK hn hv
 rw[eK]
 simp only[hG,Jhe,Hs,Prod.eta,Jqh,Km,Kx,Jgq,Jgp,Jfc,Jgo,cond_true,cond_false,Bool.not_true,Bool.not_false,Ja]
 repeat' first|apply And.intro|exact hV|intro _
 all_goals first|trivial|omega|assumption|(rename_i h;have h:=of_decide_eq_true h;omega)|(simp only[*,cond_true,cond_false,Bool.not_true,Bool.not_false];done)|(rw[Kn ‹_›];(first|have e1:decide (vs.getD 0 0<U1.1)=true:=‹_›|have e1:decide (vs.getD 0 0<U1.1)=false:=‹_›);simp only[*,cond_true,cond_false,Bool.not_true,Bool.not_false];first|done|rfl)|(simp only[Bool.not_eq_false',decide_eq_true_eq] at*;assumption)
def Z12 (a:Int) (b:Ls) (c:Li) (d:Bt):=(a,K7,b,c,d)
def Jqq (a b:List Ev) (c:List Reg) (d:Int) (e:Ls) (f:Li) (g:Bt):=La (a,b,c) (Z12 d e f g)
def Kge (a:Ls):=0≤Kp [] (L1 a)
def Ke0 (a:TypeId) (b c:List Ev) (d:List Reg) (e:Int) (f:Ls) (g:Li) (h:Bt):=Sf true (Sf a (Sf (b,c,d) (9=Jqq b c d e f g h)))
def Kix (a:TypeId) (b c:List Ev) (d:List Reg) (e:Int) (f:Ls) (g:Li) (h:Bt):=Sf true (Sf a (Sf (b,c,d) (10=Jqq b c d e f g h)))
def J9e (a:Ls):=bif true then !J9j a else false
def Ken (a:List Reg) (b:Ls):=0≤Kp (Hp a).1 (L1 b)
def Kvo (a:TypeId) (b c:List Ev) (d:List Reg) (e:Int) (f:Ls) (g:Li) (h:Bt):=Br false (Kix a b c d e f g h) Jd3
def Kt3 (a:Ls) (b:Li) (c:TypeId) (d e:List Ev) (f:List Reg) (g:Int) (h:Bt):=(Yt∧Y1 a∧Z55 b∧Kge a)∧Sf true (Sf c (Sf (d,e,f) (Jjy [] [] a b=Jqq d e f g a b h)))
def Jso (a:List Reg) (b:Ls):=bif true then !Jsr a b else false
def J74 (a:List Reg) (b:Ls) (c:Li) (d:TypeId) (e f:List Ev) (g:Int) (h:Bt):=(Y0 a∧Y1 b∧Z55 c∧Ken a b)∧Sf true (Sf d (Sf (e,f,a) (Jjy (Hp a).1 (Dc a).1 b c=Jqq e f a g b c h)))
def J7z (a:Ls) (b:TypeId) (c d:List Ev) (e:List Reg) (f:Int) (g:Li) (h:Bt):=Br true (Z47∧Jf6 a∧Br false (Ke0 b c d e f a g h) (Z32∧Br false (Jai∧Jj9 a∧Br (Js3 a) (Ke0 b c d e f a g h) Jd3) (Kt3 a g b c d e f h))) (Kt3 a g b c d e f h)
def J7s (a:Ls) (b:List Reg) (c:TypeId) (d e:List Ev) (f:Int) (g:Li) (h:Bt):=Br true (Z47∧Hd a b∧Br false (Ke0 c d e b f a g h) (Z32∧Br false (Jai∧Db a b∧Br (Jdh b a) (Ke0 c d e b f a g h) Jd3) (J74 b a g c d e f h))) (J74 b a g c d e f h)
theorem Jmw:wpFO Tryz.prog W91.g (Xi 2) (fun _=>na ()) (Sx.look ([(75,Tryz.f75)]:List (Nat×Func))) Tryz.f130 Jp3 T (E,C,G) ((n,K7,ns,vs,tx),()):=by
 refine(by kernel_rfl:(Kd (E,C,G)→Jc (Z12 n ns vs tx)=0→Z64 E∧Br (Jgc n E) (Sf true (Sf T (Sf (E,C,G) (11=Jqq E C G n ns vs tx)))) (Br false (Br (Z4 C) (Sf true (Sf T (Sf (E,C,G) (12=Jqq E C G n ns vs tx)))) (Jgb C∧Sf true (Sf T (Sf (E,C,G) (Jf9 C=Jqq E C G n ns vs tx))))) (Br (V2 G) (V1 G∧Z94 vs∧Br (Jf8 vs G) (Sf true (Sf T (Sf (E,C,G) (22=Jqq E C G n ns vs tx)))) (Br true (Z47∧He ns G∧Br (Jso G ns) (Kix T E C G n ns vs tx) (Z32∧Br false (Jai∧Da ns G∧Kvo T E C G n ns vs tx) (J7s ns G T E C n vs tx))) (J7s ns G T E C n vs tx))) (Z94 vs∧Br (Jge vs) (Sf true (Sf T (Sf (E,C,G) (22=Jqq E C G n ns vs tx)))) (Br true (Z47∧Jf7 ns∧Br (J9e ns) (Kix T E C G n ns vs tx) (Z32∧Br false (Jai∧Jj8 ns∧Kvo T E C G n ns vs tx) (J7z ns T E C G n vs tx))) (J7z ns T E C G n vs tx))))))=_).mp ?_
 delta Z1 Z4 Z5 Z12 Z30 Z32 Z47 Z55 Z63 Z64 Z85 Z91 Z94 Z99 Lg V2 L1 Y1 Joh Jgg Jai Jqq Jd3 D9 Jge Kge Jxm Jxl L9 Jgc Jgb V1 Vr Yt Jd1 Jbg D7 D6 Jaf Fw Hq Hp Dc Hb Jyo J9j Jf9 Ke0 Kix Js3 J9e Jf8 Jf7 Jf6 Jj9 Ken Jj8 Kvo Kt3 Fv Yf Y0 Jdx Jcd Jgx Jsr Jdh Jso He Hd Db Da J74 J7z J7s Br Iw Bd T2 Tw Sf Ln Gt B0 Lb E2 K7 Jd
 intro hh hc
 have eK:=V8 (h:=(E,C,G)) (n:=n) (k:=K7) (ns:=ns) (vs:=vs) (tx:=tx) (by kernel_rfl)
 obtain⟨hn,hv,hR,hr0,n1,n2,n3,hG,hV⟩:=Hz hh hc
 simp only[Ud,ckS,List.length_cons,List.length_nil] at eK hn hv
 rw[eK]
 simp only[hG,Jhe,Hs,Prod.eta,Jqh,Km,Kx,Jgq,Jgp,Jfc,Jgo,cond_true,cond_false,Bool.not_true,Bool.not_false,Ja]
 repeat' first|apply And.intro|exact hV|intro _
 all_goals first|trivial|omega|assumption|(rename_i h;have h:=of_decide_eq_true h;omega)|(simp only[*,cond_true,cond_false,Bool.not_true,Bool.not_false];done)|(rw[Kn ‹_›];(first|have e1:decide (vs.getD 0 0<U1.1)=true:=‹_›|have e1:decide (vs.getD 0 0<U1.1)=false:=‹_›);simp only[*,cond_true,cond_false,Bool.not_true,Bool.not_false];first|done|rfl)|(simp only[Bool.not_eq_false',decide_eq_true_eq] at*;assumption)
def Z3 (a:Int) (b:Ls) (c:Li) (d:Bt):=(a,Vp,b,c,d)
def Jqs (a b:List Ev) (c:List Reg) (d:Int) (e:Ls) (f:Li) (g:Bt):=La (a,b,c) (Z3 d e f g)
def Kiy (a:TypeId) (b c:List Ev) (d:List Reg) (e:Int) (f:Ls) (g:Li) (h:Bt):=Sf true (Sf a (Sf (b,c,d) (10=Jqs b c d e f g h)))
def Ke1 (a:TypeId) (b c:List Ev) (d:List Reg) (e:Int) (f:Ls) (g:Li) (h:Bt):=Sf true (Sf a (Sf (b,c,d) (9=Jqs b c d e f g h)))
def Kvp (a:TypeId) (b c:List Ev) (d:List Reg) (e:Int) (f:Ls) (g:Li) (h:Bt):=Br false (Kiy a b c d e f g h) Jd3
def Kh1 (a:Ls) (b:Li):=Yt∧Y1 a∧Z54 b∧Kge a
def Kt4 (a:Ls) (b:Li) (c:TypeId) (d e:List Ev) (f:List Reg) (g:Int) (h:Bt):=Kh1 a b∧Sf true (Sf c (Sf (d,e,f) (Jcy [] a b=Jqs d e f g a b h)))
def J19 (a:List Reg) (b:Ls) (c:Li):=Y0 a∧Y1 b∧Z54 c∧Ken a b
def J77 (a:List Reg) (b:Ls) (c:Li) (d:TypeId) (e f:List Ev) (g:Int) (h:Bt):=J19 a b c∧Sf true (Sf d (Sf (e,f,a) (Jcy (Hp a).1 b c=Jqs e f a g b c h)))
def J70 (a:Ls) (b:TypeId) (c d:List Ev) (e:List Reg) (f:Int) (g:Li) (h:Bt):=Br true (Z47∧Jf6 a∧Br false (Ke1 b c d e f a g h) (Z32∧Br false (Jai∧Jj9 a∧Br (Js3 a) (Ke1 b c d e f a g h) Jd3) (Kt4 a g b c d e f h))) (Kt4 a g b c d e f h)
def J7t (a:Ls) (b:List Reg) (c:TypeId) (d e:List Ev) (f:Int) (g:Li) (h:Bt):=Br true (Z47∧Hd a b∧Br false (Ke1 c d e b f a g h) (Z32∧Br false (Jai∧Db a b∧Br (Jdh b a) (Ke1 c d e b f a g h) Jd3) (J77 b a g c d e f h))) (J77 b a g c d e f h)
theorem Jq4:wpFO Tryz.prog W91.g (Xi 2) (fun _=>na ()) (Sx.look ([(75,Tryz.f75)]:List (Nat×Func))) Tryz.f130 Jp3 T (E,C,G) ((n,Vp,ns,vs,tx),()):=by
 refine(by kernel_rfl:(Kd (E,C,G)→Jc (Z3 n ns vs tx)=0→Z64 E∧Br (Jgc n E) (Sf true (Sf T (Sf (E,C,G) (11=Jqs E C G n ns vs tx)))) (Br false (Br (Z4 C) (Sf true (Sf T (Sf (E,C,G) (12=Jqs E C G n ns vs tx)))) (Jgb C∧Sf true (Sf T (Sf (E,C,G) (Jf9 C=Jqs E C G n ns vs tx))))) (Br (V2 G) (V1 G∧Z94 vs∧Br (Jf8 vs G) (Sf true (Sf T (Sf (E,C,G) (22=Jqs E C G n ns vs tx)))) (Br true (Z47∧He ns G∧Br (Jso G ns) (Kiy T E C G n ns vs tx) (Z32∧Br false (Jai∧Da ns G∧Kvp T E C G n ns vs tx) (J7t ns G T E C n vs tx))) (J7t ns G T E C n vs tx))) (Z94 vs∧Br (Jge vs) (Sf true (Sf T (Sf (E,C,G) (22=Jqs E C G n ns vs tx)))) (Br true (Z47∧Jf7 ns∧Br (J9e ns) (Kiy T E C G n ns vs tx) (Z32∧Br false (Jai∧Jj8 ns∧Kvp T E C G n ns vs tx) (J70 ns T E C G n vs tx))) (J70 ns T E C G n vs tx))))))=_).mp ?_
 delta Z1 Z3 Z4 Z5 Z30 Z32 Z47 Z54 Z63 Z64 Z85 Z91 Z94 Z99 Lg V2 L1 Y1 Joh Jgg Jai Jqs Jd3 D9 Jge Kge Jxm Jxl L9 Jgc Jgb V1 Vr Yt Jd1 Jbg D7 D6 Jaf Fw Hq Hp Dc Hb Jyo J9j Jf9 Kiy Ke1 Js3 J9e Jf8 Jf7 Jf6 Jj9 Ken Jj8 Kvp Kh1 Kt4 Fv Yf Y0 Jdx Jcd Jgx Jsr Jdh Jso He Hd Db Da J19 J77 J70 J7t Br Iw Bd T2 Tw Sf Ln Gt B0 Lb E2 Jd Vp
 intro hh hc
 have eK:=V8 (h:=(E,C,G)) (n:=n) (k:=Vp) (ns:=ns) (vs:=vs) (tx:=tx) (by kernel_rfl)
 obtain⟨hn,hv,hR,hr0,n1,n2,n3,hG,hV⟩:=Hz hh hc
 simp only[Vd,ckS,List.length_cons,List.length_nil] at eK hn hv
 rw[eK]
 simp only[hG,Jhe,Hs,Prod.eta,Jqh,Km,Kx,Jgq,Jgp,Jfc,Jgo,cond_true,cond_false,Bool.not_true,Bool.not_false,Ja]
 repeat' first|apply And.intro|exact hV|intro _
 all_goals first|trivial|omega|assumption|(rename_i h;have h:=of_decide_eq_true h;omega)|(simp only[*,cond_true,cond_false,Bool.not_true,Bool.not_false];done)|(rw[Kn ‹_›];(first|have e1:decide (vs.getD 0 0<U1.1)=true:=‹_›|have e1:decide (vs.getD 0 0<U1.1)=false:=‹_›);simp only[*,cond_true,cond_false,Bool.not_true,Bool.not_false];first|done|rfl)|(simp only[Bool.not_eq_false',decide_eq_true_eq] at*;assumption)
def Z21 (a:Int) (b:Ls) (c:Li) (d:Bt):=(a,Jv,b,c,d)
def Z53:=Tw (Bd 0 2)
def Jyy:=Tw (Bd ((0:Int)+1) 2)
def Jqn (a b:List Ev) (c:List Reg) (d:Int) (e:Ls) (f:Li) (g:Bt):=La (a,b,c) (Z21 d e f g)
def Jys:=Tw (Bd Joh 2)
def J3u:=J3w∧False
def Kkm (a:Li) (b:Ls):=Z49 a∧Kgd b
def Kjk (a:Ls):=Vl Vr 2 (Z91 a)
def J62 (a:TypeId) (b c:List Ev) (d:List Reg) (e:Int) (f:Ls) (g:Li) (h:Bt):=Sf true (Sf a (Sf (b,c,d) (9=Jqn b c d e f g h)))
def J9h (a:TypeId) (b c:List Ev) (d:List Reg) (e:Int) (f:Ls) (g:Li) (h:Bt):=Sf true (Sf a (Sf (b,c,d) (10=Jqn b c d e f g h)))
def Kir (a:Ls):=bif true then Kff a else false
def Kh7 (a:Li) (b:List Reg) (c:Ls):=Z49 a∧Keq b c
def Kve (a:TypeId) (b c:List Ev) (d:List Reg) (e:Int) (f:Ls) (g:Li) (h:Bt):=Br false (J9h a b c d e f g h) J3u
def Khi (a:Int) (b:Ls) (c:Li) (d:Bt) (e:TypeId) (f g:List Ev) (h:List Reg):=(Yt∧EvV (Z21 a b c d)∧Jqv b∧Kkm c b)∧Sf true (Sf e (Sf (f,g,h) (Jb8 [] [] [] (Z21 a b c d)=Jqn f g h a b c d)))
def J2g (a:List Reg) (b:Ls):=Vl (Yf a) 2 (Z91 b)
def J2d (a:List Reg) (b:Ls):=bif true then Jx0 a b else false
def J12 (a:List Reg) (b:Int) (c:Ls) (d:Li) (e:Bt) (f:TypeId) (g h:List Ev):=(Y0 a∧EvV (Z21 b c d e)∧Jqv c∧Kh7 d a c)∧Sf true (Sf f (Sf (g,h,a) (Jb8 (Hq a).1 (Hp a).1 (Hb a).1 (Z21 b c d e)=Jqn g h a b c d e)))
def J10 (a:Ls) (b:TypeId) (c d:List Ev) (e:List Reg) (f:Int) (g:Li) (h:Bt):=Br true (Z53∧Jf7 a∧Br (bif true then Kjk a else false) (J62 b c d e f a g h) (Z32∧Br true (Jyy∧Jj8 a∧Br false (J62 b c d e f a g h) (Jgg∧Br false (Jys∧J9c a∧Br (Kir a) (J62 b c d e f a g h) J3u) (Khi f a g h b c d e))) (Khi f a g h b c d e))) (Khi f a g h b c d e)
def J1y (a:Ls) (b:List Reg) (c:TypeId) (d e:List Ev) (f:Int) (g:Li) (h:Bt):=Br true (Z53∧He a b∧Br (bif true then J2g b a else false) (J62 c d e b f a g h) (Z32∧Br true (Jyy∧Da a b∧Br false (J62 c d e b f a g h) (Jgg∧Br false (Jys∧Jsn a b∧Br (J2d b a) (J62 c d e b f a g h) J3u) (J12 b f a g h c d e))) (J12 b f a g h c d e))) (J12 b f a g h c d e)
theorem Jkk:wpFO Tryz.prog W91.g (Xi 3) (fun _=>na ()) (Sx.look ([(75,Tryz.f75)]:List (Nat×Func))) Tryz.f130 Jp3 T (E,C,G) ((n,Jv,ns,vs,tx),()):=by
 refine(by kernel_rfl:(Kd (E,C,G)→Jc (Z21 n ns vs tx)=0→Z64 E∧Br (Jgc n E) (Sf true (Sf T (Sf (E,C,G) (11=Jqn E C G n ns vs tx)))) (Br false (Br (Z4 C) (Sf true (Sf T (Sf (E,C,G) (12=Jqn E C G n ns vs tx)))) (Jgb C∧Sf true (Sf T (Sf (E,C,G) (Jf9 C=Jqn E C G n ns vs tx))))) (Br (V2 G) (V1 G∧Z94 vs∧Br (Jf8 vs G) (Sf true (Sf T (Sf (E,C,G) (22=Jqn E C G n ns vs tx)))) (Br true (Z53∧Hd ns G∧Br false (J9h T E C G n ns vs tx) (Z32∧Br true (Jyy∧Db ns G∧Br (J2b G ns) (J9h T E C G n ns vs tx) (Jgg∧Br false (Jys∧Jsm ns G∧Kve T E C G n ns vs tx) (J1y ns G T E C n vs tx))) (J1y ns G T E C n vs tx))) (J1y ns G T E C n vs tx))) (Z94 vs∧Br (Jge vs) (Sf true (Sf T (Sf (E,C,G) (22=Jqn E C G n ns vs tx)))) (Br true (Z53∧Jf6 ns∧Br false (J9h T E C G n ns vs tx) (Z32∧Br true (Jyy∧Jj9 ns∧Br (Kio ns) (J9h T E C G n ns vs tx) (Jgg∧Br false (Jys∧J9b ns∧Kve T E C G n ns vs tx) (J10 ns T E C G n vs tx))) (J10 ns T E C G n vs tx))) (J10 ns T E C G n vs tx))))))=_).mp ?_
 delta Z1 Z4 Z5 Z21 Z30 Z32 Z49 Z53 Z63 Z64 Z85 Z88 Z91 Z94 Z99 Lg V2 Jj4 Joh Jqv Jgg Jyy Jqn J7j D9 J3w Jge Jys J3u Jxm Kgd Jxl L9 Kf8 Kf7 Jgc Jgb V1 Vr Yt Kkm Jd1 Jbg D7 D6 Jaf Fw Hq Hp Dc Hb Kjk Jyo Kff Jf9 J62 J9h Kir Kio Jf8 Jf7 Jf6 Keq Jj9 Jj8 J9c J9b Kh7 Kve Khi Fv Yf Y0 Jdx Jcd Jgx Jx0 J2g J2d J2b He Hd Db Da Jsn Jsm J12 J10 J1y Br Iw Bd T2 Tw Sf Ln Gt B0 Lb E2 Jv Jd
 intro hh hc
 have eK:=V8 (h:=(E,C,G)) (n:=n) (k:=Jv) (ns:=ns) (vs:=vs) (tx:=tx) (by kernel_rfl)
 obtain⟨hn,hv,hR,hr0,n1,n2,n3,hG,hV⟩:=Hz hh hc
 simp only[Ku,ckS,List.length_cons,List.length_nil] at eK hn hv
 rw[eK]
 simp only[hG,Jhe,Hs,Prod.eta,Jqh,Km,Kx,Jgq,Jgp,Jfc,Jgo,cond_true,cond_false,Bool.not_true,Bool.not_false,Ja]
 repeat' first|apply And.intro|exact hV|intro _
 all_goals first|trivial|omega|assumption|(rename_i h;have h:=of_decide_eq_true h;omega)|(simp only[*,cond_true,cond_false,Bool.not_true,Bool.not_false];done)|(rw[Kn ‹_›];(first|have e1:decide (vs.getD 0 0<U1.1)=true:=‹_›|have e1:decide (vs.getD 0 0<U1.1)=false:=‹_›);simp only[*,cond_true,cond_false,Bool.not_true,Bool.not_false];first|done|rfl)|(simp only[Bool.not_eq_false',decide_eq_true_eq] at*;assumption)
def Z26 (a:Int) (b:Ls) (c:Li) (d:Bt):=(a,Js,b,c,d)
def Jql (a b:List Ev) (c:List Reg) (d:Int) (e:Ls) (f:Li) (g:Bt):=La (a,b,c) (Z26 d e f g)
def Kex (a:TypeId) (b c:List Ev) (d:List Reg) (e:Int) (f:Ls) (g:Li) (h:Bt):=Sf true (Sf a (Sf (b,c,d) (9=Jql b c d e f g h)))
def Kiu (a:TypeId) (b c:List Ev) (d:List Reg) (e:Int) (f:Ls) (g:Li) (h:Bt):=Sf true (Sf a (Sf (b,c,d) (10=Jql b c d e f g h)))
def Kvg (a:TypeId) (b c:List Ev) (d:List Reg) (e:Int) (f:Ls) (g:Li) (h:Bt):=Br false (Kiu a b c d e f g h) Jd3
def Kh0 (a:Ls) (b:Li):=Yt∧Y1 a∧Z54 b∧0≤J7 [] (L1 a)
def Kt2 (a:Ls) (b:Li) (c:TypeId) (d e:List Ev) (f:List Reg) (g:Int) (h:Bt):=Kh0 a b∧Sf true (Sf c (Sf (d,e,f) (Jcz [] [] a b=Jql d e f g a b h)))
def J18 (a:List Reg) (b:Ls) (c:Li):=Y0 a∧Y1 b∧Z54 c∧0≤J7 (Hb a).1 (L1 b)
def J73 (a:List Reg) (b:Ls) (c:Li) (d:TypeId) (e f:List Ev) (g:Int) (h:Bt):=J18 a b c∧Sf true (Sf d (Sf (e,f,a) (Jcz (Hb a).1 (Hb a).2 b c=Jql e f a g b c h)))
def J7y (a:Ls) (b:TypeId) (c d:List Ev) (e:List Reg) (f:Int) (g:Li) (h:Bt):=Br true (Z47∧Jf6 a∧Br false (Kex b c d e f a g h) (Z32∧Br false (Jai∧Jj9 a∧Br (Js3 a) (Kex b c d e f a g h) Jd3) (Kt2 a g b c d e f h))) (Kt2 a g b c d e f h)
def J7r (a:Ls) (b:List Reg) (c:TypeId) (d e:List Ev) (f:Int) (g:Li) (h:Bt):=Br true (Z47∧Hd a b∧Br false (Kex c d e b f a g h) (Z32∧Br false (Jai∧Db a b∧Br (Jdh b a) (Kex c d e b f a g h) Jd3) (J73 b a g c d e f h))) (J73 b a g c d e f h)
theorem Jh6:wpFO Tryz.prog W91.g (Xi 2) (fun _=>na ()) (Sx.look ([(75,Tryz.f75)]:List (Nat×Func))) Tryz.f130 Jp3 T (E,C,G) ((n,Js,ns,vs,tx),()):=by
 refine(by kernel_rfl:(Kd (E,C,G)→Jc (Z26 n ns vs tx)=0→Z64 E∧Br (Jgc n E) (Sf true (Sf T (Sf (E,C,G) (11=Jql E C G n ns vs tx)))) (Br false (Br (Z4 C) (Sf true (Sf T (Sf (E,C,G) (12=Jql E C G n ns vs tx)))) (Jgb C∧Sf true (Sf T (Sf (E,C,G) (Jf9 C=Jql E C G n ns vs tx))))) (Br (V2 G) (V1 G∧Z94 vs∧Br (Jf8 vs G) (Sf true (Sf T (Sf (E,C,G) (22=Jql E C G n ns vs tx)))) (Br true (Z47∧He ns G∧Br (bif true then !J2g G ns else false) (Kiu T E C G n ns vs tx) (Z32∧Br false (Jai∧Da ns G∧Kvg T E C G n ns vs tx) (J7r ns G T E C n vs tx))) (J7r ns G T E C n vs tx))) (Z94 vs∧Br (Jge vs) (Sf true (Sf T (Sf (E,C,G) (22=Jql E C G n ns vs tx)))) (Br true (Z47∧Jf7 ns∧Br (bif true then !Kjk ns else false) (Kiu T E C G n ns vs tx) (Z32∧Br false (Jai∧Jj8 ns∧Kvg T E C G n ns vs tx) (J7y ns T E C G n vs tx))) (J7y ns T E C G n vs tx))))))=_).mp ?_
 delta Z1 Z4 Z5 Z26 Z30 Z32 Z47 Z54 Z63 Z64 Z85 Z91 Z94 Z99 Lg V2 L1 Y1 Joh Jgg Jai Jql Jd3 D9 Jge Jxm Jxl L9 Jgc Jgb V1 Vr Yt Jd1 Jbg D7 D6 Jaf Fw Hq Hp Dc Hb Kjk Jyo Jf9 Kex Kiu Js3 Jf8 Jf7 Jf6 Jj9 Jj8 Kvg Kh0 Kt2 Fv Yf Y0 Jdx Jcd Jgx J2g Jdh He Hd Db Da J18 J73 J7y J7r Br Iw Bd T2 Tw Sf Ln Gt B0 Lb E2 Js Jd
 intro hh hc
 have eK:=V8 (h:=(E,C,G)) (n:=n) (k:=Js) (ns:=ns) (vs:=vs) (tx:=tx) (by kernel_rfl)
 obtain⟨hn,hv,hR,hr0,n1,n2,n3,hG,hV⟩:=Hz hh hc
 simp only[Kg,ckS,List.length_cons,List.length_nil] at eK hn hv
 rw[eK]
 simp only[hG,Jhe,Hs,Prod.eta,Jqh,Km,Kx,Jgq,Jgp,Jfc,Jgo,cond_true,cond_false,Bool.not_true,Bool.not_false,Ja]
 repeat' first|apply And.intro|exact hV|intro _
 all_goals first|trivial|omega|assumption|(rename_i h;have h:=of_decide_eq_true h;omega)|(simp only[*,cond_true,cond_false,Bool.not_true,Bool.not_false];done)|(rw[Kn ‹_›];(first|have e1:decide (vs.getD 0 0<U1.1)=true:=‹_›|have e1:decide (vs.getD 0 0<U1.1)=false:=‹_›);simp only[*,cond_true,cond_false,Bool.not_true,Bool.not_false];first|done|rfl)|(simp only[Bool.not_eq_false',decide_eq_true_eq] at*;assumption)
def Z18 (a:Int) (b:Ls) (c:Li) (d:Bt):=(a,Kf,b,c,d)
def Jqo (a b:List Ev) (c:List Reg) (d:Int) (e:Ls) (f:Li) (g:Bt):=La (a,b,c) (Z18 d e f g)
def Kji (a:Ls):=Vl Vr 3 (Z91 a)
def J61 (a:TypeId) (b c:List Ev) (d:List Reg) (e:Int) (f:Ls) (g:Li) (h:Bt):=Sf true (Sf a (Sf (b,c,d) (9=Jqo b c d e f g h)))
def J9g (a:TypeId) (b c:List Ev) (d:List Reg) (e:Int) (f:Ls) (g:Li) (h:Bt):=Sf true (Sf a (Sf (b,c,d) (10=Jqo b c d e f g h)))
def Kvd (a:TypeId) (b c:List Ev) (d:List Reg) (e:Int) (f:Ls) (g:Li) (h:Bt):=Br false (J9g a b c d e f g h) J3u
def Khm (a:Ls) (b:Li) (c:TypeId) (d e:List Ev) (f:List Reg) (g:Int) (h:Bt):=(Yt∧Jy0 a∧Z54 b∧0≤J7 [] (Jj4 a))∧Sf true (Sf c (Sf (d,e,f) (Jc0 [] [] a b=Jqo d e f g a b h)))
def J2f (a:List Reg) (b:Ls):=Vl (Yf a) 3 (Z91 b)
def J13 (a:List Reg) (b:Ls) (c:Li) (d:TypeId) (e f:List Ev) (g:Int) (h:Bt):=(Y0 a∧Jy0 b∧Z54 c∧0≤J7 (Hb a).1 (Jj4 b))∧Sf true (Sf d (Sf (e,f,a) (Jc0 (Hb a).1 (Hb a).2 b c=Jqo e f a g b c h)))
def J11 (a:Ls) (b:TypeId) (c d:List Ev) (e:List Reg) (f:Int) (g:Li) (h:Bt):=Br true (Z53∧Jf7 a∧Br (bif true then Kji a else false) (J61 b c d e f a g h) (Z32∧Br true (Jyy∧Jj8 a∧Br false (J61 b c d e f a g h) (Jgg∧Br false (Jys∧J9c a∧Br (Kir a) (J61 b c d e f a g h) J3u) (Khm a g b c d e f h))) (Khm a g b c d e f h))) (Khm a g b c d e f h)
def J1z (a:Ls) (b:List Reg) (c:TypeId) (d e:List Ev) (f:Int) (g:Li) (h:Bt):=Br true (Z53∧He a b∧Br (bif true then J2f b a else false) (J61 c d e b f a g h) (Z32∧Br true (Jyy∧Da a b∧Br false (J61 c d e b f a g h) (Jgg∧Br false (Jys∧Jsn a b∧Br (J2d b a) (J61 c d e b f a g h) J3u) (J13 b a g c d e f h))) (J13 b a g c d e f h))) (J13 b a g c d e f h)
theorem Jkj:wpFO Tryz.prog W91.g (Xi 3) (fun _=>na ()) (Sx.look ([(75,Tryz.f75)]:List (Nat×Func))) Tryz.f130 Jp3 T (E,C,G) ((n,Kf,ns,vs,tx),()):=by
 refine(by kernel_rfl:(Kd (E,C,G)→Jc (Z18 n ns vs tx)=0→Z64 E∧Br (Jgc n E) (Sf true (Sf T (Sf (E,C,G) (11=Jqo E C G n ns vs tx)))) (Br false (Br (Z4 C) (Sf true (Sf T (Sf (E,C,G) (12=Jqo E C G n ns vs tx)))) (Jgb C∧Sf true (Sf T (Sf (E,C,G) (Jf9 C=Jqo E C G n ns vs tx))))) (Br (V2 G) (V1 G∧Z94 vs∧Br (Jf8 vs G) (Sf true (Sf T (Sf (E,C,G) (22=Jqo E C G n ns vs tx)))) (Br true (Z53∧Hd ns G∧Br false (J9g T E C G n ns vs tx) (Z32∧Br true (Jyy∧Db ns G∧Br (bif true then !Vl (Yf G) 2 (Lg ns) else false) (J9g T E C G n ns vs tx) (Jgg∧Br false (Jys∧Jsm ns G∧Kvd T E C G n ns vs tx) (J1z ns G T E C n vs tx))) (J1z ns G T E C n vs tx))) (J1z ns G T E C n vs tx))) (Z94 vs∧Br (Jge vs) (Sf true (Sf T (Sf (E,C,G) (22=Jqo E C G n ns vs tx)))) (Br true (Z53∧Jf6 ns∧Br false (J9g T E C G n ns vs tx) (Z32∧Br true (Jyy∧Jj9 ns∧Br (bif true then !Vl Vr 2 (Lg ns) else false) (J9g T E C G n ns vs tx) (Jgg∧Br false (Jys∧J9b ns∧Kvd T E C G n ns vs tx) (J11 ns T E C G n vs tx))) (J11 ns T E C G n vs tx))) (J11 ns T E C G n vs tx))))))=_).mp ?_
 delta Z1 Z4 Z5 Z18 Z30 Z32 Z53 Z54 Z63 Z64 Z85 Z88 Z91 Z94 Z99 Lg V2 Jj4 Joh Jy0 Jgg Jyy Jqo J7j D9 J3w Jge Jys J3u Jxm Jxl L9 Kf8 Kf7 Jgc Jgb V1 Vr Yt Jd1 Jbg D7 D6 Jaf Fw Hq Hp Dc Hb Kff Kji Jf9 J61 J9g Kir Jf8 Jf7 Jf6 Jj9 Jj8 J9c J9b Kvd Khm Fv Yf Y0 Jdx Jcd Jx0 J2f J2d He Hd Db Da Jsn Jsm J13 J11 J1z Br Iw Bd T2 Tw Sf Ln Gt B0 Lb E2 Kf Jd
 intro hh hc
 have eK:=V8 (h:=(E,C,G)) (n:=n) (k:=Kf) (ns:=ns) (vs:=vs) (tx:=tx) (by kernel_rfl)
 obtain⟨hn,hv,hR,hr0,n1,n2,n3,hG,hV⟩:=Hz hh hc
 simp only[Kz,ckS,List.length_cons,List.length_nil] at eK hn hv
 rw[eK]
 simp only[hG,Jhe,Hs,Prod.eta,Jqh,Km,Kx,Jgq,Jgp,Jfc,Jgo,cond_true,cond_false,Bool.not_true,Bool.not_false,Ja]
 repeat' first|apply And.intro|exact hV|intro _
 all_goals first|trivial|omega|assumption|(rename_i h;have h:=of_decide_eq_true h;omega)|(simp only[*,cond_true,cond_false,Bool.not_true,Bool.not_false];done)|(rw[Kn ‹_›];(first|have e1:decide (vs.getD 0 0<U1.1)=true:=‹_›|have e1:decide (vs.getD 0 0<U1.1)=false:=‹_›);simp only[*,cond_true,cond_false,Bool.not_true,Bool.not_false];first|done|rfl)|(simp only[Bool.not_eq_false',decide_eq_true_eq] at*;assumption)
def Z17 (a:Int) (b:Ls) (c:Li) (d:Bt):=(a,Ke,b,c,d)
def Jqp (a b:List Ev) (c:List Reg) (d:Int) (e:Ls) (f:Li) (g:Bt):=La (a,b,c) (Z17 d e f g)
def Key (a:TypeId) (b c:List Ev) (d:List Reg) (e:Int) (f:Ls) (g:Li) (h:Bt):=Sf true (Sf a (Sf (b,c,d) (9=Jqp b c d e f g h)))
def Kiv (a:TypeId) (b c:List Ev) (d:List Reg) (e:Int) (f:Ls) (g:Li) (h:Bt):=Sf true (Sf a (Sf (b,c,d) (10=Jqp b c d e f g h)))
def Kie (a:Ls):=Yt∧Y1 a∧0≤U2 [] (L1 a)
def Kvk (a:TypeId) (b c:List Ev) (d:List Reg) (e:Int) (f:Ls) (g:Li) (h:Bt):=Br false (Kiv a b c d e f g h) Jd3
def Kud (a:Ls) (b:TypeId) (c d:List Ev) (e:List Reg) (f:Int) (g:Li) (h:Bt):=Kie a∧Sf true (Sf b (Sf (c,d,e) (Jn3 [] a=Jqp c d e f a g h)))
def J2a (a:List Reg) (b:Ls):=Y0 a∧Y1 b∧0≤U2 (Hb a).2 (L1 b)
def J78 (a:List Reg) (b:Ls) (c:TypeId) (d e:List Ev) (f:Int) (g:Li) (h:Bt):=J2a a b∧Sf true (Sf c (Sf (d,e,a) (Jn3 (Hb a).2 b=Jqp d e a f b g h)))
def J72 (a:Ls) (b:TypeId) (c d:List Ev) (e:List Reg) (f:Int) (g:Li) (h:Bt):=Br true (Z47∧Jf6 a∧Br false (Key b c d e f a g h) (Z32∧Br false (Jai∧Jj9 a∧Br (Js3 a) (Key b c d e f a g h) Jd3) (Kud a b c d e f g h))) (Kud a b c d e f g h)
def J7u (a:Ls) (b:List Reg) (c:TypeId) (d e:List Ev) (f:Int) (g:Li) (h:Bt):=Br true (Z47∧Hd a b∧Br false (Key c d e b f a g h) (Z32∧Br false (Jai∧Db a b∧Br (Jdh b a) (Key c d e b f a g h) Jd3) (J78 b a c d e f g h))) (J78 b a c d e f g h)
theorem Jki:wpFO Tryz.prog W91.g (Xi 2) (fun _=>na ()) (Sx.look ([(75,Tryz.f75)]:List (Nat×Func))) Tryz.f130 Jp3 T (E,C,G) ((n,Ke,ns,vs,tx),()):=by
 refine(by kernel_rfl:(Kd (E,C,G)→Jc (Z17 n ns vs tx)=0→Z64 E∧Br (Jgc n E) (Sf true (Sf T (Sf (E,C,G) (11=Jqp E C G n ns vs tx)))) (Br false (Br (Z4 C) (Sf true (Sf T (Sf (E,C,G) (12=Jqp E C G n ns vs tx)))) (Jgb C∧Sf true (Sf T (Sf (E,C,G) (Jf9 C=Jqp E C G n ns vs tx))))) (Br (V2 G) (V1 G∧Z94 vs∧Br (Jf8 vs G) (Sf true (Sf T (Sf (E,C,G) (22=Jqp E C G n ns vs tx)))) (Br true (Z47∧He ns G∧Br (bif true then !J2f G ns else false) (Kiv T E C G n ns vs tx) (Z32∧Br false (Jai∧Da ns G∧Kvk T E C G n ns vs tx) (J7u ns G T E C n vs tx))) (J7u ns G T E C n vs tx))) (Z94 vs∧Br (Jge vs) (Sf true (Sf T (Sf (E,C,G) (22=Jqp E C G n ns vs tx)))) (Br true (Z47∧Jf7 ns∧Br (bif true then !Kji ns else false) (Kiv T E C G n ns vs tx) (Z32∧Br false (Jai∧Jj8 ns∧Kvk T E C G n ns vs tx) (J72 ns T E C G n vs tx))) (J72 ns T E C G n vs tx))))))=_).mp ?_
 delta Z1 Z4 Z5 Z17 Z30 Z32 Z47 Z63 Z64 Z85 Z91 Z94 Z99 Lg V2 L1 Y1 Joh Jgg Jai Jqp Jd3 D9 Jge Jxm Jxl L9 Jgc Jgb V1 Vr Yt Jd1 Jbg D7 D6 Jaf Fw Hq Hp Dc Hb Jyo Kji Jf9 Key Kiv Js3 Jf8 Jf7 Jf6 Jj9 Jj8 Kie Kvk Kud Fv Yf Y0 Jdx Jcd Jgx J2f Jdh He Hd Db Da J2a J78 J72 J7u Br Iw Bd T2 Tw Sf Ln Gt B0 Lb E2 Ke Jd
 intro hh hc
 have eK:=V8 (h:=(E,C,G)) (n:=n) (k:=Ke) (ns:=ns) (vs:=vs) (tx:=tx) (by kernel_rfl)
 obtain⟨hn,hv,hR,hr0,n1,n2,n3,hG,hV⟩:=Hz hh hc
 simp only[Ky,ckS,List.length_cons,List.length_nil] at eK hn hv
 rw[eK]
 simp only[hG,Jhe,Hs,Prod.eta,Jqh,Km,Kx,Jgq,Jgp,Jfc,Jgo,cond_true,cond_false,Bool.not_true,Bool.not_false,Ja]
 repeat' first|apply And.intro|exact hV|intro _
 all_goals first|trivial|omega|assumption|(rename_i h;have h:=of_decide_eq_true h;omega)|(simp only[*,cond_true,cond_false,Bool.not_true,Bool.not_false];done)|(rw[Kn ‹_›];(first|have e1:decide (vs.getD 0 0<U1.1)=true:=‹_›|have e1:decide (vs.getD 0 0<U1.1)=false:=‹_›);simp only[*,cond_true,cond_false,Bool.not_true,Bool.not_false];first|done|rfl)|(simp only[Bool.not_eq_false',decide_eq_true_eq] at*;assumption)
def Z15 (a:Int) (b:Ls) (c:Li) (d:Bt):=(a,Jd,b,c,d)
def Jog (a b:List Ev) (c:List Reg) (d:Int) (e:Ls) (f:Li) (g:Bt):=La (a,b,c) (Z15 d e f g)
def Kvq (a:TypeId) (b c:List Ev) (d:List Reg) (e:Int) (f:Ls) (g:Li) (h:Bt):=Br false (Sf true (Sf a (Sf (b,c,d) (10=Jog b c d e f g h)))) J34
theorem Jkh:wpFO Tryz.prog W91.g (Xi 1) (fun _=>na ()) (Sx.look ([(75,Tryz.f75)]:List (Nat×Func))) Tryz.f130 Jp3 T (E,C,G) ((n,Jd,ns,vs,tx),()):=by
 refine(by kernel_rfl:(Kd (E,C,G)→Jc (Z15 n ns vs tx)=0→Z64 E∧Br (Jgc n E) (Sf true (Sf T (Sf (E,C,G) (11=Jog E C G n ns vs tx)))) (Br false (Br (Z4 C) (Sf true (Sf T (Sf (E,C,G) (12=Jog E C G n ns vs tx)))) (Jgb C∧Sf true (Sf T (Sf (E,C,G) (Jf9 C=Jog E C G n ns vs tx))))) (Br (V2 G) (V1 G∧Z94 vs∧Br (Jf8 vs G) (Sf true (Sf T (Sf (E,C,G) (22=Jog E C G n ns vs tx)))) (Br false (Z57∧Hd ns G∧Kvq T E C G n ns vs tx) (Br false (Z57∧He ns G∧Br (Jsq G ns) (Sf true (Sf T (Sf (E,C,G) (9=Jog E C G n ns vs tx)))) J34) (J85 G vs∧Sf true (Sf T (Sf (E,C,G) (Zu (Fw G) (Hp G).1 (Dc G).1 (Hb G).1 (Hb G).2 vs=Jog E C G n ns vs tx))))))) (Z94 vs∧Br (Jge vs) (Sf true (Sf T (Sf (E,C,G) (22=Jog E C G n ns vs tx)))) (Br false (Z57∧Jf6 ns∧Kvq T E C G n ns vs tx) (Br false (Z57∧Jf7 ns∧Br (J9f ns) (Sf true (Sf T (Sf (E,C,G) (9=Jog E C G n ns vs tx)))) J34) (J9m vs∧Sf true (Sf T (Sf (E,C,G) (Zu 0 [] [] [] [] vs=Jog E C G n ns vs tx))))))))))=_).mp ?_
 delta Z1 Z4 Z5 Z15 Z30 Z32 Z45 Z57 Z63 Z64 Z85 Z91 Z94 Z99 V2 J34 Jog D9 Jge L9 Jgc Jgb V1 Vr Yt Jd1 Jbg D7 D6 Jaf J9m Fw Hq Hp Dc Hb J3m Jf9 J9f Jf8 Jf7 Jf6 Kvq Fv Yf Y0 Jdx Jcd J85 Jmd Jsq He Hd Br Iw Bd T2 Tw Sf Ln Gt B0 Lb E2 Jd
 intro hh hc
 have eK:=V8 (h:=(E,C,G)) (n:=n) (k:=Jd) (ns:=ns) (vs:=vs) (tx:=tx) (by kernel_rfl)
 obtain⟨hn,hv,hR,hr0,n1,n2,n3,hG,hV⟩:=Hz hh hc
 simp only[Kt,ckS,List.length_cons,List.length_nil] at eK hn hv
 rw[eK]
 simp only[hG,Jhe,Hs,Prod.eta,Jqh,Km,Kx,Jgq,Jgp,Jfc,Jgo,cond_true,cond_false,Bool.not_true,Bool.not_false,Ja]
 repeat' first|apply And.intro|exact hV|intro _
 all_goals first|trivial|omega|assumption|(rename_i h;have h:=of_decide_eq_true h;omega)|(simp only[*,cond_true,cond_false,Bool.not_true,Bool.not_false];done)|(rw[Kn ‹_›];(first|have e1:decide (vs.getD 0 0<U1.1)=true:=‹_›|have e1:decide (vs.getD 0 0<U1.1)=false:=‹_›);simp only[*,cond_true,cond_false,Bool.not_true,Bool.not_false];first|done|rfl)|(simp only[Bool.not_eq_false',decide_eq_true_eq] at*;assumption)
theorem X4 {a b:ByteArray} (h:(a.toList==b.toList)=true):a=b:=by
 have h:=eq_of_beq h
 rw[Lib.toList_data,Lib.toList_data] at h
 cases a;cases b
 congr
 exact Array.toList_inj.1 h
theorem Ju7 {a b:ByteArray} (h:D4 .str a b=true):a=b:=X4 h
theorem Je1 {β:Type} {ks:Sch} {k:ks.T}:∀{l:List (ks.T×β)},(Up ks k l).isSome=true→∃x∈l,D4 ks k x.1=true
 |[],h=>by cases h
 | x :: l, h => by
  unfold Up at h
  by_cases hx:D4 ks k x.1=true
  ·exact⟨x,List.mem_cons_self ..,hx⟩
  ·rw[if_neg hx] at h
   obtain⟨y,h1,h2⟩:=Je1 h
   exact⟨y,List.mem_cons_of_mem _ h1,h2⟩
theorem U4 {k:ByteArray} (h:Ym k=true):k=Jp∨k=Ju∨k=Ub∨k=Kl∨k=K7∨k=Vp∨k=Jv∨k=Js∨k=Kf∨k=Ke∨k=Jd:=by
 obtain⟨x,hx,hk⟩:=Je1 h
 have hk:=Ju7 hk
 unfold Lx at hx
 subst hk
 rcases List.mem_cons.1 hx with rfl|hx
 ·exact .inl rfl
 rcases List.mem_cons.1 hx with rfl|hx
 ·exact .inr (.inl rfl)
 rcases List.mem_cons.1 hx with rfl|hx
 ·exact .inr (.inr (.inl rfl))
 rcases List.mem_cons.1 hx with rfl|hx
 ·exact .inr (.inr (.inr (.inl rfl)))
 rcases List.mem_cons.1 hx with rfl|hx
 ·exact .inr (.inr (.inr (.inr (.inl rfl))))
 rcases List.mem_cons.1 hx with rfl|hx
 ·exact .inr (.inr (.inr (.inr (.inr (.inl rfl)))))
 rcases List.mem_cons.1 hx with rfl|hx
 ·exact .inr (.inr (.inr (.inr (.inr (.inr (.inl rfl))))))
 rcases List.mem_cons.1 hx with rfl|hx
 ·exact .inr (.inr (.inr (.inr (.inr (.inr (.inr (.inl rfl)))))))
 rcases List.mem_cons.1 hx with rfl|hx
 ·exact .inr (.inr (.inr (.inr (.inr (.inr (.inr (.inr (.inl rfl))))))))
 rcases List.mem_cons.1 hx with rfl|hx
 ·exact .inr (.inr (.inr (.inr (.inr (.inr (.inr (.inr (.inr (.inl rfl)))))))))
 rcases List.mem_cons.1 hx with rfl|hx
 ·exact .inr (.inr (.inr (.inr (.inr (.inr (.inr (.inr (.inr (.inr rfl)))))))))
 cases hx
theorem Jax:∀{l:List Prop} {q:Prop},(Ur l→J5d l q)→J5d l q
 |[],_,h=>h trivial
 |[_],_,h=>fun hp=>h hp hp
 |_::p'::r,_,h=>fun hp=>Jax (l:=p'::r) fun hr=>h ⟨hp,hr⟩ hp
theorem Jh2 {Γ:Gam} {ann:Nat→Option Ann} {annF:FuncId→Nat→Option Ann} {lib:FuncId→Option Func} {fn:Func} {c:Xv} {T:TypeId} {x:c.s.T} {y:ATup c.args} (hb:fn.body.isSome=true) (h:Ur (c.pre x y)→wpFO Tryz.prog Γ ann annF lib fn c T x y):wpFO Tryz.prog Γ ann annF lib fn c T x y:=by
 unfold wpFO at h⊢
 cases hc:fn.body with
 |none=>rw[hc] at hb;cases hb
 |some code=>
  rw[hc] at h
  exact Jax h
def Jbo (k:ByteArray):Nat:=if k=Jp then 1 else(Jj k).1.length+1
theorem Knh (T:TypeId):∀(x:Kb) (y:ATup [aEv]),wpFO Tryz.prog W91.g (Xi (Jbo y.1.2.1)) (fun _=>na ()) (Sx.look ([(75,Tryz.f75)]:List (Nat×Func))) Tryz.f130 Jp3 T x y
 |(E,C,G),((n,k,ns,vs,tx),())=>by
  refine Jh2 (by kernel_rfl) fun hp=> ?_
  have hc:Jc (n,k,ns,vs,tx)=0:=hp.2
  rcases U4 (K0 hc).kind with h|h|h|h|h|h|h|h|h|h|h<;>dsimp only at h<;>subst h
  ·exact(show Jbo Jp=1 from by kernel_rfl)▸Jq3 T E C G n ns vs tx
  ·exact(show Jbo Ju=2 from by kernel_rfl)▸Jh5 T E C G n ns vs tx
  ·exact(show Jbo Ub=2 from by kernel_rfl)▸Jmu T E C G n ns vs tx
  ·exact(show Jbo Kl=4 from by kernel_rfl)▸Jmv T E C G n ns vs tx
  ·exact(show Jbo K7=2 from by kernel_rfl)▸Jmw T E C G n ns vs tx
  ·exact(show Jbo Vp=2 from by kernel_rfl)▸Jq4 T E C G n ns vs tx
  ·exact(show Jbo Jv=3 from by kernel_rfl)▸Jkk T E C G n ns vs tx
  ·exact(show Jbo Js=2 from by kernel_rfl)▸Jh6 T E C G n ns vs tx
  ·exact(show Jbo Kf=3 from by kernel_rfl)▸Jkj T E C G n ns vs tx
  ·exact(show Jbo Ke=2 from by kernel_rfl)▸Jki T E C G n ns vs tx
  ·exact(show Jbo Jd=1 from by kernel_rfl)▸Jkh T E C G n ns vs tx
theorem Kbd:Ok Tryz.prog 130 (Xv.con Jp3):=X0 (Ue mixed W91.ok (by kernel_rfl) (by kernel_rfl) (Uy (l:=([(75,Tryz.f75)]:List (Nat×Func))) (List.forall_mem_cons.2 ⟨by kernel_rfl,by simp⟩)) (fun _ yy=>Xi (Jbo yy.1.2.1)) (fun _ _=>fun _=>na ()) fun T xx yy _=>Knh T xx yy)
abbrev W92:=W91.add Kbd
def doS (r:Reg) (e:Ev):Reg:=match(Jj e.2.1).2.2.2.1 with
 |some 149=>Ja3 r e
 |some 153=>Fm r e
 |some 155=>Fq r e
 |some 158=>Fr r e
 |some 160=>Fl r e
 |some 162=>Fo r e
 |some 165=>Fn r e
 |some 167=>Fp r e
 |some 170=>Jgs r e
 |some 172=>Ja2 r e
 |_=>r
def Jl (r:Reg) (e:Ev):Reg:=(e.2.2.2.1.getD 0 0,(doS r e).2)
def Ha (h:Kb) (e:Ev):Kb:=
 bif e.2.1.toList==Jp.toList then(h.1++[e],h.2.1.take (h.2.1.length-1),h.2.2.take (h.2.1.length-1)) else(h.1++[e],h.2.1++[e],h.2.2++[Jl (J2 h.2.2) e])
def Kv (h:Kb) (e:Ev):Int:=if Jc e≠0 then Jc e else La h e
def Jb5 (e:Ev):Prop:=e.2.2.1.length≤1000000∧e.2.2.2.1.length≤1000000∧∀s∈e.2.2.1,s.size≤1000000
def U9 (h:Kb) (e:Ev):Kb:=if Kv h e=0 then Ha h e else h
def Khf:Xv:={T? :=none,s:=Jit,args:=[aEv],ress:=[I],pre:=fun h (e,_)=>[Kd h,h.1.length<1000,Jb5 e],spec:=fun h (e,_)=>(Kv h e,()),post:=fun h (e,_)=>U9 h e}
def Jb9:Xv:={Khf with pre:=fun h (e,_)=>[Kd h,h.1.length<1000,Jb5 e,Jc e=0,La h e=0]}
theorem Lc {h:Kb} {n:Int} {ns:List ByteArray} {vs:List Int} {roles:List (Int×Bool)} {ck:Int} (e:Jqh h n ns vs roles ck=0):n=(h.1.length:Int)+1∧¬vs.getD 0 0<(J2 h.2.2).1∧Km (J2 h.2.2) ns roles 0=false∧Kx (J2 h.2.2) ns roles 0=false∧ck=0:=by
 unfold Jqh at e
 cases h1:n !=(h.1.length:Int)+1 with
 |true=>rw[h1] at e;cases e
 | false =>
  rw[h1,cond_false] at e
  cases h2:decide (vs.getD 0 0<(J2 h.2.2).1) with
  |true=>rw[h2] at e;cases e
  | false =>
   rw[h2,cond_false] at e
   cases h3:Km (J2 h.2.2) ns roles 0 with
   |true=>rw[h3] at e;cases e
   | false =>
    rw[h3,cond_false] at e
    cases h4:Kx (J2 h.2.2) ns roles 0 with
    |true=>rw[h4] at e;cases e
    |false=>
     rw[h4,cond_false] at e
     exact⟨bne_eq_false_iff_eq.1 h1,of_decide_eq_false h2,rfl,rfl,e⟩
theorem Jk {r:Reg} {ns:List ByteArray} {w:Int} {b:Bool} {l:List (Int×Bool)} {i:Nat} (h:Km r ns ((w,b)::l) i=false):(b=true→Vl r w (ns.getD i Ja)=true)∧Km r ns l (i+1)=false:=by
 unfold Km at h
 cases b with
 |false=>exact⟨fun f=>(by cases f),h⟩
 |true=>
  cases h1:Vl r w (ns.getD i Ja) with
  |true=>rw[h1] at h;exact⟨fun _=>rfl,h⟩
  |false=>rw[h1] at h;cases h
theorem Jr4 {r:Reg} {s:ByteArray} (h:Vl r 0 s=true):0≤J0 r.2.2.1 s:=of_decide_eq_true (show decide _=true from h)
theorem Jyf {r:Reg} {s:ByteArray} (h:Vl r 1 s=true):0≤Kp r.2.2.2.1 s:=of_decide_eq_true (show decide _=true from h)
theorem J23 {r:Reg} {s:ByteArray} (h:Vl r 2 s=true):0≤J7 r.2.2.2.2.2.1 s:=of_decide_eq_true (show decide _=true from h)
theorem Khd {r:Reg} {s:ByteArray} (h:Vl r 3 s=true):0≤U2 r.2.2.2.2.2.2 s:=of_decide_eq_true (show decide _=true from h)
theorem Jzx {h:Kb} {n:Int} {k:ByteArray} {ns:List ByteArray} {vs:List Int} {tx:ByteArray} (hk:(k.toList==Jp.toList)=false) (hc:Jc (n,k,ns,vs,tx)=0) (ha:La h (n,k,ns,vs,tx)=0):Kv h (n,k,ns,vs,tx)=0∧U9 h (n,k,ns,vs,tx)=(h.1++[(n,k,ns,vs,tx)],h.2.1++[(n,k,ns,vs,tx)],h.2.2++[Jl (J2 h.2.2) (n,k,ns,vs,tx)]):=by
 have e:Kv h (n,k,ns,vs,tx)=0:=by unfold Kv;rw[if_neg (by rw[hc];simp)];exact ha
 refine⟨e, ?_⟩
 unfold U9;rw[if_pos e];unfold Ha;dsimp only;rw[hk];rfl
theorem Jgl {E C:List Ev} {G:List Reg} {n:Int} {k:ByteArray} {ns:List ByteArray} {vs:List Int} {tx:ByteArray} (hk:(k.toList==Jp.toList)=false) (hc:Jc (n,k,ns,vs,tx)=0) (ha:La (E,C,G) (n,k,ns,vs,tx)=0):Km (J2 G) ns (Jj k).1 0=false∧Kv (E,C,G) (n,k,ns,vs,tx)=0∧U9 (E,C,G) (n,k,ns,vs,tx)=(E++[(n,k,ns,vs,tx)],C++[(n,k,ns,vs,tx)],G++[Jl (J2 G) (n,k,ns,vs,tx)]):=
 have e:=V8 (h:=(E,C,G)) (n:=n) (ns:=ns) (vs:=vs) (tx:=tx) hk
 ⟨(Lc (e.symm.trans ha)).2.2.1,Jzx hk hc ha⟩
theorem Jqf {h:Kb} {n:Int} {ns:List ByteArray} {vs:List Int} {tx:ByteArray} (ha:La h (n,Jp,ns,vs,tx)=0):n=(h.1.length:Int)+1∧h.2.1.length≠0∧((h.2.1.getD (h.2.1.length-1) ev0).2.1.toList==Jd.toList)=false:=by
 unfold La at ha
 dsimp only at ha
 rw[show(Jp.toList==Jp.toList)=true from by kernel_rfl,cond_true] at ha
 cases h1:n !=(h.1.length:Int)+1 with
 |true=>rw[h1] at ha;cases ha
 | false =>
  rw[h1,cond_false] at ha
  cases h2:(h.2.1.length:Int)==0 with
  |true=>rw[h2] at ha;cases ha
  |false=>
   rw[h2,cond_false] at ha
   cases h3:(h.2.1.getD (h.2.1.length-1) ev0).2.1.toList==Jd.toList with
   |true=>rw[h3] at ha;cases ha
   |false=>exact⟨bne_eq_false_iff_eq.1 h1,(fun e=>by rw[e] at h2;cases h2),rfl⟩
def Z37 (a:List Ev):=List.length a<1000
def Jdg (a:List Ev):=(List.length a+1)*88≤140737488355328
def Jc5:=0≤1000000∧T2 (0≤1000000) (Tw (0≤1000000))
def Jd2 (a:List Ev) (b:List Reg):=(List.take (Int.toNat (Z5 a)) a,List.take (Int.toNat (Z5 a)) b)
def D8 (a:List Ev) (b:List Reg):=Jdg a∧(List.length b+1)*136≤140737488355328
def Jd0 (a:List Ev) (b:List Reg):=(0≤Z5 a∧Z5 a≤Ln a)∧0≤Z5 a∧Z5 a≤Ln b
def Jdz (a:Ls) (b:Li):=Jag a∧Z51 b∧Jga a
def Jdy (a:List Reg):=List.length (Hq a).1≤1000000∧List.length (Hp a).1≤1000000∧List.length (Dc a).1≤1000000∧List.length (Hb a).1≤1000000∧List.length (Hb a).2≤1000000
theorem Jq5:wpFO Tryz.prog W92.g (na ()) (fun _=>na ()) (Sx.look ([(75,Tryz.f75),(129,Tryz.f129)]:List (Nat×Func))) Tryz.f121 Jb9 T (E,C,G) ((n,Jp,ns,vs,tx),()):=by
 refine(by kernel_rfl:(Kd (E,C,G)→Z37 E→Jb5 (Z2 n ns vs tx)→Jc (Z2 n ns vs tx)=0→Jsh E C G n ns vs tx=0→Jdz ns vs∧Br (Jc (Z2 n ns vs tx) !=0) (Sf true (Sf T ((E,C,G)=U9 (E,C,G) (Z2 n ns vs tx)∧Jc (Z2 n ns vs tx)=Kv (E,C,G) (Z2 n ns vs tx)))) ((Kd (E,C,G)∧Jc (Z2 n ns vs tx)=0)∧Br (Jsh E C G n ns vs tx !=0) (Sf true (Sf T ((E,C,G)=U9 (E,C,G) (Z2 n ns vs tx)∧Jsh E C G n ns vs tx=Kv (E,C,G) (Z2 n ns vs tx)))) (Jc6 ns vs∧Jdg E∧Br true (Z63 C∧Jd0 C G∧Sf true (Sf T ((E++[Z2 n ns vs tx],Jd2 C G)=U9 (E,C,G) (Z2 n ns vs tx)∧0=Kv (E,C,G) (Z2 n ns vs tx)))) (Br (V2 G) (V1 G∧Jdy G∧False∧Z94 vs∧D8 C G∧Sf true (Sf T ((E++[Z2 n ns vs tx],C++[Z2 n ns vs tx],G++[(Z85 vs,Fv G)])=U9 (E,C,G) (Z2 n ns vs tx)∧0=Kv (E,C,G) (Z2 n ns vs tx)))) (Jc5∧False∧Z94 vs∧D8 C G∧Sf true (Sf T ((E++[Z2 n ns vs tx],C++[Z2 n ns vs tx],G++[(Z85 vs,L9)])=U9 (E,C,G) (Z2 n ns vs tx)∧0=Kv (E,C,G) (Z2 n ns vs tx))))))))=_).mp ?_
 delta Z2 Z5 Z30 Z37 Z51 Z63 Z85 Z94 V2 Jag Jsh Jdg Jgd Jc6 L9 Jc5 V1 Vr Jd2 Jga D8 D7 D6 Fw Hq Hp Dc Hb Jd0 Jdz Fv Jdy Br Iw Bd T2 Tw Sf Ln Gt E2 Jp
 intro hh hlt hsz hc ha
 obtain⟨a1,a2,a3⟩:=Jqf ha
 have n1:E.length≤1000:=hh.nE
 have n2:C.length≤E.length:=hh.nC
 have n3:G.length=C.length:=hh.nG
 have a2:C.length≠0:=a2
 have hC:((C.length:Int)-1).toNat=C.length-1:=by omega
 have eE:Kv (E,C,G) (n,Jp,ns,vs,tx)=0:=by unfold Kv;rw[if_neg (by rw[hc];simp)];exact ha
 have eP:U9 (E,C,G) (n,Jp,ns,vs,tx)=(E++[(n,Jp,ns,vs,tx)],C.take (C.length-1),G.take (C.length-1)):=by
  unfold U9;rw[if_pos eE];unfold Ha;dsimp only;rw[show(Jp.toList==Jp.toList)=true from by kernel_rfl];rfl
 simp only[eE,eP,hc,ha,hC]
 repeat' first|exact hh|exact hsz.2.2|apply And.intro|intro _
 all_goals first|trivial|omega|assumption|contradiction|exact hsz.1|exact hsz.2.1|rfl
def Ky1 (a:Int) (b:Ls) (c:Li) (d:Bt):=(Ja3 Vr (Z25 a b c d)).2
def Kyv (a:Int) (b:Ls) (c:Li) (d:Bt):=(Ky1 a b c d).2
def Kyk (a:Int) (b:Ls) (c:Li) (d:Bt):=(Kyv a b c d).2
def Kx7 (a:Int) (b:Ls) (c:Li) (d:Bt):=(Kyk a b c d).2
def Ks5 (a:List Reg) (b:Int) (c:Ls) (d:Li) (e:Bt):=(Ja3 (Yf a) (Z25 b c d e)).2
def Ksr (a:List Reg) (b:Int) (c:Ls) (d:Li) (e:Bt):=(Ks5 a b c d e).2
def J8s (a:List Reg) (b:Int) (c:Ls) (d:Li) (e:Bt):=(Ksr a b c d e).2
def J8n (a:List Reg) (b:Int) (c:Ls) (d:Li) (e:Bt):=(J8s a b c d e).2
theorem Jh7:wpFO Tryz.prog W92.g (na ()) (fun _=>na ()) (Sx.look ([(75,Tryz.f75),(129,Tryz.f129)]:List (Nat×Func))) Tryz.f121 Jb9 T (E,C,G) ((n,Ju,ns,vs,tx),()):=by
 refine(by kernel_rfl:(Kd (E,C,G)→Z37 E→Jb5 (Z25 n ns vs tx)→Jc (Z25 n ns vs tx)=0→Jqm E C G n ns vs tx=0→Jdz ns vs∧Br (Jc (Z25 n ns vs tx) !=0) (Sf true (Sf T ((E,C,G)=U9 (E,C,G) (Z25 n ns vs tx)∧Jc (Z25 n ns vs tx)=Kv (E,C,G) (Z25 n ns vs tx)))) ((Kd (E,C,G)∧Jc (Z25 n ns vs tx)=0)∧Br (Jqm E C G n ns vs tx !=0) (Sf true (Sf T ((E,C,G)=U9 (E,C,G) (Z25 n ns vs tx)∧Jqm E C G n ns vs tx=Kv (E,C,G) (Z25 n ns vs tx)))) (Jc6 ns vs∧Jdg E∧Br false (Z63 C∧Jd0 C G∧Sf true (Sf T ((E++[Z25 n ns vs tx],Jd2 C G)=U9 (E,C,G) (Z25 n ns vs tx)∧0=Kv (E,C,G) (Z25 n ns vs tx)))) (Br (V2 G) (V1 G∧Jdy G∧(Y0 G∧Y1 ns∧Z45 vs)∧Z94 vs∧D8 C G∧Sf true (Sf T ((E++[Z25 n ns vs tx],C++[Z25 n ns vs tx],G++[(Z85 vs,(Ks5 G n ns vs tx).1,(Ksr G n ns vs tx).1,(J8s G n ns vs tx).1,(J8n G n ns vs tx).1,E2 (J8n G n ns vs tx).2)])=U9 (E,C,G) (Z25 n ns vs tx)∧0=Kv (E,C,G) (Z25 n ns vs tx)))) (Jc5∧(Yt∧Y1 ns∧Z45 vs)∧Z94 vs∧D8 C G∧Sf true (Sf T ((E++[Z25 n ns vs tx],C++[Z25 n ns vs tx],G++[(Z85 vs,(Ky1 n ns vs tx).1,(Kyv n ns vs tx).1,(Kyk n ns vs tx).1,(Kx7 n ns vs tx).1,E2 (Kx7 n ns vs tx).2)])=U9 (E,C,G) (Z25 n ns vs tx)∧0=Kv (E,C,G) (Z25 n ns vs tx))))))))=_).mp ?_
 delta Z5 Z25 Z30 Z37 Z45 Z51 Z63 Z85 Z94 V2 Y1 Jag Jqm Jdg Jgd Jc6 L9 Jc5 V1 Vr Yt Jd2 Jga D8 D7 Ky1 Kyv D6 Jaf Kyk Fw Hq Hp Kx7 Dc Hb Jd0 Jdz Fv Jdy Yf Y0 Ks5 Ksr J8s J8n Br Iw Bd T2 Tw Sf Ln Gt E2 Ju
 intro hh hlt hsz hc ha
 obtain⟨u0,aE,aP⟩:=Jgl (k:=Ju) (by kernel_rfl) hc ha
 obtain⟨hn,hv,hR,_,n1,n2,n3,hG,hV⟩:=Hz hh hc
 simp only[K2,List.length_cons,List.length_nil] at hn hv u0
 have hs:Jl (J2 G) (n,Ju,ns,vs,tx)=(vs.getD 0 0,(Ja3 (J2 G) (n,Ju,ns,vs,tx)).2):=by simp only[Jl,doS,K2]
 simp only[aE,aP,hs,hc,ha,hG,Hs,Jhe,Prod.eta]
 repeat' first|exact hV|exact hh|exact hR|exact hsz.2.2|apply And.intro|intro _
 all_goals first|trivial|omega|assumption|exact Nat.le_trans hR.nS (by decide)|exact Nat.le_trans hR.nO (by decide)|exact Nat.le_trans hR.nM (by decide)|exact Nat.le_trans hR.nX (by decide)|exact Nat.le_trans hR.nQ (by decide)|exact Nat.zero_le _|exact hsz.1|exact hsz.2.1|(rename_i h;have h:=of_decide_eq_true h;omega)|rfl|(rw[←Kn ‹_›];first|done|exact hR)
def Kzh (a:Int) (b:Ls) (c:Li) (d:Bt):=(Fm Vr (Z7 a b c d)).2
def Ky2 (a:Int) (b:Ls) (c:Li) (d:Bt):=(Kzh a b c d).2
def Kyr (a:Int) (b:Ls) (c:Li) (d:Bt):=(Ky2 a b c d).2
def Kyf (a:Int) (b:Ls) (c:Li) (d:Bt):=(Kyr a b c d).2
def Kta (a:List Reg) (b:Int) (c:Ls) (d:Li) (e:Bt):=(Fm (Yf a) (Z7 b c d e)).2
def Ks0 (a:List Reg) (b:Int) (c:Ls) (d:Li) (e:Bt):=(Kta a b c d e).2
def Kst (a:List Reg) (b:Int) (c:Ls) (d:Li) (e:Bt):=(Ks0 a b c d e).2
def J8r (a:List Reg) (b:Int) (c:Ls) (d:Li) (e:Bt):=(Kst a b c d e).2
theorem Jmx:wpFO Tryz.prog W92.g (na ()) (fun _=>na ()) (Sx.look ([(75,Tryz.f75),(129,Tryz.f129)]:List (Nat×Func))) Tryz.f121 Jb9 T (E,C,G) ((n,Ub,ns,vs,tx),()):=by
 refine(by kernel_rfl:(Kd (E,C,G)→Z37 E→Jb5 (Z7 n ns vs tx)→Jc (Z7 n ns vs tx)=0→Jsg E C G n ns vs tx=0→Jdz ns vs∧Br (Jc (Z7 n ns vs tx) !=0) (Sf true (Sf T ((E,C,G)=U9 (E,C,G) (Z7 n ns vs tx)∧Jc (Z7 n ns vs tx)=Kv (E,C,G) (Z7 n ns vs tx)))) ((Kd (E,C,G)∧Jc (Z7 n ns vs tx)=0)∧Br (Jsg E C G n ns vs tx !=0) (Sf true (Sf T ((E,C,G)=U9 (E,C,G) (Z7 n ns vs tx)∧Jsg E C G n ns vs tx=Kv (E,C,G) (Z7 n ns vs tx)))) (Jc6 ns vs∧Jdg E∧Br false (Z63 C∧Jd0 C G∧Sf true (Sf T ((E++[Z7 n ns vs tx],Jd2 C G)=U9 (E,C,G) (Z7 n ns vs tx)∧0=Kv (E,C,G) (Z7 n ns vs tx)))) (Br (V2 G) (V1 G∧Jdy G∧(Y0 G∧Y1 ns∧Z45 vs∧0≤J0 (Hq G).1 (L1 ns))∧Z94 vs∧D8 C G∧Sf true (Sf T ((E++[Z7 n ns vs tx],C++[Z7 n ns vs tx],G++[(Z85 vs,(Kta G n ns vs tx).1,(Ks0 G n ns vs tx).1,(Kst G n ns vs tx).1,(J8r G n ns vs tx).1,E2 (J8r G n ns vs tx).2)])=U9 (E,C,G) (Z7 n ns vs tx)∧0=Kv (E,C,G) (Z7 n ns vs tx)))) (Jc5∧(Yt∧Y1 ns∧Z45 vs∧0≤J0 [] (L1 ns))∧Z94 vs∧D8 C G∧Sf true (Sf T ((E++[Z7 n ns vs tx],C++[Z7 n ns vs tx],G++[(Z85 vs,(Kzh n ns vs tx).1,(Ky2 n ns vs tx).1,(Kyr n ns vs tx).1,(Kyf n ns vs tx).1,E2 (Kyf n ns vs tx).2)])=U9 (E,C,G) (Z7 n ns vs tx)∧0=Kv (E,C,G) (Z7 n ns vs tx))))))))=_).mp ?_
 delta Z5 Z7 Z30 Z37 Z45 Z51 Z63 Z85 Z94 V2 L1 Y1 Jag Jsg Jdg Jgd Jc6 L9 Jc5 V1 Vr Yt Jd2 Jga D8 Kzh D7 Ky2 D6 Jaf Kyr Fw Hq Kyf Hp Dc Hb Jd0 Jdz Fv Jdy Yf Y0 Kta Ks0 Kst J8r Br Iw Bd T2 Tw Sf Ln Gt E2 Ub
 intro hh hlt hsz hc ha
 obtain⟨u0,aE,aP⟩:=Jgl (k:=Ub) (by kernel_rfl) hc ha
 obtain⟨hn,hv,hR,_,n1,n2,n3,hG,hV⟩:=Hz hh hc
 simp only[U7,List.length_cons,List.length_nil] at hn hv u0
 obtain⟨k0,u1⟩:=Jk u0
 have f0:=Jr4 (k0 rfl)
 have hs:Jl (J2 G) (n,Ub,ns,vs,tx)=(vs.getD 0 0,(Fm (J2 G) (n,Ub,ns,vs,tx)).2):=by simp only[Jl,doS,U7]
 simp only[aE,aP,hs,hc,ha,hG,Hs,Jhe,Prod.eta]
 repeat' first|exact hV|exact hh|exact hR|exact hsz.2.2|apply And.intro|intro _
 all_goals first|trivial|omega|assumption|exact Nat.le_trans hR.nS (by decide)|exact Nat.le_trans hR.nO (by decide)|exact Nat.le_trans hR.nM (by decide)|exact Nat.le_trans hR.nX (by decide)|exact Nat.le_trans hR.nQ (by decide)|exact Nat.zero_le _|exact hsz.1|exact hsz.2.1|(rename_i h;have h:=of_decide_eq_true h;omega)|rfl|(rw[←Kn ‹_›];first|done|exact hR)|(rw[Kn ‹_›] at f0;exact f0)
def Kzi (a:Int) (b:Ls) (c:Li) (d:Bt):=(Fq Vr (Z11 a b c d)).2
def Ky3 (a:Int) (b:Ls) (c:Li) (d:Bt):=(Kzi a b c d).2
def Kyt (a:Int) (b:Ls) (c:Li) (d:Bt):=(Ky3 a b c d).2
def Kye (a:Int) (b:Ls) (c:Li) (d:Bt):=(Kyt a b c d).2
def Ktc (a:List Reg) (b:Int) (c:Ls) (d:Li) (e:Bt):=(Fq (Yf a) (Z11 b c d e)).2
def Ks3 (a:List Reg) (b:Int) (c:Ls) (d:Li) (e:Bt):=(Ktc a b c d e).2
def Ksv (a:List Reg) (b:Int) (c:Ls) (d:Li) (e:Bt):=(Ks3 a b c d e).2
def Ksl (a:List Reg) (b:Int) (c:Ls) (d:Li) (e:Bt):=(Ksv a b c d e).2
theorem Jmy:wpFO Tryz.prog W92.g (na ()) (fun _=>na ()) (Sx.look ([(75,Tryz.f75),(129,Tryz.f129)]:List (Nat×Func))) Tryz.f121 Jb9 T (E,C,G) ((n,Kl,ns,vs,tx),()):=by
 refine(by kernel_rfl:(Kd (E,C,G)→Z37 E→Jb5 (Z11 n ns vs tx)→Jc (Z11 n ns vs tx)=0→Jqr E C G n ns vs tx=0→Jdz ns vs∧Br (Jc (Z11 n ns vs tx) !=0) (Sf true (Sf T ((E,C,G)=U9 (E,C,G) (Z11 n ns vs tx)∧Jc (Z11 n ns vs tx)=Kv (E,C,G) (Z11 n ns vs tx)))) ((Kd (E,C,G)∧Jc (Z11 n ns vs tx)=0)∧Br (Jqr E C G n ns vs tx !=0) (Sf true (Sf T ((E,C,G)=U9 (E,C,G) (Z11 n ns vs tx)∧Jqr E C G n ns vs tx=Kv (E,C,G) (Z11 n ns vs tx)))) (Jc6 ns vs∧Jdg E∧Br false (Z63 C∧Jd0 C G∧Sf true (Sf T ((E++[Z11 n ns vs tx],Jd2 C G)=U9 (E,C,G) (Z11 n ns vs tx)∧0=Kv (E,C,G) (Z11 n ns vs tx)))) (Br (V2 G) (V1 G∧Jdy G∧(Y0 G∧Js8 ns∧Kh7 vs G ns)∧Z94 vs∧D8 C G∧Sf true (Sf T ((E++[Z11 n ns vs tx],C++[Z11 n ns vs tx],G++[(Z85 vs,(Ktc G n ns vs tx).1,(Ks3 G n ns vs tx).1,(Ksv G n ns vs tx).1,(Ksl G n ns vs tx).1,E2 (Ksl G n ns vs tx).2)])=U9 (E,C,G) (Z11 n ns vs tx)∧0=Kv (E,C,G) (Z11 n ns vs tx)))) (Jc5∧(Yt∧Js8 ns∧Kkm vs ns)∧Z94 vs∧D8 C G∧Sf true (Sf T ((E++[Z11 n ns vs tx],C++[Z11 n ns vs tx],G++[(Z85 vs,(Kzi n ns vs tx).1,(Ky3 n ns vs tx).1,(Kyt n ns vs tx).1,(Kye n ns vs tx).1,E2 (Kye n ns vs tx).2)])=U9 (E,C,G) (Z11 n ns vs tx)∧0=Kv (E,C,G) (Z11 n ns vs tx))))))))=_).mp ?_
 delta Z5 Z11 Z30 Z37 Z49 Z51 Z63 Z85 Z94 V2 Jj4 Js8 Jag Jqr Jdg Jgd Kgd Jc6 L9 Jc5 V1 Vr Yt Jd2 Kkm Jga D8 Kzi D7 Ky3 D6 Jaf Kyt Fw Hq Kye Hp Dc Hb Jd0 Jdz Keq Kh7 Fv Jdy Yf Y0 Ktc Ks3 Ksv Ksl Br Iw Bd T2 Tw Sf Ln Gt E2 Kl
 intro hh hlt hsz hc ha
 obtain⟨u0,aE,aP⟩:=Jgl (k:=Kl) (by kernel_rfl) hc ha
 obtain⟨hn,hv,hR,_,n1,n2,n3,hG,hV⟩:=Hz hh hc
 simp only[Un,List.length_cons,List.length_nil] at hn hv u0
 obtain⟨k0,u1⟩:=Jk u0
 obtain⟨k1,u2⟩:=Jk u1
 obtain⟨k2,u3⟩:=Jk u2
 have f1:=Jr4 (k1 rfl)
 have f2:=Jr4 (k2 rfl)
 have hs:Jl (J2 G) (n,Kl,ns,vs,tx)=(vs.getD 0 0,(Fq (J2 G) (n,Kl,ns,vs,tx)).2):=by simp only[Jl,doS,Un]
 simp only[aE,aP,hs,hc,ha,hG,Hs,Jhe,Prod.eta]
 repeat' first|exact hV|exact hh|exact hR|exact hsz.2.2|apply And.intro|intro _
 all_goals first|trivial|omega|assumption|exact Nat.le_trans hR.nS (by decide)|exact Nat.le_trans hR.nO (by decide)|exact Nat.le_trans hR.nM (by decide)|exact Nat.le_trans hR.nX (by decide)|exact Nat.le_trans hR.nQ (by decide)|exact Nat.zero_le _|exact hsz.1|exact hsz.2.1|(rename_i h;have h:=of_decide_eq_true h;omega)|rfl|(rw[←Kn ‹_›];first|done|exact hR)|(rw[Kn ‹_›] at f1;exact f1)|(rw[Kn ‹_›] at f2;exact f2)
def Kzc (a:Int) (b:Ls) (c:Li) (d:Bt):=(Fr Vr (Z12 a b c d)).2
def Ky6 (a:Int) (b:Ls) (c:Li) (d:Bt):=(Kzc a b c d).2
def Kyu (a:Int) (b:Ls) (c:Li) (d:Bt):=(Ky6 a b c d).2
def Kyj (a:Int) (b:Ls) (c:Li) (d:Bt):=(Kyu a b c d).2
def Ktd (a:List Reg) (b:Int) (c:Ls) (d:Li) (e:Bt):=(Fr (Yf a) (Z12 b c d e)).2
def Ks4 (a:List Reg) (b:Int) (c:Ls) (d:Li) (e:Bt):=(Ktd a b c d e).2
def Ksu (a:List Reg) (b:Int) (c:Ls) (d:Li) (e:Bt):=(Ks4 a b c d e).2
def Ksj (a:List Reg) (b:Int) (c:Ls) (d:Li) (e:Bt):=(Ksu a b c d e).2
theorem Jmz:wpFO Tryz.prog W92.g (na ()) (fun _=>na ()) (Sx.look ([(75,Tryz.f75),(129,Tryz.f129)]:List (Nat×Func))) Tryz.f121 Jb9 T (E,C,G) ((n,K7,ns,vs,tx),()):=by
 refine(by kernel_rfl:(Kd (E,C,G)→Z37 E→Jb5 (Z12 n ns vs tx)→Jc (Z12 n ns vs tx)=0→Jqq E C G n ns vs tx=0→Jdz ns vs∧Br (Jc (Z12 n ns vs tx) !=0) (Sf true (Sf T ((E,C,G)=U9 (E,C,G) (Z12 n ns vs tx)∧Jc (Z12 n ns vs tx)=Kv (E,C,G) (Z12 n ns vs tx)))) ((Kd (E,C,G)∧Jc (Z12 n ns vs tx)=0)∧Br (Jqq E C G n ns vs tx !=0) (Sf true (Sf T ((E,C,G)=U9 (E,C,G) (Z12 n ns vs tx)∧Jqq E C G n ns vs tx=Kv (E,C,G) (Z12 n ns vs tx)))) (Jc6 ns vs∧Jdg E∧Br false (Z63 C∧Jd0 C G∧Sf true (Sf T ((E++[Z12 n ns vs tx],Jd2 C G)=U9 (E,C,G) (Z12 n ns vs tx)∧0=Kv (E,C,G) (Z12 n ns vs tx)))) (Br (V2 G) (V1 G∧Jdy G∧(Y0 G∧Y1 ns∧Z55 vs)∧Z94 vs∧D8 C G∧Sf true (Sf T ((E++[Z12 n ns vs tx],C++[Z12 n ns vs tx],G++[(Z85 vs,(Ktd G n ns vs tx).1,(Ks4 G n ns vs tx).1,(Ksu G n ns vs tx).1,(Ksj G n ns vs tx).1,E2 (Ksj G n ns vs tx).2)])=U9 (E,C,G) (Z12 n ns vs tx)∧0=Kv (E,C,G) (Z12 n ns vs tx)))) (Jc5∧(Yt∧Y1 ns∧Z55 vs)∧Z94 vs∧D8 C G∧Sf true (Sf T ((E++[Z12 n ns vs tx],C++[Z12 n ns vs tx],G++[(Z85 vs,(Kzc n ns vs tx).1,(Ky6 n ns vs tx).1,(Kyu n ns vs tx).1,(Kyj n ns vs tx).1,E2 (Kyj n ns vs tx).2)])=U9 (E,C,G) (Z12 n ns vs tx)∧0=Kv (E,C,G) (Z12 n ns vs tx))))))))=_).mp ?_
 delta Z5 Z12 Z30 Z37 Z51 Z55 Z63 Z85 Z94 V2 Y1 Jag Jqq Jdg Jgd Jc6 L9 Jc5 V1 Vr Yt Jd2 Jga D8 Kzc Ky6 D7 D6 Jaf Kyu Fw Kyj Hq Hp Dc Hb Jd0 Jdz Fv Jdy Yf Y0 Ktd Ks4 Ksu Ksj Br Iw Bd T2 Tw Sf Ln Gt E2 K7
 intro hh hlt hsz hc ha
 obtain⟨u0,aE,aP⟩:=Jgl (k:=K7) (by kernel_rfl) hc ha
 obtain⟨hn,hv,hR,_,n1,n2,n3,hG,hV⟩:=Hz hh hc
 simp only[Ud,List.length_cons,List.length_nil] at hn hv u0
 obtain⟨k0,u1⟩:=Jk u0
 have f0:=Jyf (k0 rfl)
 have hs:Jl (J2 G) (n,K7,ns,vs,tx)=(vs.getD 0 0,(Fr (J2 G) (n,K7,ns,vs,tx)).2):=by simp only[Jl,doS,Ud]
 simp only[aE,aP,hs,hc,ha,hG,Hs,Jhe,Prod.eta]
 repeat' first|exact hV|exact hh|exact hR|exact hsz.2.2|apply And.intro|intro _
 all_goals first|trivial|omega|assumption|exact Nat.le_trans hR.nS (by decide)|exact Nat.le_trans hR.nO (by decide)|exact Nat.le_trans hR.nM (by decide)|exact Nat.le_trans hR.nX (by decide)|exact Nat.le_trans hR.nQ (by decide)|exact Nat.zero_le _|exact hsz.1|exact hsz.2.1|(rename_i h;have h:=of_decide_eq_true h;omega)|rfl|(rw[←Kn ‹_›];first|done|exact hR)|exact Kn ‹_› ▸f0
def Kzj (a:Int) (b:Ls) (c:Li) (d:Bt):=(Fl Vr (Z3 a b c d)).2
def Kza (a:Int) (b:Ls) (c:Li) (d:Bt):=(Kzj a b c d).2
def Kyx (a:Int) (b:Ls) (c:Li) (d:Bt):=(Kza a b c d).2
def Kyp (a:Int) (b:Ls) (c:Li) (d:Bt):=(Kyx a b c d).2
def Kte (a:List Reg) (b:Int) (c:Ls) (d:Li) (e:Bt):=(Fl (Yf a) (Z3 b c d e)).2
def Ks7 (a:List Reg) (b:Int) (c:Ls) (d:Li) (e:Bt):=(Kte a b c d e).2
def Ksw (a:List Reg) (b:Int) (c:Ls) (d:Li) (e:Bt):=(Ks7 a b c d e).2
def Ksm (a:List Reg) (b:Int) (c:Ls) (d:Li) (e:Bt):=(Ksw a b c d e).2
theorem Jq6:wpFO Tryz.prog W92.g (na ()) (fun _=>na ()) (Sx.look ([(75,Tryz.f75),(129,Tryz.f129)]:List (Nat×Func))) Tryz.f121 Jb9 T (E,C,G) ((n,Vp,ns,vs,tx),()):=by
 refine(by kernel_rfl:(Kd (E,C,G)→Z37 E→Jb5 (Z3 n ns vs tx)→Jc (Z3 n ns vs tx)=0→Jqs E C G n ns vs tx=0→Jdz ns vs∧Br (Jc (Z3 n ns vs tx) !=0) (Sf true (Sf T ((E,C,G)=U9 (E,C,G) (Z3 n ns vs tx)∧Jc (Z3 n ns vs tx)=Kv (E,C,G) (Z3 n ns vs tx)))) ((Kd (E,C,G)∧Jc (Z3 n ns vs tx)=0)∧Br (Jqs E C G n ns vs tx !=0) (Sf true (Sf T ((E,C,G)=U9 (E,C,G) (Z3 n ns vs tx)∧Jqs E C G n ns vs tx=Kv (E,C,G) (Z3 n ns vs tx)))) (Jc6 ns vs∧Jdg E∧Br false (Z63 C∧Jd0 C G∧Sf true (Sf T ((E++[Z3 n ns vs tx],Jd2 C G)=U9 (E,C,G) (Z3 n ns vs tx)∧0=Kv (E,C,G) (Z3 n ns vs tx)))) (Br (V2 G) (V1 G∧Jdy G∧J19 G ns vs∧Z94 vs∧D8 C G∧Sf true (Sf T ((E++[Z3 n ns vs tx],C++[Z3 n ns vs tx],G++[(Z85 vs,(Kte G n ns vs tx).1,(Ks7 G n ns vs tx).1,(Ksw G n ns vs tx).1,(Ksm G n ns vs tx).1,E2 (Ksm G n ns vs tx).2)])=U9 (E,C,G) (Z3 n ns vs tx)∧0=Kv (E,C,G) (Z3 n ns vs tx)))) (Jc5∧Kh1 ns vs∧Z94 vs∧D8 C G∧Sf true (Sf T ((E++[Z3 n ns vs tx],C++[Z3 n ns vs tx],G++[(Z85 vs,(Kzj n ns vs tx).1,(Kza n ns vs tx).1,(Kyx n ns vs tx).1,(Kyp n ns vs tx).1,E2 (Kyp n ns vs tx).2)])=U9 (E,C,G) (Z3 n ns vs tx)∧0=Kv (E,C,G) (Z3 n ns vs tx))))))))=_).mp ?_
 delta Z3 Z5 Z30 Z37 Z51 Z54 Z63 Z85 Z94 V2 L1 Y1 Jag Jqs Jdg Jgd Kge Jc6 L9 Jc5 V1 Vr Yt Jd2 Jga D8 Kzj Kza D7 Kyx D6 Jaf Kyp Fw Hq Hp Dc Hb Jd0 Jdz Ken Kh1 Fv Jdy Yf Y0 Kte Ks7 Ksw Ksm J19 Br Iw Bd T2 Tw Sf Ln Gt E2 Vp
 intro hh hlt hsz hc ha
 obtain⟨u0,aE,aP⟩:=Jgl (k:=Vp) (by kernel_rfl) hc ha
 obtain⟨hn,hv,hR,_,n1,n2,n3,hG,hV⟩:=Hz hh hc
 simp only[Vd,List.length_cons,List.length_nil] at hn hv u0
 obtain⟨k0,u1⟩:=Jk u0
 have f0:=Jyf (k0 rfl)
 have hs:Jl (J2 G) (n,Vp,ns,vs,tx)=(vs.getD 0 0,(Fl (J2 G) (n,Vp,ns,vs,tx)).2):=by simp only[Jl,doS,Vd]
 simp only[aE,aP,hs,hc,ha,hG,Hs,Jhe,Prod.eta]
 repeat' first|exact hV|exact hh|exact hR|exact hsz.2.2|apply And.intro|intro _
 all_goals first|trivial|omega|assumption|exact Nat.le_trans hR.nS (by decide)|exact Nat.le_trans hR.nO (by decide)|exact Nat.le_trans hR.nM (by decide)|exact Nat.le_trans hR.nX (by decide)|exact Nat.le_trans hR.nQ (by decide)|exact Nat.zero_le _|exact hsz.1|exact hsz.2.1|(rename_i h;have h:=of_decide_eq_true h;omega)|rfl|(rw[←Kn ‹_›];first|done|exact hR)|(rw[Kn ‹_›] at f0;exact f0)
def Ky8 (a:Int) (b:Ls) (c:Li) (d:Bt):=(Fo Vr (Z21 a b c d)).2
def Kyy (a:Int) (b:Ls) (c:Li) (d:Bt):=(Ky8 a b c d).2
def Kyo (a:Int) (b:Ls) (c:Li) (d:Bt):=(Kyy a b c d).2
def Kyd (a:Int) (b:Ls) (c:Li) (d:Bt):=(Kyo a b c d).2
def Ks9 (a:List Reg) (b:Int) (c:Ls) (d:Li) (e:Bt):=(Fo (Yf a) (Z21 b c d e)).2
def Ksz (a:List Reg) (b:Int) (c:Ls) (d:Li) (e:Bt):=(Ks9 a b c d e).2
def Ksp (a:List Reg) (b:Int) (c:Ls) (d:Li) (e:Bt):=(Ksz a b c d e).2
def J8o (a:List Reg) (b:Int) (c:Ls) (d:Li) (e:Bt):=(Ksp a b c d e).2
theorem Jko:wpFO Tryz.prog W92.g (na ()) (fun _=>na ()) (Sx.look ([(75,Tryz.f75),(129,Tryz.f129)]:List (Nat×Func))) Tryz.f121 Jb9 T (E,C,G) ((n,Jv,ns,vs,tx),()):=by
 refine(by kernel_rfl:(Kd (E,C,G)→Z37 E→Jb5 (Z21 n ns vs tx)→Jc (Z21 n ns vs tx)=0→Jqn E C G n ns vs tx=0→Jdz ns vs∧Br (Jc (Z21 n ns vs tx) !=0) (Sf true (Sf T ((E,C,G)=U9 (E,C,G) (Z21 n ns vs tx)∧Jc (Z21 n ns vs tx)=Kv (E,C,G) (Z21 n ns vs tx)))) ((Kd (E,C,G)∧Jc (Z21 n ns vs tx)=0)∧Br (Jqn E C G n ns vs tx !=0) (Sf true (Sf T ((E,C,G)=U9 (E,C,G) (Z21 n ns vs tx)∧Jqn E C G n ns vs tx=Kv (E,C,G) (Z21 n ns vs tx)))) (Jc6 ns vs∧Jdg E∧Br false (Z63 C∧Jd0 C G∧Sf true (Sf T ((E++[Z21 n ns vs tx],Jd2 C G)=U9 (E,C,G) (Z21 n ns vs tx)∧0=Kv (E,C,G) (Z21 n ns vs tx)))) (Br (V2 G) (V1 G∧Jdy G∧(Y0 G∧Jqv ns∧Z49 vs)∧Z94 vs∧D8 C G∧Sf true (Sf T ((E++[Z21 n ns vs tx],C++[Z21 n ns vs tx],G++[(Z85 vs,(Ks9 G n ns vs tx).1,(Ksz G n ns vs tx).1,(Ksp G n ns vs tx).1,(J8o G n ns vs tx).1,E2 (J8o G n ns vs tx).2)])=U9 (E,C,G) (Z21 n ns vs tx)∧0=Kv (E,C,G) (Z21 n ns vs tx)))) (Jc5∧(Yt∧Jqv ns∧Z49 vs)∧Z94 vs∧D8 C G∧Sf true (Sf T ((E++[Z21 n ns vs tx],C++[Z21 n ns vs tx],G++[(Z85 vs,(Ky8 n ns vs tx).1,(Kyy n ns vs tx).1,(Kyo n ns vs tx).1,(Kyd n ns vs tx).1,E2 (Kyd n ns vs tx).2)])=U9 (E,C,G) (Z21 n ns vs tx)∧0=Kv (E,C,G) (Z21 n ns vs tx))))))))=_).mp ?_
 delta Z5 Z21 Z30 Z37 Z49 Z51 Z63 Z85 Z94 V2 Jag Jqv Jqn Jdg Jgd Jc6 L9 Jc5 V1 Vr Yt Jd2 Jga D8 Ky8 D7 Kyy D6 Jaf Kyo Fw Hq Kyd Hp Dc Hb Jd0 Jdz Fv Jdy Yf Y0 Ks9 Ksz Ksp J8o Br Iw Bd T2 Tw Sf Ln Gt E2 Jv
 intro hh hlt hsz hc ha
 obtain⟨u0,aE,aP⟩:=Jgl (k:=Jv) (by kernel_rfl) hc ha
 obtain⟨hn,hv,hR,_,n1,n2,n3,hG,hV⟩:=Hz hh hc
 simp only[Ku,List.length_cons,List.length_nil] at hn hv u0
 obtain⟨k0,u1⟩:=Jk u0
 obtain⟨k1,u2⟩:=Jk u1
 have f1:=Jr4 (k1 rfl)
 have hs:Jl (J2 G) (n,Jv,ns,vs,tx)=(vs.getD 0 0,(Fo (J2 G) (n,Jv,ns,vs,tx)).2):=by simp only[Jl,doS,Ku]
 simp only[aE,aP,hs,hc,ha,hG,Hs,Jhe,Prod.eta]
 repeat' first|exact hV|exact hh|exact hR|exact hsz.2.2|apply And.intro|intro _
 all_goals first|trivial|omega|assumption|exact Nat.le_trans hR.nS (by decide)|exact Nat.le_trans hR.nO (by decide)|exact Nat.le_trans hR.nM (by decide)|exact Nat.le_trans hR.nX (by decide)|exact Nat.le_trans hR.nQ (by decide)|exact Nat.zero_le _|exact hsz.1|exact hsz.2.1|(rename_i h;have h:=of_decide_eq_true h;omega)|rfl|(rw[←Kn ‹_›];first|done|exact hR)|exact Kn ‹_› ▸f1
def Ky4 (a:Int) (b:Ls) (c:Li) (d:Bt):=(Fn Vr (Z26 a b c d)).2
def Kys (a:Int) (b:Ls) (c:Li) (d:Bt):=(Ky4 a b c d).2
def Kyh (a:Int) (b:Ls) (c:Li) (d:Bt):=(Kys a b c d).2
def Kx8 (a:Int) (b:Ls) (c:Li) (d:Bt):=(Kyh a b c d).2
def Ks2 (a:List Reg) (b:Int) (c:Ls) (d:Li) (e:Bt):=(Fn (Yf a) (Z26 b c d e)).2
def Kss (a:List Reg) (b:Int) (c:Ls) (d:Li) (e:Bt):=(Ks2 a b c d e).2
def Ksi (a:List Reg) (b:Int) (c:Ls) (d:Li) (e:Bt):=(Kss a b c d e).2
def J8m (a:List Reg) (b:Int) (c:Ls) (d:Li) (e:Bt):=(Ksi a b c d e).2
theorem Jh8:wpFO Tryz.prog W92.g (na ()) (fun _=>na ()) (Sx.look ([(75,Tryz.f75),(129,Tryz.f129)]:List (Nat×Func))) Tryz.f121 Jb9 T (E,C,G) ((n,Js,ns,vs,tx),()):=by
 refine(by kernel_rfl:(Kd (E,C,G)→Z37 E→Jb5 (Z26 n ns vs tx)→Jc (Z26 n ns vs tx)=0→Jql E C G n ns vs tx=0→Jdz ns vs∧Br (Jc (Z26 n ns vs tx) !=0) (Sf true (Sf T ((E,C,G)=U9 (E,C,G) (Z26 n ns vs tx)∧Jc (Z26 n ns vs tx)=Kv (E,C,G) (Z26 n ns vs tx)))) ((Kd (E,C,G)∧Jc (Z26 n ns vs tx)=0)∧Br (Jql E C G n ns vs tx !=0) (Sf true (Sf T ((E,C,G)=U9 (E,C,G) (Z26 n ns vs tx)∧Jql E C G n ns vs tx=Kv (E,C,G) (Z26 n ns vs tx)))) (Jc6 ns vs∧Jdg E∧Br false (Z63 C∧Jd0 C G∧Sf true (Sf T ((E++[Z26 n ns vs tx],Jd2 C G)=U9 (E,C,G) (Z26 n ns vs tx)∧0=Kv (E,C,G) (Z26 n ns vs tx)))) (Br (V2 G) (V1 G∧Jdy G∧J18 G ns vs∧Z94 vs∧D8 C G∧Sf true (Sf T ((E++[Z26 n ns vs tx],C++[Z26 n ns vs tx],G++[(Z85 vs,(Ks2 G n ns vs tx).1,(Kss G n ns vs tx).1,(Ksi G n ns vs tx).1,(J8m G n ns vs tx).1,E2 (J8m G n ns vs tx).2)])=U9 (E,C,G) (Z26 n ns vs tx)∧0=Kv (E,C,G) (Z26 n ns vs tx)))) (Jc5∧Kh0 ns vs∧Z94 vs∧D8 C G∧Sf true (Sf T ((E++[Z26 n ns vs tx],C++[Z26 n ns vs tx],G++[(Z85 vs,(Ky4 n ns vs tx).1,(Kys n ns vs tx).1,(Kyh n ns vs tx).1,(Kx8 n ns vs tx).1,E2 (Kx8 n ns vs tx).2)])=U9 (E,C,G) (Z26 n ns vs tx)∧0=Kv (E,C,G) (Z26 n ns vs tx))))))))=_).mp ?_
 delta Z5 Z26 Z30 Z37 Z51 Z54 Z63 Z85 Z94 V2 L1 Y1 Jag Jql Jdg Jgd Jc6 L9 Jc5 V1 Vr Yt Jd2 Jga D8 Ky4 D7 D6 Jaf Kys Fw Kyh Hq Hp Kx8 Dc Hb Jd0 Jdz Kh0 Fv Jdy Yf Y0 Ks2 Kss Ksi J8m J18 Br Iw Bd T2 Tw Sf Ln Gt E2 Js
 intro hh hlt hsz hc ha
 obtain⟨u0,aE,aP⟩:=Jgl (k:=Js) (by kernel_rfl) hc ha
 obtain⟨hn,hv,hR,_,n1,n2,n3,hG,hV⟩:=Hz hh hc
 simp only[Kg,List.length_cons,List.length_nil] at hn hv u0
 obtain⟨k0,u1⟩:=Jk u0
 have f0:=J23 (k0 rfl)
 have hs:Jl (J2 G) (n,Js,ns,vs,tx)=(vs.getD 0 0,(Fn (J2 G) (n,Js,ns,vs,tx)).2):=by simp only[Jl,doS,Kg]
 simp only[aE,aP,hs,hc,ha,hG,Hs,Jhe,Prod.eta]
 repeat' first|exact hV|exact hh|exact hR|exact hsz.2.2|apply And.intro|intro _
 all_goals first|trivial|omega|assumption|exact Nat.le_trans hR.nS (by decide)|exact Nat.le_trans hR.nO (by decide)|exact Nat.le_trans hR.nM (by decide)|exact Nat.le_trans hR.nX (by decide)|exact Nat.le_trans hR.nQ (by decide)|exact Nat.zero_le _|exact hsz.1|exact hsz.2.1|(rename_i h;have h:=of_decide_eq_true h;omega)|rfl|(rw[←Kn ‹_›];first|done|exact hR)|(rw[Kn ‹_›] at f0;exact f0)
def Kzb (a:Int) (b:Ls) (c:Li) (d:Bt):=(Fp Vr (Z18 a b c d)).2
def Kyw (a:Int) (b:Ls) (c:Li) (d:Bt):=(Kzb a b c d).2
def Kym (a:Int) (b:Ls) (c:Li) (d:Bt):=(Kyw a b c d).2
def Kyc (a:Int) (b:Ls) (c:Li) (d:Bt):=(Kym a b c d).2
def Ks8 (a:List Reg) (b:Int) (c:Ls) (d:Li) (e:Bt):=(Fp (Yf a) (Z18 b c d e)).2
def Ksy (a:List Reg) (b:Int) (c:Ls) (d:Li) (e:Bt):=(Ks8 a b c d e).2
def Ksn (a:List Reg) (b:Int) (c:Ls) (d:Li) (e:Bt):=(Ksy a b c d e).2
def J8q (a:List Reg) (b:Int) (c:Ls) (d:Li) (e:Bt):=(Ksn a b c d e).2
theorem Jkn:wpFO Tryz.prog W92.g (na ()) (fun _=>na ()) (Sx.look ([(75,Tryz.f75),(129,Tryz.f129)]:List (Nat×Func))) Tryz.f121 Jb9 T (E,C,G) ((n,Kf,ns,vs,tx),()):=by
 refine(by kernel_rfl:(Kd (E,C,G)→Z37 E→Jb5 (Z18 n ns vs tx)→Jc (Z18 n ns vs tx)=0→Jqo E C G n ns vs tx=0→Jdz ns vs∧Br (Jc (Z18 n ns vs tx) !=0) (Sf true (Sf T ((E,C,G)=U9 (E,C,G) (Z18 n ns vs tx)∧Jc (Z18 n ns vs tx)=Kv (E,C,G) (Z18 n ns vs tx)))) ((Kd (E,C,G)∧Jc (Z18 n ns vs tx)=0)∧Br (Jqo E C G n ns vs tx !=0) (Sf true (Sf T ((E,C,G)=U9 (E,C,G) (Z18 n ns vs tx)∧Jqo E C G n ns vs tx=Kv (E,C,G) (Z18 n ns vs tx)))) (Jc6 ns vs∧Jdg E∧Br false (Z63 C∧Jd0 C G∧Sf true (Sf T ((E++[Z18 n ns vs tx],Jd2 C G)=U9 (E,C,G) (Z18 n ns vs tx)∧0=Kv (E,C,G) (Z18 n ns vs tx)))) (Br (V2 G) (V1 G∧Jdy G∧(Y0 G∧Jy0 ns)∧Z94 vs∧D8 C G∧Sf true (Sf T ((E++[Z18 n ns vs tx],C++[Z18 n ns vs tx],G++[(Z85 vs,(Ks8 G n ns vs tx).1,(Ksy G n ns vs tx).1,(Ksn G n ns vs tx).1,(J8q G n ns vs tx).1,E2 (J8q G n ns vs tx).2)])=U9 (E,C,G) (Z18 n ns vs tx)∧0=Kv (E,C,G) (Z18 n ns vs tx)))) (Jc5∧(Yt∧Jy0 ns)∧Z94 vs∧D8 C G∧Sf true (Sf T ((E++[Z18 n ns vs tx],C++[Z18 n ns vs tx],G++[(Z85 vs,(Kzb n ns vs tx).1,(Kyw n ns vs tx).1,(Kym n ns vs tx).1,(Kyc n ns vs tx).1,E2 (Kyc n ns vs tx).2)])=U9 (E,C,G) (Z18 n ns vs tx)∧0=Kv (E,C,G) (Z18 n ns vs tx))))))))=_).mp ?_
 delta Z5 Z18 Z30 Z37 Z51 Z63 Z85 Z94 V2 Jag Jy0 Jqo Jdg Jgd Jc6 L9 Jc5 V1 Vr Yt Jd2 Jga D8 Kzb D7 Kyw D6 Jaf Kym Fw Hq Kyc Hp Dc Hb Jd0 Jdz Fv Jdy Yf Y0 Ks8 Ksy Ksn J8q Br Iw Bd T2 Tw Sf Ln Gt E2 Kf
 intro hh hlt hsz hc ha
 obtain⟨u0,aE,aP⟩:=Jgl (k:=Kf) (by kernel_rfl) hc ha
 obtain⟨hn,hv,hR,_,n1,n2,n3,hG,hV⟩:=Hz hh hc
 simp only[Kz,List.length_cons,List.length_nil] at hn hv u0
 obtain⟨k0,u1⟩:=Jk u0
 obtain⟨k1,u2⟩:=Jk u1
 have f1:=J23 (k1 rfl)
 have hs:Jl (J2 G) (n,Kf,ns,vs,tx)=(vs.getD 0 0,(Fp (J2 G) (n,Kf,ns,vs,tx)).2):=by simp only[Jl,doS,Kz]
 simp only[aE,aP,hs,hc,ha,hG,Hs,Jhe,Prod.eta]
 repeat' first|exact hV|exact hh|exact hR|exact hsz.2.2|apply And.intro|intro _
 all_goals first|trivial|omega|assumption|exact Nat.le_trans hR.nS (by decide)|exact Nat.le_trans hR.nO (by decide)|exact Nat.le_trans hR.nM (by decide)|exact Nat.le_trans hR.nX (by decide)|exact Nat.le_trans hR.nQ (by decide)|exact Nat.zero_le _|exact hsz.1|exact hsz.2.1|(rename_i h;have h:=of_decide_eq_true h;omega)|rfl|(rw[←Kn ‹_›];first|done|exact hR)|exact Kn ‹_› ▸f1
def Kze (a:Int) (b:Ls) (c:Li) (d:Bt):=(Jgs Vr (Z17 a b c d)).2
def Ky7 (a:Int) (b:Ls) (c:Li) (d:Bt):=(Kze a b c d).2
def Kyq (a:Int) (b:Ls) (c:Li) (d:Bt):=(Ky7 a b c d).2
def Kyl (a:Int) (b:Ls) (c:Li) (d:Bt):=(Kyq a b c d).2
def Ktb (a:List Reg) (b:Int) (c:Ls) (d:Li) (e:Bt):=(Jgs (Yf a) (Z17 b c d e)).2
def Ks1 (a:List Reg) (b:Int) (c:Ls) (d:Li) (e:Bt):=(Ktb a b c d e).2
def Ksq (a:List Reg) (b:Int) (c:Ls) (d:Li) (e:Bt):=(Ks1 a b c d e).2
def Ksk (a:List Reg) (b:Int) (c:Ls) (d:Li) (e:Bt):=(Ksq a b c d e).2
theorem Jkm:wpFO Tryz.prog W92.g (na ()) (fun _=>na ()) (Sx.look ([(75,Tryz.f75),(129,Tryz.f129)]:List (Nat×Func))) Tryz.f121 Jb9 T (E,C,G) ((n,Ke,ns,vs,tx),()):=by
 refine(by kernel_rfl:(Kd (E,C,G)→Z37 E→Jb5 (Z17 n ns vs tx)→Jc (Z17 n ns vs tx)=0→Jqp E C G n ns vs tx=0→Jdz ns vs∧Br (Jc (Z17 n ns vs tx) !=0) (Sf true (Sf T ((E,C,G)=U9 (E,C,G) (Z17 n ns vs tx)∧Jc (Z17 n ns vs tx)=Kv (E,C,G) (Z17 n ns vs tx)))) ((Kd (E,C,G)∧Jc (Z17 n ns vs tx)=0)∧Br (Jqp E C G n ns vs tx !=0) (Sf true (Sf T ((E,C,G)=U9 (E,C,G) (Z17 n ns vs tx)∧Jqp E C G n ns vs tx=Kv (E,C,G) (Z17 n ns vs tx)))) (Jc6 ns vs∧Jdg E∧Br false (Z63 C∧Jd0 C G∧Sf true (Sf T ((E++[Z17 n ns vs tx],Jd2 C G)=U9 (E,C,G) (Z17 n ns vs tx)∧0=Kv (E,C,G) (Z17 n ns vs tx)))) (Br (V2 G) (V1 G∧Jdy G∧J2a G ns∧Z94 vs∧D8 C G∧Sf true (Sf T ((E++[Z17 n ns vs tx],C++[Z17 n ns vs tx],G++[(Z85 vs,(Ktb G n ns vs tx).1,(Ks1 G n ns vs tx).1,(Ksq G n ns vs tx).1,(Ksk G n ns vs tx).1,E2 (Ksk G n ns vs tx).2)])=U9 (E,C,G) (Z17 n ns vs tx)∧0=Kv (E,C,G) (Z17 n ns vs tx)))) (Jc5∧Kie ns∧Z94 vs∧D8 C G∧Sf true (Sf T ((E++[Z17 n ns vs tx],C++[Z17 n ns vs tx],G++[(Z85 vs,(Kze n ns vs tx).1,(Ky7 n ns vs tx).1,(Kyq n ns vs tx).1,(Kyl n ns vs tx).1,E2 (Kyl n ns vs tx).2)])=U9 (E,C,G) (Z17 n ns vs tx)∧0=Kv (E,C,G) (Z17 n ns vs tx))))))))=_).mp ?_
 delta Z5 Z17 Z30 Z37 Z51 Z63 Z85 Z94 V2 L1 Y1 Jag Jqp Jdg Jgd Jc6 L9 Jc5 V1 Vr Yt Jd2 Jga D8 Kze Ky7 D7 D6 Jaf Kyq Kyl Fw Hq Hp Dc Hb Jd0 Jdz Kie Fv Jdy Yf Y0 Ktb Ks1 Ksq Ksk J2a Br Iw Bd T2 Tw Sf Ln Gt E2 Ke
 intro hh hlt hsz hc ha
 obtain⟨u0,aE,aP⟩:=Jgl (k:=Ke) (by kernel_rfl) hc ha
 obtain⟨hn,hv,hR,_,n1,n2,n3,hG,hV⟩:=Hz hh hc
 simp only[Ky,List.length_cons,List.length_nil] at hn hv u0
 obtain⟨k0,u1⟩:=Jk u0
 have f0:=Khd (k0 rfl)
 have hs:Jl (J2 G) (n,Ke,ns,vs,tx)=(vs.getD 0 0,(Jgs (J2 G) (n,Ke,ns,vs,tx)).2):=by simp only[Jl,doS,Ky]
 simp only[aE,aP,hs,hc,ha,hG,Hs,Jhe,Prod.eta]
 repeat' first|exact hV|exact hh|exact hR|exact hsz.2.2|apply And.intro|intro _
 all_goals first|trivial|omega|assumption|exact Nat.le_trans hR.nS (by decide)|exact Nat.le_trans hR.nO (by decide)|exact Nat.le_trans hR.nM (by decide)|exact Nat.le_trans hR.nX (by decide)|exact Nat.le_trans hR.nQ (by decide)|exact Nat.zero_le _|exact hsz.1|exact hsz.2.1|(rename_i h;have h:=of_decide_eq_true h;omega)|rfl|(rw[←Kn ‹_›];first|done|exact hR)|(rw[Kn ‹_›] at f0;exact f0)
def Ky9 (a:Int) (b:Ls) (c:Li) (d:Bt):=(Ja2 Vr (Z15 a b c d)).2
def Kyz (a:Int) (b:Ls) (c:Li) (d:Bt):=(Ky9 a b c d).2
def Kyn (a:Int) (b:Ls) (c:Li) (d:Bt):=(Kyz a b c d).2
def Kya (a:Int) (b:Ls) (c:Li) (d:Bt):=(Kyn a b c d).2
def Ks6 (a:List Reg) (b:Int) (c:Ls) (d:Li) (e:Bt):=(Ja2 (Yf a) (Z15 b c d e)).2
def Ksx (a:List Reg) (b:Int) (c:Ls) (d:Li) (e:Bt):=(Ks6 a b c d e).2
def Kso (a:List Reg) (b:Int) (c:Ls) (d:Li) (e:Bt):=(Ksx a b c d e).2
def J8p (a:List Reg) (b:Int) (c:Ls) (d:Li) (e:Bt):=(Kso a b c d e).2
theorem Jkl:wpFO Tryz.prog W92.g (na ()) (fun _=>na ()) (Sx.look ([(75,Tryz.f75),(129,Tryz.f129)]:List (Nat×Func))) Tryz.f121 Jb9 T (E,C,G) ((n,Jd,ns,vs,tx),()):=by
 refine(by kernel_rfl:(Kd (E,C,G)→Z37 E→Jb5 (Z15 n ns vs tx)→Jc (Z15 n ns vs tx)=0→Jog E C G n ns vs tx=0→Jdz ns vs∧Br (Jc (Z15 n ns vs tx) !=0) (Sf true (Sf T ((E,C,G)=U9 (E,C,G) (Z15 n ns vs tx)∧Jc (Z15 n ns vs tx)=Kv (E,C,G) (Z15 n ns vs tx)))) ((Kd (E,C,G)∧Jc (Z15 n ns vs tx)=0)∧Br (Jog E C G n ns vs tx !=0) (Sf true (Sf T ((E,C,G)=U9 (E,C,G) (Z15 n ns vs tx)∧Jog E C G n ns vs tx=Kv (E,C,G) (Z15 n ns vs tx)))) (Jc6 ns vs∧Jdg E∧Br false (Z63 C∧Jd0 C G∧Sf true (Sf T ((E++[Z15 n ns vs tx],Jd2 C G)=U9 (E,C,G) (Z15 n ns vs tx)∧0=Kv (E,C,G) (Z15 n ns vs tx)))) (Br (V2 G) (V1 G∧Jdy G∧J85 G vs∧Z94 vs∧D8 C G∧Sf true (Sf T ((E++[Z15 n ns vs tx],C++[Z15 n ns vs tx],G++[(Z85 vs,(Ks6 G n ns vs tx).1,(Ksx G n ns vs tx).1,(Kso G n ns vs tx).1,(J8p G n ns vs tx).1,E2 (J8p G n ns vs tx).2)])=U9 (E,C,G) (Z15 n ns vs tx)∧0=Kv (E,C,G) (Z15 n ns vs tx)))) (Jc5∧J9m vs∧Z94 vs∧D8 C G∧Sf true (Sf T ((E++[Z15 n ns vs tx],C++[Z15 n ns vs tx],G++[(Z85 vs,(Ky9 n ns vs tx).1,(Kyz n ns vs tx).1,(Kyn n ns vs tx).1,(Kya n ns vs tx).1,E2 (Kya n ns vs tx).2)])=U9 (E,C,G) (Z15 n ns vs tx)∧0=Kv (E,C,G) (Z15 n ns vs tx))))))))=_).mp ?_
 delta Z5 Z15 Z30 Z37 Z45 Z51 Z63 Z85 Z94 V2 Jag Jog Jdg Jgd Jc6 L9 Jc5 V1 Vr Yt Jd2 Jga D8 Ky9 D7 Kyz D6 Jaf J9m Kyn Fw Hq Kya Hp Dc Hb Jd0 Jdz Fv Jdy Yf Y0 Ks6 Ksx J85 Kso J8p Br Iw Bd T2 Tw Sf Ln Gt E2 Jd
 intro hh hlt hsz hc ha
 obtain⟨u0,aE,aP⟩:=Jgl (k:=Jd) (by kernel_rfl) hc ha
 obtain⟨hn,hv,hR,_,n1,n2,n3,hG,hV⟩:=Hz hh hc
 simp only[Kt,List.length_cons,List.length_nil] at hn hv u0
 have hs:Jl (J2 G) (n,Jd,ns,vs,tx)=(vs.getD 0 0,(Ja2 (J2 G) (n,Jd,ns,vs,tx)).2):=by simp only[Jl,doS,Kt]
 simp only[aE,aP,hs,hc,ha,hG,Hs,Jhe,Prod.eta]
 repeat' first|exact hV|exact hh|exact hR|exact hsz.2.2|apply And.intro|intro _
 all_goals first|trivial|omega|assumption|exact Nat.le_trans hR.nS (by decide)|exact Nat.le_trans hR.nO (by decide)|exact Nat.le_trans hR.nM (by decide)|exact Nat.le_trans hR.nX (by decide)|exact Nat.le_trans hR.nQ (by decide)|exact Nat.zero_le _|exact hsz.1|exact hsz.2.1|(rename_i h;have h:=of_decide_eq_true h;omega)|rfl|(rw[←Kn ‹_›];first|done|exact hR)
abbrev GG:Gam:=[(64,Kcw),(130,Xv.con Jp3),(81,J28),(216,Jgv 127 Fd),(217,Jgv 130 Lf),(218,Jgv 155 Jah),(219,Jgv 188 Zg),(220,Jgv 235 Hm)]
theorem gG:Yp Tryz.prog GG:= .cons K18 (.cons Kbd (.cons K17 (.cons Kbc (.cons Kbb (.cons Kba (.cons Ka9 (.cons Ka8 (.nil _))))))))
def Kcy:Xv:={Khf with pre:=fun h (e,_)=>[Kd h,h.1.length<1000,Jb5 e,¬(Jc e=0∧La h e=0)]}
theorem Jtg (T:TypeId) (E C:List Ev) (G:List Reg) (n:Int) (k:ByteArray) (ns:List ByteArray) (vs:List Int) (tx:ByteArray):wpFO Tryz.prog GG (na ()) (fun _=>na ()) (Sx.look ([(75,Tryz.f75),(129,Tryz.f129)]:List (Nat×Func))) Tryz.f121 Kcy T (E,C,G) ((n,k,ns,vs,tx),()):=by
 refine(by kernel_rfl:(Kd (E,C,G)→Z37 E→Jb5 (n,k,ns,vs,tx)→(Z66 n k ns vs tx=0∧La (E,C,G) (n,k,ns,vs,tx)=0→False)→Jdz ns vs∧Br (Z66 n k ns vs tx !=0) (Sf true (Sf T ((E,C,G)=U9 (E,C,G) (n,k,ns,vs,tx)∧Z66 n k ns vs tx=Kv (E,C,G) (n,k,ns,vs,tx)))) ((Kd (E,C,G)∧Z66 n k ns vs tx=0)∧Br (La (E,C,G) (n,k,ns,vs,tx) !=0) (Sf true (Sf T ((E,C,G)=U9 (E,C,G) (n,k,ns,vs,tx)∧La (E,C,G) (n,k,ns,vs,tx)=Kv (E,C,G) (n,k,ns,vs,tx)))) (Jc6 ns vs∧Jdg E∧Br (Lb k Jp) (Z63 C∧Jd0 C G∧Sf true (Sf T ((E++[(n,k,ns,vs,tx)],Jd2 C G)=U9 (E,C,G) (n,k,ns,vs,tx)∧0=Kv (E,C,G) (n,k,ns,vs,tx)))) (Br (V2 G) (V1 G∧Jdy G∧Jx5 777 1) (Jc5∧Jx5 777 1)))))=_).mp ?_
 delta Z5 Z37 Z51 Z63 Z66 V2 Jag Jdg Jgd Jc6 L9 Jc5 V1 Vr Jd2 Jga D7 D6 Hq Hp Dc Hb Jd0 Jdz Jdy Br Iw Bd T2 Tw Sf Ln Gt Lb Jp
 intro hh hlt hsz hx
 have n1:E.length≤1000:=hh.nE
 have e1:Jc (n,k,ns,vs,tx)≠0→Kv (E,C,G) (n,k,ns,vs,tx)=Jc (n,k,ns,vs,tx):=fun h=>by unfold Kv;rw[if_pos h]
 have e2:¬Jc (n,k,ns,vs,tx)≠0→Kv (E,C,G) (n,k,ns,vs,tx)=La (E,C,G) (n,k,ns,vs,tx):=fun h=>by unfold Kv;rw[if_neg h]
 have e3:Kv (E,C,G) (n,k,ns,vs,tx)≠0→U9 (E,C,G) (n,k,ns,vs,tx)=(E,C,G):=fun h=>by unfold U9;rw[if_neg h]
 refine⟨⟨hsz.1,hsz.2.1,hsz.2.2⟩,fun h=> ?_,fun h=>⟨⟨hh, ?_⟩,fun h2=> ?_,fun h2=> ?_⟩⟩
 ·have h:Jc (n,k,ns,vs,tx)≠0:=bne_iff_ne.1 h
  exact⟨rfl,rfl,(e3 (by rw[e1 h];exact h)).symm,(e1 h).symm⟩
 ·exact bne_eq_false_iff_eq.1 h
 ·have h:Jc (n,k,ns,vs,tx)=0:=bne_eq_false_iff_eq.1 h
  have h2:La (E,C,G) (n,k,ns,vs,tx)≠0:=bne_iff_ne.1 h2
  have e4:=e2 (by rw[h];simp)
  exact⟨rfl,rfl,(e3 (by rw[e4];exact h2)).symm,e4.symm⟩
 ·exact absurd ⟨bne_eq_false_iff_eq.1 h,bne_eq_false_iff_eq.1 h2⟩ hx
theorem Jun {f:FuncId} {c:Xv} {p1 p2:c.s.T→ATup c.args→List Prop} (h1:OkO Tryz.prog f {c with pre:=p1}) (h2:OkO Tryz.prog f {c with pre:=p2}) (h:∀x y,Ur (c.pre x y)→Ur (p1 x y)∨Ur (p2 x y)):OkO Tryz.prog f c:=
 ⟨h1.1,fun x y M R B w b T cells vals vs hB hMR hg hw hBb hMb hRb hT ho hv hpre ha=>(h x y hpre).elim (fun q=>h1.2 x y M R B w b T cells vals vs hB hMR hg hw hBb hMb hRb hT ho hv q ha) fun q=>h2.2 x y M R B w b T cells vals vs hB hMR hg hw hBb hMb hRb hT ho hv q ha⟩
theorem Kax (T:TypeId):∀(x:Kb) (y:ATup [aEv]),wpFO Tryz.prog W92.g (na ()) (fun _=>na ()) (Sx.look ([(75,Tryz.f75),(129,Tryz.f129)]:List (Nat×Func))) Tryz.f121 Jb9 T x y
 |(E,C,G),((n,k,ns,vs,tx),())=>by
  refine Jh2 (by kernel_rfl) fun hp=> ?_
  have hc:Jc (n,k,ns,vs,tx)=0:=hp.2.2.2.1
  rcases U4 (K0 hc).kind with h|h|h|h|h|h|h|h|h|h|h<;>dsimp only at h<;>subst h
  ·exact Jq5 T E C G n ns vs tx
  ·exact Jh7 T E C G n ns vs tx
  ·exact Jmx T E C G n ns vs tx
  ·exact Jmy T E C G n ns vs tx
  ·exact Jmz T E C G n ns vs tx
  ·exact Jq6 T E C G n ns vs tx
  ·exact Jko T E C G n ns vs tx
  ·exact Jh8 T E C G n ns vs tx
  ·exact Jkn T E C G n ns vs tx
  ·exact Jkm T E C G n ns vs tx
  ·exact Jkl T E C G n ns vs tx
theorem okK:OkO Tryz.prog 121 Jb9:=Ue mixed W92.ok (by kernel_rfl) (by kernel_rfl) (Uy (l:=([(75,Tryz.f75),(129,Tryz.f129)]:List (Nat×Func))) (List.forall_mem_cons.2 ⟨by kernel_rfl,List.forall_mem_cons.2 ⟨by kernel_rfl,by simp⟩⟩)) (fun _ _=>na ()) (fun _ _=>fun _=>na ()) fun T xx yy _=>Kax T xx yy
theorem okG:OkO Tryz.prog 121 Kcy:=Ue mixed gG (by kernel_rfl) (by kernel_rfl) (Uy (l:=([(75,Tryz.f75),(129,Tryz.f129)]:List (Nat×Func))) (List.forall_mem_cons.2 ⟨by kernel_rfl,List.forall_mem_cons.2 ⟨by kernel_rfl,by simp⟩⟩)) (fun _ _=>na ()) (fun _ _=>fun _=>na ()) fun T xx yy _=>Jtg T xx.1 xx.2.1 xx.2.2 yy.1.1 yy.1.2.1 yy.1.2.2.1 yy.1.2.2.2.1 yy.1.2.2.2.2
theorem Kqq:Ok Tryz.prog 121 (Xv.con Khf):=X0 (Jun (c:=Khf) okK okG fun x y hp=>by
 by_cases h:Jc y.1=0∧La x y.1=0
 ·exact .inl ⟨hp.1,hp.2.1,hp.2.2,h.1,h.2⟩
 ·exact .inr ⟨hp.1,hp.2.1,hp.2.2,h⟩)
abbrev W93:=W92.add Kqq
theorem Yn {α:Type} {p:α→Bool} {m:List α}:∀{l:List α} {k:Nat},0≤Vg p l k→Vg p (l++m) k=Vg p l k
 |[],k,h=>by simp[Vg] at h
 | x :: l, k, h => by
  show(if p x=true then(k:Int) else Vg p (l++m) (k+1))=(if p x=true then(k:Int) else Vg p l (k+1))
  have h:0≤(if p x=true then(k:Int) else Vg p l (k+1)):=h
  by_cases hp:p x=true
  ·rw[if_pos hp,if_pos hp]
  ·rw[if_neg hp] at h
   rw[if_neg hp,if_neg hp,Yn h]
theorem Dv {α:Type} {p:α→Bool} {y:α}:∀{l:List α} {i k:Nat},(∀x,l[i]? =some x→p y=p x)→Vg p (l.set i y) k=Vg p l k
 |[],_,_,_=>rfl
 |x::l,0,k,h=>by
  have:=h x rfl
  simp only[List.set_cons_zero]
  unfold Vg
  rw[this]
 |x::l,i+1,k,h=>by
  simp only[List.set_cons_succ]
  unfold Vg
  rw[Dv fun z hz=>h z (by simpa using hz)]
theorem Jfe {α:Type} {l:List α} {i:Nat} {d x:α} (h:l[i]? =some x):l.getD i d=x:=by
 rw[List.getD_eq_getElem?_getD,h];rfl
theorem Jbs {α:Type} {l:List α} {i:Nat} {y x:α} (h:x∈l.set i y):x=y∨x∈l:=by
 rcases List.mem_or_eq_of_mem_set h with h|h
 ·exact .inr h
 ·exact .inl h
theorem V0 {α:Type} {l:List α} {y x:α} (h:x∈l++[y]):x∈l∨x=y:=by
 rcases List.mem_append.1 h with h|h
 ·exact .inl h
 ·exact .inr (by simpa using h)
theorem Yj {b:Bool} {c:Int} (hc:c≠0) (h:(bif b then c else 0)=0):b=false:=by
 cases b with
 |true=>exact absurd h hc
 |false=>rfl
theorem Zq {a b:Int} (h:Jh [a,b]=0):a=0∧b=0:=
 ⟨Ua.1 h _ (List.mem_cons_self ..),Ua.1 h _ (List.mem_cons_of_mem _ (List.mem_cons_self ..))⟩
theorem Lo {a b c:Int} (h:Jh [a,b,c]=0):a=0∧b=0∧c=0:=
 ⟨Ua.1 h _ (by simp),Ua.1 h _ (by simp),Ua.1 h _ (by simp)⟩
theorem F1 {O:List Ord} {s:ByteArray} (h:0≤Kp O s):Yu O s∈O:=by
 have:=Uu (l:=O) (s:=s)
 exact Je (by omega)
theorem Jum {X:List Out} {s:ByteArray} (h:0≤J7 X s):L5 X s∈X:=by
 have:=Ut (l:=X) (s:=s)
 exact Je (by omega)
theorem Jm4 {S:List Sta} {s:ByteArray} (h:0≤J0 S s):Ho S s∈S:=by
 have:=K6 (l:=S) (s:=s)
 exact Je (by omega)
theorem J4w {Q:List Per} {s:ByteArray} (h:0≤U2 Q s):Jmi Q s∈Q:=by
 have:=U0 (l:=Q) (s:=s)
 exact Je (by omega)
theorem Jdj.mono {S S':List Sta} {x:Ord} (h:Jdj S x) (hs:∀s,0≤J0 S s→0≤J0 S' s):Jdj S' x:=⟨h.span,h.pow,h.pri,h.trip,hs _ h.fr,hs _ h.tu⟩
theorem Jok.mono {S S':List Sta} {x:Out} (h:Jok S x) (hs:∀s,0≤J0 S s→0≤J0 S' s):Jok S' x:=⟨h.span,h.rest,hs _ h.sta⟩
section
variable {tk st v:Int} {S:List Sta} {O:List Ord} {M:List Met} {X:List Out} {Q:List Per} {n:Int} {k tx:ByteArray} {ns:List ByteArray} {vs:List Int}
theorem Jrd (hr:Jn (tk,st,S,O,M,X,Q)) (hv:tk≤v∧v≤999999999) (hc:Jl5 S vs=0) {a:ByteArray}:Jn (v,st,S++[(a,vs.getD 1 0,0)],O,M,X,Q):=by
 obtain⟨c1,c2⟩:=Zq hc
 have c1:=Va.1 c1
 have c2:=of_decide_eq_false (Yj (by decide) c2)
 have hs:∀s,0≤J0 S s→0≤J0 (S++[(a,vs.getD 1 0,0)]) s:=fun s h=>by unfold J0 at h⊢;rw[Yn h];exact h
 have h0:=hr.tk
 have h1:=hr.st
 dsimp only at h0 h1
 refine⟨by dsimp only;omega,by dsimp only;omega,by dsimp only;rw[List.length_append,List.length_singleton];omega,hr.nO,hr.nM,hr.nX,hr.nQ,fun x hx=> ?_,fun x hx=>(hr.ord x hx).mono hs,hr.met,fun x hx=>(hr.out x hx).mono hs,hr.per,hr.done⟩
 rcases V0 hx with h|rfl
 ·exact hr.sta x h
 ·exact⟨c1,Int.le_refl 0,by show(0:Int)≤1000;decide⟩
theorem Jzf (hr:Jn (tk,st,S,O,M,X,Q)) (hv:tk≤v∧v≤999999999) (hc:Jn4 vs=0) {a:ByteArray} (ha:0≤J0 S a):Jn (v,st,S.set (J0 S a).toNat ((Ho S a).1,(Ho S a).2.1,vs.getD 1 0),O,M,X,Q):=by
 have c1:=Va.1 hc
 have hs:∀s,0≤J0 S s→0≤J0 (S.set (J0 S a).toNat ((Ho S a).1,(Ho S a).2.1,vs.getD 1 0)) s:=fun s h=>by
  unfold J0 at h⊢
  rw[Dv fun x hx=> ?_]
  ·exact h
  ·have:=Jfe (d:=Jsu) hx
   show((Ho S a).1.toList==s.toList)=_
   unfold Ho J0
   rw[this]
 have h0:=hr.tk
 have h1:=hr.st
 dsimp only at h0 h1
 refine⟨by dsimp only;omega,by dsimp only;omega,by rw[List.length_set];exact hr.nS,hr.nO,hr.nM,hr.nX,hr.nQ,fun x hx=> ?_,fun x hx=>(hr.ord x hx).mono hs,hr.met,fun x hx=>(hr.out x hx).mono hs,hr.per,hr.done⟩
 rcases Jbs hx with rfl|h
 ·exact⟨(hr.sta _ (Jm4 ha)).lim,c1⟩
 ·exact hr.sta x h
theorem Jzh (hr:Jn (tk,st,S,O,M,X,Q)) (hv:tk≤v∧v≤999999999) (hm:M.length<10000) (ho:0≤Kp O (ns.getD 0 Ja)) (hb:∀i,i<4→0≤vs.getD i 0∧vs.getD i 0≤999999999) (hc:Jjy O M ns vs=0):Jn (v,st,S,O,M++[(ns.getD 0 Ja,vs.getD 1 0,vs.getD 2 0,vs.getD 3 0)],X,Q):=by
 have h5:=Yj (by decide) (Ua.1 hc _ (List.mem_cons_of_mem _ (List.mem_cons_of_mem _ (List.mem_cons_of_mem _ (List.mem_cons_of_mem _ (List.mem_cons_self ..))))))
 have h6:=bn1 h5
 have p1:=of_decide_eq_false h6.1
 have p2:=of_decide_eq_false h6.2
 have hp:1≤(Yu O (ns.getD 0 Ja)).2.2.2.2.1∧(Yu O (ns.getD 0 Ja)).2.2.2.2.1≤1000:=(hr.ord _ (F1 ho)).pow
 have h0:=hr.tk
 have h1:=hr.st
 dsimp only at h0 h1
 have b1:=hb 1 (by omega)
 have b2:=hb 2 (by omega)
 have b3:=hb 3 (by omega)
 refine⟨by dsimp only;omega,by dsimp only;omega,hr.nS,hr.nO,by dsimp only;rw[List.length_append,List.length_singleton];omega,hr.nX,hr.nQ,hr.sta,hr.ord,fun x hx=> ?_,hr.out,hr.per,fun x hx h e1 e2=> ?_⟩
 ·rcases V0 hx with h|rfl
  ·exact hr.met x h
  ·exact⟨b1,⟨b2.1,by dsimp only;omega⟩,⟨b3.1,by dsimp only;omega⟩⟩
 ·have:=hr.done x hx h e1 e2
  unfold Kq at this⊢
  dsimp only at this⊢
  rw[Yn this];exact this
theorem Jou {e:Ev} (hv:EvV e) (hl:e.2.2.2.1.length=4) (hc:Zc e=0):Jme (Vt e)∧e.2.2.2.1.getD 0 0≤(Vt e).1:=by
 have h:=Yj (by decide) hc
 have h1:=bn1 h
 have h2:=bn1 h1.1
 have e1:=of_decide_eq_false h2.1
 have e2:=of_decide_eq_false h2.2
 have e3:=of_decide_eq_false h1.2
 have v1:0≤(Vt e).1∧(Vt e).1≤999999999:=hv _ (Je (by omega))
 have v2:0≤(Vt e).2∧(Vt e).2≤999999999:=hv _ (Je (by omega))
 exact⟨⟨v1.1,by omega,v2.2,by omega⟩,by omega⟩
theorem Jzg (hr:Jn (tk,st,S,O,M,X,Q)) (hv:tk≤v∧v≤999999999) (hvs:v=vs.getD 0 0) (hE:EvV (n,k,ns,vs,tx)) (hl:vs.length=4) (h1:0≤J0 S (ns.getD 1 Ja)) (h2:0≤J0 S (ns.getD 2 Ja)) (hc:Ja8 S O X (n,k,ns,vs,tx)=0):Jn (v,st,S,O++[(ns.getD 0 Ja,ns.getD 1 Ja,ns.getD 2 Ja,Vt (n,k,ns,vs,tx),vs.getD 3 0,(Ho S (ns.getD 1 Ja)).2.2,-1)],M,X,Q):=by
 have hk:¬Ja7 (n,k,ns,vs,tx)≠0:=fun h=>by unfold Ja8 at hc;rw[if_pos h] at hc;exact h hc
 unfold Ja8 at hc
 rw[if_neg hk] at hc
 obtain⟨c1,c2⟩:=Zq hc
 have c2:=of_decide_eq_false (Yj (by decide) c2)
 obtain⟨d1,d2,d3⟩:=Lo (show Jh [_,Zc (n,k,ns,vs,tx),Kh (vs.getD 3 0) 1 1000]=0 from Decidable.of_not_not hk)
 have d3:=Va.1 d3
 obtain⟨sp,sv⟩:=Jou hE hl d2
 have sv:vs.getD 0 0≤(Vt (n,k,ns,vs,tx)).1:=sv
 have g0:=hr.tk
 have g1:=hr.st
 dsimp only at g0 g1
 refine⟨by dsimp only;omega,by dsimp only;omega,hr.nS,by dsimp only;rw[List.length_append,List.length_singleton];omega,hr.nM,hr.nX,hr.nQ,hr.sta,fun x hx=> ?_,hr.met,hr.out,hr.per,fun x hx hh e1 e2=> ?_⟩
 ·rcases V0 hx with h|rfl
  ·exact hr.ord x h
  ·exact⟨sp,d3,(hr.sta _ (Jm4 h1)).pri,⟨Int.le_refl _,by show(-1:Int)≤999999999;decide⟩,h1,h2⟩
 ·rcases V0 hx with h|rfl
  ·exact hr.done x h hh e1 e2
  ·exfalso
   unfold Jr Ko at e1
   dsimp only at e1 e2
   cases h3:decide ((Vt (n,k,ns,vs,tx)).1≤hh) with
   |true=>have:=of_decide_eq_true h3;omega
   |false=>rw[h3] at e1;cases e1
theorem Jtw (hr:Jn (tk,st,S,O,M,X,Q)) (hv:tk≤v∧v≤999999999) (hE:EvV (n,k,ns,vs,tx)) (hl:vs.length=4) (h1:0≤J0 S (ns.getD 1 Ja)) (hc:Jb8 S O X (n,k,ns,vs,tx)=0):Jn (v,st,S,O,M,X++[(ns.getD 0 Ja,ns.getD 1 Ja,Vt (n,k,ns,vs,tx),vs.getD 3 0)],Q):=by
 have hk:¬Jhp S (n,k,ns,vs,tx)≠0:=fun h=>by unfold Jb8 at hc;rw[if_pos h] at hc;exact h hc
 unfold Jb8 at hc
 rw[if_neg hk] at hc
 obtain⟨c1,c2⟩:=Zq hc
 have c2:=of_decide_eq_false (Yj (by decide) c2)
 obtain⟨d2,d3⟩:=Zq (show Jh [Zc (n,k,ns,vs,tx),bif decide ((Ho S (ns.getD 1 Ja)).2.1≤vs.getD 3 0) then 3 else 0]=0 from Decidable.of_not_not hk)
 have d3:=of_decide_eq_false (Yj (by decide) d3)
 obtain⟨sp,sv⟩:=Jou hE hl d2
 have hl3:(Ho S (ns.getD 1 Ja)).2.1≤1000:=(hr.sta _ (Jm4 h1)).lim.2
 have v3:0≤vs.getD 3 0∧vs.getD 3 0≤999999999:=hE _ (Je (show 3<vs.length by omega))
 have hf:∀s,0≤J7 X s→0≤J7 (X++[(ns.getD 0 Ja,ns.getD 1 Ja,Vt (n,k,ns,vs,tx),vs.getD 3 0)]) s:=fun s h=>by unfold J7 at h⊢;rw[Yn h];exact h
 have g0:=hr.tk
 have g1:=hr.st
 dsimp only at g0 g1
 refine⟨by dsimp only;omega,by dsimp only;omega,hr.nS,hr.nO,hr.nM,by dsimp only;rw[List.length_append,List.length_singleton];omega,hr.nQ,hr.sta,hr.ord,hr.met,fun x hx=> ?_,fun x hx=>hf _ (hr.per x hx),hr.done⟩
 rcases V0 hx with h|rfl
 ·exact hr.out x h
 ·exact⟨sp,⟨v3.1,by dsimp only;omega⟩,h1⟩
theorem J4l (hr:Jn (tk,st,S,O,M,X,Q)) (hv:tk≤vs.getD 0 0∧vs.getD 0 0≤999999999) (ho:0≤Kp O (ns.getD 0 Ja)) (hc:Jcy O ns vs=0):Jn (vs.getD 0 0,st,S,V6 O (ns.getD 0 Ja) (vs.getD 0 0),M,X,Q):=by
 have h1:=bn1 (Yj (by decide) hc)
 have c1:(Yu O (ns.getD 0 Ja)).2.2.2.2.2.2= -1:=bne_eq_false_iff_eq.1 h1.1
 have hm:=F1 ho
 have g0:=hr.tk
 have g1:=hr.st
 dsimp only at g0 g1
 have ox:Jdj S (Yu O (ns.getD 0 Ja)):=hr.ord _ hm
 refine⟨by dsimp only;omega,by dsimp only;omega,hr.nS,by unfold V6;rw[List.length_set];exact hr.nO,hr.nM,hr.nX,hr.nQ,hr.sta,fun x hx=> ?_,hr.met,hr.out,hr.per,fun x hx hh e1 e2=> ?_⟩
 ·rcases Jbs hx with rfl|h
  ·exact⟨ox.span,ox.pow,ox.pri,⟨by dsimp only;omega,hv.2⟩,ox.fr,ox.tu⟩
  ·exact hr.ord x h
 ·rcases Jbs hx with rfl|h
  ·refine hr.done _ hm hh ?_ e2
   unfold Jr at e1⊢
   rw[c1]
   have e1:(bif Ko (Yu O (ns.getD 0 Ja)).2.2.2.1 hh then _ else false)=true:=e1
   cases h3:Ko (Yu O (ns.getD 0 Ja)).2.2.2.1 hh with
   |true=>rfl
   |false=>rw[h3] at e1;cases e1
  ·exact hr.done x h hh e1 e2
theorem Jre (hr:Jn (tk,st,S,O,M,X,Q)) (hv:tk≤vs.getD 0 0∧vs.getD 0 0≤999999999) (ho:0≤J7 X (ns.getD 0 Ja)) (hc:Jcz X Q ns vs=0):Jn (vs.getD 0 0,st,S,O,M,Jed X (ns.getD 0 Ja) (vs.getD 0 0),Q):=by
 obtain⟨c1,c2,c3⟩:=Lo hc
 have c1:=of_decide_eq_false (Yj (by decide) c1)
 have c2:=of_decide_eq_false (Yj (by decide) c2)
 have hm:=Jum ho
 have ox:Jok S (L5 X (ns.getD 0 Ja)):=hr.out _ hm
 have l1:=ox.span.lo
 have l2:=ox.span.len
 have g0:=hr.tk
 have g1:=hr.st
 dsimp only at g0 g1
 have hf:∀s,0≤J7 X s→0≤J7 (Jed X (ns.getD 0 Ja) (vs.getD 0 0)) s:=fun s h=>by
  unfold Jed
  unfold J7 at h⊢
  rw[Dv fun x hx=> ?_]
  ·exact h
  ·have:=Jfe (d:=Jbh) hx
   show((L5 X (ns.getD 0 Ja)).1.toList==s.toList)=_
   unfold L5 J7
   rw[this]
 refine⟨by dsimp only;omega,by dsimp only;omega,hr.nS,hr.nO,hr.nM,by unfold Jed;rw[List.length_set];exact hr.nX,hr.nQ,hr.sta,hr.ord,hr.met,fun x hx=> ?_,fun x hx=>hf _ (hr.per x hx),hr.done⟩
 rcases Jbs hx with rfl|h
 ·exact⟨⟨l1,by dsimp only;omega,hv.2,by dsimp only;omega⟩,ox.rest,ox.sta⟩
 ·exact hr.out x h
theorem Jtv (hr:Jn (tk,st,S,O,M,X,Q)) (hv:tk≤v∧v≤999999999) (ho:0≤J7 X (ns.getD 1 Ja)) (hc:Jc0 X Q ns vs=0):Jn (v,st,S,O,M,X,Q++[(ns.getD 0 Ja,ns.getD 1 Ja,true)]):=by
 have c2:=of_decide_eq_false (Yj (by decide) (Zq hc).2)
 have g0:=hr.tk
 have g1:=hr.st
 dsimp only at g0 g1
 refine⟨by dsimp only;omega,by dsimp only;omega,hr.nS,hr.nO,hr.nM,hr.nX,by dsimp only;rw[List.length_append,List.length_singleton];omega,hr.sta,hr.ord,hr.met,hr.out,fun x hx=> ?_,hr.done⟩
 rcases V0 hx with h|rfl
 ·exact hr.per x h
 ·exact ho
theorem Jtu (hr:Jn (tk,st,S,O,M,X,Q)) (hv:tk≤v∧v≤999999999) {a:ByteArray} (ho:0≤U2 Q a):Jn (v,st,S,O,M,X,Fz Q a):=by
 have g0:=hr.tk
 have g1:=hr.st
 dsimp only at g0 g1
 refine⟨by dsimp only;omega,by dsimp only;omega,hr.nS,hr.nO,hr.nM,hr.nX,by unfold Fz;rw[List.length_set];exact hr.nQ,hr.sta,hr.ord,hr.met,hr.out,fun x hx=> ?_,hr.done⟩
 rcases Jbs hx with rfl|h
 ·exact hr.per (Jmi Q a) (J4w ho)
 ·exact hr.per x h
theorem Jlk {u:Int} {x:Ord}:∀{m:Nat} {a:Int},L7 M u x a m=[]→∀h,a≤h→h<a+m→(Jr x h&&(decide (h<u)&&decide (Kq M x.1 h<0)))=false
 |0,a,_,h,h1,h2=>by omega
 | m + 1, a, e, h, h1, h2 => by
  unfold L7 at e
  obtain⟨e1,e2⟩:=List.append_eq_nil_iff.1 e
  by_cases ha:h=a
  ·subst ha
   cases hb:Jr x h&&(decide (h<u)&&decide (Kq M x.1 h<0)) with
   |false=>rfl
   |true=>rw[hb] at e1;cases e1
  ·exact Jlk e2 h (by omega) (by push_cast at h2;omega)
theorem Jli {u:Int}:∀{O:List Ord},Kj M u O=[]→∀x∈O,Juw M u x=[]
 |[],_,x,hx=>by cases hx
 |y::l,e,x,hx=>by
  unfold Kj at e
  obtain⟨e1,e2⟩:=List.append_eq_nil_iff.1 e
  rcases List.mem_cons.1 hx with rfl|hx
  ·exact e1
  ·exact Jli e2 x hx
theorem Jv3 {x:Ord} {h:Int} (e:Jr x h=true):x.2.2.2.1.1≤h∧h<x.2.2.2.1.2:=by
 unfold Jr Ko at e
 cases h1:decide (x.2.2.2.1.1≤h) with
 |false=>rw[h1] at e;cases e
 |true=>
  cases h2:decide (h<x.2.2.2.1.2) with
  |false=>rw[h1,h2] at e;cases e
  |true=>exact⟨of_decide_eq_true h1,of_decide_eq_true h2⟩
theorem Jtt (hr:Jn (tk,st,S,O,M,X,Q)) (hv:tk≤vs.getD 0 0∧vs.getD 0 0≤999999999) (hc:Zu st O M X Q vs=0):Jn (vs.getD 0 0,vs.getD 1 0,S,O,M,X,Q):=by
 unfold Zu at hc
 cases h1:(bif decide (vs.getD 1 0≤st) then true else decide (vs.getD 0 0<vs.getD 1 0)) with
 |true=>rw[h1] at hc;cases hc
 |false=>
  rw[h1,cond_false] at hc
  have h2:=bn1 h1
  have d1:=of_decide_eq_false h2.1
  have d2:=of_decide_eq_false h2.2
  have h3:=of_decide_eq_false (bn1 (Yj (by decide) hc)).1
  have h4:Kj M (vs.getD 1 0) O=[]:=List.eq_nil_of_length_eq_zero (by omega)
  have g0:=hr.tk
  have g1:=hr.st
  dsimp only at g0 g1
  refine⟨by dsimp only;omega,by dsimp only;omega,hr.nS,hr.nO,hr.nM,hr.nX,hr.nQ,hr.sta,hr.ord,hr.met,hr.out,hr.per,fun x hx hh e1 e2=> ?_⟩
  have hi:=Jv3 e1
  have h5:=Jlk (Jli h4 x hx) hh hi.1 (by omega)
  have e2:hh<vs.getD 1 0:=e2
  rw[e1,decide_eq_true e2,Bool.true_and,Bool.true_and] at h5
  have:=of_decide_eq_false h5
  show 0≤Kq M x.1 hh
  omega
end
theorem J4i {h:Kb} {e:Ev} (hh:Kd h) (hm:(J2 h.2.2).2.2.2.2.1.length<10000) (hc:Jc e=0) (ha:La h e=0) (hk:(e.2.1.toList==Jp.toList)=false):Jn (Jl (J2 h.2.2) e):=by
 obtain⟨n,k,ns,vs,tx⟩:=e
 have hE:=K0 hc
 have eK:=V8 (h:=h) (n:=n) (k:=k) (ns:=ns) (vs:=vs) (tx:=tx) hk
 rw[ha] at eK
 obtain⟨_,z2,z3,z4,z5⟩:=Lc eK.symm
 have hr:=Y6 hh
 clear eK ha z4
 generalize J2 h.2.2=r at*
 obtain⟨tk,st,S,O,M,X,Q⟩:=r
 have z2:¬vs.getD 0 0<tk:=z2
 have hm:M.length<10000:=hm
 have hn:ns.length=(Jj k).1.length:=hE.nn
 have hvl:(vs.length:Int)=(Jj k).2.1:=hE.nv
 have hx:∀i,i<vs.length→(0≤vs.getD i 0∧vs.getD i 0≤999999999):=fun i hi=>hE.val _ (Je hi)
 have hV:EvV (n,k,ns,vs,tx):=hE.val
 have hkd:=U4 hE.kind
 dsimp only at hkd hk
 clear hE hc hh
 rcases hkd with h|h|h|h|h|h|h|h|h|h|h<;>subst h
 ·exact absurd hk (by rw[show(Jp.toList==Jp.toList)=true from by kernel_rfl];decide)
 ·simp only[K2,List.length_cons,List.length_nil] at hn hvl z3
  simp only[ckS,K2] at z5
  obtain⟨k0,z3⟩:=Jk z3
  have e:Jl (tk,st,S,O,M,X,Q) (n,Ju,ns,vs,tx)=(vs.getD 0 0,(Ja3 (tk,st,S,O,M,X,Q) (n,Ju,ns,vs,tx)).2):=by unfold Jl doS;simp only[K2]
  rw[e]
  have hv:tk≤vs.getD 0 0∧vs.getD 0 0≤999999999:=⟨by omega,(hx 0 (by omega)).2⟩
  exact Jrd hr hv z5
 ·simp only[U7,List.length_cons,List.length_nil] at hn hvl z3
  simp only[ckS,U7] at z5
  obtain⟨k0,z3⟩:=Jk z3
  have e:Jl (tk,st,S,O,M,X,Q) (n,Ub,ns,vs,tx)=(vs.getD 0 0,(Fm (tk,st,S,O,M,X,Q) (n,Ub,ns,vs,tx)).2):=by unfold Jl doS;simp only[U7]
  rw[e]
  have hv:tk≤vs.getD 0 0∧vs.getD 0 0≤999999999:=⟨by omega,(hx 0 (by omega)).2⟩
  exact Jzf hr hv z5 (Jr4 (k0 rfl))
 ·simp only[Un,List.length_cons,List.length_nil] at hn hvl z3
  simp only[ckS,Un] at z5
  obtain⟨k0,z3⟩:=Jk z3
  obtain⟨k1,z3⟩:=Jk z3
  obtain⟨k2,z3⟩:=Jk z3
  have e:Jl (tk,st,S,O,M,X,Q) (n,Kl,ns,vs,tx)=(vs.getD 0 0,(Fq (tk,st,S,O,M,X,Q) (n,Kl,ns,vs,tx)).2):=by unfold Jl doS;simp only[Un]
  rw[e]
  have hv:tk≤vs.getD 0 0∧vs.getD 0 0≤999999999:=⟨by omega,(hx 0 (by omega)).2⟩
  exact Jzg hr hv rfl hV (by omega) (Jr4 (k1 rfl)) (Jr4 (k2 rfl)) z5
 ·simp only[Ud,List.length_cons,List.length_nil] at hn hvl z3
  simp only[ckS,Ud] at z5
  obtain⟨k0,z3⟩:=Jk z3
  have e:Jl (tk,st,S,O,M,X,Q) (n,K7,ns,vs,tx)=(vs.getD 0 0,(Fr (tk,st,S,O,M,X,Q) (n,K7,ns,vs,tx)).2):=by unfold Jl doS;simp only[Ud]
  rw[e]
  have hv:tk≤vs.getD 0 0∧vs.getD 0 0≤999999999:=⟨by omega,(hx 0 (by omega)).2⟩
  exact Jzh hr hv hm (Jyf (k0 rfl)) (fun i hi=>hx i (by omega)) z5
 ·simp only[Vd,List.length_cons,List.length_nil] at hn hvl z3
  simp only[ckS,Vd] at z5
  obtain⟨k0,z3⟩:=Jk z3
  have e:Jl (tk,st,S,O,M,X,Q) (n,Vp,ns,vs,tx)=(vs.getD 0 0,(Fl (tk,st,S,O,M,X,Q) (n,Vp,ns,vs,tx)).2):=by unfold Jl doS;simp only[Vd]
  rw[e]
  have hv:tk≤vs.getD 0 0∧vs.getD 0 0≤999999999:=⟨by omega,(hx 0 (by omega)).2⟩
  exact J4l hr hv (Jyf (k0 rfl)) z5
 ·simp only[Ku,List.length_cons,List.length_nil] at hn hvl z3
  simp only[ckS,Ku] at z5
  obtain⟨k0,z3⟩:=Jk z3
  obtain⟨k1,z3⟩:=Jk z3
  have e:Jl (tk,st,S,O,M,X,Q) (n,Jv,ns,vs,tx)=(vs.getD 0 0,(Fo (tk,st,S,O,M,X,Q) (n,Jv,ns,vs,tx)).2):=by unfold Jl doS;simp only[Ku]
  rw[e]
  have hv:tk≤vs.getD 0 0∧vs.getD 0 0≤999999999:=⟨by omega,(hx 0 (by omega)).2⟩
  exact Jtw hr hv hV (by omega) (Jr4 (k1 rfl)) z5
 ·simp only[Kg,List.length_cons,List.length_nil] at hn hvl z3
  simp only[ckS,Kg] at z5
  obtain⟨k0,z3⟩:=Jk z3
  have e:Jl (tk,st,S,O,M,X,Q) (n,Js,ns,vs,tx)=(vs.getD 0 0,(Fn (tk,st,S,O,M,X,Q) (n,Js,ns,vs,tx)).2):=by unfold Jl doS;simp only[Kg]
  rw[e]
  have hv:tk≤vs.getD 0 0∧vs.getD 0 0≤999999999:=⟨by omega,(hx 0 (by omega)).2⟩
  exact Jre hr hv (J23 (k0 rfl)) z5
 ·simp only[Kz,List.length_cons,List.length_nil] at hn hvl z3
  simp only[ckS,Kz] at z5
  obtain⟨k0,z3⟩:=Jk z3
  obtain⟨k1,z3⟩:=Jk z3
  have e:Jl (tk,st,S,O,M,X,Q) (n,Kf,ns,vs,tx)=(vs.getD 0 0,(Fp (tk,st,S,O,M,X,Q) (n,Kf,ns,vs,tx)).2):=by unfold Jl doS;simp only[Kz]
  rw[e]
  have hv:tk≤vs.getD 0 0∧vs.getD 0 0≤999999999:=⟨by omega,(hx 0 (by omega)).2⟩
  exact Jtv hr hv (J23 (k1 rfl)) z5
 ·simp only[Ky,List.length_cons,List.length_nil] at hn hvl z3
  simp only[ckS,Ky] at z5
  obtain⟨k0,z3⟩:=Jk z3
  have e:Jl (tk,st,S,O,M,X,Q) (n,Ke,ns,vs,tx)=(vs.getD 0 0,(Jgs (tk,st,S,O,M,X,Q) (n,Ke,ns,vs,tx)).2):=by unfold Jl doS;simp only[Ky]
  rw[e]
  have hv:tk≤vs.getD 0 0∧vs.getD 0 0≤999999999:=⟨by omega,(hx 0 (by omega)).2⟩
  exact Jtu hr hv (Khd (k0 rfl))
 ·simp only[Kt,List.length_cons,List.length_nil] at hn hvl z3
  simp only[ckS,Kt] at z5
  have e:Jl (tk,st,S,O,M,X,Q) (n,Jd,ns,vs,tx)=(vs.getD 0 0,(Ja2 (tk,st,S,O,M,X,Q) (n,Jd,ns,vs,tx)).2):=by unfold Jl doS;simp only[Kt]
  rw[e]
  have hv:tk≤vs.getD 0 0∧vs.getD 0 0≤999999999:=⟨by omega,(hx 0 (by omega)).2⟩
  exact Jtt hr hv z5
theorem J5n {r:Reg} {e:Ev}:(doS r e).2.2.2.2.1.length≤r.2.2.2.2.1.length+1:=by
 obtain⟨tk,st,S,O,M,X,Q⟩:=r
 obtain⟨n,k,ns,vs,tx⟩:=e
 unfold doS
 split<;>first|exact Nat.le_succ _|(show(M++[_]).length≤M.length+1;simp)
structure V9 (h:Kb):Prop where
 ok:Kd h
 met:∀r∈h.2.2,r.2.2.2.2.1.length≤h.1.length
theorem Juq {h:Kb} (hi:V9 h):(J2 h.2.2).2.2.2.2.1.length≤h.1.length:=by
 unfold J2
 by_cases h0:0<h.2.2.length
 ·exact hi.met _ (Je (by omega))
 ·have:h.2.2=[]:=List.eq_nil_of_length_eq_zero (by omega)
  rw[this];exact Nat.zero_le _
theorem add_zero {h:Kb} {e:Ev} (ha:Kv h e=0):Jc e=0∧La h e=0:=by
 unfold Kv at ha
 by_cases hc:Jc e≠0
 ·rw[if_pos hc] at ha;exact absurd ha hc
 ·rw[if_neg hc] at ha;exact⟨Decidable.of_not_not hc,ha⟩
theorem Ft {h:Kb} {e:Ev} (hi:V9 h) (hl:h.1.length<1000) (ha:Kv h e=0):V9 (Ha h e):=by
 obtain⟨hc,hacc⟩:=add_zero ha
 obtain⟨E,C,G⟩:=h
 obtain⟨n1,n2,n3,hr⟩:=hi.ok
 have hm:=Juq hi
 dsimp only at n1 n2 n3 hr hl hm
 cases hk:e.2.1.toList==Jp.toList with
 |true=>
  unfold Ha
  rw[hk,cond_true]
  refine⟨⟨by simp;omega,by simp;omega,by simp;omega,fun r hx=>hr r (List.mem_of_mem_take hx)⟩,fun r hx=> ?_⟩
  have:r.2.2.2.2.1.length≤E.length:=hi.met r (List.mem_of_mem_take hx)
  simp only[List.length_append,List.length_singleton]
  omega
 | false =>
  have hs:=J4i hi.ok (Nat.lt_of_le_of_lt hm (by omega)) hc hacc hk
  unfold Ha
  rw[hk,cond_false]
  refine⟨⟨by simp;omega,by simp;omega,by simp;omega,fun r hx=> ?_⟩,fun r hx=> ?_⟩
  ·rcases V0 hx with h|rfl
   ·exact hr r h
   ·exact hs
  ·rcases V0 hx with h|rfl
   ·have:r.2.2.2.2.1.length≤E.length:=hi.met r h
    simp only[List.length_append,List.length_singleton]
    omega
   ·have:=J5n (r:=J2 G) (e:=e)
    simp only[List.length_append,List.length_singleton]
    show(doS (J2 G) e).2.2.2.2.1.length≤_
    omega
theorem Xl {h:Kb} {e:Ev}:(Ha h e).1.length=h.1.length+1:=by
 unfold Ha
 cases e.2.1.toList==Jp.toList<;>simp
def V7:Kb:=([],[],[])
theorem Xk:V9 V7:=⟨⟨by decide,by decide,rfl,fun _ h=>(by cases h)⟩,fun _ h=>(by cases h)⟩
def Xs:Kb→List Ev→Kb×Int×Int
 |h,[]=>(h,0,0)
 |h,e::l=>if Kv h e=0 then Xs (Ha h e) l else(h,h.1.length+1,Kv h e)
def Jb (l:List Ev):Kb×Int×Int:=if 1000<l.length then(V7,0,5) else Xs V7 l
def Ji (l:List Ev):Reg:=if(Jb l).2.2=0 then J2 (Jb l).1.2.2 else U1
def lOk (l:List Ev):Prop:=l.length≤1000000∧∀e∈l,Jb5 e
def J5t:Con:={args:=[.val false (.list 67 sEv)],ress:=[(true,Jj7),I,I],owns:=[],pre:=fun(l,_)=>[lOk l],spec:=fun(l,_)=>(Ji l,(Jb l).2.1,(Jb l).2.2,())}
abbrev Jy6:List SC:=[.int .i64 0, .int .i64 0, .val (.slice none 0 0), .val (.slice none 0 0), .val (.slice none 0 0), .val (.slice none 0 0), .val (.slice none 0 0)]
abbrev Kc7 (l:List Ev):Ann:={X:=Kb×Nat,σ:=fun(h,k)=>⟨7,[(5, .one (.ptr 3 0)),(14, .one (.sl 0)),(15, .one (.int .i64 l.length)),(16, .one (.int .i64 k))],[(0, .imm 67 sEv l),(1, .box 105 Jy6),(2, .sus [(2, .one (.ptr 1 0))]),(3, .box 167 [.sl 4, .sl 5, .sl 6]),(4, .own 67 sEv h.1),(5, .own 67 sEv h.2.1),(6, .own 105 Jj7 h.2.2)]⟩,inv:=fun(h,k)=>V9 h∧h.1.length=k∧k≤l.length∧l.length≤1000∧Xs h (l.drop k)=Jb l,mu:=fun(_,k)=>l.length-k}
def Z31 (a:Kb×Nat) (b:List Ev):=Bd (Nc a.2) (Ln b)
def Z33 (a:Kb×Nat):=Iw (Nc a.2+1)
def Z90 (a:List Ev):=decide (1000<Ln a)
def Jy1 (a:Kb×Nat) (b:List Ev):=decide (Nc a.2<Ln b)
def Jqu (a:Kb×Nat) (b:(List Ev×List Ev×List Reg)×Nat):=Nc a.2+1=Nc b.2
def Vi:=Value.slice none 0 0
def J33 (a:Kb×Nat) (b:List Ev):=Nc a.2+1=(Jb b).2.1
def Jsj (a:Kb×Nat):=(a.1.1,E2 a.1.2)
def J3z (a:Kb×Nat):=Kd (Jsj a)
def Kgf (a:List Ev):=0=(Jb a).2.1∧0=(Jb a).2.2
def J3r (a:List Ev) (b:Kb×Nat):=List.getD a b.2 D9
def J3o (a:List Ev) (b:Kb×Nat):=(J3r a b).2
def Jyq (a:List Ev) (b:Kb×Nat):=(J3o a b).2
def Jof (a:List Ev):=Vr=Ji a
def Kkk (a:Kb×Nat):=Iw (Ln a.1.2.2-1)∧Tw (Bd (Ln a.1.2.2-1) (Ln a.1.2.2))
def J9p (a:(List Ev×List Ev×List Reg)×Nat):=List.length a.1.1=0∧List.length a.1.2.1=0∧List.length a.1.2.2=0
def Kjj (a:Kb×Nat):=Gt a.1.2.2 (Ln a.1.2.2-1) Vr
def Kjh (a:Kb×Nat):=(Kjj a).2
def J64 (a:(List Ev×List Ev×List Reg)×Nat) (b:List Ev):=List.length a.1.1=a.2∧a.2≤List.length b∧List.length b≤1000∧Xs a.1 (List.drop a.2 b)=Jb b
def Kfb (a:Kb×Nat):=(Kjh a).2
def J63 (a:Kb×Nat) (b:List Ev):=List.length a.1.1=a.2∧a.2≤List.length b∧List.length b≤1000∧Xs a.1 (List.drop a.2 b)=Jb b
def Ke9 (a:Kb×Nat):=(Kfb a).2
def Ke7 (a:Kb×Nat):=(Ke9 a).2
def Ke6 (a:Kb×Nat):=(Ke7 a).2
def J3l (a:Kb×Nat) (b:List Ev):=V9 a.1∧J63 a b
def J1m (a:(List Ev×List Ev×List Reg)×Nat) (b:List Ev):=V9 a.1∧J64 a b
def Kiq (a:List Ev):=Jof a∧0=(Jb a).2.1∧5=(Jb a).2.2
def Kwo (a:List Ev):=Sf true (Jof a∧Kgf a)
def J3j (a:(List Ev×List Ev×List Reg)×Nat) (b:List Ev) (c:Kb×Nat):=J1m a b∧List.length b-a.2<List.length b-c.2
def Js2 (a:List Ev) (b:Kb×Nat):=((J3r a b).1,(J3o a b).1,(Jyq a b).1,E2 (Jyq a b).2)
def Jyk (a:Kb×Nat) (b:List Ev):=Kv (Jsj a) (Js2 b a)
def J87 (a:Kb×Nat) (b:List Ev):=U9 (Jsj a) (Js2 b a)
def J86 (a:Kb×Nat) (b:List Ev):=(J87 a b).2
def Khn (a:(List Ev×List Ev×List Reg)×Nat):=Si 0 (Si 0 (Sf Vi (Sf Vi (Sf Vi (Sf Vi (Sf Vi (J9p a)))))))
def J3g (a:Kb×Nat) (b:List Ev):=J3z a∧List.length a.1.1<1000∧Jb5 (Js2 b a)
def Jyj (a:Kb×Nat) (b:List Ev):=Jyk a b !=0
def Jxy (a:Kb×Nat):=((Kjj a).1,(Kjh a).1,(Kfb a).1,(Ke9 a).1,(Ke7 a).1,E2 (Ke6 a))
def J2c (a:Kb×Nat) (b:List Ev):=Jxy a=Ji b
def Jsl (a:Kb×Nat) (b:List Ev) (c:(List Ev×List Ev×List Reg)×Nat):=(J87 a b).1=c.1.1∧(J86 a b).1=c.1.2.1∧(J86 a b).2=c.1.2.2
def J14 (a:Kb×Nat) (b:List Ev) (c:(List Ev×List Ev×List Reg)×Nat):=Si 0 (Si 0 (Sf Vi (Sf Vi (Sf Vi (Sf Vi (Sf Vi (Jsl a b c)))))))
theorem K5h:Ok Tryz.prog 54 J5t:=Jyd W93 Tryz.f54 (Uy (l:=([(74,Tryz.f74),(75,Tryz.f75),(129,Tryz.f129)]:List (Nat×Func))) (List.forall_mem_cons.2 ⟨by kernel_rfl,List.forall_mem_cons.2 ⟨by kernel_rfl,List.forall_mem_cons.2 ⟨by kernel_rfl,by simp⟩⟩⟩)) (fun xx=>na ()) (fun xx=>fun f id=>if f=74 then some (Kc7 xx.1) else none) fun xx=>by
 obtain⟨(l:List Ev),_⟩:=xx
 refine(by kernel_rfl:(lOk l→Br (Z90 l) (Br true (Sf true (Kiq l)) False) (∃(x:(List Ev×List Ev×List Reg)×Nat),Si (Ln l) (0=Nc x.2∧Sf l (Khn x))∧J1m x l∧∀(x:Kb×Nat),J3l x l→Br (Jy1 x l) (Tw (Z31 x l)∧J3g x l∧Br (Jyj x l) (Z33 x∧Br (Jyj x l) (Sf true (Jof l∧J33 x l∧Jyk x l=(Jb l).2.2)) False) (Z33 x∧∃(y:(List Ev×List Ev×List Reg)×Nat),Si (Ln l) (Jqu x y∧Sf l (J14 x l y))∧J3j y l x)) (Br false (Kwo l) (Br (decide (0<Ln x.1.2.2)) (Kkk x∧(List.length (Kfb x).1≤1000000∧List.length (Ke9 x).1≤1000000∧List.length (Ke7 x).1≤1000000∧List.length (Ke6 x).1≤1000000∧List.length (Ke6 x).2≤1000000)∧Sf true (J2c x l∧Kgf l)) (Jc5∧Kwo l)))))=_).mp ?_
 delta Z31 Z33 Z90 Jy1 Jqu Vi J33 Jsj D9 J3z Kgf J3r J3o Jyq L9 Jc5 Vr Jof Kkk J9p Kjj Kjh J64 Kfb J63 Ke9 Ke7 Ke6 J3l J1m Kiq Kwo J3j Js2 Jyk J87 J86 Khn J3g Jyj Jxy J2c Jsl J14 Br Iw Bd T2 Tw Sf Si Ln Nc Gt B0 E2
 intro hl
 refine⟨fun h=> ?_,fun h=> ?_⟩
 ·have e:Jb l=(V7,0,5):=by unfold Jb;rw[if_pos (by have:=of_decide_eq_true h;omega)]
  refine⟨fun _=>⟨rfl, ?_,by rw[e],by rw[e]⟩,fun h=>by cases h⟩
  unfold Ji;rw[e];rfl
 have hn:l.length≤1000:=by have:=of_decide_eq_false h;omega
 have e0:Jb l=Xs V7 l:=by unfold Jb;rw[if_neg (by omega)]
 refine⟨(V7,(0:Nat)),⟨rfl,rfl,rfl,rfl,rfl,rfl,rfl,rfl,rfl,rfl,rfl,rfl,rfl⟩,⟨Xk,rfl,Nat.zero_le _,hn,e0.symm⟩,fun(x:Kb×Nat) hx=>⟨fun h1=> ?_,fun h1=> ?_⟩⟩
 ·obtain⟨g,k⟩:=x
  obtain⟨hi,hk,hk2,_,hrun⟩:=hx
  dsimp only at hi hk hk2 hrun
  have hlt:k<l.length:=by simpa using h1
  rw[Jz (d:=ev0) hlt,Xs] at hrun
  have hz:=hl.2 _ (Je (d:=ev0) hlt)
  refine⟨⟨⟨by dsimp only;omega,by dsimp only;omega⟩,by dsimp only;omega,by dsimp only;omega⟩,⟨hi.ok,by show g.1.length<1000;omega,hz⟩,fun h2=>⟨by dsimp only;omega,fun h3=> ?_,fun h3=> ?_⟩,fun h2=>⟨by dsimp only;omega,(Ha g (l.getD k ev0),k+1), ?_,⟨?_, ?_,by dsimp only;omega,hn, ?_⟩,by dsimp only;omega⟩⟩
  ·have h2:Kv g (l.getD k ev0)≠0:=bne_iff_ne.1 h2
   rw[if_neg h2] at hrun
   rw[←hrun]
   refine⟨rfl, ?_, ?_,rfl⟩
   ·unfold Ji;rw[←hrun];dsimp only;rw[if_neg h2];rfl
   ·show((k:Nat):Int)+1=(g.1.length:Int)+1;rw[hk]
  ·have h2:Kv g (l.getD k ev0)≠0:=bne_iff_ne.1 h2
   exact absurd (bne_eq_false_iff_eq.1 h3) h2
  ·have h2:Kv g (l.getD k ev0)=0:=bne_eq_false_iff_eq.1 h2
   have eP:U9 g (l.getD k ev0)=Ha g (l.getD k ev0):=by unfold U9;rw[if_pos h2]
   refine⟨rfl,by simp,rfl,rfl,rfl,rfl,rfl,rfl,rfl,rfl, ?_, ?_, ?_⟩
   ·show(U9 g (l.getD k ev0)).1=_;rw[eP]
   ·show(U9 g (l.getD k ev0)).2.1=_;rw[eP]
   ·show(U9 g (l.getD k ev0)).2.2=_;rw[eP]
  ·exact Ft hi (by omega) (bne_eq_false_iff_eq.1 h2)
  ·show(Ha g (l.getD k ev0)).1.length=k+1
   rw[Xl,hk]
  ·have h2:Kv g (l.getD k ev0)=0:=bne_eq_false_iff_eq.1 h2
   rw[if_pos h2] at hrun
   exact hrun
 ·obtain⟨g,k⟩:=x
  obtain⟨hi,hk,hk2,_,hrun⟩:=hx
  dsimp only at hi hk hk2 hrun
  have hlt:¬k<l.length:=by simpa using h1
  have:k=l.length:=by omega
  rw[this,List.drop_length,Xs] at hrun
  have eR:Ji l=J2 g.2.2:=by unfold Ji;rw[←hrun];rfl
  have hR:=Y6 hi.ok
  have hGl:((g.2.2.length:Int)-1).toNat=g.2.2.length-1:=by omega
  have hb:g.2.2.length≤1000:=by have:=hi.ok.nG;have:=hi.ok.nC;have:=hi.ok.nE;omega
  refine⟨fun f=>(by cases f),fun _=>⟨fun h2=> ?_,fun h2=> ?_⟩⟩
  ·have h2:(0:Int)<g.2.2.length:=of_decide_eq_true h2
   dsimp only
   rw[hGl]
   refine⟨⟨⟨by omega,by omega⟩,⟨by omega,by omega⟩,by omega,by omega⟩,⟨Nat.le_trans hR.nS (by decide),Nat.le_trans hR.nO (by decide),Nat.le_trans hR.nM (by decide),Nat.le_trans hR.nX (by decide),Nat.le_trans hR.nQ (by decide)⟩,rfl,eR.symm, ?_, ?_⟩
   ·rw[←hrun]
   ·rw[←hrun]
  ·have e1:=Kn h2
   rw[e1] at eR
   refine⟨by decide,rfl,eR.symm, ?_, ?_⟩
   ·rw[←hrun]
   ·rw[←hrun]
abbrev W94:=W93.add K5h
def K6c:Con:={args:=[aS, .ref 105 Jj7],ress:=[I],owns:=[],pre:=fun(_,r,_)=>[Jn r],spec:=fun(s,r,_)=>(bif !Vl r 0 s then 10 else 0,())}
theorem Kqb:Ok Tryz.prog 139 K6c:=okW W94 Tryz.f139 na fun xx=>by
 obtain⟨(s:ByteArray),⟨(tk:Int),(st:Int),(S:List Sta),(O:List Ord),(M:List Met),(X:List Out),(Q:List Per)⟩,_⟩:=xx
 refine(by kernel_rfl:(Jx tk st S O M X Q→Jx tk st S O M X Q∧(bif !Vl (Z65 tk st S O M X Q) (0:Int) s then(10:Int) else(0:Int))=bif !Vl (Z65 tk st S O M X Q) (0:Int) s then(10:Int) else(0:Int))=_).mp ?_
 delta Z65 Jx
 intro hr
 exact⟨hr,rfl⟩
abbrev W95:=W94.add Kqb
def opE (l:List Ev) (ns:List ByteArray):Int:=if(Jb l).2.2=0 then Jh (ns.map fun s=>bif !Vl (Ji l) 0 s then 10 else 0) else(Jb l).2.2
def Krq:Con:={args:=[.val false (.list 67 sEv), .val false (.list 9 .str)],ress:=[(true,Jj7),I],owns:=[],pre:=fun(l,ns,_)=>[lOk l,ns.length≤1000000],spec:=fun(l,ns,_)=>(Ji l,opE l ns,())}
abbrev J6l (l:List Ev) (ns:List ByteArray):Ann:={X:=Kb×Nat,σ:=fun(h,k)=>⟨9,[(5, .one (.ptr 4 0)),(14, .one (.sl 0)),(15, .one (.int .i64 l.length)),(16, .one (.int .i64 k))],[(0, .imm 67 sEv l),(1, .imm 9 .str ns),(2, .box 105 Jy6),(3, .sus [(1, .one (.sl 1)),(4, .one (.ptr 2 0))]),(4, .box 167 [.sl 6, .sl 7, .sl 8]),(6, .own 67 sEv h.1),(7, .own 67 sEv h.2.1),(8, .own 105 Jj7 h.2.2)]⟩,inv:=fun(h,k)=>V9 h∧h.1.length=k∧k≤l.length∧l.length≤1000∧Xs h (l.drop k)=Jb l,mu:=fun(_,k)=>l.length-k}
def Kj7 (a:Bt):= !Vl Vr 0 a
def Kv0 (a:Ls):=List.map (fun(x:ByteArray)=>match Kj7 x with|true=>(10:Int)|false=>(0:Int)) a
def J8i (a:Kb×Nat) (b:Ls):=List.map (fun(x:ByteArray)=>match !Vl (Jxy a) (0:Int) x with|true=>(10:Int)|false=>(0:Int)) b
theorem K5c:Ok Tryz.prog 68 Krq:=Jyd W95 Tryz.f68 (Uy (l:=([(74,Tryz.f74),(75,Tryz.f75)]:List (Nat×Func))) (List.forall_mem_cons.2 ⟨by kernel_rfl,List.forall_mem_cons.2 ⟨by kernel_rfl,by simp⟩⟩)) (fun xx=>na ()) (fun xx=>fun f id=>if f=74 then some (J6l xx.1 xx.2.1) else none) fun xx=>by
 obtain⟨(l:List Ev),(ns:List ByteArray),_⟩:=xx
 refine(by kernel_rfl:(lOk l→Jag ns→Br (Z90 l) (Br true (Sf true (Jof l∧5=opE l ns)) False) (∃(x:(List Ev×List Ev×List Reg)×Nat),Si (Ln l) (0=Nc x.2∧Sf l (Sf ns (Khn x)))∧J1m x l∧∀(x:Kb×Nat),J3l x l→Br (Jy1 x l) (Tw (Z31 x l)∧J3g x l∧Br (Jyj x l) (Z33 x∧Br (Jyj x l) (Sf true (Jof l∧Jyk x l=opE l ns)) False) (Z33 x∧∃(y:(List Ev×List Ev×List Reg)×Nat),Si (Ln l) (Jqu x y∧Sf l (Sf ns (J14 x l y)))∧J3j y l x)) (Br false (Sf true (Jof l∧0=opE l ns)) (Br (decide (0<Ln x.1.2.2)) (Kkk x∧(Jag ns∧(∀(x_1:ByteArray),Jgd ns x_1→Jn (Jxy x))∧List.length (J8i x ns)≤1000000)∧Sf true (J2c x l∧Jh (J8i x ns)=opE l ns)) ((Jag ns∧(∀(x:ByteArray),Jgd ns x→Yt)∧List.length (Kv0 ns)≤1000000)∧Sf true (Jof l∧Jh (Kv0 ns)=opE l ns))))))=_).mp ?_
 delta Z31 Z33 Z90 Jy1 Jag Jqu Vi Jsj D9 J3z Jgd J3r J3o Jyq L9 Vr Yt Jof Kkk J9p Kj7 Kjj Kjh J64 Kfb J63 Ke9 Ke7 Ke6 J3l J1m Kv0 J3j Js2 Jyk J87 J86 Khn J3g Jyj Jxy J2c J8i Jsl J14 Br Iw Bd Tw Sf Si Ln Nc Gt B0 E2
 intro hl hns
 refine⟨fun h=> ?_,fun h=> ?_⟩
 ·have e:Jb l=(V7,0,5):=by unfold Jb;rw[if_pos (by have:=of_decide_eq_true h;omega)]
  refine⟨fun _=>⟨rfl, ?_, ?_⟩,fun h=>by cases h⟩
  ·unfold Ji;rw[e];rfl
  ·unfold opE;rw[e];rfl
 have hn:l.length≤1000:=by have:=of_decide_eq_false h;omega
 have e0:Jb l=Xs V7 l:=by unfold Jb;rw[if_neg (by omega)]
 refine⟨(V7,(0:Nat)),⟨rfl,rfl,rfl,rfl,rfl,rfl,rfl,rfl,rfl,rfl,rfl,rfl,rfl,rfl⟩,⟨Xk,rfl,Nat.zero_le _,hn,e0.symm⟩,fun(x:Kb×Nat) hx=>⟨fun h1=> ?_,fun h1=> ?_⟩⟩
 ·obtain⟨g,k⟩:=x
  obtain⟨hi,hk,hk2,_,hrun⟩:=hx
  dsimp only at hi hk hk2 hrun
  have hlt:k<l.length:=by simpa using h1
  rw[Jz (d:=ev0) hlt,Xs] at hrun
  have hz:=hl.2 _ (Je (d:=ev0) hlt)
  refine⟨⟨⟨by dsimp only;omega,by dsimp only;omega⟩,by dsimp only;omega,by dsimp only;omega⟩,⟨hi.ok,by show g.1.length<1000;omega,hz⟩,fun h2=>⟨by dsimp only;omega,fun h3=> ?_,fun h3=> ?_⟩,fun h2=>⟨by dsimp only;omega,(Ha g (l.getD k ev0),k+1), ?_,⟨?_, ?_,by dsimp only;omega,hn, ?_⟩,by dsimp only;omega⟩⟩
  ·have h2:Kv g (l.getD k ev0)≠0:=bne_iff_ne.1 h2
   rw[if_neg h2] at hrun
   refine⟨rfl, ?_, ?_⟩
   ·unfold Ji;rw[←hrun];dsimp only;rw[if_neg h2];rfl
   ·unfold opE;rw[←hrun];dsimp only;rw[if_neg h2];rfl
  ·have h2:Kv g (l.getD k ev0)≠0:=bne_iff_ne.1 h2
   exact absurd (bne_eq_false_iff_eq.1 h3) h2
  ·have h2:Kv g (l.getD k ev0)=0:=bne_eq_false_iff_eq.1 h2
   have eP:U9 g (l.getD k ev0)=Ha g (l.getD k ev0):=by unfold U9;rw[if_pos h2]
   refine⟨rfl,by simp,rfl,rfl,rfl,rfl,rfl,rfl,rfl,rfl,rfl, ?_, ?_, ?_⟩
   ·show(U9 g (l.getD k ev0)).1=_;rw[eP]
   ·show(U9 g (l.getD k ev0)).2.1=_;rw[eP]
   ·show(U9 g (l.getD k ev0)).2.2=_;rw[eP]
  ·exact Ft hi (by omega) (bne_eq_false_iff_eq.1 h2)
  ·show(Ha g (l.getD k ev0)).1.length=k+1
   rw[Xl,hk]
  ·have h2:Kv g (l.getD k ev0)=0:=bne_eq_false_iff_eq.1 h2
   rw[if_pos h2] at hrun
   exact hrun
 ·obtain⟨g,k⟩:=x
  obtain⟨hi,hk,hk2,_,hrun⟩:=hx
  dsimp only at hi hk hk2 hrun
  have hlt:¬k<l.length:=by simpa using h1
  have:k=l.length:=by omega
  rw[this,List.drop_length,Xs] at hrun
  have eR:Ji l=J2 g.2.2:=by unfold Ji;rw[←hrun];rfl
  have hR:=Y6 hi.ok
  have hGl:((g.2.2.length:Int)-1).toNat=g.2.2.length-1:=by omega
  have hb:g.2.2.length≤1000:=by have:=hi.ok.nG;have:=hi.ok.nC;have:=hi.ok.nE;omega
  have eO:opE l ns=Jh (ns.map fun s=>bif !Vl (J2 g.2.2) 0 s then 10 else 0):=by unfold opE;rw[←hrun,eR];rfl
  refine⟨fun f=>(by cases f),fun _=>⟨fun h2=> ?_,fun h2=> ?_⟩⟩
  ·have h2:(0:Int)<g.2.2.length:=of_decide_eq_true h2
   dsimp only
   rw[hGl]
   exact⟨⟨⟨by omega,by omega⟩,⟨by omega,by omega⟩,by omega,by omega⟩,⟨hns,fun _ _=>hR,by rw[List.length_map];exact hns⟩,rfl,eR.symm,eO.symm⟩
  ·have e1:=Kn h2
   rw[e1] at eR eO hR
   exact⟨⟨hns,fun _ _=>hR,by rw[List.length_map];exact hns⟩,rfl,eR.symm,eO.symm⟩
abbrev W96:=W95.add K5c
theorem Jt4:∀{l:List Ev} {h:Kb},V9 h→h.1.length+l.length≤1000→V9 (Xs h l).1
 |[],_,hi,_=>hi
 | e :: l, h, hi, hl => by
  unfold Xs
  simp only[List.length_cons] at hl
  by_cases ha:Kv h e=0
  ·rw[if_pos ha]
   exact Jt4 (Ft hi (by omega) ha) (by rw[Xl];omega)
  ·rw[if_neg ha];exact hi
theorem Jeh {l:List Ev}:V9 (Jb l).1:=by
 unfold Jb
 by_cases h:1000<l.length
 ·rw[if_pos h];exact Xk
 ·rw[if_neg h];exact Jt4 Xk (by show 0+l.length≤1000;omega)
theorem Zj {l:List Ev}:Jn (Ji l):=by
 unfold Ji
 by_cases h:(Jb l).2.2=0
 ·rw[if_pos h];exact Y6 Jeh.ok
 ·rw[if_neg h];exact Y6 Xk.ok
def Jgk (l:List Ev) (s:ByteArray) (h:Int):Int:=Jh [opE l [s],Kh h 0 999999999]
def Jt7 (l:List Ev) (s:ByteArray) (h:Int):Int:=if Jgk l s h=0 then Xo (Ji l).2.2.1 (Ji l).2.2.2.1 (Ji l).2.2.2.2.2.1 s h else 0
def J5s:Con:={args:=[.val false (.list 67 sEv),aS,aI],ress:=[I,I],owns:=[],pre:=fun(l,_)=>[lOk l],spec:=fun(l,s,h,_)=>(Jt7 l s h,Jgk l s h,())}
theorem Ka7 {l:List Ev} {s:ByteArray} (h:opE l [s]=0):0≤J0 (Ji l).2.2.1 s:=by
 unfold opE at h
 by_cases h0:(Jb l).2.2=0
 ·rw[if_pos h0] at h
  have h1:=Ua.1 h _ (List.mem_map_of_mem (List.mem_cons_self ..))
  have h2:=Yj (by decide) h1
  exact Jr4 (by simpa using h2)
 ·rw[if_neg h0] at h;exact absurd h h0
def Kgr (a:Int):=[Z71 a]
def J1n (a:List Ev):=((Ji a).1,(Ji a).2.1,(Ji a).2.2.1,(Ji a).2.2.2.1,(Ji a).2.2.2.2.1,E2 (Ji a).2.2.2.2.2)
def Jxk (a:List Ev):=Jn (J1n a)
theorem K5v:Ok Tryz.prog 25 J5s:=okW W96 Tryz.f25 na fun xx=>by
 obtain⟨(l:List Ev),(s:ByteArray),(h:Int),_⟩:=xx
 refine(by kernel_rfl:(lOk l→(lOk l∧1≤1000000)∧2≤1000000∧Br (Jh (opE l [s]::Kgr h) !=0) (0=Jt7 l s h∧Jh (opE l [s]::Kgr h)=Jgk l s h) ((Jxk l∧0≤J0 (Ji l).2.2.1 s)∧Xo (Ji l).2.2.1 (Ji l).2.2.2.1 (Ji l).2.2.2.2.2.1 s h=Jt7 l s h∧0=Jgk l s h))=_).mp ?_
 delta Z71 Kgr J1n Jxk Br E2
 intro hl
 refine⟨⟨hl,by decide⟩,by decide,fun e=> ?_,fun e=> ?_⟩
 ·have e:Jgk l s h≠0:=bne_iff_ne.1 e
  exact⟨by unfold Jt7;rw[if_neg e],rfl⟩
 ·have e:Jgk l s h=0:=bne_eq_false_iff_eq.1 e
  exact⟨⟨Zj,Ka7 (Zq e).1⟩,by unfold Jt7;rw[if_pos e],e.symm⟩
abbrev W97:=W96.add K5v
def Jrv (l:List Ev) (h:Int):Int:=Jh [opE l [],Kh h 0 999999999]
def Jau (l:List Ev) (h:Int):List Gap×Int:=if Jrv l h=0 then(if 256<(Kj (Ji l).2.2.2.2.1 h (Ji l).2.2.2.1).length then([],5) else(Kj (Ji l).2.2.2.2.1 h (Ji l).2.2.2.1,0)) else([],Jrv l h)
def J5w:Con:={args:=[.val false (.list 67 sEv),aI],ress:=[(false, .list 200 J2s),I],owns:=[],pre:=fun(l,_)=>[lOk l],spec:=fun(l,h,_)=>((Jau l h).1,(Jau l h).2,())}
def Z10 (a:List Ev):=opE a []
def J36 (a:List Ev):=lOk a∧0≤1000000
def K1l (a:List Ev) (b:Int):=Jh (Z10 a::Kgr b)
theorem K5u:Ok Tryz.prog 26 J5w:=okW W97 Tryz.f26 na fun xx=>by
 obtain⟨(l:List Ev),(h:Int),_⟩:=xx
 refine(by kernel_rfl:(lOk l→J36 l∧2≤1000000∧Br (K1l l h !=0) (Z36=(Jau l h).1∧K1l l h=(Jau l h).2) (Jxk l∧Br (decide (256<Ln (Kj (Ji l).2.2.2.2.1 h (Ji l).2.2.2.1))) (Z36=(Jau l h).1∧5=(Jau l h).2) (Kj (Ji l).2.2.2.2.1 h (Ji l).2.2.2.1=(Jau l h).1∧0=(Jau l h).2)))=_).mp ?_
 delta Z10 Z36 Z71 J36 Kgr K1l J1n Jxk Br Ln E2
 intro hl
 refine⟨⟨hl,by decide⟩,by decide,fun e=> ?_,fun e=>⟨Zj,fun q=> ?_,fun q=> ?_⟩⟩
 ·have e:Jrv l h≠0:=bne_iff_ne.1 e
  unfold Jau;rw[if_neg e]
  exact⟨rfl,rfl⟩
 ·have e:Jrv l h=0:=bne_eq_false_iff_eq.1 e
  have q:256<(Kj (Ji l).2.2.2.2.1 h (Ji l).2.2.2.1).length:=Int.ofNat_lt.1 (of_decide_eq_true q)
  unfold Jau;rw[if_pos e,if_pos q]
  exact⟨rfl,rfl⟩
 ·have e:Jrv l h=0:=bne_eq_false_iff_eq.1 e
  have q:¬256<(Kj (Ji l).2.2.2.2.1 h (Ji l).2.2.2.1).length:=fun h=>of_decide_eq_false q (Int.ofNat_lt.2 h)
  unfold Jau;rw[if_pos e,if_neg q]
  exact⟨rfl,rfl⟩
abbrev W98:=W97.add K5u
def Js1 (l:List Ev) (e:Ev):Int:=Jh [(Jb l).2.2,Jc e,bif decide ((1000:Int)≤l.length) then 5 else 0]
def Jsf (l:List Ev) (e:Ev):Int:=if Js1 l e=0 then La (Jb l).1 e else Js1 l e
def J03:Con:={args:=[.val false (.list 67 sEv),aEv],ress:=[I],owns:=[],pre:=fun(l,e,_)=>[lOk l,Jb5 e],spec:=fun(l,e,_)=>(Jsf l e,())}
abbrev J6k (l:List Ev) (n:Int) (kk:ByteArray) (ns:List ByteArray) (vs:List Int) (tx:ByteArray):Ann:={X:=Kb×Nat,σ:=fun(h,k)=>⟨10,[(5, .one (.ptr 5 0)),(14, .one (.sl 0)),(15, .one (.int .i64 l.length)),(16, .one (.int .i64 k))],[(0, .imm 67 sEv l),(1, .imm 9 .str ns),(2, .imm 3 sI vs),(3, .box 67 [.int .i64 n, .str kk, .sl 1, .sl 2, .str tx]),(4, .sus [(0, .one (.sl 0)),(3, .one (.ptr 3 0))]),(5, .box 167 [.sl 7, .sl 8, .sl 9]),(7, .own 67 sEv h.1),(8, .own 67 sEv h.2.1),(9, .own 105 Jj7 h.2.2)]⟩,inv:=fun(h,k)=>V9 h∧h.1.length=k∧k≤l.length∧l.length≤1000∧Xs h (l.drop k)=Jb l,mu:=fun(_,k)=>l.length-k}
def Klu (a:List Ev):=[bif decide ((1000:Int)≤Ln a) then(5:Int) else(0:Int)]
def J9q (a:Int) (b:Bt) (c:Ls) (d:Li) (e:Bt) (f:List Ev):=Z66 a b c d e::Klu f
def Kjy (a:Bt) (b:(List Ev×List Ev×List Reg)×Nat):=Sf a (J9p b)
def Kh9 (a:Ls) (b:Li):=Jag a∧Z51 b∧Jga a∧3≤1000000
def Ktu (a:Kb×Nat) (b:List Ev) (c:Int) (d:Bt) (e:Ls) (f:Li) (g:Bt):=Jh (Jyk a b::J9q c d e f g b)
def J17 (a:Bt) (b:Kb×Nat) (c:List Ev) (d:(List Ev×List Ev×List Reg)×Nat):=Sf a (Jsl b c d)
theorem K5g:Ok Tryz.prog 57 J03:=Jyd W98 Tryz.f57 (Uy (l:=([(74,Tryz.f74)]:List (Nat×Func))) (List.forall_mem_cons.2 ⟨by kernel_rfl,by simp⟩)) (fun xx=>na ()) (fun xx=>fun f id=>if f=74 then some (J6k xx.1 xx.2.1.1 xx.2.1.2.1 xx.2.1.2.2.1 xx.2.1.2.2.2.1 xx.2.1.2.2.2.2) else none) fun xx=>by
 obtain⟨(l:List Ev),⟨(n:Int),(k:ByteArray),(ns:List ByteArray),(vs:List Int),(tx:ByteArray)⟩,_⟩:=xx
 refine(by kernel_rfl:(lOk l→Jb5 (n,k,ns,vs,tx)→Br (Z90 l) (Kh9 ns vs∧Br (Jh (5::J9q n k ns vs tx l) !=0) (Sf true (Jh (5::J9q n k ns vs tx l)=Jsf l (n,k,ns,vs,tx))) False) (∃(x:(List Ev×List Ev×List Reg)×Nat),Si (Ln l) (0=Nc x.2∧Sf l (Sf ns (Sf vs (Si n (Sf k (Kjy tx x))))))∧J1m x l∧∀(x:Kb×Nat),J3l x l→Br (Jy1 x l) (Tw (Z31 x l)∧J3g x l∧Br (Jyj x l) (Z33 x∧Kh9 ns vs∧Br (Ktu x l n k ns vs tx !=0) (Sf true (Ktu x l n k ns vs tx=Jsf l (n,k,ns,vs,tx))) False) (Z33 x∧∃(y:(List Ev×List Ev×List Reg)×Nat),Si (Ln l) (Jqu x y∧Sf l (Sf ns (Sf vs (Si n (Sf k (J17 tx x l y))))))∧J3j y l x)) (Kh9 ns vs∧Br (Jh (0::J9q n k ns vs tx l) !=0) (Sf true (Jh (0::J9q n k ns vs tx l)=Jsf l (n,k,ns,vs,tx))) ((J3z x∧Z66 n k ns vs tx=0)∧Sf true (La (Jsj x) (n,k,ns,vs,tx)=Jsf l (n,k,ns,vs,tx))))))=_).mp ?_
 delta Z31 Z33 Z51 Z66 Z90 Jy1 Jag Jqu Jsj D9 J3z Jgd J3r J3o Jyq Klu J9q J9p Jga Kjy J64 J63 J3l J1m Kh9 J3j Js2 Jyk J87 J86 J3g Jyj Ktu Jsl J17 Br Iw Bd Tw Sf Si Ln Nc B0 E2
 intro hl hz0
 refine⟨fun h=> ?_,fun h=> ?_⟩
 ·have e:Jb l=(V7,0,5):=by unfold Jb;rw[if_pos (by have:=of_decide_eq_true h;omega)]
  have e5:Js1 l (n,k,ns,vs,tx)=5:=by unfold Js1;rw[e];rfl
  refine⟨⟨hz0.1,hz0.2.1,hz0.2.2,by decide⟩,fun _=>⟨rfl, ?_⟩,fun h=> ?_⟩
  ·unfold Jsf;rw[e5];rfl
  ·have:Js1 l (n,k,ns,vs,tx)=0:=by unfold Js1;rw[e];exact bne_eq_false_iff_eq.1 h
   rw[e5] at this;cases this
 have hn:l.length≤1000:=by have:=of_decide_eq_false h;omega
 have e0:Jb l=Xs V7 l:=by unfold Jb;rw[if_neg (by omega)]
 refine⟨(V7,(0:Nat)),⟨rfl,rfl,rfl,rfl,rfl,rfl,rfl,rfl,rfl,rfl,rfl⟩,⟨Xk,rfl,Nat.zero_le _,hn,e0.symm⟩,fun(x:Kb×Nat) hx=>⟨fun h1=> ?_,fun h1=> ?_⟩⟩
 ·obtain⟨g,m⟩:=x
  obtain⟨hi,hk,hk2,_,hrun⟩:=hx
  dsimp only at hi hk hk2 hrun
  have hlt:m<l.length:=by simpa using h1
  rw[Jz (d:=ev0) hlt,Xs] at hrun
  have hz:=hl.2 _ (Je (d:=ev0) hlt)
  refine⟨⟨⟨by dsimp only;omega,by dsimp only;omega⟩,by dsimp only;omega,by dsimp only;omega⟩,⟨hi.ok,by show g.1.length<1000;omega,hz⟩,fun h2=>⟨by dsimp only;omega,⟨hz0.1,hz0.2.1,hz0.2.2,by decide⟩,fun h3=> ?_,fun h3=> ?_⟩,fun h2=>⟨by dsimp only;omega,(Ha g (l.getD m ev0),m+1), ?_,⟨?_, ?_,by dsimp only;omega,hn, ?_⟩,by dsimp only;omega⟩⟩
  ·have h2:Kv g (l.getD m ev0)≠0:=bne_iff_ne.1 h2
   rw[if_neg h2] at hrun
   have e6:Js1 l (n,k,ns,vs,tx)=Kv g (l.getD m ev0):=by unfold Js1;rw[←hrun];unfold Jh;rw[if_neg h2]
   refine⟨rfl, ?_⟩
   unfold Jsf
   rw[if_neg (by rw[e6];exact h2),e6]
   unfold Jh
   exact if_neg h2
  ·have h2:Kv g (l.getD m ev0)≠0:=bne_iff_ne.1 h2
   have h3:=bne_eq_false_iff_eq.1 h3
   unfold Jh at h3
   exact h2 ((if_neg h2).symm.trans h3)
  ·have h2:Kv g (l.getD m ev0)=0:=bne_eq_false_iff_eq.1 h2
   have eP:U9 g (l.getD m ev0)=Ha g (l.getD m ev0):=by unfold U9;rw[if_pos h2]
   refine⟨rfl,by simp,rfl,rfl,rfl,rfl,rfl,rfl, ?_, ?_, ?_⟩
   ·show(U9 g (l.getD m ev0)).1=_;rw[eP]
   ·show(U9 g (l.getD m ev0)).2.1=_;rw[eP]
   ·show(U9 g (l.getD m ev0)).2.2=_;rw[eP]
  ·exact Ft hi (by omega) (bne_eq_false_iff_eq.1 h2)
  ·show(Ha g (l.getD m ev0)).1.length=m+1
   rw[Xl,hk]
  ·have h2:Kv g (l.getD m ev0)=0:=bne_eq_false_iff_eq.1 h2
   rw[if_pos h2] at hrun
   exact hrun
 ·obtain⟨g,m⟩:=x
  obtain⟨hi,hk,hk2,_,hrun⟩:=hx
  dsimp only at hi hk hk2 hrun
  have hlt:¬m<l.length:=by simpa using h1
  have:m=l.length:=by omega
  rw[this,List.drop_length,Xs] at hrun
  have e6:Js1 l (n,k,ns,vs,tx)=Jh [0,Jc (n,k,ns,vs,tx),bif decide ((1000:Int)≤l.length) then 5 else 0]:=by unfold Js1;rw[←hrun]
  refine⟨⟨hz0.1,hz0.2.1,hz0.2.2,by decide⟩,fun h2=>⟨rfl, ?_⟩,fun h2=> ?_⟩
  ·have h2:=bne_iff_ne.1 h2
   rw[←e6] at h2
   unfold Jsf;rw[if_neg h2,e6]
  ·have h2:=bne_eq_false_iff_eq.1 h2
   have h3:=(Lo h2).2.1
   rw[←e6] at h2
   refine⟨⟨hi.ok,h3⟩,rfl, ?_⟩
   unfold Jsf;rw[if_pos h2,←hrun]
abbrev W99:=W98.add K5g
abbrev K4h:=W99
end Go.Proofs.YtcibbcfiemeoiaaGreatDoor

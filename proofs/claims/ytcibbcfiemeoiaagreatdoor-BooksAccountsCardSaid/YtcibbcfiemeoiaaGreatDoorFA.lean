/- Contracts of the functions that the law reaches: part of the proof. -/
import Derived.Test.YtcibbcfiemeoiaaGreatDoorProg
import Derived.Test.YtcibbcfiemeoiaaGreatDoorSxC
import Derived.Test.YtcibbcfiemeoiaaGreatDoorShelfA
import Derived.Test.YtcibbcfiemeoiaaGreatDoorLayA
import Derived.KernelRfl
import Derived.Laws.RangeAny
import Derived.Lib.Strings
set_option linter.unusedSimpArgs false
set_option linter.unusedVariables false
set_option maxRecDepth 20000
namespace Go.Proofs.YtcibbcfiemeoiaaGreatDoor
open Go.Sx
set_option maxHeartbeats 20000000
abbrev I:Bool×Sch:=(false, .int .i64)
abbrev Bo:Bool×Sch:=(false, .bool)
abbrev aI:AK:= .val false (.int .i64)
abbrev aB:AK:= .val false .bool
abbrev aS:AK:= .val false .str
abbrev tS:Bool×Sch:=(false, .str)
abbrev sI:Sch:= .int .i64
abbrev W0 [Sx.Dr]:GW Tryz.prog:=⟨[], .nil _⟩
theorem mixed:Tryz.prog.follows .mixedOrders=true:=by kernel_rfl
theorem okW [Sx.Dr] {f:FuncId} {c:Con} (W:GW Tryz.prog) (fn:Func) (ann:ATup c.args→Nat→Option Ann) (h:∀x:ATup c.args,wpF Tryz.prog W.g (ann x) fn c x) (h1:Tryz.prog.funcs[f]? =some fn:=by kernel_rfl) (h2:Jb8 fn c=true:=by kernel_rfl):Ok Tryz.prog f c:=V5 mixed W.ok h1 h2 ann h
theorem Jzr [Sx.Dr] {f:FuncId} {c:Con} {lib:FuncId→Option Func} (W:GW Tryz.prog) (fn:Func) (hl:∀f fn,lib f=some fn→Tryz.prog.funcs[f]? =some fn) (ann:ATup c.args→Nat→Option Ann) (annF:ATup c.args→FuncId→Nat→Option Ann) (h:∀x:ATup c.args,wpFG Tryz.prog W.g (ann x) (annF x) lib fn c x) (h1:Tryz.prog.funcs[f]? =some fn:=by kernel_rfl) (h2:Jb8 fn c=true:=by kernel_rfl):Ok Tryz.prog f c:=Jfh mixed W.ok h1 h2 hl ann annF h
abbrev na {α:Type}:α→Nat→Option Ann:=fun _ _=>none
abbrev Zn (A:Ann):Nat→Option Ann:=fun k=>if k=0 then some A else none
def Ksk:Con:={args:=[aB,aI],ress:=[I],owns:=[],pre:=fun _=>[],spec:=fun(b,e,_)=>(bif b then e else 0,())}
theorem K6l [Sx.Dr]:Ok Tryz.prog 71 Ksk:=okW W0 Tryz.f71 na fun xx=>by
 obtain⟨(b:Bool),(e:Int),_⟩:=xx
 refine(by kernel_rfl:(Br b (e=bif b then e else 0) (0=bif b then e else 0))=_).mp ?_
 delta Br
 cases b<;>simp
abbrev W1 [Sx.Dr]:=W0.add K6l
abbrev W2 [Sx.Dr]:=W1
abbrev W3 [Sx.Dr]:=W2
def Km (n lo hi:Int):Int:=bif decide (n<lo)||decide (hi<n) then 3 else 0
def J6p:Con:={args:=[aI,aI,aI],ress:=[I],owns:=[],pre:=fun _=>[],spec:=fun(n,lo,hi,_)=>(Km n lo hi,())}
theorem Krm [Sx.Dr]:Ok Tryz.prog 133 J6p:=okW W3 Tryz.f133 na fun xx=>by
 obtain⟨(n:Int),(lo:Int),(hi:Int),_⟩:=xx
 refine(by kernel_rfl:((bif bif decide (n<lo) then true else decide (hi<n) then 3 else 0)=Km n lo hi)=_).mp ?_
 unfold Km;cases decide (n<lo)<;>rfl
abbrev W4 [Sx.Dr]:=W3.add Krm
def Xx (n lo hi:Int):Bool:=decide (n<lo)||decide (hi<n)
def J12:Con:={args:=[aI,aI,aI],ress:=[Bo],owns:=[],pre:=fun _=>[],spec:=fun(n,lo,hi,_)=>(Xx n lo hi,())}
theorem K68 [Sx.Dr]:Ok Tryz.prog 20 J12:=okW W4 Tryz.f20 na fun xx=>by
 obtain⟨(n:Int),(lo:Int),(hi:Int),_⟩:=xx
 refine(by kernel_rfl:((bif decide (n<lo) then true else decide (hi<n))=Xx n lo hi)=_).mp ?_
 unfold Xx;cases decide (n<lo)<;>rfl
abbrev W5 [Sx.Dr]:=W4.add K68
def Ksl:Con:={args:=[aI],ress:=[I],owns:=[],pre:=fun _=>[],spec:=fun(n,_)=>(Km n 0 999999999,())}
def Z73 (a:Int):=Km a 0 999999999
def Knj (a:Int):=Z73 a=Z73 a
theorem K6m [Sx.Dr]:Ok Tryz.prog 70 Ksl:=okW W5 Tryz.f70 na fun xx=>by
 obtain⟨(n:Int),_⟩:=xx
 refine(by kernel_rfl:(Knj n)=_).mp ?_
 delta Z73 Knj
 rfl
abbrev W6 [Sx.Dr]:=W5.add K6m
def Ji:List Int→Int
 |[]=>0
 |x::l=>if x=0 then Ji l else x
theorem Jo0 {l:List Int} {k:Nat} (h:k<l.length):Ji (l.drop k)=if l.getD k 0=0 then Ji (l.drop (k+1)) else l.getD k 0:=by
 rw[List.drop_eq_getElem_cons h]
 simp[Ji,List.getD_eq_getElem?_getD,h]
def Kdn:Con:={args:=[.val false (.list 26 sI)],ress:=[I],owns:=[],pre:=fun(l,_)=>[l.length≤1000000],spec:=fun(l,_)=>(Ji l,())}
abbrev J2o (l:List Int):Ann:={X:=Nat,σ:=fun k=>⟨1,[(5, .one (.sl 0)),(6, .one (.int .i64 l.length)),(7, .one (.int .i64 k))],[(0, .imm 26 sI l)]⟩,inv:=fun k=>k≤l.length∧Ji l=Ji (l.drop k),mu:=fun k=>l.length-k}
def Z17 (a:Nat):=Iw (Nc a+1)
def Z20 (a:Li) (b:Nat):=List.getD a b 0
def Z52 (a:Li):=List.length a≤1000000
def Z96 (a b:Nat):=Nc a+1=Nc b
def J4u (a:Li) (b c:Nat):=List.length a-b<List.length a-c
def Kni (a:Nat) (b:Li):=a≤List.length b∧Ji b=Ji (List.drop a b)
theorem K6n [Sx.Dr]:Ok Tryz.prog 69 Kdn:=okW W6 Tryz.f69 (fun xx=>Zn (J2o xx.1)) fun xx=>by
 obtain⟨(l:List Int),_⟩:=xx
 refine(by kernel_rfl:(Z52 l→∃(x:Nat),Si (Ln l) (0=Nc x∧l=l)∧Kni x l∧∀(x:Nat),Kni x l→Br (decide (Nc x<Ln l)) (Tw (Bd (Nc x) (Ln l))∧Br (Z20 l x !=0) (Z20 l x=Ji l) (Z17 x∧∃(y:Nat),Si (Ln l) (Z96 x y∧l=l)∧Kni y l∧J4u l y x)) (0=Ji l))=_).mp ?_
 delta Z17 Z20 Z52 Z96 J4u Kni Br Iw Bd Tw Si Ln Nc
 intro hb
 refine⟨(0:Nat),⟨rfl,rfl,rfl⟩,⟨Nat.zero_le _,rfl⟩,fun(k:Nat) hk=>⟨fun h=> ?_,fun h=> ?_⟩⟩
 ·have hlt:k<l.length:=by simpa using h
  have hd:=Jo0 hlt
  refine⟨Oo,fun h1=> ?_,fun h1=>⟨Oo,(k+1:Nat),⟨rfl,by simp,rfl⟩,⟨Oo, ?_⟩,Oo⟩⟩
  ·have h2:¬l.getD k 0=0:=by simpa using h1
   rw[hk.2,hd,if_neg h2]
  ·have h2:l.getD k 0=0:=by simpa using h1
   rw[hk.2,hd,if_pos h2]
 ·have hlt:¬k<l.length:=by simpa using h
  have:k=l.length:=by omega
  rw[hk.2,this,List.drop_length];rfl
abbrev W7 [Sx.Dr]:=W6.add K6n
abbrev W8 [Sx.Dr]:=W7
abbrev W9 [Sx.Dr]:=W8
def okB (f:Bool) (c:Int):Bool:=bif (bif decide ((65:Int)≤c) then decide (c≤90) else false) then true else bif (bif decide ((97:Int)≤c) then decide (c≤122) else false) then true else bif f then false else bif decide (c<48) then c==95 else bif decide (57<c) then c==95 else true
def okL (f:Bool):List UInt8→Bool
 |[]=>true
 |b::r=>okB f (b.toNat:Int)&&okL false r
def Yx (s:ByteArray):Bool:=okL true s.data.toList&&(decide (0<s.size)&&decide ((s.size:Int)≤24))
theorem Jv7 (f:Bool) (c:Int):(bif !bif (bif decide ((65:Int)≤c) then decide (c≤90) else false) then true else bif decide ((97:Int)≤c) then decide (c≤122) else false then bif f then true else bif (bif decide (c<48) then true else decide (57<c)) then c !=95 else false else false)= !okB f c:=by
 unfold okB bne
 cases decide ((65:Int)≤c)<;>cases decide (c≤90)<;>cases decide ((97:Int)≤c)<;>cases decide (c≤122)<;>cases f<;>cases decide (c<48)<;>cases decide (57<c)<;>cases c==95<;>rfl
theorem Jqs {f:Bool} {c:Int} (h:128≤c):okB f c=false:=by
 unfold okB
 have h1:decide (c≤90)=false:=decide_eq_false Oo
 have h2:decide (c≤122)=false:=decide_eq_false Oo
 have h3:decide (c<48)=false:=decide_eq_false Oo
 have h4:decide ((57:Int)<c)=true:=decide_eq_true Oo
 have h5:(c==95)=false:=beq_eq_false_iff_ne.2 Oo
 rw[h1,h2,h3,h4,h5]
 cases decide ((65:Int)≤c)<;>cases decide ((97:Int)≤c)<;>cases f<;>rfl
theorem Jd4 {s:ByteArray} {k:Nat} (h:k<s.size) (ha:(s[k]'h).toNat<128):Yk s k=((s[k]'h).toNat:Int)∧Jhb s k=1:=by
 unfold Yk Jhb
 rw[decode_ascii s k h ha]
 exact⟨rfl,rfl⟩
theorem Jlw {s:ByteArray} {k:Nat} (h:k<s.size) (ha:128≤(s[k]'h).toNat):128≤Yk s k:=by
 have:=(decode_high s k h ha).1
 unfold Yk
 omega
theorem Fj {s:ByteArray} {k:Nat} (h:k<s.size):s.data.toList.drop k=(s[k]'h)::s.data.toList.drop (k+1):=by
 rw[List.drop_eq_getElem_cons (by simpa using h)]
 congr 1
theorem Jjv (s:ByteArray):(!(s.toList==(⟨⟨[]⟩⟩:ByteArray).toList))=decide (0<s.size):=by
 rw[Lib.toList_data,Lib.toList_data]
 have e:s.data.toList.length=s.size:=by simp
 cases h:s.data.toList with
 |nil=>rw[h] at e;simp at e;rw[←e];rfl
 |cons a l=>rw[h] at e;simp at e;rw[←e];simp
theorem Jc9 (k:Nat):(((k:Nat):Int)==0)=(k==0):=by
 rw[Bool.eq_iff_iff,beq_iff_eq,beq_iff_eq];omega
def Kc7:Con:={args:=[aS],ress:=[Bo],owns:=[],pre:=fun(s,_)=>[s.size≤1000000],spec:=fun(s,_)=>(Yx s,())}
abbrev J7m (s:ByteArray):Ann:={X:=Nat,σ:=fun k=>⟨1,[(0, .one (.str s)),(7, .one (.sl 0))],[(0, .siter s k)]⟩,inv:=fun k=>k≤s.size∧okL true s.data.toList=okL (k==0) (s.data.toList.drop k),mu:=fun k=>s.size-k}
def Z16 (a:Bt):=a.data.toList
def Kmm (a:Bt) (b:Nat):=bif decide (Yk a b<48) then true else decide (57<Yk a b)
def K1t (a:Bt):=Sf true ((bif !Lb a B0 then decide (Nc (ByteArray.size a)≤24) else false)=Yx a)
def Kld (a:Nat) (b:Bt):=a≤ByteArray.size b∧okL true (Z16 b)=okL (a==0) (List.drop a (Z16 b))
theorem Krj [Sx.Dr]:Ok Tryz.prog 136 Kc7:=Jzr W9 Tryz.f136 (U5 (l:=([]:List (Nat×Func))) (by simp)) (fun xx=>Zn (J7m xx.1)) (fun xx=>fun _=>na ()) fun xx=>by
 obtain⟨(s:ByteArray),_⟩:=xx
 refine(by kernel_rfl:(ByteArray.size s≤1000000→∃(x:Nat),Sf s (Sf s (0=x))∧Kld x s∧∀(x:Nat),Kld x s→(x<ByteArray.size s→Br true (Br (bif !bif bif decide (65≤Yk s x) then decide (Yk s x≤90) else false then true else bif decide (97≤Yk s x) then decide (Yk s x≤122) else false then bif Nc x==0 then true else bif Kmm s x then Yk s x !=95 else false else false) (Sf true (false=Yx s)) (∃(y:Nat),Sf s (Sf s (x+Jhb s x=y))∧Kld y s∧ByteArray.size s-y<ByteArray.size s-x)) (K1t s))∧((x<ByteArray.size s→False)→Br false False (K1t s)))=_).mp ?_
 delta Z16 Kmm K1t Kld Br Sf Nc B0 Lb
 intro hb
 refine⟨(0:Nat),⟨rfl,rfl,rfl⟩,⟨Nat.zero_le _,by simp⟩,fun(k:Nat) hk=>⟨fun h=>⟨fun _=>⟨fun h1=>⟨rfl, ?_⟩,fun h1=> ?_⟩,fun h=>(by cases h)⟩,fun h=> ?_⟩⟩
 ·rw[Jv7,Jc9] at h1
  have h2:okB (k==0) (Yk s k)=false:=by simpa using h1
  unfold Yx
  have h3:okL true s.data.toList=false:=by
   rw[hk.2,Fj h,okL]
   by_cases ha:(s[k]'h).toNat<128
   ·rw[←(Jd4 h ha).1,h2];rfl
   ·rw[Jqs Oo];rfl
  rw[h3];rfl
 ·rw[Jv7,Jc9] at h1
  have h2:okB (k==0) (Yk s k)=true:=by simpa using h1
  by_cases ha:(s[k]'h).toNat<128
  ·obtain⟨r1,r2⟩:=Jd4 h ha
   refine⟨(k+1:Nat),⟨rfl,rfl,by rw[r2]⟩,⟨Oo, ?_⟩,Oo⟩
   rw[hk.2,Fj h,okL,←r1,h2]
   rfl
  ·have:=Jlw h Oo
   rw[Jqs this] at h2
   cases h2
 ·have e:k=s.size:=Nat.le_antisymm hk.1 (Nat.le_of_not_lt h)
  refine⟨fun h=>(by cases h),fun _=>⟨rfl, ?_⟩⟩
  rw[e,List.drop_eq_nil_of_le (by simp)] at hk
  unfold Yx
  rw[hk.2,Jjv]
  cases decide (0<s.size)<;>cases decide ((s.size:Int)≤24)<;>rfl
abbrev W10 [Sx.Dr]:=W9.add Krj
abbrev aU:AK:= .val false (.int .u8)
def Jwo (c:Int):Bool:=bif (bif decide ((65:Int)≤c) then decide (c≤90) else false) then true else bif decide ((97:Int)≤c) then decide (c≤122) else false
def Kct (c:Int):Bool:=bif decide ((48:Int)≤c) then decide (c≤57) else false
def K7s:Con:={args:=[aU],ress:=[Bo],owns:=[],pre:=fun _=>[],spec:=fun(c,_)=>(Jwo c,())}
theorem Kp8 [Sx.Dr]:Ok Tryz.prog 190 K7s:=okW W10 Tryz.f190 na fun xx=>by
 obtain⟨(c:Int),_⟩:=xx
 refine(by kernel_rfl:((bif bif decide (65≤c) then decide (c≤90) else false then true else bif decide (97≤c) then decide (c≤122) else false)=Jwo c)=_).mp ?_
 rfl
abbrev W11 [Sx.Dr]:=W10.add Kp8
def K7v:Con:={args:=[aU],ress:=[Bo],owns:=[],pre:=fun _=>[],spec:=fun(c,_)=>(Kct c,())}
theorem Kp7 [Sx.Dr]:Ok Tryz.prog 191 K7v:=okW W11 Tryz.f191 na fun xx=>by
 obtain⟨(c:Int),_⟩:=xx
 refine(by kernel_rfl:((bif decide (48≤c) then decide (c≤57) else false)=Kct c)=_).mp ?_
 rfl
abbrev W12 [Sx.Dr]:=W11.add Kp7
theorem J5v (c:Int):okB true c=Jwo c:=by
 unfold okB Jwo
 cases decide ((65:Int)≤c)<;>cases decide (c≤90)<;>cases decide ((97:Int)≤c)<;>cases decide (c≤122)<;>rfl
theorem J5u (c:Int):(bif bif !Jwo c then !Kct c else false then c !=95 else false)= !okB false c:=by
 unfold okB Jwo Kct bne
 have e1:decide (c<48)= !decide ((48:Int)≤c):=by rw[Bool.eq_iff_iff];simp
 have e2:decide ((57:Int)<c)= !decide (c≤57):=by rw[Bool.eq_iff_iff];simp
 rw[e1,e2]
 cases decide ((65:Int)≤c)<;>cases decide (c≤90)<;>cases decide ((97:Int)≤c)<;>cases decide (c≤122)<;>cases decide ((48:Int)≤c)<;>cases decide (c≤57)<;>cases c==95<;>rfl
theorem D7 {s:ByteArray} {k:Nat} (h:k<s.size):s.data.toList.drop k=s.data.toList.getD k 0::s.data.toList.drop (k+1):=by
 have h':k<s.data.toList.length:=by simpa using h
 rw[List.drop_eq_getElem_cons h']
 congr 1
 rw[List.getD_eq_getElem?_getD,List.getElem?_eq_getElem h'];rfl
abbrev J2m (s:ByteArray):Ann:={X:=Nat,σ:=fun k=>⟨0,[(0, .one (.str s)),(3, .one (.int .i64 k))],[]⟩,inv:=fun k=>0<k∧k≤s.size∧Yx s=okL false (s.data.toList.drop k),mu:=fun k=>s.size-k}
def Knk (a:Bt) (b:Nat):=Nc (UInt8.toNat (List.getD (Z16 a) b 0))
def Kne (a:Bt):=Nc (UInt8.toNat (List.getD (Z16 a) 0 0))
def K2v (a:Bt) (b:Nat):= !Jwo (Knk a b)
def K2q (a:Bt):=bif Nc (ByteArray.size a)==0 then true else decide (24<Nc (ByteArray.size a))
def Klm (a:Nat) (b:Bt):=0<a∧a≤ByteArray.size b∧Yx b=okL false (List.drop a (Z16 b))
def Kx5 (a:Bt) (b:Nat):=bif K2v a b then !Kct (Knk a b) else false
theorem Krz [Sx.Dr]:Ok Tryz.prog 111 Kc7:=okW W12 Tryz.f111 (fun xx=>Zn (J2m xx.1)) fun xx=>by
 obtain⟨(s:ByteArray),_⟩:=xx
 refine(by kernel_rfl:(ByteArray.size s≤1000000→(K2q s=false→Bd 0 (Nc (ByteArray.size s)))∧Br (bif K2q s then true else !Jwo (Kne s)) (false=Yx s) (∃(x:Nat),Sf s (1=Nc x)∧Klm x s∧∀(x:Nat),Klm x s→Br (decide (Nc x<Nc (ByteArray.size s))) ((Bd (Nc x) (Nc (ByteArray.size s))∧(K2v s x=true→Bd (Nc x) (Nc (ByteArray.size s)))∧(Kx5 s x=true→Bd (Nc x) (Nc (ByteArray.size s))))∧Br (bif Kx5 s x then Knk s x !=95 else false) (false=Yx s) (Z17 x∧∃(y:Nat),Sf s (Z96 x y)∧Klm y s∧ByteArray.size s-y<ByteArray.size s-x)) (true=Yx s)))=_).mp ?_
 delta Z16 Z17 Z96 Knk Kne K2v K2q Klm Kx5 Br Iw Bd Sf Nc
 intro hb
 have e0:∀h:0<s.size,okL true s.data.toList=(Jwo ((s.data.toList.getD 0 0).toNat:Int)&&okL false (s.data.toList.drop 1)):=fun h=>by
  have:=D7 h
  rw[List.drop_zero] at this
  rw[this,okL,J5v]
  simp
 refine⟨fun h=> ?_,fun h=> ?_,fun h=> ?_⟩
 ·have h1:((s.size:Int)==0)=false:=by revert h;cases((s.size:Int)==0)<;>simp
  have:=beq_eq_false_iff_ne.1 h1
  exact⟨Int.le_refl _,Oo⟩
 ·unfold Yx
  by_cases h0:0<s.size
  ·rw[e0 h0]
   have h1:((s.size:Int)==0)=false:=beq_eq_false_iff_ne.2 Oo
   rw[h1] at h
   by_cases h2:(s.size:Int)≤24
   ·have h3:decide ((24:Int)<s.size)=false:=decide_eq_false Oo
    rw[h3] at h
    have h4:Jwo ((s.data.toList.getD 0 0).toNat:Int)=false:=by simpa using h
    rw[h4];rfl
   ·rw[decide_eq_false h2];simp
  ·rw[decide_eq_false h0];simp
 ·have h1:((s.size:Int)==0)=false:=by revert h;cases((s.size:Int)==0)<;>simp
  rw[h1] at h
  have h2:decide ((24:Int)<s.size)=false:=by revert h;cases decide ((24:Int)<s.size)<;>simp
  rw[h2] at h
  have h3:Jwo ((s.data.toList.getD 0 0).toNat:Int)=true:=by simpa using h
  have h0:0<s.size:=by have:=beq_eq_false_iff_ne.1 h1;omega
  have h24:(s.size:Int)≤24:=by have:=of_decide_eq_false h2;omega
  have en:Yx s=okL false (s.data.toList.drop 1):=by
   unfold Yx
   rw[e0 h0,h3,decide_eq_true h0,decide_eq_true h24];simp
  refine⟨(1:Nat),⟨rfl,rfl⟩,⟨Oo,Oo,en⟩,fun(k:Nat) hk=>⟨fun h=> ?_,fun h=> ?_⟩⟩
  ·have hlt:k<s.size:=by simpa using h
   rw[J5u]
   refine⟨⟨Oo,fun _=>Oo,fun _=>Oo⟩,fun h1=> ?_,fun h1=>⟨Oo,(k+1:Nat),⟨rfl,by simp⟩,⟨Oo,Oo, ?_⟩,Oo⟩⟩
   ·have h2:okB false ((s.data.toList.getD k 0).toNat:Int)=false:=by simpa using h1
    rw[hk.2.2,D7 hlt,okL,h2];rfl
   ·have h2:okB false ((s.data.toList.getD k 0).toNat:Int)=true:=by simpa using h1
    rw[hk.2.2,D7 hlt,okL,h2];rfl
  ·have hlt:¬k<s.size:=by simpa using h
   have:k=s.size:=by omega
   rw[hk.2.2,this,List.drop_eq_nil_of_le (by simp)];rfl
abbrev W13 [Sx.Dr]:=W12.add Krz
abbrev J0v:Sch:= .prod sI .bool
abbrev Kb6:Sch:= .prod (.list 251 J0v) (.prod sI (.prod .fnc (.prod .fnc .fnc)))
abbrev K3a:=List (Int×Bool)×Int×Option Nat×Option Nat×Option Nat
abbrev Ju:ByteArray:=⟨⟨[117,110,100,111]⟩⟩
abbrev Jw:ByteArray:=⟨⟨[115,116,97,116,105,111,110]⟩⟩
abbrev Uf:ByteArray:=⟨⟨[112,114,105,99,101]⟩⟩
abbrev Ki:ByteArray:=⟨⟨[111,114,100,101,114]⟩⟩
abbrev K9:ByteArray:=⟨⟨[109,101,116,101,114]⟩⟩
abbrev V2:ByteArray:=⟨⟨[116,114,105,112]⟩⟩
abbrev Js:ByteArray:=⟨⟨[111,117,116,97,103,101]⟩⟩
abbrev Jt:ByteArray:=⟨⟨[114,101,115,116,111,114,101]⟩⟩
abbrev Kg:ByteArray:=⟨⟨[112,101,114,109,105,116]⟩⟩
abbrev Kf:ByteArray:=⟨⟨[114,101,116,117,114,110]⟩⟩
abbrev Jk:ByteArray:=⟨⟨[115,101,116,116,108,101]⟩⟩
def Dd:List (ByteArray×K3a):=[(Ju,[],0,none,none,none),
 (Jw,[(0,false)],2,some 148,some 149,some 150),
 (Uf,[(0,true)],2,some 152,some 153,some 150),
 (Ki,[(1,false),(0,true),(0,true)],4,some 154,some 155,some 156),
 (K9,[(1,true)],4,some 157,some 158,some 156),
 (V2,[(1,true)],1,some 159,some 160,some 156),
 (Js,[(2,false),(0,true)],4,some 161,some 162,some 163),
 (Jt,[(2,true)],1,some 164,some 165,some 163),
 (Kg,[(3,false),(2,true)],1,some 166,some 167,some 168),
 (Kf,[(3,true)],1,some 169,some 170,some 168),
 (Jk,[],2,some 171,some 172,none)]
def Kdl:Con:={args:=[aI],ress:=[(true,J0v)],owns:=[],pre:=fun _=>[],spec:=fun(t,_)=>((t,false),())}
theorem Kq8 [Sx.Dr]:Ok Tryz.prog 147 Kdl:=okW W13 Tryz.f147 na fun xx=>by
 obtain⟨(t:Int),_⟩:=xx
 refine(by kernel_rfl:((t,false)=(t,false))=_).mp ?_
 trivial
abbrev W14 [Sx.Dr]:=W13.add Kq8
def K7o:Con:={args:=[aI],ress:=[(true,J0v)],owns:=[],pre:=fun _=>[],spec:=fun(t,_)=>((t,true),())}
theorem Kq4 [Sx.Dr]:Ok Tryz.prog 151 K7o:=okW W14 Tryz.f151 na fun xx=>by
 obtain⟨(t:Int),_⟩:=xx
 refine(by kernel_rfl:((t,true)=(t,true))=_).mp ?_
 trivial
abbrev W15 [Sx.Dr]:=W14.add Kq4
def J39:Jnf:={kT:=9,gk:=false,gv:=true,ks:= .str,vs:=Kb6,l:=Dd}
def Knr:=[((0:Int),true)]
def Kay:List (Int×Bool)×Int×Option Nat×Option Nat×Option Nat:=([],(0:Int),none,none,none)
def Kjs:=(∀(k k':ByteArray),some (Lb k k')=some (List.beq (ByteArray.toList k) (ByteArray.toList k')))∧∀(k:ByteArray),true=true
theorem K5v [Sx.Dr]:wpFM Tryz.prog W15.g (na ()) (fun _=>na ()) (Sx.look ([]:List (Nat×Func))) Tryz.f80 J39:=by
 refine(by kernel_rfl:(Kjs∧Sf true ([(Ju,Kay),(Jw,[(0,false)],2,some 148,some 149,some 150),(Uf,Knr,2,some 152,some 153,some 150),(Ki,(1,false)::(0,true)::Knr,4,some 154,some 155,some 156),(K9,[(1,true)],4,some 157,some 158,some 156),(V2,[(1,true)],1,some 159,some 160,some 156),(Js,(2,false)::Knr,4,some 161,some 162,some 163),(Jt,[(2,true)],1,some 164,some 165,some 163),(Kg,[(3,false),(2,true)],1,some 166,some 167,some 168),(Kf,[(3,true)],1,some 169,some 170,some 168),(Jk,[],2,some 171,some 172,none)]=Dd))=_).mp ?_
 delta Knr Kay Kjs Sf Lb K9 Ki Js Kg Uf Jt Kf Jk Jw V2 Ju
 exact⟨⟨fun _ _=>rfl,fun _=>rfl⟩,rfl,rfl⟩
theorem Kox [Sx.Dr]:Ok Tryz.prog 80 (Jnf.con J39):=J3v (Jmc mixed W15.ok (by kernel_rfl) (by kernel_rfl) (U5 (l:=([]:List (Nat×Func))) (by simp)) (na ()) (fun _=>na ()) K5v)
abbrev W16 [Sx.Dr]:=W15.add Kox
theorem Je {α:Type} {l:List α} {k:Nat} {d:α} (h:k<l.length):l.getD k d∈l:=by
 simp[List.getD_eq_getElem?_getD,h]
theorem Ve {α:Type} {d:α} {l:List α} {k:Nat} (h:k<l.length):l.take k++[l.getD k d]=l.take (k+1):=by
 rw[List.take_succ_eq_append_getElem h,List.getD_eq_getElem?_getD,List.getElem?_eq_getElem h];rfl
abbrev Jbz (T U:TypeId) (s:Sch) (l:List s.T) (r:Bool×Sch) (g:Bool) (q:Tup [(g,s)]→List Prop) (f:Tup [(g,s)]→r.2.T):Ann:={X:=Nat,σ:=fun k=>⟨3,[(1, .one (.fv 1)),(5, .one (.sl 2)),(8, .one (.sl 0)),(9, .one (.int .i64 l.length)),(10, .one (.int .i64 k))],[(0, .imm T s l),(1, .afn [(g,s)] r q f),(2, .own U r.2 ((l.take k).map fun x=>f (x,())))]⟩,inv:=fun k=>k≤l.length,mu:=fun k=>l.length-k}
def Kda:Con:={args:=[.val false (.list 9 .str), .fn [tS] I],ress:=[(false, .list 26 sI)],owns:=[true],pre:=fun(l,(q,_),_)=>[l.length≤1000000,∀x∈l,Ux (q (x,()))],spec:=fun(l,(_,f),_)=>(l.map fun x=>f (x,()),())}
def Kdd:Con:={args:=[.val false (.list 3 sI), .fn [I] I],ress:=[(false, .list 26 sI)],owns:=[true],pre:=fun(l,(q,_),_)=>[l.length≤1000000,∀x∈l,Ux (q (x,()))],spec:=fun(l,(_,f),_)=>(l.map fun x=>f (x,()),())}
def J8n (a:Li) (b:Int):=b∈a
def Kbd (a:Int×Unit→Int) (b:Nat) (c:Li):=List.map (fun(x:Int)=>a (x,PUnit.unit)) (List.take b c)
def Kmq (a:Li) (b:Int×Unit→List Prop):=∀(x:Int),J8n a x→Ux (b (x,PUnit.unit))
theorem Kri [Sx.Dr]:Ok Tryz.prog 137 Kdd:=okW W16 Tryz.f137 (fun xx=>Zn (Jbz 3 26 sI xx.1 I false xx.2.1.1 xx.2.1.2)) fun xx=>by
 obtain⟨(l:List Int),⟨(q:Int×Unit→List Prop),(f:Int×Unit→Int)⟩,_⟩:=xx
 refine(by kernel_rfl:(Z52 l→Kmq l q→∃(x:Nat),Si (Ln l) (0=Nc x∧Sf l ((fun(x:Int×PUnit)=>q x)=q∧(fun(x:Int×PUnit)=>f x)=f∧List.length (Kbd f x l)=0))∧x≤List.length l∧∀(x:Nat),x≤List.length l→Br (decide (Nc x<Ln l)) (Tw (Bd (Nc x) (Ln l))∧(Ux (q (Z20 l x,PUnit.unit))∧(List.length (Kbd f x l)+1)*8≤140737488355328)∧Z17 x∧∃(y:Nat),Si (Ln l) (Z96 x y∧Sf l ((fun(x:Int×PUnit)=>q x)=q∧(fun(x:Int×PUnit)=>f x)=f∧Kbd f x l++[f (Z20 l x,PUnit.unit)]=Kbd f y l))∧y≤List.length l∧J4u l y x) (Kbd f x l=List.map (fun(x:Int)=>f (x,PUnit.unit)) l))=_).mp ?_
 delta Z17 Z20 Z52 Z96 J4u J8n Kbd Kmq Br Iw Bd Tw Sf Si Ln Nc
 intro hb hq
 refine⟨(0:Nat),⟨rfl,rfl,rfl,rfl,rfl,by simp⟩,Nat.zero_le _,fun(k:Nat) hk=>⟨fun h=> ?_,fun h=> ?_⟩⟩
 ·have hlt:k<l.length:=by simpa using h
  refine⟨Oo,⟨hq (l.getD k 0) (Je hlt),by simp only[List.length_map,List.length_take];omega⟩,Oo,(k+1:Nat),⟨rfl,by simp,rfl,rfl,rfl, ?_⟩,Oo,Oo⟩
  rw[←Ve (d:=0) hlt,List.map_append];rfl
 ·have hlt:¬k<l.length:=by simpa using h
  rw[List.take_of_length_le Oo]
abbrev W17 [Sx.Dr]:=W16.add Kri
def Jb2 (a:Ls):=List.length a≤1000000
def Jhl (a:Ls) (b:Bt):=b∈a
def Ka3 (a:Bt×Unit→Int) (b:Nat) (c:Ls):=List.map (fun(x:ByteArray)=>a (x,PUnit.unit)) (List.take b c)
theorem Krl [Sx.Dr]:Ok Tryz.prog 134 Kda:=okW W17 Tryz.f134 (fun xx=>Zn (Jbz 9 26 .str xx.1 I false xx.2.1.1 xx.2.1.2)) fun xx=>by
 obtain⟨(l:List ByteArray),⟨(q:ByteArray×Unit→List Prop),(f:ByteArray×Unit→Int)⟩,_⟩:=xx
 refine(by kernel_rfl:(Jb2 l→(∀(x:ByteArray),Jhl l x→Ux (q (x,PUnit.unit)))→∃(x:Nat),Si (Ln l) (0=Nc x∧Sf l ((fun(x:ByteArray×PUnit)=>q x)=q∧(fun(x:ByteArray×PUnit)=>f x)=f∧List.length (Ka3 f x l)=0))∧x≤List.length l∧∀(x:Nat),x≤List.length l→Br (decide (Nc x<Ln l)) (Tw (Bd (Nc x) (Ln l))∧(Ux (q (List.getD l x B0,PUnit.unit))∧(List.length (Ka3 f x l)+1)*8≤140737488355328)∧Z17 x∧∃(y:Nat),Si (Ln l) (Z96 x y∧Sf l ((fun(x:ByteArray×PUnit)=>q x)=q∧(fun(x:ByteArray×PUnit)=>f x)=f∧Ka3 f x l++[f (List.getD l x B0,PUnit.unit)]=Ka3 f y l))∧y≤List.length l∧List.length l-y<List.length l-x) (Ka3 f x l=List.map (fun(x:ByteArray)=>f (x,PUnit.unit)) l))=_).mp ?_
 delta Z17 Z96 Jb2 Jhl Ka3 Br Iw Bd Tw Sf Si Ln Nc B0
 intro hb hq
 refine⟨(0:Nat),⟨rfl,rfl,rfl,rfl,rfl,by simp⟩,Nat.zero_le _,fun(k:Nat) hk=>⟨fun h=> ?_,fun h=> ?_⟩⟩
 ·have hlt:k<l.length:=by simpa using h
  refine⟨Oo,⟨hq (l.getD k (⟨⟨[]⟩⟩:ByteArray)) (Je hlt),by simp only[List.length_map,List.length_take];omega⟩,Oo,(k+1:Nat),⟨rfl,by simp,rfl,rfl,rfl, ?_⟩,Oo,Oo⟩
  rw[←Ve (d:=(⟨⟨[]⟩⟩:ByteArray)) hlt,List.map_append];rfl
 ·have hlt:¬k<l.length:=by simpa using h
  rw[List.take_of_length_le Oo]
abbrev W18 [Sx.Dr]:=W17.add Krl
def Ks6:Con:={args:=[aS],ress:=[I],owns:=[],pre:=fun(s,_)=>[s.size≤1000000],spec:=fun(s,_)=>(bif Yx s then 0 else 8,())}
theorem Krk [Sx.Dr]:Ok Tryz.prog 135 Ks6:=okW W18 Tryz.f135 na fun xx=>by
 obtain⟨(s:ByteArray),_⟩:=xx
 refine(by kernel_rfl:(ByteArray.size s≤(1000000:Nat)→ByteArray.size s≤(1000000:Nat)∧(bif !Yx s then(8:Int) else(0:Int))=bif Yx s then(0:Int) else(8:Int))=_).mp ?_
 exact fun h=>⟨h,by cases Yx s<;>rfl⟩
abbrev W19 [Sx.Dr]:=W18.add Krk
def Ks5:Con:={args:=[aI],ress:=[I],owns:=[],pre:=fun _=>[],spec:=fun(n,_)=>(Km n 0 999999999,())}
theorem Krh [Sx.Dr]:Ok Tryz.prog 138 Ks5:=okW W19 Tryz.f138 na fun xx=>by
 obtain⟨(n:Int),_⟩:=xx
 refine(by kernel_rfl:(Knj n)=_).mp ?_
 delta Z73 Knj
 rfl
abbrev W20 [Sx.Dr]:=W19.add Krh
abbrev Ev:=Int×ByteArray×List ByteArray×List Int×ByteArray
abbrev sEv:Sch:= .prod sI (.prod .str (.prod (.list 9 .str) (.prod (.list 3 sI) .str)))
abbrev aEv:AK:= .val true sEv
def Jm (k:ByteArray):K3a:=(Uu .str k Dd).getD ([],0,none,none,none)
def Y5 (k:ByteArray):Bool:=(Uu .str k Dd).isSome
def Jb (e:Ev):Int:=
 if Km e.1 1 1000≠0 then Km e.1 1 1000 else
 bif Y5 e.2.1 then(if e.2.2.1.length=(Jm e.2.1).1.length∧(e.2.2.2.1.length:Int)=(Jm e.2.1).2.1 then
  Ji [Ji (e.2.2.1.map fun s=>bif Yx s then 0 else 8),Ji (e.2.2.2.1.map fun n=>Km n 0 999999999),bif decide (0<e.2.2.2.2.size) then 1 else 0] else 2) else 13
theorem bn1 {b c:Bool} (h:(bif b then true else c)=false):b=false∧c=false:=by cases b<;>simp_all
def Kd0:Con:={args:=[aEv],ress:=[I],owns:=[],pre:=fun(e,_)=>[e.2.2.1.length≤1000000,e.2.2.2.1.length≤1000000,∀s∈e.2.2.1,s.size≤1000000],spec:=fun(e,_)=>(Jb e,())}
def K18 (a:Ls):=List.map (fun(x:ByteArray)=>match Yx x with|true=>(0:Int)|false=>(8:Int)) a
def Jih (a:Ls):=∀(s:ByteArray),Jhl a s→ByteArray.size s≤1000000
def K0n (a:Bt):=Uu Sch.str a Dd
def Kwh (a:Bt):=Option.getD (K0n a) Kay
theorem K3h [Sx.Dr]:Ok Tryz.prog 64 Kd0:=okW W20 Tryz.f64 na fun xx=>by
 obtain⟨⟨(n:Int),(k:ByteArray),(ns:List ByteArray),(vs:List Int),(t:ByteArray)⟩,_⟩:=xx
 refine(by kernel_rfl:(Jb2 ns→Z52 vs→Jih ns→Br (Km n 1 (1000:Int) !=0) (Km n 1 1000=Jb (n,k,ns,vs,t)) (Br (!Option.isSome (K0n k)) (13=Jb (n,k,ns,vs,t)) (Br (bif Ln ns !=Ln (Kwh k).1 then true else Ln vs !=(Kwh k).2.1) (2=Jb (n,k,ns,vs,t)) ((Jb2 ns∧Jih ns)∧(Z52 vs∧∀(x:Int),J8n vs x→True)∧(List.length (K18 ns)≤1000000∧List.length (List.map (fun(x:Int)=>Z73 x) vs)≤1000000∧3≤1000000)∧Ji [Ji (K18 ns),Ji (List.map (fun(x:Int)=>Z73 x) vs),bif !Lb t B0 then 1 else 0]=Jb (n,k,ns,vs,t)))))=_).mp ?_
 delta Z52 Z73 Jb2 J8n Jhl Kay K18 Jih K0n Kwh Br Ln B0 Lb
 intro h1 h2 h3
 unfold Jb Jm Y5
 dsimp only
 refine⟨fun h=> ?_,fun h=> ?_⟩
 ·rw[if_pos (bne_iff_ne.1 h)]
 rw[if_neg (by have:=bne_eq_false_iff_eq.1 h;simpa using this)]
 refine⟨fun h4=> ?_,fun h4=> ?_⟩
 ·rw[Bool.not_eq_true'] at h4
  rw[h4];rfl
 rw[Bool.not_eq_false'] at h4
 rw[h4,cond_true]
 refine⟨fun h5=> ?_,fun h5=>⟨⟨h1,h3⟩,⟨h2,fun _ _=>trivial⟩,⟨by simpa using h1,by simpa using h2,Od⟩, ?_⟩⟩
 ·rw[if_neg]
  rintro⟨e1,e2⟩
  rw[e1,e2] at h5
  simp at h5
 ·have h6:=bn1 h5
  rw[if_pos ⟨Int.ofNat_inj.1 (bne_eq_false_iff_eq.1 h6.1),bne_eq_false_iff_eq.1 h6.2⟩,Jjv]
  rfl
abbrev W21 [Sx.Dr]:=W20.add K3h
abbrev La:Sch:= .prod sI sI
abbrev Sta:=ByteArray×Int×Int
abbrev Ord:=ByteArray×ByteArray×ByteArray×(Int×Int)×Int×Int×Int
abbrev Met:=ByteArray×Int×Int×Int
abbrev Out:=ByteArray×ByteArray×(Int×Int)×Int
abbrev Per:=ByteArray×ByteArray×Bool
abbrev Ft:Sch:= .prod .str (.prod sI sI)
abbrev Lt:Sch:= .prod .str (.prod .str (.prod .str (.prod La (.prod sI (.prod sI sI)))))
abbrev Jaw:Sch:= .prod .str (.prod sI (.prod sI sI))
abbrev Zw:Sch:= .prod .str (.prod .str (.prod La sI))
abbrev Hw:Sch:= .prod .str (.prod .str .bool)
def K3p:Con:={args:=[.val true Ft],ress:=[tS],owns:=[],pre:=fun _=>[],spec:=fun(x,_)=>(x.1,())}
def K3r:Con:={args:=[.val true Lt],ress:=[tS],owns:=[],pre:=fun _=>[],spec:=fun(x,_)=>(x.1,())}
def K3o:Con:={args:=[.val true Zw],ress:=[tS],owns:=[],pre:=fun _=>[],spec:=fun(x,_)=>(x.1,())}
def K3q:Con:={args:=[.val true Hw],ress:=[tS],owns:=[],pre:=fun _=>[],spec:=fun(x,_)=>(x.1,())}
theorem Kn2 [Sx.Dr] (x:Sta):wpF Tryz.prog W21.g (na ()) Tryz.f328 K3p (x,()):=by
 refine(by kernel_rfl:(x.1=x.1)=_).mp ?_
 rfl
theorem Ko0 [Sx.Dr]:Ok Tryz.prog 328 K3p:=V5 mixed W21.ok (by kernel_rfl) (by kernel_rfl) na fun xx=>Kn2 xx.1
abbrev W22 [Sx.Dr]:=W21.add Ko0
theorem Kn1 [Sx.Dr] (x:Ord):wpF Tryz.prog W22.g (na ()) Tryz.f329 K3r (x,()):=by
 refine(by kernel_rfl:(x.1=x.1)=_).mp ?_
 rfl
theorem Koz [Sx.Dr]:Ok Tryz.prog 329 K3r:=V5 mixed W22.ok (by kernel_rfl) (by kernel_rfl) na fun xx=>Kn1 xx.1
abbrev W23 [Sx.Dr]:=W22.add Koz
theorem Koa [Sx.Dr] (x:Out):wpF Tryz.prog W23.g (na ()) Tryz.f204 K3o (x,()):=by
 refine(by kernel_rfl:(x.1=x.1)=_).mp ?_
 rfl
theorem Kpv [Sx.Dr]:Ok Tryz.prog 204 K3o:=V5 mixed W23.ok (by kernel_rfl) (by kernel_rfl) na fun xx=>Koa xx.1
abbrev W24 [Sx.Dr]:=W23.add Kpv
theorem Kn9 [Sx.Dr] (x:Per):wpF Tryz.prog W24.g (na ()) Tryz.f208 K3q (x,()):=by
 refine(by kernel_rfl:(x.1=x.1)=_).mp ?_
 rfl
theorem Kpr [Sx.Dr]:Ok Tryz.prog 208 K3q:=V5 mixed W24.ok (by kernel_rfl) (by kernel_rfl) na fun xx=>Kn9 xx.1
abbrev W25 [Sx.Dr]:=W24.add Kpr
def Ja:ByteArray:=⟨⟨[]⟩⟩
def Vx {α:Type} (p:α→Bool):List α→Nat→Int
 |[],_=> -1
 |x::r,k=>if p x=true then(k:Int) else Vx p r (k+1)
theorem Ym {α:Type} {p:α→Bool} {l:List α} {k:Nat} {d:α} (h:k<l.length):Vx p (l.drop k) k=if p (l.getD k d)=true then(k:Int) else Vx p (l.drop (k+1)) (k+1):=by
 rw[List.drop_eq_getElem_cons h]
 simp[Vx,List.getD_eq_getElem?_getD,h]
abbrev Jna (T:TypeId) (s:Sch) (g:Bool) (l:List s.T) (q:Tup [(g,s)]→List Prop) (f:Tup [(g,s)]→Bool):Ann:={X:=Nat,σ:=fun k=>⟨2,[(0, .one (.sl 0)),(1, .one (.fv 1)),(7, .one (.int .i64 l.length)),(8, .one (.int .i64 k))],[(0, .imm T s l),(1, .afn [(g,s)] Bo q f)]⟩,inv:=fun k=>k≤l.length∧Vx (fun x=>f (x,())) l 0=Vx (fun x=>f (x,())) (l.drop k) k,mu:=fun k=>l.length-k}
def Kdj (T:TypeId) (s:Sch) (g:Bool):Con:={args:=[.val false (.list T s), .fn [(g,s)] Bo],ress:=[I],owns:=[],pre:=fun(l,(q,_),_)=>[l.length≤1000000,∀x∈l,Ux (q (x,()))],spec:=fun(l,(_,f),_)=>(Vx (fun x=>f (x,())) l 0,())}
def X4:Sta:=(Ja,0,0)
def K3t:Con:={args:=[.val true Ft, .ref 9 .str],ress:=[Bo],owns:=[],pre:=fun _=>[],spec:=fun(x,s,_)=>(x.1.toList==s.toList,())}
theorem Kn8 [Sx.Dr] (x:Sta) (s:ByteArray):wpF Tryz.prog W25.g (na ()) Tryz.f229 K3t (x,s,()):=by
 refine(by kernel_rfl:(Lb x.1 s=Lb x.1 s)=_).mp ?_
 delta Lb
 rfl
theorem Kpn [Sx.Dr]:Ok Tryz.prog 229 K3t:=V5 mixed W25.ok (by kernel_rfl) (by kernel_rfl) na fun xx=>Kn8 xx.1 xx.2.1
abbrev W26 [Sx.Dr]:=W25.add Kpn
def Z14:=(B0,(0:Int),(0:Int))
def Z59 (a:List Sta):=List.length a≤1000000
def Z69:=(-1)
def K1i (a:List Sta) (b:Nat):=(((List.getD a b Z14).1,E2 (List.getD a b Z14).2),PUnit.unit)
def Kk5 (a:Nat) (b:List Sta) (c:Sta×Unit→Bool):=a≤List.length b∧Vx (fun(x:Sta)=>c (x,PUnit.unit)) b 0=Vx (fun(x:Sta)=>c (x,PUnit.unit)) (List.drop a b) a
theorem Kpo [Sx.Dr]:Ok Tryz.prog 228 (Kdj 127 Ft true):=okW W26 Tryz.f228 (fun xx=>Zn (Jna 127 Ft true xx.1 xx.2.1.1 xx.2.1.2)) fun xx=>by
 obtain⟨(l:List Sta),⟨(q:Sta×Unit→List Prop),(f:Sta×Unit→Bool)⟩,_⟩:=xx
 refine(by kernel_rfl:(Z59 l→(∀(x:Sta),x∈l→Ux (q (x,PUnit.unit)))→∃(x:Nat),Si (Ln l) (0=Nc x∧Sf l ((fun(x:Sta×PUnit)=>q x)=q∧(fun(x:Sta×PUnit)=>f x)=f))∧Kk5 x l f∧∀(x:Nat),Kk5 x l f→Br (decide (Nc x<Ln l)) (T2 (Bd (Nc x) (Ln l)) (Ux (q (K1i l x)))∧Br (f (K1i l x)) (Nc x=Vx (fun(x:Sta)=>f (x,PUnit.unit)) l 0) (Z17 x∧∃(y:Nat),Si (Ln l) (Z96 x y∧Sf l ((fun(x:Sta×PUnit)=>q x)=q∧(fun(x:Sta×PUnit)=>f x)=f))∧Kk5 y l f∧List.length l-y<List.length l-x)) (Z69=Vx (fun(x:Sta)=>f (x,PUnit.unit)) l 0))=_).mp ?_
 delta Z14 Z17 Z59 Z69 Z96 K1i Kk5 Br Iw Bd T2 Sf Si Ln Nc B0 E2
 intro hb hq
 refine⟨(0:Nat),⟨rfl,rfl,rfl,rfl,rfl⟩,⟨Nat.zero_le _,rfl⟩,fun(k:Nat) hk=>⟨fun h=> ?_,fun h=> ?_⟩⟩
 ·have hlt:k<l.length:=by simpa using h
  have hd:=Ym (p:=fun x=>f (x,())) (d:=X4) hlt
  refine⟨⟨Oo,Oo,hq (l.getD k X4) (Je hlt)⟩,fun h1=> ?_,fun h1=>⟨Oo,(k+1:Nat),⟨rfl,rfl,rfl,by simp,rfl⟩,⟨Oo, ?_⟩,Oo⟩⟩
  ·rw[hk.2,hd,if_pos (show f (l.getD k X4,())=true from h1)]
  ·rw[hk.2,hd,if_neg (by rw[show f (l.getD k X4,())=false from h1];simp)]
 ·have hlt:¬k<l.length:=by simpa using h
  have:k=l.length:=by omega
  rw[hk.2,this,List.drop_length];rfl
abbrev W27 [Sx.Dr]:=W26.add Kpo
def Jn (l:List Sta) (s:ByteArray):Int:=Vx (fun x=>x.1.toList==s.toList) l 0
def Kdp:Con:={args:=[.val false (.list 127 Ft),aS],ress:=[I],owns:=[],pre:=fun(l,_)=>[l.length≤1000000],spec:=fun(l,s,_)=>(Jn l s,())}
theorem Krc [Sx.Dr]:Ok Tryz.prog 143 Kdp:=okW W27 Tryz.f143 na fun xx=>by
 obtain⟨(l:List Sta),(s:ByteArray),_⟩:=xx
 refine(by kernel_rfl:(Z59 l→(Z59 l∧∀(x:Sta),x∈l→True)∧Vx (fun(x:Sta)=>List.beq (ByteArray.toList x.1) (ByteArray.toList s)) l 0=Jn l s)=_).mp ?_
 delta Z59
 exact fun h=>⟨⟨h,fun _ _=>trivial⟩,rfl⟩
abbrev W28 [Sx.Dr]:=W27.add Krc
def Kb:Ord:=(Ja,Ja,Ja,(0,0),0,0,0)
def K3v:Con:={args:=[.val true Lt, .ref 9 .str],ress:=[Bo],owns:=[],pre:=fun _=>[],spec:=fun(x,s,_)=>(x.1.toList==s.toList,())}
theorem Kn7 [Sx.Dr] (x:Ord) (s:ByteArray):wpF Tryz.prog W28.g (na ()) Tryz.f231 K3v (x,s,()):=by
 refine(by kernel_rfl:(Lb x.1 s=Lb x.1 s)=_).mp ?_
 delta Lb
 rfl
theorem Kpl [Sx.Dr]:Ok Tryz.prog 231 K3v:=V5 mixed W28.ok (by kernel_rfl) (by kernel_rfl) na fun xx=>Kn7 xx.1 xx.2.1
abbrev W29 [Sx.Dr]:=W28.add Kpl
def Z55 (a:List Ord):=List.length a≤1000000
def Z71:=((0:Int),(0:Int),(0:Int))
def Jen:=(B0,B0,B0,((0:Int),(0:Int)),Z71)
def Khf (a:List Ord) (b:Nat):=List.getD a b Jen
def Kmp (a:List Ord) (b:Nat):=(Khf a b).2
def Kmn (a:List Ord) (b:Ord×Unit→List Prop):=∀(x:Ord),x∈a→Ux (b (x,PUnit.unit))
def Khd (a:List Ord) (b:Nat):=(Khf a b).1
def Kmk (a:List Ord) (b:Nat):=(Kmp a b).2
def Kmh (a:List Ord) (b:Nat):=(Kmk a b).2
def Kme (a:List Ord) (b:Nat):=(Kmh a b).2
def Kk7 (a:Nat) (b:List Ord) (c:Ord×Unit→Bool):=a≤List.length b∧Vx (fun(x:Ord)=>c (x,PUnit.unit)) b 0=Vx (fun(x:Ord)=>c (x,PUnit.unit)) (List.drop a b) a
def Ke9 (a:List Ord) (b:Nat):=((Khd a b,(Kmp a b).1,(Kmk a b).1,E2 (Kmh a b).1,(Kme a b).1,E2 (Kme a b).2),PUnit.unit)
def Kiv (a:Ord×Unit→List Prop) (b:List Ord) (c:Nat):=Ux (a (Ke9 b c))
theorem Kpm [Sx.Dr]:Ok Tryz.prog 230 (Kdj 130 Lt true):=okW W29 Tryz.f230 (fun xx=>Zn (Jna 130 Lt true xx.1 xx.2.1.1 xx.2.1.2)) fun xx=>by
 obtain⟨(l:List Ord),⟨(q:Ord×Unit→List Prop),(f:Ord×Unit→Bool)⟩,_⟩:=xx
 refine(by kernel_rfl:(Z55 l→Kmn l q→∃(x:Nat),Si (Ln l) (0=Nc x∧Sf l ((fun(x:Ord×PUnit)=>q x)=q∧(fun(x:Ord×PUnit)=>f x)=f))∧Kk7 x l f∧∀(x:Nat),Kk7 x l f→Br (decide (Nc x<Ln l)) (T2 (Bd (Nc x) (Ln l)) (Kiv q l x)∧Br (f (Ke9 l x)) (Nc x=Vx (fun(x:Ord)=>f (x,PUnit.unit)) l 0) (Z17 x∧∃(y:Nat),Si (Ln l) (Z96 x y∧Sf l ((fun(x:Ord×PUnit)=>q x)=q∧(fun(x:Ord×PUnit)=>f x)=f))∧Kk7 y l f∧List.length l-y<List.length l-x)) (Z69=Vx (fun(x:Ord)=>f (x,PUnit.unit)) l 0))=_).mp ?_
 delta Z17 Z55 Z69 Z71 Z96 Jen Khf Kmp Kmn Khd Kmk Kmh Kme Kk7 Ke9 Kiv Br Iw Bd T2 Sf Si Ln Nc B0 E2
 intro hb hq
 refine⟨(0:Nat),⟨rfl,rfl,rfl,rfl,rfl⟩,⟨Nat.zero_le _,rfl⟩,fun(k:Nat) hk=>⟨fun h=> ?_,fun h=> ?_⟩⟩
 ·have hlt:k<l.length:=by simpa using h
  have hd:=Ym (p:=fun x=>f (x,())) (d:=Kb) hlt
  refine⟨⟨Oo,Oo,hq (l.getD k Kb) (Je hlt)⟩,fun h1=> ?_,fun h1=>⟨Oo,(k+1:Nat),⟨rfl,rfl,rfl,by simp,rfl⟩,⟨Oo, ?_⟩,Oo⟩⟩
  ·rw[hk.2,hd,if_pos (show f (l.getD k Kb,())=true from h1)]
  ·rw[hk.2,hd,if_neg (by rw[show f (l.getD k Kb,())=false from h1];simp)]
 ·have hlt:¬k<l.length:=by simpa using h
  have:k=l.length:=by omega
  rw[hk.2,this,List.drop_length];rfl
abbrev W30 [Sx.Dr]:=W29.add Kpm
def Kd (l:List Ord) (s:ByteArray):Int:=Vx (fun x=>x.1.toList==s.toList) l 0
def Kdr:Con:={args:=[.val false (.list 130 Lt),aS],ress:=[I],owns:=[],pre:=fun(l,_)=>[l.length≤1000000],spec:=fun(l,s,_)=>(Kd l s,())}
theorem Krb [Sx.Dr]:Ok Tryz.prog 144 Kdr:=okW W30 Tryz.f144 na fun xx=>by
 obtain⟨(l:List Ord),(s:ByteArray),_⟩:=xx
 refine(by kernel_rfl:(Z55 l→(Z55 l∧∀(x:Ord),x∈l→True)∧Vx (fun(x:Ord)=>List.beq (ByteArray.toList x.1) (ByteArray.toList s)) l 0=Kd l s)=_).mp ?_
 delta Z55
 exact fun h=>⟨⟨h,fun _ _=>trivial⟩,rfl⟩
abbrev W31 [Sx.Dr]:=W30.add Krb
def Jax:Out:=(Ja,Ja,(0,0),0)
def K3s:Con:={args:=[.val true Zw, .ref 9 .str],ress:=[Bo],owns:=[],pre:=fun _=>[],spec:=fun(x,s,_)=>(x.1.toList==s.toList,())}
theorem Kn6 [Sx.Dr] (x:Out) (s:ByteArray):wpF Tryz.prog W31.g (na ()) Tryz.f233 K3s (x,s,()):=by
 refine(by kernel_rfl:(Lb x.1 s=Lb x.1 s)=_).mp ?_
 delta Lb
 rfl
theorem Kpj [Sx.Dr]:Ok Tryz.prog 233 K3s:=V5 mixed W31.ok (by kernel_rfl) (by kernel_rfl) na fun xx=>Kn6 xx.1 xx.2.1
abbrev W32 [Sx.Dr]:=W31.add Kpj
def Z19 (a:Nat) (b:List Out):=Bd (Nc a) (Ln b)
def Z47 (a:List Out):=List.length a≤1000000
def Z87 (a:Nat) (b:List Out):=decide (Nc a<Ln b)
def Jg8:=(B0,B0,((0:Int),(0:Int)),(0:Int))
def Jz6 (a:List Out) (b c:Nat):=List.length a-b<List.length a-c
def J2y (a:List Out) (b:Nat):=List.getD a b Jg8
def J2x (a:List Out) (b:Nat):=(J2y a b).1
def J4o (a:List Out) (b:Nat):=(J2y a b).2.2
def J4n (a:List Out) (b:Out×Unit→List Prop):=∀(x:Out),x∈a→Ux (b (x,PUnit.unit))
def Kk3 (a:Nat) (b:List Out) (c:Out×Unit→Bool):=a≤List.length b∧Vx (fun(x:Out)=>c (x,PUnit.unit)) b 0=Vx (fun(x:Out)=>c (x,PUnit.unit)) (List.drop a b) a
def J99 (a:List Out) (b:Nat):=(J2x a b,(J2y a b).2.1,E2 (J4o a b).1,(J4o a b).2)
def J4k (a:List Out) (b:Nat):=(J99 a b,PUnit.unit)
def Ki7 (a:Out×Unit→Bool) (b:List Out) (c:Nat):=a (J4k b c)
def J4j (a:Out×Unit→List Prop) (b:List Out) (c:Nat):=Ux (a (J4k b c))
theorem Kpk [Sx.Dr]:Ok Tryz.prog 232 (Kdj 188 Zw true):=okW W32 Tryz.f232 (fun xx=>Zn (Jna 188 Zw true xx.1 xx.2.1.1 xx.2.1.2)) fun xx=>by
 obtain⟨(l:List Out),⟨(q:Out×Unit→List Prop),(f:Out×Unit→Bool)⟩,_⟩:=xx
 refine(by kernel_rfl:(Z47 l→J4n l q→∃(x:Nat),Si (Ln l) (0=Nc x∧Sf l ((fun(x:Out×PUnit)=>q x)=q∧(fun(x:Out×PUnit)=>f x)=f))∧Kk3 x l f∧∀(x:Nat),Kk3 x l f→Br (Z87 x l) (T2 (Z19 x l) (J4j q l x)∧Br (Ki7 f l x) (Nc x=Vx (fun(x:Out)=>f (x,PUnit.unit)) l 0) (Z17 x∧∃(y:Nat),Si (Ln l) (Z96 x y∧Sf l ((fun(x:Out×PUnit)=>q x)=q∧(fun(x:Out×PUnit)=>f x)=f))∧Kk3 y l f∧Jz6 l y x)) (Z69=Vx (fun(x:Out)=>f (x,PUnit.unit)) l 0))=_).mp ?_
 delta Z17 Z19 Z47 Z69 Z87 Z96 Jg8 Jz6 J2y J2x J4o J4n Kk3 J99 J4k Ki7 J4j Br Iw Bd T2 Sf Si Ln Nc B0 E2
 intro hb hq
 refine⟨(0:Nat),⟨rfl,rfl,rfl,rfl,rfl⟩,⟨Nat.zero_le _,rfl⟩,fun(k:Nat) hk=>⟨fun h=> ?_,fun h=> ?_⟩⟩
 ·have hlt:k<l.length:=by simpa using h
  have hd:=Ym (p:=fun x=>f (x,())) (d:=Jax) hlt
  refine⟨⟨Oo,Oo,hq (l.getD k Jax) (Je hlt)⟩,fun h1=> ?_,fun h1=>⟨Oo,(k+1:Nat),⟨rfl,rfl,rfl,by simp,rfl⟩,⟨Oo, ?_⟩,Oo⟩⟩
  ·rw[hk.2,hd,if_pos (show f (l.getD k Jax,())=true from h1)]
  ·rw[hk.2,hd,if_neg (by rw[show f (l.getD k Jax,())=false from h1];simp)]
 ·have hlt:¬k<l.length:=by simpa using h
  have:k=l.length:=by omega
  rw[hk.2,this,List.drop_length];rfl
abbrev W33 [Sx.Dr]:=W32.add Kpk
def J6 (l:List Out) (s:ByteArray):Int:=Vx (fun x=>x.1.toList==s.toList) l 0
def Kdo:Con:={args:=[.val false (.list 188 Zw),aS],ress:=[I],owns:=[],pre:=fun(l,_)=>[l.length≤1000000],spec:=fun(l,s,_)=>(J6 l s,())}
def Knc (a:List Out):=∀(x:Out),x∈a→True
theorem Kra [Sx.Dr]:Ok Tryz.prog 145 Kdo:=okW W33 Tryz.f145 na fun xx=>by
 obtain⟨(l:List Out),(s:ByteArray),_⟩:=xx
 refine(by kernel_rfl:(Z47 l→(Z47 l∧Knc l)∧Vx (fun(x:Out)=>List.beq (ByteArray.toList x.1) (ByteArray.toList s)) l 0=J6 l s)=_).mp ?_
 delta Z47 Knc
 exact fun h=>⟨⟨h,fun _ _=>trivial⟩,rfl⟩
abbrev W34 [Sx.Dr]:=W33.add Kra
def Jjo:Per:=(Ja,Ja,false)
def K3u:Con:={args:=[.val true Hw, .ref 9 .str],ress:=[Bo],owns:=[],pre:=fun _=>[],spec:=fun(x,s,_)=>(x.1.toList==s.toList,())}
theorem Kn5 [Sx.Dr] (x:Per) (s:ByteArray):wpF Tryz.prog W34.g (na ()) Tryz.f235 K3u (x,s,()):=by
 refine(by kernel_rfl:(Lb x.1 s=Lb x.1 s)=_).mp ?_
 delta Lb
 rfl
theorem Kph [Sx.Dr]:Ok Tryz.prog 235 K3u:=V5 mixed W34.ok (by kernel_rfl) (by kernel_rfl) na fun xx=>Kn5 xx.1 xx.2.1
abbrev W35 [Sx.Dr]:=W34.add Kph
def Z49 (a:List Per):=List.length a≤1000000
def J0c (a:Nat) (b:List Per):=decide (Nc a<Ln b)
def J4z (a:List Per) (b:Nat):=(List.getD a b (B0,B0,false)).2
def J21 (a:List Per) (b c:Nat):=List.length a-b<List.length a-c
def Kav (a:List Per) (b:Per×Unit→List Prop):=∀(x:Per),x∈a→Ux (b (x,PUnit.unit))
def Kg5 (a:List Per) (b:Nat):=((List.getD a b (B0,B0,false)).1,E2 (J4z a b))
def Kat (a:List Per) (b:Nat):=(Kg5 a b,PUnit.unit)
def Kln (a:Per×Unit→Bool) (b:List Per) (c:Nat):=a (Kat b c)
def Kar (a:Per×Unit→List Prop) (b:List Per) (c:Nat):=Ux (a (Kat b c))
def Kk6 (a:Nat) (b:List Per) (c:Per×Unit→Bool):=a≤List.length b∧Vx (fun(x:Per)=>c (x,PUnit.unit)) b 0=Vx (fun(x:Per)=>c (x,PUnit.unit)) (List.drop a b) a
theorem Kpi [Sx.Dr]:Ok Tryz.prog 234 (Kdj 235 Hw true):=okW W35 Tryz.f234 (fun xx=>Zn (Jna 235 Hw true xx.1 xx.2.1.1 xx.2.1.2)) fun xx=>by
 obtain⟨(l:List Per),⟨(q:Per×Unit→List Prop),(f:Per×Unit→Bool)⟩,_⟩:=xx
 refine(by kernel_rfl:(Z49 l→Kav l q→∃(x:Nat),Si (Ln l) (0=Nc x∧Sf l ((fun(x:Per×PUnit)=>q x)=q∧(fun(x:Per×PUnit)=>f x)=f))∧Kk6 x l f∧∀(x:Nat),Kk6 x l f→Br (J0c x l) (T2 (Bd (Nc x) (Ln l)) (Kar q l x)∧Br (Kln f l x) (Nc x=Vx (fun(x:Per)=>f (x,PUnit.unit)) l 0) (Z17 x∧∃(y:Nat),Si (Ln l) (Z96 x y∧Sf l ((fun(x:Per×PUnit)=>q x)=q∧(fun(x:Per×PUnit)=>f x)=f))∧Kk6 y l f∧J21 l y x)) (Z69=Vx (fun(x:Per)=>f (x,PUnit.unit)) l 0))=_).mp ?_
 delta Z17 Z49 Z69 Z96 J0c J4z J21 Kav Kg5 Kat Kln Kar Kk6 Br Iw Bd T2 Sf Si Ln Nc B0 E2
 intro hb hq
 refine⟨(0:Nat),⟨rfl,rfl,rfl,rfl,rfl⟩,⟨Nat.zero_le _,rfl⟩,fun(k:Nat) hk=>⟨fun h=> ?_,fun h=> ?_⟩⟩
 ·have hlt:k<l.length:=by simpa using h
  have hd:=Ym (p:=fun x=>f (x,())) (d:=Jjo) hlt
  refine⟨⟨Oo,Oo,hq (l.getD k Jjo) (Je hlt)⟩,fun h1=> ?_,fun h1=>⟨Oo,(k+1:Nat),⟨rfl,rfl,rfl,by simp,rfl⟩,⟨Oo, ?_⟩,Oo⟩⟩
  ·rw[hk.2,hd,if_pos (show f (l.getD k Jjo,())=true from h1)]
  ·rw[hk.2,hd,if_neg (by rw[show f (l.getD k Jjo,())=false from h1];simp)]
 ·have hlt:¬k<l.length:=by simpa using h
  have:k=l.length:=by omega
  rw[hk.2,this,List.drop_length];rfl
abbrev W36 [Sx.Dr]:=W35.add Kpi
def Va (l:List Per) (s:ByteArray):Int:=Vx (fun x=>x.1.toList==s.toList) l 0
def Kdq:Con:={args:=[.val false (.list 235 Hw),aS],ress:=[I],owns:=[],pre:=fun(l,_)=>[l.length≤1000000],spec:=fun(l,s,_)=>(Va l s,())}
def Kls (a:List Per):=Z49 a∧∀(x:Per),x∈a→True
theorem Kq9 [Sx.Dr]:Ok Tryz.prog 146 Kdq:=okW W36 Tryz.f146 na fun xx=>by
 obtain⟨(l:List Per),(s:ByteArray),_⟩:=xx
 refine(by kernel_rfl:(Z49 l→Kls l∧Vx (fun(x:Per)=>List.beq (ByteArray.toList x.1) (ByteArray.toList s)) l 0=Va l s)=_).mp ?_
 delta Z49 Kls
 exact fun h=>⟨⟨h,fun _ _=>trivial⟩,rfl⟩
abbrev W37 [Sx.Dr]:=W36.add Kq9
abbrev Reg:=Int×Int×List Sta×List Ord×List Met×List Out×List Per
abbrev Jlv:Sch:= .prod sI (.prod sI (.prod (.list 127 Ft) (.prod (.list 130 Lt) (.prod (.list 155 Jaw) (.prod (.list 188 Zw) (.list 235 Hw))))))
abbrev Jb4:AK:= .val true Jlv
def Kk (s:Int×Int) (h:Int):Bool:=bif decide (s.1≤h) then decide (h<s.2) else false
def Jxu:Con:={args:=[.val true La,aI],ress:=[Bo],owns:=[],pre:=fun _=>[],spec:=fun(s,h,_)=>(Kk s h,())}
theorem Krf [Sx.Dr]:Ok Tryz.prog 140 Jxu:=okW W37 Tryz.f140 na fun xx=>by
 obtain⟨⟨(a:Int),(b:Int)⟩,(h:Int),_⟩:=xx
 refine(by kernel_rfl:((bif decide (a≤h) then decide (h<b) else false)=Kk (a,b) h)=_).mp ?_
 rfl
abbrev W38 [Sx.Dr]:=W37.add Krf
def Jh (x:Ord) (h:Int):Bool:=bif Kk x.2.2.2.1 h then(bif x.2.2.2.2.2.2== -1 then true else decide (h<x.2.2.2.2.2.2)) else false
def J65:Con:={args:=[.val true Lt,aI],ress:=[Bo],owns:=[],pre:=fun _=>[],spec:=fun(x,h,_)=>(Jh x h,())}
theorem K6k [Sx.Dr]:Ok Tryz.prog 72 J65:=okW W38 Tryz.f72 na fun xx=>by
 obtain⟨⟨(n:ByteArray),(f:ByteArray),(t:ByteArray),⟨(a:Int),(b:Int)⟩,(p:Int),(c:Int),(r:Int)⟩,(h:Int),_⟩:=xx
 refine(by kernel_rfl:((bif Kk (a,b) h then bif r==Z69 then true else decide (h<r) else false)=Jh (n,f,t,(a,b),p,c,r) h)=_).mp ?_
 delta Z69
 rfl
abbrev W39 [Sx.Dr]:=W38.add K6k
def Yg (x:Ord) (s:ByteArray):Bool:=bif x.2.1.toList==s.toList then true else x.2.2.1.toList==s.toList
def Kd4:Con:={args:=[.val true Lt,aS],ress:=[Bo],owns:=[],pre:=fun _=>[],spec:=fun(x,s,_)=>(Yg x s,())}
theorem Kpc [Sx.Dr]:Ok Tryz.prog 240 Kd4:=okW W39 Tryz.f240 na fun xx=>by
 obtain⟨⟨(n:ByteArray),(f:ByteArray),(t:ByteArray),⟨(a:Int),(b:Int)⟩,(p:Int),(c:Int),(r:Int)⟩,(s:ByteArray),_⟩:=xx
 refine(by kernel_rfl:((bif Lb f s then true else Lb t s)=Yg (n,f,t,(a,b),p,c,r) s)=_).mp ?_
 delta Lb
 rfl
abbrev W40 [Sx.Dr]:=W39.add Kpc
def Jff (x:Out) (s:ByteArray) (h:Int):Bool:=bif x.2.1.toList==s.toList then Kk x.2.2.1 h else false
def K7m:Con:={args:=[.val true Zw,aS,aI],ress:=[Bo],owns:=[],pre:=fun _=>[],spec:=fun(x,s,h,_)=>(Jff x s h,())}
theorem Kqf [Sx.Dr]:Ok Tryz.prog 176 K7m:=okW W40 Tryz.f176 na fun xx=>by
 obtain⟨⟨(n:ByteArray),(f:ByteArray),⟨(a:Int),(b:Int)⟩,(p:Int)⟩,(s:ByteArray),(h:Int),_⟩:=xx
 refine(by kernel_rfl:((bif Lb f s then Kk (a,b) h else false)=Jff (n,f,(a,b),p) s h)=_).mp ?_
 delta Lb
 rfl
abbrev W41 [Sx.Dr]:=W40.add Kqf
theorem J2 {α:Type} {l:List α} {k:Nat} {d:α} (h:k<l.length):l.drop k=l.getD k d::l.drop (k+1):=by
 rw[List.drop_eq_getElem_cons h,List.getD_eq_getElem?_getD,List.getElem?_eq_getElem h];rfl
theorem Jch {α:Type} {p:α→Bool}:∀{l:List α} {k:Nat},Vx p l k<k+l.length∧-1≤Vx p l k
 |[],k=>by simp[Vx];omega
 | x :: l, k => by
  unfold Vx
  split
  ·simp only[List.length_cons];omega
  ·have:=Jch (p:=p) (l:=l) (k:=k+1)
   simp only[List.length_cons];omega
theorem Kt {l:List Sta} {s:ByteArray}:Jn l s<l.length:=by have:=(Jch (p:=fun x=>x.1.toList==s.toList) (l:=l) (k:=0)).1;unfold Jn;omega
theorem Uj {l:List Ord} {s:ByteArray}:Kd l s<l.length:=by have:=(Jch (p:=fun x=>x.1.toList==s.toList) (l:=l) (k:=0)).1;unfold Kd;omega
theorem Ut {l:List Out} {s:ByteArray}:J6 l s<l.length:=by have:=(Jch (p:=fun x=>x.1.toList==s.toList) (l:=l) (k:=0)).1;unfold J6;omega
theorem U8 {l:List Per} {s:ByteArray}:Va l s<l.length:=by have:=(Jch (p:=fun x=>x.1.toList==s.toList) (l:=l) (k:=0)).1;unfold Va;omega
def Kw (M:List Met) (n:ByteArray) (h:Int):Int:=Vx (fun x=>bif x.1.toList==n.toList then x.2.1==h else false) M 0
theorem D2 {l:List Met} {s:ByteArray} {h:Int}:Kw l s h<l.length:=by have:=(Jch (p:=fun x=>bif x.1.toList==s.toList then x.2.1==h else false) (l:=l) (k:=0)).1;unfold Kw;omega
structure J9r (x:Sta):Prop where
 lim:1≤x.2.1∧x.2.1≤1000
 pri:0≤x.2.2∧x.2.2≤1000
structure Jnd (x:Int×Int):Prop where
 lo:0≤x.1
 mid:x.1≤x.2
 hi:x.2≤999999999
 len:x.2-x.1≤48
structure Jcy (S:List Sta) (x:Ord):Prop where
 span:Jnd x.2.2.2.1
 pow:1≤x.2.2.2.2.1∧x.2.2.2.2.1≤1000
 pri:0≤x.2.2.2.2.2.1∧x.2.2.2.2.2.1≤1000
 trip: -1≤x.2.2.2.2.2.2∧x.2.2.2.2.2.2≤999999999
 fr:0≤Jn S x.2.1
 tu:0≤Jn S x.2.2.1
structure Jzl (x:Met):Prop where
 hour:0≤x.2.1∧x.2.1≤999999999
 sent:0≤x.2.2.1∧x.2.2.1≤1000
 got:0≤x.2.2.2∧x.2.2.2≤x.2.2.1
structure Jpv (S:List Sta) (x:Out):Prop where
 span:Jnd x.2.2.1
 rest:0≤x.2.2.2∧x.2.2.2≤1000
 sta:0≤Jn S x.2.1
structure Jj (r:Reg):Prop where
 tk:0≤r.1∧r.1≤999999999
 st:0≤r.2.1∧r.2.1≤r.1
 nS:r.2.2.1.length≤6
 nO:r.2.2.2.1.length≤32
 nM:r.2.2.2.2.1.length≤10000
 nX:r.2.2.2.2.2.1.length≤16
 nQ:r.2.2.2.2.2.2.length≤16
 sta:∀x∈r.2.2.1,J9r x
 ord:∀x∈r.2.2.2.1,Jcy r.2.2.1 x
 met:∀x∈r.2.2.2.2.1,Jzl x
 out:∀x∈r.2.2.2.2.2.1,Jpv r.2.2.1 x
 per:∀x∈r.2.2.2.2.2.2,0≤J6 r.2.2.2.2.2.1 x.2.1
 done:∀x∈r.2.2.2.1,∀h,Jh x h=true→h<r.2.1→0≤Kw r.2.2.2.2.1 x.1 h
def Yi (S:List Sta) (s:ByteArray):Sta:=S.getD (Jn S s).toNat X4
def J6z:Con:={args:=[Jb4,aS],ress:=[(true,Ft)],owns:=[],pre:=fun((_,_,S,_),s,_)=>[S.length≤1000000,0≤Jn S s],spec:=fun((_,_,S,_),s,_)=>(Yi S s,())}
def Z24 (a:List Sta) (b:Bt):=0≤Jn a b
def Kht (a:List Sta) (b:Bt):=Gt a (Jn a b) Z14
theorem Kqg [Sx.Dr]:Ok Tryz.prog 175 J6z:=okW W41 Tryz.f175 na fun xx=>by
 obtain⟨⟨(tk:Int),(st:Int),(S:List Sta),(O:List Ord),(M:List Met),(X:List Out),(Q:List Per)⟩,(s:ByteArray),_⟩:=xx
 refine(by kernel_rfl:(Z59 S→Z24 S s→(Z59 S∧Tw (Bd (Jn S s) (Ln S)))∧((Kht S s).1,E2 (Kht S s).2)=Yi S s)=_).mp ?_
 delta Z14 Z24 Z59 Kht Bd Tw Ln Gt B0 E2
 exact fun h1 h2=>⟨⟨h1,⟨h2,Kt⟩,⟨h2,Kt⟩⟩,rfl⟩
abbrev W42 [Sx.Dr]:=W41.add Kqg
def Vk (O:List Ord) (s:ByteArray):Ord:=O.getD (Kd O s).toNat Kb
def J62:Con:={args:=[Jb4,aS],ress:=[(true,Lt)],owns:=[],pre:=fun((_,_,_,O,_),s,_)=>[O.length≤1000000,0≤Kd O s],spec:=fun((_,_,_,O,_),s,_)=>(Vk O s,())}
def K2c (a:List Ord) (b:Bt):=Gt a (Kd a b) Jen
def K17 (a:List Ord) (b:Bt):=(K2c a b).2
def K15 (a:List Ord) (b:Bt):=(K17 a b).2
def K13 (a:List Ord) (b:Bt):=(K15 a b).2
def K1y (a:List Ord) (b:Bt):=(K13 a b).2
theorem Kp1 [Sx.Dr]:Ok Tryz.prog 198 J62:=okW W42 Tryz.f198 na fun xx=>by
 obtain⟨⟨(tk:Int),(st:Int),(S:List Sta),(O:List Ord),(M:List Met),(X:List Out),(Q:List Per)⟩,(s:ByteArray),_⟩:=xx
 refine(by kernel_rfl:(Z55 O→0≤Kd O s→(Z55 O∧Tw (Bd (Kd O s) (Ln O)))∧((K2c O s).1,(K17 O s).1,(K15 O s).1,E2 (K13 O s).1,(K1y O s).1,E2 (K1y O s).2)=Vk O s)=_).mp ?_
 delta Z55 Z71 Jen K2c K17 K15 K13 K1y Bd Tw Ln Gt B0 E2
 exact fun h1 h2=>⟨⟨h1,⟨h2,Uj⟩,⟨h2,Uj⟩⟩,rfl⟩
abbrev W43 [Sx.Dr]:=W42.add Kp1
def Le (X:List Out) (s:ByteArray):Out:=X.getD (J6 X s).toNat Jax
def J61:Con:={args:=[Jb4,aS],ress:=[(true,Zw)],owns:=[],pre:=fun((_,_,_,_,_,X,_),s,_)=>[X.length≤1000000,0≤J6 X s],spec:=fun((_,_,_,_,_,X,_),s,_)=>(Le X s,())}
def Kng (a:List Out) (b:Bt):=(Gt a (J6 a b) Jg8).2
theorem Kpa [Sx.Dr]:Ok Tryz.prog 242 J61:=okW W43 Tryz.f242 na fun xx=>by
 obtain⟨⟨(tk:Int),(st:Int),(S:List Sta),(O:List Ord),(M:List Met),(X:List Out),(Q:List Per)⟩,(s:ByteArray),_⟩:=xx
 refine(by kernel_rfl:(Z47 X→0≤J6 X s→(Z47 X∧Tw (Bd (J6 X s) (Ln X)))∧((Gt X (J6 X s) Jg8).1,(Kng X s).1,E2 (Kng X s).2.1,(Kng X s).2.2)=Le X s)=_).mp ?_
 delta Z47 Jg8 Kng Bd Tw Ln Gt B0 E2
 exact fun h1 h2=>⟨⟨h1,⟨h2,Ut⟩,⟨h2,Ut⟩⟩,rfl⟩
abbrev W44 [Sx.Dr]:=W43.add Kpa
def Jnh (Q:List Per) (s:ByteArray):Per:=Q.getD (Va Q s).toNat Jjo
def J60:Con:={args:=[Jb4,aS],ress:=[(true,Hw)],owns:=[],pre:=fun((_,_,_,_,_,_,Q),s,_)=>[Q.length≤1000000,0≤Va Q s],spec:=fun((_,_,_,_,_,_,Q),s,_)=>(Jnh Q s,())}
theorem Ko7 [Sx.Dr]:Ok Tryz.prog 245 J60:=okW W44 Tryz.f245 na fun xx=>by
 obtain⟨⟨(tk:Int),(st:Int),(S:List Sta),(O:List Ord),(M:List Met),(X:List Out),(Q:List Per)⟩,(s:ByteArray),_⟩:=xx
 refine(by kernel_rfl:(Z49 Q→0≤Va Q s→(Z49 Q∧Tw (Bd (Va Q s) (Ln Q)))∧((Gt Q (Va Q s) (B0,B0,false)).1,E2 (Gt Q (Va Q s) (B0,B0,false)).2)=Jnh Q s)=_).mp ?_
 delta Z49 Bd Tw Ln Gt B0 E2
 exact fun h1 h2=>⟨⟨h1,⟨h2,U8⟩,⟨h2,U8⟩⟩,rfl⟩
abbrev W45 [Sx.Dr]:=W44.add Ko7
def K5:List Ord→ByteArray→Int→Int
 |[],_,_=>0
 |x::l,s,h=>(bif bif Yg x s then Jh x h else false then x.2.2.2.2.1 else 0)+K5 l s h
theorem Jj4 {S:List Sta} {s:ByteArray} {h:Int}:∀{O:List Ord},(∀x∈O,Jcy S x)→0≤K5 O s h∧K5 O s h≤1000*O.length
 |[],_=>by simp[K5]
 |x::l,hO=>by
  have:=Jj4 (s:=s) (h:=h) (O:=l) fun y hy=>hO y (List.mem_cons_of_mem _ hy)
  have hx:=(hO x (List.mem_cons_self ..)).pow
  unfold K5
  simp only[List.length_cons]
  cases(bif Yg x s then Jh x h else false)<;>simp only[cond_true,cond_false]<;>omega
def Ksz:Con:={args:=[Jb4,aS,aI],ress:=[I],owns:=[],pre:=fun(r,_)=>[Jj r],spec:=fun((_,_,_,O,_),s,h,_)=>(K5 O s h,())}
abbrev J7p (O:List Ord) (s:ByteArray) (h:Int):Ann:={X:=Nat×Int,σ:=fun(k,n)=>⟨1,[(1, .one (.str s)),(2, .one (.int .i64 h)),(7, .one (.int .i64 n)),(11, .one (.sl 0)),(12, .one (.int .i64 O.length)),(13, .one (.int .i64 k))],[(0, .imm 130 Lt O)]⟩,inv:=fun(k,n)=>k≤O.length∧0≤n∧n≤1000*k∧n+K5 (O.drop k) s h=K5 O s h,mu:=fun(k,_)=>O.length-k}
def Z42 (a:Nat×Int):=Iw (Nc a.1+1)
def Z64 (a b:Int) (c:List Sta) (d:List Ord) (e:List Met) (f:List Out) (g:List Per):=(a,b,c,d,e,f,g)
def Jt9 (a b:Nat×Int):=Nc a.1+1=Nc b.1
def Jy (a b:Int) (c:List Sta) (d:List Ord) (e:List Met) (f:List Out) (g:List Per):=Jj (Z64 a b c d e f g)
def Khe (a:List Ord) (b:Nat×Int):=List.getD a b.1 Jen
def Khc (a:List Ord) (b:Nat×Int):=(Khe a b).2
def Khb (a:List Ord) (b:Nat×Int):=(Khc a b).2
def Kha (a:List Ord) (b:Nat×Int):=(Khc a b).1
def Kg9 (a:List Ord) (b:Nat×Int):=(Khb a b).1
def Kg7 (a:List Ord) (b:Nat×Int):=(Khb a b).2
def Kg6 (a:List Ord) (b:Nat×Int):=(Kg7 a b).2
def Kg4 (a:List Ord) (b:Nat×Int):=(Kg6 a b).2
def Kg3 (a:List Ord) (b:Nat×Int):=(Kg6 a b).1
def Klo (a:Nat×Int) (b:List Ord):=a.2+Kg3 b a
def Kli (a:Nat×Int) (b:List Ord):=Iw (Klo a b)
def Klg (a:Nat×Int) (b:List Ord) (c:Nat×Int):=Klo a b=c.2
def Kkl (a:Nat×Int) (b:List Ord) (c:Bt) (d:Int):=a.1≤List.length b∧0≤a.2∧a.2≤1000*Nc a.1∧a.2+K5 (List.drop a.1 b) c d=K5 b c d
def Kxe (a:Nat×Int) (b:List Ord) (c:Bt) (d:Int) (e:Nat×Int):=Kkl a b c d∧List.length b-a.1<List.length b-e.1
def J7z (a:List Ord) (b:Nat×Int):=((Khe a b).1,Kha a b,Kg9 a b,E2 (Kg7 a b).1,Kg3 a b,E2 (Kg4 a b))
def Kiu (a:List Ord) (b:Nat×Int) (c:Int):=Jh (J7z a b) c
theorem Kqe [Sx.Dr]:Ok Tryz.prog 177 Ksz:=okW W45 Tryz.f177 (fun xx=>Zn (J7p xx.1.2.2.2.1 xx.2.1 xx.2.2.1)) fun xx=>by
 obtain⟨⟨(tk:Int),(st:Int),(S:List Sta),(O:List Ord),(M:List Met),(X:List Out),(Q:List Per)⟩,(s:ByteArray),(h:Int),_⟩:=xx
 refine(by kernel_rfl:(Jy tk st S O M X Q→∃(x:Nat×Int),Sf s (Si h (0=x.2∧Si (Ln O) (0=Nc x.1∧O=O)))∧Kkl x O s h∧∀(x:Nat×Int),Kkl x O s h→Br (decide (Nc x.1<Ln O)) (Tw (Bd (Nc x.1) (Ln O))∧Br (bif Yg (J7z O x) s then Kiu O x h else false) (Kli x O∧Z42 x∧∃(y:Nat×Int),Sf s (Si h (Klg x O y∧Si (Ln O) (Jt9 x y∧O=O)))∧Kxe y O s h x) (Z42 x∧∃(y:Nat×Int),Sf s (Si h (x.2=y.2∧Si (Ln O) (Jt9 x y∧O=O)))∧Kxe y O s h x)) (x.2=K5 O s h))=_).mp ?_
 delta Z42 Z64 Z71 Jt9 Jy Jen Khe Khc Khb Kha Kg9 Kg7 Kg6 Kg4 Kg3 Klo Kli Klg Kkl Kxe J7z Kiu Br Iw Bd Tw Sf Si Ln Nc B0 E2
 intro hr
 have hO:∀x∈O,Jcy S x:=hr.ord
 have nO:O.length≤32:=hr.nO
 refine⟨((0:Nat),(0:Int)),⟨rfl,rfl,rfl,rfl,rfl,rfl⟩,⟨Nat.zero_le _,by simp,by simp,by simp⟩,fun(x:Nat×Int) hk=>⟨fun h1=> ?_,fun h1=> ?_⟩⟩
 ·obtain⟨k,n⟩:=x
  have hlt:k<O.length:=by simpa using h1
  have ho:=hO _ (Je (d:=Kb) hlt)
  have hp:=ho.pow
  dsimp only at hk⊢
  obtain⟨k1,k2,k3,k4⟩:=hk
  rw[J2 (d:=Kb) hlt,K5] at k4
  refine⟨⟨Oo,Oo⟩,fun h2=> ?_,fun h2=> ?_⟩
  ·have h3:(bif Yg (O.getD k Kb) s then Jh (O.getD k Kb) h else false)=true:=h2
   rw[h3,cond_true] at k4
   refine⟨⟨?_, ?_⟩,⟨Oo,Oo⟩,(k+1,n+(O.getD k Kb).2.2.2.2.1),⟨rfl,rfl,rfl,rfl,by simp,rfl⟩,⟨by simp only;omega,by simp only;omega,by simp only;omega,by simp only;omega⟩,by simp only;omega⟩
   ·show _≤n+(O.getD k Kb).2.2.2.2.1;omega
   ·show n+(O.getD k Kb).2.2.2.2.1≤_;omega
  ·have h3:(bif Yg (O.getD k Kb) s then Jh (O.getD k Kb) h else false)=false:=h2
   rw[h3,cond_false] at k4
   refine⟨⟨Oo,Oo⟩,(k+1,n),⟨rfl,rfl,rfl,rfl,by simp,rfl⟩,⟨by simp only;omega,by simp only;omega,by simp only;omega,by simp only;omega⟩,by simp only;omega⟩
 ·obtain⟨k,n⟩:=x
  have hlt:¬k<O.length:=by simpa using h1
  simp only at hk
  have:k=O.length:=by omega
  rw[this,List.drop_length,K5] at hk
  show n=_
  omega
abbrev W46 [Sx.Dr]:=W45.add Kqe
theorem Jjc {S:List Sta} {s:ByteArray} (h:∀x∈S,J9r x) (hf:0≤Jn S s):J9r (Yi S s):=by
 have:=Kt (l:=S) (s:=s)
 exact h _ (Je Oo)
def L8:List Out→ByteArray→Int→Int→Int
 |[],_,_,n=>n
 |x::l,s,h,n=>L8 l s h (bif Jff x s h then min n x.2.2.2 else n)
def Uz (S:List Sta) (O:List Ord) (X:List Out) (s:ByteArray) (h:Int):Int:=L8 X s h (Yi S s).2.1-K5 O s h
def Kso:Con:={args:=[Jb4,aS,aI],ress:=[I],owns:=[],pre:=fun(r,s,_)=>[Jj r,0≤Jn r.2.2.1 s],spec:=fun((_,_,S,O,_,X,_),s,h,_)=>(Uz S O X s h,())}
abbrev J7i (tk st:Int) (S:List Sta) (O:List Ord) (M:List Met) (X:List Out) (Q:List Per) (s:ByteArray) (h:Int):Ann:={X:=Nat×Int,σ:=fun(k,n)=>⟨6,[(1, .one (.str s)),(2, .one (.int .i64 h)),(3, .one (.ptr 5 0)),(7, .one (.int .i64 n)),(15, .one (.sl 3)),(16, .one (.int .i64 X.length)),(17, .one (.int .i64 k))],[(0, .imm 127 Ft S),(1, .imm 130 Lt O),(2, .imm 155 Jaw M),(3, .imm 188 Zw X),(4, .imm 235 Hw Q),(5, .box 105 [.int .i64 tk, .int .i64 st, .sl 0, .sl 1, .sl 2, .sl 3, .sl 4])]⟩,inv:=fun(k,n)=>k≤X.length∧0≤n∧n≤1000∧L8 (X.drop k) s h n=L8 X s h (Yi S s).2.1,mu:=fun(k,_)=>X.length-k}
def Ka6 (a:List Out) (b:Nat×Int):=(List.getD a b.1 Jg8).2
def Ka1 (a:List Out) (b:Nat×Int):=(Ka6 a b).2.2
def Km0 (a:List Out) (b:Nat×Int):=E2 (Ka6 a b).2.1
def Jr7 (a:List Sta) (b:List Ord) (c:List Met) (d:List Out) (e:List Per) (f g:Int):=Sf a (Sf b (Sf c (Sf d (Sf e (Si f (g=g))))))
def Kkp (a:Nat×Int) (b:List Out) (c:Bt) (d:Int) (e:List Sta):=a.1≤List.length b∧0≤a.2∧a.2≤1000∧L8 (List.drop a.1 b) c d a.2=L8 b c d (Yi e c).2.1
def Jz0 (a:Nat×Int) (b:List Sta) (c:List Ord) (d:List Met) (e:List Out) (f:List Per) (g h:Int):=0=Nc a.1∧Jr7 b c d e f g h
def Jr6 (a b:Nat×Int) (c:List Sta) (d:List Ord) (e:List Met) (f:List Out) (g:List Per) (h i:Int):=Jt9 a b∧Jr7 c d e f g h i
def Kxh (a:Nat×Int) (b:List Out) (c:Bt) (d:Int) (e:List Sta) (f:Nat×Int):=Kkp a b c d e∧List.length b-a.1<List.length b-f.1
theorem K59 [Sx.Dr]:Ok Tryz.prog 91 Kso:=okW W46 Tryz.f91 (fun xx=>Zn (J7i xx.1.1 xx.1.2.1 xx.1.2.2.1 xx.1.2.2.2.1 xx.1.2.2.2.2.1 xx.1.2.2.2.2.2.1 xx.1.2.2.2.2.2.2 xx.2.1 xx.2.2.1)) fun xx=>by
 obtain⟨⟨(tk:Int),(st:Int),(S:List Sta),(O:List Ord),(M:List Met),(X:List Out),(Q:List Per)⟩,(s:ByteArray),(h:Int),_⟩:=xx
 refine(by kernel_rfl:(Jy tk st S O M X Q→Z24 S s→(Z59 S∧Z24 S s)∧∃(x:Nat×Int),Sf s (Si h ((Yi S s).2.1=x.2∧Si (Ln X) (Jz0 x S O M X Q tk st)))∧Kkp x X s h S∧∀(x:Nat×Int),Kkp x X s h S→Br (decide (Nc x.1<Ln X)) (Tw (Bd (Nc x.1) (Ln X))∧Br (Jff ((List.getD X x.1 Jg8).1,(Ka6 X x).1,Km0 X x,Ka1 X x) s h) (Z42 x∧∃(y:Nat×Int),Sf s (Si h (min x.2 (Ka1 X x)=y.2∧Si (Ln X) (Jr6 x y S O M X Q tk st)))∧Kxh y X s h S x) (Z42 x∧∃(y:Nat×Int),Sf s (Si h (x.2=y.2∧Si (Ln X) (Jr6 x y S O M X Q tk st)))∧Kxh y X s h S x)) ((Jy tk st S O M X Q∧Iw (x.2-K5 O s h))∧x.2-K5 O s h=Uz S O X s h))=_).mp ?_
 delta Z24 Z42 Z59 Z64 Jt9 Jy Jg8 Ka6 Ka1 Km0 Jr7 Kkp Jz0 Jr6 Kxh Br Iw Bd Tw Sf Si Ln Nc B0 E2
 intro hr hf
 have hX:∀x∈X,Jpv S x:=hr.out
 have nO:O.length≤32:=hr.nO
 have nX:X.length≤16:=hr.nX
 have nS:S.length≤6:=hr.nS
 have hs:=Jjc hr.sta hf
 have hl:=Jj4 (s:=s) (h:=h) hr.ord
 refine⟨⟨Oo,hf⟩,((0:Nat),(Yi S s).2.1),⟨rfl,rfl,rfl,rfl,rfl,rfl,rfl,rfl,rfl,rfl,rfl,rfl⟩,⟨Nat.zero_le _, ?_,hs.lim.2,by simp⟩,fun(x:Nat×Int) hk=>⟨fun h1=> ?_,fun h1=> ?_⟩⟩
 ·have:=hs.lim.1
  show 0≤(Yi S s).2.1
  simp only at this
  omega
 ·obtain⟨k,n⟩:=x
  have hlt:k<X.length:=by simpa using h1
  have ho:=(hX _ (Je (d:=Jax) hlt)).rest
  dsimp only at hk⊢
  obtain⟨k1,k2,k3,k4⟩:=hk
  rw[J2 (d:=Jax) hlt,L8] at k4
  refine⟨⟨Oo,Oo⟩,fun h2=> ?_,fun h2=> ?_⟩
  ·have h3:Jff (X.getD k Jax) s h=true:=h2
   rw[h3,cond_true] at k4
   exact⟨⟨Oo,Oo⟩,(k+1,min n (X.getD k Jax).2.2.2),⟨rfl,rfl,rfl,rfl,by simp,rfl,rfl,rfl,rfl,rfl,rfl,rfl⟩,⟨by simp only;omega,by simp only;omega,by simp only;omega,k4⟩,by simp only;omega⟩
  ·have h3:Jff (X.getD k Jax) s h=false:=h2
   rw[h3,cond_false] at k4
   exact⟨⟨Oo,Oo⟩,(k+1,n),⟨rfl,rfl,rfl,rfl,by simp,rfl,rfl,rfl,rfl,rfl,rfl,rfl⟩,⟨by simp only;omega,by simp only;omega,by simp only;omega,k4⟩,by simp only;omega⟩
 ·obtain⟨k,n⟩:=x
  have hlt:¬k<X.length:=by simpa using h1
  simp only at hk
  have:k=X.length:=by omega
  rw[this,List.drop_length,L8] at hk
  unfold Uz
  have hl2:K5 O s h≤1000*(O.length:Int):=hl.2
  have hl1:0≤K5 O s h:=hl.1
  refine⟨⟨hr, ?_, ?_⟩, ?_⟩
  ·show _≤n-_;omega
  ·show n-_≤_;omega
  ·show n-_=_;omega
abbrev W47 [Sx.Dr]:=W46.add K59
def Vq (r:Reg) (w:Int) (s:ByteArray):Bool:=bif w==0 then decide (0≤Jn r.2.2.1 s) else bif w==1 then decide (0≤Kd r.2.2.2.1 s) else bif w==2 then decide (0≤J6 r.2.2.2.2.2.1 s) else bif w==3 then decide (0≤Va r.2.2.2.2.2.2 s) else true
def K7u:Con:={args:=[Jb4,aI,aS],ress:=[Bo],owns:=[],pre:=fun(r,_)=>[Jj r],spec:=fun(r,w,s,_)=>(Vq r w s,())}
theorem K6h [Sx.Dr]:Ok Tryz.prog 76 K7u:=okW W47 Tryz.f76 na fun xx=>by
 obtain⟨⟨(tk:Int),(st:Int),(S:List Sta),(O:List Ord),(M:List Met),(X:List Out),(Q:List Per)⟩,(w:Int),(s:ByteArray),_⟩:=xx
 refine(by kernel_rfl:(Jy tk st S O M X Q→Br (w==0) (Z59 S∧decide (0≤Jn S s)=Vq (Z64 tk st S O M X Q) w s) (Br (w==1) (Z55 O∧decide (0≤Kd O s)=Vq (Z64 tk st S O M X Q) w s) (Br (w==2) (Z47 X∧decide (0≤J6 X s)=Vq (Z64 tk st S O M X Q) w s) (Br (w==3) (Z49 Q∧decide (0≤Va Q s)=Vq (Z64 tk st S O M X Q) w s) (true=Vq (Z64 tk st S O M X Q) w s)))))=_).mp ?_
 delta Z47 Z49 Z55 Z59 Z64 Jy Br
 intro hr
 have nS:S.length≤6:=hr.nS
 have nO:O.length≤32:=hr.nO
 have nX:X.length≤16:=hr.nX
 have nQ:Q.length≤16:=hr.nQ
 unfold Vq
 refine⟨fun h=> ?_,fun h=> ?_⟩
 ·rw[h];exact⟨Oo,rfl⟩
 rw[h]
 refine⟨fun h=> ?_,fun h=> ?_⟩
 ·rw[h];exact⟨Oo,rfl⟩
 rw[h]
 refine⟨fun h=> ?_,fun h=> ?_⟩
 ·rw[h];exact⟨Oo,rfl⟩
 rw[h]
 refine⟨fun h=> ?_,fun h=> ?_⟩
 ·rw[h];exact⟨Oo,rfl⟩
 rw[h];rfl
abbrev W48 [Sx.Dr]:=W47.add K6h
def Jj0:Met:=(Ja,0,0,0)
def K7t:Con:={args:=[.val true Jaw, .ref 9 .str, .ref 3 sI],ress:=[Bo],owns:=[],pre:=fun _=>[],spec:=fun(x,s,h,_)=>(bif x.1.toList==s.toList then x.2.1==h else false,())}
theorem Krd [Sx.Dr]:Ok Tryz.prog 142 K7t:=okW W48 Tryz.f142 na fun xx=>by
 obtain⟨⟨(a:ByteArray),(b:Int),(c:Int),(d:Int)⟩,(s:ByteArray),(h:Int),_⟩:=xx
 refine(by kernel_rfl:((Lb a s&&(b==h&&(c==c&&(d==d&&true))))=bif Lb a s then b==h else false)=_).mp ?_
 delta Lb
 cases a.toList==s.toList<;>cases b==h<;>simp
abbrev W49 [Sx.Dr]:=W48.add Krd
def J0a:=(B0,Z71)
def Khs (a:List Met) (b:Nat):=List.getD a b J0a
def Khq (a:List Met) (b:Nat):=(Khs a b).2
def Kk4 (a:Nat) (b:List Met) (c:Met×Unit→Bool):=a≤List.length b∧Vx (fun(x:Met)=>c (x,PUnit.unit)) b 0=Vx (fun(x:Met)=>c (x,PUnit.unit)) (List.drop a b) a
def Kjt (a:List Met) (b:Nat):=((Khs a b).1,(Khq a b).1,E2 (Khq a b).2)
def Kxj (a:List Met) (b:Nat):=(Kjt a b,PUnit.unit)
theorem Kre [Sx.Dr]:Ok Tryz.prog 141 (Kdj 155 Jaw true):=okW W49 Tryz.f141 (fun xx=>Zn (Jna 155 Jaw true xx.1 xx.2.1.1 xx.2.1.2)) fun xx=>by
 obtain⟨(l:List Met),⟨(q:Met×Unit→List Prop),(f:Met×Unit→Bool)⟩,_⟩:=xx
 refine(by kernel_rfl:(List.length l≤1000000→(∀(x:Met),x∈l→Ux (q (x,PUnit.unit)))→∃(x:Nat),Si (Ln l) (0=Nc x∧Sf l ((fun(x:Met×PUnit)=>q x)=q∧(fun(x:Met×PUnit)=>f x)=f))∧Kk4 x l f∧∀(x:Nat),Kk4 x l f→Br (decide (Nc x<Ln l)) (T2 (Bd (Nc x) (Ln l)) (Ux (q (Kxj l x)))∧Br (f (Kxj l x)) (Nc x=Vx (fun(x:Met)=>f (x,PUnit.unit)) l 0) (Z17 x∧∃(y:Nat),Si (Ln l) (Z96 x y∧Sf l ((fun(x:Met×PUnit)=>q x)=q∧(fun(x:Met×PUnit)=>f x)=f))∧Kk4 y l f∧List.length l-y<List.length l-x)) (Z69=Vx (fun(x:Met)=>f (x,PUnit.unit)) l 0))=_).mp ?_
 delta Z17 Z69 Z71 Z96 J0a Khs Khq Kk4 Kjt Kxj Br Iw Bd T2 Sf Si Ln Nc B0 E2
 intro hb hq
 refine⟨(0:Nat),⟨rfl,rfl,rfl,rfl,rfl⟩,⟨Nat.zero_le _,rfl⟩,fun(k:Nat) hk=>⟨fun h=> ?_,fun h=> ?_⟩⟩
 ·have hlt:k<l.length:=by simpa using h
  have hd:=Ym (p:=fun x=>f (x,())) (d:=Jj0) hlt
  refine⟨⟨Oo,Oo,hq (l.getD k Jj0) (Je hlt)⟩,fun h1=> ?_,fun h1=>⟨Oo,(k+1:Nat),⟨rfl,rfl,rfl,by simp,rfl⟩,⟨Oo, ?_⟩,Oo⟩⟩
  ·rw[hk.2,hd,if_pos (show f (l.getD k Jj0,())=true from h1)]
  ·rw[hk.2,hd,if_neg (by rw[show f (l.getD k Jj0,())=false from h1];simp)]
 ·have hlt:¬k<l.length:=by simpa using h
  have:k=l.length:=by omega
  rw[hk.2,this,List.drop_length];rfl
abbrev W50 [Sx.Dr]:=W49.add Kre
def Kc8:Con:={args:=[Jb4,aS,aI],ress:=[I],owns:=[],pre:=fun(r,_)=>[Jj r],spec:=fun((_,_,_,_,M,_),s,h,_)=>(Kw M s h,())}
theorem K6j [Sx.Dr]:Ok Tryz.prog 73 Kc8:=okW W50 Tryz.f73 na fun xx=>by
 obtain⟨⟨(tk:Int),(st:Int),(S:List Sta),(O:List Ord),(M:List Met),(X:List Out),(Q:List Per)⟩,(s:ByteArray),(h:Int),_⟩:=xx
 refine(by kernel_rfl:(Jy tk st S O M X Q→(List.length M≤1000000∧∀(x:Met),x∈M→True)∧Vx (fun(x:Met)=>match Lb x.1 s with|true=>x.2.1==h|false=>false) M 0=Kw M s h)=_).mp ?_
 delta Z64 Jy Lb
 intro hr
 have nM:M.length≤10000:=hr.nM
 exact⟨⟨Oo,fun _ _=>trivial⟩,rfl⟩
abbrev W51 [Sx.Dr]:=W50.add K6j
def Vt (e:Ev):Int×Int:=(e.2.2.2.1.getD 1 0,e.2.2.2.1.getD 2 0)
def Ksm:Con:={args:=[aEv],ress:=[(true,La)],owns:=[],pre:=fun(e,_)=>[3≤e.2.2.2.1.length],spec:=fun(e,_)=>(Vt e,())}
def Z28 (a:Li):=Bd 1 (Ln a)
def Z31 (a:Li):=Bd 2 (Ln a)
def Z53 (a:Li):=3≤List.length a
def Z63 (a:Int) (b:Bt) (c:Ls) (d:Li) (e:Bt):=Vt (a,b,c,d,e)
def Z95 (a:Li):=List.getD a 2 0
def Zo (a:Li):=List.getD a 1 0
def Ka4 (a:Li):=T2 (Z28 a) (Tw (Z31 a))
def Kaz (a:Li):=(Zo a,Z95 a)
theorem Kpe [Sx.Dr]:Ok Tryz.prog 238 Ksm:=okW W51 Tryz.f238 na fun xx=>by
 obtain⟨⟨(n:Int),(k:ByteArray),(ns:List ByteArray),(vs:List Int),(t:ByteArray)⟩,_⟩:=xx
 refine(by kernel_rfl:(Z53 vs→Ka4 vs∧Kaz vs=Z63 n k ns vs t)=_).mp ?_
 delta Z28 Z31 Z53 Z63 Z95 Zo Ka4 Kaz Bd T2 Tw Ln
 intro h
 exact⟨⟨⟨Oo,Oo⟩,⟨Oo,Oo⟩,⟨Oo,Oo⟩,⟨Oo,Oo⟩⟩,rfl⟩
abbrev W52 [Sx.Dr]:=W51.add Kpe
abbrev EvV (e:Ev):Prop:=∀v∈e.2.2.2.1,0≤v∧v≤999999999
def Zs (e:Ev):Int:=bif (bif (bif decide ((Vt e).1<e.2.2.2.1.getD 0 0) then true else decide ((Vt e).2≤(Vt e).1)) then true else decide (48<(Vt e).2-(Vt e).1)) then 14 else 0
def J14:Con:={args:=[aEv],ress:=[I],owns:=[],pre:=fun(e,_)=>[3≤e.2.2.2.1.length,EvV e],spec:=fun(e,_)=>(Zs e,())}
def Z34 (a:Li):=Bd 0 (Ln a)
def Z91 (a:Li):=List.getD a 0 0
def Kym (a:Int) (b:Bt) (c:Ls) (d:Li) (e:Bt):=bif decide ((Z63 a b c d e).1<Z91 d) then true else decide ((Z63 a b c d e).2≤(Z63 a b c d e).1)
theorem Kpg [Sx.Dr]:Ok Tryz.prog 236 J14:=okW W52 Tryz.f236 na fun xx=>by
 obtain⟨⟨(n:Int),(k:ByteArray),(ns:List ByteArray),(vs:List Int),(t:ByteArray)⟩,_⟩:=xx
 refine(by kernel_rfl:(Z53 vs→EvV (n,k,ns,vs,t)→Z53 vs∧T2 (Z34 vs) (Kym n k ns vs t=false→Iw ((Z63 n k ns vs t).2-(Z63 n k ns vs t).1))∧(bif bif Kym n k ns vs t then true else decide (48<(Z63 n k ns vs t).2-(Z63 n k ns vs t).1) then 14 else 0)=Zs (n,k,ns,vs,t))=_).mp ?_
 delta Z34 Z53 Z63 Z91 Kym Iw Bd T2 Ln
 intro h hv
 refine⟨h,⟨⟨Oo,Oo⟩,⟨Oo,Oo⟩,fun _=> ?_⟩,rfl⟩
 have h1:=hv (vs.getD 1 0) (Je (show 1<vs.length by omega))
 have h2:=hv (vs.getD 2 0) (Je (show 2<vs.length by omega))
 unfold Vt
 simp only
 omega
abbrev W53 [Sx.Dr]:=W52.add Kpg
abbrev Gap:=ByteArray×Int
abbrev J5h:Sch:= .prod .str sI
def Dn (M:List Met) (u:Int) (x:Ord):Int→Nat→List Gap
 |_,0=>[]
 |h,n+1=>(bif Jh x h&&(decide (h<u)&&decide (Kw M x.1 h<0)) then[(x.1,h)] else[])++Dn M u x (h+1) n
def Jwf (M:List Met) (u:Int) (x:Ord):List Gap:=Dn M u x x.2.2.2.1.1 (x.2.2.2.1.2-x.2.2.2.1.1).toNat
def Ks (M:List Met) (u:Int):List Ord→List Gap
 |[]=>[]
 |x::l=>Jwf M u x++Ks M u l
def Ksw:Con:={args:=[Jb4,aI],ress:=[(false, .list 200 J5h)],owns:=[true],pre:=fun(r,_)=>[Jj r],spec:=fun((_,_,_,O,M,_),u,_)=>(Ks M u O,())}
abbrev J7n (tk st:Int) (S:List Sta) (O:List Ord) (M:List Met) (X:List Out) (Q:List Per) (u:Int):Ann:={X:=Nat×List Gap,σ:=fun(k,o)=>⟨9,[(2, .one (.ptr 5 0)),(3, .one (.ptr 6 0)),(5, .one (.ptr 7 0)),(10, .one (.sl 1)),(11, .one (.int .i64 O.length)),(12, .one (.int .i64 k))],[(0, .imm 127 Ft S),(1, .imm 130 Lt O),(2, .imm 155 Jaw M),(3, .imm 188 Zw X),(4, .imm 235 Hw Q),(5, .box 105 [.int .i64 tk, .int .i64 st, .sl 0, .sl 1, .sl 2, .sl 3, .sl 4]),(6, .box 3 [.int .i64 u]),(7, .box 50 [.sl 8]),(8, .own 200 J5h o)]⟩,inv:=fun(k,o)=>k≤O.length∧o.length≤48*k∧o++Ks M u (O.drop k)=Ks M u O,mu:=fun(k,_)=>O.length-k}
abbrev bxO (x:Ord):List SC:=[.str x.1, .str x.2.1, .str x.2.2.1, .int .i64 x.2.2.2.1.1, .int .i64 x.2.2.2.1.2, .int .i64 x.2.2.2.2.1, .int .i64 x.2.2.2.2.2.1, .int .i64 x.2.2.2.2.2.2]
def Ua (x:Ord):Nat:=(x.2.2.2.1.2-x.2.2.2.1.1).toNat
abbrev J2n (tk st:Int) (S:List Sta) (O:List Ord) (M:List Met) (X:List Out) (Q:List Per) (u:Int):Ann:={X:=Nat×List Gap×Nat,σ:=fun(k,o,j)=>⟨16,[(0, .one (.fv 13)),(1, .one (.ptr 11 0)),(3, .one (.int .i64 ((O.getD k Kb).2.2.2.1.1+j)))],[(0, .imm 127 Ft S),(1, .imm 130 Lt O),(2, .imm 155 Jaw M),(3, .imm 188 Zw X),(4, .imm 235 Hw Q),(5, .box 105 [.int .i64 tk, .int .i64 st, .sl 0, .sl 1, .sl 2, .sl 3, .sl 4]),(6, .box 3 [.int .i64 u]),(7, .box 50 [.sl 15]),(9, .box 130 (bxO (O.getD k Kb))),(11, .box 130 (bxO (O.getD k Kb))),(13, .yld .ready),(14, .sus [(2, .one (.ptr 5 0)),(3, .one (.ptr 6 0)),(5, .one (.ptr 7 0)),(7, .one (.ptr 9 0)),(10, .one (.sl 1)),(11, .one (.int .i64 O.length)),(12, .one (.int .i64 k))]),(15, .own 200 J5h o)]⟩,inv:=fun(k,o,j)=>Jj (tk,st,S,O,M,X,Q)∧k<O.length∧j≤Ua (O.getD k Kb)∧o.length≤48*k+j∧o++(Dn M u (O.getD k Kb) ((O.getD k Kb).2.2.2.1.1+j) (Ua (O.getD k Kb)-j)++Ks M u (O.drop (k+1)))=Ks M u O,mu:=fun(k,_,j)=>Ua (O.getD k Kb)-j,rel:=some fun x y=>y.1=x.1}
theorem Hy (a b:Bool):(bif a then b else false)=(a&&b):=by cases a<;>rfl
def Z2 (a:List Ord) (b:Nat×List Gap×Nat):=List.getD a b.1 Kb
def Z3 (a:List Ord) (b:Nat×List (Bt×Int)×Nat):=List.getD a b.1 Kb
def Z75 (a:List Ord) (b:Nat×List (Bt×Int)×Nat):=(Z3 a b).2.2.2.2
def Z77 (a:List Ord) (b:Nat×List Gap×Nat):=(Z2 a b).2.2.2.1
def Z79 (a:List Ord) (b:Nat×List Gap×Nat):=(Z2 a b).2.2.2.2
def Z80 (a:List Ord) (b:Nat×List (Bt×Int)×Nat):=(Z3 a b).2.2.2.1
def Jz7 (a:List Ord) (b:Nat×List Gap×Nat):=(Z77 a b).1+Nc b.2.2
def J8l (a:List Ord) (b:Nat×List Gap×Nat) (c:Nat×List (Bt×Int)×Nat):=(Z2 a b).1=(Z3 a c).1
def J8j (a:List Ord) (b:Nat×List Gap×Nat) (c:Nat×List (Bt×Int)×Nat):=(Z2 a b).2.1=(Z3 a c).2.1
def J8i (a:List Ord) (b:Nat×List Gap×Nat) (c:Nat×List (Bt×Int)×Nat):=(Z2 a b).2.2.1=(Z3 a c).2.2.1
def Ka5 (a:List Ord) (b:Nat×List Gap×Nat) (c:Int):=decide (Jz7 a b<c)
def Ka0 (a:List Ord) (b:Nat×List Gap×Nat):=Iw (Jz7 a b+1)
def J8f (a:List Ord) (b:Nat×List Gap×Nat) (c:Nat×List (Bt×Int)×Nat):=(Z77 a b).2=(Z80 a c).2
def J8d (a:List Ord) (b:Nat×List Gap×Nat) (c:Nat×List (Bt×Int)×Nat):=(Z79 a b).1=(Z75 a c).1
def J8b (a:List Ord) (b:Nat×List Gap×Nat) (c:Nat×List (Bt×Int)×Nat):=(Z77 a b).1=(Z80 a c).1
def J78 (a:List Ord) (b:Nat×List Gap×Nat) (c:Nat×List (Bt×Int)×Nat):=(Z79 a b).2.2=(Z75 a c).2.2
def J77 (a:List Ord) (b:Nat×List Gap×Nat) (c:Nat×List (Bt×Int)×Nat):=(Z79 a b).2.1=(Z75 a c).2.1
def Km6 (a:Nat×List Gap×Nat):=(List.length a.2.1+1)*24≤140737488355328
def Kmo (a:List Ord) (b:Nat×List Gap):=List.getD a b.1 Jen
def Kmj (a:List Ord) (b:Nat×List Gap):=(Kmo a b).2
def Kmg (a:List Ord) (b:Nat×List Gap):=(Kmj a b).2
def Kmf (a:List Ord) (b:Nat×List Gap):=(Kmg a b).2
def Kmd (a:List Ord) (b:Nat×List Gap×Nat):=decide (Jz7 a b<(Z77 a b).2)
def Kmb (a:List Ord) (b:Nat×List Gap):=(Kmf a b).1
def Kma (a:List Ord) (b:Nat×List Gap):=(Kmf a b).2
def Kl3 (a:List Ord) (b:Nat×List Gap):=(Kma a b).2
def Kl2 (a:List Ord) (b:Nat×List Gap):=(Kmb a b).1
def Kas (a:List Ord) (b:Nat×List Gap×Nat) (c:Nat×List (Bt×Int)×Nat):=Jz7 a b+1=(Z80 a c).1+Nc c.2.2
def Klf (a:Nat×List Gap×Nat) (b:List Ord):=a.2.1++[((Z2 b a).1,Jz7 b a)]
def Kg0 (a:List Ord) (b:Nat×List Gap) (c:Nat×List (Bt×Int)×Nat):=(Kmo a b).1=(Z3 a c).1
def Kgx (a:List Ord) (b:Nat×List Gap) (c:Nat×List (Bt×Int)×Nat):=(Kmj a b).1=(Z3 a c).2.1
def Klb (a:Nat×List Gap×Nat) (b:List Ord) (c:Nat×List (Bt×Int)×Nat):=Klf a b=c.2.1
def Kgq (a:List Ord) (b:Nat×List Gap) (c:Nat×List (Bt×Int)×Nat):=(Kmg a b).1=(Z3 a c).2.2.1
def Kgo (a:Nat×List (Bt×Int)) (b:List Ord) (c:List Met) (d:Int):=a.1≤List.length b∧List.length a.2≤48*a.1∧a.2++Ks c d (List.drop a.1 b)=Ks c d b
def Kkz (a:Nat×List Gap) (b:List Ord) (c:List Met) (d:Int):=a.1≤List.length b∧List.length a.2≤48*a.1∧a.2++Ks c d (List.drop a.1 b)=Ks c d b
def Kgm (a:List Ord) (b:Nat×List Gap) (c:Nat×List (Bt×Int)×Nat):=Kl2 a b=(Z80 a c).1
def Kgl (a:List Ord) (b:Nat×List Gap) (c:Nat×List (Bt×Int)×Nat):=(Kmb a b).2=(Z80 a c).2
def Kgk (a:List Ord) (b:Nat×List Gap) (c:Nat×List (Bt×Int)×Nat):=(Kma a b).1=(Z75 a c).1
def Kgi (a:List Ord) (b:Nat×List Gap) (c:Nat×List (Bt×Int)×Nat):=(Kl3 a b).1=(Z75 a c).2.1
def Kgh (a:List Ord) (b:Nat×List Gap) (c:Nat×List (Bt×Int)×Nat):=(Kl3 a b).2=(Z75 a c).2.2
def Kkf (a:List Ord) (b:Nat×List Gap) (c:Nat×List (Bt×Int)×Nat):=Kl2 a b=(Z80 a c).1+Nc c.2.2
def Kfq (a:Nat×List (Bt×Int)) (b:List Ord) (c:List Met) (d:Int) (e:Nat×List Gap):=Kgo a b c d∧List.length b-a.1<List.length b-e.1
def Ki8 (a:List Ord) (b:Nat×List Gap×Nat):=Jh ((Z2 a b).1,(Z2 a b).2.1,(Z2 a b).2.2.1,E2 (Z77 a b),(Z79 a b).1,E2 (Z79 a b).2) (Jz7 a b)
def Ki3 (a:Nat×List Gap×Nat) (b:List Ord) (c:List Met) (d:Int):=a.1<List.length b∧a.2.2≤Ua (List.getD b a.1 Kb)∧List.length a.2.1≤48*a.1+a.2.2∧a.2.1++(Dn c d (List.getD b a.1 Kb) ((List.getD b a.1 Kb).2.2.2.1.1+Nc a.2.2) (Ua (List.getD b a.1 Kb)-a.2.2)++Ks c d (List.drop (a.1+1) b))=Ks c d b
def Kfe (a:Nat×List (Bt×Int)×Nat) (b:List Ord) (c:List Met) (d:Int):=a.1<List.length b∧a.2.2≤Ua (List.getD b a.1 Kb)∧List.length a.2.1≤48*a.1+a.2.2∧a.2.1++(Dn c d (List.getD b a.1 Kb) ((List.getD b a.1 Kb).2.2.2.1.1+Nc a.2.2) (Ua (List.getD b a.1 Kb)-a.2.2)++Ks c d (List.drop (a.1+1) b))=Ks c d b
def Kvs (a b:Int) (c:List Sta) (d:List Ord) (e:List Met) (f:List Out) (g:List Per) (h:Nat×List (Bt×Int)×Nat) (i:Int):=Jy a b c d e f g∧Kfe h d e i
def Kvf (a:Nat×List Gap×Nat) (b:List Ord) (c:List Sta) (d:List Met) (e:List Out) (f:List Per) (g h i:Int) (j:Nat×List Gap):=Iw (Nc a.1+1)∧∃(y:Nat×List (ByteArray×Int)),Si (Ln b) (Nc a.1+1=Nc y.1∧Sf c (Sf b (Sf d (Sf e (Sf f (Si g (Si h (Si i (a.2.1=y.2)))))))))∧Kfq y b d i j
def Kvd (a b:Int) (c:List Sta) (d:List Ord) (e:List Met) (f:List Out) (g:List Per) (h:Nat×List (Bt×Int)×Nat) (i:Int) (j:Nat×List (Bt×Int)×Nat) (k:Nat×List Gap×Nat):=(Kvs a b c d e f g h i∧h.1=j.1)∧Ua (List.getD d h.1 Kb)-h.2.2<Ua (List.getD d k.1 Kb)-k.2.2
def J81 (a:Nat×List Gap×Nat) (b:List Ord) (c:List Sta) (d:List Met) (e:List Out) (f:List Per) (g h i:Int) (j:Nat×List Gap) (k:Nat×List (Bt×Int)×Nat):=Br false (Kvf a b c d e f g h i j) (Ka0 b a∧∃(y:Nat×List (ByteArray×Int)×Nat),(Kas b a y∧Sf c (Sf b (Sf d (Sf e (Sf f (Si g (Si h (Si i (J8l b a y∧J8j b a y∧J8i b a y∧J8b b a y∧J8f b a y∧J8d b a y∧J77 b a y∧J78 b a y∧J8l b a y∧J8j b a y∧J8i b a y∧J8b b a y∧J8f b a y∧J8d b a y∧J77 b a y∧J78 b a y∧Si (Ln b) (Nc a.1=Nc y.1∧a.2.1=y.2.1))))))))))∧Kvd g h c b d e f y i k a)
theorem K58 [Sx.Dr]:Ok Tryz.prog 92 Ksw:=Jzr W53 Tryz.f92 (U5 (l:=([(178,Tryz.f178),(247,Tryz.f247)]:List (Nat×Func))) (List.forall_mem_cons.2 ⟨by kernel_rfl,List.forall_mem_cons.2 ⟨by kernel_rfl,by simp⟩⟩)) (fun xx=>Zn (J7n xx.1.1 xx.1.2.1 xx.1.2.2.1 xx.1.2.2.2.1 xx.1.2.2.2.2.1 xx.1.2.2.2.2.2.1 xx.1.2.2.2.2.2.2 xx.2.1)) (fun xx=>fun f id=>if f=247 then some (J2n xx.1.1 xx.1.2.1 xx.1.2.2.1 xx.1.2.2.2.1 xx.1.2.2.2.2.1 xx.1.2.2.2.2.2.1 xx.1.2.2.2.2.2.2 xx.2.1) else none) fun xx=>by
 obtain⟨⟨(tk:Int),(st:Int),(S:List Sta),(O:List Ord),(M:List Met),(X:List Out),(Q:List Per)⟩,(u:Int),_⟩:=xx
 refine(by kernel_rfl:(Jy tk st S O M X Q→∃(x:Nat×List (ByteArray×Int)),Si (Ln O) (0=Nc x.1∧Sf S (Sf O (Sf M (Sf X (Sf Q (Si tk (Si st (Si u (List.length x.2=0)))))))))∧Kgo x O M u∧∀(x:Nat×List Gap),Kkz x O M u→Br (decide (Nc x.1<Ln O)) (Tw (Bd (Nc x.1) (Ln O))∧∃(x0:Nat×List (ByteArray×Int)×Nat),(Kkf O x x0∧Sf S (Sf O (Sf M (Sf X (Sf Q (Si tk (Si st (Si u (Kg0 O x x0∧Kgx O x x0∧Kgq O x x0∧Kgm O x x0∧Kgl O x x0∧Kgk O x x0∧Kgi O x x0∧Kgh O x x0∧Kg0 O x x0∧Kgx O x x0∧Kgq O x x0∧Kgm O x x0∧Kgl O x x0∧Kgk O x x0∧Kgi O x x0∧Kgh O x x0∧Si (Ln O) (Nc x.1=Nc x0.1∧x.2=x0.2.1))))))))))∧(Kvs tk st S O M X Q x0 u∧x0.1=x0.1)∧∀(x_1:Nat×List Gap×Nat),(Jy tk st S O M X Q∧Ki3 x_1 O M u)∧x_1.1=x0.1→Br (Kmd O x_1) (Br (Ki8 O x_1) ((Ka5 O x_1 u=true→Jy tk st S O M X Q)∧Br (bif Ka5 O x_1 u then decide (Kw M (Z2 O x_1).1 (Jz7 O x_1)<0) else false) (Km6 x_1∧Br false (Iw (Nc x_1.1+1)∧∃(y:Nat×List (ByteArray×Int)),Si (Ln O) (Nc x_1.1+1=Nc y.1∧Sf S (Sf O (Sf M (Sf X (Sf Q (Si tk (Si st (Si u (Klf x_1 O=y.2)))))))))∧Kfq y O M u x) (Ka0 O x_1∧∃(y:Nat×List (ByteArray×Int)×Nat),(Kas O x_1 y∧Sf S (Sf O (Sf M (Sf X (Sf Q (Si tk (Si st (Si u (J8l O x_1 y∧J8j O x_1 y∧J8i O x_1 y∧J8b O x_1 y∧J8f O x_1 y∧J8d O x_1 y∧J77 O x_1 y∧J78 O x_1 y∧J8l O x_1 y∧J8j O x_1 y∧J8i O x_1 y∧J8b O x_1 y∧J8f O x_1 y∧J8d O x_1 y∧J77 O x_1 y∧J78 O x_1 y∧Si (Ln O) (Nc x_1.1=Nc y.1∧Klb x_1 O y))))))))))∧Kvd tk st S O M X Q y u x0 x_1)) (J81 x_1 O S M X Q tk st u x x0)) (J81 x_1 O S M X Q tk st u x x0)) (Kvf x_1 O S M X Q tk st u x)) (Sf true (x.2=Ks M u O)))=_).mp ?_
 delta Z2 Z3 Z64 Z71 Z75 Z77 Z79 Z80 Jy Jz7 J8l J8j J8i Ka5 Ka0 Jen J8f J8d J8b J78 J77 Km6 Kmo Kmj Kmg Kmf Kmd Kmb Kma Kl3 Kl2 Kas Klf Kg0 Kgx Klb Kgq Kgo Kkz Kgm Kgl Kgk Kgi Kgh Kkf Kfq Ki8 Ki3 Kfe Kvs Kvf Kvd J81 Br Iw Bd Tw Sf Si Ln Nc B0 E2
 intro hr
 have nO:O.length≤32:=hr.nO
 refine⟨((0:Nat),[]),Oz,⟨Nat.zero_le _,Nat.zero_le _,rfl⟩,fun(x:Nat×List Gap) hk=>⟨fun h1=> ?_,fun h1=> ?_⟩⟩
 ·obtain⟨k,o⟩:=x
  have hlt:k<O.length:=by simpa using h1
  obtain⟨k1,k2,k3⟩:=hk
  dsimp only at k1 k2 k3
  rw[J2 (d:=Kb) hlt,Ks,Jwf] at k3
  refine⟨⟨⟨by dsimp only;omega,by dsimp only;omega⟩,by dsimp only;omega,by dsimp only;omega⟩,(k,o,(0:Nat)), ?_,⟨⟨hr,hlt,Nat.zero_le _,by simpa using k2, ?_⟩,rfl⟩,fun(y:Nat×List Gap×Nat) hy=> ?_⟩
  ·exact Oz
  ·simpa[Ua] using k3
  obtain⟨k',o,j⟩:=y
  obtain⟨⟨_,i1,i2,i3,i4⟩,hkk⟩:=hy
  have hkk:k'=k:=hkk
  subst hkk
  dsimp only at i1 i2 i3 i4
  have ho:Jnd (O.getD k' Kb).2.2.2.1:=(hr.ord (O.getD k' Kb) (Je hlt)).span
  have hn:Ua (O.getD k' Kb)≤48∧(Ua (O.getD k' Kb):Int)=(O.getD k' Kb).2.2.2.1.2-(O.getD k' Kb).2.2.2.1.1:=by
   have:=ho.mid;have:=ho.len
   unfold Ua
   constructor<;>omega
  have b1:=ho.lo
  have b2:=ho.hi
  refine⟨fun h2=> ?_,fun h2=> ?_⟩
  ·have h2:(O.getD k' Kb).2.2.2.1.1+(j:Int)<(O.getD k' Kb).2.2.2.1.2:=of_decide_eq_true h2
   have hj:Ua (O.getD k' Kb)-j=(Ua (O.getD k' Kb)-(j+1))+1:=by omega
   rw[hj,Dn] at i4
   have hB: -9223372036854775808≤(O.getD k' Kb).2.2.2.1.1+(j:Int)+1∧(O.getD k' Kb).2.2.2.1.1+(j:Int)+1≤9223372036854775807:=by omega
   have hc:(O.getD k' Kb).2.2.2.1.1+(j:Int)+1=(O.getD k' Kb).2.2.2.1.1+((j+1:Nat):Int):=by omega
   refine⟨fun h3=>⟨fun _=>hr,fun h4=>⟨by dsimp only;omega,fun f=>(by cases f),fun _=>⟨hB,(k',o++[((O.getD k' Kb).1,(O.getD k' Kb).2.2.2.1.1+(j:Int))],j+1), ?_,⟨⟨hr,hlt,by dsimp only;omega,by simp;omega, ?_⟩,rfl⟩,by dsimp only;omega⟩⟩,fun h4=>⟨fun f=>(by cases f),fun _=>⟨hB,(k',o,j+1), ?_,⟨⟨hr,hlt,by dsimp only;omega,by dsimp only;omega, ?_⟩,rfl⟩,by dsimp only;omega⟩⟩⟩,fun h3=>⟨fun f=>(by cases f),fun _=>⟨hB,(k',o,j+1), ?_,⟨⟨hr,hlt,by dsimp only;omega,by dsimp only;omega, ?_⟩,rfl⟩,by dsimp only;omega⟩⟩⟩
   ·exact Oz
   ·have h3:Jh (O.getD k' Kb) ((O.getD k' Kb).2.2.2.1.1+(j:Int))=true:=h3
    have h4:(bif decide ((O.getD k' Kb).2.2.2.1.1+(j:Int)<u) then decide (Kw M (O.getD k' Kb).1 ((O.getD k' Kb).2.2.2.1.1+(j:Int))<0) else false)=true:=h4
    rw[Hy] at h4
    rw[h3,Bool.true_and,h4,hc] at i4
    rw[←i4]
    simp
   ·exact Oz
   ·have h3:Jh (O.getD k' Kb) ((O.getD k' Kb).2.2.2.1.1+(j:Int))=true:=h3
    have h4:(bif decide ((O.getD k' Kb).2.2.2.1.1+(j:Int)<u) then decide (Kw M (O.getD k' Kb).1 ((O.getD k' Kb).2.2.2.1.1+(j:Int))<0) else false)=false:=h4
    rw[Hy] at h4
    rw[h3,Bool.true_and,h4,hc] at i4
    rw[←i4]
    simp
   ·exact Oz
   ·have h3:Jh (O.getD k' Kb) ((O.getD k' Kb).2.2.2.1.1+(j:Int))=false:=h3
    rw[h3,hc] at i4
    rw[←i4]
    simp
  ·have h2:¬(O.getD k' Kb).2.2.2.1.1+(j:Int)<(O.getD k' Kb).2.2.2.1.2:=of_decide_eq_false h2
   have hj:Ua (O.getD k' Kb)-j=0:=by omega
   rw[hj,Dn] at i4
   refine⟨⟨by dsimp only;omega,by dsimp only;omega⟩,(k'+1,o), ?_,⟨by dsimp only;omega,by dsimp only;omega,by simpa using i4⟩,by dsimp only;omega⟩
   exact Oz
 ·obtain⟨k,o⟩:=x
  have hlt:¬k<O.length:=by simpa using h1
  obtain⟨k1,k2,k3⟩:=hk
  dsimp only at k1 k2 k3
  have:k=O.length:=by omega
  rw[this,List.drop_length,Ks,List.append_nil] at k3
  exact⟨rfl,k3⟩
abbrev W54 [Sx.Dr]:=W53.add K58
abbrev aE:AK:=aEv
abbrev Jpn (T U:TypeId) (s:Sch) (l:List s.T) (g:Bool) (q:Tup [(g,s)]→List Prop) (f:Tup [(g,s)]→Bool):Ann:={X:=Nat,σ:=fun k=>⟨3,[(1, .one (.fv 1)),(5, .one (.sl 2)),(8, .one (.sl 0)),(9, .one (.int .i64 l.length)),(10, .one (.int .i64 k))],[(0, .imm T s l),(1, .afn [(g,s)] Bo q f),(2, .own U s ((l.take k).filter fun x=>f (x,())))]⟩,inv:=fun k=>k≤l.length,mu:=fun k=>l.length-k}
def Kdg:Con:={args:=[.val false (.list 235 Hw), .fn [(true,Hw)] Bo],ress:=[(false, .list 235 Hw)],owns:=[true],pre:=fun(l,(q,_),_)=>[l.length≤1000000,∀x∈l,Ux (q (x,()))],spec:=fun(l,(_,f),_)=>(l.filter fun x=>f (x,()),())}
theorem Jga {α:Type} {p:α→Bool} {l:List α} {k:Nat} (h:k≤l.length):((l.take k).filter p).length≤k:=by
 have:=List.length_filter_le p (l.take k)
 rw[List.length_take] at this
 omega
def J4r (a:Per×Unit→Bool) (b:Nat) (c:List Per):=List.filter (fun(x:Per)=>a (x,PUnit.unit)) (List.take b c)
def Khj (a:Nat) (b:List Per) (c:Nat):=a≤List.length b∧J21 b a c
theorem Ko9 [Sx.Dr]:Ok Tryz.prog 243 Kdg:=okW W54 Tryz.f243 (fun xx=>Zn (Jpn 235 235 Hw xx.1 true xx.2.1.1 xx.2.1.2)) fun xx=>by
 obtain⟨(l:List Per),⟨(q:Per×Unit→List Prop),(f:Per×Unit→Bool)⟩,_⟩:=xx
 refine(by kernel_rfl:(Z49 l→Kav l q→∃(x:Nat),Si (Ln l) (0=Nc x∧Sf l ((fun(x:Per×PUnit)=>q x)=q∧(fun(x:Per×PUnit)=>f x)=f∧List.length (J4r f x l)=0))∧x≤List.length l∧∀(x:Nat),x≤List.length l→Br (J0c x l) (Tw (Bd (Nc x) (Ln l))∧Kar q l x∧Br (Kln f l x) ((List.length (J4r f x l)+1)*40≤140737488355328∧Z17 x∧∃(y:Nat),Si (Ln l) (Z96 x y∧Sf l ((fun(x:Per×PUnit)=>q x)=q∧(fun(x:Per×PUnit)=>f x)=f∧J4r f x l++[Kg5 l x]=J4r f y l))∧Khj y l x) (Z17 x∧∃(y:Nat),Si (Ln l) (Z96 x y∧Sf l ((fun(x:Per×PUnit)=>q x)=q∧(fun(x:Per×PUnit)=>f x)=f∧J4r f x l=J4r f y l))∧Khj y l x)) (J4r f x l=List.filter (fun(x:Per)=>f (x,PUnit.unit)) l))=_).mp ?_
 delta Z17 Z49 Z96 J0c J4z J21 J4r Khj Kav Kg5 Kat Kln Kar Br Iw Bd Tw Sf Si Ln Nc B0 E2
 intro hb hq
 refine⟨(0:Nat),⟨rfl,rfl,rfl,rfl,rfl,by simp⟩,Nat.zero_le _,fun(k:Nat) hk=>⟨fun h=> ?_,fun h=> ?_⟩⟩
 ·have hlt:k<l.length:=by simpa using h
  have hf:=Jga (p:=fun x=>f (x,())) hk
  have ht:=Ve (d:=Jjo) hlt
  refine⟨Oo,hq (l.getD k Jjo) (Je hlt),fun h1=> ?_,fun h1=> ?_⟩
  ·have h1:f (l.getD k Jjo,())=true:=h1
   refine⟨by show((List.filter (fun x=>f (x,())) (List.take k l)).length+1)*40≤_;omega,Oo,(k+1:Nat),⟨rfl,by simp,rfl,rfl,rfl, ?_⟩,Oo,Oo⟩
   rw[←ht,List.filter_append,List.filter_cons,if_pos h1];rfl
  ·have h1:f (l.getD k Jjo,())=false:=h1
   refine⟨Oo,(k+1:Nat),⟨rfl,by simp,rfl,rfl,rfl, ?_⟩,Oo,Oo⟩
   rw[←ht,List.filter_append,List.filter_cons,if_neg (by rw[h1];decide)];simp
 ·have hlt:¬k<l.length:=by simpa using h
  rw[List.take_of_length_le Oo]
abbrev W55 [Sx.Dr]:=W54.add Ko9
def J38:Con:={args:=[.val true Hw],ress:=[Bo],owns:=[],pre:=fun _=>[],spec:=fun(x,_)=>(x.2.2,())}
theorem Kn3 [Sx.Dr] (x:Per):wpF Tryz.prog W55.g (na ()) Tryz.f261 J38 (x,()):=by
 refine(by kernel_rfl:(x.2.2=x.2.2)=_).mp ?_
 rfl
theorem Ko3 [Sx.Dr]:Ok Tryz.prog 261 J38:=V5 mixed W55.ok (by kernel_rfl) (by kernel_rfl) na fun xx=>Kn3 xx.1
abbrev W56 [Sx.Dr]:=W55.add Ko3
def Dm (Q:List Per):List Per:=Q.filter fun x=>x.2.2
def Kc5:Con:={args:=[Jb4],ress:=[(false, .list 235 Hw)],owns:=[true],pre:=fun(r,_)=>[Jj r],spec:=fun((_,_,_,_,_,_,Q),_)=>(Dm Q,())}
theorem Kps [Sx.Dr]:Ok Tryz.prog 207 Kc5:=okW W56 Tryz.f207 na fun xx=>by
 obtain⟨⟨(tk:Int),(st:Int),(S:List Sta),(O:List Ord),(M:List Met),(X:List Out),(Q:List Per)⟩,_⟩:=xx
 refine(by kernel_rfl:(Jy tk st S O M X Q→Kls Q∧List.filter (fun(x:Per)=>x.2.2) Q=Dm Q)=_).mp ?_
 delta Z49 Z64 Jy Kls
 intro hr
 have nQ:Q.length≤16:=hr.nQ
 exact⟨⟨Oo,fun _ _=>trivial⟩,rfl⟩
abbrev W57 [Sx.Dr]:=W56.add Kps
theorem Jd8 {Q:List Per}:(Dm Q).length≤Q.length:=List.length_filter_le _ _
theorem Jmb {Q:List Per} {x:Per} (h:x∈Dm Q):x∈Q:=(List.mem_filter.1 h).1
def Kcz:Con:={args:=[.val true Hw, .ref 188 Zw],ress:=[Bo],owns:=[],pre:=fun _=>[],spec:=fun(x,y,_)=>(x.2.1.toList==y.1.toList,())}
theorem Kn4 [Sx.Dr] (x:Per) (y:Out):wpF Tryz.prog W57.g (na ()) Tryz.f244 Kcz (x,y,()):=by
 refine(by kernel_rfl:(Lb x.2.1 y.1=Lb x.2.1 y.1)=_).mp ?_
 delta Lb
 rfl
theorem Ko8 [Sx.Dr]:Ok Tryz.prog 244 Kcz:=V5 mixed W57.ok (by kernel_rfl) (by kernel_rfl) na fun xx=>Kn4 xx.1 xx.2.1
abbrev W58 [Sx.Dr]:=W57.add Ko8
def Ksn:Con:={args:=[.val true Hw, .ref 105 Jlv, .ref 3 sI],ress:=[Bo],owns:=[],pre:=fun(x,r,_)=>[Jj r,0≤J6 r.2.2.2.2.2.1 x.2.1],spec:=fun(x,(_,_,_,_,_,X,_),h,_)=>(decide ((Le X x.2.1).2.2.1.2≤h),())}
theorem Ko6 [Sx.Dr]:Ok Tryz.prog 246 Ksn:=okW W58 Tryz.f246 na fun xx=>by
 obtain⟨⟨(a:ByteArray),(b:ByteArray),(c:Bool)⟩,⟨(tk:Int),(st:Int),(S:List Sta),(O:List Ord),(M:List Met),(X:List Out),(Q:List Per)⟩,(h:Int),_⟩:=xx
 refine(by kernel_rfl:(Jy tk st S O M X Q→0≤J6 X b→(Z47 X∧0≤J6 X b)∧decide ((Le X b).2.2.1.2≤h)=decide ((Le X b).2.2.1.2≤h))=_).mp ?_
 delta Z47 Z64 Jy
 intro hr h
 have nX:X.length≤16:=hr.nX
 repeat' first|assumption|exact rfl|trivial|omega|apply And.intro|intro _
abbrev W59 [Sx.Dr]:=W58.add Ko6
def Ksu:Con:={args:=[aI, .ref 105 Jlv, .ref 9 .str, .ref 9 .str, .ref 3 sI],ress:=[Bo],owns:=[],pre:=fun(_,r,a,b,_)=>[Jj r,0≤Jn r.2.2.1 a,0≤Jn r.2.2.1 b],spec:=fun(h,(_,_,S,O,_,X,_),a,b,p,_)=>(decide (min (Uz S O X a h) (Uz S O X b h)<p),())}
theorem Kpd [Sx.Dr]:Ok Tryz.prog 239 Ksu:=okW W59 Tryz.f239 na fun xx=>by
 obtain⟨(h:Int),⟨(tk:Int),(st:Int),(S:List Sta),(O:List Ord),(M:List Met),(X:List Out),(Q:List Per)⟩,(a:ByteArray),(b:ByteArray),(p:Int),_⟩:=xx
 refine(by kernel_rfl:(Jy tk st S O M X Q→Z24 S a→Z24 S b→(Jy tk st S O M X Q∧Z24 S a∧Jy tk st S O M X Q∧Z24 S b)∧decide (min (Uz S O X a h) (Uz S O X b h)<p)=decide (min (Uz S O X a h) (Uz S O X b h)<p))=_).mp ?_
 delta Z24 Z64 Jy
 intro hr h1 h2
 repeat' first|assumption|exact rfl|trivial|omega|apply And.intro|intro _
abbrev W60 [Sx.Dr]:=W59.add Kpd
def Kst:Con:={args:=[aI, .ref 105 Jlv, .ref 9 .str, .ref 3 sI],ress:=[Bo],owns:=[],pre:=fun(_,r,a,_)=>[Jj r],spec:=fun(h,(_,_,_,O,_),a,p,_)=>(decide (p<K5 O a h),())}
theorem Kpb [Sx.Dr]:Ok Tryz.prog 241 Kst:=okW W60 Tryz.f241 na fun xx=>by
 obtain⟨(h:Int),⟨(tk:Int),(st:Int),(S:List Sta),(O:List Ord),(M:List Met),(X:List Out),(Q:List Per)⟩,(a:ByteArray),(p:Int),_⟩:=xx
 refine(by kernel_rfl:(Jy tk st S O M X Q→Jy tk st S O M X Q∧decide (p<K5 O a h)=decide (p<K5 O a h))=_).mp ?_
 delta Z64 Jy
 intro hr
 repeat' first|assumption|exact rfl|trivial|omega|apply And.intro|intro _
abbrev W61 [Sx.Dr]:=W60.add Kpb
def Jpm (f:Int→Bool):Int→Nat→Bool
 |_,0=>false
 |a,n+1=>bif f a then true else Jpm f (a+1) n
def Zf (s:Int×Int) (f:Int→Bool):Bool:=Jpm f s.1 (s.2-s.1).toNat
def Kdt:Con:={args:=[.val true La, .fn [I] Bo],ress:=[Bo],owns:=[],pre:=fun(s,(q,_),_)=>[0≤s.1∧s.1≤999999999,0≤s.2∧s.2≤999999999,∀h,s.1≤h→h<s.2→Ux (q (h,()))],spec:=fun(s,(_,f),_)=>(Zf s fun h=>f (h,()),())}
abbrev J2p (a b:Int) (q:Int×Unit→List Prop) (f:Int×Unit→Bool):Ann:={X:=Nat,σ:=fun k=>⟨2,[(1, .one (.fv 1)),(2, .one (.ptr 0 0)),(5, .one (.bool false)),(11, .one (.int .i64 (b-a))),(12, .one (.int .i64 k))],[(0, .box 117 [.int .i64 a, .int .i64 b]),(1, .afn [I] Bo q f)]⟩,inv:=fun k=>k≤(b-a).toNat∧Zf (a,b) (fun h=>f (h,()))=Jpm (fun h=>f (h,())) (a+k) ((b-a).toNat-k),mu:=fun k=>(b-a).toNat-k}
def Kbx (a:Int):=0≤a∧a≤999999999
def Kku (a:Nat) (b c:Int) (d:Int×Unit→Bool):=a≤Int.toNat (b-c)∧(Zf (c,b) fun(h:Int)=>d (h,PUnit.unit))=Jpm (fun(h:Int)=>d (h,PUnit.unit)) (c+Nc a) (Int.toNat (b-c)-a)
theorem Kpf [Sx.Dr]:Ok Tryz.prog 237 Kdt:=okW W61 Tryz.f237 (fun xx=>Zn (J2p xx.1.1 xx.1.2 xx.2.1.1 xx.2.1.2)) fun xx=>by
 obtain⟨⟨(a:Int),(b:Int)⟩,⟨(q:Int×Unit→List Prop),(f:Int×Unit→Bool)⟩,_⟩:=xx
 refine(by kernel_rfl:(Kbx a→Kbx b→(∀(h:Int),a≤h→h<b→Ux (q (h,PUnit.unit)))→Iw (b-a)∧∃(x:Nat),Sf false (Si (b-a) (0=Nc x∧Si a (Si b ((fun(x:Int×PUnit)=>q x)=q∧(fun(x:Int×PUnit)=>f x)=f))))∧Kku x b a f∧∀(x:Nat),Kku x b a f→Br (decide (Nc x<b-a)) ((Iw (a+Nc x)∧Ux (q (a+Nc x,PUnit.unit)))∧Br (f (a+Nc x,PUnit.unit)) (true=Zf (a,b) fun(h:Int)=>f (h,PUnit.unit)) (Z17 x∧∃(y:Nat),Sf false (Si (b-a) (Z96 x y∧Si a (Si b ((fun(x:Int×PUnit)=>q x)=q∧(fun(x:Int×PUnit)=>f x)=f))))∧Kku y b a f∧Int.toNat (b-a)-y<Int.toNat (b-a)-x)) (false=Zf (a,b) fun(h:Int)=>f (h,PUnit.unit)))=_).mp ?_
 delta Z17 Z96 Kbx Kku Br Iw Sf Si Nc
 intro h1 h2 hq
 refine⟨Oo,(0:Nat),⟨rfl,rfl,rfl,rfl,rfl,rfl,rfl⟩,⟨Nat.zero_le _,by simp[Zf]⟩,fun(k:Nat) hk=>⟨fun h=> ?_,fun h=> ?_⟩⟩
 ·have h:(k:Int)<b-a:=of_decide_eq_true h
  obtain⟨k1,k2⟩:=hk
  have hj:(b-a).toNat-k=((b-a).toNat-(k+1))+1:=by omega
  rw[hj,Jpm] at k2
  refine⟨⟨Oo,hq (a+k) Oo Oo⟩,fun h3=> ?_,fun h3=>⟨Oo,(k+1:Nat),⟨rfl,rfl,by simp,rfl,rfl,rfl,rfl⟩,⟨Oo, ?_⟩,Oo⟩⟩
  ·rw[k2]
   show true=bif f (a+(k:Int),PUnit.unit) then true else _
   rw[h3];rfl
  ·rw[k2]
   show(bif f (a+(k:Int),PUnit.unit) then true else _)=_
   rw[h3,Int.natCast_add,←Int.add_assoc];rfl
 ·have h:¬(k:Int)<b-a:=of_decide_eq_false h
  have hj:(b-a).toNat-k=0:=by omega
  rw[hk.2,hj];rfl
abbrev W62 [Sx.Dr]:=W61.add Kpf
def Jm4 (S:List Sta) (vs:List Int):Int:=Ji [Km (vs.getD 1 0) 1 1000,bif decide ((6:Int)≤S.length) then 5 else 0]
def Kdu:Con:={args:=[Jb4,aEv],ress:=[I],owns:=[],pre:=fun(r,e,_)=>[Jj r,2≤e.2.2.2.1.length],spec:=fun((tk,st,S,O,M,X,Q),(n,k,ns,vs,tx),_)=>(Jm4 S vs,())}
def Z61 (a:Li):=2≤List.length a
theorem Kq7 [Sx.Dr]:Ok Tryz.prog 148 Kdu:=okW W62 Tryz.f148 na fun xx=>by
 obtain⟨⟨(tk:Int),(st:Int),(S:List Sta),(O:List Ord),(M:List Met),(X:List Out),(Q:List Per)⟩,⟨(n:Int),(k:ByteArray),(ns:List ByteArray),(vs:List Int),(tx:ByteArray)⟩,_⟩:=xx
 refine(by kernel_rfl:(Jy tk st S O M X Q→Z61 vs→T2 (Z28 vs) (2≤1000000)∧Ji [Km (Zo vs) 1 1000,bif decide (6≤Ln S) then 5 else 0]=Jm4 S vs)=_).mp ?_
 delta Z28 Z61 Z64 Zo Jy Bd T2 Ln
 intro hr h
 repeat' first|assumption|exact rfl|trivial|omega|apply And.intro|intro _
abbrev W63 [Sx.Dr]:=W62.add Kq7
def Jpd (vs:List Int):Int:=Km (vs.getD 1 0) 0 1000
def Kdw:Con:={args:=[Jb4,aEv],ress:=[I],owns:=[],pre:=fun(r,e,_)=>[2≤e.2.2.2.1.length],spec:=fun((tk,st,S,O,M,X,Q),(n,k,ns,vs,tx),_)=>(Jpd vs,())}
def Z93 (a:Li):=Tw (Z28 a)
theorem Kq3 [Sx.Dr]:Ok Tryz.prog 152 Kdw:=okW W63 Tryz.f152 na fun xx=>by
 obtain⟨⟨(tk:Int),(st:Int),(S:List Sta),(O:List Ord),(M:List Met),(X:List Out),(Q:List Per)⟩,⟨(n:Int),(k:ByteArray),(ns:List ByteArray),(vs:List Int),(tx:ByteArray)⟩,_⟩:=xx
 refine(by kernel_rfl:(Z61 vs→Z93 vs∧Km (Zo vs) 0 1000=Jpd vs)=_).mp ?_
 delta Z28 Z61 Z93 Zo Bd Tw Ln
 intro h
 repeat' first|assumption|exact rfl|trivial|omega|apply And.intro|intro _
abbrev W64 [Sx.Dr]:=W63.add Kq3
def Jbr (e:Ev):Int:=Ji [bif (e.2.2.1.getD 1 Ja).toList==(e.2.2.1.getD 2 Ja).toList then 24 else 0,Zs e,Km (e.2.2.2.1.getD 3 0) 1 1000]
def Jtv (S:List Sta) (O:List Ord) (X:List Out) (e:Ev):Bool:=Zf (Vt e) fun h=>decide (min (Uz S O X (e.2.2.1.getD 1 Ja) h) (Uz S O X (e.2.2.1.getD 2 Ja) h)<e.2.2.2.1.getD 3 0)
def Jbs (S:List Sta) (O:List Ord) (X:List Out) (e:Ev):Int:=if Jbr e≠0 then Jbr e else Ji [bif Jtv S O X e then 4 else 0,bif decide ((32:Int)≤O.length) then 5 else 0]
def Kdy:Con:={args:=[Jb4,aEv],ress:=[I],owns:=[],pre:=fun(r,e,_)=>[Jj r,EvV e,e.2.2.1.length=3,e.2.2.2.1.length=4,0≤Jn r.2.2.1 (e.2.2.1.getD 1 Ja),0≤Jn r.2.2.1 (e.2.2.1.getD 2 Ja)],spec:=fun((tk,st,S,O,M,X,Q),(n,k,ns,vs,tx),_)=>(Jbs S O X (n,k,ns,vs,tx),())}
def Z29 (a:Li):=Bd 3 (Ln a)
def Z50 (a:Li):=List.length a=4
def Z86 (a:Li):=List.getD a 3 0
def Z88 (a:Li):=Tw (Z29 a)
def Z97 (a:Ls):=Bd 1 (Ln a)
def Z98 (a:Ls):=List.getD a 2 B0
def Lu (a:Ls):=List.getD a 1 B0
def J40 (a:Ls):=Bd 2 (Ln a)
def Jur (a:Ls):=List.length a=3
def Jkx (a:Ls):=List.getD a 1 Ja
def J8s (a:Ls):=List.getD a 2 Ja
def Jz8 (a:List Sta) (b:Ls):=Jn a (Lu b)
def J4q (a:List Sta) (b:Ls):=0≤Jz8 a b
def Kbc (a:List Sta) (b:Ls):=0≤Jn a (Jkx b)
def Knd (a:Ls):=Lb (Lu a) (Z98 a)
def Kw4 (a:Ls) (b:Int) (c:Bt) (d:Li) (e:Bt):=Ji [bif Knd a then 24 else 0,Zs (b,c,a,d,e),Km (Z86 d) 1 1000]
theorem Kq1 [Sx.Dr]:Ok Tryz.prog 154 Kdy:=okW W64 Tryz.f154 na fun xx=>by
 obtain⟨⟨(tk:Int),(st:Int),(S:List Sta),(O:List Ord),(M:List Met),(X:List Out),(Q:List Per)⟩,⟨(n:Int),(k:ByteArray),(ns:List ByteArray),(vs:List Int),(tx:ByteArray)⟩,_⟩:=xx
 refine(by kernel_rfl:(Jy tk st S O M X Q→EvV (n,k,ns,vs,tx)→Jur ns→Z50 vs→Kbc S ns→0≤Jn S (J8s ns)→T2 (Z97 ns) (T2 (J40 ns) (Z88 vs))∧(Z53 vs∧EvV (n,k,ns,vs,tx)∧3≤1000000)∧Br (Kw4 ns n k vs tx !=0) (Kw4 ns n k vs tx=Jbs S O X (n,k,ns,vs,tx)) ((Z53 vs∧(0≤(Z63 n k ns vs tx).1∧(Z63 n k ns vs tx).1≤999999999)∧(0≤(Z63 n k ns vs tx).2∧(Z63 n k ns vs tx).2≤999999999)∧∀(h:Int),(Z63 n k ns vs tx).1≤h→h<(Z63 n k ns vs tx).2→Jy tk st S O M X Q∧J4q S ns∧0≤Jn S (Z98 ns))∧2≤1000000∧Ji [bif Zf (E2 (Z63 n k ns vs tx)) fun(h:Int)=>decide (min (Uz S O X (Lu ns) h) (Uz S O X (Z98 ns) h)<Z86 vs) then 4 else 0,bif decide (32≤Ln O) then 5 else 0]=Jbs S O X (n,k,ns,vs,tx)))=_).mp ?_
 delta Z29 Z50 Z53 Z63 Z64 Z86 Z88 Z97 Z98 Lu J40 Jur Jkx J8s Jy Jz8 J4q Kbc Knd Kw4 Br Bd T2 Tw Ln B0 Lb E2
 intro hr hv hn hl h1 h2
 have sp:(0≤(Vt (n,k,ns,vs,tx)).1∧(Vt (n,k,ns,vs,tx)).1≤999999999)∧0≤(Vt (n,k,ns,vs,tx)).2∧(Vt (n,k,ns,vs,tx)).2≤999999999:=⟨hv (vs.getD 1 0) (Je (show 1<vs.length by omega)),hv (vs.getD 2 0) (Je (show 2<vs.length by omega))⟩
 refine⟨Oo,⟨Oo,hv,Oo⟩,fun h=> ?_,fun h=>⟨⟨Oo,sp.1,sp.2,fun _ _ _=>⟨hr,h1,h2⟩⟩,Oo, ?_⟩⟩
 ·have h:Jbr (n,k,ns,vs,tx)≠0:=bne_iff_ne.1 h
  unfold Jbs;rw[if_pos h];rfl
 ·have h:¬Jbr (n,k,ns,vs,tx)≠0:=by have:=bne_eq_false_iff_eq.1 h;exact fun f=>f this
  unfold Jbs;rw[if_neg h];rfl
abbrev W65 [Sx.Dr]:=W64.add Kq1
def Jko (O:List Ord) (M:List Met) (ns:List ByteArray) (vs:List Int):Int:=Ji [bif decide (vs.getD 0 0≤vs.getD 1 0) then 11 else 0,bif !Kk (Vk O (ns.getD 0 Ja)).2.2.2.1 (vs.getD 1 0) then 14 else 0,bif !Jh (Vk O (ns.getD 0 Ja)) (vs.getD 1 0) then 23 else 0,bif decide (0≤Kw M (Vk O (ns.getD 0 Ja)).1 (vs.getD 1 0)) then 9 else 0,bif (bif decide ((Vk O (ns.getD 0 Ja)).2.2.2.2.1<vs.getD 2 0) then true else decide (vs.getD 2 0<vs.getD 3 0)) then 3 else 0]
def Kdz:Con:={args:=[Jb4,aEv],ress:=[I],owns:=[],pre:=fun(r,e,_)=>[Jj r,1≤e.2.2.1.length,4≤e.2.2.2.1.length,0≤Kd r.2.2.2.1 (e.2.2.1.getD 0 Ja)],spec:=fun((tk,st,S,O,M,X,Q),(n,k,ns,vs,tx),_)=>(Jko O M ns vs,())}
def Z51 (a:Li):=4≤List.length a
def Z92 (a:Ls):=Bd 0 (Ln a)
def Vb (a:Ls):=List.getD a 0 B0
def Xe (a:Ls):=1≤List.length a
def Di (a:Ls):=List.getD a 0 Ja
def J8p (a:List Ord) (b:Ls):=Vk a (Vb b)
def Jsg (a:List Ord) (b:Ls):=Kd a (Vb b)
def Kbm (a:List Ord) (b:Ls):=(J8p a b).2.2
def J8m (a:List Ord) (b:Ls):=(Kbm a b).2.2
def Kbi (a:List Ord) (b:Ls):=(Kbm a b).2.1
def Jun (a:List Ord) (b:Ls):=0≤Kd a (Di b)
def Km4 (a:Li):=decide (Z91 a≤Zo a)
def Km3 (a:Li):=decide (Z95 a<Z86 a)
def Ki6 (a:List Ord) (b:Ls):=((J8p a b).1,(J8p a b).2.1,(Kbm a b).1,E2 (Kbi a b),(J8m a b).1,E2 (J8m a b).2)
theorem Kqy [Sx.Dr]:Ok Tryz.prog 157 Kdz:=okW W65 Tryz.f157 na fun xx=>by
 obtain⟨⟨(tk:Int),(st:Int),(S:List Sta),(O:List Ord),(M:List Met),(X:List Out),(Q:List Per)⟩,⟨(n:Int),(k:ByteArray),(ns:List ByteArray),(vs:List Int),(tx:ByteArray)⟩,_⟩:=xx
 refine(by kernel_rfl:(Jy tk st S O M X Q→Xe ns→Z51 vs→Jun O ns→T2 (Z92 ns) (Z55 O∧0≤Jsg O ns∧T2 (Z28 vs) (T2 (Z31 vs) (Z88 vs)))∧T2 (Z34 vs) (Jy tk st S O M X Q∧5≤1000000)∧Ji [bif Km4 vs then 11 else 0,bif !Kk (E2 (Kbi O ns)) (Zo vs) then 14 else 0,bif !Jh (Ki6 O ns) (Zo vs) then 23 else 0,bif decide (0≤Kw M (J8p O ns).1 (Zo vs)) then 9 else 0,bif bif decide ((J8m O ns).1<Z95 vs) then true else Km3 vs then 3 else 0]=Jko O M ns vs)=_).mp ?_
 delta Z28 Z29 Z31 Z34 Z51 Z55 Z64 Z86 Z88 Z91 Z92 Z95 Zo Vb Xe Di Jy J8p Jsg Kbm J8m Kbi Jun Km4 Km3 Ki6 Bd T2 Tw Ln B0 E2
 intro hr h1 h2 h3
 have nO:O.length≤32:=hr.nO
 refine⟨⟨⟨Oo,Oo⟩,⟨Oo,Oo⟩,Oo,h3,Oo⟩,⟨Oo,Oo,hr,Oo⟩,rfl⟩
abbrev W66 [Sx.Dr]:=W65.add Kqy
def Jdh (O:List Ord) (ns:List ByteArray) (vs:List Int):Int:=bif (bif (Vk O (ns.getD 0 Ja)).2.2.2.2.2.2 != -1 then true else decide ((Vk O (ns.getD 0 Ja)).2.2.2.1.2≤vs.getD 0 0)) then 23 else 0
def J66:Con:={args:=[Jb4,aEv],ress:=[I],owns:=[],pre:=fun(r,e,_)=>[Jj r,1≤e.2.2.1.length,1≤e.2.2.2.1.length,0≤Kd r.2.2.2.1 (e.2.2.1.getD 0 Ja)],spec:=fun((tk,st,S,O,M,X,Q),(n,k,ns,vs,tx),_)=>(Jdh O ns vs,())}
def Z56 (a:Li):=1≤List.length a
def Kk9 (a:Ls) (b:List Ord):=T2 (Z92 a) (Z55 b∧0≤Jsg b a)
def Ky8 (a:List Ord) (b:Ls):=(J8m a b).2.2 !=Z69
theorem Kqw [Sx.Dr]:Ok Tryz.prog 159 J66:=okW W66 Tryz.f159 na fun xx=>by
 obtain⟨⟨(tk:Int),(st:Int),(S:List Sta),(O:List Ord),(M:List Met),(X:List Out),(Q:List Per)⟩,⟨(n:Int),(k:ByteArray),(ns:List ByteArray),(vs:List Int),(tx:ByteArray)⟩,_⟩:=xx
 refine(by kernel_rfl:(Jy tk st S O M X Q→Xe ns→Z56 vs→Jun O ns→Kk9 ns O∧Tw (Ky8 O ns=false→Z34 vs)∧(bif bif Ky8 O ns then true else decide ((Kbi O ns).2≤Z91 vs) then 23 else 0)=Jdh O ns vs)=_).mp ?_
 delta Z34 Z55 Z56 Z64 Z69 Z91 Z92 Vb Xe Di Jy J8p Jsg Kbm J8m Kbi Jun Kk9 Ky8 Bd T2 Tw Ln B0
 intro hr h1 h2 h3
 have nO:O.length≤32:=hr.nO
 repeat' first|assumption|exact rfl|trivial|omega|apply And.intro|intro _
abbrev W67 [Sx.Dr]:=W66.add Kqw
def Jgm (S:List Sta) (e:Ev):Int:=Ji [Zs e,bif decide ((Yi S (e.2.2.1.getD 1 Ja)).2.1≤e.2.2.2.1.getD 3 0) then 3 else 0]
def Jbq (S:List Sta) (O:List Ord) (X:List Out) (e:Ev):Int:=if Jgm S e≠0 then Jgm S e else Ji [bif Zf (Vt e) (fun h=>decide (e.2.2.2.1.getD 3 0<K5 O (e.2.2.1.getD 1 Ja) h)) then 24 else 0,bif decide ((16:Int)≤X.length) then 5 else 0]
def Kdx:Con:={args:=[Jb4,aEv],ress:=[I],owns:=[],pre:=fun(r,e,_)=>[Jj r,EvV e,e.2.2.1.length=2,e.2.2.2.1.length=4,0≤Jn r.2.2.1 (e.2.2.1.getD 1 Ja)],spec:=fun((tk,st,S,O,M,X,Q),(n,k,ns,vs,tx),_)=>(Jbq S O X (n,k,ns,vs,tx),())}
def Jsi (a:Ls):=List.length a=2
def Kx7 (a:Int) (b:Bt) (c:Ls) (d:Li) (e:Bt) (f:List Sta):=Ji [Zs (a,b,c,d,e),bif decide ((Yi f (Lu c)).2.1≤Z86 d) then 3 else 0]
theorem Kqu [Sx.Dr]:Ok Tryz.prog 161 Kdx:=okW W67 Tryz.f161 na fun xx=>by
 obtain⟨⟨(tk:Int),(st:Int),(S:List Sta),(O:List Ord),(M:List Met),(X:List Out),(Q:List Per)⟩,⟨(n:Int),(k:ByteArray),(ns:List ByteArray),(vs:List Int),(tx:ByteArray)⟩,_⟩:=xx
 refine(by kernel_rfl:(Jy tk st S O M X Q→EvV (n,k,ns,vs,tx)→Jsi ns→Z50 vs→Kbc S ns→T2 (Z97 ns) (Z88 vs)∧(Z53 vs∧EvV (n,k,ns,vs,tx)∧Z59 S∧J4q S ns∧2≤1000000)∧Br (Kx7 n k ns vs tx S !=0) (Kx7 n k ns vs tx S=Jbq S O X (n,k,ns,vs,tx)) ((Z53 vs∧(0≤(Z63 n k ns vs tx).1∧(Z63 n k ns vs tx).1≤999999999)∧(0≤(Z63 n k ns vs tx).2∧(Z63 n k ns vs tx).2≤999999999)∧∀(h:Int),(Z63 n k ns vs tx).1≤h→h<(Z63 n k ns vs tx).2→Jy tk st S O M X Q)∧2≤1000000∧Ji [bif Zf (E2 (Z63 n k ns vs tx)) fun(h:Int)=>decide (Z86 vs<K5 O (Lu ns) h) then 24 else 0,bif decide (16≤Ln X) then 5 else 0]=Jbq S O X (n,k,ns,vs,tx)))=_).mp ?_
 delta Z29 Z50 Z53 Z59 Z63 Z64 Z86 Z88 Z97 Lu Jsi Jkx Jy Jz8 J4q Kbc Kx7 Br Bd T2 Tw Ln B0 E2
 intro hr hv hn hl h1
 have sp:(0≤(Vt (n,k,ns,vs,tx)).1∧(Vt (n,k,ns,vs,tx)).1≤999999999)∧0≤(Vt (n,k,ns,vs,tx)).2∧(Vt (n,k,ns,vs,tx)).2≤999999999:=⟨hv (vs.getD 1 0) (Je (show 1<vs.length by omega)),hv (vs.getD 2 0) (Je (show 2<vs.length by omega))⟩
 have nS:S.length≤6:=hr.nS
 refine⟨Oo,⟨Oo,hv,Oo,h1,Oo⟩,fun h=> ?_,fun h=>⟨⟨Oo,sp.1,sp.2,fun _ _ _=>hr⟩,Oo, ?_⟩⟩
 ·have h:Jgm S (n,k,ns,vs,tx)≠0:=bne_iff_ne.1 h
  unfold Jbq;rw[if_pos h];rfl
 ·have h:¬Jgm S (n,k,ns,vs,tx)≠0:=by have:=bne_eq_false_iff_eq.1 h;exact fun f=>f this
  unfold Jbq;rw[if_neg h];rfl
abbrev W68 [Sx.Dr]:=W67.add Kqu
def Jdi (X:List Out) (Q:List Per) (ns:List ByteArray) (vs:List Int):Int:=Ji [bif decide (vs.getD 0 0≤(Le X (ns.getD 0 Ja)).2.2.1.1) then 21 else 0,bif decide ((Le X (ns.getD 0 Ja)).2.2.1.2≤vs.getD 0 0) then 23 else 0,bif decide ((0:Int)<((Dm Q).filter fun p=>p.2.1.toList==(Le X (ns.getD 0 Ja)).1.toList).length) then 32 else 0]
def J68:Con:={args:=[Jb4,aEv],ress:=[I],owns:=[],pre:=fun(r,e,_)=>[Jj r,1≤e.2.2.1.length,1≤e.2.2.2.1.length,0≤J6 r.2.2.2.2.2.1 (e.2.2.1.getD 0 Ja)],spec:=fun((tk,st,S,O,M,X,Q),(n,k,ns,vs,tx),_)=>(Jdi X Q ns vs,())}
def Kbs (a:List Out) (b:Ls):=Le a (Vb b)
def Jup (a:List Out) (b:Ls):=J6 a (Vb b)
def J20 (a:List Out) (b:Ls):=0≤J6 a (Di b)
def Kla (a:Ls) (b:List Out):=T2 (Z92 a) (Z47 b∧0≤Jup b a)
def Kj3 (a b:Int) (c:List Sta) (d:List Ord) (e:List Met) (f:List Out) (g:List Per):=Jy a b c d e f g∧List.length (Dm g)≤1000000∧∀(x:Per),x∈Dm g→True
theorem Kqr [Sx.Dr]:Ok Tryz.prog 164 J68:=okW W68 Tryz.f164 na fun xx=>by
 obtain⟨⟨(tk:Int),(st:Int),(S:List Sta),(O:List Ord),(M:List Met),(X:List Out),(Q:List Per)⟩,⟨(n:Int),(k:ByteArray),(ns:List ByteArray),(vs:List Int),(tx:ByteArray)⟩,_⟩:=xx
 refine(by kernel_rfl:(Jy tk st S O M X Q→Xe ns→Z56 vs→J20 X ns→Kla ns X∧Kj3 tk st S O M X Q∧T2 (Z34 vs) (T2 (Z34 vs) (3≤1000000))∧Ji [bif decide (Z91 vs≤(Kbs X ns).2.2.1.1) then 21 else 0,bif decide ((Kbs X ns).2.2.1.2≤Z91 vs) then 23 else 0,bif decide (0<Ln (List.filter (fun(x:Per)=>List.beq (ByteArray.toList x.2.1) (ByteArray.toList (Kbs X ns).1)) (Dm Q))) then 32 else 0]=Jdi X Q ns vs)=_).mp ?_
 delta Z34 Z47 Z56 Z64 Z91 Z92 Vb Xe Di Jy Kbs Jup J20 Kla Kj3 Bd T2 Ln B0
 intro hr h1 h2 h3
 have nX:X.length≤16:=hr.nX
 have nQ:Q.length≤16:=hr.nQ
 have:=Jd8 (Q:=Q)
 refine⟨⟨Oo,Oo,Oo,h3⟩,⟨hr,Oo,fun _ _=>trivial⟩,Oo,rfl⟩
abbrev W69 [Sx.Dr]:=W68.add Kqr
def Jdj (X:List Out) (Q:List Per) (ns:List ByteArray) (vs:List Int):Int:=Ji [bif !Kk (Le X (ns.getD 1 Ja)).2.2.1 (vs.getD 0 0) then 22 else 0,bif decide ((16:Int)≤Q.length) then 5 else 0]
def J69:Con:={args:=[Jb4,aEv],ress:=[I],owns:=[],pre:=fun(r,e,_)=>[Jj r,2≤e.2.2.1.length,1≤e.2.2.2.1.length,0≤J6 r.2.2.2.2.2.1 (e.2.2.1.getD 1 Ja)],spec:=fun((tk,st,S,O,M,X,Q),(n,k,ns,vs,tx),_)=>(Jdj X Q ns vs,())}
def J0b (a:Ls):=2≤List.length a
theorem Kqp [Sx.Dr]:Ok Tryz.prog 166 J69:=okW W69 Tryz.f166 na fun xx=>by
 obtain⟨⟨(tk:Int),(st:Int),(S:List Sta),(O:List Ord),(M:List Met),(X:List Out),(Q:List Per)⟩,⟨(n:Int),(k:ByteArray),(ns:List ByteArray),(vs:List Int),(tx:ByteArray)⟩,_⟩:=xx
 refine(by kernel_rfl:(Jy tk st S O M X Q→J0b ns→Z56 vs→0≤J6 X (Jkx ns)→T2 (Z97 ns) (Z47 X∧0≤J6 X (Lu ns)∧T2 (Z34 vs) (2≤1000000))∧Ji [bif !Kk (E2 (Le X (Lu ns)).2.2.1) (Z91 vs) then 22 else 0,bif decide (16≤Ln Q) then 5 else 0]=Jdj X Q ns vs)=_).mp ?_
 delta Z34 Z47 Z56 Z64 Z91 Z97 Lu J0b Jkx Jy Bd T2 Ln B0 E2
 intro hr h1 h2 h3
 have nX:X.length≤16:=hr.nX
 repeat' first|assumption|exact rfl|trivial|omega|apply And.intro|intro _
abbrev W70 [Sx.Dr]:=W69.add Kqp
def Jpc (Q:List Per) (ns:List ByteArray):Int:=bif !(Jnh Q (ns.getD 0 Ja)).2.2 then 23 else 0
def Kdv:Con:={args:=[Jb4,aEv],ress:=[I],owns:=[],pre:=fun(r,e,_)=>[Jj r,1≤e.2.2.1.length,0≤Va r.2.2.2.2.2.2 (e.2.2.1.getD 0 Ja)],spec:=fun((tk,st,S,O,M,X,Q),(n,k,ns,vs,tx),_)=>(Jpc Q ns,())}
def Jt7 (a:List Per) (b:Ls):=Va a (Vb b)
def J2z (a:List Per) (b:Ls):=0≤Va a (Di b)
theorem Kqm [Sx.Dr]:Ok Tryz.prog 169 Kdv:=okW W70 Tryz.f169 na fun xx=>by
 obtain⟨⟨(tk:Int),(st:Int),(S:List Sta),(O:List Ord),(M:List Met),(X:List Out),(Q:List Per)⟩,⟨(n:Int),(k:ByteArray),(ns:List ByteArray),(vs:List Int),(tx:ByteArray)⟩,_⟩:=xx
 refine(by kernel_rfl:(Jy tk st S O M X Q→Xe ns→J2z Q ns→T2 (Z92 ns) (Z49 Q∧0≤Jt7 Q ns)∧(bif !(Jnh Q (Vb ns)).2.2 then 23 else 0)=Jpc Q ns)=_).mp ?_
 delta Z49 Z64 Z92 Vb Xe Di Jy Jt7 J2z Bd T2 Ln B0
 intro hr h1 h3
 have nQ:Q.length≤16:=hr.nQ
 repeat' first|assumption|exact rfl|trivial|omega|apply And.intro|intro _
abbrev W71 [Sx.Dr]:=W70.add Kqm
def Df (st:Int) (O:List Ord) (M:List Met) (X:List Out) (Q:List Per) (vs:List Int):Int:=bif (bif decide (vs.getD 1 0≤st) then true else decide (vs.getD 0 0<vs.getD 1 0)) then 14 else bif (bif decide ((0:Int)<(Ks M (vs.getD 1 0) O).length) then true else decide ((0:Int)<((Dm Q).filter fun p=>decide ((Le X p.2.1).2.2.1.2≤vs.getD 1 0)).length)) then 32 else 0
def J67:Con:={args:=[Jb4,aEv],ress:=[I],owns:=[],pre:=fun(r,e,_)=>[Jj r,2≤e.2.2.2.1.length],spec:=fun((tk,st,S,O,M,X,Q),(n,k,ns,vs,tx),_)=>(Df st O M X Q vs,())}
def Khu (a:Li) (b:Int):=decide (Zo a≤b)
def Kl6 (a:Li) (b:Int):=Tw (Khu a b=false→Z34 a)
def Kko (a:Li) (b:Int):=bif Khu a b then true else decide (Z91 a<Zo a)
theorem Kqk [Sx.Dr]:Ok Tryz.prog 171 J67:=okW W71 Tryz.f171 na fun xx=>by
 obtain⟨⟨(tk:Int),(st:Int),(S:List Sta),(O:List Ord),(M:List Met),(X:List Out),(Q:List Per)⟩,⟨(n:Int),(k:ByteArray),(ns:List ByteArray),(vs:List Int),(tx:ByteArray)⟩,_⟩:=xx
 refine(by kernel_rfl:(Jy tk st S O M X Q→Z61 vs→Z93 vs∧Kl6 vs st∧Br (Kko vs st) (14=Df st O M X Q vs) ((Jy tk st S O M X Q∧List.length (Dm Q)≤1000000∧∀(x:Per),x∈Dm Q→Jy tk st S O M X Q∧0≤J6 X x.2.1)∧Jy tk st S O M X Q∧(bif bif decide (0<Ln (Ks M (Zo vs) O)) then true else decide (0<Ln (List.filter (fun(x:Per)=>decide ((Le X x.2.1).2.2.1.2≤Zo vs)) (Dm Q))) then 32 else 0)=Df st O M X Q vs))=_).mp ?_
 delta Z28 Z34 Z61 Z64 Z91 Z93 Zo Jy Khu Kl6 Kko Br Bd Tw Ln
 intro hr h1
 have nQ:Q.length≤16:=hr.nQ
 have:=Jd8 (Q:=Q)
 refine⟨Oo,⟨fun _=>Oo,fun _=>Oo⟩,fun h=> ?_,fun h=>⟨⟨hr,Oo,fun x hx=>⟨hr,hr.per x (Jmb hx)⟩⟩,hr, ?_⟩⟩
 ·unfold Df;rw[h];rfl
 ·unfold Df;rw[h];rfl
abbrev W72 [Sx.Dr]:=W71.add Kqk
abbrev Jzu (pre:Reg→Ev→List Prop) (post:Reg→Ev→Reg):X8:={T? :=some 105,s:=Jlv,args:=[aEv],ress:=[],pre:=fun r (e,_)=>pre r e,spec:=fun _ _=>(),post:=fun r (e,_)=>post r e}
def Vj (O:List Ord) (s:ByteArray) (v:Int):List Ord:=O.set (Kd O s).toNat ((Vk O s).1,(Vk O s).2.1,(Vk O s).2.2.1,(Vk O s).2.2.2.1,(Vk O s).2.2.2.2.1,(Vk O s).2.2.2.2.2.1,v)
def Jad (X:List Out) (s:ByteArray) (v:Int):List Out:=X.set (J6 X s).toNat ((Le X s).1,(Le X s).2.1,((Le X s).2.2.1.1,v),(Le X s).2.2.2)
def Jae (Q:List Per) (s:ByteArray):List Per:=Q.set (Va Q s).toNat ((Jnh Q s).1,(Jnh Q s).2.1,false)
def Jbm:Reg→Ev→Reg:=fun(tk,st,S,O,M,X,Q) (n,k,ns,vs,tx)=>(tk,st,S++[(ns.getD 0 Ja,vs.getD 1 0,0)],O,M,X,Q)
def Jx0:X8:=Jzu (fun r e=>[Jj r,1≤e.2.2.1.length,2≤e.2.2.2.1.length]) Jbm
def Kl5 (a:List Sta) (b:Ls) (c:Li):=a++[(Vb b,Zo c,0)]
def Klc (a:Ls) (b:Li) (c:List Sta):=T2 (Z92 a) (T2 (Z28 b) ((List.length c+1)*32≤140737488355328))
theorem Kok [Sx.Dr] (tk st:Int) (S:List Sta) (O:List Ord) (M:List Met) (X:List Out) (Q:List Per) (n:Int) (k:ByteArray) (ns:List ByteArray) (vs:List Int) (tx:ByteArray):wpFO Tryz.prog W72.g (na ()) (fun _=>na ()) (Sx.look ([]:List (Nat×Func))) Tryz.f149 Jx0 105 (tk,st,S,O,M,X,Q) ((n,k,ns,vs,tx),()):=by
 refine(by kernel_rfl:(Jy tk st S O M X Q→Xe ns→Z61 vs→Klc ns vs S∧Sf true (Sf 105 ((tk,st,Kl5 S ns vs,O,M,X,Q)=Jbm (Z64 tk st S O M X Q) (n,k,ns,vs,tx))))=_).mp ?_
 delta Z28 Z61 Z64 Z92 Zo Vb Xe Jy Kl5 Klc Bd T2 Sf Ln B0
 intro hr
 have nS:S.length≤6:=hr.nS
 have nO:O.length≤32:=hr.nO
 have nM:M.length≤10000:=hr.nM
 have nX:X.length≤16:=hr.nX
 have nQ:Q.length≤16:=hr.nQ
 intros
 repeat' first|assumption|exact rfl|trivial|omega|exact Kt|exact Uj|exact Ut|exact U8|apply And.intro|intro _
theorem Kq6 [Sx.Dr]:Ok Tryz.prog 149 (X8.con Jx0):=Zd (Ul mixed W72.ok (by kernel_rfl) (by kernel_rfl) (U5 (l:=([]:List (Nat×Func))) (by simp)) (fun xx yy=>na ()) (fun xx yy=>fun _=>na ()) fun T xx yy hT=>by obtain rfl:=hT _ rfl;exact Kok xx.1 xx.2.1 xx.2.2.1 xx.2.2.2.1 xx.2.2.2.2.1 xx.2.2.2.2.2.1 xx.2.2.2.2.2.2 yy.1.1 yy.1.2.1 yy.1.2.2.1 yy.1.2.2.2.1 yy.1.2.2.2.2)
abbrev W73 [Sx.Dr]:=W72.add Kq6
def F1:Reg→Ev→Reg:=fun(tk,st,S,O,M,X,Q) (n,k,ns,vs,tx)=>(tk,st,S.set (Jn S (ns.getD 0 Ja)).toNat ((Yi S (ns.getD 0 Ja)).1,(Yi S (ns.getD 0 Ja)).2.1,vs.getD 1 0),O,M,X,Q)
def Jxx:X8:=Jzu (fun r e=>[Jj r,1≤e.2.2.1.length,2≤e.2.2.2.1.length,0≤Jn r.2.2.1 (e.2.2.1.getD 0 Ja)]) F1
def J4w (a:List Sta) (b:Ls):=Jn a (Vb b)
def K2s (a:List Sta) (b:Ls):=Gt a (J4w a b) Z14
theorem Koj [Sx.Dr] (tk st:Int) (S:List Sta) (O:List Ord) (M:List Met) (X:List Out) (Q:List Per) (n:Int) (k:ByteArray) (ns:List ByteArray) (vs:List Int) (tx:ByteArray):wpFO Tryz.prog W73.g (na ()) (fun _=>na ()) (Sx.look ([]:List (Nat×Func))) Tryz.f153 Jxx 105 (tk,st,S,O,M,X,Q) ((n,k,ns,vs,tx),()):=by
 refine(by kernel_rfl:(Jy tk st S O M X Q→Xe ns→Z61 vs→0≤Jn S (Di ns)→T2 (Z92 ns) (Z59 S∧T2 (Z28 vs) (Tw (Bd (J4w S ns) (Ln S))))∧Sf true (Sf 105 ((tk,st,List.set S (Int.toNat (J4w S ns)) ((K2s S ns).1,(K2s S ns).2.1,Zo vs),O,M,X,Q)=F1 (Z64 tk st S O M X Q) (n,k,ns,vs,tx))))=_).mp ?_
 delta Z14 Z28 Z59 Z61 Z64 Z92 Zo Vb Xe Di Jy J4w K2s Bd T2 Tw Sf Ln Gt B0
 intro hr
 have nS:S.length≤6:=hr.nS
 have nO:O.length≤32:=hr.nO
 have nM:M.length≤10000:=hr.nM
 have nX:X.length≤16:=hr.nX
 have nQ:Q.length≤16:=hr.nQ
 intros
 repeat' first|assumption|exact rfl|trivial|omega|exact Kt|exact Uj|exact Ut|exact U8|apply And.intro|intro _
theorem Kq2 [Sx.Dr]:Ok Tryz.prog 153 (X8.con Jxx):=Zd (Ul mixed W73.ok (by kernel_rfl) (by kernel_rfl) (U5 (l:=([]:List (Nat×Func))) (by simp)) (fun xx yy=>na ()) (fun xx yy=>fun _=>na ()) fun T xx yy hT=>by obtain rfl:=hT _ rfl;exact Koj xx.1 xx.2.1 xx.2.2.1 xx.2.2.2.1 xx.2.2.2.2.1 xx.2.2.2.2.2.1 xx.2.2.2.2.2.2 yy.1.1 yy.1.2.1 yy.1.2.2.1 yy.1.2.2.2.1 yy.1.2.2.2.2)
abbrev W74 [Sx.Dr]:=W73.add Kq2
def F5:Reg→Ev→Reg:=fun(tk,st,S,O,M,X,Q) (n,k,ns,vs,tx)=>(tk,st,S,O++[(ns.getD 0 Ja,ns.getD 1 Ja,ns.getD 2 Ja,Vt (n,k,ns,vs,tx),vs.getD 3 0,(Yi S (ns.getD 1 Ja)).2.2,-1)],M,X,Q)
def Jx2:X8:=Jzu (fun r e=>[Jj r,e.2.2.1.length=3,e.2.2.2.1.length=4,0≤Jn r.2.2.1 (e.2.2.1.getD 1 Ja)]) F5
theorem Koi [Sx.Dr] (tk st:Int) (S:List Sta) (O:List Ord) (M:List Met) (X:List Out) (Q:List Per) (n:Int) (k:ByteArray) (ns:List ByteArray) (vs:List Int) (tx:ByteArray):wpFO Tryz.prog W74.g (na ()) (fun _=>na ()) (Sx.look ([]:List (Nat×Func))) Tryz.f155 Jx2 105 (tk,st,S,O,M,X,Q) ((n,k,ns,vs,tx),()):=by
 refine(by kernel_rfl:(Jy tk st S O M X Q→Jur ns→Z50 vs→Kbc S ns→T2 (Z92 ns) (T2 (Z97 ns) (T2 (J40 ns) (Z53 vs∧T2 (Z29 vs) (T2 (Z97 ns) (Z59 S∧J4q S ns∧(List.length O+1)*88≤140737488355328)))))∧Sf true (Sf 105 ((tk,st,S,O++[(Vb ns,Lu ns,Z98 ns,E2 (Z63 n k ns vs tx),Z86 vs,(Yi S (Lu ns)).2.2,Z69)],M,X,Q)=F5 (Z64 tk st S O M X Q) (n,k,ns,vs,tx))))=_).mp ?_
 delta Z29 Z50 Z53 Z59 Z63 Z64 Z69 Z86 Z92 Z97 Z98 Lu J40 Vb Jur Jkx Jy Jz8 J4q Kbc Bd T2 Sf Ln B0 E2
 intro hr
 have nS:S.length≤6:=hr.nS
 have nO:O.length≤32:=hr.nO
 have nM:M.length≤10000:=hr.nM
 have nX:X.length≤16:=hr.nX
 have nQ:Q.length≤16:=hr.nQ
 intros
 repeat' first|assumption|exact rfl|trivial|omega|exact Kt|exact Uj|exact Ut|exact U8|apply And.intro|intro _
theorem Kq0 [Sx.Dr]:Ok Tryz.prog 155 (X8.con Jx2):=Zd (Ul mixed W74.ok (by kernel_rfl) (by kernel_rfl) (U5 (l:=([]:List (Nat×Func))) (by simp)) (fun xx yy=>na ()) (fun xx yy=>fun _=>na ()) fun T xx yy hT=>by obtain rfl:=hT _ rfl;exact Koi xx.1 xx.2.1 xx.2.2.1 xx.2.2.2.1 xx.2.2.2.2.1 xx.2.2.2.2.2.1 xx.2.2.2.2.2.2 yy.1.1 yy.1.2.1 yy.1.2.2.1 yy.1.2.2.2.1 yy.1.2.2.2.2)
abbrev W75 [Sx.Dr]:=W74.add Kq0
def F6:Reg→Ev→Reg:=fun(tk,st,S,O,M,X,Q) (n,k,ns,vs,tx)=>(tk,st,S,O,M++[(ns.getD 0 Ja,vs.getD 1 0,vs.getD 2 0,vs.getD 3 0)],X,Q)
def Jx3:X8:=Jzu (fun r e=>[Jj r,1≤e.2.2.1.length,4≤e.2.2.2.1.length]) F6
def Klw (a:Li):=(Zo a,Z95 a,Z86 a)
def Kkd (a:Li) (b:List Met):=T2 (Z28 a) (T2 (Z31 a) (T2 (Z29 a) ((List.length b+1)*40≤140737488355328)))
theorem Koh [Sx.Dr] (tk st:Int) (S:List Sta) (O:List Ord) (M:List Met) (X:List Out) (Q:List Per) (n:Int) (k:ByteArray) (ns:List ByteArray) (vs:List Int) (tx:ByteArray):wpFO Tryz.prog W75.g (na ()) (fun _=>na ()) (Sx.look ([]:List (Nat×Func))) Tryz.f158 Jx3 105 (tk,st,S,O,M,X,Q) ((n,k,ns,vs,tx),()):=by
 refine(by kernel_rfl:(Jy tk st S O M X Q→Xe ns→Z51 vs→T2 (Z92 ns) (Kkd vs M)∧Sf true (Sf 105 ((tk,st,S,O,M++[(Vb ns,Klw vs)],X,Q)=F6 (Z64 tk st S O M X Q) (n,k,ns,vs,tx))))=_).mp ?_
 delta Z28 Z29 Z31 Z51 Z64 Z86 Z92 Z95 Zo Vb Xe Jy Klw Kkd Bd T2 Sf Ln B0
 intro hr
 have nS:S.length≤6:=hr.nS
 have nO:O.length≤32:=hr.nO
 have nM:M.length≤10000:=hr.nM
 have nX:X.length≤16:=hr.nX
 have nQ:Q.length≤16:=hr.nQ
 intros
 repeat' first|assumption|exact rfl|trivial|omega|exact Kt|exact Uj|exact Ut|exact U8|apply And.intro|intro _
theorem Kqx [Sx.Dr]:Ok Tryz.prog 158 (X8.con Jx3):=Zd (Ul mixed W75.ok (by kernel_rfl) (by kernel_rfl) (U5 (l:=([]:List (Nat×Func))) (by simp)) (fun xx yy=>na ()) (fun xx yy=>fun _=>na ()) fun T xx yy hT=>by obtain rfl:=hT _ rfl;exact Koh xx.1 xx.2.1 xx.2.2.1 xx.2.2.2.1 xx.2.2.2.2.1 xx.2.2.2.2.2.1 xx.2.2.2.2.2.2 yy.1.1 yy.1.2.1 yy.1.2.2.1 yy.1.2.2.2.1 yy.1.2.2.2.2)
abbrev W76 [Sx.Dr]:=W75.add Kqx
def F0:Reg→Ev→Reg:=fun(tk,st,S,O,M,X,Q) (n,k,ns,vs,tx)=>(tk,st,S,Vj O (ns.getD 0 Ja) (vs.getD 0 0),M,X,Q)
def Jxv:X8:=Jzu (fun r e=>[Jj r,1≤e.2.2.1.length,1≤e.2.2.2.1.length,0≤Kd r.2.2.2.1 (e.2.2.1.getD 0 Ja)]) F0
def Kzy (a:List Ord) (b:Ls):=Gt a (Jsg a b) Jen
def Kzo (a:List Ord) (b:Ls):=(Kzy a b).2
def Kzl (a:List Ord) (b:Ls):=(Kzo a b).2
def Kzh (a:List Ord) (b:Ls):=(Kzl a b).2
def Kze (a:List Ord) (b:Ls):=(Kzh a b).2
theorem Kog [Sx.Dr] (tk st:Int) (S:List Sta) (O:List Ord) (M:List Met) (X:List Out) (Q:List Per) (n:Int) (k:ByteArray) (ns:List ByteArray) (vs:List Int) (tx:ByteArray):wpFO Tryz.prog W76.g (na ()) (fun _=>na ()) (Sx.look ([]:List (Nat×Func))) Tryz.f160 Jxv 105 (tk,st,S,O,M,X,Q) ((n,k,ns,vs,tx),()):=by
 refine(by kernel_rfl:(Jy tk st S O M X Q→Xe ns→Z56 vs→Jun O ns→T2 (Z92 ns) (Z55 O∧T2 (Z34 vs) (Tw (Bd (Jsg O ns) (Ln O))))∧Sf true (Sf 105 ((tk,st,S,List.set O (Int.toNat (Jsg O ns)) ((Kzy O ns).1,(Kzo O ns).1,(Kzl O ns).1,E2 (Kzh O ns).1,(Kze O ns).1,(Kze O ns).2.1,Z91 vs),M,X,Q)=F0 (Z64 tk st S O M X Q) (n,k,ns,vs,tx))))=_).mp ?_
 delta Z34 Z55 Z56 Z64 Z71 Z91 Z92 Vb Xe Di Jy Jsg Jun Jen Kzy Kzo Kzl Kzh Kze Bd T2 Tw Sf Ln Gt B0 E2
 intro hr
 have nS:S.length≤6:=hr.nS
 have nO:O.length≤32:=hr.nO
 have nM:M.length≤10000:=hr.nM
 have nX:X.length≤16:=hr.nX
 have nQ:Q.length≤16:=hr.nQ
 intros
 repeat' first|assumption|exact rfl|trivial|omega|exact Kt|exact Uj|exact Ut|exact U8|apply And.intro|intro _
theorem Kqv [Sx.Dr]:Ok Tryz.prog 160 (X8.con Jxv):=Zd (Ul mixed W76.ok (by kernel_rfl) (by kernel_rfl) (U5 (l:=([]:List (Nat×Func))) (by simp)) (fun xx yy=>na ()) (fun xx yy=>fun _=>na ()) fun T xx yy hT=>by obtain rfl:=hT _ rfl;exact Kog xx.1 xx.2.1 xx.2.2.1 xx.2.2.2.1 xx.2.2.2.2.1 xx.2.2.2.2.2.1 xx.2.2.2.2.2.2 yy.1.1 yy.1.2.1 yy.1.2.2.1 yy.1.2.2.2.1 yy.1.2.2.2.2)
abbrev W77 [Sx.Dr]:=W76.add Kqv
def F3:Reg→Ev→Reg:=fun(tk,st,S,O,M,X,Q) (n,k,ns,vs,tx)=>(tk,st,S,O,M,X++[(ns.getD 0 Ja,ns.getD 1 Ja,Vt (n,k,ns,vs,tx),vs.getD 3 0)],Q)
def Jxz:X8:=Jzu (fun r e=>[Jj r,e.2.2.1.length=2,e.2.2.2.1.length=4]) F3
def Kmu (a:Li) (b:List Out):=T2 (Z29 a) ((List.length b+1)*56≤140737488355328)
theorem Kof [Sx.Dr] (tk st:Int) (S:List Sta) (O:List Ord) (M:List Met) (X:List Out) (Q:List Per) (n:Int) (k:ByteArray) (ns:List ByteArray) (vs:List Int) (tx:ByteArray):wpFO Tryz.prog W77.g (na ()) (fun _=>na ()) (Sx.look ([]:List (Nat×Func))) Tryz.f162 Jxz 105 (tk,st,S,O,M,X,Q) ((n,k,ns,vs,tx),()):=by
 refine(by kernel_rfl:(Jy tk st S O M X Q→Jsi ns→Z50 vs→T2 (Z92 ns) (T2 (Z97 ns) (Z53 vs∧Kmu vs X))∧Sf true (Sf 105 ((tk,st,S,O,M,X++[(Vb ns,Lu ns,E2 (Z63 n k ns vs tx),Z86 vs)],Q)=F3 (Z64 tk st S O M X Q) (n,k,ns,vs,tx))))=_).mp ?_
 delta Z29 Z50 Z53 Z63 Z64 Z86 Z92 Z97 Lu Vb Jsi Jy Kmu Bd T2 Sf Ln B0 E2
 intro hr
 have nS:S.length≤6:=hr.nS
 have nO:O.length≤32:=hr.nO
 have nM:M.length≤10000:=hr.nM
 have nX:X.length≤16:=hr.nX
 have nQ:Q.length≤16:=hr.nQ
 intros
 repeat' first|assumption|exact rfl|trivial|omega|exact Kt|exact Uj|exact Ut|exact U8|apply And.intro|intro _
theorem Kqt [Sx.Dr]:Ok Tryz.prog 162 (X8.con Jxz):=Zd (Ul mixed W77.ok (by kernel_rfl) (by kernel_rfl) (U5 (l:=([]:List (Nat×Func))) (by simp)) (fun xx yy=>na ()) (fun xx yy=>fun _=>na ()) fun T xx yy hT=>by obtain rfl:=hT _ rfl;exact Kof xx.1 xx.2.1 xx.2.2.1 xx.2.2.2.1 xx.2.2.2.2.1 xx.2.2.2.2.2.1 xx.2.2.2.2.2.2 yy.1.1 yy.1.2.1 yy.1.2.2.1 yy.1.2.2.2.1 yy.1.2.2.2.2)
abbrev W78 [Sx.Dr]:=W77.add Kqt
def F2:Reg→Ev→Reg:=fun(tk,st,S,O,M,X,Q) (n,k,ns,vs,tx)=>(tk,st,S,O,M,Jad X (ns.getD 0 Ja) (vs.getD 0 0),Q)
def Jxy:X8:=Jzu (fun r e=>[Jj r,1≤e.2.2.1.length,1≤e.2.2.2.1.length,0≤J6 r.2.2.2.2.2.1 (e.2.2.1.getD 0 Ja)]) F2
def K16 (a:List Out) (b:Ls):=Gt a (Jup a b) Jg8
def K14 (a:List Out) (b:Ls):=(K16 a b).2
def K11 (a:List Out) (b:Ls):=(K14 a b).2
theorem Koe [Sx.Dr] (tk st:Int) (S:List Sta) (O:List Ord) (M:List Met) (X:List Out) (Q:List Per) (n:Int) (k:ByteArray) (ns:List ByteArray) (vs:List Int) (tx:ByteArray):wpFO Tryz.prog W78.g (na ()) (fun _=>na ()) (Sx.look ([]:List (Nat×Func))) Tryz.f165 Jxy 105 (tk,st,S,O,M,X,Q) ((n,k,ns,vs,tx),()):=by
 refine(by kernel_rfl:(Jy tk st S O M X Q→Xe ns→Z56 vs→J20 X ns→T2 (Z92 ns) (Z47 X∧T2 (Z34 vs) (Tw (Bd (Jup X ns) (Ln X))))∧Sf true (Sf 105 ((tk,st,S,O,M,List.set X (Int.toNat (Jup X ns)) ((K16 X ns).1,(K14 X ns).1,((K11 X ns).1.1,Z91 vs),(K11 X ns).2),Q)=F2 (Z64 tk st S O M X Q) (n,k,ns,vs,tx))))=_).mp ?_
 delta Z34 Z47 Z56 Z64 Z91 Z92 Vb Xe Di Jy Jg8 Jup J20 K16 K14 K11 Bd T2 Tw Sf Ln Gt B0
 intro hr
 have nS:S.length≤6:=hr.nS
 have nO:O.length≤32:=hr.nO
 have nM:M.length≤10000:=hr.nM
 have nX:X.length≤16:=hr.nX
 have nQ:Q.length≤16:=hr.nQ
 intros
 repeat' first|assumption|exact rfl|trivial|omega|exact Kt|exact Uj|exact Ut|exact U8|apply And.intro|intro _
theorem Kqq [Sx.Dr]:Ok Tryz.prog 165 (X8.con Jxy):=Zd (Ul mixed W78.ok (by kernel_rfl) (by kernel_rfl) (U5 (l:=([]:List (Nat×Func))) (by simp)) (fun xx yy=>na ()) (fun xx yy=>fun _=>na ()) fun T xx yy hT=>by obtain rfl:=hT _ rfl;exact Koe xx.1 xx.2.1 xx.2.2.1 xx.2.2.2.1 xx.2.2.2.2.1 xx.2.2.2.2.2.1 xx.2.2.2.2.2.2 yy.1.1 yy.1.2.1 yy.1.2.2.1 yy.1.2.2.2.1 yy.1.2.2.2.2)
abbrev W79 [Sx.Dr]:=W78.add Kqq
def F4:Reg→Ev→Reg:=fun(tk,st,S,O,M,X,Q) (n,k,ns,vs,tx)=>(tk,st,S,O,M,X,Q++[(ns.getD 0 Ja,ns.getD 1 Ja,true)])
def Jx1:X8:=Jzu (fun r e=>[Jj r,2≤e.2.2.1.length]) F4
def Kl4 (a:List Out) (b:List Per) (c:Ls):=(a,b++[(Vb c,Lu c,true)])
def Kk1 (a:Ls) (b:List Per):=T2 (Z92 a) (T2 (Z97 a) ((List.length b+1)*40≤140737488355328))
theorem Kod [Sx.Dr] (tk st:Int) (S:List Sta) (O:List Ord) (M:List Met) (X:List Out) (Q:List Per) (n:Int) (k:ByteArray) (ns:List ByteArray) (vs:List Int) (tx:ByteArray):wpFO Tryz.prog W79.g (na ()) (fun _=>na ()) (Sx.look ([]:List (Nat×Func))) Tryz.f167 Jx1 105 (tk,st,S,O,M,X,Q) ((n,k,ns,vs,tx),()):=by
 refine(by kernel_rfl:(Jy tk st S O M X Q→J0b ns→Kk1 ns Q∧Sf true (Sf 105 ((tk,st,S,O,M,Kl4 X Q ns)=F4 (Z64 tk st S O M X Q) (n,k,ns,vs,tx))))=_).mp ?_
 delta Z64 Z92 Z97 Lu Vb J0b Jy Kl4 Kk1 Bd T2 Sf Ln B0
 intro hr
 have nS:S.length≤6:=hr.nS
 have nO:O.length≤32:=hr.nO
 have nM:M.length≤10000:=hr.nM
 have nX:X.length≤16:=hr.nX
 have nQ:Q.length≤16:=hr.nQ
 intros
 repeat' first|assumption|exact rfl|trivial|omega|exact Kt|exact Uj|exact Ut|exact U8|apply And.intro|intro _
theorem Kqo [Sx.Dr]:Ok Tryz.prog 167 (X8.con Jx1):=Zd (Ul mixed W79.ok (by kernel_rfl) (by kernel_rfl) (U5 (l:=([]:List (Nat×Func))) (by simp)) (fun xx yy=>na ()) (fun xx yy=>fun _=>na ()) fun T xx yy hT=>by obtain rfl:=hT _ rfl;exact Kod xx.1 xx.2.1 xx.2.2.1 xx.2.2.2.1 xx.2.2.2.2.1 xx.2.2.2.2.2.1 xx.2.2.2.2.2.2 yy.1.1 yy.1.2.1 yy.1.2.2.1 yy.1.2.2.2.1 yy.1.2.2.2.2)
abbrev W80 [Sx.Dr]:=W79.add Kqo
def Jhh:Reg→Ev→Reg:=fun(tk,st,S,O,M,X,Q) (n,k,ns,vs,tx)=>(tk,st,S,O,M,X,Jae Q (ns.getD 0 Ja))
def J4a:X8:=Jzu (fun r e=>[Jj r,1≤e.2.2.1.length,0≤Va r.2.2.2.2.2.2 (e.2.2.1.getD 0 Ja)]) Jhh
theorem Koc [Sx.Dr] (tk st:Int) (S:List Sta) (O:List Ord) (M:List Met) (X:List Out) (Q:List Per) (n:Int) (k:ByteArray) (ns:List ByteArray) (vs:List Int) (tx:ByteArray):wpFO Tryz.prog W80.g (na ()) (fun _=>na ()) (Sx.look ([]:List (Nat×Func))) Tryz.f170 J4a 105 (tk,st,S,O,M,X,Q) ((n,k,ns,vs,tx),()):=by
 refine(by kernel_rfl:(Jy tk st S O M X Q→Xe ns→J2z Q ns→T2 (Z92 ns) (Z49 Q∧Tw (Bd (Jt7 Q ns) (Ln Q)))∧Sf true (Sf 105 ((tk,st,S,O,M,X,List.set Q (Int.toNat (Jt7 Q ns)) ((Gt Q (Jt7 Q ns) (B0,B0,false)).1,(Gt Q (Jt7 Q ns) (B0,B0,false)).2.1,false))=Jhh (Z64 tk st S O M X Q) (n,k,ns,vs,tx))))=_).mp ?_
 delta Z49 Z64 Z92 Vb Xe Di Jy Jt7 J2z Bd T2 Tw Sf Ln Gt B0
 intro hr
 have nS:S.length≤6:=hr.nS
 have nO:O.length≤32:=hr.nO
 have nM:M.length≤10000:=hr.nM
 have nX:X.length≤16:=hr.nX
 have nQ:Q.length≤16:=hr.nQ
 intros
 repeat' first|assumption|exact rfl|trivial|omega|exact Kt|exact Uj|exact Ut|exact U8|apply And.intro|intro _
theorem Kql [Sx.Dr]:Ok Tryz.prog 170 (X8.con J4a):=Zd (Ul mixed W80.ok (by kernel_rfl) (by kernel_rfl) (U5 (l:=([]:List (Nat×Func))) (by simp)) (fun xx yy=>na ()) (fun xx yy=>fun _=>na ()) fun T xx yy hT=>by obtain rfl:=hT _ rfl;exact Koc xx.1 xx.2.1 xx.2.2.1 xx.2.2.2.1 xx.2.2.2.2.1 xx.2.2.2.2.2.1 xx.2.2.2.2.2.2 yy.1.1 yy.1.2.1 yy.1.2.2.1 yy.1.2.2.2.1 yy.1.2.2.2.2)
abbrev W81 [Sx.Dr]:=W80.add Kql
def Jbl:Reg→Ev→Reg:=fun(tk,st,S,O,M,X,Q) (n,k,ns,vs,tx)=>(tk,vs.getD 1 0,S,O,M,X,Q)
def Jxw:X8:=Jzu (fun r e=>[Jj r,2≤e.2.2.2.1.length]) Jbl
theorem Kob [Sx.Dr] (tk st:Int) (S:List Sta) (O:List Ord) (M:List Met) (X:List Out) (Q:List Per) (n:Int) (k:ByteArray) (ns:List ByteArray) (vs:List Int) (tx:ByteArray):wpFO Tryz.prog W81.g (na ()) (fun _=>na ()) (Sx.look ([]:List (Nat×Func))) Tryz.f172 Jxw 105 (tk,st,S,O,M,X,Q) ((n,k,ns,vs,tx),()):=by
 refine(by kernel_rfl:(Jy tk st S O M X Q→Z61 vs→Z93 vs∧Sf true (Sf 105 ((tk,Zo vs,S,O,M,X,Q)=Jbl (Z64 tk st S O M X Q) (n,k,ns,vs,tx))))=_).mp ?_
 delta Z28 Z61 Z64 Z93 Zo Jy Bd Tw Sf Ln
 intro hr
 have nS:S.length≤6:=hr.nS
 have nO:O.length≤32:=hr.nO
 have nM:M.length≤10000:=hr.nM
 have nX:X.length≤16:=hr.nX
 have nQ:Q.length≤16:=hr.nQ
 intros
 repeat' first|assumption|exact rfl|trivial|omega|exact Kt|exact Uj|exact Ut|exact U8|apply And.intro|intro _
theorem Kqj [Sx.Dr]:Ok Tryz.prog 172 (X8.con Jxw):=Zd (Ul mixed W81.ok (by kernel_rfl) (by kernel_rfl) (U5 (l:=([]:List (Nat×Func))) (by simp)) (fun xx yy=>na ()) (fun xx yy=>fun _=>na ()) fun T xx yy hT=>by obtain rfl:=hT _ rfl;exact Kob xx.1 xx.2.1 xx.2.2.1 xx.2.2.2.1 xx.2.2.2.2.1 xx.2.2.2.2.2.1 xx.2.2.2.2.2.2 yy.1.1 yy.1.2.1 yy.1.2.2.1 yy.1.2.2.2.1 yy.1.2.2.2.2)
abbrev W82 [Sx.Dr]:=W81.add Kqj
end Go.Proofs.YtcibbcfiemeoiaaGreatDoor
namespace Go.Proofs.YtcibbcfiemeoiaaGreatDoor
instance drOff:Sx.Dr:=Sx.Dr.off
open Go.Sx
def Jdk (T:TypeId) (s:Sch):Con:={args:=[.val false (.list T s)],ress:=[(false, .list T s)],owns:=[true],pre:=fun(l,_)=>[l.length≤1000000],spec:=fun(l,_)=>(l,())}
theorem Jl3 {M:Nat→Prop} {w:World}:∀{xs:List Int} {flat:List Value},Yj (Rep M w (.int .i64)) xs flat→flat=xs.map (Value.int .i64)
 |[],_,h=>h
 |x::xs,_,⟨c1,c2,rfl,h1,h2⟩=>by
  have h1:c1=[.int .i64 x]:=h1
  rw[h1,Jl3 h2];rfl
theorem Jqo {M:Nat→Prop} {w:World}:∀(xs:List Int),Yj (Rep M w (.int .i64)) xs (xs.map (Value.int .i64))
 |[]=>rfl
 |x::xs=>⟨[.int .i64 x],xs.map (Value.int .i64),rfl,rfl,Jqo xs⟩
theorem Je4 {M:Nat→Prop} {w:World}:∀{xs:List ByteArray} {flat:List Value},Yj (Rep M w .str) xs flat→flat=xs.map Value.string
 |[],_,h=>h
 |x::xs,_,⟨c1,c2,rfl,h1,h2⟩=>by
  have h1:c1=[.string x]:=h1
  rw[h1,Je4 h2];rfl
theorem Jqn {M:Nat→Prop} {w:World}:∀(xs:List ByteArray),Yj (Rep M w .str) xs (xs.map Value.string)
 |[]=>rfl
 |x::xs=>⟨[.string x],xs.map Value.string,rfl,rfl,Jqn xs⟩
theorem Kqh:Ok Tryz.prog 174 (Jdk 3 sI):=by
 refine⟨⟨Tryz.f174,by kernel_rfl,by kernel_rfl,by kernel_rfl⟩,fun z hz=>(by cases hz),fun F hF=>(by cases hF),fun _ x M R w vs hM hg hpre hargs=> ?_⟩
 obtain⟨l,u⟩:=x
 obtain⟨v1,vs1,rfl,⟨cs,rfl,hr⟩,hn⟩:=hargs
 have hn:vs1=[]:=hn
 subst hn
 obtain⟨v,flat,rfl,h1,h2⟩:=hr
 have hfl:=Jl3 h1
 have hl:l.length≤1000000:=hpre
 have fin:∀(v':Value) (w':World),w'.ownsRow w.heap.size 3 1 v' l.length (l.map (Value.int .i64))→RowKit.Below w.heap.size w w'→Jpu M w (Jdk 3 sI).ress (Jdk 3 sI).owns ((Jdk 3 sI).spec (l,u)) (.returned v') w':=by
  intro v' w' ho hb
  refine⟨M,[v'],rfl, .ofK hb,fun _ h=>h,fun b h=> .inl h,_,[],rfl,⟨l.map (Value.int .i64),Jqo l,ho,fun g hg' hMg=> ?_⟩,rfl⟩
  rcases ho.2 with⟨rfl,_⟩|⟨g',cap,cur,rfl,hbg,_⟩
  ·cases hg'
  ·have:g'=g:=Option.some.inj hg'
   have:=hM g (.inl hMg)
   omega
 rcases h2 with⟨rfl|⟨ad,cap,rfl⟩,h0⟩|⟨b,off,cap,rfl,hcap,hk,hm⟩
 ·have:l=[]:=List.eq_nil_of_length_eq_zero h0
  subst this
  refine(Tryz.clone174_nil 0 0 w).mono ?_
  rintro e w' ⟨rfl,rfl⟩
  exact fin _ _ ⟨rfl, .inl ⟨rfl,rfl⟩⟩ (RowKit.Below.refl _ _)
 ·have:l=[]:=List.eq_nil_of_length_eq_zero h0
  subst this
  refine(Tryz.clone174_zero ad cap w).mono ?_
  rintro e w' ⟨v',rfl,ho,_,hb⟩
  exact fin _ _ ho hb
 ·refine(Tryz.clone174 b off l.length cap l w (Nat.le_refl _) Oo (fun j hj=>hk j _ (by rw[hfl,List.getElem?_map,List.getElem?_eq_getElem hj];simp[List.getD_eq_getElem?_getD,List.getElem?_eq_getElem hj]))).mono ?_
  rintro e w' ⟨v',rfl,ho,_,hb⟩
  rw[List.take_of_length_le (Nat.le_refl _)] at ho
  exact fin _ _ ho hb
abbrev W83:=W82.add Kqh
theorem Kqi:Ok Tryz.prog 173 (Jdk 9 .str):=by
 refine⟨⟨Tryz.f173,by kernel_rfl,by kernel_rfl,by kernel_rfl⟩,fun z hz=>(by cases hz),fun F hF=>(by cases hF),fun _ x M R w vs hM hg hpre hargs=> ?_⟩
 obtain⟨l,u⟩:=x
 obtain⟨v1,vs1,rfl,⟨cs,rfl,hr⟩,hn⟩:=hargs
 have hn:vs1=[]:=hn
 subst hn
 obtain⟨v,flat,rfl,h1,h2⟩:=hr
 have hfl:=Je4 h1
 have hl:l.length≤1000000:=hpre
 have fin:∀(v':Value) (w':World),w'.ownsRow w.heap.size 9 1 v' l.length (l.map Value.string)→RowKit.Below w.heap.size w w'→Jpu M w (Jdk 9 .str).ress (Jdk 9 .str).owns ((Jdk 9 .str).spec (l,u)) (.returned v') w':=by
  intro v' w' ho hb
  refine⟨M,[v'],rfl, .ofK hb,fun _ h=>h,fun b h=> .inl h,_,[],rfl,⟨l.map Value.string,Jqn l,ho,fun g hg' hMg=> ?_⟩,rfl⟩
  rcases ho.2 with⟨rfl,_⟩|⟨g',cap,cur,rfl,hbg,_⟩
  ·cases hg'
  ·have:g'=g:=Option.some.inj hg'
   have:=hM g (.inl hMg)
   omega
 rcases h2 with⟨rfl|⟨ad,cap,rfl⟩,h0⟩|⟨b,off,cap,rfl,hcap,hk,hm⟩
 ·have:l=[]:=List.eq_nil_of_length_eq_zero h0
  subst this
  refine(Tryz.clone173_nil 0 0 w).mono ?_
  rintro e w' ⟨rfl,rfl⟩
  exact fin _ _ ⟨rfl, .inl ⟨rfl,rfl⟩⟩ (RowKit.Below.refl _ _)
 ·have:l=[]:=List.eq_nil_of_length_eq_zero h0
  subst this
  refine(Tryz.clone173_zero ad cap w).mono ?_
  rintro e w' ⟨v',rfl,ho,_,hb⟩
  exact fin _ _ ho hb
 ·refine(Tryz.clone173 b off l.length cap l w (Nat.le_refl _) Oo (fun j hj=>hk j _ (by rw[hfl,List.getElem?_map,List.getElem?_eq_getElem hj];simp[List.getD_eq_getElem?_getD,List.getElem?_eq_getElem hj]))).mono ?_
  rintro e w' ⟨v',rfl,ho,_,hb⟩
  rw[List.take_of_length_le (Nat.le_refl _)] at ho
  exact fin _ _ ho hb
abbrev W84:=W83.add Kqi
def J37:Con:={args:=[aEv],ress:=[(true,sEv)],owns:=[],pre:=fun(e,_)=>[e.2.2.1.length≤1000000,e.2.2.2.1.length≤1000000],spec:=fun(e,_)=>(e,())}
def Jdp (a:Ls) (b:Li):=Jb2 a∧Z52 b
theorem K3g:Ok Tryz.prog 81 J37:=okW W84 Tryz.f81 na fun xx=>by
 obtain⟨⟨(n:Int),(k:ByteArray),(ns:List ByteArray),(vs:List Int),(tx:ByteArray)⟩,_⟩:=xx
 refine(by kernel_rfl:(Jb2 ns→Z52 vs→Jdp ns vs∧(n,k,ns,vs,tx)=(n,k,ns,vs,tx))=_).mp ?_
 delta Z52 Jb2 Jdp
 exact fun h1 h2=>⟨⟨h1,h2⟩,rfl⟩
abbrev W85:=W84.add K3g
def Jhj (T:TypeId) (s:Sch):Con:={args:=[.val false (.list T s)],ress:=[(false, .list T s)],owns:=[true],pre:=fun(l,_)=>[l.length≤1000000],spec:=fun(l,_)=>(l,())}
theorem Kch:Ok Tryz.prog 216 (Jhj 127 Ft):=okW W85 Tryz.f216 na fun xx=>by
 obtain⟨(l:List Sta),_⟩:=xx
 refine(by kernel_rfl:(Z59 l→((0≤Ln l∧Ln l≤1000000)∧Ln l≤Ln l∧Ln l≤1000000)∧List.length l=List.length (List.replicate (List.length l) Z14)∧l=l)=_).mp ?_
 delta Z14 Z59 Ln B0
 intro h
 exact⟨⟨⟨Oo,Oo⟩,Oo,Oo⟩,by simp,rfl⟩
abbrev W86:=W85.add Kch
theorem Kcg:Ok Tryz.prog 217 (Jhj 130 Lt):=okW W86 Tryz.f217 na fun xx=>by
 obtain⟨(l:List Ord),_⟩:=xx
 refine(by kernel_rfl:(Z55 l→((0≤Ln l∧Ln l≤1000000)∧Ln l≤Ln l∧Ln l≤1000000)∧List.length l=List.length (List.replicate (List.length l) Jen)∧l=l)=_).mp ?_
 delta Z55 Z71 Jen Ln B0
 intro h
 exact⟨⟨⟨Oo,Oo⟩,Oo,Oo⟩,by simp,rfl⟩
abbrev W87:=W86.add Kcg
theorem Kcf:Ok Tryz.prog 218 (Jhj 155 Jaw):=okW W87 Tryz.f218 na fun xx=>by
 obtain⟨(l:List Met),_⟩:=xx
 refine(by kernel_rfl:(List.length l≤1000000→((0≤Ln l∧Ln l≤1000000)∧Ln l≤Ln l∧Ln l≤1000000)∧List.length l=List.length (List.replicate (List.length l) J0a)∧l=l)=_).mp ?_
 delta Z71 J0a Ln B0
 intro h
 exact⟨⟨⟨Oo,Oo⟩,Oo,Oo⟩,by simp,rfl⟩
abbrev W88:=W87.add Kcf
theorem Kce:Ok Tryz.prog 219 (Jhj 188 Zw):=okW W88 Tryz.f219 na fun xx=>by
 obtain⟨(l:List Out),_⟩:=xx
 refine(by kernel_rfl:(Z47 l→((0≤Ln l∧Ln l≤1000000)∧Ln l≤Ln l∧Ln l≤1000000)∧List.length l=List.length (List.replicate (List.length l) Jg8)∧l=l)=_).mp ?_
 delta Z47 Jg8 Ln B0
 intro h
 exact⟨⟨⟨Oo,Oo⟩,Oo,Oo⟩,by simp,rfl⟩
abbrev W89:=W88.add Kce
theorem Kcd:Ok Tryz.prog 220 (Jhj 235 Hw):=okW W89 Tryz.f220 na fun xx=>by
 obtain⟨(l:List Per),_⟩:=xx
 refine(by kernel_rfl:(Z49 l→((0≤Ln l∧Ln l≤1000000)∧Ln l≤Ln l∧Ln l≤1000000)∧List.length l=List.length (List.replicate (List.length l) (B0,B0,false))∧l=l)=_).mp ?_
 delta Z49 Ln B0
 intro h
 exact⟨⟨⟨Oo,Oo⟩,Oo,Oo⟩,by simp,rfl⟩
abbrev W90:=W89.add Kcd
end Go.Proofs.YtcibbcfiemeoiaaGreatDoor
namespace Go.Proofs.Tryz
open Go.Proofs.YtcibbcfiemeoiaaGreatDoor
def kindsU:List (ByteArray×K3a):=[(Ju,[],0,none,none,none),
 (Jw,[(0,false)],2,some 148,some 149,some 150),
 (Uf,[(0,true)],2,some 152,some 153,some 150),
 (Ki,[(1,false),(0,true),(0,true)],4,some 154,some 155,some 156),
 (K9,[(1,true)],4,some 157,some 158,some 156),
 (V2,[(1,true)],1,some 159,some 160,some 156),
 (Js,[(2,false),(0,true)],4,some 161,some 162,some 163),
 (Jt,[(2,true)],1,some 164,some 165,some 163),
 (Kg,[(3,false),(2,true)],1,some 166,some 167,some 168),
 (Kf,[(3,true)],1,some 169,some 170,some 168),
 (Jk,[],2,some 171,some 172,none)]
end Go.Proofs.Tryz
namespace Go.Proofs.YtcibbcfiemeoiaaGreatDoor
open Go.Sx
def J6x:Jnf:={kT:=9,gk:=false,gv:=true,ks:= .str,vs:=Kb6,l:=Tryz.kindsU}
theorem Kow:Ok Tryz.prog 80 (Jnf.con J6x):=Kox
abbrev W91:=W90.add Kow
abbrev Kh:=List Ev×List Ev×List Reg
abbrev Jjk:Sch:= .prod (.list 67 sEv) (.prod (.list 67 sEv) (.list 105 Jlv))
def U9:Reg:=(0,0,[],[],[],[],[])
def ev0:Ev:=(0,Ja,[],[],Ja)
def J7 (G:List Reg):Reg:=G.getD (G.length-1) U9
structure Ke (h:Kh):Prop where
 nE:h.1.length≤1000
 nC:h.2.1.length≤h.1.length
 nG:h.2.2.length=h.2.1.length
 reg:∀r∈h.2.2,Jj r
def Kn (r:Reg) (ns:List ByteArray):List (Int×Bool)→Nat→Bool
 |[],_=>false
 |(w,b)::l,i=>bif (bif b then !Vq r w (ns.getD i Ja) else false) then true else Kn r ns l (i+1)
def Kq (r:Reg) (ns:List ByteArray):List (Int×Bool)→Nat→Bool
 |[],_=>false
 |(w,b)::l,i=>bif (bif !b then Vq r w (ns.getD i Ja) else false) then true else Kq r ns l (i+1)
def ckS (r:Reg) (e:Ev):Int:=match(Jm e.2.1).2.2.1 with
 |some 148=>Jm4 r.2.2.1 e.2.2.2.1
 |some 152=>Jpd e.2.2.2.1
 |some 154=>Jbs r.2.2.1 r.2.2.2.1 r.2.2.2.2.2.1 e
 |some 157=>Jko r.2.2.2.1 r.2.2.2.2.1 e.2.2.1 e.2.2.2.1
 |some 159=>Jdh r.2.2.2.1 e.2.2.1 e.2.2.2.1
 |some 161=>Jbq r.2.2.1 r.2.2.2.1 r.2.2.2.2.2.1 e
 |some 164=>Jdi r.2.2.2.2.2.1 r.2.2.2.2.2.2 e.2.2.1 e.2.2.2.1
 |some 166=>Jdj r.2.2.2.2.2.1 r.2.2.2.2.2.2 e.2.2.1 e.2.2.2.1
 |some 169=>Jpc r.2.2.2.2.2.2 e.2.2.1
 |some 171=>Df r.2.1 r.2.2.2.1 r.2.2.2.2.1 r.2.2.2.2.2.1 r.2.2.2.2.2.2 e.2.2.2.1
 |_=>0
def Dc (h:Kh) (e:Ev):Int:=
 bif e.1 !=(h.1.length:Int)+1 then 11 else
 bif e.2.1.toList==Ju.toList then(bif (h.2.1.length:Int)==0 then 12 else bif (h.2.1.getD (h.2.1.length-1) ev0).2.1.toList==Jk.toList then 21 else 0) else
 bif decide (e.2.2.2.1.getD 0 0<(J7 h.2.2).1) then 22 else
 bif Kn (J7 h.2.2) e.2.2.1 (Jm e.2.1).1 0 then 10 else
 bif Kq (J7 h.2.2) e.2.2.1 (Jm e.2.1).1 0 then 9 else ckS (J7 h.2.2) e
def Jrq:X8:={T? :=none,s:=Jjk,args:=[aEv],ress:=[I],pre:=fun h (e,_)=>[Ke h,Jb e=0],spec:=fun h (e,_)=>(Dc h e,()),post:=fun h _=>h}
abbrev Xw (m:Nat):Nat→Option Ann:=fun i=>if i=0∨i=2 then some {X:=Unit,σ:=fun _=>⟨0,[],[]⟩,inv:=fun _=>True,mu:=fun _=>0,un:=m} else none
def Jr5 (h:Kh) (n:Int) (ns:List ByteArray) (vs:List Int) (roles:List (Int×Bool)) (ck:Int):Int:=
 bif n !=(h.1.length:Int)+1 then 11 else
 bif decide (vs.getD 0 0<(J7 h.2.2).1) then 22 else
 bif Kn (J7 h.2.2) ns roles 0 then 10 else
 bif Kq (J7 h.2.2) ns roles 0 then 9 else ck
theorem Yz {h:Kh} {n:Int} {k:ByteArray} {ns:List ByteArray} {vs:List Int} {tx:ByteArray} (h1:(k.toList==Ju.toList)=false):Dc h (n,k,ns,vs,tx)=Jr5 h n ns vs (Jm k).1 (ckS (J7 h.2.2) (n,k,ns,vs,tx)):=by
 unfold Dc Jr5
 dsimp only
 rw[h1];rfl
theorem Kp:Jm Jw=([(0,false)],2,some 148,some 149,some 150):=by kernel_rfl
theorem U6:Jm Uf=([(0,true)],2,some 152,some 153,some 150):=by kernel_rfl
theorem Uh:Jm Ki=([(1,false),(0,true),(0,true)],4,some 154,some 155,some 156):=by kernel_rfl
theorem Ui:Jm K9=([(1,true)],4,some 157,some 158,some 156):=by kernel_rfl
theorem Vl:Jm V2=([(1,true)],1,some 159,some 160,some 156):=by kernel_rfl
theorem Kr:Jm Js=([(2,false),(0,true)],4,some 161,some 162,some 163):=by kernel_rfl
theorem J5:Jm Jt=([(2,true)],1,some 164,some 165,some 163):=by kernel_rfl
theorem K1:Jm Kg=([(3,false),(2,true)],1,some 166,some 167,some 168):=by kernel_rfl
theorem K0:Jm Kf=([(3,true)],1,some 169,some 170,some 168):=by kernel_rfl
theorem Uy:Jm Jk=([],2,some 171,some 172,none):=by kernel_rfl
theorem Jcg:Jm Ju=([],0,none,none,none):=by kernel_rfl
theorem Jdv {r:Reg} {s:ByteArray}:Vq r 0 s=decide (0≤Jn r.2.2.1 s):=rfl
theorem Jf1 {r:Reg} {s:ByteArray}:Vq r 1 s=decide (0≤Kd r.2.2.2.1 s):=rfl
theorem Jf0 {r:Reg} {s:ByteArray}:Vq r 2 s=decide (0≤J6 r.2.2.2.2.2.1 s):=rfl
theorem Jhf {r:Reg} {s:ByteArray}:Vq r 3 s=decide (0≤Va r.2.2.2.2.2.2 s):=rfl
structure J9u (e:Ev):Prop where
 num:1≤e.1∧e.1≤1000
 kind:Y5 e.2.1=true
 nn:e.2.2.1.length=(Jm e.2.1).1.length
 nv:(e.2.2.2.1.length:Int)=(Jm e.2.1).2.1
 name:∀s∈e.2.2.1,Yx s=true
 val:EvV e
 txt:e.2.2.2.2.size=0
theorem Uw {l:List Int}:Ji l=0↔∀x∈l,x=0:=by
 induction l with
 |nil=>simp[Ji]
 |cons x l ih=>
  unfold Ji
  by_cases h:x=0
  ·rw[if_pos h,ih];simp[h]
  ·rw[if_neg h];simp[h]
theorem U4 {n a b:Int}:Km n a b=0↔a≤n∧n≤b:=by
 unfold Km
 by_cases h1:n<a
 ·simp[h1];omega
 ·by_cases h2:b<n
  ·simp[h2]
  ·simp[h1,h2];omega
theorem Ud {e:Ev} (h:Jb e=0):J9u e:=by
 unfold Jb at h
 by_cases h1:Km e.1 1 1000≠0
 ·rw[if_pos h1] at h;exact absurd h h1
 rw[if_neg h1] at h
 cases hk:Y5 e.2.1 with
 |false=>rw[hk] at h;cases h
 | true =>
  rw[hk,cond_true] at h
  by_cases h2:e.2.2.1.length=(Jm e.2.1).1.length∧(e.2.2.2.1.length:Int)=(Jm e.2.1).2.1
  ·rw[if_pos h2] at h
   have h3:=Uw.1 h
   have n1:=Uw.1 (h3 _ (List.mem_cons_self ..))
   have n2:=Uw.1 (h3 _ (List.mem_cons_of_mem _ (List.mem_cons_self ..)))
   have n3:=h3 _ (List.mem_cons_of_mem _ (List.mem_cons_of_mem _ (List.mem_cons_self ..)))
   refine⟨U4.1 Oo,hk,h2.1,h2.2,fun s hs=> ?_,fun v hv=>U4.1 (n2 _ (List.mem_map_of_mem hv)), ?_⟩
   ·have:=n1 _ (List.mem_map_of_mem hs)
    cases hn:Yx s with
    |true=>rfl
    |false=>rw[hn] at this;cases this
   ·by_cases h4:0<e.2.2.2.2.size
    ·rw[decide_eq_true h4] at n3;cases n3
    ·omega
  ·rw[if_neg h2] at h;cases h
theorem Xj {h:Kh} (hh:Ke h):Jj (J7 h.2.2):=by
 unfold J7
 by_cases h0:0<h.2.2.length
 ·exact hh.reg _ (Je Oo)
 ·have:h.2.2=[]:=List.eq_nil_of_length_eq_zero Oo
  rw[this]
  exact⟨Od,Od,Od,Od,Od,Od,Od,fun _ h=>(by cases h),fun _ h=>(by cases h),fun _ h=>(by cases h),fun _ h=>(by cases h),fun _ h=>(by cases h),fun _ h=>(by cases h)⟩
theorem Ko {G:List Reg} (h:decide (0<(G.length:Int))=false):J7 G=U9:=by
 have h:¬0<(G.length:Int):=of_decide_eq_false h
 have:G=[]:=List.eq_nil_of_length_eq_zero Oo
 rw[this];rfl
theorem H4:((0,0,[],[],[],[],[]):Reg)=U9:=rfl
theorem Jh3 (G:List Reg):G.getD (G.length-1) U9=J7 G:=rfl
theorem Ld {E C:List Ev} {G:List Reg} {e:Ev} (hh:Ke (E,C,G)) (hc:Jb e=0):e.2.2.1.length=(Jm e.2.1).1.length∧(e.2.2.2.1.length:Int)=(Jm e.2.1).2.1∧Jj (J7 G)∧Jj U9∧E.length≤1000∧C.length≤E.length∧G.length=C.length∧((G.length:Int)-1).toNat=G.length-1∧EvV e:=
 have hE:=Ud hc
 ⟨hE.nn,hE.nv,Xj hh,Xj (h:=([],[],[])) ⟨Od,Od,rfl,fun _ h=>(by cases h)⟩,hh.nE,hh.nC,hh.nG,Oo,hE.val⟩
def Z0 (a:List Ev):=Ln a+1
def Z1 (a:Int) (b:Ls) (c:Li) (d:Bt):=(a,Ju,b,c,d)
def Z4 (a:List Ev):=Ln a==0
def Z6 (a:List Ev):=Ln a-1
def Z33:=Iw ((0:Int)+1)
def Z58:=Tw (Bd 0 0)
def Z65 (a:List Ev):=Iw (Z6 a)
def Z66 (a:List Ev):=Iw (Z0 a)
def Kx (a:Li):=Tw (Z34 a)
def Ye (a:List Reg):=decide (0<Ln a)
def J4y:=Z33∧False
def Jt8 (a b:List Ev) (c:List Reg) (d:Int) (e:Ls) (f:Li) (g:Bt):=Dc (a,b,c) (Z1 d e f g)
def Jaa:Int×ByteArray×List ByteArray×List Int×ByteArray:=((0:Int),B0,[],[],B0)
def Jg7 (a:Li):=decide (Z91 a<0)
def Dp:Int×List Sta×List Ord×List Met×List Out×List Per:=((0:Int),[],[],[],[],[])
def Jg6 (a:Int) (b:List Ev):=a !=Z0 b
def Jg5 (a:List Ev):=Z65 a∧Tw (Bd (Z6 a) (Ln a))
def V4:=((0:Int),Dp)
def Yd (a:List Reg):=Iw (Ln a-1)∧Tw (Bd (Ln a-1) (Ln a))
def Y4:=Jj V4
def Jel:=true=true→Y4
def Jb1:=false=true→Y4
def Fo (a:List Reg):=Gt a (Ln a-1) V4
def Fn (a:List Reg):=(Fo a).2
def Jau (a:List Reg):=(Fo a).1
def F9 (a:List Reg):=(Fn a).1
def H1 (a:List Reg):=(Fn a).2
def H0 (a:List Reg):=(H1 a).2
def Du (a:List Reg):=(H0 a).2
def Hn (a:List Reg):=(Du a).2
def J4m (a:Ls):=Vq V4 0 (Vb a)
def Jg4 (a:List Ev):=bif Lb (Gt a (Z6 a) Jaa).2.1 Jk then(21:Int) else(0:Int)
def Kag (a:Ls):=bif true then J4m a else false
def Jg3 (a:Li) (b:List Reg):=decide (Z91 a<Jau b)
def Jg2 (a:Ls):=T2 (true=true→Z92 a) Jel
def Jg1 (a:Ls):=T2 (false=true→Z92 a) Jb1
def Kxc (a:TypeId) (b c:List Ev) (d:List Reg) (e:Int) (f:Ls) (g:Li) (h:Bt):=Br false (Sf true (Sf a (Sf (b,c,d) (10=Jt8 b c d e f g h)))) J4y
def F8 (a:List Reg):=(F9 a,(H1 a).1,(H0 a).1,(Du a).1,E2 (Hn a))
def Yq (a:List Reg):=(Jau a,F8 a)
def Xd (a:List Reg):=Jj (Yq a)
def Jeh (a:List Reg):=true=true→Xd a
def Jcw (a:List Reg):=false=true→Xd a
def J4g (a:List Reg) (b:Ls):=Vq (Yq a) 0 (Vb b)
def J94 (a:List Reg) (b:Ls):=bif true then J4g a b else false
def Jg0 (a:Ls) (b:List Reg):=T2 (true=true→Z92 a) (Jeh b)
def Ho (a:Ls) (b:List Reg):=T2 (false=true→Z92 a) (Jcw b)
variable (T:TypeId) (E C:List Ev) (G:List Reg) (tk st:Int) (S:List Sta) (O:List Ord) (M:List Met) (X:List Out) (Q:List Per) (n:Int) (ns:List ByteArray) (vs:List Int) (tx:ByteArray)
theorem Jsr:wpFO Tryz.prog W91.g (Xw 1) (fun _=>na ()) (Sx.look ([(75,Tryz.f75)]:List (Nat×Func))) Tryz.f130 Jrq T (E,C,G) ((n,Ju,ns,vs,tx),()):=by
 refine(by kernel_rfl:(Ke (E,C,G)→Jb (Z1 n ns vs tx)=0→Z66 E∧Br (Jg6 n E) (Sf true (Sf T (Sf (E,C,G) (11=Jt8 E C G n ns vs tx)))) (Br true (Br (Z4 C) (Sf true (Sf T (Sf (E,C,G) (12=Jt8 E C G n ns vs tx)))) (Jg5 C∧Sf true (Sf T (Sf (E,C,G) (Jg4 C=Jt8 E C G n ns vs tx))))) (Br (Ye G) (Yd G∧Kx vs∧Br (Jg3 vs G) (Sf true (Sf T (Sf (E,C,G) (22=Jt8 E C G n ns vs tx)))) (Br false (Z58∧Ho ns G∧Kxc T E C G n ns vs tx) (Br false (Z58∧Jg0 ns G∧Br (J94 G ns) (Sf true (Sf T (Sf (E,C,G) (9=Jt8 E C G n ns vs tx)))) J4y) (False∧Sf true False)))) (Kx vs∧Br (Jg7 vs) (Sf true (Sf T (Sf (E,C,G) (22=Jt8 E C G n ns vs tx)))) (Br false (Z58∧Jg1 ns∧Kxc T E C G n ns vs tx) (Br false (Z58∧Jg2 ns∧Br (Kag ns) (Sf true (Sf T (Sf (E,C,G) (9=Jt8 E C G n ns vs tx)))) J4y) (False∧Sf true False)))))))=_).mp ?_
 delta Z0 Z1 Z4 Z6 Z33 Z34 Z58 Z65 Z66 Z91 Z92 Kx Vb Ye J4y Jt8 Jaa Jg7 Dp Jg6 Jg5 V4 Yd Y4 Jel Jb1 Fo Fn Jau F9 H1 H0 Du Hn J4m Jg4 Kag Jg3 Jg2 Jg1 Kxc F8 Yq Xd Jeh Jcw J4g J94 Jg0 Ho Br Iw Bd T2 Tw Sf Ln Gt B0 Lb E2 Jk Ju
 intro hh hc
 have hE:=Ud hc
 have n1:E.length≤1000:=hh.nE
 have n2:C.length≤E.length:=hh.nC
 have eA:Dc (E,C,G) (n,Ju,ns,vs,tx)=bif n !=(E.length:Int)+1 then 11 else(bif (C.length:Int)==0 then 12 else bif (C.getD (C.length-1) ev0).2.1.toList==Jk.toList then 21 else 0):=by
  unfold Dc
  dsimp only
  rw[show(Ju.toList==Ju.toList)=true from by kernel_rfl];rfl
 refine⟨Oo,fun h=>⟨rfl,rfl,rfl, ?_⟩,fun h=>⟨fun _=>⟨fun h2=>⟨rfl,rfl,rfl, ?_⟩,fun h2=> ?_⟩,fun h=>(by cases h)⟩⟩
 ·rw[eA,h];rfl
 ·rw[eA,h,h2];rfl
 ·have h3:¬C.length=0:=fun e=>by rw[e] at h2;cases h2
  have h4:((C.length:Int)-1).toNat=C.length-1:=by omega
  refine⟨⟨⟨Oo,Oo⟩,⟨Oo,Oo⟩,⟨Oo,Oo⟩⟩,rfl,rfl,rfl, ?_⟩
  rw[eA,h,h2,h4];rfl
def Z26 (a:Int) (b:Ls) (c:Li) (d:Bt):=(a,Jw,b,c,d)
def Z48:=Tw (Bd 0 1)
def Jnq:=(0:Int)+1+1
def Jep:=Iw Jnq
def Jay:=Tw (Bd ((0:Int)+1) 1)
def Jr9 (a b:List Ev) (c:List Reg) (d:Int) (e:Ls) (f:Li) (g:Bt):=Dc (a,b,c) (Z26 d e f g)
def Jeo:=Jep∧False
def Jy5 (a:Ls):=true=true→Bd ((0:Int)+1) (Ln a)
def Jy4 (a:Ls):=false=true→Bd ((0:Int)+1) (Ln a)
def Kaq (a:Li):=Y4∧Z61 a
def Jz1 (a:Ls):=Vq V4 0 (Lu a)
def Kj8 (a:TypeId) (b c:List Ev) (d:List Reg) (e:Int) (f:Ls) (g:Li) (h:Bt):=Sf true (Sf a (Sf (b,c,d) (10=Jr9 b c d e f g h)))
def Kf4 (a:TypeId) (b c:List Ev) (d:List Reg) (e:Int) (f:Ls) (g:Li) (h:Bt):=Sf true (Sf a (Sf (b,c,d) (9=Jr9 b c d e f g h)))
def Jul (a:Ls):=bif true then Jz1 a else false
def Jk1 (a:Ls):=T2 (Jy5 a) Jel
def Jk0 (a:Ls):=T2 (Jy4 a) Jb1
def Kw2 (a:TypeId) (b c:List Ev) (d:List Reg) (e:Int) (f:Ls) (g:Li) (h:Bt):=Br false (Kj8 a b c d e f g h) Jeo
def Kwi (a:Li) (b:TypeId) (c d:List Ev) (e:List Reg) (f:Int) (g:Ls) (h:Bt):=Kaq a∧Sf true (Sf b (Sf (c,d,e) (Jm4 [] a=Jr9 c d e f g a h)))
def J96 (a:List Reg) (b:Li):=Xd a∧Z61 b
def Jzx (a:List Reg) (b:Ls):=Vq (Yq a) 0 (Lu b)
def Juk (a:List Reg) (b:Ls):=bif true then Jzx a b else false
def Ds (a:Ls) (b:List Reg):=T2 (Jy5 a) (Jeh b)
def Dq (a:Ls) (b:List Reg):=T2 (Jy4 a) (Jcw b)
def J9l (a:List Reg) (b:Li) (c:TypeId) (d e:List Ev) (f:Int) (g:Ls) (h:Bt):=J96 a b∧Sf true (Sf c (Sf (d,e,a) (Jm4 (H1 a).1 b=Jr9 d e a f g b h)))
def J86 (a:Ls) (b:TypeId) (c d:List Ev) (e:List Reg) (f:Int) (g:Li) (h:Bt):=Br true (Z48∧Jg2 a∧Br (Kag a) (Kf4 b c d e f a g h) (Z33∧Br false (Jay∧Jk1 a∧Br (Jul a) (Kf4 b c d e f a g h) Jeo) (Kwi g b c d e f a h))) (Kwi g b c d e f a h)
def J8v (a:Ls) (b:List Reg) (c:TypeId) (d e:List Ev) (f:Int) (g:Li) (h:Bt):=Br true (Z48∧Jg0 a b∧Br (J94 b a) (Kf4 c d e b f a g h) (Z33∧Br false (Jay∧Ds a b∧Br (Juk b a) (Kf4 c d e b f a g h) Jeo) (J9l b g c d e f a h))) (J9l b g c d e f a h)
theorem Jiu:wpFO Tryz.prog W91.g (Xw 2) (fun _=>na ()) (Sx.look ([(75,Tryz.f75)]:List (Nat×Func))) Tryz.f130 Jrq T (E,C,G) ((n,Jw,ns,vs,tx),()):=by
 refine(by kernel_rfl:(Ke (E,C,G)→Jb (Z26 n ns vs tx)=0→Z66 E∧Br (Jg6 n E) (Sf true (Sf T (Sf (E,C,G) (11=Jr9 E C G n ns vs tx)))) (Br false (Br (Z4 C) (Sf true (Sf T (Sf (E,C,G) (12=Jr9 E C G n ns vs tx)))) (Jg5 C∧Sf true (Sf T (Sf (E,C,G) (Jg4 C=Jr9 E C G n ns vs tx))))) (Br (Ye G) (Yd G∧Kx vs∧Br (Jg3 vs G) (Sf true (Sf T (Sf (E,C,G) (22=Jr9 E C G n ns vs tx)))) (Br true (Z48∧Ho ns G∧Br false (Kj8 T E C G n ns vs tx) (Z33∧Br false (Jay∧Dq ns G∧Kw2 T E C G n ns vs tx) (J8v ns G T E C n vs tx))) (J8v ns G T E C n vs tx))) (Kx vs∧Br (Jg7 vs) (Sf true (Sf T (Sf (E,C,G) (22=Jr9 E C G n ns vs tx)))) (Br true (Z48∧Jg1 ns∧Br false (Kj8 T E C G n ns vs tx) (Z33∧Br false (Jay∧Jk0 ns∧Kw2 T E C G n ns vs tx) (J86 ns T E C G n vs tx))) (J86 ns T E C G n vs tx))))))=_).mp ?_
 delta Z0 Z4 Z6 Z26 Z33 Z34 Z48 Z61 Z65 Z66 Z91 Z92 Lu Kx Vb Ye Jnq Jep Jay Jr9 Jeo Jaa Jg7 Jy5 Jy4 Dp Jg6 Jg5 V4 Yd Y4 Jel Jb1 Fo Fn Jau Kaq F9 H1 H0 Du Hn J4m Jz1 Jg4 Kj8 Kf4 Kag Jul Jg3 Jg2 Jg1 Jk1 Jk0 Kw2 Kwi F8 Yq Xd Jeh Jcw J96 J4g Jzx J94 Juk Jg0 Ho Ds Dq J9l J86 J8v Br Iw Bd T2 Tw Sf Ln Gt B0 Lb E2 Jk Jw
 intro hh hc
 have eK:=Yz (h:=(E,C,G)) (n:=n) (k:=Jw) (ns:=ns) (vs:=vs) (tx:=tx) (by kernel_rfl)
 obtain⟨hn,hv,hR,hr0,n1,n2,n3,hG,hV⟩:=Ld hh hc
 simp only[Kp,ckS,List.length_cons,List.length_nil] at eK hn hv
 rw[eK]
 simp only[hG,Jh3,H4,Prod.eta,Jr5,Kn,Kq,Jdv,Jf1,Jf0,Jhf,cond_true,cond_false,Bool.not_true,Bool.not_false,Ja]
 repeat' first|apply And.intro|exact hV|intro _
 all_goals first|trivial|omega|assumption|(rename_i h;have h:=of_decide_eq_true h;omega)|(simp only[*,cond_true,cond_false,Bool.not_true,Bool.not_false];done)|(rw[Ko ‹_›];(first|have e1:decide (vs.getD 0 0<U9.1)=true:=‹_›|have e1:decide (vs.getD 0 0<U9.1)=false:=‹_›);simp only[*,cond_true,cond_false,Bool.not_true,Bool.not_false];first|done|rfl)|(simp only[Bool.not_eq_false',decide_eq_true_eq] at*;assumption)
def Z15 (a:Int) (b:Ls) (c:Li) (d:Bt):=(a,Uf,b,c,d)
def Jt6 (a b:List Ev) (c:List Reg) (d:Int) (e:Ls) (f:Li) (g:Bt):=Dc (a,b,c) (Z15 d e f g)
def Kkb (a:TypeId) (b c:List Ev) (d:List Reg) (e:Int) (f:Ls) (g:Li) (h:Bt):=Sf true (Sf a (Sf (b,c,d) (10=Jt6 b c d e f g h)))
def Kf8 (a:TypeId) (b c:List Ev) (d:List Reg) (e:Int) (f:Ls) (g:Li) (h:Bt):=Sf true (Sf a (Sf (b,c,d) (9=Jt6 b c d e f g h)))
def Kaf (a:Ls):=bif true then !J4m a else false
def Kfp (a:Li) (b:TypeId) (c d:List Ev) (e:List Reg) (f:Int) (g:Ls) (h:Bt):=Z61 a∧Sf true (Sf b (Sf (c,d,e) (Jpd a=Jt6 c d e f g a h)))
def Kw5 (a:TypeId) (b c:List Ev) (d:List Reg) (e:Int) (f:Ls) (g:Li) (h:Bt):=Br false (Kkb a b c d e f g h) Jeo
def J93 (a:List Reg) (b:Ls):=bif true then !J4g a b else false
def J9b (a:Ls) (b:TypeId) (c d:List Ev) (e:List Reg) (f:Int) (g:Li) (h:Bt):=Br true (Z48∧Jg1 a∧Br false (Kf8 b c d e f a g h) (Z33∧Br false (Jay∧Jk1 a∧Br (Jul a) (Kf8 b c d e f a g h) Jeo) (Kfp g b c d e f a h))) (Kfp g b c d e f a h)
def J80 (a:Ls) (b:List Reg) (c:TypeId) (d e:List Ev) (f:Int) (g:Li) (h:Bt):=Br true (Z48∧Ho a b∧Br false (Kf8 c d e b f a g h) (Z33∧Br false (Jay∧Ds a b∧Br (Juk b a) (Kf8 c d e b f a g h) Jeo) (Kfp g c d e b f a h))) (Kfp g c d e b f a h)
theorem Jny:wpFO Tryz.prog W91.g (Xw 2) (fun _=>na ()) (Sx.look ([(75,Tryz.f75)]:List (Nat×Func))) Tryz.f130 Jrq T (E,C,G) ((n,Uf,ns,vs,tx),()):=by
 refine(by kernel_rfl:(Ke (E,C,G)→Jb (Z15 n ns vs tx)=0→Z66 E∧Br (Jg6 n E) (Sf true (Sf T (Sf (E,C,G) (11=Jt6 E C G n ns vs tx)))) (Br false (Br (Z4 C) (Sf true (Sf T (Sf (E,C,G) (12=Jt6 E C G n ns vs tx)))) (Jg5 C∧Sf true (Sf T (Sf (E,C,G) (Jg4 C=Jt6 E C G n ns vs tx))))) (Br (Ye G) (Yd G∧Kx vs∧Br (Jg3 vs G) (Sf true (Sf T (Sf (E,C,G) (22=Jt6 E C G n ns vs tx)))) (Br true (Z48∧Jg0 ns G∧Br (J93 G ns) (Kkb T E C G n ns vs tx) (Z33∧Br false (Jay∧Dq ns G∧Kw5 T E C G n ns vs tx) (J80 ns G T E C n vs tx))) (J80 ns G T E C n vs tx))) (Kx vs∧Br (Jg7 vs) (Sf true (Sf T (Sf (E,C,G) (22=Jt6 E C G n ns vs tx)))) (Br true (Z48∧Jg2 ns∧Br (Kaf ns) (Kkb T E C G n ns vs tx) (Z33∧Br false (Jay∧Jk0 ns∧Kw5 T E C G n ns vs tx) (J9b ns T E C G n vs tx))) (J9b ns T E C G n vs tx))))))=_).mp ?_
 delta Z0 Z4 Z6 Z15 Z33 Z34 Z48 Z61 Z65 Z66 Z91 Z92 Lu Kx Vb Ye Jnq Jep Jay Jt6 Jeo Jaa Jg7 Jy5 Jy4 Dp Jg6 Jg5 V4 Yd Y4 Jel Jb1 Fo Fn Jau F9 H1 H0 Du Hn J4m Jz1 Jg4 Kkb Kf8 Jul Kaf Jg3 Jg2 Jg1 Jk1 Jk0 Kfp Kw5 F8 Yq Xd Jeh Jcw J4g Jzx Juk J93 Jg0 Ho Ds Dq J9b J80 Br Iw Bd T2 Tw Sf Ln Gt B0 Lb E2 Uf Jk
 intro hh hc
 have eK:=Yz (h:=(E,C,G)) (n:=n) (k:=Uf) (ns:=ns) (vs:=vs) (tx:=tx) (by kernel_rfl)
 obtain⟨hn,hv,hR,hr0,n1,n2,n3,hG,hV⟩:=Ld hh hc
 simp only[U6,ckS,List.length_cons,List.length_nil] at eK hn hv
 rw[eK]
 simp only[hG,Jh3,H4,Prod.eta,Jr5,Kn,Kq,Jdv,Jf1,Jf0,Jhf,cond_true,cond_false,Bool.not_true,Bool.not_false,Ja]
 repeat' first|apply And.intro|exact hV|intro _
 all_goals first|trivial|omega|assumption|(rename_i h;have h:=of_decide_eq_true h;omega)|(simp only[*,cond_true,cond_false,Bool.not_true,Bool.not_false];done)|(rw[Ko ‹_›];(first|have e1:decide (vs.getD 0 0<U9.1)=true:=‹_›|have e1:decide (vs.getD 0 0<U9.1)=false:=‹_›);simp only[*,cond_true,cond_false,Bool.not_true,Bool.not_false];first|done|rfl)|(simp only[Bool.not_eq_false',decide_eq_true_eq] at*;assumption)
def Z13 (a:Int) (b:Ls) (c:Li) (d:Bt):=(a,Ki,b,c,d)
def Z60:=Tw (Bd 0 3)
def Khw:=Tw (Bd ((0:Int)+1) 3)
def Jse (a b:List Ev) (c:List Reg) (d:Int) (e:Ls) (f:Li) (g:Bt):=Dc (a,b,c) (Z13 d e f g)
def J4v:=Jnq+1
def Jz4:=Iw J4v
def Khr:=Tw (Bd Jnq 3)
def Khm (a:Ls):=0≤Jn [] (Jkx a)
def Khl:=Tw (Bd J4v 3)
def K2z (a:Ls):=Bd J4v (Ln a)
def Km7:=Iw (J4v+1)∧False
def Khh (a:Ls):=true=true→Bd Jnq (Ln a)
def Khg (a:Ls):=false=true→Bd Jnq (Ln a)
def K2g (a:Ls):=true=true→K2z a
def K2f (a:Ls):=false=true→K2z a
def Kan (a:Ls):=Vq V4 1 (Vb a)
def Kgn (a:Ls):=Vq V4 0 (Z98 a)
def J4l (a:TypeId) (b c:List Ev) (d:List Reg) (e:Int) (f:Ls) (g:Li) (h:Bt):=Sf true (Sf a (Sf (b,c,d) (10=Jse b c d e f g h)))
def J2u (a:TypeId) (b c:List Ev) (d:List Reg) (e:Int) (f:Ls) (g:Li) (h:Bt):=Sf true (Sf a (Sf (b,c,d) (9=Jse b c d e f g h)))
def Kj1 (a:Ls):=bif true then !Jz1 a else false
def Kfy (a:List Reg) (b:Ls):=0≤Jn (H1 a).1 (Jkx b)
def Kad (a:Ls):=T2 (Khh a) Jel
def Kac (a:Ls):=T2 (Khg a) Jb1
def Kws (a:TypeId) (b c:List Ev) (d:List Reg) (e:Int) (f:Ls) (g:Li) (h:Bt):=Br false (J4l a b c d e f g h) Km7
def Kfa (a:Int) (b:Ls) (c:Li) (d:Bt) (e:TypeId) (f g:List Ev) (h:List Reg):=(Y4∧EvV (Z13 a b c d)∧Jur b∧Z50 c∧Khm b∧0≤Jn [] (J8s b))∧Sf true (Sf e (Sf (f,g,h) (Jbs [] [] [] (Z13 a b c d)=Jse f g h a b c d)))
def J95 (a:List Reg) (b:Ls):=Vq (Yq a) 1 (Vb b)
def Keu (a:List Reg) (b:Ls):=Vq (Yq a) 0 (Z98 b)
def Kio (a:List Reg) (b:Ls):=bif true then !Jzx a b else false
def Jub (a:Ls) (b:List Reg):=T2 (Khh a) (Jeh b)
def Jua (a:Ls) (b:List Reg):=T2 (Khg a) (Jcw b)
def Jzb (a:List Reg) (b:Int) (c:Ls) (d:Li) (e:Bt) (f:TypeId) (g h:List Ev):=(Xd a∧EvV (Z13 b c d e)∧Jur c∧Z50 d∧Kfy a c∧0≤Jn (H1 a).1 (J8s c))∧Sf true (Sf f (Sf (g,h,a) (Jbs (H1 a).1 (H0 a).1 (Hn a).1 (Z13 b c d e)=Jse g h a b c d e)))
def Jza (a:Ls) (b:TypeId) (c d:List Ev) (e:List Reg) (f:Int) (g:Li) (h:Bt):=Br true (Z60∧Jg2 a∧Br (bif true then Kan a else false) (J2u b c d e f a g h) (Z33∧Br true (Khw∧Jk0 a∧Br false (J2u b c d e f a g h) (Jep∧Br true (Khr∧Kac a∧Br false (J2u b c d e f a g h) (Jz4∧Br false (Khl∧T2 (K2g a) Jel∧Br (bif true then Vq V4 0 (List.getD a 3 B0) else false) (J2u b c d e f a g h) Km7) (Kfa f a g h b c d e))) (Kfa f a g h b c d e))) (Kfa f a g h b c d e))) (Kfa f a g h b c d e)
def Jy8 (a:Ls) (b:List Reg) (c:TypeId) (d e:List Ev) (f:Int) (g:Li) (h:Bt):=Br true (Z60∧Jg0 a b∧Br (bif true then J95 b a else false) (J2u c d e b f a g h) (Z33∧Br true (Khw∧Dq a b∧Br false (J2u c d e b f a g h) (Jep∧Br true (Khr∧Jua a b∧Br false (J2u c d e b f a g h) (Jz4∧Br false (Khl∧T2 (K2g a) (Jeh b)∧Br (bif true then Vq (Yq b) 0 (List.getD a 3 B0) else false) (J2u c d e b f a g h) Km7) (Jzb b f a g h c d e))) (Jzb b f a g h c d e))) (Jzb b f a g h c d e))) (Jzb b f a g h c d e)
theorem Jnz:wpFO Tryz.prog W91.g (Xw 4) (fun _=>na ()) (Sx.look ([(75,Tryz.f75)]:List (Nat×Func))) Tryz.f130 Jrq T (E,C,G) ((n,Ki,ns,vs,tx),()):=by
 refine(by kernel_rfl:(Ke (E,C,G)→Jb (Z13 n ns vs tx)=0→Z66 E∧Br (Jg6 n E) (Sf true (Sf T (Sf (E,C,G) (11=Jse E C G n ns vs tx)))) (Br false (Br (Z4 C) (Sf true (Sf T (Sf (E,C,G) (12=Jse E C G n ns vs tx)))) (Jg5 C∧Sf true (Sf T (Sf (E,C,G) (Jg4 C=Jse E C G n ns vs tx))))) (Br (Ye G) (Yd G∧Kx vs∧Br (Jg3 vs G) (Sf true (Sf T (Sf (E,C,G) (22=Jse E C G n ns vs tx)))) (Br true (Z60∧Ho ns G∧Br false (J4l T E C G n ns vs tx) (Z33∧Br true (Khw∧Ds ns G∧Br (Kio G ns) (J4l T E C G n ns vs tx) (Jep∧Br true (Khr∧Jub ns G∧Br (bif true then !Keu G ns else false) (J4l T E C G n ns vs tx) (Jz4∧Br false (Khl∧T2 (K2f ns) (Jcw G)∧Kws T E C G n ns vs tx) (Jy8 ns G T E C n vs tx))) (Jy8 ns G T E C n vs tx))) (Jy8 ns G T E C n vs tx))) (Jy8 ns G T E C n vs tx))) (Kx vs∧Br (Jg7 vs) (Sf true (Sf T (Sf (E,C,G) (22=Jse E C G n ns vs tx)))) (Br true (Z60∧Jg1 ns∧Br false (J4l T E C G n ns vs tx) (Z33∧Br true (Khw∧Jk1 ns∧Br (Kj1 ns) (J4l T E C G n ns vs tx) (Jep∧Br true (Khr∧Kad ns∧Br (bif true then !Kgn ns else false) (J4l T E C G n ns vs tx) (Jz4∧Br false (Khl∧T2 (K2f ns) Jb1∧Kws T E C G n ns vs tx) (Jza ns T E C G n vs tx))) (Jza ns T E C G n vs tx))) (Jza ns T E C G n vs tx))) (Jza ns T E C G n vs tx))))))=_).mp ?_
 delta Z0 Z4 Z6 Z13 Z33 Z34 Z50 Z60 Z65 Z66 Z91 Z92 Z98 Lu Kx Vb Ye Jnq Jur Jkx J8s Jep Khw Jse J4v Jaa Jz4 Jg7 Khr Jy5 Khm Khl Jy4 K2z Dp Km7 Khh Jg6 Khg Jg5 V4 Yd Y4 K2g K2f Jel Jb1 Fo Fn Jau F9 H1 H0 Du Hn Kan Kgn Jz1 Jg4 J4l J2u Kj1 Jg3 Jg2 Jg1 Kfy Jk1 Jk0 Kad Kac Kws Kfa F8 Yq Xd Jeh Jcw J95 Jzx Keu Kio Jg0 Ho Ds Dq Jub Jua Jzb Jza Jy8 Br Iw Bd T2 Tw Sf Ln Gt B0 Lb E2 Ki Jk
 intro hh hc
 have eK:=Yz (h:=(E,C,G)) (n:=n) (k:=Ki) (ns:=ns) (vs:=vs) (tx:=tx) (by kernel_rfl)
 obtain⟨hn,hv,hR,hr0,n1,n2,n3,hG,hV⟩:=Ld hh hc
 simp only[Uh,ckS,List.length_cons,List.length_nil] at eK hn hv
 rw[eK]
 simp only[hG,Jh3,H4,Prod.eta,Jr5,Kn,Kq,Jdv,Jf1,Jf0,Jhf,cond_true,cond_false,Bool.not_true,Bool.not_false,Ja]
 repeat' first|apply And.intro|exact hV|intro _
 all_goals first|trivial|omega|assumption|(rename_i h;have h:=of_decide_eq_true h;omega)|(simp only[*,cond_true,cond_false,Bool.not_true,Bool.not_false];done)|(rw[Ko ‹_›];(first|have e1:decide (vs.getD 0 0<U9.1)=true:=‹_›|have e1:decide (vs.getD 0 0<U9.1)=false:=‹_›);simp only[*,cond_true,cond_false,Bool.not_true,Bool.not_false];first|done|rfl)|(simp only[Bool.not_eq_false',decide_eq_true_eq] at*;assumption)
def Z10 (a:Int) (b:Ls) (c:Li) (d:Bt):=(a,K9,b,c,d)
def Jsf (a b:List Ev) (c:List Reg) (d:Int) (e:Ls) (f:Li) (g:Bt):=Dc (a,b,c) (Z10 d e f g)
def Khn (a:Ls):=0≤Kd [] (Di a)
def Kka (a:TypeId) (b c:List Ev) (d:List Reg) (e:Int) (f:Ls) (g:Li) (h:Bt):=Sf true (Sf a (Sf (b,c,d) (10=Jsf b c d e f g h)))
def Kf7 (a:TypeId) (b c:List Ev) (d:List Reg) (e:Int) (f:Ls) (g:Li) (h:Bt):=Sf true (Sf a (Sf (b,c,d) (9=Jsf b c d e f g h)))
def Kae (a:Ls):=bif true then !Kan a else false
def Kfv (a:List Reg) (b:Ls):=0≤Kd (H0 a).1 (Di b)
def Kw7 (a:TypeId) (b c:List Ev) (d:List Reg) (e:Int) (f:Ls) (g:Li) (h:Bt):=Br false (Kka a b c d e f g h) Jeo
def Kvl (a:Ls) (b:Li) (c:TypeId) (d e:List Ev) (f:List Reg) (g:Int) (h:Bt):=(Y4∧Xe a∧Z51 b∧Khn a)∧Sf true (Sf c (Sf (d,e,f) (Jko [] [] a b=Jsf d e f g a b h)))
def J92 (a:List Reg) (b:Ls):=bif true then !J95 a b else false
def J89 (a:List Reg) (b:Ls) (c:Li) (d:TypeId) (e f:List Ev) (g:Int) (h:Bt):=(Xd a∧Xe b∧Z51 c∧Kfv a b)∧Sf true (Sf d (Sf (e,f,a) (Jko (H0 a).1 (Du a).1 b c=Jsf e f a g b c h)))
def J84 (a:Ls) (b:TypeId) (c d:List Ev) (e:List Reg) (f:Int) (g:Li) (h:Bt):=Br true (Z48∧Jg1 a∧Br false (Kf7 b c d e f a g h) (Z33∧Br false (Jay∧Jk1 a∧Br (Jul a) (Kf7 b c d e f a g h) Jeo) (Kvl a g b c d e f h))) (Kvl a g b c d e f h)
def J8x (a:Ls) (b:List Reg) (c:TypeId) (d e:List Ev) (f:Int) (g:Li) (h:Bt):=Br true (Z48∧Ho a b∧Br false (Kf7 c d e b f a g h) (Z33∧Br false (Jay∧Ds a b∧Br (Juk b a) (Kf7 c d e b f a g h) Jeo) (J89 b a g c d e f h))) (J89 b a g c d e f h)
theorem Jn0:wpFO Tryz.prog W91.g (Xw 2) (fun _=>na ()) (Sx.look ([(75,Tryz.f75)]:List (Nat×Func))) Tryz.f130 Jrq T (E,C,G) ((n,K9,ns,vs,tx),()):=by
 refine(by kernel_rfl:(Ke (E,C,G)→Jb (Z10 n ns vs tx)=0→Z66 E∧Br (Jg6 n E) (Sf true (Sf T (Sf (E,C,G) (11=Jsf E C G n ns vs tx)))) (Br false (Br (Z4 C) (Sf true (Sf T (Sf (E,C,G) (12=Jsf E C G n ns vs tx)))) (Jg5 C∧Sf true (Sf T (Sf (E,C,G) (Jg4 C=Jsf E C G n ns vs tx))))) (Br (Ye G) (Yd G∧Kx vs∧Br (Jg3 vs G) (Sf true (Sf T (Sf (E,C,G) (22=Jsf E C G n ns vs tx)))) (Br true (Z48∧Jg0 ns G∧Br (J92 G ns) (Kka T E C G n ns vs tx) (Z33∧Br false (Jay∧Dq ns G∧Kw7 T E C G n ns vs tx) (J8x ns G T E C n vs tx))) (J8x ns G T E C n vs tx))) (Kx vs∧Br (Jg7 vs) (Sf true (Sf T (Sf (E,C,G) (22=Jsf E C G n ns vs tx)))) (Br true (Z48∧Jg2 ns∧Br (Kae ns) (Kka T E C G n ns vs tx) (Z33∧Br false (Jay∧Jk0 ns∧Kw7 T E C G n ns vs tx) (J84 ns T E C G n vs tx))) (J84 ns T E C G n vs tx))))))=_).mp ?_
 delta Z0 Z4 Z6 Z10 Z33 Z34 Z48 Z51 Z65 Z66 Z91 Z92 Lu Kx Vb Ye Xe Jnq Di Jep Jay Jsf Jeo Jaa Jg7 Khn Jy5 Jy4 Dp Jg6 Jg5 V4 Yd Y4 Jel Jb1 Fo Fn Jau F9 H1 H0 Du Hn Kan Jz1 Jg4 Kka Kf7 Jul Kae Jg3 Jg2 Jg1 Kfv Jk1 Jk0 Kw7 Kvl F8 Yq Xd Jeh Jcw J95 Jzx Juk J92 Jg0 Ho Ds Dq J89 J84 J8x Br Iw Bd T2 Tw Sf Ln Gt B0 Lb E2 K9 Jk
 intro hh hc
 have eK:=Yz (h:=(E,C,G)) (n:=n) (k:=K9) (ns:=ns) (vs:=vs) (tx:=tx) (by kernel_rfl)
 obtain⟨hn,hv,hR,hr0,n1,n2,n3,hG,hV⟩:=Ld hh hc
 simp only[Ui,ckS,List.length_cons,List.length_nil] at eK hn hv
 rw[eK]
 simp only[hG,Jh3,H4,Prod.eta,Jr5,Kn,Kq,Jdv,Jf1,Jf0,Jhf,cond_true,cond_false,Bool.not_true,Bool.not_false,Ja]
 repeat' first|apply And.intro|exact hV|intro _
 all_goals first|trivial|omega|assumption|(rename_i h;have h:=of_decide_eq_true h;omega)|(simp only[*,cond_true,cond_false,Bool.not_true,Bool.not_false];done)|(rw[Ko ‹_›];(first|have e1:decide (vs.getD 0 0<U9.1)=true:=‹_›|have e1:decide (vs.getD 0 0<U9.1)=false:=‹_›);simp only[*,cond_true,cond_false,Bool.not_true,Bool.not_false];first|done|rfl)|(simp only[Bool.not_eq_false',decide_eq_true_eq] at*;assumption)
def Z5 (a:Int) (b:Ls) (c:Li) (d:Bt):=(a,V2,b,c,d)
def Jsh (a b:List Ev) (c:List Reg) (d:Int) (e:Ls) (f:Li) (g:Bt):=Dc (a,b,c) (Z5 d e f g)
def Kf9 (a:TypeId) (b c:List Ev) (d:List Reg) (e:Int) (f:Ls) (g:Li) (h:Bt):=Sf true (Sf a (Sf (b,c,d) (9=Jsh b c d e f g h)))
def Kkc (a:TypeId) (b c:List Ev) (d:List Reg) (e:Int) (f:Ls) (g:Li) (h:Bt):=Sf true (Sf a (Sf (b,c,d) (10=Jsh b c d e f g h)))
def Kw8 (a:TypeId) (b c:List Ev) (d:List Reg) (e:Int) (f:Ls) (g:Li) (h:Bt):=Br false (Kkc a b c d e f g h) Jeo
def Kjf (a:Ls) (b:Li):=Y4∧Xe a∧Z56 b∧Khn a
def Kvm (a:Ls) (b:Li) (c:TypeId) (d e:List Ev) (f:List Reg) (g:Int) (h:Bt):=Kjf a b∧Sf true (Sf c (Sf (d,e,f) (Jdh [] a b=Jsh d e f g a b h)))
def J3e (a:List Reg) (b:Ls) (c:Li):=Xd a∧Xe b∧Z56 c∧Kfv a b
def J9c (a:List Reg) (b:Ls) (c:Li) (d:TypeId) (e f:List Ev) (g:Int) (h:Bt):=J3e a b c∧Sf true (Sf d (Sf (e,f,a) (Jdh (H0 a).1 b c=Jsh e f a g b c h)))
def J85 (a:Ls) (b:TypeId) (c d:List Ev) (e:List Reg) (f:Int) (g:Li) (h:Bt):=Br true (Z48∧Jg1 a∧Br false (Kf9 b c d e f a g h) (Z33∧Br false (Jay∧Jk1 a∧Br (Jul a) (Kf9 b c d e f a g h) Jeo) (Kvm a g b c d e f h))) (Kvm a g b c d e f h)
def J8y (a:Ls) (b:List Reg) (c:TypeId) (d e:List Ev) (f:Int) (g:Li) (h:Bt):=Br true (Z48∧Ho a b∧Br false (Kf9 c d e b f a g h) (Z33∧Br false (Jay∧Ds a b∧Br (Juk b a) (Kf9 c d e b f a g h) Jeo) (J9c b a g c d e f h))) (J9c b a g c d e f h)
theorem Jss:wpFO Tryz.prog W91.g (Xw 2) (fun _=>na ()) (Sx.look ([(75,Tryz.f75)]:List (Nat×Func))) Tryz.f130 Jrq T (E,C,G) ((n,V2,ns,vs,tx),()):=by
 refine(by kernel_rfl:(Ke (E,C,G)→Jb (Z5 n ns vs tx)=0→Z66 E∧Br (Jg6 n E) (Sf true (Sf T (Sf (E,C,G) (11=Jsh E C G n ns vs tx)))) (Br false (Br (Z4 C) (Sf true (Sf T (Sf (E,C,G) (12=Jsh E C G n ns vs tx)))) (Jg5 C∧Sf true (Sf T (Sf (E,C,G) (Jg4 C=Jsh E C G n ns vs tx))))) (Br (Ye G) (Yd G∧Kx vs∧Br (Jg3 vs G) (Sf true (Sf T (Sf (E,C,G) (22=Jsh E C G n ns vs tx)))) (Br true (Z48∧Jg0 ns G∧Br (J92 G ns) (Kkc T E C G n ns vs tx) (Z33∧Br false (Jay∧Dq ns G∧Kw8 T E C G n ns vs tx) (J8y ns G T E C n vs tx))) (J8y ns G T E C n vs tx))) (Kx vs∧Br (Jg7 vs) (Sf true (Sf T (Sf (E,C,G) (22=Jsh E C G n ns vs tx)))) (Br true (Z48∧Jg2 ns∧Br (Kae ns) (Kkc T E C G n ns vs tx) (Z33∧Br false (Jay∧Jk0 ns∧Kw8 T E C G n ns vs tx) (J85 ns T E C G n vs tx))) (J85 ns T E C G n vs tx))))))=_).mp ?_
 delta Z0 Z4 Z5 Z6 Z33 Z34 Z48 Z56 Z65 Z66 Z91 Z92 Lu Kx Vb Ye Xe Jnq Di Jep Jay Jsh Jeo Jaa Jg7 Khn Jy5 Jy4 Dp Jg6 Jg5 V4 Yd Y4 Jel Jb1 Fo Fn Jau F9 H1 H0 Du Hn Kan Jz1 Jg4 Kf9 Kkc Jul Kae Jg3 Jg2 Jg1 Kfv Jk1 Jk0 Kw8 Kjf Kvm F8 Yq Xd Jeh Jcw J95 Jzx Juk J92 Jg0 Ho Ds Dq J3e J9c J85 J8y Br Iw Bd T2 Tw Sf Ln Gt B0 Lb E2 Jk V2
 intro hh hc
 have eK:=Yz (h:=(E,C,G)) (n:=n) (k:=V2) (ns:=ns) (vs:=vs) (tx:=tx) (by kernel_rfl)
 obtain⟨hn,hv,hR,hr0,n1,n2,n3,hG,hV⟩:=Ld hh hc
 simp only[Vl,ckS,List.length_cons,List.length_nil] at eK hn hv
 rw[eK]
 simp only[hG,Jh3,H4,Prod.eta,Jr5,Kn,Kq,Jdv,Jf1,Jf0,Jhf,cond_true,cond_false,Bool.not_true,Bool.not_false,Ja]
 repeat' first|apply And.intro|exact hV|intro _
 all_goals first|trivial|omega|assumption|(rename_i h;have h:=of_decide_eq_true h;omega)|(simp only[*,cond_true,cond_false,Bool.not_true,Bool.not_false];done)|(rw[Ko ‹_›];(first|have e1:decide (vs.getD 0 0<U9.1)=true:=‹_›|have e1:decide (vs.getD 0 0<U9.1)=false:=‹_›);simp only[*,cond_true,cond_false,Bool.not_true,Bool.not_false];first|done|rfl)|(simp only[Bool.not_eq_false',decide_eq_true_eq] at*;assumption)
def Z21 (a:Int) (b:Ls) (c:Li) (d:Bt):=(a,Js,b,c,d)
def Z57:=Tw (Bd 0 2)
def Jz9:=Tw (Bd ((0:Int)+1) 2)
def Jsd (a b:List Ev) (c:List Reg) (d:Int) (e:Ls) (f:Li) (g:Bt):=Dc (a,b,c) (Z21 d e f g)
def Jz3:=Tw (Bd Jnq 2)
def J4p:=Jz4∧False
def Kl0 (a:Li) (b:Ls):=Z50 a∧Khm b
def Kkw (a:Ls):=Vq V4 2 (Vb a)
def Kah (a:TypeId) (b c:List Ev) (d:List Reg) (e:Int) (f:Ls) (g:Li) (h:Bt):=Sf true (Sf a (Sf (b,c,d) (10=Jsd b c d e f g h)))
def J72 (a:TypeId) (b c:List Ev) (d:List Reg) (e:Int) (f:Ls) (g:Li) (h:Bt):=Sf true (Sf a (Sf (b,c,d) (9=Jsd b c d e f g h)))
def Kj5 (a:Ls):=bif true then Kgn a else false
def Kjl (a:Li) (b:List Reg) (c:Ls):=Z50 a∧Kfy b c
def Kwx (a:TypeId) (b c:List Ev) (d:List Reg) (e:Int) (f:Ls) (g:Li) (h:Bt):=Br false (Kah a b c d e f g h) J4p
def Kiw (a:Int) (b:Ls) (c:Li) (d:Bt) (e:TypeId) (f g:List Ev) (h:List Reg):=(Y4∧EvV (Z21 a b c d)∧Jsi b∧Kl0 c b)∧Sf true (Sf e (Sf (f,g,h) (Jbq [] [] [] (Z21 a b c d)=Jsd f g h a b c d)))
def Kis (a:List Reg) (b:Ls):=Vq (Yq a) 2 (Vb b)
def Kiq (a:List Reg) (b:Ls):=bif true then Keu a b else false
def J28 (a:List Reg) (b:Int) (c:Ls) (d:Li) (e:Bt) (f:TypeId) (g h:List Ev):=(Xd a∧EvV (Z21 b c d e)∧Jsi c∧Kjl d a c)∧Sf true (Sf f (Sf (g,h,a) (Jbq (H1 a).1 (H0 a).1 (Hn a).1 (Z21 b c d e)=Jsd g h a b c d e)))
def J26 (a:Ls) (b:TypeId) (c d:List Ev) (e:List Reg) (f:Int) (g:Li) (h:Bt):=Br true (Z57∧Jg2 a∧Br (bif true then Kkw a else false) (J72 b c d e f a g h) (Z33∧Br true (Jz9∧Jk0 a∧Br false (J72 b c d e f a g h) (Jep∧Br false (Jz3∧Kad a∧Br (Kj5 a) (J72 b c d e f a g h) J4p) (Kiw f a g h b c d e))) (Kiw f a g h b c d e))) (Kiw f a g h b c d e)
def J24 (a:Ls) (b:List Reg) (c:TypeId) (d e:List Ev) (f:Int) (g:Li) (h:Bt):=Br true (Z57∧Jg0 a b∧Br (bif true then Kis b a else false) (J72 c d e b f a g h) (Z33∧Br true (Jz9∧Dq a b∧Br false (J72 c d e b f a g h) (Jep∧Br false (Jz3∧Jub a b∧Br (Kiq b a) (J72 c d e b f a g h) J4p) (J28 b f a g h c d e))) (J28 b f a g h c d e))) (J28 b f a g h c d e)
theorem Jlc:wpFO Tryz.prog W91.g (Xw 3) (fun _=>na ()) (Sx.look ([(75,Tryz.f75)]:List (Nat×Func))) Tryz.f130 Jrq T (E,C,G) ((n,Js,ns,vs,tx),()):=by
 refine(by kernel_rfl:(Ke (E,C,G)→Jb (Z21 n ns vs tx)=0→Z66 E∧Br (Jg6 n E) (Sf true (Sf T (Sf (E,C,G) (11=Jsd E C G n ns vs tx)))) (Br false (Br (Z4 C) (Sf true (Sf T (Sf (E,C,G) (12=Jsd E C G n ns vs tx)))) (Jg5 C∧Sf true (Sf T (Sf (E,C,G) (Jg4 C=Jsd E C G n ns vs tx))))) (Br (Ye G) (Yd G∧Kx vs∧Br (Jg3 vs G) (Sf true (Sf T (Sf (E,C,G) (22=Jsd E C G n ns vs tx)))) (Br true (Z57∧Ho ns G∧Br false (Kah T E C G n ns vs tx) (Z33∧Br true (Jz9∧Ds ns G∧Br (Kio G ns) (Kah T E C G n ns vs tx) (Jep∧Br false (Jz3∧Jua ns G∧Kwx T E C G n ns vs tx) (J24 ns G T E C n vs tx))) (J24 ns G T E C n vs tx))) (J24 ns G T E C n vs tx))) (Kx vs∧Br (Jg7 vs) (Sf true (Sf T (Sf (E,C,G) (22=Jsd E C G n ns vs tx)))) (Br true (Z57∧Jg1 ns∧Br false (Kah T E C G n ns vs tx) (Z33∧Br true (Jz9∧Jk1 ns∧Br (Kj1 ns) (Kah T E C G n ns vs tx) (Jep∧Br false (Jz3∧Kac ns∧Kwx T E C G n ns vs tx) (J26 ns T E C G n vs tx))) (J26 ns T E C G n vs tx))) (J26 ns T E C G n vs tx))))))=_).mp ?_
 delta Z0 Z4 Z6 Z21 Z33 Z34 Z50 Z57 Z65 Z66 Z91 Z92 Z98 Lu Kx Vb Ye Jsi Jnq Jkx Jep Jz9 Jsd J4v Jaa Jz4 Jg7 Jz3 J4p Jy5 Khm Jy4 Dp Khh Jg6 Khg Jg5 V4 Yd Y4 Kl0 Jel Jb1 Fo Fn Jau F9 H1 H0 Du Hn Kgn Kkw Jz1 Jg4 Kah J72 Kj5 Kj1 Jg3 Jg2 Jg1 Kfy Jk1 Jk0 Kad Kac Kjl Kwx Kiw F8 Yq Xd Jeh Jcw Jzx Kis Keu Kiq Kio Jg0 Ho Ds Dq Jub Jua J28 J26 J24 Br Iw Bd T2 Tw Sf Ln Gt B0 Lb E2 Js Jk
 intro hh hc
 have eK:=Yz (h:=(E,C,G)) (n:=n) (k:=Js) (ns:=ns) (vs:=vs) (tx:=tx) (by kernel_rfl)
 obtain⟨hn,hv,hR,hr0,n1,n2,n3,hG,hV⟩:=Ld hh hc
 simp only[Kr,ckS,List.length_cons,List.length_nil] at eK hn hv
 rw[eK]
 simp only[hG,Jh3,H4,Prod.eta,Jr5,Kn,Kq,Jdv,Jf1,Jf0,Jhf,cond_true,cond_false,Bool.not_true,Bool.not_false,Ja]
 repeat' first|apply And.intro|exact hV|intro _
 all_goals first|trivial|omega|assumption|(rename_i h;have h:=of_decide_eq_true h;omega)|(simp only[*,cond_true,cond_false,Bool.not_true,Bool.not_false];done)|(rw[Ko ‹_›];(first|have e1:decide (vs.getD 0 0<U9.1)=true:=‹_›|have e1:decide (vs.getD 0 0<U9.1)=false:=‹_›);simp only[*,cond_true,cond_false,Bool.not_true,Bool.not_false];first|done|rfl)|(simp only[Bool.not_eq_false',decide_eq_true_eq] at*;assumption)
def Z32 (a:Int) (b:Ls) (c:Li) (d:Bt):=(a,Jt,b,c,d)
def Jsa (a b:List Ev) (c:List Reg) (d:Int) (e:Ls) (f:Li) (g:Bt):=Dc (a,b,c) (Z32 d e f g)
def Kf5 (a:TypeId) (b c:List Ev) (d:List Reg) (e:Int) (f:Ls) (g:Li) (h:Bt):=Sf true (Sf a (Sf (b,c,d) (9=Jsa b c d e f g h)))
def Kj7 (a:TypeId) (b c:List Ev) (d:List Reg) (e:Int) (f:Ls) (g:Li) (h:Bt):=Sf true (Sf a (Sf (b,c,d) (10=Jsa b c d e f g h)))
def Kw0 (a:TypeId) (b c:List Ev) (d:List Reg) (e:Int) (f:Ls) (g:Li) (h:Bt):=Br false (Kj7 a b c d e f g h) Jeo
def Kje (a:Ls) (b:Li):=Y4∧Xe a∧Z56 b∧0≤J6 [] (Di a)
def Kvk (a:Ls) (b:Li) (c:TypeId) (d e:List Ev) (f:List Reg) (g:Int) (h:Bt):=Kje a b∧Sf true (Sf c (Sf (d,e,f) (Jdi [] [] a b=Jsa d e f g a b h)))
def J3d (a:List Reg) (b:Ls) (c:Li):=Xd a∧Xe b∧Z56 c∧0≤J6 (Hn a).1 (Di b)
def J88 (a:List Reg) (b:Ls) (c:Li) (d:TypeId) (e f:List Ev) (g:Int) (h:Bt):=J3d a b c∧Sf true (Sf d (Sf (e,f,a) (Jdi (Hn a).1 (Hn a).2 b c=Jsa e f a g b c h)))
def J83 (a:Ls) (b:TypeId) (c d:List Ev) (e:List Reg) (f:Int) (g:Li) (h:Bt):=Br true (Z48∧Jg1 a∧Br false (Kf5 b c d e f a g h) (Z33∧Br false (Jay∧Jk1 a∧Br (Jul a) (Kf5 b c d e f a g h) Jeo) (Kvk a g b c d e f h))) (Kvk a g b c d e f h)
def J8w (a:Ls) (b:List Reg) (c:TypeId) (d e:List Ev) (f:Int) (g:Li) (h:Bt):=Br true (Z48∧Ho a b∧Br false (Kf5 c d e b f a g h) (Z33∧Br false (Jay∧Ds a b∧Br (Juk b a) (Kf5 c d e b f a g h) Jeo) (J88 b a g c d e f h))) (J88 b a g c d e f h)
theorem Jiv:wpFO Tryz.prog W91.g (Xw 2) (fun _=>na ()) (Sx.look ([(75,Tryz.f75)]:List (Nat×Func))) Tryz.f130 Jrq T (E,C,G) ((n,Jt,ns,vs,tx),()):=by
 refine(by kernel_rfl:(Ke (E,C,G)→Jb (Z32 n ns vs tx)=0→Z66 E∧Br (Jg6 n E) (Sf true (Sf T (Sf (E,C,G) (11=Jsa E C G n ns vs tx)))) (Br false (Br (Z4 C) (Sf true (Sf T (Sf (E,C,G) (12=Jsa E C G n ns vs tx)))) (Jg5 C∧Sf true (Sf T (Sf (E,C,G) (Jg4 C=Jsa E C G n ns vs tx))))) (Br (Ye G) (Yd G∧Kx vs∧Br (Jg3 vs G) (Sf true (Sf T (Sf (E,C,G) (22=Jsa E C G n ns vs tx)))) (Br true (Z48∧Jg0 ns G∧Br (bif true then !Kis G ns else false) (Kj7 T E C G n ns vs tx) (Z33∧Br false (Jay∧Dq ns G∧Kw0 T E C G n ns vs tx) (J8w ns G T E C n vs tx))) (J8w ns G T E C n vs tx))) (Kx vs∧Br (Jg7 vs) (Sf true (Sf T (Sf (E,C,G) (22=Jsa E C G n ns vs tx)))) (Br true (Z48∧Jg2 ns∧Br (bif true then !Kkw ns else false) (Kj7 T E C G n ns vs tx) (Z33∧Br false (Jay∧Jk0 ns∧Kw0 T E C G n ns vs tx) (J83 ns T E C G n vs tx))) (J83 ns T E C G n vs tx))))))=_).mp ?_
 delta Z0 Z4 Z6 Z32 Z33 Z34 Z48 Z56 Z65 Z66 Z91 Z92 Lu Kx Vb Ye Xe Jnq Di Jep Jay Jsa Jeo Jaa Jg7 Jy5 Jy4 Dp Jg6 Jg5 V4 Yd Y4 Jel Jb1 Fo Fn Jau F9 H1 H0 Du Hn Kkw Jz1 Jg4 Kf5 Kj7 Jul Jg3 Jg2 Jg1 Jk1 Jk0 Kw0 Kje Kvk F8 Yq Xd Jeh Jcw Jzx Kis Juk Jg0 Ho Ds Dq J3d J88 J83 J8w Br Iw Bd T2 Tw Sf Ln Gt B0 Lb E2 Jt Jk
 intro hh hc
 have eK:=Yz (h:=(E,C,G)) (n:=n) (k:=Jt) (ns:=ns) (vs:=vs) (tx:=tx) (by kernel_rfl)
 obtain⟨hn,hv,hR,hr0,n1,n2,n3,hG,hV⟩:=Ld hh hc
 simp only[J5,ckS,List.length_cons,List.length_nil] at eK hn hv
 rw[eK]
 simp only[hG,Jh3,H4,Prod.eta,Jr5,Kn,Kq,Jdv,Jf1,Jf0,Jhf,cond_true,cond_false,Bool.not_true,Bool.not_false,Ja]
 repeat' first|apply And.intro|exact hV|intro _
 all_goals first|trivial|omega|assumption|(rename_i h;have h:=of_decide_eq_true h;omega)|(simp only[*,cond_true,cond_false,Bool.not_true,Bool.not_false];done)|(rw[Ko ‹_›];(first|have e1:decide (vs.getD 0 0<U9.1)=true:=‹_›|have e1:decide (vs.getD 0 0<U9.1)=false:=‹_›);simp only[*,cond_true,cond_false,Bool.not_true,Bool.not_false];first|done|rfl)|(simp only[Bool.not_eq_false',decide_eq_true_eq] at*;assumption)
def Z22 (a:Int) (b:Ls) (c:Li) (d:Bt):=(a,Kg,b,c,d)
def Jsc (a b:List Ev) (c:List Reg) (d:Int) (e:Ls) (f:Li) (g:Bt):=Dc (a,b,c) (Z22 d e f g)
def Kkx (a:Ls):=Vq V4 3 (Vb a)
def Kai (a:TypeId) (b c:List Ev) (d:List Reg) (e:Int) (f:Ls) (g:Li) (h:Bt):=Sf true (Sf a (Sf (b,c,d) (10=Jsc b c d e f g h)))
def J71 (a:TypeId) (b c:List Ev) (d:List Reg) (e:Int) (f:Ls) (g:Li) (h:Bt):=Sf true (Sf a (Sf (b,c,d) (9=Jsc b c d e f g h)))
def Kww (a:TypeId) (b c:List Ev) (d:List Reg) (e:Int) (f:Ls) (g:Li) (h:Bt):=Br false (Kai a b c d e f g h) J4p
def Ki0 (a:Ls) (b:Li) (c:TypeId) (d e:List Ev) (f:List Reg) (g:Int) (h:Bt):=(Y4∧J0b a∧Z56 b∧0≤J6 [] (Jkx a))∧Sf true (Sf c (Sf (d,e,f) (Jdj [] [] a b=Jsc d e f g a b h)))
def Kit (a:List Reg) (b:Ls):=Vq (Yq a) 3 (Vb b)
def J29 (a:List Reg) (b:Ls) (c:Li) (d:TypeId) (e f:List Ev) (g:Int) (h:Bt):=(Xd a∧J0b b∧Z56 c∧0≤J6 (Hn a).1 (Jkx b))∧Sf true (Sf d (Sf (e,f,a) (Jdj (Hn a).1 (Hn a).2 b c=Jsc e f a g b c h)))
def J27 (a:Ls) (b:TypeId) (c d:List Ev) (e:List Reg) (f:Int) (g:Li) (h:Bt):=Br true (Z57∧Jg2 a∧Br (bif true then Kkx a else false) (J71 b c d e f a g h) (Z33∧Br true (Jz9∧Jk0 a∧Br false (J71 b c d e f a g h) (Jep∧Br false (Jz3∧Kad a∧Br (Kj5 a) (J71 b c d e f a g h) J4p) (Ki0 a g b c d e f h))) (Ki0 a g b c d e f h))) (Ki0 a g b c d e f h)
def J25 (a:Ls) (b:List Reg) (c:TypeId) (d e:List Ev) (f:Int) (g:Li) (h:Bt):=Br true (Z57∧Jg0 a b∧Br (bif true then Kit b a else false) (J71 c d e b f a g h) (Z33∧Br true (Jz9∧Dq a b∧Br false (J71 c d e b f a g h) (Jep∧Br false (Jz3∧Jub a b∧Br (Kiq b a) (J71 c d e b f a g h) J4p) (J29 b a g c d e f h))) (J29 b a g c d e f h))) (J29 b a g c d e f h)
theorem Jlb:wpFO Tryz.prog W91.g (Xw 3) (fun _=>na ()) (Sx.look ([(75,Tryz.f75)]:List (Nat×Func))) Tryz.f130 Jrq T (E,C,G) ((n,Kg,ns,vs,tx),()):=by
 refine(by kernel_rfl:(Ke (E,C,G)→Jb (Z22 n ns vs tx)=0→Z66 E∧Br (Jg6 n E) (Sf true (Sf T (Sf (E,C,G) (11=Jsc E C G n ns vs tx)))) (Br false (Br (Z4 C) (Sf true (Sf T (Sf (E,C,G) (12=Jsc E C G n ns vs tx)))) (Jg5 C∧Sf true (Sf T (Sf (E,C,G) (Jg4 C=Jsc E C G n ns vs tx))))) (Br (Ye G) (Yd G∧Kx vs∧Br (Jg3 vs G) (Sf true (Sf T (Sf (E,C,G) (22=Jsc E C G n ns vs tx)))) (Br true (Z57∧Ho ns G∧Br false (Kai T E C G n ns vs tx) (Z33∧Br true (Jz9∧Ds ns G∧Br (bif true then !Vq (Yq G) 2 (Lu ns) else false) (Kai T E C G n ns vs tx) (Jep∧Br false (Jz3∧Jua ns G∧Kww T E C G n ns vs tx) (J25 ns G T E C n vs tx))) (J25 ns G T E C n vs tx))) (J25 ns G T E C n vs tx))) (Kx vs∧Br (Jg7 vs) (Sf true (Sf T (Sf (E,C,G) (22=Jsc E C G n ns vs tx)))) (Br true (Z57∧Jg1 ns∧Br false (Kai T E C G n ns vs tx) (Z33∧Br true (Jz9∧Jk1 ns∧Br (bif true then !Vq V4 2 (Lu ns) else false) (Kai T E C G n ns vs tx) (Jep∧Br false (Jz3∧Kac ns∧Kww T E C G n ns vs tx) (J27 ns T E C G n vs tx))) (J27 ns T E C G n vs tx))) (J27 ns T E C G n vs tx))))))=_).mp ?_
 delta Z0 Z4 Z6 Z22 Z33 Z34 Z56 Z57 Z65 Z66 Z91 Z92 Z98 Lu Kx Vb Ye J0b Jnq Jkx Jep Jz9 Jsc J4v Jaa Jz4 Jg7 Jz3 J4p Jy5 Jy4 Dp Khh Jg6 Khg Jg5 V4 Yd Y4 Jel Jb1 Fo Fn Jau F9 H1 H0 Du Hn Kkx Kgn Jg4 Kai J71 Kj5 Jg3 Jg2 Jg1 Jk1 Jk0 Kad Kac Kww Ki0 F8 Yq Xd Jeh Jcw Kit Keu Kiq Jg0 Ho Ds Dq Jub Jua J29 J27 J25 Br Iw Bd T2 Tw Sf Ln Gt B0 Lb E2 Kg Jk
 intro hh hc
 have eK:=Yz (h:=(E,C,G)) (n:=n) (k:=Kg) (ns:=ns) (vs:=vs) (tx:=tx) (by kernel_rfl)
 obtain⟨hn,hv,hR,hr0,n1,n2,n3,hG,hV⟩:=Ld hh hc
 simp only[K1,ckS,List.length_cons,List.length_nil] at eK hn hv
 rw[eK]
 simp only[hG,Jh3,H4,Prod.eta,Jr5,Kn,Kq,Jdv,Jf1,Jf0,Jhf,cond_true,cond_false,Bool.not_true,Bool.not_false,Ja]
 repeat' first|apply And.intro|exact hV|intro _
 all_goals first|trivial|omega|assumption|(rename_i h;have h:=of_decide_eq_true h;omega)|(simp only[*,cond_true,cond_false,Bool.not_true,Bool.not_false];done)|(rw[Ko ‹_›];(first|have e1:decide (vs.getD 0 0<U9.1)=true:=‹_›|have e1:decide (vs.getD 0 0<U9.1)=false:=‹_›);simp only[*,cond_true,cond_false,Bool.not_true,Bool.not_false];first|done|rfl)|(simp only[Bool.not_eq_false',decide_eq_true_eq] at*;assumption)
def Z23 (a:Int) (b:Ls) (c:Li) (d:Bt):=(a,Kf,b,c,d)
def Jsb (a b:List Ev) (c:List Reg) (d:Int) (e:Ls) (f:Li) (g:Bt):=Dc (a,b,c) (Z23 d e f g)
def Kf6 (a:TypeId) (b c:List Ev) (d:List Reg) (e:Int) (f:Ls) (g:Li) (h:Bt):=Sf true (Sf a (Sf (b,c,d) (9=Jsb b c d e f g h)))
def Kj9 (a:TypeId) (b c:List Ev) (d:List Reg) (e:Int) (f:Ls) (g:Li) (h:Bt):=Sf true (Sf a (Sf (b,c,d) (10=Jsb b c d e f g h)))
def Kjr (a:Ls):=Y4∧Xe a∧0≤Va [] (Di a)
def Kw3 (a:TypeId) (b c:List Ev) (d:List Reg) (e:Int) (f:Ls) (g:Li) (h:Bt):=Br false (Kj9 a b c d e f g h) Jeo
def Kvv (a:Ls) (b:TypeId) (c d:List Ev) (e:List Reg) (f:Int) (g:Li) (h:Bt):=Kjr a∧Sf true (Sf b (Sf (c,d,e) (Jpc [] a=Jsb c d e f a g h)))
def J3f (a:List Reg) (b:Ls):=Xd a∧Xe b∧0≤Va (Hn a).2 (Di b)
def J9d (a:List Reg) (b:Ls) (c:TypeId) (d e:List Ev) (f:Int) (g:Li) (h:Bt):=J3f a b∧Sf true (Sf c (Sf (d,e,a) (Jpc (Hn a).2 b=Jsb d e a f b g h)))
def J87 (a:Ls) (b:TypeId) (c d:List Ev) (e:List Reg) (f:Int) (g:Li) (h:Bt):=Br true (Z48∧Jg1 a∧Br false (Kf6 b c d e f a g h) (Z33∧Br false (Jay∧Jk1 a∧Br (Jul a) (Kf6 b c d e f a g h) Jeo) (Kvv a b c d e f g h))) (Kvv a b c d e f g h)
def J8z (a:Ls) (b:List Reg) (c:TypeId) (d e:List Ev) (f:Int) (g:Li) (h:Bt):=Br true (Z48∧Ho a b∧Br false (Kf6 c d e b f a g h) (Z33∧Br false (Jay∧Ds a b∧Br (Juk b a) (Kf6 c d e b f a g h) Jeo) (J9d b a c d e f g h))) (J9d b a c d e f g h)
theorem Jla:wpFO Tryz.prog W91.g (Xw 2) (fun _=>na ()) (Sx.look ([(75,Tryz.f75)]:List (Nat×Func))) Tryz.f130 Jrq T (E,C,G) ((n,Kf,ns,vs,tx),()):=by
 refine(by kernel_rfl:(Ke (E,C,G)→Jb (Z23 n ns vs tx)=0→Z66 E∧Br (Jg6 n E) (Sf true (Sf T (Sf (E,C,G) (11=Jsb E C G n ns vs tx)))) (Br false (Br (Z4 C) (Sf true (Sf T (Sf (E,C,G) (12=Jsb E C G n ns vs tx)))) (Jg5 C∧Sf true (Sf T (Sf (E,C,G) (Jg4 C=Jsb E C G n ns vs tx))))) (Br (Ye G) (Yd G∧Kx vs∧Br (Jg3 vs G) (Sf true (Sf T (Sf (E,C,G) (22=Jsb E C G n ns vs tx)))) (Br true (Z48∧Jg0 ns G∧Br (bif true then !Kit G ns else false) (Kj9 T E C G n ns vs tx) (Z33∧Br false (Jay∧Dq ns G∧Kw3 T E C G n ns vs tx) (J8z ns G T E C n vs tx))) (J8z ns G T E C n vs tx))) (Kx vs∧Br (Jg7 vs) (Sf true (Sf T (Sf (E,C,G) (22=Jsb E C G n ns vs tx)))) (Br true (Z48∧Jg2 ns∧Br (bif true then !Kkx ns else false) (Kj9 T E C G n ns vs tx) (Z33∧Br false (Jay∧Jk0 ns∧Kw3 T E C G n ns vs tx) (J87 ns T E C G n vs tx))) (J87 ns T E C G n vs tx))))))=_).mp ?_
 delta Z0 Z4 Z6 Z23 Z33 Z34 Z48 Z65 Z66 Z91 Z92 Lu Kx Vb Ye Xe Jnq Di Jep Jay Jsb Jeo Jaa Jg7 Jy5 Jy4 Dp Jg6 Jg5 V4 Yd Y4 Jel Jb1 Fo Fn Jau F9 H1 H0 Du Hn Kkx Jz1 Jg4 Kf6 Kj9 Jul Jg3 Jg2 Jg1 Jk1 Jk0 Kjr Kw3 Kvv F8 Yq Xd Jeh Jcw Jzx Kit Juk Jg0 Ho Ds Dq J3f J9d J87 J8z Br Iw Bd T2 Tw Sf Ln Gt B0 Lb E2 Kf Jk
 intro hh hc
 have eK:=Yz (h:=(E,C,G)) (n:=n) (k:=Kf) (ns:=ns) (vs:=vs) (tx:=tx) (by kernel_rfl)
 obtain⟨hn,hv,hR,hr0,n1,n2,n3,hG,hV⟩:=Ld hh hc
 simp only[K0,ckS,List.length_cons,List.length_nil] at eK hn hv
 rw[eK]
 simp only[hG,Jh3,H4,Prod.eta,Jr5,Kn,Kq,Jdv,Jf1,Jf0,Jhf,cond_true,cond_false,Bool.not_true,Bool.not_false,Ja]
 repeat' first|apply And.intro|exact hV|intro _
 all_goals first|trivial|omega|assumption|(rename_i h;have h:=of_decide_eq_true h;omega)|(simp only[*,cond_true,cond_false,Bool.not_true,Bool.not_false];done)|(rw[Ko ‹_›];(first|have e1:decide (vs.getD 0 0<U9.1)=true:=‹_›|have e1:decide (vs.getD 0 0<U9.1)=false:=‹_›);simp only[*,cond_true,cond_false,Bool.not_true,Bool.not_false];first|done|rfl)|(simp only[Bool.not_eq_false',decide_eq_true_eq] at*;assumption)
def Z18 (a:Int) (b:Ls) (c:Li) (d:Bt):=(a,Jk,b,c,d)
def Jps (a b:List Ev) (c:List Reg) (d:Int) (e:Ls) (f:Li) (g:Bt):=Dc (a,b,c) (Z18 d e f g)
def Kxa (a:TypeId) (b c:List Ev) (d:List Reg) (e:Int) (f:Ls) (g:Li) (h:Bt):=Br false (Sf true (Sf a (Sf (b,c,d) (10=Jps b c d e f g h)))) J4y
theorem Jk9:wpFO Tryz.prog W91.g (Xw 1) (fun _=>na ()) (Sx.look ([(75,Tryz.f75)]:List (Nat×Func))) Tryz.f130 Jrq T (E,C,G) ((n,Jk,ns,vs,tx),()):=by
 refine(by kernel_rfl:(Ke (E,C,G)→Jb (Z18 n ns vs tx)=0→Z66 E∧Br (Jg6 n E) (Sf true (Sf T (Sf (E,C,G) (11=Jps E C G n ns vs tx)))) (Br false (Br (Z4 C) (Sf true (Sf T (Sf (E,C,G) (12=Jps E C G n ns vs tx)))) (Jg5 C∧Sf true (Sf T (Sf (E,C,G) (Jg4 C=Jps E C G n ns vs tx))))) (Br (Ye G) (Yd G∧Kx vs∧Br (Jg3 vs G) (Sf true (Sf T (Sf (E,C,G) (22=Jps E C G n ns vs tx)))) (Br false (Z58∧Ho ns G∧Kxa T E C G n ns vs tx) (Br false (Z58∧Jg0 ns G∧Br (J94 G ns) (Sf true (Sf T (Sf (E,C,G) (9=Jps E C G n ns vs tx)))) J4y) (J96 G vs∧Sf true (Sf T (Sf (E,C,G) (Df (F9 G) (H0 G).1 (Du G).1 (Hn G).1 (Hn G).2 vs=Jps E C G n ns vs tx))))))) (Kx vs∧Br (Jg7 vs) (Sf true (Sf T (Sf (E,C,G) (22=Jps E C G n ns vs tx)))) (Br false (Z58∧Jg1 ns∧Kxa T E C G n ns vs tx) (Br false (Z58∧Jg2 ns∧Br (Kag ns) (Sf true (Sf T (Sf (E,C,G) (9=Jps E C G n ns vs tx)))) J4y) (Kaq vs∧Sf true (Sf T (Sf (E,C,G) (Df 0 [] [] [] [] vs=Jps E C G n ns vs tx))))))))))=_).mp ?_
 delta Z0 Z4 Z6 Z18 Z33 Z34 Z58 Z61 Z65 Z66 Z91 Z92 Kx Vb Ye J4y Jps Jaa Jg7 Dp Jg6 Jg5 V4 Yd Y4 Jel Jb1 Fo Fn Jau Kaq F9 H1 H0 Du Hn J4m Jg4 Kag Jg3 Jg2 Jg1 Kxa F8 Yq Xd Jeh Jcw J96 J4g J94 Jg0 Ho Br Iw Bd T2 Tw Sf Ln Gt B0 Lb E2 Jk
 intro hh hc
 have eK:=Yz (h:=(E,C,G)) (n:=n) (k:=Jk) (ns:=ns) (vs:=vs) (tx:=tx) (by kernel_rfl)
 obtain⟨hn,hv,hR,hr0,n1,n2,n3,hG,hV⟩:=Ld hh hc
 simp only[Uy,ckS,List.length_cons,List.length_nil] at eK hn hv
 rw[eK]
 simp only[hG,Jh3,H4,Prod.eta,Jr5,Kn,Kq,Jdv,Jf1,Jf0,Jhf,cond_true,cond_false,Bool.not_true,Bool.not_false,Ja]
 repeat' first|apply And.intro|exact hV|intro _
 all_goals first|trivial|omega|assumption|(rename_i h;have h:=of_decide_eq_true h;omega)|(simp only[*,cond_true,cond_false,Bool.not_true,Bool.not_false];done)|(rw[Ko ‹_›];(first|have e1:decide (vs.getD 0 0<U9.1)=true:=‹_›|have e1:decide (vs.getD 0 0<U9.1)=false:=‹_›);simp only[*,cond_true,cond_false,Bool.not_true,Bool.not_false];first|done|rfl)|(simp only[Bool.not_eq_false',decide_eq_true_eq] at*;assumption)
theorem Vy {a b:ByteArray} (h:(a.toList==b.toList)=true):a=b:=by
 have h:=eq_of_beq h
 rw[Lib.toList_data,Lib.toList_data] at h
 cases a;cases b
 congr
 exact Array.toList_inj.1 h
theorem Jws {a b:ByteArray} (h:Fm .str a b=true):a=b:=Vy h
theorem Jfn {β:Type} {ks:Sch} {k:ks.T}:∀{l:List (ks.T×β)},(Uu ks k l).isSome=true→∃x∈l,Fm ks k x.1=true
 |[],h=>by cases h
 | x :: l, h => by
  unfold Uu at h
  by_cases hx:Fm ks k x.1=true
  ·exact⟨x,List.mem_cons_self ..,hx⟩
  ·rw[if_neg hx] at h
   obtain⟨y,h1,h2⟩:=Jfn h
   exact⟨y,List.mem_cons_of_mem _ h1,h2⟩
theorem Vd {k:ByteArray} (h:Y5 k=true):k=Ju∨k=Jw∨k=Uf∨k=Ki∨k=K9∨k=V2∨k=Js∨k=Jt∨k=Kg∨k=Kf∨k=Jk:=by
 obtain⟨x,hx,hk⟩:=Jfn h
 have hk:=Jws hk
 unfold Dd at hx
 subst hk
 rcases List.mem_cons.1 hx with rfl|hx
 ·exact .inl rfl
 rcases List.mem_cons.1 hx with rfl|hx
 ·exact .inr (.inl rfl)
 rcases List.mem_cons.1 hx with rfl|hx
 ·exact .inr (.inr (.inl rfl))
 rcases List.mem_cons.1 hx with rfl|hx
 ·exact .inr (.inr (.inr (.inl rfl)))
 rcases List.mem_cons.1 hx with rfl|hx
 ·exact .inr (.inr (.inr (.inr (.inl rfl))))
 rcases List.mem_cons.1 hx with rfl|hx
 ·exact .inr (.inr (.inr (.inr (.inr (.inl rfl)))))
 rcases List.mem_cons.1 hx with rfl|hx
 ·exact .inr (.inr (.inr (.inr (.inr (.inr (.inl rfl))))))
 rcases List.mem_cons.1 hx with rfl|hx
 ·exact .inr (.inr (.inr (.inr (.inr (.inr (.inr (.inl rfl)))))))
 rcases List.mem_cons.1 hx with rfl|hx
 ·exact .inr (.inr (.inr (.inr (.inr (.inr (.inr (.inr (.inl rfl))))))))
 rcases List.mem_cons.1 hx with rfl|hx
 ·exact .inr (.inr (.inr (.inr (.inr (.inr (.inr (.inr (.inr (.inl rfl)))))))))
 rcases List.mem_cons.1 hx with rfl|hx
 ·exact .inr (.inr (.inr (.inr (.inr (.inr (.inr (.inr (.inr (.inr rfl)))))))))
 cases hx
theorem Jbe:∀{l:List Prop} {q:Prop},(Ux l→J6b l q)→J6b l q
 |[],_,h=>h trivial
 |[_],_,h=>fun hp=>h hp hp
 |_::p'::r,_,h=>fun hp=>Jbe (l:=p'::r) fun hr=>h ⟨hp,hr⟩ hp
theorem Jir {Γ:Gam} {ann:Nat→Option Ann} {annF:FuncId→Nat→Option Ann} {lib:FuncId→Option Func} {fn:Func} {c:X8} {T:TypeId} {x:c.s.T} {y:ATup c.args} (hb:fn.body.isSome=true) (h:Ux (c.pre x y)→wpFO Tryz.prog Γ ann annF lib fn c T x y):wpFO Tryz.prog Γ ann annF lib fn c T x y:=by
 unfold wpFO at h⊢
 cases hc:fn.body with
 |none=>rw[hc] at hb;cases hb
 |some code=>
  rw[hc] at h
  exact Jbe h
def Jb9 (k:ByteArray):Nat:=if k=Ju then 1 else(Jm k).1.length+1
theorem Kom (T:TypeId):∀(x:Kh) (y:ATup [aEv]),wpFO Tryz.prog W91.g (Xw (Jb9 y.1.2.1)) (fun _=>na ()) (Sx.look ([(75,Tryz.f75)]:List (Nat×Func))) Tryz.f130 Jrq T x y
 |(E,C,G),((n,k,ns,vs,tx),())=>by
  refine Jir (by kernel_rfl) fun hp=> ?_
  have hc:Jb (n,k,ns,vs,tx)=0:=hp.2
  rcases Vd (Ud hc).kind with h|h|h|h|h|h|h|h|h|h|h<;>dsimp only at h<;>subst h
  ·exact(show Jb9 Ju=1 from by kernel_rfl)▸Jsr T E C G n ns vs tx
  ·exact(show Jb9 Jw=2 from by kernel_rfl)▸Jiu T E C G n ns vs tx
  ·exact(show Jb9 Uf=2 from by kernel_rfl)▸Jny T E C G n ns vs tx
  ·exact(show Jb9 Ki=4 from by kernel_rfl)▸Jnz T E C G n ns vs tx
  ·exact(show Jb9 K9=2 from by kernel_rfl)▸Jn0 T E C G n ns vs tx
  ·exact(show Jb9 V2=2 from by kernel_rfl)▸Jss T E C G n ns vs tx
  ·exact(show Jb9 Js=3 from by kernel_rfl)▸Jlc T E C G n ns vs tx
  ·exact(show Jb9 Jt=2 from by kernel_rfl)▸Jiv T E C G n ns vs tx
  ·exact(show Jb9 Kg=3 from by kernel_rfl)▸Jlb T E C G n ns vs tx
  ·exact(show Jb9 Kf=2 from by kernel_rfl)▸Jla T E C G n ns vs tx
  ·exact(show Jb9 Jk=1 from by kernel_rfl)▸Jk9 T E C G n ns vs tx
theorem Kci:Ok Tryz.prog 130 (X8.con Jrq):=Zd (Ul mixed W91.ok (by kernel_rfl) (by kernel_rfl) (U5 (l:=([(75,Tryz.f75)]:List (Nat×Func))) (List.forall_mem_cons.2 ⟨by kernel_rfl,by simp⟩)) (fun _ yy=>Xw (Jb9 yy.1.2.1)) (fun _ _=>fun _=>na ()) fun T xx yy _=>Kom T xx yy)
abbrev W92:=W91.add Kci
def doS (r:Reg) (e:Ev):Reg:=match(Jm e.2.1).2.2.2.1 with
 |some 149=>Jbm r e
 |some 153=>F1 r e
 |some 155=>F5 r e
 |some 158=>F6 r e
 |some 160=>F0 r e
 |some 162=>F3 r e
 |some 165=>F2 r e
 |some 167=>F4 r e
 |some 170=>Jhh r e
 |some 172=>Jbl r e
 |_=>r
def Jq (r:Reg) (e:Ev):Reg:=(e.2.2.2.1.getD 0 0,(doS r e).2)
def Hz (h:Kh) (e:Ev):Kh:=
 bif e.2.1.toList==Ju.toList then(h.1++[e],h.2.1.take (h.2.1.length-1),h.2.2.take (h.2.1.length-1)) else(h.1++[e],h.2.1++[e],h.2.2++[Jq (J7 h.2.2) e])
def Ue (h:Kh) (e:Ev):Int:=if Jb e≠0 then Jb e else Dc h e
def Jgc (e:Ev):Prop:=e.2.2.1.length≤1000000∧e.2.2.2.1.length≤1000000∧∀s∈e.2.2.1,s.size≤1000000
def Vo (h:Kh) (e:Ev):Kh:=if Ue h e=0 then Hz h e else h
def Kim:X8:={T? :=none,s:=Jjk,args:=[aEv],ress:=[I],pre:=fun h (e,_)=>[Ke h,h.1.length<1000,Jgc e],spec:=fun h (e,_)=>(Ue h e,()),post:=fun h (e,_)=>Vo h e}
def Jcr:X8:={Kim with pre:=fun h (e,_)=>[Ke h,h.1.length<1000,Jgc e,Jb e=0,Dc h e=0]}
theorem D9 {h:Kh} {n:Int} {ns:List ByteArray} {vs:List Int} {roles:List (Int×Bool)} {ck:Int} (e:Jr5 h n ns vs roles ck=0):n=(h.1.length:Int)+1∧¬vs.getD 0 0<(J7 h.2.2).1∧Kn (J7 h.2.2) ns roles 0=false∧Kq (J7 h.2.2) ns roles 0=false∧ck=0:=by
 unfold Jr5 at e
 cases h1:n !=(h.1.length:Int)+1 with
 |true=>rw[h1] at e;cases e
 | false =>
  rw[h1,cond_false] at e
  cases h2:decide (vs.getD 0 0<(J7 h.2.2).1) with
  |true=>rw[h2] at e;cases e
  | false =>
   rw[h2,cond_false] at e
   cases h3:Kn (J7 h.2.2) ns roles 0 with
   |true=>rw[h3] at e;cases e
   | false =>
    rw[h3,cond_false] at e
    cases h4:Kq (J7 h.2.2) ns roles 0 with
    |true=>rw[h4] at e;cases e
    |false=>
     rw[h4,cond_false] at e
     exact⟨bne_eq_false_iff_eq.1 h1,of_decide_eq_false h2,rfl,rfl,e⟩
theorem Jl {r:Reg} {ns:List ByteArray} {w:Int} {b:Bool} {l:List (Int×Bool)} {i:Nat} (h:Kn r ns ((w,b)::l) i=false):(b=true→Vq r w (ns.getD i Ja)=true)∧Kn r ns l (i+1)=false:=by
 unfold Kn at h
 cases b with
 |false=>exact⟨fun f=>(by cases f),h⟩
 |true=>
  cases h1:Vq r w (ns.getD i Ja) with
  |true=>rw[h1] at h;exact⟨fun _=>rfl,h⟩
  |false=>rw[h1] at h;cases h
theorem Jq6 {r:Reg} {s:ByteArray} (h:Vq r 0 s=true):0≤Jn r.2.2.1 s:=of_decide_eq_true (show decide _=true from h)
theorem Jzt {r:Reg} {s:ByteArray} (h:Vq r 1 s=true):0≤Kd r.2.2.2.1 s:=of_decide_eq_true (show decide _=true from h)
theorem J1n {r:Reg} {s:ByteArray} (h:Vq r 2 s=true):0≤J6 r.2.2.2.2.2.1 s:=of_decide_eq_true (show decide _=true from h)
theorem Kik {r:Reg} {s:ByteArray} (h:Vq r 3 s=true):0≤Va r.2.2.2.2.2.2 s:=of_decide_eq_true (show decide _=true from h)
theorem J05 {h:Kh} {n:Int} {k:ByteArray} {ns:List ByteArray} {vs:List Int} {tx:ByteArray} (hk:(k.toList==Ju.toList)=false) (hc:Jb (n,k,ns,vs,tx)=0) (ha:Dc h (n,k,ns,vs,tx)=0):Ue h (n,k,ns,vs,tx)=0∧Vo h (n,k,ns,vs,tx)=(h.1++[(n,k,ns,vs,tx)],h.2.1++[(n,k,ns,vs,tx)],h.2.2++[Jq (J7 h.2.2) (n,k,ns,vs,tx)]):=by
 have e:Ue h (n,k,ns,vs,tx)=0:=by unfold Ue;rw[if_neg (by rw[hc];simp)];exact ha
 refine⟨e, ?_⟩
 unfold Vo;rw[if_pos e];unfold Hz;dsimp only;rw[hk];rfl
theorem Jhc {E C:List Ev} {G:List Reg} {n:Int} {k:ByteArray} {ns:List ByteArray} {vs:List Int} {tx:ByteArray} (hk:(k.toList==Ju.toList)=false) (hc:Jb (n,k,ns,vs,tx)=0) (ha:Dc (E,C,G) (n,k,ns,vs,tx)=0):Kn (J7 G) ns (Jm k).1 0=false∧Ue (E,C,G) (n,k,ns,vs,tx)=0∧Vo (E,C,G) (n,k,ns,vs,tx)=(E++[(n,k,ns,vs,tx)],C++[(n,k,ns,vs,tx)],G++[Jq (J7 G) (n,k,ns,vs,tx)]):=
 have e:=Yz (h:=(E,C,G)) (n:=n) (ns:=ns) (vs:=vs) (tx:=tx) hk
 ⟨(D9 (e.symm.trans ha)).2.2.1,J05 hk hc ha⟩
theorem J2s {h:Kh} {n:Int} {ns:List ByteArray} {vs:List Int} {tx:ByteArray} (ha:Dc h (n,Ju,ns,vs,tx)=0):n=(h.1.length:Int)+1∧h.2.1.length≠0∧((h.2.1.getD (h.2.1.length-1) ev0).2.1.toList==Jk.toList)=false:=by
 unfold Dc at ha
 dsimp only at ha
 rw[show(Ju.toList==Ju.toList)=true from by kernel_rfl,cond_true] at ha
 cases h1:n !=(h.1.length:Int)+1 with
 |true=>rw[h1] at ha;cases ha
 | false =>
  rw[h1,cond_false] at ha
  cases h2:(h.2.1.length:Int)==0 with
  |true=>rw[h2] at ha;cases ha
  |false=>
   rw[h2,cond_false] at ha
   cases h3:(h.2.1.getD (h.2.1.length-1) ev0).2.1.toList==Jk.toList with
   |true=>rw[h3] at ha;cases ha
   |false=>exact⟨bne_eq_false_iff_eq.1 h1,(fun e=>by rw[e] at h2;cases h2),rfl⟩
def Z44 (a:List Ev):=List.length a<1000
def Jdy (a:List Ev):=(List.length a+1)*88≤140737488355328
def Jdo:=0≤1000000∧T2 (0≤1000000) (Tw (0≤1000000))
def Jem (a:List Ev) (b:List Reg):=(List.take (Int.toNat (Z6 a)) a,List.take (Int.toNat (Z6 a)) b)
def Fp (a:List Ev) (b:List Reg):=Jdy a∧(List.length b+1)*136≤140737488355328
def Jek (a:List Ev) (b:List Reg):=(0≤Z6 a∧Z6 a≤Ln a)∧0≤Z6 a∧Z6 a≤Ln b
def Jej (a:Ls) (b:Li):=Jb2 a∧Z52 b∧Jih a
def Jei (a:List Reg):=List.length (H1 a).1≤1000000∧List.length (H0 a).1≤1000000∧List.length (Du a).1≤1000000∧List.length (Hn a).1≤1000000∧List.length (Hn a).2≤1000000
theorem Jst:wpFO Tryz.prog W92.g (na ()) (fun _=>na ()) (Sx.look ([(75,Tryz.f75),(129,Tryz.f129)]:List (Nat×Func))) Tryz.f121 Jcr T (E,C,G) ((n,Ju,ns,vs,tx),()):=by
 refine(by kernel_rfl:(Ke (E,C,G)→Z44 E→Jgc (Z1 n ns vs tx)→Jb (Z1 n ns vs tx)=0→Jt8 E C G n ns vs tx=0→Jej ns vs∧Br (Jb (Z1 n ns vs tx) !=0) (Sf true (Sf T ((E,C,G)=Vo (E,C,G) (Z1 n ns vs tx)∧Jb (Z1 n ns vs tx)=Ue (E,C,G) (Z1 n ns vs tx)))) ((Ke (E,C,G)∧Jb (Z1 n ns vs tx)=0)∧Br (Jt8 E C G n ns vs tx !=0) (Sf true (Sf T ((E,C,G)=Vo (E,C,G) (Z1 n ns vs tx)∧Jt8 E C G n ns vs tx=Ue (E,C,G) (Z1 n ns vs tx)))) (Jdp ns vs∧Jdy E∧Br true (Z65 C∧Jek C G∧Sf true (Sf T ((E++[Z1 n ns vs tx],Jem C G)=Vo (E,C,G) (Z1 n ns vs tx)∧0=Ue (E,C,G) (Z1 n ns vs tx)))) (Br (Ye G) (Yd G∧Jei G∧False∧Kx vs∧Fp C G∧Sf true (Sf T ((E++[Z1 n ns vs tx],C++[Z1 n ns vs tx],G++[(Z91 vs,F8 G)])=Vo (E,C,G) (Z1 n ns vs tx)∧0=Ue (E,C,G) (Z1 n ns vs tx)))) (Jdo∧False∧Kx vs∧Fp C G∧Sf true (Sf T ((E++[Z1 n ns vs tx],C++[Z1 n ns vs tx],G++[(Z91 vs,Dp)])=Vo (E,C,G) (Z1 n ns vs tx)∧0=Ue (E,C,G) (Z1 n ns vs tx))))))))=_).mp ?_
 delta Z1 Z6 Z34 Z44 Z52 Z65 Z91 Kx Ye Jb2 Jt8 Jdy Jhl Jdp Dp Jdo V4 Yd Jem Jih Fp Fo Fn F9 H1 H0 Du Hn Jek Jej F8 Jei Br Iw Bd T2 Tw Sf Ln Gt E2 Ju
 intro hh hlt hsz hc ha
 obtain⟨a1,a2,a3⟩:=J2s ha
 have n1:E.length≤1000:=hh.nE
 have n2:C.length≤E.length:=hh.nC
 have n3:G.length=C.length:=hh.nG
 have a2:C.length≠0:=a2
 have hC:((C.length:Int)-1).toNat=C.length-1:=by omega
 have eE:Ue (E,C,G) (n,Ju,ns,vs,tx)=0:=by unfold Ue;rw[if_neg (by rw[hc];simp)];exact ha
 have eP:Vo (E,C,G) (n,Ju,ns,vs,tx)=(E++[(n,Ju,ns,vs,tx)],C.take (C.length-1),G.take (C.length-1)):=by
  unfold Vo;rw[if_pos eE];unfold Hz;dsimp only;rw[show(Ju.toList==Ju.toList)=true from by kernel_rfl];rfl
 simp only[eE,eP,hc,ha,hC]
 repeat' first|exact hh|exact hsz.2.2|apply And.intro|intro _
 all_goals first|trivial|omega|assumption|contradiction|exact hsz.1|exact hsz.2.1|rfl
def K0j (a:Int) (b:Ls) (c:Li) (d:Bt):=(Jbm V4 (Z26 a b c d)).2
def Kz8 (a:Int) (b:Ls) (c:Li) (d:Bt):=(K0j a b c d).2
def Kz0 (a:Int) (b:Ls) (c:Li) (d:Bt):=(Kz8 a b c d).2
def Kzm (a:Int) (b:Ls) (c:Li) (d:Bt):=(Kz0 a b c d).2
def Kum (a:List Reg) (b:Int) (c:Ls) (d:Li) (e:Bt):=(Jbm (Yq a) (Z26 b c d e)).2
def Kua (a:List Reg) (b:Int) (c:Ls) (d:Li) (e:Bt):=(Kum a b c d e).2
def Kt3 (a:List Reg) (b:Int) (c:Ls) (d:Li) (e:Bt):=(Kua a b c d e).2
def Ktv (a:List Reg) (b:Int) (c:Ls) (d:Li) (e:Bt):=(Kt3 a b c d e).2
theorem Jiw:wpFO Tryz.prog W92.g (na ()) (fun _=>na ()) (Sx.look ([(75,Tryz.f75),(129,Tryz.f129)]:List (Nat×Func))) Tryz.f121 Jcr T (E,C,G) ((n,Jw,ns,vs,tx),()):=by
 refine(by kernel_rfl:(Ke (E,C,G)→Z44 E→Jgc (Z26 n ns vs tx)→Jb (Z26 n ns vs tx)=0→Jr9 E C G n ns vs tx=0→Jej ns vs∧Br (Jb (Z26 n ns vs tx) !=0) (Sf true (Sf T ((E,C,G)=Vo (E,C,G) (Z26 n ns vs tx)∧Jb (Z26 n ns vs tx)=Ue (E,C,G) (Z26 n ns vs tx)))) ((Ke (E,C,G)∧Jb (Z26 n ns vs tx)=0)∧Br (Jr9 E C G n ns vs tx !=0) (Sf true (Sf T ((E,C,G)=Vo (E,C,G) (Z26 n ns vs tx)∧Jr9 E C G n ns vs tx=Ue (E,C,G) (Z26 n ns vs tx)))) (Jdp ns vs∧Jdy E∧Br false (Z65 C∧Jek C G∧Sf true (Sf T ((E++[Z26 n ns vs tx],Jem C G)=Vo (E,C,G) (Z26 n ns vs tx)∧0=Ue (E,C,G) (Z26 n ns vs tx)))) (Br (Ye G) (Yd G∧Jei G∧(Xd G∧Xe ns∧Z61 vs)∧Kx vs∧Fp C G∧Sf true (Sf T ((E++[Z26 n ns vs tx],C++[Z26 n ns vs tx],G++[(Z91 vs,(Kum G n ns vs tx).1,(Kua G n ns vs tx).1,(Kt3 G n ns vs tx).1,(Ktv G n ns vs tx).1,E2 (Ktv G n ns vs tx).2)])=Vo (E,C,G) (Z26 n ns vs tx)∧0=Ue (E,C,G) (Z26 n ns vs tx)))) (Jdo∧(Y4∧Xe ns∧Z61 vs)∧Kx vs∧Fp C G∧Sf true (Sf T ((E++[Z26 n ns vs tx],C++[Z26 n ns vs tx],G++[(Z91 vs,(K0j n ns vs tx).1,(Kz8 n ns vs tx).1,(Kz0 n ns vs tx).1,(Kzm n ns vs tx).1,E2 (Kzm n ns vs tx).2)])=Vo (E,C,G) (Z26 n ns vs tx)∧0=Ue (E,C,G) (Z26 n ns vs tx))))))))=_).mp ?_
 delta Z6 Z26 Z34 Z44 Z52 Z61 Z65 Z91 Kx Ye Xe Jb2 Jr9 Jdy Jhl Jdp Dp Jdo V4 Yd Y4 Jem Jih Fp Fo K0j Fn Kz8 Jau F9 Kz0 H1 H0 Kzm Du Hn Jek Jej F8 Jei Yq Xd Kum Kua Kt3 Ktv Br Iw Bd T2 Tw Sf Ln Gt E2 Jw
 intro hh hlt hsz hc ha
 obtain⟨u0,aE,aP⟩:=Jhc (k:=Jw) (by kernel_rfl) hc ha
 obtain⟨hn,hv,hR,_,n1,n2,n3,hG,hV⟩:=Ld hh hc
 simp only[Kp,List.length_cons,List.length_nil] at hn hv u0
 have hs:Jq (J7 G) (n,Jw,ns,vs,tx)=(vs.getD 0 0,(Jbm (J7 G) (n,Jw,ns,vs,tx)).2):=by simp only[Jq,doS,Kp]
 simp only[aE,aP,hs,hc,ha,hG,H4,Jh3,Prod.eta]
 repeat' first|exact hV|exact hh|exact hR|exact hsz.2.2|apply And.intro|intro _
 all_goals first|trivial|omega|assumption|exact Nat.le_trans hR.nS Od|exact Nat.le_trans hR.nO Od|exact Nat.le_trans hR.nM Od|exact Nat.le_trans hR.nX Od|exact Nat.le_trans hR.nQ Od|exact Nat.zero_le _|exact hsz.1|exact hsz.2.1|(rename_i h;have h:=of_decide_eq_true h;omega)|rfl|(rw[←Ko ‹_›];first|done|exact hR)
def K0x (a:Int) (b:Ls) (c:Li) (d:Bt):=(F1 V4 (Z15 a b c d)).2
def K0h (a:Int) (b:Ls) (c:Li) (d:Bt):=(K0x a b c d).2
def K0a (a:Int) (b:Ls) (c:Li) (d:Bt):=(K0h a b c d).2
def Kzv (a:Int) (b:Ls) (c:Li) (d:Bt):=(K0a a b c d).2
def Kuw (a:List Reg) (b:Int) (c:Ls) (d:Li) (e:Bt):=(F1 (Yq a) (Z15 b c d e)).2
def Kun (a:List Reg) (b:Int) (c:Ls) (d:Li) (e:Bt):=(Kuw a b c d e).2
def Kud (a:List Reg) (b:Int) (c:Ls) (d:Li) (e:Bt):=(Kun a b c d e).2
def Kt4 (a:List Reg) (b:Int) (c:Ls) (d:Li) (e:Bt):=(Kud a b c d e).2
theorem Jn1:wpFO Tryz.prog W92.g (na ()) (fun _=>na ()) (Sx.look ([(75,Tryz.f75),(129,Tryz.f129)]:List (Nat×Func))) Tryz.f121 Jcr T (E,C,G) ((n,Uf,ns,vs,tx),()):=by
 refine(by kernel_rfl:(Ke (E,C,G)→Z44 E→Jgc (Z15 n ns vs tx)→Jb (Z15 n ns vs tx)=0→Jt6 E C G n ns vs tx=0→Jej ns vs∧Br (Jb (Z15 n ns vs tx) !=0) (Sf true (Sf T ((E,C,G)=Vo (E,C,G) (Z15 n ns vs tx)∧Jb (Z15 n ns vs tx)=Ue (E,C,G) (Z15 n ns vs tx)))) ((Ke (E,C,G)∧Jb (Z15 n ns vs tx)=0)∧Br (Jt6 E C G n ns vs tx !=0) (Sf true (Sf T ((E,C,G)=Vo (E,C,G) (Z15 n ns vs tx)∧Jt6 E C G n ns vs tx=Ue (E,C,G) (Z15 n ns vs tx)))) (Jdp ns vs∧Jdy E∧Br false (Z65 C∧Jek C G∧Sf true (Sf T ((E++[Z15 n ns vs tx],Jem C G)=Vo (E,C,G) (Z15 n ns vs tx)∧0=Ue (E,C,G) (Z15 n ns vs tx)))) (Br (Ye G) (Yd G∧Jei G∧(Xd G∧Xe ns∧Z61 vs∧0≤Jn (H1 G).1 (Di ns))∧Kx vs∧Fp C G∧Sf true (Sf T ((E++[Z15 n ns vs tx],C++[Z15 n ns vs tx],G++[(Z91 vs,(Kuw G n ns vs tx).1,(Kun G n ns vs tx).1,(Kud G n ns vs tx).1,(Kt4 G n ns vs tx).1,E2 (Kt4 G n ns vs tx).2)])=Vo (E,C,G) (Z15 n ns vs tx)∧0=Ue (E,C,G) (Z15 n ns vs tx)))) (Jdo∧(Y4∧Xe ns∧Z61 vs∧0≤Jn [] (Di ns))∧Kx vs∧Fp C G∧Sf true (Sf T ((E++[Z15 n ns vs tx],C++[Z15 n ns vs tx],G++[(Z91 vs,(K0x n ns vs tx).1,(K0h n ns vs tx).1,(K0a n ns vs tx).1,(Kzv n ns vs tx).1,E2 (Kzv n ns vs tx).2)])=Vo (E,C,G) (Z15 n ns vs tx)∧0=Ue (E,C,G) (Z15 n ns vs tx))))))))=_).mp ?_
 delta Z6 Z15 Z34 Z44 Z52 Z61 Z65 Z91 Kx Ye Xe Jb2 Di Jt6 Jdy Jhl Jdp Dp Jdo V4 Yd Y4 Jem Jih Fp K0x Fo K0h Fn K0a Jau F9 H1 Kzv H0 Du Hn Jek Jej F8 Jei Yq Xd Kuw Kun Kud Kt4 Br Iw Bd T2 Tw Sf Ln Gt E2 Uf
 intro hh hlt hsz hc ha
 obtain⟨u0,aE,aP⟩:=Jhc (k:=Uf) (by kernel_rfl) hc ha
 obtain⟨hn,hv,hR,_,n1,n2,n3,hG,hV⟩:=Ld hh hc
 simp only[U6,List.length_cons,List.length_nil] at hn hv u0
 obtain⟨k0,u1⟩:=Jl u0
 have f0:=Jq6 (k0 rfl)
 have hs:Jq (J7 G) (n,Uf,ns,vs,tx)=(vs.getD 0 0,(F1 (J7 G) (n,Uf,ns,vs,tx)).2):=by simp only[Jq,doS,U6]
 simp only[aE,aP,hs,hc,ha,hG,H4,Jh3,Prod.eta]
 repeat' first|exact hV|exact hh|exact hR|exact hsz.2.2|apply And.intro|intro _
 all_goals first|trivial|omega|assumption|exact Nat.le_trans hR.nS Od|exact Nat.le_trans hR.nO Od|exact Nat.le_trans hR.nM Od|exact Nat.le_trans hR.nX Od|exact Nat.le_trans hR.nQ Od|exact Nat.zero_le _|exact hsz.1|exact hsz.2.1|(rename_i h;have h:=of_decide_eq_true h;omega)|rfl|(rw[←Ko ‹_›];first|done|exact hR)|(rw[Ko ‹_›] at f0;exact f0)
def K0z (a:Int) (b:Ls) (c:Li) (d:Bt):=(F5 V4 (Z13 a b c d)).2
def K0k (a:Int) (b:Ls) (c:Li) (d:Bt):=(K0z a b c d).2
def K0b (a:Int) (b:Ls) (c:Li) (d:Bt):=(K0k a b c d).2
def Kz1 (a:Int) (b:Ls) (c:Li) (d:Bt):=(K0b a b c d).2
def Kut (a:List Reg) (b:Int) (c:Ls) (d:Li) (e:Bt):=(F5 (Yq a) (Z13 b c d e)).2
def Kuo (a:List Reg) (b:Int) (c:Ls) (d:Li) (e:Bt):=(Kut a b c d e).2
def Kt9 (a:List Reg) (b:Int) (c:Ls) (d:Li) (e:Bt):=(Kuo a b c d e).2
def Kt0 (a:List Reg) (b:Int) (c:Ls) (d:Li) (e:Bt):=(Kt9 a b c d e).2
theorem Jn2:wpFO Tryz.prog W92.g (na ()) (fun _=>na ()) (Sx.look ([(75,Tryz.f75),(129,Tryz.f129)]:List (Nat×Func))) Tryz.f121 Jcr T (E,C,G) ((n,Ki,ns,vs,tx),()):=by
 refine(by kernel_rfl:(Ke (E,C,G)→Z44 E→Jgc (Z13 n ns vs tx)→Jb (Z13 n ns vs tx)=0→Jse E C G n ns vs tx=0→Jej ns vs∧Br (Jb (Z13 n ns vs tx) !=0) (Sf true (Sf T ((E,C,G)=Vo (E,C,G) (Z13 n ns vs tx)∧Jb (Z13 n ns vs tx)=Ue (E,C,G) (Z13 n ns vs tx)))) ((Ke (E,C,G)∧Jb (Z13 n ns vs tx)=0)∧Br (Jse E C G n ns vs tx !=0) (Sf true (Sf T ((E,C,G)=Vo (E,C,G) (Z13 n ns vs tx)∧Jse E C G n ns vs tx=Ue (E,C,G) (Z13 n ns vs tx)))) (Jdp ns vs∧Jdy E∧Br false (Z65 C∧Jek C G∧Sf true (Sf T ((E++[Z13 n ns vs tx],Jem C G)=Vo (E,C,G) (Z13 n ns vs tx)∧0=Ue (E,C,G) (Z13 n ns vs tx)))) (Br (Ye G) (Yd G∧Jei G∧(Xd G∧Jur ns∧Kjl vs G ns)∧Kx vs∧Fp C G∧Sf true (Sf T ((E++[Z13 n ns vs tx],C++[Z13 n ns vs tx],G++[(Z91 vs,(Kut G n ns vs tx).1,(Kuo G n ns vs tx).1,(Kt9 G n ns vs tx).1,(Kt0 G n ns vs tx).1,E2 (Kt0 G n ns vs tx).2)])=Vo (E,C,G) (Z13 n ns vs tx)∧0=Ue (E,C,G) (Z13 n ns vs tx)))) (Jdo∧(Y4∧Jur ns∧Kl0 vs ns)∧Kx vs∧Fp C G∧Sf true (Sf T ((E++[Z13 n ns vs tx],C++[Z13 n ns vs tx],G++[(Z91 vs,(K0z n ns vs tx).1,(K0k n ns vs tx).1,(K0b n ns vs tx).1,(Kz1 n ns vs tx).1,E2 (Kz1 n ns vs tx).2)])=Vo (E,C,G) (Z13 n ns vs tx)∧0=Ue (E,C,G) (Z13 n ns vs tx))))))))=_).mp ?_
 delta Z6 Z13 Z34 Z44 Z50 Z52 Z65 Z91 Kx Ye Jb2 Jur Jkx Jse Jdy Jhl Khm Jdp Dp Jdo V4 Yd Y4 Jem Kl0 Jih Fp K0z K0k Fo K0b Fn Jau Kz1 F9 H1 H0 Du Hn Jek Jej Kfy Kjl F8 Jei Yq Xd Kut Kuo Kt9 Kt0 Br Iw Bd T2 Tw Sf Ln Gt E2 Ki
 intro hh hlt hsz hc ha
 obtain⟨u0,aE,aP⟩:=Jhc (k:=Ki) (by kernel_rfl) hc ha
 obtain⟨hn,hv,hR,_,n1,n2,n3,hG,hV⟩:=Ld hh hc
 simp only[Uh,List.length_cons,List.length_nil] at hn hv u0
 obtain⟨k0,u1⟩:=Jl u0
 obtain⟨k1,u2⟩:=Jl u1
 obtain⟨k2,u3⟩:=Jl u2
 have f1:=Jq6 (k1 rfl)
 have f2:=Jq6 (k2 rfl)
 have hs:Jq (J7 G) (n,Ki,ns,vs,tx)=(vs.getD 0 0,(F5 (J7 G) (n,Ki,ns,vs,tx)).2):=by simp only[Jq,doS,Uh]
 simp only[aE,aP,hs,hc,ha,hG,H4,Jh3,Prod.eta]
 repeat' first|exact hV|exact hh|exact hR|exact hsz.2.2|apply And.intro|intro _
 all_goals first|trivial|omega|assumption|exact Nat.le_trans hR.nS Od|exact Nat.le_trans hR.nO Od|exact Nat.le_trans hR.nM Od|exact Nat.le_trans hR.nX Od|exact Nat.le_trans hR.nQ Od|exact Nat.zero_le _|exact hsz.1|exact hsz.2.1|(rename_i h;have h:=of_decide_eq_true h;omega)|rfl|(rw[←Ko ‹_›];first|done|exact hR)|(rw[Ko ‹_›] at f1;exact f1)|(rw[Ko ‹_›] at f2;exact f2)
def K0v (a:Int) (b:Ls) (c:Li) (d:Bt):=(F6 V4 (Z10 a b c d)).2
def K0l (a:Int) (b:Ls) (c:Li) (d:Bt):=(K0v a b c d).2
def K0c (a:Int) (b:Ls) (c:Li) (d:Bt):=(K0l a b c d).2
def Kzz (a:Int) (b:Ls) (c:Li) (d:Bt):=(K0c a b c d).2
def Kuu (a:List Reg) (b:Int) (c:Ls) (d:Li) (e:Bt):=(F6 (Yq a) (Z10 b c d e)).2
def Kuj (a:List Reg) (b:Int) (c:Ls) (d:Li) (e:Bt):=(Kuu a b c d e).2
def Kub (a:List Reg) (b:Int) (c:Ls) (d:Li) (e:Bt):=(Kuj a b c d e).2
def Kt2 (a:List Reg) (b:Int) (c:Ls) (d:Li) (e:Bt):=(Kub a b c d e).2
theorem Jn3:wpFO Tryz.prog W92.g (na ()) (fun _=>na ()) (Sx.look ([(75,Tryz.f75),(129,Tryz.f129)]:List (Nat×Func))) Tryz.f121 Jcr T (E,C,G) ((n,K9,ns,vs,tx),()):=by
 refine(by kernel_rfl:(Ke (E,C,G)→Z44 E→Jgc (Z10 n ns vs tx)→Jb (Z10 n ns vs tx)=0→Jsf E C G n ns vs tx=0→Jej ns vs∧Br (Jb (Z10 n ns vs tx) !=0) (Sf true (Sf T ((E,C,G)=Vo (E,C,G) (Z10 n ns vs tx)∧Jb (Z10 n ns vs tx)=Ue (E,C,G) (Z10 n ns vs tx)))) ((Ke (E,C,G)∧Jb (Z10 n ns vs tx)=0)∧Br (Jsf E C G n ns vs tx !=0) (Sf true (Sf T ((E,C,G)=Vo (E,C,G) (Z10 n ns vs tx)∧Jsf E C G n ns vs tx=Ue (E,C,G) (Z10 n ns vs tx)))) (Jdp ns vs∧Jdy E∧Br false (Z65 C∧Jek C G∧Sf true (Sf T ((E++[Z10 n ns vs tx],Jem C G)=Vo (E,C,G) (Z10 n ns vs tx)∧0=Ue (E,C,G) (Z10 n ns vs tx)))) (Br (Ye G) (Yd G∧Jei G∧(Xd G∧Xe ns∧Z51 vs)∧Kx vs∧Fp C G∧Sf true (Sf T ((E++[Z10 n ns vs tx],C++[Z10 n ns vs tx],G++[(Z91 vs,(Kuu G n ns vs tx).1,(Kuj G n ns vs tx).1,(Kub G n ns vs tx).1,(Kt2 G n ns vs tx).1,E2 (Kt2 G n ns vs tx).2)])=Vo (E,C,G) (Z10 n ns vs tx)∧0=Ue (E,C,G) (Z10 n ns vs tx)))) (Jdo∧(Y4∧Xe ns∧Z51 vs)∧Kx vs∧Fp C G∧Sf true (Sf T ((E++[Z10 n ns vs tx],C++[Z10 n ns vs tx],G++[(Z91 vs,(K0v n ns vs tx).1,(K0l n ns vs tx).1,(K0c n ns vs tx).1,(Kzz n ns vs tx).1,E2 (Kzz n ns vs tx).2)])=Vo (E,C,G) (Z10 n ns vs tx)∧0=Ue (E,C,G) (Z10 n ns vs tx))))))))=_).mp ?_
 delta Z6 Z10 Z34 Z44 Z51 Z52 Z65 Z91 Kx Ye Xe Jb2 Jsf Jdy Jhl Jdp Dp Jdo V4 Yd Y4 Jem Jih Fp K0v K0l Fo K0c Fn Jau F9 Kzz H1 H0 Du Hn Jek Jej F8 Jei Yq Xd Kuu Kuj Kub Kt2 Br Iw Bd T2 Tw Sf Ln Gt E2 K9
 intro hh hlt hsz hc ha
 obtain⟨u0,aE,aP⟩:=Jhc (k:=K9) (by kernel_rfl) hc ha
 obtain⟨hn,hv,hR,_,n1,n2,n3,hG,hV⟩:=Ld hh hc
 simp only[Ui,List.length_cons,List.length_nil] at hn hv u0
 obtain⟨k0,u1⟩:=Jl u0
 have f0:=Jzt (k0 rfl)
 have hs:Jq (J7 G) (n,K9,ns,vs,tx)=(vs.getD 0 0,(F6 (J7 G) (n,K9,ns,vs,tx)).2):=by simp only[Jq,doS,Ui]
 simp only[aE,aP,hs,hc,ha,hG,H4,Jh3,Prod.eta]
 repeat' first|exact hV|exact hh|exact hR|exact hsz.2.2|apply And.intro|intro _
 all_goals first|trivial|omega|assumption|exact Nat.le_trans hR.nS Od|exact Nat.le_trans hR.nO Od|exact Nat.le_trans hR.nM Od|exact Nat.le_trans hR.nX Od|exact Nat.le_trans hR.nQ Od|exact Nat.zero_le _|exact hsz.1|exact hsz.2.1|(rename_i h;have h:=of_decide_eq_true h;omega)|rfl|(rw[←Ko ‹_›];first|done|exact hR)|exact Ko ‹_› ▸f0
def K00 (a:Int) (b:Ls) (c:Li) (d:Bt):=(F0 V4 (Z5 a b c d)).2
def K0p (a:Int) (b:Ls) (c:Li) (d:Bt):=(K00 a b c d).2
def K0d (a:Int) (b:Ls) (c:Li) (d:Bt):=(K0p a b c d).2
def Kz6 (a:Int) (b:Ls) (c:Li) (d:Bt):=(K0d a b c d).2
def Kux (a:List Reg) (b:Int) (c:Ls) (d:Li) (e:Bt):=(F0 (Yq a) (Z5 b c d e)).2
def Kup (a:List Reg) (b:Int) (c:Ls) (d:Li) (e:Bt):=(Kux a b c d e).2
def Kuf (a:List Reg) (b:Int) (c:Ls) (d:Li) (e:Bt):=(Kup a b c d e).2
def Kt5 (a:List Reg) (b:Int) (c:Ls) (d:Li) (e:Bt):=(Kuf a b c d e).2
theorem Jsu:wpFO Tryz.prog W92.g (na ()) (fun _=>na ()) (Sx.look ([(75,Tryz.f75),(129,Tryz.f129)]:List (Nat×Func))) Tryz.f121 Jcr T (E,C,G) ((n,V2,ns,vs,tx),()):=by
 refine(by kernel_rfl:(Ke (E,C,G)→Z44 E→Jgc (Z5 n ns vs tx)→Jb (Z5 n ns vs tx)=0→Jsh E C G n ns vs tx=0→Jej ns vs∧Br (Jb (Z5 n ns vs tx) !=0) (Sf true (Sf T ((E,C,G)=Vo (E,C,G) (Z5 n ns vs tx)∧Jb (Z5 n ns vs tx)=Ue (E,C,G) (Z5 n ns vs tx)))) ((Ke (E,C,G)∧Jb (Z5 n ns vs tx)=0)∧Br (Jsh E C G n ns vs tx !=0) (Sf true (Sf T ((E,C,G)=Vo (E,C,G) (Z5 n ns vs tx)∧Jsh E C G n ns vs tx=Ue (E,C,G) (Z5 n ns vs tx)))) (Jdp ns vs∧Jdy E∧Br false (Z65 C∧Jek C G∧Sf true (Sf T ((E++[Z5 n ns vs tx],Jem C G)=Vo (E,C,G) (Z5 n ns vs tx)∧0=Ue (E,C,G) (Z5 n ns vs tx)))) (Br (Ye G) (Yd G∧Jei G∧J3e G ns vs∧Kx vs∧Fp C G∧Sf true (Sf T ((E++[Z5 n ns vs tx],C++[Z5 n ns vs tx],G++[(Z91 vs,(Kux G n ns vs tx).1,(Kup G n ns vs tx).1,(Kuf G n ns vs tx).1,(Kt5 G n ns vs tx).1,E2 (Kt5 G n ns vs tx).2)])=Vo (E,C,G) (Z5 n ns vs tx)∧0=Ue (E,C,G) (Z5 n ns vs tx)))) (Jdo∧Kjf ns vs∧Kx vs∧Fp C G∧Sf true (Sf T ((E++[Z5 n ns vs tx],C++[Z5 n ns vs tx],G++[(Z91 vs,(K00 n ns vs tx).1,(K0p n ns vs tx).1,(K0d n ns vs tx).1,(Kz6 n ns vs tx).1,E2 (Kz6 n ns vs tx).2)])=Vo (E,C,G) (Z5 n ns vs tx)∧0=Ue (E,C,G) (Z5 n ns vs tx))))))))=_).mp ?_
 delta Z5 Z6 Z34 Z44 Z52 Z56 Z65 Z91 Kx Ye Xe Jb2 Di Jsh Jdy Jhl Khn Jdp Dp Jdo V4 Yd Y4 Jem Jih Fp K00 K0p Fo K0d Fn Jau Kz6 F9 H1 H0 Du Hn Jek Jej Kfv Kjf F8 Jei Yq Xd Kux Kup Kuf Kt5 J3e Br Iw Bd T2 Tw Sf Ln Gt E2 V2
 intro hh hlt hsz hc ha
 obtain⟨u0,aE,aP⟩:=Jhc (k:=V2) (by kernel_rfl) hc ha
 obtain⟨hn,hv,hR,_,n1,n2,n3,hG,hV⟩:=Ld hh hc
 simp only[Vl,List.length_cons,List.length_nil] at hn hv u0
 obtain⟨k0,u1⟩:=Jl u0
 have f0:=Jzt (k0 rfl)
 have hs:Jq (J7 G) (n,V2,ns,vs,tx)=(vs.getD 0 0,(F0 (J7 G) (n,V2,ns,vs,tx)).2):=by simp only[Jq,doS,Vl]
 simp only[aE,aP,hs,hc,ha,hG,H4,Jh3,Prod.eta]
 repeat' first|exact hV|exact hh|exact hR|exact hsz.2.2|apply And.intro|intro _
 all_goals first|trivial|omega|assumption|exact Nat.le_trans hR.nS Od|exact Nat.le_trans hR.nO Od|exact Nat.le_trans hR.nM Od|exact Nat.le_trans hR.nX Od|exact Nat.le_trans hR.nQ Od|exact Nat.zero_le _|exact hsz.1|exact hsz.2.1|(rename_i h;have h:=of_decide_eq_true h;omega)|rfl|(rw[←Ko ‹_›];first|done|exact hR)|(rw[Ko ‹_›] at f0;exact f0)
def K0s (a:Int) (b:Ls) (c:Li) (d:Bt):=(F3 V4 (Z21 a b c d)).2
def K0e (a:Int) (b:Ls) (c:Li) (d:Bt):=(K0s a b c d).2
def Kz2 (a:Int) (b:Ls) (c:Li) (d:Bt):=(K0e a b c d).2
def Kzr (a:Int) (b:Ls) (c:Li) (d:Bt):=(Kz2 a b c d).2
def Kur (a:List Reg) (b:Int) (c:Ls) (d:Li) (e:Bt):=(F3 (Yq a) (Z21 b c d e)).2
def Kuh (a:List Reg) (b:Int) (c:Ls) (d:Li) (e:Bt):=(Kur a b c d e).2
def Kt8 (a:List Reg) (b:Int) (c:Ls) (d:Li) (e:Bt):=(Kuh a b c d e).2
def Ktw (a:List Reg) (b:Int) (c:Ls) (d:Li) (e:Bt):=(Kt8 a b c d e).2
theorem Jlg:wpFO Tryz.prog W92.g (na ()) (fun _=>na ()) (Sx.look ([(75,Tryz.f75),(129,Tryz.f129)]:List (Nat×Func))) Tryz.f121 Jcr T (E,C,G) ((n,Js,ns,vs,tx),()):=by
 refine(by kernel_rfl:(Ke (E,C,G)→Z44 E→Jgc (Z21 n ns vs tx)→Jb (Z21 n ns vs tx)=0→Jsd E C G n ns vs tx=0→Jej ns vs∧Br (Jb (Z21 n ns vs tx) !=0) (Sf true (Sf T ((E,C,G)=Vo (E,C,G) (Z21 n ns vs tx)∧Jb (Z21 n ns vs tx)=Ue (E,C,G) (Z21 n ns vs tx)))) ((Ke (E,C,G)∧Jb (Z21 n ns vs tx)=0)∧Br (Jsd E C G n ns vs tx !=0) (Sf true (Sf T ((E,C,G)=Vo (E,C,G) (Z21 n ns vs tx)∧Jsd E C G n ns vs tx=Ue (E,C,G) (Z21 n ns vs tx)))) (Jdp ns vs∧Jdy E∧Br false (Z65 C∧Jek C G∧Sf true (Sf T ((E++[Z21 n ns vs tx],Jem C G)=Vo (E,C,G) (Z21 n ns vs tx)∧0=Ue (E,C,G) (Z21 n ns vs tx)))) (Br (Ye G) (Yd G∧Jei G∧(Xd G∧Jsi ns∧Z50 vs)∧Kx vs∧Fp C G∧Sf true (Sf T ((E++[Z21 n ns vs tx],C++[Z21 n ns vs tx],G++[(Z91 vs,(Kur G n ns vs tx).1,(Kuh G n ns vs tx).1,(Kt8 G n ns vs tx).1,(Ktw G n ns vs tx).1,E2 (Ktw G n ns vs tx).2)])=Vo (E,C,G) (Z21 n ns vs tx)∧0=Ue (E,C,G) (Z21 n ns vs tx)))) (Jdo∧(Y4∧Jsi ns∧Z50 vs)∧Kx vs∧Fp C G∧Sf true (Sf T ((E++[Z21 n ns vs tx],C++[Z21 n ns vs tx],G++[(Z91 vs,(K0s n ns vs tx).1,(K0e n ns vs tx).1,(Kz2 n ns vs tx).1,(Kzr n ns vs tx).1,E2 (Kzr n ns vs tx).2)])=Vo (E,C,G) (Z21 n ns vs tx)∧0=Ue (E,C,G) (Z21 n ns vs tx))))))))=_).mp ?_
 delta Z6 Z21 Z34 Z44 Z50 Z52 Z65 Z91 Kx Ye Jsi Jb2 Jsd Jdy Jhl Jdp Dp Jdo V4 Yd Y4 Jem Jih Fp K0s Fo K0e Fn Jau Kz2 F9 H1 Kzr H0 Du Hn Jek Jej F8 Jei Yq Xd Kur Kuh Kt8 Ktw Br Iw Bd T2 Tw Sf Ln Gt E2 Js
 intro hh hlt hsz hc ha
 obtain⟨u0,aE,aP⟩:=Jhc (k:=Js) (by kernel_rfl) hc ha
 obtain⟨hn,hv,hR,_,n1,n2,n3,hG,hV⟩:=Ld hh hc
 simp only[Kr,List.length_cons,List.length_nil] at hn hv u0
 obtain⟨k0,u1⟩:=Jl u0
 obtain⟨k1,u2⟩:=Jl u1
 have f1:=Jq6 (k1 rfl)
 have hs:Jq (J7 G) (n,Js,ns,vs,tx)=(vs.getD 0 0,(F3 (J7 G) (n,Js,ns,vs,tx)).2):=by simp only[Jq,doS,Kr]
 simp only[aE,aP,hs,hc,ha,hG,H4,Jh3,Prod.eta]
 repeat' first|exact hV|exact hh|exact hR|exact hsz.2.2|apply And.intro|intro _
 all_goals first|trivial|omega|assumption|exact Nat.le_trans hR.nS Od|exact Nat.le_trans hR.nO Od|exact Nat.le_trans hR.nM Od|exact Nat.le_trans hR.nX Od|exact Nat.le_trans hR.nQ Od|exact Nat.zero_le _|exact hsz.1|exact hsz.2.1|(rename_i h;have h:=of_decide_eq_true h;omega)|rfl|(rw[←Ko ‹_›];first|done|exact hR)|exact Ko ‹_› ▸f1
def K0o (a:Int) (b:Ls) (c:Li) (d:Bt):=(F2 V4 (Z32 a b c d)).2
def Kz7 (a:Int) (b:Ls) (c:Li) (d:Bt):=(K0o a b c d).2
def Kzw (a:Int) (b:Ls) (c:Li) (d:Bt):=(Kz7 a b c d).2
def Kzn (a:Int) (b:Ls) (c:Li) (d:Bt):=(Kzw a b c d).2
def Kuk (a:List Reg) (b:Int) (c:Ls) (d:Li) (e:Bt):=(F2 (Yq a) (Z32 b c d e)).2
def Kuc (a:List Reg) (b:Int) (c:Ls) (d:Li) (e:Bt):=(Kuk a b c d e).2
def Ktz (a:List Reg) (b:Int) (c:Ls) (d:Li) (e:Bt):=(Kuc a b c d e).2
def Ktu (a:List Reg) (b:Int) (c:Ls) (d:Li) (e:Bt):=(Ktz a b c d e).2
theorem Jix:wpFO Tryz.prog W92.g (na ()) (fun _=>na ()) (Sx.look ([(75,Tryz.f75),(129,Tryz.f129)]:List (Nat×Func))) Tryz.f121 Jcr T (E,C,G) ((n,Jt,ns,vs,tx),()):=by
 refine(by kernel_rfl:(Ke (E,C,G)→Z44 E→Jgc (Z32 n ns vs tx)→Jb (Z32 n ns vs tx)=0→Jsa E C G n ns vs tx=0→Jej ns vs∧Br (Jb (Z32 n ns vs tx) !=0) (Sf true (Sf T ((E,C,G)=Vo (E,C,G) (Z32 n ns vs tx)∧Jb (Z32 n ns vs tx)=Ue (E,C,G) (Z32 n ns vs tx)))) ((Ke (E,C,G)∧Jb (Z32 n ns vs tx)=0)∧Br (Jsa E C G n ns vs tx !=0) (Sf true (Sf T ((E,C,G)=Vo (E,C,G) (Z32 n ns vs tx)∧Jsa E C G n ns vs tx=Ue (E,C,G) (Z32 n ns vs tx)))) (Jdp ns vs∧Jdy E∧Br false (Z65 C∧Jek C G∧Sf true (Sf T ((E++[Z32 n ns vs tx],Jem C G)=Vo (E,C,G) (Z32 n ns vs tx)∧0=Ue (E,C,G) (Z32 n ns vs tx)))) (Br (Ye G) (Yd G∧Jei G∧J3d G ns vs∧Kx vs∧Fp C G∧Sf true (Sf T ((E++[Z32 n ns vs tx],C++[Z32 n ns vs tx],G++[(Z91 vs,(Kuk G n ns vs tx).1,(Kuc G n ns vs tx).1,(Ktz G n ns vs tx).1,(Ktu G n ns vs tx).1,E2 (Ktu G n ns vs tx).2)])=Vo (E,C,G) (Z32 n ns vs tx)∧0=Ue (E,C,G) (Z32 n ns vs tx)))) (Jdo∧Kje ns vs∧Kx vs∧Fp C G∧Sf true (Sf T ((E++[Z32 n ns vs tx],C++[Z32 n ns vs tx],G++[(Z91 vs,(K0o n ns vs tx).1,(Kz7 n ns vs tx).1,(Kzw n ns vs tx).1,(Kzn n ns vs tx).1,E2 (Kzn n ns vs tx).2)])=Vo (E,C,G) (Z32 n ns vs tx)∧0=Ue (E,C,G) (Z32 n ns vs tx))))))))=_).mp ?_
 delta Z6 Z32 Z34 Z44 Z52 Z56 Z65 Z91 Kx Ye Xe Jb2 Di Jsa Jdy Jhl Jdp Dp Jdo V4 Yd Y4 Jem Jih Fp K0o Fo Fn Kz7 Jau F9 H1 Kzw H0 Kzn Du Hn Jek Jej Kje F8 Jei Yq Xd Kuk Kuc Ktz Ktu J3d Br Iw Bd T2 Tw Sf Ln Gt E2 Jt
 intro hh hlt hsz hc ha
 obtain⟨u0,aE,aP⟩:=Jhc (k:=Jt) (by kernel_rfl) hc ha
 obtain⟨hn,hv,hR,_,n1,n2,n3,hG,hV⟩:=Ld hh hc
 simp only[J5,List.length_cons,List.length_nil] at hn hv u0
 obtain⟨k0,u1⟩:=Jl u0
 have f0:=J1n (k0 rfl)
 have hs:Jq (J7 G) (n,Jt,ns,vs,tx)=(vs.getD 0 0,(F2 (J7 G) (n,Jt,ns,vs,tx)).2):=by simp only[Jq,doS,J5]
 simp only[aE,aP,hs,hc,ha,hG,H4,Jh3,Prod.eta]
 repeat' first|exact hV|exact hh|exact hR|exact hsz.2.2|apply And.intro|intro _
 all_goals first|trivial|omega|assumption|exact Nat.le_trans hR.nS Od|exact Nat.le_trans hR.nO Od|exact Nat.le_trans hR.nM Od|exact Nat.le_trans hR.nX Od|exact Nat.le_trans hR.nQ Od|exact Nat.zero_le _|exact hsz.1|exact hsz.2.1|(rename_i h;have h:=of_decide_eq_true h;omega)|rfl|(rw[←Ko ‹_›];first|done|exact hR)|(rw[Ko ‹_›] at f0;exact f0)
def K0r (a:Int) (b:Ls) (c:Li) (d:Bt):=(F4 V4 (Z22 a b c d)).2
def K0g (a:Int) (b:Ls) (c:Li) (d:Bt):=(K0r a b c d).2
def Kz5 (a:Int) (b:Ls) (c:Li) (d:Bt):=(K0g a b c d).2
def Kzs (a:Int) (b:Ls) (c:Li) (d:Bt):=(Kz5 a b c d).2
def Kus (a:List Reg) (b:Int) (c:Ls) (d:Li) (e:Bt):=(F4 (Yq a) (Z22 b c d e)).2
def Kui (a:List Reg) (b:Int) (c:Ls) (d:Li) (e:Bt):=(Kus a b c d e).2
def Kt7 (a:List Reg) (b:Int) (c:Ls) (d:Li) (e:Bt):=(Kui a b c d e).2
def Ktx (a:List Reg) (b:Int) (c:Ls) (d:Li) (e:Bt):=(Kt7 a b c d e).2
theorem Jlf:wpFO Tryz.prog W92.g (na ()) (fun _=>na ()) (Sx.look ([(75,Tryz.f75),(129,Tryz.f129)]:List (Nat×Func))) Tryz.f121 Jcr T (E,C,G) ((n,Kg,ns,vs,tx),()):=by
 refine(by kernel_rfl:(Ke (E,C,G)→Z44 E→Jgc (Z22 n ns vs tx)→Jb (Z22 n ns vs tx)=0→Jsc E C G n ns vs tx=0→Jej ns vs∧Br (Jb (Z22 n ns vs tx) !=0) (Sf true (Sf T ((E,C,G)=Vo (E,C,G) (Z22 n ns vs tx)∧Jb (Z22 n ns vs tx)=Ue (E,C,G) (Z22 n ns vs tx)))) ((Ke (E,C,G)∧Jb (Z22 n ns vs tx)=0)∧Br (Jsc E C G n ns vs tx !=0) (Sf true (Sf T ((E,C,G)=Vo (E,C,G) (Z22 n ns vs tx)∧Jsc E C G n ns vs tx=Ue (E,C,G) (Z22 n ns vs tx)))) (Jdp ns vs∧Jdy E∧Br false (Z65 C∧Jek C G∧Sf true (Sf T ((E++[Z22 n ns vs tx],Jem C G)=Vo (E,C,G) (Z22 n ns vs tx)∧0=Ue (E,C,G) (Z22 n ns vs tx)))) (Br (Ye G) (Yd G∧Jei G∧(Xd G∧J0b ns)∧Kx vs∧Fp C G∧Sf true (Sf T ((E++[Z22 n ns vs tx],C++[Z22 n ns vs tx],G++[(Z91 vs,(Kus G n ns vs tx).1,(Kui G n ns vs tx).1,(Kt7 G n ns vs tx).1,(Ktx G n ns vs tx).1,E2 (Ktx G n ns vs tx).2)])=Vo (E,C,G) (Z22 n ns vs tx)∧0=Ue (E,C,G) (Z22 n ns vs tx)))) (Jdo∧(Y4∧J0b ns)∧Kx vs∧Fp C G∧Sf true (Sf T ((E++[Z22 n ns vs tx],C++[Z22 n ns vs tx],G++[(Z91 vs,(K0r n ns vs tx).1,(K0g n ns vs tx).1,(Kz5 n ns vs tx).1,(Kzs n ns vs tx).1,E2 (Kzs n ns vs tx).2)])=Vo (E,C,G) (Z22 n ns vs tx)∧0=Ue (E,C,G) (Z22 n ns vs tx))))))))=_).mp ?_
 delta Z6 Z22 Z34 Z44 Z52 Z65 Z91 Kx Ye Jb2 J0b Jsc Jdy Jhl Jdp Dp Jdo V4 Yd Y4 Jem Jih Fp K0r Fo K0g Fn Jau Kz5 F9 H1 Kzs H0 Du Hn Jek Jej F8 Jei Yq Xd Kus Kui Kt7 Ktx Br Iw Bd T2 Tw Sf Ln Gt E2 Kg
 intro hh hlt hsz hc ha
 obtain⟨u0,aE,aP⟩:=Jhc (k:=Kg) (by kernel_rfl) hc ha
 obtain⟨hn,hv,hR,_,n1,n2,n3,hG,hV⟩:=Ld hh hc
 simp only[K1,List.length_cons,List.length_nil] at hn hv u0
 obtain⟨k0,u1⟩:=Jl u0
 obtain⟨k1,u2⟩:=Jl u1
 have f1:=J1n (k1 rfl)
 have hs:Jq (J7 G) (n,Kg,ns,vs,tx)=(vs.getD 0 0,(F4 (J7 G) (n,Kg,ns,vs,tx)).2):=by simp only[Jq,doS,K1]
 simp only[aE,aP,hs,hc,ha,hG,H4,Jh3,Prod.eta]
 repeat' first|exact hV|exact hh|exact hR|exact hsz.2.2|apply And.intro|intro _
 all_goals first|trivial|omega|assumption|exact Nat.le_trans hR.nS Od|exact Nat.le_trans hR.nO Od|exact Nat.le_trans hR.nM Od|exact Nat.le_trans hR.nX Od|exact Nat.le_trans hR.nQ Od|exact Nat.zero_le _|exact hsz.1|exact hsz.2.1|(rename_i h;have h:=of_decide_eq_true h;omega)|rfl|(rw[←Ko ‹_›];first|done|exact hR)|exact Ko ‹_› ▸f1
def K0u (a:Int) (b:Ls) (c:Li) (d:Bt):=(Jhh V4 (Z23 a b c d)).2
def K0i (a:Int) (b:Ls) (c:Li) (d:Bt):=(K0u a b c d).2
def Kz9 (a:Int) (b:Ls) (c:Li) (d:Bt):=(K0i a b c d).2
def Kzt (a:Int) (b:Ls) (c:Li) (d:Bt):=(Kz9 a b c d).2
def Kuv (a:List Reg) (b:Int) (c:Ls) (d:Li) (e:Bt):=(Jhh (Yq a) (Z23 b c d e)).2
def Kul (a:List Reg) (b:Int) (c:Ls) (d:Li) (e:Bt):=(Kuv a b c d e).2
def Kue (a:List Reg) (b:Int) (c:Ls) (d:Li) (e:Bt):=(Kul a b c d e).2
def Kt1 (a:List Reg) (b:Int) (c:Ls) (d:Li) (e:Bt):=(Kue a b c d e).2
theorem Jle:wpFO Tryz.prog W92.g (na ()) (fun _=>na ()) (Sx.look ([(75,Tryz.f75),(129,Tryz.f129)]:List (Nat×Func))) Tryz.f121 Jcr T (E,C,G) ((n,Kf,ns,vs,tx),()):=by
 refine(by kernel_rfl:(Ke (E,C,G)→Z44 E→Jgc (Z23 n ns vs tx)→Jb (Z23 n ns vs tx)=0→Jsb E C G n ns vs tx=0→Jej ns vs∧Br (Jb (Z23 n ns vs tx) !=0) (Sf true (Sf T ((E,C,G)=Vo (E,C,G) (Z23 n ns vs tx)∧Jb (Z23 n ns vs tx)=Ue (E,C,G) (Z23 n ns vs tx)))) ((Ke (E,C,G)∧Jb (Z23 n ns vs tx)=0)∧Br (Jsb E C G n ns vs tx !=0) (Sf true (Sf T ((E,C,G)=Vo (E,C,G) (Z23 n ns vs tx)∧Jsb E C G n ns vs tx=Ue (E,C,G) (Z23 n ns vs tx)))) (Jdp ns vs∧Jdy E∧Br false (Z65 C∧Jek C G∧Sf true (Sf T ((E++[Z23 n ns vs tx],Jem C G)=Vo (E,C,G) (Z23 n ns vs tx)∧0=Ue (E,C,G) (Z23 n ns vs tx)))) (Br (Ye G) (Yd G∧Jei G∧J3f G ns∧Kx vs∧Fp C G∧Sf true (Sf T ((E++[Z23 n ns vs tx],C++[Z23 n ns vs tx],G++[(Z91 vs,(Kuv G n ns vs tx).1,(Kul G n ns vs tx).1,(Kue G n ns vs tx).1,(Kt1 G n ns vs tx).1,E2 (Kt1 G n ns vs tx).2)])=Vo (E,C,G) (Z23 n ns vs tx)∧0=Ue (E,C,G) (Z23 n ns vs tx)))) (Jdo∧Kjr ns∧Kx vs∧Fp C G∧Sf true (Sf T ((E++[Z23 n ns vs tx],C++[Z23 n ns vs tx],G++[(Z91 vs,(K0u n ns vs tx).1,(K0i n ns vs tx).1,(Kz9 n ns vs tx).1,(Kzt n ns vs tx).1,E2 (Kzt n ns vs tx).2)])=Vo (E,C,G) (Z23 n ns vs tx)∧0=Ue (E,C,G) (Z23 n ns vs tx))))))))=_).mp ?_
 delta Z6 Z23 Z34 Z44 Z52 Z65 Z91 Kx Ye Xe Jb2 Di Jsb Jdy Jhl Jdp Dp Jdo V4 Yd Y4 Jem Jih Fp K0u Fo K0i Fn Kz9 Jau F9 H1 Kzt H0 Du Hn Jek Jej Kjr F8 Jei Yq Xd Kuv Kul Kue Kt1 J3f Br Iw Bd T2 Tw Sf Ln Gt E2 Kf
 intro hh hlt hsz hc ha
 obtain⟨u0,aE,aP⟩:=Jhc (k:=Kf) (by kernel_rfl) hc ha
 obtain⟨hn,hv,hR,_,n1,n2,n3,hG,hV⟩:=Ld hh hc
 simp only[K0,List.length_cons,List.length_nil] at hn hv u0
 obtain⟨k0,u1⟩:=Jl u0
 have f0:=Kik (k0 rfl)
 have hs:Jq (J7 G) (n,Kf,ns,vs,tx)=(vs.getD 0 0,(Jhh (J7 G) (n,Kf,ns,vs,tx)).2):=by simp only[Jq,doS,K0]
 simp only[aE,aP,hs,hc,ha,hG,H4,Jh3,Prod.eta]
 repeat' first|exact hV|exact hh|exact hR|exact hsz.2.2|apply And.intro|intro _
 all_goals first|trivial|omega|assumption|exact Nat.le_trans hR.nS Od|exact Nat.le_trans hR.nO Od|exact Nat.le_trans hR.nM Od|exact Nat.le_trans hR.nX Od|exact Nat.le_trans hR.nQ Od|exact Nat.zero_le _|exact hsz.1|exact hsz.2.1|(rename_i h;have h:=of_decide_eq_true h;omega)|rfl|(rw[←Ko ‹_›];first|done|exact hR)|(rw[Ko ‹_›] at f0;exact f0)
def K0q (a:Int) (b:Ls) (c:Li) (d:Bt):=(Jbl V4 (Z18 a b c d)).2
def K0f (a:Int) (b:Ls) (c:Li) (d:Bt):=(K0q a b c d).2
def Kz3 (a:Int) (b:Ls) (c:Li) (d:Bt):=(K0f a b c d).2
def Kzq (a:Int) (b:Ls) (c:Li) (d:Bt):=(Kz3 a b c d).2
def Kuq (a:List Reg) (b:Int) (c:Ls) (d:Li) (e:Bt):=(Jbl (Yq a) (Z18 b c d e)).2
def Kug (a:List Reg) (b:Int) (c:Ls) (d:Li) (e:Bt):=(Kuq a b c d e).2
def Kt6 (a:List Reg) (b:Int) (c:Ls) (d:Li) (e:Bt):=(Kug a b c d e).2
def Kty (a:List Reg) (b:Int) (c:Ls) (d:Li) (e:Bt):=(Kt6 a b c d e).2
theorem Jld:wpFO Tryz.prog W92.g (na ()) (fun _=>na ()) (Sx.look ([(75,Tryz.f75),(129,Tryz.f129)]:List (Nat×Func))) Tryz.f121 Jcr T (E,C,G) ((n,Jk,ns,vs,tx),()):=by
 refine(by kernel_rfl:(Ke (E,C,G)→Z44 E→Jgc (Z18 n ns vs tx)→Jb (Z18 n ns vs tx)=0→Jps E C G n ns vs tx=0→Jej ns vs∧Br (Jb (Z18 n ns vs tx) !=0) (Sf true (Sf T ((E,C,G)=Vo (E,C,G) (Z18 n ns vs tx)∧Jb (Z18 n ns vs tx)=Ue (E,C,G) (Z18 n ns vs tx)))) ((Ke (E,C,G)∧Jb (Z18 n ns vs tx)=0)∧Br (Jps E C G n ns vs tx !=0) (Sf true (Sf T ((E,C,G)=Vo (E,C,G) (Z18 n ns vs tx)∧Jps E C G n ns vs tx=Ue (E,C,G) (Z18 n ns vs tx)))) (Jdp ns vs∧Jdy E∧Br false (Z65 C∧Jek C G∧Sf true (Sf T ((E++[Z18 n ns vs tx],Jem C G)=Vo (E,C,G) (Z18 n ns vs tx)∧0=Ue (E,C,G) (Z18 n ns vs tx)))) (Br (Ye G) (Yd G∧Jei G∧J96 G vs∧Kx vs∧Fp C G∧Sf true (Sf T ((E++[Z18 n ns vs tx],C++[Z18 n ns vs tx],G++[(Z91 vs,(Kuq G n ns vs tx).1,(Kug G n ns vs tx).1,(Kt6 G n ns vs tx).1,(Kty G n ns vs tx).1,E2 (Kty G n ns vs tx).2)])=Vo (E,C,G) (Z18 n ns vs tx)∧0=Ue (E,C,G) (Z18 n ns vs tx)))) (Jdo∧Kaq vs∧Kx vs∧Fp C G∧Sf true (Sf T ((E++[Z18 n ns vs tx],C++[Z18 n ns vs tx],G++[(Z91 vs,(K0q n ns vs tx).1,(K0f n ns vs tx).1,(Kz3 n ns vs tx).1,(Kzq n ns vs tx).1,E2 (Kzq n ns vs tx).2)])=Vo (E,C,G) (Z18 n ns vs tx)∧0=Ue (E,C,G) (Z18 n ns vs tx))))))))=_).mp ?_
 delta Z6 Z18 Z34 Z44 Z52 Z61 Z65 Z91 Kx Ye Jb2 Jps Jdy Jhl Jdp Dp Jdo V4 Yd Y4 Jem Jih Fp K0q Fo K0f Fn Jau Kaq Kz3 F9 H1 Kzq H0 Du Hn Jek Jej F8 Jei Yq Xd Kuq Kug J96 Kt6 Kty Br Iw Bd T2 Tw Sf Ln Gt E2 Jk
 intro hh hlt hsz hc ha
 obtain⟨u0,aE,aP⟩:=Jhc (k:=Jk) (by kernel_rfl) hc ha
 obtain⟨hn,hv,hR,_,n1,n2,n3,hG,hV⟩:=Ld hh hc
 simp only[Uy,List.length_cons,List.length_nil] at hn hv u0
 have hs:Jq (J7 G) (n,Jk,ns,vs,tx)=(vs.getD 0 0,(Jbl (J7 G) (n,Jk,ns,vs,tx)).2):=by simp only[Jq,doS,Uy]
 simp only[aE,aP,hs,hc,ha,hG,H4,Jh3,Prod.eta]
 repeat' first|exact hV|exact hh|exact hR|exact hsz.2.2|apply And.intro|intro _
 all_goals first|trivial|omega|assumption|exact Nat.le_trans hR.nS Od|exact Nat.le_trans hR.nO Od|exact Nat.le_trans hR.nM Od|exact Nat.le_trans hR.nX Od|exact Nat.le_trans hR.nQ Od|exact Nat.zero_le _|exact hsz.1|exact hsz.2.1|(rename_i h;have h:=of_decide_eq_true h;omega)|rfl|(rw[←Ko ‹_›];first|done|exact hR)
abbrev GG:Gam:=[(64,Kd0),(130,X8.con Jrq),(81,J37),(216,Jhj 127 Ft),(217,Jhj 130 Lt),(218,Jhj 155 Jaw),(219,Jhj 188 Zw),(220,Jhj 235 Hw)]
theorem gG:Y0 Tryz.prog GG:= .cons K3h (.cons Kci (.cons K3g (.cons Kch (.cons Kcg (.cons Kcf (.cons Kce (.cons Kcd (.nil _))))))))
def Kd3:X8:={Kim with pre:=fun h (e,_)=>[Ke h,h.1.length<1000,Jgc e,¬(Jb e=0∧Dc h e=0)]}
theorem Juy (T:TypeId) (E C:List Ev) (G:List Reg) (n:Int) (k:ByteArray) (ns:List ByteArray) (vs:List Int) (tx:ByteArray):wpFO Tryz.prog GG (na ()) (fun _=>na ()) (Sx.look ([(75,Tryz.f75),(129,Tryz.f129)]:List (Nat×Func))) Tryz.f121 Kd3 T (E,C,G) ((n,k,ns,vs,tx),()):=by
 refine(by kernel_rfl:(Ke (E,C,G)→Z44 E→Jgc (n,k,ns,vs,tx)→(Jb (n,k,ns,vs,tx)=0∧Dc (E,C,G) (n,k,ns,vs,tx)=0→False)→Jej ns vs∧Br (Jb (n,k,ns,vs,tx) !=0) (Sf true (Sf T ((E,C,G)=Vo (E,C,G) (n,k,ns,vs,tx)∧Jb (n,k,ns,vs,tx)=Ue (E,C,G) (n,k,ns,vs,tx)))) ((Ke (E,C,G)∧Jb (n,k,ns,vs,tx)=0)∧Br (Dc (E,C,G) (n,k,ns,vs,tx) !=0) (Sf true (Sf T ((E,C,G)=Vo (E,C,G) (n,k,ns,vs,tx)∧Dc (E,C,G) (n,k,ns,vs,tx)=Ue (E,C,G) (n,k,ns,vs,tx)))) (Jdp ns vs∧Jdy E∧Br (Lb k Ju) (Z65 C∧Jek C G∧Sf true (Sf T ((E++[(n,k,ns,vs,tx)],Jem C G)=Vo (E,C,G) (n,k,ns,vs,tx)∧0=Ue (E,C,G) (n,k,ns,vs,tx)))) (Br (Ye G) (Yd G∧Jei G∧Jzj 777 1) (Jdo∧Jzj 777 1)))))=_).mp ?_
 delta Z6 Z44 Z52 Z65 Ye Jb2 Jdy Jhl Jdp Dp Jdo V4 Yd Jem Jih Fo Fn H1 H0 Du Hn Jek Jej Jei Br Iw Bd T2 Tw Sf Ln Gt Lb Ju
 intro hh hlt hsz hx
 have n1:E.length≤1000:=hh.nE
 have e1:Jb (n,k,ns,vs,tx)≠0→Ue (E,C,G) (n,k,ns,vs,tx)=Jb (n,k,ns,vs,tx):=fun h=>by unfold Ue;rw[if_pos h]
 have e2:¬Jb (n,k,ns,vs,tx)≠0→Ue (E,C,G) (n,k,ns,vs,tx)=Dc (E,C,G) (n,k,ns,vs,tx):=fun h=>by unfold Ue;rw[if_neg h]
 have e3:Ue (E,C,G) (n,k,ns,vs,tx)≠0→Vo (E,C,G) (n,k,ns,vs,tx)=(E,C,G):=fun h=>by unfold Vo;rw[if_neg h]
 refine⟨⟨hsz.1,hsz.2.1,hsz.2.2⟩,fun h=> ?_,fun h=>⟨⟨hh, ?_⟩,fun h2=> ?_,fun h2=> ?_⟩⟩
 ·have h:Jb (n,k,ns,vs,tx)≠0:=bne_iff_ne.1 h
  exact⟨rfl,rfl,(e3 (by rw[e1 h];exact h)).symm,(e1 h).symm⟩
 ·exact bne_eq_false_iff_eq.1 h
 ·have h:Jb (n,k,ns,vs,tx)=0:=bne_eq_false_iff_eq.1 h
  have h2:Dc (E,C,G) (n,k,ns,vs,tx)≠0:=bne_iff_ne.1 h2
  have e4:=e2 (by rw[h];simp)
  exact⟨rfl,rfl,(e3 (by rw[e4];exact h2)).symm,e4.symm⟩
 ·exact absurd ⟨bne_eq_false_iff_eq.1 h,bne_eq_false_iff_eq.1 h2⟩ hx
theorem Jv6 {f:FuncId} {c:X8} {p1 p2:c.s.T→ATup c.args→List Prop} (h1:OkO Tryz.prog f {c with pre:=p1}) (h2:OkO Tryz.prog f {c with pre:=p2}) (h:∀x y,Ux (c.pre x y)→Ux (p1 x y)∨Ux (p2 x y)):OkO Tryz.prog f c:=
 ⟨h1.1,fun x y M R B w b T cells vals vs hB hMR hg hw hBb hMb hRb hT ho hv hpre ha=>(h x y hpre).elim (fun q=>h1.2 x y M R B w b T cells vals vs hB hMR hg hw hBb hMb hRb hT ho hv q ha) fun q=>h2.2 x y M R B w b T cells vals vs hB hMR hg hw hBb hMb hRb hT ho hv q ha⟩
theorem Kb2 (T:TypeId):∀(x:Kh) (y:ATup [aEv]),wpFO Tryz.prog W92.g (na ()) (fun _=>na ()) (Sx.look ([(75,Tryz.f75),(129,Tryz.f129)]:List (Nat×Func))) Tryz.f121 Jcr T x y
 |(E,C,G),((n,k,ns,vs,tx),())=>by
  refine Jir (by kernel_rfl) fun hp=> ?_
  have hc:Jb (n,k,ns,vs,tx)=0:=hp.2.2.2.1
  rcases Vd (Ud hc).kind with h|h|h|h|h|h|h|h|h|h|h<;>dsimp only at h<;>subst h
  ·exact Jst T E C G n ns vs tx
  ·exact Jiw T E C G n ns vs tx
  ·exact Jn1 T E C G n ns vs tx
  ·exact Jn2 T E C G n ns vs tx
  ·exact Jn3 T E C G n ns vs tx
  ·exact Jsu T E C G n ns vs tx
  ·exact Jlg T E C G n ns vs tx
  ·exact Jix T E C G n ns vs tx
  ·exact Jlf T E C G n ns vs tx
  ·exact Jle T E C G n ns vs tx
  ·exact Jld T E C G n ns vs tx
theorem okK:OkO Tryz.prog 121 Jcr:=Ul mixed W92.ok (by kernel_rfl) (by kernel_rfl) (U5 (l:=([(75,Tryz.f75),(129,Tryz.f129)]:List (Nat×Func))) (List.forall_mem_cons.2 ⟨by kernel_rfl,List.forall_mem_cons.2 ⟨by kernel_rfl,by simp⟩⟩)) (fun _ _=>na ()) (fun _ _=>fun _=>na ()) fun T xx yy _=>Kb2 T xx yy
theorem okG:OkO Tryz.prog 121 Kd3:=Ul mixed gG (by kernel_rfl) (by kernel_rfl) (U5 (l:=([(75,Tryz.f75),(129,Tryz.f129)]:List (Nat×Func))) (List.forall_mem_cons.2 ⟨by kernel_rfl,List.forall_mem_cons.2 ⟨by kernel_rfl,by simp⟩⟩)) (fun _ _=>na ()) (fun _ _=>fun _=>na ()) fun T xx yy _=>Juy T xx.1 xx.2.1 xx.2.2 yy.1.1 yy.1.2.1 yy.1.2.2.1 yy.1.2.2.2.1 yy.1.2.2.2.2
theorem Krv:Ok Tryz.prog 121 (X8.con Kim):=Zd (Jv6 (c:=Kim) okK okG fun x y hp=>by
 by_cases h:Jb y.1=0∧Dc x y.1=0
 ·exact .inl ⟨hp.1,hp.2.1,hp.2.2,h.1,h.2⟩
 ·exact .inr ⟨hp.1,hp.2.1,hp.2.2,h⟩)
abbrev W93:=W92.add Krv
theorem Vn {α:Type} {p:α→Bool} {m:List α}:∀{l:List α} {k:Nat},0≤Vx p l k→Vx p (l++m) k=Vx p l k
 |[],k,h=>by simp[Vx] at h
 | x :: l, k, h => by
  show(if p x=true then(k:Int) else Vx p (l++m) (k+1))=(if p x=true then(k:Int) else Vx p l (k+1))
  have h:0≤(if p x=true then(k:Int) else Vx p l (k+1)):=h
  by_cases hp:p x=true
  ·rw[if_pos hp,if_pos hp]
  ·rw[if_neg hp] at h
   rw[if_neg hp,if_neg hp,Vn h]
theorem L0 {α:Type} {p:α→Bool} {y:α}:∀{l:List α} {i k:Nat},(∀x,l[i]? =some x→p y=p x)→Vx p (l.set i y) k=Vx p l k
 |[],_,_,_=>rfl
 |x::l,0,k,h=>by
  have:=h x rfl
  simp only[List.set_cons_zero]
  unfold Vx
  rw[this]
 |x::l,i+1,k,h=>by
  simp only[List.set_cons_succ]
  unfold Vx
  rw[L0 fun z hz=>h z (by simpa using hz)]
theorem Jck {α:Type} {l:List α} {i:Nat} {d x:α} (h:l[i]? =some x):l.getD i d=x:=by
 rw[List.getD_eq_getElem?_getD,h];rfl
theorem Jcd {α:Type} {l:List α} {i:Nat} {y x:α} (h:x∈l.set i y):x=y∨x∈l:=by
 rcases List.mem_or_eq_of_mem_set h with h|h
 ·exact .inr h
 ·exact .inl h
theorem Vu {α:Type} {l:List α} {y x:α} (h:x∈l++[y]):x∈l∨x=y:=by
 rcases List.mem_append.1 h with h|h
 ·exact .inl h
 ·exact .inr (by simpa using h)
theorem Yv {b:Bool} {c:Int} (hc:c≠0) (h:(bif b then c else 0)=0):b=false:=by
 cases b with
 |true=>exact absurd h hc
 |false=>rfl
theorem Yo {a b:Int} (h:Ji [a,b]=0):a=0∧b=0:=
 ⟨Uw.1 h _ (List.mem_cons_self ..),Uw.1 h _ (List.mem_cons_of_mem _ (List.mem_cons_self ..))⟩
theorem L2 {a b c:Int} (h:Ji [a,b,c]=0):a=0∧b=0∧c=0:=
 ⟨Uw.1 h _ (by simp),Uw.1 h _ (by simp),Uw.1 h _ (by simp)⟩
theorem Jag {O:List Ord} {s:ByteArray} (h:0≤Kd O s):Vk O s∈O:=by
 have:=Uj (l:=O) (s:=s)
 exact Je Oo
theorem Jv4 {X:List Out} {s:ByteArray} (h:0≤J6 X s):Le X s∈X:=by
 have:=Ut (l:=X) (s:=s)
 exact Je Oo
theorem Joa {S:List Sta} {s:ByteArray} (h:0≤Jn S s):Yi S s∈S:=by
 have:=Kt (l:=S) (s:=s)
 exact Je Oo
theorem J5s {Q:List Per} {s:ByteArray} (h:0≤Va Q s):Jnh Q s∈Q:=by
 have:=U8 (l:=Q) (s:=s)
 exact Je Oo
theorem Jcy.mono {S S':List Sta} {x:Ord} (h:Jcy S x) (hs:∀s,0≤Jn S s→0≤Jn S' s):Jcy S' x:=⟨h.span,h.pow,h.pri,h.trip,hs _ h.fr,hs _ h.tu⟩
theorem Jpv.mono {S S':List Sta} {x:Out} (h:Jpv S x) (hs:∀s,0≤Jn S s→0≤Jn S' s):Jpv S' x:=⟨h.span,h.rest,hs _ h.sta⟩
section
variable {tk st v:Int} {S:List Sta} {O:List Ord} {M:List Met} {X:List Out} {Q:List Per} {n:Int} {k tx:ByteArray} {ns:List ByteArray} {vs:List Int}
theorem Js2 (hr:Jj (tk,st,S,O,M,X,Q)) (hv:tk≤v∧v≤999999999) (hc:Jm4 S vs=0) {a:ByteArray}:Jj (v,st,S++[(a,vs.getD 1 0,0)],O,M,X,Q):=by
 obtain⟨c1,c2⟩:=Yo hc
 have c1:=U4.1 c1
 have c2:=of_decide_eq_false (Yv Od c2)
 have hs:∀s,0≤Jn S s→0≤Jn (S++[(a,vs.getD 1 0,0)]) s:=fun s h=>by unfold Jn at h⊢;rw[Vn h];exact h
 have h0:=hr.tk
 have h1:=hr.st
 dsimp only at h0 h1
 refine⟨by dsimp only;omega,by dsimp only;omega,by dsimp only;rw[List.length_append,List.length_singleton];omega,hr.nO,hr.nM,hr.nX,hr.nQ,fun x hx=> ?_,fun x hx=>(hr.ord x hx).mono hs,hr.met,fun x hx=>(hr.out x hx).mono hs,hr.per,hr.done⟩
 rcases Vu hx with h|rfl
 ·exact hr.sta x h
 ·exact⟨c1,Int.le_refl 0,by show(0:Int)≤1000;decide⟩
theorem J0n (hr:Jj (tk,st,S,O,M,X,Q)) (hv:tk≤v∧v≤999999999) (hc:Jpd vs=0) {a:ByteArray} (ha:0≤Jn S a):Jj (v,st,S.set (Jn S a).toNat ((Yi S a).1,(Yi S a).2.1,vs.getD 1 0),O,M,X,Q):=by
 have c1:=U4.1 hc
 have hs:∀s,0≤Jn S s→0≤Jn (S.set (Jn S a).toNat ((Yi S a).1,(Yi S a).2.1,vs.getD 1 0)) s:=fun s h=>by
  unfold Jn at h⊢
  rw[L0 fun x hx=> ?_]
  ·exact h
  ·have:=Jck (d:=X4) hx
   show((Yi S a).1.toList==s.toList)=_
   unfold Yi Jn
   rw[this]
 have h0:=hr.tk
 have h1:=hr.st
 dsimp only at h0 h1
 refine⟨by dsimp only;omega,by dsimp only;omega,by rw[List.length_set];exact hr.nS,hr.nO,hr.nM,hr.nX,hr.nQ,fun x hx=> ?_,fun x hx=>(hr.ord x hx).mono hs,hr.met,fun x hx=>(hr.out x hx).mono hs,hr.per,hr.done⟩
 rcases Jcd hx with rfl|h
 ·exact⟨(hr.sta _ (Joa ha)).lim,c1⟩
 ·exact hr.sta x h
theorem J0p (hr:Jj (tk,st,S,O,M,X,Q)) (hv:tk≤v∧v≤999999999) (hm:M.length<10000) (ho:0≤Kd O (ns.getD 0 Ja)) (hb:∀i,i<4→0≤vs.getD i 0∧vs.getD i 0≤999999999) (hc:Jko O M ns vs=0):Jj (v,st,S,O,M++[(ns.getD 0 Ja,vs.getD 1 0,vs.getD 2 0,vs.getD 3 0)],X,Q):=by
 have h5:=Yv Od (Uw.1 hc _ (List.mem_cons_of_mem _ (List.mem_cons_of_mem _ (List.mem_cons_of_mem _ (List.mem_cons_of_mem _ (List.mem_cons_self ..))))))
 have h6:=bn1 h5
 have p1:=of_decide_eq_false h6.1
 have p2:=of_decide_eq_false h6.2
 have hp:1≤(Vk O (ns.getD 0 Ja)).2.2.2.2.1∧(Vk O (ns.getD 0 Ja)).2.2.2.2.1≤1000:=(hr.ord _ (Jag ho)).pow
 have h0:=hr.tk
 have h1:=hr.st
 dsimp only at h0 h1
 have b1:=hb 1 Oo
 have b2:=hb 2 Oo
 have b3:=hb 3 Oo
 refine⟨by dsimp only;omega,by dsimp only;omega,hr.nS,hr.nO,by dsimp only;rw[List.length_append,List.length_singleton];omega,hr.nX,hr.nQ,hr.sta,hr.ord,fun x hx=> ?_,hr.out,hr.per,fun x hx h e1 e2=> ?_⟩
 ·rcases Vu hx with h|rfl
  ·exact hr.met x h
  ·exact⟨b1,⟨b2.1,by dsimp only;omega⟩,⟨b3.1,by dsimp only;omega⟩⟩
 ·have:=hr.done x hx h e1 e2
  unfold Kw at this⊢
  dsimp only at this⊢
  rw[Vn this];exact this
theorem Jqc {e:Ev} (hv:EvV e) (hl:e.2.2.2.1.length=4) (hc:Zs e=0):Jnd (Vt e)∧e.2.2.2.1.getD 0 0≤(Vt e).1:=by
 have h:=Yv Od hc
 have h1:=bn1 h
 have h2:=bn1 h1.1
 have e1:=of_decide_eq_false h2.1
 have e2:=of_decide_eq_false h2.2
 have e3:=of_decide_eq_false h1.2
 have v1:0≤(Vt e).1∧(Vt e).1≤999999999:=hv _ (Je Oo)
 have v2:0≤(Vt e).2∧(Vt e).2≤999999999:=hv _ (Je Oo)
 exact⟨⟨v1.1,Oo,v2.2,Oo⟩,Oo⟩
theorem J0o (hr:Jj (tk,st,S,O,M,X,Q)) (hv:tk≤v∧v≤999999999) (hvs:v=vs.getD 0 0) (hE:EvV (n,k,ns,vs,tx)) (hl:vs.length=4) (h1:0≤Jn S (ns.getD 1 Ja)) (h2:0≤Jn S (ns.getD 2 Ja)) (hc:Jbs S O X (n,k,ns,vs,tx)=0):Jj (v,st,S,O++[(ns.getD 0 Ja,ns.getD 1 Ja,ns.getD 2 Ja,Vt (n,k,ns,vs,tx),vs.getD 3 0,(Yi S (ns.getD 1 Ja)).2.2,-1)],M,X,Q):=by
 have hk:¬Jbr (n,k,ns,vs,tx)≠0:=fun h=>by unfold Jbs at hc;rw[if_pos h] at hc;exact h hc
 unfold Jbs at hc
 rw[if_neg hk] at hc
 obtain⟨c1,c2⟩:=Yo hc
 have c2:=of_decide_eq_false (Yv Od c2)
 obtain⟨d1,d2,d3⟩:=L2 (show Ji [_,Zs (n,k,ns,vs,tx),Km (vs.getD 3 0) 1 1000]=0 from Decidable.of_not_not hk)
 have d3:=U4.1 d3
 obtain⟨sp,sv⟩:=Jqc hE hl d2
 have sv:vs.getD 0 0≤(Vt (n,k,ns,vs,tx)).1:=sv
 have g0:=hr.tk
 have g1:=hr.st
 dsimp only at g0 g1
 refine⟨by dsimp only;omega,by dsimp only;omega,hr.nS,by dsimp only;rw[List.length_append,List.length_singleton];omega,hr.nM,hr.nX,hr.nQ,hr.sta,fun x hx=> ?_,hr.met,hr.out,hr.per,fun x hx hh e1 e2=> ?_⟩
 ·rcases Vu hx with h|rfl
  ·exact hr.ord x h
  ·exact⟨sp,d3,(hr.sta _ (Joa h1)).pri,⟨Int.le_refl _,by show(-1:Int)≤999999999;decide⟩,h1,h2⟩
 ·rcases Vu hx with h|rfl
  ·exact hr.done x h hh e1 e2
  ·exfalso
   unfold Jh Kk at e1
   dsimp only at e1 e2
   cases h3:decide ((Vt (n,k,ns,vs,tx)).1≤hh) with
   |true=>have:=of_decide_eq_true h3;omega
   |false=>rw[h3] at e1;cases e1
theorem Jvf (hr:Jj (tk,st,S,O,M,X,Q)) (hv:tk≤v∧v≤999999999) (hE:EvV (n,k,ns,vs,tx)) (hl:vs.length=4) (h1:0≤Jn S (ns.getD 1 Ja)) (hc:Jbq S O X (n,k,ns,vs,tx)=0):Jj (v,st,S,O,M,X++[(ns.getD 0 Ja,ns.getD 1 Ja,Vt (n,k,ns,vs,tx),vs.getD 3 0)],Q):=by
 have hk:¬Jgm S (n,k,ns,vs,tx)≠0:=fun h=>by unfold Jbq at hc;rw[if_pos h] at hc;exact h hc
 unfold Jbq at hc
 rw[if_neg hk] at hc
 obtain⟨c1,c2⟩:=Yo hc
 have c2:=of_decide_eq_false (Yv Od c2)
 obtain⟨d2,d3⟩:=Yo (show Ji [Zs (n,k,ns,vs,tx),bif decide ((Yi S (ns.getD 1 Ja)).2.1≤vs.getD 3 0) then 3 else 0]=0 from Decidable.of_not_not hk)
 have d3:=of_decide_eq_false (Yv Od d3)
 obtain⟨sp,sv⟩:=Jqc hE hl d2
 have hl3:(Yi S (ns.getD 1 Ja)).2.1≤1000:=(hr.sta _ (Joa h1)).lim.2
 have v3:0≤vs.getD 3 0∧vs.getD 3 0≤999999999:=hE _ (Je (show 3<vs.length by omega))
 have hf:∀s,0≤J6 X s→0≤J6 (X++[(ns.getD 0 Ja,ns.getD 1 Ja,Vt (n,k,ns,vs,tx),vs.getD 3 0)]) s:=fun s h=>by unfold J6 at h⊢;rw[Vn h];exact h
 have g0:=hr.tk
 have g1:=hr.st
 dsimp only at g0 g1
 refine⟨by dsimp only;omega,by dsimp only;omega,hr.nS,hr.nO,hr.nM,by dsimp only;rw[List.length_append,List.length_singleton];omega,hr.nQ,hr.sta,hr.ord,hr.met,fun x hx=> ?_,fun x hx=>hf _ (hr.per x hx),hr.done⟩
 rcases Vu hx with h|rfl
 ·exact hr.out x h
 ·exact⟨sp,⟨v3.1,by dsimp only;omega⟩,h1⟩
theorem J5f (hr:Jj (tk,st,S,O,M,X,Q)) (hv:tk≤vs.getD 0 0∧vs.getD 0 0≤999999999) (ho:0≤Kd O (ns.getD 0 Ja)) (hc:Jdh O ns vs=0):Jj (vs.getD 0 0,st,S,Vj O (ns.getD 0 Ja) (vs.getD 0 0),M,X,Q):=by
 have h1:=bn1 (Yv Od hc)
 have c1:(Vk O (ns.getD 0 Ja)).2.2.2.2.2.2= -1:=bne_eq_false_iff_eq.1 h1.1
 have hm:=Jag ho
 have g0:=hr.tk
 have g1:=hr.st
 dsimp only at g0 g1
 have ox:Jcy S (Vk O (ns.getD 0 Ja)):=hr.ord _ hm
 refine⟨by dsimp only;omega,by dsimp only;omega,hr.nS,by unfold Vj;rw[List.length_set];exact hr.nO,hr.nM,hr.nX,hr.nQ,hr.sta,fun x hx=> ?_,hr.met,hr.out,hr.per,fun x hx hh e1 e2=> ?_⟩
 ·rcases Jcd hx with rfl|h
  ·exact⟨ox.span,ox.pow,ox.pri,⟨by dsimp only;omega,hv.2⟩,ox.fr,ox.tu⟩
  ·exact hr.ord x h
 ·rcases Jcd hx with rfl|h
  ·refine hr.done _ hm hh ?_ e2
   unfold Jh at e1⊢
   rw[c1]
   have e1:(bif Kk (Vk O (ns.getD 0 Ja)).2.2.2.1 hh then _ else false)=true:=e1
   cases h3:Kk (Vk O (ns.getD 0 Ja)).2.2.2.1 hh with
   |true=>rfl
   |false=>rw[h3] at e1;cases e1
  ·exact hr.done x h hh e1 e2
theorem Js3 (hr:Jj (tk,st,S,O,M,X,Q)) (hv:tk≤vs.getD 0 0∧vs.getD 0 0≤999999999) (ho:0≤J6 X (ns.getD 0 Ja)) (hc:Jdi X Q ns vs=0):Jj (vs.getD 0 0,st,S,O,M,Jad X (ns.getD 0 Ja) (vs.getD 0 0),Q):=by
 obtain⟨c1,c2,c3⟩:=L2 hc
 have c1:=of_decide_eq_false (Yv Od c1)
 have c2:=of_decide_eq_false (Yv Od c2)
 have hm:=Jv4 ho
 have ox:Jpv S (Le X (ns.getD 0 Ja)):=hr.out _ hm
 have l1:=ox.span.lo
 have l2:=ox.span.len
 have g0:=hr.tk
 have g1:=hr.st
 dsimp only at g0 g1
 have hf:∀s,0≤J6 X s→0≤J6 (Jad X (ns.getD 0 Ja) (vs.getD 0 0)) s:=fun s h=>by
  unfold Jad
  unfold J6 at h⊢
  rw[L0 fun x hx=> ?_]
  ·exact h
  ·have:=Jck (d:=Jax) hx
   show((Le X (ns.getD 0 Ja)).1.toList==s.toList)=_
   unfold Le J6
   rw[this]
 refine⟨by dsimp only;omega,by dsimp only;omega,hr.nS,hr.nO,hr.nM,by unfold Jad;rw[List.length_set];exact hr.nX,hr.nQ,hr.sta,hr.ord,hr.met,fun x hx=> ?_,fun x hx=>hf _ (hr.per x hx),hr.done⟩
 rcases Jcd hx with rfl|h
 ·exact⟨⟨l1,by dsimp only;omega,hv.2,by dsimp only;omega⟩,ox.rest,ox.sta⟩
 ·exact hr.out x h
theorem Jve (hr:Jj (tk,st,S,O,M,X,Q)) (hv:tk≤v∧v≤999999999) (ho:0≤J6 X (ns.getD 1 Ja)) (hc:Jdj X Q ns vs=0):Jj (v,st,S,O,M,X,Q++[(ns.getD 0 Ja,ns.getD 1 Ja,true)]):=by
 have c2:=of_decide_eq_false (Yv Od (Yo hc).2)
 have g0:=hr.tk
 have g1:=hr.st
 dsimp only at g0 g1
 refine⟨by dsimp only;omega,by dsimp only;omega,hr.nS,hr.nO,hr.nM,hr.nX,by dsimp only;rw[List.length_append,List.length_singleton];omega,hr.sta,hr.ord,hr.met,hr.out,fun x hx=> ?_,hr.done⟩
 rcases Vu hx with h|rfl
 ·exact hr.per x h
 ·exact ho
theorem Jvd (hr:Jj (tk,st,S,O,M,X,Q)) (hv:tk≤v∧v≤999999999) {a:ByteArray} (ho:0≤Va Q a):Jj (v,st,S,O,M,X,Jae Q a):=by
 have g0:=hr.tk
 have g1:=hr.st
 dsimp only at g0 g1
 refine⟨by dsimp only;omega,by dsimp only;omega,hr.nS,hr.nO,hr.nM,hr.nX,by unfold Jae;rw[List.length_set];exact hr.nQ,hr.sta,hr.ord,hr.met,hr.out,fun x hx=> ?_,hr.done⟩
 rcases Jcd hx with rfl|h
 ·exact hr.per (Jnh Q a) (J5s ho)
 ·exact hr.per x h
theorem Jmh {u:Int} {x:Ord}:∀{m:Nat} {a:Int},Dn M u x a m=[]→∀h,a≤h→h<a+m→(Jh x h&&(decide (h<u)&&decide (Kw M x.1 h<0)))=false
 |0,a,_,h,h1,h2=>by omega
 | m + 1, a, e, h, h1, h2 => by
  unfold Dn at e
  obtain⟨e1,e2⟩:=List.append_eq_nil_iff.1 e
  by_cases ha:h=a
  ·subst ha
   cases hb:Jh x h&&(decide (h<u)&&decide (Kw M x.1 h<0)) with
   |false=>rfl
   |true=>rw[hb] at e1;cases e1
  ·exact Jmh e2 h Oo (by push_cast at h2;omega)
theorem Jmf {u:Int}:∀{O:List Ord},Ks M u O=[]→∀x∈O,Jwf M u x=[]
 |[],_,x,hx=>by cases hx
 |y::l,e,x,hx=>by
  unfold Ks at e
  obtain⟨e1,e2⟩:=List.append_eq_nil_iff.1 e
  rcases List.mem_cons.1 hx with rfl|hx
  ·exact e1
  ·exact Jmf e2 x hx
theorem Jxj {x:Ord} {h:Int} (e:Jh x h=true):x.2.2.2.1.1≤h∧h<x.2.2.2.1.2:=by
 unfold Jh Kk at e
 cases h1:decide (x.2.2.2.1.1≤h) with
 |false=>rw[h1] at e;cases e
 |true=>
  cases h2:decide (h<x.2.2.2.1.2) with
  |false=>rw[h1,h2] at e;cases e
  |true=>exact⟨of_decide_eq_true h1,of_decide_eq_true h2⟩
theorem Jvc (hr:Jj (tk,st,S,O,M,X,Q)) (hv:tk≤vs.getD 0 0∧vs.getD 0 0≤999999999) (hc:Df st O M X Q vs=0):Jj (vs.getD 0 0,vs.getD 1 0,S,O,M,X,Q):=by
 unfold Df at hc
 cases h1:(bif decide (vs.getD 1 0≤st) then true else decide (vs.getD 0 0<vs.getD 1 0)) with
 |true=>rw[h1] at hc;cases hc
 |false=>
  rw[h1,cond_false] at hc
  have h2:=bn1 h1
  have d1:=of_decide_eq_false h2.1
  have d2:=of_decide_eq_false h2.2
  have h3:=of_decide_eq_false (bn1 (Yv Od hc)).1
  have h4:Ks M (vs.getD 1 0) O=[]:=List.eq_nil_of_length_eq_zero Oo
  have g0:=hr.tk
  have g1:=hr.st
  dsimp only at g0 g1
  refine⟨by dsimp only;omega,by dsimp only;omega,hr.nS,hr.nO,hr.nM,hr.nX,hr.nQ,hr.sta,hr.ord,hr.met,hr.out,hr.per,fun x hx hh e1 e2=> ?_⟩
  have hi:=Jxj e1
  have h5:=Jmh (Jmf h4 x hx) hh hi.1 Oo
  have e2:hh<vs.getD 1 0:=e2
  rw[e1,decide_eq_true e2,Bool.true_and,Bool.true_and] at h5
  have:=of_decide_eq_false h5
  show 0≤Kw M x.1 hh
  omega
end
theorem J5c {h:Kh} {e:Ev} (hh:Ke h) (hm:(J7 h.2.2).2.2.2.2.1.length<10000) (hc:Jb e=0) (ha:Dc h e=0) (hk:(e.2.1.toList==Ju.toList)=false):Jj (Jq (J7 h.2.2) e):=by
 obtain⟨n,k,ns,vs,tx⟩:=e
 have hE:=Ud hc
 have eK:=Yz (h:=h) (n:=n) (k:=k) (ns:=ns) (vs:=vs) (tx:=tx) hk
 rw[ha] at eK
 obtain⟨_,z2,z3,z4,z5⟩:=D9 eK.symm
 have hr:=Xj hh
 clear eK ha z4
 generalize J7 h.2.2=r at*
 obtain⟨tk,st,S,O,M,X,Q⟩:=r
 have z2:¬vs.getD 0 0<tk:=z2
 have hm:M.length<10000:=hm
 have hn:ns.length=(Jm k).1.length:=hE.nn
 have hvl:(vs.length:Int)=(Jm k).2.1:=hE.nv
 have hx:∀i,i<vs.length→(0≤vs.getD i 0∧vs.getD i 0≤999999999):=fun i hi=>hE.val _ (Je hi)
 have hV:EvV (n,k,ns,vs,tx):=hE.val
 have hkd:=Vd hE.kind
 dsimp only at hkd hk
 clear hE hc hh
 rcases hkd with h|h|h|h|h|h|h|h|h|h|h<;>subst h
 ·exact absurd hk (by rw[show(Ju.toList==Ju.toList)=true from by kernel_rfl];decide)
 ·simp only[Kp,List.length_cons,List.length_nil] at hn hvl z3
  simp only[ckS,Kp] at z5
  obtain⟨k0,z3⟩:=Jl z3
  have e:Jq (tk,st,S,O,M,X,Q) (n,Jw,ns,vs,tx)=(vs.getD 0 0,(Jbm (tk,st,S,O,M,X,Q) (n,Jw,ns,vs,tx)).2):=by unfold Jq doS;simp only[Kp]
  rw[e]
  have hv:tk≤vs.getD 0 0∧vs.getD 0 0≤999999999:=⟨Oo,(hx 0 Oo).2⟩
  exact Js2 hr hv z5
 ·simp only[U6,List.length_cons,List.length_nil] at hn hvl z3
  simp only[ckS,U6] at z5
  obtain⟨k0,z3⟩:=Jl z3
  have e:Jq (tk,st,S,O,M,X,Q) (n,Uf,ns,vs,tx)=(vs.getD 0 0,(F1 (tk,st,S,O,M,X,Q) (n,Uf,ns,vs,tx)).2):=by unfold Jq doS;simp only[U6]
  rw[e]
  have hv:tk≤vs.getD 0 0∧vs.getD 0 0≤999999999:=⟨Oo,(hx 0 Oo).2⟩
  exact J0n hr hv z5 (Jq6 (k0 rfl))
 ·simp only[Uh,List.length_cons,List.length_nil] at hn hvl z3
  simp only[ckS,Uh] at z5
  obtain⟨k0,z3⟩:=Jl z3
  obtain⟨k1,z3⟩:=Jl z3
  obtain⟨k2,z3⟩:=Jl z3
  have e:Jq (tk,st,S,O,M,X,Q) (n,Ki,ns,vs,tx)=(vs.getD 0 0,(F5 (tk,st,S,O,M,X,Q) (n,Ki,ns,vs,tx)).2):=by unfold Jq doS;simp only[Uh]
  rw[e]
  have hv:tk≤vs.getD 0 0∧vs.getD 0 0≤999999999:=⟨Oo,(hx 0 Oo).2⟩
  exact J0o hr hv rfl hV Oo (Jq6 (k1 rfl)) (Jq6 (k2 rfl)) z5
 ·simp only[Ui,List.length_cons,List.length_nil] at hn hvl z3
  simp only[ckS,Ui] at z5
  obtain⟨k0,z3⟩:=Jl z3
  have e:Jq (tk,st,S,O,M,X,Q) (n,K9,ns,vs,tx)=(vs.getD 0 0,(F6 (tk,st,S,O,M,X,Q) (n,K9,ns,vs,tx)).2):=by unfold Jq doS;simp only[Ui]
  rw[e]
  have hv:tk≤vs.getD 0 0∧vs.getD 0 0≤999999999:=⟨Oo,(hx 0 Oo).2⟩
  exact J0p hr hv hm (Jzt (k0 rfl)) (fun i hi=>hx i Oo) z5
 ·simp only[Vl,List.length_cons,List.length_nil] at hn hvl z3
  simp only[ckS,Vl] at z5
  obtain⟨k0,z3⟩:=Jl z3
  have e:Jq (tk,st,S,O,M,X,Q) (n,V2,ns,vs,tx)=(vs.getD 0 0,(F0 (tk,st,S,O,M,X,Q) (n,V2,ns,vs,tx)).2):=by unfold Jq doS;simp only[Vl]
  rw[e]
  have hv:tk≤vs.getD 0 0∧vs.getD 0 0≤999999999:=⟨Oo,(hx 0 Oo).2⟩
  exact J5f hr hv (Jzt (k0 rfl)) z5
 ·simp only[Kr,List.length_cons,List.length_nil] at hn hvl z3
  simp only[ckS,Kr] at z5
  obtain⟨k0,z3⟩:=Jl z3
  obtain⟨k1,z3⟩:=Jl z3
  have e:Jq (tk,st,S,O,M,X,Q) (n,Js,ns,vs,tx)=(vs.getD 0 0,(F3 (tk,st,S,O,M,X,Q) (n,Js,ns,vs,tx)).2):=by unfold Jq doS;simp only[Kr]
  rw[e]
  have hv:tk≤vs.getD 0 0∧vs.getD 0 0≤999999999:=⟨Oo,(hx 0 Oo).2⟩
  exact Jvf hr hv hV Oo (Jq6 (k1 rfl)) z5
 ·simp only[J5,List.length_cons,List.length_nil] at hn hvl z3
  simp only[ckS,J5] at z5
  obtain⟨k0,z3⟩:=Jl z3
  have e:Jq (tk,st,S,O,M,X,Q) (n,Jt,ns,vs,tx)=(vs.getD 0 0,(F2 (tk,st,S,O,M,X,Q) (n,Jt,ns,vs,tx)).2):=by unfold Jq doS;simp only[J5]
  rw[e]
  have hv:tk≤vs.getD 0 0∧vs.getD 0 0≤999999999:=⟨Oo,(hx 0 Oo).2⟩
  exact Js3 hr hv (J1n (k0 rfl)) z5
 ·simp only[K1,List.length_cons,List.length_nil] at hn hvl z3
  simp only[ckS,K1] at z5
  obtain⟨k0,z3⟩:=Jl z3
  obtain⟨k1,z3⟩:=Jl z3
  have e:Jq (tk,st,S,O,M,X,Q) (n,Kg,ns,vs,tx)=(vs.getD 0 0,(F4 (tk,st,S,O,M,X,Q) (n,Kg,ns,vs,tx)).2):=by unfold Jq doS;simp only[K1]
  rw[e]
  have hv:tk≤vs.getD 0 0∧vs.getD 0 0≤999999999:=⟨Oo,(hx 0 Oo).2⟩
  exact Jve hr hv (J1n (k1 rfl)) z5
 ·simp only[K0,List.length_cons,List.length_nil] at hn hvl z3
  simp only[ckS,K0] at z5
  obtain⟨k0,z3⟩:=Jl z3
  have e:Jq (tk,st,S,O,M,X,Q) (n,Kf,ns,vs,tx)=(vs.getD 0 0,(Jhh (tk,st,S,O,M,X,Q) (n,Kf,ns,vs,tx)).2):=by unfold Jq doS;simp only[K0]
  rw[e]
  have hv:tk≤vs.getD 0 0∧vs.getD 0 0≤999999999:=⟨Oo,(hx 0 Oo).2⟩
  exact Jvd hr hv (Kik (k0 rfl))
 ·simp only[Uy,List.length_cons,List.length_nil] at hn hvl z3
  simp only[ckS,Uy] at z5
  have e:Jq (tk,st,S,O,M,X,Q) (n,Jk,ns,vs,tx)=(vs.getD 0 0,(Jbl (tk,st,S,O,M,X,Q) (n,Jk,ns,vs,tx)).2):=by unfold Jq doS;simp only[Uy]
  rw[e]
  have hv:tk≤vs.getD 0 0∧vs.getD 0 0≤999999999:=⟨Oo,(hx 0 Oo).2⟩
  exact Jvc hr hv z5
theorem J6l {r:Reg} {e:Ev}:(doS r e).2.2.2.2.1.length≤r.2.2.2.2.1.length+1:=by
 obtain⟨tk,st,S,O,M,X,Q⟩:=r
 obtain⟨n,k,ns,vs,tx⟩:=e
 unfold doS
 split<;>first|exact Nat.le_succ _|(show(M++[_]).length≤M.length+1;simp)
structure Ys (h:Kh):Prop where
 ok:Ke h
 met:∀r∈h.2.2,r.2.2.2.2.1.length≤h.1.length
theorem Jv9 {h:Kh} (hi:Ys h):(J7 h.2.2).2.2.2.2.1.length≤h.1.length:=by
 unfold J7
 by_cases h0:0<h.2.2.length
 ·exact hi.met _ (Je Oo)
 ·have:h.2.2=[]:=List.eq_nil_of_length_eq_zero Oo
  rw[this];exact Nat.zero_le _
theorem add_zero {h:Kh} {e:Ev} (ha:Ue h e=0):Jb e=0∧Dc h e=0:=by
 unfold Ue at ha
 by_cases hc:Jb e≠0
 ·rw[if_pos hc] at ha;exact absurd ha hc
 ·rw[if_neg hc] at ha;exact⟨Decidable.of_not_not hc,ha⟩
theorem Jb0 {h:Kh} {e:Ev} (hi:Ys h) (hl:h.1.length<1000) (ha:Ue h e=0):Ys (Hz h e):=by
 obtain⟨hc,hacc⟩:=add_zero ha
 obtain⟨E,C,G⟩:=h
 obtain⟨n1,n2,n3,hr⟩:=hi.ok
 have hm:=Jv9 hi
 dsimp only at n1 n2 n3 hr hl hm
 cases hk:e.2.1.toList==Ju.toList with
 |true=>
  unfold Hz
  rw[hk,cond_true]
  refine⟨⟨by simp;omega,by simp;omega,by simp;omega,fun r hx=>hr r (List.mem_of_mem_take hx)⟩,fun r hx=> ?_⟩
  have:r.2.2.2.2.1.length≤E.length:=hi.met r (List.mem_of_mem_take hx)
  simp only[List.length_append,List.length_singleton]
  omega
 | false =>
  have hs:=J5c hi.ok (Nat.lt_of_le_of_lt hm Oo) hc hacc hk
  unfold Hz
  rw[hk,cond_false]
  refine⟨⟨by simp;omega,by simp;omega,by simp;omega,fun r hx=> ?_⟩,fun r hx=> ?_⟩
  ·rcases Vu hx with h|rfl
   ·exact hr r h
   ·exact hs
  ·rcases Vu hx with h|rfl
   ·have:r.2.2.2.2.1.length≤E.length:=hi.met r h
    simp only[List.length_append,List.length_singleton]
    omega
   ·have:=J6l (r:=J7 G) (e:=e)
    simp only[List.length_append,List.length_singleton]
    show(doS (J7 G) e).2.2.2.2.1.length≤_
    omega
theorem Xz {h:Kh} {e:Ev}:(Hz h e).1.length=h.1.length+1:=by
 unfold Hz
 cases e.2.1.toList==Ju.toList<;>simp
def Xt:Kh:=([],[],[])
theorem Xy:Ys Xt:=⟨⟨Od,Od,rfl,fun _ h=>(by cases h)⟩,fun _ h=>(by cases h)⟩
def Dz:Kh→List Ev→Kh×Int×Int
 |h,[]=>(h,0,0)
 |h,e::l=>if Ue h e=0 then Dz (Hz h e) l else(h,h.1.length+1,Ue h e)
def Jd (l:List Ev):Kh×Int×Int:=if 1000<l.length then(Xt,0,5) else Dz Xt l
def Jc (l:List Ev):Reg:=if(Jd l).2.2=0 then J7 (Jd l).1.2.2 else U9
def lOk (l:List Ev):Prop:=l.length≤1000000∧∀e∈l,Jgc e
def J6s:Con:={args:=[.val false (.list 67 sEv)],ress:=[(true,Jlv),I,I],owns:=[],pre:=fun(l,_)=>[lOk l],spec:=fun(l,_)=>(Jc l,(Jd l).2.1,(Jd l).2.2,())}
abbrev J0f:List SC:=[.int .i64 0, .int .i64 0, .val (.slice none 0 0), .val (.slice none 0 0), .val (.slice none 0 0), .val (.slice none 0 0), .val (.slice none 0 0)]
abbrev Ked (l:List Ev):Ann:={X:=Kh×Nat,σ:=fun(h,k)=>⟨7,[(5, .one (.ptr 3 0)),(14, .one (.sl 0)),(15, .one (.int .i64 l.length)),(16, .one (.int .i64 k))],[(0, .imm 67 sEv l),(1, .box 105 J0f),(2, .sus [(2, .one (.ptr 1 0))]),(3, .box 167 [.sl 4, .sl 5, .sl 6]),(4, .own 67 sEv h.1),(5, .own 67 sEv h.2.1),(6, .own 105 Jlv h.2.2)]⟩,inv:=fun(h,k)=>Ys h∧h.1.length=k∧k≤l.length∧l.length≤1000∧Dz h (l.drop k)=Jd l,mu:=fun(_,k)=>l.length-k}
def Z25 (a:Kh×Nat) (b:List Ev):=Bd (Nc a.2) (Ln b)
def Z35 (a:Kh×Nat):=Iw (Nc a.2+1)
def Z94 (a:List Ev):=decide (1000<Ln a)
def Juq (a:Kh×Nat) (b:(List Ev×List Ev×List Reg)×Nat):=Nc a.2+1=Nc b.2
def Vs:=Value.slice none 0 0
def J4x (a:Kh×Nat) (b:List Ev):=Nc a.2+1=(Jd b).2.1
def Jy6 (a:Kh×Nat):=(a.1.1,E2 a.1.2)
def Kbg (a:Kh×Nat):=Ke (Jy6 a)
def Kho (a:List Ev):=0=(Jd a).2.1∧0=(Jd a).2.2
def J8g (a:List Ev) (b:Kh×Nat):=List.getD a b.2 Jaa
def J8c (a:List Ev) (b:Kh×Nat):=(J8g a b).2
def J2w (a:List Ev) (b:Kh×Nat):=(J8c a b).2
def Jpr (a:List Ev):=V4=Jc a
def Kly (a:Kh×Nat):=Iw (Ln a.1.2.2-1)∧Tw (Bd (Ln a.1.2.2-1) (Ln a.1.2.2))
def Kg2 (a:(List Ev×List Ev×List Reg)×Nat):=List.length a.1.1=0∧List.length a.1.2.1=0∧List.length a.1.2.2=0
def Kky (a:Kh×Nat):=Gt a.1.2.2 (Ln a.1.2.2-1) V4
def Kkv (a:Kh×Nat):=(Kky a).2
def Kgj (a:Kh×Nat):=(Kkv a).2
def Kam (a:Kh×Nat) (b:List Ev):=List.length a.1.1=a.2∧a.2≤List.length b∧List.length b≤1000∧Dz a.1 (List.drop a.2 b)=Jd b
def Kal (a:(List Ev×List Ev×List Reg)×Nat) (b:List Ev):=List.length a.1.1=a.2∧a.2≤List.length b∧List.length b≤1000∧Dz a.1 (List.drop a.2 b)=Jd b
def Kgg (a:Kh×Nat):=(Kgj a).2
def Kgf (a:Kh×Nat):=(Kgg a).2
def Kge (a:Kh×Nat):=(Kgf a).2
def Kaj (a:Kh×Nat) (b:List Ev):=Ys a.1∧Kam a b
def J73 (a:(List Ev×List Ev×List Reg)×Nat) (b:List Ev):=Ys a.1∧Kal a b
def Kj2 (a:List Ev):=Jpr a∧0=(Jd a).2.1∧5=(Jd a).2.2
def Kx0 (a:List Ev):=Sf true (Jpr a∧Kho a)
def Kaa (a:(List Ev×List Ev×List Reg)×Nat) (b:List Ev) (c:Kh×Nat):=J73 a b∧List.length b-a.2<List.length b-c.2
def Jy2 (a:List Ev) (b:Kh×Nat):=((J8g a b).1,(J8c a b).1,(J2w a b).1,E2 (J2w a b).2)
def J4i (a:Kh×Nat) (b:List Ev):=Ue (Jy6 a) (Jy2 b a)
def Kfc (a:Kh×Nat) (b:List Ev):=Vo (Jy6 a) (Jy2 b a)
def Kfb (a:Kh×Nat) (b:List Ev):=(Kfc a b).2
def Ki1 (a:(List Ev×List Ev×List Reg)×Nat):=Si 0 (Si 0 (Sf Vs (Sf Vs (Sf Vs (Sf Vs (Sf Vs (Kg2 a)))))))
def J97 (a:Kh×Nat) (b:List Ev):=Kbg a∧List.length a.1.1<1000∧Jgc (Jy2 b a)
def J4h (a:Kh×Nat) (b:List Ev):=J4i a b !=0
def Kes (a:Kh×Nat):=((Kky a).1,(Kkv a).1,(Kgj a).1,(Kgg a).1,(Kgf a).1,E2 (Kge a))
def Kip (a:Kh×Nat) (b:List Ev):=Kes a=Jc b
def Jze (a:Kh×Nat) (b:List Ev) (c:(List Ev×List Ev×List Reg)×Nat):=(Kfc a b).1=c.1.1∧(Kfb a b).1=c.1.2.1∧(Kfb a b).2=c.1.2.2
def J3a (a:Kh×Nat) (b:List Ev) (c:(List Ev×List Ev×List Reg)×Nat):=Si 0 (Si 0 (Sf Vs (Sf Vs (Sf Vs (Sf Vs (Sf Vs (Jze a b c)))))))
theorem K6s:Ok Tryz.prog 54 J6s:=Jzr W93 Tryz.f54 (U5 (l:=([(74,Tryz.f74),(75,Tryz.f75),(129,Tryz.f129)]:List (Nat×Func))) (List.forall_mem_cons.2 ⟨by kernel_rfl,List.forall_mem_cons.2 ⟨by kernel_rfl,List.forall_mem_cons.2 ⟨by kernel_rfl,by simp⟩⟩⟩)) (fun xx=>na ()) (fun xx=>fun f id=>if f=74 then some (Ked xx.1) else none) fun xx=>by
 obtain⟨(l:List Ev),_⟩:=xx
 refine(by kernel_rfl:(lOk l→Br (Z94 l) (Br true (Sf true (Kj2 l)) False) (∃(x:(List Ev×List Ev×List Reg)×Nat),Si (Ln l) (0=Nc x.2∧Sf l (Ki1 x))∧J73 x l∧∀(x:Kh×Nat),Kaj x l→Br (decide (Nc x.2<Ln l)) (Tw (Z25 x l)∧J97 x l∧Br (J4h x l) (Z35 x∧Br (J4h x l) (Sf true (Jpr l∧J4x x l∧J4i x l=(Jd l).2.2)) False) (Z35 x∧∃(y:(List Ev×List Ev×List Reg)×Nat),Si (Ln l) (Juq x y∧Sf l (J3a x l y))∧Kaa y l x)) (Br false (Kx0 l) (Br (decide (0<Ln x.1.2.2)) (Kly x∧(List.length (Kgj x).1≤1000000∧List.length (Kgg x).1≤1000000∧List.length (Kgf x).1≤1000000∧List.length (Kge x).1≤1000000∧List.length (Kge x).2≤1000000)∧Sf true (Kip x l∧Kho l)) (Jdo∧Kx0 l)))))=_).mp ?_
 delta Z25 Z35 Z94 Juq Vs J4x Jy6 Jaa Kbg Kho J8g J8c Dp J2w Jdo V4 Jpr Kly Kg2 Kky Kkv Kgj Kam Kal Kgg Kgf Kge Kaj J73 Kj2 Kx0 Kaa Jy2 J4i Kfc Kfb Ki1 J97 J4h Kes Kip Jze J3a Br Iw Bd T2 Tw Sf Si Ln Nc Gt B0 E2
 intro hl
 refine⟨fun h=> ?_,fun h=> ?_⟩
 ·have e:Jd l=(Xt,0,5):=by unfold Jd;rw[if_pos (by have:=of_decide_eq_true h;omega)]
  refine⟨fun _=>⟨rfl, ?_,by rw[e],by rw[e]⟩,fun h=>by cases h⟩
  unfold Jc;rw[e];rfl
 have hn:l.length≤1000:=by have:=of_decide_eq_false h;omega
 have e0:Jd l=Dz Xt l:=by unfold Jd;rw[if_neg Oo]
 refine⟨(Xt,(0:Nat)),⟨rfl,rfl,rfl,rfl,rfl,rfl,rfl,rfl,rfl,rfl,rfl,rfl,rfl⟩,⟨Xy,rfl,Nat.zero_le _,hn,e0.symm⟩,fun(x:Kh×Nat) hx=>⟨fun h1=> ?_,fun h1=> ?_⟩⟩
 ·obtain⟨g,k⟩:=x
  obtain⟨hi,hk,hk2,_,hrun⟩:=hx
  dsimp only at hi hk hk2 hrun
  have hlt:k<l.length:=by simpa using h1
  rw[J2 (d:=ev0) hlt,Dz] at hrun
  have hz:=hl.2 _ (Je (d:=ev0) hlt)
  refine⟨⟨⟨by dsimp only;omega,by dsimp only;omega⟩,by dsimp only;omega,by dsimp only;omega⟩,⟨hi.ok,by show g.1.length<1000;omega,hz⟩,fun h2=>⟨by dsimp only;omega,fun h3=> ?_,fun h3=> ?_⟩,fun h2=>⟨by dsimp only;omega,(Hz g (l.getD k ev0),k+1), ?_,⟨?_, ?_,by dsimp only;omega,hn, ?_⟩,by dsimp only;omega⟩⟩
  ·have h2:Ue g (l.getD k ev0)≠0:=bne_iff_ne.1 h2
   rw[if_neg h2] at hrun
   rw[←hrun]
   refine⟨rfl, ?_, ?_,rfl⟩
   ·unfold Jc;rw[←hrun];dsimp only;rw[if_neg h2];rfl
   ·show((k:Nat):Int)+1=(g.1.length:Int)+1;rw[hk]
  ·have h2:Ue g (l.getD k ev0)≠0:=bne_iff_ne.1 h2
   exact absurd (bne_eq_false_iff_eq.1 h3) h2
  ·have h2:Ue g (l.getD k ev0)=0:=bne_eq_false_iff_eq.1 h2
   have eP:Vo g (l.getD k ev0)=Hz g (l.getD k ev0):=by unfold Vo;rw[if_pos h2]
   refine⟨rfl,by simp,rfl,rfl,rfl,rfl,rfl,rfl,rfl,rfl, ?_, ?_, ?_⟩
   ·show(Vo g (l.getD k ev0)).1=_;rw[eP]
   ·show(Vo g (l.getD k ev0)).2.1=_;rw[eP]
   ·show(Vo g (l.getD k ev0)).2.2=_;rw[eP]
  ·exact Jb0 hi Oo (bne_eq_false_iff_eq.1 h2)
  ·show(Hz g (l.getD k ev0)).1.length=k+1
   rw[Xz,hk]
  ·have h2:Ue g (l.getD k ev0)=0:=bne_eq_false_iff_eq.1 h2
   rw[if_pos h2] at hrun
   exact hrun
 ·obtain⟨g,k⟩:=x
  obtain⟨hi,hk,hk2,_,hrun⟩:=hx
  dsimp only at hi hk hk2 hrun
  have hlt:¬k<l.length:=by simpa using h1
  have:k=l.length:=by omega
  rw[this,List.drop_length,Dz] at hrun
  have eR:Jc l=J7 g.2.2:=by unfold Jc;rw[←hrun];rfl
  have hR:=Xj hi.ok
  have hGl:((g.2.2.length:Int)-1).toNat=g.2.2.length-1:=by omega
  have hb:g.2.2.length≤1000:=by have:=hi.ok.nG;have:=hi.ok.nC;have:=hi.ok.nE;omega
  refine⟨fun f=>(by cases f),fun _=>⟨fun h2=> ?_,fun h2=> ?_⟩⟩
  ·have h2:(0:Int)<g.2.2.length:=of_decide_eq_true h2
   dsimp only
   rw[hGl]
   refine⟨⟨⟨Oo,Oo⟩,⟨Oo,Oo⟩,Oo,Oo⟩,⟨Nat.le_trans hR.nS Od,Nat.le_trans hR.nO Od,Nat.le_trans hR.nM Od,Nat.le_trans hR.nX Od,Nat.le_trans hR.nQ Od⟩,rfl,eR.symm, ?_, ?_⟩
   ·rw[←hrun]
   ·rw[←hrun]
  ·have e1:=Ko h2
   rw[e1] at eR
   refine⟨Od,rfl,eR.symm, ?_, ?_⟩
   ·rw[←hrun]
   ·rw[←hrun]
abbrev W94:=W93.add K6s
def K7n:Con:={args:=[aS, .ref 105 Jlv],ress:=[I],owns:=[],pre:=fun(_,r,_)=>[Jj r],spec:=fun(s,r,_)=>(bif !Vq r 0 s then 10 else 0,())}
theorem Krg:Ok Tryz.prog 139 K7n:=okW W94 Tryz.f139 na fun xx=>by
 obtain⟨(s:ByteArray),⟨(tk:Int),(st:Int),(S:List Sta),(O:List Ord),(M:List Met),(X:List Out),(Q:List Per)⟩,_⟩:=xx
 refine(by kernel_rfl:(Jy tk st S O M X Q→Jy tk st S O M X Q∧(bif !Vq (Z64 tk st S O M X Q) (0:Int) s then(10:Int) else(0:Int))=bif !Vq (Z64 tk st S O M X Q) (0:Int) s then(10:Int) else(0:Int))=_).mp ?_
 delta Z64 Jy
 intro hr
 exact⟨hr,rfl⟩
abbrev W95:=W94.add Krg
def opE (l:List Ev) (ns:List ByteArray):Int:=if(Jd l).2.2=0 then Ji (ns.map fun s=>bif !Vq (Jc l) 0 s then 10 else 0) else(Jd l).2.2
def Ksv:Con:={args:=[.val false (.list 67 sEv), .val false (.list 9 .str)],ress:=[(true,Jlv),I],owns:=[],pre:=fun(l,ns,_)=>[lOk l,ns.length≤1000000],spec:=fun(l,ns,_)=>(Jc l,opE l ns,())}
abbrev J7k (l:List Ev) (ns:List ByteArray):Ann:={X:=Kh×Nat,σ:=fun(h,k)=>⟨9,[(5, .one (.ptr 4 0)),(14, .one (.sl 0)),(15, .one (.int .i64 l.length)),(16, .one (.int .i64 k))],[(0, .imm 67 sEv l),(1, .imm 9 .str ns),(2, .box 105 J0f),(3, .sus [(1, .one (.sl 1)),(4, .one (.ptr 2 0))]),(4, .box 167 [.sl 6, .sl 7, .sl 8]),(6, .own 67 sEv h.1),(7, .own 67 sEv h.2.1),(8, .own 105 Jlv h.2.2)]⟩,inv:=fun(h,k)=>Ys h∧h.1.length=k∧k≤l.length∧l.length≤1000∧Dz h (l.drop k)=Jd l,mu:=fun(_,k)=>l.length-k}
def Klk (a:Bt):= !Vq V4 0 a
def Kxk (a:Ls):=List.map (fun(x:ByteArray)=>match Klk x with|true=>(10:Int)|false=>(0:Int)) a
def J9m (a:Kh×Nat) (b:Ls):=List.map (fun(x:ByteArray)=>match !Vq (Kes a) (0:Int) x with|true=>(10:Int)|false=>(0:Int)) b
theorem K6o:Ok Tryz.prog 68 Ksv:=Jzr W95 Tryz.f68 (U5 (l:=([(74,Tryz.f74),(75,Tryz.f75)]:List (Nat×Func))) (List.forall_mem_cons.2 ⟨by kernel_rfl,List.forall_mem_cons.2 ⟨by kernel_rfl,by simp⟩⟩)) (fun xx=>na ()) (fun xx=>fun f id=>if f=74 then some (J7k xx.1 xx.2.1) else none) fun xx=>by
 obtain⟨(l:List Ev),(ns:List ByteArray),_⟩:=xx
 refine(by kernel_rfl:(lOk l→Jb2 ns→Br (Z94 l) (Br true (Sf true (Jpr l∧5=opE l ns)) False) (∃(x:(List Ev×List Ev×List Reg)×Nat),Si (Ln l) (0=Nc x.2∧Sf l (Sf ns (Ki1 x)))∧J73 x l∧∀(x:Kh×Nat),Kaj x l→Br (decide (Nc x.2<Ln l)) (Tw (Z25 x l)∧J97 x l∧Br (J4h x l) (Z35 x∧Br (J4h x l) (Sf true (Jpr l∧J4i x l=opE l ns)) False) (Z35 x∧∃(y:(List Ev×List Ev×List Reg)×Nat),Si (Ln l) (Juq x y∧Sf l (Sf ns (J3a x l y)))∧Kaa y l x)) (Br false (Sf true (Jpr l∧0=opE l ns)) (Br (decide (0<Ln x.1.2.2)) (Kly x∧(Jb2 ns∧(∀(x_1:ByteArray),Jhl ns x_1→Jj (Kes x))∧List.length (J9m x ns)≤1000000)∧Sf true (Kip x l∧Ji (J9m x ns)=opE l ns)) ((Jb2 ns∧(∀(x:ByteArray),Jhl ns x→Y4)∧List.length (Kxk ns)≤1000000)∧Sf true (Jpr l∧Ji (Kxk ns)=opE l ns))))))=_).mp ?_
 delta Z25 Z35 Z94 Jb2 Juq Vs Jy6 Jaa Kbg Jhl J8g J8c Dp J2w V4 Y4 Jpr Kly Kg2 Klk Kky Kkv Kgj Kam Kal Kgg Kgf Kge Kaj J73 Kxk Kaa Jy2 J4i Kfc Kfb Ki1 J97 J4h Kes Kip J9m Jze J3a Br Iw Bd Tw Sf Si Ln Nc Gt B0 E2
 intro hl hns
 refine⟨fun h=> ?_,fun h=> ?_⟩
 ·have e:Jd l=(Xt,0,5):=by unfold Jd;rw[if_pos (by have:=of_decide_eq_true h;omega)]
  refine⟨fun _=>⟨rfl, ?_, ?_⟩,fun h=>by cases h⟩
  ·unfold Jc;rw[e];rfl
  ·unfold opE;rw[e];rfl
 have hn:l.length≤1000:=by have:=of_decide_eq_false h;omega
 have e0:Jd l=Dz Xt l:=by unfold Jd;rw[if_neg Oo]
 refine⟨(Xt,(0:Nat)),⟨rfl,rfl,rfl,rfl,rfl,rfl,rfl,rfl,rfl,rfl,rfl,rfl,rfl,rfl⟩,⟨Xy,rfl,Nat.zero_le _,hn,e0.symm⟩,fun(x:Kh×Nat) hx=>⟨fun h1=> ?_,fun h1=> ?_⟩⟩
 ·obtain⟨g,k⟩:=x
  obtain⟨hi,hk,hk2,_,hrun⟩:=hx
  dsimp only at hi hk hk2 hrun
  have hlt:k<l.length:=by simpa using h1
  rw[J2 (d:=ev0) hlt,Dz] at hrun
  have hz:=hl.2 _ (Je (d:=ev0) hlt)
  refine⟨⟨⟨by dsimp only;omega,by dsimp only;omega⟩,by dsimp only;omega,by dsimp only;omega⟩,⟨hi.ok,by show g.1.length<1000;omega,hz⟩,fun h2=>⟨by dsimp only;omega,fun h3=> ?_,fun h3=> ?_⟩,fun h2=>⟨by dsimp only;omega,(Hz g (l.getD k ev0),k+1), ?_,⟨?_, ?_,by dsimp only;omega,hn, ?_⟩,by dsimp only;omega⟩⟩
  ·have h2:Ue g (l.getD k ev0)≠0:=bne_iff_ne.1 h2
   rw[if_neg h2] at hrun
   refine⟨rfl, ?_, ?_⟩
   ·unfold Jc;rw[←hrun];dsimp only;rw[if_neg h2];rfl
   ·unfold opE;rw[←hrun];dsimp only;rw[if_neg h2];rfl
  ·have h2:Ue g (l.getD k ev0)≠0:=bne_iff_ne.1 h2
   exact absurd (bne_eq_false_iff_eq.1 h3) h2
  ·have h2:Ue g (l.getD k ev0)=0:=bne_eq_false_iff_eq.1 h2
   have eP:Vo g (l.getD k ev0)=Hz g (l.getD k ev0):=by unfold Vo;rw[if_pos h2]
   refine⟨rfl,by simp,rfl,rfl,rfl,rfl,rfl,rfl,rfl,rfl,rfl, ?_, ?_, ?_⟩
   ·show(Vo g (l.getD k ev0)).1=_;rw[eP]
   ·show(Vo g (l.getD k ev0)).2.1=_;rw[eP]
   ·show(Vo g (l.getD k ev0)).2.2=_;rw[eP]
  ·exact Jb0 hi Oo (bne_eq_false_iff_eq.1 h2)
  ·show(Hz g (l.getD k ev0)).1.length=k+1
   rw[Xz,hk]
  ·have h2:Ue g (l.getD k ev0)=0:=bne_eq_false_iff_eq.1 h2
   rw[if_pos h2] at hrun
   exact hrun
 ·obtain⟨g,k⟩:=x
  obtain⟨hi,hk,hk2,_,hrun⟩:=hx
  dsimp only at hi hk hk2 hrun
  have hlt:¬k<l.length:=by simpa using h1
  have:k=l.length:=by omega
  rw[this,List.drop_length,Dz] at hrun
  have eR:Jc l=J7 g.2.2:=by unfold Jc;rw[←hrun];rfl
  have hR:=Xj hi.ok
  have hGl:((g.2.2.length:Int)-1).toNat=g.2.2.length-1:=by omega
  have hb:g.2.2.length≤1000:=by have:=hi.ok.nG;have:=hi.ok.nC;have:=hi.ok.nE;omega
  have eO:opE l ns=Ji (ns.map fun s=>bif !Vq (J7 g.2.2) 0 s then 10 else 0):=by unfold opE;rw[←hrun,eR];rfl
  refine⟨fun f=>(by cases f),fun _=>⟨fun h2=> ?_,fun h2=> ?_⟩⟩
  ·have h2:(0:Int)<g.2.2.length:=of_decide_eq_true h2
   dsimp only
   rw[hGl]
   exact⟨⟨⟨Oo,Oo⟩,⟨Oo,Oo⟩,Oo,Oo⟩,⟨hns,fun _ _=>hR,by rw[List.length_map];exact hns⟩,rfl,eR.symm,eO.symm⟩
  ·have e1:=Ko h2
   rw[e1] at eR eO hR
   exact⟨⟨hns,fun _ _=>hR,by rw[List.length_map];exact hns⟩,rfl,eR.symm,eO.symm⟩
abbrev W96:=W95.add K6o
theorem Jvn:∀{l:List Ev} {h:Kh},Ys h→h.1.length+l.length≤1000→Ys (Dz h l).1
 |[],_,hi,_=>hi
 | e :: l, h, hi, hl => by
  unfold Dz
  simp only[List.length_cons] at hl
  by_cases ha:Ue h e=0
  ·rw[if_pos ha]
   exact Jvn (Jb0 hi Oo ha) (by rw[Xz];omega)
  ·rw[if_neg ha];exact hi
theorem Jvu {l:List Ev}:Ys (Jd l).1:=by
 unfold Jd
 by_cases h:1000<l.length
 ·rw[if_pos h];exact Xy
 ·rw[if_neg h];exact Jvn Xy (by show 0+l.length≤1000;omega)
theorem Ly {l:List Ev}:Jj (Jc l):=by
 unfold Jc
 by_cases h:(Jd l).2.2=0
 ·rw[if_pos h];exact Xj Jvu.ok
 ·rw[if_neg h];exact Xj Xy.ok
def Jba (l:List Ev) (s:ByteArray) (h:Int):Int:=Ji [opE l [s],Km h 0 999999999]
def Jl0 (l:List Ev) (s:ByteArray) (h:Int):Int:=if Jba l s h=0 then Uz (Jc l).2.2.1 (Jc l).2.2.2.1 (Jc l).2.2.2.2.2.1 s h else 0
def J6r:Con:={args:=[.val false (.list 67 sEv),aS,aI],ress:=[I,I],owns:=[],pre:=fun(l,_)=>[lOk l],spec:=fun(l,s,h,_)=>(Jl0 l s h,Jba l s h,())}
theorem Kcc {l:List Ev} {s:ByteArray} (h:opE l [s]=0):0≤Jn (Jc l).2.2.1 s:=by
 unfold opE at h
 by_cases h0:(Jd l).2.2=0
 ·rw[if_pos h0] at h
  have h1:=Uw.1 h _ (List.mem_map_of_mem (List.mem_cons_self ..))
  have h2:=Yv Od h1
  exact Jq6 (by simpa using h2)
 ·rw[if_neg h0] at h;exact absurd h h0
def J2v (a:List Ev):=((Jc a).1,(Jc a).2.1,(Jc a).2.2.1,(Jc a).2.2.2.1,(Jc a).2.2.2.2.1,E2 (Jc a).2.2.2.2.2)
def Jy3 (a:List Ev):=Jj (J2v a)
theorem K66:Ok Tryz.prog 25 J6r:=okW W96 Tryz.f25 na fun xx=>by
 obtain⟨(l:List Ev),(s:ByteArray),(h:Int),_⟩:=xx
 refine(by kernel_rfl:(lOk l→(lOk l∧1≤1000000)∧2≤1000000∧Br (Ji [opE l [s],Z73 h] !=0) (0=Jl0 l s h∧Ji [opE l [s],Z73 h]=Jba l s h) ((Jy3 l∧0≤Jn (Jc l).2.2.1 s)∧Uz (Jc l).2.2.1 (Jc l).2.2.2.1 (Jc l).2.2.2.2.2.1 s h=Jl0 l s h∧0=Jba l s h))=_).mp ?_
 delta Z73 J2v Jy3 Br E2
 intro hl
 refine⟨⟨hl,Od⟩,Od,fun e=> ?_,fun e=> ?_⟩
 ·have e:Jba l s h≠0:=bne_iff_ne.1 e
  exact⟨by unfold Jl0;rw[if_neg e],rfl⟩
 ·have e:Jba l s h=0:=bne_eq_false_iff_eq.1 e
  exact⟨⟨Ly,Kcc (Yo e).1⟩,by unfold Jl0;rw[if_pos e],e.symm⟩
abbrev W97:=W96.add K66
abbrev W98:=W97
def K3w (l:List Ev) (e:Ev):Int:=Ji [(Jd l).2.2,Jb e,bif decide ((1000:Int)≤l.length) then 5 else 0]
def K78 (l:List Ev) (e:Ev):Int:=if K3w l e=0 then Dc (Jd l).1 e else K3w l e
abbrev W99:=W98
abbrev K5s:=W99
end Go.Proofs.YtcibbcfiemeoiaaGreatDoor

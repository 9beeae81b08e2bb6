/- Contracts of the functions that the law reaches: part of the proof. -/
import Derived.Test.YtcibbcfiemeoiaaGreatDoorProg
import Derived.Test.YtcibbcfiemeoiaaGreatDoorSxC
import Derived.Test.YtcibbcfiemeoiaaGreatDoorShelfA
import Derived.Test.YtcibbcfiemeoiaaGreatDoorLayA
import Derived.KernelRfl
import Derived.Laws.RangeAny
import Derived.Lib.Strings
set_option linter.unusedSimpArgs false
set_option linter.unusedVariables false
set_option maxRecDepth 20000
namespace Go.Proofs.YtcibbcfiemeoiaaGreatDoor
open Go.Sx
set_option maxHeartbeats 20000000
abbrev I:Bool×Sch:=(false, .int .i64)
abbrev Bo:Bool×Sch:=(false, .bool)
abbrev aI:AK:= .val false (.int .i64)
abbrev aB:AK:= .val false .bool
abbrev aS:AK:= .val false .str
abbrev tS:Bool×Sch:=(false, .str)
abbrev sI:Sch:= .int .i64
abbrev W0 [Sx.Dr]:GW Tryz.prog:=⟨[], .nil _⟩
theorem mixed:Tryz.prog.follows .mixedOrders=true:=by kernel_rfl
theorem okW [Sx.Dr] {f:FuncId} {c:Con} (W:GW Tryz.prog) (fn:Func) (ann:ATup c.args→Nat→Option Ann) (h:∀x:ATup c.args,wpF Tryz.prog W.g (ann x) fn c x) (h1:Tryz.prog.funcs[f]? =some fn:=by kernel_rfl) (h2:Jba fn c=true:=by kernel_rfl):Ok Tryz.prog f c:=Vq mixed W.ok h1 h2 ann h
theorem Jty [Sx.Dr] {f:FuncId} {c:Con} {lib:FuncId→Option Func} (W:GW Tryz.prog) (fn:Func) (hl:∀f fn,lib f=some fn→Tryz.prog.funcs[f]? =some fn) (ann:ATup c.args→Nat→Option Ann) (annF:ATup c.args→FuncId→Nat→Option Ann) (h:∀x:ATup c.args,wpFG Tryz.prog W.g (ann x) (annF x) lib fn c x) (h1:Tryz.prog.funcs[f]? =some fn:=by kernel_rfl) (h2:Jba fn c=true:=by kernel_rfl):Ok Tryz.prog f c:=Jea mixed W.ok h1 h2 hl ann annF h
abbrev na {α:Type}:α→Nat→Option Ann:=fun _ _=>none
abbrev X3 (A:Ann):Nat→Option Ann:=fun k=>if k=0 then some A else none
def Kqe:Con:={args:=[aB,aI],ress:=[I],owns:=[],pre:=fun _=>[],spec:=fun(b,e,_)=>(bif b then e else 0,())}
theorem K4n [Sx.Dr]:Ok Tryz.prog 71 Kqe:=okW W0 Tryz.f71 na fun xx=>by
 obtain⟨(b:Bool),(e:Int),_⟩:=xx
 refine(by kernel_rfl:(Br b (e=bif b then e else 0) (0=bif b then e else 0))=_).mp ?_
 delta Br
 cases b<;>simp
abbrev W1 [Sx.Dr]:=W0.add K4n
abbrev W2 [Sx.Dr]:=W1
abbrev W3 [Sx.Dr]:=W2
def Kb (n lo hi:Int):Int:=bif decide (n<lo)||decide (hi<n) then 3 else 0
def J4g:Con:={args:=[aI,aI,aI],ress:=[I],owns:=[],pre:=fun _=>[],spec:=fun(n,lo,hi,_)=>(Kb n lo hi,())}
theorem Kph [Sx.Dr]:Ok Tryz.prog 133 J4g:=okW W3 Tryz.f133 na fun xx=>by
 obtain⟨(n:Int),(lo:Int),(hi:Int),_⟩:=xx
 refine(by kernel_rfl:((bif bif decide (n<lo) then true else decide (hi<n) then 3 else 0)=Kb n lo hi)=_).mp ?_
 unfold Kb;cases decide (n<lo)<;>rfl
abbrev W4 [Sx.Dr]:=W3.add Kph
def Yw (n lo hi:Int):Bool:=decide (n<lo)||decide (hi<n)
def Jzs:Con:={args:=[aI,aI,aI],ress:=[Bo],owns:=[],pre:=fun _=>[],spec:=fun(n,lo,hi,_)=>(Yw n lo hi,())}
theorem K5d [Sx.Dr]:Ok Tryz.prog 20 Jzs:=okW W4 Tryz.f20 na fun xx=>by
 obtain⟨(n:Int),(lo:Int),(hi:Int),_⟩:=xx
 refine(by kernel_rfl:((bif decide (n<lo) then true else decide (hi<n))=Yw n lo hi)=_).mp ?_
 unfold Yw;cases decide (n<lo)<;>rfl
abbrev W5 [Sx.Dr]:=W4.add K5d
def Kqf:Con:={args:=[aI],ress:=[I],owns:=[],pre:=fun _=>[],spec:=fun(n,_)=>(Kb n 0 999999999,())}
def Z68 (a:Int):=Kb a 0 999999999
def Klg (a:Int):=Z68 a=Z68 a
theorem K4o [Sx.Dr]:Ok Tryz.prog 70 Kqf:=okW W5 Tryz.f70 na fun xx=>by
 obtain⟨(n:Int),_⟩:=xx
 refine(by kernel_rfl:(Klg n)=_).mp ?_
 delta Z68 Klg
 rfl
abbrev W6 [Sx.Dr]:=W5.add K4o
def Je:List Int→Int
 |[]=>0
 |x::l=>if x=0 then Je l else x
theorem Jm9 {l:List Int} {k:Nat} (h:k<l.length):Je (l.drop k)=if l.getD k 0=0 then Je (l.drop (k+1)) else l.getD k 0:=by
 rw[List.drop_eq_getElem_cons h]
 simp[Je,List.getD_eq_getElem?_getD,h]
def Kca:Con:={args:=[.val false (.list 26 sI)],ress:=[I],owns:=[],pre:=fun(l,_)=>[l.length≤1000000],spec:=fun(l,_)=>(Je l,())}
abbrev J0c (l:List Int):Ann:={X:=Nat,σ:=fun k=>⟨1,[(5, .one (.sl 0)),(6, .one (.int .i64 l.length)),(7, .one (.int .i64 k))],[(0, .imm 26 sI l)]⟩,inv:=fun k=>k≤l.length∧Je l=Je (l.drop k),mu:=fun k=>l.length-k}
def Z14 (a:Nat):=Iw (Nc a+1)
def Z17 (a:Li) (b:Nat):=List.getD a b 0
def Z56 (a:Li):=List.length a≤1000000
def Z91 (a b:Nat):=Nc a+1=Nc b
def J2q (a:Li) (b c:Nat):=List.length a-b<List.length a-c
def Kle (a:Nat) (b:Li):=a≤List.length b∧Je b=Je (List.drop a b)
theorem K4p [Sx.Dr]:Ok Tryz.prog 69 Kca:=okW W6 Tryz.f69 (fun xx=>X3 (J0c xx.1)) fun xx=>by
 obtain⟨(l:List Int),_⟩:=xx
 refine(by kernel_rfl:(Z56 l→∃(x:Nat),Si (Ln l) (0=Nc x∧l=l)∧Kle x l∧∀(x:Nat),Kle x l→Br (decide (Nc x<Ln l)) (Tw (Bd (Nc x) (Ln l))∧Br (Z17 l x !=0) (Z17 l x=Je l) (Z14 x∧∃(y:Nat),Si (Ln l) (Z91 x y∧l=l)∧Kle y l∧J2q l y x)) (0=Je l))=_).mp ?_
 delta Z14 Z17 Z56 Z91 J2q Kle Br Iw Bd Tw Si Ln Nc
 intro hb
 refine⟨(0:Nat),⟨rfl,rfl,rfl⟩,⟨Nat.zero_le _,rfl⟩,fun(k:Nat) hk=>⟨fun h=> ?_,fun h=> ?_⟩⟩
 ·have hlt:k<l.length:=by simpa using h
  have hd:=Jm9 hlt
  refine⟨by omega,fun h1=> ?_,fun h1=>⟨by omega,(k+1:Nat),⟨rfl,by simp,rfl⟩,⟨by omega, ?_⟩,by omega⟩⟩
  ·have h2:¬l.getD k 0=0:=by simpa using h1
   rw[hk.2,hd,if_neg h2]
  ·have h2:l.getD k 0=0:=by simpa using h1
   rw[hk.2,hd,if_pos h2]
 ·have hlt:¬k<l.length:=by simpa using h
  have:k=l.length:=by omega
  rw[hk.2,this,List.drop_length];rfl
abbrev W7 [Sx.Dr]:=W6.add K4p
abbrev W8 [Sx.Dr]:=W7
abbrev W9 [Sx.Dr]:=W8
def okB (f:Bool) (c:Int):Bool:=bif (bif decide ((65:Int)≤c) then decide (c≤90) else false) then true else bif (bif decide ((97:Int)≤c) then decide (c≤122) else false) then true else bif f then false else bif decide (c<48) then c==95 else bif decide (57<c) then c==95 else true
def okL (f:Bool):List UInt8→Bool
 |[]=>true
 |b::r=>okB f (b.toNat:Int)&&okL false r
def Yh (s:ByteArray):Bool:=okL true s.data.toList&&(decide (0<s.size)&&decide ((s.size:Int)≤24))
theorem Jt0 (f:Bool) (c:Int):(bif !bif (bif decide ((65:Int)≤c) then decide (c≤90) else false) then true else bif decide ((97:Int)≤c) then decide (c≤122) else false then bif f then true else bif (bif decide (c<48) then true else decide (57<c)) then c !=95 else false else false)= !okB f c:=by
 unfold okB bne
 cases decide ((65:Int)≤c)<;>cases decide (c≤90)<;>cases decide ((97:Int)≤c)<;>cases decide (c≤122)<;>cases f<;>cases decide (c<48)<;>cases decide (57<c)<;>cases c==95<;>rfl
theorem Jon {f:Bool} {c:Int} (h:128≤c):okB f c=false:=by
 unfold okB
 have h1:decide (c≤90)=false:=decide_eq_false (by omega)
 have h2:decide (c≤122)=false:=decide_eq_false (by omega)
 have h3:decide (c<48)=false:=decide_eq_false (by omega)
 have h4:decide ((57:Int)<c)=true:=decide_eq_true (by omega)
 have h5:(c==95)=false:=beq_eq_false_iff_ne.2 (by omega)
 rw[h1,h2,h3,h4,h5]
 cases decide ((65:Int)≤c)<;>cases decide ((97:Int)≤c)<;>cases f<;>rfl
theorem Jc2 {s:ByteArray} {k:Nat} (h:k<s.size) (ha:(s[k]'h).toNat<128):V6 s k=((s[k]'h).toNat:Int)∧Jfx s k=1:=by
 unfold V6 Jfx
 rw[decode_ascii s k h ha]
 exact⟨rfl,rfl⟩
theorem Jkd {s:ByteArray} {k:Nat} (h:k<s.size) (ha:128≤(s[k]'h).toNat):128≤V6 s k:=by
 have:=(decode_high s k h ha).1
 unfold V6
 omega
theorem Dv {s:ByteArray} {k:Nat} (h:k<s.size):s.data.toList.drop k=(s[k]'h)::s.data.toList.drop (k+1):=by
 rw[List.drop_eq_getElem_cons (by simpa using h)]
 congr 1
theorem Jim (s:ByteArray):(!(s.toList==(⟨⟨[]⟩⟩:ByteArray).toList))=decide (0<s.size):=by
 rw[Lib.toList_data,Lib.toList_data]
 have e:s.data.toList.length=s.size:=by simp
 cases h:s.data.toList with
 |nil=>rw[h] at e;simp at e;rw[←e];rfl
 |cons a l=>rw[h] at e;simp at e;rw[←e];simp
theorem Jcb (k:Nat):(((k:Nat):Int)==0)=(k==0):=by
 rw[Bool.eq_iff_iff,beq_iff_eq,beq_iff_eq];omega
def Kbt:Con:={args:=[aS],ress:=[Bo],owns:=[],pre:=fun(s,_)=>[s.size≤1000000],spec:=fun(s,_)=>(Yh s,())}
abbrev J5h (s:ByteArray):Ann:={X:=Nat,σ:=fun k=>⟨1,[(0, .one (.str s)),(7, .one (.sl 0))],[(0, .siter s k)]⟩,inv:=fun k=>k≤s.size∧okL true s.data.toList=okL (k==0) (s.data.toList.drop k),mu:=fun k=>s.size-k}
def Z13 (a:Bt):=a.data.toList
def Kkj (a:Bt) (b:Nat):=bif decide (V6 a b<48) then true else decide (57<V6 a b)
def Kzm (a:Bt):=Sf true ((bif !Lb a B0 then decide (Nc (ByteArray.size a)≤24) else false)=Yh a)
def Kjc (a:Nat) (b:Bt):=a≤ByteArray.size b∧okL true (Z13 b)=okL (a==0) (List.drop a (Z13 b))
theorem Kpe [Sx.Dr]:Ok Tryz.prog 136 Kbt:=Jty W9 Tryz.f136 (Us (l:=([]:List (Nat×Func))) (by simp)) (fun xx=>X3 (J5h xx.1)) (fun xx=>fun _=>na ()) fun xx=>by
 obtain⟨(s:ByteArray),_⟩:=xx
 refine(by kernel_rfl:(ByteArray.size s≤1000000→∃(x:Nat),Sf s (Sf s (0=x))∧Kjc x s∧∀(x:Nat),Kjc x s→(x<ByteArray.size s→Br true (Br (bif !bif bif decide (65≤V6 s x) then decide (V6 s x≤90) else false then true else bif decide (97≤V6 s x) then decide (V6 s x≤122) else false then bif Nc x==0 then true else bif Kkj s x then V6 s x !=95 else false else false) (Sf true (false=Yh s)) (∃(y:Nat),Sf s (Sf s (x+Jfx s x=y))∧Kjc y s∧ByteArray.size s-y<ByteArray.size s-x)) (Kzm s))∧((x<ByteArray.size s→False)→Br false False (Kzm s)))=_).mp ?_
 delta Z13 Kkj Kzm Kjc Br Sf Nc B0 Lb
 intro hb
 refine⟨(0:Nat),⟨rfl,rfl,rfl⟩,⟨Nat.zero_le _,by simp⟩,fun(k:Nat) hk=>⟨fun h=>⟨fun _=>⟨fun h1=>⟨rfl, ?_⟩,fun h1=> ?_⟩,fun h=>(by cases h)⟩,fun h=> ?_⟩⟩
 ·rw[Jt0,Jcb] at h1
  have h2:okB (k==0) (V6 s k)=false:=by simpa using h1
  unfold Yh
  have h3:okL true s.data.toList=false:=by
   rw[hk.2,Dv h,okL]
   by_cases ha:(s[k]'h).toNat<128
   ·rw[←(Jc2 h ha).1,h2];rfl
   ·rw[Jon (by omega)];rfl
  rw[h3];rfl
 ·rw[Jt0,Jcb] at h1
  have h2:okB (k==0) (V6 s k)=true:=by simpa using h1
  by_cases ha:(s[k]'h).toNat<128
  ·obtain⟨r1,r2⟩:=Jc2 h ha
   refine⟨(k+1:Nat),⟨rfl,rfl,by rw[r2]⟩,⟨by omega, ?_⟩,by omega⟩
   rw[hk.2,Dv h,okL,←r1,h2]
   rfl
  ·have:=Jkd h (by omega)
   rw[Jon this] at h2
   cases h2
 ·have e:k=s.size:=Nat.le_antisymm hk.1 (Nat.le_of_not_lt h)
  refine⟨fun h=>(by cases h),fun _=>⟨rfl, ?_⟩⟩
  rw[e,List.drop_eq_nil_of_le (by simp)] at hk
  unfold Yh
  rw[hk.2,Jim]
  cases decide (0<s.size)<;>cases decide ((s.size:Int)≤24)<;>rfl
abbrev W10 [Sx.Dr]:=W9.add Kpe
abbrev aU:AK:= .val false (.int .u8)
def Jud (c:Int):Bool:=bif (bif decide ((65:Int)≤c) then decide (c≤90) else false) then true else bif decide ((97:Int)≤c) then decide (c≤122) else false
def Kbc (c:Int):Bool:=bif decide ((48:Int)≤c) then decide (c≤57) else false
def K5y:Con:={args:=[aU],ress:=[Bo],owns:=[],pre:=fun _=>[],spec:=fun(c,_)=>(Jud c,())}
theorem Kn3 [Sx.Dr]:Ok Tryz.prog 190 K5y:=okW W10 Tryz.f190 na fun xx=>by
 obtain⟨(c:Int),_⟩:=xx
 refine(by kernel_rfl:((bif bif decide (65≤c) then decide (c≤90) else false then true else bif decide (97≤c) then decide (c≤122) else false)=Jud c)=_).mp ?_
 rfl
abbrev W11 [Sx.Dr]:=W10.add Kn3
def K51:Con:={args:=[aU],ress:=[Bo],owns:=[],pre:=fun _=>[],spec:=fun(c,_)=>(Kbc c,())}
theorem Kn2 [Sx.Dr]:Ok Tryz.prog 191 K51:=okW W11 Tryz.f191 na fun xx=>by
 obtain⟨(c:Int),_⟩:=xx
 refine(by kernel_rfl:((bif decide (48≤c) then decide (c≤57) else false)=Kbc c)=_).mp ?_
 rfl
abbrev W12 [Sx.Dr]:=W11.add Kn2
theorem J3r (c:Int):okB true c=Jud c:=by
 unfold okB Jud
 cases decide ((65:Int)≤c)<;>cases decide (c≤90)<;>cases decide ((97:Int)≤c)<;>cases decide (c≤122)<;>rfl
theorem J3q (c:Int):(bif bif !Jud c then !Kbc c else false then c !=95 else false)= !okB false c:=by
 unfold okB Jud Kbc bne
 have e1:decide (c<48)= !decide ((48:Int)≤c):=by rw[Bool.eq_iff_iff];simp
 have e2:decide ((57:Int)<c)= !decide (c≤57):=by rw[Bool.eq_iff_iff];simp
 rw[e1,e2]
 cases decide ((65:Int)≤c)<;>cases decide (c≤90)<;>cases decide ((97:Int)≤c)<;>cases decide (c≤122)<;>cases decide ((48:Int)≤c)<;>cases decide (c≤57)<;>cases c==95<;>rfl
theorem Dg {s:ByteArray} {k:Nat} (h:k<s.size):s.data.toList.drop k=s.data.toList.getD k 0::s.data.toList.drop (k+1):=by
 have h':k<s.data.toList.length:=by simpa using h
 rw[List.drop_eq_getElem_cons h']
 congr 1
 rw[List.getD_eq_getElem?_getD,List.getElem?_eq_getElem h'];rfl
abbrev J0a (s:ByteArray):Ann:={X:=Nat,σ:=fun k=>⟨0,[(0, .one (.str s)),(3, .one (.int .i64 k))],[]⟩,inv:=fun k=>0<k∧k≤s.size∧Yh s=okL false (s.data.toList.drop k),mu:=fun k=>s.size-k}
def Klh (a:Bt) (b:Nat):=Nc (UInt8.toNat (List.getD (Z13 a) b 0))
def Kla (a:Bt):=Nc (UInt8.toNat (List.getD (Z13 a) 0 0))
def K0w (a:Bt) (b:Nat):= !Jud (Klh a b)
def K0n (a:Bt):=bif Nc (ByteArray.size a)==0 then true else decide (24<Nc (ByteArray.size a))
def Kjl (a:Nat) (b:Bt):=0<a∧a≤ByteArray.size b∧Yh b=okL false (List.drop a (Z13 b))
def Kv0 (a:Bt) (b:Nat):=bif K0w a b then !Kbc (Klh a b) else false
theorem Kpu [Sx.Dr]:Ok Tryz.prog 111 Kbt:=okW W12 Tryz.f111 (fun xx=>X3 (J0a xx.1)) fun xx=>by
 obtain⟨(s:ByteArray),_⟩:=xx
 refine(by kernel_rfl:(ByteArray.size s≤1000000→(K0n s=false→Bd 0 (Nc (ByteArray.size s)))∧Br (bif K0n s then true else !Jud (Kla s)) (false=Yh s) (∃(x:Nat),Sf s (1=Nc x)∧Kjl x s∧∀(x:Nat),Kjl x s→Br (decide (Nc x<Nc (ByteArray.size s))) ((Bd (Nc x) (Nc (ByteArray.size s))∧(K0w s x=true→Bd (Nc x) (Nc (ByteArray.size s)))∧(Kv0 s x=true→Bd (Nc x) (Nc (ByteArray.size s))))∧Br (bif Kv0 s x then Klh s x !=95 else false) (false=Yh s) (Z14 x∧∃(y:Nat),Sf s (Z91 x y)∧Kjl y s∧ByteArray.size s-y<ByteArray.size s-x)) (true=Yh s)))=_).mp ?_
 delta Z13 Z14 Z91 Klh Kla K0w K0n Kjl Kv0 Br Iw Bd Sf Nc
 intro hb
 have e0:∀h:0<s.size,okL true s.data.toList=(Jud ((s.data.toList.getD 0 0).toNat:Int)&&okL false (s.data.toList.drop 1)):=fun h=>by
  have:=Dg h
  rw[List.drop_zero] at this
  rw[this,okL,J3r]
  simp
 refine⟨fun h=> ?_,fun h=> ?_,fun h=> ?_⟩
 ·have h1:((s.size:Int)==0)=false:=by revert h;cases((s.size:Int)==0)<;>simp
  have:=beq_eq_false_iff_ne.1 h1
  exact⟨Int.le_refl _,by omega⟩
 ·unfold Yh
  by_cases h0:0<s.size
  ·rw[e0 h0]
   have h1:((s.size:Int)==0)=false:=beq_eq_false_iff_ne.2 (by omega)
   rw[h1] at h
   by_cases h2:(s.size:Int)≤24
   ·have h3:decide ((24:Int)<s.size)=false:=decide_eq_false (by omega)
    rw[h3] at h
    have h4:Jud ((s.data.toList.getD 0 0).toNat:Int)=false:=by simpa using h
    rw[h4];rfl
   ·rw[decide_eq_false h2];simp
  ·rw[decide_eq_false h0];simp
 ·have h1:((s.size:Int)==0)=false:=by revert h;cases((s.size:Int)==0)<;>simp
  rw[h1] at h
  have h2:decide ((24:Int)<s.size)=false:=by revert h;cases decide ((24:Int)<s.size)<;>simp
  rw[h2] at h
  have h3:Jud ((s.data.toList.getD 0 0).toNat:Int)=true:=by simpa using h
  have h0:0<s.size:=by have:=beq_eq_false_iff_ne.1 h1;omega
  have h24:(s.size:Int)≤24:=by have:=of_decide_eq_false h2;omega
  have en:Yh s=okL false (s.data.toList.drop 1):=by
   unfold Yh
   rw[e0 h0,h3,decide_eq_true h0,decide_eq_true h24];simp
  refine⟨(1:Nat),⟨rfl,rfl⟩,⟨by omega,by omega,en⟩,fun(k:Nat) hk=>⟨fun h=> ?_,fun h=> ?_⟩⟩
  ·have hlt:k<s.size:=by simpa using h
   rw[J3q]
   refine⟨⟨by omega,fun _=>by omega,fun _=>by omega⟩,fun h1=> ?_,fun h1=>⟨by omega,(k+1:Nat),⟨rfl,by simp⟩,⟨by omega,by omega, ?_⟩,by omega⟩⟩
   ·have h2:okB false ((s.data.toList.getD k 0).toNat:Int)=false:=by simpa using h1
    rw[hk.2.2,Dg hlt,okL,h2];rfl
   ·have h2:okB false ((s.data.toList.getD k 0).toNat:Int)=true:=by simpa using h1
    rw[hk.2.2,Dg hlt,okL,h2];rfl
  ·have hlt:¬k<s.size:=by simpa using h
   have:k=s.size:=by omega
   rw[hk.2.2,this,List.drop_eq_nil_of_le (by simp)];rfl
abbrev W13 [Sx.Dr]:=W12.add Kpu
abbrev Jyl:Sch:= .prod sI .bool
abbrev Kan:Sch:= .prod (.list 251 Jyl) (.prod sI (.prod .fnc (.prod .fnc .fnc)))
abbrev K1c:=List (Int×Bool)×Int×Option Nat×Option Nat×Option Nat
abbrev Js:ByteArray:=⟨⟨[117,110,100,111]⟩⟩
abbrev Jt:ByteArray:=⟨⟨[115,116,97,116,105,111,110]⟩⟩
abbrev Ua:ByteArray:=⟨⟨[112,114,105,99,101]⟩⟩
abbrev Kk:ByteArray:=⟨⟨[111,114,100,101,114]⟩⟩
abbrev K2:ByteArray:=⟨⟨[109,101,116,101,114]⟩⟩
abbrev Vl:ByteArray:=⟨⟨[116,114,105,112]⟩⟩
abbrev Ju:ByteArray:=⟨⟨[111,117,116,97,103,101]⟩⟩
abbrev Jq:ByteArray:=⟨⟨[114,101,115,116,111,114,101]⟩⟩
abbrev Kd:ByteArray:=⟨⟨[112,101,114,109,105,116]⟩⟩
abbrev Kc:ByteArray:=⟨⟨[114,101,116,117,114,110]⟩⟩
abbrev Jg:ByteArray:=⟨⟨[115,101,116,116,108,101]⟩⟩
def Lk:List (ByteArray×K1c):=[(Js,[],0,none,none,none),
 (Jt,[(0,false)],2,some 148,some 149,some 150),
 (Ua,[(0,true)],2,some 152,some 153,some 150),
 (Kk,[(1,false),(0,true),(0,true)],4,some 154,some 155,some 156),
 (K2,[(1,true)],4,some 157,some 158,some 156),
 (Vl,[(1,true)],1,some 159,some 160,some 156),
 (Ju,[(2,false),(0,true)],4,some 161,some 162,some 163),
 (Jq,[(2,true)],1,some 164,some 165,some 163),
 (Kd,[(3,false),(2,true)],1,some 166,some 167,some 168),
 (Kc,[(3,true)],1,some 169,some 170,some 168),
 (Jg,[],2,some 171,some 172,none)]
def Kb8:Con:={args:=[aI],ress:=[(true,Jyl)],owns:=[],pre:=fun _=>[],spec:=fun(t,_)=>((t,false),())}
theorem Ko3 [Sx.Dr]:Ok Tryz.prog 147 Kb8:=okW W13 Tryz.f147 na fun xx=>by
 obtain⟨(t:Int),_⟩:=xx
 refine(by kernel_rfl:((t,false)=(t,false))=_).mp ?_
 trivial
abbrev W14 [Sx.Dr]:=W13.add Ko3
def K5u:Con:={args:=[aI],ress:=[(true,Jyl)],owns:=[],pre:=fun _=>[],spec:=fun(t,_)=>((t,true),())}
theorem Koz [Sx.Dr]:Ok Tryz.prog 151 K5u:=okW W14 Tryz.f151 na fun xx=>by
 obtain⟨(t:Int),_⟩:=xx
 refine(by kernel_rfl:((t,true)=(t,true))=_).mp ?_
 trivial
abbrev W15 [Sx.Dr]:=W14.add Koz
def J15:Jlv:={kT:=9,gk:=false,gv:=true,ks:= .str,vs:=Kan,l:=Lk}
def Kll:=[((0:Int),true)]
def J9h:List (Int×Bool)×Int×Option Nat×Option Nat×Option Nat:=([],(0:Int),none,none,none)
def Khs:=(∀(k k':ByteArray),some (Lb k k')=some (List.beq (ByteArray.toList k) (ByteArray.toList k')))∧∀(k:ByteArray),true=true
theorem K3w [Sx.Dr]:wpFM Tryz.prog W15.g (na ()) (fun _=>na ()) (Sx.look ([]:List (Nat×Func))) Tryz.f80 J15:=by
 refine(by kernel_rfl:(Khs∧Sf true ([(Js,J9h),(Jt,[(0,false)],2,some 148,some 149,some 150),(Ua,Kll,2,some 152,some 153,some 150),(Kk,(1,false)::(0,true)::Kll,4,some 154,some 155,some 156),(K2,[(1,true)],4,some 157,some 158,some 156),(Vl,[(1,true)],1,some 159,some 160,some 156),(Ju,(2,false)::Kll,4,some 161,some 162,some 163),(Jq,[(2,true)],1,some 164,some 165,some 163),(Kd,[(3,false),(2,true)],1,some 166,some 167,some 168),(Kc,[(3,true)],1,some 169,some 170,some 168),(Jg,[],2,some 171,some 172,none)]=Lk))=_).mp ?_
 delta Kll J9h Khs Sf Lb K2 Kk Ju Kd Ua Jq Kc Jg Jt Vl Js
 exact⟨⟨fun _ _=>rfl,fun _=>rfl⟩,rfl,rfl⟩
theorem Kms [Sx.Dr]:Ok Tryz.prog 80 (Jlv.con J15):=J1q (Jkp mixed W15.ok (by kernel_rfl) (by kernel_rfl) (Us (l:=([]:List (Nat×Func))) (by simp)) (na ()) (fun _=>na ()) K3w)
abbrev W16 [Sx.Dr]:=W15.add Kms
theorem Jd {α:Type} {l:List α} {k:Nat} {d:α} (h:k<l.length):l.getD k d∈l:=by
 simp[List.getD_eq_getElem?_getD,h]
theorem K4 {α:Type} {d:α} {l:List α} {k:Nat} (h:k<l.length):l.take k++[l.getD k d]=l.take (k+1):=by
 rw[List.take_succ_eq_append_getElem h,List.getD_eq_getElem?_getD,List.getElem?_eq_getElem h];rfl
abbrev Ja0 (T U:TypeId) (s:Sch) (l:List s.T) (r:Bool×Sch) (g:Bool) (q:Tup [(g,s)]→List Prop) (f:Tup [(g,s)]→r.2.T):Ann:={X:=Nat,σ:=fun k=>⟨3,[(1, .one (.fv 1)),(5, .one (.sl 2)),(8, .one (.sl 0)),(9, .one (.int .i64 l.length)),(10, .one (.int .i64 k))],[(0, .imm T s l),(1, .afn [(g,s)] r q f),(2, .own U r.2 ((l.take k).map fun x=>f (x,())))]⟩,inv:=fun k=>k≤l.length,mu:=fun k=>l.length-k}
def Kbw:Con:={args:=[.val false (.list 9 .str), .fn [tS] I],ress:=[(false, .list 26 sI)],owns:=[true],pre:=fun(l,(q,_),_)=>[l.length≤1000000,∀x∈l,Uj (q (x,()))],spec:=fun(l,(_,f),_)=>(l.map fun x=>f (x,()),())}
def Kbz:Con:={args:=[.val false (.list 3 sI), .fn [I] I],ress:=[(false, .list 26 sI)],owns:=[true],pre:=fun(l,(q,_),_)=>[l.length≤1000000,∀x∈l,Uj (q (x,()))],spec:=fun(l,(_,f),_)=>(l.map fun x=>f (x,()),())}
def J6r (a:Li) (b:Int):=b∈a
def J9w (a:Int×Unit→Int) (b:Nat) (c:Li):=List.map (fun(x:Int)=>a (x,PUnit.unit)) (List.take b c)
def Kkm (a:Li) (b:Int×Unit→List Prop):=∀(x:Int),J6r a x→Uj (b (x,PUnit.unit))
theorem Kpd [Sx.Dr]:Ok Tryz.prog 137 Kbz:=okW W16 Tryz.f137 (fun xx=>X3 (Ja0 3 26 sI xx.1 I false xx.2.1.1 xx.2.1.2)) fun xx=>by
 obtain⟨(l:List Int),⟨(q:Int×Unit→List Prop),(f:Int×Unit→Int)⟩,_⟩:=xx
 refine(by kernel_rfl:(Z56 l→Kkm l q→∃(x:Nat),Si (Ln l) (0=Nc x∧Sf l ((fun(x:Int×PUnit)=>q x)=q∧(fun(x:Int×PUnit)=>f x)=f∧List.length (J9w f x l)=0))∧x≤List.length l∧∀(x:Nat),x≤List.length l→Br (decide (Nc x<Ln l)) (Tw (Bd (Nc x) (Ln l))∧(Uj (q (Z17 l x,PUnit.unit))∧(List.length (J9w f x l)+1)*8≤140737488355328)∧Z14 x∧∃(y:Nat),Si (Ln l) (Z91 x y∧Sf l ((fun(x:Int×PUnit)=>q x)=q∧(fun(x:Int×PUnit)=>f x)=f∧J9w f x l++[f (Z17 l x,PUnit.unit)]=J9w f y l))∧y≤List.length l∧J2q l y x) (J9w f x l=List.map (fun(x:Int)=>f (x,PUnit.unit)) l))=_).mp ?_
 delta Z14 Z17 Z56 Z91 J6r J2q J9w Kkm Br Iw Bd Tw Sf Si Ln Nc
 intro hb hq
 refine⟨(0:Nat),⟨rfl,rfl,rfl,rfl,rfl,by simp⟩,Nat.zero_le _,fun(k:Nat) hk=>⟨fun h=> ?_,fun h=> ?_⟩⟩
 ·have hlt:k<l.length:=by simpa using h
  refine⟨by omega,⟨hq (l.getD k 0) (Jd hlt),by simp only[List.length_map,List.length_take];omega⟩,by omega,(k+1:Nat),⟨rfl,by simp,rfl,rfl,rfl, ?_⟩,by omega,by omega⟩
  rw[←K4 (d:=0) hlt,List.map_append];rfl
 ·have hlt:¬k<l.length:=by simpa using h
  rw[List.take_of_length_le (by omega)]
abbrev W17 [Sx.Dr]:=W16.add Kpd
def Dl (a:Ls):=List.length a≤1000000
def Jdi (a:Ls) (b:Bt):=b∈a
def J9o (a:Bt×Unit→Int) (b:Nat) (c:Ls):=List.map (fun(x:ByteArray)=>a (x,PUnit.unit)) (List.take b c)
theorem Kpg [Sx.Dr]:Ok Tryz.prog 134 Kbw:=okW W17 Tryz.f134 (fun xx=>X3 (Ja0 9 26 .str xx.1 I false xx.2.1.1 xx.2.1.2)) fun xx=>by
 obtain⟨(l:List ByteArray),⟨(q:ByteArray×Unit→List Prop),(f:ByteArray×Unit→Int)⟩,_⟩:=xx
 refine(by kernel_rfl:(Dl l→(∀(x:ByteArray),Jdi l x→Uj (q (x,PUnit.unit)))→∃(x:Nat),Si (Ln l) (0=Nc x∧Sf l ((fun(x:ByteArray×PUnit)=>q x)=q∧(fun(x:ByteArray×PUnit)=>f x)=f∧List.length (J9o f x l)=0))∧x≤List.length l∧∀(x:Nat),x≤List.length l→Br (decide (Nc x<Ln l)) (Tw (Bd (Nc x) (Ln l))∧(Uj (q (List.getD l x B0,PUnit.unit))∧(List.length (J9o f x l)+1)*8≤140737488355328)∧Z14 x∧∃(y:Nat),Si (Ln l) (Z91 x y∧Sf l ((fun(x:ByteArray×PUnit)=>q x)=q∧(fun(x:ByteArray×PUnit)=>f x)=f∧J9o f x l++[f (List.getD l x B0,PUnit.unit)]=J9o f y l))∧y≤List.length l∧List.length l-y<List.length l-x) (J9o f x l=List.map (fun(x:ByteArray)=>f (x,PUnit.unit)) l))=_).mp ?_
 delta Z14 Z91 Dl Jdi J9o Br Iw Bd Tw Sf Si Ln Nc B0
 intro hb hq
 refine⟨(0:Nat),⟨rfl,rfl,rfl,rfl,rfl,by simp⟩,Nat.zero_le _,fun(k:Nat) hk=>⟨fun h=> ?_,fun h=> ?_⟩⟩
 ·have hlt:k<l.length:=by simpa using h
  refine⟨by omega,⟨hq (l.getD k (⟨⟨[]⟩⟩:ByteArray)) (Jd hlt),by simp only[List.length_map,List.length_take];omega⟩,by omega,(k+1:Nat),⟨rfl,by simp,rfl,rfl,rfl, ?_⟩,by omega,by omega⟩
  rw[←K4 (d:=(⟨⟨[]⟩⟩:ByteArray)) hlt,List.map_append];rfl
 ·have hlt:¬k<l.length:=by simpa using h
  rw[List.take_of_length_le (by omega)]
abbrev W18 [Sx.Dr]:=W17.add Kpg
def Kq0:Con:={args:=[aS],ress:=[I],owns:=[],pre:=fun(s,_)=>[s.size≤1000000],spec:=fun(s,_)=>(bif Yh s then 0 else 8,())}
theorem Kpf [Sx.Dr]:Ok Tryz.prog 135 Kq0:=okW W18 Tryz.f135 na fun xx=>by
 obtain⟨(s:ByteArray),_⟩:=xx
 refine(by kernel_rfl:(ByteArray.size s≤(1000000:Nat)→ByteArray.size s≤(1000000:Nat)∧(bif !Yh s then(8:Int) else(0:Int))=bif Yh s then(0:Int) else(8:Int))=_).mp ?_
 exact fun h=>⟨h,by cases Yh s<;>rfl⟩
abbrev W19 [Sx.Dr]:=W18.add Kpf
def Kqz:Con:={args:=[aI],ress:=[I],owns:=[],pre:=fun _=>[],spec:=fun(n,_)=>(Kb n 0 999999999,())}
theorem Kpc [Sx.Dr]:Ok Tryz.prog 138 Kqz:=okW W19 Tryz.f138 na fun xx=>by
 obtain⟨(n:Int),_⟩:=xx
 refine(by kernel_rfl:(Klg n)=_).mp ?_
 delta Z68 Klg
 rfl
abbrev W20 [Sx.Dr]:=W19.add Kpc
abbrev Ev:=Int×ByteArray×List ByteArray×List Int×ByteArray
abbrev sEv:Sch:= .prod sI (.prod .str (.prod (.list 9 .str) (.prod (.list 3 sI) .str)))
abbrev aEv:AK:= .val true sEv
def Ji (k:ByteArray):K1c:=(Vn .str k Lk).getD ([],0,none,none,none)
def Yu (k:ByteArray):Bool:=(Vn .str k Lk).isSome
def Jc (e:Ev):Int:=
 if Kb e.1 1 1000≠0 then Kb e.1 1 1000 else
 bif Yu e.2.1 then(if e.2.2.1.length=(Ji e.2.1).1.length∧(e.2.2.2.1.length:Int)=(Ji e.2.1).2.1 then
  Je [Je (e.2.2.1.map fun s=>bif Yh s then 0 else 8),Je (e.2.2.2.1.map fun n=>Kb n 0 999999999),bif decide (0<e.2.2.2.2.size) then 1 else 0] else 2) else 13
theorem bn1 {b c:Bool} (h:(bif b then true else c)=false):b=false∧c=false:=by cases b<;>simp_all
def Kcn:Con:={args:=[aEv],ress:=[I],owns:=[],pre:=fun(e,_)=>[e.2.2.1.length≤1000000,e.2.2.2.1.length≤1000000,∀s∈e.2.2.1,s.size≤1000000],spec:=fun(e,_)=>(Jc e,())}
def Z63 (a:Int) (b:Bt) (c:Ls) (d:Li) (e:Bt):=Jc (a,b,c,d,e)
def Kz3 (a:Ls):=List.map (fun(x:ByteArray)=>match Yh x with|true=>(0:Int)|false=>(8:Int)) a
def Jco (a:Ls):=∀(s:ByteArray),Jdi a s→ByteArray.size s≤1000000
def Kx6 (a:Bt):=Vn Sch.str a Lk
def Kt5 (a:Bt):=Option.getD (Kx6 a) J9h
theorem K1j [Sx.Dr]:Ok Tryz.prog 64 Kcn:=okW W20 Tryz.f64 na fun xx=>by
 obtain⟨⟨(n:Int),(k:ByteArray),(ns:List ByteArray),(vs:List Int),(t:ByteArray)⟩,_⟩:=xx
 refine(by kernel_rfl:(Dl ns→Z56 vs→Jco ns→Br (Kb n 1 (1000:Int) !=0) (Kb n 1 1000=Z63 n k ns vs t) (Br (!Option.isSome (Kx6 k)) (13=Z63 n k ns vs t) (Br (bif Ln ns !=Ln (Kt5 k).1 then true else Ln vs !=(Kt5 k).2.1) (2=Z63 n k ns vs t) ((Dl ns∧Jco ns)∧(Z56 vs∧∀(x:Int),J6r vs x→True)∧(List.length (Kz3 ns)≤1000000∧List.length (List.map (fun(x:Int)=>Z68 x) vs)≤1000000∧3≤1000000)∧Je [Je (Kz3 ns),Je (List.map (fun(x:Int)=>Z68 x) vs),bif !Lb t B0 then 1 else 0]=Z63 n k ns vs t))))=_).mp ?_
 delta Z56 Z63 Z68 Dl J6r Jdi J9h Kz3 Jco Kx6 Kt5 Br Ln B0 Lb
 intro h1 h2 h3
 unfold Jc Ji Yu
 dsimp only
 refine⟨fun h=> ?_,fun h=> ?_⟩
 ·rw[if_pos (bne_iff_ne.1 h)]
 rw[if_neg (by have:=bne_eq_false_iff_eq.1 h;simpa using this)]
 refine⟨fun h4=> ?_,fun h4=> ?_⟩
 ·rw[Bool.not_eq_true'] at h4
  rw[h4];rfl
 rw[Bool.not_eq_false'] at h4
 rw[h4,cond_true]
 refine⟨fun h5=> ?_,fun h5=>⟨⟨h1,h3⟩,⟨h2,fun _ _=>trivial⟩,⟨by simpa using h1,by simpa using h2,by decide⟩, ?_⟩⟩
 ·rw[if_neg]
  rintro⟨e1,e2⟩
  rw[e1,e2] at h5
  simp at h5
 ·have h6:=bn1 h5
  rw[if_pos ⟨Int.ofNat_inj.1 (bne_eq_false_iff_eq.1 h6.1),bne_eq_false_iff_eq.1 h6.2⟩,Jim]
  rfl
abbrev W21 [Sx.Dr]:=W20.add K1j
abbrev Hp:Sch:= .prod sI sI
abbrev Sta:=ByteArray×Int×Int
abbrev Ord:=ByteArray×ByteArray×ByteArray×(Int×Int)×Int×Int×Int
abbrev Met:=ByteArray×Int×Int×Int
abbrev Out:=ByteArray×ByteArray×(Int×Int)×Int
abbrev Per:=ByteArray×ByteArray×Bool
abbrev Xh:Sch:= .prod .str (.prod sI sI)
abbrev Yt:Sch:= .prod .str (.prod .str (.prod .str (.prod Hp (.prod sI (.prod sI sI)))))
abbrev Xw:Sch:= .prod .str (.prod sI (.prod sI sI))
abbrev V5:Sch:= .prod .str (.prod .str (.prod Hp sI))
abbrev Ys:Sch:= .prod .str (.prod .str .bool)
def K1r:Con:={args:=[.val true Xh],ress:=[tS],owns:=[],pre:=fun _=>[],spec:=fun(x,_)=>(x.1,())}
def K1t:Con:={args:=[.val true Yt],ress:=[tS],owns:=[],pre:=fun _=>[],spec:=fun(x,_)=>(x.1,())}
def K1q:Con:={args:=[.val true V5],ress:=[tS],owns:=[],pre:=fun _=>[],spec:=fun(x,_)=>(x.1,())}
def K1s:Con:={args:=[.val true Ys],ress:=[tS],owns:=[],pre:=fun _=>[],spec:=fun(x,_)=>(x.1,())}
theorem Klw [Sx.Dr] (x:Sta):wpF Tryz.prog W21.g (na ()) Tryz.f328 K1r (x,()):=by
 refine(by kernel_rfl:(x.1=x.1)=_).mp ?_
 rfl
theorem Kmv [Sx.Dr]:Ok Tryz.prog 328 K1r:=Vq mixed W21.ok (by kernel_rfl) (by kernel_rfl) na fun xx=>Klw xx.1
abbrev W22 [Sx.Dr]:=W21.add Kmv
theorem Klv [Sx.Dr] (x:Ord):wpF Tryz.prog W22.g (na ()) Tryz.f329 K1t (x,()):=by
 refine(by kernel_rfl:(x.1=x.1)=_).mp ?_
 rfl
theorem Kmu [Sx.Dr]:Ok Tryz.prog 329 K1t:=Vq mixed W22.ok (by kernel_rfl) (by kernel_rfl) na fun xx=>Klv xx.1
abbrev W23 [Sx.Dr]:=W22.add Kmu
theorem Kl4 [Sx.Dr] (x:Out):wpF Tryz.prog W23.g (na ()) Tryz.f204 K1q (x,()):=by
 refine(by kernel_rfl:(x.1=x.1)=_).mp ?_
 rfl
theorem Knq [Sx.Dr]:Ok Tryz.prog 204 K1q:=Vq mixed W23.ok (by kernel_rfl) (by kernel_rfl) na fun xx=>Kl4 xx.1
abbrev W24 [Sx.Dr]:=W23.add Knq
theorem Kl3 [Sx.Dr] (x:Per):wpF Tryz.prog W24.g (na ()) Tryz.f208 K1s (x,()):=by
 refine(by kernel_rfl:(x.1=x.1)=_).mp ?_
 rfl
theorem Knm [Sx.Dr]:Ok Tryz.prog 208 K1s:=Vq mixed W24.ok (by kernel_rfl) (by kernel_rfl) na fun xx=>Kl3 xx.1
abbrev W25 [Sx.Dr]:=W24.add Knm
def Jb:ByteArray:=⟨⟨[]⟩⟩
def Vk {α:Type} (p:α→Bool):List α→Nat→Int
 |[],_=> -1
 |x::r,k=>if p x=true then(k:Int) else Vk p r (k+1)
theorem V7 {α:Type} {p:α→Bool} {l:List α} {k:Nat} {d:α} (h:k<l.length):Vk p (l.drop k) k=if p (l.getD k d)=true then(k:Int) else Vk p (l.drop (k+1)) (k+1):=by
 rw[List.drop_eq_getElem_cons h]
 simp[Vk,List.getD_eq_getElem?_getD,h]
abbrev Jlm (T:TypeId) (s:Sch) (g:Bool) (l:List s.T) (q:Tup [(g,s)]→List Prop) (f:Tup [(g,s)]→Bool):Ann:={X:=Nat,σ:=fun k=>⟨2,[(0, .one (.sl 0)),(1, .one (.fv 1)),(7, .one (.int .i64 l.length)),(8, .one (.int .i64 k))],[(0, .imm T s l),(1, .afn [(g,s)] Bo q f)]⟩,inv:=fun k=>k≤l.length∧Vk (fun x=>f (x,())) l 0=Vk (fun x=>f (x,())) (l.drop k) k,mu:=fun k=>l.length-k}
def Kb6 (T:TypeId) (s:Sch) (g:Bool):Con:={args:=[.val false (.list T s), .fn [(g,s)] Bo],ress:=[I],owns:=[],pre:=fun(l,(q,_),_)=>[l.length≤1000000,∀x∈l,Uj (q (x,()))],spec:=fun(l,(_,f),_)=>(Vk (fun x=>f (x,())) l 0,())}
def Jr2:Sta:=(Jb,0,0)
def K1v:Con:={args:=[.val true Xh, .ref 9 .str],ress:=[Bo],owns:=[],pre:=fun _=>[],spec:=fun(x,s,_)=>(x.1.toList==s.toList,())}
theorem Kl2 [Sx.Dr] (x:Sta) (s:ByteArray):wpF Tryz.prog W25.g (na ()) Tryz.f229 K1v (x,s,()):=by
 refine(by kernel_rfl:(Lb x.1 s=Lb x.1 s)=_).mp ?_
 delta Lb
 rfl
theorem Kni [Sx.Dr]:Ok Tryz.prog 229 K1v:=Vq mixed W25.ok (by kernel_rfl) (by kernel_rfl) na fun xx=>Kl2 xx.1 xx.2.1
abbrev W26 [Sx.Dr]:=W25.add Kni
def Z12:=(B0,(0:Int),(0:Int))
def Z46 (a:List Sta):=List.length a≤1000000
def Z67:=(-1)
def J2u (a:List Sta) (b:Nat):=(List.getD a b Z12).2
def J2t (a:List Sta) (b:Nat):=(List.getD a b Z12).1
def J2s (a:List Sta) (b c:Nat):=List.length a-b<List.length a-c
def Kjr (a:List Sta) (b:Nat):=(J2t a b,E2 (J2u a b))
def Ky9 (a:List Sta) (b:Nat):=(Kjr a b,PUnit.unit)
def Ki4 (a:Nat) (b:List Sta) (c:Sta×Unit→Bool):=a≤List.length b∧Vk (fun(x:Sta)=>c (x,PUnit.unit)) b 0=Vk (fun(x:Sta)=>c (x,PUnit.unit)) (List.drop a b) a
theorem Knj [Sx.Dr]:Ok Tryz.prog 228 (Kb6 127 Xh true):=okW W26 Tryz.f228 (fun xx=>X3 (Jlm 127 Xh true xx.1 xx.2.1.1 xx.2.1.2)) fun xx=>by
 obtain⟨(l:List Sta),⟨(q:Sta×Unit→List Prop),(f:Sta×Unit→Bool)⟩,_⟩:=xx
 refine(by kernel_rfl:(Z46 l→(∀(x:Sta),x∈l→Uj (q (x,PUnit.unit)))→∃(x:Nat),Si (Ln l) (0=Nc x∧Sf l ((fun(x:Sta×PUnit)=>q x)=q∧(fun(x:Sta×PUnit)=>f x)=f))∧Ki4 x l f∧∀(x:Nat),Ki4 x l f→Br (decide (Nc x<Ln l)) (T2 (Bd (Nc x) (Ln l)) (Uj (q (Ky9 l x)))∧Br (f (Ky9 l x)) (Nc x=Vk (fun(x:Sta)=>f (x,PUnit.unit)) l 0) (Z14 x∧∃(y:Nat),Si (Ln l) (Z91 x y∧Sf l ((fun(x:Sta×PUnit)=>q x)=q∧(fun(x:Sta×PUnit)=>f x)=f))∧Ki4 y l f∧J2s l y x)) (Z67=Vk (fun(x:Sta)=>f (x,PUnit.unit)) l 0))=_).mp ?_
 delta Z12 Z14 Z46 Z67 Z91 J2u J2t J2s Kjr Ky9 Ki4 Br Iw Bd T2 Sf Si Ln Nc B0 E2
 intro hb hq
 refine⟨(0:Nat),⟨rfl,rfl,rfl,rfl,rfl⟩,⟨Nat.zero_le _,rfl⟩,fun(k:Nat) hk=>⟨fun h=> ?_,fun h=> ?_⟩⟩
 ·have hlt:k<l.length:=by simpa using h
  have hd:=V7 (p:=fun x=>f (x,())) (d:=Jr2) hlt
  refine⟨⟨by omega,by omega,hq (l.getD k Jr2) (Jd hlt)⟩,fun h1=> ?_,fun h1=>⟨by omega,(k+1:Nat),⟨rfl,rfl,rfl,by simp,rfl⟩,⟨by omega, ?_⟩,by omega⟩⟩
  ·rw[hk.2,hd,if_pos (show f (l.getD k Jr2,())=true from h1)]
  ·rw[hk.2,hd,if_neg (by rw[show f (l.getD k Jr2,())=false from h1];simp)]
 ·have hlt:¬k<l.length:=by simpa using h
  have:k=l.length:=by omega
  rw[hk.2,this,List.drop_length];rfl
abbrev W27 [Sx.Dr]:=W26.add Knj
def J0 (l:List Sta) (s:ByteArray):Int:=Vk (fun x=>x.1.toList==s.toList) l 0
def Kcc:Con:={args:=[.val false (.list 127 Xh),aS],ress:=[I],owns:=[],pre:=fun(l,_)=>[l.length≤1000000],spec:=fun(l,s,_)=>(J0 l s,())}
theorem Ko7 [Sx.Dr]:Ok Tryz.prog 143 Kcc:=okW W27 Tryz.f143 na fun xx=>by
 obtain⟨(l:List Sta),(s:ByteArray),_⟩:=xx
 refine(by kernel_rfl:(Z46 l→(Z46 l∧∀(x:Sta),x∈l→True)∧Vk (fun(x:Sta)=>List.beq (ByteArray.toList x.1) (ByteArray.toList s)) l 0=J0 l s)=_).mp ?_
 delta Z46
 exact fun h=>⟨⟨h,fun _ _=>trivial⟩,rfl⟩
abbrev W28 [Sx.Dr]:=W27.add Ko7
def Kl:Ord:=(Jb,Jb,Jb,(0,0),0,0,0)
def K1x:Con:={args:=[.val true Yt, .ref 9 .str],ress:=[Bo],owns:=[],pre:=fun _=>[],spec:=fun(x,s,_)=>(x.1.toList==s.toList,())}
theorem Kl1 [Sx.Dr] (x:Ord) (s:ByteArray):wpF Tryz.prog W28.g (na ()) Tryz.f231 K1x (x,s,()):=by
 refine(by kernel_rfl:(Lb x.1 s=Lb x.1 s)=_).mp ?_
 delta Lb
 rfl
theorem Kng [Sx.Dr]:Ok Tryz.prog 231 K1x:=Vq mixed W28.ok (by kernel_rfl) (by kernel_rfl) na fun xx=>Kl1 xx.1 xx.2.1
abbrev W29 [Sx.Dr]:=W28.add Kng
def Z57 (a:List Ord):=List.length a≤1000000
def Z66:=((0:Int),(0:Int),(0:Int))
def Z98 (a:Nat) (b:List Ord):=decide (Nc a<Ln b)
def Jdh:=(B0,B0,B0,((0:Int),(0:Int)),Z66)
def J6a (a:List Ord) (b:Nat):=List.getD a b Jdh
def Kkl (a:List Ord) (b:Ord×Unit→List Prop):=∀(x:Ord),x∈a→Uj (b (x,PUnit.unit))
def J0h (a:List Ord) (b:Nat):=(J6a a b).1
def J9e (a:List Ord) (b:Nat):=(J6a a b).2
def J9c (a:List Ord) (b:Nat):=(J9e a b).2
def J59 (a:List Ord) (b:Nat):=(J9e a b).1
def J58 (a:List Ord) (b:Nat):=(J9c a b).1
def J9b (a:List Ord) (b:Nat):=(J9c a b).2
def J57 (a:List Ord) (b:Nat):=(J9b a b).1
def J9a (a:List Ord) (b:Nat):=(J9b a b).2
def J56 (a:List Ord) (b:Nat):=(J9a a b).1
def J55 (a:List Ord) (b:Nat):=(J9a a b).2
def Ki5 (a:Nat) (b:List Ord) (c:Ord×Unit→Bool):=a≤List.length b∧Vk (fun(x:Ord)=>c (x,PUnit.unit)) b 0=Vk (fun(x:Ord)=>c (x,PUnit.unit)) (List.drop a b) a
def Kdo (a:List Ord) (b:Nat):=(J0h a b,J59 a b,J58 a b,E2 (J57 a b),J56 a b,E2 (J55 a b))
def Kdn (a:List Ord) (b:Nat):=(Kdo a b,PUnit.unit)
def Kgt (a:Ord×Unit→List Prop) (b:List Ord) (c:Nat):=Uj (a (Kdn b c))
theorem Knh [Sx.Dr]:Ok Tryz.prog 230 (Kb6 130 Yt true):=okW W29 Tryz.f230 (fun xx=>X3 (Jlm 130 Yt true xx.1 xx.2.1.1 xx.2.1.2)) fun xx=>by
 obtain⟨(l:List Ord),⟨(q:Ord×Unit→List Prop),(f:Ord×Unit→Bool)⟩,_⟩:=xx
 refine(by kernel_rfl:(Z57 l→Kkl l q→∃(x:Nat),Si (Ln l) (0=Nc x∧Sf l ((fun(x:Ord×PUnit)=>q x)=q∧(fun(x:Ord×PUnit)=>f x)=f))∧Ki5 x l f∧∀(x:Nat),Ki5 x l f→Br (Z98 x l) (T2 (Bd (Nc x) (Ln l)) (Kgt q l x)∧Br (f (Kdn l x)) (Nc x=Vk (fun(x:Ord)=>f (x,PUnit.unit)) l 0) (Z14 x∧∃(y:Nat),Si (Ln l) (Z91 x y∧Sf l ((fun(x:Ord×PUnit)=>q x)=q∧(fun(x:Ord×PUnit)=>f x)=f))∧Ki5 y l f∧List.length l-y<List.length l-x)) (Z67=Vk (fun(x:Ord)=>f (x,PUnit.unit)) l 0))=_).mp ?_
 delta Z14 Z57 Z66 Z67 Z91 Z98 Jdh J6a Kkl J0h J9e J9c J59 J58 J9b J57 J9a J56 J55 Ki5 Kdo Kdn Kgt Br Iw Bd T2 Sf Si Ln Nc B0 E2
 intro hb hq
 refine⟨(0:Nat),⟨rfl,rfl,rfl,rfl,rfl⟩,⟨Nat.zero_le _,rfl⟩,fun(k:Nat) hk=>⟨fun h=> ?_,fun h=> ?_⟩⟩
 ·have hlt:k<l.length:=by simpa using h
  have hd:=V7 (p:=fun x=>f (x,())) (d:=Kl) hlt
  refine⟨⟨by omega,by omega,hq (l.getD k Kl) (Jd hlt)⟩,fun h1=> ?_,fun h1=>⟨by omega,(k+1:Nat),⟨rfl,rfl,rfl,by simp,rfl⟩,⟨by omega, ?_⟩,by omega⟩⟩
  ·rw[hk.2,hd,if_pos (show f (l.getD k Kl,())=true from h1)]
  ·rw[hk.2,hd,if_neg (by rw[show f (l.getD k Kl,())=false from h1];simp)]
 ·have hlt:¬k<l.length:=by simpa using h
  have:k=l.length:=by omega
  rw[hk.2,this,List.drop_length];rfl
abbrev W30 [Sx.Dr]:=W29.add Knh
def Ku (l:List Ord) (s:ByteArray):Int:=Vk (fun x=>x.1.toList==s.toList) l 0
def Kce:Con:={args:=[.val false (.list 130 Yt),aS],ress:=[I],owns:=[],pre:=fun(l,_)=>[l.length≤1000000],spec:=fun(l,s,_)=>(Ku l s,())}
theorem Ko6 [Sx.Dr]:Ok Tryz.prog 144 Kce:=okW W30 Tryz.f144 na fun xx=>by
 obtain⟨(l:List Ord),(s:ByteArray),_⟩:=xx
 refine(by kernel_rfl:(Z57 l→(Z57 l∧∀(x:Ord),x∈l→True)∧Vk (fun(x:Ord)=>List.beq (ByteArray.toList x.1) (ByteArray.toList s)) l 0=Ku l s)=_).mp ?_
 delta Z57
 exact fun h=>⟨⟨h,fun _ _=>trivial⟩,rfl⟩
abbrev W31 [Sx.Dr]:=W30.add Ko6
def Ja3:Out:=(Jb,Jb,(0,0),0)
def K1u:Con:={args:=[.val true V5, .ref 9 .str],ress:=[Bo],owns:=[],pre:=fun _=>[],spec:=fun(x,s,_)=>(x.1.toList==s.toList,())}
theorem Kl0 [Sx.Dr] (x:Out) (s:ByteArray):wpF Tryz.prog W31.g (na ()) Tryz.f233 K1u (x,s,()):=by
 refine(by kernel_rfl:(Lb x.1 s=Lb x.1 s)=_).mp ?_
 delta Lb
 rfl
theorem Kne [Sx.Dr]:Ok Tryz.prog 233 K1u:=Vq mixed W31.ok (by kernel_rfl) (by kernel_rfl) na fun xx=>Kl0 xx.1 xx.2.1
abbrev W32 [Sx.Dr]:=W31.add Kne
def Z43 (a:List Out):=List.length a≤1000000
def Z92 (a:Nat) (b:List Out):=decide (Nc a<Ln b)
def Jcw:=(B0,B0,((0:Int),(0:Int)),(0:Int))
def Jse (a:List Out) (b c:Nat):=List.length a-b<List.length a-c
def Jxt (a:List Out) (b:Nat):=(List.getD a b Jcw).2
def Jro (a:List Out) (b:Nat):=(List.getD a b Jcw).1
def J0m (a:List Out) (b:Nat):=(Jxt a b).1
def Jwr (a:List Out) (b:Nat):=(Jxt a b).2.1
def J0l (a:List Out) (b:Nat):=(Jxt a b).2.2
def J2h (a:List Out) (b:Out×Unit→List Prop):=∀(x:Out),x∈a→Uj (b (x,PUnit.unit))
def Ki3 (a:Nat) (b:List Out) (c:Out×Unit→Bool):=a≤List.length b∧Vk (fun(x:Out)=>c (x,PUnit.unit)) b 0=Vk (fun(x:Out)=>c (x,PUnit.unit)) (List.drop a b) a
def J5z (a:List Out) (b:Nat):=(Jro a b,J0m a b,E2 (Jwr a b),J0l a b)
def J2a (a:List Out) (b:Nat):=(J5z a b,PUnit.unit)
def Kg4 (a:Out×Unit→Bool) (b:List Out) (c:Nat):=a (J2a b c)
def J19 (a:Out×Unit→List Prop) (b:List Out) (c:Nat):=Uj (a (J2a b c))
theorem Knf [Sx.Dr]:Ok Tryz.prog 232 (Kb6 188 V5 true):=okW W32 Tryz.f232 (fun xx=>X3 (Jlm 188 V5 true xx.1 xx.2.1.1 xx.2.1.2)) fun xx=>by
 obtain⟨(l:List Out),⟨(q:Out×Unit→List Prop),(f:Out×Unit→Bool)⟩,_⟩:=xx
 refine(by kernel_rfl:(Z43 l→J2h l q→∃(x:Nat),Si (Ln l) (0=Nc x∧Sf l ((fun(x:Out×PUnit)=>q x)=q∧(fun(x:Out×PUnit)=>f x)=f))∧Ki3 x l f∧∀(x:Nat),Ki3 x l f→Br (Z92 x l) (T2 (Bd (Nc x) (Ln l)) (J19 q l x)∧Br (Kg4 f l x) (Nc x=Vk (fun(x:Out)=>f (x,PUnit.unit)) l 0) (Z14 x∧∃(y:Nat),Si (Ln l) (Z91 x y∧Sf l ((fun(x:Out×PUnit)=>q x)=q∧(fun(x:Out×PUnit)=>f x)=f))∧Ki3 y l f∧Jse l y x)) (Z67=Vk (fun(x:Out)=>f (x,PUnit.unit)) l 0))=_).mp ?_
 delta Z14 Z43 Z67 Z91 Z92 Jcw Jse Jxt Jro J0m Jwr J0l J2h Ki3 J5z J2a Kg4 J19 Br Iw Bd T2 Sf Si Ln Nc B0 E2
 intro hb hq
 refine⟨(0:Nat),⟨rfl,rfl,rfl,rfl,rfl⟩,⟨Nat.zero_le _,rfl⟩,fun(k:Nat) hk=>⟨fun h=> ?_,fun h=> ?_⟩⟩
 ·have hlt:k<l.length:=by simpa using h
  have hd:=V7 (p:=fun x=>f (x,())) (d:=Ja3) hlt
  refine⟨⟨by omega,by omega,hq (l.getD k Ja3) (Jd hlt)⟩,fun h1=> ?_,fun h1=>⟨by omega,(k+1:Nat),⟨rfl,rfl,rfl,by simp,rfl⟩,⟨by omega, ?_⟩,by omega⟩⟩
  ·rw[hk.2,hd,if_pos (show f (l.getD k Ja3,())=true from h1)]
  ·rw[hk.2,hd,if_neg (by rw[show f (l.getD k Ja3,())=false from h1];simp)]
 ·have hlt:¬k<l.length:=by simpa using h
  have:k=l.length:=by omega
  rw[hk.2,this,List.drop_length];rfl
abbrev W33 [Sx.Dr]:=W32.add Knf
def J5 (l:List Out) (s:ByteArray):Int:=Vk (fun x=>x.1.toList==s.toList) l 0
def Kcb:Con:={args:=[.val false (.list 188 V5),aS],ress:=[I],owns:=[],pre:=fun(l,_)=>[l.length≤1000000],spec:=fun(l,s,_)=>(J5 l s,())}
def Kk9 (a:List Out):=∀(x:Out),x∈a→True
theorem Ko5 [Sx.Dr]:Ok Tryz.prog 145 Kcb:=okW W33 Tryz.f145 na fun xx=>by
 obtain⟨(l:List Out),(s:ByteArray),_⟩:=xx
 refine(by kernel_rfl:(Z43 l→(Z43 l∧Kk9 l)∧Vk (fun(x:Out)=>List.beq (ByteArray.toList x.1) (ByteArray.toList s)) l 0=J5 l s)=_).mp ?_
 delta Z43 Kk9
 exact fun h=>⟨⟨h,fun _ _=>trivial⟩,rfl⟩
abbrev W34 [Sx.Dr]:=W33.add Ko5
def Jig:Per:=(Jb,Jb,false)
def K1w:Con:={args:=[.val true Ys, .ref 9 .str],ress:=[Bo],owns:=[],pre:=fun _=>[],spec:=fun(x,s,_)=>(x.1.toList==s.toList,())}
theorem Klz [Sx.Dr] (x:Per) (s:ByteArray):wpF Tryz.prog W34.g (na ()) Tryz.f235 K1w (x,s,()):=by
 refine(by kernel_rfl:(Lb x.1 s=Lb x.1 s)=_).mp ?_
 delta Lb
 rfl
theorem Knc [Sx.Dr]:Ok Tryz.prog 235 K1w:=Vq mixed W34.ok (by kernel_rfl) (by kernel_rfl) na fun xx=>Klz xx.1 xx.2.1
abbrev W35 [Sx.Dr]:=W34.add Knc
def Z44 (a:List Per):=List.length a≤1000000
def Z99 (a:Nat) (b:List Per):=decide (Nc a<Ln b)
def Jwt (a:List Per) (b:Nat):=(List.getD a b (B0,B0,false)).2
def Jx0 (a:List Per) (b:Nat):=(List.getD a b (B0,B0,false)).1
def Jws (a:List Per) (b c:Nat):=List.length a-b<List.length a-c
def J9d (a:List Per) (b:Per×Unit→List Prop):=∀(x:Per),x∈a→Uj (b (x,PUnit.unit))
def J89 (a:List Per) (b:Nat):=(Jx0 a b,E2 (Jwt a b))
def J87 (a:List Per) (b:Nat):=(J89 a b,PUnit.unit)
def Kjm (a:Per×Unit→Bool) (b:List Per) (c:Nat):=a (J87 b c)
def J84 (a:Per×Unit→List Prop) (b:List Per) (c:Nat):=Uj (a (J87 b c))
def Ki1 (a:Nat) (b:List Per) (c:Per×Unit→Bool):=a≤List.length b∧Vk (fun(x:Per)=>c (x,PUnit.unit)) b 0=Vk (fun(x:Per)=>c (x,PUnit.unit)) (List.drop a b) a
theorem Knd [Sx.Dr]:Ok Tryz.prog 234 (Kb6 235 Ys true):=okW W35 Tryz.f234 (fun xx=>X3 (Jlm 235 Ys true xx.1 xx.2.1.1 xx.2.1.2)) fun xx=>by
 obtain⟨(l:List Per),⟨(q:Per×Unit→List Prop),(f:Per×Unit→Bool)⟩,_⟩:=xx
 refine(by kernel_rfl:(Z44 l→J9d l q→∃(x:Nat),Si (Ln l) (0=Nc x∧Sf l ((fun(x:Per×PUnit)=>q x)=q∧(fun(x:Per×PUnit)=>f x)=f))∧Ki1 x l f∧∀(x:Nat),Ki1 x l f→Br (Z99 x l) (T2 (Bd (Nc x) (Ln l)) (J84 q l x)∧Br (Kjm f l x) (Nc x=Vk (fun(x:Per)=>f (x,PUnit.unit)) l 0) (Z14 x∧∃(y:Nat),Si (Ln l) (Z91 x y∧Sf l ((fun(x:Per×PUnit)=>q x)=q∧(fun(x:Per×PUnit)=>f x)=f))∧Ki1 y l f∧Jws l y x)) (Z67=Vk (fun(x:Per)=>f (x,PUnit.unit)) l 0))=_).mp ?_
 delta Z14 Z44 Z67 Z91 Z99 Jwt Jx0 Jws J9d J89 J87 Kjm J84 Ki1 Br Iw Bd T2 Sf Si Ln Nc B0 E2
 intro hb hq
 refine⟨(0:Nat),⟨rfl,rfl,rfl,rfl,rfl⟩,⟨Nat.zero_le _,rfl⟩,fun(k:Nat) hk=>⟨fun h=> ?_,fun h=> ?_⟩⟩
 ·have hlt:k<l.length:=by simpa using h
  have hd:=V7 (p:=fun x=>f (x,())) (d:=Jig) hlt
  refine⟨⟨by omega,by omega,hq (l.getD k Jig) (Jd hlt)⟩,fun h1=> ?_,fun h1=>⟨by omega,(k+1:Nat),⟨rfl,rfl,rfl,by simp,rfl⟩,⟨by omega, ?_⟩,by omega⟩⟩
  ·rw[hk.2,hd,if_pos (show f (l.getD k Jig,())=true from h1)]
  ·rw[hk.2,hd,if_neg (by rw[show f (l.getD k Jig,())=false from h1];simp)]
 ·have hlt:¬k<l.length:=by simpa using h
  have:k=l.length:=by omega
  rw[hk.2,this,List.drop_length];rfl
abbrev W36 [Sx.Dr]:=W35.add Knd
def Uz (l:List Per) (s:ByteArray):Int:=Vk (fun x=>x.1.toList==s.toList) l 0
def Kcd:Con:={args:=[.val false (.list 235 Ys),aS],ress:=[I],owns:=[],pre:=fun(l,_)=>[l.length≤1000000],spec:=fun(l,s,_)=>(Uz l s,())}
def Kjs (a:List Per):=Z44 a∧∀(x:Per),x∈a→True
theorem Ko4 [Sx.Dr]:Ok Tryz.prog 146 Kcd:=okW W36 Tryz.f146 na fun xx=>by
 obtain⟨(l:List Per),(s:ByteArray),_⟩:=xx
 refine(by kernel_rfl:(Z44 l→Kjs l∧Vk (fun(x:Per)=>List.beq (ByteArray.toList x.1) (ByteArray.toList s)) l 0=Uz l s)=_).mp ?_
 delta Z44 Kjs
 exact fun h=>⟨⟨h,fun _ _=>trivial⟩,rfl⟩
abbrev W37 [Sx.Dr]:=W36.add Ko4
abbrev Reg:=Int×Int×List Sta×List Ord×List Met×List Out×List Per
abbrev Jfw:Sch:= .prod sI (.prod sI (.prod (.list 127 Xh) (.prod (.list 130 Yt) (.prod (.list 155 Xw) (.prod (.list 188 V5) (.list 235 Ys))))))
abbrev Ja1:AK:= .val true Jfw
def Kn (s:Int×Int) (h:Int):Bool:=bif decide (s.1≤h) then decide (h<s.2) else false
def Jvh:Con:={args:=[.val true Hp,aI],ress:=[Bo],owns:=[],pre:=fun _=>[],spec:=fun(s,h,_)=>(Kn s h,())}
theorem Kpa [Sx.Dr]:Ok Tryz.prog 140 Jvh:=okW W37 Tryz.f140 na fun xx=>by
 obtain⟨⟨(a:Int),(b:Int)⟩,(h:Int),_⟩:=xx
 refine(by kernel_rfl:((bif decide (a≤h) then decide (h<b) else false)=Kn (a,b) h)=_).mp ?_
 rfl
abbrev W38 [Sx.Dr]:=W37.add Kpa
def J1 (x:Ord) (h:Int):Bool:=bif Kn x.2.2.2.1 h then(bif x.2.2.2.2.2.2== -1 then true else decide (h<x.2.2.2.2.2.2)) else false
def J4w:Con:={args:=[.val true Yt,aI],ress:=[Bo],owns:=[],pre:=fun _=>[],spec:=fun(x,h,_)=>(J1 x h,())}
theorem K4m [Sx.Dr]:Ok Tryz.prog 72 J4w:=okW W38 Tryz.f72 na fun xx=>by
 obtain⟨⟨(n:ByteArray),(f:ByteArray),(t:ByteArray),⟨(a:Int),(b:Int)⟩,(p:Int),(c:Int),(r:Int)⟩,(h:Int),_⟩:=xx
 refine(by kernel_rfl:((bif Kn (a,b) h then bif r==Z67 then true else decide (h<r) else false)=J1 (n,f,t,(a,b),p,c,r) h)=_).mp ?_
 delta Z67
 rfl
abbrev W39 [Sx.Dr]:=W38.add K4m
def Fl (x:Ord) (s:ByteArray):Bool:=bif x.2.1.toList==s.toList then true else x.2.2.1.toList==s.toList
def Kcr:Con:={args:=[.val true Yt,aS],ress:=[Bo],owns:=[],pre:=fun _=>[],spec:=fun(x,s,_)=>(Fl x s,())}
theorem Km7 [Sx.Dr]:Ok Tryz.prog 240 Kcr:=okW W39 Tryz.f240 na fun xx=>by
 obtain⟨⟨(n:ByteArray),(f:ByteArray),(t:ByteArray),⟨(a:Int),(b:Int)⟩,(p:Int),(c:Int),(r:Int)⟩,(s:ByteArray),_⟩:=xx
 refine(by kernel_rfl:((bif Lb f s then true else Lb t s)=Fl (n,f,t,(a,b),p,c,r) s)=_).mp ?_
 delta Lb
 rfl
abbrev W40 [Sx.Dr]:=W39.add Km7
def Jyw (x:Out) (s:ByteArray) (h:Int):Bool:=bif x.2.1.toList==s.toList then Kn x.2.2.1 h else false
def K5s:Con:={args:=[.val true V5,aS,aI],ress:=[Bo],owns:=[],pre:=fun _=>[],spec:=fun(x,s,h,_)=>(Jyw x s h,())}
theorem Koa [Sx.Dr]:Ok Tryz.prog 176 K5s:=okW W40 Tryz.f176 na fun xx=>by
 obtain⟨⟨(n:ByteArray),(f:ByteArray),⟨(a:Int),(b:Int)⟩,(p:Int)⟩,(s:ByteArray),(h:Int),_⟩:=xx
 refine(by kernel_rfl:((bif Lb f s then Kn (a,b) h else false)=Jyw (n,f,(a,b),p) s h)=_).mp ?_
 delta Lb
 rfl
abbrev W41 [Sx.Dr]:=W40.add Koa
theorem Jp {α:Type} {l:List α} {k:Nat} {d:α} (h:k<l.length):l.drop k=l.getD k d::l.drop (k+1):=by
 rw[List.drop_eq_getElem_cons h,List.getD_eq_getElem?_getD,List.getElem?_eq_getElem h];rfl
theorem Jbm {α:Type} {p:α→Bool}:∀{l:List α} {k:Nat},Vk p l k<k+l.length∧-1≤Vk p l k
 |[],k=>by simp[Vk];omega
 | x :: l, k => by
  unfold Vk
  split
  ·simp only[List.length_cons];omega
  ·have:=Jbm (p:=p) (l:=l) (k:=k+1)
   simp only[List.length_cons];omega
theorem K1 {l:List Sta} {s:ByteArray}:J0 l s<l.length:=by have:=(Jbm (p:=fun x=>x.1.toList==s.toList) (l:=l) (k:=0)).1;unfold J0;omega
theorem Ux {l:List Ord} {s:ByteArray}:Ku l s<l.length:=by have:=(Jbm (p:=fun x=>x.1.toList==s.toList) (l:=l) (k:=0)).1;unfold Ku;omega
theorem Uq {l:List Out} {s:ByteArray}:J5 l s<l.length:=by have:=(Jbm (p:=fun x=>x.1.toList==s.toList) (l:=l) (k:=0)).1;unfold J5;omega
theorem Uw {l:List Per} {s:ByteArray}:Uz l s<l.length:=by have:=(Jbm (p:=fun x=>x.1.toList==s.toList) (l:=l) (k:=0)).1;unfold Uz;omega
def K7 (M:List Met) (n:ByteArray) (h:Int):Int:=Vk (fun x=>bif x.1.toList==n.toList then x.2.1==h else false) M 0
theorem Jeg {l:List Met} {s:ByteArray} {h:Int}:K7 l s h<l.length:=by have:=(Jbm (p:=fun x=>bif x.1.toList==s.toList then x.2.1==h else false) (l:=l) (k:=0)).1;unfold K7;omega
structure J8c (x:Sta):Prop where
 lim:1≤x.2.1∧x.2.1≤1000
 pri:0≤x.2.2∧x.2.2≤1000
structure Jls (x:Int×Int):Prop where
 lo:0≤x.1
 mid:x.1≤x.2
 hi:x.2≤999999999
 len:x.2-x.1≤48
structure Jcz (S:List Sta) (x:Ord):Prop where
 span:Jls x.2.2.2.1
 pow:1≤x.2.2.2.2.1∧x.2.2.2.2.1≤1000
 pri:0≤x.2.2.2.2.2.1∧x.2.2.2.2.2.1≤1000
 trip: -1≤x.2.2.2.2.2.2∧x.2.2.2.2.2.2≤999999999
 fr:0≤J0 S x.2.1
 tu:0≤J0 S x.2.2.1
structure Jxd (x:Met):Prop where
 hour:0≤x.2.1∧x.2.1≤999999999
 sent:0≤x.2.2.1∧x.2.2.1≤1000
 got:0≤x.2.2.2∧x.2.2.2≤x.2.2.1
structure Jn1 (S:List Sta) (x:Out):Prop where
 span:Jls x.2.2.1
 rest:0≤x.2.2.2∧x.2.2.2≤1000
 sta:0≤J0 S x.2.1
structure Jj (r:Reg):Prop where
 tk:0≤r.1∧r.1≤999999999
 st:0≤r.2.1∧r.2.1≤r.1
 nS:r.2.2.1.length≤6
 nO:r.2.2.2.1.length≤32
 nM:r.2.2.2.2.1.length≤10000
 nX:r.2.2.2.2.2.1.length≤16
 nQ:r.2.2.2.2.2.2.length≤16
 sta:∀x∈r.2.2.1,J8c x
 ord:∀x∈r.2.2.2.1,Jcz r.2.2.1 x
 met:∀x∈r.2.2.2.2.1,Jxd x
 out:∀x∈r.2.2.2.2.2.1,Jn1 r.2.2.1 x
 per:∀x∈r.2.2.2.2.2.2,0≤J5 r.2.2.2.2.2.1 x.2.1
 done:∀x∈r.2.2.2.1,∀h,J1 x h=true→h<r.2.1→0≤K7 r.2.2.2.2.1 x.1 h
def Hg (S:List Sta) (s:ByteArray):Sta:=S.getD (J0 S s).toNat Jr2
def J4q:Con:={args:=[Ja1,aS],ress:=[(true,Xh)],owns:=[],pre:=fun((_,_,S,_),s,_)=>[S.length≤1000000,0≤J0 S s],spec:=fun((_,_,S,_),s,_)=>(Hg S s,())}
def Z15 (a:List Sta) (b:Bt):=0≤J0 a b
def Kfz (a:List Sta) (b:Bt):=Gt a (J0 a b) Z12
theorem Kob [Sx.Dr]:Ok Tryz.prog 175 J4q:=okW W41 Tryz.f175 na fun xx=>by
 obtain⟨⟨(tk:Int),(st:Int),(S:List Sta),(O:List Ord),(M:List Met),(X:List Out),(Q:List Per)⟩,(s:ByteArray),_⟩:=xx
 refine(by kernel_rfl:(Z46 S→Z15 S s→(Z46 S∧Tw (Bd (J0 S s) (Ln S)))∧((Kfz S s).1,E2 (Kfz S s).2)=Hg S s)=_).mp ?_
 delta Z12 Z15 Z46 Kfz Bd Tw Ln Gt B0 E2
 exact fun h1 h2=>⟨⟨h1,⟨h2,K1⟩,⟨h2,K1⟩⟩,rfl⟩
abbrev W42 [Sx.Dr]:=W41.add Kob
def Xz (O:List Ord) (s:ByteArray):Ord:=O.getD (Ku O s).toNat Kl
def J4t:Con:={args:=[Ja1,aS],ress:=[(true,Yt)],owns:=[],pre:=fun((_,_,_,O,_),s,_)=>[O.length≤1000000,0≤Ku O s],spec:=fun((_,_,_,O,_),s,_)=>(Xz O s,())}
def Kz6 (a:List Ord) (b:Bt):=Gt a (Ku a b) Jdh
def Kzz (a:List Ord) (b:Bt):=(Kz6 a b).2
def Kzx (a:List Ord) (b:Bt):=(Kzz a b).2
def Kzv (a:List Ord) (b:Bt):=(Kzx a b).2
def Kzr (a:List Ord) (b:Bt):=(Kzv a b).2
theorem Knw [Sx.Dr]:Ok Tryz.prog 198 J4t:=okW W42 Tryz.f198 na fun xx=>by
 obtain⟨⟨(tk:Int),(st:Int),(S:List Sta),(O:List Ord),(M:List Met),(X:List Out),(Q:List Per)⟩,(s:ByteArray),_⟩:=xx
 refine(by kernel_rfl:(Z57 O→0≤Ku O s→(Z57 O∧Tw (Bd (Ku O s) (Ln O)))∧((Kz6 O s).1,(Kzz O s).1,(Kzx O s).1,E2 (Kzv O s).1,(Kzr O s).1,E2 (Kzr O s).2)=Xz O s)=_).mp ?_
 delta Z57 Z66 Jdh Kz6 Kzz Kzx Kzv Kzr Bd Tw Ln Gt B0 E2
 exact fun h1 h2=>⟨⟨h1,⟨h2,Ux⟩,⟨h2,Ux⟩⟩,rfl⟩
abbrev W43 [Sx.Dr]:=W42.add Knw
def Lu (X:List Out) (s:ByteArray):Out:=X.getD (J5 X s).toNat Ja3
def J4s:Con:={args:=[Ja1,aS],ress:=[(true,V5)],owns:=[],pre:=fun((_,_,_,_,_,X,_),s,_)=>[X.length≤1000000,0≤J5 X s],spec:=fun((_,_,_,_,_,X,_),s,_)=>(Lu X s,())}
def Kld (a:List Out) (b:Bt):=(Gt a (J5 a b) Jcw).2
theorem Km5 [Sx.Dr]:Ok Tryz.prog 242 J4s:=okW W43 Tryz.f242 na fun xx=>by
 obtain⟨⟨(tk:Int),(st:Int),(S:List Sta),(O:List Ord),(M:List Met),(X:List Out),(Q:List Per)⟩,(s:ByteArray),_⟩:=xx
 refine(by kernel_rfl:(Z43 X→0≤J5 X s→(Z43 X∧Tw (Bd (J5 X s) (Ln X)))∧((Gt X (J5 X s) Jcw).1,(Kld X s).1,E2 (Kld X s).2.1,(Kld X s).2.2)=Lu X s)=_).mp ?_
 delta Z43 Jcw Kld Bd Tw Ln Gt B0 E2
 exact fun h1 h2=>⟨⟨h1,⟨h2,Uq⟩,⟨h2,Uq⟩⟩,rfl⟩
abbrev W44 [Sx.Dr]:=W43.add Km5
def Jlw (Q:List Per) (s:ByteArray):Per:=Q.getD (Uz Q s).toNat Jig
def J4r:Con:={args:=[Ja1,aS],ress:=[(true,Ys)],owns:=[],pre:=fun((_,_,_,_,_,_,Q),s,_)=>[Q.length≤1000000,0≤Uz Q s],spec:=fun((_,_,_,_,_,_,Q),s,_)=>(Jlw Q s,())}
theorem Km2 [Sx.Dr]:Ok Tryz.prog 245 J4r:=okW W44 Tryz.f245 na fun xx=>by
 obtain⟨⟨(tk:Int),(st:Int),(S:List Sta),(O:List Ord),(M:List Met),(X:List Out),(Q:List Per)⟩,(s:ByteArray),_⟩:=xx
 refine(by kernel_rfl:(Z44 Q→0≤Uz Q s→(Z44 Q∧Tw (Bd (Uz Q s) (Ln Q)))∧((Gt Q (Uz Q s) (B0,B0,false)).1,E2 (Gt Q (Uz Q s) (B0,B0,false)).2)=Jlw Q s)=_).mp ?_
 delta Z44 Bd Tw Ln Gt B0 E2
 exact fun h1 h2=>⟨⟨h1,⟨h2,Uw⟩,⟨h2,Uw⟩⟩,rfl⟩
abbrev W45 [Sx.Dr]:=W44.add Km2
def U9:List Ord→ByteArray→Int→Int
 |[],_,_=>0
 |x::l,s,h=>(bif bif Fl x s then J1 x h else false then x.2.2.2.2.1 else 0)+U9 l s h
theorem Jir {S:List Sta} {s:ByteArray} {h:Int}:∀{O:List Ord},(∀x∈O,Jcz S x)→0≤U9 O s h∧U9 O s h≤1000*O.length
 |[],_=>by simp[U9]
 |x::l,hO=>by
  have:=Jir (s:=s) (h:=h) (O:=l) fun y hy=>hO y (List.mem_cons_of_mem _ hy)
  have hx:=(hO x (List.mem_cons_self ..)).pow
  unfold U9
  simp only[List.length_cons]
  cases(bif Fl x s then J1 x h else false)<;>simp only[cond_true,cond_false]<;>omega
def Kqu:Con:={args:=[Ja1,aS,aI],ress:=[I],owns:=[],pre:=fun(r,_)=>[Jj r],spec:=fun((_,_,_,O,_),s,h,_)=>(U9 O s h,())}
abbrev J5k (O:List Ord) (s:ByteArray) (h:Int):Ann:={X:=Nat×Int,σ:=fun(k,n)=>⟨1,[(1, .one (.str s)),(2, .one (.int .i64 h)),(7, .one (.int .i64 n)),(11, .one (.sl 0)),(12, .one (.int .i64 O.length)),(13, .one (.int .i64 k))],[(0, .imm 130 Yt O)]⟩,inv:=fun(k,n)=>k≤O.length∧0≤n∧n≤1000*k∧n+U9 (O.drop k) s h=U9 O s h,mu:=fun(k,_)=>O.length-k}
def Z32 (a:Nat×Int):=Iw (Nc a.1+1)
def Z60 (a b:Int) (c:List Sta) (d:List Ord) (e:List Met) (f:List Out) (g:List Per):=(a,b,c,d,e,f,g)
def Jrs (a b:Nat×Int):=Nc a.1+1=Nc b.1
def Jw (a b:Int) (c:List Sta) (d:List Ord) (e:List Met) (f:List Out) (g:List Per):=Jj (Z60 a b c d e f g)
def Kfn (a:List Ord) (b:Nat×Int):=List.getD a b.1 Jdh
def Kfm (a:List Ord) (b:Nat×Int):=(Kfn a b).2
def Kfl (a:List Ord) (b:Nat×Int):=(Kfm a b).1
def Kfk (a:List Ord) (b:Nat×Int):=(Kfm a b).2
def Kfi (a:List Ord) (b:Nat×Int):=(Kfk a b).2
def Kfh (a:List Ord) (b:Nat×Int):=(Kfk a b).1
def Kfg (a:List Ord) (b:Nat×Int):=(Kfi a b).2
def Kff (a:List Ord) (b:Nat×Int):=(Kfg a b).2
def Kfe (a:List Ord) (b:Nat×Int):=(Kfg a b).1
def Kjp (a:Nat×Int) (b:List Ord):=a.2+Kfe b a
def Kjh (a:Nat×Int) (b:List Ord):=Iw (Kjp a b)
def Kjf (a:Nat×Int) (b:List Ord) (c:Nat×Int):=Kjp a b=c.2
def Kii (a:Nat×Int) (b:List Ord) (c:Bt) (d:Int):=a.1≤List.length b∧0≤a.2∧a.2≤1000*Nc a.1∧a.2+U9 (List.drop a.1 b) c d=U9 b c d
def Kva (a:Nat×Int) (b:List Ord) (c:Bt) (d:Int) (e:Nat×Int):=Kii a b c d∧List.length b-a.1<List.length b-e.1
def J5u (a:List Ord) (b:Nat×Int):=((Kfn a b).1,Kfl a b,Kfh a b,E2 (Kfi a b).1,Kfe a b,E2 (Kff a b))
def Kgs (a:List Ord) (b:Nat×Int) (c:Int):=J1 (J5u a b) c
theorem Kn9 [Sx.Dr]:Ok Tryz.prog 177 Kqu:=okW W45 Tryz.f177 (fun xx=>X3 (J5k xx.1.2.2.2.1 xx.2.1 xx.2.2.1)) fun xx=>by
 obtain⟨⟨(tk:Int),(st:Int),(S:List Sta),(O:List Ord),(M:List Met),(X:List Out),(Q:List Per)⟩,(s:ByteArray),(h:Int),_⟩:=xx
 refine(by kernel_rfl:(Jw tk st S O M X Q→∃(x:Nat×Int),Sf s (Si h (0=x.2∧Si (Ln O) (0=Nc x.1∧O=O)))∧Kii x O s h∧∀(x:Nat×Int),Kii x O s h→Br (decide (Nc x.1<Ln O)) (Tw (Bd (Nc x.1) (Ln O))∧Br (bif Fl (J5u O x) s then Kgs O x h else false) (Kjh x O∧Z32 x∧∃(y:Nat×Int),Sf s (Si h (Kjf x O y∧Si (Ln O) (Jrs x y∧O=O)))∧Kva y O s h x) (Z32 x∧∃(y:Nat×Int),Sf s (Si h (x.2=y.2∧Si (Ln O) (Jrs x y∧O=O)))∧Kva y O s h x)) (x.2=U9 O s h))=_).mp ?_
 delta Z32 Z60 Z66 Jrs Jw Jdh Kfn Kfm Kfl Kfk Kfi Kfh Kfg Kff Kfe Kjp Kjh Kjf Kii Kva J5u Kgs Br Iw Bd Tw Sf Si Ln Nc B0 E2
 intro hr
 have hO:∀x∈O,Jcz S x:=hr.ord
 have nO:O.length≤32:=hr.nO
 refine⟨((0:Nat),(0:Int)),⟨rfl,rfl,rfl,rfl,rfl,rfl⟩,⟨Nat.zero_le _,by simp,by simp,by simp⟩,fun(x:Nat×Int) hk=>⟨fun h1=> ?_,fun h1=> ?_⟩⟩
 ·obtain⟨k,n⟩:=x
  have hlt:k<O.length:=by simpa using h1
  have ho:=hO _ (Jd (d:=Kl) hlt)
  have hp:=ho.pow
  dsimp only at hk⊢
  obtain⟨k1,k2,k3,k4⟩:=hk
  rw[Jp (d:=Kl) hlt,U9] at k4
  refine⟨⟨by omega,by omega⟩,fun h2=> ?_,fun h2=> ?_⟩
  ·have h3:(bif Fl (O.getD k Kl) s then J1 (O.getD k Kl) h else false)=true:=h2
   rw[h3,cond_true] at k4
   refine⟨⟨?_, ?_⟩,⟨by omega,by omega⟩,(k+1,n+(O.getD k Kl).2.2.2.2.1),⟨rfl,rfl,rfl,rfl,by simp,rfl⟩,⟨by simp only;omega,by simp only;omega,by simp only;omega,by simp only;omega⟩,by simp only;omega⟩
   ·show _≤n+(O.getD k Kl).2.2.2.2.1;omega
   ·show n+(O.getD k Kl).2.2.2.2.1≤_;omega
  ·have h3:(bif Fl (O.getD k Kl) s then J1 (O.getD k Kl) h else false)=false:=h2
   rw[h3,cond_false] at k4
   refine⟨⟨by omega,by omega⟩,(k+1,n),⟨rfl,rfl,rfl,rfl,by simp,rfl⟩,⟨by simp only;omega,by simp only;omega,by simp only;omega,by simp only;omega⟩,by simp only;omega⟩
 ·obtain⟨k,n⟩:=x
  have hlt:¬k<O.length:=by simpa using h1
  simp only at hk
  have:k=O.length:=by omega
  rw[this,List.drop_length,U9] at hk
  show n=_
  omega
abbrev W46 [Sx.Dr]:=W45.add Kn9
theorem Jh2 {S:List Sta} {s:ByteArray} (h:∀x∈S,J8c x) (hf:0≤J0 S s):J8c (Hg S s):=by
 have:=K1 (l:=S) (s:=s)
 exact h _ (Jd (by omega))
def Jf8:List Out→ByteArray→Int→Int→Int
 |[],_,_,n=>n
 |x::l,s,h,n=>Jf8 l s h (bif Jyw x s h then min n x.2.2.2 else n)
def Xl (S:List Sta) (O:List Ord) (X:List Out) (s:ByteArray) (h:Int):Int:=Jf8 X s h (Hg S s).2.1-U9 O s h
def Kqi:Con:={args:=[Ja1,aS,aI],ress:=[I],owns:=[],pre:=fun(r,s,_)=>[Jj r,0≤J0 r.2.2.1 s],spec:=fun((_,_,S,O,_,X,_),s,h,_)=>(Xl S O X s h,())}
abbrev J5b (tk st:Int) (S:List Sta) (O:List Ord) (M:List Met) (X:List Out) (Q:List Per) (s:ByteArray) (h:Int):Ann:={X:=Nat×Int,σ:=fun(k,n)=>⟨6,[(1, .one (.str s)),(2, .one (.int .i64 h)),(3, .one (.ptr 5 0)),(7, .one (.int .i64 n)),(15, .one (.sl 3)),(16, .one (.int .i64 X.length)),(17, .one (.int .i64 k))],[(0, .imm 127 Xh S),(1, .imm 130 Yt O),(2, .imm 155 Xw M),(3, .imm 188 V5 X),(4, .imm 235 Ys Q),(5, .box 105 [.int .i64 tk, .int .i64 st, .sl 0, .sl 1, .sl 2, .sl 3, .sl 4])]⟩,inv:=fun(k,n)=>k≤X.length∧0≤n∧n≤1000∧Jf8 (X.drop k) s h n=Jf8 X s h (Hg S s).2.1,mu:=fun(k,_)=>X.length-k}
def J9q (a:List Out) (b:Nat×Int):=(List.getD a b.1 Jcw).2
def J9m (a:List Out) (b:Nat×Int):=(J9q a b).2.2
def Kkw (a:List Out) (b:Nat×Int):=E2 (J9q a b).2.1
def Jpu (a:List Sta) (b:List Ord) (c:List Met) (d:List Out) (e:List Per) (f g:Int):=Sf a (Sf b (Sf c (Sf d (Sf e (Si f (g=g))))))
def Kio (a:Nat×Int) (b:List Out) (c:Bt) (d:Int) (e:List Sta):=a.1≤List.length b∧0≤a.2∧a.2≤1000∧Jf8 (List.drop a.1 b) c d a.2=Jf8 b c d (Hg e c).2.1
def Jxq (a:Nat×Int) (b:List Sta) (c:List Ord) (d:List Met) (e:List Out) (f:List Per) (g h:Int):=0=Nc a.1∧Jpu b c d e f g h
def Jpt (a b:Nat×Int) (c:List Sta) (d:List Ord) (e:List Met) (f:List Out) (g:List Per) (h i:Int):=Jrs a b∧Jpu c d e f g h i
def Kvd (a:Nat×Int) (b:List Out) (c:Bt) (d:Int) (e:List Sta) (f:Nat×Int):=Kio a b c d e∧List.length b-a.1<List.length b-f.1
theorem K4b [Sx.Dr]:Ok Tryz.prog 91 Kqi:=okW W46 Tryz.f91 (fun xx=>X3 (J5b xx.1.1 xx.1.2.1 xx.1.2.2.1 xx.1.2.2.2.1 xx.1.2.2.2.2.1 xx.1.2.2.2.2.2.1 xx.1.2.2.2.2.2.2 xx.2.1 xx.2.2.1)) fun xx=>by
 obtain⟨⟨(tk:Int),(st:Int),(S:List Sta),(O:List Ord),(M:List Met),(X:List Out),(Q:List Per)⟩,(s:ByteArray),(h:Int),_⟩:=xx
 refine(by kernel_rfl:(Jw tk st S O M X Q→Z15 S s→(Z46 S∧Z15 S s)∧∃(x:Nat×Int),Sf s (Si h ((Hg S s).2.1=x.2∧Si (Ln X) (Jxq x S O M X Q tk st)))∧Kio x X s h S∧∀(x:Nat×Int),Kio x X s h S→Br (decide (Nc x.1<Ln X)) (Tw (Bd (Nc x.1) (Ln X))∧Br (Jyw ((List.getD X x.1 Jcw).1,(J9q X x).1,Kkw X x,J9m X x) s h) (Z32 x∧∃(y:Nat×Int),Sf s (Si h (min x.2 (J9m X x)=y.2∧Si (Ln X) (Jpt x y S O M X Q tk st)))∧Kvd y X s h S x) (Z32 x∧∃(y:Nat×Int),Sf s (Si h (x.2=y.2∧Si (Ln X) (Jpt x y S O M X Q tk st)))∧Kvd y X s h S x)) ((Jw tk st S O M X Q∧Iw (x.2-U9 O s h))∧x.2-U9 O s h=Xl S O X s h))=_).mp ?_
 delta Z15 Z32 Z46 Z60 Jrs Jw Jcw J9q J9m Kkw Jpu Kio Jxq Jpt Kvd Br Iw Bd Tw Sf Si Ln Nc B0 E2
 intro hr hf
 have hX:∀x∈X,Jn1 S x:=hr.out
 have nO:O.length≤32:=hr.nO
 have nX:X.length≤16:=hr.nX
 have nS:S.length≤6:=hr.nS
 have hs:=Jh2 hr.sta hf
 have hl:=Jir (s:=s) (h:=h) hr.ord
 refine⟨⟨by omega,hf⟩,((0:Nat),(Hg S s).2.1),⟨rfl,rfl,rfl,rfl,rfl,rfl,rfl,rfl,rfl,rfl,rfl,rfl⟩,⟨Nat.zero_le _, ?_,hs.lim.2,by simp⟩,fun(x:Nat×Int) hk=>⟨fun h1=> ?_,fun h1=> ?_⟩⟩
 ·have:=hs.lim.1
  show 0≤(Hg S s).2.1
  simp only at this
  omega
 ·obtain⟨k,n⟩:=x
  have hlt:k<X.length:=by simpa using h1
  have ho:=(hX _ (Jd (d:=Ja3) hlt)).rest
  dsimp only at hk⊢
  obtain⟨k1,k2,k3,k4⟩:=hk
  rw[Jp (d:=Ja3) hlt,Jf8] at k4
  refine⟨⟨by omega,by omega⟩,fun h2=> ?_,fun h2=> ?_⟩
  ·have h3:Jyw (X.getD k Ja3) s h=true:=h2
   rw[h3,cond_true] at k4
   exact⟨⟨by omega,by omega⟩,(k+1,min n (X.getD k Ja3).2.2.2),⟨rfl,rfl,rfl,rfl,by simp,rfl,rfl,rfl,rfl,rfl,rfl,rfl⟩,⟨by simp only;omega,by simp only;omega,by simp only;omega,k4⟩,by simp only;omega⟩
  ·have h3:Jyw (X.getD k Ja3) s h=false:=h2
   rw[h3,cond_false] at k4
   exact⟨⟨by omega,by omega⟩,(k+1,n),⟨rfl,rfl,rfl,rfl,by simp,rfl,rfl,rfl,rfl,rfl,rfl,rfl⟩,⟨by simp only;omega,by simp only;omega,by simp only;omega,k4⟩,by simp only;omega⟩
 ·obtain⟨k,n⟩:=x
  have hlt:¬k<X.length:=by simpa using h1
  simp only at hk
  have:k=X.length:=by omega
  rw[this,List.drop_length,Jf8] at hk
  unfold Xl
  have hl2:U9 O s h≤1000*(O.length:Int):=hl.2
  have hl1:0≤U9 O s h:=hl.1
  refine⟨⟨hr, ?_, ?_⟩, ?_⟩
  ·show _≤n-_;omega
  ·show n-_≤_;omega
  ·show n-_=_;omega
abbrev W47 [Sx.Dr]:=W46.add K4b
def Vi (r:Reg) (w:Int) (s:ByteArray):Bool:=bif w==0 then decide (0≤J0 r.2.2.1 s) else bif w==1 then decide (0≤Ku r.2.2.2.1 s) else bif w==2 then decide (0≤J5 r.2.2.2.2.2.1 s) else bif w==3 then decide (0≤Uz r.2.2.2.2.2.2 s) else true
def K50:Con:={args:=[Ja1,aI,aS],ress:=[Bo],owns:=[],pre:=fun(r,_)=>[Jj r],spec:=fun(r,w,s,_)=>(Vi r w s,())}
theorem K4j [Sx.Dr]:Ok Tryz.prog 76 K50:=okW W47 Tryz.f76 na fun xx=>by
 obtain⟨⟨(tk:Int),(st:Int),(S:List Sta),(O:List Ord),(M:List Met),(X:List Out),(Q:List Per)⟩,(w:Int),(s:ByteArray),_⟩:=xx
 refine(by kernel_rfl:(Jw tk st S O M X Q→Br (w==0) (Z46 S∧decide (0≤J0 S s)=Vi (Z60 tk st S O M X Q) w s) (Br (w==1) (Z57 O∧decide (0≤Ku O s)=Vi (Z60 tk st S O M X Q) w s) (Br (w==2) (Z43 X∧decide (0≤J5 X s)=Vi (Z60 tk st S O M X Q) w s) (Br (w==3) (Z44 Q∧decide (0≤Uz Q s)=Vi (Z60 tk st S O M X Q) w s) (true=Vi (Z60 tk st S O M X Q) w s)))))=_).mp ?_
 delta Z43 Z44 Z46 Z57 Z60 Jw Br
 intro hr
 have nS:S.length≤6:=hr.nS
 have nO:O.length≤32:=hr.nO
 have nX:X.length≤16:=hr.nX
 have nQ:Q.length≤16:=hr.nQ
 unfold Vi
 refine⟨fun h=> ?_,fun h=> ?_⟩
 ·rw[h];exact⟨by omega,rfl⟩
 rw[h]
 refine⟨fun h=> ?_,fun h=> ?_⟩
 ·rw[h];exact⟨by omega,rfl⟩
 rw[h]
 refine⟨fun h=> ?_,fun h=> ?_⟩
 ·rw[h];exact⟨by omega,rfl⟩
 rw[h]
 refine⟨fun h=> ?_,fun h=> ?_⟩
 ·rw[h];exact⟨by omega,rfl⟩
 rw[h];rfl
abbrev W48 [Sx.Dr]:=W47.add K4j
def Jlx:Met:=(Jb,0,0,0)
def K5z:Con:={args:=[.val true Xw, .ref 9 .str, .ref 3 sI],ress:=[Bo],owns:=[],pre:=fun _=>[],spec:=fun(x,s,h,_)=>(bif x.1.toList==s.toList then x.2.1==h else false,())}
theorem Ko8 [Sx.Dr]:Ok Tryz.prog 142 K5z:=okW W48 Tryz.f142 na fun xx=>by
 obtain⟨⟨(a:ByteArray),(b:Int),(c:Int),(d:Int)⟩,(s:ByteArray),(h:Int),_⟩:=xx
 refine(by kernel_rfl:((Lb a s&&(b==h&&(c==c&&(d==d&&true))))=bif Lb a s then b==h else false)=_).mp ?_
 delta Lb
 cases a.toList==s.toList<;>cases b==h<;>simp
abbrev W49 [Sx.Dr]:=W48.add Ko8
def Z42 (a:List Met):=List.length a≤1000000
def Jsh:=(B0,Z66)
def J2r (a:List Met) (b c:Nat):=List.length a-b<List.length a-c
def J6p (a:List Met) (b:Nat):=List.getD a b Jsh
def J2l (a:List Met) (b:Nat):=(J6p a b).1
def J0p (a:List Met) (b:Nat):=(J6p a b).2.2
def J2j (a:List Met) (b:Nat):=(J6p a b).2.1
def Ki2 (a:Nat) (b:List Met) (c:Met×Unit→Bool):=a≤List.length b∧Vk (fun(x:Met)=>c (x,PUnit.unit)) b 0=Vk (fun(x:Met)=>c (x,PUnit.unit)) (List.drop a b) a
def J8t (a:List Met) (b:Nat):=(J2l a b,J2j a b,E2 (J0p a b))
def Kvf (a:List Met) (b:Nat):=(J8t a b,PUnit.unit)
theorem Ko9 [Sx.Dr]:Ok Tryz.prog 141 (Kb6 155 Xw true):=okW W49 Tryz.f141 (fun xx=>X3 (Jlm 155 Xw true xx.1 xx.2.1.1 xx.2.1.2)) fun xx=>by
 obtain⟨(l:List Met),⟨(q:Met×Unit→List Prop),(f:Met×Unit→Bool)⟩,_⟩:=xx
 refine(by kernel_rfl:(Z42 l→(∀(x:Met),x∈l→Uj (q (x,PUnit.unit)))→∃(x:Nat),Si (Ln l) (0=Nc x∧Sf l ((fun(x:Met×PUnit)=>q x)=q∧(fun(x:Met×PUnit)=>f x)=f))∧Ki2 x l f∧∀(x:Nat),Ki2 x l f→Br (decide (Nc x<Ln l)) (T2 (Bd (Nc x) (Ln l)) (Uj (q (Kvf l x)))∧Br (f (Kvf l x)) (Nc x=Vk (fun(x:Met)=>f (x,PUnit.unit)) l 0) (Z14 x∧∃(y:Nat),Si (Ln l) (Z91 x y∧Sf l ((fun(x:Met×PUnit)=>q x)=q∧(fun(x:Met×PUnit)=>f x)=f))∧Ki2 y l f∧J2r l y x)) (Z67=Vk (fun(x:Met)=>f (x,PUnit.unit)) l 0))=_).mp ?_
 delta Z14 Z42 Z66 Z67 Z91 Jsh J2r J6p J2l J0p J2j Ki2 J8t Kvf Br Iw Bd T2 Sf Si Ln Nc B0 E2
 intro hb hq
 refine⟨(0:Nat),⟨rfl,rfl,rfl,rfl,rfl⟩,⟨Nat.zero_le _,rfl⟩,fun(k:Nat) hk=>⟨fun h=> ?_,fun h=> ?_⟩⟩
 ·have hlt:k<l.length:=by simpa using h
  have hd:=V7 (p:=fun x=>f (x,())) (d:=Jlx) hlt
  refine⟨⟨by omega,by omega,hq (l.getD k Jlx) (Jd hlt)⟩,fun h1=> ?_,fun h1=>⟨by omega,(k+1:Nat),⟨rfl,rfl,rfl,by simp,rfl⟩,⟨by omega, ?_⟩,by omega⟩⟩
  ·rw[hk.2,hd,if_pos (show f (l.getD k Jlx,())=true from h1)]
  ·rw[hk.2,hd,if_neg (by rw[show f (l.getD k Jlx,())=false from h1];simp)]
 ·have hlt:¬k<l.length:=by simpa using h
  have:k=l.length:=by omega
  rw[hk.2,this,List.drop_length];rfl
abbrev W50 [Sx.Dr]:=W49.add Ko9
def Kbu:Con:={args:=[Ja1,aS,aI],ress:=[I],owns:=[],pre:=fun(r,_)=>[Jj r],spec:=fun((_,_,_,_,M,_),s,h,_)=>(K7 M s h,())}
theorem K4l [Sx.Dr]:Ok Tryz.prog 73 Kbu:=okW W50 Tryz.f73 na fun xx=>by
 obtain⟨⟨(tk:Int),(st:Int),(S:List Sta),(O:List Ord),(M:List Met),(X:List Out),(Q:List Per)⟩,(s:ByteArray),(h:Int),_⟩:=xx
 refine(by kernel_rfl:(Jw tk st S O M X Q→(Z42 M∧∀(x:Met),x∈M→True)∧Vk (fun(x:Met)=>match Lb x.1 s with|true=>x.2.1==h|false=>false) M 0=K7 M s h)=_).mp ?_
 delta Z42 Z60 Jw Lb
 intro hr
 have nM:M.length≤10000:=hr.nM
 exact⟨⟨by omega,fun _ _=>trivial⟩,rfl⟩
abbrev W51 [Sx.Dr]:=W50.add K4l
def Vr (e:Ev):Int×Int:=(e.2.2.2.1.getD 1 0,e.2.2.2.1.getD 2 0)
def Kqg:Con:={args:=[aEv],ress:=[(true,Hp)],owns:=[],pre:=fun(e,_)=>[3≤e.2.2.2.1.length],spec:=fun(e,_)=>(Vr e,())}
def Z23 (a:Li):=Bd 2 (Ln a)
def Z30 (a:Li):=Bd 1 (Ln a)
def Z47 (a:Li):=3≤List.length a
def Z52 (a:Int) (b:Bt) (c:Ls) (d:Li) (e:Bt):=Vr (a,b,c,d,e)
def Z81 (a:Li):=List.getD a 2 0
def Z89 (a:Li):=List.getD a 1 0
def J9n (a:Li):=T2 (Z30 a) (Tw (Z23 a))
def J9k (a:Li):=(Z89 a,Z81 a)
theorem Km9 [Sx.Dr]:Ok Tryz.prog 238 Kqg:=okW W51 Tryz.f238 na fun xx=>by
 obtain⟨⟨(n:Int),(k:ByteArray),(ns:List ByteArray),(vs:List Int),(t:ByteArray)⟩,_⟩:=xx
 refine(by kernel_rfl:(Z47 vs→J9n vs∧J9k vs=Z52 n k ns vs t)=_).mp ?_
 delta Z23 Z30 Z47 Z52 Z81 Z89 J9n J9k Bd T2 Tw Ln
 intro h
 exact⟨⟨⟨by omega,by omega⟩,⟨by omega,by omega⟩,⟨by omega,by omega⟩,⟨by omega,by omega⟩⟩,rfl⟩
abbrev W52 [Sx.Dr]:=W51.add Km9
abbrev EvV (e:Ev):Prop:=∀v∈e.2.2.2.1,0≤v∧v≤999999999
def Zf (e:Ev):Int:=bif (bif (bif decide ((Vr e).1<e.2.2.2.1.getD 0 0) then true else decide ((Vr e).2≤(Vr e).1)) then true else decide (48<(Vr e).2-(Vr e).1)) then 14 else 0
def Jzu:Con:={args:=[aEv],ress:=[I],owns:=[],pre:=fun(e,_)=>[3≤e.2.2.2.1.length,EvV e],spec:=fun(e,_)=>(Zf e,())}
def Z27 (a:Li):=Bd 0 (Ln a)
def Z85 (a:Li):=List.getD a 0 0
def Kwg (a:Int) (b:Bt) (c:Ls) (d:Li) (e:Bt):=bif decide ((Z52 a b c d e).1<Z85 d) then true else decide ((Z52 a b c d e).2≤(Z52 a b c d e).1)
theorem Knb [Sx.Dr]:Ok Tryz.prog 236 Jzu:=okW W52 Tryz.f236 na fun xx=>by
 obtain⟨⟨(n:Int),(k:ByteArray),(ns:List ByteArray),(vs:List Int),(t:ByteArray)⟩,_⟩:=xx
 refine(by kernel_rfl:(Z47 vs→EvV (n,k,ns,vs,t)→Z47 vs∧T2 (Z27 vs) (Kwg n k ns vs t=false→Iw ((Z52 n k ns vs t).2-(Z52 n k ns vs t).1))∧(bif bif Kwg n k ns vs t then true else decide (48<(Z52 n k ns vs t).2-(Z52 n k ns vs t).1) then 14 else 0)=Zf (n,k,ns,vs,t))=_).mp ?_
 delta Z27 Z47 Z52 Z85 Kwg Iw Bd T2 Ln
 intro h hv
 refine⟨h,⟨⟨by omega,by omega⟩,⟨by omega,by omega⟩,fun _=> ?_⟩,rfl⟩
 have h1:=hv (vs.getD 1 0) (Jd (show 1<vs.length by omega))
 have h2:=hv (vs.getD 2 0) (Jd (show 2<vs.length by omega))
 unfold Vr
 simp only
 omega
abbrev W53 [Sx.Dr]:=W52.add Knb
abbrev Gap:=ByteArray×Int
abbrev J3f:Sch:= .prod .str sI
def Lw (M:List Met) (u:Int) (x:Ord):Int→Nat→List Gap
 |_,0=>[]
 |h,n+1=>(bif J1 x h&&(decide (h<u)&&decide (K7 M x.1 h<0)) then[(x.1,h)] else[])++Lw M u x (h+1) n
def Jt7 (M:List Met) (u:Int) (x:Ord):List Gap:=Lw M u x x.2.2.2.1.1 (x.2.2.2.1.2-x.2.2.2.1.1).toNat
def Km (M:List Met) (u:Int):List Ord→List Gap
 |[]=>[]
 |x::l=>Jt7 M u x++Km M u l
def Kqr:Con:={args:=[Ja1,aI],ress:=[(false, .list 200 J3f)],owns:=[true],pre:=fun(r,_)=>[Jj r],spec:=fun((_,_,_,O,M,_),u,_)=>(Km M u O,())}
abbrev J5i (tk st:Int) (S:List Sta) (O:List Ord) (M:List Met) (X:List Out) (Q:List Per) (u:Int):Ann:={X:=Nat×List Gap,σ:=fun(k,o)=>⟨9,[(2, .one (.ptr 5 0)),(3, .one (.ptr 6 0)),(5, .one (.ptr 7 0)),(10, .one (.sl 1)),(11, .one (.int .i64 O.length)),(12, .one (.int .i64 k))],[(0, .imm 127 Xh S),(1, .imm 130 Yt O),(2, .imm 155 Xw M),(3, .imm 188 V5 X),(4, .imm 235 Ys Q),(5, .box 105 [.int .i64 tk, .int .i64 st, .sl 0, .sl 1, .sl 2, .sl 3, .sl 4]),(6, .box 3 [.int .i64 u]),(7, .box 50 [.sl 8]),(8, .own 200 J3f o)]⟩,inv:=fun(k,o)=>k≤O.length∧o.length≤48*k∧o++Km M u (O.drop k)=Km M u O,mu:=fun(k,_)=>O.length-k}
abbrev bxO (x:Ord):List SC:=[.str x.1, .str x.2.1, .str x.2.2.1, .int .i64 x.2.2.2.1.1, .int .i64 x.2.2.2.1.2, .int .i64 x.2.2.2.2.1, .int .i64 x.2.2.2.2.2.1, .int .i64 x.2.2.2.2.2.2]
def Uk (x:Ord):Nat:=(x.2.2.2.1.2-x.2.2.2.1.1).toNat
abbrev J0b (tk st:Int) (S:List Sta) (O:List Ord) (M:List Met) (X:List Out) (Q:List Per) (u:Int):Ann:={X:=Nat×List Gap×Nat,σ:=fun(k,o,j)=>⟨16,[(0, .one (.fv 13)),(1, .one (.ptr 11 0)),(3, .one (.int .i64 ((O.getD k Kl).2.2.2.1.1+j)))],[(0, .imm 127 Xh S),(1, .imm 130 Yt O),(2, .imm 155 Xw M),(3, .imm 188 V5 X),(4, .imm 235 Ys Q),(5, .box 105 [.int .i64 tk, .int .i64 st, .sl 0, .sl 1, .sl 2, .sl 3, .sl 4]),(6, .box 3 [.int .i64 u]),(7, .box 50 [.sl 15]),(9, .box 130 (bxO (O.getD k Kl))),(11, .box 130 (bxO (O.getD k Kl))),(13, .yld .ready),(14, .sus [(2, .one (.ptr 5 0)),(3, .one (.ptr 6 0)),(5, .one (.ptr 7 0)),(7, .one (.ptr 9 0)),(10, .one (.sl 1)),(11, .one (.int .i64 O.length)),(12, .one (.int .i64 k))]),(15, .own 200 J3f o)]⟩,inv:=fun(k,o,j)=>Jj (tk,st,S,O,M,X,Q)∧k<O.length∧j≤Uk (O.getD k Kl)∧o.length≤48*k+j∧o++(Lw M u (O.getD k Kl) ((O.getD k Kl).2.2.2.1.1+j) (Uk (O.getD k Kl)-j)++Km M u (O.drop (k+1)))=Km M u O,mu:=fun(k,_,j)=>Uk (O.getD k Kl)-j,rel:=some fun x y=>y.1=x.1}
theorem Jvx (a b:Bool):(bif a then b else false)=(a&&b):=by cases a<;>rfl
def Z1 (a:List Ord) (b:Nat×List (Bt×Int)×Nat):=List.getD a b.1 Kl
def Z3 (a:List Ord) (b:Nat×List Gap×Nat):=List.getD a b.1 Kl
def Z69 (a:List Ord) (b:Nat×List (Bt×Int)×Nat):=(Z1 a b).2.2.2.2
def Z72 (a:List Ord) (b:Nat×List Gap×Nat):=(Z3 a b).2.2.2.2
def Z73 (a:List Ord) (b:Nat×List (Bt×Int)×Nat):=(Z1 a b).2.2.2.1
def Z76 (a:List Ord) (b:Nat×List Gap×Nat):=(Z3 a b).2.2.2.1
def Jxx (a:List Ord) (b:Nat×List Gap×Nat):=(Z76 a b).1+Nc b.2.2
def J6o (a:List Ord) (b:Nat×List Gap×Nat) (c:Nat×List (Bt×Int)×Nat):=(Z3 a b).1=(Z1 a c).1
def J6m (a:List Ord) (b:Nat×List Gap×Nat) (c:Nat×List (Bt×Int)×Nat):=(Z3 a b).2.1=(Z1 a c).2.1
def J9p (a:List Ord) (b:Nat×List Gap×Nat) (c:Int):=decide (Jxx a b<c)
def J6l (a:List Ord) (b:Nat×List Gap×Nat) (c:Nat×List (Bt×Int)×Nat):=(Z3 a b).2.2.1=(Z1 a c).2.2.1
def J9j (a:List Ord) (b:Nat×List Gap×Nat):=Iw (Jxx a b+1)
def J6j (a:List Ord) (b:Nat×List Gap×Nat) (c:Nat×List (Bt×Int)×Nat):=(Z76 a b).2=(Z73 a c).2
def J6h (a:List Ord) (b:Nat×List Gap×Nat) (c:Nat×List (Bt×Int)×Nat):=(Z76 a b).1=(Z73 a c).1
def J6g (a:List Ord) (b:Nat×List Gap×Nat) (c:Nat×List (Bt×Int)×Nat):=(Z72 a b).1=(Z69 a c).1
def J6d (a:List Ord) (b:Nat×List Gap×Nat) (c:Nat×List (Bt×Int)×Nat):=(Z72 a b).2.2=(Z69 a c).2.2
def J6c (a:List Ord) (b:Nat×List Gap×Nat) (c:Nat×List (Bt×Int)×Nat):=(Z72 a b).2.1=(Z69 a c).2.1
def Kk4 (a:Nat×List Gap×Nat):=(List.length a.2.1+1)*24≤140737488355328
def Kkn (a:List Ord) (b:Nat×List Gap):=List.getD a b.1 Jdh
def Kki (a:List Ord) (b:Nat×List Gap):=(Kkn a b).2
def Kkg (a:List Ord) (b:Nat×List Gap):=(Kki a b).2
def Kkf (a:List Ord) (b:Nat×List Gap):=(Kkg a b).2
def Kke (a:List Ord) (b:Nat×List Gap×Nat):=decide (Jxx a b<(Z76 a b).2)
def Kkc (a:List Ord) (b:Nat×List Gap):=(Kkf a b).1
def Kka (a:List Ord) (b:Nat×List Gap):=(Kkf a b).2
def Kj5 (a:List Ord) (b:Nat×List Gap):=(Kkc a b).1
def Kj2 (a:List Ord) (b:Nat×List Gap):=(Kka a b).2
def J85 (a:List Ord) (b:Nat×List Gap×Nat) (c:Nat×List (Bt×Int)×Nat):=Jxx a b+1=(Z73 a c).1+Nc c.2.2
def Kje (a:Nat×List Gap×Nat) (b:List Ord):=a.2.1++[((Z3 b a).1,Jxx b a)]
def Kfc (a:List Ord) (b:Nat×List Gap) (c:Nat×List (Bt×Int)×Nat):=(Kkn a b).1=(Z1 a c).1
def Ke8 (a:List Ord) (b:Nat×List Gap) (c:Nat×List (Bt×Int)×Nat):=(Kki a b).1=(Z1 a c).2.1
def Ki9 (a:Nat×List Gap×Nat) (b:List Ord) (c:Nat×List (Bt×Int)×Nat):=Kje a b=c.2.1
def Ke1 (a:List Ord) (b:Nat×List Gap) (c:Nat×List (Bt×Int)×Nat):=(Kkg a b).1=(Z1 a c).2.2.1
def Kix (a:Nat×List Gap) (b:List Ord) (c:List Met) (d:Int):=a.1≤List.length b∧List.length a.2≤48*a.1∧a.2++Km c d (List.drop a.1 b)=Km c d b
def Ke0 (a:Nat×List (Bt×Int)) (b:List Ord) (c:List Met) (d:Int):=a.1≤List.length b∧List.length a.2≤48*a.1∧a.2++Km c d (List.drop a.1 b)=Km c d b
def Key (a:List Ord) (b:Nat×List Gap) (c:Nat×List (Bt×Int)×Nat):=(Kka a b).1=(Z69 a c).1
def Kex (a:List Ord) (b:Nat×List Gap) (c:Nat×List (Bt×Int)×Nat):=Kj5 a b=(Z73 a c).1
def Kew (a:List Ord) (b:Nat×List Gap) (c:Nat×List (Bt×Int)×Nat):=(Kkc a b).2=(Z73 a c).2
def Keu (a:List Ord) (b:Nat×List Gap) (c:Nat×List (Bt×Int)×Nat):=(Kj2 a b).1=(Z69 a c).2.1
def Kes (a:List Ord) (b:Nat×List Gap) (c:Nat×List (Bt×Int)×Nat):=(Kj2 a b).2=(Z69 a c).2.2
def Kid (a:List Ord) (b:Nat×List Gap) (c:Nat×List (Bt×Int)×Nat):=Kj5 a b=(Z73 a c).1+Nc c.2.2
def Kd3 (a:Nat×List (Bt×Int)) (b:List Ord) (c:List Met) (d:Int) (e:Nat×List Gap):=Ke0 a b c d∧List.length b-a.1<List.length b-e.1
def Kg6 (a:List Ord) (b:Nat×List Gap×Nat):=J1 ((Z3 a b).1,(Z3 a b).2.1,(Z3 a b).2.2.1,E2 (Z76 a b),(Z72 a b).1,E2 (Z72 a b).2) (Jxx a b)
def Kdr (a:Nat×List (Bt×Int)×Nat) (b:List Ord) (c:List Met) (d:Int):=a.1<List.length b∧a.2.2≤Uk (List.getD b a.1 Kl)∧List.length a.2.1≤48*a.1+a.2.2∧a.2.1++(Lw c d (List.getD b a.1 Kl) ((List.getD b a.1 Kl).2.2.2.1.1+Nc a.2.2) (Uk (List.getD b a.1 Kl)-a.2.2)++Km c d (List.drop (a.1+1) b))=Km c d b
def Kg1 (a:Nat×List Gap×Nat) (b:List Ord) (c:List Met) (d:Int):=a.1<List.length b∧a.2.2≤Uk (List.getD b a.1 Kl)∧List.length a.2.1≤48*a.1+a.2.2∧a.2.1++(Lw c d (List.getD b a.1 Kl) ((List.getD b a.1 Kl).2.2.2.1.1+Nc a.2.2) (Uk (List.getD b a.1 Kl)-a.2.2)++Km c d (List.drop (a.1+1) b))=Km c d b
def Ktf (a b:Int) (c:List Sta) (d:List Ord) (e:List Met) (f:List Out) (g:List Per) (h:Nat×List (Bt×Int)×Nat) (i:Int):=Jw a b c d e f g∧Kdr h d e i
def Ksw (a:Nat×List Gap×Nat) (b:List Ord) (c:List Sta) (d:List Met) (e:List Out) (f:List Per) (g h i:Int) (j:Nat×List Gap):=Iw (Nc a.1+1)∧∃(y:Nat×List (ByteArray×Int)),Si (Ln b) (Nc a.1+1=Nc y.1∧Sf c (Sf b (Sf d (Sf e (Sf f (Si g (Si h (Si i (a.2.1=y.2)))))))))∧Kd3 y b d i j
def Kso (a b:Int) (c:List Sta) (d:List Ord) (e:List Met) (f:List Out) (g:List Per) (h:Nat×List (Bt×Int)×Nat) (i:Int) (j:Nat×List (Bt×Int)×Nat) (k:Nat×List Gap×Nat):=(Ktf a b c d e f g h i∧h.1=j.1)∧Uk (List.getD d h.1 Kl)-h.2.2<Uk (List.getD d k.1 Kl)-k.2.2
def J65 (a:Nat×List Gap×Nat) (b:List Ord) (c:List Sta) (d:List Met) (e:List Out) (f:List Per) (g h i:Int) (j:Nat×List Gap) (k:Nat×List (Bt×Int)×Nat):=Br false (Ksw a b c d e f g h i j) (J9j b a∧∃(y:Nat×List (ByteArray×Int)×Nat),(J85 b a y∧Sf c (Sf b (Sf d (Sf e (Sf f (Si g (Si h (Si i (J6o b a y∧J6m b a y∧J6l b a y∧J6h b a y∧J6j b a y∧J6g b a y∧J6c b a y∧J6d b a y∧J6o b a y∧J6m b a y∧J6l b a y∧J6h b a y∧J6j b a y∧J6g b a y∧J6c b a y∧J6d b a y∧Si (Ln b) (Nc a.1=Nc y.1∧a.2.1=y.2.1))))))))))∧Kso g h c b d e f y i k a)
theorem K4a [Sx.Dr]:Ok Tryz.prog 92 Kqr:=Jty W53 Tryz.f92 (Us (l:=([(178,Tryz.f178),(247,Tryz.f247)]:List (Nat×Func))) (List.forall_mem_cons.2 ⟨by kernel_rfl,List.forall_mem_cons.2 ⟨by kernel_rfl,by simp⟩⟩)) (fun xx=>X3 (J5i xx.1.1 xx.1.2.1 xx.1.2.2.1 xx.1.2.2.2.1 xx.1.2.2.2.2.1 xx.1.2.2.2.2.2.1 xx.1.2.2.2.2.2.2 xx.2.1)) (fun xx=>fun f id=>if f=247 then some (J0b xx.1.1 xx.1.2.1 xx.1.2.2.1 xx.1.2.2.2.1 xx.1.2.2.2.2.1 xx.1.2.2.2.2.2.1 xx.1.2.2.2.2.2.2 xx.2.1) else none) fun xx=>by
 obtain⟨⟨(tk:Int),(st:Int),(S:List Sta),(O:List Ord),(M:List Met),(X:List Out),(Q:List Per)⟩,(u:Int),_⟩:=xx
 refine(by kernel_rfl:(Jw tk st S O M X Q→∃(x:Nat×List (ByteArray×Int)),Si (Ln O) (0=Nc x.1∧Sf S (Sf O (Sf M (Sf X (Sf Q (Si tk (Si st (Si u (List.length x.2=0)))))))))∧Ke0 x O M u∧∀(x:Nat×List Gap),Kix x O M u→Br (decide (Nc x.1<Ln O)) (Tw (Bd (Nc x.1) (Ln O))∧∃(x0:Nat×List (ByteArray×Int)×Nat),(Kid O x x0∧Sf S (Sf O (Sf M (Sf X (Sf Q (Si tk (Si st (Si u (Kfc O x x0∧Ke8 O x x0∧Ke1 O x x0∧Kex O x x0∧Kew O x x0∧Key O x x0∧Keu O x x0∧Kes O x x0∧Kfc O x x0∧Ke8 O x x0∧Ke1 O x x0∧Kex O x x0∧Kew O x x0∧Key O x x0∧Keu O x x0∧Kes O x x0∧Si (Ln O) (Nc x.1=Nc x0.1∧x.2=x0.2.1))))))))))∧(Ktf tk st S O M X Q x0 u∧x0.1=x0.1)∧∀(x_1:Nat×List Gap×Nat),(Jw tk st S O M X Q∧Kg1 x_1 O M u)∧x_1.1=x0.1→Br (Kke O x_1) (Br (Kg6 O x_1) ((J9p O x_1 u=true→Jw tk st S O M X Q)∧Br (bif J9p O x_1 u then decide (K7 M (Z3 O x_1).1 (Jxx O x_1)<0) else false) (Kk4 x_1∧Br false (Iw (Nc x_1.1+1)∧∃(y:Nat×List (ByteArray×Int)),Si (Ln O) (Nc x_1.1+1=Nc y.1∧Sf S (Sf O (Sf M (Sf X (Sf Q (Si tk (Si st (Si u (Kje x_1 O=y.2)))))))))∧Kd3 y O M u x) (J9j O x_1∧∃(y:Nat×List (ByteArray×Int)×Nat),(J85 O x_1 y∧Sf S (Sf O (Sf M (Sf X (Sf Q (Si tk (Si st (Si u (J6o O x_1 y∧J6m O x_1 y∧J6l O x_1 y∧J6h O x_1 y∧J6j O x_1 y∧J6g O x_1 y∧J6c O x_1 y∧J6d O x_1 y∧J6o O x_1 y∧J6m O x_1 y∧J6l O x_1 y∧J6h O x_1 y∧J6j O x_1 y∧J6g O x_1 y∧J6c O x_1 y∧J6d O x_1 y∧Si (Ln O) (Nc x_1.1=Nc y.1∧Ki9 x_1 O y))))))))))∧Kso tk st S O M X Q y u x0 x_1)) (J65 x_1 O S M X Q tk st u x x0)) (J65 x_1 O S M X Q tk st u x x0)) (Ksw x_1 O S M X Q tk st u x)) (Sf true (x.2=Km M u O)))=_).mp ?_
 delta Z1 Z3 Z60 Z66 Z69 Z72 Z73 Z76 Jw Jxx J6o J6m J9p J6l J9j Jdh J6j J6h J6g J6d J6c Kk4 Kkn Kki Kkg Kkf Kke Kkc Kka Kj5 Kj2 J85 Kje Kfc Ke8 Ki9 Ke1 Kix Ke0 Key Kex Kew Keu Kes Kid Kd3 Kg6 Kdr Kg1 Ktf Ksw Kso J65 Br Iw Bd Tw Sf Si Ln Nc B0 E2
 intro hr
 have nO:O.length≤32:=hr.nO
 refine⟨((0:Nat),[]),by(repeat' first|exact rfl|apply And.intro|exact(Int.add_zero _).symm|omega|dsimp only;omega),⟨Nat.zero_le _,Nat.zero_le _,rfl⟩,fun(x:Nat×List Gap) hk=>⟨fun h1=> ?_,fun h1=> ?_⟩⟩
 ·obtain⟨k,o⟩:=x
  have hlt:k<O.length:=by simpa using h1
  obtain⟨k1,k2,k3⟩:=hk
  dsimp only at k1 k2 k3
  rw[Jp (d:=Kl) hlt,Km,Jt7] at k3
  refine⟨⟨⟨by dsimp only;omega,by dsimp only;omega⟩,by dsimp only;omega,by dsimp only;omega⟩,(k,o,(0:Nat)), ?_,⟨⟨hr,hlt,Nat.zero_le _,by simpa using k2, ?_⟩,rfl⟩,fun(y:Nat×List Gap×Nat) hy=> ?_⟩
  ·repeat' first|exact rfl|apply And.intro|exact(Int.add_zero _).symm|omega|dsimp only;omega
  ·simpa[Uk] using k3
  obtain⟨k',o,j⟩:=y
  obtain⟨⟨_,i1,i2,i3,i4⟩,hkk⟩:=hy
  have hkk:k'=k:=hkk
  subst hkk
  dsimp only at i1 i2 i3 i4
  have ho:Jls (O.getD k' Kl).2.2.2.1:=(hr.ord (O.getD k' Kl) (Jd hlt)).span
  have hn:Uk (O.getD k' Kl)≤48∧(Uk (O.getD k' Kl):Int)=(O.getD k' Kl).2.2.2.1.2-(O.getD k' Kl).2.2.2.1.1:=by
   have:=ho.mid;have:=ho.len
   unfold Uk
   constructor<;>omega
  have b1:=ho.lo
  have b2:=ho.hi
  refine⟨fun h2=> ?_,fun h2=> ?_⟩
  ·have h2:(O.getD k' Kl).2.2.2.1.1+(j:Int)<(O.getD k' Kl).2.2.2.1.2:=of_decide_eq_true h2
   have hj:Uk (O.getD k' Kl)-j=(Uk (O.getD k' Kl)-(j+1))+1:=by omega
   rw[hj,Lw] at i4
   have hB: -9223372036854775808≤(O.getD k' Kl).2.2.2.1.1+(j:Int)+1∧(O.getD k' Kl).2.2.2.1.1+(j:Int)+1≤9223372036854775807:=by omega
   have hc:(O.getD k' Kl).2.2.2.1.1+(j:Int)+1=(O.getD k' Kl).2.2.2.1.1+((j+1:Nat):Int):=by omega
   refine⟨fun h3=>⟨fun _=>hr,fun h4=>⟨by dsimp only;omega,fun f=>(by cases f),fun _=>⟨hB,(k',o++[((O.getD k' Kl).1,(O.getD k' Kl).2.2.2.1.1+(j:Int))],j+1), ?_,⟨⟨hr,hlt,by dsimp only;omega,by simp;omega, ?_⟩,rfl⟩,by dsimp only;omega⟩⟩,fun h4=>⟨fun f=>(by cases f),fun _=>⟨hB,(k',o,j+1), ?_,⟨⟨hr,hlt,by dsimp only;omega,by dsimp only;omega, ?_⟩,rfl⟩,by dsimp only;omega⟩⟩⟩,fun h3=>⟨fun f=>(by cases f),fun _=>⟨hB,(k',o,j+1), ?_,⟨⟨hr,hlt,by dsimp only;omega,by dsimp only;omega, ?_⟩,rfl⟩,by dsimp only;omega⟩⟩⟩
   ·repeat' first|exact rfl|apply And.intro|exact(Int.add_zero _).symm|omega|dsimp only;omega
   ·have h3:J1 (O.getD k' Kl) ((O.getD k' Kl).2.2.2.1.1+(j:Int))=true:=h3
    have h4:(bif decide ((O.getD k' Kl).2.2.2.1.1+(j:Int)<u) then decide (K7 M (O.getD k' Kl).1 ((O.getD k' Kl).2.2.2.1.1+(j:Int))<0) else false)=true:=h4
    rw[Jvx] at h4
    rw[h3,Bool.true_and,h4,hc] at i4
    rw[←i4]
    simp
   ·repeat' first|exact rfl|apply And.intro|exact(Int.add_zero _).symm|omega|dsimp only;omega
   ·have h3:J1 (O.getD k' Kl) ((O.getD k' Kl).2.2.2.1.1+(j:Int))=true:=h3
    have h4:(bif decide ((O.getD k' Kl).2.2.2.1.1+(j:Int)<u) then decide (K7 M (O.getD k' Kl).1 ((O.getD k' Kl).2.2.2.1.1+(j:Int))<0) else false)=false:=h4
    rw[Jvx] at h4
    rw[h3,Bool.true_and,h4,hc] at i4
    rw[←i4]
    simp
   ·repeat' first|exact rfl|apply And.intro|exact(Int.add_zero _).symm|omega|dsimp only;omega
   ·have h3:J1 (O.getD k' Kl) ((O.getD k' Kl).2.2.2.1.1+(j:Int))=false:=h3
    rw[h3,hc] at i4
    rw[←i4]
    simp
  ·have h2:¬(O.getD k' Kl).2.2.2.1.1+(j:Int)<(O.getD k' Kl).2.2.2.1.2:=of_decide_eq_false h2
   have hj:Uk (O.getD k' Kl)-j=0:=by omega
   rw[hj,Lw] at i4
   refine⟨⟨by dsimp only;omega,by dsimp only;omega⟩,(k'+1,o), ?_,⟨by dsimp only;omega,by dsimp only;omega,by simpa using i4⟩,by dsimp only;omega⟩
   repeat' first|exact rfl|apply And.intro|exact(Int.add_zero _).symm|omega|dsimp only;omega
 ·obtain⟨k,o⟩:=x
  have hlt:¬k<O.length:=by simpa using h1
  obtain⟨k1,k2,k3⟩:=hk
  dsimp only at k1 k2 k3
  have:k=O.length:=by omega
  rw[this,List.drop_length,Km,List.append_nil] at k3
  exact⟨rfl,k3⟩
abbrev W54 [Sx.Dr]:=W53.add K4a
abbrev aE:AK:=aEv
abbrev Jns (T U:TypeId) (s:Sch) (l:List s.T) (g:Bool) (q:Tup [(g,s)]→List Prop) (f:Tup [(g,s)]→Bool):Ann:={X:=Nat,σ:=fun k=>⟨3,[(1, .one (.fv 1)),(5, .one (.sl 2)),(8, .one (.sl 0)),(9, .one (.int .i64 l.length)),(10, .one (.int .i64 k))],[(0, .imm T s l),(1, .afn [(g,s)] Bo q f),(2, .own U s ((l.take k).filter fun x=>f (x,())))]⟩,inv:=fun k=>k≤l.length,mu:=fun k=>l.length-k}
def Kb3:Con:={args:=[.val false (.list 235 Ys), .fn [(true,Ys)] Bo],ress:=[(false, .list 235 Ys)],owns:=[true],pre:=fun(l,(q,_),_)=>[l.length≤1000000,∀x∈l,Uj (q (x,()))],spec:=fun(l,(_,f),_)=>(l.filter fun x=>f (x,()),())}
theorem Je2 {α:Type} {p:α→Bool} {l:List α} {k:Nat} (h:k≤l.length):((l.take k).filter p).length≤k:=by
 have:=List.length_filter_le p (l.take k)
 rw[List.length_take] at this
 omega
def Z77 (a:Nat) (b:List Per):=Tw (Bd (Nc a) (Ln b))
def J2o (a:Per×Unit→Bool) (b:Nat) (c:List Per):=List.filter (fun(x:Per)=>a (x,PUnit.unit)) (List.take b c)
def J0i (a:Nat) (b:List Per) (c:Nat):=a≤List.length b∧Jws b a c
def Kjn (a:List Per) (b:Nat):=[J89 a b]
theorem Km4 [Sx.Dr]:Ok Tryz.prog 243 Kb3:=okW W54 Tryz.f243 (fun xx=>X3 (Jns 235 235 Ys xx.1 true xx.2.1.1 xx.2.1.2)) fun xx=>by
 obtain⟨(l:List Per),⟨(q:Per×Unit→List Prop),(f:Per×Unit→Bool)⟩,_⟩:=xx
 refine(by kernel_rfl:(Z44 l→J9d l q→∃(x:Nat),Si (Ln l) (0=Nc x∧Sf l ((fun(x:Per×PUnit)=>q x)=q∧(fun(x:Per×PUnit)=>f x)=f∧List.length (J2o f x l)=0))∧x≤List.length l∧∀(x:Nat),x≤List.length l→Br (Z99 x l) (Z77 x l∧J84 q l x∧Br (Kjm f l x) ((List.length (J2o f x l)+1)*40≤140737488355328∧Z14 x∧∃(y:Nat),Si (Ln l) (Z91 x y∧Sf l ((fun(x:Per×PUnit)=>q x)=q∧(fun(x:Per×PUnit)=>f x)=f∧J2o f x l++Kjn l x=J2o f y l))∧J0i y l x) (Z14 x∧∃(y:Nat),Si (Ln l) (Z91 x y∧Sf l ((fun(x:Per×PUnit)=>q x)=q∧(fun(x:Per×PUnit)=>f x)=f∧J2o f x l=J2o f y l))∧J0i y l x)) (J2o f x l=List.filter (fun(x:Per)=>f (x,PUnit.unit)) l))=_).mp ?_
 delta Z14 Z44 Z77 Z91 Z99 Jwt Jx0 Jws J2o J0i J9d J89 J87 Kjn Kjm J84 Br Iw Bd Tw Sf Si Ln Nc B0 E2
 intro hb hq
 refine⟨(0:Nat),⟨rfl,rfl,rfl,rfl,rfl,by simp⟩,Nat.zero_le _,fun(k:Nat) hk=>⟨fun h=> ?_,fun h=> ?_⟩⟩
 ·have hlt:k<l.length:=by simpa using h
  have hf:=Je2 (p:=fun x=>f (x,())) hk
  have ht:=K4 (d:=Jig) hlt
  refine⟨by omega,hq (l.getD k Jig) (Jd hlt),fun h1=> ?_,fun h1=> ?_⟩
  ·have h1:f (l.getD k Jig,())=true:=h1
   refine⟨by show((List.filter (fun x=>f (x,())) (List.take k l)).length+1)*40≤_;omega,by omega,(k+1:Nat),⟨rfl,by simp,rfl,rfl,rfl, ?_⟩,by omega,by omega⟩
   rw[←ht,List.filter_append,List.filter_cons,if_pos h1];rfl
  ·have h1:f (l.getD k Jig,())=false:=h1
   refine⟨by omega,(k+1:Nat),⟨rfl,by simp,rfl,rfl,rfl, ?_⟩,by omega,by omega⟩
   rw[←ht,List.filter_append,List.filter_cons,if_neg (by rw[h1];decide)];simp
 ·have hlt:¬k<l.length:=by simpa using h
  rw[List.take_of_length_le (by omega)]
abbrev W55 [Sx.Dr]:=W54.add Km4
def J14:Con:={args:=[.val true Ys],ress:=[Bo],owns:=[],pre:=fun _=>[],spec:=fun(x,_)=>(x.2.2,())}
theorem Klx [Sx.Dr] (x:Per):wpF Tryz.prog W55.g (na ()) Tryz.f261 J14 (x,()):=by
 refine(by kernel_rfl:(x.2.2=x.2.2)=_).mp ?_
 rfl
theorem Kmy [Sx.Dr]:Ok Tryz.prog 261 J14:=Vq mixed W55.ok (by kernel_rfl) (by kernel_rfl) na fun xx=>Klx xx.1
abbrev W56 [Sx.Dr]:=W55.add Kmy
def Lv (Q:List Per):List Per:=Q.filter fun x=>x.2.2
def Kbr:Con:={args:=[Ja1],ress:=[(false, .list 235 Ys)],owns:=[true],pre:=fun(r,_)=>[Jj r],spec:=fun((_,_,_,_,_,_,Q),_)=>(Lv Q,())}
theorem Knn [Sx.Dr]:Ok Tryz.prog 207 Kbr:=okW W56 Tryz.f207 na fun xx=>by
 obtain⟨⟨(tk:Int),(st:Int),(S:List Sta),(O:List Ord),(M:List Met),(X:List Out),(Q:List Per)⟩,_⟩:=xx
 refine(by kernel_rfl:(Jw tk st S O M X Q→Kjs Q∧List.filter (fun(x:Per)=>x.2.2) Q=Lv Q)=_).mp ?_
 delta Z44 Z60 Jw Kjs
 intro hr
 have nQ:Q.length≤16:=hr.nQ
 exact⟨⟨by omega,fun _ _=>trivial⟩,rfl⟩
abbrev W57 [Sx.Dr]:=W56.add Knn
theorem Jc5 {Q:List Per}:(Lv Q).length≤Q.length:=List.length_filter_le _ _
theorem Jko {Q:List Per} {x:Per} (h:x∈Lv Q):x∈Q:=(List.mem_filter.1 h).1
def Kbl:Con:={args:=[.val true Ys, .ref 188 V5],ress:=[Bo],owns:=[],pre:=fun _=>[],spec:=fun(x,y,_)=>(x.2.1.toList==y.1.toList,())}
theorem Kly [Sx.Dr] (x:Per) (y:Out):wpF Tryz.prog W57.g (na ()) Tryz.f244 Kbl (x,y,()):=by
 refine(by kernel_rfl:(Lb x.2.1 y.1=Lb x.2.1 y.1)=_).mp ?_
 delta Lb
 rfl
theorem Km3 [Sx.Dr]:Ok Tryz.prog 244 Kbl:=Vq mixed W57.ok (by kernel_rfl) (by kernel_rfl) na fun xx=>Kly xx.1 xx.2.1
abbrev W58 [Sx.Dr]:=W57.add Km3
def Kqh:Con:={args:=[.val true Ys, .ref 105 Jfw, .ref 3 sI],ress:=[Bo],owns:=[],pre:=fun(x,r,_)=>[Jj r,0≤J5 r.2.2.2.2.2.1 x.2.1],spec:=fun(x,(_,_,_,_,_,X,_),h,_)=>(decide ((Lu X x.2.1).2.2.1.2≤h),())}
theorem Km1 [Sx.Dr]:Ok Tryz.prog 246 Kqh:=okW W58 Tryz.f246 na fun xx=>by
 obtain⟨⟨(a:ByteArray),(b:ByteArray),(c:Bool)⟩,⟨(tk:Int),(st:Int),(S:List Sta),(O:List Ord),(M:List Met),(X:List Out),(Q:List Per)⟩,(h:Int),_⟩:=xx
 refine(by kernel_rfl:(Jw tk st S O M X Q→0≤J5 X b→(Z43 X∧0≤J5 X b)∧decide ((Lu X b).2.2.1.2≤h)=decide ((Lu X b).2.2.1.2≤h))=_).mp ?_
 delta Z43 Z60 Jw
 intro hr h
 have nX:X.length≤16:=hr.nX
 repeat' first|assumption|exact rfl|trivial|omega|apply And.intro|intro _
abbrev W59 [Sx.Dr]:=W58.add Km1
def Kqp:Con:={args:=[aI, .ref 105 Jfw, .ref 9 .str, .ref 9 .str, .ref 3 sI],ress:=[Bo],owns:=[],pre:=fun(_,r,a,b,_)=>[Jj r,0≤J0 r.2.2.1 a,0≤J0 r.2.2.1 b],spec:=fun(h,(_,_,S,O,_,X,_),a,b,p,_)=>(decide (min (Xl S O X a h) (Xl S O X b h)<p),())}
theorem Km8 [Sx.Dr]:Ok Tryz.prog 239 Kqp:=okW W59 Tryz.f239 na fun xx=>by
 obtain⟨(h:Int),⟨(tk:Int),(st:Int),(S:List Sta),(O:List Ord),(M:List Met),(X:List Out),(Q:List Per)⟩,(a:ByteArray),(b:ByteArray),(p:Int),_⟩:=xx
 refine(by kernel_rfl:(Jw tk st S O M X Q→Z15 S a→Z15 S b→(Jw tk st S O M X Q∧Z15 S a∧Jw tk st S O M X Q∧Z15 S b)∧decide (min (Xl S O X a h) (Xl S O X b h)<p)=decide (min (Xl S O X a h) (Xl S O X b h)<p))=_).mp ?_
 delta Z15 Z60 Jw
 intro hr h1 h2
 repeat' first|assumption|exact rfl|trivial|omega|apply And.intro|intro _
abbrev W60 [Sx.Dr]:=W59.add Km8
def Kqo:Con:={args:=[aI, .ref 105 Jfw, .ref 9 .str, .ref 3 sI],ress:=[Bo],owns:=[],pre:=fun(_,r,a,_)=>[Jj r],spec:=fun(h,(_,_,_,O,_),a,p,_)=>(decide (p<U9 O a h),())}
theorem Km6 [Sx.Dr]:Ok Tryz.prog 241 Kqo:=okW W60 Tryz.f241 na fun xx=>by
 obtain⟨(h:Int),⟨(tk:Int),(st:Int),(S:List Sta),(O:List Ord),(M:List Met),(X:List Out),(Q:List Per)⟩,(a:ByteArray),(p:Int),_⟩:=xx
 refine(by kernel_rfl:(Jw tk st S O M X Q→Jw tk st S O M X Q∧decide (p<U9 O a h)=decide (p<U9 O a h))=_).mp ?_
 delta Z60 Jw
 intro hr
 repeat' first|assumption|exact rfl|trivial|omega|apply And.intro|intro _
abbrev W61 [Sx.Dr]:=W60.add Km6
def Jrl (f:Int→Bool):Int→Nat→Bool
 |_,0=>false
 |a,n+1=>bif f a then true else Jrl f (a+1) n
def Hb (s:Int×Int) (f:Int→Bool):Bool:=Jrl f s.1 (s.2-s.1).toNat
def Kcg:Con:={args:=[.val true Hp, .fn [I] Bo],ress:=[Bo],owns:=[],pre:=fun(s,(q,_),_)=>[0≤s.1∧s.1≤999999999,0≤s.2∧s.2≤999999999,∀h,s.1≤h→h<s.2→Uj (q (h,()))],spec:=fun(s,(_,f),_)=>(Hb s fun h=>f (h,()),())}
abbrev J0d (a b:Int) (q:Int×Unit→List Prop) (f:Int×Unit→Bool):Ann:={X:=Nat,σ:=fun k=>⟨2,[(1, .one (.fv 1)),(2, .one (.ptr 0 0)),(5, .one (.bool false)),(11, .one (.int .i64 (b-a))),(12, .one (.int .i64 k))],[(0, .box 117 [.int .i64 a, .int .i64 b]),(1, .afn [I] Bo q f)]⟩,inv:=fun k=>k≤(b-a).toNat∧Hb (a,b) (fun h=>f (h,()))=Jrl (fun h=>f (h,())) (a+k) ((b-a).toNat-k),mu:=fun k=>(b-a).toNat-k}
def Kae (a:Int):=0≤a∧a≤999999999
def Kis (a:Nat) (b c:Int) (d:Int×Unit→Bool):=a≤Int.toNat (b-c)∧(Hb (c,b) fun(h:Int)=>d (h,PUnit.unit))=Jrl (fun(h:Int)=>d (h,PUnit.unit)) (c+Nc a) (Int.toNat (b-c)-a)
theorem Kna [Sx.Dr]:Ok Tryz.prog 237 Kcg:=okW W61 Tryz.f237 (fun xx=>X3 (J0d xx.1.1 xx.1.2 xx.2.1.1 xx.2.1.2)) fun xx=>by
 obtain⟨⟨(a:Int),(b:Int)⟩,⟨(q:Int×Unit→List Prop),(f:Int×Unit→Bool)⟩,_⟩:=xx
 refine(by kernel_rfl:(Kae a→Kae b→(∀(h:Int),a≤h→h<b→Uj (q (h,PUnit.unit)))→Iw (b-a)∧∃(x:Nat),Sf false (Si (b-a) (0=Nc x∧Si a (Si b ((fun(x:Int×PUnit)=>q x)=q∧(fun(x:Int×PUnit)=>f x)=f))))∧Kis x b a f∧∀(x:Nat),Kis x b a f→Br (decide (Nc x<b-a)) ((Iw (a+Nc x)∧Uj (q (a+Nc x,PUnit.unit)))∧Br (f (a+Nc x,PUnit.unit)) (true=Hb (a,b) fun(h:Int)=>f (h,PUnit.unit)) (Z14 x∧∃(y:Nat),Sf false (Si (b-a) (Z91 x y∧Si a (Si b ((fun(x:Int×PUnit)=>q x)=q∧(fun(x:Int×PUnit)=>f x)=f))))∧Kis y b a f∧Int.toNat (b-a)-y<Int.toNat (b-a)-x)) (false=Hb (a,b) fun(h:Int)=>f (h,PUnit.unit)))=_).mp ?_
 delta Z14 Z91 Kae Kis Br Iw Sf Si Nc
 intro h1 h2 hq
 refine⟨by omega,(0:Nat),⟨rfl,rfl,rfl,rfl,rfl,rfl,rfl⟩,⟨Nat.zero_le _,by simp[Hb]⟩,fun(k:Nat) hk=>⟨fun h=> ?_,fun h=> ?_⟩⟩
 ·have h:(k:Int)<b-a:=of_decide_eq_true h
  obtain⟨k1,k2⟩:=hk
  have hj:(b-a).toNat-k=((b-a).toNat-(k+1))+1:=by omega
  rw[hj,Jrl] at k2
  refine⟨⟨by omega,hq (a+k) (by omega) (by omega)⟩,fun h3=> ?_,fun h3=>⟨by omega,(k+1:Nat),⟨rfl,rfl,by simp,rfl,rfl,rfl,rfl⟩,⟨by omega, ?_⟩,by omega⟩⟩
  ·rw[k2]
   show true=bif f (a+(k:Int),PUnit.unit) then true else _
   rw[h3];rfl
  ·rw[k2]
   show(bif f (a+(k:Int),PUnit.unit) then true else _)=_
   rw[h3,Int.natCast_add,←Int.add_assoc];rfl
 ·have h:¬(k:Int)<b-a:=of_decide_eq_false h
  have hj:(b-a).toNat-k=0:=by omega
  rw[hk.2,hj];rfl
abbrev W62 [Sx.Dr]:=W61.add Kna
def Jlh (S:List Sta) (vs:List Int):Int:=Je [Kb (vs.getD 1 0) 1 1000,bif decide ((6:Int)≤S.length) then 5 else 0]
def Kch:Con:={args:=[Ja1,aEv],ress:=[I],owns:=[],pre:=fun(r,e,_)=>[Jj r,2≤e.2.2.2.1.length],spec:=fun((tk,st,S,O,M,X,Q),(n,k,ns,vs,tx),_)=>(Jlh S vs,())}
def Z45 (a:Li):=2≤List.length a
theorem Ko2 [Sx.Dr]:Ok Tryz.prog 148 Kch:=okW W62 Tryz.f148 na fun xx=>by
 obtain⟨⟨(tk:Int),(st:Int),(S:List Sta),(O:List Ord),(M:List Met),(X:List Out),(Q:List Per)⟩,⟨(n:Int),(k:ByteArray),(ns:List ByteArray),(vs:List Int),(tx:ByteArray)⟩,_⟩:=xx
 refine(by kernel_rfl:(Jw tk st S O M X Q→Z45 vs→T2 (Z30 vs) (2≤1000000)∧Je [Kb (Z89 vs) 1 1000,bif decide (6≤Ln S) then 5 else 0]=Jlh S vs)=_).mp ?_
 delta Z30 Z45 Z60 Z89 Jw Bd T2 Ln
 intro hr h
 repeat' first|assumption|exact rfl|trivial|omega|apply And.intro|intro _
abbrev W63 [Sx.Dr]:=W62.add Ko2
def Jnk (vs:List Int):Int:=Kb (vs.getD 1 0) 0 1000
def Kcj:Con:={args:=[Ja1,aEv],ress:=[I],owns:=[],pre:=fun(r,e,_)=>[2≤e.2.2.2.1.length],spec:=fun((tk,st,S,O,M,X,Q),(n,k,ns,vs,tx),_)=>(Jnk vs,())}
def Z84 (a:Li):=Tw (Z30 a)
theorem Koy [Sx.Dr]:Ok Tryz.prog 152 Kcj:=okW W63 Tryz.f152 na fun xx=>by
 obtain⟨⟨(tk:Int),(st:Int),(S:List Sta),(O:List Ord),(M:List Met),(X:List Out),(Q:List Per)⟩,⟨(n:Int),(k:ByteArray),(ns:List ByteArray),(vs:List Int),(tx:ByteArray)⟩,_⟩:=xx
 refine(by kernel_rfl:(Z45 vs→Z84 vs∧Kb (Z89 vs) 0 1000=Jnk vs)=_).mp ?_
 delta Z30 Z45 Z84 Z89 Bd Tw Ln
 intro h
 repeat' first|assumption|exact rfl|trivial|omega|apply And.intro|intro _
abbrev W64 [Sx.Dr]:=W63.add Koy
def Jg5 (e:Ev):Int:=Je [bif (e.2.2.1.getD 1 Jb).toList==(e.2.2.1.getD 2 Jb).toList then 24 else 0,Zf e,Kb (e.2.2.2.1.getD 3 0) 1 1000]
def Jut (S:List Sta) (O:List Ord) (X:List Out) (e:Ev):Bool:=Hb (Vr e) fun h=>decide (min (Xl S O X (e.2.2.1.getD 1 Jb) h) (Xl S O X (e.2.2.1.getD 2 Jb) h)<e.2.2.2.1.getD 3 0)
def Jbv (S:List Sta) (O:List Ord) (X:List Out) (e:Ev):Int:=if Jg5 e≠0 then Jg5 e else Je [bif Jut S O X e then 4 else 0,bif decide ((32:Int)≤O.length) then 5 else 0]
def Kcl:Con:={args:=[Ja1,aEv],ress:=[I],owns:=[],pre:=fun(r,e,_)=>[Jj r,EvV e,e.2.2.1.length=3,e.2.2.2.1.length=4,0≤J0 r.2.2.1 (e.2.2.1.getD 1 Jb),0≤J0 r.2.2.1 (e.2.2.1.getD 2 Jb)],spec:=fun((tk,st,S,O,M,X,Q),(n,k,ns,vs,tx),_)=>(Jbv S O X (n,k,ns,vs,tx),())}
def Z24 (a:Li):=Bd 3 (Ln a)
def Z49 (a:Li):=List.length a=4
def Z86 (a:Ls):=List.getD a 1 B0
def Z90 (a:Ls):=Bd 1 (Ln a)
def Z93 (a:Ls):=List.getD a 2 B0
def Z97 (a:Li):=Tw (Z24 a)
def Ja5 (a:Li):=List.getD a 3 0
def J2y (a:Ls):=Bd 2 (Ln a)
def Jji (a:Ls):=List.getD a 1 Jb
def J6w (a:Ls):=List.getD a 2 Jb
def Jsi (a:Ls):=List.length a=3
def Jxy (a:List Sta) (b:Ls):=J0 a (Z86 b)
def J2k (a:List Sta) (b:Ls):=0≤Jxy a b
def J9u (a:List Sta) (b:Ls):=0≤J0 a (Jji b)
def Klc (a:Ls):=Lb (Z86 a) (Z93 a)
def Ku1 (a:Ls) (b:Int) (c:Bt) (d:Li) (e:Bt):=Je [bif Klc a then 24 else 0,Zf (b,c,a,d,e),Kb (Ja5 d) 1 1000]
theorem Kow [Sx.Dr]:Ok Tryz.prog 154 Kcl:=okW W64 Tryz.f154 na fun xx=>by
 obtain⟨⟨(tk:Int),(st:Int),(S:List Sta),(O:List Ord),(M:List Met),(X:List Out),(Q:List Per)⟩,⟨(n:Int),(k:ByteArray),(ns:List ByteArray),(vs:List Int),(tx:ByteArray)⟩,_⟩:=xx
 refine(by kernel_rfl:(Jw tk st S O M X Q→EvV (n,k,ns,vs,tx)→Jsi ns→Z49 vs→J9u S ns→0≤J0 S (J6w ns)→T2 (Z90 ns) (T2 (J2y ns) (Z97 vs))∧(Z47 vs∧EvV (n,k,ns,vs,tx)∧3≤1000000)∧Br (Ku1 ns n k vs tx !=0) (Ku1 ns n k vs tx=Jbv S O X (n,k,ns,vs,tx)) ((Z47 vs∧(0≤(Z52 n k ns vs tx).1∧(Z52 n k ns vs tx).1≤999999999)∧(0≤(Z52 n k ns vs tx).2∧(Z52 n k ns vs tx).2≤999999999)∧∀(h:Int),(Z52 n k ns vs tx).1≤h→h<(Z52 n k ns vs tx).2→Jw tk st S O M X Q∧J2k S ns∧0≤J0 S (Z93 ns))∧2≤1000000∧Je [bif Hb (E2 (Z52 n k ns vs tx)) fun(h:Int)=>decide (min (Xl S O X (Z86 ns) h) (Xl S O X (Z93 ns) h)<Ja5 vs) then 4 else 0,bif decide (32≤Ln O) then 5 else 0]=Jbv S O X (n,k,ns,vs,tx)))=_).mp ?_
 delta Z24 Z47 Z49 Z52 Z60 Z86 Z90 Z93 Z97 Ja5 J2y Jji J6w Jsi Jw Jxy J2k J9u Klc Ku1 Br Bd T2 Tw Ln B0 Lb E2
 intro hr hv hn hl h1 h2
 have sp:(0≤(Vr (n,k,ns,vs,tx)).1∧(Vr (n,k,ns,vs,tx)).1≤999999999)∧0≤(Vr (n,k,ns,vs,tx)).2∧(Vr (n,k,ns,vs,tx)).2≤999999999:=⟨hv (vs.getD 1 0) (Jd (show 1<vs.length by omega)),hv (vs.getD 2 0) (Jd (show 2<vs.length by omega))⟩
 refine⟨by omega,⟨by omega,hv,by omega⟩,fun h=> ?_,fun h=>⟨⟨by omega,sp.1,sp.2,fun _ _ _=>⟨hr,h1,h2⟩⟩,by omega, ?_⟩⟩
 ·have h:Jg5 (n,k,ns,vs,tx)≠0:=bne_iff_ne.1 h
  unfold Jbv;rw[if_pos h];rfl
 ·have h:¬Jg5 (n,k,ns,vs,tx)≠0:=by have:=bne_eq_false_iff_eq.1 h;exact fun f=>f this
  unfold Jbv;rw[if_neg h];rfl
abbrev W65 [Sx.Dr]:=W64.add Kow
def Jli (O:List Ord) (M:List Met) (ns:List ByteArray) (vs:List Int):Int:=Je [bif decide (vs.getD 0 0≤vs.getD 1 0) then 11 else 0,bif !Kn (Xz O (ns.getD 0 Jb)).2.2.2.1 (vs.getD 1 0) then 14 else 0,bif !J1 (Xz O (ns.getD 0 Jb)) (vs.getD 1 0) then 23 else 0,bif decide (0≤K7 M (Xz O (ns.getD 0 Jb)).1 (vs.getD 1 0)) then 9 else 0,bif (bif decide ((Xz O (ns.getD 0 Jb)).2.2.2.2.1<vs.getD 2 0) then true else decide (vs.getD 2 0<vs.getD 3 0)) then 3 else 0]
def Kcm:Con:={args:=[Ja1,aEv],ress:=[I],owns:=[],pre:=fun(r,e,_)=>[Jj r,1≤e.2.2.1.length,4≤e.2.2.2.1.length,0≤Ku r.2.2.2.1 (e.2.2.1.getD 0 Jb)],spec:=fun((tk,st,S,O,M,X,Q),(n,k,ns,vs,tx),_)=>(Jli O M ns vs,())}
def Z54 (a:Li):=4≤List.length a
def Z95 (a:Ls):=Bd 0 (Ln a)
def U0 (a:Ls):=List.getD a 0 B0
def Lq (a:Ls):=List.getD a 0 Jb
def Y2 (a:Ls):=1≤List.length a
def J6u (a:List Ord) (b:Ls):=Xz a (U0 b)
def Jp3 (a:List Ord) (b:Ls):=Ku a (U0 b)
def J93 (a:List Ord) (b:Ls):=(J6u a b).2.2
def J90 (a:List Ord) (b:Ls):=(J93 a b).2.1
def J6q (a:List Ord) (b:Ls):=(J93 a b).2.2
def Jsd (a:List Ord) (b:Ls):=0≤Ku a (Lq b)
def Kk2 (a:Li):=decide (Z85 a≤Z89 a)
def Kk1 (a:Li):=decide (Z81 a<Ja5 a)
def Kg3 (a:List Ord) (b:Ls):=((J6u a b).1,(J6u a b).2.1,(J93 a b).1,E2 (J90 a b),(J6q a b).1,E2 (J6q a b).2)
theorem Kot [Sx.Dr]:Ok Tryz.prog 157 Kcm:=okW W65 Tryz.f157 na fun xx=>by
 obtain⟨⟨(tk:Int),(st:Int),(S:List Sta),(O:List Ord),(M:List Met),(X:List Out),(Q:List Per)⟩,⟨(n:Int),(k:ByteArray),(ns:List ByteArray),(vs:List Int),(tx:ByteArray)⟩,_⟩:=xx
 refine(by kernel_rfl:(Jw tk st S O M X Q→Y2 ns→Z54 vs→Jsd O ns→T2 (Z95 ns) (Z57 O∧0≤Jp3 O ns∧T2 (Z30 vs) (T2 (Z23 vs) (Z97 vs)))∧T2 (Z27 vs) (Jw tk st S O M X Q∧5≤1000000)∧Je [bif Kk2 vs then 11 else 0,bif !Kn (E2 (J90 O ns)) (Z89 vs) then 14 else 0,bif !J1 (Kg3 O ns) (Z89 vs) then 23 else 0,bif decide (0≤K7 M (J6u O ns).1 (Z89 vs)) then 9 else 0,bif bif decide ((J6q O ns).1<Z81 vs) then true else Kk1 vs then 3 else 0]=Jli O M ns vs)=_).mp ?_
 delta Z23 Z24 Z27 Z30 Z54 Z57 Z60 Z81 Z85 Z89 Z95 Z97 Ja5 U0 Lq Y2 Jw J6u Jp3 J93 J90 J6q Jsd Kk2 Kk1 Kg3 Bd T2 Tw Ln B0 E2
 intro hr h1 h2 h3
 have nO:O.length≤32:=hr.nO
 refine⟨⟨⟨by omega,by omega⟩,⟨by omega,by omega⟩,by omega,h3,by omega⟩,⟨by omega,by omega,hr,by omega⟩,rfl⟩
abbrev W66 [Sx.Dr]:=W65.add Kot
def Jcg (O:List Ord) (ns:List ByteArray) (vs:List Int):Int:=bif (bif (Xz O (ns.getD 0 Jb)).2.2.2.2.2.2 != -1 then true else decide ((Xz O (ns.getD 0 Jb)).2.2.2.1.2≤vs.getD 0 0)) then 23 else 0
def J4x:Con:={args:=[Ja1,aEv],ress:=[I],owns:=[],pre:=fun(r,e,_)=>[Jj r,1≤e.2.2.1.length,1≤e.2.2.2.1.length,0≤Ku r.2.2.2.1 (e.2.2.1.getD 0 Jb)],spec:=fun((tk,st,S,O,M,X,Q),(n,k,ns,vs,tx),_)=>(Jcg O ns vs,())}
def Z55 (a:Li):=1≤List.length a
def Ki8 (a:Ls) (b:List Ord):=T2 (Z95 a) (Z57 b∧0≤Jp3 b a)
def Kwx (a:List Ord) (b:Ls):=(J6q a b).2.2 !=Z67
theorem Kor [Sx.Dr]:Ok Tryz.prog 159 J4x:=okW W66 Tryz.f159 na fun xx=>by
 obtain⟨⟨(tk:Int),(st:Int),(S:List Sta),(O:List Ord),(M:List Met),(X:List Out),(Q:List Per)⟩,⟨(n:Int),(k:ByteArray),(ns:List ByteArray),(vs:List Int),(tx:ByteArray)⟩,_⟩:=xx
 refine(by kernel_rfl:(Jw tk st S O M X Q→Y2 ns→Z55 vs→Jsd O ns→Ki8 ns O∧Tw (Kwx O ns=false→Z27 vs)∧(bif bif Kwx O ns then true else decide ((J90 O ns).2≤Z85 vs) then 23 else 0)=Jcg O ns vs)=_).mp ?_
 delta Z27 Z55 Z57 Z60 Z67 Z85 Z95 U0 Lq Y2 Jw J6u Jp3 J93 J90 J6q Jsd Ki8 Kwx Bd T2 Tw Ln B0
 intro hr h1 h2 h3
 have nO:O.length≤32:=hr.nO
 repeat' first|assumption|exact rfl|trivial|omega|apply And.intro|intro _
abbrev W67 [Sx.Dr]:=W66.add Kor
def Jg4 (S:List Sta) (e:Ev):Int:=Je [Zf e,bif decide ((Hg S (e.2.2.1.getD 1 Jb)).2.1≤e.2.2.2.1.getD 3 0) then 3 else 0]
def Jbu (S:List Sta) (O:List Ord) (X:List Out) (e:Ev):Int:=if Jg4 S e≠0 then Jg4 S e else Je [bif Hb (Vr e) (fun h=>decide (e.2.2.2.1.getD 3 0<U9 O (e.2.2.1.getD 1 Jb) h)) then 24 else 0,bif decide ((16:Int)≤X.length) then 5 else 0]
def Kck:Con:={args:=[Ja1,aEv],ress:=[I],owns:=[],pre:=fun(r,e,_)=>[Jj r,EvV e,e.2.2.1.length=2,e.2.2.2.1.length=4,0≤J0 r.2.2.1 (e.2.2.1.getD 1 Jb)],spec:=fun((tk,st,S,O,M,X,Q),(n,k,ns,vs,tx),_)=>(Jbu S O X (n,k,ns,vs,tx),())}
def Jp6 (a:Ls):=List.length a=2
def Kv2 (a:Int) (b:Bt) (c:Ls) (d:Li) (e:Bt) (f:List Sta):=Je [Zf (a,b,c,d,e),bif decide ((Hg f (Z86 c)).2.1≤Ja5 d) then 3 else 0]
theorem Kop [Sx.Dr]:Ok Tryz.prog 161 Kck:=okW W67 Tryz.f161 na fun xx=>by
 obtain⟨⟨(tk:Int),(st:Int),(S:List Sta),(O:List Ord),(M:List Met),(X:List Out),(Q:List Per)⟩,⟨(n:Int),(k:ByteArray),(ns:List ByteArray),(vs:List Int),(tx:ByteArray)⟩,_⟩:=xx
 refine(by kernel_rfl:(Jw tk st S O M X Q→EvV (n,k,ns,vs,tx)→Jp6 ns→Z49 vs→J9u S ns→T2 (Z90 ns) (Z97 vs)∧(Z47 vs∧EvV (n,k,ns,vs,tx)∧Z46 S∧J2k S ns∧2≤1000000)∧Br (Kv2 n k ns vs tx S !=0) (Kv2 n k ns vs tx S=Jbu S O X (n,k,ns,vs,tx)) ((Z47 vs∧(0≤(Z52 n k ns vs tx).1∧(Z52 n k ns vs tx).1≤999999999)∧(0≤(Z52 n k ns vs tx).2∧(Z52 n k ns vs tx).2≤999999999)∧∀(h:Int),(Z52 n k ns vs tx).1≤h→h<(Z52 n k ns vs tx).2→Jw tk st S O M X Q)∧2≤1000000∧Je [bif Hb (E2 (Z52 n k ns vs tx)) fun(h:Int)=>decide (Ja5 vs<U9 O (Z86 ns) h) then 24 else 0,bif decide (16≤Ln X) then 5 else 0]=Jbu S O X (n,k,ns,vs,tx)))=_).mp ?_
 delta Z24 Z46 Z47 Z49 Z52 Z60 Z86 Z90 Z97 Ja5 Jp6 Jji Jw Jxy J2k J9u Kv2 Br Bd T2 Tw Ln B0 E2
 intro hr hv hn hl h1
 have sp:(0≤(Vr (n,k,ns,vs,tx)).1∧(Vr (n,k,ns,vs,tx)).1≤999999999)∧0≤(Vr (n,k,ns,vs,tx)).2∧(Vr (n,k,ns,vs,tx)).2≤999999999:=⟨hv (vs.getD 1 0) (Jd (show 1<vs.length by omega)),hv (vs.getD 2 0) (Jd (show 2<vs.length by omega))⟩
 have nS:S.length≤6:=hr.nS
 refine⟨by omega,⟨by omega,hv,by omega,h1,by omega⟩,fun h=> ?_,fun h=>⟨⟨by omega,sp.1,sp.2,fun _ _ _=>hr⟩,by omega, ?_⟩⟩
 ·have h:Jg4 S (n,k,ns,vs,tx)≠0:=bne_iff_ne.1 h
  unfold Jbu;rw[if_pos h];rfl
 ·have h:¬Jg4 S (n,k,ns,vs,tx)≠0:=by have:=bne_eq_false_iff_eq.1 h;exact fun f=>f this
  unfold Jbu;rw[if_neg h];rfl
abbrev W68 [Sx.Dr]:=W67.add Kop
def Jch (X:List Out) (Q:List Per) (ns:List ByteArray) (vs:List Int):Int:=Je [bif decide (vs.getD 0 0≤(Lu X (ns.getD 0 Jb)).2.2.1.1) then 21 else 0,bif decide ((Lu X (ns.getD 0 Jb)).2.2.1.2≤vs.getD 0 0) then 23 else 0,bif decide ((0:Int)<((Lv Q).filter fun p=>p.2.1.toList==(Lu X (ns.getD 0 Jb)).1.toList).length) then 32 else 0]
def J4z:Con:={args:=[Ja1,aEv],ress:=[I],owns:=[],pre:=fun(r,e,_)=>[Jj r,1≤e.2.2.1.length,1≤e.2.2.2.1.length,0≤J5 r.2.2.2.2.2.1 (e.2.2.1.getD 0 Jb)],spec:=fun((tk,st,S,O,M,X,Q),(n,k,ns,vs,tx),_)=>(Jch X Q ns vs,())}
def Kaa (a:List Out) (b:Ls):=Lu a (U0 b)
def Jsg (a:List Out) (b:Ls):=J5 a (U0 b)
def J0o (a:List Out) (b:Ls):=0≤J5 a (Lq b)
def Ki7 (a:Ls) (b:List Out):=T2 (Z95 a) (Z43 b∧0≤Jsg b a)
def Kh2 (a b:Int) (c:List Sta) (d:List Ord) (e:List Met) (f:List Out) (g:List Per):=Jw a b c d e f g∧List.length (Lv g)≤1000000∧∀(x:Per),x∈Lv g→True
theorem Kom [Sx.Dr]:Ok Tryz.prog 164 J4z:=okW W68 Tryz.f164 na fun xx=>by
 obtain⟨⟨(tk:Int),(st:Int),(S:List Sta),(O:List Ord),(M:List Met),(X:List Out),(Q:List Per)⟩,⟨(n:Int),(k:ByteArray),(ns:List ByteArray),(vs:List Int),(tx:ByteArray)⟩,_⟩:=xx
 refine(by kernel_rfl:(Jw tk st S O M X Q→Y2 ns→Z55 vs→J0o X ns→Ki7 ns X∧Kh2 tk st S O M X Q∧T2 (Z27 vs) (T2 (Z27 vs) (3≤1000000))∧Je [bif decide (Z85 vs≤(Kaa X ns).2.2.1.1) then 21 else 0,bif decide ((Kaa X ns).2.2.1.2≤Z85 vs) then 23 else 0,bif decide (0<Ln (List.filter (fun(x:Per)=>List.beq (ByteArray.toList x.2.1) (ByteArray.toList (Kaa X ns).1)) (Lv Q))) then 32 else 0]=Jch X Q ns vs)=_).mp ?_
 delta Z27 Z43 Z55 Z60 Z85 Z95 U0 Lq Y2 Jw Kaa Jsg J0o Ki7 Kh2 Bd T2 Ln B0
 intro hr h1 h2 h3
 have nX:X.length≤16:=hr.nX
 have nQ:Q.length≤16:=hr.nQ
 have:=Jc5 (Q:=Q)
 refine⟨⟨by omega,by omega,by omega,h3⟩,⟨hr,by omega,fun _ _=>trivial⟩,by omega,rfl⟩
abbrev W69 [Sx.Dr]:=W68.add Kom
def Jci (X:List Out) (Q:List Per) (ns:List ByteArray) (vs:List Int):Int:=Je [bif !Kn (Lu X (ns.getD 1 Jb)).2.2.1 (vs.getD 0 0) then 22 else 0,bif decide ((16:Int)≤Q.length) then 5 else 0]
def J40:Con:={args:=[Ja1,aEv],ress:=[I],owns:=[],pre:=fun(r,e,_)=>[Jj r,2≤e.2.2.1.length,1≤e.2.2.2.1.length,0≤J5 r.2.2.2.2.2.1 (e.2.2.1.getD 1 Jb)],spec:=fun((tk,st,S,O,M,X,Q),(n,k,ns,vs,tx),_)=>(Jci X Q ns vs,())}
def Jx1 (a:Ls):=2≤List.length a
theorem Kok [Sx.Dr]:Ok Tryz.prog 166 J40:=okW W69 Tryz.f166 na fun xx=>by
 obtain⟨⟨(tk:Int),(st:Int),(S:List Sta),(O:List Ord),(M:List Met),(X:List Out),(Q:List Per)⟩,⟨(n:Int),(k:ByteArray),(ns:List ByteArray),(vs:List Int),(tx:ByteArray)⟩,_⟩:=xx
 refine(by kernel_rfl:(Jw tk st S O M X Q→Jx1 ns→Z55 vs→0≤J5 X (Jji ns)→T2 (Z90 ns) (Z43 X∧0≤J5 X (Z86 ns)∧T2 (Z27 vs) (2≤1000000))∧Je [bif !Kn (E2 (Lu X (Z86 ns)).2.2.1) (Z85 vs) then 22 else 0,bif decide (16≤Ln Q) then 5 else 0]=Jci X Q ns vs)=_).mp ?_
 delta Z27 Z43 Z55 Z60 Z85 Z86 Z90 Jx1 Jji Jw Bd T2 Ln B0 E2
 intro hr h1 h2 h3
 have nX:X.length≤16:=hr.nX
 repeat' first|assumption|exact rfl|trivial|omega|apply And.intro|intro _
abbrev W70 [Sx.Dr]:=W69.add Kok
def Jnj (Q:List Per) (ns:List ByteArray):Int:=bif !(Jlw Q (ns.getD 0 Jb)).2.2 then 23 else 0
def Kci:Con:={args:=[Ja1,aEv],ress:=[I],owns:=[],pre:=fun(r,e,_)=>[Jj r,1≤e.2.2.1.length,0≤Uz r.2.2.2.2.2.2 (e.2.2.1.getD 0 Jb)],spec:=fun((tk,st,S,O,M,X,Q),(n,k,ns,vs,tx),_)=>(Jnj Q ns,())}
def Jrr (a:List Per) (b:Ls):=Uz a (U0 b)
def J0n (a:List Per) (b:Ls):=0≤Uz a (Lq b)
theorem Koh [Sx.Dr]:Ok Tryz.prog 169 Kci:=okW W70 Tryz.f169 na fun xx=>by
 obtain⟨⟨(tk:Int),(st:Int),(S:List Sta),(O:List Ord),(M:List Met),(X:List Out),(Q:List Per)⟩,⟨(n:Int),(k:ByteArray),(ns:List ByteArray),(vs:List Int),(tx:ByteArray)⟩,_⟩:=xx
 refine(by kernel_rfl:(Jw tk st S O M X Q→Y2 ns→J0n Q ns→T2 (Z95 ns) (Z44 Q∧0≤Jrr Q ns)∧(bif !(Jlw Q (U0 ns)).2.2 then 23 else 0)=Jnj Q ns)=_).mp ?_
 delta Z44 Z60 Z95 U0 Lq Y2 Jw Jrr J0n Bd T2 Ln B0
 intro hr h1 h3
 have nQ:Q.length≤16:=hr.nQ
 repeat' first|assumption|exact rfl|trivial|omega|apply And.intro|intro _
abbrev W71 [Sx.Dr]:=W70.add Koh
def Lm (st:Int) (O:List Ord) (M:List Met) (X:List Out) (Q:List Per) (vs:List Int):Int:=bif (bif decide (vs.getD 1 0≤st) then true else decide (vs.getD 0 0<vs.getD 1 0)) then 14 else bif (bif decide ((0:Int)<(Km M (vs.getD 1 0) O).length) then true else decide ((0:Int)<((Lv Q).filter fun p=>decide ((Lu X p.2.1).2.2.1.2≤vs.getD 1 0)).length)) then 32 else 0
def J4y:Con:={args:=[Ja1,aEv],ress:=[I],owns:=[],pre:=fun(r,e,_)=>[Jj r,2≤e.2.2.2.1.length],spec:=fun((tk,st,S,O,M,X,Q),(n,k,ns,vs,tx),_)=>(Lm st O M X Q vs,())}
def Kf0 (a:Li) (b:Int):=decide (Z89 a≤b)
def Kj7 (a:Li) (b:Int):=Tw (Kf0 a b=false→Z27 a)
def Kim (a:Li) (b:Int):=bif Kf0 a b then true else decide (Z85 a<Z89 a)
theorem Kof [Sx.Dr]:Ok Tryz.prog 171 J4y:=okW W71 Tryz.f171 na fun xx=>by
 obtain⟨⟨(tk:Int),(st:Int),(S:List Sta),(O:List Ord),(M:List Met),(X:List Out),(Q:List Per)⟩,⟨(n:Int),(k:ByteArray),(ns:List ByteArray),(vs:List Int),(tx:ByteArray)⟩,_⟩:=xx
 refine(by kernel_rfl:(Jw tk st S O M X Q→Z45 vs→Z84 vs∧Kj7 vs st∧Br (Kim vs st) (14=Lm st O M X Q vs) ((Jw tk st S O M X Q∧List.length (Lv Q)≤1000000∧∀(x:Per),x∈Lv Q→Jw tk st S O M X Q∧0≤J5 X x.2.1)∧Jw tk st S O M X Q∧(bif bif decide (0<Ln (Km M (Z89 vs) O)) then true else decide (0<Ln (List.filter (fun(x:Per)=>decide ((Lu X x.2.1).2.2.1.2≤Z89 vs)) (Lv Q))) then 32 else 0)=Lm st O M X Q vs))=_).mp ?_
 delta Z27 Z30 Z45 Z60 Z84 Z85 Z89 Jw Kf0 Kj7 Kim Br Bd Tw Ln
 intro hr h1
 have nQ:Q.length≤16:=hr.nQ
 have:=Jc5 (Q:=Q)
 refine⟨by omega,⟨fun _=>by omega,fun _=>by omega⟩,fun h=> ?_,fun h=>⟨⟨hr,by omega,fun x hx=>⟨hr,hr.per x (Jko hx)⟩⟩,hr, ?_⟩⟩
 ·unfold Lm;rw[h];rfl
 ·unfold Lm;rw[h];rfl
abbrev W72 [Sx.Dr]:=W71.add Kof
abbrev Jxi (pre:Reg→Ev→List Prop) (post:Reg→Ev→Reg):Xu:={T? :=some 105,s:=Jfw,args:=[aEv],ress:=[],pre:=fun r (e,_)=>pre r e,spec:=fun _ _=>(),post:=fun r (e,_)=>post r e}
def Fq (O:List Ord) (s:ByteArray) (v:Int):List Ord:=O.set (Ku O s).toNat ((Xz O s).1,(Xz O s).2.1,(Xz O s).2.2.1,(Xz O s).2.2.2.1,(Xz O s).2.2.2.2.1,(Xz O s).2.2.2.2.2.1,v)
def Jds (X:List Out) (s:ByteArray) (v:Int):List Out:=X.set (J5 X s).toNat ((Lu X s).1,(Lu X s).2.1,((Lu X s).2.2.1.1,v),(Lu X s).2.2.2)
def Fr (Q:List Per) (s:ByteArray):List Per:=Q.set (Uz Q s).toNat ((Jlw Q s).1,(Jlw Q s).2.1,false)
def Jaq:Reg→Ev→Reg:=fun(tk,st,S,O,M,X,Q) (n,k,ns,vs,tx)=>(tk,st,S++[(ns.getD 0 Jb,vs.getD 1 0,0)],O,M,X,Q)
def Jvn:Xu:=Jxi (fun r e=>[Jj r,1≤e.2.2.1.length,2≤e.2.2.2.1.length]) Jaq
def Kj6 (a:List Sta) (b:Ls) (c:Li):=a++[(U0 b,Z89 c,0)]
def Kjb (a:Ls) (b:Li) (c:List Sta):=T2 (Z95 a) (T2 (Z30 b) ((List.length c+1)*32≤140737488355328))
theorem Kme [Sx.Dr] (tk st:Int) (S:List Sta) (O:List Ord) (M:List Met) (X:List Out) (Q:List Per) (n:Int) (k:ByteArray) (ns:List ByteArray) (vs:List Int) (tx:ByteArray):wpFO Tryz.prog W72.g (na ()) (fun _=>na ()) (Sx.look ([]:List (Nat×Func))) Tryz.f149 Jvn 105 (tk,st,S,O,M,X,Q) ((n,k,ns,vs,tx),()):=by
 refine(by kernel_rfl:(Jw tk st S O M X Q→Y2 ns→Z45 vs→Kjb ns vs S∧Sf true (Sf 105 ((tk,st,Kj6 S ns vs,O,M,X,Q)=Jaq (Z60 tk st S O M X Q) (n,k,ns,vs,tx))))=_).mp ?_
 delta Z30 Z45 Z60 Z89 Z95 U0 Y2 Jw Kj6 Kjb Bd T2 Sf Ln B0
 intro hr
 have nS:S.length≤6:=hr.nS
 have nO:O.length≤32:=hr.nO
 have nM:M.length≤10000:=hr.nM
 have nX:X.length≤16:=hr.nX
 have nQ:Q.length≤16:=hr.nQ
 intros
 repeat' first|assumption|exact rfl|trivial|omega|exact K1|exact Ux|exact Uq|exact Uw|apply And.intro|intro _
theorem Ko1 [Sx.Dr]:Ok Tryz.prog 149 (Xu.con Jvn):=X0 (Uc mixed W72.ok (by kernel_rfl) (by kernel_rfl) (Us (l:=([]:List (Nat×Func))) (by simp)) (fun xx yy=>na ()) (fun xx yy=>fun _=>na ()) fun T xx yy hT=>by obtain rfl:=hT _ rfl;exact Kme xx.1 xx.2.1 xx.2.2.1 xx.2.2.2.1 xx.2.2.2.2.1 xx.2.2.2.2.2.1 xx.2.2.2.2.2.2 yy.1.1 yy.1.2.1 yy.1.2.2.1 yy.1.2.2.2.1 yy.1.2.2.2.2)
abbrev W73 [Sx.Dr]:=W72.add Ko1
def Fe:Reg→Ev→Reg:=fun(tk,st,S,O,M,X,Q) (n,k,ns,vs,tx)=>(tk,st,S.set (J0 S (ns.getD 0 Jb)).toNat ((Hg S (ns.getD 0 Jb)).1,(Hg S (ns.getD 0 Jb)).2.1,vs.getD 1 0),O,M,X,Q)
def Jvk:Xu:=Jxi (fun r e=>[Jj r,1≤e.2.2.1.length,2≤e.2.2.2.1.length,0≤J0 r.2.2.1 (e.2.2.1.getD 0 Jb)]) Fe
def J2v (a:List Sta) (b:Ls):=J0 a (U0 b)
def K0p (a:List Sta) (b:Ls):=Gt a (J2v a b) Z12
theorem Kmd [Sx.Dr] (tk st:Int) (S:List Sta) (O:List Ord) (M:List Met) (X:List Out) (Q:List Per) (n:Int) (k:ByteArray) (ns:List ByteArray) (vs:List Int) (tx:ByteArray):wpFO Tryz.prog W73.g (na ()) (fun _=>na ()) (Sx.look ([]:List (Nat×Func))) Tryz.f153 Jvk 105 (tk,st,S,O,M,X,Q) ((n,k,ns,vs,tx),()):=by
 refine(by kernel_rfl:(Jw tk st S O M X Q→Y2 ns→Z45 vs→0≤J0 S (Lq ns)→T2 (Z95 ns) (Z46 S∧T2 (Z30 vs) (Tw (Bd (J2v S ns) (Ln S))))∧Sf true (Sf 105 ((tk,st,List.set S (Int.toNat (J2v S ns)) ((K0p S ns).1,(K0p S ns).2.1,Z89 vs),O,M,X,Q)=Fe (Z60 tk st S O M X Q) (n,k,ns,vs,tx))))=_).mp ?_
 delta Z12 Z30 Z45 Z46 Z60 Z89 Z95 U0 Lq Y2 Jw J2v K0p Bd T2 Tw Sf Ln Gt B0
 intro hr
 have nS:S.length≤6:=hr.nS
 have nO:O.length≤32:=hr.nO
 have nM:M.length≤10000:=hr.nM
 have nX:X.length≤16:=hr.nX
 have nQ:Q.length≤16:=hr.nQ
 intros
 repeat' first|assumption|exact rfl|trivial|omega|exact K1|exact Ux|exact Uq|exact Uw|apply And.intro|intro _
theorem Kox [Sx.Dr]:Ok Tryz.prog 153 (Xu.con Jvk):=X0 (Uc mixed W73.ok (by kernel_rfl) (by kernel_rfl) (Us (l:=([]:List (Nat×Func))) (by simp)) (fun xx yy=>na ()) (fun xx yy=>fun _=>na ()) fun T xx yy hT=>by obtain rfl:=hT _ rfl;exact Kmd xx.1 xx.2.1 xx.2.2.1 xx.2.2.2.1 xx.2.2.2.2.1 xx.2.2.2.2.2.1 xx.2.2.2.2.2.2 yy.1.1 yy.1.2.1 yy.1.2.2.1 yy.1.2.2.2.1 yy.1.2.2.2.2)
abbrev W74 [Sx.Dr]:=W73.add Kox
def Fi:Reg→Ev→Reg:=fun(tk,st,S,O,M,X,Q) (n,k,ns,vs,tx)=>(tk,st,S,O++[(ns.getD 0 Jb,ns.getD 1 Jb,ns.getD 2 Jb,Vr (n,k,ns,vs,tx),vs.getD 3 0,(Hg S (ns.getD 1 Jb)).2.2,-1)],M,X,Q)
def Jvp:Xu:=Jxi (fun r e=>[Jj r,e.2.2.1.length=3,e.2.2.2.1.length=4,0≤J0 r.2.2.1 (e.2.2.1.getD 1 Jb)]) Fi
theorem Kmc [Sx.Dr] (tk st:Int) (S:List Sta) (O:List Ord) (M:List Met) (X:List Out) (Q:List Per) (n:Int) (k:ByteArray) (ns:List ByteArray) (vs:List Int) (tx:ByteArray):wpFO Tryz.prog W74.g (na ()) (fun _=>na ()) (Sx.look ([]:List (Nat×Func))) Tryz.f155 Jvp 105 (tk,st,S,O,M,X,Q) ((n,k,ns,vs,tx),()):=by
 refine(by kernel_rfl:(Jw tk st S O M X Q→Jsi ns→Z49 vs→J9u S ns→T2 (Z95 ns) (T2 (Z90 ns) (T2 (J2y ns) (Z47 vs∧T2 (Z24 vs) (T2 (Z90 ns) (Z46 S∧J2k S ns∧(List.length O+1)*88≤140737488355328)))))∧Sf true (Sf 105 ((tk,st,S,O++[(U0 ns,Z86 ns,Z93 ns,E2 (Z52 n k ns vs tx),Ja5 vs,(Hg S (Z86 ns)).2.2,Z67)],M,X,Q)=Fi (Z60 tk st S O M X Q) (n,k,ns,vs,tx))))=_).mp ?_
 delta Z24 Z46 Z47 Z49 Z52 Z60 Z67 Z86 Z90 Z93 Z95 Ja5 U0 J2y Jji Jsi Jw Jxy J2k J9u Bd T2 Sf Ln B0 E2
 intro hr
 have nS:S.length≤6:=hr.nS
 have nO:O.length≤32:=hr.nO
 have nM:M.length≤10000:=hr.nM
 have nX:X.length≤16:=hr.nX
 have nQ:Q.length≤16:=hr.nQ
 intros
 repeat' first|assumption|exact rfl|trivial|omega|exact K1|exact Ux|exact Uq|exact Uw|apply And.intro|intro _
theorem Kov [Sx.Dr]:Ok Tryz.prog 155 (Xu.con Jvp):=X0 (Uc mixed W74.ok (by kernel_rfl) (by kernel_rfl) (Us (l:=([]:List (Nat×Func))) (by simp)) (fun xx yy=>na ()) (fun xx yy=>fun _=>na ()) fun T xx yy hT=>by obtain rfl:=hT _ rfl;exact Kmc xx.1 xx.2.1 xx.2.2.1 xx.2.2.2.1 xx.2.2.2.2.1 xx.2.2.2.2.2.1 xx.2.2.2.2.2.2 yy.1.1 yy.1.2.1 yy.1.2.2.1 yy.1.2.2.2.1 yy.1.2.2.2.2)
abbrev W75 [Sx.Dr]:=W74.add Kov
def Fj:Reg→Ev→Reg:=fun(tk,st,S,O,M,X,Q) (n,k,ns,vs,tx)=>(tk,st,S,O,M++[(ns.getD 0 Jb,vs.getD 1 0,vs.getD 2 0,vs.getD 3 0)],X,Q)
def Jvq:Xu:=Jxi (fun r e=>[Jj r,1≤e.2.2.1.length,4≤e.2.2.2.1.length]) Fj
def Kjw (a:Li):=(Z89 a,Z81 a,Ja5 a)
def Kib (a:Li) (b:List Met):=T2 (Z30 a) (T2 (Z23 a) (T2 (Z24 a) ((List.length b+1)*40≤140737488355328)))
theorem Kmb [Sx.Dr] (tk st:Int) (S:List Sta) (O:List Ord) (M:List Met) (X:List Out) (Q:List Per) (n:Int) (k:ByteArray) (ns:List ByteArray) (vs:List Int) (tx:ByteArray):wpFO Tryz.prog W75.g (na ()) (fun _=>na ()) (Sx.look ([]:List (Nat×Func))) Tryz.f158 Jvq 105 (tk,st,S,O,M,X,Q) ((n,k,ns,vs,tx),()):=by
 refine(by kernel_rfl:(Jw tk st S O M X Q→Y2 ns→Z54 vs→T2 (Z95 ns) (Kib vs M)∧Sf true (Sf 105 ((tk,st,S,O,M++[(U0 ns,Kjw vs)],X,Q)=Fj (Z60 tk st S O M X Q) (n,k,ns,vs,tx))))=_).mp ?_
 delta Z23 Z24 Z30 Z54 Z60 Z81 Z89 Z95 Ja5 U0 Y2 Jw Kjw Kib Bd T2 Sf Ln B0
 intro hr
 have nS:S.length≤6:=hr.nS
 have nO:O.length≤32:=hr.nO
 have nM:M.length≤10000:=hr.nM
 have nX:X.length≤16:=hr.nX
 have nQ:Q.length≤16:=hr.nQ
 intros
 repeat' first|assumption|exact rfl|trivial|omega|exact K1|exact Ux|exact Uq|exact Uw|apply And.intro|intro _
theorem Kos [Sx.Dr]:Ok Tryz.prog 158 (Xu.con Jvq):=X0 (Uc mixed W75.ok (by kernel_rfl) (by kernel_rfl) (Us (l:=([]:List (Nat×Func))) (by simp)) (fun xx yy=>na ()) (fun xx yy=>fun _=>na ()) fun T xx yy hT=>by obtain rfl:=hT _ rfl;exact Kmb xx.1 xx.2.1 xx.2.2.1 xx.2.2.2.1 xx.2.2.2.2.1 xx.2.2.2.2.2.1 xx.2.2.2.2.2.2 yy.1.1 yy.1.2.1 yy.1.2.2.1 yy.1.2.2.2.1 yy.1.2.2.2.2)
abbrev W76 [Sx.Dr]:=W75.add Kos
def Fd:Reg→Ev→Reg:=fun(tk,st,S,O,M,X,Q) (n,k,ns,vs,tx)=>(tk,st,S,Fq O (ns.getD 0 Jb) (vs.getD 0 0),M,X,Q)
def Jvi:Xu:=Jxi (fun r e=>[Jj r,1≤e.2.2.1.length,1≤e.2.2.2.1.length,0≤Ku r.2.2.2.1 (e.2.2.1.getD 0 Jb)]) Fd
def Kxn (a:List Ord) (b:Ls):=Gt a (Jp3 a b) Jdh
def Kxc (a:List Ord) (b:Ls):=(Kxn a b).2
def Kxa (a:List Ord) (b:Ls):=(Kxc a b).2
def Kw6 (a:List Ord) (b:Ls):=(Kxa a b).2
def Kw2 (a:List Ord) (b:Ls):=(Kw6 a b).2
theorem Kma [Sx.Dr] (tk st:Int) (S:List Sta) (O:List Ord) (M:List Met) (X:List Out) (Q:List Per) (n:Int) (k:ByteArray) (ns:List ByteArray) (vs:List Int) (tx:ByteArray):wpFO Tryz.prog W76.g (na ()) (fun _=>na ()) (Sx.look ([]:List (Nat×Func))) Tryz.f160 Jvi 105 (tk,st,S,O,M,X,Q) ((n,k,ns,vs,tx),()):=by
 refine(by kernel_rfl:(Jw tk st S O M X Q→Y2 ns→Z55 vs→Jsd O ns→T2 (Z95 ns) (Z57 O∧T2 (Z27 vs) (Tw (Bd (Jp3 O ns) (Ln O))))∧Sf true (Sf 105 ((tk,st,S,List.set O (Int.toNat (Jp3 O ns)) ((Kxn O ns).1,(Kxc O ns).1,(Kxa O ns).1,E2 (Kw6 O ns).1,(Kw2 O ns).1,(Kw2 O ns).2.1,Z85 vs),M,X,Q)=Fd (Z60 tk st S O M X Q) (n,k,ns,vs,tx))))=_).mp ?_
 delta Z27 Z55 Z57 Z60 Z66 Z85 Z95 U0 Lq Y2 Jw Jp3 Jsd Jdh Kxn Kxc Kxa Kw6 Kw2 Bd T2 Tw Sf Ln Gt B0 E2
 intro hr
 have nS:S.length≤6:=hr.nS
 have nO:O.length≤32:=hr.nO
 have nM:M.length≤10000:=hr.nM
 have nX:X.length≤16:=hr.nX
 have nQ:Q.length≤16:=hr.nQ
 intros
 repeat' first|assumption|exact rfl|trivial|omega|exact K1|exact Ux|exact Uq|exact Uw|apply And.intro|intro _
theorem Koq [Sx.Dr]:Ok Tryz.prog 160 (Xu.con Jvi):=X0 (Uc mixed W76.ok (by kernel_rfl) (by kernel_rfl) (Us (l:=([]:List (Nat×Func))) (by simp)) (fun xx yy=>na ()) (fun xx yy=>fun _=>na ()) fun T xx yy hT=>by obtain rfl:=hT _ rfl;exact Kma xx.1 xx.2.1 xx.2.2.1 xx.2.2.2.1 xx.2.2.2.2.1 xx.2.2.2.2.2.1 xx.2.2.2.2.2.2 yy.1.1 yy.1.2.1 yy.1.2.2.1 yy.1.2.2.2.1 yy.1.2.2.2.2)
abbrev W77 [Sx.Dr]:=W76.add Koq
def Fg:Reg→Ev→Reg:=fun(tk,st,S,O,M,X,Q) (n,k,ns,vs,tx)=>(tk,st,S,O,M,X++[(ns.getD 0 Jb,ns.getD 1 Jb,Vr (n,k,ns,vs,tx),vs.getD 3 0)],Q)
def Jvm:Xu:=Jxi (fun r e=>[Jj r,e.2.2.1.length=2,e.2.2.2.1.length=4]) Fg
def Kko (a:Li) (b:List Out):=T2 (Z24 a) ((List.length b+1)*56≤140737488355328)
theorem Kl9 [Sx.Dr] (tk st:Int) (S:List Sta) (O:List Ord) (M:List Met) (X:List Out) (Q:List Per) (n:Int) (k:ByteArray) (ns:List ByteArray) (vs:List Int) (tx:ByteArray):wpFO Tryz.prog W77.g (na ()) (fun _=>na ()) (Sx.look ([]:List (Nat×Func))) Tryz.f162 Jvm 105 (tk,st,S,O,M,X,Q) ((n,k,ns,vs,tx),()):=by
 refine(by kernel_rfl:(Jw tk st S O M X Q→Jp6 ns→Z49 vs→T2 (Z95 ns) (T2 (Z90 ns) (Z47 vs∧Kko vs X))∧Sf true (Sf 105 ((tk,st,S,O,M,X++[(U0 ns,Z86 ns,E2 (Z52 n k ns vs tx),Ja5 vs)],Q)=Fg (Z60 tk st S O M X Q) (n,k,ns,vs,tx))))=_).mp ?_
 delta Z24 Z47 Z49 Z52 Z60 Z86 Z90 Z95 Ja5 U0 Jp6 Jw Kko Bd T2 Sf Ln B0 E2
 intro hr
 have nS:S.length≤6:=hr.nS
 have nO:O.length≤32:=hr.nO
 have nM:M.length≤10000:=hr.nM
 have nX:X.length≤16:=hr.nX
 have nQ:Q.length≤16:=hr.nQ
 intros
 repeat' first|assumption|exact rfl|trivial|omega|exact K1|exact Ux|exact Uq|exact Uw|apply And.intro|intro _
theorem Koo [Sx.Dr]:Ok Tryz.prog 162 (Xu.con Jvm):=X0 (Uc mixed W77.ok (by kernel_rfl) (by kernel_rfl) (Us (l:=([]:List (Nat×Func))) (by simp)) (fun xx yy=>na ()) (fun xx yy=>fun _=>na ()) fun T xx yy hT=>by obtain rfl:=hT _ rfl;exact Kl9 xx.1 xx.2.1 xx.2.2.1 xx.2.2.2.1 xx.2.2.2.2.1 xx.2.2.2.2.2.1 xx.2.2.2.2.2.2 yy.1.1 yy.1.2.1 yy.1.2.2.1 yy.1.2.2.2.1 yy.1.2.2.2.2)
abbrev W78 [Sx.Dr]:=W77.add Koo
def Ff:Reg→Ev→Reg:=fun(tk,st,S,O,M,X,Q) (n,k,ns,vs,tx)=>(tk,st,S,O,M,Jds X (ns.getD 0 Jb) (vs.getD 0 0),Q)
def Jvl:Xu:=Jxi (fun r e=>[Jj r,1≤e.2.2.1.length,1≤e.2.2.2.1.length,0≤J5 r.2.2.2.2.2.1 (e.2.2.1.getD 0 Jb)]) Ff
def Kzy (a:List Out) (b:Ls):=Gt a (Jsg a b) Jcw
def Kzw (a:List Out) (b:Ls):=(Kzy a b).2
def Kzu (a:List Out) (b:Ls):=(Kzw a b).2
theorem Kl8 [Sx.Dr] (tk st:Int) (S:List Sta) (O:List Ord) (M:List Met) (X:List Out) (Q:List Per) (n:Int) (k:ByteArray) (ns:List ByteArray) (vs:List Int) (tx:ByteArray):wpFO Tryz.prog W78.g (na ()) (fun _=>na ()) (Sx.look ([]:List (Nat×Func))) Tryz.f165 Jvl 105 (tk,st,S,O,M,X,Q) ((n,k,ns,vs,tx),()):=by
 refine(by kernel_rfl:(Jw tk st S O M X Q→Y2 ns→Z55 vs→J0o X ns→T2 (Z95 ns) (Z43 X∧T2 (Z27 vs) (Tw (Bd (Jsg X ns) (Ln X))))∧Sf true (Sf 105 ((tk,st,S,O,M,List.set X (Int.toNat (Jsg X ns)) ((Kzy X ns).1,(Kzw X ns).1,((Kzu X ns).1.1,Z85 vs),(Kzu X ns).2),Q)=Ff (Z60 tk st S O M X Q) (n,k,ns,vs,tx))))=_).mp ?_
 delta Z27 Z43 Z55 Z60 Z85 Z95 U0 Lq Y2 Jw Jcw Jsg J0o Kzy Kzw Kzu Bd T2 Tw Sf Ln Gt B0
 intro hr
 have nS:S.length≤6:=hr.nS
 have nO:O.length≤32:=hr.nO
 have nM:M.length≤10000:=hr.nM
 have nX:X.length≤16:=hr.nX
 have nQ:Q.length≤16:=hr.nQ
 intros
 repeat' first|assumption|exact rfl|trivial|omega|exact K1|exact Ux|exact Uq|exact Uw|apply And.intro|intro _
theorem Kol [Sx.Dr]:Ok Tryz.prog 165 (Xu.con Jvl):=X0 (Uc mixed W78.ok (by kernel_rfl) (by kernel_rfl) (Us (l:=([]:List (Nat×Func))) (by simp)) (fun xx yy=>na ()) (fun xx yy=>fun _=>na ()) fun T xx yy hT=>by obtain rfl:=hT _ rfl;exact Kl8 xx.1 xx.2.1 xx.2.2.1 xx.2.2.2.1 xx.2.2.2.2.1 xx.2.2.2.2.2.1 xx.2.2.2.2.2.2 yy.1.1 yy.1.2.1 yy.1.2.2.1 yy.1.2.2.2.1 yy.1.2.2.2.2)
abbrev W79 [Sx.Dr]:=W78.add Kol
def Fh:Reg→Ev→Reg:=fun(tk,st,S,O,M,X,Q) (n,k,ns,vs,tx)=>(tk,st,S,O,M,X,Q++[(ns.getD 0 Jb,ns.getD 1 Jb,true)])
def Jvo:Xu:=Jxi (fun r e=>[Jj r,2≤e.2.2.1.length]) Fh
def Kj3 (a:List Out) (b:List Per) (c:Ls):=(a,b++[(U0 c,Z86 c,true)])
def Kiy (a:Ls) (b:List Per):=T2 (Z95 a) (T2 (Z90 a) ((List.length b+1)*40≤140737488355328))
theorem Kl7 [Sx.Dr] (tk st:Int) (S:List Sta) (O:List Ord) (M:List Met) (X:List Out) (Q:List Per) (n:Int) (k:ByteArray) (ns:List ByteArray) (vs:List Int) (tx:ByteArray):wpFO Tryz.prog W79.g (na ()) (fun _=>na ()) (Sx.look ([]:List (Nat×Func))) Tryz.f167 Jvo 105 (tk,st,S,O,M,X,Q) ((n,k,ns,vs,tx),()):=by
 refine(by kernel_rfl:(Jw tk st S O M X Q→Jx1 ns→Kiy ns Q∧Sf true (Sf 105 ((tk,st,S,O,M,Kj3 X Q ns)=Fh (Z60 tk st S O M X Q) (n,k,ns,vs,tx))))=_).mp ?_
 delta Z60 Z86 Z90 Z95 U0 Jx1 Jw Kj3 Kiy Bd T2 Sf Ln B0
 intro hr
 have nS:S.length≤6:=hr.nS
 have nO:O.length≤32:=hr.nO
 have nM:M.length≤10000:=hr.nM
 have nX:X.length≤16:=hr.nX
 have nQ:Q.length≤16:=hr.nQ
 intros
 repeat' first|assumption|exact rfl|trivial|omega|exact K1|exact Ux|exact Uq|exact Uw|apply And.intro|intro _
theorem Koj [Sx.Dr]:Ok Tryz.prog 167 (Xu.con Jvo):=X0 (Uc mixed W79.ok (by kernel_rfl) (by kernel_rfl) (Us (l:=([]:List (Nat×Func))) (by simp)) (fun xx yy=>na ()) (fun xx yy=>fun _=>na ()) fun T xx yy hT=>by obtain rfl:=hT _ rfl;exact Kl7 xx.1 xx.2.1 xx.2.2.1 xx.2.2.2.1 xx.2.2.2.2.1 xx.2.2.2.2.2.1 xx.2.2.2.2.2.2 yy.1.1 yy.1.2.1 yy.1.2.2.1 yy.1.2.2.2.1 yy.1.2.2.2.2)
abbrev W80 [Sx.Dr]:=W79.add Koj
def Jf6:Reg→Ev→Reg:=fun(tk,st,S,O,M,X,Q) (n,k,ns,vs,tx)=>(tk,st,S,O,M,X,Fr Q (ns.getD 0 Jb))
def J16:Xu:=Jxi (fun r e=>[Jj r,1≤e.2.2.1.length,0≤Uz r.2.2.2.2.2.2 (e.2.2.1.getD 0 Jb)]) Jf6
theorem Kl6 [Sx.Dr] (tk st:Int) (S:List Sta) (O:List Ord) (M:List Met) (X:List Out) (Q:List Per) (n:Int) (k:ByteArray) (ns:List ByteArray) (vs:List Int) (tx:ByteArray):wpFO Tryz.prog W80.g (na ()) (fun _=>na ()) (Sx.look ([]:List (Nat×Func))) Tryz.f170 J16 105 (tk,st,S,O,M,X,Q) ((n,k,ns,vs,tx),()):=by
 refine(by kernel_rfl:(Jw tk st S O M X Q→Y2 ns→J0n Q ns→T2 (Z95 ns) (Z44 Q∧Tw (Bd (Jrr Q ns) (Ln Q)))∧Sf true (Sf 105 ((tk,st,S,O,M,X,List.set Q (Int.toNat (Jrr Q ns)) ((Gt Q (Jrr Q ns) (B0,B0,false)).1,(Gt Q (Jrr Q ns) (B0,B0,false)).2.1,false))=Jf6 (Z60 tk st S O M X Q) (n,k,ns,vs,tx))))=_).mp ?_
 delta Z44 Z60 Z95 U0 Lq Y2 Jw Jrr J0n Bd T2 Tw Sf Ln Gt B0
 intro hr
 have nS:S.length≤6:=hr.nS
 have nO:O.length≤32:=hr.nO
 have nM:M.length≤10000:=hr.nM
 have nX:X.length≤16:=hr.nX
 have nQ:Q.length≤16:=hr.nQ
 intros
 repeat' first|assumption|exact rfl|trivial|omega|exact K1|exact Ux|exact Uq|exact Uw|apply And.intro|intro _
theorem Kog [Sx.Dr]:Ok Tryz.prog 170 (Xu.con J16):=X0 (Uc mixed W80.ok (by kernel_rfl) (by kernel_rfl) (Us (l:=([]:List (Nat×Func))) (by simp)) (fun xx yy=>na ()) (fun xx yy=>fun _=>na ()) fun T xx yy hT=>by obtain rfl:=hT _ rfl;exact Kl6 xx.1 xx.2.1 xx.2.2.1 xx.2.2.2.1 xx.2.2.2.2.1 xx.2.2.2.2.2.1 xx.2.2.2.2.2.2 yy.1.1 yy.1.2.1 yy.1.2.2.1 yy.1.2.2.2.1 yy.1.2.2.2.2)
abbrev W81 [Sx.Dr]:=W80.add Kog
def Jap:Reg→Ev→Reg:=fun(tk,st,S,O,M,X,Q) (n,k,ns,vs,tx)=>(tk,vs.getD 1 0,S,O,M,X,Q)
def Jvj:Xu:=Jxi (fun r e=>[Jj r,2≤e.2.2.2.1.length]) Jap
theorem Kl5 [Sx.Dr] (tk st:Int) (S:List Sta) (O:List Ord) (M:List Met) (X:List Out) (Q:List Per) (n:Int) (k:ByteArray) (ns:List ByteArray) (vs:List Int) (tx:ByteArray):wpFO Tryz.prog W81.g (na ()) (fun _=>na ()) (Sx.look ([]:List (Nat×Func))) Tryz.f172 Jvj 105 (tk,st,S,O,M,X,Q) ((n,k,ns,vs,tx),()):=by
 refine(by kernel_rfl:(Jw tk st S O M X Q→Z45 vs→Z84 vs∧Sf true (Sf 105 ((tk,Z89 vs,S,O,M,X,Q)=Jap (Z60 tk st S O M X Q) (n,k,ns,vs,tx))))=_).mp ?_
 delta Z30 Z45 Z60 Z84 Z89 Jw Bd Tw Sf Ln
 intro hr
 have nS:S.length≤6:=hr.nS
 have nO:O.length≤32:=hr.nO
 have nM:M.length≤10000:=hr.nM
 have nX:X.length≤16:=hr.nX
 have nQ:Q.length≤16:=hr.nQ
 intros
 repeat' first|assumption|exact rfl|trivial|omega|exact K1|exact Ux|exact Uq|exact Uw|apply And.intro|intro _
theorem Koe [Sx.Dr]:Ok Tryz.prog 172 (Xu.con Jvj):=X0 (Uc mixed W81.ok (by kernel_rfl) (by kernel_rfl) (Us (l:=([]:List (Nat×Func))) (by simp)) (fun xx yy=>na ()) (fun xx yy=>fun _=>na ()) fun T xx yy hT=>by obtain rfl:=hT _ rfl;exact Kl5 xx.1 xx.2.1 xx.2.2.1 xx.2.2.2.1 xx.2.2.2.2.1 xx.2.2.2.2.2.1 xx.2.2.2.2.2.2 yy.1.1 yy.1.2.1 yy.1.2.2.1 yy.1.2.2.2.1 yy.1.2.2.2.2)
abbrev W82 [Sx.Dr]:=W81.add Koe
end Go.Proofs.YtcibbcfiemeoiaaGreatDoor
namespace Go.Proofs.YtcibbcfiemeoiaaGreatDoor
instance drOff:Sx.Dr:=Sx.Dr.off
open Go.Sx
def Jck (T:TypeId) (s:Sch):Con:={args:=[.val false (.list T s)],ress:=[(false, .list T s)],owns:=[true],pre:=fun(l,_)=>[l.length≤1000000],spec:=fun(l,_)=>(l,())}
theorem Jkg {M:Nat→Prop} {w:World}:∀{xs:List Int} {flat:List Value},Ym (Rep M w (.int .i64)) xs flat→flat=xs.map (Value.int .i64)
 |[],_,h=>h
 |x::xs,_,⟨c1,c2,rfl,h1,h2⟩=>by
  have h1:c1=[.int .i64 x]:=h1
  rw[h1,Jkg h2];rfl
theorem Jok {M:Nat→Prop} {w:World}:∀(xs:List Int),Ym (Rep M w (.int .i64)) xs (xs.map (Value.int .i64))
 |[]=>rfl
 |x::xs=>⟨[.int .i64 x],xs.map (Value.int .i64),rfl,rfl,Jok xs⟩
theorem Jdz {M:Nat→Prop} {w:World}:∀{xs:List ByteArray} {flat:List Value},Ym (Rep M w .str) xs flat→flat=xs.map Value.string
 |[],_,h=>h
 |x::xs,_,⟨c1,c2,rfl,h1,h2⟩=>by
  have h1:c1=[.string x]:=h1
  rw[h1,Jdz h2];rfl
theorem Joj {M:Nat→Prop} {w:World}:∀(xs:List ByteArray),Ym (Rep M w .str) xs (xs.map Value.string)
 |[]=>rfl
 |x::xs=>⟨[.string x],xs.map Value.string,rfl,rfl,Joj xs⟩
theorem Koc:Ok Tryz.prog 174 (Jck 3 sI):=by
 refine⟨⟨Tryz.f174,by kernel_rfl,by kernel_rfl,by kernel_rfl⟩,fun z hz=>(by cases hz),fun F hF=>(by cases hF),fun _ x M R w vs hM hg hpre hargs=> ?_⟩
 obtain⟨l,u⟩:=x
 obtain⟨v1,vs1,rfl,⟨cs,rfl,hr⟩,hn⟩:=hargs
 have hn:vs1=[]:=hn
 subst hn
 obtain⟨v,flat,rfl,h1,h2⟩:=hr
 have hfl:=Jkg h1
 have hl:l.length≤1000000:=hpre
 have fin:∀(v':Value) (w':World),w'.ownsRow w.heap.size 3 1 v' l.length (l.map (Value.int .i64))→RowKit.Below w.heap.size w w'→Jn0 M w (Jck 3 sI).ress (Jck 3 sI).owns ((Jck 3 sI).spec (l,u)) (.returned v') w':=by
  intro v' w' ho hb
  refine⟨M,[v'],rfl, .ofK hb,fun _ h=>h,fun b h=> .inl h,_,[],rfl,⟨l.map (Value.int .i64),Jok l,ho,fun g hg' hMg=> ?_⟩,rfl⟩
  rcases ho.2 with⟨rfl,_⟩|⟨g',cap,cur,rfl,hbg,_⟩
  ·cases hg'
  ·have:g'=g:=Option.some.inj hg'
   have:=hM g (.inl hMg)
   omega
 rcases h2 with⟨rfl|⟨ad,cap,rfl⟩,h0⟩|⟨b,off,cap,rfl,hcap,hk,hm⟩
 ·have:l=[]:=List.eq_nil_of_length_eq_zero h0
  subst this
  refine(Tryz.clone174_nil 0 0 w).mono ?_
  rintro e w' ⟨rfl,rfl⟩
  exact fin _ _ ⟨rfl, .inl ⟨rfl,rfl⟩⟩ (RowKit.Below.refl _ _)
 ·have:l=[]:=List.eq_nil_of_length_eq_zero h0
  subst this
  refine(Tryz.clone174_zero ad cap w).mono ?_
  rintro e w' ⟨v',rfl,ho,_,hb⟩
  exact fin _ _ ho hb
 ·refine(Tryz.clone174 b off l.length cap l w (Nat.le_refl _) (by omega) (fun j hj=>hk j _ (by rw[hfl,List.getElem?_map,List.getElem?_eq_getElem hj];simp[List.getD_eq_getElem?_getD,List.getElem?_eq_getElem hj]))).mono ?_
  rintro e w' ⟨v',rfl,ho,_,hb⟩
  rw[List.take_of_length_le (Nat.le_refl _)] at ho
  exact fin _ _ ho hb
abbrev W83:=W82.add Koc
theorem Kod:Ok Tryz.prog 173 (Jck 9 .str):=by
 refine⟨⟨Tryz.f173,by kernel_rfl,by kernel_rfl,by kernel_rfl⟩,fun z hz=>(by cases hz),fun F hF=>(by cases hF),fun _ x M R w vs hM hg hpre hargs=> ?_⟩
 obtain⟨l,u⟩:=x
 obtain⟨v1,vs1,rfl,⟨cs,rfl,hr⟩,hn⟩:=hargs
 have hn:vs1=[]:=hn
 subst hn
 obtain⟨v,flat,rfl,h1,h2⟩:=hr
 have hfl:=Jdz h1
 have hl:l.length≤1000000:=hpre
 have fin:∀(v':Value) (w':World),w'.ownsRow w.heap.size 9 1 v' l.length (l.map Value.string)→RowKit.Below w.heap.size w w'→Jn0 M w (Jck 9 .str).ress (Jck 9 .str).owns ((Jck 9 .str).spec (l,u)) (.returned v') w':=by
  intro v' w' ho hb
  refine⟨M,[v'],rfl, .ofK hb,fun _ h=>h,fun b h=> .inl h,_,[],rfl,⟨l.map Value.string,Joj l,ho,fun g hg' hMg=> ?_⟩,rfl⟩
  rcases ho.2 with⟨rfl,_⟩|⟨g',cap,cur,rfl,hbg,_⟩
  ·cases hg'
  ·have:g'=g:=Option.some.inj hg'
   have:=hM g (.inl hMg)
   omega
 rcases h2 with⟨rfl|⟨ad,cap,rfl⟩,h0⟩|⟨b,off,cap,rfl,hcap,hk,hm⟩
 ·have:l=[]:=List.eq_nil_of_length_eq_zero h0
  subst this
  refine(Tryz.clone173_nil 0 0 w).mono ?_
  rintro e w' ⟨rfl,rfl⟩
  exact fin _ _ ⟨rfl, .inl ⟨rfl,rfl⟩⟩ (RowKit.Below.refl _ _)
 ·have:l=[]:=List.eq_nil_of_length_eq_zero h0
  subst this
  refine(Tryz.clone173_zero ad cap w).mono ?_
  rintro e w' ⟨v',rfl,ho,_,hb⟩
  exact fin _ _ ho hb
 ·refine(Tryz.clone173 b off l.length cap l w (Nat.le_refl _) (by omega) (fun j hj=>hk j _ (by rw[hfl,List.getElem?_map,List.getElem?_eq_getElem hj];simp[List.getD_eq_getElem?_getD,List.getElem?_eq_getElem hj]))).mono ?_
  rintro e w' ⟨v',rfl,ho,_,hb⟩
  rw[List.take_of_length_le (Nat.le_refl _)] at ho
  exact fin _ _ ho hb
abbrev W84:=W83.add Kod
def J13:Con:={args:=[aEv],ress:=[(true,sEv)],owns:=[],pre:=fun(e,_)=>[e.2.2.1.length≤1000000,e.2.2.2.1.length≤1000000],spec:=fun(e,_)=>(e,())}
def Jcq (a:Ls) (b:Li):=Dl a∧Z56 b
theorem K1i:Ok Tryz.prog 81 J13:=okW W84 Tryz.f81 na fun xx=>by
 obtain⟨⟨(n:Int),(k:ByteArray),(ns:List ByteArray),(vs:List Int),(tx:ByteArray)⟩,_⟩:=xx
 refine(by kernel_rfl:(Dl ns→Z56 vs→Jcq ns vs∧(n,k,ns,vs,tx)=(n,k,ns,vs,tx))=_).mp ?_
 delta Z56 Dl Jcq
 exact fun h1 h2=>⟨⟨h1,h2⟩,rfl⟩
abbrev W85:=W84.add K1i
def Jf9 (T:TypeId) (s:Sch):Con:={args:=[.val false (.list T s)],ress:=[(false, .list T s)],owns:=[true],pre:=fun(l,_)=>[l.length≤1000000],spec:=fun(l,_)=>(l,())}
theorem Kaz:Ok Tryz.prog 216 (Jf9 127 Xh):=okW W85 Tryz.f216 na fun xx=>by
 obtain⟨(l:List Sta),_⟩:=xx
 refine(by kernel_rfl:(Z46 l→((0≤Ln l∧Ln l≤1000000)∧Ln l≤Ln l∧Ln l≤1000000)∧List.length l=List.length (List.replicate (List.length l) Z12)∧l=l)=_).mp ?_
 delta Z12 Z46 Ln B0
 intro h
 exact⟨⟨⟨by omega,by omega⟩,by omega,by omega⟩,by simp,rfl⟩
abbrev W86:=W85.add Kaz
theorem Kay:Ok Tryz.prog 217 (Jf9 130 Yt):=okW W86 Tryz.f217 na fun xx=>by
 obtain⟨(l:List Ord),_⟩:=xx
 refine(by kernel_rfl:(Z57 l→((0≤Ln l∧Ln l≤1000000)∧Ln l≤Ln l∧Ln l≤1000000)∧List.length l=List.length (List.replicate (List.length l) Jdh)∧l=l)=_).mp ?_
 delta Z57 Z66 Jdh Ln B0
 intro h
 exact⟨⟨⟨by omega,by omega⟩,by omega,by omega⟩,by simp,rfl⟩
abbrev W87:=W86.add Kay
theorem Kax:Ok Tryz.prog 218 (Jf9 155 Xw):=okW W87 Tryz.f218 na fun xx=>by
 obtain⟨(l:List Met),_⟩:=xx
 refine(by kernel_rfl:(Z42 l→((0≤Ln l∧Ln l≤1000000)∧Ln l≤Ln l∧Ln l≤1000000)∧List.length l=List.length (List.replicate (List.length l) Jsh)∧l=l)=_).mp ?_
 delta Z42 Z66 Jsh Ln B0
 intro h
 exact⟨⟨⟨by omega,by omega⟩,by omega,by omega⟩,by simp,rfl⟩
abbrev W88:=W87.add Kax
theorem Kaw:Ok Tryz.prog 219 (Jf9 188 V5):=okW W88 Tryz.f219 na fun xx=>by
 obtain⟨(l:List Out),_⟩:=xx
 refine(by kernel_rfl:(Z43 l→((0≤Ln l∧Ln l≤1000000)∧Ln l≤Ln l∧Ln l≤1000000)∧List.length l=List.length (List.replicate (List.length l) Jcw)∧l=l)=_).mp ?_
 delta Z43 Jcw Ln B0
 intro h
 exact⟨⟨⟨by omega,by omega⟩,by omega,by omega⟩,by simp,rfl⟩
abbrev W89:=W88.add Kaw
theorem Kav:Ok Tryz.prog 220 (Jf9 235 Ys):=okW W89 Tryz.f220 na fun xx=>by
 obtain⟨(l:List Per),_⟩:=xx
 refine(by kernel_rfl:(Z44 l→((0≤Ln l∧Ln l≤1000000)∧Ln l≤Ln l∧Ln l≤1000000)∧List.length l=List.length (List.replicate (List.length l) (B0,B0,false))∧l=l)=_).mp ?_
 delta Z44 Ln B0
 intro h
 exact⟨⟨⟨by omega,by omega⟩,by omega,by omega⟩,by simp,rfl⟩
abbrev W90:=W89.add Kav
end Go.Proofs.YtcibbcfiemeoiaaGreatDoor
namespace Go.Proofs.Tryz
open Go.Proofs.YtcibbcfiemeoiaaGreatDoor
def kindsU:List (ByteArray×K1c):=[(Js,[],0,none,none,none),
 (Jt,[(0,false)],2,some 148,some 149,some 150),
 (Ua,[(0,true)],2,some 152,some 153,some 150),
 (Kk,[(1,false),(0,true),(0,true)],4,some 154,some 155,some 156),
 (K2,[(1,true)],4,some 157,some 158,some 156),
 (Vl,[(1,true)],1,some 159,some 160,some 156),
 (Ju,[(2,false),(0,true)],4,some 161,some 162,some 163),
 (Jq,[(2,true)],1,some 164,some 165,some 163),
 (Kd,[(3,false),(2,true)],1,some 166,some 167,some 168),
 (Kc,[(3,true)],1,some 169,some 170,some 168),
 (Jg,[],2,some 171,some 172,none)]
end Go.Proofs.Tryz
namespace Go.Proofs.YtcibbcfiemeoiaaGreatDoor
open Go.Sx
def J4o:Jlv:={kT:=9,gk:=false,gv:=true,ks:= .str,vs:=Kan,l:=Tryz.kindsU}
theorem Kmr:Ok Tryz.prog 80 (Jlv.con J4o):=Kms
abbrev W91:=W90.add Kmr
abbrev J2:=List Ev×List Ev×List Reg
abbrev Jib:Sch:= .prod (.list 67 sEv) (.prod (.list 67 sEv) (.list 105 Jfw))
def K5:Reg:=(0,0,[],[],[],[],[])
def ev0:Ev:=(0,Jb,[],[],Jb)
def J4 (G:List Reg):Reg:=G.getD (G.length-1) K5
structure Kf (h:J2):Prop where
 nE:h.1.length≤1000
 nC:h.2.1.length≤h.1.length
 nG:h.2.2.length=h.2.1.length
 reg:∀r∈h.2.2,Jj r
def Kh (r:Reg) (ns:List ByteArray):List (Int×Bool)→Nat→Bool
 |[],_=>false
 |(w,b)::l,i=>bif (bif b then !Vi r w (ns.getD i Jb) else false) then true else Kh r ns l (i+1)
def Kr (r:Reg) (ns:List ByteArray):List (Int×Bool)→Nat→Bool
 |[],_=>false
 |(w,b)::l,i=>bif (bif !b then Vi r w (ns.getD i Jb) else false) then true else Kr r ns l (i+1)
def ckS (r:Reg) (e:Ev):Int:=match(Ji e.2.1).2.2.1 with
 |some 148=>Jlh r.2.2.1 e.2.2.2.1
 |some 152=>Jnk e.2.2.2.1
 |some 154=>Jbv r.2.2.1 r.2.2.2.1 r.2.2.2.2.2.1 e
 |some 157=>Jli r.2.2.2.1 r.2.2.2.2.1 e.2.2.1 e.2.2.2.1
 |some 159=>Jcg r.2.2.2.1 e.2.2.1 e.2.2.2.1
 |some 161=>Jbu r.2.2.1 r.2.2.2.1 r.2.2.2.2.2.1 e
 |some 164=>Jch r.2.2.2.2.2.1 r.2.2.2.2.2.2 e.2.2.1 e.2.2.2.1
 |some 166=>Jci r.2.2.2.2.2.1 r.2.2.2.2.2.2 e.2.2.1 e.2.2.2.1
 |some 169=>Jnj r.2.2.2.2.2.2 e.2.2.1
 |some 171=>Lm r.2.1 r.2.2.2.1 r.2.2.2.2.1 r.2.2.2.2.2.1 r.2.2.2.2.2.2 e.2.2.2.1
 |_=>0
def Lh (h:J2) (e:Ev):Int:=
 bif e.1 !=(h.1.length:Int)+1 then 11 else
 bif e.2.1.toList==Js.toList then(bif (h.2.1.length:Int)==0 then 12 else bif (h.2.1.getD (h.2.1.length-1) ev0).2.1.toList==Jg.toList then 21 else 0) else
 bif decide (e.2.2.2.1.getD 0 0<(J4 h.2.2).1) then 22 else
 bif Kh (J4 h.2.2) e.2.2.1 (Ji e.2.1).1 0 then 10 else
 bif Kr (J4 h.2.2) e.2.2.1 (Ji e.2.1).1 0 then 9 else ckS (J4 h.2.2) e
def Jpf:Xu:={T? :=none,s:=Jib,args:=[aEv],ress:=[I],pre:=fun h (e,_)=>[Kf h,Jc e=0],spec:=fun h (e,_)=>(Lh h e,()),post:=fun h _=>h}
abbrev Xg (m:Nat):Nat→Option Ann:=fun i=>if i=0∨i=2 then some {X:=Unit,σ:=fun _=>⟨0,[],[]⟩,inv:=fun _=>True,mu:=fun _=>0,un:=m} else none
def Jps (h:J2) (n:Int) (ns:List ByteArray) (vs:List Int) (roles:List (Int×Bool)) (ck:Int):Int:=
 bif n !=(h.1.length:Int)+1 then 11 else
 bif decide (vs.getD 0 0<(J4 h.2.2).1) then 22 else
 bif Kh (J4 h.2.2) ns roles 0 then 10 else
 bif Kr (J4 h.2.2) ns roles 0 then 9 else ck
theorem Yl {h:J2} {n:Int} {k:ByteArray} {ns:List ByteArray} {vs:List Int} {tx:ByteArray} (h1:(k.toList==Js.toList)=false):Lh h (n,k,ns,vs,tx)=Jps h n ns vs (Ji k).1 (ckS (J4 h.2.2) (n,k,ns,vs,tx)):=by
 unfold Lh Jps
 dsimp only
 rw[h1];rfl
theorem Ky:Ji Jt=([(0,false)],2,some 148,some 149,some 150):=by kernel_rfl
theorem U6:Ji Ua=([(0,true)],2,some 152,some 153,some 150):=by kernel_rfl
theorem Uo:Ji Kk=([(1,false),(0,true),(0,true)],4,some 154,some 155,some 156):=by kernel_rfl
theorem Up:Ji K2=([(1,true)],4,some 157,some 158,some 156):=by kernel_rfl
theorem Vf:Ji Vl=([(1,true)],1,some 159,some 160,some 156):=by kernel_rfl
theorem Kq:Ji Ju=([(2,false),(0,true)],4,some 161,some 162,some 163):=by kernel_rfl
theorem Ke:Ji Jq=([(2,true)],1,some 164,some 165,some 163):=by kernel_rfl
theorem Kt:Ji Kd=([(3,false),(2,true)],1,some 166,some 167,some 168):=by kernel_rfl
theorem Ks:Ji Kc=([(3,true)],1,some 169,some 170,some 168):=by kernel_rfl
theorem Um:Ji Jg=([],2,some 171,some 172,none):=by kernel_rfl
theorem Jbl:Ji Js=([],0,none,none,none):=by kernel_rfl
theorem Jf4 {r:Reg} {s:ByteArray}:Vi r 0 s=decide (0≤J0 r.2.2.1 s):=rfl
theorem Jf3 {r:Reg} {s:ByteArray}:Vi r 1 s=decide (0≤Ku r.2.2.2.1 s):=rfl
theorem Jet {r:Reg} {s:ByteArray}:Vi r 2 s=decide (0≤J5 r.2.2.2.2.2.1 s):=rfl
theorem Jf2 {r:Reg} {s:ByteArray}:Vi r 3 s=decide (0≤Uz r.2.2.2.2.2.2 s):=rfl
structure J8g (e:Ev):Prop where
 num:1≤e.1∧e.1≤1000
 kind:Yu e.2.1=true
 nn:e.2.2.1.length=(Ji e.2.1).1.length
 nv:(e.2.2.2.1.length:Int)=(Ji e.2.1).2.1
 name:∀s∈e.2.2.1,Yh s=true
 val:EvV e
 txt:e.2.2.2.2.size=0
theorem Uu {l:List Int}:Je l=0↔∀x∈l,x=0:=by
 induction l with
 |nil=>simp[Je]
 |cons x l ih=>
  unfold Je
  by_cases h:x=0
  ·rw[if_pos h,ih];simp[h]
  ·rw[if_neg h];simp[h]
theorem Yf {n a b:Int}:Kb n a b=0↔a≤n∧n≤b:=by
 unfold Kb
 by_cases h1:n<a
 ·simp[h1];omega
 ·by_cases h2:b<n
  ·simp[h2]
  ·simp[h1,h2];omega
theorem K9 {e:Ev} (h:Jc e=0):J8g e:=by
 unfold Jc at h
 by_cases h1:Kb e.1 1 1000≠0
 ·rw[if_pos h1] at h;exact absurd h h1
 rw[if_neg h1] at h
 cases hk:Yu e.2.1 with
 |false=>rw[hk] at h;cases h
 | true =>
  rw[hk,cond_true] at h
  by_cases h2:e.2.2.1.length=(Ji e.2.1).1.length∧(e.2.2.2.1.length:Int)=(Ji e.2.1).2.1
  ·rw[if_pos h2] at h
   have h3:=Uu.1 h
   have n1:=Uu.1 (h3 _ (List.mem_cons_self ..))
   have n2:=Uu.1 (h3 _ (List.mem_cons_of_mem _ (List.mem_cons_self ..)))
   have n3:=h3 _ (List.mem_cons_of_mem _ (List.mem_cons_of_mem _ (List.mem_cons_self ..)))
   refine⟨Yf.1 (by omega),hk,h2.1,h2.2,fun s hs=> ?_,fun v hv=>Yf.1 (n2 _ (List.mem_map_of_mem hv)), ?_⟩
   ·have:=n1 _ (List.mem_map_of_mem hs)
    cases hn:Yh s with
    |true=>rfl
    |false=>rw[hn] at this;cases this
   ·by_cases h4:0<e.2.2.2.2.size
    ·rw[decide_eq_true h4] at n3;cases n3
    ·omega
  ·rw[if_neg h2] at h;cases h
theorem Yq {h:J2} (hh:Kf h):Jj (J4 h.2.2):=by
 unfold J4
 by_cases h0:0<h.2.2.length
 ·exact hh.reg _ (Jd (by omega))
 ·have:h.2.2=[]:=List.eq_nil_of_length_eq_zero (by omega)
  rw[this]
  exact⟨by decide,by decide,by decide,by decide,by decide,by decide,by decide,fun _ h=>(by cases h),fun _ h=>(by cases h),fun _ h=>(by cases h),fun _ h=>(by cases h),fun _ h=>(by cases h),fun _ h=>(by cases h)⟩
theorem Kj {G:List Reg} (h:decide (0<(G.length:Int))=false):J4 G=K5:=by
 have h:¬0<(G.length:Int):=of_decide_eq_false h
 have:G=[]:=List.eq_nil_of_length_eq_zero (by omega)
 rw[this];rfl
theorem Hk:((0,0,[],[],[],[],[]):Reg)=K5:=rfl
theorem Jgv (G:List Reg):G.getD (G.length-1) K5=J4 G:=rfl
theorem Hr {E C:List Ev} {G:List Reg} {e:Ev} (hh:Kf (E,C,G)) (hc:Jc e=0):e.2.2.1.length=(Ji e.2.1).1.length∧(e.2.2.2.1.length:Int)=(Ji e.2.1).2.1∧Jj (J4 G)∧Jj K5∧E.length≤1000∧C.length≤E.length∧G.length=C.length∧((G.length:Int)-1).toNat=G.length-1∧EvV e:=
 have hE:=K9 hc
 ⟨hE.nn,hE.nv,Yq hh,Yq (h:=([],[],[])) ⟨by decide,by decide,rfl,fun _ h=>(by cases h)⟩,hh.nE,hh.nC,hh.nG,by omega,hE.val⟩
def Z0 (a:List Ev):=Ln a+1
def Z2 (a:List Ev):=Ln a==0
def Z4 (a:List Ev):=Ln a-1
def Z5 (a:Int) (b:Ls) (c:Li) (d:Bt):=(a,Js,b,c,d)
def Z25:=Iw ((0:Int)+1)
def Z53:=Tw (Bd 0 0)
def Z61 (a:List Ev):=Iw (Z0 a)
def Z62 (a:List Ev):=Iw (Z4 a)
def Z96 (a:Li):=Tw (Z27 a)
def V2 (a:List Reg):=decide (0<Ln a)
def J2x:=Z25∧False
def Jrq (a b:List Ev) (c:List Reg) (d:Int) (e:Ls) (f:Li) (g:Bt):=Lh (a,b,c) (Z5 d e f g)
def Lz:Int×ByteArray×List ByteArray×List Int×ByteArray:=((0:Int),B0,[],[],B0)
def Jfs (a:Li):=decide (Z85 a<0)
def Lj:Int×List Sta×List Ord×List Met×List Out×List Per:=((0:Int),[],[],[],[],[])
def Jfr (a:Int) (b:List Ev):=a !=Z0 b
def Jfq (a:List Ev):=Z62 a∧Tw (Bd (Z4 a) (Ln a))
def Vj:=((0:Int),Lj)
def V1 (a:List Reg):=Iw (Ln a-1)∧Tw (Bd (Ln a-1) (Ln a))
def Yr:=Jj Vj
def Jdf:=true=true→Yr
def Ja2:=false=true→Yr
def D1 (a:List Reg):=Gt a (Ln a-1) Vj
def F3 (a:List Reg):=(D1 a).1
def D0 (a:List Reg):=(D1 a).2
def Fn (a:List Reg):=(D0 a).1
def Hi (a:List Reg):=(D0 a).2
def Hh (a:List Reg):=(Hi a).2
def L2 (a:List Reg):=(Hh a).2
def Zt (a:List Reg):=(L2 a).2
def J2f (a:Ls):=Vi Vj 0 (U0 a)
def Jfp (a:List Ev):=bif Lb (Gt a (Z4 a) Lz).2.1 Jg then(21:Int) else(0:Int)
def J8w (a:Ls):=bif true then J2f a else false
def Jfo (a:Li) (b:List Reg):=decide (Z85 a<F3 b)
def Jfn (a:Ls):=T2 (true=true→Z95 a) Jdf
def Jfm (a:Ls):=T2 (false=true→Z95 a) Ja2
def Ku9 (a:TypeId) (b c:List Ev) (d:List Reg) (e:Int) (f:Ls) (g:Li) (h:Bt):=Br false (Sf true (Sf a (Sf (b,c,d) (10=Jrq b c d e f g h)))) J2x
def Fm (a:List Reg):=(Fn a,(Hi a).1,(Hh a).1,(L2 a).1,E2 (Zt a))
def Ya (a:List Reg):=(F3 a,Fm a)
def Y1 (a:List Reg):=Jj (Ya a)
def Jdc (a:List Reg):=true=true→Y1 a
def Jb0 (a:List Reg):=false=true→Y1 a
def Jlr (a:List Reg) (b:Ls):=Vi (Ya a) 0 (U0 b)
def Jrx (a:List Reg) (b:Ls):=bif true then Jlr a b else false
def Zy (a:Ls) (b:List Reg):=T2 (true=true→Z95 a) (Jdc b)
def Zx (a:Ls) (b:List Reg):=T2 (false=true→Z95 a) (Jb0 b)
variable (T:TypeId) (E C:List Ev) (G:List Reg) (tk st:Int) (S:List Sta) (O:List Ord) (M:List Met) (X:List Out) (Q:List Per) (n:Int) (ns:List ByteArray) (vs:List Int) (tx:ByteArray)
theorem Jqe:wpFO Tryz.prog W91.g (Xg 1) (fun _=>na ()) (Sx.look ([(75,Tryz.f75)]:List (Nat×Func))) Tryz.f130 Jpf T (E,C,G) ((n,Js,ns,vs,tx),()):=by
 refine(by kernel_rfl:(Kf (E,C,G)→Jc (Z5 n ns vs tx)=0→Z61 E∧Br (Jfr n E) (Sf true (Sf T (Sf (E,C,G) (11=Jrq E C G n ns vs tx)))) (Br true (Br (Z2 C) (Sf true (Sf T (Sf (E,C,G) (12=Jrq E C G n ns vs tx)))) (Jfq C∧Sf true (Sf T (Sf (E,C,G) (Jfp C=Jrq E C G n ns vs tx))))) (Br (V2 G) (V1 G∧Z96 vs∧Br (Jfo vs G) (Sf true (Sf T (Sf (E,C,G) (22=Jrq E C G n ns vs tx)))) (Br false (Z53∧Zx ns G∧Ku9 T E C G n ns vs tx) (Br false (Z53∧Zy ns G∧Br (Jrx G ns) (Sf true (Sf T (Sf (E,C,G) (9=Jrq E C G n ns vs tx)))) J2x) (False∧Sf true False)))) (Z96 vs∧Br (Jfs vs) (Sf true (Sf T (Sf (E,C,G) (22=Jrq E C G n ns vs tx)))) (Br false (Z53∧Jfm ns∧Ku9 T E C G n ns vs tx) (Br false (Z53∧Jfn ns∧Br (J8w ns) (Sf true (Sf T (Sf (E,C,G) (9=Jrq E C G n ns vs tx)))) J2x) (False∧Sf true False)))))))=_).mp ?_
 delta Z0 Z2 Z4 Z5 Z25 Z27 Z53 Z61 Z62 Z85 Z95 Z96 U0 V2 J2x Jrq Lz Jfs Lj Jfr Jfq Vj V1 Yr Jdf Ja2 D1 F3 D0 Fn Hi Hh L2 Zt J2f Jfp J8w Jfo Jfn Jfm Ku9 Fm Ya Y1 Jdc Jb0 Jlr Jrx Zy Zx Br Iw Bd T2 Tw Sf Ln Gt B0 Lb E2 Jg Js
 intro hh hc
 have hE:=K9 hc
 have n1:E.length≤1000:=hh.nE
 have n2:C.length≤E.length:=hh.nC
 have eA:Lh (E,C,G) (n,Js,ns,vs,tx)=bif n !=(E.length:Int)+1 then 11 else(bif (C.length:Int)==0 then 12 else bif (C.getD (C.length-1) ev0).2.1.toList==Jg.toList then 21 else 0):=by
  unfold Lh
  dsimp only
  rw[show(Js.toList==Js.toList)=true from by kernel_rfl];rfl
 refine⟨by omega,fun h=>⟨rfl,rfl,rfl, ?_⟩,fun h=>⟨fun _=>⟨fun h2=>⟨rfl,rfl,rfl, ?_⟩,fun h2=> ?_⟩,fun h=>(by cases h)⟩⟩
 ·rw[eA,h];rfl
 ·rw[eA,h,h2];rfl
 ·have h3:¬C.length=0:=fun e=>by rw[e] at h2;cases h2
  have h4:((C.length:Int)-1).toNat=C.length-1:=by omega
  refine⟨⟨⟨by omega,by omega⟩,⟨by omega,by omega⟩,⟨by omega,by omega⟩⟩,rfl,rfl,rfl, ?_⟩
  rw[eA,h,h2,h4];rfl
def Z28 (a:Int) (b:Ls) (c:Li) (d:Bt):=(a,Jt,b,c,d)
def Z41:=Tw (Bd 0 1)
def Jny:=(0:Int)+1+1
def Jft:=Iw Jny
def F4:=Tw (Bd ((0:Int)+1) 1)
def Jpw (a b:List Ev) (c:List Reg) (d:Int) (e:Ls) (f:Li) (g:Bt):=Lh (a,b,c) (Z28 d e f g)
def Jdj:=Jft∧False
def Jwq (a:Ls):=true=true→Bd ((0:Int)+1) (Ln a)
def Jwp (a:Ls):=false=true→Bd ((0:Int)+1) (Ln a)
def J83 (a:Li):=Yr∧Z45 a
def Jxs (a:Ls):=Vi Vj 0 (Z86 a)
def Kh6 (a:TypeId) (b c:List Ev) (d:List Reg) (e:Int) (f:Ls) (g:Li) (h:Bt):=Sf true (Sf a (Sf (b,c,d) (10=Jpw b c d e f g h)))
def Keh (a:TypeId) (b c:List Ev) (d:List Reg) (e:Int) (f:Ls) (g:Li) (h:Bt):=Sf true (Sf a (Sf (b,c,d) (9=Jpw b c d e f g h)))
def Jsb (a:Ls):=bif true then Jxs a else false
def Jjn (a:Ls):=T2 (Jwq a) Jdf
def Jjm (a:Ls):=T2 (Jwp a) Ja2
def Kuy (a:TypeId) (b c:List Ev) (d:List Reg) (e:Int) (f:Ls) (g:Li) (h:Bt):=Br false (Kh6 a b c d e f g h) Jdj
def Kt7 (a:Li) (b:TypeId) (c d:List Ev) (e:List Reg) (f:Int) (g:Ls) (h:Bt):=J83 a∧Sf true (Sf b (Sf (c,d,e) (Jlh [] a=Jpw c d e f g a h)))
def Jrz (a:List Reg) (b:Li):=Y1 a∧Z45 b
def Jgb (a:List Reg) (b:Ls):=Vi (Ya a) 0 (Z86 b)
def Jcx (a:List Reg) (b:Ls):=bif true then Jgb a b else false
def L1 (a:Ls) (b:List Reg):=T2 (Jwq a) (Jdc b)
def L0 (a:Ls) (b:List Reg):=T2 (Jwp a) (Jb0 b)
def J7p (a:List Reg) (b:Li) (c:TypeId) (d e:List Ev) (f:Int) (g:Ls) (h:Bt):=Jrz a b∧Sf true (Sf c (Sf (d,e,a) (Jlh (Hi a).1 b=Jpw d e a f g b h)))
def J7a (a:Ls) (b:TypeId) (c d:List Ev) (e:List Reg) (f:Int) (g:Li) (h:Bt):=Br true (Z41∧Jfn a∧Br (J8w a) (Keh b c d e f a g h) (Z25∧Br false (F4∧Jjn a∧Br (Jsb a) (Keh b c d e f a g h) Jdj) (Kt7 g b c d e f a h))) (Kt7 g b c d e f a h)
def J6z (a:Ls) (b:List Reg) (c:TypeId) (d e:List Ev) (f:Int) (g:Li) (h:Bt):=Br true (Z41∧Zy a b∧Br (Jrx b a) (Keh c d e b f a g h) (Z25∧Br false (F4∧L1 a b∧Br (Jcx b a) (Keh c d e b f a g h) Jdj) (J7p b g c d e f a h))) (J7p b g c d e f a h)
theorem Jhm:wpFO Tryz.prog W91.g (Xg 2) (fun _=>na ()) (Sx.look ([(75,Tryz.f75)]:List (Nat×Func))) Tryz.f130 Jpf T (E,C,G) ((n,Jt,ns,vs,tx),()):=by
 refine(by kernel_rfl:(Kf (E,C,G)→Jc (Z28 n ns vs tx)=0→Z61 E∧Br (Jfr n E) (Sf true (Sf T (Sf (E,C,G) (11=Jpw E C G n ns vs tx)))) (Br false (Br (Z2 C) (Sf true (Sf T (Sf (E,C,G) (12=Jpw E C G n ns vs tx)))) (Jfq C∧Sf true (Sf T (Sf (E,C,G) (Jfp C=Jpw E C G n ns vs tx))))) (Br (V2 G) (V1 G∧Z96 vs∧Br (Jfo vs G) (Sf true (Sf T (Sf (E,C,G) (22=Jpw E C G n ns vs tx)))) (Br true (Z41∧Zx ns G∧Br false (Kh6 T E C G n ns vs tx) (Z25∧Br false (F4∧L0 ns G∧Kuy T E C G n ns vs tx) (J6z ns G T E C n vs tx))) (J6z ns G T E C n vs tx))) (Z96 vs∧Br (Jfs vs) (Sf true (Sf T (Sf (E,C,G) (22=Jpw E C G n ns vs tx)))) (Br true (Z41∧Jfm ns∧Br false (Kh6 T E C G n ns vs tx) (Z25∧Br false (F4∧Jjm ns∧Kuy T E C G n ns vs tx) (J7a ns T E C G n vs tx))) (J7a ns T E C G n vs tx))))))=_).mp ?_
 delta Z0 Z2 Z4 Z25 Z27 Z28 Z41 Z45 Z61 Z62 Z85 Z86 Z95 Z96 U0 V2 Jny Jft F4 Jpw Jdj Lz Jfs Jwq Jwp Lj Jfr Jfq Vj V1 Yr Jdf Ja2 D1 F3 D0 J83 Fn Hi Hh L2 Zt J2f Jxs Jfp Kh6 Keh Jsb J8w Jfo Jfn Jfm Jjn Jjm Kuy Kt7 Fm Ya Y1 Jdc Jb0 Jrz Jgb Jlr Jcx Jrx Zy Zx L1 L0 J7p J7a J6z Br Iw Bd T2 Tw Sf Ln Gt B0 Lb E2 Jg Jt
 intro hh hc
 have eK:=Yl (h:=(E,C,G)) (n:=n) (k:=Jt) (ns:=ns) (vs:=vs) (tx:=tx) (by kernel_rfl)
 obtain⟨hn,hv,hR,hr0,n1,n2,n3,hG,hV⟩:=Hr hh hc
 simp only[Ky,ckS,List.length_cons,List.length_nil] at eK hn hv
 rw[eK]
 simp only[hG,Jgv,Hk,Prod.eta,Jps,Kh,Kr,Jf4,Jf3,Jet,Jf2,cond_true,cond_false,Bool.not_true,Bool.not_false,Jb]
 repeat' first|apply And.intro|exact hV|intro _
 all_goals first|trivial|omega|assumption|(rename_i h;have h:=of_decide_eq_true h;omega)|(simp only[*,cond_true,cond_false,Bool.not_true,Bool.not_false];done)|(rw[Kj ‹_›];(first|have e1:decide (vs.getD 0 0<K5.1)=true:=‹_›|have e1:decide (vs.getD 0 0<K5.1)=false:=‹_›);simp only[*,cond_true,cond_false,Bool.not_true,Bool.not_false];first|done|rfl)|(simp only[Bool.not_eq_false',decide_eq_true_eq] at*;assumption)
def Z9 (a:Int) (b:Ls) (c:Li) (d:Bt):=(a,Ua,b,c,d)
def Jrp (a b:List Ev) (c:List Reg) (d:Int) (e:Ls) (f:Li) (g:Bt):=Lh (a,b,c) (Z9 d e f g)
def Kek (a:TypeId) (b c:List Ev) (d:List Reg) (e:Int) (f:Ls) (g:Li) (h:Bt):=Sf true (Sf a (Sf (b,c,d) (9=Jrp b c d e f g h)))
def Kh8 (a:TypeId) (b c:List Ev) (d:List Reg) (e:Int) (f:Ls) (g:Li) (h:Bt):=Sf true (Sf a (Sf (b,c,d) (10=Jrp b c d e f g h)))
def J8u (a:Ls):=bif true then !J2f a else false
def Kd2 (a:Li) (b:TypeId) (c d:List Ev) (e:List Reg) (f:Int) (g:Ls) (h:Bt):=Z45 a∧Sf true (Sf b (Sf (c,d,e) (Jnk a=Jrp c d e f g a h)))
def Ku0 (a:TypeId) (b c:List Ev) (d:List Reg) (e:Int) (f:Ls) (g:Li) (h:Bt):=Br false (Kh8 a b c d e f g h) Jdj
def Jrv (a:List Reg) (b:Ls):=bif true then !Jlr a b else false
def J7f (a:Ls) (b:TypeId) (c d:List Ev) (e:List Reg) (f:Int) (g:Li) (h:Bt):=Br true (Z41∧Jfm a∧Br false (Kek b c d e f a g h) (Z25∧Br false (F4∧Jjn a∧Br (Jsb a) (Kek b c d e f a g h) Jdj) (Kd2 g b c d e f a h))) (Kd2 g b c d e f a h)
def J64 (a:Ls) (b:List Reg) (c:TypeId) (d e:List Ev) (f:Int) (g:Li) (h:Bt):=Br true (Z41∧Zx a b∧Br false (Kek c d e b f a g h) (Z25∧Br false (F4∧L1 a b∧Br (Jcx b a) (Kek c d e b f a g h) Jdj) (Kd2 g c d e b f a h))) (Kd2 g c d e b f a h)
theorem Jl9:wpFO Tryz.prog W91.g (Xg 2) (fun _=>na ()) (Sx.look ([(75,Tryz.f75)]:List (Nat×Func))) Tryz.f130 Jpf T (E,C,G) ((n,Ua,ns,vs,tx),()):=by
 refine(by kernel_rfl:(Kf (E,C,G)→Jc (Z9 n ns vs tx)=0→Z61 E∧Br (Jfr n E) (Sf true (Sf T (Sf (E,C,G) (11=Jrp E C G n ns vs tx)))) (Br false (Br (Z2 C) (Sf true (Sf T (Sf (E,C,G) (12=Jrp E C G n ns vs tx)))) (Jfq C∧Sf true (Sf T (Sf (E,C,G) (Jfp C=Jrp E C G n ns vs tx))))) (Br (V2 G) (V1 G∧Z96 vs∧Br (Jfo vs G) (Sf true (Sf T (Sf (E,C,G) (22=Jrp E C G n ns vs tx)))) (Br true (Z41∧Zy ns G∧Br (Jrv G ns) (Kh8 T E C G n ns vs tx) (Z25∧Br false (F4∧L0 ns G∧Ku0 T E C G n ns vs tx) (J64 ns G T E C n vs tx))) (J64 ns G T E C n vs tx))) (Z96 vs∧Br (Jfs vs) (Sf true (Sf T (Sf (E,C,G) (22=Jrp E C G n ns vs tx)))) (Br true (Z41∧Jfn ns∧Br (J8u ns) (Kh8 T E C G n ns vs tx) (Z25∧Br false (F4∧Jjm ns∧Ku0 T E C G n ns vs tx) (J7f ns T E C G n vs tx))) (J7f ns T E C G n vs tx))))))=_).mp ?_
 delta Z0 Z2 Z4 Z9 Z25 Z27 Z41 Z45 Z61 Z62 Z85 Z86 Z95 Z96 U0 V2 Jny Jft F4 Jrp Jdj Lz Jfs Jwq Jwp Lj Jfr Jfq Vj V1 Yr Jdf Ja2 D1 F3 D0 Fn Hi Hh L2 Zt J2f Jxs Jfp Kek Kh8 Jsb J8u Jfo Jfn Jfm Jjn Jjm Kd2 Ku0 Fm Ya Y1 Jdc Jb0 Jgb Jlr Jcx Jrv Zy Zx L1 L0 J7f J64 Br Iw Bd T2 Tw Sf Ln Gt B0 Lb E2 Ua Jg
 intro hh hc
 have eK:=Yl (h:=(E,C,G)) (n:=n) (k:=Ua) (ns:=ns) (vs:=vs) (tx:=tx) (by kernel_rfl)
 obtain⟨hn,hv,hR,hr0,n1,n2,n3,hG,hV⟩:=Hr hh hc
 simp only[U6,ckS,List.length_cons,List.length_nil] at eK hn hv
 rw[eK]
 simp only[hG,Jgv,Hk,Prod.eta,Jps,Kh,Kr,Jf4,Jf3,Jet,Jf2,cond_true,cond_false,Bool.not_true,Bool.not_false,Jb]
 repeat' first|apply And.intro|exact hV|intro _
 all_goals first|trivial|omega|assumption|(rename_i h;have h:=of_decide_eq_true h;omega)|(simp only[*,cond_true,cond_false,Bool.not_true,Bool.not_false];done)|(rw[Kj ‹_›];(first|have e1:decide (vs.getD 0 0<K5.1)=true:=‹_›|have e1:decide (vs.getD 0 0<K5.1)=false:=‹_›);simp only[*,cond_true,cond_false,Bool.not_true,Bool.not_false];first|done|rfl)|(simp only[Bool.not_eq_false',decide_eq_true_eq] at*;assumption)
def Z10 (a:Int) (b:Ls) (c:Li) (d:Bt):=(a,Kk,b,c,d)
def Z58:=Tw (Bd 0 3)
def Kf5:=Tw (Bd ((0:Int)+1) 3)
def Jp2 (a b:List Ev) (c:List Reg) (d:Int) (e:Ls) (f:Li) (g:Bt):=Lh (a,b,c) (Z10 d e f g)
def J6s:=Jny+1
def J2m:=Iw J6s
def Kfy:=Tw (Bd Jny 3)
def Kfv (a:Ls):=0≤J0 [] (Jji a)
def Kfs:=Tw (Bd J6s 3)
def K0z (a:Ls):=Bd J6s (Ln a)
def Kk5:=Iw (J6s+1)∧False
def Kfp (a:Ls):=true=true→Bd Jny (Ln a)
def Kfo (a:Ls):=false=true→Bd Jny (Ln a)
def K0c (a:Ls):=true=true→K0z a
def K0b (a:Ls):=false=true→K0z a
def Kez (a:Ls):=Vi Vj 0 (Z93 a)
def J80 (a:Ls):=Vi Vj 1 (U0 a)
def J0g (a:TypeId) (b c:List Ev) (d:List Reg) (e:Int) (f:Ls) (g:Li) (h:Bt):=Sf true (Sf a (Sf (b,c,d) (9=Jp2 b c d e f g h)))
def J2b (a:TypeId) (b c:List Ev) (d:List Reg) (e:Int) (f:Ls) (g:Li) (h:Bt):=Sf true (Sf a (Sf (b,c,d) (10=Jp2 b c d e f g h)))
def Kh0 (a:Ls):=bif true then !Jxs a else false
def Keb (a:List Reg) (b:Ls):=0≤J0 (Hi a).1 (Jji b)
def J8s (a:Ls):=T2 (Kfp a) Jdf
def J8r (a:Ls):=T2 (Kfo a) Ja2
def Kuh (a:TypeId) (b c:List Ev) (d:List Reg) (e:Int) (f:Ls) (g:Li) (h:Bt):=Br false (J2b a b c d e f g h) Kk5
def Kdp (a:Int) (b:Ls) (c:Li) (d:Bt) (e:TypeId) (f g:List Ev) (h:List Reg):=(Yr∧EvV (Z10 a b c d)∧Jsi b∧Z49 c∧Kfv b∧0≤J0 [] (J6w b))∧Sf true (Sf e (Sf (f,g,h) (Jbv [] [] [] (Z10 a b c d)=Jp2 f g h a b c d)))
def Jw2 (a:List Reg) (b:Ls):=Vi (Ya a) 0 (Z93 b)
def Jry (a:List Reg) (b:Ls):=Vi (Ya a) 1 (U0 b)
def J06 (a:List Reg) (b:Ls):=bif true then !Jgb a b else false
def Jru (a:Ls) (b:List Reg):=T2 (Kfp a) (Jdc b)
def Jrt (a:Ls) (b:List Reg):=T2 (Kfo a) (Jb0 b)
def Jwx (a:List Reg) (b:Int) (c:Ls) (d:Li) (e:Bt) (f:TypeId) (g h:List Ev):=(Y1 a∧EvV (Z10 b c d e)∧Jsi c∧Z49 d∧Keb a c∧0≤J0 (Hi a).1 (J6w c))∧Sf true (Sf f (Sf (g,h,a) (Jbv (Hi a).1 (Hh a).1 (Zt a).1 (Z10 b c d e)=Jp2 g h a b c d e)))
def Jww (a:Ls) (b:TypeId) (c d:List Ev) (e:List Reg) (f:Int) (g:Li) (h:Bt):=Br true (Z58∧Jfn a∧Br (bif true then J80 a else false) (J0g b c d e f a g h) (Z25∧Br true (Kf5∧Jjm a∧Br false (J0g b c d e f a g h) (Jft∧Br true (Kfy∧J8r a∧Br false (J0g b c d e f a g h) (J2m∧Br false (Kfs∧T2 (K0c a) Jdf∧Br (bif true then Vi Vj 0 (List.getD a 3 B0) else false) (J0g b c d e f a g h) Kk5) (Kdp f a g h b c d e))) (Kdp f a g h b c d e))) (Kdp f a g h b c d e))) (Kdp f a g h b c d e)
def Jwu (a:Ls) (b:List Reg) (c:TypeId) (d e:List Ev) (f:Int) (g:Li) (h:Bt):=Br true (Z58∧Zy a b∧Br (bif true then Jry b a else false) (J0g c d e b f a g h) (Z25∧Br true (Kf5∧L0 a b∧Br false (J0g c d e b f a g h) (Jft∧Br true (Kfy∧Jrt a b∧Br false (J0g c d e b f a g h) (J2m∧Br false (Kfs∧T2 (K0c a) (Jdc b)∧Br (bif true then Vi (Ya b) 0 (List.getD a 3 B0) else false) (J0g c d e b f a g h) Kk5) (Jwx b f a g h c d e))) (Jwx b f a g h c d e))) (Jwx b f a g h c d e))) (Jwx b f a g h c d e)
theorem Jma:wpFO Tryz.prog W91.g (Xg 4) (fun _=>na ()) (Sx.look ([(75,Tryz.f75)]:List (Nat×Func))) Tryz.f130 Jpf T (E,C,G) ((n,Kk,ns,vs,tx),()):=by
 refine(by kernel_rfl:(Kf (E,C,G)→Jc (Z10 n ns vs tx)=0→Z61 E∧Br (Jfr n E) (Sf true (Sf T (Sf (E,C,G) (11=Jp2 E C G n ns vs tx)))) (Br false (Br (Z2 C) (Sf true (Sf T (Sf (E,C,G) (12=Jp2 E C G n ns vs tx)))) (Jfq C∧Sf true (Sf T (Sf (E,C,G) (Jfp C=Jp2 E C G n ns vs tx))))) (Br (V2 G) (V1 G∧Z96 vs∧Br (Jfo vs G) (Sf true (Sf T (Sf (E,C,G) (22=Jp2 E C G n ns vs tx)))) (Br true (Z58∧Zx ns G∧Br false (J2b T E C G n ns vs tx) (Z25∧Br true (Kf5∧L1 ns G∧Br (J06 G ns) (J2b T E C G n ns vs tx) (Jft∧Br true (Kfy∧Jru ns G∧Br (bif true then !Jw2 G ns else false) (J2b T E C G n ns vs tx) (J2m∧Br false (Kfs∧T2 (K0b ns) (Jb0 G)∧Kuh T E C G n ns vs tx) (Jwu ns G T E C n vs tx))) (Jwu ns G T E C n vs tx))) (Jwu ns G T E C n vs tx))) (Jwu ns G T E C n vs tx))) (Z96 vs∧Br (Jfs vs) (Sf true (Sf T (Sf (E,C,G) (22=Jp2 E C G n ns vs tx)))) (Br true (Z58∧Jfm ns∧Br false (J2b T E C G n ns vs tx) (Z25∧Br true (Kf5∧Jjn ns∧Br (Kh0 ns) (J2b T E C G n ns vs tx) (Jft∧Br true (Kfy∧J8s ns∧Br (bif true then !Kez ns else false) (J2b T E C G n ns vs tx) (J2m∧Br false (Kfs∧T2 (K0b ns) Ja2∧Kuh T E C G n ns vs tx) (Jww ns T E C G n vs tx))) (Jww ns T E C G n vs tx))) (Jww ns T E C G n vs tx))) (Jww ns T E C G n vs tx))))))=_).mp ?_
 delta Z0 Z2 Z4 Z10 Z25 Z27 Z49 Z58 Z61 Z62 Z85 Z86 Z93 Z95 Z96 U0 V2 Jny Jji J6w Jsi Jft Kf5 Jp2 J6s Lz J2m Jfs Kfy Kfv Jwq Kfs Jwp K0z Lj Kk5 Kfp Kfo Jfr Jfq Vj V1 Yr K0c K0b Jdf Ja2 D1 F3 D0 Fn Hi Hh L2 Zt Kez J80 Jxs Jfp J0g J2b Kh0 Jfo Jfn Jfm Keb Jjn Jjm J8s J8r Kuh Kdp Fm Ya Y1 Jdc Jb0 Jgb Jw2 Jry J06 Zy Zx L1 L0 Jru Jrt Jwx Jww Jwu Br Iw Bd T2 Tw Sf Ln Gt B0 Lb E2 Kk Jg
 intro hh hc
 have eK:=Yl (h:=(E,C,G)) (n:=n) (k:=Kk) (ns:=ns) (vs:=vs) (tx:=tx) (by kernel_rfl)
 obtain⟨hn,hv,hR,hr0,n1,n2,n3,hG,hV⟩:=Hr hh hc
 simp only[Uo,ckS,List.length_cons,List.length_nil] at eK hn hv
 rw[eK]
 simp only[hG,Jgv,Hk,Prod.eta,Jps,Kh,Kr,Jf4,Jf3,Jet,Jf2,cond_true,cond_false,Bool.not_true,Bool.not_false,Jb]
 repeat' first|apply And.intro|exact hV|intro _
 all_goals first|trivial|omega|assumption|(rename_i h;have h:=of_decide_eq_true h;omega)|(simp only[*,cond_true,cond_false,Bool.not_true,Bool.not_false];done)|(rw[Kj ‹_›];(first|have e1:decide (vs.getD 0 0<K5.1)=true:=‹_›|have e1:decide (vs.getD 0 0<K5.1)=false:=‹_›);simp only[*,cond_true,cond_false,Bool.not_true,Bool.not_false];first|done|rfl)|(simp only[Bool.not_eq_false',decide_eq_true_eq] at*;assumption)
def Z8 (a:Int) (b:Ls) (c:Li) (d:Bt):=(a,K2,b,c,d)
def Jp1 (a b:List Ev) (c:List Reg) (d:Int) (e:Ls) (f:Li) (g:Bt):=Lh (a,b,c) (Z8 d e f g)
def Kfu (a:Ls):=0≤Ku [] (Lq a)
def Kel (a:TypeId) (b c:List Ev) (d:List Reg) (e:Int) (f:Ls) (g:Li) (h:Bt):=Sf true (Sf a (Sf (b,c,d) (9=Jp1 b c d e f g h)))
def Kh9 (a:TypeId) (b c:List Ev) (d:List Reg) (e:Int) (f:Ls) (g:Li) (h:Bt):=Sf true (Sf a (Sf (b,c,d) (10=Jp1 b c d e f g h)))
def J8v (a:Ls):=bif true then !J80 a else false
def Kd9 (a:List Reg) (b:Ls):=0≤Ku (Hh a).1 (Lq b)
def Ku2 (a:TypeId) (b c:List Ev) (d:List Reg) (e:Int) (f:Ls) (g:Li) (h:Bt):=Br false (Kh9 a b c d e f g h) Jdj
def Ks3 (a:Ls) (b:Li) (c:TypeId) (d e:List Ev) (f:List Reg) (g:Int) (h:Bt):=(Yr∧Y2 a∧Z54 b∧Kfu a)∧Sf true (Sf c (Sf (d,e,f) (Jli [] [] a b=Jp1 d e f g a b h)))
def Jrw (a:List Reg) (b:Ls):=bif true then !Jry a b else false
def J7d (a:List Reg) (b:Ls) (c:Li) (d:TypeId) (e f:List Ev) (g:Int) (h:Bt):=(Y1 a∧Y2 b∧Z54 c∧Kd9 a b)∧Sf true (Sf d (Sf (e,f,a) (Jli (Hh a).1 (L2 a).1 b c=Jp1 e f a g b c h)))
def J68 (a:Ls) (b:TypeId) (c d:List Ev) (e:List Reg) (f:Int) (g:Li) (h:Bt):=Br true (Z41∧Jfm a∧Br false (Kel b c d e f a g h) (Z25∧Br false (F4∧Jjn a∧Br (Jsb a) (Kel b c d e f a g h) Jdj) (Ks3 a g b c d e f h))) (Ks3 a g b c d e f h)
def J61 (a:Ls) (b:List Reg) (c:TypeId) (d e:List Ev) (f:Int) (g:Li) (h:Bt):=Br true (Z41∧Zx a b∧Br false (Kel c d e b f a g h) (Z25∧Br false (F4∧L1 a b∧Br (Jcx b a) (Kel c d e b f a g h) Jdj) (J7d b a g c d e f h))) (J7d b a g c d e f h)
theorem Jmb:wpFO Tryz.prog W91.g (Xg 2) (fun _=>na ()) (Sx.look ([(75,Tryz.f75)]:List (Nat×Func))) Tryz.f130 Jpf T (E,C,G) ((n,K2,ns,vs,tx),()):=by
 refine(by kernel_rfl:(Kf (E,C,G)→Jc (Z8 n ns vs tx)=0→Z61 E∧Br (Jfr n E) (Sf true (Sf T (Sf (E,C,G) (11=Jp1 E C G n ns vs tx)))) (Br false (Br (Z2 C) (Sf true (Sf T (Sf (E,C,G) (12=Jp1 E C G n ns vs tx)))) (Jfq C∧Sf true (Sf T (Sf (E,C,G) (Jfp C=Jp1 E C G n ns vs tx))))) (Br (V2 G) (V1 G∧Z96 vs∧Br (Jfo vs G) (Sf true (Sf T (Sf (E,C,G) (22=Jp1 E C G n ns vs tx)))) (Br true (Z41∧Zy ns G∧Br (Jrw G ns) (Kh9 T E C G n ns vs tx) (Z25∧Br false (F4∧L0 ns G∧Ku2 T E C G n ns vs tx) (J61 ns G T E C n vs tx))) (J61 ns G T E C n vs tx))) (Z96 vs∧Br (Jfs vs) (Sf true (Sf T (Sf (E,C,G) (22=Jp1 E C G n ns vs tx)))) (Br true (Z41∧Jfn ns∧Br (J8v ns) (Kh9 T E C G n ns vs tx) (Z25∧Br false (F4∧Jjm ns∧Ku2 T E C G n ns vs tx) (J68 ns T E C G n vs tx))) (J68 ns T E C G n vs tx))))))=_).mp ?_
 delta Z0 Z2 Z4 Z8 Z25 Z27 Z41 Z54 Z61 Z62 Z85 Z86 Z95 Z96 U0 V2 Lq Jny Y2 Jft F4 Jp1 Jdj Lz Jfs Kfu Jwq Jwp Lj Jfr Jfq Vj V1 Yr Jdf Ja2 D1 F3 D0 Fn Hi Hh L2 Zt J80 Jxs Jfp Kel Kh9 Jsb J8v Jfo Jfn Jfm Jjn Kd9 Jjm Ku2 Ks3 Fm Ya Y1 Jdc Jb0 Jgb Jry Jcx Jrw Zy Zx L1 L0 J7d J68 J61 Br Iw Bd T2 Tw Sf Ln Gt B0 Lb E2 K2 Jg
 intro hh hc
 have eK:=Yl (h:=(E,C,G)) (n:=n) (k:=K2) (ns:=ns) (vs:=vs) (tx:=tx) (by kernel_rfl)
 obtain⟨hn,hv,hR,hr0,n1,n2,n3,hG,hV⟩:=Hr hh hc
 simp only[Up,ckS,List.length_cons,List.length_nil] at eK hn hv
 rw[eK]
 simp only[hG,Jgv,Hk,Prod.eta,Jps,Kh,Kr,Jf4,Jf3,Jet,Jf2,cond_true,cond_false,Bool.not_true,Bool.not_false,Jb]
 repeat' first|apply And.intro|exact hV|intro _
 all_goals first|trivial|omega|assumption|(rename_i h;have h:=of_decide_eq_true h;omega)|(simp only[*,cond_true,cond_false,Bool.not_true,Bool.not_false];done)|(rw[Kj ‹_›];(first|have e1:decide (vs.getD 0 0<K5.1)=true:=‹_›|have e1:decide (vs.getD 0 0<K5.1)=false:=‹_›);simp only[*,cond_true,cond_false,Bool.not_true,Bool.not_false];first|done|rfl)|(simp only[Bool.not_eq_false',decide_eq_true_eq] at*;assumption)
def Z6 (a:Int) (b:Ls) (c:Li) (d:Bt):=(a,Vl,b,c,d)
def Jp4 (a b:List Ev) (c:List Reg) (d:Int) (e:Ls) (f:Li) (g:Bt):=Lh (a,b,c) (Z6 d e f g)
def Kia (a:TypeId) (b c:List Ev) (d:List Reg) (e:Int) (f:Ls) (g:Li) (h:Bt):=Sf true (Sf a (Sf (b,c,d) (10=Jp4 b c d e f g h)))
def Kem (a:TypeId) (b c:List Ev) (d:List Reg) (e:Int) (f:Ls) (g:Li) (h:Bt):=Sf true (Sf a (Sf (b,c,d) (9=Jp4 b c d e f g h)))
def Ku4 (a:TypeId) (b c:List Ev) (d:List Reg) (e:Int) (f:Ls) (g:Li) (h:Bt):=Br false (Kia a b c d e f g h) Jdj
def Khc (a:Ls) (b:Li):=Yr∧Y2 a∧Z55 b∧Kfu a
def Ks4 (a:Ls) (b:Li) (c:TypeId) (d e:List Ev) (f:List Reg) (g:Int) (h:Bt):=Khc a b∧Sf true (Sf c (Sf (d,e,f) (Jcg [] a b=Jp4 d e f g a b h)))
def J04 (a:List Reg) (b:Ls) (c:Li):=Y1 a∧Y2 b∧Z55 c∧Kd9 a b
def J7g (a:List Reg) (b:Ls) (c:Li) (d:TypeId) (e f:List Ev) (g:Int) (h:Bt):=J04 a b c∧Sf true (Sf d (Sf (e,f,a) (Jcg (Hh a).1 b c=Jp4 e f a g b c h)))
def J69 (a:Ls) (b:TypeId) (c d:List Ev) (e:List Reg) (f:Int) (g:Li) (h:Bt):=Br true (Z41∧Jfm a∧Br false (Kem b c d e f a g h) (Z25∧Br false (F4∧Jjn a∧Br (Jsb a) (Kem b c d e f a g h) Jdj) (Ks4 a g b c d e f h))) (Ks4 a g b c d e f h)
def J62 (a:Ls) (b:List Reg) (c:TypeId) (d e:List Ev) (f:Int) (g:Li) (h:Bt):=Br true (Z41∧Zx a b∧Br false (Kem c d e b f a g h) (Z25∧Br false (F4∧L1 a b∧Br (Jcx b a) (Kem c d e b f a g h) Jdj) (J7g b a g c d e f h))) (J7g b a g c d e f h)
theorem Jqf:wpFO Tryz.prog W91.g (Xg 2) (fun _=>na ()) (Sx.look ([(75,Tryz.f75)]:List (Nat×Func))) Tryz.f130 Jpf T (E,C,G) ((n,Vl,ns,vs,tx),()):=by
 refine(by kernel_rfl:(Kf (E,C,G)→Jc (Z6 n ns vs tx)=0→Z61 E∧Br (Jfr n E) (Sf true (Sf T (Sf (E,C,G) (11=Jp4 E C G n ns vs tx)))) (Br false (Br (Z2 C) (Sf true (Sf T (Sf (E,C,G) (12=Jp4 E C G n ns vs tx)))) (Jfq C∧Sf true (Sf T (Sf (E,C,G) (Jfp C=Jp4 E C G n ns vs tx))))) (Br (V2 G) (V1 G∧Z96 vs∧Br (Jfo vs G) (Sf true (Sf T (Sf (E,C,G) (22=Jp4 E C G n ns vs tx)))) (Br true (Z41∧Zy ns G∧Br (Jrw G ns) (Kia T E C G n ns vs tx) (Z25∧Br false (F4∧L0 ns G∧Ku4 T E C G n ns vs tx) (J62 ns G T E C n vs tx))) (J62 ns G T E C n vs tx))) (Z96 vs∧Br (Jfs vs) (Sf true (Sf T (Sf (E,C,G) (22=Jp4 E C G n ns vs tx)))) (Br true (Z41∧Jfn ns∧Br (J8v ns) (Kia T E C G n ns vs tx) (Z25∧Br false (F4∧Jjm ns∧Ku4 T E C G n ns vs tx) (J69 ns T E C G n vs tx))) (J69 ns T E C G n vs tx))))))=_).mp ?_
 delta Z0 Z2 Z4 Z6 Z25 Z27 Z41 Z55 Z61 Z62 Z85 Z86 Z95 Z96 U0 V2 Lq Jny Y2 Jft F4 Jp4 Jdj Lz Jfs Kfu Jwq Jwp Lj Jfr Jfq Vj V1 Yr Jdf Ja2 D1 F3 D0 Fn Hi Hh L2 Zt J80 Jxs Jfp Kia Kem Jsb J8v Jfo Jfn Jfm Jjn Kd9 Jjm Ku4 Khc Ks4 Fm Ya Y1 Jdc Jb0 Jgb Jry Jcx Jrw Zy Zx L1 L0 J04 J7g J69 J62 Br Iw Bd T2 Tw Sf Ln Gt B0 Lb E2 Jg Vl
 intro hh hc
 have eK:=Yl (h:=(E,C,G)) (n:=n) (k:=Vl) (ns:=ns) (vs:=vs) (tx:=tx) (by kernel_rfl)
 obtain⟨hn,hv,hR,hr0,n1,n2,n3,hG,hV⟩:=Hr hh hc
 simp only[Vf,ckS,List.length_cons,List.length_nil] at eK hn hv
 rw[eK]
 simp only[hG,Jgv,Hk,Prod.eta,Jps,Kh,Kr,Jf4,Jf3,Jet,Jf2,cond_true,cond_false,Bool.not_true,Bool.not_false,Jb]
 repeat' first|apply And.intro|exact hV|intro _
 all_goals first|trivial|omega|assumption|(rename_i h;have h:=of_decide_eq_true h;omega)|(simp only[*,cond_true,cond_false,Bool.not_true,Bool.not_false];done)|(rw[Kj ‹_›];(first|have e1:decide (vs.getD 0 0<K5.1)=true:=‹_›|have e1:decide (vs.getD 0 0<K5.1)=false:=‹_›);simp only[*,cond_true,cond_false,Bool.not_true,Bool.not_false];first|done|rfl)|(simp only[Bool.not_eq_false',decide_eq_true_eq] at*;assumption)
def Z19 (a:Int) (b:Ls) (c:Li) (d:Bt):=(a,Ju,b,c,d)
def Z51:=Tw (Bd 0 2)
def Jxz:=Tw (Bd ((0:Int)+1) 2)
def Jpy (a b:List Ev) (c:List Reg) (d:Int) (e:Ls) (f:Li) (g:Bt):=Lh (a,b,c) (Z19 d e f g)
def Jxv:=Tw (Bd Jny 2)
def J2i:=J2m∧False
def Kj1 (a:Li) (b:Ls):=Z49 a∧Kfv b
def Kiu (a:Ls):=Vi Vj 2 (U0 a)
def J8x (a:TypeId) (b c:List Ev) (d:List Reg) (e:Int) (f:Ls) (g:Li) (h:Bt):=Sf true (Sf a (Sf (b,c,d) (10=Jpy b c d e f g h)))
def J52 (a:TypeId) (b c:List Ev) (d:List Reg) (e:Int) (f:Ls) (g:Li) (h:Bt):=Sf true (Sf a (Sf (b,c,d) (9=Jpy b c d e f g h)))
def Kh4 (a:Ls):=bif true then Kez a else false
def Khk (a:Li) (b:List Reg) (c:Ls):=Z49 a∧Keb b c
def Kuq (a:TypeId) (b c:List Ev) (d:List Reg) (e:Int) (f:Ls) (g:Li) (h:Bt):=Br false (J8x a b c d e f g h) J2i
def Kgu (a:Int) (b:Ls) (c:Li) (d:Bt) (e:TypeId) (f g:List Ev) (h:List Reg):=(Yr∧EvV (Z19 a b c d)∧Jp6 b∧Kj1 c b)∧Sf true (Sf e (Sf (f,g,h) (Jbu [] [] [] (Z19 a b c d)=Jpy f g h a b c d)))
def J1a (a:List Reg) (b:Ls):=Vi (Ya a) 2 (U0 b)
def J08 (a:List Reg) (b:Ls):=bif true then Jw2 a b else false
def J0x (a:List Reg) (b:Int) (c:Ls) (d:Li) (e:Bt) (f:TypeId) (g h:List Ev):=(Y1 a∧EvV (Z19 b c d e)∧Jp6 c∧Khk d a c)∧Sf true (Sf f (Sf (g,h,a) (Jbu (Hi a).1 (Hh a).1 (Zt a).1 (Z19 b c d e)=Jpy g h a b c d e)))
def J0v (a:Ls) (b:TypeId) (c d:List Ev) (e:List Reg) (f:Int) (g:Li) (h:Bt):=Br true (Z51∧Jfn a∧Br (bif true then Kiu a else false) (J52 b c d e f a g h) (Z25∧Br true (Jxz∧Jjm a∧Br false (J52 b c d e f a g h) (Jft∧Br false (Jxv∧J8s a∧Br (Kh4 a) (J52 b c d e f a g h) J2i) (Kgu f a g h b c d e))) (Kgu f a g h b c d e))) (Kgu f a g h b c d e)
def J0t (a:Ls) (b:List Reg) (c:TypeId) (d e:List Ev) (f:Int) (g:Li) (h:Bt):=Br true (Z51∧Zy a b∧Br (bif true then J1a b a else false) (J52 c d e b f a g h) (Z25∧Br true (Jxz∧L0 a b∧Br false (J52 c d e b f a g h) (Jft∧Br false (Jxv∧Jru a b∧Br (J08 b a) (J52 c d e b f a g h) J2i) (J0x b f a g h c d e))) (J0x b f a g h c d e))) (J0x b f a g h c d e)
theorem Jjy:wpFO Tryz.prog W91.g (Xg 3) (fun _=>na ()) (Sx.look ([(75,Tryz.f75)]:List (Nat×Func))) Tryz.f130 Jpf T (E,C,G) ((n,Ju,ns,vs,tx),()):=by
 refine(by kernel_rfl:(Kf (E,C,G)→Jc (Z19 n ns vs tx)=0→Z61 E∧Br (Jfr n E) (Sf true (Sf T (Sf (E,C,G) (11=Jpy E C G n ns vs tx)))) (Br false (Br (Z2 C) (Sf true (Sf T (Sf (E,C,G) (12=Jpy E C G n ns vs tx)))) (Jfq C∧Sf true (Sf T (Sf (E,C,G) (Jfp C=Jpy E C G n ns vs tx))))) (Br (V2 G) (V1 G∧Z96 vs∧Br (Jfo vs G) (Sf true (Sf T (Sf (E,C,G) (22=Jpy E C G n ns vs tx)))) (Br true (Z51∧Zx ns G∧Br false (J8x T E C G n ns vs tx) (Z25∧Br true (Jxz∧L1 ns G∧Br (J06 G ns) (J8x T E C G n ns vs tx) (Jft∧Br false (Jxv∧Jrt ns G∧Kuq T E C G n ns vs tx) (J0t ns G T E C n vs tx))) (J0t ns G T E C n vs tx))) (J0t ns G T E C n vs tx))) (Z96 vs∧Br (Jfs vs) (Sf true (Sf T (Sf (E,C,G) (22=Jpy E C G n ns vs tx)))) (Br true (Z51∧Jfm ns∧Br false (J8x T E C G n ns vs tx) (Z25∧Br true (Jxz∧Jjn ns∧Br (Kh0 ns) (J8x T E C G n ns vs tx) (Jft∧Br false (Jxv∧J8r ns∧Kuq T E C G n ns vs tx) (J0v ns T E C G n vs tx))) (J0v ns T E C G n vs tx))) (J0v ns T E C G n vs tx))))))=_).mp ?_
 delta Z0 Z2 Z4 Z19 Z25 Z27 Z49 Z51 Z61 Z62 Z85 Z86 Z93 Z95 Z96 U0 V2 Jny Jp6 Jji Jft Jxz Jpy J6s Lz J2m Jfs Jxv J2i Kfv Jwq Jwp Lj Kfp Kfo Jfr Jfq Vj V1 Yr Kj1 Jdf Ja2 D1 F3 D0 Fn Hi Hh L2 Zt Kez Kiu Jxs Jfp J8x J52 Kh4 Kh0 Jfo Jfn Jfm Keb Jjn Jjm J8s J8r Khk Kuq Kgu Fm Ya Y1 Jdc Jb0 Jgb Jw2 J1a J08 J06 Zy Zx L1 L0 Jru Jrt J0x J0v J0t Br Iw Bd T2 Tw Sf Ln Gt B0 Lb E2 Ju Jg
 intro hh hc
 have eK:=Yl (h:=(E,C,G)) (n:=n) (k:=Ju) (ns:=ns) (vs:=vs) (tx:=tx) (by kernel_rfl)
 obtain⟨hn,hv,hR,hr0,n1,n2,n3,hG,hV⟩:=Hr hh hc
 simp only[Kq,ckS,List.length_cons,List.length_nil] at eK hn hv
 rw[eK]
 simp only[hG,Jgv,Hk,Prod.eta,Jps,Kh,Kr,Jf4,Jf3,Jet,Jf2,cond_true,cond_false,Bool.not_true,Bool.not_false,Jb]
 repeat' first|apply And.intro|exact hV|intro _
 all_goals first|trivial|omega|assumption|(rename_i h;have h:=of_decide_eq_true h;omega)|(simp only[*,cond_true,cond_false,Bool.not_true,Bool.not_false];done)|(rw[Kj ‹_›];(first|have e1:decide (vs.getD 0 0<K5.1)=true:=‹_›|have e1:decide (vs.getD 0 0<K5.1)=false:=‹_›);simp only[*,cond_true,cond_false,Bool.not_true,Bool.not_false];first|done|rfl)|(simp only[Bool.not_eq_false',decide_eq_true_eq] at*;assumption)
def Z21 (a:Int) (b:Ls) (c:Li) (d:Bt):=(a,Jq,b,c,d)
def Jpx (a b:List Ev) (c:List Reg) (d:Int) (e:Ls) (f:Li) (g:Bt):=Lh (a,b,c) (Z21 d e f g)
def Kei (a:TypeId) (b c:List Ev) (d:List Reg) (e:Int) (f:Ls) (g:Li) (h:Bt):=Sf true (Sf a (Sf (b,c,d) (9=Jpx b c d e f g h)))
def Kh5 (a:TypeId) (b c:List Ev) (d:List Reg) (e:Int) (f:Ls) (g:Li) (h:Bt):=Sf true (Sf a (Sf (b,c,d) (10=Jpx b c d e f g h)))
def Kuw (a:TypeId) (b c:List Ev) (d:List Reg) (e:Int) (f:Ls) (g:Li) (h:Bt):=Br false (Kh5 a b c d e f g h) Jdj
def Khd (a:Ls) (b:Li):=Yr∧Y2 a∧Z55 b∧0≤J5 [] (Lq a)
def Ks2 (a:Ls) (b:Li) (c:TypeId) (d e:List Ev) (f:List Reg) (g:Int) (h:Bt):=Khd a b∧Sf true (Sf c (Sf (d,e,f) (Jch [] [] a b=Jpx d e f g a b h)))
def J03 (a:List Reg) (b:Ls) (c:Li):=Y1 a∧Y2 b∧Z55 c∧0≤J5 (Zt a).1 (Lq b)
def J7c (a:List Reg) (b:Ls) (c:Li) (d:TypeId) (e f:List Ev) (g:Int) (h:Bt):=J03 a b c∧Sf true (Sf d (Sf (e,f,a) (Jch (Zt a).1 (Zt a).2 b c=Jpx e f a g b c h)))
def J67 (a:Ls) (b:TypeId) (c d:List Ev) (e:List Reg) (f:Int) (g:Li) (h:Bt):=Br true (Z41∧Jfm a∧Br false (Kei b c d e f a g h) (Z25∧Br false (F4∧Jjn a∧Br (Jsb a) (Kei b c d e f a g h) Jdj) (Ks2 a g b c d e f h))) (Ks2 a g b c d e f h)
def J60 (a:Ls) (b:List Reg) (c:TypeId) (d e:List Ev) (f:Int) (g:Li) (h:Bt):=Br true (Z41∧Zx a b∧Br false (Kei c d e b f a g h) (Z25∧Br false (F4∧L1 a b∧Br (Jcx b a) (Kei c d e b f a g h) Jdj) (J7c b a g c d e f h))) (J7c b a g c d e f h)
theorem Jhn:wpFO Tryz.prog W91.g (Xg 2) (fun _=>na ()) (Sx.look ([(75,Tryz.f75)]:List (Nat×Func))) Tryz.f130 Jpf T (E,C,G) ((n,Jq,ns,vs,tx),()):=by
 refine(by kernel_rfl:(Kf (E,C,G)→Jc (Z21 n ns vs tx)=0→Z61 E∧Br (Jfr n E) (Sf true (Sf T (Sf (E,C,G) (11=Jpx E C G n ns vs tx)))) (Br false (Br (Z2 C) (Sf true (Sf T (Sf (E,C,G) (12=Jpx E C G n ns vs tx)))) (Jfq C∧Sf true (Sf T (Sf (E,C,G) (Jfp C=Jpx E C G n ns vs tx))))) (Br (V2 G) (V1 G∧Z96 vs∧Br (Jfo vs G) (Sf true (Sf T (Sf (E,C,G) (22=Jpx E C G n ns vs tx)))) (Br true (Z41∧Zy ns G∧Br (bif true then !J1a G ns else false) (Kh5 T E C G n ns vs tx) (Z25∧Br false (F4∧L0 ns G∧Kuw T E C G n ns vs tx) (J60 ns G T E C n vs tx))) (J60 ns G T E C n vs tx))) (Z96 vs∧Br (Jfs vs) (Sf true (Sf T (Sf (E,C,G) (22=Jpx E C G n ns vs tx)))) (Br true (Z41∧Jfn ns∧Br (bif true then !Kiu ns else false) (Kh5 T E C G n ns vs tx) (Z25∧Br false (F4∧Jjm ns∧Kuw T E C G n ns vs tx) (J67 ns T E C G n vs tx))) (J67 ns T E C G n vs tx))))))=_).mp ?_
 delta Z0 Z2 Z4 Z21 Z25 Z27 Z41 Z55 Z61 Z62 Z85 Z86 Z95 Z96 U0 V2 Lq Jny Y2 Jft F4 Jpx Jdj Lz Jfs Jwq Jwp Lj Jfr Jfq Vj V1 Yr Jdf Ja2 D1 F3 D0 Fn Hi Hh L2 Zt Kiu Jxs Jfp Kei Kh5 Jsb Jfo Jfn Jfm Jjn Jjm Kuw Khd Ks2 Fm Ya Y1 Jdc Jb0 Jgb J1a Jcx Zy Zx L1 L0 J03 J7c J67 J60 Br Iw Bd T2 Tw Sf Ln Gt B0 Lb E2 Jq Jg
 intro hh hc
 have eK:=Yl (h:=(E,C,G)) (n:=n) (k:=Jq) (ns:=ns) (vs:=vs) (tx:=tx) (by kernel_rfl)
 obtain⟨hn,hv,hR,hr0,n1,n2,n3,hG,hV⟩:=Hr hh hc
 simp only[Ke,ckS,List.length_cons,List.length_nil] at eK hn hv
 rw[eK]
 simp only[hG,Jgv,Hk,Prod.eta,Jps,Kh,Kr,Jf4,Jf3,Jet,Jf2,cond_true,cond_false,Bool.not_true,Bool.not_false,Jb]
 repeat' first|apply And.intro|exact hV|intro _
 all_goals first|trivial|omega|assumption|(rename_i h;have h:=of_decide_eq_true h;omega)|(simp only[*,cond_true,cond_false,Bool.not_true,Bool.not_false];done)|(rw[Kj ‹_›];(first|have e1:decide (vs.getD 0 0<K5.1)=true:=‹_›|have e1:decide (vs.getD 0 0<K5.1)=false:=‹_›);simp only[*,cond_true,cond_false,Bool.not_true,Bool.not_false];first|done|rfl)|(simp only[Bool.not_eq_false',decide_eq_true_eq] at*;assumption)
def Z16 (a:Int) (b:Ls) (c:Li) (d:Bt):=(a,Kd,b,c,d)
def Jpz (a b:List Ev) (c:List Reg) (d:Int) (e:Ls) (f:Li) (g:Bt):=Lh (a,b,c) (Z16 d e f g)
def Kiw (a:Ls):=Vi Vj 3 (U0 a)
def J8y (a:TypeId) (b c:List Ev) (d:List Reg) (e:Int) (f:Ls) (g:Li) (h:Bt):=Sf true (Sf a (Sf (b,c,d) (10=Jpz b c d e f g h)))
def J51 (a:TypeId) (b c:List Ev) (d:List Reg) (e:Int) (f:Ls) (g:Li) (h:Bt):=Sf true (Sf a (Sf (b,c,d) (9=Jpz b c d e f g h)))
def Kur (a:TypeId) (b c:List Ev) (d:List Reg) (e:Int) (f:Ls) (g:Li) (h:Bt):=Br false (J8y a b c d e f g h) J2i
def Kgy (a:Ls) (b:Li) (c:TypeId) (d e:List Ev) (f:List Reg) (g:Int) (h:Bt):=(Yr∧Jx1 a∧Z55 b∧0≤J5 [] (Jji a))∧Sf true (Sf c (Sf (d,e,f) (Jci [] [] a b=Jpz d e f g a b h)))
def J1b (a:List Reg) (b:Ls):=Vi (Ya a) 3 (U0 b)
def J0y (a:List Reg) (b:Ls) (c:Li) (d:TypeId) (e f:List Ev) (g:Int) (h:Bt):=(Y1 a∧Jx1 b∧Z55 c∧0≤J5 (Zt a).1 (Jji b))∧Sf true (Sf d (Sf (e,f,a) (Jci (Zt a).1 (Zt a).2 b c=Jpz e f a g b c h)))
def J0w (a:Ls) (b:TypeId) (c d:List Ev) (e:List Reg) (f:Int) (g:Li) (h:Bt):=Br true (Z51∧Jfn a∧Br (bif true then Kiw a else false) (J51 b c d e f a g h) (Z25∧Br true (Jxz∧Jjm a∧Br false (J51 b c d e f a g h) (Jft∧Br false (Jxv∧J8s a∧Br (Kh4 a) (J51 b c d e f a g h) J2i) (Kgy a g b c d e f h))) (Kgy a g b c d e f h))) (Kgy a g b c d e f h)
def J0u (a:Ls) (b:List Reg) (c:TypeId) (d e:List Ev) (f:Int) (g:Li) (h:Bt):=Br true (Z51∧Zy a b∧Br (bif true then J1b b a else false) (J51 c d e b f a g h) (Z25∧Br true (Jxz∧L0 a b∧Br false (J51 c d e b f a g h) (Jft∧Br false (Jxv∧Jru a b∧Br (J08 b a) (J51 c d e b f a g h) J2i) (J0y b a g c d e f h))) (J0y b a g c d e f h))) (J0y b a g c d e f h)
theorem Jjx:wpFO Tryz.prog W91.g (Xg 3) (fun _=>na ()) (Sx.look ([(75,Tryz.f75)]:List (Nat×Func))) Tryz.f130 Jpf T (E,C,G) ((n,Kd,ns,vs,tx),()):=by
 refine(by kernel_rfl:(Kf (E,C,G)→Jc (Z16 n ns vs tx)=0→Z61 E∧Br (Jfr n E) (Sf true (Sf T (Sf (E,C,G) (11=Jpz E C G n ns vs tx)))) (Br false (Br (Z2 C) (Sf true (Sf T (Sf (E,C,G) (12=Jpz E C G n ns vs tx)))) (Jfq C∧Sf true (Sf T (Sf (E,C,G) (Jfp C=Jpz E C G n ns vs tx))))) (Br (V2 G) (V1 G∧Z96 vs∧Br (Jfo vs G) (Sf true (Sf T (Sf (E,C,G) (22=Jpz E C G n ns vs tx)))) (Br true (Z51∧Zx ns G∧Br false (J8y T E C G n ns vs tx) (Z25∧Br true (Jxz∧L1 ns G∧Br (bif true then !Vi (Ya G) 2 (Z86 ns) else false) (J8y T E C G n ns vs tx) (Jft∧Br false (Jxv∧Jrt ns G∧Kur T E C G n ns vs tx) (J0u ns G T E C n vs tx))) (J0u ns G T E C n vs tx))) (J0u ns G T E C n vs tx))) (Z96 vs∧Br (Jfs vs) (Sf true (Sf T (Sf (E,C,G) (22=Jpz E C G n ns vs tx)))) (Br true (Z51∧Jfm ns∧Br false (J8y T E C G n ns vs tx) (Z25∧Br true (Jxz∧Jjn ns∧Br (bif true then !Vi Vj 2 (Z86 ns) else false) (J8y T E C G n ns vs tx) (Jft∧Br false (Jxv∧J8r ns∧Kur T E C G n ns vs tx) (J0w ns T E C G n vs tx))) (J0w ns T E C G n vs tx))) (J0w ns T E C G n vs tx))))))=_).mp ?_
 delta Z0 Z2 Z4 Z16 Z25 Z27 Z51 Z55 Z61 Z62 Z85 Z86 Z93 Z95 Z96 U0 V2 Jx1 Jny Jji Jft Jxz Jpz J6s Lz J2m Jfs Jxv J2i Jwq Jwp Lj Kfp Kfo Jfr Jfq Vj V1 Yr Jdf Ja2 D1 F3 D0 Fn Hi Hh L2 Zt Kiw Kez Jfp J8y J51 Kh4 Jfo Jfn Jfm Jjn Jjm J8s J8r Kur Kgy Fm Ya Y1 Jdc Jb0 Jw2 J1b J08 Zy Zx L1 L0 Jru Jrt J0y J0w J0u Br Iw Bd T2 Tw Sf Ln Gt B0 Lb E2 Kd Jg
 intro hh hc
 have eK:=Yl (h:=(E,C,G)) (n:=n) (k:=Kd) (ns:=ns) (vs:=vs) (tx:=tx) (by kernel_rfl)
 obtain⟨hn,hv,hR,hr0,n1,n2,n3,hG,hV⟩:=Hr hh hc
 simp only[Kt,ckS,List.length_cons,List.length_nil] at eK hn hv
 rw[eK]
 simp only[hG,Jgv,Hk,Prod.eta,Jps,Kh,Kr,Jf4,Jf3,Jet,Jf2,cond_true,cond_false,Bool.not_true,Bool.not_false,Jb]
 repeat' first|apply And.intro|exact hV|intro _
 all_goals first|trivial|omega|assumption|(rename_i h;have h:=of_decide_eq_true h;omega)|(simp only[*,cond_true,cond_false,Bool.not_true,Bool.not_false];done)|(rw[Kj ‹_›];(first|have e1:decide (vs.getD 0 0<K5.1)=true:=‹_›|have e1:decide (vs.getD 0 0<K5.1)=false:=‹_›);simp only[*,cond_true,cond_false,Bool.not_true,Bool.not_false];first|done|rfl)|(simp only[Bool.not_eq_false',decide_eq_true_eq] at*;assumption)
def Z18 (a:Int) (b:Ls) (c:Li) (d:Bt):=(a,Kc,b,c,d)
def Jp0 (a b:List Ev) (c:List Reg) (d:Int) (e:Ls) (f:Li) (g:Bt):=Lh (a,b,c) (Z18 d e f g)
def Kej (a:TypeId) (b c:List Ev) (d:List Reg) (e:Int) (f:Ls) (g:Li) (h:Bt):=Sf true (Sf a (Sf (b,c,d) (9=Jp0 b c d e f g h)))
def Kh7 (a:TypeId) (b c:List Ev) (d:List Reg) (e:Int) (f:Ls) (g:Li) (h:Bt):=Sf true (Sf a (Sf (b,c,d) (10=Jp0 b c d e f g h)))
def Khr (a:Ls):=Yr∧Y2 a∧0≤Uz [] (Lq a)
def Kuz (a:TypeId) (b c:List Ev) (d:List Reg) (e:Int) (f:Ls) (g:Li) (h:Bt):=Br false (Kh7 a b c d e f g h) Jdj
def Kti (a:Ls) (b:TypeId) (c d:List Ev) (e:List Reg) (f:Int) (g:Li) (h:Bt):=Khr a∧Sf true (Sf b (Sf (c,d,e) (Jnj [] a=Jp0 c d e f a g h)))
def J05 (a:List Reg) (b:Ls):=Y1 a∧Y2 b∧0≤Uz (Zt a).2 (Lq b)
def J7h (a:List Reg) (b:Ls) (c:TypeId) (d e:List Ev) (f:Int) (g:Li) (h:Bt):=J05 a b∧Sf true (Sf c (Sf (d,e,a) (Jnj (Zt a).2 b=Jp0 d e a f b g h)))
def J7b (a:Ls) (b:TypeId) (c d:List Ev) (e:List Reg) (f:Int) (g:Li) (h:Bt):=Br true (Z41∧Jfm a∧Br false (Kej b c d e f a g h) (Z25∧Br false (F4∧Jjn a∧Br (Jsb a) (Kej b c d e f a g h) Jdj) (Kti a b c d e f g h))) (Kti a b c d e f g h)
def J63 (a:Ls) (b:List Reg) (c:TypeId) (d e:List Ev) (f:Int) (g:Li) (h:Bt):=Br true (Z41∧Zx a b∧Br false (Kej c d e b f a g h) (Z25∧Br false (F4∧L1 a b∧Br (Jcx b a) (Kej c d e b f a g h) Jdj) (J7h b a c d e f g h))) (J7h b a c d e f g h)
theorem Jjw:wpFO Tryz.prog W91.g (Xg 2) (fun _=>na ()) (Sx.look ([(75,Tryz.f75)]:List (Nat×Func))) Tryz.f130 Jpf T (E,C,G) ((n,Kc,ns,vs,tx),()):=by
 refine(by kernel_rfl:(Kf (E,C,G)→Jc (Z18 n ns vs tx)=0→Z61 E∧Br (Jfr n E) (Sf true (Sf T (Sf (E,C,G) (11=Jp0 E C G n ns vs tx)))) (Br false (Br (Z2 C) (Sf true (Sf T (Sf (E,C,G) (12=Jp0 E C G n ns vs tx)))) (Jfq C∧Sf true (Sf T (Sf (E,C,G) (Jfp C=Jp0 E C G n ns vs tx))))) (Br (V2 G) (V1 G∧Z96 vs∧Br (Jfo vs G) (Sf true (Sf T (Sf (E,C,G) (22=Jp0 E C G n ns vs tx)))) (Br true (Z41∧Zy ns G∧Br (bif true then !J1b G ns else false) (Kh7 T E C G n ns vs tx) (Z25∧Br false (F4∧L0 ns G∧Kuz T E C G n ns vs tx) (J63 ns G T E C n vs tx))) (J63 ns G T E C n vs tx))) (Z96 vs∧Br (Jfs vs) (Sf true (Sf T (Sf (E,C,G) (22=Jp0 E C G n ns vs tx)))) (Br true (Z41∧Jfn ns∧Br (bif true then !Kiw ns else false) (Kh7 T E C G n ns vs tx) (Z25∧Br false (F4∧Jjm ns∧Kuz T E C G n ns vs tx) (J7b ns T E C G n vs tx))) (J7b ns T E C G n vs tx))))))=_).mp ?_
 delta Z0 Z2 Z4 Z18 Z25 Z27 Z41 Z61 Z62 Z85 Z86 Z95 Z96 U0 V2 Lq Jny Y2 Jft F4 Jp0 Jdj Lz Jfs Jwq Jwp Lj Jfr Jfq Vj V1 Yr Jdf Ja2 D1 F3 D0 Fn Hi Hh L2 Zt Kiw Jxs Jfp Kej Kh7 Jsb Jfo Jfn Jfm Jjn Jjm Khr Kuz Kti Fm Ya Y1 Jdc Jb0 Jgb J1b Jcx Zy Zx L1 L0 J05 J7h J7b J63 Br Iw Bd T2 Tw Sf Ln Gt B0 Lb E2 Kc Jg
 intro hh hc
 have eK:=Yl (h:=(E,C,G)) (n:=n) (k:=Kc) (ns:=ns) (vs:=vs) (tx:=tx) (by kernel_rfl)
 obtain⟨hn,hv,hR,hr0,n1,n2,n3,hG,hV⟩:=Hr hh hc
 simp only[Ks,ckS,List.length_cons,List.length_nil] at eK hn hv
 rw[eK]
 simp only[hG,Jgv,Hk,Prod.eta,Jps,Kh,Kr,Jf4,Jf3,Jet,Jf2,cond_true,cond_false,Bool.not_true,Bool.not_false,Jb]
 repeat' first|apply And.intro|exact hV|intro _
 all_goals first|trivial|omega|assumption|(rename_i h;have h:=of_decide_eq_true h;omega)|(simp only[*,cond_true,cond_false,Bool.not_true,Bool.not_false];done)|(rw[Kj ‹_›];(first|have e1:decide (vs.getD 0 0<K5.1)=true:=‹_›|have e1:decide (vs.getD 0 0<K5.1)=false:=‹_›);simp only[*,cond_true,cond_false,Bool.not_true,Bool.not_false];first|done|rfl)|(simp only[Bool.not_eq_false',decide_eq_true_eq] at*;assumption)
def Z20 (a:Int) (b:Ls) (c:Li) (d:Bt):=(a,Jg,b,c,d)
def Jnx (a b:List Ev) (c:List Reg) (d:Int) (e:Ls) (f:Li) (g:Bt):=Lh (a,b,c) (Z20 d e f g)
def Ku7 (a:TypeId) (b c:List Ev) (d:List Reg) (e:Int) (f:Ls) (g:Li) (h:Bt):=Br false (Sf true (Sf a (Sf (b,c,d) (10=Jnx b c d e f g h)))) J2x
theorem Jjv:wpFO Tryz.prog W91.g (Xg 1) (fun _=>na ()) (Sx.look ([(75,Tryz.f75)]:List (Nat×Func))) Tryz.f130 Jpf T (E,C,G) ((n,Jg,ns,vs,tx),()):=by
 refine(by kernel_rfl:(Kf (E,C,G)→Jc (Z20 n ns vs tx)=0→Z61 E∧Br (Jfr n E) (Sf true (Sf T (Sf (E,C,G) (11=Jnx E C G n ns vs tx)))) (Br false (Br (Z2 C) (Sf true (Sf T (Sf (E,C,G) (12=Jnx E C G n ns vs tx)))) (Jfq C∧Sf true (Sf T (Sf (E,C,G) (Jfp C=Jnx E C G n ns vs tx))))) (Br (V2 G) (V1 G∧Z96 vs∧Br (Jfo vs G) (Sf true (Sf T (Sf (E,C,G) (22=Jnx E C G n ns vs tx)))) (Br false (Z53∧Zx ns G∧Ku7 T E C G n ns vs tx) (Br false (Z53∧Zy ns G∧Br (Jrx G ns) (Sf true (Sf T (Sf (E,C,G) (9=Jnx E C G n ns vs tx)))) J2x) (Jrz G vs∧Sf true (Sf T (Sf (E,C,G) (Lm (Fn G) (Hh G).1 (L2 G).1 (Zt G).1 (Zt G).2 vs=Jnx E C G n ns vs tx))))))) (Z96 vs∧Br (Jfs vs) (Sf true (Sf T (Sf (E,C,G) (22=Jnx E C G n ns vs tx)))) (Br false (Z53∧Jfm ns∧Ku7 T E C G n ns vs tx) (Br false (Z53∧Jfn ns∧Br (J8w ns) (Sf true (Sf T (Sf (E,C,G) (9=Jnx E C G n ns vs tx)))) J2x) (J83 vs∧Sf true (Sf T (Sf (E,C,G) (Lm 0 [] [] [] [] vs=Jnx E C G n ns vs tx))))))))))=_).mp ?_
 delta Z0 Z2 Z4 Z20 Z25 Z27 Z45 Z53 Z61 Z62 Z85 Z95 Z96 U0 V2 J2x Jnx Lz Jfs Lj Jfr Jfq Vj V1 Yr Jdf Ja2 D1 F3 D0 J83 Fn Hi Hh L2 Zt J2f Jfp J8w Jfo Jfn Jfm Ku7 Fm Ya Y1 Jdc Jb0 Jrz Jlr Jrx Zy Zx Br Iw Bd T2 Tw Sf Ln Gt B0 Lb E2 Jg
 intro hh hc
 have eK:=Yl (h:=(E,C,G)) (n:=n) (k:=Jg) (ns:=ns) (vs:=vs) (tx:=tx) (by kernel_rfl)
 obtain⟨hn,hv,hR,hr0,n1,n2,n3,hG,hV⟩:=Hr hh hc
 simp only[Um,ckS,List.length_cons,List.length_nil] at eK hn hv
 rw[eK]
 simp only[hG,Jgv,Hk,Prod.eta,Jps,Kh,Kr,Jf4,Jf3,Jet,Jf2,cond_true,cond_false,Bool.not_true,Bool.not_false,Jb]
 repeat' first|apply And.intro|exact hV|intro _
 all_goals first|trivial|omega|assumption|(rename_i h;have h:=of_decide_eq_true h;omega)|(simp only[*,cond_true,cond_false,Bool.not_true,Bool.not_false];done)|(rw[Kj ‹_›];(first|have e1:decide (vs.getD 0 0<K5.1)=true:=‹_›|have e1:decide (vs.getD 0 0<K5.1)=false:=‹_›);simp only[*,cond_true,cond_false,Bool.not_true,Bool.not_false];first|done|rfl)|(simp only[Bool.not_eq_false',decide_eq_true_eq] at*;assumption)
theorem Ld {a b:ByteArray} (h:(a.toList==b.toList)=true):a=b:=by
 have h:=eq_of_beq h
 rw[Lib.toList_data,Lib.toList_data] at h
 cases a;cases b
 congr
 exact Array.toList_inj.1 h
theorem Jui {a b:ByteArray} (h:Dz .str a b=true):a=b:=Ld h
theorem Jef {β:Type} {ks:Sch} {k:ks.T}:∀{l:List (ks.T×β)},(Vn ks k l).isSome=true→∃x∈l,Dz ks k x.1=true
 |[],h=>by cases h
 | x :: l, h => by
  unfold Vn at h
  by_cases hx:Dz ks k x.1=true
  ·exact⟨x,List.mem_cons_self ..,hx⟩
  ·rw[if_neg hx] at h
   obtain⟨y,h1,h2⟩:=Jef h
   exact⟨y,List.mem_cons_of_mem _ h1,h2⟩
theorem U3 {k:ByteArray} (h:Yu k=true):k=Js∨k=Jt∨k=Ua∨k=Kk∨k=K2∨k=Vl∨k=Ju∨k=Jq∨k=Kd∨k=Kc∨k=Jg:=by
 obtain⟨x,hx,hk⟩:=Jef h
 have hk:=Jui hk
 unfold Lk at hx
 subst hk
 rcases List.mem_cons.1 hx with rfl|hx
 ·exact .inl rfl
 rcases List.mem_cons.1 hx with rfl|hx
 ·exact .inr (.inl rfl)
 rcases List.mem_cons.1 hx with rfl|hx
 ·exact .inr (.inr (.inl rfl))
 rcases List.mem_cons.1 hx with rfl|hx
 ·exact .inr (.inr (.inr (.inl rfl)))
 rcases List.mem_cons.1 hx with rfl|hx
 ·exact .inr (.inr (.inr (.inr (.inl rfl))))
 rcases List.mem_cons.1 hx with rfl|hx
 ·exact .inr (.inr (.inr (.inr (.inr (.inl rfl)))))
 rcases List.mem_cons.1 hx with rfl|hx
 ·exact .inr (.inr (.inr (.inr (.inr (.inr (.inl rfl))))))
 rcases List.mem_cons.1 hx with rfl|hx
 ·exact .inr (.inr (.inr (.inr (.inr (.inr (.inr (.inl rfl)))))))
 rcases List.mem_cons.1 hx with rfl|hx
 ·exact .inr (.inr (.inr (.inr (.inr (.inr (.inr (.inr (.inl rfl))))))))
 rcases List.mem_cons.1 hx with rfl|hx
 ·exact .inr (.inr (.inr (.inr (.inr (.inr (.inr (.inr (.inr (.inl rfl)))))))))
 rcases List.mem_cons.1 hx with rfl|hx
 ·exact .inr (.inr (.inr (.inr (.inr (.inr (.inr (.inr (.inr (.inr rfl)))))))))
 cases hx
theorem Jaj:∀{l:List Prop} {q:Prop},(Uj l→J1w l q)→J1w l q
 |[],_,h=>h trivial
 |[_],_,h=>fun hp=>h hp hp
 |_::p'::r,_,h=>fun hp=>Jaj (l:=p'::r) fun hr=>h ⟨hp,hr⟩ hp
theorem Jhj {Γ:Gam} {ann:Nat→Option Ann} {annF:FuncId→Nat→Option Ann} {lib:FuncId→Option Func} {fn:Func} {c:Xu} {T:TypeId} {x:c.s.T} {y:ATup c.args} (hb:fn.body.isSome=true) (h:Uj (c.pre x y)→wpFO Tryz.prog Γ ann annF lib fn c T x y):wpFO Tryz.prog Γ ann annF lib fn c T x y:=by
 unfold wpFO at h⊢
 cases hc:fn.body with
 |none=>rw[hc] at hb;cases hb
 |some code=>
  rw[hc] at h
  exact Jaj h
def Jbb (k:ByteArray):Nat:=if k=Js then 1 else(Ji k).1.length+1
theorem Kmg (T:TypeId):∀(x:J2) (y:ATup [aEv]),wpFO Tryz.prog W91.g (Xg (Jbb y.1.2.1)) (fun _=>na ()) (Sx.look ([(75,Tryz.f75)]:List (Nat×Func))) Tryz.f130 Jpf T x y
 |(E,C,G),((n,k,ns,vs,tx),())=>by
  refine Jhj (by kernel_rfl) fun hp=> ?_
  have hc:Jc (n,k,ns,vs,tx)=0:=hp.2
  rcases U3 (K9 hc).kind with h|h|h|h|h|h|h|h|h|h|h<;>dsimp only at h<;>subst h
  ·exact(show Jbb Js=1 from by kernel_rfl)▸Jqe T E C G n ns vs tx
  ·exact(show Jbb Jt=2 from by kernel_rfl)▸Jhm T E C G n ns vs tx
  ·exact(show Jbb Ua=2 from by kernel_rfl)▸Jl9 T E C G n ns vs tx
  ·exact(show Jbb Kk=4 from by kernel_rfl)▸Jma T E C G n ns vs tx
  ·exact(show Jbb K2=2 from by kernel_rfl)▸Jmb T E C G n ns vs tx
  ·exact(show Jbb Vl=2 from by kernel_rfl)▸Jqf T E C G n ns vs tx
  ·exact(show Jbb Ju=3 from by kernel_rfl)▸Jjy T E C G n ns vs tx
  ·exact(show Jbb Jq=2 from by kernel_rfl)▸Jhn T E C G n ns vs tx
  ·exact(show Jbb Kd=3 from by kernel_rfl)▸Jjx T E C G n ns vs tx
  ·exact(show Jbb Kc=2 from by kernel_rfl)▸Jjw T E C G n ns vs tx
  ·exact(show Jbb Jg=1 from by kernel_rfl)▸Jjv T E C G n ns vs tx
theorem Ka0:Ok Tryz.prog 130 (Xu.con Jpf):=X0 (Uc mixed W91.ok (by kernel_rfl) (by kernel_rfl) (Us (l:=([(75,Tryz.f75)]:List (Nat×Func))) (List.forall_mem_cons.2 ⟨by kernel_rfl,by simp⟩)) (fun _ yy=>Xg (Jbb yy.1.2.1)) (fun _ _=>fun _=>na ()) fun T xx yy _=>Kmg T xx yy)
abbrev W92:=W91.add Ka0
def doS (r:Reg) (e:Ev):Reg:=match(Ji e.2.1).2.2.2.1 with
 |some 149=>Jaq r e
 |some 153=>Fe r e
 |some 155=>Fi r e
 |some 158=>Fj r e
 |some 160=>Fd r e
 |some 162=>Fg r e
 |some 165=>Ff r e
 |some 167=>Fh r e
 |some 170=>Jf6 r e
 |some 172=>Jap r e
 |_=>r
def Jn (r:Reg) (e:Ev):Reg:=(e.2.2.2.1.getD 0 0,(doS r e).2)
def Zb (h:J2) (e:Ev):J2:=
 bif e.2.1.toList==Js.toList then(h.1++[e],h.2.1.take (h.2.1.length-1),h.2.2.take (h.2.1.length-1)) else(h.1++[e],h.2.1++[e],h.2.2++[Jn (J4 h.2.2) e])
def Ko (h:J2) (e:Ev):Int:=if Jc e≠0 then Jc e else Lh h e
def Jao (e:Ev):Prop:=e.2.2.1.length≤1000000∧e.2.2.2.1.length≤1000000∧∀s∈e.2.2.1,s.size≤1000000
def Uy (h:J2) (e:Ev):J2:=if Ko h e=0 then Zb h e else h
def Kgr:Xu:={T? :=none,s:=Jib,args:=[aEv],ress:=[I],pre:=fun h (e,_)=>[Kf h,h.1.length<1000,Jao e],spec:=fun h (e,_)=>(Ko h e,()),post:=fun h (e,_)=>Uy h e}
def Jbw:Xu:={Kgr with pre:=fun h (e,_)=>[Kf h,h.1.length<1000,Jao e,Jc e=0,Lh h e=0]}
theorem Dk {h:J2} {n:Int} {ns:List ByteArray} {vs:List Int} {roles:List (Int×Bool)} {ck:Int} (e:Jps h n ns vs roles ck=0):n=(h.1.length:Int)+1∧¬vs.getD 0 0<(J4 h.2.2).1∧Kh (J4 h.2.2) ns roles 0=false∧Kr (J4 h.2.2) ns roles 0=false∧ck=0:=by
 unfold Jps at e
 cases h1:n !=(h.1.length:Int)+1 with
 |true=>rw[h1] at e;cases e
 | false =>
  rw[h1,cond_false] at e
  cases h2:decide (vs.getD 0 0<(J4 h.2.2).1) with
  |true=>rw[h2] at e;cases e
  | false =>
   rw[h2,cond_false] at e
   cases h3:Kh (J4 h.2.2) ns roles 0 with
   |true=>rw[h3] at e;cases e
   | false =>
    rw[h3,cond_false] at e
    cases h4:Kr (J4 h.2.2) ns roles 0 with
    |true=>rw[h4] at e;cases e
    |false=>
     rw[h4,cond_false] at e
     exact⟨bne_eq_false_iff_eq.1 h1,of_decide_eq_false h2,rfl,rfl,e⟩
theorem Jl {r:Reg} {ns:List ByteArray} {w:Int} {b:Bool} {l:List (Int×Bool)} {i:Nat} (h:Kh r ns ((w,b)::l) i=false):(b=true→Vi r w (ns.getD i Jb)=true)∧Kh r ns l (i+1)=false:=by
 unfold Kh at h
 cases b with
 |false=>exact⟨fun f=>(by cases f),h⟩
 |true=>
  cases h1:Vi r w (ns.getD i Jb) with
  |true=>rw[h1] at h;exact⟨fun _=>rfl,h⟩
  |false=>rw[h1] at h;cases h
theorem Jrd {r:Reg} {s:ByteArray} (h:Vi r 0 s=true):0≤J0 r.2.2.1 s:=of_decide_eq_true (show decide _=true from h)
theorem J1z {r:Reg} {s:ByteArray} (h:Vi r 1 s=true):0≤Ku r.2.2.2.1 s:=of_decide_eq_true (show decide _=true from h)
theorem J1y {r:Reg} {s:ByteArray} (h:Vi r 2 s=true):0≤J5 r.2.2.2.2.2.1 s:=of_decide_eq_true (show decide _=true from h)
theorem Kgp {r:Reg} {s:ByteArray} (h:Vi r 3 s=true):0≤Uz r.2.2.2.2.2.2 s:=of_decide_eq_true (show decide _=true from h)
theorem Jyy {h:J2} {n:Int} {k:ByteArray} {ns:List ByteArray} {vs:List Int} {tx:ByteArray} (hk:(k.toList==Js.toList)=false) (hc:Jc (n,k,ns,vs,tx)=0) (ha:Lh h (n,k,ns,vs,tx)=0):Ko h (n,k,ns,vs,tx)=0∧Uy h (n,k,ns,vs,tx)=(h.1++[(n,k,ns,vs,tx)],h.2.1++[(n,k,ns,vs,tx)],h.2.2++[Jn (J4 h.2.2) (n,k,ns,vs,tx)]):=by
 have e:Ko h (n,k,ns,vs,tx)=0:=by unfold Ko;rw[if_neg (by rw[hc];simp)];exact ha
 refine⟨e, ?_⟩
 unfold Uy;rw[if_pos e];unfold Zb;dsimp only;rw[hk];rfl
theorem Jfz {E C:List Ev} {G:List Reg} {n:Int} {k:ByteArray} {ns:List ByteArray} {vs:List Int} {tx:ByteArray} (hk:(k.toList==Js.toList)=false) (hc:Jc (n,k,ns,vs,tx)=0) (ha:Lh (E,C,G) (n,k,ns,vs,tx)=0):Kh (J4 G) ns (Ji k).1 0=false∧Ko (E,C,G) (n,k,ns,vs,tx)=0∧Uy (E,C,G) (n,k,ns,vs,tx)=(E++[(n,k,ns,vs,tx)],C++[(n,k,ns,vs,tx)],G++[Jn (J4 G) (n,k,ns,vs,tx)]):=
 have e:=Yl (h:=(E,C,G)) (n:=n) (ns:=ns) (vs:=vs) (tx:=tx) hk
 ⟨(Dk (e.symm.trans ha)).2.2.1,Jyy hk hc ha⟩
theorem J0f {h:J2} {n:Int} {ns:List ByteArray} {vs:List Int} {tx:ByteArray} (ha:Lh h (n,Js,ns,vs,tx)=0):n=(h.1.length:Int)+1∧h.2.1.length≠0∧((h.2.1.getD (h.2.1.length-1) ev0).2.1.toList==Jg.toList)=false:=by
 unfold Lh at ha
 dsimp only at ha
 rw[show(Js.toList==Js.toList)=true from by kernel_rfl,cond_true] at ha
 cases h1:n !=(h.1.length:Int)+1 with
 |true=>rw[h1] at ha;cases ha
 | false =>
  rw[h1,cond_false] at ha
  cases h2:(h.2.1.length:Int)==0 with
  |true=>rw[h2] at ha;cases ha
  |false=>
   rw[h2,cond_false] at ha
   cases h3:(h.2.1.getD (h.2.1.length-1) ev0).2.1.toList==Jg.toList with
   |true=>rw[h3] at ha;cases ha
   |false=>exact⟨bne_eq_false_iff_eq.1 h1,(fun e=>by rw[e] at h2;cases h2),rfl⟩
def Z37 (a:List Ev):=List.length a<1000
def Jb1 (a:List Ev):=(List.length a+1)*88≤140737488355328
def Jcp:=0≤1000000∧T2 (0≤1000000) (Tw (0≤1000000))
def Jdg (a:List Ev) (b:List Reg):=(List.take (Int.toNat (Z4 a)) a,List.take (Int.toNat (Z4 a)) b)
def D2 (a:List Ev) (b:List Reg):=Jb1 a∧(List.length b+1)*136≤140737488355328
def Jde (a:List Ev) (b:List Reg):=(0≤Z4 a∧Z4 a≤Ln a)∧0≤Z4 a∧Z4 a≤Ln b
def Jcn (a:Ls) (b:Li):=Dl a∧Z56 b∧Jco a
def Jdd (a:List Reg):=List.length (Hi a).1≤1000000∧List.length (Hh a).1≤1000000∧List.length (L2 a).1≤1000000∧List.length (Zt a).1≤1000000∧List.length (Zt a).2≤1000000
theorem Jqg:wpFO Tryz.prog W92.g (na ()) (fun _=>na ()) (Sx.look ([(75,Tryz.f75),(129,Tryz.f129)]:List (Nat×Func))) Tryz.f121 Jbw T (E,C,G) ((n,Js,ns,vs,tx),()):=by
 refine(by kernel_rfl:(Kf (E,C,G)→Z37 E→Jao (Z5 n ns vs tx)→Jc (Z5 n ns vs tx)=0→Jrq E C G n ns vs tx=0→Jcn ns vs∧Br (Jc (Z5 n ns vs tx) !=0) (Sf true (Sf T ((E,C,G)=Uy (E,C,G) (Z5 n ns vs tx)∧Jc (Z5 n ns vs tx)=Ko (E,C,G) (Z5 n ns vs tx)))) ((Kf (E,C,G)∧Jc (Z5 n ns vs tx)=0)∧Br (Jrq E C G n ns vs tx !=0) (Sf true (Sf T ((E,C,G)=Uy (E,C,G) (Z5 n ns vs tx)∧Jrq E C G n ns vs tx=Ko (E,C,G) (Z5 n ns vs tx)))) (Jcq ns vs∧Jb1 E∧Br true (Z62 C∧Jde C G∧Sf true (Sf T ((E++[Z5 n ns vs tx],Jdg C G)=Uy (E,C,G) (Z5 n ns vs tx)∧0=Ko (E,C,G) (Z5 n ns vs tx)))) (Br (V2 G) (V1 G∧Jdd G∧False∧Z96 vs∧D2 C G∧Sf true (Sf T ((E++[Z5 n ns vs tx],C++[Z5 n ns vs tx],G++[(Z85 vs,Fm G)])=Uy (E,C,G) (Z5 n ns vs tx)∧0=Ko (E,C,G) (Z5 n ns vs tx)))) (Jcp∧False∧Z96 vs∧D2 C G∧Sf true (Sf T ((E++[Z5 n ns vs tx],C++[Z5 n ns vs tx],G++[(Z85 vs,Lj)])=Uy (E,C,G) (Z5 n ns vs tx)∧0=Ko (E,C,G) (Z5 n ns vs tx))))))))=_).mp ?_
 delta Z4 Z5 Z27 Z37 Z56 Z62 Z85 Z96 V2 Dl Jrq Jb1 Jdi Jcq Lj Jcp Vj V1 Jdg Jco D2 D1 D0 Fn Hi Hh L2 Zt Jde Jcn Fm Jdd Br Iw Bd T2 Tw Sf Ln Gt E2 Js
 intro hh hlt hsz hc ha
 obtain⟨a1,a2,a3⟩:=J0f ha
 have n1:E.length≤1000:=hh.nE
 have n2:C.length≤E.length:=hh.nC
 have n3:G.length=C.length:=hh.nG
 have a2:C.length≠0:=a2
 have hC:((C.length:Int)-1).toNat=C.length-1:=by omega
 have eE:Ko (E,C,G) (n,Js,ns,vs,tx)=0:=by unfold Ko;rw[if_neg (by rw[hc];simp)];exact ha
 have eP:Uy (E,C,G) (n,Js,ns,vs,tx)=(E++[(n,Js,ns,vs,tx)],C.take (C.length-1),G.take (C.length-1)):=by
  unfold Uy;rw[if_pos eE];unfold Zb;dsimp only;rw[show(Js.toList==Js.toList)=true from by kernel_rfl];rfl
 simp only[eE,eP,hc,ha,hC]
 repeat' first|exact hh|exact hsz.2.2|apply And.intro|intro _
 all_goals first|trivial|omega|assumption|contradiction|exact hsz.1|exact hsz.2.1|rfl
def Kx7 (a:Int) (b:Ls) (c:Li) (d:Bt):=(Jaq Vj (Z28 a b c d)).2
def Kxw (a:Int) (b:Ls) (c:Li) (d:Bt):=(Kx7 a b c d).2
def Kxj (a:Int) (b:Ls) (c:Li) (d:Bt):=(Kxw a b c d).2
def Kxd (a:Int) (b:Ls) (c:Li) (d:Bt):=(Kxj a b c d).2
def Krv (a:List Reg) (b:Int) (c:Ls) (d:Li) (e:Bt):=(Jaq (Ya a) (Z28 b c d e)).2
def J8a (a:List Reg) (b:Int) (c:Ls) (d:Li) (e:Bt):=(Krv a b c d e).2
def J72 (a:List Reg) (b:Int) (c:Ls) (d:Li) (e:Bt):=(J8a a b c d e).2
def J7v (a:List Reg) (b:Int) (c:Ls) (d:Li) (e:Bt):=(J72 a b c d e).2
theorem Jho:wpFO Tryz.prog W92.g (na ()) (fun _=>na ()) (Sx.look ([(75,Tryz.f75),(129,Tryz.f129)]:List (Nat×Func))) Tryz.f121 Jbw T (E,C,G) ((n,Jt,ns,vs,tx),()):=by
 refine(by kernel_rfl:(Kf (E,C,G)→Z37 E→Jao (Z28 n ns vs tx)→Jc (Z28 n ns vs tx)=0→Jpw E C G n ns vs tx=0→Jcn ns vs∧Br (Jc (Z28 n ns vs tx) !=0) (Sf true (Sf T ((E,C,G)=Uy (E,C,G) (Z28 n ns vs tx)∧Jc (Z28 n ns vs tx)=Ko (E,C,G) (Z28 n ns vs tx)))) ((Kf (E,C,G)∧Jc (Z28 n ns vs tx)=0)∧Br (Jpw E C G n ns vs tx !=0) (Sf true (Sf T ((E,C,G)=Uy (E,C,G) (Z28 n ns vs tx)∧Jpw E C G n ns vs tx=Ko (E,C,G) (Z28 n ns vs tx)))) (Jcq ns vs∧Jb1 E∧Br false (Z62 C∧Jde C G∧Sf true (Sf T ((E++[Z28 n ns vs tx],Jdg C G)=Uy (E,C,G) (Z28 n ns vs tx)∧0=Ko (E,C,G) (Z28 n ns vs tx)))) (Br (V2 G) (V1 G∧Jdd G∧(Y1 G∧Y2 ns∧Z45 vs)∧Z96 vs∧D2 C G∧Sf true (Sf T ((E++[Z28 n ns vs tx],C++[Z28 n ns vs tx],G++[(Z85 vs,(Krv G n ns vs tx).1,(J8a G n ns vs tx).1,(J72 G n ns vs tx).1,(J7v G n ns vs tx).1,E2 (J7v G n ns vs tx).2)])=Uy (E,C,G) (Z28 n ns vs tx)∧0=Ko (E,C,G) (Z28 n ns vs tx)))) (Jcp∧(Yr∧Y2 ns∧Z45 vs)∧Z96 vs∧D2 C G∧Sf true (Sf T ((E++[Z28 n ns vs tx],C++[Z28 n ns vs tx],G++[(Z85 vs,(Kx7 n ns vs tx).1,(Kxw n ns vs tx).1,(Kxj n ns vs tx).1,(Kxd n ns vs tx).1,E2 (Kxd n ns vs tx).2)])=Uy (E,C,G) (Z28 n ns vs tx)∧0=Ko (E,C,G) (Z28 n ns vs tx))))))))=_).mp ?_
 delta Z4 Z27 Z28 Z37 Z45 Z56 Z62 Z85 Z96 V2 Y2 Dl Jpw Jb1 Jdi Jcq Lj Jcp Vj V1 Yr Jdg Jco D2 D1 Kx7 F3 Kxw D0 Fn Hi Kxj Kxd Hh L2 Zt Jde Jcn Fm Jdd Ya Y1 Krv J8a J72 J7v Br Iw Bd T2 Tw Sf Ln Gt E2 Jt
 intro hh hlt hsz hc ha
 obtain⟨u0,aE,aP⟩:=Jfz (k:=Jt) (by kernel_rfl) hc ha
 obtain⟨hn,hv,hR,_,n1,n2,n3,hG,hV⟩:=Hr hh hc
 simp only[Ky,List.length_cons,List.length_nil] at hn hv u0
 have hs:Jn (J4 G) (n,Jt,ns,vs,tx)=(vs.getD 0 0,(Jaq (J4 G) (n,Jt,ns,vs,tx)).2):=by simp only[Jn,doS,Ky]
 simp only[aE,aP,hs,hc,ha,hG,Hk,Jgv,Prod.eta]
 repeat' first|exact hV|exact hh|exact hR|exact hsz.2.2|apply And.intro|intro _
 all_goals first|trivial|omega|assumption|exact Nat.le_trans hR.nS (by decide)|exact Nat.le_trans hR.nO (by decide)|exact Nat.le_trans hR.nM (by decide)|exact Nat.le_trans hR.nX (by decide)|exact Nat.le_trans hR.nQ (by decide)|exact Nat.zero_le _|exact hsz.1|exact hsz.2.1|(rename_i h;have h:=of_decide_eq_true h;omega)|rfl|(rw[←Kj ‹_›];first|done|exact hR)
def Kyk (a:Int) (b:Ls) (c:Li) (d:Bt):=(Fe Vj (Z9 a b c d)).2
def Kx9 (a:Int) (b:Ls) (c:Li) (d:Bt):=(Kyk a b c d).2
def Kxv (a:Int) (b:Ls) (c:Li) (d:Bt):=(Kx9 a b c d).2
def Kxi (a:Int) (b:Ls) (c:Li) (d:Bt):=(Kxv a b c d).2
def Kr5 (a:List Reg) (b:Int) (c:Ls) (d:Li) (e:Bt):=(Fe (Ya a) (Z9 b c d e)).2
def Krw (a:List Reg) (b:Int) (c:Ls) (d:Li) (e:Bt):=(Kr5 a b c d e).2
def Krm (a:List Reg) (b:Int) (c:Ls) (d:Li) (e:Bt):=(Krw a b c d e).2
def J70 (a:List Reg) (b:Int) (c:Ls) (d:Li) (e:Bt):=(Krm a b c d e).2
theorem Jmc:wpFO Tryz.prog W92.g (na ()) (fun _=>na ()) (Sx.look ([(75,Tryz.f75),(129,Tryz.f129)]:List (Nat×Func))) Tryz.f121 Jbw T (E,C,G) ((n,Ua,ns,vs,tx),()):=by
 refine(by kernel_rfl:(Kf (E,C,G)→Z37 E→Jao (Z9 n ns vs tx)→Jc (Z9 n ns vs tx)=0→Jrp E C G n ns vs tx=0→Jcn ns vs∧Br (Jc (Z9 n ns vs tx) !=0) (Sf true (Sf T ((E,C,G)=Uy (E,C,G) (Z9 n ns vs tx)∧Jc (Z9 n ns vs tx)=Ko (E,C,G) (Z9 n ns vs tx)))) ((Kf (E,C,G)∧Jc (Z9 n ns vs tx)=0)∧Br (Jrp E C G n ns vs tx !=0) (Sf true (Sf T ((E,C,G)=Uy (E,C,G) (Z9 n ns vs tx)∧Jrp E C G n ns vs tx=Ko (E,C,G) (Z9 n ns vs tx)))) (Jcq ns vs∧Jb1 E∧Br false (Z62 C∧Jde C G∧Sf true (Sf T ((E++[Z9 n ns vs tx],Jdg C G)=Uy (E,C,G) (Z9 n ns vs tx)∧0=Ko (E,C,G) (Z9 n ns vs tx)))) (Br (V2 G) (V1 G∧Jdd G∧(Y1 G∧Y2 ns∧Z45 vs∧0≤J0 (Hi G).1 (Lq ns))∧Z96 vs∧D2 C G∧Sf true (Sf T ((E++[Z9 n ns vs tx],C++[Z9 n ns vs tx],G++[(Z85 vs,(Kr5 G n ns vs tx).1,(Krw G n ns vs tx).1,(Krm G n ns vs tx).1,(J70 G n ns vs tx).1,E2 (J70 G n ns vs tx).2)])=Uy (E,C,G) (Z9 n ns vs tx)∧0=Ko (E,C,G) (Z9 n ns vs tx)))) (Jcp∧(Yr∧Y2 ns∧Z45 vs∧0≤J0 [] (Lq ns))∧Z96 vs∧D2 C G∧Sf true (Sf T ((E++[Z9 n ns vs tx],C++[Z9 n ns vs tx],G++[(Z85 vs,(Kyk n ns vs tx).1,(Kx9 n ns vs tx).1,(Kxv n ns vs tx).1,(Kxi n ns vs tx).1,E2 (Kxi n ns vs tx).2)])=Uy (E,C,G) (Z9 n ns vs tx)∧0=Ko (E,C,G) (Z9 n ns vs tx))))))))=_).mp ?_
 delta Z4 Z9 Z27 Z37 Z45 Z56 Z62 Z85 Z96 V2 Lq Y2 Dl Jrp Jb1 Jdi Jcq Lj Jcp Vj V1 Yr Jdg Jco D2 Kyk D1 Kx9 F3 D0 Kxv Fn Hi Kxi Hh L2 Zt Jde Jcn Fm Jdd Ya Y1 Kr5 Krw Krm J70 Br Iw Bd T2 Tw Sf Ln Gt E2 Ua
 intro hh hlt hsz hc ha
 obtain⟨u0,aE,aP⟩:=Jfz (k:=Ua) (by kernel_rfl) hc ha
 obtain⟨hn,hv,hR,_,n1,n2,n3,hG,hV⟩:=Hr hh hc
 simp only[U6,List.length_cons,List.length_nil] at hn hv u0
 obtain⟨k0,u1⟩:=Jl u0
 have f0:=Jrd (k0 rfl)
 have hs:Jn (J4 G) (n,Ua,ns,vs,tx)=(vs.getD 0 0,(Fe (J4 G) (n,Ua,ns,vs,tx)).2):=by simp only[Jn,doS,U6]
 simp only[aE,aP,hs,hc,ha,hG,Hk,Jgv,Prod.eta]
 repeat' first|exact hV|exact hh|exact hR|exact hsz.2.2|apply And.intro|intro _
 all_goals first|trivial|omega|assumption|exact Nat.le_trans hR.nS (by decide)|exact Nat.le_trans hR.nO (by decide)|exact Nat.le_trans hR.nM (by decide)|exact Nat.le_trans hR.nX (by decide)|exact Nat.le_trans hR.nQ (by decide)|exact Nat.zero_le _|exact hsz.1|exact hsz.2.1|(rename_i h;have h:=of_decide_eq_true h;omega)|rfl|(rw[←Kj ‹_›];first|done|exact hR)|(rw[Kj ‹_›] at f0;exact f0)
def Kyi (a:Int) (b:Ls) (c:Li) (d:Bt):=(Fi Vj (Z10 a b c d)).2
def Kx5 (a:Int) (b:Ls) (c:Li) (d:Bt):=(Kyi a b c d).2
def Kxz (a:Int) (b:Ls) (c:Li) (d:Bt):=(Kx5 a b c d).2
def Kxm (a:Int) (b:Ls) (c:Li) (d:Bt):=(Kxz a b c d).2
def Kr4 (a:List Reg) (b:Int) (c:Ls) (d:Li) (e:Bt):=(Fi (Ya a) (Z10 b c d e)).2
def Krx (a:List Reg) (b:Int) (c:Ls) (d:Li) (e:Bt):=(Kr4 a b c d e).2
def Krp (a:List Reg) (b:Int) (c:Ls) (d:Li) (e:Bt):=(Krx a b c d e).2
def J73 (a:List Reg) (b:Int) (c:Ls) (d:Li) (e:Bt):=(Krp a b c d e).2
theorem Jmd:wpFO Tryz.prog W92.g (na ()) (fun _=>na ()) (Sx.look ([(75,Tryz.f75),(129,Tryz.f129)]:List (Nat×Func))) Tryz.f121 Jbw T (E,C,G) ((n,Kk,ns,vs,tx),()):=by
 refine(by kernel_rfl:(Kf (E,C,G)→Z37 E→Jao (Z10 n ns vs tx)→Jc (Z10 n ns vs tx)=0→Jp2 E C G n ns vs tx=0→Jcn ns vs∧Br (Jc (Z10 n ns vs tx) !=0) (Sf true (Sf T ((E,C,G)=Uy (E,C,G) (Z10 n ns vs tx)∧Jc (Z10 n ns vs tx)=Ko (E,C,G) (Z10 n ns vs tx)))) ((Kf (E,C,G)∧Jc (Z10 n ns vs tx)=0)∧Br (Jp2 E C G n ns vs tx !=0) (Sf true (Sf T ((E,C,G)=Uy (E,C,G) (Z10 n ns vs tx)∧Jp2 E C G n ns vs tx=Ko (E,C,G) (Z10 n ns vs tx)))) (Jcq ns vs∧Jb1 E∧Br false (Z62 C∧Jde C G∧Sf true (Sf T ((E++[Z10 n ns vs tx],Jdg C G)=Uy (E,C,G) (Z10 n ns vs tx)∧0=Ko (E,C,G) (Z10 n ns vs tx)))) (Br (V2 G) (V1 G∧Jdd G∧(Y1 G∧Jsi ns∧Khk vs G ns)∧Z96 vs∧D2 C G∧Sf true (Sf T ((E++[Z10 n ns vs tx],C++[Z10 n ns vs tx],G++[(Z85 vs,(Kr4 G n ns vs tx).1,(Krx G n ns vs tx).1,(Krp G n ns vs tx).1,(J73 G n ns vs tx).1,E2 (J73 G n ns vs tx).2)])=Uy (E,C,G) (Z10 n ns vs tx)∧0=Ko (E,C,G) (Z10 n ns vs tx)))) (Jcp∧(Yr∧Jsi ns∧Kj1 vs ns)∧Z96 vs∧D2 C G∧Sf true (Sf T ((E++[Z10 n ns vs tx],C++[Z10 n ns vs tx],G++[(Z85 vs,(Kyi n ns vs tx).1,(Kx5 n ns vs tx).1,(Kxz n ns vs tx).1,(Kxm n ns vs tx).1,E2 (Kxm n ns vs tx).2)])=Uy (E,C,G) (Z10 n ns vs tx)∧0=Ko (E,C,G) (Z10 n ns vs tx))))))))=_).mp ?_
 delta Z4 Z10 Z27 Z37 Z49 Z56 Z62 Z85 Z96 V2 Jji Jsi Dl Jp2 Jb1 Jdi Kfv Jcq Lj Jcp Vj V1 Yr Jdg Kj1 Jco D2 Kyi D1 Kx5 Kxz F3 D0 Fn Kxm Hi Hh L2 Zt Jde Jcn Keb Khk Fm Jdd Ya Y1 Kr4 Krx Krp J73 Br Iw Bd T2 Tw Sf Ln Gt E2 Kk
 intro hh hlt hsz hc ha
 obtain⟨u0,aE,aP⟩:=Jfz (k:=Kk) (by kernel_rfl) hc ha
 obtain⟨hn,hv,hR,_,n1,n2,n3,hG,hV⟩:=Hr hh hc
 simp only[Uo,List.length_cons,List.length_nil] at hn hv u0
 obtain⟨k0,u1⟩:=Jl u0
 obtain⟨k1,u2⟩:=Jl u1
 obtain⟨k2,u3⟩:=Jl u2
 have f1:=Jrd (k1 rfl)
 have f2:=Jrd (k2 rfl)
 have hs:Jn (J4 G) (n,Kk,ns,vs,tx)=(vs.getD 0 0,(Fi (J4 G) (n,Kk,ns,vs,tx)).2):=by simp only[Jn,doS,Uo]
 simp only[aE,aP,hs,hc,ha,hG,Hk,Jgv,Prod.eta]
 repeat' first|exact hV|exact hh|exact hR|exact hsz.2.2|apply And.intro|intro _
 all_goals first|trivial|omega|assumption|exact Nat.le_trans hR.nS (by decide)|exact Nat.le_trans hR.nO (by decide)|exact Nat.le_trans hR.nM (by decide)|exact Nat.le_trans hR.nX (by decide)|exact Nat.le_trans hR.nQ (by decide)|exact Nat.zero_le _|exact hsz.1|exact hsz.2.1|(rename_i h;have h:=of_decide_eq_true h;omega)|rfl|(rw[←Kj ‹_›];first|done|exact hR)|(rw[Kj ‹_›] at f1;exact f1)|(rw[Kj ‹_›] at f2;exact f2)
def Kym (a:Int) (b:Ls) (c:Li) (d:Bt):=(Fj Vj (Z8 a b c d)).2
def Kyb (a:Int) (b:Ls) (c:Li) (d:Bt):=(Kym a b c d).2
def Kxy (a:Int) (b:Ls) (c:Li) (d:Bt):=(Kyb a b c d).2
def Kxk (a:Int) (b:Ls) (c:Li) (d:Bt):=(Kxy a b c d).2
def Kr7 (a:List Reg) (b:Int) (c:Ls) (d:Li) (e:Bt):=(Fj (Ya a) (Z8 b c d e)).2
def Kru (a:List Reg) (b:Int) (c:Ls) (d:Li) (e:Bt):=(Kr7 a b c d e).2
def Krn (a:List Reg) (b:Int) (c:Ls) (d:Li) (e:Bt):=(Kru a b c d e).2
def J71 (a:List Reg) (b:Int) (c:Ls) (d:Li) (e:Bt):=(Krn a b c d e).2
theorem Jme:wpFO Tryz.prog W92.g (na ()) (fun _=>na ()) (Sx.look ([(75,Tryz.f75),(129,Tryz.f129)]:List (Nat×Func))) Tryz.f121 Jbw T (E,C,G) ((n,K2,ns,vs,tx),()):=by
 refine(by kernel_rfl:(Kf (E,C,G)→Z37 E→Jao (Z8 n ns vs tx)→Jc (Z8 n ns vs tx)=0→Jp1 E C G n ns vs tx=0→Jcn ns vs∧Br (Jc (Z8 n ns vs tx) !=0) (Sf true (Sf T ((E,C,G)=Uy (E,C,G) (Z8 n ns vs tx)∧Jc (Z8 n ns vs tx)=Ko (E,C,G) (Z8 n ns vs tx)))) ((Kf (E,C,G)∧Jc (Z8 n ns vs tx)=0)∧Br (Jp1 E C G n ns vs tx !=0) (Sf true (Sf T ((E,C,G)=Uy (E,C,G) (Z8 n ns vs tx)∧Jp1 E C G n ns vs tx=Ko (E,C,G) (Z8 n ns vs tx)))) (Jcq ns vs∧Jb1 E∧Br false (Z62 C∧Jde C G∧Sf true (Sf T ((E++[Z8 n ns vs tx],Jdg C G)=Uy (E,C,G) (Z8 n ns vs tx)∧0=Ko (E,C,G) (Z8 n ns vs tx)))) (Br (V2 G) (V1 G∧Jdd G∧(Y1 G∧Y2 ns∧Z54 vs)∧Z96 vs∧D2 C G∧Sf true (Sf T ((E++[Z8 n ns vs tx],C++[Z8 n ns vs tx],G++[(Z85 vs,(Kr7 G n ns vs tx).1,(Kru G n ns vs tx).1,(Krn G n ns vs tx).1,(J71 G n ns vs tx).1,E2 (J71 G n ns vs tx).2)])=Uy (E,C,G) (Z8 n ns vs tx)∧0=Ko (E,C,G) (Z8 n ns vs tx)))) (Jcp∧(Yr∧Y2 ns∧Z54 vs)∧Z96 vs∧D2 C G∧Sf true (Sf T ((E++[Z8 n ns vs tx],C++[Z8 n ns vs tx],G++[(Z85 vs,(Kym n ns vs tx).1,(Kyb n ns vs tx).1,(Kxy n ns vs tx).1,(Kxk n ns vs tx).1,E2 (Kxk n ns vs tx).2)])=Uy (E,C,G) (Z8 n ns vs tx)∧0=Ko (E,C,G) (Z8 n ns vs tx))))))))=_).mp ?_
 delta Z4 Z8 Z27 Z37 Z54 Z56 Z62 Z85 Z96 V2 Y2 Dl Jp1 Jb1 Jdi Jcq Lj Jcp Vj V1 Yr Jdg Jco D2 Kym Kyb D1 Kxy F3 D0 Fn Hi Kxk Hh L2 Zt Jde Jcn Fm Jdd Ya Y1 Kr7 Kru Krn J71 Br Iw Bd T2 Tw Sf Ln Gt E2 K2
 intro hh hlt hsz hc ha
 obtain⟨u0,aE,aP⟩:=Jfz (k:=K2) (by kernel_rfl) hc ha
 obtain⟨hn,hv,hR,_,n1,n2,n3,hG,hV⟩:=Hr hh hc
 simp only[Up,List.length_cons,List.length_nil] at hn hv u0
 obtain⟨k0,u1⟩:=Jl u0
 have f0:=J1z (k0 rfl)
 have hs:Jn (J4 G) (n,K2,ns,vs,tx)=(vs.getD 0 0,(Fj (J4 G) (n,K2,ns,vs,tx)).2):=by simp only[Jn,doS,Up]
 simp only[aE,aP,hs,hc,ha,hG,Hk,Jgv,Prod.eta]
 repeat' first|exact hV|exact hh|exact hR|exact hsz.2.2|apply And.intro|intro _
 all_goals first|trivial|omega|assumption|exact Nat.le_trans hR.nS (by decide)|exact Nat.le_trans hR.nO (by decide)|exact Nat.le_trans hR.nM (by decide)|exact Nat.le_trans hR.nX (by decide)|exact Nat.le_trans hR.nQ (by decide)|exact Nat.zero_le _|exact hsz.1|exact hsz.2.1|(rename_i h;have h:=of_decide_eq_true h;omega)|rfl|(rw[←Kj ‹_›];first|done|exact hR)|(rw[Kj ‹_›] at f0;exact f0)
def Kyo (a:Int) (b:Ls) (c:Li) (d:Bt):=(Fd Vj (Z6 a b c d)).2
def Kyc (a:Int) (b:Ls) (c:Li) (d:Bt):=(Kyo a b c d).2
def Kx1 (a:Int) (b:Ls) (c:Li) (d:Bt):=(Kyc a b c d).2
def Kxs (a:Int) (b:Ls) (c:Li) (d:Bt):=(Kx1 a b c d).2
def Kr8 (a:List Reg) (b:Int) (c:Ls) (d:Li) (e:Bt):=(Fd (Ya a) (Z6 b c d e)).2
def Kr2 (a:List Reg) (b:Int) (c:Ls) (d:Li) (e:Bt):=(Kr8 a b c d e).2
def Krr (a:List Reg) (b:Int) (c:Ls) (d:Li) (e:Bt):=(Kr2 a b c d e).2
def J77 (a:List Reg) (b:Int) (c:Ls) (d:Li) (e:Bt):=(Krr a b c d e).2
theorem Jqh:wpFO Tryz.prog W92.g (na ()) (fun _=>na ()) (Sx.look ([(75,Tryz.f75),(129,Tryz.f129)]:List (Nat×Func))) Tryz.f121 Jbw T (E,C,G) ((n,Vl,ns,vs,tx),()):=by
 refine(by kernel_rfl:(Kf (E,C,G)→Z37 E→Jao (Z6 n ns vs tx)→Jc (Z6 n ns vs tx)=0→Jp4 E C G n ns vs tx=0→Jcn ns vs∧Br (Jc (Z6 n ns vs tx) !=0) (Sf true (Sf T ((E,C,G)=Uy (E,C,G) (Z6 n ns vs tx)∧Jc (Z6 n ns vs tx)=Ko (E,C,G) (Z6 n ns vs tx)))) ((Kf (E,C,G)∧Jc (Z6 n ns vs tx)=0)∧Br (Jp4 E C G n ns vs tx !=0) (Sf true (Sf T ((E,C,G)=Uy (E,C,G) (Z6 n ns vs tx)∧Jp4 E C G n ns vs tx=Ko (E,C,G) (Z6 n ns vs tx)))) (Jcq ns vs∧Jb1 E∧Br false (Z62 C∧Jde C G∧Sf true (Sf T ((E++[Z6 n ns vs tx],Jdg C G)=Uy (E,C,G) (Z6 n ns vs tx)∧0=Ko (E,C,G) (Z6 n ns vs tx)))) (Br (V2 G) (V1 G∧Jdd G∧J04 G ns vs∧Z96 vs∧D2 C G∧Sf true (Sf T ((E++[Z6 n ns vs tx],C++[Z6 n ns vs tx],G++[(Z85 vs,(Kr8 G n ns vs tx).1,(Kr2 G n ns vs tx).1,(Krr G n ns vs tx).1,(J77 G n ns vs tx).1,E2 (J77 G n ns vs tx).2)])=Uy (E,C,G) (Z6 n ns vs tx)∧0=Ko (E,C,G) (Z6 n ns vs tx)))) (Jcp∧Khc ns vs∧Z96 vs∧D2 C G∧Sf true (Sf T ((E++[Z6 n ns vs tx],C++[Z6 n ns vs tx],G++[(Z85 vs,(Kyo n ns vs tx).1,(Kyc n ns vs tx).1,(Kx1 n ns vs tx).1,(Kxs n ns vs tx).1,E2 (Kxs n ns vs tx).2)])=Uy (E,C,G) (Z6 n ns vs tx)∧0=Ko (E,C,G) (Z6 n ns vs tx))))))))=_).mp ?_
 delta Z4 Z6 Z27 Z37 Z55 Z56 Z62 Z85 Z96 V2 Lq Y2 Dl Jp4 Jb1 Jdi Kfu Jcq Lj Jcp Vj V1 Yr Jdg Jco D2 Kyo Kyc D1 Kx1 F3 D0 Kxs Fn Hi Hh L2 Zt Jde Jcn Kd9 Khc Fm Jdd Ya Y1 Kr8 Kr2 Krr J77 J04 Br Iw Bd T2 Tw Sf Ln Gt E2 Vl
 intro hh hlt hsz hc ha
 obtain⟨u0,aE,aP⟩:=Jfz (k:=Vl) (by kernel_rfl) hc ha
 obtain⟨hn,hv,hR,_,n1,n2,n3,hG,hV⟩:=Hr hh hc
 simp only[Vf,List.length_cons,List.length_nil] at hn hv u0
 obtain⟨k0,u1⟩:=Jl u0
 have f0:=J1z (k0 rfl)
 have hs:Jn (J4 G) (n,Vl,ns,vs,tx)=(vs.getD 0 0,(Fd (J4 G) (n,Vl,ns,vs,tx)).2):=by simp only[Jn,doS,Vf]
 simp only[aE,aP,hs,hc,ha,hG,Hk,Jgv,Prod.eta]
 repeat' first|exact hV|exact hh|exact hR|exact hsz.2.2|apply And.intro|intro _
 all_goals first|trivial|omega|assumption|exact Nat.le_trans hR.nS (by decide)|exact Nat.le_trans hR.nO (by decide)|exact Nat.le_trans hR.nM (by decide)|exact Nat.le_trans hR.nX (by decide)|exact Nat.le_trans hR.nQ (by decide)|exact Nat.zero_le _|exact hsz.1|exact hsz.2.1|(rename_i h;have h:=of_decide_eq_true h;omega)|rfl|(rw[←Kj ‹_›];first|done|exact hR)|(rw[Kj ‹_›] at f0;exact f0)
def Kyf (a:Int) (b:Ls) (c:Li) (d:Bt):=(Fg Vj (Z19 a b c d)).2
def Kx2 (a:Int) (b:Ls) (c:Li) (d:Bt):=(Kyf a b c d).2
def Kxr (a:Int) (b:Ls) (c:Li) (d:Bt):=(Kx2 a b c d).2
def Kxe (a:Int) (b:Ls) (c:Li) (d:Bt):=(Kxr a b c d).2
def Kr0 (a:List Reg) (b:Int) (c:Ls) (d:Li) (e:Bt):=(Fg (Ya a) (Z19 b c d e)).2
def Krt (a:List Reg) (b:Int) (c:Ls) (d:Li) (e:Bt):=(Kr0 a b c d e).2
def J76 (a:List Reg) (b:Int) (c:Ls) (d:Li) (e:Bt):=(Krt a b c d e).2
def J7w (a:List Reg) (b:Int) (c:Ls) (d:Li) (e:Bt):=(J76 a b c d e).2
theorem Jj2:wpFO Tryz.prog W92.g (na ()) (fun _=>na ()) (Sx.look ([(75,Tryz.f75),(129,Tryz.f129)]:List (Nat×Func))) Tryz.f121 Jbw T (E,C,G) ((n,Ju,ns,vs,tx),()):=by
 refine(by kernel_rfl:(Kf (E,C,G)→Z37 E→Jao (Z19 n ns vs tx)→Jc (Z19 n ns vs tx)=0→Jpy E C G n ns vs tx=0→Jcn ns vs∧Br (Jc (Z19 n ns vs tx) !=0) (Sf true (Sf T ((E,C,G)=Uy (E,C,G) (Z19 n ns vs tx)∧Jc (Z19 n ns vs tx)=Ko (E,C,G) (Z19 n ns vs tx)))) ((Kf (E,C,G)∧Jc (Z19 n ns vs tx)=0)∧Br (Jpy E C G n ns vs tx !=0) (Sf true (Sf T ((E,C,G)=Uy (E,C,G) (Z19 n ns vs tx)∧Jpy E C G n ns vs tx=Ko (E,C,G) (Z19 n ns vs tx)))) (Jcq ns vs∧Jb1 E∧Br false (Z62 C∧Jde C G∧Sf true (Sf T ((E++[Z19 n ns vs tx],Jdg C G)=Uy (E,C,G) (Z19 n ns vs tx)∧0=Ko (E,C,G) (Z19 n ns vs tx)))) (Br (V2 G) (V1 G∧Jdd G∧(Y1 G∧Jp6 ns∧Z49 vs)∧Z96 vs∧D2 C G∧Sf true (Sf T ((E++[Z19 n ns vs tx],C++[Z19 n ns vs tx],G++[(Z85 vs,(Kr0 G n ns vs tx).1,(Krt G n ns vs tx).1,(J76 G n ns vs tx).1,(J7w G n ns vs tx).1,E2 (J7w G n ns vs tx).2)])=Uy (E,C,G) (Z19 n ns vs tx)∧0=Ko (E,C,G) (Z19 n ns vs tx)))) (Jcp∧(Yr∧Jp6 ns∧Z49 vs)∧Z96 vs∧D2 C G∧Sf true (Sf T ((E++[Z19 n ns vs tx],C++[Z19 n ns vs tx],G++[(Z85 vs,(Kyf n ns vs tx).1,(Kx2 n ns vs tx).1,(Kxr n ns vs tx).1,(Kxe n ns vs tx).1,E2 (Kxe n ns vs tx).2)])=Uy (E,C,G) (Z19 n ns vs tx)∧0=Ko (E,C,G) (Z19 n ns vs tx))))))))=_).mp ?_
 delta Z4 Z19 Z27 Z37 Z49 Z56 Z62 Z85 Z96 V2 Jp6 Dl Jpy Jb1 Jdi Jcq Lj Jcp Vj V1 Yr Jdg Jco D2 Kyf D1 Kx2 F3 D0 Kxr Fn Hi Kxe Hh L2 Zt Jde Jcn Fm Jdd Ya Y1 Kr0 Krt J76 J7w Br Iw Bd T2 Tw Sf Ln Gt E2 Ju
 intro hh hlt hsz hc ha
 obtain⟨u0,aE,aP⟩:=Jfz (k:=Ju) (by kernel_rfl) hc ha
 obtain⟨hn,hv,hR,_,n1,n2,n3,hG,hV⟩:=Hr hh hc
 simp only[Kq,List.length_cons,List.length_nil] at hn hv u0
 obtain⟨k0,u1⟩:=Jl u0
 obtain⟨k1,u2⟩:=Jl u1
 have f1:=Jrd (k1 rfl)
 have hs:Jn (J4 G) (n,Ju,ns,vs,tx)=(vs.getD 0 0,(Fg (J4 G) (n,Ju,ns,vs,tx)).2):=by simp only[Jn,doS,Kq]
 simp only[aE,aP,hs,hc,ha,hG,Hk,Jgv,Prod.eta]
 repeat' first|exact hV|exact hh|exact hR|exact hsz.2.2|apply And.intro|intro _
 all_goals first|trivial|omega|assumption|exact Nat.le_trans hR.nS (by decide)|exact Nat.le_trans hR.nO (by decide)|exact Nat.le_trans hR.nM (by decide)|exact Nat.le_trans hR.nX (by decide)|exact Nat.le_trans hR.nQ (by decide)|exact Nat.zero_le _|exact hsz.1|exact hsz.2.1|(rename_i h;have h:=of_decide_eq_true h;omega)|rfl|(rw[←Kj ‹_›];first|done|exact hR)|(rw[Kj ‹_›] at f1;exact f1)
def Kx4 (a:Int) (b:Ls) (c:Li) (d:Bt):=(Ff Vj (Z21 a b c d)).2
def Kxx (a:Int) (b:Ls) (c:Li) (d:Bt):=(Kx4 a b c d).2
def Kxp (a:Int) (b:Ls) (c:Li) (d:Bt):=(Kxx a b c d).2
def Kxb (a:Int) (b:Ls) (c:Li) (d:Bt):=(Kxp a b c d).2
def Kry (a:List Reg) (b:Int) (c:Ls) (d:Li) (e:Bt):=(Ff (Ya a) (Z21 b c d e)).2
def Kro (a:List Reg) (b:Int) (c:Ls) (d:Li) (e:Bt):=(Kry a b c d e).2
def J7z (a:List Reg) (b:Int) (c:Ls) (d:Li) (e:Bt):=(Kro a b c d e).2
def J7u (a:List Reg) (b:Int) (c:Ls) (d:Li) (e:Bt):=(J7z a b c d e).2
theorem Jhp:wpFO Tryz.prog W92.g (na ()) (fun _=>na ()) (Sx.look ([(75,Tryz.f75),(129,Tryz.f129)]:List (Nat×Func))) Tryz.f121 Jbw T (E,C,G) ((n,Jq,ns,vs,tx),()):=by
 refine(by kernel_rfl:(Kf (E,C,G)→Z37 E→Jao (Z21 n ns vs tx)→Jc (Z21 n ns vs tx)=0→Jpx E C G n ns vs tx=0→Jcn ns vs∧Br (Jc (Z21 n ns vs tx) !=0) (Sf true (Sf T ((E,C,G)=Uy (E,C,G) (Z21 n ns vs tx)∧Jc (Z21 n ns vs tx)=Ko (E,C,G) (Z21 n ns vs tx)))) ((Kf (E,C,G)∧Jc (Z21 n ns vs tx)=0)∧Br (Jpx E C G n ns vs tx !=0) (Sf true (Sf T ((E,C,G)=Uy (E,C,G) (Z21 n ns vs tx)∧Jpx E C G n ns vs tx=Ko (E,C,G) (Z21 n ns vs tx)))) (Jcq ns vs∧Jb1 E∧Br false (Z62 C∧Jde C G∧Sf true (Sf T ((E++[Z21 n ns vs tx],Jdg C G)=Uy (E,C,G) (Z21 n ns vs tx)∧0=Ko (E,C,G) (Z21 n ns vs tx)))) (Br (V2 G) (V1 G∧Jdd G∧J03 G ns vs∧Z96 vs∧D2 C G∧Sf true (Sf T ((E++[Z21 n ns vs tx],C++[Z21 n ns vs tx],G++[(Z85 vs,(Kry G n ns vs tx).1,(Kro G n ns vs tx).1,(J7z G n ns vs tx).1,(J7u G n ns vs tx).1,E2 (J7u G n ns vs tx).2)])=Uy (E,C,G) (Z21 n ns vs tx)∧0=Ko (E,C,G) (Z21 n ns vs tx)))) (Jcp∧Khd ns vs∧Z96 vs∧D2 C G∧Sf true (Sf T ((E++[Z21 n ns vs tx],C++[Z21 n ns vs tx],G++[(Z85 vs,(Kx4 n ns vs tx).1,(Kxx n ns vs tx).1,(Kxp n ns vs tx).1,(Kxb n ns vs tx).1,E2 (Kxb n ns vs tx).2)])=Uy (E,C,G) (Z21 n ns vs tx)∧0=Ko (E,C,G) (Z21 n ns vs tx))))))))=_).mp ?_
 delta Z4 Z21 Z27 Z37 Z55 Z56 Z62 Z85 Z96 V2 Lq Y2 Dl Jpx Jb1 Jdi Jcq Lj Jcp Vj V1 Yr Jdg Jco D2 D1 Kx4 F3 Kxx D0 Fn Kxp Hi Hh Kxb L2 Zt Jde Jcn Khd Fm Jdd Ya Y1 Kry Kro J7z J7u J03 Br Iw Bd T2 Tw Sf Ln Gt E2 Jq
 intro hh hlt hsz hc ha
 obtain⟨u0,aE,aP⟩:=Jfz (k:=Jq) (by kernel_rfl) hc ha
 obtain⟨hn,hv,hR,_,n1,n2,n3,hG,hV⟩:=Hr hh hc
 simp only[Ke,List.length_cons,List.length_nil] at hn hv u0
 obtain⟨k0,u1⟩:=Jl u0
 have f0:=J1y (k0 rfl)
 have hs:Jn (J4 G) (n,Jq,ns,vs,tx)=(vs.getD 0 0,(Ff (J4 G) (n,Jq,ns,vs,tx)).2):=by simp only[Jn,doS,Ke]
 simp only[aE,aP,hs,hc,ha,hG,Hk,Jgv,Prod.eta]
 repeat' first|exact hV|exact hh|exact hR|exact hsz.2.2|apply And.intro|intro _
 all_goals first|trivial|omega|assumption|exact Nat.le_trans hR.nS (by decide)|exact Nat.le_trans hR.nO (by decide)|exact Nat.le_trans hR.nM (by decide)|exact Nat.le_trans hR.nX (by decide)|exact Nat.le_trans hR.nQ (by decide)|exact Nat.zero_le _|exact hsz.1|exact hsz.2.1|(rename_i h;have h:=of_decide_eq_true h;omega)|rfl|(rw[←Kj ‹_›];first|done|exact hR)|(rw[Kj ‹_›] at f0;exact f0)
def Kyd (a:Int) (b:Ls) (c:Li) (d:Bt):=(Fh Vj (Z16 a b c d)).2
def Kx0 (a:Int) (b:Ls) (c:Li) (d:Bt):=(Kyd a b c d).2
def Kxq (a:Int) (b:Ls) (c:Li) (d:Bt):=(Kx0 a b c d).2
def Kxh (a:Int) (b:Ls) (c:Li) (d:Bt):=(Kxq a b c d).2
def Kr1 (a:List Reg) (b:Int) (c:Ls) (d:Li) (e:Bt):=(Fh (Ya a) (Z16 b c d e)).2
def Krq (a:List Reg) (b:Int) (c:Ls) (d:Li) (e:Bt):=(Kr1 a b c d e).2
def J78 (a:List Reg) (b:Int) (c:Ls) (d:Li) (e:Bt):=(Krq a b c d e).2
def J7x (a:List Reg) (b:Int) (c:Ls) (d:Li) (e:Bt):=(J78 a b c d e).2
theorem Jj1:wpFO Tryz.prog W92.g (na ()) (fun _=>na ()) (Sx.look ([(75,Tryz.f75),(129,Tryz.f129)]:List (Nat×Func))) Tryz.f121 Jbw T (E,C,G) ((n,Kd,ns,vs,tx),()):=by
 refine(by kernel_rfl:(Kf (E,C,G)→Z37 E→Jao (Z16 n ns vs tx)→Jc (Z16 n ns vs tx)=0→Jpz E C G n ns vs tx=0→Jcn ns vs∧Br (Jc (Z16 n ns vs tx) !=0) (Sf true (Sf T ((E,C,G)=Uy (E,C,G) (Z16 n ns vs tx)∧Jc (Z16 n ns vs tx)=Ko (E,C,G) (Z16 n ns vs tx)))) ((Kf (E,C,G)∧Jc (Z16 n ns vs tx)=0)∧Br (Jpz E C G n ns vs tx !=0) (Sf true (Sf T ((E,C,G)=Uy (E,C,G) (Z16 n ns vs tx)∧Jpz E C G n ns vs tx=Ko (E,C,G) (Z16 n ns vs tx)))) (Jcq ns vs∧Jb1 E∧Br false (Z62 C∧Jde C G∧Sf true (Sf T ((E++[Z16 n ns vs tx],Jdg C G)=Uy (E,C,G) (Z16 n ns vs tx)∧0=Ko (E,C,G) (Z16 n ns vs tx)))) (Br (V2 G) (V1 G∧Jdd G∧(Y1 G∧Jx1 ns)∧Z96 vs∧D2 C G∧Sf true (Sf T ((E++[Z16 n ns vs tx],C++[Z16 n ns vs tx],G++[(Z85 vs,(Kr1 G n ns vs tx).1,(Krq G n ns vs tx).1,(J78 G n ns vs tx).1,(J7x G n ns vs tx).1,E2 (J7x G n ns vs tx).2)])=Uy (E,C,G) (Z16 n ns vs tx)∧0=Ko (E,C,G) (Z16 n ns vs tx)))) (Jcp∧(Yr∧Jx1 ns)∧Z96 vs∧D2 C G∧Sf true (Sf T ((E++[Z16 n ns vs tx],C++[Z16 n ns vs tx],G++[(Z85 vs,(Kyd n ns vs tx).1,(Kx0 n ns vs tx).1,(Kxq n ns vs tx).1,(Kxh n ns vs tx).1,E2 (Kxh n ns vs tx).2)])=Uy (E,C,G) (Z16 n ns vs tx)∧0=Ko (E,C,G) (Z16 n ns vs tx))))))))=_).mp ?_
 delta Z4 Z16 Z27 Z37 Z56 Z62 Z85 Z96 V2 Jx1 Dl Jpz Jb1 Jdi Jcq Lj Jcp Vj V1 Yr Jdg Jco D2 Kyd D1 Kx0 F3 D0 Kxq Fn Hi Kxh Hh L2 Zt Jde Jcn Fm Jdd Ya Y1 Kr1 Krq J78 J7x Br Iw Bd T2 Tw Sf Ln Gt E2 Kd
 intro hh hlt hsz hc ha
 obtain⟨u0,aE,aP⟩:=Jfz (k:=Kd) (by kernel_rfl) hc ha
 obtain⟨hn,hv,hR,_,n1,n2,n3,hG,hV⟩:=Hr hh hc
 simp only[Kt,List.length_cons,List.length_nil] at hn hv u0
 obtain⟨k0,u1⟩:=Jl u0
 obtain⟨k1,u2⟩:=Jl u1
 have f1:=J1y (k1 rfl)
 have hs:Jn (J4 G) (n,Kd,ns,vs,tx)=(vs.getD 0 0,(Fh (J4 G) (n,Kd,ns,vs,tx)).2):=by simp only[Jn,doS,Kt]
 simp only[aE,aP,hs,hc,ha,hG,Hk,Jgv,Prod.eta]
 repeat' first|exact hV|exact hh|exact hR|exact hsz.2.2|apply And.intro|intro _
 all_goals first|trivial|omega|assumption|exact Nat.le_trans hR.nS (by decide)|exact Nat.le_trans hR.nO (by decide)|exact Nat.le_trans hR.nM (by decide)|exact Nat.le_trans hR.nX (by decide)|exact Nat.le_trans hR.nQ (by decide)|exact Nat.zero_le _|exact hsz.1|exact hsz.2.1|(rename_i h;have h:=of_decide_eq_true h;omega)|rfl|(rw[←Kj ‹_›];first|done|exact hR)|(rw[Kj ‹_›] at f1;exact f1)
def Kyg (a:Int) (b:Ls) (c:Li) (d:Bt):=(Jf6 Vj (Z18 a b c d)).2
def Kya (a:Int) (b:Ls) (c:Li) (d:Bt):=(Kyg a b c d).2
def Kxu (a:Int) (b:Ls) (c:Li) (d:Bt):=(Kya a b c d).2
def Kxo (a:Int) (b:Ls) (c:Li) (d:Bt):=(Kxu a b c d).2
def Kr6 (a:List Reg) (b:Int) (c:Ls) (d:Li) (e:Bt):=(Jf6 (Ya a) (Z18 b c d e)).2
def Krz (a:List Reg) (b:Int) (c:Ls) (d:Li) (e:Bt):=(Kr6 a b c d e).2
def J79 (a:List Reg) (b:Int) (c:Ls) (d:Li) (e:Bt):=(Krz a b c d e).2
def J74 (a:List Reg) (b:Int) (c:Ls) (d:Li) (e:Bt):=(J79 a b c d e).2
theorem Jj0:wpFO Tryz.prog W92.g (na ()) (fun _=>na ()) (Sx.look ([(75,Tryz.f75),(129,Tryz.f129)]:List (Nat×Func))) Tryz.f121 Jbw T (E,C,G) ((n,Kc,ns,vs,tx),()):=by
 refine(by kernel_rfl:(Kf (E,C,G)→Z37 E→Jao (Z18 n ns vs tx)→Jc (Z18 n ns vs tx)=0→Jp0 E C G n ns vs tx=0→Jcn ns vs∧Br (Jc (Z18 n ns vs tx) !=0) (Sf true (Sf T ((E,C,G)=Uy (E,C,G) (Z18 n ns vs tx)∧Jc (Z18 n ns vs tx)=Ko (E,C,G) (Z18 n ns vs tx)))) ((Kf (E,C,G)∧Jc (Z18 n ns vs tx)=0)∧Br (Jp0 E C G n ns vs tx !=0) (Sf true (Sf T ((E,C,G)=Uy (E,C,G) (Z18 n ns vs tx)∧Jp0 E C G n ns vs tx=Ko (E,C,G) (Z18 n ns vs tx)))) (Jcq ns vs∧Jb1 E∧Br false (Z62 C∧Jde C G∧Sf true (Sf T ((E++[Z18 n ns vs tx],Jdg C G)=Uy (E,C,G) (Z18 n ns vs tx)∧0=Ko (E,C,G) (Z18 n ns vs tx)))) (Br (V2 G) (V1 G∧Jdd G∧J05 G ns∧Z96 vs∧D2 C G∧Sf true (Sf T ((E++[Z18 n ns vs tx],C++[Z18 n ns vs tx],G++[(Z85 vs,(Kr6 G n ns vs tx).1,(Krz G n ns vs tx).1,(J79 G n ns vs tx).1,(J74 G n ns vs tx).1,E2 (J74 G n ns vs tx).2)])=Uy (E,C,G) (Z18 n ns vs tx)∧0=Ko (E,C,G) (Z18 n ns vs tx)))) (Jcp∧Khr ns∧Z96 vs∧D2 C G∧Sf true (Sf T ((E++[Z18 n ns vs tx],C++[Z18 n ns vs tx],G++[(Z85 vs,(Kyg n ns vs tx).1,(Kya n ns vs tx).1,(Kxu n ns vs tx).1,(Kxo n ns vs tx).1,E2 (Kxo n ns vs tx).2)])=Uy (E,C,G) (Z18 n ns vs tx)∧0=Ko (E,C,G) (Z18 n ns vs tx))))))))=_).mp ?_
 delta Z4 Z18 Z27 Z37 Z56 Z62 Z85 Z96 V2 Lq Y2 Dl Jp0 Jb1 Jdi Jcq Lj Jcp Vj V1 Yr Jdg Jco D2 Kyg D1 Kya F3 D0 Kxu Fn Kxo Hi Hh L2 Zt Jde Jcn Khr Fm Jdd Ya Y1 Kr6 Krz J79 J74 J05 Br Iw Bd T2 Tw Sf Ln Gt E2 Kc
 intro hh hlt hsz hc ha
 obtain⟨u0,aE,aP⟩:=Jfz (k:=Kc) (by kernel_rfl) hc ha
 obtain⟨hn,hv,hR,_,n1,n2,n3,hG,hV⟩:=Hr hh hc
 simp only[Ks,List.length_cons,List.length_nil] at hn hv u0
 obtain⟨k0,u1⟩:=Jl u0
 have f0:=Kgp (k0 rfl)
 have hs:Jn (J4 G) (n,Kc,ns,vs,tx)=(vs.getD 0 0,(Jf6 (J4 G) (n,Kc,ns,vs,tx)).2):=by simp only[Jn,doS,Ks]
 simp only[aE,aP,hs,hc,ha,hG,Hk,Jgv,Prod.eta]
 repeat' first|exact hV|exact hh|exact hR|exact hsz.2.2|apply And.intro|intro _
 all_goals first|trivial|omega|assumption|exact Nat.le_trans hR.nS (by decide)|exact Nat.le_trans hR.nO (by decide)|exact Nat.le_trans hR.nM (by decide)|exact Nat.le_trans hR.nX (by decide)|exact Nat.le_trans hR.nQ (by decide)|exact Nat.zero_le _|exact hsz.1|exact hsz.2.1|(rename_i h;have h:=of_decide_eq_true h;omega)|rfl|(rw[←Kj ‹_›];first|done|exact hR)|(rw[Kj ‹_›] at f0;exact f0)
def Kye (a:Int) (b:Ls) (c:Li) (d:Bt):=(Jap Vj (Z20 a b c d)).2
def Kx3 (a:Int) (b:Ls) (c:Li) (d:Bt):=(Kye a b c d).2
def Kxt (a:Int) (b:Ls) (c:Li) (d:Bt):=(Kx3 a b c d).2
def Kxg (a:Int) (b:Ls) (c:Li) (d:Bt):=(Kxt a b c d).2
def Kr3 (a:List Reg) (b:Int) (c:Ls) (d:Li) (e:Bt):=(Jap (Ya a) (Z20 b c d e)).2
def Krs (a:List Reg) (b:Int) (c:Ls) (d:Li) (e:Bt):=(Kr3 a b c d e).2
def J75 (a:List Reg) (b:Int) (c:Ls) (d:Li) (e:Bt):=(Krs a b c d e).2
def J7y (a:List Reg) (b:Int) (c:Ls) (d:Li) (e:Bt):=(J75 a b c d e).2
theorem Jjz:wpFO Tryz.prog W92.g (na ()) (fun _=>na ()) (Sx.look ([(75,Tryz.f75),(129,Tryz.f129)]:List (Nat×Func))) Tryz.f121 Jbw T (E,C,G) ((n,Jg,ns,vs,tx),()):=by
 refine(by kernel_rfl:(Kf (E,C,G)→Z37 E→Jao (Z20 n ns vs tx)→Jc (Z20 n ns vs tx)=0→Jnx E C G n ns vs tx=0→Jcn ns vs∧Br (Jc (Z20 n ns vs tx) !=0) (Sf true (Sf T ((E,C,G)=Uy (E,C,G) (Z20 n ns vs tx)∧Jc (Z20 n ns vs tx)=Ko (E,C,G) (Z20 n ns vs tx)))) ((Kf (E,C,G)∧Jc (Z20 n ns vs tx)=0)∧Br (Jnx E C G n ns vs tx !=0) (Sf true (Sf T ((E,C,G)=Uy (E,C,G) (Z20 n ns vs tx)∧Jnx E C G n ns vs tx=Ko (E,C,G) (Z20 n ns vs tx)))) (Jcq ns vs∧Jb1 E∧Br false (Z62 C∧Jde C G∧Sf true (Sf T ((E++[Z20 n ns vs tx],Jdg C G)=Uy (E,C,G) (Z20 n ns vs tx)∧0=Ko (E,C,G) (Z20 n ns vs tx)))) (Br (V2 G) (V1 G∧Jdd G∧Jrz G vs∧Z96 vs∧D2 C G∧Sf true (Sf T ((E++[Z20 n ns vs tx],C++[Z20 n ns vs tx],G++[(Z85 vs,(Kr3 G n ns vs tx).1,(Krs G n ns vs tx).1,(J75 G n ns vs tx).1,(J7y G n ns vs tx).1,E2 (J7y G n ns vs tx).2)])=Uy (E,C,G) (Z20 n ns vs tx)∧0=Ko (E,C,G) (Z20 n ns vs tx)))) (Jcp∧J83 vs∧Z96 vs∧D2 C G∧Sf true (Sf T ((E++[Z20 n ns vs tx],C++[Z20 n ns vs tx],G++[(Z85 vs,(Kye n ns vs tx).1,(Kx3 n ns vs tx).1,(Kxt n ns vs tx).1,(Kxg n ns vs tx).1,E2 (Kxg n ns vs tx).2)])=Uy (E,C,G) (Z20 n ns vs tx)∧0=Ko (E,C,G) (Z20 n ns vs tx))))))))=_).mp ?_
 delta Z4 Z20 Z27 Z37 Z45 Z56 Z62 Z85 Z96 V2 Dl Jnx Jb1 Jdi Jcq Lj Jcp Vj V1 Yr Jdg Jco D2 Kye D1 Kx3 F3 D0 Kxt J83 Fn Hi Kxg Hh L2 Zt Jde Jcn Fm Jdd Ya Y1 Kr3 Krs Jrz J75 J7y Br Iw Bd T2 Tw Sf Ln Gt E2 Jg
 intro hh hlt hsz hc ha
 obtain⟨u0,aE,aP⟩:=Jfz (k:=Jg) (by kernel_rfl) hc ha
 obtain⟨hn,hv,hR,_,n1,n2,n3,hG,hV⟩:=Hr hh hc
 simp only[Um,List.length_cons,List.length_nil] at hn hv u0
 have hs:Jn (J4 G) (n,Jg,ns,vs,tx)=(vs.getD 0 0,(Jap (J4 G) (n,Jg,ns,vs,tx)).2):=by simp only[Jn,doS,Um]
 simp only[aE,aP,hs,hc,ha,hG,Hk,Jgv,Prod.eta]
 repeat' first|exact hV|exact hh|exact hR|exact hsz.2.2|apply And.intro|intro _
 all_goals first|trivial|omega|assumption|exact Nat.le_trans hR.nS (by decide)|exact Nat.le_trans hR.nO (by decide)|exact Nat.le_trans hR.nM (by decide)|exact Nat.le_trans hR.nX (by decide)|exact Nat.le_trans hR.nQ (by decide)|exact Nat.zero_le _|exact hsz.1|exact hsz.2.1|(rename_i h;have h:=of_decide_eq_true h;omega)|rfl|(rw[←Kj ‹_›];first|done|exact hR)
abbrev GG:Gam:=[(64,Kcn),(130,Xu.con Jpf),(81,J13),(216,Jf9 127 Xh),(217,Jf9 130 Yt),(218,Jf9 155 Xw),(219,Jf9 188 V5),(220,Jf9 235 Ys)]
theorem gG:Yn Tryz.prog GG:= .cons K1j (.cons Ka0 (.cons K1i (.cons Kaz (.cons Kay (.cons Kax (.cons Kaw (.cons Kav (.nil _))))))))
def Kcp:Xu:={Kgr with pre:=fun h (e,_)=>[Kf h,h.1.length<1000,Jao e,¬(Jc e=0∧Lh h e=0)]}
theorem Jsr (T:TypeId) (E C:List Ev) (G:List Reg) (n:Int) (k:ByteArray) (ns:List ByteArray) (vs:List Int) (tx:ByteArray):wpFO Tryz.prog GG (na ()) (fun _=>na ()) (Sx.look ([(75,Tryz.f75),(129,Tryz.f129)]:List (Nat×Func))) Tryz.f121 Kcp T (E,C,G) ((n,k,ns,vs,tx),()):=by
 refine(by kernel_rfl:(Kf (E,C,G)→Z37 E→Jao (n,k,ns,vs,tx)→(Z63 n k ns vs tx=0∧Lh (E,C,G) (n,k,ns,vs,tx)=0→False)→Jcn ns vs∧Br (Z63 n k ns vs tx !=0) (Sf true (Sf T ((E,C,G)=Uy (E,C,G) (n,k,ns,vs,tx)∧Z63 n k ns vs tx=Ko (E,C,G) (n,k,ns,vs,tx)))) ((Kf (E,C,G)∧Z63 n k ns vs tx=0)∧Br (Lh (E,C,G) (n,k,ns,vs,tx) !=0) (Sf true (Sf T ((E,C,G)=Uy (E,C,G) (n,k,ns,vs,tx)∧Lh (E,C,G) (n,k,ns,vs,tx)=Ko (E,C,G) (n,k,ns,vs,tx)))) (Jcq ns vs∧Jb1 E∧Br (Lb k Js) (Z62 C∧Jde C G∧Sf true (Sf T ((E++[(n,k,ns,vs,tx)],Jdg C G)=Uy (E,C,G) (n,k,ns,vs,tx)∧0=Ko (E,C,G) (n,k,ns,vs,tx)))) (Br (V2 G) (V1 G∧Jdd G∧Jxb 777 1) (Jcp∧Jxb 777 1)))))=_).mp ?_
 delta Z4 Z37 Z56 Z62 Z63 V2 Dl Jb1 Jdi Jcq Lj Jcp Vj V1 Jdg Jco D1 D0 Hi Hh L2 Zt Jde Jcn Jdd Br Iw Bd T2 Tw Sf Ln Gt Lb Js
 intro hh hlt hsz hx
 have n1:E.length≤1000:=hh.nE
 have e1:Jc (n,k,ns,vs,tx)≠0→Ko (E,C,G) (n,k,ns,vs,tx)=Jc (n,k,ns,vs,tx):=fun h=>by unfold Ko;rw[if_pos h]
 have e2:¬Jc (n,k,ns,vs,tx)≠0→Ko (E,C,G) (n,k,ns,vs,tx)=Lh (E,C,G) (n,k,ns,vs,tx):=fun h=>by unfold Ko;rw[if_neg h]
 have e3:Ko (E,C,G) (n,k,ns,vs,tx)≠0→Uy (E,C,G) (n,k,ns,vs,tx)=(E,C,G):=fun h=>by unfold Uy;rw[if_neg h]
 refine⟨⟨hsz.1,hsz.2.1,hsz.2.2⟩,fun h=> ?_,fun h=>⟨⟨hh, ?_⟩,fun h2=> ?_,fun h2=> ?_⟩⟩
 ·have h:Jc (n,k,ns,vs,tx)≠0:=bne_iff_ne.1 h
  exact⟨rfl,rfl,(e3 (by rw[e1 h];exact h)).symm,(e1 h).symm⟩
 ·exact bne_eq_false_iff_eq.1 h
 ·have h:Jc (n,k,ns,vs,tx)=0:=bne_eq_false_iff_eq.1 h
  have h2:Lh (E,C,G) (n,k,ns,vs,tx)≠0:=bne_iff_ne.1 h2
  have e4:=e2 (by rw[h];simp)
  exact⟨rfl,rfl,(e3 (by rw[e4];exact h2)).symm,e4.symm⟩
 ·exact absurd ⟨bne_eq_false_iff_eq.1 h,bne_eq_false_iff_eq.1 h2⟩ hx
theorem Jtz {f:FuncId} {c:Xu} {p1 p2:c.s.T→ATup c.args→List Prop} (h1:OkO Tryz.prog f {c with pre:=p1}) (h2:OkO Tryz.prog f {c with pre:=p2}) (h:∀x y,Uj (c.pre x y)→Uj (p1 x y)∨Uj (p2 x y)):OkO Tryz.prog f c:=
 ⟨h1.1,fun x y M R B w b T cells vals vs hB hMR hg hw hBb hMb hRb hT ho hv hpre ha=>(h x y hpre).elim (fun q=>h1.2 x y M R B w b T cells vals vs hB hMR hg hw hBb hMb hRb hT ho hv q ha) fun q=>h2.2 x y M R B w b T cells vals vs hB hMR hg hw hBb hMb hRb hT ho hv q ha⟩
theorem Kai (T:TypeId):∀(x:J2) (y:ATup [aEv]),wpFO Tryz.prog W92.g (na ()) (fun _=>na ()) (Sx.look ([(75,Tryz.f75),(129,Tryz.f129)]:List (Nat×Func))) Tryz.f121 Jbw T x y
 |(E,C,G),((n,k,ns,vs,tx),())=>by
  refine Jhj (by kernel_rfl) fun hp=> ?_
  have hc:Jc (n,k,ns,vs,tx)=0:=hp.2.2.2.1
  rcases U3 (K9 hc).kind with h|h|h|h|h|h|h|h|h|h|h<;>dsimp only at h<;>subst h
  ·exact Jqg T E C G n ns vs tx
  ·exact Jho T E C G n ns vs tx
  ·exact Jmc T E C G n ns vs tx
  ·exact Jmd T E C G n ns vs tx
  ·exact Jme T E C G n ns vs tx
  ·exact Jqh T E C G n ns vs tx
  ·exact Jj2 T E C G n ns vs tx
  ·exact Jhp T E C G n ns vs tx
  ·exact Jj1 T E C G n ns vs tx
  ·exact Jj0 T E C G n ns vs tx
  ·exact Jjz T E C G n ns vs tx
theorem okK:OkO Tryz.prog 121 Jbw:=Uc mixed W92.ok (by kernel_rfl) (by kernel_rfl) (Us (l:=([(75,Tryz.f75),(129,Tryz.f129)]:List (Nat×Func))) (List.forall_mem_cons.2 ⟨by kernel_rfl,List.forall_mem_cons.2 ⟨by kernel_rfl,by simp⟩⟩)) (fun _ _=>na ()) (fun _ _=>fun _=>na ()) fun T xx yy _=>Kai T xx yy
theorem okG:OkO Tryz.prog 121 Kcp:=Uc mixed gG (by kernel_rfl) (by kernel_rfl) (Us (l:=([(75,Tryz.f75),(129,Tryz.f129)]:List (Nat×Func))) (List.forall_mem_cons.2 ⟨by kernel_rfl,List.forall_mem_cons.2 ⟨by kernel_rfl,by simp⟩⟩)) (fun _ _=>na ()) (fun _ _=>fun _=>na ()) fun T xx yy _=>Jsr T xx.1 xx.2.1 xx.2.2 yy.1.1 yy.1.2.1 yy.1.2.2.1 yy.1.2.2.2.1 yy.1.2.2.2.2
theorem Kpq:Ok Tryz.prog 121 (Xu.con Kgr):=X0 (Jtz (c:=Kgr) okK okG fun x y hp=>by
 by_cases h:Jc y.1=0∧Lh x y.1=0
 ·exact .inl ⟨hp.1,hp.2.1,hp.2.2,h.1,h.2⟩
 ·exact .inr ⟨hp.1,hp.2.1,hp.2.2,h⟩)
abbrev W93:=W92.add Kpq
theorem Yi {α:Type} {p:α→Bool} {m:List α}:∀{l:List α} {k:Nat},0≤Vk p l k→Vk p (l++m) k=Vk p l k
 |[],k,h=>by simp[Vk] at h
 | x :: l, k, h => by
  show(if p x=true then(k:Int) else Vk p (l++m) (k+1))=(if p x=true then(k:Int) else Vk p l (k+1))
  have h:0≤(if p x=true then(k:Int) else Vk p l (k+1)):=h
  by_cases hp:p x=true
  ·rw[if_pos hp,if_pos hp]
  ·rw[if_neg hp] at h
   rw[if_neg hp,if_neg hp,Yi h]
theorem Dp {α:Type} {p:α→Bool} {y:α}:∀{l:List α} {i k:Nat},(∀x,l[i]? =some x→p y=p x)→Vk p (l.set i y) k=Vk p l k
 |[],_,_,_=>rfl
 |x::l,0,k,h=>by
  have:=h x rfl
  simp only[List.set_cons_zero]
  unfold Vk
  rw[this]
 |x::l,i+1,k,h=>by
  simp only[List.set_cons_succ]
  unfold Vk
  rw[Dp fun z hz=>h z (by simpa using hz)]
theorem Jeu {α:Type} {l:List α} {i:Nat} {d x:α} (h:l[i]? =some x):l.getD i d=x:=by
 rw[List.getD_eq_getElem?_getD,h];rfl
theorem Jbh {α:Type} {l:List α} {i:Nat} {y x:α} (h:x∈l.set i y):x=y∨x∈l:=by
 rcases List.mem_or_eq_of_mem_set h with h|h
 ·exact .inr h
 ·exact .inl h
theorem Vz {α:Type} {l:List α} {y x:α} (h:x∈l++[y]):x∈l∨x=y:=by
 rcases List.mem_append.1 h with h|h
 ·exact .inl h
 ·exact .inr (by simpa using h)
theorem Yd {b:Bool} {c:Int} (hc:c≠0) (h:(bif b then c else 0)=0):b=false:=by
 cases b with
 |true=>exact absurd h hc
 |false=>rfl
theorem Zn {a b:Int} (h:Je [a,b]=0):a=0∧b=0:=
 ⟨Uu.1 h _ (List.mem_cons_self ..),Uu.1 h _ (List.mem_cons_of_mem _ (List.mem_cons_self ..))⟩
theorem Fz {a b c:Int} (h:Je [a,b,c]=0):a=0∧b=0∧c=0:=
 ⟨Uu.1 h _ (by simp),Uu.1 h _ (by simp),Uu.1 h _ (by simp)⟩
theorem Jbg {O:List Ord} {s:ByteArray} (h:0≤Ku O s):Xz O s∈O:=by
 have:=Ux (l:=O) (s:=s)
 exact Jd (by omega)
theorem Jtx {X:List Out} {s:ByteArray} (h:0≤J5 X s):Lu X s∈X:=by
 have:=Uq (l:=X) (s:=s)
 exact Jd (by omega)
theorem Jmj {S:List Sta} {s:ByteArray} (h:0≤J0 S s):Hg S s∈S:=by
 have:=K1 (l:=S) (s:=s)
 exact Jd (by omega)
theorem J3p {Q:List Per} {s:ByteArray} (h:0≤Uz Q s):Jlw Q s∈Q:=by
 have:=Uw (l:=Q) (s:=s)
 exact Jd (by omega)
theorem Jcz.mono {S S':List Sta} {x:Ord} (h:Jcz S x) (hs:∀s,0≤J0 S s→0≤J0 S' s):Jcz S' x:=⟨h.span,h.pow,h.pri,h.trip,hs _ h.fr,hs _ h.tu⟩
theorem Jn1.mono {S S':List Sta} {x:Out} (h:Jn1 S x) (hs:∀s,0≤J0 S s→0≤J0 S' s):Jn1 S' x:=⟨h.span,h.rest,hs _ h.sta⟩
section
variable {tk st v:Int} {S:List Sta} {O:List Ord} {M:List Met} {X:List Out} {Q:List Per} {n:Int} {k tx:ByteArray} {ns:List ByteArray} {vs:List Int}
theorem Jqo (hr:Jj (tk,st,S,O,M,X,Q)) (hv:tk≤v∧v≤999999999) (hc:Jlh S vs=0) {a:ByteArray}:Jj (v,st,S++[(a,vs.getD 1 0,0)],O,M,X,Q):=by
 obtain⟨c1,c2⟩:=Zn hc
 have c1:=Yf.1 c1
 have c2:=of_decide_eq_false (Yd (by decide) c2)
 have hs:∀s,0≤J0 S s→0≤J0 (S++[(a,vs.getD 1 0,0)]) s:=fun s h=>by unfold J0 at h⊢;rw[Yi h];exact h
 have h0:=hr.tk
 have h1:=hr.st
 dsimp only at h0 h1
 refine⟨by dsimp only;omega,by dsimp only;omega,by dsimp only;rw[List.length_append,List.length_singleton];omega,hr.nO,hr.nM,hr.nX,hr.nQ,fun x hx=> ?_,fun x hx=>(hr.ord x hx).mono hs,hr.met,fun x hx=>(hr.out x hx).mono hs,hr.per,hr.done⟩
 rcases Vz hx with h|rfl
 ·exact hr.sta x h
 ·exact⟨c1,Int.le_refl 0,by show(0:Int)≤1000;decide⟩
theorem Jye (hr:Jj (tk,st,S,O,M,X,Q)) (hv:tk≤v∧v≤999999999) (hc:Jnk vs=0) {a:ByteArray} (ha:0≤J0 S a):Jj (v,st,S.set (J0 S a).toNat ((Hg S a).1,(Hg S a).2.1,vs.getD 1 0),O,M,X,Q):=by
 have c1:=Yf.1 hc
 have hs:∀s,0≤J0 S s→0≤J0 (S.set (J0 S a).toNat ((Hg S a).1,(Hg S a).2.1,vs.getD 1 0)) s:=fun s h=>by
  unfold J0 at h⊢
  rw[Dp fun x hx=> ?_]
  ·exact h
  ·have:=Jeu (d:=Jr2) hx
   show((Hg S a).1.toList==s.toList)=_
   unfold Hg J0
   rw[this]
 have h0:=hr.tk
 have h1:=hr.st
 dsimp only at h0 h1
 refine⟨by dsimp only;omega,by dsimp only;omega,by rw[List.length_set];exact hr.nS,hr.nO,hr.nM,hr.nX,hr.nQ,fun x hx=> ?_,fun x hx=>(hr.ord x hx).mono hs,hr.met,fun x hx=>(hr.out x hx).mono hs,hr.per,hr.done⟩
 rcases Jbh hx with rfl|h
 ·exact⟨(hr.sta _ (Jmj ha)).lim,c1⟩
 ·exact hr.sta x h
theorem Jyg (hr:Jj (tk,st,S,O,M,X,Q)) (hv:tk≤v∧v≤999999999) (hm:M.length<10000) (ho:0≤Ku O (ns.getD 0 Jb)) (hb:∀i,i<4→0≤vs.getD i 0∧vs.getD i 0≤999999999) (hc:Jli O M ns vs=0):Jj (v,st,S,O,M++[(ns.getD 0 Jb,vs.getD 1 0,vs.getD 2 0,vs.getD 3 0)],X,Q):=by
 have h5:=Yd (by decide) (Uu.1 hc _ (List.mem_cons_of_mem _ (List.mem_cons_of_mem _ (List.mem_cons_of_mem _ (List.mem_cons_of_mem _ (List.mem_cons_self ..))))))
 have h6:=bn1 h5
 have p1:=of_decide_eq_false h6.1
 have p2:=of_decide_eq_false h6.2
 have hp:1≤(Xz O (ns.getD 0 Jb)).2.2.2.2.1∧(Xz O (ns.getD 0 Jb)).2.2.2.2.1≤1000:=(hr.ord _ (Jbg ho)).pow
 have h0:=hr.tk
 have h1:=hr.st
 dsimp only at h0 h1
 have b1:=hb 1 (by omega)
 have b2:=hb 2 (by omega)
 have b3:=hb 3 (by omega)
 refine⟨by dsimp only;omega,by dsimp only;omega,hr.nS,hr.nO,by dsimp only;rw[List.length_append,List.length_singleton];omega,hr.nX,hr.nQ,hr.sta,hr.ord,fun x hx=> ?_,hr.out,hr.per,fun x hx h e1 e2=> ?_⟩
 ·rcases Vz hx with h|rfl
  ·exact hr.met x h
  ·exact⟨b1,⟨b2.1,by dsimp only;omega⟩,⟨b3.1,by dsimp only;omega⟩⟩
 ·have:=hr.done x hx h e1 e2
  unfold K7 at this⊢
  dsimp only at this⊢
  rw[Yi this];exact this
theorem Jn8 {e:Ev} (hv:EvV e) (hl:e.2.2.2.1.length=4) (hc:Zf e=0):Jls (Vr e)∧e.2.2.2.1.getD 0 0≤(Vr e).1:=by
 have h:=Yd (by decide) hc
 have h1:=bn1 h
 have h2:=bn1 h1.1
 have e1:=of_decide_eq_false h2.1
 have e2:=of_decide_eq_false h2.2
 have e3:=of_decide_eq_false h1.2
 have v1:0≤(Vr e).1∧(Vr e).1≤999999999:=hv _ (Jd (by omega))
 have v2:0≤(Vr e).2∧(Vr e).2≤999999999:=hv _ (Jd (by omega))
 exact⟨⟨v1.1,by omega,v2.2,by omega⟩,by omega⟩
theorem Jyf (hr:Jj (tk,st,S,O,M,X,Q)) (hv:tk≤v∧v≤999999999) (hvs:v=vs.getD 0 0) (hE:EvV (n,k,ns,vs,tx)) (hl:vs.length=4) (h1:0≤J0 S (ns.getD 1 Jb)) (h2:0≤J0 S (ns.getD 2 Jb)) (hc:Jbv S O X (n,k,ns,vs,tx)=0):Jj (v,st,S,O++[(ns.getD 0 Jb,ns.getD 1 Jb,ns.getD 2 Jb,Vr (n,k,ns,vs,tx),vs.getD 3 0,(Hg S (ns.getD 1 Jb)).2.2,-1)],M,X,Q):=by
 have hk:¬Jg5 (n,k,ns,vs,tx)≠0:=fun h=>by unfold Jbv at hc;rw[if_pos h] at hc;exact h hc
 unfold Jbv at hc
 rw[if_neg hk] at hc
 obtain⟨c1,c2⟩:=Zn hc
 have c2:=of_decide_eq_false (Yd (by decide) c2)
 obtain⟨d1,d2,d3⟩:=Fz (show Je [_,Zf (n,k,ns,vs,tx),Kb (vs.getD 3 0) 1 1000]=0 from Decidable.of_not_not hk)
 have d3:=Yf.1 d3
 obtain⟨sp,sv⟩:=Jn8 hE hl d2
 have sv:vs.getD 0 0≤(Vr (n,k,ns,vs,tx)).1:=sv
 have g0:=hr.tk
 have g1:=hr.st
 dsimp only at g0 g1
 refine⟨by dsimp only;omega,by dsimp only;omega,hr.nS,by dsimp only;rw[List.length_append,List.length_singleton];omega,hr.nM,hr.nX,hr.nQ,hr.sta,fun x hx=> ?_,hr.met,hr.out,hr.per,fun x hx hh e1 e2=> ?_⟩
 ·rcases Vz hx with h|rfl
  ·exact hr.ord x h
  ·exact⟨sp,d3,(hr.sta _ (Jmj h1)).pri,⟨Int.le_refl _,by show(-1:Int)≤999999999;decide⟩,h1,h2⟩
 ·rcases Vz hx with h|rfl
  ·exact hr.done x h hh e1 e2
  ·exfalso
   unfold J1 Kn at e1
   dsimp only at e1 e2
   cases h3:decide ((Vr (n,k,ns,vs,tx)).1≤hh) with
   |true=>have:=of_decide_eq_true h3;omega
   |false=>rw[h3] at e1;cases e1
theorem Js7 (hr:Jj (tk,st,S,O,M,X,Q)) (hv:tk≤v∧v≤999999999) (hE:EvV (n,k,ns,vs,tx)) (hl:vs.length=4) (h1:0≤J0 S (ns.getD 1 Jb)) (hc:Jbu S O X (n,k,ns,vs,tx)=0):Jj (v,st,S,O,M,X++[(ns.getD 0 Jb,ns.getD 1 Jb,Vr (n,k,ns,vs,tx),vs.getD 3 0)],Q):=by
 have hk:¬Jg4 S (n,k,ns,vs,tx)≠0:=fun h=>by unfold Jbu at hc;rw[if_pos h] at hc;exact h hc
 unfold Jbu at hc
 rw[if_neg hk] at hc
 obtain⟨c1,c2⟩:=Zn hc
 have c2:=of_decide_eq_false (Yd (by decide) c2)
 obtain⟨d2,d3⟩:=Zn (show Je [Zf (n,k,ns,vs,tx),bif decide ((Hg S (ns.getD 1 Jb)).2.1≤vs.getD 3 0) then 3 else 0]=0 from Decidable.of_not_not hk)
 have d3:=of_decide_eq_false (Yd (by decide) d3)
 obtain⟨sp,sv⟩:=Jn8 hE hl d2
 have hl3:(Hg S (ns.getD 1 Jb)).2.1≤1000:=(hr.sta _ (Jmj h1)).lim.2
 have v3:0≤vs.getD 3 0∧vs.getD 3 0≤999999999:=hE _ (Jd (show 3<vs.length by omega))
 have hf:∀s,0≤J5 X s→0≤J5 (X++[(ns.getD 0 Jb,ns.getD 1 Jb,Vr (n,k,ns,vs,tx),vs.getD 3 0)]) s:=fun s h=>by unfold J5 at h⊢;rw[Yi h];exact h
 have g0:=hr.tk
 have g1:=hr.st
 dsimp only at g0 g1
 refine⟨by dsimp only;omega,by dsimp only;omega,hr.nS,hr.nO,hr.nM,by dsimp only;rw[List.length_append,List.length_singleton];omega,hr.nQ,hr.sta,hr.ord,hr.met,fun x hx=> ?_,fun x hx=>hf _ (hr.per x hx),hr.done⟩
 rcases Vz hx with h|rfl
 ·exact hr.out x h
 ·exact⟨sp,⟨v3.1,by dsimp only;omega⟩,h1⟩
theorem J3d (hr:Jj (tk,st,S,O,M,X,Q)) (hv:tk≤vs.getD 0 0∧vs.getD 0 0≤999999999) (ho:0≤Ku O (ns.getD 0 Jb)) (hc:Jcg O ns vs=0):Jj (vs.getD 0 0,st,S,Fq O (ns.getD 0 Jb) (vs.getD 0 0),M,X,Q):=by
 have h1:=bn1 (Yd (by decide) hc)
 have c1:(Xz O (ns.getD 0 Jb)).2.2.2.2.2.2= -1:=bne_eq_false_iff_eq.1 h1.1
 have hm:=Jbg ho
 have g0:=hr.tk
 have g1:=hr.st
 dsimp only at g0 g1
 have ox:Jcz S (Xz O (ns.getD 0 Jb)):=hr.ord _ hm
 refine⟨by dsimp only;omega,by dsimp only;omega,hr.nS,by unfold Fq;rw[List.length_set];exact hr.nO,hr.nM,hr.nX,hr.nQ,hr.sta,fun x hx=> ?_,hr.met,hr.out,hr.per,fun x hx hh e1 e2=> ?_⟩
 ·rcases Jbh hx with rfl|h
  ·exact⟨ox.span,ox.pow,ox.pri,⟨by dsimp only;omega,hv.2⟩,ox.fr,ox.tu⟩
  ·exact hr.ord x h
 ·rcases Jbh hx with rfl|h
  ·refine hr.done _ hm hh ?_ e2
   unfold J1 at e1⊢
   rw[c1]
   have e1:(bif Kn (Xz O (ns.getD 0 Jb)).2.2.2.1 hh then _ else false)=true:=e1
   cases h3:Kn (Xz O (ns.getD 0 Jb)).2.2.2.1 hh with
   |true=>rfl
   |false=>rw[h3] at e1;cases e1
  ·exact hr.done x h hh e1 e2
theorem Jqp (hr:Jj (tk,st,S,O,M,X,Q)) (hv:tk≤vs.getD 0 0∧vs.getD 0 0≤999999999) (ho:0≤J5 X (ns.getD 0 Jb)) (hc:Jch X Q ns vs=0):Jj (vs.getD 0 0,st,S,O,M,Jds X (ns.getD 0 Jb) (vs.getD 0 0),Q):=by
 obtain⟨c1,c2,c3⟩:=Fz hc
 have c1:=of_decide_eq_false (Yd (by decide) c1)
 have c2:=of_decide_eq_false (Yd (by decide) c2)
 have hm:=Jtx ho
 have ox:Jn1 S (Lu X (ns.getD 0 Jb)):=hr.out _ hm
 have l1:=ox.span.lo
 have l2:=ox.span.len
 have g0:=hr.tk
 have g1:=hr.st
 dsimp only at g0 g1
 have hf:∀s,0≤J5 X s→0≤J5 (Jds X (ns.getD 0 Jb) (vs.getD 0 0)) s:=fun s h=>by
  unfold Jds
  unfold J5 at h⊢
  rw[Dp fun x hx=> ?_]
  ·exact h
  ·have:=Jeu (d:=Ja3) hx
   show((Lu X (ns.getD 0 Jb)).1.toList==s.toList)=_
   unfold Lu J5
   rw[this]
 refine⟨by dsimp only;omega,by dsimp only;omega,hr.nS,hr.nO,hr.nM,by unfold Jds;rw[List.length_set];exact hr.nX,hr.nQ,hr.sta,hr.ord,hr.met,fun x hx=> ?_,fun x hx=>hf _ (hr.per x hx),hr.done⟩
 rcases Jbh hx with rfl|h
 ·exact⟨⟨l1,by dsimp only;omega,hv.2,by dsimp only;omega⟩,ox.rest,ox.sta⟩
 ·exact hr.out x h
theorem Js6 (hr:Jj (tk,st,S,O,M,X,Q)) (hv:tk≤v∧v≤999999999) (ho:0≤J5 X (ns.getD 1 Jb)) (hc:Jci X Q ns vs=0):Jj (v,st,S,O,M,X,Q++[(ns.getD 0 Jb,ns.getD 1 Jb,true)]):=by
 have c2:=of_decide_eq_false (Yd (by decide) (Zn hc).2)
 have g0:=hr.tk
 have g1:=hr.st
 dsimp only at g0 g1
 refine⟨by dsimp only;omega,by dsimp only;omega,hr.nS,hr.nO,hr.nM,hr.nX,by dsimp only;rw[List.length_append,List.length_singleton];omega,hr.sta,hr.ord,hr.met,hr.out,fun x hx=> ?_,hr.done⟩
 rcases Vz hx with h|rfl
 ·exact hr.per x h
 ·exact ho
theorem Js5 (hr:Jj (tk,st,S,O,M,X,Q)) (hv:tk≤v∧v≤999999999) {a:ByteArray} (ho:0≤Uz Q a):Jj (v,st,S,O,M,X,Fr Q a):=by
 have g0:=hr.tk
 have g1:=hr.st
 dsimp only at g0 g1
 refine⟨by dsimp only;omega,by dsimp only;omega,hr.nS,hr.nO,hr.nM,hr.nX,by unfold Fr;rw[List.length_set];exact hr.nQ,hr.sta,hr.ord,hr.met,hr.out,fun x hx=> ?_,hr.done⟩
 rcases Jbh hx with rfl|h
 ·exact hr.per (Jlw Q a) (J3p ho)
 ·exact hr.per x h
theorem Jku {u:Int} {x:Ord}:∀{m:Nat} {a:Int},Lw M u x a m=[]→∀h,a≤h→h<a+m→(J1 x h&&(decide (h<u)&&decide (K7 M x.1 h<0)))=false
 |0,a,_,h,h1,h2=>by omega
 | m + 1, a, e, h, h1, h2 => by
  unfold Lw at e
  obtain⟨e1,e2⟩:=List.append_eq_nil_iff.1 e
  by_cases ha:h=a
  ·subst ha
   cases hb:J1 x h&&(decide (h<u)&&decide (K7 M x.1 h<0)) with
   |false=>rfl
   |true=>rw[hb] at e1;cases e1
  ·exact Jku e2 h (by omega) (by push_cast at h2;omega)
theorem Jks {u:Int}:∀{O:List Ord},Km M u O=[]→∀x∈O,Jt7 M u x=[]
 |[],_,x,hx=>by cases hx
 |y::l,e,x,hx=>by
  unfold Km at e
  obtain⟨e1,e2⟩:=List.append_eq_nil_iff.1 e
  rcases List.mem_cons.1 hx with rfl|hx
  ·exact e1
  ·exact Jks e2 x hx
theorem Ju7 {x:Ord} {h:Int} (e:J1 x h=true):x.2.2.2.1.1≤h∧h<x.2.2.2.1.2:=by
 unfold J1 Kn at e
 cases h1:decide (x.2.2.2.1.1≤h) with
 |false=>rw[h1] at e;cases e
 |true=>
  cases h2:decide (h<x.2.2.2.1.2) with
  |false=>rw[h1,h2] at e;cases e
  |true=>exact⟨of_decide_eq_true h1,of_decide_eq_true h2⟩
theorem Js4 (hr:Jj (tk,st,S,O,M,X,Q)) (hv:tk≤vs.getD 0 0∧vs.getD 0 0≤999999999) (hc:Lm st O M X Q vs=0):Jj (vs.getD 0 0,vs.getD 1 0,S,O,M,X,Q):=by
 unfold Lm at hc
 cases h1:(bif decide (vs.getD 1 0≤st) then true else decide (vs.getD 0 0<vs.getD 1 0)) with
 |true=>rw[h1] at hc;cases hc
 |false=>
  rw[h1,cond_false] at hc
  have h2:=bn1 h1
  have d1:=of_decide_eq_false h2.1
  have d2:=of_decide_eq_false h2.2
  have h3:=of_decide_eq_false (bn1 (Yd (by decide) hc)).1
  have h4:Km M (vs.getD 1 0) O=[]:=List.eq_nil_of_length_eq_zero (by omega)
  have g0:=hr.tk
  have g1:=hr.st
  dsimp only at g0 g1
  refine⟨by dsimp only;omega,by dsimp only;omega,hr.nS,hr.nO,hr.nM,hr.nX,hr.nQ,hr.sta,hr.ord,hr.met,hr.out,hr.per,fun x hx hh e1 e2=> ?_⟩
  have hi:=Ju7 e1
  have h5:=Jku (Jks h4 x hx) hh hi.1 (by omega)
  have e2:hh<vs.getD 1 0:=e2
  rw[e1,decide_eq_true e2,Bool.true_and,Bool.true_and] at h5
  have:=of_decide_eq_false h5
  show 0≤K7 M x.1 hh
  omega
end
theorem J3a {h:J2} {e:Ev} (hh:Kf h) (hm:(J4 h.2.2).2.2.2.2.1.length<10000) (hc:Jc e=0) (ha:Lh h e=0) (hk:(e.2.1.toList==Js.toList)=false):Jj (Jn (J4 h.2.2) e):=by
 obtain⟨n,k,ns,vs,tx⟩:=e
 have hE:=K9 hc
 have eK:=Yl (h:=h) (n:=n) (k:=k) (ns:=ns) (vs:=vs) (tx:=tx) hk
 rw[ha] at eK
 obtain⟨_,z2,z3,z4,z5⟩:=Dk eK.symm
 have hr:=Yq hh
 clear eK ha z4
 generalize J4 h.2.2=r at*
 obtain⟨tk,st,S,O,M,X,Q⟩:=r
 have z2:¬vs.getD 0 0<tk:=z2
 have hm:M.length<10000:=hm
 have hn:ns.length=(Ji k).1.length:=hE.nn
 have hvl:(vs.length:Int)=(Ji k).2.1:=hE.nv
 have hx:∀i,i<vs.length→(0≤vs.getD i 0∧vs.getD i 0≤999999999):=fun i hi=>hE.val _ (Jd hi)
 have hV:EvV (n,k,ns,vs,tx):=hE.val
 have hkd:=U3 hE.kind
 dsimp only at hkd hk
 clear hE hc hh
 rcases hkd with h|h|h|h|h|h|h|h|h|h|h<;>subst h
 ·exact absurd hk (by rw[show(Js.toList==Js.toList)=true from by kernel_rfl];decide)
 ·simp only[Ky,List.length_cons,List.length_nil] at hn hvl z3
  simp only[ckS,Ky] at z5
  obtain⟨k0,z3⟩:=Jl z3
  have e:Jn (tk,st,S,O,M,X,Q) (n,Jt,ns,vs,tx)=(vs.getD 0 0,(Jaq (tk,st,S,O,M,X,Q) (n,Jt,ns,vs,tx)).2):=by unfold Jn doS;simp only[Ky]
  rw[e]
  have hv:tk≤vs.getD 0 0∧vs.getD 0 0≤999999999:=⟨by omega,(hx 0 (by omega)).2⟩
  exact Jqo hr hv z5
 ·simp only[U6,List.length_cons,List.length_nil] at hn hvl z3
  simp only[ckS,U6] at z5
  obtain⟨k0,z3⟩:=Jl z3
  have e:Jn (tk,st,S,O,M,X,Q) (n,Ua,ns,vs,tx)=(vs.getD 0 0,(Fe (tk,st,S,O,M,X,Q) (n,Ua,ns,vs,tx)).2):=by unfold Jn doS;simp only[U6]
  rw[e]
  have hv:tk≤vs.getD 0 0∧vs.getD 0 0≤999999999:=⟨by omega,(hx 0 (by omega)).2⟩
  exact Jye hr hv z5 (Jrd (k0 rfl))
 ·simp only[Uo,List.length_cons,List.length_nil] at hn hvl z3
  simp only[ckS,Uo] at z5
  obtain⟨k0,z3⟩:=Jl z3
  obtain⟨k1,z3⟩:=Jl z3
  obtain⟨k2,z3⟩:=Jl z3
  have e:Jn (tk,st,S,O,M,X,Q) (n,Kk,ns,vs,tx)=(vs.getD 0 0,(Fi (tk,st,S,O,M,X,Q) (n,Kk,ns,vs,tx)).2):=by unfold Jn doS;simp only[Uo]
  rw[e]
  have hv:tk≤vs.getD 0 0∧vs.getD 0 0≤999999999:=⟨by omega,(hx 0 (by omega)).2⟩
  exact Jyf hr hv rfl hV (by omega) (Jrd (k1 rfl)) (Jrd (k2 rfl)) z5
 ·simp only[Up,List.length_cons,List.length_nil] at hn hvl z3
  simp only[ckS,Up] at z5
  obtain⟨k0,z3⟩:=Jl z3
  have e:Jn (tk,st,S,O,M,X,Q) (n,K2,ns,vs,tx)=(vs.getD 0 0,(Fj (tk,st,S,O,M,X,Q) (n,K2,ns,vs,tx)).2):=by unfold Jn doS;simp only[Up]
  rw[e]
  have hv:tk≤vs.getD 0 0∧vs.getD 0 0≤999999999:=⟨by omega,(hx 0 (by omega)).2⟩
  exact Jyg hr hv hm (J1z (k0 rfl)) (fun i hi=>hx i (by omega)) z5
 ·simp only[Vf,List.length_cons,List.length_nil] at hn hvl z3
  simp only[ckS,Vf] at z5
  obtain⟨k0,z3⟩:=Jl z3
  have e:Jn (tk,st,S,O,M,X,Q) (n,Vl,ns,vs,tx)=(vs.getD 0 0,(Fd (tk,st,S,O,M,X,Q) (n,Vl,ns,vs,tx)).2):=by unfold Jn doS;simp only[Vf]
  rw[e]
  have hv:tk≤vs.getD 0 0∧vs.getD 0 0≤999999999:=⟨by omega,(hx 0 (by omega)).2⟩
  exact J3d hr hv (J1z (k0 rfl)) z5
 ·simp only[Kq,List.length_cons,List.length_nil] at hn hvl z3
  simp only[ckS,Kq] at z5
  obtain⟨k0,z3⟩:=Jl z3
  obtain⟨k1,z3⟩:=Jl z3
  have e:Jn (tk,st,S,O,M,X,Q) (n,Ju,ns,vs,tx)=(vs.getD 0 0,(Fg (tk,st,S,O,M,X,Q) (n,Ju,ns,vs,tx)).2):=by unfold Jn doS;simp only[Kq]
  rw[e]
  have hv:tk≤vs.getD 0 0∧vs.getD 0 0≤999999999:=⟨by omega,(hx 0 (by omega)).2⟩
  exact Js7 hr hv hV (by omega) (Jrd (k1 rfl)) z5
 ·simp only[Ke,List.length_cons,List.length_nil] at hn hvl z3
  simp only[ckS,Ke] at z5
  obtain⟨k0,z3⟩:=Jl z3
  have e:Jn (tk,st,S,O,M,X,Q) (n,Jq,ns,vs,tx)=(vs.getD 0 0,(Ff (tk,st,S,O,M,X,Q) (n,Jq,ns,vs,tx)).2):=by unfold Jn doS;simp only[Ke]
  rw[e]
  have hv:tk≤vs.getD 0 0∧vs.getD 0 0≤999999999:=⟨by omega,(hx 0 (by omega)).2⟩
  exact Jqp hr hv (J1y (k0 rfl)) z5
 ·simp only[Kt,List.length_cons,List.length_nil] at hn hvl z3
  simp only[ckS,Kt] at z5
  obtain⟨k0,z3⟩:=Jl z3
  obtain⟨k1,z3⟩:=Jl z3
  have e:Jn (tk,st,S,O,M,X,Q) (n,Kd,ns,vs,tx)=(vs.getD 0 0,(Fh (tk,st,S,O,M,X,Q) (n,Kd,ns,vs,tx)).2):=by unfold Jn doS;simp only[Kt]
  rw[e]
  have hv:tk≤vs.getD 0 0∧vs.getD 0 0≤999999999:=⟨by omega,(hx 0 (by omega)).2⟩
  exact Js6 hr hv (J1y (k1 rfl)) z5
 ·simp only[Ks,List.length_cons,List.length_nil] at hn hvl z3
  simp only[ckS,Ks] at z5
  obtain⟨k0,z3⟩:=Jl z3
  have e:Jn (tk,st,S,O,M,X,Q) (n,Kc,ns,vs,tx)=(vs.getD 0 0,(Jf6 (tk,st,S,O,M,X,Q) (n,Kc,ns,vs,tx)).2):=by unfold Jn doS;simp only[Ks]
  rw[e]
  have hv:tk≤vs.getD 0 0∧vs.getD 0 0≤999999999:=⟨by omega,(hx 0 (by omega)).2⟩
  exact Js5 hr hv (Kgp (k0 rfl))
 ·simp only[Um,List.length_cons,List.length_nil] at hn hvl z3
  simp only[ckS,Um] at z5
  have e:Jn (tk,st,S,O,M,X,Q) (n,Jg,ns,vs,tx)=(vs.getD 0 0,(Jap (tk,st,S,O,M,X,Q) (n,Jg,ns,vs,tx)).2):=by unfold Jn doS;simp only[Um]
  rw[e]
  have hv:tk≤vs.getD 0 0∧vs.getD 0 0≤999999999:=⟨by omega,(hx 0 (by omega)).2⟩
  exact Js4 hr hv z5
theorem J4c {r:Reg} {e:Ev}:(doS r e).2.2.2.2.1.length≤r.2.2.2.2.1.length+1:=by
 obtain⟨tk,st,S,O,M,X,Q⟩:=r
 obtain⟨n,k,ns,vs,tx⟩:=e
 unfold doS
 split<;>first|exact Nat.le_succ _|(show(M++[_]).length≤M.length+1;simp)
structure Vp (h:J2):Prop where
 ok:Kf h
 met:∀r∈h.2.2,r.2.2.2.2.1.length≤h.1.length
theorem Jt1 {h:J2} (hi:Vp h):(J4 h.2.2).2.2.2.2.1.length≤h.1.length:=by
 unfold J4
 by_cases h0:0<h.2.2.length
 ·exact hi.met _ (Jd (by omega))
 ·have:h.2.2=[]:=List.eq_nil_of_length_eq_zero (by omega)
  rw[this];exact Nat.zero_le _
theorem add_zero {h:J2} {e:Ev} (ha:Ko h e=0):Jc e=0∧Lh h e=0:=by
 unfold Ko at ha
 by_cases hc:Jc e≠0
 ·rw[if_pos hc] at ha;exact absurd ha hc
 ·rw[if_neg hc] at ha;exact⟨Decidable.of_not_not hc,ha⟩
theorem Di {h:J2} {e:Ev} (hi:Vp h) (hl:h.1.length<1000) (ha:Ko h e=0):Vp (Zb h e):=by
 obtain⟨hc,hacc⟩:=add_zero ha
 obtain⟨E,C,G⟩:=h
 obtain⟨n1,n2,n3,hr⟩:=hi.ok
 have hm:=Jt1 hi
 dsimp only at n1 n2 n3 hr hl hm
 cases hk:e.2.1.toList==Js.toList with
 |true=>
  unfold Zb
  rw[hk,cond_true]
  refine⟨⟨by simp;omega,by simp;omega,by simp;omega,fun r hx=>hr r (List.mem_of_mem_take hx)⟩,fun r hx=> ?_⟩
  have:r.2.2.2.2.1.length≤E.length:=hi.met r (List.mem_of_mem_take hx)
  simp only[List.length_append,List.length_singleton]
  omega
 | false =>
  have hs:=J3a hi.ok (Nat.lt_of_le_of_lt hm (by omega)) hc hacc hk
  unfold Zb
  rw[hk,cond_false]
  refine⟨⟨by simp;omega,by simp;omega,by simp;omega,fun r hx=> ?_⟩,fun r hx=> ?_⟩
  ·rcases Vz hx with h|rfl
   ·exact hr r h
   ·exact hs
  ·rcases Vz hx with h|rfl
   ·have:r.2.2.2.2.1.length≤E.length:=hi.met r h
    simp only[List.length_append,List.length_singleton]
    omega
   ·have:=J4c (r:=J4 G) (e:=e)
    simp only[List.length_append,List.length_singleton]
    show(doS (J4 G) e).2.2.2.2.1.length≤_
    omega
theorem Xi {h:J2} {e:Ev}:(Zb h e).1.length=h.1.length+1:=by
 unfold Zb
 cases e.2.1.toList==Js.toList<;>simp
def Vt:J2:=([],[],[])
theorem Vh:Vp Vt:=⟨⟨by decide,by decide,rfl,fun _ h=>(by cases h)⟩,fun _ h=>(by cases h)⟩
def X7:J2→List Ev→J2×Int×Int
 |h,[]=>(h,0,0)
 |h,e::l=>if Ko h e=0 then X7 (Zb h e) l else(h,h.1.length+1,Ko h e)
def Ja (l:List Ev):J2×Int×Int:=if 1000<l.length then(Vt,0,5) else X7 Vt l
def Jx (l:List Ev):Reg:=if(Ja l).2.2=0 then J4 (Ja l).1.2.2 else K5
def lOk (l:List Ev):Prop:=l.length≤1000000∧∀e∈l,Jao e
def J4j:Con:={args:=[.val false (.list 67 sEv)],ress:=[(true,Jfw),I,I],owns:=[],pre:=fun(l,_)=>[lOk l],spec:=fun(l,_)=>(Jx l,(Ja l).2.1,(Ja l).2.2,())}
abbrev Jjo:List SC:=[.int .i64 0, .int .i64 0, .val (.slice none 0 0), .val (.slice none 0 0), .val (.slice none 0 0), .val (.slice none 0 0), .val (.slice none 0 0)]
abbrev Kcx (l:List Ev):Ann:={X:=J2×Nat,σ:=fun(h,k)=>⟨7,[(5, .one (.ptr 3 0)),(14, .one (.sl 0)),(15, .one (.int .i64 l.length)),(16, .one (.int .i64 k))],[(0, .imm 67 sEv l),(1, .box 105 Jjo),(2, .sus [(2, .one (.ptr 1 0))]),(3, .box 167 [.sl 4, .sl 5, .sl 6]),(4, .own 67 sEv h.1),(5, .own 67 sEv h.2.1),(6, .own 105 Jfw h.2.2)]⟩,inv:=fun(h,k)=>Vp h∧h.1.length=k∧k≤l.length∧l.length≤1000∧X7 h (l.drop k)=Ja l,mu:=fun(_,k)=>l.length-k}
def Z26 (a:J2×Nat) (b:List Ev):=Bd (Nc a.2) (Ln b)
def Z31 (a:J2×Nat):=Iw (Nc a.2+1)
def Z82 (a:J2×Nat) (b:List Ev):=Tw (Z26 a b)
def Z87 (a:List Ev):=decide (1000<Ln a)
def Jsj (a:J2×Nat) (b:List Ev):=decide (Nc a.2<Ln b)
def Jl1 (a:J2×Nat) (b:(List Ev×List Ev×List Reg)×Nat):=Nc a.2+1=Nc b.2
def Jo:=Value.slice none 0 0
def J2w (a:J2×Nat) (b:List Ev):=Nc a.2+1=(Ja b).2.1
def Jp5 (a:J2×Nat):=(a.1.1,E2 a.1.2)
def J0q (a:J2×Nat):=Kf (Jp5 a)
def Kfw (a:List Ev):=0=(Ja a).2.1∧0=(Ja a).2.2
def J0k (a:List Ev) (b:J2×Nat):=List.getD a b.2 Lz
def J0j (a:List Ev) (b:J2×Nat):=(J0k a b).2
def Jwo (a:List Ev) (b:J2×Nat):=(J0j a b).2
def Jnw (a:List Ev):=Vj=Jx a
def Kjy (a:J2×Nat):=Iw (Ln a.1.2.2-1)∧Tw (Bd (Ln a.1.2.2-1) (Ln a.1.2.2))
def J2g (a:(List Ev×List Ev×List Reg)×Nat):=List.length a.1.1=0∧List.length a.1.2.1=0∧List.length a.1.2.2=0
def Kiv (a:J2×Nat):=Gt a.1.2.2 (Ln a.1.2.2-1) Vj
def Kit (a:J2×Nat):=(Kiv a).2
def Kev (a:J2×Nat):=(Kit a).2
def J2e (a:(List Ev×List Ev×List Reg)×Nat) (b:List Ev):=List.length a.1.1=a.2∧a.2≤List.length b∧List.length b≤1000∧X7 a.1 (List.drop a.2 b)=Ja b
def J2d (a:J2×Nat) (b:List Ev):=List.length a.1.1=a.2∧a.2≤List.length b∧List.length b≤1000∧X7 a.1 (List.drop a.2 b)=Ja b
def Ket (a:J2×Nat):=(Kev a).2
def Ker (a:J2×Nat):=(Ket a).2
def Keq (a:J2×Nat):=(Ker a).2
def Jwm (a:(List Ev×List Ev×List Reg)×Nat) (b:List Ev):=Vp a.1∧J2e a b
def Jxp (a:J2×Nat) (b:List Ev):=Vp a.1∧J2d a b
def Kh1 (a:List Ev):=Jnw a∧0=(Ja a).2.1∧5=(Ja a).2.2
def Kvx (a:List Ev):=Sf true (Jnw a∧Kfw a)
def Jxm (a:(List Ev×List Ev×List Reg)×Nat) (b:List Ev) (c:J2×Nat):=Jwm a b∧List.length b-a.2<List.length b-c.2
def Jrn (a:List Ev) (b:J2×Nat):=((J0k a b).1,(J0j a b).1,(Jwo a b).1,E2 (Jwo a b).2)
def Jsa (a:J2×Nat) (b:List Ev):=Ko (Jp5 a) (Jrn b a)
def J5w (a:J2×Nat) (b:List Ev):=Uy (Jp5 a) (Jrn b a)
def J5v (a:J2×Nat) (b:List Ev):=(J5w a b).2
def Kgz (a:(List Ev×List Ev×List Reg)×Nat):=Si 0 (Si 0 (Sf Jo (Sf Jo (Sf Jo (Sf Jo (Sf Jo (J2g a)))))))
def Jxl (a:J2×Nat) (b:List Ev):=J0q a∧List.length a.1.1<1000∧Jao (Jrn b a)
def Jr9 (a:J2×Nat) (b:List Ev):=Jsa a b !=0
def Jw0 (a:J2×Nat):=((Kiv a).1,(Kit a).1,(Kev a).1,(Ket a).1,(Ker a).1,E2 (Keq a))
def J07 (a:J2×Nat) (b:List Ev):=Jw0 a=Jx b
def Jlq (a:J2×Nat) (b:List Ev) (c:(List Ev×List Ev×List Reg)×Nat):=(J5w a b).1=c.1.1∧(J5v a b).1=c.1.2.1∧(J5v a b).2=c.1.2.2
def J0z (a:J2×Nat) (b:List Ev) (c:(List Ev×List Ev×List Reg)×Nat):=Si 0 (Si 0 (Sf Jo (Sf Jo (Sf Jo (Sf Jo (Sf Jo (Jlq a b c)))))))
theorem K40:Ok Tryz.prog 54 J4j:=Jty W93 Tryz.f54 (Us (l:=([(74,Tryz.f74),(75,Tryz.f75),(129,Tryz.f129)]:List (Nat×Func))) (List.forall_mem_cons.2 ⟨by kernel_rfl,List.forall_mem_cons.2 ⟨by kernel_rfl,List.forall_mem_cons.2 ⟨by kernel_rfl,by simp⟩⟩⟩)) (fun xx=>na ()) (fun xx=>fun f id=>if f=74 then some (Kcx xx.1) else none) fun xx=>by
 obtain⟨(l:List Ev),_⟩:=xx
 refine(by kernel_rfl:(lOk l→Br (Z87 l) (Br true (Sf true (Kh1 l)) False) (∃(x:(List Ev×List Ev×List Reg)×Nat),Si (Ln l) (0=Nc x.2∧Sf l (Kgz x))∧Jwm x l∧∀(x:J2×Nat),Jxp x l→Br (Jsj x l) (Z82 x l∧Jxl x l∧Br (Jr9 x l) (Z31 x∧Br (Jr9 x l) (Sf true (Jnw l∧J2w x l∧Jsa x l=(Ja l).2.2)) False) (Z31 x∧∃(y:(List Ev×List Ev×List Reg)×Nat),Si (Ln l) (Jl1 x y∧Sf l (J0z x l y))∧Jxm y l x)) (Br false (Kvx l) (Br (decide (0<Ln x.1.2.2)) (Kjy x∧(List.length (Kev x).1≤1000000∧List.length (Ket x).1≤1000000∧List.length (Ker x).1≤1000000∧List.length (Keq x).1≤1000000∧List.length (Keq x).2≤1000000)∧Sf true (J07 x l∧Kfw l)) (Jcp∧Kvx l)))))=_).mp ?_
 delta Z26 Z31 Z82 Z87 Jsj Jl1 Jo J2w Jp5 Lz J0q Kfw J0k J0j Jwo Lj Jcp Vj Jnw Kjy J2g Kiv Kit Kev J2e J2d Ket Ker Keq Jwm Jxp Kh1 Kvx Jxm Jrn Jsa J5w J5v Kgz Jxl Jr9 Jw0 J07 Jlq J0z Br Iw Bd T2 Tw Sf Si Ln Nc Gt B0 E2
 intro hl
 refine⟨fun h=> ?_,fun h=> ?_⟩
 ·have e:Ja l=(Vt,0,5):=by unfold Ja;rw[if_pos (by have:=of_decide_eq_true h;omega)]
  refine⟨fun _=>⟨rfl, ?_,by rw[e],by rw[e]⟩,fun h=>by cases h⟩
  unfold Jx;rw[e];rfl
 have hn:l.length≤1000:=by have:=of_decide_eq_false h;omega
 have e0:Ja l=X7 Vt l:=by unfold Ja;rw[if_neg (by omega)]
 refine⟨(Vt,(0:Nat)),⟨rfl,rfl,rfl,rfl,rfl,rfl,rfl,rfl,rfl,rfl,rfl,rfl,rfl⟩,⟨Vh,rfl,Nat.zero_le _,hn,e0.symm⟩,fun(x:J2×Nat) hx=>⟨fun h1=> ?_,fun h1=> ?_⟩⟩
 ·obtain⟨g,k⟩:=x
  obtain⟨hi,hk,hk2,_,hrun⟩:=hx
  dsimp only at hi hk hk2 hrun
  have hlt:k<l.length:=by simpa using h1
  rw[Jp (d:=ev0) hlt,X7] at hrun
  have hz:=hl.2 _ (Jd (d:=ev0) hlt)
  refine⟨⟨⟨by dsimp only;omega,by dsimp only;omega⟩,by dsimp only;omega,by dsimp only;omega⟩,⟨hi.ok,by show g.1.length<1000;omega,hz⟩,fun h2=>⟨by dsimp only;omega,fun h3=> ?_,fun h3=> ?_⟩,fun h2=>⟨by dsimp only;omega,(Zb g (l.getD k ev0),k+1), ?_,⟨?_, ?_,by dsimp only;omega,hn, ?_⟩,by dsimp only;omega⟩⟩
  ·have h2:Ko g (l.getD k ev0)≠0:=bne_iff_ne.1 h2
   rw[if_neg h2] at hrun
   rw[←hrun]
   refine⟨rfl, ?_, ?_,rfl⟩
   ·unfold Jx;rw[←hrun];dsimp only;rw[if_neg h2];rfl
   ·show((k:Nat):Int)+1=(g.1.length:Int)+1;rw[hk]
  ·have h2:Ko g (l.getD k ev0)≠0:=bne_iff_ne.1 h2
   exact absurd (bne_eq_false_iff_eq.1 h3) h2
  ·have h2:Ko g (l.getD k ev0)=0:=bne_eq_false_iff_eq.1 h2
   have eP:Uy g (l.getD k ev0)=Zb g (l.getD k ev0):=by unfold Uy;rw[if_pos h2]
   refine⟨rfl,by simp,rfl,rfl,rfl,rfl,rfl,rfl,rfl,rfl, ?_, ?_, ?_⟩
   ·show(Uy g (l.getD k ev0)).1=_;rw[eP]
   ·show(Uy g (l.getD k ev0)).2.1=_;rw[eP]
   ·show(Uy g (l.getD k ev0)).2.2=_;rw[eP]
  ·exact Di hi (by omega) (bne_eq_false_iff_eq.1 h2)
  ·show(Zb g (l.getD k ev0)).1.length=k+1
   rw[Xi,hk]
  ·have h2:Ko g (l.getD k ev0)=0:=bne_eq_false_iff_eq.1 h2
   rw[if_pos h2] at hrun
   exact hrun
 ·obtain⟨g,k⟩:=x
  obtain⟨hi,hk,hk2,_,hrun⟩:=hx
  dsimp only at hi hk hk2 hrun
  have hlt:¬k<l.length:=by simpa using h1
  have:k=l.length:=by omega
  rw[this,List.drop_length,X7] at hrun
  have eR:Jx l=J4 g.2.2:=by unfold Jx;rw[←hrun];rfl
  have hR:=Yq hi.ok
  have hGl:((g.2.2.length:Int)-1).toNat=g.2.2.length-1:=by omega
  have hb:g.2.2.length≤1000:=by have:=hi.ok.nG;have:=hi.ok.nC;have:=hi.ok.nE;omega
  refine⟨fun f=>(by cases f),fun _=>⟨fun h2=> ?_,fun h2=> ?_⟩⟩
  ·have h2:(0:Int)<g.2.2.length:=of_decide_eq_true h2
   dsimp only
   rw[hGl]
   refine⟨⟨⟨by omega,by omega⟩,⟨by omega,by omega⟩,by omega,by omega⟩,⟨Nat.le_trans hR.nS (by decide),Nat.le_trans hR.nO (by decide),Nat.le_trans hR.nM (by decide),Nat.le_trans hR.nX (by decide),Nat.le_trans hR.nQ (by decide)⟩,rfl,eR.symm, ?_, ?_⟩
   ·rw[←hrun]
   ·rw[←hrun]
  ·have e1:=Kj h2
   rw[e1] at eR
   refine⟨by decide,rfl,eR.symm, ?_, ?_⟩
   ·rw[←hrun]
   ·rw[←hrun]
abbrev W94:=W93.add K40
def K5t:Con:={args:=[aS, .ref 105 Jfw],ress:=[I],owns:=[],pre:=fun(_,r,_)=>[Jj r],spec:=fun(s,r,_)=>(bif !Vi r 0 s then 10 else 0,())}
theorem Kpb:Ok Tryz.prog 139 K5t:=okW W94 Tryz.f139 na fun xx=>by
 obtain⟨(s:ByteArray),⟨(tk:Int),(st:Int),(S:List Sta),(O:List Ord),(M:List Met),(X:List Out),(Q:List Per)⟩,_⟩:=xx
 refine(by kernel_rfl:(Jw tk st S O M X Q→Jw tk st S O M X Q∧(bif !Vi (Z60 tk st S O M X Q) (0:Int) s then(10:Int) else(0:Int))=bif !Vi (Z60 tk st S O M X Q) (0:Int) s then(10:Int) else(0:Int))=_).mp ?_
 delta Z60 Jw
 intro hr
 exact⟨hr,rfl⟩
abbrev W95:=W94.add Kpb
def opE (l:List Ev) (ns:List ByteArray):Int:=if(Ja l).2.2=0 then Je (ns.map fun s=>bif !Vi (Jx l) 0 s then 10 else 0) else(Ja l).2.2
def Kqq:Con:={args:=[.val false (.list 67 sEv), .val false (.list 9 .str)],ress:=[(true,Jfw),I],owns:=[],pre:=fun(l,ns,_)=>[lOk l,ns.length≤1000000],spec:=fun(l,ns,_)=>(Jx l,opE l ns,())}
abbrev J5f (l:List Ev) (ns:List ByteArray):Ann:={X:=J2×Nat,σ:=fun(h,k)=>⟨9,[(5, .one (.ptr 4 0)),(14, .one (.sl 0)),(15, .one (.int .i64 l.length)),(16, .one (.int .i64 k))],[(0, .imm 67 sEv l),(1, .imm 9 .str ns),(2, .box 105 Jjo),(3, .sus [(1, .one (.sl 1)),(4, .one (.ptr 2 0))]),(4, .box 167 [.sl 6, .sl 7, .sl 8]),(6, .own 67 sEv h.1),(7, .own 67 sEv h.2.1),(8, .own 105 Jfw h.2.2)]⟩,inv:=fun(h,k)=>Vp h∧h.1.length=k∧k≤l.length∧l.length≤1000∧X7 h (l.drop k)=Ja l,mu:=fun(_,k)=>l.length-k}
def Kjk (a:Bt):= !Vi Vj 0 a
def Kvg (a:Ls):=List.map (fun(x:ByteArray)=>match Kjk x with|true=>(10:Int)|false=>(0:Int)) a
def J7q (a:J2×Nat) (b:Ls):=List.map (fun(x:ByteArray)=>match !Vi (Jw0 a) (0:Int) x with|true=>(10:Int)|false=>(0:Int)) b
theorem K4q:Ok Tryz.prog 68 Kqq:=Jty W95 Tryz.f68 (Us (l:=([(74,Tryz.f74),(75,Tryz.f75)]:List (Nat×Func))) (List.forall_mem_cons.2 ⟨by kernel_rfl,List.forall_mem_cons.2 ⟨by kernel_rfl,by simp⟩⟩)) (fun xx=>na ()) (fun xx=>fun f id=>if f=74 then some (J5f xx.1 xx.2.1) else none) fun xx=>by
 obtain⟨(l:List Ev),(ns:List ByteArray),_⟩:=xx
 refine(by kernel_rfl:(lOk l→Dl ns→Br (Z87 l) (Br true (Sf true (Jnw l∧5=opE l ns)) False) (∃(x:(List Ev×List Ev×List Reg)×Nat),Si (Ln l) (0=Nc x.2∧Sf l (Sf ns (Kgz x)))∧Jwm x l∧∀(x:J2×Nat),Jxp x l→Br (Jsj x l) (Z82 x l∧Jxl x l∧Br (Jr9 x l) (Z31 x∧Br (Jr9 x l) (Sf true (Jnw l∧Jsa x l=opE l ns)) False) (Z31 x∧∃(y:(List Ev×List Ev×List Reg)×Nat),Si (Ln l) (Jl1 x y∧Sf l (Sf ns (J0z x l y)))∧Jxm y l x)) (Br false (Sf true (Jnw l∧0=opE l ns)) (Br (decide (0<Ln x.1.2.2)) (Kjy x∧(Dl ns∧(∀(x_1:ByteArray),Jdi ns x_1→Jj (Jw0 x))∧List.length (J7q x ns)≤1000000)∧Sf true (J07 x l∧Je (J7q x ns)=opE l ns)) ((Dl ns∧(∀(x:ByteArray),Jdi ns x→Yr)∧List.length (Kvg ns)≤1000000)∧Sf true (Jnw l∧Je (Kvg ns)=opE l ns))))))=_).mp ?_
 delta Z26 Z31 Z82 Z87 Jsj Dl Jl1 Jo Jp5 Lz J0q Jdi J0k J0j Jwo Lj Vj Yr Jnw Kjy J2g Kjk Kiv Kit Kev J2e J2d Ket Ker Keq Jwm Jxp Kvg Jxm Jrn Jsa J5w J5v Kgz Jxl Jr9 Jw0 J07 J7q Jlq J0z Br Iw Bd Tw Sf Si Ln Nc Gt B0 E2
 intro hl hns
 refine⟨fun h=> ?_,fun h=> ?_⟩
 ·have e:Ja l=(Vt,0,5):=by unfold Ja;rw[if_pos (by have:=of_decide_eq_true h;omega)]
  refine⟨fun _=>⟨rfl, ?_, ?_⟩,fun h=>by cases h⟩
  ·unfold Jx;rw[e];rfl
  ·unfold opE;rw[e];rfl
 have hn:l.length≤1000:=by have:=of_decide_eq_false h;omega
 have e0:Ja l=X7 Vt l:=by unfold Ja;rw[if_neg (by omega)]
 refine⟨(Vt,(0:Nat)),⟨rfl,rfl,rfl,rfl,rfl,rfl,rfl,rfl,rfl,rfl,rfl,rfl,rfl,rfl⟩,⟨Vh,rfl,Nat.zero_le _,hn,e0.symm⟩,fun(x:J2×Nat) hx=>⟨fun h1=> ?_,fun h1=> ?_⟩⟩
 ·obtain⟨g,k⟩:=x
  obtain⟨hi,hk,hk2,_,hrun⟩:=hx
  dsimp only at hi hk hk2 hrun
  have hlt:k<l.length:=by simpa using h1
  rw[Jp (d:=ev0) hlt,X7] at hrun
  have hz:=hl.2 _ (Jd (d:=ev0) hlt)
  refine⟨⟨⟨by dsimp only;omega,by dsimp only;omega⟩,by dsimp only;omega,by dsimp only;omega⟩,⟨hi.ok,by show g.1.length<1000;omega,hz⟩,fun h2=>⟨by dsimp only;omega,fun h3=> ?_,fun h3=> ?_⟩,fun h2=>⟨by dsimp only;omega,(Zb g (l.getD k ev0),k+1), ?_,⟨?_, ?_,by dsimp only;omega,hn, ?_⟩,by dsimp only;omega⟩⟩
  ·have h2:Ko g (l.getD k ev0)≠0:=bne_iff_ne.1 h2
   rw[if_neg h2] at hrun
   refine⟨rfl, ?_, ?_⟩
   ·unfold Jx;rw[←hrun];dsimp only;rw[if_neg h2];rfl
   ·unfold opE;rw[←hrun];dsimp only;rw[if_neg h2];rfl
  ·have h2:Ko g (l.getD k ev0)≠0:=bne_iff_ne.1 h2
   exact absurd (bne_eq_false_iff_eq.1 h3) h2
  ·have h2:Ko g (l.getD k ev0)=0:=bne_eq_false_iff_eq.1 h2
   have eP:Uy g (l.getD k ev0)=Zb g (l.getD k ev0):=by unfold Uy;rw[if_pos h2]
   refine⟨rfl,by simp,rfl,rfl,rfl,rfl,rfl,rfl,rfl,rfl,rfl, ?_, ?_, ?_⟩
   ·show(Uy g (l.getD k ev0)).1=_;rw[eP]
   ·show(Uy g (l.getD k ev0)).2.1=_;rw[eP]
   ·show(Uy g (l.getD k ev0)).2.2=_;rw[eP]
  ·exact Di hi (by omega) (bne_eq_false_iff_eq.1 h2)
  ·show(Zb g (l.getD k ev0)).1.length=k+1
   rw[Xi,hk]
  ·have h2:Ko g (l.getD k ev0)=0:=bne_eq_false_iff_eq.1 h2
   rw[if_pos h2] at hrun
   exact hrun
 ·obtain⟨g,k⟩:=x
  obtain⟨hi,hk,hk2,_,hrun⟩:=hx
  dsimp only at hi hk hk2 hrun
  have hlt:¬k<l.length:=by simpa using h1
  have:k=l.length:=by omega
  rw[this,List.drop_length,X7] at hrun
  have eR:Jx l=J4 g.2.2:=by unfold Jx;rw[←hrun];rfl
  have hR:=Yq hi.ok
  have hGl:((g.2.2.length:Int)-1).toNat=g.2.2.length-1:=by omega
  have hb:g.2.2.length≤1000:=by have:=hi.ok.nG;have:=hi.ok.nC;have:=hi.ok.nE;omega
  have eO:opE l ns=Je (ns.map fun s=>bif !Vi (J4 g.2.2) 0 s then 10 else 0):=by unfold opE;rw[←hrun,eR];rfl
  refine⟨fun f=>(by cases f),fun _=>⟨fun h2=> ?_,fun h2=> ?_⟩⟩
  ·have h2:(0:Int)<g.2.2.length:=of_decide_eq_true h2
   dsimp only
   rw[hGl]
   exact⟨⟨⟨by omega,by omega⟩,⟨by omega,by omega⟩,by omega,by omega⟩,⟨hns,fun _ _=>hR,by rw[List.length_map];exact hns⟩,rfl,eR.symm,eO.symm⟩
  ·have e1:=Kj h2
   rw[e1] at eR eO hR
   exact⟨⟨hns,fun _ _=>hR,by rw[List.length_map];exact hns⟩,rfl,eR.symm,eO.symm⟩
abbrev W96:=W95.add K4q
theorem Jth:∀{l:List Ev} {h:J2},Vp h→h.1.length+l.length≤1000→Vp (X7 h l).1
 |[],_,hi,_=>hi
 | e :: l, h, hi, hl => by
  unfold X7
  simp only[List.length_cons] at hl
  by_cases ha:Ko h e=0
  ·rw[if_pos ha]
   exact Jth (Di hi (by omega) ha) (by rw[Xi];omega)
  ·rw[if_neg ha];exact hi
theorem L8 {l:List Ev}:Vp (Ja l).1:=by
 unfold Ja
 by_cases h:1000<l.length
 ·rw[if_pos h];exact Vh
 ·rw[if_neg h];exact Jth Vh (by show 0+l.length≤1000;omega)
theorem Jbe {l:List Ev}:Jj (Jx l):=by
 unfold Jx
 by_cases h:(Ja l).2.2=0
 ·rw[if_pos h];exact Yq L8.ok
 ·rw[if_neg h];exact Yq Vh.ok
def Jfy (l:List Ev) (s:ByteArray) (h:Int):Int:=Je [opE l [s],Kb h 0 999999999]
def Jtk (l:List Ev) (s:ByteArray) (h:Int):Int:=if Jfy l s h=0 then Xl (Jx l).2.2.1 (Jx l).2.2.2.1 (Jx l).2.2.2.2.2.1 s h else 0
def J4i:Con:={args:=[.val false (.list 67 sEv),aS,aI],ress:=[I,I],owns:=[],pre:=fun(l,_)=>[lOk l],spec:=fun(l,s,h,_)=>(Jtk l s h,Jfy l s h,())}
theorem Kau {l:List Ev} {s:ByteArray} (h:opE l [s]=0):0≤J0 (Jx l).2.2.1 s:=by
 unfold opE at h
 by_cases h0:(Ja l).2.2=0
 ·rw[if_pos h0] at h
  have h1:=Uu.1 h _ (List.mem_map_of_mem (List.mem_cons_self ..))
  have h2:=Yd (by decide) h1
  exact Jrd (by simpa using h2)
 ·rw[if_neg h0] at h;exact absurd h h0
def J6t (a:Int):=[Z68 a]
def Jxr (a:List Ev):=((Jx a).1,(Jx a).2.1,(Jx a).2.2.1,(Jx a).2.2.2.1,(Jx a).2.2.2.2.1,E2 (Jx a).2.2.2.2.2)
def J2c (a:List Ev):=Jj (Jxr a)
theorem K5b:Ok Tryz.prog 25 J4i:=okW W96 Tryz.f25 na fun xx=>by
 obtain⟨(l:List Ev),(s:ByteArray),(h:Int),_⟩:=xx
 refine(by kernel_rfl:(lOk l→(lOk l∧1≤1000000)∧2≤1000000∧Br (Je (opE l [s]::J6t h) !=0) (0=Jtk l s h∧Je (opE l [s]::J6t h)=Jfy l s h) ((J2c l∧0≤J0 (Jx l).2.2.1 s)∧Xl (Jx l).2.2.1 (Jx l).2.2.2.1 (Jx l).2.2.2.2.2.1 s h=Jtk l s h∧0=Jfy l s h))=_).mp ?_
 delta Z68 J6t Jxr J2c Br E2
 intro hl
 refine⟨⟨hl,by decide⟩,by decide,fun e=> ?_,fun e=> ?_⟩
 ·have e:Jfy l s h≠0:=bne_iff_ne.1 e
  exact⟨by unfold Jtk;rw[if_neg e],rfl⟩
 ·have e:Jfy l s h=0:=bne_eq_false_iff_eq.1 e
  exact⟨⟨Jbe,Kau (Zn e).1⟩,by unfold Jtk;rw[if_pos e],e.symm⟩
abbrev W97:=W96.add K5b
abbrev W98:=W97
def Jlz (l:List Ev) (e:Ev):Int:=Je [(Ja l).2.2,Jc e,bif decide ((1000:Int)≤l.length) then 5 else 0]
def Jg9 (l:List Ev) (e:Ev):Int:=if Jlz l e=0 then Lh (Ja l).1 e else Jlz l e
def Jzz:Con:={args:=[.val false (.list 67 sEv),aEv],ress:=[I],owns:=[],pre:=fun(l,e,_)=>[lOk l,Jao e],spec:=fun(l,e,_)=>(Jg9 l e,())}
abbrev J5e (l:List Ev) (n:Int) (kk:ByteArray) (ns:List ByteArray) (vs:List Int) (tx:ByteArray):Ann:={X:=J2×Nat,σ:=fun(h,k)=>⟨10,[(5, .one (.ptr 5 0)),(14, .one (.sl 0)),(15, .one (.int .i64 l.length)),(16, .one (.int .i64 k))],[(0, .imm 67 sEv l),(1, .imm 9 .str ns),(2, .imm 3 sI vs),(3, .box 67 [.int .i64 n, .str kk, .sl 1, .sl 2, .str tx]),(4, .sus [(0, .one (.sl 0)),(3, .one (.ptr 3 0))]),(5, .box 167 [.sl 7, .sl 8, .sl 9]),(7, .own 67 sEv h.1),(8, .own 67 sEv h.2.1),(9, .own 105 Jfw h.2.2)]⟩,inv:=fun(h,k)=>Vp h∧h.1.length=k∧k≤l.length∧l.length≤1000∧X7 h (l.drop k)=Ja l,mu:=fun(_,k)=>l.length-k}
def Kk3 (a:List Ev):=[bif decide ((1000:Int)≤Ln a) then(5:Int) else(0:Int)]
def J86 (a:Int) (b:Bt) (c:Ls) (d:Li) (e:Bt) (f:List Ev):=Z63 a b c d e::Kk3 f
def Kja (a:Bt) (b:(List Ev×List Ev×List Reg)×Nat):=Sf a (J2g b)
def Khm (a:Ls) (b:Li):=Dl a∧Z56 b∧Jco a∧3≤1000000
def Ksn (a:J2×Nat) (b:List Ev) (c:Int) (d:Bt) (e:Ls) (f:Li) (g:Bt):=Je (Jsa a b::J86 c d e f g b)
def J02 (a:Bt) (b:J2×Nat) (c:List Ev) (d:(List Ev×List Ev×List Reg)×Nat):=Sf a (Jlq b c d)
theorem K4x:Ok Tryz.prog 57 Jzz:=Jty W98 Tryz.f57 (Us (l:=([(74,Tryz.f74)]:List (Nat×Func))) (List.forall_mem_cons.2 ⟨by kernel_rfl,by simp⟩)) (fun xx=>na ()) (fun xx=>fun f id=>if f=74 then some (J5e xx.1 xx.2.1.1 xx.2.1.2.1 xx.2.1.2.2.1 xx.2.1.2.2.2.1 xx.2.1.2.2.2.2) else none) fun xx=>by
 obtain⟨(l:List Ev),⟨(n:Int),(k:ByteArray),(ns:List ByteArray),(vs:List Int),(tx:ByteArray)⟩,_⟩:=xx
 refine(by kernel_rfl:(lOk l→Jao (n,k,ns,vs,tx)→Br (Z87 l) (Khm ns vs∧Br (Je (5::J86 n k ns vs tx l) !=0) (Sf true (Je (5::J86 n k ns vs tx l)=Jg9 l (n,k,ns,vs,tx))) False) (∃(x:(List Ev×List Ev×List Reg)×Nat),Si (Ln l) (0=Nc x.2∧Sf l (Sf ns (Sf vs (Si n (Sf k (Kja tx x))))))∧Jwm x l∧∀(x:J2×Nat),Jxp x l→Br (Jsj x l) (Z82 x l∧Jxl x l∧Br (Jr9 x l) (Z31 x∧Khm ns vs∧Br (Ksn x l n k ns vs tx !=0) (Sf true (Ksn x l n k ns vs tx=Jg9 l (n,k,ns,vs,tx))) False) (Z31 x∧∃(y:(List Ev×List Ev×List Reg)×Nat),Si (Ln l) (Jl1 x y∧Sf l (Sf ns (Sf vs (Si n (Sf k (J02 tx x l y))))))∧Jxm y l x)) (Khm ns vs∧Br (Je (0::J86 n k ns vs tx l) !=0) (Sf true (Je (0::J86 n k ns vs tx l)=Jg9 l (n,k,ns,vs,tx))) ((J0q x∧Z63 n k ns vs tx=0)∧Sf true (Lh (Jp5 x) (n,k,ns,vs,tx)=Jg9 l (n,k,ns,vs,tx))))))=_).mp ?_
 delta Z26 Z31 Z56 Z63 Z82 Z87 Jsj Dl Jl1 Jp5 Lz J0q Jdi J0k J0j Jwo Kk3 J86 J2g Jco Kja J2e J2d Jwm Jxp Khm Jxm Jrn Jsa J5w J5v Jxl Jr9 Ksn Jlq J02 Br Iw Bd Tw Sf Si Ln Nc B0 E2
 intro hl hz0
 refine⟨fun h=> ?_,fun h=> ?_⟩
 ·have e:Ja l=(Vt,0,5):=by unfold Ja;rw[if_pos (by have:=of_decide_eq_true h;omega)]
  have e5:Jlz l (n,k,ns,vs,tx)=5:=by unfold Jlz;rw[e];rfl
  refine⟨⟨hz0.1,hz0.2.1,hz0.2.2,by decide⟩,fun _=>⟨rfl, ?_⟩,fun h=> ?_⟩
  ·unfold Jg9;rw[e5];rfl
  ·have:Jlz l (n,k,ns,vs,tx)=0:=by unfold Jlz;rw[e];exact bne_eq_false_iff_eq.1 h
   rw[e5] at this;cases this
 have hn:l.length≤1000:=by have:=of_decide_eq_false h;omega
 have e0:Ja l=X7 Vt l:=by unfold Ja;rw[if_neg (by omega)]
 refine⟨(Vt,(0:Nat)),⟨rfl,rfl,rfl,rfl,rfl,rfl,rfl,rfl,rfl,rfl,rfl⟩,⟨Vh,rfl,Nat.zero_le _,hn,e0.symm⟩,fun(x:J2×Nat) hx=>⟨fun h1=> ?_,fun h1=> ?_⟩⟩
 ·obtain⟨g,m⟩:=x
  obtain⟨hi,hk,hk2,_,hrun⟩:=hx
  dsimp only at hi hk hk2 hrun
  have hlt:m<l.length:=by simpa using h1
  rw[Jp (d:=ev0) hlt,X7] at hrun
  have hz:=hl.2 _ (Jd (d:=ev0) hlt)
  refine⟨⟨⟨by dsimp only;omega,by dsimp only;omega⟩,by dsimp only;omega,by dsimp only;omega⟩,⟨hi.ok,by show g.1.length<1000;omega,hz⟩,fun h2=>⟨by dsimp only;omega,⟨hz0.1,hz0.2.1,hz0.2.2,by decide⟩,fun h3=> ?_,fun h3=> ?_⟩,fun h2=>⟨by dsimp only;omega,(Zb g (l.getD m ev0),m+1), ?_,⟨?_, ?_,by dsimp only;omega,hn, ?_⟩,by dsimp only;omega⟩⟩
  ·have h2:Ko g (l.getD m ev0)≠0:=bne_iff_ne.1 h2
   rw[if_neg h2] at hrun
   have e6:Jlz l (n,k,ns,vs,tx)=Ko g (l.getD m ev0):=by unfold Jlz;rw[←hrun];unfold Je;rw[if_neg h2]
   refine⟨rfl, ?_⟩
   unfold Jg9
   rw[if_neg (by rw[e6];exact h2),e6]
   unfold Je
   exact if_neg h2
  ·have h2:Ko g (l.getD m ev0)≠0:=bne_iff_ne.1 h2
   have h3:=bne_eq_false_iff_eq.1 h3
   unfold Je at h3
   exact h2 ((if_neg h2).symm.trans h3)
  ·have h2:Ko g (l.getD m ev0)=0:=bne_eq_false_iff_eq.1 h2
   have eP:Uy g (l.getD m ev0)=Zb g (l.getD m ev0):=by unfold Uy;rw[if_pos h2]
   refine⟨rfl,by simp,rfl,rfl,rfl,rfl,rfl,rfl, ?_, ?_, ?_⟩
   ·show(Uy g (l.getD m ev0)).1=_;rw[eP]
   ·show(Uy g (l.getD m ev0)).2.1=_;rw[eP]
   ·show(Uy g (l.getD m ev0)).2.2=_;rw[eP]
  ·exact Di hi (by omega) (bne_eq_false_iff_eq.1 h2)
  ·show(Zb g (l.getD m ev0)).1.length=m+1
   rw[Xi,hk]
  ·have h2:Ko g (l.getD m ev0)=0:=bne_eq_false_iff_eq.1 h2
   rw[if_pos h2] at hrun
   exact hrun
 ·obtain⟨g,m⟩:=x
  obtain⟨hi,hk,hk2,_,hrun⟩:=hx
  dsimp only at hi hk hk2 hrun
  have hlt:¬m<l.length:=by simpa using h1
  have:m=l.length:=by omega
  rw[this,List.drop_length,X7] at hrun
  have e6:Jlz l (n,k,ns,vs,tx)=Je [0,Jc (n,k,ns,vs,tx),bif decide ((1000:Int)≤l.length) then 5 else 0]:=by unfold Jlz;rw[←hrun]
  refine⟨⟨hz0.1,hz0.2.1,hz0.2.2,by decide⟩,fun h2=>⟨rfl, ?_⟩,fun h2=> ?_⟩
  ·have h2:=bne_iff_ne.1 h2
   rw[←e6] at h2
   unfold Jg9;rw[if_neg h2,e6]
  ·have h2:=bne_eq_false_iff_eq.1 h2
   have h3:=(Fz h2).2.1
   rw[←e6] at h2
   refine⟨⟨hi.ok,h3⟩,rfl, ?_⟩
   unfold Jg9;rw[if_pos h2,←hrun]
abbrev W99:=W98.add K4x
def Ly:List Reg→Int→Reg→Reg
 |[],_,o=>o
 |r::l,t,o=>Ly l t (bif decide (r.1≤t) then r else o)
def Yk (l:List Ev) (t:Int):Int:=Je [(Ja l).2.2,Kb t 0 999999999]
def Xs (l:List Ev) (t:Int):Reg:=if Yk l t=0 then Ly (Ja l).1.2.2 t K5 else K5
def Kq9:Con:={args:=[.val false (.list 67 sEv),aI],ress:=[(true,Jfw),I],owns:=[],pre:=fun(l,_)=>[lOk l],spec:=fun(l,t,_)=>(Xs l t,Yk l t,())}
abbrev J5d (l:List Ev) (t:Int):Ann:={X:=J2×Nat,σ:=fun(h,k)=>⟨7,[(5, .one (.ptr 3 0)),(14, .one (.sl 0)),(15, .one (.int .i64 l.length)),(16, .one (.int .i64 k))],[(0, .imm 67 sEv l),(1, .box 105 Jjo),(2, .sus [(1, .one (.int .i64 t)),(4, .one (.ptr 1 0))]),(3, .box 167 [.sl 4, .sl 5, .sl 6]),(4, .own 67 sEv h.1),(5, .own 67 sEv h.2.1),(6, .own 105 Jfw h.2.2)]⟩,inv:=fun(h,k)=>Vp h∧h.1.length=k∧k≤l.length∧l.length≤1000∧X7 h (l.drop k)=Ja l,mu:=fun(_,k)=>l.length-k}
abbrev J5r (l:List Ev) (t:Int):Ann:={X:=J2×Nat×Reg,σ:=fun(h,k,r)=>⟨9,[(1, .one (.int .i64 t)),(4, .one (.ptr 0 0)),(10, .one (.ptr 1 0)),(31, .one (.sl 2)),(32, .one (.int .i64 h.2.2.length)),(33, .one (.int .i64 k))],[(0, .box 105 Jjo),(1, .box 105 [.int .i64 r.1, .int .i64 r.2.1, .sl 3, .sl 4, .sl 5, .sl 6, .sl 7]),(2, .own 105 Jfw h.2.2),(3, .imm 127 Xh r.2.2.1),(4, .imm 130 Yt r.2.2.2.1),(5, .imm 155 Xw r.2.2.2.2.1),(6, .imm 188 V5 r.2.2.2.2.2.1),(7, .imm 235 Ys r.2.2.2.2.2.2)]⟩,inv:=fun(h,k,r)=>Vp h∧Ja l=(h,0,0)∧Yk l t=0∧k≤h.2.2.length∧Jj r∧Ly (h.2.2.drop k) t r=Ly h.2.2 t K5,mu:=fun(h,k,_)=>h.2.2.length-k,rel:=some fun x y=>x.1=y.1}
def K06 (a:Int):=Je (0::J6t a)
def K04 (a:Int):=Je (5::J6t a)
def J54 (a:List Ev) (b:Int):=Vj=Xs a b
def Kzh (a:J2×Nat×Reg):=List.getD a.1.2.2 a.2.1 Vj
def Kzc (a:J2×Nat×Reg):=(Kzh a).2
def Kza (a:J2×Nat×Reg):=(Kzh a).1
def Ky5 (a:J2×Nat×Reg):=(Kzc a).2
def Kyy (a:J2×Nat×Reg):=(Ky5 a).2
def Kyr (a:J2×Nat×Reg):=(Kyy a).2
def Kyn (a:J2×Nat×Reg):=(Kyr a).2
def Kux (a:(List Ev×List Ev×List Reg)×Nat×Reg) (b:List Ev) (c:Int):=Vp a.1∧Ja b=(a.1,0,0)∧Yk b c=0∧a.2.1≤List.length a.1.2.2∧Jj a.2.2∧Ly (List.drop a.2.1 a.1.2.2) c a.2.2=Ly a.1.2.2 c K5
def Kt4 (a:(List Ev×List Ev×List Reg)×Nat×Reg) (b:List Ev) (c:Int) (d:(List Ev×List Ev×List Reg)×Nat×Reg) (e:J2×Nat×Reg):=(Kux a b c∧d.1=a.1)∧List.length a.1.2.2-a.2.1<List.length e.1.2.2-e.2.1
def Ks1 (a:J2×Nat) (b:List Ev) (c:Int):=Je (Jsa a b::J6t c)
theorem K4u:Ok Tryz.prog 62 Kq9:=Jty W99 Tryz.f62 (Us (l:=([(74,Tryz.f74),(129,Tryz.f129)]:List (Nat×Func))) (List.forall_mem_cons.2 ⟨by kernel_rfl,List.forall_mem_cons.2 ⟨by kernel_rfl,by simp⟩⟩)) (fun xx=>X3 (J5r xx.1 xx.2.1)) (fun xx=>fun f id=>if f=74 then some (J5d xx.1 xx.2.1) else none) fun xx=>by
 obtain⟨(l:List Ev),(t:Int),_⟩:=xx
 refine(by kernel_rfl:(lOk l→Br (Z87 l) (2≤1000000∧Br (K04 t !=0) (Sf true (J54 l t∧K04 t=Yk l t)) False) (∃(x:(List Ev×List Ev×List Reg)×Nat),Si (Ln l) (0=Nc x.2∧Sf l (Si 0 (Si 0 (Sf Jo (Sf Jo (Sf Jo (Sf Jo (Sf Jo (Si t (J2g x))))))))))∧Jwm x l∧∀(x:J2×Nat),Jxp x l→Br (Jsj x l) (Z82 x l∧Jxl x l∧Br (Jr9 x l) (Z31 x∧2≤1000000∧Br (Ks1 x l t !=0) (Sf true (J54 l t∧Ks1 x l t=Yk l t)) False) (Z31 x∧∃(y:(List Ev×List Ev×List Reg)×Nat),Si (Ln l) (Jl1 x y∧Sf l (Si 0 (Si 0 (Sf Jo (Sf Jo (Sf Jo (Sf Jo (Sf Jo (Si t (Jlq x l y))))))))))∧Jxm y l x)) (2≤1000000∧Br (K06 t !=0) (Sf true (J54 l t∧K06 t=Yk l t)) (∃(x0:(List Ev×List Ev×List Reg)×Nat×Reg),Si t (Ln x.1.2.2=Ln x0.1.2.2∧0=Nc x0.2.1∧Si 0 (Si 0 (Sf Jo (Sf Jo (Sf Jo (Sf Jo (Sf Jo (0=x0.2.2.1∧0=x0.2.2.2.1∧x.1.2.2=x0.1.2.2∧List.length x0.2.2.2.2.1=0∧List.length x0.2.2.2.2.2.1=0∧List.length x0.2.2.2.2.2.2.1=0∧List.length x0.2.2.2.2.2.2.2.1=0∧List.length x0.2.2.2.2.2.2.2.2=0))))))))∧(Kux x0 l t∧x0.1=x0.1)∧∀(x:J2×Nat×Reg),(Vp x.1∧Ja l=(x.1,0,0)∧Yk l t=0∧x.2.1≤List.length x.1.2.2∧Jj x.2.2∧Ly (List.drop x.2.1 x.1.2.2) t x.2.2=Ly x.1.2.2 t K5)∧x0.1=x.1→Br (decide (Nc x.2.1<Ln x.1.2.2)) (Tw (Bd (Nc x.2.1) (Ln x.1.2.2))∧Br (decide (Kza x≤t)) (Iw (Nc x.2.1+1)∧∃(y:(List Ev×List Ev×List Reg)×Nat×Reg),Si t (Ln x.1.2.2=Ln y.1.2.2∧Nc x.2.1+1=Nc y.2.1∧Si 0 (Si 0 (Sf Jo (Sf Jo (Sf Jo (Sf Jo (Sf Jo (Kza x=y.2.2.1∧(Kzc x).1=y.2.2.2.1∧x.1.2.2=y.1.2.2∧(Ky5 x).1=y.2.2.2.2.1∧(Kyy x).1=y.2.2.2.2.2.1∧(Kyr x).1=y.2.2.2.2.2.2.1∧(Kyn x).1=y.2.2.2.2.2.2.2.1∧(Kyn x).2=y.2.2.2.2.2.2.2.2))))))))∧Kt4 y l t x0 x) (Iw (Nc x.2.1+1)∧∃(y:(List Ev×List Ev×List Reg)×Nat×Reg),Si t (Ln x.1.2.2=Ln y.1.2.2∧Nc x.2.1+1=Nc y.2.1∧Si 0 (Si 0 (Sf Jo (Sf Jo (Sf Jo (Sf Jo (Sf Jo (x.2.2.1=y.2.2.1∧x.2.2.2.1=y.2.2.2.1∧x.1.2.2=y.1.2.2∧x.2.2.2.2.1=y.2.2.2.2.1∧x.2.2.2.2.2.1=y.2.2.2.2.2.1∧x.2.2.2.2.2.2.1=y.2.2.2.2.2.2.1∧x.2.2.2.2.2.2.2.1=y.2.2.2.2.2.2.2.1∧x.2.2.2.2.2.2.2.2=y.2.2.2.2.2.2.2.2))))))))∧Kt4 y l t x0 x)) ((List.length x.2.2.2.2.1≤1000000∧List.length x.2.2.2.2.2.1≤1000000∧List.length x.2.2.2.2.2.2.1≤1000000∧List.length x.2.2.2.2.2.2.2.1≤1000000∧List.length x.2.2.2.2.2.2.2.2≤1000000)∧Sf true ((x.2.2.1,x.2.2.2.1,x.2.2.2.2.1,x.2.2.2.2.2.1,x.2.2.2.2.2.2.1,E2 x.2.2.2.2.2.2.2)=Xs l t∧0=Yk l t))))))=_).mp ?_
 delta Z26 Z31 Z68 Z82 Z87 Jsj Jl1 Jo J6t Jp5 Lz J0q K06 K04 J0k J0j Jwo Lj Vj J54 J2g Kzh Kzc Kza Ky5 Kyy Kyr Kyn J2e J2d Jwm Jxp Jxm Kux Kt4 Jrn Jsa J5w J5v Jxl Ks1 Jr9 Jlq Br Iw Bd Tw Sf Si Ln Nc B0 E2
 intro hl
 refine⟨fun h=> ?_,fun h=> ?_⟩
 ·have e:Ja l=(Vt,0,5):=by unfold Ja;rw[if_pos (by have:=of_decide_eq_true h;omega)]
  have e5:Yk l t=5:=by unfold Yk;rw[e];rfl
  refine⟨by decide,fun _=>⟨rfl, ?_, ?_⟩,fun h=> ?_⟩
  ·unfold Xs;rw[if_neg (by rw[e5];decide)];rfl
  ·unfold Yk;rw[e]
  ·have:Yk l t=0:=by unfold Yk;rw[e];exact bne_eq_false_iff_eq.1 h
   rw[e5] at this;cases this
 have hn:l.length≤1000:=by have:=of_decide_eq_false h;omega
 have e0:Ja l=X7 Vt l:=by unfold Ja;rw[if_neg (by omega)]
 refine⟨(Vt,(0:Nat)),by(repeat' first|exact rfl|apply And.intro|exact(Int.add_zero _).symm|omega|dsimp only;omega),⟨Vh,rfl,Nat.zero_le _,hn,e0.symm⟩,fun(x:J2×Nat) hx=>⟨fun h1=> ?_,fun h1=> ?_⟩⟩
 ·obtain⟨g,m⟩:=x
  obtain⟨hi,hk,hk2,_,hrun⟩:=hx
  dsimp only at hi hk hk2 hrun
  have hlt:m<l.length:=by simpa using h1
  rw[Jp (d:=ev0) hlt,X7] at hrun
  have hz:=hl.2 _ (Jd (d:=ev0) hlt)
  refine⟨⟨⟨by dsimp only;omega,by dsimp only;omega⟩,by dsimp only;omega,by dsimp only;omega⟩,⟨hi.ok,by show g.1.length<1000;omega,hz⟩,fun h2=>⟨by dsimp only;omega,by decide,fun h3=> ?_,fun h3=> ?_⟩,fun h2=>⟨by dsimp only;omega,(Zb g (l.getD m ev0),m+1), ?_,⟨?_, ?_,by dsimp only;omega,hn, ?_⟩,by dsimp only;omega⟩⟩
  ·have h2:Ko g (l.getD m ev0)≠0:=bne_iff_ne.1 h2
   rw[if_neg h2] at hrun
   have e6:Yk l t=Ko g (l.getD m ev0):=by unfold Yk;rw[←hrun];unfold Je;rw[if_neg h2]
   refine⟨rfl, ?_, ?_⟩
   ·unfold Xs;rw[if_neg (by rw[e6];exact h2)];rfl
   ·rw[e6];unfold Je;exact if_neg h2
  ·have h2:Ko g (l.getD m ev0)≠0:=bne_iff_ne.1 h2
   have h3:=bne_eq_false_iff_eq.1 h3
   unfold Je at h3
   exact h2 ((if_neg h2).symm.trans h3)
  ·have h2:Ko g (l.getD m ev0)=0:=bne_eq_false_iff_eq.1 h2
   have eP:Uy g (l.getD m ev0)=Zb g (l.getD m ev0):=by unfold Uy;rw[if_pos h2]
   refine⟨rfl,by simp,rfl,rfl,rfl,rfl,rfl,rfl,rfl,rfl,rfl, ?_, ?_, ?_⟩
   ·show(Uy g (l.getD m ev0)).1=_;rw[eP]
   ·show(Uy g (l.getD m ev0)).2.1=_;rw[eP]
   ·show(Uy g (l.getD m ev0)).2.2=_;rw[eP]
  ·exact Di hi (by omega) (bne_eq_false_iff_eq.1 h2)
  ·show(Zb g (l.getD m ev0)).1.length=m+1
   rw[Xi,hk]
  ·have h2:Ko g (l.getD m ev0)=0:=bne_eq_false_iff_eq.1 h2
   rw[if_pos h2] at hrun
   exact hrun
 ·obtain⟨g,m⟩:=x
  obtain⟨hi,hk,hk2,_,hrun⟩:=hx
  dsimp only at hi hk hk2 hrun
  have hlt:¬m<l.length:=by simpa using h1
  have:m=l.length:=by omega
  rw[this,List.drop_length,X7] at hrun
  have e6:Yk l t=Je [0,Kb t 0 999999999]:=by unfold Yk;rw[←hrun]
  refine⟨by decide,fun h2=>⟨rfl, ?_,e6.symm⟩,fun h2=> ?_⟩
  ·have h2:=bne_iff_ne.1 h2
   rw[←e6] at h2
   unfold Xs;rw[if_neg h2];rfl
  have h2:=bne_eq_false_iff_eq.1 h2
  rw[←e6] at h2
  have hb:g.2.2.length≤1000:=by have:=hi.ok.nG;have:=hi.ok.nC;have:=hi.ok.nE;omega
  refine⟨(g,(0:Nat),K5),by(repeat' first|exact rfl|apply And.intro|exact(Int.add_zero _).symm|omega|dsimp only;omega),⟨⟨hi,hrun.symm,h2,Nat.zero_le _,Yq Vh.ok,rfl⟩,rfl⟩,fun(y:J2×Nat×Reg) hy=>⟨fun h3=> ?_,fun h3=> ?_⟩⟩
  ·obtain⟨g',m',r⟩:=y
   obtain⟨⟨hi',hr',_,hm',hR',ha'⟩,hgg⟩:=hy
   have hgg:g=g':=hgg
   subst hgg
   dsimp only at hm' hR' ha'
   have hlt':m'<g.2.2.length:=by simpa using h3
   rw[Jp (d:=K5) hlt',Ly] at ha'
   refine⟨⟨⟨by dsimp only;omega,by dsimp only;omega⟩,by dsimp only;omega,by dsimp only;omega⟩,fun h4=>⟨by dsimp only;omega,(g,m'+1,g.2.2.getD m' K5),by(repeat' first|exact rfl|apply And.intro|exact(Int.add_zero _).symm|omega|dsimp only;omega),⟨⟨hi,hr',h2,by dsimp only;omega,hi.ok.reg _ (Jd hlt'), ?_⟩,rfl⟩,by dsimp only;omega⟩,fun h4=>⟨by dsimp only;omega,(g,m'+1,r),by(repeat' first|exact rfl|apply And.intro|exact(Int.add_zero _).symm|omega|dsimp only;omega),⟨⟨hi,hr',h2,by dsimp only;omega,hR', ?_⟩,rfl⟩,by dsimp only;omega⟩⟩
   ·have h4:decide ((g.2.2.getD m' K5).1≤t)=true:=h4
    rw[h4] at ha'
    exact ha'
   ·have h4:decide ((g.2.2.getD m' K5).1≤t)=false:=h4
    rw[h4] at ha'
    exact ha'
  ·obtain⟨g',m',r⟩:=y
   obtain⟨⟨hi',hr',_,hm',hR',ha'⟩,hgg⟩:=hy
   have hgg:g=g':=hgg
   subst hgg
   dsimp only at hm' hR' ha'
   have hlt':¬m'<g.2.2.length:=by simpa using h3
   have:m'=g.2.2.length:=by omega
   rw[this,List.drop_length,Ly] at ha'
   refine⟨⟨Nat.le_trans hR'.nS (by decide),Nat.le_trans hR'.nO (by decide),Nat.le_trans hR'.nM (by decide),Nat.le_trans hR'.nX (by decide),Nat.le_trans hR'.nQ (by decide)⟩,rfl, ?_,h2.symm⟩
   unfold Xs
   rw[if_pos h2,←hrun]
   exact ha'
abbrev K3u:=W99.add K4u
end Go.Proofs.YtcibbcfiemeoiaaGreatDoor

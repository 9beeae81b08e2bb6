/- Contracts of the functions that the law reaches: part of the proof. -/
import Derived.Test.YtcibbcfiemeoiaaGreatDoorProg
import Derived.Test.YtcibbcfiemeoiaaGreatDoorSxC
import Derived.Test.YtcibbcfiemeoiaaGreatDoorShelfA
import Derived.Test.YtcibbcfiemeoiaaGreatDoorLayA
import Derived.KernelRfl
import Derived.Laws.RangeAny
import Derived.Lib.Strings
set_option linter.unusedSimpArgs false
set_option linter.unusedVariables false
set_option maxRecDepth 20000
namespace Go.Proofs.YtcibbcfiemeoiaaGreatDoor
open Go.Sx
set_option maxHeartbeats 20000000
abbrev I:Bool×Sch:=(false, .int .i64)
abbrev Bo:Bool×Sch:=(false, .bool)
abbrev aI:AK:= .val false (.int .i64)
abbrev aB:AK:= .val false .bool
abbrev aS:AK:= .val false .str
abbrev tS:Bool×Sch:=(false, .str)
abbrev sI:Sch:= .int .i64
abbrev W0 [Sx.Dr]:GW Tryz.prog:=⟨[], .nil _⟩
theorem mixed:Tryz.prog.follows .mixedOrders=true:=by kernel_rfl
theorem okW [Sx.Dr] {f:FuncId} {c:Con} (W:GW Tryz.prog) (fn:Func) (ann:ATup c.args→Nat→Option Ann) (h:∀x:ATup c.args,wpF Tryz.prog W.g (ann x) fn c x) (h1:Tryz.prog.funcs[f]? =some fn:=by kernel_rfl) (h2:Jcf fn c=true:=by kernel_rfl):Ok Tryz.prog f c:=V2 mixed W.ok h1 h2 ann h
theorem Jwm [Sx.Dr] {f:FuncId} {c:Con} {lib:FuncId→Option Func} (W:GW Tryz.prog) (fn:Func) (hl:∀f fn,lib f=some fn→Tryz.prog.funcs[f]? =some fn) (ann:ATup c.args→Nat→Option Ann) (annF:ATup c.args→FuncId→Nat→Option Ann) (h:∀x:ATup c.args,wpFG Tryz.prog W.g (ann x) (annF x) lib fn c x) (h1:Tryz.prog.funcs[f]? =some fn:=by kernel_rfl) (h2:Jcf fn c=true:=by kernel_rfl):Ok Tryz.prog f c:=Jfb mixed W.ok h1 h2 hl ann annF h
abbrev na {α:Type}:α→Nat→Option Ann:=fun _ _=>none
abbrev Zg (A:Ann):Nat→Option Ann:=fun k=>if k=0 then some A else none
def Kv4:Con:={args:=[aB,aI],ress:=[I],owns:=[],pre:=fun _=>[],spec:=fun(b,e,_)=>(bif b then e else 0,())}
theorem K9x [Sx.Dr]:Ok Tryz.prog 71 Kv4:=okW W0 Tryz.f71 na fun xx=>by
 obtain⟨(b:Bool),(e:Int),_⟩:=xx
 refine(by kernel_rfl:(Br b (e=bif b then e else 0) (0=bif b then e else 0))=_).mp ?_
 delta Br
 cases b<;>simp
abbrev W1 [Sx.Dr]:=W0.add K9x
abbrev W2 [Sx.Dr]:=W1
abbrev W3 [Sx.Dr]:=W2
def Kt (n lo hi:Int):Int:=bif decide (n<lo)||decide (hi<n) then 3 else 0
def J8l:Con:={args:=[aI,aI,aI],ress:=[I],owns:=[],pre:=fun _=>[],spec:=fun(n,lo,hi,_)=>(Kt n lo hi,())}
theorem Ku2 [Sx.Dr]:Ok Tryz.prog 133 J8l:=okW W3 Tryz.f133 na fun xx=>by
 obtain⟨(n:Int),(lo:Int),(hi:Int),_⟩:=xx
 refine(by kernel_rfl:((bif bif decide (n<lo) then true else decide (hi<n) then 3 else 0)=Kt n lo hi)=_).mp ?_
 unfold Kt;cases decide (n<lo)<;>rfl
abbrev W4 [Sx.Dr]:=W3.add Ku2
def X6 (n lo hi:Int):Bool:=decide (n<lo)||decide (hi<n)
def J26:Con:={args:=[aI,aI,aI],ress:=[Bo],owns:=[],pre:=fun _=>[],spec:=fun(n,lo,hi,_)=>(X6 n lo hi,())}
theorem Uao [Sx.Dr]:Ok Tryz.prog 20 J26:=okW W4 Tryz.f20 na fun xx=>by
 obtain⟨(n:Int),(lo:Int),(hi:Int),_⟩:=xx
 refine(by kernel_rfl:((bif decide (n<lo) then true else decide (hi<n))=X6 n lo hi)=_).mp ?_
 unfold X6;cases decide (n<lo)<;>rfl
abbrev W5 [Sx.Dr]:=W4.add Uao
def Kv5:Con:={args:=[aI],ress:=[I],owns:=[],pre:=fun _=>[],spec:=fun(n,_)=>(Kt n 0 999999999,())}
def Z78 (a:Int):=Kt a 0 999999999
def Kqx (a:Int):=Z78 a=Z78 a
theorem K9y [Sx.Dr]:Ok Tryz.prog 70 Kv5:=okW W5 Tryz.f70 na fun xx=>by
 obtain⟨(n:Int),_⟩:=xx
 refine(by kernel_rfl:(Kqx n)=_).mp ?_
 delta Z78 Kqx
 rfl
abbrev W6 [Sx.Dr]:=W5.add K9y
def Jf:List Int→Int
 |[]=>0
 |x::l=>if x=0 then Jf l else x
theorem Jor {l:List Int} {k:Nat} (h:k<l.length):Jf (l.drop k)=if l.getD k 0=0 then Jf (l.drop (k+1)) else l.getD k 0:=by
 rw[List.drop_eq_getElem_cons h]
 simp[Jf,List.getD_eq_getElem?_getD,h]
def Kht:Con:={args:=[.val false (.list 26 sI)],ress:=[I],owns:=[],pre:=fun(l,_)=>[l.length≤1000000],spec:=fun(l,_)=>(Jf l,())}
abbrev J3r (l:List Int):Ann:={X:=Nat,σ:=fun k=>⟨1,[(5, .one (.sl 0)),(6, .one (.int .i64 l.length)),(7, .one (.int .i64 k))],[(0, .imm 26 sI l)]⟩,inv:=fun k=>k≤l.length∧Jf l=Jf (l.drop k),mu:=fun k=>l.length-k}
def Z16 (a:Li) (b:Nat):=List.getD a b 0
def Z21 (a:Nat):=Iw (Nc a+1)
def Z57 (a:Li):=List.length a≤1000000
def Z89 (a:Nat) (b:Li):=Tw (Bd (Nc a) (Ln b))
def V4 (a b:Nat):=Nc a+1=Nc b
def J01 (a:Li) (b c:Nat):=List.length a-b<List.length a-c
def Kqv (a:Nat) (b:Li):=a≤List.length b∧Jf b=Jf (List.drop a b)
theorem K9z [Sx.Dr]:Ok Tryz.prog 69 Kht:=okW W6 Tryz.f69 (fun xx=>Zg (J3r xx.1)) fun xx=>by
 obtain⟨(l:List Int),_⟩:=xx
 refine(by kernel_rfl:(Z57 l→∃(x:Nat),Si (Ln l) (0=Nc x∧l=l)∧Kqv x l∧∀(x:Nat),Kqv x l→Br (decide (Nc x<Ln l)) (Z89 x l∧Br (Z16 l x !=0) (Z16 l x=Jf l) (Z21 x∧∃(y:Nat),Si (Ln l) (V4 x y∧l=l)∧Kqv y l∧J01 l y x)) (0=Jf l))=_).mp ?_
 delta Z16 Z21 Z57 Z89 V4 J01 Kqv Br Iw Bd Tw Si Ln Nc
 intro hb
 refine⟨(0:Nat),⟨rfl,rfl,rfl⟩,⟨Nat.zero_le _,rfl⟩,fun(k:Nat) hk=>⟨fun h=> ?_,fun h=> ?_⟩⟩
 ·have hlt:k<l.length:=by simpa using h
  have hd:=Jor hlt
  refine⟨by omega,fun h1=> ?_,fun h1=>⟨by omega,(k+1:Nat),⟨rfl,by simp,rfl⟩,⟨by omega, ?_⟩,by omega⟩⟩
  ·have h2:¬l.getD k 0=0:=by simpa using h1
   rw[hk.2,hd,if_neg h2]
  ·have h2:l.getD k 0=0:=by simpa using h1
   rw[hk.2,hd,if_pos h2]
 ·have hlt:¬k<l.length:=by simpa using h
  have:k=l.length:=by omega
  rw[hk.2,this,List.drop_length];rfl
abbrev W7 [Sx.Dr]:=W6.add K9z
abbrev W8 [Sx.Dr]:=W7
abbrev W9 [Sx.Dr]:=W8
def okB (f:Bool) (c:Int):Bool:=bif (bif decide ((65:Int)≤c) then decide (c≤90) else false) then true else bif (bif decide ((97:Int)≤c) then decide (c≤122) else false) then true else bif f then false else bif decide (c<48) then c==95 else bif decide (57<c) then c==95 else true
def okL (f:Bool):List UInt8→Bool
 |[]=>true
 |b::r=>okB f (b.toNat:Int)&&okL false r
def Y1 (s:ByteArray):Bool:=okL true s.data.toList&&(decide (0<s.size)&&decide ((s.size:Int)≤24))
theorem Jwo (f:Bool) (c:Int):(bif !bif (bif decide ((65:Int)≤c) then decide (c≤90) else false) then true else bif decide ((97:Int)≤c) then decide (c≤122) else false then bif f then true else bif (bif decide (c<48) then true else decide (57<c)) then c !=95 else false else false)= !okB f c:=by
 unfold okB bne
 cases decide ((65:Int)≤c)<;>cases decide (c≤90)<;>cases decide ((97:Int)≤c)<;>cases decide (c≤122)<;>cases f<;>cases decide (c<48)<;>cases decide (57<c)<;>cases c==95<;>rfl
theorem Jqb {f:Bool} {c:Int} (h:128≤c):okB f c=false:=by
 unfold okB
 have h1:decide (c≤90)=false:=decide_eq_false (by omega)
 have h2:decide (c≤122)=false:=decide_eq_false (by omega)
 have h3:decide (c<48)=false:=decide_eq_false (by omega)
 have h4:decide ((57:Int)<c)=true:=decide_eq_true (by omega)
 have h5:(c==95)=false:=beq_eq_false_iff_ne.2 (by omega)
 rw[h1,h2,h3,h4,h5]
 cases decide ((65:Int)≤c)<;>cases decide ((97:Int)≤c)<;>cases f<;>rfl
theorem Jd6 {s:ByteArray} {k:Nat} (h:k<s.size) (ha:(s[k]'h).toNat<128):Yn s k=((s[k]'h).toNat:Int)∧Jg3 s k=1:=by
 unfold Yn Jg3
 rw[decode_ascii s k h ha]
 exact⟨rfl,rfl⟩
theorem Jlp {s:ByteArray} {k:Nat} (h:k<s.size) (ha:128≤(s[k]'h).toNat):128≤Yn s k:=by
 have:=(decode_high s k h ha).1
 unfold Yn
 omega
theorem Ft {s:ByteArray} {k:Nat} (h:k<s.size):s.data.toList.drop k=(s[k]'h)::s.data.toList.drop (k+1):=by
 rw[List.drop_eq_getElem_cons (by simpa using h)]
 congr 1
theorem Jju (s:ByteArray):(!(s.toList==(⟨⟨[]⟩⟩:ByteArray).toList))=decide (0<s.size):=by
 rw[Lib.toList_data,Lib.toList_data]
 have e:s.data.toList.length=s.size:=by simp
 cases h:s.data.toList with
 |nil=>rw[h] at e;simp at e;rw[←e];rfl
 |cons a l=>rw[h] at e;simp at e;rw[←e];simp
theorem Jdb (k:Nat):(((k:Nat):Int)==0)=(k==0):=by
 rw[Bool.eq_iff_iff,beq_iff_eq,beq_iff_eq];omega
def Khd:Con:={args:=[aS],ress:=[Bo],owns:=[],pre:=fun(s,_)=>[s.size≤1000000],spec:=fun(s,_)=>(Y1 s,())}
abbrev J9j (s:ByteArray):Ann:={X:=Nat,σ:=fun k=>⟨1,[(0, .one (.str s)),(7, .one (.sl 0))],[(0, .siter s k)]⟩,inv:=fun k=>k≤s.size∧okL true s.data.toList=okL (k==0) (s.data.toList.drop k),mu:=fun k=>s.size-k}
def Z9 (a:Bt):=a.data.toList
def Kp2 (a:Bt) (b:Nat):=bif decide (Yn a b<48) then true else decide (57<Yn a b)
def K4m (a:Bt):=Sf true ((bif !Lb a B0 then decide (Nc (ByteArray.size a)≤24) else false)=Y1 a)
def Kov (a:Nat) (b:Bt):=a≤ByteArray.size b∧okL true (Z9 b)=okL (a==0) (List.drop a (Z9 b))
theorem Kuz [Sx.Dr]:Ok Tryz.prog 136 Khd:=Jwm W9 Tryz.f136 (U0 (l:=([]:List (Nat×Func))) (by simp)) (fun xx=>Zg (J9j xx.1)) (fun xx=>fun _=>na ()) fun xx=>by
 obtain⟨(s:ByteArray),_⟩:=xx
 refine(by kernel_rfl:(ByteArray.size s≤1000000→∃(x:Nat),Sf s (Sf s (0=x))∧Kov x s∧∀(x:Nat),Kov x s→(x<ByteArray.size s→Br true (Br (bif !bif bif decide (65≤Yn s x) then decide (Yn s x≤90) else false then true else bif decide (97≤Yn s x) then decide (Yn s x≤122) else false then bif Nc x==0 then true else bif Kp2 s x then Yn s x !=95 else false else false) (Sf true (false=Y1 s)) (∃(y:Nat),Sf s (Sf s (x+Jg3 s x=y))∧Kov y s∧ByteArray.size s-y<ByteArray.size s-x)) (K4m s))∧((x<ByteArray.size s→False)→Br false False (K4m s)))=_).mp ?_
 delta Z9 Kp2 K4m Kov Br Sf Nc B0 Lb
 intro hb
 refine⟨(0:Nat),⟨rfl,rfl,rfl⟩,⟨Nat.zero_le _,by simp⟩,fun(k:Nat) hk=>⟨fun h=>⟨fun _=>⟨fun h1=>⟨rfl, ?_⟩,fun h1=> ?_⟩,fun h=>(by cases h)⟩,fun h=> ?_⟩⟩
 ·rw[Jwo,Jdb] at h1
  have h2:okB (k==0) (Yn s k)=false:=by simpa using h1
  unfold Y1
  have h3:okL true s.data.toList=false:=by
   rw[hk.2,Ft h,okL]
   by_cases ha:(s[k]'h).toNat<128
   ·rw[←(Jd6 h ha).1,h2];rfl
   ·rw[Jqb (by omega)];rfl
  rw[h3];rfl
 ·rw[Jwo,Jdb] at h1
  have h2:okB (k==0) (Yn s k)=true:=by simpa using h1
  by_cases ha:(s[k]'h).toNat<128
  ·obtain⟨r1,r2⟩:=Jd6 h ha
   refine⟨(k+1:Nat),⟨rfl,rfl,by rw[r2]⟩,⟨by omega, ?_⟩,by omega⟩
   rw[hk.2,Ft h,okL,←r1,h2]
   rfl
  ·have:=Jlp h (by omega)
   rw[Jqb this] at h2
   cases h2
 ·have e:k=s.size:=Nat.le_antisymm hk.1 (Nat.le_of_not_lt h)
  refine⟨fun h=>(by cases h),fun _=>⟨rfl, ?_⟩⟩
  rw[e,List.drop_eq_nil_of_le (by simp)] at hk
  unfold Y1
  rw[hk.2,Jju]
  cases decide (0<s.size)<;>cases decide ((s.size:Int)≤24)<;>rfl
abbrev W10 [Sx.Dr]:=W9.add Kuz
abbrev aU:AK:= .val false (.int .u8)
def Jw0 (c:Int):Bool:=bif (bif decide ((65:Int)≤c) then decide (c≤90) else false) then true else bif decide ((97:Int)≤c) then decide (c≤122) else false
def Kgs (c:Int):Bool:=bif decide ((48:Int)≤c) then decide (c≤57) else false
def Uba:Con:={args:=[aU],ress:=[Bo],owns:=[],pre:=fun _=>[],spec:=fun(c,_)=>(Jw0 c,())}
theorem Kto [Sx.Dr]:Ok Tryz.prog 190 Uba:=okW W10 Tryz.f190 na fun xx=>by
 obtain⟨(c:Int),_⟩:=xx
 refine(by kernel_rfl:((bif bif decide (65≤c) then decide (c≤90) else false then true else bif decide (97≤c) then decide (c≤122) else false)=Jw0 c)=_).mp ?_
 rfl
abbrev W11 [Sx.Dr]:=W10.add Kto
def Ubd:Con:={args:=[aU],ress:=[Bo],owns:=[],pre:=fun _=>[],spec:=fun(c,_)=>(Kgs c,())}
theorem Ktn [Sx.Dr]:Ok Tryz.prog 191 Ubd:=okW W11 Tryz.f191 na fun xx=>by
 obtain⟨(c:Int),_⟩:=xx
 refine(by kernel_rfl:((bif decide (48≤c) then decide (c≤57) else false)=Kgs c)=_).mp ?_
 rfl
abbrev W12 [Sx.Dr]:=W11.add Ktn
theorem J7r (c:Int):okB true c=Jw0 c:=by
 unfold okB Jw0
 cases decide ((65:Int)≤c)<;>cases decide (c≤90)<;>cases decide ((97:Int)≤c)<;>cases decide (c≤122)<;>rfl
theorem J7q (c:Int):(bif bif !Jw0 c then !Kgs c else false then c !=95 else false)= !okB false c:=by
 unfold okB Jw0 Kgs bne
 have e1:decide (c<48)= !decide ((48:Int)≤c):=by rw[Bool.eq_iff_iff];simp
 have e2:decide ((57:Int)<c)= !decide (c≤57):=by rw[Bool.eq_iff_iff];simp
 rw[e1,e2]
 cases decide ((65:Int)≤c)<;>cases decide (c≤90)<;>cases decide ((97:Int)≤c)<;>cases decide (c≤122)<;>cases decide ((48:Int)≤c)<;>cases decide (c≤57)<;>cases c==95<;>rfl
theorem Fa {s:ByteArray} {k:Nat} (h:k<s.size):s.data.toList.drop k=s.data.toList.getD k 0::s.data.toList.drop (k+1):=by
 have h':k<s.data.toList.length:=by simpa using h
 rw[List.drop_eq_getElem_cons h']
 congr 1
 rw[List.getD_eq_getElem?_getD,List.getElem?_eq_getElem h'];rfl
abbrev J3p (s:ByteArray):Ann:={X:=Nat,σ:=fun k=>⟨0,[(0, .one (.str s)),(3, .one (.int .i64 k))],[]⟩,inv:=fun k=>0<k∧k≤s.size∧Y1 s=okL false (s.data.toList.drop k),mu:=fun k=>s.size-k}
def Kqy (a:Bt) (b:Nat):=Nc (UInt8.toNat (List.getD (Z9 a) b 0))
def Kqt (a:Bt):=Nc (UInt8.toNat (List.getD (Z9 a) 0 0))
def K51 (a:Bt) (b:Nat):= !Jw0 (Kqy a b)
def K5p (a:Bt):=bif Nc (ByteArray.size a)==0 then true else decide (24<Nc (ByteArray.size a))
def Ko4 (a:Nat) (b:Bt):=0<a∧a≤ByteArray.size b∧Y1 b=okL false (List.drop a (Z9 b))
def K0p (a:Bt) (b:Nat):=bif K51 a b then !Kgs (Kqy a b) else false
theorem Kvf [Sx.Dr]:Ok Tryz.prog 111 Khd:=okW W12 Tryz.f111 (fun xx=>Zg (J3p xx.1)) fun xx=>by
 obtain⟨(s:ByteArray),_⟩:=xx
 refine(by kernel_rfl:(ByteArray.size s≤1000000→(K5p s=false→Bd 0 (Nc (ByteArray.size s)))∧Br (bif K5p s then true else !Jw0 (Kqt s)) (false=Y1 s) (∃(x:Nat),Sf s (1=Nc x)∧Ko4 x s∧∀(x:Nat),Ko4 x s→Br (decide (Nc x<Nc (ByteArray.size s))) ((Bd (Nc x) (Nc (ByteArray.size s))∧(K51 s x=true→Bd (Nc x) (Nc (ByteArray.size s)))∧(K0p s x=true→Bd (Nc x) (Nc (ByteArray.size s))))∧Br (bif K0p s x then Kqy s x !=95 else false) (false=Y1 s) (Z21 x∧∃(y:Nat),Sf s (V4 x y)∧Ko4 y s∧ByteArray.size s-y<ByteArray.size s-x)) (true=Y1 s)))=_).mp ?_
 delta Z9 Z21 V4 Kqy Kqt K51 K5p Ko4 K0p Br Iw Bd Sf Nc
 intro hb
 have e0:∀h:0<s.size,okL true s.data.toList=(Jw0 ((s.data.toList.getD 0 0).toNat:Int)&&okL false (s.data.toList.drop 1)):=fun h=>by
  have:=Fa h
  rw[List.drop_zero] at this
  rw[this,okL,J7r]
  simp
 refine⟨fun h=> ?_,fun h=> ?_,fun h=> ?_⟩
 ·have h1:((s.size:Int)==0)=false:=by revert h;cases((s.size:Int)==0)<;>simp
  have:=beq_eq_false_iff_ne.1 h1
  exact⟨Int.le_refl _,by omega⟩
 ·unfold Y1
  by_cases h0:0<s.size
  ·rw[e0 h0]
   have h1:((s.size:Int)==0)=false:=beq_eq_false_iff_ne.2 (by omega)
   rw[h1] at h
   by_cases h2:(s.size:Int)≤24
   ·have h3:decide ((24:Int)<s.size)=false:=decide_eq_false (by omega)
    rw[h3] at h
    have h4:Jw0 ((s.data.toList.getD 0 0).toNat:Int)=false:=by simpa using h
    rw[h4];rfl
   ·rw[decide_eq_false h2];simp
  ·rw[decide_eq_false h0];simp
 ·have h1:((s.size:Int)==0)=false:=by revert h;cases((s.size:Int)==0)<;>simp
  rw[h1] at h
  have h2:decide ((24:Int)<s.size)=false:=by revert h;cases decide ((24:Int)<s.size)<;>simp
  rw[h2] at h
  have h3:Jw0 ((s.data.toList.getD 0 0).toNat:Int)=true:=by simpa using h
  have h0:0<s.size:=by have:=beq_eq_false_iff_ne.1 h1;omega
  have h24:(s.size:Int)≤24:=by have:=of_decide_eq_false h2;omega
  have en:Y1 s=okL false (s.data.toList.drop 1):=by
   unfold Y1
   rw[e0 h0,h3,decide_eq_true h0,decide_eq_true h24];simp
  refine⟨(1:Nat),⟨rfl,rfl⟩,⟨by omega,by omega,en⟩,fun(k:Nat) hk=>⟨fun h=> ?_,fun h=> ?_⟩⟩
  ·have hlt:k<s.size:=by simpa using h
   rw[J7q]
   refine⟨⟨by omega,fun _=>by omega,fun _=>by omega⟩,fun h1=> ?_,fun h1=>⟨by omega,(k+1:Nat),⟨rfl,by simp⟩,⟨by omega,by omega, ?_⟩,by omega⟩⟩
   ·have h2:okB false ((s.data.toList.getD k 0).toNat:Int)=false:=by simpa using h1
    rw[hk.2.2,Fa hlt,okL,h2];rfl
   ·have h2:okB false ((s.data.toList.getD k 0).toNat:Int)=true:=by simpa using h1
    rw[hk.2.2,Fa hlt,okL,h2];rfl
  ·have hlt:¬k<s.size:=by simpa using h
   have:k=s.size:=by omega
   rw[hk.2.2,this,List.drop_eq_nil_of_le (by simp)];rfl
abbrev W13 [Sx.Dr]:=W12.add Kvf
abbrev J1z:Sch:= .prod sI .bool
abbrev Kfx:Sch:= .prod (.list 251 J1z) (.prod sI (.prod .fnc (.prod .fnc .fnc)))
abbrev K6g:=List (Int×Bool)×Int×Option Nat×Option Nat×Option Nat
abbrev Jl:ByteArray:=⟨⟨[117,110,100,111]⟩⟩
abbrev Jv:ByteArray:=⟨⟨[115,116,97,116,105,111,110]⟩⟩
abbrev Uc:ByteArray:=⟨⟨[112,114,105,99,101]⟩⟩
abbrev Kf:ByteArray:=⟨⟨[111,114,100,101,114]⟩⟩
abbrev K2:ByteArray:=⟨⟨[109,101,116,101,114]⟩⟩
abbrev Vj:ByteArray:=⟨⟨[116,114,105,112]⟩⟩
abbrev Jp:ByteArray:=⟨⟨[111,117,116,97,103,101]⟩⟩
abbrev Jr:ByteArray:=⟨⟨[114,101,115,116,111,114,101]⟩⟩
abbrev Kb:ByteArray:=⟨⟨[112,101,114,109,105,116]⟩⟩
abbrev Ka:ByteArray:=⟨⟨[114,101,116,117,114,110]⟩⟩
abbrev Jh:ByteArray:=⟨⟨[115,101,116,116,108,101]⟩⟩
def Dc:List (ByteArray×K6g):=[(Jl,[],0,none,none,none),
 (Jv,[(0,false)],2,some 148,some 149,some 150),
 (Uc,[(0,true)],2,some 152,some 153,some 150),
 (Kf,[(1,false),(0,true),(0,true)],4,some 154,some 155,some 156),
 (K2,[(1,true)],4,some 157,some 158,some 156),
 (Vj,[(1,true)],1,some 159,some 160,some 156),
 (Jp,[(2,false),(0,true)],4,some 161,some 162,some 163),
 (Jr,[(2,true)],1,some 164,some 165,some 163),
 (Kb,[(3,false),(2,true)],1,some 166,some 167,some 168),
 (Ka,[(3,true)],1,some 169,some 170,some 168),
 (Jh,[],2,some 171,some 172,none)]
def Khr:Con:={args:=[aI],ress:=[(true,J1z)],owns:=[],pre:=fun _=>[],spec:=fun(t,_)=>((t,false),())}
theorem Kuo [Sx.Dr]:Ok Tryz.prog 147 Khr:=okW W13 Tryz.f147 na fun xx=>by
 obtain⟨(t:Int),_⟩:=xx
 refine(by kernel_rfl:((t,false)=(t,false))=_).mp ?_
 trivial
abbrev W14 [Sx.Dr]:=W13.add Kuo
def Ua6:Con:={args:=[aI],ress:=[(true,J1z)],owns:=[],pre:=fun _=>[],spec:=fun(t,_)=>((t,true),())}
theorem Kuk [Sx.Dr]:Ok Tryz.prog 151 Ua6:=okW W14 Tryz.f151 na fun xx=>by
 obtain⟨(t:Int),_⟩:=xx
 refine(by kernel_rfl:((t,true)=(t,true))=_).mp ?_
 trivial
abbrev W15 [Sx.Dr]:=W14.add Kuk
def J5t:Jna:={kT:=9,gk:=false,gv:=true,ks:= .str,vs:=Kfx,l:=Dc}
def Kq5:=[((0:Int),true)]
def Keq:List (Int×Bool)×Int×Option Nat×Option Nat×Option Nat:=([],(0:Int),none,none,none)
def J90:=(∀(k k':ByteArray),some (Lb k k')=some (List.beq (ByteArray.toList k) (ByteArray.toList k')))∧∀(k:ByteArray),true=true
theorem K84 [Sx.Dr]:wpFM Tryz.prog W15.g (na ()) (fun _=>na ()) (Sx.look ([]:List (Nat×Func))) Tryz.f80 J5t:=by
 refine(by kernel_rfl:(J90∧Sf true ([(Jl,Keq),(Jv,[(0,false)],2,some 148,some 149,some 150),(Uc,Kq5,2,some 152,some 153,some 150),(Kf,(1,false)::(0,true)::Kq5,4,some 154,some 155,some 156),(K2,[(1,true)],4,some 157,some 158,some 156),(Vj,[(1,true)],1,some 159,some 160,some 156),(Jp,(2,false)::Kq5,4,some 161,some 162,some 163),(Jr,[(2,true)],1,some 164,some 165,some 163),(Kb,[(3,false),(2,true)],1,some 166,some 167,some 168),(Ka,[(3,true)],1,some 169,some 170,some 168),(Jh,[],2,some 171,some 172,none)]=Dc))=_).mp ?_
 delta Kq5 Keq J90 Sf Lb K2 Kf Jp Kb Uc Jr Ka Jh Jv Vj Jl
 exact⟨⟨fun _ _=>rfl,fun _=>rfl⟩,rfl,rfl⟩
theorem Ksd [Sx.Dr]:Ok Tryz.prog 80 (Jna.con J5t):=J5d (Jl1 mixed W15.ok (by kernel_rfl) (by kernel_rfl) (U0 (l:=([]:List (Nat×Func))) (by simp)) (na ()) (fun _=>na ()) K84)
abbrev W16 [Sx.Dr]:=W15.add Ksd
theorem Je {α:Type} {l:List α} {k:Nat} {d:α} (h:k<l.length):l.getD k d∈l:=by
 simp[List.getD_eq_getElem?_getD,h]
theorem Ke {α:Type} {d:α} {l:List α} {k:Nat} (h:k<l.length):l.take k++[l.getD k d]=l.take (k+1):=by
 rw[List.take_succ_eq_append_getElem h,List.getD_eq_getElem?_getD,List.getElem?_eq_getElem h];rfl
abbrev Jb4 (T U:TypeId) (s:Sch) (l:List s.T) (r:Bool×Sch) (g:Bool) (q:Tup [(g,s)]→List Prop) (f:Tup [(g,s)]→r.2.T):Ann:={X:=Nat,σ:=fun k=>⟨3,[(1, .one (.fv 1)),(5, .one (.sl 2)),(8, .one (.sl 0)),(9, .one (.int .i64 l.length)),(10, .one (.int .i64 k))],[(0, .imm T s l),(1, .afn [(g,s)] r q f),(2, .own U r.2 ((l.take k).map fun x=>f (x,())))]⟩,inv:=fun k=>k≤l.length,mu:=fun k=>l.length-k}
def Khg:Con:={args:=[.val false (.list 9 .str), .fn [tS] I],ress:=[(false, .list 26 sI)],owns:=[true],pre:=fun(l,(q,_),_)=>[l.length≤1000000,∀x∈l,Us (q (x,()))],spec:=fun(l,(_,f),_)=>(l.map fun x=>f (x,()),())}
def Khj:Con:={args:=[.val false (.list 3 sI), .fn [I] I],ress:=[(false, .list 26 sI)],owns:=[true],pre:=fun(l,(q,_),_)=>[l.length≤1000000,∀x∈l,Us (q (x,()))],spec:=fun(l,(_,f),_)=>(l.map fun x=>f (x,()),())}
def Kas (a:Li) (b:Int):=b∈a
def Ke6 (a:Int×Unit→Int) (b:Nat) (c:Li):=List.map (fun(x:Int)=>a (x,PUnit.unit)) (List.take b c)
def Kp3 (a:Li) (b:Int×Unit→List Prop):=∀(x:Int),Kas a x→Us (b (x,PUnit.unit))
theorem Kuy [Sx.Dr]:Ok Tryz.prog 137 Khj:=okW W16 Tryz.f137 (fun xx=>Zg (Jb4 3 26 sI xx.1 I false xx.2.1.1 xx.2.1.2)) fun xx=>by
 obtain⟨(l:List Int),⟨(q:Int×Unit→List Prop),(f:Int×Unit→Int)⟩,_⟩:=xx
 refine(by kernel_rfl:(Z57 l→Kp3 l q→∃(x:Nat),Si (Ln l) (0=Nc x∧Sf l ((fun(x:Int×PUnit)=>q x)=q∧(fun(x:Int×PUnit)=>f x)=f∧List.length (Ke6 f x l)=0))∧x≤List.length l∧∀(x:Nat),x≤List.length l→Br (decide (Nc x<Ln l)) (Z89 x l∧(Us (q (Z16 l x,PUnit.unit))∧(List.length (Ke6 f x l)+1)*8≤140737488355328)∧Z21 x∧∃(y:Nat),Si (Ln l) (V4 x y∧Sf l ((fun(x:Int×PUnit)=>q x)=q∧(fun(x:Int×PUnit)=>f x)=f∧Ke6 f x l++[f (Z16 l x,PUnit.unit)]=Ke6 f y l))∧y≤List.length l∧J01 l y x) (Ke6 f x l=List.map (fun(x:Int)=>f (x,PUnit.unit)) l))=_).mp ?_
 delta Z16 Z21 Z57 Z89 V4 Kas J01 Ke6 Kp3 Br Iw Bd Tw Sf Si Ln Nc
 intro hb hq
 refine⟨(0:Nat),⟨rfl,rfl,rfl,rfl,rfl,by simp⟩,Nat.zero_le _,fun(k:Nat) hk=>⟨fun h=> ?_,fun h=> ?_⟩⟩
 ·have hlt:k<l.length:=by simpa using h
  refine⟨by omega,⟨hq (l.getD k 0) (Je hlt),by simp only[List.length_map,List.length_take];omega⟩,by omega,(k+1:Nat),⟨rfl,by simp,rfl,rfl,rfl, ?_⟩,by omega,by omega⟩
  rw[←Ke (d:=0) hlt,List.map_append];rfl
 ·have hlt:¬k<l.length:=by simpa using h
  rw[List.take_of_length_le (by omega)]
abbrev W17 [Sx.Dr]:=W16.add Kuy
def Z19 (a:Ls) (b:Nat):=List.getD a b B0
def Z92 (a:Nat) (b:Ls):=Bd (Nc a) (Ln b)
def Fu (a:Ls):=List.length a≤1000000
def Ke3 (a:Ls) (b c:Nat):=List.length a-b<List.length a-c
def Kex (a:Bt×Unit→Int) (b:Nat) (c:Ls):=List.map (fun(x:ByteArray)=>a (x,PUnit.unit)) (List.take b c)
def Jgl (a:Ls) (b:Bt):=b∈a
theorem Ku1 [Sx.Dr]:Ok Tryz.prog 134 Khg:=okW W17 Tryz.f134 (fun xx=>Zg (Jb4 9 26 .str xx.1 I false xx.2.1.1 xx.2.1.2)) fun xx=>by
 obtain⟨(l:List ByteArray),⟨(q:ByteArray×Unit→List Prop),(f:ByteArray×Unit→Int)⟩,_⟩:=xx
 refine(by kernel_rfl:(Fu l→(∀(x:ByteArray),Jgl l x→Us (q (x,PUnit.unit)))→∃(x:Nat),Si (Ln l) (0=Nc x∧Sf l ((fun(x:ByteArray×PUnit)=>q x)=q∧(fun(x:ByteArray×PUnit)=>f x)=f∧List.length (Kex f x l)=0))∧x≤List.length l∧∀(x:Nat),x≤List.length l→Br (decide (Nc x<Ln l)) (Tw (Z92 x l)∧(Us (q (Z19 l x,PUnit.unit))∧(List.length (Kex f x l)+1)*8≤140737488355328)∧Z21 x∧∃(y:Nat),Si (Ln l) (V4 x y∧Sf l ((fun(x:ByteArray×PUnit)=>q x)=q∧(fun(x:ByteArray×PUnit)=>f x)=f∧Kex f x l++[f (Z19 l x,PUnit.unit)]=Kex f y l))∧y≤List.length l∧Ke3 l y x) (Kex f x l=List.map (fun(x:ByteArray)=>f (x,PUnit.unit)) l))=_).mp ?_
 delta Z19 Z21 Z92 V4 Fu Ke3 Kex Jgl Br Iw Bd Tw Sf Si Ln Nc B0
 intro hb hq
 refine⟨(0:Nat),⟨rfl,rfl,rfl,rfl,rfl,by simp⟩,Nat.zero_le _,fun(k:Nat) hk=>⟨fun h=> ?_,fun h=> ?_⟩⟩
 ·have hlt:k<l.length:=by simpa using h
  refine⟨by omega,⟨hq (l.getD k (⟨⟨[]⟩⟩:ByteArray)) (Je hlt),by simp only[List.length_map,List.length_take];omega⟩,by omega,(k+1:Nat),⟨rfl,by simp,rfl,rfl,rfl, ?_⟩,by omega,by omega⟩
  rw[←Ke (d:=(⟨⟨[]⟩⟩:ByteArray)) hlt,List.map_append];rfl
 ·have hlt:¬k<l.length:=by simpa using h
  rw[List.take_of_length_le (by omega)]
abbrev W18 [Sx.Dr]:=W17.add Ku1
def Kws:Con:={args:=[aS],ress:=[I],owns:=[],pre:=fun(s,_)=>[s.size≤1000000],spec:=fun(s,_)=>(bif Y1 s then 0 else 8,())}
theorem Ku0 [Sx.Dr]:Ok Tryz.prog 135 Kws:=okW W18 Tryz.f135 na fun xx=>by
 obtain⟨(s:ByteArray),_⟩:=xx
 refine(by kernel_rfl:(ByteArray.size s≤(1000000:Nat)→ByteArray.size s≤(1000000:Nat)∧(bif !Y1 s then(8:Int) else(0:Int))=bif Y1 s then(0:Int) else(8:Int))=_).mp ?_
 exact fun h=>⟨h,by cases Y1 s<;>rfl⟩
abbrev W19 [Sx.Dr]:=W18.add Ku0
def Kwr:Con:={args:=[aI],ress:=[I],owns:=[],pre:=fun _=>[],spec:=fun(n,_)=>(Kt n 0 999999999,())}
theorem Kux [Sx.Dr]:Ok Tryz.prog 138 Kwr:=okW W19 Tryz.f138 na fun xx=>by
 obtain⟨(n:Int),_⟩:=xx
 refine(by kernel_rfl:(Kqx n)=_).mp ?_
 delta Z78 Kqx
 rfl
abbrev W20 [Sx.Dr]:=W19.add Kux
abbrev Ev:=Int×ByteArray×List ByteArray×List Int×ByteArray
abbrev sEv:Sch:= .prod sI (.prod .str (.prod (.list 9 .str) (.prod (.list 3 sI) .str)))
abbrev aEv:AK:= .val true sEv
def Jk (k:ByteArray):K6g:=(Ue .str k Dc).getD ([],0,none,none,none)
def Y2 (k:ByteArray):Bool:=(Ue .str k Dc).isSome
def Jc (e:Ev):Int:=
 if Kt e.1 1 1000≠0 then Kt e.1 1 1000 else
 bif Y2 e.2.1 then(if e.2.2.1.length=(Jk e.2.1).1.length∧(e.2.2.2.1.length:Int)=(Jk e.2.1).2.1 then
  Jf [Jf (e.2.2.1.map fun s=>bif Y1 s then 0 else 8),Jf (e.2.2.2.1.map fun n=>Kt n 0 999999999),bif decide (0<e.2.2.2.2.size) then 1 else 0] else 2) else 13
theorem bn1 {b c:Bool} (h:(bif b then true else c)=false):b=false∧c=false:=by cases b<;>simp_all
def Kh6:Con:={args:=[aEv],ress:=[I],owns:=[],pre:=fun(e,_)=>[e.2.2.1.length≤1000000,e.2.2.2.1.length≤1000000,∀s∈e.2.2.1,s.size≤1000000],spec:=fun(e,_)=>(Jc e,())}
def Z66 (a:Int) (b:Bt) (c:Ls) (d:Li) (e:Bt):=Jc (a,b,c,d,e)
def K45 (a:Ls):=List.map (fun(x:ByteArray)=>match Y1 x with|true=>(0:Int)|false=>(8:Int)) a
def Jgk (a:Ls):=∀(s:ByteArray),Jgl a s→ByteArray.size s≤1000000
def K20 (a:Bt):=Ue Sch.str a Dc
def Kyy (a:Bt):=Option.getD (K20 a) Keq
theorem K6n [Sx.Dr]:Ok Tryz.prog 64 Kh6:=okW W20 Tryz.f64 na fun xx=>by
 obtain⟨⟨(n:Int),(k:ByteArray),(ns:List ByteArray),(vs:List Int),(t:ByteArray)⟩,_⟩:=xx
 refine(by kernel_rfl:(Fu ns→Z57 vs→Jgk ns→Br (Kt n 1 (1000:Int) !=0) (Kt n 1 1000=Z66 n k ns vs t) (Br (!Option.isSome (K20 k)) (13=Z66 n k ns vs t) (Br (bif Ln ns !=Ln (Kyy k).1 then true else Ln vs !=(Kyy k).2.1) (2=Z66 n k ns vs t) ((Fu ns∧Jgk ns)∧(Z57 vs∧∀(x:Int),Kas vs x→True)∧(List.length (K45 ns)≤1000000∧List.length (List.map (fun(x:Int)=>Z78 x) vs)≤1000000∧3≤1000000)∧Jf [Jf (K45 ns),Jf (List.map (fun(x:Int)=>Z78 x) vs),bif !Lb t B0 then 1 else 0]=Z66 n k ns vs t))))=_).mp ?_
 delta Z57 Z66 Z78 Fu Kas Jgl Keq K45 Jgk K20 Kyy Br Ln B0 Lb
 intro h1 h2 h3
 unfold Jc Jk Y2
 dsimp only
 refine⟨fun h=> ?_,fun h=> ?_⟩
 ·rw[if_pos (bne_iff_ne.1 h)]
 rw[if_neg (by have:=bne_eq_false_iff_eq.1 h;simpa using this)]
 refine⟨fun h4=> ?_,fun h4=> ?_⟩
 ·rw[Bool.not_eq_true'] at h4
  rw[h4];rfl
 rw[Bool.not_eq_false'] at h4
 rw[h4,cond_true]
 refine⟨fun h5=> ?_,fun h5=>⟨⟨h1,h3⟩,⟨h2,fun _ _=>trivial⟩,⟨by simpa using h1,by simpa using h2,by decide⟩, ?_⟩⟩
 ·rw[if_neg]
  rintro⟨e1,e2⟩
  rw[e1,e2] at h5
  simp at h5
 ·have h6:=bn1 h5
  rw[if_pos ⟨Int.ofNat_inj.1 (bne_eq_false_iff_eq.1 h6.1),bne_eq_false_iff_eq.1 h6.2⟩,Jju]
  rfl
abbrev W21 [Sx.Dr]:=W20.add K6n
abbrev Ld:Sch:= .prod sI sI
abbrev Sta:=ByteArray×Int×Int
abbrev Ord:=ByteArray×ByteArray×ByteArray×(Int×Int)×Int×Int×Int
abbrev Met:=ByteArray×Int×Int×Int
abbrev Out:=ByteArray×ByteArray×(Int×Int)×Int
abbrev Per:=ByteArray×ByteArray×Bool
abbrev X5:Sch:= .prod .str (.prod sI sI)
abbrev Ym:Sch:= .prod .str (.prod .str (.prod .str (.prod Ld (.prod sI (.prod sI sI)))))
abbrev X9:Sch:= .prod .str (.prod sI (.prod sI sI))
abbrev Yh:Sch:= .prod .str (.prod .str (.prod Ld sI))
abbrev Y8:Sch:= .prod .str (.prod .str .bool)
def K6v:Con:={args:=[.val true X5],ress:=[tS],owns:=[],pre:=fun _=>[],spec:=fun(x,_)=>(x.1,())}
def K6x:Con:={args:=[.val true Ym],ress:=[tS],owns:=[],pre:=fun _=>[],spec:=fun(x,_)=>(x.1,())}
def K6u:Con:={args:=[.val true Yh],ress:=[tS],owns:=[],pre:=fun _=>[],spec:=fun(x,_)=>(x.1,())}
def K6w:Con:={args:=[.val true Y8],ress:=[tS],owns:=[],pre:=fun _=>[],spec:=fun(x,_)=>(x.1,())}
theorem Krg [Sx.Dr] (x:Sta):wpF Tryz.prog W21.g (na ()) Tryz.f328 K6v (x,()):=by
 refine(by kernel_rfl:(x.1=x.1)=_).mp ?_
 rfl
theorem Ksg [Sx.Dr]:Ok Tryz.prog 328 K6v:=V2 mixed W21.ok (by kernel_rfl) (by kernel_rfl) na fun xx=>Krg xx.1
abbrev W22 [Sx.Dr]:=W21.add Ksg
theorem Krf [Sx.Dr] (x:Ord):wpF Tryz.prog W22.g (na ()) Tryz.f329 K6x (x,()):=by
 refine(by kernel_rfl:(x.1=x.1)=_).mp ?_
 rfl
theorem Ksf [Sx.Dr]:Ok Tryz.prog 329 K6x:=V2 mixed W22.ok (by kernel_rfl) (by kernel_rfl) na fun xx=>Krf xx.1
abbrev W23 [Sx.Dr]:=W22.add Ksf
theorem Kro [Sx.Dr] (x:Out):wpF Tryz.prog W23.g (na ()) Tryz.f204 K6u (x,()):=by
 refine(by kernel_rfl:(x.1=x.1)=_).mp ?_
 rfl
theorem Ktb [Sx.Dr]:Ok Tryz.prog 204 K6u:=V2 mixed W23.ok (by kernel_rfl) (by kernel_rfl) na fun xx=>Kro xx.1
abbrev W24 [Sx.Dr]:=W23.add Ktb
theorem Krn [Sx.Dr] (x:Per):wpF Tryz.prog W24.g (na ()) Tryz.f208 K6w (x,()):=by
 refine(by kernel_rfl:(x.1=x.1)=_).mp ?_
 rfl
theorem Ks7 [Sx.Dr]:Ok Tryz.prog 208 K6w:=V2 mixed W24.ok (by kernel_rfl) (by kernel_rfl) na fun xx=>Krn xx.1
abbrev W25 [Sx.Dr]:=W24.add Ks7
def Jb:ByteArray:=⟨⟨[]⟩⟩
def K0 {α:Type} (p:α→Bool):List α→Nat→Int
 |[],_=> -1
 |x::r,k=>if p x=true then(k:Int) else K0 p r (k+1)
theorem Yo {α:Type} {p:α→Bool} {l:List α} {k:Nat} {d:α} (h:k<l.length):K0 p (l.drop k) k=if p (l.getD k d)=true then(k:Int) else K0 p (l.drop (k+1)) (k+1):=by
 rw[List.drop_eq_getElem_cons h]
 simp[K0,List.getD_eq_getElem?_getD,h]
abbrev Jm1 (T:TypeId) (s:Sch) (g:Bool) (l:List s.T) (q:Tup [(g,s)]→List Prop) (f:Tup [(g,s)]→Bool):Ann:={X:=Nat,σ:=fun k=>⟨2,[(0, .one (.sl 0)),(1, .one (.fv 1)),(7, .one (.int .i64 l.length)),(8, .one (.int .i64 k))],[(0, .imm T s l),(1, .afn [(g,s)] Bo q f)]⟩,inv:=fun k=>k≤l.length∧K0 (fun x=>f (x,())) l 0=K0 (fun x=>f (x,())) (l.drop k) k,mu:=fun k=>l.length-k}
def Khp (T:TypeId) (s:Sch) (g:Bool):Con:={args:=[.val false (.list T s), .fn [(g,s)] Bo],ress:=[I],owns:=[],pre:=fun(l,(q,_),_)=>[l.length≤1000000,∀x∈l,Us (q (x,()))],spec:=fun(l,(_,f),_)=>(K0 (fun x=>f (x,())) l 0,())}
def Jkv:Sta:=(Jb,0,0)
def K6z:Con:={args:=[.val true X5, .ref 9 .str],ress:=[Bo],owns:=[],pre:=fun _=>[],spec:=fun(x,s,_)=>(x.1.toList==s.toList,())}
theorem Krm [Sx.Dr] (x:Sta) (s:ByteArray):wpF Tryz.prog W25.g (na ()) Tryz.f229 K6z (x,s,()):=by
 refine(by kernel_rfl:(Lb x.1 s=Lb x.1 s)=_).mp ?_
 delta Lb
 rfl
theorem Ks3 [Sx.Dr]:Ok Tryz.prog 229 K6z:=V2 mixed W25.ok (by kernel_rfl) (by kernel_rfl) na fun xx=>Krm xx.1 xx.2.1
abbrev W26 [Sx.Dr]:=W25.add Ks3
def Z7:=(B0,(0:Int),(0:Int))
def Z44 (a:List Sta):=List.length a≤1000000
def Z71:=(-1)
def J6q (a:List Sta) (b:Nat):=(List.getD a b Z7).1
def J6p (a:List Sta) (b:Nat):=(List.getD a b Z7).2
def J6m (a:List Sta) (b c:Nat):=List.length a-b<List.length a-c
def Ko8 (a:List Sta) (b:Nat):=(J6q a b,E2 (J6p a b))
def K34 (a:List Sta) (b:Nat):=(Ko8 a b,PUnit.unit)
def Kom (a:Nat) (b:List Sta) (c:Sta×Unit→Bool):=a≤List.length b∧K0 (fun(x:Sta)=>c (x,PUnit.unit)) b 0=K0 (fun(x:Sta)=>c (x,PUnit.unit)) (List.drop a b) a
theorem Ks4 [Sx.Dr]:Ok Tryz.prog 228 (Khp 127 X5 true):=okW W26 Tryz.f228 (fun xx=>Zg (Jm1 127 X5 true xx.1 xx.2.1.1 xx.2.1.2)) fun xx=>by
 obtain⟨(l:List Sta),⟨(q:Sta×Unit→List Prop),(f:Sta×Unit→Bool)⟩,_⟩:=xx
 refine(by kernel_rfl:(Z44 l→(∀(x:Sta),x∈l→Us (q (x,PUnit.unit)))→∃(x:Nat),Si (Ln l) (0=Nc x∧Sf l ((fun(x:Sta×PUnit)=>q x)=q∧(fun(x:Sta×PUnit)=>f x)=f))∧Kom x l f∧∀(x:Nat),Kom x l f→Br (decide (Nc x<Ln l)) (T2 (Bd (Nc x) (Ln l)) (Us (q (K34 l x)))∧Br (f (K34 l x)) (Nc x=K0 (fun(x:Sta)=>f (x,PUnit.unit)) l 0) (Z21 x∧∃(y:Nat),Si (Ln l) (V4 x y∧Sf l ((fun(x:Sta×PUnit)=>q x)=q∧(fun(x:Sta×PUnit)=>f x)=f))∧Kom y l f∧J6m l y x)) (Z71=K0 (fun(x:Sta)=>f (x,PUnit.unit)) l 0))=_).mp ?_
 delta Z7 Z21 Z44 Z71 V4 J6q J6p J6m Ko8 K34 Kom Br Iw Bd T2 Sf Si Ln Nc B0 E2
 intro hb hq
 refine⟨(0:Nat),⟨rfl,rfl,rfl,rfl,rfl⟩,⟨Nat.zero_le _,rfl⟩,fun(k:Nat) hk=>⟨fun h=> ?_,fun h=> ?_⟩⟩
 ·have hlt:k<l.length:=by simpa using h
  have hd:=Yo (p:=fun x=>f (x,())) (d:=Jkv) hlt
  refine⟨⟨by omega,by omega,hq (l.getD k Jkv) (Je hlt)⟩,fun h1=> ?_,fun h1=>⟨by omega,(k+1:Nat),⟨rfl,rfl,rfl,by simp,rfl⟩,⟨by omega, ?_⟩,by omega⟩⟩
  ·rw[hk.2,hd,if_pos (show f (l.getD k Jkv,())=true from h1)]
  ·rw[hk.2,hd,if_neg (by rw[show f (l.getD k Jkv,())=false from h1];simp)]
 ·have hlt:¬k<l.length:=by simpa using h
  have:k=l.length:=by omega
  rw[hk.2,this,List.drop_length];rfl
abbrev W27 [Sx.Dr]:=W26.add Ks4
def J1 (l:List Sta) (s:ByteArray):Int:=K0 (fun x=>x.1.toList==s.toList) l 0
def Khv:Con:={args:=[.val false (.list 127 X5),aS],ress:=[I],owns:=[],pre:=fun(l,_)=>[l.length≤1000000],spec:=fun(l,s,_)=>(J1 l s,())}
theorem Kus [Sx.Dr]:Ok Tryz.prog 143 Khv:=okW W27 Tryz.f143 na fun xx=>by
 obtain⟨(l:List Sta),(s:ByteArray),_⟩:=xx
 refine(by kernel_rfl:(Z44 l→(Z44 l∧∀(x:Sta),x∈l→True)∧K0 (fun(x:Sta)=>List.beq (ByteArray.toList x.1) (ByteArray.toList s)) l 0=J1 l s)=_).mp ?_
 delta Z44
 exact fun h=>⟨⟨h,fun _ _=>trivial⟩,rfl⟩
abbrev W28 [Sx.Dr]:=W27.add Kus
def Ki:Ord:=(Jb,Jb,Jb,(0,0),0,0,0)
def K61:Con:={args:=[.val true Ym, .ref 9 .str],ress:=[Bo],owns:=[],pre:=fun _=>[],spec:=fun(x,s,_)=>(x.1.toList==s.toList,())}
theorem Krl [Sx.Dr] (x:Ord) (s:ByteArray):wpF Tryz.prog W28.g (na ()) Tryz.f231 K61 (x,s,()):=by
 refine(by kernel_rfl:(Lb x.1 s=Lb x.1 s)=_).mp ?_
 delta Lb
 rfl
theorem Ks1 [Sx.Dr]:Ok Tryz.prog 231 K61:=V2 mixed W28.ok (by kernel_rfl) (by kernel_rfl) na fun xx=>Krl xx.1 xx.2.1
abbrev W29 [Sx.Dr]:=W28.add Ks1
def Z50 (a:List Ord):=List.length a≤1000000
def Z75:=((0:Int),(0:Int),(0:Int))
def J1b (a:Nat) (b:List Ord):=decide (Nc a<Ln b)
def Jdo:=(B0,B0,B0,((0:Int),(0:Int)),Z75)
def Kac (a:List Ord) (b:Nat):=List.getD a b Jdo
def Kp5 (a:List Ord) (b:Ord×Unit→List Prop):=∀(x:Ord),x∈a→Us (b (x,PUnit.unit))
def Kem (a:List Ord) (b:Nat):=(Kac a b).2
def J3y (a:List Ord) (b:Nat):=(Kac a b).1
def Kek (a:List Ord) (b:Nat):=(Kem a b).2
def Kaa (a:List Ord) (b:Nat):=(Kem a b).1
def Kej (a:List Ord) (b:Nat):=(Kek a b).2
def J99 (a:List Ord) (b:Nat):=(Kek a b).1
def Kei (a:List Ord) (b:Nat):=(Kej a b).2
def J98 (a:List Ord) (b:Nat):=(Kej a b).1
def J97 (a:List Ord) (b:Nat):=(Kei a b).2
def J96 (a:List Ord) (b:Nat):=(Kei a b).1
def Koo (a:Nat) (b:List Ord) (c:Ord×Unit→Bool):=a≤List.length b∧K0 (fun(x:Ord)=>c (x,PUnit.unit)) b 0=K0 (fun(x:Ord)=>c (x,PUnit.unit)) (List.drop a b) a
def Jz7 (a:List Ord) (b:Nat):=(J3y a b,Kaa a b,J99 a b,E2 (J98 a b),J96 a b,E2 (J97 a b))
def Jz6 (a:List Ord) (b:Nat):=(Jz7 a b,PUnit.unit)
def J4s (a:Ord×Unit→List Prop) (b:List Ord) (c:Nat):=Us (a (Jz6 b c))
theorem Ks2 [Sx.Dr]:Ok Tryz.prog 230 (Khp 130 Ym true):=okW W29 Tryz.f230 (fun xx=>Zg (Jm1 130 Ym true xx.1 xx.2.1.1 xx.2.1.2)) fun xx=>by
 obtain⟨(l:List Ord),⟨(q:Ord×Unit→List Prop),(f:Ord×Unit→Bool)⟩,_⟩:=xx
 refine(by kernel_rfl:(Z50 l→Kp5 l q→∃(x:Nat),Si (Ln l) (0=Nc x∧Sf l ((fun(x:Ord×PUnit)=>q x)=q∧(fun(x:Ord×PUnit)=>f x)=f))∧Koo x l f∧∀(x:Nat),Koo x l f→Br (J1b x l) (T2 (Bd (Nc x) (Ln l)) (J4s q l x)∧Br (f (Jz6 l x)) (Nc x=K0 (fun(x:Ord)=>f (x,PUnit.unit)) l 0) (Z21 x∧∃(y:Nat),Si (Ln l) (V4 x y∧Sf l ((fun(x:Ord×PUnit)=>q x)=q∧(fun(x:Ord×PUnit)=>f x)=f))∧Koo y l f∧List.length l-y<List.length l-x)) (Z71=K0 (fun(x:Ord)=>f (x,PUnit.unit)) l 0))=_).mp ?_
 delta Z21 Z50 Z71 Z75 V4 J1b Jdo Kac Kp5 Kem J3y Kek Kaa Kej J99 Kei J98 J97 J96 Koo Jz7 Jz6 J4s Br Iw Bd T2 Sf Si Ln Nc B0 E2
 intro hb hq
 refine⟨(0:Nat),⟨rfl,rfl,rfl,rfl,rfl⟩,⟨Nat.zero_le _,rfl⟩,fun(k:Nat) hk=>⟨fun h=> ?_,fun h=> ?_⟩⟩
 ·have hlt:k<l.length:=by simpa using h
  have hd:=Yo (p:=fun x=>f (x,())) (d:=Ki) hlt
  refine⟨⟨by omega,by omega,hq (l.getD k Ki) (Je hlt)⟩,fun h1=> ?_,fun h1=>⟨by omega,(k+1:Nat),⟨rfl,rfl,rfl,by simp,rfl⟩,⟨by omega, ?_⟩,by omega⟩⟩
  ·rw[hk.2,hd,if_pos (show f (l.getD k Ki,())=true from h1)]
  ·rw[hk.2,hd,if_neg (by rw[show f (l.getD k Ki,())=false from h1];simp)]
 ·have hlt:¬k<l.length:=by simpa using h
  have:k=l.length:=by omega
  rw[hk.2,this,List.drop_length];rfl
abbrev W30 [Sx.Dr]:=W29.add Ks2
def Kg (l:List Ord) (s:ByteArray):Int:=K0 (fun x=>x.1.toList==s.toList) l 0
def Khx:Con:={args:=[.val false (.list 130 Ym),aS],ress:=[I],owns:=[],pre:=fun(l,_)=>[l.length≤1000000],spec:=fun(l,s,_)=>(Kg l s,())}
theorem Kur [Sx.Dr]:Ok Tryz.prog 144 Khx:=okW W30 Tryz.f144 na fun xx=>by
 obtain⟨(l:List Ord),(s:ByteArray),_⟩:=xx
 refine(by kernel_rfl:(Z50 l→(Z50 l∧∀(x:Ord),x∈l→True)∧K0 (fun(x:Ord)=>List.beq (ByteArray.toList x.1) (ByteArray.toList s)) l 0=Kg l s)=_).mp ?_
 delta Z50
 exact fun h=>⟨⟨h,fun _ _=>trivial⟩,rfl⟩
abbrev W31 [Sx.Dr]:=W30.add Kur
def Hp:Out:=(Jb,Jb,(0,0),0)
def K6y:Con:={args:=[.val true Yh, .ref 9 .str],ress:=[Bo],owns:=[],pre:=fun _=>[],spec:=fun(x,s,_)=>(x.1.toList==s.toList,())}
theorem Krk [Sx.Dr] (x:Out) (s:ByteArray):wpF Tryz.prog W31.g (na ()) Tryz.f233 K6y (x,s,()):=by
 refine(by kernel_rfl:(Lb x.1 s=Lb x.1 s)=_).mp ?_
 delta Lb
 rfl
theorem Ksz [Sx.Dr]:Ok Tryz.prog 233 K6y:=V2 mixed W31.ok (by kernel_rfl) (by kernel_rfl) na fun xx=>Krk xx.1 xx.2.1
abbrev W32 [Sx.Dr]:=W31.add Ksz
def Z48 (a:List Out):=List.length a≤1000000
def Jnd (a:Nat) (b:List Out):=decide (Nc a<Ln b)
def Jc1:=(B0,B0,((0:Int),(0:Int)),(0:Int))
def Jum (a:List Out) (b c:Nat):=List.length a-b<List.length a-c
def Jtv (a:List Out) (b:Nat):=(List.getD a b Jc1).1
def J0x (a:List Out) (b:Nat):=(List.getD a b Jc1).2
def J33 (a:List Out) (b:Nat):=(J0x a b).1
def J31 (a:List Out) (b:Nat):=(J0x a b).2.2
def Jzg (a:List Out) (b:Nat):=(J0x a b).2.1
def J56 (a:List Out) (b:Out×Unit→List Prop):=∀(x:Out),x∈a→Us (b (x,PUnit.unit))
def Kol (a:Nat) (b:List Out) (c:Out×Unit→Bool):=a≤List.length b∧K0 (fun(x:Out)=>c (x,PUnit.unit)) b 0=K0 (fun(x:Out)=>c (x,PUnit.unit)) (List.drop a b) a
def J9z (a:List Out) (b:Nat):=(Jtv a b,J33 a b,E2 (Jzg a b),J31 a b)
def J50 (a:List Out) (b:Nat):=(J9z a b,PUnit.unit)
def Kmg (a:Out×Unit→Bool) (b:List Out) (c:Nat):=a (J50 b c)
def J5z (a:Out×Unit→List Prop) (b:List Out) (c:Nat):=Us (a (J50 b c))
theorem Ks0 [Sx.Dr]:Ok Tryz.prog 232 (Khp 188 Yh true):=okW W32 Tryz.f232 (fun xx=>Zg (Jm1 188 Yh true xx.1 xx.2.1.1 xx.2.1.2)) fun xx=>by
 obtain⟨(l:List Out),⟨(q:Out×Unit→List Prop),(f:Out×Unit→Bool)⟩,_⟩:=xx
 refine(by kernel_rfl:(Z48 l→J56 l q→∃(x:Nat),Si (Ln l) (0=Nc x∧Sf l ((fun(x:Out×PUnit)=>q x)=q∧(fun(x:Out×PUnit)=>f x)=f))∧Kol x l f∧∀(x:Nat),Kol x l f→Br (Jnd x l) (T2 (Bd (Nc x) (Ln l)) (J5z q l x)∧Br (Kmg f l x) (Nc x=K0 (fun(x:Out)=>f (x,PUnit.unit)) l 0) (Z21 x∧∃(y:Nat),Si (Ln l) (V4 x y∧Sf l ((fun(x:Out×PUnit)=>q x)=q∧(fun(x:Out×PUnit)=>f x)=f))∧Kol y l f∧Jum l y x)) (Z71=K0 (fun(x:Out)=>f (x,PUnit.unit)) l 0))=_).mp ?_
 delta Z21 Z48 Z71 V4 Jnd Jc1 Jum Jtv J0x J33 J31 Jzg J56 Kol J9z J50 Kmg J5z Br Iw Bd T2 Sf Si Ln Nc B0 E2
 intro hb hq
 refine⟨(0:Nat),⟨rfl,rfl,rfl,rfl,rfl⟩,⟨Nat.zero_le _,rfl⟩,fun(k:Nat) hk=>⟨fun h=> ?_,fun h=> ?_⟩⟩
 ·have hlt:k<l.length:=by simpa using h
  have hd:=Yo (p:=fun x=>f (x,())) (d:=Hp) hlt
  refine⟨⟨by omega,by omega,hq (l.getD k Hp) (Je hlt)⟩,fun h1=> ?_,fun h1=>⟨by omega,(k+1:Nat),⟨rfl,rfl,rfl,by simp,rfl⟩,⟨by omega, ?_⟩,by omega⟩⟩
  ·rw[hk.2,hd,if_pos (show f (l.getD k Hp,())=true from h1)]
  ·rw[hk.2,hd,if_neg (by rw[show f (l.getD k Hp,())=false from h1];simp)]
 ·have hlt:¬k<l.length:=by simpa using h
  have:k=l.length:=by omega
  rw[hk.2,this,List.drop_length];rfl
abbrev W33 [Sx.Dr]:=W32.add Ks0
def Jw (l:List Out) (s:ByteArray):Int:=K0 (fun x=>x.1.toList==s.toList) l 0
def Khu:Con:={args:=[.val false (.list 188 Yh),aS],ress:=[I],owns:=[],pre:=fun(l,_)=>[l.length≤1000000],spec:=fun(l,s,_)=>(Jw l s,())}
def Kqq (a:List Out):=∀(x:Out),x∈a→True
theorem Kuq [Sx.Dr]:Ok Tryz.prog 145 Khu:=okW W33 Tryz.f145 na fun xx=>by
 obtain⟨(l:List Out),(s:ByteArray),_⟩:=xx
 refine(by kernel_rfl:(Z48 l→(Z48 l∧Kqq l)∧K0 (fun(x:Out)=>List.beq (ByteArray.toList x.1) (ByteArray.toList s)) l 0=Jw l s)=_).mp ?_
 delta Z48 Kqq
 exact fun h=>⟨⟨h,fun _ _=>trivial⟩,rfl⟩
abbrev W34 [Sx.Dr]:=W33.add Kuq
def Fi:Per:=(Jb,Jb,false)
def K60:Con:={args:=[.val true Y8, .ref 9 .str],ress:=[Bo],owns:=[],pre:=fun _=>[],spec:=fun(x,s,_)=>(x.1.toList==s.toList,())}
theorem Krj [Sx.Dr] (x:Per) (s:ByteArray):wpF Tryz.prog W34.g (na ()) Tryz.f235 K60 (x,s,()):=by
 refine(by kernel_rfl:(Lb x.1 s=Lb x.1 s)=_).mp ?_
 delta Lb
 rfl
theorem Ksx [Sx.Dr]:Ok Tryz.prog 235 K60:=V2 mixed W34.ok (by kernel_rfl) (by kernel_rfl) na fun xx=>Krj xx.1 xx.2.1
abbrev W35 [Sx.Dr]:=W34.add Ksx
def Z47 (a:List Per):=List.length a≤1000000
def Z99 (a:Nat) (b:List Per):=decide (Nc a<Ln b)
def Jzi (a:List Per) (b:Nat):=(List.getD a b (B0,B0,false)).2
def J06 (a:List Per) (b:Nat):=(List.getD a b (B0,B0,false)).1
def Jzh (a:List Per) (b c:Nat):=List.length a-b<List.length a-c
def Kel (a:List Per) (b:Per×Unit→List Prop):=∀(x:Per),x∈a→Us (b (x,PUnit.unit))
def Keh (a:List Per) (b:Nat):=(J06 a b,E2 (Jzi a b))
def Kef (a:List Per) (b:Nat):=(Keh a b,PUnit.unit)
def Ko6 (a:Per×Unit→Bool) (b:List Per) (c:Nat):=a (Kef b c)
def Keb (a:Per×Unit→List Prop) (b:List Per) (c:Nat):=Us (a (Kef b c))
def Kon (a:Nat) (b:List Per) (c:Per×Unit→Bool):=a≤List.length b∧K0 (fun(x:Per)=>c (x,PUnit.unit)) b 0=K0 (fun(x:Per)=>c (x,PUnit.unit)) (List.drop a b) a
theorem Ksy [Sx.Dr]:Ok Tryz.prog 234 (Khp 235 Y8 true):=okW W35 Tryz.f234 (fun xx=>Zg (Jm1 235 Y8 true xx.1 xx.2.1.1 xx.2.1.2)) fun xx=>by
 obtain⟨(l:List Per),⟨(q:Per×Unit→List Prop),(f:Per×Unit→Bool)⟩,_⟩:=xx
 refine(by kernel_rfl:(Z47 l→Kel l q→∃(x:Nat),Si (Ln l) (0=Nc x∧Sf l ((fun(x:Per×PUnit)=>q x)=q∧(fun(x:Per×PUnit)=>f x)=f))∧Kon x l f∧∀(x:Nat),Kon x l f→Br (Z99 x l) (T2 (Bd (Nc x) (Ln l)) (Keb q l x)∧Br (Ko6 f l x) (Nc x=K0 (fun(x:Per)=>f (x,PUnit.unit)) l 0) (Z21 x∧∃(y:Nat),Si (Ln l) (V4 x y∧Sf l ((fun(x:Per×PUnit)=>q x)=q∧(fun(x:Per×PUnit)=>f x)=f))∧Kon y l f∧Jzh l y x)) (Z71=K0 (fun(x:Per)=>f (x,PUnit.unit)) l 0))=_).mp ?_
 delta Z21 Z47 Z71 Z99 V4 Jzi J06 Jzh Kel Keh Kef Ko6 Keb Kon Br Iw Bd T2 Sf Si Ln Nc B0 E2
 intro hb hq
 refine⟨(0:Nat),⟨rfl,rfl,rfl,rfl,rfl⟩,⟨Nat.zero_le _,rfl⟩,fun(k:Nat) hk=>⟨fun h=> ?_,fun h=> ?_⟩⟩
 ·have hlt:k<l.length:=by simpa using h
  have hd:=Yo (p:=fun x=>f (x,())) (d:=Fi) hlt
  refine⟨⟨by omega,by omega,hq (l.getD k Fi) (Je hlt)⟩,fun h1=> ?_,fun h1=>⟨by omega,(k+1:Nat),⟨rfl,rfl,rfl,by simp,rfl⟩,⟨by omega, ?_⟩,by omega⟩⟩
  ·rw[hk.2,hd,if_pos (show f (l.getD k Fi,())=true from h1)]
  ·rw[hk.2,hd,if_neg (by rw[show f (l.getD k Fi,())=false from h1];simp)]
 ·have hlt:¬k<l.length:=by simpa using h
  have:k=l.length:=by omega
  rw[hk.2,this,List.drop_length];rfl
abbrev W36 [Sx.Dr]:=W35.add Ksy
def Uj (l:List Per) (s:ByteArray):Int:=K0 (fun x=>x.1.toList==s.toList) l 0
def Khw:Con:={args:=[.val false (.list 235 Y8),aS],ress:=[I],owns:=[],pre:=fun(l,_)=>[l.length≤1000000],spec:=fun(l,s,_)=>(Uj l s,())}
def Kpb (a:List Per):=Z47 a∧∀(x:Per),x∈a→True
theorem Kup [Sx.Dr]:Ok Tryz.prog 146 Khw:=okW W36 Tryz.f146 na fun xx=>by
 obtain⟨(l:List Per),(s:ByteArray),_⟩:=xx
 refine(by kernel_rfl:(Z47 l→Kpb l∧K0 (fun(x:Per)=>List.beq (ByteArray.toList x.1) (ByteArray.toList s)) l 0=Uj l s)=_).mp ?_
 delta Z47 Kpb
 exact fun h=>⟨⟨h,fun _ _=>trivial⟩,rfl⟩
abbrev W37 [Sx.Dr]:=W36.add Kup
abbrev Reg:=Int×Int×List Sta×List Ord×List Met×List Out×List Per
abbrev Jkx:Sch:= .prod sI (.prod sI (.prod (.list 127 X5) (.prod (.list 130 Ym) (.prod (.list 155 X9) (.prod (.list 188 Yh) (.list 235 Y8))))))
abbrev Jb6:AK:= .val true Jkx
def Kv (s:Int×Int) (h:Int):Bool:=bif decide (s.1≤h) then decide (h<s.2) else false
def Jx4:Con:={args:=[.val true Ld,aI],ress:=[Bo],owns:=[],pre:=fun _=>[],spec:=fun(s,h,_)=>(Kv s h,())}
theorem Kuv [Sx.Dr]:Ok Tryz.prog 140 Jx4:=okW W37 Tryz.f140 na fun xx=>by
 obtain⟨⟨(a:Int),(b:Int)⟩,(h:Int),_⟩:=xx
 refine(by kernel_rfl:((bif decide (a≤h) then decide (h<b) else false)=Kv (a,b) h)=_).mp ?_
 rfl
abbrev W38 [Sx.Dr]:=W37.add Kuv
def J2 (x:Ord) (h:Int):Bool:=bif Kv x.2.2.2.1 h then(bif x.2.2.2.2.2.2== -1 then true else decide (h<x.2.2.2.2.2.2)) else false
def J81:Con:={args:=[.val true Ym,aI],ress:=[Bo],owns:=[],pre:=fun _=>[],spec:=fun(x,h,_)=>(J2 x h,())}
theorem K9w [Sx.Dr]:Ok Tryz.prog 72 J81:=okW W38 Tryz.f72 na fun xx=>by
 obtain⟨⟨(n:ByteArray),(f:ByteArray),(t:ByteArray),⟨(a:Int),(b:Int)⟩,(p:Int),(c:Int),(r:Int)⟩,(h:Int),_⟩:=xx
 refine(by kernel_rfl:((bif Kv (a,b) h then bif r==Z71 then true else decide (h<r) else false)=J2 (n,f,t,(a,b),p,c,r) h)=_).mp ?_
 delta Z71
 rfl
abbrev W39 [Sx.Dr]:=W38.add K9w
def Ur (x:Ord) (s:ByteArray):Bool:=bif x.2.1.toList==s.toList then true else x.2.2.1.toList==s.toList
def Kia:Con:={args:=[.val true Ym,aS],ress:=[Bo],owns:=[],pre:=fun _=>[],spec:=fun(x,s,_)=>(Ur x s,())}
theorem Kss [Sx.Dr]:Ok Tryz.prog 240 Kia:=okW W39 Tryz.f240 na fun xx=>by
 obtain⟨⟨(n:ByteArray),(f:ByteArray),(t:ByteArray),⟨(a:Int),(b:Int)⟩,(p:Int),(c:Int),(r:Int)⟩,(s:ByteArray),_⟩:=xx
 refine(by kernel_rfl:((bif Lb f s then true else Lb t s)=Ur (n,f,t,(a,b),p,c,r) s)=_).mp ?_
 delta Lb
 rfl
abbrev W40 [Sx.Dr]:=W39.add Kss
def Jwl (x:Out) (s:ByteArray) (h:Int):Bool:=bif x.2.1.toList==s.toList then Kv x.2.2.1 h else false
def Ua4:Con:={args:=[.val true Yh,aS,aI],ress:=[Bo],owns:=[],pre:=fun _=>[],spec:=fun(x,s,h,_)=>(Jwl x s h,())}
theorem Ktv [Sx.Dr]:Ok Tryz.prog 176 Ua4:=okW W40 Tryz.f176 na fun xx=>by
 obtain⟨⟨(n:ByteArray),(f:ByteArray),⟨(a:Int),(b:Int)⟩,(p:Int)⟩,(s:ByteArray),(h:Int),_⟩:=xx
 refine(by kernel_rfl:((bif Lb f s then Kv (a,b) h else false)=Jwl (n,f,(a,b),p) s h)=_).mp ?_
 delta Lb
 rfl
abbrev W41 [Sx.Dr]:=W40.add Ktv
theorem Jn {α:Type} {l:List α} {k:Nat} {d:α} (h:k<l.length):l.drop k=l.getD k d::l.drop (k+1):=by
 rw[List.drop_eq_getElem_cons h,List.getD_eq_getElem?_getD,List.getElem?_eq_getElem h];rfl
theorem Jcp {α:Type} {p:α→Bool}:∀{l:List α} {k:Nat},K0 p l k<k+l.length∧-1≤K0 p l k
 |[],k=>by simp[K0];omega
 | x :: l, k => by
  unfold K0
  split
  ·simp only[List.length_cons];omega
  ·have:=Jcp (p:=p) (l:=l) (k:=k+1)
   simp only[List.length_cons];omega
theorem Uh {l:List Sta} {s:ByteArray}:J1 l s<l.length:=by have:=(Jcp (p:=fun x=>x.1.toList==s.toList) (l:=l) (k:=0)).1;unfold J1;omega
theorem Uy {l:List Ord} {s:ByteArray}:Kg l s<l.length:=by have:=(Jcp (p:=fun x=>x.1.toList==s.toList) (l:=l) (k:=0)).1;unfold Kg;omega
theorem Up {l:List Out} {s:ByteArray}:Jw l s<l.length:=by have:=(Jcp (p:=fun x=>x.1.toList==s.toList) (l:=l) (k:=0)).1;unfold Jw;omega
theorem Ux {l:List Per} {s:ByteArray}:Uj l s<l.length:=by have:=(Jcp (p:=fun x=>x.1.toList==s.toList) (l:=l) (k:=0)).1;unfold Uj;omega
def K3 (M:List Met) (n:ByteArray) (h:Int):Int:=K0 (fun x=>bif x.1.toList==n.toList then x.2.1==h else false) M 0
theorem Jfg {l:List Met} {s:ByteArray} {h:Int}:K3 l s h<l.length:=by have:=(Jcp (p:=fun x=>bif x.1.toList==s.toList then x.2.1==h else false) (l:=l) (k:=0)).1;unfold K3;omega
structure Kdh (x:Sta):Prop where
 lim:1≤x.2.1∧x.2.1≤1000
 pri:0≤x.2.2∧x.2.2≤1000
structure Jm7 (x:Int×Int):Prop where
 lo:0≤x.1
 mid:x.1≤x.2
 hi:x.2≤999999999
 len:x.2-x.1≤48
structure F1 (S:List Sta) (x:Ord):Prop where
 span:Jm7 x.2.2.2.1
 pow:1≤x.2.2.2.2.1∧x.2.2.2.2.1≤1000
 pri:0≤x.2.2.2.2.2.1∧x.2.2.2.2.2.1≤1000
 trip: -1≤x.2.2.2.2.2.2∧x.2.2.2.2.2.2≤999999999
 fr:0≤J1 S x.2.1
 tu:0≤J1 S x.2.2.1
structure J0f (x:Met):Prop where
 hour:0≤x.2.1∧x.2.1≤999999999
 sent:0≤x.2.2.1∧x.2.2.1≤1000
 got:0≤x.2.2.2∧x.2.2.2≤x.2.2.1
structure Jpp (S:List Sta) (x:Out):Prop where
 span:Jm7 x.2.2.1
 rest:0≤x.2.2.2∧x.2.2.2≤1000
 sta:0≤J1 S x.2.1
structure Jo (r:Reg):Prop where
 tk:0≤r.1∧r.1≤999999999
 st:0≤r.2.1∧r.2.1≤r.1
 nS:r.2.2.1.length≤6
 nO:r.2.2.2.1.length≤32
 nM:r.2.2.2.2.1.length≤10000
 nX:r.2.2.2.2.2.1.length≤16
 nQ:r.2.2.2.2.2.2.length≤16
 sta:∀x∈r.2.2.1,Kdh x
 ord:∀x∈r.2.2.2.1,F1 r.2.2.1 x
 met:∀x∈r.2.2.2.2.1,J0f x
 out:∀x∈r.2.2.2.2.2.1,Jpp r.2.2.1 x
 per:∀x∈r.2.2.2.2.2.2,0≤Jw r.2.2.2.2.2.1 x.2.1
 done:∀x∈r.2.2.2.1,∀h,J2 x h=true→h<r.2.1→0≤K3 r.2.2.2.2.1 x.1 h
def Hu (S:List Sta) (s:ByteArray):Sta:=S.getD (J1 S s).toNat Jkv
def J8v:Con:={args:=[Jb6,aS],ress:=[(true,X5)],owns:=[],pre:=fun((_,_,S,_),s,_)=>[S.length≤1000000,0≤J1 S s],spec:=fun((_,_,S,_),s,_)=>(Hu S s,())}
def Z15 (a:List Sta) (b:Bt):=0≤J1 a b
def Klb (a:List Sta) (b:Bt):=Gt a (J1 a b) Z7
theorem Ktw [Sx.Dr]:Ok Tryz.prog 175 J8v:=okW W41 Tryz.f175 na fun xx=>by
 obtain⟨⟨(tk:Int),(st:Int),(S:List Sta),(O:List Ord),(M:List Met),(X:List Out),(Q:List Per)⟩,(s:ByteArray),_⟩:=xx
 refine(by kernel_rfl:(Z44 S→Z15 S s→(Z44 S∧Tw (Bd (J1 S s) (Ln S)))∧((Klb S s).1,E2 (Klb S s).2)=Hu S s)=_).mp ?_
 delta Z7 Z15 Z44 Klb Bd Tw Ln Gt B0 E2
 exact fun h1 h2=>⟨⟨h1,⟨h2,Uh⟩,⟨h2,Uh⟩⟩,rfl⟩
abbrev W42 [Sx.Dr]:=W41.add Ktw
def Vy (O:List Ord) (s:ByteArray):Ord:=O.getD (Kg O s).toNat Ki
def J8y:Con:={args:=[Jb6,aS],ress:=[(true,Ym)],owns:=[],pre:=fun((_,_,_,O,_),s,_)=>[O.length≤1000000,0≤Kg O s],spec:=fun((_,_,_,O,_),s,_)=>(Vy O s,())}
def K46 (a:List Ord) (b:Bt):=Gt a (Kg a b) Jdo
def K40 (a:List Ord) (b:Bt):=(K46 a b).2
def K4y (a:List Ord) (b:Bt):=(K40 a b).2
def K4w (a:List Ord) (b:Bt):=(K4y a b).2
def K4t (a:List Ord) (b:Bt):=(K4w a b).2
theorem Kth [Sx.Dr]:Ok Tryz.prog 198 J8y:=okW W42 Tryz.f198 na fun xx=>by
 obtain⟨⟨(tk:Int),(st:Int),(S:List Sta),(O:List Ord),(M:List Met),(X:List Out),(Q:List Per)⟩,(s:ByteArray),_⟩:=xx
 refine(by kernel_rfl:(Z50 O→0≤Kg O s→(Z50 O∧Tw (Bd (Kg O s) (Ln O)))∧((K46 O s).1,(K40 O s).1,(K4y O s).1,E2 (K4w O s).1,(K4t O s).1,E2 (K4t O s).2)=Vy O s)=_).mp ?_
 delta Z50 Z75 Jdo K46 K40 K4y K4w K4t Bd Tw Ln Gt B0 E2
 exact fun h1 h2=>⟨⟨h1,⟨h2,Uy⟩,⟨h2,Uy⟩⟩,rfl⟩
abbrev W43 [Sx.Dr]:=W42.add Kth
def Y0 (X:List Out) (s:ByteArray):Out:=X.getD (Jw X s).toNat Hp
def J8x:Con:={args:=[Jb6,aS],ress:=[(true,Yh)],owns:=[],pre:=fun((_,_,_,_,_,X,_),s,_)=>[X.length≤1000000,0≤Jw X s],spec:=fun((_,_,_,_,_,X,_),s,_)=>(Y0 X s,())}
def Kqu (a:List Out) (b:Bt):=(Gt a (Jw a b) Jc1).2
theorem Ksq [Sx.Dr]:Ok Tryz.prog 242 J8x:=okW W43 Tryz.f242 na fun xx=>by
 obtain⟨⟨(tk:Int),(st:Int),(S:List Sta),(O:List Ord),(M:List Met),(X:List Out),(Q:List Per)⟩,(s:ByteArray),_⟩:=xx
 refine(by kernel_rfl:(Z48 X→0≤Jw X s→(Z48 X∧Tw (Bd (Jw X s) (Ln X)))∧((Gt X (Jw X s) Jc1).1,(Kqu X s).1,E2 (Kqu X s).2.1,(Kqu X s).2.2)=Y0 X s)=_).mp ?_
 delta Z48 Jc1 Kqu Bd Tw Ln Gt B0 E2
 exact fun h1 h2=>⟨⟨h1,⟨h2,Up⟩,⟨h2,Up⟩⟩,rfl⟩
abbrev W44 [Sx.Dr]:=W43.add Ksq
def Jbd (Q:List Per) (s:ByteArray):Per:=Q.getD (Uj Q s).toNat Fi
def J8w:Con:={args:=[Jb6,aS],ress:=[(true,Y8)],owns:=[],pre:=fun((_,_,_,_,_,_,Q),s,_)=>[Q.length≤1000000,0≤Uj Q s],spec:=fun((_,_,_,_,_,_,Q),s,_)=>(Jbd Q s,())}
theorem Ksn [Sx.Dr]:Ok Tryz.prog 245 J8w:=okW W44 Tryz.f245 na fun xx=>by
 obtain⟨⟨(tk:Int),(st:Int),(S:List Sta),(O:List Ord),(M:List Met),(X:List Out),(Q:List Per)⟩,(s:ByteArray),_⟩:=xx
 refine(by kernel_rfl:(Z47 Q→0≤Uj Q s→(Z47 Q∧Tw (Bd (Uj Q s) (Ln Q)))∧((Gt Q (Uj Q s) (B0,B0,false)).1,E2 (Gt Q (Uj Q s) (B0,B0,false)).2)=Jbd Q s)=_).mp ?_
 delta Z47 Bd Tw Ln Gt B0 E2
 exact fun h1 h2=>⟨⟨h1,⟨h2,Ux⟩,⟨h2,Ux⟩⟩,rfl⟩
abbrev W45 [Sx.Dr]:=W44.add Ksn
def Ul:List Ord→ByteArray→Int→Int
 |[],_,_=>0
 |x::l,s,h=>(bif bif Ur x s then J2 x h else false then x.2.2.2.2.1 else 0)+Ul l s h
theorem Jj1 {S:List Sta} {s:ByteArray} {h:Int}:∀{O:List Ord},(∀x∈O,F1 S x)→0≤Ul O s h∧Ul O s h≤1000*O.length
 |[],_=>by simp[Ul]
 |x::l,hO=>by
  have:=Jj1 (s:=s) (h:=h) (O:=l) fun y hy=>hO y (List.mem_cons_of_mem _ hy)
  have hx:=(hO x (List.mem_cons_self ..)).pow
  unfold Ul
  simp only[List.length_cons]
  cases(bif Ur x s then J2 x h else false)<;>simp only[cond_true,cond_false]<;>omega
def Kwl:Con:={args:=[Jb6,aS,aI],ress:=[I],owns:=[],pre:=fun(r,_)=>[Jo r],spec:=fun((_,_,_,O,_),s,h,_)=>(Ul O s h,())}
abbrev J9m (O:List Ord) (s:ByteArray) (h:Int):Ann:={X:=Nat×Int,σ:=fun(k,n)=>⟨1,[(1, .one (.str s)),(2, .one (.int .i64 h)),(7, .one (.int .i64 n)),(11, .one (.sl 0)),(12, .one (.int .i64 O.length)),(13, .one (.int .i64 k))],[(0, .imm 130 Ym O)]⟩,inv:=fun(k,n)=>k≤O.length∧0≤n∧n≤1000*k∧n+Ul (O.drop k) s h=Ul O s h,mu:=fun(k,_)=>O.length-k}
def Z43 (a:Nat×Int):=Iw (Nc a.1+1)
def Z67 (a b:Int) (c:List Sta) (d:List Ord) (e:List Met) (f:List Out) (g:List Per):=(a,b,c,d,e,f,g)
def Jt2 (a b:Nat×Int):=Nc a.1+1=Nc b.1
def J0 (a b:Int) (c:List Sta) (d:List Ord) (e:List Met) (f:List Out) (g:List Per):=Jo (Z67 a b c d e f g)
def Kkv (a:List Ord) (b:Nat×Int):=List.getD a b.1 Jdo
def Kku (a:List Ord) (b:Nat×Int):=(Kkv a b).2
def Kkt (a:List Ord) (b:Nat×Int):=(Kku a b).2
def Kks (a:List Ord) (b:Nat×Int):=(Kku a b).1
def Kkr (a:List Ord) (b:Nat×Int):=(Kkt a b).1
def Kkp (a:List Ord) (b:Nat×Int):=(Kkt a b).2
def Kko (a:List Ord) (b:Nat×Int):=(Kkp a b).2
def Kkn (a:List Ord) (b:Nat×Int):=(Kko a b).1
def Kkm (a:List Ord) (b:Nat×Int):=(Kko a b).2
def Kpa (a:Nat×Int) (b:List Ord):=a.2+Kkn b a
def Ko0 (a:Nat×Int) (b:List Ord):=Iw (Kpa a b)
def Koy (a:Nat×Int) (b:List Ord) (c:Nat×Int):=Kpa a b=c.2
def Kn0 (a:Nat×Int) (b:List Ord) (c:Bt) (d:Int):=a.1≤List.length b∧0≤a.2∧a.2≤1000*Nc a.1∧a.2+Ul (List.drop a.1 b) c d=Ul b c d
def Kzy (a:Nat×Int) (b:List Ord) (c:Bt) (d:Int) (e:Nat×Int):=Kn0 a b c d∧List.length b-a.1<List.length b-e.1
def Jpm (a:List Ord) (b:Nat×Int):=((Kkv a b).1,Kks a b,Kkr a b,E2 (Kkp a b).1,Kkn a b,E2 (Kkm a b))
def J4r (a:List Ord) (b:Nat×Int) (c:Int):=J2 (Jpm a b) c
theorem Ktu [Sx.Dr]:Ok Tryz.prog 177 Kwl:=okW W45 Tryz.f177 (fun xx=>Zg (J9m xx.1.2.2.2.1 xx.2.1 xx.2.2.1)) fun xx=>by
 obtain⟨⟨(tk:Int),(st:Int),(S:List Sta),(O:List Ord),(M:List Met),(X:List Out),(Q:List Per)⟩,(s:ByteArray),(h:Int),_⟩:=xx
 refine(by kernel_rfl:(J0 tk st S O M X Q→∃(x:Nat×Int),Sf s (Si h (0=x.2∧Si (Ln O) (0=Nc x.1∧O=O)))∧Kn0 x O s h∧∀(x:Nat×Int),Kn0 x O s h→Br (decide (Nc x.1<Ln O)) (Tw (Bd (Nc x.1) (Ln O))∧Br (bif Ur (Jpm O x) s then J4r O x h else false) (Ko0 x O∧Z43 x∧∃(y:Nat×Int),Sf s (Si h (Koy x O y∧Si (Ln O) (Jt2 x y∧O=O)))∧Kzy y O s h x) (Z43 x∧∃(y:Nat×Int),Sf s (Si h (x.2=y.2∧Si (Ln O) (Jt2 x y∧O=O)))∧Kzy y O s h x)) (x.2=Ul O s h))=_).mp ?_
 delta Z43 Z67 Z75 Jt2 J0 Jdo Kkv Kku Kkt Kks Kkr Kkp Kko Kkn Kkm Kpa Ko0 Koy Kn0 Kzy Jpm J4r Br Iw Bd Tw Sf Si Ln Nc B0 E2
 intro hr
 have hO:∀x∈O,F1 S x:=hr.ord
 have nO:O.length≤32:=hr.nO
 refine⟨((0:Nat),(0:Int)),⟨rfl,rfl,rfl,rfl,rfl,rfl⟩,⟨Nat.zero_le _,by simp,by simp,by simp⟩,fun(x:Nat×Int) hk=>⟨fun h1=> ?_,fun h1=> ?_⟩⟩
 ·obtain⟨k,n⟩:=x
  have hlt:k<O.length:=by simpa using h1
  have ho:=hO _ (Je (d:=Ki) hlt)
  have hp:=ho.pow
  dsimp only at hk⊢
  obtain⟨k1,k2,k3,k4⟩:=hk
  rw[Jn (d:=Ki) hlt,Ul] at k4
  refine⟨⟨by omega,by omega⟩,fun h2=> ?_,fun h2=> ?_⟩
  ·have h3:(bif Ur (O.getD k Ki) s then J2 (O.getD k Ki) h else false)=true:=h2
   rw[h3,cond_true] at k4
   refine⟨⟨?_, ?_⟩,⟨by omega,by omega⟩,(k+1,n+(O.getD k Ki).2.2.2.2.1),⟨rfl,rfl,rfl,rfl,by simp,rfl⟩,⟨by simp only;omega,by simp only;omega,by simp only;omega,by simp only;omega⟩,by simp only;omega⟩
   ·show _≤n+(O.getD k Ki).2.2.2.2.1;omega
   ·show n+(O.getD k Ki).2.2.2.2.1≤_;omega
  ·have h3:(bif Ur (O.getD k Ki) s then J2 (O.getD k Ki) h else false)=false:=h2
   rw[h3,cond_false] at k4
   refine⟨⟨by omega,by omega⟩,(k+1,n),⟨rfl,rfl,rfl,rfl,by simp,rfl⟩,⟨by simp only;omega,by simp only;omega,by simp only;omega,by simp only;omega⟩,by simp only;omega⟩
 ·obtain⟨k,n⟩:=x
  have hlt:¬k<O.length:=by simpa using h1
  simp only at hk
  have:k=O.length:=by omega
  rw[this,List.drop_length,Ul] at hk
  show n=_
  omega
abbrev W46 [Sx.Dr]:=W45.add Ktu
theorem Jjb {S:List Sta} {s:ByteArray} (h:∀x∈S,Kdh x) (hf:0≤J1 S s):Kdh (Hu S s):=by
 have:=Uh (l:=S) (s:=s)
 exact h _ (Je (by omega))
def Jbx:List Out→ByteArray→Int→Int→Int
 |[],_,_,n=>n
 |x::l,s,h,n=>Jbx l s h (bif Jwl x s h then min n x.2.2.2 else n)
def Vx (S:List Sta) (O:List Ord) (X:List Out) (s:ByteArray) (h:Int):Int:=Jbx X s h (Hu S s).2.1-Ul O s h
def Kv8:Con:={args:=[Jb6,aS,aI],ress:=[I],owns:=[],pre:=fun(r,s,_)=>[Jo r,0≤J1 r.2.2.1 s],spec:=fun((_,_,S,O,_,X,_),s,h,_)=>(Vx S O X s h,())}
abbrev J9e (tk st:Int) (S:List Sta) (O:List Ord) (M:List Met) (X:List Out) (Q:List Per) (s:ByteArray) (h:Int):Ann:={X:=Nat×Int,σ:=fun(k,n)=>⟨6,[(1, .one (.str s)),(2, .one (.int .i64 h)),(3, .one (.ptr 5 0)),(7, .one (.int .i64 n)),(15, .one (.sl 3)),(16, .one (.int .i64 X.length)),(17, .one (.int .i64 k))],[(0, .imm 127 X5 S),(1, .imm 130 Ym O),(2, .imm 155 X9 M),(3, .imm 188 Yh X),(4, .imm 235 Y8 Q),(5, .box 105 [.int .i64 tk, .int .i64 st, .sl 0, .sl 1, .sl 2, .sl 3, .sl 4])]⟩,inv:=fun(k,n)=>k≤X.length∧0≤n∧n≤1000∧Jbx (X.drop k) s h n=Jbx X s h (Hu S s).2.1,mu:=fun(k,_)=>X.length-k}
def Kez (a:List Out) (b:Nat×Int):=(List.getD a b.1 Jc1).2
def Keu (a:List Out) (b:Nat×Int):=(Kez a b).2.2
def Kqf (a:List Out) (b:Nat×Int):=E2 (Kez a b).2.1
def Jrp (a:List Sta) (b:List Ord) (c:List Met) (d:List Out) (e:List Per) (f g:Int):=Sf a (Sf b (Sf c (Sf d (Sf e (Si f (g=g))))))
def Kn6 (a:Nat×Int) (b:List Out) (c:Bt) (d:Int) (e:List Sta):=a.1≤List.length b∧0≤a.2∧a.2≤1000∧Jbx (List.drop a.1 b) c d a.2=Jbx b c d (Hu e c).2.1
def J0u (a:Nat×Int) (b:List Sta) (c:List Ord) (d:List Met) (e:List Out) (f:List Per) (g h:Int):=0=Nc a.1∧Jrp b c d e f g h
def Jro (a b:Nat×Int) (c:List Sta) (d:List Ord) (e:List Met) (f:List Out) (g:List Per) (h i:Int):=Jt2 a b∧Jrp c d e f g h i
def Kz1 (a:Nat×Int) (b:List Out) (c:Bt) (d:Int) (e:List Sta) (f:Nat×Int):=Kn6 a b c d e∧List.length b-a.1<List.length b-f.1
theorem K9j [Sx.Dr]:Ok Tryz.prog 91 Kv8:=okW W46 Tryz.f91 (fun xx=>Zg (J9e xx.1.1 xx.1.2.1 xx.1.2.2.1 xx.1.2.2.2.1 xx.1.2.2.2.2.1 xx.1.2.2.2.2.2.1 xx.1.2.2.2.2.2.2 xx.2.1 xx.2.2.1)) fun xx=>by
 obtain⟨⟨(tk:Int),(st:Int),(S:List Sta),(O:List Ord),(M:List Met),(X:List Out),(Q:List Per)⟩,(s:ByteArray),(h:Int),_⟩:=xx
 refine(by kernel_rfl:(J0 tk st S O M X Q→Z15 S s→(Z44 S∧Z15 S s)∧∃(x:Nat×Int),Sf s (Si h ((Hu S s).2.1=x.2∧Si (Ln X) (J0u x S O M X Q tk st)))∧Kn6 x X s h S∧∀(x:Nat×Int),Kn6 x X s h S→Br (decide (Nc x.1<Ln X)) (Tw (Bd (Nc x.1) (Ln X))∧Br (Jwl ((List.getD X x.1 Jc1).1,(Kez X x).1,Kqf X x,Keu X x) s h) (Z43 x∧∃(y:Nat×Int),Sf s (Si h (min x.2 (Keu X x)=y.2∧Si (Ln X) (Jro x y S O M X Q tk st)))∧Kz1 y X s h S x) (Z43 x∧∃(y:Nat×Int),Sf s (Si h (x.2=y.2∧Si (Ln X) (Jro x y S O M X Q tk st)))∧Kz1 y X s h S x)) ((J0 tk st S O M X Q∧Iw (x.2-Ul O s h))∧x.2-Ul O s h=Vx S O X s h))=_).mp ?_
 delta Z15 Z43 Z44 Z67 Jt2 J0 Jc1 Kez Keu Kqf Jrp Kn6 J0u Jro Kz1 Br Iw Bd Tw Sf Si Ln Nc B0 E2
 intro hr hf
 have hX:∀x∈X,Jpp S x:=hr.out
 have nO:O.length≤32:=hr.nO
 have nX:X.length≤16:=hr.nX
 have nS:S.length≤6:=hr.nS
 have hs:=Jjb hr.sta hf
 have hl:=Jj1 (s:=s) (h:=h) hr.ord
 refine⟨⟨by omega,hf⟩,((0:Nat),(Hu S s).2.1),⟨rfl,rfl,rfl,rfl,rfl,rfl,rfl,rfl,rfl,rfl,rfl,rfl⟩,⟨Nat.zero_le _, ?_,hs.lim.2,by simp⟩,fun(x:Nat×Int) hk=>⟨fun h1=> ?_,fun h1=> ?_⟩⟩
 ·have:=hs.lim.1
  show 0≤(Hu S s).2.1
  simp only at this
  omega
 ·obtain⟨k,n⟩:=x
  have hlt:k<X.length:=by simpa using h1
  have ho:=(hX _ (Je (d:=Hp) hlt)).rest
  dsimp only at hk⊢
  obtain⟨k1,k2,k3,k4⟩:=hk
  rw[Jn (d:=Hp) hlt,Jbx] at k4
  refine⟨⟨by omega,by omega⟩,fun h2=> ?_,fun h2=> ?_⟩
  ·have h3:Jwl (X.getD k Hp) s h=true:=h2
   rw[h3,cond_true] at k4
   exact⟨⟨by omega,by omega⟩,(k+1,min n (X.getD k Hp).2.2.2),⟨rfl,rfl,rfl,rfl,by simp,rfl,rfl,rfl,rfl,rfl,rfl,rfl⟩,⟨by simp only;omega,by simp only;omega,by simp only;omega,k4⟩,by simp only;omega⟩
  ·have h3:Jwl (X.getD k Hp) s h=false:=h2
   rw[h3,cond_false] at k4
   exact⟨⟨by omega,by omega⟩,(k+1,n),⟨rfl,rfl,rfl,rfl,by simp,rfl,rfl,rfl,rfl,rfl,rfl,rfl⟩,⟨by simp only;omega,by simp only;omega,by simp only;omega,k4⟩,by simp only;omega⟩
 ·obtain⟨k,n⟩:=x
  have hlt:¬k<X.length:=by simpa using h1
  simp only at hk
  have:k=X.length:=by omega
  rw[this,List.drop_length,Jbx] at hk
  unfold Vx
  have hl2:Ul O s h≤1000*(O.length:Int):=hl.2
  have hl1:0≤Ul O s h:=hl.1
  refine⟨⟨hr, ?_, ?_⟩, ?_⟩
  ·show _≤n-_;omega
  ·show n-_≤_;omega
  ·show n-_=_;omega
abbrev W47 [Sx.Dr]:=W46.add K9j
def Vt (r:Reg) (w:Int) (s:ByteArray):Bool:=bif w==0 then decide (0≤J1 r.2.2.1 s) else bif w==1 then decide (0≤Kg r.2.2.2.1 s) else bif w==2 then decide (0≤Jw r.2.2.2.2.2.1 s) else bif w==3 then decide (0≤Uj r.2.2.2.2.2.2 s) else true
def Ubc:Con:={args:=[Jb6,aI,aS],ress:=[Bo],owns:=[],pre:=fun(r,_)=>[Jo r],spec:=fun(r,w,s,_)=>(Vt r w s,())}
theorem K9t [Sx.Dr]:Ok Tryz.prog 76 Ubc:=okW W47 Tryz.f76 na fun xx=>by
 obtain⟨⟨(tk:Int),(st:Int),(S:List Sta),(O:List Ord),(M:List Met),(X:List Out),(Q:List Per)⟩,(w:Int),(s:ByteArray),_⟩:=xx
 refine(by kernel_rfl:(J0 tk st S O M X Q→Br (w==0) (Z44 S∧decide (0≤J1 S s)=Vt (Z67 tk st S O M X Q) w s) (Br (w==1) (Z50 O∧decide (0≤Kg O s)=Vt (Z67 tk st S O M X Q) w s) (Br (w==2) (Z48 X∧decide (0≤Jw X s)=Vt (Z67 tk st S O M X Q) w s) (Br (w==3) (Z47 Q∧decide (0≤Uj Q s)=Vt (Z67 tk st S O M X Q) w s) (true=Vt (Z67 tk st S O M X Q) w s)))))=_).mp ?_
 delta Z44 Z47 Z48 Z50 Z67 J0 Br
 intro hr
 have nS:S.length≤6:=hr.nS
 have nO:O.length≤32:=hr.nO
 have nX:X.length≤16:=hr.nX
 have nQ:Q.length≤16:=hr.nQ
 unfold Vt
 refine⟨fun h=> ?_,fun h=> ?_⟩
 ·rw[h];exact⟨by omega,rfl⟩
 rw[h]
 refine⟨fun h=> ?_,fun h=> ?_⟩
 ·rw[h];exact⟨by omega,rfl⟩
 rw[h]
 refine⟨fun h=> ?_,fun h=> ?_⟩
 ·rw[h];exact⟨by omega,rfl⟩
 rw[h]
 refine⟨fun h=> ?_,fun h=> ?_⟩
 ·rw[h];exact⟨by omega,rfl⟩
 rw[h];rfl
abbrev W48 [Sx.Dr]:=W47.add K9t
def Jdt:Met:=(Jb,0,0,0)
def Ubb:Con:={args:=[.val true X9, .ref 9 .str, .ref 3 sI],ress:=[Bo],owns:=[],pre:=fun _=>[],spec:=fun(x,s,h,_)=>(bif x.1.toList==s.toList then x.2.1==h else false,())}
theorem Kut [Sx.Dr]:Ok Tryz.prog 142 Ubb:=okW W48 Tryz.f142 na fun xx=>by
 obtain⟨⟨(a:ByteArray),(b:Int),(c:Int),(d:Int)⟩,(s:ByteArray),(h:Int),_⟩:=xx
 refine(by kernel_rfl:((Lb a s&&(b==h&&(c==c&&(d==d&&true))))=bif Lb a s then b==h else false)=_).mp ?_
 delta Lb
 cases a.toList==s.toList<;>cases b==h<;>simp
abbrev W49 [Sx.Dr]:=W48.add Kut
def Z54 (a:List Met):=List.length a≤1000000
def Jr4:=(B0,Z75)
def J6l (a:List Met) (b c:Nat):=List.length a-b<List.length a-c
def Kaq (a:List Met) (b:Nat):=List.getD a b Jr4
def J6d (a:List Met) (b:Nat):=(Kaq a b).1
def J6b (a:List Met) (b:Nat):=(Kaq a b).2.1
def J36 (a:List Met) (b:Nat):=(Kaq a b).2.2
def Kok (a:Nat) (b:List Met) (c:Met×Unit→Bool):=a≤List.length b∧K0 (fun(x:Met)=>c (x,PUnit.unit)) b 0=K0 (fun(x:Met)=>c (x,PUnit.unit)) (List.drop a b) a
def Kd0 (a:List Met) (b:Nat):=(J6d a b,J6b a b,E2 (J36 a b))
def Kz3 (a:List Met) (b:Nat):=(Kd0 a b,PUnit.unit)
theorem Kuu [Sx.Dr]:Ok Tryz.prog 141 (Khp 155 X9 true):=okW W49 Tryz.f141 (fun xx=>Zg (Jm1 155 X9 true xx.1 xx.2.1.1 xx.2.1.2)) fun xx=>by
 obtain⟨(l:List Met),⟨(q:Met×Unit→List Prop),(f:Met×Unit→Bool)⟩,_⟩:=xx
 refine(by kernel_rfl:(Z54 l→(∀(x:Met),x∈l→Us (q (x,PUnit.unit)))→∃(x:Nat),Si (Ln l) (0=Nc x∧Sf l ((fun(x:Met×PUnit)=>q x)=q∧(fun(x:Met×PUnit)=>f x)=f))∧Kok x l f∧∀(x:Nat),Kok x l f→Br (decide (Nc x<Ln l)) (T2 (Bd (Nc x) (Ln l)) (Us (q (Kz3 l x)))∧Br (f (Kz3 l x)) (Nc x=K0 (fun(x:Met)=>f (x,PUnit.unit)) l 0) (Z21 x∧∃(y:Nat),Si (Ln l) (V4 x y∧Sf l ((fun(x:Met×PUnit)=>q x)=q∧(fun(x:Met×PUnit)=>f x)=f))∧Kok y l f∧J6l l y x)) (Z71=K0 (fun(x:Met)=>f (x,PUnit.unit)) l 0))=_).mp ?_
 delta Z21 Z54 Z71 Z75 V4 Jr4 J6l Kaq J6d J6b J36 Kok Kd0 Kz3 Br Iw Bd T2 Sf Si Ln Nc B0 E2
 intro hb hq
 refine⟨(0:Nat),⟨rfl,rfl,rfl,rfl,rfl⟩,⟨Nat.zero_le _,rfl⟩,fun(k:Nat) hk=>⟨fun h=> ?_,fun h=> ?_⟩⟩
 ·have hlt:k<l.length:=by simpa using h
  have hd:=Yo (p:=fun x=>f (x,())) (d:=Jdt) hlt
  refine⟨⟨by omega,by omega,hq (l.getD k Jdt) (Je hlt)⟩,fun h1=> ?_,fun h1=>⟨by omega,(k+1:Nat),⟨rfl,rfl,rfl,by simp,rfl⟩,⟨by omega, ?_⟩,by omega⟩⟩
  ·rw[hk.2,hd,if_pos (show f (l.getD k Jdt,())=true from h1)]
  ·rw[hk.2,hd,if_neg (by rw[show f (l.getD k Jdt,())=false from h1];simp)]
 ·have hlt:¬k<l.length:=by simpa using h
  have:k=l.length:=by omega
  rw[hk.2,this,List.drop_length];rfl
abbrev W50 [Sx.Dr]:=W49.add Kuu
def Khe:Con:={args:=[Jb6,aS,aI],ress:=[I],owns:=[],pre:=fun(r,_)=>[Jo r],spec:=fun((_,_,_,_,M,_),s,h,_)=>(K3 M s h,())}
theorem K9v [Sx.Dr]:Ok Tryz.prog 73 Khe:=okW W50 Tryz.f73 na fun xx=>by
 obtain⟨⟨(tk:Int),(st:Int),(S:List Sta),(O:List Ord),(M:List Met),(X:List Out),(Q:List Per)⟩,(s:ByteArray),(h:Int),_⟩:=xx
 refine(by kernel_rfl:(J0 tk st S O M X Q→(Z54 M∧∀(x:Met),x∈M→True)∧K0 (fun(x:Met)=>match Lb x.1 s with|true=>x.2.1==h|false=>false) M 0=K3 M s h)=_).mp ?_
 delta Z54 Z67 J0 Lb
 intro hr
 have nM:M.length≤10000:=hr.nM
 exact⟨⟨by omega,fun _ _=>trivial⟩,rfl⟩
abbrev W51 [Sx.Dr]:=W50.add K9v
def Vp (e:Ev):Int×Int:=(e.2.2.2.1.getD 1 0,e.2.2.2.1.getD 2 0)
def Kv6:Con:={args:=[aEv],ress:=[(true,Ld)],owns:=[],pre:=fun(e,_)=>[3≤e.2.2.2.1.length],spec:=fun(e,_)=>(Vp e,())}
def Z31 (a:Li):=Bd 2 (Ln a)
def Z33 (a:Li):=Bd 1 (Ln a)
def Z52 (a:Int) (b:Bt) (c:Ls) (d:Li) (e:Bt):=Vp (a,b,c,d,e)
def Z59 (a:Li):=3≤List.length a
def Zx (a:Li):=List.getD a 1 0
def Jm6 (a:Li):=List.getD a 2 0
def Kew (a:Li):=T2 (Z33 a) (Tw (Z31 a))
def Ket (a:Li):=(Zx a,Jm6 a)
theorem Ksu [Sx.Dr]:Ok Tryz.prog 238 Kv6:=okW W51 Tryz.f238 na fun xx=>by
 obtain⟨⟨(n:Int),(k:ByteArray),(ns:List ByteArray),(vs:List Int),(t:ByteArray)⟩,_⟩:=xx
 refine(by kernel_rfl:(Z59 vs→Kew vs∧Ket vs=Z52 n k ns vs t)=_).mp ?_
 delta Z31 Z33 Z52 Z59 Zx Jm6 Kew Ket Bd T2 Tw Ln
 intro h
 exact⟨⟨⟨by omega,by omega⟩,⟨by omega,by omega⟩,⟨by omega,by omega⟩,⟨by omega,by omega⟩⟩,rfl⟩
abbrev W52 [Sx.Dr]:=W51.add Ksu
abbrev EvV (e:Ev):Prop:=∀v∈e.2.2.2.1,0≤v∧v≤999999999
def Hb (e:Ev):Int:=bif (bif (bif decide ((Vp e).1<e.2.2.2.1.getD 0 0) then true else decide ((Vp e).2≤(Vp e).1)) then true else decide (48<(Vp e).2-(Vp e).1)) then 14 else 0
def J28:Con:={args:=[aEv],ress:=[I],owns:=[],pre:=fun(e,_)=>[3≤e.2.2.2.1.length,EvV e],spec:=fun(e,_)=>(Hb e,())}
def Z25 (a:Li):=Bd 0 (Ln a)
def Z98 (a:Li):=List.getD a 0 0
def K07 (a:Int) (b:Bt) (c:Ls) (d:Li) (e:Bt):=bif decide ((Z52 a b c d e).1<Z98 d) then true else decide ((Z52 a b c d e).2≤(Z52 a b c d e).1)
theorem Ksw [Sx.Dr]:Ok Tryz.prog 236 J28:=okW W52 Tryz.f236 na fun xx=>by
 obtain⟨⟨(n:Int),(k:ByteArray),(ns:List ByteArray),(vs:List Int),(t:ByteArray)⟩,_⟩:=xx
 refine(by kernel_rfl:(Z59 vs→EvV (n,k,ns,vs,t)→Z59 vs∧T2 (Z25 vs) (K07 n k ns vs t=false→Iw ((Z52 n k ns vs t).2-(Z52 n k ns vs t).1))∧(bif bif K07 n k ns vs t then true else decide (48<(Z52 n k ns vs t).2-(Z52 n k ns vs t).1) then 14 else 0)=Hb (n,k,ns,vs,t))=_).mp ?_
 delta Z25 Z52 Z59 Z98 K07 Iw Bd T2 Ln
 intro h hv
 refine⟨h,⟨⟨by omega,by omega⟩,⟨by omega,by omega⟩,fun _=> ?_⟩,rfl⟩
 have h1:=hv (vs.getD 1 0) (Je (show 1<vs.length by omega))
 have h2:=hv (vs.getD 2 0) (Je (show 2<vs.length by omega))
 unfold Vp
 simp only
 omega
abbrev W53 [Sx.Dr]:=W52.add Ksw
abbrev Gap:=ByteArray×Int
abbrev J7d:Sch:= .prod .str sI
def Do (M:List Met) (u:Int) (x:Ord):Int→Nat→List Gap
 |_,0=>[]
 |h,n+1=>(bif J2 x h&&(decide (h<u)&&decide (K3 M x.1 h<0)) then[(x.1,h)] else[])++Do M u x (h+1) n
def Jwt (M:List Met) (u:Int) (x:Ord):List Gap:=Do M u x x.2.2.2.1.1 (x.2.2.2.1.2-x.2.2.2.1.1).toNat
def K4 (M:List Met) (u:Int):List Ord→List Gap
 |[]=>[]
 |x::l=>Jwt M u x++K4 M u l
def Kwi:Con:={args:=[Jb6,aI],ress:=[(false, .list 200 J7d)],owns:=[true],pre:=fun(r,_)=>[Jo r],spec:=fun((_,_,_,O,M,_),u,_)=>(K4 M u O,())}
abbrev J9k (tk st:Int) (S:List Sta) (O:List Ord) (M:List Met) (X:List Out) (Q:List Per) (u:Int):Ann:={X:=Nat×List Gap,σ:=fun(k,o)=>⟨9,[(2, .one (.ptr 5 0)),(3, .one (.ptr 6 0)),(5, .one (.ptr 7 0)),(10, .one (.sl 1)),(11, .one (.int .i64 O.length)),(12, .one (.int .i64 k))],[(0, .imm 127 X5 S),(1, .imm 130 Ym O),(2, .imm 155 X9 M),(3, .imm 188 Yh X),(4, .imm 235 Y8 Q),(5, .box 105 [.int .i64 tk, .int .i64 st, .sl 0, .sl 1, .sl 2, .sl 3, .sl 4]),(6, .box 3 [.int .i64 u]),(7, .box 50 [.sl 8]),(8, .own 200 J7d o)]⟩,inv:=fun(k,o)=>k≤O.length∧o.length≤48*k∧o++K4 M u (O.drop k)=K4 M u O,mu:=fun(k,_)=>O.length-k}
abbrev bxO (x:Ord):List SC:=[.str x.1, .str x.2.1, .str x.2.2.1, .int .i64 x.2.2.2.1.1, .int .i64 x.2.2.2.1.2, .int .i64 x.2.2.2.2.1, .int .i64 x.2.2.2.2.2.1, .int .i64 x.2.2.2.2.2.2]
def Ut (x:Ord):Nat:=(x.2.2.2.1.2-x.2.2.2.1.1).toNat
abbrev J3q (tk st:Int) (S:List Sta) (O:List Ord) (M:List Met) (X:List Out) (Q:List Per) (u:Int):Ann:={X:=Nat×List Gap×Nat,σ:=fun(k,o,j)=>⟨16,[(0, .one (.fv 13)),(1, .one (.ptr 11 0)),(3, .one (.int .i64 ((O.getD k Ki).2.2.2.1.1+j)))],[(0, .imm 127 X5 S),(1, .imm 130 Ym O),(2, .imm 155 X9 M),(3, .imm 188 Yh X),(4, .imm 235 Y8 Q),(5, .box 105 [.int .i64 tk, .int .i64 st, .sl 0, .sl 1, .sl 2, .sl 3, .sl 4]),(6, .box 3 [.int .i64 u]),(7, .box 50 [.sl 15]),(9, .box 130 (bxO (O.getD k Ki))),(11, .box 130 (bxO (O.getD k Ki))),(13, .yld .ready),(14, .sus [(2, .one (.ptr 5 0)),(3, .one (.ptr 6 0)),(5, .one (.ptr 7 0)),(7, .one (.ptr 9 0)),(10, .one (.sl 1)),(11, .one (.int .i64 O.length)),(12, .one (.int .i64 k))]),(15, .own 200 J7d o)]⟩,inv:=fun(k,o,j)=>Jo (tk,st,S,O,M,X,Q)∧k<O.length∧j≤Ut (O.getD k Ki)∧o.length≤48*k+j∧o++(Do M u (O.getD k Ki) ((O.getD k Ki).2.2.2.1.1+j) (Ut (O.getD k Ki)-j)++K4 M u (O.drop (k+1)))=K4 M u O,mu:=fun(k,_,j)=>Ut (O.getD k Ki)-j,rel:=some fun x y=>y.1=x.1}
theorem Jyl (a b:Bool):(bif a then b else false)=(a&&b):=by cases a<;>rfl
def Z2 (a:List Ord) (b:Nat×List Gap×Nat):=List.getD a b.1 Ki
def Z4 (a:List Ord) (b:Nat×List (Bt×Int)×Nat):=List.getD a b.1 Ki
def Z80 (a:List Ord) (b:Nat×List Gap×Nat):=(Z2 a b).2.2.2.1
def Z81 (a:List Ord) (b:Nat×List (Bt×Int)×Nat):=(Z4 a b).2.2.2.1
def Z85 (a:List Ord) (b:Nat×List (Bt×Int)×Nat):=(Z4 a b).2.2.2.2
def Z90 (a:List Ord) (b:Nat×List Gap×Nat):=(Z2 a b).2.2.2.2
def J02 (a:List Ord) (b:Nat×List Gap×Nat):=(Z80 a b).1+Nc b.2.2
def Kap (a:List Ord) (b:Nat×List Gap×Nat) (c:Nat×List (Bt×Int)×Nat):=(Z2 a b).1=(Z4 a c).1
def Kan (a:List Ord) (b:Nat×List Gap×Nat) (c:Nat×List (Bt×Int)×Nat):=(Z2 a b).2.1=(Z4 a c).2.1
def Kam (a:List Ord) (b:Nat×List Gap×Nat) (c:Nat×List (Bt×Int)×Nat):=(Z2 a b).2.2.1=(Z4 a c).2.2.1
def Key (a:List Ord) (b:Nat×List Gap×Nat) (c:Int):=decide (J02 a b<c)
def Kes (a:List Ord) (b:Nat×List Gap×Nat):=Iw (J02 a b+1)
def Kak (a:List Ord) (b:Nat×List Gap×Nat) (c:Nat×List (Bt×Int)×Nat):=(Z80 a b).1=(Z81 a c).1
def Kaj (a:List Ord) (b:Nat×List Gap×Nat) (c:Nat×List (Bt×Int)×Nat):=(Z80 a b).2=(Z81 a c).2
def Kai (a:List Ord) (b:Nat×List Gap×Nat) (c:Nat×List (Bt×Int)×Nat):=(Z90 a b).1=(Z85 a c).1
def Kag (a:List Ord) (b:Nat×List Gap×Nat) (c:Nat×List (Bt×Int)×Nat):=(Z90 a b).2.1=(Z85 a c).2.1
def Kaf (a:List Ord) (b:Nat×List Gap×Nat) (c:Nat×List (Bt×Int)×Nat):=(Z90 a b).2.2=(Z85 a c).2.2
def Kqk (a:Nat×List Gap×Nat):=(List.length a.2.1+1)*24≤140737488355328
def Kp4 (a:List Ord) (b:Nat×List Gap):=List.getD a b.1 Jdo
def Kp0 (a:List Ord) (b:Nat×List Gap):=(Kp4 a b).2
def Kpz (a:List Ord) (b:Nat×List Gap):=(Kp0 a b).2
def Kpx (a:List Ord) (b:Nat×List Gap):=(Kpz a b).2
def Kpw (a:List Ord) (b:Nat×List Gap×Nat):=decide (J02 a b<(Z80 a b).2)
def Kpv (a:List Ord) (b:Nat×List Gap):=(Kpx a b).2
def Kpu (a:List Ord) (b:Nat×List Gap):=(Kpx a b).1
def Kpn (a:List Ord) (b:Nat×List Gap):=(Kpv a b).2
def Kpk (a:List Ord) (b:Nat×List Gap):=(Kpu a b).1
def Kec (a:List Ord) (b:Nat×List Gap×Nat) (c:Nat×List (Bt×Int)×Nat):=J02 a b+1=(Z81 a c).1+Nc c.2.2
def Kox (a:Nat×List Gap×Nat) (b:List Ord):=a.2.1++[((Z2 b a).1,J02 b a)]
def Kkk (a:List Ord) (b:Nat×List Gap) (c:Nat×List (Bt×Int)×Nat):=(Kp4 a b).1=(Z4 a c).1
def Kkh (a:List Ord) (b:Nat×List Gap) (c:Nat×List (Bt×Int)×Nat):=(Kp0 a b).1=(Z4 a c).2.1
def Kos (a:Nat×List Gap×Nat) (b:List Ord) (c:Nat×List (Bt×Int)×Nat):=Kox a b=c.2.1
def Kj9 (a:List Ord) (b:Nat×List Gap) (c:Nat×List (Bt×Int)×Nat):=(Kpz a b).1=(Z4 a c).2.2.1
def Kj8 (a:Nat×List (Bt×Int)) (b:List Ord) (c:List Met) (d:Int):=a.1≤List.length b∧List.length a.2≤48*a.1∧a.2++K4 c d (List.drop a.1 b)=K4 c d b
def Kog (a:Nat×List Gap) (b:List Ord) (c:List Met) (d:Int):=a.1≤List.length b∧List.length a.2≤48*a.1∧a.2++K4 c d (List.drop a.1 b)=K4 c d b
def Kj6 (a:List Ord) (b:Nat×List Gap) (c:Nat×List (Bt×Int)×Nat):=(Kpu a b).2=(Z81 a c).2
def Kj5 (a:List Ord) (b:Nat×List Gap) (c:Nat×List (Bt×Int)×Nat):=(Kpv a b).1=(Z85 a c).1
def Kj4 (a:List Ord) (b:Nat×List Gap) (c:Nat×List (Bt×Int)×Nat):=Kpk a b=(Z81 a c).1
def Kj2 (a:List Ord) (b:Nat×List Gap) (c:Nat×List (Bt×Int)×Nat):=(Kpn a b).1=(Z85 a c).2.1
def Kj1 (a:List Ord) (b:Nat×List Gap) (c:Nat×List (Bt×Int)×Nat):=(Kpn a b).2=(Z85 a c).2.2
def Knt (a:List Ord) (b:Nat×List Gap) (c:Nat×List (Bt×Int)×Nat):=Kpk a b=(Z81 a c).1+Nc c.2.2
def Kjb (a:Nat×List (Bt×Int)) (b:List Ord) (c:List Met) (d:Int) (e:Nat×List Gap):=Kj8 a b c d∧List.length b-a.1<List.length b-e.1
def Kmi (a:List Ord) (b:Nat×List Gap×Nat):=J2 ((Z2 a b).1,(Z2 a b).2.1,(Z2 a b).2.2.1,E2 (Z80 a b),(Z90 a b).1,E2 (Z90 a b).2) (J02 a b)
def Kiz (a:Nat×List (Bt×Int)×Nat) (b:List Ord) (c:List Met) (d:Int):=a.1<List.length b∧a.2.2≤Ut (List.getD b a.1 Ki)∧List.length a.2.1≤48*a.1+a.2.2∧a.2.1++(Do c d (List.getD b a.1 Ki) ((List.getD b a.1 Ki).2.2.2.1.1+Nc a.2.2) (Ut (List.getD b a.1 Ki)-a.2.2)++K4 c d (List.drop (a.1+1) b))=K4 c d b
def Kmc (a:Nat×List Gap×Nat) (b:List Ord) (c:List Met) (d:Int):=a.1<List.length b∧a.2.2≤Ut (List.getD b a.1 Ki)∧List.length a.2.1≤48*a.1+a.2.2∧a.2.1++(Do c d (List.getD b a.1 Ki) ((List.getD b a.1 Ki).2.2.2.1.1+Nc a.2.2) (Ut (List.getD b a.1 Ki)-a.2.2)++K4 c d (List.drop (a.1+1) b))=K4 c d b
def Kx9 (a b:Int) (c:List Sta) (d:List Ord) (e:List Met) (f:List Out) (g:List Per) (h:Nat×List (Bt×Int)×Nat) (i:Int):=J0 a b c d e f g∧Kiz h d e i
def Kxv (a:Nat×List Gap×Nat) (b:List Ord) (c:List Sta) (d:List Met) (e:List Out) (f:List Per) (g h i:Int) (j:Nat×List Gap):=Iw (Nc a.1+1)∧∃(y:Nat×List (ByteArray×Int)),Si (Ln b) (Nc a.1+1=Nc y.1∧Sf c (Sf b (Sf d (Sf e (Sf f (Si g (Si h (Si i (a.2.1=y.2)))))))))∧Kjb y b d i j
def Kxo (a b:Int) (c:List Sta) (d:List Ord) (e:List Met) (f:List Out) (g:List Per) (h:Nat×List (Bt×Int)×Nat) (i:Int) (j:Nat×List (Bt×Int)×Nat) (k:Nat×List Gap×Nat):=(Kx9 a b c d e f g h i∧h.1=j.1)∧Ut (List.getD d h.1 Ki)-h.2.2<Ut (List.getD d k.1 Ki)-k.2.2
def Ka7 (a:Nat×List Gap×Nat) (b:List Ord) (c:List Sta) (d:List Met) (e:List Out) (f:List Per) (g h i:Int) (j:Nat×List Gap) (k:Nat×List (Bt×Int)×Nat):=Br false (Kxv a b c d e f g h i j) (Kes b a∧∃(y:Nat×List (ByteArray×Int)×Nat),(Kec b a y∧Sf c (Sf b (Sf d (Sf e (Sf f (Si g (Si h (Si i (Kap b a y∧Kan b a y∧Kam b a y∧Kak b a y∧Kaj b a y∧Kai b a y∧Kag b a y∧Kaf b a y∧Kap b a y∧Kan b a y∧Kam b a y∧Kak b a y∧Kaj b a y∧Kai b a y∧Kag b a y∧Kaf b a y∧Si (Ln b) (Nc a.1=Nc y.1∧a.2.1=y.2.1))))))))))∧Kxo g h c b d e f y i k a)
theorem K9i [Sx.Dr]:Ok Tryz.prog 92 Kwi:=Jwm W53 Tryz.f92 (U0 (l:=([(178,Tryz.f178),(247,Tryz.f247)]:List (Nat×Func))) (List.forall_mem_cons.2 ⟨by kernel_rfl,List.forall_mem_cons.2 ⟨by kernel_rfl,by simp⟩⟩)) (fun xx=>Zg (J9k xx.1.1 xx.1.2.1 xx.1.2.2.1 xx.1.2.2.2.1 xx.1.2.2.2.2.1 xx.1.2.2.2.2.2.1 xx.1.2.2.2.2.2.2 xx.2.1)) (fun xx=>fun f id=>if f=247 then some (J3q xx.1.1 xx.1.2.1 xx.1.2.2.1 xx.1.2.2.2.1 xx.1.2.2.2.2.1 xx.1.2.2.2.2.2.1 xx.1.2.2.2.2.2.2 xx.2.1) else none) fun xx=>by
 obtain⟨⟨(tk:Int),(st:Int),(S:List Sta),(O:List Ord),(M:List Met),(X:List Out),(Q:List Per)⟩,(u:Int),_⟩:=xx
 refine(by kernel_rfl:(J0 tk st S O M X Q→∃(x:Nat×List (ByteArray×Int)),Si (Ln O) (0=Nc x.1∧Sf S (Sf O (Sf M (Sf X (Sf Q (Si tk (Si st (Si u (List.length x.2=0)))))))))∧Kj8 x O M u∧∀(x:Nat×List Gap),Kog x O M u→Br (decide (Nc x.1<Ln O)) (Tw (Bd (Nc x.1) (Ln O))∧∃(x0:Nat×List (ByteArray×Int)×Nat),(Knt O x x0∧Sf S (Sf O (Sf M (Sf X (Sf Q (Si tk (Si st (Si u (Kkk O x x0∧Kkh O x x0∧Kj9 O x x0∧Kj4 O x x0∧Kj6 O x x0∧Kj5 O x x0∧Kj2 O x x0∧Kj1 O x x0∧Kkk O x x0∧Kkh O x x0∧Kj9 O x x0∧Kj4 O x x0∧Kj6 O x x0∧Kj5 O x x0∧Kj2 O x x0∧Kj1 O x x0∧Si (Ln O) (Nc x.1=Nc x0.1∧x.2=x0.2.1))))))))))∧(Kx9 tk st S O M X Q x0 u∧x0.1=x0.1)∧∀(x_1:Nat×List Gap×Nat),(J0 tk st S O M X Q∧Kmc x_1 O M u)∧x_1.1=x0.1→Br (Kpw O x_1) (Br (Kmi O x_1) ((Key O x_1 u=true→J0 tk st S O M X Q)∧Br (bif Key O x_1 u then decide (K3 M (Z2 O x_1).1 (J02 O x_1)<0) else false) (Kqk x_1∧Br false (Iw (Nc x_1.1+1)∧∃(y:Nat×List (ByteArray×Int)),Si (Ln O) (Nc x_1.1+1=Nc y.1∧Sf S (Sf O (Sf M (Sf X (Sf Q (Si tk (Si st (Si u (Kox x_1 O=y.2)))))))))∧Kjb y O M u x) (Kes O x_1∧∃(y:Nat×List (ByteArray×Int)×Nat),(Kec O x_1 y∧Sf S (Sf O (Sf M (Sf X (Sf Q (Si tk (Si st (Si u (Kap O x_1 y∧Kan O x_1 y∧Kam O x_1 y∧Kak O x_1 y∧Kaj O x_1 y∧Kai O x_1 y∧Kag O x_1 y∧Kaf O x_1 y∧Kap O x_1 y∧Kan O x_1 y∧Kam O x_1 y∧Kak O x_1 y∧Kaj O x_1 y∧Kai O x_1 y∧Kag O x_1 y∧Kaf O x_1 y∧Si (Ln O) (Nc x_1.1=Nc y.1∧Kos x_1 O y))))))))))∧Kxo tk st S O M X Q y u x0 x_1)) (Ka7 x_1 O S M X Q tk st u x x0)) (Ka7 x_1 O S M X Q tk st u x x0)) (Kxv x_1 O S M X Q tk st u x)) (Sf true (x.2=K4 M u O)))=_).mp ?_
 delta Z2 Z4 Z67 Z75 Z80 Z81 Z85 Z90 J0 J02 Kap Kan Kam Key Kes Jdo Kak Kaj Kai Kag Kaf Kqk Kp4 Kp0 Kpz Kpx Kpw Kpv Kpu Kpn Kpk Kec Kox Kkk Kkh Kos Kj9 Kj8 Kog Kj6 Kj5 Kj4 Kj2 Kj1 Knt Kjb Kmi Kiz Kmc Kx9 Kxv Kxo Ka7 Br Iw Bd Tw Sf Si Ln Nc B0 E2
 intro hr
 have nO:O.length≤32:=hr.nO
 refine⟨((0:Nat),[]),by(repeat' first|exact rfl|apply And.intro|exact(Int.add_zero _).symm|omega|dsimp only;omega),⟨Nat.zero_le _,Nat.zero_le _,rfl⟩,fun(x:Nat×List Gap) hk=>⟨fun h1=> ?_,fun h1=> ?_⟩⟩
 ·obtain⟨k,o⟩:=x
  have hlt:k<O.length:=by simpa using h1
  obtain⟨k1,k2,k3⟩:=hk
  dsimp only at k1 k2 k3
  rw[Jn (d:=Ki) hlt,K4,Jwt] at k3
  refine⟨⟨⟨by dsimp only;omega,by dsimp only;omega⟩,by dsimp only;omega,by dsimp only;omega⟩,(k,o,(0:Nat)), ?_,⟨⟨hr,hlt,Nat.zero_le _,by simpa using k2, ?_⟩,rfl⟩,fun(y:Nat×List Gap×Nat) hy=> ?_⟩
  ·repeat' first|exact rfl|apply And.intro|exact(Int.add_zero _).symm|omega|dsimp only;omega
  ·simpa[Ut] using k3
  obtain⟨k',o,j⟩:=y
  obtain⟨⟨_,i1,i2,i3,i4⟩,hkk⟩:=hy
  have hkk:k'=k:=hkk
  subst hkk
  dsimp only at i1 i2 i3 i4
  have ho:Jm7 (O.getD k' Ki).2.2.2.1:=(hr.ord (O.getD k' Ki) (Je hlt)).span
  have hn:Ut (O.getD k' Ki)≤48∧(Ut (O.getD k' Ki):Int)=(O.getD k' Ki).2.2.2.1.2-(O.getD k' Ki).2.2.2.1.1:=by
   have:=ho.mid;have:=ho.len
   unfold Ut
   constructor<;>omega
  have b1:=ho.lo
  have b2:=ho.hi
  refine⟨fun h2=> ?_,fun h2=> ?_⟩
  ·have h2:(O.getD k' Ki).2.2.2.1.1+(j:Int)<(O.getD k' Ki).2.2.2.1.2:=of_decide_eq_true h2
   have hj:Ut (O.getD k' Ki)-j=(Ut (O.getD k' Ki)-(j+1))+1:=by omega
   rw[hj,Do] at i4
   have hB: -9223372036854775808≤(O.getD k' Ki).2.2.2.1.1+(j:Int)+1∧(O.getD k' Ki).2.2.2.1.1+(j:Int)+1≤9223372036854775807:=by omega
   have hc:(O.getD k' Ki).2.2.2.1.1+(j:Int)+1=(O.getD k' Ki).2.2.2.1.1+((j+1:Nat):Int):=by omega
   refine⟨fun h3=>⟨fun _=>hr,fun h4=>⟨by dsimp only;omega,fun f=>(by cases f),fun _=>⟨hB,(k',o++[((O.getD k' Ki).1,(O.getD k' Ki).2.2.2.1.1+(j:Int))],j+1), ?_,⟨⟨hr,hlt,by dsimp only;omega,by simp;omega, ?_⟩,rfl⟩,by dsimp only;omega⟩⟩,fun h4=>⟨fun f=>(by cases f),fun _=>⟨hB,(k',o,j+1), ?_,⟨⟨hr,hlt,by dsimp only;omega,by dsimp only;omega, ?_⟩,rfl⟩,by dsimp only;omega⟩⟩⟩,fun h3=>⟨fun f=>(by cases f),fun _=>⟨hB,(k',o,j+1), ?_,⟨⟨hr,hlt,by dsimp only;omega,by dsimp only;omega, ?_⟩,rfl⟩,by dsimp only;omega⟩⟩⟩
   ·repeat' first|exact rfl|apply And.intro|exact(Int.add_zero _).symm|omega|dsimp only;omega
   ·have h3:J2 (O.getD k' Ki) ((O.getD k' Ki).2.2.2.1.1+(j:Int))=true:=h3
    have h4:(bif decide ((O.getD k' Ki).2.2.2.1.1+(j:Int)<u) then decide (K3 M (O.getD k' Ki).1 ((O.getD k' Ki).2.2.2.1.1+(j:Int))<0) else false)=true:=h4
    rw[Jyl] at h4
    rw[h3,Bool.true_and,h4,hc] at i4
    rw[←i4]
    simp
   ·repeat' first|exact rfl|apply And.intro|exact(Int.add_zero _).symm|omega|dsimp only;omega
   ·have h3:J2 (O.getD k' Ki) ((O.getD k' Ki).2.2.2.1.1+(j:Int))=true:=h3
    have h4:(bif decide ((O.getD k' Ki).2.2.2.1.1+(j:Int)<u) then decide (K3 M (O.getD k' Ki).1 ((O.getD k' Ki).2.2.2.1.1+(j:Int))<0) else false)=false:=h4
    rw[Jyl] at h4
    rw[h3,Bool.true_and,h4,hc] at i4
    rw[←i4]
    simp
   ·repeat' first|exact rfl|apply And.intro|exact(Int.add_zero _).symm|omega|dsimp only;omega
   ·have h3:J2 (O.getD k' Ki) ((O.getD k' Ki).2.2.2.1.1+(j:Int))=false:=h3
    rw[h3,hc] at i4
    rw[←i4]
    simp
  ·have h2:¬(O.getD k' Ki).2.2.2.1.1+(j:Int)<(O.getD k' Ki).2.2.2.1.2:=of_decide_eq_false h2
   have hj:Ut (O.getD k' Ki)-j=0:=by omega
   rw[hj,Do] at i4
   refine⟨⟨by dsimp only;omega,by dsimp only;omega⟩,(k'+1,o), ?_,⟨by dsimp only;omega,by dsimp only;omega,by simpa using i4⟩,by dsimp only;omega⟩
   repeat' first|exact rfl|apply And.intro|exact(Int.add_zero _).symm|omega|dsimp only;omega
 ·obtain⟨k,o⟩:=x
  have hlt:¬k<O.length:=by simpa using h1
  obtain⟨k1,k2,k3⟩:=hk
  dsimp only at k1 k2 k3
  have:k=O.length:=by omega
  rw[this,List.drop_length,K4,List.append_nil] at k3
  exact⟨rfl,k3⟩
abbrev W54 [Sx.Dr]:=W53.add K9i
abbrev aE:AK:=aEv
abbrev Jpc (T U:TypeId) (s:Sch) (l:List s.T) (g:Bool) (q:Tup [(g,s)]→List Prop) (f:Tup [(g,s)]→Bool):Ann:={X:=Nat,σ:=fun k=>⟨3,[(1, .one (.fv 1)),(5, .one (.sl 2)),(8, .one (.sl 0)),(9, .one (.int .i64 l.length)),(10, .one (.int .i64 k))],[(0, .imm T s l),(1, .afn [(g,s)] Bo q f),(2, .own U s ((l.take k).filter fun x=>f (x,())))]⟩,inv:=fun k=>k≤l.length,mu:=fun k=>l.length-k}
def Khm:Con:={args:=[.val false (.list 235 Y8), .fn [(true,Y8)] Bo],ress:=[(false, .list 235 Y8)],owns:=[true],pre:=fun(l,(q,_),_)=>[l.length≤1000000,∀x∈l,Us (q (x,()))],spec:=fun(l,(_,f),_)=>(l.filter fun x=>f (x,()),())}
theorem Jf1 {α:Type} {p:α→Bool} {l:List α} {k:Nat} (h:k≤l.length):((l.take k).filter p).length≤k:=by
 have:=List.length_filter_le p (l.take k)
 rw[List.length_take] at this
 omega
def Z86 (a:Nat) (b:List Per):=Tw (Bd (Nc a) (Ln b))
def J6g (a:Per×Unit→Bool) (b:Nat) (c:List Per):=List.filter (fun(x:Per)=>a (x,PUnit.unit)) (List.take b c)
def J3z (a:Nat) (b:List Per) (c:Nat):=a≤List.length b∧Jzh b a c
def Ko5 (a:List Per) (b:Nat):=[Keh a b]
theorem Ksp [Sx.Dr]:Ok Tryz.prog 243 Khm:=okW W54 Tryz.f243 (fun xx=>Zg (Jpc 235 235 Y8 xx.1 true xx.2.1.1 xx.2.1.2)) fun xx=>by
 obtain⟨(l:List Per),⟨(q:Per×Unit→List Prop),(f:Per×Unit→Bool)⟩,_⟩:=xx
 refine(by kernel_rfl:(Z47 l→Kel l q→∃(x:Nat),Si (Ln l) (0=Nc x∧Sf l ((fun(x:Per×PUnit)=>q x)=q∧(fun(x:Per×PUnit)=>f x)=f∧List.length (J6g f x l)=0))∧x≤List.length l∧∀(x:Nat),x≤List.length l→Br (Z99 x l) (Z86 x l∧Keb q l x∧Br (Ko6 f l x) ((List.length (J6g f x l)+1)*40≤140737488355328∧Z21 x∧∃(y:Nat),Si (Ln l) (V4 x y∧Sf l ((fun(x:Per×PUnit)=>q x)=q∧(fun(x:Per×PUnit)=>f x)=f∧J6g f x l++Ko5 l x=J6g f y l))∧J3z y l x) (Z21 x∧∃(y:Nat),Si (Ln l) (V4 x y∧Sf l ((fun(x:Per×PUnit)=>q x)=q∧(fun(x:Per×PUnit)=>f x)=f∧J6g f x l=J6g f y l))∧J3z y l x)) (J6g f x l=List.filter (fun(x:Per)=>f (x,PUnit.unit)) l))=_).mp ?_
 delta Z21 Z47 Z86 Z99 V4 Jzi J06 Jzh J6g J3z Kel Keh Kef Ko6 Ko5 Keb Br Iw Bd Tw Sf Si Ln Nc B0 E2
 intro hb hq
 refine⟨(0:Nat),⟨rfl,rfl,rfl,rfl,rfl,by simp⟩,Nat.zero_le _,fun(k:Nat) hk=>⟨fun h=> ?_,fun h=> ?_⟩⟩
 ·have hlt:k<l.length:=by simpa using h
  have hf:=Jf1 (p:=fun x=>f (x,())) hk
  have ht:=Ke (d:=Fi) hlt
  refine⟨by omega,hq (l.getD k Fi) (Je hlt),fun h1=> ?_,fun h1=> ?_⟩
  ·have h1:f (l.getD k Fi,())=true:=h1
   refine⟨by show((List.filter (fun x=>f (x,())) (List.take k l)).length+1)*40≤_;omega,by omega,(k+1:Nat),⟨rfl,by simp,rfl,rfl,rfl, ?_⟩,by omega,by omega⟩
   rw[←ht,List.filter_append,List.filter_cons,if_pos h1];rfl
  ·have h1:f (l.getD k Fi,())=false:=h1
   refine⟨by omega,(k+1:Nat),⟨rfl,by simp,rfl,rfl,rfl, ?_⟩,by omega,by omega⟩
   rw[←ht,List.filter_append,List.filter_cons,if_neg (by rw[h1];decide)];simp
 ·have hlt:¬k<l.length:=by simpa using h
  rw[List.take_of_length_le (by omega)]
abbrev W55 [Sx.Dr]:=W54.add Ksp
def J5s:Con:={args:=[.val true Y8],ress:=[Bo],owns:=[],pre:=fun _=>[],spec:=fun(x,_)=>(x.2.2,())}
theorem Krh [Sx.Dr] (x:Per):wpF Tryz.prog W55.g (na ()) Tryz.f261 J5s (x,()):=by
 refine(by kernel_rfl:(x.2.2=x.2.2)=_).mp ?_
 rfl
theorem Ksj [Sx.Dr]:Ok Tryz.prog 261 J5s:=V2 mixed W55.ok (by kernel_rfl) (by kernel_rfl) na fun xx=>Krh xx.1
abbrev W56 [Sx.Dr]:=W55.add Ksj
def Zo (Q:List Per):List Per:=Q.filter fun x=>x.2.2
def Khb:Con:={args:=[Jb6],ress:=[(false, .list 235 Y8)],owns:=[true],pre:=fun(r,_)=>[Jo r],spec:=fun((_,_,_,_,_,_,Q),_)=>(Zo Q,())}
theorem Ks8 [Sx.Dr]:Ok Tryz.prog 207 Khb:=okW W56 Tryz.f207 na fun xx=>by
 obtain⟨⟨(tk:Int),(st:Int),(S:List Sta),(O:List Ord),(M:List Met),(X:List Out),(Q:List Per)⟩,_⟩:=xx
 refine(by kernel_rfl:(J0 tk st S O M X Q→Kpb Q∧List.filter (fun(x:Per)=>x.2.2) Q=Zo Q)=_).mp ?_
 delta Z47 Z67 J0 Kpb
 intro hr
 have nQ:Q.length≤16:=hr.nQ
 exact⟨⟨by omega,fun _ _=>trivial⟩,rfl⟩
abbrev W57 [Sx.Dr]:=W56.add Ks8
theorem Jd9 {Q:List Per}:(Zo Q).length≤Q.length:=List.length_filter_le _ _
theorem Jl0 {Q:List Per} {x:Per} (h:x∈Zo Q):x∈Q:=(List.mem_filter.1 h).1
def Kg5:Con:={args:=[.val true Y8, .ref 188 Yh],ress:=[Bo],owns:=[],pre:=fun _=>[],spec:=fun(x,y,_)=>(x.2.1.toList==y.1.toList,())}
theorem Kri [Sx.Dr] (x:Per) (y:Out):wpF Tryz.prog W57.g (na ()) Tryz.f244 Kg5 (x,y,()):=by
 refine(by kernel_rfl:(Lb x.2.1 y.1=Lb x.2.1 y.1)=_).mp ?_
 delta Lb
 rfl
theorem Kso [Sx.Dr]:Ok Tryz.prog 244 Kg5:=V2 mixed W57.ok (by kernel_rfl) (by kernel_rfl) na fun xx=>Kri xx.1 xx.2.1
abbrev W58 [Sx.Dr]:=W57.add Kso
def Kv7:Con:={args:=[.val true Y8, .ref 105 Jkx, .ref 3 sI],ress:=[Bo],owns:=[],pre:=fun(x,r,_)=>[Jo r,0≤Jw r.2.2.2.2.2.1 x.2.1],spec:=fun(x,(_,_,_,_,_,X,_),h,_)=>(decide ((Y0 X x.2.1).2.2.1.2≤h),())}
theorem Ksm [Sx.Dr]:Ok Tryz.prog 246 Kv7:=okW W58 Tryz.f246 na fun xx=>by
 obtain⟨⟨(a:ByteArray),(b:ByteArray),(c:Bool)⟩,⟨(tk:Int),(st:Int),(S:List Sta),(O:List Ord),(M:List Met),(X:List Out),(Q:List Per)⟩,(h:Int),_⟩:=xx
 refine(by kernel_rfl:(J0 tk st S O M X Q→0≤Jw X b→(Z48 X∧0≤Jw X b)∧decide ((Y0 X b).2.2.1.2≤h)=decide ((Y0 X b).2.2.1.2≤h))=_).mp ?_
 delta Z48 Z67 J0
 intro hr h
 have nX:X.length≤16:=hr.nX
 repeat' first|assumption|exact rfl|trivial|omega|apply And.intro|intro _
abbrev W59 [Sx.Dr]:=W58.add Ksm
def Kwf:Con:={args:=[aI, .ref 105 Jkx, .ref 9 .str, .ref 9 .str, .ref 3 sI],ress:=[Bo],owns:=[],pre:=fun(_,r,a,b,_)=>[Jo r,0≤J1 r.2.2.1 a,0≤J1 r.2.2.1 b],spec:=fun(h,(_,_,S,O,_,X,_),a,b,p,_)=>(decide (min (Vx S O X a h) (Vx S O X b h)<p),())}
theorem Kst [Sx.Dr]:Ok Tryz.prog 239 Kwf:=okW W59 Tryz.f239 na fun xx=>by
 obtain⟨(h:Int),⟨(tk:Int),(st:Int),(S:List Sta),(O:List Ord),(M:List Met),(X:List Out),(Q:List Per)⟩,(a:ByteArray),(b:ByteArray),(p:Int),_⟩:=xx
 refine(by kernel_rfl:(J0 tk st S O M X Q→Z15 S a→Z15 S b→(J0 tk st S O M X Q∧Z15 S a∧J0 tk st S O M X Q∧Z15 S b)∧decide (min (Vx S O X a h) (Vx S O X b h)<p)=decide (min (Vx S O X a h) (Vx S O X b h)<p))=_).mp ?_
 delta Z15 Z67 J0
 intro hr h1 h2
 repeat' first|assumption|exact rfl|trivial|omega|apply And.intro|intro _
abbrev W60 [Sx.Dr]:=W59.add Kst
def Kwe:Con:={args:=[aI, .ref 105 Jkx, .ref 9 .str, .ref 3 sI],ress:=[Bo],owns:=[],pre:=fun(_,r,a,_)=>[Jo r],spec:=fun(h,(_,_,_,O,_),a,p,_)=>(decide (p<Ul O a h),())}
theorem Ksr [Sx.Dr]:Ok Tryz.prog 241 Kwe:=okW W60 Tryz.f241 na fun xx=>by
 obtain⟨(h:Int),⟨(tk:Int),(st:Int),(S:List Sta),(O:List Ord),(M:List Met),(X:List Out),(Q:List Per)⟩,(a:ByteArray),(p:Int),_⟩:=xx
 refine(by kernel_rfl:(J0 tk st S O M X Q→J0 tk st S O M X Q∧decide (p<Ul O a h)=decide (p<Ul O a h))=_).mp ?_
 delta Z67 J0
 intro hr
 repeat' first|assumption|exact rfl|trivial|omega|apply And.intro|intro _
abbrev W61 [Sx.Dr]:=W60.add Ksr
def Jnb (f:Int→Bool):Int→Nat→Bool
 |_,0=>false
 |a,n+1=>bif f a then true else Jnb f (a+1) n
def Xr (s:Int×Int) (f:Int→Bool):Bool:=Jnb f s.1 (s.2-s.1).toNat
def Khz:Con:={args:=[.val true Ld, .fn [I] Bo],ress:=[Bo],owns:=[],pre:=fun(s,(q,_),_)=>[0≤s.1∧s.1≤999999999,0≤s.2∧s.2≤999999999,∀h,s.1≤h→h<s.2→Us (q (h,()))],spec:=fun(s,(_,f),_)=>(Xr s fun h=>f (h,()),())}
abbrev J3s (a b:Int) (q:Int×Unit→List Prop) (f:Int×Unit→Bool):Ann:={X:=Nat,σ:=fun k=>⟨2,[(1, .one (.fv 1)),(2, .one (.ptr 0 0)),(5, .one (.bool false)),(11, .one (.int .i64 (b-a))),(12, .one (.int .i64 k))],[(0, .box 117 [.int .i64 a, .int .i64 b]),(1, .afn [I] Bo q f)]⟩,inv:=fun k=>k≤(b-a).toNat∧Xr (a,b) (fun h=>f (h,()))=Jnb (fun h=>f (h,())) (a+k) ((b-a).toNat-k),mu:=fun k=>(b-a).toNat-k}
def Kfo (a:Int):=0≤a∧a≤999999999
def Kob (a:Nat) (b c:Int) (d:Int×Unit→Bool):=a≤Int.toNat (b-c)∧(Xr (c,b) fun(h:Int)=>d (h,PUnit.unit))=Jnb (fun(h:Int)=>d (h,PUnit.unit)) (c+Nc a) (Int.toNat (b-c)-a)
theorem Ksv [Sx.Dr]:Ok Tryz.prog 237 Khz:=okW W61 Tryz.f237 (fun xx=>Zg (J3s xx.1.1 xx.1.2 xx.2.1.1 xx.2.1.2)) fun xx=>by
 obtain⟨⟨(a:Int),(b:Int)⟩,⟨(q:Int×Unit→List Prop),(f:Int×Unit→Bool)⟩,_⟩:=xx
 refine(by kernel_rfl:(Kfo a→Kfo b→(∀(h:Int),a≤h→h<b→Us (q (h,PUnit.unit)))→Iw (b-a)∧∃(x:Nat),Sf false (Si (b-a) (0=Nc x∧Si a (Si b ((fun(x:Int×PUnit)=>q x)=q∧(fun(x:Int×PUnit)=>f x)=f))))∧Kob x b a f∧∀(x:Nat),Kob x b a f→Br (decide (Nc x<b-a)) ((Iw (a+Nc x)∧Us (q (a+Nc x,PUnit.unit)))∧Br (f (a+Nc x,PUnit.unit)) (true=Xr (a,b) fun(h:Int)=>f (h,PUnit.unit)) (Z21 x∧∃(y:Nat),Sf false (Si (b-a) (V4 x y∧Si a (Si b ((fun(x:Int×PUnit)=>q x)=q∧(fun(x:Int×PUnit)=>f x)=f))))∧Kob y b a f∧Int.toNat (b-a)-y<Int.toNat (b-a)-x)) (false=Xr (a,b) fun(h:Int)=>f (h,PUnit.unit)))=_).mp ?_
 delta Z21 V4 Kfo Kob Br Iw Sf Si Nc
 intro h1 h2 hq
 refine⟨by omega,(0:Nat),⟨rfl,rfl,rfl,rfl,rfl,rfl,rfl⟩,⟨Nat.zero_le _,by simp[Xr]⟩,fun(k:Nat) hk=>⟨fun h=> ?_,fun h=> ?_⟩⟩
 ·have h:(k:Int)<b-a:=of_decide_eq_true h
  obtain⟨k1,k2⟩:=hk
  have hj:(b-a).toNat-k=((b-a).toNat-(k+1))+1:=by omega
  rw[hj,Jnb] at k2
  refine⟨⟨by omega,hq (a+k) (by omega) (by omega)⟩,fun h3=> ?_,fun h3=>⟨by omega,(k+1:Nat),⟨rfl,rfl,by simp,rfl,rfl,rfl,rfl⟩,⟨by omega, ?_⟩,by omega⟩⟩
  ·rw[k2]
   show true=bif f (a+(k:Int),PUnit.unit) then true else _
   rw[h3];rfl
  ·rw[k2]
   show(bif f (a+(k:Int),PUnit.unit) then true else _)=_
   rw[h3,Int.natCast_add,←Int.add_assoc];rfl
 ·have h:¬(k:Int)<b-a:=of_decide_eq_false h
  have hj:(b-a).toNat-k=0:=by omega
  rw[hk.2,hj];rfl
abbrev W62 [Sx.Dr]:=W61.add Ksv
def Jmt (S:List Sta) (vs:List Int):Int:=Jf [Kt (vs.getD 1 0) 1 1000,bif decide ((6:Int)≤S.length) then 5 else 0]
def Kh0:Con:={args:=[Jb6,aEv],ress:=[I],owns:=[],pre:=fun(r,e,_)=>[Jo r,2≤e.2.2.2.1.length],spec:=fun((tk,st,S,O,M,X,Q),(n,k,ns,vs,tx),_)=>(Jmt S vs,())}
def Z45 (a:Li):=2≤List.length a
theorem Kun [Sx.Dr]:Ok Tryz.prog 148 Kh0:=okW W62 Tryz.f148 na fun xx=>by
 obtain⟨⟨(tk:Int),(st:Int),(S:List Sta),(O:List Ord),(M:List Met),(X:List Out),(Q:List Per)⟩,⟨(n:Int),(k:ByteArray),(ns:List ByteArray),(vs:List Int),(tx:ByteArray)⟩,_⟩:=xx
 refine(by kernel_rfl:(J0 tk st S O M X Q→Z45 vs→T2 (Z33 vs) (2≤1000000)∧Jf [Kt (Zx vs) 1 1000,bif decide (6≤Ln S) then 5 else 0]=Jmt S vs)=_).mp ?_
 delta Z33 Z45 Z67 Zx J0 Bd T2 Ln
 intro hr h
 repeat' first|assumption|exact rfl|trivial|omega|apply And.intro|intro _
abbrev W63 [Sx.Dr]:=W62.add Kun
def Jo1 (vs:List Int):Int:=Kt (vs.getD 1 0) 0 1000
def Kh2:Con:={args:=[Jb6,aEv],ress:=[I],owns:=[],pre:=fun(r,e,_)=>[2≤e.2.2.2.1.length],spec:=fun((tk,st,S,O,M,X,Q),(n,k,ns,vs,tx),_)=>(Jo1 vs,())}
def Z96 (a:Li):=Tw (Z33 a)
theorem Kuj [Sx.Dr]:Ok Tryz.prog 152 Kh2:=okW W63 Tryz.f152 na fun xx=>by
 obtain⟨⟨(tk:Int),(st:Int),(S:List Sta),(O:List Ord),(M:List Met),(X:List Out),(Q:List Per)⟩,⟨(n:Int),(k:ByteArray),(ns:List ByteArray),(vs:List Int),(tx:ByteArray)⟩,_⟩:=xx
 refine(by kernel_rfl:(Z45 vs→Z96 vs∧Kt (Zx vs) 0 1000=Jo1 vs)=_).mp ?_
 delta Z33 Z45 Z96 Zx Bd Tw Ln
 intro h
 repeat' first|assumption|exact rfl|trivial|omega|apply And.intro|intro _
abbrev W64 [Sx.Dr]:=W63.add Kuj
def Jgc (e:Ev):Int:=Jf [bif (e.2.2.1.getD 1 Jb).toList==(e.2.2.1.getD 2 Jb).toList then 24 else 0,Hb e,Kt (e.2.2.2.1.getD 3 0) 1 1000]
def Jti (S:List Sta) (O:List Ord) (X:List Out) (e:Ev):Bool:=Xr (Vp e) fun h=>decide (min (Vx S O X (e.2.2.1.getD 1 Jb) h) (Vx S O X (e.2.2.1.getD 2 Jb) h)<e.2.2.2.1.getD 3 0)
def Jbw (S:List Sta) (O:List Ord) (X:List Out) (e:Ev):Int:=if Jgc e≠0 then Jgc e else Jf [bif Jti S O X e then 4 else 0,bif decide ((32:Int)≤O.length) then 5 else 0]
def Kh4:Con:={args:=[Jb6,aEv],ress:=[I],owns:=[],pre:=fun(r,e,_)=>[Jo r,EvV e,e.2.2.1.length=3,e.2.2.2.1.length=4,0≤J1 r.2.2.1 (e.2.2.1.getD 1 Jb),0≤J1 r.2.2.1 (e.2.2.1.getD 2 Jb)],spec:=fun((tk,st,S,O,M,X,Q),(n,k,ns,vs,tx),_)=>(Jbw S O X (n,k,ns,vs,tx),())}
def Z26 (a:Li):=Bd 3 (Ln a)
def Z64 (a:Li):=List.length a=4
def Z97 (a:Li):=List.getD a 3 0
def Lv (a:Ls):=List.getD a 1 B0
def J6v (a:Ls):=Bd 2 (Ln a)
def Jpl (a:Ls):=List.getD a 2 B0
def J1a (a:Li):=Tw (Z26 a)
def Jem (a:Ls):=Bd 1 (Ln a)
def Kay (a:Ls):=List.getD a 2 Jb
def Juq (a:Ls):=List.length a=3
def Jks (a:Ls):=List.getD a 1 Jb
def J04 (a:List Sta) (b:Ls):=J1 a (Lv b)
def J6c (a:List Sta) (b:Ls):=0≤J04 a b
def Ke4 (a:List Sta) (b:Ls):=0≤J1 a (Jks b)
def Kqr (a:Ls):=Lb (Lv a) (Jpl a)
def Kzr (a:Ls) (b:Int) (c:Bt) (d:Li) (e:Bt):=Jf [bif Kqr a then 24 else 0,Hb (b,c,a,d,e),Kt (Z97 d) 1 1000]
theorem Kuh [Sx.Dr]:Ok Tryz.prog 154 Kh4:=okW W64 Tryz.f154 na fun xx=>by
 obtain⟨⟨(tk:Int),(st:Int),(S:List Sta),(O:List Ord),(M:List Met),(X:List Out),(Q:List Per)⟩,⟨(n:Int),(k:ByteArray),(ns:List ByteArray),(vs:List Int),(tx:ByteArray)⟩,_⟩:=xx
 refine(by kernel_rfl:(J0 tk st S O M X Q→EvV (n,k,ns,vs,tx)→Juq ns→Z64 vs→Ke4 S ns→0≤J1 S (Kay ns)→T2 (Jem ns) (T2 (J6v ns) (J1a vs))∧(Z59 vs∧EvV (n,k,ns,vs,tx)∧3≤1000000)∧Br (Kzr ns n k vs tx !=0) (Kzr ns n k vs tx=Jbw S O X (n,k,ns,vs,tx)) ((Z59 vs∧(0≤(Z52 n k ns vs tx).1∧(Z52 n k ns vs tx).1≤999999999)∧(0≤(Z52 n k ns vs tx).2∧(Z52 n k ns vs tx).2≤999999999)∧∀(h:Int),(Z52 n k ns vs tx).1≤h→h<(Z52 n k ns vs tx).2→J0 tk st S O M X Q∧J6c S ns∧0≤J1 S (Jpl ns))∧2≤1000000∧Jf [bif Xr (E2 (Z52 n k ns vs tx)) fun(h:Int)=>decide (min (Vx S O X (Lv ns) h) (Vx S O X (Jpl ns) h)<Z97 vs) then 4 else 0,bif decide (32≤Ln O) then 5 else 0]=Jbw S O X (n,k,ns,vs,tx)))=_).mp ?_
 delta Z26 Z52 Z59 Z64 Z67 Z97 Lv J6v Jpl J1a Jem Kay Juq Jks J0 J04 J6c Ke4 Kqr Kzr Br Bd T2 Tw Ln B0 Lb E2
 intro hr hv hn hl h1 h2
 have sp:(0≤(Vp (n,k,ns,vs,tx)).1∧(Vp (n,k,ns,vs,tx)).1≤999999999)∧0≤(Vp (n,k,ns,vs,tx)).2∧(Vp (n,k,ns,vs,tx)).2≤999999999:=⟨hv (vs.getD 1 0) (Je (show 1<vs.length by omega)),hv (vs.getD 2 0) (Je (show 2<vs.length by omega))⟩
 refine⟨by omega,⟨by omega,hv,by omega⟩,fun h=> ?_,fun h=>⟨⟨by omega,sp.1,sp.2,fun _ _ _=>⟨hr,h1,h2⟩⟩,by omega, ?_⟩⟩
 ·have h:Jgc (n,k,ns,vs,tx)≠0:=bne_iff_ne.1 h
  unfold Jbw;rw[if_pos h];rfl
 ·have h:¬Jgc (n,k,ns,vs,tx)≠0:=by have:=bne_eq_false_iff_eq.1 h;exact fun f=>f this
  unfold Jbw;rw[if_neg h];rfl
abbrev W65 [Sx.Dr]:=W64.add Kuh
def Jkl (O:List Ord) (M:List Met) (ns:List ByteArray) (vs:List Int):Int:=Jf [bif decide (vs.getD 0 0≤vs.getD 1 0) then 11 else 0,bif !Kv (Vy O (ns.getD 0 Jb)).2.2.2.1 (vs.getD 1 0) then 14 else 0,bif !J2 (Vy O (ns.getD 0 Jb)) (vs.getD 1 0) then 23 else 0,bif decide (0≤K3 M (Vy O (ns.getD 0 Jb)).1 (vs.getD 1 0)) then 9 else 0,bif (bif decide ((Vy O (ns.getD 0 Jb)).2.2.2.2.1<vs.getD 2 0) then true else decide (vs.getD 2 0<vs.getD 3 0)) then 3 else 0]
def Kh5:Con:={args:=[Jb6,aEv],ress:=[I],owns:=[],pre:=fun(r,e,_)=>[Jo r,1≤e.2.2.1.length,4≤e.2.2.2.1.length,0≤Kg r.2.2.2.1 (e.2.2.1.getD 0 Jb)],spec:=fun((tk,st,S,O,M,X,Q),(n,k,ns,vs,tx),_)=>(Jkl O M ns vs,())}
def Z56 (a:Li):=4≤List.length a
def U8 (a:Ls):=List.getD a 0 B0
def Yj (a:Ls):=Bd 0 (Ln a)
def Dh (a:Ls):=List.getD a 0 Jb
def Xo (a:Ls):=1≤List.length a
def Kaw (a:List Ord) (b:Ls):=Vy a (U8 b)
def Jrz (a:List Ord) (b:Ls):=Kg a (U8 b)
def Kfd (a:List Ord) (b:Ls):=(Kaw a b).2.2
def Kar (a:List Ord) (b:Ls):=(Kfd a b).2.2
def Kfa (a:List Ord) (b:Ls):=(Kfd a b).2.1
def Jul (a:List Ord) (b:Ls):=0≤Kg a (Dh b)
def Kqi (a:Li):=decide (Jm6 a<Z97 a)
def Kqh (a:Li):=decide (Z98 a≤Zx a)
def Kmf (a:List Ord) (b:Ls):=((Kaw a b).1,(Kaw a b).2.1,(Kfd a b).1,E2 (Kfa a b),(Kar a b).1,E2 (Kar a b).2)
theorem Kue [Sx.Dr]:Ok Tryz.prog 157 Kh5:=okW W65 Tryz.f157 na fun xx=>by
 obtain⟨⟨(tk:Int),(st:Int),(S:List Sta),(O:List Ord),(M:List Met),(X:List Out),(Q:List Per)⟩,⟨(n:Int),(k:ByteArray),(ns:List ByteArray),(vs:List Int),(tx:ByteArray)⟩,_⟩:=xx
 refine(by kernel_rfl:(J0 tk st S O M X Q→Xo ns→Z56 vs→Jul O ns→T2 (Yj ns) (Z50 O∧0≤Jrz O ns∧T2 (Z33 vs) (T2 (Z31 vs) (J1a vs)))∧T2 (Z25 vs) (J0 tk st S O M X Q∧5≤1000000)∧Jf [bif Kqh vs then 11 else 0,bif !Kv (E2 (Kfa O ns)) (Zx vs) then 14 else 0,bif !J2 (Kmf O ns) (Zx vs) then 23 else 0,bif decide (0≤K3 M (Kaw O ns).1 (Zx vs)) then 9 else 0,bif bif decide ((Kar O ns).1<Jm6 vs) then true else Kqi vs then 3 else 0]=Jkl O M ns vs)=_).mp ?_
 delta Z25 Z26 Z31 Z33 Z50 Z56 Z67 Z97 Z98 Zx Jm6 J1a U8 Yj Dh Xo J0 Kaw Jrz Kfd Kar Kfa Jul Kqi Kqh Kmf Bd T2 Tw Ln B0 E2
 intro hr h1 h2 h3
 have nO:O.length≤32:=hr.nO
 refine⟨⟨⟨by omega,by omega⟩,⟨by omega,by omega⟩,by omega,h3,by omega⟩,⟨by omega,by omega,hr,by omega⟩,rfl⟩
abbrev W66 [Sx.Dr]:=W65.add Kue
def Jbs (O:List Ord) (ns:List ByteArray) (vs:List Int):Int:=bif (bif (Vy O (ns.getD 0 Jb)).2.2.2.2.2.2 != -1 then true else decide ((Vy O (ns.getD 0 Jb)).2.2.2.1.2≤vs.getD 0 0)) then 23 else 0
def J82:Con:={args:=[Jb6,aEv],ress:=[I],owns:=[],pre:=fun(r,e,_)=>[Jo r,1≤e.2.2.1.length,1≤e.2.2.2.1.length,0≤Kg r.2.2.2.1 (e.2.2.1.getD 0 Jb)],spec:=fun((tk,st,S,O,M,X,Q),(n,k,ns,vs,tx),_)=>(Jbs O ns vs,())}
def Z58 (a:Li):=1≤List.length a
def Koq (a:Ls) (b:List Ord):=T2 (Yj a) (Z50 b∧0≤Jrz b a)
def K1s (a:List Ord) (b:Ls):=(Kar a b).2.2 !=Z71
theorem Kuc [Sx.Dr]:Ok Tryz.prog 159 J82:=okW W66 Tryz.f159 na fun xx=>by
 obtain⟨⟨(tk:Int),(st:Int),(S:List Sta),(O:List Ord),(M:List Met),(X:List Out),(Q:List Per)⟩,⟨(n:Int),(k:ByteArray),(ns:List ByteArray),(vs:List Int),(tx:ByteArray)⟩,_⟩:=xx
 refine(by kernel_rfl:(J0 tk st S O M X Q→Xo ns→Z58 vs→Jul O ns→Koq ns O∧Tw (K1s O ns=false→Z25 vs)∧(bif bif K1s O ns then true else decide ((Kfa O ns).2≤Z98 vs) then 23 else 0)=Jbs O ns vs)=_).mp ?_
 delta Z25 Z50 Z58 Z67 Z71 Z98 U8 Yj Dh Xo J0 Kaw Jrz Kfd Kar Kfa Jul Koq K1s Bd T2 Tw Ln B0
 intro hr h1 h2 h3
 have nO:O.length≤32:=hr.nO
 repeat' first|assumption|exact rfl|trivial|omega|apply And.intro|intro _
abbrev W67 [Sx.Dr]:=W66.add Kuc
def Jdh (S:List Sta) (e:Ev):Int:=Jf [Hb e,bif decide ((Hu S (e.2.2.1.getD 1 Jb)).2.1≤e.2.2.2.1.getD 3 0) then 3 else 0]
def Jbv (S:List Sta) (O:List Ord) (X:List Out) (e:Ev):Int:=if Jdh S e≠0 then Jdh S e else Jf [bif Xr (Vp e) (fun h=>decide (e.2.2.2.1.getD 3 0<Ul O (e.2.2.1.getD 1 Jb) h)) then 24 else 0,bif decide ((16:Int)≤X.length) then 5 else 0]
def Kh3:Con:={args:=[Jb6,aEv],ress:=[I],owns:=[],pre:=fun(r,e,_)=>[Jo r,EvV e,e.2.2.1.length=2,e.2.2.2.1.length=4,0≤J1 r.2.2.1 (e.2.2.1.getD 1 Jb)],spec:=fun((tk,st,S,O,M,X,Q),(n,k,ns,vs,tx),_)=>(Jbv S O X (n,k,ns,vs,tx),())}
def Jr5 (a:Ls):=List.length a=2
def K0r (a:Int) (b:Bt) (c:Ls) (d:Li) (e:Bt) (f:List Sta):=Jf [Hb (a,b,c,d,e),bif decide ((Hu f (Lv c)).2.1≤Z97 d) then 3 else 0]
theorem Kua [Sx.Dr]:Ok Tryz.prog 161 Kh3:=okW W67 Tryz.f161 na fun xx=>by
 obtain⟨⟨(tk:Int),(st:Int),(S:List Sta),(O:List Ord),(M:List Met),(X:List Out),(Q:List Per)⟩,⟨(n:Int),(k:ByteArray),(ns:List ByteArray),(vs:List Int),(tx:ByteArray)⟩,_⟩:=xx
 refine(by kernel_rfl:(J0 tk st S O M X Q→EvV (n,k,ns,vs,tx)→Jr5 ns→Z64 vs→Ke4 S ns→T2 (Jem ns) (J1a vs)∧(Z59 vs∧EvV (n,k,ns,vs,tx)∧Z44 S∧J6c S ns∧2≤1000000)∧Br (K0r n k ns vs tx S !=0) (K0r n k ns vs tx S=Jbv S O X (n,k,ns,vs,tx)) ((Z59 vs∧(0≤(Z52 n k ns vs tx).1∧(Z52 n k ns vs tx).1≤999999999)∧(0≤(Z52 n k ns vs tx).2∧(Z52 n k ns vs tx).2≤999999999)∧∀(h:Int),(Z52 n k ns vs tx).1≤h→h<(Z52 n k ns vs tx).2→J0 tk st S O M X Q)∧2≤1000000∧Jf [bif Xr (E2 (Z52 n k ns vs tx)) fun(h:Int)=>decide (Z97 vs<Ul O (Lv ns) h) then 24 else 0,bif decide (16≤Ln X) then 5 else 0]=Jbv S O X (n,k,ns,vs,tx)))=_).mp ?_
 delta Z26 Z44 Z52 Z59 Z64 Z67 Z97 Lv J1a Jem Jr5 Jks J0 J04 J6c Ke4 K0r Br Bd T2 Tw Ln B0 E2
 intro hr hv hn hl h1
 have sp:(0≤(Vp (n,k,ns,vs,tx)).1∧(Vp (n,k,ns,vs,tx)).1≤999999999)∧0≤(Vp (n,k,ns,vs,tx)).2∧(Vp (n,k,ns,vs,tx)).2≤999999999:=⟨hv (vs.getD 1 0) (Je (show 1<vs.length by omega)),hv (vs.getD 2 0) (Je (show 2<vs.length by omega))⟩
 have nS:S.length≤6:=hr.nS
 refine⟨by omega,⟨by omega,hv,by omega,h1,by omega⟩,fun h=> ?_,fun h=>⟨⟨by omega,sp.1,sp.2,fun _ _ _=>hr⟩,by omega, ?_⟩⟩
 ·have h:Jdh S (n,k,ns,vs,tx)≠0:=bne_iff_ne.1 h
  unfold Jbv;rw[if_pos h];rfl
 ·have h:¬Jdh S (n,k,ns,vs,tx)≠0:=by have:=bne_eq_false_iff_eq.1 h;exact fun f=>f this
  unfold Jbv;rw[if_neg h];rfl
abbrev W68 [Sx.Dr]:=W67.add Kua
def Jbt (X:List Out) (Q:List Per) (ns:List ByteArray) (vs:List Int):Int:=Jf [bif decide (vs.getD 0 0≤(Y0 X (ns.getD 0 Jb)).2.2.1.1) then 21 else 0,bif decide ((Y0 X (ns.getD 0 Jb)).2.2.1.2≤vs.getD 0 0) then 23 else 0,bif decide ((0:Int)<((Zo Q).filter fun p=>p.2.1.toList==(Y0 X (ns.getD 0 Jb)).1.toList).length) then 32 else 0]
def J84:Con:={args:=[Jb6,aEv],ress:=[I],owns:=[],pre:=fun(r,e,_)=>[Jo r,1≤e.2.2.1.length,1≤e.2.2.2.1.length,0≤Jw r.2.2.2.2.2.1 (e.2.2.1.getD 0 Jb)],spec:=fun((tk,st,S,O,M,X,Q),(n,k,ns,vs,tx),_)=>(Jbt X Q ns vs,())}
def Kfk (a:List Out) (b:Ls):=Y0 a (U8 b)
def Juo (a:List Out) (b:Ls):=Jw a (U8 b)
def J34 (a:List Out) (b:Ls):=0≤Jw a (Dh b)
def Kor (a:Ls) (b:List Out):=T2 (Yj a) (Z48 b∧0≤Juo b a)
def Knh (a b:Int) (c:List Sta) (d:List Ord) (e:List Met) (f:List Out) (g:List Per):=J0 a b c d e f g∧List.length (Zo g)≤1000000∧∀(x:Per),x∈Zo g→True
theorem Kt7 [Sx.Dr]:Ok Tryz.prog 164 J84:=okW W68 Tryz.f164 na fun xx=>by
 obtain⟨⟨(tk:Int),(st:Int),(S:List Sta),(O:List Ord),(M:List Met),(X:List Out),(Q:List Per)⟩,⟨(n:Int),(k:ByteArray),(ns:List ByteArray),(vs:List Int),(tx:ByteArray)⟩,_⟩:=xx
 refine(by kernel_rfl:(J0 tk st S O M X Q→Xo ns→Z58 vs→J34 X ns→Kor ns X∧Knh tk st S O M X Q∧T2 (Z25 vs) (T2 (Z25 vs) (3≤1000000))∧Jf [bif decide (Z98 vs≤(Kfk X ns).2.2.1.1) then 21 else 0,bif decide ((Kfk X ns).2.2.1.2≤Z98 vs) then 23 else 0,bif decide (0<Ln (List.filter (fun(x:Per)=>List.beq (ByteArray.toList x.2.1) (ByteArray.toList (Kfk X ns).1)) (Zo Q))) then 32 else 0]=Jbt X Q ns vs)=_).mp ?_
 delta Z25 Z48 Z58 Z67 Z98 U8 Yj Dh Xo J0 Kfk Juo J34 Kor Knh Bd T2 Ln B0
 intro hr h1 h2 h3
 have nX:X.length≤16:=hr.nX
 have nQ:Q.length≤16:=hr.nQ
 have:=Jd9 (Q:=Q)
 refine⟨⟨by omega,by omega,by omega,h3⟩,⟨hr,by omega,fun _ _=>trivial⟩,by omega,rfl⟩
abbrev W69 [Sx.Dr]:=W68.add Kt7
def Jbu (X:List Out) (Q:List Per) (ns:List ByteArray) (vs:List Int):Int:=Jf [bif !Kv (Y0 X (ns.getD 1 Jb)).2.2.1 (vs.getD 0 0) then 22 else 0,bif decide ((16:Int)≤Q.length) then 5 else 0]
def J85:Con:={args:=[Jb6,aEv],ress:=[I],owns:=[],pre:=fun(r,e,_)=>[Jo r,2≤e.2.2.1.length,1≤e.2.2.2.1.length,0≤Jw r.2.2.2.2.2.1 (e.2.2.1.getD 1 Jb)],spec:=fun((tk,st,S,O,M,X,Q),(n,k,ns,vs,tx),_)=>(Jbu X Q ns vs,())}
def J07 (a:Ls):=2≤List.length a
theorem Kt5 [Sx.Dr]:Ok Tryz.prog 166 J85:=okW W69 Tryz.f166 na fun xx=>by
 obtain⟨⟨(tk:Int),(st:Int),(S:List Sta),(O:List Ord),(M:List Met),(X:List Out),(Q:List Per)⟩,⟨(n:Int),(k:ByteArray),(ns:List ByteArray),(vs:List Int),(tx:ByteArray)⟩,_⟩:=xx
 refine(by kernel_rfl:(J0 tk st S O M X Q→J07 ns→Z58 vs→0≤Jw X (Jks ns)→T2 (Jem ns) (Z48 X∧0≤Jw X (Lv ns)∧T2 (Z25 vs) (2≤1000000))∧Jf [bif !Kv (E2 (Y0 X (Lv ns)).2.2.1) (Z98 vs) then 22 else 0,bif decide (16≤Ln Q) then 5 else 0]=Jbu X Q ns vs)=_).mp ?_
 delta Z25 Z48 Z58 Z67 Z98 Lv Jem J07 Jks J0 Bd T2 Ln B0 E2
 intro hr h1 h2 h3
 have nX:X.length≤16:=hr.nX
 repeat' first|assumption|exact rfl|trivial|omega|apply And.intro|intro _
abbrev W70 [Sx.Dr]:=W69.add Kt5
def Jmu (Q:List Per) (ns:List ByteArray):Int:=bif !(Jbd Q (ns.getD 0 Jb)).2.2 then 23 else 0
def Kh1:Con:={args:=[Jb6,aEv],ress:=[I],owns:=[],pre:=fun(r,e,_)=>[Jo r,1≤e.2.2.1.length,0≤Uj r.2.2.2.2.2.2 (e.2.2.1.getD 0 Jb)],spec:=fun((tk,st,S,O,M,X,Q),(n,k,ns,vs,tx),_)=>(Jmu Q ns,())}
def Jtz (a:List Per) (b:Ls):=Uj a (U8 b)
def J35 (a:List Per) (b:Ls):=0≤Uj a (Dh b)
theorem Kt2 [Sx.Dr]:Ok Tryz.prog 169 Kh1:=okW W70 Tryz.f169 na fun xx=>by
 obtain⟨⟨(tk:Int),(st:Int),(S:List Sta),(O:List Ord),(M:List Met),(X:List Out),(Q:List Per)⟩,⟨(n:Int),(k:ByteArray),(ns:List ByteArray),(vs:List Int),(tx:ByteArray)⟩,_⟩:=xx
 refine(by kernel_rfl:(J0 tk st S O M X Q→Xo ns→J35 Q ns→T2 (Yj ns) (Z47 Q∧0≤Jtz Q ns)∧(bif !(Jbd Q (U8 ns)).2.2 then 23 else 0)=Jmu Q ns)=_).mp ?_
 delta Z47 Z67 U8 Yj Dh Xo J0 Jtz J35 Bd T2 Ln B0
 intro hr h1 h3
 have nQ:Q.length≤16:=hr.nQ
 repeat' first|assumption|exact rfl|trivial|omega|apply And.intro|intro _
abbrev W71 [Sx.Dr]:=W70.add Kt2
def De (st:Int) (O:List Ord) (M:List Met) (X:List Out) (Q:List Per) (vs:List Int):Int:=bif (bif decide (vs.getD 1 0≤st) then true else decide (vs.getD 0 0<vs.getD 1 0)) then 14 else bif (bif decide ((0:Int)<(K4 M (vs.getD 1 0) O).length) then true else decide ((0:Int)<((Zo Q).filter fun p=>decide ((Y0 X p.2.1).2.2.1.2≤vs.getD 1 0)).length)) then 32 else 0
def J83:Con:={args:=[Jb6,aEv],ress:=[I],owns:=[],pre:=fun(r,e,_)=>[Jo r,2≤e.2.2.2.1.length],spec:=fun((tk,st,S,O,M,X,Q),(n,k,ns,vs,tx),_)=>(De st O M X Q vs,())}
def Klc (a:Li) (b:Int):=decide (Zx a≤b)
def Kpo (a:Li) (b:Int):=Tw (Klc a b=false→Z25 a)
def Kn4 (a:Li) (b:Int):=bif Klc a b then true else decide (Z98 a<Zx a)
theorem Kt0 [Sx.Dr]:Ok Tryz.prog 171 J83:=okW W71 Tryz.f171 na fun xx=>by
 obtain⟨⟨(tk:Int),(st:Int),(S:List Sta),(O:List Ord),(M:List Met),(X:List Out),(Q:List Per)⟩,⟨(n:Int),(k:ByteArray),(ns:List ByteArray),(vs:List Int),(tx:ByteArray)⟩,_⟩:=xx
 refine(by kernel_rfl:(J0 tk st S O M X Q→Z45 vs→Z96 vs∧Kpo vs st∧Br (Kn4 vs st) (14=De st O M X Q vs) ((J0 tk st S O M X Q∧List.length (Zo Q)≤1000000∧∀(x:Per),x∈Zo Q→J0 tk st S O M X Q∧0≤Jw X x.2.1)∧J0 tk st S O M X Q∧(bif bif decide (0<Ln (K4 M (Zx vs) O)) then true else decide (0<Ln (List.filter (fun(x:Per)=>decide ((Y0 X x.2.1).2.2.1.2≤Zx vs)) (Zo Q))) then 32 else 0)=De st O M X Q vs))=_).mp ?_
 delta Z25 Z33 Z45 Z67 Z96 Z98 Zx J0 Klc Kpo Kn4 Br Bd Tw Ln
 intro hr h1
 have nQ:Q.length≤16:=hr.nQ
 have:=Jd9 (Q:=Q)
 refine⟨by omega,⟨fun _=>by omega,fun _=>by omega⟩,fun h=> ?_,fun h=>⟨⟨hr,by omega,fun x hx=>⟨hr,hr.per x (Jl0 hx)⟩⟩,hr, ?_⟩⟩
 ·unfold De;rw[h];rfl
 ·unfold De;rw[h];rfl
abbrev W72 [Sx.Dr]:=W71.add Kt0
abbrev J0m (pre:Reg→Ev→List Prop) (post:Reg→Ev→Reg):Zh:={T? :=some 105,s:=Jkx,args:=[aEv],ress:=[],pre:=fun r (e,_)=>pre r e,spec:=fun _ _=>(),post:=fun r (e,_)=>post r e}
def Vq (O:List Ord) (s:ByteArray) (v:Int):List Ord:=O.set (Kg O s).toNat ((Vy O s).1,(Vy O s).2.1,(Vy O s).2.2.1,(Vy O s).2.2.2.1,(Vy O s).2.2.2.2.1,(Vy O s).2.2.2.2.2.1,v)
def Lc (X:List Out) (s:ByteArray) (v:Int):List Out:=X.set (Jw X s).toNat ((Y0 X s).1,(Y0 X s).2.1,((Y0 X s).2.2.1.1,v),(Y0 X s).2.2.2)
def Yy (Q:List Per) (s:ByteArray):List Per:=Q.set (Uj Q s).toNat ((Jbd Q s).1,(Jbd Q s).2.1,false)
def Jbo:Reg→Ev→Reg:=fun(tk,st,S,O,M,X,Q) (n,k,ns,vs,tx)=>(tk,st,S++[(ns.getD 0 Jb,vs.getD 1 0,0)],O,M,X,Q)
def Jya:Zh:=J0m (fun r e=>[Jo r,1≤e.2.2.1.length,2≤e.2.2.2.1.length]) Jbo
def Kpp (a:List Sta) (b:Ls) (c:Li):=a++[(U8 b,Zx c,0)]
def Kou (a:Ls) (b:Li) (c:List Sta):=T2 (Yj a) (T2 (Z33 b) ((List.length c+1)*32≤140737488355328))
theorem Kry [Sx.Dr] (tk st:Int) (S:List Sta) (O:List Ord) (M:List Met) (X:List Out) (Q:List Per) (n:Int) (k:ByteArray) (ns:List ByteArray) (vs:List Int) (tx:ByteArray):wpFO Tryz.prog W72.g (na ()) (fun _=>na ()) (Sx.look ([]:List (Nat×Func))) Tryz.f149 Jya 105 (tk,st,S,O,M,X,Q) ((n,k,ns,vs,tx),()):=by
 refine(by kernel_rfl:(J0 tk st S O M X Q→Xo ns→Z45 vs→Kou ns vs S∧Sf true (Sf 105 ((tk,st,Kpp S ns vs,O,M,X,Q)=Jbo (Z67 tk st S O M X Q) (n,k,ns,vs,tx))))=_).mp ?_
 delta Z33 Z45 Z67 Zx U8 Yj Xo J0 Kpp Kou Bd T2 Sf Ln B0
 intro hr
 have nS:S.length≤6:=hr.nS
 have nO:O.length≤32:=hr.nO
 have nM:M.length≤10000:=hr.nM
 have nX:X.length≤16:=hr.nX
 have nQ:Q.length≤16:=hr.nQ
 intros
 repeat' first|assumption|exact rfl|trivial|omega|exact Uh|exact Uy|exact Up|exact Ux|apply And.intro|intro _
theorem Kum [Sx.Dr]:Ok Tryz.prog 149 (Zh.con Jya):=Zk (Uk mixed W72.ok (by kernel_rfl) (by kernel_rfl) (U0 (l:=([]:List (Nat×Func))) (by simp)) (fun xx yy=>na ()) (fun xx yy=>fun _=>na ()) fun T xx yy hT=>by obtain rfl:=hT _ rfl;exact Kry xx.1 xx.2.1 xx.2.2.1 xx.2.2.2.1 xx.2.2.2.2.1 xx.2.2.2.2.2.1 xx.2.2.2.2.2.2 yy.1.1 yy.1.2.1 yy.1.2.2.1 yy.1.2.2.2.1 yy.1.2.2.2.2)
abbrev W73 [Sx.Dr]:=W72.add Kum
def Jac:Reg→Ev→Reg:=fun(tk,st,S,O,M,X,Q) (n,k,ns,vs,tx)=>(tk,st,S.set (J1 S (ns.getD 0 Jb)).toNat ((Hu S (ns.getD 0 Jb)).1,(Hu S (ns.getD 0 Jb)).2.1,vs.getD 1 0),O,M,X,Q)
def Jx7:Zh:=J0m (fun r e=>[Jo r,1≤e.2.2.1.length,2≤e.2.2.2.1.length,0≤J1 r.2.2.1 (e.2.2.1.getD 0 Jb)]) Jac
def J6r (a:List Sta) (b:Ls):=J1 a (U8 b)
def K5v (a:List Sta) (b:Ls):=Gt a (J6r a b) Z7
theorem Krx [Sx.Dr] (tk st:Int) (S:List Sta) (O:List Ord) (M:List Met) (X:List Out) (Q:List Per) (n:Int) (k:ByteArray) (ns:List ByteArray) (vs:List Int) (tx:ByteArray):wpFO Tryz.prog W73.g (na ()) (fun _=>na ()) (Sx.look ([]:List (Nat×Func))) Tryz.f153 Jx7 105 (tk,st,S,O,M,X,Q) ((n,k,ns,vs,tx),()):=by
 refine(by kernel_rfl:(J0 tk st S O M X Q→Xo ns→Z45 vs→0≤J1 S (Dh ns)→T2 (Yj ns) (Z44 S∧T2 (Z33 vs) (Tw (Bd (J6r S ns) (Ln S))))∧Sf true (Sf 105 ((tk,st,List.set S (Int.toNat (J6r S ns)) ((K5v S ns).1,(K5v S ns).2.1,Zx vs),O,M,X,Q)=Jac (Z67 tk st S O M X Q) (n,k,ns,vs,tx))))=_).mp ?_
 delta Z7 Z33 Z44 Z45 Z67 Zx U8 Yj Dh Xo J0 J6r K5v Bd T2 Tw Sf Ln Gt B0
 intro hr
 have nS:S.length≤6:=hr.nS
 have nO:O.length≤32:=hr.nO
 have nM:M.length≤10000:=hr.nM
 have nX:X.length≤16:=hr.nX
 have nQ:Q.length≤16:=hr.nQ
 intros
 repeat' first|assumption|exact rfl|trivial|omega|exact Uh|exact Uy|exact Up|exact Ux|apply And.intro|intro _
theorem Kui [Sx.Dr]:Ok Tryz.prog 153 (Zh.con Jx7):=Zk (Uk mixed W73.ok (by kernel_rfl) (by kernel_rfl) (U0 (l:=([]:List (Nat×Func))) (by simp)) (fun xx yy=>na ()) (fun xx yy=>fun _=>na ()) fun T xx yy hT=>by obtain rfl:=hT _ rfl;exact Krx xx.1 xx.2.1 xx.2.2.1 xx.2.2.2.1 xx.2.2.2.2.1 xx.2.2.2.2.2.1 xx.2.2.2.2.2.2 yy.1.1 yy.1.2.1 yy.1.2.2.1 yy.1.2.2.2.1 yy.1.2.2.2.2)
abbrev W74 [Sx.Dr]:=W73.add Kui
def Jag:Reg→Ev→Reg:=fun(tk,st,S,O,M,X,Q) (n,k,ns,vs,tx)=>(tk,st,S,O++[(ns.getD 0 Jb,ns.getD 1 Jb,ns.getD 2 Jb,Vp (n,k,ns,vs,tx),vs.getD 3 0,(Hu S (ns.getD 1 Jb)).2.2,-1)],M,X,Q)
def Jyc:Zh:=J0m (fun r e=>[Jo r,e.2.2.1.length=3,e.2.2.2.1.length=4,0≤J1 r.2.2.1 (e.2.2.1.getD 1 Jb)]) Jag
theorem Krw [Sx.Dr] (tk st:Int) (S:List Sta) (O:List Ord) (M:List Met) (X:List Out) (Q:List Per) (n:Int) (k:ByteArray) (ns:List ByteArray) (vs:List Int) (tx:ByteArray):wpFO Tryz.prog W74.g (na ()) (fun _=>na ()) (Sx.look ([]:List (Nat×Func))) Tryz.f155 Jyc 105 (tk,st,S,O,M,X,Q) ((n,k,ns,vs,tx),()):=by
 refine(by kernel_rfl:(J0 tk st S O M X Q→Juq ns→Z64 vs→Ke4 S ns→T2 (Yj ns) (T2 (Jem ns) (T2 (J6v ns) (Z59 vs∧T2 (Z26 vs) (T2 (Jem ns) (Z44 S∧J6c S ns∧(List.length O+1)*88≤140737488355328)))))∧Sf true (Sf 105 ((tk,st,S,O++[(U8 ns,Lv ns,Jpl ns,E2 (Z52 n k ns vs tx),Z97 vs,(Hu S (Lv ns)).2.2,Z71)],M,X,Q)=Jag (Z67 tk st S O M X Q) (n,k,ns,vs,tx))))=_).mp ?_
 delta Z26 Z44 Z52 Z59 Z64 Z67 Z71 Z97 Lv J6v Jpl U8 Jem Yj Juq Jks J0 J04 J6c Ke4 Bd T2 Sf Ln B0 E2
 intro hr
 have nS:S.length≤6:=hr.nS
 have nO:O.length≤32:=hr.nO
 have nM:M.length≤10000:=hr.nM
 have nX:X.length≤16:=hr.nX
 have nQ:Q.length≤16:=hr.nQ
 intros
 repeat' first|assumption|exact rfl|trivial|omega|exact Uh|exact Uy|exact Up|exact Ux|apply And.intro|intro _
theorem Kug [Sx.Dr]:Ok Tryz.prog 155 (Zh.con Jyc):=Zk (Uk mixed W74.ok (by kernel_rfl) (by kernel_rfl) (U0 (l:=([]:List (Nat×Func))) (by simp)) (fun xx yy=>na ()) (fun xx yy=>fun _=>na ()) fun T xx yy hT=>by obtain rfl:=hT _ rfl;exact Krw xx.1 xx.2.1 xx.2.2.1 xx.2.2.2.1 xx.2.2.2.2.1 xx.2.2.2.2.2.1 xx.2.2.2.2.2.2 yy.1.1 yy.1.2.1 yy.1.2.2.1 yy.1.2.2.2.1 yy.1.2.2.2.2)
abbrev W75 [Sx.Dr]:=W74.add Kug
def Jah:Reg→Ev→Reg:=fun(tk,st,S,O,M,X,Q) (n,k,ns,vs,tx)=>(tk,st,S,O,M++[(ns.getD 0 Jb,vs.getD 1 0,vs.getD 2 0,vs.getD 3 0)],X,Q)
def Jyd:Zh:=J0m (fun r e=>[Jo r,1≤e.2.2.1.length,4≤e.2.2.2.1.length]) Jah
def Kpe (a:Li):=(Zx a,Jm6 a,Z97 a)
def Knr (a:Li) (b:List Met):=T2 (Z33 a) (T2 (Z31 a) (T2 (Z26 a) ((List.length b+1)*40≤140737488355328)))
theorem Krv [Sx.Dr] (tk st:Int) (S:List Sta) (O:List Ord) (M:List Met) (X:List Out) (Q:List Per) (n:Int) (k:ByteArray) (ns:List ByteArray) (vs:List Int) (tx:ByteArray):wpFO Tryz.prog W75.g (na ()) (fun _=>na ()) (Sx.look ([]:List (Nat×Func))) Tryz.f158 Jyd 105 (tk,st,S,O,M,X,Q) ((n,k,ns,vs,tx),()):=by
 refine(by kernel_rfl:(J0 tk st S O M X Q→Xo ns→Z56 vs→T2 (Yj ns) (Knr vs M)∧Sf true (Sf 105 ((tk,st,S,O,M++[(U8 ns,Kpe vs)],X,Q)=Jah (Z67 tk st S O M X Q) (n,k,ns,vs,tx))))=_).mp ?_
 delta Z26 Z31 Z33 Z56 Z67 Z97 Zx Jm6 U8 Yj Xo J0 Kpe Knr Bd T2 Sf Ln B0
 intro hr
 have nS:S.length≤6:=hr.nS
 have nO:O.length≤32:=hr.nO
 have nM:M.length≤10000:=hr.nM
 have nX:X.length≤16:=hr.nX
 have nQ:Q.length≤16:=hr.nQ
 intros
 repeat' first|assumption|exact rfl|trivial|omega|exact Uh|exact Uy|exact Up|exact Ux|apply And.intro|intro _
theorem Kud [Sx.Dr]:Ok Tryz.prog 158 (Zh.con Jyd):=Zk (Uk mixed W75.ok (by kernel_rfl) (by kernel_rfl) (U0 (l:=([]:List (Nat×Func))) (by simp)) (fun xx yy=>na ()) (fun xx yy=>fun _=>na ()) fun T xx yy hT=>by obtain rfl:=hT _ rfl;exact Krv xx.1 xx.2.1 xx.2.2.1 xx.2.2.2.1 xx.2.2.2.2.1 xx.2.2.2.2.2.1 xx.2.2.2.2.2.2 yy.1.1 yy.1.2.1 yy.1.2.2.1 yy.1.2.2.2.1 yy.1.2.2.2.2)
abbrev W76 [Sx.Dr]:=W75.add Kud
def Jab:Reg→Ev→Reg:=fun(tk,st,S,O,M,X,Q) (n,k,ns,vs,tx)=>(tk,st,S,Vq O (ns.getD 0 Jb) (vs.getD 0 0),M,X,Q)
def Jx5:Zh:=J0m (fun r e=>[Jo r,1≤e.2.2.1.length,1≤e.2.2.2.1.length,0≤Kg r.2.2.2.1 (e.2.2.1.getD 0 Jb)]) Jab
def K2l (a:List Ord) (b:Ls):=Gt a (Jrz a b) Jdo
def K17 (a:List Ord) (b:Ls):=(K2l a b).2
def K16 (a:List Ord) (b:Ls):=(K17 a b).2
def K12 (a:List Ord) (b:Ls):=(K16 a b).2
def K1y (a:List Ord) (b:Ls):=(K12 a b).2
theorem Kru [Sx.Dr] (tk st:Int) (S:List Sta) (O:List Ord) (M:List Met) (X:List Out) (Q:List Per) (n:Int) (k:ByteArray) (ns:List ByteArray) (vs:List Int) (tx:ByteArray):wpFO Tryz.prog W76.g (na ()) (fun _=>na ()) (Sx.look ([]:List (Nat×Func))) Tryz.f160 Jx5 105 (tk,st,S,O,M,X,Q) ((n,k,ns,vs,tx),()):=by
 refine(by kernel_rfl:(J0 tk st S O M X Q→Xo ns→Z58 vs→Jul O ns→T2 (Yj ns) (Z50 O∧T2 (Z25 vs) (Tw (Bd (Jrz O ns) (Ln O))))∧Sf true (Sf 105 ((tk,st,S,List.set O (Int.toNat (Jrz O ns)) ((K2l O ns).1,(K17 O ns).1,(K16 O ns).1,E2 (K12 O ns).1,(K1y O ns).1,(K1y O ns).2.1,Z98 vs),M,X,Q)=Jab (Z67 tk st S O M X Q) (n,k,ns,vs,tx))))=_).mp ?_
 delta Z25 Z50 Z58 Z67 Z75 Z98 U8 Yj Dh Xo J0 Jrz Jul Jdo K2l K17 K16 K12 K1y Bd T2 Tw Sf Ln Gt B0 E2
 intro hr
 have nS:S.length≤6:=hr.nS
 have nO:O.length≤32:=hr.nO
 have nM:M.length≤10000:=hr.nM
 have nX:X.length≤16:=hr.nX
 have nQ:Q.length≤16:=hr.nQ
 intros
 repeat' first|assumption|exact rfl|trivial|omega|exact Uh|exact Uy|exact Up|exact Ux|apply And.intro|intro _
theorem Kub [Sx.Dr]:Ok Tryz.prog 160 (Zh.con Jx5):=Zk (Uk mixed W76.ok (by kernel_rfl) (by kernel_rfl) (U0 (l:=([]:List (Nat×Func))) (by simp)) (fun xx yy=>na ()) (fun xx yy=>fun _=>na ()) fun T xx yy hT=>by obtain rfl:=hT _ rfl;exact Kru xx.1 xx.2.1 xx.2.2.1 xx.2.2.2.1 xx.2.2.2.2.1 xx.2.2.2.2.2.1 xx.2.2.2.2.2.2 yy.1.1 yy.1.2.1 yy.1.2.2.1 yy.1.2.2.2.1 yy.1.2.2.2.2)
abbrev W77 [Sx.Dr]:=W76.add Kub
def Jae:Reg→Ev→Reg:=fun(tk,st,S,O,M,X,Q) (n,k,ns,vs,tx)=>(tk,st,S,O,M,X++[(ns.getD 0 Jb,ns.getD 1 Jb,Vp (n,k,ns,vs,tx),vs.getD 3 0)],Q)
def Jx9:Zh:=J0m (fun r e=>[Jo r,e.2.2.1.length=2,e.2.2.2.1.length=4]) Jae
def Kp8 (a:Li) (b:List Out):=T2 (Z26 a) ((List.length b+1)*56≤140737488355328)
theorem Krt [Sx.Dr] (tk st:Int) (S:List Sta) (O:List Ord) (M:List Met) (X:List Out) (Q:List Per) (n:Int) (k:ByteArray) (ns:List ByteArray) (vs:List Int) (tx:ByteArray):wpFO Tryz.prog W77.g (na ()) (fun _=>na ()) (Sx.look ([]:List (Nat×Func))) Tryz.f162 Jx9 105 (tk,st,S,O,M,X,Q) ((n,k,ns,vs,tx),()):=by
 refine(by kernel_rfl:(J0 tk st S O M X Q→Jr5 ns→Z64 vs→T2 (Yj ns) (T2 (Jem ns) (Z59 vs∧Kp8 vs X))∧Sf true (Sf 105 ((tk,st,S,O,M,X++[(U8 ns,Lv ns,E2 (Z52 n k ns vs tx),Z97 vs)],Q)=Jae (Z67 tk st S O M X Q) (n,k,ns,vs,tx))))=_).mp ?_
 delta Z26 Z52 Z59 Z64 Z67 Z97 Lv U8 Jem Yj Jr5 J0 Kp8 Bd T2 Sf Ln B0 E2
 intro hr
 have nS:S.length≤6:=hr.nS
 have nO:O.length≤32:=hr.nO
 have nM:M.length≤10000:=hr.nM
 have nX:X.length≤16:=hr.nX
 have nQ:Q.length≤16:=hr.nQ
 intros
 repeat' first|assumption|exact rfl|trivial|omega|exact Uh|exact Uy|exact Up|exact Ux|apply And.intro|intro _
theorem Kt9 [Sx.Dr]:Ok Tryz.prog 162 (Zh.con Jx9):=Zk (Uk mixed W77.ok (by kernel_rfl) (by kernel_rfl) (U0 (l:=([]:List (Nat×Func))) (by simp)) (fun xx yy=>na ()) (fun xx yy=>fun _=>na ()) fun T xx yy hT=>by obtain rfl:=hT _ rfl;exact Krt xx.1 xx.2.1 xx.2.2.1 xx.2.2.2.1 xx.2.2.2.2.1 xx.2.2.2.2.2.1 xx.2.2.2.2.2.2 yy.1.1 yy.1.2.1 yy.1.2.2.1 yy.1.2.2.2.1 yy.1.2.2.2.2)
abbrev W78 [Sx.Dr]:=W77.add Kt9
def Jad:Reg→Ev→Reg:=fun(tk,st,S,O,M,X,Q) (n,k,ns,vs,tx)=>(tk,st,S,O,M,Lc X (ns.getD 0 Jb) (vs.getD 0 0),Q)
def Jx8:Zh:=J0m (fun r e=>[Jo r,1≤e.2.2.1.length,1≤e.2.2.2.1.length,0≤Jw r.2.2.2.2.2.1 (e.2.2.1.getD 0 Jb)]) Jad
def K4z (a:List Out) (b:Ls):=Gt a (Juo a b) Jc1
def K4x (a:List Out) (b:Ls):=(K4z a b).2
def K4v (a:List Out) (b:Ls):=(K4x a b).2
theorem Krs [Sx.Dr] (tk st:Int) (S:List Sta) (O:List Ord) (M:List Met) (X:List Out) (Q:List Per) (n:Int) (k:ByteArray) (ns:List ByteArray) (vs:List Int) (tx:ByteArray):wpFO Tryz.prog W78.g (na ()) (fun _=>na ()) (Sx.look ([]:List (Nat×Func))) Tryz.f165 Jx8 105 (tk,st,S,O,M,X,Q) ((n,k,ns,vs,tx),()):=by
 refine(by kernel_rfl:(J0 tk st S O M X Q→Xo ns→Z58 vs→J34 X ns→T2 (Yj ns) (Z48 X∧T2 (Z25 vs) (Tw (Bd (Juo X ns) (Ln X))))∧Sf true (Sf 105 ((tk,st,S,O,M,List.set X (Int.toNat (Juo X ns)) ((K4z X ns).1,(K4x X ns).1,((K4v X ns).1.1,Z98 vs),(K4v X ns).2),Q)=Jad (Z67 tk st S O M X Q) (n,k,ns,vs,tx))))=_).mp ?_
 delta Z25 Z48 Z58 Z67 Z98 U8 Yj Dh Xo J0 Jc1 Juo J34 K4z K4x K4v Bd T2 Tw Sf Ln Gt B0
 intro hr
 have nS:S.length≤6:=hr.nS
 have nO:O.length≤32:=hr.nO
 have nM:M.length≤10000:=hr.nM
 have nX:X.length≤16:=hr.nX
 have nQ:Q.length≤16:=hr.nQ
 intros
 repeat' first|assumption|exact rfl|trivial|omega|exact Uh|exact Uy|exact Up|exact Ux|apply And.intro|intro _
theorem Kt6 [Sx.Dr]:Ok Tryz.prog 165 (Zh.con Jx8):=Zk (Uk mixed W78.ok (by kernel_rfl) (by kernel_rfl) (U0 (l:=([]:List (Nat×Func))) (by simp)) (fun xx yy=>na ()) (fun xx yy=>fun _=>na ()) fun T xx yy hT=>by obtain rfl:=hT _ rfl;exact Krs xx.1 xx.2.1 xx.2.2.1 xx.2.2.2.1 xx.2.2.2.2.1 xx.2.2.2.2.2.1 xx.2.2.2.2.2.2 yy.1.1 yy.1.2.1 yy.1.2.2.1 yy.1.2.2.2.1 yy.1.2.2.2.2)
abbrev W79 [Sx.Dr]:=W78.add Kt6
def Jaf:Reg→Ev→Reg:=fun(tk,st,S,O,M,X,Q) (n,k,ns,vs,tx)=>(tk,st,S,O,M,X,Q++[(ns.getD 0 Jb,ns.getD 1 Jb,true)])
def Jyb:Zh:=J0m (fun r e=>[Jo r,2≤e.2.2.1.length]) Jaf
def Kpm (a:List Out) (b:List Per) (c:Ls):=(a,b++[(U8 c,Lv c,true)])
def Koi (a:Ls) (b:List Per):=T2 (Yj a) (T2 (Jem a) ((List.length b+1)*40≤140737488355328))
theorem Krr [Sx.Dr] (tk st:Int) (S:List Sta) (O:List Ord) (M:List Met) (X:List Out) (Q:List Per) (n:Int) (k:ByteArray) (ns:List ByteArray) (vs:List Int) (tx:ByteArray):wpFO Tryz.prog W79.g (na ()) (fun _=>na ()) (Sx.look ([]:List (Nat×Func))) Tryz.f167 Jyb 105 (tk,st,S,O,M,X,Q) ((n,k,ns,vs,tx),()):=by
 refine(by kernel_rfl:(J0 tk st S O M X Q→J07 ns→Koi ns Q∧Sf true (Sf 105 ((tk,st,S,O,M,Kpm X Q ns)=Jaf (Z67 tk st S O M X Q) (n,k,ns,vs,tx))))=_).mp ?_
 delta Z67 Lv U8 Jem Yj J07 J0 Kpm Koi Bd T2 Sf Ln B0
 intro hr
 have nS:S.length≤6:=hr.nS
 have nO:O.length≤32:=hr.nO
 have nM:M.length≤10000:=hr.nM
 have nX:X.length≤16:=hr.nX
 have nQ:Q.length≤16:=hr.nQ
 intros
 repeat' first|assumption|exact rfl|trivial|omega|exact Uh|exact Uy|exact Up|exact Ux|apply And.intro|intro _
theorem Kt4 [Sx.Dr]:Ok Tryz.prog 167 (Zh.con Jyb):=Zk (Uk mixed W79.ok (by kernel_rfl) (by kernel_rfl) (U0 (l:=([]:List (Nat×Func))) (by simp)) (fun xx yy=>na ()) (fun xx yy=>fun _=>na ()) fun T xx yy hT=>by obtain rfl:=hT _ rfl;exact Krr xx.1 xx.2.1 xx.2.2.1 xx.2.2.2.1 xx.2.2.2.2.1 xx.2.2.2.2.2.1 xx.2.2.2.2.2.2 yy.1.1 yy.1.2.1 yy.1.2.2.1 yy.1.2.2.2.1 yy.1.2.2.2.2)
abbrev W80 [Sx.Dr]:=W79.add Kt4
def Jhc:Reg→Ev→Reg:=fun(tk,st,S,O,M,X,Q) (n,k,ns,vs,tx)=>(tk,st,S,O,M,X,Yy Q (ns.getD 0 Jb))
def J5u:Zh:=J0m (fun r e=>[Jo r,1≤e.2.2.1.length,0≤Uj r.2.2.2.2.2.2 (e.2.2.1.getD 0 Jb)]) Jhc
theorem Krq [Sx.Dr] (tk st:Int) (S:List Sta) (O:List Ord) (M:List Met) (X:List Out) (Q:List Per) (n:Int) (k:ByteArray) (ns:List ByteArray) (vs:List Int) (tx:ByteArray):wpFO Tryz.prog W80.g (na ()) (fun _=>na ()) (Sx.look ([]:List (Nat×Func))) Tryz.f170 J5u 105 (tk,st,S,O,M,X,Q) ((n,k,ns,vs,tx),()):=by
 refine(by kernel_rfl:(J0 tk st S O M X Q→Xo ns→J35 Q ns→T2 (Yj ns) (Z47 Q∧Tw (Bd (Jtz Q ns) (Ln Q)))∧Sf true (Sf 105 ((tk,st,S,O,M,X,List.set Q (Int.toNat (Jtz Q ns)) ((Gt Q (Jtz Q ns) (B0,B0,false)).1,(Gt Q (Jtz Q ns) (B0,B0,false)).2.1,false))=Jhc (Z67 tk st S O M X Q) (n,k,ns,vs,tx))))=_).mp ?_
 delta Z47 Z67 U8 Yj Dh Xo J0 Jtz J35 Bd T2 Tw Sf Ln Gt B0
 intro hr
 have nS:S.length≤6:=hr.nS
 have nO:O.length≤32:=hr.nO
 have nM:M.length≤10000:=hr.nM
 have nX:X.length≤16:=hr.nX
 have nQ:Q.length≤16:=hr.nQ
 intros
 repeat' first|assumption|exact rfl|trivial|omega|exact Uh|exact Uy|exact Up|exact Ux|apply And.intro|intro _
theorem Kt1 [Sx.Dr]:Ok Tryz.prog 170 (Zh.con J5u):=Zk (Uk mixed W80.ok (by kernel_rfl) (by kernel_rfl) (U0 (l:=([]:List (Nat×Func))) (by simp)) (fun xx yy=>na ()) (fun xx yy=>fun _=>na ()) fun T xx yy hT=>by obtain rfl:=hT _ rfl;exact Krq xx.1 xx.2.1 xx.2.2.1 xx.2.2.2.1 xx.2.2.2.2.1 xx.2.2.2.2.2.1 xx.2.2.2.2.2.2 yy.1.1 yy.1.2.1 yy.1.2.2.1 yy.1.2.2.2.1 yy.1.2.2.2.2)
abbrev W81 [Sx.Dr]:=W80.add Kt1
def Jbn:Reg→Ev→Reg:=fun(tk,st,S,O,M,X,Q) (n,k,ns,vs,tx)=>(tk,vs.getD 1 0,S,O,M,X,Q)
def Jx6:Zh:=J0m (fun r e=>[Jo r,2≤e.2.2.2.1.length]) Jbn
theorem Krp [Sx.Dr] (tk st:Int) (S:List Sta) (O:List Ord) (M:List Met) (X:List Out) (Q:List Per) (n:Int) (k:ByteArray) (ns:List ByteArray) (vs:List Int) (tx:ByteArray):wpFO Tryz.prog W81.g (na ()) (fun _=>na ()) (Sx.look ([]:List (Nat×Func))) Tryz.f172 Jx6 105 (tk,st,S,O,M,X,Q) ((n,k,ns,vs,tx),()):=by
 refine(by kernel_rfl:(J0 tk st S O M X Q→Z45 vs→Z96 vs∧Sf true (Sf 105 ((tk,Zx vs,S,O,M,X,Q)=Jbn (Z67 tk st S O M X Q) (n,k,ns,vs,tx))))=_).mp ?_
 delta Z33 Z45 Z67 Z96 Zx J0 Bd Tw Sf Ln
 intro hr
 have nS:S.length≤6:=hr.nS
 have nO:O.length≤32:=hr.nO
 have nM:M.length≤10000:=hr.nM
 have nX:X.length≤16:=hr.nX
 have nQ:Q.length≤16:=hr.nQ
 intros
 repeat' first|assumption|exact rfl|trivial|omega|exact Uh|exact Uy|exact Up|exact Ux|apply And.intro|intro _
theorem Ktz [Sx.Dr]:Ok Tryz.prog 172 (Zh.con Jx6):=Zk (Uk mixed W81.ok (by kernel_rfl) (by kernel_rfl) (U0 (l:=([]:List (Nat×Func))) (by simp)) (fun xx yy=>na ()) (fun xx yy=>fun _=>na ()) fun T xx yy hT=>by obtain rfl:=hT _ rfl;exact Krp xx.1 xx.2.1 xx.2.2.1 xx.2.2.2.1 xx.2.2.2.2.1 xx.2.2.2.2.2.1 xx.2.2.2.2.2.2 yy.1.1 yy.1.2.1 yy.1.2.2.1 yy.1.2.2.2.1 yy.1.2.2.2.2)
abbrev W82 [Sx.Dr]:=W81.add Ktz
end Go.Proofs.YtcibbcfiemeoiaaGreatDoor
namespace Go.Proofs.YtcibbcfiemeoiaaGreatDoor
instance drOff:Sx.Dr:=Sx.Dr.off
open Go.Sx
def Jdj (T:TypeId) (s:Sch):Con:={args:=[.val false (.list T s)],ress:=[(false, .list T s)],owns:=[true],pre:=fun(l,_)=>[l.length≤1000000],spec:=fun(l,_)=>(l,())}
theorem Jls {M:Nat→Prop} {w:World}:∀{xs:List Int} {flat:List Value},Y6 (Rep M w (.int .i64)) xs flat→flat=xs.map (Value.int .i64)
 |[],_,h=>h
 |x::xs,_,⟨c1,c2,rfl,h1,h2⟩=>by
  have h1:c1=[.int .i64 x]:=h1
  rw[h1,Jls h2];rfl
theorem Jp7 {M:Nat→Prop} {w:World}:∀(xs:List Int),Y6 (Rep M w (.int .i64)) xs (xs.map (Value.int .i64))
 |[]=>rfl
 |x::xs=>⟨[.int .i64 x],xs.map (Value.int .i64),rfl,rfl,Jp7 xs⟩
theorem Je1 {M:Nat→Prop} {w:World}:∀{xs:List ByteArray} {flat:List Value},Y6 (Rep M w .str) xs flat→flat=xs.map Value.string
 |[],_,h=>h
 |x::xs,_,⟨c1,c2,rfl,h1,h2⟩=>by
  have h1:c1=[.string x]:=h1
  rw[h1,Je1 h2];rfl
theorem Jp6 {M:Nat→Prop} {w:World}:∀(xs:List ByteArray),Y6 (Rep M w .str) xs (xs.map Value.string)
 |[]=>rfl
 |x::xs=>⟨[.string x],xs.map Value.string,rfl,rfl,Jp6 xs⟩
theorem Ktx:Ok Tryz.prog 174 (Jdj 3 sI):=by
 refine⟨⟨Tryz.f174,by kernel_rfl,by kernel_rfl,by kernel_rfl⟩,fun z hz=>(by cases hz),fun F hF=>(by cases hF),fun _ x M R w vs hM hg hpre hargs=> ?_⟩
 obtain⟨l,u⟩:=x
 obtain⟨v1,vs1,rfl,⟨cs,rfl,hr⟩,hn⟩:=hargs
 have hn:vs1=[]:=hn
 subst hn
 obtain⟨v,flat,rfl,h1,h2⟩:=hr
 have hfl:=Jls h1
 have hl:l.length≤1000000:=hpre
 have fin:∀(v':Value) (w':World),w'.ownsRow w.heap.size 3 1 v' l.length (l.map (Value.int .i64))→RowKit.Below w.heap.size w w'→Jpo M w (Jdj 3 sI).ress (Jdj 3 sI).owns ((Jdj 3 sI).spec (l,u)) (.returned v') w':=by
  intro v' w' ho hb
  refine⟨M,[v'],rfl, .ofK hb,fun _ h=>h,fun b h=> .inl h,_,[],rfl,⟨l.map (Value.int .i64),Jp7 l,ho,fun g hg' hMg=> ?_⟩,rfl⟩
  rcases ho.2 with⟨rfl,_⟩|⟨g',cap,cur,rfl,hbg,_⟩
  ·cases hg'
  ·have:g'=g:=Option.some.inj hg'
   have:=hM g (.inl hMg)
   omega
 rcases h2 with⟨rfl|⟨ad,cap,rfl⟩,h0⟩|⟨b,off,cap,rfl,hcap,hk,hm⟩
 ·have:l=[]:=List.eq_nil_of_length_eq_zero h0
  subst this
  refine(Tryz.clone174_nil 0 0 w).mono ?_
  rintro e w' ⟨rfl,rfl⟩
  exact fin _ _ ⟨rfl, .inl ⟨rfl,rfl⟩⟩ (RowKit.Below.refl _ _)
 ·have:l=[]:=List.eq_nil_of_length_eq_zero h0
  subst this
  refine(Tryz.clone174_zero ad cap w).mono ?_
  rintro e w' ⟨v',rfl,ho,_,hb⟩
  exact fin _ _ ho hb
 ·refine(Tryz.clone174 b off l.length cap l w (Nat.le_refl _) (by omega) (fun j hj=>hk j _ (by rw[hfl,List.getElem?_map,List.getElem?_eq_getElem hj];simp[List.getD_eq_getElem?_getD,List.getElem?_eq_getElem hj]))).mono ?_
  rintro e w' ⟨v',rfl,ho,_,hb⟩
  rw[List.take_of_length_le (Nat.le_refl _)] at ho
  exact fin _ _ ho hb
abbrev W83:=W82.add Ktx
theorem Kty:Ok Tryz.prog 173 (Jdj 9 .str):=by
 refine⟨⟨Tryz.f173,by kernel_rfl,by kernel_rfl,by kernel_rfl⟩,fun z hz=>(by cases hz),fun F hF=>(by cases hF),fun _ x M R w vs hM hg hpre hargs=> ?_⟩
 obtain⟨l,u⟩:=x
 obtain⟨v1,vs1,rfl,⟨cs,rfl,hr⟩,hn⟩:=hargs
 have hn:vs1=[]:=hn
 subst hn
 obtain⟨v,flat,rfl,h1,h2⟩:=hr
 have hfl:=Je1 h1
 have hl:l.length≤1000000:=hpre
 have fin:∀(v':Value) (w':World),w'.ownsRow w.heap.size 9 1 v' l.length (l.map Value.string)→RowKit.Below w.heap.size w w'→Jpo M w (Jdj 9 .str).ress (Jdj 9 .str).owns ((Jdj 9 .str).spec (l,u)) (.returned v') w':=by
  intro v' w' ho hb
  refine⟨M,[v'],rfl, .ofK hb,fun _ h=>h,fun b h=> .inl h,_,[],rfl,⟨l.map Value.string,Jp6 l,ho,fun g hg' hMg=> ?_⟩,rfl⟩
  rcases ho.2 with⟨rfl,_⟩|⟨g',cap,cur,rfl,hbg,_⟩
  ·cases hg'
  ·have:g'=g:=Option.some.inj hg'
   have:=hM g (.inl hMg)
   omega
 rcases h2 with⟨rfl|⟨ad,cap,rfl⟩,h0⟩|⟨b,off,cap,rfl,hcap,hk,hm⟩
 ·have:l=[]:=List.eq_nil_of_length_eq_zero h0
  subst this
  refine(Tryz.clone173_nil 0 0 w).mono ?_
  rintro e w' ⟨rfl,rfl⟩
  exact fin _ _ ⟨rfl, .inl ⟨rfl,rfl⟩⟩ (RowKit.Below.refl _ _)
 ·have:l=[]:=List.eq_nil_of_length_eq_zero h0
  subst this
  refine(Tryz.clone173_zero ad cap w).mono ?_
  rintro e w' ⟨v',rfl,ho,_,hb⟩
  exact fin _ _ ho hb
 ·refine(Tryz.clone173 b off l.length cap l w (Nat.le_refl _) (by omega) (fun j hj=>hk j _ (by rw[hfl,List.getElem?_map,List.getElem?_eq_getElem hj];simp[List.getD_eq_getElem?_getD,List.getElem?_eq_getElem hj]))).mono ?_
  rintro e w' ⟨v',rfl,ho,_,hb⟩
  rw[List.take_of_length_le (Nat.le_refl _)] at ho
  exact fin _ _ ho hb
abbrev W84:=W83.add Kty
def J5r:Con:={args:=[aEv],ress:=[(true,sEv)],owns:=[],pre:=fun(e,_)=>[e.2.2.1.length≤1000000,e.2.2.2.1.length≤1000000],spec:=fun(e,_)=>(e,())}
def Jdp (a:Ls) (b:Li):=Fu a∧Z57 b
theorem K6m:Ok Tryz.prog 81 J5r:=okW W84 Tryz.f81 na fun xx=>by
 obtain⟨⟨(n:Int),(k:ByteArray),(ns:List ByteArray),(vs:List Int),(tx:ByteArray)⟩,_⟩:=xx
 refine(by kernel_rfl:(Fu ns→Z57 vs→Jdp ns vs∧(n,k,ns,vs,tx)=(n,k,ns,vs,tx))=_).mp ?_
 delta Z57 Fu Jdp
 exact fun h1 h2=>⟨⟨h1,h2⟩,rfl⟩
abbrev W85:=W84.add K6m
def Jhe (T:TypeId) (s:Sch):Con:={args:=[.val false (.list T s)],ress:=[(false, .list T s)],owns:=[true],pre:=fun(l,_)=>[l.length≤1000000],spec:=fun(l,_)=>(l,())}
theorem Kf9:Ok Tryz.prog 216 (Jhe 127 X5):=okW W85 Tryz.f216 na fun xx=>by
 obtain⟨(l:List Sta),_⟩:=xx
 refine(by kernel_rfl:(Z44 l→((0≤Ln l∧Ln l≤1000000)∧Ln l≤Ln l∧Ln l≤1000000)∧List.length l=List.length (List.replicate (List.length l) Z7)∧l=l)=_).mp ?_
 delta Z7 Z44 Ln B0
 intro h
 exact⟨⟨⟨by omega,by omega⟩,by omega,by omega⟩,by simp,rfl⟩
abbrev W86:=W85.add Kf9
theorem Kf8:Ok Tryz.prog 217 (Jhe 130 Ym):=okW W86 Tryz.f217 na fun xx=>by
 obtain⟨(l:List Ord),_⟩:=xx
 refine(by kernel_rfl:(Z50 l→((0≤Ln l∧Ln l≤1000000)∧Ln l≤Ln l∧Ln l≤1000000)∧List.length l=List.length (List.replicate (List.length l) Jdo)∧l=l)=_).mp ?_
 delta Z50 Z75 Jdo Ln B0
 intro h
 exact⟨⟨⟨by omega,by omega⟩,by omega,by omega⟩,by simp,rfl⟩
abbrev W87:=W86.add Kf8
theorem Kf7:Ok Tryz.prog 218 (Jhe 155 X9):=okW W87 Tryz.f218 na fun xx=>by
 obtain⟨(l:List Met),_⟩:=xx
 refine(by kernel_rfl:(Z54 l→((0≤Ln l∧Ln l≤1000000)∧Ln l≤Ln l∧Ln l≤1000000)∧List.length l=List.length (List.replicate (List.length l) Jr4)∧l=l)=_).mp ?_
 delta Z54 Z75 Jr4 Ln B0
 intro h
 exact⟨⟨⟨by omega,by omega⟩,by omega,by omega⟩,by simp,rfl⟩
abbrev W88:=W87.add Kf7
theorem Kf6:Ok Tryz.prog 219 (Jhe 188 Yh):=okW W88 Tryz.f219 na fun xx=>by
 obtain⟨(l:List Out),_⟩:=xx
 refine(by kernel_rfl:(Z48 l→((0≤Ln l∧Ln l≤1000000)∧Ln l≤Ln l∧Ln l≤1000000)∧List.length l=List.length (List.replicate (List.length l) Jc1)∧l=l)=_).mp ?_
 delta Z48 Jc1 Ln B0
 intro h
 exact⟨⟨⟨by omega,by omega⟩,by omega,by omega⟩,by simp,rfl⟩
abbrev W89:=W88.add Kf6
theorem Kf5:Ok Tryz.prog 220 (Jhe 235 Y8):=okW W89 Tryz.f220 na fun xx=>by
 obtain⟨(l:List Per),_⟩:=xx
 refine(by kernel_rfl:(Z47 l→((0≤Ln l∧Ln l≤1000000)∧Ln l≤Ln l∧Ln l≤1000000)∧List.length l=List.length (List.replicate (List.length l) (B0,B0,false))∧l=l)=_).mp ?_
 delta Z47 Ln B0
 intro h
 exact⟨⟨⟨by omega,by omega⟩,by omega,by omega⟩,by simp,rfl⟩
abbrev W90:=W89.add Kf5
end Go.Proofs.YtcibbcfiemeoiaaGreatDoor
namespace Go.Proofs.Tryz
open Go.Proofs.YtcibbcfiemeoiaaGreatDoor
def kindsU:List (ByteArray×K6g):=[(Jl,[],0,none,none,none),
 (Jv,[(0,false)],2,some 148,some 149,some 150),
 (Uc,[(0,true)],2,some 152,some 153,some 150),
 (Kf,[(1,false),(0,true),(0,true)],4,some 154,some 155,some 156),
 (K2,[(1,true)],4,some 157,some 158,some 156),
 (Vj,[(1,true)],1,some 159,some 160,some 156),
 (Jp,[(2,false),(0,true)],4,some 161,some 162,some 163),
 (Jr,[(2,true)],1,some 164,some 165,some 163),
 (Kb,[(3,false),(2,true)],1,some 166,some 167,some 168),
 (Ka,[(3,true)],1,some 169,some 170,some 168),
 (Jh,[],2,some 171,some 172,none)]
end Go.Proofs.Tryz
namespace Go.Proofs.YtcibbcfiemeoiaaGreatDoor
open Go.Sx
def J8t:Jna:={kT:=9,gk:=false,gv:=true,ks:= .str,vs:=Kfx,l:=Tryz.kindsU}
theorem Ksc:Ok Tryz.prog 80 (Jna.con J8t):=Ksd
abbrev W91:=W90.add Ksc
abbrev Kh:=List Ev×List Ev×List Reg
abbrev Jjf:Sch:= .prod (.list 67 sEv) (.prod (.list 67 sEv) (.list 105 Jkx))
def Xd:Reg:=(0,0,[],[],[],[],[])
def ev0:Ev:=(0,Jb,[],[],Jb)
def J8 (G:List Reg):Reg:=G.getD (G.length-1) Xd
structure Kr (h:Kh):Prop where
 nE:h.1.length≤1000
 nC:h.2.1.length≤h.1.length
 nG:h.2.2.length=h.2.1.length
 reg:∀r∈h.2.2,Jo r
def J6 (r:Reg) (ns:List ByteArray):List (Int×Bool)→Nat→Bool
 |[],_=>false
 |(w,b)::l,i=>bif (bif b then !Vt r w (ns.getD i Jb) else false) then true else J6 r ns l (i+1)
def Kl (r:Reg) (ns:List ByteArray):List (Int×Bool)→Nat→Bool
 |[],_=>false
 |(w,b)::l,i=>bif (bif !b then Vt r w (ns.getD i Jb) else false) then true else Kl r ns l (i+1)
def ckS (r:Reg) (e:Ev):Int:=match(Jk e.2.1).2.2.1 with
 |some 148=>Jmt r.2.2.1 e.2.2.2.1
 |some 152=>Jo1 e.2.2.2.1
 |some 154=>Jbw r.2.2.1 r.2.2.2.1 r.2.2.2.2.2.1 e
 |some 157=>Jkl r.2.2.2.1 r.2.2.2.2.1 e.2.2.1 e.2.2.2.1
 |some 159=>Jbs r.2.2.2.1 e.2.2.1 e.2.2.2.1
 |some 161=>Jbv r.2.2.1 r.2.2.2.1 r.2.2.2.2.2.1 e
 |some 164=>Jbt r.2.2.2.2.2.1 r.2.2.2.2.2.2 e.2.2.1 e.2.2.2.1
 |some 166=>Jbu r.2.2.2.2.2.1 r.2.2.2.2.2.2 e.2.2.1 e.2.2.2.1
 |some 169=>Jmu r.2.2.2.2.2.2 e.2.2.1
 |some 171=>De r.2.1 r.2.2.2.1 r.2.2.2.2.1 r.2.2.2.2.2.1 r.2.2.2.2.2.2 e.2.2.2.1
 |_=>0
def Lt (h:Kh) (e:Ev):Int:=
 bif e.1 !=(h.1.length:Int)+1 then 11 else
 bif e.2.1.toList==Jl.toList then(bif (h.2.1.length:Int)==0 then 12 else bif (h.2.1.getD (h.2.1.length-1) ev0).2.1.toList==Jh.toList then 21 else 0) else
 bif decide (e.2.2.2.1.getD 0 0<(J8 h.2.2).1) then 22 else
 bif J6 (J8 h.2.2) e.2.2.1 (Jk e.2.1).1 0 then 10 else
 bif Kl (J8 h.2.2) e.2.2.1 (Jk e.2.1).1 0 then 9 else ckS (J8 h.2.2) e
def Jra:Zh:={T? :=none,s:=Jjf,args:=[aEv],ress:=[I],pre:=fun h (e,_)=>[Kr h,Jc e=0],spec:=fun h (e,_)=>(Lt h e,()),post:=fun h _=>h}
abbrev X0 (m:Nat):Nat→Option Ann:=fun i=>if i=0∨i=2 then some {X:=Unit,σ:=fun _=>⟨0,[],[]⟩,inv:=fun _=>True,mu:=fun _=>0,un:=m} else none
def Jrn (h:Kh) (n:Int) (ns:List ByteArray) (vs:List Int) (roles:List (Int×Bool)) (ck:Int):Int:=
 bif n !=(h.1.length:Int)+1 then 11 else
 bif decide (vs.getD 0 0<(J8 h.2.2).1) then 22 else
 bif J6 (J8 h.2.2) ns roles 0 then 10 else
 bif Kl (J8 h.2.2) ns roles 0 then 9 else ck
theorem Y5 {h:Kh} {n:Int} {k:ByteArray} {ns:List ByteArray} {vs:List Int} {tx:ByteArray} (h1:(k.toList==Jl.toList)=false):Lt h (n,k,ns,vs,tx)=Jrn h n ns vs (Jk k).1 (ckS (J8 h.2.2) (n,k,ns,vs,tx)):=by
 unfold Lt Jrn
 dsimp only
 rw[h1];rfl
theorem Kc:Jk Jv=([(0,false)],2,some 148,some 149,some 150):=by kernel_rfl
theorem K8:Jk Uc=([(0,true)],2,some 152,some 153,some 150):=by kernel_rfl
theorem Kp:Jk Kf=([(1,false),(0,true),(0,true)],4,some 154,some 155,some 156):=by kernel_rfl
theorem Kq:Jk K2=([(1,true)],4,some 157,some 158,some 156):=by kernel_rfl
theorem Uf:Jk Vj=([(1,true)],1,some 159,some 160,some 156):=by kernel_rfl
theorem Jy:Jk Jp=([(2,false),(0,true)],4,some 161,some 162,some 163):=by kernel_rfl
theorem Js:Jk Jr=([(2,true)],1,some 164,some 165,some 163):=by kernel_rfl
theorem J5:Jk Kb=([(3,false),(2,true)],1,some 166,some 167,some 168):=by kernel_rfl
theorem J4:Jk Ka=([(3,true)],1,some 169,some 170,some 168):=by kernel_rfl
theorem K6:Jk Jh=([],2,some 171,some 172,none):=by kernel_rfl
theorem D3:Jk Jl=([],0,none,none,none):=by kernel_rfl
theorem Jha {r:Reg} {s:ByteArray}:Vt r 0 s=decide (0≤J1 r.2.2.1 s):=rfl
theorem Jdv {r:Reg} {s:ByteArray}:Vt r 1 s=decide (0≤Kg r.2.2.2.1 s):=rfl
theorem Jcr {r:Reg} {s:ByteArray}:Vt r 2 s=decide (0≤Jw r.2.2.2.2.2.1 s):=rfl
theorem Jdu {r:Reg} {s:ByteArray}:Vt r 3 s=decide (0≤Uj r.2.2.2.2.2.2 s):=rfl
structure Kdl (e:Ev):Prop where
 num:1≤e.1∧e.1≤1000
 kind:Y2 e.2.1=true
 nn:e.2.2.1.length=(Jk e.2.1).1.length
 nv:(e.2.2.2.1.length:Int)=(Jk e.2.1).2.1
 name:∀s∈e.2.2.1,Y1 s=true
 val:EvV e
 txt:e.2.2.2.2.size=0
theorem Kw {l:List Int}:Jf l=0↔∀x∈l,x=0:=by
 induction l with
 |nil=>simp[Jf]
 |cons x l ih=>
  unfold Jf
  by_cases h:x=0
  ·rw[if_pos h,ih];simp[h]
  ·rw[if_neg h];simp[h]
theorem Vg {n a b:Int}:Kt n a b=0↔a≤n∧n≤b:=by
 unfold Kt
 by_cases h1:n<a
 ·simp[h1];omega
 ·by_cases h2:b<n
  ·simp[h2]
  ·simp[h1,h2];omega
theorem Ko {e:Ev} (h:Jc e=0):Kdl e:=by
 unfold Jc at h
 by_cases h1:Kt e.1 1 1000≠0
 ·rw[if_pos h1] at h;exact absurd h h1
 rw[if_neg h1] at h
 cases hk:Y2 e.2.1 with
 |false=>rw[hk] at h;cases h
 | true =>
  rw[hk,cond_true] at h
  by_cases h2:e.2.2.1.length=(Jk e.2.1).1.length∧(e.2.2.2.1.length:Int)=(Jk e.2.1).2.1
  ·rw[if_pos h2] at h
   have h3:=Kw.1 h
   have n1:=Kw.1 (h3 _ (List.mem_cons_self ..))
   have n2:=Kw.1 (h3 _ (List.mem_cons_of_mem _ (List.mem_cons_self ..)))
   have n3:=h3 _ (List.mem_cons_of_mem _ (List.mem_cons_of_mem _ (List.mem_cons_self ..)))
   refine⟨Vg.1 (by omega),hk,h2.1,h2.2,fun s hs=> ?_,fun v hv=>Vg.1 (n2 _ (List.mem_map_of_mem hv)), ?_⟩
   ·have:=n1 _ (List.mem_map_of_mem hs)
    cases hn:Y1 s with
    |true=>rfl
    |false=>rw[hn] at this;cases this
   ·by_cases h4:0<e.2.2.2.2.size
    ·rw[decide_eq_true h4] at n3;cases n3
    ·omega
  ·rw[if_neg h2] at h;cases h
theorem Db {h:Kh} (hh:Kr h):Jo (J8 h.2.2):=by
 unfold J8
 by_cases h0:0<h.2.2.length
 ·exact hh.reg _ (Je (by omega))
 ·have:h.2.2=[]:=List.eq_nil_of_length_eq_zero (by omega)
  rw[this]
  exact⟨by decide,by decide,by decide,by decide,by decide,by decide,by decide,fun _ h=>(by cases h),fun _ h=>(by cases h),fun _ h=>(by cases h),fun _ h=>(by cases h),fun _ h=>(by cases h),fun _ h=>(by cases h)⟩
theorem Ku {G:List Reg} (h:decide (0<(G.length:Int))=false):J8 G=Xd:=by
 have h:¬0<(G.length:Int):=of_decide_eq_false h
 have:G=[]:=List.eq_nil_of_length_eq_zero (by omega)
 rw[this];rfl
theorem H8:((0,0,[],[],[],[],[]):Reg)=Xd:=rfl
theorem Jh4 (G:List Reg):G.getD (G.length-1) Xd=J8 G:=rfl
theorem Lf {E C:List Ev} {G:List Reg} {e:Ev} (hh:Kr (E,C,G)) (hc:Jc e=0):e.2.2.1.length=(Jk e.2.1).1.length∧(e.2.2.2.1.length:Int)=(Jk e.2.1).2.1∧Jo (J8 G)∧Jo Xd∧E.length≤1000∧C.length≤E.length∧G.length=C.length∧((G.length:Int)-1).toNat=G.length-1∧EvV e:=
 have hE:=Ko hc
 ⟨hE.nn,hE.nv,Db hh,Db (h:=([],[],[])) ⟨by decide,by decide,rfl,fun _ h=>(by cases h)⟩,hh.nE,hh.nC,hh.nG,by omega,hE.val⟩
def Z0 (a:List Ev):=Ln a-1
def Z3 (a:List Ev):=Ln a+1
def Z5 (a:List Ev):=Ln a==0
def Z6 (a:Int) (b:Ls) (c:Li) (d:Bt):=(a,Jl,b,c,d)
def Z32:=Iw ((0:Int)+1)
def Z62:=Tw (Bd 0 0)
def Z65 (a:List Ev):=Iw (Z0 a)
def Z68 (a:List Ev):=Iw (Z3 a)
def K7 (a:Li):=Tw (Z25 a)
def Yg (a:List Reg):=decide (0<Ln a)
def J6t:=Z32∧False
def Jt0 (a b:List Ev) (c:List Reg) (d:Int) (e:Ls) (f:Li) (g:Bt):=Lt (a,b,c) (Z6 d e f g)
def Fe:Int×ByteArray×List ByteArray×List Int×ByteArray:=((0:Int),B0,[],[],B0)
def Jgu (a:Li):=decide (Z98 a<0)
def Dq:Int×List Sta×List Ord×List Met×List Out×List Per:=((0:Int),[],[],[],[],[])
def Jgt (a:Int) (b:List Ev):=a !=Z3 b
def Jgs (a:List Ev):=Z65 a∧Tw (Bd (Z0 a) (Ln a))
def V0:=((0:Int),Dq)
def Yf (a:List Reg):=Iw (Ln a-1)∧Tw (Bd (Ln a-1) (Ln a))
def Xb:=Jo V0
def Jej:=true=true→Xb
def Jb7:=false=true→Xb
def Fz (a:List Reg):=Gt a (Ln a-1) V0
def Fy (a:List Reg):=(Fz a).2
def Ja1 (a:List Reg):=(Fz a).1
def Jak (a:List Reg):=(Fy a).1
def H6 (a:List Reg):=(Fy a).2
def H5 (a:List Reg):=(H6 a).2
def Du (a:List Reg):=(H5 a).2
def Hq (a:List Reg):=(Du a).2
def J55 (a:Ls):=Vt V0 0 (U8 a)
def Jgr (a:List Ev):=bif Lb (Gt a (Z0 a) Fe).2.1 Jh then(21:Int) else(0:Int)
def Kd3 (a:Ls):=bif true then J55 a else false
def Jgq (a:Li) (b:List Reg):=decide (Z98 a<Ja1 b)
def Jgp (a:Ls):=T2 (true=true→Yj a) Jej
def Jgo (a:Ls):=T2 (false=true→Yj a) Jb7
def Kzx (a:TypeId) (b c:List Ev) (d:List Reg) (e:Int) (f:Ls) (g:Li) (h:Bt):=Br false (Sf true (Sf a (Sf (b,c,d) (10=Jt0 b c d e f g h)))) J6t
def Ys (a:List Reg):=(Jak a,(H6 a).1,(H5 a).1,(Du a).1,E2 (Hq a))
def Kz (a:List Reg):=(Ja1 a,Ys a)
def Ub (a:List Reg):=Jo (Kz a)
def Zr (a:List Reg):=true=true→Ub a
def X3 (a:List Reg):=false=true→Ub a
def Jm5 (a:List Reg) (b:Ls):=Vt (Kz a) 0 (U8 b)
def Jt8 (a:List Reg) (b:Ls):=bif true then Jm5 a b else false
def Ht (a:Ls) (b:List Reg):=T2 (true=true→Yj a) (Zr b)
def Hs (a:Ls) (b:List Reg):=T2 (false=true→Yj a) (X3 b)
variable (T:TypeId) (E C:List Ev) (G:List Reg) (tk st:Int) (S:List Sta) (O:List Ord) (M:List Met) (X:List Out) (Q:List Per) (n:Int) (ns:List ByteArray) (vs:List Int) (tx:ByteArray)
theorem Jsd:wpFO Tryz.prog W91.g (X0 1) (fun _=>na ()) (Sx.look ([(75,Tryz.f75)]:List (Nat×Func))) Tryz.f130 Jra T (E,C,G) ((n,Jl,ns,vs,tx),()):=by
 refine(by kernel_rfl:(Kr (E,C,G)→Jc (Z6 n ns vs tx)=0→Z68 E∧Br (Jgt n E) (Sf true (Sf T (Sf (E,C,G) (11=Jt0 E C G n ns vs tx)))) (Br true (Br (Z5 C) (Sf true (Sf T (Sf (E,C,G) (12=Jt0 E C G n ns vs tx)))) (Jgs C∧Sf true (Sf T (Sf (E,C,G) (Jgr C=Jt0 E C G n ns vs tx))))) (Br (Yg G) (Yf G∧K7 vs∧Br (Jgq vs G) (Sf true (Sf T (Sf (E,C,G) (22=Jt0 E C G n ns vs tx)))) (Br false (Z62∧Hs ns G∧Kzx T E C G n ns vs tx) (Br false (Z62∧Ht ns G∧Br (Jt8 G ns) (Sf true (Sf T (Sf (E,C,G) (9=Jt0 E C G n ns vs tx)))) J6t) (False∧Sf true False)))) (K7 vs∧Br (Jgu vs) (Sf true (Sf T (Sf (E,C,G) (22=Jt0 E C G n ns vs tx)))) (Br false (Z62∧Jgo ns∧Kzx T E C G n ns vs tx) (Br false (Z62∧Jgp ns∧Br (Kd3 ns) (Sf true (Sf T (Sf (E,C,G) (9=Jt0 E C G n ns vs tx)))) J6t) (False∧Sf true False)))))))=_).mp ?_
 delta Z0 Z3 Z5 Z6 Z25 Z32 Z62 Z65 Z68 Z98 U8 Yj K7 Yg J6t Jt0 Fe Jgu Dq Jgt Jgs V0 Yf Xb Jej Jb7 Fz Fy Ja1 Jak H6 H5 Du Hq J55 Jgr Kd3 Jgq Jgp Jgo Kzx Ys Kz Ub Zr X3 Jm5 Jt8 Ht Hs Br Iw Bd T2 Tw Sf Ln Gt B0 Lb E2 Jh Jl
 intro hh hc
 have hE:=Ko hc
 have n1:E.length≤1000:=hh.nE
 have n2:C.length≤E.length:=hh.nC
 have eA:Lt (E,C,G) (n,Jl,ns,vs,tx)=bif n !=(E.length:Int)+1 then 11 else(bif (C.length:Int)==0 then 12 else bif (C.getD (C.length-1) ev0).2.1.toList==Jh.toList then 21 else 0):=by
  unfold Lt
  dsimp only
  rw[show(Jl.toList==Jl.toList)=true from by kernel_rfl];rfl
 refine⟨by omega,fun h=>⟨rfl,rfl,rfl, ?_⟩,fun h=>⟨fun _=>⟨fun h2=>⟨rfl,rfl,rfl, ?_⟩,fun h2=> ?_⟩,fun h=>(by cases h)⟩⟩
 ·rw[eA,h];rfl
 ·rw[eA,h,h2];rfl
 ·have h3:¬C.length=0:=fun e=>by rw[e] at h2;cases h2
  have h4:((C.length:Int)-1).toNat=C.length-1:=by omega
  refine⟨⟨⟨by omega,by omega⟩,⟨by omega,by omega⟩,⟨by omega,by omega⟩⟩,rfl,rfl,rfl, ?_⟩
  rw[eA,h,h2,h4];rfl
def Z29 (a:Int) (b:Ls) (c:Li) (d:Bt):=(a,Jv,b,c,d)
def Z60:=Tw (Bd 0 1)
def Jpk:=(0:Int)+1+1
def Jgy:=Iw Jpk
def Ja2:=Tw (Bd ((0:Int)+1) 1)
def Jrr (a b:List Ev) (c:List Reg) (d:Int) (e:Ls) (f:Li) (g:Bt):=Lt (a,b,c) (Z29 d e f g)
def Jel:=Jgy∧False
def Jzf (a:Ls):=true=true→Bd ((0:Int)+1) (Ln a)
def Jze (a:Ls):=false=true→Bd ((0:Int)+1) (Ln a)
def Kea (a:Li):=Xb∧Z45 a
def J0v (a:Ls):=Vt V0 0 (Lv a)
def Knl (a:TypeId) (b c:List Ev) (d:List Reg) (e:Int) (f:Ls) (g:Li) (h:Bt):=Sf true (Sf a (Sf (b,c,d) (10=Jrr b c d e f g h)))
def Kjp (a:TypeId) (b c:List Ev) (d:List Reg) (e:Int) (f:Ls) (g:Li) (h:Bt):=Sf true (Sf a (Sf (b,c,d) (9=Jrr b c d e f g h)))
def Juj (a:Ls):=bif true then J0v a else false
def Jkz (a:Ls):=T2 (Jzf a) Jej
def Jky (a:Ls):=T2 (Jze a) Jb7
def Kzl (a:TypeId) (b c:List Ev) (d:List Reg) (e:Int) (f:Ls) (g:Li) (h:Bt):=Br false (Knl a b c d e f g h) Jel
def Kyz (a:Li) (b:TypeId) (c d:List Ev) (e:List Reg) (f:Int) (g:Ls) (h:Bt):=Kea a∧Sf true (Sf b (Sf (c,d,e) (Jmt [] a=Jrr c d e f g a h)))
def Jua (a:List Reg) (b:Li):=Ub a∧Z45 b
def Jhg (a:List Reg) (b:Ls):=Vt (Kz a) 0 (Lv b)
def Jdy (a:List Reg) (b:Ls):=bif true then Jhg a b else false
def Dt (a:Ls) (b:List Reg):=T2 (Jzf a) (Zr b)
def Ds (a:Ls) (b:List Reg):=T2 (Jze a) (X3 b)
def Kbr (a:List Reg) (b:Li) (c:TypeId) (d e:List Ev) (f:Int) (g:Ls) (h:Bt):=Jua a b∧Sf true (Sf c (Sf (d,e,a) (Jmt (H6 a).1 b=Jrr d e a f g b h)))
def Kbc (a:Ls) (b:TypeId) (c d:List Ev) (e:List Reg) (f:Int) (g:Li) (h:Bt):=Br true (Z60∧Jgp a∧Br (Kd3 a) (Kjp b c d e f a g h) (Z32∧Br false (Ja2∧Jkz a∧Br (Juj a) (Kjp b c d e f a g h) Jel) (Kyz g b c d e f a h))) (Kyz g b c d e f a h)
def Ka1 (a:Ls) (b:List Reg) (c:TypeId) (d e:List Ev) (f:Int) (g:Li) (h:Bt):=Br true (Z60∧Ht a b∧Br (Jt8 b a) (Kjp c d e b f a g h) (Z32∧Br false (Ja2∧Dt a b∧Br (Jdy b a) (Kjp c d e b f a g h) Jel) (Kbr b g c d e f a h))) (Kbr b g c d e f a h)
theorem Jiv:wpFO Tryz.prog W91.g (X0 2) (fun _=>na ()) (Sx.look ([(75,Tryz.f75)]:List (Nat×Func))) Tryz.f130 Jra T (E,C,G) ((n,Jv,ns,vs,tx),()):=by
 refine(by kernel_rfl:(Kr (E,C,G)→Jc (Z29 n ns vs tx)=0→Z68 E∧Br (Jgt n E) (Sf true (Sf T (Sf (E,C,G) (11=Jrr E C G n ns vs tx)))) (Br false (Br (Z5 C) (Sf true (Sf T (Sf (E,C,G) (12=Jrr E C G n ns vs tx)))) (Jgs C∧Sf true (Sf T (Sf (E,C,G) (Jgr C=Jrr E C G n ns vs tx))))) (Br (Yg G) (Yf G∧K7 vs∧Br (Jgq vs G) (Sf true (Sf T (Sf (E,C,G) (22=Jrr E C G n ns vs tx)))) (Br true (Z60∧Hs ns G∧Br false (Knl T E C G n ns vs tx) (Z32∧Br false (Ja2∧Ds ns G∧Kzl T E C G n ns vs tx) (Ka1 ns G T E C n vs tx))) (Ka1 ns G T E C n vs tx))) (K7 vs∧Br (Jgu vs) (Sf true (Sf T (Sf (E,C,G) (22=Jrr E C G n ns vs tx)))) (Br true (Z60∧Jgo ns∧Br false (Knl T E C G n ns vs tx) (Z32∧Br false (Ja2∧Jky ns∧Kzl T E C G n ns vs tx) (Kbc ns T E C G n vs tx))) (Kbc ns T E C G n vs tx))))))=_).mp ?_
 delta Z0 Z3 Z5 Z25 Z29 Z32 Z45 Z60 Z65 Z68 Z98 Lv U8 Yj K7 Yg Jpk Jgy Ja2 Jrr Jel Fe Jgu Jzf Jze Dq Jgt Jgs V0 Yf Xb Jej Jb7 Fz Fy Ja1 Kea Jak H6 H5 Du Hq J0v J55 Jgr Knl Kjp Kd3 Juj Jgq Jgp Jgo Jkz Jky Kzl Kyz Ys Kz Ub Zr X3 Jua Jm5 Jhg Jt8 Jdy Ht Hs Dt Ds Kbr Kbc Ka1 Br Iw Bd T2 Tw Sf Ln Gt B0 Lb E2 Jh Jv
 intro hh hc
 have eK:=Y5 (h:=(E,C,G)) (n:=n) (k:=Jv) (ns:=ns) (vs:=vs) (tx:=tx) (by kernel_rfl)
 obtain⟨hn,hv,hR,hr0,n1,n2,n3,hG,hV⟩:=Lf hh hc
 simp only[Kc,ckS,List.length_cons,List.length_nil] at eK hn hv
 rw[eK]
 simp only[hG,Jh4,H8,Prod.eta,Jrn,J6,Kl,Jha,Jdv,Jcr,Jdu,cond_true,cond_false,Bool.not_true,Bool.not_false,Jb]
 repeat' first|apply And.intro|exact hV|intro _
 all_goals first|trivial|omega|assumption|(rename_i h;have h:=of_decide_eq_true h;omega)|(simp only[*,cond_true,cond_false,Bool.not_true,Bool.not_false];done)|(rw[Ku ‹_›];(first|have e1:decide (vs.getD 0 0<Xd.1)=true:=‹_›|have e1:decide (vs.getD 0 0<Xd.1)=false:=‹_›);simp only[*,cond_true,cond_false,Bool.not_true,Bool.not_false];first|done|rfl)|(simp only[Bool.not_eq_false',decide_eq_true_eq] at*;assumption)
def Z12 (a:Int) (b:Ls) (c:Li) (d:Bt):=(a,Uc,b,c,d)
def Jty (a b:List Ev) (c:List Reg) (d:Int) (e:Ls) (f:Li) (g:Bt):=Lt (a,b,c) (Z12 d e f g)
def Kjs (a:TypeId) (b c:List Ev) (d:List Reg) (e:Int) (f:Ls) (g:Li) (h:Bt):=Sf true (Sf a (Sf (b,c,d) (9=Jty b c d e f g h)))
def Kno (a:TypeId) (b c:List Ev) (d:List Reg) (e:Int) (f:Ls) (g:Li) (h:Bt):=Sf true (Sf a (Sf (b,c,d) (10=Jty b c d e f g h)))
def Kd1 (a:Ls):=bif true then !J55 a else false
def Kja (a:Li) (b:TypeId) (c d:List Ev) (e:List Reg) (f:Int) (g:Ls) (h:Bt):=Z45 a∧Sf true (Sf b (Sf (c,d,e) (Jo1 a=Jty c d e f g a h)))
def Kzo (a:TypeId) (b c:List Ev) (d:List Reg) (e:Int) (f:Ls) (g:Li) (h:Bt):=Br false (Kno a b c d e f g h) Jel
def Jt6 (a:List Reg) (b:Ls):=bif true then !Jm5 a b else false
def Kbh (a:Ls) (b:TypeId) (c d:List Ev) (e:List Reg) (f:Int) (g:Li) (h:Bt):=Br true (Z60∧Jgo a∧Br false (Kjs b c d e f a g h) (Z32∧Br false (Ja2∧Jkz a∧Br (Juj a) (Kjs b c d e f a g h) Jel) (Kja g b c d e f a h))) (Kja g b c d e f a h)
def Ka6 (a:Ls) (b:List Reg) (c:TypeId) (d e:List Ev) (f:Int) (g:Li) (h:Bt):=Br true (Z60∧Hs a b∧Br false (Kjs c d e b f a g h) (Z32∧Br false (Ja2∧Dt a b∧Br (Jdy b a) (Kjs c d e b f a g h) Jel) (Kja g c d e b f a h))) (Kja g c d e b f a h)
theorem Jnl:wpFO Tryz.prog W91.g (X0 2) (fun _=>na ()) (Sx.look ([(75,Tryz.f75)]:List (Nat×Func))) Tryz.f130 Jra T (E,C,G) ((n,Uc,ns,vs,tx),()):=by
 refine(by kernel_rfl:(Kr (E,C,G)→Jc (Z12 n ns vs tx)=0→Z68 E∧Br (Jgt n E) (Sf true (Sf T (Sf (E,C,G) (11=Jty E C G n ns vs tx)))) (Br false (Br (Z5 C) (Sf true (Sf T (Sf (E,C,G) (12=Jty E C G n ns vs tx)))) (Jgs C∧Sf true (Sf T (Sf (E,C,G) (Jgr C=Jty E C G n ns vs tx))))) (Br (Yg G) (Yf G∧K7 vs∧Br (Jgq vs G) (Sf true (Sf T (Sf (E,C,G) (22=Jty E C G n ns vs tx)))) (Br true (Z60∧Ht ns G∧Br (Jt6 G ns) (Kno T E C G n ns vs tx) (Z32∧Br false (Ja2∧Ds ns G∧Kzo T E C G n ns vs tx) (Ka6 ns G T E C n vs tx))) (Ka6 ns G T E C n vs tx))) (K7 vs∧Br (Jgu vs) (Sf true (Sf T (Sf (E,C,G) (22=Jty E C G n ns vs tx)))) (Br true (Z60∧Jgp ns∧Br (Kd1 ns) (Kno T E C G n ns vs tx) (Z32∧Br false (Ja2∧Jky ns∧Kzo T E C G n ns vs tx) (Kbh ns T E C G n vs tx))) (Kbh ns T E C G n vs tx))))))=_).mp ?_
 delta Z0 Z3 Z5 Z12 Z25 Z32 Z45 Z60 Z65 Z68 Z98 Lv U8 Yj K7 Yg Jpk Jgy Ja2 Jty Jel Fe Jgu Jzf Jze Dq Jgt Jgs V0 Yf Xb Jej Jb7 Fz Fy Ja1 Jak H6 H5 Du Hq J0v J55 Jgr Kjs Kno Juj Kd1 Jgq Jgp Jgo Jkz Jky Kja Kzo Ys Kz Ub Zr X3 Jm5 Jhg Jdy Jt6 Ht Hs Dt Ds Kbh Ka6 Br Iw Bd T2 Tw Sf Ln Gt B0 Lb E2 Uc Jh
 intro hh hc
 have eK:=Y5 (h:=(E,C,G)) (n:=n) (k:=Uc) (ns:=ns) (vs:=vs) (tx:=tx) (by kernel_rfl)
 obtain⟨hn,hv,hR,hr0,n1,n2,n3,hG,hV⟩:=Lf hh hc
 simp only[K8,ckS,List.length_cons,List.length_nil] at eK hn hv
 rw[eK]
 simp only[hG,Jh4,H8,Prod.eta,Jrn,J6,Kl,Jha,Jdv,Jcr,Jdu,cond_true,cond_false,Bool.not_true,Bool.not_false,Jb]
 repeat' first|apply And.intro|exact hV|intro _
 all_goals first|trivial|omega|assumption|(rename_i h;have h:=of_decide_eq_true h;omega)|(simp only[*,cond_true,cond_false,Bool.not_true,Bool.not_false];done)|(rw[Ku ‹_›];(first|have e1:decide (vs.getD 0 0<Xd.1)=true:=‹_›|have e1:decide (vs.getD 0 0<Xd.1)=false:=‹_›);simp only[*,cond_true,cond_false,Bool.not_true,Bool.not_false];first|done|rfl)|(simp only[Bool.not_eq_false',decide_eq_true_eq] at*;assumption)
def Z13 (a:Int) (b:Ls) (c:Li) (d:Bt):=(a,Kf,b,c,d)
def Z55:=Tw (Bd 0 3)
def Kle:=Tw (Bd ((0:Int)+1) 3)
def Jrw (a b:List Ev) (c:List Reg) (d:Int) (e:Ls) (f:Li) (g:Bt):=Lt (a,b,c) (Z13 d e f g)
def Kau:=Jpk+1
def J6i:=Iw Kau
def Kla:=Tw (Bd Jpk 3)
def Kk5 (a:Ls):=0≤J1 [] (Jks a)
def Kk3:=Tw (Bd Kau 3)
def K54 (a:Ls):=Bd Kau (Ln a)
def Kqm:=Iw (Kau+1)∧False
def Kkx (a:Ls):=true=true→Bd Jpk (Ln a)
def Kkw (a:Ls):=false=true→Bd Jpk (Ln a)
def K5d (a:Ls):=true=true→K54 a
def K5c (a:Ls):=false=true→K54 a
def Kd7 (a:Ls):=Vt V0 1 (U8 a)
def Kj7 (a:Ls):=Vt V0 0 (Jpl a)
def J3w (a:TypeId) (b c:List Ev) (d:List Reg) (e:Int) (f:Ls) (g:Li) (h:Bt):=Sf true (Sf a (Sf (b,c,d) (9=Jrw b c d e f g h)))
def J52 (a:TypeId) (b c:List Ev) (d:List Reg) (e:Int) (f:Ls) (g:Li) (h:Bt):=Sf true (Sf a (Sf (b,c,d) (10=Jrw b c d e f g h)))
def Knf (a:Ls):=bif true then !J0v a else false
def Kjj (a:List Reg) (b:Ls):=0≤J1 (H6 a).1 (Jks b)
def Kdz (a:Ls):=T2 (Kkx a) Jej
def Kdy (a:Ls):=T2 (Kkw a) Jb7
def Kza (a:TypeId) (b c:List Ev) (d:List Reg) (e:Int) (f:Ls) (g:Li) (h:Bt):=Br false (J52 a b c d e f g h) Kqm
def Jz8 (a:Int) (b:Ls) (c:Li) (d:Bt) (e:TypeId) (f g:List Ev) (h:List Reg):=(Xb∧EvV (Z13 a b c d)∧Juq b∧Z64 c∧Kk5 b∧0≤J1 [] (Kay b))∧Sf true (Sf e (Sf (f,g,h) (Jbw [] [] [] (Z13 a b c d)=Jrw f g h a b c d)))
def Jt9 (a:List Reg) (b:Ls):=Vt (Kz a) 1 (U8 b)
def Jzr (a:List Reg) (b:Ls):=Vt (Kz a) 0 (Jpl b)
def J4l (a:List Reg) (b:Ls):=bif true then !Jhg a b else false
def Jt5 (a:Ls) (b:List Reg):=T2 (Kkx a) (Zr b)
def Jt4 (a:Ls) (b:List Reg):=T2 (Kkw a) (X3 b)
def Jzm (a:List Reg) (b:Int) (c:Ls) (d:Li) (e:Bt) (f:TypeId) (g h:List Ev):=(Ub a∧EvV (Z13 b c d e)∧Juq c∧Z64 d∧Kjj a c∧0≤J1 (H6 a).1 (Kay c))∧Sf true (Sf f (Sf (g,h,a) (Jbw (H6 a).1 (H5 a).1 (Hq a).1 (Z13 b c d e)=Jrw g h a b c d e)))
def Jzl (a:Ls) (b:TypeId) (c d:List Ev) (e:List Reg) (f:Int) (g:Li) (h:Bt):=Br true (Z55∧Jgp a∧Br (bif true then Kd7 a else false) (J3w b c d e f a g h) (Z32∧Br true (Kle∧Jky a∧Br false (J3w b c d e f a g h) (Jgy∧Br true (Kla∧Kdy a∧Br false (J3w b c d e f a g h) (J6i∧Br false (Kk3∧T2 (K5d a) Jej∧Br (bif true then Vt V0 0 (List.getD a 3 B0) else false) (J3w b c d e f a g h) Kqm) (Jz8 f a g h b c d e))) (Jz8 f a g h b c d e))) (Jz8 f a g h b c d e))) (Jz8 f a g h b c d e)
def Jzj (a:Ls) (b:List Reg) (c:TypeId) (d e:List Ev) (f:Int) (g:Li) (h:Bt):=Br true (Z55∧Ht a b∧Br (bif true then Jt9 b a else false) (J3w c d e b f a g h) (Z32∧Br true (Kle∧Ds a b∧Br false (J3w c d e b f a g h) (Jgy∧Br true (Kla∧Jt4 a b∧Br false (J3w c d e b f a g h) (J6i∧Br false (Kk3∧T2 (K5d a) (Zr b)∧Br (bif true then Vt (Kz b) 0 (List.getD a 3 B0) else false) (J3w c d e b f a g h) Kqm) (Jzm b f a g h c d e))) (Jzm b f a g h c d e))) (Jzm b f a g h c d e))) (Jzm b f a g h c d e)
theorem Jnm:wpFO Tryz.prog W91.g (X0 4) (fun _=>na ()) (Sx.look ([(75,Tryz.f75)]:List (Nat×Func))) Tryz.f130 Jra T (E,C,G) ((n,Kf,ns,vs,tx),()):=by
 refine(by kernel_rfl:(Kr (E,C,G)→Jc (Z13 n ns vs tx)=0→Z68 E∧Br (Jgt n E) (Sf true (Sf T (Sf (E,C,G) (11=Jrw E C G n ns vs tx)))) (Br false (Br (Z5 C) (Sf true (Sf T (Sf (E,C,G) (12=Jrw E C G n ns vs tx)))) (Jgs C∧Sf true (Sf T (Sf (E,C,G) (Jgr C=Jrw E C G n ns vs tx))))) (Br (Yg G) (Yf G∧K7 vs∧Br (Jgq vs G) (Sf true (Sf T (Sf (E,C,G) (22=Jrw E C G n ns vs tx)))) (Br true (Z55∧Hs ns G∧Br false (J52 T E C G n ns vs tx) (Z32∧Br true (Kle∧Dt ns G∧Br (J4l G ns) (J52 T E C G n ns vs tx) (Jgy∧Br true (Kla∧Jt5 ns G∧Br (bif true then !Jzr G ns else false) (J52 T E C G n ns vs tx) (J6i∧Br false (Kk3∧T2 (K5c ns) (X3 G)∧Kza T E C G n ns vs tx) (Jzj ns G T E C n vs tx))) (Jzj ns G T E C n vs tx))) (Jzj ns G T E C n vs tx))) (Jzj ns G T E C n vs tx))) (K7 vs∧Br (Jgu vs) (Sf true (Sf T (Sf (E,C,G) (22=Jrw E C G n ns vs tx)))) (Br true (Z55∧Jgo ns∧Br false (J52 T E C G n ns vs tx) (Z32∧Br true (Kle∧Jkz ns∧Br (Knf ns) (J52 T E C G n ns vs tx) (Jgy∧Br true (Kla∧Kdz ns∧Br (bif true then !Kj7 ns else false) (J52 T E C G n ns vs tx) (J6i∧Br false (Kk3∧T2 (K5c ns) Jb7∧Kza T E C G n ns vs tx) (Jzl ns T E C G n vs tx))) (Jzl ns T E C G n vs tx))) (Jzl ns T E C G n vs tx))) (Jzl ns T E C G n vs tx))))))=_).mp ?_
 delta Z0 Z3 Z5 Z13 Z25 Z32 Z55 Z64 Z65 Z68 Z98 Lv Jpl U8 Yj K7 Yg Jpk Kay Juq Jks Jgy Kle Jrw Kau Fe J6i Jgu Kla Kk5 Jzf Kk3 Jze K54 Dq Kqm Kkx Kkw Jgt Jgs V0 Yf K5d Xb K5c Jej Jb7 Fz Fy Ja1 Jak H6 H5 Du Hq Kd7 J0v Kj7 Jgr J3w J52 Knf Jgq Jgp Jgo Kjj Jkz Jky Kdz Kdy Kza Jz8 Ys Kz Ub Zr X3 Jt9 Jhg Jzr J4l Ht Hs Dt Ds Jt5 Jt4 Jzm Jzl Jzj Br Iw Bd T2 Tw Sf Ln Gt B0 Lb E2 Kf Jh
 intro hh hc
 have eK:=Y5 (h:=(E,C,G)) (n:=n) (k:=Kf) (ns:=ns) (vs:=vs) (tx:=tx) (by kernel_rfl)
 obtain⟨hn,hv,hR,hr0,n1,n2,n3,hG,hV⟩:=Lf hh hc
 simp only[Kp,ckS,List.length_cons,List.length_nil] at eK hn hv
 rw[eK]
 simp only[hG,Jh4,H8,Prod.eta,Jrn,J6,Kl,Jha,Jdv,Jcr,Jdu,cond_true,cond_false,Bool.not_true,Bool.not_false,Jb]
 repeat' first|apply And.intro|exact hV|intro _
 all_goals first|trivial|omega|assumption|(rename_i h;have h:=of_decide_eq_true h;omega)|(simp only[*,cond_true,cond_false,Bool.not_true,Bool.not_false];done)|(rw[Ku ‹_›];(first|have e1:decide (vs.getD 0 0<Xd.1)=true:=‹_›|have e1:decide (vs.getD 0 0<Xd.1)=false:=‹_›);simp only[*,cond_true,cond_false,Bool.not_true,Bool.not_false];first|done|rfl)|(simp only[Bool.not_eq_false',decide_eq_true_eq] at*;assumption)
def Z10 (a:Int) (b:Ls) (c:Li) (d:Bt):=(a,K2,b,c,d)
def Jrx (a b:List Ev) (c:List Reg) (d:Int) (e:Ls) (f:Li) (g:Bt):=Lt (a,b,c) (Z10 d e f g)
def Kk6 (a:Ls):=0≤Kg [] (Dh a)
def Kjt (a:TypeId) (b c:List Ev) (d:List Reg) (e:Int) (f:Ls) (g:Li) (h:Bt):=Sf true (Sf a (Sf (b,c,d) (9=Jrx b c d e f g h)))
def Knp (a:TypeId) (b c:List Ev) (d:List Reg) (e:Int) (f:Ls) (g:Li) (h:Bt):=Sf true (Sf a (Sf (b,c,d) (10=Jrx b c d e f g h)))
def Kd2 (a:Ls):=bif true then !Kd7 a else false
def Kjf (a:List Reg) (b:Ls):=0≤Kg (H5 a).1 (Dh b)
def Kzp (a:TypeId) (b c:List Ev) (d:List Reg) (e:Int) (f:Ls) (g:Li) (h:Bt):=Br false (Knp a b c d e f g h) Jel
def Kx1 (a:Ls) (b:Li) (c:TypeId) (d e:List Ev) (f:List Reg) (g:Int) (h:Bt):=(Xb∧Xo a∧Z56 b∧Kk6 a)∧Sf true (Sf c (Sf (d,e,f) (Jkl [] [] a b=Jrx d e f g a b h)))
def Jt7 (a:List Reg) (b:Ls):=bif true then !Jt9 a b else false
def Kbf (a:List Reg) (b:Ls) (c:Li) (d:TypeId) (e f:List Ev) (g:Int) (h:Bt):=(Ub a∧Xo b∧Z56 c∧Kjf a b)∧Sf true (Sf d (Sf (e,f,a) (Jkl (H5 a).1 (Du a).1 b c=Jrx e f a g b c h)))
def Kba (a:Ls) (b:TypeId) (c d:List Ev) (e:List Reg) (f:Int) (g:Li) (h:Bt):=Br true (Z60∧Jgo a∧Br false (Kjt b c d e f a g h) (Z32∧Br false (Ja2∧Jkz a∧Br (Juj a) (Kjt b c d e f a g h) Jel) (Kx1 a g b c d e f h))) (Kx1 a g b c d e f h)
def Ka3 (a:Ls) (b:List Reg) (c:TypeId) (d e:List Ev) (f:Int) (g:Li) (h:Bt):=Br true (Z60∧Hs a b∧Br false (Kjt c d e b f a g h) (Z32∧Br false (Ja2∧Dt a b∧Br (Jdy b a) (Kjt c d e b f a g h) Jel) (Kbf b a g c d e f h))) (Kbf b a g c d e f h)
theorem Jnn:wpFO Tryz.prog W91.g (X0 2) (fun _=>na ()) (Sx.look ([(75,Tryz.f75)]:List (Nat×Func))) Tryz.f130 Jra T (E,C,G) ((n,K2,ns,vs,tx),()):=by
 refine(by kernel_rfl:(Kr (E,C,G)→Jc (Z10 n ns vs tx)=0→Z68 E∧Br (Jgt n E) (Sf true (Sf T (Sf (E,C,G) (11=Jrx E C G n ns vs tx)))) (Br false (Br (Z5 C) (Sf true (Sf T (Sf (E,C,G) (12=Jrx E C G n ns vs tx)))) (Jgs C∧Sf true (Sf T (Sf (E,C,G) (Jgr C=Jrx E C G n ns vs tx))))) (Br (Yg G) (Yf G∧K7 vs∧Br (Jgq vs G) (Sf true (Sf T (Sf (E,C,G) (22=Jrx E C G n ns vs tx)))) (Br true (Z60∧Ht ns G∧Br (Jt7 G ns) (Knp T E C G n ns vs tx) (Z32∧Br false (Ja2∧Ds ns G∧Kzp T E C G n ns vs tx) (Ka3 ns G T E C n vs tx))) (Ka3 ns G T E C n vs tx))) (K7 vs∧Br (Jgu vs) (Sf true (Sf T (Sf (E,C,G) (22=Jrx E C G n ns vs tx)))) (Br true (Z60∧Jgp ns∧Br (Kd2 ns) (Knp T E C G n ns vs tx) (Z32∧Br false (Ja2∧Jky ns∧Kzp T E C G n ns vs tx) (Kba ns T E C G n vs tx))) (Kba ns T E C G n vs tx))))))=_).mp ?_
 delta Z0 Z3 Z5 Z10 Z25 Z32 Z56 Z60 Z65 Z68 Z98 Lv U8 Yj K7 Yg Jpk Dh Xo Jgy Ja2 Jrx Jel Fe Jgu Kk6 Jzf Jze Dq Jgt Jgs V0 Yf Xb Jej Jb7 Fz Fy Ja1 Jak H6 H5 Du Hq Kd7 J0v Jgr Kjt Knp Juj Kd2 Jgq Jgp Jgo Jkz Kjf Jky Kzp Kx1 Ys Kz Ub Zr X3 Jt9 Jhg Jdy Jt7 Ht Hs Dt Ds Kbf Kba Ka3 Br Iw Bd T2 Tw Sf Ln Gt B0 Lb E2 K2 Jh
 intro hh hc
 have eK:=Y5 (h:=(E,C,G)) (n:=n) (k:=K2) (ns:=ns) (vs:=vs) (tx:=tx) (by kernel_rfl)
 obtain⟨hn,hv,hR,hr0,n1,n2,n3,hG,hV⟩:=Lf hh hc
 simp only[Kq,ckS,List.length_cons,List.length_nil] at eK hn hv
 rw[eK]
 simp only[hG,Jh4,H8,Prod.eta,Jrn,J6,Kl,Jha,Jdv,Jcr,Jdu,cond_true,cond_false,Bool.not_true,Bool.not_false,Jb]
 repeat' first|apply And.intro|exact hV|intro _
 all_goals first|trivial|omega|assumption|(rename_i h;have h:=of_decide_eq_true h;omega)|(simp only[*,cond_true,cond_false,Bool.not_true,Bool.not_false];done)|(rw[Ku ‹_›];(first|have e1:decide (vs.getD 0 0<Xd.1)=true:=‹_›|have e1:decide (vs.getD 0 0<Xd.1)=false:=‹_›);simp only[*,cond_true,cond_false,Bool.not_true,Bool.not_false];first|done|rfl)|(simp only[Bool.not_eq_false',decide_eq_true_eq] at*;assumption)
def Z1 (a:Int) (b:Ls) (c:Li) (d:Bt):=(a,Vj,b,c,d)
def Jry (a b:List Ev) (c:List Reg) (d:Int) (e:Ls) (f:Li) (g:Bt):=Lt (a,b,c) (Z1 d e f g)
def Kju (a:TypeId) (b c:List Ev) (d:List Reg) (e:Int) (f:Ls) (g:Li) (h:Bt):=Sf true (Sf a (Sf (b,c,d) (9=Jry b c d e f g h)))
def Knq (a:TypeId) (b c:List Ev) (d:List Reg) (e:Int) (f:Ls) (g:Li) (h:Bt):=Sf true (Sf a (Sf (b,c,d) (10=Jry b c d e f g h)))
def Kzs (a:TypeId) (b c:List Ev) (d:List Reg) (e:Int) (f:Ls) (g:Li) (h:Bt):=Br false (Knq a b c d e f g h) Jel
def Kmp (a:Ls) (b:Li):=Xb∧Xo a∧Z58 b∧Kk6 a
def Kx2 (a:Ls) (b:Li) (c:TypeId) (d e:List Ev) (f:List Reg) (g:Int) (h:Bt):=Kmp a b∧Sf true (Sf c (Sf (d,e,f) (Jbs [] a b=Jry d e f g a b h)))
def J4j (a:List Reg) (b:Ls) (c:Li):=Ub a∧Xo b∧Z58 c∧Kjf a b
def Kbi (a:List Reg) (b:Ls) (c:Li) (d:TypeId) (e f:List Ev) (g:Int) (h:Bt):=J4j a b c∧Sf true (Sf d (Sf (e,f,a) (Jbs (H5 a).1 b c=Jry e f a g b c h)))
def Kbb (a:Ls) (b:TypeId) (c d:List Ev) (e:List Reg) (f:Int) (g:Li) (h:Bt):=Br true (Z60∧Jgo a∧Br false (Kju b c d e f a g h) (Z32∧Br false (Ja2∧Jkz a∧Br (Juj a) (Kju b c d e f a g h) Jel) (Kx2 a g b c d e f h))) (Kx2 a g b c d e f h)
def Ka4 (a:Ls) (b:List Reg) (c:TypeId) (d e:List Ev) (f:Int) (g:Li) (h:Bt):=Br true (Z60∧Hs a b∧Br false (Kju c d e b f a g h) (Z32∧Br false (Ja2∧Dt a b∧Br (Jdy b a) (Kju c d e b f a g h) Jel) (Kbi b a g c d e f h))) (Kbi b a g c d e f h)
theorem Jse:wpFO Tryz.prog W91.g (X0 2) (fun _=>na ()) (Sx.look ([(75,Tryz.f75)]:List (Nat×Func))) Tryz.f130 Jra T (E,C,G) ((n,Vj,ns,vs,tx),()):=by
 refine(by kernel_rfl:(Kr (E,C,G)→Jc (Z1 n ns vs tx)=0→Z68 E∧Br (Jgt n E) (Sf true (Sf T (Sf (E,C,G) (11=Jry E C G n ns vs tx)))) (Br false (Br (Z5 C) (Sf true (Sf T (Sf (E,C,G) (12=Jry E C G n ns vs tx)))) (Jgs C∧Sf true (Sf T (Sf (E,C,G) (Jgr C=Jry E C G n ns vs tx))))) (Br (Yg G) (Yf G∧K7 vs∧Br (Jgq vs G) (Sf true (Sf T (Sf (E,C,G) (22=Jry E C G n ns vs tx)))) (Br true (Z60∧Ht ns G∧Br (Jt7 G ns) (Knq T E C G n ns vs tx) (Z32∧Br false (Ja2∧Ds ns G∧Kzs T E C G n ns vs tx) (Ka4 ns G T E C n vs tx))) (Ka4 ns G T E C n vs tx))) (K7 vs∧Br (Jgu vs) (Sf true (Sf T (Sf (E,C,G) (22=Jry E C G n ns vs tx)))) (Br true (Z60∧Jgp ns∧Br (Kd2 ns) (Knq T E C G n ns vs tx) (Z32∧Br false (Ja2∧Jky ns∧Kzs T E C G n ns vs tx) (Kbb ns T E C G n vs tx))) (Kbb ns T E C G n vs tx))))))=_).mp ?_
 delta Z0 Z1 Z3 Z5 Z25 Z32 Z58 Z60 Z65 Z68 Z98 Lv U8 Yj K7 Yg Jpk Dh Xo Jgy Ja2 Jry Jel Fe Jgu Kk6 Jzf Jze Dq Jgt Jgs V0 Yf Xb Jej Jb7 Fz Fy Ja1 Jak H6 H5 Du Hq Kd7 J0v Jgr Kju Knq Juj Kd2 Jgq Jgp Jgo Jkz Kjf Jky Kzs Kmp Kx2 Ys Kz Ub Zr X3 Jt9 Jhg Jdy Jt7 Ht Hs Dt Ds J4j Kbi Kbb Ka4 Br Iw Bd T2 Tw Sf Ln Gt B0 Lb E2 Jh Vj
 intro hh hc
 have eK:=Y5 (h:=(E,C,G)) (n:=n) (k:=Vj) (ns:=ns) (vs:=vs) (tx:=tx) (by kernel_rfl)
 obtain⟨hn,hv,hR,hr0,n1,n2,n3,hG,hV⟩:=Lf hh hc
 simp only[Uf,ckS,List.length_cons,List.length_nil] at eK hn hv
 rw[eK]
 simp only[hG,Jh4,H8,Prod.eta,Jrn,J6,Kl,Jha,Jdv,Jcr,Jdu,cond_true,cond_false,Bool.not_true,Bool.not_false,Jb]
 repeat' first|apply And.intro|exact hV|intro _
 all_goals first|trivial|omega|assumption|(rename_i h;have h:=of_decide_eq_true h;omega)|(simp only[*,cond_true,cond_false,Bool.not_true,Bool.not_false];done)|(rw[Ku ‹_›];(first|have e1:decide (vs.getD 0 0<Xd.1)=true:=‹_›|have e1:decide (vs.getD 0 0<Xd.1)=false:=‹_›);simp only[*,cond_true,cond_false,Bool.not_true,Bool.not_false];first|done|rfl)|(simp only[Bool.not_eq_false',decide_eq_true_eq] at*;assumption)
def Z20 (a:Int) (b:Ls) (c:Li) (d:Bt):=(a,Jp,b,c,d)
def Z53:=Tw (Bd 0 2)
def J05:=Tw (Bd ((0:Int)+1) 2)
def Jrt (a b:List Ev) (c:List Reg) (d:Int) (e:Ls) (f:Li) (g:Bt):=Lt (a,b,c) (Z20 d e f g)
def J0z:=Tw (Bd Jpk 2)
def J6a:=J6i∧False
def Kpj (a:Li) (b:Ls):=Z64 a∧Kk5 b
def Kof (a:Ls):=Vt V0 2 (U8 a)
def J92 (a:TypeId) (b c:List Ev) (d:List Reg) (e:Int) (f:Ls) (g:Li) (h:Bt):=Sf true (Sf a (Sf (b,c,d) (9=Jrt b c d e f g h)))
def Kd5 (a:TypeId) (b c:List Ev) (d:List Reg) (e:Int) (f:Ls) (g:Li) (h:Bt):=Sf true (Sf a (Sf (b,c,d) (10=Jrt b c d e f g h)))
def Knj (a:Ls):=bif true then Kj7 a else false
def Kmv (a:Li) (b:List Reg) (c:Ls):=Z64 a∧Kjj b c
def Kzg (a:TypeId) (b c:List Ev) (d:List Reg) (e:Int) (f:Ls) (g:Li) (h:Bt):=Br false (Kd5 a b c d e f g h) J6a
def Kl3 (a:Int) (b:Ls) (c:Li) (d:Bt) (e:TypeId) (f g:List Ev) (h:List Reg):=(Xb∧EvV (Z20 a b c d)∧Jr5 b∧Kpj c b)∧Sf true (Sf e (Sf (f,g,h) (Jbv [] [] [] (Z20 a b c d)=Jrt f g h a b c d)))
def J4q (a:List Reg) (b:Ls):=Vt (Kz a) 2 (U8 b)
def J4n (a:List Reg) (b:Ls):=bif true then Jzr a b else false
def J4c (a:List Reg) (b:Int) (c:Ls) (d:Li) (e:Bt) (f:TypeId) (g h:List Ev):=(Ub a∧EvV (Z20 b c d e)∧Jr5 c∧Kmv d a c)∧Sf true (Sf f (Sf (g,h,a) (Jbv (H6 a).1 (H5 a).1 (Hq a).1 (Z20 b c d e)=Jrt g h a b c d e)))
def J4a (a:Ls) (b:TypeId) (c d:List Ev) (e:List Reg) (f:Int) (g:Li) (h:Bt):=Br true (Z53∧Jgp a∧Br (bif true then Kof a else false) (J92 b c d e f a g h) (Z32∧Br true (J05∧Jky a∧Br false (J92 b c d e f a g h) (Jgy∧Br false (J0z∧Kdz a∧Br (Knj a) (J92 b c d e f a g h) J6a) (Kl3 f a g h b c d e))) (Kl3 f a g h b c d e))) (Kl3 f a g h b c d e)
def J38 (a:Ls) (b:List Reg) (c:TypeId) (d e:List Ev) (f:Int) (g:Li) (h:Bt):=Br true (Z53∧Ht a b∧Br (bif true then J4q b a else false) (J92 c d e b f a g h) (Z32∧Br true (J05∧Ds a b∧Br false (J92 c d e b f a g h) (Jgy∧Br false (J0z∧Jt5 a b∧Br (J4n b a) (J92 c d e b f a g h) J6a) (J4c b f a g h c d e))) (J4c b f a g h c d e))) (J4c b f a g h c d e)
theorem Jk9:wpFO Tryz.prog W91.g (X0 3) (fun _=>na ()) (Sx.look ([(75,Tryz.f75)]:List (Nat×Func))) Tryz.f130 Jra T (E,C,G) ((n,Jp,ns,vs,tx),()):=by
 refine(by kernel_rfl:(Kr (E,C,G)→Jc (Z20 n ns vs tx)=0→Z68 E∧Br (Jgt n E) (Sf true (Sf T (Sf (E,C,G) (11=Jrt E C G n ns vs tx)))) (Br false (Br (Z5 C) (Sf true (Sf T (Sf (E,C,G) (12=Jrt E C G n ns vs tx)))) (Jgs C∧Sf true (Sf T (Sf (E,C,G) (Jgr C=Jrt E C G n ns vs tx))))) (Br (Yg G) (Yf G∧K7 vs∧Br (Jgq vs G) (Sf true (Sf T (Sf (E,C,G) (22=Jrt E C G n ns vs tx)))) (Br true (Z53∧Hs ns G∧Br false (Kd5 T E C G n ns vs tx) (Z32∧Br true (J05∧Dt ns G∧Br (J4l G ns) (Kd5 T E C G n ns vs tx) (Jgy∧Br false (J0z∧Jt4 ns G∧Kzg T E C G n ns vs tx) (J38 ns G T E C n vs tx))) (J38 ns G T E C n vs tx))) (J38 ns G T E C n vs tx))) (K7 vs∧Br (Jgu vs) (Sf true (Sf T (Sf (E,C,G) (22=Jrt E C G n ns vs tx)))) (Br true (Z53∧Jgo ns∧Br false (Kd5 T E C G n ns vs tx) (Z32∧Br true (J05∧Jkz ns∧Br (Knf ns) (Kd5 T E C G n ns vs tx) (Jgy∧Br false (J0z∧Kdy ns∧Kzg T E C G n ns vs tx) (J4a ns T E C G n vs tx))) (J4a ns T E C G n vs tx))) (J4a ns T E C G n vs tx))))))=_).mp ?_
 delta Z0 Z3 Z5 Z20 Z25 Z32 Z53 Z64 Z65 Z68 Z98 Lv Jpl U8 Yj K7 Yg Jpk Jr5 Jks Jgy J05 Jrt Kau Fe J6i Jgu J0z J6a Kk5 Jzf Jze Dq Kkx Kkw Jgt Jgs V0 Yf Xb Kpj Jej Jb7 Fz Fy Ja1 Jak H6 H5 Du Hq Kof J0v Kj7 Jgr J92 Kd5 Knj Knf Jgq Jgp Jgo Kjj Jkz Jky Kdz Kdy Kmv Kzg Kl3 Ys Kz Ub Zr X3 J4q Jhg Jzr J4n J4l Ht Hs Dt Ds Jt5 Jt4 J4c J4a J38 Br Iw Bd T2 Tw Sf Ln Gt B0 Lb E2 Jp Jh
 intro hh hc
 have eK:=Y5 (h:=(E,C,G)) (n:=n) (k:=Jp) (ns:=ns) (vs:=vs) (tx:=tx) (by kernel_rfl)
 obtain⟨hn,hv,hR,hr0,n1,n2,n3,hG,hV⟩:=Lf hh hc
 simp only[Jy,ckS,List.length_cons,List.length_nil] at eK hn hv
 rw[eK]
 simp only[hG,Jh4,H8,Prod.eta,Jrn,J6,Kl,Jha,Jdv,Jcr,Jdu,cond_true,cond_false,Bool.not_true,Bool.not_false,Jb]
 repeat' first|apply And.intro|exact hV|intro _
 all_goals first|trivial|omega|assumption|(rename_i h;have h:=of_decide_eq_true h;omega)|(simp only[*,cond_true,cond_false,Bool.not_true,Bool.not_false];done)|(rw[Ku ‹_›];(first|have e1:decide (vs.getD 0 0<Xd.1)=true:=‹_›|have e1:decide (vs.getD 0 0<Xd.1)=false:=‹_›);simp only[*,cond_true,cond_false,Bool.not_true,Bool.not_false];first|done|rfl)|(simp only[Bool.not_eq_false',decide_eq_true_eq] at*;assumption)
def Z30 (a:Int) (b:Ls) (c:Li) (d:Bt):=(a,Jr,b,c,d)
def Jrs (a b:List Ev) (c:List Reg) (d:Int) (e:Ls) (f:Li) (g:Bt):=Lt (a,b,c) (Z30 d e f g)
def Knm (a:TypeId) (b c:List Ev) (d:List Reg) (e:Int) (f:Ls) (g:Li) (h:Bt):=Sf true (Sf a (Sf (b,c,d) (10=Jrs b c d e f g h)))
def Kjq (a:TypeId) (b c:List Ev) (d:List Reg) (e:Int) (f:Ls) (g:Li) (h:Bt):=Sf true (Sf a (Sf (b,c,d) (9=Jrs b c d e f g h)))
def Kzk (a:TypeId) (b c:List Ev) (d:List Reg) (e:Int) (f:Ls) (g:Li) (h:Bt):=Br false (Knm a b c d e f g h) Jel
def Kmo (a:Ls) (b:Li):=Xb∧Xo a∧Z58 b∧0≤Jw [] (Dh a)
def Kx0 (a:Ls) (b:Li) (c:TypeId) (d e:List Ev) (f:List Reg) (g:Int) (h:Bt):=Kmo a b∧Sf true (Sf c (Sf (d,e,f) (Jbt [] [] a b=Jrs d e f g a b h)))
def J4i (a:List Reg) (b:Ls) (c:Li):=Ub a∧Xo b∧Z58 c∧0≤Jw (Hq a).1 (Dh b)
def Kbe (a:List Reg) (b:Ls) (c:Li) (d:TypeId) (e f:List Ev) (g:Int) (h:Bt):=J4i a b c∧Sf true (Sf d (Sf (e,f,a) (Jbt (Hq a).1 (Hq a).2 b c=Jrs e f a g b c h)))
def Ka9 (a:Ls) (b:TypeId) (c d:List Ev) (e:List Reg) (f:Int) (g:Li) (h:Bt):=Br true (Z60∧Jgo a∧Br false (Kjq b c d e f a g h) (Z32∧Br false (Ja2∧Jkz a∧Br (Juj a) (Kjq b c d e f a g h) Jel) (Kx0 a g b c d e f h))) (Kx0 a g b c d e f h)
def Ka2 (a:Ls) (b:List Reg) (c:TypeId) (d e:List Ev) (f:Int) (g:Li) (h:Bt):=Br true (Z60∧Hs a b∧Br false (Kjq c d e b f a g h) (Z32∧Br false (Ja2∧Dt a b∧Br (Jdy b a) (Kjq c d e b f a g h) Jel) (Kbe b a g c d e f h))) (Kbe b a g c d e f h)
theorem Jiw:wpFO Tryz.prog W91.g (X0 2) (fun _=>na ()) (Sx.look ([(75,Tryz.f75)]:List (Nat×Func))) Tryz.f130 Jra T (E,C,G) ((n,Jr,ns,vs,tx),()):=by
 refine(by kernel_rfl:(Kr (E,C,G)→Jc (Z30 n ns vs tx)=0→Z68 E∧Br (Jgt n E) (Sf true (Sf T (Sf (E,C,G) (11=Jrs E C G n ns vs tx)))) (Br false (Br (Z5 C) (Sf true (Sf T (Sf (E,C,G) (12=Jrs E C G n ns vs tx)))) (Jgs C∧Sf true (Sf T (Sf (E,C,G) (Jgr C=Jrs E C G n ns vs tx))))) (Br (Yg G) (Yf G∧K7 vs∧Br (Jgq vs G) (Sf true (Sf T (Sf (E,C,G) (22=Jrs E C G n ns vs tx)))) (Br true (Z60∧Ht ns G∧Br (bif true then !J4q G ns else false) (Knm T E C G n ns vs tx) (Z32∧Br false (Ja2∧Ds ns G∧Kzk T E C G n ns vs tx) (Ka2 ns G T E C n vs tx))) (Ka2 ns G T E C n vs tx))) (K7 vs∧Br (Jgu vs) (Sf true (Sf T (Sf (E,C,G) (22=Jrs E C G n ns vs tx)))) (Br true (Z60∧Jgp ns∧Br (bif true then !Kof ns else false) (Knm T E C G n ns vs tx) (Z32∧Br false (Ja2∧Jky ns∧Kzk T E C G n ns vs tx) (Ka9 ns T E C G n vs tx))) (Ka9 ns T E C G n vs tx))))))=_).mp ?_
 delta Z0 Z3 Z5 Z25 Z30 Z32 Z58 Z60 Z65 Z68 Z98 Lv U8 Yj K7 Yg Jpk Dh Xo Jgy Ja2 Jrs Jel Fe Jgu Jzf Jze Dq Jgt Jgs V0 Yf Xb Jej Jb7 Fz Fy Ja1 Jak H6 H5 Du Hq Kof J0v Jgr Knm Kjq Juj Jgq Jgp Jgo Jkz Jky Kzk Kmo Kx0 Ys Kz Ub Zr X3 J4q Jhg Jdy Ht Hs Dt Ds J4i Kbe Ka9 Ka2 Br Iw Bd T2 Tw Sf Ln Gt B0 Lb E2 Jr Jh
 intro hh hc
 have eK:=Y5 (h:=(E,C,G)) (n:=n) (k:=Jr) (ns:=ns) (vs:=vs) (tx:=tx) (by kernel_rfl)
 obtain⟨hn,hv,hR,hr0,n1,n2,n3,hG,hV⟩:=Lf hh hc
 simp only[Js,ckS,List.length_cons,List.length_nil] at eK hn hv
 rw[eK]
 simp only[hG,Jh4,H8,Prod.eta,Jrn,J6,Kl,Jha,Jdv,Jcr,Jdu,cond_true,cond_false,Bool.not_true,Bool.not_false,Jb]
 repeat' first|apply And.intro|exact hV|intro _
 all_goals first|trivial|omega|assumption|(rename_i h;have h:=of_decide_eq_true h;omega)|(simp only[*,cond_true,cond_false,Bool.not_true,Bool.not_false];done)|(rw[Ku ‹_›];(first|have e1:decide (vs.getD 0 0<Xd.1)=true:=‹_›|have e1:decide (vs.getD 0 0<Xd.1)=false:=‹_›);simp only[*,cond_true,cond_false,Bool.not_true,Bool.not_false];first|done|rfl)|(simp only[Bool.not_eq_false',decide_eq_true_eq] at*;assumption)
def Z17 (a:Int) (b:Ls) (c:Li) (d:Bt):=(a,Kb,b,c,d)
def Jru (a b:List Ev) (c:List Reg) (d:Int) (e:Ls) (f:Li) (g:Bt):=Lt (a,b,c) (Z17 d e f g)
def Kod (a:Ls):=Vt V0 3 (U8 a)
def J91 (a:TypeId) (b c:List Ev) (d:List Reg) (e:Int) (f:Ls) (g:Li) (h:Bt):=Sf true (Sf a (Sf (b,c,d) (9=Jru b c d e f g h)))
def Kd4 (a:TypeId) (b c:List Ev) (d:List Reg) (e:Int) (f:Ls) (g:Li) (h:Bt):=Sf true (Sf a (Sf (b,c,d) (10=Jru b c d e f g h)))
def Kzf (a:TypeId) (b c:List Ev) (d:List Reg) (e:Int) (f:Ls) (g:Li) (h:Bt):=Br false (Kd4 a b c d e f g h) J6a
def Kl7 (a:Ls) (b:Li) (c:TypeId) (d e:List Ev) (f:List Reg) (g:Int) (h:Bt):=(Xb∧J07 a∧Z58 b∧0≤Jw [] (Jks a))∧Sf true (Sf c (Sf (d,e,f) (Jbu [] [] a b=Jru d e f g a b h)))
def J4p (a:List Reg) (b:Ls):=Vt (Kz a) 3 (U8 b)
def J4d (a:List Reg) (b:Ls) (c:Li) (d:TypeId) (e f:List Ev) (g:Int) (h:Bt):=(Ub a∧J07 b∧Z58 c∧0≤Jw (Hq a).1 (Jks b))∧Sf true (Sf d (Sf (e,f,a) (Jbu (Hq a).1 (Hq a).2 b c=Jru e f a g b c h)))
def J4b (a:Ls) (b:TypeId) (c d:List Ev) (e:List Reg) (f:Int) (g:Li) (h:Bt):=Br true (Z53∧Jgp a∧Br (bif true then Kod a else false) (J91 b c d e f a g h) (Z32∧Br true (J05∧Jky a∧Br false (J91 b c d e f a g h) (Jgy∧Br false (J0z∧Kdz a∧Br (Knj a) (J91 b c d e f a g h) J6a) (Kl7 a g b c d e f h))) (Kl7 a g b c d e f h))) (Kl7 a g b c d e f h)
def J39 (a:Ls) (b:List Reg) (c:TypeId) (d e:List Ev) (f:Int) (g:Li) (h:Bt):=Br true (Z53∧Ht a b∧Br (bif true then J4p b a else false) (J91 c d e b f a g h) (Z32∧Br true (J05∧Ds a b∧Br false (J91 c d e b f a g h) (Jgy∧Br false (J0z∧Jt5 a b∧Br (J4n b a) (J91 c d e b f a g h) J6a) (J4d b a g c d e f h))) (J4d b a g c d e f h))) (J4d b a g c d e f h)
theorem Jk8:wpFO Tryz.prog W91.g (X0 3) (fun _=>na ()) (Sx.look ([(75,Tryz.f75)]:List (Nat×Func))) Tryz.f130 Jra T (E,C,G) ((n,Kb,ns,vs,tx),()):=by
 refine(by kernel_rfl:(Kr (E,C,G)→Jc (Z17 n ns vs tx)=0→Z68 E∧Br (Jgt n E) (Sf true (Sf T (Sf (E,C,G) (11=Jru E C G n ns vs tx)))) (Br false (Br (Z5 C) (Sf true (Sf T (Sf (E,C,G) (12=Jru E C G n ns vs tx)))) (Jgs C∧Sf true (Sf T (Sf (E,C,G) (Jgr C=Jru E C G n ns vs tx))))) (Br (Yg G) (Yf G∧K7 vs∧Br (Jgq vs G) (Sf true (Sf T (Sf (E,C,G) (22=Jru E C G n ns vs tx)))) (Br true (Z53∧Hs ns G∧Br false (Kd4 T E C G n ns vs tx) (Z32∧Br true (J05∧Dt ns G∧Br (bif true then !Vt (Kz G) 2 (Lv ns) else false) (Kd4 T E C G n ns vs tx) (Jgy∧Br false (J0z∧Jt4 ns G∧Kzf T E C G n ns vs tx) (J39 ns G T E C n vs tx))) (J39 ns G T E C n vs tx))) (J39 ns G T E C n vs tx))) (K7 vs∧Br (Jgu vs) (Sf true (Sf T (Sf (E,C,G) (22=Jru E C G n ns vs tx)))) (Br true (Z53∧Jgo ns∧Br false (Kd4 T E C G n ns vs tx) (Z32∧Br true (J05∧Jkz ns∧Br (bif true then !Vt V0 2 (Lv ns) else false) (Kd4 T E C G n ns vs tx) (Jgy∧Br false (J0z∧Kdy ns∧Kzf T E C G n ns vs tx) (J4b ns T E C G n vs tx))) (J4b ns T E C G n vs tx))) (J4b ns T E C G n vs tx))))))=_).mp ?_
 delta Z0 Z3 Z5 Z17 Z25 Z32 Z53 Z58 Z65 Z68 Z98 Lv Jpl U8 Yj K7 Yg Jpk J07 Jks Jgy J05 Jru Kau Fe J6i Jgu J0z J6a Jzf Jze Dq Kkx Kkw Jgt Jgs V0 Yf Xb Jej Jb7 Fz Fy Ja1 Jak H6 H5 Du Hq Kod Kj7 Jgr J91 Kd4 Knj Jgq Jgp Jgo Jkz Jky Kdz Kdy Kzf Kl7 Ys Kz Ub Zr X3 J4p Jzr J4n Ht Hs Dt Ds Jt5 Jt4 J4d J4b J39 Br Iw Bd T2 Tw Sf Ln Gt B0 Lb E2 Kb Jh
 intro hh hc
 have eK:=Y5 (h:=(E,C,G)) (n:=n) (k:=Kb) (ns:=ns) (vs:=vs) (tx:=tx) (by kernel_rfl)
 obtain⟨hn,hv,hR,hr0,n1,n2,n3,hG,hV⟩:=Lf hh hc
 simp only[J5,ckS,List.length_cons,List.length_nil] at eK hn hv
 rw[eK]
 simp only[hG,Jh4,H8,Prod.eta,Jrn,J6,Kl,Jha,Jdv,Jcr,Jdu,cond_true,cond_false,Bool.not_true,Bool.not_false,Jb]
 repeat' first|apply And.intro|exact hV|intro _
 all_goals first|trivial|omega|assumption|(rename_i h;have h:=of_decide_eq_true h;omega)|(simp only[*,cond_true,cond_false,Bool.not_true,Bool.not_false];done)|(rw[Ku ‹_›];(first|have e1:decide (vs.getD 0 0<Xd.1)=true:=‹_›|have e1:decide (vs.getD 0 0<Xd.1)=false:=‹_›);simp only[*,cond_true,cond_false,Bool.not_true,Bool.not_false];first|done|rfl)|(simp only[Bool.not_eq_false',decide_eq_true_eq] at*;assumption)
def Z18 (a:Int) (b:Ls) (c:Li) (d:Bt):=(a,Ka,b,c,d)
def Jrv (a b:List Ev) (c:List Reg) (d:Int) (e:Ls) (f:Li) (g:Bt):=Lt (a,b,c) (Z18 d e f g)
def Kjr (a:TypeId) (b c:List Ev) (d:List Reg) (e:Int) (f:Ls) (g:Li) (h:Bt):=Sf true (Sf a (Sf (b,c,d) (9=Jrv b c d e f g h)))
def Knn (a:TypeId) (b c:List Ev) (d:List Reg) (e:Int) (f:Ls) (g:Li) (h:Bt):=Sf true (Sf a (Sf (b,c,d) (10=Jrv b c d e f g h)))
def Km2 (a:Ls):=Xb∧Xo a∧0≤Uj [] (Dh a)
def Kzn (a:TypeId) (b c:List Ev) (d:List Reg) (e:Int) (f:Ls) (g:Li) (h:Bt):=Br false (Knn a b c d e f g h) Jel
def Kyd (a:Ls) (b:TypeId) (c d:List Ev) (e:List Reg) (f:Int) (g:Li) (h:Bt):=Km2 a∧Sf true (Sf b (Sf (c,d,e) (Jmu [] a=Jrv c d e f a g h)))
def J4k (a:List Reg) (b:Ls):=Ub a∧Xo b∧0≤Uj (Hq a).2 (Dh b)
def Kbj (a:List Reg) (b:Ls) (c:TypeId) (d e:List Ev) (f:Int) (g:Li) (h:Bt):=J4k a b∧Sf true (Sf c (Sf (d,e,a) (Jmu (Hq a).2 b=Jrv d e a f b g h)))
def Kbd (a:Ls) (b:TypeId) (c d:List Ev) (e:List Reg) (f:Int) (g:Li) (h:Bt):=Br true (Z60∧Jgo a∧Br false (Kjr b c d e f a g h) (Z32∧Br false (Ja2∧Jkz a∧Br (Juj a) (Kjr b c d e f a g h) Jel) (Kyd a b c d e f g h))) (Kyd a b c d e f g h)
def Ka5 (a:Ls) (b:List Reg) (c:TypeId) (d e:List Ev) (f:Int) (g:Li) (h:Bt):=Br true (Z60∧Hs a b∧Br false (Kjr c d e b f a g h) (Z32∧Br false (Ja2∧Dt a b∧Br (Jdy b a) (Kjr c d e b f a g h) Jel) (Kbj b a c d e f g h))) (Kbj b a c d e f g h)
theorem Jk7:wpFO Tryz.prog W91.g (X0 2) (fun _=>na ()) (Sx.look ([(75,Tryz.f75)]:List (Nat×Func))) Tryz.f130 Jra T (E,C,G) ((n,Ka,ns,vs,tx),()):=by
 refine(by kernel_rfl:(Kr (E,C,G)→Jc (Z18 n ns vs tx)=0→Z68 E∧Br (Jgt n E) (Sf true (Sf T (Sf (E,C,G) (11=Jrv E C G n ns vs tx)))) (Br false (Br (Z5 C) (Sf true (Sf T (Sf (E,C,G) (12=Jrv E C G n ns vs tx)))) (Jgs C∧Sf true (Sf T (Sf (E,C,G) (Jgr C=Jrv E C G n ns vs tx))))) (Br (Yg G) (Yf G∧K7 vs∧Br (Jgq vs G) (Sf true (Sf T (Sf (E,C,G) (22=Jrv E C G n ns vs tx)))) (Br true (Z60∧Ht ns G∧Br (bif true then !J4p G ns else false) (Knn T E C G n ns vs tx) (Z32∧Br false (Ja2∧Ds ns G∧Kzn T E C G n ns vs tx) (Ka5 ns G T E C n vs tx))) (Ka5 ns G T E C n vs tx))) (K7 vs∧Br (Jgu vs) (Sf true (Sf T (Sf (E,C,G) (22=Jrv E C G n ns vs tx)))) (Br true (Z60∧Jgp ns∧Br (bif true then !Kod ns else false) (Knn T E C G n ns vs tx) (Z32∧Br false (Ja2∧Jky ns∧Kzn T E C G n ns vs tx) (Kbd ns T E C G n vs tx))) (Kbd ns T E C G n vs tx))))))=_).mp ?_
 delta Z0 Z3 Z5 Z18 Z25 Z32 Z60 Z65 Z68 Z98 Lv U8 Yj K7 Yg Jpk Dh Xo Jgy Ja2 Jrv Jel Fe Jgu Jzf Jze Dq Jgt Jgs V0 Yf Xb Jej Jb7 Fz Fy Ja1 Jak H6 H5 Du Hq Kod J0v Jgr Kjr Knn Juj Jgq Jgp Jgo Jkz Jky Km2 Kzn Kyd Ys Kz Ub Zr X3 Jhg J4p Jdy Ht Hs Dt Ds J4k Kbj Kbd Ka5 Br Iw Bd T2 Tw Sf Ln Gt B0 Lb E2 Ka Jh
 intro hh hc
 have eK:=Y5 (h:=(E,C,G)) (n:=n) (k:=Ka) (ns:=ns) (vs:=vs) (tx:=tx) (by kernel_rfl)
 obtain⟨hn,hv,hR,hr0,n1,n2,n3,hG,hV⟩:=Lf hh hc
 simp only[J4,ckS,List.length_cons,List.length_nil] at eK hn hv
 rw[eK]
 simp only[hG,Jh4,H8,Prod.eta,Jrn,J6,Kl,Jha,Jdv,Jcr,Jdu,cond_true,cond_false,Bool.not_true,Bool.not_false,Jb]
 repeat' first|apply And.intro|exact hV|intro _
 all_goals first|trivial|omega|assumption|(rename_i h;have h:=of_decide_eq_true h;omega)|(simp only[*,cond_true,cond_false,Bool.not_true,Bool.not_false];done)|(rw[Ku ‹_›];(first|have e1:decide (vs.getD 0 0<Xd.1)=true:=‹_›|have e1:decide (vs.getD 0 0<Xd.1)=false:=‹_›);simp only[*,cond_true,cond_false,Bool.not_true,Bool.not_false];first|done|rfl)|(simp only[Bool.not_eq_false',decide_eq_true_eq] at*;assumption)
def Z22 (a:Int) (b:Ls) (c:Li) (d:Bt):=(a,Jh,b,c,d)
def Jpi (a b:List Ev) (c:List Reg) (d:Int) (e:Ls) (f:Li) (g:Bt):=Lt (a,b,c) (Z22 d e f g)
def Kzu (a:TypeId) (b c:List Ev) (d:List Reg) (e:Int) (f:Ls) (g:Li) (h:Bt):=Br false (Sf true (Sf a (Sf (b,c,d) (10=Jpi b c d e f g h)))) J6t
theorem Jk6:wpFO Tryz.prog W91.g (X0 1) (fun _=>na ()) (Sx.look ([(75,Tryz.f75)]:List (Nat×Func))) Tryz.f130 Jra T (E,C,G) ((n,Jh,ns,vs,tx),()):=by
 refine(by kernel_rfl:(Kr (E,C,G)→Jc (Z22 n ns vs tx)=0→Z68 E∧Br (Jgt n E) (Sf true (Sf T (Sf (E,C,G) (11=Jpi E C G n ns vs tx)))) (Br false (Br (Z5 C) (Sf true (Sf T (Sf (E,C,G) (12=Jpi E C G n ns vs tx)))) (Jgs C∧Sf true (Sf T (Sf (E,C,G) (Jgr C=Jpi E C G n ns vs tx))))) (Br (Yg G) (Yf G∧K7 vs∧Br (Jgq vs G) (Sf true (Sf T (Sf (E,C,G) (22=Jpi E C G n ns vs tx)))) (Br false (Z62∧Hs ns G∧Kzu T E C G n ns vs tx) (Br false (Z62∧Ht ns G∧Br (Jt8 G ns) (Sf true (Sf T (Sf (E,C,G) (9=Jpi E C G n ns vs tx)))) J6t) (Jua G vs∧Sf true (Sf T (Sf (E,C,G) (De (Jak G) (H5 G).1 (Du G).1 (Hq G).1 (Hq G).2 vs=Jpi E C G n ns vs tx))))))) (K7 vs∧Br (Jgu vs) (Sf true (Sf T (Sf (E,C,G) (22=Jpi E C G n ns vs tx)))) (Br false (Z62∧Jgo ns∧Kzu T E C G n ns vs tx) (Br false (Z62∧Jgp ns∧Br (Kd3 ns) (Sf true (Sf T (Sf (E,C,G) (9=Jpi E C G n ns vs tx)))) J6t) (Kea vs∧Sf true (Sf T (Sf (E,C,G) (De 0 [] [] [] [] vs=Jpi E C G n ns vs tx))))))))))=_).mp ?_
 delta Z0 Z3 Z5 Z22 Z25 Z32 Z45 Z62 Z65 Z68 Z98 U8 Yj K7 Yg J6t Jpi Fe Jgu Dq Jgt Jgs V0 Yf Xb Jej Jb7 Fz Fy Ja1 Kea Jak H6 H5 Du Hq J55 Jgr Kd3 Jgq Jgp Jgo Kzu Ys Kz Ub Zr X3 Jua Jm5 Jt8 Ht Hs Br Iw Bd T2 Tw Sf Ln Gt B0 Lb E2 Jh
 intro hh hc
 have eK:=Y5 (h:=(E,C,G)) (n:=n) (k:=Jh) (ns:=ns) (vs:=vs) (tx:=tx) (by kernel_rfl)
 obtain⟨hn,hv,hR,hr0,n1,n2,n3,hG,hV⟩:=Lf hh hc
 simp only[K6,ckS,List.length_cons,List.length_nil] at eK hn hv
 rw[eK]
 simp only[hG,Jh4,H8,Prod.eta,Jrn,J6,Kl,Jha,Jdv,Jcr,Jdu,cond_true,cond_false,Bool.not_true,Bool.not_false,Jb]
 repeat' first|apply And.intro|exact hV|intro _
 all_goals first|trivial|omega|assumption|(rename_i h;have h:=of_decide_eq_true h;omega)|(simp only[*,cond_true,cond_false,Bool.not_true,Bool.not_false];done)|(rw[Ku ‹_›];(first|have e1:decide (vs.getD 0 0<Xd.1)=true:=‹_›|have e1:decide (vs.getD 0 0<Xd.1)=false:=‹_›);simp only[*,cond_true,cond_false,Bool.not_true,Bool.not_false];first|done|rfl)|(simp only[Bool.not_eq_false',decide_eq_true_eq] at*;assumption)
theorem Ye {a b:ByteArray} (h:(a.toList==b.toList)=true):a=b:=by
 have h:=eq_of_beq h
 rw[Lib.toList_data,Lib.toList_data] at h
 cases a;cases b
 congr
 exact Array.toList_inj.1 h
theorem Jw5 {a b:ByteArray} (h:L1 .str a b=true):a=b:=Ye h
theorem Jff {β:Type} {ks:Sch} {k:ks.T}:∀{l:List (ks.T×β)},(Ue ks k l).isSome=true→∃x∈l,L1 ks k x.1=true
 |[],h=>by cases h
 | x :: l, h => by
  unfold Ue at h
  by_cases hx:L1 ks k x.1=true
  ·exact⟨x,List.mem_cons_self ..,hx⟩
  ·rw[if_neg hx] at h
   obtain⟨y,h1,h2⟩:=Jff h
   exact⟨y,List.mem_cons_of_mem _ h1,h2⟩
theorem Uo {k:ByteArray} (h:Y2 k=true):k=Jl∨k=Jv∨k=Uc∨k=Kf∨k=K2∨k=Vj∨k=Jp∨k=Jr∨k=Kb∨k=Ka∨k=Jh:=by
 obtain⟨x,hx,hk⟩:=Jff h
 have hk:=Jw5 hk
 unfold Dc at hx
 subst hk
 rcases List.mem_cons.1 hx with rfl|hx
 ·exact .inl rfl
 rcases List.mem_cons.1 hx with rfl|hx
 ·exact .inr (.inl rfl)
 rcases List.mem_cons.1 hx with rfl|hx
 ·exact .inr (.inr (.inl rfl))
 rcases List.mem_cons.1 hx with rfl|hx
 ·exact .inr (.inr (.inr (.inl rfl)))
 rcases List.mem_cons.1 hx with rfl|hx
 ·exact .inr (.inr (.inr (.inr (.inl rfl))))
 rcases List.mem_cons.1 hx with rfl|hx
 ·exact .inr (.inr (.inr (.inr (.inr (.inl rfl)))))
 rcases List.mem_cons.1 hx with rfl|hx
 ·exact .inr (.inr (.inr (.inr (.inr (.inr (.inl rfl))))))
 rcases List.mem_cons.1 hx with rfl|hx
 ·exact .inr (.inr (.inr (.inr (.inr (.inr (.inr (.inl rfl)))))))
 rcases List.mem_cons.1 hx with rfl|hx
 ·exact .inr (.inr (.inr (.inr (.inr (.inr (.inr (.inr (.inl rfl))))))))
 rcases List.mem_cons.1 hx with rfl|hx
 ·exact .inr (.inr (.inr (.inr (.inr (.inr (.inr (.inr (.inr (.inl rfl)))))))))
 rcases List.mem_cons.1 hx with rfl|hx
 ·exact .inr (.inr (.inr (.inr (.inr (.inr (.inr (.inr (.inr (.inr rfl)))))))))
 cases hx
theorem Jbi:∀{l:List Prop} {q:Prop},(Us l→J5l l q)→J5l l q
 |[],_,h=>h trivial
 |[_],_,h=>fun hp=>h hp hp
 |_::p'::r,_,h=>fun hp=>Jbi (l:=p'::r) fun hr=>h ⟨hp,hr⟩ hp
theorem Jis {Γ:Gam} {ann:Nat→Option Ann} {annF:FuncId→Nat→Option Ann} {lib:FuncId→Option Func} {fn:Func} {c:Zh} {T:TypeId} {x:c.s.T} {y:ATup c.args} (hb:fn.body.isSome=true) (h:Us (c.pre x y)→wpFO Tryz.prog Γ ann annF lib fn c T x y):wpFO Tryz.prog Γ ann annF lib fn c T x y:=by
 unfold wpFO at h⊢
 cases hc:fn.body with
 |none=>rw[hc] at hb;cases hb
 |some code=>
  rw[hc] at h
  exact Jbi h
def Jcg (k:ByteArray):Nat:=if k=Jl then 1 else(Jk k).1.length+1
theorem Kr0 (T:TypeId):∀(x:Kh) (y:ATup [aEv]),wpFO Tryz.prog W91.g (X0 (Jcg y.1.2.1)) (fun _=>na ()) (Sx.look ([(75,Tryz.f75)]:List (Nat×Func))) Tryz.f130 Jra T x y
 |(E,C,G),((n,k,ns,vs,tx),())=>by
  refine Jis (by kernel_rfl) fun hp=> ?_
  have hc:Jc (n,k,ns,vs,tx)=0:=hp.2
  rcases Uo (Ko hc).kind with h|h|h|h|h|h|h|h|h|h|h<;>dsimp only at h<;>subst h
  ·exact(show Jcg Jl=1 from by kernel_rfl)▸Jsd T E C G n ns vs tx
  ·exact(show Jcg Jv=2 from by kernel_rfl)▸Jiv T E C G n ns vs tx
  ·exact(show Jcg Uc=2 from by kernel_rfl)▸Jnl T E C G n ns vs tx
  ·exact(show Jcg Kf=4 from by kernel_rfl)▸Jnm T E C G n ns vs tx
  ·exact(show Jcg K2=2 from by kernel_rfl)▸Jnn T E C G n ns vs tx
  ·exact(show Jcg Vj=2 from by kernel_rfl)▸Jse T E C G n ns vs tx
  ·exact(show Jcg Jp=3 from by kernel_rfl)▸Jk9 T E C G n ns vs tx
  ·exact(show Jcg Jr=2 from by kernel_rfl)▸Jiw T E C G n ns vs tx
  ·exact(show Jcg Kb=3 from by kernel_rfl)▸Jk8 T E C G n ns vs tx
  ·exact(show Jcg Ka=2 from by kernel_rfl)▸Jk7 T E C G n ns vs tx
  ·exact(show Jcg Jh=1 from by kernel_rfl)▸Jk6 T E C G n ns vs tx
theorem Kga:Ok Tryz.prog 130 (Zh.con Jra):=Zk (Uk mixed W91.ok (by kernel_rfl) (by kernel_rfl) (U0 (l:=([(75,Tryz.f75)]:List (Nat×Func))) (List.forall_mem_cons.2 ⟨by kernel_rfl,by simp⟩)) (fun _ yy=>X0 (Jcg yy.1.2.1)) (fun _ _=>fun _=>na ()) fun T xx yy _=>Kr0 T xx yy)
abbrev W92:=W91.add Kga
def doS (r:Reg) (e:Ev):Reg:=match(Jk e.2.1).2.2.2.1 with
 |some 149=>Jbo r e
 |some 153=>Jac r e
 |some 155=>Jag r e
 |some 158=>Jah r e
 |some 160=>Jab r e
 |some 162=>Jae r e
 |some 165=>Jad r e
 |some 167=>Jaf r e
 |some 170=>Jhc r e
 |some 172=>Jbn r e
 |_=>r
def Jd (r:Reg) (e:Ev):Reg:=(e.2.2.2.1.getD 0 0,(doS r e).2)
def X1 (h:Kh) (e:Ev):Kh:=
 bif e.2.1.toList==Jl.toList then(h.1++[e],h.2.1.take (h.2.1.length-1),h.2.2.take (h.2.1.length-1)) else(h.1++[e],h.2.1++[e],h.2.2++[Jd (J8 h.2.2) e])
def Kx (h:Kh) (e:Ev):Int:=if Jc e≠0 then Jc e else Lt h e
def Fp (e:Ev):Prop:=e.2.2.1.length≤1000000∧e.2.2.2.1.length≤1000000∧∀s∈e.2.2.1,s.size≤1000000
def Vf (h:Kh) (e:Ev):Kh:=if Kx h e=0 then X1 h e else h
def Kl2:Zh:={T? :=none,s:=Jjf,args:=[aEv],ress:=[I],pre:=fun h (e,_)=>[Kr h,h.1.length<1000,Fp e],spec:=fun h (e,_)=>(Kx h e,()),post:=fun h (e,_)=>Vf h e}
def Jcx:Zh:={Kl2 with pre:=fun h (e,_)=>[Kr h,h.1.length<1000,Fp e,Jc e=0,Lt h e=0]}
theorem Fd {h:Kh} {n:Int} {ns:List ByteArray} {vs:List Int} {roles:List (Int×Bool)} {ck:Int} (e:Jrn h n ns vs roles ck=0):n=(h.1.length:Int)+1∧¬vs.getD 0 0<(J8 h.2.2).1∧J6 (J8 h.2.2) ns roles 0=false∧Kl (J8 h.2.2) ns roles 0=false∧ck=0:=by
 unfold Jrn at e
 cases h1:n !=(h.1.length:Int)+1 with
 |true=>rw[h1] at e;cases e
 | false =>
  rw[h1,cond_false] at e
  cases h2:decide (vs.getD 0 0<(J8 h.2.2).1) with
  |true=>rw[h2] at e;cases e
  | false =>
   rw[h2,cond_false] at e
   cases h3:J6 (J8 h.2.2) ns roles 0 with
   |true=>rw[h3] at e;cases e
   | false =>
    rw[h3,cond_false] at e
    cases h4:Kl (J8 h.2.2) ns roles 0 with
    |true=>rw[h4] at e;cases e
    |false=>
     rw[h4,cond_false] at e
     exact⟨bne_eq_false_iff_eq.1 h1,of_decide_eq_false h2,rfl,rfl,e⟩
theorem Jj {r:Reg} {ns:List ByteArray} {w:Int} {b:Bool} {l:List (Int×Bool)} {i:Nat} (h:J6 r ns ((w,b)::l) i=false):(b=true→Vt r w (ns.getD i Jb)=true)∧J6 r ns l (i+1)=false:=by
 unfold J6 at h
 cases b with
 |false=>exact⟨fun f=>(by cases f),h⟩
 |true=>
  cases h1:Vt r w (ns.getD i Jb) with
  |true=>rw[h1] at h;exact⟨fun _=>rfl,h⟩
  |false=>rw[h1] at h;cases h
theorem Jtg {r:Reg} {s:ByteArray} (h:Vt r 0 s=true):0≤J1 r.2.2.1 s:=of_decide_eq_true (show decide _=true from h)
theorem Jxf {r:Reg} {s:ByteArray} (h:Vt r 1 s=true):0≤Kg r.2.2.2.1 s:=of_decide_eq_true (show decide _=true from h)
theorem J0l {r:Reg} {s:ByteArray} (h:Vt r 2 s=true):0≤Jw r.2.2.2.2.2.1 s:=of_decide_eq_true (show decide _=true from h)
theorem Kgl {r:Reg} {s:ByteArray} (h:Vt r 3 s=true):0≤Uj r.2.2.2.2.2.2 s:=of_decide_eq_true (show decide _=true from h)
theorem J2c {h:Kh} {n:Int} {k:ByteArray} {ns:List ByteArray} {vs:List Int} {tx:ByteArray} (hk:(k.toList==Jl.toList)=false) (hc:Jc (n,k,ns,vs,tx)=0) (ha:Lt h (n,k,ns,vs,tx)=0):Kx h (n,k,ns,vs,tx)=0∧Vf h (n,k,ns,vs,tx)=(h.1++[(n,k,ns,vs,tx)],h.2.1++[(n,k,ns,vs,tx)],h.2.2++[Jd (J8 h.2.2) (n,k,ns,vs,tx)]):=by
 have e:Kx h (n,k,ns,vs,tx)=0:=by unfold Kx;rw[if_neg (by rw[hc];simp)];exact ha
 refine⟨e, ?_⟩
 unfold Vf;rw[if_pos e];unfold X1;dsimp only;rw[hk];rfl
theorem Jg8 {E C:List Ev} {G:List Reg} {n:Int} {k:ByteArray} {ns:List ByteArray} {vs:List Int} {tx:ByteArray} (hk:(k.toList==Jl.toList)=false) (hc:Jc (n,k,ns,vs,tx)=0) (ha:Lt (E,C,G) (n,k,ns,vs,tx)=0):J6 (J8 G) ns (Jk k).1 0=false∧Kx (E,C,G) (n,k,ns,vs,tx)=0∧Vf (E,C,G) (n,k,ns,vs,tx)=(E++[(n,k,ns,vs,tx)],C++[(n,k,ns,vs,tx)],G++[Jd (J8 G) (n,k,ns,vs,tx)]):=
 have e:=Y5 (h:=(E,C,G)) (n:=n) (ns:=ns) (vs:=vs) (tx:=tx) hk
 ⟨(Fd (e.symm.trans ha)).2.2.1,J2c hk hc ha⟩
theorem J3v {h:Kh} {n:Int} {ns:List ByteArray} {vs:List Int} {tx:ByteArray} (ha:Lt h (n,Jl,ns,vs,tx)=0):n=(h.1.length:Int)+1∧h.2.1.length≠0∧((h.2.1.getD (h.2.1.length-1) ev0).2.1.toList==Jh.toList)=false:=by
 unfold Lt at ha
 dsimp only at ha
 rw[show(Jl.toList==Jl.toList)=true from by kernel_rfl,cond_true] at ha
 cases h1:n !=(h.1.length:Int)+1 with
 |true=>rw[h1] at ha;cases ha
 | false =>
  rw[h1,cond_false] at ha
  cases h2:(h.2.1.length:Int)==0 with
  |true=>rw[h2] at ha;cases ha
  |false=>
   rw[h2,cond_false] at ha
   cases h3:(h.2.1.getD (h.2.1.length-1) ev0).2.1.toList==Jh.toList with
   |true=>rw[h3] at ha;cases ha
   |false=>exact⟨bne_eq_false_iff_eq.1 h1,(fun e=>by rw[e] at h2;cases h2),rfl⟩
def Z37 (a:List Ev):=List.length a<1000
def Jb8 (a:List Ev):=(List.length a+1)*88≤140737488355328
def Jdn:=0≤1000000∧T2 (0≤1000000) (Tw (0≤1000000))
def Jek (a:List Ev) (b:List Reg):=(List.take (Int.toNat (Z0 a)) a,List.take (Int.toNat (Z0 a)) b)
def F0 (a:List Ev) (b:List Reg):=Jb8 a∧(List.length b+1)*136≤140737488355328
def Jei (a:List Ev) (b:List Reg):=(0≤Z0 a∧Z0 a≤Ln a)∧0≤Z0 a∧Z0 a≤Ln b
def Jdm (a:Ls) (b:Li):=Fu a∧Z57 b∧Jgk a
def Zs (a:List Reg):=List.length (H6 a).1≤1000000∧List.length (H5 a).1≤1000000∧List.length (Du a).1≤1000000∧List.length (Hq a).1≤1000000∧List.length (Hq a).2≤1000000
theorem Jsf:wpFO Tryz.prog W92.g (na ()) (fun _=>na ()) (Sx.look ([(75,Tryz.f75),(129,Tryz.f129)]:List (Nat×Func))) Tryz.f121 Jcx T (E,C,G) ((n,Jl,ns,vs,tx),()):=by
 refine(by kernel_rfl:(Kr (E,C,G)→Z37 E→Fp (Z6 n ns vs tx)→Jc (Z6 n ns vs tx)=0→Jt0 E C G n ns vs tx=0→Jdm ns vs∧Br (Jc (Z6 n ns vs tx) !=0) (Sf true (Sf T ((E,C,G)=Vf (E,C,G) (Z6 n ns vs tx)∧Jc (Z6 n ns vs tx)=Kx (E,C,G) (Z6 n ns vs tx)))) ((Kr (E,C,G)∧Jc (Z6 n ns vs tx)=0)∧Br (Jt0 E C G n ns vs tx !=0) (Sf true (Sf T ((E,C,G)=Vf (E,C,G) (Z6 n ns vs tx)∧Jt0 E C G n ns vs tx=Kx (E,C,G) (Z6 n ns vs tx)))) (Jdp ns vs∧Jb8 E∧Br true (Z65 C∧Jei C G∧Sf true (Sf T ((E++[Z6 n ns vs tx],Jek C G)=Vf (E,C,G) (Z6 n ns vs tx)∧0=Kx (E,C,G) (Z6 n ns vs tx)))) (Br (Yg G) (Yf G∧Zs G∧False∧K7 vs∧F0 C G∧Sf true (Sf T ((E++[Z6 n ns vs tx],C++[Z6 n ns vs tx],G++[(Z98 vs,Ys G)])=Vf (E,C,G) (Z6 n ns vs tx)∧0=Kx (E,C,G) (Z6 n ns vs tx)))) (Jdn∧False∧K7 vs∧F0 C G∧Sf true (Sf T ((E++[Z6 n ns vs tx],C++[Z6 n ns vs tx],G++[(Z98 vs,Dq)])=Vf (E,C,G) (Z6 n ns vs tx)∧0=Kx (E,C,G) (Z6 n ns vs tx))))))))=_).mp ?_
 delta Z0 Z6 Z25 Z37 Z57 Z65 Z98 K7 Yg Fu Jt0 Jb8 Jgl Jdp Dq Jdn V0 Yf Jek Jgk F0 Fz Fy Jak H6 H5 Du Hq Jei Jdm Ys Zs Br Iw Bd T2 Tw Sf Ln Gt E2 Jl
 intro hh hlt hsz hc ha
 obtain⟨a1,a2,a3⟩:=J3v ha
 have n1:E.length≤1000:=hh.nE
 have n2:C.length≤E.length:=hh.nC
 have n3:G.length=C.length:=hh.nG
 have a2:C.length≠0:=a2
 have hC:((C.length:Int)-1).toNat=C.length-1:=by omega
 have eE:Kx (E,C,G) (n,Jl,ns,vs,tx)=0:=by unfold Kx;rw[if_neg (by rw[hc];simp)];exact ha
 have eP:Vf (E,C,G) (n,Jl,ns,vs,tx)=(E++[(n,Jl,ns,vs,tx)],C.take (C.length-1),G.take (C.length-1)):=by
  unfold Vf;rw[if_pos eE];unfold X1;dsimp only;rw[show(Jl.toList==Jl.toList)=true from by kernel_rfl];rfl
 simp only[eE,eP,hc,ha,hC]
 repeat' first|exact hh|exact hsz.2.2|apply And.intro|intro _
 all_goals first|trivial|omega|assumption|contradiction|exact hsz.1|exact hsz.2.1|rfl
def K27 (a:Int) (b:Ls) (c:Li) (d:Bt):=(Jbo V0 (Z29 a b c d)).2
def K2t (a:Int) (b:Ls) (c:Li) (d:Bt):=(K27 a b c d).2
def K2e (a:Int) (b:Ls) (c:Li) (d:Bt):=(K2t a b c d).2
def K18 (a:Int) (b:Ls) (c:Li) (d:Bt):=(K2e a b c d).2
def Kcp (a:List Reg) (b:Int) (c:Ls) (d:Li) (e:Bt):=(Jbo (Kz a) (Z29 b c d e)).2
def Kce (a:List Reg) (b:Int) (c:Ls) (d:Li) (e:Bt):=(Kcp a b c d e).2
def Kb4 (a:List Reg) (b:Int) (c:Ls) (d:Li) (e:Bt):=(Kce a b c d e).2
def Kbx (a:List Reg) (b:Int) (c:Ls) (d:Li) (e:Bt):=(Kb4 a b c d e).2
theorem Jix:wpFO Tryz.prog W92.g (na ()) (fun _=>na ()) (Sx.look ([(75,Tryz.f75),(129,Tryz.f129)]:List (Nat×Func))) Tryz.f121 Jcx T (E,C,G) ((n,Jv,ns,vs,tx),()):=by
 refine(by kernel_rfl:(Kr (E,C,G)→Z37 E→Fp (Z29 n ns vs tx)→Jc (Z29 n ns vs tx)=0→Jrr E C G n ns vs tx=0→Jdm ns vs∧Br (Jc (Z29 n ns vs tx) !=0) (Sf true (Sf T ((E,C,G)=Vf (E,C,G) (Z29 n ns vs tx)∧Jc (Z29 n ns vs tx)=Kx (E,C,G) (Z29 n ns vs tx)))) ((Kr (E,C,G)∧Jc (Z29 n ns vs tx)=0)∧Br (Jrr E C G n ns vs tx !=0) (Sf true (Sf T ((E,C,G)=Vf (E,C,G) (Z29 n ns vs tx)∧Jrr E C G n ns vs tx=Kx (E,C,G) (Z29 n ns vs tx)))) (Jdp ns vs∧Jb8 E∧Br false (Z65 C∧Jei C G∧Sf true (Sf T ((E++[Z29 n ns vs tx],Jek C G)=Vf (E,C,G) (Z29 n ns vs tx)∧0=Kx (E,C,G) (Z29 n ns vs tx)))) (Br (Yg G) (Yf G∧Zs G∧(Ub G∧Xo ns∧Z45 vs)∧K7 vs∧F0 C G∧Sf true (Sf T ((E++[Z29 n ns vs tx],C++[Z29 n ns vs tx],G++[(Z98 vs,(Kcp G n ns vs tx).1,(Kce G n ns vs tx).1,(Kb4 G n ns vs tx).1,(Kbx G n ns vs tx).1,E2 (Kbx G n ns vs tx).2)])=Vf (E,C,G) (Z29 n ns vs tx)∧0=Kx (E,C,G) (Z29 n ns vs tx)))) (Jdn∧(Xb∧Xo ns∧Z45 vs)∧K7 vs∧F0 C G∧Sf true (Sf T ((E++[Z29 n ns vs tx],C++[Z29 n ns vs tx],G++[(Z98 vs,(K27 n ns vs tx).1,(K2t n ns vs tx).1,(K2e n ns vs tx).1,(K18 n ns vs tx).1,E2 (K18 n ns vs tx).2)])=Vf (E,C,G) (Z29 n ns vs tx)∧0=Kx (E,C,G) (Z29 n ns vs tx))))))))=_).mp ?_
 delta Z0 Z25 Z29 Z37 Z45 Z57 Z65 Z98 K7 Yg Xo Fu Jrr Jb8 Jgl Jdp Dq Jdn V0 Yf Xb Jek Jgk F0 K27 Fz Fy K2t Ja1 Jak H6 K2e H5 K18 Du Hq Jei Jdm Ys Zs Kz Ub Kcp Kce Kb4 Kbx Br Iw Bd T2 Tw Sf Ln Gt E2 Jv
 intro hh hlt hsz hc ha
 obtain⟨u0,aE,aP⟩:=Jg8 (k:=Jv) (by kernel_rfl) hc ha
 obtain⟨hn,hv,hR,_,n1,n2,n3,hG,hV⟩:=Lf hh hc
 simp only[Kc,List.length_cons,List.length_nil] at hn hv u0
 have hs:Jd (J8 G) (n,Jv,ns,vs,tx)=(vs.getD 0 0,(Jbo (J8 G) (n,Jv,ns,vs,tx)).2):=by simp only[Jd,doS,Kc]
 simp only[aE,aP,hs,hc,ha,hG,H8,Jh4,Prod.eta]
 repeat' first|exact hV|exact hh|exact hR|exact hsz.2.2|apply And.intro|intro _
 all_goals first|trivial|omega|assumption|exact Nat.le_trans hR.nS (by decide)|exact Nat.le_trans hR.nO (by decide)|exact Nat.le_trans hR.nM (by decide)|exact Nat.le_trans hR.nX (by decide)|exact Nat.le_trans hR.nQ (by decide)|exact Nat.zero_le _|exact hsz.1|exact hsz.2.1|(rename_i h;have h:=of_decide_eq_true h;omega)|rfl|(rw[←Ku ‹_›];first|done|exact hR)
def K3g (a:Int) (b:Ls) (c:Li) (d:Bt):=(Jac V0 (Z12 a b c d)).2
def K22 (a:Int) (b:Ls) (c:Li) (d:Bt):=(K3g a b c d).2
def K2s (a:Int) (b:Ls) (c:Li) (d:Bt):=(K22 a b c d).2
def K2k (a:Int) (b:Ls) (c:Li) (d:Bt):=(K2s a b c d).2
def Kcx (a:List Reg) (b:Int) (c:Ls) (d:Li) (e:Bt):=(Jac (Kz a) (Z12 b c d e)).2
def Kcm (a:List Reg) (b:Int) (c:Ls) (d:Li) (e:Bt):=(Kcx a b c d e).2
def Kcd (a:List Reg) (b:Int) (c:Ls) (d:Li) (e:Bt):=(Kcm a b c d e).2
def Kb5 (a:List Reg) (b:Int) (c:Ls) (d:Li) (e:Bt):=(Kcd a b c d e).2
theorem Jno:wpFO Tryz.prog W92.g (na ()) (fun _=>na ()) (Sx.look ([(75,Tryz.f75),(129,Tryz.f129)]:List (Nat×Func))) Tryz.f121 Jcx T (E,C,G) ((n,Uc,ns,vs,tx),()):=by
 refine(by kernel_rfl:(Kr (E,C,G)→Z37 E→Fp (Z12 n ns vs tx)→Jc (Z12 n ns vs tx)=0→Jty E C G n ns vs tx=0→Jdm ns vs∧Br (Jc (Z12 n ns vs tx) !=0) (Sf true (Sf T ((E,C,G)=Vf (E,C,G) (Z12 n ns vs tx)∧Jc (Z12 n ns vs tx)=Kx (E,C,G) (Z12 n ns vs tx)))) ((Kr (E,C,G)∧Jc (Z12 n ns vs tx)=0)∧Br (Jty E C G n ns vs tx !=0) (Sf true (Sf T ((E,C,G)=Vf (E,C,G) (Z12 n ns vs tx)∧Jty E C G n ns vs tx=Kx (E,C,G) (Z12 n ns vs tx)))) (Jdp ns vs∧Jb8 E∧Br false (Z65 C∧Jei C G∧Sf true (Sf T ((E++[Z12 n ns vs tx],Jek C G)=Vf (E,C,G) (Z12 n ns vs tx)∧0=Kx (E,C,G) (Z12 n ns vs tx)))) (Br (Yg G) (Yf G∧Zs G∧(Ub G∧Xo ns∧Z45 vs∧0≤J1 (H6 G).1 (Dh ns))∧K7 vs∧F0 C G∧Sf true (Sf T ((E++[Z12 n ns vs tx],C++[Z12 n ns vs tx],G++[(Z98 vs,(Kcx G n ns vs tx).1,(Kcm G n ns vs tx).1,(Kcd G n ns vs tx).1,(Kb5 G n ns vs tx).1,E2 (Kb5 G n ns vs tx).2)])=Vf (E,C,G) (Z12 n ns vs tx)∧0=Kx (E,C,G) (Z12 n ns vs tx)))) (Jdn∧(Xb∧Xo ns∧Z45 vs∧0≤J1 [] (Dh ns))∧K7 vs∧F0 C G∧Sf true (Sf T ((E++[Z12 n ns vs tx],C++[Z12 n ns vs tx],G++[(Z98 vs,(K3g n ns vs tx).1,(K22 n ns vs tx).1,(K2s n ns vs tx).1,(K2k n ns vs tx).1,E2 (K2k n ns vs tx).2)])=Vf (E,C,G) (Z12 n ns vs tx)∧0=Kx (E,C,G) (Z12 n ns vs tx))))))))=_).mp ?_
 delta Z0 Z12 Z25 Z37 Z45 Z57 Z65 Z98 K7 Yg Dh Xo Fu Jty Jb8 Jgl Jdp Dq Jdn V0 Yf Xb Jek Jgk F0 K3g Fz K22 Fy K2s Ja1 K2k Jak H6 H5 Du Hq Jei Jdm Ys Zs Kz Ub Kcx Kcm Kcd Kb5 Br Iw Bd T2 Tw Sf Ln Gt E2 Uc
 intro hh hlt hsz hc ha
 obtain⟨u0,aE,aP⟩:=Jg8 (k:=Uc) (by kernel_rfl) hc ha
 obtain⟨hn,hv,hR,_,n1,n2,n3,hG,hV⟩:=Lf hh hc
 simp only[K8,List.length_cons,List.length_nil] at hn hv u0
 obtain⟨k0,u1⟩:=Jj u0
 have f0:=Jtg (k0 rfl)
 have hs:Jd (J8 G) (n,Uc,ns,vs,tx)=(vs.getD 0 0,(Jac (J8 G) (n,Uc,ns,vs,tx)).2):=by simp only[Jd,doS,K8]
 simp only[aE,aP,hs,hc,ha,hG,H8,Jh4,Prod.eta]
 repeat' first|exact hV|exact hh|exact hR|exact hsz.2.2|apply And.intro|intro _
 all_goals first|trivial|omega|assumption|exact Nat.le_trans hR.nS (by decide)|exact Nat.le_trans hR.nO (by decide)|exact Nat.le_trans hR.nM (by decide)|exact Nat.le_trans hR.nX (by decide)|exact Nat.le_trans hR.nQ (by decide)|exact Nat.zero_le _|exact hsz.1|exact hsz.2.1|(rename_i h;have h:=of_decide_eq_true h;omega)|rfl|(rw[←Ku ‹_›];first|done|exact hR)|(rw[Ku ‹_›] at f0;exact f0)
def K3f (a:Int) (b:Ls) (c:Li) (d:Bt):=(Jag V0 (Z13 a b c d)).2
def K24 (a:Int) (b:Ls) (c:Li) (d:Bt):=(K3f a b c d).2
def K2v (a:Int) (b:Ls) (c:Li) (d:Bt):=(K24 a b c d).2
def K2i (a:Int) (b:Ls) (c:Li) (d:Bt):=(K2v a b c d).2
def Kcy (a:List Reg) (b:Int) (c:Ls) (d:Li) (e:Bt):=(Jag (Kz a) (Z13 b c d e)).2
def Kcn (a:List Reg) (b:Int) (c:Ls) (d:Li) (e:Bt):=(Kcy a b c d e).2
def Kcg (a:List Reg) (b:Int) (c:Ls) (d:Li) (e:Bt):=(Kcn a b c d e).2
def Kb2 (a:List Reg) (b:Int) (c:Ls) (d:Li) (e:Bt):=(Kcg a b c d e).2
theorem Jnp:wpFO Tryz.prog W92.g (na ()) (fun _=>na ()) (Sx.look ([(75,Tryz.f75),(129,Tryz.f129)]:List (Nat×Func))) Tryz.f121 Jcx T (E,C,G) ((n,Kf,ns,vs,tx),()):=by
 refine(by kernel_rfl:(Kr (E,C,G)→Z37 E→Fp (Z13 n ns vs tx)→Jc (Z13 n ns vs tx)=0→Jrw E C G n ns vs tx=0→Jdm ns vs∧Br (Jc (Z13 n ns vs tx) !=0) (Sf true (Sf T ((E,C,G)=Vf (E,C,G) (Z13 n ns vs tx)∧Jc (Z13 n ns vs tx)=Kx (E,C,G) (Z13 n ns vs tx)))) ((Kr (E,C,G)∧Jc (Z13 n ns vs tx)=0)∧Br (Jrw E C G n ns vs tx !=0) (Sf true (Sf T ((E,C,G)=Vf (E,C,G) (Z13 n ns vs tx)∧Jrw E C G n ns vs tx=Kx (E,C,G) (Z13 n ns vs tx)))) (Jdp ns vs∧Jb8 E∧Br false (Z65 C∧Jei C G∧Sf true (Sf T ((E++[Z13 n ns vs tx],Jek C G)=Vf (E,C,G) (Z13 n ns vs tx)∧0=Kx (E,C,G) (Z13 n ns vs tx)))) (Br (Yg G) (Yf G∧Zs G∧(Ub G∧Juq ns∧Kmv vs G ns)∧K7 vs∧F0 C G∧Sf true (Sf T ((E++[Z13 n ns vs tx],C++[Z13 n ns vs tx],G++[(Z98 vs,(Kcy G n ns vs tx).1,(Kcn G n ns vs tx).1,(Kcg G n ns vs tx).1,(Kb2 G n ns vs tx).1,E2 (Kb2 G n ns vs tx).2)])=Vf (E,C,G) (Z13 n ns vs tx)∧0=Kx (E,C,G) (Z13 n ns vs tx)))) (Jdn∧(Xb∧Juq ns∧Kpj vs ns)∧K7 vs∧F0 C G∧Sf true (Sf T ((E++[Z13 n ns vs tx],C++[Z13 n ns vs tx],G++[(Z98 vs,(K3f n ns vs tx).1,(K24 n ns vs tx).1,(K2v n ns vs tx).1,(K2i n ns vs tx).1,E2 (K2i n ns vs tx).2)])=Vf (E,C,G) (Z13 n ns vs tx)∧0=Kx (E,C,G) (Z13 n ns vs tx))))))))=_).mp ?_
 delta Z0 Z13 Z25 Z37 Z57 Z64 Z65 Z98 K7 Yg Juq Fu Jks Jrw Jb8 Jgl Kk5 Jdp Dq Jdn V0 Yf Xb Jek Kpj Jgk F0 K3f Fz K24 K2v Fy Ja1 Jak H6 K2i H5 Du Hq Jei Jdm Kjj Kmv Ys Zs Kz Ub Kcy Kcn Kcg Kb2 Br Iw Bd T2 Tw Sf Ln Gt E2 Kf
 intro hh hlt hsz hc ha
 obtain⟨u0,aE,aP⟩:=Jg8 (k:=Kf) (by kernel_rfl) hc ha
 obtain⟨hn,hv,hR,_,n1,n2,n3,hG,hV⟩:=Lf hh hc
 simp only[Kp,List.length_cons,List.length_nil] at hn hv u0
 obtain⟨k0,u1⟩:=Jj u0
 obtain⟨k1,u2⟩:=Jj u1
 obtain⟨k2,u3⟩:=Jj u2
 have f1:=Jtg (k1 rfl)
 have f2:=Jtg (k2 rfl)
 have hs:Jd (J8 G) (n,Kf,ns,vs,tx)=(vs.getD 0 0,(Jag (J8 G) (n,Kf,ns,vs,tx)).2):=by simp only[Jd,doS,Kp]
 simp only[aE,aP,hs,hc,ha,hG,H8,Jh4,Prod.eta]
 repeat' first|exact hV|exact hh|exact hR|exact hsz.2.2|apply And.intro|intro _
 all_goals first|trivial|omega|assumption|exact Nat.le_trans hR.nS (by decide)|exact Nat.le_trans hR.nO (by decide)|exact Nat.le_trans hR.nM (by decide)|exact Nat.le_trans hR.nX (by decide)|exact Nat.le_trans hR.nQ (by decide)|exact Nat.zero_le _|exact hsz.1|exact hsz.2.1|(rename_i h;have h:=of_decide_eq_true h;omega)|rfl|(rw[←Ku ‹_›];first|done|exact hR)|(rw[Ku ‹_›] at f1;exact f1)|(rw[Ku ‹_›] at f2;exact f2)
def K3e (a:Int) (b:Ls) (c:Li) (d:Bt):=(Jah V0 (Z10 a b c d)).2
def K21 (a:Int) (b:Ls) (c:Li) (d:Bt):=(K3e a b c d).2
def K2u (a:Int) (b:Ls) (c:Li) (d:Bt):=(K21 a b c d).2
def K2j (a:Int) (b:Ls) (c:Li) (d:Bt):=(K2u a b c d).2
def Kcw (a:List Reg) (b:Int) (c:Ls) (d:Li) (e:Bt):=(Jah (Kz a) (Z10 b c d e)).2
def Kco (a:List Reg) (b:Int) (c:Ls) (d:Li) (e:Bt):=(Kcw a b c d e).2
def Kcf (a:List Reg) (b:Int) (c:Ls) (d:Li) (e:Bt):=(Kco a b c d e).2
def Kb3 (a:List Reg) (b:Int) (c:Ls) (d:Li) (e:Bt):=(Kcf a b c d e).2
theorem Jnq:wpFO Tryz.prog W92.g (na ()) (fun _=>na ()) (Sx.look ([(75,Tryz.f75),(129,Tryz.f129)]:List (Nat×Func))) Tryz.f121 Jcx T (E,C,G) ((n,K2,ns,vs,tx),()):=by
 refine(by kernel_rfl:(Kr (E,C,G)→Z37 E→Fp (Z10 n ns vs tx)→Jc (Z10 n ns vs tx)=0→Jrx E C G n ns vs tx=0→Jdm ns vs∧Br (Jc (Z10 n ns vs tx) !=0) (Sf true (Sf T ((E,C,G)=Vf (E,C,G) (Z10 n ns vs tx)∧Jc (Z10 n ns vs tx)=Kx (E,C,G) (Z10 n ns vs tx)))) ((Kr (E,C,G)∧Jc (Z10 n ns vs tx)=0)∧Br (Jrx E C G n ns vs tx !=0) (Sf true (Sf T ((E,C,G)=Vf (E,C,G) (Z10 n ns vs tx)∧Jrx E C G n ns vs tx=Kx (E,C,G) (Z10 n ns vs tx)))) (Jdp ns vs∧Jb8 E∧Br false (Z65 C∧Jei C G∧Sf true (Sf T ((E++[Z10 n ns vs tx],Jek C G)=Vf (E,C,G) (Z10 n ns vs tx)∧0=Kx (E,C,G) (Z10 n ns vs tx)))) (Br (Yg G) (Yf G∧Zs G∧(Ub G∧Xo ns∧Z56 vs)∧K7 vs∧F0 C G∧Sf true (Sf T ((E++[Z10 n ns vs tx],C++[Z10 n ns vs tx],G++[(Z98 vs,(Kcw G n ns vs tx).1,(Kco G n ns vs tx).1,(Kcf G n ns vs tx).1,(Kb3 G n ns vs tx).1,E2 (Kb3 G n ns vs tx).2)])=Vf (E,C,G) (Z10 n ns vs tx)∧0=Kx (E,C,G) (Z10 n ns vs tx)))) (Jdn∧(Xb∧Xo ns∧Z56 vs)∧K7 vs∧F0 C G∧Sf true (Sf T ((E++[Z10 n ns vs tx],C++[Z10 n ns vs tx],G++[(Z98 vs,(K3e n ns vs tx).1,(K21 n ns vs tx).1,(K2u n ns vs tx).1,(K2j n ns vs tx).1,E2 (K2j n ns vs tx).2)])=Vf (E,C,G) (Z10 n ns vs tx)∧0=Kx (E,C,G) (Z10 n ns vs tx))))))))=_).mp ?_
 delta Z0 Z10 Z25 Z37 Z56 Z57 Z65 Z98 K7 Yg Xo Fu Jrx Jb8 Jgl Jdp Dq Jdn V0 Yf Xb Jek Jgk F0 K3e Fz K21 Fy K2u Ja1 Jak K2j H6 H5 Du Hq Jei Jdm Ys Zs Kz Ub Kcw Kco Kcf Kb3 Br Iw Bd T2 Tw Sf Ln Gt E2 K2
 intro hh hlt hsz hc ha
 obtain⟨u0,aE,aP⟩:=Jg8 (k:=K2) (by kernel_rfl) hc ha
 obtain⟨hn,hv,hR,_,n1,n2,n3,hG,hV⟩:=Lf hh hc
 simp only[Kq,List.length_cons,List.length_nil] at hn hv u0
 obtain⟨k0,u1⟩:=Jj u0
 have f0:=Jxf (k0 rfl)
 have hs:Jd (J8 G) (n,K2,ns,vs,tx)=(vs.getD 0 0,(Jah (J8 G) (n,K2,ns,vs,tx)).2):=by simp only[Jd,doS,Kq]
 simp only[aE,aP,hs,hc,ha,hG,H8,Jh4,Prod.eta]
 repeat' first|exact hV|exact hh|exact hR|exact hsz.2.2|apply And.intro|intro _
 all_goals first|trivial|omega|assumption|exact Nat.le_trans hR.nS (by decide)|exact Nat.le_trans hR.nO (by decide)|exact Nat.le_trans hR.nM (by decide)|exact Nat.le_trans hR.nX (by decide)|exact Nat.le_trans hR.nQ (by decide)|exact Nat.zero_le _|exact hsz.1|exact hsz.2.1|(rename_i h;have h:=of_decide_eq_true h;omega)|rfl|(rw[←Ku ‹_›];first|done|exact hR)|(rw[Ku ‹_›] at f0;exact f0)
def K3j (a:Int) (b:Ls) (c:Li) (d:Bt):=(Jab V0 (Z1 a b c d)).2
def K29 (a:Int) (b:Ls) (c:Li) (d:Bt):=(K3j a b c d).2
def K2z (a:Int) (b:Ls) (c:Li) (d:Bt):=(K29 a b c d).2
def K2m (a:Int) (b:Ls) (c:Li) (d:Bt):=(K2z a b c d).2
def Kcz (a:List Reg) (b:Int) (c:Ls) (d:Li) (e:Bt):=(Jab (Kz a) (Z1 b c d e)).2
def Kct (a:List Reg) (b:Int) (c:Ls) (d:Li) (e:Bt):=(Kcz a b c d e).2
def Kcj (a:List Reg) (b:Int) (c:Ls) (d:Li) (e:Bt):=(Kct a b c d e).2
def Kca (a:List Reg) (b:Int) (c:Ls) (d:Li) (e:Bt):=(Kcj a b c d e).2
theorem Jsg:wpFO Tryz.prog W92.g (na ()) (fun _=>na ()) (Sx.look ([(75,Tryz.f75),(129,Tryz.f129)]:List (Nat×Func))) Tryz.f121 Jcx T (E,C,G) ((n,Vj,ns,vs,tx),()):=by
 refine(by kernel_rfl:(Kr (E,C,G)→Z37 E→Fp (Z1 n ns vs tx)→Jc (Z1 n ns vs tx)=0→Jry E C G n ns vs tx=0→Jdm ns vs∧Br (Jc (Z1 n ns vs tx) !=0) (Sf true (Sf T ((E,C,G)=Vf (E,C,G) (Z1 n ns vs tx)∧Jc (Z1 n ns vs tx)=Kx (E,C,G) (Z1 n ns vs tx)))) ((Kr (E,C,G)∧Jc (Z1 n ns vs tx)=0)∧Br (Jry E C G n ns vs tx !=0) (Sf true (Sf T ((E,C,G)=Vf (E,C,G) (Z1 n ns vs tx)∧Jry E C G n ns vs tx=Kx (E,C,G) (Z1 n ns vs tx)))) (Jdp ns vs∧Jb8 E∧Br false (Z65 C∧Jei C G∧Sf true (Sf T ((E++[Z1 n ns vs tx],Jek C G)=Vf (E,C,G) (Z1 n ns vs tx)∧0=Kx (E,C,G) (Z1 n ns vs tx)))) (Br (Yg G) (Yf G∧Zs G∧J4j G ns vs∧K7 vs∧F0 C G∧Sf true (Sf T ((E++[Z1 n ns vs tx],C++[Z1 n ns vs tx],G++[(Z98 vs,(Kcz G n ns vs tx).1,(Kct G n ns vs tx).1,(Kcj G n ns vs tx).1,(Kca G n ns vs tx).1,E2 (Kca G n ns vs tx).2)])=Vf (E,C,G) (Z1 n ns vs tx)∧0=Kx (E,C,G) (Z1 n ns vs tx)))) (Jdn∧Kmp ns vs∧K7 vs∧F0 C G∧Sf true (Sf T ((E++[Z1 n ns vs tx],C++[Z1 n ns vs tx],G++[(Z98 vs,(K3j n ns vs tx).1,(K29 n ns vs tx).1,(K2z n ns vs tx).1,(K2m n ns vs tx).1,E2 (K2m n ns vs tx).2)])=Vf (E,C,G) (Z1 n ns vs tx)∧0=Kx (E,C,G) (Z1 n ns vs tx))))))))=_).mp ?_
 delta Z0 Z1 Z25 Z37 Z57 Z58 Z65 Z98 K7 Yg Dh Xo Fu Jry Jb8 Jgl Kk6 Jdp Dq Jdn V0 Yf Xb Jek Jgk F0 K3j K29 Fz K2z Fy Ja1 K2m Jak H6 H5 Du Hq Jei Jdm Kjf Kmp Ys Zs Kz Ub Kcz Kct Kcj Kca J4j Br Iw Bd T2 Tw Sf Ln Gt E2 Vj
 intro hh hlt hsz hc ha
 obtain⟨u0,aE,aP⟩:=Jg8 (k:=Vj) (by kernel_rfl) hc ha
 obtain⟨hn,hv,hR,_,n1,n2,n3,hG,hV⟩:=Lf hh hc
 simp only[Uf,List.length_cons,List.length_nil] at hn hv u0
 obtain⟨k0,u1⟩:=Jj u0
 have f0:=Jxf (k0 rfl)
 have hs:Jd (J8 G) (n,Vj,ns,vs,tx)=(vs.getD 0 0,(Jab (J8 G) (n,Vj,ns,vs,tx)).2):=by simp only[Jd,doS,Uf]
 simp only[aE,aP,hs,hc,ha,hG,H8,Jh4,Prod.eta]
 repeat' first|exact hV|exact hh|exact hR|exact hsz.2.2|apply And.intro|intro _
 all_goals first|trivial|omega|assumption|exact Nat.le_trans hR.nS (by decide)|exact Nat.le_trans hR.nO (by decide)|exact Nat.le_trans hR.nM (by decide)|exact Nat.le_trans hR.nX (by decide)|exact Nat.le_trans hR.nQ (by decide)|exact Nat.zero_le _|exact hsz.1|exact hsz.2.1|(rename_i h;have h:=of_decide_eq_true h;omega)|rfl|(rw[←Ku ‹_›];first|done|exact hR)|(rw[Ku ‹_›] at f0;exact f0)
def K3a (a:Int) (b:Ls) (c:Li) (d:Bt):=(Jae V0 (Z20 a b c d)).2
def K2w (a:Int) (b:Ls) (c:Li) (d:Bt):=(K3a a b c d).2
def K2o (a:Int) (b:Ls) (c:Li) (d:Bt):=(K2w a b c d).2
def K2c (a:Int) (b:Ls) (c:Li) (d:Bt):=(K2o a b c d).2
def Kcs (a:List Reg) (b:Int) (c:Ls) (d:Li) (e:Bt):=(Jae (Kz a) (Z20 b c d e)).2
def Kch (a:List Reg) (b:Int) (c:Ls) (d:Li) (e:Bt):=(Kcs a b c d e).2
def Kb9 (a:List Reg) (b:Int) (c:Ls) (d:Li) (e:Bt):=(Kch a b c d e).2
def Kb0 (a:List Reg) (b:Int) (c:Ls) (d:Li) (e:Bt):=(Kb9 a b c d e).2
theorem Jld:wpFO Tryz.prog W92.g (na ()) (fun _=>na ()) (Sx.look ([(75,Tryz.f75),(129,Tryz.f129)]:List (Nat×Func))) Tryz.f121 Jcx T (E,C,G) ((n,Jp,ns,vs,tx),()):=by
 refine(by kernel_rfl:(Kr (E,C,G)→Z37 E→Fp (Z20 n ns vs tx)→Jc (Z20 n ns vs tx)=0→Jrt E C G n ns vs tx=0→Jdm ns vs∧Br (Jc (Z20 n ns vs tx) !=0) (Sf true (Sf T ((E,C,G)=Vf (E,C,G) (Z20 n ns vs tx)∧Jc (Z20 n ns vs tx)=Kx (E,C,G) (Z20 n ns vs tx)))) ((Kr (E,C,G)∧Jc (Z20 n ns vs tx)=0)∧Br (Jrt E C G n ns vs tx !=0) (Sf true (Sf T ((E,C,G)=Vf (E,C,G) (Z20 n ns vs tx)∧Jrt E C G n ns vs tx=Kx (E,C,G) (Z20 n ns vs tx)))) (Jdp ns vs∧Jb8 E∧Br false (Z65 C∧Jei C G∧Sf true (Sf T ((E++[Z20 n ns vs tx],Jek C G)=Vf (E,C,G) (Z20 n ns vs tx)∧0=Kx (E,C,G) (Z20 n ns vs tx)))) (Br (Yg G) (Yf G∧Zs G∧(Ub G∧Jr5 ns∧Z64 vs)∧K7 vs∧F0 C G∧Sf true (Sf T ((E++[Z20 n ns vs tx],C++[Z20 n ns vs tx],G++[(Z98 vs,(Kcs G n ns vs tx).1,(Kch G n ns vs tx).1,(Kb9 G n ns vs tx).1,(Kb0 G n ns vs tx).1,E2 (Kb0 G n ns vs tx).2)])=Vf (E,C,G) (Z20 n ns vs tx)∧0=Kx (E,C,G) (Z20 n ns vs tx)))) (Jdn∧(Xb∧Jr5 ns∧Z64 vs)∧K7 vs∧F0 C G∧Sf true (Sf T ((E++[Z20 n ns vs tx],C++[Z20 n ns vs tx],G++[(Z98 vs,(K3a n ns vs tx).1,(K2w n ns vs tx).1,(K2o n ns vs tx).1,(K2c n ns vs tx).1,E2 (K2c n ns vs tx).2)])=Vf (E,C,G) (Z20 n ns vs tx)∧0=Kx (E,C,G) (Z20 n ns vs tx))))))))=_).mp ?_
 delta Z0 Z20 Z25 Z37 Z57 Z64 Z65 Z98 K7 Yg Jr5 Fu Jrt Jb8 Jgl Jdp Dq Jdn V0 Yf Xb Jek Jgk F0 K3a Fz K2w Fy Ja1 K2o Jak H6 K2c H5 Du Hq Jei Jdm Ys Zs Kz Ub Kcs Kch Kb9 Kb0 Br Iw Bd T2 Tw Sf Ln Gt E2 Jp
 intro hh hlt hsz hc ha
 obtain⟨u0,aE,aP⟩:=Jg8 (k:=Jp) (by kernel_rfl) hc ha
 obtain⟨hn,hv,hR,_,n1,n2,n3,hG,hV⟩:=Lf hh hc
 simp only[Jy,List.length_cons,List.length_nil] at hn hv u0
 obtain⟨k0,u1⟩:=Jj u0
 obtain⟨k1,u2⟩:=Jj u1
 have f1:=Jtg (k1 rfl)
 have hs:Jd (J8 G) (n,Jp,ns,vs,tx)=(vs.getD 0 0,(Jae (J8 G) (n,Jp,ns,vs,tx)).2):=by simp only[Jd,doS,Jy]
 simp only[aE,aP,hs,hc,ha,hG,H8,Jh4,Prod.eta]
 repeat' first|exact hV|exact hh|exact hR|exact hsz.2.2|apply And.intro|intro _
 all_goals first|trivial|omega|assumption|exact Nat.le_trans hR.nS (by decide)|exact Nat.le_trans hR.nO (by decide)|exact Nat.le_trans hR.nM (by decide)|exact Nat.le_trans hR.nX (by decide)|exact Nat.le_trans hR.nQ (by decide)|exact Nat.zero_le _|exact hsz.1|exact hsz.2.1|(rename_i h;have h:=of_decide_eq_true h;omega)|rfl|(rw[←Ku ‹_›];first|done|exact hR)|(rw[Ku ‹_›] at f1;exact f1)
def K25 (a:Int) (b:Ls) (c:Li) (d:Bt):=(Jad V0 (Z30 a b c d)).2
def K2r (a:Int) (b:Ls) (c:Li) (d:Bt):=(K25 a b c d).2
def K2h (a:Int) (b:Ls) (c:Li) (d:Bt):=(K2r a b c d).2
def K19 (a:Int) (b:Ls) (c:Li) (d:Bt):=(K2h a b c d).2
def Kcl (a:List Reg) (b:Int) (c:Ls) (d:Li) (e:Bt):=(Jad (Kz a) (Z30 b c d e)).2
def Kcc (a:List Reg) (b:Int) (c:Ls) (d:Li) (e:Bt):=(Kcl a b c d e).2
def Kb6 (a:List Reg) (b:Int) (c:Ls) (d:Li) (e:Bt):=(Kcc a b c d e).2
def Kbw (a:List Reg) (b:Int) (c:Ls) (d:Li) (e:Bt):=(Kb6 a b c d e).2
theorem Jiy:wpFO Tryz.prog W92.g (na ()) (fun _=>na ()) (Sx.look ([(75,Tryz.f75),(129,Tryz.f129)]:List (Nat×Func))) Tryz.f121 Jcx T (E,C,G) ((n,Jr,ns,vs,tx),()):=by
 refine(by kernel_rfl:(Kr (E,C,G)→Z37 E→Fp (Z30 n ns vs tx)→Jc (Z30 n ns vs tx)=0→Jrs E C G n ns vs tx=0→Jdm ns vs∧Br (Jc (Z30 n ns vs tx) !=0) (Sf true (Sf T ((E,C,G)=Vf (E,C,G) (Z30 n ns vs tx)∧Jc (Z30 n ns vs tx)=Kx (E,C,G) (Z30 n ns vs tx)))) ((Kr (E,C,G)∧Jc (Z30 n ns vs tx)=0)∧Br (Jrs E C G n ns vs tx !=0) (Sf true (Sf T ((E,C,G)=Vf (E,C,G) (Z30 n ns vs tx)∧Jrs E C G n ns vs tx=Kx (E,C,G) (Z30 n ns vs tx)))) (Jdp ns vs∧Jb8 E∧Br false (Z65 C∧Jei C G∧Sf true (Sf T ((E++[Z30 n ns vs tx],Jek C G)=Vf (E,C,G) (Z30 n ns vs tx)∧0=Kx (E,C,G) (Z30 n ns vs tx)))) (Br (Yg G) (Yf G∧Zs G∧J4i G ns vs∧K7 vs∧F0 C G∧Sf true (Sf T ((E++[Z30 n ns vs tx],C++[Z30 n ns vs tx],G++[(Z98 vs,(Kcl G n ns vs tx).1,(Kcc G n ns vs tx).1,(Kb6 G n ns vs tx).1,(Kbw G n ns vs tx).1,E2 (Kbw G n ns vs tx).2)])=Vf (E,C,G) (Z30 n ns vs tx)∧0=Kx (E,C,G) (Z30 n ns vs tx)))) (Jdn∧Kmo ns vs∧K7 vs∧F0 C G∧Sf true (Sf T ((E++[Z30 n ns vs tx],C++[Z30 n ns vs tx],G++[(Z98 vs,(K25 n ns vs tx).1,(K2r n ns vs tx).1,(K2h n ns vs tx).1,(K19 n ns vs tx).1,E2 (K19 n ns vs tx).2)])=Vf (E,C,G) (Z30 n ns vs tx)∧0=Kx (E,C,G) (Z30 n ns vs tx))))))))=_).mp ?_
 delta Z0 Z25 Z30 Z37 Z57 Z58 Z65 Z98 K7 Yg Dh Xo Fu Jrs Jb8 Jgl Jdp Dq Jdn V0 Yf Xb Jek Jgk F0 Fz K25 Fy K2r Ja1 Jak H6 K2h K19 H5 Du Hq Jei Jdm Kmo Ys Zs Kz Ub Kcl Kcc Kb6 Kbw J4i Br Iw Bd T2 Tw Sf Ln Gt E2 Jr
 intro hh hlt hsz hc ha
 obtain⟨u0,aE,aP⟩:=Jg8 (k:=Jr) (by kernel_rfl) hc ha
 obtain⟨hn,hv,hR,_,n1,n2,n3,hG,hV⟩:=Lf hh hc
 simp only[Js,List.length_cons,List.length_nil] at hn hv u0
 obtain⟨k0,u1⟩:=Jj u0
 have f0:=J0l (k0 rfl)
 have hs:Jd (J8 G) (n,Jr,ns,vs,tx)=(vs.getD 0 0,(Jad (J8 G) (n,Jr,ns,vs,tx)).2):=by simp only[Jd,doS,Js]
 simp only[aE,aP,hs,hc,ha,hG,H8,Jh4,Prod.eta]
 repeat' first|exact hV|exact hh|exact hR|exact hsz.2.2|apply And.intro|intro _
 all_goals first|trivial|omega|assumption|exact Nat.le_trans hR.nS (by decide)|exact Nat.le_trans hR.nO (by decide)|exact Nat.le_trans hR.nM (by decide)|exact Nat.le_trans hR.nX (by decide)|exact Nat.le_trans hR.nQ (by decide)|exact Nat.zero_le _|exact hsz.1|exact hsz.2.1|(rename_i h;have h:=of_decide_eq_true h;omega)|rfl|(rw[←Ku ‹_›];first|done|exact hR)|(rw[Ku ‹_›] at f0;exact f0)
def K3b (a:Int) (b:Ls) (c:Li) (d:Bt):=(Jaf V0 (Z17 a b c d)).2
def K2x (a:Int) (b:Ls) (c:Li) (d:Bt):=(K3b a b c d).2
def K2p (a:Int) (b:Ls) (c:Li) (d:Bt):=(K2x a b c d).2
def K2a (a:Int) (b:Ls) (c:Li) (d:Bt):=(K2p a b c d).2
def Kcu (a:List Reg) (b:Int) (c:Ls) (d:Li) (e:Bt):=(Jaf (Kz a) (Z17 b c d e)).2
def Kci (a:List Reg) (b:Int) (c:Ls) (d:Li) (e:Bt):=(Kcu a b c d e).2
def Kb8 (a:List Reg) (b:Int) (c:Ls) (d:Li) (e:Bt):=(Kci a b c d e).2
def Kby (a:List Reg) (b:Int) (c:Ls) (d:Li) (e:Bt):=(Kb8 a b c d e).2
theorem Jlc:wpFO Tryz.prog W92.g (na ()) (fun _=>na ()) (Sx.look ([(75,Tryz.f75),(129,Tryz.f129)]:List (Nat×Func))) Tryz.f121 Jcx T (E,C,G) ((n,Kb,ns,vs,tx),()):=by
 refine(by kernel_rfl:(Kr (E,C,G)→Z37 E→Fp (Z17 n ns vs tx)→Jc (Z17 n ns vs tx)=0→Jru E C G n ns vs tx=0→Jdm ns vs∧Br (Jc (Z17 n ns vs tx) !=0) (Sf true (Sf T ((E,C,G)=Vf (E,C,G) (Z17 n ns vs tx)∧Jc (Z17 n ns vs tx)=Kx (E,C,G) (Z17 n ns vs tx)))) ((Kr (E,C,G)∧Jc (Z17 n ns vs tx)=0)∧Br (Jru E C G n ns vs tx !=0) (Sf true (Sf T ((E,C,G)=Vf (E,C,G) (Z17 n ns vs tx)∧Jru E C G n ns vs tx=Kx (E,C,G) (Z17 n ns vs tx)))) (Jdp ns vs∧Jb8 E∧Br false (Z65 C∧Jei C G∧Sf true (Sf T ((E++[Z17 n ns vs tx],Jek C G)=Vf (E,C,G) (Z17 n ns vs tx)∧0=Kx (E,C,G) (Z17 n ns vs tx)))) (Br (Yg G) (Yf G∧Zs G∧(Ub G∧J07 ns)∧K7 vs∧F0 C G∧Sf true (Sf T ((E++[Z17 n ns vs tx],C++[Z17 n ns vs tx],G++[(Z98 vs,(Kcu G n ns vs tx).1,(Kci G n ns vs tx).1,(Kb8 G n ns vs tx).1,(Kby G n ns vs tx).1,E2 (Kby G n ns vs tx).2)])=Vf (E,C,G) (Z17 n ns vs tx)∧0=Kx (E,C,G) (Z17 n ns vs tx)))) (Jdn∧(Xb∧J07 ns)∧K7 vs∧F0 C G∧Sf true (Sf T ((E++[Z17 n ns vs tx],C++[Z17 n ns vs tx],G++[(Z98 vs,(K3b n ns vs tx).1,(K2x n ns vs tx).1,(K2p n ns vs tx).1,(K2a n ns vs tx).1,E2 (K2a n ns vs tx).2)])=Vf (E,C,G) (Z17 n ns vs tx)∧0=Kx (E,C,G) (Z17 n ns vs tx))))))))=_).mp ?_
 delta Z0 Z17 Z25 Z37 Z57 Z65 Z98 K7 Yg J07 Fu Jru Jb8 Jgl Jdp Dq Jdn V0 Yf Xb Jek Jgk F0 K3b Fz K2x Fy Ja1 K2p Jak H6 K2a H5 Du Hq Jei Jdm Ys Zs Kz Ub Kcu Kci Kb8 Kby Br Iw Bd T2 Tw Sf Ln Gt E2 Kb
 intro hh hlt hsz hc ha
 obtain⟨u0,aE,aP⟩:=Jg8 (k:=Kb) (by kernel_rfl) hc ha
 obtain⟨hn,hv,hR,_,n1,n2,n3,hG,hV⟩:=Lf hh hc
 simp only[J5,List.length_cons,List.length_nil] at hn hv u0
 obtain⟨k0,u1⟩:=Jj u0
 obtain⟨k1,u2⟩:=Jj u1
 have f1:=J0l (k1 rfl)
 have hs:Jd (J8 G) (n,Kb,ns,vs,tx)=(vs.getD 0 0,(Jaf (J8 G) (n,Kb,ns,vs,tx)).2):=by simp only[Jd,doS,J5]
 simp only[aE,aP,hs,hc,ha,hG,H8,Jh4,Prod.eta]
 repeat' first|exact hV|exact hh|exact hR|exact hsz.2.2|apply And.intro|intro _
 all_goals first|trivial|omega|assumption|exact Nat.le_trans hR.nS (by decide)|exact Nat.le_trans hR.nO (by decide)|exact Nat.le_trans hR.nM (by decide)|exact Nat.le_trans hR.nX (by decide)|exact Nat.le_trans hR.nQ (by decide)|exact Nat.zero_le _|exact hsz.1|exact hsz.2.1|(rename_i h;have h:=of_decide_eq_true h;omega)|rfl|(rw[←Ku ‹_›];first|done|exact hR)|(rw[Ku ‹_›] at f1;exact f1)
def K3d (a:Int) (b:Ls) (c:Li) (d:Bt):=(Jhc V0 (Z18 a b c d)).2
def K23 (a:Int) (b:Ls) (c:Li) (d:Bt):=(K3d a b c d).2
def K2q (a:Int) (b:Ls) (c:Li) (d:Bt):=(K23 a b c d).2
def K2f (a:Int) (b:Ls) (c:Li) (d:Bt):=(K2q a b c d).2
def Kcv (a:List Reg) (b:Int) (c:Ls) (d:Li) (e:Bt):=(Jhc (Kz a) (Z18 b c d e)).2
def Kcq (a:List Reg) (b:Int) (c:Ls) (d:Li) (e:Bt):=(Kcv a b c d e).2
def Kcb (a:List Reg) (b:Int) (c:Ls) (d:Li) (e:Bt):=(Kcq a b c d e).2
def Kb1 (a:List Reg) (b:Int) (c:Ls) (d:Li) (e:Bt):=(Kcb a b c d e).2
theorem Jlb:wpFO Tryz.prog W92.g (na ()) (fun _=>na ()) (Sx.look ([(75,Tryz.f75),(129,Tryz.f129)]:List (Nat×Func))) Tryz.f121 Jcx T (E,C,G) ((n,Ka,ns,vs,tx),()):=by
 refine(by kernel_rfl:(Kr (E,C,G)→Z37 E→Fp (Z18 n ns vs tx)→Jc (Z18 n ns vs tx)=0→Jrv E C G n ns vs tx=0→Jdm ns vs∧Br (Jc (Z18 n ns vs tx) !=0) (Sf true (Sf T ((E,C,G)=Vf (E,C,G) (Z18 n ns vs tx)∧Jc (Z18 n ns vs tx)=Kx (E,C,G) (Z18 n ns vs tx)))) ((Kr (E,C,G)∧Jc (Z18 n ns vs tx)=0)∧Br (Jrv E C G n ns vs tx !=0) (Sf true (Sf T ((E,C,G)=Vf (E,C,G) (Z18 n ns vs tx)∧Jrv E C G n ns vs tx=Kx (E,C,G) (Z18 n ns vs tx)))) (Jdp ns vs∧Jb8 E∧Br false (Z65 C∧Jei C G∧Sf true (Sf T ((E++[Z18 n ns vs tx],Jek C G)=Vf (E,C,G) (Z18 n ns vs tx)∧0=Kx (E,C,G) (Z18 n ns vs tx)))) (Br (Yg G) (Yf G∧Zs G∧J4k G ns∧K7 vs∧F0 C G∧Sf true (Sf T ((E++[Z18 n ns vs tx],C++[Z18 n ns vs tx],G++[(Z98 vs,(Kcv G n ns vs tx).1,(Kcq G n ns vs tx).1,(Kcb G n ns vs tx).1,(Kb1 G n ns vs tx).1,E2 (Kb1 G n ns vs tx).2)])=Vf (E,C,G) (Z18 n ns vs tx)∧0=Kx (E,C,G) (Z18 n ns vs tx)))) (Jdn∧Km2 ns∧K7 vs∧F0 C G∧Sf true (Sf T ((E++[Z18 n ns vs tx],C++[Z18 n ns vs tx],G++[(Z98 vs,(K3d n ns vs tx).1,(K23 n ns vs tx).1,(K2q n ns vs tx).1,(K2f n ns vs tx).1,E2 (K2f n ns vs tx).2)])=Vf (E,C,G) (Z18 n ns vs tx)∧0=Kx (E,C,G) (Z18 n ns vs tx))))))))=_).mp ?_
 delta Z0 Z18 Z25 Z37 Z57 Z65 Z98 K7 Yg Dh Xo Fu Jrv Jb8 Jgl Jdp Dq Jdn V0 Yf Xb Jek Jgk F0 K3d Fz K23 Fy K2q Ja1 Jak H6 K2f H5 Du Hq Jei Jdm Km2 Ys Zs Kz Ub Kcv Kcq Kcb Kb1 J4k Br Iw Bd T2 Tw Sf Ln Gt E2 Ka
 intro hh hlt hsz hc ha
 obtain⟨u0,aE,aP⟩:=Jg8 (k:=Ka) (by kernel_rfl) hc ha
 obtain⟨hn,hv,hR,_,n1,n2,n3,hG,hV⟩:=Lf hh hc
 simp only[J4,List.length_cons,List.length_nil] at hn hv u0
 obtain⟨k0,u1⟩:=Jj u0
 have f0:=Kgl (k0 rfl)
 have hs:Jd (J8 G) (n,Ka,ns,vs,tx)=(vs.getD 0 0,(Jhc (J8 G) (n,Ka,ns,vs,tx)).2):=by simp only[Jd,doS,J4]
 simp only[aE,aP,hs,hc,ha,hG,H8,Jh4,Prod.eta]
 repeat' first|exact hV|exact hh|exact hR|exact hsz.2.2|apply And.intro|intro _
 all_goals first|trivial|omega|assumption|exact Nat.le_trans hR.nS (by decide)|exact Nat.le_trans hR.nO (by decide)|exact Nat.le_trans hR.nM (by decide)|exact Nat.le_trans hR.nX (by decide)|exact Nat.le_trans hR.nQ (by decide)|exact Nat.zero_le _|exact hsz.1|exact hsz.2.1|(rename_i h;have h:=of_decide_eq_true h;omega)|rfl|(rw[←Ku ‹_›];first|done|exact hR)|(rw[Ku ‹_›] at f0;exact f0)
def K28 (a:Int) (b:Ls) (c:Li) (d:Bt):=(Jbn V0 (Z22 a b c d)).2
def K2y (a:Int) (b:Ls) (c:Li) (d:Bt):=(K28 a b c d).2
def K2n (a:Int) (b:Ls) (c:Li) (d:Bt):=(K2y a b c d).2
def K2b (a:Int) (b:Ls) (c:Li) (d:Bt):=(K2n a b c d).2
def Kcr (a:List Reg) (b:Int) (c:Ls) (d:Li) (e:Bt):=(Jbn (Kz a) (Z22 b c d e)).2
def Kck (a:List Reg) (b:Int) (c:Ls) (d:Li) (e:Bt):=(Kcr a b c d e).2
def Kb7 (a:List Reg) (b:Int) (c:Ls) (d:Li) (e:Bt):=(Kck a b c d e).2
def Kbz (a:List Reg) (b:Int) (c:Ls) (d:Li) (e:Bt):=(Kb7 a b c d e).2
theorem Jla:wpFO Tryz.prog W92.g (na ()) (fun _=>na ()) (Sx.look ([(75,Tryz.f75),(129,Tryz.f129)]:List (Nat×Func))) Tryz.f121 Jcx T (E,C,G) ((n,Jh,ns,vs,tx),()):=by
 refine(by kernel_rfl:(Kr (E,C,G)→Z37 E→Fp (Z22 n ns vs tx)→Jc (Z22 n ns vs tx)=0→Jpi E C G n ns vs tx=0→Jdm ns vs∧Br (Jc (Z22 n ns vs tx) !=0) (Sf true (Sf T ((E,C,G)=Vf (E,C,G) (Z22 n ns vs tx)∧Jc (Z22 n ns vs tx)=Kx (E,C,G) (Z22 n ns vs tx)))) ((Kr (E,C,G)∧Jc (Z22 n ns vs tx)=0)∧Br (Jpi E C G n ns vs tx !=0) (Sf true (Sf T ((E,C,G)=Vf (E,C,G) (Z22 n ns vs tx)∧Jpi E C G n ns vs tx=Kx (E,C,G) (Z22 n ns vs tx)))) (Jdp ns vs∧Jb8 E∧Br false (Z65 C∧Jei C G∧Sf true (Sf T ((E++[Z22 n ns vs tx],Jek C G)=Vf (E,C,G) (Z22 n ns vs tx)∧0=Kx (E,C,G) (Z22 n ns vs tx)))) (Br (Yg G) (Yf G∧Zs G∧Jua G vs∧K7 vs∧F0 C G∧Sf true (Sf T ((E++[Z22 n ns vs tx],C++[Z22 n ns vs tx],G++[(Z98 vs,(Kcr G n ns vs tx).1,(Kck G n ns vs tx).1,(Kb7 G n ns vs tx).1,(Kbz G n ns vs tx).1,E2 (Kbz G n ns vs tx).2)])=Vf (E,C,G) (Z22 n ns vs tx)∧0=Kx (E,C,G) (Z22 n ns vs tx)))) (Jdn∧Kea vs∧K7 vs∧F0 C G∧Sf true (Sf T ((E++[Z22 n ns vs tx],C++[Z22 n ns vs tx],G++[(Z98 vs,(K28 n ns vs tx).1,(K2y n ns vs tx).1,(K2n n ns vs tx).1,(K2b n ns vs tx).1,E2 (K2b n ns vs tx).2)])=Vf (E,C,G) (Z22 n ns vs tx)∧0=Kx (E,C,G) (Z22 n ns vs tx))))))))=_).mp ?_
 delta Z0 Z22 Z25 Z37 Z45 Z57 Z65 Z98 K7 Yg Fu Jpi Jb8 Jgl Jdp Dq Jdn V0 Yf Xb Jek Jgk F0 K28 Fz K2y Fy Ja1 Kea K2n Jak H6 K2b H5 Du Hq Jei Jdm Ys Zs Kz Ub Kcr Kck Jua Kb7 Kbz Br Iw Bd T2 Tw Sf Ln Gt E2 Jh
 intro hh hlt hsz hc ha
 obtain⟨u0,aE,aP⟩:=Jg8 (k:=Jh) (by kernel_rfl) hc ha
 obtain⟨hn,hv,hR,_,n1,n2,n3,hG,hV⟩:=Lf hh hc
 simp only[K6,List.length_cons,List.length_nil] at hn hv u0
 have hs:Jd (J8 G) (n,Jh,ns,vs,tx)=(vs.getD 0 0,(Jbn (J8 G) (n,Jh,ns,vs,tx)).2):=by simp only[Jd,doS,K6]
 simp only[aE,aP,hs,hc,ha,hG,H8,Jh4,Prod.eta]
 repeat' first|exact hV|exact hh|exact hR|exact hsz.2.2|apply And.intro|intro _
 all_goals first|trivial|omega|assumption|exact Nat.le_trans hR.nS (by decide)|exact Nat.le_trans hR.nO (by decide)|exact Nat.le_trans hR.nM (by decide)|exact Nat.le_trans hR.nX (by decide)|exact Nat.le_trans hR.nQ (by decide)|exact Nat.zero_le _|exact hsz.1|exact hsz.2.1|(rename_i h;have h:=of_decide_eq_true h;omega)|rfl|(rw[←Ku ‹_›];first|done|exact hR)
abbrev GG:Gam:=[(64,Kh6),(130,Zh.con Jra),(81,J5r),(216,Jhe 127 X5),(217,Jhe 130 Ym),(218,Jhe 155 X9),(219,Jhe 188 Yh),(220,Jhe 235 Y8)]
theorem gG:Xf Tryz.prog GG:= .cons K6n (.cons Kga (.cons K6m (.cons Kf9 (.cons Kf8 (.cons Kf7 (.cons Kf6 (.cons Kf5 (.nil _))))))))
def Kh8:Zh:={Kl2 with pre:=fun h (e,_)=>[Kr h,h.1.length<1000,Fp e,¬(Jc e=0∧Lt h e=0)]}
def Jpj (a:List Ev) (b:Int) (c:Bt) (d:Ls) (e:Li) (f:Bt):=a++[(b,c,d,e,f)]
theorem Juy (T:TypeId) (E C:List Ev) (G:List Reg) (n:Int) (k:ByteArray) (ns:List ByteArray) (vs:List Int) (tx:ByteArray):wpFO Tryz.prog GG (na ()) (fun _=>na ()) (Sx.look ([(75,Tryz.f75),(129,Tryz.f129)]:List (Nat×Func))) Tryz.f121 Kh8 T (E,C,G) ((n,k,ns,vs,tx),()):=by
 refine(by kernel_rfl:(Kr (E,C,G)→Z37 E→Fp (n,k,ns,vs,tx)→(Z66 n k ns vs tx=0∧Lt (E,C,G) (n,k,ns,vs,tx)=0→False)→Jdm ns vs∧Br (Z66 n k ns vs tx !=0) (Sf true (Sf T ((E,C,G)=Vf (E,C,G) (n,k,ns,vs,tx)∧Z66 n k ns vs tx=Kx (E,C,G) (n,k,ns,vs,tx)))) ((Kr (E,C,G)∧Z66 n k ns vs tx=0)∧Br (Lt (E,C,G) (n,k,ns,vs,tx) !=0) (Sf true (Sf T ((E,C,G)=Vf (E,C,G) (n,k,ns,vs,tx)∧Lt (E,C,G) (n,k,ns,vs,tx)=Kx (E,C,G) (n,k,ns,vs,tx)))) (Jdp ns vs∧Jb8 E∧Br (Lb k Jl) (Z65 C∧Jei C G∧Sf true (Sf T ((Jpj E n k ns vs tx,Jek C G)=Vf (E,C,G) (n,k,ns,vs,tx)∧0=Kx (E,C,G) (n,k,ns,vs,tx)))) (Br (Yg G) (Yf G∧Zs G∧J0d 777 1) (Jdn∧J0d 777 1)))))=_).mp ?_
 delta Z0 Z37 Z57 Z65 Z66 Yg Fu Jpj Jb8 Jgl Jdp Dq Jdn V0 Yf Jek Jgk Fz Fy H6 H5 Du Hq Jei Jdm Zs Br Iw Bd T2 Tw Sf Ln Gt Lb Jl
 intro hh hlt hsz hx
 have n1:E.length≤1000:=hh.nE
 have e1:Jc (n,k,ns,vs,tx)≠0→Kx (E,C,G) (n,k,ns,vs,tx)=Jc (n,k,ns,vs,tx):=fun h=>by unfold Kx;rw[if_pos h]
 have e2:¬Jc (n,k,ns,vs,tx)≠0→Kx (E,C,G) (n,k,ns,vs,tx)=Lt (E,C,G) (n,k,ns,vs,tx):=fun h=>by unfold Kx;rw[if_neg h]
 have e3:Kx (E,C,G) (n,k,ns,vs,tx)≠0→Vf (E,C,G) (n,k,ns,vs,tx)=(E,C,G):=fun h=>by unfold Vf;rw[if_neg h]
 refine⟨⟨hsz.1,hsz.2.1,hsz.2.2⟩,fun h=> ?_,fun h=>⟨⟨hh, ?_⟩,fun h2=> ?_,fun h2=> ?_⟩⟩
 ·have h:Jc (n,k,ns,vs,tx)≠0:=bne_iff_ne.1 h
  exact⟨rfl,rfl,(e3 (by rw[e1 h];exact h)).symm,(e1 h).symm⟩
 ·exact bne_eq_false_iff_eq.1 h
 ·have h:Jc (n,k,ns,vs,tx)=0:=bne_eq_false_iff_eq.1 h
  have h2:Lt (E,C,G) (n,k,ns,vs,tx)≠0:=bne_iff_ne.1 h2
  have e4:=e2 (by rw[h];simp)
  exact⟨rfl,rfl,(e3 (by rw[e4];exact h2)).symm,e4.symm⟩
 ·exact absurd ⟨bne_eq_false_iff_eq.1 h,bne_eq_false_iff_eq.1 h2⟩ hx
theorem Jwn {f:FuncId} {c:Zh} {p1 p2:c.s.T→ATup c.args→List Prop} (h1:OkO Tryz.prog f {c with pre:=p1}) (h2:OkO Tryz.prog f {c with pre:=p2}) (h:∀x y,Us (c.pre x y)→Us (p1 x y)∨Us (p2 x y)):OkO Tryz.prog f c:=
 ⟨h1.1,fun x y M R B w b T cells vals vs hB hMR hg hw hBb hMb hRb hT ho hv hpre ha=>(h x y hpre).elim (fun q=>h1.2 x y M R B w b T cells vals vs hB hMR hg hw hBb hMb hRb hT ho hv q ha) fun q=>h2.2 x y M R B w b T cells vals vs hB hMR hg hw hBb hMb hRb hT ho hv q ha⟩
theorem Kft (T:TypeId):∀(x:Kh) (y:ATup [aEv]),wpFO Tryz.prog W92.g (na ()) (fun _=>na ()) (Sx.look ([(75,Tryz.f75),(129,Tryz.f129)]:List (Nat×Func))) Tryz.f121 Jcx T x y
 |(E,C,G),((n,k,ns,vs,tx),())=>by
  refine Jis (by kernel_rfl) fun hp=> ?_
  have hc:Jc (n,k,ns,vs,tx)=0:=hp.2.2.2.1
  rcases Uo (Ko hc).kind with h|h|h|h|h|h|h|h|h|h|h<;>dsimp only at h<;>subst h
  ·exact Jsf T E C G n ns vs tx
  ·exact Jix T E C G n ns vs tx
  ·exact Jno T E C G n ns vs tx
  ·exact Jnp T E C G n ns vs tx
  ·exact Jnq T E C G n ns vs tx
  ·exact Jsg T E C G n ns vs tx
  ·exact Jld T E C G n ns vs tx
  ·exact Jiy T E C G n ns vs tx
  ·exact Jlc T E C G n ns vs tx
  ·exact Jlb T E C G n ns vs tx
  ·exact Jla T E C G n ns vs tx
theorem okK:OkO Tryz.prog 121 Jcx:=Uk mixed W92.ok (by kernel_rfl) (by kernel_rfl) (U0 (l:=([(75,Tryz.f75),(129,Tryz.f129)]:List (Nat×Func))) (List.forall_mem_cons.2 ⟨by kernel_rfl,List.forall_mem_cons.2 ⟨by kernel_rfl,by simp⟩⟩)) (fun _ _=>na ()) (fun _ _=>fun _=>na ()) fun T xx yy _=>Kft T xx yy
theorem okG:OkO Tryz.prog 121 Kh8:=Uk mixed gG (by kernel_rfl) (by kernel_rfl) (U0 (l:=([(75,Tryz.f75),(129,Tryz.f129)]:List (Nat×Func))) (List.forall_mem_cons.2 ⟨by kernel_rfl,List.forall_mem_cons.2 ⟨by kernel_rfl,by simp⟩⟩)) (fun _ _=>na ()) (fun _ _=>fun _=>na ()) fun T xx yy _=>Juy T xx.1 xx.2.1 xx.2.2 yy.1.1 yy.1.2.1 yy.1.2.2.1 yy.1.2.2.2.1 yy.1.2.2.2.2
theorem Kvb:Ok Tryz.prog 121 (Zh.con Kl2):=Zk (Jwn (c:=Kl2) okK okG fun x y hp=>by
 by_cases h:Jc y.1=0∧Lt x y.1=0
 ·exact .inl ⟨hp.1,hp.2.1,hp.2.2,h.1,h.2⟩
 ·exact .inr ⟨hp.1,hp.2.1,hp.2.2,h⟩)
abbrev W93:=W92.add Kvb
theorem Y3 {α:Type} {p:α→Bool} {m:List α}:∀{l:List α} {k:Nat},0≤K0 p l k→K0 p (l++m) k=K0 p l k
 |[],k,h=>by simp[K0] at h
 | x :: l, k, h => by
  show(if p x=true then(k:Int) else K0 p (l++m) (k+1))=(if p x=true then(k:Int) else K0 p l (k+1))
  have h:0≤(if p x=true then(k:Int) else K0 p l (k+1)):=h
  by_cases hp:p x=true
  ·rw[if_pos hp,if_pos hp]
  ·rw[if_neg hp] at h
   rw[if_neg hp,if_neg hp,Y3 h]
theorem Fm {α:Type} {p:α→Bool} {y:α}:∀{l:List α} {i k:Nat},(∀x,l[i]? =some x→p y=p x)→K0 p (l.set i y) k=K0 p l k
 |[],_,_,_=>rfl
 |x::l,0,k,h=>by
  have:=h x rfl
  simp only[List.set_cons_zero]
  unfold K0
  rw[this]
 |x::l,i+1,k,h=>by
  simp only[List.set_cons_succ]
  unfold K0
  rw[Fm fun z hz=>h z (by simpa using hz)]
theorem Jft {α:Type} {l:List α} {i:Nat} {d x:α} (h:l[i]? =some x):l.getD i d=x:=by
 rw[List.getD_eq_getElem?_getD,h];rfl
theorem Jcl {α:Type} {l:List α} {i:Nat} {y x:α} (h:x∈l.set i y):x=y∨x∈l:=by
 rcases List.mem_or_eq_of_mem_set h with h|h
 ·exact .inr h
 ·exact .inl h
theorem V3 {α:Type} {l:List α} {y x:α} (h:x∈l++[y]):x∈l∨x=y:=by
 rcases List.mem_append.1 h with h|h
 ·exact .inl h
 ·exact .inr (by simpa using h)
theorem Yw {b:Bool} {c:Int} (hc:c≠0) (h:(bif b then c else 0)=0):b=false:=by
 cases b with
 |true=>exact absurd h hc
 |false=>rfl
theorem Yq {a b:Int} (h:Jf [a,b]=0):a=0∧b=0:=
 ⟨Kw.1 h _ (List.mem_cons_self ..),Kw.1 h _ (List.mem_cons_of_mem _ (List.mem_cons_self ..))⟩
theorem L5 {a b c:Int} (h:Jf [a,b,c]=0):a=0∧b=0∧c=0:=
 ⟨Kw.1 h _ (by simp),Kw.1 h _ (by simp),Kw.1 h _ (by simp)⟩
theorem D1 {O:List Ord} {s:ByteArray} (h:0≤Kg O s):Vy O s∈O:=by
 have:=Uy (l:=O) (s:=s)
 exact Je (by omega)
theorem Jjo {X:List Out} {s:ByteArray} (h:0≤Jw X s):Y0 X s∈X:=by
 have:=Up (l:=X) (s:=s)
 exact Je (by omega)
theorem Jnw {S:List Sta} {s:ByteArray} (h:0≤J1 S s):Hu S s∈S:=by
 have:=Uh (l:=S) (s:=s)
 exact Je (by omega)
theorem J7p {Q:List Per} {s:ByteArray} (h:0≤Uj Q s):Jbd Q s∈Q:=by
 have:=Ux (l:=Q) (s:=s)
 exact Je (by omega)
theorem F1.mono {S S':List Sta} {x:Ord} (h:F1 S x) (hs:∀s,0≤J1 S s→0≤J1 S' s):F1 S' x:=⟨h.span,h.pow,h.pri,h.trip,hs _ h.fr,hs _ h.tu⟩
theorem Jpp.mono {S S':List Sta} {x:Out} (h:Jpp S x) (hs:∀s,0≤J1 S s→0≤J1 S' s):Jpp S' x:=⟨h.span,h.rest,hs _ h.sta⟩
section
variable {tk st v:Int} {S:List Sta} {O:List Ord} {M:List Met} {X:List Out} {Q:List Per} {n:Int} {k tx:ByteArray} {ns:List ByteArray} {vs:List Int}
theorem Jsn (hr:Jo (tk,st,S,O,M,X,Q)) (hv:tk≤v∧v≤999999999) (hc:Jmt S vs=0) {a:ByteArray}:Jo (v,st,S++[(a,vs.getD 1 0,0)],O,M,X,Q):=by
 obtain⟨c1,c2⟩:=Yq hc
 have c1:=Vg.1 c1
 have c2:=of_decide_eq_false (Yw (by decide) c2)
 have hs:∀s,0≤J1 S s→0≤J1 (S++[(a,vs.getD 1 0,0)]) s:=fun s h=>by unfold J1 at h⊢;rw[Y3 h];exact h
 have h0:=hr.tk
 have h1:=hr.st
 dsimp only at h0 h1
 refine⟨by dsimp only;omega,by dsimp only;omega,by dsimp only;rw[List.length_append,List.length_singleton];omega,hr.nO,hr.nM,hr.nX,hr.nQ,fun x hx=> ?_,fun x hx=>(hr.ord x hx).mono hs,hr.met,fun x hx=>(hr.out x hx).mono hs,hr.per,hr.done⟩
 rcases V3 hx with h|rfl
 ·exact hr.sta x h
 ·exact⟨c1,Int.le_refl 0,by show(0:Int)≤1000;decide⟩
theorem J1s (hr:Jo (tk,st,S,O,M,X,Q)) (hv:tk≤v∧v≤999999999) (hc:Jo1 vs=0) {a:ByteArray} (ha:0≤J1 S a):Jo (v,st,S.set (J1 S a).toNat ((Hu S a).1,(Hu S a).2.1,vs.getD 1 0),O,M,X,Q):=by
 have c1:=Vg.1 hc
 have hs:∀s,0≤J1 S s→0≤J1 (S.set (J1 S a).toNat ((Hu S a).1,(Hu S a).2.1,vs.getD 1 0)) s:=fun s h=>by
  unfold J1 at h⊢
  rw[Fm fun x hx=> ?_]
  ·exact h
  ·have:=Jft (d:=Jkv) hx
   show((Hu S a).1.toList==s.toList)=_
   unfold Hu J1
   rw[this]
 have h0:=hr.tk
 have h1:=hr.st
 dsimp only at h0 h1
 refine⟨by dsimp only;omega,by dsimp only;omega,by rw[List.length_set];exact hr.nS,hr.nO,hr.nM,hr.nX,hr.nQ,fun x hx=> ?_,fun x hx=>(hr.ord x hx).mono hs,hr.met,fun x hx=>(hr.out x hx).mono hs,hr.per,hr.done⟩
 rcases Jcl hx with rfl|h
 ·exact⟨(hr.sta _ (Jnw ha)).lim,c1⟩
 ·exact hr.sta x h
theorem J1u (hr:Jo (tk,st,S,O,M,X,Q)) (hv:tk≤v∧v≤999999999) (hm:M.length<10000) (ho:0≤Kg O (ns.getD 0 Jb)) (hb:∀i,i<4→0≤vs.getD i 0∧vs.getD i 0≤999999999) (hc:Jkl O M ns vs=0):Jo (v,st,S,O,M++[(ns.getD 0 Jb,vs.getD 1 0,vs.getD 2 0,vs.getD 3 0)],X,Q):=by
 have h5:=Yw (by decide) (Kw.1 hc _ (List.mem_cons_of_mem _ (List.mem_cons_of_mem _ (List.mem_cons_of_mem _ (List.mem_cons_of_mem _ (List.mem_cons_self ..))))))
 have h6:=bn1 h5
 have p1:=of_decide_eq_false h6.1
 have p2:=of_decide_eq_false h6.2
 have hp:1≤(Vy O (ns.getD 0 Jb)).2.2.2.2.1∧(Vy O (ns.getD 0 Jb)).2.2.2.2.1≤1000:=(hr.ord _ (D1 ho)).pow
 have h0:=hr.tk
 have h1:=hr.st
 dsimp only at h0 h1
 have b1:=hb 1 (by omega)
 have b2:=hb 2 (by omega)
 have b3:=hb 3 (by omega)
 refine⟨by dsimp only;omega,by dsimp only;omega,hr.nS,hr.nO,by dsimp only;rw[List.length_append,List.length_singleton];omega,hr.nX,hr.nQ,hr.sta,hr.ord,fun x hx=> ?_,hr.out,hr.per,fun x hx h e1 e2=> ?_⟩
 ·rcases V3 hx with h|rfl
  ·exact hr.met x h
  ·exact⟨b1,⟨b2.1,by dsimp only;omega⟩,⟨b3.1,by dsimp only;omega⟩⟩
 ·have:=hr.done x hx h e1 e2
  unfold K3 at this⊢
  dsimp only at this⊢
  rw[Y3 this];exact this
theorem Jpx {e:Ev} (hv:EvV e) (hl:e.2.2.2.1.length=4) (hc:Hb e=0):Jm7 (Vp e)∧e.2.2.2.1.getD 0 0≤(Vp e).1:=by
 have h:=Yw (by decide) hc
 have h1:=bn1 h
 have h2:=bn1 h1.1
 have e1:=of_decide_eq_false h2.1
 have e2:=of_decide_eq_false h2.2
 have e3:=of_decide_eq_false h1.2
 have v1:0≤(Vp e).1∧(Vp e).1≤999999999:=hv _ (Je (by omega))
 have v2:0≤(Vp e).2∧(Vp e).2≤999999999:=hv _ (Je (by omega))
 exact⟨⟨v1.1,by omega,v2.2,by omega⟩,by omega⟩
theorem J1t (hr:Jo (tk,st,S,O,M,X,Q)) (hv:tk≤v∧v≤999999999) (hvs:v=vs.getD 0 0) (hE:EvV (n,k,ns,vs,tx)) (hl:vs.length=4) (h1:0≤J1 S (ns.getD 1 Jb)) (h2:0≤J1 S (ns.getD 2 Jb)) (hc:Jbw S O X (n,k,ns,vs,tx)=0):Jo (v,st,S,O++[(ns.getD 0 Jb,ns.getD 1 Jb,ns.getD 2 Jb,Vp (n,k,ns,vs,tx),vs.getD 3 0,(Hu S (ns.getD 1 Jb)).2.2,-1)],M,X,Q):=by
 have hk:¬Jgc (n,k,ns,vs,tx)≠0:=fun h=>by unfold Jbw at hc;rw[if_pos h] at hc;exact h hc
 unfold Jbw at hc
 rw[if_neg hk] at hc
 obtain⟨c1,c2⟩:=Yq hc
 have c2:=of_decide_eq_false (Yw (by decide) c2)
 obtain⟨d1,d2,d3⟩:=L5 (show Jf [_,Hb (n,k,ns,vs,tx),Kt (vs.getD 3 0) 1 1000]=0 from Decidable.of_not_not hk)
 have d3:=Vg.1 d3
 obtain⟨sp,sv⟩:=Jpx hE hl d2
 have sv:vs.getD 0 0≤(Vp (n,k,ns,vs,tx)).1:=sv
 have g0:=hr.tk
 have g1:=hr.st
 dsimp only at g0 g1
 refine⟨by dsimp only;omega,by dsimp only;omega,hr.nS,by dsimp only;rw[List.length_append,List.length_singleton];omega,hr.nM,hr.nX,hr.nQ,hr.sta,fun x hx=> ?_,hr.met,hr.out,hr.per,fun x hx hh e1 e2=> ?_⟩
 ·rcases V3 hx with h|rfl
  ·exact hr.ord x h
  ·exact⟨sp,d3,(hr.sta _ (Jnw h1)).pri,⟨Int.le_refl _,by show(-1:Int)≤999999999;decide⟩,h1,h2⟩
 ·rcases V3 hx with h|rfl
  ·exact hr.done x h hh e1 e2
  ·exfalso
   unfold J2 Kv at e1
   dsimp only at e1 e2
   cases h3:decide ((Vp (n,k,ns,vs,tx)).1≤hh) with
   |true=>have:=of_decide_eq_true h3;omega
   |false=>rw[h3] at e1;cases e1
theorem Jvg (hr:Jo (tk,st,S,O,M,X,Q)) (hv:tk≤v∧v≤999999999) (hE:EvV (n,k,ns,vs,tx)) (hl:vs.length=4) (h1:0≤J1 S (ns.getD 1 Jb)) (hc:Jbv S O X (n,k,ns,vs,tx)=0):Jo (v,st,S,O,M,X++[(ns.getD 0 Jb,ns.getD 1 Jb,Vp (n,k,ns,vs,tx),vs.getD 3 0)],Q):=by
 have hk:¬Jdh S (n,k,ns,vs,tx)≠0:=fun h=>by unfold Jbv at hc;rw[if_pos h] at hc;exact h hc
 unfold Jbv at hc
 rw[if_neg hk] at hc
 obtain⟨c1,c2⟩:=Yq hc
 have c2:=of_decide_eq_false (Yw (by decide) c2)
 obtain⟨d2,d3⟩:=Yq (show Jf [Hb (n,k,ns,vs,tx),bif decide ((Hu S (ns.getD 1 Jb)).2.1≤vs.getD 3 0) then 3 else 0]=0 from Decidable.of_not_not hk)
 have d3:=of_decide_eq_false (Yw (by decide) d3)
 obtain⟨sp,sv⟩:=Jpx hE hl d2
 have hl3:(Hu S (ns.getD 1 Jb)).2.1≤1000:=(hr.sta _ (Jnw h1)).lim.2
 have v3:0≤vs.getD 3 0∧vs.getD 3 0≤999999999:=hE _ (Je (show 3<vs.length by omega))
 have hf:∀s,0≤Jw X s→0≤Jw (X++[(ns.getD 0 Jb,ns.getD 1 Jb,Vp (n,k,ns,vs,tx),vs.getD 3 0)]) s:=fun s h=>by unfold Jw at h⊢;rw[Y3 h];exact h
 have g0:=hr.tk
 have g1:=hr.st
 dsimp only at g0 g1
 refine⟨by dsimp only;omega,by dsimp only;omega,hr.nS,hr.nO,hr.nM,by dsimp only;rw[List.length_append,List.length_singleton];omega,hr.nQ,hr.sta,hr.ord,hr.met,fun x hx=> ?_,fun x hx=>hf _ (hr.per x hx),hr.done⟩
 rcases V3 hx with h|rfl
 ·exact hr.out x h
 ·exact⟨sp,⟨v3.1,by dsimp only;omega⟩,h1⟩
theorem J7b (hr:Jo (tk,st,S,O,M,X,Q)) (hv:tk≤vs.getD 0 0∧vs.getD 0 0≤999999999) (ho:0≤Kg O (ns.getD 0 Jb)) (hc:Jbs O ns vs=0):Jo (vs.getD 0 0,st,S,Vq O (ns.getD 0 Jb) (vs.getD 0 0),M,X,Q):=by
 have h1:=bn1 (Yw (by decide) hc)
 have c1:(Vy O (ns.getD 0 Jb)).2.2.2.2.2.2= -1:=bne_eq_false_iff_eq.1 h1.1
 have hm:=D1 ho
 have g0:=hr.tk
 have g1:=hr.st
 dsimp only at g0 g1
 have ox:F1 S (Vy O (ns.getD 0 Jb)):=hr.ord _ hm
 refine⟨by dsimp only;omega,by dsimp only;omega,hr.nS,by unfold Vq;rw[List.length_set];exact hr.nO,hr.nM,hr.nX,hr.nQ,hr.sta,fun x hx=> ?_,hr.met,hr.out,hr.per,fun x hx hh e1 e2=> ?_⟩
 ·rcases Jcl hx with rfl|h
  ·exact⟨ox.span,ox.pow,ox.pri,⟨by dsimp only;omega,hv.2⟩,ox.fr,ox.tu⟩
  ·exact hr.ord x h
 ·rcases Jcl hx with rfl|h
  ·refine hr.done _ hm hh ?_ e2
   unfold J2 at e1⊢
   rw[c1]
   have e1:(bif Kv (Vy O (ns.getD 0 Jb)).2.2.2.1 hh then _ else false)=true:=e1
   cases h3:Kv (Vy O (ns.getD 0 Jb)).2.2.2.1 hh with
   |true=>rfl
   |false=>rw[h3] at e1;cases e1
  ·exact hr.done x h hh e1 e2
theorem Jso (hr:Jo (tk,st,S,O,M,X,Q)) (hv:tk≤vs.getD 0 0∧vs.getD 0 0≤999999999) (ho:0≤Jw X (ns.getD 0 Jb)) (hc:Jbt X Q ns vs=0):Jo (vs.getD 0 0,st,S,O,M,Lc X (ns.getD 0 Jb) (vs.getD 0 0),Q):=by
 obtain⟨c1,c2,c3⟩:=L5 hc
 have c1:=of_decide_eq_false (Yw (by decide) c1)
 have c2:=of_decide_eq_false (Yw (by decide) c2)
 have hm:=Jjo ho
 have ox:Jpp S (Y0 X (ns.getD 0 Jb)):=hr.out _ hm
 have l1:=ox.span.lo
 have l2:=ox.span.len
 have g0:=hr.tk
 have g1:=hr.st
 dsimp only at g0 g1
 have hf:∀s,0≤Jw X s→0≤Jw (Lc X (ns.getD 0 Jb) (vs.getD 0 0)) s:=fun s h=>by
  unfold Lc
  unfold Jw at h⊢
  rw[Fm fun x hx=> ?_]
  ·exact h
  ·have:=Jft (d:=Hp) hx
   show((Y0 X (ns.getD 0 Jb)).1.toList==s.toList)=_
   unfold Y0 Jw
   rw[this]
 refine⟨by dsimp only;omega,by dsimp only;omega,hr.nS,hr.nO,hr.nM,by unfold Lc;rw[List.length_set];exact hr.nX,hr.nQ,hr.sta,hr.ord,hr.met,fun x hx=> ?_,fun x hx=>hf _ (hr.per x hx),hr.done⟩
 rcases Jcl hx with rfl|h
 ·exact⟨⟨l1,by dsimp only;omega,hv.2,by dsimp only;omega⟩,ox.rest,ox.sta⟩
 ·exact hr.out x h
theorem Jvf (hr:Jo (tk,st,S,O,M,X,Q)) (hv:tk≤v∧v≤999999999) (ho:0≤Jw X (ns.getD 1 Jb)) (hc:Jbu X Q ns vs=0):Jo (v,st,S,O,M,X,Q++[(ns.getD 0 Jb,ns.getD 1 Jb,true)]):=by
 have c2:=of_decide_eq_false (Yw (by decide) (Yq hc).2)
 have g0:=hr.tk
 have g1:=hr.st
 dsimp only at g0 g1
 refine⟨by dsimp only;omega,by dsimp only;omega,hr.nS,hr.nO,hr.nM,hr.nX,by dsimp only;rw[List.length_append,List.length_singleton];omega,hr.sta,hr.ord,hr.met,hr.out,fun x hx=> ?_,hr.done⟩
 rcases V3 hx with h|rfl
 ·exact hr.per x h
 ·exact ho
theorem Jve (hr:Jo (tk,st,S,O,M,X,Q)) (hv:tk≤v∧v≤999999999) {a:ByteArray} (ho:0≤Uj Q a):Jo (v,st,S,O,M,X,Yy Q a):=by
 have g0:=hr.tk
 have g1:=hr.st
 dsimp only at g0 g1
 refine⟨by dsimp only;omega,by dsimp only;omega,hr.nS,hr.nO,hr.nM,hr.nX,by unfold Yy;rw[List.length_set];exact hr.nQ,hr.sta,hr.ord,hr.met,hr.out,fun x hx=> ?_,hr.done⟩
 rcases Jcl hx with rfl|h
 ·exact hr.per (Jbd Q a) (J7p ho)
 ·exact hr.per x h
theorem Jl5 {u:Int} {x:Ord}:∀{m:Nat} {a:Int},Do M u x a m=[]→∀h,a≤h→h<a+m→(J2 x h&&(decide (h<u)&&decide (K3 M x.1 h<0)))=false
 |0,a,_,h,h1,h2=>by omega
 | m + 1, a, e, h, h1, h2 => by
  unfold Do at e
  obtain⟨e1,e2⟩:=List.append_eq_nil_iff.1 e
  by_cases ha:h=a
  ·subst ha
   cases hb:J2 x h&&(decide (h<u)&&decide (K3 M x.1 h<0)) with
   |false=>rfl
   |true=>rw[hb] at e1;cases e1
  ·exact Jl5 e2 h (by omega) (by push_cast at h2;omega)
theorem Jl3 {u:Int}:∀{O:List Ord},K4 M u O=[]→∀x∈O,Jwt M u x=[]
 |[],_,x,hx=>by cases hx
 |y::l,e,x,hx=>by
  unfold K4 at e
  obtain⟨e1,e2⟩:=List.append_eq_nil_iff.1 e
  rcases List.mem_cons.1 hx with rfl|hx
  ·exact e1
  ·exact Jl3 e2 x hx
theorem Jxt {x:Ord} {h:Int} (e:J2 x h=true):x.2.2.2.1.1≤h∧h<x.2.2.2.1.2:=by
 unfold J2 Kv at e
 cases h1:decide (x.2.2.2.1.1≤h) with
 |false=>rw[h1] at e;cases e
 |true=>
  cases h2:decide (h<x.2.2.2.1.2) with
  |false=>rw[h1,h2] at e;cases e
  |true=>exact⟨of_decide_eq_true h1,of_decide_eq_true h2⟩
theorem Jvd (hr:Jo (tk,st,S,O,M,X,Q)) (hv:tk≤vs.getD 0 0∧vs.getD 0 0≤999999999) (hc:De st O M X Q vs=0):Jo (vs.getD 0 0,vs.getD 1 0,S,O,M,X,Q):=by
 unfold De at hc
 cases h1:(bif decide (vs.getD 1 0≤st) then true else decide (vs.getD 0 0<vs.getD 1 0)) with
 |true=>rw[h1] at hc;cases hc
 |false=>
  rw[h1,cond_false] at hc
  have h2:=bn1 h1
  have d1:=of_decide_eq_false h2.1
  have d2:=of_decide_eq_false h2.2
  have h3:=of_decide_eq_false (bn1 (Yw (by decide) hc)).1
  have h4:K4 M (vs.getD 1 0) O=[]:=List.eq_nil_of_length_eq_zero (by omega)
  have g0:=hr.tk
  have g1:=hr.st
  dsimp only at g0 g1
  refine⟨by dsimp only;omega,by dsimp only;omega,hr.nS,hr.nO,hr.nM,hr.nX,hr.nQ,hr.sta,hr.ord,hr.met,hr.out,hr.per,fun x hx hh e1 e2=> ?_⟩
  have hi:=Jxt e1
  have h5:=Jl5 (Jl3 h4 x hx) hh hi.1 (by omega)
  have e2:hh<vs.getD 1 0:=e2
  rw[e1,decide_eq_true e2,Bool.true_and,Bool.true_and] at h5
  have:=of_decide_eq_false h5
  show 0≤K3 M x.1 hh
  omega
end
theorem J67 {h:Kh} {e:Ev} (hh:Kr h) (hm:(J8 h.2.2).2.2.2.2.1.length<10000) (hc:Jc e=0) (ha:Lt h e=0) (hk:(e.2.1.toList==Jl.toList)=false):Jo (Jd (J8 h.2.2) e):=by
 obtain⟨n,k,ns,vs,tx⟩:=e
 have hE:=Ko hc
 have eK:=Y5 (h:=h) (n:=n) (k:=k) (ns:=ns) (vs:=vs) (tx:=tx) hk
 rw[ha] at eK
 obtain⟨_,z2,z3,z4,z5⟩:=Fd eK.symm
 have hr:=Db hh
 clear eK ha z4
 generalize J8 h.2.2=r at*
 obtain⟨tk,st,S,O,M,X,Q⟩:=r
 have z2:¬vs.getD 0 0<tk:=z2
 have hm:M.length<10000:=hm
 have hn:ns.length=(Jk k).1.length:=hE.nn
 have hvl:(vs.length:Int)=(Jk k).2.1:=hE.nv
 have hx:∀i,i<vs.length→(0≤vs.getD i 0∧vs.getD i 0≤999999999):=fun i hi=>hE.val _ (Je hi)
 have hV:EvV (n,k,ns,vs,tx):=hE.val
 have hkd:=Uo hE.kind
 dsimp only at hkd hk
 clear hE hc hh
 rcases hkd with h|h|h|h|h|h|h|h|h|h|h<;>subst h
 ·exact absurd hk (by rw[show(Jl.toList==Jl.toList)=true from by kernel_rfl];decide)
 ·simp only[Kc,List.length_cons,List.length_nil] at hn hvl z3
  simp only[ckS,Kc] at z5
  obtain⟨k0,z3⟩:=Jj z3
  have e:Jd (tk,st,S,O,M,X,Q) (n,Jv,ns,vs,tx)=(vs.getD 0 0,(Jbo (tk,st,S,O,M,X,Q) (n,Jv,ns,vs,tx)).2):=by unfold Jd doS;simp only[Kc]
  rw[e]
  have hv:tk≤vs.getD 0 0∧vs.getD 0 0≤999999999:=⟨by omega,(hx 0 (by omega)).2⟩
  exact Jsn hr hv z5
 ·simp only[K8,List.length_cons,List.length_nil] at hn hvl z3
  simp only[ckS,K8] at z5
  obtain⟨k0,z3⟩:=Jj z3
  have e:Jd (tk,st,S,O,M,X,Q) (n,Uc,ns,vs,tx)=(vs.getD 0 0,(Jac (tk,st,S,O,M,X,Q) (n,Uc,ns,vs,tx)).2):=by unfold Jd doS;simp only[K8]
  rw[e]
  have hv:tk≤vs.getD 0 0∧vs.getD 0 0≤999999999:=⟨by omega,(hx 0 (by omega)).2⟩
  exact J1s hr hv z5 (Jtg (k0 rfl))
 ·simp only[Kp,List.length_cons,List.length_nil] at hn hvl z3
  simp only[ckS,Kp] at z5
  obtain⟨k0,z3⟩:=Jj z3
  obtain⟨k1,z3⟩:=Jj z3
  obtain⟨k2,z3⟩:=Jj z3
  have e:Jd (tk,st,S,O,M,X,Q) (n,Kf,ns,vs,tx)=(vs.getD 0 0,(Jag (tk,st,S,O,M,X,Q) (n,Kf,ns,vs,tx)).2):=by unfold Jd doS;simp only[Kp]
  rw[e]
  have hv:tk≤vs.getD 0 0∧vs.getD 0 0≤999999999:=⟨by omega,(hx 0 (by omega)).2⟩
  exact J1t hr hv rfl hV (by omega) (Jtg (k1 rfl)) (Jtg (k2 rfl)) z5
 ·simp only[Kq,List.length_cons,List.length_nil] at hn hvl z3
  simp only[ckS,Kq] at z5
  obtain⟨k0,z3⟩:=Jj z3
  have e:Jd (tk,st,S,O,M,X,Q) (n,K2,ns,vs,tx)=(vs.getD 0 0,(Jah (tk,st,S,O,M,X,Q) (n,K2,ns,vs,tx)).2):=by unfold Jd doS;simp only[Kq]
  rw[e]
  have hv:tk≤vs.getD 0 0∧vs.getD 0 0≤999999999:=⟨by omega,(hx 0 (by omega)).2⟩
  exact J1u hr hv hm (Jxf (k0 rfl)) (fun i hi=>hx i (by omega)) z5
 ·simp only[Uf,List.length_cons,List.length_nil] at hn hvl z3
  simp only[ckS,Uf] at z5
  obtain⟨k0,z3⟩:=Jj z3
  have e:Jd (tk,st,S,O,M,X,Q) (n,Vj,ns,vs,tx)=(vs.getD 0 0,(Jab (tk,st,S,O,M,X,Q) (n,Vj,ns,vs,tx)).2):=by unfold Jd doS;simp only[Uf]
  rw[e]
  have hv:tk≤vs.getD 0 0∧vs.getD 0 0≤999999999:=⟨by omega,(hx 0 (by omega)).2⟩
  exact J7b hr hv (Jxf (k0 rfl)) z5
 ·simp only[Jy,List.length_cons,List.length_nil] at hn hvl z3
  simp only[ckS,Jy] at z5
  obtain⟨k0,z3⟩:=Jj z3
  obtain⟨k1,z3⟩:=Jj z3
  have e:Jd (tk,st,S,O,M,X,Q) (n,Jp,ns,vs,tx)=(vs.getD 0 0,(Jae (tk,st,S,O,M,X,Q) (n,Jp,ns,vs,tx)).2):=by unfold Jd doS;simp only[Jy]
  rw[e]
  have hv:tk≤vs.getD 0 0∧vs.getD 0 0≤999999999:=⟨by omega,(hx 0 (by omega)).2⟩
  exact Jvg hr hv hV (by omega) (Jtg (k1 rfl)) z5
 ·simp only[Js,List.length_cons,List.length_nil] at hn hvl z3
  simp only[ckS,Js] at z5
  obtain⟨k0,z3⟩:=Jj z3
  have e:Jd (tk,st,S,O,M,X,Q) (n,Jr,ns,vs,tx)=(vs.getD 0 0,(Jad (tk,st,S,O,M,X,Q) (n,Jr,ns,vs,tx)).2):=by unfold Jd doS;simp only[Js]
  rw[e]
  have hv:tk≤vs.getD 0 0∧vs.getD 0 0≤999999999:=⟨by omega,(hx 0 (by omega)).2⟩
  exact Jso hr hv (J0l (k0 rfl)) z5
 ·simp only[J5,List.length_cons,List.length_nil] at hn hvl z3
  simp only[ckS,J5] at z5
  obtain⟨k0,z3⟩:=Jj z3
  obtain⟨k1,z3⟩:=Jj z3
  have e:Jd (tk,st,S,O,M,X,Q) (n,Kb,ns,vs,tx)=(vs.getD 0 0,(Jaf (tk,st,S,O,M,X,Q) (n,Kb,ns,vs,tx)).2):=by unfold Jd doS;simp only[J5]
  rw[e]
  have hv:tk≤vs.getD 0 0∧vs.getD 0 0≤999999999:=⟨by omega,(hx 0 (by omega)).2⟩
  exact Jvf hr hv (J0l (k1 rfl)) z5
 ·simp only[J4,List.length_cons,List.length_nil] at hn hvl z3
  simp only[ckS,J4] at z5
  obtain⟨k0,z3⟩:=Jj z3
  have e:Jd (tk,st,S,O,M,X,Q) (n,Ka,ns,vs,tx)=(vs.getD 0 0,(Jhc (tk,st,S,O,M,X,Q) (n,Ka,ns,vs,tx)).2):=by unfold Jd doS;simp only[J4]
  rw[e]
  have hv:tk≤vs.getD 0 0∧vs.getD 0 0≤999999999:=⟨by omega,(hx 0 (by omega)).2⟩
  exact Jve hr hv (Kgl (k0 rfl))
 ·simp only[K6,List.length_cons,List.length_nil] at hn hvl z3
  simp only[ckS,K6] at z5
  have e:Jd (tk,st,S,O,M,X,Q) (n,Jh,ns,vs,tx)=(vs.getD 0 0,(Jbn (tk,st,S,O,M,X,Q) (n,Jh,ns,vs,tx)).2):=by unfold Jd doS;simp only[K6]
  rw[e]
  have hv:tk≤vs.getD 0 0∧vs.getD 0 0≤999999999:=⟨by omega,(hx 0 (by omega)).2⟩
  exact Jvd hr hv z5
theorem J8f {r:Reg} {e:Ev}:(doS r e).2.2.2.2.1.length≤r.2.2.2.2.1.length+1:=by
 obtain⟨tk,st,S,O,M,X,Q⟩:=r
 obtain⟨n,k,ns,vs,tx⟩:=e
 unfold doS
 split<;>first|exact Nat.le_succ _|(show(M++[_]).length≤M.length+1;simp)
structure Yk (h:Kh):Prop where
 ok:Kr h
 met:∀r∈h.2.2,r.2.2.2.2.1.length≤h.1.length
theorem Jwp {h:Kh} (hi:Yk h):(J8 h.2.2).2.2.2.2.1.length≤h.1.length:=by
 unfold J8
 by_cases h0:0<h.2.2.length
 ·exact hi.met _ (Je (by omega))
 ·have:h.2.2=[]:=List.eq_nil_of_length_eq_zero (by omega)
  rw[this];exact Nat.zero_le _
theorem add_zero {h:Kh} {e:Ev} (ha:Kx h e=0):Jc e=0∧Lt h e=0:=by
 unfold Kx at ha
 by_cases hc:Jc e≠0
 ·rw[if_pos hc] at ha;exact absurd ha hc
 ·rw[if_neg hc] at ha;exact⟨Decidable.of_not_not hc,ha⟩
theorem Jaj {h:Kh} {e:Ev} (hi:Yk h) (hl:h.1.length<1000) (ha:Kx h e=0):Yk (X1 h e):=by
 obtain⟨hc,hacc⟩:=add_zero ha
 obtain⟨E,C,G⟩:=h
 obtain⟨n1,n2,n3,hr⟩:=hi.ok
 have hm:=Jwp hi
 dsimp only at n1 n2 n3 hr hl hm
 cases hk:e.2.1.toList==Jl.toList with
 |true=>
  unfold X1
  rw[hk,cond_true]
  refine⟨⟨by simp;omega,by simp;omega,by simp;omega,fun r hx=>hr r (List.mem_of_mem_take hx)⟩,fun r hx=> ?_⟩
  have:r.2.2.2.2.1.length≤E.length:=hi.met r (List.mem_of_mem_take hx)
  simp only[List.length_append,List.length_singleton]
  omega
 | false =>
  have hs:=J67 hi.ok (Nat.lt_of_le_of_lt hm (by omega)) hc hacc hk
  unfold X1
  rw[hk,cond_false]
  refine⟨⟨by simp;omega,by simp;omega,by simp;omega,fun r hx=> ?_⟩,fun r hx=> ?_⟩
  ·rcases V3 hx with h|rfl
   ·exact hr r h
   ·exact hs
  ·rcases V3 hx with h|rfl
   ·have:r.2.2.2.2.1.length≤E.length:=hi.met r h
    simp only[List.length_append,List.length_singleton]
    omega
   ·have:=J8f (r:=J8 G) (e:=e)
    simp only[List.length_append,List.length_singleton]
    show(doS (J8 G) e).2.2.2.2.1.length≤_
    omega
theorem Xm {h:Kh} {e:Ev}:(X1 h e).1.length=h.1.length+1:=by
 unfold X1
 cases e.2.1.toList==Jl.toList<;>simp
def Vn:Kh:=([],[],[])
theorem Yv:Yk Vn:=⟨⟨by decide,by decide,rfl,fun _ h=>(by cases h)⟩,fun _ h=>(by cases h)⟩
def Xc:Kh→List Ev→Kh×Int×Int
 |h,[]=>(h,0,0)
 |h,e::l=>if Kx h e=0 then Xc (X1 h e) l else(h,h.1.length+1,Kx h e)
def Ja (l:List Ev):Kh×Int×Int:=if 1000<l.length then(Vn,0,5) else Xc Vn l
def Jg (l:List Ev):Reg:=if(Ja l).2.2=0 then J8 (Ja l).1.2.2 else Xd
def lOk (l:List Ev):Prop:=l.length≤1000000∧∀e∈l,Fp e
def J8o:Con:={args:=[.val false (.list 67 sEv)],ress:=[(true,Jkx),I,I],owns:=[],pre:=fun(l,_)=>[lOk l],spec:=fun(l,_)=>(Jg l,(Ja l).2.1,(Ja l).2.2,())}
abbrev Jpt:List SC:=[.int .i64 0, .int .i64 0, .val (.slice none 0 0), .val (.slice none 0 0), .val (.slice none 0 0), .val (.slice none 0 0), .val (.slice none 0 0)]
abbrev Kih (l:List Ev):Ann:={X:=Kh×Nat,σ:=fun(h,k)=>⟨7,[(5, .one (.ptr 3 0)),(14, .one (.sl 0)),(15, .one (.int .i64 l.length)),(16, .one (.int .i64 k))],[(0, .imm 67 sEv l),(1, .box 105 Jpt),(2, .sus [(2, .one (.ptr 1 0))]),(3, .box 167 [.sl 4, .sl 5, .sl 6]),(4, .own 67 sEv h.1),(5, .own 67 sEv h.2.1),(6, .own 105 Jkx h.2.2)]⟩,inv:=fun(h,k)=>Yk h∧h.1.length=k∧k≤l.length∧l.length≤1000∧Xc h (l.drop k)=Ja l,mu:=fun(_,k)=>l.length-k}
def Z27 (a:Kh×Nat) (b:List Ev):=Bd (Nc a.2) (Ln b)
def Z34 (a:Kh×Nat):=Iw (Nc a.2+1)
def J1c (a:List Ev):=decide (1000<Ln a)
def J08 (a:Kh×Nat) (b:List Ev):=decide (Nc a.2<Ln b)
def Jr3 (a:Kh×Nat) (b:(List Ev×List Ev×List Reg)×Nat):=Nc a.2+1=Nc b.2
def J7:=Value.slice none 0 0
def J6s (a:Kh×Nat) (b:List Ev):=Nc a.2+1=(Ja b).2.1
def Jt1 (a:Kh×Nat):=(a.1.1,E2 a.1.2)
def J6j (a:Kh×Nat):=Kr (Jt1 a)
def Kk7 (a:List Ev):=0=(Ja a).2.1∧0=(Ja a).2.2
def J58 (a:List Ev) (b:Kh×Nat):=List.getD a b.2 Fe
def J57 (a:List Ev) (b:Kh×Nat):=(J58 a b).2
def J0w (a:List Ev) (b:Kh×Nat):=(J57 a b).2
def Jph (a:List Ev):=V0=Jg a
def Kpi (a:Kh×Nat):=Iw (Ln a.1.2.2-1)∧Tw (Bd (Ln a.1.2.2-1) (Ln a.1.2.2))
def Ked (a:(List Ev×List Ev×List Reg)×Nat):=List.length a.1.1=0∧List.length a.1.2.1=0∧List.length a.1.2.2=0
def Koe (a:Kh×Nat):=Gt a.1.2.2 (Ln a.1.2.2-1) V0
def Koc (a:Kh×Nat):=(Koe a).2
def J94 (a:(List Ev×List Ev×List Reg)×Nat) (b:List Ev):=List.length a.1.1=a.2∧a.2≤List.length b∧List.length b≤1000∧Xc a.1 (List.drop a.2 b)=Ja b
def J93 (a:Kh×Nat) (b:List Ev):=List.length a.1.1=a.2∧a.2≤List.length b∧List.length b≤1000∧Xc a.1 (List.drop a.2 b)=Ja b
def Kj3 (a:Kh×Nat):=(Koc a).2
def Kj0 (a:Kh×Nat):=(Kj3 a).2
def Kjz (a:Kh×Nat):=(Kj0 a).2
def Kjy (a:Kh×Nat):=(Kjz a).2
def J53 (a:Kh×Nat) (b:List Ev):=Yk a.1∧J93 a b
def J3x (a:(List Ev×List Ev×List Reg)×Nat) (b:List Ev):=Yk a.1∧J94 a b
def Kng (a:List Ev):=Jph a∧0=(Ja a).2.1∧5=(Ja a).2.2
def K0k (a:List Ev):=Sf true (Jph a∧Kk7 a)
def J51 (a:(List Ev×List Ev×List Reg)×Nat) (b:List Ev) (c:Kh×Nat):=J3x a b∧List.length b-a.2<List.length b-c.2
def Jui (a:List Ev) (b:Kh×Nat):=((J58 a b).1,(J57 a b).1,(J0w a b).1,E2 (J0w a b).2)
def J0r (a:Kh×Nat) (b:List Ev):=Kx (Jt1 a) (Jui b a)
def Kdt (a:Kh×Nat) (b:List Ev):=Vf (Jt1 a) (Jui b a)
def Kds (a:Kh×Nat) (b:List Ev):=(Kdt a b).2
def Kl9 (a:(List Ev×List Ev×List Reg)×Nat):=Si 0 (Si 0 (Sf J7 (Sf J7 (Sf J7 (Sf J7 (Sf J7 (Ked a)))))))
def J5y (a:Kh×Nat) (b:List Ev):=J6j a∧List.length a.1.1<1000∧Fp (Jui b a)
def J0q (a:Kh×Nat) (b:List Ev):=J0r a b !=0
def Jzp (a:Kh×Nat):=((Koe a).1,(Koc a).1,(Kj3 a).1,(Kj0 a).1,(Kjz a).1,E2 (Kjy a))
def J4m (a:Kh×Nat) (b:List Ev):=Jzp a=Jg b
def Jt3 (a:Kh×Nat) (b:List Ev) (c:(List Ev×List Ev×List Reg)×Nat):=(Kdt a b).1=c.1.1∧(Kds a b).1=c.1.2.1∧(Kds a b).2=c.1.2.2
def J4e (a:Kh×Nat) (b:List Ev) (c:(List Ev×List Ev×List Reg)×Nat):=Si 0 (Si 0 (Sf J7 (Sf J7 (Sf J7 (Sf J7 (Sf J7 (Jt3 a b c)))))))
theorem K99:Ok Tryz.prog 54 J8o:=Jwm W93 Tryz.f54 (U0 (l:=([(74,Tryz.f74),(75,Tryz.f75),(129,Tryz.f129)]:List (Nat×Func))) (List.forall_mem_cons.2 ⟨by kernel_rfl,List.forall_mem_cons.2 ⟨by kernel_rfl,List.forall_mem_cons.2 ⟨by kernel_rfl,by simp⟩⟩⟩)) (fun xx=>na ()) (fun xx=>fun f id=>if f=74 then some (Kih xx.1) else none) fun xx=>by
 obtain⟨(l:List Ev),_⟩:=xx
 refine(by kernel_rfl:(lOk l→Br (J1c l) (Br true (Sf true (Kng l)) False) (∃(x:(List Ev×List Ev×List Reg)×Nat),Si (Ln l) (0=Nc x.2∧Sf l (Kl9 x))∧J3x x l∧∀(x:Kh×Nat),J53 x l→Br (J08 x l) (Tw (Z27 x l)∧J5y x l∧Br (J0q x l) (Z34 x∧Br (J0q x l) (Sf true (Jph l∧J6s x l∧J0r x l=(Ja l).2.2)) False) (Z34 x∧∃(y:(List Ev×List Ev×List Reg)×Nat),Si (Ln l) (Jr3 x y∧Sf l (J4e x l y))∧J51 y l x)) (Br false (K0k l) (Br (decide (0<Ln x.1.2.2)) (Kpi x∧(List.length (Kj3 x).1≤1000000∧List.length (Kj0 x).1≤1000000∧List.length (Kjz x).1≤1000000∧List.length (Kjy x).1≤1000000∧List.length (Kjy x).2≤1000000)∧Sf true (J4m x l∧Kk7 l)) (Jdn∧K0k l)))))=_).mp ?_
 delta Z27 Z34 J1c J08 Jr3 J7 J6s Jt1 Fe J6j Kk7 J58 J57 J0w Dq Jdn V0 Jph Kpi Ked Koe Koc J94 J93 Kj3 Kj0 Kjz Kjy J53 J3x Kng K0k J51 Jui J0r Kdt Kds Kl9 J5y J0q Jzp J4m Jt3 J4e Br Iw Bd T2 Tw Sf Si Ln Nc Gt B0 E2
 intro hl
 refine⟨fun h=> ?_,fun h=> ?_⟩
 ·have e:Ja l=(Vn,0,5):=by unfold Ja;rw[if_pos (by have:=of_decide_eq_true h;omega)]
  refine⟨fun _=>⟨rfl, ?_,by rw[e],by rw[e]⟩,fun h=>by cases h⟩
  unfold Jg;rw[e];rfl
 have hn:l.length≤1000:=by have:=of_decide_eq_false h;omega
 have e0:Ja l=Xc Vn l:=by unfold Ja;rw[if_neg (by omega)]
 refine⟨(Vn,(0:Nat)),⟨rfl,rfl,rfl,rfl,rfl,rfl,rfl,rfl,rfl,rfl,rfl,rfl,rfl⟩,⟨Yv,rfl,Nat.zero_le _,hn,e0.symm⟩,fun(x:Kh×Nat) hx=>⟨fun h1=> ?_,fun h1=> ?_⟩⟩
 ·obtain⟨g,k⟩:=x
  obtain⟨hi,hk,hk2,_,hrun⟩:=hx
  dsimp only at hi hk hk2 hrun
  have hlt:k<l.length:=by simpa using h1
  rw[Jn (d:=ev0) hlt,Xc] at hrun
  have hz:=hl.2 _ (Je (d:=ev0) hlt)
  refine⟨⟨⟨by dsimp only;omega,by dsimp only;omega⟩,by dsimp only;omega,by dsimp only;omega⟩,⟨hi.ok,by show g.1.length<1000;omega,hz⟩,fun h2=>⟨by dsimp only;omega,fun h3=> ?_,fun h3=> ?_⟩,fun h2=>⟨by dsimp only;omega,(X1 g (l.getD k ev0),k+1), ?_,⟨?_, ?_,by dsimp only;omega,hn, ?_⟩,by dsimp only;omega⟩⟩
  ·have h2:Kx g (l.getD k ev0)≠0:=bne_iff_ne.1 h2
   rw[if_neg h2] at hrun
   rw[←hrun]
   refine⟨rfl, ?_, ?_,rfl⟩
   ·unfold Jg;rw[←hrun];dsimp only;rw[if_neg h2];rfl
   ·show((k:Nat):Int)+1=(g.1.length:Int)+1;rw[hk]
  ·have h2:Kx g (l.getD k ev0)≠0:=bne_iff_ne.1 h2
   exact absurd (bne_eq_false_iff_eq.1 h3) h2
  ·have h2:Kx g (l.getD k ev0)=0:=bne_eq_false_iff_eq.1 h2
   have eP:Vf g (l.getD k ev0)=X1 g (l.getD k ev0):=by unfold Vf;rw[if_pos h2]
   refine⟨rfl,by simp,rfl,rfl,rfl,rfl,rfl,rfl,rfl,rfl, ?_, ?_, ?_⟩
   ·show(Vf g (l.getD k ev0)).1=_;rw[eP]
   ·show(Vf g (l.getD k ev0)).2.1=_;rw[eP]
   ·show(Vf g (l.getD k ev0)).2.2=_;rw[eP]
  ·exact Jaj hi (by omega) (bne_eq_false_iff_eq.1 h2)
  ·show(X1 g (l.getD k ev0)).1.length=k+1
   rw[Xm,hk]
  ·have h2:Kx g (l.getD k ev0)=0:=bne_eq_false_iff_eq.1 h2
   rw[if_pos h2] at hrun
   exact hrun
 ·obtain⟨g,k⟩:=x
  obtain⟨hi,hk,hk2,_,hrun⟩:=hx
  dsimp only at hi hk hk2 hrun
  have hlt:¬k<l.length:=by simpa using h1
  have:k=l.length:=by omega
  rw[this,List.drop_length,Xc] at hrun
  have eR:Jg l=J8 g.2.2:=by unfold Jg;rw[←hrun];rfl
  have hR:=Db hi.ok
  have hGl:((g.2.2.length:Int)-1).toNat=g.2.2.length-1:=by omega
  have hb:g.2.2.length≤1000:=by have:=hi.ok.nG;have:=hi.ok.nC;have:=hi.ok.nE;omega
  refine⟨fun f=>(by cases f),fun _=>⟨fun h2=> ?_,fun h2=> ?_⟩⟩
  ·have h2:(0:Int)<g.2.2.length:=of_decide_eq_true h2
   dsimp only
   rw[hGl]
   refine⟨⟨⟨by omega,by omega⟩,⟨by omega,by omega⟩,by omega,by omega⟩,⟨Nat.le_trans hR.nS (by decide),Nat.le_trans hR.nO (by decide),Nat.le_trans hR.nM (by decide),Nat.le_trans hR.nX (by decide),Nat.le_trans hR.nQ (by decide)⟩,rfl,eR.symm, ?_, ?_⟩
   ·rw[←hrun]
   ·rw[←hrun]
  ·have e1:=Ku h2
   rw[e1] at eR
   refine⟨by decide,rfl,eR.symm, ?_, ?_⟩
   ·rw[←hrun]
   ·rw[←hrun]
abbrev W94:=W93.add K99
def Ua5:Con:={args:=[aS, .ref 105 Jkx],ress:=[I],owns:=[],pre:=fun(_,r,_)=>[Jo r],spec:=fun(s,r,_)=>(bif !Vt r 0 s then 10 else 0,())}
theorem Kuw:Ok Tryz.prog 139 Ua5:=okW W94 Tryz.f139 na fun xx=>by
 obtain⟨(s:ByteArray),⟨(tk:Int),(st:Int),(S:List Sta),(O:List Ord),(M:List Met),(X:List Out),(Q:List Per)⟩,_⟩:=xx
 refine(by kernel_rfl:(J0 tk st S O M X Q→J0 tk st S O M X Q∧(bif !Vt (Z67 tk st S O M X Q) (0:Int) s then(10:Int) else(0:Int))=bif !Vt (Z67 tk st S O M X Q) (0:Int) s then(10:Int) else(0:Int))=_).mp ?_
 delta Z67 J0
 intro hr
 exact⟨hr,rfl⟩
abbrev W95:=W94.add Kuw
def opE (l:List Ev) (ns:List ByteArray):Int:=if(Ja l).2.2=0 then Jf (ns.map fun s=>bif !Vt (Jg l) 0 s then 10 else 0) else(Ja l).2.2
def Kwg:Con:={args:=[.val false (.list 67 sEv), .val false (.list 9 .str)],ress:=[(true,Jkx),I],owns:=[],pre:=fun(l,ns,_)=>[lOk l,ns.length≤1000000],spec:=fun(l,ns,_)=>(Jg l,opE l ns,())}
abbrev J9h (l:List Ev) (ns:List ByteArray):Ann:={X:=Kh×Nat,σ:=fun(h,k)=>⟨9,[(5, .one (.ptr 4 0)),(14, .one (.sl 0)),(15, .one (.int .i64 l.length)),(16, .one (.int .i64 k))],[(0, .imm 67 sEv l),(1, .imm 9 .str ns),(2, .box 105 Jpt),(3, .sus [(1, .one (.sl 1)),(4, .one (.ptr 2 0))]),(4, .box 167 [.sl 6, .sl 7, .sl 8]),(6, .own 67 sEv h.1),(7, .own 67 sEv h.2.1),(8, .own 105 Jkx h.2.2)]⟩,inv:=fun(h,k)=>Yk h∧h.1.length=k∧k≤l.length∧l.length≤1000∧Xc h (l.drop k)=Ja l,mu:=fun(_,k)=>l.length-k}
def Ko2 (a:Bt):= !Vt V0 0 a
def Kz4 (a:Ls):=List.map (fun(x:ByteArray)=>match Ko2 x with|true=>(10:Int)|false=>(0:Int)) a
def Kbs (a:Kh×Nat) (b:Ls):=List.map (fun(x:ByteArray)=>match !Vt (Jzp a) (0:Int) x with|true=>(10:Int)|false=>(0:Int)) b
theorem K90:Ok Tryz.prog 68 Kwg:=Jwm W95 Tryz.f68 (U0 (l:=([(74,Tryz.f74),(75,Tryz.f75)]:List (Nat×Func))) (List.forall_mem_cons.2 ⟨by kernel_rfl,List.forall_mem_cons.2 ⟨by kernel_rfl,by simp⟩⟩)) (fun xx=>na ()) (fun xx=>fun f id=>if f=74 then some (J9h xx.1 xx.2.1) else none) fun xx=>by
 obtain⟨(l:List Ev),(ns:List ByteArray),_⟩:=xx
 refine(by kernel_rfl:(lOk l→Fu ns→Br (J1c l) (Br true (Sf true (Jph l∧5=opE l ns)) False) (∃(x:(List Ev×List Ev×List Reg)×Nat),Si (Ln l) (0=Nc x.2∧Sf l (Sf ns (Kl9 x)))∧J3x x l∧∀(x:Kh×Nat),J53 x l→Br (J08 x l) (Tw (Z27 x l)∧J5y x l∧Br (J0q x l) (Z34 x∧Br (J0q x l) (Sf true (Jph l∧J0r x l=opE l ns)) False) (Z34 x∧∃(y:(List Ev×List Ev×List Reg)×Nat),Si (Ln l) (Jr3 x y∧Sf l (Sf ns (J4e x l y)))∧J51 y l x)) (Br false (Sf true (Jph l∧0=opE l ns)) (Br (decide (0<Ln x.1.2.2)) (Kpi x∧(Fu ns∧(∀(x_1:ByteArray),Jgl ns x_1→Jo (Jzp x))∧List.length (Kbs x ns)≤1000000)∧Sf true (J4m x l∧Jf (Kbs x ns)=opE l ns)) ((Fu ns∧(∀(x:ByteArray),Jgl ns x→Xb)∧List.length (Kz4 ns)≤1000000)∧Sf true (Jph l∧Jf (Kz4 ns)=opE l ns))))))=_).mp ?_
 delta Z27 Z34 J1c J08 Fu Jr3 J7 Jt1 Fe J6j Jgl J58 J57 J0w Dq V0 Xb Jph Kpi Ked Ko2 Koe Koc J94 J93 Kj3 Kj0 Kjz Kjy J53 J3x Kz4 J51 Jui J0r Kdt Kds Kl9 J5y J0q Jzp J4m Kbs Jt3 J4e Br Iw Bd Tw Sf Si Ln Nc Gt B0 E2
 intro hl hns
 refine⟨fun h=> ?_,fun h=> ?_⟩
 ·have e:Ja l=(Vn,0,5):=by unfold Ja;rw[if_pos (by have:=of_decide_eq_true h;omega)]
  refine⟨fun _=>⟨rfl, ?_, ?_⟩,fun h=>by cases h⟩
  ·unfold Jg;rw[e];rfl
  ·unfold opE;rw[e];rfl
 have hn:l.length≤1000:=by have:=of_decide_eq_false h;omega
 have e0:Ja l=Xc Vn l:=by unfold Ja;rw[if_neg (by omega)]
 refine⟨(Vn,(0:Nat)),⟨rfl,rfl,rfl,rfl,rfl,rfl,rfl,rfl,rfl,rfl,rfl,rfl,rfl,rfl⟩,⟨Yv,rfl,Nat.zero_le _,hn,e0.symm⟩,fun(x:Kh×Nat) hx=>⟨fun h1=> ?_,fun h1=> ?_⟩⟩
 ·obtain⟨g,k⟩:=x
  obtain⟨hi,hk,hk2,_,hrun⟩:=hx
  dsimp only at hi hk hk2 hrun
  have hlt:k<l.length:=by simpa using h1
  rw[Jn (d:=ev0) hlt,Xc] at hrun
  have hz:=hl.2 _ (Je (d:=ev0) hlt)
  refine⟨⟨⟨by dsimp only;omega,by dsimp only;omega⟩,by dsimp only;omega,by dsimp only;omega⟩,⟨hi.ok,by show g.1.length<1000;omega,hz⟩,fun h2=>⟨by dsimp only;omega,fun h3=> ?_,fun h3=> ?_⟩,fun h2=>⟨by dsimp only;omega,(X1 g (l.getD k ev0),k+1), ?_,⟨?_, ?_,by dsimp only;omega,hn, ?_⟩,by dsimp only;omega⟩⟩
  ·have h2:Kx g (l.getD k ev0)≠0:=bne_iff_ne.1 h2
   rw[if_neg h2] at hrun
   refine⟨rfl, ?_, ?_⟩
   ·unfold Jg;rw[←hrun];dsimp only;rw[if_neg h2];rfl
   ·unfold opE;rw[←hrun];dsimp only;rw[if_neg h2];rfl
  ·have h2:Kx g (l.getD k ev0)≠0:=bne_iff_ne.1 h2
   exact absurd (bne_eq_false_iff_eq.1 h3) h2
  ·have h2:Kx g (l.getD k ev0)=0:=bne_eq_false_iff_eq.1 h2
   have eP:Vf g (l.getD k ev0)=X1 g (l.getD k ev0):=by unfold Vf;rw[if_pos h2]
   refine⟨rfl,by simp,rfl,rfl,rfl,rfl,rfl,rfl,rfl,rfl,rfl, ?_, ?_, ?_⟩
   ·show(Vf g (l.getD k ev0)).1=_;rw[eP]
   ·show(Vf g (l.getD k ev0)).2.1=_;rw[eP]
   ·show(Vf g (l.getD k ev0)).2.2=_;rw[eP]
  ·exact Jaj hi (by omega) (bne_eq_false_iff_eq.1 h2)
  ·show(X1 g (l.getD k ev0)).1.length=k+1
   rw[Xm,hk]
  ·have h2:Kx g (l.getD k ev0)=0:=bne_eq_false_iff_eq.1 h2
   rw[if_pos h2] at hrun
   exact hrun
 ·obtain⟨g,k⟩:=x
  obtain⟨hi,hk,hk2,_,hrun⟩:=hx
  dsimp only at hi hk hk2 hrun
  have hlt:¬k<l.length:=by simpa using h1
  have:k=l.length:=by omega
  rw[this,List.drop_length,Xc] at hrun
  have eR:Jg l=J8 g.2.2:=by unfold Jg;rw[←hrun];rfl
  have hR:=Db hi.ok
  have hGl:((g.2.2.length:Int)-1).toNat=g.2.2.length-1:=by omega
  have hb:g.2.2.length≤1000:=by have:=hi.ok.nG;have:=hi.ok.nC;have:=hi.ok.nE;omega
  have eO:opE l ns=Jf (ns.map fun s=>bif !Vt (J8 g.2.2) 0 s then 10 else 0):=by unfold opE;rw[←hrun,eR];rfl
  refine⟨fun f=>(by cases f),fun _=>⟨fun h2=> ?_,fun h2=> ?_⟩⟩
  ·have h2:(0:Int)<g.2.2.length:=of_decide_eq_true h2
   dsimp only
   rw[hGl]
   exact⟨⟨⟨by omega,by omega⟩,⟨by omega,by omega⟩,by omega,by omega⟩,⟨hns,fun _ _=>hR,by rw[List.length_map];exact hns⟩,rfl,eR.symm,eO.symm⟩
  ·have e1:=Ku h2
   rw[e1] at eR eO hR
   exact⟨⟨hns,fun _ _=>hR,by rw[List.length_map];exact hns⟩,rfl,eR.symm,eO.symm⟩
abbrev W96:=W95.add K90
theorem Jvx:∀{l:List Ev} {h:Kh},Yk h→h.1.length+l.length≤1000→Yk (Xc h l).1
 |[],_,hi,_=>hi
 | e :: l, h, hi, hl => by
  unfold Xc
  simp only[List.length_cons] at hl
  by_cases ha:Kx h e=0
  ·rw[if_pos ha]
   exact Jvx (Jaj hi (by omega) ha) (by rw[Xm];omega)
  ·rw[if_neg ha];exact hi
theorem Hf {l:List Ev}:Yk (Ja l).1:=by
 unfold Ja
 by_cases h:1000<l.length
 ·rw[if_pos h];exact Yv
 ·rw[if_neg h];exact Jvx Yv (by show 0+l.length≤1000;omega)
theorem D0 {l:List Ev}:Jo (Jg l):=by
 unfold Jg
 by_cases h:(Ja l).2.2=0
 ·rw[if_pos h];exact Db Hf.ok
 ·rw[if_neg h];exact Db Yv.ok
def Jg4 (l:List Ev) (s:ByteArray) (h:Int):Int:=Jf [opE l [s],Kt h 0 999999999]
def Jv0 (l:List Ev) (s:ByteArray) (h:Int):Int:=if Jg4 l s h=0 then Vx (Jg l).2.2.1 (Jg l).2.2.2.1 (Jg l).2.2.2.2.2.1 s h else 0
def J8n:Con:={args:=[.val false (.list 67 sEv),aS,aI],ress:=[I,I],owns:=[],pre:=fun(l,_)=>[lOk l],spec:=fun(l,s,h,_)=>(Jv0 l s h,Jg4 l s h,())}
theorem Kf4 {l:List Ev} {s:ByteArray} (h:opE l [s]=0):0≤J1 (Jg l).2.2.1 s:=by
 unfold opE at h
 by_cases h0:(Ja l).2.2=0
 ·rw[if_pos h0] at h
  have h1:=Kw.1 h _ (List.mem_map_of_mem (List.mem_cons_self ..))
  have h2:=Yw (by decide) h1
  exact Jtg (by simpa using h2)
 ·rw[if_neg h0] at h;exact absurd h h0
def Jza (a:List Ev):=((Jg a).1,(Jg a).2.1,(Jg a).2.2.1,(Jg a).2.2.2.1,(Jg a).2.2.2.2.1,E2 (Jg a).2.2.2.2.2)
def J54 (a:List Ev):=Jo (Jza a)
theorem Ual:Ok Tryz.prog 25 J8n:=okW W96 Tryz.f25 na fun xx=>by
 obtain⟨(l:List Ev),(s:ByteArray),(h:Int),_⟩:=xx
 refine(by kernel_rfl:(lOk l→(lOk l∧1≤1000000)∧2≤1000000∧Br (Jf [opE l [s],Z78 h] !=0) (0=Jv0 l s h∧Jf [opE l [s],Z78 h]=Jg4 l s h) ((J54 l∧0≤J1 (Jg l).2.2.1 s)∧Vx (Jg l).2.2.1 (Jg l).2.2.2.1 (Jg l).2.2.2.2.2.1 s h=Jv0 l s h∧0=Jg4 l s h))=_).mp ?_
 delta Z78 Jza J54 Br E2
 intro hl
 refine⟨⟨hl,by decide⟩,by decide,fun e=> ?_,fun e=> ?_⟩
 ·have e:Jg4 l s h≠0:=bne_iff_ne.1 e
  exact⟨by unfold Jv0;rw[if_neg e],rfl⟩
 ·have e:Jg4 l s h=0:=bne_eq_false_iff_eq.1 e
  exact⟨⟨D0,Kf4 (Yq e).1⟩,by unfold Jv0;rw[if_pos e],e.symm⟩
abbrev W97:=W96.add Ual
abbrev W98:=W97
def Jii (l:List Ev) (e:Ev):Int:=Jf [(Ja l).2.2,Jc e,bif decide ((1000:Int)≤l.length) then 5 else 0]
def Ja0 (l:List Ev) (e:Ev):Int:=if Jii l e=0 then Lt (Ja l).1 e else Jii l e
def J3d:Con:={args:=[.val false (.list 67 sEv),aEv],ress:=[I],owns:=[],pre:=fun(l,e,_)=>[lOk l,Fp e],spec:=fun(l,e,_)=>(Ja0 l e,())}
abbrev J9g (l:List Ev) (n:Int) (kk:ByteArray) (ns:List ByteArray) (vs:List Int) (tx:ByteArray):Ann:={X:=Kh×Nat,σ:=fun(h,k)=>⟨10,[(5, .one (.ptr 5 0)),(14, .one (.sl 0)),(15, .one (.int .i64 l.length)),(16, .one (.int .i64 k))],[(0, .imm 67 sEv l),(1, .imm 9 .str ns),(2, .imm 3 sI vs),(3, .box 67 [.int .i64 n, .str kk, .sl 1, .sl 2, .str tx]),(4, .sus [(0, .one (.sl 0)),(3, .one (.ptr 3 0))]),(5, .box 167 [.sl 7, .sl 8, .sl 9]),(7, .own 67 sEv h.1),(8, .own 67 sEv h.2.1),(9, .own 105 Jkx h.2.2)]⟩,inv:=fun(h,k)=>Yk h∧h.1.length=k∧k≤l.length∧l.length≤1000∧Xc h (l.drop k)=Ja l,mu:=fun(_,k)=>l.length-k}
def Kql (a:List Ev):=[bif decide ((1000:Int)≤Ln a) then(5:Int) else(0:Int)]
def Kee (a:Int) (b:Bt) (c:Ls) (d:Li) (e:Bt) (f:List Ev):=Z66 a b c d e::Kql f
def Kot (a:Bt) (b:(List Ev×List Ev×List Reg)×Nat):=Sf a (Ked b)
def Kmw (a:Ls) (b:Li):=Fu a∧Z57 b∧Jgk a∧3≤1000000
def Kxn (a:Kh×Nat) (b:List Ev) (c:Int) (d:Bt) (e:Ls) (f:Li) (g:Bt):=Jf (J0r a b::Kee c d e f g b)
def J4h (a:Bt) (b:Kh×Nat) (c:List Ev) (d:(List Ev×List Ev×List Reg)×Nat):=Sf a (Jt3 b c d)
theorem K96:Ok Tryz.prog 57 J3d:=Jwm W98 Tryz.f57 (U0 (l:=([(74,Tryz.f74)]:List (Nat×Func))) (List.forall_mem_cons.2 ⟨by kernel_rfl,by simp⟩)) (fun xx=>na ()) (fun xx=>fun f id=>if f=74 then some (J9g xx.1 xx.2.1.1 xx.2.1.2.1 xx.2.1.2.2.1 xx.2.1.2.2.2.1 xx.2.1.2.2.2.2) else none) fun xx=>by
 obtain⟨(l:List Ev),⟨(n:Int),(k:ByteArray),(ns:List ByteArray),(vs:List Int),(tx:ByteArray)⟩,_⟩:=xx
 refine(by kernel_rfl:(lOk l→Fp (n,k,ns,vs,tx)→Br (J1c l) (Kmw ns vs∧Br (Jf (5::Kee n k ns vs tx l) !=0) (Sf true (Jf (5::Kee n k ns vs tx l)=Ja0 l (n,k,ns,vs,tx))) False) (∃(x:(List Ev×List Ev×List Reg)×Nat),Si (Ln l) (0=Nc x.2∧Sf l (Sf ns (Sf vs (Si n (Sf k (Kot tx x))))))∧J3x x l∧∀(x:Kh×Nat),J53 x l→Br (J08 x l) (Tw (Z27 x l)∧J5y x l∧Br (J0q x l) (Z34 x∧Kmw ns vs∧Br (Kxn x l n k ns vs tx !=0) (Sf true (Kxn x l n k ns vs tx=Ja0 l (n,k,ns,vs,tx))) False) (Z34 x∧∃(y:(List Ev×List Ev×List Reg)×Nat),Si (Ln l) (Jr3 x y∧Sf l (Sf ns (Sf vs (Si n (Sf k (J4h tx x l y))))))∧J51 y l x)) (Kmw ns vs∧Br (Jf (0::Kee n k ns vs tx l) !=0) (Sf true (Jf (0::Kee n k ns vs tx l)=Ja0 l (n,k,ns,vs,tx))) ((J6j x∧Z66 n k ns vs tx=0)∧Sf true (Lt (Jt1 x) (n,k,ns,vs,tx)=Ja0 l (n,k,ns,vs,tx))))))=_).mp ?_
 delta Z27 Z34 Z57 Z66 J1c J08 Fu Jr3 Jt1 Fe J6j Jgl J58 J57 J0w Kql Kee Ked Jgk Kot J94 J93 J53 J3x Kmw J51 Jui J0r Kdt Kds J5y J0q Kxn Jt3 J4h Br Iw Bd Tw Sf Si Ln Nc B0 E2
 intro hl hz0
 refine⟨fun h=> ?_,fun h=> ?_⟩
 ·have e:Ja l=(Vn,0,5):=by unfold Ja;rw[if_pos (by have:=of_decide_eq_true h;omega)]
  have e5:Jii l (n,k,ns,vs,tx)=5:=by unfold Jii;rw[e];rfl
  refine⟨⟨hz0.1,hz0.2.1,hz0.2.2,by decide⟩,fun _=>⟨rfl, ?_⟩,fun h=> ?_⟩
  ·unfold Ja0;rw[e5];rfl
  ·have:Jii l (n,k,ns,vs,tx)=0:=by unfold Jii;rw[e];exact bne_eq_false_iff_eq.1 h
   rw[e5] at this;cases this
 have hn:l.length≤1000:=by have:=of_decide_eq_false h;omega
 have e0:Ja l=Xc Vn l:=by unfold Ja;rw[if_neg (by omega)]
 refine⟨(Vn,(0:Nat)),⟨rfl,rfl,rfl,rfl,rfl,rfl,rfl,rfl,rfl,rfl,rfl⟩,⟨Yv,rfl,Nat.zero_le _,hn,e0.symm⟩,fun(x:Kh×Nat) hx=>⟨fun h1=> ?_,fun h1=> ?_⟩⟩
 ·obtain⟨g,m⟩:=x
  obtain⟨hi,hk,hk2,_,hrun⟩:=hx
  dsimp only at hi hk hk2 hrun
  have hlt:m<l.length:=by simpa using h1
  rw[Jn (d:=ev0) hlt,Xc] at hrun
  have hz:=hl.2 _ (Je (d:=ev0) hlt)
  refine⟨⟨⟨by dsimp only;omega,by dsimp only;omega⟩,by dsimp only;omega,by dsimp only;omega⟩,⟨hi.ok,by show g.1.length<1000;omega,hz⟩,fun h2=>⟨by dsimp only;omega,⟨hz0.1,hz0.2.1,hz0.2.2,by decide⟩,fun h3=> ?_,fun h3=> ?_⟩,fun h2=>⟨by dsimp only;omega,(X1 g (l.getD m ev0),m+1), ?_,⟨?_, ?_,by dsimp only;omega,hn, ?_⟩,by dsimp only;omega⟩⟩
  ·have h2:Kx g (l.getD m ev0)≠0:=bne_iff_ne.1 h2
   rw[if_neg h2] at hrun
   have e6:Jii l (n,k,ns,vs,tx)=Kx g (l.getD m ev0):=by unfold Jii;rw[←hrun];unfold Jf;rw[if_neg h2]
   refine⟨rfl, ?_⟩
   unfold Ja0
   rw[if_neg (by rw[e6];exact h2),e6]
   unfold Jf
   exact if_neg h2
  ·have h2:Kx g (l.getD m ev0)≠0:=bne_iff_ne.1 h2
   have h3:=bne_eq_false_iff_eq.1 h3
   unfold Jf at h3
   exact h2 ((if_neg h2).symm.trans h3)
  ·have h2:Kx g (l.getD m ev0)=0:=bne_eq_false_iff_eq.1 h2
   have eP:Vf g (l.getD m ev0)=X1 g (l.getD m ev0):=by unfold Vf;rw[if_pos h2]
   refine⟨rfl,by simp,rfl,rfl,rfl,rfl,rfl,rfl, ?_, ?_, ?_⟩
   ·show(Vf g (l.getD m ev0)).1=_;rw[eP]
   ·show(Vf g (l.getD m ev0)).2.1=_;rw[eP]
   ·show(Vf g (l.getD m ev0)).2.2=_;rw[eP]
  ·exact Jaj hi (by omega) (bne_eq_false_iff_eq.1 h2)
  ·show(X1 g (l.getD m ev0)).1.length=m+1
   rw[Xm,hk]
  ·have h2:Kx g (l.getD m ev0)=0:=bne_eq_false_iff_eq.1 h2
   rw[if_pos h2] at hrun
   exact hrun
 ·obtain⟨g,m⟩:=x
  obtain⟨hi,hk,hk2,_,hrun⟩:=hx
  dsimp only at hi hk hk2 hrun
  have hlt:¬m<l.length:=by simpa using h1
  have:m=l.length:=by omega
  rw[this,List.drop_length,Xc] at hrun
  have e6:Jii l (n,k,ns,vs,tx)=Jf [0,Jc (n,k,ns,vs,tx),bif decide ((1000:Int)≤l.length) then 5 else 0]:=by unfold Jii;rw[←hrun]
  refine⟨⟨hz0.1,hz0.2.1,hz0.2.2,by decide⟩,fun h2=>⟨rfl, ?_⟩,fun h2=> ?_⟩
  ·have h2:=bne_iff_ne.1 h2
   rw[←e6] at h2
   unfold Ja0;rw[if_neg h2,e6]
  ·have h2:=bne_eq_false_iff_eq.1 h2
   have h3:=(L5 h2).2.1
   rw[←e6] at h2
   refine⟨⟨hi.ok,h3⟩,rfl, ?_⟩
   unfold Ja0;rw[if_pos h2,←hrun]
abbrev W99:=W98.add K96
abbrev K82:=W99
end Go.Proofs.YtcibbcfiemeoiaaGreatDoor

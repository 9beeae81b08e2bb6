/- Contracts of the functions that the law reaches: part of the proof. -/
import Derived.Test.YtcibbcfiemeoiaaGreatDoorProg
import Derived.Test.YtcibbcfiemeoiaaGreatDoorSxC
import Derived.Test.YtcibbcfiemeoiaaGreatDoorShelfA
import Derived.Test.YtcibbcfiemeoiaaGreatDoorLayA
import Derived.KernelRfl
import Derived.Laws.RangeAny
import Derived.Lib.Strings
set_option linter.unusedSimpArgs false
set_option linter.unusedVariables false
set_option maxRecDepth 20000
namespace Go.Proofs.YtcibbcfiemeoiaaGreatDoor
open Go.Sx
set_option maxHeartbeats 20000000
abbrev I:Bool×Sch:=(false, .int .i64)
abbrev Bo:Bool×Sch:=(false, .bool)
abbrev aI:AK:= .val false (.int .i64)
abbrev aB:AK:= .val false .bool
abbrev aS:AK:= .val false .str
abbrev tS:Bool×Sch:=(false, .str)
abbrev sI:Sch:= .int .i64
abbrev W0 [Sx.Dr]:GW Tryz.prog:=⟨[], .nil _⟩
theorem mixed:Tryz.prog.follows .mixedOrders=true:=by kernel_rfl
theorem okW [Sx.Dr] {f:FuncId} {c:Con} (W:GW Tryz.prog) (fn:Func) (ann:ATup c.args→Nat→Option Ann) (h:∀x:ATup c.args,wpF Tryz.prog W.g (ann x) fn c x) (h1:Tryz.prog.funcs[f]? =some fn:=by kernel_rfl) (h2:Jcc fn c=true:=by kernel_rfl):Ok Tryz.prog f c:=Vx mixed W.ok h1 h2 ann h
theorem J4n [Sx.Dr] {f:FuncId} {c:Con} {lib:FuncId→Option Func} (W:GW Tryz.prog) (fn:Func) (hl:∀f fn,lib f=some fn→Tryz.prog.funcs[f]? =some fn) (ann:ATup c.args→Nat→Option Ann) (annF:ATup c.args→FuncId→Nat→Option Ann) (h:∀x:ATup c.args,wpFG Tryz.prog W.g (ann x) (annF x) lib fn c x) (h1:Tryz.prog.funcs[f]? =some fn:=by kernel_rfl) (h2:Jcc fn c=true:=by kernel_rfl):Ok Tryz.prog f c:=Jft mixed W.ok h1 h2 hl ann annF h
abbrev na {α:Type}:α→Nat→Option Ann:=fun _ _=>none
abbrev X6 (A:Ann):Nat→Option Ann:=fun k=>if k=0 then some A else none
def Kub:Con:={args:=[aB,aI],ress:=[I],owns:=[],pre:=fun _=>[],spec:=fun(b,e,_)=>(bif b then e else 0,())}
theorem K8g [Sx.Dr]:Ok Tryz.prog 71 Kub:=okW W0 Tryz.f71 na fun xx=>by
 obtain⟨(b:Bool),(e:Int),_⟩:=xx
 refine(by kernel_rfl:(Br b (e=bif b then e else 0) (0=bif b then e else 0))=_).mp ?_
 delta Br
 cases b<;>simp
abbrev W1 [Sx.Dr]:=W0.add K8g
abbrev W2 [Sx.Dr]:=W1
abbrev W3 [Sx.Dr]:=W2
def Ki (n lo hi:Int):Int:=bif decide (n<lo)||decide (hi<n) then 3 else 0
def J7d:Con:={args:=[aI,aI,aI],ress:=[I],owns:=[],pre:=fun _=>[],spec:=fun(n,lo,hi,_)=>(Ki n lo hi,())}
theorem Ktd [Sx.Dr]:Ok Tryz.prog 133 J7d:=okW W3 Tryz.f133 na fun xx=>by
 obtain⟨(n:Int),(lo:Int),(hi:Int),_⟩:=xx
 refine(by kernel_rfl:((bif bif decide (n<lo) then true else decide (hi<n) then 3 else 0)=Ki n lo hi)=_).mp ?_
 unfold Ki;cases decide (n<lo)<;>rfl
abbrev W4 [Sx.Dr]:=W3.add Ktd
def Xu (n lo hi:Int):Bool:=decide (n<lo)||decide (hi<n)
def J2o:Con:={args:=[aI,aI,aI],ress:=[Bo],owns:=[],pre:=fun _=>[],spec:=fun(n,lo,hi,_)=>(Xu n lo hi,())}
theorem K84 [Sx.Dr]:Ok Tryz.prog 20 J2o:=okW W4 Tryz.f20 na fun xx=>by
 obtain⟨(n:Int),(lo:Int),(hi:Int),_⟩:=xx
 refine(by kernel_rfl:((bif decide (n<lo) then true else decide (hi<n))=Xu n lo hi)=_).mp ?_
 unfold Xu;cases decide (n<lo)<;>rfl
abbrev W5 [Sx.Dr]:=W4.add K84
def Kuc:Con:={args:=[aI],ress:=[I],owns:=[],pre:=fun _=>[],spec:=fun(n,_)=>(Ki n 0 999999999,())}
def Z76 (a:Int):=Ki a 0 999999999
def Ko6 (a:Int):=Z76 a=Z76 a
theorem K8h [Sx.Dr]:Ok Tryz.prog 70 Kuc:=okW W5 Tryz.f70 na fun xx=>by
 obtain⟨(n:Int),_⟩:=xx
 refine(by kernel_rfl:(Ko6 n)=_).mp ?_
 delta Z76 Ko6
 rfl
abbrev W6 [Sx.Dr]:=W5.add K8h
def Jg:List Int→Int
 |[]=>0
 |x::l=>if x=0 then Jg l else x
theorem Jo7 {l:List Int} {k:Nat} (h:k<l.length):Jg (l.drop k)=if l.getD k 0=0 then Jg (l.drop (k+1)) else l.getD k 0:=by
 rw[List.drop_eq_getElem_cons h]
 simp[Jg,List.getD_eq_getElem?_getD,h]
def Kfj:Con:={args:=[.val false (.list 26 sI)],ress:=[I],owns:=[],pre:=fun(l,_)=>[l.length≤1000000],spec:=fun(l,_)=>(Jg l,())}
abbrev J28 (l:List Int):Ann:={X:=Nat,σ:=fun k=>⟨1,[(5, .one (.sl 0)),(6, .one (.int .i64 l.length)),(7, .one (.int .i64 k))],[(0, .imm 26 sI l)]⟩,inv:=fun k=>k≤l.length∧Jg l=Jg (l.drop k),mu:=fun k=>l.length-k}
def Z21 (a:Li) (b:Nat):=List.getD a b 0
def Z22 (a:Nat):=Iw (Nc a+1)
def Z66 (a:Li):=List.length a≤1000000
def Z90 (a:Nat) (b:Li):=Tw (Bd (Nc a) (Ln b))
def Z94 (a:Nat) (b:Li):=decide (Nc a<Ln b)
def V0 (a b:Nat):=Nc a+1=Nc b
def J0l (a:Li) (b c:Nat):=List.length a-b<List.length a-c
def Ko4 (a:Nat) (b:Li):=a≤List.length b∧Jg b=Jg (List.drop a b)
theorem K8i [Sx.Dr]:Ok Tryz.prog 69 Kfj:=okW W6 Tryz.f69 (fun xx=>X6 (J28 xx.1)) fun xx=>by
 obtain⟨(l:List Int),_⟩:=xx
 refine(by kernel_rfl:(Z66 l→∃(x:Nat),Si (Ln l) (0=Nc x∧l=l)∧Ko4 x l∧∀(x:Nat),Ko4 x l→Br (Z94 x l) (Z90 x l∧Br (Z21 l x !=0) (Z21 l x=Jg l) (Z22 x∧∃(y:Nat),Si (Ln l) (V0 x y∧l=l)∧Ko4 y l∧J0l l y x)) (0=Jg l))=_).mp ?_
 delta Z21 Z22 Z66 Z90 Z94 V0 J0l Ko4 Br Iw Bd Tw Si Ln Nc
 intro hb
 refine⟨(0:Nat),⟨rfl,rfl,rfl⟩,⟨Nat.zero_le _,rfl⟩,fun(k:Nat) hk=>⟨fun h=> ?_,fun h=> ?_⟩⟩
 ·have hlt:k<l.length:=by simpa using h
  have hd:=Jo7 hlt
  refine⟨by omega,fun h1=> ?_,fun h1=>⟨by omega,(k+1:Nat),⟨rfl,by simp,rfl⟩,⟨by omega, ?_⟩,by omega⟩⟩
  ·have h2:¬l.getD k 0=0:=by simpa using h1
   rw[hk.2,hd,if_neg h2]
  ·have h2:l.getD k 0=0:=by simpa using h1
   rw[hk.2,hd,if_pos h2]
 ·have hlt:¬k<l.length:=by simpa using h
  have:k=l.length:=by omega
  rw[hk.2,this,List.drop_length];rfl
abbrev W7 [Sx.Dr]:=W6.add K8i
abbrev W8 [Sx.Dr]:=W7
abbrev W9 [Sx.Dr]:=W8
def okB (f:Bool) (c:Int):Bool:=bif (bif decide ((65:Int)≤c) then decide (c≤90) else false) then true else bif (bif decide ((97:Int)≤c) then decide (c≤122) else false) then true else bif f then false else bif decide (c<48) then c==95 else bif decide (57<c) then c==95 else true
def okL (f:Bool):List UInt8→Bool
 |[]=>true
 |b::r=>okB f (b.toNat:Int)&&okL false r
def Ye (s:ByteArray):Bool:=okL true s.data.toList&&(decide (0<s.size)&&decide ((s.size:Int)≤24))
theorem Jwg (f:Bool) (c:Int):(bif !bif (bif decide ((65:Int)≤c) then decide (c≤90) else false) then true else bif decide ((97:Int)≤c) then decide (c≤122) else false then bif f then true else bif (bif decide (c<48) then true else decide (57<c)) then c !=95 else false else false)= !okB f c:=by
 unfold okB bne
 cases decide ((65:Int)≤c)<;>cases decide (c≤90)<;>cases decide ((97:Int)≤c)<;>cases decide (c≤122)<;>cases f<;>cases decide (c<48)<;>cases decide (57<c)<;>cases c==95<;>rfl
theorem Jqt {f:Bool} {c:Int} (h:128≤c):okB f c=false:=by
 unfold okB
 have h1:decide (c≤90)=false:=decide_eq_false (by omega)
 have h2:decide (c≤122)=false:=decide_eq_false (by omega)
 have h3:decide (c<48)=false:=decide_eq_false (by omega)
 have h4:decide ((57:Int)<c)=true:=decide_eq_true (by omega)
 have h5:(c==95)=false:=beq_eq_false_iff_ne.2 (by omega)
 rw[h1,h2,h3,h4,h5]
 cases decide ((65:Int)≤c)<;>cases decide ((97:Int)≤c)<;>cases f<;>rfl
theorem Jea {s:ByteArray} {k:Nat} (h:k<s.size) (ha:(s[k]'h).toNat<128):Yj s k=((s[k]'h).toNat:Int)∧Jho s k=1:=by
 unfold Yj Jho
 rw[decode_ascii s k h ha]
 exact⟨rfl,rfl⟩
theorem Jl7 {s:ByteArray} {k:Nat} (h:k<s.size) (ha:128≤(s[k]'h).toNat):128≤Yj s k:=by
 have:=(decode_high s k h ha).1
 unfold Yj
 omega
theorem Fk {s:ByteArray} {k:Nat} (h:k<s.size):s.data.toList.drop k=(s[k]'h)::s.data.toList.drop (k+1):=by
 rw[List.drop_eq_getElem_cons (by simpa using h)]
 congr 1
theorem Jkd (s:ByteArray):(!(s.toList==(⟨⟨[]⟩⟩:ByteArray).toList))=decide (0<s.size):=by
 rw[Lib.toList_data,Lib.toList_data]
 have e:s.data.toList.length=s.size:=by simp
 cases h:s.data.toList with
 |nil=>rw[h] at e;simp at e;rw[←e];rfl
 |cons a l=>rw[h] at e;simp at e;rw[←e];simp
theorem Jdg (k:Nat):(((k:Nat):Int)==0)=(k==0):=by
 rw[Bool.eq_iff_iff,beq_iff_eq,beq_iff_eq];omega
def Ke2:Con:={args:=[aS],ress:=[Bo],owns:=[],pre:=fun(s,_)=>[s.size≤1000000],spec:=fun(s,_)=>(Ye s,())}
abbrev J8b (s:ByteArray):Ann:={X:=Nat,σ:=fun k=>⟨1,[(0, .one (.str s)),(7, .one (.sl 0))],[(0, .siter s k)]⟩,inv:=fun k=>k≤s.size∧okL true s.data.toList=okL (k==0) (s.data.toList.drop k),mu:=fun k=>s.size-k}
def Z14 (a:Bt):=a.data.toList
def Kn9 (a:Bt) (b:Nat):=bif decide (Yj a b<48) then true else decide (57<Yj a b)
def K3c (a:Bt):=Sf true ((bif !Lb a B0 then decide (Nc (ByteArray.size a)≤24) else false)=Ye a)
def Kmz (a:Nat) (b:Bt):=a≤ByteArray.size b∧okL true (Z14 b)=okL (a==0) (List.drop a (Z14 b))
theorem Kta [Sx.Dr]:Ok Tryz.prog 136 Ke2:=J4n W9 Tryz.f136 (U4 (l:=([]:List (Nat×Func))) (by simp)) (fun xx=>X6 (J8b xx.1)) (fun xx=>fun _=>na ()) fun xx=>by
 obtain⟨(s:ByteArray),_⟩:=xx
 refine(by kernel_rfl:(ByteArray.size s≤1000000→∃(x:Nat),Sf s (Sf s (0=x))∧Kmz x s∧∀(x:Nat),Kmz x s→(x<ByteArray.size s→Br true (Br (bif !bif bif decide (65≤Yj s x) then decide (Yj s x≤90) else false then true else bif decide (97≤Yj s x) then decide (Yj s x≤122) else false then bif Nc x==0 then true else bif Kn9 s x then Yj s x !=95 else false else false) (Sf true (false=Ye s)) (∃(y:Nat),Sf s (Sf s (x+Jho s x=y))∧Kmz y s∧ByteArray.size s-y<ByteArray.size s-x)) (K3c s))∧((x<ByteArray.size s→False)→Br false False (K3c s)))=_).mp ?_
 delta Z14 Kn9 K3c Kmz Br Sf Nc B0 Lb
 intro hb
 refine⟨(0:Nat),⟨rfl,rfl,rfl⟩,⟨Nat.zero_le _,by simp⟩,fun(k:Nat) hk=>⟨fun h=>⟨fun _=>⟨fun h1=>⟨rfl, ?_⟩,fun h1=> ?_⟩,fun h=>(by cases h)⟩,fun h=> ?_⟩⟩
 ·rw[Jwg,Jdg] at h1
  have h2:okB (k==0) (Yj s k)=false:=by simpa using h1
  unfold Ye
  have h3:okL true s.data.toList=false:=by
   rw[hk.2,Fk h,okL]
   by_cases ha:(s[k]'h).toNat<128
   ·rw[←(Jea h ha).1,h2];rfl
   ·rw[Jqt (by omega)];rfl
  rw[h3];rfl
 ·rw[Jwg,Jdg] at h1
  have h2:okB (k==0) (Yj s k)=true:=by simpa using h1
  by_cases ha:(s[k]'h).toNat<128
  ·obtain⟨r1,r2⟩:=Jea h ha
   refine⟨(k+1:Nat),⟨rfl,rfl,by rw[r2]⟩,⟨by omega, ?_⟩,by omega⟩
   rw[hk.2,Fk h,okL,←r1,h2]
   rfl
  ·have:=Jl7 h (by omega)
   rw[Jqt this] at h2
   cases h2
 ·have e:k=s.size:=Nat.le_antisymm hk.1 (Nat.le_of_not_lt h)
  refine⟨fun h=>(by cases h),fun _=>⟨rfl, ?_⟩⟩
  rw[e,List.drop_eq_nil_of_le (by simp)] at hk
  unfold Ye
  rw[hk.2,Jkd]
  cases decide (0<s.size)<;>cases decide ((s.size:Int)≤24)<;>rfl
abbrev W10 [Sx.Dr]:=W9.add Kta
abbrev aU:AK:= .val false (.int .u8)
def Jwu (c:Int):Bool:=bif (bif decide ((65:Int)≤c) then decide (c≤90) else false) then true else bif decide ((97:Int)≤c) then decide (c≤122) else false
def Keg (c:Int):Bool:=bif decide ((48:Int)≤c) then decide (c≤57) else false
def K9o:Con:={args:=[aU],ress:=[Bo],owns:=[],pre:=fun _=>[],spec:=fun(c,_)=>(Jwu c,())}
theorem Krz [Sx.Dr]:Ok Tryz.prog 190 K9o:=okW W10 Tryz.f190 na fun xx=>by
 obtain⟨(c:Int),_⟩:=xx
 refine(by kernel_rfl:((bif bif decide (65≤c) then decide (c≤90) else false then true else bif decide (97≤c) then decide (c≤122) else false)=Jwu c)=_).mp ?_
 rfl
abbrev W11 [Sx.Dr]:=W10.add Krz
def K9r:Con:={args:=[aU],ress:=[Bo],owns:=[],pre:=fun _=>[],spec:=fun(c,_)=>(Keg c,())}
theorem Kry [Sx.Dr]:Ok Tryz.prog 191 K9r:=okW W11 Tryz.f191 na fun xx=>by
 obtain⟨(c:Int),_⟩:=xx
 refine(by kernel_rfl:((bif decide (48≤c) then decide (c≤57) else false)=Keg c)=_).mp ?_
 rfl
abbrev W12 [Sx.Dr]:=W11.add Kry
theorem J6m (c:Int):okB true c=Jwu c:=by
 unfold okB Jwu
 cases decide ((65:Int)≤c)<;>cases decide (c≤90)<;>cases decide ((97:Int)≤c)<;>cases decide (c≤122)<;>rfl
theorem J6l (c:Int):(bif bif !Jwu c then !Keg c else false then c !=95 else false)= !okB false c:=by
 unfold okB Jwu Keg bne
 have e1:decide (c<48)= !decide ((48:Int)≤c):=by rw[Bool.eq_iff_iff];simp
 have e2:decide ((57:Int)<c)= !decide (c≤57):=by rw[Bool.eq_iff_iff];simp
 rw[e1,e2]
 cases decide ((65:Int)≤c)<;>cases decide (c≤90)<;>cases decide ((97:Int)≤c)<;>cases decide (c≤122)<;>cases decide ((48:Int)≤c)<;>cases decide (c≤57)<;>cases c==95<;>rfl
theorem D2 {s:ByteArray} {k:Nat} (h:k<s.size):s.data.toList.drop k=s.data.toList.getD k 0::s.data.toList.drop (k+1):=by
 have h':k<s.data.toList.length:=by simpa using h
 rw[List.drop_eq_getElem_cons h']
 congr 1
 rw[List.getD_eq_getElem?_getD,List.getElem?_eq_getElem h'];rfl
abbrev J26 (s:ByteArray):Ann:={X:=Nat,σ:=fun k=>⟨0,[(0, .one (.str s)),(3, .one (.int .i64 k))],[]⟩,inv:=fun k=>0<k∧k≤s.size∧Ye s=okL false (s.data.toList.drop k),mu:=fun k=>s.size-k}
def Ko7 (a:Bt) (b:Nat):=Nc (UInt8.toNat (List.getD (Z14 a) b 0))
def Ko1 (a:Bt):=Nc (UInt8.toNat (List.getD (Z14 a) 0 0))
def K4j (a:Bt) (b:Nat):= !Jwu (Ko7 a b)
def K4c (a:Bt):=bif Nc (ByteArray.size a)==0 then true else decide (24<Nc (ByteArray.size a))
def Km8 (a:Nat) (b:Bt):=0<a∧a≤ByteArray.size b∧Ye b=okL false (List.drop a (Z14 b))
def Kzf (a:Bt) (b:Nat):=bif K4j a b then !Keg (Ko7 a b) else false
theorem Ktr [Sx.Dr]:Ok Tryz.prog 111 Ke2:=okW W12 Tryz.f111 (fun xx=>X6 (J26 xx.1)) fun xx=>by
 obtain⟨(s:ByteArray),_⟩:=xx
 refine(by kernel_rfl:(ByteArray.size s≤1000000→(K4c s=false→Bd 0 (Nc (ByteArray.size s)))∧Br (bif K4c s then true else !Jwu (Ko1 s)) (false=Ye s) (∃(x:Nat),Sf s (1=Nc x)∧Km8 x s∧∀(x:Nat),Km8 x s→Br (decide (Nc x<Nc (ByteArray.size s))) ((Bd (Nc x) (Nc (ByteArray.size s))∧(K4j s x=true→Bd (Nc x) (Nc (ByteArray.size s)))∧(Kzf s x=true→Bd (Nc x) (Nc (ByteArray.size s))))∧Br (bif Kzf s x then Ko7 s x !=95 else false) (false=Ye s) (Z22 x∧∃(y:Nat),Sf s (V0 x y)∧Km8 y s∧ByteArray.size s-y<ByteArray.size s-x)) (true=Ye s)))=_).mp ?_
 delta Z14 Z22 V0 Ko7 Ko1 K4j K4c Km8 Kzf Br Iw Bd Sf Nc
 intro hb
 have e0:∀h:0<s.size,okL true s.data.toList=(Jwu ((s.data.toList.getD 0 0).toNat:Int)&&okL false (s.data.toList.drop 1)):=fun h=>by
  have:=D2 h
  rw[List.drop_zero] at this
  rw[this,okL,J6m]
  simp
 refine⟨fun h=> ?_,fun h=> ?_,fun h=> ?_⟩
 ·have h1:((s.size:Int)==0)=false:=by revert h;cases((s.size:Int)==0)<;>simp
  have:=beq_eq_false_iff_ne.1 h1
  exact⟨Int.le_refl _,by omega⟩
 ·unfold Ye
  by_cases h0:0<s.size
  ·rw[e0 h0]
   have h1:((s.size:Int)==0)=false:=beq_eq_false_iff_ne.2 (by omega)
   rw[h1] at h
   by_cases h2:(s.size:Int)≤24
   ·have h3:decide ((24:Int)<s.size)=false:=decide_eq_false (by omega)
    rw[h3] at h
    have h4:Jwu ((s.data.toList.getD 0 0).toNat:Int)=false:=by simpa using h
    rw[h4];rfl
   ·rw[decide_eq_false h2];simp
  ·rw[decide_eq_false h0];simp
 ·have h1:((s.size:Int)==0)=false:=by revert h;cases((s.size:Int)==0)<;>simp
  rw[h1] at h
  have h2:decide ((24:Int)<s.size)=false:=by revert h;cases decide ((24:Int)<s.size)<;>simp
  rw[h2] at h
  have h3:Jwu ((s.data.toList.getD 0 0).toNat:Int)=true:=by simpa using h
  have h0:0<s.size:=by have:=beq_eq_false_iff_ne.1 h1;omega
  have h24:(s.size:Int)≤24:=by have:=of_decide_eq_false h2;omega
  have en:Ye s=okL false (s.data.toList.drop 1):=by
   unfold Ye
   rw[e0 h0,h3,decide_eq_true h0,decide_eq_true h24];simp
  refine⟨(1:Nat),⟨rfl,rfl⟩,⟨by omega,by omega,en⟩,fun(k:Nat) hk=>⟨fun h=> ?_,fun h=> ?_⟩⟩
  ·have hlt:k<s.size:=by simpa using h
   rw[J6l]
   refine⟨⟨by omega,fun _=>by omega,fun _=>by omega⟩,fun h1=> ?_,fun h1=>⟨by omega,(k+1:Nat),⟨rfl,by simp⟩,⟨by omega,by omega, ?_⟩,by omega⟩⟩
   ·have h2:okB false ((s.data.toList.getD k 0).toNat:Int)=false:=by simpa using h1
    rw[hk.2.2,D2 hlt,okL,h2];rfl
   ·have h2:okB false ((s.data.toList.getD k 0).toNat:Int)=true:=by simpa using h1
    rw[hk.2.2,D2 hlt,okL,h2];rfl
  ·have hlt:¬k<s.size:=by simpa using h
   have:k=s.size:=by omega
   rw[hk.2.2,this,List.drop_eq_nil_of_le (by simp)];rfl
abbrev W13 [Sx.Dr]:=W12.add Ktr
abbrev J1j:Sch:= .prod sI .bool
abbrev Kdl:Sch:= .prod (.list 251 J1j) (.prod sI (.prod .fnc (.prod .fnc .fnc)))
abbrev K40:=List (Int×Bool)×Int×Option Nat×Option Nat×Option Nat
abbrev Jy:ByteArray:=⟨⟨[117,110,100,111]⟩⟩
abbrev Jt:ByteArray:=⟨⟨[115,116,97,116,105,111,110]⟩⟩
abbrev Uc:ByteArray:=⟨⟨[112,114,105,99,101]⟩⟩
abbrev Kl:ByteArray:=⟨⟨[111,114,100,101,114]⟩⟩
abbrev K5:ByteArray:=⟨⟨[109,101,116,101,114]⟩⟩
abbrev Vq:ByteArray:=⟨⟨[116,114,105,112]⟩⟩
abbrev Ju:ByteArray:=⟨⟨[111,117,116,97,103,101]⟩⟩
abbrev Jr:ByteArray:=⟨⟨[114,101,115,116,111,114,101]⟩⟩
abbrev Kf:ByteArray:=⟨⟨[112,101,114,109,105,116]⟩⟩
abbrev Ke:ByteArray:=⟨⟨[114,101,116,117,114,110]⟩⟩
abbrev Jh:ByteArray:=⟨⟨[115,101,116,116,108,101]⟩⟩
def L4:List (ByteArray×K40):=[(Jy,[],0,none,none,none),
 (Jt,[(0,false)],2,some 148,some 149,some 150),
 (Uc,[(0,true)],2,some 152,some 153,some 150),
 (Kl,[(1,false),(0,true),(0,true)],4,some 154,some 155,some 156),
 (K5,[(1,true)],4,some 157,some 158,some 156),
 (Vq,[(1,true)],1,some 159,some 160,some 156),
 (Ju,[(2,false),(0,true)],4,some 161,some 162,some 163),
 (Jr,[(2,true)],1,some 164,some 165,some 163),
 (Kf,[(3,false),(2,true)],1,some 166,some 167,some 168),
 (Ke,[(3,true)],1,some 169,some 170,some 168),
 (Jh,[],2,some 171,some 172,none)]
def Kfh:Con:={args:=[aI],ress:=[(true,J1j)],owns:=[],pre:=fun _=>[],spec:=fun(t,_)=>((t,false),())}
theorem Ksz [Sx.Dr]:Ok Tryz.prog 147 Kfh:=okW W13 Tryz.f147 na fun xx=>by
 obtain⟨(t:Int),_⟩:=xx
 refine(by kernel_rfl:((t,false)=(t,false))=_).mp ?_
 trivial
abbrev W14 [Sx.Dr]:=W13.add Ksz
def K9k:Con:={args:=[aI],ress:=[(true,J1j)],owns:=[],pre:=fun _=>[],spec:=fun(t,_)=>((t,true),())}
theorem Ksv [Sx.Dr]:Ok Tryz.prog 151 K9k:=okW W14 Tryz.f151 na fun xx=>by
 obtain⟨(t:Int),_⟩:=xx
 refine(by kernel_rfl:((t,true)=(t,true))=_).mp ?_
 trivial
abbrev W15 [Sx.Dr]:=W14.add Ksv
def J47:Jnu:={kT:=9,gk:=false,gv:=true,ks:= .str,vs:=Kdl,l:=L4}
def Kpe:=[((0:Int),true)]
def Kca:List (Int×Bool)×Int×Option Nat×Option Nat×Option Nat:=([],(0:Int),none,none,none)
def Klc:=(∀(k k':ByteArray),some (Lb k k')=some (List.beq (ByteArray.toList k) (ByteArray.toList k')))∧∀(k:ByteArray),true=true
theorem K7n [Sx.Dr]:wpFM Tryz.prog W15.g (na ()) (fun _=>na ()) (Sx.look ([]:List (Nat×Func))) Tryz.f80 J47:=by
 refine(by kernel_rfl:(Klc∧Sf true ([(Jy,Kca),(Jt,[(0,false)],2,some 148,some 149,some 150),(Uc,Kpe,2,some 152,some 153,some 150),(Kl,(1,false)::(0,true)::Kpe,4,some 154,some 155,some 156),(K5,[(1,true)],4,some 157,some 158,some 156),(Vq,[(1,true)],1,some 159,some 160,some 156),(Ju,(2,false)::Kpe,4,some 161,some 162,some 163),(Jr,[(2,true)],1,some 164,some 165,some 163),(Kf,[(3,false),(2,true)],1,some 166,some 167,some 168),(Ke,[(3,true)],1,some 169,some 170,some 168),(Jh,[],2,some 171,some 172,none)]=L4))=_).mp ?_
 delta Kpe Kca Klc Sf Lb K5 Kl Ju Kf Uc Jr Ke Jh Jt Vq Jy
 exact⟨⟨fun _ _=>rfl,fun _=>rfl⟩,rfl,rfl⟩
theorem Kqo [Sx.Dr]:Ok Tryz.prog 80 (Jnu.con J47):=J4m (Jmn mixed W15.ok (by kernel_rfl) (by kernel_rfl) (U4 (l:=([]:List (Nat×Func))) (by simp)) (na ()) (fun _=>na ()) K7n)
abbrev W16 [Sx.Dr]:=W15.add Kqo
theorem Jd {α:Type} {l:List α} {k:Nat} {d:α} (h:k<l.length):l.getD k d∈l:=by
 simp[List.getD_eq_getElem?_getD,h]
theorem Uu {α:Type} {d:α} {l:List α} {k:Nat} (h:k<l.length):l.take k++[l.getD k d]=l.take (k+1):=by
 rw[List.take_succ_eq_append_getElem h,List.getD_eq_getElem?_getD,List.getElem?_eq_getElem h];rfl
abbrev Jb2 (T U:TypeId) (s:Sch) (l:List s.T) (r:Bool×Sch) (g:Bool) (q:Tup [(g,s)]→List Prop) (f:Tup [(g,s)]→r.2.T):Ann:={X:=Nat,σ:=fun k=>⟨3,[(1, .one (.fv 1)),(5, .one (.sl 2)),(8, .one (.sl 0)),(9, .one (.int .i64 l.length)),(10, .one (.int .i64 k))],[(0, .imm T s l),(1, .afn [(g,s)] r q f),(2, .own U r.2 ((l.take k).map fun x=>f (x,())))]⟩,inv:=fun k=>k≤l.length,mu:=fun k=>l.length-k}
def Ke5:Con:={args:=[.val false (.list 9 .str), .fn [tS] I],ress:=[(false, .list 26 sI)],owns:=[true],pre:=fun(l,(q,_),_)=>[l.length≤1000000,∀x∈l,Uk (q (x,()))],spec:=fun(l,(_,f),_)=>(l.map fun x=>f (x,()),())}
def Ke8:Con:={args:=[.val false (.list 3 sI), .fn [I] I],ress:=[(false, .list 26 sI)],owns:=[true],pre:=fun(l,(q,_),_)=>[l.length≤1000000,∀x∈l,Uk (q (x,()))],spec:=fun(l,(_,f),_)=>(l.map fun x=>f (x,()),())}
def J9e (a:Li) (b:Int):=b∈a
def Kct (a:Int×Unit→Int) (b:Nat) (c:Li):=List.map (fun(x:Int)=>a (x,PUnit.unit)) (List.take b c)
def Kcb (a:Nat) (b:Li) (c:Nat):=a≤List.length b∧J0l b a c
def Koa (a:Li) (b:Int×Unit→List Prop):=∀(x:Int),J9e a x→Uk (b (x,PUnit.unit))
theorem Ks9 [Sx.Dr]:Ok Tryz.prog 137 Ke8:=okW W16 Tryz.f137 (fun xx=>X6 (Jb2 3 26 sI xx.1 I false xx.2.1.1 xx.2.1.2)) fun xx=>by
 obtain⟨(l:List Int),⟨(q:Int×Unit→List Prop),(f:Int×Unit→Int)⟩,_⟩:=xx
 refine(by kernel_rfl:(Z66 l→Koa l q→∃(x:Nat),Si (Ln l) (0=Nc x∧Sf l ((fun(x:Int×PUnit)=>q x)=q∧(fun(x:Int×PUnit)=>f x)=f∧List.length (Kct f x l)=0))∧x≤List.length l∧∀(x:Nat),x≤List.length l→Br (Z94 x l) (Z90 x l∧(Uk (q (Z21 l x,PUnit.unit))∧(List.length (Kct f x l)+1)*8≤140737488355328)∧Z22 x∧∃(y:Nat),Si (Ln l) (V0 x y∧Sf l ((fun(x:Int×PUnit)=>q x)=q∧(fun(x:Int×PUnit)=>f x)=f∧Kct f x l++[f (Z21 l x,PUnit.unit)]=Kct f y l))∧Kcb y l x) (Kct f x l=List.map (fun(x:Int)=>f (x,PUnit.unit)) l))=_).mp ?_
 delta Z21 Z22 Z66 Z90 Z94 V0 J9e J0l Kct Kcb Koa Br Iw Bd Tw Sf Si Ln Nc
 intro hb hq
 refine⟨(0:Nat),⟨rfl,rfl,rfl,rfl,rfl,by simp⟩,Nat.zero_le _,fun(k:Nat) hk=>⟨fun h=> ?_,fun h=> ?_⟩⟩
 ·have hlt:k<l.length:=by simpa using h
  refine⟨by omega,⟨hq (l.getD k 0) (Jd hlt),by simp only[List.length_map,List.length_take];omega⟩,by omega,(k+1:Nat),⟨rfl,by simp,rfl,rfl,rfl, ?_⟩,by omega,by omega⟩
  rw[←Uu (d:=0) hlt,List.map_append];rfl
 ·have hlt:¬k<l.length:=by simpa using h
  rw[List.take_of_length_le (by omega)]
abbrev W17 [Sx.Dr]:=W16.add Ks9
def Z18 (a:Ls) (b:Nat):=List.getD a b B0
def Z48 (a:Nat) (b:Ls):=a≤List.length b
def Z84 (a:Nat) (b:Ls):=Bd (Nc a) (Ln b)
def Fm (a:Ls):=List.length a≤1000000
def J5l (a:Ls) (b c:Nat):=List.length a-b<List.length a-c
def Jhi (a:Ls) (b:Bt):=b∈a
def Kcj (a:Bt×Unit→Int) (b:Nat) (c:Ls):=List.map (fun(x:ByteArray)=>a (x,PUnit.unit)) (List.take b c)
theorem Ktc [Sx.Dr]:Ok Tryz.prog 134 Ke5:=okW W17 Tryz.f134 (fun xx=>X6 (Jb2 9 26 .str xx.1 I false xx.2.1.1 xx.2.1.2)) fun xx=>by
 obtain⟨(l:List ByteArray),⟨(q:ByteArray×Unit→List Prop),(f:ByteArray×Unit→Int)⟩,_⟩:=xx
 refine(by kernel_rfl:(Fm l→(∀(x:ByteArray),Jhi l x→Uk (q (x,PUnit.unit)))→∃(x:Nat),Si (Ln l) (0=Nc x∧Sf l ((fun(x:ByteArray×PUnit)=>q x)=q∧(fun(x:ByteArray×PUnit)=>f x)=f∧List.length (Kcj f x l)=0))∧Z48 x l∧∀(x:Nat),Z48 x l→Br (decide (Nc x<Ln l)) (Tw (Z84 x l)∧(Uk (q (Z18 l x,PUnit.unit))∧(List.length (Kcj f x l)+1)*8≤140737488355328)∧Z22 x∧∃(y:Nat),Si (Ln l) (V0 x y∧Sf l ((fun(x:ByteArray×PUnit)=>q x)=q∧(fun(x:ByteArray×PUnit)=>f x)=f∧Kcj f x l++[f (Z18 l x,PUnit.unit)]=Kcj f y l))∧Z48 y l∧J5l l y x) (Kcj f x l=List.map (fun(x:ByteArray)=>f (x,PUnit.unit)) l))=_).mp ?_
 delta Z18 Z22 Z48 Z84 V0 Fm J5l Jhi Kcj Br Iw Bd Tw Sf Si Ln Nc B0
 intro hb hq
 refine⟨(0:Nat),⟨rfl,rfl,rfl,rfl,rfl,by simp⟩,Nat.zero_le _,fun(k:Nat) hk=>⟨fun h=> ?_,fun h=> ?_⟩⟩
 ·have hlt:k<l.length:=by simpa using h
  refine⟨by omega,⟨hq (l.getD k (⟨⟨[]⟩⟩:ByteArray)) (Jd hlt),by simp only[List.length_map,List.length_take];omega⟩,by omega,(k+1:Nat),⟨rfl,by simp,rfl,rfl,rfl, ?_⟩,by omega,by omega⟩
  rw[←Uu (d:=(⟨⟨[]⟩⟩:ByteArray)) hlt,List.map_append];rfl
 ·have hlt:¬k<l.length:=by simpa using h
  rw[List.take_of_length_le (by omega)]
abbrev W18 [Sx.Dr]:=W17.add Ktc
def Kuw:Con:={args:=[aS],ress:=[I],owns:=[],pre:=fun(s,_)=>[s.size≤1000000],spec:=fun(s,_)=>(bif Ye s then 0 else 8,())}
theorem Ktb [Sx.Dr]:Ok Tryz.prog 135 Kuw:=okW W18 Tryz.f135 na fun xx=>by
 obtain⟨(s:ByteArray),_⟩:=xx
 refine(by kernel_rfl:(ByteArray.size s≤(1000000:Nat)→ByteArray.size s≤(1000000:Nat)∧(bif !Ye s then(8:Int) else(0:Int))=bif Ye s then(0:Int) else(8:Int))=_).mp ?_
 exact fun h=>⟨h,by cases Ye s<;>rfl⟩
abbrev W19 [Sx.Dr]:=W18.add Ktb
def Kuv:Con:={args:=[aI],ress:=[I],owns:=[],pre:=fun _=>[],spec:=fun(n,_)=>(Ki n 0 999999999,())}
theorem Ks8 [Sx.Dr]:Ok Tryz.prog 138 Kuv:=okW W19 Tryz.f138 na fun xx=>by
 obtain⟨(n:Int),_⟩:=xx
 refine(by kernel_rfl:(Ko6 n)=_).mp ?_
 delta Z76 Ko6
 rfl
abbrev W20 [Sx.Dr]:=W19.add Ks8
abbrev Ev:=Int×ByteArray×List ByteArray×List Int×ByteArray
abbrev sEv:Sch:= .prod sI (.prod .str (.prod (.list 9 .str) (.prod (.list 3 sI) .str)))
abbrev aEv:AK:= .val true sEv
def Ji (k:ByteArray):K40:=(Vt .str k L4).getD ([],0,none,none,none)
def U8 (k:ByteArray):Bool:=(Vt .str k L4).isSome
def Jb (e:Ev):Int:=
 if Ki e.1 1 1000≠0 then Ki e.1 1 1000 else
 bif U8 e.2.1 then(if e.2.2.1.length=(Ji e.2.1).1.length∧(e.2.2.2.1.length:Int)=(Ji e.2.1).2.1 then
  Jg [Jg (e.2.2.1.map fun s=>bif Ye s then 0 else 8),Jg (e.2.2.2.1.map fun n=>Ki n 0 999999999),bif decide (0<e.2.2.2.2.size) then 1 else 0] else 2) else 13
theorem bn1 {b c:Bool} (h:(bif b then true else c)=false):b=false∧c=false:=by cases b<;>simp_all
def Kfw:Con:={args:=[aEv],ress:=[I],owns:=[],pre:=fun(e,_)=>[e.2.2.1.length≤1000000,e.2.2.2.1.length≤1000000,∀s∈e.2.2.1,s.size≤1000000],spec:=fun(e,_)=>(Jb e,())}
def Z73 (a:Int) (b:Bt) (c:Ls) (d:Li) (e:Bt):=Jb (a,b,c,d,e)
def K3s (a:Ls):=List.map (fun(x:ByteArray)=>match Ye x with|true=>(0:Int)|false=>(8:Int)) a
def Jg6 (a:Ls):=∀(s:ByteArray),Jhi a s→ByteArray.size s≤1000000
def K1z (a:Bt):=Vt Sch.str a L4
def Kxm (a:Bt):=Option.getD (K1z a) Kca
theorem K46 [Sx.Dr]:Ok Tryz.prog 64 Kfw:=okW W20 Tryz.f64 na fun xx=>by
 obtain⟨⟨(n:Int),(k:ByteArray),(ns:List ByteArray),(vs:List Int),(t:ByteArray)⟩,_⟩:=xx
 refine(by kernel_rfl:(Fm ns→Z66 vs→Jg6 ns→Br (Ki n 1 (1000:Int) !=0) (Ki n 1 1000=Z73 n k ns vs t) (Br (!Option.isSome (K1z k)) (13=Z73 n k ns vs t) (Br (bif Ln ns !=Ln (Kxm k).1 then true else Ln vs !=(Kxm k).2.1) (2=Z73 n k ns vs t) ((Fm ns∧Jg6 ns)∧(Z66 vs∧∀(x:Int),J9e vs x→True)∧(List.length (K3s ns)≤1000000∧List.length (List.map (fun(x:Int)=>Z76 x) vs)≤1000000∧3≤1000000)∧Jg [Jg (K3s ns),Jg (List.map (fun(x:Int)=>Z76 x) vs),bif !Lb t B0 then 1 else 0]=Z73 n k ns vs t))))=_).mp ?_
 delta Z66 Z73 Z76 Fm J9e Jhi Kca K3s Jg6 K1z Kxm Br Ln B0 Lb
 intro h1 h2 h3
 unfold Jb Ji U8
 dsimp only
 refine⟨fun h=> ?_,fun h=> ?_⟩
 ·rw[if_pos (bne_iff_ne.1 h)]
 rw[if_neg (by have:=bne_eq_false_iff_eq.1 h;simpa using this)]
 refine⟨fun h4=> ?_,fun h4=> ?_⟩
 ·rw[Bool.not_eq_true'] at h4
  rw[h4];rfl
 rw[Bool.not_eq_false'] at h4
 rw[h4,cond_true]
 refine⟨fun h5=> ?_,fun h5=>⟨⟨h1,h3⟩,⟨h2,fun _ _=>trivial⟩,⟨by simpa using h1,by simpa using h2,by decide⟩, ?_⟩⟩
 ·rw[if_neg]
  rintro⟨e1,e2⟩
  rw[e1,e2] at h5
  simp at h5
 ·have h6:=bn1 h5
  rw[if_pos ⟨Int.ofNat_inj.1 (bne_eq_false_iff_eq.1 h6.1),bne_eq_false_iff_eq.1 h6.2⟩,Jkd]
  rfl
abbrev W21 [Sx.Dr]:=W20.add K46
abbrev H6:Sch:= .prod sI sI
abbrev Sta:=ByteArray×Int×Int
abbrev Ord:=ByteArray×ByteArray×ByteArray×(Int×Int)×Int×Int×Int
abbrev Met:=ByteArray×Int×Int×Int
abbrev Out:=ByteArray×ByteArray×(Int×Int)×Int
abbrev Per:=ByteArray×ByteArray×Bool
abbrev Fw:Sch:= .prod .str (.prod sI sI)
abbrev Lo:Sch:= .prod .str (.prod .str (.prod .str (.prod H6 (.prod sI (.prod sI sI)))))
abbrev Ja4:Sch:= .prod .str (.prod sI (.prod sI sI))
abbrev Zn:Sch:= .prod .str (.prod .str (.prod H6 sI))
abbrev Hr:Sch:= .prod .str (.prod .str .bool)
def K5f:Con:={args:=[.val true Fw],ress:=[tS],owns:=[],pre:=fun _=>[],spec:=fun(x,_)=>(x.1,())}
def K5h:Con:={args:=[.val true Lo],ress:=[tS],owns:=[],pre:=fun _=>[],spec:=fun(x,_)=>(x.1,())}
def K5e:Con:={args:=[.val true Zn],ress:=[tS],owns:=[],pre:=fun _=>[],spec:=fun(x,_)=>(x.1,())}
def K5g:Con:={args:=[.val true Hr],ress:=[tS],owns:=[],pre:=fun _=>[],spec:=fun(x,_)=>(x.1,())}
theorem Kpr [Sx.Dr] (x:Sta):wpF Tryz.prog W21.g (na ()) Tryz.f328 K5f (x,()):=by
 refine(by kernel_rfl:(x.1=x.1)=_).mp ?_
 rfl
theorem Kqr [Sx.Dr]:Ok Tryz.prog 328 K5f:=Vx mixed W21.ok (by kernel_rfl) (by kernel_rfl) na fun xx=>Kpr xx.1
abbrev W22 [Sx.Dr]:=W21.add Kqr
theorem Kpq [Sx.Dr] (x:Ord):wpF Tryz.prog W22.g (na ()) Tryz.f329 K5h (x,()):=by
 refine(by kernel_rfl:(x.1=x.1)=_).mp ?_
 rfl
theorem Kqq [Sx.Dr]:Ok Tryz.prog 329 K5h:=Vx mixed W22.ok (by kernel_rfl) (by kernel_rfl) na fun xx=>Kpq xx.1
abbrev W23 [Sx.Dr]:=W22.add Kqq
theorem Kpz [Sx.Dr] (x:Out):wpF Tryz.prog W23.g (na ()) Tryz.f204 K5e (x,()):=by
 refine(by kernel_rfl:(x.1=x.1)=_).mp ?_
 rfl
theorem Krm [Sx.Dr]:Ok Tryz.prog 204 K5e:=Vx mixed W23.ok (by kernel_rfl) (by kernel_rfl) na fun xx=>Kpz xx.1
abbrev W24 [Sx.Dr]:=W23.add Krm
theorem Kpy [Sx.Dr] (x:Per):wpF Tryz.prog W24.g (na ()) Tryz.f208 K5g (x,()):=by
 refine(by kernel_rfl:(x.1=x.1)=_).mp ?_
 rfl
theorem Kri [Sx.Dr]:Ok Tryz.prog 208 K5g:=Vx mixed W24.ok (by kernel_rfl) (by kernel_rfl) na fun xx=>Kpy xx.1
abbrev W25 [Sx.Dr]:=W24.add Kri
def Ja:ByteArray:=⟨⟨[]⟩⟩
def Vp {α:Type} (p:α→Bool):List α→Nat→Int
 |[],_=> -1
 |x::r,k=>if p x=true then(k:Int) else Vp p r (k+1)
theorem Yk {α:Type} {p:α→Bool} {l:List α} {k:Nat} {d:α} (h:k<l.length):Vp p (l.drop k) k=if p (l.getD k d)=true then(k:Int) else Vp p (l.drop (k+1)) (k+1):=by
 rw[List.drop_eq_getElem_cons h]
 simp[Vp,List.getD_eq_getElem?_getD,h]
abbrev Jnl (T:TypeId) (s:Sch) (g:Bool) (l:List s.T) (q:Tup [(g,s)]→List Prop) (f:Tup [(g,s)]→Bool):Ann:={X:=Nat,σ:=fun k=>⟨2,[(0, .one (.sl 0)),(1, .one (.fv 1)),(7, .one (.int .i64 l.length)),(8, .one (.int .i64 k))],[(0, .imm T s l),(1, .afn [(g,s)] Bo q f)]⟩,inv:=fun k=>k≤l.length∧Vp (fun x=>f (x,())) l 0=Vp (fun x=>f (x,())) (l.drop k) k,mu:=fun k=>l.length-k}
def Kff (T:TypeId) (s:Sch) (g:Bool):Con:={args:=[.val false (.list T s), .fn [(g,s)] Bo],ress:=[I],owns:=[],pre:=fun(l,(q,_),_)=>[l.length≤1000000,∀x∈l,Uk (q (x,()))],spec:=fun(l,(_,f),_)=>(Vp (fun x=>f (x,())) l 0,())}
def Jug:Sta:=(Ja,0,0)
def K5j:Con:={args:=[.val true Fw, .ref 9 .str],ress:=[Bo],owns:=[],pre:=fun _=>[],spec:=fun(x,s,_)=>(x.1.toList==s.toList,())}
theorem Kpx [Sx.Dr] (x:Sta) (s:ByteArray):wpF Tryz.prog W25.g (na ()) Tryz.f229 K5j (x,s,()):=by
 refine(by kernel_rfl:(Lb x.1 s=Lb x.1 s)=_).mp ?_
 delta Lb
 rfl
theorem Kre [Sx.Dr]:Ok Tryz.prog 229 K5j:=Vx mixed W25.ok (by kernel_rfl) (by kernel_rfl) na fun xx=>Kpx xx.1 xx.2.1
abbrev W26 [Sx.Dr]:=W25.add Kre
def Z13:=(B0,(0:Int),(0:Int))
def Z52 (a:List Sta):=List.length a≤1000000
def Z75:=(-1)
def K20 (a:List Sta) (b:Nat):=(((List.getD a b Z13).1,E2 (List.getD a b Z13).2),PUnit.unit)
def Kmq (a:Nat) (b:List Sta) (c:Sta×Unit→Bool):=a≤List.length b∧Vp (fun(x:Sta)=>c (x,PUnit.unit)) b 0=Vp (fun(x:Sta)=>c (x,PUnit.unit)) (List.drop a b) a
theorem Krf [Sx.Dr]:Ok Tryz.prog 228 (Kff 127 Fw true):=okW W26 Tryz.f228 (fun xx=>X6 (Jnl 127 Fw true xx.1 xx.2.1.1 xx.2.1.2)) fun xx=>by
 obtain⟨(l:List Sta),⟨(q:Sta×Unit→List Prop),(f:Sta×Unit→Bool)⟩,_⟩:=xx
 refine(by kernel_rfl:(Z52 l→(∀(x:Sta),x∈l→Uk (q (x,PUnit.unit)))→∃(x:Nat),Si (Ln l) (0=Nc x∧Sf l ((fun(x:Sta×PUnit)=>q x)=q∧(fun(x:Sta×PUnit)=>f x)=f))∧Kmq x l f∧∀(x:Nat),Kmq x l f→Br (decide (Nc x<Ln l)) (T2 (Bd (Nc x) (Ln l)) (Uk (q (K20 l x)))∧Br (f (K20 l x)) (Nc x=Vp (fun(x:Sta)=>f (x,PUnit.unit)) l 0) (Z22 x∧∃(y:Nat),Si (Ln l) (V0 x y∧Sf l ((fun(x:Sta×PUnit)=>q x)=q∧(fun(x:Sta×PUnit)=>f x)=f))∧Kmq y l f∧List.length l-y<List.length l-x)) (Z75=Vp (fun(x:Sta)=>f (x,PUnit.unit)) l 0))=_).mp ?_
 delta Z13 Z22 Z52 Z75 V0 K20 Kmq Br Iw Bd T2 Sf Si Ln Nc B0 E2
 intro hb hq
 refine⟨(0:Nat),⟨rfl,rfl,rfl,rfl,rfl⟩,⟨Nat.zero_le _,rfl⟩,fun(k:Nat) hk=>⟨fun h=> ?_,fun h=> ?_⟩⟩
 ·have hlt:k<l.length:=by simpa using h
  have hd:=Yk (p:=fun x=>f (x,())) (d:=Jug) hlt
  refine⟨⟨by omega,by omega,hq (l.getD k Jug) (Jd hlt)⟩,fun h1=> ?_,fun h1=>⟨by omega,(k+1:Nat),⟨rfl,rfl,rfl,by simp,rfl⟩,⟨by omega, ?_⟩,by omega⟩⟩
  ·rw[hk.2,hd,if_pos (show f (l.getD k Jug,())=true from h1)]
  ·rw[hk.2,hd,if_neg (by rw[show f (l.getD k Jug,())=false from h1];simp)]
 ·have hlt:¬k<l.length:=by simpa using h
  have:k=l.length:=by omega
  rw[hk.2,this,List.drop_length];rfl
abbrev W27 [Sx.Dr]:=W26.add Krf
def J2 (l:List Sta) (s:ByteArray):Int:=Vp (fun x=>x.1.toList==s.toList) l 0
def Kfl:Con:={args:=[.val false (.list 127 Fw),aS],ress:=[I],owns:=[],pre:=fun(l,_)=>[l.length≤1000000],spec:=fun(l,s,_)=>(J2 l s,())}
theorem Ks3 [Sx.Dr]:Ok Tryz.prog 143 Kfl:=okW W27 Tryz.f143 na fun xx=>by
 obtain⟨(l:List Sta),(s:ByteArray),_⟩:=xx
 refine(by kernel_rfl:(Z52 l→(Z52 l∧∀(x:Sta),x∈l→True)∧Vp (fun(x:Sta)=>List.beq (ByteArray.toList x.1) (ByteArray.toList s)) l 0=J2 l s)=_).mp ?_
 delta Z52
 exact fun h=>⟨⟨h,fun _ _=>trivial⟩,rfl⟩
abbrev W28 [Sx.Dr]:=W27.add Ks3
def Km:Ord:=(Ja,Ja,Ja,(0,0),0,0,0)
def K5l:Con:={args:=[.val true Lo, .ref 9 .str],ress:=[Bo],owns:=[],pre:=fun _=>[],spec:=fun(x,s,_)=>(x.1.toList==s.toList,())}
theorem Kpw [Sx.Dr] (x:Ord) (s:ByteArray):wpF Tryz.prog W28.g (na ()) Tryz.f231 K5l (x,s,()):=by
 refine(by kernel_rfl:(Lb x.1 s=Lb x.1 s)=_).mp ?_
 delta Lb
 rfl
theorem Krc [Sx.Dr]:Ok Tryz.prog 231 K5l:=Vx mixed W28.ok (by kernel_rfl) (by kernel_rfl) na fun xx=>Kpw xx.1 xx.2.1
abbrev W29 [Sx.Dr]:=W28.add Krc
def Z64 (a:List Ord):=List.length a≤1000000
def Z79:=((0:Int),(0:Int),(0:Int))
def Jhh:=(B0,B0,B0,((0:Int),(0:Int)),Z79)
def Kiu (a:List Ord) (b:Nat):=List.getD a b Jhh
def Kod (a:List Ord) (b:Ord×Unit→List Prop):=∀(x:Ord),x∈a→Uk (b (x,PUnit.unit))
def Koc (a:List Ord) (b:Nat):=(Kiu a b).2
def Kit (a:List Ord) (b:Nat):=(Kiu a b).1
def Kn7 (a:List Ord) (b:Nat):=(Koc a b).2
def Kn5 (a:List Ord) (b:Nat):=(Kn7 a b).2
def Kn1 (a:List Ord) (b:Nat):=(Kn5 a b).2
def Kmt (a:Nat) (b:List Ord) (c:Ord×Unit→Bool):=a≤List.length b∧Vp (fun(x:Ord)=>c (x,PUnit.unit)) b 0=Vp (fun(x:Ord)=>c (x,PUnit.unit)) (List.drop a b) a
def Kgt (a:List Ord) (b:Nat):=((Kit a b,(Koc a b).1,(Kn7 a b).1,E2 (Kn5 a b).1,(Kn1 a b).1,E2 (Kn1 a b).2),PUnit.unit)
def Kj9 (a:Ord×Unit→List Prop) (b:List Ord) (c:Nat):=Uk (a (Kgt b c))
theorem Krd [Sx.Dr]:Ok Tryz.prog 230 (Kff 130 Lo true):=okW W29 Tryz.f230 (fun xx=>X6 (Jnl 130 Lo true xx.1 xx.2.1.1 xx.2.1.2)) fun xx=>by
 obtain⟨(l:List Ord),⟨(q:Ord×Unit→List Prop),(f:Ord×Unit→Bool)⟩,_⟩:=xx
 refine(by kernel_rfl:(Z64 l→Kod l q→∃(x:Nat),Si (Ln l) (0=Nc x∧Sf l ((fun(x:Ord×PUnit)=>q x)=q∧(fun(x:Ord×PUnit)=>f x)=f))∧Kmt x l f∧∀(x:Nat),Kmt x l f→Br (decide (Nc x<Ln l)) (T2 (Bd (Nc x) (Ln l)) (Kj9 q l x)∧Br (f (Kgt l x)) (Nc x=Vp (fun(x:Ord)=>f (x,PUnit.unit)) l 0) (Z22 x∧∃(y:Nat),Si (Ln l) (V0 x y∧Sf l ((fun(x:Ord×PUnit)=>q x)=q∧(fun(x:Ord×PUnit)=>f x)=f))∧Kmt y l f∧List.length l-y<List.length l-x)) (Z75=Vp (fun(x:Ord)=>f (x,PUnit.unit)) l 0))=_).mp ?_
 delta Z22 Z64 Z75 Z79 V0 Jhh Kiu Kod Koc Kit Kn7 Kn5 Kn1 Kmt Kgt Kj9 Br Iw Bd T2 Sf Si Ln Nc B0 E2
 intro hb hq
 refine⟨(0:Nat),⟨rfl,rfl,rfl,rfl,rfl⟩,⟨Nat.zero_le _,rfl⟩,fun(k:Nat) hk=>⟨fun h=> ?_,fun h=> ?_⟩⟩
 ·have hlt:k<l.length:=by simpa using h
  have hd:=Yk (p:=fun x=>f (x,())) (d:=Km) hlt
  refine⟨⟨by omega,by omega,hq (l.getD k Km) (Jd hlt)⟩,fun h1=> ?_,fun h1=>⟨by omega,(k+1:Nat),⟨rfl,rfl,rfl,by simp,rfl⟩,⟨by omega, ?_⟩,by omega⟩⟩
  ·rw[hk.2,hd,if_pos (show f (l.getD k Km,())=true from h1)]
  ·rw[hk.2,hd,if_neg (by rw[show f (l.getD k Km,())=false from h1];simp)]
 ·have hlt:¬k<l.length:=by simpa using h
  have:k=l.length:=by omega
  rw[hk.2,this,List.drop_length];rfl
abbrev W30 [Sx.Dr]:=W29.add Krd
def Kx (l:List Ord) (s:ByteArray):Int:=Vp (fun x=>x.1.toList==s.toList) l 0
def Kfn:Con:={args:=[.val false (.list 130 Lo),aS],ress:=[I],owns:=[],pre:=fun(l,_)=>[l.length≤1000000],spec:=fun(l,s,_)=>(Kx l s,())}
theorem Ks2 [Sx.Dr]:Ok Tryz.prog 144 Kfn:=okW W30 Tryz.f144 na fun xx=>by
 obtain⟨(l:List Ord),(s:ByteArray),_⟩:=xx
 refine(by kernel_rfl:(Z64 l→(Z64 l∧∀(x:Ord),x∈l→True)∧Vp (fun(x:Ord)=>List.beq (ByteArray.toList x.1) (ByteArray.toList s)) l 0=Kx l s)=_).mp ?_
 delta Z64
 exact fun h=>⟨⟨h,fun _ _=>trivial⟩,rfl⟩
abbrev W31 [Sx.Dr]:=W30.add Ks2
def Jb6:Out:=(Ja,Ja,(0,0),0)
def K5i:Con:={args:=[.val true Zn, .ref 9 .str],ress:=[Bo],owns:=[],pre:=fun _=>[],spec:=fun(x,s,_)=>(x.1.toList==s.toList,())}
theorem Kpv [Sx.Dr] (x:Out) (s:ByteArray):wpF Tryz.prog W31.g (na ()) Tryz.f233 K5i (x,s,()):=by
 refine(by kernel_rfl:(Lb x.1 s=Lb x.1 s)=_).mp ?_
 delta Lb
 rfl
theorem Kra [Sx.Dr]:Ok Tryz.prog 233 K5i:=Vx mixed W31.ok (by kernel_rfl) (by kernel_rfl) na fun xx=>Kpv xx.1 xx.2.1
abbrev W32 [Sx.Dr]:=W31.add Kra
def Z17 (a:Nat) (b:List Out):=Bd (Nc a) (Ln b)
def Z58 (a:List Out):=List.length a≤1000000
def Z98 (a:Nat) (b:List Out):=decide (Nc a<Ln b)
def Jhk:=(B0,B0,((0:Int),(0:Int)),(0:Int))
def J0k (a:List Out) (b c:Nat):=List.length a-b<List.length a-c
def J3h (a:List Out) (b:Nat):=List.getD a b Jhk
def J3g (a:List Out) (b:Nat):=(J3h a b).1
def J5j (a:List Out) (b:Nat):=(J3h a b).2.2
def J5g (a:List Out) (b:Out×Unit→List Prop):=∀(x:Out),x∈a→Uk (b (x,PUnit.unit))
def Kmp (a:Nat) (b:List Out) (c:Out×Unit→Bool):=a≤List.length b∧Vp (fun(x:Out)=>c (x,PUnit.unit)) b 0=Vp (fun(x:Out)=>c (x,PUnit.unit)) (List.drop a b) a
def Kbo (a:List Out) (b:Nat):=(J3g a b,(J3h a b).2.1,E2 (J5j a b).1,(J5j a b).2)
def J5c (a:List Out) (b:Nat):=(Kbo a b,PUnit.unit)
def Kkq (a:Out×Unit→Bool) (b:List Out) (c:Nat):=a (J5c b c)
def J5b (a:Out×Unit→List Prop) (b:List Out) (c:Nat):=Uk (a (J5c b c))
theorem Krb [Sx.Dr]:Ok Tryz.prog 232 (Kff 188 Zn true):=okW W32 Tryz.f232 (fun xx=>X6 (Jnl 188 Zn true xx.1 xx.2.1.1 xx.2.1.2)) fun xx=>by
 obtain⟨(l:List Out),⟨(q:Out×Unit→List Prop),(f:Out×Unit→Bool)⟩,_⟩:=xx
 refine(by kernel_rfl:(Z58 l→J5g l q→∃(x:Nat),Si (Ln l) (0=Nc x∧Sf l ((fun(x:Out×PUnit)=>q x)=q∧(fun(x:Out×PUnit)=>f x)=f))∧Kmp x l f∧∀(x:Nat),Kmp x l f→Br (Z98 x l) (T2 (Z17 x l) (J5b q l x)∧Br (Kkq f l x) (Nc x=Vp (fun(x:Out)=>f (x,PUnit.unit)) l 0) (Z22 x∧∃(y:Nat),Si (Ln l) (V0 x y∧Sf l ((fun(x:Out×PUnit)=>q x)=q∧(fun(x:Out×PUnit)=>f x)=f))∧Kmp y l f∧J0k l y x)) (Z75=Vp (fun(x:Out)=>f (x,PUnit.unit)) l 0))=_).mp ?_
 delta Z17 Z22 Z58 Z75 Z98 V0 Jhk J0k J3h J3g J5j J5g Kmp Kbo J5c Kkq J5b Br Iw Bd T2 Sf Si Ln Nc B0 E2
 intro hb hq
 refine⟨(0:Nat),⟨rfl,rfl,rfl,rfl,rfl⟩,⟨Nat.zero_le _,rfl⟩,fun(k:Nat) hk=>⟨fun h=> ?_,fun h=> ?_⟩⟩
 ·have hlt:k<l.length:=by simpa using h
  have hd:=Yk (p:=fun x=>f (x,())) (d:=Jb6) hlt
  refine⟨⟨by omega,by omega,hq (l.getD k Jb6) (Jd hlt)⟩,fun h1=> ?_,fun h1=>⟨by omega,(k+1:Nat),⟨rfl,rfl,rfl,by simp,rfl⟩,⟨by omega, ?_⟩,by omega⟩⟩
  ·rw[hk.2,hd,if_pos (show f (l.getD k Jb6,())=true from h1)]
  ·rw[hk.2,hd,if_neg (by rw[show f (l.getD k Jb6,())=false from h1];simp)]
 ·have hlt:¬k<l.length:=by simpa using h
  have:k=l.length:=by omega
  rw[hk.2,this,List.drop_length];rfl
abbrev W33 [Sx.Dr]:=W32.add Krb
def J7 (l:List Out) (s:ByteArray):Int:=Vp (fun x=>x.1.toList==s.toList) l 0
def Kfk:Con:={args:=[.val false (.list 188 Zn),aS],ress:=[I],owns:=[],pre:=fun(l,_)=>[l.length≤1000000],spec:=fun(l,s,_)=>(J7 l s,())}
def Koz (a:List Out):=∀(x:Out),x∈a→True
theorem Ks1 [Sx.Dr]:Ok Tryz.prog 145 Kfk:=okW W33 Tryz.f145 na fun xx=>by
 obtain⟨(l:List Out),(s:ByteArray),_⟩:=xx
 refine(by kernel_rfl:(Z58 l→(Z58 l∧Koz l)∧Vp (fun(x:Out)=>List.beq (ByteArray.toList x.1) (ByteArray.toList s)) l 0=J7 l s)=_).mp ?_
 delta Z58 Koz
 exact fun h=>⟨⟨h,fun _ _=>trivial⟩,rfl⟩
abbrev W34 [Sx.Dr]:=W33.add Ks1
def Jj6:Per:=(Ja,Ja,false)
def K5k:Con:={args:=[.val true Hr, .ref 9 .str],ress:=[Bo],owns:=[],pre:=fun _=>[],spec:=fun(x,s,_)=>(x.1.toList==s.toList,())}
theorem Kpu [Sx.Dr] (x:Per) (s:ByteArray):wpF Tryz.prog W34.g (na ()) Tryz.f235 K5k (x,s,()):=by
 refine(by kernel_rfl:(Lb x.1 s=Lb x.1 s)=_).mp ?_
 delta Lb
 rfl
theorem Kq8 [Sx.Dr]:Ok Tryz.prog 235 K5k:=Vx mixed W34.ok (by kernel_rfl) (by kernel_rfl) na fun xx=>Kpu xx.1 xx.2.1
abbrev W35 [Sx.Dr]:=W34.add Kq8
def Z51 (a:List Per):=List.length a≤1000000
def J0t (a:Nat) (b:List Per):=decide (Nc a<Ln b)
def J5u (a:List Per) (b:Nat):=(List.getD a b (B0,B0,false)).2
def J3k (a:List Per) (b c:Nat):=List.length a-b<List.length a-c
def Kb7 (a:List Per) (b:Per×Unit→List Prop):=∀(x:Per),x∈a→Uk (b (x,PUnit.unit))
def Kik (a:List Per) (b:Nat):=((List.getD a b (B0,B0,false)).1,E2 (J5u a b))
def Kb5 (a:List Per) (b:Nat):=(Kik a b,PUnit.unit)
def Km9 (a:Per×Unit→Bool) (b:List Per) (c:Nat):=a (Kb5 b c)
def Kb3 (a:Per×Unit→List Prop) (b:List Per) (c:Nat):=Uk (a (Kb5 b c))
def Kmr (a:Nat) (b:List Per) (c:Per×Unit→Bool):=a≤List.length b∧Vp (fun(x:Per)=>c (x,PUnit.unit)) b 0=Vp (fun(x:Per)=>c (x,PUnit.unit)) (List.drop a b) a
theorem Kq9 [Sx.Dr]:Ok Tryz.prog 234 (Kff 235 Hr true):=okW W35 Tryz.f234 (fun xx=>X6 (Jnl 235 Hr true xx.1 xx.2.1.1 xx.2.1.2)) fun xx=>by
 obtain⟨(l:List Per),⟨(q:Per×Unit→List Prop),(f:Per×Unit→Bool)⟩,_⟩:=xx
 refine(by kernel_rfl:(Z51 l→Kb7 l q→∃(x:Nat),Si (Ln l) (0=Nc x∧Sf l ((fun(x:Per×PUnit)=>q x)=q∧(fun(x:Per×PUnit)=>f x)=f))∧Kmr x l f∧∀(x:Nat),Kmr x l f→Br (J0t x l) (T2 (Bd (Nc x) (Ln l)) (Kb3 q l x)∧Br (Km9 f l x) (Nc x=Vp (fun(x:Per)=>f (x,PUnit.unit)) l 0) (Z22 x∧∃(y:Nat),Si (Ln l) (V0 x y∧Sf l ((fun(x:Per×PUnit)=>q x)=q∧(fun(x:Per×PUnit)=>f x)=f))∧Kmr y l f∧J3k l y x)) (Z75=Vp (fun(x:Per)=>f (x,PUnit.unit)) l 0))=_).mp ?_
 delta Z22 Z51 Z75 J0t V0 J5u J3k Kb7 Kik Kb5 Km9 Kb3 Kmr Br Iw Bd T2 Sf Si Ln Nc B0 E2
 intro hb hq
 refine⟨(0:Nat),⟨rfl,rfl,rfl,rfl,rfl⟩,⟨Nat.zero_le _,rfl⟩,fun(k:Nat) hk=>⟨fun h=> ?_,fun h=> ?_⟩⟩
 ·have hlt:k<l.length:=by simpa using h
  have hd:=Yk (p:=fun x=>f (x,())) (d:=Jj6) hlt
  refine⟨⟨by omega,by omega,hq (l.getD k Jj6) (Jd hlt)⟩,fun h1=> ?_,fun h1=>⟨by omega,(k+1:Nat),⟨rfl,rfl,rfl,by simp,rfl⟩,⟨by omega, ?_⟩,by omega⟩⟩
  ·rw[hk.2,hd,if_pos (show f (l.getD k Jj6,())=true from h1)]
  ·rw[hk.2,hd,if_neg (by rw[show f (l.getD k Jj6,())=false from h1];simp)]
 ·have hlt:¬k<l.length:=by simpa using h
  have:k=l.length:=by omega
  rw[hk.2,this,List.drop_length];rfl
abbrev W36 [Sx.Dr]:=W35.add Kq9
def U1 (l:List Per) (s:ByteArray):Int:=Vp (fun x=>x.1.toList==s.toList) l 0
def Kfm:Con:={args:=[.val false (.list 235 Hr),aS],ress:=[I],owns:=[],pre:=fun(l,_)=>[l.length≤1000000],spec:=fun(l,s,_)=>(U1 l s,())}
def Kne (a:List Per):=Z51 a∧∀(x:Per),x∈a→True
theorem Ks0 [Sx.Dr]:Ok Tryz.prog 146 Kfm:=okW W36 Tryz.f146 na fun xx=>by
 obtain⟨(l:List Per),(s:ByteArray),_⟩:=xx
 refine(by kernel_rfl:(Z51 l→Kne l∧Vp (fun(x:Per)=>List.beq (ByteArray.toList x.1) (ByteArray.toList s)) l 0=U1 l s)=_).mp ?_
 delta Z51 Kne
 exact fun h=>⟨⟨h,fun _ _=>trivial⟩,rfl⟩
abbrev W37 [Sx.Dr]:=W36.add Ks0
abbrev Reg:=Int×Int×List Sta×List Ord×List Met×List Out×List Per
abbrev Jle:Sch:= .prod sI (.prod sI (.prod (.list 127 Fw) (.prod (.list 130 Lo) (.prod (.list 155 Ja4) (.prod (.list 188 Zn) (.list 235 Hr))))))
abbrev Jb7:AK:= .val true Jle
def Ks (s:Int×Int) (h:Int):Bool:=bif decide (s.1≤h) then decide (h<s.2) else false
def Jx5:Con:={args:=[.val true H6,aI],ress:=[Bo],owns:=[],pre:=fun _=>[],spec:=fun(s,h,_)=>(Ks s h,())}
theorem Ks6 [Sx.Dr]:Ok Tryz.prog 140 Jx5:=okW W37 Tryz.f140 na fun xx=>by
 obtain⟨⟨(a:Int),(b:Int)⟩,(h:Int),_⟩:=xx
 refine(by kernel_rfl:((bif decide (a≤h) then decide (h<b) else false)=Ks (a,b) h)=_).mp ?_
 rfl
abbrev W38 [Sx.Dr]:=W37.add Ks6
def J4 (x:Ord) (h:Int):Bool:=bif Ks x.2.2.2.1 h then(bif x.2.2.2.2.2.2== -1 then true else decide (h<x.2.2.2.2.2.2)) else false
def J7s:Con:={args:=[.val true Lo,aI],ress:=[Bo],owns:=[],pre:=fun _=>[],spec:=fun(x,h,_)=>(J4 x h,())}
theorem K8f [Sx.Dr]:Ok Tryz.prog 72 J7s:=okW W38 Tryz.f72 na fun xx=>by
 obtain⟨⟨(n:ByteArray),(f:ByteArray),(t:ByteArray),⟨(a:Int),(b:Int)⟩,(p:Int),(c:Int),(r:Int)⟩,(h:Int),_⟩:=xx
 refine(by kernel_rfl:((bif Ks (a,b) h then bif r==Z75 then true else decide (h<r) else false)=J4 (n,f,t,(a,b),p,c,r) h)=_).mp ?_
 delta Z75
 rfl
abbrev W39 [Sx.Dr]:=W38.add K8f
def Jad (x:Ord) (s:ByteArray):Bool:=bif x.2.1.toList==s.toList then true else x.2.2.1.toList==s.toList
def Kf0:Con:={args:=[.val true Lo,aS],ress:=[Bo],owns:=[],pre:=fun _=>[],spec:=fun(x,s,_)=>(Jad x s,())}
theorem Kq3 [Sx.Dr]:Ok Tryz.prog 240 Kf0:=okW W39 Tryz.f240 na fun xx=>by
 obtain⟨⟨(n:ByteArray),(f:ByteArray),(t:ByteArray),⟨(a:Int),(b:Int)⟩,(p:Int),(c:Int),(r:Int)⟩,(s:ByteArray),_⟩:=xx
 refine(by kernel_rfl:((bif Lb f s then true else Lb t s)=Jad (n,f,t,(a,b),p,c,r) s)=_).mp ?_
 delta Lb
 rfl
abbrev W40 [Sx.Dr]:=W39.add Kq3
def J1t (x:Out) (s:ByteArray) (h:Int):Bool:=bif x.2.1.toList==s.toList then Ks x.2.2.1 h else false
def K9i:Con:={args:=[.val true Zn,aS,aI],ress:=[Bo],owns:=[],pre:=fun _=>[],spec:=fun(x,s,h,_)=>(J1t x s h,())}
theorem Kr6 [Sx.Dr]:Ok Tryz.prog 176 K9i:=okW W40 Tryz.f176 na fun xx=>by
 obtain⟨⟨(n:ByteArray),(f:ByteArray),⟨(a:Int),(b:Int)⟩,(p:Int)⟩,(s:ByteArray),(h:Int),_⟩:=xx
 refine(by kernel_rfl:((bif Lb f s then Ks (a,b) h else false)=J1t (n,f,(a,b),p) s h)=_).mp ?_
 delta Lb
 rfl
abbrev W41 [Sx.Dr]:=W40.add Kr6
theorem Jk {α:Type} {l:List α} {k:Nat} {d:α} (h:k<l.length):l.drop k=l.getD k d::l.drop (k+1):=by
 rw[List.drop_eq_getElem_cons h,List.getD_eq_getElem?_getD,List.getElem?_eq_getElem h];rfl
theorem Jcq {α:Type} {p:α→Bool}:∀{l:List α} {k:Nat},Vp p l k<k+l.length∧-1≤Vp p l k
 |[],k=>by simp[Vp];omega
 | x :: l, k => by
  unfold Vp
  split
  ·simp only[List.length_cons];omega
  ·have:=Jcq (p:=p) (l:=l) (k:=k+1)
   simp only[List.length_cons];omega
theorem K4 {l:List Sta} {s:ByteArray}:J2 l s<l.length:=by have:=(Jcq (p:=fun x=>x.1.toList==s.toList) (l:=l) (k:=0)).1;unfold J2;omega
theorem U0 {l:List Ord} {s:ByteArray}:Kx l s<l.length:=by have:=(Jcq (p:=fun x=>x.1.toList==s.toList) (l:=l) (k:=0)).1;unfold Kx;omega
theorem Up {l:List Out} {s:ByteArray}:J7 l s<l.length:=by have:=(Jcq (p:=fun x=>x.1.toList==s.toList) (l:=l) (k:=0)).1;unfold J7;omega
theorem Uz {l:List Per} {s:ByteArray}:U1 l s<l.length:=by have:=(Jcq (p:=fun x=>x.1.toList==s.toList) (l:=l) (k:=0)).1;unfold U1;omega
def K6 (M:List Met) (n:ByteArray) (h:Int):Int:=Vp (fun x=>bif x.1.toList==n.toList then x.2.1==h else false) M 0
theorem Jfz {l:List Met} {s:ByteArray} {h:Int}:K6 l s h<l.length:=by have:=(Jcq (p:=fun x=>bif x.1.toList==s.toList then x.2.1==h else false) (l:=l) (k:=0)).1;unfold K6;omega
structure Kbb (x:Sta):Prop where
 lim:1≤x.2.1∧x.2.1≤1000
 pri:0≤x.2.2∧x.2.2≤1000
structure Jnr (x:Int×Int):Prop where
 lo:0≤x.1
 mid:x.1≤x.2
 hi:x.2≤999999999
 len:x.2-x.1≤48
structure Jd6 (S:List Sta) (x:Ord):Prop where
 span:Jnr x.2.2.2.1
 pow:1≤x.2.2.2.2.1∧x.2.2.2.2.1≤1000
 pri:0≤x.2.2.2.2.2.1∧x.2.2.2.2.2.1≤1000
 trip: -1≤x.2.2.2.2.2.2∧x.2.2.2.2.2.2≤999999999
 fr:0≤J2 S x.2.1
 tu:0≤J2 S x.2.2.1
structure Jz3 (x:Met):Prop where
 hour:0≤x.2.1∧x.2.1≤999999999
 sent:0≤x.2.2.1∧x.2.2.1≤1000
 got:0≤x.2.2.2∧x.2.2.2≤x.2.2.1
structure Jpz (S:List Sta) (x:Out):Prop where
 span:Jnr x.2.2.1
 rest:0≤x.2.2.2∧x.2.2.2≤1000
 sta:0≤J2 S x.2.1
structure Jn (r:Reg):Prop where
 tk:0≤r.1∧r.1≤999999999
 st:0≤r.2.1∧r.2.1≤r.1
 nS:r.2.2.1.length≤6
 nO:r.2.2.2.1.length≤32
 nM:r.2.2.2.2.1.length≤10000
 nX:r.2.2.2.2.2.1.length≤16
 nQ:r.2.2.2.2.2.2.length≤16
 sta:∀x∈r.2.2.1,Kbb x
 ord:∀x∈r.2.2.2.1,Jd6 r.2.2.1 x
 met:∀x∈r.2.2.2.2.1,Jz3 x
 out:∀x∈r.2.2.2.2.2.1,Jpz r.2.2.1 x
 per:∀x∈r.2.2.2.2.2.2,0≤J7 r.2.2.2.2.2.1 x.2.1
 done:∀x∈r.2.2.2.1,∀h,J4 x h=true→h<r.2.1→0≤K6 r.2.2.2.2.1 x.1 h
def Hw (S:List Sta) (s:ByteArray):Sta:=S.getD (J2 S s).toNat Jug
def J7m:Con:={args:=[Jb7,aS],ress:=[(true,Fw)],owns:=[],pre:=fun((_,_,S,_),s,_)=>[S.length≤1000000,0≤J2 S s],spec:=fun((_,_,S,_),s,_)=>(Hw S s,())}
def Z25 (a:List Sta) (b:Bt):=0≤J2 a b
def Kjb (a:List Sta) (b:Bt):=Gt a (J2 a b) Z13
theorem Kr7 [Sx.Dr]:Ok Tryz.prog 175 J7m:=okW W41 Tryz.f175 na fun xx=>by
 obtain⟨⟨(tk:Int),(st:Int),(S:List Sta),(O:List Ord),(M:List Met),(X:List Out),(Q:List Per)⟩,(s:ByteArray),_⟩:=xx
 refine(by kernel_rfl:(Z52 S→Z25 S s→(Z52 S∧Tw (Bd (J2 S s) (Ln S)))∧((Kjb S s).1,E2 (Kjb S s).2)=Hw S s)=_).mp ?_
 delta Z13 Z25 Z52 Kjb Bd Tw Ln Gt B0 E2
 exact fun h1 h2=>⟨⟨h1,⟨h2,K4⟩,⟨h2,K4⟩⟩,rfl⟩
abbrev W42 [Sx.Dr]:=W41.add Kr7
def X9 (O:List Ord) (s:ByteArray):Ord:=O.getD (Kx O s).toNat Km
def J7p:Con:={args:=[Jb7,aS],ress:=[(true,Lo)],owns:=[],pre:=fun((_,_,_,O,_),s,_)=>[O.length≤1000000,0≤Kx O s],spec:=fun((_,_,_,O,_),s,_)=>(X9 O s,())}
def K3w (a:List Ord) (b:Bt):=Gt a (Kx a b) Jhh
def K3q (a:List Ord) (b:Bt):=(K3w a b).2
def K3o (a:List Ord) (b:Bt):=(K3q a b).2
def K3m (a:List Ord) (b:Bt):=(K3o a b).2
def K3i (a:List Ord) (b:Bt):=(K3m a b).2
theorem Krs [Sx.Dr]:Ok Tryz.prog 198 J7p:=okW W42 Tryz.f198 na fun xx=>by
 obtain⟨⟨(tk:Int),(st:Int),(S:List Sta),(O:List Ord),(M:List Met),(X:List Out),(Q:List Per)⟩,(s:ByteArray),_⟩:=xx
 refine(by kernel_rfl:(Z64 O→0≤Kx O s→(Z64 O∧Tw (Bd (Kx O s) (Ln O)))∧((K3w O s).1,(K3q O s).1,(K3o O s).1,E2 (K3m O s).1,(K3i O s).1,E2 (K3i O s).2)=X9 O s)=_).mp ?_
 delta Z64 Z79 Jhh K3w K3q K3o K3m K3i Bd Tw Ln Gt B0 E2
 exact fun h1 h2=>⟨⟨h1,⟨h2,U0⟩,⟨h2,U0⟩⟩,rfl⟩
abbrev W43 [Sx.Dr]:=W42.add Krs
def Dd (X:List Out) (s:ByteArray):Out:=X.getD (J7 X s).toNat Jb6
def J7o:Con:={args:=[Jb7,aS],ress:=[(true,Zn)],owns:=[],pre:=fun((_,_,_,_,_,X,_),s,_)=>[X.length≤1000000,0≤J7 X s],spec:=fun((_,_,_,_,_,X,_),s,_)=>(Dd X s,())}
def Ko3 (a:List Out) (b:Bt):=(Gt a (J7 a b) Jhk).2
theorem Kq1 [Sx.Dr]:Ok Tryz.prog 242 J7o:=okW W43 Tryz.f242 na fun xx=>by
 obtain⟨⟨(tk:Int),(st:Int),(S:List Sta),(O:List Ord),(M:List Met),(X:List Out),(Q:List Per)⟩,(s:ByteArray),_⟩:=xx
 refine(by kernel_rfl:(Z58 X→0≤J7 X s→(Z58 X∧Tw (Bd (J7 X s) (Ln X)))∧((Gt X (J7 X s) Jhk).1,(Ko3 X s).1,E2 (Ko3 X s).2.1,(Ko3 X s).2.2)=Dd X s)=_).mp ?_
 delta Z58 Jhk Ko3 Bd Tw Ln Gt B0 E2
 exact fun h1 h2=>⟨⟨h1,⟨h2,Up⟩,⟨h2,Up⟩⟩,rfl⟩
abbrev W44 [Sx.Dr]:=W43.add Kq1
def Jnw (Q:List Per) (s:ByteArray):Per:=Q.getD (U1 Q s).toNat Jj6
def J7n:Con:={args:=[Jb7,aS],ress:=[(true,Hr)],owns:=[],pre:=fun((_,_,_,_,_,_,Q),s,_)=>[Q.length≤1000000,0≤U1 Q s],spec:=fun((_,_,_,_,_,_,Q),s,_)=>(Jnw Q s,())}
theorem Kqy [Sx.Dr]:Ok Tryz.prog 245 J7n:=okW W44 Tryz.f245 na fun xx=>by
 obtain⟨⟨(tk:Int),(st:Int),(S:List Sta),(O:List Ord),(M:List Met),(X:List Out),(Q:List Per)⟩,(s:ByteArray),_⟩:=xx
 refine(by kernel_rfl:(Z51 Q→0≤U1 Q s→(Z51 Q∧Tw (Bd (U1 Q s) (Ln Q)))∧((Gt Q (U1 Q s) (B0,B0,false)).1,E2 (Gt Q (U1 Q s) (B0,B0,false)).2)=Jnw Q s)=_).mp ?_
 delta Z51 Bd Tw Ln Gt B0 E2
 exact fun h1 h2=>⟨⟨h1,⟨h2,Uz⟩,⟨h2,Uz⟩⟩,rfl⟩
abbrev W45 [Sx.Dr]:=W44.add Kqy
def Vd:List Ord→ByteArray→Int→Int
 |[],_,_=>0
 |x::l,s,h=>(bif bif Jad x s then J4 x h else false then x.2.2.2.2.1 else 0)+Vd l s h
theorem Jki {S:List Sta} {s:ByteArray} {h:Int}:∀{O:List Ord},(∀x∈O,Jd6 S x)→0≤Vd O s h∧Vd O s h≤1000*O.length
 |[],_=>by simp[Vd]
 |x::l,hO=>by
  have:=Jki (s:=s) (h:=h) (O:=l) fun y hy=>hO y (List.mem_cons_of_mem _ hy)
  have hx:=(hO x (List.mem_cons_self ..)).pow
  unfold Vd
  simp only[List.length_cons]
  cases(bif Jad x s then J4 x h else false)<;>simp only[cond_true,cond_false]<;>omega
def Kuq:Con:={args:=[Jb7,aS,aI],ress:=[I],owns:=[],pre:=fun(r,_)=>[Jn r],spec:=fun((_,_,_,O,_),s,h,_)=>(Vd O s h,())}
abbrev J8e (O:List Ord) (s:ByteArray) (h:Int):Ann:={X:=Nat×Int,σ:=fun(k,n)=>⟨1,[(1, .one (.str s)),(2, .one (.int .i64 h)),(7, .one (.int .i64 n)),(11, .one (.sl 0)),(12, .one (.int .i64 O.length)),(13, .one (.int .i64 k))],[(0, .imm 130 Lo O)]⟩,inv:=fun(k,n)=>k≤O.length∧0≤n∧n≤1000*k∧n+Vd (O.drop k) s h=Vd O s h,mu:=fun(k,_)=>O.length-k}
def Z38 (a:Nat×Int):=Iw (Nc a.1+1)
def Z74 (a b:Int) (c:List Sta) (d:List Ord) (e:List Met) (f:List Out) (g:List Per):=(a,b,c,d,e,f,g)
def Jt7 (a b:Nat×Int):=Nc a.1+1=Nc b.1
def Jw (a b:Int) (c:List Sta) (d:List Ord) (e:List Met) (f:List Out) (g:List Per):=Jn (Z74 a b c d e f g)
def Kis (a:List Ord) (b:Nat×Int):=List.getD a b.1 Jhh
def Kir (a:List Ord) (b:Nat×Int):=(Kis a b).2
def Kiq (a:List Ord) (b:Nat×Int):=(Kir a b).1
def Kip (a:List Ord) (b:Nat×Int):=(Kir a b).2
def Kio (a:List Ord) (b:Nat×Int):=(Kip a b).1
def Kin (a:List Ord) (b:Nat×Int):=(Kip a b).2
def Kil (a:List Ord) (b:Nat×Int):=(Kin a b).2
def Kij (a:List Ord) (b:Nat×Int):=(Kil a b).1
def Kii (a:List Ord) (b:Nat×Int):=(Kil a b).2
def Knb (a:Nat×Int) (b:List Ord):=a.2+Kij b a
def Km5 (a:Nat×Int) (b:List Ord):=Iw (Knb a b)
def Km3 (a:Nat×Int) (b:List Ord) (c:Nat×Int):=Knb a b=c.2
def Kl7 (a:Nat×Int) (b:List Ord) (c:Bt) (d:Int):=a.1≤List.length b∧0≤a.2∧a.2≤1000*Nc a.1∧a.2+Vd (List.drop a.1 b) c d=Vd b c d
def Kyn (a:Nat×Int) (b:List Ord) (c:Bt) (d:Int) (e:Nat×Int):=Kl7 a b c d∧List.length b-a.1<List.length b-e.1
def J8o (a:List Ord) (b:Nat×Int):=((Kis a b).1,Kiq a b,Kio a b,E2 (Kin a b).1,Kij a b,E2 (Kii a b))
def Kj8 (a:List Ord) (b:Nat×Int) (c:Int):=J4 (J8o a b) c
theorem Kr5 [Sx.Dr]:Ok Tryz.prog 177 Kuq:=okW W45 Tryz.f177 (fun xx=>X6 (J8e xx.1.2.2.2.1 xx.2.1 xx.2.2.1)) fun xx=>by
 obtain⟨⟨(tk:Int),(st:Int),(S:List Sta),(O:List Ord),(M:List Met),(X:List Out),(Q:List Per)⟩,(s:ByteArray),(h:Int),_⟩:=xx
 refine(by kernel_rfl:(Jw tk st S O M X Q→∃(x:Nat×Int),Sf s (Si h (0=x.2∧Si (Ln O) (0=Nc x.1∧O=O)))∧Kl7 x O s h∧∀(x:Nat×Int),Kl7 x O s h→Br (decide (Nc x.1<Ln O)) (Tw (Bd (Nc x.1) (Ln O))∧Br (bif Jad (J8o O x) s then Kj8 O x h else false) (Km5 x O∧Z38 x∧∃(y:Nat×Int),Sf s (Si h (Km3 x O y∧Si (Ln O) (Jt7 x y∧O=O)))∧Kyn y O s h x) (Z38 x∧∃(y:Nat×Int),Sf s (Si h (x.2=y.2∧Si (Ln O) (Jt7 x y∧O=O)))∧Kyn y O s h x)) (x.2=Vd O s h))=_).mp ?_
 delta Z38 Z74 Z79 Jt7 Jw Jhh Kis Kir Kiq Kip Kio Kin Kil Kij Kii Knb Km5 Km3 Kl7 Kyn J8o Kj8 Br Iw Bd Tw Sf Si Ln Nc B0 E2
 intro hr
 have hO:∀x∈O,Jd6 S x:=hr.ord
 have nO:O.length≤32:=hr.nO
 refine⟨((0:Nat),(0:Int)),⟨rfl,rfl,rfl,rfl,rfl,rfl⟩,⟨Nat.zero_le _,by simp,by simp,by simp⟩,fun(x:Nat×Int) hk=>⟨fun h1=> ?_,fun h1=> ?_⟩⟩
 ·obtain⟨k,n⟩:=x
  have hlt:k<O.length:=by simpa using h1
  have ho:=hO _ (Jd (d:=Km) hlt)
  have hp:=ho.pow
  dsimp only at hk⊢
  obtain⟨k1,k2,k3,k4⟩:=hk
  rw[Jk (d:=Km) hlt,Vd] at k4
  refine⟨⟨by omega,by omega⟩,fun h2=> ?_,fun h2=> ?_⟩
  ·have h3:(bif Jad (O.getD k Km) s then J4 (O.getD k Km) h else false)=true:=h2
   rw[h3,cond_true] at k4
   refine⟨⟨?_, ?_⟩,⟨by omega,by omega⟩,(k+1,n+(O.getD k Km).2.2.2.2.1),⟨rfl,rfl,rfl,rfl,by simp,rfl⟩,⟨by simp only;omega,by simp only;omega,by simp only;omega,by simp only;omega⟩,by simp only;omega⟩
   ·show _≤n+(O.getD k Km).2.2.2.2.1;omega
   ·show n+(O.getD k Km).2.2.2.2.1≤_;omega
  ·have h3:(bif Jad (O.getD k Km) s then J4 (O.getD k Km) h else false)=false:=h2
   rw[h3,cond_false] at k4
   refine⟨⟨by omega,by omega⟩,(k+1,n),⟨rfl,rfl,rfl,rfl,by simp,rfl⟩,⟨by simp only;omega,by simp only;omega,by simp only;omega,by simp only;omega⟩,by simp only;omega⟩
 ·obtain⟨k,n⟩:=x
  have hlt:¬k<O.length:=by simpa using h1
  simp only at hk
  have:k=O.length:=by omega
  rw[this,List.drop_length,Vd] at hk
  show n=_
  omega
abbrev W46 [Sx.Dr]:=W45.add Kr5
theorem Jjs {S:List Sta} {s:ByteArray} (h:∀x∈S,Kbb x) (hf:0≤J2 S s):Kbb (Hw S s):=by
 have:=K4 (l:=S) (s:=s)
 exact h _ (Jd (by omega))
def Jhy:List Out→ByteArray→Int→Int→Int
 |[],_,_,n=>n
 |x::l,s,h,n=>Jhy l s h (bif J1t x s h then min n x.2.2.2 else n)
def Xy (S:List Sta) (O:List Ord) (X:List Out) (s:ByteArray) (h:Int):Int:=Jhy X s h (Hw S s).2.1-Vd O s h
def Kuf:Con:={args:=[Jb7,aS,aI],ress:=[I],owns:=[],pre:=fun(r,s,_)=>[Jn r,0≤J2 r.2.2.1 s],spec:=fun((_,_,S,O,_,X,_),s,h,_)=>(Xy S O X s h,())}
abbrev J77 (tk st:Int) (S:List Sta) (O:List Ord) (M:List Met) (X:List Out) (Q:List Per) (s:ByteArray) (h:Int):Ann:={X:=Nat×Int,σ:=fun(k,n)=>⟨6,[(1, .one (.str s)),(2, .one (.int .i64 h)),(3, .one (.ptr 5 0)),(7, .one (.int .i64 n)),(15, .one (.sl 3)),(16, .one (.int .i64 X.length)),(17, .one (.int .i64 k))],[(0, .imm 127 Fw S),(1, .imm 130 Lo O),(2, .imm 155 Ja4 M),(3, .imm 188 Zn X),(4, .imm 235 Hr Q),(5, .box 105 [.int .i64 tk, .int .i64 st, .sl 0, .sl 1, .sl 2, .sl 3, .sl 4])]⟩,inv:=fun(k,n)=>k≤X.length∧0≤n∧n≤1000∧Jhy (X.drop k) s h n=Jhy X s h (Hw S s).2.1,mu:=fun(k,_)=>X.length-k}
def Kcm (a:List Out) (b:Nat×Int):=(List.getD a b.1 Jhk).2
def Kch (a:List Out) (b:Nat×Int):=(Kcm a b).2.2
def Kop (a:List Out) (b:Nat×Int):=E2 (Kcm a b).2.1
def Jrz (a:List Sta) (b:List Ord) (c:List Met) (d:List Out) (e:List Per) (f g:Int):=Sf a (Sf b (Sf c (Sf d (Sf e (Si f (g=g))))))
def Kmd (a:Nat×Int) (b:List Out) (c:Bt) (d:Int) (e:List Sta):=a.1≤List.length b∧0≤a.2∧a.2≤1000∧Jhy (List.drop a.1 b) c d a.2=Jhy b c d (Hw e c).2.1
def J0e (a:Nat×Int) (b:List Sta) (c:List Ord) (d:List Met) (e:List Out) (f:List Per) (g h:Int):=0=Nc a.1∧Jrz b c d e f g h
def Jry (a b:Nat×Int) (c:List Sta) (d:List Ord) (e:List Met) (f:List Out) (g:List Per) (h i:Int):=Jt7 a b∧Jrz c d e f g h i
def Kyo (a:Nat×Int) (b:List Out) (c:Bt) (d:Int) (e:List Sta) (f:Nat×Int):=Kmd a b c d e∧List.length b-a.1<List.length b-f.1
theorem K72 [Sx.Dr]:Ok Tryz.prog 91 Kuf:=okW W46 Tryz.f91 (fun xx=>X6 (J77 xx.1.1 xx.1.2.1 xx.1.2.2.1 xx.1.2.2.2.1 xx.1.2.2.2.2.1 xx.1.2.2.2.2.2.1 xx.1.2.2.2.2.2.2 xx.2.1 xx.2.2.1)) fun xx=>by
 obtain⟨⟨(tk:Int),(st:Int),(S:List Sta),(O:List Ord),(M:List Met),(X:List Out),(Q:List Per)⟩,(s:ByteArray),(h:Int),_⟩:=xx
 refine(by kernel_rfl:(Jw tk st S O M X Q→Z25 S s→(Z52 S∧Z25 S s)∧∃(x:Nat×Int),Sf s (Si h ((Hw S s).2.1=x.2∧Si (Ln X) (J0e x S O M X Q tk st)))∧Kmd x X s h S∧∀(x:Nat×Int),Kmd x X s h S→Br (decide (Nc x.1<Ln X)) (Tw (Bd (Nc x.1) (Ln X))∧Br (J1t ((List.getD X x.1 Jhk).1,(Kcm X x).1,Kop X x,Kch X x) s h) (Z38 x∧∃(y:Nat×Int),Sf s (Si h (min x.2 (Kch X x)=y.2∧Si (Ln X) (Jry x y S O M X Q tk st)))∧Kyo y X s h S x) (Z38 x∧∃(y:Nat×Int),Sf s (Si h (x.2=y.2∧Si (Ln X) (Jry x y S O M X Q tk st)))∧Kyo y X s h S x)) ((Jw tk st S O M X Q∧Iw (x.2-Vd O s h))∧x.2-Vd O s h=Xy S O X s h))=_).mp ?_
 delta Z25 Z38 Z52 Z74 Jt7 Jw Jhk Kcm Kch Kop Jrz Kmd J0e Jry Kyo Br Iw Bd Tw Sf Si Ln Nc B0 E2
 intro hr hf
 have hX:∀x∈X,Jpz S x:=hr.out
 have nO:O.length≤32:=hr.nO
 have nX:X.length≤16:=hr.nX
 have nS:S.length≤6:=hr.nS
 have hs:=Jjs hr.sta hf
 have hl:=Jki (s:=s) (h:=h) hr.ord
 refine⟨⟨by omega,hf⟩,((0:Nat),(Hw S s).2.1),⟨rfl,rfl,rfl,rfl,rfl,rfl,rfl,rfl,rfl,rfl,rfl,rfl⟩,⟨Nat.zero_le _, ?_,hs.lim.2,by simp⟩,fun(x:Nat×Int) hk=>⟨fun h1=> ?_,fun h1=> ?_⟩⟩
 ·have:=hs.lim.1
  show 0≤(Hw S s).2.1
  simp only at this
  omega
 ·obtain⟨k,n⟩:=x
  have hlt:k<X.length:=by simpa using h1
  have ho:=(hX _ (Jd (d:=Jb6) hlt)).rest
  dsimp only at hk⊢
  obtain⟨k1,k2,k3,k4⟩:=hk
  rw[Jk (d:=Jb6) hlt,Jhy] at k4
  refine⟨⟨by omega,by omega⟩,fun h2=> ?_,fun h2=> ?_⟩
  ·have h3:J1t (X.getD k Jb6) s h=true:=h2
   rw[h3,cond_true] at k4
   exact⟨⟨by omega,by omega⟩,(k+1,min n (X.getD k Jb6).2.2.2),⟨rfl,rfl,rfl,rfl,by simp,rfl,rfl,rfl,rfl,rfl,rfl,rfl⟩,⟨by simp only;omega,by simp only;omega,by simp only;omega,k4⟩,by simp only;omega⟩
  ·have h3:J1t (X.getD k Jb6) s h=false:=h2
   rw[h3,cond_false] at k4
   exact⟨⟨by omega,by omega⟩,(k+1,n),⟨rfl,rfl,rfl,rfl,by simp,rfl,rfl,rfl,rfl,rfl,rfl,rfl⟩,⟨by simp only;omega,by simp only;omega,by simp only;omega,k4⟩,by simp only;omega⟩
 ·obtain⟨k,n⟩:=x
  have hlt:¬k<X.length:=by simpa using h1
  simp only at hk
  have:k=X.length:=by omega
  rw[this,List.drop_length,Jhy] at hk
  unfold Xy
  have hl2:Vd O s h≤1000*(O.length:Int):=hl.2
  have hl1:0≤Vd O s h:=hl.1
  refine⟨⟨hr, ?_, ?_⟩, ?_⟩
  ·show _≤n-_;omega
  ·show n-_≤_;omega
  ·show n-_=_;omega
abbrev W47 [Sx.Dr]:=W46.add K72
def Vl (r:Reg) (w:Int) (s:ByteArray):Bool:=bif w==0 then decide (0≤J2 r.2.2.1 s) else bif w==1 then decide (0≤Kx r.2.2.2.1 s) else bif w==2 then decide (0≤J7 r.2.2.2.2.2.1 s) else bif w==3 then decide (0≤U1 r.2.2.2.2.2.2 s) else true
def K9q:Con:={args:=[Jb7,aI,aS],ress:=[Bo],owns:=[],pre:=fun(r,_)=>[Jn r],spec:=fun(r,w,s,_)=>(Vl r w s,())}
theorem K8c [Sx.Dr]:Ok Tryz.prog 76 K9q:=okW W47 Tryz.f76 na fun xx=>by
 obtain⟨⟨(tk:Int),(st:Int),(S:List Sta),(O:List Ord),(M:List Met),(X:List Out),(Q:List Per)⟩,(w:Int),(s:ByteArray),_⟩:=xx
 refine(by kernel_rfl:(Jw tk st S O M X Q→Br (w==0) (Z52 S∧decide (0≤J2 S s)=Vl (Z74 tk st S O M X Q) w s) (Br (w==1) (Z64 O∧decide (0≤Kx O s)=Vl (Z74 tk st S O M X Q) w s) (Br (w==2) (Z58 X∧decide (0≤J7 X s)=Vl (Z74 tk st S O M X Q) w s) (Br (w==3) (Z51 Q∧decide (0≤U1 Q s)=Vl (Z74 tk st S O M X Q) w s) (true=Vl (Z74 tk st S O M X Q) w s)))))=_).mp ?_
 delta Z51 Z52 Z58 Z64 Z74 Jw Br
 intro hr
 have nS:S.length≤6:=hr.nS
 have nO:O.length≤32:=hr.nO
 have nX:X.length≤16:=hr.nX
 have nQ:Q.length≤16:=hr.nQ
 unfold Vl
 refine⟨fun h=> ?_,fun h=> ?_⟩
 ·rw[h];exact⟨by omega,rfl⟩
 rw[h]
 refine⟨fun h=> ?_,fun h=> ?_⟩
 ·rw[h];exact⟨by omega,rfl⟩
 rw[h]
 refine⟨fun h=> ?_,fun h=> ?_⟩
 ·rw[h];exact⟨by omega,rfl⟩
 rw[h]
 refine⟨fun h=> ?_,fun h=> ?_⟩
 ·rw[h];exact⟨by omega,rfl⟩
 rw[h];rfl
abbrev W48 [Sx.Dr]:=W47.add K8c
def Jnx:Met:=(Ja,0,0,0)
def K9p:Con:={args:=[.val true Ja4, .ref 9 .str, .ref 3 sI],ress:=[Bo],owns:=[],pre:=fun _=>[],spec:=fun(x,s,h,_)=>(bif x.1.toList==s.toList then x.2.1==h else false,())}
theorem Ks4 [Sx.Dr]:Ok Tryz.prog 142 K9p:=okW W48 Tryz.f142 na fun xx=>by
 obtain⟨⟨(a:ByteArray),(b:Int),(c:Int),(d:Int)⟩,(s:ByteArray),(h:Int),_⟩:=xx
 refine(by kernel_rfl:((Lb a s&&(b==h&&(c==c&&(d==d&&true))))=bif Lb a s then b==h else false)=_).mp ?_
 delta Lb
 cases a.toList==s.toList<;>cases b==h<;>simp
abbrev W49 [Sx.Dr]:=W48.add Ks4
def J0r:=(B0,Z79)
def Kja (a:List Met) (b:Nat):=List.getD a b J0r
def Ki8 (a:List Met) (b:Nat):=(Kja a b).2
def Kms (a:Nat) (b:List Met) (c:Met×Unit→Bool):=a≤List.length b∧Vp (fun(x:Met)=>c (x,PUnit.unit)) b 0=Vp (fun(x:Met)=>c (x,PUnit.unit)) (List.drop a b) a
def Kld (a:List Met) (b:Nat):=((Kja a b).1,(Ki8 a b).1,E2 (Ki8 a b).2)
def Kyq (a:List Met) (b:Nat):=(Kld a b,PUnit.unit)
theorem Ks5 [Sx.Dr]:Ok Tryz.prog 141 (Kff 155 Ja4 true):=okW W49 Tryz.f141 (fun xx=>X6 (Jnl 155 Ja4 true xx.1 xx.2.1.1 xx.2.1.2)) fun xx=>by
 obtain⟨(l:List Met),⟨(q:Met×Unit→List Prop),(f:Met×Unit→Bool)⟩,_⟩:=xx
 refine(by kernel_rfl:(List.length l≤1000000→(∀(x:Met),x∈l→Uk (q (x,PUnit.unit)))→∃(x:Nat),Si (Ln l) (0=Nc x∧Sf l ((fun(x:Met×PUnit)=>q x)=q∧(fun(x:Met×PUnit)=>f x)=f))∧Kms x l f∧∀(x:Nat),Kms x l f→Br (decide (Nc x<Ln l)) (T2 (Bd (Nc x) (Ln l)) (Uk (q (Kyq l x)))∧Br (f (Kyq l x)) (Nc x=Vp (fun(x:Met)=>f (x,PUnit.unit)) l 0) (Z22 x∧∃(y:Nat),Si (Ln l) (V0 x y∧Sf l ((fun(x:Met×PUnit)=>q x)=q∧(fun(x:Met×PUnit)=>f x)=f))∧Kms y l f∧List.length l-y<List.length l-x)) (Z75=Vp (fun(x:Met)=>f (x,PUnit.unit)) l 0))=_).mp ?_
 delta Z22 Z75 Z79 V0 J0r Kja Ki8 Kms Kld Kyq Br Iw Bd T2 Sf Si Ln Nc B0 E2
 intro hb hq
 refine⟨(0:Nat),⟨rfl,rfl,rfl,rfl,rfl⟩,⟨Nat.zero_le _,rfl⟩,fun(k:Nat) hk=>⟨fun h=> ?_,fun h=> ?_⟩⟩
 ·have hlt:k<l.length:=by simpa using h
  have hd:=Yk (p:=fun x=>f (x,())) (d:=Jnx) hlt
  refine⟨⟨by omega,by omega,hq (l.getD k Jnx) (Jd hlt)⟩,fun h1=> ?_,fun h1=>⟨by omega,(k+1:Nat),⟨rfl,rfl,rfl,by simp,rfl⟩,⟨by omega, ?_⟩,by omega⟩⟩
  ·rw[hk.2,hd,if_pos (show f (l.getD k Jnx,())=true from h1)]
  ·rw[hk.2,hd,if_neg (by rw[show f (l.getD k Jnx,())=false from h1];simp)]
 ·have hlt:¬k<l.length:=by simpa using h
  have:k=l.length:=by omega
  rw[hk.2,this,List.drop_length];rfl
abbrev W50 [Sx.Dr]:=W49.add Ks5
def Ke3:Con:={args:=[Jb7,aS,aI],ress:=[I],owns:=[],pre:=fun(r,_)=>[Jn r],spec:=fun((_,_,_,_,M,_),s,h,_)=>(K6 M s h,())}
theorem K8e [Sx.Dr]:Ok Tryz.prog 73 Ke3:=okW W50 Tryz.f73 na fun xx=>by
 obtain⟨⟨(tk:Int),(st:Int),(S:List Sta),(O:List Ord),(M:List Met),(X:List Out),(Q:List Per)⟩,(s:ByteArray),(h:Int),_⟩:=xx
 refine(by kernel_rfl:(Jw tk st S O M X Q→(List.length M≤1000000∧∀(x:Met),x∈M→True)∧Vp (fun(x:Met)=>match Lb x.1 s with|true=>x.2.1==h|false=>false) M 0=K6 M s h)=_).mp ?_
 delta Z74 Jw Lb
 intro hr
 have nM:M.length≤10000:=hr.nM
 exact⟨⟨by omega,fun _ _=>trivial⟩,rfl⟩
abbrev W51 [Sx.Dr]:=W50.add K8e
def V1 (e:Ev):Int×Int:=(e.2.2.2.1.getD 1 0,e.2.2.2.1.getD 2 0)
def Kud:Con:={args:=[aEv],ress:=[(true,H6)],owns:=[],pre:=fun(e,_)=>[3≤e.2.2.2.1.length],spec:=fun(e,_)=>(V1 e,())}
def Z33 (a:Li):=Bd 1 (Ln a)
def Z34 (a:Li):=Bd 2 (Ln a)
def Z60 (a:Li):=3≤List.length a
def Z63 (a:Int) (b:Bt) (c:Ls) (d:Li) (e:Bt):=V1 (a,b,c,d,e)
def Jnp (a:Li):=List.getD a 2 0
def Zh (a:Li):=List.getD a 1 0
def Kck (a:Li):=T2 (Z33 a) (Tw (Z34 a))
def Kcf (a:Li):=(Zh a,Jnp a)
theorem Kq5 [Sx.Dr]:Ok Tryz.prog 238 Kud:=okW W51 Tryz.f238 na fun xx=>by
 obtain⟨⟨(n:Int),(k:ByteArray),(ns:List ByteArray),(vs:List Int),(t:ByteArray)⟩,_⟩:=xx
 refine(by kernel_rfl:(Z60 vs→Kck vs∧Kcf vs=Z63 n k ns vs t)=_).mp ?_
 delta Z33 Z34 Z60 Z63 Jnp Zh Kck Kcf Bd T2 Tw Ln
 intro h
 exact⟨⟨⟨by omega,by omega⟩,⟨by omega,by omega⟩,⟨by omega,by omega⟩,⟨by omega,by omega⟩⟩,rfl⟩
abbrev W52 [Sx.Dr]:=W51.add Kq5
abbrev EvV (e:Ev):Prop:=∀v∈e.2.2.2.1,0≤v∧v≤999999999
def Zl (e:Ev):Int:=bif (bif (bif decide ((V1 e).1<e.2.2.2.1.getD 0 0) then true else decide ((V1 e).2≤(V1 e).1)) then true else decide (48<(V1 e).2-(V1 e).1)) then 14 else 0
def J2q:Con:={args:=[aEv],ress:=[I],owns:=[],pre:=fun(e,_)=>[3≤e.2.2.2.1.length,EvV e],spec:=fun(e,_)=>(Zl e,())}
def Z36 (a:Li):=Bd 0 (Ln a)
def U7 (a:Li):=List.getD a 0 0
def Kzu (a:Int) (b:Bt) (c:Ls) (d:Li) (e:Bt):=bif decide ((Z63 a b c d e).1<U7 d) then true else decide ((Z63 a b c d e).2≤(Z63 a b c d e).1)
theorem Kq7 [Sx.Dr]:Ok Tryz.prog 236 J2q:=okW W52 Tryz.f236 na fun xx=>by
 obtain⟨⟨(n:Int),(k:ByteArray),(ns:List ByteArray),(vs:List Int),(t:ByteArray)⟩,_⟩:=xx
 refine(by kernel_rfl:(Z60 vs→EvV (n,k,ns,vs,t)→Z60 vs∧T2 (Z36 vs) (Kzu n k ns vs t=false→Iw ((Z63 n k ns vs t).2-(Z63 n k ns vs t).1))∧(bif bif Kzu n k ns vs t then true else decide (48<(Z63 n k ns vs t).2-(Z63 n k ns vs t).1) then 14 else 0)=Zl (n,k,ns,vs,t))=_).mp ?_
 delta Z36 Z60 Z63 U7 Kzu Iw Bd T2 Ln
 intro h hv
 refine⟨h,⟨⟨by omega,by omega⟩,⟨by omega,by omega⟩,fun _=> ?_⟩,rfl⟩
 have h1:=hv (vs.getD 1 0) (Jd (show 1<vs.length by omega))
 have h2:=hv (vs.getD 2 0) (Jd (show 2<vs.length by omega))
 unfold V1
 simp only
 omega
abbrev W53 [Sx.Dr]:=W52.add Kq7
abbrev Gap:=ByteArray×Int
abbrev J59:Sch:= .prod .str sI
def Df (M:List Met) (u:Int) (x:Ord):Int→Nat→List Gap
 |_,0=>[]
 |h,n+1=>(bif J4 x h&&(decide (h<u)&&decide (K6 M x.1 h<0)) then[(x.1,h)] else[])++Df M u x (h+1) n
def Jwm (M:List Met) (u:Int) (x:Ord):List Gap:=Df M u x x.2.2.2.1.1 (x.2.2.2.1.2-x.2.2.2.1.1).toNat
def Kr (M:List Met) (u:Int):List Ord→List Gap
 |[]=>[]
 |x::l=>Jwm M u x++Kr M u l
def Kun:Con:={args:=[Jb7,aI],ress:=[(false, .list 200 J59)],owns:=[true],pre:=fun(r,_)=>[Jn r],spec:=fun((_,_,_,O,M,_),u,_)=>(Kr M u O,())}
abbrev J8c (tk st:Int) (S:List Sta) (O:List Ord) (M:List Met) (X:List Out) (Q:List Per) (u:Int):Ann:={X:=Nat×List Gap,σ:=fun(k,o)=>⟨9,[(2, .one (.ptr 5 0)),(3, .one (.ptr 6 0)),(5, .one (.ptr 7 0)),(10, .one (.sl 1)),(11, .one (.int .i64 O.length)),(12, .one (.int .i64 k))],[(0, .imm 127 Fw S),(1, .imm 130 Lo O),(2, .imm 155 Ja4 M),(3, .imm 188 Zn X),(4, .imm 235 Hr Q),(5, .box 105 [.int .i64 tk, .int .i64 st, .sl 0, .sl 1, .sl 2, .sl 3, .sl 4]),(6, .box 3 [.int .i64 u]),(7, .box 50 [.sl 8]),(8, .own 200 J59 o)]⟩,inv:=fun(k,o)=>k≤O.length∧o.length≤48*k∧o++Kr M u (O.drop k)=Kr M u O,mu:=fun(k,_)=>O.length-k}
abbrev bxO (x:Ord):List SC:=[.str x.1, .str x.2.1, .str x.2.2.1, .int .i64 x.2.2.2.1.1, .int .i64 x.2.2.2.1.2, .int .i64 x.2.2.2.2.1, .int .i64 x.2.2.2.2.2.1, .int .i64 x.2.2.2.2.2.2]
def Um (x:Ord):Nat:=(x.2.2.2.1.2-x.2.2.2.1.1).toNat
abbrev J27 (tk st:Int) (S:List Sta) (O:List Ord) (M:List Met) (X:List Out) (Q:List Per) (u:Int):Ann:={X:=Nat×List Gap×Nat,σ:=fun(k,o,j)=>⟨16,[(0, .one (.fv 13)),(1, .one (.ptr 11 0)),(3, .one (.int .i64 ((O.getD k Km).2.2.2.1.1+j)))],[(0, .imm 127 Fw S),(1, .imm 130 Lo O),(2, .imm 155 Ja4 M),(3, .imm 188 Zn X),(4, .imm 235 Hr Q),(5, .box 105 [.int .i64 tk, .int .i64 st, .sl 0, .sl 1, .sl 2, .sl 3, .sl 4]),(6, .box 3 [.int .i64 u]),(7, .box 50 [.sl 15]),(9, .box 130 (bxO (O.getD k Km))),(11, .box 130 (bxO (O.getD k Km))),(13, .yld .ready),(14, .sus [(2, .one (.ptr 5 0)),(3, .one (.ptr 6 0)),(5, .one (.ptr 7 0)),(7, .one (.ptr 9 0)),(10, .one (.sl 1)),(11, .one (.int .i64 O.length)),(12, .one (.int .i64 k))]),(15, .own 200 J59 o)]⟩,inv:=fun(k,o,j)=>Jn (tk,st,S,O,M,X,Q)∧k<O.length∧j≤Um (O.getD k Km)∧o.length≤48*k+j∧o++(Df M u (O.getD k Km) ((O.getD k Km).2.2.2.1.1+j) (Um (O.getD k Km)-j)++Kr M u (O.drop (k+1)))=Kr M u O,mu:=fun(k,_,j)=>Um (O.getD k Km)-j,rel:=some fun x y=>y.1=x.1}
theorem Jyn (a b:Bool):(bif a then b else false)=(a&&b):=by cases a<;>rfl
def Z0 (a:List Ord) (b:Nat×List Gap×Nat):=List.getD a b.1 Km
def Z7 (a:List Ord) (b:Nat×List (Bt×Int)×Nat):=List.getD a b.1 Km
def Z82 (a:List Ord) (b:Nat×List Gap×Nat):=(Z0 a b).2.2.2.1
def Z83 (a:List Ord) (b:Nat×List (Bt×Int)×Nat):=(Z7 a b).2.2.2.2
def Z86 (a:List Ord) (b:Nat×List (Bt×Int)×Nat):=(Z7 a b).2.2.2.1
def Z93 (a:List Ord) (b:Nat×List Gap×Nat):=(Z0 a b).2.2.2.2
def J0m (a:List Ord) (b:Nat×List Gap×Nat):=(Z82 a b).1+Nc b.2.2
def J9b (a:List Ord) (b:Nat×List Gap×Nat) (c:Nat×List (Bt×Int)×Nat):=(Z0 a b).1=(Z7 a c).1
def J89 (a:List Ord) (b:Nat×List Gap×Nat) (c:Nat×List (Bt×Int)×Nat):=(Z0 a b).2.1=(Z7 a c).2.1
def Kcl (a:List Ord) (b:Nat×List Gap×Nat) (c:Int):=decide (J0m a b<c)
def J88 (a:List Ord) (b:Nat×List Gap×Nat) (c:Nat×List (Bt×Int)×Nat):=(Z0 a b).2.2.1=(Z7 a c).2.2.1
def Kcg (a:List Ord) (b:Nat×List Gap×Nat):=Iw (J0m a b+1)
def J86 (a:List Ord) (b:Nat×List Gap×Nat) (c:Nat×List (Bt×Int)×Nat):=(Z82 a b).2=(Z86 a c).2
def J85 (a:List Ord) (b:Nat×List Gap×Nat) (c:Nat×List (Bt×Int)×Nat):=(Z82 a b).1=(Z86 a c).1
def J84 (a:List Ord) (b:Nat×List Gap×Nat) (c:Nat×List (Bt×Int)×Nat):=(Z93 a b).1=(Z83 a c).1
def J83 (a:List Ord) (b:Nat×List Gap×Nat) (c:Nat×List (Bt×Int)×Nat):=(Z93 a b).2.2=(Z83 a c).2.2
def J82 (a:List Ord) (b:Nat×List Gap×Nat) (c:Nat×List (Bt×Int)×Nat):=(Z93 a b).2.1=(Z83 a c).2.1
def Kou (a:Nat×List Gap×Nat):=(List.length a.2.1+1)*24≤140737488355328
def Kob (a:List Ord) (b:Nat×List Gap):=List.getD a b.1 Jhh
def Kn6 (a:List Ord) (b:Nat×List Gap):=(Kob a b).2
def Kn3 (a:List Ord) (b:Nat×List Gap):=(Kn6 a b).2
def Kn0 (a:List Ord) (b:Nat×List Gap):=(Kn3 a b).2
def Knz (a:List Ord) (b:Nat×List Gap×Nat):=decide (J0m a b<(Z82 a b).2)
def Knw (a:List Ord) (b:Nat×List Gap):=(Kn0 a b).1
def Knv (a:List Ord) (b:Nat×List Gap):=(Kn0 a b).2
def Knq (a:List Ord) (b:Nat×List Gap):=(Knv a b).2
def Knp (a:List Ord) (b:Nat×List Gap):=(Knw a b).1
def Kb2 (a:List Ord) (b:Nat×List Gap×Nat) (c:Nat×List (Bt×Int)×Nat):=J0m a b+1=(Z86 a c).1+Nc c.2.2
def Km2 (a:Nat×List Gap×Nat) (b:List Ord):=a.2.1++[((Z0 b a).1,J0m b a)]
def Kig (a:List Ord) (b:Nat×List Gap) (c:Nat×List (Bt×Int)×Nat):=(Kob a b).1=(Z7 a c).1
def Kid (a:List Ord) (b:Nat×List Gap) (c:Nat×List (Bt×Int)×Nat):=(Kn6 a b).1=(Z7 a c).2.1
def Kmx (a:Nat×List Gap×Nat) (b:List Ord) (c:Nat×List (Bt×Int)×Nat):=Km2 a b=c.2.1
def Kh6 (a:List Ord) (b:Nat×List Gap) (c:Nat×List (Bt×Int)×Nat):=(Kn3 a b).1=(Z7 a c).2.2.1
def Kh4 (a:Nat×List (Bt×Int)) (b:List Ord) (c:List Met) (d:Int):=a.1≤List.length b∧List.length a.2≤48*a.1∧a.2++Kr c d (List.drop a.1 b)=Kr c d b
def Kml (a:Nat×List Gap) (b:List Ord) (c:List Met) (d:Int):=a.1≤List.length b∧List.length a.2≤48*a.1∧a.2++Kr c d (List.drop a.1 b)=Kr c d b
def Kh2 (a:List Ord) (b:Nat×List Gap) (c:Nat×List (Bt×Int)×Nat):=(Knw a b).2=(Z86 a c).2
def Kh1 (a:List Ord) (b:Nat×List Gap) (c:Nat×List (Bt×Int)×Nat):=Knp a b=(Z86 a c).1
def Kh0 (a:List Ord) (b:Nat×List Gap) (c:Nat×List (Bt×Int)×Nat):=(Knv a b).1=(Z83 a c).1
def Khx (a:List Ord) (b:Nat×List Gap) (c:Nat×List (Bt×Int)×Nat):=(Knq a b).2=(Z83 a c).2.2
def Khw (a:List Ord) (b:Nat×List Gap) (c:Nat×List (Bt×Int)×Nat):=(Knq a b).1=(Z83 a c).2.1
def Klz (a:List Ord) (b:Nat×List Gap) (c:Nat×List (Bt×Int)×Nat):=Knp a b=(Z86 a c).1+Nc c.2.2
def Kg8 (a:Nat×List (Bt×Int)) (b:List Ord) (c:List Met) (d:Int) (e:Nat×List Gap):=Kh4 a b c d∧List.length b-a.1<List.length b-e.1
def Kkr (a:List Ord) (b:Nat×List Gap×Nat):=J4 ((Z0 a b).1,(Z0 a b).2.1,(Z0 a b).2.2.1,E2 (Z82 a b),(Z93 a b).1,E2 (Z93 a b).2) (J0m a b)
def Kkm (a:Nat×List Gap×Nat) (b:List Ord) (c:List Met) (d:Int):=a.1<List.length b∧a.2.2≤Um (List.getD b a.1 Km)∧List.length a.2.1≤48*a.1+a.2.2∧a.2.1++(Df c d (List.getD b a.1 Km) ((List.getD b a.1 Km).2.2.2.1.1+Nc a.2.2) (Um (List.getD b a.1 Km)-a.2.2)++Kr c d (List.drop (a.1+1) b))=Kr c d b
def Kgx (a:Nat×List (Bt×Int)×Nat) (b:List Ord) (c:List Met) (d:Int):=a.1<List.length b∧a.2.2≤Um (List.getD b a.1 Km)∧List.length a.2.1≤48*a.1+a.2.2∧a.2.1++(Df c d (List.getD b a.1 Km) ((List.getD b a.1 Km).2.2.2.1.1+Nc a.2.2) (Um (List.getD b a.1 Km)-a.2.2)++Kr c d (List.drop (a.1+1) b))=Kr c d b
def Kww (a b:Int) (c:List Sta) (d:List Ord) (e:List Met) (f:List Out) (g:List Per) (h:Nat×List (Bt×Int)×Nat) (i:Int):=Jw a b c d e f g∧Kgx h d e i
def Kwg (a:Nat×List Gap×Nat) (b:List Ord) (c:List Sta) (d:List Met) (e:List Out) (f:List Per) (g h i:Int) (j:Nat×List Gap):=Iw (Nc a.1+1)∧∃(y:Nat×List (ByteArray×Int)),Si (Ln b) (Nc a.1+1=Nc y.1∧Sf c (Sf b (Sf d (Sf e (Sf f (Si g (Si h (Si i (a.2.1=y.2)))))))))∧Kg8 y b d i j
def Kwd (a b:Int) (c:List Sta) (d:List Ord) (e:List Met) (f:List Out) (g:List Per) (h:Nat×List (Bt×Int)×Nat) (i:Int) (j:Nat×List (Bt×Int)×Nat) (k:Nat×List Gap×Nat):=(Kww a b c d e f g h i∧h.1=j.1)∧Um (List.getD d h.1 Km)-h.2.2<Um (List.getD d k.1 Km)-k.2.2
def J9t (a:Nat×List Gap×Nat) (b:List Ord) (c:List Sta) (d:List Met) (e:List Out) (f:List Per) (g h i:Int) (j:Nat×List Gap) (k:Nat×List (Bt×Int)×Nat):=Br false (Kwg a b c d e f g h i j) (Kcg b a∧∃(y:Nat×List (ByteArray×Int)×Nat),(Kb2 b a y∧Sf c (Sf b (Sf d (Sf e (Sf f (Si g (Si h (Si i (J9b b a y∧J89 b a y∧J88 b a y∧J85 b a y∧J86 b a y∧J84 b a y∧J82 b a y∧J83 b a y∧J9b b a y∧J89 b a y∧J88 b a y∧J85 b a y∧J86 b a y∧J84 b a y∧J82 b a y∧J83 b a y∧Si (Ln b) (Nc a.1=Nc y.1∧a.2.1=y.2.1))))))))))∧Kwd g h c b d e f y i k a)
theorem K71 [Sx.Dr]:Ok Tryz.prog 92 Kun:=J4n W53 Tryz.f92 (U4 (l:=([(178,Tryz.f178),(247,Tryz.f247)]:List (Nat×Func))) (List.forall_mem_cons.2 ⟨by kernel_rfl,List.forall_mem_cons.2 ⟨by kernel_rfl,by simp⟩⟩)) (fun xx=>X6 (J8c xx.1.1 xx.1.2.1 xx.1.2.2.1 xx.1.2.2.2.1 xx.1.2.2.2.2.1 xx.1.2.2.2.2.2.1 xx.1.2.2.2.2.2.2 xx.2.1)) (fun xx=>fun f id=>if f=247 then some (J27 xx.1.1 xx.1.2.1 xx.1.2.2.1 xx.1.2.2.2.1 xx.1.2.2.2.2.1 xx.1.2.2.2.2.2.1 xx.1.2.2.2.2.2.2 xx.2.1) else none) fun xx=>by
 obtain⟨⟨(tk:Int),(st:Int),(S:List Sta),(O:List Ord),(M:List Met),(X:List Out),(Q:List Per)⟩,(u:Int),_⟩:=xx
 refine(by kernel_rfl:(Jw tk st S O M X Q→∃(x:Nat×List (ByteArray×Int)),Si (Ln O) (0=Nc x.1∧Sf S (Sf O (Sf M (Sf X (Sf Q (Si tk (Si st (Si u (List.length x.2=0)))))))))∧Kh4 x O M u∧∀(x:Nat×List Gap),Kml x O M u→Br (decide (Nc x.1<Ln O)) (Tw (Bd (Nc x.1) (Ln O))∧∃(x0:Nat×List (ByteArray×Int)×Nat),(Klz O x x0∧Sf S (Sf O (Sf M (Sf X (Sf Q (Si tk (Si st (Si u (Kig O x x0∧Kid O x x0∧Kh6 O x x0∧Kh1 O x x0∧Kh2 O x x0∧Kh0 O x x0∧Khw O x x0∧Khx O x x0∧Kig O x x0∧Kid O x x0∧Kh6 O x x0∧Kh1 O x x0∧Kh2 O x x0∧Kh0 O x x0∧Khw O x x0∧Khx O x x0∧Si (Ln O) (Nc x.1=Nc x0.1∧x.2=x0.2.1))))))))))∧(Kww tk st S O M X Q x0 u∧x0.1=x0.1)∧∀(x_1:Nat×List Gap×Nat),(Jw tk st S O M X Q∧Kkm x_1 O M u)∧x_1.1=x0.1→Br (Knz O x_1) (Br (Kkr O x_1) ((Kcl O x_1 u=true→Jw tk st S O M X Q)∧Br (bif Kcl O x_1 u then decide (K6 M (Z0 O x_1).1 (J0m O x_1)<0) else false) (Kou x_1∧Br false (Iw (Nc x_1.1+1)∧∃(y:Nat×List (ByteArray×Int)),Si (Ln O) (Nc x_1.1+1=Nc y.1∧Sf S (Sf O (Sf M (Sf X (Sf Q (Si tk (Si st (Si u (Km2 x_1 O=y.2)))))))))∧Kg8 y O M u x) (Kcg O x_1∧∃(y:Nat×List (ByteArray×Int)×Nat),(Kb2 O x_1 y∧Sf S (Sf O (Sf M (Sf X (Sf Q (Si tk (Si st (Si u (J9b O x_1 y∧J89 O x_1 y∧J88 O x_1 y∧J85 O x_1 y∧J86 O x_1 y∧J84 O x_1 y∧J82 O x_1 y∧J83 O x_1 y∧J9b O x_1 y∧J89 O x_1 y∧J88 O x_1 y∧J85 O x_1 y∧J86 O x_1 y∧J84 O x_1 y∧J82 O x_1 y∧J83 O x_1 y∧Si (Ln O) (Nc x_1.1=Nc y.1∧Kmx x_1 O y))))))))))∧Kwd tk st S O M X Q y u x0 x_1)) (J9t x_1 O S M X Q tk st u x x0)) (J9t x_1 O S M X Q tk st u x x0)) (Kwg x_1 O S M X Q tk st u x)) (Sf true (x.2=Kr M u O)))=_).mp ?_
 delta Z0 Z7 Z74 Z79 Z82 Z83 Z86 Z93 Jw J0m J9b J89 Kcl J88 Kcg Jhh J86 J85 J84 J83 J82 Kou Kob Kn6 Kn3 Kn0 Knz Knw Knv Knq Knp Kb2 Km2 Kig Kid Kmx Kh6 Kh4 Kml Kh2 Kh1 Kh0 Khx Khw Klz Kg8 Kkr Kkm Kgx Kww Kwg Kwd J9t Br Iw Bd Tw Sf Si Ln Nc B0 E2
 intro hr
 have nO:O.length≤32:=hr.nO
 refine⟨((0:Nat),[]),by(repeat' first|exact rfl|apply And.intro|exact(Int.add_zero _).symm|omega|dsimp only;omega),⟨Nat.zero_le _,Nat.zero_le _,rfl⟩,fun(x:Nat×List Gap) hk=>⟨fun h1=> ?_,fun h1=> ?_⟩⟩
 ·obtain⟨k,o⟩:=x
  have hlt:k<O.length:=by simpa using h1
  obtain⟨k1,k2,k3⟩:=hk
  dsimp only at k1 k2 k3
  rw[Jk (d:=Km) hlt,Kr,Jwm] at k3
  refine⟨⟨⟨by dsimp only;omega,by dsimp only;omega⟩,by dsimp only;omega,by dsimp only;omega⟩,(k,o,(0:Nat)), ?_,⟨⟨hr,hlt,Nat.zero_le _,by simpa using k2, ?_⟩,rfl⟩,fun(y:Nat×List Gap×Nat) hy=> ?_⟩
  ·repeat' first|exact rfl|apply And.intro|exact(Int.add_zero _).symm|omega|dsimp only;omega
  ·simpa[Um] using k3
  obtain⟨k',o,j⟩:=y
  obtain⟨⟨_,i1,i2,i3,i4⟩,hkk⟩:=hy
  have hkk:k'=k:=hkk
  subst hkk
  dsimp only at i1 i2 i3 i4
  have ho:Jnr (O.getD k' Km).2.2.2.1:=(hr.ord (O.getD k' Km) (Jd hlt)).span
  have hn:Um (O.getD k' Km)≤48∧(Um (O.getD k' Km):Int)=(O.getD k' Km).2.2.2.1.2-(O.getD k' Km).2.2.2.1.1:=by
   have:=ho.mid;have:=ho.len
   unfold Um
   constructor<;>omega
  have b1:=ho.lo
  have b2:=ho.hi
  refine⟨fun h2=> ?_,fun h2=> ?_⟩
  ·have h2:(O.getD k' Km).2.2.2.1.1+(j:Int)<(O.getD k' Km).2.2.2.1.2:=of_decide_eq_true h2
   have hj:Um (O.getD k' Km)-j=(Um (O.getD k' Km)-(j+1))+1:=by omega
   rw[hj,Df] at i4
   have hB: -9223372036854775808≤(O.getD k' Km).2.2.2.1.1+(j:Int)+1∧(O.getD k' Km).2.2.2.1.1+(j:Int)+1≤9223372036854775807:=by omega
   have hc:(O.getD k' Km).2.2.2.1.1+(j:Int)+1=(O.getD k' Km).2.2.2.1.1+((j+1:Nat):Int):=by omega
   refine⟨fun h3=>⟨fun _=>hr,fun h4=>⟨by dsimp only;omega,fun f=>(by cases f),fun _=>⟨hB,(k',o++[((O.getD k' Km).1,(O.getD k' Km).2.2.2.1.1+(j:Int))],j+1), ?_,⟨⟨hr,hlt,by dsimp only;omega,by simp;omega, ?_⟩,rfl⟩,by dsimp only;omega⟩⟩,fun h4=>⟨fun f=>(by cases f),fun _=>⟨hB,(k',o,j+1), ?_,⟨⟨hr,hlt,by dsimp only;omega,by dsimp only;omega, ?_⟩,rfl⟩,by dsimp only;omega⟩⟩⟩,fun h3=>⟨fun f=>(by cases f),fun _=>⟨hB,(k',o,j+1), ?_,⟨⟨hr,hlt,by dsimp only;omega,by dsimp only;omega, ?_⟩,rfl⟩,by dsimp only;omega⟩⟩⟩
   ·repeat' first|exact rfl|apply And.intro|exact(Int.add_zero _).symm|omega|dsimp only;omega
   ·have h3:J4 (O.getD k' Km) ((O.getD k' Km).2.2.2.1.1+(j:Int))=true:=h3
    have h4:(bif decide ((O.getD k' Km).2.2.2.1.1+(j:Int)<u) then decide (K6 M (O.getD k' Km).1 ((O.getD k' Km).2.2.2.1.1+(j:Int))<0) else false)=true:=h4
    rw[Jyn] at h4
    rw[h3,Bool.true_and,h4,hc] at i4
    rw[←i4]
    simp
   ·repeat' first|exact rfl|apply And.intro|exact(Int.add_zero _).symm|omega|dsimp only;omega
   ·have h3:J4 (O.getD k' Km) ((O.getD k' Km).2.2.2.1.1+(j:Int))=true:=h3
    have h4:(bif decide ((O.getD k' Km).2.2.2.1.1+(j:Int)<u) then decide (K6 M (O.getD k' Km).1 ((O.getD k' Km).2.2.2.1.1+(j:Int))<0) else false)=false:=h4
    rw[Jyn] at h4
    rw[h3,Bool.true_and,h4,hc] at i4
    rw[←i4]
    simp
   ·repeat' first|exact rfl|apply And.intro|exact(Int.add_zero _).symm|omega|dsimp only;omega
   ·have h3:J4 (O.getD k' Km) ((O.getD k' Km).2.2.2.1.1+(j:Int))=false:=h3
    rw[h3,hc] at i4
    rw[←i4]
    simp
  ·have h2:¬(O.getD k' Km).2.2.2.1.1+(j:Int)<(O.getD k' Km).2.2.2.1.2:=of_decide_eq_false h2
   have hj:Um (O.getD k' Km)-j=0:=by omega
   rw[hj,Df] at i4
   refine⟨⟨by dsimp only;omega,by dsimp only;omega⟩,(k'+1,o), ?_,⟨by dsimp only;omega,by dsimp only;omega,by simpa using i4⟩,by dsimp only;omega⟩
   repeat' first|exact rfl|apply And.intro|exact(Int.add_zero _).symm|omega|dsimp only;omega
 ·obtain⟨k,o⟩:=x
  have hlt:¬k<O.length:=by simpa using h1
  obtain⟨k1,k2,k3⟩:=hk
  dsimp only at k1 k2 k3
  have:k=O.length:=by omega
  rw[this,List.drop_length,Kr,List.append_nil] at k3
  exact⟨rfl,k3⟩
abbrev W54 [Sx.Dr]:=W53.add K71
abbrev aE:AK:=aEv
abbrev Jps (T U:TypeId) (s:Sch) (l:List s.T) (g:Bool) (q:Tup [(g,s)]→List Prop) (f:Tup [(g,s)]→Bool):Ann:={X:=Nat,σ:=fun k=>⟨3,[(1, .one (.fv 1)),(5, .one (.sl 2)),(8, .one (.sl 0)),(9, .one (.int .i64 l.length)),(10, .one (.int .i64 k))],[(0, .imm T s l),(1, .afn [(g,s)] Bo q f),(2, .own U s ((l.take k).filter fun x=>f (x,())))]⟩,inv:=fun k=>k≤l.length,mu:=fun k=>l.length-k}
def Kfc:Con:={args:=[.val false (.list 235 Hr), .fn [(true,Hr)] Bo],ress:=[(false, .list 235 Hr)],owns:=[true],pre:=fun(l,(q,_),_)=>[l.length≤1000000,∀x∈l,Uk (q (x,()))],spec:=fun(l,(_,f),_)=>(l.filter fun x=>f (x,()),())}
theorem Jgn {α:Type} {p:α→Bool} {l:List α} {k:Nat} (h:k≤l.length):((l.take k).filter p).length≤k:=by
 have:=List.length_filter_le p (l.take k)
 rw[List.length_take] at this
 omega
def J5q (a:Per×Unit→Bool) (b:Nat) (c:List Per):=List.filter (fun(x:Per)=>a (x,PUnit.unit)) (List.take b c)
def Ki0 (a:Nat) (b:List Per) (c:Nat):=a≤List.length b∧J3k b a c
theorem Kq0 [Sx.Dr]:Ok Tryz.prog 243 Kfc:=okW W54 Tryz.f243 (fun xx=>X6 (Jps 235 235 Hr xx.1 true xx.2.1.1 xx.2.1.2)) fun xx=>by
 obtain⟨(l:List Per),⟨(q:Per×Unit→List Prop),(f:Per×Unit→Bool)⟩,_⟩:=xx
 refine(by kernel_rfl:(Z51 l→Kb7 l q→∃(x:Nat),Si (Ln l) (0=Nc x∧Sf l ((fun(x:Per×PUnit)=>q x)=q∧(fun(x:Per×PUnit)=>f x)=f∧List.length (J5q f x l)=0))∧x≤List.length l∧∀(x:Nat),x≤List.length l→Br (J0t x l) (Tw (Bd (Nc x) (Ln l))∧Kb3 q l x∧Br (Km9 f l x) ((List.length (J5q f x l)+1)*40≤140737488355328∧Z22 x∧∃(y:Nat),Si (Ln l) (V0 x y∧Sf l ((fun(x:Per×PUnit)=>q x)=q∧(fun(x:Per×PUnit)=>f x)=f∧J5q f x l++[Kik l x]=J5q f y l))∧Ki0 y l x) (Z22 x∧∃(y:Nat),Si (Ln l) (V0 x y∧Sf l ((fun(x:Per×PUnit)=>q x)=q∧(fun(x:Per×PUnit)=>f x)=f∧J5q f x l=J5q f y l))∧Ki0 y l x)) (J5q f x l=List.filter (fun(x:Per)=>f (x,PUnit.unit)) l))=_).mp ?_
 delta Z22 Z51 J0t V0 J5u J3k J5q Ki0 Kb7 Kik Kb5 Km9 Kb3 Br Iw Bd Tw Sf Si Ln Nc B0 E2
 intro hb hq
 refine⟨(0:Nat),⟨rfl,rfl,rfl,rfl,rfl,by simp⟩,Nat.zero_le _,fun(k:Nat) hk=>⟨fun h=> ?_,fun h=> ?_⟩⟩
 ·have hlt:k<l.length:=by simpa using h
  have hf:=Jgn (p:=fun x=>f (x,())) hk
  have ht:=Uu (d:=Jj6) hlt
  refine⟨by omega,hq (l.getD k Jj6) (Jd hlt),fun h1=> ?_,fun h1=> ?_⟩
  ·have h1:f (l.getD k Jj6,())=true:=h1
   refine⟨by show((List.filter (fun x=>f (x,())) (List.take k l)).length+1)*40≤_;omega,by omega,(k+1:Nat),⟨rfl,by simp,rfl,rfl,rfl, ?_⟩,by omega,by omega⟩
   rw[←ht,List.filter_append,List.filter_cons,if_pos h1];rfl
  ·have h1:f (l.getD k Jj6,())=false:=h1
   refine⟨by omega,(k+1:Nat),⟨rfl,by simp,rfl,rfl,rfl, ?_⟩,by omega,by omega⟩
   rw[←ht,List.filter_append,List.filter_cons,if_neg (by rw[h1];decide)];simp
 ·have hlt:¬k<l.length:=by simpa using h
  rw[List.take_of_length_le (by omega)]
abbrev W55 [Sx.Dr]:=W54.add Kq0
def J46:Con:={args:=[.val true Hr],ress:=[Bo],owns:=[],pre:=fun _=>[],spec:=fun(x,_)=>(x.2.2,())}
theorem Kps [Sx.Dr] (x:Per):wpF Tryz.prog W55.g (na ()) Tryz.f261 J46 (x,()):=by
 refine(by kernel_rfl:(x.2.2=x.2.2)=_).mp ?_
 rfl
theorem Kqu [Sx.Dr]:Ok Tryz.prog 261 J46:=Vx mixed W55.ok (by kernel_rfl) (by kernel_rfl) na fun xx=>Kps xx.1
abbrev W56 [Sx.Dr]:=W55.add Kqu
def De (Q:List Per):List Per:=Q.filter fun x=>x.2.2
def Ke0:Con:={args:=[Jb7],ress:=[(false, .list 235 Hr)],owns:=[true],pre:=fun(r,_)=>[Jn r],spec:=fun((_,_,_,_,_,_,Q),_)=>(De Q,())}
theorem Krj [Sx.Dr]:Ok Tryz.prog 207 Ke0:=okW W56 Tryz.f207 na fun xx=>by
 obtain⟨⟨(tk:Int),(st:Int),(S:List Sta),(O:List Ord),(M:List Met),(X:List Out),(Q:List Per)⟩,_⟩:=xx
 refine(by kernel_rfl:(Jw tk st S O M X Q→Kne Q∧List.filter (fun(x:Per)=>x.2.2) Q=De Q)=_).mp ?_
 delta Z51 Z74 Jw Kne
 intro hr
 have nQ:Q.length≤16:=hr.nQ
 exact⟨⟨by omega,fun _ _=>trivial⟩,rfl⟩
abbrev W57 [Sx.Dr]:=W56.add Krj
theorem Jed {Q:List Per}:(De Q).length≤Q.length:=List.length_filter_le _ _
theorem Jmm {Q:List Per} {x:Per} (h:x∈De Q):x∈Q:=(List.mem_filter.1 h).1
def Keu:Con:={args:=[.val true Hr, .ref 188 Zn],ress:=[Bo],owns:=[],pre:=fun _=>[],spec:=fun(x,y,_)=>(x.2.1.toList==y.1.toList,())}
theorem Kpt [Sx.Dr] (x:Per) (y:Out):wpF Tryz.prog W57.g (na ()) Tryz.f244 Keu (x,y,()):=by
 refine(by kernel_rfl:(Lb x.2.1 y.1=Lb x.2.1 y.1)=_).mp ?_
 delta Lb
 rfl
theorem Kqz [Sx.Dr]:Ok Tryz.prog 244 Keu:=Vx mixed W57.ok (by kernel_rfl) (by kernel_rfl) na fun xx=>Kpt xx.1 xx.2.1
abbrev W58 [Sx.Dr]:=W57.add Kqz
def Kue:Con:={args:=[.val true Hr, .ref 105 Jle, .ref 3 sI],ress:=[Bo],owns:=[],pre:=fun(x,r,_)=>[Jn r,0≤J7 r.2.2.2.2.2.1 x.2.1],spec:=fun(x,(_,_,_,_,_,X,_),h,_)=>(decide ((Dd X x.2.1).2.2.1.2≤h),())}
theorem Kqx [Sx.Dr]:Ok Tryz.prog 246 Kue:=okW W58 Tryz.f246 na fun xx=>by
 obtain⟨⟨(a:ByteArray),(b:ByteArray),(c:Bool)⟩,⟨(tk:Int),(st:Int),(S:List Sta),(O:List Ord),(M:List Met),(X:List Out),(Q:List Per)⟩,(h:Int),_⟩:=xx
 refine(by kernel_rfl:(Jw tk st S O M X Q→0≤J7 X b→(Z58 X∧0≤J7 X b)∧decide ((Dd X b).2.2.1.2≤h)=decide ((Dd X b).2.2.1.2≤h))=_).mp ?_
 delta Z58 Z74 Jw
 intro hr h
 have nX:X.length≤16:=hr.nX
 repeat' first|assumption|exact rfl|trivial|omega|apply And.intro|intro _
abbrev W59 [Sx.Dr]:=W58.add Kqx
def Kul:Con:={args:=[aI, .ref 105 Jle, .ref 9 .str, .ref 9 .str, .ref 3 sI],ress:=[Bo],owns:=[],pre:=fun(_,r,a,b,_)=>[Jn r,0≤J2 r.2.2.1 a,0≤J2 r.2.2.1 b],spec:=fun(h,(_,_,S,O,_,X,_),a,b,p,_)=>(decide (min (Xy S O X a h) (Xy S O X b h)<p),())}
theorem Kq4 [Sx.Dr]:Ok Tryz.prog 239 Kul:=okW W59 Tryz.f239 na fun xx=>by
 obtain⟨(h:Int),⟨(tk:Int),(st:Int),(S:List Sta),(O:List Ord),(M:List Met),(X:List Out),(Q:List Per)⟩,(a:ByteArray),(b:ByteArray),(p:Int),_⟩:=xx
 refine(by kernel_rfl:(Jw tk st S O M X Q→Z25 S a→Z25 S b→(Jw tk st S O M X Q∧Z25 S a∧Jw tk st S O M X Q∧Z25 S b)∧decide (min (Xy S O X a h) (Xy S O X b h)<p)=decide (min (Xy S O X a h) (Xy S O X b h)<p))=_).mp ?_
 delta Z25 Z74 Jw
 intro hr h1 h2
 repeat' first|assumption|exact rfl|trivial|omega|apply And.intro|intro _
abbrev W60 [Sx.Dr]:=W59.add Kq4
def Kuk:Con:={args:=[aI, .ref 105 Jle, .ref 9 .str, .ref 3 sI],ress:=[Bo],owns:=[],pre:=fun(_,r,a,_)=>[Jn r],spec:=fun(h,(_,_,_,O,_),a,p,_)=>(decide (p<Vd O a h),())}
theorem Kq2 [Sx.Dr]:Ok Tryz.prog 241 Kuk:=okW W60 Tryz.f241 na fun xx=>by
 obtain⟨(h:Int),⟨(tk:Int),(st:Int),(S:List Sta),(O:List Ord),(M:List Met),(X:List Out),(Q:List Per)⟩,(a:ByteArray),(p:Int),_⟩:=xx
 refine(by kernel_rfl:(Jw tk st S O M X Q→Jw tk st S O M X Q∧decide (p<Vd O a h)=decide (p<Vd O a h))=_).mp ?_
 delta Z74 Jw
 intro hr
 repeat' first|assumption|exact rfl|trivial|omega|apply And.intro|intro _
abbrev W61 [Sx.Dr]:=W60.add Kq2
def Jt0 (f:Int→Bool):Int→Nat→Bool
 |_,0=>false
 |a,n+1=>bif f a then true else Jt0 f (a+1) n
def Hl (s:Int×Int) (f:Int→Bool):Bool:=Jt0 f s.1 (s.2-s.1).toNat
def Kfp:Con:={args:=[.val true H6, .fn [I] Bo],ress:=[Bo],owns:=[],pre:=fun(s,(q,_),_)=>[0≤s.1∧s.1≤999999999,0≤s.2∧s.2≤999999999,∀h,s.1≤h→h<s.2→Uk (q (h,()))],spec:=fun(s,(_,f),_)=>(Hl s fun h=>f (h,()),())}
abbrev J29 (a b:Int) (q:Int×Unit→List Prop) (f:Int×Unit→Bool):Ann:={X:=Nat,σ:=fun k=>⟨2,[(1, .one (.fv 1)),(2, .one (.ptr 0 0)),(5, .one (.bool false)),(11, .one (.int .i64 (b-a))),(12, .one (.int .i64 k))],[(0, .box 117 [.int .i64 a, .int .i64 b]),(1, .afn [I] Bo q f)]⟩,inv:=fun k=>k≤(b-a).toNat∧Hl (a,b) (fun h=>f (h,()))=Jt0 (fun h=>f (h,())) (a+k) ((b-a).toNat-k),mu:=fun k=>(b-a).toNat-k}
def Kdd (a:Int):=0≤a∧a≤999999999
def Kmi (a:Nat) (b c:Int) (d:Int×Unit→Bool):=a≤Int.toNat (b-c)∧(Hl (c,b) fun(h:Int)=>d (h,PUnit.unit))=Jt0 (fun(h:Int)=>d (h,PUnit.unit)) (c+Nc a) (Int.toNat (b-c)-a)
theorem Kq6 [Sx.Dr]:Ok Tryz.prog 237 Kfp:=okW W61 Tryz.f237 (fun xx=>X6 (J29 xx.1.1 xx.1.2 xx.2.1.1 xx.2.1.2)) fun xx=>by
 obtain⟨⟨(a:Int),(b:Int)⟩,⟨(q:Int×Unit→List Prop),(f:Int×Unit→Bool)⟩,_⟩:=xx
 refine(by kernel_rfl:(Kdd a→Kdd b→(∀(h:Int),a≤h→h<b→Uk (q (h,PUnit.unit)))→Iw (b-a)∧∃(x:Nat),Sf false (Si (b-a) (0=Nc x∧Si a (Si b ((fun(x:Int×PUnit)=>q x)=q∧(fun(x:Int×PUnit)=>f x)=f))))∧Kmi x b a f∧∀(x:Nat),Kmi x b a f→Br (decide (Nc x<b-a)) ((Iw (a+Nc x)∧Uk (q (a+Nc x,PUnit.unit)))∧Br (f (a+Nc x,PUnit.unit)) (true=Hl (a,b) fun(h:Int)=>f (h,PUnit.unit)) (Z22 x∧∃(y:Nat),Sf false (Si (b-a) (V0 x y∧Si a (Si b ((fun(x:Int×PUnit)=>q x)=q∧(fun(x:Int×PUnit)=>f x)=f))))∧Kmi y b a f∧Int.toNat (b-a)-y<Int.toNat (b-a)-x)) (false=Hl (a,b) fun(h:Int)=>f (h,PUnit.unit)))=_).mp ?_
 delta Z22 V0 Kdd Kmi Br Iw Sf Si Nc
 intro h1 h2 hq
 refine⟨by omega,(0:Nat),⟨rfl,rfl,rfl,rfl,rfl,rfl,rfl⟩,⟨Nat.zero_le _,by simp[Hl]⟩,fun(k:Nat) hk=>⟨fun h=> ?_,fun h=> ?_⟩⟩
 ·have h:(k:Int)<b-a:=of_decide_eq_true h
  obtain⟨k1,k2⟩:=hk
  have hj:(b-a).toNat-k=((b-a).toNat-(k+1))+1:=by omega
  rw[hj,Jt0] at k2
  refine⟨⟨by omega,hq (a+k) (by omega) (by omega)⟩,fun h3=> ?_,fun h3=>⟨by omega,(k+1:Nat),⟨rfl,rfl,by simp,rfl,rfl,rfl,rfl⟩,⟨by omega, ?_⟩,by omega⟩⟩
  ·rw[k2]
   show true=bif f (a+(k:Int),PUnit.unit) then true else _
   rw[h3];rfl
  ·rw[k2]
   show(bif f (a+(k:Int),PUnit.unit) then true else _)=_
   rw[h3,Int.natCast_add,←Int.add_assoc];rfl
 ·have h:¬(k:Int)<b-a:=of_decide_eq_false h
  have hj:(b-a).toNat-k=0:=by omega
  rw[hk.2,hj];rfl
abbrev W62 [Sx.Dr]:=W61.add Kq6
def Jng (S:List Sta) (vs:List Int):Int:=Jg [Ki (vs.getD 1 0) 1 1000,bif decide ((6:Int)≤S.length) then 5 else 0]
def Kfq:Con:={args:=[Jb7,aEv],ress:=[I],owns:=[],pre:=fun(r,e,_)=>[Jn r,2≤e.2.2.2.1.length],spec:=fun((tk,st,S,O,M,X,Q),(n,k,ns,vs,tx),_)=>(Jng S vs,())}
def Z59 (a:Li):=2≤List.length a
theorem Ksy [Sx.Dr]:Ok Tryz.prog 148 Kfq:=okW W62 Tryz.f148 na fun xx=>by
 obtain⟨⟨(tk:Int),(st:Int),(S:List Sta),(O:List Ord),(M:List Met),(X:List Out),(Q:List Per)⟩,⟨(n:Int),(k:ByteArray),(ns:List ByteArray),(vs:List Int),(tx:ByteArray)⟩,_⟩:=xx
 refine(by kernel_rfl:(Jw tk st S O M X Q→Z59 vs→T2 (Z33 vs) (2≤1000000)∧Jg [Ki (Zh vs) 1 1000,bif decide (6≤Ln S) then 5 else 0]=Jng S vs)=_).mp ?_
 delta Z33 Z59 Z74 Zh Jw Bd T2 Ln
 intro hr h
 repeat' first|assumption|exact rfl|trivial|omega|apply And.intro|intro _
abbrev W63 [Sx.Dr]:=W62.add Ksy
def Jpj (vs:List Int):Int:=Ki (vs.getD 1 0) 0 1000
def Kfs:Con:={args:=[Jb7,aEv],ress:=[I],owns:=[],pre:=fun(r,e,_)=>[2≤e.2.2.2.1.length],spec:=fun((tk,st,S,O,M,X,Q),(n,k,ns,vs,tx),_)=>(Jpj vs,())}
def Jsc (a:Li):=Tw (Z33 a)
theorem Ksu [Sx.Dr]:Ok Tryz.prog 152 Kfs:=okW W63 Tryz.f152 na fun xx=>by
 obtain⟨⟨(tk:Int),(st:Int),(S:List Sta),(O:List Ord),(M:List Met),(X:List Out),(Q:List Per)⟩,⟨(n:Int),(k:ByteArray),(ns:List ByteArray),(vs:List Int),(tx:ByteArray)⟩,_⟩:=xx
 refine(by kernel_rfl:(Z59 vs→Jsc vs∧Ki (Zh vs) 0 1000=Jpj vs)=_).mp ?_
 delta Z33 Z59 Jsc Zh Bd Tw Ln
 intro h
 repeat' first|assumption|exact rfl|trivial|omega|apply And.intro|intro _
abbrev W64 [Sx.Dr]:=W63.add Ksu
def Jix (e:Ev):Int:=Jg [bif (e.2.2.1.getD 1 Ja).toList==(e.2.2.1.getD 2 Ja).toList then 24 else 0,Zl e,Ki (e.2.2.2.1.getD 3 0) 1 1000]
def Jxd (S:List Sta) (O:List Ord) (X:List Out) (e:Ev):Bool:=Hl (V1 e) fun h=>decide (min (Xy S O X (e.2.2.1.getD 1 Ja) h) (Xy S O X (e.2.2.1.getD 2 Ja) h)<e.2.2.2.1.getD 3 0)
def Jc0 (S:List Sta) (O:List Ord) (X:List Out) (e:Ev):Int:=if Jix e≠0 then Jix e else Jg [bif Jxd S O X e then 4 else 0,bif decide ((32:Int)≤O.length) then 5 else 0]
def Kfu:Con:={args:=[Jb7,aEv],ress:=[I],owns:=[],pre:=fun(r,e,_)=>[Jn r,EvV e,e.2.2.1.length=3,e.2.2.2.1.length=4,0≤J2 r.2.2.1 (e.2.2.1.getD 1 Ja),0≤J2 r.2.2.1 (e.2.2.1.getD 2 Ja)],spec:=fun((tk,st,S,O,M,X,Q),(n,k,ns,vs,tx),_)=>(Jc0 S O X (n,k,ns,vs,tx),())}
def Z27 (a:Li):=Bd 3 (Ln a)
def Z53 (a:Li):=List.length a=4
def Z95 (a:Ls):=Bd 1 (Ln a)
def Z96 (a:Li):=List.getD a 3 0
def Z99 (a:Ls):=List.getD a 2 B0
def J0u (a:Li):=Tw (Z27 a)
def J5w (a:Ls):=Bd 2 (Ln a)
def Lp (a:Ls):=List.getD a 1 B0
def J9j (a:Ls):=List.getD a 2 Ja
def Jla (a:Ls):=List.getD a 1 Ja
def Jut (a:Ls):=List.length a=3
def J0p (a:List Sta) (b:Ls):=J2 a (Lp b)
def J5n (a:List Sta) (b:Ls):=0≤J0p a b
def Kcq (a:List Sta) (b:Ls):=0≤J2 a (Jla b)
def Ko2 (a:Ls):=Lb (Lp a) (Z99 a)
def Kyc (a:Ls) (b:Int) (c:Bt) (d:Li) (e:Bt):=Jg [bif Ko2 a then 24 else 0,Zl (b,c,a,d,e),Ki (Z96 d) 1 1000]
theorem Kss [Sx.Dr]:Ok Tryz.prog 154 Kfu:=okW W64 Tryz.f154 na fun xx=>by
 obtain⟨⟨(tk:Int),(st:Int),(S:List Sta),(O:List Ord),(M:List Met),(X:List Out),(Q:List Per)⟩,⟨(n:Int),(k:ByteArray),(ns:List ByteArray),(vs:List Int),(tx:ByteArray)⟩,_⟩:=xx
 refine(by kernel_rfl:(Jw tk st S O M X Q→EvV (n,k,ns,vs,tx)→Jut ns→Z53 vs→Kcq S ns→0≤J2 S (J9j ns)→T2 (Z95 ns) (T2 (J5w ns) (J0u vs))∧(Z60 vs∧EvV (n,k,ns,vs,tx)∧3≤1000000)∧Br (Kyc ns n k vs tx !=0) (Kyc ns n k vs tx=Jc0 S O X (n,k,ns,vs,tx)) ((Z60 vs∧(0≤(Z63 n k ns vs tx).1∧(Z63 n k ns vs tx).1≤999999999)∧(0≤(Z63 n k ns vs tx).2∧(Z63 n k ns vs tx).2≤999999999)∧∀(h:Int),(Z63 n k ns vs tx).1≤h→h<(Z63 n k ns vs tx).2→Jw tk st S O M X Q∧J5n S ns∧0≤J2 S (Z99 ns))∧2≤1000000∧Jg [bif Hl (E2 (Z63 n k ns vs tx)) fun(h:Int)=>decide (min (Xy S O X (Lp ns) h) (Xy S O X (Z99 ns) h)<Z96 vs) then 4 else 0,bif decide (32≤Ln O) then 5 else 0]=Jc0 S O X (n,k,ns,vs,tx)))=_).mp ?_
 delta Z27 Z53 Z60 Z63 Z74 Z95 Z96 Z99 J0u J5w Lp J9j Jla Jut Jw J0p J5n Kcq Ko2 Kyc Br Bd T2 Tw Ln B0 Lb E2
 intro hr hv hn hl h1 h2
 have sp:(0≤(V1 (n,k,ns,vs,tx)).1∧(V1 (n,k,ns,vs,tx)).1≤999999999)∧0≤(V1 (n,k,ns,vs,tx)).2∧(V1 (n,k,ns,vs,tx)).2≤999999999:=⟨hv (vs.getD 1 0) (Jd (show 1<vs.length by omega)),hv (vs.getD 2 0) (Jd (show 2<vs.length by omega))⟩
 refine⟨by omega,⟨by omega,hv,by omega⟩,fun h=> ?_,fun h=>⟨⟨by omega,sp.1,sp.2,fun _ _ _=>⟨hr,h1,h2⟩⟩,by omega, ?_⟩⟩
 ·have h:Jix (n,k,ns,vs,tx)≠0:=bne_iff_ne.1 h
  unfold Jc0;rw[if_pos h];rfl
 ·have h:¬Jix (n,k,ns,vs,tx)≠0:=by have:=bne_eq_false_iff_eq.1 h;exact fun f=>f this
  unfold Jc0;rw[if_neg h];rfl
abbrev W65 [Sx.Dr]:=W64.add Kss
def Jnh (O:List Ord) (M:List Met) (ns:List ByteArray) (vs:List Int):Int:=Jg [bif decide (vs.getD 0 0≤vs.getD 1 0) then 11 else 0,bif !Ks (X9 O (ns.getD 0 Ja)).2.2.2.1 (vs.getD 1 0) then 14 else 0,bif !J4 (X9 O (ns.getD 0 Ja)) (vs.getD 1 0) then 23 else 0,bif decide (0≤K6 M (X9 O (ns.getD 0 Ja)).1 (vs.getD 1 0)) then 9 else 0,bif (bif decide ((X9 O (ns.getD 0 Ja)).2.2.2.2.1<vs.getD 2 0) then true else decide (vs.getD 2 0<vs.getD 3 0)) then 3 else 0]
def Kfv:Con:={args:=[Jb7,aEv],ress:=[I],owns:=[],pre:=fun(r,e,_)=>[Jn r,1≤e.2.2.1.length,4≤e.2.2.2.1.length,0≤Kx r.2.2.2.1 (e.2.2.1.getD 0 Ja)],spec:=fun((tk,st,S,O,M,X,Q),(n,k,ns,vs,tx),_)=>(Jnh O M ns vs,())}
def Z56 (a:Li):=4≤List.length a
def Yf (a:Ls):=Bd 0 (Ln a)
def U2 (a:Ls):=List.getD a 0 B0
def Da (a:Ls):=List.getD a 0 Ja
def Xc (a:Ls):=1≤List.length a
def J9h (a:List Ord) (b:Ls):=X9 a (U2 b)
def Jr9 (a:List Ord) (b:Ls):=Kx a (U2 b)
def Kc1 (a:List Ord) (b:Ls):=(J9h a b).2.2
def J9d (a:List Ord) (b:Ls):=(Kc1 a b).2.2
def Kcy (a:List Ord) (b:Ls):=(Kc1 a b).2.1
def Jup (a:List Ord) (b:Ls):=0≤Kx a (Da b)
def Kot (a:Li):=decide (U7 a≤Zh a)
def Kos (a:Li):=decide (Jnp a<Z96 a)
def Kko (a:List Ord) (b:Ls):=((J9h a b).1,(J9h a b).2.1,(Kc1 a b).1,E2 (Kcy a b),(J9d a b).1,E2 (J9d a b).2)
theorem Ksp [Sx.Dr]:Ok Tryz.prog 157 Kfv:=okW W65 Tryz.f157 na fun xx=>by
 obtain⟨⟨(tk:Int),(st:Int),(S:List Sta),(O:List Ord),(M:List Met),(X:List Out),(Q:List Per)⟩,⟨(n:Int),(k:ByteArray),(ns:List ByteArray),(vs:List Int),(tx:ByteArray)⟩,_⟩:=xx
 refine(by kernel_rfl:(Jw tk st S O M X Q→Xc ns→Z56 vs→Jup O ns→T2 (Yf ns) (Z64 O∧0≤Jr9 O ns∧T2 (Z33 vs) (T2 (Z34 vs) (J0u vs)))∧T2 (Z36 vs) (Jw tk st S O M X Q∧5≤1000000)∧Jg [bif Kot vs then 11 else 0,bif !Ks (E2 (Kcy O ns)) (Zh vs) then 14 else 0,bif !J4 (Kko O ns) (Zh vs) then 23 else 0,bif decide (0≤K6 M (J9h O ns).1 (Zh vs)) then 9 else 0,bif bif decide ((J9d O ns).1<Jnp vs) then true else Kos vs then 3 else 0]=Jnh O M ns vs)=_).mp ?_
 delta Z27 Z33 Z34 Z36 Z56 Z64 Z74 Z96 J0u U7 Yf U2 Jnp Zh Da Xc Jw J9h Jr9 Kc1 J9d Kcy Jup Kot Kos Kko Bd T2 Tw Ln B0 E2
 intro hr h1 h2 h3
 have nO:O.length≤32:=hr.nO
 refine⟨⟨⟨by omega,by omega⟩,⟨by omega,by omega⟩,by omega,h3,by omega⟩,⟨by omega,by omega,hr,by omega⟩,rfl⟩
abbrev W66 [Sx.Dr]:=W65.add Ksp
def Jdm (O:List Ord) (ns:List ByteArray) (vs:List Int):Int:=bif (bif (X9 O (ns.getD 0 Ja)).2.2.2.2.2.2 != -1 then true else decide ((X9 O (ns.getD 0 Ja)).2.2.2.1.2≤vs.getD 0 0)) then 23 else 0
def J7t:Con:={args:=[Jb7,aEv],ress:=[I],owns:=[],pre:=fun(r,e,_)=>[Jn r,1≤e.2.2.1.length,1≤e.2.2.2.1.length,0≤Kx r.2.2.2.1 (e.2.2.1.getD 0 Ja)],spec:=fun((tk,st,S,O,M,X,Q),(n,k,ns,vs,tx),_)=>(Jdm O ns vs,())}
def Z65 (a:Li):=1≤List.length a
def Kmw (a:Ls) (b:List Ord):=T2 (Yf a) (Z64 b∧0≤Jr9 b a)
def K0i (a:List Ord) (b:Ls):=(J9d a b).2.2 !=Z75
theorem Ksn [Sx.Dr]:Ok Tryz.prog 159 J7t:=okW W66 Tryz.f159 na fun xx=>by
 obtain⟨⟨(tk:Int),(st:Int),(S:List Sta),(O:List Ord),(M:List Met),(X:List Out),(Q:List Per)⟩,⟨(n:Int),(k:ByteArray),(ns:List ByteArray),(vs:List Int),(tx:ByteArray)⟩,_⟩:=xx
 refine(by kernel_rfl:(Jw tk st S O M X Q→Xc ns→Z65 vs→Jup O ns→Kmw ns O∧Tw (K0i O ns=false→Z36 vs)∧(bif bif K0i O ns then true else decide ((Kcy O ns).2≤U7 vs) then 23 else 0)=Jdm O ns vs)=_).mp ?_
 delta Z36 Z64 Z65 Z74 Z75 U7 Yf U2 Da Xc Jw J9h Jr9 Kc1 J9d Kcy Jup Kmw K0i Bd T2 Tw Ln B0
 intro hr h1 h2 h3
 have nO:O.length≤32:=hr.nO
 repeat' first|assumption|exact rfl|trivial|omega|apply And.intro|intro _
abbrev W67 [Sx.Dr]:=W66.add Ksn
def Jiw (S:List Sta) (e:Ev):Int:=Jg [Zl e,bif decide ((Hw S (e.2.2.1.getD 1 Ja)).2.1≤e.2.2.2.1.getD 3 0) then 3 else 0]
def Jcz (S:List Sta) (O:List Ord) (X:List Out) (e:Ev):Int:=if Jiw S e≠0 then Jiw S e else Jg [bif Hl (V1 e) (fun h=>decide (e.2.2.2.1.getD 3 0<Vd O (e.2.2.1.getD 1 Ja) h)) then 24 else 0,bif decide ((16:Int)≤X.length) then 5 else 0]
def Kft:Con:={args:=[Jb7,aEv],ress:=[I],owns:=[],pre:=fun(r,e,_)=>[Jn r,EvV e,e.2.2.1.length=2,e.2.2.2.1.length=4,0≤J2 r.2.2.1 (e.2.2.1.getD 1 Ja)],spec:=fun((tk,st,S,O,M,X,Q),(n,k,ns,vs,tx),_)=>(Jcz S O X (n,k,ns,vs,tx),())}
def Jsb (a:Ls):=List.length a=2
def Kzg (a:Int) (b:Bt) (c:Ls) (d:Li) (e:Bt) (f:List Sta):=Jg [Zl (a,b,c,d,e),bif decide ((Hw f (Lp c)).2.1≤Z96 d) then 3 else 0]
theorem Ksl [Sx.Dr]:Ok Tryz.prog 161 Kft:=okW W67 Tryz.f161 na fun xx=>by
 obtain⟨⟨(tk:Int),(st:Int),(S:List Sta),(O:List Ord),(M:List Met),(X:List Out),(Q:List Per)⟩,⟨(n:Int),(k:ByteArray),(ns:List ByteArray),(vs:List Int),(tx:ByteArray)⟩,_⟩:=xx
 refine(by kernel_rfl:(Jw tk st S O M X Q→EvV (n,k,ns,vs,tx)→Jsb ns→Z53 vs→Kcq S ns→T2 (Z95 ns) (J0u vs)∧(Z60 vs∧EvV (n,k,ns,vs,tx)∧Z52 S∧J5n S ns∧2≤1000000)∧Br (Kzg n k ns vs tx S !=0) (Kzg n k ns vs tx S=Jcz S O X (n,k,ns,vs,tx)) ((Z60 vs∧(0≤(Z63 n k ns vs tx).1∧(Z63 n k ns vs tx).1≤999999999)∧(0≤(Z63 n k ns vs tx).2∧(Z63 n k ns vs tx).2≤999999999)∧∀(h:Int),(Z63 n k ns vs tx).1≤h→h<(Z63 n k ns vs tx).2→Jw tk st S O M X Q)∧2≤1000000∧Jg [bif Hl (E2 (Z63 n k ns vs tx)) fun(h:Int)=>decide (Z96 vs<Vd O (Lp ns) h) then 24 else 0,bif decide (16≤Ln X) then 5 else 0]=Jcz S O X (n,k,ns,vs,tx)))=_).mp ?_
 delta Z27 Z52 Z53 Z60 Z63 Z74 Z95 Z96 J0u Lp Jsb Jla Jw J0p J5n Kcq Kzg Br Bd T2 Tw Ln B0 E2
 intro hr hv hn hl h1
 have sp:(0≤(V1 (n,k,ns,vs,tx)).1∧(V1 (n,k,ns,vs,tx)).1≤999999999)∧0≤(V1 (n,k,ns,vs,tx)).2∧(V1 (n,k,ns,vs,tx)).2≤999999999:=⟨hv (vs.getD 1 0) (Jd (show 1<vs.length by omega)),hv (vs.getD 2 0) (Jd (show 2<vs.length by omega))⟩
 have nS:S.length≤6:=hr.nS
 refine⟨by omega,⟨by omega,hv,by omega,h1,by omega⟩,fun h=> ?_,fun h=>⟨⟨by omega,sp.1,sp.2,fun _ _ _=>hr⟩,by omega, ?_⟩⟩
 ·have h:Jiw S (n,k,ns,vs,tx)≠0:=bne_iff_ne.1 h
  unfold Jcz;rw[if_pos h];rfl
 ·have h:¬Jiw S (n,k,ns,vs,tx)≠0:=by have:=bne_eq_false_iff_eq.1 h;exact fun f=>f this
  unfold Jcz;rw[if_neg h];rfl
abbrev W68 [Sx.Dr]:=W67.add Ksl
def Jdn (X:List Out) (Q:List Per) (ns:List ByteArray) (vs:List Int):Int:=Jg [bif decide (vs.getD 0 0≤(Dd X (ns.getD 0 Ja)).2.2.1.1) then 21 else 0,bif decide ((Dd X (ns.getD 0 Ja)).2.2.1.2≤vs.getD 0 0) then 23 else 0,bif decide ((0:Int)<((De Q).filter fun p=>p.2.1.toList==(Dd X (ns.getD 0 Ja)).1.toList).length) then 32 else 0]
def J7v:Con:={args:=[Jb7,aEv],ress:=[I],owns:=[],pre:=fun(r,e,_)=>[Jn r,1≤e.2.2.1.length,1≤e.2.2.2.1.length,0≤J7 r.2.2.2.2.2.1 (e.2.2.1.getD 0 Ja)],spec:=fun((tk,st,S,O,M,X,Q),(n,k,ns,vs,tx),_)=>(Jdn X Q ns vs,())}
def Kc9 (a:List Out) (b:Ls):=Dd a (U2 b)
def Jur (a:List Out) (b:Ls):=J7 a (U2 b)
def J3j (a:List Out) (b:Ls):=0≤J7 a (Da b)
def Kmv (a:Ls) (b:List Out):=T2 (Yf a) (Z58 b∧0≤Jur b a)
def Kln (a b:Int) (c:List Sta) (d:List Ord) (e:List Met) (f:List Out) (g:List Per):=Jw a b c d e f g∧List.length (De g)≤1000000∧∀(x:Per),x∈De g→True
theorem Ksi [Sx.Dr]:Ok Tryz.prog 164 J7v:=okW W68 Tryz.f164 na fun xx=>by
 obtain⟨⟨(tk:Int),(st:Int),(S:List Sta),(O:List Ord),(M:List Met),(X:List Out),(Q:List Per)⟩,⟨(n:Int),(k:ByteArray),(ns:List ByteArray),(vs:List Int),(tx:ByteArray)⟩,_⟩:=xx
 refine(by kernel_rfl:(Jw tk st S O M X Q→Xc ns→Z65 vs→J3j X ns→Kmv ns X∧Kln tk st S O M X Q∧T2 (Z36 vs) (T2 (Z36 vs) (3≤1000000))∧Jg [bif decide (U7 vs≤(Kc9 X ns).2.2.1.1) then 21 else 0,bif decide ((Kc9 X ns).2.2.1.2≤U7 vs) then 23 else 0,bif decide (0<Ln (List.filter (fun(x:Per)=>List.beq (ByteArray.toList x.2.1) (ByteArray.toList (Kc9 X ns).1)) (De Q))) then 32 else 0]=Jdn X Q ns vs)=_).mp ?_
 delta Z36 Z58 Z65 Z74 U7 Yf U2 Da Xc Jw Kc9 Jur J3j Kmv Kln Bd T2 Ln B0
 intro hr h1 h2 h3
 have nX:X.length≤16:=hr.nX
 have nQ:Q.length≤16:=hr.nQ
 have:=Jed (Q:=Q)
 refine⟨⟨by omega,by omega,by omega,h3⟩,⟨hr,by omega,fun _ _=>trivial⟩,by omega,rfl⟩
abbrev W69 [Sx.Dr]:=W68.add Ksi
def Jdo (X:List Out) (Q:List Per) (ns:List ByteArray) (vs:List Int):Int:=Jg [bif !Ks (Dd X (ns.getD 1 Ja)).2.2.1 (vs.getD 0 0) then 22 else 0,bif decide ((16:Int)≤Q.length) then 5 else 0]
def J7w:Con:={args:=[Jb7,aEv],ress:=[I],owns:=[],pre:=fun(r,e,_)=>[Jn r,2≤e.2.2.1.length,1≤e.2.2.2.1.length,0≤J7 r.2.2.2.2.2.1 (e.2.2.1.getD 1 Ja)],spec:=fun((tk,st,S,O,M,X,Q),(n,k,ns,vs,tx),_)=>(Jdo X Q ns vs,())}
def J0s (a:Ls):=2≤List.length a
theorem Ksg [Sx.Dr]:Ok Tryz.prog 166 J7w:=okW W69 Tryz.f166 na fun xx=>by
 obtain⟨⟨(tk:Int),(st:Int),(S:List Sta),(O:List Ord),(M:List Met),(X:List Out),(Q:List Per)⟩,⟨(n:Int),(k:ByteArray),(ns:List ByteArray),(vs:List Int),(tx:ByteArray)⟩,_⟩:=xx
 refine(by kernel_rfl:(Jw tk st S O M X Q→J0s ns→Z65 vs→0≤J7 X (Jla ns)→T2 (Z95 ns) (Z58 X∧0≤J7 X (Lp ns)∧T2 (Z36 vs) (2≤1000000))∧Jg [bif !Ks (E2 (Dd X (Lp ns)).2.2.1) (U7 vs) then 22 else 0,bif decide (16≤Ln Q) then 5 else 0]=Jdo X Q ns vs)=_).mp ?_
 delta Z36 Z58 Z65 Z74 Z95 U7 Lp J0s Jla Jw Bd T2 Ln B0 E2
 intro hr h1 h2 h3
 have nX:X.length≤16:=hr.nX
 repeat' first|assumption|exact rfl|trivial|omega|apply And.intro|intro _
abbrev W70 [Sx.Dr]:=W69.add Ksg
def Jpi (Q:List Per) (ns:List ByteArray):Int:=bif !(Jnw Q (ns.getD 0 Ja)).2.2 then 23 else 0
def Kfr:Con:={args:=[Jb7,aEv],ress:=[I],owns:=[],pre:=fun(r,e,_)=>[Jn r,1≤e.2.2.1.length,0≤U1 r.2.2.2.2.2.2 (e.2.2.1.getD 0 Ja)],spec:=fun((tk,st,S,O,M,X,Q),(n,k,ns,vs,tx),_)=>(Jpi Q ns,())}
def Jt5 (a:List Per) (b:Ls):=U1 a (U2 b)
def J3i (a:List Per) (b:Ls):=0≤U1 a (Da b)
theorem Ksd [Sx.Dr]:Ok Tryz.prog 169 Kfr:=okW W70 Tryz.f169 na fun xx=>by
 obtain⟨⟨(tk:Int),(st:Int),(S:List Sta),(O:List Ord),(M:List Met),(X:List Out),(Q:List Per)⟩,⟨(n:Int),(k:ByteArray),(ns:List ByteArray),(vs:List Int),(tx:ByteArray)⟩,_⟩:=xx
 refine(by kernel_rfl:(Jw tk st S O M X Q→Xc ns→J3i Q ns→T2 (Yf ns) (Z51 Q∧0≤Jt5 Q ns)∧(bif !(Jnw Q (U2 ns)).2.2 then 23 else 0)=Jpi Q ns)=_).mp ?_
 delta Z51 Z74 Yf U2 Da Xc Jw Jt5 J3i Bd T2 Ln B0
 intro hr h1 h3
 have nQ:Q.length≤16:=hr.nQ
 repeat' first|assumption|exact rfl|trivial|omega|apply And.intro|intro _
abbrev W71 [Sx.Dr]:=W70.add Ksd
def L7 (st:Int) (O:List Ord) (M:List Met) (X:List Out) (Q:List Per) (vs:List Int):Int:=bif (bif decide (vs.getD 1 0≤st) then true else decide (vs.getD 0 0<vs.getD 1 0)) then 14 else bif (bif decide ((0:Int)<(Kr M (vs.getD 1 0) O).length) then true else decide ((0:Int)<((De Q).filter fun p=>decide ((Dd X p.2.1).2.2.1.2≤vs.getD 1 0)).length)) then 32 else 0
def J7u:Con:={args:=[Jb7,aEv],ress:=[I],owns:=[],pre:=fun(r,e,_)=>[Jn r,2≤e.2.2.2.1.length],spec:=fun((tk,st,S,O,M,X,Q),(n,k,ns,vs,tx),_)=>(L7 st O M X Q vs,())}
def Kje (a:Li) (b:Int):=decide (Zh a≤b)
def Knr (a:Li) (b:Int):=Tw (Kje a b=false→Z36 a)
def Kma (a:Li) (b:Int):=bif Kje a b then true else decide (U7 a<Zh a)
theorem Ksb [Sx.Dr]:Ok Tryz.prog 171 J7u:=okW W71 Tryz.f171 na fun xx=>by
 obtain⟨⟨(tk:Int),(st:Int),(S:List Sta),(O:List Ord),(M:List Met),(X:List Out),(Q:List Per)⟩,⟨(n:Int),(k:ByteArray),(ns:List ByteArray),(vs:List Int),(tx:ByteArray)⟩,_⟩:=xx
 refine(by kernel_rfl:(Jw tk st S O M X Q→Z59 vs→Jsc vs∧Knr vs st∧Br (Kma vs st) (14=L7 st O M X Q vs) ((Jw tk st S O M X Q∧List.length (De Q)≤1000000∧∀(x:Per),x∈De Q→Jw tk st S O M X Q∧0≤J7 X x.2.1)∧Jw tk st S O M X Q∧(bif bif decide (0<Ln (Kr M (Zh vs) O)) then true else decide (0<Ln (List.filter (fun(x:Per)=>decide ((Dd X x.2.1).2.2.1.2≤Zh vs)) (De Q))) then 32 else 0)=L7 st O M X Q vs))=_).mp ?_
 delta Z33 Z36 Z59 Z74 U7 Jsc Zh Jw Kje Knr Kma Br Bd Tw Ln
 intro hr h1
 have nQ:Q.length≤16:=hr.nQ
 have:=Jed (Q:=Q)
 refine⟨by omega,⟨fun _=>by omega,fun _=>by omega⟩,fun h=> ?_,fun h=>⟨⟨hr,by omega,fun x hx=>⟨hr,hr.per x (Jmm hx)⟩⟩,hr, ?_⟩⟩
 ·unfold L7;rw[h];rfl
 ·unfold L7;rw[h];rfl
abbrev W72 [Sx.Dr]:=W71.add Ksb
abbrev Jz8 (pre:Reg→Ev→List Prop) (post:Reg→Ev→Reg):X7:={T? :=some 105,s:=Jle,args:=[aEv],ress:=[],pre:=fun r (e,_)=>pre r e,spec:=fun _ _=>(),post:=fun r (e,_)=>post r e}
def Jam (O:List Ord) (s:ByteArray) (v:Int):List Ord:=O.set (Kx O s).toNat ((X9 O s).1,(X9 O s).2.1,(X9 O s).2.2.1,(X9 O s).2.2.2.1,(X9 O s).2.2.2.2.1,(X9 O s).2.2.2.2.2.1,v)
def Je7 (X:List Out) (s:ByteArray) (v:Int):List Out:=X.set (J7 X s).toNat ((Dd X s).1,(Dd X s).2.1,((Dd X s).2.2.1.1,v),(Dd X s).2.2.2)
def Jan (Q:List Per) (s:ByteArray):List Per:=Q.set (U1 Q s).toNat ((Jnw Q s).1,(Jnw Q s).2.1,false)
def Jbv:Reg→Ev→Reg:=fun(tk,st,S,O,M,X,Q) (n,k,ns,vs,tx)=>(tk,st,S++[(ns.getD 0 Ja,vs.getD 1 0,0)],O,M,X,Q)
def Jyb:X7:=Jz8 (fun r e=>[Jn r,1≤e.2.2.1.length,2≤e.2.2.2.1.length]) Jbv
def Kns (a:List Sta) (b:Ls) (c:Li):=a++[(U2 b,Zh c,0)]
def Kmy (a:Ls) (b:Li) (c:List Sta):=T2 (Yf a) (T2 (Z33 b) ((List.length c+1)*32≤140737488355328))
theorem Kp9 [Sx.Dr] (tk st:Int) (S:List Sta) (O:List Ord) (M:List Met) (X:List Out) (Q:List Per) (n:Int) (k:ByteArray) (ns:List ByteArray) (vs:List Int) (tx:ByteArray):wpFO Tryz.prog W72.g (na ()) (fun _=>na ()) (Sx.look ([]:List (Nat×Func))) Tryz.f149 Jyb 105 (tk,st,S,O,M,X,Q) ((n,k,ns,vs,tx),()):=by
 refine(by kernel_rfl:(Jw tk st S O M X Q→Xc ns→Z59 vs→Kmy ns vs S∧Sf true (Sf 105 ((tk,st,Kns S ns vs,O,M,X,Q)=Jbv (Z74 tk st S O M X Q) (n,k,ns,vs,tx))))=_).mp ?_
 delta Z33 Z59 Z74 Yf U2 Zh Xc Jw Kns Kmy Bd T2 Sf Ln B0
 intro hr
 have nS:S.length≤6:=hr.nS
 have nO:O.length≤32:=hr.nO
 have nM:M.length≤10000:=hr.nM
 have nX:X.length≤16:=hr.nX
 have nQ:Q.length≤16:=hr.nQ
 intros
 repeat' first|assumption|exact rfl|trivial|omega|exact K4|exact U0|exact Up|exact Uz|apply And.intro|intro _
theorem Ksx [Sx.Dr]:Ok Tryz.prog 149 (X7.con Jyb):=Za (Ue mixed W72.ok (by kernel_rfl) (by kernel_rfl) (U4 (l:=([]:List (Nat×Func))) (by simp)) (fun xx yy=>na ()) (fun xx yy=>fun _=>na ()) fun T xx yy hT=>by obtain rfl:=hT _ rfl;exact Kp9 xx.1 xx.2.1 xx.2.2.1 xx.2.2.2.1 xx.2.2.2.2.1 xx.2.2.2.2.2.1 xx.2.2.2.2.2.2 yy.1.1 yy.1.2.1 yy.1.2.2.1 yy.1.2.2.2.1 yy.1.2.2.2.2)
abbrev W73 [Sx.Dr]:=W72.add Ksx
def F5:Reg→Ev→Reg:=fun(tk,st,S,O,M,X,Q) (n,k,ns,vs,tx)=>(tk,st,S.set (J2 S (ns.getD 0 Ja)).toNat ((Hw S (ns.getD 0 Ja)).1,(Hw S (ns.getD 0 Ja)).2.1,vs.getD 1 0),O,M,X,Q)
def Jx8:X7:=Jz8 (fun r e=>[Jn r,1≤e.2.2.1.length,2≤e.2.2.2.1.length,0≤J2 r.2.2.1 (e.2.2.1.getD 0 Ja)]) F5
def J5s (a:List Sta) (b:Ls):=J2 a (U2 b)
def K4g (a:List Sta) (b:Ls):=Gt a (J5s a b) Z13
theorem Kp8 [Sx.Dr] (tk st:Int) (S:List Sta) (O:List Ord) (M:List Met) (X:List Out) (Q:List Per) (n:Int) (k:ByteArray) (ns:List ByteArray) (vs:List Int) (tx:ByteArray):wpFO Tryz.prog W73.g (na ()) (fun _=>na ()) (Sx.look ([]:List (Nat×Func))) Tryz.f153 Jx8 105 (tk,st,S,O,M,X,Q) ((n,k,ns,vs,tx),()):=by
 refine(by kernel_rfl:(Jw tk st S O M X Q→Xc ns→Z59 vs→0≤J2 S (Da ns)→T2 (Yf ns) (Z52 S∧T2 (Z33 vs) (Tw (Bd (J5s S ns) (Ln S))))∧Sf true (Sf 105 ((tk,st,List.set S (Int.toNat (J5s S ns)) ((K4g S ns).1,(K4g S ns).2.1,Zh vs),O,M,X,Q)=F5 (Z74 tk st S O M X Q) (n,k,ns,vs,tx))))=_).mp ?_
 delta Z13 Z33 Z52 Z59 Z74 Yf U2 Zh Da Xc Jw J5s K4g Bd T2 Tw Sf Ln Gt B0
 intro hr
 have nS:S.length≤6:=hr.nS
 have nO:O.length≤32:=hr.nO
 have nM:M.length≤10000:=hr.nM
 have nX:X.length≤16:=hr.nX
 have nQ:Q.length≤16:=hr.nQ
 intros
 repeat' first|assumption|exact rfl|trivial|omega|exact K4|exact U0|exact Up|exact Uz|apply And.intro|intro _
theorem Kst [Sx.Dr]:Ok Tryz.prog 153 (X7.con Jx8):=Za (Ue mixed W73.ok (by kernel_rfl) (by kernel_rfl) (U4 (l:=([]:List (Nat×Func))) (by simp)) (fun xx yy=>na ()) (fun xx yy=>fun _=>na ()) fun T xx yy hT=>by obtain rfl:=hT _ rfl;exact Kp8 xx.1 xx.2.1 xx.2.2.1 xx.2.2.2.1 xx.2.2.2.2.1 xx.2.2.2.2.2.1 xx.2.2.2.2.2.2 yy.1.1 yy.1.2.1 yy.1.2.2.1 yy.1.2.2.2.1 yy.1.2.2.2.2)
abbrev W74 [Sx.Dr]:=W73.add Kst
def F9:Reg→Ev→Reg:=fun(tk,st,S,O,M,X,Q) (n,k,ns,vs,tx)=>(tk,st,S,O++[(ns.getD 0 Ja,ns.getD 1 Ja,ns.getD 2 Ja,V1 (n,k,ns,vs,tx),vs.getD 3 0,(Hw S (ns.getD 1 Ja)).2.2,-1)],M,X,Q)
def Jyd:X7:=Jz8 (fun r e=>[Jn r,e.2.2.1.length=3,e.2.2.2.1.length=4,0≤J2 r.2.2.1 (e.2.2.1.getD 1 Ja)]) F9
theorem Kp7 [Sx.Dr] (tk st:Int) (S:List Sta) (O:List Ord) (M:List Met) (X:List Out) (Q:List Per) (n:Int) (k:ByteArray) (ns:List ByteArray) (vs:List Int) (tx:ByteArray):wpFO Tryz.prog W74.g (na ()) (fun _=>na ()) (Sx.look ([]:List (Nat×Func))) Tryz.f155 Jyd 105 (tk,st,S,O,M,X,Q) ((n,k,ns,vs,tx),()):=by
 refine(by kernel_rfl:(Jw tk st S O M X Q→Jut ns→Z53 vs→Kcq S ns→T2 (Yf ns) (T2 (Z95 ns) (T2 (J5w ns) (Z60 vs∧T2 (Z27 vs) (T2 (Z95 ns) (Z52 S∧J5n S ns∧(List.length O+1)*88≤140737488355328)))))∧Sf true (Sf 105 ((tk,st,S,O++[(U2 ns,Lp ns,Z99 ns,E2 (Z63 n k ns vs tx),Z96 vs,(Hw S (Lp ns)).2.2,Z75)],M,X,Q)=F9 (Z74 tk st S O M X Q) (n,k,ns,vs,tx))))=_).mp ?_
 delta Z27 Z52 Z53 Z60 Z63 Z74 Z75 Z95 Z96 Z99 J5w Yf U2 Lp Jla Jut Jw J0p J5n Kcq Bd T2 Sf Ln B0 E2
 intro hr
 have nS:S.length≤6:=hr.nS
 have nO:O.length≤32:=hr.nO
 have nM:M.length≤10000:=hr.nM
 have nX:X.length≤16:=hr.nX
 have nQ:Q.length≤16:=hr.nQ
 intros
 repeat' first|assumption|exact rfl|trivial|omega|exact K4|exact U0|exact Up|exact Uz|apply And.intro|intro _
theorem Ksr [Sx.Dr]:Ok Tryz.prog 155 (X7.con Jyd):=Za (Ue mixed W74.ok (by kernel_rfl) (by kernel_rfl) (U4 (l:=([]:List (Nat×Func))) (by simp)) (fun xx yy=>na ()) (fun xx yy=>fun _=>na ()) fun T xx yy hT=>by obtain rfl:=hT _ rfl;exact Kp7 xx.1 xx.2.1 xx.2.2.1 xx.2.2.2.1 xx.2.2.2.2.1 xx.2.2.2.2.2.1 xx.2.2.2.2.2.2 yy.1.1 yy.1.2.1 yy.1.2.2.1 yy.1.2.2.2.1 yy.1.2.2.2.2)
abbrev W75 [Sx.Dr]:=W74.add Ksr
def Jaa:Reg→Ev→Reg:=fun(tk,st,S,O,M,X,Q) (n,k,ns,vs,tx)=>(tk,st,S,O,M++[(ns.getD 0 Ja,vs.getD 1 0,vs.getD 2 0,vs.getD 3 0)],X,Q)
def Jye:X7:=Jz8 (fun r e=>[Jn r,1≤e.2.2.1.length,4≤e.2.2.2.1.length]) Jaa
def Kni (a:Li):=(Zh a,Jnp a,Z96 a)
def Klw (a:Li) (b:List Met):=T2 (Z33 a) (T2 (Z34 a) (T2 (Z27 a) ((List.length b+1)*40≤140737488355328)))
theorem Kp6 [Sx.Dr] (tk st:Int) (S:List Sta) (O:List Ord) (M:List Met) (X:List Out) (Q:List Per) (n:Int) (k:ByteArray) (ns:List ByteArray) (vs:List Int) (tx:ByteArray):wpFO Tryz.prog W75.g (na ()) (fun _=>na ()) (Sx.look ([]:List (Nat×Func))) Tryz.f158 Jye 105 (tk,st,S,O,M,X,Q) ((n,k,ns,vs,tx),()):=by
 refine(by kernel_rfl:(Jw tk st S O M X Q→Xc ns→Z56 vs→T2 (Yf ns) (Klw vs M)∧Sf true (Sf 105 ((tk,st,S,O,M++[(U2 ns,Kni vs)],X,Q)=Jaa (Z74 tk st S O M X Q) (n,k,ns,vs,tx))))=_).mp ?_
 delta Z27 Z33 Z34 Z56 Z74 Z96 Yf U2 Jnp Zh Xc Jw Kni Klw Bd T2 Sf Ln B0
 intro hr
 have nS:S.length≤6:=hr.nS
 have nO:O.length≤32:=hr.nO
 have nM:M.length≤10000:=hr.nM
 have nX:X.length≤16:=hr.nX
 have nQ:Q.length≤16:=hr.nQ
 intros
 repeat' first|assumption|exact rfl|trivial|omega|exact K4|exact U0|exact Up|exact Uz|apply And.intro|intro _
theorem Kso [Sx.Dr]:Ok Tryz.prog 158 (X7.con Jye):=Za (Ue mixed W75.ok (by kernel_rfl) (by kernel_rfl) (U4 (l:=([]:List (Nat×Func))) (by simp)) (fun xx yy=>na ()) (fun xx yy=>fun _=>na ()) fun T xx yy hT=>by obtain rfl:=hT _ rfl;exact Kp6 xx.1 xx.2.1 xx.2.2.1 xx.2.2.2.1 xx.2.2.2.2.1 xx.2.2.2.2.2.1 xx.2.2.2.2.2.2 yy.1.1 yy.1.2.1 yy.1.2.2.1 yy.1.2.2.2.1 yy.1.2.2.2.2)
abbrev W76 [Sx.Dr]:=W75.add Kso
def F4:Reg→Ev→Reg:=fun(tk,st,S,O,M,X,Q) (n,k,ns,vs,tx)=>(tk,st,S,Jam O (ns.getD 0 Ja) (vs.getD 0 0),M,X,Q)
def Jx6:X7:=Jz8 (fun r e=>[Jn r,1≤e.2.2.1.length,1≤e.2.2.2.1.length,0≤Kx r.2.2.2.1 (e.2.2.1.getD 0 Ja)]) F4
def K1f (a:List Ord) (b:Ls):=Gt a (Jr9 a b) Jhh
def K02 (a:List Ord) (b:Ls):=(K1f a b).2
def K00 (a:List Ord) (b:Ls):=(K02 a b).2
def K0v (a:List Ord) (b:Ls):=(K00 a b).2
def K0r (a:List Ord) (b:Ls):=(K0v a b).2
theorem Kp5 [Sx.Dr] (tk st:Int) (S:List Sta) (O:List Ord) (M:List Met) (X:List Out) (Q:List Per) (n:Int) (k:ByteArray) (ns:List ByteArray) (vs:List Int) (tx:ByteArray):wpFO Tryz.prog W76.g (na ()) (fun _=>na ()) (Sx.look ([]:List (Nat×Func))) Tryz.f160 Jx6 105 (tk,st,S,O,M,X,Q) ((n,k,ns,vs,tx),()):=by
 refine(by kernel_rfl:(Jw tk st S O M X Q→Xc ns→Z65 vs→Jup O ns→T2 (Yf ns) (Z64 O∧T2 (Z36 vs) (Tw (Bd (Jr9 O ns) (Ln O))))∧Sf true (Sf 105 ((tk,st,S,List.set O (Int.toNat (Jr9 O ns)) ((K1f O ns).1,(K02 O ns).1,(K00 O ns).1,E2 (K0v O ns).1,(K0r O ns).1,(K0r O ns).2.1,U7 vs),M,X,Q)=F4 (Z74 tk st S O M X Q) (n,k,ns,vs,tx))))=_).mp ?_
 delta Z36 Z64 Z65 Z74 Z79 U7 Yf U2 Da Xc Jw Jr9 Jup Jhh K1f K02 K00 K0v K0r Bd T2 Tw Sf Ln Gt B0 E2
 intro hr
 have nS:S.length≤6:=hr.nS
 have nO:O.length≤32:=hr.nO
 have nM:M.length≤10000:=hr.nM
 have nX:X.length≤16:=hr.nX
 have nQ:Q.length≤16:=hr.nQ
 intros
 repeat' first|assumption|exact rfl|trivial|omega|exact K4|exact U0|exact Up|exact Uz|apply And.intro|intro _
theorem Ksm [Sx.Dr]:Ok Tryz.prog 160 (X7.con Jx6):=Za (Ue mixed W76.ok (by kernel_rfl) (by kernel_rfl) (U4 (l:=([]:List (Nat×Func))) (by simp)) (fun xx yy=>na ()) (fun xx yy=>fun _=>na ()) fun T xx yy hT=>by obtain rfl:=hT _ rfl;exact Kp5 xx.1 xx.2.1 xx.2.2.1 xx.2.2.2.1 xx.2.2.2.2.1 xx.2.2.2.2.2.1 xx.2.2.2.2.2.2 yy.1.1 yy.1.2.1 yy.1.2.2.1 yy.1.2.2.2.1 yy.1.2.2.2.2)
abbrev W77 [Sx.Dr]:=W76.add Ksm
def F7:Reg→Ev→Reg:=fun(tk,st,S,O,M,X,Q) (n,k,ns,vs,tx)=>(tk,st,S,O,M,X++[(ns.getD 0 Ja,ns.getD 1 Ja,V1 (n,k,ns,vs,tx),vs.getD 3 0)],Q)
def Jya:X7:=Jz8 (fun r e=>[Jn r,e.2.2.1.length=2,e.2.2.2.1.length=4]) F7
def Koe (a:Li) (b:List Out):=T2 (Z27 a) ((List.length b+1)*56≤140737488355328)
theorem Kp4 [Sx.Dr] (tk st:Int) (S:List Sta) (O:List Ord) (M:List Met) (X:List Out) (Q:List Per) (n:Int) (k:ByteArray) (ns:List ByteArray) (vs:List Int) (tx:ByteArray):wpFO Tryz.prog W77.g (na ()) (fun _=>na ()) (Sx.look ([]:List (Nat×Func))) Tryz.f162 Jya 105 (tk,st,S,O,M,X,Q) ((n,k,ns,vs,tx),()):=by
 refine(by kernel_rfl:(Jw tk st S O M X Q→Jsb ns→Z53 vs→T2 (Yf ns) (T2 (Z95 ns) (Z60 vs∧Koe vs X))∧Sf true (Sf 105 ((tk,st,S,O,M,X++[(U2 ns,Lp ns,E2 (Z63 n k ns vs tx),Z96 vs)],Q)=F7 (Z74 tk st S O M X Q) (n,k,ns,vs,tx))))=_).mp ?_
 delta Z27 Z53 Z60 Z63 Z74 Z95 Z96 Yf U2 Lp Jsb Jw Koe Bd T2 Sf Ln B0 E2
 intro hr
 have nS:S.length≤6:=hr.nS
 have nO:O.length≤32:=hr.nO
 have nM:M.length≤10000:=hr.nM
 have nX:X.length≤16:=hr.nX
 have nQ:Q.length≤16:=hr.nQ
 intros
 repeat' first|assumption|exact rfl|trivial|omega|exact K4|exact U0|exact Up|exact Uz|apply And.intro|intro _
theorem Ksk [Sx.Dr]:Ok Tryz.prog 162 (X7.con Jya):=Za (Ue mixed W77.ok (by kernel_rfl) (by kernel_rfl) (U4 (l:=([]:List (Nat×Func))) (by simp)) (fun xx yy=>na ()) (fun xx yy=>fun _=>na ()) fun T xx yy hT=>by obtain rfl:=hT _ rfl;exact Kp4 xx.1 xx.2.1 xx.2.2.1 xx.2.2.2.1 xx.2.2.2.2.1 xx.2.2.2.2.2.1 xx.2.2.2.2.2.2 yy.1.1 yy.1.2.1 yy.1.2.2.1 yy.1.2.2.2.1 yy.1.2.2.2.2)
abbrev W78 [Sx.Dr]:=W77.add Ksk
def F6:Reg→Ev→Reg:=fun(tk,st,S,O,M,X,Q) (n,k,ns,vs,tx)=>(tk,st,S,O,M,Je7 X (ns.getD 0 Ja) (vs.getD 0 0),Q)
def Jx9:X7:=Jz8 (fun r e=>[Jn r,1≤e.2.2.1.length,1≤e.2.2.2.1.length,0≤J7 r.2.2.2.2.2.1 (e.2.2.1.getD 0 Ja)]) F6
def K3p (a:List Out) (b:Ls):=Gt a (Jur a b) Jhk
def K3n (a:List Out) (b:Ls):=(K3p a b).2
def K3k (a:List Out) (b:Ls):=(K3n a b).2
theorem Kp3 [Sx.Dr] (tk st:Int) (S:List Sta) (O:List Ord) (M:List Met) (X:List Out) (Q:List Per) (n:Int) (k:ByteArray) (ns:List ByteArray) (vs:List Int) (tx:ByteArray):wpFO Tryz.prog W78.g (na ()) (fun _=>na ()) (Sx.look ([]:List (Nat×Func))) Tryz.f165 Jx9 105 (tk,st,S,O,M,X,Q) ((n,k,ns,vs,tx),()):=by
 refine(by kernel_rfl:(Jw tk st S O M X Q→Xc ns→Z65 vs→J3j X ns→T2 (Yf ns) (Z58 X∧T2 (Z36 vs) (Tw (Bd (Jur X ns) (Ln X))))∧Sf true (Sf 105 ((tk,st,S,O,M,List.set X (Int.toNat (Jur X ns)) ((K3p X ns).1,(K3n X ns).1,((K3k X ns).1.1,U7 vs),(K3k X ns).2),Q)=F6 (Z74 tk st S O M X Q) (n,k,ns,vs,tx))))=_).mp ?_
 delta Z36 Z58 Z65 Z74 U7 Yf U2 Da Xc Jw Jhk Jur J3j K3p K3n K3k Bd T2 Tw Sf Ln Gt B0
 intro hr
 have nS:S.length≤6:=hr.nS
 have nO:O.length≤32:=hr.nO
 have nM:M.length≤10000:=hr.nM
 have nX:X.length≤16:=hr.nX
 have nQ:Q.length≤16:=hr.nQ
 intros
 repeat' first|assumption|exact rfl|trivial|omega|exact K4|exact U0|exact Up|exact Uz|apply And.intro|intro _
theorem Ksh [Sx.Dr]:Ok Tryz.prog 165 (X7.con Jx9):=Za (Ue mixed W78.ok (by kernel_rfl) (by kernel_rfl) (U4 (l:=([]:List (Nat×Func))) (by simp)) (fun xx yy=>na ()) (fun xx yy=>fun _=>na ()) fun T xx yy hT=>by obtain rfl:=hT _ rfl;exact Kp3 xx.1 xx.2.1 xx.2.2.1 xx.2.2.2.1 xx.2.2.2.2.1 xx.2.2.2.2.2.1 xx.2.2.2.2.2.2 yy.1.1 yy.1.2.1 yy.1.2.2.1 yy.1.2.2.2.1 yy.1.2.2.2.2)
abbrev W79 [Sx.Dr]:=W78.add Ksh
def F8:Reg→Ev→Reg:=fun(tk,st,S,O,M,X,Q) (n,k,ns,vs,tx)=>(tk,st,S,O,M,X,Q++[(ns.getD 0 Ja,ns.getD 1 Ja,true)])
def Jyc:X7:=Jz8 (fun r e=>[Jn r,2≤e.2.2.1.length]) F8
def Kno (a:List Out) (b:List Per) (c:Ls):=(a,b++[(U2 c,Lp c,true)])
def Kmn (a:Ls) (b:List Per):=T2 (Yf a) (T2 (Z95 a) ((List.length b+1)*40≤140737488355328))
theorem Kp2 [Sx.Dr] (tk st:Int) (S:List Sta) (O:List Ord) (M:List Met) (X:List Out) (Q:List Per) (n:Int) (k:ByteArray) (ns:List ByteArray) (vs:List Int) (tx:ByteArray):wpFO Tryz.prog W79.g (na ()) (fun _=>na ()) (Sx.look ([]:List (Nat×Func))) Tryz.f167 Jyc 105 (tk,st,S,O,M,X,Q) ((n,k,ns,vs,tx),()):=by
 refine(by kernel_rfl:(Jw tk st S O M X Q→J0s ns→Kmn ns Q∧Sf true (Sf 105 ((tk,st,S,O,M,Kno X Q ns)=F8 (Z74 tk st S O M X Q) (n,k,ns,vs,tx))))=_).mp ?_
 delta Z74 Z95 Yf U2 Lp J0s Jw Kno Kmn Bd T2 Sf Ln B0
 intro hr
 have nS:S.length≤6:=hr.nS
 have nO:O.length≤32:=hr.nO
 have nM:M.length≤10000:=hr.nM
 have nX:X.length≤16:=hr.nX
 have nQ:Q.length≤16:=hr.nQ
 intros
 repeat' first|assumption|exact rfl|trivial|omega|exact K4|exact U0|exact Up|exact Uz|apply And.intro|intro _
theorem Ksf [Sx.Dr]:Ok Tryz.prog 167 (X7.con Jyc):=Za (Ue mixed W79.ok (by kernel_rfl) (by kernel_rfl) (U4 (l:=([]:List (Nat×Func))) (by simp)) (fun xx yy=>na ()) (fun xx yy=>fun _=>na ()) fun T xx yy hT=>by obtain rfl:=hT _ rfl;exact Kp2 xx.1 xx.2.1 xx.2.2.1 xx.2.2.2.1 xx.2.2.2.2.1 xx.2.2.2.2.2.1 xx.2.2.2.2.2.2 yy.1.1 yy.1.2.1 yy.1.2.2.1 yy.1.2.2.2.1 yy.1.2.2.2.2)
abbrev W80 [Sx.Dr]:=W79.add Ksf
def Jhx:Reg→Ev→Reg:=fun(tk,st,S,O,M,X,Q) (n,k,ns,vs,tx)=>(tk,st,S,O,M,X,Jan Q (ns.getD 0 Ja))
def J48:X7:=Jz8 (fun r e=>[Jn r,1≤e.2.2.1.length,0≤U1 r.2.2.2.2.2.2 (e.2.2.1.getD 0 Ja)]) Jhx
theorem Kp1 [Sx.Dr] (tk st:Int) (S:List Sta) (O:List Ord) (M:List Met) (X:List Out) (Q:List Per) (n:Int) (k:ByteArray) (ns:List ByteArray) (vs:List Int) (tx:ByteArray):wpFO Tryz.prog W80.g (na ()) (fun _=>na ()) (Sx.look ([]:List (Nat×Func))) Tryz.f170 J48 105 (tk,st,S,O,M,X,Q) ((n,k,ns,vs,tx),()):=by
 refine(by kernel_rfl:(Jw tk st S O M X Q→Xc ns→J3i Q ns→T2 (Yf ns) (Z51 Q∧Tw (Bd (Jt5 Q ns) (Ln Q)))∧Sf true (Sf 105 ((tk,st,S,O,M,X,List.set Q (Int.toNat (Jt5 Q ns)) ((Gt Q (Jt5 Q ns) (B0,B0,false)).1,(Gt Q (Jt5 Q ns) (B0,B0,false)).2.1,false))=Jhx (Z74 tk st S O M X Q) (n,k,ns,vs,tx))))=_).mp ?_
 delta Z51 Z74 Yf U2 Da Xc Jw Jt5 J3i Bd T2 Tw Sf Ln Gt B0
 intro hr
 have nS:S.length≤6:=hr.nS
 have nO:O.length≤32:=hr.nO
 have nM:M.length≤10000:=hr.nM
 have nX:X.length≤16:=hr.nX
 have nQ:Q.length≤16:=hr.nQ
 intros
 repeat' first|assumption|exact rfl|trivial|omega|exact K4|exact U0|exact Up|exact Uz|apply And.intro|intro _
theorem Ksc [Sx.Dr]:Ok Tryz.prog 170 (X7.con J48):=Za (Ue mixed W80.ok (by kernel_rfl) (by kernel_rfl) (U4 (l:=([]:List (Nat×Func))) (by simp)) (fun xx yy=>na ()) (fun xx yy=>fun _=>na ()) fun T xx yy hT=>by obtain rfl:=hT _ rfl;exact Kp1 xx.1 xx.2.1 xx.2.2.1 xx.2.2.2.1 xx.2.2.2.2.1 xx.2.2.2.2.2.1 xx.2.2.2.2.2.2 yy.1.1 yy.1.2.1 yy.1.2.2.1 yy.1.2.2.2.1 yy.1.2.2.2.2)
abbrev W81 [Sx.Dr]:=W80.add Ksc
def Jbu:Reg→Ev→Reg:=fun(tk,st,S,O,M,X,Q) (n,k,ns,vs,tx)=>(tk,vs.getD 1 0,S,O,M,X,Q)
def Jx7:X7:=Jz8 (fun r e=>[Jn r,2≤e.2.2.2.1.length]) Jbu
theorem Kp0 [Sx.Dr] (tk st:Int) (S:List Sta) (O:List Ord) (M:List Met) (X:List Out) (Q:List Per) (n:Int) (k:ByteArray) (ns:List ByteArray) (vs:List Int) (tx:ByteArray):wpFO Tryz.prog W81.g (na ()) (fun _=>na ()) (Sx.look ([]:List (Nat×Func))) Tryz.f172 Jx7 105 (tk,st,S,O,M,X,Q) ((n,k,ns,vs,tx),()):=by
 refine(by kernel_rfl:(Jw tk st S O M X Q→Z59 vs→Jsc vs∧Sf true (Sf 105 ((tk,Zh vs,S,O,M,X,Q)=Jbu (Z74 tk st S O M X Q) (n,k,ns,vs,tx))))=_).mp ?_
 delta Z33 Z59 Z74 Jsc Zh Jw Bd Tw Sf Ln
 intro hr
 have nS:S.length≤6:=hr.nS
 have nO:O.length≤32:=hr.nO
 have nM:M.length≤10000:=hr.nM
 have nX:X.length≤16:=hr.nX
 have nQ:Q.length≤16:=hr.nQ
 intros
 repeat' first|assumption|exact rfl|trivial|omega|exact K4|exact U0|exact Up|exact Uz|apply And.intro|intro _
theorem Ksa [Sx.Dr]:Ok Tryz.prog 172 (X7.con Jx7):=Za (Ue mixed W81.ok (by kernel_rfl) (by kernel_rfl) (U4 (l:=([]:List (Nat×Func))) (by simp)) (fun xx yy=>na ()) (fun xx yy=>fun _=>na ()) fun T xx yy hT=>by obtain rfl:=hT _ rfl;exact Kp0 xx.1 xx.2.1 xx.2.2.1 xx.2.2.2.1 xx.2.2.2.2.1 xx.2.2.2.2.2.1 xx.2.2.2.2.2.2 yy.1.1 yy.1.2.1 yy.1.2.2.1 yy.1.2.2.2.1 yy.1.2.2.2.2)
abbrev W82 [Sx.Dr]:=W81.add Ksa
end Go.Proofs.YtcibbcfiemeoiaaGreatDoor
namespace Go.Proofs.YtcibbcfiemeoiaaGreatDoor
instance drOff:Sx.Dr:=Sx.Dr.off
open Go.Sx
def Jdq (T:TypeId) (s:Sch):Con:={args:=[.val false (.list T s)],ress:=[(false, .list T s)],owns:=[true],pre:=fun(l,_)=>[l.length≤1000000],spec:=fun(l,_)=>(l,())}
theorem Jmc {M:Nat→Prop} {w:World}:∀{xs:List Int} {flat:List Value},Yx (Rep M w (.int .i64)) xs flat→flat=xs.map (Value.int .i64)
 |[],_,h=>h
 |x::xs,_,⟨c1,c2,rfl,h1,h2⟩=>by
  have h1:c1=[.int .i64 x]:=h1
  rw[h1,Jmc h2];rfl
theorem Jqn {M:Nat→Prop} {w:World}:∀(xs:List Int),Yx (Rep M w (.int .i64)) xs (xs.map (Value.int .i64))
 |[]=>rfl
 |x::xs=>⟨[.int .i64 x],xs.map (Value.int .i64),rfl,rfl,Jqn xs⟩
theorem Jfe {M:Nat→Prop} {w:World}:∀{xs:List ByteArray} {flat:List Value},Yx (Rep M w .str) xs flat→flat=xs.map Value.string
 |[],_,h=>h
 |x::xs,_,⟨c1,c2,rfl,h1,h2⟩=>by
  have h1:c1=[.string x]:=h1
  rw[h1,Jfe h2];rfl
theorem Jqm {M:Nat→Prop} {w:World}:∀(xs:List ByteArray),Yx (Rep M w .str) xs (xs.map Value.string)
 |[]=>rfl
 |x::xs=>⟨[.string x],xs.map Value.string,rfl,rfl,Jqm xs⟩
theorem Kr8:Ok Tryz.prog 174 (Jdq 3 sI):=by
 refine⟨⟨Tryz.f174,by kernel_rfl,by kernel_rfl,by kernel_rfl⟩,fun z hz=>(by cases hz),fun F hF=>(by cases hF),fun _ x M R w vs hM hg hpre hargs=> ?_⟩
 obtain⟨l,u⟩:=x
 obtain⟨v1,vs1,rfl,⟨cs,rfl,hr⟩,hn⟩:=hargs
 have hn:vs1=[]:=hn
 subst hn
 obtain⟨v,flat,rfl,h1,h2⟩:=hr
 have hfl:=Jmc h1
 have hl:l.length≤1000000:=hpre
 have fin:∀(v':Value) (w':World),w'.ownsRow w.heap.size 3 1 v' l.length (l.map (Value.int .i64))→RowKit.Below w.heap.size w w'→Jpy M w (Jdq 3 sI).ress (Jdq 3 sI).owns ((Jdq 3 sI).spec (l,u)) (.returned v') w':=by
  intro v' w' ho hb
  refine⟨M,[v'],rfl, .ofK hb,fun _ h=>h,fun b h=> .inl h,_,[],rfl,⟨l.map (Value.int .i64),Jqn l,ho,fun g hg' hMg=> ?_⟩,rfl⟩
  rcases ho.2 with⟨rfl,_⟩|⟨g',cap,cur,rfl,hbg,_⟩
  ·cases hg'
  ·have:g'=g:=Option.some.inj hg'
   have:=hM g (.inl hMg)
   omega
 rcases h2 with⟨rfl|⟨ad,cap,rfl⟩,h0⟩|⟨b,off,cap,rfl,hcap,hk,hm⟩
 ·have:l=[]:=List.eq_nil_of_length_eq_zero h0
  subst this
  refine(Tryz.clone174_nil 0 0 w).mono ?_
  rintro e w' ⟨rfl,rfl⟩
  exact fin _ _ ⟨rfl, .inl ⟨rfl,rfl⟩⟩ (RowKit.Below.refl _ _)
 ·have:l=[]:=List.eq_nil_of_length_eq_zero h0
  subst this
  refine(Tryz.clone174_zero ad cap w).mono ?_
  rintro e w' ⟨v',rfl,ho,_,hb⟩
  exact fin _ _ ho hb
 ·refine(Tryz.clone174 b off l.length cap l w (Nat.le_refl _) (by omega) (fun j hj=>hk j _ (by rw[hfl,List.getElem?_map,List.getElem?_eq_getElem hj];simp[List.getD_eq_getElem?_getD,List.getElem?_eq_getElem hj]))).mono ?_
  rintro e w' ⟨v',rfl,ho,_,hb⟩
  rw[List.take_of_length_le (Nat.le_refl _)] at ho
  exact fin _ _ ho hb
abbrev W83:=W82.add Kr8
theorem Kr9:Ok Tryz.prog 173 (Jdq 9 .str):=by
 refine⟨⟨Tryz.f173,by kernel_rfl,by kernel_rfl,by kernel_rfl⟩,fun z hz=>(by cases hz),fun F hF=>(by cases hF),fun _ x M R w vs hM hg hpre hargs=> ?_⟩
 obtain⟨l,u⟩:=x
 obtain⟨v1,vs1,rfl,⟨cs,rfl,hr⟩,hn⟩:=hargs
 have hn:vs1=[]:=hn
 subst hn
 obtain⟨v,flat,rfl,h1,h2⟩:=hr
 have hfl:=Jfe h1
 have hl:l.length≤1000000:=hpre
 have fin:∀(v':Value) (w':World),w'.ownsRow w.heap.size 9 1 v' l.length (l.map Value.string)→RowKit.Below w.heap.size w w'→Jpy M w (Jdq 9 .str).ress (Jdq 9 .str).owns ((Jdq 9 .str).spec (l,u)) (.returned v') w':=by
  intro v' w' ho hb
  refine⟨M,[v'],rfl, .ofK hb,fun _ h=>h,fun b h=> .inl h,_,[],rfl,⟨l.map Value.string,Jqm l,ho,fun g hg' hMg=> ?_⟩,rfl⟩
  rcases ho.2 with⟨rfl,_⟩|⟨g',cap,cur,rfl,hbg,_⟩
  ·cases hg'
  ·have:g'=g:=Option.some.inj hg'
   have:=hM g (.inl hMg)
   omega
 rcases h2 with⟨rfl|⟨ad,cap,rfl⟩,h0⟩|⟨b,off,cap,rfl,hcap,hk,hm⟩
 ·have:l=[]:=List.eq_nil_of_length_eq_zero h0
  subst this
  refine(Tryz.clone173_nil 0 0 w).mono ?_
  rintro e w' ⟨rfl,rfl⟩
  exact fin _ _ ⟨rfl, .inl ⟨rfl,rfl⟩⟩ (RowKit.Below.refl _ _)
 ·have:l=[]:=List.eq_nil_of_length_eq_zero h0
  subst this
  refine(Tryz.clone173_zero ad cap w).mono ?_
  rintro e w' ⟨v',rfl,ho,_,hb⟩
  exact fin _ _ ho hb
 ·refine(Tryz.clone173 b off l.length cap l w (Nat.le_refl _) (by omega) (fun j hj=>hk j _ (by rw[hfl,List.getElem?_map,List.getElem?_eq_getElem hj];simp[List.getD_eq_getElem?_getD,List.getElem?_eq_getElem hj]))).mono ?_
  rintro e w' ⟨v',rfl,ho,_,hb⟩
  rw[List.take_of_length_le (Nat.le_refl _)] at ho
  exact fin _ _ ho hb
abbrev W84:=W83.add Kr9
def J44:Con:={args:=[aEv],ress:=[(true,sEv)],owns:=[],pre:=fun(e,_)=>[e.2.2.1.length≤1000000,e.2.2.2.1.length≤1000000],spec:=fun(e,_)=>(e,())}
def Jdu (a:Ls) (b:Li):=Fm a∧Z66 b
theorem K45:Ok Tryz.prog 81 J44:=okW W84 Tryz.f81 na fun xx=>by
 obtain⟨⟨(n:Int),(k:ByteArray),(ns:List ByteArray),(vs:List Int),(tx:ByteArray)⟩,_⟩:=xx
 refine(by kernel_rfl:(Fm ns→Z66 vs→Jdu ns vs∧(n,k,ns,vs,tx)=(n,k,ns,vs,tx))=_).mp ?_
 delta Z66 Fm Jdu
 exact fun h1 h2=>⟨⟨h1,h2⟩,rfl⟩
abbrev W85:=W84.add K45
def Jhz (T:TypeId) (s:Sch):Con:={args:=[.val false (.list T s)],ress:=[(false, .list T s)],owns:=[true],pre:=fun(l,_)=>[l.length≤1000000],spec:=fun(l,_)=>(l,())}
theorem Kd0:Ok Tryz.prog 216 (Jhz 127 Fw):=okW W85 Tryz.f216 na fun xx=>by
 obtain⟨(l:List Sta),_⟩:=xx
 refine(by kernel_rfl:(Z52 l→((0≤Ln l∧Ln l≤1000000)∧Ln l≤Ln l∧Ln l≤1000000)∧List.length l=List.length (List.replicate (List.length l) Z13)∧l=l)=_).mp ?_
 delta Z13 Z52 Ln B0
 intro h
 exact⟨⟨⟨by omega,by omega⟩,by omega,by omega⟩,by simp,rfl⟩
abbrev W86:=W85.add Kd0
theorem Kdz:Ok Tryz.prog 217 (Jhz 130 Lo):=okW W86 Tryz.f217 na fun xx=>by
 obtain⟨(l:List Ord),_⟩:=xx
 refine(by kernel_rfl:(Z64 l→((0≤Ln l∧Ln l≤1000000)∧Ln l≤Ln l∧Ln l≤1000000)∧List.length l=List.length (List.replicate (List.length l) Jhh)∧l=l)=_).mp ?_
 delta Z64 Z79 Jhh Ln B0
 intro h
 exact⟨⟨⟨by omega,by omega⟩,by omega,by omega⟩,by simp,rfl⟩
abbrev W87:=W86.add Kdz
theorem Kdy:Ok Tryz.prog 218 (Jhz 155 Ja4):=okW W87 Tryz.f218 na fun xx=>by
 obtain⟨(l:List Met),_⟩:=xx
 refine(by kernel_rfl:(List.length l≤1000000→((0≤Ln l∧Ln l≤1000000)∧Ln l≤Ln l∧Ln l≤1000000)∧List.length l=List.length (List.replicate (List.length l) J0r)∧l=l)=_).mp ?_
 delta Z79 J0r Ln B0
 intro h
 exact⟨⟨⟨by omega,by omega⟩,by omega,by omega⟩,by simp,rfl⟩
abbrev W88:=W87.add Kdy
theorem Kdx:Ok Tryz.prog 219 (Jhz 188 Zn):=okW W88 Tryz.f219 na fun xx=>by
 obtain⟨(l:List Out),_⟩:=xx
 refine(by kernel_rfl:(Z58 l→((0≤Ln l∧Ln l≤1000000)∧Ln l≤Ln l∧Ln l≤1000000)∧List.length l=List.length (List.replicate (List.length l) Jhk)∧l=l)=_).mp ?_
 delta Z58 Jhk Ln B0
 intro h
 exact⟨⟨⟨by omega,by omega⟩,by omega,by omega⟩,by simp,rfl⟩
abbrev W89:=W88.add Kdx
theorem Kdw:Ok Tryz.prog 220 (Jhz 235 Hr):=okW W89 Tryz.f220 na fun xx=>by
 obtain⟨(l:List Per),_⟩:=xx
 refine(by kernel_rfl:(Z51 l→((0≤Ln l∧Ln l≤1000000)∧Ln l≤Ln l∧Ln l≤1000000)∧List.length l=List.length (List.replicate (List.length l) (B0,B0,false))∧l=l)=_).mp ?_
 delta Z51 Ln B0
 intro h
 exact⟨⟨⟨by omega,by omega⟩,by omega,by omega⟩,by simp,rfl⟩
abbrev W90:=W89.add Kdw
end Go.Proofs.YtcibbcfiemeoiaaGreatDoor
namespace Go.Proofs.Tryz
open Go.Proofs.YtcibbcfiemeoiaaGreatDoor
def kindsU:List (ByteArray×K40):=[(Jy,[],0,none,none,none),
 (Jt,[(0,false)],2,some 148,some 149,some 150),
 (Uc,[(0,true)],2,some 152,some 153,some 150),
 (Kl,[(1,false),(0,true),(0,true)],4,some 154,some 155,some 156),
 (K5,[(1,true)],4,some 157,some 158,some 156),
 (Vq,[(1,true)],1,some 159,some 160,some 156),
 (Ju,[(2,false),(0,true)],4,some 161,some 162,some 163),
 (Jr,[(2,true)],1,some 164,some 165,some 163),
 (Kf,[(3,false),(2,true)],1,some 166,some 167,some 168),
 (Ke,[(3,true)],1,some 169,some 170,some 168),
 (Jh,[],2,some 171,some 172,none)]
end Go.Proofs.Tryz
namespace Go.Proofs.YtcibbcfiemeoiaaGreatDoor
open Go.Sx
def J7k:Jnu:={kT:=9,gk:=false,gv:=true,ks:= .str,vs:=Kdl,l:=Tryz.kindsU}
theorem Kqn:Ok Tryz.prog 80 (Jnu.con J7k):=Kqo
abbrev W91:=W90.add Kqn
abbrev Ka:=List Ev×List Ev×List Reg
abbrev Jhn:Sch:= .prod (.list 67 sEv) (.prod (.list 67 sEv) (.list 105 Jle))
def U3:Reg:=(0,0,[],[],[],[],[])
def ev0:Ev:=(0,Ja,[],[],Ja)
def Kh (G:List Reg):Reg:=G.getD (G.length-1) U3
structure Kg (h:Ka):Prop where
 nE:h.1.length≤1000
 nC:h.2.1.length≤h.1.length
 nG:h.2.2.length=h.2.1.length
 reg:∀r∈h.2.2,Jn r
def Kj (r:Reg) (ns:List ByteArray):List (Int×Bool)→Nat→Bool
 |[],_=>false
 |(w,b)::l,i=>bif (bif b then !Vl r w (ns.getD i Ja) else false) then true else Kj r ns l (i+1)
def Kv (r:Reg) (ns:List ByteArray):List (Int×Bool)→Nat→Bool
 |[],_=>false
 |(w,b)::l,i=>bif (bif !b then Vl r w (ns.getD i Ja) else false) then true else Kv r ns l (i+1)
def ckS (r:Reg) (e:Ev):Int:=match(Ji e.2.1).2.2.1 with
 |some 148=>Jng r.2.2.1 e.2.2.2.1
 |some 152=>Jpj e.2.2.2.1
 |some 154=>Jc0 r.2.2.1 r.2.2.2.1 r.2.2.2.2.2.1 e
 |some 157=>Jnh r.2.2.2.1 r.2.2.2.2.1 e.2.2.1 e.2.2.2.1
 |some 159=>Jdm r.2.2.2.1 e.2.2.1 e.2.2.2.1
 |some 161=>Jcz r.2.2.1 r.2.2.2.1 r.2.2.2.2.2.1 e
 |some 164=>Jdn r.2.2.2.2.2.1 r.2.2.2.2.2.2 e.2.2.1 e.2.2.2.1
 |some 166=>Jdo r.2.2.2.2.2.1 r.2.2.2.2.2.2 e.2.2.1 e.2.2.2.1
 |some 169=>Jpi r.2.2.2.2.2.2 e.2.2.1
 |some 171=>L7 r.2.1 r.2.2.2.1 r.2.2.2.2.1 r.2.2.2.2.2.1 r.2.2.2.2.2.2 e.2.2.2.1
 |_=>0
def L3 (h:Ka) (e:Ev):Int:=
 bif e.1 !=(h.1.length:Int)+1 then 11 else
 bif e.2.1.toList==Jy.toList then(bif (h.2.1.length:Int)==0 then 12 else bif (h.2.1.getD (h.2.1.length-1) ev0).2.1.toList==Jh.toList then 21 else 0) else
 bif decide (e.2.2.2.1.getD 0 0<(Kh h.2.2).1) then 22 else
 bif Kj (Kh h.2.2) e.2.2.1 (Ji e.2.1).1 0 then 10 else
 bif Kv (Kh h.2.2) e.2.2.1 (Ji e.2.1).1 0 then 9 else ckS (Kh h.2.2) e
def Jrm:X7:={T? :=none,s:=Jhn,args:=[aEv],ress:=[I],pre:=fun h (e,_)=>[Kg h,Jb e=0],spec:=fun h (e,_)=>(L3 h e,()),post:=fun h _=>h}
abbrev Xs (m:Nat):Nat→Option Ann:=fun i=>if i=0∨i=2 then some {X:=Unit,σ:=fun _=>⟨0,[],[]⟩,inv:=fun _=>True,mu:=fun _=>0,un:=m} else none
def Jrx (h:Ka) (n:Int) (ns:List ByteArray) (vs:List Int) (roles:List (Int×Bool)) (ck:Int):Int:=
 bif n !=(h.1.length:Int)+1 then 11 else
 bif decide (vs.getD 0 0<(Kh h.2.2).1) then 22 else
 bif Kj (Kh h.2.2) ns roles 0 then 10 else
 bif Kv (Kh h.2.2) ns roles 0 then 9 else ck
theorem Xa {h:Ka} {n:Int} {k:ByteArray} {ns:List ByteArray} {vs:List Int} {tx:ByteArray} (h1:(k.toList==Jy.toList)=false):L3 h (n,k,ns,vs,tx)=Jrx h n ns vs (Ji k).1 (ckS (Kh h.2.2) (n,k,ns,vs,tx)):=by
 unfold L3 Jrx
 dsimp only
 rw[h1];rfl
theorem Ub:Ji Jt=([(0,false)],2,some 148,some 149,some 150):=by kernel_rfl
theorem Vg:Ji Uc=([(0,true)],2,some 152,some 153,some 150):=by kernel_rfl
theorem Uw:Ji Kl=([(1,false),(0,true),(0,true)],4,some 154,some 155,some 156):=by kernel_rfl
theorem Ux:Ji K5=([(1,true)],4,some 157,some 158,some 156):=by kernel_rfl
theorem Vu:Ji Vq=([(1,true)],1,some 159,some 160,some 156):=by kernel_rfl
theorem Kw:Ji Ju=([(2,false),(0,true)],4,some 161,some 162,some 163):=by kernel_rfl
theorem Kk:Ji Jr=([(2,true)],1,some 164,some 165,some 163):=by kernel_rfl
theorem K8:Ji Kf=([(3,false),(2,true)],1,some 166,some 167,some 168):=by kernel_rfl
theorem K7:Ji Ke=([(3,true)],1,some 169,some 170,some 168):=by kernel_rfl
theorem Uv:Ji Jh=([],2,some 171,some 172,none):=by kernel_rfl
theorem Jcp:Ji Jy=([],0,none,none,none):=by kernel_rfl
theorem Jhv {r:Reg} {s:ByteArray}:Vl r 0 s=decide (0≤J2 r.2.2.1 s):=rfl
theorem Jhu {r:Reg} {s:ByteArray}:Vl r 1 s=decide (0≤Kx r.2.2.2.1 s):=rfl
theorem Jgc {r:Reg} {s:ByteArray}:Vl r 2 s=decide (0≤J7 r.2.2.2.2.2.1 s):=rfl
theorem Jht {r:Reg} {s:ByteArray}:Vl r 3 s=decide (0≤U1 r.2.2.2.2.2.2 s):=rfl
structure Kbe (e:Ev):Prop where
 num:1≤e.1∧e.1≤1000
 kind:U8 e.2.1=true
 nn:e.2.2.1.length=(Ji e.2.1).1.length
 nv:(e.2.2.2.1.length:Int)=(Ji e.2.1).2.1
 name:∀s∈e.2.2.1,Ye s=true
 val:EvV e
 txt:e.2.2.2.2.size=0
theorem Uj {l:List Int}:Jg l=0↔∀x∈l,x=0:=by
 induction l with
 |nil=>simp[Jg]
 |cons x l ih=>
  unfold Jg
  by_cases h:x=0
  ·rw[if_pos h,ih];simp[h]
  ·rw[if_neg h];simp[h]
theorem Yt {n a b:Int}:Ki n a b=0↔a≤n∧n≤b:=by
 unfold Ki
 by_cases h1:n<a
 ·simp[h1];omega
 ·by_cases h2:b<n
  ·simp[h2]
  ·simp[h1,h2];omega
theorem J6 {e:Ev} (h:Jb e=0):Kbe e:=by
 unfold Jb at h
 by_cases h1:Ki e.1 1 1000≠0
 ·rw[if_pos h1] at h;exact absurd h h1
 rw[if_neg h1] at h
 cases hk:U8 e.2.1 with
 |false=>rw[hk] at h;cases h
 | true =>
  rw[hk,cond_true] at h
  by_cases h2:e.2.2.1.length=(Ji e.2.1).1.length∧(e.2.2.2.1.length:Int)=(Ji e.2.1).2.1
  ·rw[if_pos h2] at h
   have h3:=Uj.1 h
   have n1:=Uj.1 (h3 _ (List.mem_cons_self ..))
   have n2:=Uj.1 (h3 _ (List.mem_cons_of_mem _ (List.mem_cons_self ..)))
   have n3:=h3 _ (List.mem_cons_of_mem _ (List.mem_cons_of_mem _ (List.mem_cons_self ..)))
   refine⟨Yt.1 (by omega),hk,h2.1,h2.2,fun s hs=> ?_,fun v hv=>Yt.1 (n2 _ (List.mem_map_of_mem hv)), ?_⟩
   ·have:=n1 _ (List.mem_map_of_mem hs)
    cases hn:Ye s with
    |true=>rfl
    |false=>rw[hn] at this;cases this
   ·by_cases h4:0<e.2.2.2.2.size
    ·rw[decide_eq_true h4] at n3;cases n3
    ·omega
  ·rw[if_neg h2] at h;cases h
theorem Zb {h:Ka} (hh:Kg h):Jn (Kh h.2.2):=by
 unfold Kh
 by_cases h0:0<h.2.2.length
 ·exact hh.reg _ (Jd (by omega))
 ·have:h.2.2=[]:=List.eq_nil_of_length_eq_zero (by omega)
  rw[this]
  exact⟨by decide,by decide,by decide,by decide,by decide,by decide,by decide,fun _ h=>(by cases h),fun _ h=>(by cases h),fun _ h=>(by cases h),fun _ h=>(by cases h),fun _ h=>(by cases h),fun _ h=>(by cases h)⟩
theorem Kp {G:List Reg} (h:decide (0<(G.length:Int))=false):Kh G=U3:=by
 have h:¬0<(G.length:Int):=of_decide_eq_false h
 have:G=[]:=List.eq_nil_of_length_eq_zero (by omega)
 rw[this];rfl
theorem H0:((0,0,[],[],[],[],[]):Reg)=U3:=rfl
theorem Jin (G:List Reg):G.getD (G.length-1) U3=Kh G:=rfl
theorem H9 {E C:List Ev} {G:List Reg} {e:Ev} (hh:Kg (E,C,G)) (hc:Jb e=0):e.2.2.1.length=(Ji e.2.1).1.length∧(e.2.2.2.1.length:Int)=(Ji e.2.1).2.1∧Jn (Kh G)∧Jn U3∧E.length≤1000∧C.length≤E.length∧G.length=C.length∧((G.length:Int)-1).toNat=G.length-1∧EvV e:=
 have hE:=J6 hc
 ⟨hE.nn,hE.nv,Zb hh,Zb (h:=([],[],[])) ⟨by decide,by decide,rfl,fun _ h=>(by cases h)⟩,hh.nE,hh.nC,hh.nG,by omega,hE.val⟩
def Z1 (a:List Ev):=Ln a+1
def Z2 (a:List Ev):=Ln a-1
def Z4 (a:List Ev):=Ln a==0
def Z6 (a:Int) (b:Ls) (c:Li) (d:Bt):=(a,Jy,b,c,d)
def Z35:=Iw ((0:Int)+1)
def Z55:=Tw (Bd 0 0)
def Z68 (a:List Ev):=Iw (Z1 a)
def Z72 (a:List Ev):=Iw (Z2 a)
def Kt (a:Li):=Tw (Z36 a)
def Yb (a:List Reg):=decide (0<Ln a)
def J5t:=Z35∧False
def Jt4 (a b:List Ev) (c:List Reg) (d:Int) (e:Ls) (f:Li) (g:Bt):=L3 (a,b,c) (Z6 d e f g)
def D5:Int×ByteArray×List ByteArray×List Int×ByteArray:=((0:Int),B0,[],[],B0)
def Jhj (a:Li):=decide (U7 a<0)
def Dl:Int×List Sta×List Ord×List Met×List Out×List Per:=((0:Int),[],[],[],[],[])
def Jhg (a:Int) (b:List Ev):=a !=Z1 b
def Jhf (a:List Ev):=Z72 a∧Tw (Bd (Z2 a) (Ln a))
def Vy:=((0:Int),Dl)
def Ya (a:List Reg):=Iw (Ln a-1)∧Tw (Bd (Ln a-1) (Ln a))
def Y1:=Jn Vy
def Jet:=true=true→Y1
def Jb4:=false=true→Y1
def Fs (a:List Reg):=Gt a (Ln a-1) Vy
def Fr (a:List Reg):=(Fs a).2
def Ja2 (a:List Reg):=(Fs a).1
def Jaf (a:List Reg):=(Fr a).1
def Hy (a:List Reg):=(Fr a).2
def Hx (a:List Reg):=(Hy a).2
def Dk (a:List Reg):=(Hx a).2
def Hd (a:List Reg):=(Dk a).2
def J5f (a:Ls):=Vl Vy 0 (U2 a)
def Jhe (a:List Ev):=bif Lb (Gt a (Z2 a) D5).2.1 Jh then(21:Int) else(0:Int)
def Kbu (a:Ls):=bif true then J5f a else false
def Jhd (a:Li) (b:List Reg):=decide (U7 a<Ja2 b)
def Jhc (a:Ls):=T2 (true=true→Yf a) Jet
def Jhb (a:Ls):=T2 (false=true→Yf a) Jb4
def Kyk (a:TypeId) (b c:List Ev) (d:List Reg) (e:Int) (f:Ls) (g:Li) (h:Bt):=Br false (Sf true (Sf a (Sf (b,c,d) (10=Jt4 b c d e f g h)))) J5t
def Jae (a:List Reg):=(Jaf a,(Hy a).1,(Hx a).1,(Dk a).1,E2 (Hd a))
def Ym (a:List Reg):=(Ja2 a,Jae a)
def Xb (a:List Reg):=Jn (Ym a)
def Jep (a:List Reg):=true=true→Xb a
def Jc6 (a:List Reg):=false=true→Xb a
def Jnq (a:List Reg) (b:Ls):=Vl (Ym a) 0 (U2 b)
def Juc (a:List Reg) (b:Ls):=bif true then Jnq a b else false
def Hg (a:Ls) (b:List Reg):=T2 (true=true→Yf a) (Jep b)
def Hf (a:Ls) (b:List Reg):=T2 (false=true→Yf a) (Jc6 b)
variable (T:TypeId) (E C:List Ev) (G:List Reg) (tk st:Int) (S:List Sta) (O:List Ord) (M:List Met) (X:List Out) (Q:List Per) (n:Int) (ns:List ByteArray) (vs:List Int) (tx:ByteArray)
theorem Jsj:wpFO Tryz.prog W91.g (Xs 1) (fun _=>na ()) (Sx.look ([(75,Tryz.f75)]:List (Nat×Func))) Tryz.f130 Jrm T (E,C,G) ((n,Jy,ns,vs,tx),()):=by
 refine(by kernel_rfl:(Kg (E,C,G)→Jb (Z6 n ns vs tx)=0→Z68 E∧Br (Jhg n E) (Sf true (Sf T (Sf (E,C,G) (11=Jt4 E C G n ns vs tx)))) (Br true (Br (Z4 C) (Sf true (Sf T (Sf (E,C,G) (12=Jt4 E C G n ns vs tx)))) (Jhf C∧Sf true (Sf T (Sf (E,C,G) (Jhe C=Jt4 E C G n ns vs tx))))) (Br (Yb G) (Ya G∧Kt vs∧Br (Jhd vs G) (Sf true (Sf T (Sf (E,C,G) (22=Jt4 E C G n ns vs tx)))) (Br false (Z55∧Hf ns G∧Kyk T E C G n ns vs tx) (Br false (Z55∧Hg ns G∧Br (Juc G ns) (Sf true (Sf T (Sf (E,C,G) (9=Jt4 E C G n ns vs tx)))) J5t) (False∧Sf true False)))) (Kt vs∧Br (Jhj vs) (Sf true (Sf T (Sf (E,C,G) (22=Jt4 E C G n ns vs tx)))) (Br false (Z55∧Jhb ns∧Kyk T E C G n ns vs tx) (Br false (Z55∧Jhc ns∧Br (Kbu ns) (Sf true (Sf T (Sf (E,C,G) (9=Jt4 E C G n ns vs tx)))) J5t) (False∧Sf true False)))))))=_).mp ?_
 delta Z1 Z2 Z4 Z6 Z35 Z36 Z55 Z68 Z72 U7 Yf U2 Kt Yb J5t Jt4 D5 Jhj Dl Jhg Jhf Vy Ya Y1 Jet Jb4 Fs Fr Ja2 Jaf Hy Hx Dk Hd J5f Jhe Kbu Jhd Jhc Jhb Kyk Jae Ym Xb Jep Jc6 Jnq Juc Hg Hf Br Iw Bd T2 Tw Sf Ln Gt B0 Lb E2 Jh Jy
 intro hh hc
 have hE:=J6 hc
 have n1:E.length≤1000:=hh.nE
 have n2:C.length≤E.length:=hh.nC
 have eA:L3 (E,C,G) (n,Jy,ns,vs,tx)=bif n !=(E.length:Int)+1 then 11 else(bif (C.length:Int)==0 then 12 else bif (C.getD (C.length-1) ev0).2.1.toList==Jh.toList then 21 else 0):=by
  unfold L3
  dsimp only
  rw[show(Jy.toList==Jy.toList)=true from by kernel_rfl];rfl
 refine⟨by omega,fun h=>⟨rfl,rfl,rfl, ?_⟩,fun h=>⟨fun _=>⟨fun h2=>⟨rfl,rfl,rfl, ?_⟩,fun h2=> ?_⟩,fun h=>(by cases h)⟩⟩
 ·rw[eA,h];rfl
 ·rw[eA,h,h2];rfl
 ·have h3:¬C.length=0:=fun e=>by rw[e] at h2;cases h2
  have h4:((C.length:Int)-1).toNat=C.length-1:=by omega
  refine⟨⟨⟨by omega,by omega⟩,⟨by omega,by omega⟩,⟨by omega,by omega⟩⟩,rfl,rfl,rfl, ?_⟩
  rw[eA,h,h2,h4];rfl
def Z32 (a:Int) (b:Ls) (c:Li) (d:Bt):=(a,Jt,b,c,d)
def Z57:=Tw (Bd 0 1)
def Jpw:=(0:Int)+1+1
def Jhl:=Iw Jpw
def Ja6:=Tw (Bd ((0:Int)+1) 1)
def Jr1 (a b:List Ev) (c:List Reg) (d:Int) (e:Ls) (f:Li) (g:Bt):=L3 (a,b,c) (Z32 d e f g)
def Jew:=Jhl∧False
def Jzh (a:Ls):=true=true→Bd ((0:Int)+1) (Ln a)
def Jzg (a:Ls):=false=true→Bd ((0:Int)+1) (Ln a)
def Kb1 (a:Li):=Y1∧Z59 a
def J0f (a:Ls):=Vl Vy 0 (Lp a)
def Khm (a:TypeId) (b c:List Ev) (d:List Reg) (e:Int) (f:Ls) (g:Li) (h:Bt):=Sf true (Sf a (Sf (b,c,d) (9=Jr1 b c d e f g h)))
def Klq (a:TypeId) (b c:List Ev) (d:List Reg) (e:Int) (f:Ls) (g:Li) (h:Bt):=Sf true (Sf a (Sf (b,c,d) (10=Jr1 b c d e f g h)))
def Jul (a:Ls):=bif true then J0f a else false
def Jlh (a:Ls):=T2 (Jzh a) Jet
def Jlg (a:Ls):=T2 (Jzg a) Jb4
def Kx6 (a:TypeId) (b c:List Ev) (d:List Reg) (e:Int) (f:Ls) (g:Li) (h:Bt):=Br false (Klq a b c d e f g h) Jew
def Kxp (a:Li) (b:TypeId) (c d:List Ev) (e:List Reg) (f:Int) (g:Ls) (h:Bt):=Kb1 a∧Sf true (Sf b (Sf (c,d,e) (Jng [] a=Jr1 c d e f g a h)))
def Jue (a:List Reg) (b:Li):=Xb a∧Z59 b
def Jh1 (a:List Reg) (b:Ls):=Vl (Ym a) 0 (Lp b)
def Jd4 (a:List Reg) (b:Ls):=bif true then Jh1 a b else false
def Di (a:Ls) (b:List Reg):=T2 (Jzh a) (Jep b)
def Dh (a:Ls) (b:List Reg):=T2 (Jzg a) (Jc6 b)
def Kad (a:List Reg) (b:Li) (c:TypeId) (d e:List Ev) (f:Int) (g:Ls) (h:Bt):=Jue a b∧Sf true (Sf c (Sf (d,e,a) (Jng (Hy a).1 b=Jr1 d e a f g b h)))
def J9y (a:Ls) (b:TypeId) (c d:List Ev) (e:List Reg) (f:Int) (g:Li) (h:Bt):=Br true (Z57∧Jhc a∧Br (Kbu a) (Khm b c d e f a g h) (Z35∧Br false (Ja6∧Jlh a∧Br (Jul a) (Khm b c d e f a g h) Jew) (Kxp g b c d e f a h))) (Kxp g b c d e f a h)
def J9m (a:Ls) (b:List Reg) (c:TypeId) (d e:List Ev) (f:Int) (g:Li) (h:Bt):=Br true (Z57∧Hg a b∧Br (Juc b a) (Khm c d e b f a g h) (Z35∧Br false (Ja6∧Di a b∧Br (Jd4 b a) (Khm c d e b f a g h) Jew) (Kad b g c d e f a h))) (Kad b g c d e f a h)
theorem Jjd:wpFO Tryz.prog W91.g (Xs 2) (fun _=>na ()) (Sx.look ([(75,Tryz.f75)]:List (Nat×Func))) Tryz.f130 Jrm T (E,C,G) ((n,Jt,ns,vs,tx),()):=by
 refine(by kernel_rfl:(Kg (E,C,G)→Jb (Z32 n ns vs tx)=0→Z68 E∧Br (Jhg n E) (Sf true (Sf T (Sf (E,C,G) (11=Jr1 E C G n ns vs tx)))) (Br false (Br (Z4 C) (Sf true (Sf T (Sf (E,C,G) (12=Jr1 E C G n ns vs tx)))) (Jhf C∧Sf true (Sf T (Sf (E,C,G) (Jhe C=Jr1 E C G n ns vs tx))))) (Br (Yb G) (Ya G∧Kt vs∧Br (Jhd vs G) (Sf true (Sf T (Sf (E,C,G) (22=Jr1 E C G n ns vs tx)))) (Br true (Z57∧Hf ns G∧Br false (Klq T E C G n ns vs tx) (Z35∧Br false (Ja6∧Dh ns G∧Kx6 T E C G n ns vs tx) (J9m ns G T E C n vs tx))) (J9m ns G T E C n vs tx))) (Kt vs∧Br (Jhj vs) (Sf true (Sf T (Sf (E,C,G) (22=Jr1 E C G n ns vs tx)))) (Br true (Z57∧Jhb ns∧Br false (Klq T E C G n ns vs tx) (Z35∧Br false (Ja6∧Jlg ns∧Kx6 T E C G n ns vs tx) (J9y ns T E C G n vs tx))) (J9y ns T E C G n vs tx))))))=_).mp ?_
 delta Z1 Z2 Z4 Z32 Z35 Z36 Z57 Z59 Z68 Z72 U7 Yf U2 Kt Lp Yb Jpw Jhl Ja6 Jr1 Jew D5 Jhj Jzh Jzg Dl Jhg Jhf Vy Ya Y1 Jet Jb4 Fs Fr Ja2 Kb1 Jaf Hy Hx Dk Hd J5f J0f Jhe Khm Klq Jul Kbu Jhd Jhc Jhb Jlh Jlg Kx6 Kxp Jae Ym Xb Jep Jc6 Jue Jnq Jh1 Jd4 Juc Hg Hf Di Dh Kad J9y J9m Br Iw Bd T2 Tw Sf Ln Gt B0 Lb E2 Jh Jt
 intro hh hc
 have eK:=Xa (h:=(E,C,G)) (n:=n) (k:=Jt) (ns:=ns) (vs:=vs) (tx:=tx) (by kernel_rfl)
 obtain⟨hn,hv,hR,hr0,n1,n2,n3,hG,hV⟩:=H9 hh hc
 simp only[Ub,ckS,List.length_cons,List.length_nil] at eK hn hv
 rw[eK]
 simp only[hG,Jin,H0,Prod.eta,Jrx,Kj,Kv,Jhv,Jhu,Jgc,Jht,cond_true,cond_false,Bool.not_true,Bool.not_false,Ja]
 repeat' first|apply And.intro|exact hV|intro _
 all_goals first|trivial|omega|assumption|(rename_i h;have h:=of_decide_eq_true h;omega)|(simp only[*,cond_true,cond_false,Bool.not_true,Bool.not_false];done)|(rw[Kp ‹_›];(first|have e1:decide (vs.getD 0 0<U3.1)=true:=‹_›|have e1:decide (vs.getD 0 0<U3.1)=false:=‹_›);simp only[*,cond_true,cond_false,Bool.not_true,Bool.not_false];first|done|rfl)|(simp only[Bool.not_eq_false',decide_eq_true_eq] at*;assumption)
def Z8 (a:Int) (b:Ls) (c:Li) (d:Bt):=(a,Uc,b,c,d)
def Jt3 (a b:List Ev) (c:List Reg) (d:Int) (e:Ls) (f:Li) (g:Bt):=L3 (a,b,c) (Z8 d e f g)
def Khp (a:TypeId) (b c:List Ev) (d:List Reg) (e:Int) (f:Ls) (g:Li) (h:Bt):=Sf true (Sf a (Sf (b,c,d) (9=Jt3 b c d e f g h)))
def Klt (a:TypeId) (b c:List Ev) (d:List Reg) (e:Int) (f:Ls) (g:Li) (h:Bt):=Sf true (Sf a (Sf (b,c,d) (10=Jt3 b c d e f g h)))
def Kbs (a:Ls):=bif true then !J5f a else false
def Kg7 (a:Li) (b:TypeId) (c d:List Ev) (e:List Reg) (f:Int) (g:Ls) (h:Bt):=Z59 a∧Sf true (Sf b (Sf (c,d,e) (Jpj a=Jt3 c d e f g a h)))
def Kyb (a:TypeId) (b c:List Ev) (d:List Reg) (e:Int) (f:Ls) (g:Li) (h:Bt):=Br false (Klt a b c d e f g h) Jew
def Jub (a:List Reg) (b:Ls):=bif true then !Jnq a b else false
def J93 (a:Ls) (b:TypeId) (c d:List Ev) (e:List Reg) (f:Int) (g:Li) (h:Bt):=Br true (Z57∧Jhb a∧Br false (Khp b c d e f a g h) (Z35∧Br false (Ja6∧Jlh a∧Br (Jul a) (Khp b c d e f a g h) Jew) (Kg7 g b c d e f a h))) (Kg7 g b c d e f a h)
def J9r (a:Ls) (b:List Reg) (c:TypeId) (d e:List Ev) (f:Int) (g:Li) (h:Bt):=Br true (Z57∧Hf a b∧Br false (Khp c d e b f a g h) (Z35∧Br false (Ja6∧Di a b∧Br (Jd4 b a) (Khp c d e b f a g h) Jew) (Kg7 g c d e b f a h))) (Kg7 g c d e b f a h)
theorem Jn7:wpFO Tryz.prog W91.g (Xs 2) (fun _=>na ()) (Sx.look ([(75,Tryz.f75)]:List (Nat×Func))) Tryz.f130 Jrm T (E,C,G) ((n,Uc,ns,vs,tx),()):=by
 refine(by kernel_rfl:(Kg (E,C,G)→Jb (Z8 n ns vs tx)=0→Z68 E∧Br (Jhg n E) (Sf true (Sf T (Sf (E,C,G) (11=Jt3 E C G n ns vs tx)))) (Br false (Br (Z4 C) (Sf true (Sf T (Sf (E,C,G) (12=Jt3 E C G n ns vs tx)))) (Jhf C∧Sf true (Sf T (Sf (E,C,G) (Jhe C=Jt3 E C G n ns vs tx))))) (Br (Yb G) (Ya G∧Kt vs∧Br (Jhd vs G) (Sf true (Sf T (Sf (E,C,G) (22=Jt3 E C G n ns vs tx)))) (Br true (Z57∧Hg ns G∧Br (Jub G ns) (Klt T E C G n ns vs tx) (Z35∧Br false (Ja6∧Dh ns G∧Kyb T E C G n ns vs tx) (J9r ns G T E C n vs tx))) (J9r ns G T E C n vs tx))) (Kt vs∧Br (Jhj vs) (Sf true (Sf T (Sf (E,C,G) (22=Jt3 E C G n ns vs tx)))) (Br true (Z57∧Jhc ns∧Br (Kbs ns) (Klt T E C G n ns vs tx) (Z35∧Br false (Ja6∧Jlg ns∧Kyb T E C G n ns vs tx) (J93 ns T E C G n vs tx))) (J93 ns T E C G n vs tx))))))=_).mp ?_
 delta Z1 Z2 Z4 Z8 Z35 Z36 Z57 Z59 Z68 Z72 U7 Yf U2 Kt Lp Yb Jpw Jhl Ja6 Jt3 Jew D5 Jhj Jzh Jzg Dl Jhg Jhf Vy Ya Y1 Jet Jb4 Fs Fr Ja2 Jaf Hy Hx Dk Hd J5f J0f Jhe Khp Klt Jul Kbs Jhd Jhc Jhb Jlh Jlg Kg7 Kyb Jae Ym Xb Jep Jc6 Jnq Jh1 Jd4 Jub Hg Hf Di Dh J93 J9r Br Iw Bd T2 Tw Sf Ln Gt B0 Lb E2 Uc Jh
 intro hh hc
 have eK:=Xa (h:=(E,C,G)) (n:=n) (k:=Uc) (ns:=ns) (vs:=vs) (tx:=tx) (by kernel_rfl)
 obtain⟨hn,hv,hR,hr0,n1,n2,n3,hG,hV⟩:=H9 hh hc
 simp only[Vg,ckS,List.length_cons,List.length_nil] at eK hn hv
 rw[eK]
 simp only[hG,Jin,H0,Prod.eta,Jrx,Kj,Kv,Jhv,Jhu,Jgc,Jht,cond_true,cond_false,Bool.not_true,Bool.not_false,Ja]
 repeat' first|apply And.intro|exact hV|intro _
 all_goals first|trivial|omega|assumption|(rename_i h;have h:=of_decide_eq_true h;omega)|(simp only[*,cond_true,cond_false,Bool.not_true,Bool.not_false];done)|(rw[Kp ‹_›];(first|have e1:decide (vs.getD 0 0<U3.1)=true:=‹_›|have e1:decide (vs.getD 0 0<U3.1)=false:=‹_›);simp only[*,cond_true,cond_false,Bool.not_true,Bool.not_false];first|done|rfl)|(simp only[Bool.not_eq_false',decide_eq_true_eq] at*;assumption)
def Z9 (a:Int) (b:Ls) (c:Li) (d:Bt):=(a,Kl,b,c,d)
def Z67:=Tw (Bd 0 3)
def Kji:=Tw (Bd ((0:Int)+1) 3)
def Jr6 (a b:List Ev) (c:List Reg) (d:Int) (e:Ls) (f:Li) (g:Bt):=L3 (a,b,c) (Z9 d e f g)
def J9g:=Jpw+1
def J5o:=Iw J9g
def Ki9:=Tw (Bd Jpw 3)
def Ki4 (a:Ls):=0≤J2 [] (Jla a)
def Ki3:=Tw (Bd J9g 3)
def K4n (a:Ls):=Bd J9g (Ln a)
def Kov:=Iw (J9g+1)∧False
def Kix (a:Ls):=true=true→Bd Jpw (Ln a)
def Kiv (a:Ls):=false=true→Bd Jpw (Ln a)
def K3z (a:Ls):=true=true→K4n a
def K3x (a:Ls):=false=true→K4n a
def Kh3 (a:Ls):=Vl Vy 0 (Z99 a)
def Kby (a:Ls):=Vl Vy 1 (U2 a)
def J5d (a:TypeId) (b c:List Ev) (d:List Reg) (e:Int) (f:Ls) (g:Li) (h:Bt):=Sf true (Sf a (Sf (b,c,d) (10=Jr6 b c d e f g h)))
def J3e (a:TypeId) (b c:List Ev) (d:List Reg) (e:Int) (f:Ls) (g:Li) (h:Bt):=Sf true (Sf a (Sf (b,c,d) (9=Jr6 b c d e f g h)))
def Klm (a:Ls):=bif true then !J0f a else false
def Khg (a:List Reg) (b:Ls):=0≤J2 (Hy a).1 (Jla b)
def Kbr (a:Ls):=T2 (Kix a) Jet
def Kbq (a:Ls):=T2 (Kiv a) Jb4
def Kxz (a:TypeId) (b c:List Ev) (d:List Reg) (e:Int) (f:Ls) (g:Li) (h:Bt):=Br false (J5d a b c d e f g h) Kov
def Kgu (a:Int) (b:Ls) (c:Li) (d:Bt) (e:TypeId) (f g:List Ev) (h:List Reg):=(Y1∧EvV (Z9 a b c d)∧Jut b∧Z53 c∧Ki4 b∧0≤J2 [] (J9j b))∧Sf true (Sf e (Sf (f,g,h) (Jc0 [] [] [] (Z9 a b c d)=Jr6 f g h a b c d)))
def Jzp (a:List Reg) (b:Ls):=Vl (Ym a) 0 (Z99 b)
def Jud (a:List Reg) (b:Ls):=Vl (Ym a) 1 (U2 b)
def J3y (a:List Reg) (b:Ls):=bif true then !Jh1 a b else false
def Jt9 (a:Ls) (b:List Reg):=T2 (Kix a) (Jep b)
def Jt8 (a:Ls) (b:List Reg):=T2 (Kiv a) (Jc6 b)
def Jzl (a:List Reg) (b:Int) (c:Ls) (d:Li) (e:Bt) (f:TypeId) (g h:List Ev):=(Xb a∧EvV (Z9 b c d e)∧Jut c∧Z53 d∧Khg a c∧0≤J2 (Hy a).1 (J9j c))∧Sf true (Sf f (Sf (g,h,a) (Jc0 (Hy a).1 (Hx a).1 (Hd a).1 (Z9 b c d e)=Jr6 g h a b c d e)))
def Jzk (a:Ls) (b:TypeId) (c d:List Ev) (e:List Reg) (f:Int) (g:Li) (h:Bt):=Br true (Z67∧Jhc a∧Br (bif true then Kby a else false) (J3e b c d e f a g h) (Z35∧Br true (Kji∧Jlg a∧Br false (J3e b c d e f a g h) (Jhl∧Br true (Ki9∧Kbq a∧Br false (J3e b c d e f a g h) (J5o∧Br false (Ki3∧T2 (K3z a) Jet∧Br (bif true then Vl Vy 0 (List.getD a 3 B0) else false) (J3e b c d e f a g h) Kov) (Kgu f a g h b c d e))) (Kgu f a g h b c d e))) (Kgu f a g h b c d e))) (Kgu f a g h b c d e)
def Jzi (a:Ls) (b:List Reg) (c:TypeId) (d e:List Ev) (f:Int) (g:Li) (h:Bt):=Br true (Z67∧Hg a b∧Br (bif true then Jud b a else false) (J3e c d e b f a g h) (Z35∧Br true (Kji∧Dh a b∧Br false (J3e c d e b f a g h) (Jhl∧Br true (Ki9∧Jt8 a b∧Br false (J3e c d e b f a g h) (J5o∧Br false (Ki3∧T2 (K3z a) (Jep b)∧Br (bif true then Vl (Ym b) 0 (List.getD a 3 B0) else false) (J3e c d e b f a g h) Kov) (Jzl b f a g h c d e))) (Jzl b f a g h c d e))) (Jzl b f a g h c d e))) (Jzl b f a g h c d e)
theorem Jn8:wpFO Tryz.prog W91.g (Xs 4) (fun _=>na ()) (Sx.look ([(75,Tryz.f75)]:List (Nat×Func))) Tryz.f130 Jrm T (E,C,G) ((n,Kl,ns,vs,tx),()):=by
 refine(by kernel_rfl:(Kg (E,C,G)→Jb (Z9 n ns vs tx)=0→Z68 E∧Br (Jhg n E) (Sf true (Sf T (Sf (E,C,G) (11=Jr6 E C G n ns vs tx)))) (Br false (Br (Z4 C) (Sf true (Sf T (Sf (E,C,G) (12=Jr6 E C G n ns vs tx)))) (Jhf C∧Sf true (Sf T (Sf (E,C,G) (Jhe C=Jr6 E C G n ns vs tx))))) (Br (Yb G) (Ya G∧Kt vs∧Br (Jhd vs G) (Sf true (Sf T (Sf (E,C,G) (22=Jr6 E C G n ns vs tx)))) (Br true (Z67∧Hf ns G∧Br false (J5d T E C G n ns vs tx) (Z35∧Br true (Kji∧Di ns G∧Br (J3y G ns) (J5d T E C G n ns vs tx) (Jhl∧Br true (Ki9∧Jt9 ns G∧Br (bif true then !Jzp G ns else false) (J5d T E C G n ns vs tx) (J5o∧Br false (Ki3∧T2 (K3x ns) (Jc6 G)∧Kxz T E C G n ns vs tx) (Jzi ns G T E C n vs tx))) (Jzi ns G T E C n vs tx))) (Jzi ns G T E C n vs tx))) (Jzi ns G T E C n vs tx))) (Kt vs∧Br (Jhj vs) (Sf true (Sf T (Sf (E,C,G) (22=Jr6 E C G n ns vs tx)))) (Br true (Z67∧Jhb ns∧Br false (J5d T E C G n ns vs tx) (Z35∧Br true (Kji∧Jlh ns∧Br (Klm ns) (J5d T E C G n ns vs tx) (Jhl∧Br true (Ki9∧Kbr ns∧Br (bif true then !Kh3 ns else false) (J5d T E C G n ns vs tx) (J5o∧Br false (Ki3∧T2 (K3x ns) Jb4∧Kxz T E C G n ns vs tx) (Jzk ns T E C G n vs tx))) (Jzk ns T E C G n vs tx))) (Jzk ns T E C G n vs tx))) (Jzk ns T E C G n vs tx))))))=_).mp ?_
 delta Z1 Z2 Z4 Z9 Z35 Z36 Z53 Z67 Z68 Z72 Z99 U7 Yf U2 Kt Lp Yb J9j Jla Jut Jpw Jhl Kji Jr6 J9g D5 J5o Jhj Ki9 Ki4 Jzh Ki3 Jzg K4n Dl Kov Kix Kiv Jhg Jhf Vy Ya Y1 K3z K3x Jet Jb4 Fs Fr Ja2 Jaf Hy Hx Dk Hd Kh3 Kby J0f Jhe J5d J3e Klm Jhd Jhc Jhb Khg Jlh Jlg Kbr Kbq Kxz Kgu Jae Ym Xb Jep Jc6 Jzp Jud Jh1 J3y Hg Hf Di Dh Jt9 Jt8 Jzl Jzk Jzi Br Iw Bd T2 Tw Sf Ln Gt B0 Lb E2 Kl Jh
 intro hh hc
 have eK:=Xa (h:=(E,C,G)) (n:=n) (k:=Kl) (ns:=ns) (vs:=vs) (tx:=tx) (by kernel_rfl)
 obtain⟨hn,hv,hR,hr0,n1,n2,n3,hG,hV⟩:=H9 hh hc
 simp only[Uw,ckS,List.length_cons,List.length_nil] at eK hn hv
 rw[eK]
 simp only[hG,Jin,H0,Prod.eta,Jrx,Kj,Kv,Jhv,Jhu,Jgc,Jht,cond_true,cond_false,Bool.not_true,Bool.not_false,Ja]
 repeat' first|apply And.intro|exact hV|intro _
 all_goals first|trivial|omega|assumption|(rename_i h;have h:=of_decide_eq_true h;omega)|(simp only[*,cond_true,cond_false,Bool.not_true,Bool.not_false];done)|(rw[Kp ‹_›];(first|have e1:decide (vs.getD 0 0<U3.1)=true:=‹_›|have e1:decide (vs.getD 0 0<U3.1)=false:=‹_›);simp only[*,cond_true,cond_false,Bool.not_true,Bool.not_false];first|done|rfl)|(simp only[Bool.not_eq_false',decide_eq_true_eq] at*;assumption)
def Z10 (a:Int) (b:Ls) (c:Li) (d:Bt):=(a,K5,b,c,d)
def Jr7 (a b:List Ev) (c:List Reg) (d:Int) (e:Ls) (f:Li) (g:Bt):=L3 (a,b,c) (Z10 d e f g)
def Ki5 (a:Ls):=0≤Kx [] (Da a)
def Khq (a:TypeId) (b c:List Ev) (d:List Reg) (e:Int) (f:Ls) (g:Li) (h:Bt):=Sf true (Sf a (Sf (b,c,d) (9=Jr7 b c d e f g h)))
def Klu (a:TypeId) (b c:List Ev) (d:List Reg) (e:Int) (f:Ls) (g:Li) (h:Bt):=Sf true (Sf a (Sf (b,c,d) (10=Jr7 b c d e f g h)))
def Kbt (a:Ls):=bif true then !Kby a else false
def Kha (a:List Reg) (b:Ls):=0≤Kx (Hx a).1 (Da b)
def Kyd (a:TypeId) (b c:List Ev) (d:List Reg) (e:Int) (f:Ls) (g:Li) (h:Bt):=Br false (Klu a b c d e f g h) Jew
def Kwp (a:Ls) (b:Li) (c:TypeId) (d e:List Ev) (f:List Reg) (g:Int) (h:Bt):=(Y1∧Xc a∧Z56 b∧Ki5 a)∧Sf true (Sf c (Sf (d,e,f) (Jnh [] [] a b=Jr7 d e f g a b h)))
def Jua (a:List Reg) (b:Ls):=bif true then !Jud a b else false
def J91 (a:List Reg) (b:Ls) (c:Li) (d:TypeId) (e f:List Ev) (g:Int) (h:Bt):=(Xb a∧Xc b∧Z56 c∧Kha a b)∧Sf true (Sf d (Sf (e,f,a) (Jnh (Hx a).1 (Dk a).1 b c=Jr7 e f a g b c h)))
def J9w (a:Ls) (b:TypeId) (c d:List Ev) (e:List Reg) (f:Int) (g:Li) (h:Bt):=Br true (Z57∧Jhb a∧Br false (Khq b c d e f a g h) (Z35∧Br false (Ja6∧Jlh a∧Br (Jul a) (Khq b c d e f a g h) Jew) (Kwp a g b c d e f h))) (Kwp a g b c d e f h)
def J9o (a:Ls) (b:List Reg) (c:TypeId) (d e:List Ev) (f:Int) (g:Li) (h:Bt):=Br true (Z57∧Hf a b∧Br false (Khq c d e b f a g h) (Z35∧Br false (Ja6∧Di a b∧Br (Jd4 b a) (Khq c d e b f a g h) Jew) (J91 b a g c d e f h))) (J91 b a g c d e f h)
theorem Jn9:wpFO Tryz.prog W91.g (Xs 2) (fun _=>na ()) (Sx.look ([(75,Tryz.f75)]:List (Nat×Func))) Tryz.f130 Jrm T (E,C,G) ((n,K5,ns,vs,tx),()):=by
 refine(by kernel_rfl:(Kg (E,C,G)→Jb (Z10 n ns vs tx)=0→Z68 E∧Br (Jhg n E) (Sf true (Sf T (Sf (E,C,G) (11=Jr7 E C G n ns vs tx)))) (Br false (Br (Z4 C) (Sf true (Sf T (Sf (E,C,G) (12=Jr7 E C G n ns vs tx)))) (Jhf C∧Sf true (Sf T (Sf (E,C,G) (Jhe C=Jr7 E C G n ns vs tx))))) (Br (Yb G) (Ya G∧Kt vs∧Br (Jhd vs G) (Sf true (Sf T (Sf (E,C,G) (22=Jr7 E C G n ns vs tx)))) (Br true (Z57∧Hg ns G∧Br (Jua G ns) (Klu T E C G n ns vs tx) (Z35∧Br false (Ja6∧Dh ns G∧Kyd T E C G n ns vs tx) (J9o ns G T E C n vs tx))) (J9o ns G T E C n vs tx))) (Kt vs∧Br (Jhj vs) (Sf true (Sf T (Sf (E,C,G) (22=Jr7 E C G n ns vs tx)))) (Br true (Z57∧Jhc ns∧Br (Kbt ns) (Klu T E C G n ns vs tx) (Z35∧Br false (Ja6∧Jlg ns∧Kyd T E C G n ns vs tx) (J9w ns T E C G n vs tx))) (J9w ns T E C G n vs tx))))))=_).mp ?_
 delta Z1 Z2 Z4 Z10 Z35 Z36 Z56 Z57 Z68 Z72 U7 Yf U2 Kt Lp Yb Da Xc Jpw Jhl Ja6 Jr7 Jew D5 Jhj Ki5 Jzh Jzg Dl Jhg Jhf Vy Ya Y1 Jet Jb4 Fs Fr Ja2 Jaf Hy Hx Dk Hd Kby J0f Jhe Khq Klu Jul Kbt Jhd Jhc Jhb Jlh Kha Jlg Kyd Kwp Jae Ym Xb Jep Jc6 Jud Jh1 Jd4 Jua Hg Hf Di Dh J91 J9w J9o Br Iw Bd T2 Tw Sf Ln Gt B0 Lb E2 K5 Jh
 intro hh hc
 have eK:=Xa (h:=(E,C,G)) (n:=n) (k:=K5) (ns:=ns) (vs:=vs) (tx:=tx) (by kernel_rfl)
 obtain⟨hn,hv,hR,hr0,n1,n2,n3,hG,hV⟩:=H9 hh hc
 simp only[Ux,ckS,List.length_cons,List.length_nil] at eK hn hv
 rw[eK]
 simp only[hG,Jin,H0,Prod.eta,Jrx,Kj,Kv,Jhv,Jhu,Jgc,Jht,cond_true,cond_false,Bool.not_true,Bool.not_false,Ja]
 repeat' first|apply And.intro|exact hV|intro _
 all_goals first|trivial|omega|assumption|(rename_i h;have h:=of_decide_eq_true h;omega)|(simp only[*,cond_true,cond_false,Bool.not_true,Bool.not_false];done)|(rw[Kp ‹_›];(first|have e1:decide (vs.getD 0 0<U3.1)=true:=‹_›|have e1:decide (vs.getD 0 0<U3.1)=false:=‹_›);simp only[*,cond_true,cond_false,Bool.not_true,Bool.not_false];first|done|rfl)|(simp only[Bool.not_eq_false',decide_eq_true_eq] at*;assumption)
def Z3 (a:Int) (b:Ls) (c:Li) (d:Bt):=(a,Vq,b,c,d)
def Jr8 (a b:List Ev) (c:List Reg) (d:Int) (e:Ls) (f:Li) (g:Bt):=L3 (a,b,c) (Z3 d e f g)
def Khr (a:TypeId) (b c:List Ev) (d:List Reg) (e:Int) (f:Ls) (g:Li) (h:Bt):=Sf true (Sf a (Sf (b,c,d) (9=Jr8 b c d e f g h)))
def Klv (a:TypeId) (b c:List Ev) (d:List Reg) (e:Int) (f:Ls) (g:Li) (h:Bt):=Sf true (Sf a (Sf (b,c,d) (10=Jr8 b c d e f g h)))
def Kyf (a:TypeId) (b c:List Ev) (d:List Reg) (e:Int) (f:Ls) (g:Li) (h:Bt):=Br false (Klv a b c d e f g h) Jew
def Kky (a:Ls) (b:Li):=Y1∧Xc a∧Z65 b∧Ki5 a
def Kwq (a:Ls) (b:Li) (c:TypeId) (d e:List Ev) (f:List Reg) (g:Int) (h:Bt):=Kky a b∧Sf true (Sf c (Sf (d,e,f) (Jdm [] a b=Jr8 d e f g a b h)))
def J3w (a:List Reg) (b:Ls) (c:Li):=Xb a∧Xc b∧Z65 c∧Kha a b
def J94 (a:List Reg) (b:Ls) (c:Li) (d:TypeId) (e f:List Ev) (g:Int) (h:Bt):=J3w a b c∧Sf true (Sf d (Sf (e,f,a) (Jdm (Hx a).1 b c=Jr8 e f a g b c h)))
def J9x (a:Ls) (b:TypeId) (c d:List Ev) (e:List Reg) (f:Int) (g:Li) (h:Bt):=Br true (Z57∧Jhb a∧Br false (Khr b c d e f a g h) (Z35∧Br false (Ja6∧Jlh a∧Br (Jul a) (Khr b c d e f a g h) Jew) (Kwq a g b c d e f h))) (Kwq a g b c d e f h)
def J9p (a:Ls) (b:List Reg) (c:TypeId) (d e:List Ev) (f:Int) (g:Li) (h:Bt):=Br true (Z57∧Hf a b∧Br false (Khr c d e b f a g h) (Z35∧Br false (Ja6∧Di a b∧Br (Jd4 b a) (Khr c d e b f a g h) Jew) (J94 b a g c d e f h))) (J94 b a g c d e f h)
theorem Jsk:wpFO Tryz.prog W91.g (Xs 2) (fun _=>na ()) (Sx.look ([(75,Tryz.f75)]:List (Nat×Func))) Tryz.f130 Jrm T (E,C,G) ((n,Vq,ns,vs,tx),()):=by
 refine(by kernel_rfl:(Kg (E,C,G)→Jb (Z3 n ns vs tx)=0→Z68 E∧Br (Jhg n E) (Sf true (Sf T (Sf (E,C,G) (11=Jr8 E C G n ns vs tx)))) (Br false (Br (Z4 C) (Sf true (Sf T (Sf (E,C,G) (12=Jr8 E C G n ns vs tx)))) (Jhf C∧Sf true (Sf T (Sf (E,C,G) (Jhe C=Jr8 E C G n ns vs tx))))) (Br (Yb G) (Ya G∧Kt vs∧Br (Jhd vs G) (Sf true (Sf T (Sf (E,C,G) (22=Jr8 E C G n ns vs tx)))) (Br true (Z57∧Hg ns G∧Br (Jua G ns) (Klv T E C G n ns vs tx) (Z35∧Br false (Ja6∧Dh ns G∧Kyf T E C G n ns vs tx) (J9p ns G T E C n vs tx))) (J9p ns G T E C n vs tx))) (Kt vs∧Br (Jhj vs) (Sf true (Sf T (Sf (E,C,G) (22=Jr8 E C G n ns vs tx)))) (Br true (Z57∧Jhc ns∧Br (Kbt ns) (Klv T E C G n ns vs tx) (Z35∧Br false (Ja6∧Jlg ns∧Kyf T E C G n ns vs tx) (J9x ns T E C G n vs tx))) (J9x ns T E C G n vs tx))))))=_).mp ?_
 delta Z1 Z2 Z3 Z4 Z35 Z36 Z57 Z65 Z68 Z72 U7 Yf U2 Kt Lp Yb Da Xc Jpw Jhl Ja6 Jr8 Jew D5 Jhj Ki5 Jzh Jzg Dl Jhg Jhf Vy Ya Y1 Jet Jb4 Fs Fr Ja2 Jaf Hy Hx Dk Hd Kby J0f Jhe Khr Klv Jul Kbt Jhd Jhc Jhb Jlh Kha Jlg Kyf Kky Kwq Jae Ym Xb Jep Jc6 Jud Jh1 Jd4 Jua Hg Hf Di Dh J3w J94 J9x J9p Br Iw Bd T2 Tw Sf Ln Gt B0 Lb E2 Jh Vq
 intro hh hc
 have eK:=Xa (h:=(E,C,G)) (n:=n) (k:=Vq) (ns:=ns) (vs:=vs) (tx:=tx) (by kernel_rfl)
 obtain⟨hn,hv,hR,hr0,n1,n2,n3,hG,hV⟩:=H9 hh hc
 simp only[Vu,ckS,List.length_cons,List.length_nil] at eK hn hv
 rw[eK]
 simp only[hG,Jin,H0,Prod.eta,Jrx,Kj,Kv,Jhv,Jhu,Jgc,Jht,cond_true,cond_false,Bool.not_true,Bool.not_false,Ja]
 repeat' first|apply And.intro|exact hV|intro _
 all_goals first|trivial|omega|assumption|(rename_i h;have h:=of_decide_eq_true h;omega)|(simp only[*,cond_true,cond_false,Bool.not_true,Bool.not_false];done)|(rw[Kp ‹_›];(first|have e1:decide (vs.getD 0 0<U3.1)=true:=‹_›|have e1:decide (vs.getD 0 0<U3.1)=false:=‹_›);simp only[*,cond_true,cond_false,Bool.not_true,Bool.not_false];first|done|rfl)|(simp only[Bool.not_eq_false',decide_eq_true_eq] at*;assumption)
def Z16 (a:Int) (b:Ls) (c:Li) (d:Bt):=(a,Ju,b,c,d)
def Z61:=Tw (Bd 0 2)
def J0q:=Tw (Bd ((0:Int)+1) 2)
def Jr3 (a b:List Ev) (c:List Reg) (d:Int) (e:Ls) (f:Li) (g:Bt):=L3 (a,b,c) (Z16 d e f g)
def J0i:=Tw (Bd Jpw 2)
def J5k:=J5o∧False
def Knm (a:Li) (b:Ls):=Z53 a∧Ki4 b
def Kmj (a:Ls):=Vl Vy 2 (U2 a)
def Kbw (a:TypeId) (b c:List Ev) (d:List Reg) (e:Int) (f:Ls) (g:Li) (h:Bt):=Sf true (Sf a (Sf (b,c,d) (10=Jr3 b c d e f g h)))
def J8s (a:TypeId) (b c:List Ev) (d:List Reg) (e:Int) (f:Ls) (g:Li) (h:Bt):=Sf true (Sf a (Sf (b,c,d) (9=Jr3 b c d e f g h)))
def Klo (a:Ls):=bif true then Kh3 a else false
def Kk4 (a:Li) (b:List Reg) (c:Ls):=Z53 a∧Khg b c
def Kx3 (a:TypeId) (b c:List Ev) (d:List Reg) (e:Int) (f:Ls) (g:Li) (h:Bt):=Br false (Kbw a b c d e f g h) J5k
def Kkb (a:Int) (b:Ls) (c:Li) (d:Bt) (e:TypeId) (f g:List Ev) (h:List Reg):=(Y1∧EvV (Z16 a b c d)∧Jsb b∧Knm c b)∧Sf true (Sf e (Sf (f,g,h) (Jcz [] [] [] (Z16 a b c d)=Jr3 f g h a b c d)))
def J33 (a:List Reg) (b:Ls):=Vl (Ym a) 2 (U2 b)
def J3z (a:List Reg) (b:Ls):=bif true then Jzp a b else false
def J3q (a:List Reg) (b:Int) (c:Ls) (d:Li) (e:Bt) (f:TypeId) (g h:List Ev):=(Xb a∧EvV (Z16 b c d e)∧Jsb c∧Kk4 d a c)∧Sf true (Sf f (Sf (g,h,a) (Jcz (Hy a).1 (Hx a).1 (Hd a).1 (Z16 b c d e)=Jr3 g h a b c d e)))
def J3o (a:Ls) (b:TypeId) (c d:List Ev) (e:List Reg) (f:Int) (g:Li) (h:Bt):=Br true (Z61∧Jhc a∧Br (bif true then Kmj a else false) (J8s b c d e f a g h) (Z35∧Br true (J0q∧Jlg a∧Br false (J8s b c d e f a g h) (Jhl∧Br false (J0i∧Kbr a∧Br (Klo a) (J8s b c d e f a g h) J5k) (Kkb f a g h b c d e))) (Kkb f a g h b c d e))) (Kkb f a g h b c d e)
def J3m (a:Ls) (b:List Reg) (c:TypeId) (d e:List Ev) (f:Int) (g:Li) (h:Bt):=Br true (Z61∧Hg a b∧Br (bif true then J33 b a else false) (J8s c d e b f a g h) (Z35∧Br true (J0q∧Dh a b∧Br false (J8s c d e b f a g h) (Jhl∧Br false (J0i∧Jt9 a b∧Br (J3z b a) (J8s c d e b f a g h) J5k) (J3q b f a g h c d e))) (J3q b f a g h c d e))) (J3q b f a g h c d e)
theorem Jlr:wpFO Tryz.prog W91.g (Xs 3) (fun _=>na ()) (Sx.look ([(75,Tryz.f75)]:List (Nat×Func))) Tryz.f130 Jrm T (E,C,G) ((n,Ju,ns,vs,tx),()):=by
 refine(by kernel_rfl:(Kg (E,C,G)→Jb (Z16 n ns vs tx)=0→Z68 E∧Br (Jhg n E) (Sf true (Sf T (Sf (E,C,G) (11=Jr3 E C G n ns vs tx)))) (Br false (Br (Z4 C) (Sf true (Sf T (Sf (E,C,G) (12=Jr3 E C G n ns vs tx)))) (Jhf C∧Sf true (Sf T (Sf (E,C,G) (Jhe C=Jr3 E C G n ns vs tx))))) (Br (Yb G) (Ya G∧Kt vs∧Br (Jhd vs G) (Sf true (Sf T (Sf (E,C,G) (22=Jr3 E C G n ns vs tx)))) (Br true (Z61∧Hf ns G∧Br false (Kbw T E C G n ns vs tx) (Z35∧Br true (J0q∧Di ns G∧Br (J3y G ns) (Kbw T E C G n ns vs tx) (Jhl∧Br false (J0i∧Jt8 ns G∧Kx3 T E C G n ns vs tx) (J3m ns G T E C n vs tx))) (J3m ns G T E C n vs tx))) (J3m ns G T E C n vs tx))) (Kt vs∧Br (Jhj vs) (Sf true (Sf T (Sf (E,C,G) (22=Jr3 E C G n ns vs tx)))) (Br true (Z61∧Jhb ns∧Br false (Kbw T E C G n ns vs tx) (Z35∧Br true (J0q∧Jlh ns∧Br (Klm ns) (Kbw T E C G n ns vs tx) (Jhl∧Br false (J0i∧Kbq ns∧Kx3 T E C G n ns vs tx) (J3o ns T E C G n vs tx))) (J3o ns T E C G n vs tx))) (J3o ns T E C G n vs tx))))))=_).mp ?_
 delta Z1 Z2 Z4 Z16 Z35 Z36 Z53 Z61 Z68 Z72 Z99 U7 Yf U2 Kt Lp Yb Jsb Jla Jpw Jhl J0q Jr3 J9g D5 J5o Jhj J0i J5k Ki4 Jzh Jzg Dl Kix Kiv Jhg Jhf Vy Ya Y1 Knm Jet Jb4 Fs Fr Ja2 Jaf Hy Hx Dk Hd Kh3 Kmj J0f Jhe Kbw J8s Klo Klm Jhd Jhc Jhb Khg Jlh Jlg Kbr Kbq Kk4 Kx3 Kkb Jae Ym Xb Jep Jc6 Jzp J33 Jh1 J3z J3y Hg Hf Di Dh Jt9 Jt8 J3q J3o J3m Br Iw Bd T2 Tw Sf Ln Gt B0 Lb E2 Ju Jh
 intro hh hc
 have eK:=Xa (h:=(E,C,G)) (n:=n) (k:=Ju) (ns:=ns) (vs:=vs) (tx:=tx) (by kernel_rfl)
 obtain⟨hn,hv,hR,hr0,n1,n2,n3,hG,hV⟩:=H9 hh hc
 simp only[Kw,ckS,List.length_cons,List.length_nil] at eK hn hv
 rw[eK]
 simp only[hG,Jin,H0,Prod.eta,Jrx,Kj,Kv,Jhv,Jhu,Jgc,Jht,cond_true,cond_false,Bool.not_true,Bool.not_false,Ja]
 repeat' first|apply And.intro|exact hV|intro _
 all_goals first|trivial|omega|assumption|(rename_i h;have h:=of_decide_eq_true h;omega)|(simp only[*,cond_true,cond_false,Bool.not_true,Bool.not_false];done)|(rw[Kp ‹_›];(first|have e1:decide (vs.getD 0 0<U3.1)=true:=‹_›|have e1:decide (vs.getD 0 0<U3.1)=false:=‹_›);simp only[*,cond_true,cond_false,Bool.not_true,Bool.not_false];first|done|rfl)|(simp only[Bool.not_eq_false',decide_eq_true_eq] at*;assumption)
def Z29 (a:Int) (b:Ls) (c:Li) (d:Bt):=(a,Jr,b,c,d)
def Jr2 (a b:List Ev) (c:List Reg) (d:Int) (e:Ls) (f:Li) (g:Bt):=L3 (a,b,c) (Z29 d e f g)
def Klr (a:TypeId) (b c:List Ev) (d:List Reg) (e:Int) (f:Ls) (g:Li) (h:Bt):=Sf true (Sf a (Sf (b,c,d) (10=Jr2 b c d e f g h)))
def Khn (a:TypeId) (b c:List Ev) (d:List Reg) (e:Int) (f:Ls) (g:Li) (h:Bt):=Sf true (Sf a (Sf (b,c,d) (9=Jr2 b c d e f g h)))
def Kx8 (a:TypeId) (b c:List Ev) (d:List Reg) (e:Int) (f:Ls) (g:Li) (h:Bt):=Br false (Klr a b c d e f g h) Jew
def Kkx (a:Ls) (b:Li):=Y1∧Xc a∧Z65 b∧0≤J7 [] (Da a)
def Kwo (a:Ls) (b:Li) (c:TypeId) (d e:List Ev) (f:List Reg) (g:Int) (h:Bt):=Kkx a b∧Sf true (Sf c (Sf (d,e,f) (Jdn [] [] a b=Jr2 d e f g a b h)))
def J3v (a:List Reg) (b:Ls) (c:Li):=Xb a∧Xc b∧Z65 c∧0≤J7 (Hd a).1 (Da b)
def J90 (a:List Reg) (b:Ls) (c:Li) (d:TypeId) (e f:List Ev) (g:Int) (h:Bt):=J3v a b c∧Sf true (Sf d (Sf (e,f,a) (Jdn (Hd a).1 (Hd a).2 b c=Jr2 e f a g b c h)))
def J9v (a:Ls) (b:TypeId) (c d:List Ev) (e:List Reg) (f:Int) (g:Li) (h:Bt):=Br true (Z57∧Jhb a∧Br false (Khn b c d e f a g h) (Z35∧Br false (Ja6∧Jlh a∧Br (Jul a) (Khn b c d e f a g h) Jew) (Kwo a g b c d e f h))) (Kwo a g b c d e f h)
def J9n (a:Ls) (b:List Reg) (c:TypeId) (d e:List Ev) (f:Int) (g:Li) (h:Bt):=Br true (Z57∧Hf a b∧Br false (Khn c d e b f a g h) (Z35∧Br false (Ja6∧Di a b∧Br (Jd4 b a) (Khn c d e b f a g h) Jew) (J90 b a g c d e f h))) (J90 b a g c d e f h)
theorem Jje:wpFO Tryz.prog W91.g (Xs 2) (fun _=>na ()) (Sx.look ([(75,Tryz.f75)]:List (Nat×Func))) Tryz.f130 Jrm T (E,C,G) ((n,Jr,ns,vs,tx),()):=by
 refine(by kernel_rfl:(Kg (E,C,G)→Jb (Z29 n ns vs tx)=0→Z68 E∧Br (Jhg n E) (Sf true (Sf T (Sf (E,C,G) (11=Jr2 E C G n ns vs tx)))) (Br false (Br (Z4 C) (Sf true (Sf T (Sf (E,C,G) (12=Jr2 E C G n ns vs tx)))) (Jhf C∧Sf true (Sf T (Sf (E,C,G) (Jhe C=Jr2 E C G n ns vs tx))))) (Br (Yb G) (Ya G∧Kt vs∧Br (Jhd vs G) (Sf true (Sf T (Sf (E,C,G) (22=Jr2 E C G n ns vs tx)))) (Br true (Z57∧Hg ns G∧Br (bif true then !J33 G ns else false) (Klr T E C G n ns vs tx) (Z35∧Br false (Ja6∧Dh ns G∧Kx8 T E C G n ns vs tx) (J9n ns G T E C n vs tx))) (J9n ns G T E C n vs tx))) (Kt vs∧Br (Jhj vs) (Sf true (Sf T (Sf (E,C,G) (22=Jr2 E C G n ns vs tx)))) (Br true (Z57∧Jhc ns∧Br (bif true then !Kmj ns else false) (Klr T E C G n ns vs tx) (Z35∧Br false (Ja6∧Jlg ns∧Kx8 T E C G n ns vs tx) (J9v ns T E C G n vs tx))) (J9v ns T E C G n vs tx))))))=_).mp ?_
 delta Z1 Z2 Z4 Z29 Z35 Z36 Z57 Z65 Z68 Z72 U7 Yf U2 Kt Lp Yb Da Xc Jpw Jhl Ja6 Jr2 Jew D5 Jhj Jzh Jzg Dl Jhg Jhf Vy Ya Y1 Jet Jb4 Fs Fr Ja2 Jaf Hy Hx Dk Hd Kmj J0f Jhe Klr Khn Jul Jhd Jhc Jhb Jlh Jlg Kx8 Kkx Kwo Jae Ym Xb Jep Jc6 J33 Jh1 Jd4 Hg Hf Di Dh J3v J90 J9v J9n Br Iw Bd T2 Tw Sf Ln Gt B0 Lb E2 Jr Jh
 intro hh hc
 have eK:=Xa (h:=(E,C,G)) (n:=n) (k:=Jr) (ns:=ns) (vs:=vs) (tx:=tx) (by kernel_rfl)
 obtain⟨hn,hv,hR,hr0,n1,n2,n3,hG,hV⟩:=H9 hh hc
 simp only[Kk,ckS,List.length_cons,List.length_nil] at eK hn hv
 rw[eK]
 simp only[hG,Jin,H0,Prod.eta,Jrx,Kj,Kv,Jhv,Jhu,Jgc,Jht,cond_true,cond_false,Bool.not_true,Bool.not_false,Ja]
 repeat' first|apply And.intro|exact hV|intro _
 all_goals first|trivial|omega|assumption|(rename_i h;have h:=of_decide_eq_true h;omega)|(simp only[*,cond_true,cond_false,Bool.not_true,Bool.not_false];done)|(rw[Kp ‹_›];(first|have e1:decide (vs.getD 0 0<U3.1)=true:=‹_›|have e1:decide (vs.getD 0 0<U3.1)=false:=‹_›);simp only[*,cond_true,cond_false,Bool.not_true,Bool.not_false];first|done|rfl)|(simp only[Bool.not_eq_false',decide_eq_true_eq] at*;assumption)
def Z24 (a:Int) (b:Ls) (c:Li) (d:Bt):=(a,Kf,b,c,d)
def Jr4 (a b:List Ev) (c:List Reg) (d:Int) (e:Ls) (f:Li) (g:Bt):=L3 (a,b,c) (Z24 d e f g)
def Kmk (a:Ls):=Vl Vy 3 (U2 a)
def Kbv (a:TypeId) (b c:List Ev) (d:List Reg) (e:Int) (f:Ls) (g:Li) (h:Bt):=Sf true (Sf a (Sf (b,c,d) (10=Jr4 b c d e f g h)))
def J8r (a:TypeId) (b c:List Ev) (d:List Reg) (e:Int) (f:Ls) (g:Li) (h:Bt):=Sf true (Sf a (Sf (b,c,d) (9=Jr4 b c d e f g h)))
def Kx2 (a:TypeId) (b c:List Ev) (d:List Reg) (e:Int) (f:Ls) (g:Li) (h:Bt):=Br false (Kbv a b c d e f g h) J5k
def Kkg (a:Ls) (b:Li) (c:TypeId) (d e:List Ev) (f:List Reg) (g:Int) (h:Bt):=(Y1∧J0s a∧Z65 b∧0≤J7 [] (Jla a))∧Sf true (Sf c (Sf (d,e,f) (Jdo [] [] a b=Jr4 d e f g a b h)))
def J32 (a:List Reg) (b:Ls):=Vl (Ym a) 3 (U2 b)
def J3r (a:List Reg) (b:Ls) (c:Li) (d:TypeId) (e f:List Ev) (g:Int) (h:Bt):=(Xb a∧J0s b∧Z65 c∧0≤J7 (Hd a).1 (Jla b))∧Sf true (Sf d (Sf (e,f,a) (Jdo (Hd a).1 (Hd a).2 b c=Jr4 e f a g b c h)))
def J3p (a:Ls) (b:TypeId) (c d:List Ev) (e:List Reg) (f:Int) (g:Li) (h:Bt):=Br true (Z61∧Jhc a∧Br (bif true then Kmk a else false) (J8r b c d e f a g h) (Z35∧Br true (J0q∧Jlg a∧Br false (J8r b c d e f a g h) (Jhl∧Br false (J0i∧Kbr a∧Br (Klo a) (J8r b c d e f a g h) J5k) (Kkg a g b c d e f h))) (Kkg a g b c d e f h))) (Kkg a g b c d e f h)
def J3n (a:Ls) (b:List Reg) (c:TypeId) (d e:List Ev) (f:Int) (g:Li) (h:Bt):=Br true (Z61∧Hg a b∧Br (bif true then J32 b a else false) (J8r c d e b f a g h) (Z35∧Br true (J0q∧Dh a b∧Br false (J8r c d e b f a g h) (Jhl∧Br false (J0i∧Jt9 a b∧Br (J3z b a) (J8r c d e b f a g h) J5k) (J3r b a g c d e f h))) (J3r b a g c d e f h))) (J3r b a g c d e f h)
theorem Jlq:wpFO Tryz.prog W91.g (Xs 3) (fun _=>na ()) (Sx.look ([(75,Tryz.f75)]:List (Nat×Func))) Tryz.f130 Jrm T (E,C,G) ((n,Kf,ns,vs,tx),()):=by
 refine(by kernel_rfl:(Kg (E,C,G)→Jb (Z24 n ns vs tx)=0→Z68 E∧Br (Jhg n E) (Sf true (Sf T (Sf (E,C,G) (11=Jr4 E C G n ns vs tx)))) (Br false (Br (Z4 C) (Sf true (Sf T (Sf (E,C,G) (12=Jr4 E C G n ns vs tx)))) (Jhf C∧Sf true (Sf T (Sf (E,C,G) (Jhe C=Jr4 E C G n ns vs tx))))) (Br (Yb G) (Ya G∧Kt vs∧Br (Jhd vs G) (Sf true (Sf T (Sf (E,C,G) (22=Jr4 E C G n ns vs tx)))) (Br true (Z61∧Hf ns G∧Br false (Kbv T E C G n ns vs tx) (Z35∧Br true (J0q∧Di ns G∧Br (bif true then !Vl (Ym G) 2 (Lp ns) else false) (Kbv T E C G n ns vs tx) (Jhl∧Br false (J0i∧Jt8 ns G∧Kx2 T E C G n ns vs tx) (J3n ns G T E C n vs tx))) (J3n ns G T E C n vs tx))) (J3n ns G T E C n vs tx))) (Kt vs∧Br (Jhj vs) (Sf true (Sf T (Sf (E,C,G) (22=Jr4 E C G n ns vs tx)))) (Br true (Z61∧Jhb ns∧Br false (Kbv T E C G n ns vs tx) (Z35∧Br true (J0q∧Jlh ns∧Br (bif true then !Vl Vy 2 (Lp ns) else false) (Kbv T E C G n ns vs tx) (Jhl∧Br false (J0i∧Kbq ns∧Kx2 T E C G n ns vs tx) (J3p ns T E C G n vs tx))) (J3p ns T E C G n vs tx))) (J3p ns T E C G n vs tx))))))=_).mp ?_
 delta Z1 Z2 Z4 Z24 Z35 Z36 Z61 Z65 Z68 Z72 Z99 U7 Yf U2 Kt Lp Yb J0s Jla Jpw Jhl J0q Jr4 J9g D5 J5o Jhj J0i J5k Jzh Jzg Dl Kix Kiv Jhg Jhf Vy Ya Y1 Jet Jb4 Fs Fr Ja2 Jaf Hy Hx Dk Hd Kh3 Kmk Jhe Kbv J8r Klo Jhd Jhc Jhb Jlh Jlg Kbr Kbq Kx2 Kkg Jae Ym Xb Jep Jc6 Jzp J32 J3z Hg Hf Di Dh Jt9 Jt8 J3r J3p J3n Br Iw Bd T2 Tw Sf Ln Gt B0 Lb E2 Kf Jh
 intro hh hc
 have eK:=Xa (h:=(E,C,G)) (n:=n) (k:=Kf) (ns:=ns) (vs:=vs) (tx:=tx) (by kernel_rfl)
 obtain⟨hn,hv,hR,hr0,n1,n2,n3,hG,hV⟩:=H9 hh hc
 simp only[K8,ckS,List.length_cons,List.length_nil] at eK hn hv
 rw[eK]
 simp only[hG,Jin,H0,Prod.eta,Jrx,Kj,Kv,Jhv,Jhu,Jgc,Jht,cond_true,cond_false,Bool.not_true,Bool.not_false,Ja]
 repeat' first|apply And.intro|exact hV|intro _
 all_goals first|trivial|omega|assumption|(rename_i h;have h:=of_decide_eq_true h;omega)|(simp only[*,cond_true,cond_false,Bool.not_true,Bool.not_false];done)|(rw[Kp ‹_›];(first|have e1:decide (vs.getD 0 0<U3.1)=true:=‹_›|have e1:decide (vs.getD 0 0<U3.1)=false:=‹_›);simp only[*,cond_true,cond_false,Bool.not_true,Bool.not_false];first|done|rfl)|(simp only[Bool.not_eq_false',decide_eq_true_eq] at*;assumption)
def Z26 (a:Int) (b:Ls) (c:Li) (d:Bt):=(a,Ke,b,c,d)
def Jr5 (a b:List Ev) (c:List Reg) (d:Int) (e:Ls) (f:Li) (g:Bt):=L3 (a,b,c) (Z26 d e f g)
def Kls (a:TypeId) (b c:List Ev) (d:List Reg) (e:Int) (f:Ls) (g:Li) (h:Bt):=Sf true (Sf a (Sf (b,c,d) (10=Jr5 b c d e f g h)))
def Kho (a:TypeId) (b c:List Ev) (d:List Reg) (e:Int) (f:Ls) (g:Li) (h:Bt):=Sf true (Sf a (Sf (b,c,d) (9=Jr5 b c d e f g h)))
def Klb (a:Ls):=Y1∧Xc a∧0≤U1 [] (Da a)
def Kya (a:TypeId) (b c:List Ev) (d:List Reg) (e:Int) (f:Ls) (g:Li) (h:Bt):=Br false (Kls a b c d e f g h) Jew
def Kwz (a:Ls) (b:TypeId) (c d:List Ev) (e:List Reg) (f:Int) (g:Li) (h:Bt):=Klb a∧Sf true (Sf b (Sf (c,d,e) (Jpi [] a=Jr5 c d e f a g h)))
def J3x (a:List Reg) (b:Ls):=Xb a∧Xc b∧0≤U1 (Hd a).2 (Da b)
def J95 (a:List Reg) (b:Ls) (c:TypeId) (d e:List Ev) (f:Int) (g:Li) (h:Bt):=J3x a b∧Sf true (Sf c (Sf (d,e,a) (Jpi (Hd a).2 b=Jr5 d e a f b g h)))
def J9z (a:Ls) (b:TypeId) (c d:List Ev) (e:List Reg) (f:Int) (g:Li) (h:Bt):=Br true (Z57∧Jhb a∧Br false (Kho b c d e f a g h) (Z35∧Br false (Ja6∧Jlh a∧Br (Jul a) (Kho b c d e f a g h) Jew) (Kwz a b c d e f g h))) (Kwz a b c d e f g h)
def J9q (a:Ls) (b:List Reg) (c:TypeId) (d e:List Ev) (f:Int) (g:Li) (h:Bt):=Br true (Z57∧Hf a b∧Br false (Kho c d e b f a g h) (Z35∧Br false (Ja6∧Di a b∧Br (Jd4 b a) (Kho c d e b f a g h) Jew) (J95 b a c d e f g h))) (J95 b a c d e f g h)
theorem Jlp:wpFO Tryz.prog W91.g (Xs 2) (fun _=>na ()) (Sx.look ([(75,Tryz.f75)]:List (Nat×Func))) Tryz.f130 Jrm T (E,C,G) ((n,Ke,ns,vs,tx),()):=by
 refine(by kernel_rfl:(Kg (E,C,G)→Jb (Z26 n ns vs tx)=0→Z68 E∧Br (Jhg n E) (Sf true (Sf T (Sf (E,C,G) (11=Jr5 E C G n ns vs tx)))) (Br false (Br (Z4 C) (Sf true (Sf T (Sf (E,C,G) (12=Jr5 E C G n ns vs tx)))) (Jhf C∧Sf true (Sf T (Sf (E,C,G) (Jhe C=Jr5 E C G n ns vs tx))))) (Br (Yb G) (Ya G∧Kt vs∧Br (Jhd vs G) (Sf true (Sf T (Sf (E,C,G) (22=Jr5 E C G n ns vs tx)))) (Br true (Z57∧Hg ns G∧Br (bif true then !J32 G ns else false) (Kls T E C G n ns vs tx) (Z35∧Br false (Ja6∧Dh ns G∧Kya T E C G n ns vs tx) (J9q ns G T E C n vs tx))) (J9q ns G T E C n vs tx))) (Kt vs∧Br (Jhj vs) (Sf true (Sf T (Sf (E,C,G) (22=Jr5 E C G n ns vs tx)))) (Br true (Z57∧Jhc ns∧Br (bif true then !Kmk ns else false) (Kls T E C G n ns vs tx) (Z35∧Br false (Ja6∧Jlg ns∧Kya T E C G n ns vs tx) (J9z ns T E C G n vs tx))) (J9z ns T E C G n vs tx))))))=_).mp ?_
 delta Z1 Z2 Z4 Z26 Z35 Z36 Z57 Z68 Z72 U7 Yf U2 Kt Lp Yb Da Xc Jpw Jhl Ja6 Jr5 Jew D5 Jhj Jzh Jzg Dl Jhg Jhf Vy Ya Y1 Jet Jb4 Fs Fr Ja2 Jaf Hy Hx Dk Hd Kmk J0f Jhe Kls Kho Jul Jhd Jhc Jhb Jlh Jlg Klb Kya Kwz Jae Ym Xb Jep Jc6 J32 Jh1 Jd4 Hg Hf Di Dh J3x J95 J9z J9q Br Iw Bd T2 Tw Sf Ln Gt B0 Lb E2 Ke Jh
 intro hh hc
 have eK:=Xa (h:=(E,C,G)) (n:=n) (k:=Ke) (ns:=ns) (vs:=vs) (tx:=tx) (by kernel_rfl)
 obtain⟨hn,hv,hR,hr0,n1,n2,n3,hG,hV⟩:=H9 hh hc
 simp only[K7,ckS,List.length_cons,List.length_nil] at eK hn hv
 rw[eK]
 simp only[hG,Jin,H0,Prod.eta,Jrx,Kj,Kv,Jhv,Jhu,Jgc,Jht,cond_true,cond_false,Bool.not_true,Bool.not_false,Ja]
 repeat' first|apply And.intro|exact hV|intro _
 all_goals first|trivial|omega|assumption|(rename_i h;have h:=of_decide_eq_true h;omega)|(simp only[*,cond_true,cond_false,Bool.not_true,Bool.not_false];done)|(rw[Kp ‹_›];(first|have e1:decide (vs.getD 0 0<U3.1)=true:=‹_›|have e1:decide (vs.getD 0 0<U3.1)=false:=‹_›);simp only[*,cond_true,cond_false,Bool.not_true,Bool.not_false];first|done|rfl)|(simp only[Bool.not_eq_false',decide_eq_true_eq] at*;assumption)
def Z23 (a:Int) (b:Ls) (c:Li) (d:Bt):=(a,Jh,b,c,d)
def Jpv (a b:List Ev) (c:List Reg) (d:Int) (e:Ls) (f:Li) (g:Bt):=L3 (a,b,c) (Z23 d e f g)
def Kyg (a:TypeId) (b c:List Ev) (d:List Reg) (e:Int) (f:Ls) (g:Li) (h:Bt):=Br false (Sf true (Sf a (Sf (b,c,d) (10=Jpv b c d e f g h)))) J5t
theorem Jlo:wpFO Tryz.prog W91.g (Xs 1) (fun _=>na ()) (Sx.look ([(75,Tryz.f75)]:List (Nat×Func))) Tryz.f130 Jrm T (E,C,G) ((n,Jh,ns,vs,tx),()):=by
 refine(by kernel_rfl:(Kg (E,C,G)→Jb (Z23 n ns vs tx)=0→Z68 E∧Br (Jhg n E) (Sf true (Sf T (Sf (E,C,G) (11=Jpv E C G n ns vs tx)))) (Br false (Br (Z4 C) (Sf true (Sf T (Sf (E,C,G) (12=Jpv E C G n ns vs tx)))) (Jhf C∧Sf true (Sf T (Sf (E,C,G) (Jhe C=Jpv E C G n ns vs tx))))) (Br (Yb G) (Ya G∧Kt vs∧Br (Jhd vs G) (Sf true (Sf T (Sf (E,C,G) (22=Jpv E C G n ns vs tx)))) (Br false (Z55∧Hf ns G∧Kyg T E C G n ns vs tx) (Br false (Z55∧Hg ns G∧Br (Juc G ns) (Sf true (Sf T (Sf (E,C,G) (9=Jpv E C G n ns vs tx)))) J5t) (Jue G vs∧Sf true (Sf T (Sf (E,C,G) (L7 (Jaf G) (Hx G).1 (Dk G).1 (Hd G).1 (Hd G).2 vs=Jpv E C G n ns vs tx))))))) (Kt vs∧Br (Jhj vs) (Sf true (Sf T (Sf (E,C,G) (22=Jpv E C G n ns vs tx)))) (Br false (Z55∧Jhb ns∧Kyg T E C G n ns vs tx) (Br false (Z55∧Jhc ns∧Br (Kbu ns) (Sf true (Sf T (Sf (E,C,G) (9=Jpv E C G n ns vs tx)))) J5t) (Kb1 vs∧Sf true (Sf T (Sf (E,C,G) (L7 0 [] [] [] [] vs=Jpv E C G n ns vs tx))))))))))=_).mp ?_
 delta Z1 Z2 Z4 Z23 Z35 Z36 Z55 Z59 Z68 Z72 U7 Yf U2 Kt Yb J5t Jpv D5 Jhj Dl Jhg Jhf Vy Ya Y1 Jet Jb4 Fs Fr Ja2 Kb1 Jaf Hy Hx Dk Hd J5f Jhe Kbu Jhd Jhc Jhb Kyg Jae Ym Xb Jep Jc6 Jue Jnq Juc Hg Hf Br Iw Bd T2 Tw Sf Ln Gt B0 Lb E2 Jh
 intro hh hc
 have eK:=Xa (h:=(E,C,G)) (n:=n) (k:=Jh) (ns:=ns) (vs:=vs) (tx:=tx) (by kernel_rfl)
 obtain⟨hn,hv,hR,hr0,n1,n2,n3,hG,hV⟩:=H9 hh hc
 simp only[Uv,ckS,List.length_cons,List.length_nil] at eK hn hv
 rw[eK]
 simp only[hG,Jin,H0,Prod.eta,Jrx,Kj,Kv,Jhv,Jhu,Jgc,Jht,cond_true,cond_false,Bool.not_true,Bool.not_false,Ja]
 repeat' first|apply And.intro|exact hV|intro _
 all_goals first|trivial|omega|assumption|(rename_i h;have h:=of_decide_eq_true h;omega)|(simp only[*,cond_true,cond_false,Bool.not_true,Bool.not_false];done)|(rw[Kp ‹_›];(first|have e1:decide (vs.getD 0 0<U3.1)=true:=‹_›|have e1:decide (vs.getD 0 0<U3.1)=false:=‹_›);simp only[*,cond_true,cond_false,Bool.not_true,Bool.not_false];first|done|rfl)|(simp only[Bool.not_eq_false',decide_eq_true_eq] at*;assumption)
theorem Yr {a b:ByteArray} (h:(a.toList==b.toList)=true):a=b:=by
 have h:=eq_of_beq h
 rw[Lib.toList_data,Lib.toList_data] at h
 cases a;cases b
 congr
 exact Array.toList_inj.1 h
theorem Jw0 {a b:ByteArray} (h:Fq .str a b=true):a=b:=Yr h
theorem Jfy {β:Type} {ks:Sch} {k:ks.T}:∀{l:List (ks.T×β)},(Vt ks k l).isSome=true→∃x∈l,Fq ks k x.1=true
 |[],h=>by cases h
 | x :: l, h => by
  unfold Vt at h
  by_cases hx:Fq ks k x.1=true
  ·exact⟨x,List.mem_cons_self ..,hx⟩
  ·rw[if_neg hx] at h
   obtain⟨y,h1,h2⟩:=Jfy h
   exact⟨y,List.mem_cons_of_mem _ h1,h2⟩
theorem Ut {k:ByteArray} (h:U8 k=true):k=Jy∨k=Jt∨k=Uc∨k=Kl∨k=K5∨k=Vq∨k=Ju∨k=Jr∨k=Kf∨k=Ke∨k=Jh:=by
 obtain⟨x,hx,hk⟩:=Jfy h
 have hk:=Jw0 hk
 unfold L4 at hx
 subst hk
 rcases List.mem_cons.1 hx with rfl|hx
 ·exact .inl rfl
 rcases List.mem_cons.1 hx with rfl|hx
 ·exact .inr (.inl rfl)
 rcases List.mem_cons.1 hx with rfl|hx
 ·exact .inr (.inr (.inl rfl))
 rcases List.mem_cons.1 hx with rfl|hx
 ·exact .inr (.inr (.inr (.inl rfl)))
 rcases List.mem_cons.1 hx with rfl|hx
 ·exact .inr (.inr (.inr (.inr (.inl rfl))))
 rcases List.mem_cons.1 hx with rfl|hx
 ·exact .inr (.inr (.inr (.inr (.inr (.inl rfl)))))
 rcases List.mem_cons.1 hx with rfl|hx
 ·exact .inr (.inr (.inr (.inr (.inr (.inr (.inl rfl))))))
 rcases List.mem_cons.1 hx with rfl|hx
 ·exact .inr (.inr (.inr (.inr (.inr (.inr (.inr (.inl rfl)))))))
 rcases List.mem_cons.1 hx with rfl|hx
 ·exact .inr (.inr (.inr (.inr (.inr (.inr (.inr (.inr (.inl rfl))))))))
 rcases List.mem_cons.1 hx with rfl|hx
 ·exact .inr (.inr (.inr (.inr (.inr (.inr (.inr (.inr (.inr (.inl rfl)))))))))
 rcases List.mem_cons.1 hx with rfl|hx
 ·exact .inr (.inr (.inr (.inr (.inr (.inr (.inr (.inr (.inr (.inr rfl)))))))))
 cases hx
theorem Jbq:∀{l:List Prop} {q:Prop},(Uk l→J4v l q)→J4v l q
 |[],_,h=>h trivial
 |[_],_,h=>fun hp=>h hp hp
 |_::p'::r,_,h=>fun hp=>Jbq (l:=p'::r) fun hr=>h ⟨hp,hr⟩ hp
theorem Jja {Γ:Gam} {ann:Nat→Option Ann} {annF:FuncId→Nat→Option Ann} {lib:FuncId→Option Func} {fn:Func} {c:X7} {T:TypeId} {x:c.s.T} {y:ATup c.args} (hb:fn.body.isSome=true) (h:Uk (c.pre x y)→wpFO Tryz.prog Γ ann annF lib fn c T x y):wpFO Tryz.prog Γ ann annF lib fn c T x y:=by
 unfold wpFO at h⊢
 cases hc:fn.body with
 |none=>rw[hc] at hb;cases hb
 |some code=>
  rw[hc] at h
  exact Jbq h
def Jcd (k:ByteArray):Nat:=if k=Jy then 1 else(Ji k).1.length+1
theorem Kqb (T:TypeId):∀(x:Ka) (y:ATup [aEv]),wpFO Tryz.prog W91.g (Xs (Jcd y.1.2.1)) (fun _=>na ()) (Sx.look ([(75,Tryz.f75)]:List (Nat×Func))) Tryz.f130 Jrm T x y
 |(E,C,G),((n,k,ns,vs,tx),())=>by
  refine Jja (by kernel_rfl) fun hp=> ?_
  have hc:Jb (n,k,ns,vs,tx)=0:=hp.2
  rcases Ut (J6 hc).kind with h|h|h|h|h|h|h|h|h|h|h<;>dsimp only at h<;>subst h
  ·exact(show Jcd Jy=1 from by kernel_rfl)▸Jsj T E C G n ns vs tx
  ·exact(show Jcd Jt=2 from by kernel_rfl)▸Jjd T E C G n ns vs tx
  ·exact(show Jcd Uc=2 from by kernel_rfl)▸Jn7 T E C G n ns vs tx
  ·exact(show Jcd Kl=4 from by kernel_rfl)▸Jn8 T E C G n ns vs tx
  ·exact(show Jcd K5=2 from by kernel_rfl)▸Jn9 T E C G n ns vs tx
  ·exact(show Jcd Vq=2 from by kernel_rfl)▸Jsk T E C G n ns vs tx
  ·exact(show Jcd Ju=3 from by kernel_rfl)▸Jlr T E C G n ns vs tx
  ·exact(show Jcd Jr=2 from by kernel_rfl)▸Jje T E C G n ns vs tx
  ·exact(show Jcd Kf=3 from by kernel_rfl)▸Jlq T E C G n ns vs tx
  ·exact(show Jcd Ke=2 from by kernel_rfl)▸Jlp T E C G n ns vs tx
  ·exact(show Jcd Jh=1 from by kernel_rfl)▸Jlo T E C G n ns vs tx
theorem Kd1:Ok Tryz.prog 130 (X7.con Jrm):=Za (Ue mixed W91.ok (by kernel_rfl) (by kernel_rfl) (U4 (l:=([(75,Tryz.f75)]:List (Nat×Func))) (List.forall_mem_cons.2 ⟨by kernel_rfl,by simp⟩)) (fun _ yy=>Xs (Jcd yy.1.2.1)) (fun _ _=>fun _=>na ()) fun T xx yy _=>Kqb T xx yy)
abbrev W92:=W91.add Kd1
def doS (r:Reg) (e:Ev):Reg:=match(Ji e.2.1).2.2.2.1 with
 |some 149=>Jbv r e
 |some 153=>F5 r e
 |some 155=>F9 r e
 |some 158=>Jaa r e
 |some 160=>F4 r e
 |some 162=>F7 r e
 |some 165=>F6 r e
 |some 167=>F8 r e
 |some 170=>Jhx r e
 |some 172=>Jbu r e
 |_=>r
def Jq (r:Reg) (e:Ev):Reg:=(e.2.2.2.1.getD 0 0,(doS r e).2)
def Ho (h:Ka) (e:Ev):Ka:=
 bif e.2.1.toList==Jy.toList then(h.1++[e],h.2.1.take (h.2.1.length-1),h.2.2.take (h.2.1.length-1)) else(h.1++[e],h.2.1++[e],h.2.2++[Jq (Kh h.2.2) e])
def K9 (h:Ka) (e:Ev):Int:=if Jb e≠0 then Jb e else L3 h e
def Jdl (e:Ev):Prop:=e.2.2.1.length≤1000000∧e.2.2.2.1.length≤1000000∧∀s∈e.2.2.1,s.size≤1000000
def Vf (h:Ka) (e:Ev):Ka:=if K9 h e=0 then Ho h e else h
def Kj6:X7:={T? :=none,s:=Jhn,args:=[aEv],ress:=[I],pre:=fun h (e,_)=>[Kg h,h.1.length<1000,Jdl e],spec:=fun h (e,_)=>(K9 h e,()),post:=fun h (e,_)=>Vf h e}
def Jc1:X7:={Kj6 with pre:=fun h (e,_)=>[Kg h,h.1.length<1000,Jdl e,Jb e=0,L3 h e=0]}
theorem Jb3 {h:Ka} {n:Int} {ns:List ByteArray} {vs:List Int} {roles:List (Int×Bool)} {ck:Int} (e:Jrx h n ns vs roles ck=0):n=(h.1.length:Int)+1∧¬vs.getD 0 0<(Kh h.2.2).1∧Kj (Kh h.2.2) ns roles 0=false∧Kv (Kh h.2.2) ns roles 0=false∧ck=0:=by
 unfold Jrx at e
 cases h1:n !=(h.1.length:Int)+1 with
 |true=>rw[h1] at e;cases e
 | false =>
  rw[h1,cond_false] at e
  cases h2:decide (vs.getD 0 0<(Kh h.2.2).1) with
  |true=>rw[h2] at e;cases e
  | false =>
   rw[h2,cond_false] at e
   cases h3:Kj (Kh h.2.2) ns roles 0 with
   |true=>rw[h3] at e;cases e
   | false =>
    rw[h3,cond_false] at e
    cases h4:Kv (Kh h.2.2) ns roles 0 with
    |true=>rw[h4] at e;cases e
    |false=>
     rw[h4,cond_false] at e
     exact⟨bne_eq_false_iff_eq.1 h1,of_decide_eq_false h2,rfl,rfl,e⟩
theorem Jm {r:Reg} {ns:List ByteArray} {w:Int} {b:Bool} {l:List (Int×Bool)} {i:Nat} (h:Kj r ns ((w,b)::l) i=false):(b=true→Vl r w (ns.getD i Ja)=true)∧Kj r ns l (i+1)=false:=by
 unfold Kj at h
 cases b with
 |false=>exact⟨fun f=>(by cases f),h⟩
 |true=>
  cases h1:Vl r w (ns.getD i Ja) with
  |true=>rw[h1] at h;exact⟨fun _=>rfl,h⟩
  |false=>rw[h1] at h;cases h
theorem Jtp {r:Reg} {s:ByteArray} (h:Vl r 0 s=true):0≤J2 r.2.2.1 s:=of_decide_eq_true (show decide _=true from h)
theorem J4y {r:Reg} {s:ByteArray} (h:Vl r 1 s=true):0≤Kx r.2.2.2.1 s:=of_decide_eq_true (show decide _=true from h)
theorem J4x {r:Reg} {s:ByteArray} (h:Vl r 2 s=true):0≤J7 r.2.2.2.2.2.1 s:=of_decide_eq_true (show decide _=true from h)
theorem Kj4 {r:Reg} {s:ByteArray} (h:Vl r 3 s=true):0≤U1 r.2.2.2.2.2.2 s:=of_decide_eq_true (show decide _=true from h)
theorem J1v {h:Ka} {n:Int} {k:ByteArray} {ns:List ByteArray} {vs:List Int} {tx:ByteArray} (hk:(k.toList==Jy.toList)=false) (hc:Jb (n,k,ns,vs,tx)=0) (ha:L3 h (n,k,ns,vs,tx)=0):K9 h (n,k,ns,vs,tx)=0∧Vf h (n,k,ns,vs,tx)=(h.1++[(n,k,ns,vs,tx)],h.2.1++[(n,k,ns,vs,tx)],h.2.2++[Jq (Kh h.2.2) (n,k,ns,vs,tx)]):=by
 have e:K9 h (n,k,ns,vs,tx)=0:=by unfold K9;rw[if_neg (by rw[hc];simp)];exact ha
 refine⟨e, ?_⟩
 unfold Vf;rw[if_pos e];unfold Ho;dsimp only;rw[hk];rfl
theorem Jhq {E C:List Ev} {G:List Reg} {n:Int} {k:ByteArray} {ns:List ByteArray} {vs:List Int} {tx:ByteArray} (hk:(k.toList==Jy.toList)=false) (hc:Jb (n,k,ns,vs,tx)=0) (ha:L3 (E,C,G) (n,k,ns,vs,tx)=0):Kj (Kh G) ns (Ji k).1 0=false∧K9 (E,C,G) (n,k,ns,vs,tx)=0∧Vf (E,C,G) (n,k,ns,vs,tx)=(E++[(n,k,ns,vs,tx)],C++[(n,k,ns,vs,tx)],G++[Jq (Kh G) (n,k,ns,vs,tx)]):=
 have e:=Xa (h:=(E,C,G)) (n:=n) (ns:=ns) (vs:=vs) (tx:=tx) hk
 ⟨(Jb3 (e.symm.trans ha)).2.2.1,J1v hk hc ha⟩
theorem J3c {h:Ka} {n:Int} {ns:List ByteArray} {vs:List Int} {tx:ByteArray} (ha:L3 h (n,Jy,ns,vs,tx)=0):n=(h.1.length:Int)+1∧h.2.1.length≠0∧((h.2.1.getD (h.2.1.length-1) ev0).2.1.toList==Jh.toList)=false:=by
 unfold L3 at ha
 dsimp only at ha
 rw[show(Jy.toList==Jy.toList)=true from by kernel_rfl,cond_true] at ha
 cases h1:n !=(h.1.length:Int)+1 with
 |true=>rw[h1] at ha;cases ha
 | false =>
  rw[h1,cond_false] at ha
  cases h2:(h.2.1.length:Int)==0 with
  |true=>rw[h2] at ha;cases ha
  |false=>
   rw[h2,cond_false] at ha
   cases h3:(h.2.1.getD (h.2.1.length-1) ev0).2.1.toList==Jh.toList with
   |true=>rw[h3] at ha;cases ha
   |false=>exact⟨bne_eq_false_iff_eq.1 h1,(fun e=>by rw[e] at h2;cases h2),rfl⟩
def Z43 (a:List Ev):=List.length a<1000
def Jd3 (a:List Ev):=(List.length a+1)*88≤140737488355328
def Jev:=0≤1000000∧T2 (0≤1000000) (Tw (0≤1000000))
def Jeu (a:List Ev) (b:List Reg):=(List.take (Int.toNat (Z2 a)) a,List.take (Int.toNat (Z2 a)) b)
def Ft (a:List Ev) (b:List Reg):=Jd3 a∧(List.length b+1)*136≤140737488355328
def Jes (a:List Ev) (b:List Reg):=(0≤Z2 a∧Z2 a≤Ln a)∧0≤Z2 a∧Z2 a≤Ln b
def Jer (a:Ls) (b:Li):=Fm a∧Z66 b∧Jg6 a
def Jeq (a:List Reg):=List.length (Hy a).1≤1000000∧List.length (Hx a).1≤1000000∧List.length (Dk a).1≤1000000∧List.length (Hd a).1≤1000000∧List.length (Hd a).2≤1000000
theorem Jsl:wpFO Tryz.prog W92.g (na ()) (fun _=>na ()) (Sx.look ([(75,Tryz.f75),(129,Tryz.f129)]:List (Nat×Func))) Tryz.f121 Jc1 T (E,C,G) ((n,Jy,ns,vs,tx),()):=by
 refine(by kernel_rfl:(Kg (E,C,G)→Z43 E→Jdl (Z6 n ns vs tx)→Jb (Z6 n ns vs tx)=0→Jt4 E C G n ns vs tx=0→Jer ns vs∧Br (Jb (Z6 n ns vs tx) !=0) (Sf true (Sf T ((E,C,G)=Vf (E,C,G) (Z6 n ns vs tx)∧Jb (Z6 n ns vs tx)=K9 (E,C,G) (Z6 n ns vs tx)))) ((Kg (E,C,G)∧Jb (Z6 n ns vs tx)=0)∧Br (Jt4 E C G n ns vs tx !=0) (Sf true (Sf T ((E,C,G)=Vf (E,C,G) (Z6 n ns vs tx)∧Jt4 E C G n ns vs tx=K9 (E,C,G) (Z6 n ns vs tx)))) (Jdu ns vs∧Jd3 E∧Br true (Z72 C∧Jes C G∧Sf true (Sf T ((E++[Z6 n ns vs tx],Jeu C G)=Vf (E,C,G) (Z6 n ns vs tx)∧0=K9 (E,C,G) (Z6 n ns vs tx)))) (Br (Yb G) (Ya G∧Jeq G∧False∧Kt vs∧Ft C G∧Sf true (Sf T ((E++[Z6 n ns vs tx],C++[Z6 n ns vs tx],G++[(U7 vs,Jae G)])=Vf (E,C,G) (Z6 n ns vs tx)∧0=K9 (E,C,G) (Z6 n ns vs tx)))) (Jev∧False∧Kt vs∧Ft C G∧Sf true (Sf T ((E++[Z6 n ns vs tx],C++[Z6 n ns vs tx],G++[(U7 vs,Dl)])=Vf (E,C,G) (Z6 n ns vs tx)∧0=K9 (E,C,G) (Z6 n ns vs tx))))))))=_).mp ?_
 delta Z2 Z6 Z36 Z43 Z66 Z72 U7 Kt Yb Fm Jt4 Jd3 Jhi Jdu Dl Jev Vy Ya Jeu Jg6 Ft Fs Fr Jaf Hy Hx Dk Hd Jes Jer Jae Jeq Br Iw Bd T2 Tw Sf Ln Gt E2 Jy
 intro hh hlt hsz hc ha
 obtain⟨a1,a2,a3⟩:=J3c ha
 have n1:E.length≤1000:=hh.nE
 have n2:C.length≤E.length:=hh.nC
 have n3:G.length=C.length:=hh.nG
 have a2:C.length≠0:=a2
 have hC:((C.length:Int)-1).toNat=C.length-1:=by omega
 have eE:K9 (E,C,G) (n,Jy,ns,vs,tx)=0:=by unfold K9;rw[if_neg (by rw[hc];simp)];exact ha
 have eP:Vf (E,C,G) (n,Jy,ns,vs,tx)=(E++[(n,Jy,ns,vs,tx)],C.take (C.length-1),G.take (C.length-1)):=by
  unfold Vf;rw[if_pos eE];unfold Ho;dsimp only;rw[show(Jy.toList==Jy.toList)=true from by kernel_rfl];rfl
 simp only[eE,eP,hc,ha,hC]
 repeat' first|exact hh|exact hsz.2.2|apply And.intro|intro _
 all_goals first|trivial|omega|assumption|contradiction|exact hsz.1|exact hsz.2.1|rfl
def K11 (a:Int) (b:Ls) (c:Li) (d:Bt):=(Jbv Vy (Z32 a b c d)).2
def K1s (a:Int) (b:Ls) (c:Li) (d:Bt):=(K11 a b c d).2
def K1e (a:Int) (b:Ls) (c:Li) (d:Bt):=(K1s a b c d).2
def K01 (a:Int) (b:Ls) (c:Li) (d:Bt):=(K1e a b c d).2
def Kvj (a:List Reg) (b:Int) (c:Ls) (d:Li) (e:Bt):=(Jbv (Ym a) (Z32 b c d e)).2
def Ka0 (a:List Reg) (b:Int) (c:Ls) (d:Li) (e:Bt):=(Kvj a b c d e).2
def Kan (a:List Reg) (b:Int) (c:Ls) (d:Li) (e:Bt):=(Ka0 a b c d e).2
def Kaj (a:List Reg) (b:Int) (c:Ls) (d:Li) (e:Bt):=(Kan a b c d e).2
theorem Jjf:wpFO Tryz.prog W92.g (na ()) (fun _=>na ()) (Sx.look ([(75,Tryz.f75),(129,Tryz.f129)]:List (Nat×Func))) Tryz.f121 Jc1 T (E,C,G) ((n,Jt,ns,vs,tx),()):=by
 refine(by kernel_rfl:(Kg (E,C,G)→Z43 E→Jdl (Z32 n ns vs tx)→Jb (Z32 n ns vs tx)=0→Jr1 E C G n ns vs tx=0→Jer ns vs∧Br (Jb (Z32 n ns vs tx) !=0) (Sf true (Sf T ((E,C,G)=Vf (E,C,G) (Z32 n ns vs tx)∧Jb (Z32 n ns vs tx)=K9 (E,C,G) (Z32 n ns vs tx)))) ((Kg (E,C,G)∧Jb (Z32 n ns vs tx)=0)∧Br (Jr1 E C G n ns vs tx !=0) (Sf true (Sf T ((E,C,G)=Vf (E,C,G) (Z32 n ns vs tx)∧Jr1 E C G n ns vs tx=K9 (E,C,G) (Z32 n ns vs tx)))) (Jdu ns vs∧Jd3 E∧Br false (Z72 C∧Jes C G∧Sf true (Sf T ((E++[Z32 n ns vs tx],Jeu C G)=Vf (E,C,G) (Z32 n ns vs tx)∧0=K9 (E,C,G) (Z32 n ns vs tx)))) (Br (Yb G) (Ya G∧Jeq G∧(Xb G∧Xc ns∧Z59 vs)∧Kt vs∧Ft C G∧Sf true (Sf T ((E++[Z32 n ns vs tx],C++[Z32 n ns vs tx],G++[(U7 vs,(Kvj G n ns vs tx).1,(Ka0 G n ns vs tx).1,(Kan G n ns vs tx).1,(Kaj G n ns vs tx).1,E2 (Kaj G n ns vs tx).2)])=Vf (E,C,G) (Z32 n ns vs tx)∧0=K9 (E,C,G) (Z32 n ns vs tx)))) (Jev∧(Y1∧Xc ns∧Z59 vs)∧Kt vs∧Ft C G∧Sf true (Sf T ((E++[Z32 n ns vs tx],C++[Z32 n ns vs tx],G++[(U7 vs,(K11 n ns vs tx).1,(K1s n ns vs tx).1,(K1e n ns vs tx).1,(K01 n ns vs tx).1,E2 (K01 n ns vs tx).2)])=Vf (E,C,G) (Z32 n ns vs tx)∧0=K9 (E,C,G) (Z32 n ns vs tx))))))))=_).mp ?_
 delta Z2 Z32 Z36 Z43 Z59 Z66 Z72 U7 Kt Yb Fm Xc Jr1 Jd3 Jhi Jdu Dl Jev Vy Ya Y1 Jeu Jg6 Ft Fs K11 K1s Fr Ja2 Jaf K1e Hy Hx K01 Dk Hd Jes Jer Jae Jeq Ym Xb Kvj Ka0 Kan Kaj Br Iw Bd T2 Tw Sf Ln Gt E2 Jt
 intro hh hlt hsz hc ha
 obtain⟨u0,aE,aP⟩:=Jhq (k:=Jt) (by kernel_rfl) hc ha
 obtain⟨hn,hv,hR,_,n1,n2,n3,hG,hV⟩:=H9 hh hc
 simp only[Ub,List.length_cons,List.length_nil] at hn hv u0
 have hs:Jq (Kh G) (n,Jt,ns,vs,tx)=(vs.getD 0 0,(Jbv (Kh G) (n,Jt,ns,vs,tx)).2):=by simp only[Jq,doS,Ub]
 simp only[aE,aP,hs,hc,ha,hG,H0,Jin,Prod.eta]
 repeat' first|exact hV|exact hh|exact hR|exact hsz.2.2|apply And.intro|intro _
 all_goals first|trivial|omega|assumption|exact Nat.le_trans hR.nS (by decide)|exact Nat.le_trans hR.nO (by decide)|exact Nat.le_trans hR.nM (by decide)|exact Nat.le_trans hR.nX (by decide)|exact Nat.le_trans hR.nQ (by decide)|exact Nat.zero_le _|exact hsz.1|exact hsz.2.1|(rename_i h;have h:=of_decide_eq_true h;omega)|rfl|(rw[←Kp ‹_›];first|done|exact hR)
def K2b (a:Int) (b:Ls) (c:Li) (d:Bt):=(F5 Vy (Z8 a b c d)).2
def K12 (a:Int) (b:Ls) (c:Li) (d:Bt):=(K2b a b c d).2
def K1n (a:Int) (b:Ls) (c:Li) (d:Bt):=(K12 a b c d).2
def K1b (a:Int) (b:Ls) (c:Li) (d:Bt):=(K1n a b c d).2
def Kvo (a:List Reg) (b:Int) (c:Ls) (d:Li) (e:Bt):=(F5 (Ym a) (Z8 b c d e)).2
def Ka7 (a:List Reg) (b:Int) (c:Ls) (d:Li) (e:Bt):=(Kvo a b c d e).2
def Kaz (a:List Reg) (b:Int) (c:Ls) (d:Li) (e:Bt):=(Ka7 a b c d e).2
def Kao (a:List Reg) (b:Int) (c:Ls) (d:Li) (e:Bt):=(Kaz a b c d e).2
theorem Joa:wpFO Tryz.prog W92.g (na ()) (fun _=>na ()) (Sx.look ([(75,Tryz.f75),(129,Tryz.f129)]:List (Nat×Func))) Tryz.f121 Jc1 T (E,C,G) ((n,Uc,ns,vs,tx),()):=by
 refine(by kernel_rfl:(Kg (E,C,G)→Z43 E→Jdl (Z8 n ns vs tx)→Jb (Z8 n ns vs tx)=0→Jt3 E C G n ns vs tx=0→Jer ns vs∧Br (Jb (Z8 n ns vs tx) !=0) (Sf true (Sf T ((E,C,G)=Vf (E,C,G) (Z8 n ns vs tx)∧Jb (Z8 n ns vs tx)=K9 (E,C,G) (Z8 n ns vs tx)))) ((Kg (E,C,G)∧Jb (Z8 n ns vs tx)=0)∧Br (Jt3 E C G n ns vs tx !=0) (Sf true (Sf T ((E,C,G)=Vf (E,C,G) (Z8 n ns vs tx)∧Jt3 E C G n ns vs tx=K9 (E,C,G) (Z8 n ns vs tx)))) (Jdu ns vs∧Jd3 E∧Br false (Z72 C∧Jes C G∧Sf true (Sf T ((E++[Z8 n ns vs tx],Jeu C G)=Vf (E,C,G) (Z8 n ns vs tx)∧0=K9 (E,C,G) (Z8 n ns vs tx)))) (Br (Yb G) (Ya G∧Jeq G∧(Xb G∧Xc ns∧Z59 vs∧0≤J2 (Hy G).1 (Da ns))∧Kt vs∧Ft C G∧Sf true (Sf T ((E++[Z8 n ns vs tx],C++[Z8 n ns vs tx],G++[(U7 vs,(Kvo G n ns vs tx).1,(Ka7 G n ns vs tx).1,(Kaz G n ns vs tx).1,(Kao G n ns vs tx).1,E2 (Kao G n ns vs tx).2)])=Vf (E,C,G) (Z8 n ns vs tx)∧0=K9 (E,C,G) (Z8 n ns vs tx)))) (Jev∧(Y1∧Xc ns∧Z59 vs∧0≤J2 [] (Da ns))∧Kt vs∧Ft C G∧Sf true (Sf T ((E++[Z8 n ns vs tx],C++[Z8 n ns vs tx],G++[(U7 vs,(K2b n ns vs tx).1,(K12 n ns vs tx).1,(K1n n ns vs tx).1,(K1b n ns vs tx).1,E2 (K1b n ns vs tx).2)])=Vf (E,C,G) (Z8 n ns vs tx)∧0=K9 (E,C,G) (Z8 n ns vs tx))))))))=_).mp ?_
 delta Z2 Z8 Z36 Z43 Z59 Z66 Z72 U7 Kt Yb Da Fm Xc Jt3 Jd3 Jhi Jdu Dl Jev Vy Ya Y1 Jeu Jg6 Ft K2b Fs K12 Fr Ja2 K1n Jaf Hy K1b Hx Dk Hd Jes Jer Jae Jeq Ym Xb Kvo Ka7 Kaz Kao Br Iw Bd T2 Tw Sf Ln Gt E2 Uc
 intro hh hlt hsz hc ha
 obtain⟨u0,aE,aP⟩:=Jhq (k:=Uc) (by kernel_rfl) hc ha
 obtain⟨hn,hv,hR,_,n1,n2,n3,hG,hV⟩:=H9 hh hc
 simp only[Vg,List.length_cons,List.length_nil] at hn hv u0
 obtain⟨k0,u1⟩:=Jm u0
 have f0:=Jtp (k0 rfl)
 have hs:Jq (Kh G) (n,Uc,ns,vs,tx)=(vs.getD 0 0,(F5 (Kh G) (n,Uc,ns,vs,tx)).2):=by simp only[Jq,doS,Vg]
 simp only[aE,aP,hs,hc,ha,hG,H0,Jin,Prod.eta]
 repeat' first|exact hV|exact hh|exact hR|exact hsz.2.2|apply And.intro|intro _
 all_goals first|trivial|omega|assumption|exact Nat.le_trans hR.nS (by decide)|exact Nat.le_trans hR.nO (by decide)|exact Nat.le_trans hR.nM (by decide)|exact Nat.le_trans hR.nX (by decide)|exact Nat.le_trans hR.nQ (by decide)|exact Nat.zero_le _|exact hsz.1|exact hsz.2.1|(rename_i h;have h:=of_decide_eq_true h;omega)|rfl|(rw[←Kp ‹_›];first|done|exact hR)|(rw[Kp ‹_›] at f0;exact f0)
def K2a (a:Int) (b:Ls) (c:Li) (d:Bt):=(F9 Vy (Z9 a b c d)).2
def K15 (a:Int) (b:Ls) (c:Li) (d:Bt):=(K2a a b c d).2
def K1o (a:Int) (b:Ls) (c:Li) (d:Bt):=(K15 a b c d).2
def K08 (a:Int) (b:Ls) (c:Li) (d:Bt):=(K1o a b c d).2
def Kvr (a:List Reg) (b:Int) (c:Ls) (d:Li) (e:Bt):=(F9 (Ym a) (Z9 b c d e)).2
def Ka9 (a:List Reg) (b:Int) (c:Ls) (d:Li) (e:Bt):=(Kvr a b c d e).2
def Ka2 (a:List Reg) (b:Int) (c:Ls) (d:Li) (e:Bt):=(Ka9 a b c d e).2
def Kas (a:List Reg) (b:Int) (c:Ls) (d:Li) (e:Bt):=(Ka2 a b c d e).2
theorem Job:wpFO Tryz.prog W92.g (na ()) (fun _=>na ()) (Sx.look ([(75,Tryz.f75),(129,Tryz.f129)]:List (Nat×Func))) Tryz.f121 Jc1 T (E,C,G) ((n,Kl,ns,vs,tx),()):=by
 refine(by kernel_rfl:(Kg (E,C,G)→Z43 E→Jdl (Z9 n ns vs tx)→Jb (Z9 n ns vs tx)=0→Jr6 E C G n ns vs tx=0→Jer ns vs∧Br (Jb (Z9 n ns vs tx) !=0) (Sf true (Sf T ((E,C,G)=Vf (E,C,G) (Z9 n ns vs tx)∧Jb (Z9 n ns vs tx)=K9 (E,C,G) (Z9 n ns vs tx)))) ((Kg (E,C,G)∧Jb (Z9 n ns vs tx)=0)∧Br (Jr6 E C G n ns vs tx !=0) (Sf true (Sf T ((E,C,G)=Vf (E,C,G) (Z9 n ns vs tx)∧Jr6 E C G n ns vs tx=K9 (E,C,G) (Z9 n ns vs tx)))) (Jdu ns vs∧Jd3 E∧Br false (Z72 C∧Jes C G∧Sf true (Sf T ((E++[Z9 n ns vs tx],Jeu C G)=Vf (E,C,G) (Z9 n ns vs tx)∧0=K9 (E,C,G) (Z9 n ns vs tx)))) (Br (Yb G) (Ya G∧Jeq G∧(Xb G∧Jut ns∧Kk4 vs G ns)∧Kt vs∧Ft C G∧Sf true (Sf T ((E++[Z9 n ns vs tx],C++[Z9 n ns vs tx],G++[(U7 vs,(Kvr G n ns vs tx).1,(Ka9 G n ns vs tx).1,(Ka2 G n ns vs tx).1,(Kas G n ns vs tx).1,E2 (Kas G n ns vs tx).2)])=Vf (E,C,G) (Z9 n ns vs tx)∧0=K9 (E,C,G) (Z9 n ns vs tx)))) (Jev∧(Y1∧Jut ns∧Knm vs ns)∧Kt vs∧Ft C G∧Sf true (Sf T ((E++[Z9 n ns vs tx],C++[Z9 n ns vs tx],G++[(U7 vs,(K2a n ns vs tx).1,(K15 n ns vs tx).1,(K1o n ns vs tx).1,(K08 n ns vs tx).1,E2 (K08 n ns vs tx).2)])=Vf (E,C,G) (Z9 n ns vs tx)∧0=K9 (E,C,G) (Z9 n ns vs tx))))))))=_).mp ?_
 delta Z2 Z9 Z36 Z43 Z53 Z66 Z72 U7 Kt Yb Fm Jla Jut Jr6 Jd3 Jhi Ki4 Jdu Dl Jev Vy Ya Y1 Jeu Knm Jg6 Ft K2a K15 Fs Fr Ja2 K1o Jaf Hy K08 Hx Dk Hd Jes Jer Khg Kk4 Jae Jeq Ym Xb Kvr Ka9 Ka2 Kas Br Iw Bd T2 Tw Sf Ln Gt E2 Kl
 intro hh hlt hsz hc ha
 obtain⟨u0,aE,aP⟩:=Jhq (k:=Kl) (by kernel_rfl) hc ha
 obtain⟨hn,hv,hR,_,n1,n2,n3,hG,hV⟩:=H9 hh hc
 simp only[Uw,List.length_cons,List.length_nil] at hn hv u0
 obtain⟨k0,u1⟩:=Jm u0
 obtain⟨k1,u2⟩:=Jm u1
 obtain⟨k2,u3⟩:=Jm u2
 have f1:=Jtp (k1 rfl)
 have f2:=Jtp (k2 rfl)
 have hs:Jq (Kh G) (n,Kl,ns,vs,tx)=(vs.getD 0 0,(F9 (Kh G) (n,Kl,ns,vs,tx)).2):=by simp only[Jq,doS,Uw]
 simp only[aE,aP,hs,hc,ha,hG,H0,Jin,Prod.eta]
 repeat' first|exact hV|exact hh|exact hR|exact hsz.2.2|apply And.intro|intro _
 all_goals first|trivial|omega|assumption|exact Nat.le_trans hR.nS (by decide)|exact Nat.le_trans hR.nO (by decide)|exact Nat.le_trans hR.nM (by decide)|exact Nat.le_trans hR.nX (by decide)|exact Nat.le_trans hR.nQ (by decide)|exact Nat.zero_le _|exact hsz.1|exact hsz.2.1|(rename_i h;have h:=of_decide_eq_true h;omega)|rfl|(rw[←Kp ‹_›];first|done|exact hR)|(rw[Kp ‹_›] at f1;exact f1)|(rw[Kp ‹_›] at f2;exact f2)
def K2c (a:Int) (b:Ls) (c:Li) (d:Bt):=(Jaa Vy (Z10 a b c d)).2
def K13 (a:Int) (b:Ls) (c:Li) (d:Bt):=(K2c a b c d).2
def K1r (a:Int) (b:Ls) (c:Li) (d:Bt):=(K13 a b c d).2
def K1a (a:Int) (b:Ls) (c:Li) (d:Bt):=(K1r a b c d).2
def Kvp (a:List Reg) (b:Int) (c:Ls) (d:Li) (e:Bt):=(Jaa (Ym a) (Z10 b c d e)).2
def Ka8 (a:List Reg) (b:Int) (c:Ls) (d:Li) (e:Bt):=(Kvp a b c d e).2
def Kax (a:List Reg) (b:Int) (c:Ls) (d:Li) (e:Bt):=(Ka8 a b c d e).2
def Kar (a:List Reg) (b:Int) (c:Ls) (d:Li) (e:Bt):=(Kax a b c d e).2
theorem Joc:wpFO Tryz.prog W92.g (na ()) (fun _=>na ()) (Sx.look ([(75,Tryz.f75),(129,Tryz.f129)]:List (Nat×Func))) Tryz.f121 Jc1 T (E,C,G) ((n,K5,ns,vs,tx),()):=by
 refine(by kernel_rfl:(Kg (E,C,G)→Z43 E→Jdl (Z10 n ns vs tx)→Jb (Z10 n ns vs tx)=0→Jr7 E C G n ns vs tx=0→Jer ns vs∧Br (Jb (Z10 n ns vs tx) !=0) (Sf true (Sf T ((E,C,G)=Vf (E,C,G) (Z10 n ns vs tx)∧Jb (Z10 n ns vs tx)=K9 (E,C,G) (Z10 n ns vs tx)))) ((Kg (E,C,G)∧Jb (Z10 n ns vs tx)=0)∧Br (Jr7 E C G n ns vs tx !=0) (Sf true (Sf T ((E,C,G)=Vf (E,C,G) (Z10 n ns vs tx)∧Jr7 E C G n ns vs tx=K9 (E,C,G) (Z10 n ns vs tx)))) (Jdu ns vs∧Jd3 E∧Br false (Z72 C∧Jes C G∧Sf true (Sf T ((E++[Z10 n ns vs tx],Jeu C G)=Vf (E,C,G) (Z10 n ns vs tx)∧0=K9 (E,C,G) (Z10 n ns vs tx)))) (Br (Yb G) (Ya G∧Jeq G∧(Xb G∧Xc ns∧Z56 vs)∧Kt vs∧Ft C G∧Sf true (Sf T ((E++[Z10 n ns vs tx],C++[Z10 n ns vs tx],G++[(U7 vs,(Kvp G n ns vs tx).1,(Ka8 G n ns vs tx).1,(Kax G n ns vs tx).1,(Kar G n ns vs tx).1,E2 (Kar G n ns vs tx).2)])=Vf (E,C,G) (Z10 n ns vs tx)∧0=K9 (E,C,G) (Z10 n ns vs tx)))) (Jev∧(Y1∧Xc ns∧Z56 vs)∧Kt vs∧Ft C G∧Sf true (Sf T ((E++[Z10 n ns vs tx],C++[Z10 n ns vs tx],G++[(U7 vs,(K2c n ns vs tx).1,(K13 n ns vs tx).1,(K1r n ns vs tx).1,(K1a n ns vs tx).1,E2 (K1a n ns vs tx).2)])=Vf (E,C,G) (Z10 n ns vs tx)∧0=K9 (E,C,G) (Z10 n ns vs tx))))))))=_).mp ?_
 delta Z2 Z10 Z36 Z43 Z56 Z66 Z72 U7 Kt Yb Fm Xc Jr7 Jd3 Jhi Jdu Dl Jev Vy Ya Y1 Jeu Jg6 Ft K2c K13 Fs K1r Fr Ja2 Jaf Hy K1a Hx Dk Hd Jes Jer Jae Jeq Ym Xb Kvp Ka8 Kax Kar Br Iw Bd T2 Tw Sf Ln Gt E2 K5
 intro hh hlt hsz hc ha
 obtain⟨u0,aE,aP⟩:=Jhq (k:=K5) (by kernel_rfl) hc ha
 obtain⟨hn,hv,hR,_,n1,n2,n3,hG,hV⟩:=H9 hh hc
 simp only[Ux,List.length_cons,List.length_nil] at hn hv u0
 obtain⟨k0,u1⟩:=Jm u0
 have f0:=J4y (k0 rfl)
 have hs:Jq (Kh G) (n,K5,ns,vs,tx)=(vs.getD 0 0,(Jaa (Kh G) (n,K5,ns,vs,tx)).2):=by simp only[Jq,doS,Ux]
 simp only[aE,aP,hs,hc,ha,hG,H0,Jin,Prod.eta]
 repeat' first|exact hV|exact hh|exact hR|exact hsz.2.2|apply And.intro|intro _
 all_goals first|trivial|omega|assumption|exact Nat.le_trans hR.nS (by decide)|exact Nat.le_trans hR.nO (by decide)|exact Nat.le_trans hR.nM (by decide)|exact Nat.le_trans hR.nX (by decide)|exact Nat.le_trans hR.nQ (by decide)|exact Nat.zero_le _|exact hsz.1|exact hsz.2.1|(rename_i h;have h:=of_decide_eq_true h;omega)|rfl|(rw[←Kp ‹_›];first|done|exact hR)|(rw[Kp ‹_›] at f0;exact f0)
def K2i (a:Int) (b:Ls) (c:Li) (d:Bt):=(F4 Vy (Z3 a b c d)).2
def K18 (a:Int) (b:Ls) (c:Li) (d:Bt):=(K2i a b c d).2
def K1u (a:Int) (b:Ls) (c:Li) (d:Bt):=(K18 a b c d).2
def K1k (a:Int) (b:Ls) (c:Li) (d:Bt):=(K1u a b c d).2
def Kvs (a:List Reg) (b:Int) (c:Ls) (d:Li) (e:Bt):=(F4 (Ym a) (Z3 b c d e)).2
def Kvm (a:List Reg) (b:Int) (c:Ls) (d:Li) (e:Bt):=(Kvs a b c d e).2
def Ka6 (a:List Reg) (b:Int) (c:Ls) (d:Li) (e:Bt):=(Kvm a b c d e).2
def Kat (a:List Reg) (b:Int) (c:Ls) (d:Li) (e:Bt):=(Ka6 a b c d e).2
theorem Jsm:wpFO Tryz.prog W92.g (na ()) (fun _=>na ()) (Sx.look ([(75,Tryz.f75),(129,Tryz.f129)]:List (Nat×Func))) Tryz.f121 Jc1 T (E,C,G) ((n,Vq,ns,vs,tx),()):=by
 refine(by kernel_rfl:(Kg (E,C,G)→Z43 E→Jdl (Z3 n ns vs tx)→Jb (Z3 n ns vs tx)=0→Jr8 E C G n ns vs tx=0→Jer ns vs∧Br (Jb (Z3 n ns vs tx) !=0) (Sf true (Sf T ((E,C,G)=Vf (E,C,G) (Z3 n ns vs tx)∧Jb (Z3 n ns vs tx)=K9 (E,C,G) (Z3 n ns vs tx)))) ((Kg (E,C,G)∧Jb (Z3 n ns vs tx)=0)∧Br (Jr8 E C G n ns vs tx !=0) (Sf true (Sf T ((E,C,G)=Vf (E,C,G) (Z3 n ns vs tx)∧Jr8 E C G n ns vs tx=K9 (E,C,G) (Z3 n ns vs tx)))) (Jdu ns vs∧Jd3 E∧Br false (Z72 C∧Jes C G∧Sf true (Sf T ((E++[Z3 n ns vs tx],Jeu C G)=Vf (E,C,G) (Z3 n ns vs tx)∧0=K9 (E,C,G) (Z3 n ns vs tx)))) (Br (Yb G) (Ya G∧Jeq G∧J3w G ns vs∧Kt vs∧Ft C G∧Sf true (Sf T ((E++[Z3 n ns vs tx],C++[Z3 n ns vs tx],G++[(U7 vs,(Kvs G n ns vs tx).1,(Kvm G n ns vs tx).1,(Ka6 G n ns vs tx).1,(Kat G n ns vs tx).1,E2 (Kat G n ns vs tx).2)])=Vf (E,C,G) (Z3 n ns vs tx)∧0=K9 (E,C,G) (Z3 n ns vs tx)))) (Jev∧Kky ns vs∧Kt vs∧Ft C G∧Sf true (Sf T ((E++[Z3 n ns vs tx],C++[Z3 n ns vs tx],G++[(U7 vs,(K2i n ns vs tx).1,(K18 n ns vs tx).1,(K1u n ns vs tx).1,(K1k n ns vs tx).1,E2 (K1k n ns vs tx).2)])=Vf (E,C,G) (Z3 n ns vs tx)∧0=K9 (E,C,G) (Z3 n ns vs tx))))))))=_).mp ?_
 delta Z2 Z3 Z36 Z43 Z65 Z66 Z72 U7 Kt Yb Da Fm Xc Jr8 Jd3 Jhi Ki5 Jdu Dl Jev Vy Ya Y1 Jeu Jg6 Ft K2i K18 Fs K1u Fr Ja2 K1k Jaf Hy Hx Dk Hd Jes Jer Kha Kky Jae Jeq Ym Xb Kvs Kvm Ka6 Kat J3w Br Iw Bd T2 Tw Sf Ln Gt E2 Vq
 intro hh hlt hsz hc ha
 obtain⟨u0,aE,aP⟩:=Jhq (k:=Vq) (by kernel_rfl) hc ha
 obtain⟨hn,hv,hR,_,n1,n2,n3,hG,hV⟩:=H9 hh hc
 simp only[Vu,List.length_cons,List.length_nil] at hn hv u0
 obtain⟨k0,u1⟩:=Jm u0
 have f0:=J4y (k0 rfl)
 have hs:Jq (Kh G) (n,Vq,ns,vs,tx)=(vs.getD 0 0,(F4 (Kh G) (n,Vq,ns,vs,tx)).2):=by simp only[Jq,doS,Vu]
 simp only[aE,aP,hs,hc,ha,hG,H0,Jin,Prod.eta]
 repeat' first|exact hV|exact hh|exact hR|exact hsz.2.2|apply And.intro|intro _
 all_goals first|trivial|omega|assumption|exact Nat.le_trans hR.nS (by decide)|exact Nat.le_trans hR.nO (by decide)|exact Nat.le_trans hR.nM (by decide)|exact Nat.le_trans hR.nX (by decide)|exact Nat.le_trans hR.nQ (by decide)|exact Nat.zero_le _|exact hsz.1|exact hsz.2.1|(rename_i h;have h:=of_decide_eq_true h;omega)|rfl|(rw[←Kp ‹_›];first|done|exact hR)|(rw[Kp ‹_›] at f0;exact f0)
def K16 (a:Int) (b:Ls) (c:Li) (d:Bt):=(F7 Vy (Z16 a b c d)).2
def K1v (a:Int) (b:Ls) (c:Li) (d:Bt):=(K16 a b c d).2
def K1i (a:Int) (b:Ls) (c:Li) (d:Bt):=(K1v a b c d).2
def K04 (a:Int) (b:Ls) (c:Li) (d:Bt):=(K1i a b c d).2
def Kvn (a:List Reg) (b:Int) (c:Ls) (d:Li) (e:Bt):=(F7 (Ym a) (Z16 b c d e)).2
def Ka3 (a:List Reg) (b:Int) (c:Ls) (d:Li) (e:Bt):=(Kvn a b c d e).2
def Kav (a:List Reg) (b:Int) (c:Ls) (d:Li) (e:Bt):=(Ka3 a b c d e).2
def Kal (a:List Reg) (b:Int) (c:Ls) (d:Li) (e:Bt):=(Kav a b c d e).2
theorem Jlv:wpFO Tryz.prog W92.g (na ()) (fun _=>na ()) (Sx.look ([(75,Tryz.f75),(129,Tryz.f129)]:List (Nat×Func))) Tryz.f121 Jc1 T (E,C,G) ((n,Ju,ns,vs,tx),()):=by
 refine(by kernel_rfl:(Kg (E,C,G)→Z43 E→Jdl (Z16 n ns vs tx)→Jb (Z16 n ns vs tx)=0→Jr3 E C G n ns vs tx=0→Jer ns vs∧Br (Jb (Z16 n ns vs tx) !=0) (Sf true (Sf T ((E,C,G)=Vf (E,C,G) (Z16 n ns vs tx)∧Jb (Z16 n ns vs tx)=K9 (E,C,G) (Z16 n ns vs tx)))) ((Kg (E,C,G)∧Jb (Z16 n ns vs tx)=0)∧Br (Jr3 E C G n ns vs tx !=0) (Sf true (Sf T ((E,C,G)=Vf (E,C,G) (Z16 n ns vs tx)∧Jr3 E C G n ns vs tx=K9 (E,C,G) (Z16 n ns vs tx)))) (Jdu ns vs∧Jd3 E∧Br false (Z72 C∧Jes C G∧Sf true (Sf T ((E++[Z16 n ns vs tx],Jeu C G)=Vf (E,C,G) (Z16 n ns vs tx)∧0=K9 (E,C,G) (Z16 n ns vs tx)))) (Br (Yb G) (Ya G∧Jeq G∧(Xb G∧Jsb ns∧Z53 vs)∧Kt vs∧Ft C G∧Sf true (Sf T ((E++[Z16 n ns vs tx],C++[Z16 n ns vs tx],G++[(U7 vs,(Kvn G n ns vs tx).1,(Ka3 G n ns vs tx).1,(Kav G n ns vs tx).1,(Kal G n ns vs tx).1,E2 (Kal G n ns vs tx).2)])=Vf (E,C,G) (Z16 n ns vs tx)∧0=K9 (E,C,G) (Z16 n ns vs tx)))) (Jev∧(Y1∧Jsb ns∧Z53 vs)∧Kt vs∧Ft C G∧Sf true (Sf T ((E++[Z16 n ns vs tx],C++[Z16 n ns vs tx],G++[(U7 vs,(K16 n ns vs tx).1,(K1v n ns vs tx).1,(K1i n ns vs tx).1,(K04 n ns vs tx).1,E2 (K04 n ns vs tx).2)])=Vf (E,C,G) (Z16 n ns vs tx)∧0=K9 (E,C,G) (Z16 n ns vs tx))))))))=_).mp ?_
 delta Z2 Z16 Z36 Z43 Z53 Z66 Z72 U7 Kt Yb Jsb Fm Jr3 Jd3 Jhi Jdu Dl Jev Vy Ya Y1 Jeu Jg6 Ft K16 Fs K1v Fr Ja2 K1i Jaf Hy K04 Hx Dk Hd Jes Jer Jae Jeq Ym Xb Kvn Ka3 Kav Kal Br Iw Bd T2 Tw Sf Ln Gt E2 Ju
 intro hh hlt hsz hc ha
 obtain⟨u0,aE,aP⟩:=Jhq (k:=Ju) (by kernel_rfl) hc ha
 obtain⟨hn,hv,hR,_,n1,n2,n3,hG,hV⟩:=H9 hh hc
 simp only[Kw,List.length_cons,List.length_nil] at hn hv u0
 obtain⟨k0,u1⟩:=Jm u0
 obtain⟨k1,u2⟩:=Jm u1
 have f1:=Jtp (k1 rfl)
 have hs:Jq (Kh G) (n,Ju,ns,vs,tx)=(vs.getD 0 0,(F7 (Kh G) (n,Ju,ns,vs,tx)).2):=by simp only[Jq,doS,Kw]
 simp only[aE,aP,hs,hc,ha,hG,H0,Jin,Prod.eta]
 repeat' first|exact hV|exact hh|exact hR|exact hsz.2.2|apply And.intro|intro _
 all_goals first|trivial|omega|assumption|exact Nat.le_trans hR.nS (by decide)|exact Nat.le_trans hR.nO (by decide)|exact Nat.le_trans hR.nM (by decide)|exact Nat.le_trans hR.nX (by decide)|exact Nat.le_trans hR.nQ (by decide)|exact Nat.zero_le _|exact hsz.1|exact hsz.2.1|(rename_i h;have h:=of_decide_eq_true h;omega)|rfl|(rw[←Kp ‹_›];first|done|exact hR)|(rw[Kp ‹_›] at f1;exact f1)
def K1y (a:Int) (b:Ls) (c:Li) (d:Bt):=(F6 Vy (Z29 a b c d)).2
def K1q (a:Int) (b:Ls) (c:Li) (d:Bt):=(K1y a b c d).2
def K1d (a:Int) (b:Ls) (c:Li) (d:Bt):=(K1q a b c d).2
def K03 (a:Int) (b:Ls) (c:Li) (d:Bt):=(K1d a b c d).2
def Kvi (a:List Reg) (b:Int) (c:Ls) (d:Li) (e:Bt):=(F6 (Ym a) (Z29 b c d e)).2
def Ka1 (a:List Reg) (b:Int) (c:Ls) (d:Li) (e:Bt):=(Kvi a b c d e).2
def Kap (a:List Reg) (b:Int) (c:Ls) (d:Li) (e:Bt):=(Ka1 a b c d e).2
def Kai (a:List Reg) (b:Int) (c:Ls) (d:Li) (e:Bt):=(Kap a b c d e).2
theorem Jjg:wpFO Tryz.prog W92.g (na ()) (fun _=>na ()) (Sx.look ([(75,Tryz.f75),(129,Tryz.f129)]:List (Nat×Func))) Tryz.f121 Jc1 T (E,C,G) ((n,Jr,ns,vs,tx),()):=by
 refine(by kernel_rfl:(Kg (E,C,G)→Z43 E→Jdl (Z29 n ns vs tx)→Jb (Z29 n ns vs tx)=0→Jr2 E C G n ns vs tx=0→Jer ns vs∧Br (Jb (Z29 n ns vs tx) !=0) (Sf true (Sf T ((E,C,G)=Vf (E,C,G) (Z29 n ns vs tx)∧Jb (Z29 n ns vs tx)=K9 (E,C,G) (Z29 n ns vs tx)))) ((Kg (E,C,G)∧Jb (Z29 n ns vs tx)=0)∧Br (Jr2 E C G n ns vs tx !=0) (Sf true (Sf T ((E,C,G)=Vf (E,C,G) (Z29 n ns vs tx)∧Jr2 E C G n ns vs tx=K9 (E,C,G) (Z29 n ns vs tx)))) (Jdu ns vs∧Jd3 E∧Br false (Z72 C∧Jes C G∧Sf true (Sf T ((E++[Z29 n ns vs tx],Jeu C G)=Vf (E,C,G) (Z29 n ns vs tx)∧0=K9 (E,C,G) (Z29 n ns vs tx)))) (Br (Yb G) (Ya G∧Jeq G∧J3v G ns vs∧Kt vs∧Ft C G∧Sf true (Sf T ((E++[Z29 n ns vs tx],C++[Z29 n ns vs tx],G++[(U7 vs,(Kvi G n ns vs tx).1,(Ka1 G n ns vs tx).1,(Kap G n ns vs tx).1,(Kai G n ns vs tx).1,E2 (Kai G n ns vs tx).2)])=Vf (E,C,G) (Z29 n ns vs tx)∧0=K9 (E,C,G) (Z29 n ns vs tx)))) (Jev∧Kkx ns vs∧Kt vs∧Ft C G∧Sf true (Sf T ((E++[Z29 n ns vs tx],C++[Z29 n ns vs tx],G++[(U7 vs,(K1y n ns vs tx).1,(K1q n ns vs tx).1,(K1d n ns vs tx).1,(K03 n ns vs tx).1,E2 (K03 n ns vs tx).2)])=Vf (E,C,G) (Z29 n ns vs tx)∧0=K9 (E,C,G) (Z29 n ns vs tx))))))))=_).mp ?_
 delta Z2 Z29 Z36 Z43 Z65 Z66 Z72 U7 Kt Yb Da Fm Xc Jr2 Jd3 Jhi Jdu Dl Jev Vy Ya Y1 Jeu Jg6 Ft Fs K1y K1q Fr Ja2 Jaf K1d Hy K03 Hx Dk Hd Jes Jer Kkx Jae Jeq Ym Xb Kvi Ka1 Kap Kai J3v Br Iw Bd T2 Tw Sf Ln Gt E2 Jr
 intro hh hlt hsz hc ha
 obtain⟨u0,aE,aP⟩:=Jhq (k:=Jr) (by kernel_rfl) hc ha
 obtain⟨hn,hv,hR,_,n1,n2,n3,hG,hV⟩:=H9 hh hc
 simp only[Kk,List.length_cons,List.length_nil] at hn hv u0
 obtain⟨k0,u1⟩:=Jm u0
 have f0:=J4x (k0 rfl)
 have hs:Jq (Kh G) (n,Jr,ns,vs,tx)=(vs.getD 0 0,(F6 (Kh G) (n,Jr,ns,vs,tx)).2):=by simp only[Jq,doS,Kk]
 simp only[aE,aP,hs,hc,ha,hG,H0,Jin,Prod.eta]
 repeat' first|exact hV|exact hh|exact hR|exact hsz.2.2|apply And.intro|intro _
 all_goals first|trivial|omega|assumption|exact Nat.le_trans hR.nS (by decide)|exact Nat.le_trans hR.nO (by decide)|exact Nat.le_trans hR.nM (by decide)|exact Nat.le_trans hR.nX (by decide)|exact Nat.le_trans hR.nQ (by decide)|exact Nat.zero_le _|exact hsz.1|exact hsz.2.1|(rename_i h;have h:=of_decide_eq_true h;omega)|rfl|(rw[←Kp ‹_›];first|done|exact hR)|(rw[Kp ‹_›] at f0;exact f0)
def K19 (a:Int) (b:Ls) (c:Li) (d:Bt):=(F8 Vy (Z24 a b c d)).2
def K1w (a:Int) (b:Ls) (c:Li) (d:Bt):=(K19 a b c d).2
def K1h (a:Int) (b:Ls) (c:Li) (d:Bt):=(K1w a b c d).2
def K07 (a:Int) (b:Ls) (c:Li) (d:Bt):=(K1h a b c d).2
def Kvk (a:List Reg) (b:Int) (c:Ls) (d:Li) (e:Bt):=(F8 (Ym a) (Z24 b c d e)).2
def Ka5 (a:List Reg) (b:Int) (c:Ls) (d:Li) (e:Bt):=(Kvk a b c d e).2
def Kau (a:List Reg) (b:Int) (c:Ls) (d:Li) (e:Bt):=(Ka5 a b c d e).2
def Kam (a:List Reg) (b:Int) (c:Ls) (d:Li) (e:Bt):=(Kau a b c d e).2
theorem Jlu:wpFO Tryz.prog W92.g (na ()) (fun _=>na ()) (Sx.look ([(75,Tryz.f75),(129,Tryz.f129)]:List (Nat×Func))) Tryz.f121 Jc1 T (E,C,G) ((n,Kf,ns,vs,tx),()):=by
 refine(by kernel_rfl:(Kg (E,C,G)→Z43 E→Jdl (Z24 n ns vs tx)→Jb (Z24 n ns vs tx)=0→Jr4 E C G n ns vs tx=0→Jer ns vs∧Br (Jb (Z24 n ns vs tx) !=0) (Sf true (Sf T ((E,C,G)=Vf (E,C,G) (Z24 n ns vs tx)∧Jb (Z24 n ns vs tx)=K9 (E,C,G) (Z24 n ns vs tx)))) ((Kg (E,C,G)∧Jb (Z24 n ns vs tx)=0)∧Br (Jr4 E C G n ns vs tx !=0) (Sf true (Sf T ((E,C,G)=Vf (E,C,G) (Z24 n ns vs tx)∧Jr4 E C G n ns vs tx=K9 (E,C,G) (Z24 n ns vs tx)))) (Jdu ns vs∧Jd3 E∧Br false (Z72 C∧Jes C G∧Sf true (Sf T ((E++[Z24 n ns vs tx],Jeu C G)=Vf (E,C,G) (Z24 n ns vs tx)∧0=K9 (E,C,G) (Z24 n ns vs tx)))) (Br (Yb G) (Ya G∧Jeq G∧(Xb G∧J0s ns)∧Kt vs∧Ft C G∧Sf true (Sf T ((E++[Z24 n ns vs tx],C++[Z24 n ns vs tx],G++[(U7 vs,(Kvk G n ns vs tx).1,(Ka5 G n ns vs tx).1,(Kau G n ns vs tx).1,(Kam G n ns vs tx).1,E2 (Kam G n ns vs tx).2)])=Vf (E,C,G) (Z24 n ns vs tx)∧0=K9 (E,C,G) (Z24 n ns vs tx)))) (Jev∧(Y1∧J0s ns)∧Kt vs∧Ft C G∧Sf true (Sf T ((E++[Z24 n ns vs tx],C++[Z24 n ns vs tx],G++[(U7 vs,(K19 n ns vs tx).1,(K1w n ns vs tx).1,(K1h n ns vs tx).1,(K07 n ns vs tx).1,E2 (K07 n ns vs tx).2)])=Vf (E,C,G) (Z24 n ns vs tx)∧0=K9 (E,C,G) (Z24 n ns vs tx))))))))=_).mp ?_
 delta Z2 Z24 Z36 Z43 Z66 Z72 U7 Kt Yb J0s Fm Jr4 Jd3 Jhi Jdu Dl Jev Vy Ya Y1 Jeu Jg6 Ft K19 Fs K1w Fr Ja2 K1h Jaf Hy K07 Hx Dk Hd Jes Jer Jae Jeq Ym Xb Kvk Ka5 Kau Kam Br Iw Bd T2 Tw Sf Ln Gt E2 Kf
 intro hh hlt hsz hc ha
 obtain⟨u0,aE,aP⟩:=Jhq (k:=Kf) (by kernel_rfl) hc ha
 obtain⟨hn,hv,hR,_,n1,n2,n3,hG,hV⟩:=H9 hh hc
 simp only[K8,List.length_cons,List.length_nil] at hn hv u0
 obtain⟨k0,u1⟩:=Jm u0
 obtain⟨k1,u2⟩:=Jm u1
 have f1:=J4x (k1 rfl)
 have hs:Jq (Kh G) (n,Kf,ns,vs,tx)=(vs.getD 0 0,(F8 (Kh G) (n,Kf,ns,vs,tx)).2):=by simp only[Jq,doS,K8]
 simp only[aE,aP,hs,hc,ha,hG,H0,Jin,Prod.eta]
 repeat' first|exact hV|exact hh|exact hR|exact hsz.2.2|apply And.intro|intro _
 all_goals first|trivial|omega|assumption|exact Nat.le_trans hR.nS (by decide)|exact Nat.le_trans hR.nO (by decide)|exact Nat.le_trans hR.nM (by decide)|exact Nat.le_trans hR.nX (by decide)|exact Nat.le_trans hR.nQ (by decide)|exact Nat.zero_le _|exact hsz.1|exact hsz.2.1|(rename_i h;have h:=of_decide_eq_true h;omega)|rfl|(rw[←Kp ‹_›];first|done|exact hR)|(rw[Kp ‹_›] at f1;exact f1)
def K2e (a:Int) (b:Ls) (c:Li) (d:Bt):=(Jhx Vy (Z26 a b c d)).2
def K10 (a:Int) (b:Ls) (c:Li) (d:Bt):=(K2e a b c d).2
def K1p (a:Int) (b:Ls) (c:Li) (d:Bt):=(K10 a b c d).2
def K1c (a:Int) (b:Ls) (c:Li) (d:Bt):=(K1p a b c d).2
def Kvq (a:List Reg) (b:Int) (c:Ls) (d:Li) (e:Bt):=(Jhx (Ym a) (Z26 b c d e)).2
def Kvh (a:List Reg) (b:Int) (c:Ls) (d:Li) (e:Bt):=(Kvq a b c d e).2
def Kay (a:List Reg) (b:Int) (c:Ls) (d:Li) (e:Bt):=(Kvh a b c d e).2
def Kaq (a:List Reg) (b:Int) (c:Ls) (d:Li) (e:Bt):=(Kay a b c d e).2
theorem Jlt:wpFO Tryz.prog W92.g (na ()) (fun _=>na ()) (Sx.look ([(75,Tryz.f75),(129,Tryz.f129)]:List (Nat×Func))) Tryz.f121 Jc1 T (E,C,G) ((n,Ke,ns,vs,tx),()):=by
 refine(by kernel_rfl:(Kg (E,C,G)→Z43 E→Jdl (Z26 n ns vs tx)→Jb (Z26 n ns vs tx)=0→Jr5 E C G n ns vs tx=0→Jer ns vs∧Br (Jb (Z26 n ns vs tx) !=0) (Sf true (Sf T ((E,C,G)=Vf (E,C,G) (Z26 n ns vs tx)∧Jb (Z26 n ns vs tx)=K9 (E,C,G) (Z26 n ns vs tx)))) ((Kg (E,C,G)∧Jb (Z26 n ns vs tx)=0)∧Br (Jr5 E C G n ns vs tx !=0) (Sf true (Sf T ((E,C,G)=Vf (E,C,G) (Z26 n ns vs tx)∧Jr5 E C G n ns vs tx=K9 (E,C,G) (Z26 n ns vs tx)))) (Jdu ns vs∧Jd3 E∧Br false (Z72 C∧Jes C G∧Sf true (Sf T ((E++[Z26 n ns vs tx],Jeu C G)=Vf (E,C,G) (Z26 n ns vs tx)∧0=K9 (E,C,G) (Z26 n ns vs tx)))) (Br (Yb G) (Ya G∧Jeq G∧J3x G ns∧Kt vs∧Ft C G∧Sf true (Sf T ((E++[Z26 n ns vs tx],C++[Z26 n ns vs tx],G++[(U7 vs,(Kvq G n ns vs tx).1,(Kvh G n ns vs tx).1,(Kay G n ns vs tx).1,(Kaq G n ns vs tx).1,E2 (Kaq G n ns vs tx).2)])=Vf (E,C,G) (Z26 n ns vs tx)∧0=K9 (E,C,G) (Z26 n ns vs tx)))) (Jev∧Klb ns∧Kt vs∧Ft C G∧Sf true (Sf T ((E++[Z26 n ns vs tx],C++[Z26 n ns vs tx],G++[(U7 vs,(K2e n ns vs tx).1,(K10 n ns vs tx).1,(K1p n ns vs tx).1,(K1c n ns vs tx).1,E2 (K1c n ns vs tx).2)])=Vf (E,C,G) (Z26 n ns vs tx)∧0=K9 (E,C,G) (Z26 n ns vs tx))))))))=_).mp ?_
 delta Z2 Z26 Z36 Z43 Z66 Z72 U7 Kt Yb Da Fm Xc Jr5 Jd3 Jhi Jdu Dl Jev Vy Ya Y1 Jeu Jg6 Ft K2e Fs K10 K1p Fr Ja2 Jaf K1c Hy Hx Dk Hd Jes Jer Klb Jae Jeq Ym Xb Kvq Kvh Kay Kaq J3x Br Iw Bd T2 Tw Sf Ln Gt E2 Ke
 intro hh hlt hsz hc ha
 obtain⟨u0,aE,aP⟩:=Jhq (k:=Ke) (by kernel_rfl) hc ha
 obtain⟨hn,hv,hR,_,n1,n2,n3,hG,hV⟩:=H9 hh hc
 simp only[K7,List.length_cons,List.length_nil] at hn hv u0
 obtain⟨k0,u1⟩:=Jm u0
 have f0:=Kj4 (k0 rfl)
 have hs:Jq (Kh G) (n,Ke,ns,vs,tx)=(vs.getD 0 0,(Jhx (Kh G) (n,Ke,ns,vs,tx)).2):=by simp only[Jq,doS,K7]
 simp only[aE,aP,hs,hc,ha,hG,H0,Jin,Prod.eta]
 repeat' first|exact hV|exact hh|exact hR|exact hsz.2.2|apply And.intro|intro _
 all_goals first|trivial|omega|assumption|exact Nat.le_trans hR.nS (by decide)|exact Nat.le_trans hR.nO (by decide)|exact Nat.le_trans hR.nM (by decide)|exact Nat.le_trans hR.nX (by decide)|exact Nat.le_trans hR.nQ (by decide)|exact Nat.zero_le _|exact hsz.1|exact hsz.2.1|(rename_i h;have h:=of_decide_eq_true h;omega)|rfl|(rw[←Kp ‹_›];first|done|exact hR)|(rw[Kp ‹_›] at f0;exact f0)
def K17 (a:Int) (b:Ls) (c:Li) (d:Bt):=(Jbu Vy (Z23 a b c d)).2
def K1x (a:Int) (b:Ls) (c:Li) (d:Bt):=(K17 a b c d).2
def K1g (a:Int) (b:Ls) (c:Li) (d:Bt):=(K1x a b c d).2
def K05 (a:Int) (b:Ls) (c:Li) (d:Bt):=(K1g a b c d).2
def Kvl (a:List Reg) (b:Int) (c:Ls) (d:Li) (e:Bt):=(Jbu (Ym a) (Z23 b c d e)).2
def Ka4 (a:List Reg) (b:Int) (c:Ls) (d:Li) (e:Bt):=(Kvl a b c d e).2
def Kaw (a:List Reg) (b:Int) (c:Ls) (d:Li) (e:Bt):=(Ka4 a b c d e).2
def Kak (a:List Reg) (b:Int) (c:Ls) (d:Li) (e:Bt):=(Kaw a b c d e).2
theorem Jls:wpFO Tryz.prog W92.g (na ()) (fun _=>na ()) (Sx.look ([(75,Tryz.f75),(129,Tryz.f129)]:List (Nat×Func))) Tryz.f121 Jc1 T (E,C,G) ((n,Jh,ns,vs,tx),()):=by
 refine(by kernel_rfl:(Kg (E,C,G)→Z43 E→Jdl (Z23 n ns vs tx)→Jb (Z23 n ns vs tx)=0→Jpv E C G n ns vs tx=0→Jer ns vs∧Br (Jb (Z23 n ns vs tx) !=0) (Sf true (Sf T ((E,C,G)=Vf (E,C,G) (Z23 n ns vs tx)∧Jb (Z23 n ns vs tx)=K9 (E,C,G) (Z23 n ns vs tx)))) ((Kg (E,C,G)∧Jb (Z23 n ns vs tx)=0)∧Br (Jpv E C G n ns vs tx !=0) (Sf true (Sf T ((E,C,G)=Vf (E,C,G) (Z23 n ns vs tx)∧Jpv E C G n ns vs tx=K9 (E,C,G) (Z23 n ns vs tx)))) (Jdu ns vs∧Jd3 E∧Br false (Z72 C∧Jes C G∧Sf true (Sf T ((E++[Z23 n ns vs tx],Jeu C G)=Vf (E,C,G) (Z23 n ns vs tx)∧0=K9 (E,C,G) (Z23 n ns vs tx)))) (Br (Yb G) (Ya G∧Jeq G∧Jue G vs∧Kt vs∧Ft C G∧Sf true (Sf T ((E++[Z23 n ns vs tx],C++[Z23 n ns vs tx],G++[(U7 vs,(Kvl G n ns vs tx).1,(Ka4 G n ns vs tx).1,(Kaw G n ns vs tx).1,(Kak G n ns vs tx).1,E2 (Kak G n ns vs tx).2)])=Vf (E,C,G) (Z23 n ns vs tx)∧0=K9 (E,C,G) (Z23 n ns vs tx)))) (Jev∧Kb1 vs∧Kt vs∧Ft C G∧Sf true (Sf T ((E++[Z23 n ns vs tx],C++[Z23 n ns vs tx],G++[(U7 vs,(K17 n ns vs tx).1,(K1x n ns vs tx).1,(K1g n ns vs tx).1,(K05 n ns vs tx).1,E2 (K05 n ns vs tx).2)])=Vf (E,C,G) (Z23 n ns vs tx)∧0=K9 (E,C,G) (Z23 n ns vs tx))))))))=_).mp ?_
 delta Z2 Z23 Z36 Z43 Z59 Z66 Z72 U7 Kt Yb Fm Jpv Jd3 Jhi Jdu Dl Jev Vy Ya Y1 Jeu Jg6 Ft K17 Fs K1x Fr Ja2 Kb1 K1g Jaf Hy K05 Hx Dk Hd Jes Jer Jae Jeq Ym Xb Kvl Ka4 Jue Kaw Kak Br Iw Bd T2 Tw Sf Ln Gt E2 Jh
 intro hh hlt hsz hc ha
 obtain⟨u0,aE,aP⟩:=Jhq (k:=Jh) (by kernel_rfl) hc ha
 obtain⟨hn,hv,hR,_,n1,n2,n3,hG,hV⟩:=H9 hh hc
 simp only[Uv,List.length_cons,List.length_nil] at hn hv u0
 have hs:Jq (Kh G) (n,Jh,ns,vs,tx)=(vs.getD 0 0,(Jbu (Kh G) (n,Jh,ns,vs,tx)).2):=by simp only[Jq,doS,Uv]
 simp only[aE,aP,hs,hc,ha,hG,H0,Jin,Prod.eta]
 repeat' first|exact hV|exact hh|exact hR|exact hsz.2.2|apply And.intro|intro _
 all_goals first|trivial|omega|assumption|exact Nat.le_trans hR.nS (by decide)|exact Nat.le_trans hR.nO (by decide)|exact Nat.le_trans hR.nM (by decide)|exact Nat.le_trans hR.nX (by decide)|exact Nat.le_trans hR.nQ (by decide)|exact Nat.zero_le _|exact hsz.1|exact hsz.2.1|(rename_i h;have h:=of_decide_eq_true h;omega)|rfl|(rw[←Kp ‹_›];first|done|exact hR)
abbrev GG:Gam:=[(64,Kfw),(130,X7.con Jrm),(81,J44),(216,Jhz 127 Fw),(217,Jhz 130 Lo),(218,Jhz 155 Ja4),(219,Jhz 188 Zn),(220,Jhz 235 Hr)]
theorem gG:Yo Tryz.prog GG:= .cons K46 (.cons Kd1 (.cons K45 (.cons Kd0 (.cons Kdz (.cons Kdy (.cons Kdx (.cons Kdw (.nil _))))))))
def Kfz:X7:={Kj6 with pre:=fun h (e,_)=>[Kg h,h.1.length<1000,Jdl e,¬(Jb e=0∧L3 h e=0)]}
theorem Ju1 (T:TypeId) (E C:List Ev) (G:List Reg) (n:Int) (k:ByteArray) (ns:List ByteArray) (vs:List Int) (tx:ByteArray):wpFO Tryz.prog GG (na ()) (fun _=>na ()) (Sx.look ([(75,Tryz.f75),(129,Tryz.f129)]:List (Nat×Func))) Tryz.f121 Kfz T (E,C,G) ((n,k,ns,vs,tx),()):=by
 refine(by kernel_rfl:(Kg (E,C,G)→Z43 E→Jdl (n,k,ns,vs,tx)→(Z73 n k ns vs tx=0∧L3 (E,C,G) (n,k,ns,vs,tx)=0→False)→Jer ns vs∧Br (Z73 n k ns vs tx !=0) (Sf true (Sf T ((E,C,G)=Vf (E,C,G) (n,k,ns,vs,tx)∧Z73 n k ns vs tx=K9 (E,C,G) (n,k,ns,vs,tx)))) ((Kg (E,C,G)∧Z73 n k ns vs tx=0)∧Br (L3 (E,C,G) (n,k,ns,vs,tx) !=0) (Sf true (Sf T ((E,C,G)=Vf (E,C,G) (n,k,ns,vs,tx)∧L3 (E,C,G) (n,k,ns,vs,tx)=K9 (E,C,G) (n,k,ns,vs,tx)))) (Jdu ns vs∧Jd3 E∧Br (Lb k Jy) (Z72 C∧Jes C G∧Sf true (Sf T ((E++[(n,k,ns,vs,tx)],Jeu C G)=Vf (E,C,G) (n,k,ns,vs,tx)∧0=K9 (E,C,G) (n,k,ns,vs,tx)))) (Br (Yb G) (Ya G∧Jeq G∧Jz1 777 1) (Jev∧Jz1 777 1)))))=_).mp ?_
 delta Z2 Z43 Z66 Z72 Z73 Yb Fm Jd3 Jhi Jdu Dl Jev Vy Ya Jeu Jg6 Fs Fr Hy Hx Dk Hd Jes Jer Jeq Br Iw Bd T2 Tw Sf Ln Gt Lb Jy
 intro hh hlt hsz hx
 have n1:E.length≤1000:=hh.nE
 have e1:Jb (n,k,ns,vs,tx)≠0→K9 (E,C,G) (n,k,ns,vs,tx)=Jb (n,k,ns,vs,tx):=fun h=>by unfold K9;rw[if_pos h]
 have e2:¬Jb (n,k,ns,vs,tx)≠0→K9 (E,C,G) (n,k,ns,vs,tx)=L3 (E,C,G) (n,k,ns,vs,tx):=fun h=>by unfold K9;rw[if_neg h]
 have e3:K9 (E,C,G) (n,k,ns,vs,tx)≠0→Vf (E,C,G) (n,k,ns,vs,tx)=(E,C,G):=fun h=>by unfold Vf;rw[if_neg h]
 refine⟨⟨hsz.1,hsz.2.1,hsz.2.2⟩,fun h=> ?_,fun h=>⟨⟨hh, ?_⟩,fun h2=> ?_,fun h2=> ?_⟩⟩
 ·have h:Jb (n,k,ns,vs,tx)≠0:=bne_iff_ne.1 h
  exact⟨rfl,rfl,(e3 (by rw[e1 h];exact h)).symm,(e1 h).symm⟩
 ·exact bne_eq_false_iff_eq.1 h
 ·have h:Jb (n,k,ns,vs,tx)=0:=bne_eq_false_iff_eq.1 h
  have h2:L3 (E,C,G) (n,k,ns,vs,tx)≠0:=bne_iff_ne.1 h2
  have e4:=e2 (by rw[h];simp)
  exact⟨rfl,rfl,(e3 (by rw[e4];exact h2)).symm,e4.symm⟩
 ·exact absurd ⟨bne_eq_false_iff_eq.1 h,bne_eq_false_iff_eq.1 h2⟩ hx
theorem Jwf {f:FuncId} {c:X7} {p1 p2:c.s.T→ATup c.args→List Prop} (h1:OkO Tryz.prog f {c with pre:=p1}) (h2:OkO Tryz.prog f {c with pre:=p2}) (h:∀x y,Uk (c.pre x y)→Uk (p1 x y)∨Uk (p2 x y)):OkO Tryz.prog f c:=
 ⟨h1.1,fun x y M R B w b T cells vals vs hB hMR hg hw hBb hMb hRb hT ho hv hpre ha=>(h x y hpre).elim (fun q=>h1.2 x y M R B w b T cells vals vs hB hMR hg hw hBb hMb hRb hT ho hv q ha) fun q=>h2.2 x y M R B w b T cells vals vs hB hMR hg hw hBb hMb hRb hT ho hv q ha⟩
theorem Kdi (T:TypeId):∀(x:Ka) (y:ATup [aEv]),wpFO Tryz.prog W92.g (na ()) (fun _=>na ()) (Sx.look ([(75,Tryz.f75),(129,Tryz.f129)]:List (Nat×Func))) Tryz.f121 Jc1 T x y
 |(E,C,G),((n,k,ns,vs,tx),())=>by
  refine Jja (by kernel_rfl) fun hp=> ?_
  have hc:Jb (n,k,ns,vs,tx)=0:=hp.2.2.2.1
  rcases Ut (J6 hc).kind with h|h|h|h|h|h|h|h|h|h|h<;>dsimp only at h<;>subst h
  ·exact Jsl T E C G n ns vs tx
  ·exact Jjf T E C G n ns vs tx
  ·exact Joa T E C G n ns vs tx
  ·exact Job T E C G n ns vs tx
  ·exact Joc T E C G n ns vs tx
  ·exact Jsm T E C G n ns vs tx
  ·exact Jlv T E C G n ns vs tx
  ·exact Jjg T E C G n ns vs tx
  ·exact Jlu T E C G n ns vs tx
  ·exact Jlt T E C G n ns vs tx
  ·exact Jls T E C G n ns vs tx
theorem okK:OkO Tryz.prog 121 Jc1:=Ue mixed W92.ok (by kernel_rfl) (by kernel_rfl) (U4 (l:=([(75,Tryz.f75),(129,Tryz.f129)]:List (Nat×Func))) (List.forall_mem_cons.2 ⟨by kernel_rfl,List.forall_mem_cons.2 ⟨by kernel_rfl,by simp⟩⟩)) (fun _ _=>na ()) (fun _ _=>fun _=>na ()) fun T xx yy _=>Kdi T xx yy
theorem okG:OkO Tryz.prog 121 Kfz:=Ue mixed gG (by kernel_rfl) (by kernel_rfl) (U4 (l:=([(75,Tryz.f75),(129,Tryz.f129)]:List (Nat×Func))) (List.forall_mem_cons.2 ⟨by kernel_rfl,List.forall_mem_cons.2 ⟨by kernel_rfl,by simp⟩⟩)) (fun _ _=>na ()) (fun _ _=>fun _=>na ()) fun T xx yy _=>Ju1 T xx.1 xx.2.1 xx.2.2 yy.1.1 yy.1.2.1 yy.1.2.2.1 yy.1.2.2.2.1 yy.1.2.2.2.2
theorem Ktm:Ok Tryz.prog 121 (X7.con Kj6):=Za (Jwf (c:=Kj6) okK okG fun x y hp=>by
 by_cases h:Jb y.1=0∧L3 x y.1=0
 ·exact .inl ⟨hp.1,hp.2.1,hp.2.2,h.1,h.2⟩
 ·exact .inr ⟨hp.1,hp.2.1,hp.2.2,h⟩)
abbrev W93:=W92.add Ktm
theorem Yv {α:Type} {p:α→Bool} {m:List α}:∀{l:List α} {k:Nat},0≤Vp p l k→Vp p (l++m) k=Vp p l k
 |[],k,h=>by simp[Vp] at h
 | x :: l, k, h => by
  show(if p x=true then(k:Int) else Vp p (l++m) (k+1))=(if p x=true then(k:Int) else Vp p l (k+1))
  have h:0≤(if p x=true then(k:Int) else Vp p l (k+1)):=h
  by_cases hp:p x=true
  ·rw[if_pos hp,if_pos hp]
  ·rw[if_neg hp] at h
   rw[if_neg hp,if_neg hp,Yv h]
theorem Fa {α:Type} {p:α→Bool} {y:α}:∀{l:List α} {i k:Nat},(∀x,l[i]? =some x→p y=p x)→Vp p (l.set i y) k=Vp p l k
 |[],_,_,_=>rfl
 |x::l,0,k,h=>by
  have:=h x rfl
  simp only[List.set_cons_zero]
  unfold Vp
  rw[this]
 |x::l,i+1,k,h=>by
  simp only[List.set_cons_succ]
  unfold Vp
  rw[Fa fun z hz=>h z (by simpa using hz)]
theorem Jge {α:Type} {l:List α} {i:Nat} {d x:α} (h:l[i]? =some x):l.getD i d=x:=by
 rw[List.getD_eq_getElem?_getD,h];rfl
theorem Jcj {α:Type} {l:List α} {i:Nat} {y x:α} (h:x∈l.set i y):x=y∨x∈l:=by
 rcases List.mem_or_eq_of_mem_set h with h|h
 ·exact .inr h
 ·exact .inl h
theorem Yq {α:Type} {l:List α} {y x:α} (h:x∈l++[y]):x∈l∨x=y:=by
 rcases List.mem_append.1 h with h|h
 ·exact .inl h
 ·exact .inr (by simpa using h)
theorem Ys {b:Bool} {c:Int} (hc:c≠0) (h:(bif b then c else 0)=0):b=false:=by
 cases b with
 |true=>exact absurd h hc
 |false=>rfl
theorem Zw {a b:Int} (h:Jg [a,b]=0):a=0∧b=0:=
 ⟨Uj.1 h _ (List.mem_cons_self ..),Uj.1 h _ (List.mem_cons_of_mem _ (List.mem_cons_self ..))⟩
theorem Jgl {a b c:Int} (h:Jg [a,b,c]=0):a=0∧b=0∧c=0:=
 ⟨Uj.1 h _ (by simp),Uj.1 h _ (by simp),Uj.1 h _ (by simp)⟩
theorem Jci {O:List Ord} {s:ByteArray} (h:0≤Kx O s):X9 O s∈O:=by
 have:=U0 (l:=O) (s:=s)
 exact Jd (by omega)
theorem Jwd {X:List Out} {s:ByteArray} (h:0≤J7 X s):Dd X s∈X:=by
 have:=Up (l:=X) (s:=s)
 exact Jd (by omega)
theorem Jof {S:List Sta} {s:ByteArray} (h:0≤J2 S s):Hw S s∈S:=by
 have:=K4 (l:=S) (s:=s)
 exact Jd (by omega)
theorem J6h {Q:List Per} {s:ByteArray} (h:0≤U1 Q s):Jnw Q s∈Q:=by
 have:=Uz (l:=Q) (s:=s)
 exact Jd (by omega)
theorem Jd6.mono {S S':List Sta} {x:Ord} (h:Jd6 S x) (hs:∀s,0≤J2 S s→0≤J2 S' s):Jd6 S' x:=⟨h.span,h.pow,h.pri,h.trip,hs _ h.fr,hs _ h.tu⟩
theorem Jpz.mono {S S':List Sta} {x:Out} (h:Jpz S x) (hs:∀s,0≤J2 S s→0≤J2 S' s):Jpz S' x:=⟨h.span,h.rest,hs _ h.sta⟩
section
variable {tk st v:Int} {S:List Sta} {O:List Ord} {M:List Met} {X:List Out} {Q:List Per} {n:Int} {k tx:ByteArray} {ns:List ByteArray} {vs:List Int}
theorem Jsu (hr:Jn (tk,st,S,O,M,X,Q)) (hv:tk≤v∧v≤999999999) (hc:Jng S vs=0) {a:ByteArray}:Jn (v,st,S++[(a,vs.getD 1 0,0)],O,M,X,Q):=by
 obtain⟨c1,c2⟩:=Zw hc
 have c1:=Yt.1 c1
 have c2:=of_decide_eq_false (Ys (by decide) c2)
 have hs:∀s,0≤J2 S s→0≤J2 (S++[(a,vs.getD 1 0,0)]) s:=fun s h=>by unfold J2 at h⊢;rw[Yv h];exact h
 have h0:=hr.tk
 have h1:=hr.st
 dsimp only at h0 h1
 refine⟨by dsimp only;omega,by dsimp only;omega,by dsimp only;rw[List.length_append,List.length_singleton];omega,hr.nO,hr.nM,hr.nX,hr.nQ,fun x hx=> ?_,fun x hx=>(hr.ord x hx).mono hs,hr.met,fun x hx=>(hr.out x hx).mono hs,hr.per,hr.done⟩
 rcases Yq hx with h|rfl
 ·exact hr.sta x h
 ·exact⟨c1,Int.le_refl 0,by show(0:Int)≤1000;decide⟩
theorem J1c (hr:Jn (tk,st,S,O,M,X,Q)) (hv:tk≤v∧v≤999999999) (hc:Jpj vs=0) {a:ByteArray} (ha:0≤J2 S a):Jn (v,st,S.set (J2 S a).toNat ((Hw S a).1,(Hw S a).2.1,vs.getD 1 0),O,M,X,Q):=by
 have c1:=Yt.1 hc
 have hs:∀s,0≤J2 S s→0≤J2 (S.set (J2 S a).toNat ((Hw S a).1,(Hw S a).2.1,vs.getD 1 0)) s:=fun s h=>by
  unfold J2 at h⊢
  rw[Fa fun x hx=> ?_]
  ·exact h
  ·have:=Jge (d:=Jug) hx
   show((Hw S a).1.toList==s.toList)=_
   unfold Hw J2
   rw[this]
 have h0:=hr.tk
 have h1:=hr.st
 dsimp only at h0 h1
 refine⟨by dsimp only;omega,by dsimp only;omega,by rw[List.length_set];exact hr.nS,hr.nO,hr.nM,hr.nX,hr.nQ,fun x hx=> ?_,fun x hx=>(hr.ord x hx).mono hs,hr.met,fun x hx=>(hr.out x hx).mono hs,hr.per,hr.done⟩
 rcases Jcj hx with rfl|h
 ·exact⟨(hr.sta _ (Jof ha)).lim,c1⟩
 ·exact hr.sta x h
theorem J1e (hr:Jn (tk,st,S,O,M,X,Q)) (hv:tk≤v∧v≤999999999) (hm:M.length<10000) (ho:0≤Kx O (ns.getD 0 Ja)) (hb:∀i,i<4→0≤vs.getD i 0∧vs.getD i 0≤999999999) (hc:Jnh O M ns vs=0):Jn (v,st,S,O,M++[(ns.getD 0 Ja,vs.getD 1 0,vs.getD 2 0,vs.getD 3 0)],X,Q):=by
 have h5:=Ys (by decide) (Uj.1 hc _ (List.mem_cons_of_mem _ (List.mem_cons_of_mem _ (List.mem_cons_of_mem _ (List.mem_cons_of_mem _ (List.mem_cons_self ..))))))
 have h6:=bn1 h5
 have p1:=of_decide_eq_false h6.1
 have p2:=of_decide_eq_false h6.2
 have hp:1≤(X9 O (ns.getD 0 Ja)).2.2.2.2.1∧(X9 O (ns.getD 0 Ja)).2.2.2.2.1≤1000:=(hr.ord _ (Jci ho)).pow
 have h0:=hr.tk
 have h1:=hr.st
 dsimp only at h0 h1
 have b1:=hb 1 (by omega)
 have b2:=hb 2 (by omega)
 have b3:=hb 3 (by omega)
 refine⟨by dsimp only;omega,by dsimp only;omega,hr.nS,hr.nO,by dsimp only;rw[List.length_append,List.length_singleton];omega,hr.nX,hr.nQ,hr.sta,hr.ord,fun x hx=> ?_,hr.out,hr.per,fun x hx h e1 e2=> ?_⟩
 ·rcases Yq hx with h|rfl
  ·exact hr.met x h
  ·exact⟨b1,⟨b2.1,by dsimp only;omega⟩,⟨b3.1,by dsimp only;omega⟩⟩
 ·have:=hr.done x hx h e1 e2
  unfold K6 at this⊢
  dsimp only at this⊢
  rw[Yv this];exact this
theorem Jqb {e:Ev} (hv:EvV e) (hl:e.2.2.2.1.length=4) (hc:Zl e=0):Jnr (V1 e)∧e.2.2.2.1.getD 0 0≤(V1 e).1:=by
 have h:=Ys (by decide) hc
 have h1:=bn1 h
 have h2:=bn1 h1.1
 have e1:=of_decide_eq_false h2.1
 have e2:=of_decide_eq_false h2.2
 have e3:=of_decide_eq_false h1.2
 have v1:0≤(V1 e).1∧(V1 e).1≤999999999:=hv _ (Jd (by omega))
 have v2:0≤(V1 e).2∧(V1 e).2≤999999999:=hv _ (Jd (by omega))
 exact⟨⟨v1.1,by omega,v2.2,by omega⟩,by omega⟩
theorem J1d (hr:Jn (tk,st,S,O,M,X,Q)) (hv:tk≤v∧v≤999999999) (hvs:v=vs.getD 0 0) (hE:EvV (n,k,ns,vs,tx)) (hl:vs.length=4) (h1:0≤J2 S (ns.getD 1 Ja)) (h2:0≤J2 S (ns.getD 2 Ja)) (hc:Jc0 S O X (n,k,ns,vs,tx)=0):Jn (v,st,S,O++[(ns.getD 0 Ja,ns.getD 1 Ja,ns.getD 2 Ja,V1 (n,k,ns,vs,tx),vs.getD 3 0,(Hw S (ns.getD 1 Ja)).2.2,-1)],M,X,Q):=by
 have hk:¬Jix (n,k,ns,vs,tx)≠0:=fun h=>by unfold Jc0 at hc;rw[if_pos h] at hc;exact h hc
 unfold Jc0 at hc
 rw[if_neg hk] at hc
 obtain⟨c1,c2⟩:=Zw hc
 have c2:=of_decide_eq_false (Ys (by decide) c2)
 obtain⟨d1,d2,d3⟩:=Jgl (show Jg [_,Zl (n,k,ns,vs,tx),Ki (vs.getD 3 0) 1 1000]=0 from Decidable.of_not_not hk)
 have d3:=Yt.1 d3
 obtain⟨sp,sv⟩:=Jqb hE hl d2
 have sv:vs.getD 0 0≤(V1 (n,k,ns,vs,tx)).1:=sv
 have g0:=hr.tk
 have g1:=hr.st
 dsimp only at g0 g1
 refine⟨by dsimp only;omega,by dsimp only;omega,hr.nS,by dsimp only;rw[List.length_append,List.length_singleton];omega,hr.nM,hr.nX,hr.nQ,hr.sta,fun x hx=> ?_,hr.met,hr.out,hr.per,fun x hx hh e1 e2=> ?_⟩
 ·rcases Yq hx with h|rfl
  ·exact hr.ord x h
  ·exact⟨sp,d3,(hr.sta _ (Jof h1)).pri,⟨Int.le_refl _,by show(-1:Int)≤999999999;decide⟩,h1,h2⟩
 ·rcases Yq hx with h|rfl
  ·exact hr.done x h hh e1 e2
  ·exfalso
   unfold J4 Ks at e1
   dsimp only at e1 e2
   cases h3:decide ((V1 (n,k,ns,vs,tx)).1≤hh) with
   |true=>have:=of_decide_eq_true h3;omega
   |false=>rw[h3] at e1;cases e1
theorem Jvk (hr:Jn (tk,st,S,O,M,X,Q)) (hv:tk≤v∧v≤999999999) (hE:EvV (n,k,ns,vs,tx)) (hl:vs.length=4) (h1:0≤J2 S (ns.getD 1 Ja)) (hc:Jcz S O X (n,k,ns,vs,tx)=0):Jn (v,st,S,O,M,X++[(ns.getD 0 Ja,ns.getD 1 Ja,V1 (n,k,ns,vs,tx),vs.getD 3 0)],Q):=by
 have hk:¬Jiw S (n,k,ns,vs,tx)≠0:=fun h=>by unfold Jcz at hc;rw[if_pos h] at hc;exact h hc
 unfold Jcz at hc
 rw[if_neg hk] at hc
 obtain⟨c1,c2⟩:=Zw hc
 have c2:=of_decide_eq_false (Ys (by decide) c2)
 obtain⟨d2,d3⟩:=Zw (show Jg [Zl (n,k,ns,vs,tx),bif decide ((Hw S (ns.getD 1 Ja)).2.1≤vs.getD 3 0) then 3 else 0]=0 from Decidable.of_not_not hk)
 have d3:=of_decide_eq_false (Ys (by decide) d3)
 obtain⟨sp,sv⟩:=Jqb hE hl d2
 have hl3:(Hw S (ns.getD 1 Ja)).2.1≤1000:=(hr.sta _ (Jof h1)).lim.2
 have v3:0≤vs.getD 3 0∧vs.getD 3 0≤999999999:=hE _ (Jd (show 3<vs.length by omega))
 have hf:∀s,0≤J7 X s→0≤J7 (X++[(ns.getD 0 Ja,ns.getD 1 Ja,V1 (n,k,ns,vs,tx),vs.getD 3 0)]) s:=fun s h=>by unfold J7 at h⊢;rw[Yv h];exact h
 have g0:=hr.tk
 have g1:=hr.st
 dsimp only at g0 g1
 refine⟨by dsimp only;omega,by dsimp only;omega,hr.nS,hr.nO,hr.nM,by dsimp only;rw[List.length_append,List.length_singleton];omega,hr.nQ,hr.sta,hr.ord,hr.met,fun x hx=> ?_,fun x hx=>hf _ (hr.per x hx),hr.done⟩
 rcases Yq hx with h|rfl
 ·exact hr.out x h
 ·exact⟨sp,⟨v3.1,by dsimp only;omega⟩,h1⟩
theorem J58 (hr:Jn (tk,st,S,O,M,X,Q)) (hv:tk≤vs.getD 0 0∧vs.getD 0 0≤999999999) (ho:0≤Kx O (ns.getD 0 Ja)) (hc:Jdm O ns vs=0):Jn (vs.getD 0 0,st,S,Jam O (ns.getD 0 Ja) (vs.getD 0 0),M,X,Q):=by
 have h1:=bn1 (Ys (by decide) hc)
 have c1:(X9 O (ns.getD 0 Ja)).2.2.2.2.2.2= -1:=bne_eq_false_iff_eq.1 h1.1
 have hm:=Jci ho
 have g0:=hr.tk
 have g1:=hr.st
 dsimp only at g0 g1
 have ox:Jd6 S (X9 O (ns.getD 0 Ja)):=hr.ord _ hm
 refine⟨by dsimp only;omega,by dsimp only;omega,hr.nS,by unfold Jam;rw[List.length_set];exact hr.nO,hr.nM,hr.nX,hr.nQ,hr.sta,fun x hx=> ?_,hr.met,hr.out,hr.per,fun x hx hh e1 e2=> ?_⟩
 ·rcases Jcj hx with rfl|h
  ·exact⟨ox.span,ox.pow,ox.pri,⟨by dsimp only;omega,hv.2⟩,ox.fr,ox.tu⟩
  ·exact hr.ord x h
 ·rcases Jcj hx with rfl|h
  ·refine hr.done _ hm hh ?_ e2
   unfold J4 at e1⊢
   rw[c1]
   have e1:(bif Ks (X9 O (ns.getD 0 Ja)).2.2.2.1 hh then _ else false)=true:=e1
   cases h3:Ks (X9 O (ns.getD 0 Ja)).2.2.2.1 hh with
   |true=>rfl
   |false=>rw[h3] at e1;cases e1
  ·exact hr.done x h hh e1 e2
theorem Jsv (hr:Jn (tk,st,S,O,M,X,Q)) (hv:tk≤vs.getD 0 0∧vs.getD 0 0≤999999999) (ho:0≤J7 X (ns.getD 0 Ja)) (hc:Jdn X Q ns vs=0):Jn (vs.getD 0 0,st,S,O,M,Je7 X (ns.getD 0 Ja) (vs.getD 0 0),Q):=by
 obtain⟨c1,c2,c3⟩:=Jgl hc
 have c1:=of_decide_eq_false (Ys (by decide) c1)
 have c2:=of_decide_eq_false (Ys (by decide) c2)
 have hm:=Jwd ho
 have ox:Jpz S (Dd X (ns.getD 0 Ja)):=hr.out _ hm
 have l1:=ox.span.lo
 have l2:=ox.span.len
 have g0:=hr.tk
 have g1:=hr.st
 dsimp only at g0 g1
 have hf:∀s,0≤J7 X s→0≤J7 (Je7 X (ns.getD 0 Ja) (vs.getD 0 0)) s:=fun s h=>by
  unfold Je7
  unfold J7 at h⊢
  rw[Fa fun x hx=> ?_]
  ·exact h
  ·have:=Jge (d:=Jb6) hx
   show((Dd X (ns.getD 0 Ja)).1.toList==s.toList)=_
   unfold Dd J7
   rw[this]
 refine⟨by dsimp only;omega,by dsimp only;omega,hr.nS,hr.nO,hr.nM,by unfold Je7;rw[List.length_set];exact hr.nX,hr.nQ,hr.sta,hr.ord,hr.met,fun x hx=> ?_,fun x hx=>hf _ (hr.per x hx),hr.done⟩
 rcases Jcj hx with rfl|h
 ·exact⟨⟨l1,by dsimp only;omega,hv.2,by dsimp only;omega⟩,ox.rest,ox.sta⟩
 ·exact hr.out x h
theorem Jvj (hr:Jn (tk,st,S,O,M,X,Q)) (hv:tk≤v∧v≤999999999) (ho:0≤J7 X (ns.getD 1 Ja)) (hc:Jdo X Q ns vs=0):Jn (v,st,S,O,M,X,Q++[(ns.getD 0 Ja,ns.getD 1 Ja,true)]):=by
 have c2:=of_decide_eq_false (Ys (by decide) (Zw hc).2)
 have g0:=hr.tk
 have g1:=hr.st
 dsimp only at g0 g1
 refine⟨by dsimp only;omega,by dsimp only;omega,hr.nS,hr.nO,hr.nM,hr.nX,by dsimp only;rw[List.length_append,List.length_singleton];omega,hr.sta,hr.ord,hr.met,hr.out,fun x hx=> ?_,hr.done⟩
 rcases Yq hx with h|rfl
 ·exact hr.per x h
 ·exact ho
theorem Jvi (hr:Jn (tk,st,S,O,M,X,Q)) (hv:tk≤v∧v≤999999999) {a:ByteArray} (ho:0≤U1 Q a):Jn (v,st,S,O,M,X,Jan Q a):=by
 have g0:=hr.tk
 have g1:=hr.st
 dsimp only at g0 g1
 refine⟨by dsimp only;omega,by dsimp only;omega,hr.nS,hr.nO,hr.nM,hr.nX,by unfold Jan;rw[List.length_set];exact hr.nQ,hr.sta,hr.ord,hr.met,hr.out,fun x hx=> ?_,hr.done⟩
 rcases Jcj hx with rfl|h
 ·exact hr.per (Jnw Q a) (J6h ho)
 ·exact hr.per x h
theorem Jmr {u:Int} {x:Ord}:∀{m:Nat} {a:Int},Df M u x a m=[]→∀h,a≤h→h<a+m→(J4 x h&&(decide (h<u)&&decide (K6 M x.1 h<0)))=false
 |0,a,_,h,h1,h2=>by omega
 | m + 1, a, e, h, h1, h2 => by
  unfold Df at e
  obtain⟨e1,e2⟩:=List.append_eq_nil_iff.1 e
  by_cases ha:h=a
  ·subst ha
   cases hb:J4 x h&&(decide (h<u)&&decide (K6 M x.1 h<0)) with
   |false=>rfl
   |true=>rw[hb] at e1;cases e1
  ·exact Jmr e2 h (by omega) (by push_cast at h2;omega)
theorem Jmp {u:Int}:∀{O:List Ord},Kr M u O=[]→∀x∈O,Jwm M u x=[]
 |[],_,x,hx=>by cases hx
 |y::l,e,x,hx=>by
  unfold Kr at e
  obtain⟨e1,e2⟩:=List.append_eq_nil_iff.1 e
  rcases List.mem_cons.1 hx with rfl|hx
  ·exact e1
  ·exact Jmp e2 x hx
theorem Jxt {x:Ord} {h:Int} (e:J4 x h=true):x.2.2.2.1.1≤h∧h<x.2.2.2.1.2:=by
 unfold J4 Ks at e
 cases h1:decide (x.2.2.2.1.1≤h) with
 |false=>rw[h1] at e;cases e
 |true=>
  cases h2:decide (h<x.2.2.2.1.2) with
  |false=>rw[h1,h2] at e;cases e
  |true=>exact⟨of_decide_eq_true h1,of_decide_eq_true h2⟩
theorem Jvh (hr:Jn (tk,st,S,O,M,X,Q)) (hv:tk≤vs.getD 0 0∧vs.getD 0 0≤999999999) (hc:L7 st O M X Q vs=0):Jn (vs.getD 0 0,vs.getD 1 0,S,O,M,X,Q):=by
 unfold L7 at hc
 cases h1:(bif decide (vs.getD 1 0≤st) then true else decide (vs.getD 0 0<vs.getD 1 0)) with
 |true=>rw[h1] at hc;cases hc
 |false=>
  rw[h1,cond_false] at hc
  have h2:=bn1 h1
  have d1:=of_decide_eq_false h2.1
  have d2:=of_decide_eq_false h2.2
  have h3:=of_decide_eq_false (bn1 (Ys (by decide) hc)).1
  have h4:Kr M (vs.getD 1 0) O=[]:=List.eq_nil_of_length_eq_zero (by omega)
  have g0:=hr.tk
  have g1:=hr.st
  dsimp only at g0 g1
  refine⟨by dsimp only;omega,by dsimp only;omega,hr.nS,hr.nO,hr.nM,hr.nX,hr.nQ,hr.sta,hr.ord,hr.met,hr.out,hr.per,fun x hx hh e1 e2=> ?_⟩
  have hi:=Jxt e1
  have h5:=Jmr (Jmp h4 x hx) hh hi.1 (by omega)
  have e2:hh<vs.getD 1 0:=e2
  rw[e1,decide_eq_true e2,Bool.true_and,Bool.true_and] at h5
  have:=of_decide_eq_false h5
  show 0≤K6 M x.1 hh
  omega
end
theorem J55 {h:Ka} {e:Ev} (hh:Kg h) (hm:(Kh h.2.2).2.2.2.2.1.length<10000) (hc:Jb e=0) (ha:L3 h e=0) (hk:(e.2.1.toList==Jy.toList)=false):Jn (Jq (Kh h.2.2) e):=by
 obtain⟨n,k,ns,vs,tx⟩:=e
 have hE:=J6 hc
 have eK:=Xa (h:=h) (n:=n) (k:=k) (ns:=ns) (vs:=vs) (tx:=tx) hk
 rw[ha] at eK
 obtain⟨_,z2,z3,z4,z5⟩:=Jb3 eK.symm
 have hr:=Zb hh
 clear eK ha z4
 generalize Kh h.2.2=r at*
 obtain⟨tk,st,S,O,M,X,Q⟩:=r
 have z2:¬vs.getD 0 0<tk:=z2
 have hm:M.length<10000:=hm
 have hn:ns.length=(Ji k).1.length:=hE.nn
 have hvl:(vs.length:Int)=(Ji k).2.1:=hE.nv
 have hx:∀i,i<vs.length→(0≤vs.getD i 0∧vs.getD i 0≤999999999):=fun i hi=>hE.val _ (Jd hi)
 have hV:EvV (n,k,ns,vs,tx):=hE.val
 have hkd:=Ut hE.kind
 dsimp only at hkd hk
 clear hE hc hh
 rcases hkd with h|h|h|h|h|h|h|h|h|h|h<;>subst h
 ·exact absurd hk (by rw[show(Jy.toList==Jy.toList)=true from by kernel_rfl];decide)
 ·simp only[Ub,List.length_cons,List.length_nil] at hn hvl z3
  simp only[ckS,Ub] at z5
  obtain⟨k0,z3⟩:=Jm z3
  have e:Jq (tk,st,S,O,M,X,Q) (n,Jt,ns,vs,tx)=(vs.getD 0 0,(Jbv (tk,st,S,O,M,X,Q) (n,Jt,ns,vs,tx)).2):=by unfold Jq doS;simp only[Ub]
  rw[e]
  have hv:tk≤vs.getD 0 0∧vs.getD 0 0≤999999999:=⟨by omega,(hx 0 (by omega)).2⟩
  exact Jsu hr hv z5
 ·simp only[Vg,List.length_cons,List.length_nil] at hn hvl z3
  simp only[ckS,Vg] at z5
  obtain⟨k0,z3⟩:=Jm z3
  have e:Jq (tk,st,S,O,M,X,Q) (n,Uc,ns,vs,tx)=(vs.getD 0 0,(F5 (tk,st,S,O,M,X,Q) (n,Uc,ns,vs,tx)).2):=by unfold Jq doS;simp only[Vg]
  rw[e]
  have hv:tk≤vs.getD 0 0∧vs.getD 0 0≤999999999:=⟨by omega,(hx 0 (by omega)).2⟩
  exact J1c hr hv z5 (Jtp (k0 rfl))
 ·simp only[Uw,List.length_cons,List.length_nil] at hn hvl z3
  simp only[ckS,Uw] at z5
  obtain⟨k0,z3⟩:=Jm z3
  obtain⟨k1,z3⟩:=Jm z3
  obtain⟨k2,z3⟩:=Jm z3
  have e:Jq (tk,st,S,O,M,X,Q) (n,Kl,ns,vs,tx)=(vs.getD 0 0,(F9 (tk,st,S,O,M,X,Q) (n,Kl,ns,vs,tx)).2):=by unfold Jq doS;simp only[Uw]
  rw[e]
  have hv:tk≤vs.getD 0 0∧vs.getD 0 0≤999999999:=⟨by omega,(hx 0 (by omega)).2⟩
  exact J1d hr hv rfl hV (by omega) (Jtp (k1 rfl)) (Jtp (k2 rfl)) z5
 ·simp only[Ux,List.length_cons,List.length_nil] at hn hvl z3
  simp only[ckS,Ux] at z5
  obtain⟨k0,z3⟩:=Jm z3
  have e:Jq (tk,st,S,O,M,X,Q) (n,K5,ns,vs,tx)=(vs.getD 0 0,(Jaa (tk,st,S,O,M,X,Q) (n,K5,ns,vs,tx)).2):=by unfold Jq doS;simp only[Ux]
  rw[e]
  have hv:tk≤vs.getD 0 0∧vs.getD 0 0≤999999999:=⟨by omega,(hx 0 (by omega)).2⟩
  exact J1e hr hv hm (J4y (k0 rfl)) (fun i hi=>hx i (by omega)) z5
 ·simp only[Vu,List.length_cons,List.length_nil] at hn hvl z3
  simp only[ckS,Vu] at z5
  obtain⟨k0,z3⟩:=Jm z3
  have e:Jq (tk,st,S,O,M,X,Q) (n,Vq,ns,vs,tx)=(vs.getD 0 0,(F4 (tk,st,S,O,M,X,Q) (n,Vq,ns,vs,tx)).2):=by unfold Jq doS;simp only[Vu]
  rw[e]
  have hv:tk≤vs.getD 0 0∧vs.getD 0 0≤999999999:=⟨by omega,(hx 0 (by omega)).2⟩
  exact J58 hr hv (J4y (k0 rfl)) z5
 ·simp only[Kw,List.length_cons,List.length_nil] at hn hvl z3
  simp only[ckS,Kw] at z5
  obtain⟨k0,z3⟩:=Jm z3
  obtain⟨k1,z3⟩:=Jm z3
  have e:Jq (tk,st,S,O,M,X,Q) (n,Ju,ns,vs,tx)=(vs.getD 0 0,(F7 (tk,st,S,O,M,X,Q) (n,Ju,ns,vs,tx)).2):=by unfold Jq doS;simp only[Kw]
  rw[e]
  have hv:tk≤vs.getD 0 0∧vs.getD 0 0≤999999999:=⟨by omega,(hx 0 (by omega)).2⟩
  exact Jvk hr hv hV (by omega) (Jtp (k1 rfl)) z5
 ·simp only[Kk,List.length_cons,List.length_nil] at hn hvl z3
  simp only[ckS,Kk] at z5
  obtain⟨k0,z3⟩:=Jm z3
  have e:Jq (tk,st,S,O,M,X,Q) (n,Jr,ns,vs,tx)=(vs.getD 0 0,(F6 (tk,st,S,O,M,X,Q) (n,Jr,ns,vs,tx)).2):=by unfold Jq doS;simp only[Kk]
  rw[e]
  have hv:tk≤vs.getD 0 0∧vs.getD 0 0≤999999999:=⟨by omega,(hx 0 (by omega)).2⟩
  exact Jsv hr hv (J4x (k0 rfl)) z5
 ·simp only[K8,List.length_cons,List.length_nil] at hn hvl z3
  simp only[ckS,K8] at z5
  obtain⟨k0,z3⟩:=Jm z3
  obtain⟨k1,z3⟩:=Jm z3
  have e:Jq (tk,st,S,O,M,X,Q) (n,Kf,ns,vs,tx)=(vs.getD 0 0,(F8 (tk,st,S,O,M,X,Q) (n,Kf,ns,vs,tx)).2):=by unfold Jq doS;simp only[K8]
  rw[e]
  have hv:tk≤vs.getD 0 0∧vs.getD 0 0≤999999999:=⟨by omega,(hx 0 (by omega)).2⟩
  exact Jvj hr hv (J4x (k1 rfl)) z5
 ·simp only[K7,List.length_cons,List.length_nil] at hn hvl z3
  simp only[ckS,K7] at z5
  obtain⟨k0,z3⟩:=Jm z3
  have e:Jq (tk,st,S,O,M,X,Q) (n,Ke,ns,vs,tx)=(vs.getD 0 0,(Jhx (tk,st,S,O,M,X,Q) (n,Ke,ns,vs,tx)).2):=by unfold Jq doS;simp only[K7]
  rw[e]
  have hv:tk≤vs.getD 0 0∧vs.getD 0 0≤999999999:=⟨by omega,(hx 0 (by omega)).2⟩
  exact Jvi hr hv (Kj4 (k0 rfl))
 ·simp only[Uv,List.length_cons,List.length_nil] at hn hvl z3
  simp only[ckS,Uv] at z5
  have e:Jq (tk,st,S,O,M,X,Q) (n,Jh,ns,vs,tx)=(vs.getD 0 0,(Jbu (tk,st,S,O,M,X,Q) (n,Jh,ns,vs,tx)).2):=by unfold Jq doS;simp only[Uv]
  rw[e]
  have hv:tk≤vs.getD 0 0∧vs.getD 0 0≤999999999:=⟨by omega,(hx 0 (by omega)).2⟩
  exact Jvh hr hv z5
theorem J69 {r:Reg} {e:Ev}:(doS r e).2.2.2.2.1.length≤r.2.2.2.2.1.length+1:=by
 obtain⟨tk,st,S,O,M,X,Q⟩:=r
 obtain⟨n,k,ns,vs,tx⟩:=e
 unfold doS
 split<;>first|exact Nat.le_succ _|(show(M++[_]).length≤M.length+1;simp)
structure Yc (h:Ka):Prop where
 ok:Kg h
 met:∀r∈h.2.2,r.2.2.2.2.1.length≤h.1.length
theorem Jwi {h:Ka} (hi:Yc h):(Kh h.2.2).2.2.2.2.1.length≤h.1.length:=by
 unfold Kh
 by_cases h0:0<h.2.2.length
 ·exact hi.met _ (Jd (by omega))
 ·have:h.2.2=[]:=List.eq_nil_of_length_eq_zero (by omega)
  rw[this];exact Nat.zero_le _
theorem add_zero {h:Ka} {e:Ev} (ha:K9 h e=0):Jb e=0∧L3 h e=0:=by
 unfold K9 at ha
 by_cases hc:Jb e≠0
 ·rw[if_pos hc] at ha;exact absurd ha hc
 ·rw[if_neg hc] at ha;exact⟨Decidable.of_not_not hc,ha⟩
theorem Jdt {h:Ka} {e:Ev} (hi:Yc h) (hl:h.1.length<1000) (ha:K9 h e=0):Yc (Ho h e):=by
 obtain⟨hc,hacc⟩:=add_zero ha
 obtain⟨E,C,G⟩:=h
 obtain⟨n1,n2,n3,hr⟩:=hi.ok
 have hm:=Jwi hi
 dsimp only at n1 n2 n3 hr hl hm
 cases hk:e.2.1.toList==Jy.toList with
 |true=>
  unfold Ho
  rw[hk,cond_true]
  refine⟨⟨by simp;omega,by simp;omega,by simp;omega,fun r hx=>hr r (List.mem_of_mem_take hx)⟩,fun r hx=> ?_⟩
  have:r.2.2.2.2.1.length≤E.length:=hi.met r (List.mem_of_mem_take hx)
  simp only[List.length_append,List.length_singleton]
  omega
 | false =>
  have hs:=J55 hi.ok (Nat.lt_of_le_of_lt hm (by omega)) hc hacc hk
  unfold Ho
  rw[hk,cond_false]
  refine⟨⟨by simp;omega,by simp;omega,by simp;omega,fun r hx=> ?_⟩,fun r hx=> ?_⟩
  ·rcases Yq hx with h|rfl
   ·exact hr r h
   ·exact hs
  ·rcases Yq hx with h|rfl
   ·have:r.2.2.2.2.1.length≤E.length:=hi.met r h
    simp only[List.length_append,List.length_singleton]
    omega
   ·have:=J69 (r:=Kh G) (e:=e)
    simp only[List.length_append,List.length_singleton]
    show(doS (Kh G) e).2.2.2.2.1.length≤_
    omega
theorem Hn {h:Ka} {e:Ev}:(Ho h e).1.length=h.1.length+1:=by
 unfold Ho
 cases e.2.1.toList==Jy.toList<;>simp
def Xd:Ka:=([],[],[])
theorem Ze:Yc Xd:=⟨⟨by decide,by decide,rfl,fun _ h=>(by cases h)⟩,fun _ h=>(by cases h)⟩
def Xt:Ka→List Ev→Ka×Int×Int
 |h,[]=>(h,0,0)
 |h,e::l=>if K9 h e=0 then Xt (Ho h e) l else(h,h.1.length+1,K9 h e)
def Je (l:List Ev):Ka×Int×Int:=if 1000<l.length then(Xd,0,5) else Xt Xd l
def J3 (l:List Ev):Reg:=if(Je l).2.2=0 then Kh (Je l).1.2.2 else U3
def lOk (l:List Ev):Prop:=l.length≤1000000∧∀e∈l,Jdl e
abbrev J38:List SC:=[.int .i64 0, .int .i64 0, .val (.slice none 0 0), .val (.slice none 0 0), .val (.slice none 0 0), .val (.slice none 0 0), .val (.slice none 0 0)]
abbrev W94:=W93
def K9j:Con:={args:=[aS, .ref 105 Jle],ress:=[I],owns:=[],pre:=fun(_,r,_)=>[Jn r],spec:=fun(s,r,_)=>(bif !Vl r 0 s then 10 else 0,())}
theorem Ks7:Ok Tryz.prog 139 K9j:=okW W94 Tryz.f139 na fun xx=>by
 obtain⟨(s:ByteArray),⟨(tk:Int),(st:Int),(S:List Sta),(O:List Ord),(M:List Met),(X:List Out),(Q:List Per)⟩,_⟩:=xx
 refine(by kernel_rfl:(Jw tk st S O M X Q→Jw tk st S O M X Q∧(bif !Vl (Z74 tk st S O M X Q) (0:Int) s then(10:Int) else(0:Int))=bif !Vl (Z74 tk st S O M X Q) (0:Int) s then(10:Int) else(0:Int))=_).mp ?_
 delta Z74 Jw
 intro hr
 exact⟨hr,rfl⟩
abbrev W95:=W94.add Ks7
def opE (l:List Ev) (ns:List ByteArray):Int:=if(Je l).2.2=0 then Jg (ns.map fun s=>bif !Vl (J3 l) 0 s then 10 else 0) else(Je l).2.2
def Kum:Con:={args:=[.val false (.list 67 sEv), .val false (.list 9 .str)],ress:=[(true,Jle),I],owns:=[],pre:=fun(l,ns,_)=>[lOk l,ns.length≤1000000],spec:=fun(l,ns,_)=>(J3 l,opE l ns,())}
abbrev J79 (l:List Ev) (ns:List ByteArray):Ann:={X:=Ka×Nat,σ:=fun(h,k)=>⟨9,[(5, .one (.ptr 4 0)),(14, .one (.sl 0)),(15, .one (.int .i64 l.length)),(16, .one (.int .i64 k))],[(0, .imm 67 sEv l),(1, .imm 9 .str ns),(2, .box 105 J38),(3, .sus [(1, .one (.sl 1)),(4, .one (.ptr 2 0))]),(4, .box 167 [.sl 6, .sl 7, .sl 8]),(6, .own 67 sEv h.1),(7, .own 67 sEv h.2.1),(8, .own 105 Jle h.2.2)]⟩,inv:=fun(h,k)=>Yc h∧h.1.length=k∧k≤l.length∧l.length≤1000∧Xt h (l.drop k)=Je l,mu:=fun(_,k)=>l.length-k}
def Z30 (a:Ka×Nat) (b:List Ev):=Bd (Nc a.2) (Ln b)
def Z37 (a:Ka×Nat):=Iw (Nc a.2+1)
def Jus (a:Ka×Nat) (b:(List Ev×List Ev×List Reg)×Nat):=Nc a.2+1=Nc b.2
def Vm:=Value.slice none 0 0
def Jsa (a:Ka×Nat):=(a.1.1,E2 a.1.2)
def J9c (a:Ka×Nat):=Kg (Jsa a)
def Kce (a:List Ev) (b:Ka×Nat):=List.getD a b.2 D5
def Kcd (a:List Ev) (b:Ka×Nat):=(Kce a b).2
def J5h (a:List Ev) (b:Ka×Nat):=(Kcd a b).2
def Jum (a:List Ev):=Vy=J3 a
def Kb4 (a:(List Ev×List Ev×List Reg)×Nat):=List.length a.1.1=0∧List.length a.1.2.1=0∧List.length a.1.2.2=0
def Km7 (a:Bt):= !Vl Vy 0 a
def K0q (a:Ka×Nat):=Gt a.1.2.2 (Ln a.1.2.2-1) Vy
def K0p (a:Ka×Nat):=(K0q a).2
def K0l (a:Ka×Nat):=(K0p a).2
def Khz (a:(List Ev×List Ev×List Reg)×Nat) (b:List Ev):=List.length a.1.1=a.2∧a.2≤List.length b∧List.length b≤1000∧Xt a.1 (List.drop a.2 b)=Je b
def Khy (a:Ka×Nat) (b:List Ev):=List.length a.1.1=a.2∧a.2≤List.length b∧List.length b≤1000∧Xt a.1 (List.drop a.2 b)=Je b
def K0g (a:Ka×Nat):=(K0l a).2
def K0e (a:Ka×Nat):=(K0g a).2
def Khs (a:(List Ev×List Ev×List Reg)×Nat) (b:List Ev):=Yc a.1∧Khz a b
def Klx (a:Ka×Nat) (b:List Ev):=Yc a.1∧Khy a b
def Kyr (a:Ls):=List.map (fun(x:ByteArray)=>match Km7 x with|true=>(10:Int)|false=>(0:Int)) a
def Kk5 (a:(List Ev×List Ev×List Reg)×Nat) (b:List Ev) (c:Ka×Nat):=Khs a b∧List.length b-a.2<List.length b-c.2
def J0b (a:List Ev) (b:Ka×Nat):=((Kce a b).1,(Kcd a b).1,(J5h a b).1,E2 (J5h a b).2)
def Kbm (a:Ka×Nat) (b:List Ev):=K9 (Jsa a) (J0b b a)
def Kkj (a:Ka×Nat) (b:List Ev):=Vf (Jsa a) (J0b b a)
def Kkh (a:Ka×Nat) (b:List Ev):=(Kkj a b).2
def Kkf (a:Ka×Nat) (b:List Ev):=J9c a∧List.length a.1.1<1000∧Jdl (J0b b a)
def Kgv (a:Ka×Nat) (b:List Ev):=Kbm a b !=0
def J30 (a:Ka×Nat):=((K0q a).1,(K0p a).1,(K0l a).1,(K0g a).1,(K0e a).1,E2 (K0e a).2)
def Kae (a:Ka×Nat) (b:Ls):=List.map (fun(x:ByteArray)=>match !Vl (J30 a) (0:Int) x with|true=>(10:Int)|false=>(0:Int)) b
def J3u (a:Ka×Nat) (b:List Ev) (c:(List Ev×List Ev×List Reg)×Nat):=(Kkj a b).1=c.1.1∧(Kkh a b).1=c.1.2.1∧(Kkh a b).2=c.1.2.2
theorem K8j:Ok Tryz.prog 68 Kum:=J4n W95 Tryz.f68 (U4 (l:=([(74,Tryz.f74),(75,Tryz.f75)]:List (Nat×Func))) (List.forall_mem_cons.2 ⟨by kernel_rfl,List.forall_mem_cons.2 ⟨by kernel_rfl,by simp⟩⟩)) (fun xx=>na ()) (fun xx=>fun f id=>if f=74 then some (J79 xx.1 xx.2.1) else none) fun xx=>by
 obtain⟨(l:List Ev),(ns:List ByteArray),_⟩:=xx
 refine(by kernel_rfl:(lOk l→Fm ns→Br (decide (1000<Ln l)) (Br true (Sf true (Jum l∧5=opE l ns)) False) (∃(x:(List Ev×List Ev×List Reg)×Nat),Si (Ln l) (0=Nc x.2∧Sf l (Sf ns (Si 0 (Si 0 (Sf Vm (Sf Vm (Sf Vm (Sf Vm (Sf Vm (Kb4 x))))))))))∧Khs x l∧∀(x:Ka×Nat),Klx x l→Br (decide (Nc x.2<Ln l)) (Tw (Z30 x l)∧Kkf x l∧Br (Kgv x l) (Z37 x∧Br (Kgv x l) (Sf true (Jum l∧Kbm x l=opE l ns)) False) (Z37 x∧∃(y:(List Ev×List Ev×List Reg)×Nat),Si (Ln l) (Jus x y∧Sf l (Sf ns (Si 0 (Si 0 (Sf Vm (Sf Vm (Sf Vm (Sf Vm (Sf Vm (J3u x l y))))))))))∧Kk5 y l x)) (Br false (Sf true (Jum l∧0=opE l ns)) (Br (decide (0<Ln x.1.2.2)) ((Iw (Ln x.1.2.2-1)∧Tw (Bd (Ln x.1.2.2-1) (Ln x.1.2.2)))∧(Fm ns∧(∀(x_1:ByteArray),Jhi ns x_1→Jn (J30 x))∧List.length (Kae x ns)≤1000000)∧Sf true (J30 x=J3 l∧Jg (Kae x ns)=opE l ns)) ((Fm ns∧(∀(x:ByteArray),Jhi ns x→Y1)∧List.length (Kyr ns)≤1000000)∧Sf true (Jum l∧Jg (Kyr ns)=opE l ns))))))=_).mp ?_
 delta Z30 Z37 Fm Jus Vm Jsa D5 J9c Jhi Kce Kcd Dl J5h Vy Y1 Jum Kb4 Km7 K0q K0p K0l Khz Khy K0g K0e Khs Klx Kyr Kk5 J0b Kbm Kkj Kkh Kkf Kgv J30 Kae J3u Br Iw Bd Tw Sf Si Ln Nc Gt B0 E2
 intro hl hns
 refine⟨fun h=> ?_,fun h=> ?_⟩
 ·have e:Je l=(Xd,0,5):=by unfold Je;rw[if_pos (by have:=of_decide_eq_true h;omega)]
  refine⟨fun _=>⟨rfl, ?_, ?_⟩,fun h=>by cases h⟩
  ·unfold J3;rw[e];rfl
  ·unfold opE;rw[e];rfl
 have hn:l.length≤1000:=by have:=of_decide_eq_false h;omega
 have e0:Je l=Xt Xd l:=by unfold Je;rw[if_neg (by omega)]
 refine⟨(Xd,(0:Nat)),⟨rfl,rfl,rfl,rfl,rfl,rfl,rfl,rfl,rfl,rfl,rfl,rfl,rfl,rfl⟩,⟨Ze,rfl,Nat.zero_le _,hn,e0.symm⟩,fun(x:Ka×Nat) hx=>⟨fun h1=> ?_,fun h1=> ?_⟩⟩
 ·obtain⟨g,k⟩:=x
  obtain⟨hi,hk,hk2,_,hrun⟩:=hx
  dsimp only at hi hk hk2 hrun
  have hlt:k<l.length:=by simpa using h1
  rw[Jk (d:=ev0) hlt,Xt] at hrun
  have hz:=hl.2 _ (Jd (d:=ev0) hlt)
  refine⟨⟨⟨by dsimp only;omega,by dsimp only;omega⟩,by dsimp only;omega,by dsimp only;omega⟩,⟨hi.ok,by show g.1.length<1000;omega,hz⟩,fun h2=>⟨by dsimp only;omega,fun h3=> ?_,fun h3=> ?_⟩,fun h2=>⟨by dsimp only;omega,(Ho g (l.getD k ev0),k+1), ?_,⟨?_, ?_,by dsimp only;omega,hn, ?_⟩,by dsimp only;omega⟩⟩
  ·have h2:K9 g (l.getD k ev0)≠0:=bne_iff_ne.1 h2
   rw[if_neg h2] at hrun
   refine⟨rfl, ?_, ?_⟩
   ·unfold J3;rw[←hrun];dsimp only;rw[if_neg h2];rfl
   ·unfold opE;rw[←hrun];dsimp only;rw[if_neg h2];rfl
  ·have h2:K9 g (l.getD k ev0)≠0:=bne_iff_ne.1 h2
   exact absurd (bne_eq_false_iff_eq.1 h3) h2
  ·have h2:K9 g (l.getD k ev0)=0:=bne_eq_false_iff_eq.1 h2
   have eP:Vf g (l.getD k ev0)=Ho g (l.getD k ev0):=by unfold Vf;rw[if_pos h2]
   refine⟨rfl,by simp,rfl,rfl,rfl,rfl,rfl,rfl,rfl,rfl,rfl, ?_, ?_, ?_⟩
   ·show(Vf g (l.getD k ev0)).1=_;rw[eP]
   ·show(Vf g (l.getD k ev0)).2.1=_;rw[eP]
   ·show(Vf g (l.getD k ev0)).2.2=_;rw[eP]
  ·exact Jdt hi (by omega) (bne_eq_false_iff_eq.1 h2)
  ·show(Ho g (l.getD k ev0)).1.length=k+1
   rw[Hn,hk]
  ·have h2:K9 g (l.getD k ev0)=0:=bne_eq_false_iff_eq.1 h2
   rw[if_pos h2] at hrun
   exact hrun
 ·obtain⟨g,k⟩:=x
  obtain⟨hi,hk,hk2,_,hrun⟩:=hx
  dsimp only at hi hk hk2 hrun
  have hlt:¬k<l.length:=by simpa using h1
  have:k=l.length:=by omega
  rw[this,List.drop_length,Xt] at hrun
  have eR:J3 l=Kh g.2.2:=by unfold J3;rw[←hrun];rfl
  have hR:=Zb hi.ok
  have hGl:((g.2.2.length:Int)-1).toNat=g.2.2.length-1:=by omega
  have hb:g.2.2.length≤1000:=by have:=hi.ok.nG;have:=hi.ok.nC;have:=hi.ok.nE;omega
  have eO:opE l ns=Jg (ns.map fun s=>bif !Vl (Kh g.2.2) 0 s then 10 else 0):=by unfold opE;rw[←hrun,eR];rfl
  refine⟨fun f=>(by cases f),fun _=>⟨fun h2=> ?_,fun h2=> ?_⟩⟩
  ·have h2:(0:Int)<g.2.2.length:=of_decide_eq_true h2
   dsimp only
   rw[hGl]
   exact⟨⟨⟨by omega,by omega⟩,⟨by omega,by omega⟩,by omega,by omega⟩,⟨hns,fun _ _=>hR,by rw[List.length_map];exact hns⟩,rfl,eR.symm,eO.symm⟩
  ·have e1:=Kp h2
   rw[e1] at eR eO hR
   exact⟨⟨hns,fun _ _=>hR,by rw[List.length_map];exact hns⟩,rfl,eR.symm,eO.symm⟩
abbrev W96:=W95.add K8j
theorem Jvv:∀{l:List Ev} {h:Ka},Yc h→h.1.length+l.length≤1000→Yc (Xt h l).1
 |[],_,hi,_=>hi
 | e :: l, h, hi, hl => by
  unfold Xt
  simp only[List.length_cons] at hl
  by_cases ha:K9 h e=0
  ·rw[if_pos ha]
   exact Jvv (Jdt hi (by omega) ha) (by rw[Hn];omega)
  ·rw[if_neg ha];exact hi
theorem Jmb {l:List Ev}:Yc (Je l).1:=by
 unfold Je
 by_cases h:1000<l.length
 ·rw[if_pos h];exact Ze
 ·rw[if_neg h];exact Jvv Ze (by show 0+l.length≤1000;omega)
theorem Jff {l:List Ev}:Jn (J3 l):=by
 unfold J3
 by_cases h:(Je l).2.2=0
 ·rw[if_pos h];exact Zb Jmb.ok
 ·rw[if_neg h];exact Zb Ze.ok
def Jhp (l:List Ev) (s:ByteArray) (h:Int):Int:=Jg [opE l [s],Ki h 0 999999999]
def Jvy (l:List Ev) (s:ByteArray) (h:Int):Int:=if Jhp l s h=0 then Xy (J3 l).2.2.1 (J3 l).2.2.2.1 (J3 l).2.2.2.2.2.1 s h else 0
def J7f:Con:={args:=[.val false (.list 67 sEv),aS,aI],ress:=[I,I],owns:=[],pre:=fun(l,_)=>[lOk l],spec:=fun(l,s,h,_)=>(Jvy l s h,Jhp l s h,())}
theorem Kdt {l:List Ev} {s:ByteArray} (h:opE l [s]=0):0≤J2 (J3 l).2.2.1 s:=by
 unfold opE at h
 by_cases h0:(Je l).2.2=0
 ·rw[if_pos h0] at h
  have h1:=Uj.1 h _ (List.mem_map_of_mem (List.mem_cons_self ..))
  have h2:=Ys (by decide) h1
  exact Jtp (by simpa using h2)
 ·rw[if_neg h0] at h;exact absurd h h0
def J8t (a:List Ev):=((J3 a).1,(J3 a).2.1,(J3 a).2.2.1,(J3 a).2.2.2.1,(J3 a).2.2.2.2.1,E2 (J3 a).2.2.2.2.2)
def J5e (a:List Ev):=Jn (J8t a)
theorem K81:Ok Tryz.prog 25 J7f:=okW W96 Tryz.f25 na fun xx=>by
 obtain⟨(l:List Ev),(s:ByteArray),(h:Int),_⟩:=xx
 refine(by kernel_rfl:(lOk l→(lOk l∧1≤1000000)∧2≤1000000∧Br (Jg [opE l [s],Z76 h] !=0) (0=Jvy l s h∧Jg [opE l [s],Z76 h]=Jhp l s h) ((J5e l∧0≤J2 (J3 l).2.2.1 s)∧Xy (J3 l).2.2.1 (J3 l).2.2.2.1 (J3 l).2.2.2.2.2.1 s h=Jvy l s h∧0=Jhp l s h))=_).mp ?_
 delta Z76 J8t J5e Br E2
 intro hl
 refine⟨⟨hl,by decide⟩,by decide,fun e=> ?_,fun e=> ?_⟩
 ·have e:Jhp l s h≠0:=bne_iff_ne.1 e
  exact⟨by unfold Jvy;rw[if_neg e],rfl⟩
 ·have e:Jhp l s h=0:=bne_eq_false_iff_eq.1 e
  exact⟨⟨Jff,Kdt (Zw e).1⟩,by unfold Jvy;rw[if_pos e],e.symm⟩
abbrev W97:=W96.add K81
abbrev W98:=W97
abbrev W99:=W98
abbrev K7l:=W99
end Go.Proofs.YtcibbcfiemeoiaaGreatDoor

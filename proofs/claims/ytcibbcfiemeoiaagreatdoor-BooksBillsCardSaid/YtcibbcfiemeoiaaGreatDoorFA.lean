/- Contracts of the functions that the law reaches: part of the proof. -/
import Derived.Test.YtcibbcfiemeoiaaGreatDoorProg
import Derived.Test.YtcibbcfiemeoiaaGreatDoorSxC
import Derived.Test.YtcibbcfiemeoiaaGreatDoorShelfA
import Derived.Test.YtcibbcfiemeoiaaGreatDoorLayA
import Derived.KernelRfl
import Derived.Laws.RangeAny
import Derived.Lib.Strings
set_option linter.unusedSimpArgs false
set_option linter.unusedVariables false
set_option maxRecDepth 20000
namespace Go.Proofs.YtcibbcfiemeoiaaGreatDoor
open Go.Sx
set_option maxHeartbeats 20000000
abbrev I:Bool×Sch:=(false, .int .i64)
abbrev Bo:Bool×Sch:=(false, .bool)
abbrev aI:AK:= .val false (.int .i64)
abbrev aB:AK:= .val false .bool
abbrev aS:AK:= .val false .str
abbrev tS:Bool×Sch:=(false, .str)
abbrev sI:Sch:= .int .i64
abbrev W0 [Sx.Dr]:GW Tryz.prog:=⟨[], .nil _⟩
theorem mixed:Tryz.prog.follows .mixedOrders=true:=by kernel_rfl
theorem okW [Sx.Dr] {f:FuncId} {c:Con} (W:GW Tryz.prog) (fn:Func) (ann:ATup c.args→Nat→Option Ann) (h:∀x:ATup c.args,wpF Tryz.prog W.g (ann x) fn c x) (h1:Tryz.prog.funcs[f]? =some fn:=by kernel_rfl) (h2:Jbj fn c=true:=by kernel_rfl):Ok Tryz.prog f c:=Vq mixed W.ok h1 h2 ann h
theorem J2c [Sx.Dr] {f:FuncId} {c:Con} {lib:FuncId→Option Func} (W:GW Tryz.prog) (fn:Func) (hl:∀f fn,lib f=some fn→Tryz.prog.funcs[f]? =some fn) (ann:ATup c.args→Nat→Option Ann) (annF:ATup c.args→FuncId→Nat→Option Ann) (h:∀x:ATup c.args,wpFG Tryz.prog W.g (ann x) (annF x) lib fn c x) (h1:Tryz.prog.funcs[f]? =some fn:=by kernel_rfl) (h2:Jbj fn c=true:=by kernel_rfl):Ok Tryz.prog f c:=Jen mixed W.ok h1 h2 hl ann annF h
abbrev na {α:Type}:α→Nat→Option Ann:=fun _ _=>none
abbrev Xh (A:Ann):Nat→Option Ann:=fun k=>if k=0 then some A else none
def J4x:Con:={args:=[aB,aI],ress:=[I],owns:=[],pre:=fun _=>[],spec:=fun(b,e,_)=>(bif b then e else 0,())}
def Kmv (a:Bool) (b:Int):=Br a (b=bif a then b else 0) (0=bif a then b else 0)
theorem K6c [Sx.Dr]:Ok Tryz.prog 71 J4x:=okW W0 Tryz.f71 na fun xx=>by
 obtain⟨(b:Bool),(e:Int),_⟩:=xx
 refine(by kernel_rfl:(Kmv b e)=_).mp ?_
 delta Kmv Br
 cases b<;>simp
abbrev W1 [Sx.Dr]:=W0.add K6c
theorem K52 [Sx.Dr]:Ok Tryz.prog 84 J4x:=okW W1 Tryz.f84 na fun xx=>by
 obtain⟨(b:Bool),(e:Int),_⟩:=xx
 refine(by kernel_rfl:(Kmv b e)=_).mp ?_
 delta Kmv Br
 cases b<;>simp
abbrev W2 [Sx.Dr]:=W1.add K52
theorem K64 [Sx.Dr]:Ok Tryz.prog 19 J4x:=okW W2 Tryz.f19 na fun xx=>by
 obtain⟨(b:Bool),(e:Int),_⟩:=xx
 refine(by kernel_rfl:((bif b then e else 0)=bif b then e else 0)=_).mp ?_
 trivial
abbrev W3 [Sx.Dr]:=W2.add K64
def Ki (n lo hi:Int):Int:=bif decide (n<lo)||decide (hi<n) then 3 else 0
def J4w:Con:={args:=[aI,aI,aI],ress:=[I],owns:=[],pre:=fun _=>[],spec:=fun(n,lo,hi,_)=>(Ki n lo hi,())}
theorem Krk [Sx.Dr]:Ok Tryz.prog 133 J4w:=okW W3 Tryz.f133 na fun xx=>by
 obtain⟨(n:Int),(lo:Int),(hi:Int),_⟩:=xx
 refine(by kernel_rfl:((bif bif decide (n<lo) then true else decide (hi<n) then 3 else 0)=Ki n lo hi)=_).mp ?_
 unfold Ki;cases decide (n<lo)<;>rfl
abbrev W4 [Sx.Dr]:=W3.add Krk
def Xj (n lo hi:Int):Bool:=decide (n<lo)||decide (hi<n)
def Jz6:Con:={args:=[aI,aI,aI],ress:=[Bo],owns:=[],pre:=fun _=>[],spec:=fun(n,lo,hi,_)=>(Xj n lo hi,())}
theorem K63 [Sx.Dr]:Ok Tryz.prog 20 Jz6:=okW W4 Tryz.f20 na fun xx=>by
 obtain⟨(n:Int),(lo:Int),(hi:Int),_⟩:=xx
 refine(by kernel_rfl:((bif decide (n<lo) then true else decide (hi<n))=Xj n lo hi)=_).mp ?_
 unfold Xj;cases decide (n<lo)<;>rfl
abbrev W5 [Sx.Dr]:=W4.add K63
def Ksj:Con:={args:=[aI],ress:=[I],owns:=[],pre:=fun _=>[],spec:=fun(n,_)=>(Ki n 0 999999999,())}
def Z68 (a:Int):=Ki a 0 999999999
def Kne (a:Int):=Z68 a=Z68 a
theorem K6d [Sx.Dr]:Ok Tryz.prog 70 Ksj:=okW W5 Tryz.f70 na fun xx=>by
 obtain⟨(n:Int),_⟩:=xx
 refine(by kernel_rfl:(Kne n)=_).mp ?_
 delta Z68 Kne
 rfl
abbrev W6 [Sx.Dr]:=W5.add K6d
def Jg:List Int→Int
 |[]=>0
 |x::l=>if x=0 then Jg l else x
theorem Jff {l:List Int} {k:Nat} (h:k<l.length):Jg (l.drop k)=if l.getD k 0=0 then Jg (l.drop (k+1)) else l.getD k 0:=by
 rw[List.drop_eq_getElem_cons h]
 simp[Jg,List.getD_eq_getElem?_getD,h]
def Kda:Con:={args:=[.val false (.list 26 sI)],ress:=[I],owns:=[],pre:=fun(l,_)=>[l.length≤1000000],spec:=fun(l,_)=>(Jg l,())}
abbrev J0q (l:List Int):Ann:={X:=Nat,σ:=fun k=>⟨1,[(5, .one (.sl 0)),(6, .one (.int .i64 l.length)),(7, .one (.int .i64 k))],[(0, .imm 26 sI l)]⟩,inv:=fun k=>k≤l.length∧Jg l=Jg (l.drop k),mu:=fun k=>l.length-k}
def Z14 (a:Nat):=Iw (Nc a+1)
def Z19 (a:Li) (b:Nat):=List.getD a b 0
def Z54 (a:Li):=List.length a≤1000000
def Z71 (a:Nat) (b:Li):=Tw (Bd (Nc a) (Ln b))
def V9 (a b:Nat):=Nc a+1=Nc b
def J08 (a:Li) (b c:Nat):=List.length a-b<List.length a-c
def J6u (a:Nat) (b:Li):=a≤List.length b∧Jg b=Jg (List.drop a b)
def Kmh (a:Li) (b:Nat):=Z19 a b !=0
def Kla (a:Nat) (b:Li) (c:Nat):=J6u a b∧J08 b a c
theorem K6e [Sx.Dr]:Ok Tryz.prog 69 Kda:=okW W6 Tryz.f69 (fun xx=>Xh (J0q xx.1)) fun xx=>by
 obtain⟨(l:List Int),_⟩:=xx
 refine(by kernel_rfl:(Z54 l→∃(x:Nat),Si (Ln l) (0=Nc x∧l=l)∧J6u x l∧∀(x:Nat),J6u x l→Br (decide (Nc x<Ln l)) (Z71 x l∧Br (Kmh l x) (Z19 l x=Jg l) (Z14 x∧∃(y:Nat),Si (Ln l) (V9 x y∧l=l)∧Kla y l x)) (0=Jg l))=_).mp ?_
 delta Z14 Z19 Z54 Z71 V9 J08 J6u Kmh Kla Br Iw Bd Tw Si Ln Nc
 intro hb
 refine⟨(0:Nat),⟨rfl,rfl,rfl⟩,⟨Nat.zero_le _,rfl⟩,fun(k:Nat) hk=>⟨fun h=> ?_,fun h=> ?_⟩⟩
 ·have hlt:k<l.length:=by simpa using h
  have hd:=Jff hlt
  refine⟨by omega,fun h1=> ?_,fun h1=>⟨by omega,(k+1:Nat),⟨rfl,by simp,rfl⟩,⟨by omega, ?_⟩,by omega⟩⟩
  ·have h2:¬l.getD k 0=0:=by simpa using h1
   rw[hk.2,hd,if_neg h2]
  ·have h2:l.getD k 0=0:=by simpa using h1
   rw[hk.2,hd,if_pos h2]
 ·have hlt:¬k<l.length:=by simpa using h
  have:k=l.length:=by omega
  rw[hk.2,this,List.drop_length];rfl
abbrev W7 [Sx.Dr]:=W6.add K6e
def Jv2:Con:={args:=[.val false (.list 3 sI)],ress:=[I],owns:=[],pre:=fun(l,_)=>[l.length≤1000000],spec:=fun(l,_)=>(Jg l,())}
abbrev Jwz (l:List Int):Ann:={X:=Nat,σ:=fun k=>⟨1,[(0, .one (.sl 0)),(3, .one (.int .i64 k))],[(0, .imm 3 sI l)]⟩,inv:=fun k=>k≤l.length∧Jg l=Jg (l.drop k),mu:=fun k=>l.length-k}
theorem K53 [Sx.Dr]:Ok Tryz.prog 83 Jv2:=okW W7 Tryz.f83 (fun xx=>Xh (Jwz xx.1)) fun xx=>by
 obtain⟨(l:List Int),_⟩:=xx
 refine(by kernel_rfl:(Z54 l→∃(x:Nat),(0=Nc x∧l=l)∧J6u x l∧∀(x:Nat),J6u x l→Br (decide (Nc x<Ln l)) (Z71 x l∧Br (Kmh l x) (Z71 x l∧Z19 l x=Jg l) (Z14 x∧∃(y:Nat),(V9 x y∧l=l)∧Kla y l x)) (0=Jg l))=_).mp ?_
 delta Z14 Z19 Z54 Z71 V9 J08 J6u Kmh Kla Br Iw Bd Tw Ln Nc
 intro hb
 refine⟨(0:Nat),⟨rfl,rfl⟩,⟨Nat.zero_le _,rfl⟩,fun(k:Nat) hk=>⟨fun h=> ?_,fun h=> ?_⟩⟩
 ·have hlt:k<l.length:=by simpa using h
  have hd:=Jff hlt
  refine⟨by omega,fun h1=>⟨by omega, ?_⟩,fun h1=>⟨by omega,(k+1:Nat),⟨by simp,rfl⟩,⟨by omega, ?_⟩,by omega⟩⟩
  ·have h2:¬l.getD k 0=0:=by simpa using h1
   rw[hk.2,hd,if_neg h2]
  ·have h2:l.getD k 0=0:=by simpa using h1
   rw[hk.2,hd,if_pos h2]
 ·have hlt:¬k<l.length:=by simpa using h
  have:k=l.length:=by omega
  rw[hk.2,this,List.drop_length];rfl
abbrev W8 [Sx.Dr]:=W7.add K53
theorem K65 [Sx.Dr]:Ok Tryz.prog 18 Jv2:=okW W8 Tryz.f18 na fun xx=>by
 obtain⟨(l:List Int),_⟩:=xx
 refine(by kernel_rfl:(Z54 l→Z54 l∧Jg l=Jg l)=_).mp ?_
 delta Z54
 exact fun h=>⟨h,rfl⟩
abbrev W9 [Sx.Dr]:=W8.add K65
def okB (f:Bool) (c:Int):Bool:=bif (bif decide ((65:Int)≤c) then decide (c≤90) else false) then true else bif (bif decide ((97:Int)≤c) then decide (c≤122) else false) then true else bif f then false else bif decide (c<48) then c==95 else bif decide (57<c) then c==95 else true
def okL (f:Bool):List UInt8→Bool
 |[]=>true
 |b::r=>okB f (b.toNat:Int)&&okL false r
def Yi (s:ByteArray):Bool:=okL true s.data.toList&&(decide (0<s.size)&&decide ((s.size:Int)≤24))
theorem Jug (f:Bool) (c:Int):(bif !bif (bif decide ((65:Int)≤c) then decide (c≤90) else false) then true else bif decide ((97:Int)≤c) then decide (c≤122) else false then bif f then true else bif (bif decide (c<48) then true else decide (57<c)) then c !=95 else false else false)= !okB f c:=by
 unfold okB bne
 cases decide ((65:Int)≤c)<;>cases decide (c≤90)<;>cases decide ((97:Int)≤c)<;>cases decide (c≤122)<;>cases f<;>cases decide (c<48)<;>cases decide (57<c)<;>cases c==95<;>rfl
theorem Jpd {f:Bool} {c:Int} (h:128≤c):okB f c=false:=by
 unfold okB
 have h1:decide (c≤90)=false:=decide_eq_false (by omega)
 have h2:decide (c≤122)=false:=decide_eq_false (by omega)
 have h3:decide (c<48)=false:=decide_eq_false (by omega)
 have h4:decide ((57:Int)<c)=true:=decide_eq_true (by omega)
 have h5:(c==95)=false:=beq_eq_false_iff_ne.2 (by omega)
 rw[h1,h2,h3,h4,h5]
 cases decide ((65:Int)≤c)<;>cases decide ((97:Int)≤c)<;>cases f<;>rfl
theorem Jde {s:ByteArray} {k:Nat} (h:k<s.size) (ha:(s[k]'h).toNat<128):V4 s k=((s[k]'h).toNat:Int)∧Jgf s k=1:=by
 unfold V4 Jgf
 rw[decode_ascii s k h ha]
 exact⟨rfl,rfl⟩
theorem Jk1 {s:ByteArray} {k:Nat} (h:k<s.size) (ha:128≤(s[k]'h).toNat):128≤V4 s k:=by
 have:=(decode_high s k h ha).1
 unfold V4
 omega
theorem D1 {s:ByteArray} {k:Nat} (h:k<s.size):s.data.toList.drop k=(s[k]'h)::s.data.toList.drop (k+1):=by
 rw[List.drop_eq_getElem_cons (by simpa using h)]
 congr 1
theorem Ji5 (s:ByteArray):(!(s.toList==(⟨⟨[]⟩⟩:ByteArray).toList))=decide (0<s.size):=by
 rw[Lib.toList_data,Lib.toList_data]
 have e:s.data.toList.length=s.size:=by simp
 cases h:s.data.toList with
 |nil=>rw[h] at e;simp at e;rw[←e];rfl
 |cons a l=>rw[h] at e;simp at e;rw[←e];simp
theorem Jcl (k:Nat):(((k:Nat):Int)==0)=(k==0):=by
 rw[Bool.eq_iff_iff,beq_iff_eq,beq_iff_eq];omega
def Kcu:Con:={args:=[aS],ress:=[Bo],owns:=[],pre:=fun(s,_)=>[s.size≤1000000],spec:=fun(s,_)=>(Yi s,())}
abbrev J5v (s:ByteArray):Ann:={X:=Nat,σ:=fun k=>⟨1,[(0, .one (.str s)),(7, .one (.sl 0))],[(0, .siter s k)]⟩,inv:=fun k=>k≤s.size∧okL true s.data.toList=okL (k==0) (s.data.toList.drop k),mu:=fun k=>s.size-k}
def Z12 (a:Bt):=a.data.toList
def Kmg (a:Bt) (b:Nat):=bif decide (V4 a b<48) then true else decide (57<V4 a b)
def K03 (a:Bt):=Sf true ((bif !Lb a B0 then decide (Nc (ByteArray.size a)≤24) else false)=Yi a)
def Kk9 (a:Nat) (b:Bt):=a≤ByteArray.size b∧okL true (Z12 b)=okL (a==0) (List.drop a (Z12 b))
theorem Krh [Sx.Dr]:Ok Tryz.prog 136 Kcu:=J2c W9 Tryz.f136 (U5 (l:=([]:List (Nat×Func))) (by simp)) (fun xx=>Xh (J5v xx.1)) (fun xx=>fun _=>na ()) fun xx=>by
 obtain⟨(s:ByteArray),_⟩:=xx
 refine(by kernel_rfl:(ByteArray.size s≤1000000→∃(x:Nat),Sf s (Sf s (0=x))∧Kk9 x s∧∀(x:Nat),Kk9 x s→(x<ByteArray.size s→Br true (Br (bif !bif bif decide (65≤V4 s x) then decide (V4 s x≤90) else false then true else bif decide (97≤V4 s x) then decide (V4 s x≤122) else false then bif Nc x==0 then true else bif Kmg s x then V4 s x !=95 else false else false) (Sf true (false=Yi s)) (∃(y:Nat),Sf s (Sf s (x+Jgf s x=y))∧Kk9 y s∧ByteArray.size s-y<ByteArray.size s-x)) (K03 s))∧((x<ByteArray.size s→False)→Br false False (K03 s)))=_).mp ?_
 delta Z12 Kmg K03 Kk9 Br Sf Nc B0 Lb
 intro hb
 refine⟨(0:Nat),⟨rfl,rfl,rfl⟩,⟨Nat.zero_le _,by simp⟩,fun(k:Nat) hk=>⟨fun h=>⟨fun _=>⟨fun h1=>⟨rfl, ?_⟩,fun h1=> ?_⟩,fun h=>(by cases h)⟩,fun h=> ?_⟩⟩
 ·rw[Jug,Jcl] at h1
  have h2:okB (k==0) (V4 s k)=false:=by simpa using h1
  unfold Yi
  have h3:okL true s.data.toList=false:=by
   rw[hk.2,D1 h,okL]
   by_cases ha:(s[k]'h).toNat<128
   ·rw[←(Jde h ha).1,h2];rfl
   ·rw[Jpd (by omega)];rfl
  rw[h3];rfl
 ·rw[Jug,Jcl] at h1
  have h2:okB (k==0) (V4 s k)=true:=by simpa using h1
  by_cases ha:(s[k]'h).toNat<128
  ·obtain⟨r1,r2⟩:=Jde h ha
   refine⟨(k+1:Nat),⟨rfl,rfl,by rw[r2]⟩,⟨by omega, ?_⟩,by omega⟩
   rw[hk.2,D1 h,okL,←r1,h2]
   rfl
  ·have:=Jk1 h (by omega)
   rw[Jpd this] at h2
   cases h2
 ·have e:k=s.size:=Nat.le_antisymm hk.1 (Nat.le_of_not_lt h)
  refine⟨fun h=>(by cases h),fun _=>⟨rfl, ?_⟩⟩
  rw[e,List.drop_eq_nil_of_le (by simp)] at hk
  unfold Yi
  rw[hk.2,Ji5]
  cases decide (0<s.size)<;>cases decide ((s.size:Int)≤24)<;>rfl
abbrev W10 [Sx.Dr]:=W9.add Krh
abbrev aU:AK:= .val false (.int .u8)
def Juv (c:Int):Bool:=bif (bif decide ((65:Int)≤c) then decide (c≤90) else false) then true else bif decide ((97:Int)≤c) then decide (c≤122) else false
def Kce (c:Int):Bool:=bif decide ((48:Int)≤c) then decide (c≤57) else false
def K7o:Con:={args:=[aU],ress:=[Bo],owns:=[],pre:=fun _=>[],spec:=fun(c,_)=>(Juv c,())}
theorem Kp5 [Sx.Dr]:Ok Tryz.prog 190 K7o:=okW W10 Tryz.f190 na fun xx=>by
 obtain⟨(c:Int),_⟩:=xx
 refine(by kernel_rfl:((bif bif decide (65≤c) then decide (c≤90) else false then true else bif decide (97≤c) then decide (c≤122) else false)=Juv c)=_).mp ?_
 rfl
abbrev W11 [Sx.Dr]:=W10.add Kp5
def K7r:Con:={args:=[aU],ress:=[Bo],owns:=[],pre:=fun _=>[],spec:=fun(c,_)=>(Kce c,())}
theorem Kp4 [Sx.Dr]:Ok Tryz.prog 191 K7r:=okW W11 Tryz.f191 na fun xx=>by
 obtain⟨(c:Int),_⟩:=xx
 refine(by kernel_rfl:((bif decide (48≤c) then decide (c≤57) else false)=Kce c)=_).mp ?_
 rfl
abbrev W12 [Sx.Dr]:=W11.add Kp4
theorem J37 (c:Int):okB true c=Juv c:=by
 unfold okB Juv
 cases decide ((65:Int)≤c)<;>cases decide (c≤90)<;>cases decide ((97:Int)≤c)<;>cases decide (c≤122)<;>rfl
theorem J36 (c:Int):(bif bif !Juv c then !Kce c else false then c !=95 else false)= !okB false c:=by
 unfold okB Juv Kce bne
 have e1:decide (c<48)= !decide ((48:Int)≤c):=by rw[Bool.eq_iff_iff];simp
 have e2:decide ((57:Int)<c)= !decide (c≤57):=by rw[Bool.eq_iff_iff];simp
 rw[e1,e2]
 cases decide ((65:Int)≤c)<;>cases decide (c≤90)<;>cases decide ((97:Int)≤c)<;>cases decide (c≤122)<;>cases decide ((48:Int)≤c)<;>cases decide (c≤57)<;>cases c==95<;>rfl
theorem Dp {s:ByteArray} {k:Nat} (h:k<s.size):s.data.toList.drop k=s.data.toList.getD k 0::s.data.toList.drop (k+1):=by
 have h':k<s.data.toList.length:=by simpa using h
 rw[List.drop_eq_getElem_cons h']
 congr 1
 rw[List.getD_eq_getElem?_getD,List.getElem?_eq_getElem h'];rfl
abbrev J0o (s:ByteArray):Ann:={X:=Nat,σ:=fun k=>⟨0,[(0, .one (.str s)),(3, .one (.int .i64 k))],[]⟩,inv:=fun k=>0<k∧k≤s.size∧Yi s=okL false (s.data.toList.drop k),mu:=fun k=>s.size-k}
def Knf (a:Bt) (b:Nat):=Nc (UInt8.toNat (List.getD (Z12 a) b 0))
def Kna (a:Bt):=Nc (UInt8.toNat (List.getD (Z12 a) 0 0))
def K2a (a:Bt) (b:Nat):= !Juv (Knf a b)
def K12 (a:Bt):=bif Nc (ByteArray.size a)==0 then true else decide (24<Nc (ByteArray.size a))
def Klk (a:Nat) (b:Bt):=0<a∧a≤ByteArray.size b∧Yi b=okL false (List.drop a (Z12 b))
def Kxg (a:Bt) (b:Nat):=bif K2a a b then !Kce (Knf a b) else false
theorem Krx [Sx.Dr]:Ok Tryz.prog 111 Kcu:=okW W12 Tryz.f111 (fun xx=>Xh (J0o xx.1)) fun xx=>by
 obtain⟨(s:ByteArray),_⟩:=xx
 refine(by kernel_rfl:(ByteArray.size s≤1000000→(K12 s=false→Bd 0 (Nc (ByteArray.size s)))∧Br (bif K12 s then true else !Juv (Kna s)) (false=Yi s) (∃(x:Nat),Sf s (1=Nc x)∧Klk x s∧∀(x:Nat),Klk x s→Br (decide (Nc x<Nc (ByteArray.size s))) ((Bd (Nc x) (Nc (ByteArray.size s))∧(K2a s x=true→Bd (Nc x) (Nc (ByteArray.size s)))∧(Kxg s x=true→Bd (Nc x) (Nc (ByteArray.size s))))∧Br (bif Kxg s x then Knf s x !=95 else false) (false=Yi s) (Z14 x∧∃(y:Nat),Sf s (V9 x y)∧Klk y s∧ByteArray.size s-y<ByteArray.size s-x)) (true=Yi s)))=_).mp ?_
 delta Z12 Z14 V9 Knf Kna K2a K12 Klk Kxg Br Iw Bd Sf Nc
 intro hb
 have e0:∀h:0<s.size,okL true s.data.toList=(Juv ((s.data.toList.getD 0 0).toNat:Int)&&okL false (s.data.toList.drop 1)):=fun h=>by
  have:=Dp h
  rw[List.drop_zero] at this
  rw[this,okL,J37]
  simp
 refine⟨fun h=> ?_,fun h=> ?_,fun h=> ?_⟩
 ·have h1:((s.size:Int)==0)=false:=by revert h;cases((s.size:Int)==0)<;>simp
  have:=beq_eq_false_iff_ne.1 h1
  exact⟨Int.le_refl _,by omega⟩
 ·unfold Yi
  by_cases h0:0<s.size
  ·rw[e0 h0]
   have h1:((s.size:Int)==0)=false:=beq_eq_false_iff_ne.2 (by omega)
   rw[h1] at h
   by_cases h2:(s.size:Int)≤24
   ·have h3:decide ((24:Int)<s.size)=false:=decide_eq_false (by omega)
    rw[h3] at h
    have h4:Juv ((s.data.toList.getD 0 0).toNat:Int)=false:=by simpa using h
    rw[h4];rfl
   ·rw[decide_eq_false h2];simp
  ·rw[decide_eq_false h0];simp
 ·have h1:((s.size:Int)==0)=false:=by revert h;cases((s.size:Int)==0)<;>simp
  rw[h1] at h
  have h2:decide ((24:Int)<s.size)=false:=by revert h;cases decide ((24:Int)<s.size)<;>simp
  rw[h2] at h
  have h3:Juv ((s.data.toList.getD 0 0).toNat:Int)=true:=by simpa using h
  have h0:0<s.size:=by have:=beq_eq_false_iff_ne.1 h1;omega
  have h24:(s.size:Int)≤24:=by have:=of_decide_eq_false h2;omega
  have en:Yi s=okL false (s.data.toList.drop 1):=by
   unfold Yi
   rw[e0 h0,h3,decide_eq_true h0,decide_eq_true h24];simp
  refine⟨(1:Nat),⟨rfl,rfl⟩,⟨by omega,by omega,en⟩,fun(k:Nat) hk=>⟨fun h=> ?_,fun h=> ?_⟩⟩
  ·have hlt:k<s.size:=by simpa using h
   rw[J36]
   refine⟨⟨by omega,fun _=>by omega,fun _=>by omega⟩,fun h1=> ?_,fun h1=>⟨by omega,(k+1:Nat),⟨rfl,by simp⟩,⟨by omega,by omega, ?_⟩,by omega⟩⟩
   ·have h2:okB false ((s.data.toList.getD k 0).toNat:Int)=false:=by simpa using h1
    rw[hk.2.2,Dp hlt,okL,h2];rfl
   ·have h2:okB false ((s.data.toList.getD k 0).toNat:Int)=true:=by simpa using h1
    rw[hk.2.2,Dp hlt,okL,h2];rfl
  ·have hlt:¬k<s.size:=by simpa using h
   have:k=s.size:=by omega
   rw[hk.2.2,this,List.drop_eq_nil_of_le (by simp)];rfl
abbrev W13 [Sx.Dr]:=W12.add Krx
abbrev Jy4:Sch:= .prod sI .bool
abbrev Kbs:Sch:= .prod (.list 251 Jy4) (.prod sI (.prod .fnc (.prod .fnc .fnc)))
abbrev K2o:=List (Int×Bool)×Int×Option Nat×Option Nat×Option Nat
abbrev J2:ByteArray:=⟨⟨[117,110,100,111]⟩⟩
abbrev Jy:ByteArray:=⟨⟨[115,116,97,116,105,111,110]⟩⟩
abbrev K9:ByteArray:=⟨⟨[112,114,105,99,101]⟩⟩
abbrev Kl:ByteArray:=⟨⟨[111,114,100,101,114]⟩⟩
abbrev K3:ByteArray:=⟨⟨[109,101,116,101,114]⟩⟩
abbrev Vn:ByteArray:=⟨⟨[116,114,105,112]⟩⟩
abbrev Jz:ByteArray:=⟨⟨[111,117,116,97,103,101]⟩⟩
abbrev Ju:ByteArray:=⟨⟨[114,101,115,116,111,114,101]⟩⟩
abbrev Kd:ByteArray:=⟨⟨[112,101,114,109,105,116]⟩⟩
abbrev Kc:ByteArray:=⟨⟨[114,101,116,117,114,110]⟩⟩
abbrev Jh:ByteArray:=⟨⟨[115,101,116,116,108,101]⟩⟩
def Lx:List (ByteArray×K2o):=[(J2,[],0,none,none,none),
 (Jy,[(0,false)],2,some 148,some 149,some 150),
 (K9,[(0,true)],2,some 152,some 153,some 150),
 (Kl,[(1,false),(0,true),(0,true)],4,some 154,some 155,some 156),
 (K3,[(1,true)],4,some 157,some 158,some 156),
 (Vn,[(1,true)],1,some 159,some 160,some 156),
 (Jz,[(2,false),(0,true)],4,some 161,some 162,some 163),
 (Ju,[(2,true)],1,some 164,some 165,some 163),
 (Kd,[(3,false),(2,true)],1,some 166,some 167,some 168),
 (Kc,[(3,true)],1,some 169,some 170,some 168),
 (Jh,[],2,some 171,some 172,none)]
def Kc8:Con:={args:=[aI],ress:=[(true,Jy4)],owns:=[],pre:=fun _=>[],spec:=fun(t,_)=>((t,false),())}
theorem Kq6 [Sx.Dr]:Ok Tryz.prog 147 Kc8:=okW W13 Tryz.f147 na fun xx=>by
 obtain⟨(t:Int),_⟩:=xx
 refine(by kernel_rfl:((t,false)=(t,false))=_).mp ?_
 trivial
abbrev W14 [Sx.Dr]:=W13.add Kq6
def K7l:Con:={args:=[aI],ress:=[(true,Jy4)],owns:=[],pre:=fun _=>[],spec:=fun(t,_)=>((t,true),())}
theorem Kq2 [Sx.Dr]:Ok Tryz.prog 151 K7l:=okW W14 Tryz.f151 na fun xx=>by
 obtain⟨(t:Int),_⟩:=xx
 refine(by kernel_rfl:((t,true)=(t,true))=_).mp ?_
 trivial
abbrev W15 [Sx.Dr]:=W14.add Kq2
def J2r:Jmi:={kT:=9,gk:=false,gv:=true,ks:= .str,vs:=Kbs,l:=Lx}
def Knp:=[((0:Int),true)]
def Kak:List (Int×Bool)×Int×Option Nat×Option Nat×Option Nat:=([],(0:Int),none,none,none)
def Kjm:=(∀(k k':ByteArray),some (Lb k k')=some (List.beq (ByteArray.toList k) (ByteArray.toList k')))∧∀(k:ByteArray),true=true
theorem K5h [Sx.Dr]:wpFM Tryz.prog W15.g (na ()) (fun _=>na ()) (Sx.look ([]:List (Nat×Func))) Tryz.f80 J2r:=by
 refine(by kernel_rfl:(Kjm∧Sf true ([(J2,Kak),(Jy,[(0,false)],2,some 148,some 149,some 150),(K9,Knp,2,some 152,some 153,some 150),(Kl,(1,false)::(0,true)::Knp,4,some 154,some 155,some 156),(K3,[(1,true)],4,some 157,some 158,some 156),(Vn,[(1,true)],1,some 159,some 160,some 156),(Jz,(2,false)::Knp,4,some 161,some 162,some 163),(Ju,[(2,true)],1,some 164,some 165,some 163),(Kd,[(3,false),(2,true)],1,some 166,some 167,some 168),(Kc,[(3,true)],1,some 169,some 170,some 168),(Jh,[],2,some 171,some 172,none)]=Lx))=_).mp ?_
 delta Knp Kak Kjm Sf Lb K3 Kl Jz Kd K9 Ju Kc Jh Jy Vn J2
 exact⟨⟨fun _ _=>rfl,fun _=>rfl⟩,rfl,rfl⟩
theorem Kou [Sx.Dr]:Ok Tryz.prog 80 (Jmi.con J2r):=J2b (Jle mixed W15.ok (by kernel_rfl) (by kernel_rfl) (U5 (l:=([]:List (Nat×Func))) (by simp)) (na ()) (fun _=>na ()) K5h)
abbrev W16 [Sx.Dr]:=W15.add Kou
theorem Jc {α:Type} {l:List α} {k:Nat} {d:α} (h:k<l.length):l.getD k d∈l:=by
 simp[List.getD_eq_getElem?_getD,h]
theorem Us {α:Type} {d:α} {l:List α} {k:Nat} (h:k<l.length):l.take k++[l.getD k d]=l.take (k+1):=by
 rw[List.take_succ_eq_append_getElem h,List.getD_eq_getElem?_getD,List.getElem?_eq_getElem h];rfl
abbrev Ja9 (T U:TypeId) (s:Sch) (l:List s.T) (r:Bool×Sch) (g:Bool) (q:Tup [(g,s)]→List Prop) (f:Tup [(g,s)]→r.2.T):Ann:={X:=Nat,σ:=fun k=>⟨3,[(1, .one (.fv 1)),(5, .one (.sl 2)),(8, .one (.sl 0)),(9, .one (.int .i64 l.length)),(10, .one (.int .i64 k))],[(0, .imm T s l),(1, .afn [(g,s)] r q f),(2, .own U r.2 ((l.take k).map fun x=>f (x,())))]⟩,inv:=fun k=>k≤l.length,mu:=fun k=>l.length-k}
def Kcx:Con:={args:=[.val false (.list 9 .str), .fn [tS] I],ress:=[(false, .list 26 sI)],owns:=[true],pre:=fun(l,(q,_),_)=>[l.length≤1000000,∀x∈l,Un (q (x,()))],spec:=fun(l,(_,f),_)=>(l.map fun x=>f (x,()),())}
def Kc0:Con:={args:=[.val false (.list 3 sI), .fn [I] I],ress:=[(false, .list 26 sI)],owns:=[true],pre:=fun(l,(q,_),_)=>[l.length≤1000000,∀x∈l,Un (q (x,()))],spec:=fun(l,(_,f),_)=>(l.map fun x=>f (x,()),())}
def J60 (a:Li) (b:Int):=b∈a
def Ka1 (a:Int×Unit→Int) (b:Nat) (c:Li):=List.map (fun(x:Int)=>a (x,PUnit.unit)) (List.take b c)
def Kmi (a:Li) (b:Int×Unit→List Prop):=∀(x:Int),J60 a x→Un (b (x,PUnit.unit))
theorem Krg [Sx.Dr]:Ok Tryz.prog 137 Kc0:=okW W16 Tryz.f137 (fun xx=>Xh (Ja9 3 26 sI xx.1 I false xx.2.1.1 xx.2.1.2)) fun xx=>by
 obtain⟨(l:List Int),⟨(q:Int×Unit→List Prop),(f:Int×Unit→Int)⟩,_⟩:=xx
 refine(by kernel_rfl:(Z54 l→Kmi l q→∃(x:Nat),Si (Ln l) (0=Nc x∧Sf l ((fun(x:Int×PUnit)=>q x)=q∧(fun(x:Int×PUnit)=>f x)=f∧List.length (Ka1 f x l)=0))∧x≤List.length l∧∀(x:Nat),x≤List.length l→Br (decide (Nc x<Ln l)) (Z71 x l∧(Un (q (Z19 l x,PUnit.unit))∧(List.length (Ka1 f x l)+1)*8≤140737488355328)∧Z14 x∧∃(y:Nat),Si (Ln l) (V9 x y∧Sf l ((fun(x:Int×PUnit)=>q x)=q∧(fun(x:Int×PUnit)=>f x)=f∧Ka1 f x l++[f (Z19 l x,PUnit.unit)]=Ka1 f y l))∧y≤List.length l∧J08 l y x) (Ka1 f x l=List.map (fun(x:Int)=>f (x,PUnit.unit)) l))=_).mp ?_
 delta Z14 Z19 Z54 Z71 V9 J08 J60 Ka1 Kmi Br Iw Bd Tw Sf Si Ln Nc
 intro hb hq
 refine⟨(0:Nat),⟨rfl,rfl,rfl,rfl,rfl,by simp⟩,Nat.zero_le _,fun(k:Nat) hk=>⟨fun h=> ?_,fun h=> ?_⟩⟩
 ·have hlt:k<l.length:=by simpa using h
  refine⟨by omega,⟨hq (l.getD k 0) (Jc hlt),by simp only[List.length_map,List.length_take];omega⟩,by omega,(k+1:Nat),⟨rfl,by simp,rfl,rfl,rfl, ?_⟩,by omega,by omega⟩
  rw[←Us (d:=0) hlt,List.map_append];rfl
 ·have hlt:¬k<l.length:=by simpa using h
  rw[List.take_of_length_le (by omega)]
abbrev W17 [Sx.Dr]:=W16.add Krg
def Jbc (a:Ls):=List.length a≤1000000
def Jgu (a:Ls) (b:Bt):=b∈a
def Kas (a:Bt×Unit→Int) (b:Nat) (c:Ls):=List.map (fun(x:ByteArray)=>a (x,PUnit.unit)) (List.take b c)
theorem Krj [Sx.Dr]:Ok Tryz.prog 134 Kcx:=okW W17 Tryz.f134 (fun xx=>Xh (Ja9 9 26 .str xx.1 I false xx.2.1.1 xx.2.1.2)) fun xx=>by
 obtain⟨(l:List ByteArray),⟨(q:ByteArray×Unit→List Prop),(f:ByteArray×Unit→Int)⟩,_⟩:=xx
 refine(by kernel_rfl:(Jbc l→(∀(x:ByteArray),Jgu l x→Un (q (x,PUnit.unit)))→∃(x:Nat),Si (Ln l) (0=Nc x∧Sf l ((fun(x:ByteArray×PUnit)=>q x)=q∧(fun(x:ByteArray×PUnit)=>f x)=f∧List.length (Kas f x l)=0))∧x≤List.length l∧∀(x:Nat),x≤List.length l→Br (decide (Nc x<Ln l)) (Tw (Bd (Nc x) (Ln l))∧(Un (q (List.getD l x B0,PUnit.unit))∧(List.length (Kas f x l)+1)*8≤140737488355328)∧Z14 x∧∃(y:Nat),Si (Ln l) (V9 x y∧Sf l ((fun(x:ByteArray×PUnit)=>q x)=q∧(fun(x:ByteArray×PUnit)=>f x)=f∧Kas f x l++[f (List.getD l x B0,PUnit.unit)]=Kas f y l))∧y≤List.length l∧List.length l-y<List.length l-x) (Kas f x l=List.map (fun(x:ByteArray)=>f (x,PUnit.unit)) l))=_).mp ?_
 delta Z14 V9 Jbc Jgu Kas Br Iw Bd Tw Sf Si Ln Nc B0
 intro hb hq
 refine⟨(0:Nat),⟨rfl,rfl,rfl,rfl,rfl,by simp⟩,Nat.zero_le _,fun(k:Nat) hk=>⟨fun h=> ?_,fun h=> ?_⟩⟩
 ·have hlt:k<l.length:=by simpa using h
  refine⟨by omega,⟨hq (l.getD k (⟨⟨[]⟩⟩:ByteArray)) (Jc hlt),by simp only[List.length_map,List.length_take];omega⟩,by omega,(k+1:Nat),⟨rfl,by simp,rfl,rfl,rfl, ?_⟩,by omega,by omega⟩
  rw[←Us (d:=(⟨⟨[]⟩⟩:ByteArray)) hlt,List.map_append];rfl
 ·have hlt:¬k<l.length:=by simpa using h
  rw[List.take_of_length_le (by omega)]
abbrev W18 [Sx.Dr]:=W17.add Krj
def Ks6:Con:={args:=[aS],ress:=[I],owns:=[],pre:=fun(s,_)=>[s.size≤1000000],spec:=fun(s,_)=>(bif Yi s then 0 else 8,())}
theorem Kri [Sx.Dr]:Ok Tryz.prog 135 Ks6:=okW W18 Tryz.f135 na fun xx=>by
 obtain⟨(s:ByteArray),_⟩:=xx
 refine(by kernel_rfl:(ByteArray.size s≤(1000000:Nat)→ByteArray.size s≤(1000000:Nat)∧(bif !Yi s then(8:Int) else(0:Int))=bif Yi s then(0:Int) else(8:Int))=_).mp ?_
 exact fun h=>⟨h,by cases Yi s<;>rfl⟩
abbrev W19 [Sx.Dr]:=W18.add Kri
def Ks5:Con:={args:=[aI],ress:=[I],owns:=[],pre:=fun _=>[],spec:=fun(n,_)=>(Ki n 0 999999999,())}
theorem Krf [Sx.Dr]:Ok Tryz.prog 138 Ks5:=okW W19 Tryz.f138 na fun xx=>by
 obtain⟨(n:Int),_⟩:=xx
 refine(by kernel_rfl:(Kne n)=_).mp ?_
 delta Z68 Kne
 rfl
abbrev W20 [Sx.Dr]:=W19.add Krf
abbrev Ev:=Int×ByteArray×List ByteArray×List Int×ByteArray
abbrev sEv:Sch:= .prod sI (.prod .str (.prod (.list 9 .str) (.prod (.list 3 sI) .str)))
abbrev aEv:AK:= .val true sEv
def Ji (k:ByteArray):K2o:=(Uj .str k Lx).getD ([],0,none,none,none)
def Yr (k:ByteArray):Bool:=(Uj .str k Lx).isSome
def Jb (e:Ev):Int:=
 if Ki e.1 1 1000≠0 then Ki e.1 1 1000 else
 bif Yr e.2.1 then(if e.2.2.1.length=(Ji e.2.1).1.length∧(e.2.2.2.1.length:Int)=(Ji e.2.1).2.1 then
  Jg [Jg (e.2.2.1.map fun s=>bif Yi s then 0 else 8),Jg (e.2.2.2.1.map fun n=>Ki n 0 999999999),bif decide (0<e.2.2.2.2.size) then 1 else 0] else 2) else 13
theorem bn1 {b c:Bool} (h:(bif b then true else c)=false):b=false∧c=false:=by cases b<;>simp_all
def Kdn:Con:={args:=[aEv],ress:=[I],owns:=[],pre:=fun(e,_)=>[e.2.2.1.length≤1000000,e.2.2.2.1.length≤1000000,∀s∈e.2.2.1,s.size≤1000000],spec:=fun(e,_)=>(Jb e,())}
def K1k (a:Ls):=List.map (fun(x:ByteArray)=>match Yi x with|true=>(0:Int)|false=>(8:Int)) a
def Jhs (a:Ls):=∀(s:ByteArray),Jgu a s→ByteArray.size s≤1000000
def Kzp (a:Bt):=Uj Sch.str a Lx
def Kvi (a:Bt):=Option.getD (Kzp a) Kak
theorem K2v [Sx.Dr]:Ok Tryz.prog 64 Kdn:=okW W20 Tryz.f64 na fun xx=>by
 obtain⟨⟨(n:Int),(k:ByteArray),(ns:List ByteArray),(vs:List Int),(t:ByteArray)⟩,_⟩:=xx
 refine(by kernel_rfl:(Jbc ns→Z54 vs→Jhs ns→Br (Ki n 1 (1000:Int) !=0) (Ki n 1 1000=Jb (n,k,ns,vs,t)) (Br (!Option.isSome (Kzp k)) (13=Jb (n,k,ns,vs,t)) (Br (bif Ln ns !=Ln (Kvi k).1 then true else Ln vs !=(Kvi k).2.1) (2=Jb (n,k,ns,vs,t)) ((Jbc ns∧Jhs ns)∧(Z54 vs∧∀(x:Int),J60 vs x→True)∧(List.length (K1k ns)≤1000000∧List.length (List.map (fun(x:Int)=>Z68 x) vs)≤1000000∧3≤1000000)∧Jg [Jg (K1k ns),Jg (List.map (fun(x:Int)=>Z68 x) vs),bif !Lb t B0 then 1 else 0]=Jb (n,k,ns,vs,t)))))=_).mp ?_
 delta Z54 Z68 Jbc J60 Jgu Kak K1k Jhs Kzp Kvi Br Ln B0 Lb
 intro h1 h2 h3
 unfold Jb Ji Yr
 dsimp only
 refine⟨fun h=> ?_,fun h=> ?_⟩
 ·rw[if_pos (bne_iff_ne.1 h)]
 rw[if_neg (by have:=bne_eq_false_iff_eq.1 h;simpa using this)]
 refine⟨fun h4=> ?_,fun h4=> ?_⟩
 ·rw[Bool.not_eq_true'] at h4
  rw[h4];rfl
 rw[Bool.not_eq_false'] at h4
 rw[h4,cond_true]
 refine⟨fun h5=> ?_,fun h5=>⟨⟨h1,h3⟩,⟨h2,fun _ _=>trivial⟩,⟨by simpa using h1,by simpa using h2,by decide⟩, ?_⟩⟩
 ·rw[if_neg]
  rintro⟨e1,e2⟩
  rw[e1,e2] at h5
  simp at h5
 ·have h6:=bn1 h5
  rw[if_pos ⟨Int.ofNat_inj.1 (bne_eq_false_iff_eq.1 h6.1),bne_eq_false_iff_eq.1 h6.2⟩,Ji5]
  rfl
abbrev W21 [Sx.Dr]:=W20.add K2v
abbrev Ho:Sch:= .prod sI sI
abbrev Sta:=ByteArray×Int×Int
abbrev Ord:=ByteArray×ByteArray×ByteArray×(Int×Int)×Int×Int×Int
abbrev Met:=ByteArray×Int×Int×Int
abbrev Out:=ByteArray×ByteArray×(Int×Int)×Int
abbrev Per:=ByteArray×ByteArray×Bool
abbrev L5:Sch:= .prod .str (.prod sI sI)
abbrev Zx:Sch:= .prod .str (.prod .str (.prod .str (.prod Ho (.prod sI (.prod sI sI)))))
abbrev Dd:Sch:= .prod .str (.prod sI (.prod sI sI))
abbrev Xp:Sch:= .prod .str (.prod .str (.prod Ho sI))
abbrev X7:Sch:= .prod .str (.prod .str .bool)
def K24:Con:={args:=[.val true L5],ress:=[tS],owns:=[],pre:=fun _=>[],spec:=fun(x,_)=>(x.1,())}
def K26:Con:={args:=[.val true Zx],ress:=[tS],owns:=[],pre:=fun _=>[],spec:=fun(x,_)=>(x.1,())}
def K23:Con:={args:=[.val true Xp],ress:=[tS],owns:=[],pre:=fun _=>[],spec:=fun(x,_)=>(x.1,())}
def K25:Con:={args:=[.val true X7],ress:=[tS],owns:=[],pre:=fun _=>[],spec:=fun(x,_)=>(x.1,())}
theorem Knz [Sx.Dr] (x:Sta):wpF Tryz.prog W21.g (na ()) Tryz.f328 K24 (x,()):=by
 refine(by kernel_rfl:(x.1=x.1)=_).mp ?_
 rfl
theorem Kox [Sx.Dr]:Ok Tryz.prog 328 K24:=Vq mixed W21.ok (by kernel_rfl) (by kernel_rfl) na fun xx=>Knz xx.1
abbrev W22 [Sx.Dr]:=W21.add Kox
theorem Kny [Sx.Dr] (x:Ord):wpF Tryz.prog W22.g (na ()) Tryz.f329 K26 (x,()):=by
 refine(by kernel_rfl:(x.1=x.1)=_).mp ?_
 rfl
theorem Kow [Sx.Dr]:Ok Tryz.prog 329 K26:=Vq mixed W22.ok (by kernel_rfl) (by kernel_rfl) na fun xx=>Kny xx.1
abbrev W23 [Sx.Dr]:=W22.add Kow
theorem Kn7 [Sx.Dr] (x:Out):wpF Tryz.prog W23.g (na ()) Tryz.f204 K23 (x,()):=by
 refine(by kernel_rfl:(x.1=x.1)=_).mp ?_
 rfl
theorem Kps [Sx.Dr]:Ok Tryz.prog 204 K23:=Vq mixed W23.ok (by kernel_rfl) (by kernel_rfl) na fun xx=>Kn7 xx.1
abbrev W24 [Sx.Dr]:=W23.add Kps
theorem Kn6 [Sx.Dr] (x:Per):wpF Tryz.prog W24.g (na ()) Tryz.f208 K25 (x,()):=by
 refine(by kernel_rfl:(x.1=x.1)=_).mp ?_
 rfl
theorem Kpo [Sx.Dr]:Ok Tryz.prog 208 K25:=Vq mixed W24.ok (by kernel_rfl) (by kernel_rfl) na fun xx=>Kn6 xx.1
abbrev W25 [Sx.Dr]:=W24.add Kpo
def Ja:ByteArray:=⟨⟨[]⟩⟩
def Vm {α:Type} (p:α→Bool):List α→Nat→Int
 |[],_=> -1
 |x::r,k=>if p x=true then(k:Int) else Vm p r (k+1)
theorem V5 {α:Type} {p:α→Bool} {l:List α} {k:Nat} {d:α} (h:k<l.length):Vm p (l.drop k) k=if p (l.getD k d)=true then(k:Int) else Vm p (l.drop (k+1)) (k+1):=by
 rw[List.drop_eq_getElem_cons h]
 simp[Vm,List.getD_eq_getElem?_getD,h]
abbrev Jmc (T:TypeId) (s:Sch) (g:Bool) (l:List s.T) (q:Tup [(g,s)]→List Prop) (f:Tup [(g,s)]→Bool):Ann:={X:=Nat,σ:=fun k=>⟨2,[(0, .one (.sl 0)),(1, .one (.fv 1)),(7, .one (.int .i64 l.length)),(8, .one (.int .i64 k))],[(0, .imm T s l),(1, .afn [(g,s)] Bo q f)]⟩,inv:=fun k=>k≤l.length∧Vm (fun x=>f (x,())) l 0=Vm (fun x=>f (x,())) (l.drop k) k,mu:=fun k=>l.length-k}
def Kc6 (T:TypeId) (s:Sch) (g:Bool):Con:={args:=[.val false (.list T s), .fn [(g,s)] Bo],ress:=[I],owns:=[],pre:=fun(l,(q,_),_)=>[l.length≤1000000,∀x∈l,Un (q (x,()))],spec:=fun(l,(_,f),_)=>(Vm (fun x=>f (x,())) l 0,())}
def Jm6:Sta:=(Ja,0,0)
def K29:Con:={args:=[.val true L5, .ref 9 .str],ress:=[Bo],owns:=[],pre:=fun _=>[],spec:=fun(x,s,_)=>(x.1.toList==s.toList,())}
theorem Kn5 [Sx.Dr] (x:Sta) (s:ByteArray):wpF Tryz.prog W25.g (na ()) Tryz.f229 K29 (x,s,()):=by
 refine(by kernel_rfl:(Lb x.1 s=Lb x.1 s)=_).mp ?_
 delta Lb
 rfl
theorem Kpk [Sx.Dr]:Ok Tryz.prog 229 K29:=Vq mixed W25.ok (by kernel_rfl) (by kernel_rfl) na fun xx=>Kn5 xx.1 xx.2.1
abbrev W26 [Sx.Dr]:=W25.add Kpk
def Z11:=(B0,(0:Int),(0:Int))
def Z46 (a:List Sta):=List.length a≤1000000
def Z67:=(-1)
def K0r (a:List Sta) (b:Nat):=(((List.getD a b Z11).1,E2 (List.getD a b Z11).2),PUnit.unit)
def Kk0 (a:Nat) (b:List Sta) (c:Sta×Unit→Bool):=a≤List.length b∧Vm (fun(x:Sta)=>c (x,PUnit.unit)) b 0=Vm (fun(x:Sta)=>c (x,PUnit.unit)) (List.drop a b) a
theorem Kpl [Sx.Dr]:Ok Tryz.prog 228 (Kc6 127 L5 true):=okW W26 Tryz.f228 (fun xx=>Xh (Jmc 127 L5 true xx.1 xx.2.1.1 xx.2.1.2)) fun xx=>by
 obtain⟨(l:List Sta),⟨(q:Sta×Unit→List Prop),(f:Sta×Unit→Bool)⟩,_⟩:=xx
 refine(by kernel_rfl:(Z46 l→(∀(x:Sta),x∈l→Un (q (x,PUnit.unit)))→∃(x:Nat),Si (Ln l) (0=Nc x∧Sf l ((fun(x:Sta×PUnit)=>q x)=q∧(fun(x:Sta×PUnit)=>f x)=f))∧Kk0 x l f∧∀(x:Nat),Kk0 x l f→Br (decide (Nc x<Ln l)) (T2 (Bd (Nc x) (Ln l)) (Un (q (K0r l x)))∧Br (f (K0r l x)) (Nc x=Vm (fun(x:Sta)=>f (x,PUnit.unit)) l 0) (Z14 x∧∃(y:Nat),Si (Ln l) (V9 x y∧Sf l ((fun(x:Sta×PUnit)=>q x)=q∧(fun(x:Sta×PUnit)=>f x)=f))∧Kk0 y l f∧List.length l-y<List.length l-x)) (Z67=Vm (fun(x:Sta)=>f (x,PUnit.unit)) l 0))=_).mp ?_
 delta Z11 Z14 Z46 Z67 V9 K0r Kk0 Br Iw Bd T2 Sf Si Ln Nc B0 E2
 intro hb hq
 refine⟨(0:Nat),⟨rfl,rfl,rfl,rfl,rfl⟩,⟨Nat.zero_le _,rfl⟩,fun(k:Nat) hk=>⟨fun h=> ?_,fun h=> ?_⟩⟩
 ·have hlt:k<l.length:=by simpa using h
  have hd:=V5 (p:=fun x=>f (x,())) (d:=Jm6) hlt
  refine⟨⟨by omega,by omega,hq (l.getD k Jm6) (Jc hlt)⟩,fun h1=> ?_,fun h1=>⟨by omega,(k+1:Nat),⟨rfl,rfl,rfl,by simp,rfl⟩,⟨by omega, ?_⟩,by omega⟩⟩
  ·rw[hk.2,hd,if_pos (show f (l.getD k Jm6,())=true from h1)]
  ·rw[hk.2,hd,if_neg (by rw[show f (l.getD k Jm6,())=false from h1];simp)]
 ·have hlt:¬k<l.length:=by simpa using h
  have:k=l.length:=by omega
  rw[hk.2,this,List.drop_length];rfl
abbrev W27 [Sx.Dr]:=W26.add Kpl
def Jx (l:List Sta) (s:ByteArray):Int:=Vm (fun x=>x.1.toList==s.toList) l 0
def Kdc:Con:={args:=[.val false (.list 127 L5),aS],ress:=[I],owns:=[],pre:=fun(l,_)=>[l.length≤1000000],spec:=fun(l,s,_)=>(Jx l s,())}
theorem Kra [Sx.Dr]:Ok Tryz.prog 143 Kdc:=okW W27 Tryz.f143 na fun xx=>by
 obtain⟨(l:List Sta),(s:ByteArray),_⟩:=xx
 refine(by kernel_rfl:(Z46 l→(Z46 l∧∀(x:Sta),x∈l→True)∧Vm (fun(x:Sta)=>List.beq (ByteArray.toList x.1) (ByteArray.toList s)) l 0=Jx l s)=_).mp ?_
 delta Z46
 exact fun h=>⟨⟨h,fun _ _=>trivial⟩,rfl⟩
abbrev W28 [Sx.Dr]:=W27.add Kra
def Jl:Ord:=(Ja,Ja,Ja,(0,0),0,0,0)
def K3b:Con:={args:=[.val true Zx, .ref 9 .str],ress:=[Bo],owns:=[],pre:=fun _=>[],spec:=fun(x,s,_)=>(x.1.toList==s.toList,())}
theorem Kn4 [Sx.Dr] (x:Ord) (s:ByteArray):wpF Tryz.prog W28.g (na ()) Tryz.f231 K3b (x,s,()):=by
 refine(by kernel_rfl:(Lb x.1 s=Lb x.1 s)=_).mp ?_
 delta Lb
 rfl
theorem Kpi [Sx.Dr]:Ok Tryz.prog 231 K3b:=Vq mixed W28.ok (by kernel_rfl) (by kernel_rfl) na fun xx=>Kn4 xx.1 xx.2.1
abbrev W29 [Sx.Dr]:=W28.add Kpi
def Z47 (a:List Ord):=List.length a≤1000000
def Z66:=((0:Int),(0:Int),(0:Int))
def J3a (a:List Ord) (b c:Nat):=List.length a-b<List.length a-c
def Jdv:=(B0,B0,B0,((0:Int),(0:Int)),Z66)
def Kah (a:List Ord) (b:Nat):=List.getD a b Jdv
def Kmj (a:List Ord) (b:Ord×Unit→List Prop):=∀(x:Ord),x∈a→Un (b (x,PUnit.unit))
def J6h (a:List Ord) (b:Nat):=(Kah a b).1
def Kgz (a:List Ord) (b:Nat):=(Kah a b).2
def Kgy (a:List Ord) (b:Nat):=(Kgz a b).2
def Kgx (a:List Ord) (b:Nat):=(Kgz a b).1
def Kgw (a:List Ord) (b:Nat):=(Kgy a b).2
def Kgu (a:List Ord) (b:Nat):=(Kgy a b).1
def Kaa (a:List Ord) (b:Nat):=(Kgw a b).1
def Kgt (a:List Ord) (b:Nat):=(Kgw a b).2
def J98 (a:List Ord) (b:Nat):=(Kgt a b).2
def Kgp (a:List Ord) (b:Nat):=(Kgt a b).1
def Kkz (a:Nat) (b:List Ord) (c:Ord×Unit→Bool):=a≤List.length b∧Vm (fun(x:Ord)=>c (x,PUnit.unit)) b 0=Vm (fun(x:Ord)=>c (x,PUnit.unit)) (List.drop a b) a
def Kem (a:List Ord) (b:Nat):=((J6h a b,Kgx a b,Kgu a b,E2 (Kaa a b),Kgp a b,E2 (J98 a b)),PUnit.unit)
def Kie (a:Ord×Unit→List Prop) (b:List Ord) (c:Nat):=Un (a (Kem b c))
theorem Kpj [Sx.Dr]:Ok Tryz.prog 230 (Kc6 130 Zx true):=okW W29 Tryz.f230 (fun xx=>Xh (Jmc 130 Zx true xx.1 xx.2.1.1 xx.2.1.2)) fun xx=>by
 obtain⟨(l:List Ord),⟨(q:Ord×Unit→List Prop),(f:Ord×Unit→Bool)⟩,_⟩:=xx
 refine(by kernel_rfl:(Z47 l→Kmj l q→∃(x:Nat),Si (Ln l) (0=Nc x∧Sf l ((fun(x:Ord×PUnit)=>q x)=q∧(fun(x:Ord×PUnit)=>f x)=f))∧Kkz x l f∧∀(x:Nat),Kkz x l f→Br (decide (Nc x<Ln l)) (T2 (Bd (Nc x) (Ln l)) (Kie q l x)∧Br (f (Kem l x)) (Nc x=Vm (fun(x:Ord)=>f (x,PUnit.unit)) l 0) (Z14 x∧∃(y:Nat),Si (Ln l) (V9 x y∧Sf l ((fun(x:Ord×PUnit)=>q x)=q∧(fun(x:Ord×PUnit)=>f x)=f))∧Kkz y l f∧J3a l y x)) (Z67=Vm (fun(x:Ord)=>f (x,PUnit.unit)) l 0))=_).mp ?_
 delta Z14 Z47 Z66 Z67 V9 J3a Jdv Kah Kmj J6h Kgz Kgy Kgx Kgw Kgu Kaa Kgt J98 Kgp Kkz Kem Kie Br Iw Bd T2 Sf Si Ln Nc B0 E2
 intro hb hq
 refine⟨(0:Nat),⟨rfl,rfl,rfl,rfl,rfl⟩,⟨Nat.zero_le _,rfl⟩,fun(k:Nat) hk=>⟨fun h=> ?_,fun h=> ?_⟩⟩
 ·have hlt:k<l.length:=by simpa using h
  have hd:=V5 (p:=fun x=>f (x,())) (d:=Jl) hlt
  refine⟨⟨by omega,by omega,hq (l.getD k Jl) (Jc hlt)⟩,fun h1=> ?_,fun h1=>⟨by omega,(k+1:Nat),⟨rfl,rfl,rfl,by simp,rfl⟩,⟨by omega, ?_⟩,by omega⟩⟩
  ·rw[hk.2,hd,if_pos (show f (l.getD k Jl,())=true from h1)]
  ·rw[hk.2,hd,if_neg (by rw[show f (l.getD k Jl,())=false from h1];simp)]
 ·have hlt:¬k<l.length:=by simpa using h
  have:k=l.length:=by omega
  rw[hk.2,this,List.drop_length];rfl
abbrev W30 [Sx.Dr]:=W29.add Kpj
def Kx (l:List Ord) (s:ByteArray):Int:=Vm (fun x=>x.1.toList==s.toList) l 0
def Kde:Con:={args:=[.val false (.list 130 Zx),aS],ress:=[I],owns:=[],pre:=fun(l,_)=>[l.length≤1000000],spec:=fun(l,s,_)=>(Kx l s,())}
theorem Kq9 [Sx.Dr]:Ok Tryz.prog 144 Kde:=okW W30 Tryz.f144 na fun xx=>by
 obtain⟨(l:List Ord),(s:ByteArray),_⟩:=xx
 refine(by kernel_rfl:(Z47 l→(Z47 l∧∀(x:Ord),x∈l→True)∧Vm (fun(x:Ord)=>List.beq (ByteArray.toList x.1) (ByteArray.toList s)) l 0=Kx l s)=_).mp ?_
 delta Z47
 exact fun h=>⟨⟨h,fun _ _=>trivial⟩,rfl⟩
abbrev W31 [Sx.Dr]:=W30.add Kq9
def Jbd:Out:=(Ja,Ja,(0,0),0)
def K28:Con:={args:=[.val true Xp, .ref 9 .str],ress:=[Bo],owns:=[],pre:=fun _=>[],spec:=fun(x,s,_)=>(x.1.toList==s.toList,())}
theorem Kn3 [Sx.Dr] (x:Out) (s:ByteArray):wpF Tryz.prog W31.g (na ()) Tryz.f233 K28 (x,s,()):=by
 refine(by kernel_rfl:(Lb x.1 s=Lb x.1 s)=_).mp ?_
 delta Lb
 rfl
theorem Kpg [Sx.Dr]:Ok Tryz.prog 233 K28:=Vq mixed W31.ok (by kernel_rfl) (by kernel_rfl) na fun xx=>Kn3 xx.1 xx.2.1
abbrev W32 [Sx.Dr]:=W31.add Kpg
def Z22 (a:Nat) (b:List Out):=Bd (Nc a) (Ln b)
def Z59 (a:List Out):=List.length a≤1000000
def Z86 (a:Nat) (b:List Out):=decide (Nc a<Ln b)
def Jgb:=(B0,B0,((0:Int),(0:Int)),(0:Int))
def Jyd (a:List Out) (b c:Nat):=List.length a-b<List.length a-c
def J04 (a:List Out) (b:Nat):=List.getD a b Jgb
def J03 (a:List Out) (b:Nat):=(J04 a b).1
def J24 (a:List Out) (b:Nat):=(J04 a b).2.2
def J21 (a:List Out) (b:Out×Unit→List Prop):=∀(x:Out),x∈a→Un (b (x,PUnit.unit))
def Kk2 (a:Nat) (b:List Out) (c:Out×Unit→Bool):=a≤List.length b∧Vm (fun(x:Out)=>c (x,PUnit.unit)) b 0=Vm (fun(x:Out)=>c (x,PUnit.unit)) (List.drop a b) a
def J9l (a:List Out) (b:Nat):=(J03 a b,(J04 a b).2.1,E2 (J24 a b).1,(J24 a b).2)
def J2y (a:List Out) (b:Nat):=(J9l a b,PUnit.unit)
def Kiv (a:Out×Unit→Bool) (b:List Out) (c:Nat):=a (J2y b c)
def J2x (a:Out×Unit→List Prop) (b:List Out) (c:Nat):=Un (a (J2y b c))
theorem Kph [Sx.Dr]:Ok Tryz.prog 232 (Kc6 188 Xp true):=okW W32 Tryz.f232 (fun xx=>Xh (Jmc 188 Xp true xx.1 xx.2.1.1 xx.2.1.2)) fun xx=>by
 obtain⟨(l:List Out),⟨(q:Out×Unit→List Prop),(f:Out×Unit→Bool)⟩,_⟩:=xx
 refine(by kernel_rfl:(Z59 l→J21 l q→∃(x:Nat),Si (Ln l) (0=Nc x∧Sf l ((fun(x:Out×PUnit)=>q x)=q∧(fun(x:Out×PUnit)=>f x)=f))∧Kk2 x l f∧∀(x:Nat),Kk2 x l f→Br (Z86 x l) (T2 (Z22 x l) (J2x q l x)∧Br (Kiv f l x) (Nc x=Vm (fun(x:Out)=>f (x,PUnit.unit)) l 0) (Z14 x∧∃(y:Nat),Si (Ln l) (V9 x y∧Sf l ((fun(x:Out×PUnit)=>q x)=q∧(fun(x:Out×PUnit)=>f x)=f))∧Kk2 y l f∧Jyd l y x)) (Z67=Vm (fun(x:Out)=>f (x,PUnit.unit)) l 0))=_).mp ?_
 delta Z14 Z22 Z59 Z67 Z86 V9 Jgb Jyd J04 J03 J24 J21 Kk2 J9l J2y Kiv J2x Br Iw Bd T2 Sf Si Ln Nc B0 E2
 intro hb hq
 refine⟨(0:Nat),⟨rfl,rfl,rfl,rfl,rfl⟩,⟨Nat.zero_le _,rfl⟩,fun(k:Nat) hk=>⟨fun h=> ?_,fun h=> ?_⟩⟩
 ·have hlt:k<l.length:=by simpa using h
  have hd:=V5 (p:=fun x=>f (x,())) (d:=Jbd) hlt
  refine⟨⟨by omega,by omega,hq (l.getD k Jbd) (Jc hlt)⟩,fun h1=> ?_,fun h1=>⟨by omega,(k+1:Nat),⟨rfl,rfl,rfl,by simp,rfl⟩,⟨by omega, ?_⟩,by omega⟩⟩
  ·rw[hk.2,hd,if_pos (show f (l.getD k Jbd,())=true from h1)]
  ·rw[hk.2,hd,if_neg (by rw[show f (l.getD k Jbd,())=false from h1];simp)]
 ·have hlt:¬k<l.length:=by simpa using h
  have:k=l.length:=by omega
  rw[hk.2,this,List.drop_length];rfl
abbrev W33 [Sx.Dr]:=W32.add Kph
def J7 (l:List Out) (s:ByteArray):Int:=Vm (fun x=>x.1.toList==s.toList) l 0
def Kdb:Con:={args:=[.val false (.list 188 Xp),aS],ress:=[I],owns:=[],pre:=fun(l,_)=>[l.length≤1000000],spec:=fun(l,s,_)=>(J7 l s,())}
def Km7 (a:List Out):=∀(x:Out),x∈a→True
theorem Kq8 [Sx.Dr]:Ok Tryz.prog 145 Kdb:=okW W33 Tryz.f145 na fun xx=>by
 obtain⟨(l:List Out),(s:ByteArray),_⟩:=xx
 refine(by kernel_rfl:(Z59 l→(Z59 l∧Km7 l)∧Vm (fun(x:Out)=>List.beq (ByteArray.toList x.1) (ByteArray.toList s)) l 0=J7 l s)=_).mp ?_
 delta Z59 Km7
 exact fun h=>⟨⟨h,fun _ _=>trivial⟩,rfl⟩
abbrev W34 [Sx.Dr]:=W33.add Kq8
def Jiy:Per:=(Ja,Ja,false)
def K3a:Con:={args:=[.val true X7, .ref 9 .str],ress:=[Bo],owns:=[],pre:=fun _=>[],spec:=fun(x,s,_)=>(x.1.toList==s.toList,())}
theorem Kn2 [Sx.Dr] (x:Per) (s:ByteArray):wpF Tryz.prog W34.g (na ()) Tryz.f235 K3a (x,s,()):=by
 refine(by kernel_rfl:(Lb x.1 s=Lb x.1 s)=_).mp ?_
 delta Lb
 rfl
theorem Kpe [Sx.Dr]:Ok Tryz.prog 235 K3a:=Vq mixed W34.ok (by kernel_rfl) (by kernel_rfl) na fun xx=>Kn2 xx.1 xx.2.1
abbrev W35 [Sx.Dr]:=W34.add Kpe
def Z45 (a:List Per):=List.length a≤1000000
def Jyk (a:Nat) (b:List Per):=decide (Nc a<Ln b)
def J3d (a:List Per) (b:Nat):=(List.getD a b (B0,B0,false)).2
def J09 (a:List Per) (b c:Nat):=List.length a-b<List.length a-c
def Kaf (a:List Per) (b:Per×Unit→List Prop):=∀(x:Per),x∈a→Un (b (x,PUnit.unit))
def Kgq (a:List Per) (b:Nat):=((List.getD a b (B0,B0,false)).1,E2 (J3d a b))
def J94 (a:List Per) (b:Nat):=(Kgq a b,PUnit.unit)
def Klm (a:Per×Unit→Bool) (b:List Per) (c:Nat):=a (J94 b c)
def J92 (a:Per×Unit→List Prop) (b:List Per) (c:Nat):=Un (a (J94 b c))
def Kk1 (a:Nat) (b:List Per) (c:Per×Unit→Bool):=a≤List.length b∧Vm (fun(x:Per)=>c (x,PUnit.unit)) b 0=Vm (fun(x:Per)=>c (x,PUnit.unit)) (List.drop a b) a
theorem Kpf [Sx.Dr]:Ok Tryz.prog 234 (Kc6 235 X7 true):=okW W35 Tryz.f234 (fun xx=>Xh (Jmc 235 X7 true xx.1 xx.2.1.1 xx.2.1.2)) fun xx=>by
 obtain⟨(l:List Per),⟨(q:Per×Unit→List Prop),(f:Per×Unit→Bool)⟩,_⟩:=xx
 refine(by kernel_rfl:(Z45 l→Kaf l q→∃(x:Nat),Si (Ln l) (0=Nc x∧Sf l ((fun(x:Per×PUnit)=>q x)=q∧(fun(x:Per×PUnit)=>f x)=f))∧Kk1 x l f∧∀(x:Nat),Kk1 x l f→Br (Jyk x l) (T2 (Bd (Nc x) (Ln l)) (J92 q l x)∧Br (Klm f l x) (Nc x=Vm (fun(x:Per)=>f (x,PUnit.unit)) l 0) (Z14 x∧∃(y:Nat),Si (Ln l) (V9 x y∧Sf l ((fun(x:Per×PUnit)=>q x)=q∧(fun(x:Per×PUnit)=>f x)=f))∧Kk1 y l f∧J09 l y x)) (Z67=Vm (fun(x:Per)=>f (x,PUnit.unit)) l 0))=_).mp ?_
 delta Z14 Z45 Z67 Jyk V9 J3d J09 Kaf Kgq J94 Klm J92 Kk1 Br Iw Bd T2 Sf Si Ln Nc B0 E2
 intro hb hq
 refine⟨(0:Nat),⟨rfl,rfl,rfl,rfl,rfl⟩,⟨Nat.zero_le _,rfl⟩,fun(k:Nat) hk=>⟨fun h=> ?_,fun h=> ?_⟩⟩
 ·have hlt:k<l.length:=by simpa using h
  have hd:=V5 (p:=fun x=>f (x,())) (d:=Jiy) hlt
  refine⟨⟨by omega,by omega,hq (l.getD k Jiy) (Jc hlt)⟩,fun h1=> ?_,fun h1=>⟨by omega,(k+1:Nat),⟨rfl,rfl,rfl,by simp,rfl⟩,⟨by omega, ?_⟩,by omega⟩⟩
  ·rw[hk.2,hd,if_pos (show f (l.getD k Jiy,())=true from h1)]
  ·rw[hk.2,hd,if_neg (by rw[show f (l.getD k Jiy,())=false from h1];simp)]
 ·have hlt:¬k<l.length:=by simpa using h
  have:k=l.length:=by omega
  rw[hk.2,this,List.drop_length];rfl
abbrev W36 [Sx.Dr]:=W35.add Kpf
def U0 (l:List Per) (s:ByteArray):Int:=Vm (fun x=>x.1.toList==s.toList) l 0
def Kdd:Con:={args:=[.val false (.list 235 X7),aS],ress:=[I],owns:=[],pre:=fun(l,_)=>[l.length≤1000000],spec:=fun(l,s,_)=>(U0 l s,())}
def Klq (a:List Per):=Z45 a∧∀(x:Per),x∈a→True
theorem Kq7 [Sx.Dr]:Ok Tryz.prog 146 Kdd:=okW W36 Tryz.f146 na fun xx=>by
 obtain⟨(l:List Per),(s:ByteArray),_⟩:=xx
 refine(by kernel_rfl:(Z45 l→Klq l∧Vm (fun(x:Per)=>List.beq (ByteArray.toList x.1) (ByteArray.toList s)) l 0=U0 l s)=_).mp ?_
 delta Z45 Klq
 exact fun h=>⟨⟨h,fun _ _=>trivial⟩,rfl⟩
abbrev W37 [Sx.Dr]:=W36.add Kq7
abbrev Reg:=Int×Int×List Sta×List Ord×List Met×List Out×List Per
abbrev Jm9:Sch:= .prod sI (.prod sI (.prod (.list 127 L5) (.prod (.list 130 Zx) (.prod (.list 155 Dd) (.prod (.list 188 Xp) (.list 235 X7))))))
abbrev Jbf:AK:= .val true Jm9
def Kq (s:Int×Int) (h:Int):Bool:=bif decide (s.1≤h) then decide (h<s.2) else false
def Jv1:Con:={args:=[.val true Ho,aI],ress:=[Bo],owns:=[],pre:=fun _=>[],spec:=fun(s,h,_)=>(Kq s h,())}
theorem Krd [Sx.Dr]:Ok Tryz.prog 140 Jv1:=okW W37 Tryz.f140 na fun xx=>by
 obtain⟨⟨(a:Int),(b:Int)⟩,(h:Int),_⟩:=xx
 refine(by kernel_rfl:((bif decide (a≤h) then decide (h<b) else false)=Kq (a,b) h)=_).mp ?_
 rfl
abbrev W38 [Sx.Dr]:=W37.add Krd
def Jo (x:Ord) (h:Int):Bool:=bif Kq x.2.2.2.1 h then(bif x.2.2.2.2.2.2== -1 then true else decide (h<x.2.2.2.2.2.2)) else false
def J5e:Con:={args:=[.val true Zx,aI],ress:=[Bo],owns:=[],pre:=fun _=>[],spec:=fun(x,h,_)=>(Jo x h,())}
theorem K6b [Sx.Dr]:Ok Tryz.prog 72 J5e:=okW W38 Tryz.f72 na fun xx=>by
 obtain⟨⟨(n:ByteArray),(f:ByteArray),(t:ByteArray),⟨(a:Int),(b:Int)⟩,(p:Int),(c:Int),(r:Int)⟩,(h:Int),_⟩:=xx
 refine(by kernel_rfl:((bif Kq (a,b) h then bif r==Z67 then true else decide (h<r) else false)=Jo (n,f,t,(a,b),p,c,r) h)=_).mp ?_
 delta Z67
 rfl
abbrev W39 [Sx.Dr]:=W38.add K6b
def Fs (x:Ord) (s:ByteArray):Bool:=bif x.2.1.toList==s.toList then true else x.2.2.1.toList==s.toList
def Kdu:Con:={args:=[.val true Zx,aS],ress:=[Bo],owns:=[],pre:=fun _=>[],spec:=fun(x,s,_)=>(Fs x s,())}
theorem Ko9 [Sx.Dr]:Ok Tryz.prog 240 Kdu:=okW W39 Tryz.f240 na fun xx=>by
 obtain⟨⟨(n:ByteArray),(f:ByteArray),(t:ByteArray),⟨(a:Int),(b:Int)⟩,(p:Int),(c:Int),(r:Int)⟩,(s:ByteArray),_⟩:=xx
 refine(by kernel_rfl:((bif Lb f s then true else Lb t s)=Fs (n,f,t,(a,b),p,c,r) s)=_).mp ?_
 delta Lb
 rfl
abbrev W40 [Sx.Dr]:=W39.add Ko9
def Jzc (x:Out) (s:ByteArray) (h:Int):Bool:=bif x.2.1.toList==s.toList then Kq x.2.2.1 h else false
def K7j:Con:={args:=[.val true Xp,aS,aI],ress:=[Bo],owns:=[],pre:=fun _=>[],spec:=fun(x,s,h,_)=>(Jzc x s h,())}
theorem Kqd [Sx.Dr]:Ok Tryz.prog 176 K7j:=okW W40 Tryz.f176 na fun xx=>by
 obtain⟨⟨(n:ByteArray),(f:ByteArray),⟨(a:Int),(b:Int)⟩,(p:Int)⟩,(s:ByteArray),(h:Int),_⟩:=xx
 refine(by kernel_rfl:((bif Lb f s then Kq (a,b) h else false)=Jzc (n,f,(a,b),p) s h)=_).mp ?_
 delta Lb
 rfl
abbrev W41 [Sx.Dr]:=W40.add Kqd
theorem Jt {α:Type} {l:List α} {k:Nat} {d:α} (h:k<l.length):l.drop k=l.getD k d::l.drop (k+1):=by
 rw[List.drop_eq_getElem_cons h,List.getD_eq_getElem?_getD,List.getElem?_eq_getElem h];rfl
theorem Jbt {α:Type} {p:α→Bool}:∀{l:List α} {k:Nat},Vm p l k<k+l.length∧-1≤Vm p l k
 |[],k=>by simp[Vm];omega
 | x :: l, k => by
  unfold Vm
  split
  ·simp only[List.length_cons];omega
  ·have:=Jbt (p:=p) (l:=l) (k:=k+1)
   simp only[List.length_cons];omega
theorem K2 {l:List Sta} {s:ByteArray}:Jx l s<l.length:=by have:=(Jbt (p:=fun x=>x.1.toList==s.toList) (l:=l) (k:=0)).1;unfold Jx;omega
theorem Uz {l:List Ord} {s:ByteArray}:Kx l s<l.length:=by have:=(Jbt (p:=fun x=>x.1.toList==s.toList) (l:=l) (k:=0)).1;unfold Kx;omega
theorem Uo {l:List Out} {s:ByteArray}:J7 l s<l.length:=by have:=(Jbt (p:=fun x=>x.1.toList==s.toList) (l:=l) (k:=0)).1;unfold J7;omega
theorem Uy {l:List Per} {s:ByteArray}:U0 l s<l.length:=by have:=(Jbt (p:=fun x=>x.1.toList==s.toList) (l:=l) (k:=0)).1;unfold U0;omega
def Kv (M:List Met) (n:ByteArray) (h:Int):Int:=Vm (fun x=>bif x.1.toList==n.toList then x.2.1==h else false) M 0
theorem Jas {l:List Met} {s:ByteArray} {h:Int}:Kv l s h<l.length:=by have:=(Jbt (p:=fun x=>bif x.1.toList==s.toList then x.2.1==h else false) (l:=l) (k:=0)).1;unfold Kv;omega
structure J89 (x:Sta):Prop where
 lim:1≤x.2.1∧x.2.1≤1000
 pri:0≤x.2.2∧x.2.2≤1000
structure Jmg (x:Int×Int):Prop where
 lo:0≤x.1
 mid:x.1≤x.2
 hi:x.2≤999999999
 len:x.2-x.1≤48
structure Jca (S:List Sta) (x:Ord):Prop where
 span:Jmg x.2.2.2.1
 pow:1≤x.2.2.2.2.1∧x.2.2.2.2.1≤1000
 pri:0≤x.2.2.2.2.2.1∧x.2.2.2.2.2.1≤1000
 trip: -1≤x.2.2.2.2.2.2∧x.2.2.2.2.2.2≤999999999
 fr:0≤Jx S x.2.1
 tu:0≤Jx S x.2.2.1
structure Jsl (x:Met):Prop where
 hour:0≤x.2.1∧x.2.1≤999999999
 sent:0≤x.2.2.1∧x.2.2.1≤1000
 got:0≤x.2.2.2∧x.2.2.2≤x.2.2.1
structure Jop (S:List Sta) (x:Out):Prop where
 span:Jmg x.2.2.1
 rest:0≤x.2.2.2∧x.2.2.2≤1000
 sta:0≤Jx S x.2.1
structure Jj (r:Reg):Prop where
 tk:0≤r.1∧r.1≤999999999
 st:0≤r.2.1∧r.2.1≤r.1
 nS:r.2.2.1.length≤6
 nO:r.2.2.2.1.length≤32
 nM:r.2.2.2.2.1.length≤10000
 nX:r.2.2.2.2.2.1.length≤16
 nQ:r.2.2.2.2.2.2.length≤16
 sta:∀x∈r.2.2.1,J89 x
 ord:∀x∈r.2.2.2.1,Jca r.2.2.1 x
 met:∀x∈r.2.2.2.2.1,Jsl x
 out:∀x∈r.2.2.2.2.2.1,Jop r.2.2.1 x
 per:∀x∈r.2.2.2.2.2.2,0≤J7 r.2.2.2.2.2.1 x.2.1
 done:∀x∈r.2.2.2.1,∀h,Jo x h=true→h<r.2.1→0≤Kv r.2.2.2.2.1 x.1 h
def Hq (S:List Sta) (s:ByteArray):Sta:=S.getD (Jx S s).toNat Jm6
def J48:Con:={args:=[Jbf,aS],ress:=[(true,L5)],owns:=[],pre:=fun((_,_,S,_),s,_)=>[S.length≤1000000,0≤Jx S s],spec:=fun((_,_,S,_),s,_)=>(Hq S s,())}
def Z23 (a:List Sta) (b:Bt):=0≤Jx a b
def Khh (a:List Sta) (b:Bt):=Gt a (Jx a b) Z11
theorem Kqe [Sx.Dr]:Ok Tryz.prog 175 J48:=okW W41 Tryz.f175 na fun xx=>by
 obtain⟨⟨(tk:Int),(st:Int),(S:List Sta),(O:List Ord),(M:List Met),(X:List Out),(Q:List Per)⟩,(s:ByteArray),_⟩:=xx
 refine(by kernel_rfl:(Z46 S→Z23 S s→(Z46 S∧Tw (Bd (Jx S s) (Ln S)))∧((Khh S s).1,E2 (Khh S s).2)=Hq S s)=_).mp ?_
 delta Z11 Z23 Z46 Khh Bd Tw Ln Gt B0 E2
 exact fun h1 h2=>⟨⟨h1,⟨h2,K2⟩,⟨h2,K2⟩⟩,rfl⟩
abbrev W42 [Sx.Dr]:=W41.add Kqe
def Xz (O:List Ord) (s:ByteArray):Ord:=O.getD (Kx O s).toNat Jl
def J5b:Con:={args:=[Jbf,aS],ress:=[(true,Zx)],owns:=[],pre:=fun((_,_,_,O,_),s,_)=>[O.length≤1000000,0≤Kx O s],spec:=fun((_,_,_,O,_),s,_)=>(Xz O s,())}
def K1l (a:List Ord) (b:Bt):=Gt a (Kx a b) Jdv
def K1h (a:List Ord) (b:Bt):=(K1l a b).2
def K1f (a:List Ord) (b:Bt):=(K1h a b).2
def K1c (a:List Ord) (b:Bt):=(K1f a b).2
def K08 (a:List Ord) (b:Bt):=(K1c a b).2
theorem Kpy [Sx.Dr]:Ok Tryz.prog 198 J5b:=okW W42 Tryz.f198 na fun xx=>by
 obtain⟨⟨(tk:Int),(st:Int),(S:List Sta),(O:List Ord),(M:List Met),(X:List Out),(Q:List Per)⟩,(s:ByteArray),_⟩:=xx
 refine(by kernel_rfl:(Z47 O→0≤Kx O s→(Z47 O∧Tw (Bd (Kx O s) (Ln O)))∧((K1l O s).1,(K1h O s).1,(K1f O s).1,E2 (K1c O s).1,(K08 O s).1,E2 (K08 O s).2)=Xz O s)=_).mp ?_
 delta Z47 Z66 Jdv K1l K1h K1f K1c K08 Bd Tw Ln Gt B0 E2
 exact fun h1 h2=>⟨⟨h1,⟨h2,Uz⟩,⟨h2,Uz⟩⟩,rfl⟩
abbrev W43 [Sx.Dr]:=W42.add Kpy
def L7 (X:List Out) (s:ByteArray):Out:=X.getD (J7 X s).toNat Jbd
def J5a:Con:={args:=[Jbf,aS],ress:=[(true,Xp)],owns:=[],pre:=fun((_,_,_,_,_,X,_),s,_)=>[X.length≤1000000,0≤J7 X s],spec:=fun((_,_,_,_,_,X,_),s,_)=>(L7 X s,())}
def Knb (a:List Out) (b:Bt):=(Gt a (J7 a b) Jgb).2
theorem Ko7 [Sx.Dr]:Ok Tryz.prog 242 J5a:=okW W43 Tryz.f242 na fun xx=>by
 obtain⟨⟨(tk:Int),(st:Int),(S:List Sta),(O:List Ord),(M:List Met),(X:List Out),(Q:List Per)⟩,(s:ByteArray),_⟩:=xx
 refine(by kernel_rfl:(Z59 X→0≤J7 X s→(Z59 X∧Tw (Bd (J7 X s) (Ln X)))∧((Gt X (J7 X s) Jgb).1,(Knb X s).1,E2 (Knb X s).2.1,(Knb X s).2.2)=L7 X s)=_).mp ?_
 delta Z59 Jgb Knb Bd Tw Ln Gt B0 E2
 exact fun h1 h2=>⟨⟨h1,⟨h2,Uo⟩,⟨h2,Uo⟩⟩,rfl⟩
abbrev W44 [Sx.Dr]:=W43.add Ko7
def Jmj (Q:List Per) (s:ByteArray):Per:=Q.getD (U0 Q s).toNat Jiy
def J49:Con:={args:=[Jbf,aS],ress:=[(true,X7)],owns:=[],pre:=fun((_,_,_,_,_,_,Q),s,_)=>[Q.length≤1000000,0≤U0 Q s],spec:=fun((_,_,_,_,_,_,Q),s,_)=>(Jmj Q s,())}
theorem Ko4 [Sx.Dr]:Ok Tryz.prog 245 J49:=okW W44 Tryz.f245 na fun xx=>by
 obtain⟨⟨(tk:Int),(st:Int),(S:List Sta),(O:List Ord),(M:List Met),(X:List Out),(Q:List Per)⟩,(s:ByteArray),_⟩:=xx
 refine(by kernel_rfl:(Z45 Q→0≤U0 Q s→(Z45 Q∧Tw (Bd (U0 Q s) (Ln Q)))∧((Gt Q (U0 Q s) (B0,B0,false)).1,E2 (Gt Q (U0 Q s) (B0,B0,false)).2)=Jmj Q s)=_).mp ?_
 delta Z45 Bd Tw Ln Gt B0 E2
 exact fun h1 h2=>⟨⟨h1,⟨h2,Uy⟩,⟨h2,Uy⟩⟩,rfl⟩
abbrev W45 [Sx.Dr]:=W44.add Ko4
def U8:List Ord→ByteArray→Int→Int
 |[],_,_=>0
 |x::l,s,h=>(bif bif Fs x s then Jo x h else false then x.2.2.2.2.1 else 0)+U8 l s h
theorem Jjd {S:List Sta} {s:ByteArray} {h:Int}:∀{O:List Ord},(∀x∈O,Jca S x)→0≤U8 O s h∧U8 O s h≤1000*O.length
 |[],_=>by simp[U8]
 |x::l,hO=>by
  have:=Jjd (s:=s) (h:=h) (O:=l) fun y hy=>hO y (List.mem_cons_of_mem _ hy)
  have hx:=(hO x (List.mem_cons_self ..)).pow
  unfold U8
  simp only[List.length_cons]
  cases(bif Fs x s then Jo x h else false)<;>simp only[cond_true,cond_false]<;>omega
def Ksy:Con:={args:=[Jbf,aS,aI],ress:=[I],owns:=[],pre:=fun(r,_)=>[Jj r],spec:=fun((_,_,_,O,_),s,h,_)=>(U8 O s h,())}
abbrev J5y (O:List Ord) (s:ByteArray) (h:Int):Ann:={X:=Nat×Int,σ:=fun(k,n)=>⟨1,[(1, .one (.str s)),(2, .one (.int .i64 h)),(7, .one (.int .i64 n)),(11, .one (.sl 0)),(12, .one (.int .i64 O.length)),(13, .one (.int .i64 k))],[(0, .imm 130 Zx O)]⟩,inv:=fun(k,n)=>k≤O.length∧0≤n∧n≤1000*k∧n+U8 (O.drop k) s h=U8 O s h,mu:=fun(k,_)=>O.length-k}
def Z40 (a:Nat×Int):=Iw (Nc a.1+1)
def Z61 (a b:Int) (c:List Sta) (d:List Ord) (e:List Met) (f:List Out) (g:List Per):=(a,b,c,d,e,f,g)
def Jmn (a b:Nat×Int):=Nc a.1+1=Nc b.1
def Jr (a b:Int) (c:List Sta) (d:List Ord) (e:List Met) (f:List Out) (g:List Per):=Jj (Z61 a b c d e f g)
def Kae (a:List Ord) (b:Nat×Int):=List.getD a b.1 Jdv
def Kad (a:List Ord) (b:Nat×Int):=(Kae a b).2
def Kac (a:List Ord) (b:Nat×Int):=(Kad a b).2
def Kab (a:List Ord) (b:Nat×Int):=(Kad a b).1
def J99 (a:List Ord) (b:Nat×Int):=(Kac a b).1
def Kgr (a:List Ord) (b:Nat×Int):=(Kac a b).2
def Kgo (a:List Ord) (b:Nat×Int):=(Kgr a b).2
def Kgn (a:List Ord) (b:Nat×Int):=(Kgo a b).2
def Kgm (a:List Ord) (b:Nat×Int):=(Kgo a b).1
def Klp (a:Nat×Int) (b:List Ord):=a.2+Kgm b a
def Klg (a:Nat×Int) (b:List Ord):=Iw (Klp a b)
def Kld (a:Nat×Int) (b:List Ord) (c:Nat×Int):=Klp a b=c.2
def Kkf (a:Nat×Int) (b:List Ord) (c:Bt) (d:Int):=a.1≤List.length b∧0≤a.2∧a.2≤1000*Nc a.1∧a.2+U8 (List.drop a.1 b) c d=U8 b c d
def Kwq (a:Nat×Int) (b:List Ord) (c:Bt) (d:Int) (e:Nat×Int):=Kkf a b c d∧List.length b-a.1<List.length b-e.1
def J59 (a:List Ord) (b:Nat×Int):=((Kae a b).1,Kab a b,J99 a b,E2 (Kgr a b).1,Kgm a b,E2 (Kgn a b))
def Kid (a:List Ord) (b:Nat×Int) (c:Int):=Jo (J59 a b) c
theorem Kqc [Sx.Dr]:Ok Tryz.prog 177 Ksy:=okW W45 Tryz.f177 (fun xx=>Xh (J5y xx.1.2.2.2.1 xx.2.1 xx.2.2.1)) fun xx=>by
 obtain⟨⟨(tk:Int),(st:Int),(S:List Sta),(O:List Ord),(M:List Met),(X:List Out),(Q:List Per)⟩,(s:ByteArray),(h:Int),_⟩:=xx
 refine(by kernel_rfl:(Jr tk st S O M X Q→∃(x:Nat×Int),Sf s (Si h (0=x.2∧Si (Ln O) (0=Nc x.1∧O=O)))∧Kkf x O s h∧∀(x:Nat×Int),Kkf x O s h→Br (decide (Nc x.1<Ln O)) (Tw (Bd (Nc x.1) (Ln O))∧Br (bif Fs (J59 O x) s then Kid O x h else false) (Klg x O∧Z40 x∧∃(y:Nat×Int),Sf s (Si h (Kld x O y∧Si (Ln O) (Jmn x y∧O=O)))∧Kwq y O s h x) (Z40 x∧∃(y:Nat×Int),Sf s (Si h (x.2=y.2∧Si (Ln O) (Jmn x y∧O=O)))∧Kwq y O s h x)) (x.2=U8 O s h))=_).mp ?_
 delta Z40 Z61 Z66 Jmn Jr Jdv Kae Kad Kac Kab J99 Kgr Kgo Kgn Kgm Klp Klg Kld Kkf Kwq J59 Kid Br Iw Bd Tw Sf Si Ln Nc B0 E2
 intro hr
 have hO:∀x∈O,Jca S x:=hr.ord
 have nO:O.length≤32:=hr.nO
 refine⟨((0:Nat),(0:Int)),⟨rfl,rfl,rfl,rfl,rfl,rfl⟩,⟨Nat.zero_le _,by simp,by simp,by simp⟩,fun(x:Nat×Int) hk=>⟨fun h1=> ?_,fun h1=> ?_⟩⟩
 ·obtain⟨k,n⟩:=x
  have hlt:k<O.length:=by simpa using h1
  have ho:=hO _ (Jc (d:=Jl) hlt)
  have hp:=ho.pow
  dsimp only at hk⊢
  obtain⟨k1,k2,k3,k4⟩:=hk
  rw[Jt (d:=Jl) hlt,U8] at k4
  refine⟨⟨by omega,by omega⟩,fun h2=> ?_,fun h2=> ?_⟩
  ·have h3:(bif Fs (O.getD k Jl) s then Jo (O.getD k Jl) h else false)=true:=h2
   rw[h3,cond_true] at k4
   refine⟨⟨?_, ?_⟩,⟨by omega,by omega⟩,(k+1,n+(O.getD k Jl).2.2.2.2.1),⟨rfl,rfl,rfl,rfl,by simp,rfl⟩,⟨by simp only;omega,by simp only;omega,by simp only;omega,by simp only;omega⟩,by simp only;omega⟩
   ·show _≤n+(O.getD k Jl).2.2.2.2.1;omega
   ·show n+(O.getD k Jl).2.2.2.2.1≤_;omega
  ·have h3:(bif Fs (O.getD k Jl) s then Jo (O.getD k Jl) h else false)=false:=h2
   rw[h3,cond_false] at k4
   refine⟨⟨by omega,by omega⟩,(k+1,n),⟨rfl,rfl,rfl,rfl,by simp,rfl⟩,⟨by simp only;omega,by simp only;omega,by simp only;omega,by simp only;omega⟩,by simp only;omega⟩
 ·obtain⟨k,n⟩:=x
  have hlt:¬k<O.length:=by simpa using h1
  simp only at hk
  have:k=O.length:=by omega
  rw[this,List.drop_length,U8] at hk
  show n=_
  omega
abbrev W46 [Sx.Dr]:=W45.add Kqc
theorem Jil {S:List Sta} {s:ByteArray} (h:∀x∈S,J89 x) (hf:0≤Jx S s):J89 (Hq S s):=by
 have:=K2 (l:=S) (s:=s)
 exact h _ (Jc (by omega))
def Jgq:List Out→ByteArray→Int→Int→Int
 |[],_,_,n=>n
 |x::l,s,h,n=>Jgq l s h (bif Jzc x s h then min n x.2.2.2 else n)
def Xl (S:List Sta) (O:List Ord) (X:List Out) (s:ByteArray) (h:Int):Int:=Jgq X s h (Hq S s).2.1-U8 O s h
def Ksn:Con:={args:=[Jbf,aS,aI],ress:=[I],owns:=[],pre:=fun(r,s,_)=>[Jj r,0≤Jx r.2.2.1 s],spec:=fun((_,_,S,O,_,X,_),s,h,_)=>(Xl S O X s h,())}
abbrev J5r (tk st:Int) (S:List Sta) (O:List Ord) (M:List Met) (X:List Out) (Q:List Per) (s:ByteArray) (h:Int):Ann:={X:=Nat×Int,σ:=fun(k,n)=>⟨6,[(1, .one (.str s)),(2, .one (.int .i64 h)),(3, .one (.ptr 5 0)),(7, .one (.int .i64 n)),(15, .one (.sl 3)),(16, .one (.int .i64 X.length)),(17, .one (.int .i64 k))],[(0, .imm 127 L5 S),(1, .imm 130 Zx O),(2, .imm 155 Dd M),(3, .imm 188 Xp X),(4, .imm 235 X7 Q),(5, .box 105 [.int .i64 tk, .int .i64 st, .sl 0, .sl 1, .sl 2, .sl 3, .sl 4])]⟩,inv:=fun(k,n)=>k≤X.length∧0≤n∧n≤1000∧Jgq (X.drop k) s h n=Jgq X s h (Hq S s).2.1,mu:=fun(k,_)=>X.length-k}
def Kav (a:List Out) (b:Nat×Int):=(List.getD a b.1 Jgb).2
def Kar (a:List Out) (b:Nat×Int):=(Kav a b).2.2
def Kmx (a:List Out) (b:Nat×Int):=E2 (Kav a b).2.1
def Joj (a:List Sta) (b:List Ord) (c:List Met) (d:List Out) (e:List Per) (f g:Int):=Sf a (Sf b (Sf c (Sf d (Sf e (Si f (g=g))))))
def Kkm (a:Nat×Int) (b:List Out) (c:Bt) (d:Int) (e:List Sta):=a.1≤List.length b∧0≤a.2∧a.2≤1000∧Jgq (List.drop a.1 b) c d a.2=Jgq b c d (Hq e c).2.1
def Jsv (a:Nat×Int) (b:List Sta) (c:List Ord) (d:List Met) (e:List Out) (f:List Per) (g h:Int):=0=Nc a.1∧Joj b c d e f g h
def Joi (a b:Nat×Int) (c:List Sta) (d:List Ord) (e:List Met) (f:List Out) (g:List Per) (h i:Int):=Jmn a b∧Joj c d e f g h i
def Kws (a:Nat×Int) (b:List Out) (c:Bt) (d:Int) (e:List Sta) (f:Nat×Int):=Kkm a b c d e∧List.length b-a.1<List.length b-f.1
theorem K5x [Sx.Dr]:Ok Tryz.prog 91 Ksn:=okW W46 Tryz.f91 (fun xx=>Xh (J5r xx.1.1 xx.1.2.1 xx.1.2.2.1 xx.1.2.2.2.1 xx.1.2.2.2.2.1 xx.1.2.2.2.2.2.1 xx.1.2.2.2.2.2.2 xx.2.1 xx.2.2.1)) fun xx=>by
 obtain⟨⟨(tk:Int),(st:Int),(S:List Sta),(O:List Ord),(M:List Met),(X:List Out),(Q:List Per)⟩,(s:ByteArray),(h:Int),_⟩:=xx
 refine(by kernel_rfl:(Jr tk st S O M X Q→Z23 S s→(Z46 S∧Z23 S s)∧∃(x:Nat×Int),Sf s (Si h ((Hq S s).2.1=x.2∧Si (Ln X) (Jsv x S O M X Q tk st)))∧Kkm x X s h S∧∀(x:Nat×Int),Kkm x X s h S→Br (decide (Nc x.1<Ln X)) (Tw (Bd (Nc x.1) (Ln X))∧Br (Jzc ((List.getD X x.1 Jgb).1,(Kav X x).1,Kmx X x,Kar X x) s h) (Z40 x∧∃(y:Nat×Int),Sf s (Si h (min x.2 (Kar X x)=y.2∧Si (Ln X) (Joi x y S O M X Q tk st)))∧Kws y X s h S x) (Z40 x∧∃(y:Nat×Int),Sf s (Si h (x.2=y.2∧Si (Ln X) (Joi x y S O M X Q tk st)))∧Kws y X s h S x)) ((Jr tk st S O M X Q∧Iw (x.2-U8 O s h))∧x.2-U8 O s h=Xl S O X s h))=_).mp ?_
 delta Z23 Z40 Z46 Z61 Jmn Jr Jgb Kav Kar Kmx Joj Kkm Jsv Joi Kws Br Iw Bd Tw Sf Si Ln Nc B0 E2
 intro hr hf
 have hX:∀x∈X,Jop S x:=hr.out
 have nO:O.length≤32:=hr.nO
 have nX:X.length≤16:=hr.nX
 have nS:S.length≤6:=hr.nS
 have hs:=Jil hr.sta hf
 have hl:=Jjd (s:=s) (h:=h) hr.ord
 refine⟨⟨by omega,hf⟩,((0:Nat),(Hq S s).2.1),⟨rfl,rfl,rfl,rfl,rfl,rfl,rfl,rfl,rfl,rfl,rfl,rfl⟩,⟨Nat.zero_le _, ?_,hs.lim.2,by simp⟩,fun(x:Nat×Int) hk=>⟨fun h1=> ?_,fun h1=> ?_⟩⟩
 ·have:=hs.lim.1
  show 0≤(Hq S s).2.1
  simp only at this
  omega
 ·obtain⟨k,n⟩:=x
  have hlt:k<X.length:=by simpa using h1
  have ho:=(hX _ (Jc (d:=Jbd) hlt)).rest
  dsimp only at hk⊢
  obtain⟨k1,k2,k3,k4⟩:=hk
  rw[Jt (d:=Jbd) hlt,Jgq] at k4
  refine⟨⟨by omega,by omega⟩,fun h2=> ?_,fun h2=> ?_⟩
  ·have h3:Jzc (X.getD k Jbd) s h=true:=h2
   rw[h3,cond_true] at k4
   exact⟨⟨by omega,by omega⟩,(k+1,min n (X.getD k Jbd).2.2.2),⟨rfl,rfl,rfl,rfl,by simp,rfl,rfl,rfl,rfl,rfl,rfl,rfl⟩,⟨by simp only;omega,by simp only;omega,by simp only;omega,k4⟩,by simp only;omega⟩
  ·have h3:Jzc (X.getD k Jbd) s h=false:=h2
   rw[h3,cond_false] at k4
   exact⟨⟨by omega,by omega⟩,(k+1,n),⟨rfl,rfl,rfl,rfl,by simp,rfl,rfl,rfl,rfl,rfl,rfl,rfl⟩,⟨by simp only;omega,by simp only;omega,by simp only;omega,k4⟩,by simp only;omega⟩
 ·obtain⟨k,n⟩:=x
  have hlt:¬k<X.length:=by simpa using h1
  simp only at hk
  have:k=X.length:=by omega
  rw[this,List.drop_length,Jgq] at hk
  unfold Xl
  have hl2:U8 O s h≤1000*(O.length:Int):=hl.2
  have hl1:0≤U8 O s h:=hl.1
  refine⟨⟨hr, ?_, ?_⟩, ?_⟩
  ·show _≤n-_;omega
  ·show n-_≤_;omega
  ·show n-_=_;omega
abbrev W47 [Sx.Dr]:=W46.add K5x
def Ve (r:Reg) (w:Int) (s:ByteArray):Bool:=bif w==0 then decide (0≤Jx r.2.2.1 s) else bif w==1 then decide (0≤Kx r.2.2.2.1 s) else bif w==2 then decide (0≤J7 r.2.2.2.2.2.1 s) else bif w==3 then decide (0≤U0 r.2.2.2.2.2.2 s) else true
def K7q:Con:={args:=[Jbf,aI,aS],ress:=[Bo],owns:=[],pre:=fun(r,_)=>[Jj r],spec:=fun(r,w,s,_)=>(Ve r w s,())}
theorem K58 [Sx.Dr]:Ok Tryz.prog 76 K7q:=okW W47 Tryz.f76 na fun xx=>by
 obtain⟨⟨(tk:Int),(st:Int),(S:List Sta),(O:List Ord),(M:List Met),(X:List Out),(Q:List Per)⟩,(w:Int),(s:ByteArray),_⟩:=xx
 refine(by kernel_rfl:(Jr tk st S O M X Q→Br (w==0) (Z46 S∧decide (0≤Jx S s)=Ve (Z61 tk st S O M X Q) w s) (Br (w==1) (Z47 O∧decide (0≤Kx O s)=Ve (Z61 tk st S O M X Q) w s) (Br (w==2) (Z59 X∧decide (0≤J7 X s)=Ve (Z61 tk st S O M X Q) w s) (Br (w==3) (Z45 Q∧decide (0≤U0 Q s)=Ve (Z61 tk st S O M X Q) w s) (true=Ve (Z61 tk st S O M X Q) w s)))))=_).mp ?_
 delta Z45 Z46 Z47 Z59 Z61 Jr Br
 intro hr
 have nS:S.length≤6:=hr.nS
 have nO:O.length≤32:=hr.nO
 have nX:X.length≤16:=hr.nX
 have nQ:Q.length≤16:=hr.nQ
 unfold Ve
 refine⟨fun h=> ?_,fun h=> ?_⟩
 ·rw[h];exact⟨by omega,rfl⟩
 rw[h]
 refine⟨fun h=> ?_,fun h=> ?_⟩
 ·rw[h];exact⟨by omega,rfl⟩
 rw[h]
 refine⟨fun h=> ?_,fun h=> ?_⟩
 ·rw[h];exact⟨by omega,rfl⟩
 rw[h]
 refine⟨fun h=> ?_,fun h=> ?_⟩
 ·rw[h];exact⟨by omega,rfl⟩
 rw[h];rfl
abbrev W48 [Sx.Dr]:=W47.add K58
def Jhf:Met:=(Ja,0,0,0)
def K7p:Con:={args:=[.val true Dd, .ref 9 .str, .ref 3 sI],ress:=[Bo],owns:=[],pre:=fun _=>[],spec:=fun(x,s,h,_)=>(bif x.1.toList==s.toList then x.2.1==h else false,())}
theorem Krb [Sx.Dr]:Ok Tryz.prog 142 K7p:=okW W48 Tryz.f142 na fun xx=>by
 obtain⟨⟨(a:ByteArray),(b:Int),(c:Int),(d:Int)⟩,(s:ByteArray),(h:Int),_⟩:=xx
 refine(by kernel_rfl:((Lb a s&&(b==h&&(c==c&&(d==d&&true))))=bif Lb a s then b==h else false)=_).mp ?_
 delta Lb
 cases a.toList==s.toList<;>cases b==h<;>simp
abbrev W49 [Sx.Dr]:=W48.add Krb
def Js1:=(B0,Z66)
def Khg (a:List Met) (b:Nat):=List.getD a b Js1
def Khe (a:List Met) (b:Nat):=(Khg a b).2
def Kk3 (a:Nat) (b:List Met) (c:Met×Unit→Bool):=a≤List.length b∧Vm (fun(x:Met)=>c (x,PUnit.unit)) b 0=Vm (fun(x:Met)=>c (x,PUnit.unit)) (List.drop a b) a
def Kjn (a:List Met) (b:Nat):=((Khg a b).1,(Khe a b).1,E2 (Khe a b).2)
def Kwu (a:List Met) (b:Nat):=(Kjn a b,PUnit.unit)
theorem Krc [Sx.Dr]:Ok Tryz.prog 141 (Kc6 155 Dd true):=okW W49 Tryz.f141 (fun xx=>Xh (Jmc 155 Dd true xx.1 xx.2.1.1 xx.2.1.2)) fun xx=>by
 obtain⟨(l:List Met),⟨(q:Met×Unit→List Prop),(f:Met×Unit→Bool)⟩,_⟩:=xx
 refine(by kernel_rfl:(List.length l≤1000000→(∀(x:Met),x∈l→Un (q (x,PUnit.unit)))→∃(x:Nat),Si (Ln l) (0=Nc x∧Sf l ((fun(x:Met×PUnit)=>q x)=q∧(fun(x:Met×PUnit)=>f x)=f))∧Kk3 x l f∧∀(x:Nat),Kk3 x l f→Br (decide (Nc x<Ln l)) (T2 (Bd (Nc x) (Ln l)) (Un (q (Kwu l x)))∧Br (f (Kwu l x)) (Nc x=Vm (fun(x:Met)=>f (x,PUnit.unit)) l 0) (Z14 x∧∃(y:Nat),Si (Ln l) (V9 x y∧Sf l ((fun(x:Met×PUnit)=>q x)=q∧(fun(x:Met×PUnit)=>f x)=f))∧Kk3 y l f∧List.length l-y<List.length l-x)) (Z67=Vm (fun(x:Met)=>f (x,PUnit.unit)) l 0))=_).mp ?_
 delta Z14 Z66 Z67 V9 Js1 Khg Khe Kk3 Kjn Kwu Br Iw Bd T2 Sf Si Ln Nc B0 E2
 intro hb hq
 refine⟨(0:Nat),⟨rfl,rfl,rfl,rfl,rfl⟩,⟨Nat.zero_le _,rfl⟩,fun(k:Nat) hk=>⟨fun h=> ?_,fun h=> ?_⟩⟩
 ·have hlt:k<l.length:=by simpa using h
  have hd:=V5 (p:=fun x=>f (x,())) (d:=Jhf) hlt
  refine⟨⟨by omega,by omega,hq (l.getD k Jhf) (Jc hlt)⟩,fun h1=> ?_,fun h1=>⟨by omega,(k+1:Nat),⟨rfl,rfl,rfl,by simp,rfl⟩,⟨by omega, ?_⟩,by omega⟩⟩
  ·rw[hk.2,hd,if_pos (show f (l.getD k Jhf,())=true from h1)]
  ·rw[hk.2,hd,if_neg (by rw[show f (l.getD k Jhf,())=false from h1];simp)]
 ·have hlt:¬k<l.length:=by simpa using h
  have:k=l.length:=by omega
  rw[hk.2,this,List.drop_length];rfl
abbrev W50 [Sx.Dr]:=W49.add Krc
def Kcv:Con:={args:=[Jbf,aS,aI],ress:=[I],owns:=[],pre:=fun(r,_)=>[Jj r],spec:=fun((_,_,_,_,M,_),s,h,_)=>(Kv M s h,())}
theorem K6a [Sx.Dr]:Ok Tryz.prog 73 Kcv:=okW W50 Tryz.f73 na fun xx=>by
 obtain⟨⟨(tk:Int),(st:Int),(S:List Sta),(O:List Ord),(M:List Met),(X:List Out),(Q:List Per)⟩,(s:ByteArray),(h:Int),_⟩:=xx
 refine(by kernel_rfl:(Jr tk st S O M X Q→(List.length M≤1000000∧∀(x:Met),x∈M→True)∧Vm (fun(x:Met)=>match Lb x.1 s with|true=>x.2.1==h|false=>false) M 0=Kv M s h)=_).mp ?_
 delta Z61 Jr Lb
 intro hr
 have nM:M.length≤10000:=hr.nM
 exact⟨⟨by omega,fun _ _=>trivial⟩,rfl⟩
abbrev W51 [Sx.Dr]:=W50.add K6a
def Vs (e:Ev):Int×Int:=(e.2.2.2.1.getD 1 0,e.2.2.2.1.getD 2 0)
def Ksk:Con:={args:=[aEv],ress:=[(true,Ho)],owns:=[],pre:=fun(e,_)=>[3≤e.2.2.2.1.length],spec:=fun(e,_)=>(Vs e,())}
def Z25 (a:Li):=Bd 2 (Ln a)
def Z28 (a:Li):=Bd 1 (Ln a)
def Z44 (a:Int) (b:Bt) (c:Ls) (d:Li) (e:Bt):=Vs (a,b,c,d,e)
def Z48 (a:Li):=3≤List.length a
def Z87 (a:Li):=List.getD a 2 0
def Z89 (a:Li):=List.getD a 1 0
def Kat (a:Li):=T2 (Z28 a) (Tw (Z25 a))
def Kap (a:Li):=(Z89 a,Z87 a)
theorem Kpb [Sx.Dr]:Ok Tryz.prog 238 Ksk:=okW W51 Tryz.f238 na fun xx=>by
 obtain⟨⟨(n:Int),(k:ByteArray),(ns:List ByteArray),(vs:List Int),(t:ByteArray)⟩,_⟩:=xx
 refine(by kernel_rfl:(Z48 vs→Kat vs∧Kap vs=Z44 n k ns vs t)=_).mp ?_
 delta Z25 Z28 Z44 Z48 Z87 Z89 Kat Kap Bd T2 Tw Ln
 intro h
 exact⟨⟨⟨by omega,by omega⟩,⟨by omega,by omega⟩,⟨by omega,by omega⟩,⟨by omega,by omega⟩⟩,rfl⟩
abbrev W52 [Sx.Dr]:=W51.add Kpb
abbrev EvV (e:Ev):Prop:=∀v∈e.2.2.2.1,0≤v∧v≤999999999
def Ze (e:Ev):Int:=bif (bif (bif decide ((Vs e).1<e.2.2.2.1.getD 0 0) then true else decide ((Vs e).2≤(Vs e).1)) then true else decide (48<(Vs e).2-(Vs e).1)) then 14 else 0
def Jz8:Con:={args:=[aEv],ress:=[I],owns:=[],pre:=fun(e,_)=>[3≤e.2.2.2.1.length,EvV e],spec:=fun(e,_)=>(Ze e,())}
def Z31 (a:Li):=Bd 0 (Ln a)
def Z98 (a:Li):=List.getD a 0 0
def Kxu (a:Int) (b:Bt) (c:Ls) (d:Li) (e:Bt):=bif decide ((Z44 a b c d e).1<Z98 d) then true else decide ((Z44 a b c d e).2≤(Z44 a b c d e).1)
theorem Kpd [Sx.Dr]:Ok Tryz.prog 236 Jz8:=okW W52 Tryz.f236 na fun xx=>by
 obtain⟨⟨(n:Int),(k:ByteArray),(ns:List ByteArray),(vs:List Int),(t:ByteArray)⟩,_⟩:=xx
 refine(by kernel_rfl:(Z48 vs→EvV (n,k,ns,vs,t)→Z48 vs∧T2 (Z31 vs) (Kxu n k ns vs t=false→Iw ((Z44 n k ns vs t).2-(Z44 n k ns vs t).1))∧(bif bif Kxu n k ns vs t then true else decide (48<(Z44 n k ns vs t).2-(Z44 n k ns vs t).1) then 14 else 0)=Ze (n,k,ns,vs,t))=_).mp ?_
 delta Z31 Z44 Z48 Z98 Kxu Iw Bd T2 Ln
 intro h hv
 refine⟨h,⟨⟨by omega,by omega⟩,⟨by omega,by omega⟩,fun _=> ?_⟩,rfl⟩
 have h1:=hv (vs.getD 1 0) (Jc (show 1<vs.length by omega))
 have h2:=hv (vs.getD 2 0) (Jc (show 2<vs.length by omega))
 unfold Vs
 simp only
 omega
abbrev W53 [Sx.Dr]:=W52.add Kpd
abbrev Gap:=ByteArray×Int
abbrev J3v:Sch:= .prod .str sI
def L9 (M:List Met) (u:Int) (x:Ord):Int→Nat→List Gap
 |_,0=>[]
 |h,n+1=>(bif Jo x h&&(decide (h<u)&&decide (Kv M x.1 h<0)) then[(x.1,h)] else[])++L9 M u x (h+1) n
def Juo (M:List Met) (u:Int) (x:Ord):List Gap:=L9 M u x x.2.2.2.1.1 (x.2.2.2.1.2-x.2.2.2.1.1).toNat
def Kp (M:List Met) (u:Int):List Ord→List Gap
 |[]=>[]
 |x::l=>Juo M u x++Kp M u l
def Ksv:Con:={args:=[Jbf,aI],ress:=[(false, .list 200 J3v)],owns:=[true],pre:=fun(r,_)=>[Jj r],spec:=fun((_,_,_,O,M,_),u,_)=>(Kp M u O,())}
abbrev J5w (tk st:Int) (S:List Sta) (O:List Ord) (M:List Met) (X:List Out) (Q:List Per) (u:Int):Ann:={X:=Nat×List Gap,σ:=fun(k,o)=>⟨9,[(2, .one (.ptr 5 0)),(3, .one (.ptr 6 0)),(5, .one (.ptr 7 0)),(10, .one (.sl 1)),(11, .one (.int .i64 O.length)),(12, .one (.int .i64 k))],[(0, .imm 127 L5 S),(1, .imm 130 Zx O),(2, .imm 155 Dd M),(3, .imm 188 Xp X),(4, .imm 235 X7 Q),(5, .box 105 [.int .i64 tk, .int .i64 st, .sl 0, .sl 1, .sl 2, .sl 3, .sl 4]),(6, .box 3 [.int .i64 u]),(7, .box 50 [.sl 8]),(8, .own 200 J3v o)]⟩,inv:=fun(k,o)=>k≤O.length∧o.length≤48*k∧o++Kp M u (O.drop k)=Kp M u O,mu:=fun(k,_)=>O.length-k}
abbrev bxO (x:Ord):List SC:=[.str x.1, .str x.2.1, .str x.2.2.1, .int .i64 x.2.2.2.1.1, .int .i64 x.2.2.2.1.2, .int .i64 x.2.2.2.2.1, .int .i64 x.2.2.2.2.2.1, .int .i64 x.2.2.2.2.2.2]
def Ko (x:Ord):Nat:=(x.2.2.2.1.2-x.2.2.2.1.1).toNat
abbrev J0p (tk st:Int) (S:List Sta) (O:List Ord) (M:List Met) (X:List Out) (Q:List Per) (u:Int):Ann:={X:=Nat×List Gap×Nat,σ:=fun(k,o,j)=>⟨16,[(0, .one (.fv 13)),(1, .one (.ptr 11 0)),(3, .one (.int .i64 ((O.getD k Jl).2.2.2.1.1+j)))],[(0, .imm 127 L5 S),(1, .imm 130 Zx O),(2, .imm 155 Dd M),(3, .imm 188 Xp X),(4, .imm 235 X7 Q),(5, .box 105 [.int .i64 tk, .int .i64 st, .sl 0, .sl 1, .sl 2, .sl 3, .sl 4]),(6, .box 3 [.int .i64 u]),(7, .box 50 [.sl 15]),(9, .box 130 (bxO (O.getD k Jl))),(11, .box 130 (bxO (O.getD k Jl))),(13, .yld .ready),(14, .sus [(2, .one (.ptr 5 0)),(3, .one (.ptr 6 0)),(5, .one (.ptr 7 0)),(7, .one (.ptr 9 0)),(10, .one (.sl 1)),(11, .one (.int .i64 O.length)),(12, .one (.int .i64 k))]),(15, .own 200 J3v o)]⟩,inv:=fun(k,o,j)=>Jj (tk,st,S,O,M,X,Q)∧k<O.length∧j≤Ko (O.getD k Jl)∧o.length≤48*k+j∧o++(L9 M u (O.getD k Jl) ((O.getD k Jl).2.2.2.1.1+j) (Ko (O.getD k Jl)-j)++Kp M u (O.drop (k+1)))=Kp M u O,mu:=fun(k,_,j)=>Ko (O.getD k Jl)-j,rel:=some fun x y=>y.1=x.1}
theorem Jwi (a b:Bool):(bif a then b else false)=(a&&b):=by cases a<;>rfl
def Z4 (a:List Ord) (b:Nat×List Gap×Nat):=List.getD a b.1 Jl
def Z6 (a:List Ord) (b:Nat×List (Bt×Int)×Nat):=List.getD a b.1 Jl
def Z72 (a:List Ord) (b:Nat×List (Bt×Int)×Nat):=(Z6 a b).2.2.2.2
def Z73 (a:List Ord) (b:Nat×List (Bt×Int)×Nat):=(Z6 a b).2.2.2.1
def Z79 (a:List Ord) (b:Nat×List Gap×Nat):=(Z4 a b).2.2.2.2
def Z82 (a:List Ord) (b:Nat×List Gap×Nat):=(Z4 a b).2.2.2.1
def Jyc (a:List Ord) (b:Nat×List Gap×Nat):=(Z82 a b).1+Nc b.2.2
def J6y (a:List Ord) (b:Nat×List Gap×Nat) (c:Nat×List (Bt×Int)×Nat):=(Z4 a b).1=(Z6 a c).1
def J6w (a:List Ord) (b:Nat×List Gap×Nat) (c:Nat×List (Bt×Int)×Nat):=(Z4 a b).2.1=(Z6 a c).2.1
def Kau (a:List Ord) (b:Nat×List Gap×Nat) (c:Int):=decide (Jyc a b<c)
def J6v (a:List Ord) (b:Nat×List Gap×Nat) (c:Nat×List (Bt×Int)×Nat):=(Z4 a b).2.2.1=(Z6 a c).2.2.1
def Kao (a:List Ord) (b:Nat×List Gap×Nat):=Iw (Jyc a b+1)
def J6s (a:List Ord) (b:Nat×List Gap×Nat) (c:Nat×List (Bt×Int)×Nat):=(Z82 a b).2=(Z73 a c).2
def J6r (a:List Ord) (b:Nat×List Gap×Nat) (c:Nat×List (Bt×Int)×Nat):=(Z82 a b).1=(Z73 a c).1
def J6p (a:List Ord) (b:Nat×List Gap×Nat) (c:Nat×List (Bt×Int)×Nat):=(Z79 a b).1=(Z72 a c).1
def J6m (a:List Ord) (b:Nat×List Gap×Nat) (c:Nat×List (Bt×Int)×Nat):=(Z79 a b).2.2=(Z72 a c).2.2
def J6l (a:List Ord) (b:Nat×List Gap×Nat) (c:Nat×List (Bt×Int)×Nat):=(Z79 a b).2.1=(Z72 a c).2.1
def Km3 (a:Nat×List Gap×Nat):=(List.length a.2.1+1)*24≤140737488355328
def Kmk (a:List Ord) (b:Nat×List Gap):=List.getD a b.1 Jdv
def Kme (a:List Ord) (b:Nat×List Gap):=(Kmk a b).2
def Kmc (a:List Ord) (b:Nat×List Gap):=(Kme a b).2
def Kl9 (a:List Ord) (b:Nat×List Gap):=(Kmc a b).2
def Kl8 (a:List Ord) (b:Nat×List Gap×Nat):=decide (Jyc a b<(Z82 a b).2)
def Kl7 (a:List Ord) (b:Nat×List Gap):=(Kl9 a b).2
def Kl6 (a:List Ord) (b:Nat×List Gap):=(Kl9 a b).1
def Klz (a:List Ord) (b:Nat×List Gap):=(Kl7 a b).2
def Kly (a:List Ord) (b:Nat×List Gap):=(Kl6 a b).1
def J93 (a:List Ord) (b:Nat×List Gap×Nat) (c:Nat×List (Bt×Int)×Nat):=Jyc a b+1=(Z73 a c).1+Nc c.2.2
def Klc (a:Nat×List Gap×Nat) (b:List Ord):=a.2.1++[((Z4 b a).1,Jyc b a)]
def Kgj (a:List Ord) (b:Nat×List Gap) (c:Nat×List (Bt×Int)×Nat):=(Kmk a b).1=(Z6 a c).1
def Kgi (a:List Ord) (b:Nat×List Gap) (c:Nat×List (Bt×Int)×Nat):=(Kme a b).1=(Z6 a c).2.1
def Kk7 (a:Nat×List Gap×Nat) (b:List Ord) (c:Nat×List (Bt×Int)×Nat):=Klc a b=c.2.1
def Kf9 (a:List Ord) (b:Nat×List Gap) (c:Nat×List (Bt×Int)×Nat):=(Kmc a b).1=(Z6 a c).2.2.1
def Kf6 (a:Nat×List (Bt×Int)) (b:List Ord) (c:List Met) (d:Int):=a.1≤List.length b∧List.length a.2≤48*a.1∧a.2++Kp c d (List.drop a.1 b)=Kp c d b
def Kkv (a:Nat×List Gap) (b:List Ord) (c:List Met) (d:Int):=a.1≤List.length b∧List.length a.2≤48*a.1∧a.2++Kp c d (List.drop a.1 b)=Kp c d b
def Kf4 (a:List Ord) (b:Nat×List Gap) (c:Nat×List (Bt×Int)×Nat):=Kly a b=(Z73 a c).1
def Kf3 (a:List Ord) (b:Nat×List Gap) (c:Nat×List (Bt×Int)×Nat):=(Kl6 a b).2=(Z73 a c).2
def Kf2 (a:List Ord) (b:Nat×List Gap) (c:Nat×List (Bt×Int)×Nat):=(Kl7 a b).1=(Z72 a c).1
def Kfz (a:List Ord) (b:Nat×List Gap) (c:Nat×List (Bt×Int)×Nat):=(Klz a b).2=(Z72 a c).2.2
def Kfy (a:List Ord) (b:Nat×List Gap) (c:Nat×List (Bt×Int)×Nat):=(Klz a b).1=(Z72 a c).2.1
def Kj7 (a:List Ord) (b:Nat×List Gap) (c:Nat×List (Bt×Int)×Nat):=Kly a b=(Z73 a c).1+Nc c.2.2
def Ke3 (a:Nat×List (Bt×Int)) (b:List Ord) (c:List Met) (d:Int) (e:Nat×List Gap):=Kf6 a b c d∧List.length b-a.1<List.length b-e.1
def Kiw (a:List Ord) (b:Nat×List Gap×Nat):=Jo ((Z4 a b).1,(Z4 a b).2.1,(Z4 a b).2.2.1,E2 (Z82 a b),(Z79 a b).1,E2 (Z79 a b).2) (Jyc a b)
def Ker (a:Nat×List (Bt×Int)×Nat) (b:List Ord) (c:List Met) (d:Int):=a.1<List.length b∧a.2.2≤Ko (List.getD b a.1 Jl)∧List.length a.2.1≤48*a.1+a.2.2∧a.2.1++(L9 c d (List.getD b a.1 Jl) ((List.getD b a.1 Jl).2.2.2.1.1+Nc a.2.2) (Ko (List.getD b a.1 Jl)-a.2.2)++Kp c d (List.drop (a.1+1) b))=Kp c d b
def Kir (a:Nat×List Gap×Nat) (b:List Ord) (c:List Met) (d:Int):=a.1<List.length b∧a.2.2≤Ko (List.getD b a.1 Jl)∧List.length a.2.1≤48*a.1+a.2.2∧a.2.1++(L9 c d (List.getD b a.1 Jl) ((List.getD b a.1 Jl).2.2.2.1.1+Nc a.2.2) (Ko (List.getD b a.1 Jl)-a.2.2)++Kp c d (List.drop (a.1+1) b))=Kp c d b
def Kun (a b:Int) (c:List Sta) (d:List Ord) (e:List Met) (f:List Out) (g:List Per) (h:Nat×List (Bt×Int)×Nat) (i:Int):=Jr a b c d e f g∧Ker h d e i
def Kt8 (a:Nat×List Gap×Nat) (b:List Ord) (c:List Sta) (d:List Met) (e:List Out) (f:List Per) (g h i:Int) (j:Nat×List Gap):=Iw (Nc a.1+1)∧∃(y:Nat×List (ByteArray×Int)),Si (Ln b) (Nc a.1+1=Nc y.1∧Sf c (Sf b (Sf d (Sf e (Sf f (Si g (Si h (Si i (a.2.1=y.2)))))))))∧Ke3 y b d i j
def Kt6 (a b:Int) (c:List Sta) (d:List Ord) (e:List Met) (f:List Out) (g:List Per) (h:Nat×List (Bt×Int)×Nat) (i:Int) (j:Nat×List (Bt×Int)×Nat) (k:Nat×List Gap×Nat):=(Kun a b c d e f g h i∧h.1=j.1)∧Ko (List.getD d h.1 Jl)-h.2.2<Ko (List.getD d k.1 Jl)-k.2.2
def J7d (a:Nat×List Gap×Nat) (b:List Ord) (c:List Sta) (d:List Met) (e:List Out) (f:List Per) (g h i:Int) (j:Nat×List Gap) (k:Nat×List (Bt×Int)×Nat):=Br false (Kt8 a b c d e f g h i j) (Kao b a∧∃(y:Nat×List (ByteArray×Int)×Nat),(J93 b a y∧Sf c (Sf b (Sf d (Sf e (Sf f (Si g (Si h (Si i (J6y b a y∧J6w b a y∧J6v b a y∧J6r b a y∧J6s b a y∧J6p b a y∧J6l b a y∧J6m b a y∧J6y b a y∧J6w b a y∧J6v b a y∧J6r b a y∧J6s b a y∧J6p b a y∧J6l b a y∧J6m b a y∧Si (Ln b) (Nc a.1=Nc y.1∧a.2.1=y.2.1))))))))))∧Kt6 g h c b d e f y i k a)
theorem K5w [Sx.Dr]:Ok Tryz.prog 92 Ksv:=J2c W53 Tryz.f92 (U5 (l:=([(178,Tryz.f178),(247,Tryz.f247)]:List (Nat×Func))) (List.forall_mem_cons.2 ⟨by kernel_rfl,List.forall_mem_cons.2 ⟨by kernel_rfl,by simp⟩⟩)) (fun xx=>Xh (J5w xx.1.1 xx.1.2.1 xx.1.2.2.1 xx.1.2.2.2.1 xx.1.2.2.2.2.1 xx.1.2.2.2.2.2.1 xx.1.2.2.2.2.2.2 xx.2.1)) (fun xx=>fun f id=>if f=247 then some (J0p xx.1.1 xx.1.2.1 xx.1.2.2.1 xx.1.2.2.2.1 xx.1.2.2.2.2.1 xx.1.2.2.2.2.2.1 xx.1.2.2.2.2.2.2 xx.2.1) else none) fun xx=>by
 obtain⟨⟨(tk:Int),(st:Int),(S:List Sta),(O:List Ord),(M:List Met),(X:List Out),(Q:List Per)⟩,(u:Int),_⟩:=xx
 refine(by kernel_rfl:(Jr tk st S O M X Q→∃(x:Nat×List (ByteArray×Int)),Si (Ln O) (0=Nc x.1∧Sf S (Sf O (Sf M (Sf X (Sf Q (Si tk (Si st (Si u (List.length x.2=0)))))))))∧Kf6 x O M u∧∀(x:Nat×List Gap),Kkv x O M u→Br (decide (Nc x.1<Ln O)) (Tw (Bd (Nc x.1) (Ln O))∧∃(x0:Nat×List (ByteArray×Int)×Nat),(Kj7 O x x0∧Sf S (Sf O (Sf M (Sf X (Sf Q (Si tk (Si st (Si u (Kgj O x x0∧Kgi O x x0∧Kf9 O x x0∧Kf4 O x x0∧Kf3 O x x0∧Kf2 O x x0∧Kfy O x x0∧Kfz O x x0∧Kgj O x x0∧Kgi O x x0∧Kf9 O x x0∧Kf4 O x x0∧Kf3 O x x0∧Kf2 O x x0∧Kfy O x x0∧Kfz O x x0∧Si (Ln O) (Nc x.1=Nc x0.1∧x.2=x0.2.1))))))))))∧(Kun tk st S O M X Q x0 u∧x0.1=x0.1)∧∀(x_1:Nat×List Gap×Nat),(Jr tk st S O M X Q∧Kir x_1 O M u)∧x_1.1=x0.1→Br (Kl8 O x_1) (Br (Kiw O x_1) ((Kau O x_1 u=true→Jr tk st S O M X Q)∧Br (bif Kau O x_1 u then decide (Kv M (Z4 O x_1).1 (Jyc O x_1)<0) else false) (Km3 x_1∧Br false (Iw (Nc x_1.1+1)∧∃(y:Nat×List (ByteArray×Int)),Si (Ln O) (Nc x_1.1+1=Nc y.1∧Sf S (Sf O (Sf M (Sf X (Sf Q (Si tk (Si st (Si u (Klc x_1 O=y.2)))))))))∧Ke3 y O M u x) (Kao O x_1∧∃(y:Nat×List (ByteArray×Int)×Nat),(J93 O x_1 y∧Sf S (Sf O (Sf M (Sf X (Sf Q (Si tk (Si st (Si u (J6y O x_1 y∧J6w O x_1 y∧J6v O x_1 y∧J6r O x_1 y∧J6s O x_1 y∧J6p O x_1 y∧J6l O x_1 y∧J6m O x_1 y∧J6y O x_1 y∧J6w O x_1 y∧J6v O x_1 y∧J6r O x_1 y∧J6s O x_1 y∧J6p O x_1 y∧J6l O x_1 y∧J6m O x_1 y∧Si (Ln O) (Nc x_1.1=Nc y.1∧Kk7 x_1 O y))))))))))∧Kt6 tk st S O M X Q y u x0 x_1)) (J7d x_1 O S M X Q tk st u x x0)) (J7d x_1 O S M X Q tk st u x x0)) (Kt8 x_1 O S M X Q tk st u x)) (Sf true (x.2=Kp M u O)))=_).mp ?_
 delta Z4 Z6 Z61 Z66 Z72 Z73 Z79 Z82 Jr Jyc J6y J6w Kau J6v Kao Jdv J6s J6r J6p J6m J6l Km3 Kmk Kme Kmc Kl9 Kl8 Kl7 Kl6 Klz Kly J93 Klc Kgj Kgi Kk7 Kf9 Kf6 Kkv Kf4 Kf3 Kf2 Kfz Kfy Kj7 Ke3 Kiw Ker Kir Kun Kt8 Kt6 J7d Br Iw Bd Tw Sf Si Ln Nc B0 E2
 intro hr
 have nO:O.length≤32:=hr.nO
 refine⟨((0:Nat),[]),by(repeat' first|exact rfl|apply And.intro|exact(Int.add_zero _).symm|omega|dsimp only;omega),⟨Nat.zero_le _,Nat.zero_le _,rfl⟩,fun(x:Nat×List Gap) hk=>⟨fun h1=> ?_,fun h1=> ?_⟩⟩
 ·obtain⟨k,o⟩:=x
  have hlt:k<O.length:=by simpa using h1
  obtain⟨k1,k2,k3⟩:=hk
  dsimp only at k1 k2 k3
  rw[Jt (d:=Jl) hlt,Kp,Juo] at k3
  refine⟨⟨⟨by dsimp only;omega,by dsimp only;omega⟩,by dsimp only;omega,by dsimp only;omega⟩,(k,o,(0:Nat)), ?_,⟨⟨hr,hlt,Nat.zero_le _,by simpa using k2, ?_⟩,rfl⟩,fun(y:Nat×List Gap×Nat) hy=> ?_⟩
  ·repeat' first|exact rfl|apply And.intro|exact(Int.add_zero _).symm|omega|dsimp only;omega
  ·simpa[Ko] using k3
  obtain⟨k',o,j⟩:=y
  obtain⟨⟨_,i1,i2,i3,i4⟩,hkk⟩:=hy
  have hkk:k'=k:=hkk
  subst hkk
  dsimp only at i1 i2 i3 i4
  have ho:Jmg (O.getD k' Jl).2.2.2.1:=(hr.ord (O.getD k' Jl) (Jc hlt)).span
  have hn:Ko (O.getD k' Jl)≤48∧(Ko (O.getD k' Jl):Int)=(O.getD k' Jl).2.2.2.1.2-(O.getD k' Jl).2.2.2.1.1:=by
   have:=ho.mid;have:=ho.len
   unfold Ko
   constructor<;>omega
  have b1:=ho.lo
  have b2:=ho.hi
  refine⟨fun h2=> ?_,fun h2=> ?_⟩
  ·have h2:(O.getD k' Jl).2.2.2.1.1+(j:Int)<(O.getD k' Jl).2.2.2.1.2:=of_decide_eq_true h2
   have hj:Ko (O.getD k' Jl)-j=(Ko (O.getD k' Jl)-(j+1))+1:=by omega
   rw[hj,L9] at i4
   have hB: -9223372036854775808≤(O.getD k' Jl).2.2.2.1.1+(j:Int)+1∧(O.getD k' Jl).2.2.2.1.1+(j:Int)+1≤9223372036854775807:=by omega
   have hc:(O.getD k' Jl).2.2.2.1.1+(j:Int)+1=(O.getD k' Jl).2.2.2.1.1+((j+1:Nat):Int):=by omega
   refine⟨fun h3=>⟨fun _=>hr,fun h4=>⟨by dsimp only;omega,fun f=>(by cases f),fun _=>⟨hB,(k',o++[((O.getD k' Jl).1,(O.getD k' Jl).2.2.2.1.1+(j:Int))],j+1), ?_,⟨⟨hr,hlt,by dsimp only;omega,by simp;omega, ?_⟩,rfl⟩,by dsimp only;omega⟩⟩,fun h4=>⟨fun f=>(by cases f),fun _=>⟨hB,(k',o,j+1), ?_,⟨⟨hr,hlt,by dsimp only;omega,by dsimp only;omega, ?_⟩,rfl⟩,by dsimp only;omega⟩⟩⟩,fun h3=>⟨fun f=>(by cases f),fun _=>⟨hB,(k',o,j+1), ?_,⟨⟨hr,hlt,by dsimp only;omega,by dsimp only;omega, ?_⟩,rfl⟩,by dsimp only;omega⟩⟩⟩
   ·repeat' first|exact rfl|apply And.intro|exact(Int.add_zero _).symm|omega|dsimp only;omega
   ·have h3:Jo (O.getD k' Jl) ((O.getD k' Jl).2.2.2.1.1+(j:Int))=true:=h3
    have h4:(bif decide ((O.getD k' Jl).2.2.2.1.1+(j:Int)<u) then decide (Kv M (O.getD k' Jl).1 ((O.getD k' Jl).2.2.2.1.1+(j:Int))<0) else false)=true:=h4
    rw[Jwi] at h4
    rw[h3,Bool.true_and,h4,hc] at i4
    rw[←i4]
    simp
   ·repeat' first|exact rfl|apply And.intro|exact(Int.add_zero _).symm|omega|dsimp only;omega
   ·have h3:Jo (O.getD k' Jl) ((O.getD k' Jl).2.2.2.1.1+(j:Int))=true:=h3
    have h4:(bif decide ((O.getD k' Jl).2.2.2.1.1+(j:Int)<u) then decide (Kv M (O.getD k' Jl).1 ((O.getD k' Jl).2.2.2.1.1+(j:Int))<0) else false)=false:=h4
    rw[Jwi] at h4
    rw[h3,Bool.true_and,h4,hc] at i4
    rw[←i4]
    simp
   ·repeat' first|exact rfl|apply And.intro|exact(Int.add_zero _).symm|omega|dsimp only;omega
   ·have h3:Jo (O.getD k' Jl) ((O.getD k' Jl).2.2.2.1.1+(j:Int))=false:=h3
    rw[h3,hc] at i4
    rw[←i4]
    simp
  ·have h2:¬(O.getD k' Jl).2.2.2.1.1+(j:Int)<(O.getD k' Jl).2.2.2.1.2:=of_decide_eq_false h2
   have hj:Ko (O.getD k' Jl)-j=0:=by omega
   rw[hj,L9] at i4
   refine⟨⟨by dsimp only;omega,by dsimp only;omega⟩,(k'+1,o), ?_,⟨by dsimp only;omega,by dsimp only;omega,by simpa using i4⟩,by dsimp only;omega⟩
   repeat' first|exact rfl|apply And.intro|exact(Int.add_zero _).symm|omega|dsimp only;omega
 ·obtain⟨k,o⟩:=x
  have hlt:¬k<O.length:=by simpa using h1
  obtain⟨k1,k2,k3⟩:=hk
  dsimp only at k1 k2 k3
  have:k=O.length:=by omega
  rw[this,List.drop_length,Kp,List.append_nil] at k3
  exact⟨rfl,k3⟩
abbrev W54 [Sx.Dr]:=W53.add K5w
abbrev aE:AK:=aEv
abbrev Jof (T U:TypeId) (s:Sch) (l:List s.T) (g:Bool) (q:Tup [(g,s)]→List Prop) (f:Tup [(g,s)]→Bool):Ann:={X:=Nat,σ:=fun k=>⟨3,[(1, .one (.fv 1)),(5, .one (.sl 2)),(8, .one (.sl 0)),(9, .one (.int .i64 l.length)),(10, .one (.int .i64 k))],[(0, .imm T s l),(1, .afn [(g,s)] Bo q f),(2, .own U s ((l.take k).filter fun x=>f (x,())))]⟩,inv:=fun k=>k≤l.length,mu:=fun k=>l.length-k}
def Kc3:Con:={args:=[.val false (.list 235 X7), .fn [(true,X7)] Bo],ress:=[(false, .list 235 X7)],owns:=[true],pre:=fun(l,(q,_),_)=>[l.length≤1000000,∀x∈l,Un (q (x,()))],spec:=fun(l,(_,f),_)=>(l.filter fun x=>f (x,()),())}
theorem Jfh {α:Type} {p:α→Bool} {l:List α} {k:Nat} (h:k≤l.length):((l.take k).filter p).length≤k:=by
 have:=List.length_filter_le p (l.take k)
 rw[List.length_take] at this
 omega
def J26 (a:Per×Unit→Bool) (b:Nat) (c:List Per):=List.filter (fun(x:Per)=>a (x,PUnit.unit)) (List.take b c)
def Kg5 (a:Nat) (b:List Per) (c:Nat):=a≤List.length b∧J09 b a c
theorem Ko6 [Sx.Dr]:Ok Tryz.prog 243 Kc3:=okW W54 Tryz.f243 (fun xx=>Xh (Jof 235 235 X7 xx.1 true xx.2.1.1 xx.2.1.2)) fun xx=>by
 obtain⟨(l:List Per),⟨(q:Per×Unit→List Prop),(f:Per×Unit→Bool)⟩,_⟩:=xx
 refine(by kernel_rfl:(Z45 l→Kaf l q→∃(x:Nat),Si (Ln l) (0=Nc x∧Sf l ((fun(x:Per×PUnit)=>q x)=q∧(fun(x:Per×PUnit)=>f x)=f∧List.length (J26 f x l)=0))∧x≤List.length l∧∀(x:Nat),x≤List.length l→Br (Jyk x l) (Tw (Bd (Nc x) (Ln l))∧J92 q l x∧Br (Klm f l x) ((List.length (J26 f x l)+1)*40≤140737488355328∧Z14 x∧∃(y:Nat),Si (Ln l) (V9 x y∧Sf l ((fun(x:Per×PUnit)=>q x)=q∧(fun(x:Per×PUnit)=>f x)=f∧J26 f x l++[Kgq l x]=J26 f y l))∧Kg5 y l x) (Z14 x∧∃(y:Nat),Si (Ln l) (V9 x y∧Sf l ((fun(x:Per×PUnit)=>q x)=q∧(fun(x:Per×PUnit)=>f x)=f∧J26 f x l=J26 f y l))∧Kg5 y l x)) (J26 f x l=List.filter (fun(x:Per)=>f (x,PUnit.unit)) l))=_).mp ?_
 delta Z14 Z45 Jyk V9 J3d J09 J26 Kg5 Kaf Kgq J94 Klm J92 Br Iw Bd Tw Sf Si Ln Nc B0 E2
 intro hb hq
 refine⟨(0:Nat),⟨rfl,rfl,rfl,rfl,rfl,by simp⟩,Nat.zero_le _,fun(k:Nat) hk=>⟨fun h=> ?_,fun h=> ?_⟩⟩
 ·have hlt:k<l.length:=by simpa using h
  have hf:=Jfh (p:=fun x=>f (x,())) hk
  have ht:=Us (d:=Jiy) hlt
  refine⟨by omega,hq (l.getD k Jiy) (Jc hlt),fun h1=> ?_,fun h1=> ?_⟩
  ·have h1:f (l.getD k Jiy,())=true:=h1
   refine⟨by show((List.filter (fun x=>f (x,())) (List.take k l)).length+1)*40≤_;omega,by omega,(k+1:Nat),⟨rfl,by simp,rfl,rfl,rfl, ?_⟩,by omega,by omega⟩
   rw[←ht,List.filter_append,List.filter_cons,if_pos h1];rfl
  ·have h1:f (l.getD k Jiy,())=false:=h1
   refine⟨by omega,(k+1:Nat),⟨rfl,by simp,rfl,rfl,rfl, ?_⟩,by omega,by omega⟩
   rw[←ht,List.filter_append,List.filter_cons,if_neg (by rw[h1];decide)];simp
 ·have hlt:¬k<l.length:=by simpa using h
  rw[List.take_of_length_le (by omega)]
abbrev W55 [Sx.Dr]:=W54.add Ko6
def J2q:Con:={args:=[.val true X7],ress:=[Bo],owns:=[],pre:=fun _=>[],spec:=fun(x,_)=>(x.2.2,())}
theorem Kn0 [Sx.Dr] (x:Per):wpF Tryz.prog W55.g (na ()) Tryz.f261 J2q (x,()):=by
 refine(by kernel_rfl:(x.2.2=x.2.2)=_).mp ?_
 rfl
theorem Ko0 [Sx.Dr]:Ok Tryz.prog 261 J2q:=Vq mixed W55.ok (by kernel_rfl) (by kernel_rfl) na fun xx=>Kn0 xx.1
abbrev W56 [Sx.Dr]:=W55.add Ko0
def L8 (Q:List Per):List Per:=Q.filter fun x=>x.2.2
def Kcs:Con:={args:=[Jbf],ress:=[(false, .list 235 X7)],owns:=[true],pre:=fun(r,_)=>[Jj r],spec:=fun((_,_,_,_,_,_,Q),_)=>(L8 Q,())}
theorem Kpp [Sx.Dr]:Ok Tryz.prog 207 Kcs:=okW W56 Tryz.f207 na fun xx=>by
 obtain⟨⟨(tk:Int),(st:Int),(S:List Sta),(O:List Ord),(M:List Met),(X:List Out),(Q:List Per)⟩,_⟩:=xx
 refine(by kernel_rfl:(Jr tk st S O M X Q→Klq Q∧List.filter (fun(x:Per)=>x.2.2) Q=L8 Q)=_).mp ?_
 delta Z45 Z61 Jr Klq
 intro hr
 have nQ:Q.length≤16:=hr.nQ
 exact⟨⟨by omega,fun _ _=>trivial⟩,rfl⟩
abbrev W57 [Sx.Dr]:=W56.add Kpp
theorem Jdi {Q:List Per}:(L8 Q).length≤Q.length:=List.length_filter_le _ _
theorem Jld {Q:List Per} {x:Per} (h:x∈L8 Q):x∈Q:=(List.mem_filter.1 h).1
def Kcm:Con:={args:=[.val true X7, .ref 188 Xp],ress:=[Bo],owns:=[],pre:=fun _=>[],spec:=fun(x,y,_)=>(x.2.1.toList==y.1.toList,())}
theorem Kn1 [Sx.Dr] (x:Per) (y:Out):wpF Tryz.prog W57.g (na ()) Tryz.f244 Kcm (x,y,()):=by
 refine(by kernel_rfl:(Lb x.2.1 y.1=Lb x.2.1 y.1)=_).mp ?_
 delta Lb
 rfl
theorem Ko5 [Sx.Dr]:Ok Tryz.prog 244 Kcm:=Vq mixed W57.ok (by kernel_rfl) (by kernel_rfl) na fun xx=>Kn1 xx.1 xx.2.1
abbrev W58 [Sx.Dr]:=W57.add Ko5
def Ksl:Con:={args:=[.val true X7, .ref 105 Jm9, .ref 3 sI],ress:=[Bo],owns:=[],pre:=fun(x,r,_)=>[Jj r,0≤J7 r.2.2.2.2.2.1 x.2.1],spec:=fun(x,(_,_,_,_,_,X,_),h,_)=>(decide ((L7 X x.2.1).2.2.1.2≤h),())}
theorem Ko3 [Sx.Dr]:Ok Tryz.prog 246 Ksl:=okW W58 Tryz.f246 na fun xx=>by
 obtain⟨⟨(a:ByteArray),(b:ByteArray),(c:Bool)⟩,⟨(tk:Int),(st:Int),(S:List Sta),(O:List Ord),(M:List Met),(X:List Out),(Q:List Per)⟩,(h:Int),_⟩:=xx
 refine(by kernel_rfl:(Jr tk st S O M X Q→0≤J7 X b→(Z59 X∧0≤J7 X b)∧decide ((L7 X b).2.2.1.2≤h)=decide ((L7 X b).2.2.1.2≤h))=_).mp ?_
 delta Z59 Z61 Jr
 intro hr h
 have nX:X.length≤16:=hr.nX
 repeat' first|assumption|exact rfl|trivial|omega|apply And.intro|intro _
abbrev W59 [Sx.Dr]:=W58.add Ko3
def Kst:Con:={args:=[aI, .ref 105 Jm9, .ref 9 .str, .ref 9 .str, .ref 3 sI],ress:=[Bo],owns:=[],pre:=fun(_,r,a,b,_)=>[Jj r,0≤Jx r.2.2.1 a,0≤Jx r.2.2.1 b],spec:=fun(h,(_,_,S,O,_,X,_),a,b,p,_)=>(decide (min (Xl S O X a h) (Xl S O X b h)<p),())}
theorem Kpa [Sx.Dr]:Ok Tryz.prog 239 Kst:=okW W59 Tryz.f239 na fun xx=>by
 obtain⟨(h:Int),⟨(tk:Int),(st:Int),(S:List Sta),(O:List Ord),(M:List Met),(X:List Out),(Q:List Per)⟩,(a:ByteArray),(b:ByteArray),(p:Int),_⟩:=xx
 refine(by kernel_rfl:(Jr tk st S O M X Q→Z23 S a→Z23 S b→(Jr tk st S O M X Q∧Z23 S a∧Jr tk st S O M X Q∧Z23 S b)∧decide (min (Xl S O X a h) (Xl S O X b h)<p)=decide (min (Xl S O X a h) (Xl S O X b h)<p))=_).mp ?_
 delta Z23 Z61 Jr
 intro hr h1 h2
 repeat' first|assumption|exact rfl|trivial|omega|apply And.intro|intro _
abbrev W60 [Sx.Dr]:=W59.add Kpa
def Kss:Con:={args:=[aI, .ref 105 Jm9, .ref 9 .str, .ref 3 sI],ress:=[Bo],owns:=[],pre:=fun(_,r,a,_)=>[Jj r],spec:=fun(h,(_,_,_,O,_),a,p,_)=>(decide (p<U8 O a h),())}
theorem Ko8 [Sx.Dr]:Ok Tryz.prog 241 Kss:=okW W60 Tryz.f241 na fun xx=>by
 obtain⟨(h:Int),⟨(tk:Int),(st:Int),(S:List Sta),(O:List Ord),(M:List Met),(X:List Out),(Q:List Per)⟩,(a:ByteArray),(p:Int),_⟩:=xx
 refine(by kernel_rfl:(Jr tk st S O M X Q→Jr tk st S O M X Q∧decide (p<U8 O a h)=decide (p<U8 O a h))=_).mp ?_
 delta Z61 Jr
 intro hr
 repeat' first|assumption|exact rfl|trivial|omega|apply And.intro|intro _
abbrev W61 [Sx.Dr]:=W60.add Ko8
def Jr8 (f:Int→Bool):Int→Nat→Bool
 |_,0=>false
 |a,n+1=>bif f a then true else Jr8 f (a+1) n
def Hi (s:Int×Int) (f:Int→Bool):Bool:=Jr8 f s.1 (s.2-s.1).toNat
def Kdg:Con:={args:=[.val true Ho, .fn [I] Bo],ress:=[Bo],owns:=[],pre:=fun(s,(q,_),_)=>[0≤s.1∧s.1≤999999999,0≤s.2∧s.2≤999999999,∀h,s.1≤h→h<s.2→Un (q (h,()))],spec:=fun(s,(_,f),_)=>(Hi s fun h=>f (h,()),())}
abbrev J0r (a b:Int) (q:Int×Unit→List Prop) (f:Int×Unit→Bool):Ann:={X:=Nat,σ:=fun k=>⟨2,[(1, .one (.fv 1)),(2, .one (.ptr 0 0)),(5, .one (.bool false)),(11, .one (.int .i64 (b-a))),(12, .one (.int .i64 k))],[(0, .box 117 [.int .i64 a, .int .i64 b]),(1, .afn [I] Bo q f)]⟩,inv:=fun k=>k≤(b-a).toNat∧Hi (a,b) (fun h=>f (h,()))=Jr8 (fun h=>f (h,())) (a+k) ((b-a).toNat-k),mu:=fun k=>(b-a).toNat-k}
def Kbj (a:Int):=0≤a∧a≤999999999
def Kkr (a:Nat) (b c:Int) (d:Int×Unit→Bool):=a≤Int.toNat (b-c)∧(Hi (c,b) fun(h:Int)=>d (h,PUnit.unit))=Jr8 (fun(h:Int)=>d (h,PUnit.unit)) (c+Nc a) (Int.toNat (b-c)-a)
theorem Kpc [Sx.Dr]:Ok Tryz.prog 237 Kdg:=okW W61 Tryz.f237 (fun xx=>Xh (J0r xx.1.1 xx.1.2 xx.2.1.1 xx.2.1.2)) fun xx=>by
 obtain⟨⟨(a:Int),(b:Int)⟩,⟨(q:Int×Unit→List Prop),(f:Int×Unit→Bool)⟩,_⟩:=xx
 refine(by kernel_rfl:(Kbj a→Kbj b→(∀(h:Int),a≤h→h<b→Un (q (h,PUnit.unit)))→Iw (b-a)∧∃(x:Nat),Sf false (Si (b-a) (0=Nc x∧Si a (Si b ((fun(x:Int×PUnit)=>q x)=q∧(fun(x:Int×PUnit)=>f x)=f))))∧Kkr x b a f∧∀(x:Nat),Kkr x b a f→Br (decide (Nc x<b-a)) ((Iw (a+Nc x)∧Un (q (a+Nc x,PUnit.unit)))∧Br (f (a+Nc x,PUnit.unit)) (true=Hi (a,b) fun(h:Int)=>f (h,PUnit.unit)) (Z14 x∧∃(y:Nat),Sf false (Si (b-a) (V9 x y∧Si a (Si b ((fun(x:Int×PUnit)=>q x)=q∧(fun(x:Int×PUnit)=>f x)=f))))∧Kkr y b a f∧Int.toNat (b-a)-y<Int.toNat (b-a)-x)) (false=Hi (a,b) fun(h:Int)=>f (h,PUnit.unit)))=_).mp ?_
 delta Z14 V9 Kbj Kkr Br Iw Sf Si Nc
 intro h1 h2 hq
 refine⟨by omega,(0:Nat),⟨rfl,rfl,rfl,rfl,rfl,rfl,rfl⟩,⟨Nat.zero_le _,by simp[Hi]⟩,fun(k:Nat) hk=>⟨fun h=> ?_,fun h=> ?_⟩⟩
 ·have h:(k:Int)<b-a:=of_decide_eq_true h
  obtain⟨k1,k2⟩:=hk
  have hj:(b-a).toNat-k=((b-a).toNat-(k+1))+1:=by omega
  rw[hj,Jr8] at k2
  refine⟨⟨by omega,hq (a+k) (by omega) (by omega)⟩,fun h3=> ?_,fun h3=>⟨by omega,(k+1:Nat),⟨rfl,rfl,by simp,rfl,rfl,rfl,rfl⟩,⟨by omega, ?_⟩,by omega⟩⟩
  ·rw[k2]
   show true=bif f (a+(k:Int),PUnit.unit) then true else _
   rw[h3];rfl
  ·rw[k2]
   show(bif f (a+(k:Int),PUnit.unit) then true else _)=_
   rw[h3,Int.natCast_add,←Int.add_assoc];rfl
 ·have h:¬(k:Int)<b-a:=of_decide_eq_false h
  have hj:(b-a).toNat-k=0:=by omega
  rw[hk.2,hj];rfl
abbrev W62 [Sx.Dr]:=W61.add Kpc
def Jl7 (S:List Sta) (vs:List Int):Int:=Jg [Ki (vs.getD 1 0) 1 1000,bif decide ((6:Int)≤S.length) then 5 else 0]
def Kdh:Con:={args:=[Jbf,aEv],ress:=[I],owns:=[],pre:=fun(r,e,_)=>[Jj r,2≤e.2.2.2.1.length],spec:=fun((tk,st,S,O,M,X,Q),(n,k,ns,vs,tx),_)=>(Jl7 S vs,())}
def Z58 (a:Li):=2≤List.length a
theorem Kq5 [Sx.Dr]:Ok Tryz.prog 148 Kdh:=okW W62 Tryz.f148 na fun xx=>by
 obtain⟨⟨(tk:Int),(st:Int),(S:List Sta),(O:List Ord),(M:List Met),(X:List Out),(Q:List Per)⟩,⟨(n:Int),(k:ByteArray),(ns:List ByteArray),(vs:List Int),(tx:ByteArray)⟩,_⟩:=xx
 refine(by kernel_rfl:(Jr tk st S O M X Q→Z58 vs→T2 (Z28 vs) (2≤1000000)∧Jg [Ki (Z89 vs) 1 1000,bif decide (6≤Ln S) then 5 else 0]=Jl7 S vs)=_).mp ?_
 delta Z28 Z58 Z61 Z89 Jr Bd T2 Ln
 intro hr h
 repeat' first|assumption|exact rfl|trivial|omega|apply And.intro|intro _
abbrev W63 [Sx.Dr]:=W62.add Kq5
def Jn7 (vs:List Int):Int:=Ki (vs.getD 1 0) 0 1000
def Kdj:Con:={args:=[Jbf,aEv],ress:=[I],owns:=[],pre:=fun(r,e,_)=>[2≤e.2.2.2.1.length],spec:=fun((tk,st,S,O,M,X,Q),(n,k,ns,vs,tx),_)=>(Jn7 vs,())}
def Z94 (a:Li):=Tw (Z28 a)
theorem Kq1 [Sx.Dr]:Ok Tryz.prog 152 Kdj:=okW W63 Tryz.f152 na fun xx=>by
 obtain⟨⟨(tk:Int),(st:Int),(S:List Sta),(O:List Ord),(M:List Met),(X:List Out),(Q:List Per)⟩,⟨(n:Int),(k:ByteArray),(ns:List ByteArray),(vs:List Int),(tx:ByteArray)⟩,_⟩:=xx
 refine(by kernel_rfl:(Z58 vs→Z94 vs∧Ki (Z89 vs) 0 1000=Jn7 vs)=_).mp ?_
 delta Z28 Z58 Z89 Z94 Bd Tw Ln
 intro h
 repeat' first|assumption|exact rfl|trivial|omega|apply And.intro|intro _
abbrev W64 [Sx.Dr]:=W63.add Kq1
def Jho (e:Ev):Int:=Jg [bif (e.2.2.1.getD 1 Ja).toList==(e.2.2.1.getD 2 Ja).toList then 24 else 0,Ze e,Ki (e.2.2.2.1.getD 3 0) 1 1000]
def Jvb (S:List Sta) (O:List Ord) (X:List Out) (e:Ev):Bool:=Hi (Vs e) fun h=>decide (min (Xl S O X (e.2.2.1.getD 1 Ja) h) (Xl S O X (e.2.2.1.getD 2 Ja) h)<e.2.2.2.1.getD 3 0)
def Jb4 (S:List Sta) (O:List Ord) (X:List Out) (e:Ev):Int:=if Jho e≠0 then Jho e else Jg [bif Jvb S O X e then 4 else 0,bif decide ((32:Int)≤O.length) then 5 else 0]
def Kdl:Con:={args:=[Jbf,aEv],ress:=[I],owns:=[],pre:=fun(r,e,_)=>[Jj r,EvV e,e.2.2.1.length=3,e.2.2.2.1.length=4,0≤Jx r.2.2.1 (e.2.2.1.getD 1 Ja),0≤Jx r.2.2.1 (e.2.2.1.getD 2 Ja)],spec:=fun((tk,st,S,O,M,X,Q),(n,k,ns,vs,tx),_)=>(Jb4 S O X (n,k,ns,vs,tx),())}
def Z26 (a:Li):=Bd 3 (Ln a)
def Z49 (a:Li):=List.length a=4
def Z85 (a:Li):=List.getD a 3 0
def Z92 (a:Ls):=Bd 2 (Ln a)
def Z97 (a:Ls):=Bd 1 (Ln a)
def Z99 (a:Li):=Tw (Z26 a)
def Jom (a:Ls):=List.getD a 2 B0
def Le (a:Ls):=List.getD a 1 B0
def Jj5 (a:Ls):=List.getD a 1 Ja
def J64 (a:Ls):=List.getD a 2 Ja
def Js2 (a:Ls):=List.length a=3
def Jye (a:List Sta) (b:Ls):=Jx a (Le b)
def J25 (a:List Sta) (b:Ls):=0≤Jye a b
def Ka0 (a:List Sta) (b:Ls):=0≤Jx a (Jj5 b)
def Km9 (a:Ls):=Lb (Le a) (Jom a)
def Kwj (a:Ls) (b:Int) (c:Bt) (d:Li) (e:Bt):=Jg [bif Km9 a then 24 else 0,Ze (b,c,a,d,e),Ki (Z85 d) 1 1000]
theorem Kqz [Sx.Dr]:Ok Tryz.prog 154 Kdl:=okW W64 Tryz.f154 na fun xx=>by
 obtain⟨⟨(tk:Int),(st:Int),(S:List Sta),(O:List Ord),(M:List Met),(X:List Out),(Q:List Per)⟩,⟨(n:Int),(k:ByteArray),(ns:List ByteArray),(vs:List Int),(tx:ByteArray)⟩,_⟩:=xx
 refine(by kernel_rfl:(Jr tk st S O M X Q→EvV (n,k,ns,vs,tx)→Js2 ns→Z49 vs→Ka0 S ns→0≤Jx S (J64 ns)→T2 (Z97 ns) (T2 (Z92 ns) (Z99 vs))∧(Z48 vs∧EvV (n,k,ns,vs,tx)∧3≤1000000)∧Br (Kwj ns n k vs tx !=0) (Kwj ns n k vs tx=Jb4 S O X (n,k,ns,vs,tx)) ((Z48 vs∧(0≤(Z44 n k ns vs tx).1∧(Z44 n k ns vs tx).1≤999999999)∧(0≤(Z44 n k ns vs tx).2∧(Z44 n k ns vs tx).2≤999999999)∧∀(h:Int),(Z44 n k ns vs tx).1≤h→h<(Z44 n k ns vs tx).2→Jr tk st S O M X Q∧J25 S ns∧0≤Jx S (Jom ns))∧2≤1000000∧Jg [bif Hi (E2 (Z44 n k ns vs tx)) fun(h:Int)=>decide (min (Xl S O X (Le ns) h) (Xl S O X (Jom ns) h)<Z85 vs) then 4 else 0,bif decide (32≤Ln O) then 5 else 0]=Jb4 S O X (n,k,ns,vs,tx)))=_).mp ?_
 delta Z26 Z44 Z48 Z49 Z61 Z85 Z92 Z97 Z99 Jom Le Jj5 J64 Js2 Jr Jye J25 Ka0 Km9 Kwj Br Bd T2 Tw Ln B0 Lb E2
 intro hr hv hn hl h1 h2
 have sp:(0≤(Vs (n,k,ns,vs,tx)).1∧(Vs (n,k,ns,vs,tx)).1≤999999999)∧0≤(Vs (n,k,ns,vs,tx)).2∧(Vs (n,k,ns,vs,tx)).2≤999999999:=⟨hv (vs.getD 1 0) (Jc (show 1<vs.length by omega)),hv (vs.getD 2 0) (Jc (show 2<vs.length by omega))⟩
 refine⟨by omega,⟨by omega,hv,by omega⟩,fun h=> ?_,fun h=>⟨⟨by omega,sp.1,sp.2,fun _ _ _=>⟨hr,h1,h2⟩⟩,by omega, ?_⟩⟩
 ·have h:Jho (n,k,ns,vs,tx)≠0:=bne_iff_ne.1 h
  unfold Jb4;rw[if_pos h];rfl
 ·have h:¬Jho (n,k,ns,vs,tx)≠0:=by have:=bne_eq_false_iff_eq.1 h;exact fun f=>f this
  unfold Jb4;rw[if_neg h];rfl
abbrev W65 [Sx.Dr]:=W64.add Kqz
def Jl8 (O:List Ord) (M:List Met) (ns:List ByteArray) (vs:List Int):Int:=Jg [bif decide (vs.getD 0 0≤vs.getD 1 0) then 11 else 0,bif !Kq (Xz O (ns.getD 0 Ja)).2.2.2.1 (vs.getD 1 0) then 14 else 0,bif !Jo (Xz O (ns.getD 0 Ja)) (vs.getD 1 0) then 23 else 0,bif decide (0≤Kv M (Xz O (ns.getD 0 Ja)).1 (vs.getD 1 0)) then 9 else 0,bif (bif decide ((Xz O (ns.getD 0 Ja)).2.2.2.2.1<vs.getD 2 0) then true else decide (vs.getD 2 0<vs.getD 3 0)) then 3 else 0]
def Kdm:Con:={args:=[Jbf,aEv],ress:=[I],owns:=[],pre:=fun(r,e,_)=>[Jj r,1≤e.2.2.1.length,4≤e.2.2.2.1.length,0≤Kx r.2.2.2.1 (e.2.2.1.getD 0 Ja)],spec:=fun((tk,st,S,O,M,X,Q),(n,k,ns,vs,tx),_)=>(Jl8 O M ns vs,())}
def Z55 (a:Li):=4≤List.length a
def Z91 (a:Ls):=Bd 0 (Ln a)
def Z93 (a:Ls):=List.getD a 0 B0
def Yz (a:Ls):=1≤List.length a
def L2 (a:Ls):=List.getD a 0 Ja
def J62 (a:List Ord) (b:Ls):=Xz a (Z93 b)
def Jqq (a:List Ord) (b:Ls):=Kx a (Z93 b)
def Ka8 (a:List Ord) (b:Ls):=(J62 a b).2.2
def J6z (a:List Ord) (b:Ls):=(Ka8 a b).2.2
def Ka5 (a:List Ord) (b:Ls):=(Ka8 a b).2.1
def Jsy (a:List Ord) (b:Ls):=0≤Kx a (L2 b)
def Km0 (a:Li):=decide (Z98 a≤Z89 a)
def Kmz (a:Li):=decide (Z87 a<Z85 a)
def Kit (a:List Ord) (b:Ls):=((J62 a b).1,(J62 a b).2.1,(Ka8 a b).1,E2 (Ka5 a b),(J6z a b).1,E2 (J6z a b).2)
theorem Kqw [Sx.Dr]:Ok Tryz.prog 157 Kdm:=okW W65 Tryz.f157 na fun xx=>by
 obtain⟨⟨(tk:Int),(st:Int),(S:List Sta),(O:List Ord),(M:List Met),(X:List Out),(Q:List Per)⟩,⟨(n:Int),(k:ByteArray),(ns:List ByteArray),(vs:List Int),(tx:ByteArray)⟩,_⟩:=xx
 refine(by kernel_rfl:(Jr tk st S O M X Q→Yz ns→Z55 vs→Jsy O ns→T2 (Z91 ns) (Z47 O∧0≤Jqq O ns∧T2 (Z28 vs) (T2 (Z25 vs) (Z99 vs)))∧T2 (Z31 vs) (Jr tk st S O M X Q∧5≤1000000)∧Jg [bif Km0 vs then 11 else 0,bif !Kq (E2 (Ka5 O ns)) (Z89 vs) then 14 else 0,bif !Jo (Kit O ns) (Z89 vs) then 23 else 0,bif decide (0≤Kv M (J62 O ns).1 (Z89 vs)) then 9 else 0,bif bif decide ((J6z O ns).1<Z87 vs) then true else Kmz vs then 3 else 0]=Jl8 O M ns vs)=_).mp ?_
 delta Z25 Z26 Z28 Z31 Z47 Z55 Z61 Z85 Z87 Z89 Z91 Z93 Z98 Z99 Yz L2 Jr J62 Jqq Ka8 J6z Ka5 Jsy Km0 Kmz Kit Bd T2 Tw Ln B0 E2
 intro hr h1 h2 h3
 have nO:O.length≤32:=hr.nO
 refine⟨⟨⟨by omega,by omega⟩,⟨by omega,by omega⟩,by omega,h3,by omega⟩,⟨by omega,by omega,hr,by omega⟩,rfl⟩
abbrev W66 [Sx.Dr]:=W65.add Kqw
def Jct (O:List Ord) (ns:List ByteArray) (vs:List Int):Int:=bif (bif (Xz O (ns.getD 0 Ja)).2.2.2.2.2.2 != -1 then true else decide ((Xz O (ns.getD 0 Ja)).2.2.2.1.2≤vs.getD 0 0)) then 23 else 0
def J5f:Con:={args:=[Jbf,aEv],ress:=[I],owns:=[],pre:=fun(r,e,_)=>[Jj r,1≤e.2.2.1.length,1≤e.2.2.2.1.length,0≤Kx r.2.2.2.1 (e.2.2.1.getD 0 Ja)],spec:=fun((tk,st,S,O,M,X,Q),(n,k,ns,vs,tx),_)=>(Jct O ns vs,())}
def Z52 (a:Li):=1≤List.length a
def Kk5 (a:Ls) (b:List Ord):=T2 (Z91 a) (Z47 b∧0≤Jqq b a)
def Kye (a:List Ord) (b:Ls):=(J6z a b).2.2 !=Z67
theorem Kqu [Sx.Dr]:Ok Tryz.prog 159 J5f:=okW W66 Tryz.f159 na fun xx=>by
 obtain⟨⟨(tk:Int),(st:Int),(S:List Sta),(O:List Ord),(M:List Met),(X:List Out),(Q:List Per)⟩,⟨(n:Int),(k:ByteArray),(ns:List ByteArray),(vs:List Int),(tx:ByteArray)⟩,_⟩:=xx
 refine(by kernel_rfl:(Jr tk st S O M X Q→Yz ns→Z52 vs→Jsy O ns→Kk5 ns O∧Tw (Kye O ns=false→Z31 vs)∧(bif bif Kye O ns then true else decide ((Ka5 O ns).2≤Z98 vs) then 23 else 0)=Jct O ns vs)=_).mp ?_
 delta Z31 Z47 Z52 Z61 Z67 Z91 Z93 Z98 Yz L2 Jr J62 Jqq Ka8 J6z Ka5 Jsy Kk5 Kye Bd T2 Tw Ln B0
 intro hr h1 h2 h3
 have nO:O.length≤32:=hr.nO
 repeat' first|assumption|exact rfl|trivial|omega|apply And.intro|intro _
abbrev W67 [Sx.Dr]:=W66.add Kqu
def Jhn (S:List Sta) (e:Ev):Int:=Jg [Ze e,bif decide ((Hq S (e.2.2.1.getD 1 Ja)).2.1≤e.2.2.2.1.getD 3 0) then 3 else 0]
def Jb3 (S:List Sta) (O:List Ord) (X:List Out) (e:Ev):Int:=if Jhn S e≠0 then Jhn S e else Jg [bif Hi (Vs e) (fun h=>decide (e.2.2.2.1.getD 3 0<U8 O (e.2.2.1.getD 1 Ja) h)) then 24 else 0,bif decide ((16:Int)≤X.length) then 5 else 0]
def Kdk:Con:={args:=[Jbf,aEv],ress:=[I],owns:=[],pre:=fun(r,e,_)=>[Jj r,EvV e,e.2.2.1.length=2,e.2.2.2.1.length=4,0≤Jx r.2.2.1 (e.2.2.1.getD 1 Ja)],spec:=fun((tk,st,S,O,M,X,Q),(n,k,ns,vs,tx),_)=>(Jb3 S O X (n,k,ns,vs,tx),())}
def Jqs (a:Ls):=List.length a=2
def Kxh (a:Int) (b:Bt) (c:Ls) (d:Li) (e:Bt) (f:List Sta):=Jg [Ze (a,b,c,d,e),bif decide ((Hq f (Le c)).2.1≤Z85 d) then 3 else 0]
theorem Kqs [Sx.Dr]:Ok Tryz.prog 161 Kdk:=okW W67 Tryz.f161 na fun xx=>by
 obtain⟨⟨(tk:Int),(st:Int),(S:List Sta),(O:List Ord),(M:List Met),(X:List Out),(Q:List Per)⟩,⟨(n:Int),(k:ByteArray),(ns:List ByteArray),(vs:List Int),(tx:ByteArray)⟩,_⟩:=xx
 refine(by kernel_rfl:(Jr tk st S O M X Q→EvV (n,k,ns,vs,tx)→Jqs ns→Z49 vs→Ka0 S ns→T2 (Z97 ns) (Z99 vs)∧(Z48 vs∧EvV (n,k,ns,vs,tx)∧Z46 S∧J25 S ns∧2≤1000000)∧Br (Kxh n k ns vs tx S !=0) (Kxh n k ns vs tx S=Jb3 S O X (n,k,ns,vs,tx)) ((Z48 vs∧(0≤(Z44 n k ns vs tx).1∧(Z44 n k ns vs tx).1≤999999999)∧(0≤(Z44 n k ns vs tx).2∧(Z44 n k ns vs tx).2≤999999999)∧∀(h:Int),(Z44 n k ns vs tx).1≤h→h<(Z44 n k ns vs tx).2→Jr tk st S O M X Q)∧2≤1000000∧Jg [bif Hi (E2 (Z44 n k ns vs tx)) fun(h:Int)=>decide (Z85 vs<U8 O (Le ns) h) then 24 else 0,bif decide (16≤Ln X) then 5 else 0]=Jb3 S O X (n,k,ns,vs,tx)))=_).mp ?_
 delta Z26 Z44 Z46 Z48 Z49 Z61 Z85 Z97 Z99 Le Jqs Jj5 Jr Jye J25 Ka0 Kxh Br Bd T2 Tw Ln B0 E2
 intro hr hv hn hl h1
 have sp:(0≤(Vs (n,k,ns,vs,tx)).1∧(Vs (n,k,ns,vs,tx)).1≤999999999)∧0≤(Vs (n,k,ns,vs,tx)).2∧(Vs (n,k,ns,vs,tx)).2≤999999999:=⟨hv (vs.getD 1 0) (Jc (show 1<vs.length by omega)),hv (vs.getD 2 0) (Jc (show 2<vs.length by omega))⟩
 have nS:S.length≤6:=hr.nS
 refine⟨by omega,⟨by omega,hv,by omega,h1,by omega⟩,fun h=> ?_,fun h=>⟨⟨by omega,sp.1,sp.2,fun _ _ _=>hr⟩,by omega, ?_⟩⟩
 ·have h:Jhn S (n,k,ns,vs,tx)≠0:=bne_iff_ne.1 h
  unfold Jb3;rw[if_pos h];rfl
 ·have h:¬Jhn S (n,k,ns,vs,tx)≠0:=by have:=bne_eq_false_iff_eq.1 h;exact fun f=>f this
  unfold Jb3;rw[if_neg h];rfl
abbrev W68 [Sx.Dr]:=W67.add Kqs
def Jcu (X:List Out) (Q:List Per) (ns:List ByteArray) (vs:List Int):Int:=Jg [bif decide (vs.getD 0 0≤(L7 X (ns.getD 0 Ja)).2.2.1.1) then 21 else 0,bif decide ((L7 X (ns.getD 0 Ja)).2.2.1.2≤vs.getD 0 0) then 23 else 0,bif decide ((0:Int)<((L8 Q).filter fun p=>p.2.1.toList==(L7 X (ns.getD 0 Ja)).1.toList).length) then 32 else 0]
def J5h:Con:={args:=[Jbf,aEv],ress:=[I],owns:=[],pre:=fun(r,e,_)=>[Jj r,1≤e.2.2.1.length,1≤e.2.2.2.1.length,0≤J7 r.2.2.2.2.2.1 (e.2.2.1.getD 0 Ja)],spec:=fun((tk,st,S,O,M,X,Q),(n,k,ns,vs,tx),_)=>(Jcu X Q ns vs,())}
def Kbf (a:List Out) (b:Ls):=L7 a (Z93 b)
def Js0 (a:List Out) (b:Ls):=J7 a (Z93 b)
def J07 (a:List Out) (b:Ls):=0≤J7 a (L2 b)
def Kk6 (a:Ls) (b:List Out):=T2 (Z91 a) (Z59 b∧0≤Js0 b a)
def Kjv (a b:Int) (c:List Sta) (d:List Ord) (e:List Met) (f:List Out) (g:List Per):=Jr a b c d e f g∧List.length (L8 g)≤1000000∧∀(x:Per),x∈L8 g→True
theorem Kqp [Sx.Dr]:Ok Tryz.prog 164 J5h:=okW W68 Tryz.f164 na fun xx=>by
 obtain⟨⟨(tk:Int),(st:Int),(S:List Sta),(O:List Ord),(M:List Met),(X:List Out),(Q:List Per)⟩,⟨(n:Int),(k:ByteArray),(ns:List ByteArray),(vs:List Int),(tx:ByteArray)⟩,_⟩:=xx
 refine(by kernel_rfl:(Jr tk st S O M X Q→Yz ns→Z52 vs→J07 X ns→Kk6 ns X∧Kjv tk st S O M X Q∧T2 (Z31 vs) (T2 (Z31 vs) (3≤1000000))∧Jg [bif decide (Z98 vs≤(Kbf X ns).2.2.1.1) then 21 else 0,bif decide ((Kbf X ns).2.2.1.2≤Z98 vs) then 23 else 0,bif decide (0<Ln (List.filter (fun(x:Per)=>List.beq (ByteArray.toList x.2.1) (ByteArray.toList (Kbf X ns).1)) (L8 Q))) then 32 else 0]=Jcu X Q ns vs)=_).mp ?_
 delta Z31 Z52 Z59 Z61 Z91 Z93 Z98 Yz L2 Jr Kbf Js0 J07 Kk6 Kjv Bd T2 Ln B0
 intro hr h1 h2 h3
 have nX:X.length≤16:=hr.nX
 have nQ:Q.length≤16:=hr.nQ
 have:=Jdi (Q:=Q)
 refine⟨⟨by omega,by omega,by omega,h3⟩,⟨hr,by omega,fun _ _=>trivial⟩,by omega,rfl⟩
abbrev W69 [Sx.Dr]:=W68.add Kqp
def Jcv (X:List Out) (Q:List Per) (ns:List ByteArray) (vs:List Int):Int:=Jg [bif !Kq (L7 X (ns.getD 1 Ja)).2.2.1 (vs.getD 0 0) then 22 else 0,bif decide ((16:Int)≤Q.length) then 5 else 0]
def J5i:Con:={args:=[Jbf,aEv],ress:=[I],owns:=[],pre:=fun(r,e,_)=>[Jj r,2≤e.2.2.1.length,1≤e.2.2.2.1.length,0≤J7 r.2.2.2.2.2.1 (e.2.2.1.getD 1 Ja)],spec:=fun((tk,st,S,O,M,X,Q),(n,k,ns,vs,tx),_)=>(Jcv X Q ns vs,())}
def Jyi (a:Ls):=2≤List.length a
theorem Kqn [Sx.Dr]:Ok Tryz.prog 166 J5i:=okW W69 Tryz.f166 na fun xx=>by
 obtain⟨⟨(tk:Int),(st:Int),(S:List Sta),(O:List Ord),(M:List Met),(X:List Out),(Q:List Per)⟩,⟨(n:Int),(k:ByteArray),(ns:List ByteArray),(vs:List Int),(tx:ByteArray)⟩,_⟩:=xx
 refine(by kernel_rfl:(Jr tk st S O M X Q→Jyi ns→Z52 vs→0≤J7 X (Jj5 ns)→T2 (Z97 ns) (Z59 X∧0≤J7 X (Le ns)∧T2 (Z31 vs) (2≤1000000))∧Jg [bif !Kq (E2 (L7 X (Le ns)).2.2.1) (Z98 vs) then 22 else 0,bif decide (16≤Ln Q) then 5 else 0]=Jcv X Q ns vs)=_).mp ?_
 delta Z31 Z52 Z59 Z61 Z97 Z98 Le Jyi Jj5 Jr Bd T2 Ln B0 E2
 intro hr h1 h2 h3
 have nX:X.length≤16:=hr.nX
 repeat' first|assumption|exact rfl|trivial|omega|apply And.intro|intro _
abbrev W70 [Sx.Dr]:=W69.add Kqn
def Jn6 (Q:List Per) (ns:List ByteArray):Int:=bif !(Jmj Q (ns.getD 0 Ja)).2.2 then 23 else 0
def Kdi:Con:={args:=[Jbf,aEv],ress:=[I],owns:=[],pre:=fun(r,e,_)=>[Jj r,1≤e.2.2.1.length,0≤U0 r.2.2.2.2.2.2 (e.2.2.1.getD 0 Ja)],spec:=fun((tk,st,S,O,M,X,Q),(n,k,ns,vs,tx),_)=>(Jn6 Q ns,())}
def Jsc (a:List Per) (b:Ls):=U0 a (Z93 b)
def J06 (a:List Per) (b:Ls):=0≤U0 a (L2 b)
theorem Kqk [Sx.Dr]:Ok Tryz.prog 169 Kdi:=okW W70 Tryz.f169 na fun xx=>by
 obtain⟨⟨(tk:Int),(st:Int),(S:List Sta),(O:List Ord),(M:List Met),(X:List Out),(Q:List Per)⟩,⟨(n:Int),(k:ByteArray),(ns:List ByteArray),(vs:List Int),(tx:ByteArray)⟩,_⟩:=xx
 refine(by kernel_rfl:(Jr tk st S O M X Q→Yz ns→J06 Q ns→T2 (Z91 ns) (Z45 Q∧0≤Jsc Q ns)∧(bif !(Jmj Q (Z93 ns)).2.2 then 23 else 0)=Jn6 Q ns)=_).mp ?_
 delta Z45 Z61 Z91 Z93 Yz L2 Jr Jsc J06 Bd T2 Ln B0
 intro hr h1 h3
 have nQ:Q.length≤16:=hr.nQ
 repeat' first|assumption|exact rfl|trivial|omega|apply And.intro|intro _
abbrev W71 [Sx.Dr]:=W70.add Kqk
def Lz (st:Int) (O:List Ord) (M:List Met) (X:List Out) (Q:List Per) (vs:List Int):Int:=bif (bif decide (vs.getD 1 0≤st) then true else decide (vs.getD 0 0<vs.getD 1 0)) then 14 else bif (bif decide ((0:Int)<(Kp M (vs.getD 1 0) O).length) then true else decide ((0:Int)<((L8 Q).filter fun p=>decide ((L7 X p.2.1).2.2.1.2≤vs.getD 1 0)).length)) then 32 else 0
def J5g:Con:={args:=[Jbf,aEv],ress:=[I],owns:=[],pre:=fun(r,e,_)=>[Jj r,2≤e.2.2.2.1.length],spec:=fun((tk,st,S,O,M,X,Q),(n,k,ns,vs,tx),_)=>(Lz st O M X Q vs,())}
def Khk (a:Li) (b:Int):=decide (Z89 a≤b)
def Kl0 (a:Li) (b:Int):=Tw (Khk a b=false→Z31 a)
def Kkj (a:Li) (b:Int):=bif Khk a b then true else decide (Z98 a<Z89 a)
theorem Kqi [Sx.Dr]:Ok Tryz.prog 171 J5g:=okW W71 Tryz.f171 na fun xx=>by
 obtain⟨⟨(tk:Int),(st:Int),(S:List Sta),(O:List Ord),(M:List Met),(X:List Out),(Q:List Per)⟩,⟨(n:Int),(k:ByteArray),(ns:List ByteArray),(vs:List Int),(tx:ByteArray)⟩,_⟩:=xx
 refine(by kernel_rfl:(Jr tk st S O M X Q→Z58 vs→Z94 vs∧Kl0 vs st∧Br (Kkj vs st) (14=Lz st O M X Q vs) ((Jr tk st S O M X Q∧List.length (L8 Q)≤1000000∧∀(x:Per),x∈L8 Q→Jr tk st S O M X Q∧0≤J7 X x.2.1)∧Jr tk st S O M X Q∧(bif bif decide (0<Ln (Kp M (Z89 vs) O)) then true else decide (0<Ln (List.filter (fun(x:Per)=>decide ((L7 X x.2.1).2.2.1.2≤Z89 vs)) (L8 Q))) then 32 else 0)=Lz st O M X Q vs))=_).mp ?_
 delta Z28 Z31 Z58 Z61 Z89 Z94 Z98 Jr Khk Kl0 Kkj Br Bd Tw Ln
 intro hr h1
 have nQ:Q.length≤16:=hr.nQ
 have:=Jdi (Q:=Q)
 refine⟨by omega,⟨fun _=>by omega,fun _=>by omega⟩,fun h=> ?_,fun h=>⟨⟨hr,by omega,fun x hx=>⟨hr,hr.per x (Jld hx)⟩⟩,hr, ?_⟩⟩
 ·unfold Lz;rw[h];rfl
 ·unfold Lz;rw[h];rfl
abbrev W72 [Sx.Dr]:=W71.add Kqi
abbrev Jx0 (pre:Reg→Ev→List Prop) (post:Reg→Ev→Reg):Xu:={T? :=some 105,s:=Jm9,args:=[aEv],ress:=[],pre:=fun r (e,_)=>pre r e,spec:=fun _ _=>(),post:=fun r (e,_)=>post r e}
def Fx (O:List Ord) (s:ByteArray) (v:Int):List Ord:=O.set (Kx O s).toNat ((Xz O s).1,(Xz O s).2.1,(Xz O s).2.2.1,(Xz O s).2.2.2.1,(Xz O s).2.2.2.2.1,(Xz O s).2.2.2.2.2.1,v)
def Jd6 (X:List Out) (s:ByteArray) (v:Int):List Out:=X.set (J7 X s).toNat ((L7 X s).1,(L7 X s).2.1,((L7 X s).2.2.1.1,v),(L7 X s).2.2.2)
def Fy (Q:List Per) (s:ByteArray):List Per:=Q.set (U0 Q s).toNat ((Jmj Q s).1,(Jmj Q s).2.1,false)
def Ja0:Reg→Ev→Reg:=fun(tk,st,S,O,M,X,Q) (n,k,ns,vs,tx)=>(tk,st,S++[(ns.getD 0 Ja,vs.getD 1 0,0)],O,M,X,Q)
def Jv8:Xu:=Jx0 (fun r e=>[Jj r,1≤e.2.2.1.length,2≤e.2.2.2.1.length]) Ja0
def Kl1 (a:List Sta) (b:Ls) (c:Li):=a++[(Z93 b,Z89 c,0)]
def Kk8 (a:Ls) (b:Li) (c:List Sta):=T2 (Z91 a) (T2 (Z28 b) ((List.length c+1)*32≤140737488355328))
theorem Koh [Sx.Dr] (tk st:Int) (S:List Sta) (O:List Ord) (M:List Met) (X:List Out) (Q:List Per) (n:Int) (k:ByteArray) (ns:List ByteArray) (vs:List Int) (tx:ByteArray):wpFO Tryz.prog W72.g (na ()) (fun _=>na ()) (Sx.look ([]:List (Nat×Func))) Tryz.f149 Jv8 105 (tk,st,S,O,M,X,Q) ((n,k,ns,vs,tx),()):=by
 refine(by kernel_rfl:(Jr tk st S O M X Q→Yz ns→Z58 vs→Kk8 ns vs S∧Sf true (Sf 105 ((tk,st,Kl1 S ns vs,O,M,X,Q)=Ja0 (Z61 tk st S O M X Q) (n,k,ns,vs,tx))))=_).mp ?_
 delta Z28 Z58 Z61 Z89 Z91 Z93 Yz Jr Kl1 Kk8 Bd T2 Sf Ln B0
 intro hr
 have nS:S.length≤6:=hr.nS
 have nO:O.length≤32:=hr.nO
 have nM:M.length≤10000:=hr.nM
 have nX:X.length≤16:=hr.nX
 have nQ:Q.length≤16:=hr.nQ
 intros
 repeat' first|assumption|exact rfl|trivial|omega|exact K2|exact Uz|exact Uo|exact Uy|apply And.intro|intro _
theorem Kq4 [Sx.Dr]:Ok Tryz.prog 149 (Xu.con Jv8):=X0 (Ub mixed W72.ok (by kernel_rfl) (by kernel_rfl) (U5 (l:=([]:List (Nat×Func))) (by simp)) (fun xx yy=>na ()) (fun xx yy=>fun _=>na ()) fun T xx yy hT=>by obtain rfl:=hT _ rfl;exact Koh xx.1 xx.2.1 xx.2.2.1 xx.2.2.2.1 xx.2.2.2.2.1 xx.2.2.2.2.2.1 xx.2.2.2.2.2.2 yy.1.1 yy.1.2.1 yy.1.2.2.1 yy.1.2.2.2.1 yy.1.2.2.2.2)
abbrev W73 [Sx.Dr]:=W72.add Kq4
def Fl:Reg→Ev→Reg:=fun(tk,st,S,O,M,X,Q) (n,k,ns,vs,tx)=>(tk,st,S.set (Jx S (ns.getD 0 Ja)).toNat ((Hq S (ns.getD 0 Ja)).1,(Hq S (ns.getD 0 Ja)).2.1,vs.getD 1 0),O,M,X,Q)
def Jv5:Xu:=Jx0 (fun r e=>[Jj r,1≤e.2.2.1.length,2≤e.2.2.2.1.length,0≤Jx r.2.2.1 (e.2.2.1.getD 0 Ja)]) Fl
def J3b (a:List Sta) (b:Ls):=Jx a (Z93 b)
def K17 (a:List Sta) (b:Ls):=Gt a (J3b a b) Z11
theorem Kog [Sx.Dr] (tk st:Int) (S:List Sta) (O:List Ord) (M:List Met) (X:List Out) (Q:List Per) (n:Int) (k:ByteArray) (ns:List ByteArray) (vs:List Int) (tx:ByteArray):wpFO Tryz.prog W73.g (na ()) (fun _=>na ()) (Sx.look ([]:List (Nat×Func))) Tryz.f153 Jv5 105 (tk,st,S,O,M,X,Q) ((n,k,ns,vs,tx),()):=by
 refine(by kernel_rfl:(Jr tk st S O M X Q→Yz ns→Z58 vs→0≤Jx S (L2 ns)→T2 (Z91 ns) (Z46 S∧T2 (Z28 vs) (Tw (Bd (J3b S ns) (Ln S))))∧Sf true (Sf 105 ((tk,st,List.set S (Int.toNat (J3b S ns)) ((K17 S ns).1,(K17 S ns).2.1,Z89 vs),O,M,X,Q)=Fl (Z61 tk st S O M X Q) (n,k,ns,vs,tx))))=_).mp ?_
 delta Z11 Z28 Z46 Z58 Z61 Z89 Z91 Z93 Yz L2 Jr J3b K17 Bd T2 Tw Sf Ln Gt B0
 intro hr
 have nS:S.length≤6:=hr.nS
 have nO:O.length≤32:=hr.nO
 have nM:M.length≤10000:=hr.nM
 have nX:X.length≤16:=hr.nX
 have nQ:Q.length≤16:=hr.nQ
 intros
 repeat' first|assumption|exact rfl|trivial|omega|exact K2|exact Uz|exact Uo|exact Uy|apply And.intro|intro _
theorem Kq0 [Sx.Dr]:Ok Tryz.prog 153 (Xu.con Jv5):=X0 (Ub mixed W73.ok (by kernel_rfl) (by kernel_rfl) (U5 (l:=([]:List (Nat×Func))) (by simp)) (fun xx yy=>na ()) (fun xx yy=>fun _=>na ()) fun T xx yy hT=>by obtain rfl:=hT _ rfl;exact Kog xx.1 xx.2.1 xx.2.2.1 xx.2.2.2.1 xx.2.2.2.2.1 xx.2.2.2.2.2.1 xx.2.2.2.2.2.2 yy.1.1 yy.1.2.1 yy.1.2.2.1 yy.1.2.2.2.1 yy.1.2.2.2.2)
abbrev W74 [Sx.Dr]:=W73.add Kq0
def Fp:Reg→Ev→Reg:=fun(tk,st,S,O,M,X,Q) (n,k,ns,vs,tx)=>(tk,st,S,O++[(ns.getD 0 Ja,ns.getD 1 Ja,ns.getD 2 Ja,Vs (n,k,ns,vs,tx),vs.getD 3 0,(Hq S (ns.getD 1 Ja)).2.2,-1)],M,X,Q)
def Jwa:Xu:=Jx0 (fun r e=>[Jj r,e.2.2.1.length=3,e.2.2.2.1.length=4,0≤Jx r.2.2.1 (e.2.2.1.getD 1 Ja)]) Fp
theorem Kof [Sx.Dr] (tk st:Int) (S:List Sta) (O:List Ord) (M:List Met) (X:List Out) (Q:List Per) (n:Int) (k:ByteArray) (ns:List ByteArray) (vs:List Int) (tx:ByteArray):wpFO Tryz.prog W74.g (na ()) (fun _=>na ()) (Sx.look ([]:List (Nat×Func))) Tryz.f155 Jwa 105 (tk,st,S,O,M,X,Q) ((n,k,ns,vs,tx),()):=by
 refine(by kernel_rfl:(Jr tk st S O M X Q→Js2 ns→Z49 vs→Ka0 S ns→T2 (Z91 ns) (T2 (Z97 ns) (T2 (Z92 ns) (Z48 vs∧T2 (Z26 vs) (T2 (Z97 ns) (Z46 S∧J25 S ns∧(List.length O+1)*88≤140737488355328)))))∧Sf true (Sf 105 ((tk,st,S,O++[(Z93 ns,Le ns,Jom ns,E2 (Z44 n k ns vs tx),Z85 vs,(Hq S (Le ns)).2.2,Z67)],M,X,Q)=Fp (Z61 tk st S O M X Q) (n,k,ns,vs,tx))))=_).mp ?_
 delta Z26 Z44 Z46 Z48 Z49 Z61 Z67 Z85 Z91 Z92 Z93 Z97 Jom Le Jj5 Js2 Jr Jye J25 Ka0 Bd T2 Sf Ln B0 E2
 intro hr
 have nS:S.length≤6:=hr.nS
 have nO:O.length≤32:=hr.nO
 have nM:M.length≤10000:=hr.nM
 have nX:X.length≤16:=hr.nX
 have nQ:Q.length≤16:=hr.nQ
 intros
 repeat' first|assumption|exact rfl|trivial|omega|exact K2|exact Uz|exact Uo|exact Uy|apply And.intro|intro _
theorem Kqy [Sx.Dr]:Ok Tryz.prog 155 (Xu.con Jwa):=X0 (Ub mixed W74.ok (by kernel_rfl) (by kernel_rfl) (U5 (l:=([]:List (Nat×Func))) (by simp)) (fun xx yy=>na ()) (fun xx yy=>fun _=>na ()) fun T xx yy hT=>by obtain rfl:=hT _ rfl;exact Kof xx.1 xx.2.1 xx.2.2.1 xx.2.2.2.1 xx.2.2.2.2.1 xx.2.2.2.2.2.1 xx.2.2.2.2.2.2 yy.1.1 yy.1.2.1 yy.1.2.2.1 yy.1.2.2.2.1 yy.1.2.2.2.2)
abbrev W75 [Sx.Dr]:=W74.add Kqy
def Fq:Reg→Ev→Reg:=fun(tk,st,S,O,M,X,Q) (n,k,ns,vs,tx)=>(tk,st,S,O,M++[(ns.getD 0 Ja,vs.getD 1 0,vs.getD 2 0,vs.getD 3 0)],X,Q)
def Jwb:Xu:=Jx0 (fun r e=>[Jj r,1≤e.2.2.1.length,4≤e.2.2.2.1.length]) Fq
def Klt (a:Li):=(Z89 a,Z87 a,Z85 a)
def Kj4 (a:Li) (b:List Met):=T2 (Z28 a) (T2 (Z25 a) (T2 (Z26 a) ((List.length b+1)*40≤140737488355328)))
theorem Koe [Sx.Dr] (tk st:Int) (S:List Sta) (O:List Ord) (M:List Met) (X:List Out) (Q:List Per) (n:Int) (k:ByteArray) (ns:List ByteArray) (vs:List Int) (tx:ByteArray):wpFO Tryz.prog W75.g (na ()) (fun _=>na ()) (Sx.look ([]:List (Nat×Func))) Tryz.f158 Jwb 105 (tk,st,S,O,M,X,Q) ((n,k,ns,vs,tx),()):=by
 refine(by kernel_rfl:(Jr tk st S O M X Q→Yz ns→Z55 vs→T2 (Z91 ns) (Kj4 vs M)∧Sf true (Sf 105 ((tk,st,S,O,M++[(Z93 ns,Klt vs)],X,Q)=Fq (Z61 tk st S O M X Q) (n,k,ns,vs,tx))))=_).mp ?_
 delta Z25 Z26 Z28 Z55 Z61 Z85 Z87 Z89 Z91 Z93 Yz Jr Klt Kj4 Bd T2 Sf Ln B0
 intro hr
 have nS:S.length≤6:=hr.nS
 have nO:O.length≤32:=hr.nO
 have nM:M.length≤10000:=hr.nM
 have nX:X.length≤16:=hr.nX
 have nQ:Q.length≤16:=hr.nQ
 intros
 repeat' first|assumption|exact rfl|trivial|omega|exact K2|exact Uz|exact Uo|exact Uy|apply And.intro|intro _
theorem Kqv [Sx.Dr]:Ok Tryz.prog 158 (Xu.con Jwb):=X0 (Ub mixed W75.ok (by kernel_rfl) (by kernel_rfl) (U5 (l:=([]:List (Nat×Func))) (by simp)) (fun xx yy=>na ()) (fun xx yy=>fun _=>na ()) fun T xx yy hT=>by obtain rfl:=hT _ rfl;exact Koe xx.1 xx.2.1 xx.2.2.1 xx.2.2.2.1 xx.2.2.2.2.1 xx.2.2.2.2.2.1 xx.2.2.2.2.2.2 yy.1.1 yy.1.2.1 yy.1.2.2.1 yy.1.2.2.2.1 yy.1.2.2.2.2)
abbrev W76 [Sx.Dr]:=W75.add Kqv
def Fk:Reg→Ev→Reg:=fun(tk,st,S,O,M,X,Q) (n,k,ns,vs,tx)=>(tk,st,S,Fx O (ns.getD 0 Ja) (vs.getD 0 0),M,X,Q)
def Jv3:Xu:=Jx0 (fun r e=>[Jj r,1≤e.2.2.1.length,1≤e.2.2.2.1.length,0≤Kx r.2.2.2.1 (e.2.2.1.getD 0 Ja)]) Fk
def Ky2 (a:List Ord) (b:Ls):=Gt a (Jqq a b) Jdv
def Kyv (a:List Ord) (b:Ls):=(Ky2 a b).2
def Kyu (a:List Ord) (b:Ls):=(Kyv a b).2
def Kyq (a:List Ord) (b:Ls):=(Kyu a b).2
def Kyl (a:List Ord) (b:Ls):=(Kyq a b).2
theorem Kod [Sx.Dr] (tk st:Int) (S:List Sta) (O:List Ord) (M:List Met) (X:List Out) (Q:List Per) (n:Int) (k:ByteArray) (ns:List ByteArray) (vs:List Int) (tx:ByteArray):wpFO Tryz.prog W76.g (na ()) (fun _=>na ()) (Sx.look ([]:List (Nat×Func))) Tryz.f160 Jv3 105 (tk,st,S,O,M,X,Q) ((n,k,ns,vs,tx),()):=by
 refine(by kernel_rfl:(Jr tk st S O M X Q→Yz ns→Z52 vs→Jsy O ns→T2 (Z91 ns) (Z47 O∧T2 (Z31 vs) (Tw (Bd (Jqq O ns) (Ln O))))∧Sf true (Sf 105 ((tk,st,S,List.set O (Int.toNat (Jqq O ns)) ((Ky2 O ns).1,(Kyv O ns).1,(Kyu O ns).1,E2 (Kyq O ns).1,(Kyl O ns).1,(Kyl O ns).2.1,Z98 vs),M,X,Q)=Fk (Z61 tk st S O M X Q) (n,k,ns,vs,tx))))=_).mp ?_
 delta Z31 Z47 Z52 Z61 Z66 Z91 Z93 Z98 Yz L2 Jr Jqq Jsy Jdv Ky2 Kyv Kyu Kyq Kyl Bd T2 Tw Sf Ln Gt B0 E2
 intro hr
 have nS:S.length≤6:=hr.nS
 have nO:O.length≤32:=hr.nO
 have nM:M.length≤10000:=hr.nM
 have nX:X.length≤16:=hr.nX
 have nQ:Q.length≤16:=hr.nQ
 intros
 repeat' first|assumption|exact rfl|trivial|omega|exact K2|exact Uz|exact Uo|exact Uy|apply And.intro|intro _
theorem Kqt [Sx.Dr]:Ok Tryz.prog 160 (Xu.con Jv3):=X0 (Ub mixed W76.ok (by kernel_rfl) (by kernel_rfl) (U5 (l:=([]:List (Nat×Func))) (by simp)) (fun xx yy=>na ()) (fun xx yy=>fun _=>na ()) fun T xx yy hT=>by obtain rfl:=hT _ rfl;exact Kod xx.1 xx.2.1 xx.2.2.1 xx.2.2.2.1 xx.2.2.2.2.1 xx.2.2.2.2.2.1 xx.2.2.2.2.2.2 yy.1.1 yy.1.2.1 yy.1.2.2.1 yy.1.2.2.2.1 yy.1.2.2.2.2)
abbrev W77 [Sx.Dr]:=W76.add Kqt
def Fn:Reg→Ev→Reg:=fun(tk,st,S,O,M,X,Q) (n,k,ns,vs,tx)=>(tk,st,S,O,M,X++[(ns.getD 0 Ja,ns.getD 1 Ja,Vs (n,k,ns,vs,tx),vs.getD 3 0)],Q)
def Jv7:Xu:=Jx0 (fun r e=>[Jj r,e.2.2.1.length=2,e.2.2.2.1.length=4]) Fn
def Kmm (a:Li) (b:List Out):=T2 (Z26 a) ((List.length b+1)*56≤140737488355328)
theorem Koc [Sx.Dr] (tk st:Int) (S:List Sta) (O:List Ord) (M:List Met) (X:List Out) (Q:List Per) (n:Int) (k:ByteArray) (ns:List ByteArray) (vs:List Int) (tx:ByteArray):wpFO Tryz.prog W77.g (na ()) (fun _=>na ()) (Sx.look ([]:List (Nat×Func))) Tryz.f162 Jv7 105 (tk,st,S,O,M,X,Q) ((n,k,ns,vs,tx),()):=by
 refine(by kernel_rfl:(Jr tk st S O M X Q→Jqs ns→Z49 vs→T2 (Z91 ns) (T2 (Z97 ns) (Z48 vs∧Kmm vs X))∧Sf true (Sf 105 ((tk,st,S,O,M,X++[(Z93 ns,Le ns,E2 (Z44 n k ns vs tx),Z85 vs)],Q)=Fn (Z61 tk st S O M X Q) (n,k,ns,vs,tx))))=_).mp ?_
 delta Z26 Z44 Z48 Z49 Z61 Z85 Z91 Z93 Z97 Le Jqs Jr Kmm Bd T2 Sf Ln B0 E2
 intro hr
 have nS:S.length≤6:=hr.nS
 have nO:O.length≤32:=hr.nO
 have nM:M.length≤10000:=hr.nM
 have nX:X.length≤16:=hr.nX
 have nQ:Q.length≤16:=hr.nQ
 intros
 repeat' first|assumption|exact rfl|trivial|omega|exact K2|exact Uz|exact Uo|exact Uy|apply And.intro|intro _
theorem Kqr [Sx.Dr]:Ok Tryz.prog 162 (Xu.con Jv7):=X0 (Ub mixed W77.ok (by kernel_rfl) (by kernel_rfl) (U5 (l:=([]:List (Nat×Func))) (by simp)) (fun xx yy=>na ()) (fun xx yy=>fun _=>na ()) fun T xx yy hT=>by obtain rfl:=hT _ rfl;exact Koc xx.1 xx.2.1 xx.2.2.1 xx.2.2.2.1 xx.2.2.2.2.1 xx.2.2.2.2.2.1 xx.2.2.2.2.2.2 yy.1.1 yy.1.2.1 yy.1.2.2.1 yy.1.2.2.2.1 yy.1.2.2.2.2)
abbrev W78 [Sx.Dr]:=W77.add Kqr
def Fm:Reg→Ev→Reg:=fun(tk,st,S,O,M,X,Q) (n,k,ns,vs,tx)=>(tk,st,S,O,M,Jd6 X (ns.getD 0 Ja) (vs.getD 0 0),Q)
def Jv6:Xu:=Jx0 (fun r e=>[Jj r,1≤e.2.2.1.length,1≤e.2.2.2.1.length,0≤J7 r.2.2.2.2.2.1 (e.2.2.1.getD 0 Ja)]) Fm
def K1g (a:List Out) (b:Ls):=Gt a (Js0 a b) Jgb
def K1d (a:List Out) (b:Ls):=(K1g a b).2
def K1a (a:List Out) (b:Ls):=(K1d a b).2
theorem Kob [Sx.Dr] (tk st:Int) (S:List Sta) (O:List Ord) (M:List Met) (X:List Out) (Q:List Per) (n:Int) (k:ByteArray) (ns:List ByteArray) (vs:List Int) (tx:ByteArray):wpFO Tryz.prog W78.g (na ()) (fun _=>na ()) (Sx.look ([]:List (Nat×Func))) Tryz.f165 Jv6 105 (tk,st,S,O,M,X,Q) ((n,k,ns,vs,tx),()):=by
 refine(by kernel_rfl:(Jr tk st S O M X Q→Yz ns→Z52 vs→J07 X ns→T2 (Z91 ns) (Z59 X∧T2 (Z31 vs) (Tw (Bd (Js0 X ns) (Ln X))))∧Sf true (Sf 105 ((tk,st,S,O,M,List.set X (Int.toNat (Js0 X ns)) ((K1g X ns).1,(K1d X ns).1,((K1a X ns).1.1,Z98 vs),(K1a X ns).2),Q)=Fm (Z61 tk st S O M X Q) (n,k,ns,vs,tx))))=_).mp ?_
 delta Z31 Z52 Z59 Z61 Z91 Z93 Z98 Yz L2 Jr Jgb Js0 J07 K1g K1d K1a Bd T2 Tw Sf Ln Gt B0
 intro hr
 have nS:S.length≤6:=hr.nS
 have nO:O.length≤32:=hr.nO
 have nM:M.length≤10000:=hr.nM
 have nX:X.length≤16:=hr.nX
 have nQ:Q.length≤16:=hr.nQ
 intros
 repeat' first|assumption|exact rfl|trivial|omega|exact K2|exact Uz|exact Uo|exact Uy|apply And.intro|intro _
theorem Kqo [Sx.Dr]:Ok Tryz.prog 165 (Xu.con Jv6):=X0 (Ub mixed W78.ok (by kernel_rfl) (by kernel_rfl) (U5 (l:=([]:List (Nat×Func))) (by simp)) (fun xx yy=>na ()) (fun xx yy=>fun _=>na ()) fun T xx yy hT=>by obtain rfl:=hT _ rfl;exact Kob xx.1 xx.2.1 xx.2.2.1 xx.2.2.2.1 xx.2.2.2.2.1 xx.2.2.2.2.2.1 xx.2.2.2.2.2.2 yy.1.1 yy.1.2.1 yy.1.2.2.1 yy.1.2.2.2.1 yy.1.2.2.2.2)
abbrev W79 [Sx.Dr]:=W78.add Kqo
def Fo:Reg→Ev→Reg:=fun(tk,st,S,O,M,X,Q) (n,k,ns,vs,tx)=>(tk,st,S,O,M,X,Q++[(ns.getD 0 Ja,ns.getD 1 Ja,true)])
def Jv9:Xu:=Jx0 (fun r e=>[Jj r,2≤e.2.2.1.length]) Fo
def Klw (a:List Out) (b:List Per) (c:Ls):=(a,b++[(Z93 c,Le c,true)])
def Kkx (a:Ls) (b:List Per):=T2 (Z91 a) (T2 (Z97 a) ((List.length b+1)*40≤140737488355328))
theorem Koa [Sx.Dr] (tk st:Int) (S:List Sta) (O:List Ord) (M:List Met) (X:List Out) (Q:List Per) (n:Int) (k:ByteArray) (ns:List ByteArray) (vs:List Int) (tx:ByteArray):wpFO Tryz.prog W79.g (na ()) (fun _=>na ()) (Sx.look ([]:List (Nat×Func))) Tryz.f167 Jv9 105 (tk,st,S,O,M,X,Q) ((n,k,ns,vs,tx),()):=by
 refine(by kernel_rfl:(Jr tk st S O M X Q→Jyi ns→Kkx ns Q∧Sf true (Sf 105 ((tk,st,S,O,M,Klw X Q ns)=Fo (Z61 tk st S O M X Q) (n,k,ns,vs,tx))))=_).mp ?_
 delta Z61 Z91 Z93 Z97 Le Jyi Jr Klw Kkx Bd T2 Sf Ln B0
 intro hr
 have nS:S.length≤6:=hr.nS
 have nO:O.length≤32:=hr.nO
 have nM:M.length≤10000:=hr.nM
 have nX:X.length≤16:=hr.nX
 have nQ:Q.length≤16:=hr.nQ
 intros
 repeat' first|assumption|exact rfl|trivial|omega|exact K2|exact Uz|exact Uo|exact Uy|apply And.intro|intro _
theorem Kqm [Sx.Dr]:Ok Tryz.prog 167 (Xu.con Jv9):=X0 (Ub mixed W79.ok (by kernel_rfl) (by kernel_rfl) (U5 (l:=([]:List (Nat×Func))) (by simp)) (fun xx yy=>na ()) (fun xx yy=>fun _=>na ()) fun T xx yy hT=>by obtain rfl:=hT _ rfl;exact Koa xx.1 xx.2.1 xx.2.2.1 xx.2.2.2.1 xx.2.2.2.2.1 xx.2.2.2.2.2.1 xx.2.2.2.2.2.2 yy.1.1 yy.1.2.1 yy.1.2.2.1 yy.1.2.2.2.1 yy.1.2.2.2.2)
abbrev W80 [Sx.Dr]:=W79.add Kqm
def Jgo:Reg→Ev→Reg:=fun(tk,st,S,O,M,X,Q) (n,k,ns,vs,tx)=>(tk,st,S,O,M,X,Fy Q (ns.getD 0 Ja))
def J2s:Xu:=Jx0 (fun r e=>[Jj r,1≤e.2.2.1.length,0≤U0 r.2.2.2.2.2.2 (e.2.2.1.getD 0 Ja)]) Jgo
theorem Kn9 [Sx.Dr] (tk st:Int) (S:List Sta) (O:List Ord) (M:List Met) (X:List Out) (Q:List Per) (n:Int) (k:ByteArray) (ns:List ByteArray) (vs:List Int) (tx:ByteArray):wpFO Tryz.prog W80.g (na ()) (fun _=>na ()) (Sx.look ([]:List (Nat×Func))) Tryz.f170 J2s 105 (tk,st,S,O,M,X,Q) ((n,k,ns,vs,tx),()):=by
 refine(by kernel_rfl:(Jr tk st S O M X Q→Yz ns→J06 Q ns→T2 (Z91 ns) (Z45 Q∧Tw (Bd (Jsc Q ns) (Ln Q)))∧Sf true (Sf 105 ((tk,st,S,O,M,X,List.set Q (Int.toNat (Jsc Q ns)) ((Gt Q (Jsc Q ns) (B0,B0,false)).1,(Gt Q (Jsc Q ns) (B0,B0,false)).2.1,false))=Jgo (Z61 tk st S O M X Q) (n,k,ns,vs,tx))))=_).mp ?_
 delta Z45 Z61 Z91 Z93 Yz L2 Jr Jsc J06 Bd T2 Tw Sf Ln Gt B0
 intro hr
 have nS:S.length≤6:=hr.nS
 have nO:O.length≤32:=hr.nO
 have nM:M.length≤10000:=hr.nM
 have nX:X.length≤16:=hr.nX
 have nQ:Q.length≤16:=hr.nQ
 intros
 repeat' first|assumption|exact rfl|trivial|omega|exact K2|exact Uz|exact Uo|exact Uy|apply And.intro|intro _
theorem Kqj [Sx.Dr]:Ok Tryz.prog 170 (Xu.con J2s):=X0 (Ub mixed W80.ok (by kernel_rfl) (by kernel_rfl) (U5 (l:=([]:List (Nat×Func))) (by simp)) (fun xx yy=>na ()) (fun xx yy=>fun _=>na ()) fun T xx yy hT=>by obtain rfl:=hT _ rfl;exact Kn9 xx.1 xx.2.1 xx.2.2.1 xx.2.2.2.1 xx.2.2.2.2.1 xx.2.2.2.2.2.1 xx.2.2.2.2.2.2 yy.1.1 yy.1.2.1 yy.1.2.2.1 yy.1.2.2.2.1 yy.1.2.2.2.2)
abbrev W81 [Sx.Dr]:=W80.add Kqj
def Jaz:Reg→Ev→Reg:=fun(tk,st,S,O,M,X,Q) (n,k,ns,vs,tx)=>(tk,vs.getD 1 0,S,O,M,X,Q)
def Jv4:Xu:=Jx0 (fun r e=>[Jj r,2≤e.2.2.2.1.length]) Jaz
theorem Kn8 [Sx.Dr] (tk st:Int) (S:List Sta) (O:List Ord) (M:List Met) (X:List Out) (Q:List Per) (n:Int) (k:ByteArray) (ns:List ByteArray) (vs:List Int) (tx:ByteArray):wpFO Tryz.prog W81.g (na ()) (fun _=>na ()) (Sx.look ([]:List (Nat×Func))) Tryz.f172 Jv4 105 (tk,st,S,O,M,X,Q) ((n,k,ns,vs,tx),()):=by
 refine(by kernel_rfl:(Jr tk st S O M X Q→Z58 vs→Z94 vs∧Sf true (Sf 105 ((tk,Z89 vs,S,O,M,X,Q)=Jaz (Z61 tk st S O M X Q) (n,k,ns,vs,tx))))=_).mp ?_
 delta Z28 Z58 Z61 Z89 Z94 Jr Bd Tw Sf Ln
 intro hr
 have nS:S.length≤6:=hr.nS
 have nO:O.length≤32:=hr.nO
 have nM:M.length≤10000:=hr.nM
 have nX:X.length≤16:=hr.nX
 have nQ:Q.length≤16:=hr.nQ
 intros
 repeat' first|assumption|exact rfl|trivial|omega|exact K2|exact Uz|exact Uo|exact Uy|apply And.intro|intro _
theorem Kqh [Sx.Dr]:Ok Tryz.prog 172 (Xu.con Jv4):=X0 (Ub mixed W81.ok (by kernel_rfl) (by kernel_rfl) (U5 (l:=([]:List (Nat×Func))) (by simp)) (fun xx yy=>na ()) (fun xx yy=>fun _=>na ()) fun T xx yy hT=>by obtain rfl:=hT _ rfl;exact Kn8 xx.1 xx.2.1 xx.2.2.1 xx.2.2.2.1 xx.2.2.2.2.1 xx.2.2.2.2.2.1 xx.2.2.2.2.2.2 yy.1.1 yy.1.2.1 yy.1.2.2.1 yy.1.2.2.2.1 yy.1.2.2.2.2)
abbrev W82 [Sx.Dr]:=W81.add Kqh
end Go.Proofs.YtcibbcfiemeoiaaGreatDoor
namespace Go.Proofs.YtcibbcfiemeoiaaGreatDoor
instance drOff:Sx.Dr:=Sx.Dr.off
open Go.Sx
def Jcw (T:TypeId) (s:Sch):Con:={args:=[.val false (.list T s)],ress:=[(false, .list T s)],owns:=[true],pre:=fun(l,_)=>[l.length≤1000000],spec:=fun(l,_)=>(l,())}
theorem Jk5 {M:Nat→Prop} {w:World}:∀{xs:List Int} {flat:List Value},V3 (Rep M w (.int .i64)) xs flat→flat=xs.map (Value.int .i64)
 |[],_,h=>h
 |x::xs,_,⟨c1,c2,rfl,h1,h2⟩=>by
  have h1:c1=[.int .i64 x]:=h1
  rw[h1,Jk5 h2];rfl
theorem Jo9 {M:Nat→Prop} {w:World}:∀(xs:List Int),V3 (Rep M w (.int .i64)) xs (xs.map (Value.int .i64))
 |[]=>rfl
 |x::xs=>⟨[.int .i64 x],xs.map (Value.int .i64),rfl,rfl,Jo9 xs⟩
theorem Jeb {M:Nat→Prop} {w:World}:∀{xs:List ByteArray} {flat:List Value},V3 (Rep M w .str) xs flat→flat=xs.map Value.string
 |[],_,h=>h
 |x::xs,_,⟨c1,c2,rfl,h1,h2⟩=>by
  have h1:c1=[.string x]:=h1
  rw[h1,Jeb h2];rfl
theorem Jo8 {M:Nat→Prop} {w:World}:∀(xs:List ByteArray),V3 (Rep M w .str) xs (xs.map Value.string)
 |[]=>rfl
 |x::xs=>⟨[.string x],xs.map Value.string,rfl,rfl,Jo8 xs⟩
theorem Kqf:Ok Tryz.prog 174 (Jcw 3 sI):=by
 refine⟨⟨Tryz.f174,by kernel_rfl,by kernel_rfl,by kernel_rfl⟩,fun z hz=>(by cases hz),fun F hF=>(by cases hF),fun _ x M R w vs hM hg hpre hargs=> ?_⟩
 obtain⟨l,u⟩:=x
 obtain⟨v1,vs1,rfl,⟨cs,rfl,hr⟩,hn⟩:=hargs
 have hn:vs1=[]:=hn
 subst hn
 obtain⟨v,flat,rfl,h1,h2⟩:=hr
 have hfl:=Jk5 h1
 have hl:l.length≤1000000:=hpre
 have fin:∀(v':Value) (w':World),w'.ownsRow w.heap.size 3 1 v' l.length (l.map (Value.int .i64))→RowKit.Below w.heap.size w w'→Joo M w (Jcw 3 sI).ress (Jcw 3 sI).owns ((Jcw 3 sI).spec (l,u)) (.returned v') w':=by
  intro v' w' ho hb
  refine⟨M,[v'],rfl, .ofK hb,fun _ h=>h,fun b h=> .inl h,_,[],rfl,⟨l.map (Value.int .i64),Jo9 l,ho,fun g hg' hMg=> ?_⟩,rfl⟩
  rcases ho.2 with⟨rfl,_⟩|⟨g',cap,cur,rfl,hbg,_⟩
  ·cases hg'
  ·have:g'=g:=Option.some.inj hg'
   have:=hM g (.inl hMg)
   omega
 rcases h2 with⟨rfl|⟨ad,cap,rfl⟩,h0⟩|⟨b,off,cap,rfl,hcap,hk,hm⟩
 ·have:l=[]:=List.eq_nil_of_length_eq_zero h0
  subst this
  refine(Tryz.clone174_nil 0 0 w).mono ?_
  rintro e w' ⟨rfl,rfl⟩
  exact fin _ _ ⟨rfl, .inl ⟨rfl,rfl⟩⟩ (RowKit.Below.refl _ _)
 ·have:l=[]:=List.eq_nil_of_length_eq_zero h0
  subst this
  refine(Tryz.clone174_zero ad cap w).mono ?_
  rintro e w' ⟨v',rfl,ho,_,hb⟩
  exact fin _ _ ho hb
 ·refine(Tryz.clone174 b off l.length cap l w (Nat.le_refl _) (by omega) (fun j hj=>hk j _ (by rw[hfl,List.getElem?_map,List.getElem?_eq_getElem hj];simp[List.getD_eq_getElem?_getD,List.getElem?_eq_getElem hj]))).mono ?_
  rintro e w' ⟨v',rfl,ho,_,hb⟩
  rw[List.take_of_length_le (Nat.le_refl _)] at ho
  exact fin _ _ ho hb
abbrev W83:=W82.add Kqf
theorem Kqg:Ok Tryz.prog 173 (Jcw 9 .str):=by
 refine⟨⟨Tryz.f173,by kernel_rfl,by kernel_rfl,by kernel_rfl⟩,fun z hz=>(by cases hz),fun F hF=>(by cases hF),fun _ x M R w vs hM hg hpre hargs=> ?_⟩
 obtain⟨l,u⟩:=x
 obtain⟨v1,vs1,rfl,⟨cs,rfl,hr⟩,hn⟩:=hargs
 have hn:vs1=[]:=hn
 subst hn
 obtain⟨v,flat,rfl,h1,h2⟩:=hr
 have hfl:=Jeb h1
 have hl:l.length≤1000000:=hpre
 have fin:∀(v':Value) (w':World),w'.ownsRow w.heap.size 9 1 v' l.length (l.map Value.string)→RowKit.Below w.heap.size w w'→Joo M w (Jcw 9 .str).ress (Jcw 9 .str).owns ((Jcw 9 .str).spec (l,u)) (.returned v') w':=by
  intro v' w' ho hb
  refine⟨M,[v'],rfl, .ofK hb,fun _ h=>h,fun b h=> .inl h,_,[],rfl,⟨l.map Value.string,Jo8 l,ho,fun g hg' hMg=> ?_⟩,rfl⟩
  rcases ho.2 with⟨rfl,_⟩|⟨g',cap,cur,rfl,hbg,_⟩
  ·cases hg'
  ·have:g'=g:=Option.some.inj hg'
   have:=hM g (.inl hMg)
   omega
 rcases h2 with⟨rfl|⟨ad,cap,rfl⟩,h0⟩|⟨b,off,cap,rfl,hcap,hk,hm⟩
 ·have:l=[]:=List.eq_nil_of_length_eq_zero h0
  subst this
  refine(Tryz.clone173_nil 0 0 w).mono ?_
  rintro e w' ⟨rfl,rfl⟩
  exact fin _ _ ⟨rfl, .inl ⟨rfl,rfl⟩⟩ (RowKit.Below.refl _ _)
 ·have:l=[]:=List.eq_nil_of_length_eq_zero h0
  subst this
  refine(Tryz.clone173_zero ad cap w).mono ?_
  rintro e w' ⟨v',rfl,ho,_,hb⟩
  exact fin _ _ ho hb
 ·refine(Tryz.clone173 b off l.length cap l w (Nat.le_refl _) (by omega) (fun j hj=>hk j _ (by rw[hfl,List.getElem?_map,List.getElem?_eq_getElem hj];simp[List.getD_eq_getElem?_getD,List.getElem?_eq_getElem hj]))).mono ?_
  rintro e w' ⟨v',rfl,ho,_,hb⟩
  rw[List.take_of_length_le (Nat.le_refl _)] at ho
  exact fin _ _ ho hb
abbrev W84:=W83.add Kqg
def J2p:Con:={args:=[aEv],ress:=[(true,sEv)],owns:=[],pre:=fun(e,_)=>[e.2.2.1.length≤1000000,e.2.2.2.1.length≤1000000],spec:=fun(e,_)=>(e,())}
def Jc0 (a:Ls) (b:Li):=Jbc a∧Z54 b
theorem K2u:Ok Tryz.prog 81 J2p:=okW W84 Tryz.f81 na fun xx=>by
 obtain⟨⟨(n:Int),(k:ByteArray),(ns:List ByteArray),(vs:List Int),(tx:ByteArray)⟩,_⟩:=xx
 refine(by kernel_rfl:(Jbc ns→Z54 vs→Jc0 ns vs∧(n,k,ns,vs,tx)=(n,k,ns,vs,tx))=_).mp ?_
 delta Z54 Jbc Jc0
 exact fun h1 h2=>⟨⟨h1,h2⟩,rfl⟩
abbrev W85:=W84.add K2u
def Jgr (T:TypeId) (s:Sch):Con:={args:=[.val false (.list T s)],ress:=[(false, .list T s)],owns:=[true],pre:=fun(l,_)=>[l.length≤1000000],spec:=fun(l,_)=>(l,())}
theorem Kb3:Ok Tryz.prog 216 (Jgr 127 L5):=okW W85 Tryz.f216 na fun xx=>by
 obtain⟨(l:List Sta),_⟩:=xx
 refine(by kernel_rfl:(Z46 l→((0≤Ln l∧Ln l≤1000000)∧Ln l≤Ln l∧Ln l≤1000000)∧List.length l=List.length (List.replicate (List.length l) Z11)∧l=l)=_).mp ?_
 delta Z11 Z46 Ln B0
 intro h
 exact⟨⟨⟨by omega,by omega⟩,by omega,by omega⟩,by simp,rfl⟩
abbrev W86:=W85.add Kb3
theorem Kb2:Ok Tryz.prog 217 (Jgr 130 Zx):=okW W86 Tryz.f217 na fun xx=>by
 obtain⟨(l:List Ord),_⟩:=xx
 refine(by kernel_rfl:(Z47 l→((0≤Ln l∧Ln l≤1000000)∧Ln l≤Ln l∧Ln l≤1000000)∧List.length l=List.length (List.replicate (List.length l) Jdv)∧l=l)=_).mp ?_
 delta Z47 Z66 Jdv Ln B0
 intro h
 exact⟨⟨⟨by omega,by omega⟩,by omega,by omega⟩,by simp,rfl⟩
abbrev W87:=W86.add Kb2
theorem Kb1:Ok Tryz.prog 218 (Jgr 155 Dd):=okW W87 Tryz.f218 na fun xx=>by
 obtain⟨(l:List Met),_⟩:=xx
 refine(by kernel_rfl:(List.length l≤1000000→((0≤Ln l∧Ln l≤1000000)∧Ln l≤Ln l∧Ln l≤1000000)∧List.length l=List.length (List.replicate (List.length l) Js1)∧l=l)=_).mp ?_
 delta Z66 Js1 Ln B0
 intro h
 exact⟨⟨⟨by omega,by omega⟩,by omega,by omega⟩,by simp,rfl⟩
abbrev W88:=W87.add Kb1
theorem Kb0:Ok Tryz.prog 219 (Jgr 188 Xp):=okW W88 Tryz.f219 na fun xx=>by
 obtain⟨(l:List Out),_⟩:=xx
 refine(by kernel_rfl:(Z59 l→((0≤Ln l∧Ln l≤1000000)∧Ln l≤Ln l∧Ln l≤1000000)∧List.length l=List.length (List.replicate (List.length l) Jgb)∧l=l)=_).mp ?_
 delta Z59 Jgb Ln B0
 intro h
 exact⟨⟨⟨by omega,by omega⟩,by omega,by omega⟩,by simp,rfl⟩
abbrev W89:=W88.add Kb0
theorem Kbz:Ok Tryz.prog 220 (Jgr 235 X7):=okW W89 Tryz.f220 na fun xx=>by
 obtain⟨(l:List Per),_⟩:=xx
 refine(by kernel_rfl:(Z45 l→((0≤Ln l∧Ln l≤1000000)∧Ln l≤Ln l∧Ln l≤1000000)∧List.length l=List.length (List.replicate (List.length l) (B0,B0,false))∧l=l)=_).mp ?_
 delta Z45 Ln B0
 intro h
 exact⟨⟨⟨by omega,by omega⟩,by omega,by omega⟩,by simp,rfl⟩
abbrev W90:=W89.add Kbz
end Go.Proofs.YtcibbcfiemeoiaaGreatDoor
namespace Go.Proofs.Tryz
open Go.Proofs.YtcibbcfiemeoiaaGreatDoor
def kindsU:List (ByteArray×K2o):=[(J2,[],0,none,none,none),
 (Jy,[(0,false)],2,some 148,some 149,some 150),
 (K9,[(0,true)],2,some 152,some 153,some 150),
 (Kl,[(1,false),(0,true),(0,true)],4,some 154,some 155,some 156),
 (K3,[(1,true)],4,some 157,some 158,some 156),
 (Vn,[(1,true)],1,some 159,some 160,some 156),
 (Jz,[(2,false),(0,true)],4,some 161,some 162,some 163),
 (Ju,[(2,true)],1,some 164,some 165,some 163),
 (Kd,[(3,false),(2,true)],1,some 166,some 167,some 168),
 (Kc,[(3,true)],1,some 169,some 170,some 168),
 (Jh,[],2,some 171,some 172,none)]
end Go.Proofs.Tryz
namespace Go.Proofs.YtcibbcfiemeoiaaGreatDoor
open Go.Sx
def J46:Jmi:={kT:=9,gk:=false,gv:=true,ks:= .str,vs:=Kbs,l:=Tryz.kindsU}
theorem Kot:Ok Tryz.prog 80 (Jmi.con J46):=Kou
abbrev W91:=W90.add Kot
abbrev Kn:=List Ev×List Ev×List Reg
abbrev Jiu:Sch:= .prod (.list 67 sEv) (.prod (.list 67 sEv) (.list 105 Jm9))
def U1:Reg:=(0,0,[],[],[],[],[])
def ev0:Ev:=(0,Ja,[],[],Ja)
def Kf (G:List Reg):Reg:=G.getD (G.length-1) U1
structure Ke (h:Kn):Prop where
 nE:h.1.length≤1000
 nC:h.2.1.length≤h.1.length
 nG:h.2.2.length=h.2.1.length
 reg:∀r∈h.2.2,Jj r
def Kj (r:Reg) (ns:List ByteArray):List (Int×Bool)→Nat→Bool
 |[],_=>false
 |(w,b)::l,i=>bif (bif b then !Ve r w (ns.getD i Ja) else false) then true else Kj r ns l (i+1)
def Ku (r:Reg) (ns:List ByteArray):List (Int×Bool)→Nat→Bool
 |[],_=>false
 |(w,b)::l,i=>bif (bif !b then Ve r w (ns.getD i Ja) else false) then true else Ku r ns l (i+1)
def ckS (r:Reg) (e:Ev):Int:=match(Ji e.2.1).2.2.1 with
 |some 148=>Jl7 r.2.2.1 e.2.2.2.1
 |some 152=>Jn7 e.2.2.2.1
 |some 154=>Jb4 r.2.2.1 r.2.2.2.1 r.2.2.2.2.2.1 e
 |some 157=>Jl8 r.2.2.2.1 r.2.2.2.2.1 e.2.2.1 e.2.2.2.1
 |some 159=>Jct r.2.2.2.1 e.2.2.1 e.2.2.2.1
 |some 161=>Jb3 r.2.2.1 r.2.2.2.1 r.2.2.2.2.2.1 e
 |some 164=>Jcu r.2.2.2.2.2.1 r.2.2.2.2.2.2 e.2.2.1 e.2.2.2.1
 |some 166=>Jcv r.2.2.2.2.2.1 r.2.2.2.2.2.2 e.2.2.1 e.2.2.2.1
 |some 169=>Jn6 r.2.2.2.2.2.2 e.2.2.1
 |some 171=>Lz r.2.1 r.2.2.2.1 r.2.2.2.2.1 r.2.2.2.2.2.1 r.2.2.2.2.2.2 e.2.2.2.1
 |_=>0
def Da (h:Kn) (e:Ev):Int:=
 bif e.1 !=(h.1.length:Int)+1 then 11 else
 bif e.2.1.toList==J2.toList then(bif (h.2.1.length:Int)==0 then 12 else bif (h.2.1.getD (h.2.1.length-1) ev0).2.1.toList==Jh.toList then 21 else 0) else
 bif decide (e.2.2.2.1.getD 0 0<(Kf h.2.2).1) then 22 else
 bif Kj (Kf h.2.2) e.2.2.1 (Ji e.2.1).1 0 then 10 else
 bif Ku (Kf h.2.2) e.2.2.1 (Ji e.2.1).1 0 then 9 else ckS (Kf h.2.2) e
def Jp6:Xu:={T? :=none,s:=Jiu,args:=[aEv],ress:=[I],pre:=fun h (e,_)=>[Ke h,Jb e=0],spec:=fun h (e,_)=>(Da h e,()),post:=fun h _=>h}
abbrev Xg (m:Nat):Nat→Option Ann:=fun i=>if i=0∨i=2 then some {X:=Unit,σ:=fun _=>⟨0,[],[]⟩,inv:=fun _=>True,mu:=fun _=>0,un:=m} else none
def Jqh (h:Kn) (n:Int) (ns:List ByteArray) (vs:List Int) (roles:List (Int×Bool)) (ck:Int):Int:=
 bif n !=(h.1.length:Int)+1 then 11 else
 bif decide (vs.getD 0 0<(Kf h.2.2).1) then 22 else
 bif Kj (Kf h.2.2) ns roles 0 then 10 else
 bif Ku (Kf h.2.2) ns roles 0 then 9 else ck
theorem Yw {h:Kn} {n:Int} {k:ByteArray} {ns:List ByteArray} {vs:List Int} {tx:ByteArray} (h1:(k.toList==J2.toList)=false):Da h (n,k,ns,vs,tx)=Jqh h n ns vs (Ji k).1 (ckS (Kf h.2.2) (n,k,ns,vs,tx)):=by
 unfold Da Jqh
 dsimp only
 rw[h1];rfl
theorem K8:Ji Jy=([(0,false)],2,some 148,some 149,some 150):=by kernel_rfl
theorem Va:Ji K9=([(0,true)],2,some 152,some 153,some 150):=by kernel_rfl
theorem Uv:Ji Kl=([(1,false),(0,true),(0,true)],4,some 154,some 155,some 156):=by kernel_rfl
theorem Uw:Ji K3=([(1,true)],4,some 157,some 158,some 156):=by kernel_rfl
theorem Vo:Ji Vn=([(1,true)],1,some 159,some 160,some 156):=by kernel_rfl
theorem Kw:Ji Jz=([(2,false),(0,true)],4,some 161,some 162,some 163):=by kernel_rfl
theorem Kk:Ji Ju=([(2,true)],1,some 164,some 165,some 163):=by kernel_rfl
theorem K6:Ji Kd=([(3,false),(2,true)],1,some 166,some 167,some 168):=by kernel_rfl
theorem K5:Ji Kc=([(3,true)],1,some 169,some 170,some 168):=by kernel_rfl
theorem Ut:Ji Jh=([],2,some 171,some 172,none):=by kernel_rfl
theorem Jbs:Ji J2=([],0,none,none,none):=by kernel_rfl
theorem Je6 {r:Reg} {s:ByteArray}:Ve r 0 s=decide (0≤Jx r.2.2.1 s):=rfl
theorem Jgm {r:Reg} {s:ByteArray}:Ve r 1 s=decide (0≤Kx r.2.2.2.1 s):=rfl
theorem Je5 {r:Reg} {s:ByteArray}:Ve r 2 s=decide (0≤J7 r.2.2.2.2.2.1 s):=rfl
theorem Jgl {r:Reg} {s:ByteArray}:Ve r 3 s=decide (0≤U0 r.2.2.2.2.2.2 s):=rfl
structure J9c (e:Ev):Prop where
 num:1≤e.1∧e.1≤1000
 kind:Yr e.2.1=true
 nn:e.2.2.1.length=(Ji e.2.1).1.length
 nv:(e.2.2.2.1.length:Int)=(Ji e.2.1).2.1
 name:∀s∈e.2.2.1,Yi s=true
 val:EvV e
 txt:e.2.2.2.2.size=0
theorem Uu {l:List Int}:Jg l=0↔∀x∈l,x=0:=by
 induction l with
 |nil=>simp[Jg]
 |cons x l ih=>
  unfold Jg
  by_cases h:x=0
  ·rw[if_pos h,ih];simp[h]
  ·rw[if_neg h];simp[h]
theorem Yg {n a b:Int}:Ki n a b=0↔a≤n∧n≤b:=by
 unfold Ki
 by_cases h1:n<a
 ·simp[h1];omega
 ·by_cases h2:b<n
  ·simp[h2]
  ·simp[h1,h2];omega
theorem Ul {e:Ev} (h:Jb e=0):J9c e:=by
 unfold Jb at h
 by_cases h1:Ki e.1 1 1000≠0
 ·rw[if_pos h1] at h;exact absurd h h1
 rw[if_neg h1] at h
 cases hk:Yr e.2.1 with
 |false=>rw[hk] at h;cases h
 | true =>
  rw[hk,cond_true] at h
  by_cases h2:e.2.2.1.length=(Ji e.2.1).1.length∧(e.2.2.2.1.length:Int)=(Ji e.2.1).2.1
  ·rw[if_pos h2] at h
   have h3:=Uu.1 h
   have n1:=Uu.1 (h3 _ (List.mem_cons_self ..))
   have n2:=Uu.1 (h3 _ (List.mem_cons_of_mem _ (List.mem_cons_self ..)))
   have n3:=h3 _ (List.mem_cons_of_mem _ (List.mem_cons_of_mem _ (List.mem_cons_self ..)))
   refine⟨Yg.1 (by omega),hk,h2.1,h2.2,fun s hs=> ?_,fun v hv=>Yg.1 (n2 _ (List.mem_map_of_mem hv)), ?_⟩
   ·have:=n1 _ (List.mem_map_of_mem hs)
    cases hn:Yi s with
    |true=>rfl
    |false=>rw[hn] at this;cases this
   ·by_cases h4:0<e.2.2.2.2.size
    ·rw[decide_eq_true h4] at n3;cases n3
    ·omega
  ·rw[if_neg h2] at h;cases h
theorem X1 {h:Kn} (hh:Ke h):Jj (Kf h.2.2):=by
 unfold Kf
 by_cases h0:0<h.2.2.length
 ·exact hh.reg _ (Jc (by omega))
 ·have:h.2.2=[]:=List.eq_nil_of_length_eq_zero (by omega)
  rw[this]
  exact⟨by decide,by decide,by decide,by decide,by decide,by decide,by decide,fun _ h=>(by cases h),fun _ h=>(by cases h),fun _ h=>(by cases h),fun _ h=>(by cases h),fun _ h=>(by cases h),fun _ h=>(by cases h)⟩
theorem Km {G:List Reg} (h:decide (0<(G.length:Int))=false):Kf G=U1:=by
 have h:¬0<(G.length:Int):=of_decide_eq_false h
 have:G=[]:=List.eq_nil_of_length_eq_zero (by omega)
 rw[this];rfl
theorem Hu:((0,0,[],[],[],[],[]):Reg)=U1:=rfl
theorem Jhc (G:List Reg):G.getD (G.length-1) U1=Kf G:=rfl
theorem H0 {E C:List Ev} {G:List Reg} {e:Ev} (hh:Ke (E,C,G)) (hc:Jb e=0):e.2.2.1.length=(Ji e.2.1).1.length∧(e.2.2.2.1.length:Int)=(Ji e.2.1).2.1∧Jj (Kf G)∧Jj U1∧E.length≤1000∧C.length≤E.length∧G.length=C.length∧((G.length:Int)-1).toNat=G.length-1∧EvV e:=
 have hE:=Ul hc
 ⟨hE.nn,hE.nv,X1 hh,X1 (h:=([],[],[])) ⟨by decide,by decide,rfl,fun _ h=>(by cases h)⟩,hh.nE,hh.nC,hh.nG,by omega,hE.val⟩
def Z0 (a:Int) (b:Ls) (c:Li) (d:Bt):=(a,J2,b,c,d)
def Z1 (a:List Ev):=Ln a-1
def Z2 (a:List Ev):=Ln a==0
def Z5 (a:List Ev):=Ln a+1
def Z33:=Iw ((0:Int)+1)
def Z53:=Tw (Bd 0 0)
def Z62 (a:List Ev):=Iw (Z5 a)
def Z64 (a:List Ev):=Iw (Z1 a)
def Z96 (a:Li):=Tw (Z31 a)
def V0 (a:List Reg):=decide (0<Ln a)
def J3c:=Z33∧False
def Jsb (a b:List Ev) (c:List Reg) (d:Int) (e:Ls) (f:Li) (g:Bt):=Da (a,b,c) (Z0 d e f g)
def Jae:Int×ByteArray×List ByteArray×List Int×ByteArray:=((0:Int),B0,[],[],B0)
def Jga (a:Li):=decide (Z98 a<0)
def Df:Int×List Sta×List Ord×List Met×List Out×List Per:=((0:Int),[],[],[],[],[])
def Jf9 (a:Int) (b:List Ev):=a !=Z5 b
def Jf8 (a:List Ev):=Z64 a∧Tw (Bd (Z1 a) (Ln a))
def Vz (a:List Reg):=Iw (Ln a-1)∧Tw (Bd (Ln a-1) (Ln a))
def Vr:=((0:Int),Df)
def Yq:=Jj Vr
def Jds:=true=true→Yq
def Jbb:=false=true→Yq
def D9 (a:List Reg):=Gt a (Ln a-1) Vr
def D8 (a:List Reg):=(D9 a).2
def Jad (a:List Reg):=(D9 a).1
def Hs (a:List Reg):=(D8 a).2
def Fu (a:List Reg):=(D8 a).1
def Hr (a:List Reg):=(Hs a).2
def De (a:List Reg):=(Hr a).2
def Zy (a:List Reg):=(De a).2
def J20 (a:Ls):=Ve Vr 0 (Z93 a)
def Jf7 (a:List Ev):=bif Lb (Gt a (Z1 a) Jae).2.1 Jh then(21:Int) else(0:Int)
def J9u (a:Ls):=bif true then J20 a else false
def Jf6 (a:Li) (b:List Reg):=decide (Z98 a<Jad b)
def Jf5 (a:Ls):=T2 (true=true→Z91 a) Jds
def Jf4 (a:Ls):=T2 (false=true→Z91 a) Jbb
def Kwp (a:TypeId) (b c:List Ev) (d:List Reg) (e:Int) (f:Ls) (g:Li) (h:Bt):=Br false (Sf true (Sf a (Sf (b,c,d) (10=Jsb b c d e f g h)))) J3c
def Ft (a:List Reg):=(Fu a,(Hs a).1,(Hr a).1,(De a).1,E2 (Zy a))
def V8 (a:List Reg):=(Jad a,Ft a)
def Yy (a:List Reg):=Jj (V8 a)
def X6 (a:List Reg):=true=true→Yy a
def Xi (a:List Reg):=false=true→Yy a
def Jmf (a:List Reg) (b:Ls):=Ve (V8 a) 0 (Z93 b)
def Jsh (a:List Reg) (b:Ls):=bif true then Jmf a b else false
def Hd (a:Ls) (b:List Reg):=T2 (true=true→Z91 a) (X6 b)
def Hc (a:Ls) (b:List Reg):=T2 (false=true→Z91 a) (Xi b)
theorem Jqz (T:TypeId) (E C:List Ev) (G:List Reg) (n:Int) (ns:List ByteArray) (vs:List Int) (tx:ByteArray):wpFO Tryz.prog W91.g (Xg 1) (fun _=>na ()) (Sx.look ([(75,Tryz.f75)]:List (Nat×Func))) Tryz.f130 Jp6 T (E,C,G) ((n,J2,ns,vs,tx),()):=by
 refine(by kernel_rfl:(Ke (E,C,G)→Jb (Z0 n ns vs tx)=0→Z62 E∧Br (Jf9 n E) (Sf true (Sf T (Sf (E,C,G) (11=Jsb E C G n ns vs tx)))) (Br true (Br (Z2 C) (Sf true (Sf T (Sf (E,C,G) (12=Jsb E C G n ns vs tx)))) (Jf8 C∧Sf true (Sf T (Sf (E,C,G) (Jf7 C=Jsb E C G n ns vs tx))))) (Br (V0 G) (Vz G∧Z96 vs∧Br (Jf6 vs G) (Sf true (Sf T (Sf (E,C,G) (22=Jsb E C G n ns vs tx)))) (Br false (Z53∧Hc ns G∧Kwp T E C G n ns vs tx) (Br false (Z53∧Hd ns G∧Br (Jsh G ns) (Sf true (Sf T (Sf (E,C,G) (9=Jsb E C G n ns vs tx)))) J3c) (False∧Sf true False)))) (Z96 vs∧Br (Jga vs) (Sf true (Sf T (Sf (E,C,G) (22=Jsb E C G n ns vs tx)))) (Br false (Z53∧Jf4 ns∧Kwp T E C G n ns vs tx) (Br false (Z53∧Jf5 ns∧Br (J9u ns) (Sf true (Sf T (Sf (E,C,G) (9=Jsb E C G n ns vs tx)))) J3c) (False∧Sf true False)))))))=_).mp ?_
 delta Z0 Z1 Z2 Z5 Z31 Z33 Z53 Z62 Z64 Z91 Z93 Z96 Z98 V0 J3c Jsb Jae Jga Df Jf9 Jf8 Vz Vr Yq Jds Jbb D9 D8 Jad Hs Fu Hr De Zy J20 Jf7 J9u Jf6 Jf5 Jf4 Kwp Ft V8 Yy X6 Xi Jmf Jsh Hd Hc Br Iw Bd T2 Tw Sf Ln Gt B0 Lb E2 Jh J2
 intro hh hc
 have hE:=Ul hc
 have n1:E.length≤1000:=hh.nE
 have n2:C.length≤E.length:=hh.nC
 have eA:Da (E,C,G) (n,J2,ns,vs,tx)=bif n !=(E.length:Int)+1 then 11 else(bif (C.length:Int)==0 then 12 else bif (C.getD (C.length-1) ev0).2.1.toList==Jh.toList then 21 else 0):=by
  unfold Da
  dsimp only
  rw[show(J2.toList==J2.toList)=true from by kernel_rfl];rfl
 refine⟨by omega,fun h=>⟨rfl,rfl,rfl, ?_⟩,fun h=>⟨fun _=>⟨fun h2=>⟨rfl,rfl,rfl, ?_⟩,fun h2=> ?_⟩,fun h=>(by cases h)⟩⟩
 ·rw[eA,h];rfl
 ·rw[eA,h,h2];rfl
 ·have h3:¬C.length=0:=fun e=>by rw[e] at h2;cases h2
  have h4:((C.length:Int)-1).toNat=C.length-1:=by omega
  refine⟨⟨⟨by omega,by omega⟩,⟨by omega,by omega⟩,⟨by omega,by omega⟩⟩,rfl,rfl,rfl, ?_⟩
  rw[eA,h,h2,h4];rfl
def Z24 (a:Int) (b:Ls) (c:Li) (d:Bt):=(a,Jy,b,c,d)
def Z51:=Tw (Bd 0 1)
def Jol:=(0:Int)+1+1
def Jgc:=Iw Jol
def Jaf:=Tw (Bd ((0:Int)+1) 1)
def Jqk (a b:List Ev) (c:List Reg) (d:Int) (e:Ls) (f:Li) (g:Bt):=Da (a,b,c) (Z24 d e f g)
def Jdw:=Jgc∧False
def Jw8 (a:Ls):=true=true→Bd ((0:Int)+1) (Ln a)
def Jw7 (a:Ls):=false=true→Bd ((0:Int)+1) (Ln a)
def J91 (a:Li):=Yq∧Z58 a
def Jx7 (a:Ls):=Ve Vr 0 (Le a)
def Kjy (a:TypeId) (b c:List Ev) (d:List Reg) (e:Int) (f:Ls) (g:Li) (h:Bt):=Sf true (Sf a (Sf (b,c,d) (10=Jqk b c d e f g h)))
def Kfi (a:TypeId) (b c:List Ev) (d:List Reg) (e:Int) (f:Ls) (g:Li) (h:Bt):=Sf true (Sf a (Sf (b,c,d) (9=Jqk b c d e f g h)))
def Jsu (a:Ls):=bif true then Jx7 a else false
def Jj9 (a:Ls):=T2 (Jw8 a) Jds
def Jj8 (a:Ls):=T2 (Jw7 a) Jbb
def Kwe (a:TypeId) (b c:List Ev) (d:List Reg) (e:Int) (f:Ls) (g:Li) (h:Bt):=Br false (Kjy a b c d e f g h) Jdw
def Kvj (a:Li) (b:TypeId) (c d:List Ev) (e:List Reg) (f:Int) (g:Ls) (h:Bt):=J91 a∧Sf true (Sf b (Sf (c,d,e) (Jl7 [] a=Jqk c d e f g a h)))
def Jsj (a:List Reg) (b:Li):=Yy a∧Z58 b
def Jgv (a:List Reg) (b:Ls):=Ve (V8 a) 0 (Le b)
def Jda (a:List Reg) (b:Ls):=bif true then Jgv a b else false
def Dc (a:Ls) (b:List Reg):=T2 (Jw8 a) (X6 b)
def Db (a:Ls) (b:List Reg):=T2 (Jw7 a) (Xi b)
def J7x (a:List Reg) (b:Li) (c:TypeId) (d e:List Ev) (f:Int) (g:Ls) (h:Bt):=Jsj a b∧Sf true (Sf c (Sf (d,e,a) (Jl7 (Hs a).1 b=Jqk d e a f g b h)))
def J7i (a:Ls) (b:TypeId) (c d:List Ev) (e:List Reg) (f:Int) (g:Li) (h:Bt):=Br true (Z51∧Jf5 a∧Br (J9u a) (Kfi b c d e f a g h) (Z33∧Br false (Jaf∧Jj9 a∧Br (Jsu a) (Kfi b c d e f a g h) Jdw) (Kvj g b c d e f a h))) (Kvj g b c d e f a h)
def J67 (a:Ls) (b:List Reg) (c:TypeId) (d e:List Ev) (f:Int) (g:Li) (h:Bt):=Br true (Z51∧Hd a b∧Br (Jsh b a) (Kfi c d e b f a g h) (Z33∧Br false (Jaf∧Dc a b∧Br (Jda b a) (Kfi c d e b f a g h) Jdw) (J7x b g c d e f a h))) (J7x b g c d e f a h)
theorem Jh5 (T:TypeId) (E C:List Ev) (G:List Reg) (n:Int) (ns:List ByteArray) (vs:List Int) (tx:ByteArray):wpFO Tryz.prog W91.g (Xg 2) (fun _=>na ()) (Sx.look ([(75,Tryz.f75)]:List (Nat×Func))) Tryz.f130 Jp6 T (E,C,G) ((n,Jy,ns,vs,tx),()):=by
 refine(by kernel_rfl:(Ke (E,C,G)→Jb (Z24 n ns vs tx)=0→Z62 E∧Br (Jf9 n E) (Sf true (Sf T (Sf (E,C,G) (11=Jqk E C G n ns vs tx)))) (Br false (Br (Z2 C) (Sf true (Sf T (Sf (E,C,G) (12=Jqk E C G n ns vs tx)))) (Jf8 C∧Sf true (Sf T (Sf (E,C,G) (Jf7 C=Jqk E C G n ns vs tx))))) (Br (V0 G) (Vz G∧Z96 vs∧Br (Jf6 vs G) (Sf true (Sf T (Sf (E,C,G) (22=Jqk E C G n ns vs tx)))) (Br true (Z51∧Hc ns G∧Br false (Kjy T E C G n ns vs tx) (Z33∧Br false (Jaf∧Db ns G∧Kwe T E C G n ns vs tx) (J67 ns G T E C n vs tx))) (J67 ns G T E C n vs tx))) (Z96 vs∧Br (Jga vs) (Sf true (Sf T (Sf (E,C,G) (22=Jqk E C G n ns vs tx)))) (Br true (Z51∧Jf4 ns∧Br false (Kjy T E C G n ns vs tx) (Z33∧Br false (Jaf∧Jj8 ns∧Kwe T E C G n ns vs tx) (J7i ns T E C G n vs tx))) (J7i ns T E C G n vs tx))))))=_).mp ?_
 delta Z1 Z2 Z5 Z24 Z31 Z33 Z51 Z58 Z62 Z64 Z91 Z93 Z96 Z98 Le V0 Jol Jgc Jaf Jqk Jdw Jae Jga Jw8 Jw7 Df Jf9 Jf8 Vz Vr Yq Jds Jbb D9 D8 Jad J91 Hs Fu Hr De Zy J20 Jx7 Jf7 Kjy Kfi Jsu J9u Jf6 Jf5 Jf4 Jj9 Jj8 Kwe Kvj Ft V8 Yy X6 Xi Jsj Jmf Jgv Jda Jsh Hd Hc Dc Db J7x J7i J67 Br Iw Bd T2 Tw Sf Ln Gt B0 Lb E2 Jh Jy
 intro hh hc
 have eK:=Yw (h:=(E,C,G)) (n:=n) (k:=Jy) (ns:=ns) (vs:=vs) (tx:=tx) (by kernel_rfl)
 obtain⟨hn,hv,hR,hr0,n1,n2,n3,hG,hV⟩:=H0 hh hc
 simp only[K8,ckS,List.length_cons,List.length_nil] at eK hn hv
 rw[eK]
 simp only[hG,Jhc,Hu,Prod.eta,Jqh,Kj,Ku,Je6,Jgm,Je5,Jgl,cond_true,cond_false,Bool.not_true,Bool.not_false,Ja]
 repeat' first|apply And.intro|exact hV|intro _
 all_goals first|trivial|omega|assumption|(rename_i h;have h:=of_decide_eq_true h;omega)|(simp only[*,cond_true,cond_false,Bool.not_true,Bool.not_false];done)|(rw[Km ‹_›];(first|have e1:decide (vs.getD 0 0<U1.1)=true:=‹_›|have e1:decide (vs.getD 0 0<U1.1)=false:=‹_›);simp only[*,cond_true,cond_false,Bool.not_true,Bool.not_false];first|done|rfl)|(simp only[Bool.not_eq_false',decide_eq_true_eq] at*;assumption)
def Z13 (a:Int) (b:Ls) (c:Li) (d:Bt):=(a,K9,b,c,d)
def Jsa (a b:List Ev) (c:List Reg) (d:Int) (e:Ls) (f:Li) (g:Bt):=Da (a,b,c) (Z13 d e f g)
def Kfm (a:TypeId) (b c:List Ev) (d:List Reg) (e:Int) (f:Ls) (g:Li) (h:Bt):=Sf true (Sf a (Sf (b,c,d) (9=Jsa b c d e f g h)))
def Kj2 (a:TypeId) (b c:List Ev) (d:List Reg) (e:Int) (f:Ls) (g:Li) (h:Bt):=Sf true (Sf a (Sf (b,c,d) (10=Jsa b c d e f g h)))
def J9t (a:Ls):=bif true then !J20 a else false
def Ke2 (a:Li) (b:TypeId) (c d:List Ev) (e:List Reg) (f:Int) (g:Ls) (h:Bt):=Z58 a∧Sf true (Sf b (Sf (c,d,e) (Jn7 a=Jsa c d e f g a h)))
def Kwk (a:TypeId) (b c:List Ev) (d:List Reg) (e:Int) (f:Ls) (g:Li) (h:Bt):=Br false (Kj2 a b c d e f g h) Jdw
def Jsf (a:List Reg) (b:Ls):=bif true then !Jmf a b else false
def J7n (a:Ls) (b:TypeId) (c d:List Ev) (e:List Reg) (f:Int) (g:Li) (h:Bt):=Br true (Z51∧Jf4 a∧Br false (Kfm b c d e f a g h) (Z33∧Br false (Jaf∧Jj9 a∧Br (Jsu a) (Kfm b c d e f a g h) Jdw) (Ke2 g b c d e f a h))) (Ke2 g b c d e f a h)
def J7c (a:Ls) (b:List Reg) (c:TypeId) (d e:List Ev) (f:Int) (g:Li) (h:Bt):=Br true (Z51∧Hc a b∧Br false (Kfm c d e b f a g h) (Z33∧Br false (Jaf∧Dc a b∧Br (Jda b a) (Kfm c d e b f a g h) Jdw) (Ke2 g c d e b f a h))) (Ke2 g c d e b f a h)
theorem Jmv (T:TypeId) (E C:List Ev) (G:List Reg) (n:Int) (ns:List ByteArray) (vs:List Int) (tx:ByteArray):wpFO Tryz.prog W91.g (Xg 2) (fun _=>na ()) (Sx.look ([(75,Tryz.f75)]:List (Nat×Func))) Tryz.f130 Jp6 T (E,C,G) ((n,K9,ns,vs,tx),()):=by
 refine(by kernel_rfl:(Ke (E,C,G)→Jb (Z13 n ns vs tx)=0→Z62 E∧Br (Jf9 n E) (Sf true (Sf T (Sf (E,C,G) (11=Jsa E C G n ns vs tx)))) (Br false (Br (Z2 C) (Sf true (Sf T (Sf (E,C,G) (12=Jsa E C G n ns vs tx)))) (Jf8 C∧Sf true (Sf T (Sf (E,C,G) (Jf7 C=Jsa E C G n ns vs tx))))) (Br (V0 G) (Vz G∧Z96 vs∧Br (Jf6 vs G) (Sf true (Sf T (Sf (E,C,G) (22=Jsa E C G n ns vs tx)))) (Br true (Z51∧Hd ns G∧Br (Jsf G ns) (Kj2 T E C G n ns vs tx) (Z33∧Br false (Jaf∧Db ns G∧Kwk T E C G n ns vs tx) (J7c ns G T E C n vs tx))) (J7c ns G T E C n vs tx))) (Z96 vs∧Br (Jga vs) (Sf true (Sf T (Sf (E,C,G) (22=Jsa E C G n ns vs tx)))) (Br true (Z51∧Jf5 ns∧Br (J9t ns) (Kj2 T E C G n ns vs tx) (Z33∧Br false (Jaf∧Jj8 ns∧Kwk T E C G n ns vs tx) (J7n ns T E C G n vs tx))) (J7n ns T E C G n vs tx))))))=_).mp ?_
 delta Z1 Z2 Z5 Z13 Z31 Z33 Z51 Z58 Z62 Z64 Z91 Z93 Z96 Z98 Le V0 Jol Jgc Jaf Jsa Jdw Jae Jga Jw8 Jw7 Df Jf9 Jf8 Vz Vr Yq Jds Jbb D9 D8 Jad Hs Fu Hr De Zy J20 Jx7 Jf7 Kfm Kj2 Jsu J9t Jf6 Jf5 Jf4 Jj9 Jj8 Ke2 Kwk Ft V8 Yy X6 Xi Jmf Jgv Jda Jsf Hd Hc Dc Db J7n J7c Br Iw Bd T2 Tw Sf Ln Gt B0 Lb E2 K9 Jh
 intro hh hc
 have eK:=Yw (h:=(E,C,G)) (n:=n) (k:=K9) (ns:=ns) (vs:=vs) (tx:=tx) (by kernel_rfl)
 obtain⟨hn,hv,hR,hr0,n1,n2,n3,hG,hV⟩:=H0 hh hc
 simp only[Va,ckS,List.length_cons,List.length_nil] at eK hn hv
 rw[eK]
 simp only[hG,Jhc,Hu,Prod.eta,Jqh,Kj,Ku,Je6,Jgm,Je5,Jgl,cond_true,cond_false,Bool.not_true,Bool.not_false,Ja]
 repeat' first|apply And.intro|exact hV|intro _
 all_goals first|trivial|omega|assumption|(rename_i h;have h:=of_decide_eq_true h;omega)|(simp only[*,cond_true,cond_false,Bool.not_true,Bool.not_false];done)|(rw[Km ‹_›];(first|have e1:decide (vs.getD 0 0<U1.1)=true:=‹_›|have e1:decide (vs.getD 0 0<U1.1)=false:=‹_›);simp only[*,cond_true,cond_false,Bool.not_true,Bool.not_false];first|done|rfl)|(simp only[Bool.not_eq_false',decide_eq_true_eq] at*;assumption)
def Z9 (a:Int) (b:Ls) (c:Li) (d:Bt):=(a,Kl,b,c,d)
def Z50:=Tw (Bd 0 3)
def Khp:=Tw (Bd ((0:Int)+1) 3)
def Jqp (a b:List Ev) (c:List Reg) (d:Int) (e:Ls) (f:Li) (g:Bt):=Da (a,b,c) (Z9 d e f g)
def J61:=Jol+1
def J27:=Iw J61
def Khf:=Tw (Bd Jol 3)
def Kg9 (a:Ls):=0≤Jx [] (Jj5 a)
def Kg8:=Tw (Bd J61 3)
def K2d (a:Ls):=Bd J61 (Ln a)
def Km2:=Iw (J61+1)∧False
def Kg2 (a:Ls):=true=true→Bd Jol (Ln a)
def Kg1 (a:Ls):=false=true→Bd Jol (Ln a)
def K1r (a:Ls):=true=true→K2d a
def K1q (a:Ls):=false=true→K2d a
def Kf5 (a:Ls):=Ve Vr 0 (Jom a)
def J9y (a:Ls):=Ve Vr 1 (Z93 a)
def J0z (a:TypeId) (b c:List Ev) (d:List Reg) (e:Int) (f:Ls) (g:Li) (h:Bt):=Sf true (Sf a (Sf (b,c,d) (9=Jqp b c d e f g h)))
def J2z (a:TypeId) (b c:List Ev) (d:List Reg) (e:Int) (f:Ls) (g:Li) (h:Bt):=Sf true (Sf a (Sf (b,c,d) (10=Jqp b c d e f g h)))
def Kju (a:Ls):=bif true then !Jx7 a else false
def Kfb (a:List Reg) (b:Ls):=0≤Jx (Hs a).1 (Jj5 b)
def J9p (a:Ls):=T2 (Kg2 a) Jds
def J9o (a:Ls):=T2 (Kg1 a) Jbb
def Kv1 (a:TypeId) (b c:List Ev) (d:List Reg) (e:Int) (f:Ls) (g:Li) (h:Bt):=Br false (J2z a b c d e f g h) Km2
def Ken (a:Int) (b:Ls) (c:Li) (d:Bt) (e:TypeId) (f g:List Ev) (h:List Reg):=(Yq∧EvV (Z9 a b c d)∧Js2 b∧Z49 c∧Kg9 b∧0≤Jx [] (J64 b))∧Sf true (Sf e (Sf (f,g,h) (Jb4 [] [] [] (Z9 a b c d)=Jqp f g h a b c d)))
def Jsi (a:List Reg) (b:Ls):=Ve (V8 a) 1 (Z93 b)
def Jxg (a:List Reg) (b:Ls):=Ve (V8 a) 0 (Jom b)
def J1q (a:List Reg) (b:Ls):=bif true then !Jgv a b else false
def Jse (a:Ls) (b:List Reg):=T2 (Kg2 a) (X6 b)
def Jsd (a:Ls) (b:List Reg):=T2 (Kg1 a) (Xi b)
def Jxc (a:List Reg) (b:Int) (c:Ls) (d:Li) (e:Bt) (f:TypeId) (g h:List Ev):=(Yy a∧EvV (Z9 b c d e)∧Js2 c∧Z49 d∧Kfb a c∧0≤Jx (Hs a).1 (J64 c))∧Sf true (Sf f (Sf (g,h,a) (Jb4 (Hs a).1 (Hr a).1 (Zy a).1 (Z9 b c d e)=Jqp g h a b c d e)))
def Jxb (a:Ls) (b:TypeId) (c d:List Ev) (e:List Reg) (f:Int) (g:Li) (h:Bt):=Br true (Z50∧Jf5 a∧Br (bif true then J9y a else false) (J0z b c d e f a g h) (Z33∧Br true (Khp∧Jj8 a∧Br false (J0z b c d e f a g h) (Jgc∧Br true (Khf∧J9o a∧Br false (J0z b c d e f a g h) (J27∧Br false (Kg8∧T2 (K1r a) Jds∧Br (bif true then Ve Vr 0 (List.getD a 3 B0) else false) (J0z b c d e f a g h) Km2) (Ken f a g h b c d e))) (Ken f a g h b c d e))) (Ken f a g h b c d e))) (Ken f a g h b c d e)
def Jw9 (a:Ls) (b:List Reg) (c:TypeId) (d e:List Ev) (f:Int) (g:Li) (h:Bt):=Br true (Z50∧Hd a b∧Br (bif true then Jsi b a else false) (J0z c d e b f a g h) (Z33∧Br true (Khp∧Db a b∧Br false (J0z c d e b f a g h) (Jgc∧Br true (Khf∧Jsd a b∧Br false (J0z c d e b f a g h) (J27∧Br false (Kg8∧T2 (K1r a) (X6 b)∧Br (bif true then Ve (V8 b) 0 (List.getD a 3 B0) else false) (J0z c d e b f a g h) Km2) (Jxc b f a g h c d e))) (Jxc b f a g h c d e))) (Jxc b f a g h c d e))) (Jxc b f a g h c d e)
theorem Jmw (T:TypeId) (E C:List Ev) (G:List Reg) (n:Int) (ns:List ByteArray) (vs:List Int) (tx:ByteArray):wpFO Tryz.prog W91.g (Xg 4) (fun _=>na ()) (Sx.look ([(75,Tryz.f75)]:List (Nat×Func))) Tryz.f130 Jp6 T (E,C,G) ((n,Kl,ns,vs,tx),()):=by
 refine(by kernel_rfl:(Ke (E,C,G)→Jb (Z9 n ns vs tx)=0→Z62 E∧Br (Jf9 n E) (Sf true (Sf T (Sf (E,C,G) (11=Jqp E C G n ns vs tx)))) (Br false (Br (Z2 C) (Sf true (Sf T (Sf (E,C,G) (12=Jqp E C G n ns vs tx)))) (Jf8 C∧Sf true (Sf T (Sf (E,C,G) (Jf7 C=Jqp E C G n ns vs tx))))) (Br (V0 G) (Vz G∧Z96 vs∧Br (Jf6 vs G) (Sf true (Sf T (Sf (E,C,G) (22=Jqp E C G n ns vs tx)))) (Br true (Z50∧Hc ns G∧Br false (J2z T E C G n ns vs tx) (Z33∧Br true (Khp∧Dc ns G∧Br (J1q G ns) (J2z T E C G n ns vs tx) (Jgc∧Br true (Khf∧Jse ns G∧Br (bif true then !Jxg G ns else false) (J2z T E C G n ns vs tx) (J27∧Br false (Kg8∧T2 (K1q ns) (Xi G)∧Kv1 T E C G n ns vs tx) (Jw9 ns G T E C n vs tx))) (Jw9 ns G T E C n vs tx))) (Jw9 ns G T E C n vs tx))) (Jw9 ns G T E C n vs tx))) (Z96 vs∧Br (Jga vs) (Sf true (Sf T (Sf (E,C,G) (22=Jqp E C G n ns vs tx)))) (Br true (Z50∧Jf4 ns∧Br false (J2z T E C G n ns vs tx) (Z33∧Br true (Khp∧Jj9 ns∧Br (Kju ns) (J2z T E C G n ns vs tx) (Jgc∧Br true (Khf∧J9p ns∧Br (bif true then !Kf5 ns else false) (J2z T E C G n ns vs tx) (J27∧Br false (Kg8∧T2 (K1q ns) Jbb∧Kv1 T E C G n ns vs tx) (Jxb ns T E C G n vs tx))) (Jxb ns T E C G n vs tx))) (Jxb ns T E C G n vs tx))) (Jxb ns T E C G n vs tx))))))=_).mp ?_
 delta Z1 Z2 Z5 Z9 Z31 Z33 Z49 Z50 Z62 Z64 Z91 Z93 Z96 Z98 Jom Le V0 Jol Jj5 J64 Js2 Jgc Khp Jqp J61 Jae J27 Jga Khf Jw8 Kg9 Kg8 Jw7 K2d Df Km2 Kg2 Jf9 Kg1 Jf8 Vz Vr K1r Yq K1q Jds Jbb D9 D8 Jad Hs Fu Hr De Zy Kf5 J9y Jx7 Jf7 J0z J2z Kju Jf6 Jf5 Jf4 Kfb Jj9 Jj8 J9p J9o Kv1 Ken Ft V8 Yy X6 Xi Jsi Jxg Jgv J1q Hd Hc Dc Db Jse Jsd Jxc Jxb Jw9 Br Iw Bd T2 Tw Sf Ln Gt B0 Lb E2 Kl Jh
 intro hh hc
 have eK:=Yw (h:=(E,C,G)) (n:=n) (k:=Kl) (ns:=ns) (vs:=vs) (tx:=tx) (by kernel_rfl)
 obtain⟨hn,hv,hR,hr0,n1,n2,n3,hG,hV⟩:=H0 hh hc
 simp only[Uv,ckS,List.length_cons,List.length_nil] at eK hn hv
 rw[eK]
 simp only[hG,Jhc,Hu,Prod.eta,Jqh,Kj,Ku,Je6,Jgm,Je5,Jgl,cond_true,cond_false,Bool.not_true,Bool.not_false,Ja]
 repeat' first|apply And.intro|exact hV|intro _
 all_goals first|trivial|omega|assumption|(rename_i h;have h:=of_decide_eq_true h;omega)|(simp only[*,cond_true,cond_false,Bool.not_true,Bool.not_false];done)|(rw[Km ‹_›];(first|have e1:decide (vs.getD 0 0<U1.1)=true:=‹_›|have e1:decide (vs.getD 0 0<U1.1)=false:=‹_›);simp only[*,cond_true,cond_false,Bool.not_true,Bool.not_false];first|done|rfl)|(simp only[Bool.not_eq_false',decide_eq_true_eq] at*;assumption)
def Z10 (a:Int) (b:Ls) (c:Li) (d:Bt):=(a,K3,b,c,d)
def Jqo (a b:List Ev) (c:List Reg) (d:Int) (e:Ls) (f:Li) (g:Bt):=Da (a,b,c) (Z10 d e f g)
def Kha (a:Ls):=0≤Kx [] (L2 a)
def Kj1 (a:TypeId) (b c:List Ev) (d:List Reg) (e:Int) (f:Ls) (g:Li) (h:Bt):=Sf true (Sf a (Sf (b,c,d) (10=Jqo b c d e f g h)))
def Kfl (a:TypeId) (b c:List Ev) (d:List Reg) (e:Int) (f:Ls) (g:Li) (h:Bt):=Sf true (Sf a (Sf (b,c,d) (9=Jqo b c d e f g h)))
def J9s (a:Ls):=bif true then !J9y a else false
def Ke4 (a:List Reg) (b:Ls):=0≤Kx (Hr a).1 (L2 b)
def Kwi (a:TypeId) (b c:List Ev) (d:List Reg) (e:Int) (f:Ls) (g:Li) (h:Bt):=Br false (Kj1 a b c d e f g h) Jdw
def Kuf (a:Ls) (b:Li) (c:TypeId) (d e:List Ev) (f:List Reg) (g:Int) (h:Bt):=(Yq∧Yz a∧Z55 b∧Kha a)∧Sf true (Sf c (Sf (d,e,f) (Jl8 [] [] a b=Jqo d e f g a b h)))
def Jsg (a:List Reg) (b:Ls):=bif true then !Jsi a b else false
def J7l (a:List Reg) (b:Ls) (c:Li) (d:TypeId) (e f:List Ev) (g:Int) (h:Bt):=(Yy a∧Yz b∧Z55 c∧Ke4 a b)∧Sf true (Sf d (Sf (e,f,a) (Jl8 (Hr a).1 (De a).1 b c=Jqo e f a g b c h)))
def J7g (a:Ls) (b:TypeId) (c d:List Ev) (e:List Reg) (f:Int) (g:Li) (h:Bt):=Br true (Z51∧Jf4 a∧Br false (Kfl b c d e f a g h) (Z33∧Br false (Jaf∧Jj9 a∧Br (Jsu a) (Kfl b c d e f a g h) Jdw) (Kuf a g b c d e f h))) (Kuf a g b c d e f h)
def J69 (a:Ls) (b:List Reg) (c:TypeId) (d e:List Ev) (f:Int) (g:Li) (h:Bt):=Br true (Z51∧Hc a b∧Br false (Kfl c d e b f a g h) (Z33∧Br false (Jaf∧Dc a b∧Br (Jda b a) (Kfl c d e b f a g h) Jdw) (J7l b a g c d e f h))) (J7l b a g c d e f h)
theorem Jmx (T:TypeId) (E C:List Ev) (G:List Reg) (n:Int) (ns:List ByteArray) (vs:List Int) (tx:ByteArray):wpFO Tryz.prog W91.g (Xg 2) (fun _=>na ()) (Sx.look ([(75,Tryz.f75)]:List (Nat×Func))) Tryz.f130 Jp6 T (E,C,G) ((n,K3,ns,vs,tx),()):=by
 refine(by kernel_rfl:(Ke (E,C,G)→Jb (Z10 n ns vs tx)=0→Z62 E∧Br (Jf9 n E) (Sf true (Sf T (Sf (E,C,G) (11=Jqo E C G n ns vs tx)))) (Br false (Br (Z2 C) (Sf true (Sf T (Sf (E,C,G) (12=Jqo E C G n ns vs tx)))) (Jf8 C∧Sf true (Sf T (Sf (E,C,G) (Jf7 C=Jqo E C G n ns vs tx))))) (Br (V0 G) (Vz G∧Z96 vs∧Br (Jf6 vs G) (Sf true (Sf T (Sf (E,C,G) (22=Jqo E C G n ns vs tx)))) (Br true (Z51∧Hd ns G∧Br (Jsg G ns) (Kj1 T E C G n ns vs tx) (Z33∧Br false (Jaf∧Db ns G∧Kwi T E C G n ns vs tx) (J69 ns G T E C n vs tx))) (J69 ns G T E C n vs tx))) (Z96 vs∧Br (Jga vs) (Sf true (Sf T (Sf (E,C,G) (22=Jqo E C G n ns vs tx)))) (Br true (Z51∧Jf5 ns∧Br (J9s ns) (Kj1 T E C G n ns vs tx) (Z33∧Br false (Jaf∧Jj8 ns∧Kwi T E C G n ns vs tx) (J7g ns T E C G n vs tx))) (J7g ns T E C G n vs tx))))))=_).mp ?_
 delta Z1 Z2 Z5 Z10 Z31 Z33 Z51 Z55 Z62 Z64 Z91 Z93 Z96 Z98 Le V0 Jol Yz L2 Jgc Jaf Jqo Jdw Jae Jga Kha Jw8 Jw7 Df Jf9 Jf8 Vz Vr Yq Jds Jbb D9 D8 Jad Hs Fu Hr De Zy J9y Jx7 Jf7 Kj1 Kfl Jsu J9s Jf6 Jf5 Jf4 Jj9 Ke4 Jj8 Kwi Kuf Ft V8 Yy X6 Xi Jsi Jgv Jda Jsg Hd Hc Dc Db J7l J7g J69 Br Iw Bd T2 Tw Sf Ln Gt B0 Lb E2 K3 Jh
 intro hh hc
 have eK:=Yw (h:=(E,C,G)) (n:=n) (k:=K3) (ns:=ns) (vs:=vs) (tx:=tx) (by kernel_rfl)
 obtain⟨hn,hv,hR,hr0,n1,n2,n3,hG,hV⟩:=H0 hh hc
 simp only[Uw,ckS,List.length_cons,List.length_nil] at eK hn hv
 rw[eK]
 simp only[hG,Jhc,Hu,Prod.eta,Jqh,Kj,Ku,Je6,Jgm,Je5,Jgl,cond_true,cond_false,Bool.not_true,Bool.not_false,Ja]
 repeat' first|apply And.intro|exact hV|intro _
 all_goals first|trivial|omega|assumption|(rename_i h;have h:=of_decide_eq_true h;omega)|(simp only[*,cond_true,cond_false,Bool.not_true,Bool.not_false];done)|(rw[Km ‹_›];(first|have e1:decide (vs.getD 0 0<U1.1)=true:=‹_›|have e1:decide (vs.getD 0 0<U1.1)=false:=‹_›);simp only[*,cond_true,cond_false,Bool.not_true,Bool.not_false];first|done|rfl)|(simp only[Bool.not_eq_false',decide_eq_true_eq] at*;assumption)
def Z3 (a:Int) (b:Ls) (c:Li) (d:Bt):=(a,Vn,b,c,d)
def Jqr (a b:List Ev) (c:List Reg) (d:Int) (e:Ls) (f:Li) (g:Bt):=Da (a,b,c) (Z3 d e f g)
def Kj3 (a:TypeId) (b c:List Ev) (d:List Reg) (e:Int) (f:Ls) (g:Li) (h:Bt):=Sf true (Sf a (Sf (b,c,d) (10=Jqr b c d e f g h)))
def Kfn (a:TypeId) (b c:List Ev) (d:List Reg) (e:Int) (f:Ls) (g:Li) (h:Bt):=Sf true (Sf a (Sf (b,c,d) (9=Jqr b c d e f g h)))
def Kwl (a:TypeId) (b c:List Ev) (d:List Reg) (e:Int) (f:Ls) (g:Li) (h:Bt):=Br false (Kj3 a b c d e f g h) Jdw
def Ki6 (a:Ls) (b:Li):=Yq∧Yz a∧Z52 b∧Kha a
def Kug (a:Ls) (b:Li) (c:TypeId) (d e:List Ev) (f:List Reg) (g:Int) (h:Bt):=Ki6 a b∧Sf true (Sf c (Sf (d,e,f) (Jct [] a b=Jqr d e f g a b h)))
def J1o (a:List Reg) (b:Ls) (c:Li):=Yy a∧Yz b∧Z52 c∧Ke4 a b
def J7o (a:List Reg) (b:Ls) (c:Li) (d:TypeId) (e f:List Ev) (g:Int) (h:Bt):=J1o a b c∧Sf true (Sf d (Sf (e,f,a) (Jct (Hr a).1 b c=Jqr e f a g b c h)))
def J7h (a:Ls) (b:TypeId) (c d:List Ev) (e:List Reg) (f:Int) (g:Li) (h:Bt):=Br true (Z51∧Jf4 a∧Br false (Kfn b c d e f a g h) (Z33∧Br false (Jaf∧Jj9 a∧Br (Jsu a) (Kfn b c d e f a g h) Jdw) (Kug a g b c d e f h))) (Kug a g b c d e f h)
def J7a (a:Ls) (b:List Reg) (c:TypeId) (d e:List Ev) (f:Int) (g:Li) (h:Bt):=Br true (Z51∧Hc a b∧Br false (Kfn c d e b f a g h) (Z33∧Br false (Jaf∧Dc a b∧Br (Jda b a) (Kfn c d e b f a g h) Jdw) (J7o b a g c d e f h))) (J7o b a g c d e f h)
theorem Jq0 (T:TypeId) (E C:List Ev) (G:List Reg) (n:Int) (ns:List ByteArray) (vs:List Int) (tx:ByteArray):wpFO Tryz.prog W91.g (Xg 2) (fun _=>na ()) (Sx.look ([(75,Tryz.f75)]:List (Nat×Func))) Tryz.f130 Jp6 T (E,C,G) ((n,Vn,ns,vs,tx),()):=by
 refine(by kernel_rfl:(Ke (E,C,G)→Jb (Z3 n ns vs tx)=0→Z62 E∧Br (Jf9 n E) (Sf true (Sf T (Sf (E,C,G) (11=Jqr E C G n ns vs tx)))) (Br false (Br (Z2 C) (Sf true (Sf T (Sf (E,C,G) (12=Jqr E C G n ns vs tx)))) (Jf8 C∧Sf true (Sf T (Sf (E,C,G) (Jf7 C=Jqr E C G n ns vs tx))))) (Br (V0 G) (Vz G∧Z96 vs∧Br (Jf6 vs G) (Sf true (Sf T (Sf (E,C,G) (22=Jqr E C G n ns vs tx)))) (Br true (Z51∧Hd ns G∧Br (Jsg G ns) (Kj3 T E C G n ns vs tx) (Z33∧Br false (Jaf∧Db ns G∧Kwl T E C G n ns vs tx) (J7a ns G T E C n vs tx))) (J7a ns G T E C n vs tx))) (Z96 vs∧Br (Jga vs) (Sf true (Sf T (Sf (E,C,G) (22=Jqr E C G n ns vs tx)))) (Br true (Z51∧Jf5 ns∧Br (J9s ns) (Kj3 T E C G n ns vs tx) (Z33∧Br false (Jaf∧Jj8 ns∧Kwl T E C G n ns vs tx) (J7h ns T E C G n vs tx))) (J7h ns T E C G n vs tx))))))=_).mp ?_
 delta Z1 Z2 Z3 Z5 Z31 Z33 Z51 Z52 Z62 Z64 Z91 Z93 Z96 Z98 Le V0 Jol Yz L2 Jgc Jaf Jqr Jdw Jae Jga Kha Jw8 Jw7 Df Jf9 Jf8 Vz Vr Yq Jds Jbb D9 D8 Jad Hs Fu Hr De Zy J9y Jx7 Jf7 Kj3 Kfn Jsu J9s Jf6 Jf5 Jf4 Jj9 Ke4 Jj8 Kwl Ki6 Kug Ft V8 Yy X6 Xi Jsi Jgv Jda Jsg Hd Hc Dc Db J1o J7o J7h J7a Br Iw Bd T2 Tw Sf Ln Gt B0 Lb E2 Jh Vn
 intro hh hc
 have eK:=Yw (h:=(E,C,G)) (n:=n) (k:=Vn) (ns:=ns) (vs:=vs) (tx:=tx) (by kernel_rfl)
 obtain⟨hn,hv,hR,hr0,n1,n2,n3,hG,hV⟩:=H0 hh hc
 simp only[Vo,ckS,List.length_cons,List.length_nil] at eK hn hv
 rw[eK]
 simp only[hG,Jhc,Hu,Prod.eta,Jqh,Kj,Ku,Je6,Jgm,Je5,Jgl,cond_true,cond_false,Bool.not_true,Bool.not_false,Ja]
 repeat' first|apply And.intro|exact hV|intro _
 all_goals first|trivial|omega|assumption|(rename_i h;have h:=of_decide_eq_true h;omega)|(simp only[*,cond_true,cond_false,Bool.not_true,Bool.not_false];done)|(rw[Km ‹_›];(first|have e1:decide (vs.getD 0 0<U1.1)=true:=‹_›|have e1:decide (vs.getD 0 0<U1.1)=false:=‹_›);simp only[*,cond_true,cond_false,Bool.not_true,Bool.not_false];first|done|rfl)|(simp only[Bool.not_eq_false',decide_eq_true_eq] at*;assumption)
def Z15 (a:Int) (b:Ls) (c:Li) (d:Bt):=(a,Jz,b,c,d)
def Z57:=Tw (Bd 0 2)
def Jyg:=Tw (Bd ((0:Int)+1) 2)
def Jqn (a b:List Ev) (c:List Reg) (d:Int) (e:Ls) (f:Li) (g:Bt):=Da (a,b,c) (Z15 d e f g)
def Jya:=Tw (Bd Jol 2)
def J23:=J27∧False
def Klv (a:Li) (b:Ls):=Z49 a∧Kg9 b
def Kku (a:Ls):=Ve Vr 2 (Z93 a)
def J6f (a:TypeId) (b c:List Ev) (d:List Reg) (e:Int) (f:Ls) (g:Li) (h:Bt):=Sf true (Sf a (Sf (b,c,d) (9=Jqn b c d e f g h)))
def J9v (a:TypeId) (b c:List Ev) (d:List Reg) (e:Int) (f:Ls) (g:Li) (h:Bt):=Sf true (Sf a (Sf (b,c,d) (10=Jqn b c d e f g h)))
def Kjw (a:Ls):=bif true then Kf5 a else false
def Kjd (a:Li) (b:List Reg) (c:Ls):=Z49 a∧Kfb b c
def Kv7 (a:TypeId) (b c:List Ev) (d:List Reg) (e:Int) (f:Ls) (g:Li) (h:Bt):=Br false (J9v a b c d e f g h) J23
def Kih (a:Int) (b:Ls) (c:Li) (d:Bt) (e:TypeId) (f g:List Ev) (h:List Reg):=(Yq∧EvV (Z15 a b c d)∧Jqs b∧Klv c b)∧Sf true (Sf e (Sf (f,g,h) (Jb3 [] [] [] (Z15 a b c d)=Jqn f g h a b c d)))
def J1u (a:List Reg) (b:Ls):=Ve (V8 a) 2 (Z93 b)
def J1r (a:List Reg) (b:Ls):=bif true then Jxg a b else false
def J1h (a:List Reg) (b:Int) (c:Ls) (d:Li) (e:Bt) (f:TypeId) (g h:List Ev):=(Yy a∧EvV (Z15 b c d e)∧Jqs c∧Kjd d a c)∧Sf true (Sf f (Sf (g,h,a) (Jb3 (Hs a).1 (Hr a).1 (Zy a).1 (Z15 b c d e)=Jqn g h a b c d e)))
def J1f (a:Ls) (b:TypeId) (c d:List Ev) (e:List Reg) (f:Int) (g:Li) (h:Bt):=Br true (Z57∧Jf5 a∧Br (bif true then Kku a else false) (J6f b c d e f a g h) (Z33∧Br true (Jyg∧Jj8 a∧Br false (J6f b c d e f a g h) (Jgc∧Br false (Jya∧J9p a∧Br (Kjw a) (J6f b c d e f a g h) J23) (Kih f a g h b c d e))) (Kih f a g h b c d e))) (Kih f a g h b c d e)
def J1c (a:Ls) (b:List Reg) (c:TypeId) (d e:List Ev) (f:Int) (g:Li) (h:Bt):=Br true (Z57∧Hd a b∧Br (bif true then J1u b a else false) (J6f c d e b f a g h) (Z33∧Br true (Jyg∧Db a b∧Br false (J6f c d e b f a g h) (Jgc∧Br false (Jya∧Jse a b∧Br (J1r b a) (J6f c d e b f a g h) J23) (J1h b f a g h c d e))) (J1h b f a g h c d e))) (J1h b f a g h c d e)
theorem Jkk (T:TypeId) (E C:List Ev) (G:List Reg) (n:Int) (ns:List ByteArray) (vs:List Int) (tx:ByteArray):wpFO Tryz.prog W91.g (Xg 3) (fun _=>na ()) (Sx.look ([(75,Tryz.f75)]:List (Nat×Func))) Tryz.f130 Jp6 T (E,C,G) ((n,Jz,ns,vs,tx),()):=by
 refine(by kernel_rfl:(Ke (E,C,G)→Jb (Z15 n ns vs tx)=0→Z62 E∧Br (Jf9 n E) (Sf true (Sf T (Sf (E,C,G) (11=Jqn E C G n ns vs tx)))) (Br false (Br (Z2 C) (Sf true (Sf T (Sf (E,C,G) (12=Jqn E C G n ns vs tx)))) (Jf8 C∧Sf true (Sf T (Sf (E,C,G) (Jf7 C=Jqn E C G n ns vs tx))))) (Br (V0 G) (Vz G∧Z96 vs∧Br (Jf6 vs G) (Sf true (Sf T (Sf (E,C,G) (22=Jqn E C G n ns vs tx)))) (Br true (Z57∧Hc ns G∧Br false (J9v T E C G n ns vs tx) (Z33∧Br true (Jyg∧Dc ns G∧Br (J1q G ns) (J9v T E C G n ns vs tx) (Jgc∧Br false (Jya∧Jsd ns G∧Kv7 T E C G n ns vs tx) (J1c ns G T E C n vs tx))) (J1c ns G T E C n vs tx))) (J1c ns G T E C n vs tx))) (Z96 vs∧Br (Jga vs) (Sf true (Sf T (Sf (E,C,G) (22=Jqn E C G n ns vs tx)))) (Br true (Z57∧Jf4 ns∧Br false (J9v T E C G n ns vs tx) (Z33∧Br true (Jyg∧Jj9 ns∧Br (Kju ns) (J9v T E C G n ns vs tx) (Jgc∧Br false (Jya∧J9o ns∧Kv7 T E C G n ns vs tx) (J1f ns T E C G n vs tx))) (J1f ns T E C G n vs tx))) (J1f ns T E C G n vs tx))))))=_).mp ?_
 delta Z1 Z2 Z5 Z15 Z31 Z33 Z49 Z57 Z62 Z64 Z91 Z93 Z96 Z98 Jom Le V0 Jqs Jol Jj5 Jgc Jyg Jqn J61 Jae J27 Jga Jya J23 Jw8 Kg9 Jw7 Df Kg2 Jf9 Kg1 Jf8 Vz Vr Yq Klv Jds Jbb D9 D8 Jad Hs Fu Hr De Zy Kf5 Kku Jx7 Jf7 J6f J9v Kjw Kju Jf6 Jf5 Jf4 Kfb Jj9 Jj8 J9p J9o Kjd Kv7 Kih Ft V8 Yy X6 Xi Jxg J1u Jgv J1r J1q Hd Hc Dc Db Jse Jsd J1h J1f J1c Br Iw Bd T2 Tw Sf Ln Gt B0 Lb E2 Jz Jh
 intro hh hc
 have eK:=Yw (h:=(E,C,G)) (n:=n) (k:=Jz) (ns:=ns) (vs:=vs) (tx:=tx) (by kernel_rfl)
 obtain⟨hn,hv,hR,hr0,n1,n2,n3,hG,hV⟩:=H0 hh hc
 simp only[Kw,ckS,List.length_cons,List.length_nil] at eK hn hv
 rw[eK]
 simp only[hG,Jhc,Hu,Prod.eta,Jqh,Kj,Ku,Je6,Jgm,Je5,Jgl,cond_true,cond_false,Bool.not_true,Bool.not_false,Ja]
 repeat' first|apply And.intro|exact hV|intro _
 all_goals first|trivial|omega|assumption|(rename_i h;have h:=of_decide_eq_true h;omega)|(simp only[*,cond_true,cond_false,Bool.not_true,Bool.not_false];done)|(rw[Km ‹_›];(first|have e1:decide (vs.getD 0 0<U1.1)=true:=‹_›|have e1:decide (vs.getD 0 0<U1.1)=false:=‹_›);simp only[*,cond_true,cond_false,Bool.not_true,Bool.not_false];first|done|rfl)|(simp only[Bool.not_eq_false',decide_eq_true_eq] at*;assumption)
def Z32 (a:Int) (b:Ls) (c:Li) (d:Bt):=(a,Ju,b,c,d)
def Jqj (a b:List Ev) (c:List Reg) (d:Int) (e:Ls) (f:Li) (g:Bt):=Da (a,b,c) (Z32 d e f g)
def Kfj (a:TypeId) (b c:List Ev) (d:List Reg) (e:Int) (f:Ls) (g:Li) (h:Bt):=Sf true (Sf a (Sf (b,c,d) (9=Jqj b c d e f g h)))
def Kjz (a:TypeId) (b c:List Ev) (d:List Reg) (e:Int) (f:Ls) (g:Li) (h:Bt):=Sf true (Sf a (Sf (b,c,d) (10=Jqj b c d e f g h)))
def Kwf (a:TypeId) (b c:List Ev) (d:List Reg) (e:Int) (f:Ls) (g:Li) (h:Bt):=Br false (Kjz a b c d e f g h) Jdw
def Ki5 (a:Ls) (b:Li):=Yq∧Yz a∧Z52 b∧0≤J7 [] (L2 a)
def Kue (a:Ls) (b:Li) (c:TypeId) (d e:List Ev) (f:List Reg) (g:Int) (h:Bt):=Ki5 a b∧Sf true (Sf c (Sf (d,e,f) (Jcu [] [] a b=Jqj d e f g a b h)))
def J1n (a:List Reg) (b:Ls) (c:Li):=Yy a∧Yz b∧Z52 c∧0≤J7 (Zy a).1 (L2 b)
def J7k (a:List Reg) (b:Ls) (c:Li) (d:TypeId) (e f:List Ev) (g:Int) (h:Bt):=J1n a b c∧Sf true (Sf d (Sf (e,f,a) (Jcu (Zy a).1 (Zy a).2 b c=Jqj e f a g b c h)))
def J7f (a:Ls) (b:TypeId) (c d:List Ev) (e:List Reg) (f:Int) (g:Li) (h:Bt):=Br true (Z51∧Jf4 a∧Br false (Kfj b c d e f a g h) (Z33∧Br false (Jaf∧Jj9 a∧Br (Jsu a) (Kfj b c d e f a g h) Jdw) (Kue a g b c d e f h))) (Kue a g b c d e f h)
def J68 (a:Ls) (b:List Reg) (c:TypeId) (d e:List Ev) (f:Int) (g:Li) (h:Bt):=Br true (Z51∧Hc a b∧Br false (Kfj c d e b f a g h) (Z33∧Br false (Jaf∧Dc a b∧Br (Jda b a) (Kfj c d e b f a g h) Jdw) (J7k b a g c d e f h))) (J7k b a g c d e f h)
theorem Jh6 (T:TypeId) (E C:List Ev) (G:List Reg) (n:Int) (ns:List ByteArray) (vs:List Int) (tx:ByteArray):wpFO Tryz.prog W91.g (Xg 2) (fun _=>na ()) (Sx.look ([(75,Tryz.f75)]:List (Nat×Func))) Tryz.f130 Jp6 T (E,C,G) ((n,Ju,ns,vs,tx),()):=by
 refine(by kernel_rfl:(Ke (E,C,G)→Jb (Z32 n ns vs tx)=0→Z62 E∧Br (Jf9 n E) (Sf true (Sf T (Sf (E,C,G) (11=Jqj E C G n ns vs tx)))) (Br false (Br (Z2 C) (Sf true (Sf T (Sf (E,C,G) (12=Jqj E C G n ns vs tx)))) (Jf8 C∧Sf true (Sf T (Sf (E,C,G) (Jf7 C=Jqj E C G n ns vs tx))))) (Br (V0 G) (Vz G∧Z96 vs∧Br (Jf6 vs G) (Sf true (Sf T (Sf (E,C,G) (22=Jqj E C G n ns vs tx)))) (Br true (Z51∧Hd ns G∧Br (bif true then !J1u G ns else false) (Kjz T E C G n ns vs tx) (Z33∧Br false (Jaf∧Db ns G∧Kwf T E C G n ns vs tx) (J68 ns G T E C n vs tx))) (J68 ns G T E C n vs tx))) (Z96 vs∧Br (Jga vs) (Sf true (Sf T (Sf (E,C,G) (22=Jqj E C G n ns vs tx)))) (Br true (Z51∧Jf5 ns∧Br (bif true then !Kku ns else false) (Kjz T E C G n ns vs tx) (Z33∧Br false (Jaf∧Jj8 ns∧Kwf T E C G n ns vs tx) (J7f ns T E C G n vs tx))) (J7f ns T E C G n vs tx))))))=_).mp ?_
 delta Z1 Z2 Z5 Z31 Z32 Z33 Z51 Z52 Z62 Z64 Z91 Z93 Z96 Z98 Le V0 Jol Yz L2 Jgc Jaf Jqj Jdw Jae Jga Jw8 Jw7 Df Jf9 Jf8 Vz Vr Yq Jds Jbb D9 D8 Jad Hs Fu Hr De Zy Kku Jx7 Jf7 Kfj Kjz Jsu Jf6 Jf5 Jf4 Jj9 Jj8 Kwf Ki5 Kue Ft V8 Yy X6 Xi J1u Jgv Jda Hd Hc Dc Db J1n J7k J7f J68 Br Iw Bd T2 Tw Sf Ln Gt B0 Lb E2 Ju Jh
 intro hh hc
 have eK:=Yw (h:=(E,C,G)) (n:=n) (k:=Ju) (ns:=ns) (vs:=vs) (tx:=tx) (by kernel_rfl)
 obtain⟨hn,hv,hR,hr0,n1,n2,n3,hG,hV⟩:=H0 hh hc
 simp only[Kk,ckS,List.length_cons,List.length_nil] at eK hn hv
 rw[eK]
 simp only[hG,Jhc,Hu,Prod.eta,Jqh,Kj,Ku,Je6,Jgm,Je5,Jgl,cond_true,cond_false,Bool.not_true,Bool.not_false,Ja]
 repeat' first|apply And.intro|exact hV|intro _
 all_goals first|trivial|omega|assumption|(rename_i h;have h:=of_decide_eq_true h;omega)|(simp only[*,cond_true,cond_false,Bool.not_true,Bool.not_false];done)|(rw[Km ‹_›];(first|have e1:decide (vs.getD 0 0<U1.1)=true:=‹_›|have e1:decide (vs.getD 0 0<U1.1)=false:=‹_›);simp only[*,cond_true,cond_false,Bool.not_true,Bool.not_false];first|done|rfl)|(simp only[Bool.not_eq_false',decide_eq_true_eq] at*;assumption)
def Z17 (a:Int) (b:Ls) (c:Li) (d:Bt):=(a,Kd,b,c,d)
def Jqm (a b:List Ev) (c:List Reg) (d:Int) (e:Ls) (f:Li) (g:Bt):=Da (a,b,c) (Z17 d e f g)
def Kkt (a:Ls):=Ve Vr 3 (Z93 a)
def J9w (a:TypeId) (b c:List Ev) (d:List Reg) (e:Int) (f:Ls) (g:Li) (h:Bt):=Sf true (Sf a (Sf (b,c,d) (10=Jqm b c d e f g h)))
def J6e (a:TypeId) (b c:List Ev) (d:List Reg) (e:Int) (f:Ls) (g:Li) (h:Bt):=Sf true (Sf a (Sf (b,c,d) (9=Jqm b c d e f g h)))
def Kv6 (a:TypeId) (b c:List Ev) (d:List Reg) (e:Int) (f:Ls) (g:Li) (h:Bt):=Br false (J9w a b c d e f g h) J23
def Kim (a:Ls) (b:Li) (c:TypeId) (d e:List Ev) (f:List Reg) (g:Int) (h:Bt):=(Yq∧Jyi a∧Z52 b∧0≤J7 [] (Jj5 a))∧Sf true (Sf c (Sf (d,e,f) (Jcv [] [] a b=Jqm d e f g a b h)))
def J1v (a:List Reg) (b:Ls):=Ve (V8 a) 3 (Z93 b)
def J1j (a:List Reg) (b:Ls) (c:Li) (d:TypeId) (e f:List Ev) (g:Int) (h:Bt):=(Yy a∧Jyi b∧Z52 c∧0≤J7 (Zy a).1 (Jj5 b))∧Sf true (Sf d (Sf (e,f,a) (Jcv (Zy a).1 (Zy a).2 b c=Jqm e f a g b c h)))
def J1g (a:Ls) (b:TypeId) (c d:List Ev) (e:List Reg) (f:Int) (g:Li) (h:Bt):=Br true (Z57∧Jf5 a∧Br (bif true then Kkt a else false) (J6e b c d e f a g h) (Z33∧Br true (Jyg∧Jj8 a∧Br false (J6e b c d e f a g h) (Jgc∧Br false (Jya∧J9p a∧Br (Kjw a) (J6e b c d e f a g h) J23) (Kim a g b c d e f h))) (Kim a g b c d e f h))) (Kim a g b c d e f h)
def J1e (a:Ls) (b:List Reg) (c:TypeId) (d e:List Ev) (f:Int) (g:Li) (h:Bt):=Br true (Z57∧Hd a b∧Br (bif true then J1v b a else false) (J6e c d e b f a g h) (Z33∧Br true (Jyg∧Db a b∧Br false (J6e c d e b f a g h) (Jgc∧Br false (Jya∧Jse a b∧Br (J1r b a) (J6e c d e b f a g h) J23) (J1j b a g c d e f h))) (J1j b a g c d e f h))) (J1j b a g c d e f h)
theorem Jkj (T:TypeId) (E C:List Ev) (G:List Reg) (n:Int) (ns:List ByteArray) (vs:List Int) (tx:ByteArray):wpFO Tryz.prog W91.g (Xg 3) (fun _=>na ()) (Sx.look ([(75,Tryz.f75)]:List (Nat×Func))) Tryz.f130 Jp6 T (E,C,G) ((n,Kd,ns,vs,tx),()):=by
 refine(by kernel_rfl:(Ke (E,C,G)→Jb (Z17 n ns vs tx)=0→Z62 E∧Br (Jf9 n E) (Sf true (Sf T (Sf (E,C,G) (11=Jqm E C G n ns vs tx)))) (Br false (Br (Z2 C) (Sf true (Sf T (Sf (E,C,G) (12=Jqm E C G n ns vs tx)))) (Jf8 C∧Sf true (Sf T (Sf (E,C,G) (Jf7 C=Jqm E C G n ns vs tx))))) (Br (V0 G) (Vz G∧Z96 vs∧Br (Jf6 vs G) (Sf true (Sf T (Sf (E,C,G) (22=Jqm E C G n ns vs tx)))) (Br true (Z57∧Hc ns G∧Br false (J9w T E C G n ns vs tx) (Z33∧Br true (Jyg∧Dc ns G∧Br (bif true then !Ve (V8 G) 2 (Le ns) else false) (J9w T E C G n ns vs tx) (Jgc∧Br false (Jya∧Jsd ns G∧Kv6 T E C G n ns vs tx) (J1e ns G T E C n vs tx))) (J1e ns G T E C n vs tx))) (J1e ns G T E C n vs tx))) (Z96 vs∧Br (Jga vs) (Sf true (Sf T (Sf (E,C,G) (22=Jqm E C G n ns vs tx)))) (Br true (Z57∧Jf4 ns∧Br false (J9w T E C G n ns vs tx) (Z33∧Br true (Jyg∧Jj9 ns∧Br (bif true then !Ve Vr 2 (Le ns) else false) (J9w T E C G n ns vs tx) (Jgc∧Br false (Jya∧J9o ns∧Kv6 T E C G n ns vs tx) (J1g ns T E C G n vs tx))) (J1g ns T E C G n vs tx))) (J1g ns T E C G n vs tx))))))=_).mp ?_
 delta Z1 Z2 Z5 Z17 Z31 Z33 Z52 Z57 Z62 Z64 Z91 Z93 Z96 Z98 Jom Le V0 Jol Jyi Jj5 Jgc Jyg Jqm J61 Jae J27 Jga Jya J23 Jw8 Jw7 Df Kg2 Jf9 Kg1 Jf8 Vz Vr Yq Jds Jbb D9 D8 Jad Hs Fu Hr De Zy Kf5 Kkt Jf7 J9w J6e Kjw Jf6 Jf5 Jf4 Jj9 Jj8 J9p J9o Kv6 Kim Ft V8 Yy X6 Xi Jxg J1v J1r Hd Hc Dc Db Jse Jsd J1j J1g J1e Br Iw Bd T2 Tw Sf Ln Gt B0 Lb E2 Kd Jh
 intro hh hc
 have eK:=Yw (h:=(E,C,G)) (n:=n) (k:=Kd) (ns:=ns) (vs:=vs) (tx:=tx) (by kernel_rfl)
 obtain⟨hn,hv,hR,hr0,n1,n2,n3,hG,hV⟩:=H0 hh hc
 simp only[K6,ckS,List.length_cons,List.length_nil] at eK hn hv
 rw[eK]
 simp only[hG,Jhc,Hu,Prod.eta,Jqh,Kj,Ku,Je6,Jgm,Je5,Jgl,cond_true,cond_false,Bool.not_true,Bool.not_false,Ja]
 repeat' first|apply And.intro|exact hV|intro _
 all_goals first|trivial|omega|assumption|(rename_i h;have h:=of_decide_eq_true h;omega)|(simp only[*,cond_true,cond_false,Bool.not_true,Bool.not_false];done)|(rw[Km ‹_›];(first|have e1:decide (vs.getD 0 0<U1.1)=true:=‹_›|have e1:decide (vs.getD 0 0<U1.1)=false:=‹_›);simp only[*,cond_true,cond_false,Bool.not_true,Bool.not_false];first|done|rfl)|(simp only[Bool.not_eq_false',decide_eq_true_eq] at*;assumption)
def Z21 (a:Int) (b:Ls) (c:Li) (d:Bt):=(a,Kc,b,c,d)
def Jql (a b:List Ev) (c:List Reg) (d:Int) (e:Ls) (f:Li) (g:Bt):=Da (a,b,c) (Z21 d e f g)
def Kfk (a:TypeId) (b c:List Ev) (d:List Reg) (e:Int) (f:Ls) (g:Li) (h:Bt):=Sf true (Sf a (Sf (b,c,d) (9=Jql b c d e f g h)))
def Kj0 (a:TypeId) (b c:List Ev) (d:List Reg) (e:Int) (f:Ls) (g:Li) (h:Bt):=Sf true (Sf a (Sf (b,c,d) (10=Jql b c d e f g h)))
def Kjk (a:Ls):=Yq∧Yz a∧0≤U0 [] (L2 a)
def Kwg (a:TypeId) (b c:List Ev) (d:List Reg) (e:Int) (f:Ls) (g:Li) (h:Bt):=Br false (Kj0 a b c d e f g h) Jdw
def Kuq (a:Ls) (b:TypeId) (c d:List Ev) (e:List Reg) (f:Int) (g:Li) (h:Bt):=Kjk a∧Sf true (Sf b (Sf (c,d,e) (Jn6 [] a=Jql c d e f a g h)))
def J1p (a:List Reg) (b:Ls):=Yy a∧Yz b∧0≤U0 (Zy a).2 (L2 b)
def J7p (a:List Reg) (b:Ls) (c:TypeId) (d e:List Ev) (f:Int) (g:Li) (h:Bt):=J1p a b∧Sf true (Sf c (Sf (d,e,a) (Jn6 (Zy a).2 b=Jql d e a f b g h)))
def J7j (a:Ls) (b:TypeId) (c d:List Ev) (e:List Reg) (f:Int) (g:Li) (h:Bt):=Br true (Z51∧Jf4 a∧Br false (Kfk b c d e f a g h) (Z33∧Br false (Jaf∧Jj9 a∧Br (Jsu a) (Kfk b c d e f a g h) Jdw) (Kuq a b c d e f g h))) (Kuq a b c d e f g h)
def J7b (a:Ls) (b:List Reg) (c:TypeId) (d e:List Ev) (f:Int) (g:Li) (h:Bt):=Br true (Z51∧Hc a b∧Br false (Kfk c d e b f a g h) (Z33∧Br false (Jaf∧Dc a b∧Br (Jda b a) (Kfk c d e b f a g h) Jdw) (J7p b a c d e f g h))) (J7p b a c d e f g h)
theorem Jki (T:TypeId) (E C:List Ev) (G:List Reg) (n:Int) (ns:List ByteArray) (vs:List Int) (tx:ByteArray):wpFO Tryz.prog W91.g (Xg 2) (fun _=>na ()) (Sx.look ([(75,Tryz.f75)]:List (Nat×Func))) Tryz.f130 Jp6 T (E,C,G) ((n,Kc,ns,vs,tx),()):=by
 refine(by kernel_rfl:(Ke (E,C,G)→Jb (Z21 n ns vs tx)=0→Z62 E∧Br (Jf9 n E) (Sf true (Sf T (Sf (E,C,G) (11=Jql E C G n ns vs tx)))) (Br false (Br (Z2 C) (Sf true (Sf T (Sf (E,C,G) (12=Jql E C G n ns vs tx)))) (Jf8 C∧Sf true (Sf T (Sf (E,C,G) (Jf7 C=Jql E C G n ns vs tx))))) (Br (V0 G) (Vz G∧Z96 vs∧Br (Jf6 vs G) (Sf true (Sf T (Sf (E,C,G) (22=Jql E C G n ns vs tx)))) (Br true (Z51∧Hd ns G∧Br (bif true then !J1v G ns else false) (Kj0 T E C G n ns vs tx) (Z33∧Br false (Jaf∧Db ns G∧Kwg T E C G n ns vs tx) (J7b ns G T E C n vs tx))) (J7b ns G T E C n vs tx))) (Z96 vs∧Br (Jga vs) (Sf true (Sf T (Sf (E,C,G) (22=Jql E C G n ns vs tx)))) (Br true (Z51∧Jf5 ns∧Br (bif true then !Kkt ns else false) (Kj0 T E C G n ns vs tx) (Z33∧Br false (Jaf∧Jj8 ns∧Kwg T E C G n ns vs tx) (J7j ns T E C G n vs tx))) (J7j ns T E C G n vs tx))))))=_).mp ?_
 delta Z1 Z2 Z5 Z21 Z31 Z33 Z51 Z62 Z64 Z91 Z93 Z96 Z98 Le V0 Jol Yz L2 Jgc Jaf Jql Jdw Jae Jga Jw8 Jw7 Df Jf9 Jf8 Vz Vr Yq Jds Jbb D9 D8 Jad Hs Fu Hr De Zy Kkt Jx7 Jf7 Kfk Kj0 Jsu Jf6 Jf5 Jf4 Jj9 Jj8 Kjk Kwg Kuq Ft V8 Yy X6 Xi J1v Jgv Jda Hd Hc Dc Db J1p J7p J7j J7b Br Iw Bd T2 Tw Sf Ln Gt B0 Lb E2 Kc Jh
 intro hh hc
 have eK:=Yw (h:=(E,C,G)) (n:=n) (k:=Kc) (ns:=ns) (vs:=vs) (tx:=tx) (by kernel_rfl)
 obtain⟨hn,hv,hR,hr0,n1,n2,n3,hG,hV⟩:=H0 hh hc
 simp only[K5,ckS,List.length_cons,List.length_nil] at eK hn hv
 rw[eK]
 simp only[hG,Jhc,Hu,Prod.eta,Jqh,Kj,Ku,Je6,Jgm,Je5,Jgl,cond_true,cond_false,Bool.not_true,Bool.not_false,Ja]
 repeat' first|apply And.intro|exact hV|intro _
 all_goals first|trivial|omega|assumption|(rename_i h;have h:=of_decide_eq_true h;omega)|(simp only[*,cond_true,cond_false,Bool.not_true,Bool.not_false];done)|(rw[Km ‹_›];(first|have e1:decide (vs.getD 0 0<U1.1)=true:=‹_›|have e1:decide (vs.getD 0 0<U1.1)=false:=‹_›);simp only[*,cond_true,cond_false,Bool.not_true,Bool.not_false];first|done|rfl)|(simp only[Bool.not_eq_false',decide_eq_true_eq] at*;assumption)
def Z18 (a:Int) (b:Ls) (c:Li) (d:Bt):=(a,Jh,b,c,d)
def Jok (a b:List Ev) (c:List Reg) (d:Int) (e:Ls) (f:Li) (g:Bt):=Da (a,b,c) (Z18 d e f g)
def Kwn (a:TypeId) (b c:List Ev) (d:List Reg) (e:Int) (f:Ls) (g:Li) (h:Bt):=Br false (Sf true (Sf a (Sf (b,c,d) (10=Jok b c d e f g h)))) J3c
theorem Jkh (T:TypeId) (E C:List Ev) (G:List Reg) (n:Int) (ns:List ByteArray) (vs:List Int) (tx:ByteArray):wpFO Tryz.prog W91.g (Xg 1) (fun _=>na ()) (Sx.look ([(75,Tryz.f75)]:List (Nat×Func))) Tryz.f130 Jp6 T (E,C,G) ((n,Jh,ns,vs,tx),()):=by
 refine(by kernel_rfl:(Ke (E,C,G)→Jb (Z18 n ns vs tx)=0→Z62 E∧Br (Jf9 n E) (Sf true (Sf T (Sf (E,C,G) (11=Jok E C G n ns vs tx)))) (Br false (Br (Z2 C) (Sf true (Sf T (Sf (E,C,G) (12=Jok E C G n ns vs tx)))) (Jf8 C∧Sf true (Sf T (Sf (E,C,G) (Jf7 C=Jok E C G n ns vs tx))))) (Br (V0 G) (Vz G∧Z96 vs∧Br (Jf6 vs G) (Sf true (Sf T (Sf (E,C,G) (22=Jok E C G n ns vs tx)))) (Br false (Z53∧Hc ns G∧Kwn T E C G n ns vs tx) (Br false (Z53∧Hd ns G∧Br (Jsh G ns) (Sf true (Sf T (Sf (E,C,G) (9=Jok E C G n ns vs tx)))) J3c) (Jsj G vs∧Sf true (Sf T (Sf (E,C,G) (Lz (Fu G) (Hr G).1 (De G).1 (Zy G).1 (Zy G).2 vs=Jok E C G n ns vs tx))))))) (Z96 vs∧Br (Jga vs) (Sf true (Sf T (Sf (E,C,G) (22=Jok E C G n ns vs tx)))) (Br false (Z53∧Jf4 ns∧Kwn T E C G n ns vs tx) (Br false (Z53∧Jf5 ns∧Br (J9u ns) (Sf true (Sf T (Sf (E,C,G) (9=Jok E C G n ns vs tx)))) J3c) (J91 vs∧Sf true (Sf T (Sf (E,C,G) (Lz 0 [] [] [] [] vs=Jok E C G n ns vs tx))))))))))=_).mp ?_
 delta Z1 Z2 Z5 Z18 Z31 Z33 Z53 Z58 Z62 Z64 Z91 Z93 Z96 Z98 V0 J3c Jok Jae Jga Df Jf9 Jf8 Vz Vr Yq Jds Jbb D9 D8 Jad J91 Hs Fu Hr De Zy J20 Jf7 J9u Jf6 Jf5 Jf4 Kwn Ft V8 Yy X6 Xi Jsj Jmf Jsh Hd Hc Br Iw Bd T2 Tw Sf Ln Gt B0 Lb E2 Jh
 intro hh hc
 have eK:=Yw (h:=(E,C,G)) (n:=n) (k:=Jh) (ns:=ns) (vs:=vs) (tx:=tx) (by kernel_rfl)
 obtain⟨hn,hv,hR,hr0,n1,n2,n3,hG,hV⟩:=H0 hh hc
 simp only[Ut,ckS,List.length_cons,List.length_nil] at eK hn hv
 rw[eK]
 simp only[hG,Jhc,Hu,Prod.eta,Jqh,Kj,Ku,Je6,Jgm,Je5,Jgl,cond_true,cond_false,Bool.not_true,Bool.not_false,Ja]
 repeat' first|apply And.intro|exact hV|intro _
 all_goals first|trivial|omega|assumption|(rename_i h;have h:=of_decide_eq_true h;omega)|(simp only[*,cond_true,cond_false,Bool.not_true,Bool.not_false];done)|(rw[Km ‹_›];(first|have e1:decide (vs.getD 0 0<U1.1)=true:=‹_›|have e1:decide (vs.getD 0 0<U1.1)=false:=‹_›);simp only[*,cond_true,cond_false,Bool.not_true,Bool.not_false];first|done|rfl)|(simp only[Bool.not_eq_false',decide_eq_true_eq] at*;assumption)
theorem Lt {a b:ByteArray} (h:(a.toList==b.toList)=true):a=b:=by
 have h:=eq_of_beq h
 rw[Lib.toList_data,Lib.toList_data] at h
 cases a;cases b
 congr
 exact Array.toList_inj.1 h
theorem Juz {a b:ByteArray} (h:D7 .str a b=true):a=b:=Lt h
theorem Jet {β:Type} {ks:Sch} {k:ks.T}:∀{l:List (ks.T×β)},(Uj ks k l).isSome=true→∃x∈l,D7 ks k x.1=true
 |[],h=>by cases h
 | x :: l, h => by
  unfold Uj at h
  by_cases hx:D7 ks k x.1=true
  ·exact⟨x,List.mem_cons_self ..,hx⟩
  ·rw[if_neg hx] at h
   obtain⟨y,h1,h2⟩:=Jet h
   exact⟨y,List.mem_cons_of_mem _ h1,h2⟩
theorem Vc {k:ByteArray} (h:Yr k=true):k=J2∨k=Jy∨k=K9∨k=Kl∨k=K3∨k=Vn∨k=Jz∨k=Ju∨k=Kd∨k=Kc∨k=Jh:=by
 obtain⟨x,hx,hk⟩:=Jet h
 have hk:=Juz hk
 unfold Lx at hx
 subst hk
 rcases List.mem_cons.1 hx with rfl|hx
 ·exact .inl rfl
 rcases List.mem_cons.1 hx with rfl|hx
 ·exact .inr (.inl rfl)
 rcases List.mem_cons.1 hx with rfl|hx
 ·exact .inr (.inr (.inl rfl))
 rcases List.mem_cons.1 hx with rfl|hx
 ·exact .inr (.inr (.inr (.inl rfl)))
 rcases List.mem_cons.1 hx with rfl|hx
 ·exact .inr (.inr (.inr (.inr (.inl rfl))))
 rcases List.mem_cons.1 hx with rfl|hx
 ·exact .inr (.inr (.inr (.inr (.inr (.inl rfl)))))
 rcases List.mem_cons.1 hx with rfl|hx
 ·exact .inr (.inr (.inr (.inr (.inr (.inr (.inl rfl))))))
 rcases List.mem_cons.1 hx with rfl|hx
 ·exact .inr (.inr (.inr (.inr (.inr (.inr (.inr (.inl rfl)))))))
 rcases List.mem_cons.1 hx with rfl|hx
 ·exact .inr (.inr (.inr (.inr (.inr (.inr (.inr (.inr (.inl rfl))))))))
 rcases List.mem_cons.1 hx with rfl|hx
 ·exact .inr (.inr (.inr (.inr (.inr (.inr (.inr (.inr (.inr (.inl rfl)))))))))
 rcases List.mem_cons.1 hx with rfl|hx
 ·exact .inr (.inr (.inr (.inr (.inr (.inr (.inr (.inr (.inr (.inr rfl)))))))))
 cases hx
theorem Jau:∀{l:List Prop} {q:Prop},(Un l→J4l l q)→J4l l q
 |[],_,h=>h trivial
 |[_],_,h=>fun hp=>h hp hp
 |_::p'::r,_,h=>fun hp=>Jau (l:=p'::r) fun hr=>h ⟨hp,hr⟩ hp
theorem Jh2 {Γ:Gam} {ann:Nat→Option Ann} {annF:FuncId→Nat→Option Ann} {lib:FuncId→Option Func} {fn:Func} {c:Xu} {T:TypeId} {x:c.s.T} {y:ATup c.args} (hb:fn.body.isSome=true) (h:Un (c.pre x y)→wpFO Tryz.prog Γ ann annF lib fn c T x y):wpFO Tryz.prog Γ ann annF lib fn c T x y:=by
 unfold wpFO at h⊢
 cases hc:fn.body with
 |none=>rw[hc] at hb;cases hb
 |some code=>
  rw[hc] at h
  exact Jau h
def Jbk (k:ByteArray):Nat:=if k=J2 then 1 else(Ji k).1.length+1
theorem Koj (T:TypeId):∀(x:Kn) (y:ATup [aEv]),wpFO Tryz.prog W91.g (Xg (Jbk y.1.2.1)) (fun _=>na ()) (Sx.look ([(75,Tryz.f75)]:List (Nat×Func))) Tryz.f130 Jp6 T x y
 |(E,C,G),((n,k,ns,vs,tx),())=>by
  refine Jh2 (by kernel_rfl) fun hp=> ?_
  have hc:Jb (n,k,ns,vs,tx)=0:=hp.2
  rcases Vc (Ul hc).kind with h|h|h|h|h|h|h|h|h|h|h<;>dsimp only at h<;>subst h
  ·exact(show Jbk J2=1 from by kernel_rfl)▸Jqz T E C G n ns vs tx
  ·exact(show Jbk Jy=2 from by kernel_rfl)▸Jh5 T E C G n ns vs tx
  ·exact(show Jbk K9=2 from by kernel_rfl)▸Jmv T E C G n ns vs tx
  ·exact(show Jbk Kl=4 from by kernel_rfl)▸Jmw T E C G n ns vs tx
  ·exact(show Jbk K3=2 from by kernel_rfl)▸Jmx T E C G n ns vs tx
  ·exact(show Jbk Vn=2 from by kernel_rfl)▸Jq0 T E C G n ns vs tx
  ·exact(show Jbk Jz=3 from by kernel_rfl)▸Jkk T E C G n ns vs tx
  ·exact(show Jbk Ju=2 from by kernel_rfl)▸Jh6 T E C G n ns vs tx
  ·exact(show Jbk Kd=3 from by kernel_rfl)▸Jkj T E C G n ns vs tx
  ·exact(show Jbk Kc=2 from by kernel_rfl)▸Jki T E C G n ns vs tx
  ·exact(show Jbk Jh=1 from by kernel_rfl)▸Jkh T E C G n ns vs tx
theorem Kb4:Ok Tryz.prog 130 (Xu.con Jp6):=X0 (Ub mixed W91.ok (by kernel_rfl) (by kernel_rfl) (U5 (l:=([(75,Tryz.f75)]:List (Nat×Func))) (List.forall_mem_cons.2 ⟨by kernel_rfl,by simp⟩)) (fun _ yy=>Xg (Jbk yy.1.2.1)) (fun _ _=>fun _=>na ()) fun T xx yy _=>Koj T xx yy)
abbrev W92:=W91.add Kb4
def doS (r:Reg) (e:Ev):Reg:=match(Ji e.2.1).2.2.2.1 with
 |some 149=>Ja0 r e
 |some 153=>Fl r e
 |some 155=>Fp r e
 |some 158=>Fq r e
 |some 160=>Fk r e
 |some 162=>Fn r e
 |some 165=>Fm r e
 |some 167=>Fo r e
 |some 170=>Jgo r e
 |some 172=>Jaz r e
 |_=>r
def Js (r:Reg) (e:Ev):Reg:=(e.2.2.2.1.getD 0 0,(doS r e).2)
def D3 (h:Kn) (e:Ev):Kn:=
 bif e.2.1.toList==J2.toList then(h.1++[e],h.2.1.take (h.2.1.length-1),h.2.2.take (h.2.1.length-1)) else(h.1++[e],h.2.1++[e],h.2.2++[Js (Kf h.2.2) e])
def Um (h:Kn) (e:Ev):Int:=if Jb e≠0 then Jb e else Da h e
def Jfj (e:Ev):Prop:=e.2.2.1.length≤1000000∧e.2.2.2.1.length≤1000000∧∀s∈e.2.2.1,s.size≤1000000
def Vi (h:Kn) (e:Ev):Kn:=if Um h e=0 then D3 h e else h
def Kic:Xu:={T? :=none,s:=Jiu,args:=[aEv],ress:=[I],pre:=fun h (e,_)=>[Ke h,h.1.length<1000,Jfj e],spec:=fun h (e,_)=>(Um h e,()),post:=fun h (e,_)=>Vi h e}
def Jb5:Xu:={Kic with pre:=fun h (e,_)=>[Ke h,h.1.length<1000,Jfj e,Jb e=0,Da h e=0]}
theorem Jba {h:Kn} {n:Int} {ns:List ByteArray} {vs:List Int} {roles:List (Int×Bool)} {ck:Int} (e:Jqh h n ns vs roles ck=0):n=(h.1.length:Int)+1∧¬vs.getD 0 0<(Kf h.2.2).1∧Kj (Kf h.2.2) ns roles 0=false∧Ku (Kf h.2.2) ns roles 0=false∧ck=0:=by
 unfold Jqh at e
 cases h1:n !=(h.1.length:Int)+1 with
 |true=>rw[h1] at e;cases e
 | false =>
  rw[h1,cond_false] at e
  cases h2:decide (vs.getD 0 0<(Kf h.2.2).1) with
  |true=>rw[h2] at e;cases e
  | false =>
   rw[h2,cond_false] at e
   cases h3:Kj (Kf h.2.2) ns roles 0 with
   |true=>rw[h3] at e;cases e
   | false =>
    rw[h3,cond_false] at e
    cases h4:Ku (Kf h.2.2) ns roles 0 with
    |true=>rw[h4] at e;cases e
    |false=>
     rw[h4,cond_false] at e
     exact⟨bne_eq_false_iff_eq.1 h1,of_decide_eq_false h2,rfl,rfl,e⟩
theorem Jn {r:Reg} {ns:List ByteArray} {w:Int} {b:Bool} {l:List (Int×Bool)} {i:Nat} (h:Kj r ns ((w,b)::l) i=false):(b=true→Ve r w (ns.getD i Ja)=true)∧Kj r ns l (i+1)=false:=by
 unfold Kj at h
 cases b with
 |false=>exact⟨fun f=>(by cases f),h⟩
 |true=>
  cases h1:Ve r w (ns.getD i Ja) with
  |true=>rw[h1] at h;exact⟨fun _=>rfl,h⟩
  |false=>rw[h1] at h;cases h
theorem Jry {r:Reg} {s:ByteArray} (h:Ve r 0 s=true):0≤Jx r.2.2.1 s:=of_decide_eq_true (show decide _=true from h)
theorem J2j {r:Reg} {s:ByteArray} (h:Ve r 1 s=true):0≤Kx r.2.2.2.1 s:=of_decide_eq_true (show decide _=true from h)
theorem J2i {r:Reg} {s:ByteArray} (h:Ve r 2 s=true):0≤J7 r.2.2.2.2.2.1 s:=of_decide_eq_true (show decide _=true from h)
theorem Kia {r:Reg} {s:ByteArray} (h:Ve r 3 s=true):0≤U0 r.2.2.2.2.2.2 s:=of_decide_eq_true (show decide _=true from h)
theorem Jze {h:Kn} {n:Int} {k:ByteArray} {ns:List ByteArray} {vs:List Int} {tx:ByteArray} (hk:(k.toList==J2.toList)=false) (hc:Jb (n,k,ns,vs,tx)=0) (ha:Da h (n,k,ns,vs,tx)=0):Um h (n,k,ns,vs,tx)=0∧Vi h (n,k,ns,vs,tx)=(h.1++[(n,k,ns,vs,tx)],h.2.1++[(n,k,ns,vs,tx)],h.2.2++[Js (Kf h.2.2) (n,k,ns,vs,tx)]):=by
 have e:Um h (n,k,ns,vs,tx)=0:=by unfold Um;rw[if_neg (by rw[hc];simp)];exact ha
 refine⟨e, ?_⟩
 unfold Vi;rw[if_pos e];unfold D3;dsimp only;rw[hk];rfl
theorem Jgh {E C:List Ev} {G:List Reg} {n:Int} {k:ByteArray} {ns:List ByteArray} {vs:List Int} {tx:ByteArray} (hk:(k.toList==J2.toList)=false) (hc:Jb (n,k,ns,vs,tx)=0) (ha:Da (E,C,G) (n,k,ns,vs,tx)=0):Kj (Kf G) ns (Ji k).1 0=false∧Um (E,C,G) (n,k,ns,vs,tx)=0∧Vi (E,C,G) (n,k,ns,vs,tx)=(E++[(n,k,ns,vs,tx)],C++[(n,k,ns,vs,tx)],G++[Js (Kf G) (n,k,ns,vs,tx)]):=
 have e:=Yw (h:=(E,C,G)) (n:=n) (ns:=ns) (vs:=vs) (tx:=tx) hk
 ⟨(Jba (e.symm.trans ha)).2.2.1,Jze hk hc ha⟩
theorem J0y {h:Kn} {n:Int} {ns:List ByteArray} {vs:List Int} {tx:ByteArray} (ha:Da h (n,J2,ns,vs,tx)=0):n=(h.1.length:Int)+1∧h.2.1.length≠0∧((h.2.1.getD (h.2.1.length-1) ev0).2.1.toList==Jh.toList)=false:=by
 unfold Da at ha
 dsimp only at ha
 rw[show(J2.toList==J2.toList)=true from by kernel_rfl,cond_true] at ha
 cases h1:n !=(h.1.length:Int)+1 with
 |true=>rw[h1] at ha;cases ha
 | false =>
  rw[h1,cond_false] at ha
  cases h2:(h.2.1.length:Int)==0 with
  |true=>rw[h2] at ha;cases ha
  |false=>
   rw[h2,cond_false] at ha
   cases h3:(h.2.1.getD (h.2.1.length-1) ev0).2.1.toList==Jh.toList with
   |true=>rw[h3] at ha;cases ha
   |false=>exact⟨bne_eq_false_iff_eq.1 h1,(fun e=>by rw[e] at h2;cases h2),rfl⟩
def Z42 (a:List Ev):=List.length a<1000
def Jc9 (a:List Ev):=(List.length a+1)*88≤140737488355328
def Jdu:=0≤1000000∧T2 (0≤1000000) (Tw (0≤1000000))
def Jdt (a:List Ev) (b:List Reg):=(List.take (Int.toNat (Z1 a)) a,List.take (Int.toNat (Z1 a)) b)
def Fa (a:List Ev) (b:List Reg):=Jc9 a∧(List.length b+1)*136≤140737488355328
def Jdr (a:List Ev) (b:List Reg):=(0≤Z1 a∧Z1 a≤Ln a)∧0≤Z1 a∧Z1 a≤Ln b
def Jdq (a:Ls) (b:Li):=Jbc a∧Z54 b∧Jhs a
def Jdp (a:List Reg):=List.length (Hs a).1≤1000000∧List.length (Hr a).1≤1000000∧List.length (De a).1≤1000000∧List.length (Zy a).1≤1000000∧List.length (Zy a).2≤1000000
theorem Jq1 (T:TypeId) (E C:List Ev) (G:List Reg) (n:Int) (ns:List ByteArray) (vs:List Int) (tx:ByteArray):wpFO Tryz.prog W92.g (na ()) (fun _=>na ()) (Sx.look ([(75,Tryz.f75),(129,Tryz.f129)]:List (Nat×Func))) Tryz.f121 Jb5 T (E,C,G) ((n,J2,ns,vs,tx),()):=by
 refine(by kernel_rfl:(Ke (E,C,G)→Z42 E→Jfj (Z0 n ns vs tx)→Jb (Z0 n ns vs tx)=0→Jsb E C G n ns vs tx=0→Jdq ns vs∧Br (Jb (Z0 n ns vs tx) !=0) (Sf true (Sf T ((E,C,G)=Vi (E,C,G) (Z0 n ns vs tx)∧Jb (Z0 n ns vs tx)=Um (E,C,G) (Z0 n ns vs tx)))) ((Ke (E,C,G)∧Jb (Z0 n ns vs tx)=0)∧Br (Jsb E C G n ns vs tx !=0) (Sf true (Sf T ((E,C,G)=Vi (E,C,G) (Z0 n ns vs tx)∧Jsb E C G n ns vs tx=Um (E,C,G) (Z0 n ns vs tx)))) (Jc0 ns vs∧Jc9 E∧Br true (Z64 C∧Jdr C G∧Sf true (Sf T ((E++[Z0 n ns vs tx],Jdt C G)=Vi (E,C,G) (Z0 n ns vs tx)∧0=Um (E,C,G) (Z0 n ns vs tx)))) (Br (V0 G) (Vz G∧Jdp G∧False∧Z96 vs∧Fa C G∧Sf true (Sf T ((E++[Z0 n ns vs tx],C++[Z0 n ns vs tx],G++[(Z98 vs,Ft G)])=Vi (E,C,G) (Z0 n ns vs tx)∧0=Um (E,C,G) (Z0 n ns vs tx)))) (Jdu∧False∧Z96 vs∧Fa C G∧Sf true (Sf T ((E++[Z0 n ns vs tx],C++[Z0 n ns vs tx],G++[(Z98 vs,Df)])=Vi (E,C,G) (Z0 n ns vs tx)∧0=Um (E,C,G) (Z0 n ns vs tx))))))))=_).mp ?_
 delta Z0 Z1 Z31 Z42 Z54 Z64 Z96 Z98 V0 Jbc Jsb Jc9 Jgu Jc0 Df Jdu Vz Vr Jdt Jhs Fa D9 D8 Hs Fu Hr De Zy Jdr Jdq Ft Jdp Br Iw Bd T2 Tw Sf Ln Gt E2 J2
 intro hh hlt hsz hc ha
 obtain⟨a1,a2,a3⟩:=J0y ha
 have n1:E.length≤1000:=hh.nE
 have n2:C.length≤E.length:=hh.nC
 have n3:G.length=C.length:=hh.nG
 have a2:C.length≠0:=a2
 have hC:((C.length:Int)-1).toNat=C.length-1:=by omega
 have eE:Um (E,C,G) (n,J2,ns,vs,tx)=0:=by unfold Um;rw[if_neg (by rw[hc];simp)];exact ha
 have eP:Vi (E,C,G) (n,J2,ns,vs,tx)=(E++[(n,J2,ns,vs,tx)],C.take (C.length-1),G.take (C.length-1)):=by
  unfold Vi;rw[if_pos eE];unfold D3;dsimp only;rw[show(J2.toList==J2.toList)=true from by kernel_rfl];rfl
 simp only[eE,eP,hc,ha,hC]
 repeat' first|exact hh|exact hsz.2.2|apply And.intro|intro _
 all_goals first|trivial|omega|assumption|contradiction|exact hsz.1|exact hsz.2.1|rfl
def Kzv (a:Int) (b:Ls) (c:Li) (d:Bt):=(Ja0 Vr (Z24 a b c d)).2
def Kze (a:Int) (b:Ls) (c:Li) (d:Bt):=(Kzv a b c d).2
def Ky3 (a:Int) (b:Ls) (c:Li) (d:Bt):=(Kze a b c d).2
def Kyw (a:Int) (b:Ls) (c:Li) (d:Bt):=(Ky3 a b c d).2
def J8v (a:List Reg) (b:Int) (c:Ls) (d:Li) (e:Bt):=(Ja0 (V8 a) (Z24 b c d e)).2
def J8l (a:List Reg) (b:Int) (c:Ls) (d:Li) (e:Bt):=(J8v a b c d e).2
def J79 (a:List Reg) (b:Int) (c:Ls) (d:Li) (e:Bt):=(J8l a b c d e).2
def J74 (a:List Reg) (b:Int) (c:Ls) (d:Li) (e:Bt):=(J79 a b c d e).2
theorem Jh7 (T:TypeId) (E C:List Ev) (G:List Reg) (n:Int) (ns:List ByteArray) (vs:List Int) (tx:ByteArray):wpFO Tryz.prog W92.g (na ()) (fun _=>na ()) (Sx.look ([(75,Tryz.f75),(129,Tryz.f129)]:List (Nat×Func))) Tryz.f121 Jb5 T (E,C,G) ((n,Jy,ns,vs,tx),()):=by
 refine(by kernel_rfl:(Ke (E,C,G)→Z42 E→Jfj (Z24 n ns vs tx)→Jb (Z24 n ns vs tx)=0→Jqk E C G n ns vs tx=0→Jdq ns vs∧Br (Jb (Z24 n ns vs tx) !=0) (Sf true (Sf T ((E,C,G)=Vi (E,C,G) (Z24 n ns vs tx)∧Jb (Z24 n ns vs tx)=Um (E,C,G) (Z24 n ns vs tx)))) ((Ke (E,C,G)∧Jb (Z24 n ns vs tx)=0)∧Br (Jqk E C G n ns vs tx !=0) (Sf true (Sf T ((E,C,G)=Vi (E,C,G) (Z24 n ns vs tx)∧Jqk E C G n ns vs tx=Um (E,C,G) (Z24 n ns vs tx)))) (Jc0 ns vs∧Jc9 E∧Br false (Z64 C∧Jdr C G∧Sf true (Sf T ((E++[Z24 n ns vs tx],Jdt C G)=Vi (E,C,G) (Z24 n ns vs tx)∧0=Um (E,C,G) (Z24 n ns vs tx)))) (Br (V0 G) (Vz G∧Jdp G∧(Yy G∧Yz ns∧Z58 vs)∧Z96 vs∧Fa C G∧Sf true (Sf T ((E++[Z24 n ns vs tx],C++[Z24 n ns vs tx],G++[(Z98 vs,(J8v G n ns vs tx).1,(J8l G n ns vs tx).1,(J79 G n ns vs tx).1,(J74 G n ns vs tx).1,E2 (J74 G n ns vs tx).2)])=Vi (E,C,G) (Z24 n ns vs tx)∧0=Um (E,C,G) (Z24 n ns vs tx)))) (Jdu∧(Yq∧Yz ns∧Z58 vs)∧Z96 vs∧Fa C G∧Sf true (Sf T ((E++[Z24 n ns vs tx],C++[Z24 n ns vs tx],G++[(Z98 vs,(Kzv n ns vs tx).1,(Kze n ns vs tx).1,(Ky3 n ns vs tx).1,(Kyw n ns vs tx).1,E2 (Kyw n ns vs tx).2)])=Vi (E,C,G) (Z24 n ns vs tx)∧0=Um (E,C,G) (Z24 n ns vs tx))))))))=_).mp ?_
 delta Z1 Z24 Z31 Z42 Z54 Z58 Z64 Z96 Z98 V0 Jbc Yz Jqk Jc9 Jgu Jc0 Df Jdu Vz Vr Yq Jdt Jhs Fa Kzv D9 D8 Jad Kze Hs Fu Ky3 Kyw Hr De Zy Jdr Jdq Ft Jdp V8 Yy J8v J8l J79 J74 Br Iw Bd T2 Tw Sf Ln Gt E2 Jy
 intro hh hlt hsz hc ha
 obtain⟨u0,aE,aP⟩:=Jgh (k:=Jy) (by kernel_rfl) hc ha
 obtain⟨hn,hv,hR,_,n1,n2,n3,hG,hV⟩:=H0 hh hc
 simp only[K8,List.length_cons,List.length_nil] at hn hv u0
 have hs:Js (Kf G) (n,Jy,ns,vs,tx)=(vs.getD 0 0,(Ja0 (Kf G) (n,Jy,ns,vs,tx)).2):=by simp only[Js,doS,K8]
 simp only[aE,aP,hs,hc,ha,hG,Hu,Jhc,Prod.eta]
 repeat' first|exact hV|exact hh|exact hR|exact hsz.2.2|apply And.intro|intro _
 all_goals first|trivial|omega|assumption|exact Nat.le_trans hR.nS (by decide)|exact Nat.le_trans hR.nO (by decide)|exact Nat.le_trans hR.nM (by decide)|exact Nat.le_trans hR.nX (by decide)|exact Nat.le_trans hR.nQ (by decide)|exact Nat.zero_le _|exact hsz.1|exact hsz.2.1|(rename_i h;have h:=of_decide_eq_true h;omega)|rfl|(rw[←Km ‹_›];first|done|exact hR)
def Kz5 (a:Int) (b:Ls) (c:Li) (d:Bt):=(Fl Vr (Z13 a b c d)).2
def Kzq (a:Int) (b:Ls) (c:Li) (d:Bt):=(Kz5 a b c d).2
def Kzg (a:Int) (b:Ls) (c:Li) (d:Bt):=(Kzq a b c d).2
def Ky5 (a:Int) (b:Ls) (c:Li) (d:Bt):=(Kzg a b c d).2
def J84 (a:List Reg) (b:Int) (c:Ls) (d:Li) (e:Bt):=(Fl (V8 a) (Z13 b c d e)).2
def J8w (a:List Reg) (b:Int) (c:Ls) (d:Li) (e:Bt):=(J84 a b c d e).2
def J8i (a:List Reg) (b:Int) (c:Ls) (d:Li) (e:Bt):=(J8w a b c d e).2
def J8a (a:List Reg) (b:Int) (c:Ls) (d:Li) (e:Bt):=(J8i a b c d e).2
theorem Jmy (T:TypeId) (E C:List Ev) (G:List Reg) (n:Int) (ns:List ByteArray) (vs:List Int) (tx:ByteArray):wpFO Tryz.prog W92.g (na ()) (fun _=>na ()) (Sx.look ([(75,Tryz.f75),(129,Tryz.f129)]:List (Nat×Func))) Tryz.f121 Jb5 T (E,C,G) ((n,K9,ns,vs,tx),()):=by
 refine(by kernel_rfl:(Ke (E,C,G)→Z42 E→Jfj (Z13 n ns vs tx)→Jb (Z13 n ns vs tx)=0→Jsa E C G n ns vs tx=0→Jdq ns vs∧Br (Jb (Z13 n ns vs tx) !=0) (Sf true (Sf T ((E,C,G)=Vi (E,C,G) (Z13 n ns vs tx)∧Jb (Z13 n ns vs tx)=Um (E,C,G) (Z13 n ns vs tx)))) ((Ke (E,C,G)∧Jb (Z13 n ns vs tx)=0)∧Br (Jsa E C G n ns vs tx !=0) (Sf true (Sf T ((E,C,G)=Vi (E,C,G) (Z13 n ns vs tx)∧Jsa E C G n ns vs tx=Um (E,C,G) (Z13 n ns vs tx)))) (Jc0 ns vs∧Jc9 E∧Br false (Z64 C∧Jdr C G∧Sf true (Sf T ((E++[Z13 n ns vs tx],Jdt C G)=Vi (E,C,G) (Z13 n ns vs tx)∧0=Um (E,C,G) (Z13 n ns vs tx)))) (Br (V0 G) (Vz G∧Jdp G∧(Yy G∧Yz ns∧Z58 vs∧0≤Jx (Hs G).1 (L2 ns))∧Z96 vs∧Fa C G∧Sf true (Sf T ((E++[Z13 n ns vs tx],C++[Z13 n ns vs tx],G++[(Z98 vs,(J84 G n ns vs tx).1,(J8w G n ns vs tx).1,(J8i G n ns vs tx).1,(J8a G n ns vs tx).1,E2 (J8a G n ns vs tx).2)])=Vi (E,C,G) (Z13 n ns vs tx)∧0=Um (E,C,G) (Z13 n ns vs tx)))) (Jdu∧(Yq∧Yz ns∧Z58 vs∧0≤Jx [] (L2 ns))∧Z96 vs∧Fa C G∧Sf true (Sf T ((E++[Z13 n ns vs tx],C++[Z13 n ns vs tx],G++[(Z98 vs,(Kz5 n ns vs tx).1,(Kzq n ns vs tx).1,(Kzg n ns vs tx).1,(Ky5 n ns vs tx).1,E2 (Ky5 n ns vs tx).2)])=Vi (E,C,G) (Z13 n ns vs tx)∧0=Um (E,C,G) (Z13 n ns vs tx))))))))=_).mp ?_
 delta Z1 Z13 Z31 Z42 Z54 Z58 Z64 Z96 Z98 V0 Jbc Yz L2 Jsa Jc9 Jgu Jc0 Df Jdu Vz Vr Yq Jdt Jhs Fa Kz5 D9 Kzq D8 Jad Kzg Hs Fu Ky5 Hr De Zy Jdr Jdq Ft Jdp V8 Yy J84 J8w J8i J8a Br Iw Bd T2 Tw Sf Ln Gt E2 K9
 intro hh hlt hsz hc ha
 obtain⟨u0,aE,aP⟩:=Jgh (k:=K9) (by kernel_rfl) hc ha
 obtain⟨hn,hv,hR,_,n1,n2,n3,hG,hV⟩:=H0 hh hc
 simp only[Va,List.length_cons,List.length_nil] at hn hv u0
 obtain⟨k0,u1⟩:=Jn u0
 have f0:=Jry (k0 rfl)
 have hs:Js (Kf G) (n,K9,ns,vs,tx)=(vs.getD 0 0,(Fl (Kf G) (n,K9,ns,vs,tx)).2):=by simp only[Js,doS,Va]
 simp only[aE,aP,hs,hc,ha,hG,Hu,Jhc,Prod.eta]
 repeat' first|exact hV|exact hh|exact hR|exact hsz.2.2|apply And.intro|intro _
 all_goals first|trivial|omega|assumption|exact Nat.le_trans hR.nS (by decide)|exact Nat.le_trans hR.nO (by decide)|exact Nat.le_trans hR.nM (by decide)|exact Nat.le_trans hR.nX (by decide)|exact Nat.le_trans hR.nQ (by decide)|exact Nat.zero_le _|exact hsz.1|exact hsz.2.1|(rename_i h;have h:=of_decide_eq_true h;omega)|rfl|(rw[←Km ‹_›];first|done|exact hR)|(rw[Km ‹_›] at f0;exact f0)
def Kz0 (a:Int) (b:Ls) (c:Li) (d:Bt):=(Fp Vr (Z9 a b c d)).2
def Kzu (a:Int) (b:Ls) (c:Li) (d:Bt):=(Kz0 a b c d).2
def Kzj (a:Int) (b:Ls) (c:Li) (d:Bt):=(Kzu a b c d).2
def Ky8 (a:Int) (b:Ls) (c:Li) (d:Bt):=(Kzj a b c d).2
def J83 (a:List Reg) (b:Int) (c:Ls) (d:Li) (e:Bt):=(Fp (V8 a) (Z9 b c d e)).2
def J8t (a:List Reg) (b:Int) (c:Ls) (d:Li) (e:Bt):=(J83 a b c d e).2
def J8k (a:List Reg) (b:Int) (c:Ls) (d:Li) (e:Bt):=(J8t a b c d e).2
def J8c (a:List Reg) (b:Int) (c:Ls) (d:Li) (e:Bt):=(J8k a b c d e).2
theorem Jmz (T:TypeId) (E C:List Ev) (G:List Reg) (n:Int) (ns:List ByteArray) (vs:List Int) (tx:ByteArray):wpFO Tryz.prog W92.g (na ()) (fun _=>na ()) (Sx.look ([(75,Tryz.f75),(129,Tryz.f129)]:List (Nat×Func))) Tryz.f121 Jb5 T (E,C,G) ((n,Kl,ns,vs,tx),()):=by
 refine(by kernel_rfl:(Ke (E,C,G)→Z42 E→Jfj (Z9 n ns vs tx)→Jb (Z9 n ns vs tx)=0→Jqp E C G n ns vs tx=0→Jdq ns vs∧Br (Jb (Z9 n ns vs tx) !=0) (Sf true (Sf T ((E,C,G)=Vi (E,C,G) (Z9 n ns vs tx)∧Jb (Z9 n ns vs tx)=Um (E,C,G) (Z9 n ns vs tx)))) ((Ke (E,C,G)∧Jb (Z9 n ns vs tx)=0)∧Br (Jqp E C G n ns vs tx !=0) (Sf true (Sf T ((E,C,G)=Vi (E,C,G) (Z9 n ns vs tx)∧Jqp E C G n ns vs tx=Um (E,C,G) (Z9 n ns vs tx)))) (Jc0 ns vs∧Jc9 E∧Br false (Z64 C∧Jdr C G∧Sf true (Sf T ((E++[Z9 n ns vs tx],Jdt C G)=Vi (E,C,G) (Z9 n ns vs tx)∧0=Um (E,C,G) (Z9 n ns vs tx)))) (Br (V0 G) (Vz G∧Jdp G∧(Yy G∧Js2 ns∧Kjd vs G ns)∧Z96 vs∧Fa C G∧Sf true (Sf T ((E++[Z9 n ns vs tx],C++[Z9 n ns vs tx],G++[(Z98 vs,(J83 G n ns vs tx).1,(J8t G n ns vs tx).1,(J8k G n ns vs tx).1,(J8c G n ns vs tx).1,E2 (J8c G n ns vs tx).2)])=Vi (E,C,G) (Z9 n ns vs tx)∧0=Um (E,C,G) (Z9 n ns vs tx)))) (Jdu∧(Yq∧Js2 ns∧Klv vs ns)∧Z96 vs∧Fa C G∧Sf true (Sf T ((E++[Z9 n ns vs tx],C++[Z9 n ns vs tx],G++[(Z98 vs,(Kz0 n ns vs tx).1,(Kzu n ns vs tx).1,(Kzj n ns vs tx).1,(Ky8 n ns vs tx).1,E2 (Ky8 n ns vs tx).2)])=Vi (E,C,G) (Z9 n ns vs tx)∧0=Um (E,C,G) (Z9 n ns vs tx))))))))=_).mp ?_
 delta Z1 Z9 Z31 Z42 Z49 Z54 Z64 Z96 Z98 V0 Jbc Jj5 Js2 Jqp Jc9 Jgu Kg9 Jc0 Df Jdu Vz Vr Yq Jdt Klv Jhs Fa Kz0 Kzu D9 Kzj D8 Jad Hs Ky8 Fu Hr De Zy Jdr Jdq Kfb Kjd Ft Jdp V8 Yy J83 J8t J8k J8c Br Iw Bd T2 Tw Sf Ln Gt E2 Kl
 intro hh hlt hsz hc ha
 obtain⟨u0,aE,aP⟩:=Jgh (k:=Kl) (by kernel_rfl) hc ha
 obtain⟨hn,hv,hR,_,n1,n2,n3,hG,hV⟩:=H0 hh hc
 simp only[Uv,List.length_cons,List.length_nil] at hn hv u0
 obtain⟨k0,u1⟩:=Jn u0
 obtain⟨k1,u2⟩:=Jn u1
 obtain⟨k2,u3⟩:=Jn u2
 have f1:=Jry (k1 rfl)
 have f2:=Jry (k2 rfl)
 have hs:Js (Kf G) (n,Kl,ns,vs,tx)=(vs.getD 0 0,(Fp (Kf G) (n,Kl,ns,vs,tx)).2):=by simp only[Js,doS,Uv]
 simp only[aE,aP,hs,hc,ha,hG,Hu,Jhc,Prod.eta]
 repeat' first|exact hV|exact hh|exact hR|exact hsz.2.2|apply And.intro|intro _
 all_goals first|trivial|omega|assumption|exact Nat.le_trans hR.nS (by decide)|exact Nat.le_trans hR.nO (by decide)|exact Nat.le_trans hR.nM (by decide)|exact Nat.le_trans hR.nX (by decide)|exact Nat.le_trans hR.nQ (by decide)|exact Nat.zero_le _|exact hsz.1|exact hsz.2.1|(rename_i h;have h:=of_decide_eq_true h;omega)|rfl|(rw[←Km ‹_›];first|done|exact hR)|(rw[Km ‹_›] at f1;exact f1)|(rw[Km ‹_›] at f2;exact f2)
def Kz2 (a:Int) (b:Ls) (c:Li) (d:Bt):=(Fq Vr (Z10 a b c d)).2
def Kzt (a:Int) (b:Ls) (c:Li) (d:Bt):=(Kz2 a b c d).2
def Kzf (a:Int) (b:Ls) (c:Li) (d:Bt):=(Kzt a b c d).2
def Ky4 (a:Int) (b:Ls) (c:Li) (d:Bt):=(Kzf a b c d).2
def J82 (a:List Reg) (b:Int) (c:Ls) (d:Li) (e:Bt):=(Fq (V8 a) (Z10 b c d e)).2
def J8u (a:List Reg) (b:Int) (c:Ls) (d:Li) (e:Bt):=(J82 a b c d e).2
def J8j (a:List Reg) (b:Int) (c:Ls) (d:Li) (e:Bt):=(J8u a b c d e).2
def J8d (a:List Reg) (b:Int) (c:Ls) (d:Li) (e:Bt):=(J8j a b c d e).2
theorem Jm0 (T:TypeId) (E C:List Ev) (G:List Reg) (n:Int) (ns:List ByteArray) (vs:List Int) (tx:ByteArray):wpFO Tryz.prog W92.g (na ()) (fun _=>na ()) (Sx.look ([(75,Tryz.f75),(129,Tryz.f129)]:List (Nat×Func))) Tryz.f121 Jb5 T (E,C,G) ((n,K3,ns,vs,tx),()):=by
 refine(by kernel_rfl:(Ke (E,C,G)→Z42 E→Jfj (Z10 n ns vs tx)→Jb (Z10 n ns vs tx)=0→Jqo E C G n ns vs tx=0→Jdq ns vs∧Br (Jb (Z10 n ns vs tx) !=0) (Sf true (Sf T ((E,C,G)=Vi (E,C,G) (Z10 n ns vs tx)∧Jb (Z10 n ns vs tx)=Um (E,C,G) (Z10 n ns vs tx)))) ((Ke (E,C,G)∧Jb (Z10 n ns vs tx)=0)∧Br (Jqo E C G n ns vs tx !=0) (Sf true (Sf T ((E,C,G)=Vi (E,C,G) (Z10 n ns vs tx)∧Jqo E C G n ns vs tx=Um (E,C,G) (Z10 n ns vs tx)))) (Jc0 ns vs∧Jc9 E∧Br false (Z64 C∧Jdr C G∧Sf true (Sf T ((E++[Z10 n ns vs tx],Jdt C G)=Vi (E,C,G) (Z10 n ns vs tx)∧0=Um (E,C,G) (Z10 n ns vs tx)))) (Br (V0 G) (Vz G∧Jdp G∧(Yy G∧Yz ns∧Z55 vs)∧Z96 vs∧Fa C G∧Sf true (Sf T ((E++[Z10 n ns vs tx],C++[Z10 n ns vs tx],G++[(Z98 vs,(J82 G n ns vs tx).1,(J8u G n ns vs tx).1,(J8j G n ns vs tx).1,(J8d G n ns vs tx).1,E2 (J8d G n ns vs tx).2)])=Vi (E,C,G) (Z10 n ns vs tx)∧0=Um (E,C,G) (Z10 n ns vs tx)))) (Jdu∧(Yq∧Yz ns∧Z55 vs)∧Z96 vs∧Fa C G∧Sf true (Sf T ((E++[Z10 n ns vs tx],C++[Z10 n ns vs tx],G++[(Z98 vs,(Kz2 n ns vs tx).1,(Kzt n ns vs tx).1,(Kzf n ns vs tx).1,(Ky4 n ns vs tx).1,E2 (Ky4 n ns vs tx).2)])=Vi (E,C,G) (Z10 n ns vs tx)∧0=Um (E,C,G) (Z10 n ns vs tx))))))))=_).mp ?_
 delta Z1 Z10 Z31 Z42 Z54 Z55 Z64 Z96 Z98 V0 Jbc Yz Jqo Jc9 Jgu Jc0 Df Jdu Vz Vr Yq Jdt Jhs Fa Kz2 Kzt D9 D8 Jad Kzf Hs Fu Ky4 Hr De Zy Jdr Jdq Ft Jdp V8 Yy J82 J8u J8j J8d Br Iw Bd T2 Tw Sf Ln Gt E2 K3
 intro hh hlt hsz hc ha
 obtain⟨u0,aE,aP⟩:=Jgh (k:=K3) (by kernel_rfl) hc ha
 obtain⟨hn,hv,hR,_,n1,n2,n3,hG,hV⟩:=H0 hh hc
 simp only[Uw,List.length_cons,List.length_nil] at hn hv u0
 obtain⟨k0,u1⟩:=Jn u0
 have f0:=J2j (k0 rfl)
 have hs:Js (Kf G) (n,K3,ns,vs,tx)=(vs.getD 0 0,(Fq (Kf G) (n,K3,ns,vs,tx)).2):=by simp only[Js,doS,Uw]
 simp only[aE,aP,hs,hc,ha,hG,Hu,Jhc,Prod.eta]
 repeat' first|exact hV|exact hh|exact hR|exact hsz.2.2|apply And.intro|intro _
 all_goals first|trivial|omega|assumption|exact Nat.le_trans hR.nS (by decide)|exact Nat.le_trans hR.nO (by decide)|exact Nat.le_trans hR.nM (by decide)|exact Nat.le_trans hR.nX (by decide)|exact Nat.le_trans hR.nQ (by decide)|exact Nat.zero_le _|exact hsz.1|exact hsz.2.1|(rename_i h;have h:=of_decide_eq_true h;omega)|rfl|(rw[←Km ‹_›];first|done|exact hR)|exact Km ‹_›▸f0
def Kz7 (a:Int) (b:Ls) (c:Li) (d:Bt):=(Fk Vr (Z3 a b c d)).2
def Kzy (a:Int) (b:Ls) (c:Li) (d:Bt):=(Kz7 a b c d).2
def Kzm (a:Int) (b:Ls) (c:Li) (d:Bt):=(Kzy a b c d).2
def Kzb (a:Int) (b:Ls) (c:Li) (d:Bt):=(Kzm a b c d).2
def J86 (a:List Reg) (b:Int) (c:Ls) (d:Li) (e:Bt):=(Fk (V8 a) (Z3 b c d e)).2
def J80 (a:List Reg) (b:Int) (c:Ls) (d:Li) (e:Bt):=(J86 a b c d e).2
def J8r (a:List Reg) (b:Int) (c:Ls) (d:Li) (e:Bt):=(J80 a b c d e).2
def J8f (a:List Reg) (b:Int) (c:Ls) (d:Li) (e:Bt):=(J8r a b c d e).2
theorem Jq2 (T:TypeId) (E C:List Ev) (G:List Reg) (n:Int) (ns:List ByteArray) (vs:List Int) (tx:ByteArray):wpFO Tryz.prog W92.g (na ()) (fun _=>na ()) (Sx.look ([(75,Tryz.f75),(129,Tryz.f129)]:List (Nat×Func))) Tryz.f121 Jb5 T (E,C,G) ((n,Vn,ns,vs,tx),()):=by
 refine(by kernel_rfl:(Ke (E,C,G)→Z42 E→Jfj (Z3 n ns vs tx)→Jb (Z3 n ns vs tx)=0→Jqr E C G n ns vs tx=0→Jdq ns vs∧Br (Jb (Z3 n ns vs tx) !=0) (Sf true (Sf T ((E,C,G)=Vi (E,C,G) (Z3 n ns vs tx)∧Jb (Z3 n ns vs tx)=Um (E,C,G) (Z3 n ns vs tx)))) ((Ke (E,C,G)∧Jb (Z3 n ns vs tx)=0)∧Br (Jqr E C G n ns vs tx !=0) (Sf true (Sf T ((E,C,G)=Vi (E,C,G) (Z3 n ns vs tx)∧Jqr E C G n ns vs tx=Um (E,C,G) (Z3 n ns vs tx)))) (Jc0 ns vs∧Jc9 E∧Br false (Z64 C∧Jdr C G∧Sf true (Sf T ((E++[Z3 n ns vs tx],Jdt C G)=Vi (E,C,G) (Z3 n ns vs tx)∧0=Um (E,C,G) (Z3 n ns vs tx)))) (Br (V0 G) (Vz G∧Jdp G∧J1o G ns vs∧Z96 vs∧Fa C G∧Sf true (Sf T ((E++[Z3 n ns vs tx],C++[Z3 n ns vs tx],G++[(Z98 vs,(J86 G n ns vs tx).1,(J80 G n ns vs tx).1,(J8r G n ns vs tx).1,(J8f G n ns vs tx).1,E2 (J8f G n ns vs tx).2)])=Vi (E,C,G) (Z3 n ns vs tx)∧0=Um (E,C,G) (Z3 n ns vs tx)))) (Jdu∧Ki6 ns vs∧Z96 vs∧Fa C G∧Sf true (Sf T ((E++[Z3 n ns vs tx],C++[Z3 n ns vs tx],G++[(Z98 vs,(Kz7 n ns vs tx).1,(Kzy n ns vs tx).1,(Kzm n ns vs tx).1,(Kzb n ns vs tx).1,E2 (Kzb n ns vs tx).2)])=Vi (E,C,G) (Z3 n ns vs tx)∧0=Um (E,C,G) (Z3 n ns vs tx))))))))=_).mp ?_
 delta Z1 Z3 Z31 Z42 Z52 Z54 Z64 Z96 Z98 V0 Jbc Yz L2 Jqr Jc9 Jgu Kha Jc0 Df Jdu Vz Vr Yq Jdt Jhs Fa Kz7 Kzy D9 Kzm D8 Jad Kzb Hs Fu Hr De Zy Jdr Jdq Ke4 Ki6 Ft Jdp V8 Yy J86 J80 J8r J8f J1o Br Iw Bd T2 Tw Sf Ln Gt E2 Vn
 intro hh hlt hsz hc ha
 obtain⟨u0,aE,aP⟩:=Jgh (k:=Vn) (by kernel_rfl) hc ha
 obtain⟨hn,hv,hR,_,n1,n2,n3,hG,hV⟩:=H0 hh hc
 simp only[Vo,List.length_cons,List.length_nil] at hn hv u0
 obtain⟨k0,u1⟩:=Jn u0
 have f0:=J2j (k0 rfl)
 have hs:Js (Kf G) (n,Vn,ns,vs,tx)=(vs.getD 0 0,(Fk (Kf G) (n,Vn,ns,vs,tx)).2):=by simp only[Js,doS,Vo]
 simp only[aE,aP,hs,hc,ha,hG,Hu,Jhc,Prod.eta]
 repeat' first|exact hV|exact hh|exact hR|exact hsz.2.2|apply And.intro|intro _
 all_goals first|trivial|omega|assumption|exact Nat.le_trans hR.nS (by decide)|exact Nat.le_trans hR.nO (by decide)|exact Nat.le_trans hR.nM (by decide)|exact Nat.le_trans hR.nX (by decide)|exact Nat.le_trans hR.nQ (by decide)|exact Nat.zero_le _|exact hsz.1|exact hsz.2.1|(rename_i h;have h:=of_decide_eq_true h;omega)|rfl|(rw[←Km ‹_›];first|done|exact hR)|(rw[Km ‹_›] at f0;exact f0)
def Kzx (a:Int) (b:Ls) (c:Li) (d:Bt):=(Fn Vr (Z15 a b c d)).2
def Kzn (a:Int) (b:Ls) (c:Li) (d:Bt):=(Kzx a b c d).2
def Kza (a:Int) (b:Ls) (c:Li) (d:Bt):=(Kzn a b c d).2
def Kyz (a:Int) (b:Ls) (c:Li) (d:Bt):=(Kza a b c d).2
def J8y (a:List Reg) (b:Int) (c:Ls) (d:Li) (e:Bt):=(Fn (V8 a) (Z15 b c d e)).2
def J8q (a:List Reg) (b:Int) (c:Ls) (d:Li) (e:Bt):=(J8y a b c d e).2
def J8h (a:List Reg) (b:Int) (c:Ls) (d:Li) (e:Bt):=(J8q a b c d e).2
def J76 (a:List Reg) (b:Int) (c:Ls) (d:Li) (e:Bt):=(J8h a b c d e).2
theorem Jko (T:TypeId) (E C:List Ev) (G:List Reg) (n:Int) (ns:List ByteArray) (vs:List Int) (tx:ByteArray):wpFO Tryz.prog W92.g (na ()) (fun _=>na ()) (Sx.look ([(75,Tryz.f75),(129,Tryz.f129)]:List (Nat×Func))) Tryz.f121 Jb5 T (E,C,G) ((n,Jz,ns,vs,tx),()):=by
 refine(by kernel_rfl:(Ke (E,C,G)→Z42 E→Jfj (Z15 n ns vs tx)→Jb (Z15 n ns vs tx)=0→Jqn E C G n ns vs tx=0→Jdq ns vs∧Br (Jb (Z15 n ns vs tx) !=0) (Sf true (Sf T ((E,C,G)=Vi (E,C,G) (Z15 n ns vs tx)∧Jb (Z15 n ns vs tx)=Um (E,C,G) (Z15 n ns vs tx)))) ((Ke (E,C,G)∧Jb (Z15 n ns vs tx)=0)∧Br (Jqn E C G n ns vs tx !=0) (Sf true (Sf T ((E,C,G)=Vi (E,C,G) (Z15 n ns vs tx)∧Jqn E C G n ns vs tx=Um (E,C,G) (Z15 n ns vs tx)))) (Jc0 ns vs∧Jc9 E∧Br false (Z64 C∧Jdr C G∧Sf true (Sf T ((E++[Z15 n ns vs tx],Jdt C G)=Vi (E,C,G) (Z15 n ns vs tx)∧0=Um (E,C,G) (Z15 n ns vs tx)))) (Br (V0 G) (Vz G∧Jdp G∧(Yy G∧Jqs ns∧Z49 vs)∧Z96 vs∧Fa C G∧Sf true (Sf T ((E++[Z15 n ns vs tx],C++[Z15 n ns vs tx],G++[(Z98 vs,(J8y G n ns vs tx).1,(J8q G n ns vs tx).1,(J8h G n ns vs tx).1,(J76 G n ns vs tx).1,E2 (J76 G n ns vs tx).2)])=Vi (E,C,G) (Z15 n ns vs tx)∧0=Um (E,C,G) (Z15 n ns vs tx)))) (Jdu∧(Yq∧Jqs ns∧Z49 vs)∧Z96 vs∧Fa C G∧Sf true (Sf T ((E++[Z15 n ns vs tx],C++[Z15 n ns vs tx],G++[(Z98 vs,(Kzx n ns vs tx).1,(Kzn n ns vs tx).1,(Kza n ns vs tx).1,(Kyz n ns vs tx).1,E2 (Kyz n ns vs tx).2)])=Vi (E,C,G) (Z15 n ns vs tx)∧0=Um (E,C,G) (Z15 n ns vs tx))))))))=_).mp ?_
 delta Z1 Z15 Z31 Z42 Z49 Z54 Z64 Z96 Z98 V0 Jqs Jbc Jqn Jc9 Jgu Jc0 Df Jdu Vz Vr Yq Jdt Jhs Fa Kzx D9 Kzn D8 Jad Kza Hs Fu Kyz Hr De Zy Jdr Jdq Ft Jdp V8 Yy J8y J8q J8h J76 Br Iw Bd T2 Tw Sf Ln Gt E2 Jz
 intro hh hlt hsz hc ha
 obtain⟨u0,aE,aP⟩:=Jgh (k:=Jz) (by kernel_rfl) hc ha
 obtain⟨hn,hv,hR,_,n1,n2,n3,hG,hV⟩:=H0 hh hc
 simp only[Kw,List.length_cons,List.length_nil] at hn hv u0
 obtain⟨k0,u1⟩:=Jn u0
 obtain⟨k1,u2⟩:=Jn u1
 have f1:=Jry (k1 rfl)
 have hs:Js (Kf G) (n,Jz,ns,vs,tx)=(vs.getD 0 0,(Fn (Kf G) (n,Jz,ns,vs,tx)).2):=by simp only[Js,doS,Kw]
 simp only[aE,aP,hs,hc,ha,hG,Hu,Jhc,Prod.eta]
 repeat' first|exact hV|exact hh|exact hR|exact hsz.2.2|apply And.intro|intro _
 all_goals first|trivial|omega|assumption|exact Nat.le_trans hR.nS (by decide)|exact Nat.le_trans hR.nO (by decide)|exact Nat.le_trans hR.nM (by decide)|exact Nat.le_trans hR.nX (by decide)|exact Nat.le_trans hR.nQ (by decide)|exact Nat.zero_le _|exact hsz.1|exact hsz.2.1|(rename_i h;have h:=of_decide_eq_true h;omega)|rfl|(rw[←Km ‹_›];first|done|exact hR)|exact Km ‹_›▸f1
def Kzs (a:Int) (b:Ls) (c:Li) (d:Bt):=(Fm Vr (Z32 a b c d)).2
def Kzi (a:Int) (b:Ls) (c:Li) (d:Bt):=(Kzs a b c d).2
def Ky9 (a:Int) (b:Ls) (c:Li) (d:Bt):=(Kzi a b c d).2
def Kyx (a:Int) (b:Ls) (c:Li) (d:Bt):=(Ky9 a b c d).2
def J8x (a:List Reg) (b:Int) (c:Ls) (d:Li) (e:Bt):=(Fm (V8 a) (Z32 b c d e)).2
def J8m (a:List Reg) (b:Int) (c:Ls) (d:Li) (e:Bt):=(J8x a b c d e).2
def J8b (a:List Reg) (b:Int) (c:Ls) (d:Li) (e:Bt):=(J8m a b c d e).2
def J73 (a:List Reg) (b:Int) (c:Ls) (d:Li) (e:Bt):=(J8b a b c d e).2
theorem Jh8 (T:TypeId) (E C:List Ev) (G:List Reg) (n:Int) (ns:List ByteArray) (vs:List Int) (tx:ByteArray):wpFO Tryz.prog W92.g (na ()) (fun _=>na ()) (Sx.look ([(75,Tryz.f75),(129,Tryz.f129)]:List (Nat×Func))) Tryz.f121 Jb5 T (E,C,G) ((n,Ju,ns,vs,tx),()):=by
 refine(by kernel_rfl:(Ke (E,C,G)→Z42 E→Jfj (Z32 n ns vs tx)→Jb (Z32 n ns vs tx)=0→Jqj E C G n ns vs tx=0→Jdq ns vs∧Br (Jb (Z32 n ns vs tx) !=0) (Sf true (Sf T ((E,C,G)=Vi (E,C,G) (Z32 n ns vs tx)∧Jb (Z32 n ns vs tx)=Um (E,C,G) (Z32 n ns vs tx)))) ((Ke (E,C,G)∧Jb (Z32 n ns vs tx)=0)∧Br (Jqj E C G n ns vs tx !=0) (Sf true (Sf T ((E,C,G)=Vi (E,C,G) (Z32 n ns vs tx)∧Jqj E C G n ns vs tx=Um (E,C,G) (Z32 n ns vs tx)))) (Jc0 ns vs∧Jc9 E∧Br false (Z64 C∧Jdr C G∧Sf true (Sf T ((E++[Z32 n ns vs tx],Jdt C G)=Vi (E,C,G) (Z32 n ns vs tx)∧0=Um (E,C,G) (Z32 n ns vs tx)))) (Br (V0 G) (Vz G∧Jdp G∧J1n G ns vs∧Z96 vs∧Fa C G∧Sf true (Sf T ((E++[Z32 n ns vs tx],C++[Z32 n ns vs tx],G++[(Z98 vs,(J8x G n ns vs tx).1,(J8m G n ns vs tx).1,(J8b G n ns vs tx).1,(J73 G n ns vs tx).1,E2 (J73 G n ns vs tx).2)])=Vi (E,C,G) (Z32 n ns vs tx)∧0=Um (E,C,G) (Z32 n ns vs tx)))) (Jdu∧Ki5 ns vs∧Z96 vs∧Fa C G∧Sf true (Sf T ((E++[Z32 n ns vs tx],C++[Z32 n ns vs tx],G++[(Z98 vs,(Kzs n ns vs tx).1,(Kzi n ns vs tx).1,(Ky9 n ns vs tx).1,(Kyx n ns vs tx).1,E2 (Kyx n ns vs tx).2)])=Vi (E,C,G) (Z32 n ns vs tx)∧0=Um (E,C,G) (Z32 n ns vs tx))))))))=_).mp ?_
 delta Z1 Z31 Z32 Z42 Z52 Z54 Z64 Z96 Z98 V0 Jbc Yz L2 Jqj Jc9 Jgu Jc0 Df Jdu Vz Vr Yq Jdt Jhs Fa D9 Kzs Kzi D8 Jad Hs Ky9 Fu Kyx Hr De Zy Jdr Jdq Ki5 Ft Jdp V8 Yy J8x J8m J8b J73 J1n Br Iw Bd T2 Tw Sf Ln Gt E2 Ju
 intro hh hlt hsz hc ha
 obtain⟨u0,aE,aP⟩:=Jgh (k:=Ju) (by kernel_rfl) hc ha
 obtain⟨hn,hv,hR,_,n1,n2,n3,hG,hV⟩:=H0 hh hc
 simp only[Kk,List.length_cons,List.length_nil] at hn hv u0
 obtain⟨k0,u1⟩:=Jn u0
 have f0:=J2i (k0 rfl)
 have hs:Js (Kf G) (n,Ju,ns,vs,tx)=(vs.getD 0 0,(Fm (Kf G) (n,Ju,ns,vs,tx)).2):=by simp only[Js,doS,Kk]
 simp only[aE,aP,hs,hc,ha,hG,Hu,Jhc,Prod.eta]
 repeat' first|exact hV|exact hh|exact hR|exact hsz.2.2|apply And.intro|intro _
 all_goals first|trivial|omega|assumption|exact Nat.le_trans hR.nS (by decide)|exact Nat.le_trans hR.nO (by decide)|exact Nat.le_trans hR.nM (by decide)|exact Nat.le_trans hR.nX (by decide)|exact Nat.le_trans hR.nQ (by decide)|exact Nat.zero_le _|exact hsz.1|exact hsz.2.1|(rename_i h;have h:=of_decide_eq_true h;omega)|rfl|(rw[←Km ‹_›];first|done|exact hR)|(rw[Km ‹_›] at f0;exact f0)
def Kzz (a:Int) (b:Ls) (c:Li) (d:Bt):=(Fo Vr (Z17 a b c d)).2
def Kzl (a:Int) (b:Ls) (c:Li) (d:Bt):=(Kzz a b c d).2
def Kzc (a:Int) (b:Ls) (c:Li) (d:Bt):=(Kzl a b c d).2
def Ky0 (a:Int) (b:Ls) (c:Li) (d:Bt):=(Kzc a b c d).2
def J8z (a:List Reg) (b:Int) (c:Ls) (d:Li) (e:Bt):=(Fo (V8 a) (Z17 b c d e)).2
def J8o (a:List Reg) (b:Int) (c:Ls) (d:Li) (e:Bt):=(J8z a b c d e).2
def J8g (a:List Reg) (b:Int) (c:Ls) (d:Li) (e:Bt):=(J8o a b c d e).2
def J75 (a:List Reg) (b:Int) (c:Ls) (d:Li) (e:Bt):=(J8g a b c d e).2
theorem Jkn (T:TypeId) (E C:List Ev) (G:List Reg) (n:Int) (ns:List ByteArray) (vs:List Int) (tx:ByteArray):wpFO Tryz.prog W92.g (na ()) (fun _=>na ()) (Sx.look ([(75,Tryz.f75),(129,Tryz.f129)]:List (Nat×Func))) Tryz.f121 Jb5 T (E,C,G) ((n,Kd,ns,vs,tx),()):=by
 refine(by kernel_rfl:(Ke (E,C,G)→Z42 E→Jfj (Z17 n ns vs tx)→Jb (Z17 n ns vs tx)=0→Jqm E C G n ns vs tx=0→Jdq ns vs∧Br (Jb (Z17 n ns vs tx) !=0) (Sf true (Sf T ((E,C,G)=Vi (E,C,G) (Z17 n ns vs tx)∧Jb (Z17 n ns vs tx)=Um (E,C,G) (Z17 n ns vs tx)))) ((Ke (E,C,G)∧Jb (Z17 n ns vs tx)=0)∧Br (Jqm E C G n ns vs tx !=0) (Sf true (Sf T ((E,C,G)=Vi (E,C,G) (Z17 n ns vs tx)∧Jqm E C G n ns vs tx=Um (E,C,G) (Z17 n ns vs tx)))) (Jc0 ns vs∧Jc9 E∧Br false (Z64 C∧Jdr C G∧Sf true (Sf T ((E++[Z17 n ns vs tx],Jdt C G)=Vi (E,C,G) (Z17 n ns vs tx)∧0=Um (E,C,G) (Z17 n ns vs tx)))) (Br (V0 G) (Vz G∧Jdp G∧(Yy G∧Jyi ns)∧Z96 vs∧Fa C G∧Sf true (Sf T ((E++[Z17 n ns vs tx],C++[Z17 n ns vs tx],G++[(Z98 vs,(J8z G n ns vs tx).1,(J8o G n ns vs tx).1,(J8g G n ns vs tx).1,(J75 G n ns vs tx).1,E2 (J75 G n ns vs tx).2)])=Vi (E,C,G) (Z17 n ns vs tx)∧0=Um (E,C,G) (Z17 n ns vs tx)))) (Jdu∧(Yq∧Jyi ns)∧Z96 vs∧Fa C G∧Sf true (Sf T ((E++[Z17 n ns vs tx],C++[Z17 n ns vs tx],G++[(Z98 vs,(Kzz n ns vs tx).1,(Kzl n ns vs tx).1,(Kzc n ns vs tx).1,(Ky0 n ns vs tx).1,E2 (Ky0 n ns vs tx).2)])=Vi (E,C,G) (Z17 n ns vs tx)∧0=Um (E,C,G) (Z17 n ns vs tx))))))))=_).mp ?_
 delta Z1 Z17 Z31 Z42 Z54 Z64 Z96 Z98 V0 Jbc Jyi Jqm Jc9 Jgu Jc0 Df Jdu Vz Vr Yq Jdt Jhs Fa Kzz D9 Kzl D8 Jad Kzc Hs Fu Ky0 Hr De Zy Jdr Jdq Ft Jdp V8 Yy J8z J8o J8g J75 Br Iw Bd T2 Tw Sf Ln Gt E2 Kd
 intro hh hlt hsz hc ha
 obtain⟨u0,aE,aP⟩:=Jgh (k:=Kd) (by kernel_rfl) hc ha
 obtain⟨hn,hv,hR,_,n1,n2,n3,hG,hV⟩:=H0 hh hc
 simp only[K6,List.length_cons,List.length_nil] at hn hv u0
 obtain⟨k0,u1⟩:=Jn u0
 obtain⟨k1,u2⟩:=Jn u1
 have f1:=J2i (k1 rfl)
 have hs:Js (Kf G) (n,Kd,ns,vs,tx)=(vs.getD 0 0,(Fo (Kf G) (n,Kd,ns,vs,tx)).2):=by simp only[Js,doS,K6]
 simp only[aE,aP,hs,hc,ha,hG,Hu,Jhc,Prod.eta]
 repeat' first|exact hV|exact hh|exact hR|exact hsz.2.2|apply And.intro|intro _
 all_goals first|trivial|omega|assumption|exact Nat.le_trans hR.nS (by decide)|exact Nat.le_trans hR.nO (by decide)|exact Nat.le_trans hR.nM (by decide)|exact Nat.le_trans hR.nX (by decide)|exact Nat.le_trans hR.nQ (by decide)|exact Nat.zero_le _|exact hsz.1|exact hsz.2.1|(rename_i h;have h:=of_decide_eq_true h;omega)|rfl|(rw[←Km ‹_›];first|done|exact hR)|exact Km ‹_›▸f1
def Kz3 (a:Int) (b:Ls) (c:Li) (d:Bt):=(Jgo Vr (Z21 a b c d)).2
def Kzr (a:Int) (b:Ls) (c:Li) (d:Bt):=(Kz3 a b c d).2
def Kzh (a:Int) (b:Ls) (c:Li) (d:Bt):=(Kzr a b c d).2
def Ky6 (a:Int) (b:Ls) (c:Li) (d:Bt):=(Kzh a b c d).2
def J85 (a:List Reg) (b:Int) (c:Ls) (d:Li) (e:Bt):=(Jgo (V8 a) (Z21 b c d e)).2
def J8s (a:List Reg) (b:Int) (c:Ls) (d:Li) (e:Bt):=(J85 a b c d e).2
def J8n (a:List Reg) (b:Int) (c:Ls) (d:Li) (e:Bt):=(J8s a b c d e).2
def J78 (a:List Reg) (b:Int) (c:Ls) (d:Li) (e:Bt):=(J8n a b c d e).2
theorem Jkm (T:TypeId) (E C:List Ev) (G:List Reg) (n:Int) (ns:List ByteArray) (vs:List Int) (tx:ByteArray):wpFO Tryz.prog W92.g (na ()) (fun _=>na ()) (Sx.look ([(75,Tryz.f75),(129,Tryz.f129)]:List (Nat×Func))) Tryz.f121 Jb5 T (E,C,G) ((n,Kc,ns,vs,tx),()):=by
 refine(by kernel_rfl:(Ke (E,C,G)→Z42 E→Jfj (Z21 n ns vs tx)→Jb (Z21 n ns vs tx)=0→Jql E C G n ns vs tx=0→Jdq ns vs∧Br (Jb (Z21 n ns vs tx) !=0) (Sf true (Sf T ((E,C,G)=Vi (E,C,G) (Z21 n ns vs tx)∧Jb (Z21 n ns vs tx)=Um (E,C,G) (Z21 n ns vs tx)))) ((Ke (E,C,G)∧Jb (Z21 n ns vs tx)=0)∧Br (Jql E C G n ns vs tx !=0) (Sf true (Sf T ((E,C,G)=Vi (E,C,G) (Z21 n ns vs tx)∧Jql E C G n ns vs tx=Um (E,C,G) (Z21 n ns vs tx)))) (Jc0 ns vs∧Jc9 E∧Br false (Z64 C∧Jdr C G∧Sf true (Sf T ((E++[Z21 n ns vs tx],Jdt C G)=Vi (E,C,G) (Z21 n ns vs tx)∧0=Um (E,C,G) (Z21 n ns vs tx)))) (Br (V0 G) (Vz G∧Jdp G∧J1p G ns∧Z96 vs∧Fa C G∧Sf true (Sf T ((E++[Z21 n ns vs tx],C++[Z21 n ns vs tx],G++[(Z98 vs,(J85 G n ns vs tx).1,(J8s G n ns vs tx).1,(J8n G n ns vs tx).1,(J78 G n ns vs tx).1,E2 (J78 G n ns vs tx).2)])=Vi (E,C,G) (Z21 n ns vs tx)∧0=Um (E,C,G) (Z21 n ns vs tx)))) (Jdu∧Kjk ns∧Z96 vs∧Fa C G∧Sf true (Sf T ((E++[Z21 n ns vs tx],C++[Z21 n ns vs tx],G++[(Z98 vs,(Kz3 n ns vs tx).1,(Kzr n ns vs tx).1,(Kzh n ns vs tx).1,(Ky6 n ns vs tx).1,E2 (Ky6 n ns vs tx).2)])=Vi (E,C,G) (Z21 n ns vs tx)∧0=Um (E,C,G) (Z21 n ns vs tx))))))))=_).mp ?_
 delta Z1 Z21 Z31 Z42 Z54 Z64 Z96 Z98 V0 Jbc Yz L2 Jql Jc9 Jgu Jc0 Df Jdu Vz Vr Yq Jdt Jhs Fa Kz3 D9 Kzr D8 Jad Kzh Hs Fu Ky6 Hr De Zy Jdr Jdq Kjk Ft Jdp V8 Yy J85 J8s J8n J78 J1p Br Iw Bd T2 Tw Sf Ln Gt E2 Kc
 intro hh hlt hsz hc ha
 obtain⟨u0,aE,aP⟩:=Jgh (k:=Kc) (by kernel_rfl) hc ha
 obtain⟨hn,hv,hR,_,n1,n2,n3,hG,hV⟩:=H0 hh hc
 simp only[K5,List.length_cons,List.length_nil] at hn hv u0
 obtain⟨k0,u1⟩:=Jn u0
 have f0:=Kia (k0 rfl)
 have hs:Js (Kf G) (n,Kc,ns,vs,tx)=(vs.getD 0 0,(Jgo (Kf G) (n,Kc,ns,vs,tx)).2):=by simp only[Js,doS,K5]
 simp only[aE,aP,hs,hc,ha,hG,Hu,Jhc,Prod.eta]
 repeat' first|exact hV|exact hh|exact hR|exact hsz.2.2|apply And.intro|intro _
 all_goals first|trivial|omega|assumption|exact Nat.le_trans hR.nS (by decide)|exact Nat.le_trans hR.nO (by decide)|exact Nat.le_trans hR.nM (by decide)|exact Nat.le_trans hR.nX (by decide)|exact Nat.le_trans hR.nQ (by decide)|exact Nat.zero_le _|exact hsz.1|exact hsz.2.1|(rename_i h;have h:=of_decide_eq_true h;omega)|rfl|(rw[←Km ‹_›];first|done|exact hR)|(rw[Km ‹_›] at f0;exact f0)
def Kzw (a:Int) (b:Ls) (c:Li) (d:Bt):=(Jaz Vr (Z18 a b c d)).2
def Kzk (a:Int) (b:Ls) (c:Li) (d:Bt):=(Kzw a b c d).2
def Kzd (a:Int) (b:Ls) (c:Li) (d:Bt):=(Kzk a b c d).2
def Ky1 (a:Int) (b:Ls) (c:Li) (d:Bt):=(Kzd a b c d).2
def J81 (a:List Reg) (b:Int) (c:Ls) (d:Li) (e:Bt):=(Jaz (V8 a) (Z18 b c d e)).2
def J8p (a:List Reg) (b:Int) (c:Ls) (d:Li) (e:Bt):=(J81 a b c d e).2
def J8e (a:List Reg) (b:Int) (c:Ls) (d:Li) (e:Bt):=(J8p a b c d e).2
def J77 (a:List Reg) (b:Int) (c:Ls) (d:Li) (e:Bt):=(J8e a b c d e).2
theorem Jkl (T:TypeId) (E C:List Ev) (G:List Reg) (n:Int) (ns:List ByteArray) (vs:List Int) (tx:ByteArray):wpFO Tryz.prog W92.g (na ()) (fun _=>na ()) (Sx.look ([(75,Tryz.f75),(129,Tryz.f129)]:List (Nat×Func))) Tryz.f121 Jb5 T (E,C,G) ((n,Jh,ns,vs,tx),()):=by
 refine(by kernel_rfl:(Ke (E,C,G)→Z42 E→Jfj (Z18 n ns vs tx)→Jb (Z18 n ns vs tx)=0→Jok E C G n ns vs tx=0→Jdq ns vs∧Br (Jb (Z18 n ns vs tx) !=0) (Sf true (Sf T ((E,C,G)=Vi (E,C,G) (Z18 n ns vs tx)∧Jb (Z18 n ns vs tx)=Um (E,C,G) (Z18 n ns vs tx)))) ((Ke (E,C,G)∧Jb (Z18 n ns vs tx)=0)∧Br (Jok E C G n ns vs tx !=0) (Sf true (Sf T ((E,C,G)=Vi (E,C,G) (Z18 n ns vs tx)∧Jok E C G n ns vs tx=Um (E,C,G) (Z18 n ns vs tx)))) (Jc0 ns vs∧Jc9 E∧Br false (Z64 C∧Jdr C G∧Sf true (Sf T ((E++[Z18 n ns vs tx],Jdt C G)=Vi (E,C,G) (Z18 n ns vs tx)∧0=Um (E,C,G) (Z18 n ns vs tx)))) (Br (V0 G) (Vz G∧Jdp G∧Jsj G vs∧Z96 vs∧Fa C G∧Sf true (Sf T ((E++[Z18 n ns vs tx],C++[Z18 n ns vs tx],G++[(Z98 vs,(J81 G n ns vs tx).1,(J8p G n ns vs tx).1,(J8e G n ns vs tx).1,(J77 G n ns vs tx).1,E2 (J77 G n ns vs tx).2)])=Vi (E,C,G) (Z18 n ns vs tx)∧0=Um (E,C,G) (Z18 n ns vs tx)))) (Jdu∧J91 vs∧Z96 vs∧Fa C G∧Sf true (Sf T ((E++[Z18 n ns vs tx],C++[Z18 n ns vs tx],G++[(Z98 vs,(Kzw n ns vs tx).1,(Kzk n ns vs tx).1,(Kzd n ns vs tx).1,(Ky1 n ns vs tx).1,E2 (Ky1 n ns vs tx).2)])=Vi (E,C,G) (Z18 n ns vs tx)∧0=Um (E,C,G) (Z18 n ns vs tx))))))))=_).mp ?_
 delta Z1 Z18 Z31 Z42 Z54 Z58 Z64 Z96 Z98 V0 Jbc Jok Jc9 Jgu Jc0 Df Jdu Vz Vr Yq Jdt Jhs Fa Kzw D9 Kzk D8 Jad Kzd J91 Hs Fu Ky1 Hr De Zy Jdr Jdq Ft Jdp V8 Yy J81 J8p J8e Jsj J77 Br Iw Bd T2 Tw Sf Ln Gt E2 Jh
 intro hh hlt hsz hc ha
 obtain⟨u0,aE,aP⟩:=Jgh (k:=Jh) (by kernel_rfl) hc ha
 obtain⟨hn,hv,hR,_,n1,n2,n3,hG,hV⟩:=H0 hh hc
 simp only[Ut,List.length_cons,List.length_nil] at hn hv u0
 have hs:Js (Kf G) (n,Jh,ns,vs,tx)=(vs.getD 0 0,(Jaz (Kf G) (n,Jh,ns,vs,tx)).2):=by simp only[Js,doS,Ut]
 simp only[aE,aP,hs,hc,ha,hG,Hu,Jhc,Prod.eta]
 repeat' first|exact hV|exact hh|exact hR|exact hsz.2.2|apply And.intro|intro _
 all_goals first|trivial|omega|assumption|exact Nat.le_trans hR.nS (by decide)|exact Nat.le_trans hR.nO (by decide)|exact Nat.le_trans hR.nM (by decide)|exact Nat.le_trans hR.nX (by decide)|exact Nat.le_trans hR.nQ (by decide)|exact Nat.zero_le _|exact hsz.1|exact hsz.2.1|(rename_i h;have h:=of_decide_eq_true h;omega)|rfl|(rw[←Km ‹_›];first|done|exact hR)
abbrev GG:Gam:=[(64,Kdn),(130,Xu.con Jp6),(81,J2p),(216,Jgr 127 L5),(217,Jgr 130 Zx),(218,Jgr 155 Dd),(219,Jgr 188 Xp),(220,Jgr 235 X7)]
theorem gG:Yl Tryz.prog GG:= .cons K2v (.cons Kb4 (.cons K2u (.cons Kb3 (.cons Kb2 (.cons Kb1 (.cons Kb0 (.cons Kbz (.nil _))))))))
def Kds:Xu:={Kic with pre:=fun h (e,_)=>[Ke h,h.1.length<1000,Jfj e,¬(Jb e=0∧Da h e=0)]}
theorem Js9 (T:TypeId) (E C:List Ev) (G:List Reg) (n:Int) (k:ByteArray) (ns:List ByteArray) (vs:List Int) (tx:ByteArray):wpFO Tryz.prog GG (na ()) (fun _=>na ()) (Sx.look ([(75,Tryz.f75),(129,Tryz.f129)]:List (Nat×Func))) Tryz.f121 Kds T (E,C,G) ((n,k,ns,vs,tx),()):=by
 refine(by kernel_rfl:(Ke (E,C,G)→Z42 E→Jfj (n,k,ns,vs,tx)→(Jb (n,k,ns,vs,tx)=0∧Da (E,C,G) (n,k,ns,vs,tx)=0→False)→Jdq ns vs∧Br (Jb (n,k,ns,vs,tx) !=0) (Sf true (Sf T ((E,C,G)=Vi (E,C,G) (n,k,ns,vs,tx)∧Jb (n,k,ns,vs,tx)=Um (E,C,G) (n,k,ns,vs,tx)))) ((Ke (E,C,G)∧Jb (n,k,ns,vs,tx)=0)∧Br (Da (E,C,G) (n,k,ns,vs,tx) !=0) (Sf true (Sf T ((E,C,G)=Vi (E,C,G) (n,k,ns,vs,tx)∧Da (E,C,G) (n,k,ns,vs,tx)=Um (E,C,G) (n,k,ns,vs,tx)))) (Jc0 ns vs∧Jc9 E∧Br (Lb k J2) (Z64 C∧Jdr C G∧Sf true (Sf T ((E++[(n,k,ns,vs,tx)],Jdt C G)=Vi (E,C,G) (n,k,ns,vs,tx)∧0=Um (E,C,G) (n,k,ns,vs,tx)))) (Br (V0 G) (Vz G∧Jdp G∧Jxs 777 1) (Jdu∧Jxs 777 1)))))=_).mp ?_
 delta Z1 Z42 Z54 Z64 V0 Jbc Jc9 Jgu Jc0 Df Jdu Vz Vr Jdt Jhs D9 D8 Hs Hr De Zy Jdr Jdq Jdp Br Iw Bd T2 Tw Sf Ln Gt Lb J2
 intro hh hlt hsz hx
 have n1:E.length≤1000:=hh.nE
 have e1:Jb (n,k,ns,vs,tx)≠0→Um (E,C,G) (n,k,ns,vs,tx)=Jb (n,k,ns,vs,tx):=fun h=>by unfold Um;rw[if_pos h]
 have e2:¬Jb (n,k,ns,vs,tx)≠0→Um (E,C,G) (n,k,ns,vs,tx)=Da (E,C,G) (n,k,ns,vs,tx):=fun h=>by unfold Um;rw[if_neg h]
 have e3:Um (E,C,G) (n,k,ns,vs,tx)≠0→Vi (E,C,G) (n,k,ns,vs,tx)=(E,C,G):=fun h=>by unfold Vi;rw[if_neg h]
 refine⟨⟨hsz.1,hsz.2.1,hsz.2.2⟩,fun h=> ?_,fun h=>⟨⟨hh, ?_⟩,fun h2=> ?_,fun h2=> ?_⟩⟩
 ·have h:Jb (n,k,ns,vs,tx)≠0:=bne_iff_ne.1 h
  exact⟨rfl,rfl,(e3 (by rw[e1 h];exact h)).symm,(e1 h).symm⟩
 ·exact bne_eq_false_iff_eq.1 h
 ·have h:Jb (n,k,ns,vs,tx)=0:=bne_eq_false_iff_eq.1 h
  have h2:Da (E,C,G) (n,k,ns,vs,tx)≠0:=bne_iff_ne.1 h2
  have e4:=e2 (by rw[h];simp)
  exact⟨rfl,rfl,(e3 (by rw[e4];exact h2)).symm,e4.symm⟩
 ·exact absurd ⟨bne_eq_false_iff_eq.1 h,bne_eq_false_iff_eq.1 h2⟩ hx
theorem Juf {f:FuncId} {c:Xu} {p1 p2:c.s.T→ATup c.args→List Prop} (h1:OkO Tryz.prog f {c with pre:=p1}) (h2:OkO Tryz.prog f {c with pre:=p2}) (h:∀x y,Un (c.pre x y)→Un (p1 x y)∨Un (p2 x y)):OkO Tryz.prog f c:=
 ⟨h1.1,fun x y M R B w b T cells vals vs hB hMR hg hw hBb hMb hRb hT ho hv hpre ha=>(h x y hpre).elim (fun q=>h1.2 x y M R B w b T cells vals vs hB hMR hg hw hBb hMb hRb hT ho hv q ha) fun q=>h2.2 x y M R B w b T cells vals vs hB hMR hg hw hBb hMb hRb hT ho hv q ha⟩
theorem Kbo (T:TypeId):∀(x:Kn) (y:ATup [aEv]),wpFO Tryz.prog W92.g (na ()) (fun _=>na ()) (Sx.look ([(75,Tryz.f75),(129,Tryz.f129)]:List (Nat×Func))) Tryz.f121 Jb5 T x y
 |(E,C,G),((n,k,ns,vs,tx),())=>by
  refine Jh2 (by kernel_rfl) fun hp=> ?_
  have hc:Jb (n,k,ns,vs,tx)=0:=hp.2.2.2.1
  rcases Vc (Ul hc).kind with h|h|h|h|h|h|h|h|h|h|h<;>dsimp only at h<;>subst h
  ·exact Jq1 T E C G n ns vs tx
  ·exact Jh7 T E C G n ns vs tx
  ·exact Jmy T E C G n ns vs tx
  ·exact Jmz T E C G n ns vs tx
  ·exact Jm0 T E C G n ns vs tx
  ·exact Jq2 T E C G n ns vs tx
  ·exact Jko T E C G n ns vs tx
  ·exact Jh8 T E C G n ns vs tx
  ·exact Jkn T E C G n ns vs tx
  ·exact Jkm T E C G n ns vs tx
  ·exact Jkl T E C G n ns vs tx
theorem okK:OkO Tryz.prog 121 Jb5:=Ub mixed W92.ok (by kernel_rfl) (by kernel_rfl) (U5 (l:=([(75,Tryz.f75),(129,Tryz.f129)]:List (Nat×Func))) (List.forall_mem_cons.2 ⟨by kernel_rfl,List.forall_mem_cons.2 ⟨by kernel_rfl,by simp⟩⟩)) (fun _ _=>na ()) (fun _ _=>fun _=>na ()) fun T xx yy _=>Kbo T xx yy
theorem okG:OkO Tryz.prog 121 Kds:=Ub mixed gG (by kernel_rfl) (by kernel_rfl) (U5 (l:=([(75,Tryz.f75),(129,Tryz.f129)]:List (Nat×Func))) (List.forall_mem_cons.2 ⟨by kernel_rfl,List.forall_mem_cons.2 ⟨by kernel_rfl,by simp⟩⟩)) (fun _ _=>na ()) (fun _ _=>fun _=>na ()) fun T xx yy _=>Js9 T xx.1 xx.2.1 xx.2.2 yy.1.1 yy.1.2.1 yy.1.2.2.1 yy.1.2.2.2.1 yy.1.2.2.2.2
theorem Krt:Ok Tryz.prog 121 (Xu.con Kic):=X0 (Juf (c:=Kic) okK okG fun x y hp=>by
 by_cases h:Jb y.1=0∧Da x y.1=0
 ·exact .inl ⟨hp.1,hp.2.1,hp.2.2,h.1,h.2⟩
 ·exact .inr ⟨hp.1,hp.2.1,hp.2.2,h⟩)
abbrev W93:=W92.add Krt
theorem Yj {α:Type} {p:α→Bool} {m:List α}:∀{l:List α} {k:Nat},0≤Vm p l k→Vm p (l++m) k=Vm p l k
 |[],k,h=>by simp[Vm] at h
 | x :: l, k, h => by
  show(if p x=true then(k:Int) else Vm p (l++m) (k+1))=(if p x=true then(k:Int) else Vm p l (k+1))
  have h:0≤(if p x=true then(k:Int) else Vm p l (k+1)):=h
  by_cases hp:p x=true
  ·rw[if_pos hp,if_pos hp]
  ·rw[if_neg hp] at h
   rw[if_neg hp,if_neg hp,Yj h]
theorem Dw {α:Type} {p:α→Bool} {y:α}:∀{l:List α} {i k:Nat},(∀x,l[i]? =some x→p y=p x)→Vm p (l.set i y) k=Vm p l k
 |[],_,_,_=>rfl
 |x::l,0,k,h=>by
  have:=h x rfl
  simp only[List.set_cons_zero]
  unfold Vm
  rw[this]
 |x::l,i+1,k,h=>by
  simp only[List.set_cons_succ]
  unfold Vm
  rw[Dw fun z hz=>h z (by simpa using hz)]
theorem Je7 {α:Type} {l:List α} {i:Nat} {d x:α} (h:l[i]? =some x):l.getD i d=x:=by
 rw[List.getD_eq_getElem?_getD,h];rfl
theorem Jbp {α:Type} {l:List α} {i:Nat} {y x:α} (h:x∈l.set i y):x=y∨x∈l:=by
 rcases List.mem_or_eq_of_mem_set h with h|h
 ·exact .inr h
 ·exact .inl h
theorem Yd {α:Type} {l:List α} {y x:α} (h:x∈l++[y]):x∈l∨x=y:=by
 rcases List.mem_append.1 h with h|h
 ·exact .inl h
 ·exact .inr (by simpa using h)
theorem Yf {b:Bool} {c:Int} (hc:c≠0) (h:(bif b then c else 0)=0):b=false:=by
 cases b with
 |true=>exact absurd h hc
 |false=>rfl
theorem Zp {a b:Int} (h:Jg [a,b]=0):a=0∧b=0:=
 ⟨Uu.1 h _ (List.mem_cons_self ..),Uu.1 h _ (List.mem_cons_of_mem _ (List.mem_cons_self ..))⟩
theorem Jfe {a b c:Int} (h:Jg [a,b,c]=0):a=0∧b=0∧c=0:=
 ⟨Uu.1 h _ (by simp),Uu.1 h _ (by simp),Uu.1 h _ (by simp)⟩
theorem Jbo {O:List Ord} {s:ByteArray} (h:0≤Kx O s):Xz O s∈O:=by
 have:=Uz (l:=O) (s:=s)
 exact Jc (by omega)
theorem Jue {X:List Out} {s:ByteArray} (h:0≤J7 X s):L7 X s∈X:=by
 have:=Uo (l:=X) (s:=s)
 exact Jc (by omega)
theorem Jm5 {S:List Sta} {s:ByteArray} (h:0≤Jx S s):Hq S s∈S:=by
 have:=K2 (l:=S) (s:=s)
 exact Jc (by omega)
theorem J35 {Q:List Per} {s:ByteArray} (h:0≤U0 Q s):Jmj Q s∈Q:=by
 have:=Uy (l:=Q) (s:=s)
 exact Jc (by omega)
theorem Jca.mono {S S':List Sta} {x:Ord} (h:Jca S x) (hs:∀s,0≤Jx S s→0≤Jx S' s):Jca S' x:=⟨h.span,h.pow,h.pri,h.trip,hs _ h.fr,hs _ h.tu⟩
theorem Jop.mono {S S':List Sta} {x:Out} (h:Jop S x) (hs:∀s,0≤Jx S s→0≤Jx S' s):Jop S' x:=⟨h.span,h.rest,hs _ h.sta⟩
section
variable {tk st v:Int} {S:List Sta} {O:List Ord} {M:List Met} {X:List Out} {Q:List Per} {n:Int} {k tx:ByteArray} {ns:List ByteArray} {vs:List Int}
theorem Jq9 (hr:Jj (tk,st,S,O,M,X,Q)) (hv:tk≤v∧v≤999999999) (hc:Jl7 S vs=0) {a:ByteArray}:Jj (v,st,S++[(a,vs.getD 1 0,0)],O,M,X,Q):=by
 obtain⟨c1,c2⟩:=Zp hc
 have c1:=Yg.1 c1
 have c2:=of_decide_eq_false (Yf (by decide) c2)
 have hs:∀s,0≤Jx S s→0≤Jx (S++[(a,vs.getD 1 0,0)]) s:=fun s h=>by unfold Jx at h⊢;rw[Yj h];exact h
 have h0:=hr.tk
 have h1:=hr.st
 dsimp only at h0 h1
 refine⟨by dsimp only;omega,by dsimp only;omega,by dsimp only;rw[List.length_append,List.length_singleton];omega,hr.nO,hr.nM,hr.nX,hr.nQ,fun x hx=> ?_,fun x hx=>(hr.ord x hx).mono hs,hr.met,fun x hx=>(hr.out x hx).mono hs,hr.per,hr.done⟩
 rcases Yd hx with h|rfl
 ·exact hr.sta x h
 ·exact⟨c1,Int.le_refl 0,by show(0:Int)≤1000;decide⟩
theorem Jyv (hr:Jj (tk,st,S,O,M,X,Q)) (hv:tk≤v∧v≤999999999) (hc:Jn7 vs=0) {a:ByteArray} (ha:0≤Jx S a):Jj (v,st,S.set (Jx S a).toNat ((Hq S a).1,(Hq S a).2.1,vs.getD 1 0),O,M,X,Q):=by
 have c1:=Yg.1 hc
 have hs:∀s,0≤Jx S s→0≤Jx (S.set (Jx S a).toNat ((Hq S a).1,(Hq S a).2.1,vs.getD 1 0)) s:=fun s h=>by
  unfold Jx at h⊢
  rw[Dw fun x hx=> ?_]
  ·exact h
  ·have:=Je7 (d:=Jm6) hx
   show((Hq S a).1.toList==s.toList)=_
   unfold Hq Jx
   rw[this]
 have h0:=hr.tk
 have h1:=hr.st
 dsimp only at h0 h1
 refine⟨by dsimp only;omega,by dsimp only;omega,by rw[List.length_set];exact hr.nS,hr.nO,hr.nM,hr.nX,hr.nQ,fun x hx=> ?_,fun x hx=>(hr.ord x hx).mono hs,hr.met,fun x hx=>(hr.out x hx).mono hs,hr.per,hr.done⟩
 rcases Jbp hx with rfl|h
 ·exact⟨(hr.sta _ (Jm5 ha)).lim,c1⟩
 ·exact hr.sta x h
theorem Jyx (hr:Jj (tk,st,S,O,M,X,Q)) (hv:tk≤v∧v≤999999999) (hm:M.length<10000) (ho:0≤Kx O (ns.getD 0 Ja)) (hb:∀i,i<4→0≤vs.getD i 0∧vs.getD i 0≤999999999) (hc:Jl8 O M ns vs=0):Jj (v,st,S,O,M++[(ns.getD 0 Ja,vs.getD 1 0,vs.getD 2 0,vs.getD 3 0)],X,Q):=by
 have h5:=Yf (by decide) (Uu.1 hc _ (List.mem_cons_of_mem _ (List.mem_cons_of_mem _ (List.mem_cons_of_mem _ (List.mem_cons_of_mem _ (List.mem_cons_self ..))))))
 have h6:=bn1 h5
 have p1:=of_decide_eq_false h6.1
 have p2:=of_decide_eq_false h6.2
 have hp:1≤(Xz O (ns.getD 0 Ja)).2.2.2.2.1∧(Xz O (ns.getD 0 Ja)).2.2.2.2.1≤1000:=(hr.ord _ (Jbo ho)).pow
 have h0:=hr.tk
 have h1:=hr.st
 dsimp only at h0 h1
 have b1:=hb 1 (by omega)
 have b2:=hb 2 (by omega)
 have b3:=hb 3 (by omega)
 refine⟨by dsimp only;omega,by dsimp only;omega,hr.nS,hr.nO,by dsimp only;rw[List.length_append,List.length_singleton];omega,hr.nX,hr.nQ,hr.sta,hr.ord,fun x hx=> ?_,hr.out,hr.per,fun x hx h e1 e2=> ?_⟩
 ·rcases Yd hx with h|rfl
  ·exact hr.met x h
  ·exact⟨b1,⟨b2.1,by dsimp only;omega⟩,⟨b3.1,by dsimp only;omega⟩⟩
 ·have:=hr.done x hx h e1 e2
  unfold Kv at this⊢
  dsimp only at this⊢
  rw[Yj this];exact this
theorem Joy {e:Ev} (hv:EvV e) (hl:e.2.2.2.1.length=4) (hc:Ze e=0):Jmg (Vs e)∧e.2.2.2.1.getD 0 0≤(Vs e).1:=by
 have h:=Yf (by decide) hc
 have h1:=bn1 h
 have h2:=bn1 h1.1
 have e1:=of_decide_eq_false h2.1
 have e2:=of_decide_eq_false h2.2
 have e3:=of_decide_eq_false h1.2
 have v1:0≤(Vs e).1∧(Vs e).1≤999999999:=hv _ (Jc (by omega))
 have v2:0≤(Vs e).2∧(Vs e).2≤999999999:=hv _ (Jc (by omega))
 exact⟨⟨v1.1,by omega,v2.2,by omega⟩,by omega⟩
theorem Jyw (hr:Jj (tk,st,S,O,M,X,Q)) (hv:tk≤v∧v≤999999999) (hvs:v=vs.getD 0 0) (hE:EvV (n,k,ns,vs,tx)) (hl:vs.length=4) (h1:0≤Jx S (ns.getD 1 Ja)) (h2:0≤Jx S (ns.getD 2 Ja)) (hc:Jb4 S O X (n,k,ns,vs,tx)=0):Jj (v,st,S,O++[(ns.getD 0 Ja,ns.getD 1 Ja,ns.getD 2 Ja,Vs (n,k,ns,vs,tx),vs.getD 3 0,(Hq S (ns.getD 1 Ja)).2.2,-1)],M,X,Q):=by
 have hk:¬Jho (n,k,ns,vs,tx)≠0:=fun h=>by unfold Jb4 at hc;rw[if_pos h] at hc;exact h hc
 unfold Jb4 at hc
 rw[if_neg hk] at hc
 obtain⟨c1,c2⟩:=Zp hc
 have c2:=of_decide_eq_false (Yf (by decide) c2)
 obtain⟨d1,d2,d3⟩:=Jfe (show Jg [_,Ze (n,k,ns,vs,tx),Ki (vs.getD 3 0) 1 1000]=0 from Decidable.of_not_not hk)
 have d3:=Yg.1 d3
 obtain⟨sp,sv⟩:=Joy hE hl d2
 have sv:vs.getD 0 0≤(Vs (n,k,ns,vs,tx)).1:=sv
 have g0:=hr.tk
 have g1:=hr.st
 dsimp only at g0 g1
 refine⟨by dsimp only;omega,by dsimp only;omega,hr.nS,by dsimp only;rw[List.length_append,List.length_singleton];omega,hr.nM,hr.nX,hr.nQ,hr.sta,fun x hx=> ?_,hr.met,hr.out,hr.per,fun x hx hh e1 e2=> ?_⟩
 ·rcases Yd hx with h|rfl
  ·exact hr.ord x h
  ·exact⟨sp,d3,(hr.sta _ (Jm5 h1)).pri,⟨Int.le_refl _,by show(-1:Int)≤999999999;decide⟩,h1,h2⟩
 ·rcases Yd hx with h|rfl
  ·exact hr.done x h hh e1 e2
  ·exfalso
   unfold Jo Kq at e1
   dsimp only at e1 e2
   cases h3:decide ((Vs (n,k,ns,vs,tx)).1≤hh) with
   |true=>have:=of_decide_eq_true h3;omega
   |false=>rw[h3] at e1;cases e1
theorem Jto (hr:Jj (tk,st,S,O,M,X,Q)) (hv:tk≤v∧v≤999999999) (hE:EvV (n,k,ns,vs,tx)) (hl:vs.length=4) (h1:0≤Jx S (ns.getD 1 Ja)) (hc:Jb3 S O X (n,k,ns,vs,tx)=0):Jj (v,st,S,O,M,X++[(ns.getD 0 Ja,ns.getD 1 Ja,Vs (n,k,ns,vs,tx),vs.getD 3 0)],Q):=by
 have hk:¬Jhn S (n,k,ns,vs,tx)≠0:=fun h=>by unfold Jb3 at hc;rw[if_pos h] at hc;exact h hc
 unfold Jb3 at hc
 rw[if_neg hk] at hc
 obtain⟨c1,c2⟩:=Zp hc
 have c2:=of_decide_eq_false (Yf (by decide) c2)
 obtain⟨d2,d3⟩:=Zp (show Jg [Ze (n,k,ns,vs,tx),bif decide ((Hq S (ns.getD 1 Ja)).2.1≤vs.getD 3 0) then 3 else 0]=0 from Decidable.of_not_not hk)
 have d3:=of_decide_eq_false (Yf (by decide) d3)
 obtain⟨sp,sv⟩:=Joy hE hl d2
 have hl3:(Hq S (ns.getD 1 Ja)).2.1≤1000:=(hr.sta _ (Jm5 h1)).lim.2
 have v3:0≤vs.getD 3 0∧vs.getD 3 0≤999999999:=hE _ (Jc (show 3<vs.length by omega))
 have hf:∀s,0≤J7 X s→0≤J7 (X++[(ns.getD 0 Ja,ns.getD 1 Ja,Vs (n,k,ns,vs,tx),vs.getD 3 0)]) s:=fun s h=>by unfold J7 at h⊢;rw[Yj h];exact h
 have g0:=hr.tk
 have g1:=hr.st
 dsimp only at g0 g1
 refine⟨by dsimp only;omega,by dsimp only;omega,hr.nS,hr.nO,hr.nM,by dsimp only;rw[List.length_append,List.length_singleton];omega,hr.nQ,hr.sta,hr.ord,hr.met,fun x hx=> ?_,fun x hx=>hf _ (hr.per x hx),hr.done⟩
 rcases Yd hx with h|rfl
 ·exact hr.out x h
 ·exact⟨sp,⟨v3.1,by dsimp only;omega⟩,h1⟩
theorem J3t (hr:Jj (tk,st,S,O,M,X,Q)) (hv:tk≤vs.getD 0 0∧vs.getD 0 0≤999999999) (ho:0≤Kx O (ns.getD 0 Ja)) (hc:Jct O ns vs=0):Jj (vs.getD 0 0,st,S,Fx O (ns.getD 0 Ja) (vs.getD 0 0),M,X,Q):=by
 have h1:=bn1 (Yf (by decide) hc)
 have c1:(Xz O (ns.getD 0 Ja)).2.2.2.2.2.2= -1:=bne_eq_false_iff_eq.1 h1.1
 have hm:=Jbo ho
 have g0:=hr.tk
 have g1:=hr.st
 dsimp only at g0 g1
 have ox:Jca S (Xz O (ns.getD 0 Ja)):=hr.ord _ hm
 refine⟨by dsimp only;omega,by dsimp only;omega,hr.nS,by unfold Fx;rw[List.length_set];exact hr.nO,hr.nM,hr.nX,hr.nQ,hr.sta,fun x hx=> ?_,hr.met,hr.out,hr.per,fun x hx hh e1 e2=> ?_⟩
 ·rcases Jbp hx with rfl|h
  ·exact⟨ox.span,ox.pow,ox.pri,⟨by dsimp only;omega,hv.2⟩,ox.fr,ox.tu⟩
  ·exact hr.ord x h
 ·rcases Jbp hx with rfl|h
  ·refine hr.done _ hm hh ?_ e2
   unfold Jo at e1⊢
   rw[c1]
   have e1:(bif Kq (Xz O (ns.getD 0 Ja)).2.2.2.1 hh then _ else false)=true:=e1
   cases h3:Kq (Xz O (ns.getD 0 Ja)).2.2.2.1 hh with
   |true=>rfl
   |false=>rw[h3] at e1;cases e1
  ·exact hr.done x h hh e1 e2
theorem Jra (hr:Jj (tk,st,S,O,M,X,Q)) (hv:tk≤vs.getD 0 0∧vs.getD 0 0≤999999999) (ho:0≤J7 X (ns.getD 0 Ja)) (hc:Jcu X Q ns vs=0):Jj (vs.getD 0 0,st,S,O,M,Jd6 X (ns.getD 0 Ja) (vs.getD 0 0),Q):=by
 obtain⟨c1,c2,c3⟩:=Jfe hc
 have c1:=of_decide_eq_false (Yf (by decide) c1)
 have c2:=of_decide_eq_false (Yf (by decide) c2)
 have hm:=Jue ho
 have ox:Jop S (L7 X (ns.getD 0 Ja)):=hr.out _ hm
 have l1:=ox.span.lo
 have l2:=ox.span.len
 have g0:=hr.tk
 have g1:=hr.st
 dsimp only at g0 g1
 have hf:∀s,0≤J7 X s→0≤J7 (Jd6 X (ns.getD 0 Ja) (vs.getD 0 0)) s:=fun s h=>by
  unfold Jd6
  unfold J7 at h⊢
  rw[Dw fun x hx=> ?_]
  ·exact h
  ·have:=Je7 (d:=Jbd) hx
   show((L7 X (ns.getD 0 Ja)).1.toList==s.toList)=_
   unfold L7 J7
   rw[this]
 refine⟨by dsimp only;omega,by dsimp only;omega,hr.nS,hr.nO,hr.nM,by unfold Jd6;rw[List.length_set];exact hr.nX,hr.nQ,hr.sta,hr.ord,hr.met,fun x hx=> ?_,fun x hx=>hf _ (hr.per x hx),hr.done⟩
 rcases Jbp hx with rfl|h
 ·exact⟨⟨l1,by dsimp only;omega,hv.2,by dsimp only;omega⟩,ox.rest,ox.sta⟩
 ·exact hr.out x h
theorem Jtn (hr:Jj (tk,st,S,O,M,X,Q)) (hv:tk≤v∧v≤999999999) (ho:0≤J7 X (ns.getD 1 Ja)) (hc:Jcv X Q ns vs=0):Jj (v,st,S,O,M,X,Q++[(ns.getD 0 Ja,ns.getD 1 Ja,true)]):=by
 have c2:=of_decide_eq_false (Yf (by decide) (Zp hc).2)
 have g0:=hr.tk
 have g1:=hr.st
 dsimp only at g0 g1
 refine⟨by dsimp only;omega,by dsimp only;omega,hr.nS,hr.nO,hr.nM,hr.nX,by dsimp only;rw[List.length_append,List.length_singleton];omega,hr.sta,hr.ord,hr.met,hr.out,fun x hx=> ?_,hr.done⟩
 rcases Yd hx with h|rfl
 ·exact hr.per x h
 ·exact ho
theorem Jtm (hr:Jj (tk,st,S,O,M,X,Q)) (hv:tk≤v∧v≤999999999) {a:ByteArray} (ho:0≤U0 Q a):Jj (v,st,S,O,M,X,Fy Q a):=by
 have g0:=hr.tk
 have g1:=hr.st
 dsimp only at g0 g1
 refine⟨by dsimp only;omega,by dsimp only;omega,hr.nS,hr.nO,hr.nM,hr.nX,by unfold Fy;rw[List.length_set];exact hr.nQ,hr.sta,hr.ord,hr.met,hr.out,fun x hx=> ?_,hr.done⟩
 rcases Jbp hx with rfl|h
 ·exact hr.per (Jmj Q a) (J35 ho)
 ·exact hr.per x h
theorem Jlj {u:Int} {x:Ord}:∀{m:Nat} {a:Int},L9 M u x a m=[]→∀h,a≤h→h<a+m→(Jo x h&&(decide (h<u)&&decide (Kv M x.1 h<0)))=false
 |0,a,_,h,h1,h2=>by omega
 | m + 1, a, e, h, h1, h2 => by
  unfold L9 at e
  obtain⟨e1,e2⟩:=List.append_eq_nil_iff.1 e
  by_cases ha:h=a
  ·subst ha
   cases hb:Jo x h&&(decide (h<u)&&decide (Kv M x.1 h<0)) with
   |false=>rfl
   |true=>rw[hb] at e1;cases e1
  ·exact Jlj e2 h (by omega) (by push_cast at h2;omega)
theorem Jlh {u:Int}:∀{O:List Ord},Kp M u O=[]→∀x∈O,Juo M u x=[]
 |[],_,x,hx=>by cases hx
 |y::l,e,x,hx=>by
  unfold Kp at e
  obtain⟨e1,e2⟩:=List.append_eq_nil_iff.1 e
  rcases List.mem_cons.1 hx with rfl|hx
  ·exact e1
  ·exact Jlh e2 x hx
theorem Jvq {x:Ord} {h:Int} (e:Jo x h=true):x.2.2.2.1.1≤h∧h<x.2.2.2.1.2:=by
 unfold Jo Kq at e
 cases h1:decide (x.2.2.2.1.1≤h) with
 |false=>rw[h1] at e;cases e
 |true=>
  cases h2:decide (h<x.2.2.2.1.2) with
  |false=>rw[h1,h2] at e;cases e
  |true=>exact⟨of_decide_eq_true h1,of_decide_eq_true h2⟩
theorem Jtl (hr:Jj (tk,st,S,O,M,X,Q)) (hv:tk≤vs.getD 0 0∧vs.getD 0 0≤999999999) (hc:Lz st O M X Q vs=0):Jj (vs.getD 0 0,vs.getD 1 0,S,O,M,X,Q):=by
 unfold Lz at hc
 cases h1:(bif decide (vs.getD 1 0≤st) then true else decide (vs.getD 0 0<vs.getD 1 0)) with
 |true=>rw[h1] at hc;cases hc
 |false=>
  rw[h1,cond_false] at hc
  have h2:=bn1 h1
  have d1:=of_decide_eq_false h2.1
  have d2:=of_decide_eq_false h2.2
  have h3:=of_decide_eq_false (bn1 (Yf (by decide) hc)).1
  have h4:Kp M (vs.getD 1 0) O=[]:=List.eq_nil_of_length_eq_zero (by omega)
  have g0:=hr.tk
  have g1:=hr.st
  dsimp only at g0 g1
  refine⟨by dsimp only;omega,by dsimp only;omega,hr.nS,hr.nO,hr.nM,hr.nX,hr.nQ,hr.sta,hr.ord,hr.met,hr.out,hr.per,fun x hx hh e1 e2=> ?_⟩
  have hi:=Jvq e1
  have h5:=Jlj (Jlh h4 x hx) hh hi.1 (by omega)
  have e2:hh<vs.getD 1 0:=e2
  rw[e1,decide_eq_true e2,Bool.true_and,Bool.true_and] at h5
  have:=of_decide_eq_false h5
  show 0≤Kv M x.1 hh
  omega
end
theorem J3q {h:Kn} {e:Ev} (hh:Ke h) (hm:(Kf h.2.2).2.2.2.2.1.length<10000) (hc:Jb e=0) (ha:Da h e=0) (hk:(e.2.1.toList==J2.toList)=false):Jj (Js (Kf h.2.2) e):=by
 obtain⟨n,k,ns,vs,tx⟩:=e
 have hE:=Ul hc
 have eK:=Yw (h:=h) (n:=n) (k:=k) (ns:=ns) (vs:=vs) (tx:=tx) hk
 rw[ha] at eK
 obtain⟨_,z2,z3,z4,z5⟩:=Jba eK.symm
 have hr:=X1 hh
 clear eK ha z4
 generalize Kf h.2.2=r at*
 obtain⟨tk,st,S,O,M,X,Q⟩:=r
 have z2:¬vs.getD 0 0<tk:=z2
 have hm:M.length<10000:=hm
 have hn:ns.length=(Ji k).1.length:=hE.nn
 have hvl:(vs.length:Int)=(Ji k).2.1:=hE.nv
 have hx:∀i,i<vs.length→(0≤vs.getD i 0∧vs.getD i 0≤999999999):=fun i hi=>hE.val _ (Jc hi)
 have hV:EvV (n,k,ns,vs,tx):=hE.val
 have hkd:=Vc hE.kind
 dsimp only at hkd hk
 clear hE hc hh
 rcases hkd with h|h|h|h|h|h|h|h|h|h|h<;>subst h
 ·exact absurd hk (by rw[show(J2.toList==J2.toList)=true from by kernel_rfl];decide)
 ·simp only[K8,List.length_cons,List.length_nil] at hn hvl z3
  simp only[ckS,K8] at z5
  obtain⟨k0,z3⟩:=Jn z3
  have e:Js (tk,st,S,O,M,X,Q) (n,Jy,ns,vs,tx)=(vs.getD 0 0,(Ja0 (tk,st,S,O,M,X,Q) (n,Jy,ns,vs,tx)).2):=by unfold Js doS;simp only[K8]
  rw[e]
  have hv:tk≤vs.getD 0 0∧vs.getD 0 0≤999999999:=⟨by omega,(hx 0 (by omega)).2⟩
  exact Jq9 hr hv z5
 ·simp only[Va,List.length_cons,List.length_nil] at hn hvl z3
  simp only[ckS,Va] at z5
  obtain⟨k0,z3⟩:=Jn z3
  have e:Js (tk,st,S,O,M,X,Q) (n,K9,ns,vs,tx)=(vs.getD 0 0,(Fl (tk,st,S,O,M,X,Q) (n,K9,ns,vs,tx)).2):=by unfold Js doS;simp only[Va]
  rw[e]
  have hv:tk≤vs.getD 0 0∧vs.getD 0 0≤999999999:=⟨by omega,(hx 0 (by omega)).2⟩
  exact Jyv hr hv z5 (Jry (k0 rfl))
 ·simp only[Uv,List.length_cons,List.length_nil] at hn hvl z3
  simp only[ckS,Uv] at z5
  obtain⟨k0,z3⟩:=Jn z3
  obtain⟨k1,z3⟩:=Jn z3
  obtain⟨k2,z3⟩:=Jn z3
  have e:Js (tk,st,S,O,M,X,Q) (n,Kl,ns,vs,tx)=(vs.getD 0 0,(Fp (tk,st,S,O,M,X,Q) (n,Kl,ns,vs,tx)).2):=by unfold Js doS;simp only[Uv]
  rw[e]
  have hv:tk≤vs.getD 0 0∧vs.getD 0 0≤999999999:=⟨by omega,(hx 0 (by omega)).2⟩
  exact Jyw hr hv rfl hV (by omega) (Jry (k1 rfl)) (Jry (k2 rfl)) z5
 ·simp only[Uw,List.length_cons,List.length_nil] at hn hvl z3
  simp only[ckS,Uw] at z5
  obtain⟨k0,z3⟩:=Jn z3
  have e:Js (tk,st,S,O,M,X,Q) (n,K3,ns,vs,tx)=(vs.getD 0 0,(Fq (tk,st,S,O,M,X,Q) (n,K3,ns,vs,tx)).2):=by unfold Js doS;simp only[Uw]
  rw[e]
  have hv:tk≤vs.getD 0 0∧vs.getD 0 0≤999999999:=⟨by omega,(hx 0 (by omega)).2⟩
  exact Jyx hr hv hm (J2j (k0 rfl)) (fun i hi=>hx i (by omega)) z5
 ·simp only[Vo,List.length_cons,List.length_nil] at hn hvl z3
  simp only[ckS,Vo] at z5
  obtain⟨k0,z3⟩:=Jn z3
  have e:Js (tk,st,S,O,M,X,Q) (n,Vn,ns,vs,tx)=(vs.getD 0 0,(Fk (tk,st,S,O,M,X,Q) (n,Vn,ns,vs,tx)).2):=by unfold Js doS;simp only[Vo]
  rw[e]
  have hv:tk≤vs.getD 0 0∧vs.getD 0 0≤999999999:=⟨by omega,(hx 0 (by omega)).2⟩
  exact J3t hr hv (J2j (k0 rfl)) z5
 ·simp only[Kw,List.length_cons,List.length_nil] at hn hvl z3
  simp only[ckS,Kw] at z5
  obtain⟨k0,z3⟩:=Jn z3
  obtain⟨k1,z3⟩:=Jn z3
  have e:Js (tk,st,S,O,M,X,Q) (n,Jz,ns,vs,tx)=(vs.getD 0 0,(Fn (tk,st,S,O,M,X,Q) (n,Jz,ns,vs,tx)).2):=by unfold Js doS;simp only[Kw]
  rw[e]
  have hv:tk≤vs.getD 0 0∧vs.getD 0 0≤999999999:=⟨by omega,(hx 0 (by omega)).2⟩
  exact Jto hr hv hV (by omega) (Jry (k1 rfl)) z5
 ·simp only[Kk,List.length_cons,List.length_nil] at hn hvl z3
  simp only[ckS,Kk] at z5
  obtain⟨k0,z3⟩:=Jn z3
  have e:Js (tk,st,S,O,M,X,Q) (n,Ju,ns,vs,tx)=(vs.getD 0 0,(Fm (tk,st,S,O,M,X,Q) (n,Ju,ns,vs,tx)).2):=by unfold Js doS;simp only[Kk]
  rw[e]
  have hv:tk≤vs.getD 0 0∧vs.getD 0 0≤999999999:=⟨by omega,(hx 0 (by omega)).2⟩
  exact Jra hr hv (J2i (k0 rfl)) z5
 ·simp only[K6,List.length_cons,List.length_nil] at hn hvl z3
  simp only[ckS,K6] at z5
  obtain⟨k0,z3⟩:=Jn z3
  obtain⟨k1,z3⟩:=Jn z3
  have e:Js (tk,st,S,O,M,X,Q) (n,Kd,ns,vs,tx)=(vs.getD 0 0,(Fo (tk,st,S,O,M,X,Q) (n,Kd,ns,vs,tx)).2):=by unfold Js doS;simp only[K6]
  rw[e]
  have hv:tk≤vs.getD 0 0∧vs.getD 0 0≤999999999:=⟨by omega,(hx 0 (by omega)).2⟩
  exact Jtn hr hv (J2i (k1 rfl)) z5
 ·simp only[K5,List.length_cons,List.length_nil] at hn hvl z3
  simp only[ckS,K5] at z5
  obtain⟨k0,z3⟩:=Jn z3
  have e:Js (tk,st,S,O,M,X,Q) (n,Kc,ns,vs,tx)=(vs.getD 0 0,(Jgo (tk,st,S,O,M,X,Q) (n,Kc,ns,vs,tx)).2):=by unfold Js doS;simp only[K5]
  rw[e]
  have hv:tk≤vs.getD 0 0∧vs.getD 0 0≤999999999:=⟨by omega,(hx 0 (by omega)).2⟩
  exact Jtm hr hv (Kia (k0 rfl))
 ·simp only[Ut,List.length_cons,List.length_nil] at hn hvl z3
  simp only[ckS,Ut] at z5
  have e:Js (tk,st,S,O,M,X,Q) (n,Jh,ns,vs,tx)=(vs.getD 0 0,(Jaz (tk,st,S,O,M,X,Q) (n,Jh,ns,vs,tx)).2):=by unfold Js doS;simp only[Ut]
  rw[e]
  have hv:tk≤vs.getD 0 0∧vs.getD 0 0≤999999999:=⟨by omega,(hx 0 (by omega)).2⟩
  exact Jtl hr hv z5
theorem J4t {r:Reg} {e:Ev}:(doS r e).2.2.2.2.1.length≤r.2.2.2.2.1.length+1:=by
 obtain⟨tk,st,S,O,M,X,Q⟩:=r
 obtain⟨n,k,ns,vs,tx⟩:=e
 unfold doS
 split<;>first|exact Nat.le_succ _|(show(M++[_]).length≤M.length+1;simp)
structure Y2 (h:Kn):Prop where
 ok:Ke h
 met:∀r∈h.2.2,r.2.2.2.2.1.length≤h.1.length
theorem Jui {h:Kn} (hi:Y2 h):(Kf h.2.2).2.2.2.2.1.length≤h.1.length:=by
 unfold Kf
 by_cases h0:0<h.2.2.length
 ·exact hi.met _ (Jc (by omega))
 ·have:h.2.2=[]:=List.eq_nil_of_length_eq_zero (by omega)
  rw[this];exact Nat.zero_le _
theorem add_zero {h:Kn} {e:Ev} (ha:Um h e=0):Jb e=0∧Da h e=0:=by
 unfold Um at ha
 by_cases hc:Jb e≠0
 ·rw[if_pos hc] at ha;exact absurd ha hc
 ·rw[if_neg hc] at ha;exact⟨Decidable.of_not_not hc,ha⟩
theorem Jfy {h:Kn} {e:Ev} (hi:Y2 h) (hl:h.1.length<1000) (ha:Um h e=0):Y2 (D3 h e):=by
 obtain⟨hc,hacc⟩:=add_zero ha
 obtain⟨E,C,G⟩:=h
 obtain⟨n1,n2,n3,hr⟩:=hi.ok
 have hm:=Jui hi
 dsimp only at n1 n2 n3 hr hl hm
 cases hk:e.2.1.toList==J2.toList with
 |true=>
  unfold D3
  rw[hk,cond_true]
  refine⟨⟨by simp;omega,by simp;omega,by simp;omega,fun r hx=>hr r (List.mem_of_mem_take hx)⟩,fun r hx=> ?_⟩
  have:r.2.2.2.2.1.length≤E.length:=hi.met r (List.mem_of_mem_take hx)
  simp only[List.length_append,List.length_singleton]
  omega
 | false =>
  have hs:=J3q hi.ok (Nat.lt_of_le_of_lt hm (by omega)) hc hacc hk
  unfold D3
  rw[hk,cond_false]
  refine⟨⟨by simp;omega,by simp;omega,by simp;omega,fun r hx=> ?_⟩,fun r hx=> ?_⟩
  ·rcases Yd hx with h|rfl
   ·exact hr r h
   ·exact hs
  ·rcases Yd hx with h|rfl
   ·have:r.2.2.2.2.1.length≤E.length:=hi.met r h
    simp only[List.length_append,List.length_singleton]
    omega
   ·have:=J4t (r:=Kf G) (e:=e)
    simp only[List.length_append,List.length_singleton]
    show(doS (Kf G) e).2.2.2.2.1.length≤_
    omega
theorem D2 {h:Kn} {e:Ev}:(D3 h e).1.length=h.1.length+1:=by
 unfold D3
 cases e.2.1.toList==J2.toList<;>simp
def Zz:Kn:=([],[],[])
theorem Hf:Y2 Zz:=⟨⟨by decide,by decide,rfl,fun _ h=>(by cases h)⟩,fun _ h=>(by cases h)⟩
def Jc2:Kn→List Ev→Kn×Int×Int
 |h,[]=>(h,0,0)
 |h,e::l=>if Um h e=0 then Jc2 (D3 h e) l else(h,h.1.length+1,Um h e)
def Jd (l:List Ev):Kn×Int×Int:=if 1000<l.length then(Zz,0,5) else Jc2 Zz l
def Jq (l:List Ev):Reg:=if(Jd l).2.2=0 then Kf (Jd l).1.2.2 else U1
def lOk (l:List Ev):Prop:=l.length≤1000000∧∀e∈l,Jfj e
abbrev J10:List SC:=[.int .i64 0, .int .i64 0, .val (.slice none 0 0), .val (.slice none 0 0), .val (.slice none 0 0), .val (.slice none 0 0), .val (.slice none 0 0)]
abbrev W94:=W93
def K7k:Con:={args:=[aS, .ref 105 Jm9],ress:=[I],owns:=[],pre:=fun(_,r,_)=>[Jj r],spec:=fun(s,r,_)=>(bif !Ve r 0 s then 10 else 0,())}
theorem Kre:Ok Tryz.prog 139 K7k:=okW W94 Tryz.f139 na fun xx=>by
 obtain⟨(s:ByteArray),⟨(tk:Int),(st:Int),(S:List Sta),(O:List Ord),(M:List Met),(X:List Out),(Q:List Per)⟩,_⟩:=xx
 refine(by kernel_rfl:(Jr tk st S O M X Q→Jr tk st S O M X Q∧(bif !Ve (Z61 tk st S O M X Q) (0:Int) s then(10:Int) else(0:Int))=bif !Ve (Z61 tk st S O M X Q) (0:Int) s then(10:Int) else(0:Int))=_).mp ?_
 delta Z61 Jr
 intro hr
 exact⟨hr,rfl⟩
abbrev W95:=W94.add Kre
def opE (l:List Ev) (ns:List ByteArray):Int:=if(Jd l).2.2=0 then Jg (ns.map fun s=>bif !Ve (Jq l) 0 s then 10 else 0) else(Jd l).2.2
def Ksu:Con:={args:=[.val false (.list 67 sEv), .val false (.list 9 .str)],ress:=[(true,Jm9),I],owns:=[],pre:=fun(l,ns,_)=>[lOk l,ns.length≤1000000],spec:=fun(l,ns,_)=>(Jq l,opE l ns,())}
abbrev J5t (l:List Ev) (ns:List ByteArray):Ann:={X:=Kn×Nat,σ:=fun(h,k)=>⟨9,[(5, .one (.ptr 4 0)),(14, .one (.sl 0)),(15, .one (.int .i64 l.length)),(16, .one (.int .i64 k))],[(0, .imm 67 sEv l),(1, .imm 9 .str ns),(2, .box 105 J10),(3, .sus [(1, .one (.sl 1)),(4, .one (.ptr 2 0))]),(4, .box 167 [.sl 6, .sl 7, .sl 8]),(6, .own 67 sEv h.1),(7, .own 67 sEv h.2.1),(8, .own 105 Jm9 h.2.2)]⟩,inv:=fun(h,k)=>Y2 h∧h.1.length=k∧k≤l.length∧l.length≤1000∧Jc2 h (l.drop k)=Jd l,mu:=fun(_,k)=>l.length-k}
def Z27 (a:Kn×Nat) (b:List Ev):=Bd (Nc a.2) (Ln b)
def Z34 (a:Kn×Nat):=Iw (Nc a.2+1)
def Jyh (a:Kn×Nat) (b:(List Ev×List Ev×List Reg)×Nat):=Nc a.2+1=Nc b.2
def Vj:=Value.slice none 0 0
def Jyf (a:Kn×Nat):=(a.1.1,E2 a.1.2)
def Khi (a:Kn×Nat):=Ke (Jyf a)
def Kan (a:List Ev) (b:Kn×Nat):=List.getD a b.2 Jae
def Kam (a:List Ev) (b:Kn×Nat):=(Kan a b).2
def J22 (a:List Ev) (b:Kn×Nat):=(Kam a b).2
def Jsw (a:List Ev):=Vr=Jq a
def Kll (a:(List Ev×List Ev×List Reg)×Nat):=List.length a.1.1=0∧List.length a.1.2.1=0∧List.length a.1.2.2=0
def Klj (a:Bt):= !Ve Vr 0 a
def Kym (a:Kn×Nat):=Gt a.1.2.2 (Ln a.1.2.2-1) Vr
def Kyj (a:Kn×Nat):=(Kym a).2
def Kyh (a:Kn×Nat):=(Kyj a).2
def Kf1 (a:Kn×Nat) (b:List Ev):=List.length a.1.1=a.2∧a.2≤List.length b∧List.length b≤1000∧Jc2 a.1 (List.drop a.2 b)=Jd b
def Kf0 (a:(List Ev×List Ev×List Reg)×Nat) (b:List Ev):=List.length a.1.1=a.2∧a.2≤List.length b∧List.length b≤1000∧Jc2 a.1 (List.drop a.2 b)=Jd b
def Kyd (a:Kn×Nat):=(Kyh a).2
def Kx9 (a:Kn×Nat):=(Kyd a).2
def Kj5 (a:Kn×Nat) (b:List Ev):=Y2 a.1∧Kf1 a b
def Kfo (a:(List Ev×List Ev×List Reg)×Nat) (b:List Ev):=Y2 a.1∧Kf0 a b
def Kwv (a:Ls):=List.map (fun(x:ByteArray)=>match Klj x with|true=>(10:Int)|false=>(0:Int)) a
def Kje (a:(List Ev×List Ev×List Reg)×Nat) (b:List Ev) (c:Kn×Nat):=Kfo a b∧List.length b-a.2<List.length b-c.2
def Jx2 (a:List Ev) (b:Kn×Nat):=((Kan a b).1,(Kam a b).1,(J22 a b).1,E2 (J22 a b).2)
def J9j (a:Kn×Nat) (b:List Ev):=Um (Jyf a) (Jx2 b a)
def Kio (a:Kn×Nat) (b:List Ev):=Vi (Jyf a) (Jx2 b a)
def Kin (a:Kn×Nat) (b:List Ev):=(Kio a b).2
def Kil (a:Kn×Nat) (b:List Ev):=Khi a∧List.length a.1.1<1000∧Jfj (Jx2 b a)
def Keo (a:Kn×Nat) (b:List Ev):=J9j a b !=0
def J1s (a:Kn×Nat):=((Kym a).1,(Kyj a).1,(Kyh a).1,(Kyd a).1,(Kx9 a).1,E2 (Kx9 a).2)
def J7z (a:Kn×Nat) (b:Ls):=List.map (fun(x:ByteArray)=>match !Ve (J1s a) (0:Int) x with|true=>(10:Int)|false=>(0:Int)) b
def J1m (a:Kn×Nat) (b:List Ev) (c:(List Ev×List Ev×List Reg)×Nat):=(Kio a b).1=c.1.1∧(Kin a b).1=c.1.2.1∧(Kin a b).2=c.1.2.2
theorem K6f:Ok Tryz.prog 68 Ksu:=J2c W95 Tryz.f68 (U5 (l:=([(74,Tryz.f74),(75,Tryz.f75)]:List (Nat×Func))) (List.forall_mem_cons.2 ⟨by kernel_rfl,List.forall_mem_cons.2 ⟨by kernel_rfl,by simp⟩⟩)) (fun xx=>na ()) (fun xx=>fun f id=>if f=74 then some (J5t xx.1 xx.2.1) else none) fun xx=>by
 obtain⟨(l:List Ev),(ns:List ByteArray),_⟩:=xx
 refine(by kernel_rfl:(lOk l→Jbc ns→Br (decide (1000<Ln l)) (Br true (Sf true (Jsw l∧5=opE l ns)) False) (∃(x:(List Ev×List Ev×List Reg)×Nat),Si (Ln l) (0=Nc x.2∧Sf l (Sf ns (Si 0 (Si 0 (Sf Vj (Sf Vj (Sf Vj (Sf Vj (Sf Vj (Kll x))))))))))∧Kfo x l∧∀(x:Kn×Nat),Kj5 x l→Br (decide (Nc x.2<Ln l)) (Tw (Z27 x l)∧Kil x l∧Br (Keo x l) (Z34 x∧Br (Keo x l) (Sf true (Jsw l∧J9j x l=opE l ns)) False) (Z34 x∧∃(y:(List Ev×List Ev×List Reg)×Nat),Si (Ln l) (Jyh x y∧Sf l (Sf ns (Si 0 (Si 0 (Sf Vj (Sf Vj (Sf Vj (Sf Vj (Sf Vj (J1m x l y))))))))))∧Kje y l x)) (Br false (Sf true (Jsw l∧0=opE l ns)) (Br (decide (0<Ln x.1.2.2)) ((Iw (Ln x.1.2.2-1)∧Tw (Bd (Ln x.1.2.2-1) (Ln x.1.2.2)))∧(Jbc ns∧(∀(x_1:ByteArray),Jgu ns x_1→Jj (J1s x))∧List.length (J7z x ns)≤1000000)∧Sf true (J1s x=Jq l∧Jg (J7z x ns)=opE l ns)) ((Jbc ns∧(∀(x:ByteArray),Jgu ns x→Yq)∧List.length (Kwv ns)≤1000000)∧Sf true (Jsw l∧Jg (Kwv ns)=opE l ns))))))=_).mp ?_
 delta Z27 Z34 Jbc Jyh Vj Jyf Jae Khi Jgu Kan Kam J22 Df Vr Yq Jsw Kll Klj Kym Kyj Kyh Kf1 Kf0 Kyd Kx9 Kj5 Kfo Kwv Kje Jx2 J9j Kio Kin Kil Keo J1s J7z J1m Br Iw Bd Tw Sf Si Ln Nc Gt B0 E2
 intro hl hns
 refine⟨fun h=> ?_,fun h=> ?_⟩
 ·have e:Jd l=(Zz,0,5):=by unfold Jd;rw[if_pos (by have:=of_decide_eq_true h;omega)]
  refine⟨fun _=>⟨rfl, ?_, ?_⟩,fun h=>by cases h⟩
  ·unfold Jq;rw[e];rfl
  ·unfold opE;rw[e];rfl
 have hn:l.length≤1000:=by have:=of_decide_eq_false h;omega
 have e0:Jd l=Jc2 Zz l:=by unfold Jd;rw[if_neg (by omega)]
 refine⟨(Zz,(0:Nat)),⟨rfl,rfl,rfl,rfl,rfl,rfl,rfl,rfl,rfl,rfl,rfl,rfl,rfl,rfl⟩,⟨Hf,rfl,Nat.zero_le _,hn,e0.symm⟩,fun(x:Kn×Nat) hx=>⟨fun h1=> ?_,fun h1=> ?_⟩⟩
 ·obtain⟨g,k⟩:=x
  obtain⟨hi,hk,hk2,_,hrun⟩:=hx
  dsimp only at hi hk hk2 hrun
  have hlt:k<l.length:=by simpa using h1
  rw[Jt (d:=ev0) hlt,Jc2] at hrun
  have hz:=hl.2 _ (Jc (d:=ev0) hlt)
  refine⟨⟨⟨by dsimp only;omega,by dsimp only;omega⟩,by dsimp only;omega,by dsimp only;omega⟩,⟨hi.ok,by show g.1.length<1000;omega,hz⟩,fun h2=>⟨by dsimp only;omega,fun h3=> ?_,fun h3=> ?_⟩,fun h2=>⟨by dsimp only;omega,(D3 g (l.getD k ev0),k+1), ?_,⟨?_, ?_,by dsimp only;omega,hn, ?_⟩,by dsimp only;omega⟩⟩
  ·have h2:Um g (l.getD k ev0)≠0:=bne_iff_ne.1 h2
   rw[if_neg h2] at hrun
   refine⟨rfl, ?_, ?_⟩
   ·unfold Jq;rw[←hrun];dsimp only;rw[if_neg h2];rfl
   ·unfold opE;rw[←hrun];dsimp only;rw[if_neg h2];rfl
  ·have h2:Um g (l.getD k ev0)≠0:=bne_iff_ne.1 h2
   exact absurd (bne_eq_false_iff_eq.1 h3) h2
  ·have h2:Um g (l.getD k ev0)=0:=bne_eq_false_iff_eq.1 h2
   have eP:Vi g (l.getD k ev0)=D3 g (l.getD k ev0):=by unfold Vi;rw[if_pos h2]
   refine⟨rfl,by simp,rfl,rfl,rfl,rfl,rfl,rfl,rfl,rfl,rfl, ?_, ?_, ?_⟩
   ·show(Vi g (l.getD k ev0)).1=_;rw[eP]
   ·show(Vi g (l.getD k ev0)).2.1=_;rw[eP]
   ·show(Vi g (l.getD k ev0)).2.2=_;rw[eP]
  ·exact Jfy hi (by omega) (bne_eq_false_iff_eq.1 h2)
  ·show(D3 g (l.getD k ev0)).1.length=k+1
   rw[D2,hk]
  ·have h2:Um g (l.getD k ev0)=0:=bne_eq_false_iff_eq.1 h2
   rw[if_pos h2] at hrun
   exact hrun
 ·obtain⟨g,k⟩:=x
  obtain⟨hi,hk,hk2,_,hrun⟩:=hx
  dsimp only at hi hk hk2 hrun
  have hlt:¬k<l.length:=by simpa using h1
  have:k=l.length:=by omega
  rw[this,List.drop_length,Jc2] at hrun
  have eR:Jq l=Kf g.2.2:=by unfold Jq;rw[←hrun];rfl
  have hR:=X1 hi.ok
  have hGl:((g.2.2.length:Int)-1).toNat=g.2.2.length-1:=by omega
  have hb:g.2.2.length≤1000:=by have:=hi.ok.nG;have:=hi.ok.nC;have:=hi.ok.nE;omega
  have eO:opE l ns=Jg (ns.map fun s=>bif !Ve (Kf g.2.2) 0 s then 10 else 0):=by unfold opE;rw[←hrun,eR];rfl
  refine⟨fun f=>(by cases f),fun _=>⟨fun h2=> ?_,fun h2=> ?_⟩⟩
  ·have h2:(0:Int)<g.2.2.length:=of_decide_eq_true h2
   dsimp only
   rw[hGl]
   exact⟨⟨⟨by omega,by omega⟩,⟨by omega,by omega⟩,by omega,by omega⟩,⟨hns,fun _ _=>hR,by rw[List.length_map];exact hns⟩,rfl,eR.symm,eO.symm⟩
  ·have e1:=Km h2
   rw[e1] at eR eO hR
   exact⟨⟨hns,fun _ _=>hR,by rw[List.length_map];exact hns⟩,rfl,eR.symm,eO.symm⟩
abbrev W96:=W95.add K6f
theorem Jtx:∀{l:List Ev} {h:Kn},Y2 h→h.1.length+l.length≤1000→Y2 (Jc2 h l).1
 |[],_,hi,_=>hi
 | e :: l, h, hi, hl => by
  unfold Jc2
  simp only[List.length_cons] at hl
  by_cases ha:Um h e=0
  ·rw[if_pos ha]
   exact Jtx (Jfy hi (by omega) ha) (by rw[D2];omega)
  ·rw[if_neg ha];exact hi
theorem Jt4 {l:List Ev}:Y2 (Jd l).1:=by
 unfold Jd
 by_cases h:1000<l.length
 ·rw[if_pos h];exact Hf
 ·rw[if_neg h];exact Jtx Hf (by show 0+l.length≤1000;omega)
theorem Lj {l:List Ev}:Jj (Jq l):=by
 unfold Jq
 by_cases h:(Jd l).2.2=0
 ·rw[if_pos h];exact X1 Jt4.ok
 ·rw[if_neg h];exact X1 Hf.ok
def Jgg (l:List Ev) (s:ByteArray) (h:Int):Int:=Jg [opE l [s],Ki h 0 999999999]
def Jt0 (l:List Ev) (s:ByteArray) (h:Int):Int:=if Jgg l s h=0 then Xl (Jq l).2.2.1 (Jq l).2.2.2.1 (Jq l).2.2.2.2.2.1 s h else 0
def J40:Con:={args:=[.val false (.list 67 sEv),aS,aI],ress:=[I,I],owns:=[],pre:=fun(l,_)=>[lOk l],spec:=fun(l,s,h,_)=>(Jt0 l s h,Jgg l s h,())}
theorem Kby {l:List Ev} {s:ByteArray} (h:opE l [s]=0):0≤Jx (Jq l).2.2.1 s:=by
 unfold opE at h
 by_cases h0:(Jd l).2.2=0
 ·rw[if_pos h0] at h
  have h1:=Uu.1 h _ (List.mem_map_of_mem (List.mem_cons_self ..))
  have h2:=Yf (by decide) h1
  exact Jry (by simpa using h2)
 ·rw[if_neg h0] at h;exact absurd h h0
def Jx6 (a:List Ev):=((Jq a).1,(Jq a).2.1,(Jq a).2.2.1,(Jq a).2.2.2.1,(Jq a).2.2.2.2.1,E2 (Jq a).2.2.2.2.2)
def Jj4 (a:List Ev):=Jj (Jx6 a)
theorem K61:Ok Tryz.prog 25 J40:=okW W96 Tryz.f25 na fun xx=>by
 obtain⟨(l:List Ev),(s:ByteArray),(h:Int),_⟩:=xx
 refine(by kernel_rfl:(lOk l→(lOk l∧1≤1000000)∧2≤1000000∧Br (Jg [opE l [s],Z68 h] !=0) (0=Jt0 l s h∧Jg [opE l [s],Z68 h]=Jgg l s h) ((Jj4 l∧0≤Jx (Jq l).2.2.1 s)∧Xl (Jq l).2.2.1 (Jq l).2.2.2.1 (Jq l).2.2.2.2.2.1 s h=Jt0 l s h∧0=Jgg l s h))=_).mp ?_
 delta Z68 Jx6 Jj4 Br E2
 intro hl
 refine⟨⟨hl,by decide⟩,by decide,fun e=> ?_,fun e=> ?_⟩
 ·have e:Jgg l s h≠0:=bne_iff_ne.1 e
  exact⟨by unfold Jt0;rw[if_neg e],rfl⟩
 ·have e:Jgg l s h=0:=bne_eq_false_iff_eq.1 e
  exact⟨⟨Lj,Kby (Zp e).1⟩,by unfold Jt0;rw[if_pos e],e.symm⟩
abbrev W97:=W96.add K61
abbrev W98:=W97
abbrev W99:=W98
abbrev K5f:=W99
end Go.Proofs.YtcibbcfiemeoiaaGreatDoor

/- Contracts of the functions that the law reaches: part of the proof. -/
import Derived.Test.YtcibbcfiemeoiaaGreatDoorProg
import Derived.Test.YtcibbcfiemeoiaaGreatDoorSxC
import Derived.Test.YtcibbcfiemeoiaaGreatDoorShelfA
import Derived.Test.YtcibbcfiemeoiaaGreatDoorLayA
import Derived.KernelRfl
import Derived.Laws.RangeAny
import Derived.Lib.Strings
set_option linter.unusedSimpArgs false
set_option linter.unusedVariables false
set_option maxRecDepth 20000
namespace Go.Proofs.YtcibbcfiemeoiaaGreatDoor
open Go.Sx
set_option maxHeartbeats 20000000
abbrev I:Bool×Sch:=(false, .int .i64)
abbrev Bo:Bool×Sch:=(false, .bool)
abbrev aI:AK:= .val false (.int .i64)
abbrev aB:AK:= .val false .bool
abbrev aS:AK:= .val false .str
abbrev tS:Bool×Sch:=(false, .str)
abbrev sI:Sch:= .int .i64
abbrev W0 [Sx.Dr]:GW Tryz.prog:=⟨[], .nil _⟩
theorem mixed:Tryz.prog.follows .mixedOrders=true:=by kernel_rfl
theorem okW [Sx.Dr] {f:FuncId} {c:Con} (W:GW Tryz.prog) (fn:Func) (ann:ATup c.args→Nat→Option Ann) (h:∀x:ATup c.args,wpF Tryz.prog W.g (ann x) fn c x) (h1:Tryz.prog.funcs[f]? =some fn:=by kernel_rfl) (h2:Jbj fn c=true:=by kernel_rfl):Ok Tryz.prog f c:=Vv mixed W.ok h1 h2 ann h
theorem Jzd [Sx.Dr] {f:FuncId} {c:Con} {lib:FuncId→Option Func} (W:GW Tryz.prog) (fn:Func) (hl:∀f fn,lib f=some fn→Tryz.prog.funcs[f]? =some fn) (ann:ATup c.args→Nat→Option Ann) (annF:ATup c.args→FuncId→Nat→Option Ann) (h:∀x:ATup c.args,wpFG Tryz.prog W.g (ann x) (annF x) lib fn c x) (h1:Tryz.prog.funcs[f]? =some fn:=by kernel_rfl) (h2:Jbj fn c=true:=by kernel_rfl):Ok Tryz.prog f c:=Jes mixed W.ok h1 h2 hl ann annF h
abbrev na {α:Type}:α→Nat→Option Ann:=fun _ _=>none
abbrev Xr (A:Ann):Nat→Option Ann:=fun k=>if k=0 then some A else none
def J4x:Con:={args:=[aB,aI],ress:=[I],owns:=[],pre:=fun _=>[],spec:=fun(b,e,_)=>(bif b then e else 0,())}
def Kku (a:Bool) (b:Int):=Br a (b=bif a then b else 0) (0=bif a then b else 0)
theorem K40 [Sx.Dr]:Ok Tryz.prog 71 J4x:=okW W0 Tryz.f71 na fun xx=>by
 obtain⟨(b:Bool),(e:Int),_⟩:=xx
 refine(by kernel_rfl:(Kku b e)=_).mp ?_
 delta Kku Br
 cases b<;>simp
abbrev W1 [Sx.Dr]:=W0.add K40
theorem K4q [Sx.Dr]:Ok Tryz.prog 84 J4x:=okW W1 Tryz.f84 na fun xx=>by
 obtain⟨(b:Bool),(e:Int),_⟩:=xx
 refine(by kernel_rfl:(Kku b e)=_).mp ?_
 delta Kku Br
 cases b<;>simp
abbrev W2 [Sx.Dr]:=W1.add K4q
theorem K5n [Sx.Dr]:Ok Tryz.prog 19 J4x:=okW W2 Tryz.f19 na fun xx=>by
 obtain⟨(b:Bool),(e:Int),_⟩:=xx
 refine(by kernel_rfl:((bif b then e else 0)=bif b then e else 0)=_).mp ?_
 trivial
abbrev W3 [Sx.Dr]:=W2.add K5n
def Kj (n lo hi:Int):Int:=bif decide (n<lo)||decide (hi<n) then 3 else 0
def J4w:Con:={args:=[aI,aI,aI],ress:=[I],owns:=[],pre:=fun _=>[],spec:=fun(n,lo,hi,_)=>(Kj n lo hi,())}
theorem Kpd [Sx.Dr]:Ok Tryz.prog 133 J4w:=okW W3 Tryz.f133 na fun xx=>by
 obtain⟨(n:Int),(lo:Int),(hi:Int),_⟩:=xx
 refine(by kernel_rfl:((bif bif decide (n<lo) then true else decide (hi<n) then 3 else 0)=Kj n lo hi)=_).mp ?_
 unfold Kj;cases decide (n<lo)<;>rfl
abbrev W4 [Sx.Dr]:=W3.add Kpd
def Yi (n lo hi:Int):Bool:=decide (n<lo)||decide (hi<n)
def Jz9:Con:={args:=[aI,aI,aI],ress:=[Bo],owns:=[],pre:=fun _=>[],spec:=fun(n,lo,hi,_)=>(Yi n lo hi,())}
theorem K5m [Sx.Dr]:Ok Tryz.prog 20 Jz9:=okW W4 Tryz.f20 na fun xx=>by
 obtain⟨(n:Int),(lo:Int),(hi:Int),_⟩:=xx
 refine(by kernel_rfl:((bif decide (n<lo) then true else decide (hi<n))=Yi n lo hi)=_).mp ?_
 unfold Yi;cases decide (n<lo)<;>rfl
abbrev W5 [Sx.Dr]:=W4.add K5m
def Kqb:Con:={args:=[aI],ress:=[I],owns:=[],pre:=fun _=>[],spec:=fun(n,_)=>(Kj n 0 999999999,())}
def Z68 (a:Int):=Kj a 0 999999999
def Kle (a:Int):=Z68 a=Z68 a
theorem K41 [Sx.Dr]:Ok Tryz.prog 70 Kqb:=okW W5 Tryz.f70 na fun xx=>by
 obtain⟨(n:Int),_⟩:=xx
 refine(by kernel_rfl:(Kle n)=_).mp ?_
 delta Z68 Kle
 rfl
abbrev W6 [Sx.Dr]:=W5.add K41
def Jg:List Int→Int
 |[]=>0
 |x::l=>if x=0 then Jg l else x
theorem Jfi {l:List Int} {k:Nat} (h:k<l.length):Jg (l.drop k)=if l.getD k 0=0 then Jg (l.drop (k+1)) else l.getD k 0:=by
 rw[List.drop_eq_getElem_cons h]
 simp[Jg,List.getD_eq_getElem?_getD,h]
def Kbq:Con:={args:=[.val false (.list 26 sI)],ress:=[I],owns:=[],pre:=fun(l,_)=>[l.length≤1000000],spec:=fun(l,_)=>(Jg l,())}
abbrev J0s (l:List Int):Ann:={X:=Nat,σ:=fun k=>⟨1,[(5, .one (.sl 0)),(6, .one (.int .i64 l.length)),(7, .one (.int .i64 k))],[(0, .imm 26 sI l)]⟩,inv:=fun k=>k≤l.length∧Jg l=Jg (l.drop k),mu:=fun k=>l.length-k}
def Z16 (a:Nat):=Iw (Nc a+1)
def Z17 (a:Li) (b:Nat):=List.getD a b 0
def Z45 (a:Li):=List.length a≤1000000
def Z77 (a:Nat) (b:Li):=Tw (Bd (Nc a) (Ln b))
def Z82 (a b:Nat):=Nc a+1=Nc b
def Z90 (a:Nat) (b:Li):=decide (Nc a<Ln b)
def Jxh (a:Li) (b c:Nat):=List.length a-b<List.length a-c
def J6j (a:Nat) (b:Li):=a≤List.length b∧Jg b=Jg (List.drop a b)
def Kkl (a:Li) (b:Nat):=Z17 a b !=0
def Ki6 (a:Nat) (b:Li) (c:Nat):=J6j a b∧Jxh b a c
theorem K42 [Sx.Dr]:Ok Tryz.prog 69 Kbq:=okW W6 Tryz.f69 (fun xx=>Xr (J0s xx.1)) fun xx=>by
 obtain⟨(l:List Int),_⟩:=xx
 refine(by kernel_rfl:(Z45 l→∃(x:Nat),Si (Ln l) (0=Nc x∧l=l)∧J6j x l∧∀(x:Nat),J6j x l→Br (Z90 x l) (Z77 x l∧Br (Kkl l x) (Z17 l x=Jg l) (Z16 x∧∃(y:Nat),Si (Ln l) (Z82 x y∧l=l)∧Ki6 y l x)) (0=Jg l))=_).mp ?_
 delta Z16 Z17 Z45 Z77 Z82 Z90 Jxh J6j Kkl Ki6 Br Iw Bd Tw Si Ln Nc
 intro hb
 refine⟨(0:Nat),⟨rfl,rfl,rfl⟩,⟨Nat.zero_le _,rfl⟩,fun(k:Nat) hk=>⟨fun h=> ?_,fun h=> ?_⟩⟩
 ·have hlt:k<l.length:=by simpa using h
  have hd:=Jfi hlt
  refine⟨by omega,fun h1=> ?_,fun h1=>⟨by omega,(k+1:Nat),⟨rfl,by simp,rfl⟩,⟨by omega, ?_⟩,by omega⟩⟩
  ·have h2:¬l.getD k 0=0:=by simpa using h1
   rw[hk.2,hd,if_neg h2]
  ·have h2:l.getD k 0=0:=by simpa using h1
   rw[hk.2,hd,if_pos h2]
 ·have hlt:¬k<l.length:=by simpa using h
  have:k=l.length:=by omega
  rw[hk.2,this,List.drop_length];rfl
abbrev W7 [Sx.Dr]:=W6.add K42
def Jv5:Con:={args:=[.val false (.list 3 sI)],ress:=[I],owns:=[],pre:=fun(l,_)=>[l.length≤1000000],spec:=fun(l,_)=>(Jg l,())}
abbrev Jw2 (l:List Int):Ann:={X:=Nat,σ:=fun k=>⟨1,[(0, .one (.sl 0)),(3, .one (.int .i64 k))],[(0, .imm 3 sI l)]⟩,inv:=fun k=>k≤l.length∧Jg l=Jg (l.drop k),mu:=fun k=>l.length-k}
theorem K4r [Sx.Dr]:Ok Tryz.prog 83 Jv5:=okW W7 Tryz.f83 (fun xx=>Xr (Jw2 xx.1)) fun xx=>by
 obtain⟨(l:List Int),_⟩:=xx
 refine(by kernel_rfl:(Z45 l→∃(x:Nat),(0=Nc x∧l=l)∧J6j x l∧∀(x:Nat),J6j x l→Br (Z90 x l) (Z77 x l∧Br (Kkl l x) (Z77 x l∧Z17 l x=Jg l) (Z16 x∧∃(y:Nat),(Z82 x y∧l=l)∧Ki6 y l x)) (0=Jg l))=_).mp ?_
 delta Z16 Z17 Z45 Z77 Z82 Z90 Jxh J6j Kkl Ki6 Br Iw Bd Tw Ln Nc
 intro hb
 refine⟨(0:Nat),⟨rfl,rfl⟩,⟨Nat.zero_le _,rfl⟩,fun(k:Nat) hk=>⟨fun h=> ?_,fun h=> ?_⟩⟩
 ·have hlt:k<l.length:=by simpa using h
  have hd:=Jfi hlt
  refine⟨by omega,fun h1=>⟨by omega, ?_⟩,fun h1=>⟨by omega,(k+1:Nat),⟨by simp,rfl⟩,⟨by omega, ?_⟩,by omega⟩⟩
  ·have h2:¬l.getD k 0=0:=by simpa using h1
   rw[hk.2,hd,if_neg h2]
  ·have h2:l.getD k 0=0:=by simpa using h1
   rw[hk.2,hd,if_pos h2]
 ·have hlt:¬k<l.length:=by simpa using h
  have:k=l.length:=by omega
  rw[hk.2,this,List.drop_length];rfl
abbrev W8 [Sx.Dr]:=W7.add K4r
theorem K5o [Sx.Dr]:Ok Tryz.prog 18 Jv5:=okW W8 Tryz.f18 na fun xx=>by
 obtain⟨(l:List Int),_⟩:=xx
 refine(by kernel_rfl:(Z45 l→Z45 l∧Jg l=Jg l)=_).mp ?_
 delta Z45
 exact fun h=>⟨h,rfl⟩
abbrev W9 [Sx.Dr]:=W8.add K5o
def okB (f:Bool) (c:Int):Bool:=bif (bif decide ((65:Int)≤c) then decide (c≤90) else false) then true else bif (bif decide ((97:Int)≤c) then decide (c≤122) else false) then true else bif f then false else bif decide (c<48) then c==95 else bif decide (57<c) then c==95 else true
def okL (f:Bool):List UInt8→Bool
 |[]=>true
 |b::r=>okB f (b.toNat:Int)&&okL false r
def Yo (s:ByteArray):Bool:=okL true s.data.toList&&(decide (0<s.size)&&decide ((s.size:Int)≤24))
theorem Juj (f:Bool) (c:Int):(bif !bif (bif decide ((65:Int)≤c) then decide (c≤90) else false) then true else bif decide ((97:Int)≤c) then decide (c≤122) else false then bif f then true else bif (bif decide (c<48) then true else decide (57<c)) then c !=95 else false else false)= !okB f c:=by
 unfold okB bne
 cases decide ((65:Int)≤c)<;>cases decide (c≤90)<;>cases decide ((97:Int)≤c)<;>cases decide (c≤122)<;>cases f<;>cases decide (c<48)<;>cases decide (57<c)<;>cases c==95<;>rfl
theorem Jo8 {f:Bool} {c:Int} (h:128≤c):okB f c=false:=by
 unfold okB
 have h1:decide (c≤90)=false:=decide_eq_false (by omega)
 have h2:decide (c≤122)=false:=decide_eq_false (by omega)
 have h3:decide (c<48)=false:=decide_eq_false (by omega)
 have h4:decide ((57:Int)<c)=true:=decide_eq_true (by omega)
 have h5:(c==95)=false:=beq_eq_false_iff_ne.2 (by omega)
 rw[h1,h2,h3,h4,h5]
 cases decide ((65:Int)≤c)<;>cases decide ((97:Int)≤c)<;>cases f<;>rfl
theorem Jdi {s:ByteArray} {k:Nat} (h:k<s.size) (ha:(s[k]'h).toNat<128):Yb s k=((s[k]'h).toNat:Int)∧Jgh s k=1:=by
 unfold Yb Jgh
 rw[decode_ascii s k h ha]
 exact⟨rfl,rfl⟩
theorem Jky {s:ByteArray} {k:Nat} (h:k<s.size) (ha:128≤(s[k]'h).toNat):128≤Yb s k:=by
 have:=(decode_high s k h ha).1
 unfold Yb
 omega
theorem Dt {s:ByteArray} {k:Nat} (h:k<s.size):s.data.toList.drop k=(s[k]'h)::s.data.toList.drop (k+1):=by
 rw[List.drop_eq_getElem_cons (by simpa using h)]
 congr 1
theorem Ji4 (s:ByteArray):(!(s.toList==(⟨⟨[]⟩⟩:ByteArray).toList))=decide (0<s.size):=by
 rw[Lib.toList_data,Lib.toList_data]
 have e:s.data.toList.length=s.size:=by simp
 cases h:s.data.toList with
 |nil=>rw[h] at e;simp at e;rw[←e];rfl
 |cons a l=>rw[h] at e;simp at e;rw[←e];simp
theorem Jco (k:Nat):(((k:Nat):Int)==0)=(k==0):=by
 rw[Bool.eq_iff_iff,beq_iff_eq,beq_iff_eq];omega
def Kba:Con:={args:=[aS],ress:=[Bo],owns:=[],pre:=fun(s,_)=>[s.size≤1000000],spec:=fun(s,_)=>(Yo s,())}
abbrev J5s (s:ByteArray):Ann:={X:=Nat,σ:=fun k=>⟨1,[(0, .one (.str s)),(7, .one (.sl 0))],[(0, .siter s k)]⟩,inv:=fun k=>k≤s.size∧okL true s.data.toList=okL (k==0) (s.data.toList.drop k),mu:=fun k=>s.size-k}
def Z13 (a:Bt):=a.data.toList
def Kkh (a:Bt) (b:Nat):=bif decide (Yb a b<48) then true else decide (57<Yb a b)
def Kzt (a:Bt):=Sf true ((bif !Lb a B0 then decide (Nc (ByteArray.size a)≤24) else false)=Yo a)
def Ki5 (a:Nat) (b:Bt):=a≤ByteArray.size b∧okL true (Z13 b)=okL (a==0) (List.drop a (Z13 b))
theorem Kpa [Sx.Dr]:Ok Tryz.prog 136 Kba:=Jzd W9 Tryz.f136 (U1 (l:=([]:List (Nat×Func))) (by simp)) (fun xx=>Xr (J5s xx.1)) (fun xx=>fun _=>na ()) fun xx=>by
 obtain⟨(s:ByteArray),_⟩:=xx
 refine(by kernel_rfl:(ByteArray.size s≤1000000→∃(x:Nat),Sf s (Sf s (0=x))∧Ki5 x s∧∀(x:Nat),Ki5 x s→(x<ByteArray.size s→Br true (Br (bif !bif bif decide (65≤Yb s x) then decide (Yb s x≤90) else false then true else bif decide (97≤Yb s x) then decide (Yb s x≤122) else false then bif Nc x==0 then true else bif Kkh s x then Yb s x !=95 else false else false) (Sf true (false=Yo s)) (∃(y:Nat),Sf s (Sf s (x+Jgh s x=y))∧Ki5 y s∧ByteArray.size s-y<ByteArray.size s-x)) (Kzt s))∧((x<ByteArray.size s→False)→Br false False (Kzt s)))=_).mp ?_
 delta Z13 Kkh Kzt Ki5 Br Sf Nc B0 Lb
 intro hb
 refine⟨(0:Nat),⟨rfl,rfl,rfl⟩,⟨Nat.zero_le _,by simp⟩,fun(k:Nat) hk=>⟨fun h=>⟨fun _=>⟨fun h1=>⟨rfl, ?_⟩,fun h1=> ?_⟩,fun h=>(by cases h)⟩,fun h=> ?_⟩⟩
 ·rw[Juj,Jco] at h1
  have h2:okB (k==0) (Yb s k)=false:=by simpa using h1
  unfold Yo
  have h3:okL true s.data.toList=false:=by
   rw[hk.2,Dt h,okL]
   by_cases ha:(s[k]'h).toNat<128
   ·rw[←(Jdi h ha).1,h2];rfl
   ·rw[Jo8 (by omega)];rfl
  rw[h3];rfl
 ·rw[Juj,Jco] at h1
  have h2:okB (k==0) (Yb s k)=true:=by simpa using h1
  by_cases ha:(s[k]'h).toNat<128
  ·obtain⟨r1,r2⟩:=Jdi h ha
   refine⟨(k+1:Nat),⟨rfl,rfl,by rw[r2]⟩,⟨by omega, ?_⟩,by omega⟩
   rw[hk.2,Dt h,okL,←r1,h2]
   rfl
  ·have:=Jky h (by omega)
   rw[Jo8 this] at h2
   cases h2
 ·have e:k=s.size:=Nat.le_antisymm hk.1 (Nat.le_of_not_lt h)
  refine⟨fun h=>(by cases h),fun _=>⟨rfl, ?_⟩⟩
  rw[e,List.drop_eq_nil_of_le (by simp)] at hk
  unfold Yo
  rw[hk.2,Ji4]
  cases decide (0<s.size)<;>cases decide ((s.size:Int)≤24)<;>rfl
abbrev W10 [Sx.Dr]:=W9.add Kpa
abbrev aU:AK:= .val false (.int .u8)
def Juy (c:Int):Bool:=bif (bif decide ((65:Int)≤c) then decide (c≤90) else false) then true else bif decide ((97:Int)≤c) then decide (c≤122) else false
def Kap (c:Int):Bool:=bif decide ((48:Int)≤c) then decide (c≤57) else false
def K58:Con:={args:=[aU],ress:=[Bo],owns:=[],pre:=fun _=>[],spec:=fun(c,_)=>(Juy c,())}
theorem Knz [Sx.Dr]:Ok Tryz.prog 190 K58:=okW W10 Tryz.f190 na fun xx=>by
 obtain⟨(c:Int),_⟩:=xx
 refine(by kernel_rfl:((bif bif decide (65≤c) then decide (c≤90) else false then true else bif decide (97≤c) then decide (c≤122) else false)=Juy c)=_).mp ?_
 rfl
abbrev W11 [Sx.Dr]:=W10.add Knz
def K6b:Con:={args:=[aU],ress:=[Bo],owns:=[],pre:=fun _=>[],spec:=fun(c,_)=>(Kap c,())}
theorem Kny [Sx.Dr]:Ok Tryz.prog 191 K6b:=okW W11 Tryz.f191 na fun xx=>by
 obtain⟨(c:Int),_⟩:=xx
 refine(by kernel_rfl:((bif decide (48≤c) then decide (c≤57) else false)=Kap c)=_).mp ?_
 rfl
abbrev W12 [Sx.Dr]:=W11.add Kny
theorem J35 (c:Int):okB true c=Juy c:=by
 unfold okB Juy
 cases decide ((65:Int)≤c)<;>cases decide (c≤90)<;>cases decide ((97:Int)≤c)<;>cases decide (c≤122)<;>rfl
theorem J34 (c:Int):(bif bif !Juy c then !Kap c else false then c !=95 else false)= !okB false c:=by
 unfold okB Juy Kap bne
 have e1:decide (c<48)= !decide ((48:Int)≤c):=by rw[Bool.eq_iff_iff];simp
 have e2:decide ((57:Int)<c)= !decide (c≤57):=by rw[Bool.eq_iff_iff];simp
 rw[e1,e2]
 cases decide ((65:Int)≤c)<;>cases decide (c≤90)<;>cases decide ((97:Int)≤c)<;>cases decide (c≤122)<;>cases decide ((48:Int)≤c)<;>cases decide (c≤57)<;>cases c==95<;>rfl
theorem Dg {s:ByteArray} {k:Nat} (h:k<s.size):s.data.toList.drop k=s.data.toList.getD k 0::s.data.toList.drop (k+1):=by
 have h':k<s.data.toList.length:=by simpa using h
 rw[List.drop_eq_getElem_cons h']
 congr 1
 rw[List.getD_eq_getElem?_getD,List.getElem?_eq_getElem h'];rfl
abbrev J0q (s:ByteArray):Ann:={X:=Nat,σ:=fun k=>⟨0,[(0, .one (.str s)),(3, .one (.int .i64 k))],[]⟩,inv:=fun k=>0<k∧k≤s.size∧Yo s=okL false (s.data.toList.drop k),mu:=fun k=>s.size-k}
def Klf (a:Bt) (b:Nat):=Nc (UInt8.toNat (List.getD (Z13 a) b 0))
def Kk9 (a:Bt):=Nc (UInt8.toNat (List.getD (Z13 a) 0 0))
def K03 (a:Bt) (b:Nat):= !Juy (Klf a b)
def K0u (a:Bt):=bif Nc (ByteArray.size a)==0 then true else decide (24<Nc (ByteArray.size a))
def Kjh (a:Nat) (b:Bt):=0<a∧a≤ByteArray.size b∧Yo b=okL false (List.drop a (Z13 b))
def Kv4 (a:Bt) (b:Nat):=bif K03 a b then !Kap (Klf a b) else false
theorem Kpq [Sx.Dr]:Ok Tryz.prog 111 Kba:=okW W12 Tryz.f111 (fun xx=>Xr (J0q xx.1)) fun xx=>by
 obtain⟨(s:ByteArray),_⟩:=xx
 refine(by kernel_rfl:(ByteArray.size s≤1000000→(K0u s=false→Bd 0 (Nc (ByteArray.size s)))∧Br (bif K0u s then true else !Juy (Kk9 s)) (false=Yo s) (∃(x:Nat),Sf s (1=Nc x)∧Kjh x s∧∀(x:Nat),Kjh x s→Br (decide (Nc x<Nc (ByteArray.size s))) ((Bd (Nc x) (Nc (ByteArray.size s))∧(K03 s x=true→Bd (Nc x) (Nc (ByteArray.size s)))∧(Kv4 s x=true→Bd (Nc x) (Nc (ByteArray.size s))))∧Br (bif Kv4 s x then Klf s x !=95 else false) (false=Yo s) (Z16 x∧∃(y:Nat),Sf s (Z82 x y)∧Kjh y s∧ByteArray.size s-y<ByteArray.size s-x)) (true=Yo s)))=_).mp ?_
 delta Z13 Z16 Z82 Klf Kk9 K03 K0u Kjh Kv4 Br Iw Bd Sf Nc
 intro hb
 have e0:∀h:0<s.size,okL true s.data.toList=(Juy ((s.data.toList.getD 0 0).toNat:Int)&&okL false (s.data.toList.drop 1)):=fun h=>by
  have:=Dg h
  rw[List.drop_zero] at this
  rw[this,okL,J35]
  simp
 refine⟨fun h=> ?_,fun h=> ?_,fun h=> ?_⟩
 ·have h1:((s.size:Int)==0)=false:=by revert h;cases((s.size:Int)==0)<;>simp
  have:=beq_eq_false_iff_ne.1 h1
  exact⟨Int.le_refl _,by omega⟩
 ·unfold Yo
  by_cases h0:0<s.size
  ·rw[e0 h0]
   have h1:((s.size:Int)==0)=false:=beq_eq_false_iff_ne.2 (by omega)
   rw[h1] at h
   by_cases h2:(s.size:Int)≤24
   ·have h3:decide ((24:Int)<s.size)=false:=decide_eq_false (by omega)
    rw[h3] at h
    have h4:Juy ((s.data.toList.getD 0 0).toNat:Int)=false:=by simpa using h
    rw[h4];rfl
   ·rw[decide_eq_false h2];simp
  ·rw[decide_eq_false h0];simp
 ·have h1:((s.size:Int)==0)=false:=by revert h;cases((s.size:Int)==0)<;>simp
  rw[h1] at h
  have h2:decide ((24:Int)<s.size)=false:=by revert h;cases decide ((24:Int)<s.size)<;>simp
  rw[h2] at h
  have h3:Juy ((s.data.toList.getD 0 0).toNat:Int)=true:=by simpa using h
  have h0:0<s.size:=by have:=beq_eq_false_iff_ne.1 h1;omega
  have h24:(s.size:Int)≤24:=by have:=of_decide_eq_false h2;omega
  have en:Yo s=okL false (s.data.toList.drop 1):=by
   unfold Yo
   rw[e0 h0,h3,decide_eq_true h0,decide_eq_true h24];simp
  refine⟨(1:Nat),⟨rfl,rfl⟩,⟨by omega,by omega,en⟩,fun(k:Nat) hk=>⟨fun h=> ?_,fun h=> ?_⟩⟩
  ·have hlt:k<s.size:=by simpa using h
   rw[J34]
   refine⟨⟨by omega,fun _=>by omega,fun _=>by omega⟩,fun h1=> ?_,fun h1=>⟨by omega,(k+1:Nat),⟨rfl,by simp⟩,⟨by omega,by omega, ?_⟩,by omega⟩⟩
   ·have h2:okB false ((s.data.toList.getD k 0).toNat:Int)=false:=by simpa using h1
    rw[hk.2.2,Dg hlt,okL,h2];rfl
   ·have h2:okB false ((s.data.toList.getD k 0).toNat:Int)=true:=by simpa using h1
    rw[hk.2.2,Dg hlt,okL,h2];rfl
  ·have hlt:¬k<s.size:=by simpa using h
   have:k=s.size:=by omega
   rw[hk.2.2,this,List.drop_eq_nil_of_le (by simp)];rfl
abbrev W13 [Sx.Dr]:=W12.add Kpq
abbrev Jy6:Sch:= .prod sI .bool
abbrev J93:Sch:= .prod (.list 251 Jy6) (.prod sI (.prod .fnc (.prod .fnc .fnc)))
abbrev K1h:=List (Int×Bool)×Int×Option Nat×Option Nat×Option Nat
abbrev J0:ByteArray:=⟨⟨[117,110,100,111]⟩⟩
abbrev Js:ByteArray:=⟨⟨[115,116,97,116,105,111,110]⟩⟩
abbrev Kv:ByteArray:=⟨⟨[112,114,105,99,101]⟩⟩
abbrev Ke:ByteArray:=⟨⟨[111,114,100,101,114]⟩⟩
abbrev Kq:ByteArray:=⟨⟨[109,101,116,101,114]⟩⟩
abbrev Vf:ByteArray:=⟨⟨[116,114,105,112]⟩⟩
abbrev Jt:ByteArray:=⟨⟨[111,117,116,97,103,101]⟩⟩
abbrev Jo:ByteArray:=⟨⟨[114,101,115,116,111,114,101]⟩⟩
abbrev J6:ByteArray:=⟨⟨[112,101,114,109,105,116]⟩⟩
abbrev J5:ByteArray:=⟨⟨[114,101,116,117,114,110]⟩⟩
abbrev Jh:ByteArray:=⟨⟨[115,101,116,116,108,101]⟩⟩
def Lo:List (ByteArray×K1h):=[(J0,[],0,none,none,none),
 (Js,[(0,false)],2,some 148,some 149,some 150),
 (Kv,[(0,true)],2,some 152,some 153,some 150),
 (Ke,[(1,false),(0,true),(0,true)],4,some 154,some 155,some 156),
 (Kq,[(1,true)],4,some 157,some 158,some 156),
 (Vf,[(1,true)],1,some 159,some 160,some 156),
 (Jt,[(2,false),(0,true)],4,some 161,some 162,some 163),
 (Jo,[(2,true)],1,some 164,some 165,some 163),
 (J6,[(3,false),(2,true)],1,some 166,some 167,some 168),
 (J5,[(3,true)],1,some 169,some 170,some 168),
 (Jh,[],2,some 171,some 172,none)]
def Kbo:Con:={args:=[aI],ress:=[(true,Jy6)],owns:=[],pre:=fun _=>[],spec:=fun(t,_)=>((t,false),())}
theorem Koz [Sx.Dr]:Ok Tryz.prog 147 Kbo:=okW W13 Tryz.f147 na fun xx=>by
 obtain⟨(t:Int),_⟩:=xx
 refine(by kernel_rfl:((t,false)=(t,false))=_).mp ?_
 trivial
abbrev W14 [Sx.Dr]:=W13.add Koz
def K54:Con:={args:=[aI],ress:=[(true,Jy6)],owns:=[],pre:=fun _=>[],spec:=fun(t,_)=>((t,true),())}
theorem Kov [Sx.Dr]:Ok Tryz.prog 151 K54:=okW W14 Tryz.f151 na fun xx=>by
 obtain⟨(t:Int),_⟩:=xx
 refine(by kernel_rfl:((t,true)=(t,true))=_).mp ?_
 trivial
abbrev W15 [Sx.Dr]:=W14.add Kov
def J2p:Jmf:={kT:=9,gk:=false,gv:=true,ks:= .str,vs:=J93,l:=Lo}
def Klk:=[((0:Int),true)]
def J8w:List (Int×Bool)×Int×Option Nat×Option Nat×Option Nat:=([],(0:Int),none,none,none)
def Khi:=(∀(k k':ByteArray),some (Lb k k')=some (List.beq (ByteArray.toList k) (ByteArray.toList k')))∧∀(k:ByteArray),true=true
theorem K34 [Sx.Dr]:wpFM Tryz.prog W15.g (na ()) (fun _=>na ()) (Sx.look ([]:List (Nat×Func))) Tryz.f80 J2p:=by
 refine(by kernel_rfl:(Khi∧Sf true ([(J0,J8w),(Js,[(0,false)],2,some 148,some 149,some 150),(Kv,Klk,2,some 152,some 153,some 150),(Ke,(1,false)::(0,true)::Klk,4,some 154,some 155,some 156),(Kq,[(1,true)],4,some 157,some 158,some 156),(Vf,[(1,true)],1,some 159,some 160,some 156),(Jt,(2,false)::Klk,4,some 161,some 162,some 163),(Jo,[(2,true)],1,some 164,some 165,some 163),(J6,[(3,false),(2,true)],1,some 166,some 167,some 168),(J5,[(3,true)],1,some 169,some 170,some 168),(Jh,[],2,some 171,some 172,none)]=Lo))=_).mp ?_
 delta Klk J8w Khi Sf Lb Kq Ke Jt J6 Kv Jo J5 Jh Js Vf J0
 exact⟨⟨fun _ _=>rfl,fun _=>rfl⟩,rfl,rfl⟩
theorem Kmo [Sx.Dr]:Ok Tryz.prog 80 (Jmf.con J2p):=J19 (Jlc mixed W15.ok (by kernel_rfl) (by kernel_rfl) (U1 (l:=([]:List (Nat×Func))) (by simp)) (na ()) (fun _=>na ()) K34)
abbrev W16 [Sx.Dr]:=W15.add Kmo
theorem Jc {α:Type} {l:List α} {k:Nat} {d:α} (h:k<l.length):l.getD k d∈l:=by
 simp[List.getD_eq_getElem?_getD,h]
theorem U5 {α:Type} {d:α} {l:List α} {k:Nat} (h:k<l.length):l.take k++[l.getD k d]=l.take (k+1):=by
 rw[List.take_succ_eq_append_getElem h,List.getD_eq_getElem?_getD,List.getElem?_eq_getElem h];rfl
abbrev Jba (T U:TypeId) (s:Sch) (l:List s.T) (r:Bool×Sch) (g:Bool) (q:Tup [(g,s)]→List Prop) (f:Tup [(g,s)]→r.2.T):Ann:={X:=Nat,σ:=fun k=>⟨3,[(1, .one (.fv 1)),(5, .one (.sl 2)),(8, .one (.sl 0)),(9, .one (.int .i64 l.length)),(10, .one (.int .i64 k))],[(0, .imm T s l),(1, .afn [(g,s)] r q f),(2, .own U r.2 ((l.take k).map fun x=>f (x,())))]⟩,inv:=fun k=>k≤l.length,mu:=fun k=>l.length-k}
def Kbd:Con:={args:=[.val false (.list 9 .str), .fn [tS] I],ress:=[(false, .list 26 sI)],owns:=[true],pre:=fun(l,(q,_),_)=>[l.length≤1000000,∀x∈l,Uq (q (x,()))],spec:=fun(l,(_,f),_)=>(l.map fun x=>f (x,()),())}
def Kbg:Con:={args:=[.val false (.list 3 sI), .fn [I] I],ress:=[(false, .list 26 sI)],owns:=[true],pre:=fun(l,(q,_),_)=>[l.length≤1000000,∀x∈l,Uq (q (x,()))],spec:=fun(l,(_,f),_)=>(l.map fun x=>f (x,()),())}
def J6p (a:Li) (b:Int):=b∈a
def J9d (a:Int×Unit→Int) (b:Nat) (c:Li):=List.map (fun(x:Int)=>a (x,PUnit.unit)) (List.take b c)
def Kki (a:Li) (b:Int×Unit→List Prop):=∀(x:Int),J6p a x→Uq (b (x,PUnit.unit))
theorem Ko9 [Sx.Dr]:Ok Tryz.prog 137 Kbg:=okW W16 Tryz.f137 (fun xx=>Xr (Jba 3 26 sI xx.1 I false xx.2.1.1 xx.2.1.2)) fun xx=>by
 obtain⟨(l:List Int),⟨(q:Int×Unit→List Prop),(f:Int×Unit→Int)⟩,_⟩:=xx
 refine(by kernel_rfl:(Z45 l→Kki l q→∃(x:Nat),Si (Ln l) (0=Nc x∧Sf l ((fun(x:Int×PUnit)=>q x)=q∧(fun(x:Int×PUnit)=>f x)=f∧List.length (J9d f x l)=0))∧x≤List.length l∧∀(x:Nat),x≤List.length l→Br (Z90 x l) (Z77 x l∧(Uq (q (Z17 l x,PUnit.unit))∧(List.length (J9d f x l)+1)*8≤140737488355328)∧Z16 x∧∃(y:Nat),Si (Ln l) (Z82 x y∧Sf l ((fun(x:Int×PUnit)=>q x)=q∧(fun(x:Int×PUnit)=>f x)=f∧J9d f x l++[f (Z17 l x,PUnit.unit)]=J9d f y l))∧y≤List.length l∧Jxh l y x) (J9d f x l=List.map (fun(x:Int)=>f (x,PUnit.unit)) l))=_).mp ?_
 delta Z16 Z17 Z45 Z77 Z82 Z90 Jxh J6p J9d Kki Br Iw Bd Tw Sf Si Ln Nc
 intro hb hq
 refine⟨(0:Nat),⟨rfl,rfl,rfl,rfl,rfl,by simp⟩,Nat.zero_le _,fun(k:Nat) hk=>⟨fun h=> ?_,fun h=> ?_⟩⟩
 ·have hlt:k<l.length:=by simpa using h
  refine⟨by omega,⟨hq (l.getD k 0) (Jc hlt),by simp only[List.length_map,List.length_take];omega⟩,by omega,(k+1:Nat),⟨rfl,by simp,rfl,rfl,rfl, ?_⟩,by omega,by omega⟩
  rw[←U5 (d:=0) hlt,List.map_append];rfl
 ·have hlt:¬k<l.length:=by simpa using h
  rw[List.take_of_length_le (by omega)]
abbrev W17 [Sx.Dr]:=W16.add Ko9
def Z15 (a:Ls) (b:Nat):=List.getD a b B0
def Z69 (a:Nat) (b:Ls):=Bd (Nc a) (Ln b)
def Jaf (a:Ls):=List.length a≤1000000
def J88 (a:Ls) (b c:Nat):=List.length a-b<List.length a-c
def J84 (a:Bt×Unit→Int) (b:Nat) (c:Ls):=List.map (fun(x:ByteArray)=>a (x,PUnit.unit)) (List.take b c)
def Jgu (a:Ls) (b:Bt):=b∈a
theorem Kpc [Sx.Dr]:Ok Tryz.prog 134 Kbd:=okW W17 Tryz.f134 (fun xx=>Xr (Jba 9 26 .str xx.1 I false xx.2.1.1 xx.2.1.2)) fun xx=>by
 obtain⟨(l:List ByteArray),⟨(q:ByteArray×Unit→List Prop),(f:ByteArray×Unit→Int)⟩,_⟩:=xx
 refine(by kernel_rfl:(Jaf l→(∀(x:ByteArray),Jgu l x→Uq (q (x,PUnit.unit)))→∃(x:Nat),Si (Ln l) (0=Nc x∧Sf l ((fun(x:ByteArray×PUnit)=>q x)=q∧(fun(x:ByteArray×PUnit)=>f x)=f∧List.length (J84 f x l)=0))∧x≤List.length l∧∀(x:Nat),x≤List.length l→Br (decide (Nc x<Ln l)) (Tw (Z69 x l)∧(Uq (q (Z15 l x,PUnit.unit))∧(List.length (J84 f x l)+1)*8≤140737488355328)∧Z16 x∧∃(y:Nat),Si (Ln l) (Z82 x y∧Sf l ((fun(x:ByteArray×PUnit)=>q x)=q∧(fun(x:ByteArray×PUnit)=>f x)=f∧J84 f x l++[f (Z15 l x,PUnit.unit)]=J84 f y l))∧y≤List.length l∧J88 l y x) (J84 f x l=List.map (fun(x:ByteArray)=>f (x,PUnit.unit)) l))=_).mp ?_
 delta Z15 Z16 Z69 Z82 Jaf J88 J84 Jgu Br Iw Bd Tw Sf Si Ln Nc B0
 intro hb hq
 refine⟨(0:Nat),⟨rfl,rfl,rfl,rfl,rfl,by simp⟩,Nat.zero_le _,fun(k:Nat) hk=>⟨fun h=> ?_,fun h=> ?_⟩⟩
 ·have hlt:k<l.length:=by simpa using h
  refine⟨by omega,⟨hq (l.getD k (⟨⟨[]⟩⟩:ByteArray)) (Jc hlt),by simp only[List.length_map,List.length_take];omega⟩,by omega,(k+1:Nat),⟨rfl,by simp,rfl,rfl,rfl, ?_⟩,by omega,by omega⟩
  rw[←U5 (d:=(⟨⟨[]⟩⟩:ByteArray)) hlt,List.map_append];rfl
 ·have hlt:¬k<l.length:=by simpa using h
  rw[List.take_of_length_le (by omega)]
abbrev W18 [Sx.Dr]:=W17.add Kpc
def Kqx:Con:={args:=[aS],ress:=[I],owns:=[],pre:=fun(s,_)=>[s.size≤1000000],spec:=fun(s,_)=>(bif Yo s then 0 else 8,())}
theorem Kpb [Sx.Dr]:Ok Tryz.prog 135 Kqx:=okW W18 Tryz.f135 na fun xx=>by
 obtain⟨(s:ByteArray),_⟩:=xx
 refine(by kernel_rfl:(ByteArray.size s≤(1000000:Nat)→ByteArray.size s≤(1000000:Nat)∧(bif !Yo s then(8:Int) else(0:Int))=bif Yo s then(0:Int) else(8:Int))=_).mp ?_
 exact fun h=>⟨h,by cases Yo s<;>rfl⟩
abbrev W19 [Sx.Dr]:=W18.add Kpb
def Kqw:Con:={args:=[aI],ress:=[I],owns:=[],pre:=fun _=>[],spec:=fun(n,_)=>(Kj n 0 999999999,())}
theorem Ko8 [Sx.Dr]:Ok Tryz.prog 138 Kqw:=okW W19 Tryz.f138 na fun xx=>by
 obtain⟨(n:Int),_⟩:=xx
 refine(by kernel_rfl:(Kle n)=_).mp ?_
 delta Z68 Kle
 rfl
abbrev W20 [Sx.Dr]:=W19.add Ko8
abbrev Ev:=Int×ByteArray×List ByteArray×List Int×ByteArray
abbrev sEv:Sch:= .prod sI (.prod .str (.prod (.list 9 .str) (.prod (.list 3 sI) .str)))
abbrev aEv:AK:= .val true sEv
def Jj (k:ByteArray):K1h:=(Um .str k Lo).getD ([],0,none,none,none)
def Yw (k:ByteArray):Bool:=(Um .str k Lo).isSome
def Jb (e:Ev):Int:=
 if Kj e.1 1 1000≠0 then Kj e.1 1 1000 else
 bif Yw e.2.1 then(if e.2.2.1.length=(Jj e.2.1).1.length∧(e.2.2.2.1.length:Int)=(Jj e.2.1).2.1 then
  Jg [Jg (e.2.2.1.map fun s=>bif Yo s then 0 else 8),Jg (e.2.2.2.1.map fun n=>Kj n 0 999999999),bif decide (0<e.2.2.2.2.size) then 1 else 0] else 2) else 13
theorem bn1 {b c:Bool} (h:(bif b then true else c)=false):b=false∧c=false:=by cases b<;>simp_all
def Kb3:Con:={args:=[aEv],ress:=[I],owns:=[],pre:=fun(e,_)=>[e.2.2.1.length≤1000000,e.2.2.2.1.length≤1000000,∀s∈e.2.2.1,s.size≤1000000],spec:=fun(e,_)=>(Jb e,())}
def Kz7 (a:Ls):=List.map (fun(x:ByteArray)=>match Yo x with|true=>(0:Int)|false=>(8:Int)) a
def Jhq (a:Ls):=∀(s:ByteArray),Jgu a s→ByteArray.size s≤1000000
def Kyl (a:Bt):=Um Sch.str a Lo
def Kud (a:Bt):=Option.getD (Kyl a) J8w
theorem K1o [Sx.Dr]:Ok Tryz.prog 64 Kb3:=okW W20 Tryz.f64 na fun xx=>by
 obtain⟨⟨(n:Int),(k:ByteArray),(ns:List ByteArray),(vs:List Int),(t:ByteArray)⟩,_⟩:=xx
 refine(by kernel_rfl:(Jaf ns→Z45 vs→Jhq ns→Br (Kj n 1 (1000:Int) !=0) (Kj n 1 1000=Jb (n,k,ns,vs,t)) (Br (!Option.isSome (Kyl k)) (13=Jb (n,k,ns,vs,t)) (Br (bif Ln ns !=Ln (Kud k).1 then true else Ln vs !=(Kud k).2.1) (2=Jb (n,k,ns,vs,t)) ((Jaf ns∧Jhq ns)∧(Z45 vs∧∀(x:Int),J6p vs x→True)∧(List.length (Kz7 ns)≤1000000∧List.length (List.map (fun(x:Int)=>Z68 x) vs)≤1000000∧3≤1000000)∧Jg [Jg (Kz7 ns),Jg (List.map (fun(x:Int)=>Z68 x) vs),bif !Lb t B0 then 1 else 0]=Jb (n,k,ns,vs,t)))))=_).mp ?_
 delta Z45 Z68 Jaf J6p Jgu J8w Kz7 Jhq Kyl Kud Br Ln B0 Lb
 intro h1 h2 h3
 unfold Jb Jj Yw
 dsimp only
 refine⟨fun h=> ?_,fun h=> ?_⟩
 ·rw[if_pos (bne_iff_ne.1 h)]
 rw[if_neg (by have:=bne_eq_false_iff_eq.1 h;simpa using this)]
 refine⟨fun h4=> ?_,fun h4=> ?_⟩
 ·rw[Bool.not_eq_true'] at h4
  rw[h4];rfl
 rw[Bool.not_eq_false'] at h4
 rw[h4,cond_true]
 refine⟨fun h5=> ?_,fun h5=>⟨⟨h1,h3⟩,⟨h2,fun _ _=>trivial⟩,⟨by simpa using h1,by simpa using h2,by decide⟩, ?_⟩⟩
 ·rw[if_neg]
  rintro⟨e1,e2⟩
  rw[e1,e2] at h5
  simp at h5
 ·have h6:=bn1 h5
  rw[if_pos ⟨Int.ofNat_inj.1 (bne_eq_false_iff_eq.1 h6.1),bne_eq_false_iff_eq.1 h6.2⟩,Ji4]
  rfl
abbrev W21 [Sx.Dr]:=W20.add K1o
abbrev Hv:Sch:= .prod sI sI
abbrev Sta:=ByteArray×Int×Int
abbrev Ord:=ByteArray×ByteArray×ByteArray×(Int×Int)×Int×Int×Int
abbrev Met:=ByteArray×Int×Int×Int
abbrev Out:=ByteArray×ByteArray×(Int×Int)×Int
abbrev Per:=ByteArray×ByteArray×Bool
abbrev Dk:Sch:= .prod .str (.prod sI sI)
abbrev Hk:Sch:= .prod .str (.prod .str (.prod .str (.prod Hv (.prod sI (.prod sI sI)))))
abbrev Dx:Sch:= .prod .str (.prod sI (.prod sI sI))
abbrev X6:Sch:= .prod .str (.prod .str (.prod Hv sI))
abbrev Zy:Sch:= .prod .str (.prod .str .bool)
def K1x:Con:={args:=[.val true Dk],ress:=[tS],owns:=[],pre:=fun _=>[],spec:=fun(x,_)=>(x.1,())}
def K1z:Con:={args:=[.val true Hk],ress:=[tS],owns:=[],pre:=fun _=>[],spec:=fun(x,_)=>(x.1,())}
def K1w:Con:={args:=[.val true X6],ress:=[tS],owns:=[],pre:=fun _=>[],spec:=fun(x,_)=>(x.1,())}
def K1y:Con:={args:=[.val true Zy],ress:=[tS],owns:=[],pre:=fun _=>[],spec:=fun(x,_)=>(x.1,())}
theorem Klt [Sx.Dr] (x:Sta):wpF Tryz.prog W21.g (na ()) Tryz.f328 K1x (x,()):=by
 refine(by kernel_rfl:(x.1=x.1)=_).mp ?_
 rfl
theorem Kmr [Sx.Dr]:Ok Tryz.prog 328 K1x:=Vv mixed W21.ok (by kernel_rfl) (by kernel_rfl) na fun xx=>Klt xx.1
abbrev W22 [Sx.Dr]:=W21.add Kmr
theorem Kls [Sx.Dr] (x:Ord):wpF Tryz.prog W22.g (na ()) Tryz.f329 K1z (x,()):=by
 refine(by kernel_rfl:(x.1=x.1)=_).mp ?_
 rfl
theorem Kmq [Sx.Dr]:Ok Tryz.prog 329 K1z:=Vv mixed W22.ok (by kernel_rfl) (by kernel_rfl) na fun xx=>Kls xx.1
abbrev W23 [Sx.Dr]:=W22.add Kmq
theorem Kl1 [Sx.Dr] (x:Out):wpF Tryz.prog W23.g (na ()) Tryz.f204 K1w (x,()):=by
 refine(by kernel_rfl:(x.1=x.1)=_).mp ?_
 rfl
theorem Knm [Sx.Dr]:Ok Tryz.prog 204 K1w:=Vv mixed W23.ok (by kernel_rfl) (by kernel_rfl) na fun xx=>Kl1 xx.1
abbrev W24 [Sx.Dr]:=W23.add Knm
theorem Kl0 [Sx.Dr] (x:Per):wpF Tryz.prog W24.g (na ()) Tryz.f208 K1y (x,()):=by
 refine(by kernel_rfl:(x.1=x.1)=_).mp ?_
 rfl
theorem Kni [Sx.Dr]:Ok Tryz.prog 208 K1y:=Vv mixed W24.ok (by kernel_rfl) (by kernel_rfl) na fun xx=>Kl0 xx.1
abbrev W25 [Sx.Dr]:=W24.add Kni
def Ja:ByteArray:=⟨⟨[]⟩⟩
def Vs {α:Type} (p:α→Bool):List α→Nat→Int
 |[],_=> -1
 |x::r,k=>if p x=true then(k:Int) else Vs p r (k+1)
theorem Yc {α:Type} {p:α→Bool} {l:List α} {k:Nat} {d:α} (h:k<l.length):Vs p (l.drop k) k=if p (l.getD k d)=true then(k:Int) else Vs p (l.drop (k+1)) (k+1):=by
 rw[List.drop_eq_getElem_cons h]
 simp[Vs,List.getD_eq_getElem?_getD,h]
abbrev Jl8 (T:TypeId) (s:Sch) (g:Bool) (l:List s.T) (q:Tup [(g,s)]→List Prop) (f:Tup [(g,s)]→Bool):Ann:={X:=Nat,σ:=fun k=>⟨2,[(0, .one (.sl 0)),(1, .one (.fv 1)),(7, .one (.int .i64 l.length)),(8, .one (.int .i64 k))],[(0, .imm T s l),(1, .afn [(g,s)] Bo q f)]⟩,inv:=fun k=>k≤l.length∧Vs (fun x=>f (x,())) l 0=Vs (fun x=>f (x,())) (l.drop k) k,mu:=fun k=>l.length-k}
def Kbm (T:TypeId) (s:Sch) (g:Bool):Con:={args:=[.val false (.list T s), .fn [(g,s)] Bo],ress:=[I],owns:=[],pre:=fun(l,(q,_),_)=>[l.length≤1000000,∀x∈l,Uq (q (x,()))],spec:=fun(l,(_,f),_)=>(Vs (fun x=>f (x,())) l 0,())}
def Jso:Sta:=(Ja,0,0)
def K11:Con:={args:=[.val true Dk, .ref 9 .str],ress:=[Bo],owns:=[],pre:=fun _=>[],spec:=fun(x,s,_)=>(x.1.toList==s.toList,())}
theorem Klz [Sx.Dr] (x:Sta) (s:ByteArray):wpF Tryz.prog W25.g (na ()) Tryz.f229 K11 (x,s,()):=by
 refine(by kernel_rfl:(Lb x.1 s=Lb x.1 s)=_).mp ?_
 delta Lb
 rfl
theorem Kne [Sx.Dr]:Ok Tryz.prog 229 K11:=Vv mixed W25.ok (by kernel_rfl) (by kernel_rfl) na fun xx=>Klz xx.1 xx.2.1
abbrev W26 [Sx.Dr]:=W25.add Kne
def Z8:=(B0,(0:Int),(0:Int))
def Z58 (a:List Sta):=List.length a≤1000000
def Z64:=(-1)
def Kzh (a:List Sta) (b:Nat):=(((List.getD a b Z8).1,E2 (List.getD a b Z8).2),PUnit.unit)
def Kiu (a:Nat) (b:List Sta) (c:Sta×Unit→Bool):=a≤List.length b∧Vs (fun(x:Sta)=>c (x,PUnit.unit)) b 0=Vs (fun(x:Sta)=>c (x,PUnit.unit)) (List.drop a b) a
theorem Knf [Sx.Dr]:Ok Tryz.prog 228 (Kbm 127 Dk true):=okW W26 Tryz.f228 (fun xx=>Xr (Jl8 127 Dk true xx.1 xx.2.1.1 xx.2.1.2)) fun xx=>by
 obtain⟨(l:List Sta),⟨(q:Sta×Unit→List Prop),(f:Sta×Unit→Bool)⟩,_⟩:=xx
 refine(by kernel_rfl:(Z58 l→(∀(x:Sta),x∈l→Uq (q (x,PUnit.unit)))→∃(x:Nat),Si (Ln l) (0=Nc x∧Sf l ((fun(x:Sta×PUnit)=>q x)=q∧(fun(x:Sta×PUnit)=>f x)=f))∧Kiu x l f∧∀(x:Nat),Kiu x l f→Br (decide (Nc x<Ln l)) (T2 (Bd (Nc x) (Ln l)) (Uq (q (Kzh l x)))∧Br (f (Kzh l x)) (Nc x=Vs (fun(x:Sta)=>f (x,PUnit.unit)) l 0) (Z16 x∧∃(y:Nat),Si (Ln l) (Z82 x y∧Sf l ((fun(x:Sta×PUnit)=>q x)=q∧(fun(x:Sta×PUnit)=>f x)=f))∧Kiu y l f∧List.length l-y<List.length l-x)) (Z64=Vs (fun(x:Sta)=>f (x,PUnit.unit)) l 0))=_).mp ?_
 delta Z8 Z16 Z58 Z64 Z82 Kzh Kiu Br Iw Bd T2 Sf Si Ln Nc B0 E2
 intro hb hq
 refine⟨(0:Nat),⟨rfl,rfl,rfl,rfl,rfl⟩,⟨Nat.zero_le _,rfl⟩,fun(k:Nat) hk=>⟨fun h=> ?_,fun h=> ?_⟩⟩
 ·have hlt:k<l.length:=by simpa using h
  have hd:=Yc (p:=fun x=>f (x,())) (d:=Jso) hlt
  refine⟨⟨by omega,by omega,hq (l.getD k Jso) (Jc hlt)⟩,fun h1=> ?_,fun h1=>⟨by omega,(k+1:Nat),⟨rfl,rfl,rfl,by simp,rfl⟩,⟨by omega, ?_⟩,by omega⟩⟩
  ·rw[hk.2,hd,if_pos (show f (l.getD k Jso,())=true from h1)]
  ·rw[hk.2,hd,if_neg (by rw[show f (l.getD k Jso,())=false from h1];simp)]
 ·have hlt:¬k<l.length:=by simpa using h
  have:k=l.length:=by omega
  rw[hk.2,this,List.drop_length];rfl
abbrev W27 [Sx.Dr]:=W26.add Knf
def Jy (l:List Sta) (s:ByteArray):Int:=Vs (fun x=>x.1.toList==s.toList) l 0
def Kbs:Con:={args:=[.val false (.list 127 Dk),aS],ress:=[I],owns:=[],pre:=fun(l,_)=>[l.length≤1000000],spec:=fun(l,s,_)=>(Jy l s,())}
theorem Ko3 [Sx.Dr]:Ok Tryz.prog 143 Kbs:=okW W27 Tryz.f143 na fun xx=>by
 obtain⟨(l:List Sta),(s:ByteArray),_⟩:=xx
 refine(by kernel_rfl:(Z58 l→(Z58 l∧∀(x:Sta),x∈l→True)∧Vs (fun(x:Sta)=>List.beq (ByteArray.toList x.1) (ByteArray.toList s)) l 0=Jy l s)=_).mp ?_
 delta Z58
 exact fun h=>⟨⟨h,fun _ _=>trivial⟩,rfl⟩
abbrev W28 [Sx.Dr]:=W27.add Ko3
def Ki:Ord:=(Ja,Ja,Ja,(0,0),0,0,0)
def K13:Con:={args:=[.val true Hk, .ref 9 .str],ress:=[Bo],owns:=[],pre:=fun _=>[],spec:=fun(x,s,_)=>(x.1.toList==s.toList,())}
theorem Kly [Sx.Dr] (x:Ord) (s:ByteArray):wpF Tryz.prog W28.g (na ()) Tryz.f231 K13 (x,s,()):=by
 refine(by kernel_rfl:(Lb x.1 s=Lb x.1 s)=_).mp ?_
 delta Lb
 rfl
theorem Knc [Sx.Dr]:Ok Tryz.prog 231 K13:=Vv mixed W28.ok (by kernel_rfl) (by kernel_rfl) na fun xx=>Kly xx.1 xx.2.1
abbrev W29 [Sx.Dr]:=W28.add Knc
def Z53 (a:List Ord):=List.length a≤1000000
def Z65:=((0:Int),(0:Int),(0:Int))
def Jc3:=(B0,B0,B0,((0:Int),(0:Int)),Z65)
def Ke8 (a:List Ord) (b:Nat):=List.getD a b Jc3
def Kkm (a:List Ord) (b:Ord×Unit→List Prop):=∀(x:Ord),x∈a→Uq (b (x,PUnit.unit))
def Ke7 (a:List Ord) (b:Nat):=(Ke8 a b).1
def Kkj (a:List Ord) (b:Nat):=(Ke8 a b).2
def Kkf (a:List Ord) (b:Nat):=(Kkj a b).2
def Kkb (a:List Ord) (b:Nat):=(Kkf a b).2
def Kka (a:List Ord) (b:Nat):=(Kkb a b).2
def Kiv (a:Nat) (b:List Ord) (c:Ord×Unit→Bool):=a≤List.length b∧Vs (fun(x:Ord)=>c (x,PUnit.unit)) b 0=Vs (fun(x:Ord)=>c (x,PUnit.unit)) (List.drop a b) a
def Kc5 (a:List Ord) (b:Nat):=((Ke7 a b,(Kkj a b).1,(Kkf a b).1,E2 (Kkb a b).1,(Kka a b).1,E2 (Kka a b).2),PUnit.unit)
def Kgf (a:Ord×Unit→List Prop) (b:List Ord) (c:Nat):=Uq (a (Kc5 b c))
theorem Knd [Sx.Dr]:Ok Tryz.prog 230 (Kbm 130 Hk true):=okW W29 Tryz.f230 (fun xx=>Xr (Jl8 130 Hk true xx.1 xx.2.1.1 xx.2.1.2)) fun xx=>by
 obtain⟨(l:List Ord),⟨(q:Ord×Unit→List Prop),(f:Ord×Unit→Bool)⟩,_⟩:=xx
 refine(by kernel_rfl:(Z53 l→Kkm l q→∃(x:Nat),Si (Ln l) (0=Nc x∧Sf l ((fun(x:Ord×PUnit)=>q x)=q∧(fun(x:Ord×PUnit)=>f x)=f))∧Kiv x l f∧∀(x:Nat),Kiv x l f→Br (decide (Nc x<Ln l)) (T2 (Bd (Nc x) (Ln l)) (Kgf q l x)∧Br (f (Kc5 l x)) (Nc x=Vs (fun(x:Ord)=>f (x,PUnit.unit)) l 0) (Z16 x∧∃(y:Nat),Si (Ln l) (Z82 x y∧Sf l ((fun(x:Ord×PUnit)=>q x)=q∧(fun(x:Ord×PUnit)=>f x)=f))∧Kiv y l f∧List.length l-y<List.length l-x)) (Z64=Vs (fun(x:Ord)=>f (x,PUnit.unit)) l 0))=_).mp ?_
 delta Z16 Z53 Z64 Z65 Z82 Jc3 Ke8 Kkm Ke7 Kkj Kkf Kkb Kka Kiv Kc5 Kgf Br Iw Bd T2 Sf Si Ln Nc B0 E2
 intro hb hq
 refine⟨(0:Nat),⟨rfl,rfl,rfl,rfl,rfl⟩,⟨Nat.zero_le _,rfl⟩,fun(k:Nat) hk=>⟨fun h=> ?_,fun h=> ?_⟩⟩
 ·have hlt:k<l.length:=by simpa using h
  have hd:=Yc (p:=fun x=>f (x,())) (d:=Ki) hlt
  refine⟨⟨by omega,by omega,hq (l.getD k Ki) (Jc hlt)⟩,fun h1=> ?_,fun h1=>⟨by omega,(k+1:Nat),⟨rfl,rfl,rfl,by simp,rfl⟩,⟨by omega, ?_⟩,by omega⟩⟩
  ·rw[hk.2,hd,if_pos (show f (l.getD k Ki,())=true from h1)]
  ·rw[hk.2,hd,if_neg (by rw[show f (l.getD k Ki,())=false from h1];simp)]
 ·have hlt:¬k<l.length:=by simpa using h
  have:k=l.length:=by omega
  rw[hk.2,this,List.drop_length];rfl
abbrev W30 [Sx.Dr]:=W29.add Knd
def Kw (l:List Ord) (s:ByteArray):Int:=Vs (fun x=>x.1.toList==s.toList) l 0
def Kbu:Con:={args:=[.val false (.list 130 Hk),aS],ress:=[I],owns:=[],pre:=fun(l,_)=>[l.length≤1000000],spec:=fun(l,s,_)=>(Kw l s,())}
theorem Ko2 [Sx.Dr]:Ok Tryz.prog 144 Kbu:=okW W30 Tryz.f144 na fun xx=>by
 obtain⟨(l:List Ord),(s:ByteArray),_⟩:=xx
 refine(by kernel_rfl:(Z53 l→(Z53 l∧∀(x:Ord),x∈l→True)∧Vs (fun(x:Ord)=>List.beq (ByteArray.toList x.1) (ByteArray.toList s)) l 0=Kw l s)=_).mp ?_
 delta Z53
 exact fun h=>⟨⟨h,fun _ _=>trivial⟩,rfl⟩
abbrev W31 [Sx.Dr]:=W30.add Ko2
def Jbd:Out:=(Ja,Ja,(0,0),0)
def K10:Con:={args:=[.val true X6, .ref 9 .str],ress:=[Bo],owns:=[],pre:=fun _=>[],spec:=fun(x,s,_)=>(x.1.toList==s.toList,())}
theorem Klx [Sx.Dr] (x:Out) (s:ByteArray):wpF Tryz.prog W31.g (na ()) Tryz.f233 K10 (x,s,()):=by
 refine(by kernel_rfl:(Lb x.1 s=Lb x.1 s)=_).mp ?_
 delta Lb
 rfl
theorem Kna [Sx.Dr]:Ok Tryz.prog 233 K10:=Vv mixed W31.ok (by kernel_rfl) (by kernel_rfl) na fun xx=>Klx xx.1 xx.2.1
abbrev W32 [Sx.Dr]:=W31.add Kna
def Z14 (a:Nat) (b:List Out):=Bd (Nc a) (Ln b)
def Z48 (a:List Out):=List.length a≤1000000
def Z93 (a:Nat) (b:List Out):=decide (Nc a<Ln b)
def Jdd:=(B0,B0,((0:Int),(0:Int)),(0:Int))
def Jyf (a:List Out) (b c:Nat):=List.length a-b<List.length a-c
def J00 (a:List Out) (b:Nat):=List.getD a b Jdd
def J0z (a:List Out) (b:Nat):=(J00 a b).1
def J23 (a:List Out) (b:Nat):=(J00 a b).2.2
def J20 (a:List Out) (b:Out×Unit→List Prop):=∀(x:Out),x∈a→Uq (b (x,PUnit.unit))
def Kiy (a:Nat) (b:List Out) (c:Out×Unit→Bool):=a≤List.length b∧Vs (fun(x:Out)=>c (x,PUnit.unit)) b 0=Vs (fun(x:Out)=>c (x,PUnit.unit)) (List.drop a b) a
def J8b (a:List Out) (b:Nat):=(J0z a b,(J00 a b).2.1,E2 (J23 a b).1,(J23 a b).2)
def J2w (a:List Out) (b:Nat):=(J8b a b,PUnit.unit)
def Kgw (a:Out×Unit→Bool) (b:List Out) (c:Nat):=a (J2w b c)
def J2v (a:Out×Unit→List Prop) (b:List Out) (c:Nat):=Uq (a (J2w b c))
theorem Knb [Sx.Dr]:Ok Tryz.prog 232 (Kbm 188 X6 true):=okW W32 Tryz.f232 (fun xx=>Xr (Jl8 188 X6 true xx.1 xx.2.1.1 xx.2.1.2)) fun xx=>by
 obtain⟨(l:List Out),⟨(q:Out×Unit→List Prop),(f:Out×Unit→Bool)⟩,_⟩:=xx
 refine(by kernel_rfl:(Z48 l→J20 l q→∃(x:Nat),Si (Ln l) (0=Nc x∧Sf l ((fun(x:Out×PUnit)=>q x)=q∧(fun(x:Out×PUnit)=>f x)=f))∧Kiy x l f∧∀(x:Nat),Kiy x l f→Br (Z93 x l) (T2 (Z14 x l) (J2v q l x)∧Br (Kgw f l x) (Nc x=Vs (fun(x:Out)=>f (x,PUnit.unit)) l 0) (Z16 x∧∃(y:Nat),Si (Ln l) (Z82 x y∧Sf l ((fun(x:Out×PUnit)=>q x)=q∧(fun(x:Out×PUnit)=>f x)=f))∧Kiy y l f∧Jyf l y x)) (Z64=Vs (fun(x:Out)=>f (x,PUnit.unit)) l 0))=_).mp ?_
 delta Z14 Z16 Z48 Z64 Z82 Z93 Jdd Jyf J00 J0z J23 J20 Kiy J8b J2w Kgw J2v Br Iw Bd T2 Sf Si Ln Nc B0 E2
 intro hb hq
 refine⟨(0:Nat),⟨rfl,rfl,rfl,rfl,rfl⟩,⟨Nat.zero_le _,rfl⟩,fun(k:Nat) hk=>⟨fun h=> ?_,fun h=> ?_⟩⟩
 ·have hlt:k<l.length:=by simpa using h
  have hd:=Yc (p:=fun x=>f (x,())) (d:=Jbd) hlt
  refine⟨⟨by omega,by omega,hq (l.getD k Jbd) (Jc hlt)⟩,fun h1=> ?_,fun h1=>⟨by omega,(k+1:Nat),⟨rfl,rfl,rfl,by simp,rfl⟩,⟨by omega, ?_⟩,by omega⟩⟩
  ·rw[hk.2,hd,if_pos (show f (l.getD k Jbd,())=true from h1)]
  ·rw[hk.2,hd,if_neg (by rw[show f (l.getD k Jbd,())=false from h1];simp)]
 ·have hlt:¬k<l.length:=by simpa using h
  have:k=l.length:=by omega
  rw[hk.2,this,List.drop_length];rfl
abbrev W33 [Sx.Dr]:=W32.add Knb
def J7 (l:List Out) (s:ByteArray):Int:=Vs (fun x=>x.1.toList==s.toList) l 0
def Kbr:Con:={args:=[.val false (.list 188 X6),aS],ress:=[I],owns:=[],pre:=fun(l,_)=>[l.length≤1000000],spec:=fun(l,s,_)=>(J7 l s,())}
def Kk8 (a:List Out):=∀(x:Out),x∈a→True
theorem Ko1 [Sx.Dr]:Ok Tryz.prog 145 Kbr:=okW W33 Tryz.f145 na fun xx=>by
 obtain⟨(l:List Out),(s:ByteArray),_⟩:=xx
 refine(by kernel_rfl:(Z48 l→(Z48 l∧Kk8 l)∧Vs (fun(x:Out)=>List.beq (ByteArray.toList x.1) (ByteArray.toList s)) l 0=J7 l s)=_).mp ?_
 delta Z48 Kk8
 exact fun h=>⟨⟨h,fun _ _=>trivial⟩,rfl⟩
abbrev W34 [Sx.Dr]:=W33.add Ko1
def Jix:Per:=(Ja,Ja,false)
def K12:Con:={args:=[.val true Zy, .ref 9 .str],ress:=[Bo],owns:=[],pre:=fun _=>[],spec:=fun(x,s,_)=>(x.1.toList==s.toList,())}
theorem Klw [Sx.Dr] (x:Per) (s:ByteArray):wpF Tryz.prog W34.g (na ()) Tryz.f235 K12 (x,s,()):=by
 refine(by kernel_rfl:(Lb x.1 s=Lb x.1 s)=_).mp ?_
 delta Lb
 rfl
theorem Km8 [Sx.Dr]:Ok Tryz.prog 235 K12:=Vv mixed W34.ok (by kernel_rfl) (by kernel_rfl) na fun xx=>Klw xx.1 xx.2.1
abbrev W35 [Sx.Dr]:=W34.add Km8
def Z52 (a:List Per):=List.length a≤1000000
def Z91 (a:Nat) (b:List Per):=decide (Nc a<Ln b)
def J3c (a:List Per) (b:Nat):=(List.getD a b (B0,B0,false)).2
def J03 (a:List Per) (b c:Nat):=List.length a-b<List.length a-c
def J8t (a:List Per) (b:Per×Unit→List Prop):=∀(x:Per),x∈a→Uq (b (x,PUnit.unit))
def Key (a:List Per) (b:Nat):=((List.getD a b (B0,B0,false)).1,E2 (J3c a b))
def J8r (a:List Per) (b:Nat):=(Key a b,PUnit.unit)
def Kji (a:Per×Unit→Bool) (b:List Per) (c:Nat):=a (J8r b c)
def J8q (a:Per×Unit→List Prop) (b:List Per) (c:Nat):=Uq (a (J8r b c))
def Kix (a:Nat) (b:List Per) (c:Per×Unit→Bool):=a≤List.length b∧Vs (fun(x:Per)=>c (x,PUnit.unit)) b 0=Vs (fun(x:Per)=>c (x,PUnit.unit)) (List.drop a b) a
theorem Km9 [Sx.Dr]:Ok Tryz.prog 234 (Kbm 235 Zy true):=okW W35 Tryz.f234 (fun xx=>Xr (Jl8 235 Zy true xx.1 xx.2.1.1 xx.2.1.2)) fun xx=>by
 obtain⟨(l:List Per),⟨(q:Per×Unit→List Prop),(f:Per×Unit→Bool)⟩,_⟩:=xx
 refine(by kernel_rfl:(Z52 l→J8t l q→∃(x:Nat),Si (Ln l) (0=Nc x∧Sf l ((fun(x:Per×PUnit)=>q x)=q∧(fun(x:Per×PUnit)=>f x)=f))∧Kix x l f∧∀(x:Nat),Kix x l f→Br (Z91 x l) (T2 (Bd (Nc x) (Ln l)) (J8q q l x)∧Br (Kji f l x) (Nc x=Vs (fun(x:Per)=>f (x,PUnit.unit)) l 0) (Z16 x∧∃(y:Nat),Si (Ln l) (Z82 x y∧Sf l ((fun(x:Per×PUnit)=>q x)=q∧(fun(x:Per×PUnit)=>f x)=f))∧Kix y l f∧J03 l y x)) (Z64=Vs (fun(x:Per)=>f (x,PUnit.unit)) l 0))=_).mp ?_
 delta Z16 Z52 Z64 Z82 Z91 J3c J03 J8t Key J8r Kji J8q Kix Br Iw Bd T2 Sf Si Ln Nc B0 E2
 intro hb hq
 refine⟨(0:Nat),⟨rfl,rfl,rfl,rfl,rfl⟩,⟨Nat.zero_le _,rfl⟩,fun(k:Nat) hk=>⟨fun h=> ?_,fun h=> ?_⟩⟩
 ·have hlt:k<l.length:=by simpa using h
  have hd:=Yc (p:=fun x=>f (x,())) (d:=Jix) hlt
  refine⟨⟨by omega,by omega,hq (l.getD k Jix) (Jc hlt)⟩,fun h1=> ?_,fun h1=>⟨by omega,(k+1:Nat),⟨rfl,rfl,rfl,by simp,rfl⟩,⟨by omega, ?_⟩,by omega⟩⟩
  ·rw[hk.2,hd,if_pos (show f (l.getD k Jix,())=true from h1)]
  ·rw[hk.2,hd,if_neg (by rw[show f (l.getD k Jix,())=false from h1];simp)]
 ·have hlt:¬k<l.length:=by simpa using h
  have:k=l.length:=by omega
  rw[hk.2,this,List.drop_length];rfl
abbrev W36 [Sx.Dr]:=W35.add Km9
def Uy (l:List Per) (s:ByteArray):Int:=Vs (fun x=>x.1.toList==s.toList) l 0
def Kbt:Con:={args:=[.val false (.list 235 Zy),aS],ress:=[I],owns:=[],pre:=fun(l,_)=>[l.length≤1000000],spec:=fun(l,s,_)=>(Uy l s,())}
def Kjo (a:List Per):=Z52 a∧∀(x:Per),x∈a→True
theorem Ko0 [Sx.Dr]:Ok Tryz.prog 146 Kbt:=okW W36 Tryz.f146 na fun xx=>by
 obtain⟨(l:List Per),(s:ByteArray),_⟩:=xx
 refine(by kernel_rfl:(Z52 l→Kjo l∧Vs (fun(x:Per)=>List.beq (ByteArray.toList x.1) (ByteArray.toList s)) l 0=Uy l s)=_).mp ?_
 delta Z52 Kjo
 exact fun h=>⟨⟨h,fun _ _=>trivial⟩,rfl⟩
abbrev W37 [Sx.Dr]:=W36.add Ko0
abbrev Reg:=Int×Int×List Sta×List Ord×List Met×List Out×List Per
abbrev Jm3:Sch:= .prod sI (.prod sI (.prod (.list 127 Dk) (.prod (.list 130 Hk) (.prod (.list 155 Dx) (.prod (.list 188 X6) (.list 235 Zy))))))
abbrev Jbf:AK:= .val true Jm3
def Kp (s:Int×Int) (h:Int):Bool:=bif decide (s.1≤h) then decide (h<s.2) else false
def Jv4:Con:={args:=[.val true Hv,aI],ress:=[Bo],owns:=[],pre:=fun _=>[],spec:=fun(s,h,_)=>(Kp s h,())}
theorem Ko6 [Sx.Dr]:Ok Tryz.prog 140 Jv4:=okW W37 Tryz.f140 na fun xx=>by
 obtain⟨⟨(a:Int),(b:Int)⟩,(h:Int),_⟩:=xx
 refine(by kernel_rfl:((bif decide (a≤h) then decide (h<b) else false)=Kp (a,b) h)=_).mp ?_
 rfl
abbrev W38 [Sx.Dr]:=W37.add Ko6
def Jr (x:Ord) (h:Int):Bool:=bif Kp x.2.2.2.1 h then(bif x.2.2.2.2.2.2== -1 then true else decide (h<x.2.2.2.2.2.2)) else false
def J5d:Con:={args:=[.val true Hk,aI],ress:=[Bo],owns:=[],pre:=fun _=>[],spec:=fun(x,h,_)=>(Jr x h,())}
theorem K4z [Sx.Dr]:Ok Tryz.prog 72 J5d:=okW W38 Tryz.f72 na fun xx=>by
 obtain⟨⟨(n:ByteArray),(f:ByteArray),(t:ByteArray),⟨(a:Int),(b:Int)⟩,(p:Int),(c:Int),(r:Int)⟩,(h:Int),_⟩:=xx
 refine(by kernel_rfl:((bif Kp (a,b) h then bif r==Z64 then true else decide (h<r) else false)=Jr (n,f,t,(a,b),p,c,r) h)=_).mp ?_
 delta Z64
 rfl
abbrev W39 [Sx.Dr]:=W38.add K4z
def Fn (x:Ord) (s:ByteArray):Bool:=bif x.2.1.toList==s.toList then true else x.2.2.1.toList==s.toList
def Kb6:Con:={args:=[.val true Hk,aS],ress:=[Bo],owns:=[],pre:=fun _=>[],spec:=fun(x,s,_)=>(Fn x s,())}
theorem Km3 [Sx.Dr]:Ok Tryz.prog 240 Kb6:=okW W39 Tryz.f240 na fun xx=>by
 obtain⟨⟨(n:ByteArray),(f:ByteArray),(t:ByteArray),⟨(a:Int),(b:Int)⟩,(p:Int),(c:Int),(r:Int)⟩,(s:ByteArray),_⟩:=xx
 refine(by kernel_rfl:((bif Lb f s then true else Lb t s)=Fn (n,f,t,(a,b),p,c,r) s)=_).mp ?_
 delta Lb
 rfl
abbrev W40 [Sx.Dr]:=W39.add Km3
def Jzc (x:Out) (s:ByteArray) (h:Int):Bool:=bif x.2.1.toList==s.toList then Kp x.2.2.1 h else false
def K52:Con:={args:=[.val true X6,aS,aI],ress:=[Bo],owns:=[],pre:=fun _=>[],spec:=fun(x,s,h,_)=>(Jzc x s h,())}
theorem Kn6 [Sx.Dr]:Ok Tryz.prog 176 K52:=okW W40 Tryz.f176 na fun xx=>by
 obtain⟨⟨(n:ByteArray),(f:ByteArray),⟨(a:Int),(b:Int)⟩,(p:Int)⟩,(s:ByteArray),(h:Int),_⟩:=xx
 refine(by kernel_rfl:((bif Lb f s then Kp (a,b) h else false)=Jzc (n,f,(a,b),p) s h)=_).mp ?_
 delta Lb
 rfl
abbrev W41 [Sx.Dr]:=W40.add Kn6
theorem Jq {α:Type} {l:List α} {k:Nat} {d:α} (h:k<l.length):l.drop k=l.getD k d::l.drop (k+1):=by
 rw[List.drop_eq_getElem_cons h,List.getD_eq_getElem?_getD,List.getElem?_eq_getElem h];rfl
theorem Jbv {α:Type} {p:α→Bool}:∀{l:List α} {k:Nat},Vs p l k<k+l.length∧-1≤Vs p l k
 |[],k=>by simp[Vs];omega
 | x :: l, k => by
  unfold Vs
  split
  ·simp only[List.length_cons];omega
  ·have:=Jbv (p:=p) (l:=l) (k:=k+1)
   simp only[List.length_cons];omega
theorem K6 {l:List Sta} {s:ByteArray}:Jy l s<l.length:=by have:=(Jbv (p:=fun x=>x.1.toList==s.toList) (l:=l) (k:=0)).1;unfold Jy;omega
theorem Ua {l:List Ord} {s:ByteArray}:Kw l s<l.length:=by have:=(Jbv (p:=fun x=>x.1.toList==s.toList) (l:=l) (k:=0)).1;unfold Kw;omega
theorem K0 {l:List Out} {s:ByteArray}:J7 l s<l.length:=by have:=(Jbv (p:=fun x=>x.1.toList==s.toList) (l:=l) (k:=0)).1;unfold J7;omega
theorem Ul {l:List Per} {s:ByteArray}:Uy l s<l.length:=by have:=(Jbv (p:=fun x=>x.1.toList==s.toList) (l:=l) (k:=0)).1;unfold Uy;omega
def Kz (M:List Met) (n:ByteArray) (h:Int):Int:=Vs (fun x=>bif x.1.toList==n.toList then x.2.1==h else false) M 0
theorem Jas {l:List Met} {s:ByteArray} {h:Int}:Kz l s h<l.length:=by have:=(Jbv (p:=fun x=>bif x.1.toList==s.toList then x.2.1==h else false) (l:=l) (k:=0)).1;unfold Kz;omega
structure J7y (x:Sta):Prop where
 lim:1≤x.2.1∧x.2.1≤1000
 pri:0≤x.2.2∧x.2.2≤1000
structure Jmd (x:Int×Int):Prop where
 lo:0≤x.1
 mid:x.1≤x.2
 hi:x.2≤999999999
 len:x.2-x.1≤48
structure Jcd (S:List Sta) (x:Ord):Prop where
 span:Jmd x.2.2.2.1
 pow:1≤x.2.2.2.2.1∧x.2.2.2.2.1≤1000
 pri:0≤x.2.2.2.2.2.1∧x.2.2.2.2.2.1≤1000
 trip: -1≤x.2.2.2.2.2.2∧x.2.2.2.2.2.2≤999999999
 fr:0≤Jy S x.2.1
 tu:0≤Jy S x.2.2.1
structure Jsm (x:Met):Prop where
 hour:0≤x.2.1∧x.2.1≤999999999
 sent:0≤x.2.2.1∧x.2.2.1≤1000
 got:0≤x.2.2.2∧x.2.2.2≤x.2.2.1
structure Joh (S:List Sta) (x:Out):Prop where
 span:Jmd x.2.2.1
 rest:0≤x.2.2.2∧x.2.2.2≤1000
 sta:0≤Jy S x.2.1
structure Jl (r:Reg):Prop where
 tk:0≤r.1∧r.1≤999999999
 st:0≤r.2.1∧r.2.1≤r.1
 nS:r.2.2.1.length≤6
 nO:r.2.2.2.1.length≤32
 nM:r.2.2.2.2.1.length≤10000
 nX:r.2.2.2.2.2.1.length≤16
 nQ:r.2.2.2.2.2.2.length≤16
 sta:∀x∈r.2.2.1,J7y x
 ord:∀x∈r.2.2.2.1,Jcd r.2.2.1 x
 met:∀x∈r.2.2.2.2.1,Jsm x
 out:∀x∈r.2.2.2.2.2.1,Joh r.2.2.1 x
 per:∀x∈r.2.2.2.2.2.2,0≤J7 r.2.2.2.2.2.1 x.2.1
 done:∀x∈r.2.2.2.1,∀h,Jr x h=true→h<r.2.1→0≤Kz r.2.2.2.2.1 x.1 h
def Hm (S:List Sta) (s:ByteArray):Sta:=S.getD (Jy S s).toNat Jso
def J47:Con:={args:=[Jbf,aS],ress:=[(true,Dk)],owns:=[],pre:=fun((_,_,S,_),s,_)=>[S.length≤1000000,0≤Jy S s],spec:=fun((_,_,S,_),s,_)=>(Hm S s,())}
def Z21 (a:List Sta) (b:Bt):=0≤Jy a b
def Kfm (a:List Sta) (b:Bt):=Gt a (Jy a b) Z8
theorem Kn7 [Sx.Dr]:Ok Tryz.prog 175 J47:=okW W41 Tryz.f175 na fun xx=>by
 obtain⟨⟨(tk:Int),(st:Int),(S:List Sta),(O:List Ord),(M:List Met),(X:List Out),(Q:List Per)⟩,(s:ByteArray),_⟩:=xx
 refine(by kernel_rfl:(Z58 S→Z21 S s→(Z58 S∧Tw (Bd (Jy S s) (Ln S)))∧((Kfm S s).1,E2 (Kfm S s).2)=Hm S s)=_).mp ?_
 delta Z8 Z21 Z58 Kfm Bd Tw Ln Gt B0 E2
 exact fun h1 h2=>⟨⟨h1,⟨h2,K6⟩,⟨h2,K6⟩⟩,rfl⟩
abbrev W42 [Sx.Dr]:=W41.add Kn7
def X1 (O:List Ord) (s:ByteArray):Ord:=O.getD (Kw O s).toNat Ki
def J5a:Con:={args:=[Jbf,aS],ress:=[(true,Hk)],owns:=[],pre:=fun((_,_,_,O,_),s,_)=>[O.length≤1000000,0≤Kw O s],spec:=fun((_,_,_,O,_),s,_)=>(X1 O s,())}
def K0d (a:List Ord) (b:Bt):=Gt a (Kw a b) Jc3
def Kz6 (a:List Ord) (b:Bt):=(K0d a b).2
def Kz3 (a:List Ord) (b:Bt):=(Kz6 a b).2
def Kz1 (a:List Ord) (b:Bt):=(Kz3 a b).2
def Kzy (a:List Ord) (b:Bt):=(Kz1 a b).2
theorem Kns [Sx.Dr]:Ok Tryz.prog 198 J5a:=okW W42 Tryz.f198 na fun xx=>by
 obtain⟨⟨(tk:Int),(st:Int),(S:List Sta),(O:List Ord),(M:List Met),(X:List Out),(Q:List Per)⟩,(s:ByteArray),_⟩:=xx
 refine(by kernel_rfl:(Z53 O→0≤Kw O s→(Z53 O∧Tw (Bd (Kw O s) (Ln O)))∧((K0d O s).1,(Kz6 O s).1,(Kz3 O s).1,E2 (Kz1 O s).1,(Kzy O s).1,E2 (Kzy O s).2)=X1 O s)=_).mp ?_
 delta Z53 Z65 Jc3 K0d Kz6 Kz3 Kz1 Kzy Bd Tw Ln Gt B0 E2
 exact fun h1 h2=>⟨⟨h1,⟨h2,Ua⟩,⟨h2,Ua⟩⟩,rfl⟩
abbrev W43 [Sx.Dr]:=W42.add Kns
def Ly (X:List Out) (s:ByteArray):Out:=X.getD (J7 X s).toNat Jbd
def J49:Con:={args:=[Jbf,aS],ress:=[(true,X6)],owns:=[],pre:=fun((_,_,_,_,_,X,_),s,_)=>[X.length≤1000000,0≤J7 X s],spec:=fun((_,_,_,_,_,X,_),s,_)=>(Ly X s,())}
def Klc (a:List Out) (b:Bt):=(Gt a (J7 a b) Jdd).2
theorem Km1 [Sx.Dr]:Ok Tryz.prog 242 J49:=okW W43 Tryz.f242 na fun xx=>by
 obtain⟨⟨(tk:Int),(st:Int),(S:List Sta),(O:List Ord),(M:List Met),(X:List Out),(Q:List Per)⟩,(s:ByteArray),_⟩:=xx
 refine(by kernel_rfl:(Z48 X→0≤J7 X s→(Z48 X∧Tw (Bd (J7 X s) (Ln X)))∧((Gt X (J7 X s) Jdd).1,(Klc X s).1,E2 (Klc X s).2.1,(Klc X s).2.2)=Ly X s)=_).mp ?_
 delta Z48 Jdd Klc Bd Tw Ln Gt B0 E2
 exact fun h1 h2=>⟨⟨h1,⟨h2,K0⟩,⟨h2,K0⟩⟩,rfl⟩
abbrev W44 [Sx.Dr]:=W43.add Km1
def Jj5 (Q:List Per) (s:ByteArray):Per:=Q.getD (Uy Q s).toNat Jix
def J48:Con:={args:=[Jbf,aS],ress:=[(true,Zy)],owns:=[],pre:=fun((_,_,_,_,_,_,Q),s,_)=>[Q.length≤1000000,0≤Uy Q s],spec:=fun((_,_,_,_,_,_,Q),s,_)=>(Jj5 Q s,())}
theorem Kmy [Sx.Dr]:Ok Tryz.prog 245 J48:=okW W44 Tryz.f245 na fun xx=>by
 obtain⟨⟨(tk:Int),(st:Int),(S:List Sta),(O:List Ord),(M:List Met),(X:List Out),(Q:List Per)⟩,(s:ByteArray),_⟩:=xx
 refine(by kernel_rfl:(Z52 Q→0≤Uy Q s→(Z52 Q∧Tw (Bd (Uy Q s) (Ln Q)))∧((Gt Q (Uy Q s) (B0,B0,false)).1,E2 (Gt Q (Uy Q s) (B0,B0,false)).2)=Jj5 Q s)=_).mp ?_
 delta Z52 Bd Tw Ln Gt B0 E2
 exact fun h1 h2=>⟨⟨h1,⟨h2,Ul⟩,⟨h2,Ul⟩⟩,rfl⟩
abbrev W45 [Sx.Dr]:=W44.add Kmy
def Vb:List Ord→ByteArray→Int→Int
 |[],_,_=>0
 |x::l,s,h=>(bif bif Fn x s then Jr x h else false then x.2.2.2.2.1 else 0)+Vb l s h
theorem Jjd {S:List Sta} {s:ByteArray} {h:Int}:∀{O:List Ord},(∀x∈O,Jcd S x)→0≤Vb O s h∧Vb O s h≤1000*O.length
 |[],_=>by simp[Vb]
 |x::l,hO=>by
  have:=Jjd (s:=s) (h:=h) (O:=l) fun y hy=>hO y (List.mem_cons_of_mem _ hy)
  have hx:=(hO x (List.mem_cons_self ..)).pow
  unfold Vb
  simp only[List.length_cons]
  cases(bif Fn x s then Jr x h else false)<;>simp only[cond_true,cond_false]<;>omega
def Kqq:Con:={args:=[Jbf,aS,aI],ress:=[I],owns:=[],pre:=fun(r,_)=>[Jl r],spec:=fun((_,_,_,O,_),s,h,_)=>(Vb O s h,())}
abbrev J5v (O:List Ord) (s:ByteArray) (h:Int):Ann:={X:=Nat×Int,σ:=fun(k,n)=>⟨1,[(1, .one (.str s)),(2, .one (.int .i64 h)),(7, .one (.int .i64 n)),(11, .one (.sl 0)),(12, .one (.int .i64 O.length)),(13, .one (.int .i64 k))],[(0, .imm 130 Hk O)]⟩,inv:=fun(k,n)=>k≤O.length∧0≤n∧n≤1000*k∧n+Vb (O.drop k) s h=Vb O s h,mu:=fun(k,_)=>O.length-k}
def Z37 (a:Nat×Int):=Iw (Nc a.1+1)
def Z63 (a b:Int) (c:List Sta) (d:List Ord) (e:List Met) (f:List Out) (g:List Per):=(a,b,c,d,e,f,g)
def Jsd (a b:Nat×Int):=Nc a.1+1=Nc b.1
def Jw (a b:Int) (c:List Sta) (d:List Ord) (e:List Met) (f:List Out) (g:List Per):=Jl (Z63 a b c d e f g)
def Ke6 (a:List Ord) (b:Nat×Int):=List.getD a b.1 Jc3
def Ke5 (a:List Ord) (b:Nat×Int):=(Ke6 a b).2
def Ke4 (a:List Ord) (b:Nat×Int):=(Ke5 a b).1
def Ke3 (a:List Ord) (b:Nat×Int):=(Ke5 a b).2
def Ke2 (a:List Ord) (b:Nat×Int):=(Ke3 a b).1
def Ke1 (a:List Ord) (b:Nat×Int):=(Ke3 a b).2
def Kez (a:List Ord) (b:Nat×Int):=(Ke1 a b).2
def Kex (a:List Ord) (b:Nat×Int):=(Kez a b).2
def Kew (a:List Ord) (b:Nat×Int):=(Kez a b).1
def Kjk (a:Nat×Int) (b:List Ord):=a.2+Kew b a
def Kjd (a:Nat×Int) (b:List Ord):=Iw (Kjk a b)
def Ki9 (a:Nat×Int) (b:List Ord) (c:Nat×Int):=Kjk a b=c.2
def Kia (a:Nat×Int) (b:List Ord) (c:Bt) (d:Int):=a.1≤List.length b∧0≤a.2∧a.2≤1000*Nc a.1∧a.2+Vb (List.drop a.1 b) c d=Vb b c d
def Kvd (a:Nat×Int) (b:List Ord) (c:Bt) (d:Int) (e:Nat×Int):=Kia a b c d∧List.length b-a.1<List.length b-e.1
def J54 (a:List Ord) (b:Nat×Int):=((Ke6 a b).1,Ke4 a b,Ke2 a b,E2 (Ke1 a b).1,Kew a b,E2 (Kex a b))
def Kge (a:List Ord) (b:Nat×Int) (c:Int):=Jr (J54 a b) c
theorem Kn5 [Sx.Dr]:Ok Tryz.prog 177 Kqq:=okW W45 Tryz.f177 (fun xx=>Xr (J5v xx.1.2.2.2.1 xx.2.1 xx.2.2.1)) fun xx=>by
 obtain⟨⟨(tk:Int),(st:Int),(S:List Sta),(O:List Ord),(M:List Met),(X:List Out),(Q:List Per)⟩,(s:ByteArray),(h:Int),_⟩:=xx
 refine(by kernel_rfl:(Jw tk st S O M X Q→∃(x:Nat×Int),Sf s (Si h (0=x.2∧Si (Ln O) (0=Nc x.1∧O=O)))∧Kia x O s h∧∀(x:Nat×Int),Kia x O s h→Br (decide (Nc x.1<Ln O)) (Tw (Bd (Nc x.1) (Ln O))∧Br (bif Fn (J54 O x) s then Kge O x h else false) (Kjd x O∧Z37 x∧∃(y:Nat×Int),Sf s (Si h (Ki9 x O y∧Si (Ln O) (Jsd x y∧O=O)))∧Kvd y O s h x) (Z37 x∧∃(y:Nat×Int),Sf s (Si h (x.2=y.2∧Si (Ln O) (Jsd x y∧O=O)))∧Kvd y O s h x)) (x.2=Vb O s h))=_).mp ?_
 delta Z37 Z63 Z65 Jsd Jw Jc3 Ke6 Ke5 Ke4 Ke3 Ke2 Ke1 Kez Kex Kew Kjk Kjd Ki9 Kia Kvd J54 Kge Br Iw Bd Tw Sf Si Ln Nc B0 E2
 intro hr
 have hO:∀x∈O,Jcd S x:=hr.ord
 have nO:O.length≤32:=hr.nO
 refine⟨((0:Nat),(0:Int)),⟨rfl,rfl,rfl,rfl,rfl,rfl⟩,⟨Nat.zero_le _,by simp,by simp,by simp⟩,fun(x:Nat×Int) hk=>⟨fun h1=> ?_,fun h1=> ?_⟩⟩
 ·obtain⟨k,n⟩:=x
  have hlt:k<O.length:=by simpa using h1
  have ho:=hO _ (Jc (d:=Ki) hlt)
  have hp:=ho.pow
  dsimp only at hk⊢
  obtain⟨k1,k2,k3,k4⟩:=hk
  rw[Jq (d:=Ki) hlt,Vb] at k4
  refine⟨⟨by omega,by omega⟩,fun h2=> ?_,fun h2=> ?_⟩
  ·have h3:(bif Fn (O.getD k Ki) s then Jr (O.getD k Ki) h else false)=true:=h2
   rw[h3,cond_true] at k4
   refine⟨⟨?_, ?_⟩,⟨by omega,by omega⟩,(k+1,n+(O.getD k Ki).2.2.2.2.1),⟨rfl,rfl,rfl,rfl,by simp,rfl⟩,⟨by simp only;omega,by simp only;omega,by simp only;omega,by simp only;omega⟩,by simp only;omega⟩
   ·show _≤n+(O.getD k Ki).2.2.2.2.1;omega
   ·show n+(O.getD k Ki).2.2.2.2.1≤_;omega
  ·have h3:(bif Fn (O.getD k Ki) s then Jr (O.getD k Ki) h else false)=false:=h2
   rw[h3,cond_false] at k4
   refine⟨⟨by omega,by omega⟩,(k+1,n),⟨rfl,rfl,rfl,rfl,by simp,rfl⟩,⟨by simp only;omega,by simp only;omega,by simp only;omega,by simp only;omega⟩,by simp only;omega⟩
 ·obtain⟨k,n⟩:=x
  have hlt:¬k<O.length:=by simpa using h1
  simp only at hk
  have:k=O.length:=by omega
  rw[this,List.drop_length,Vb] at hk
  show n=_
  omega
abbrev W46 [Sx.Dr]:=W45.add Kn5
theorem Jij {S:List Sta} {s:ByteArray} (h:∀x∈S,J7y x) (hf:0≤Jy S s):J7y (Hm S s):=by
 have:=K6 (l:=S) (s:=s)
 exact h _ (Jc (by omega))
def Jgr:List Out→ByteArray→Int→Int→Int
 |[],_,_,n=>n
 |x::l,s,h,n=>Jgr l s h (bif Jzc x s h then min n x.2.2.2 else n)
def Xn (S:List Sta) (O:List Ord) (X:List Out) (s:ByteArray) (h:Int):Int:=Jgr X s h (Hm S s).2.1-Vb O s h
def Kqf:Con:={args:=[Jbf,aS,aI],ress:=[I],owns:=[],pre:=fun(r,s,_)=>[Jl r,0≤Jy r.2.2.1 s],spec:=fun((_,_,S,O,_,X,_),s,h,_)=>(Xn S O X s h,())}
abbrev J5o (tk st:Int) (S:List Sta) (O:List Ord) (M:List Met) (X:List Out) (Q:List Per) (s:ByteArray) (h:Int):Ann:={X:=Nat×Int,σ:=fun(k,n)=>⟨6,[(1, .one (.str s)),(2, .one (.int .i64 h)),(3, .one (.ptr 5 0)),(7, .one (.int .i64 n)),(15, .one (.sl 3)),(16, .one (.int .i64 X.length)),(17, .one (.int .i64 k))],[(0, .imm 127 Dk S),(1, .imm 130 Hk O),(2, .imm 155 Dx M),(3, .imm 188 X6 X),(4, .imm 235 Zy Q),(5, .box 105 [.int .i64 tk, .int .i64 st, .sl 0, .sl 1, .sl 2, .sl 3, .sl 4])]⟩,inv:=fun(k,n)=>k≤X.length∧0≤n∧n≤1000∧Jgr (X.drop k) s h n=Jgr X s h (Hm S s).2.1,mu:=fun(k,_)=>X.length-k}
def J86 (a:List Out) (b:Nat×Int):=(List.getD a b.1 Jdd).2
def J82 (a:List Out) (b:Nat×Int):=(J86 a b).2.2
def Kkx (a:List Out) (b:Nat×Int):=E2 (J86 a b).2.1
def Jqe (a:List Sta) (b:List Ord) (c:List Met) (d:List Out) (e:List Per) (f g:Int):=Sf a (Sf b (Sf c (Sf d (Sf e (Si f (g=g))))))
def Kih (a:Nat×Int) (b:List Out) (c:Bt) (d:Int) (e:List Sta):=a.1≤List.length b∧0≤a.2∧a.2≤1000∧Jgr (List.drop a.1 b) c d a.2=Jgr b c d (Hm e c).2.1
def Jx8 (a:Nat×Int) (b:List Sta) (c:List Ord) (d:List Met) (e:List Out) (f:List Per) (g h:Int):=0=Nc a.1∧Jqe b c d e f g h
def Jqd (a b:Nat×Int) (c:List Sta) (d:List Ord) (e:List Met) (f:List Out) (g:List Per) (h i:Int):=Jsd a b∧Jqe c d e f g h i
def Kve (a:Nat×Int) (b:List Out) (c:Bt) (d:Int) (e:List Sta) (f:Nat×Int):=Kih a b c d e∧List.length b-a.1<List.length b-f.1
theorem K4j [Sx.Dr]:Ok Tryz.prog 91 Kqf:=okW W46 Tryz.f91 (fun xx=>Xr (J5o xx.1.1 xx.1.2.1 xx.1.2.2.1 xx.1.2.2.2.1 xx.1.2.2.2.2.1 xx.1.2.2.2.2.2.1 xx.1.2.2.2.2.2.2 xx.2.1 xx.2.2.1)) fun xx=>by
 obtain⟨⟨(tk:Int),(st:Int),(S:List Sta),(O:List Ord),(M:List Met),(X:List Out),(Q:List Per)⟩,(s:ByteArray),(h:Int),_⟩:=xx
 refine(by kernel_rfl:(Jw tk st S O M X Q→Z21 S s→(Z58 S∧Z21 S s)∧∃(x:Nat×Int),Sf s (Si h ((Hm S s).2.1=x.2∧Si (Ln X) (Jx8 x S O M X Q tk st)))∧Kih x X s h S∧∀(x:Nat×Int),Kih x X s h S→Br (decide (Nc x.1<Ln X)) (Tw (Bd (Nc x.1) (Ln X))∧Br (Jzc ((List.getD X x.1 Jdd).1,(J86 X x).1,Kkx X x,J82 X x) s h) (Z37 x∧∃(y:Nat×Int),Sf s (Si h (min x.2 (J82 X x)=y.2∧Si (Ln X) (Jqd x y S O M X Q tk st)))∧Kve y X s h S x) (Z37 x∧∃(y:Nat×Int),Sf s (Si h (x.2=y.2∧Si (Ln X) (Jqd x y S O M X Q tk st)))∧Kve y X s h S x)) ((Jw tk st S O M X Q∧Iw (x.2-Vb O s h))∧x.2-Vb O s h=Xn S O X s h))=_).mp ?_
 delta Z21 Z37 Z58 Z63 Jsd Jw Jdd J86 J82 Kkx Jqe Kih Jx8 Jqd Kve Br Iw Bd Tw Sf Si Ln Nc B0 E2
 intro hr hf
 have hX:∀x∈X,Joh S x:=hr.out
 have nO:O.length≤32:=hr.nO
 have nX:X.length≤16:=hr.nX
 have nS:S.length≤6:=hr.nS
 have hs:=Jij hr.sta hf
 have hl:=Jjd (s:=s) (h:=h) hr.ord
 refine⟨⟨by omega,hf⟩,((0:Nat),(Hm S s).2.1),⟨rfl,rfl,rfl,rfl,rfl,rfl,rfl,rfl,rfl,rfl,rfl,rfl⟩,⟨Nat.zero_le _, ?_,hs.lim.2,by simp⟩,fun(x:Nat×Int) hk=>⟨fun h1=> ?_,fun h1=> ?_⟩⟩
 ·have:=hs.lim.1
  show 0≤(Hm S s).2.1
  simp only at this
  omega
 ·obtain⟨k,n⟩:=x
  have hlt:k<X.length:=by simpa using h1
  have ho:=(hX _ (Jc (d:=Jbd) hlt)).rest
  dsimp only at hk⊢
  obtain⟨k1,k2,k3,k4⟩:=hk
  rw[Jq (d:=Jbd) hlt,Jgr] at k4
  refine⟨⟨by omega,by omega⟩,fun h2=> ?_,fun h2=> ?_⟩
  ·have h3:Jzc (X.getD k Jbd) s h=true:=h2
   rw[h3,cond_true] at k4
   exact⟨⟨by omega,by omega⟩,(k+1,min n (X.getD k Jbd).2.2.2),⟨rfl,rfl,rfl,rfl,by simp,rfl,rfl,rfl,rfl,rfl,rfl,rfl⟩,⟨by simp only;omega,by simp only;omega,by simp only;omega,k4⟩,by simp only;omega⟩
  ·have h3:Jzc (X.getD k Jbd) s h=false:=h2
   rw[h3,cond_false] at k4
   exact⟨⟨by omega,by omega⟩,(k+1,n),⟨rfl,rfl,rfl,rfl,by simp,rfl,rfl,rfl,rfl,rfl,rfl,rfl⟩,⟨by simp only;omega,by simp only;omega,by simp only;omega,k4⟩,by simp only;omega⟩
 ·obtain⟨k,n⟩:=x
  have hlt:¬k<X.length:=by simpa using h1
  simp only at hk
  have:k=X.length:=by omega
  rw[this,List.drop_length,Jgr] at hk
  unfold Xn
  have hl2:Vb O s h≤1000*(O.length:Int):=hl.2
  have hl1:0≤Vb O s h:=hl.1
  refine⟨⟨hr, ?_, ?_⟩, ?_⟩
  ·show _≤n-_;omega
  ·show n-_≤_;omega
  ·show n-_=_;omega
abbrev W47 [Sx.Dr]:=W46.add K4j
def Vi (r:Reg) (w:Int) (s:ByteArray):Bool:=bif w==0 then decide (0≤Jy r.2.2.1 s) else bif w==1 then decide (0≤Kw r.2.2.2.1 s) else bif w==2 then decide (0≤J7 r.2.2.2.2.2.1 s) else bif w==3 then decide (0≤Uy r.2.2.2.2.2.2 s) else true
def K6a:Con:={args:=[Jbf,aI,aS],ress:=[Bo],owns:=[],pre:=fun(r,_)=>[Jl r],spec:=fun(r,w,s,_)=>(Vi r w s,())}
theorem K4w [Sx.Dr]:Ok Tryz.prog 76 K6a:=okW W47 Tryz.f76 na fun xx=>by
 obtain⟨⟨(tk:Int),(st:Int),(S:List Sta),(O:List Ord),(M:List Met),(X:List Out),(Q:List Per)⟩,(w:Int),(s:ByteArray),_⟩:=xx
 refine(by kernel_rfl:(Jw tk st S O M X Q→Br (w==0) (Z58 S∧decide (0≤Jy S s)=Vi (Z63 tk st S O M X Q) w s) (Br (w==1) (Z53 O∧decide (0≤Kw O s)=Vi (Z63 tk st S O M X Q) w s) (Br (w==2) (Z48 X∧decide (0≤J7 X s)=Vi (Z63 tk st S O M X Q) w s) (Br (w==3) (Z52 Q∧decide (0≤Uy Q s)=Vi (Z63 tk st S O M X Q) w s) (true=Vi (Z63 tk st S O M X Q) w s)))))=_).mp ?_
 delta Z48 Z52 Z53 Z58 Z63 Jw Br
 intro hr
 have nS:S.length≤6:=hr.nS
 have nO:O.length≤32:=hr.nO
 have nX:X.length≤16:=hr.nX
 have nQ:Q.length≤16:=hr.nQ
 unfold Vi
 refine⟨fun h=> ?_,fun h=> ?_⟩
 ·rw[h];exact⟨by omega,rfl⟩
 rw[h]
 refine⟨fun h=> ?_,fun h=> ?_⟩
 ·rw[h];exact⟨by omega,rfl⟩
 rw[h]
 refine⟨fun h=> ?_,fun h=> ?_⟩
 ·rw[h];exact⟨by omega,rfl⟩
 rw[h]
 refine⟨fun h=> ?_,fun h=> ?_⟩
 ·rw[h];exact⟨by omega,rfl⟩
 rw[h];rfl
abbrev W48 [Sx.Dr]:=W47.add K4w
def Ji9:Met:=(Ja,0,0,0)
def K59:Con:={args:=[.val true Dx, .ref 9 .str, .ref 3 sI],ress:=[Bo],owns:=[],pre:=fun _=>[],spec:=fun(x,s,h,_)=>(bif x.1.toList==s.toList then x.2.1==h else false,())}
theorem Ko4 [Sx.Dr]:Ok Tryz.prog 142 K59:=okW W48 Tryz.f142 na fun xx=>by
 obtain⟨⟨(a:ByteArray),(b:Int),(c:Int),(d:Int)⟩,(s:ByteArray),(h:Int),_⟩:=xx
 refine(by kernel_rfl:((Lb a s&&(b==h&&(c==c&&(d==d&&true))))=bif Lb a s then b==h else false)=_).mp ?_
 delta Lb
 cases a.toList==s.toList<;>cases b==h<;>simp
abbrev W49 [Sx.Dr]:=W48.add Ko4
def Js1:=(B0,Z65)
def Kfl (a:List Met) (b:Nat):=List.getD a b Js1
def Kfj (a:List Met) (b:Nat):=(Kfl a b).2
def Kiw (a:Nat) (b:List Met) (c:Met×Unit→Bool):=a≤List.length b∧Vs (fun(x:Met)=>c (x,PUnit.unit)) b 0=Vs (fun(x:Met)=>c (x,PUnit.unit)) (List.drop a b) a
def Khj (a:List Met) (b:Nat):=((Kfl a b).1,(Kfj a b).1,E2 (Kfj a b).2)
def Kvh (a:List Met) (b:Nat):=(Khj a b,PUnit.unit)
theorem Ko5 [Sx.Dr]:Ok Tryz.prog 141 (Kbm 155 Dx true):=okW W49 Tryz.f141 (fun xx=>Xr (Jl8 155 Dx true xx.1 xx.2.1.1 xx.2.1.2)) fun xx=>by
 obtain⟨(l:List Met),⟨(q:Met×Unit→List Prop),(f:Met×Unit→Bool)⟩,_⟩:=xx
 refine(by kernel_rfl:(List.length l≤1000000→(∀(x:Met),x∈l→Uq (q (x,PUnit.unit)))→∃(x:Nat),Si (Ln l) (0=Nc x∧Sf l ((fun(x:Met×PUnit)=>q x)=q∧(fun(x:Met×PUnit)=>f x)=f))∧Kiw x l f∧∀(x:Nat),Kiw x l f→Br (decide (Nc x<Ln l)) (T2 (Bd (Nc x) (Ln l)) (Uq (q (Kvh l x)))∧Br (f (Kvh l x)) (Nc x=Vs (fun(x:Met)=>f (x,PUnit.unit)) l 0) (Z16 x∧∃(y:Nat),Si (Ln l) (Z82 x y∧Sf l ((fun(x:Met×PUnit)=>q x)=q∧(fun(x:Met×PUnit)=>f x)=f))∧Kiw y l f∧List.length l-y<List.length l-x)) (Z64=Vs (fun(x:Met)=>f (x,PUnit.unit)) l 0))=_).mp ?_
 delta Z16 Z64 Z65 Z82 Js1 Kfl Kfj Kiw Khj Kvh Br Iw Bd T2 Sf Si Ln Nc B0 E2
 intro hb hq
 refine⟨(0:Nat),⟨rfl,rfl,rfl,rfl,rfl⟩,⟨Nat.zero_le _,rfl⟩,fun(k:Nat) hk=>⟨fun h=> ?_,fun h=> ?_⟩⟩
 ·have hlt:k<l.length:=by simpa using h
  have hd:=Yc (p:=fun x=>f (x,())) (d:=Ji9) hlt
  refine⟨⟨by omega,by omega,hq (l.getD k Ji9) (Jc hlt)⟩,fun h1=> ?_,fun h1=>⟨by omega,(k+1:Nat),⟨rfl,rfl,rfl,by simp,rfl⟩,⟨by omega, ?_⟩,by omega⟩⟩
  ·rw[hk.2,hd,if_pos (show f (l.getD k Ji9,())=true from h1)]
  ·rw[hk.2,hd,if_neg (by rw[show f (l.getD k Ji9,())=false from h1];simp)]
 ·have hlt:¬k<l.length:=by simpa using h
  have:k=l.length:=by omega
  rw[hk.2,this,List.drop_length];rfl
abbrev W50 [Sx.Dr]:=W49.add Ko5
def Kbb:Con:={args:=[Jbf,aS,aI],ress:=[I],owns:=[],pre:=fun(r,_)=>[Jl r],spec:=fun((_,_,_,_,M,_),s,h,_)=>(Kz M s h,())}
theorem K4y [Sx.Dr]:Ok Tryz.prog 73 Kbb:=okW W50 Tryz.f73 na fun xx=>by
 obtain⟨⟨(tk:Int),(st:Int),(S:List Sta),(O:List Ord),(M:List Met),(X:List Out),(Q:List Per)⟩,(s:ByteArray),(h:Int),_⟩:=xx
 refine(by kernel_rfl:(Jw tk st S O M X Q→(List.length M≤1000000∧∀(x:Met),x∈M→True)∧Vs (fun(x:Met)=>match Lb x.1 s with|true=>x.2.1==h|false=>false) M 0=Kz M s h)=_).mp ?_
 delta Z63 Jw Lb
 intro hr
 have nM:M.length≤10000:=hr.nM
 exact⟨⟨by omega,fun _ _=>trivial⟩,rfl⟩
abbrev W51 [Sx.Dr]:=W50.add K4y
def Vx (e:Ev):Int×Int:=(e.2.2.2.1.getD 1 0,e.2.2.2.1.getD 2 0)
def Kqd:Con:={args:=[aEv],ress:=[(true,Hv)],owns:=[],pre:=fun(e,_)=>[3≤e.2.2.2.1.length],spec:=fun(e,_)=>(Vx e,())}
def Z28 (a:Li):=Bd 1 (Ln a)
def Z30 (a:Li):=Bd 2 (Ln a)
def Z56 (a:Int) (b:Bt) (c:Ls) (d:Li) (e:Bt):=Vx (a,b,c,d,e)
def Z59 (a:Li):=3≤List.length a
def Z88 (a:Li):=List.getD a 1 0
def Z95 (a:Li):=List.getD a 2 0
def J83 (a:Li):=T2 (Z28 a) (Tw (Z30 a))
def J80 (a:Li):=(Z88 a,Z95 a)
theorem Km5 [Sx.Dr]:Ok Tryz.prog 238 Kqd:=okW W51 Tryz.f238 na fun xx=>by
 obtain⟨⟨(n:Int),(k:ByteArray),(ns:List ByteArray),(vs:List Int),(t:ByteArray)⟩,_⟩:=xx
 refine(by kernel_rfl:(Z59 vs→J83 vs∧J80 vs=Z56 n k ns vs t)=_).mp ?_
 delta Z28 Z30 Z56 Z59 Z88 Z95 J83 J80 Bd T2 Tw Ln
 intro h
 exact⟨⟨⟨by omega,by omega⟩,⟨by omega,by omega⟩,⟨by omega,by omega⟩,⟨by omega,by omega⟩⟩,rfl⟩
abbrev W52 [Sx.Dr]:=W51.add Km5
abbrev EvV (e:Ev):Prop:=∀v∈e.2.2.2.1,0≤v∧v≤999999999
def Ze (e:Ev):Int:=bif (bif (bif decide ((Vx e).1<e.2.2.2.1.getD 0 0) then true else decide ((Vx e).2≤(Vx e).1)) then true else decide (48<(Vx e).2-(Vx e).1)) then 14 else 0
def J0b:Con:={args:=[aEv],ress:=[I],owns:=[],pre:=fun(e,_)=>[3≤e.2.2.2.1.length,EvV e],spec:=fun(e,_)=>(Ze e,())}
def Z24 (a:Li):=Bd 0 (Ln a)
def U2 (a:Li):=List.getD a 0 0
def Kwk (a:Int) (b:Bt) (c:Ls) (d:Li) (e:Bt):=bif decide ((Z56 a b c d e).1<U2 d) then true else decide ((Z56 a b c d e).2≤(Z56 a b c d e).1)
theorem Km7 [Sx.Dr]:Ok Tryz.prog 236 J0b:=okW W52 Tryz.f236 na fun xx=>by
 obtain⟨⟨(n:Int),(k:ByteArray),(ns:List ByteArray),(vs:List Int),(t:ByteArray)⟩,_⟩:=xx
 refine(by kernel_rfl:(Z59 vs→EvV (n,k,ns,vs,t)→Z59 vs∧T2 (Z24 vs) (Kwk n k ns vs t=false→Iw ((Z56 n k ns vs t).2-(Z56 n k ns vs t).1))∧(bif bif Kwk n k ns vs t then true else decide (48<(Z56 n k ns vs t).2-(Z56 n k ns vs t).1) then 14 else 0)=Ze (n,k,ns,vs,t))=_).mp ?_
 delta Z24 Z56 Z59 U2 Kwk Iw Bd T2 Ln
 intro h hv
 refine⟨h,⟨⟨by omega,by omega⟩,⟨by omega,by omega⟩,fun _=> ?_⟩,rfl⟩
 have h1:=hv (vs.getD 1 0) (Jc (show 1<vs.length by omega))
 have h2:=hv (vs.getD 2 0) (Jc (show 2<vs.length by omega))
 unfold Vx
 simp only
 omega
abbrev W53 [Sx.Dr]:=W52.add Km7
abbrev Gap:=ByteArray×Int
abbrev J3t:Sch:= .prod .str sI
def L0 (M:List Met) (u:Int) (x:Ord):Int→Nat→List Gap
 |_,0=>[]
 |h,n+1=>(bif Jr x h&&(decide (h<u)&&decide (Kz M x.1 h<0)) then[(x.1,h)] else[])++L0 M u x (h+1) n
def Jur (M:List Met) (u:Int) (x:Ord):List Gap:=L0 M u x x.2.2.2.1.1 (x.2.2.2.1.2-x.2.2.2.1.1).toNat
def Ko (M:List Met) (u:Int):List Ord→List Gap
 |[]=>[]
 |x::l=>Jur M u x++Ko M u l
def Kqn:Con:={args:=[Jbf,aI],ress:=[(false, .list 200 J3t)],owns:=[true],pre:=fun(r,_)=>[Jl r],spec:=fun((_,_,_,O,M,_),u,_)=>(Ko M u O,())}
abbrev J5t (tk st:Int) (S:List Sta) (O:List Ord) (M:List Met) (X:List Out) (Q:List Per) (u:Int):Ann:={X:=Nat×List Gap,σ:=fun(k,o)=>⟨9,[(2, .one (.ptr 5 0)),(3, .one (.ptr 6 0)),(5, .one (.ptr 7 0)),(10, .one (.sl 1)),(11, .one (.int .i64 O.length)),(12, .one (.int .i64 k))],[(0, .imm 127 Dk S),(1, .imm 130 Hk O),(2, .imm 155 Dx M),(3, .imm 188 X6 X),(4, .imm 235 Zy Q),(5, .box 105 [.int .i64 tk, .int .i64 st, .sl 0, .sl 1, .sl 2, .sl 3, .sl 4]),(6, .box 3 [.int .i64 u]),(7, .box 50 [.sl 8]),(8, .own 200 J3t o)]⟩,inv:=fun(k,o)=>k≤O.length∧o.length≤48*k∧o++Ko M u (O.drop k)=Ko M u O,mu:=fun(k,_)=>O.length-k}
abbrev bxO (x:Ord):List SC:=[.str x.1, .str x.2.1, .str x.2.2.1, .int .i64 x.2.2.2.1.1, .int .i64 x.2.2.2.1.2, .int .i64 x.2.2.2.2.1, .int .i64 x.2.2.2.2.2.1, .int .i64 x.2.2.2.2.2.2]
def Ur (x:Ord):Nat:=(x.2.2.2.1.2-x.2.2.2.1.1).toNat
abbrev J0r (tk st:Int) (S:List Sta) (O:List Ord) (M:List Met) (X:List Out) (Q:List Per) (u:Int):Ann:={X:=Nat×List Gap×Nat,σ:=fun(k,o,j)=>⟨16,[(0, .one (.fv 13)),(1, .one (.ptr 11 0)),(3, .one (.int .i64 ((O.getD k Ki).2.2.2.1.1+j)))],[(0, .imm 127 Dk S),(1, .imm 130 Hk O),(2, .imm 155 Dx M),(3, .imm 188 X6 X),(4, .imm 235 Zy Q),(5, .box 105 [.int .i64 tk, .int .i64 st, .sl 0, .sl 1, .sl 2, .sl 3, .sl 4]),(6, .box 3 [.int .i64 u]),(7, .box 50 [.sl 15]),(9, .box 130 (bxO (O.getD k Ki))),(11, .box 130 (bxO (O.getD k Ki))),(13, .yld .ready),(14, .sus [(2, .one (.ptr 5 0)),(3, .one (.ptr 6 0)),(5, .one (.ptr 7 0)),(7, .one (.ptr 9 0)),(10, .one (.sl 1)),(11, .one (.int .i64 O.length)),(12, .one (.int .i64 k))]),(15, .own 200 J3t o)]⟩,inv:=fun(k,o,j)=>Jl (tk,st,S,O,M,X,Q)∧k<O.length∧j≤Ur (O.getD k Ki)∧o.length≤48*k+j∧o++(L0 M u (O.getD k Ki) ((O.getD k Ki).2.2.2.1.1+j) (Ur (O.getD k Ki)-j)++Ko M u (O.drop (k+1)))=Ko M u O,mu:=fun(k,_,j)=>Ur (O.getD k Ki)-j,rel:=some fun x y=>y.1=x.1}
theorem Jwl (a b:Bool):(bif a then b else false)=(a&&b):=by cases a<;>rfl
def Z1 (a:List Ord) (b:Nat×List Gap×Nat):=List.getD a b.1 Ki
def Z4 (a:List Ord) (b:Nat×List (Bt×Int)×Nat):=List.getD a b.1 Ki
def Z73 (a:List Ord) (b:Nat×List Gap×Nat):=(Z1 a b).2.2.2.1
def Z75 (a:List Ord) (b:Nat×List (Bt×Int)×Nat):=(Z4 a b).2.2.2.1
def Z76 (a:List Ord) (b:Nat×List Gap×Nat):=(Z1 a b).2.2.2.2
def Z81 (a:List Ord) (b:Nat×List (Bt×Int)×Nat):=(Z4 a b).2.2.2.2
def Jye (a:List Ord) (b:Nat×List Gap×Nat):=(Z73 a b).1+Nc b.2.2
def J6n (a:List Ord) (b:Nat×List Gap×Nat) (c:Nat×List (Bt×Int)×Nat):=(Z1 a b).1=(Z4 a c).1
def J6l (a:List Ord) (b:Nat×List Gap×Nat) (c:Nat×List (Bt×Int)×Nat):=(Z1 a b).2.1=(Z4 a c).2.1
def J85 (a:List Ord) (b:Nat×List Gap×Nat) (c:Int):=decide (Jye a b<c)
def J6k (a:List Ord) (b:Nat×List Gap×Nat) (c:Nat×List (Bt×Int)×Nat):=(Z1 a b).2.2.1=(Z4 a c).2.2.1
def J8z (a:List Ord) (b:Nat×List Gap×Nat):=Iw (Jye a b+1)
def J6h (a:List Ord) (b:Nat×List Gap×Nat) (c:Nat×List (Bt×Int)×Nat):=(Z73 a b).2=(Z75 a c).2
def J6g (a:List Ord) (b:Nat×List Gap×Nat) (c:Nat×List (Bt×Int)×Nat):=(Z76 a b).1=(Z81 a c).1
def J6f (a:List Ord) (b:Nat×List Gap×Nat) (c:Nat×List (Bt×Int)×Nat):=(Z73 a b).1=(Z75 a c).1
def J6d (a:List Ord) (b:Nat×List Gap×Nat) (c:Nat×List (Bt×Int)×Nat):=(Z76 a b).2.1=(Z81 a c).2.1
def J6c (a:List Ord) (b:Nat×List Gap×Nat) (c:Nat×List (Bt×Int)×Nat):=(Z76 a b).2.2=(Z81 a c).2.2
def Kk3 (a:Nat×List Gap×Nat):=(List.length a.2.1+1)*24≤140737488355328
def Kkk (a:List Ord) (b:Nat×List Gap):=List.getD a b.1 Jc3
def Kke (a:List Ord) (b:Nat×List Gap):=(Kkk a b).2
def Kkc (a:List Ord) (b:Nat×List Gap):=(Kke a b).2
def Kj9 (a:List Ord) (b:Nat×List Gap):=(Kkc a b).2
def Kj8 (a:List Ord) (b:Nat×List Gap×Nat):=decide (Jye a b<(Z73 a b).2)
def Kj4 (a:List Ord) (b:Nat×List Gap):=(Kj9 a b).2
def Kj2 (a:List Ord) (b:Nat×List Gap):=(Kj9 a b).1
def Kjz (a:List Ord) (b:Nat×List Gap):=(Kj2 a b).1
def Kjx (a:List Ord) (b:Nat×List Gap):=(Kj4 a b).2
def J8p (a:List Ord) (b:Nat×List Gap×Nat) (c:Nat×List (Bt×Int)×Nat):=Jye a b+1=(Z75 a c).1+Nc c.2.2
def Ki8 (a:Nat×List Gap×Nat) (b:List Ord):=a.2.1++[((Z1 b a).1,Jye b a)]
def Keu (a:List Ord) (b:Nat×List Gap) (c:Nat×List (Bt×Int)×Nat):=(Kkk a b).1=(Z4 a c).1
def Ket (a:List Ord) (b:Nat×List Gap) (c:Nat×List (Bt×Int)×Nat):=(Kke a b).1=(Z4 a c).2.1
def Ki3 (a:Nat×List Gap×Nat) (b:List Ord) (c:Nat×List (Bt×Int)×Nat):=Ki8 a b=c.2.1
def Kej (a:List Ord) (b:Nat×List Gap) (c:Nat×List (Bt×Int)×Nat):=(Kkc a b).1=(Z4 a c).2.2.1
def Kei (a:Nat×List (Bt×Int)) (b:List Ord) (c:List Met) (d:Int):=a.1≤List.length b∧List.length a.2≤48*a.1∧a.2++Ko c d (List.drop a.1 b)=Ko c d b
def Kiq (a:Nat×List Gap) (b:List Ord) (c:List Met) (d:Int):=a.1≤List.length b∧List.length a.2≤48*a.1∧a.2++Ko c d (List.drop a.1 b)=Ko c d b
def Keg (a:List Ord) (b:Nat×List Gap) (c:Nat×List (Bt×Int)×Nat):=Kjz a b=(Z75 a c).1
def Kef (a:List Ord) (b:Nat×List Gap) (c:Nat×List (Bt×Int)×Nat):=(Kj2 a b).2=(Z75 a c).2
def Kee (a:List Ord) (b:Nat×List Gap) (c:Nat×List (Bt×Int)×Nat):=(Kj4 a b).1=(Z81 a c).1
def Kea (a:List Ord) (b:Nat×List Gap) (c:Nat×List (Bt×Int)×Nat):=(Kjx a b).1=(Z81 a c).2.1
def Kd9 (a:List Ord) (b:Nat×List Gap) (c:Nat×List (Bt×Int)×Nat):=(Kjx a b).2=(Z81 a c).2.2
def Kh5 (a:List Ord) (b:Nat×List Gap) (c:Nat×List (Bt×Int)×Nat):=Kjz a b=(Z75 a c).1+Nc c.2.2
def Kdl (a:Nat×List (Bt×Int)) (b:List Ord) (c:List Met) (d:Int) (e:Nat×List Gap):=Kei a b c d∧List.length b-a.1<List.length b-e.1
def Kgx (a:List Ord) (b:Nat×List Gap×Nat):=Jr ((Z1 a b).1,(Z1 a b).2.1,(Z1 a b).2.2.1,E2 (Z73 a b),(Z76 a b).1,E2 (Z76 a b).2) (Jye a b)
def Kgs (a:Nat×List Gap×Nat) (b:List Ord) (c:List Met) (d:Int):=a.1<List.length b∧a.2.2≤Ur (List.getD b a.1 Ki)∧List.length a.2.1≤48*a.1+a.2.2∧a.2.1++(L0 c d (List.getD b a.1 Ki) ((List.getD b a.1 Ki).2.2.2.1.1+Nc a.2.2) (Ur (List.getD b a.1 Ki)-a.2.2)++Ko c d (List.drop (a.1+1) b))=Ko c d b
def Kc9 (a:Nat×List (Bt×Int)×Nat) (b:List Ord) (c:List Met) (d:Int):=a.1<List.length b∧a.2.2≤Ur (List.getD b a.1 Ki)∧List.length a.2.1≤48*a.1+a.2.2∧a.2.1++(L0 c d (List.getD b a.1 Ki) ((List.getD b a.1 Ki).2.2.2.1.1+Nc a.2.2) (Ur (List.getD b a.1 Ki)-a.2.2)++Ko c d (List.drop (a.1+1) b))=Ko c d b
def Kto (a b:Int) (c:List Sta) (d:List Ord) (e:List Met) (f:List Out) (g:List Per) (h:Nat×List (Bt×Int)×Nat) (i:Int):=Jw a b c d e f g∧Kc9 h d e i
def Kta (a:Nat×List Gap×Nat) (b:List Ord) (c:List Sta) (d:List Met) (e:List Out) (f:List Per) (g h i:Int) (j:Nat×List Gap):=Iw (Nc a.1+1)∧∃(y:Nat×List (ByteArray×Int)),Si (Ln b) (Nc a.1+1=Nc y.1∧Sf c (Sf b (Sf d (Sf e (Sf f (Si g (Si h (Si i (a.2.1=y.2)))))))))∧Kdl y b d i j
def Ks8 (a b:Int) (c:List Sta) (d:List Ord) (e:List Met) (f:List Out) (g:List Per) (h:Nat×List (Bt×Int)×Nat) (i:Int) (j:Nat×List (Bt×Int)×Nat) (k:Nat×List Gap×Nat):=(Kto a b c d e f g h i∧h.1=j.1)∧Ur (List.getD d h.1 Ki)-h.2.2<Ur (List.getD d k.1 Ki)-k.2.2
def J62 (a:Nat×List Gap×Nat) (b:List Ord) (c:List Sta) (d:List Met) (e:List Out) (f:List Per) (g h i:Int) (j:Nat×List Gap) (k:Nat×List (Bt×Int)×Nat):=Br false (Kta a b c d e f g h i j) (J8z b a∧∃(y:Nat×List (ByteArray×Int)×Nat),(J8p b a y∧Sf c (Sf b (Sf d (Sf e (Sf f (Si g (Si h (Si i (J6n b a y∧J6l b a y∧J6k b a y∧J6f b a y∧J6h b a y∧J6g b a y∧J6d b a y∧J6c b a y∧J6n b a y∧J6l b a y∧J6k b a y∧J6f b a y∧J6h b a y∧J6g b a y∧J6d b a y∧J6c b a y∧Si (Ln b) (Nc a.1=Nc y.1∧a.2.1=y.2.1))))))))))∧Ks8 g h c b d e f y i k a)
theorem K4i [Sx.Dr]:Ok Tryz.prog 92 Kqn:=Jzd W53 Tryz.f92 (U1 (l:=([(178,Tryz.f178),(247,Tryz.f247)]:List (Nat×Func))) (List.forall_mem_cons.2 ⟨by kernel_rfl,List.forall_mem_cons.2 ⟨by kernel_rfl,by simp⟩⟩)) (fun xx=>Xr (J5t xx.1.1 xx.1.2.1 xx.1.2.2.1 xx.1.2.2.2.1 xx.1.2.2.2.2.1 xx.1.2.2.2.2.2.1 xx.1.2.2.2.2.2.2 xx.2.1)) (fun xx=>fun f id=>if f=247 then some (J0r xx.1.1 xx.1.2.1 xx.1.2.2.1 xx.1.2.2.2.1 xx.1.2.2.2.2.1 xx.1.2.2.2.2.2.1 xx.1.2.2.2.2.2.2 xx.2.1) else none) fun xx=>by
 obtain⟨⟨(tk:Int),(st:Int),(S:List Sta),(O:List Ord),(M:List Met),(X:List Out),(Q:List Per)⟩,(u:Int),_⟩:=xx
 refine(by kernel_rfl:(Jw tk st S O M X Q→∃(x:Nat×List (ByteArray×Int)),Si (Ln O) (0=Nc x.1∧Sf S (Sf O (Sf M (Sf X (Sf Q (Si tk (Si st (Si u (List.length x.2=0)))))))))∧Kei x O M u∧∀(x:Nat×List Gap),Kiq x O M u→Br (decide (Nc x.1<Ln O)) (Tw (Bd (Nc x.1) (Ln O))∧∃(x0:Nat×List (ByteArray×Int)×Nat),(Kh5 O x x0∧Sf S (Sf O (Sf M (Sf X (Sf Q (Si tk (Si st (Si u (Keu O x x0∧Ket O x x0∧Kej O x x0∧Keg O x x0∧Kef O x x0∧Kee O x x0∧Kea O x x0∧Kd9 O x x0∧Keu O x x0∧Ket O x x0∧Kej O x x0∧Keg O x x0∧Kef O x x0∧Kee O x x0∧Kea O x x0∧Kd9 O x x0∧Si (Ln O) (Nc x.1=Nc x0.1∧x.2=x0.2.1))))))))))∧(Kto tk st S O M X Q x0 u∧x0.1=x0.1)∧∀(x_1:Nat×List Gap×Nat),(Jw tk st S O M X Q∧Kgs x_1 O M u)∧x_1.1=x0.1→Br (Kj8 O x_1) (Br (Kgx O x_1) ((J85 O x_1 u=true→Jw tk st S O M X Q)∧Br (bif J85 O x_1 u then decide (Kz M (Z1 O x_1).1 (Jye O x_1)<0) else false) (Kk3 x_1∧Br false (Iw (Nc x_1.1+1)∧∃(y:Nat×List (ByteArray×Int)),Si (Ln O) (Nc x_1.1+1=Nc y.1∧Sf S (Sf O (Sf M (Sf X (Sf Q (Si tk (Si st (Si u (Ki8 x_1 O=y.2)))))))))∧Kdl y O M u x) (J8z O x_1∧∃(y:Nat×List (ByteArray×Int)×Nat),(J8p O x_1 y∧Sf S (Sf O (Sf M (Sf X (Sf Q (Si tk (Si st (Si u (J6n O x_1 y∧J6l O x_1 y∧J6k O x_1 y∧J6f O x_1 y∧J6h O x_1 y∧J6g O x_1 y∧J6d O x_1 y∧J6c O x_1 y∧J6n O x_1 y∧J6l O x_1 y∧J6k O x_1 y∧J6f O x_1 y∧J6h O x_1 y∧J6g O x_1 y∧J6d O x_1 y∧J6c O x_1 y∧Si (Ln O) (Nc x_1.1=Nc y.1∧Ki3 x_1 O y))))))))))∧Ks8 tk st S O M X Q y u x0 x_1)) (J62 x_1 O S M X Q tk st u x x0)) (J62 x_1 O S M X Q tk st u x x0)) (Kta x_1 O S M X Q tk st u x)) (Sf true (x.2=Ko M u O)))=_).mp ?_
 delta Z1 Z4 Z63 Z65 Z73 Z75 Z76 Z81 Jw Jye J6n J6l J85 J6k J8z Jc3 J6h J6g J6f J6d J6c Kk3 Kkk Kke Kkc Kj9 Kj8 Kj4 Kj2 Kjz Kjx J8p Ki8 Keu Ket Ki3 Kej Kei Kiq Keg Kef Kee Kea Kd9 Kh5 Kdl Kgx Kgs Kc9 Kto Kta Ks8 J62 Br Iw Bd Tw Sf Si Ln Nc B0 E2
 intro hr
 have nO:O.length≤32:=hr.nO
 refine⟨((0:Nat),[]),by(repeat' first|exact rfl|apply And.intro|exact(Int.add_zero _).symm|omega|dsimp only;omega),⟨Nat.zero_le _,Nat.zero_le _,rfl⟩,fun(x:Nat×List Gap) hk=>⟨fun h1=> ?_,fun h1=> ?_⟩⟩
 ·obtain⟨k,o⟩:=x
  have hlt:k<O.length:=by simpa using h1
  obtain⟨k1,k2,k3⟩:=hk
  dsimp only at k1 k2 k3
  rw[Jq (d:=Ki) hlt,Ko,Jur] at k3
  refine⟨⟨⟨by dsimp only;omega,by dsimp only;omega⟩,by dsimp only;omega,by dsimp only;omega⟩,(k,o,(0:Nat)), ?_,⟨⟨hr,hlt,Nat.zero_le _,by simpa using k2, ?_⟩,rfl⟩,fun(y:Nat×List Gap×Nat) hy=> ?_⟩
  ·repeat' first|exact rfl|apply And.intro|exact(Int.add_zero _).symm|omega|dsimp only;omega
  ·simpa[Ur] using k3
  obtain⟨k',o,j⟩:=y
  obtain⟨⟨_,i1,i2,i3,i4⟩,hkk⟩:=hy
  have hkk:k'=k:=hkk
  subst hkk
  dsimp only at i1 i2 i3 i4
  have ho:Jmd (O.getD k' Ki).2.2.2.1:=(hr.ord (O.getD k' Ki) (Jc hlt)).span
  have hn:Ur (O.getD k' Ki)≤48∧(Ur (O.getD k' Ki):Int)=(O.getD k' Ki).2.2.2.1.2-(O.getD k' Ki).2.2.2.1.1:=by
   have:=ho.mid;have:=ho.len
   unfold Ur
   constructor<;>omega
  have b1:=ho.lo
  have b2:=ho.hi
  refine⟨fun h2=> ?_,fun h2=> ?_⟩
  ·have h2:(O.getD k' Ki).2.2.2.1.1+(j:Int)<(O.getD k' Ki).2.2.2.1.2:=of_decide_eq_true h2
   have hj:Ur (O.getD k' Ki)-j=(Ur (O.getD k' Ki)-(j+1))+1:=by omega
   rw[hj,L0] at i4
   have hB: -9223372036854775808≤(O.getD k' Ki).2.2.2.1.1+(j:Int)+1∧(O.getD k' Ki).2.2.2.1.1+(j:Int)+1≤9223372036854775807:=by omega
   have hc:(O.getD k' Ki).2.2.2.1.1+(j:Int)+1=(O.getD k' Ki).2.2.2.1.1+((j+1:Nat):Int):=by omega
   refine⟨fun h3=>⟨fun _=>hr,fun h4=>⟨by dsimp only;omega,fun f=>(by cases f),fun _=>⟨hB,(k',o++[((O.getD k' Ki).1,(O.getD k' Ki).2.2.2.1.1+(j:Int))],j+1), ?_,⟨⟨hr,hlt,by dsimp only;omega,by simp;omega, ?_⟩,rfl⟩,by dsimp only;omega⟩⟩,fun h4=>⟨fun f=>(by cases f),fun _=>⟨hB,(k',o,j+1), ?_,⟨⟨hr,hlt,by dsimp only;omega,by dsimp only;omega, ?_⟩,rfl⟩,by dsimp only;omega⟩⟩⟩,fun h3=>⟨fun f=>(by cases f),fun _=>⟨hB,(k',o,j+1), ?_,⟨⟨hr,hlt,by dsimp only;omega,by dsimp only;omega, ?_⟩,rfl⟩,by dsimp only;omega⟩⟩⟩
   ·repeat' first|exact rfl|apply And.intro|exact(Int.add_zero _).symm|omega|dsimp only;omega
   ·have h3:Jr (O.getD k' Ki) ((O.getD k' Ki).2.2.2.1.1+(j:Int))=true:=h3
    have h4:(bif decide ((O.getD k' Ki).2.2.2.1.1+(j:Int)<u) then decide (Kz M (O.getD k' Ki).1 ((O.getD k' Ki).2.2.2.1.1+(j:Int))<0) else false)=true:=h4
    rw[Jwl] at h4
    rw[h3,Bool.true_and,h4,hc] at i4
    rw[←i4]
    simp
   ·repeat' first|exact rfl|apply And.intro|exact(Int.add_zero _).symm|omega|dsimp only;omega
   ·have h3:Jr (O.getD k' Ki) ((O.getD k' Ki).2.2.2.1.1+(j:Int))=true:=h3
    have h4:(bif decide ((O.getD k' Ki).2.2.2.1.1+(j:Int)<u) then decide (Kz M (O.getD k' Ki).1 ((O.getD k' Ki).2.2.2.1.1+(j:Int))<0) else false)=false:=h4
    rw[Jwl] at h4
    rw[h3,Bool.true_and,h4,hc] at i4
    rw[←i4]
    simp
   ·repeat' first|exact rfl|apply And.intro|exact(Int.add_zero _).symm|omega|dsimp only;omega
   ·have h3:Jr (O.getD k' Ki) ((O.getD k' Ki).2.2.2.1.1+(j:Int))=false:=h3
    rw[h3,hc] at i4
    rw[←i4]
    simp
  ·have h2:¬(O.getD k' Ki).2.2.2.1.1+(j:Int)<(O.getD k' Ki).2.2.2.1.2:=of_decide_eq_false h2
   have hj:Ur (O.getD k' Ki)-j=0:=by omega
   rw[hj,L0] at i4
   refine⟨⟨by dsimp only;omega,by dsimp only;omega⟩,(k'+1,o), ?_,⟨by dsimp only;omega,by dsimp only;omega,by simpa using i4⟩,by dsimp only;omega⟩
   repeat' first|exact rfl|apply And.intro|exact(Int.add_zero _).symm|omega|dsimp only;omega
 ·obtain⟨k,o⟩:=x
  have hlt:¬k<O.length:=by simpa using h1
  obtain⟨k1,k2,k3⟩:=hk
  dsimp only at k1 k2 k3
  have:k=O.length:=by omega
  rw[this,List.drop_length,Ko,List.append_nil] at k3
  exact⟨rfl,k3⟩
abbrev W54 [Sx.Dr]:=W53.add K4i
abbrev aE:AK:=aEv
abbrev Jn9 (T U:TypeId) (s:Sch) (l:List s.T) (g:Bool) (q:Tup [(g,s)]→List Prop) (f:Tup [(g,s)]→Bool):Ann:={X:=Nat,σ:=fun k=>⟨3,[(1, .one (.fv 1)),(5, .one (.sl 2)),(8, .one (.sl 0)),(9, .one (.int .i64 l.length)),(10, .one (.int .i64 k))],[(0, .imm T s l),(1, .afn [(g,s)] Bo q f),(2, .own U s ((l.take k).filter fun x=>f (x,())))]⟩,inv:=fun k=>k≤l.length,mu:=fun k=>l.length-k}
def Kbj:Con:={args:=[.val false (.list 235 Zy), .fn [(true,Zy)] Bo],ress:=[(false, .list 235 Zy)],owns:=[true],pre:=fun(l,(q,_),_)=>[l.length≤1000000,∀x∈l,Uq (q (x,()))],spec:=fun(l,(_,f),_)=>(l.filter fun x=>f (x,()),())}
theorem Jfk {α:Type} {p:α→Bool} {l:List α} {k:Nat} (h:k≤l.length):((l.take k).filter p).length≤k:=by
 have:=List.length_filter_le p (l.take k)
 rw[List.length_take] at this
 omega
def J26 (a:Per×Unit→Bool) (b:Nat) (c:List Per):=List.filter (fun(x:Per)=>a (x,PUnit.unit)) (List.take b c)
def Kfc (a:Nat) (b:List Per) (c:Nat):=a≤List.length b∧J03 b a c
theorem Km0 [Sx.Dr]:Ok Tryz.prog 243 Kbj:=okW W54 Tryz.f243 (fun xx=>Xr (Jn9 235 235 Zy xx.1 true xx.2.1.1 xx.2.1.2)) fun xx=>by
 obtain⟨(l:List Per),⟨(q:Per×Unit→List Prop),(f:Per×Unit→Bool)⟩,_⟩:=xx
 refine(by kernel_rfl:(Z52 l→J8t l q→∃(x:Nat),Si (Ln l) (0=Nc x∧Sf l ((fun(x:Per×PUnit)=>q x)=q∧(fun(x:Per×PUnit)=>f x)=f∧List.length (J26 f x l)=0))∧x≤List.length l∧∀(x:Nat),x≤List.length l→Br (Z91 x l) (Tw (Bd (Nc x) (Ln l))∧J8q q l x∧Br (Kji f l x) ((List.length (J26 f x l)+1)*40≤140737488355328∧Z16 x∧∃(y:Nat),Si (Ln l) (Z82 x y∧Sf l ((fun(x:Per×PUnit)=>q x)=q∧(fun(x:Per×PUnit)=>f x)=f∧J26 f x l++[Key l x]=J26 f y l))∧Kfc y l x) (Z16 x∧∃(y:Nat),Si (Ln l) (Z82 x y∧Sf l ((fun(x:Per×PUnit)=>q x)=q∧(fun(x:Per×PUnit)=>f x)=f∧J26 f x l=J26 f y l))∧Kfc y l x)) (J26 f x l=List.filter (fun(x:Per)=>f (x,PUnit.unit)) l))=_).mp ?_
 delta Z16 Z52 Z82 Z91 J3c J03 J26 Kfc J8t Key J8r Kji J8q Br Iw Bd Tw Sf Si Ln Nc B0 E2
 intro hb hq
 refine⟨(0:Nat),⟨rfl,rfl,rfl,rfl,rfl,by simp⟩,Nat.zero_le _,fun(k:Nat) hk=>⟨fun h=> ?_,fun h=> ?_⟩⟩
 ·have hlt:k<l.length:=by simpa using h
  have hf:=Jfk (p:=fun x=>f (x,())) hk
  have ht:=U5 (d:=Jix) hlt
  refine⟨by omega,hq (l.getD k Jix) (Jc hlt),fun h1=> ?_,fun h1=> ?_⟩
  ·have h1:f (l.getD k Jix,())=true:=h1
   refine⟨by show((List.filter (fun x=>f (x,())) (List.take k l)).length+1)*40≤_;omega,by omega,(k+1:Nat),⟨rfl,by simp,rfl,rfl,rfl, ?_⟩,by omega,by omega⟩
   rw[←ht,List.filter_append,List.filter_cons,if_pos h1];rfl
  ·have h1:f (l.getD k Jix,())=false:=h1
   refine⟨by omega,(k+1:Nat),⟨rfl,by simp,rfl,rfl,rfl, ?_⟩,by omega,by omega⟩
   rw[←ht,List.filter_append,List.filter_cons,if_neg (by rw[h1];decide)];simp
 ·have hlt:¬k<l.length:=by simpa using h
  rw[List.take_of_length_le (by omega)]
abbrev W55 [Sx.Dr]:=W54.add Km0
def J2o:Con:={args:=[.val true Zy],ress:=[Bo],owns:=[],pre:=fun _=>[],spec:=fun(x,_)=>(x.2.2,())}
theorem Klu [Sx.Dr] (x:Per):wpF Tryz.prog W55.g (na ()) Tryz.f261 J2o (x,()):=by
 refine(by kernel_rfl:(x.2.2=x.2.2)=_).mp ?_
 rfl
theorem Kmu [Sx.Dr]:Ok Tryz.prog 261 J2o:=Vv mixed W55.ok (by kernel_rfl) (by kernel_rfl) na fun xx=>Klu xx.1
abbrev W56 [Sx.Dr]:=W55.add Kmu
def Lz (Q:List Per):List Per:=Q.filter fun x=>x.2.2
def Ka8:Con:={args:=[Jbf],ress:=[(false, .list 235 Zy)],owns:=[true],pre:=fun(r,_)=>[Jl r],spec:=fun((_,_,_,_,_,_,Q),_)=>(Lz Q,())}
theorem Knj [Sx.Dr]:Ok Tryz.prog 207 Ka8:=okW W56 Tryz.f207 na fun xx=>by
 obtain⟨⟨(tk:Int),(st:Int),(S:List Sta),(O:List Ord),(M:List Met),(X:List Out),(Q:List Per)⟩,_⟩:=xx
 refine(by kernel_rfl:(Jw tk st S O M X Q→Kjo Q∧List.filter (fun(x:Per)=>x.2.2) Q=Lz Q)=_).mp ?_
 delta Z52 Z63 Jw Kjo
 intro hr
 have nQ:Q.length≤16:=hr.nQ
 exact⟨⟨by omega,fun _ _=>trivial⟩,rfl⟩
abbrev W57 [Sx.Dr]:=W56.add Knj
theorem Jdm {Q:List Per}:(Lz Q).length≤Q.length:=List.length_filter_le _ _
theorem Jlb {Q:List Per} {x:Per} (h:x∈Lz Q):x∈Q:=(List.mem_filter.1 h).1
def Ka2:Con:={args:=[.val true Zy, .ref 188 X6],ress:=[Bo],owns:=[],pre:=fun _=>[],spec:=fun(x,y,_)=>(x.2.1.toList==y.1.toList,())}
theorem Klv [Sx.Dr] (x:Per) (y:Out):wpF Tryz.prog W57.g (na ()) Tryz.f244 Ka2 (x,y,()):=by
 refine(by kernel_rfl:(Lb x.2.1 y.1=Lb x.2.1 y.1)=_).mp ?_
 delta Lb
 rfl
theorem Kmz [Sx.Dr]:Ok Tryz.prog 244 Ka2:=Vv mixed W57.ok (by kernel_rfl) (by kernel_rfl) na fun xx=>Klv xx.1 xx.2.1
abbrev W58 [Sx.Dr]:=W57.add Kmz
def Kqe:Con:={args:=[.val true Zy, .ref 105 Jm3, .ref 3 sI],ress:=[Bo],owns:=[],pre:=fun(x,r,_)=>[Jl r,0≤J7 r.2.2.2.2.2.1 x.2.1],spec:=fun(x,(_,_,_,_,_,X,_),h,_)=>(decide ((Ly X x.2.1).2.2.1.2≤h),())}
theorem Kmx [Sx.Dr]:Ok Tryz.prog 246 Kqe:=okW W58 Tryz.f246 na fun xx=>by
 obtain⟨⟨(a:ByteArray),(b:ByteArray),(c:Bool)⟩,⟨(tk:Int),(st:Int),(S:List Sta),(O:List Ord),(M:List Met),(X:List Out),(Q:List Per)⟩,(h:Int),_⟩:=xx
 refine(by kernel_rfl:(Jw tk st S O M X Q→0≤J7 X b→(Z48 X∧0≤J7 X b)∧decide ((Ly X b).2.2.1.2≤h)=decide ((Ly X b).2.2.1.2≤h))=_).mp ?_
 delta Z48 Z63 Jw
 intro hr h
 have nX:X.length≤16:=hr.nX
 repeat' first|assumption|exact rfl|trivial|omega|apply And.intro|intro _
abbrev W59 [Sx.Dr]:=W58.add Kmx
def Kql:Con:={args:=[aI, .ref 105 Jm3, .ref 9 .str, .ref 9 .str, .ref 3 sI],ress:=[Bo],owns:=[],pre:=fun(_,r,a,b,_)=>[Jl r,0≤Jy r.2.2.1 a,0≤Jy r.2.2.1 b],spec:=fun(h,(_,_,S,O,_,X,_),a,b,p,_)=>(decide (min (Xn S O X a h) (Xn S O X b h)<p),())}
theorem Km4 [Sx.Dr]:Ok Tryz.prog 239 Kql:=okW W59 Tryz.f239 na fun xx=>by
 obtain⟨(h:Int),⟨(tk:Int),(st:Int),(S:List Sta),(O:List Ord),(M:List Met),(X:List Out),(Q:List Per)⟩,(a:ByteArray),(b:ByteArray),(p:Int),_⟩:=xx
 refine(by kernel_rfl:(Jw tk st S O M X Q→Z21 S a→Z21 S b→(Jw tk st S O M X Q∧Z21 S a∧Jw tk st S O M X Q∧Z21 S b)∧decide (min (Xn S O X a h) (Xn S O X b h)<p)=decide (min (Xn S O X a h) (Xn S O X b h)<p))=_).mp ?_
 delta Z21 Z63 Jw
 intro hr h1 h2
 repeat' first|assumption|exact rfl|trivial|omega|apply And.intro|intro _
abbrev W60 [Sx.Dr]:=W59.add Km4
def Kqk:Con:={args:=[aI, .ref 105 Jm3, .ref 9 .str, .ref 3 sI],ress:=[Bo],owns:=[],pre:=fun(_,r,a,_)=>[Jl r],spec:=fun(h,(_,_,_,O,_),a,p,_)=>(decide (p<Vb O a h),())}
theorem Km2 [Sx.Dr]:Ok Tryz.prog 241 Kqk:=okW W60 Tryz.f241 na fun xx=>by
 obtain⟨(h:Int),⟨(tk:Int),(st:Int),(S:List Sta),(O:List Ord),(M:List Met),(X:List Out),(Q:List Per)⟩,(a:ByteArray),(p:Int),_⟩:=xx
 refine(by kernel_rfl:(Jw tk st S O M X Q→Jw tk st S O M X Q∧decide (p<Vb O a h)=decide (p<Vb O a h))=_).mp ?_
 delta Z63 Jw
 intro hr
 repeat' first|assumption|exact rfl|trivial|omega|apply And.intro|intro _
abbrev W61 [Sx.Dr]:=W60.add Km2
def Jr8 (f:Int→Bool):Int→Nat→Bool
 |_,0=>false
 |a,n+1=>bif f a then true else Jr8 f (a+1) n
def Hg (s:Int×Int) (f:Int→Bool):Bool:=Jr8 f s.1 (s.2-s.1).toNat
def Kbw:Con:={args:=[.val true Hv, .fn [I] Bo],ress:=[Bo],owns:=[],pre:=fun(s,(q,_),_)=>[0≤s.1∧s.1≤999999999,0≤s.2∧s.2≤999999999,∀h,s.1≤h→h<s.2→Uq (q (h,()))],spec:=fun(s,(_,f),_)=>(Hg s fun h=>f (h,()),())}
abbrev J0t (a b:Int) (q:Int×Unit→List Prop) (f:Int×Unit→Bool):Ann:={X:=Nat,σ:=fun k=>⟨2,[(1, .one (.fv 1)),(2, .one (.ptr 0 0)),(5, .one (.bool false)),(11, .one (.int .i64 (b-a))),(12, .one (.int .i64 k))],[(0, .box 117 [.int .i64 a, .int .i64 b]),(1, .afn [I] Bo q f)]⟩,inv:=fun k=>k≤(b-a).toNat∧Hg (a,b) (fun h=>f (h,()))=Jr8 (fun h=>f (h,())) (a+k) ((b-a).toNat-k),mu:=fun k=>(b-a).toNat-k}
def J9v (a:Int):=0≤a∧a≤999999999
def Kin (a:Nat) (b c:Int) (d:Int×Unit→Bool):=a≤Int.toNat (b-c)∧(Hg (c,b) fun(h:Int)=>d (h,PUnit.unit))=Jr8 (fun(h:Int)=>d (h,PUnit.unit)) (c+Nc a) (Int.toNat (b-c)-a)
theorem Km6 [Sx.Dr]:Ok Tryz.prog 237 Kbw:=okW W61 Tryz.f237 (fun xx=>Xr (J0t xx.1.1 xx.1.2 xx.2.1.1 xx.2.1.2)) fun xx=>by
 obtain⟨⟨(a:Int),(b:Int)⟩,⟨(q:Int×Unit→List Prop),(f:Int×Unit→Bool)⟩,_⟩:=xx
 refine(by kernel_rfl:(J9v a→J9v b→(∀(h:Int),a≤h→h<b→Uq (q (h,PUnit.unit)))→Iw (b-a)∧∃(x:Nat),Sf false (Si (b-a) (0=Nc x∧Si a (Si b ((fun(x:Int×PUnit)=>q x)=q∧(fun(x:Int×PUnit)=>f x)=f))))∧Kin x b a f∧∀(x:Nat),Kin x b a f→Br (decide (Nc x<b-a)) ((Iw (a+Nc x)∧Uq (q (a+Nc x,PUnit.unit)))∧Br (f (a+Nc x,PUnit.unit)) (true=Hg (a,b) fun(h:Int)=>f (h,PUnit.unit)) (Z16 x∧∃(y:Nat),Sf false (Si (b-a) (Z82 x y∧Si a (Si b ((fun(x:Int×PUnit)=>q x)=q∧(fun(x:Int×PUnit)=>f x)=f))))∧Kin y b a f∧Int.toNat (b-a)-y<Int.toNat (b-a)-x)) (false=Hg (a,b) fun(h:Int)=>f (h,PUnit.unit)))=_).mp ?_
 delta Z16 Z82 J9v Kin Br Iw Sf Si Nc
 intro h1 h2 hq
 refine⟨by omega,(0:Nat),⟨rfl,rfl,rfl,rfl,rfl,rfl,rfl⟩,⟨Nat.zero_le _,by simp[Hg]⟩,fun(k:Nat) hk=>⟨fun h=> ?_,fun h=> ?_⟩⟩
 ·have h:(k:Int)<b-a:=of_decide_eq_true h
  obtain⟨k1,k2⟩:=hk
  have hj:(b-a).toNat-k=((b-a).toNat-(k+1))+1:=by omega
  rw[hj,Jr8] at k2
  refine⟨⟨by omega,hq (a+k) (by omega) (by omega)⟩,fun h3=> ?_,fun h3=>⟨by omega,(k+1:Nat),⟨rfl,rfl,by simp,rfl,rfl,rfl,rfl⟩,⟨by omega, ?_⟩,by omega⟩⟩
  ·rw[k2]
   show true=bif f (a+(k:Int),PUnit.unit) then true else _
   rw[h3];rfl
  ·rw[k2]
   show(bif f (a+(k:Int),PUnit.unit) then true else _)=_
   rw[h3,Int.natCast_add,←Int.add_assoc];rfl
 ·have h:¬(k:Int)<b-a:=of_decide_eq_false h
  have hj:(b-a).toNat-k=0:=by omega
  rw[hk.2,hj];rfl
abbrev W62 [Sx.Dr]:=W61.add Km6
def Jl4 (S:List Sta) (vs:List Int):Int:=Jg [Kj (vs.getD 1 0) 1 1000,bif decide ((6:Int)≤S.length) then 5 else 0]
def Kbx:Con:={args:=[Jbf,aEv],ress:=[I],owns:=[],pre:=fun(r,e,_)=>[Jl r,2≤e.2.2.2.1.length],spec:=fun((tk,st,S,O,M,X,Q),(n,k,ns,vs,tx),_)=>(Jl4 S vs,())}
def Z57 (a:Li):=2≤List.length a
theorem Koy [Sx.Dr]:Ok Tryz.prog 148 Kbx:=okW W62 Tryz.f148 na fun xx=>by
 obtain⟨⟨(tk:Int),(st:Int),(S:List Sta),(O:List Ord),(M:List Met),(X:List Out),(Q:List Per)⟩,⟨(n:Int),(k:ByteArray),(ns:List ByteArray),(vs:List Int),(tx:ByteArray)⟩,_⟩:=xx
 refine(by kernel_rfl:(Jw tk st S O M X Q→Z57 vs→T2 (Z28 vs) (2≤1000000)∧Jg [Kj (Z88 vs) 1 1000,bif decide (6≤Ln S) then 5 else 0]=Jl4 S vs)=_).mp ?_
 delta Z28 Z57 Z63 Z88 Jw Bd T2 Ln
 intro hr h
 repeat' first|assumption|exact rfl|trivial|omega|apply And.intro|intro _
abbrev W63 [Sx.Dr]:=W62.add Koy
def Jn0 (vs:List Int):Int:=Kj (vs.getD 1 0) 0 1000
def Kbz:Con:={args:=[Jbf,aEv],ress:=[I],owns:=[],pre:=fun(r,e,_)=>[2≤e.2.2.2.1.length],spec:=fun((tk,st,S,O,M,X,Q),(n,k,ns,vs,tx),_)=>(Jn0 vs,())}
def Z98 (a:Li):=Tw (Z28 a)
theorem Kou [Sx.Dr]:Ok Tryz.prog 152 Kbz:=okW W63 Tryz.f152 na fun xx=>by
 obtain⟨⟨(tk:Int),(st:Int),(S:List Sta),(O:List Ord),(M:List Met),(X:List Out),(Q:List Per)⟩,⟨(n:Int),(k:ByteArray),(ns:List ByteArray),(vs:List Int),(tx:ByteArray)⟩,_⟩:=xx
 refine(by kernel_rfl:(Z57 vs→Z98 vs∧Kj (Z88 vs) 0 1000=Jn0 vs)=_).mp ?_
 delta Z28 Z57 Z88 Z98 Bd Tw Ln
 intro h
 repeat' first|assumption|exact rfl|trivial|omega|apply And.intro|intro _
abbrev W64 [Sx.Dr]:=W63.add Kou
def Jhm (e:Ev):Int:=Jg [bif (e.2.2.1.getD 1 Ja).toList==(e.2.2.1.getD 2 Ja).toList then 24 else 0,Ze e,Kj (e.2.2.2.1.getD 3 0) 1 1000]
def Jve (S:List Sta) (O:List Ord) (X:List Out) (e:Ev):Bool:=Hg (Vx e) fun h=>decide (min (Xn S O X (e.2.2.1.getD 1 Ja) h) (Xn S O X (e.2.2.1.getD 2 Ja) h)<e.2.2.2.1.getD 3 0)
def Jb6 (S:List Sta) (O:List Ord) (X:List Out) (e:Ev):Int:=if Jhm e≠0 then Jhm e else Jg [bif Jve S O X e then 4 else 0,bif decide ((32:Int)≤O.length) then 5 else 0]
def Kb1:Con:={args:=[Jbf,aEv],ress:=[I],owns:=[],pre:=fun(r,e,_)=>[Jl r,EvV e,e.2.2.1.length=3,e.2.2.2.1.length=4,0≤Jy r.2.2.1 (e.2.2.1.getD 1 Ja),0≤Jy r.2.2.1 (e.2.2.1.getD 2 Ja)],spec:=fun((tk,st,S,O,M,X,Q),(n,k,ns,vs,tx),_)=>(Jb6 S O X (n,k,ns,vs,tx),())}
def Z23 (a:Li):=Bd 3 (Ln a)
def Z54 (a:Li):=List.length a=4
def Z85 (a:Li):=List.getD a 3 0
def Z94 (a:Ls):=Bd 2 (Ln a)
def Z96 (a:Ls):=Bd 1 (Ln a)
def Z97 (a:Ls):=List.getD a 1 B0
def Joe (a:Ls):=List.getD a 2 B0
def Jym (a:Li):=Tw (Z23 a)
def J65 (a:Ls):=List.getD a 2 Ja
def Jj2 (a:Ls):=List.getD a 1 Ja
def Js2 (a:Ls):=List.length a=3
def Jyh (a:List Sta) (b:Ls):=Jy a (Z97 b)
def J25 (a:List Sta) (b:Ls):=0≤Jyh a b
def J9c (a:List Sta) (b:Ls):=0≤Jy a (Jj2 b)
def Klb (a:Ls):=Lb (Z97 a) (Joe a)
def Ku3 (a:Ls) (b:Int) (c:Bt) (d:Li) (e:Bt):=Jg [bif Klb a then 24 else 0,Ze (b,c,a,d,e),Kj (Z85 d) 1 1000]
theorem Kos [Sx.Dr]:Ok Tryz.prog 154 Kb1:=okW W64 Tryz.f154 na fun xx=>by
 obtain⟨⟨(tk:Int),(st:Int),(S:List Sta),(O:List Ord),(M:List Met),(X:List Out),(Q:List Per)⟩,⟨(n:Int),(k:ByteArray),(ns:List ByteArray),(vs:List Int),(tx:ByteArray)⟩,_⟩:=xx
 refine(by kernel_rfl:(Jw tk st S O M X Q→EvV (n,k,ns,vs,tx)→Js2 ns→Z54 vs→J9c S ns→0≤Jy S (J65 ns)→T2 (Z96 ns) (T2 (Z94 ns) (Jym vs))∧(Z59 vs∧EvV (n,k,ns,vs,tx)∧3≤1000000)∧Br (Ku3 ns n k vs tx !=0) (Ku3 ns n k vs tx=Jb6 S O X (n,k,ns,vs,tx)) ((Z59 vs∧(0≤(Z56 n k ns vs tx).1∧(Z56 n k ns vs tx).1≤999999999)∧(0≤(Z56 n k ns vs tx).2∧(Z56 n k ns vs tx).2≤999999999)∧∀(h:Int),(Z56 n k ns vs tx).1≤h→h<(Z56 n k ns vs tx).2→Jw tk st S O M X Q∧J25 S ns∧0≤Jy S (Joe ns))∧2≤1000000∧Jg [bif Hg (E2 (Z56 n k ns vs tx)) fun(h:Int)=>decide (min (Xn S O X (Z97 ns) h) (Xn S O X (Joe ns) h)<Z85 vs) then 4 else 0,bif decide (32≤Ln O) then 5 else 0]=Jb6 S O X (n,k,ns,vs,tx)))=_).mp ?_
 delta Z23 Z54 Z56 Z59 Z63 Z85 Z94 Z96 Z97 Joe Jym J65 Jj2 Js2 Jw Jyh J25 J9c Klb Ku3 Br Bd T2 Tw Ln B0 Lb E2
 intro hr hv hn hl h1 h2
 have sp:(0≤(Vx (n,k,ns,vs,tx)).1∧(Vx (n,k,ns,vs,tx)).1≤999999999)∧0≤(Vx (n,k,ns,vs,tx)).2∧(Vx (n,k,ns,vs,tx)).2≤999999999:=⟨hv (vs.getD 1 0) (Jc (show 1<vs.length by omega)),hv (vs.getD 2 0) (Jc (show 2<vs.length by omega))⟩
 refine⟨by omega,⟨by omega,hv,by omega⟩,fun h=> ?_,fun h=>⟨⟨by omega,sp.1,sp.2,fun _ _ _=>⟨hr,h1,h2⟩⟩,by omega, ?_⟩⟩
 ·have h:Jhm (n,k,ns,vs,tx)≠0:=bne_iff_ne.1 h
  unfold Jb6;rw[if_pos h];rfl
 ·have h:¬Jhm (n,k,ns,vs,tx)≠0:=by have:=bne_eq_false_iff_eq.1 h;exact fun f=>f this
  unfold Jb6;rw[if_neg h];rfl
abbrev W65 [Sx.Dr]:=W64.add Kos
def Jl5 (O:List Ord) (M:List Met) (ns:List ByteArray) (vs:List Int):Int:=Jg [bif decide (vs.getD 0 0≤vs.getD 1 0) then 11 else 0,bif !Kp (X1 O (ns.getD 0 Ja)).2.2.2.1 (vs.getD 1 0) then 14 else 0,bif !Jr (X1 O (ns.getD 0 Ja)) (vs.getD 1 0) then 23 else 0,bif decide (0≤Kz M (X1 O (ns.getD 0 Ja)).1 (vs.getD 1 0)) then 9 else 0,bif (bif decide ((X1 O (ns.getD 0 Ja)).2.2.2.2.1<vs.getD 2 0) then true else decide (vs.getD 2 0<vs.getD 3 0)) then 3 else 0]
def Kb2:Con:={args:=[Jbf,aEv],ress:=[I],owns:=[],pre:=fun(r,e,_)=>[Jl r,1≤e.2.2.1.length,4≤e.2.2.2.1.length,0≤Kw r.2.2.2.1 (e.2.2.1.getD 0 Ja)],spec:=fun((tk,st,S,O,M,X,Q),(n,k,ns,vs,tx),_)=>(Jl5 O M ns vs,())}
def Z46 (a:Li):=4≤List.length a
def Z83 (a:Ls):=List.getD a 0 B0
def Z84 (a:Ls):=Bd 0 (Ln a)
def Lu (a:Ls):=List.getD a 0 Ja
def Y4 (a:Ls):=1≤List.length a
def J6r (a:List Ord) (b:Ls):=X1 a (Z83 b)
def Jqo (a:List Ord) (b:Ls):=Kw a (Z83 b)
def J9k (a:List Ord) (b:Ls):=(J6r a b).2.2
def J6o (a:List Ord) (b:Ls):=(J9k a b).2.2
def J9h (a:List Ord) (b:Ls):=(J9k a b).2.1
def Jsy (a:List Ord) (b:Ls):=0≤Kw a (Lu b)
def Kk2 (a:Li):=decide (U2 a≤Z88 a)
def Kk1 (a:Li):=decide (Z95 a<Z85 a)
def Kgu (a:List Ord) (b:Ls):=((J6r a b).1,(J6r a b).2.1,(J9k a b).1,E2 (J9h a b),(J6o a b).1,E2 (J6o a b).2)
theorem Kop [Sx.Dr]:Ok Tryz.prog 157 Kb2:=okW W65 Tryz.f157 na fun xx=>by
 obtain⟨⟨(tk:Int),(st:Int),(S:List Sta),(O:List Ord),(M:List Met),(X:List Out),(Q:List Per)⟩,⟨(n:Int),(k:ByteArray),(ns:List ByteArray),(vs:List Int),(tx:ByteArray)⟩,_⟩:=xx
 refine(by kernel_rfl:(Jw tk st S O M X Q→Y4 ns→Z46 vs→Jsy O ns→T2 (Z84 ns) (Z53 O∧0≤Jqo O ns∧T2 (Z28 vs) (T2 (Z30 vs) (Jym vs)))∧T2 (Z24 vs) (Jw tk st S O M X Q∧5≤1000000)∧Jg [bif Kk2 vs then 11 else 0,bif !Kp (E2 (J9h O ns)) (Z88 vs) then 14 else 0,bif !Jr (Kgu O ns) (Z88 vs) then 23 else 0,bif decide (0≤Kz M (J6r O ns).1 (Z88 vs)) then 9 else 0,bif bif decide ((J6o O ns).1<Z95 vs) then true else Kk1 vs then 3 else 0]=Jl5 O M ns vs)=_).mp ?_
 delta Z23 Z24 Z28 Z30 Z46 Z53 Z63 Z83 Z84 Z85 Z88 Z95 Jym U2 Lu Y4 Jw J6r Jqo J9k J6o J9h Jsy Kk2 Kk1 Kgu Bd T2 Tw Ln B0 E2
 intro hr h1 h2 h3
 have nO:O.length≤32:=hr.nO
 refine⟨⟨⟨by omega,by omega⟩,⟨by omega,by omega⟩,by omega,h3,by omega⟩,⟨by omega,by omega,hr,by omega⟩,rfl⟩
abbrev W66 [Sx.Dr]:=W65.add Kop
def Jcw (O:List Ord) (ns:List ByteArray) (vs:List Int):Int:=bif (bif (X1 O (ns.getD 0 Ja)).2.2.2.2.2.2 != -1 then true else decide ((X1 O (ns.getD 0 Ja)).2.2.2.1.2≤vs.getD 0 0)) then 23 else 0
def J5e:Con:={args:=[Jbf,aEv],ress:=[I],owns:=[],pre:=fun(r,e,_)=>[Jl r,1≤e.2.2.1.length,1≤e.2.2.2.1.length,0≤Kw r.2.2.2.1 (e.2.2.1.getD 0 Ja)],spec:=fun((tk,st,S,O,M,X,Q),(n,k,ns,vs,tx),_)=>(Jcw O ns vs,())}
def Z43 (a:Li):=1≤List.length a
def Ki1 (a:Ls) (b:List Ord):=T2 (Z84 a) (Z53 b∧0≤Jqo b a)
def Kw5 (a:List Ord) (b:Ls):=(J6o a b).2.2 !=Z64
theorem Kon [Sx.Dr]:Ok Tryz.prog 159 J5e:=okW W66 Tryz.f159 na fun xx=>by
 obtain⟨⟨(tk:Int),(st:Int),(S:List Sta),(O:List Ord),(M:List Met),(X:List Out),(Q:List Per)⟩,⟨(n:Int),(k:ByteArray),(ns:List ByteArray),(vs:List Int),(tx:ByteArray)⟩,_⟩:=xx
 refine(by kernel_rfl:(Jw tk st S O M X Q→Y4 ns→Z43 vs→Jsy O ns→Ki1 ns O∧Tw (Kw5 O ns=false→Z24 vs)∧(bif bif Kw5 O ns then true else decide ((J9h O ns).2≤U2 vs) then 23 else 0)=Jcw O ns vs)=_).mp ?_
 delta Z24 Z43 Z53 Z63 Z64 Z83 Z84 U2 Lu Y4 Jw J6r Jqo J9k J6o J9h Jsy Ki1 Kw5 Bd T2 Tw Ln B0
 intro hr h1 h2 h3
 have nO:O.length≤32:=hr.nO
 repeat' first|assumption|exact rfl|trivial|omega|apply And.intro|intro _
abbrev W67 [Sx.Dr]:=W66.add Kon
def Jhl (S:List Sta) (e:Ev):Int:=Jg [Ze e,bif decide ((Hm S (e.2.2.1.getD 1 Ja)).2.1≤e.2.2.2.1.getD 3 0) then 3 else 0]
def Jb5 (S:List Sta) (O:List Ord) (X:List Out) (e:Ev):Int:=if Jhl S e≠0 then Jhl S e else Jg [bif Hg (Vx e) (fun h=>decide (e.2.2.2.1.getD 3 0<Vb O (e.2.2.1.getD 1 Ja) h)) then 24 else 0,bif decide ((16:Int)≤X.length) then 5 else 0]
def Kb0:Con:={args:=[Jbf,aEv],ress:=[I],owns:=[],pre:=fun(r,e,_)=>[Jl r,EvV e,e.2.2.1.length=2,e.2.2.2.1.length=4,0≤Jy r.2.2.1 (e.2.2.1.getD 1 Ja)],spec:=fun((tk,st,S,O,M,X,Q),(n,k,ns,vs,tx),_)=>(Jb5 S O X (n,k,ns,vs,tx),())}
def Jqp (a:Ls):=List.length a=2
def Kv5 (a:Int) (b:Bt) (c:Ls) (d:Li) (e:Bt) (f:List Sta):=Jg [Ze (a,b,c,d,e),bif decide ((Hm f (Z97 c)).2.1≤Z85 d) then 3 else 0]
theorem Kol [Sx.Dr]:Ok Tryz.prog 161 Kb0:=okW W67 Tryz.f161 na fun xx=>by
 obtain⟨⟨(tk:Int),(st:Int),(S:List Sta),(O:List Ord),(M:List Met),(X:List Out),(Q:List Per)⟩,⟨(n:Int),(k:ByteArray),(ns:List ByteArray),(vs:List Int),(tx:ByteArray)⟩,_⟩:=xx
 refine(by kernel_rfl:(Jw tk st S O M X Q→EvV (n,k,ns,vs,tx)→Jqp ns→Z54 vs→J9c S ns→T2 (Z96 ns) (Jym vs)∧(Z59 vs∧EvV (n,k,ns,vs,tx)∧Z58 S∧J25 S ns∧2≤1000000)∧Br (Kv5 n k ns vs tx S !=0) (Kv5 n k ns vs tx S=Jb5 S O X (n,k,ns,vs,tx)) ((Z59 vs∧(0≤(Z56 n k ns vs tx).1∧(Z56 n k ns vs tx).1≤999999999)∧(0≤(Z56 n k ns vs tx).2∧(Z56 n k ns vs tx).2≤999999999)∧∀(h:Int),(Z56 n k ns vs tx).1≤h→h<(Z56 n k ns vs tx).2→Jw tk st S O M X Q)∧2≤1000000∧Jg [bif Hg (E2 (Z56 n k ns vs tx)) fun(h:Int)=>decide (Z85 vs<Vb O (Z97 ns) h) then 24 else 0,bif decide (16≤Ln X) then 5 else 0]=Jb5 S O X (n,k,ns,vs,tx)))=_).mp ?_
 delta Z23 Z54 Z56 Z58 Z59 Z63 Z85 Z96 Z97 Jym Jqp Jj2 Jw Jyh J25 J9c Kv5 Br Bd T2 Tw Ln B0 E2
 intro hr hv hn hl h1
 have sp:(0≤(Vx (n,k,ns,vs,tx)).1∧(Vx (n,k,ns,vs,tx)).1≤999999999)∧0≤(Vx (n,k,ns,vs,tx)).2∧(Vx (n,k,ns,vs,tx)).2≤999999999:=⟨hv (vs.getD 1 0) (Jc (show 1<vs.length by omega)),hv (vs.getD 2 0) (Jc (show 2<vs.length by omega))⟩
 have nS:S.length≤6:=hr.nS
 refine⟨by omega,⟨by omega,hv,by omega,h1,by omega⟩,fun h=> ?_,fun h=>⟨⟨by omega,sp.1,sp.2,fun _ _ _=>hr⟩,by omega, ?_⟩⟩
 ·have h:Jhl S (n,k,ns,vs,tx)≠0:=bne_iff_ne.1 h
  unfold Jb5;rw[if_pos h];rfl
 ·have h:¬Jhl S (n,k,ns,vs,tx)≠0:=by have:=bne_eq_false_iff_eq.1 h;exact fun f=>f this
  unfold Jb5;rw[if_neg h];rfl
abbrev W68 [Sx.Dr]:=W67.add Kol
def Jcx (X:List Out) (Q:List Per) (ns:List ByteArray) (vs:List Int):Int:=Jg [bif decide (vs.getD 0 0≤(Ly X (ns.getD 0 Ja)).2.2.1.1) then 21 else 0,bif decide ((Ly X (ns.getD 0 Ja)).2.2.1.2≤vs.getD 0 0) then 23 else 0,bif decide ((0:Int)<((Lz Q).filter fun p=>p.2.1.toList==(Ly X (ns.getD 0 Ja)).1.toList).length) then 32 else 0]
def J5g:Con:={args:=[Jbf,aEv],ress:=[I],owns:=[],pre:=fun(r,e,_)=>[Jl r,1≤e.2.2.1.length,1≤e.2.2.2.1.length,0≤J7 r.2.2.2.2.2.1 (e.2.2.1.getD 0 Ja)],spec:=fun((tk,st,S,O,M,X,Q),(n,k,ns,vs,tx),_)=>(Jcx X Q ns vs,())}
def J9r (a:List Out) (b:Ls):=Ly a (Z83 b)
def Js0 (a:List Out) (b:Ls):=J7 a (Z83 b)
def J02 (a:List Out) (b:Ls):=0≤J7 a (Lu b)
def Ki2 (a:Ls) (b:List Out):=T2 (Z84 a) (Z48 b∧0≤Js0 b a)
def Kht (a b:Int) (c:List Sta) (d:List Ord) (e:List Met) (f:List Out) (g:List Per):=Jw a b c d e f g∧List.length (Lz g)≤1000000∧∀(x:Per),x∈Lz g→True
theorem Koi [Sx.Dr]:Ok Tryz.prog 164 J5g:=okW W68 Tryz.f164 na fun xx=>by
 obtain⟨⟨(tk:Int),(st:Int),(S:List Sta),(O:List Ord),(M:List Met),(X:List Out),(Q:List Per)⟩,⟨(n:Int),(k:ByteArray),(ns:List ByteArray),(vs:List Int),(tx:ByteArray)⟩,_⟩:=xx
 refine(by kernel_rfl:(Jw tk st S O M X Q→Y4 ns→Z43 vs→J02 X ns→Ki2 ns X∧Kht tk st S O M X Q∧T2 (Z24 vs) (T2 (Z24 vs) (3≤1000000))∧Jg [bif decide (U2 vs≤(J9r X ns).2.2.1.1) then 21 else 0,bif decide ((J9r X ns).2.2.1.2≤U2 vs) then 23 else 0,bif decide (0<Ln (List.filter (fun(x:Per)=>List.beq (ByteArray.toList x.2.1) (ByteArray.toList (J9r X ns).1)) (Lz Q))) then 32 else 0]=Jcx X Q ns vs)=_).mp ?_
 delta Z24 Z43 Z48 Z63 Z83 Z84 U2 Lu Y4 Jw J9r Js0 J02 Ki2 Kht Bd T2 Ln B0
 intro hr h1 h2 h3
 have nX:X.length≤16:=hr.nX
 have nQ:Q.length≤16:=hr.nQ
 have:=Jdm (Q:=Q)
 refine⟨⟨by omega,by omega,by omega,h3⟩,⟨hr,by omega,fun _ _=>trivial⟩,by omega,rfl⟩
abbrev W69 [Sx.Dr]:=W68.add Koi
def Jcy (X:List Out) (Q:List Per) (ns:List ByteArray) (vs:List Int):Int:=Jg [bif !Kp (Ly X (ns.getD 1 Ja)).2.2.1 (vs.getD 0 0) then 22 else 0,bif decide ((16:Int)≤Q.length) then 5 else 0]
def J5h:Con:={args:=[Jbf,aEv],ress:=[I],owns:=[],pre:=fun(r,e,_)=>[Jl r,2≤e.2.2.1.length,1≤e.2.2.2.1.length,0≤J7 r.2.2.2.2.2.1 (e.2.2.1.getD 1 Ja)],spec:=fun((tk,st,S,O,M,X,Q),(n,k,ns,vs,tx),_)=>(Jcy X Q ns vs,())}
def Jyl (a:Ls):=2≤List.length a
theorem Kog [Sx.Dr]:Ok Tryz.prog 166 J5h:=okW W69 Tryz.f166 na fun xx=>by
 obtain⟨⟨(tk:Int),(st:Int),(S:List Sta),(O:List Ord),(M:List Met),(X:List Out),(Q:List Per)⟩,⟨(n:Int),(k:ByteArray),(ns:List ByteArray),(vs:List Int),(tx:ByteArray)⟩,_⟩:=xx
 refine(by kernel_rfl:(Jw tk st S O M X Q→Jyl ns→Z43 vs→0≤J7 X (Jj2 ns)→T2 (Z96 ns) (Z48 X∧0≤J7 X (Z97 ns)∧T2 (Z24 vs) (2≤1000000))∧Jg [bif !Kp (E2 (Ly X (Z97 ns)).2.2.1) (U2 vs) then 22 else 0,bif decide (16≤Ln Q) then 5 else 0]=Jcy X Q ns vs)=_).mp ?_
 delta Z24 Z43 Z48 Z63 Z96 Z97 U2 Jj2 Jyl Jw Bd T2 Ln B0 E2
 intro hr h1 h2 h3
 have nX:X.length≤16:=hr.nX
 repeat' first|assumption|exact rfl|trivial|omega|apply And.intro|intro _
abbrev W70 [Sx.Dr]:=W69.add Kog
def Jnz (Q:List Per) (ns:List ByteArray):Int:=bif !(Jj5 Q (ns.getD 0 Ja)).2.2 then 23 else 0
def Kby:Con:={args:=[Jbf,aEv],ress:=[I],owns:=[],pre:=fun(r,e,_)=>[Jl r,1≤e.2.2.1.length,0≤Uy r.2.2.2.2.2.2 (e.2.2.1.getD 0 Ja)],spec:=fun((tk,st,S,O,M,X,Q),(n,k,ns,vs,tx),_)=>(Jnz Q ns,())}
def Jsb (a:List Per) (b:Ls):=Uy a (Z83 b)
def J01 (a:List Per) (b:Ls):=0≤Uy a (Lu b)
theorem Kod [Sx.Dr]:Ok Tryz.prog 169 Kby:=okW W70 Tryz.f169 na fun xx=>by
 obtain⟨⟨(tk:Int),(st:Int),(S:List Sta),(O:List Ord),(M:List Met),(X:List Out),(Q:List Per)⟩,⟨(n:Int),(k:ByteArray),(ns:List ByteArray),(vs:List Int),(tx:ByteArray)⟩,_⟩:=xx
 refine(by kernel_rfl:(Jw tk st S O M X Q→Y4 ns→J01 Q ns→T2 (Z84 ns) (Z52 Q∧0≤Jsb Q ns)∧(bif !(Jj5 Q (Z83 ns)).2.2 then 23 else 0)=Jnz Q ns)=_).mp ?_
 delta Z52 Z63 Z83 Z84 Lu Y4 Jw Jsb J01 Bd T2 Ln B0
 intro hr h1 h3
 have nQ:Q.length≤16:=hr.nQ
 repeat' first|assumption|exact rfl|trivial|omega|apply And.intro|intro _
abbrev W71 [Sx.Dr]:=W70.add Kod
def Lq (st:Int) (O:List Ord) (M:List Met) (X:List Out) (Q:List Per) (vs:List Int):Int:=bif (bif decide (vs.getD 1 0≤st) then true else decide (vs.getD 0 0<vs.getD 1 0)) then 14 else bif (bif decide ((0:Int)<(Ko M (vs.getD 1 0) O).length) then true else decide ((0:Int)<((Lz Q).filter fun p=>decide ((Ly X p.2.1).2.2.1.2≤vs.getD 1 0)).length)) then 32 else 0
def J5f:Con:={args:=[Jbf,aEv],ress:=[I],owns:=[],pre:=fun(r,e,_)=>[Jl r,2≤e.2.2.2.1.length],spec:=fun((tk,st,S,O,M,X,Q),(n,k,ns,vs,tx),_)=>(Lq st O M X Q vs,())}
def Kfq (a:Li) (b:Int):=decide (Z88 a≤b)
def Kj0 (a:Li) (b:Int):=Tw (Kfq a b=false→Z24 a)
def Kif (a:Li) (b:Int):=bif Kfq a b then true else decide (U2 a<Z88 a)
theorem Kob [Sx.Dr]:Ok Tryz.prog 171 J5f:=okW W71 Tryz.f171 na fun xx=>by
 obtain⟨⟨(tk:Int),(st:Int),(S:List Sta),(O:List Ord),(M:List Met),(X:List Out),(Q:List Per)⟩,⟨(n:Int),(k:ByteArray),(ns:List ByteArray),(vs:List Int),(tx:ByteArray)⟩,_⟩:=xx
 refine(by kernel_rfl:(Jw tk st S O M X Q→Z57 vs→Z98 vs∧Kj0 vs st∧Br (Kif vs st) (14=Lq st O M X Q vs) ((Jw tk st S O M X Q∧List.length (Lz Q)≤1000000∧∀(x:Per),x∈Lz Q→Jw tk st S O M X Q∧0≤J7 X x.2.1)∧Jw tk st S O M X Q∧(bif bif decide (0<Ln (Ko M (Z88 vs) O)) then true else decide (0<Ln (List.filter (fun(x:Per)=>decide ((Ly X x.2.1).2.2.1.2≤Z88 vs)) (Lz Q))) then 32 else 0)=Lq st O M X Q vs))=_).mp ?_
 delta Z24 Z28 Z57 Z63 Z88 Z98 U2 Jw Kfq Kj0 Kif Br Bd Tw Ln
 intro hr h1
 have nQ:Q.length≤16:=hr.nQ
 have:=Jdm (Q:=Q)
 refine⟨by omega,⟨fun _=>by omega,fun _=>by omega⟩,fun h=> ?_,fun h=>⟨⟨hr,by omega,fun x hx=>⟨hr,hr.per x (Jlb hx)⟩⟩,hr, ?_⟩⟩
 ·unfold Lq;rw[h];rfl
 ·unfold Lq;rw[h];rfl
abbrev W72 [Sx.Dr]:=W71.add Kob
abbrev Jx2 (pre:Reg→Ev→List Prop) (post:Reg→Ev→Reg):Xx:={T? :=some 105,s:=Jm3,args:=[aEv],ress:=[],pre:=fun r (e,_)=>pre r e,spec:=fun _ _=>(),post:=fun r (e,_)=>post r e}
def Fs (O:List Ord) (s:ByteArray) (v:Int):List Ord:=O.set (Kw O s).toNat ((X1 O s).1,(X1 O s).2.1,(X1 O s).2.2.1,(X1 O s).2.2.2.1,(X1 O s).2.2.2.2.1,(X1 O s).2.2.2.2.2.1,v)
def Jeb (X:List Out) (s:ByteArray) (v:Int):List Out:=X.set (J7 X s).toNat ((Ly X s).1,(Ly X s).2.1,((Ly X s).2.2.1.1,v),(Ly X s).2.2.2)
def Ft (Q:List Per) (s:ByteArray):List Per:=Q.set (Uy Q s).toNat ((Jj5 Q s).1,(Jj5 Q s).2.1,false)
def Ja0:Reg→Ev→Reg:=fun(tk,st,S,O,M,X,Q) (n,k,ns,vs,tx)=>(tk,st,S++[(ns.getD 0 Ja,vs.getD 1 0,0)],O,M,X,Q)
def Jwb:Xx:=Jx2 (fun r e=>[Jl r,1≤e.2.2.1.length,2≤e.2.2.2.1.length]) Ja0
def Kj1 (a:List Sta) (b:Ls) (c:Li):=a++[(Z83 b,Z88 c,0)]
def Ki4 (a:Ls) (b:Li) (c:List Sta):=T2 (Z84 a) (T2 (Z28 b) ((List.length c+1)*32≤140737488355328))
theorem Kmb [Sx.Dr] (tk st:Int) (S:List Sta) (O:List Ord) (M:List Met) (X:List Out) (Q:List Per) (n:Int) (k:ByteArray) (ns:List ByteArray) (vs:List Int) (tx:ByteArray):wpFO Tryz.prog W72.g (na ()) (fun _=>na ()) (Sx.look ([]:List (Nat×Func))) Tryz.f149 Jwb 105 (tk,st,S,O,M,X,Q) ((n,k,ns,vs,tx),()):=by
 refine(by kernel_rfl:(Jw tk st S O M X Q→Y4 ns→Z57 vs→Ki4 ns vs S∧Sf true (Sf 105 ((tk,st,Kj1 S ns vs,O,M,X,Q)=Ja0 (Z63 tk st S O M X Q) (n,k,ns,vs,tx))))=_).mp ?_
 delta Z28 Z57 Z63 Z83 Z84 Z88 Y4 Jw Kj1 Ki4 Bd T2 Sf Ln B0
 intro hr
 have nS:S.length≤6:=hr.nS
 have nO:O.length≤32:=hr.nO
 have nM:M.length≤10000:=hr.nM
 have nX:X.length≤16:=hr.nX
 have nQ:Q.length≤16:=hr.nQ
 intros
 repeat' first|assumption|exact rfl|trivial|omega|exact K6|exact Ua|exact K0|exact Ul|apply And.intro|intro _
theorem Kox [Sx.Dr]:Ok Tryz.prog 149 (Xx.con Jwb):=X2 (Ub mixed W72.ok (by kernel_rfl) (by kernel_rfl) (U1 (l:=([]:List (Nat×Func))) (by simp)) (fun xx yy=>na ()) (fun xx yy=>fun _=>na ()) fun T xx yy hT=>by obtain rfl:=hT _ rfl;exact Kmb xx.1 xx.2.1 xx.2.2.1 xx.2.2.2.1 xx.2.2.2.2.1 xx.2.2.2.2.2.1 xx.2.2.2.2.2.2 yy.1.1 yy.1.2.1 yy.1.2.2.1 yy.1.2.2.2.1 yy.1.2.2.2.2)
abbrev W73 [Sx.Dr]:=W72.add Kox
def Fg:Reg→Ev→Reg:=fun(tk,st,S,O,M,X,Q) (n,k,ns,vs,tx)=>(tk,st,S.set (Jy S (ns.getD 0 Ja)).toNat ((Hm S (ns.getD 0 Ja)).1,(Hm S (ns.getD 0 Ja)).2.1,vs.getD 1 0),O,M,X,Q)
def Jv8:Xx:=Jx2 (fun r e=>[Jl r,1≤e.2.2.1.length,2≤e.2.2.2.1.length,0≤Jy r.2.2.1 (e.2.2.1.getD 0 Ja)]) Fg
def J3a (a:List Sta) (b:Ls):=Jy a (Z83 b)
def K0v (a:List Sta) (b:Ls):=Gt a (J3a a b) Z8
theorem Kma [Sx.Dr] (tk st:Int) (S:List Sta) (O:List Ord) (M:List Met) (X:List Out) (Q:List Per) (n:Int) (k:ByteArray) (ns:List ByteArray) (vs:List Int) (tx:ByteArray):wpFO Tryz.prog W73.g (na ()) (fun _=>na ()) (Sx.look ([]:List (Nat×Func))) Tryz.f153 Jv8 105 (tk,st,S,O,M,X,Q) ((n,k,ns,vs,tx),()):=by
 refine(by kernel_rfl:(Jw tk st S O M X Q→Y4 ns→Z57 vs→0≤Jy S (Lu ns)→T2 (Z84 ns) (Z58 S∧T2 (Z28 vs) (Tw (Bd (J3a S ns) (Ln S))))∧Sf true (Sf 105 ((tk,st,List.set S (Int.toNat (J3a S ns)) ((K0v S ns).1,(K0v S ns).2.1,Z88 vs),O,M,X,Q)=Fg (Z63 tk st S O M X Q) (n,k,ns,vs,tx))))=_).mp ?_
 delta Z8 Z28 Z57 Z58 Z63 Z83 Z84 Z88 Lu Y4 Jw J3a K0v Bd T2 Tw Sf Ln Gt B0
 intro hr
 have nS:S.length≤6:=hr.nS
 have nO:O.length≤32:=hr.nO
 have nM:M.length≤10000:=hr.nM
 have nX:X.length≤16:=hr.nX
 have nQ:Q.length≤16:=hr.nQ
 intros
 repeat' first|assumption|exact rfl|trivial|omega|exact K6|exact Ua|exact K0|exact Ul|apply And.intro|intro _
theorem Kot [Sx.Dr]:Ok Tryz.prog 153 (Xx.con Jv8):=X2 (Ub mixed W73.ok (by kernel_rfl) (by kernel_rfl) (U1 (l:=([]:List (Nat×Func))) (by simp)) (fun xx yy=>na ()) (fun xx yy=>fun _=>na ()) fun T xx yy hT=>by obtain rfl:=hT _ rfl;exact Kma xx.1 xx.2.1 xx.2.2.1 xx.2.2.2.1 xx.2.2.2.2.1 xx.2.2.2.2.2.1 xx.2.2.2.2.2.2 yy.1.1 yy.1.2.1 yy.1.2.2.1 yy.1.2.2.2.1 yy.1.2.2.2.2)
abbrev W74 [Sx.Dr]:=W73.add Kot
def Fk:Reg→Ev→Reg:=fun(tk,st,S,O,M,X,Q) (n,k,ns,vs,tx)=>(tk,st,S,O++[(ns.getD 0 Ja,ns.getD 1 Ja,ns.getD 2 Ja,Vx (n,k,ns,vs,tx),vs.getD 3 0,(Hm S (ns.getD 1 Ja)).2.2,-1)],M,X,Q)
def Jwd:Xx:=Jx2 (fun r e=>[Jl r,e.2.2.1.length=3,e.2.2.2.1.length=4,0≤Jy r.2.2.1 (e.2.2.1.getD 1 Ja)]) Fk
theorem Kl9 [Sx.Dr] (tk st:Int) (S:List Sta) (O:List Ord) (M:List Met) (X:List Out) (Q:List Per) (n:Int) (k:ByteArray) (ns:List ByteArray) (vs:List Int) (tx:ByteArray):wpFO Tryz.prog W74.g (na ()) (fun _=>na ()) (Sx.look ([]:List (Nat×Func))) Tryz.f155 Jwd 105 (tk,st,S,O,M,X,Q) ((n,k,ns,vs,tx),()):=by
 refine(by kernel_rfl:(Jw tk st S O M X Q→Js2 ns→Z54 vs→J9c S ns→T2 (Z84 ns) (T2 (Z96 ns) (T2 (Z94 ns) (Z59 vs∧T2 (Z23 vs) (T2 (Z96 ns) (Z58 S∧J25 S ns∧(List.length O+1)*88≤140737488355328)))))∧Sf true (Sf 105 ((tk,st,S,O++[(Z83 ns,Z97 ns,Joe ns,E2 (Z56 n k ns vs tx),Z85 vs,(Hm S (Z97 ns)).2.2,Z64)],M,X,Q)=Fk (Z63 tk st S O M X Q) (n,k,ns,vs,tx))))=_).mp ?_
 delta Z23 Z54 Z56 Z58 Z59 Z63 Z64 Z83 Z84 Z85 Z94 Z96 Z97 Joe Jj2 Js2 Jw Jyh J25 J9c Bd T2 Sf Ln B0 E2
 intro hr
 have nS:S.length≤6:=hr.nS
 have nO:O.length≤32:=hr.nO
 have nM:M.length≤10000:=hr.nM
 have nX:X.length≤16:=hr.nX
 have nQ:Q.length≤16:=hr.nQ
 intros
 repeat' first|assumption|exact rfl|trivial|omega|exact K6|exact Ua|exact K0|exact Ul|apply And.intro|intro _
theorem Kor [Sx.Dr]:Ok Tryz.prog 155 (Xx.con Jwd):=X2 (Ub mixed W74.ok (by kernel_rfl) (by kernel_rfl) (U1 (l:=([]:List (Nat×Func))) (by simp)) (fun xx yy=>na ()) (fun xx yy=>fun _=>na ()) fun T xx yy hT=>by obtain rfl:=hT _ rfl;exact Kl9 xx.1 xx.2.1 xx.2.2.1 xx.2.2.2.1 xx.2.2.2.2.1 xx.2.2.2.2.2.1 xx.2.2.2.2.2.2 yy.1.1 yy.1.2.1 yy.1.2.2.1 yy.1.2.2.2.1 yy.1.2.2.2.2)
abbrev W75 [Sx.Dr]:=W74.add Kor
def Fl:Reg→Ev→Reg:=fun(tk,st,S,O,M,X,Q) (n,k,ns,vs,tx)=>(tk,st,S,O,M++[(ns.getD 0 Ja,vs.getD 1 0,vs.getD 2 0,vs.getD 3 0)],X,Q)
def Jwe:Xx:=Jx2 (fun r e=>[Jl r,1≤e.2.2.1.length,4≤e.2.2.2.1.length]) Fl
def Kjq (a:Li):=(Z88 a,Z95 a,Z85 a)
def Kh2 (a:Li) (b:List Met):=T2 (Z28 a) (T2 (Z30 a) (T2 (Z23 a) ((List.length b+1)*40≤140737488355328)))
theorem Kl8 [Sx.Dr] (tk st:Int) (S:List Sta) (O:List Ord) (M:List Met) (X:List Out) (Q:List Per) (n:Int) (k:ByteArray) (ns:List ByteArray) (vs:List Int) (tx:ByteArray):wpFO Tryz.prog W75.g (na ()) (fun _=>na ()) (Sx.look ([]:List (Nat×Func))) Tryz.f158 Jwe 105 (tk,st,S,O,M,X,Q) ((n,k,ns,vs,tx),()):=by
 refine(by kernel_rfl:(Jw tk st S O M X Q→Y4 ns→Z46 vs→T2 (Z84 ns) (Kh2 vs M)∧Sf true (Sf 105 ((tk,st,S,O,M++[(Z83 ns,Kjq vs)],X,Q)=Fl (Z63 tk st S O M X Q) (n,k,ns,vs,tx))))=_).mp ?_
 delta Z23 Z28 Z30 Z46 Z63 Z83 Z84 Z85 Z88 Z95 Y4 Jw Kjq Kh2 Bd T2 Sf Ln B0
 intro hr
 have nS:S.length≤6:=hr.nS
 have nO:O.length≤32:=hr.nO
 have nM:M.length≤10000:=hr.nM
 have nX:X.length≤16:=hr.nX
 have nQ:Q.length≤16:=hr.nQ
 intros
 repeat' first|assumption|exact rfl|trivial|omega|exact K6|exact Ua|exact K0|exact Ul|apply And.intro|intro _
theorem Koo [Sx.Dr]:Ok Tryz.prog 158 (Xx.con Jwe):=X2 (Ub mixed W75.ok (by kernel_rfl) (by kernel_rfl) (U1 (l:=([]:List (Nat×Func))) (by simp)) (fun xx yy=>na ()) (fun xx yy=>fun _=>na ()) fun T xx yy hT=>by obtain rfl:=hT _ rfl;exact Kl8 xx.1 xx.2.1 xx.2.2.1 xx.2.2.2.1 xx.2.2.2.2.1 xx.2.2.2.2.2.1 xx.2.2.2.2.2.2 yy.1.1 yy.1.2.1 yy.1.2.2.1 yy.1.2.2.2.1 yy.1.2.2.2.2)
abbrev W76 [Sx.Dr]:=W75.add Koo
def Ff:Reg→Ev→Reg:=fun(tk,st,S,O,M,X,Q) (n,k,ns,vs,tx)=>(tk,st,S,Fs O (ns.getD 0 Ja) (vs.getD 0 0),M,X,Q)
def Jv6:Xx:=Jx2 (fun r e=>[Jl r,1≤e.2.2.1.length,1≤e.2.2.2.1.length,0≤Kw r.2.2.2.1 (e.2.2.1.getD 0 Ja)]) Ff
def Kx1 (a:List Ord) (b:Ls):=Gt a (Jqo a b) Jc3
def Kxp (a:List Ord) (b:Ls):=(Kx1 a b).2
def Kxm (a:List Ord) (b:Ls):=(Kxp a b).2
def Kxh (a:List Ord) (b:Ls):=(Kxm a b).2
def Kxe (a:List Ord) (b:Ls):=(Kxh a b).2
theorem Kl7 [Sx.Dr] (tk st:Int) (S:List Sta) (O:List Ord) (M:List Met) (X:List Out) (Q:List Per) (n:Int) (k:ByteArray) (ns:List ByteArray) (vs:List Int) (tx:ByteArray):wpFO Tryz.prog W76.g (na ()) (fun _=>na ()) (Sx.look ([]:List (Nat×Func))) Tryz.f160 Jv6 105 (tk,st,S,O,M,X,Q) ((n,k,ns,vs,tx),()):=by
 refine(by kernel_rfl:(Jw tk st S O M X Q→Y4 ns→Z43 vs→Jsy O ns→T2 (Z84 ns) (Z53 O∧T2 (Z24 vs) (Tw (Bd (Jqo O ns) (Ln O))))∧Sf true (Sf 105 ((tk,st,S,List.set O (Int.toNat (Jqo O ns)) ((Kx1 O ns).1,(Kxp O ns).1,(Kxm O ns).1,E2 (Kxh O ns).1,(Kxe O ns).1,(Kxe O ns).2.1,U2 vs),M,X,Q)=Ff (Z63 tk st S O M X Q) (n,k,ns,vs,tx))))=_).mp ?_
 delta Z24 Z43 Z53 Z63 Z65 Z83 Z84 U2 Lu Y4 Jw Jqo Jsy Jc3 Kx1 Kxp Kxm Kxh Kxe Bd T2 Tw Sf Ln Gt B0 E2
 intro hr
 have nS:S.length≤6:=hr.nS
 have nO:O.length≤32:=hr.nO
 have nM:M.length≤10000:=hr.nM
 have nX:X.length≤16:=hr.nX
 have nQ:Q.length≤16:=hr.nQ
 intros
 repeat' first|assumption|exact rfl|trivial|omega|exact K6|exact Ua|exact K0|exact Ul|apply And.intro|intro _
theorem Kom [Sx.Dr]:Ok Tryz.prog 160 (Xx.con Jv6):=X2 (Ub mixed W76.ok (by kernel_rfl) (by kernel_rfl) (U1 (l:=([]:List (Nat×Func))) (by simp)) (fun xx yy=>na ()) (fun xx yy=>fun _=>na ()) fun T xx yy hT=>by obtain rfl:=hT _ rfl;exact Kl7 xx.1 xx.2.1 xx.2.2.1 xx.2.2.2.1 xx.2.2.2.2.1 xx.2.2.2.2.2.1 xx.2.2.2.2.2.2 yy.1.1 yy.1.2.1 yy.1.2.2.1 yy.1.2.2.2.1 yy.1.2.2.2.2)
abbrev W77 [Sx.Dr]:=W76.add Kom
def Fi:Reg→Ev→Reg:=fun(tk,st,S,O,M,X,Q) (n,k,ns,vs,tx)=>(tk,st,S,O,M,X++[(ns.getD 0 Ja,ns.getD 1 Ja,Vx (n,k,ns,vs,tx),vs.getD 3 0)],Q)
def Jwa:Xx:=Jx2 (fun r e=>[Jl r,e.2.2.1.length=2,e.2.2.2.1.length=4]) Fi
def Kkn (a:Li) (b:List Out):=T2 (Z23 a) ((List.length b+1)*56≤140737488355328)
theorem Kl6 [Sx.Dr] (tk st:Int) (S:List Sta) (O:List Ord) (M:List Met) (X:List Out) (Q:List Per) (n:Int) (k:ByteArray) (ns:List ByteArray) (vs:List Int) (tx:ByteArray):wpFO Tryz.prog W77.g (na ()) (fun _=>na ()) (Sx.look ([]:List (Nat×Func))) Tryz.f162 Jwa 105 (tk,st,S,O,M,X,Q) ((n,k,ns,vs,tx),()):=by
 refine(by kernel_rfl:(Jw tk st S O M X Q→Jqp ns→Z54 vs→T2 (Z84 ns) (T2 (Z96 ns) (Z59 vs∧Kkn vs X))∧Sf true (Sf 105 ((tk,st,S,O,M,X++[(Z83 ns,Z97 ns,E2 (Z56 n k ns vs tx),Z85 vs)],Q)=Fi (Z63 tk st S O M X Q) (n,k,ns,vs,tx))))=_).mp ?_
 delta Z23 Z54 Z56 Z59 Z63 Z83 Z84 Z85 Z96 Z97 Jqp Jw Kkn Bd T2 Sf Ln B0 E2
 intro hr
 have nS:S.length≤6:=hr.nS
 have nO:O.length≤32:=hr.nO
 have nM:M.length≤10000:=hr.nM
 have nX:X.length≤16:=hr.nX
 have nQ:Q.length≤16:=hr.nQ
 intros
 repeat' first|assumption|exact rfl|trivial|omega|exact K6|exact Ua|exact K0|exact Ul|apply And.intro|intro _
theorem Kok [Sx.Dr]:Ok Tryz.prog 162 (Xx.con Jwa):=X2 (Ub mixed W77.ok (by kernel_rfl) (by kernel_rfl) (U1 (l:=([]:List (Nat×Func))) (by simp)) (fun xx yy=>na ()) (fun xx yy=>fun _=>na ()) fun T xx yy hT=>by obtain rfl:=hT _ rfl;exact Kl6 xx.1 xx.2.1 xx.2.2.1 xx.2.2.2.1 xx.2.2.2.2.1 xx.2.2.2.2.2.1 xx.2.2.2.2.2.2 yy.1.1 yy.1.2.1 yy.1.2.2.1 yy.1.2.2.2.1 yy.1.2.2.2.2)
abbrev W78 [Sx.Dr]:=W77.add Kok
def Fh:Reg→Ev→Reg:=fun(tk,st,S,O,M,X,Q) (n,k,ns,vs,tx)=>(tk,st,S,O,M,Jeb X (ns.getD 0 Ja) (vs.getD 0 0),Q)
def Jv9:Xx:=Jx2 (fun r e=>[Jl r,1≤e.2.2.1.length,1≤e.2.2.2.1.length,0≤J7 r.2.2.2.2.2.1 (e.2.2.1.getD 0 Ja)]) Fh
def Kz4 (a:List Out) (b:Ls):=Gt a (Js0 a b) Jdd
def Kz2 (a:List Out) (b:Ls):=(Kz4 a b).2
def Kz0 (a:List Out) (b:Ls):=(Kz2 a b).2
theorem Kl5 [Sx.Dr] (tk st:Int) (S:List Sta) (O:List Ord) (M:List Met) (X:List Out) (Q:List Per) (n:Int) (k:ByteArray) (ns:List ByteArray) (vs:List Int) (tx:ByteArray):wpFO Tryz.prog W78.g (na ()) (fun _=>na ()) (Sx.look ([]:List (Nat×Func))) Tryz.f165 Jv9 105 (tk,st,S,O,M,X,Q) ((n,k,ns,vs,tx),()):=by
 refine(by kernel_rfl:(Jw tk st S O M X Q→Y4 ns→Z43 vs→J02 X ns→T2 (Z84 ns) (Z48 X∧T2 (Z24 vs) (Tw (Bd (Js0 X ns) (Ln X))))∧Sf true (Sf 105 ((tk,st,S,O,M,List.set X (Int.toNat (Js0 X ns)) ((Kz4 X ns).1,(Kz2 X ns).1,((Kz0 X ns).1.1,U2 vs),(Kz0 X ns).2),Q)=Fh (Z63 tk st S O M X Q) (n,k,ns,vs,tx))))=_).mp ?_
 delta Z24 Z43 Z48 Z63 Z83 Z84 U2 Lu Y4 Jw Jdd Js0 J02 Kz4 Kz2 Kz0 Bd T2 Tw Sf Ln Gt B0
 intro hr
 have nS:S.length≤6:=hr.nS
 have nO:O.length≤32:=hr.nO
 have nM:M.length≤10000:=hr.nM
 have nX:X.length≤16:=hr.nX
 have nQ:Q.length≤16:=hr.nQ
 intros
 repeat' first|assumption|exact rfl|trivial|omega|exact K6|exact Ua|exact K0|exact Ul|apply And.intro|intro _
theorem Koh [Sx.Dr]:Ok Tryz.prog 165 (Xx.con Jv9):=X2 (Ub mixed W78.ok (by kernel_rfl) (by kernel_rfl) (U1 (l:=([]:List (Nat×Func))) (by simp)) (fun xx yy=>na ()) (fun xx yy=>fun _=>na ()) fun T xx yy hT=>by obtain rfl:=hT _ rfl;exact Kl5 xx.1 xx.2.1 xx.2.2.1 xx.2.2.2.1 xx.2.2.2.2.1 xx.2.2.2.2.2.1 xx.2.2.2.2.2.2 yy.1.1 yy.1.2.1 yy.1.2.2.1 yy.1.2.2.2.1 yy.1.2.2.2.2)
abbrev W79 [Sx.Dr]:=W78.add Koh
def Fj:Reg→Ev→Reg:=fun(tk,st,S,O,M,X,Q) (n,k,ns,vs,tx)=>(tk,st,S,O,M,X,Q++[(ns.getD 0 Ja,ns.getD 1 Ja,true)])
def Jwc:Xx:=Jx2 (fun r e=>[Jl r,2≤e.2.2.1.length]) Fj
def Kjw (a:List Out) (b:List Per) (c:Ls):=(a,b++[(Z83 c,Z97 c,true)])
def Kir (a:Ls) (b:List Per):=T2 (Z84 a) (T2 (Z96 a) ((List.length b+1)*40≤140737488355328))
theorem Kl4 [Sx.Dr] (tk st:Int) (S:List Sta) (O:List Ord) (M:List Met) (X:List Out) (Q:List Per) (n:Int) (k:ByteArray) (ns:List ByteArray) (vs:List Int) (tx:ByteArray):wpFO Tryz.prog W79.g (na ()) (fun _=>na ()) (Sx.look ([]:List (Nat×Func))) Tryz.f167 Jwc 105 (tk,st,S,O,M,X,Q) ((n,k,ns,vs,tx),()):=by
 refine(by kernel_rfl:(Jw tk st S O M X Q→Jyl ns→Kir ns Q∧Sf true (Sf 105 ((tk,st,S,O,M,Kjw X Q ns)=Fj (Z63 tk st S O M X Q) (n,k,ns,vs,tx))))=_).mp ?_
 delta Z63 Z83 Z84 Z96 Z97 Jyl Jw Kjw Kir Bd T2 Sf Ln B0
 intro hr
 have nS:S.length≤6:=hr.nS
 have nO:O.length≤32:=hr.nO
 have nM:M.length≤10000:=hr.nM
 have nX:X.length≤16:=hr.nX
 have nQ:Q.length≤16:=hr.nQ
 intros
 repeat' first|assumption|exact rfl|trivial|omega|exact K6|exact Ua|exact K0|exact Ul|apply And.intro|intro _
theorem Kof [Sx.Dr]:Ok Tryz.prog 167 (Xx.con Jwc):=X2 (Ub mixed W79.ok (by kernel_rfl) (by kernel_rfl) (U1 (l:=([]:List (Nat×Func))) (by simp)) (fun xx yy=>na ()) (fun xx yy=>fun _=>na ()) fun T xx yy hT=>by obtain rfl:=hT _ rfl;exact Kl4 xx.1 xx.2.1 xx.2.2.1 xx.2.2.2.1 xx.2.2.2.2.1 xx.2.2.2.2.2.1 xx.2.2.2.2.2.2 yy.1.1 yy.1.2.1 yy.1.2.2.1 yy.1.2.2.2.1 yy.1.2.2.2.2)
abbrev W80 [Sx.Dr]:=W79.add Kof
def Jgp:Reg→Ev→Reg:=fun(tk,st,S,O,M,X,Q) (n,k,ns,vs,tx)=>(tk,st,S,O,M,X,Ft Q (ns.getD 0 Ja))
def J2q:Xx:=Jx2 (fun r e=>[Jl r,1≤e.2.2.1.length,0≤Uy r.2.2.2.2.2.2 (e.2.2.1.getD 0 Ja)]) Jgp
theorem Kl3 [Sx.Dr] (tk st:Int) (S:List Sta) (O:List Ord) (M:List Met) (X:List Out) (Q:List Per) (n:Int) (k:ByteArray) (ns:List ByteArray) (vs:List Int) (tx:ByteArray):wpFO Tryz.prog W80.g (na ()) (fun _=>na ()) (Sx.look ([]:List (Nat×Func))) Tryz.f170 J2q 105 (tk,st,S,O,M,X,Q) ((n,k,ns,vs,tx),()):=by
 refine(by kernel_rfl:(Jw tk st S O M X Q→Y4 ns→J01 Q ns→T2 (Z84 ns) (Z52 Q∧Tw (Bd (Jsb Q ns) (Ln Q)))∧Sf true (Sf 105 ((tk,st,S,O,M,X,List.set Q (Int.toNat (Jsb Q ns)) ((Gt Q (Jsb Q ns) (B0,B0,false)).1,(Gt Q (Jsb Q ns) (B0,B0,false)).2.1,false))=Jgp (Z63 tk st S O M X Q) (n,k,ns,vs,tx))))=_).mp ?_
 delta Z52 Z63 Z83 Z84 Lu Y4 Jw Jsb J01 Bd T2 Tw Sf Ln Gt B0
 intro hr
 have nS:S.length≤6:=hr.nS
 have nO:O.length≤32:=hr.nO
 have nM:M.length≤10000:=hr.nM
 have nX:X.length≤16:=hr.nX
 have nQ:Q.length≤16:=hr.nQ
 intros
 repeat' first|assumption|exact rfl|trivial|omega|exact K6|exact Ua|exact K0|exact Ul|apply And.intro|intro _
theorem Koc [Sx.Dr]:Ok Tryz.prog 170 (Xx.con J2q):=X2 (Ub mixed W80.ok (by kernel_rfl) (by kernel_rfl) (U1 (l:=([]:List (Nat×Func))) (by simp)) (fun xx yy=>na ()) (fun xx yy=>fun _=>na ()) fun T xx yy hT=>by obtain rfl:=hT _ rfl;exact Kl3 xx.1 xx.2.1 xx.2.2.1 xx.2.2.2.1 xx.2.2.2.2.1 xx.2.2.2.2.2.1 xx.2.2.2.2.2.2 yy.1.1 yy.1.2.1 yy.1.2.2.1 yy.1.2.2.2.1 yy.1.2.2.2.2)
abbrev W81 [Sx.Dr]:=W80.add Koc
def Jaz:Reg→Ev→Reg:=fun(tk,st,S,O,M,X,Q) (n,k,ns,vs,tx)=>(tk,vs.getD 1 0,S,O,M,X,Q)
def Jv7:Xx:=Jx2 (fun r e=>[Jl r,2≤e.2.2.2.1.length]) Jaz
theorem Kl2 [Sx.Dr] (tk st:Int) (S:List Sta) (O:List Ord) (M:List Met) (X:List Out) (Q:List Per) (n:Int) (k:ByteArray) (ns:List ByteArray) (vs:List Int) (tx:ByteArray):wpFO Tryz.prog W81.g (na ()) (fun _=>na ()) (Sx.look ([]:List (Nat×Func))) Tryz.f172 Jv7 105 (tk,st,S,O,M,X,Q) ((n,k,ns,vs,tx),()):=by
 refine(by kernel_rfl:(Jw tk st S O M X Q→Z57 vs→Z98 vs∧Sf true (Sf 105 ((tk,Z88 vs,S,O,M,X,Q)=Jaz (Z63 tk st S O M X Q) (n,k,ns,vs,tx))))=_).mp ?_
 delta Z28 Z57 Z63 Z88 Z98 Jw Bd Tw Sf Ln
 intro hr
 have nS:S.length≤6:=hr.nS
 have nO:O.length≤32:=hr.nO
 have nM:M.length≤10000:=hr.nM
 have nX:X.length≤16:=hr.nX
 have nQ:Q.length≤16:=hr.nQ
 intros
 repeat' first|assumption|exact rfl|trivial|omega|exact K6|exact Ua|exact K0|exact Ul|apply And.intro|intro _
theorem Koa [Sx.Dr]:Ok Tryz.prog 172 (Xx.con Jv7):=X2 (Ub mixed W81.ok (by kernel_rfl) (by kernel_rfl) (U1 (l:=([]:List (Nat×Func))) (by simp)) (fun xx yy=>na ()) (fun xx yy=>fun _=>na ()) fun T xx yy hT=>by obtain rfl:=hT _ rfl;exact Kl2 xx.1 xx.2.1 xx.2.2.1 xx.2.2.2.1 xx.2.2.2.2.1 xx.2.2.2.2.2.1 xx.2.2.2.2.2.2 yy.1.1 yy.1.2.1 yy.1.2.2.1 yy.1.2.2.2.1 yy.1.2.2.2.2)
abbrev W82 [Sx.Dr]:=W81.add Koa
end Go.Proofs.YtcibbcfiemeoiaaGreatDoor
namespace Go.Proofs.YtcibbcfiemeoiaaGreatDoor
instance drOff:Sx.Dr:=Sx.Dr.off
open Go.Sx
def Jcz (T:TypeId) (s:Sch):Con:={args:=[.val false (.list T s)],ress:=[(false, .list T s)],owns:=[true],pre:=fun(l,_)=>[l.length≤1000000],spec:=fun(l,_)=>(l,())}
theorem Jk2 {M:Nat→Prop} {w:World}:∀{xs:List Int} {flat:List Value},V9 (Rep M w (.int .i64)) xs flat→flat=xs.map (Value.int .i64)
 |[],_,h=>h
 |x::xs,_,⟨c1,c2,rfl,h1,h2⟩=>by
  have h1:c1=[.int .i64 x]:=h1
  rw[h1,Jk2 h2];rfl
theorem Jo4 {M:Nat→Prop} {w:World}:∀(xs:List Int),V9 (Rep M w (.int .i64)) xs (xs.map (Value.int .i64))
 |[]=>rfl
 |x::xs=>⟨[.int .i64 x],xs.map (Value.int .i64),rfl,rfl,Jo4 xs⟩
theorem Jeg {M:Nat→Prop} {w:World}:∀{xs:List ByteArray} {flat:List Value},V9 (Rep M w .str) xs flat→flat=xs.map Value.string
 |[],_,h=>h
 |x::xs,_,⟨c1,c2,rfl,h1,h2⟩=>by
  have h1:c1=[.string x]:=h1
  rw[h1,Jeg h2];rfl
theorem Jo3 {M:Nat→Prop} {w:World}:∀(xs:List ByteArray),V9 (Rep M w .str) xs (xs.map Value.string)
 |[]=>rfl
 |x::xs=>⟨[.string x],xs.map Value.string,rfl,rfl,Jo3 xs⟩
theorem Kn8:Ok Tryz.prog 174 (Jcz 3 sI):=by
 refine⟨⟨Tryz.f174,by kernel_rfl,by kernel_rfl,by kernel_rfl⟩,fun z hz=>(by cases hz),fun F hF=>(by cases hF),fun _ x M R w vs hM hg hpre hargs=> ?_⟩
 obtain⟨l,u⟩:=x
 obtain⟨v1,vs1,rfl,⟨cs,rfl,hr⟩,hn⟩:=hargs
 have hn:vs1=[]:=hn
 subst hn
 obtain⟨v,flat,rfl,h1,h2⟩:=hr
 have hfl:=Jk2 h1
 have hl:l.length≤1000000:=hpre
 have fin:∀(v':Value) (w':World),w'.ownsRow w.heap.size 3 1 v' l.length (l.map (Value.int .i64))→RowKit.Below w.heap.size w w'→Jog M w (Jcz 3 sI).ress (Jcz 3 sI).owns ((Jcz 3 sI).spec (l,u)) (.returned v') w':=by
  intro v' w' ho hb
  refine⟨M,[v'],rfl, .ofK hb,fun _ h=>h,fun b h=> .inl h,_,[],rfl,⟨l.map (Value.int .i64),Jo4 l,ho,fun g hg' hMg=> ?_⟩,rfl⟩
  rcases ho.2 with⟨rfl,_⟩|⟨g',cap,cur,rfl,hbg,_⟩
  ·cases hg'
  ·have:g'=g:=Option.some.inj hg'
   have:=hM g (.inl hMg)
   omega
 rcases h2 with⟨rfl|⟨ad,cap,rfl⟩,h0⟩|⟨b,off,cap,rfl,hcap,hk,hm⟩
 ·have:l=[]:=List.eq_nil_of_length_eq_zero h0
  subst this
  refine(Tryz.clone174_nil 0 0 w).mono ?_
  rintro e w' ⟨rfl,rfl⟩
  exact fin _ _ ⟨rfl, .inl ⟨rfl,rfl⟩⟩ (RowKit.Below.refl _ _)
 ·have:l=[]:=List.eq_nil_of_length_eq_zero h0
  subst this
  refine(Tryz.clone174_zero ad cap w).mono ?_
  rintro e w' ⟨v',rfl,ho,_,hb⟩
  exact fin _ _ ho hb
 ·refine(Tryz.clone174 b off l.length cap l w (Nat.le_refl _) (by omega) (fun j hj=>hk j _ (by rw[hfl,List.getElem?_map,List.getElem?_eq_getElem hj];simp[List.getD_eq_getElem?_getD,List.getElem?_eq_getElem hj]))).mono ?_
  rintro e w' ⟨v',rfl,ho,_,hb⟩
  rw[List.take_of_length_le (Nat.le_refl _)] at ho
  exact fin _ _ ho hb
abbrev W83:=W82.add Kn8
theorem Kn9:Ok Tryz.prog 173 (Jcz 9 .str):=by
 refine⟨⟨Tryz.f173,by kernel_rfl,by kernel_rfl,by kernel_rfl⟩,fun z hz=>(by cases hz),fun F hF=>(by cases hF),fun _ x M R w vs hM hg hpre hargs=> ?_⟩
 obtain⟨l,u⟩:=x
 obtain⟨v1,vs1,rfl,⟨cs,rfl,hr⟩,hn⟩:=hargs
 have hn:vs1=[]:=hn
 subst hn
 obtain⟨v,flat,rfl,h1,h2⟩:=hr
 have hfl:=Jeg h1
 have hl:l.length≤1000000:=hpre
 have fin:∀(v':Value) (w':World),w'.ownsRow w.heap.size 9 1 v' l.length (l.map Value.string)→RowKit.Below w.heap.size w w'→Jog M w (Jcz 9 .str).ress (Jcz 9 .str).owns ((Jcz 9 .str).spec (l,u)) (.returned v') w':=by
  intro v' w' ho hb
  refine⟨M,[v'],rfl, .ofK hb,fun _ h=>h,fun b h=> .inl h,_,[],rfl,⟨l.map Value.string,Jo3 l,ho,fun g hg' hMg=> ?_⟩,rfl⟩
  rcases ho.2 with⟨rfl,_⟩|⟨g',cap,cur,rfl,hbg,_⟩
  ·cases hg'
  ·have:g'=g:=Option.some.inj hg'
   have:=hM g (.inl hMg)
   omega
 rcases h2 with⟨rfl|⟨ad,cap,rfl⟩,h0⟩|⟨b,off,cap,rfl,hcap,hk,hm⟩
 ·have:l=[]:=List.eq_nil_of_length_eq_zero h0
  subst this
  refine(Tryz.clone173_nil 0 0 w).mono ?_
  rintro e w' ⟨rfl,rfl⟩
  exact fin _ _ ⟨rfl, .inl ⟨rfl,rfl⟩⟩ (RowKit.Below.refl _ _)
 ·have:l=[]:=List.eq_nil_of_length_eq_zero h0
  subst this
  refine(Tryz.clone173_zero ad cap w).mono ?_
  rintro e w' ⟨v',rfl,ho,_,hb⟩
  exact fin _ _ ho hb
 ·refine(Tryz.clone173 b off l.length cap l w (Nat.le_refl _) (by omega) (fun j hj=>hk j _ (by rw[hfl,List.getElem?_map,List.getElem?_eq_getElem hj];simp[List.getD_eq_getElem?_getD,List.getElem?_eq_getElem hj]))).mono ?_
  rintro e w' ⟨v',rfl,ho,_,hb⟩
  rw[List.take_of_length_le (Nat.le_refl _)] at ho
  exact fin _ _ ho hb
abbrev W84:=W83.add Kn9
def J2n:Con:={args:=[aEv],ress:=[(true,sEv)],owns:=[],pre:=fun(e,_)=>[e.2.2.1.length≤1000000,e.2.2.2.1.length≤1000000],spec:=fun(e,_)=>(e,())}
def Jc4 (a:Ls) (b:Li):=Jaf a∧Z45 b
theorem K1n:Ok Tryz.prog 81 J2n:=okW W84 Tryz.f81 na fun xx=>by
 obtain⟨⟨(n:Int),(k:ByteArray),(ns:List ByteArray),(vs:List Int),(tx:ByteArray)⟩,_⟩:=xx
 refine(by kernel_rfl:(Jaf ns→Z45 vs→Jc4 ns vs∧(n,k,ns,vs,tx)=(n,k,ns,vs,tx))=_).mp ?_
 delta Z45 Jaf Jc4
 exact fun h1 h2=>⟨⟨h1,h2⟩,rfl⟩
abbrev W85:=W84.add K1n
def Jgs (T:TypeId) (s:Sch):Con:={args:=[.val false (.list T s)],ress:=[(false, .list T s)],owns:=[true],pre:=fun(l,_)=>[l.length≤1000000],spec:=fun(l,_)=>(l,())}
theorem Kae:Ok Tryz.prog 216 (Jgs 127 Dk):=okW W85 Tryz.f216 na fun xx=>by
 obtain⟨(l:List Sta),_⟩:=xx
 refine(by kernel_rfl:(Z58 l→((0≤Ln l∧Ln l≤1000000)∧Ln l≤Ln l∧Ln l≤1000000)∧List.length l=List.length (List.replicate (List.length l) Z8)∧l=l)=_).mp ?_
 delta Z8 Z58 Ln B0
 intro h
 exact⟨⟨⟨by omega,by omega⟩,by omega,by omega⟩,by simp,rfl⟩
abbrev W86:=W85.add Kae
theorem Kad:Ok Tryz.prog 217 (Jgs 130 Hk):=okW W86 Tryz.f217 na fun xx=>by
 obtain⟨(l:List Ord),_⟩:=xx
 refine(by kernel_rfl:(Z53 l→((0≤Ln l∧Ln l≤1000000)∧Ln l≤Ln l∧Ln l≤1000000)∧List.length l=List.length (List.replicate (List.length l) Jc3)∧l=l)=_).mp ?_
 delta Z53 Z65 Jc3 Ln B0
 intro h
 exact⟨⟨⟨by omega,by omega⟩,by omega,by omega⟩,by simp,rfl⟩
abbrev W87:=W86.add Kad
theorem Kac:Ok Tryz.prog 218 (Jgs 155 Dx):=okW W87 Tryz.f218 na fun xx=>by
 obtain⟨(l:List Met),_⟩:=xx
 refine(by kernel_rfl:(List.length l≤1000000→((0≤Ln l∧Ln l≤1000000)∧Ln l≤Ln l∧Ln l≤1000000)∧List.length l=List.length (List.replicate (List.length l) Js1)∧l=l)=_).mp ?_
 delta Z65 Js1 Ln B0
 intro h
 exact⟨⟨⟨by omega,by omega⟩,by omega,by omega⟩,by simp,rfl⟩
abbrev W88:=W87.add Kac
theorem Kab:Ok Tryz.prog 219 (Jgs 188 X6):=okW W88 Tryz.f219 na fun xx=>by
 obtain⟨(l:List Out),_⟩:=xx
 refine(by kernel_rfl:(Z48 l→((0≤Ln l∧Ln l≤1000000)∧Ln l≤Ln l∧Ln l≤1000000)∧List.length l=List.length (List.replicate (List.length l) Jdd)∧l=l)=_).mp ?_
 delta Z48 Jdd Ln B0
 intro h
 exact⟨⟨⟨by omega,by omega⟩,by omega,by omega⟩,by simp,rfl⟩
abbrev W89:=W88.add Kab
theorem Kaa:Ok Tryz.prog 220 (Jgs 235 Zy):=okW W89 Tryz.f220 na fun xx=>by
 obtain⟨(l:List Per),_⟩:=xx
 refine(by kernel_rfl:(Z52 l→((0≤Ln l∧Ln l≤1000000)∧Ln l≤Ln l∧Ln l≤1000000)∧List.length l=List.length (List.replicate (List.length l) (B0,B0,false))∧l=l)=_).mp ?_
 delta Z52 Ln B0
 intro h
 exact⟨⟨⟨by omega,by omega⟩,by omega,by omega⟩,by simp,rfl⟩
abbrev W90:=W89.add Kaa
end Go.Proofs.YtcibbcfiemeoiaaGreatDoor
namespace Go.Proofs.Tryz
open Go.Proofs.YtcibbcfiemeoiaaGreatDoor
def kindsU:List (ByteArray×K1h):=[(J0,[],0,none,none,none),
 (Js,[(0,false)],2,some 148,some 149,some 150),
 (Kv,[(0,true)],2,some 152,some 153,some 150),
 (Ke,[(1,false),(0,true),(0,true)],4,some 154,some 155,some 156),
 (Kq,[(1,true)],4,some 157,some 158,some 156),
 (Vf,[(1,true)],1,some 159,some 160,some 156),
 (Jt,[(2,false),(0,true)],4,some 161,some 162,some 163),
 (Jo,[(2,true)],1,some 164,some 165,some 163),
 (J6,[(3,false),(2,true)],1,some 166,some 167,some 168),
 (J5,[(3,true)],1,some 169,some 170,some 168),
 (Jh,[],2,some 171,some 172,none)]
end Go.Proofs.Tryz
namespace Go.Proofs.YtcibbcfiemeoiaaGreatDoor
open Go.Sx
def J44:Jmf:={kT:=9,gk:=false,gv:=true,ks:= .str,vs:=J93,l:=Tryz.kindsU}
theorem Kmn:Ok Tryz.prog 80 (Jmf.con J44):=Kmo
abbrev W91:=W90.add Kmn
abbrev Kn:=List Ev×List Ev×List Reg
abbrev Jis:Sch:= .prod (.list 67 sEv) (.prod (.list 67 sEv) (.list 105 Jm3))
def U0:Reg:=(0,0,[],[],[],[],[])
def ev0:Ev:=(0,Ja,[],[],Ja)
def Kd (G:List Reg):Reg:=G.getD (G.length-1) U0
structure Kf (h:Kn):Prop where
 nE:h.1.length≤1000
 nC:h.2.1.length≤h.1.length
 nG:h.2.2.length=h.2.1.length
 reg:∀r∈h.2.2,Jl r
def Kk (r:Reg) (ns:List ByteArray):List (Int×Bool)→Nat→Bool
 |[],_=>false
 |(w,b)::l,i=>bif (bif b then !Vi r w (ns.getD i Ja) else false) then true else Kk r ns l (i+1)
def Ky (r:Reg) (ns:List ByteArray):List (Int×Bool)→Nat→Bool
 |[],_=>false
 |(w,b)::l,i=>bif (bif !b then Vi r w (ns.getD i Ja) else false) then true else Ky r ns l (i+1)
def ckS (r:Reg) (e:Ev):Int:=match(Jj e.2.1).2.2.1 with
 |some 148=>Jl4 r.2.2.1 e.2.2.2.1
 |some 152=>Jn0 e.2.2.2.1
 |some 154=>Jb6 r.2.2.1 r.2.2.2.1 r.2.2.2.2.2.1 e
 |some 157=>Jl5 r.2.2.2.1 r.2.2.2.2.1 e.2.2.1 e.2.2.2.1
 |some 159=>Jcw r.2.2.2.1 e.2.2.1 e.2.2.2.1
 |some 161=>Jb5 r.2.2.1 r.2.2.2.1 r.2.2.2.2.2.1 e
 |some 164=>Jcx r.2.2.2.2.2.1 r.2.2.2.2.2.2 e.2.2.1 e.2.2.2.1
 |some 166=>Jcy r.2.2.2.2.2.1 r.2.2.2.2.2.2 e.2.2.1 e.2.2.2.1
 |some 169=>Jnz r.2.2.2.2.2.2 e.2.2.1
 |some 171=>Lq r.2.1 r.2.2.2.1 r.2.2.2.2.1 r.2.2.2.2.2.1 r.2.2.2.2.2.2 e.2.2.2.1
 |_=>0
def L1 (h:Kn) (e:Ev):Int:=
 bif e.1 !=(h.1.length:Int)+1 then 11 else
 bif e.2.1.toList==J0.toList then(bif (h.2.1.length:Int)==0 then 12 else bif (h.2.1.getD (h.2.1.length-1) ev0).2.1.toList==Jh.toList then 21 else 0) else
 bif decide (e.2.2.2.1.getD 0 0<(Kd h.2.2).1) then 22 else
 bif Kk (Kd h.2.2) e.2.2.1 (Jj e.2.1).1 0 then 10 else
 bif Ky (Kd h.2.2) e.2.2.1 (Jj e.2.1).1 0 then 9 else ckS (Kd h.2.2) e
def Jp0:Xx:={T? :=none,s:=Jis,args:=[aEv],ress:=[I],pre:=fun h (e,_)=>[Kf h,Jb e=0],spec:=fun h (e,_)=>(L1 h e,()),post:=fun h _=>h}
abbrev Xl (m:Nat):Nat→Option Ann:=fun i=>if i=0∨i=2 then some {X:=Unit,σ:=fun _=>⟨0,[],[]⟩,inv:=fun _=>True,mu:=fun _=>0,un:=m} else none
def Jqc (h:Kn) (n:Int) (ns:List ByteArray) (vs:List Int) (roles:List (Int×Bool)) (ck:Int):Int:=
 bif n !=(h.1.length:Int)+1 then 11 else
 bif decide (vs.getD 0 0<(Kd h.2.2).1) then 22 else
 bif Kk (Kd h.2.2) ns roles 0 then 10 else
 bif Ky (Kd h.2.2) ns roles 0 then 9 else ck
theorem Y1 {h:Kn} {n:Int} {k:ByteArray} {ns:List ByteArray} {vs:List Int} {tx:ByteArray} (h1:(k.toList==J0.toList)=false):L1 h (n,k,ns,vs,tx)=Jqc h n ns vs (Jj k).1 (ckS (Kd h.2.2) (n,k,ns,vs,tx)):=by
 unfold L1 Jqc
 dsimp only
 rw[h1];rfl
theorem K2:Jj Js=([(0,false)],2,some 148,some 149,some 150):=by kernel_rfl
theorem U8:Jj Kv=([(0,true)],2,some 152,some 153,some 150):=by kernel_rfl
theorem Uj:Jj Ke=([(1,false),(0,true),(0,true)],4,some 154,some 155,some 156):=by kernel_rfl
theorem Uk:Jj Kq=([(1,true)],4,some 157,some 158,some 156):=by kernel_rfl
theorem Vg:Jj Vf=([(1,true)],1,some 159,some 160,some 156):=by kernel_rfl
theorem Km:Jj Jt=([(2,false),(0,true)],4,some 161,some 162,some 163):=by kernel_rfl
theorem J8:Jj Jo=([(2,true)],1,some 164,some 165,some 163):=by kernel_rfl
theorem Ku:Jj J6=([(3,false),(2,true)],1,some 166,some 167,some 168):=by kernel_rfl
theorem Kt:Jj J5=([(3,true)],1,some 169,some 170,some 168):=by kernel_rfl
theorem Us:Jj Jh=([],2,some 171,some 172,none):=by kernel_rfl
theorem F2:Jj J0=([],0,none,none,none):=by kernel_rfl
theorem Jfa {r:Reg} {s:ByteArray}:Vi r 0 s=decide (0≤Jy r.2.2.1 s):=rfl
theorem Jgn {r:Reg} {s:ByteArray}:Vi r 1 s=decide (0≤Kw r.2.2.2.1 s):=rfl
theorem Je9 {r:Reg} {s:ByteArray}:Vi r 2 s=decide (0≤J7 r.2.2.2.2.2.1 s):=rfl
theorem Jgm {r:Reg} {s:ByteArray}:Vi r 3 s=decide (0≤Uy r.2.2.2.2.2.2 s):=rfl
structure J71 (e:Ev):Prop where
 num:1≤e.1∧e.1≤1000
 kind:Yw e.2.1=true
 nn:e.2.2.1.length=(Jj e.2.1).1.length
 nv:(e.2.2.2.1.length:Int)=(Jj e.2.1).2.1
 name:∀s∈e.2.2.1,Yo s=true
 val:EvV e
 txt:e.2.2.2.2.size=0
theorem Ux {l:List Int}:Jg l=0↔∀x∈l,x=0:=by
 induction l with
 |nil=>simp[Jg]
 |cons x l ih=>
  unfold Jg
  by_cases h:x=0
  ·rw[if_pos h,ih];simp[h]
  ·rw[if_neg h];simp[h]
theorem Ym {n a b:Int}:Kj n a b=0↔a≤n∧n≤b:=by
 unfold Kj
 by_cases h1:n<a
 ·simp[h1];omega
 ·by_cases h2:b<n
  ·simp[h2]
  ·simp[h1,h2];omega
theorem Uo {e:Ev} (h:Jb e=0):J71 e:=by
 unfold Jb at h
 by_cases h1:Kj e.1 1 1000≠0
 ·rw[if_pos h1] at h;exact absurd h h1
 rw[if_neg h1] at h
 cases hk:Yw e.2.1 with
 |false=>rw[hk] at h;cases h
 | true =>
  rw[hk,cond_true] at h
  by_cases h2:e.2.2.1.length=(Jj e.2.1).1.length∧(e.2.2.2.1.length:Int)=(Jj e.2.1).2.1
  ·rw[if_pos h2] at h
   have h3:=Ux.1 h
   have n1:=Ux.1 (h3 _ (List.mem_cons_self ..))
   have n2:=Ux.1 (h3 _ (List.mem_cons_of_mem _ (List.mem_cons_self ..)))
   have n3:=h3 _ (List.mem_cons_of_mem _ (List.mem_cons_of_mem _ (List.mem_cons_self ..)))
   refine⟨Ym.1 (by omega),hk,h2.1,h2.2,fun s hs=> ?_,fun v hv=>Ym.1 (n2 _ (List.mem_map_of_mem hv)), ?_⟩
   ·have:=n1 _ (List.mem_map_of_mem hs)
    cases hn:Yo s with
    |true=>rfl
    |false=>rw[hn] at this;cases this
   ·by_cases h4:0<e.2.2.2.2.size
    ·rw[decide_eq_true h4] at n3;cases n3
    ·omega
  ·rw[if_neg h2] at h;cases h
theorem X3 {h:Kn} (hh:Kf h):Jl (Kd h.2.2):=by
 unfold Kd
 by_cases h0:0<h.2.2.length
 ·exact hh.reg _ (Jc (by omega))
 ·have:h.2.2=[]:=List.eq_nil_of_length_eq_zero (by omega)
  rw[this]
  exact⟨by decide,by decide,by decide,by decide,by decide,by decide,by decide,fun _ h=>(by cases h),fun _ h=>(by cases h),fun _ h=>(by cases h),fun _ h=>(by cases h),fun _ h=>(by cases h),fun _ h=>(by cases h)⟩
theorem Kl {G:List Reg} (h:decide (0<(G.length:Int))=false):Kd G=U0:=by
 have h:¬0<(G.length:Int):=of_decide_eq_false h
 have:G=[]:=List.eq_nil_of_length_eq_zero (by omega)
 rw[this];rfl
theorem Hq:((0,0,[],[],[],[],[]):Reg)=U0:=rfl
theorem Jhb (G:List Reg):G.getD (G.length-1) U0=Kd G:=rfl
theorem Hx {E C:List Ev} {G:List Reg} {e:Ev} (hh:Kf (E,C,G)) (hc:Jb e=0):e.2.2.1.length=(Jj e.2.1).1.length∧(e.2.2.2.1.length:Int)=(Jj e.2.1).2.1∧Jl (Kd G)∧Jl U0∧E.length≤1000∧C.length≤E.length∧G.length=C.length∧((G.length:Int)-1).toNat=G.length-1∧EvV e:=
 have hE:=Uo hc
 ⟨hE.nn,hE.nv,X3 hh,X3 (h:=([],[],[])) ⟨by decide,by decide,rfl,fun _ h=>(by cases h)⟩,hh.nE,hh.nC,hh.nG,by omega,hE.val⟩
def Z0 (a:List Ev):=Ln a==0
def Z2 (a:Int) (b:Ls) (c:Li) (d:Bt):=(a,J0,b,c,d)
def Z3 (a:List Ev):=Ln a-1
def Z6 (a:List Ev):=Ln a+1
def Z26:=Iw ((0:Int)+1)
def Z42:=Tw (Bd 0 0)
def Z60 (a:List Ev):=Iw (Z3 a)
def Z62 (a:List Ev):=Iw (Z6 a)
def Z87 (a:Li):=Tw (Z24 a)
def V5 (a:List Reg):=decide (0<Ln a)
def J3b:=Z26∧False
def Jsc (a b:List Ev) (c:List Reg) (d:Int) (e:Ls) (f:Li) (g:Bt):=L1 (a,b,c) (Z2 d e f g)
def D4:Int×ByteArray×List ByteArray×List Int×ByteArray:=((0:Int),B0,[],[],B0)
def Jgc (a:Li):=decide (U2 a<0)
def L5:Int×List Sta×List Ord×List Met×List Out×List Per:=((0:Int),[],[],[],[],[])
def Jgb (a:Int) (b:List Ev):=a !=Z6 b
def Jga (a:List Ev):=Z60 a∧Tw (Bd (Z3 a) (Ln a))
def V4 (a:List Reg):=Iw (Ln a-1)∧Tw (Bd (Ln a-1) (Ln a))
def Vw:=((0:Int),L5)
def Yv:=Jl Vw
def Jdy:=true=true→Yv
def Jbc:=false=true→Yv
def D2 (a:List Reg):=Gt a (Ln a-1) Vw
def Jae (a:List Reg):=(D2 a).1
def D1 (a:List Reg):=(D2 a).2
def Ho (a:List Reg):=(D1 a).2
def Fp (a:List Reg):=(D1 a).1
def Hn (a:List Reg):=(Ho a).2
def L4 (a:List Reg):=(Hn a).2
def Zx (a:List Reg):=(L4 a).2
def J2z (a:Ls):=Vi Vw 0 (Z83 a)
def Jf9 (a:List Ev):=bif Lb (Gt a (Z3 a) D4).2.1 Jh then(21:Int) else(0:Int)
def J8h (a:Ls):=bif true then J2z a else false
def Jf8 (a:Li) (b:List Reg):=decide (U2 a<Jae b)
def Jf7 (a:Ls):=T2 (true=true→Z84 a) Jdy
def Jf6 (a:Ls):=T2 (false=true→Z84 a) Jbc
def Kva (a:TypeId) (b c:List Ev) (d:List Reg) (e:Int) (f:Ls) (g:Li) (h:Bt):=Br false (Sf true (Sf a (Sf (b,c,d) (10=Jsc b c d e f g h)))) J3b
def Fo (a:List Reg):=(Fp a,(Ho a).1,(Hn a).1,(L4 a).1,E2 (Zx a))
def Yf (a:List Reg):=(Jae a,Fo a)
def Y3 (a:List Reg):=Jl (Yf a)
def Jdu (a:List Reg):=true=true→Y3 a
def Jcb (a:List Reg):=false=true→Y3 a
def Jmc (a:List Reg) (b:Ls):=Vi (Yf a) 0 (Z83 b)
def Jsj (a:List Reg) (b:Ls):=bif true then Jmc a b else false
def Hb (a:Ls) (b:List Reg):=T2 (true=true→Z84 a) (Jdu b)
def Ha (a:Ls) (b:List Reg):=T2 (false=true→Z84 a) (Jcb b)
theorem Jqx (T:TypeId) (E C:List Ev) (G:List Reg) (n:Int) (ns:List ByteArray) (vs:List Int) (tx:ByteArray):wpFO Tryz.prog W91.g (Xl 1) (fun _=>na ()) (Sx.look ([(75,Tryz.f75)]:List (Nat×Func))) Tryz.f130 Jp0 T (E,C,G) ((n,J0,ns,vs,tx),()):=by
 refine(by kernel_rfl:(Kf (E,C,G)→Jb (Z2 n ns vs tx)=0→Z62 E∧Br (Jgb n E) (Sf true (Sf T (Sf (E,C,G) (11=Jsc E C G n ns vs tx)))) (Br true (Br (Z0 C) (Sf true (Sf T (Sf (E,C,G) (12=Jsc E C G n ns vs tx)))) (Jga C∧Sf true (Sf T (Sf (E,C,G) (Jf9 C=Jsc E C G n ns vs tx))))) (Br (V5 G) (V4 G∧Z87 vs∧Br (Jf8 vs G) (Sf true (Sf T (Sf (E,C,G) (22=Jsc E C G n ns vs tx)))) (Br false (Z42∧Ha ns G∧Kva T E C G n ns vs tx) (Br false (Z42∧Hb ns G∧Br (Jsj G ns) (Sf true (Sf T (Sf (E,C,G) (9=Jsc E C G n ns vs tx)))) J3b) (False∧Sf true False)))) (Z87 vs∧Br (Jgc vs) (Sf true (Sf T (Sf (E,C,G) (22=Jsc E C G n ns vs tx)))) (Br false (Z42∧Jf6 ns∧Kva T E C G n ns vs tx) (Br false (Z42∧Jf7 ns∧Br (J8h ns) (Sf true (Sf T (Sf (E,C,G) (9=Jsc E C G n ns vs tx)))) J3b) (False∧Sf true False)))))))=_).mp ?_
 delta Z0 Z2 Z3 Z6 Z24 Z26 Z42 Z60 Z62 Z83 Z84 Z87 U2 V5 J3b Jsc D4 Jgc L5 Jgb Jga V4 Vw Yv Jdy Jbc D2 Jae D1 Ho Fp Hn L4 Zx J2z Jf9 J8h Jf8 Jf7 Jf6 Kva Fo Yf Y3 Jdu Jcb Jmc Jsj Hb Ha Br Iw Bd T2 Tw Sf Ln Gt B0 Lb E2 Jh J0
 intro hh hc
 have hE:=Uo hc
 have n1:E.length≤1000:=hh.nE
 have n2:C.length≤E.length:=hh.nC
 have eA:L1 (E,C,G) (n,J0,ns,vs,tx)=bif n !=(E.length:Int)+1 then 11 else(bif (C.length:Int)==0 then 12 else bif (C.getD (C.length-1) ev0).2.1.toList==Jh.toList then 21 else 0):=by
  unfold L1
  dsimp only
  rw[show(J0.toList==J0.toList)=true from by kernel_rfl];rfl
 refine⟨by omega,fun h=>⟨rfl,rfl,rfl, ?_⟩,fun h=>⟨fun _=>⟨fun h2=>⟨rfl,rfl,rfl, ?_⟩,fun h2=> ?_⟩,fun h=>(by cases h)⟩⟩
 ·rw[eA,h];rfl
 ·rw[eA,h,h2];rfl
 ·have h3:¬C.length=0:=fun e=>by rw[e] at h2;cases h2
  have h4:((C.length:Int)-1).toNat=C.length-1:=by omega
  refine⟨⟨⟨by omega,by omega⟩,⟨by omega,by omega⟩,⟨by omega,by omega⟩⟩,rfl,rfl,rfl, ?_⟩
  rw[eA,h,h2,h4];rfl
def Z29 (a:Int) (b:Ls) (c:Li) (d:Bt):=(a,Js,b,c,d)
def Z49:=Tw (Bd 0 1)
def Jod:=(0:Int)+1+1
def Jgd:=Iw Jod
def Jag:=Tw (Bd ((0:Int)+1) 1)
def Jqg (a b:List Ev) (c:List Reg) (d:Int) (e:Ls) (f:Li) (g:Bt):=L1 (a,b,c) (Z29 d e f g)
def Jd1:=Jgd∧False
def Jxg (a:Ls):=true=true→Bd ((0:Int)+1) (Ln a)
def Jxf (a:Ls):=false=true→Bd ((0:Int)+1) (Ln a)
def J8o (a:Li):=Yv∧Z57 a
def Jya (a:Ls):=Vi Vw 0 (Z97 a)
def Kd0 (a:TypeId) (b c:List Ev) (d:List Reg) (e:Int) (f:Ls) (g:Li) (h:Bt):=Sf true (Sf a (Sf (b,c,d) (9=Jqg b c d e f g h)))
def Khw (a:TypeId) (b c:List Ev) (d:List Reg) (e:Int) (f:Ls) (g:Li) (h:Bt):=Sf true (Sf a (Sf (b,c,d) (10=Jqg b c d e f g h)))
def Jsv (a:Ls):=bif true then Jya a else false
def Jj7 (a:Ls):=T2 (Jxg a) Jdy
def Jj6 (a:Ls):=T2 (Jxf a) Jbc
def Kuz (a:TypeId) (b c:List Ev) (d:List Reg) (e:Int) (f:Ls) (g:Li) (h:Bt):=Br false (Khw a b c d e f g h) Jd1
def Kuf (a:Li) (b:TypeId) (c d:List Ev) (e:List Reg) (f:Int) (g:Ls) (h:Bt):=J8o a∧Sf true (Sf b (Sf (c,d,e) (Jl4 [] a=Jqg c d e f g a h)))
def J78 (a:List Reg) (b:Li):=Y3 a∧Z57 b
def Jgv (a:List Reg) (b:Ls):=Vi (Yf a) 0 (Z97 b)
def Jde (a:List Reg) (b:Ls):=bif true then Jgv a b else false
def L3 (a:Ls) (b:List Reg):=T2 (Jxg a) (Jdu b)
def L2 (a:Ls) (b:List Reg):=T2 (Jxf a) (Jcb b)
def J7q (a:List Reg) (b:Li) (c:TypeId) (d e:List Ev) (f:Int) (g:Ls) (h:Bt):=J78 a b∧Sf true (Sf c (Sf (d,e,a) (Jl4 (Ho a).1 b=Jqg d e a f g b h)))
def J69 (a:Ls) (b:TypeId) (c d:List Ev) (e:List Reg) (f:Int) (g:Li) (h:Bt):=Br true (Z49∧Jf7 a∧Br (J8h a) (Kd0 b c d e f a g h) (Z26∧Br false (Jag∧Jj7 a∧Br (Jsv a) (Kd0 b c d e f a g h) Jd1) (Kuf g b c d e f a h))) (Kuf g b c d e f a h)
def J6v (a:Ls) (b:List Reg) (c:TypeId) (d e:List Ev) (f:Int) (g:Li) (h:Bt):=Br true (Z49∧Hb a b∧Br (Jsj b a) (Kd0 c d e b f a g h) (Z26∧Br false (Jag∧L3 a b∧Br (Jde b a) (Kd0 c d e b f a g h) Jd1) (J7q b g c d e f a h))) (J7q b g c d e f a h)
theorem Jh3 (T:TypeId) (E C:List Ev) (G:List Reg) (n:Int) (ns:List ByteArray) (vs:List Int) (tx:ByteArray):wpFO Tryz.prog W91.g (Xl 2) (fun _=>na ()) (Sx.look ([(75,Tryz.f75)]:List (Nat×Func))) Tryz.f130 Jp0 T (E,C,G) ((n,Js,ns,vs,tx),()):=by
 refine(by kernel_rfl:(Kf (E,C,G)→Jb (Z29 n ns vs tx)=0→Z62 E∧Br (Jgb n E) (Sf true (Sf T (Sf (E,C,G) (11=Jqg E C G n ns vs tx)))) (Br false (Br (Z0 C) (Sf true (Sf T (Sf (E,C,G) (12=Jqg E C G n ns vs tx)))) (Jga C∧Sf true (Sf T (Sf (E,C,G) (Jf9 C=Jqg E C G n ns vs tx))))) (Br (V5 G) (V4 G∧Z87 vs∧Br (Jf8 vs G) (Sf true (Sf T (Sf (E,C,G) (22=Jqg E C G n ns vs tx)))) (Br true (Z49∧Ha ns G∧Br false (Khw T E C G n ns vs tx) (Z26∧Br false (Jag∧L2 ns G∧Kuz T E C G n ns vs tx) (J6v ns G T E C n vs tx))) (J6v ns G T E C n vs tx))) (Z87 vs∧Br (Jgc vs) (Sf true (Sf T (Sf (E,C,G) (22=Jqg E C G n ns vs tx)))) (Br true (Z49∧Jf6 ns∧Br false (Khw T E C G n ns vs tx) (Z26∧Br false (Jag∧Jj6 ns∧Kuz T E C G n ns vs tx) (J69 ns T E C G n vs tx))) (J69 ns T E C G n vs tx))))))=_).mp ?_
 delta Z0 Z3 Z6 Z24 Z26 Z29 Z49 Z57 Z60 Z62 Z83 Z84 Z87 Z97 U2 V5 Jod Jgd Jag Jqg Jd1 D4 Jgc Jxg Jxf L5 Jgb Jga V4 Vw Yv Jdy Jbc D2 Jae D1 J8o Ho Fp Hn L4 Zx Jya J2z Jf9 Kd0 Khw J8h Jsv Jf8 Jf7 Jf6 Jj7 Jj6 Kuz Kuf Fo Yf Y3 Jdu Jcb J78 Jgv Jmc Jsj Jde Hb Ha L3 L2 J7q J69 J6v Br Iw Bd T2 Tw Sf Ln Gt B0 Lb E2 Jh Js
 intro hh hc
 have eK:=Y1 (h:=(E,C,G)) (n:=n) (k:=Js) (ns:=ns) (vs:=vs) (tx:=tx) (by kernel_rfl)
 obtain⟨hn,hv,hR,hr0,n1,n2,n3,hG,hV⟩:=Hx hh hc
 simp only[K2,ckS,List.length_cons,List.length_nil] at eK hn hv
 rw[eK]
 simp only[hG,Jhb,Hq,Prod.eta,Jqc,Kk,Ky,Jfa,Jgn,Je9,Jgm,cond_true,cond_false,Bool.not_true,Bool.not_false,Ja]
 repeat' first|apply And.intro|exact hV|intro _
 all_goals first|trivial|omega|assumption|(rename_i h;have h:=of_decide_eq_true h;omega)|(simp only[*,cond_true,cond_false,Bool.not_true,Bool.not_false];done)|(rw[Kl ‹_›];(first|have e1:decide (vs.getD 0 0<U0.1)=true:=‹_›|have e1:decide (vs.getD 0 0<U0.1)=false:=‹_›);simp only[*,cond_true,cond_false,Bool.not_true,Bool.not_false];first|done|rfl)|(simp only[Bool.not_eq_false',decide_eq_true_eq] at*;assumption)
def Z10 (a:Int) (b:Ls) (c:Li) (d:Bt):=(a,Kv,b,c,d)
def Jsa (a b:List Ev) (c:List Reg) (d:Int) (e:Ls) (f:Li) (g:Bt):=L1 (a,b,c) (Z10 d e f g)
def Khz (a:TypeId) (b c:List Ev) (d:List Reg) (e:Int) (f:Ls) (g:Li) (h:Bt):=Sf true (Sf a (Sf (b,c,d) (10=Jsa b c d e f g h)))
def Kd2 (a:TypeId) (b c:List Ev) (d:List Reg) (e:Int) (f:Ls) (g:Li) (h:Bt):=Sf true (Sf a (Sf (b,c,d) (9=Jsa b c d e f g h)))
def J8g (a:Ls):=bif true then !J2z a else false
def Kdk (a:Li) (b:TypeId) (c d:List Ev) (e:List Reg) (f:Int) (g:Ls) (h:Bt):=Z57 a∧Sf true (Sf b (Sf (c,d,e) (Jn0 a=Jsa c d e f g a h)))
def Ku5 (a:TypeId) (b c:List Ev) (d:List Reg) (e:Int) (f:Ls) (g:Li) (h:Bt):=Br false (Khz a b c d e f g h) Jd1
def Jsh (a:List Reg) (b:Ls):=bif true then !Jmc a b else false
def J7f (a:Ls) (b:TypeId) (c d:List Ev) (e:List Reg) (f:Int) (g:Li) (h:Bt):=Br true (Z49∧Jf6 a∧Br false (Kd2 b c d e f a g h) (Z26∧Br false (Jag∧Jj7 a∧Br (Jsv a) (Kd2 b c d e f a g h) Jd1) (Kdk g b c d e f a h))) (Kdk g b c d e f a h)
def J60 (a:Ls) (b:List Reg) (c:TypeId) (d e:List Ev) (f:Int) (g:Li) (h:Bt):=Br true (Z49∧Ha a b∧Br false (Kd2 c d e b f a g h) (Z26∧Br false (Jag∧L3 a b∧Br (Jde b a) (Kd2 c d e b f a g h) Jd1) (Kdk g c d e b f a h))) (Kdk g c d e b f a h)
theorem Jmq (T:TypeId) (E C:List Ev) (G:List Reg) (n:Int) (ns:List ByteArray) (vs:List Int) (tx:ByteArray):wpFO Tryz.prog W91.g (Xl 2) (fun _=>na ()) (Sx.look ([(75,Tryz.f75)]:List (Nat×Func))) Tryz.f130 Jp0 T (E,C,G) ((n,Kv,ns,vs,tx),()):=by
 refine(by kernel_rfl:(Kf (E,C,G)→Jb (Z10 n ns vs tx)=0→Z62 E∧Br (Jgb n E) (Sf true (Sf T (Sf (E,C,G) (11=Jsa E C G n ns vs tx)))) (Br false (Br (Z0 C) (Sf true (Sf T (Sf (E,C,G) (12=Jsa E C G n ns vs tx)))) (Jga C∧Sf true (Sf T (Sf (E,C,G) (Jf9 C=Jsa E C G n ns vs tx))))) (Br (V5 G) (V4 G∧Z87 vs∧Br (Jf8 vs G) (Sf true (Sf T (Sf (E,C,G) (22=Jsa E C G n ns vs tx)))) (Br true (Z49∧Hb ns G∧Br (Jsh G ns) (Khz T E C G n ns vs tx) (Z26∧Br false (Jag∧L2 ns G∧Ku5 T E C G n ns vs tx) (J60 ns G T E C n vs tx))) (J60 ns G T E C n vs tx))) (Z87 vs∧Br (Jgc vs) (Sf true (Sf T (Sf (E,C,G) (22=Jsa E C G n ns vs tx)))) (Br true (Z49∧Jf7 ns∧Br (J8g ns) (Khz T E C G n ns vs tx) (Z26∧Br false (Jag∧Jj6 ns∧Ku5 T E C G n ns vs tx) (J7f ns T E C G n vs tx))) (J7f ns T E C G n vs tx))))))=_).mp ?_
 delta Z0 Z3 Z6 Z10 Z24 Z26 Z49 Z57 Z60 Z62 Z83 Z84 Z87 Z97 U2 V5 Jod Jgd Jag Jsa Jd1 D4 Jgc Jxg Jxf L5 Jgb Jga V4 Vw Yv Jdy Jbc D2 Jae D1 Ho Fp Hn L4 Zx Jya J2z Jf9 Khz Kd2 Jsv J8g Jf8 Jf7 Jf6 Jj7 Jj6 Kdk Ku5 Fo Yf Y3 Jdu Jcb Jgv Jmc Jde Jsh Hb Ha L3 L2 J7f J60 Br Iw Bd T2 Tw Sf Ln Gt B0 Lb E2 Kv Jh
 intro hh hc
 have eK:=Y1 (h:=(E,C,G)) (n:=n) (k:=Kv) (ns:=ns) (vs:=vs) (tx:=tx) (by kernel_rfl)
 obtain⟨hn,hv,hR,hr0,n1,n2,n3,hG,hV⟩:=Hx hh hc
 simp only[U8,ckS,List.length_cons,List.length_nil] at eK hn hv
 rw[eK]
 simp only[hG,Jhb,Hq,Prod.eta,Jqc,Kk,Ky,Jfa,Jgn,Je9,Jgm,cond_true,cond_false,Bool.not_true,Bool.not_false,Ja]
 repeat' first|apply And.intro|exact hV|intro _
 all_goals first|trivial|omega|assumption|(rename_i h;have h:=of_decide_eq_true h;omega)|(simp only[*,cond_true,cond_false,Bool.not_true,Bool.not_false];done)|(rw[Kl ‹_›];(first|have e1:decide (vs.getD 0 0<U0.1)=true:=‹_›|have e1:decide (vs.getD 0 0<U0.1)=false:=‹_›);simp only[*,cond_true,cond_false,Bool.not_true,Bool.not_false];first|done|rfl)|(simp only[Bool.not_eq_false',decide_eq_true_eq] at*;assumption)
def Z12 (a:Int) (b:Ls) (c:Li) (d:Bt):=(a,Ke,b,c,d)
def Z47:=Tw (Bd 0 3)
def Kfr:=Tw (Bd ((0:Int)+1) 3)
def Jql (a b:List Ev) (c:List Reg) (d:Int) (e:Ls) (f:Li) (g:Bt):=L1 (a,b,c) (Z12 d e f g)
def J6q:=Jod+1
def J27:=Iw J6q
def Kfk:=Tw (Bd Jod 3)
def Kfh (a:Ls):=0≤Jy [] (Jj2 a)
def Kff:=Tw (Bd J6q 3)
def K06 (a:Ls):=Bd J6q (Ln a)
def Kk4:=Iw (J6q+1)∧False
def Kfa (a:Ls):=true=true→Bd Jod (Ln a)
def Ke9 (a:Ls):=false=true→Bd Jod (Ln a)
def K0h (a:Ls):=true=true→K06 a
def K0g (a:Ls):=false=true→K06 a
def Keh (a:Ls):=Vi Vw 0 (Joe a)
def J8l (a:Ls):=Vi Vw 1 (Z83 a)
def J0x (a:TypeId) (b c:List Ev) (d:List Reg) (e:Int) (f:Ls) (g:Li) (h:Bt):=Sf true (Sf a (Sf (b,c,d) (9=Jql b c d e f g h)))
def J2x (a:TypeId) (b c:List Ev) (d:List Reg) (e:Int) (f:Ls) (g:Li) (h:Bt):=Sf true (Sf a (Sf (b,c,d) (10=Jql b c d e f g h)))
def Khs (a:Ls):=bif true then !Jya a else false
def Kdt (a:List Reg) (b:Ls):=0≤Jy (Ho a).1 (Jj2 b)
def J8e (a:Ls):=T2 (Kfa a) Jdy
def J8d (a:Ls):=T2 (Ke9 a) Jbc
def Kup (a:TypeId) (b c:List Ev) (d:List Reg) (e:Int) (f:Ls) (g:Li) (h:Bt):=Br false (J2x a b c d e f g h) Kk4
def Kc6 (a:Int) (b:Ls) (c:Li) (d:Bt) (e:TypeId) (f g:List Ev) (h:List Reg):=(Yv∧EvV (Z12 a b c d)∧Js2 b∧Z54 c∧Kfh b∧0≤Jy [] (J65 b))∧Sf true (Sf e (Sf (f,g,h) (Jb6 [] [] [] (Z12 a b c d)=Jql f g h a b c d)))
def Jsk (a:List Reg) (b:Ls):=Vi (Yf a) 1 (Z83 b)
def Jxp (a:List Reg) (b:Ls):=Vi (Yf a) 0 (Joe b)
def J1o (a:List Reg) (b:Ls):=bif true then !Jgv a b else false
def Jsg (a:Ls) (b:List Reg):=T2 (Kfa a) (Jdu b)
def Jsf (a:Ls) (b:List Reg):=T2 (Ke9 a) (Jcb b)
def Jxl (a:List Reg) (b:Int) (c:Ls) (d:Li) (e:Bt) (f:TypeId) (g h:List Ev):=(Y3 a∧EvV (Z12 b c d e)∧Js2 c∧Z54 d∧Kdt a c∧0≤Jy (Ho a).1 (J65 c))∧Sf true (Sf f (Sf (g,h,a) (Jb6 (Ho a).1 (Hn a).1 (Zx a).1 (Z12 b c d e)=Jql g h a b c d e)))
def Jxk (a:Ls) (b:TypeId) (c d:List Ev) (e:List Reg) (f:Int) (g:Li) (h:Bt):=Br true (Z47∧Jf7 a∧Br (bif true then J8l a else false) (J0x b c d e f a g h) (Z26∧Br true (Kfr∧Jj6 a∧Br false (J0x b c d e f a g h) (Jgd∧Br true (Kfk∧J8d a∧Br false (J0x b c d e f a g h) (J27∧Br false (Kff∧T2 (K0h a) Jdy∧Br (bif true then Vi Vw 0 (List.getD a 3 B0) else false) (J0x b c d e f a g h) Kk4) (Kc6 f a g h b c d e))) (Kc6 f a g h b c d e))) (Kc6 f a g h b c d e))) (Kc6 f a g h b c d e)
def Jxi (a:Ls) (b:List Reg) (c:TypeId) (d e:List Ev) (f:Int) (g:Li) (h:Bt):=Br true (Z47∧Hb a b∧Br (bif true then Jsk b a else false) (J0x c d e b f a g h) (Z26∧Br true (Kfr∧L2 a b∧Br false (J0x c d e b f a g h) (Jgd∧Br true (Kfk∧Jsf a b∧Br false (J0x c d e b f a g h) (J27∧Br false (Kff∧T2 (K0h a) (Jdu b)∧Br (bif true then Vi (Yf b) 0 (List.getD a 3 B0) else false) (J0x c d e b f a g h) Kk4) (Jxl b f a g h c d e))) (Jxl b f a g h c d e))) (Jxl b f a g h c d e))) (Jxl b f a g h c d e)
theorem Jmr (T:TypeId) (E C:List Ev) (G:List Reg) (n:Int) (ns:List ByteArray) (vs:List Int) (tx:ByteArray):wpFO Tryz.prog W91.g (Xl 4) (fun _=>na ()) (Sx.look ([(75,Tryz.f75)]:List (Nat×Func))) Tryz.f130 Jp0 T (E,C,G) ((n,Ke,ns,vs,tx),()):=by
 refine(by kernel_rfl:(Kf (E,C,G)→Jb (Z12 n ns vs tx)=0→Z62 E∧Br (Jgb n E) (Sf true (Sf T (Sf (E,C,G) (11=Jql E C G n ns vs tx)))) (Br false (Br (Z0 C) (Sf true (Sf T (Sf (E,C,G) (12=Jql E C G n ns vs tx)))) (Jga C∧Sf true (Sf T (Sf (E,C,G) (Jf9 C=Jql E C G n ns vs tx))))) (Br (V5 G) (V4 G∧Z87 vs∧Br (Jf8 vs G) (Sf true (Sf T (Sf (E,C,G) (22=Jql E C G n ns vs tx)))) (Br true (Z47∧Ha ns G∧Br false (J2x T E C G n ns vs tx) (Z26∧Br true (Kfr∧L3 ns G∧Br (J1o G ns) (J2x T E C G n ns vs tx) (Jgd∧Br true (Kfk∧Jsg ns G∧Br (bif true then !Jxp G ns else false) (J2x T E C G n ns vs tx) (J27∧Br false (Kff∧T2 (K0g ns) (Jcb G)∧Kup T E C G n ns vs tx) (Jxi ns G T E C n vs tx))) (Jxi ns G T E C n vs tx))) (Jxi ns G T E C n vs tx))) (Jxi ns G T E C n vs tx))) (Z87 vs∧Br (Jgc vs) (Sf true (Sf T (Sf (E,C,G) (22=Jql E C G n ns vs tx)))) (Br true (Z47∧Jf6 ns∧Br false (J2x T E C G n ns vs tx) (Z26∧Br true (Kfr∧Jj7 ns∧Br (Khs ns) (J2x T E C G n ns vs tx) (Jgd∧Br true (Kfk∧J8e ns∧Br (bif true then !Keh ns else false) (J2x T E C G n ns vs tx) (J27∧Br false (Kff∧T2 (K0g ns) Jbc∧Kup T E C G n ns vs tx) (Jxk ns T E C G n vs tx))) (Jxk ns T E C G n vs tx))) (Jxk ns T E C G n vs tx))) (Jxk ns T E C G n vs tx))))))=_).mp ?_
 delta Z0 Z3 Z6 Z12 Z24 Z26 Z47 Z54 Z60 Z62 Z83 Z84 Z87 Z97 Joe U2 V5 J65 Jod Jj2 Js2 Jgd Kfr Jql J6q D4 J27 Jgc Kfk Jxg Kfh Kff Jxf K06 L5 Kk4 Kfa Ke9 Jgb Jga V4 Vw Yv K0h K0g Jdy Jbc D2 Jae D1 Ho Fp Hn L4 Zx Keh J8l Jya Jf9 J0x J2x Khs Jf8 Jf7 Jf6 Kdt Jj7 Jj6 J8e J8d Kup Kc6 Fo Yf Y3 Jdu Jcb Jgv Jsk Jxp J1o Hb Ha L3 L2 Jsg Jsf Jxl Jxk Jxi Br Iw Bd T2 Tw Sf Ln Gt B0 Lb E2 Ke Jh
 intro hh hc
 have eK:=Y1 (h:=(E,C,G)) (n:=n) (k:=Ke) (ns:=ns) (vs:=vs) (tx:=tx) (by kernel_rfl)
 obtain⟨hn,hv,hR,hr0,n1,n2,n3,hG,hV⟩:=Hx hh hc
 simp only[Uj,ckS,List.length_cons,List.length_nil] at eK hn hv
 rw[eK]
 simp only[hG,Jhb,Hq,Prod.eta,Jqc,Kk,Ky,Jfa,Jgn,Je9,Jgm,cond_true,cond_false,Bool.not_true,Bool.not_false,Ja]
 repeat' first|apply And.intro|exact hV|intro _
 all_goals first|trivial|omega|assumption|(rename_i h;have h:=of_decide_eq_true h;omega)|(simp only[*,cond_true,cond_false,Bool.not_true,Bool.not_false];done)|(rw[Kl ‹_›];(first|have e1:decide (vs.getD 0 0<U0.1)=true:=‹_›|have e1:decide (vs.getD 0 0<U0.1)=false:=‹_›);simp only[*,cond_true,cond_false,Bool.not_true,Bool.not_false];first|done|rfl)|(simp only[Bool.not_eq_false',decide_eq_true_eq] at*;assumption)
def Z11 (a:Int) (b:Ls) (c:Li) (d:Bt):=(a,Kq,b,c,d)
def Jqm (a b:List Ev) (c:List Reg) (d:Int) (e:Ls) (f:Li) (g:Bt):=L1 (a,b,c) (Z11 d e f g)
def Kfg (a:Ls):=0≤Kw [] (Lu a)
def Kh0 (a:TypeId) (b c:List Ev) (d:List Reg) (e:Int) (f:Ls) (g:Li) (h:Bt):=Sf true (Sf a (Sf (b,c,d) (10=Jqm b c d e f g h)))
def Kd3 (a:TypeId) (b c:List Ev) (d:List Reg) (e:Int) (f:Ls) (g:Li) (h:Bt):=Sf true (Sf a (Sf (b,c,d) (9=Jqm b c d e f g h)))
def J8f (a:Ls):=bif true then !J8l a else false
def Kdn (a:List Reg) (b:Ls):=0≤Kw (Hn a).1 (Lu b)
def Ku2 (a:TypeId) (b c:List Ev) (d:List Reg) (e:Int) (f:Ls) (g:Li) (h:Bt):=Br false (Kh0 a b c d e f g h) Jd1
def Ktg (a:Ls) (b:Li) (c:TypeId) (d e:List Ev) (f:List Reg) (g:Int) (h:Bt):=(Yv∧Y4 a∧Z46 b∧Kfg a)∧Sf true (Sf c (Sf (d,e,f) (Jl5 [] [] a b=Jqm d e f g a b h)))
def Jsi (a:List Reg) (b:Ls):=bif true then !Jsk a b else false
def J7c (a:List Reg) (b:Ls) (c:Li) (d:TypeId) (e f:List Ev) (g:Int) (h:Bt):=(Y3 a∧Y4 b∧Z46 c∧Kdn a b)∧Sf true (Sf d (Sf (e,f,a) (Jl5 (Hn a).1 (L4 a).1 b c=Jqm e f a g b c h)))
def J67 (a:Ls) (b:TypeId) (c d:List Ev) (e:List Reg) (f:Int) (g:Li) (h:Bt):=Br true (Z49∧Jf6 a∧Br false (Kd3 b c d e f a g h) (Z26∧Br false (Jag∧Jj7 a∧Br (Jsv a) (Kd3 b c d e f a g h) Jd1) (Ktg a g b c d e f h))) (Ktg a g b c d e f h)
def J6x (a:Ls) (b:List Reg) (c:TypeId) (d e:List Ev) (f:Int) (g:Li) (h:Bt):=Br true (Z49∧Ha a b∧Br false (Kd3 c d e b f a g h) (Z26∧Br false (Jag∧L3 a b∧Br (Jde b a) (Kd3 c d e b f a g h) Jd1) (J7c b a g c d e f h))) (J7c b a g c d e f h)
theorem Jms (T:TypeId) (E C:List Ev) (G:List Reg) (n:Int) (ns:List ByteArray) (vs:List Int) (tx:ByteArray):wpFO Tryz.prog W91.g (Xl 2) (fun _=>na ()) (Sx.look ([(75,Tryz.f75)]:List (Nat×Func))) Tryz.f130 Jp0 T (E,C,G) ((n,Kq,ns,vs,tx),()):=by
 refine(by kernel_rfl:(Kf (E,C,G)→Jb (Z11 n ns vs tx)=0→Z62 E∧Br (Jgb n E) (Sf true (Sf T (Sf (E,C,G) (11=Jqm E C G n ns vs tx)))) (Br false (Br (Z0 C) (Sf true (Sf T (Sf (E,C,G) (12=Jqm E C G n ns vs tx)))) (Jga C∧Sf true (Sf T (Sf (E,C,G) (Jf9 C=Jqm E C G n ns vs tx))))) (Br (V5 G) (V4 G∧Z87 vs∧Br (Jf8 vs G) (Sf true (Sf T (Sf (E,C,G) (22=Jqm E C G n ns vs tx)))) (Br true (Z49∧Hb ns G∧Br (Jsi G ns) (Kh0 T E C G n ns vs tx) (Z26∧Br false (Jag∧L2 ns G∧Ku2 T E C G n ns vs tx) (J6x ns G T E C n vs tx))) (J6x ns G T E C n vs tx))) (Z87 vs∧Br (Jgc vs) (Sf true (Sf T (Sf (E,C,G) (22=Jqm E C G n ns vs tx)))) (Br true (Z49∧Jf7 ns∧Br (J8f ns) (Kh0 T E C G n ns vs tx) (Z26∧Br false (Jag∧Jj6 ns∧Ku2 T E C G n ns vs tx) (J67 ns T E C G n vs tx))) (J67 ns T E C G n vs tx))))))=_).mp ?_
 delta Z0 Z3 Z6 Z11 Z24 Z26 Z46 Z49 Z60 Z62 Z83 Z84 Z87 Z97 U2 V5 Lu Jod Y4 Jgd Jag Jqm Jd1 D4 Jgc Jxg Kfg Jxf L5 Jgb Jga V4 Vw Yv Jdy Jbc D2 Jae D1 Ho Fp Hn L4 Zx J8l Jya Jf9 Kh0 Kd3 Jsv J8f Jf8 Jf7 Jf6 Jj7 Kdn Jj6 Ku2 Ktg Fo Yf Y3 Jdu Jcb Jgv Jsk Jde Jsi Hb Ha L3 L2 J7c J67 J6x Br Iw Bd T2 Tw Sf Ln Gt B0 Lb E2 Kq Jh
 intro hh hc
 have eK:=Y1 (h:=(E,C,G)) (n:=n) (k:=Kq) (ns:=ns) (vs:=vs) (tx:=tx) (by kernel_rfl)
 obtain⟨hn,hv,hR,hr0,n1,n2,n3,hG,hV⟩:=Hx hh hc
 simp only[Uk,ckS,List.length_cons,List.length_nil] at eK hn hv
 rw[eK]
 simp only[hG,Jhb,Hq,Prod.eta,Jqc,Kk,Ky,Jfa,Jgn,Je9,Jgm,cond_true,cond_false,Bool.not_true,Bool.not_false,Ja]
 repeat' first|apply And.intro|exact hV|intro _
 all_goals first|trivial|omega|assumption|(rename_i h;have h:=of_decide_eq_true h;omega)|(simp only[*,cond_true,cond_false,Bool.not_true,Bool.not_false];done)|(rw[Kl ‹_›];(first|have e1:decide (vs.getD 0 0<U0.1)=true:=‹_›|have e1:decide (vs.getD 0 0<U0.1)=false:=‹_›);simp only[*,cond_true,cond_false,Bool.not_true,Bool.not_false];first|done|rfl)|(simp only[Bool.not_eq_false',decide_eq_true_eq] at*;assumption)
def Z5 (a:Int) (b:Ls) (c:Li) (d:Bt):=(a,Vf,b,c,d)
def Jqn (a b:List Ev) (c:List Reg) (d:Int) (e:Ls) (f:Li) (g:Bt):=L1 (a,b,c) (Z5 d e f g)
def Kh1 (a:TypeId) (b c:List Ev) (d:List Reg) (e:Int) (f:Ls) (g:Li) (h:Bt):=Sf true (Sf a (Sf (b,c,d) (10=Jqn b c d e f g h)))
def Kd4 (a:TypeId) (b c:List Ev) (d:List Reg) (e:Int) (f:Ls) (g:Li) (h:Bt):=Sf true (Sf a (Sf (b,c,d) (9=Jqn b c d e f g h)))
def Ku6 (a:TypeId) (b c:List Ev) (d:List Reg) (e:Int) (f:Ls) (g:Li) (h:Bt):=Br false (Kh1 a b c d e f g h) Jd1
def Kg3 (a:Ls) (b:Li):=Yv∧Y4 a∧Z43 b∧Kfg a
def Kti (a:Ls) (b:Li) (c:TypeId) (d e:List Ev) (f:List Reg) (g:Int) (h:Bt):=Kg3 a b∧Sf true (Sf c (Sf (d,e,f) (Jcw [] a b=Jqn d e f g a b h)))
def J1m (a:List Reg) (b:Ls) (c:Li):=Y3 a∧Y4 b∧Z43 c∧Kdn a b
def J7g (a:List Reg) (b:Ls) (c:Li) (d:TypeId) (e f:List Ev) (g:Int) (h:Bt):=J1m a b c∧Sf true (Sf d (Sf (e,f,a) (Jcw (Hn a).1 b c=Jqn e f a g b c h)))
def J68 (a:Ls) (b:TypeId) (c d:List Ev) (e:List Reg) (f:Int) (g:Li) (h:Bt):=Br true (Z49∧Jf6 a∧Br false (Kd4 b c d e f a g h) (Z26∧Br false (Jag∧Jj7 a∧Br (Jsv a) (Kd4 b c d e f a g h) Jd1) (Kti a g b c d e f h))) (Kti a g b c d e f h)
def J6y (a:Ls) (b:List Reg) (c:TypeId) (d e:List Ev) (f:Int) (g:Li) (h:Bt):=Br true (Z49∧Ha a b∧Br false (Kd4 c d e b f a g h) (Z26∧Br false (Jag∧L3 a b∧Br (Jde b a) (Kd4 c d e b f a g h) Jd1) (J7g b a g c d e f h))) (J7g b a g c d e f h)
theorem Jqy (T:TypeId) (E C:List Ev) (G:List Reg) (n:Int) (ns:List ByteArray) (vs:List Int) (tx:ByteArray):wpFO Tryz.prog W91.g (Xl 2) (fun _=>na ()) (Sx.look ([(75,Tryz.f75)]:List (Nat×Func))) Tryz.f130 Jp0 T (E,C,G) ((n,Vf,ns,vs,tx),()):=by
 refine(by kernel_rfl:(Kf (E,C,G)→Jb (Z5 n ns vs tx)=0→Z62 E∧Br (Jgb n E) (Sf true (Sf T (Sf (E,C,G) (11=Jqn E C G n ns vs tx)))) (Br false (Br (Z0 C) (Sf true (Sf T (Sf (E,C,G) (12=Jqn E C G n ns vs tx)))) (Jga C∧Sf true (Sf T (Sf (E,C,G) (Jf9 C=Jqn E C G n ns vs tx))))) (Br (V5 G) (V4 G∧Z87 vs∧Br (Jf8 vs G) (Sf true (Sf T (Sf (E,C,G) (22=Jqn E C G n ns vs tx)))) (Br true (Z49∧Hb ns G∧Br (Jsi G ns) (Kh1 T E C G n ns vs tx) (Z26∧Br false (Jag∧L2 ns G∧Ku6 T E C G n ns vs tx) (J6y ns G T E C n vs tx))) (J6y ns G T E C n vs tx))) (Z87 vs∧Br (Jgc vs) (Sf true (Sf T (Sf (E,C,G) (22=Jqn E C G n ns vs tx)))) (Br true (Z49∧Jf7 ns∧Br (J8f ns) (Kh1 T E C G n ns vs tx) (Z26∧Br false (Jag∧Jj6 ns∧Ku6 T E C G n ns vs tx) (J68 ns T E C G n vs tx))) (J68 ns T E C G n vs tx))))))=_).mp ?_
 delta Z0 Z3 Z5 Z6 Z24 Z26 Z43 Z49 Z60 Z62 Z83 Z84 Z87 Z97 U2 V5 Lu Jod Y4 Jgd Jag Jqn Jd1 D4 Jgc Jxg Kfg Jxf L5 Jgb Jga V4 Vw Yv Jdy Jbc D2 Jae D1 Ho Fp Hn L4 Zx J8l Jya Jf9 Kh1 Kd4 Jsv J8f Jf8 Jf7 Jf6 Jj7 Kdn Jj6 Ku6 Kg3 Kti Fo Yf Y3 Jdu Jcb Jgv Jsk Jde Jsi Hb Ha L3 L2 J1m J7g J68 J6y Br Iw Bd T2 Tw Sf Ln Gt B0 Lb E2 Jh Vf
 intro hh hc
 have eK:=Y1 (h:=(E,C,G)) (n:=n) (k:=Vf) (ns:=ns) (vs:=vs) (tx:=tx) (by kernel_rfl)
 obtain⟨hn,hv,hR,hr0,n1,n2,n3,hG,hV⟩:=Hx hh hc
 simp only[Vg,ckS,List.length_cons,List.length_nil] at eK hn hv
 rw[eK]
 simp only[hG,Jhb,Hq,Prod.eta,Jqc,Kk,Ky,Jfa,Jgn,Je9,Jgm,cond_true,cond_false,Bool.not_true,Bool.not_false,Ja]
 repeat' first|apply And.intro|exact hV|intro _
 all_goals first|trivial|omega|assumption|(rename_i h;have h:=of_decide_eq_true h;omega)|(simp only[*,cond_true,cond_false,Bool.not_true,Bool.not_false];done)|(rw[Kl ‹_›];(first|have e1:decide (vs.getD 0 0<U0.1)=true:=‹_›|have e1:decide (vs.getD 0 0<U0.1)=false:=‹_›);simp only[*,cond_true,cond_false,Bool.not_true,Bool.not_false];first|done|rfl)|(simp only[Bool.not_eq_false',decide_eq_true_eq] at*;assumption)
def Z18 (a:Int) (b:Ls) (c:Li) (d:Bt):=(a,Jt,b,c,d)
def Z55:=Tw (Bd 0 2)
def Jyj:=Tw (Bd ((0:Int)+1) 2)
def Jqi (a b:List Ev) (c:List Reg) (d:Int) (e:Ls) (f:Li) (g:Bt):=L1 (a,b,c) (Z18 d e f g)
def Jyc:=Tw (Bd Jod 2)
def J24:=J27∧False
def Kju (a:Li) (b:Ls):=Z54 a∧Kfh b
def Kio (a:Ls):=Vi Vw 2 (Z83 a)
def J56 (a:TypeId) (b c:List Ev) (d:List Reg) (e:Int) (f:Ls) (g:Li) (h:Bt):=Sf true (Sf a (Sf (b,c,d) (9=Jqi b c d e f g h)))
def J8j (a:TypeId) (b c:List Ev) (d:List Reg) (e:Int) (f:Ls) (g:Li) (h:Bt):=Sf true (Sf a (Sf (b,c,d) (10=Jqi b c d e f g h)))
def Khu (a:Ls):=bif true then Keh a else false
def Kha (a:Li) (b:List Reg) (c:Ls):=Z54 a∧Kdt b c
def Kuu (a:TypeId) (b c:List Ev) (d:List Reg) (e:Int) (f:Ls) (g:Li) (h:Bt):=Br false (J8j a b c d e f g h) J24
def Kgi (a:Int) (b:Ls) (c:Li) (d:Bt) (e:TypeId) (f g:List Ev) (h:List Reg):=(Yv∧EvV (Z18 a b c d)∧Jqp b∧Kju c b)∧Sf true (Sf e (Sf (f,g,h) (Jb5 [] [] [] (Z18 a b c d)=Jqi f g h a b c d)))
def J1t (a:List Reg) (b:Ls):=Vi (Yf a) 2 (Z83 b)
def J1p (a:List Reg) (b:Ls):=bif true then Jxp a b else false
def J1g (a:List Reg) (b:Int) (c:Ls) (d:Li) (e:Bt) (f:TypeId) (g h:List Ev):=(Y3 a∧EvV (Z18 b c d e)∧Jqp c∧Kha d a c)∧Sf true (Sf f (Sf (g,h,a) (Jb5 (Ho a).1 (Hn a).1 (Zx a).1 (Z18 b c d e)=Jqi g h a b c d e)))
def J1d (a:Ls) (b:TypeId) (c d:List Ev) (e:List Reg) (f:Int) (g:Li) (h:Bt):=Br true (Z55∧Jf7 a∧Br (bif true then Kio a else false) (J56 b c d e f a g h) (Z26∧Br true (Jyj∧Jj6 a∧Br false (J56 b c d e f a g h) (Jgd∧Br false (Jyc∧J8e a∧Br (Khu a) (J56 b c d e f a g h) J24) (Kgi f a g h b c d e))) (Kgi f a g h b c d e))) (Kgi f a g h b c d e)
def J1b (a:Ls) (b:List Reg) (c:TypeId) (d e:List Ev) (f:Int) (g:Li) (h:Bt):=Br true (Z55∧Hb a b∧Br (bif true then J1t b a else false) (J56 c d e b f a g h) (Z26∧Br true (Jyj∧L2 a b∧Br false (J56 c d e b f a g h) (Jgd∧Br false (Jyc∧Jsg a b∧Br (J1p b a) (J56 c d e b f a g h) J24) (J1g b f a g h c d e))) (J1g b f a g h c d e))) (J1g b f a g h c d e)
theorem Jki (T:TypeId) (E C:List Ev) (G:List Reg) (n:Int) (ns:List ByteArray) (vs:List Int) (tx:ByteArray):wpFO Tryz.prog W91.g (Xl 3) (fun _=>na ()) (Sx.look ([(75,Tryz.f75)]:List (Nat×Func))) Tryz.f130 Jp0 T (E,C,G) ((n,Jt,ns,vs,tx),()):=by
 refine(by kernel_rfl:(Kf (E,C,G)→Jb (Z18 n ns vs tx)=0→Z62 E∧Br (Jgb n E) (Sf true (Sf T (Sf (E,C,G) (11=Jqi E C G n ns vs tx)))) (Br false (Br (Z0 C) (Sf true (Sf T (Sf (E,C,G) (12=Jqi E C G n ns vs tx)))) (Jga C∧Sf true (Sf T (Sf (E,C,G) (Jf9 C=Jqi E C G n ns vs tx))))) (Br (V5 G) (V4 G∧Z87 vs∧Br (Jf8 vs G) (Sf true (Sf T (Sf (E,C,G) (22=Jqi E C G n ns vs tx)))) (Br true (Z55∧Ha ns G∧Br false (J8j T E C G n ns vs tx) (Z26∧Br true (Jyj∧L3 ns G∧Br (J1o G ns) (J8j T E C G n ns vs tx) (Jgd∧Br false (Jyc∧Jsf ns G∧Kuu T E C G n ns vs tx) (J1b ns G T E C n vs tx))) (J1b ns G T E C n vs tx))) (J1b ns G T E C n vs tx))) (Z87 vs∧Br (Jgc vs) (Sf true (Sf T (Sf (E,C,G) (22=Jqi E C G n ns vs tx)))) (Br true (Z55∧Jf6 ns∧Br false (J8j T E C G n ns vs tx) (Z26∧Br true (Jyj∧Jj7 ns∧Br (Khs ns) (J8j T E C G n ns vs tx) (Jgd∧Br false (Jyc∧J8d ns∧Kuu T E C G n ns vs tx) (J1d ns T E C G n vs tx))) (J1d ns T E C G n vs tx))) (J1d ns T E C G n vs tx))))))=_).mp ?_
 delta Z0 Z3 Z6 Z18 Z24 Z26 Z54 Z55 Z60 Z62 Z83 Z84 Z87 Z97 Joe U2 V5 Jod Jqp Jj2 Jgd Jyj Jqi J6q D4 J27 Jgc Jyc J24 Jxg Kfh Jxf L5 Kfa Ke9 Jgb Jga V4 Vw Yv Kju Jdy Jbc D2 Jae D1 Ho Fp Hn L4 Zx Keh Kio Jya Jf9 J56 J8j Khu Khs Jf8 Jf7 Jf6 Kdt Jj7 Jj6 J8e J8d Kha Kuu Kgi Fo Yf Y3 Jdu Jcb J1t Jgv Jxp J1p J1o Hb Ha L3 L2 Jsg Jsf J1g J1d J1b Br Iw Bd T2 Tw Sf Ln Gt B0 Lb E2 Jt Jh
 intro hh hc
 have eK:=Y1 (h:=(E,C,G)) (n:=n) (k:=Jt) (ns:=ns) (vs:=vs) (tx:=tx) (by kernel_rfl)
 obtain⟨hn,hv,hR,hr0,n1,n2,n3,hG,hV⟩:=Hx hh hc
 simp only[Km,ckS,List.length_cons,List.length_nil] at eK hn hv
 rw[eK]
 simp only[hG,Jhb,Hq,Prod.eta,Jqc,Kk,Ky,Jfa,Jgn,Je9,Jgm,cond_true,cond_false,Bool.not_true,Bool.not_false,Ja]
 repeat' first|apply And.intro|exact hV|intro _
 all_goals first|trivial|omega|assumption|(rename_i h;have h:=of_decide_eq_true h;omega)|(simp only[*,cond_true,cond_false,Bool.not_true,Bool.not_false];done)|(rw[Kl ‹_›];(first|have e1:decide (vs.getD 0 0<U0.1)=true:=‹_›|have e1:decide (vs.getD 0 0<U0.1)=false:=‹_›);simp only[*,cond_true,cond_false,Bool.not_true,Bool.not_false];first|done|rfl)|(simp only[Bool.not_eq_false',decide_eq_true_eq] at*;assumption)
def Z31 (a:Int) (b:Ls) (c:Li) (d:Bt):=(a,Jo,b,c,d)
def Jqh (a b:List Ev) (c:List Reg) (d:Int) (e:Ls) (f:Li) (g:Bt):=L1 (a,b,c) (Z31 d e f g)
def Khx (a:TypeId) (b c:List Ev) (d:List Reg) (e:Int) (f:Ls) (g:Li) (h:Bt):=Sf true (Sf a (Sf (b,c,d) (10=Jqh b c d e f g h)))
def Kdz (a:TypeId) (b c:List Ev) (d:List Reg) (e:Int) (f:Ls) (g:Li) (h:Bt):=Sf true (Sf a (Sf (b,c,d) (9=Jqh b c d e f g h)))
def Kuy (a:TypeId) (b c:List Ev) (d:List Reg) (e:Int) (f:Ls) (g:Li) (h:Bt):=Br false (Khx a b c d e f g h) Jd1
def Kg4 (a:Ls) (b:Li):=Yv∧Y4 a∧Z43 b∧0≤J7 [] (Lu a)
def Ktf (a:Ls) (b:Li) (c:TypeId) (d e:List Ev) (f:List Reg) (g:Int) (h:Bt):=Kg4 a b∧Sf true (Sf c (Sf (d,e,f) (Jcx [] [] a b=Jqh d e f g a b h)))
def J1l (a:List Reg) (b:Ls) (c:Li):=Y3 a∧Y4 b∧Z43 c∧0≤J7 (Zx a).1 (Lu b)
def J7b (a:List Reg) (b:Ls) (c:Li) (d:TypeId) (e f:List Ev) (g:Int) (h:Bt):=J1l a b c∧Sf true (Sf d (Sf (e,f,a) (Jcx (Zx a).1 (Zx a).2 b c=Jqh e f a g b c h)))
def J66 (a:Ls) (b:TypeId) (c d:List Ev) (e:List Reg) (f:Int) (g:Li) (h:Bt):=Br true (Z49∧Jf6 a∧Br false (Kdz b c d e f a g h) (Z26∧Br false (Jag∧Jj7 a∧Br (Jsv a) (Kdz b c d e f a g h) Jd1) (Ktf a g b c d e f h))) (Ktf a g b c d e f h)
def J6w (a:Ls) (b:List Reg) (c:TypeId) (d e:List Ev) (f:Int) (g:Li) (h:Bt):=Br true (Z49∧Ha a b∧Br false (Kdz c d e b f a g h) (Z26∧Br false (Jag∧L3 a b∧Br (Jde b a) (Kdz c d e b f a g h) Jd1) (J7b b a g c d e f h))) (J7b b a g c d e f h)
theorem Jh4 (T:TypeId) (E C:List Ev) (G:List Reg) (n:Int) (ns:List ByteArray) (vs:List Int) (tx:ByteArray):wpFO Tryz.prog W91.g (Xl 2) (fun _=>na ()) (Sx.look ([(75,Tryz.f75)]:List (Nat×Func))) Tryz.f130 Jp0 T (E,C,G) ((n,Jo,ns,vs,tx),()):=by
 refine(by kernel_rfl:(Kf (E,C,G)→Jb (Z31 n ns vs tx)=0→Z62 E∧Br (Jgb n E) (Sf true (Sf T (Sf (E,C,G) (11=Jqh E C G n ns vs tx)))) (Br false (Br (Z0 C) (Sf true (Sf T (Sf (E,C,G) (12=Jqh E C G n ns vs tx)))) (Jga C∧Sf true (Sf T (Sf (E,C,G) (Jf9 C=Jqh E C G n ns vs tx))))) (Br (V5 G) (V4 G∧Z87 vs∧Br (Jf8 vs G) (Sf true (Sf T (Sf (E,C,G) (22=Jqh E C G n ns vs tx)))) (Br true (Z49∧Hb ns G∧Br (bif true then !J1t G ns else false) (Khx T E C G n ns vs tx) (Z26∧Br false (Jag∧L2 ns G∧Kuy T E C G n ns vs tx) (J6w ns G T E C n vs tx))) (J6w ns G T E C n vs tx))) (Z87 vs∧Br (Jgc vs) (Sf true (Sf T (Sf (E,C,G) (22=Jqh E C G n ns vs tx)))) (Br true (Z49∧Jf7 ns∧Br (bif true then !Kio ns else false) (Khx T E C G n ns vs tx) (Z26∧Br false (Jag∧Jj6 ns∧Kuy T E C G n ns vs tx) (J66 ns T E C G n vs tx))) (J66 ns T E C G n vs tx))))))=_).mp ?_
 delta Z0 Z3 Z6 Z24 Z26 Z31 Z43 Z49 Z60 Z62 Z83 Z84 Z87 Z97 U2 V5 Lu Jod Y4 Jgd Jag Jqh Jd1 D4 Jgc Jxg Jxf L5 Jgb Jga V4 Vw Yv Jdy Jbc D2 Jae D1 Ho Fp Hn L4 Zx Kio Jya Jf9 Khx Kdz Jsv Jf8 Jf7 Jf6 Jj7 Jj6 Kuy Kg4 Ktf Fo Yf Y3 Jdu Jcb J1t Jgv Jde Hb Ha L3 L2 J1l J7b J66 J6w Br Iw Bd T2 Tw Sf Ln Gt B0 Lb E2 Jo Jh
 intro hh hc
 have eK:=Y1 (h:=(E,C,G)) (n:=n) (k:=Jo) (ns:=ns) (vs:=vs) (tx:=tx) (by kernel_rfl)
 obtain⟨hn,hv,hR,hr0,n1,n2,n3,hG,hV⟩:=Hx hh hc
 simp only[J8,ckS,List.length_cons,List.length_nil] at eK hn hv
 rw[eK]
 simp only[hG,Jhb,Hq,Prod.eta,Jqc,Kk,Ky,Jfa,Jgn,Je9,Jgm,cond_true,cond_false,Bool.not_true,Bool.not_false,Ja]
 repeat' first|apply And.intro|exact hV|intro _
 all_goals first|trivial|omega|assumption|(rename_i h;have h:=of_decide_eq_true h;omega)|(simp only[*,cond_true,cond_false,Bool.not_true,Bool.not_false];done)|(rw[Kl ‹_›];(first|have e1:decide (vs.getD 0 0<U0.1)=true:=‹_›|have e1:decide (vs.getD 0 0<U0.1)=false:=‹_›);simp only[*,cond_true,cond_false,Bool.not_true,Bool.not_false];first|done|rfl)|(simp only[Bool.not_eq_false',decide_eq_true_eq] at*;assumption)
def Z19 (a:Int) (b:Ls) (c:Li) (d:Bt):=(a,J6,b,c,d)
def Jqk (a b:List Ev) (c:List Reg) (d:Int) (e:Ls) (f:Li) (g:Bt):=L1 (a,b,c) (Z19 d e f g)
def Kip (a:Ls):=Vi Vw 3 (Z83 a)
def J57 (a:TypeId) (b c:List Ev) (d:List Reg) (e:Int) (f:Ls) (g:Li) (h:Bt):=Sf true (Sf a (Sf (b,c,d) (9=Jqk b c d e f g h)))
def J8i (a:TypeId) (b c:List Ev) (d:List Reg) (e:Int) (f:Ls) (g:Li) (h:Bt):=Sf true (Sf a (Sf (b,c,d) (10=Jqk b c d e f g h)))
def Kut (a:TypeId) (b c:List Ev) (d:List Reg) (e:Int) (f:Ls) (g:Li) (h:Bt):=Br false (J8i a b c d e f g h) J24
def Kgn (a:Ls) (b:Li) (c:TypeId) (d e:List Ev) (f:List Reg) (g:Int) (h:Bt):=(Yv∧Jyl a∧Z43 b∧0≤J7 [] (Jj2 a))∧Sf true (Sf c (Sf (d,e,f) (Jcy [] [] a b=Jqk d e f g a b h)))
def J1s (a:List Reg) (b:Ls):=Vi (Yf a) 3 (Z83 b)
def J1h (a:List Reg) (b:Ls) (c:Li) (d:TypeId) (e f:List Ev) (g:Int) (h:Bt):=(Y3 a∧Jyl b∧Z43 c∧0≤J7 (Zx a).1 (Jj2 b))∧Sf true (Sf d (Sf (e,f,a) (Jcy (Zx a).1 (Zx a).2 b c=Jqk e f a g b c h)))
def J1e (a:Ls) (b:TypeId) (c d:List Ev) (e:List Reg) (f:Int) (g:Li) (h:Bt):=Br true (Z55∧Jf7 a∧Br (bif true then Kip a else false) (J57 b c d e f a g h) (Z26∧Br true (Jyj∧Jj6 a∧Br false (J57 b c d e f a g h) (Jgd∧Br false (Jyc∧J8e a∧Br (Khu a) (J57 b c d e f a g h) J24) (Kgn a g b c d e f h))) (Kgn a g b c d e f h))) (Kgn a g b c d e f h)
def J1c (a:Ls) (b:List Reg) (c:TypeId) (d e:List Ev) (f:Int) (g:Li) (h:Bt):=Br true (Z55∧Hb a b∧Br (bif true then J1s b a else false) (J57 c d e b f a g h) (Z26∧Br true (Jyj∧L2 a b∧Br false (J57 c d e b f a g h) (Jgd∧Br false (Jyc∧Jsg a b∧Br (J1p b a) (J57 c d e b f a g h) J24) (J1h b a g c d e f h))) (J1h b a g c d e f h))) (J1h b a g c d e f h)
theorem Jkh (T:TypeId) (E C:List Ev) (G:List Reg) (n:Int) (ns:List ByteArray) (vs:List Int) (tx:ByteArray):wpFO Tryz.prog W91.g (Xl 3) (fun _=>na ()) (Sx.look ([(75,Tryz.f75)]:List (Nat×Func))) Tryz.f130 Jp0 T (E,C,G) ((n,J6,ns,vs,tx),()):=by
 refine(by kernel_rfl:(Kf (E,C,G)→Jb (Z19 n ns vs tx)=0→Z62 E∧Br (Jgb n E) (Sf true (Sf T (Sf (E,C,G) (11=Jqk E C G n ns vs tx)))) (Br false (Br (Z0 C) (Sf true (Sf T (Sf (E,C,G) (12=Jqk E C G n ns vs tx)))) (Jga C∧Sf true (Sf T (Sf (E,C,G) (Jf9 C=Jqk E C G n ns vs tx))))) (Br (V5 G) (V4 G∧Z87 vs∧Br (Jf8 vs G) (Sf true (Sf T (Sf (E,C,G) (22=Jqk E C G n ns vs tx)))) (Br true (Z55∧Ha ns G∧Br false (J8i T E C G n ns vs tx) (Z26∧Br true (Jyj∧L3 ns G∧Br (bif true then !Vi (Yf G) 2 (Z97 ns) else false) (J8i T E C G n ns vs tx) (Jgd∧Br false (Jyc∧Jsf ns G∧Kut T E C G n ns vs tx) (J1c ns G T E C n vs tx))) (J1c ns G T E C n vs tx))) (J1c ns G T E C n vs tx))) (Z87 vs∧Br (Jgc vs) (Sf true (Sf T (Sf (E,C,G) (22=Jqk E C G n ns vs tx)))) (Br true (Z55∧Jf6 ns∧Br false (J8i T E C G n ns vs tx) (Z26∧Br true (Jyj∧Jj7 ns∧Br (bif true then !Vi Vw 2 (Z97 ns) else false) (J8i T E C G n ns vs tx) (Jgd∧Br false (Jyc∧J8d ns∧Kut T E C G n ns vs tx) (J1e ns T E C G n vs tx))) (J1e ns T E C G n vs tx))) (J1e ns T E C G n vs tx))))))=_).mp ?_
 delta Z0 Z3 Z6 Z19 Z24 Z26 Z43 Z55 Z60 Z62 Z83 Z84 Z87 Z97 Joe U2 V5 Jod Jj2 Jyl Jgd Jyj Jqk J6q D4 J27 Jgc Jyc J24 Jxg Jxf L5 Kfa Ke9 Jgb Jga V4 Vw Yv Jdy Jbc D2 Jae D1 Ho Fp Hn L4 Zx Kip Keh Jf9 J57 J8i Khu Jf8 Jf7 Jf6 Jj7 Jj6 J8e J8d Kut Kgn Fo Yf Y3 Jdu Jcb Jxp J1s J1p Hb Ha L3 L2 Jsg Jsf J1h J1e J1c Br Iw Bd T2 Tw Sf Ln Gt B0 Lb E2 J6 Jh
 intro hh hc
 have eK:=Y1 (h:=(E,C,G)) (n:=n) (k:=J6) (ns:=ns) (vs:=vs) (tx:=tx) (by kernel_rfl)
 obtain⟨hn,hv,hR,hr0,n1,n2,n3,hG,hV⟩:=Hx hh hc
 simp only[Ku,ckS,List.length_cons,List.length_nil] at eK hn hv
 rw[eK]
 simp only[hG,Jhb,Hq,Prod.eta,Jqc,Kk,Ky,Jfa,Jgn,Je9,Jgm,cond_true,cond_false,Bool.not_true,Bool.not_false,Ja]
 repeat' first|apply And.intro|exact hV|intro _
 all_goals first|trivial|omega|assumption|(rename_i h;have h:=of_decide_eq_true h;omega)|(simp only[*,cond_true,cond_false,Bool.not_true,Bool.not_false];done)|(rw[Kl ‹_›];(first|have e1:decide (vs.getD 0 0<U0.1)=true:=‹_›|have e1:decide (vs.getD 0 0<U0.1)=false:=‹_›);simp only[*,cond_true,cond_false,Bool.not_true,Bool.not_false];first|done|rfl)|(simp only[Bool.not_eq_false',decide_eq_true_eq] at*;assumption)
def Z22 (a:Int) (b:Ls) (c:Li) (d:Bt):=(a,J5,b,c,d)
def Jqj (a b:List Ev) (c:List Reg) (d:Int) (e:Ls) (f:Li) (g:Bt):=L1 (a,b,c) (Z22 d e f g)
def Kd1 (a:TypeId) (b c:List Ev) (d:List Reg) (e:Int) (f:Ls) (g:Li) (h:Bt):=Sf true (Sf a (Sf (b,c,d) (9=Jqj b c d e f g h)))
def Khy (a:TypeId) (b c:List Ev) (d:List Reg) (e:Int) (f:Ls) (g:Li) (h:Bt):=Sf true (Sf a (Sf (b,c,d) (10=Jqj b c d e f g h)))
def Khh (a:Ls):=Yv∧Y4 a∧0≤Uy [] (Lu a)
def Ku1 (a:TypeId) (b c:List Ev) (d:List Reg) (e:Int) (f:Ls) (g:Li) (h:Bt):=Br false (Khy a b c d e f g h) Jd1
def Ktr (a:Ls) (b:TypeId) (c d:List Ev) (e:List Reg) (f:Int) (g:Li) (h:Bt):=Khh a∧Sf true (Sf b (Sf (c,d,e) (Jnz [] a=Jqj c d e f a g h)))
def J1n (a:List Reg) (b:Ls):=Y3 a∧Y4 b∧0≤Uy (Zx a).2 (Lu b)
def J7h (a:List Reg) (b:Ls) (c:TypeId) (d e:List Ev) (f:Int) (g:Li) (h:Bt):=J1n a b∧Sf true (Sf c (Sf (d,e,a) (Jnz (Zx a).2 b=Jqj d e a f b g h)))
def J7a (a:Ls) (b:TypeId) (c d:List Ev) (e:List Reg) (f:Int) (g:Li) (h:Bt):=Br true (Z49∧Jf6 a∧Br false (Kd1 b c d e f a g h) (Z26∧Br false (Jag∧Jj7 a∧Br (Jsv a) (Kd1 b c d e f a g h) Jd1) (Ktr a b c d e f g h))) (Ktr a b c d e f g h)
def J6z (a:Ls) (b:List Reg) (c:TypeId) (d e:List Ev) (f:Int) (g:Li) (h:Bt):=Br true (Z49∧Ha a b∧Br false (Kd1 c d e b f a g h) (Z26∧Br false (Jag∧L3 a b∧Br (Jde b a) (Kd1 c d e b f a g h) Jd1) (J7h b a c d e f g h))) (J7h b a c d e f g h)
theorem Jkg (T:TypeId) (E C:List Ev) (G:List Reg) (n:Int) (ns:List ByteArray) (vs:List Int) (tx:ByteArray):wpFO Tryz.prog W91.g (Xl 2) (fun _=>na ()) (Sx.look ([(75,Tryz.f75)]:List (Nat×Func))) Tryz.f130 Jp0 T (E,C,G) ((n,J5,ns,vs,tx),()):=by
 refine(by kernel_rfl:(Kf (E,C,G)→Jb (Z22 n ns vs tx)=0→Z62 E∧Br (Jgb n E) (Sf true (Sf T (Sf (E,C,G) (11=Jqj E C G n ns vs tx)))) (Br false (Br (Z0 C) (Sf true (Sf T (Sf (E,C,G) (12=Jqj E C G n ns vs tx)))) (Jga C∧Sf true (Sf T (Sf (E,C,G) (Jf9 C=Jqj E C G n ns vs tx))))) (Br (V5 G) (V4 G∧Z87 vs∧Br (Jf8 vs G) (Sf true (Sf T (Sf (E,C,G) (22=Jqj E C G n ns vs tx)))) (Br true (Z49∧Hb ns G∧Br (bif true then !J1s G ns else false) (Khy T E C G n ns vs tx) (Z26∧Br false (Jag∧L2 ns G∧Ku1 T E C G n ns vs tx) (J6z ns G T E C n vs tx))) (J6z ns G T E C n vs tx))) (Z87 vs∧Br (Jgc vs) (Sf true (Sf T (Sf (E,C,G) (22=Jqj E C G n ns vs tx)))) (Br true (Z49∧Jf7 ns∧Br (bif true then !Kip ns else false) (Khy T E C G n ns vs tx) (Z26∧Br false (Jag∧Jj6 ns∧Ku1 T E C G n ns vs tx) (J7a ns T E C G n vs tx))) (J7a ns T E C G n vs tx))))))=_).mp ?_
 delta Z0 Z3 Z6 Z22 Z24 Z26 Z49 Z60 Z62 Z83 Z84 Z87 Z97 U2 V5 Lu Jod Y4 Jgd Jag Jqj Jd1 D4 Jgc Jxg Jxf L5 Jgb Jga V4 Vw Yv Jdy Jbc D2 Jae D1 Ho Fp Hn L4 Zx Kip Jya Jf9 Kd1 Khy Jsv Jf8 Jf7 Jf6 Jj7 Jj6 Khh Ku1 Ktr Fo Yf Y3 Jdu Jcb Jgv J1s Jde Hb Ha L3 L2 J1n J7h J7a J6z Br Iw Bd T2 Tw Sf Ln Gt B0 Lb E2 J5 Jh
 intro hh hc
 have eK:=Y1 (h:=(E,C,G)) (n:=n) (k:=J5) (ns:=ns) (vs:=vs) (tx:=tx) (by kernel_rfl)
 obtain⟨hn,hv,hR,hr0,n1,n2,n3,hG,hV⟩:=Hx hh hc
 simp only[Kt,ckS,List.length_cons,List.length_nil] at eK hn hv
 rw[eK]
 simp only[hG,Jhb,Hq,Prod.eta,Jqc,Kk,Ky,Jfa,Jgn,Je9,Jgm,cond_true,cond_false,Bool.not_true,Bool.not_false,Ja]
 repeat' first|apply And.intro|exact hV|intro _
 all_goals first|trivial|omega|assumption|(rename_i h;have h:=of_decide_eq_true h;omega)|(simp only[*,cond_true,cond_false,Bool.not_true,Bool.not_false];done)|(rw[Kl ‹_›];(first|have e1:decide (vs.getD 0 0<U0.1)=true:=‹_›|have e1:decide (vs.getD 0 0<U0.1)=false:=‹_›);simp only[*,cond_true,cond_false,Bool.not_true,Bool.not_false];first|done|rfl)|(simp only[Bool.not_eq_false',decide_eq_true_eq] at*;assumption)
def Z20 (a:Int) (b:Ls) (c:Li) (d:Bt):=(a,Jh,b,c,d)
def Joc (a b:List Ev) (c:List Reg) (d:Int) (e:Ls) (f:Li) (g:Bt):=L1 (a,b,c) (Z20 d e f g)
def Ku7 (a:TypeId) (b c:List Ev) (d:List Reg) (e:Int) (f:Ls) (g:Li) (h:Bt):=Br false (Sf true (Sf a (Sf (b,c,d) (10=Joc b c d e f g h)))) J3b
theorem Jkf (T:TypeId) (E C:List Ev) (G:List Reg) (n:Int) (ns:List ByteArray) (vs:List Int) (tx:ByteArray):wpFO Tryz.prog W91.g (Xl 1) (fun _=>na ()) (Sx.look ([(75,Tryz.f75)]:List (Nat×Func))) Tryz.f130 Jp0 T (E,C,G) ((n,Jh,ns,vs,tx),()):=by
 refine(by kernel_rfl:(Kf (E,C,G)→Jb (Z20 n ns vs tx)=0→Z62 E∧Br (Jgb n E) (Sf true (Sf T (Sf (E,C,G) (11=Joc E C G n ns vs tx)))) (Br false (Br (Z0 C) (Sf true (Sf T (Sf (E,C,G) (12=Joc E C G n ns vs tx)))) (Jga C∧Sf true (Sf T (Sf (E,C,G) (Jf9 C=Joc E C G n ns vs tx))))) (Br (V5 G) (V4 G∧Z87 vs∧Br (Jf8 vs G) (Sf true (Sf T (Sf (E,C,G) (22=Joc E C G n ns vs tx)))) (Br false (Z42∧Ha ns G∧Ku7 T E C G n ns vs tx) (Br false (Z42∧Hb ns G∧Br (Jsj G ns) (Sf true (Sf T (Sf (E,C,G) (9=Joc E C G n ns vs tx)))) J3b) (J78 G vs∧Sf true (Sf T (Sf (E,C,G) (Lq (Fp G) (Hn G).1 (L4 G).1 (Zx G).1 (Zx G).2 vs=Joc E C G n ns vs tx))))))) (Z87 vs∧Br (Jgc vs) (Sf true (Sf T (Sf (E,C,G) (22=Joc E C G n ns vs tx)))) (Br false (Z42∧Jf6 ns∧Ku7 T E C G n ns vs tx) (Br false (Z42∧Jf7 ns∧Br (J8h ns) (Sf true (Sf T (Sf (E,C,G) (9=Joc E C G n ns vs tx)))) J3b) (J8o vs∧Sf true (Sf T (Sf (E,C,G) (Lq 0 [] [] [] [] vs=Joc E C G n ns vs tx))))))))))=_).mp ?_
 delta Z0 Z3 Z6 Z20 Z24 Z26 Z42 Z57 Z60 Z62 Z83 Z84 Z87 U2 V5 J3b Joc D4 Jgc L5 Jgb Jga V4 Vw Yv Jdy Jbc D2 Jae D1 J8o Ho Fp Hn L4 Zx J2z Jf9 J8h Jf8 Jf7 Jf6 Ku7 Fo Yf Y3 Jdu Jcb J78 Jmc Jsj Hb Ha Br Iw Bd T2 Tw Sf Ln Gt B0 Lb E2 Jh
 intro hh hc
 have eK:=Y1 (h:=(E,C,G)) (n:=n) (k:=Jh) (ns:=ns) (vs:=vs) (tx:=tx) (by kernel_rfl)
 obtain⟨hn,hv,hR,hr0,n1,n2,n3,hG,hV⟩:=Hx hh hc
 simp only[Us,ckS,List.length_cons,List.length_nil] at eK hn hv
 rw[eK]
 simp only[hG,Jhb,Hq,Prod.eta,Jqc,Kk,Ky,Jfa,Jgn,Je9,Jgm,cond_true,cond_false,Bool.not_true,Bool.not_false,Ja]
 repeat' first|apply And.intro|exact hV|intro _
 all_goals first|trivial|omega|assumption|(rename_i h;have h:=of_decide_eq_true h;omega)|(simp only[*,cond_true,cond_false,Bool.not_true,Bool.not_false];done)|(rw[Kl ‹_›];(first|have e1:decide (vs.getD 0 0<U0.1)=true:=‹_›|have e1:decide (vs.getD 0 0<U0.1)=false:=‹_›);simp only[*,cond_true,cond_false,Bool.not_true,Bool.not_false];first|done|rfl)|(simp only[Bool.not_eq_false',decide_eq_true_eq] at*;assumption)
theorem Vd {a b:ByteArray} (h:(a.toList==b.toList)=true):a=b:=by
 have h:=eq_of_beq h
 rw[Lib.toList_data,Lib.toList_data] at h
 cases a;cases b
 congr
 exact Array.toList_inj.1 h
theorem Ju2 {a b:ByteArray} (h:Dz .str a b=true):a=b:=Vd h
theorem Jey {β:Type} {ks:Sch} {k:ks.T}:∀{l:List (ks.T×β)},(Um ks k l).isSome=true→∃x∈l,Dz ks k x.1=true
 |[],h=>by cases h
 | x :: l, h => by
  unfold Um at h
  by_cases hx:Dz ks k x.1=true
  ·exact⟨x,List.mem_cons_self ..,hx⟩
  ·rw[if_neg hx] at h
   obtain⟨y,h1,h2⟩:=Jey h
   exact⟨y,List.mem_cons_of_mem _ h1,h2⟩
theorem U4 {k:ByteArray} (h:Yw k=true):k=J0∨k=Js∨k=Kv∨k=Ke∨k=Kq∨k=Vf∨k=Jt∨k=Jo∨k=J6∨k=J5∨k=Jh:=by
 obtain⟨x,hx,hk⟩:=Jey h
 have hk:=Ju2 hk
 unfold Lo at hx
 subst hk
 rcases List.mem_cons.1 hx with rfl|hx
 ·exact .inl rfl
 rcases List.mem_cons.1 hx with rfl|hx
 ·exact .inr (.inl rfl)
 rcases List.mem_cons.1 hx with rfl|hx
 ·exact .inr (.inr (.inl rfl))
 rcases List.mem_cons.1 hx with rfl|hx
 ·exact .inr (.inr (.inr (.inl rfl)))
 rcases List.mem_cons.1 hx with rfl|hx
 ·exact .inr (.inr (.inr (.inr (.inl rfl))))
 rcases List.mem_cons.1 hx with rfl|hx
 ·exact .inr (.inr (.inr (.inr (.inr (.inl rfl)))))
 rcases List.mem_cons.1 hx with rfl|hx
 ·exact .inr (.inr (.inr (.inr (.inr (.inr (.inl rfl))))))
 rcases List.mem_cons.1 hx with rfl|hx
 ·exact .inr (.inr (.inr (.inr (.inr (.inr (.inr (.inl rfl)))))))
 rcases List.mem_cons.1 hx with rfl|hx
 ·exact .inr (.inr (.inr (.inr (.inr (.inr (.inr (.inr (.inl rfl))))))))
 rcases List.mem_cons.1 hx with rfl|hx
 ·exact .inr (.inr (.inr (.inr (.inr (.inr (.inr (.inr (.inr (.inl rfl)))))))))
 rcases List.mem_cons.1 hx with rfl|hx
 ·exact .inr (.inr (.inr (.inr (.inr (.inr (.inr (.inr (.inr (.inr rfl)))))))))
 cases hx
theorem Jau:∀{l:List Prop} {q:Prop},(Uq l→J4j l q)→J4j l q
 |[],_,h=>h trivial
 |[_],_,h=>fun hp=>h hp hp
 |_::p'::r,_,h=>fun hp=>Jau (l:=p'::r) fun hr=>h ⟨hp,hr⟩ hp
theorem Jh0 {Γ:Gam} {ann:Nat→Option Ann} {annF:FuncId→Nat→Option Ann} {lib:FuncId→Option Func} {fn:Func} {c:Xx} {T:TypeId} {x:c.s.T} {y:ATup c.args} (hb:fn.body.isSome=true) (h:Uq (c.pre x y)→wpFO Tryz.prog Γ ann annF lib fn c T x y):wpFO Tryz.prog Γ ann annF lib fn c T x y:=by
 unfold wpFO at h⊢
 cases hc:fn.body with
 |none=>rw[hc] at hb;cases hb
 |some code=>
  rw[hc] at h
  exact Jau h
def Jbl (k:ByteArray):Nat:=if k=J0 then 1 else(Jj k).1.length+1
theorem Kmd (T:TypeId):∀(x:Kn) (y:ATup [aEv]),wpFO Tryz.prog W91.g (Xl (Jbl y.1.2.1)) (fun _=>na ()) (Sx.look ([(75,Tryz.f75)]:List (Nat×Func))) Tryz.f130 Jp0 T x y
 |(E,C,G),((n,k,ns,vs,tx),())=>by
  refine Jh0 (by kernel_rfl) fun hp=> ?_
  have hc:Jb (n,k,ns,vs,tx)=0:=hp.2
  rcases U4 (Uo hc).kind with h|h|h|h|h|h|h|h|h|h|h<;>dsimp only at h<;>subst h
  ·exact(show Jbl J0=1 from by kernel_rfl)▸Jqx T E C G n ns vs tx
  ·exact(show Jbl Js=2 from by kernel_rfl)▸Jh3 T E C G n ns vs tx
  ·exact(show Jbl Kv=2 from by kernel_rfl)▸Jmq T E C G n ns vs tx
  ·exact(show Jbl Ke=4 from by kernel_rfl)▸Jmr T E C G n ns vs tx
  ·exact(show Jbl Kq=2 from by kernel_rfl)▸Jms T E C G n ns vs tx
  ·exact(show Jbl Vf=2 from by kernel_rfl)▸Jqy T E C G n ns vs tx
  ·exact(show Jbl Jt=3 from by kernel_rfl)▸Jki T E C G n ns vs tx
  ·exact(show Jbl Jo=2 from by kernel_rfl)▸Jh4 T E C G n ns vs tx
  ·exact(show Jbl J6=3 from by kernel_rfl)▸Jkh T E C G n ns vs tx
  ·exact(show Jbl J5=2 from by kernel_rfl)▸Jkg T E C G n ns vs tx
  ·exact(show Jbl Jh=1 from by kernel_rfl)▸Jkf T E C G n ns vs tx
theorem Kaf:Ok Tryz.prog 130 (Xx.con Jp0):=X2 (Ub mixed W91.ok (by kernel_rfl) (by kernel_rfl) (U1 (l:=([(75,Tryz.f75)]:List (Nat×Func))) (List.forall_mem_cons.2 ⟨by kernel_rfl,by simp⟩)) (fun _ yy=>Xl (Jbl yy.1.2.1)) (fun _ _=>fun _=>na ()) fun T xx yy _=>Kmd T xx yy)
abbrev W92:=W91.add Kaf
def doS (r:Reg) (e:Ev):Reg:=match(Jj e.2.1).2.2.2.1 with
 |some 149=>Ja0 r e
 |some 153=>Fg r e
 |some 155=>Fk r e
 |some 158=>Fl r e
 |some 160=>Ff r e
 |some 162=>Fi r e
 |some 165=>Fh r e
 |some 167=>Fj r e
 |some 170=>Jgp r e
 |some 172=>Jaz r e
 |_=>r
def Ju (r:Reg) (e:Ev):Reg:=(e.2.2.2.1.getD 0 0,(doS r e).2)
def Dv (h:Kn) (e:Ev):Kn:=
 bif e.2.1.toList==J0.toList then(h.1++[e],h.2.1.take (h.2.1.length-1),h.2.2.take (h.2.1.length-1)) else(h.1++[e],h.2.1++[e],h.2.2++[Ju (Kd h.2.2) e])
def Up (h:Kn) (e:Ev):Int:=if Jb e≠0 then Jb e else L1 h e
def Jfm (e:Ev):Prop:=e.2.2.1.length≤1000000∧e.2.2.2.1.length≤1000000∧∀s∈e.2.2.1,s.size≤1000000
def Vm (h:Kn) (e:Ev):Kn:=if Up h e=0 then Dv h e else h
def Kgc:Xx:={T? :=none,s:=Jis,args:=[aEv],ress:=[I],pre:=fun h (e,_)=>[Kf h,h.1.length<1000,Jfm e],spec:=fun h (e,_)=>(Up h e,()),post:=fun h (e,_)=>Vm h e}
def Jb7:Xx:={Kgc with pre:=fun h (e,_)=>[Kf h,h.1.length<1000,Jfm e,Jb e=0,L1 h e=0]}
theorem Jbb {h:Kn} {n:Int} {ns:List ByteArray} {vs:List Int} {roles:List (Int×Bool)} {ck:Int} (e:Jqc h n ns vs roles ck=0):n=(h.1.length:Int)+1∧¬vs.getD 0 0<(Kd h.2.2).1∧Kk (Kd h.2.2) ns roles 0=false∧Ky (Kd h.2.2) ns roles 0=false∧ck=0:=by
 unfold Jqc at e
 cases h1:n !=(h.1.length:Int)+1 with
 |true=>rw[h1] at e;cases e
 | false =>
  rw[h1,cond_false] at e
  cases h2:decide (vs.getD 0 0<(Kd h.2.2).1) with
  |true=>rw[h2] at e;cases e
  | false =>
   rw[h2,cond_false] at e
   cases h3:Kk (Kd h.2.2) ns roles 0 with
   |true=>rw[h3] at e;cases e
   | false =>
    rw[h3,cond_false] at e
    cases h4:Ky (Kd h.2.2) ns roles 0 with
    |true=>rw[h4] at e;cases e
    |false=>
     rw[h4,cond_false] at e
     exact⟨bne_eq_false_iff_eq.1 h1,of_decide_eq_false h2,rfl,rfl,e⟩
theorem Jn {r:Reg} {ns:List ByteArray} {w:Int} {b:Bool} {l:List (Int×Bool)} {i:Nat} (h:Kk r ns ((w,b)::l) i=false):(b=true→Vi r w (ns.getD i Ja)=true)∧Kk r ns l (i+1)=false:=by
 unfold Kk at h
 cases b with
 |false=>exact⟨fun f=>(by cases f),h⟩
 |true=>
  cases h1:Vi r w (ns.getD i Ja) with
  |true=>rw[h1] at h;exact⟨fun _=>rfl,h⟩
  |false=>rw[h1] at h;cases h
theorem Jrz {r:Reg} {s:ByteArray} (h:Vi r 0 s=true):0≤Jy r.2.2.1 s:=of_decide_eq_true (show decide _=true from h)
theorem J2i {r:Reg} {s:ByteArray} (h:Vi r 1 s=true):0≤Kw r.2.2.2.1 s:=of_decide_eq_true (show decide _=true from h)
theorem J2h {r:Reg} {s:ByteArray} (h:Vi r 2 s=true):0≤J7 r.2.2.2.2.2.1 s:=of_decide_eq_true (show decide _=true from h)
theorem Kga {r:Reg} {s:ByteArray} (h:Vi r 3 s=true):0≤Uy r.2.2.2.2.2.2 s:=of_decide_eq_true (show decide _=true from h)
theorem Jzf {h:Kn} {n:Int} {k:ByteArray} {ns:List ByteArray} {vs:List Int} {tx:ByteArray} (hk:(k.toList==J0.toList)=false) (hc:Jb (n,k,ns,vs,tx)=0) (ha:L1 h (n,k,ns,vs,tx)=0):Up h (n,k,ns,vs,tx)=0∧Vm h (n,k,ns,vs,tx)=(h.1++[(n,k,ns,vs,tx)],h.2.1++[(n,k,ns,vs,tx)],h.2.2++[Ju (Kd h.2.2) (n,k,ns,vs,tx)]):=by
 have e:Up h (n,k,ns,vs,tx)=0:=by unfold Up;rw[if_neg (by rw[hc];simp)];exact ha
 refine⟨e, ?_⟩
 unfold Vm;rw[if_pos e];unfold Dv;dsimp only;rw[hk];rfl
theorem Jgj {E C:List Ev} {G:List Reg} {n:Int} {k:ByteArray} {ns:List ByteArray} {vs:List Int} {tx:ByteArray} (hk:(k.toList==J0.toList)=false) (hc:Jb (n,k,ns,vs,tx)=0) (ha:L1 (E,C,G) (n,k,ns,vs,tx)=0):Kk (Kd G) ns (Jj k).1 0=false∧Up (E,C,G) (n,k,ns,vs,tx)=0∧Vm (E,C,G) (n,k,ns,vs,tx)=(E++[(n,k,ns,vs,tx)],C++[(n,k,ns,vs,tx)],G++[Ju (Kd G) (n,k,ns,vs,tx)]):=
 have e:=Y1 (h:=(E,C,G)) (n:=n) (ns:=ns) (vs:=vs) (tx:=tx) hk
 ⟨(Jbb (e.symm.trans ha)).2.2.1,Jzf hk hc ha⟩
theorem J0w {h:Kn} {n:Int} {ns:List ByteArray} {vs:List Int} {tx:ByteArray} (ha:L1 h (n,J0,ns,vs,tx)=0):n=(h.1.length:Int)+1∧h.2.1.length≠0∧((h.2.1.getD (h.2.1.length-1) ev0).2.1.toList==Jh.toList)=false:=by
 unfold L1 at ha
 dsimp only at ha
 rw[show(J0.toList==J0.toList)=true from by kernel_rfl,cond_true] at ha
 cases h1:n !=(h.1.length:Int)+1 with
 |true=>rw[h1] at ha;cases ha
 | false =>
  rw[h1,cond_false] at ha
  cases h2:(h.2.1.length:Int)==0 with
  |true=>rw[h2] at ha;cases ha
  |false=>
   rw[h2,cond_false] at ha
   cases h3:(h.2.1.getD (h.2.1.length-1) ev0).2.1.toList==Jh.toList with
   |true=>rw[h3] at ha;cases ha
   |false=>exact⟨bne_eq_false_iff_eq.1 h1,(fun e=>by rw[e] at h2;cases h2),rfl⟩
def Z40 (a:List Ev):=List.length a<1000
def Jdc (a:List Ev):=(List.length a+1)*88≤140737488355328
def Jd0:=0≤1000000∧T2 (0≤1000000) (Tw (0≤1000000))
def Jdz (a:List Ev) (b:List Reg):=(List.take (Int.toNat (Z3 a)) a,List.take (Int.toNat (Z3 a)) b)
def D3 (a:List Ev) (b:List Reg):=Jdc a∧(List.length b+1)*136≤140737488355328
def Jdx (a:List Ev) (b:List Reg):=(0≤Z3 a∧Z3 a≤Ln a)∧0≤Z3 a∧Z3 a≤Ln b
def Jdw (a:Ls) (b:Li):=Jaf a∧Z45 b∧Jhq a
def Jdv (a:List Reg):=List.length (Ho a).1≤1000000∧List.length (Hn a).1≤1000000∧List.length (L4 a).1≤1000000∧List.length (Zx a).1≤1000000∧List.length (Zx a).2≤1000000
theorem Jqz (T:TypeId) (E C:List Ev) (G:List Reg) (n:Int) (ns:List ByteArray) (vs:List Int) (tx:ByteArray):wpFO Tryz.prog W92.g (na ()) (fun _=>na ()) (Sx.look ([(75,Tryz.f75),(129,Tryz.f129)]:List (Nat×Func))) Tryz.f121 Jb7 T (E,C,G) ((n,J0,ns,vs,tx),()):=by
 refine(by kernel_rfl:(Kf (E,C,G)→Z40 E→Jfm (Z2 n ns vs tx)→Jb (Z2 n ns vs tx)=0→Jsc E C G n ns vs tx=0→Jdw ns vs∧Br (Jb (Z2 n ns vs tx) !=0) (Sf true (Sf T ((E,C,G)=Vm (E,C,G) (Z2 n ns vs tx)∧Jb (Z2 n ns vs tx)=Up (E,C,G) (Z2 n ns vs tx)))) ((Kf (E,C,G)∧Jb (Z2 n ns vs tx)=0)∧Br (Jsc E C G n ns vs tx !=0) (Sf true (Sf T ((E,C,G)=Vm (E,C,G) (Z2 n ns vs tx)∧Jsc E C G n ns vs tx=Up (E,C,G) (Z2 n ns vs tx)))) (Jc4 ns vs∧Jdc E∧Br true (Z60 C∧Jdx C G∧Sf true (Sf T ((E++[Z2 n ns vs tx],Jdz C G)=Vm (E,C,G) (Z2 n ns vs tx)∧0=Up (E,C,G) (Z2 n ns vs tx)))) (Br (V5 G) (V4 G∧Jdv G∧False∧Z87 vs∧D3 C G∧Sf true (Sf T ((E++[Z2 n ns vs tx],C++[Z2 n ns vs tx],G++[(U2 vs,Fo G)])=Vm (E,C,G) (Z2 n ns vs tx)∧0=Up (E,C,G) (Z2 n ns vs tx)))) (Jd0∧False∧Z87 vs∧D3 C G∧Sf true (Sf T ((E++[Z2 n ns vs tx],C++[Z2 n ns vs tx],G++[(U2 vs,L5)])=Vm (E,C,G) (Z2 n ns vs tx)∧0=Up (E,C,G) (Z2 n ns vs tx))))))))=_).mp ?_
 delta Z2 Z3 Z24 Z40 Z45 Z60 Z87 U2 V5 Jaf Jsc Jdc Jgu Jc4 L5 Jd0 V4 Vw Jdz Jhq D3 D2 D1 Ho Fp Hn L4 Zx Jdx Jdw Fo Jdv Br Iw Bd T2 Tw Sf Ln Gt E2 J0
 intro hh hlt hsz hc ha
 obtain⟨a1,a2,a3⟩:=J0w ha
 have n1:E.length≤1000:=hh.nE
 have n2:C.length≤E.length:=hh.nC
 have n3:G.length=C.length:=hh.nG
 have a2:C.length≠0:=a2
 have hC:((C.length:Int)-1).toNat=C.length-1:=by omega
 have eE:Up (E,C,G) (n,J0,ns,vs,tx)=0:=by unfold Up;rw[if_neg (by rw[hc];simp)];exact ha
 have eP:Vm (E,C,G) (n,J0,ns,vs,tx)=(E++[(n,J0,ns,vs,tx)],C.take (C.length-1),G.take (C.length-1)):=by
  unfold Vm;rw[if_pos eE];unfold Dv;dsimp only;rw[show(J0.toList==J0.toList)=true from by kernel_rfl];rfl
 simp only[eE,eP,hc,ha,hC]
 repeat' first|exact hh|exact hsz.2.2|apply And.intro|intro _
 all_goals first|trivial|omega|assumption|contradiction|exact hsz.1|exact hsz.2.1|rfl
def Kyj (a:Int) (b:Ls) (c:Li) (d:Bt):=(Ja0 Vw (Z29 a b c d)).2
def Kyb (a:Int) (b:Ls) (c:Li) (d:Bt):=(Kyj a b c d).2
def Kxz (a:Int) (b:Ls) (c:Li) (d:Bt):=(Kyb a b c d).2
def Kxo (a:Int) (b:Ls) (c:Li) (d:Bt):=(Kxz a b c d).2
def Kr5 (a:List Reg) (b:Int) (c:Ls) (d:Li) (e:Bt):=(Ja0 (Yf a) (Z29 b c d e)).2
def Krv (a:List Reg) (b:Int) (c:Ls) (d:Li) (e:Bt):=(Kr5 a b c d e).2
def Krn (a:List Reg) (b:Int) (c:Ls) (d:Li) (e:Bt):=(Krv a b c d e).2
def J7w (a:List Reg) (b:Int) (c:Ls) (d:Li) (e:Bt):=(Krn a b c d e).2
theorem Jh5 (T:TypeId) (E C:List Ev) (G:List Reg) (n:Int) (ns:List ByteArray) (vs:List Int) (tx:ByteArray):wpFO Tryz.prog W92.g (na ()) (fun _=>na ()) (Sx.look ([(75,Tryz.f75),(129,Tryz.f129)]:List (Nat×Func))) Tryz.f121 Jb7 T (E,C,G) ((n,Js,ns,vs,tx),()):=by
 refine(by kernel_rfl:(Kf (E,C,G)→Z40 E→Jfm (Z29 n ns vs tx)→Jb (Z29 n ns vs tx)=0→Jqg E C G n ns vs tx=0→Jdw ns vs∧Br (Jb (Z29 n ns vs tx) !=0) (Sf true (Sf T ((E,C,G)=Vm (E,C,G) (Z29 n ns vs tx)∧Jb (Z29 n ns vs tx)=Up (E,C,G) (Z29 n ns vs tx)))) ((Kf (E,C,G)∧Jb (Z29 n ns vs tx)=0)∧Br (Jqg E C G n ns vs tx !=0) (Sf true (Sf T ((E,C,G)=Vm (E,C,G) (Z29 n ns vs tx)∧Jqg E C G n ns vs tx=Up (E,C,G) (Z29 n ns vs tx)))) (Jc4 ns vs∧Jdc E∧Br false (Z60 C∧Jdx C G∧Sf true (Sf T ((E++[Z29 n ns vs tx],Jdz C G)=Vm (E,C,G) (Z29 n ns vs tx)∧0=Up (E,C,G) (Z29 n ns vs tx)))) (Br (V5 G) (V4 G∧Jdv G∧(Y3 G∧Y4 ns∧Z57 vs)∧Z87 vs∧D3 C G∧Sf true (Sf T ((E++[Z29 n ns vs tx],C++[Z29 n ns vs tx],G++[(U2 vs,(Kr5 G n ns vs tx).1,(Krv G n ns vs tx).1,(Krn G n ns vs tx).1,(J7w G n ns vs tx).1,E2 (J7w G n ns vs tx).2)])=Vm (E,C,G) (Z29 n ns vs tx)∧0=Up (E,C,G) (Z29 n ns vs tx)))) (Jd0∧(Yv∧Y4 ns∧Z57 vs)∧Z87 vs∧D3 C G∧Sf true (Sf T ((E++[Z29 n ns vs tx],C++[Z29 n ns vs tx],G++[(U2 vs,(Kyj n ns vs tx).1,(Kyb n ns vs tx).1,(Kxz n ns vs tx).1,(Kxo n ns vs tx).1,E2 (Kxo n ns vs tx).2)])=Vm (E,C,G) (Z29 n ns vs tx)∧0=Up (E,C,G) (Z29 n ns vs tx))))))))=_).mp ?_
 delta Z3 Z24 Z29 Z40 Z45 Z57 Z60 Z87 U2 V5 Y4 Jaf Jqg Jdc Jgu Jc4 L5 Jd0 V4 Vw Yv Jdz Jhq D3 Kyj D2 Kyb Jae D1 Ho Fp Kxz Hn Kxo L4 Zx Jdx Jdw Fo Jdv Yf Y3 Kr5 Krv Krn J7w Br Iw Bd T2 Tw Sf Ln Gt E2 Js
 intro hh hlt hsz hc ha
 obtain⟨u0,aE,aP⟩:=Jgj (k:=Js) (by kernel_rfl) hc ha
 obtain⟨hn,hv,hR,_,n1,n2,n3,hG,hV⟩:=Hx hh hc
 simp only[K2,List.length_cons,List.length_nil] at hn hv u0
 have hs:Ju (Kd G) (n,Js,ns,vs,tx)=(vs.getD 0 0,(Ja0 (Kd G) (n,Js,ns,vs,tx)).2):=by simp only[Ju,doS,K2]
 simp only[aE,aP,hs,hc,ha,hG,Hq,Jhb,Prod.eta]
 repeat' first|exact hV|exact hh|exact hR|exact hsz.2.2|apply And.intro|intro _
 all_goals first|trivial|omega|assumption|exact Nat.le_trans hR.nS (by decide)|exact Nat.le_trans hR.nO (by decide)|exact Nat.le_trans hR.nM (by decide)|exact Nat.le_trans hR.nX (by decide)|exact Nat.le_trans hR.nQ (by decide)|exact Nat.zero_le _|exact hsz.1|exact hsz.2.1|(rename_i h;have h:=of_decide_eq_true h;omega)|rfl|(rw[←Kl ‹_›];first|done|exact hR)
def Kyv (a:Int) (b:Ls) (c:Li) (d:Bt):=(Fg Vw (Z10 a b c d)).2
def Kym (a:Int) (b:Ls) (c:Li) (d:Bt):=(Kyv a b c d).2
def Kx8 (a:Int) (b:Ls) (c:Li) (d:Bt):=(Kym a b c d).2
def Kxy (a:Int) (b:Ls) (c:Li) (d:Bt):=(Kx8 a b c d).2
def Ksf (a:List Reg) (b:Int) (c:Ls) (d:Li) (e:Bt):=(Fg (Yf a) (Z10 b c d e)).2
def Kr3 (a:List Reg) (b:Int) (c:Ls) (d:Li) (e:Bt):=(Ksf a b c d e).2
def Krx (a:List Reg) (b:Int) (c:Ls) (d:Li) (e:Bt):=(Kr3 a b c d e).2
def Krl (a:List Reg) (b:Int) (c:Ls) (d:Li) (e:Bt):=(Krx a b c d e).2
theorem Jmt (T:TypeId) (E C:List Ev) (G:List Reg) (n:Int) (ns:List ByteArray) (vs:List Int) (tx:ByteArray):wpFO Tryz.prog W92.g (na ()) (fun _=>na ()) (Sx.look ([(75,Tryz.f75),(129,Tryz.f129)]:List (Nat×Func))) Tryz.f121 Jb7 T (E,C,G) ((n,Kv,ns,vs,tx),()):=by
 refine(by kernel_rfl:(Kf (E,C,G)→Z40 E→Jfm (Z10 n ns vs tx)→Jb (Z10 n ns vs tx)=0→Jsa E C G n ns vs tx=0→Jdw ns vs∧Br (Jb (Z10 n ns vs tx) !=0) (Sf true (Sf T ((E,C,G)=Vm (E,C,G) (Z10 n ns vs tx)∧Jb (Z10 n ns vs tx)=Up (E,C,G) (Z10 n ns vs tx)))) ((Kf (E,C,G)∧Jb (Z10 n ns vs tx)=0)∧Br (Jsa E C G n ns vs tx !=0) (Sf true (Sf T ((E,C,G)=Vm (E,C,G) (Z10 n ns vs tx)∧Jsa E C G n ns vs tx=Up (E,C,G) (Z10 n ns vs tx)))) (Jc4 ns vs∧Jdc E∧Br false (Z60 C∧Jdx C G∧Sf true (Sf T ((E++[Z10 n ns vs tx],Jdz C G)=Vm (E,C,G) (Z10 n ns vs tx)∧0=Up (E,C,G) (Z10 n ns vs tx)))) (Br (V5 G) (V4 G∧Jdv G∧(Y3 G∧Y4 ns∧Z57 vs∧0≤Jy (Ho G).1 (Lu ns))∧Z87 vs∧D3 C G∧Sf true (Sf T ((E++[Z10 n ns vs tx],C++[Z10 n ns vs tx],G++[(U2 vs,(Ksf G n ns vs tx).1,(Kr3 G n ns vs tx).1,(Krx G n ns vs tx).1,(Krl G n ns vs tx).1,E2 (Krl G n ns vs tx).2)])=Vm (E,C,G) (Z10 n ns vs tx)∧0=Up (E,C,G) (Z10 n ns vs tx)))) (Jd0∧(Yv∧Y4 ns∧Z57 vs∧0≤Jy [] (Lu ns))∧Z87 vs∧D3 C G∧Sf true (Sf T ((E++[Z10 n ns vs tx],C++[Z10 n ns vs tx],G++[(U2 vs,(Kyv n ns vs tx).1,(Kym n ns vs tx).1,(Kx8 n ns vs tx).1,(Kxy n ns vs tx).1,E2 (Kxy n ns vs tx).2)])=Vm (E,C,G) (Z10 n ns vs tx)∧0=Up (E,C,G) (Z10 n ns vs tx))))))))=_).mp ?_
 delta Z3 Z10 Z24 Z40 Z45 Z57 Z60 Z87 U2 V5 Lu Y4 Jaf Jsa Jdc Jgu Jc4 L5 Jd0 V4 Vw Yv Jdz Jhq D3 Kyv Kym D2 Kx8 Jae D1 Ho Fp Kxy Hn L4 Zx Jdx Jdw Fo Jdv Yf Y3 Ksf Kr3 Krx Krl Br Iw Bd T2 Tw Sf Ln Gt E2 Kv
 intro hh hlt hsz hc ha
 obtain⟨u0,aE,aP⟩:=Jgj (k:=Kv) (by kernel_rfl) hc ha
 obtain⟨hn,hv,hR,_,n1,n2,n3,hG,hV⟩:=Hx hh hc
 simp only[U8,List.length_cons,List.length_nil] at hn hv u0
 obtain⟨k0,u1⟩:=Jn u0
 have f0:=Jrz (k0 rfl)
 have hs:Ju (Kd G) (n,Kv,ns,vs,tx)=(vs.getD 0 0,(Fg (Kd G) (n,Kv,ns,vs,tx)).2):=by simp only[Ju,doS,U8]
 simp only[aE,aP,hs,hc,ha,hG,Hq,Jhb,Prod.eta]
 repeat' first|exact hV|exact hh|exact hR|exact hsz.2.2|apply And.intro|intro _
 all_goals first|trivial|omega|assumption|exact Nat.le_trans hR.nS (by decide)|exact Nat.le_trans hR.nO (by decide)|exact Nat.le_trans hR.nM (by decide)|exact Nat.le_trans hR.nX (by decide)|exact Nat.le_trans hR.nQ (by decide)|exact Nat.zero_le _|exact hsz.1|exact hsz.2.1|(rename_i h;have h:=of_decide_eq_true h;omega)|rfl|(rw[←Kl ‹_›];first|done|exact hR)|(rw[Kl ‹_›] at f0;exact f0)
def Kyu (a:Int) (b:Ls) (c:Li) (d:Bt):=(Fk Vw (Z12 a b c d)).2
def Kyh (a:Int) (b:Ls) (c:Li) (d:Bt):=(Kyu a b c d).2
def Kx7 (a:Int) (b:Ls) (c:Li) (d:Bt):=(Kyh a b c d).2
def Kxv (a:Int) (b:Ls) (c:Li) (d:Bt):=(Kx7 a b c d).2
def Ksd (a:List Reg) (b:Int) (c:Ls) (d:Li) (e:Bt):=(Fk (Yf a) (Z12 b c d e)).2
def Kr4 (a:List Reg) (b:Int) (c:Ls) (d:Li) (e:Bt):=(Ksd a b c d e).2
def Krt (a:List Reg) (b:Int) (c:Ls) (d:Li) (e:Bt):=(Kr4 a b c d e).2
def Krm (a:List Reg) (b:Int) (c:Ls) (d:Li) (e:Bt):=(Krt a b c d e).2
theorem Jmu (T:TypeId) (E C:List Ev) (G:List Reg) (n:Int) (ns:List ByteArray) (vs:List Int) (tx:ByteArray):wpFO Tryz.prog W92.g (na ()) (fun _=>na ()) (Sx.look ([(75,Tryz.f75),(129,Tryz.f129)]:List (Nat×Func))) Tryz.f121 Jb7 T (E,C,G) ((n,Ke,ns,vs,tx),()):=by
 refine(by kernel_rfl:(Kf (E,C,G)→Z40 E→Jfm (Z12 n ns vs tx)→Jb (Z12 n ns vs tx)=0→Jql E C G n ns vs tx=0→Jdw ns vs∧Br (Jb (Z12 n ns vs tx) !=0) (Sf true (Sf T ((E,C,G)=Vm (E,C,G) (Z12 n ns vs tx)∧Jb (Z12 n ns vs tx)=Up (E,C,G) (Z12 n ns vs tx)))) ((Kf (E,C,G)∧Jb (Z12 n ns vs tx)=0)∧Br (Jql E C G n ns vs tx !=0) (Sf true (Sf T ((E,C,G)=Vm (E,C,G) (Z12 n ns vs tx)∧Jql E C G n ns vs tx=Up (E,C,G) (Z12 n ns vs tx)))) (Jc4 ns vs∧Jdc E∧Br false (Z60 C∧Jdx C G∧Sf true (Sf T ((E++[Z12 n ns vs tx],Jdz C G)=Vm (E,C,G) (Z12 n ns vs tx)∧0=Up (E,C,G) (Z12 n ns vs tx)))) (Br (V5 G) (V4 G∧Jdv G∧(Y3 G∧Js2 ns∧Kha vs G ns)∧Z87 vs∧D3 C G∧Sf true (Sf T ((E++[Z12 n ns vs tx],C++[Z12 n ns vs tx],G++[(U2 vs,(Ksd G n ns vs tx).1,(Kr4 G n ns vs tx).1,(Krt G n ns vs tx).1,(Krm G n ns vs tx).1,E2 (Krm G n ns vs tx).2)])=Vm (E,C,G) (Z12 n ns vs tx)∧0=Up (E,C,G) (Z12 n ns vs tx)))) (Jd0∧(Yv∧Js2 ns∧Kju vs ns)∧Z87 vs∧D3 C G∧Sf true (Sf T ((E++[Z12 n ns vs tx],C++[Z12 n ns vs tx],G++[(U2 vs,(Kyu n ns vs tx).1,(Kyh n ns vs tx).1,(Kx7 n ns vs tx).1,(Kxv n ns vs tx).1,E2 (Kxv n ns vs tx).2)])=Vm (E,C,G) (Z12 n ns vs tx)∧0=Up (E,C,G) (Z12 n ns vs tx))))))))=_).mp ?_
 delta Z3 Z12 Z24 Z40 Z45 Z54 Z60 Z87 U2 V5 Jaf Jj2 Js2 Jql Jdc Jgu Kfh Jc4 L5 Jd0 V4 Vw Yv Jdz Kju Jhq D3 Kyu Kyh D2 Kx7 Jae D1 Ho Fp Kxv Hn L4 Zx Jdx Jdw Kdt Kha Fo Jdv Yf Y3 Ksd Kr4 Krt Krm Br Iw Bd T2 Tw Sf Ln Gt E2 Ke
 intro hh hlt hsz hc ha
 obtain⟨u0,aE,aP⟩:=Jgj (k:=Ke) (by kernel_rfl) hc ha
 obtain⟨hn,hv,hR,_,n1,n2,n3,hG,hV⟩:=Hx hh hc
 simp only[Uj,List.length_cons,List.length_nil] at hn hv u0
 obtain⟨k0,u1⟩:=Jn u0
 obtain⟨k1,u2⟩:=Jn u1
 obtain⟨k2,u3⟩:=Jn u2
 have f1:=Jrz (k1 rfl)
 have f2:=Jrz (k2 rfl)
 have hs:Ju (Kd G) (n,Ke,ns,vs,tx)=(vs.getD 0 0,(Fk (Kd G) (n,Ke,ns,vs,tx)).2):=by simp only[Ju,doS,Uj]
 simp only[aE,aP,hs,hc,ha,hG,Hq,Jhb,Prod.eta]
 repeat' first|exact hV|exact hh|exact hR|exact hsz.2.2|apply And.intro|intro _
 all_goals first|trivial|omega|assumption|exact Nat.le_trans hR.nS (by decide)|exact Nat.le_trans hR.nO (by decide)|exact Nat.le_trans hR.nM (by decide)|exact Nat.le_trans hR.nX (by decide)|exact Nat.le_trans hR.nQ (by decide)|exact Nat.zero_le _|exact hsz.1|exact hsz.2.1|(rename_i h;have h:=of_decide_eq_true h;omega)|rfl|(rw[←Kl ‹_›];first|done|exact hR)|(rw[Kl ‹_›] at f1;exact f1)|(rw[Kl ‹_›] at f2;exact f2)
def Kyt (a:Int) (b:Ls) (c:Li) (d:Bt):=(Fl Vw (Z11 a b c d)).2
def Kyi (a:Int) (b:Ls) (c:Li) (d:Bt):=(Kyt a b c d).2
def Kx6 (a:Int) (b:Ls) (c:Li) (d:Bt):=(Kyi a b c d).2
def Kxu (a:Int) (b:Ls) (c:Li) (d:Bt):=(Kx6 a b c d).2
def Kse (a:List Reg) (b:Int) (c:Ls) (d:Li) (e:Bt):=(Fl (Yf a) (Z11 b c d e)).2
def Kr7 (a:List Reg) (b:Int) (c:Ls) (d:Li) (e:Bt):=(Kse a b c d e).2
def Krw (a:List Reg) (b:Int) (c:Ls) (d:Li) (e:Bt):=(Kr7 a b c d e).2
def Kro (a:List Reg) (b:Int) (c:Ls) (d:Li) (e:Bt):=(Krw a b c d e).2
theorem Jmv (T:TypeId) (E C:List Ev) (G:List Reg) (n:Int) (ns:List ByteArray) (vs:List Int) (tx:ByteArray):wpFO Tryz.prog W92.g (na ()) (fun _=>na ()) (Sx.look ([(75,Tryz.f75),(129,Tryz.f129)]:List (Nat×Func))) Tryz.f121 Jb7 T (E,C,G) ((n,Kq,ns,vs,tx),()):=by
 refine(by kernel_rfl:(Kf (E,C,G)→Z40 E→Jfm (Z11 n ns vs tx)→Jb (Z11 n ns vs tx)=0→Jqm E C G n ns vs tx=0→Jdw ns vs∧Br (Jb (Z11 n ns vs tx) !=0) (Sf true (Sf T ((E,C,G)=Vm (E,C,G) (Z11 n ns vs tx)∧Jb (Z11 n ns vs tx)=Up (E,C,G) (Z11 n ns vs tx)))) ((Kf (E,C,G)∧Jb (Z11 n ns vs tx)=0)∧Br (Jqm E C G n ns vs tx !=0) (Sf true (Sf T ((E,C,G)=Vm (E,C,G) (Z11 n ns vs tx)∧Jqm E C G n ns vs tx=Up (E,C,G) (Z11 n ns vs tx)))) (Jc4 ns vs∧Jdc E∧Br false (Z60 C∧Jdx C G∧Sf true (Sf T ((E++[Z11 n ns vs tx],Jdz C G)=Vm (E,C,G) (Z11 n ns vs tx)∧0=Up (E,C,G) (Z11 n ns vs tx)))) (Br (V5 G) (V4 G∧Jdv G∧(Y3 G∧Y4 ns∧Z46 vs)∧Z87 vs∧D3 C G∧Sf true (Sf T ((E++[Z11 n ns vs tx],C++[Z11 n ns vs tx],G++[(U2 vs,(Kse G n ns vs tx).1,(Kr7 G n ns vs tx).1,(Krw G n ns vs tx).1,(Kro G n ns vs tx).1,E2 (Kro G n ns vs tx).2)])=Vm (E,C,G) (Z11 n ns vs tx)∧0=Up (E,C,G) (Z11 n ns vs tx)))) (Jd0∧(Yv∧Y4 ns∧Z46 vs)∧Z87 vs∧D3 C G∧Sf true (Sf T ((E++[Z11 n ns vs tx],C++[Z11 n ns vs tx],G++[(U2 vs,(Kyt n ns vs tx).1,(Kyi n ns vs tx).1,(Kx6 n ns vs tx).1,(Kxu n ns vs tx).1,E2 (Kxu n ns vs tx).2)])=Vm (E,C,G) (Z11 n ns vs tx)∧0=Up (E,C,G) (Z11 n ns vs tx))))))))=_).mp ?_
 delta Z3 Z11 Z24 Z40 Z45 Z46 Z60 Z87 U2 V5 Y4 Jaf Jqm Jdc Jgu Jc4 L5 Jd0 V4 Vw Yv Jdz Jhq D3 Kyt Kyi D2 Jae Kx6 D1 Ho Fp Kxu Hn L4 Zx Jdx Jdw Fo Jdv Yf Y3 Kse Kr7 Krw Kro Br Iw Bd T2 Tw Sf Ln Gt E2 Kq
 intro hh hlt hsz hc ha
 obtain⟨u0,aE,aP⟩:=Jgj (k:=Kq) (by kernel_rfl) hc ha
 obtain⟨hn,hv,hR,_,n1,n2,n3,hG,hV⟩:=Hx hh hc
 simp only[Uk,List.length_cons,List.length_nil] at hn hv u0
 obtain⟨k0,u1⟩:=Jn u0
 have f0:=J2i (k0 rfl)
 have hs:Ju (Kd G) (n,Kq,ns,vs,tx)=(vs.getD 0 0,(Fl (Kd G) (n,Kq,ns,vs,tx)).2):=by simp only[Ju,doS,Uk]
 simp only[aE,aP,hs,hc,ha,hG,Hq,Jhb,Prod.eta]
 repeat' first|exact hV|exact hh|exact hR|exact hsz.2.2|apply And.intro|intro _
 all_goals first|trivial|omega|assumption|exact Nat.le_trans hR.nS (by decide)|exact Nat.le_trans hR.nO (by decide)|exact Nat.le_trans hR.nM (by decide)|exact Nat.le_trans hR.nX (by decide)|exact Nat.le_trans hR.nQ (by decide)|exact Nat.zero_le _|exact hsz.1|exact hsz.2.1|(rename_i h;have h:=of_decide_eq_true h;omega)|rfl|(rw[←Kl ‹_›];first|done|exact hR)|exact Kl ‹_› ▸f0
def Kyz (a:Int) (b:Ls) (c:Li) (d:Bt):=(Ff Vw (Z5 a b c d)).2
def Kyq (a:Int) (b:Ls) (c:Li) (d:Bt):=(Kyz a b c d).2
def Kyf (a:Int) (b:Ls) (c:Li) (d:Bt):=(Kyq a b c d).2
def Kx3 (a:Int) (b:Ls) (c:Li) (d:Bt):=(Kyf a b c d).2
def Ksh (a:List Reg) (b:Int) (c:Ls) (d:Li) (e:Bt):=(Ff (Yf a) (Z5 b c d e)).2
def Kr9 (a:List Reg) (b:Int) (c:Ls) (d:Li) (e:Bt):=(Ksh a b c d e).2
def Kr2 (a:List Reg) (b:Int) (c:Ls) (d:Li) (e:Bt):=(Kr9 a b c d e).2
def Krs (a:List Reg) (b:Int) (c:Ls) (d:Li) (e:Bt):=(Kr2 a b c d e).2
theorem Jq0 (T:TypeId) (E C:List Ev) (G:List Reg) (n:Int) (ns:List ByteArray) (vs:List Int) (tx:ByteArray):wpFO Tryz.prog W92.g (na ()) (fun _=>na ()) (Sx.look ([(75,Tryz.f75),(129,Tryz.f129)]:List (Nat×Func))) Tryz.f121 Jb7 T (E,C,G) ((n,Vf,ns,vs,tx),()):=by
 refine(by kernel_rfl:(Kf (E,C,G)→Z40 E→Jfm (Z5 n ns vs tx)→Jb (Z5 n ns vs tx)=0→Jqn E C G n ns vs tx=0→Jdw ns vs∧Br (Jb (Z5 n ns vs tx) !=0) (Sf true (Sf T ((E,C,G)=Vm (E,C,G) (Z5 n ns vs tx)∧Jb (Z5 n ns vs tx)=Up (E,C,G) (Z5 n ns vs tx)))) ((Kf (E,C,G)∧Jb (Z5 n ns vs tx)=0)∧Br (Jqn E C G n ns vs tx !=0) (Sf true (Sf T ((E,C,G)=Vm (E,C,G) (Z5 n ns vs tx)∧Jqn E C G n ns vs tx=Up (E,C,G) (Z5 n ns vs tx)))) (Jc4 ns vs∧Jdc E∧Br false (Z60 C∧Jdx C G∧Sf true (Sf T ((E++[Z5 n ns vs tx],Jdz C G)=Vm (E,C,G) (Z5 n ns vs tx)∧0=Up (E,C,G) (Z5 n ns vs tx)))) (Br (V5 G) (V4 G∧Jdv G∧J1m G ns vs∧Z87 vs∧D3 C G∧Sf true (Sf T ((E++[Z5 n ns vs tx],C++[Z5 n ns vs tx],G++[(U2 vs,(Ksh G n ns vs tx).1,(Kr9 G n ns vs tx).1,(Kr2 G n ns vs tx).1,(Krs G n ns vs tx).1,E2 (Krs G n ns vs tx).2)])=Vm (E,C,G) (Z5 n ns vs tx)∧0=Up (E,C,G) (Z5 n ns vs tx)))) (Jd0∧Kg3 ns vs∧Z87 vs∧D3 C G∧Sf true (Sf T ((E++[Z5 n ns vs tx],C++[Z5 n ns vs tx],G++[(U2 vs,(Kyz n ns vs tx).1,(Kyq n ns vs tx).1,(Kyf n ns vs tx).1,(Kx3 n ns vs tx).1,E2 (Kx3 n ns vs tx).2)])=Vm (E,C,G) (Z5 n ns vs tx)∧0=Up (E,C,G) (Z5 n ns vs tx))))))))=_).mp ?_
 delta Z3 Z5 Z24 Z40 Z43 Z45 Z60 Z87 U2 V5 Lu Y4 Jaf Jqn Jdc Jgu Kfg Jc4 L5 Jd0 V4 Vw Yv Jdz Jhq D3 Kyz Kyq D2 Kyf Jae D1 Kx3 Ho Fp Hn L4 Zx Jdx Jdw Kdn Kg3 Fo Jdv Yf Y3 Ksh Kr9 Kr2 Krs J1m Br Iw Bd T2 Tw Sf Ln Gt E2 Vf
 intro hh hlt hsz hc ha
 obtain⟨u0,aE,aP⟩:=Jgj (k:=Vf) (by kernel_rfl) hc ha
 obtain⟨hn,hv,hR,_,n1,n2,n3,hG,hV⟩:=Hx hh hc
 simp only[Vg,List.length_cons,List.length_nil] at hn hv u0
 obtain⟨k0,u1⟩:=Jn u0
 have f0:=J2i (k0 rfl)
 have hs:Ju (Kd G) (n,Vf,ns,vs,tx)=(vs.getD 0 0,(Ff (Kd G) (n,Vf,ns,vs,tx)).2):=by simp only[Ju,doS,Vg]
 simp only[aE,aP,hs,hc,ha,hG,Hq,Jhb,Prod.eta]
 repeat' first|exact hV|exact hh|exact hR|exact hsz.2.2|apply And.intro|intro _
 all_goals first|trivial|omega|assumption|exact Nat.le_trans hR.nS (by decide)|exact Nat.le_trans hR.nO (by decide)|exact Nat.le_trans hR.nM (by decide)|exact Nat.le_trans hR.nX (by decide)|exact Nat.le_trans hR.nQ (by decide)|exact Nat.zero_le _|exact hsz.1|exact hsz.2.1|(rename_i h;have h:=of_decide_eq_true h;omega)|rfl|(rw[←Kl ‹_›];first|done|exact hR)|(rw[Kl ‹_›] at f0;exact f0)
def Kyr (a:Int) (b:Ls) (c:Li) (d:Bt):=(Fi Vw (Z18 a b c d)).2
def Kye (a:Int) (b:Ls) (c:Li) (d:Bt):=(Kyr a b c d).2
def Kx5 (a:Int) (b:Ls) (c:Li) (d:Bt):=(Kye a b c d).2
def Kxs (a:Int) (b:Ls) (c:Li) (d:Bt):=(Kx5 a b c d).2
def Ksc (a:List Reg) (b:Int) (c:Ls) (d:Li) (e:Bt):=(Fi (Yf a) (Z18 b c d e)).2
def Kr0 (a:List Reg) (b:Int) (c:Ls) (d:Li) (e:Bt):=(Ksc a b c d e).2
def Krq (a:List Reg) (b:Int) (c:Ls) (d:Li) (e:Bt):=(Kr0 a b c d e).2
def Kri (a:List Reg) (b:Int) (c:Ls) (d:Li) (e:Bt):=(Krq a b c d e).2
theorem Jkm (T:TypeId) (E C:List Ev) (G:List Reg) (n:Int) (ns:List ByteArray) (vs:List Int) (tx:ByteArray):wpFO Tryz.prog W92.g (na ()) (fun _=>na ()) (Sx.look ([(75,Tryz.f75),(129,Tryz.f129)]:List (Nat×Func))) Tryz.f121 Jb7 T (E,C,G) ((n,Jt,ns,vs,tx),()):=by
 refine(by kernel_rfl:(Kf (E,C,G)→Z40 E→Jfm (Z18 n ns vs tx)→Jb (Z18 n ns vs tx)=0→Jqi E C G n ns vs tx=0→Jdw ns vs∧Br (Jb (Z18 n ns vs tx) !=0) (Sf true (Sf T ((E,C,G)=Vm (E,C,G) (Z18 n ns vs tx)∧Jb (Z18 n ns vs tx)=Up (E,C,G) (Z18 n ns vs tx)))) ((Kf (E,C,G)∧Jb (Z18 n ns vs tx)=0)∧Br (Jqi E C G n ns vs tx !=0) (Sf true (Sf T ((E,C,G)=Vm (E,C,G) (Z18 n ns vs tx)∧Jqi E C G n ns vs tx=Up (E,C,G) (Z18 n ns vs tx)))) (Jc4 ns vs∧Jdc E∧Br false (Z60 C∧Jdx C G∧Sf true (Sf T ((E++[Z18 n ns vs tx],Jdz C G)=Vm (E,C,G) (Z18 n ns vs tx)∧0=Up (E,C,G) (Z18 n ns vs tx)))) (Br (V5 G) (V4 G∧Jdv G∧(Y3 G∧Jqp ns∧Z54 vs)∧Z87 vs∧D3 C G∧Sf true (Sf T ((E++[Z18 n ns vs tx],C++[Z18 n ns vs tx],G++[(U2 vs,(Ksc G n ns vs tx).1,(Kr0 G n ns vs tx).1,(Krq G n ns vs tx).1,(Kri G n ns vs tx).1,E2 (Kri G n ns vs tx).2)])=Vm (E,C,G) (Z18 n ns vs tx)∧0=Up (E,C,G) (Z18 n ns vs tx)))) (Jd0∧(Yv∧Jqp ns∧Z54 vs)∧Z87 vs∧D3 C G∧Sf true (Sf T ((E++[Z18 n ns vs tx],C++[Z18 n ns vs tx],G++[(U2 vs,(Kyr n ns vs tx).1,(Kye n ns vs tx).1,(Kx5 n ns vs tx).1,(Kxs n ns vs tx).1,E2 (Kxs n ns vs tx).2)])=Vm (E,C,G) (Z18 n ns vs tx)∧0=Up (E,C,G) (Z18 n ns vs tx))))))))=_).mp ?_
 delta Z3 Z18 Z24 Z40 Z45 Z54 Z60 Z87 U2 V5 Jqp Jaf Jqi Jdc Jgu Jc4 L5 Jd0 V4 Vw Yv Jdz Jhq D3 Kyr D2 Kye Jae D1 Kx5 Ho Fp Kxs Hn L4 Zx Jdx Jdw Fo Jdv Yf Y3 Ksc Kr0 Krq Kri Br Iw Bd T2 Tw Sf Ln Gt E2 Jt
 intro hh hlt hsz hc ha
 obtain⟨u0,aE,aP⟩:=Jgj (k:=Jt) (by kernel_rfl) hc ha
 obtain⟨hn,hv,hR,_,n1,n2,n3,hG,hV⟩:=Hx hh hc
 simp only[Km,List.length_cons,List.length_nil] at hn hv u0
 obtain⟨k0,u1⟩:=Jn u0
 obtain⟨k1,u2⟩:=Jn u1
 have f1:=Jrz (k1 rfl)
 have hs:Ju (Kd G) (n,Jt,ns,vs,tx)=(vs.getD 0 0,(Fi (Kd G) (n,Jt,ns,vs,tx)).2):=by simp only[Ju,doS,Km]
 simp only[aE,aP,hs,hc,ha,hG,Hq,Jhb,Prod.eta]
 repeat' first|exact hV|exact hh|exact hR|exact hsz.2.2|apply And.intro|intro _
 all_goals first|trivial|omega|assumption|exact Nat.le_trans hR.nS (by decide)|exact Nat.le_trans hR.nO (by decide)|exact Nat.le_trans hR.nM (by decide)|exact Nat.le_trans hR.nX (by decide)|exact Nat.le_trans hR.nQ (by decide)|exact Nat.zero_le _|exact hsz.1|exact hsz.2.1|(rename_i h;have h:=of_decide_eq_true h;omega)|rfl|(rw[←Kl ‹_›];first|done|exact hR)|exact Kl ‹_› ▸f1
def Kyg (a:Int) (b:Ls) (c:Li) (d:Bt):=(Fh Vw (Z31 a b c d)).2
def Kya (a:Int) (b:Ls) (c:Li) (d:Bt):=(Kyg a b c d).2
def Kxw (a:Int) (b:Ls) (c:Li) (d:Bt):=(Kya a b c d).2
def Kxn (a:Int) (b:Ls) (c:Li) (d:Bt):=(Kxw a b c d).2
def Kr6 (a:List Reg) (b:Int) (c:Ls) (d:Li) (e:Bt):=(Fh (Yf a) (Z31 b c d e)).2
def Kru (a:List Reg) (b:Int) (c:Ls) (d:Li) (e:Bt):=(Kr6 a b c d e).2
def Krk (a:List Reg) (b:Int) (c:Ls) (d:Li) (e:Bt):=(Kru a b c d e).2
def Krf (a:List Reg) (b:Int) (c:Ls) (d:Li) (e:Bt):=(Krk a b c d e).2
theorem Jh6 (T:TypeId) (E C:List Ev) (G:List Reg) (n:Int) (ns:List ByteArray) (vs:List Int) (tx:ByteArray):wpFO Tryz.prog W92.g (na ()) (fun _=>na ()) (Sx.look ([(75,Tryz.f75),(129,Tryz.f129)]:List (Nat×Func))) Tryz.f121 Jb7 T (E,C,G) ((n,Jo,ns,vs,tx),()):=by
 refine(by kernel_rfl:(Kf (E,C,G)→Z40 E→Jfm (Z31 n ns vs tx)→Jb (Z31 n ns vs tx)=0→Jqh E C G n ns vs tx=0→Jdw ns vs∧Br (Jb (Z31 n ns vs tx) !=0) (Sf true (Sf T ((E,C,G)=Vm (E,C,G) (Z31 n ns vs tx)∧Jb (Z31 n ns vs tx)=Up (E,C,G) (Z31 n ns vs tx)))) ((Kf (E,C,G)∧Jb (Z31 n ns vs tx)=0)∧Br (Jqh E C G n ns vs tx !=0) (Sf true (Sf T ((E,C,G)=Vm (E,C,G) (Z31 n ns vs tx)∧Jqh E C G n ns vs tx=Up (E,C,G) (Z31 n ns vs tx)))) (Jc4 ns vs∧Jdc E∧Br false (Z60 C∧Jdx C G∧Sf true (Sf T ((E++[Z31 n ns vs tx],Jdz C G)=Vm (E,C,G) (Z31 n ns vs tx)∧0=Up (E,C,G) (Z31 n ns vs tx)))) (Br (V5 G) (V4 G∧Jdv G∧J1l G ns vs∧Z87 vs∧D3 C G∧Sf true (Sf T ((E++[Z31 n ns vs tx],C++[Z31 n ns vs tx],G++[(U2 vs,(Kr6 G n ns vs tx).1,(Kru G n ns vs tx).1,(Krk G n ns vs tx).1,(Krf G n ns vs tx).1,E2 (Krf G n ns vs tx).2)])=Vm (E,C,G) (Z31 n ns vs tx)∧0=Up (E,C,G) (Z31 n ns vs tx)))) (Jd0∧Kg4 ns vs∧Z87 vs∧D3 C G∧Sf true (Sf T ((E++[Z31 n ns vs tx],C++[Z31 n ns vs tx],G++[(U2 vs,(Kyg n ns vs tx).1,(Kya n ns vs tx).1,(Kxw n ns vs tx).1,(Kxn n ns vs tx).1,E2 (Kxn n ns vs tx).2)])=Vm (E,C,G) (Z31 n ns vs tx)∧0=Up (E,C,G) (Z31 n ns vs tx))))))))=_).mp ?_
 delta Z3 Z24 Z31 Z40 Z43 Z45 Z60 Z87 U2 V5 Lu Y4 Jaf Jqh Jdc Jgu Jc4 L5 Jd0 V4 Vw Yv Jdz Jhq D3 Kyg D2 Kya Jae D1 Ho Fp Kxw Hn Kxn L4 Zx Jdx Jdw Kg4 Fo Jdv Yf Y3 Kr6 Kru Krk Krf J1l Br Iw Bd T2 Tw Sf Ln Gt E2 Jo
 intro hh hlt hsz hc ha
 obtain⟨u0,aE,aP⟩:=Jgj (k:=Jo) (by kernel_rfl) hc ha
 obtain⟨hn,hv,hR,_,n1,n2,n3,hG,hV⟩:=Hx hh hc
 simp only[J8,List.length_cons,List.length_nil] at hn hv u0
 obtain⟨k0,u1⟩:=Jn u0
 have f0:=J2h (k0 rfl)
 have hs:Ju (Kd G) (n,Jo,ns,vs,tx)=(vs.getD 0 0,(Fh (Kd G) (n,Jo,ns,vs,tx)).2):=by simp only[Ju,doS,J8]
 simp only[aE,aP,hs,hc,ha,hG,Hq,Jhb,Prod.eta]
 repeat' first|exact hV|exact hh|exact hR|exact hsz.2.2|apply And.intro|intro _
 all_goals first|trivial|omega|assumption|exact Nat.le_trans hR.nS (by decide)|exact Nat.le_trans hR.nO (by decide)|exact Nat.le_trans hR.nM (by decide)|exact Nat.le_trans hR.nX (by decide)|exact Nat.le_trans hR.nQ (by decide)|exact Nat.zero_le _|exact hsz.1|exact hsz.2.1|(rename_i h;have h:=of_decide_eq_true h;omega)|rfl|(rw[←Kl ‹_›];first|done|exact hR)|(rw[Kl ‹_›] at f0;exact f0)
def Kyo (a:Int) (b:Ls) (c:Li) (d:Bt):=(Fj Vw (Z19 a b c d)).2
def Kyc (a:Int) (b:Ls) (c:Li) (d:Bt):=(Kyo a b c d).2
def Kx4 (a:Int) (b:Ls) (c:Li) (d:Bt):=(Kyc a b c d).2
def Kxq (a:Int) (b:Ls) (c:Li) (d:Bt):=(Kx4 a b c d).2
def Ksa (a:List Reg) (b:Int) (c:Ls) (d:Li) (e:Bt):=(Fj (Yf a) (Z19 b c d e)).2
def Krz (a:List Reg) (b:Int) (c:Ls) (d:Li) (e:Bt):=(Ksa a b c d e).2
def Krr (a:List Reg) (b:Int) (c:Ls) (d:Li) (e:Bt):=(Krz a b c d e).2
def Krg (a:List Reg) (b:Int) (c:Ls) (d:Li) (e:Bt):=(Krr a b c d e).2
theorem Jkl (T:TypeId) (E C:List Ev) (G:List Reg) (n:Int) (ns:List ByteArray) (vs:List Int) (tx:ByteArray):wpFO Tryz.prog W92.g (na ()) (fun _=>na ()) (Sx.look ([(75,Tryz.f75),(129,Tryz.f129)]:List (Nat×Func))) Tryz.f121 Jb7 T (E,C,G) ((n,J6,ns,vs,tx),()):=by
 refine(by kernel_rfl:(Kf (E,C,G)→Z40 E→Jfm (Z19 n ns vs tx)→Jb (Z19 n ns vs tx)=0→Jqk E C G n ns vs tx=0→Jdw ns vs∧Br (Jb (Z19 n ns vs tx) !=0) (Sf true (Sf T ((E,C,G)=Vm (E,C,G) (Z19 n ns vs tx)∧Jb (Z19 n ns vs tx)=Up (E,C,G) (Z19 n ns vs tx)))) ((Kf (E,C,G)∧Jb (Z19 n ns vs tx)=0)∧Br (Jqk E C G n ns vs tx !=0) (Sf true (Sf T ((E,C,G)=Vm (E,C,G) (Z19 n ns vs tx)∧Jqk E C G n ns vs tx=Up (E,C,G) (Z19 n ns vs tx)))) (Jc4 ns vs∧Jdc E∧Br false (Z60 C∧Jdx C G∧Sf true (Sf T ((E++[Z19 n ns vs tx],Jdz C G)=Vm (E,C,G) (Z19 n ns vs tx)∧0=Up (E,C,G) (Z19 n ns vs tx)))) (Br (V5 G) (V4 G∧Jdv G∧(Y3 G∧Jyl ns)∧Z87 vs∧D3 C G∧Sf true (Sf T ((E++[Z19 n ns vs tx],C++[Z19 n ns vs tx],G++[(U2 vs,(Ksa G n ns vs tx).1,(Krz G n ns vs tx).1,(Krr G n ns vs tx).1,(Krg G n ns vs tx).1,E2 (Krg G n ns vs tx).2)])=Vm (E,C,G) (Z19 n ns vs tx)∧0=Up (E,C,G) (Z19 n ns vs tx)))) (Jd0∧(Yv∧Jyl ns)∧Z87 vs∧D3 C G∧Sf true (Sf T ((E++[Z19 n ns vs tx],C++[Z19 n ns vs tx],G++[(U2 vs,(Kyo n ns vs tx).1,(Kyc n ns vs tx).1,(Kx4 n ns vs tx).1,(Kxq n ns vs tx).1,E2 (Kxq n ns vs tx).2)])=Vm (E,C,G) (Z19 n ns vs tx)∧0=Up (E,C,G) (Z19 n ns vs tx))))))))=_).mp ?_
 delta Z3 Z19 Z24 Z40 Z45 Z60 Z87 U2 V5 Jaf Jyl Jqk Jdc Jgu Jc4 L5 Jd0 V4 Vw Yv Jdz Jhq D3 Kyo D2 Kyc Jae D1 Kx4 Ho Fp Kxq Hn L4 Zx Jdx Jdw Fo Jdv Yf Y3 Ksa Krz Krr Krg Br Iw Bd T2 Tw Sf Ln Gt E2 J6
 intro hh hlt hsz hc ha
 obtain⟨u0,aE,aP⟩:=Jgj (k:=J6) (by kernel_rfl) hc ha
 obtain⟨hn,hv,hR,_,n1,n2,n3,hG,hV⟩:=Hx hh hc
 simp only[Ku,List.length_cons,List.length_nil] at hn hv u0
 obtain⟨k0,u1⟩:=Jn u0
 obtain⟨k1,u2⟩:=Jn u1
 have f1:=J2h (k1 rfl)
 have hs:Ju (Kd G) (n,J6,ns,vs,tx)=(vs.getD 0 0,(Fj (Kd G) (n,J6,ns,vs,tx)).2):=by simp only[Ju,doS,Ku]
 simp only[aE,aP,hs,hc,ha,hG,Hq,Jhb,Prod.eta]
 repeat' first|exact hV|exact hh|exact hR|exact hsz.2.2|apply And.intro|intro _
 all_goals first|trivial|omega|assumption|exact Nat.le_trans hR.nS (by decide)|exact Nat.le_trans hR.nO (by decide)|exact Nat.le_trans hR.nM (by decide)|exact Nat.le_trans hR.nX (by decide)|exact Nat.le_trans hR.nQ (by decide)|exact Nat.zero_le _|exact hsz.1|exact hsz.2.1|(rename_i h;have h:=of_decide_eq_true h;omega)|rfl|(rw[←Kl ‹_›];first|done|exact hR)|exact Kl ‹_› ▸f1
def Kyw (a:Int) (b:Ls) (c:Li) (d:Bt):=(Jgp Vw (Z22 a b c d)).2
def Kyn (a:Int) (b:Ls) (c:Li) (d:Bt):=(Kyw a b c d).2
def Kx9 (a:Int) (b:Ls) (c:Li) (d:Bt):=(Kyn a b c d).2
def Kxx (a:Int) (b:Ls) (c:Li) (d:Bt):=(Kx9 a b c d).2
def Ksg (a:List Reg) (b:Int) (c:Ls) (d:Li) (e:Bt):=(Jgp (Yf a) (Z22 b c d e)).2
def Kr8 (a:List Reg) (b:Int) (c:Ls) (d:Li) (e:Bt):=(Ksg a b c d e).2
def Kry (a:List Reg) (b:Int) (c:Ls) (d:Li) (e:Bt):=(Kr8 a b c d e).2
def Krj (a:List Reg) (b:Int) (c:Ls) (d:Li) (e:Bt):=(Kry a b c d e).2
theorem Jkk (T:TypeId) (E C:List Ev) (G:List Reg) (n:Int) (ns:List ByteArray) (vs:List Int) (tx:ByteArray):wpFO Tryz.prog W92.g (na ()) (fun _=>na ()) (Sx.look ([(75,Tryz.f75),(129,Tryz.f129)]:List (Nat×Func))) Tryz.f121 Jb7 T (E,C,G) ((n,J5,ns,vs,tx),()):=by
 refine(by kernel_rfl:(Kf (E,C,G)→Z40 E→Jfm (Z22 n ns vs tx)→Jb (Z22 n ns vs tx)=0→Jqj E C G n ns vs tx=0→Jdw ns vs∧Br (Jb (Z22 n ns vs tx) !=0) (Sf true (Sf T ((E,C,G)=Vm (E,C,G) (Z22 n ns vs tx)∧Jb (Z22 n ns vs tx)=Up (E,C,G) (Z22 n ns vs tx)))) ((Kf (E,C,G)∧Jb (Z22 n ns vs tx)=0)∧Br (Jqj E C G n ns vs tx !=0) (Sf true (Sf T ((E,C,G)=Vm (E,C,G) (Z22 n ns vs tx)∧Jqj E C G n ns vs tx=Up (E,C,G) (Z22 n ns vs tx)))) (Jc4 ns vs∧Jdc E∧Br false (Z60 C∧Jdx C G∧Sf true (Sf T ((E++[Z22 n ns vs tx],Jdz C G)=Vm (E,C,G) (Z22 n ns vs tx)∧0=Up (E,C,G) (Z22 n ns vs tx)))) (Br (V5 G) (V4 G∧Jdv G∧J1n G ns∧Z87 vs∧D3 C G∧Sf true (Sf T ((E++[Z22 n ns vs tx],C++[Z22 n ns vs tx],G++[(U2 vs,(Ksg G n ns vs tx).1,(Kr8 G n ns vs tx).1,(Kry G n ns vs tx).1,(Krj G n ns vs tx).1,E2 (Krj G n ns vs tx).2)])=Vm (E,C,G) (Z22 n ns vs tx)∧0=Up (E,C,G) (Z22 n ns vs tx)))) (Jd0∧Khh ns∧Z87 vs∧D3 C G∧Sf true (Sf T ((E++[Z22 n ns vs tx],C++[Z22 n ns vs tx],G++[(U2 vs,(Kyw n ns vs tx).1,(Kyn n ns vs tx).1,(Kx9 n ns vs tx).1,(Kxx n ns vs tx).1,E2 (Kxx n ns vs tx).2)])=Vm (E,C,G) (Z22 n ns vs tx)∧0=Up (E,C,G) (Z22 n ns vs tx))))))))=_).mp ?_
 delta Z3 Z22 Z24 Z40 Z45 Z60 Z87 U2 V5 Lu Y4 Jaf Jqj Jdc Jgu Jc4 L5 Jd0 V4 Vw Yv Jdz Jhq D3 Kyw Kyn D2 Kx9 Jae D1 Ho Fp Kxx Hn L4 Zx Jdx Jdw Khh Fo Jdv Yf Y3 Ksg Kr8 Kry Krj J1n Br Iw Bd T2 Tw Sf Ln Gt E2 J5
 intro hh hlt hsz hc ha
 obtain⟨u0,aE,aP⟩:=Jgj (k:=J5) (by kernel_rfl) hc ha
 obtain⟨hn,hv,hR,_,n1,n2,n3,hG,hV⟩:=Hx hh hc
 simp only[Kt,List.length_cons,List.length_nil] at hn hv u0
 obtain⟨k0,u1⟩:=Jn u0
 have f0:=Kga (k0 rfl)
 have hs:Ju (Kd G) (n,J5,ns,vs,tx)=(vs.getD 0 0,(Jgp (Kd G) (n,J5,ns,vs,tx)).2):=by simp only[Ju,doS,Kt]
 simp only[aE,aP,hs,hc,ha,hG,Hq,Jhb,Prod.eta]
 repeat' first|exact hV|exact hh|exact hR|exact hsz.2.2|apply And.intro|intro _
 all_goals first|trivial|omega|assumption|exact Nat.le_trans hR.nS (by decide)|exact Nat.le_trans hR.nO (by decide)|exact Nat.le_trans hR.nM (by decide)|exact Nat.le_trans hR.nX (by decide)|exact Nat.le_trans hR.nQ (by decide)|exact Nat.zero_le _|exact hsz.1|exact hsz.2.1|(rename_i h;have h:=of_decide_eq_true h;omega)|rfl|(rw[←Kl ‹_›];first|done|exact hR)|(rw[Kl ‹_›] at f0;exact f0)
def Kyp (a:Int) (b:Ls) (c:Li) (d:Bt):=(Jaz Vw (Z20 a b c d)).2
def Kyd (a:Int) (b:Ls) (c:Li) (d:Bt):=(Kyp a b c d).2
def Kx2 (a:Int) (b:Ls) (c:Li) (d:Bt):=(Kyd a b c d).2
def Kxr (a:Int) (b:Ls) (c:Li) (d:Bt):=(Kx2 a b c d).2
def Ksb (a:List Reg) (b:Int) (c:Ls) (d:Li) (e:Bt):=(Jaz (Yf a) (Z20 b c d e)).2
def Kr1 (a:List Reg) (b:Int) (c:Ls) (d:Li) (e:Bt):=(Ksb a b c d e).2
def Krp (a:List Reg) (b:Int) (c:Ls) (d:Li) (e:Bt):=(Kr1 a b c d e).2
def Krh (a:List Reg) (b:Int) (c:Ls) (d:Li) (e:Bt):=(Krp a b c d e).2
theorem Jkj (T:TypeId) (E C:List Ev) (G:List Reg) (n:Int) (ns:List ByteArray) (vs:List Int) (tx:ByteArray):wpFO Tryz.prog W92.g (na ()) (fun _=>na ()) (Sx.look ([(75,Tryz.f75),(129,Tryz.f129)]:List (Nat×Func))) Tryz.f121 Jb7 T (E,C,G) ((n,Jh,ns,vs,tx),()):=by
 refine(by kernel_rfl:(Kf (E,C,G)→Z40 E→Jfm (Z20 n ns vs tx)→Jb (Z20 n ns vs tx)=0→Joc E C G n ns vs tx=0→Jdw ns vs∧Br (Jb (Z20 n ns vs tx) !=0) (Sf true (Sf T ((E,C,G)=Vm (E,C,G) (Z20 n ns vs tx)∧Jb (Z20 n ns vs tx)=Up (E,C,G) (Z20 n ns vs tx)))) ((Kf (E,C,G)∧Jb (Z20 n ns vs tx)=0)∧Br (Joc E C G n ns vs tx !=0) (Sf true (Sf T ((E,C,G)=Vm (E,C,G) (Z20 n ns vs tx)∧Joc E C G n ns vs tx=Up (E,C,G) (Z20 n ns vs tx)))) (Jc4 ns vs∧Jdc E∧Br false (Z60 C∧Jdx C G∧Sf true (Sf T ((E++[Z20 n ns vs tx],Jdz C G)=Vm (E,C,G) (Z20 n ns vs tx)∧0=Up (E,C,G) (Z20 n ns vs tx)))) (Br (V5 G) (V4 G∧Jdv G∧J78 G vs∧Z87 vs∧D3 C G∧Sf true (Sf T ((E++[Z20 n ns vs tx],C++[Z20 n ns vs tx],G++[(U2 vs,(Ksb G n ns vs tx).1,(Kr1 G n ns vs tx).1,(Krp G n ns vs tx).1,(Krh G n ns vs tx).1,E2 (Krh G n ns vs tx).2)])=Vm (E,C,G) (Z20 n ns vs tx)∧0=Up (E,C,G) (Z20 n ns vs tx)))) (Jd0∧J8o vs∧Z87 vs∧D3 C G∧Sf true (Sf T ((E++[Z20 n ns vs tx],C++[Z20 n ns vs tx],G++[(U2 vs,(Kyp n ns vs tx).1,(Kyd n ns vs tx).1,(Kx2 n ns vs tx).1,(Kxr n ns vs tx).1,E2 (Kxr n ns vs tx).2)])=Vm (E,C,G) (Z20 n ns vs tx)∧0=Up (E,C,G) (Z20 n ns vs tx))))))))=_).mp ?_
 delta Z3 Z20 Z24 Z40 Z45 Z57 Z60 Z87 U2 V5 Jaf Joc Jdc Jgu Jc4 L5 Jd0 V4 Vw Yv Jdz Jhq D3 Kyp D2 Kyd Jae D1 Kx2 J8o Ho Fp Kxr Hn L4 Zx Jdx Jdw Fo Jdv Yf Y3 Ksb Kr1 J78 Krp Krh Br Iw Bd T2 Tw Sf Ln Gt E2 Jh
 intro hh hlt hsz hc ha
 obtain⟨u0,aE,aP⟩:=Jgj (k:=Jh) (by kernel_rfl) hc ha
 obtain⟨hn,hv,hR,_,n1,n2,n3,hG,hV⟩:=Hx hh hc
 simp only[Us,List.length_cons,List.length_nil] at hn hv u0
 have hs:Ju (Kd G) (n,Jh,ns,vs,tx)=(vs.getD 0 0,(Jaz (Kd G) (n,Jh,ns,vs,tx)).2):=by simp only[Ju,doS,Us]
 simp only[aE,aP,hs,hc,ha,hG,Hq,Jhb,Prod.eta]
 repeat' first|exact hV|exact hh|exact hR|exact hsz.2.2|apply And.intro|intro _
 all_goals first|trivial|omega|assumption|exact Nat.le_trans hR.nS (by decide)|exact Nat.le_trans hR.nO (by decide)|exact Nat.le_trans hR.nM (by decide)|exact Nat.le_trans hR.nX (by decide)|exact Nat.le_trans hR.nQ (by decide)|exact Nat.zero_le _|exact hsz.1|exact hsz.2.1|(rename_i h;have h:=of_decide_eq_true h;omega)|rfl|(rw[←Kl ‹_›];first|done|exact hR)
abbrev GG:Gam:=[(64,Kb3),(130,Xx.con Jp0),(81,J2n),(216,Jgs 127 Dk),(217,Jgs 130 Hk),(218,Jgs 155 Dx),(219,Jgs 188 X6),(220,Jgs 235 Zy)]
theorem gG:Yr Tryz.prog GG:= .cons K1o (.cons Kaf (.cons K1n (.cons Kae (.cons Kad (.cons Kac (.cons Kab (.cons Kaa (.nil _))))))))
def Kb5:Xx:={Kgc with pre:=fun h (e,_)=>[Kf h,h.1.length<1000,Jfm e,¬(Jb e=0∧L1 h e=0)]}
theorem Js9 (T:TypeId) (E C:List Ev) (G:List Reg) (n:Int) (k:ByteArray) (ns:List ByteArray) (vs:List Int) (tx:ByteArray):wpFO Tryz.prog GG (na ()) (fun _=>na ()) (Sx.look ([(75,Tryz.f75),(129,Tryz.f129)]:List (Nat×Func))) Tryz.f121 Kb5 T (E,C,G) ((n,k,ns,vs,tx),()):=by
 refine(by kernel_rfl:(Kf (E,C,G)→Z40 E→Jfm (n,k,ns,vs,tx)→(Jb (n,k,ns,vs,tx)=0∧L1 (E,C,G) (n,k,ns,vs,tx)=0→False)→Jdw ns vs∧Br (Jb (n,k,ns,vs,tx) !=0) (Sf true (Sf T ((E,C,G)=Vm (E,C,G) (n,k,ns,vs,tx)∧Jb (n,k,ns,vs,tx)=Up (E,C,G) (n,k,ns,vs,tx)))) ((Kf (E,C,G)∧Jb (n,k,ns,vs,tx)=0)∧Br (L1 (E,C,G) (n,k,ns,vs,tx) !=0) (Sf true (Sf T ((E,C,G)=Vm (E,C,G) (n,k,ns,vs,tx)∧L1 (E,C,G) (n,k,ns,vs,tx)=Up (E,C,G) (n,k,ns,vs,tx)))) (Jc4 ns vs∧Jdc E∧Br (Lb k J0) (Z60 C∧Jdx C G∧Sf true (Sf T ((E++[(n,k,ns,vs,tx)],Jdz C G)=Vm (E,C,G) (n,k,ns,vs,tx)∧0=Up (E,C,G) (n,k,ns,vs,tx)))) (Br (V5 G) (V4 G∧Jdv G∧Jxu 777 1) (Jd0∧Jxu 777 1)))))=_).mp ?_
 delta Z3 Z40 Z45 Z60 V5 Jaf Jdc Jgu Jc4 L5 Jd0 V4 Vw Jdz Jhq D2 D1 Ho Hn L4 Zx Jdx Jdw Jdv Br Iw Bd T2 Tw Sf Ln Gt Lb J0
 intro hh hlt hsz hx
 have n1:E.length≤1000:=hh.nE
 have e1:Jb (n,k,ns,vs,tx)≠0→Up (E,C,G) (n,k,ns,vs,tx)=Jb (n,k,ns,vs,tx):=fun h=>by unfold Up;rw[if_pos h]
 have e2:¬Jb (n,k,ns,vs,tx)≠0→Up (E,C,G) (n,k,ns,vs,tx)=L1 (E,C,G) (n,k,ns,vs,tx):=fun h=>by unfold Up;rw[if_neg h]
 have e3:Up (E,C,G) (n,k,ns,vs,tx)≠0→Vm (E,C,G) (n,k,ns,vs,tx)=(E,C,G):=fun h=>by unfold Vm;rw[if_neg h]
 refine⟨⟨hsz.1,hsz.2.1,hsz.2.2⟩,fun h=> ?_,fun h=>⟨⟨hh, ?_⟩,fun h2=> ?_,fun h2=> ?_⟩⟩
 ·have h:Jb (n,k,ns,vs,tx)≠0:=bne_iff_ne.1 h
  exact⟨rfl,rfl,(e3 (by rw[e1 h];exact h)).symm,(e1 h).symm⟩
 ·exact bne_eq_false_iff_eq.1 h
 ·have h:Jb (n,k,ns,vs,tx)=0:=bne_eq_false_iff_eq.1 h
  have h2:L1 (E,C,G) (n,k,ns,vs,tx)≠0:=bne_iff_ne.1 h2
  have e4:=e2 (by rw[h];simp)
  exact⟨rfl,rfl,(e3 (by rw[e4];exact h2)).symm,e4.symm⟩
 ·exact absurd ⟨bne_eq_false_iff_eq.1 h,bne_eq_false_iff_eq.1 h2⟩ hx
theorem Jui {f:FuncId} {c:Xx} {p1 p2:c.s.T→ATup c.args→List Prop} (h1:OkO Tryz.prog f {c with pre:=p1}) (h2:OkO Tryz.prog f {c with pre:=p2}) (h:∀x y,Uq (c.pre x y)→Uq (p1 x y)∨Uq (p2 x y)):OkO Tryz.prog f c:=
 ⟨h1.1,fun x y M R B w b T cells vals vs hB hMR hg hw hBb hMb hRb hT ho hv hpre ha=>(h x y hpre).elim (fun q=>h1.2 x y M R B w b T cells vals vs hB hMR hg hw hBb hMb hRb hT ho hv q ha) fun q=>h2.2 x y M R B w b T cells vals vs hB hMR hg hw hBb hMb hRb hT ho hv q ha⟩
theorem J9z (T:TypeId):∀(x:Kn) (y:ATup [aEv]),wpFO Tryz.prog W92.g (na ()) (fun _=>na ()) (Sx.look ([(75,Tryz.f75),(129,Tryz.f129)]:List (Nat×Func))) Tryz.f121 Jb7 T x y
 |(E,C,G),((n,k,ns,vs,tx),())=>by
  refine Jh0 (by kernel_rfl) fun hp=> ?_
  have hc:Jb (n,k,ns,vs,tx)=0:=hp.2.2.2.1
  rcases U4 (Uo hc).kind with h|h|h|h|h|h|h|h|h|h|h<;>dsimp only at h<;>subst h
  ·exact Jqz T E C G n ns vs tx
  ·exact Jh5 T E C G n ns vs tx
  ·exact Jmt T E C G n ns vs tx
  ·exact Jmu T E C G n ns vs tx
  ·exact Jmv T E C G n ns vs tx
  ·exact Jq0 T E C G n ns vs tx
  ·exact Jkm T E C G n ns vs tx
  ·exact Jh6 T E C G n ns vs tx
  ·exact Jkl T E C G n ns vs tx
  ·exact Jkk T E C G n ns vs tx
  ·exact Jkj T E C G n ns vs tx
theorem okK:OkO Tryz.prog 121 Jb7:=Ub mixed W92.ok (by kernel_rfl) (by kernel_rfl) (U1 (l:=([(75,Tryz.f75),(129,Tryz.f129)]:List (Nat×Func))) (List.forall_mem_cons.2 ⟨by kernel_rfl,List.forall_mem_cons.2 ⟨by kernel_rfl,by simp⟩⟩)) (fun _ _=>na ()) (fun _ _=>fun _=>na ()) fun T xx yy _=>J9z T xx yy
theorem okG:OkO Tryz.prog 121 Kb5:=Ub mixed gG (by kernel_rfl) (by kernel_rfl) (U1 (l:=([(75,Tryz.f75),(129,Tryz.f129)]:List (Nat×Func))) (List.forall_mem_cons.2 ⟨by kernel_rfl,List.forall_mem_cons.2 ⟨by kernel_rfl,by simp⟩⟩)) (fun _ _=>na ()) (fun _ _=>fun _=>na ()) fun T xx yy _=>Js9 T xx.1 xx.2.1 xx.2.2 yy.1.1 yy.1.2.1 yy.1.2.2.1 yy.1.2.2.2.1 yy.1.2.2.2.2
theorem Kpm:Ok Tryz.prog 121 (Xx.con Kgc):=X2 (Jui (c:=Kgc) okK okG fun x y hp=>by
 by_cases h:Jb y.1=0∧L1 x y.1=0
 ·exact .inl ⟨hp.1,hp.2.1,hp.2.2,h.1,h.2⟩
 ·exact .inr ⟨hp.1,hp.2.1,hp.2.2,h⟩)
abbrev W93:=W92.add Kpm
theorem Yp {α:Type} {p:α→Bool} {m:List α}:∀{l:List α} {k:Nat},0≤Vs p l k→Vs p (l++m) k=Vs p l k
 |[],k,h=>by simp[Vs] at h
 | x :: l, k, h => by
  show(if p x=true then(k:Int) else Vs p (l++m) (k+1))=(if p x=true then(k:Int) else Vs p l (k+1))
  have h:0≤(if p x=true then(k:Int) else Vs p l (k+1)):=h
  by_cases hp:p x=true
  ·rw[if_pos hp,if_pos hp]
  ·rw[if_neg hp] at h
   rw[if_neg hp,if_neg hp,Yp h]
theorem Dn {α:Type} {p:α→Bool} {y:α}:∀{l:List α} {i k:Nat},(∀x,l[i]? =some x→p y=p x)→Vs p (l.set i y) k=Vs p l k
 |[],_,_,_=>rfl
 |x::l,0,k,h=>by
  have:=h x rfl
  simp only[List.set_cons_zero]
  unfold Vs
  rw[this]
 |x::l,i+1,k,h=>by
  simp only[List.set_cons_succ]
  unfold Vs
  rw[Dn fun z hz=>h z (by simpa using hz)]
theorem Jfb {α:Type} {l:List α} {i:Nat} {d x:α} (h:l[i]? =some x):l.getD i d=x:=by
 rw[List.getD_eq_getElem?_getD,h];rfl
theorem Jbr {α:Type} {l:List α} {i:Nat} {y x:α} (h:x∈l.set i y):x=y∨x∈l:=by
 rcases List.mem_or_eq_of_mem_set h with h|h
 ·exact .inr h
 ·exact .inl h
theorem Yj {α:Type} {l:List α} {y x:α} (h:x∈l++[y]):x∈l∨x=y:=by
 rcases List.mem_append.1 h with h|h
 ·exact .inl h
 ·exact .inr (by simpa using h)
theorem Yl {b:Bool} {c:Int} (hc:c≠0) (h:(bif b then c else 0)=0):b=false:=by
 cases b with
 |true=>exact absurd h hc
 |false=>rfl
theorem Xp {a b:Int} (h:Jg [a,b]=0):a=0∧b=0:=
 ⟨Ux.1 h _ (List.mem_cons_self ..),Ux.1 h _ (List.mem_cons_of_mem _ (List.mem_cons_self ..))⟩
theorem F9 {a b c:Int} (h:Jg [a,b,c]=0):a=0∧b=0∧c=0:=
 ⟨Ux.1 h _ (by simp),Ux.1 h _ (by simp),Ux.1 h _ (by simp)⟩
theorem Jbq {O:List Ord} {s:ByteArray} (h:0≤Kw O s):X1 O s∈O:=by
 have:=Ua (l:=O) (s:=s)
 exact Jc (by omega)
theorem Juh {X:List Out} {s:ByteArray} (h:0≤J7 X s):Ly X s∈X:=by
 have:=K0 (l:=X) (s:=s)
 exact Jc (by omega)
theorem Jm0 {S:List Sta} {s:ByteArray} (h:0≤Jy S s):Hm S s∈S:=by
 have:=K6 (l:=S) (s:=s)
 exact Jc (by omega)
theorem J33 {Q:List Per} {s:ByteArray} (h:0≤Uy Q s):Jj5 Q s∈Q:=by
 have:=Ul (l:=Q) (s:=s)
 exact Jc (by omega)
theorem Jcd.mono {S S':List Sta} {x:Ord} (h:Jcd S x) (hs:∀s,0≤Jy S s→0≤Jy S' s):Jcd S' x:=⟨h.span,h.pow,h.pri,h.trip,hs _ h.fr,hs _ h.tu⟩
theorem Joh.mono {S S':List Sta} {x:Out} (h:Joh S x) (hs:∀s,0≤Jy S s→0≤Jy S' s):Joh S' x:=⟨h.span,h.rest,hs _ h.sta⟩
section
variable {tk st v:Int} {S:List Sta} {O:List Ord} {M:List Met} {X:List Out} {Q:List Per} {n:Int} {k tx:ByteArray} {ns:List ByteArray} {vs:List Int}
theorem Jq8 (hr:Jl (tk,st,S,O,M,X,Q)) (hv:tk≤v∧v≤999999999) (hc:Jl4 S vs=0) {a:ByteArray}:Jl (v,st,S++[(a,vs.getD 1 0,0)],O,M,X,Q):=by
 obtain⟨c1,c2⟩:=Xp hc
 have c1:=Ym.1 c1
 have c2:=of_decide_eq_false (Yl (by decide) c2)
 have hs:∀s,0≤Jy S s→0≤Jy (S++[(a,vs.getD 1 0,0)]) s:=fun s h=>by unfold Jy at h⊢;rw[Yp h];exact h
 have h0:=hr.tk
 have h1:=hr.st
 dsimp only at h0 h1
 refine⟨by dsimp only;omega,by dsimp only;omega,by dsimp only;rw[List.length_append,List.length_singleton];omega,hr.nO,hr.nM,hr.nX,hr.nQ,fun x hx=> ?_,fun x hx=>(hr.ord x hx).mono hs,hr.met,fun x hx=>(hr.out x hx).mono hs,hr.per,hr.done⟩
 rcases Yj hx with h|rfl
 ·exact hr.sta x h
 ·exact⟨c1,Int.le_refl 0,by show(0:Int)≤1000;decide⟩
theorem Jyx (hr:Jl (tk,st,S,O,M,X,Q)) (hv:tk≤v∧v≤999999999) (hc:Jn0 vs=0) {a:ByteArray} (ha:0≤Jy S a):Jl (v,st,S.set (Jy S a).toNat ((Hm S a).1,(Hm S a).2.1,vs.getD 1 0),O,M,X,Q):=by
 have c1:=Ym.1 hc
 have hs:∀s,0≤Jy S s→0≤Jy (S.set (Jy S a).toNat ((Hm S a).1,(Hm S a).2.1,vs.getD 1 0)) s:=fun s h=>by
  unfold Jy at h⊢
  rw[Dn fun x hx=> ?_]
  ·exact h
  ·have:=Jfb (d:=Jso) hx
   show((Hm S a).1.toList==s.toList)=_
   unfold Hm Jy
   rw[this]
 have h0:=hr.tk
 have h1:=hr.st
 dsimp only at h0 h1
 refine⟨by dsimp only;omega,by dsimp only;omega,by rw[List.length_set];exact hr.nS,hr.nO,hr.nM,hr.nX,hr.nQ,fun x hx=> ?_,fun x hx=>(hr.ord x hx).mono hs,hr.met,fun x hx=>(hr.out x hx).mono hs,hr.per,hr.done⟩
 rcases Jbr hx with rfl|h
 ·exact⟨(hr.sta _ (Jm0 ha)).lim,c1⟩
 ·exact hr.sta x h
theorem Jyz (hr:Jl (tk,st,S,O,M,X,Q)) (hv:tk≤v∧v≤999999999) (hm:M.length<10000) (ho:0≤Kw O (ns.getD 0 Ja)) (hb:∀i,i<4→0≤vs.getD i 0∧vs.getD i 0≤999999999) (hc:Jl5 O M ns vs=0):Jl (v,st,S,O,M++[(ns.getD 0 Ja,vs.getD 1 0,vs.getD 2 0,vs.getD 3 0)],X,Q):=by
 have h5:=Yl (by decide) (Ux.1 hc _ (List.mem_cons_of_mem _ (List.mem_cons_of_mem _ (List.mem_cons_of_mem _ (List.mem_cons_of_mem _ (List.mem_cons_self ..))))))
 have h6:=bn1 h5
 have p1:=of_decide_eq_false h6.1
 have p2:=of_decide_eq_false h6.2
 have hp:1≤(X1 O (ns.getD 0 Ja)).2.2.2.2.1∧(X1 O (ns.getD 0 Ja)).2.2.2.2.1≤1000:=(hr.ord _ (Jbq ho)).pow
 have h0:=hr.tk
 have h1:=hr.st
 dsimp only at h0 h1
 have b1:=hb 1 (by omega)
 have b2:=hb 2 (by omega)
 have b3:=hb 3 (by omega)
 refine⟨by dsimp only;omega,by dsimp only;omega,hr.nS,hr.nO,by dsimp only;rw[List.length_append,List.length_singleton];omega,hr.nX,hr.nQ,hr.sta,hr.ord,fun x hx=> ?_,hr.out,hr.per,fun x hx h e1 e2=> ?_⟩
 ·rcases Yj hx with h|rfl
  ·exact hr.met x h
  ·exact⟨b1,⟨b2.1,by dsimp only;omega⟩,⟨b3.1,by dsimp only;omega⟩⟩
 ·have:=hr.done x hx h e1 e2
  unfold Kz at this⊢
  dsimp only at this⊢
  rw[Yp this];exact this
theorem Jos {e:Ev} (hv:EvV e) (hl:e.2.2.2.1.length=4) (hc:Ze e=0):Jmd (Vx e)∧e.2.2.2.1.getD 0 0≤(Vx e).1:=by
 have h:=Yl (by decide) hc
 have h1:=bn1 h
 have h2:=bn1 h1.1
 have e1:=of_decide_eq_false h2.1
 have e2:=of_decide_eq_false h2.2
 have e3:=of_decide_eq_false h1.2
 have v1:0≤(Vx e).1∧(Vx e).1≤999999999:=hv _ (Jc (by omega))
 have v2:0≤(Vx e).2∧(Vx e).2≤999999999:=hv _ (Jc (by omega))
 exact⟨⟨v1.1,by omega,v2.2,by omega⟩,by omega⟩
theorem Jyy (hr:Jl (tk,st,S,O,M,X,Q)) (hv:tk≤v∧v≤999999999) (hvs:v=vs.getD 0 0) (hE:EvV (n,k,ns,vs,tx)) (hl:vs.length=4) (h1:0≤Jy S (ns.getD 1 Ja)) (h2:0≤Jy S (ns.getD 2 Ja)) (hc:Jb6 S O X (n,k,ns,vs,tx)=0):Jl (v,st,S,O++[(ns.getD 0 Ja,ns.getD 1 Ja,ns.getD 2 Ja,Vx (n,k,ns,vs,tx),vs.getD 3 0,(Hm S (ns.getD 1 Ja)).2.2,-1)],M,X,Q):=by
 have hk:¬Jhm (n,k,ns,vs,tx)≠0:=fun h=>by unfold Jb6 at hc;rw[if_pos h] at hc;exact h hc
 unfold Jb6 at hc
 rw[if_neg hk] at hc
 obtain⟨c1,c2⟩:=Xp hc
 have c2:=of_decide_eq_false (Yl (by decide) c2)
 obtain⟨d1,d2,d3⟩:=F9 (show Jg [_,Ze (n,k,ns,vs,tx),Kj (vs.getD 3 0) 1 1000]=0 from Decidable.of_not_not hk)
 have d3:=Ym.1 d3
 obtain⟨sp,sv⟩:=Jos hE hl d2
 have sv:vs.getD 0 0≤(Vx (n,k,ns,vs,tx)).1:=sv
 have g0:=hr.tk
 have g1:=hr.st
 dsimp only at g0 g1
 refine⟨by dsimp only;omega,by dsimp only;omega,hr.nS,by dsimp only;rw[List.length_append,List.length_singleton];omega,hr.nM,hr.nX,hr.nQ,hr.sta,fun x hx=> ?_,hr.met,hr.out,hr.per,fun x hx hh e1 e2=> ?_⟩
 ·rcases Yj hx with h|rfl
  ·exact hr.ord x h
  ·exact⟨sp,d3,(hr.sta _ (Jm0 h1)).pri,⟨Int.le_refl _,by show(-1:Int)≤999999999;decide⟩,h1,h2⟩
 ·rcases Yj hx with h|rfl
  ·exact hr.done x h hh e1 e2
  ·exfalso
   unfold Jr Kp at e1
   dsimp only at e1 e2
   cases h3:decide ((Vx (n,k,ns,vs,tx)).1≤hh) with
   |true=>have:=of_decide_eq_true h3;omega
   |false=>rw[h3] at e1;cases e1
theorem Jtr (hr:Jl (tk,st,S,O,M,X,Q)) (hv:tk≤v∧v≤999999999) (hE:EvV (n,k,ns,vs,tx)) (hl:vs.length=4) (h1:0≤Jy S (ns.getD 1 Ja)) (hc:Jb5 S O X (n,k,ns,vs,tx)=0):Jl (v,st,S,O,M,X++[(ns.getD 0 Ja,ns.getD 1 Ja,Vx (n,k,ns,vs,tx),vs.getD 3 0)],Q):=by
 have hk:¬Jhl S (n,k,ns,vs,tx)≠0:=fun h=>by unfold Jb5 at hc;rw[if_pos h] at hc;exact h hc
 unfold Jb5 at hc
 rw[if_neg hk] at hc
 obtain⟨c1,c2⟩:=Xp hc
 have c2:=of_decide_eq_false (Yl (by decide) c2)
 obtain⟨d2,d3⟩:=Xp (show Jg [Ze (n,k,ns,vs,tx),bif decide ((Hm S (ns.getD 1 Ja)).2.1≤vs.getD 3 0) then 3 else 0]=0 from Decidable.of_not_not hk)
 have d3:=of_decide_eq_false (Yl (by decide) d3)
 obtain⟨sp,sv⟩:=Jos hE hl d2
 have hl3:(Hm S (ns.getD 1 Ja)).2.1≤1000:=(hr.sta _ (Jm0 h1)).lim.2
 have v3:0≤vs.getD 3 0∧vs.getD 3 0≤999999999:=hE _ (Jc (show 3<vs.length by omega))
 have hf:∀s,0≤J7 X s→0≤J7 (X++[(ns.getD 0 Ja,ns.getD 1 Ja,Vx (n,k,ns,vs,tx),vs.getD 3 0)]) s:=fun s h=>by unfold J7 at h⊢;rw[Yp h];exact h
 have g0:=hr.tk
 have g1:=hr.st
 dsimp only at g0 g1
 refine⟨by dsimp only;omega,by dsimp only;omega,hr.nS,hr.nO,hr.nM,by dsimp only;rw[List.length_append,List.length_singleton];omega,hr.nQ,hr.sta,hr.ord,hr.met,fun x hx=> ?_,fun x hx=>hf _ (hr.per x hx),hr.done⟩
 rcases Yj hx with h|rfl
 ·exact hr.out x h
 ·exact⟨sp,⟨v3.1,by dsimp only;omega⟩,h1⟩
theorem J3r (hr:Jl (tk,st,S,O,M,X,Q)) (hv:tk≤vs.getD 0 0∧vs.getD 0 0≤999999999) (ho:0≤Kw O (ns.getD 0 Ja)) (hc:Jcw O ns vs=0):Jl (vs.getD 0 0,st,S,Fs O (ns.getD 0 Ja) (vs.getD 0 0),M,X,Q):=by
 have h1:=bn1 (Yl (by decide) hc)
 have c1:(X1 O (ns.getD 0 Ja)).2.2.2.2.2.2= -1:=bne_eq_false_iff_eq.1 h1.1
 have hm:=Jbq ho
 have g0:=hr.tk
 have g1:=hr.st
 dsimp only at g0 g1
 have ox:Jcd S (X1 O (ns.getD 0 Ja)):=hr.ord _ hm
 refine⟨by dsimp only;omega,by dsimp only;omega,hr.nS,by unfold Fs;rw[List.length_set];exact hr.nO,hr.nM,hr.nX,hr.nQ,hr.sta,fun x hx=> ?_,hr.met,hr.out,hr.per,fun x hx hh e1 e2=> ?_⟩
 ·rcases Jbr hx with rfl|h
  ·exact⟨ox.span,ox.pow,ox.pri,⟨by dsimp only;omega,hv.2⟩,ox.fr,ox.tu⟩
  ·exact hr.ord x h
 ·rcases Jbr hx with rfl|h
  ·refine hr.done _ hm hh ?_ e2
   unfold Jr at e1⊢
   rw[c1]
   have e1:(bif Kp (X1 O (ns.getD 0 Ja)).2.2.2.1 hh then _ else false)=true:=e1
   cases h3:Kp (X1 O (ns.getD 0 Ja)).2.2.2.1 hh with
   |true=>rfl
   |false=>rw[h3] at e1;cases e1
  ·exact hr.done x h hh e1 e2
theorem Jq9 (hr:Jl (tk,st,S,O,M,X,Q)) (hv:tk≤vs.getD 0 0∧vs.getD 0 0≤999999999) (ho:0≤J7 X (ns.getD 0 Ja)) (hc:Jcx X Q ns vs=0):Jl (vs.getD 0 0,st,S,O,M,Jeb X (ns.getD 0 Ja) (vs.getD 0 0),Q):=by
 obtain⟨c1,c2,c3⟩:=F9 hc
 have c1:=of_decide_eq_false (Yl (by decide) c1)
 have c2:=of_decide_eq_false (Yl (by decide) c2)
 have hm:=Juh ho
 have ox:Joh S (Ly X (ns.getD 0 Ja)):=hr.out _ hm
 have l1:=ox.span.lo
 have l2:=ox.span.len
 have g0:=hr.tk
 have g1:=hr.st
 dsimp only at g0 g1
 have hf:∀s,0≤J7 X s→0≤J7 (Jeb X (ns.getD 0 Ja) (vs.getD 0 0)) s:=fun s h=>by
  unfold Jeb
  unfold J7 at h⊢
  rw[Dn fun x hx=> ?_]
  ·exact h
  ·have:=Jfb (d:=Jbd) hx
   show((Ly X (ns.getD 0 Ja)).1.toList==s.toList)=_
   unfold Ly J7
   rw[this]
 refine⟨by dsimp only;omega,by dsimp only;omega,hr.nS,hr.nO,hr.nM,by unfold Jeb;rw[List.length_set];exact hr.nX,hr.nQ,hr.sta,hr.ord,hr.met,fun x hx=> ?_,fun x hx=>hf _ (hr.per x hx),hr.done⟩
 rcases Jbr hx with rfl|h
 ·exact⟨⟨l1,by dsimp only;omega,hv.2,by dsimp only;omega⟩,ox.rest,ox.sta⟩
 ·exact hr.out x h
theorem Jtq (hr:Jl (tk,st,S,O,M,X,Q)) (hv:tk≤v∧v≤999999999) (ho:0≤J7 X (ns.getD 1 Ja)) (hc:Jcy X Q ns vs=0):Jl (v,st,S,O,M,X,Q++[(ns.getD 0 Ja,ns.getD 1 Ja,true)]):=by
 have c2:=of_decide_eq_false (Yl (by decide) (Xp hc).2)
 have g0:=hr.tk
 have g1:=hr.st
 dsimp only at g0 g1
 refine⟨by dsimp only;omega,by dsimp only;omega,hr.nS,hr.nO,hr.nM,hr.nX,by dsimp only;rw[List.length_append,List.length_singleton];omega,hr.sta,hr.ord,hr.met,hr.out,fun x hx=> ?_,hr.done⟩
 rcases Yj hx with h|rfl
 ·exact hr.per x h
 ·exact ho
theorem Jtp (hr:Jl (tk,st,S,O,M,X,Q)) (hv:tk≤v∧v≤999999999) {a:ByteArray} (ho:0≤Uy Q a):Jl (v,st,S,O,M,X,Ft Q a):=by
 have g0:=hr.tk
 have g1:=hr.st
 dsimp only at g0 g1
 refine⟨by dsimp only;omega,by dsimp only;omega,hr.nS,hr.nO,hr.nM,hr.nX,by unfold Ft;rw[List.length_set];exact hr.nQ,hr.sta,hr.ord,hr.met,hr.out,fun x hx=> ?_,hr.done⟩
 rcases Jbr hx with rfl|h
 ·exact hr.per (Jj5 Q a) (J33 ho)
 ·exact hr.per x h
theorem Jlh {u:Int} {x:Ord}:∀{m:Nat} {a:Int},L0 M u x a m=[]→∀h,a≤h→h<a+m→(Jr x h&&(decide (h<u)&&decide (Kz M x.1 h<0)))=false
 |0,a,_,h,h1,h2=>by omega
 | m + 1, a, e, h, h1, h2 => by
  unfold L0 at e
  obtain⟨e1,e2⟩:=List.append_eq_nil_iff.1 e
  by_cases ha:h=a
  ·subst ha
   cases hb:Jr x h&&(decide (h<u)&&decide (Kz M x.1 h<0)) with
   |false=>rfl
   |true=>rw[hb] at e1;cases e1
  ·exact Jlh e2 h (by omega) (by push_cast at h2;omega)
theorem Jlf {u:Int}:∀{O:List Ord},Ko M u O=[]→∀x∈O,Jur M u x=[]
 |[],_,x,hx=>by cases hx
 |y::l,e,x,hx=>by
  unfold Ko at e
  obtain⟨e1,e2⟩:=List.append_eq_nil_iff.1 e
  rcases List.mem_cons.1 hx with rfl|hx
  ·exact e1
  ·exact Jlf e2 x hx
theorem Jvt {x:Ord} {h:Int} (e:Jr x h=true):x.2.2.2.1.1≤h∧h<x.2.2.2.1.2:=by
 unfold Jr Kp at e
 cases h1:decide (x.2.2.2.1.1≤h) with
 |false=>rw[h1] at e;cases e
 |true=>
  cases h2:decide (h<x.2.2.2.1.2) with
  |false=>rw[h1,h2] at e;cases e
  |true=>exact⟨of_decide_eq_true h1,of_decide_eq_true h2⟩
theorem Jto (hr:Jl (tk,st,S,O,M,X,Q)) (hv:tk≤vs.getD 0 0∧vs.getD 0 0≤999999999) (hc:Lq st O M X Q vs=0):Jl (vs.getD 0 0,vs.getD 1 0,S,O,M,X,Q):=by
 unfold Lq at hc
 cases h1:(bif decide (vs.getD 1 0≤st) then true else decide (vs.getD 0 0<vs.getD 1 0)) with
 |true=>rw[h1] at hc;cases hc
 |false=>
  rw[h1,cond_false] at hc
  have h2:=bn1 h1
  have d1:=of_decide_eq_false h2.1
  have d2:=of_decide_eq_false h2.2
  have h3:=of_decide_eq_false (bn1 (Yl (by decide) hc)).1
  have h4:Ko M (vs.getD 1 0) O=[]:=List.eq_nil_of_length_eq_zero (by omega)
  have g0:=hr.tk
  have g1:=hr.st
  dsimp only at g0 g1
  refine⟨by dsimp only;omega,by dsimp only;omega,hr.nS,hr.nO,hr.nM,hr.nX,hr.nQ,hr.sta,hr.ord,hr.met,hr.out,hr.per,fun x hx hh e1 e2=> ?_⟩
  have hi:=Jvt e1
  have h5:=Jlh (Jlf h4 x hx) hh hi.1 (by omega)
  have e2:hh<vs.getD 1 0:=e2
  rw[e1,decide_eq_true e2,Bool.true_and,Bool.true_and] at h5
  have:=of_decide_eq_false h5
  show 0≤Kz M x.1 hh
  omega
end
theorem J3o {h:Kn} {e:Ev} (hh:Kf h) (hm:(Kd h.2.2).2.2.2.2.1.length<10000) (hc:Jb e=0) (ha:L1 h e=0) (hk:(e.2.1.toList==J0.toList)=false):Jl (Ju (Kd h.2.2) e):=by
 obtain⟨n,k,ns,vs,tx⟩:=e
 have hE:=Uo hc
 have eK:=Y1 (h:=h) (n:=n) (k:=k) (ns:=ns) (vs:=vs) (tx:=tx) hk
 rw[ha] at eK
 obtain⟨_,z2,z3,z4,z5⟩:=Jbb eK.symm
 have hr:=X3 hh
 clear eK ha z4
 generalize Kd h.2.2=r at*
 obtain⟨tk,st,S,O,M,X,Q⟩:=r
 have z2:¬vs.getD 0 0<tk:=z2
 have hm:M.length<10000:=hm
 have hn:ns.length=(Jj k).1.length:=hE.nn
 have hvl:(vs.length:Int)=(Jj k).2.1:=hE.nv
 have hx:∀i,i<vs.length→(0≤vs.getD i 0∧vs.getD i 0≤999999999):=fun i hi=>hE.val _ (Jc hi)
 have hV:EvV (n,k,ns,vs,tx):=hE.val
 have hkd:=U4 hE.kind
 dsimp only at hkd hk
 clear hE hc hh
 rcases hkd with h|h|h|h|h|h|h|h|h|h|h<;>subst h
 ·exact absurd hk (by rw[show(J0.toList==J0.toList)=true from by kernel_rfl];decide)
 ·simp only[K2,List.length_cons,List.length_nil] at hn hvl z3
  simp only[ckS,K2] at z5
  obtain⟨k0,z3⟩:=Jn z3
  have e:Ju (tk,st,S,O,M,X,Q) (n,Js,ns,vs,tx)=(vs.getD 0 0,(Ja0 (tk,st,S,O,M,X,Q) (n,Js,ns,vs,tx)).2):=by unfold Ju doS;simp only[K2]
  rw[e]
  have hv:tk≤vs.getD 0 0∧vs.getD 0 0≤999999999:=⟨by omega,(hx 0 (by omega)).2⟩
  exact Jq8 hr hv z5
 ·simp only[U8,List.length_cons,List.length_nil] at hn hvl z3
  simp only[ckS,U8] at z5
  obtain⟨k0,z3⟩:=Jn z3
  have e:Ju (tk,st,S,O,M,X,Q) (n,Kv,ns,vs,tx)=(vs.getD 0 0,(Fg (tk,st,S,O,M,X,Q) (n,Kv,ns,vs,tx)).2):=by unfold Ju doS;simp only[U8]
  rw[e]
  have hv:tk≤vs.getD 0 0∧vs.getD 0 0≤999999999:=⟨by omega,(hx 0 (by omega)).2⟩
  exact Jyx hr hv z5 (Jrz (k0 rfl))
 ·simp only[Uj,List.length_cons,List.length_nil] at hn hvl z3
  simp only[ckS,Uj] at z5
  obtain⟨k0,z3⟩:=Jn z3
  obtain⟨k1,z3⟩:=Jn z3
  obtain⟨k2,z3⟩:=Jn z3
  have e:Ju (tk,st,S,O,M,X,Q) (n,Ke,ns,vs,tx)=(vs.getD 0 0,(Fk (tk,st,S,O,M,X,Q) (n,Ke,ns,vs,tx)).2):=by unfold Ju doS;simp only[Uj]
  rw[e]
  have hv:tk≤vs.getD 0 0∧vs.getD 0 0≤999999999:=⟨by omega,(hx 0 (by omega)).2⟩
  exact Jyy hr hv rfl hV (by omega) (Jrz (k1 rfl)) (Jrz (k2 rfl)) z5
 ·simp only[Uk,List.length_cons,List.length_nil] at hn hvl z3
  simp only[ckS,Uk] at z5
  obtain⟨k0,z3⟩:=Jn z3
  have e:Ju (tk,st,S,O,M,X,Q) (n,Kq,ns,vs,tx)=(vs.getD 0 0,(Fl (tk,st,S,O,M,X,Q) (n,Kq,ns,vs,tx)).2):=by unfold Ju doS;simp only[Uk]
  rw[e]
  have hv:tk≤vs.getD 0 0∧vs.getD 0 0≤999999999:=⟨by omega,(hx 0 (by omega)).2⟩
  exact Jyz hr hv hm (J2i (k0 rfl)) (fun i hi=>hx i (by omega)) z5
 ·simp only[Vg,List.length_cons,List.length_nil] at hn hvl z3
  simp only[ckS,Vg] at z5
  obtain⟨k0,z3⟩:=Jn z3
  have e:Ju (tk,st,S,O,M,X,Q) (n,Vf,ns,vs,tx)=(vs.getD 0 0,(Ff (tk,st,S,O,M,X,Q) (n,Vf,ns,vs,tx)).2):=by unfold Ju doS;simp only[Vg]
  rw[e]
  have hv:tk≤vs.getD 0 0∧vs.getD 0 0≤999999999:=⟨by omega,(hx 0 (by omega)).2⟩
  exact J3r hr hv (J2i (k0 rfl)) z5
 ·simp only[Km,List.length_cons,List.length_nil] at hn hvl z3
  simp only[ckS,Km] at z5
  obtain⟨k0,z3⟩:=Jn z3
  obtain⟨k1,z3⟩:=Jn z3
  have e:Ju (tk,st,S,O,M,X,Q) (n,Jt,ns,vs,tx)=(vs.getD 0 0,(Fi (tk,st,S,O,M,X,Q) (n,Jt,ns,vs,tx)).2):=by unfold Ju doS;simp only[Km]
  rw[e]
  have hv:tk≤vs.getD 0 0∧vs.getD 0 0≤999999999:=⟨by omega,(hx 0 (by omega)).2⟩
  exact Jtr hr hv hV (by omega) (Jrz (k1 rfl)) z5
 ·simp only[J8,List.length_cons,List.length_nil] at hn hvl z3
  simp only[ckS,J8] at z5
  obtain⟨k0,z3⟩:=Jn z3
  have e:Ju (tk,st,S,O,M,X,Q) (n,Jo,ns,vs,tx)=(vs.getD 0 0,(Fh (tk,st,S,O,M,X,Q) (n,Jo,ns,vs,tx)).2):=by unfold Ju doS;simp only[J8]
  rw[e]
  have hv:tk≤vs.getD 0 0∧vs.getD 0 0≤999999999:=⟨by omega,(hx 0 (by omega)).2⟩
  exact Jq9 hr hv (J2h (k0 rfl)) z5
 ·simp only[Ku,List.length_cons,List.length_nil] at hn hvl z3
  simp only[ckS,Ku] at z5
  obtain⟨k0,z3⟩:=Jn z3
  obtain⟨k1,z3⟩:=Jn z3
  have e:Ju (tk,st,S,O,M,X,Q) (n,J6,ns,vs,tx)=(vs.getD 0 0,(Fj (tk,st,S,O,M,X,Q) (n,J6,ns,vs,tx)).2):=by unfold Ju doS;simp only[Ku]
  rw[e]
  have hv:tk≤vs.getD 0 0∧vs.getD 0 0≤999999999:=⟨by omega,(hx 0 (by omega)).2⟩
  exact Jtq hr hv (J2h (k1 rfl)) z5
 ·simp only[Kt,List.length_cons,List.length_nil] at hn hvl z3
  simp only[ckS,Kt] at z5
  obtain⟨k0,z3⟩:=Jn z3
  have e:Ju (tk,st,S,O,M,X,Q) (n,J5,ns,vs,tx)=(vs.getD 0 0,(Jgp (tk,st,S,O,M,X,Q) (n,J5,ns,vs,tx)).2):=by unfold Ju doS;simp only[Kt]
  rw[e]
  have hv:tk≤vs.getD 0 0∧vs.getD 0 0≤999999999:=⟨by omega,(hx 0 (by omega)).2⟩
  exact Jtp hr hv (Kga (k0 rfl))
 ·simp only[Us,List.length_cons,List.length_nil] at hn hvl z3
  simp only[ckS,Us] at z5
  have e:Ju (tk,st,S,O,M,X,Q) (n,Jh,ns,vs,tx)=(vs.getD 0 0,(Jaz (tk,st,S,O,M,X,Q) (n,Jh,ns,vs,tx)).2):=by unfold Ju doS;simp only[Us]
  rw[e]
  have hv:tk≤vs.getD 0 0∧vs.getD 0 0≤999999999:=⟨by omega,(hx 0 (by omega)).2⟩
  exact Jto hr hv z5
theorem J4s {r:Reg} {e:Ev}:(doS r e).2.2.2.2.1.length≤r.2.2.2.2.1.length+1:=by
 obtain⟨tk,st,S,O,M,X,Q⟩:=r
 obtain⟨n,k,ns,vs,tx⟩:=e
 unfold doS
 split<;>first|exact Nat.le_succ _|(show(M++[_]).length≤M.length+1;simp)
structure Y7 (h:Kn):Prop where
 ok:Kf h
 met:∀r∈h.2.2,r.2.2.2.2.1.length≤h.1.length
theorem Jul {h:Kn} (hi:Y7 h):(Kd h.2.2).2.2.2.2.1.length≤h.1.length:=by
 unfold Kd
 by_cases h0:0<h.2.2.length
 ·exact hi.met _ (Jc (by omega))
 ·have:h.2.2=[]:=List.eq_nil_of_length_eq_zero (by omega)
  rw[this];exact Nat.zero_le _
theorem add_zero {h:Kn} {e:Ev} (ha:Up h e=0):Jb e=0∧L1 h e=0:=by
 unfold Up at ha
 by_cases hc:Jb e≠0
 ·rw[if_pos hc] at ha;exact absurd ha hc
 ·rw[if_neg hc] at ha;exact⟨Decidable.of_not_not hc,ha⟩
theorem Jf1 {h:Kn} {e:Ev} (hi:Y7 h) (hl:h.1.length<1000) (ha:Up h e=0):Y7 (Dv h e):=by
 obtain⟨hc,hacc⟩:=add_zero ha
 obtain⟨E,C,G⟩:=h
 obtain⟨n1,n2,n3,hr⟩:=hi.ok
 have hm:=Jul hi
 dsimp only at n1 n2 n3 hr hl hm
 cases hk:e.2.1.toList==J0.toList with
 |true=>
  unfold Dv
  rw[hk,cond_true]
  refine⟨⟨by simp;omega,by simp;omega,by simp;omega,fun r hx=>hr r (List.mem_of_mem_take hx)⟩,fun r hx=> ?_⟩
  have:r.2.2.2.2.1.length≤E.length:=hi.met r (List.mem_of_mem_take hx)
  simp only[List.length_append,List.length_singleton]
  omega
 | false =>
  have hs:=J3o hi.ok (Nat.lt_of_le_of_lt hm (by omega)) hc hacc hk
  unfold Dv
  rw[hk,cond_false]
  refine⟨⟨by simp;omega,by simp;omega,by simp;omega,fun r hx=> ?_⟩,fun r hx=> ?_⟩
  ·rcases Yj hx with h|rfl
   ·exact hr r h
   ·exact hs
  ·rcases Yj hx with h|rfl
   ·have:r.2.2.2.2.1.length≤E.length:=hi.met r h
    simp only[List.length_append,List.length_singleton]
    omega
   ·have:=J4s (r:=Kd G) (e:=e)
    simp only[List.length_append,List.length_singleton]
    show(doS (Kd G) e).2.2.2.2.1.length≤_
    omega
theorem Du {h:Kn} {e:Ev}:(Dv h e).1.length=h.1.length+1:=by
 unfold Dv
 cases e.2.1.toList==J0.toList<;>simp
def Zz:Kn:=([],[],[])
theorem Hd:Y7 Zz:=⟨⟨by decide,by decide,rfl,fun _ h=>(by cases h)⟩,fun _ h=>(by cases h)⟩
def Jc5:Kn→List Ev→Kn×Int×Int
 |h,[]=>(h,0,0)
 |h,e::l=>if Up h e=0 then Jc5 (Dv h e) l else(h,h.1.length+1,Up h e)
def Je (l:List Ev):Kn×Int×Int:=if 1000<l.length then(Zz,0,5) else Jc5 Zz l
def Ji (l:List Ev):Reg:=if(Je l).2.2=0 then Kd (Je l).1.2.2 else U0
def lOk (l:List Ev):Prop:=l.length≤1000000∧∀e∈l,Jfm e
abbrev J1y:List SC:=[.int .i64 0, .int .i64 0, .val (.slice none 0 0), .val (.slice none 0 0), .val (.slice none 0 0), .val (.slice none 0 0), .val (.slice none 0 0)]
abbrev W94:=W93
def K53:Con:={args:=[aS, .ref 105 Jm3],ress:=[I],owns:=[],pre:=fun(_,r,_)=>[Jl r],spec:=fun(s,r,_)=>(bif !Vi r 0 s then 10 else 0,())}
theorem Ko7:Ok Tryz.prog 139 K53:=okW W94 Tryz.f139 na fun xx=>by
 obtain⟨(s:ByteArray),⟨(tk:Int),(st:Int),(S:List Sta),(O:List Ord),(M:List Met),(X:List Out),(Q:List Per)⟩,_⟩:=xx
 refine(by kernel_rfl:(Jw tk st S O M X Q→Jw tk st S O M X Q∧(bif !Vi (Z63 tk st S O M X Q) (0:Int) s then(10:Int) else(0:Int))=bif !Vi (Z63 tk st S O M X Q) (0:Int) s then(10:Int) else(0:Int))=_).mp ?_
 delta Z63 Jw
 intro hr
 exact⟨hr,rfl⟩
abbrev W95:=W94.add Ko7
def opE (l:List Ev) (ns:List ByteArray):Int:=if(Je l).2.2=0 then Jg (ns.map fun s=>bif !Vi (Ji l) 0 s then 10 else 0) else(Je l).2.2
def Kqm:Con:={args:=[.val false (.list 67 sEv), .val false (.list 9 .str)],ress:=[(true,Jm3),I],owns:=[],pre:=fun(l,ns,_)=>[lOk l,ns.length≤1000000],spec:=fun(l,ns,_)=>(Ji l,opE l ns,())}
abbrev J5q (l:List Ev) (ns:List ByteArray):Ann:={X:=Kn×Nat,σ:=fun(h,k)=>⟨9,[(5, .one (.ptr 4 0)),(14, .one (.sl 0)),(15, .one (.int .i64 l.length)),(16, .one (.int .i64 k))],[(0, .imm 67 sEv l),(1, .imm 9 .str ns),(2, .box 105 J1y),(3, .sus [(1, .one (.sl 1)),(4, .one (.ptr 2 0))]),(4, .box 167 [.sl 6, .sl 7, .sl 8]),(6, .own 67 sEv h.1),(7, .own 67 sEv h.2.1),(8, .own 105 Jm3 h.2.2)]⟩,inv:=fun(h,k)=>Y7 h∧h.1.length=k∧k≤l.length∧l.length≤1000∧Jc5 h (l.drop k)=Je l,mu:=fun(_,k)=>l.length-k}
def Z27 (a:Kn×Nat) (b:List Ev):=Bd (Nc a.2) (Ln b)
def Z33 (a:Kn×Nat):=Iw (Nc a.2+1)
def Jyk (a:Kn×Nat) (b:(List Ev×List Ev×List Reg)×Nat):=Nc a.2+1=Nc b.2
def Vn:=Value.slice none 0 0
def Jyi (a:Kn×Nat):=(a.1.1,E2 a.1.2)
def Kfn (a:Kn×Nat):=Kf (Jyi a)
def J8y (a:List Ev) (b:Kn×Nat):=List.getD a b.2 D4
def J8x (a:List Ev) (b:Kn×Nat):=(J8y a b).2
def J21 (a:List Ev) (b:Kn×Nat):=(J8x a b).2
def Jsw (a:List Ev):=Vw=Ji a
def Kjj (a:(List Ev×List Ev×List Reg)×Nat):=List.length a.1.1=0∧List.length a.1.2.1=0∧List.length a.1.2.2=0
def Kjg (a:Bt):= !Vi Vw 0 a
def Kxc (a:Kn×Nat):=Gt a.1.2.2 (Ln a.1.2.2-1) Vw
def Kxb (a:Kn×Nat):=(Kxc a).2
def Kw6 (a:Kn×Nat):=(Kxb a).2
def Kec (a:(List Ev×List Ev×List Reg)×Nat) (b:List Ev):=List.length a.1.1=a.2∧a.2≤List.length b∧List.length b≤1000∧Jc5 a.1 (List.drop a.2 b)=Je b
def Keb (a:Kn×Nat) (b:List Ev):=List.length a.1.1=a.2∧a.2≤List.length b∧List.length b≤1000∧Jc5 a.1 (List.drop a.2 b)=Je b
def Kw3 (a:Kn×Nat):=(Kw6 a).2
def Kw0 (a:Kn×Nat):=(Kw3 a).2
def Kh3 (a:Kn×Nat) (b:List Ev):=Y7 a.1∧Keb a b
def Kd5 (a:(List Ev×List Ev×List Reg)×Nat) (b:List Ev):=Y7 a.1∧Kec a b
def Kvi (a:Ls):=List.map (fun(x:ByteArray)=>match Kjg x with|true=>(10:Int)|false=>(0:Int)) a
def Khb (a:(List Ev×List Ev×List Reg)×Nat) (b:List Ev) (c:Kn×Nat):=Kd5 a b∧List.length b-a.2<List.length b-c.2
def Jx5 (a:List Ev) (b:Kn×Nat):=((J8y a b).1,(J8x a b).1,(J21 a b).1,E2 (J21 a b).2)
def Kgp (a:Kn×Nat) (b:List Ev):=Vm (Jyi a) (Jx5 b a)
def J79 (a:Kn×Nat) (b:List Ev):=Up (Jyi a) (Jx5 b a)
def Kgo (a:Kn×Nat) (b:List Ev):=(Kgp a b).2
def Kgm (a:Kn×Nat) (b:List Ev):=Kfn a∧List.length a.1.1<1000∧Jfm (Jx5 b a)
def Kc7 (a:Kn×Nat) (b:List Ev):=J79 a b !=0
def J1q (a:Kn×Nat):=((Kxc a).1,(Kxb a).1,(Kw6 a).1,(Kw3 a).1,(Kw0 a).1,E2 (Kw0 a).2)
def J7r (a:Kn×Nat) (b:Ls):=List.map (fun(x:ByteArray)=>match !Vi (J1q a) (0:Int) x with|true=>(10:Int)|false=>(0:Int)) b
def J1k (a:Kn×Nat) (b:List Ev) (c:(List Ev×List Ev×List Reg)×Nat):=(Kgp a b).1=c.1.1∧(Kgo a b).1=c.1.2.1∧(Kgo a b).2=c.1.2.2
theorem K43:Ok Tryz.prog 68 Kqm:=Jzd W95 Tryz.f68 (U1 (l:=([(74,Tryz.f74),(75,Tryz.f75)]:List (Nat×Func))) (List.forall_mem_cons.2 ⟨by kernel_rfl,List.forall_mem_cons.2 ⟨by kernel_rfl,by simp⟩⟩)) (fun xx=>na ()) (fun xx=>fun f id=>if f=74 then some (J5q xx.1 xx.2.1) else none) fun xx=>by
 obtain⟨(l:List Ev),(ns:List ByteArray),_⟩:=xx
 refine(by kernel_rfl:(lOk l→Jaf ns→Br (decide (1000<Ln l)) (Br true (Sf true (Jsw l∧5=opE l ns)) False) (∃(x:(List Ev×List Ev×List Reg)×Nat),Si (Ln l) (0=Nc x.2∧Sf l (Sf ns (Si 0 (Si 0 (Sf Vn (Sf Vn (Sf Vn (Sf Vn (Sf Vn (Kjj x))))))))))∧Kd5 x l∧∀(x:Kn×Nat),Kh3 x l→Br (decide (Nc x.2<Ln l)) (Tw (Z27 x l)∧Kgm x l∧Br (Kc7 x l) (Z33 x∧Br (Kc7 x l) (Sf true (Jsw l∧J79 x l=opE l ns)) False) (Z33 x∧∃(y:(List Ev×List Ev×List Reg)×Nat),Si (Ln l) (Jyk x y∧Sf l (Sf ns (Si 0 (Si 0 (Sf Vn (Sf Vn (Sf Vn (Sf Vn (Sf Vn (J1k x l y))))))))))∧Khb y l x)) (Br false (Sf true (Jsw l∧0=opE l ns)) (Br (decide (0<Ln x.1.2.2)) ((Iw (Ln x.1.2.2-1)∧Tw (Bd (Ln x.1.2.2-1) (Ln x.1.2.2)))∧(Jaf ns∧(∀(x_1:ByteArray),Jgu ns x_1→Jl (J1q x))∧List.length (J7r x ns)≤1000000)∧Sf true (J1q x=Ji l∧Jg (J7r x ns)=opE l ns)) ((Jaf ns∧(∀(x:ByteArray),Jgu ns x→Yv)∧List.length (Kvi ns)≤1000000)∧Sf true (Jsw l∧Jg (Kvi ns)=opE l ns))))))=_).mp ?_
 delta Z27 Z33 Jaf Jyk Vn Jyi D4 Kfn Jgu J8y J8x J21 L5 Vw Yv Jsw Kjj Kjg Kxc Kxb Kw6 Kec Keb Kw3 Kw0 Kh3 Kd5 Kvi Khb Jx5 Kgp J79 Kgo Kgm Kc7 J1q J7r J1k Br Iw Bd Tw Sf Si Ln Nc Gt B0 E2
 intro hl hns
 refine⟨fun h=> ?_,fun h=> ?_⟩
 ·have e:Je l=(Zz,0,5):=by unfold Je;rw[if_pos (by have:=of_decide_eq_true h;omega)]
  refine⟨fun _=>⟨rfl, ?_, ?_⟩,fun h=>by cases h⟩
  ·unfold Ji;rw[e];rfl
  ·unfold opE;rw[e];rfl
 have hn:l.length≤1000:=by have:=of_decide_eq_false h;omega
 have e0:Je l=Jc5 Zz l:=by unfold Je;rw[if_neg (by omega)]
 refine⟨(Zz,(0:Nat)),⟨rfl,rfl,rfl,rfl,rfl,rfl,rfl,rfl,rfl,rfl,rfl,rfl,rfl,rfl⟩,⟨Hd,rfl,Nat.zero_le _,hn,e0.symm⟩,fun(x:Kn×Nat) hx=>⟨fun h1=> ?_,fun h1=> ?_⟩⟩
 ·obtain⟨g,k⟩:=x
  obtain⟨hi,hk,hk2,_,hrun⟩:=hx
  dsimp only at hi hk hk2 hrun
  have hlt:k<l.length:=by simpa using h1
  rw[Jq (d:=ev0) hlt,Jc5] at hrun
  have hz:=hl.2 _ (Jc (d:=ev0) hlt)
  refine⟨⟨⟨by dsimp only;omega,by dsimp only;omega⟩,by dsimp only;omega,by dsimp only;omega⟩,⟨hi.ok,by show g.1.length<1000;omega,hz⟩,fun h2=>⟨by dsimp only;omega,fun h3=> ?_,fun h3=> ?_⟩,fun h2=>⟨by dsimp only;omega,(Dv g (l.getD k ev0),k+1), ?_,⟨?_, ?_,by dsimp only;omega,hn, ?_⟩,by dsimp only;omega⟩⟩
  ·have h2:Up g (l.getD k ev0)≠0:=bne_iff_ne.1 h2
   rw[if_neg h2] at hrun
   refine⟨rfl, ?_, ?_⟩
   ·unfold Ji;rw[←hrun];dsimp only;rw[if_neg h2];rfl
   ·unfold opE;rw[←hrun];dsimp only;rw[if_neg h2];rfl
  ·have h2:Up g (l.getD k ev0)≠0:=bne_iff_ne.1 h2
   exact absurd (bne_eq_false_iff_eq.1 h3) h2
  ·have h2:Up g (l.getD k ev0)=0:=bne_eq_false_iff_eq.1 h2
   have eP:Vm g (l.getD k ev0)=Dv g (l.getD k ev0):=by unfold Vm;rw[if_pos h2]
   refine⟨rfl,by simp,rfl,rfl,rfl,rfl,rfl,rfl,rfl,rfl,rfl, ?_, ?_, ?_⟩
   ·show(Vm g (l.getD k ev0)).1=_;rw[eP]
   ·show(Vm g (l.getD k ev0)).2.1=_;rw[eP]
   ·show(Vm g (l.getD k ev0)).2.2=_;rw[eP]
  ·exact Jf1 hi (by omega) (bne_eq_false_iff_eq.1 h2)
  ·show(Dv g (l.getD k ev0)).1.length=k+1
   rw[Du,hk]
  ·have h2:Up g (l.getD k ev0)=0:=bne_eq_false_iff_eq.1 h2
   rw[if_pos h2] at hrun
   exact hrun
 ·obtain⟨g,k⟩:=x
  obtain⟨hi,hk,hk2,_,hrun⟩:=hx
  dsimp only at hi hk hk2 hrun
  have hlt:¬k<l.length:=by simpa using h1
  have:k=l.length:=by omega
  rw[this,List.drop_length,Jc5] at hrun
  have eR:Ji l=Kd g.2.2:=by unfold Ji;rw[←hrun];rfl
  have hR:=X3 hi.ok
  have hGl:((g.2.2.length:Int)-1).toNat=g.2.2.length-1:=by omega
  have hb:g.2.2.length≤1000:=by have:=hi.ok.nG;have:=hi.ok.nC;have:=hi.ok.nE;omega
  have eO:opE l ns=Jg (ns.map fun s=>bif !Vi (Kd g.2.2) 0 s then 10 else 0):=by unfold opE;rw[←hrun,eR];rfl
  refine⟨fun f=>(by cases f),fun _=>⟨fun h2=> ?_,fun h2=> ?_⟩⟩
  ·have h2:(0:Int)<g.2.2.length:=of_decide_eq_true h2
   dsimp only
   rw[hGl]
   exact⟨⟨⟨by omega,by omega⟩,⟨by omega,by omega⟩,by omega,by omega⟩,⟨hns,fun _ _=>hR,by rw[List.length_map];exact hns⟩,rfl,eR.symm,eO.symm⟩
  ·have e1:=Kl h2
   rw[e1] at eR eO hR
   exact⟨⟨hns,fun _ _=>hR,by rw[List.length_map];exact hns⟩,rfl,eR.symm,eO.symm⟩
abbrev W96:=W95.add K43
theorem Jt1:∀{l:List Ev} {h:Kn},Y7 h→h.1.length+l.length≤1000→Y7 (Jc5 h l).1
 |[],_,hi,_=>hi
 | e :: l, h, hi, hl => by
  unfold Jc5
  simp only[List.length_cons] at hl
  by_cases ha:Up h e=0
  ·rw[if_pos ha]
   exact Jt1 (Jf1 hi (by omega) ha) (by rw[Du];omega)
  ·rw[if_neg ha];exact hi
theorem Jaq {l:List Ev}:Y7 (Je l).1:=by
 unfold Je
 by_cases h:1000<l.length
 ·rw[if_pos h];exact Hd
 ·rw[if_neg h];exact Jt1 Hd (by show 0+l.length≤1000;omega)
theorem Fw {l:List Ev}:Jl (Ji l):=by
 unfold Ji
 by_cases h:(Je l).2.2=0
 ·rw[if_pos h];exact X3 Jaq.ok
 ·rw[if_neg h];exact X3 Hd.ok
def Jgi (l:List Ev) (s:ByteArray) (h:Int):Int:=Jg [opE l [s],Kj h 0 999999999]
def Jt4 (l:List Ev) (s:ByteArray) (h:Int):Int:=if Jgi l s h=0 then Xn (Ji l).2.2.1 (Ji l).2.2.2.1 (Ji l).2.2.2.2.2.1 s h else 0
def J4z:Con:={args:=[.val false (.list 67 sEv),aS,aI],ress:=[I,I],owns:=[],pre:=fun(l,_)=>[lOk l],spec:=fun(l,s,h,_)=>(Jt4 l s h,Jgi l s h,())}
theorem J99 {l:List Ev} {s:ByteArray} (h:opE l [s]=0):0≤Jy (Ji l).2.2.1 s:=by
 unfold opE at h
 by_cases h0:(Je l).2.2=0
 ·rw[if_pos h0] at h
  have h1:=Ux.1 h _ (List.mem_map_of_mem (List.mem_cons_self ..))
  have h2:=Yl (by decide) h1
  exact Jrz (by simpa using h2)
 ·rw[if_neg h0] at h;exact absurd h h0
def J2y (a:List Ev):=((Ji a).1,(Ji a).2.1,(Ji a).2.2.1,(Ji a).2.2.2.1,(Ji a).2.2.2.2.1,E2 (Ji a).2.2.2.2.2)
def Jx9 (a:List Ev):=Jl (J2y a)
theorem K5h:Ok Tryz.prog 25 J4z:=okW W96 Tryz.f25 na fun xx=>by
 obtain⟨(l:List Ev),(s:ByteArray),(h:Int),_⟩:=xx
 refine(by kernel_rfl:(lOk l→(lOk l∧1≤1000000)∧2≤1000000∧Br (Jg [opE l [s],Z68 h] !=0) (0=Jt4 l s h∧Jg [opE l [s],Z68 h]=Jgi l s h) ((Jx9 l∧0≤Jy (Ji l).2.2.1 s)∧Xn (Ji l).2.2.1 (Ji l).2.2.2.1 (Ji l).2.2.2.2.2.1 s h=Jt4 l s h∧0=Jgi l s h))=_).mp ?_
 delta Z68 J2y Jx9 Br E2
 intro hl
 refine⟨⟨hl,by decide⟩,by decide,fun e=> ?_,fun e=> ?_⟩
 ·have e:Jgi l s h≠0:=bne_iff_ne.1 e
  exact⟨by unfold Jt4;rw[if_neg e],rfl⟩
 ·have e:Jgi l s h=0:=bne_eq_false_iff_eq.1 e
  exact⟨⟨Fw,J99 (Xp e).1⟩,by unfold Jt4;rw[if_pos e],e.symm⟩
abbrev W97:=W96.add K5h
abbrev W98:=W97
abbrev W99:=W98
abbrev K32:=W99
end Go.Proofs.YtcibbcfiemeoiaaGreatDoor

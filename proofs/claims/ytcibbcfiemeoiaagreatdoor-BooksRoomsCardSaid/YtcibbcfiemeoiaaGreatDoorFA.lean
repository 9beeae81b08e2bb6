/- Contracts of the functions that the law reaches: part of the proof. -/
import Derived.Test.YtcibbcfiemeoiaaGreatDoorProg
import Derived.Test.YtcibbcfiemeoiaaGreatDoorSxC
import Derived.Test.YtcibbcfiemeoiaaGreatDoorShelfA
import Derived.Test.YtcibbcfiemeoiaaGreatDoorLayA
import Derived.KernelRfl
import Derived.Laws.RangeAny
import Derived.Lib.Strings
set_option linter.unusedSimpArgs false
set_option linter.unusedVariables false
set_option maxRecDepth 20000
namespace Go.Proofs.YtcibbcfiemeoiaaGreatDoor
open Go.Sx
set_option maxHeartbeats 20000000
abbrev I:Bool×Sch:=(false, .int .i64)
abbrev Bo:Bool×Sch:=(false, .bool)
abbrev aI:AK:= .val false (.int .i64)
abbrev aB:AK:= .val false .bool
abbrev aS:AK:= .val false .str
abbrev tS:Bool×Sch:=(false, .str)
abbrev sI:Sch:= .int .i64
abbrev W0 [Sx.Dr]:GW Tryz.prog:=⟨[], .nil _⟩
theorem mixed:Tryz.prog.follows .mixedOrders=true:=by kernel_rfl
theorem okW [Sx.Dr] {f:FuncId} {c:Con} (W:GW Tryz.prog) (fn:Func) (ann:ATup c.args→Nat→Option Ann) (h:∀x:ATup c.args,wpF Tryz.prog W.g (ann x) fn c x) (h1:Tryz.prog.funcs[f]? =some fn:=by kernel_rfl) (h2:Jbi fn c=true:=by kernel_rfl):Ok Tryz.prog f c:=Vr mixed W.ok h1 h2 ann h
theorem J16 [Sx.Dr] {f:FuncId} {c:Con} {lib:FuncId→Option Func} (W:GW Tryz.prog) (fn:Func) (hl:∀f fn,lib f=some fn→Tryz.prog.funcs[f]? =some fn) (ann:ATup c.args→Nat→Option Ann) (annF:ATup c.args→FuncId→Nat→Option Ann) (h:∀x:ATup c.args,wpFG Tryz.prog W.g (ann x) (annF x) lib fn c x) (h1:Tryz.prog.funcs[f]? =some fn:=by kernel_rfl) (h2:Jbi fn c=true:=by kernel_rfl):Ok Tryz.prog f c:=Jeo mixed W.ok h1 h2 hl ann annF h
abbrev na {α:Type}:α→Nat→Option Ann:=fun _ _=>none
abbrev Xo (A:Ann):Nat→Option Ann:=fun k=>if k=0 then some A else none
def J4r:Con:={args:=[aB,aI],ress:=[I],owns:=[],pre:=fun _=>[],spec:=fun(b,e,_)=>(bif b then e else 0,())}
def Kk1 (a:Bool) (b:Int):=Br a (b=bif a then b else 0) (0=bif a then b else 0)
theorem K41 [Sx.Dr]:Ok Tryz.prog 71 J4r:=okW W0 Tryz.f71 na fun xx=>by
 obtain⟨(b:Bool),(e:Int),_⟩:=xx
 refine(by kernel_rfl:(Kk1 b e)=_).mp ?_
 delta Kk1 Br
 cases b<;>simp
abbrev W1 [Sx.Dr]:=W0.add K41
theorem K4r [Sx.Dr]:Ok Tryz.prog 84 J4r:=okW W1 Tryz.f84 na fun xx=>by
 obtain⟨(b:Bool),(e:Int),_⟩:=xx
 refine(by kernel_rfl:(Kk1 b e)=_).mp ?_
 delta Kk1 Br
 cases b<;>simp
abbrev W2 [Sx.Dr]:=W1.add K4r
theorem K5p [Sx.Dr]:Ok Tryz.prog 19 J4r:=okW W2 Tryz.f19 na fun xx=>by
 obtain⟨(b:Bool),(e:Int),_⟩:=xx
 refine(by kernel_rfl:((bif b then e else 0)=bif b then e else 0)=_).mp ?_
 trivial
abbrev W3 [Sx.Dr]:=W2.add K5p
def Kf (n lo hi:Int):Int:=bif decide (n<lo)||decide (hi<n) then 3 else 0
def J4q:Con:={args:=[aI,aI,aI],ress:=[I],owns:=[],pre:=fun _=>[],spec:=fun(n,lo,hi,_)=>(Kf n lo hi,())}
theorem Kpq [Sx.Dr]:Ok Tryz.prog 133 J4q:=okW W3 Tryz.f133 na fun xx=>by
 obtain⟨(n:Int),(lo:Int),(hi:Int),_⟩:=xx
 refine(by kernel_rfl:((bif bif decide (n<lo) then true else decide (hi<n) then 3 else 0)=Kf n lo hi)=_).mp ?_
 unfold Kf;cases decide (n<lo)<;>rfl
abbrev W4 [Sx.Dr]:=W3.add Kpq
def V0 (n lo hi:Int):Bool:=decide (n<lo)||decide (hi<n)
def Jz9:Con:={args:=[aI,aI,aI],ress:=[Bo],owns:=[],pre:=fun _=>[],spec:=fun(n,lo,hi,_)=>(V0 n lo hi,())}
theorem K5o [Sx.Dr]:Ok Tryz.prog 20 Jz9:=okW W4 Tryz.f20 na fun xx=>by
 obtain⟨(n:Int),(lo:Int),(hi:Int),_⟩:=xx
 refine(by kernel_rfl:((bif decide (n<lo) then true else decide (hi<n))=V0 n lo hi)=_).mp ?_
 unfold V0;cases decide (n<lo)<;>rfl
abbrev W5 [Sx.Dr]:=W4.add K5o
def Kqr:Con:={args:=[aI],ress:=[I],owns:=[],pre:=fun _=>[],spec:=fun(n,_)=>(Kf n 0 999999999,())}
def Z69 (a:Int):=Kf a 0 999999999
def Klm (a:Int):=Z69 a=Z69 a
theorem K42 [Sx.Dr]:Ok Tryz.prog 70 Kqr:=okW W5 Tryz.f70 na fun xx=>by
 obtain⟨(n:Int),_⟩:=xx
 refine(by kernel_rfl:(Klm n)=_).mp ?_
 delta Z69 Klm
 rfl
abbrev W6 [Sx.Dr]:=W5.add K42
def Jf:List Int→Int
 |[]=>0
 |x::l=>if x=0 then Jf l else x
theorem Jfi {l:List Int} {k:Nat} (h:k<l.length):Jf (l.drop k)=if l.getD k 0=0 then Jf (l.drop (k+1)) else l.getD k 0:=by
 rw[List.drop_eq_getElem_cons h]
 simp[Jf,List.getD_eq_getElem?_getD,h]
def Kbr:Con:={args:=[.val false (.list 26 sI)],ress:=[I],owns:=[],pre:=fun(l,_)=>[l.length≤1000000],spec:=fun(l,_)=>(Jf l,())}
abbrev J0t (l:List Int):Ann:={X:=Nat,σ:=fun k=>⟨1,[(5, .one (.sl 0)),(6, .one (.int .i64 l.length)),(7, .one (.int .i64 k))],[(0, .imm 26 sI l)]⟩,inv:=fun k=>k≤l.length∧Jf l=Jf (l.drop k),mu:=fun k=>l.length-k}
def Z15 (a:Li) (b:Nat):=List.getD a b 0
def Z20 (a:Nat):=Iw (Nc a+1)
def Z47 (a:Li):=List.length a≤1000000
def Z78 (a:Nat) (b:Li):=Tw (Bd (Nc a) (Ln b))
def Z95 (a:Nat) (b:Li):=decide (Nc a<Ln b)
def V5 (a b:Nat):=Nc a+1=Nc b
def Jxf (a:Li) (b c:Nat):=List.length a-b<List.length a-c
def J6o (a:Nat) (b:Li):=a≤List.length b∧Jf b=Jf (List.drop a b)
def Kkn (a:Li) (b:Nat):=Z15 a b !=0
def Kjd (a:Nat) (b:Li) (c:Nat):=J6o a b∧Jxf b a c
theorem K43 [Sx.Dr]:Ok Tryz.prog 69 Kbr:=okW W6 Tryz.f69 (fun xx=>Xo (J0t xx.1)) fun xx=>by
 obtain⟨(l:List Int),_⟩:=xx
 refine(by kernel_rfl:(Z47 l→∃(x:Nat),Si (Ln l) (0=Nc x∧l=l)∧J6o x l∧∀(x:Nat),J6o x l→Br (Z95 x l) (Z78 x l∧Br (Kkn l x) (Z15 l x=Jf l) (Z20 x∧∃(y:Nat),Si (Ln l) (V5 x y∧l=l)∧Kjd y l x)) (0=Jf l))=_).mp ?_
 delta Z15 Z20 Z47 Z78 Z95 V5 Jxf J6o Kkn Kjd Br Iw Bd Tw Si Ln Nc
 intro hb
 refine⟨(0:Nat),⟨rfl,rfl,rfl⟩,⟨Nat.zero_le _,rfl⟩,fun(k:Nat) hk=>⟨fun h=> ?_,fun h=> ?_⟩⟩
 ·have hlt:k<l.length:=by simpa using h
  have hd:=Jfi hlt
  refine⟨by omega,fun h1=> ?_,fun h1=>⟨by omega,(k+1:Nat),⟨rfl,by simp,rfl⟩,⟨by omega, ?_⟩,by omega⟩⟩
  ·have h2:¬l.getD k 0=0:=by simpa using h1
   rw[hk.2,hd,if_neg h2]
  ·have h2:l.getD k 0=0:=by simpa using h1
   rw[hk.2,hd,if_pos h2]
 ·have hlt:¬k<l.length:=by simpa using h
  have:k=l.length:=by omega
  rw[hk.2,this,List.drop_length];rfl
abbrev W7 [Sx.Dr]:=W6.add K43
def Jv6:Con:={args:=[.val false (.list 3 sI)],ress:=[I],owns:=[],pre:=fun(l,_)=>[l.length≤1000000],spec:=fun(l,_)=>(Jf l,())}
abbrev Jw3 (l:List Int):Ann:={X:=Nat,σ:=fun k=>⟨1,[(0, .one (.sl 0)),(3, .one (.int .i64 k))],[(0, .imm 3 sI l)]⟩,inv:=fun k=>k≤l.length∧Jf l=Jf (l.drop k),mu:=fun k=>l.length-k}
theorem K4s [Sx.Dr]:Ok Tryz.prog 83 Jv6:=okW W7 Tryz.f83 (fun xx=>Xo (Jw3 xx.1)) fun xx=>by
 obtain⟨(l:List Int),_⟩:=xx
 refine(by kernel_rfl:(Z47 l→∃(x:Nat),(0=Nc x∧l=l)∧J6o x l∧∀(x:Nat),J6o x l→Br (Z95 x l) (Z78 x l∧Br (Kkn l x) (Z78 x l∧Z15 l x=Jf l) (Z20 x∧∃(y:Nat),(V5 x y∧l=l)∧Kjd y l x)) (0=Jf l))=_).mp ?_
 delta Z15 Z20 Z47 Z78 Z95 V5 Jxf J6o Kkn Kjd Br Iw Bd Tw Ln Nc
 intro hb
 refine⟨(0:Nat),⟨rfl,rfl⟩,⟨Nat.zero_le _,rfl⟩,fun(k:Nat) hk=>⟨fun h=> ?_,fun h=> ?_⟩⟩
 ·have hlt:k<l.length:=by simpa using h
  have hd:=Jfi hlt
  refine⟨by omega,fun h1=>⟨by omega, ?_⟩,fun h1=>⟨by omega,(k+1:Nat),⟨by simp,rfl⟩,⟨by omega, ?_⟩,by omega⟩⟩
  ·have h2:¬l.getD k 0=0:=by simpa using h1
   rw[hk.2,hd,if_neg h2]
  ·have h2:l.getD k 0=0:=by simpa using h1
   rw[hk.2,hd,if_pos h2]
 ·have hlt:¬k<l.length:=by simpa using h
  have:k=l.length:=by omega
  rw[hk.2,this,List.drop_length];rfl
abbrev W8 [Sx.Dr]:=W7.add K4s
theorem K5q [Sx.Dr]:Ok Tryz.prog 18 Jv6:=okW W8 Tryz.f18 na fun xx=>by
 obtain⟨(l:List Int),_⟩:=xx
 refine(by kernel_rfl:(Z47 l→Z47 l∧Jf l=Jf l)=_).mp ?_
 delta Z47
 exact fun h=>⟨h,rfl⟩
abbrev W9 [Sx.Dr]:=W8.add K5q
def okB (f:Bool) (c:Int):Bool:=bif (bif decide ((65:Int)≤c) then decide (c≤90) else false) then true else bif (bif decide ((97:Int)≤c) then decide (c≤122) else false) then true else bif f then false else bif decide (c<48) then c==95 else bif decide (57<c) then c==95 else true
def okL (f:Bool):List UInt8→Bool
 |[]=>true
 |b::r=>okB f (b.toNat:Int)&&okL false r
def Yk (s:ByteArray):Bool:=okL true s.data.toList&&(decide (0<s.size)&&decide ((s.size:Int)≤24))
theorem Juh (f:Bool) (c:Int):(bif !bif (bif decide ((65:Int)≤c) then decide (c≤90) else false) then true else bif decide ((97:Int)≤c) then decide (c≤122) else false then bif f then true else bif (bif decide (c<48) then true else decide (57<c)) then c !=95 else false else false)= !okB f c:=by
 unfold okB bne
 cases decide ((65:Int)≤c)<;>cases decide (c≤90)<;>cases decide ((97:Int)≤c)<;>cases decide (c≤122)<;>cases f<;>cases decide (c<48)<;>cases decide (57<c)<;>cases c==95<;>rfl
theorem Jo7 {f:Bool} {c:Int} (h:128≤c):okB f c=false:=by
 unfold okB
 have h1:decide (c≤90)=false:=decide_eq_false (by omega)
 have h2:decide (c≤122)=false:=decide_eq_false (by omega)
 have h3:decide (c<48)=false:=decide_eq_false (by omega)
 have h4:decide ((57:Int)<c)=true:=decide_eq_true (by omega)
 have h5:(c==95)=false:=beq_eq_false_iff_ne.2 (by omega)
 rw[h1,h2,h3,h4,h5]
 cases decide ((65:Int)≤c)<;>cases decide ((97:Int)≤c)<;>cases f<;>rfl
theorem Jdf {s:ByteArray} {k:Nat} (h:k<s.size) (ha:(s[k]'h).toNat<128):V7 s k=((s[k]'h).toNat:Int)∧Jgi s k=1:=by
 unfold V7 Jgi
 rw[decode_ascii s k h ha]
 exact⟨rfl,rfl⟩
theorem Jkz {s:ByteArray} {k:Nat} (h:k<s.size) (ha:128≤(s[k]'h).toNat):128≤V7 s k:=by
 have:=(decode_high s k h ha).1
 unfold V7
 omega
theorem Dz {s:ByteArray} {k:Nat} (h:k<s.size):s.data.toList.drop k=(s[k]'h)::s.data.toList.drop (k+1):=by
 rw[List.drop_eq_getElem_cons (by simpa using h)]
 congr 1
theorem Ji4 (s:ByteArray):(!(s.toList==(⟨⟨[]⟩⟩:ByteArray).toList))=decide (0<s.size):=by
 rw[Lib.toList_data,Lib.toList_data]
 have e:s.data.toList.length=s.size:=by simp
 cases h:s.data.toList with
 |nil=>rw[h] at e;simp at e;rw[←e];rfl
 |cons a l=>rw[h] at e;simp at e;rw[←e];simp
theorem Jck (k:Nat):(((k:Nat):Int)==0)=(k==0):=by
 rw[Bool.eq_iff_iff,beq_iff_eq,beq_iff_eq];omega
def Kbb:Con:={args:=[aS],ress:=[Bo],owns:=[],pre:=fun(s,_)=>[s.size≤1000000],spec:=fun(s,_)=>(Yk s,())}
abbrev J5o (s:ByteArray):Ann:={X:=Nat,σ:=fun k=>⟨1,[(0, .one (.str s)),(7, .one (.sl 0))],[(0, .siter s k)]⟩,inv:=fun k=>k≤s.size∧okL true s.data.toList=okL (k==0) (s.data.toList.drop k),mu:=fun k=>s.size-k}
def Z11 (a:Bt):=a.data.toList
def Kkl (a:Bt) (b:Nat):=bif decide (V7 a b<48) then true else decide (57<V7 a b)
def Kz0 (a:Bt):=Sf true ((bif !Lb a B0 then decide (Nc (ByteArray.size a)≤24) else false)=Yk a)
def Kjc (a:Nat) (b:Bt):=a≤ByteArray.size b∧okL true (Z11 b)=okL (a==0) (List.drop a (Z11 b))
theorem Kpn [Sx.Dr]:Ok Tryz.prog 136 Kbb:=J16 W9 Tryz.f136 (U6 (l:=([]:List (Nat×Func))) (by simp)) (fun xx=>Xo (J5o xx.1)) (fun xx=>fun _=>na ()) fun xx=>by
 obtain⟨(s:ByteArray),_⟩:=xx
 refine(by kernel_rfl:(ByteArray.size s≤1000000→∃(x:Nat),Sf s (Sf s (0=x))∧Kjc x s∧∀(x:Nat),Kjc x s→(x<ByteArray.size s→Br true (Br (bif !bif bif decide (65≤V7 s x) then decide (V7 s x≤90) else false then true else bif decide (97≤V7 s x) then decide (V7 s x≤122) else false then bif Nc x==0 then true else bif Kkl s x then V7 s x !=95 else false else false) (Sf true (false=Yk s)) (∃(y:Nat),Sf s (Sf s (x+Jgi s x=y))∧Kjc y s∧ByteArray.size s-y<ByteArray.size s-x)) (Kz0 s))∧((x<ByteArray.size s→False)→Br false False (Kz0 s)))=_).mp ?_
 delta Z11 Kkl Kz0 Kjc Br Sf Nc B0 Lb
 intro hb
 refine⟨(0:Nat),⟨rfl,rfl,rfl⟩,⟨Nat.zero_le _,by simp⟩,fun(k:Nat) hk=>⟨fun h=>⟨fun _=>⟨fun h1=>⟨rfl, ?_⟩,fun h1=> ?_⟩,fun h=>(by cases h)⟩,fun h=> ?_⟩⟩
 ·rw[Juh,Jck] at h1
  have h2:okB (k==0) (V7 s k)=false:=by simpa using h1
  unfold Yk
  have h3:okL true s.data.toList=false:=by
   rw[hk.2,Dz h,okL]
   by_cases ha:(s[k]'h).toNat<128
   ·rw[←(Jdf h ha).1,h2];rfl
   ·rw[Jo7 (by omega)];rfl
  rw[h3];rfl
 ·rw[Juh,Jck] at h1
  have h2:okB (k==0) (V7 s k)=true:=by simpa using h1
  by_cases ha:(s[k]'h).toNat<128
  ·obtain⟨r1,r2⟩:=Jdf h ha
   refine⟨(k+1:Nat),⟨rfl,rfl,by rw[r2]⟩,⟨by omega, ?_⟩,by omega⟩
   rw[hk.2,Dz h,okL,←r1,h2]
   rfl
  ·have:=Jkz h (by omega)
   rw[Jo7 this] at h2
   cases h2
 ·have e:k=s.size:=Nat.le_antisymm hk.1 (Nat.le_of_not_lt h)
  refine⟨fun h=>(by cases h),fun _=>⟨rfl, ?_⟩⟩
  rw[e,List.drop_eq_nil_of_le (by simp)] at hk
  unfold Yk
  rw[hk.2,Ji4]
  cases decide (0<s.size)<;>cases decide ((s.size:Int)≤24)<;>rfl
abbrev W10 [Sx.Dr]:=W9.add Kpn
abbrev aU:AK:= .val false (.int .u8)
def Jux (c:Int):Bool:=bif (bif decide ((65:Int)≤c) then decide (c≤90) else false) then true else bif decide ((97:Int)≤c) then decide (c≤122) else false
def Kau (c:Int):Bool:=bif decide ((48:Int)≤c) then decide (c≤57) else false
def K6a:Con:={args:=[aU],ress:=[Bo],owns:=[],pre:=fun _=>[],spec:=fun(c,_)=>(Jux c,())}
theorem Kob [Sx.Dr]:Ok Tryz.prog 190 K6a:=okW W10 Tryz.f190 na fun xx=>by
 obtain⟨(c:Int),_⟩:=xx
 refine(by kernel_rfl:((bif bif decide (65≤c) then decide (c≤90) else false then true else bif decide (97≤c) then decide (c≤122) else false)=Jux c)=_).mp ?_
 rfl
abbrev W11 [Sx.Dr]:=W10.add Kob
def K6d:Con:={args:=[aU],ress:=[Bo],owns:=[],pre:=fun _=>[],spec:=fun(c,_)=>(Kau c,())}
theorem Koa [Sx.Dr]:Ok Tryz.prog 191 K6d:=okW W11 Tryz.f191 na fun xx=>by
 obtain⟨(c:Int),_⟩:=xx
 refine(by kernel_rfl:((bif decide (48≤c) then decide (c≤57) else false)=Kau c)=_).mp ?_
 rfl
abbrev W12 [Sx.Dr]:=W11.add Koa
theorem J30 (c:Int):okB true c=Jux c:=by
 unfold okB Jux
 cases decide ((65:Int)≤c)<;>cases decide (c≤90)<;>cases decide ((97:Int)≤c)<;>cases decide (c≤122)<;>rfl
theorem J3z (c:Int):(bif bif !Jux c then !Kau c else false then c !=95 else false)= !okB false c:=by
 unfold okB Jux Kau bne
 have e1:decide (c<48)= !decide ((48:Int)≤c):=by rw[Bool.eq_iff_iff];simp
 have e2:decide ((57:Int)<c)= !decide (c≤57):=by rw[Bool.eq_iff_iff];simp
 rw[e1,e2]
 cases decide ((65:Int)≤c)<;>cases decide (c≤90)<;>cases decide ((97:Int)≤c)<;>cases decide (c≤122)<;>cases decide ((48:Int)≤c)<;>cases decide (c≤57)<;>cases c==95<;>rfl
theorem Dl {s:ByteArray} {k:Nat} (h:k<s.size):s.data.toList.drop k=s.data.toList.getD k 0::s.data.toList.drop (k+1):=by
 have h':k<s.data.toList.length:=by simpa using h
 rw[List.drop_eq_getElem_cons h']
 congr 1
 rw[List.getD_eq_getElem?_getD,List.getElem?_eq_getElem h'];rfl
abbrev J0r (s:ByteArray):Ann:={X:=Nat,σ:=fun k=>⟨0,[(0, .one (.str s)),(3, .one (.int .i64 k))],[]⟩,inv:=fun k=>0<k∧k≤s.size∧Yk s=okL false (s.data.toList.drop k),mu:=fun k=>s.size-k}
def Kln (a:Bt) (b:Nat):=Nc (UInt8.toNat (List.getD (Z11 a) b 0))
def Kle (a:Bt):=Nc (UInt8.toNat (List.getD (Z11 a) 0 0))
def K04 (a:Bt) (b:Nat):= !Jux (Kln a b)
def K0w (a:Bt):=bif Nc (ByteArray.size a)==0 then true else decide (24<Nc (ByteArray.size a))
def Kjn (a:Nat) (b:Bt):=0<a∧a≤ByteArray.size b∧Yk b=okL false (List.drop a (Z11 b))
def Kwe (a:Bt) (b:Nat):=bif K04 a b then !Kau (Kln a b) else false
theorem Kp3 [Sx.Dr]:Ok Tryz.prog 111 Kbb:=okW W12 Tryz.f111 (fun xx=>Xo (J0r xx.1)) fun xx=>by
 obtain⟨(s:ByteArray),_⟩:=xx
 refine(by kernel_rfl:(ByteArray.size s≤1000000→(K0w s=false→Bd 0 (Nc (ByteArray.size s)))∧Br (bif K0w s then true else !Jux (Kle s)) (false=Yk s) (∃(x:Nat),Sf s (1=Nc x)∧Kjn x s∧∀(x:Nat),Kjn x s→Br (decide (Nc x<Nc (ByteArray.size s))) ((Bd (Nc x) (Nc (ByteArray.size s))∧(K04 s x=true→Bd (Nc x) (Nc (ByteArray.size s)))∧(Kwe s x=true→Bd (Nc x) (Nc (ByteArray.size s))))∧Br (bif Kwe s x then Kln s x !=95 else false) (false=Yk s) (Z20 x∧∃(y:Nat),Sf s (V5 x y)∧Kjn y s∧ByteArray.size s-y<ByteArray.size s-x)) (true=Yk s)))=_).mp ?_
 delta Z11 Z20 V5 Kln Kle K04 K0w Kjn Kwe Br Iw Bd Sf Nc
 intro hb
 have e0:∀h:0<s.size,okL true s.data.toList=(Jux ((s.data.toList.getD 0 0).toNat:Int)&&okL false (s.data.toList.drop 1)):=fun h=>by
  have:=Dl h
  rw[List.drop_zero] at this
  rw[this,okL,J30]
  simp
 refine⟨fun h=> ?_,fun h=> ?_,fun h=> ?_⟩
 ·have h1:((s.size:Int)==0)=false:=by revert h;cases((s.size:Int)==0)<;>simp
  have:=beq_eq_false_iff_ne.1 h1
  exact⟨Int.le_refl _,by omega⟩
 ·unfold Yk
  by_cases h0:0<s.size
  ·rw[e0 h0]
   have h1:((s.size:Int)==0)=false:=beq_eq_false_iff_ne.2 (by omega)
   rw[h1] at h
   by_cases h2:(s.size:Int)≤24
   ·have h3:decide ((24:Int)<s.size)=false:=decide_eq_false (by omega)
    rw[h3] at h
    have h4:Jux ((s.data.toList.getD 0 0).toNat:Int)=false:=by simpa using h
    rw[h4];rfl
   ·rw[decide_eq_false h2];simp
  ·rw[decide_eq_false h0];simp
 ·have h1:((s.size:Int)==0)=false:=by revert h;cases((s.size:Int)==0)<;>simp
  rw[h1] at h
  have h2:decide ((24:Int)<s.size)=false:=by revert h;cases decide ((24:Int)<s.size)<;>simp
  rw[h2] at h
  have h3:Jux ((s.data.toList.getD 0 0).toNat:Int)=true:=by simpa using h
  have h0:0<s.size:=by have:=beq_eq_false_iff_ne.1 h1;omega
  have h24:(s.size:Int)≤24:=by have:=of_decide_eq_false h2;omega
  have en:Yk s=okL false (s.data.toList.drop 1):=by
   unfold Yk
   rw[e0 h0,h3,decide_eq_true h0,decide_eq_true h24];simp
  refine⟨(1:Nat),⟨rfl,rfl⟩,⟨by omega,by omega,en⟩,fun(k:Nat) hk=>⟨fun h=> ?_,fun h=> ?_⟩⟩
  ·have hlt:k<s.size:=by simpa using h
   rw[J3z]
   refine⟨⟨by omega,fun _=>by omega,fun _=>by omega⟩,fun h1=> ?_,fun h1=>⟨by omega,(k+1:Nat),⟨rfl,by simp⟩,⟨by omega,by omega, ?_⟩,by omega⟩⟩
   ·have h2:okB false ((s.data.toList.getD k 0).toNat:Int)=false:=by simpa using h1
    rw[hk.2.2,Dl hlt,okL,h2];rfl
   ·have h2:okB false ((s.data.toList.getD k 0).toNat:Int)=true:=by simpa using h1
    rw[hk.2.2,Dl hlt,okL,h2];rfl
  ·have hlt:¬k<s.size:=by simpa using h
   have:k=s.size:=by omega
   rw[hk.2.2,this,List.drop_eq_nil_of_le (by simp)];rfl
abbrev W13 [Sx.Dr]:=W12.add Kp3
abbrev Jy4:Sch:= .prod sI .bool
abbrev J98:Sch:= .prod (.list 251 Jy4) (.prod sI (.prod .fnc (.prod .fnc .fnc)))
abbrev K1k:=List (Int×Bool)×Int×Option Nat×Option Nat×Option Nat
abbrev Jz:ByteArray:=⟨⟨[117,110,100,111]⟩⟩
abbrev Ju:ByteArray:=⟨⟨[115,116,97,116,105,111,110]⟩⟩
abbrev K7:ByteArray:=⟨⟨[112,114,105,99,101]⟩⟩
abbrev Kk:ByteArray:=⟨⟨[111,114,100,101,114]⟩⟩
abbrev K0:ByteArray:=⟨⟨[109,101,116,101,114]⟩⟩
abbrev Vo:ByteArray:=⟨⟨[116,114,105,112]⟩⟩
abbrev Jv:ByteArray:=⟨⟨[111,117,116,97,103,101]⟩⟩
abbrev Jq:ByteArray:=⟨⟨[114,101,115,116,111,114,101]⟩⟩
abbrev Kb:ByteArray:=⟨⟨[112,101,114,109,105,116]⟩⟩
abbrev Ka:ByteArray:=⟨⟨[114,101,116,117,114,110]⟩⟩
abbrev Jh:ByteArray:=⟨⟨[115,101,116,116,108,101]⟩⟩
def Lr:List (ByteArray×K1k):=[(Jz,[],0,none,none,none),
 (Ju,[(0,false)],2,some 148,some 149,some 150),
 (K7,[(0,true)],2,some 152,some 153,some 150),
 (Kk,[(1,false),(0,true),(0,true)],4,some 154,some 155,some 156),
 (K0,[(1,true)],4,some 157,some 158,some 156),
 (Vo,[(1,true)],1,some 159,some 160,some 156),
 (Jv,[(2,false),(0,true)],4,some 161,some 162,some 163),
 (Jq,[(2,true)],1,some 164,some 165,some 163),
 (Kb,[(3,false),(2,true)],1,some 166,some 167,some 168),
 (Ka,[(3,true)],1,some 169,some 170,some 168),
 (Jh,[],2,some 171,some 172,none)]
def Kbp:Con:={args:=[aI],ress:=[(true,Jy4)],owns:=[],pre:=fun _=>[],spec:=fun(t,_)=>((t,false),())}
theorem Kpc [Sx.Dr]:Ok Tryz.prog 147 Kbp:=okW W13 Tryz.f147 na fun xx=>by
 obtain⟨(t:Int),_⟩:=xx
 refine(by kernel_rfl:((t,false)=(t,false))=_).mp ?_
 trivial
abbrev W14 [Sx.Dr]:=W13.add Kpc
def K57:Con:={args:=[aI],ress:=[(true,Jy4)],owns:=[],pre:=fun _=>[],spec:=fun(t,_)=>((t,true),())}
theorem Ko8 [Sx.Dr]:Ok Tryz.prog 151 K57:=okW W14 Tryz.f151 na fun xx=>by
 obtain⟨(t:Int),_⟩:=xx
 refine(by kernel_rfl:((t,true)=(t,true))=_).mp ?_
 trivial
abbrev W15 [Sx.Dr]:=W14.add Ko8
def J2m:Jme:={kT:=9,gk:=false,gv:=true,ks:= .str,vs:=J98,l:=Lr}
def Klv:=[((0:Int),true)]
def J8y:List (Int×Bool)×Int×Option Nat×Option Nat×Option Nat:=([],(0:Int),none,none,none)
def Khr:=(∀(k k':ByteArray),some (Lb k k')=some (List.beq (ByteArray.toList k) (ByteArray.toList k')))∧∀(k:ByteArray),true=true
theorem K37 [Sx.Dr]:wpFM Tryz.prog W15.g (na ()) (fun _=>na ()) (Sx.look ([]:List (Nat×Func))) Tryz.f80 J2m:=by
 refine(by kernel_rfl:(Khr∧Sf true ([(Jz,J8y),(Ju,[(0,false)],2,some 148,some 149,some 150),(K7,Klv,2,some 152,some 153,some 150),(Kk,(1,false)::(0,true)::Klv,4,some 154,some 155,some 156),(K0,[(1,true)],4,some 157,some 158,some 156),(Vo,[(1,true)],1,some 159,some 160,some 156),(Jv,(2,false)::Klv,4,some 161,some 162,some 163),(Jq,[(2,true)],1,some 164,some 165,some 163),(Kb,[(3,false),(2,true)],1,some 166,some 167,some 168),(Ka,[(3,true)],1,some 169,some 170,some 168),(Jh,[],2,some 171,some 172,none)]=Lr))=_).mp ?_
 delta Klv J8y Khr Sf Lb K0 Kk Jv Kb K7 Jq Ka Jh Ju Vo Jz
 exact⟨⟨fun _ _=>rfl,fun _=>rfl⟩,rfl,rfl⟩
theorem Km0 [Sx.Dr]:Ok Tryz.prog 80 (Jme.con J2m):=J15 (Jlc mixed W15.ok (by kernel_rfl) (by kernel_rfl) (U6 (l:=([]:List (Nat×Func))) (by simp)) (na ()) (fun _=>na ()) K37)
abbrev W16 [Sx.Dr]:=W15.add Km0
theorem Jc {α:Type} {l:List α} {k:Nat} {d:α} (h:k<l.length):l.getD k d∈l:=by
 simp[List.getD_eq_getElem?_getD,h]
theorem U3 {α:Type} {d:α} {l:List α} {k:Nat} (h:k<l.length):l.take k++[l.getD k d]=l.take (k+1):=by
 rw[List.take_succ_eq_append_getElem h,List.getD_eq_getElem?_getD,List.getElem?_eq_getElem h];rfl
abbrev Ja8 (T U:TypeId) (s:Sch) (l:List s.T) (r:Bool×Sch) (g:Bool) (q:Tup [(g,s)]→List Prop) (f:Tup [(g,s)]→r.2.T):Ann:={X:=Nat,σ:=fun k=>⟨3,[(1, .one (.fv 1)),(5, .one (.sl 2)),(8, .one (.sl 0)),(9, .one (.int .i64 l.length)),(10, .one (.int .i64 k))],[(0, .imm T s l),(1, .afn [(g,s)] r q f),(2, .own U r.2 ((l.take k).map fun x=>f (x,())))]⟩,inv:=fun k=>k≤l.length,mu:=fun k=>l.length-k}
def Kbe:Con:={args:=[.val false (.list 9 .str), .fn [tS] I],ress:=[(false, .list 26 sI)],owns:=[true],pre:=fun(l,(q,_),_)=>[l.length≤1000000,∀x∈l,Ul (q (x,()))],spec:=fun(l,(_,f),_)=>(l.map fun x=>f (x,()),())}
def Kbh:Con:={args:=[.val false (.list 3 sI), .fn [I] I],ress:=[(false, .list 26 sI)],owns:=[true],pre:=fun(l,(q,_),_)=>[l.length≤1000000,∀x∈l,Ul (q (x,()))],spec:=fun(l,(_,f),_)=>(l.map fun x=>f (x,()),())}
def J6w (a:Li) (b:Int):=b∈a
def J9e (a:Int×Unit→Int) (b:Nat) (c:Li):=List.map (fun(x:Int)=>a (x,PUnit.unit)) (List.take b c)
def Kkp (a:Li) (b:Int×Unit→List Prop):=∀(x:Int),J6w a x→Ul (b (x,PUnit.unit))
theorem Kpm [Sx.Dr]:Ok Tryz.prog 137 Kbh:=okW W16 Tryz.f137 (fun xx=>Xo (Ja8 3 26 sI xx.1 I false xx.2.1.1 xx.2.1.2)) fun xx=>by
 obtain⟨(l:List Int),⟨(q:Int×Unit→List Prop),(f:Int×Unit→Int)⟩,_⟩:=xx
 refine(by kernel_rfl:(Z47 l→Kkp l q→∃(x:Nat),Si (Ln l) (0=Nc x∧Sf l ((fun(x:Int×PUnit)=>q x)=q∧(fun(x:Int×PUnit)=>f x)=f∧List.length (J9e f x l)=0))∧x≤List.length l∧∀(x:Nat),x≤List.length l→Br (Z95 x l) (Z78 x l∧(Ul (q (Z15 l x,PUnit.unit))∧(List.length (J9e f x l)+1)*8≤140737488355328)∧Z20 x∧∃(y:Nat),Si (Ln l) (V5 x y∧Sf l ((fun(x:Int×PUnit)=>q x)=q∧(fun(x:Int×PUnit)=>f x)=f∧J9e f x l++[f (Z15 l x,PUnit.unit)]=J9e f y l))∧y≤List.length l∧Jxf l y x) (J9e f x l=List.map (fun(x:Int)=>f (x,PUnit.unit)) l))=_).mp ?_
 delta Z15 Z20 Z47 Z78 Z95 V5 J6w Jxf J9e Kkp Br Iw Bd Tw Sf Si Ln Nc
 intro hb hq
 refine⟨(0:Nat),⟨rfl,rfl,rfl,rfl,rfl,by simp⟩,Nat.zero_le _,fun(k:Nat) hk=>⟨fun h=> ?_,fun h=> ?_⟩⟩
 ·have hlt:k<l.length:=by simpa using h
  refine⟨by omega,⟨hq (l.getD k 0) (Jc hlt),by simp only[List.length_map,List.length_take];omega⟩,by omega,(k+1:Nat),⟨rfl,by simp,rfl,rfl,rfl, ?_⟩,by omega,by omega⟩
  rw[←U3 (d:=0) hlt,List.map_append];rfl
 ·have hlt:¬k<l.length:=by simpa using h
  rw[List.take_of_length_le (by omega)]
abbrev W17 [Sx.Dr]:=W16.add Kpm
def Jbb (a:Ls):=List.length a≤1000000
def J86 (a:Bt×Unit→Int) (b:Nat) (c:Ls):=List.map (fun(x:ByteArray)=>a (x,PUnit.unit)) (List.take b c)
def Jgv (a:Ls) (b:Bt):=b∈a
theorem Kpp [Sx.Dr]:Ok Tryz.prog 134 Kbe:=okW W17 Tryz.f134 (fun xx=>Xo (Ja8 9 26 .str xx.1 I false xx.2.1.1 xx.2.1.2)) fun xx=>by
 obtain⟨(l:List ByteArray),⟨(q:ByteArray×Unit→List Prop),(f:ByteArray×Unit→Int)⟩,_⟩:=xx
 refine(by kernel_rfl:(Jbb l→(∀(x:ByteArray),Jgv l x→Ul (q (x,PUnit.unit)))→∃(x:Nat),Si (Ln l) (0=Nc x∧Sf l ((fun(x:ByteArray×PUnit)=>q x)=q∧(fun(x:ByteArray×PUnit)=>f x)=f∧List.length (J86 f x l)=0))∧x≤List.length l∧∀(x:Nat),x≤List.length l→Br (decide (Nc x<Ln l)) (Tw (Bd (Nc x) (Ln l))∧(Ul (q (List.getD l x B0,PUnit.unit))∧(List.length (J86 f x l)+1)*8≤140737488355328)∧Z20 x∧∃(y:Nat),Si (Ln l) (V5 x y∧Sf l ((fun(x:ByteArray×PUnit)=>q x)=q∧(fun(x:ByteArray×PUnit)=>f x)=f∧J86 f x l++[f (List.getD l x B0,PUnit.unit)]=J86 f y l))∧y≤List.length l∧List.length l-y<List.length l-x) (J86 f x l=List.map (fun(x:ByteArray)=>f (x,PUnit.unit)) l))=_).mp ?_
 delta Z20 V5 Jbb J86 Jgv Br Iw Bd Tw Sf Si Ln Nc B0
 intro hb hq
 refine⟨(0:Nat),⟨rfl,rfl,rfl,rfl,rfl,by simp⟩,Nat.zero_le _,fun(k:Nat) hk=>⟨fun h=> ?_,fun h=> ?_⟩⟩
 ·have hlt:k<l.length:=by simpa using h
  refine⟨by omega,⟨hq (l.getD k (⟨⟨[]⟩⟩:ByteArray)) (Jc hlt),by simp only[List.length_map,List.length_take];omega⟩,by omega,(k+1:Nat),⟨rfl,by simp,rfl,rfl,rfl, ?_⟩,by omega,by omega⟩
  rw[←U3 (d:=(⟨⟨[]⟩⟩:ByteArray)) hlt,List.map_append];rfl
 ·have hlt:¬k<l.length:=by simpa using h
  rw[List.take_of_length_le (by omega)]
abbrev W18 [Sx.Dr]:=W17.add Kpp
def Krf:Con:={args:=[aS],ress:=[I],owns:=[],pre:=fun(s,_)=>[s.size≤1000000],spec:=fun(s,_)=>(bif Yk s then 0 else 8,())}
theorem Kpo [Sx.Dr]:Ok Tryz.prog 135 Krf:=okW W18 Tryz.f135 na fun xx=>by
 obtain⟨(s:ByteArray),_⟩:=xx
 refine(by kernel_rfl:(ByteArray.size s≤(1000000:Nat)→ByteArray.size s≤(1000000:Nat)∧(bif !Yk s then(8:Int) else(0:Int))=bif Yk s then(0:Int) else(8:Int))=_).mp ?_
 exact fun h=>⟨h,by cases Yk s<;>rfl⟩
abbrev W19 [Sx.Dr]:=W18.add Kpo
def Kre:Con:={args:=[aI],ress:=[I],owns:=[],pre:=fun _=>[],spec:=fun(n,_)=>(Kf n 0 999999999,())}
theorem Kpl [Sx.Dr]:Ok Tryz.prog 138 Kre:=okW W19 Tryz.f138 na fun xx=>by
 obtain⟨(n:Int),_⟩:=xx
 refine(by kernel_rfl:(Klm n)=_).mp ?_
 delta Z69 Klm
 rfl
abbrev W20 [Sx.Dr]:=W19.add Kpl
abbrev Ev:=Int×ByteArray×List ByteArray×List Int×ByteArray
abbrev sEv:Sch:= .prod sI (.prod .str (.prod (.list 9 .str) (.prod (.list 3 sI) .str)))
abbrev aEv:AK:= .val true sEv
def Ji (k:ByteArray):K1k:=(Uh .str k Lr).getD ([],0,none,none,none)
def Ys (k:ByteArray):Bool:=(Uh .str k Lr).isSome
def Jb (e:Ev):Int:=
 if Kf e.1 1 1000≠0 then Kf e.1 1 1000 else
 bif Ys e.2.1 then(if e.2.2.1.length=(Ji e.2.1).1.length∧(e.2.2.2.1.length:Int)=(Ji e.2.1).2.1 then
  Jf [Jf (e.2.2.1.map fun s=>bif Yk s then 0 else 8),Jf (e.2.2.2.1.map fun n=>Kf n 0 999999999),bif decide (0<e.2.2.2.2.size) then 1 else 0] else 2) else 13
theorem bn1 {b c:Bool} (h:(bif b then true else c)=false):b=false∧c=false:=by cases b<;>simp_all
def Kb4:Con:={args:=[aEv],ress:=[I],owns:=[],pre:=fun(e,_)=>[e.2.2.1.length≤1000000,e.2.2.2.1.length≤1000000,∀s∈e.2.2.1,s.size≤1000000],spec:=fun(e,_)=>(Jb e,())}
def K0d (a:Ls):=List.map (fun(x:ByteArray)=>match Yk x with|true=>(0:Int)|false=>(8:Int)) a
def Jhr (a:Ls):=∀(s:ByteArray),Jgv a s→ByteArray.size s≤1000000
def Kyq (a:Bt):=Uh Sch.str a Lr
def Kus (a:Bt):=Option.getD (Kyq a) J8y
theorem K1r [Sx.Dr]:Ok Tryz.prog 64 Kb4:=okW W20 Tryz.f64 na fun xx=>by
 obtain⟨⟨(n:Int),(k:ByteArray),(ns:List ByteArray),(vs:List Int),(t:ByteArray)⟩,_⟩:=xx
 refine(by kernel_rfl:(Jbb ns→Z47 vs→Jhr ns→Br (Kf n 1 (1000:Int) !=0) (Kf n 1 1000=Jb (n,k,ns,vs,t)) (Br (!Option.isSome (Kyq k)) (13=Jb (n,k,ns,vs,t)) (Br (bif Ln ns !=Ln (Kus k).1 then true else Ln vs !=(Kus k).2.1) (2=Jb (n,k,ns,vs,t)) ((Jbb ns∧Jhr ns)∧(Z47 vs∧∀(x:Int),J6w vs x→True)∧(List.length (K0d ns)≤1000000∧List.length (List.map (fun(x:Int)=>Z69 x) vs)≤1000000∧3≤1000000)∧Jf [Jf (K0d ns),Jf (List.map (fun(x:Int)=>Z69 x) vs),bif !Lb t B0 then 1 else 0]=Jb (n,k,ns,vs,t)))))=_).mp ?_
 delta Z47 Z69 Jbb J6w Jgv J8y K0d Jhr Kyq Kus Br Ln B0 Lb
 intro h1 h2 h3
 unfold Jb Ji Ys
 dsimp only
 refine⟨fun h=> ?_,fun h=> ?_⟩
 ·rw[if_pos (bne_iff_ne.1 h)]
 rw[if_neg (by have:=bne_eq_false_iff_eq.1 h;simpa using this)]
 refine⟨fun h4=> ?_,fun h4=> ?_⟩
 ·rw[Bool.not_eq_true'] at h4
  rw[h4];rfl
 rw[Bool.not_eq_false'] at h4
 rw[h4,cond_true]
 refine⟨fun h5=> ?_,fun h5=>⟨⟨h1,h3⟩,⟨h2,fun _ _=>trivial⟩,⟨by simpa using h1,by simpa using h2,by decide⟩, ?_⟩⟩
 ·rw[if_neg]
  rintro⟨e1,e2⟩
  rw[e1,e2] at h5
  simp at h5
 ·have h6:=bn1 h5
  rw[if_pos ⟨Int.ofNat_inj.1 (bne_eq_false_iff_eq.1 h6.1),bne_eq_false_iff_eq.1 h6.2⟩,Ji4]
  rfl
abbrev W21 [Sx.Dr]:=W20.add K1r
abbrev Hi:Sch:= .prod sI sI
abbrev Sta:=ByteArray×Int×Int
abbrev Ord:=ByteArray×ByteArray×ByteArray×(Int×Int)×Int×Int×Int
abbrev Met:=ByteArray×Int×Int×Int
abbrev Out:=ByteArray×ByteArray×(Int×Int)×Int
abbrev Per:=ByteArray×ByteArray×Bool
abbrev Dp:Sch:= .prod .str (.prod sI sI)
abbrev Hm:Sch:= .prod .str (.prod .str (.prod .str (.prod Hi (.prod sI (.prod sI sI)))))
abbrev Fb:Sch:= .prod .str (.prod sI (.prod sI sI))
abbrev X4:Sch:= .prod .str (.prod .str (.prod Hi sI))
abbrev Zw:Sch:= .prod .str (.prod .str .bool)
def K1z:Con:={args:=[.val true Dp],ress:=[tS],owns:=[],pre:=fun _=>[],spec:=fun(x,_)=>(x.1,())}
def K11:Con:={args:=[.val true Hm],ress:=[tS],owns:=[],pre:=fun _=>[],spec:=fun(x,_)=>(x.1,())}
def K1y:Con:={args:=[.val true X4],ress:=[tS],owns:=[],pre:=fun _=>[],spec:=fun(x,_)=>(x.1,())}
def K10:Con:={args:=[.val true Zw],ress:=[tS],owns:=[],pre:=fun _=>[],spec:=fun(x,_)=>(x.1,())}
theorem Kl5 [Sx.Dr] (x:Sta):wpF Tryz.prog W21.g (na ()) Tryz.f328 K1z (x,()):=by
 refine(by kernel_rfl:(x.1=x.1)=_).mp ?_
 rfl
theorem Km3 [Sx.Dr]:Ok Tryz.prog 328 K1z:=Vr mixed W21.ok (by kernel_rfl) (by kernel_rfl) na fun xx=>Kl5 xx.1
abbrev W22 [Sx.Dr]:=W21.add Km3
theorem Kl4 [Sx.Dr] (x:Ord):wpF Tryz.prog W22.g (na ()) Tryz.f329 K11 (x,()):=by
 refine(by kernel_rfl:(x.1=x.1)=_).mp ?_
 rfl
theorem Km2 [Sx.Dr]:Ok Tryz.prog 329 K11:=Vr mixed W22.ok (by kernel_rfl) (by kernel_rfl) na fun xx=>Kl4 xx.1
abbrev W23 [Sx.Dr]:=W22.add Km2
theorem Kmd [Sx.Dr] (x:Out):wpF Tryz.prog W23.g (na ()) Tryz.f204 K1y (x,()):=by
 refine(by kernel_rfl:(x.1=x.1)=_).mp ?_
 rfl
theorem Kny [Sx.Dr]:Ok Tryz.prog 204 K1y:=Vr mixed W23.ok (by kernel_rfl) (by kernel_rfl) na fun xx=>Kmd xx.1
abbrev W24 [Sx.Dr]:=W23.add Kny
theorem Kmc [Sx.Dr] (x:Per):wpF Tryz.prog W24.g (na ()) Tryz.f208 K10 (x,()):=by
 refine(by kernel_rfl:(x.1=x.1)=_).mp ?_
 rfl
theorem Knu [Sx.Dr]:Ok Tryz.prog 208 K10:=Vr mixed W24.ok (by kernel_rfl) (by kernel_rfl) na fun xx=>Kmc xx.1
abbrev W25 [Sx.Dr]:=W24.add Knu
def Ja:ByteArray:=⟨⟨[]⟩⟩
def Vn {α:Type} (p:α→Bool):List α→Nat→Int
 |[],_=> -1
 |x::r,k=>if p x=true then(k:Int) else Vn p r (k+1)
theorem V9 {α:Type} {p:α→Bool} {l:List α} {k:Nat} {d:α} (h:k<l.length):Vn p (l.drop k) k=if p (l.getD k d)=true then(k:Int) else Vn p (l.drop (k+1)) (k+1):=by
 rw[List.drop_eq_getElem_cons h]
 simp[Vn,List.getD_eq_getElem?_getD,h]
abbrev Jl9 (T:TypeId) (s:Sch) (g:Bool) (l:List s.T) (q:Tup [(g,s)]→List Prop) (f:Tup [(g,s)]→Bool):Ann:={X:=Nat,σ:=fun k=>⟨2,[(0, .one (.sl 0)),(1, .one (.fv 1)),(7, .one (.int .i64 l.length)),(8, .one (.int .i64 k))],[(0, .imm T s l),(1, .afn [(g,s)] Bo q f)]⟩,inv:=fun k=>k≤l.length∧Vn (fun x=>f (x,())) l 0=Vn (fun x=>f (x,())) (l.drop k) k,mu:=fun k=>l.length-k}
def Kbn (T:TypeId) (s:Sch) (g:Bool):Con:={args:=[.val false (.list T s), .fn [(g,s)] Bo],ress:=[I],owns:=[],pre:=fun(l,(q,_),_)=>[l.length≤1000000,∀x∈l,Ul (q (x,()))],spec:=fun(l,(_,f),_)=>(Vn (fun x=>f (x,())) l 0,())}
def Jsm:Sta:=(Ja,0,0)
def K14:Con:={args:=[.val true Dp, .ref 9 .str],ress:=[Bo],owns:=[],pre:=fun _=>[],spec:=fun(x,s,_)=>(x.1.toList==s.toList,())}
theorem Kmb [Sx.Dr] (x:Sta) (s:ByteArray):wpF Tryz.prog W25.g (na ()) Tryz.f229 K14 (x,s,()):=by
 refine(by kernel_rfl:(Lb x.1 s=Lb x.1 s)=_).mp ?_
 delta Lb
 rfl
theorem Knq [Sx.Dr]:Ok Tryz.prog 229 K14:=Vr mixed W25.ok (by kernel_rfl) (by kernel_rfl) na fun xx=>Kmb xx.1 xx.2.1
abbrev W26 [Sx.Dr]:=W25.add Knq
def Z10:=(B0,(0:Int),(0:Int))
def Z55 (a:List Sta):=List.length a≤1000000
def Z68:=(-1)
def Kzl (a:List Sta) (b:Nat):=(((List.getD a b Z10).1,E2 (List.getD a b Z10).2),PUnit.unit)
def Ki4 (a:Nat) (b:List Sta) (c:Sta×Unit→Bool):=a≤List.length b∧Vn (fun(x:Sta)=>c (x,PUnit.unit)) b 0=Vn (fun(x:Sta)=>c (x,PUnit.unit)) (List.drop a b) a
theorem Knr [Sx.Dr]:Ok Tryz.prog 228 (Kbn 127 Dp true):=okW W26 Tryz.f228 (fun xx=>Xo (Jl9 127 Dp true xx.1 xx.2.1.1 xx.2.1.2)) fun xx=>by
 obtain⟨(l:List Sta),⟨(q:Sta×Unit→List Prop),(f:Sta×Unit→Bool)⟩,_⟩:=xx
 refine(by kernel_rfl:(Z55 l→(∀(x:Sta),x∈l→Ul (q (x,PUnit.unit)))→∃(x:Nat),Si (Ln l) (0=Nc x∧Sf l ((fun(x:Sta×PUnit)=>q x)=q∧(fun(x:Sta×PUnit)=>f x)=f))∧Ki4 x l f∧∀(x:Nat),Ki4 x l f→Br (decide (Nc x<Ln l)) (T2 (Bd (Nc x) (Ln l)) (Ul (q (Kzl l x)))∧Br (f (Kzl l x)) (Nc x=Vn (fun(x:Sta)=>f (x,PUnit.unit)) l 0) (Z20 x∧∃(y:Nat),Si (Ln l) (V5 x y∧Sf l ((fun(x:Sta×PUnit)=>q x)=q∧(fun(x:Sta×PUnit)=>f x)=f))∧Ki4 y l f∧List.length l-y<List.length l-x)) (Z68=Vn (fun(x:Sta)=>f (x,PUnit.unit)) l 0))=_).mp ?_
 delta Z10 Z20 Z55 Z68 V5 Kzl Ki4 Br Iw Bd T2 Sf Si Ln Nc B0 E2
 intro hb hq
 refine⟨(0:Nat),⟨rfl,rfl,rfl,rfl,rfl⟩,⟨Nat.zero_le _,rfl⟩,fun(k:Nat) hk=>⟨fun h=> ?_,fun h=> ?_⟩⟩
 ·have hlt:k<l.length:=by simpa using h
  have hd:=V9 (p:=fun x=>f (x,())) (d:=Jsm) hlt
  refine⟨⟨by omega,by omega,hq (l.getD k Jsm) (Jc hlt)⟩,fun h1=> ?_,fun h1=>⟨by omega,(k+1:Nat),⟨rfl,rfl,rfl,by simp,rfl⟩,⟨by omega, ?_⟩,by omega⟩⟩
  ·rw[hk.2,hd,if_pos (show f (l.getD k Jsm,())=true from h1)]
  ·rw[hk.2,hd,if_neg (by rw[show f (l.getD k Jsm,())=false from h1];simp)]
 ·have hlt:¬k<l.length:=by simpa using h
  have:k=l.length:=by omega
  rw[hk.2,this,List.drop_length];rfl
abbrev W27 [Sx.Dr]:=W26.add Knr
def Jx (l:List Sta) (s:ByteArray):Int:=Vn (fun x=>x.1.toList==s.toList) l 0
def Kbt:Con:={args:=[.val false (.list 127 Dp),aS],ress:=[I],owns:=[],pre:=fun(l,_)=>[l.length≤1000000],spec:=fun(l,s,_)=>(Jx l s,())}
theorem Kpg [Sx.Dr]:Ok Tryz.prog 143 Kbt:=okW W27 Tryz.f143 na fun xx=>by
 obtain⟨(l:List Sta),(s:ByteArray),_⟩:=xx
 refine(by kernel_rfl:(Z55 l→(Z55 l∧∀(x:Sta),x∈l→True)∧Vn (fun(x:Sta)=>List.beq (ByteArray.toList x.1) (ByteArray.toList s)) l 0=Jx l s)=_).mp ?_
 delta Z55
 exact fun h=>⟨⟨h,fun _ _=>trivial⟩,rfl⟩
abbrev W28 [Sx.Dr]:=W27.add Kpg
def Kl:Ord:=(Ja,Ja,Ja,(0,0),0,0,0)
def K16:Con:={args:=[.val true Hm, .ref 9 .str],ress:=[Bo],owns:=[],pre:=fun _=>[],spec:=fun(x,s,_)=>(x.1.toList==s.toList,())}
theorem Kma [Sx.Dr] (x:Ord) (s:ByteArray):wpF Tryz.prog W28.g (na ()) Tryz.f231 K16 (x,s,()):=by
 refine(by kernel_rfl:(Lb x.1 s=Lb x.1 s)=_).mp ?_
 delta Lb
 rfl
theorem Kno [Sx.Dr]:Ok Tryz.prog 231 K16:=Vr mixed W28.ok (by kernel_rfl) (by kernel_rfl) na fun xx=>Kma xx.1 xx.2.1
abbrev W29 [Sx.Dr]:=W28.add Kno
def Z56 (a:List Ord):=List.length a≤1000000
def Z70:=((0:Int),(0:Int),(0:Int))
def Jgd:=(B0,B0,B0,((0:Int),(0:Int)),Z70)
def Kfc (a:List Ord) (b:Nat):=List.getD a b Jgd
def Kkr (a:List Ord) (b:Nat):=(Kfc a b).2
def Kkq (a:List Ord) (b:Ord×Unit→List Prop):=∀(x:Ord),x∈a→Ul (b (x,PUnit.unit))
def Kfa (a:List Ord) (b:Nat):=(Kfc a b).1
def Kkk (a:List Ord) (b:Nat):=(Kkr a b).2
def Kki (a:List Ord) (b:Nat):=(Kkk a b).2
def Kke (a:List Ord) (b:Nat):=(Kki a b).2
def Ki6 (a:Nat) (b:List Ord) (c:Ord×Unit→Bool):=a≤List.length b∧Vn (fun(x:Ord)=>c (x,PUnit.unit)) b 0=Vn (fun(x:Ord)=>c (x,PUnit.unit)) (List.drop a b) a
def Kc9 (a:List Ord) (b:Nat):=((Kfa a b,(Kkr a b).1,(Kkk a b).1,E2 (Kki a b).1,(Kke a b).1,E2 (Kke a b).2),PUnit.unit)
def Kgp (a:Ord×Unit→List Prop) (b:List Ord) (c:Nat):=Ul (a (Kc9 b c))
theorem Knp [Sx.Dr]:Ok Tryz.prog 230 (Kbn 130 Hm true):=okW W29 Tryz.f230 (fun xx=>Xo (Jl9 130 Hm true xx.1 xx.2.1.1 xx.2.1.2)) fun xx=>by
 obtain⟨(l:List Ord),⟨(q:Ord×Unit→List Prop),(f:Ord×Unit→Bool)⟩,_⟩:=xx
 refine(by kernel_rfl:(Z56 l→Kkq l q→∃(x:Nat),Si (Ln l) (0=Nc x∧Sf l ((fun(x:Ord×PUnit)=>q x)=q∧(fun(x:Ord×PUnit)=>f x)=f))∧Ki6 x l f∧∀(x:Nat),Ki6 x l f→Br (decide (Nc x<Ln l)) (T2 (Bd (Nc x) (Ln l)) (Kgp q l x)∧Br (f (Kc9 l x)) (Nc x=Vn (fun(x:Ord)=>f (x,PUnit.unit)) l 0) (Z20 x∧∃(y:Nat),Si (Ln l) (V5 x y∧Sf l ((fun(x:Ord×PUnit)=>q x)=q∧(fun(x:Ord×PUnit)=>f x)=f))∧Ki6 y l f∧List.length l-y<List.length l-x)) (Z68=Vn (fun(x:Ord)=>f (x,PUnit.unit)) l 0))=_).mp ?_
 delta Z20 Z56 Z68 Z70 V5 Jgd Kfc Kkr Kkq Kfa Kkk Kki Kke Ki6 Kc9 Kgp Br Iw Bd T2 Sf Si Ln Nc B0 E2
 intro hb hq
 refine⟨(0:Nat),⟨rfl,rfl,rfl,rfl,rfl⟩,⟨Nat.zero_le _,rfl⟩,fun(k:Nat) hk=>⟨fun h=> ?_,fun h=> ?_⟩⟩
 ·have hlt:k<l.length:=by simpa using h
  have hd:=V9 (p:=fun x=>f (x,())) (d:=Kl) hlt
  refine⟨⟨by omega,by omega,hq (l.getD k Kl) (Jc hlt)⟩,fun h1=> ?_,fun h1=>⟨by omega,(k+1:Nat),⟨rfl,rfl,rfl,by simp,rfl⟩,⟨by omega, ?_⟩,by omega⟩⟩
  ·rw[hk.2,hd,if_pos (show f (l.getD k Kl,())=true from h1)]
  ·rw[hk.2,hd,if_neg (by rw[show f (l.getD k Kl,())=false from h1];simp)]
 ·have hlt:¬k<l.length:=by simpa using h
  have:k=l.length:=by omega
  rw[hk.2,this,List.drop_length];rfl
abbrev W30 [Sx.Dr]:=W29.add Knp
def Ku (l:List Ord) (s:ByteArray):Int:=Vn (fun x=>x.1.toList==s.toList) l 0
def Kbv:Con:={args:=[.val false (.list 130 Hm),aS],ress:=[I],owns:=[],pre:=fun(l,_)=>[l.length≤1000000],spec:=fun(l,s,_)=>(Ku l s,())}
theorem Kpf [Sx.Dr]:Ok Tryz.prog 144 Kbv:=okW W30 Tryz.f144 na fun xx=>by
 obtain⟨(l:List Ord),(s:ByteArray),_⟩:=xx
 refine(by kernel_rfl:(Z56 l→(Z56 l∧∀(x:Ord),x∈l→True)∧Vn (fun(x:Ord)=>List.beq (ByteArray.toList x.1) (ByteArray.toList s)) l 0=Ku l s)=_).mp ?_
 delta Z56
 exact fun h=>⟨⟨h,fun _ _=>trivial⟩,rfl⟩
abbrev W31 [Sx.Dr]:=W30.add Kpf
def V8:Out:=(Ja,Ja,(0,0),0)
def K13:Con:={args:=[.val true X4, .ref 9 .str],ress:=[Bo],owns:=[],pre:=fun _=>[],spec:=fun(x,s,_)=>(x.1.toList==s.toList,())}
theorem Kl9 [Sx.Dr] (x:Out) (s:ByteArray):wpF Tryz.prog W31.g (na ()) Tryz.f233 K13 (x,s,()):=by
 refine(by kernel_rfl:(Lb x.1 s=Lb x.1 s)=_).mp ?_
 delta Lb
 rfl
theorem Knm [Sx.Dr]:Ok Tryz.prog 233 K13:=Vr mixed W31.ok (by kernel_rfl) (by kernel_rfl) na fun xx=>Kl9 xx.1 xx.2.1
abbrev W32 [Sx.Dr]:=W31.add Knm
def Z14 (a:Nat) (b:List Out):=Bd (Nc a) (Ln b)
def Z54 (a:List Out):=List.length a≤1000000
def Js0 (a:Nat) (b:List Out):=decide (Nc a<Ln b)
def Jc9:=(B0,B0,((0:Int),(0:Int)),(0:Int))
def Jyf (a:List Out) (b c:Nat):=List.length a-b<List.length a-c
def J01 (a:List Out) (b:Nat):=List.getD a b Jc9
def J00 (a:List Out) (b:Nat):=(J01 a b).1
def J20 (a:List Out) (b:Nat):=(J01 a b).2.2
def J2x (a:List Out) (b:Out×Unit→List Prop):=∀(x:Out),x∈a→Ul (b (x,PUnit.unit))
def Ki3 (a:Nat) (b:List Out) (c:Out×Unit→Bool):=a≤List.length b∧Vn (fun(x:Out)=>c (x,PUnit.unit)) b 0=Vn (fun(x:Out)=>c (x,PUnit.unit)) (List.drop a b) a
def J8d (a:List Out) (b:Nat):=(J00 a b,(J01 a b).2.1,E2 (J20 a b).1,(J20 a b).2)
def J2u (a:List Out) (b:Nat):=(J8d a b,PUnit.unit)
def Kg3 (a:Out×Unit→Bool) (b:List Out) (c:Nat):=a (J2u b c)
def J2t (a:Out×Unit→List Prop) (b:List Out) (c:Nat):=Ul (a (J2u b c))
theorem Knn [Sx.Dr]:Ok Tryz.prog 232 (Kbn 188 X4 true):=okW W32 Tryz.f232 (fun xx=>Xo (Jl9 188 X4 true xx.1 xx.2.1.1 xx.2.1.2)) fun xx=>by
 obtain⟨(l:List Out),⟨(q:Out×Unit→List Prop),(f:Out×Unit→Bool)⟩,_⟩:=xx
 refine(by kernel_rfl:(Z54 l→J2x l q→∃(x:Nat),Si (Ln l) (0=Nc x∧Sf l ((fun(x:Out×PUnit)=>q x)=q∧(fun(x:Out×PUnit)=>f x)=f))∧Ki3 x l f∧∀(x:Nat),Ki3 x l f→Br (Js0 x l) (T2 (Z14 x l) (J2t q l x)∧Br (Kg3 f l x) (Nc x=Vn (fun(x:Out)=>f (x,PUnit.unit)) l 0) (Z20 x∧∃(y:Nat),Si (Ln l) (V5 x y∧Sf l ((fun(x:Out×PUnit)=>q x)=q∧(fun(x:Out×PUnit)=>f x)=f))∧Ki3 y l f∧Jyf l y x)) (Z68=Vn (fun(x:Out)=>f (x,PUnit.unit)) l 0))=_).mp ?_
 delta Z14 Z20 Z54 Z68 V5 Js0 Jc9 Jyf J01 J00 J20 J2x Ki3 J8d J2u Kg3 J2t Br Iw Bd T2 Sf Si Ln Nc B0 E2
 intro hb hq
 refine⟨(0:Nat),⟨rfl,rfl,rfl,rfl,rfl⟩,⟨Nat.zero_le _,rfl⟩,fun(k:Nat) hk=>⟨fun h=> ?_,fun h=> ?_⟩⟩
 ·have hlt:k<l.length:=by simpa using h
  have hd:=V9 (p:=fun x=>f (x,())) (d:=V8) hlt
  refine⟨⟨by omega,by omega,hq (l.getD k V8) (Jc hlt)⟩,fun h1=> ?_,fun h1=>⟨by omega,(k+1:Nat),⟨rfl,rfl,rfl,by simp,rfl⟩,⟨by omega, ?_⟩,by omega⟩⟩
  ·rw[hk.2,hd,if_pos (show f (l.getD k V8,())=true from h1)]
  ·rw[hk.2,hd,if_neg (by rw[show f (l.getD k V8,())=false from h1];simp)]
 ·have hlt:¬k<l.length:=by simpa using h
  have:k=l.length:=by omega
  rw[hk.2,this,List.drop_length];rfl
abbrev W33 [Sx.Dr]:=W32.add Knn
def J5 (l:List Out) (s:ByteArray):Int:=Vn (fun x=>x.1.toList==s.toList) l 0
def Kbs:Con:={args:=[.val false (.list 188 X4),aS],ress:=[I],owns:=[],pre:=fun(l,_)=>[l.length≤1000000],spec:=fun(l,s,_)=>(J5 l s,())}
def Kld (a:List Out):=∀(x:Out),x∈a→True
theorem Kpe [Sx.Dr]:Ok Tryz.prog 145 Kbs:=okW W33 Tryz.f145 na fun xx=>by
 obtain⟨(l:List Out),(s:ByteArray),_⟩:=xx
 refine(by kernel_rfl:(Z54 l→(Z54 l∧Kld l)∧Vn (fun(x:Out)=>List.beq (ByteArray.toList x.1) (ByteArray.toList s)) l 0=J5 l s)=_).mp ?_
 delta Z54 Kld
 exact fun h=>⟨⟨h,fun _ _=>trivial⟩,rfl⟩
abbrev W34 [Sx.Dr]:=W33.add Kpe
def Jix:Per:=(Ja,Ja,false)
def K15:Con:={args:=[.val true Zw, .ref 9 .str],ress:=[Bo],owns:=[],pre:=fun _=>[],spec:=fun(x,s,_)=>(x.1.toList==s.toList,())}
theorem Kl8 [Sx.Dr] (x:Per) (s:ByteArray):wpF Tryz.prog W34.g (na ()) Tryz.f235 K15 (x,s,()):=by
 refine(by kernel_rfl:(Lb x.1 s=Lb x.1 s)=_).mp ?_
 delta Lb
 rfl
theorem Knk [Sx.Dr]:Ok Tryz.prog 235 K15:=Vr mixed W34.ok (by kernel_rfl) (by kernel_rfl) na fun xx=>Kl8 xx.1 xx.2.1
abbrev W35 [Sx.Dr]:=W34.add Knk
def Z45 (a:List Per):=List.length a≤1000000
def Z94 (a:Nat) (b:List Per):=decide (Nc a<Ln b)
def J28 (a:List Per) (b:Nat):=(List.getD a b (B0,B0,false)).2
def J04 (a:List Per) (b c:Nat):=List.length a-b<List.length a-c
def J8v (a:List Per) (b:Per×Unit→List Prop):=∀(x:Per),x∈a→Ul (b (x,PUnit.unit))
def Ke2 (a:List Per) (b:Nat):=((List.getD a b (B0,B0,false)).1,E2 (J28 a b))
def J8t (a:List Per) (b:Nat):=(Ke2 a b,PUnit.unit)
def Kjp (a:Per×Unit→Bool) (b:List Per) (c:Nat):=a (J8t b c)
def J8s (a:Per×Unit→List Prop) (b:List Per) (c:Nat):=Ul (a (J8t b c))
def Ki5 (a:Nat) (b:List Per) (c:Per×Unit→Bool):=a≤List.length b∧Vn (fun(x:Per)=>c (x,PUnit.unit)) b 0=Vn (fun(x:Per)=>c (x,PUnit.unit)) (List.drop a b) a
theorem Knl [Sx.Dr]:Ok Tryz.prog 234 (Kbn 235 Zw true):=okW W35 Tryz.f234 (fun xx=>Xo (Jl9 235 Zw true xx.1 xx.2.1.1 xx.2.1.2)) fun xx=>by
 obtain⟨(l:List Per),⟨(q:Per×Unit→List Prop),(f:Per×Unit→Bool)⟩,_⟩:=xx
 refine(by kernel_rfl:(Z45 l→J8v l q→∃(x:Nat),Si (Ln l) (0=Nc x∧Sf l ((fun(x:Per×PUnit)=>q x)=q∧(fun(x:Per×PUnit)=>f x)=f))∧Ki5 x l f∧∀(x:Nat),Ki5 x l f→Br (Z94 x l) (T2 (Bd (Nc x) (Ln l)) (J8s q l x)∧Br (Kjp f l x) (Nc x=Vn (fun(x:Per)=>f (x,PUnit.unit)) l 0) (Z20 x∧∃(y:Nat),Si (Ln l) (V5 x y∧Sf l ((fun(x:Per×PUnit)=>q x)=q∧(fun(x:Per×PUnit)=>f x)=f))∧Ki5 y l f∧J04 l y x)) (Z68=Vn (fun(x:Per)=>f (x,PUnit.unit)) l 0))=_).mp ?_
 delta Z20 Z45 Z68 Z94 V5 J28 J04 J8v Ke2 J8t Kjp J8s Ki5 Br Iw Bd T2 Sf Si Ln Nc B0 E2
 intro hb hq
 refine⟨(0:Nat),⟨rfl,rfl,rfl,rfl,rfl⟩,⟨Nat.zero_le _,rfl⟩,fun(k:Nat) hk=>⟨fun h=> ?_,fun h=> ?_⟩⟩
 ·have hlt:k<l.length:=by simpa using h
  have hd:=V9 (p:=fun x=>f (x,())) (d:=Jix) hlt
  refine⟨⟨by omega,by omega,hq (l.getD k Jix) (Jc hlt)⟩,fun h1=> ?_,fun h1=>⟨by omega,(k+1:Nat),⟨rfl,rfl,rfl,by simp,rfl⟩,⟨by omega, ?_⟩,by omega⟩⟩
  ·rw[hk.2,hd,if_pos (show f (l.getD k Jix,())=true from h1)]
  ·rw[hk.2,hd,if_neg (by rw[show f (l.getD k Jix,())=false from h1];simp)]
 ·have hlt:¬k<l.length:=by simpa using h
  have:k=l.length:=by omega
  rw[hk.2,this,List.drop_length];rfl
abbrev W36 [Sx.Dr]:=W35.add Knl
def Uz (l:List Per) (s:ByteArray):Int:=Vn (fun x=>x.1.toList==s.toList) l 0
def Kbu:Con:={args:=[.val false (.list 235 Zw),aS],ress:=[I],owns:=[],pre:=fun(l,_)=>[l.length≤1000000],spec:=fun(l,s,_)=>(Uz l s,())}
def Kjt (a:List Per):=Z45 a∧∀(x:Per),x∈a→True
theorem Kpd [Sx.Dr]:Ok Tryz.prog 146 Kbu:=okW W36 Tryz.f146 na fun xx=>by
 obtain⟨(l:List Per),(s:ByteArray),_⟩:=xx
 refine(by kernel_rfl:(Z45 l→Kjt l∧Vn (fun(x:Per)=>List.beq (ByteArray.toList x.1) (ByteArray.toList s)) l 0=Uz l s)=_).mp ?_
 delta Z45 Kjt
 exact fun h=>⟨⟨h,fun _ _=>trivial⟩,rfl⟩
abbrev W37 [Sx.Dr]:=W36.add Kpd
abbrev Reg:=Int×Int×List Sta×List Ord×List Met×List Out×List Per
abbrev Jm3:Sch:= .prod sI (.prod sI (.prod (.list 127 Dp) (.prod (.list 130 Hm) (.prod (.list 155 Fb) (.prod (.list 188 X4) (.list 235 Zw))))))
abbrev Jbd:AK:= .val true Jm3
def Ko (s:Int×Int) (h:Int):Bool:=bif decide (s.1≤h) then decide (h<s.2) else false
def Jv5:Con:={args:=[.val true Hi,aI],ress:=[Bo],owns:=[],pre:=fun _=>[],spec:=fun(s,h,_)=>(Ko s h,())}
theorem Kpj [Sx.Dr]:Ok Tryz.prog 140 Jv5:=okW W37 Tryz.f140 na fun xx=>by
 obtain⟨⟨(a:Int),(b:Int)⟩,(h:Int),_⟩:=xx
 refine(by kernel_rfl:((bif decide (a≤h) then decide (h<b) else false)=Ko (a,b) h)=_).mp ?_
 rfl
abbrev W38 [Sx.Dr]:=W37.add Kpj
def J2 (x:Ord) (h:Int):Bool:=bif Ko x.2.2.2.1 h then(bif x.2.2.2.2.2.2== -1 then true else decide (h<x.2.2.2.2.2.2)) else false
def J48:Con:={args:=[.val true Hm,aI],ress:=[Bo],owns:=[],pre:=fun _=>[],spec:=fun(x,h,_)=>(J2 x h,())}
theorem K40 [Sx.Dr]:Ok Tryz.prog 72 J48:=okW W38 Tryz.f72 na fun xx=>by
 obtain⟨⟨(n:ByteArray),(f:ByteArray),(t:ByteArray),⟨(a:Int),(b:Int)⟩,(p:Int),(c:Int),(r:Int)⟩,(h:Int),_⟩:=xx
 refine(by kernel_rfl:((bif Ko (a,b) h then bif r==Z68 then true else decide (h<r) else false)=J2 (n,f,t,(a,b),p,c,r) h)=_).mp ?_
 delta Z68
 rfl
abbrev W39 [Sx.Dr]:=W38.add K40
def Fr (x:Ord) (s:ByteArray):Bool:=bif x.2.1.toList==s.toList then true else x.2.2.1.toList==s.toList
def Kb7:Con:={args:=[.val true Hm,aS],ress:=[Bo],owns:=[],pre:=fun _=>[],spec:=fun(x,s,_)=>(Fr x s,())}
theorem Knf [Sx.Dr]:Ok Tryz.prog 240 Kb7:=okW W39 Tryz.f240 na fun xx=>by
 obtain⟨⟨(n:ByteArray),(f:ByteArray),(t:ByteArray),⟨(a:Int),(b:Int)⟩,(p:Int),(c:Int),(r:Int)⟩,(s:ByteArray),_⟩:=xx
 refine(by kernel_rfl:((bif Lb f s then true else Lb t s)=Fr (n,f,t,(a,b),p,c,r) s)=_).mp ?_
 delta Lb
 rfl
abbrev W40 [Sx.Dr]:=W39.add Knf
def Jzc (x:Out) (s:ByteArray) (h:Int):Bool:=bif x.2.1.toList==s.toList then Ko x.2.2.1 h else false
def K55:Con:={args:=[.val true X4,aS,aI],ress:=[Bo],owns:=[],pre:=fun _=>[],spec:=fun(x,s,h,_)=>(Jzc x s h,())}
theorem Koj [Sx.Dr]:Ok Tryz.prog 176 K55:=okW W40 Tryz.f176 na fun xx=>by
 obtain⟨⟨(n:ByteArray),(f:ByteArray),⟨(a:Int),(b:Int)⟩,(p:Int)⟩,(s:ByteArray),(h:Int),_⟩:=xx
 refine(by kernel_rfl:((bif Lb f s then Ko (a,b) h else false)=Jzc (n,f,(a,b),p) s h)=_).mp ?_
 delta Lb
 rfl
abbrev W41 [Sx.Dr]:=W40.add Koj
theorem Js {α:Type} {l:List α} {k:Nat} {d:α} (h:k<l.length):l.drop k=l.getD k d::l.drop (k+1):=by
 rw[List.drop_eq_getElem_cons h,List.getD_eq_getElem?_getD,List.getElem?_eq_getElem h];rfl
theorem Jbt {α:Type} {p:α→Bool}:∀{l:List α} {k:Nat},Vn p l k<k+l.length∧-1≤Vn p l k
 |[],k=>by simp[Vn];omega
 | x :: l, k => by
  unfold Vn
  split
  ·simp only[List.length_cons];omega
  ·have:=Jbt (p:=p) (l:=l) (k:=k+1)
   simp only[List.length_cons];omega
theorem Kz {l:List Sta} {s:ByteArray}:Jx l s<l.length:=by have:=(Jbt (p:=fun x=>x.1.toList==s.toList) (l:=l) (k:=0)).1;unfold Jx;omega
theorem Uy {l:List Ord} {s:ByteArray}:Ku l s<l.length:=by have:=(Jbt (p:=fun x=>x.1.toList==s.toList) (l:=l) (k:=0)).1;unfold Ku;omega
theorem Uo {l:List Out} {s:ByteArray}:J5 l s<l.length:=by have:=(Jbt (p:=fun x=>x.1.toList==s.toList) (l:=l) (k:=0)).1;unfold J5;omega
theorem Ux {l:List Per} {s:ByteArray}:Uz l s<l.length:=by have:=(Jbt (p:=fun x=>x.1.toList==s.toList) (l:=l) (k:=0)).1;unfold Uz;omega
def K2 (M:List Met) (n:ByteArray) (h:Int):Int:=Vn (fun x=>bif x.1.toList==n.toList then x.2.1==h else false) M 0
theorem Jev {l:List Met} {s:ByteArray} {h:Int}:K2 l s h<l.length:=by have:=(Jbt (p:=fun x=>bif x.1.toList==s.toList then x.2.1==h else false) (l:=l) (k:=0)).1;unfold K2;omega
structure J7z (x:Sta):Prop where
 lim:1≤x.2.1∧x.2.1≤1000
 pri:0≤x.2.2∧x.2.2≤1000
structure Jhy (x:Int×Int):Prop where
 lo:0≤x.1
 mid:x.1≤x.2
 hi:x.2≤999999999
 len:x.2-x.1≤48
structure Jdc (S:List Sta) (x:Ord):Prop where
 span:Jhy x.2.2.2.1
 pow:1≤x.2.2.2.2.1∧x.2.2.2.2.1≤1000
 pri:0≤x.2.2.2.2.2.1∧x.2.2.2.2.2.1≤1000
 trip: -1≤x.2.2.2.2.2.2∧x.2.2.2.2.2.2≤999999999
 fr:0≤Jx S x.2.1
 tu:0≤Jx S x.2.2.1
structure Jxu (x:Met):Prop where
 hour:0≤x.2.1∧x.2.1≤999999999
 sent:0≤x.2.2.1∧x.2.2.1≤1000
 got:0≤x.2.2.2∧x.2.2.2≤x.2.2.1
structure Jj3 (S:List Sta) (x:Out):Prop where
 span:Jhy x.2.2.1
 rest:0≤x.2.2.2∧x.2.2.2≤1000
 sta:0≤Jx S x.2.1
structure Jk (r:Reg):Prop where
 tk:0≤r.1∧r.1≤999999999
 st:0≤r.2.1∧r.2.1≤r.1
 nS:r.2.2.1.length≤6
 nO:r.2.2.2.1.length≤32
 nM:r.2.2.2.2.1.length≤10000
 nX:r.2.2.2.2.2.1.length≤16
 nQ:r.2.2.2.2.2.2.length≤16
 sta:∀x∈r.2.2.1,J7z x
 ord:∀x∈r.2.2.2.1,Jdc r.2.2.1 x
 met:∀x∈r.2.2.2.2.1,Jxu x
 out:∀x∈r.2.2.2.2.2.1,Jj3 r.2.2.1 x
 per:∀x∈r.2.2.2.2.2.2,0≤J5 r.2.2.2.2.2.1 x.2.1
 done:∀x∈r.2.2.2.1,∀h,J2 x h=true→h<r.2.1→0≤K2 r.2.2.2.2.1 x.1 h
def Hl (S:List Sta) (s:ByteArray):Sta:=S.getD (Jx S s).toNat Jsm
def J42:Con:={args:=[Jbd,aS],ress:=[(true,Dp)],owns:=[],pre:=fun((_,_,S,_),s,_)=>[S.length≤1000000,0≤Jx S s],spec:=fun((_,_,S,_),s,_)=>(Hl S s,())}
def Z18 (a:List Sta) (b:Bt):=0≤Jx a b
def Kfr (a:List Sta) (b:Bt):=Gt a (Jx a b) Z10
theorem Kok [Sx.Dr]:Ok Tryz.prog 175 J42:=okW W41 Tryz.f175 na fun xx=>by
 obtain⟨⟨(tk:Int),(st:Int),(S:List Sta),(O:List Ord),(M:List Met),(X:List Out),(Q:List Per)⟩,(s:ByteArray),_⟩:=xx
 refine(by kernel_rfl:(Z55 S→Z18 S s→(Z55 S∧Tw (Bd (Jx S s) (Ln S)))∧((Kfr S s).1,E2 (Kfr S s).2)=Hl S s)=_).mp ?_
 delta Z10 Z18 Z55 Kfr Bd Tw Ln Gt B0 E2
 exact fun h1 h2=>⟨⟨h1,⟨h2,Kz⟩,⟨h2,Kz⟩⟩,rfl⟩
abbrev W42 [Sx.Dr]:=W41.add Kok
def Xy (O:List Ord) (s:ByteArray):Ord:=O.getD (Ku O s).toNat Kl
def J45:Con:={args:=[Jbd,aS],ress:=[(true,Hm)],owns:=[],pre:=fun((_,_,_,O,_),s,_)=>[O.length≤1000000,0≤Ku O s],spec:=fun((_,_,_,O,_),s,_)=>(Xy O s,())}
def K0i (a:List Ord) (b:Bt):=Gt a (Ku a b) Jgd
def K0c (a:List Ord) (b:Bt):=(K0i a b).2
def K0a (a:List Ord) (b:Bt):=(K0c a b).2
def Kz7 (a:List Ord) (b:Bt):=(K0a a b).2
def Kz2 (a:List Ord) (b:Bt):=(Kz7 a b).2
theorem Kn4 [Sx.Dr]:Ok Tryz.prog 198 J45:=okW W42 Tryz.f198 na fun xx=>by
 obtain⟨⟨(tk:Int),(st:Int),(S:List Sta),(O:List Ord),(M:List Met),(X:List Out),(Q:List Per)⟩,(s:ByteArray),_⟩:=xx
 refine(by kernel_rfl:(Z56 O→0≤Ku O s→(Z56 O∧Tw (Bd (Ku O s) (Ln O)))∧((K0i O s).1,(K0c O s).1,(K0a O s).1,E2 (Kz7 O s).1,(Kz2 O s).1,E2 (Kz2 O s).2)=Xy O s)=_).mp ?_
 delta Z56 Z70 Jgd K0i K0c K0a Kz7 Kz2 Bd Tw Ln Gt B0 E2
 exact fun h1 h2=>⟨⟨h1,⟨h2,Uy⟩,⟨h2,Uy⟩⟩,rfl⟩
abbrev W43 [Sx.Dr]:=W42.add Kn4
def L1 (X:List Out) (s:ByteArray):Out:=X.getD (J5 X s).toNat V8
def J44:Con:={args:=[Jbd,aS],ress:=[(true,X4)],owns:=[],pre:=fun((_,_,_,_,_,X,_),s,_)=>[X.length≤1000000,0≤J5 X s],spec:=fun((_,_,_,_,_,X,_),s,_)=>(L1 X s,())}
def Klh (a:List Out) (b:Bt):=(Gt a (J5 a b) Jc9).2
theorem Knd [Sx.Dr]:Ok Tryz.prog 242 J44:=okW W43 Tryz.f242 na fun xx=>by
 obtain⟨⟨(tk:Int),(st:Int),(S:List Sta),(O:List Ord),(M:List Met),(X:List Out),(Q:List Per)⟩,(s:ByteArray),_⟩:=xx
 refine(by kernel_rfl:(Z54 X→0≤J5 X s→(Z54 X∧Tw (Bd (J5 X s) (Ln X)))∧((Gt X (J5 X s) Jc9).1,(Klh X s).1,E2 (Klh X s).2.1,(Klh X s).2.2)=L1 X s)=_).mp ?_
 delta Z54 Jc9 Klh Bd Tw Ln Gt B0 E2
 exact fun h1 h2=>⟨⟨h1,⟨h2,Uo⟩,⟨h2,Uo⟩⟩,rfl⟩
abbrev W44 [Sx.Dr]:=W43.add Knd
def Jmf (Q:List Per) (s:ByteArray):Per:=Q.getD (Uz Q s).toNat Jix
def J43:Con:={args:=[Jbd,aS],ress:=[(true,Zw)],owns:=[],pre:=fun((_,_,_,_,_,_,Q),s,_)=>[Q.length≤1000000,0≤Uz Q s],spec:=fun((_,_,_,_,_,_,Q),s,_)=>(Jmf Q s,())}
theorem Kna [Sx.Dr]:Ok Tryz.prog 245 J43:=okW W44 Tryz.f245 na fun xx=>by
 obtain⟨⟨(tk:Int),(st:Int),(S:List Sta),(O:List Ord),(M:List Met),(X:List Out),(Q:List Per)⟩,(s:ByteArray),_⟩:=xx
 refine(by kernel_rfl:(Z45 Q→0≤Uz Q s→(Z45 Q∧Tw (Bd (Uz Q s) (Ln Q)))∧((Gt Q (Uz Q s) (B0,B0,false)).1,E2 (Gt Q (Uz Q s) (B0,B0,false)).2)=Jmf Q s)=_).mp ?_
 delta Z45 Bd Tw Ln Gt B0 E2
 exact fun h1 h2=>⟨⟨h1,⟨h2,Ux⟩,⟨h2,Ux⟩⟩,rfl⟩
abbrev W45 [Sx.Dr]:=W44.add Kna
def U9:List Ord→ByteArray→Int→Int
 |[],_,_=>0
 |x::l,s,h=>(bif bif Fr x s then J2 x h else false then x.2.2.2.2.1 else 0)+U9 l s h
theorem Jjc {S:List Sta} {s:ByteArray} {h:Int}:∀{O:List Ord},(∀x∈O,Jdc S x)→0≤U9 O s h∧U9 O s h≤1000*O.length
 |[],_=>by simp[U9]
 |x::l,hO=>by
  have:=Jjc (s:=s) (h:=h) (O:=l) fun y hy=>hO y (List.mem_cons_of_mem _ hy)
  have hx:=(hO x (List.mem_cons_self ..)).pow
  unfold U9
  simp only[List.length_cons]
  cases(bif Fr x s then J2 x h else false)<;>simp only[cond_true,cond_false]<;>omega
def Kq6:Con:={args:=[Jbd,aS,aI],ress:=[I],owns:=[],pre:=fun(r,_)=>[Jk r],spec:=fun((_,_,_,O,_),s,h,_)=>(U9 O s h,())}
abbrev J5r (O:List Ord) (s:ByteArray) (h:Int):Ann:={X:=Nat×Int,σ:=fun(k,n)=>⟨1,[(1, .one (.str s)),(2, .one (.int .i64 h)),(7, .one (.int .i64 n)),(11, .one (.sl 0)),(12, .one (.int .i64 O.length)),(13, .one (.int .i64 k))],[(0, .imm 130 Hm O)]⟩,inv:=fun(k,n)=>k≤O.length∧0≤n∧n≤1000*k∧n+U9 (O.drop k) s h=U9 O s h,mu:=fun(k,_)=>O.length-k}
def Z37 (a:Nat×Int):=Iw (Nc a.1+1)
def Z66 (a b:Int) (c:List Sta) (d:List Ord) (e:List Met) (f:List Out) (g:List Per):=(a,b,c,d,e,f,g)
def Jse (a b:Nat×Int):=Nc a.1+1=Nc b.1
def Jt (a b:Int) (c:List Sta) (d:List Ord) (e:List Met) (f:List Out) (g:List Per):=Jk (Z66 a b c d e f g)
def Kfb (a:List Ord) (b:Nat×Int):=List.getD a b.1 Jgd
def Ke9 (a:List Ord) (b:Nat×Int):=(Kfb a b).2
def Ke8 (a:List Ord) (b:Nat×Int):=(Ke9 a b).2
def Ke7 (a:List Ord) (b:Nat×Int):=(Ke9 a b).1
def Ke5 (a:List Ord) (b:Nat×Int):=(Ke8 a b).2
def Ke4 (a:List Ord) (b:Nat×Int):=(Ke8 a b).1
def Ke3 (a:List Ord) (b:Nat×Int):=(Ke5 a b).2
def Ke1 (a:List Ord) (b:Nat×Int):=(Ke3 a b).2
def Ke0 (a:List Ord) (b:Nat×Int):=(Ke3 a b).1
def Kjq (a:Nat×Int) (b:List Ord):=a.2+Ke0 b a
def Kjj (a:Nat×Int) (b:List Ord):=Iw (Kjq a b)
def Kjh (a:Nat×Int) (b:List Ord) (c:Nat×Int):=Kjq a b=c.2
def Kil (a:Nat×Int) (b:List Ord) (c:Bt) (d:Int):=a.1≤List.length b∧0≤a.2∧a.2≤1000*Nc a.1∧a.2+U9 (List.drop a.1 b) c d=U9 b c d
def Kvq (a:Nat×Int) (b:List Ord) (c:Bt) (d:Int) (e:Nat×Int):=Kil a b c d∧List.length b-a.1<List.length b-e.1
def J52 (a:List Ord) (b:Nat×Int):=((Kfb a b).1,Ke7 a b,Ke4 a b,E2 (Ke5 a b).1,Ke0 a b,E2 (Ke1 a b))
def Kgo (a:List Ord) (b:Nat×Int) (c:Int):=J2 (J52 a b) c
theorem Koi [Sx.Dr]:Ok Tryz.prog 177 Kq6:=okW W45 Tryz.f177 (fun xx=>Xo (J5r xx.1.2.2.2.1 xx.2.1 xx.2.2.1)) fun xx=>by
 obtain⟨⟨(tk:Int),(st:Int),(S:List Sta),(O:List Ord),(M:List Met),(X:List Out),(Q:List Per)⟩,(s:ByteArray),(h:Int),_⟩:=xx
 refine(by kernel_rfl:(Jt tk st S O M X Q→∃(x:Nat×Int),Sf s (Si h (0=x.2∧Si (Ln O) (0=Nc x.1∧O=O)))∧Kil x O s h∧∀(x:Nat×Int),Kil x O s h→Br (decide (Nc x.1<Ln O)) (Tw (Bd (Nc x.1) (Ln O))∧Br (bif Fr (J52 O x) s then Kgo O x h else false) (Kjj x O∧Z37 x∧∃(y:Nat×Int),Sf s (Si h (Kjh x O y∧Si (Ln O) (Jse x y∧O=O)))∧Kvq y O s h x) (Z37 x∧∃(y:Nat×Int),Sf s (Si h (x.2=y.2∧Si (Ln O) (Jse x y∧O=O)))∧Kvq y O s h x)) (x.2=U9 O s h))=_).mp ?_
 delta Z37 Z66 Z70 Jse Jt Jgd Kfb Ke9 Ke8 Ke7 Ke5 Ke4 Ke3 Ke1 Ke0 Kjq Kjj Kjh Kil Kvq J52 Kgo Br Iw Bd Tw Sf Si Ln Nc B0 E2
 intro hr
 have hO:∀x∈O,Jdc S x:=hr.ord
 have nO:O.length≤32:=hr.nO
 refine⟨((0:Nat),(0:Int)),⟨rfl,rfl,rfl,rfl,rfl,rfl⟩,⟨Nat.zero_le _,by simp,by simp,by simp⟩,fun(x:Nat×Int) hk=>⟨fun h1=> ?_,fun h1=> ?_⟩⟩
 ·obtain⟨k,n⟩:=x
  have hlt:k<O.length:=by simpa using h1
  have ho:=hO _ (Jc (d:=Kl) hlt)
  have hp:=ho.pow
  dsimp only at hk⊢
  obtain⟨k1,k2,k3,k4⟩:=hk
  rw[Js (d:=Kl) hlt,U9] at k4
  refine⟨⟨by omega,by omega⟩,fun h2=> ?_,fun h2=> ?_⟩
  ·have h3:(bif Fr (O.getD k Kl) s then J2 (O.getD k Kl) h else false)=true:=h2
   rw[h3,cond_true] at k4
   refine⟨⟨?_, ?_⟩,⟨by omega,by omega⟩,(k+1,n+(O.getD k Kl).2.2.2.2.1),⟨rfl,rfl,rfl,rfl,by simp,rfl⟩,⟨by simp only;omega,by simp only;omega,by simp only;omega,by simp only;omega⟩,by simp only;omega⟩
   ·show _≤n+(O.getD k Kl).2.2.2.2.1;omega
   ·show n+(O.getD k Kl).2.2.2.2.1≤_;omega
  ·have h3:(bif Fr (O.getD k Kl) s then J2 (O.getD k Kl) h else false)=false:=h2
   rw[h3,cond_false] at k4
   refine⟨⟨by omega,by omega⟩,(k+1,n),⟨rfl,rfl,rfl,rfl,by simp,rfl⟩,⟨by simp only;omega,by simp only;omega,by simp only;omega,by simp only;omega⟩,by simp only;omega⟩
 ·obtain⟨k,n⟩:=x
  have hlt:¬k<O.length:=by simpa using h1
  simp only at hk
  have:k=O.length:=by omega
  rw[this,List.drop_length,U9] at hk
  show n=_
  omega
abbrev W46 [Sx.Dr]:=W45.add Koi
theorem Jil {S:List Sta} {s:ByteArray} (h:∀x∈S,J7z x) (hf:0≤Jx S s):J7z (Hl S s):=by
 have:=Kz (l:=S) (s:=s)
 exact h _ (Jc (by omega))
def Jgs:List Out→ByteArray→Int→Int→Int
 |[],_,_,n=>n
 |x::l,s,h,n=>Jgs l s h (bif Jzc x s h then min n x.2.2.2 else n)
def Xd (S:List Sta) (O:List Ord) (X:List Out) (s:ByteArray) (h:Int):Int:=Jgs X s h (Hl S s).2.1-U9 O s h
def Kqv:Con:={args:=[Jbd,aS,aI],ress:=[I],owns:=[],pre:=fun(r,s,_)=>[Jk r,0≤Jx r.2.2.1 s],spec:=fun((_,_,S,O,_,X,_),s,h,_)=>(Xd S O X s h,())}
abbrev J5k (tk st:Int) (S:List Sta) (O:List Ord) (M:List Met) (X:List Out) (Q:List Per) (s:ByteArray) (h:Int):Ann:={X:=Nat×Int,σ:=fun(k,n)=>⟨6,[(1, .one (.str s)),(2, .one (.int .i64 h)),(3, .one (.ptr 5 0)),(7, .one (.int .i64 n)),(15, .one (.sl 3)),(16, .one (.int .i64 X.length)),(17, .one (.int .i64 k))],[(0, .imm 127 Dp S),(1, .imm 130 Hm O),(2, .imm 155 Fb M),(3, .imm 188 X4 X),(4, .imm 235 Zw Q),(5, .box 105 [.int .i64 tk, .int .i64 st, .sl 0, .sl 1, .sl 2, .sl 3, .sl 4])]⟩,inv:=fun(k,n)=>k≤X.length∧0≤n∧n≤1000∧Jgs (X.drop k) s h n=Jgs X s h (Hl S s).2.1,mu:=fun(k,_)=>X.length-k}
def J88 (a:List Out) (b:Nat×Int):=(List.getD a b.1 Jc9).2
def J84 (a:List Out) (b:Nat×Int):=(J88 a b).2.2
def Kk3 (a:List Out) (b:Nat×Int):=E2 (J88 a b).2.1
def Jqf (a:List Sta) (b:List Ord) (c:List Met) (d:List Out) (e:List Per) (f g:Int):=Sf a (Sf b (Sf c (Sf d (Sf e (Si f (g=g))))))
def Kiq (a:Nat×Int) (b:List Out) (c:Bt) (d:Int) (e:List Sta):=a.1≤List.length b∧0≤a.2∧a.2≤1000∧Jgs (List.drop a.1 b) c d a.2=Jgs b c d (Hl e c).2.1
def Jx9 (a:Nat×Int) (b:List Sta) (c:List Ord) (d:List Met) (e:List Out) (f:List Per) (g h:Int):=0=Nc a.1∧Jqf b c d e f g h
def Jqe (a b:Nat×Int) (c:List Sta) (d:List Ord) (e:List Met) (f:List Out) (g:List Per) (h i:Int):=Jse a b∧Jqf c d e f g h i
def Kvr (a:Nat×Int) (b:List Out) (c:Bt) (d:Int) (e:List Sta) (f:Nat×Int):=Kiq a b c d e∧List.length b-a.1<List.length b-f.1
theorem K4n [Sx.Dr]:Ok Tryz.prog 91 Kqv:=okW W46 Tryz.f91 (fun xx=>Xo (J5k xx.1.1 xx.1.2.1 xx.1.2.2.1 xx.1.2.2.2.1 xx.1.2.2.2.2.1 xx.1.2.2.2.2.2.1 xx.1.2.2.2.2.2.2 xx.2.1 xx.2.2.1)) fun xx=>by
 obtain⟨⟨(tk:Int),(st:Int),(S:List Sta),(O:List Ord),(M:List Met),(X:List Out),(Q:List Per)⟩,(s:ByteArray),(h:Int),_⟩:=xx
 refine(by kernel_rfl:(Jt tk st S O M X Q→Z18 S s→(Z55 S∧Z18 S s)∧∃(x:Nat×Int),Sf s (Si h ((Hl S s).2.1=x.2∧Si (Ln X) (Jx9 x S O M X Q tk st)))∧Kiq x X s h S∧∀(x:Nat×Int),Kiq x X s h S→Br (decide (Nc x.1<Ln X)) (Tw (Bd (Nc x.1) (Ln X))∧Br (Jzc ((List.getD X x.1 Jc9).1,(J88 X x).1,Kk3 X x,J84 X x) s h) (Z37 x∧∃(y:Nat×Int),Sf s (Si h (min x.2 (J84 X x)=y.2∧Si (Ln X) (Jqe x y S O M X Q tk st)))∧Kvr y X s h S x) (Z37 x∧∃(y:Nat×Int),Sf s (Si h (x.2=y.2∧Si (Ln X) (Jqe x y S O M X Q tk st)))∧Kvr y X s h S x)) ((Jt tk st S O M X Q∧Iw (x.2-U9 O s h))∧x.2-U9 O s h=Xd S O X s h))=_).mp ?_
 delta Z18 Z37 Z55 Z66 Jse Jt Jc9 J88 J84 Kk3 Jqf Kiq Jx9 Jqe Kvr Br Iw Bd Tw Sf Si Ln Nc B0 E2
 intro hr hf
 have hX:∀x∈X,Jj3 S x:=hr.out
 have nO:O.length≤32:=hr.nO
 have nX:X.length≤16:=hr.nX
 have nS:S.length≤6:=hr.nS
 have hs:=Jil hr.sta hf
 have hl:=Jjc (s:=s) (h:=h) hr.ord
 refine⟨⟨by omega,hf⟩,((0:Nat),(Hl S s).2.1),⟨rfl,rfl,rfl,rfl,rfl,rfl,rfl,rfl,rfl,rfl,rfl,rfl⟩,⟨Nat.zero_le _, ?_,hs.lim.2,by simp⟩,fun(x:Nat×Int) hk=>⟨fun h1=> ?_,fun h1=> ?_⟩⟩
 ·have:=hs.lim.1
  show 0≤(Hl S s).2.1
  simp only at this
  omega
 ·obtain⟨k,n⟩:=x
  have hlt:k<X.length:=by simpa using h1
  have ho:=(hX _ (Jc (d:=V8) hlt)).rest
  dsimp only at hk⊢
  obtain⟨k1,k2,k3,k4⟩:=hk
  rw[Js (d:=V8) hlt,Jgs] at k4
  refine⟨⟨by omega,by omega⟩,fun h2=> ?_,fun h2=> ?_⟩
  ·have h3:Jzc (X.getD k V8) s h=true:=h2
   rw[h3,cond_true] at k4
   exact⟨⟨by omega,by omega⟩,(k+1,min n (X.getD k V8).2.2.2),⟨rfl,rfl,rfl,rfl,by simp,rfl,rfl,rfl,rfl,rfl,rfl,rfl⟩,⟨by simp only;omega,by simp only;omega,by simp only;omega,k4⟩,by simp only;omega⟩
  ·have h3:Jzc (X.getD k V8) s h=false:=h2
   rw[h3,cond_false] at k4
   exact⟨⟨by omega,by omega⟩,(k+1,n),⟨rfl,rfl,rfl,rfl,by simp,rfl,rfl,rfl,rfl,rfl,rfl,rfl⟩,⟨by simp only;omega,by simp only;omega,by simp only;omega,k4⟩,by simp only;omega⟩
 ·obtain⟨k,n⟩:=x
  have hlt:¬k<X.length:=by simpa using h1
  simp only at hk
  have:k=X.length:=by omega
  rw[this,List.drop_length,Jgs] at hk
  unfold Xd
  have hl2:U9 O s h≤1000*(O.length:Int):=hl.2
  have hl1:0≤U9 O s h:=hl.1
  refine⟨⟨hr, ?_, ?_⟩, ?_⟩
  ·show _≤n-_;omega
  ·show n-_≤_;omega
  ·show n-_=_;omega
abbrev W47 [Sx.Dr]:=W46.add K4n
def Vf (r:Reg) (w:Int) (s:ByteArray):Bool:=bif w==0 then decide (0≤Jx r.2.2.1 s) else bif w==1 then decide (0≤Ku r.2.2.2.1 s) else bif w==2 then decide (0≤J5 r.2.2.2.2.2.1 s) else bif w==3 then decide (0≤Uz r.2.2.2.2.2.2 s) else true
def K6c:Con:={args:=[Jbd,aI,aS],ress:=[Bo],owns:=[],pre:=fun(r,_)=>[Jk r],spec:=fun(r,w,s,_)=>(Vf r w s,())}
theorem K4x [Sx.Dr]:Ok Tryz.prog 76 K6c:=okW W47 Tryz.f76 na fun xx=>by
 obtain⟨⟨(tk:Int),(st:Int),(S:List Sta),(O:List Ord),(M:List Met),(X:List Out),(Q:List Per)⟩,(w:Int),(s:ByteArray),_⟩:=xx
 refine(by kernel_rfl:(Jt tk st S O M X Q→Br (w==0) (Z55 S∧decide (0≤Jx S s)=Vf (Z66 tk st S O M X Q) w s) (Br (w==1) (Z56 O∧decide (0≤Ku O s)=Vf (Z66 tk st S O M X Q) w s) (Br (w==2) (Z54 X∧decide (0≤J5 X s)=Vf (Z66 tk st S O M X Q) w s) (Br (w==3) (Z45 Q∧decide (0≤Uz Q s)=Vf (Z66 tk st S O M X Q) w s) (true=Vf (Z66 tk st S O M X Q) w s)))))=_).mp ?_
 delta Z45 Z54 Z55 Z56 Z66 Jt Br
 intro hr
 have nS:S.length≤6:=hr.nS
 have nO:O.length≤32:=hr.nO
 have nX:X.length≤16:=hr.nX
 have nQ:Q.length≤16:=hr.nQ
 unfold Vf
 refine⟨fun h=> ?_,fun h=> ?_⟩
 ·rw[h];exact⟨by omega,rfl⟩
 rw[h]
 refine⟨fun h=> ?_,fun h=> ?_⟩
 ·rw[h];exact⟨by omega,rfl⟩
 rw[h]
 refine⟨fun h=> ?_,fun h=> ?_⟩
 ·rw[h];exact⟨by omega,rfl⟩
 rw[h]
 refine⟨fun h=> ?_,fun h=> ?_⟩
 ·rw[h];exact⟨by omega,rfl⟩
 rw[h];rfl
abbrev W48 [Sx.Dr]:=W47.add K4x
def Jmg:Met:=(Ja,0,0,0)
def K6b:Con:={args:=[.val true Fb, .ref 9 .str, .ref 3 sI],ress:=[Bo],owns:=[],pre:=fun _=>[],spec:=fun(x,s,h,_)=>(bif x.1.toList==s.toList then x.2.1==h else false,())}
theorem Kph [Sx.Dr]:Ok Tryz.prog 142 K6b:=okW W48 Tryz.f142 na fun xx=>by
 obtain⟨⟨(a:ByteArray),(b:Int),(c:Int),(d:Int)⟩,(s:ByteArray),(h:Int),_⟩:=xx
 refine(by kernel_rfl:((Lb a s&&(b==h&&(c==c&&(d==d&&true))))=bif Lb a s then b==h else false)=_).mp ?_
 delta Lb
 cases a.toList==s.toList<;>cases b==h<;>simp
abbrev W49 [Sx.Dr]:=W48.add Kph
def Jyk:=(B0,Z70)
def Kfp (a:List Met) (b:Nat):=List.getD a b Jyk
def Kfn (a:List Met) (b:Nat):=(Kfp a b).2
def Ki2 (a:Nat) (b:List Met) (c:Met×Unit→Bool):=a≤List.length b∧Vn (fun(x:Met)=>c (x,PUnit.unit)) b 0=Vn (fun(x:Met)=>c (x,PUnit.unit)) (List.drop a b) a
def Khs (a:List Met) (b:Nat):=((Kfp a b).1,(Kfn a b).1,E2 (Kfn a b).2)
def Kvt (a:List Met) (b:Nat):=(Khs a b,PUnit.unit)
theorem Kpi [Sx.Dr]:Ok Tryz.prog 141 (Kbn 155 Fb true):=okW W49 Tryz.f141 (fun xx=>Xo (Jl9 155 Fb true xx.1 xx.2.1.1 xx.2.1.2)) fun xx=>by
 obtain⟨(l:List Met),⟨(q:Met×Unit→List Prop),(f:Met×Unit→Bool)⟩,_⟩:=xx
 refine(by kernel_rfl:(List.length l≤1000000→(∀(x:Met),x∈l→Ul (q (x,PUnit.unit)))→∃(x:Nat),Si (Ln l) (0=Nc x∧Sf l ((fun(x:Met×PUnit)=>q x)=q∧(fun(x:Met×PUnit)=>f x)=f))∧Ki2 x l f∧∀(x:Nat),Ki2 x l f→Br (decide (Nc x<Ln l)) (T2 (Bd (Nc x) (Ln l)) (Ul (q (Kvt l x)))∧Br (f (Kvt l x)) (Nc x=Vn (fun(x:Met)=>f (x,PUnit.unit)) l 0) (Z20 x∧∃(y:Nat),Si (Ln l) (V5 x y∧Sf l ((fun(x:Met×PUnit)=>q x)=q∧(fun(x:Met×PUnit)=>f x)=f))∧Ki2 y l f∧List.length l-y<List.length l-x)) (Z68=Vn (fun(x:Met)=>f (x,PUnit.unit)) l 0))=_).mp ?_
 delta Z20 Z68 Z70 V5 Jyk Kfp Kfn Ki2 Khs Kvt Br Iw Bd T2 Sf Si Ln Nc B0 E2
 intro hb hq
 refine⟨(0:Nat),⟨rfl,rfl,rfl,rfl,rfl⟩,⟨Nat.zero_le _,rfl⟩,fun(k:Nat) hk=>⟨fun h=> ?_,fun h=> ?_⟩⟩
 ·have hlt:k<l.length:=by simpa using h
  have hd:=V9 (p:=fun x=>f (x,())) (d:=Jmg) hlt
  refine⟨⟨by omega,by omega,hq (l.getD k Jmg) (Jc hlt)⟩,fun h1=> ?_,fun h1=>⟨by omega,(k+1:Nat),⟨rfl,rfl,rfl,by simp,rfl⟩,⟨by omega, ?_⟩,by omega⟩⟩
  ·rw[hk.2,hd,if_pos (show f (l.getD k Jmg,())=true from h1)]
  ·rw[hk.2,hd,if_neg (by rw[show f (l.getD k Jmg,())=false from h1];simp)]
 ·have hlt:¬k<l.length:=by simpa using h
  have:k=l.length:=by omega
  rw[hk.2,this,List.drop_length];rfl
abbrev W50 [Sx.Dr]:=W49.add Kpi
def Kbc:Con:={args:=[Jbd,aS,aI],ress:=[I],owns:=[],pre:=fun(r,_)=>[Jk r],spec:=fun((_,_,_,_,M,_),s,h,_)=>(K2 M s h,())}
theorem K4z [Sx.Dr]:Ok Tryz.prog 73 Kbc:=okW W50 Tryz.f73 na fun xx=>by
 obtain⟨⟨(tk:Int),(st:Int),(S:List Sta),(O:List Ord),(M:List Met),(X:List Out),(Q:List Per)⟩,(s:ByteArray),(h:Int),_⟩:=xx
 refine(by kernel_rfl:(Jt tk st S O M X Q→(List.length M≤1000000∧∀(x:Met),x∈M→True)∧Vn (fun(x:Met)=>match Lb x.1 s with|true=>x.2.1==h|false=>false) M 0=K2 M s h)=_).mp ?_
 delta Z66 Jt Lb
 intro hr
 have nM:M.length≤10000:=hr.nM
 exact⟨⟨by omega,fun _ _=>trivial⟩,rfl⟩
abbrev W51 [Sx.Dr]:=W50.add K4z
def Vt (e:Ev):Int×Int:=(e.2.2.2.1.getD 1 0,e.2.2.2.1.getD 2 0)
def Kqs:Con:={args:=[aEv],ress:=[(true,Hi)],owns:=[],pre:=fun(e,_)=>[3≤e.2.2.2.1.length],spec:=fun(e,_)=>(Vt e,())}
def Z25 (a:Li):=Bd 2 (Ln a)
def Z32 (a:Li):=Bd 1 (Ln a)
def Z48 (a:Int) (b:Bt) (c:Ls) (d:Li) (e:Bt):=Vt (a,b,c,d,e)
def Z53 (a:Li):=3≤List.length a
def Z89 (a:Li):=List.getD a 1 0
def Z90 (a:Li):=List.getD a 2 0
def J85 (a:Li):=T2 (Z32 a) (Tw (Z25 a))
def J82 (a:Li):=(Z89 a,Z90 a)
theorem Knh [Sx.Dr]:Ok Tryz.prog 238 Kqs:=okW W51 Tryz.f238 na fun xx=>by
 obtain⟨⟨(n:Int),(k:ByteArray),(ns:List ByteArray),(vs:List Int),(t:ByteArray)⟩,_⟩:=xx
 refine(by kernel_rfl:(Z53 vs→J85 vs∧J82 vs=Z48 n k ns vs t)=_).mp ?_
 delta Z25 Z32 Z48 Z53 Z89 Z90 J85 J82 Bd T2 Tw Ln
 intro h
 exact⟨⟨⟨by omega,by omega⟩,⟨by omega,by omega⟩,⟨by omega,by omega⟩,⟨by omega,by omega⟩⟩,rfl⟩
abbrev W52 [Sx.Dr]:=W51.add Knh
abbrev EvV (e:Ev):Prop:=∀v∈e.2.2.2.1,0≤v∧v≤999999999
def Zc (e:Ev):Int:=bif (bif (bif decide ((Vt e).1<e.2.2.2.1.getD 0 0) then true else decide ((Vt e).2≤(Vt e).1)) then true else decide (48<(Vt e).2-(Vt e).1)) then 14 else 0
def J0b:Con:={args:=[aEv],ress:=[I],owns:=[],pre:=fun(e,_)=>[3≤e.2.2.2.1.length,EvV e],spec:=fun(e,_)=>(Zc e,())}
def Z27 (a:Li):=Bd 0 (Ln a)
def U1 (a:Li):=List.getD a 0 0
def Kwt (a:Int) (b:Bt) (c:Ls) (d:Li) (e:Bt):=bif decide ((Z48 a b c d e).1<U1 d) then true else decide ((Z48 a b c d e).2≤(Z48 a b c d e).1)
theorem Knj [Sx.Dr]:Ok Tryz.prog 236 J0b:=okW W52 Tryz.f236 na fun xx=>by
 obtain⟨⟨(n:Int),(k:ByteArray),(ns:List ByteArray),(vs:List Int),(t:ByteArray)⟩,_⟩:=xx
 refine(by kernel_rfl:(Z53 vs→EvV (n,k,ns,vs,t)→Z53 vs∧T2 (Z27 vs) (Kwt n k ns vs t=false→Iw ((Z48 n k ns vs t).2-(Z48 n k ns vs t).1))∧(bif bif Kwt n k ns vs t then true else decide (48<(Z48 n k ns vs t).2-(Z48 n k ns vs t).1) then 14 else 0)=Zc (n,k,ns,vs,t))=_).mp ?_
 delta Z27 Z48 Z53 U1 Kwt Iw Bd T2 Ln
 intro h hv
 refine⟨h,⟨⟨by omega,by omega⟩,⟨by omega,by omega⟩,fun _=> ?_⟩,rfl⟩
 have h1:=hv (vs.getD 1 0) (Jc (show 1<vs.length by omega))
 have h2:=hv (vs.getD 2 0) (Jc (show 2<vs.length by omega))
 unfold Vt
 simp only
 omega
abbrev W53 [Sx.Dr]:=W52.add Knj
abbrev Gap:=ByteArray×Int
abbrev Jre:Sch:= .prod .str sI
def L3 (M:List Met) (u:Int) (x:Ord):Int→Nat→List Gap
 |_,0=>[]
 |h,n+1=>(bif J2 x h&&(decide (h<u)&&decide (K2 M x.1 h<0)) then[(x.1,h)] else[])++L3 M u x (h+1) n
def Juq (M:List Met) (u:Int) (x:Ord):List Gap:=L3 M u x x.2.2.2.1.1 (x.2.2.2.1.2-x.2.2.2.1.1).toNat
def Ke (M:List Met) (u:Int):List Ord→List Gap
 |[]=>[]
 |x::l=>Juq M u x++Ke M u l
def Kq3:Con:={args:=[Jbd,aI],ress:=[(false, .list 200 Jre)],owns:=[true],pre:=fun(r,_)=>[Jk r],spec:=fun((_,_,_,O,M,_),u,_)=>(Ke M u O,())}
abbrev J5p (tk st:Int) (S:List Sta) (O:List Ord) (M:List Met) (X:List Out) (Q:List Per) (u:Int):Ann:={X:=Nat×List Gap,σ:=fun(k,o)=>⟨9,[(2, .one (.ptr 5 0)),(3, .one (.ptr 6 0)),(5, .one (.ptr 7 0)),(10, .one (.sl 1)),(11, .one (.int .i64 O.length)),(12, .one (.int .i64 k))],[(0, .imm 127 Dp S),(1, .imm 130 Hm O),(2, .imm 155 Fb M),(3, .imm 188 X4 X),(4, .imm 235 Zw Q),(5, .box 105 [.int .i64 tk, .int .i64 st, .sl 0, .sl 1, .sl 2, .sl 3, .sl 4]),(6, .box 3 [.int .i64 u]),(7, .box 50 [.sl 8]),(8, .own 200 Jre o)]⟩,inv:=fun(k,o)=>k≤O.length∧o.length≤48*k∧o++Ke M u (O.drop k)=Ke M u O,mu:=fun(k,_)=>O.length-k}
abbrev bxO (x:Ord):List SC:=[.str x.1, .str x.2.1, .str x.2.2.1, .int .i64 x.2.2.2.1.1, .int .i64 x.2.2.2.1.2, .int .i64 x.2.2.2.2.1, .int .i64 x.2.2.2.2.2.1, .int .i64 x.2.2.2.2.2.2]
def Um (x:Ord):Nat:=(x.2.2.2.1.2-x.2.2.2.1.1).toNat
abbrev J0s (tk st:Int) (S:List Sta) (O:List Ord) (M:List Met) (X:List Out) (Q:List Per) (u:Int):Ann:={X:=Nat×List Gap×Nat,σ:=fun(k,o,j)=>⟨16,[(0, .one (.fv 13)),(1, .one (.ptr 11 0)),(3, .one (.int .i64 ((O.getD k Kl).2.2.2.1.1+j)))],[(0, .imm 127 Dp S),(1, .imm 130 Hm O),(2, .imm 155 Fb M),(3, .imm 188 X4 X),(4, .imm 235 Zw Q),(5, .box 105 [.int .i64 tk, .int .i64 st, .sl 0, .sl 1, .sl 2, .sl 3, .sl 4]),(6, .box 3 [.int .i64 u]),(7, .box 50 [.sl 15]),(9, .box 130 (bxO (O.getD k Kl))),(11, .box 130 (bxO (O.getD k Kl))),(13, .yld .ready),(14, .sus [(2, .one (.ptr 5 0)),(3, .one (.ptr 6 0)),(5, .one (.ptr 7 0)),(7, .one (.ptr 9 0)),(10, .one (.sl 1)),(11, .one (.int .i64 O.length)),(12, .one (.int .i64 k))]),(15, .own 200 Jre o)]⟩,inv:=fun(k,o,j)=>Jk (tk,st,S,O,M,X,Q)∧k<O.length∧j≤Um (O.getD k Kl)∧o.length≤48*k+j∧o++(L3 M u (O.getD k Kl) ((O.getD k Kl).2.2.2.1.1+j) (Um (O.getD k Kl)-j)++Ke M u (O.drop (k+1)))=Ke M u O,mu:=fun(k,_,j)=>Um (O.getD k Kl)-j,rel:=some fun x y=>y.1=x.1}
theorem Jfw (a b:Bool):(bif a then b else false)=(a&&b):=by cases a<;>rfl
def Z5 (a:List Ord) (b:Nat×List Gap×Nat):=List.getD a b.1 Kl
def Z6 (a:List Ord) (b:Nat×List (Bt×Int)×Nat):=List.getD a b.1 Kl
def Z43:List (ByteArray×Int):=[]
def Z74 (a:List Ord) (b:Nat×List (Bt×Int)×Nat):=(Z6 a b).2.2.2.2
def Z75 (a:List Ord) (b:Nat×List (Bt×Int)×Nat):=(Z6 a b).2.2.2.1
def Z77 (a:List Ord) (b:Nat×List Gap×Nat):=(Z5 a b).2.2.2.2
def Z81 (a:List Ord) (b:Nat×List Gap×Nat):=(Z5 a b).2.2.2.1
def Jye (a:List Ord) (b:Nat×List Gap×Nat):=(Z81 a b).1+Nc b.2.2
def J6t (a:List Ord) (b:Nat×List Gap×Nat) (c:Nat×List (Bt×Int)×Nat):=(Z5 a b).1=(Z6 a c).1
def J6r (a:List Ord) (b:Nat×List Gap×Nat) (c:Nat×List (Bt×Int)×Nat):=(Z5 a b).2.1=(Z6 a c).2.1
def J87 (a:List Ord) (b:Nat×List Gap×Nat) (c:Int):=decide (Jye a b<c)
def J6p (a:List Ord) (b:Nat×List Gap×Nat) (c:Nat×List (Bt×Int)×Nat):=(Z5 a b).2.2.1=(Z6 a c).2.2.1
def J81 (a:List Ord) (b:Nat×List Gap×Nat):=Iw (Jye a b+1)
def J6m (a:List Ord) (b:Nat×List Gap×Nat) (c:Nat×List (Bt×Int)×Nat):=(Z81 a b).2=(Z75 a c).2
def J6l (a:List Ord) (b:Nat×List Gap×Nat) (c:Nat×List (Bt×Int)×Nat):=(Z81 a b).1=(Z75 a c).1
def J6k (a:List Ord) (b:Nat×List Gap×Nat) (c:Nat×List (Bt×Int)×Nat):=(Z77 a b).1=(Z74 a c).1
def J6f (a:List Ord) (b:Nat×List Gap×Nat) (c:Nat×List (Bt×Int)×Nat):=(Z77 a b).2.1=(Z74 a c).2.1
def J6e (a:List Ord) (b:Nat×List Gap×Nat) (c:Nat×List (Bt×Int)×Nat):=(Z77 a b).2.2=(Z74 a c).2.2
def Kk8 (a:Nat×List Gap×Nat):=(List.length a.2.1+1)*24≤140737488355328
def Kko (a:List Ord) (b:Nat×List Gap):=List.getD a b.1 Jgd
def Kkj (a:List Ord) (b:Nat×List Gap):=(Kko a b).2
def Kkh (a:List Ord) (b:Nat×List Gap):=(Kkj a b).2
def Kkf (a:List Ord) (b:Nat×List Gap):=(Kkh a b).2
def Kkd (a:List Ord) (b:Nat×List Gap×Nat):=decide (Jye a b<(Z81 a b).2)
def Kkb (a:List Ord) (b:Nat×List Gap):=(Kkf a b).1
def Kj7 (a:List Ord) (b:Nat×List Gap):=(Kkf a b).2
def Kj4 (a:List Ord) (b:Nat×List Gap):=(Kj7 a b).2
def Kj3 (a:List Ord) (b:Nat×List Gap):=(Kkb a b).1
def J8r (a:List Ord) (b:Nat×List Gap×Nat) (c:Nat×List (Bt×Int)×Nat):=Jye a b+1=(Z75 a c).1+Nc c.2.2
def Kjg (a:Nat×List Gap×Nat) (b:List Ord):=a.2.1++((Z5 b a).1,Jye b a)::Z43
def Kex (a:List Ord) (b:Nat×List Gap) (c:Nat×List (Bt×Int)×Nat):=(Kko a b).1=(Z6 a c).1
def Kew (a:List Ord) (b:Nat×List Gap) (c:Nat×List (Bt×Int)×Nat):=(Kkj a b).1=(Z6 a c).2.1
def Kja (a:Nat×List Gap×Nat) (b:List Ord) (c:Nat×List (Bt×Int)×Nat):=Kjg a b=c.2.1
def Kem (a:List Ord) (b:Nat×List Gap) (c:Nat×List (Bt×Int)×Nat):=(Kkh a b).1=(Z6 a c).2.2.1
def Kel (a:Nat×List (Bt×Int)) (b:List Ord) (c:List Met) (d:Int):=a.1≤List.length b∧List.length a.2≤48*a.1∧a.2++Ke c d (List.drop a.1 b)=Ke c d b
def Kiy (a:Nat×List Gap) (b:List Ord) (c:List Met) (d:Int):=a.1≤List.length b∧List.length a.2≤48*a.1∧a.2++Ke c d (List.drop a.1 b)=Ke c d b
def Kej (a:List Ord) (b:Nat×List Gap) (c:Nat×List (Bt×Int)×Nat):=(Kkb a b).2=(Z75 a c).2
def Kei (a:List Ord) (b:Nat×List Gap) (c:Nat×List (Bt×Int)×Nat):=Kj3 a b=(Z75 a c).1
def Keh (a:List Ord) (b:Nat×List Gap) (c:Nat×List (Bt×Int)×Nat):=(Kj7 a b).1=(Z74 a c).1
def Kee (a:List Ord) (b:Nat×List Gap) (c:Nat×List (Bt×Int)×Nat):=(Kj4 a b).1=(Z74 a c).2.1
def Ked (a:List Ord) (b:Nat×List Gap) (c:Nat×List (Bt×Int)×Nat):=(Kj4 a b).2=(Z74 a c).2.2
def Kif (a:List Ord) (b:Nat×List Gap) (c:Nat×List (Bt×Int)×Nat):=Kj3 a b=(Z75 a c).1+Nc c.2.2
def Kdp (a:Nat×List (Bt×Int)) (b:List Ord) (c:List Met) (d:Int) (e:Nat×List Gap):=Kel a b c d∧List.length b-a.1<List.length b-e.1
def Kg4 (a:List Ord) (b:Nat×List Gap×Nat):=J2 ((Z5 a b).1,(Z5 a b).2.1,(Z5 a b).2.2.1,E2 (Z81 a b),(Z77 a b).1,E2 (Z77 a b).2) (Jye a b)
def Kdd (a:Nat×List (Bt×Int)×Nat) (b:List Ord) (c:List Met) (d:Int):=a.1<List.length b∧a.2.2≤Um (List.getD b a.1 Kl)∧List.length a.2.1≤48*a.1+a.2.2∧a.2.1++(L3 c d (List.getD b a.1 Kl) ((List.getD b a.1 Kl).2.2.2.1.1+Nc a.2.2) (Um (List.getD b a.1 Kl)-a.2.2)++Ke c d (List.drop (a.1+1) b))=Ke c d b
def Kgz (a:Nat×List Gap×Nat) (b:List Ord) (c:List Met) (d:Int):=a.1<List.length b∧a.2.2≤Um (List.getD b a.1 Kl)∧List.length a.2.1≤48*a.1+a.2.2∧a.2.1++(L3 c d (List.getD b a.1 Kl) ((List.getD b a.1 Kl).2.2.2.1.1+Nc a.2.2) (Um (List.getD b a.1 Kl)-a.2.2)++Ke c d (List.drop (a.1+1) b))=Ke c d b
def Kt5 (a b:Int) (c:List Sta) (d:List Ord) (e:List Met) (f:List Out) (g:List Per) (h:Nat×List (Bt×Int)×Nat) (i:Int):=Jt a b c d e f g∧Kdd h d e i
def Ktq (a:Nat×List Gap×Nat) (b:List Ord) (c:List Sta) (d:List Met) (e:List Out) (f:List Per) (g h i:Int) (j:Nat×List Gap):=Iw (Nc a.1+1)∧∃(y:Nat×List (ByteArray×Int)),Si (Ln b) (Nc a.1+1=Nc y.1∧Sf c (Sf b (Sf d (Sf e (Sf f (Si g (Si h (Si i (a.2.1=y.2)))))))))∧Kdp y b d i j
def Ktn (a b:Int) (c:List Sta) (d:List Ord) (e:List Met) (f:List Out) (g:List Per) (h:Nat×List (Bt×Int)×Nat) (i:Int) (j:Nat×List (Bt×Int)×Nat) (k:Nat×List Gap×Nat):=(Kt5 a b c d e f g h i∧h.1=j.1)∧Um (List.getD d h.1 Kl)-h.2.2<Um (List.getD d k.1 Kl)-k.2.2
def J69 (a:Nat×List Gap×Nat) (b:List Ord) (c:List Sta) (d:List Met) (e:List Out) (f:List Per) (g h i:Int) (j:Nat×List Gap) (k:Nat×List (Bt×Int)×Nat):=Br false (Ktq a b c d e f g h i j) (J81 b a∧∃(y:Nat×List (ByteArray×Int)×Nat),(J8r b a y∧Sf c (Sf b (Sf d (Sf e (Sf f (Si g (Si h (Si i (J6t b a y∧J6r b a y∧J6p b a y∧J6l b a y∧J6m b a y∧J6k b a y∧J6f b a y∧J6e b a y∧J6t b a y∧J6r b a y∧J6p b a y∧J6l b a y∧J6m b a y∧J6k b a y∧J6f b a y∧J6e b a y∧Si (Ln b) (Nc a.1=Nc y.1∧a.2.1=y.2.1))))))))))∧Ktn g h c b d e f y i k a)
theorem K4m [Sx.Dr]:Ok Tryz.prog 92 Kq3:=J16 W53 Tryz.f92 (U6 (l:=([(178,Tryz.f178),(247,Tryz.f247)]:List (Nat×Func))) (List.forall_mem_cons.2 ⟨by kernel_rfl,List.forall_mem_cons.2 ⟨by kernel_rfl,by simp⟩⟩)) (fun xx=>Xo (J5p xx.1.1 xx.1.2.1 xx.1.2.2.1 xx.1.2.2.2.1 xx.1.2.2.2.2.1 xx.1.2.2.2.2.2.1 xx.1.2.2.2.2.2.2 xx.2.1)) (fun xx=>fun f id=>if f=247 then some (J0s xx.1.1 xx.1.2.1 xx.1.2.2.1 xx.1.2.2.2.1 xx.1.2.2.2.2.1 xx.1.2.2.2.2.2.1 xx.1.2.2.2.2.2.2 xx.2.1) else none) fun xx=>by
 obtain⟨⟨(tk:Int),(st:Int),(S:List Sta),(O:List Ord),(M:List Met),(X:List Out),(Q:List Per)⟩,(u:Int),_⟩:=xx
 refine(by kernel_rfl:(Jt tk st S O M X Q→∃(x:Nat×List (ByteArray×Int)),Si (Ln O) (0=Nc x.1∧Sf S (Sf O (Sf M (Sf X (Sf Q (Si tk (Si st (Si u (List.length x.2=0)))))))))∧Kel x O M u∧∀(x:Nat×List Gap),Kiy x O M u→Br (decide (Nc x.1<Ln O)) (Tw (Bd (Nc x.1) (Ln O))∧∃(x0:Nat×List (ByteArray×Int)×Nat),(Kif O x x0∧Sf S (Sf O (Sf M (Sf X (Sf Q (Si tk (Si st (Si u (Kex O x x0∧Kew O x x0∧Kem O x x0∧Kei O x x0∧Kej O x x0∧Keh O x x0∧Kee O x x0∧Ked O x x0∧Kex O x x0∧Kew O x x0∧Kem O x x0∧Kei O x x0∧Kej O x x0∧Keh O x x0∧Kee O x x0∧Ked O x x0∧Si (Ln O) (Nc x.1=Nc x0.1∧x.2=x0.2.1))))))))))∧(Kt5 tk st S O M X Q x0 u∧x0.1=x0.1)∧∀(x_1:Nat×List Gap×Nat),(Jt tk st S O M X Q∧Kgz x_1 O M u)∧x_1.1=x0.1→Br (Kkd O x_1) (Br (Kg4 O x_1) ((J87 O x_1 u=true→Jt tk st S O M X Q)∧Br (bif J87 O x_1 u then decide (K2 M (Z5 O x_1).1 (Jye O x_1)<0) else false) (Kk8 x_1∧Br false (Iw (Nc x_1.1+1)∧∃(y:Nat×List (ByteArray×Int)),Si (Ln O) (Nc x_1.1+1=Nc y.1∧Sf S (Sf O (Sf M (Sf X (Sf Q (Si tk (Si st (Si u (Kjg x_1 O=y.2)))))))))∧Kdp y O M u x) (J81 O x_1∧∃(y:Nat×List (ByteArray×Int)×Nat),(J8r O x_1 y∧Sf S (Sf O (Sf M (Sf X (Sf Q (Si tk (Si st (Si u (J6t O x_1 y∧J6r O x_1 y∧J6p O x_1 y∧J6l O x_1 y∧J6m O x_1 y∧J6k O x_1 y∧J6f O x_1 y∧J6e O x_1 y∧J6t O x_1 y∧J6r O x_1 y∧J6p O x_1 y∧J6l O x_1 y∧J6m O x_1 y∧J6k O x_1 y∧J6f O x_1 y∧J6e O x_1 y∧Si (Ln O) (Nc x_1.1=Nc y.1∧Kja x_1 O y))))))))))∧Ktn tk st S O M X Q y u x0 x_1)) (J69 x_1 O S M X Q tk st u x x0)) (J69 x_1 O S M X Q tk st u x x0)) (Ktq x_1 O S M X Q tk st u x)) (Sf true (x.2=Ke M u O)))=_).mp ?_
 delta Z5 Z6 Z43 Z66 Z70 Z74 Z75 Z77 Z81 Jt Jye J6t J6r J87 J6p J81 Jgd J6m J6l J6k J6f J6e Kk8 Kko Kkj Kkh Kkf Kkd Kkb Kj7 Kj4 Kj3 J8r Kjg Kex Kew Kja Kem Kel Kiy Kej Kei Keh Kee Ked Kif Kdp Kg4 Kdd Kgz Kt5 Ktq Ktn J69 Br Iw Bd Tw Sf Si Ln Nc B0 E2
 intro hr
 have nO:O.length≤32:=hr.nO
 refine⟨((0:Nat),[]),by(repeat' first|exact rfl|apply And.intro|exact(Int.add_zero _).symm|omega|dsimp only;omega),⟨Nat.zero_le _,Nat.zero_le _,rfl⟩,fun(x:Nat×List Gap) hk=>⟨fun h1=> ?_,fun h1=> ?_⟩⟩
 ·obtain⟨k,o⟩:=x
  have hlt:k<O.length:=by simpa using h1
  obtain⟨k1,k2,k3⟩:=hk
  dsimp only at k1 k2 k3
  rw[Js (d:=Kl) hlt,Ke,Juq] at k3
  refine⟨⟨⟨by dsimp only;omega,by dsimp only;omega⟩,by dsimp only;omega,by dsimp only;omega⟩,(k,o,(0:Nat)), ?_,⟨⟨hr,hlt,Nat.zero_le _,by simpa using k2, ?_⟩,rfl⟩,fun(y:Nat×List Gap×Nat) hy=> ?_⟩
  ·repeat' first|exact rfl|apply And.intro|exact(Int.add_zero _).symm|omega|dsimp only;omega
  ·simpa[Um] using k3
  obtain⟨k',o,j⟩:=y
  obtain⟨⟨_,i1,i2,i3,i4⟩,hkk⟩:=hy
  have hkk:k'=k:=hkk
  subst hkk
  dsimp only at i1 i2 i3 i4
  have ho:Jhy (O.getD k' Kl).2.2.2.1:=(hr.ord (O.getD k' Kl) (Jc hlt)).span
  have hn:Um (O.getD k' Kl)≤48∧(Um (O.getD k' Kl):Int)=(O.getD k' Kl).2.2.2.1.2-(O.getD k' Kl).2.2.2.1.1:=by
   have:=ho.mid;have:=ho.len
   unfold Um
   constructor<;>omega
  have b1:=ho.lo
  have b2:=ho.hi
  refine⟨fun h2=> ?_,fun h2=> ?_⟩
  ·have h2:(O.getD k' Kl).2.2.2.1.1+(j:Int)<(O.getD k' Kl).2.2.2.1.2:=of_decide_eq_true h2
   have hj:Um (O.getD k' Kl)-j=(Um (O.getD k' Kl)-(j+1))+1:=by omega
   rw[hj,L3] at i4
   have hB: -9223372036854775808≤(O.getD k' Kl).2.2.2.1.1+(j:Int)+1∧(O.getD k' Kl).2.2.2.1.1+(j:Int)+1≤9223372036854775807:=by omega
   have hc:(O.getD k' Kl).2.2.2.1.1+(j:Int)+1=(O.getD k' Kl).2.2.2.1.1+((j+1:Nat):Int):=by omega
   refine⟨fun h3=>⟨fun _=>hr,fun h4=>⟨by dsimp only;omega,fun f=>(by cases f),fun _=>⟨hB,(k',o++[((O.getD k' Kl).1,(O.getD k' Kl).2.2.2.1.1+(j:Int))],j+1), ?_,⟨⟨hr,hlt,by dsimp only;omega,by simp;omega, ?_⟩,rfl⟩,by dsimp only;omega⟩⟩,fun h4=>⟨fun f=>(by cases f),fun _=>⟨hB,(k',o,j+1), ?_,⟨⟨hr,hlt,by dsimp only;omega,by dsimp only;omega, ?_⟩,rfl⟩,by dsimp only;omega⟩⟩⟩,fun h3=>⟨fun f=>(by cases f),fun _=>⟨hB,(k',o,j+1), ?_,⟨⟨hr,hlt,by dsimp only;omega,by dsimp only;omega, ?_⟩,rfl⟩,by dsimp only;omega⟩⟩⟩
   ·repeat' first|exact rfl|apply And.intro|exact(Int.add_zero _).symm|omega|dsimp only;omega
   ·have h3:J2 (O.getD k' Kl) ((O.getD k' Kl).2.2.2.1.1+(j:Int))=true:=h3
    have h4:(bif decide ((O.getD k' Kl).2.2.2.1.1+(j:Int)<u) then decide (K2 M (O.getD k' Kl).1 ((O.getD k' Kl).2.2.2.1.1+(j:Int))<0) else false)=true:=h4
    rw[Jfw] at h4
    rw[h3,Bool.true_and,h4,hc] at i4
    rw[←i4]
    simp
   ·repeat' first|exact rfl|apply And.intro|exact(Int.add_zero _).symm|omega|dsimp only;omega
   ·have h3:J2 (O.getD k' Kl) ((O.getD k' Kl).2.2.2.1.1+(j:Int))=true:=h3
    have h4:(bif decide ((O.getD k' Kl).2.2.2.1.1+(j:Int)<u) then decide (K2 M (O.getD k' Kl).1 ((O.getD k' Kl).2.2.2.1.1+(j:Int))<0) else false)=false:=h4
    rw[Jfw] at h4
    rw[h3,Bool.true_and,h4,hc] at i4
    rw[←i4]
    simp
   ·repeat' first|exact rfl|apply And.intro|exact(Int.add_zero _).symm|omega|dsimp only;omega
   ·have h3:J2 (O.getD k' Kl) ((O.getD k' Kl).2.2.2.1.1+(j:Int))=false:=h3
    rw[h3,hc] at i4
    rw[←i4]
    simp
  ·have h2:¬(O.getD k' Kl).2.2.2.1.1+(j:Int)<(O.getD k' Kl).2.2.2.1.2:=of_decide_eq_false h2
   have hj:Um (O.getD k' Kl)-j=0:=by omega
   rw[hj,L3] at i4
   refine⟨⟨by dsimp only;omega,by dsimp only;omega⟩,(k'+1,o), ?_,⟨by dsimp only;omega,by dsimp only;omega,by simpa using i4⟩,by dsimp only;omega⟩
   repeat' first|exact rfl|apply And.intro|exact(Int.add_zero _).symm|omega|dsimp only;omega
 ·obtain⟨k,o⟩:=x
  have hlt:¬k<O.length:=by simpa using h1
  obtain⟨k1,k2,k3⟩:=hk
  dsimp only at k1 k2 k3
  have:k=O.length:=by omega
  rw[this,List.drop_length,Ke,List.append_nil] at k3
  exact⟨rfl,k3⟩
abbrev W54 [Sx.Dr]:=W53.add K4m
abbrev aE:AK:=aEv
abbrev Joc (T U:TypeId) (s:Sch) (l:List s.T) (g:Bool) (q:Tup [(g,s)]→List Prop) (f:Tup [(g,s)]→Bool):Ann:={X:=Nat,σ:=fun k=>⟨3,[(1, .one (.fv 1)),(5, .one (.sl 2)),(8, .one (.sl 0)),(9, .one (.int .i64 l.length)),(10, .one (.int .i64 k))],[(0, .imm T s l),(1, .afn [(g,s)] Bo q f),(2, .own U s ((l.take k).filter fun x=>f (x,())))]⟩,inv:=fun k=>k≤l.length,mu:=fun k=>l.length-k}
def Kbk:Con:={args:=[.val false (.list 235 Zw), .fn [(true,Zw)] Bo],ress:=[(false, .list 235 Zw)],owns:=[true],pre:=fun(l,(q,_),_)=>[l.length≤1000000,∀x∈l,Ul (q (x,()))],spec:=fun(l,(_,f),_)=>(l.filter fun x=>f (x,()),())}
theorem Jfk {α:Type} {p:α→Bool} {l:List α} {k:Nat} (h:k≤l.length):((l.take k).filter p).length≤k:=by
 have:=List.length_filter_le p (l.take k)
 rw[List.length_take] at this
 omega
def J23 (a:Per×Unit→Bool) (b:Nat) (c:List Per):=List.filter (fun(x:Per)=>a (x,PUnit.unit)) (List.take b c)
def Kfh (a:Nat) (b:List Per) (c:Nat):=a≤List.length b∧J04 b a c
theorem Knc [Sx.Dr]:Ok Tryz.prog 243 Kbk:=okW W54 Tryz.f243 (fun xx=>Xo (Joc 235 235 Zw xx.1 true xx.2.1.1 xx.2.1.2)) fun xx=>by
 obtain⟨(l:List Per),⟨(q:Per×Unit→List Prop),(f:Per×Unit→Bool)⟩,_⟩:=xx
 refine(by kernel_rfl:(Z45 l→J8v l q→∃(x:Nat),Si (Ln l) (0=Nc x∧Sf l ((fun(x:Per×PUnit)=>q x)=q∧(fun(x:Per×PUnit)=>f x)=f∧List.length (J23 f x l)=0))∧x≤List.length l∧∀(x:Nat),x≤List.length l→Br (Z94 x l) (Tw (Bd (Nc x) (Ln l))∧J8s q l x∧Br (Kjp f l x) ((List.length (J23 f x l)+1)*40≤140737488355328∧Z20 x∧∃(y:Nat),Si (Ln l) (V5 x y∧Sf l ((fun(x:Per×PUnit)=>q x)=q∧(fun(x:Per×PUnit)=>f x)=f∧J23 f x l++[Ke2 l x]=J23 f y l))∧Kfh y l x) (Z20 x∧∃(y:Nat),Si (Ln l) (V5 x y∧Sf l ((fun(x:Per×PUnit)=>q x)=q∧(fun(x:Per×PUnit)=>f x)=f∧J23 f x l=J23 f y l))∧Kfh y l x)) (J23 f x l=List.filter (fun(x:Per)=>f (x,PUnit.unit)) l))=_).mp ?_
 delta Z20 Z45 Z94 V5 J28 J04 J23 Kfh J8v Ke2 J8t Kjp J8s Br Iw Bd Tw Sf Si Ln Nc B0 E2
 intro hb hq
 refine⟨(0:Nat),⟨rfl,rfl,rfl,rfl,rfl,by simp⟩,Nat.zero_le _,fun(k:Nat) hk=>⟨fun h=> ?_,fun h=> ?_⟩⟩
 ·have hlt:k<l.length:=by simpa using h
  have hf:=Jfk (p:=fun x=>f (x,())) hk
  have ht:=U3 (d:=Jix) hlt
  refine⟨by omega,hq (l.getD k Jix) (Jc hlt),fun h1=> ?_,fun h1=> ?_⟩
  ·have h1:f (l.getD k Jix,())=true:=h1
   refine⟨by show((List.filter (fun x=>f (x,())) (List.take k l)).length+1)*40≤_;omega,by omega,(k+1:Nat),⟨rfl,by simp,rfl,rfl,rfl, ?_⟩,by omega,by omega⟩
   rw[←ht,List.filter_append,List.filter_cons,if_pos h1];rfl
  ·have h1:f (l.getD k Jix,())=false:=h1
   refine⟨by omega,(k+1:Nat),⟨rfl,by simp,rfl,rfl,rfl, ?_⟩,by omega,by omega⟩
   rw[←ht,List.filter_append,List.filter_cons,if_neg (by rw[h1];decide)];simp
 ·have hlt:¬k<l.length:=by simpa using h
  rw[List.take_of_length_le (by omega)]
abbrev W55 [Sx.Dr]:=W54.add Knc
def J2l:Con:={args:=[.val true Zw],ress:=[Bo],owns:=[],pre:=fun _=>[],spec:=fun(x,_)=>(x.2.2,())}
theorem Kl6 [Sx.Dr] (x:Per):wpF Tryz.prog W55.g (na ()) Tryz.f261 J2l (x,()):=by
 refine(by kernel_rfl:(x.2.2=x.2.2)=_).mp ?_
 rfl
theorem Km6 [Sx.Dr]:Ok Tryz.prog 261 J2l:=Vr mixed W55.ok (by kernel_rfl) (by kernel_rfl) na fun xx=>Kl6 xx.1
abbrev W56 [Sx.Dr]:=W55.add Km6
def L2 (Q:List Per):List Per:=Q.filter fun x=>x.2.2
def Ka9:Con:={args:=[Jbd],ress:=[(false, .list 235 Zw)],owns:=[true],pre:=fun(r,_)=>[Jk r],spec:=fun((_,_,_,_,_,_,Q),_)=>(L2 Q,())}
theorem Knv [Sx.Dr]:Ok Tryz.prog 207 Ka9:=okW W56 Tryz.f207 na fun xx=>by
 obtain⟨⟨(tk:Int),(st:Int),(S:List Sta),(O:List Ord),(M:List Met),(X:List Out),(Q:List Per)⟩,_⟩:=xx
 refine(by kernel_rfl:(Jt tk st S O M X Q→Kjt Q∧List.filter (fun(x:Per)=>x.2.2) Q=L2 Q)=_).mp ?_
 delta Z45 Z66 Jt Kjt
 intro hr
 have nQ:Q.length≤16:=hr.nQ
 exact⟨⟨by omega,fun _ _=>trivial⟩,rfl⟩
abbrev W57 [Sx.Dr]:=W56.add Knv
theorem Jdj {Q:List Per}:(L2 Q).length≤Q.length:=List.length_filter_le _ _
theorem Jlb {Q:List Per} {x:Per} (h:x∈L2 Q):x∈Q:=(List.mem_filter.1 h).1
def Ka3:Con:={args:=[.val true Zw, .ref 188 X4],ress:=[Bo],owns:=[],pre:=fun _=>[],spec:=fun(x,y,_)=>(x.2.1.toList==y.1.toList,())}
theorem Kl7 [Sx.Dr] (x:Per) (y:Out):wpF Tryz.prog W57.g (na ()) Tryz.f244 Ka3 (x,y,()):=by
 refine(by kernel_rfl:(Lb x.2.1 y.1=Lb x.2.1 y.1)=_).mp ?_
 delta Lb
 rfl
theorem Knb [Sx.Dr]:Ok Tryz.prog 244 Ka3:=Vr mixed W57.ok (by kernel_rfl) (by kernel_rfl) na fun xx=>Kl7 xx.1 xx.2.1
abbrev W58 [Sx.Dr]:=W57.add Knb
def Kqt:Con:={args:=[.val true Zw, .ref 105 Jm3, .ref 3 sI],ress:=[Bo],owns:=[],pre:=fun(x,r,_)=>[Jk r,0≤J5 r.2.2.2.2.2.1 x.2.1],spec:=fun(x,(_,_,_,_,_,X,_),h,_)=>(decide ((L1 X x.2.1).2.2.1.2≤h),())}
theorem Km9 [Sx.Dr]:Ok Tryz.prog 246 Kqt:=okW W58 Tryz.f246 na fun xx=>by
 obtain⟨⟨(a:ByteArray),(b:ByteArray),(c:Bool)⟩,⟨(tk:Int),(st:Int),(S:List Sta),(O:List Ord),(M:List Met),(X:List Out),(Q:List Per)⟩,(h:Int),_⟩:=xx
 refine(by kernel_rfl:(Jt tk st S O M X Q→0≤J5 X b→(Z54 X∧0≤J5 X b)∧decide ((L1 X b).2.2.1.2≤h)=decide ((L1 X b).2.2.1.2≤h))=_).mp ?_
 delta Z54 Z66 Jt
 intro hr h
 have nX:X.length≤16:=hr.nX
 repeat' first|assumption|exact rfl|trivial|omega|apply And.intro|intro _
abbrev W59 [Sx.Dr]:=W58.add Km9
def Kq1:Con:={args:=[aI, .ref 105 Jm3, .ref 9 .str, .ref 9 .str, .ref 3 sI],ress:=[Bo],owns:=[],pre:=fun(_,r,a,b,_)=>[Jk r,0≤Jx r.2.2.1 a,0≤Jx r.2.2.1 b],spec:=fun(h,(_,_,S,O,_,X,_),a,b,p,_)=>(decide (min (Xd S O X a h) (Xd S O X b h)<p),())}
theorem Kng [Sx.Dr]:Ok Tryz.prog 239 Kq1:=okW W59 Tryz.f239 na fun xx=>by
 obtain⟨(h:Int),⟨(tk:Int),(st:Int),(S:List Sta),(O:List Ord),(M:List Met),(X:List Out),(Q:List Per)⟩,(a:ByteArray),(b:ByteArray),(p:Int),_⟩:=xx
 refine(by kernel_rfl:(Jt tk st S O M X Q→Z18 S a→Z18 S b→(Jt tk st S O M X Q∧Z18 S a∧Jt tk st S O M X Q∧Z18 S b)∧decide (min (Xd S O X a h) (Xd S O X b h)<p)=decide (min (Xd S O X a h) (Xd S O X b h)<p))=_).mp ?_
 delta Z18 Z66 Jt
 intro hr h1 h2
 repeat' first|assumption|exact rfl|trivial|omega|apply And.intro|intro _
abbrev W60 [Sx.Dr]:=W59.add Kng
def Kq0:Con:={args:=[aI, .ref 105 Jm3, .ref 9 .str, .ref 3 sI],ress:=[Bo],owns:=[],pre:=fun(_,r,a,_)=>[Jk r],spec:=fun(h,(_,_,_,O,_),a,p,_)=>(decide (p<U9 O a h),())}
theorem Kne [Sx.Dr]:Ok Tryz.prog 241 Kq0:=okW W60 Tryz.f241 na fun xx=>by
 obtain⟨(h:Int),⟨(tk:Int),(st:Int),(S:List Sta),(O:List Ord),(M:List Met),(X:List Out),(Q:List Per)⟩,(a:ByteArray),(p:Int),_⟩:=xx
 refine(by kernel_rfl:(Jt tk st S O M X Q→Jt tk st S O M X Q∧decide (p<U9 O a h)=decide (p<U9 O a h))=_).mp ?_
 delta Z66 Jt
 intro hr
 repeat' first|assumption|exact rfl|trivial|omega|apply And.intro|intro _
abbrev W61 [Sx.Dr]:=W60.add Kne
def Jr9 (f:Int→Bool):Int→Nat→Bool
 |_,0=>false
 |a,n+1=>bif f a then true else Jr9 f (a+1) n
def He (s:Int×Int) (f:Int→Bool):Bool:=Jr9 f s.1 (s.2-s.1).toNat
def Kbx:Con:={args:=[.val true Hi, .fn [I] Bo],ress:=[Bo],owns:=[],pre:=fun(s,(q,_),_)=>[0≤s.1∧s.1≤999999999,0≤s.2∧s.2≤999999999,∀h,s.1≤h→h<s.2→Ul (q (h,()))],spec:=fun(s,(_,f),_)=>(He s fun h=>f (h,()),())}
abbrev J0u (a b:Int) (q:Int×Unit→List Prop) (f:Int×Unit→Bool):Ann:={X:=Nat,σ:=fun k=>⟨2,[(1, .one (.fv 1)),(2, .one (.ptr 0 0)),(5, .one (.bool false)),(11, .one (.int .i64 (b-a))),(12, .one (.int .i64 k))],[(0, .box 117 [.int .i64 a, .int .i64 b]),(1, .afn [I] Bo q f)]⟩,inv:=fun k=>k≤(b-a).toNat∧He (a,b) (fun h=>f (h,()))=Jr9 (fun h=>f (h,())) (a+k) ((b-a).toNat-k),mu:=fun k=>(b-a).toNat-k}
def J9y (a:Int):=0≤a∧a≤999999999
def Kiv (a:Nat) (b c:Int) (d:Int×Unit→Bool):=a≤Int.toNat (b-c)∧(He (c,b) fun(h:Int)=>d (h,PUnit.unit))=Jr9 (fun(h:Int)=>d (h,PUnit.unit)) (c+Nc a) (Int.toNat (b-c)-a)
theorem Kni [Sx.Dr]:Ok Tryz.prog 237 Kbx:=okW W61 Tryz.f237 (fun xx=>Xo (J0u xx.1.1 xx.1.2 xx.2.1.1 xx.2.1.2)) fun xx=>by
 obtain⟨⟨(a:Int),(b:Int)⟩,⟨(q:Int×Unit→List Prop),(f:Int×Unit→Bool)⟩,_⟩:=xx
 refine(by kernel_rfl:(J9y a→J9y b→(∀(h:Int),a≤h→h<b→Ul (q (h,PUnit.unit)))→Iw (b-a)∧∃(x:Nat),Sf false (Si (b-a) (0=Nc x∧Si a (Si b ((fun(x:Int×PUnit)=>q x)=q∧(fun(x:Int×PUnit)=>f x)=f))))∧Kiv x b a f∧∀(x:Nat),Kiv x b a f→Br (decide (Nc x<b-a)) ((Iw (a+Nc x)∧Ul (q (a+Nc x,PUnit.unit)))∧Br (f (a+Nc x,PUnit.unit)) (true=He (a,b) fun(h:Int)=>f (h,PUnit.unit)) (Z20 x∧∃(y:Nat),Sf false (Si (b-a) (V5 x y∧Si a (Si b ((fun(x:Int×PUnit)=>q x)=q∧(fun(x:Int×PUnit)=>f x)=f))))∧Kiv y b a f∧Int.toNat (b-a)-y<Int.toNat (b-a)-x)) (false=He (a,b) fun(h:Int)=>f (h,PUnit.unit)))=_).mp ?_
 delta Z20 V5 J9y Kiv Br Iw Sf Si Nc
 intro h1 h2 hq
 refine⟨by omega,(0:Nat),⟨rfl,rfl,rfl,rfl,rfl,rfl,rfl⟩,⟨Nat.zero_le _,by simp[He]⟩,fun(k:Nat) hk=>⟨fun h=> ?_,fun h=> ?_⟩⟩
 ·have h:(k:Int)<b-a:=of_decide_eq_true h
  obtain⟨k1,k2⟩:=hk
  have hj:(b-a).toNat-k=((b-a).toNat-(k+1))+1:=by omega
  rw[hj,Jr9] at k2
  refine⟨⟨by omega,hq (a+k) (by omega) (by omega)⟩,fun h3=> ?_,fun h3=>⟨by omega,(k+1:Nat),⟨rfl,rfl,by simp,rfl,rfl,rfl,rfl⟩,⟨by omega, ?_⟩,by omega⟩⟩
  ·rw[k2]
   show true=bif f (a+(k:Int),PUnit.unit) then true else _
   rw[h3];rfl
  ·rw[k2]
   show(bif f (a+(k:Int),PUnit.unit) then true else _)=_
   rw[h3,Int.natCast_add,←Int.add_assoc];rfl
 ·have h:¬(k:Int)<b-a:=of_decide_eq_false h
  have hj:(b-a).toNat-k=0:=by omega
  rw[hk.2,hj];rfl
abbrev W62 [Sx.Dr]:=W61.add Kni
def Jl5 (S:List Sta) (vs:List Int):Int:=Jf [Kf (vs.getD 1 0) 1 1000,bif decide ((6:Int)≤S.length) then 5 else 0]
def Kby:Con:={args:=[Jbd,aEv],ress:=[I],owns:=[],pre:=fun(r,e,_)=>[Jk r,2≤e.2.2.2.1.length],spec:=fun((tk,st,S,O,M,X,Q),(n,k,ns,vs,tx),_)=>(Jl5 S vs,())}
def Z59 (a:Li):=2≤List.length a
theorem Kpb [Sx.Dr]:Ok Tryz.prog 148 Kby:=okW W62 Tryz.f148 na fun xx=>by
 obtain⟨⟨(tk:Int),(st:Int),(S:List Sta),(O:List Ord),(M:List Met),(X:List Out),(Q:List Per)⟩,⟨(n:Int),(k:ByteArray),(ns:List ByteArray),(vs:List Int),(tx:ByteArray)⟩,_⟩:=xx
 refine(by kernel_rfl:(Jt tk st S O M X Q→Z59 vs→T2 (Z32 vs) (2≤1000000)∧Jf [Kf (Z89 vs) 1 1000,bif decide (6≤Ln S) then 5 else 0]=Jl5 S vs)=_).mp ?_
 delta Z32 Z59 Z66 Z89 Jt Bd T2 Ln
 intro hr h
 repeat' first|assumption|exact rfl|trivial|omega|apply And.intro|intro _
abbrev W63 [Sx.Dr]:=W62.add Kpb
def Jn4 (vs:List Int):Int:=Kf (vs.getD 1 0) 0 1000
def Kb0:Con:={args:=[Jbd,aEv],ress:=[I],owns:=[],pre:=fun(r,e,_)=>[2≤e.2.2.2.1.length],spec:=fun((tk,st,S,O,M,X,Q),(n,k,ns,vs,tx),_)=>(Jn4 vs,())}
def Z96 (a:Li):=Tw (Z32 a)
theorem Ko7 [Sx.Dr]:Ok Tryz.prog 152 Kb0:=okW W63 Tryz.f152 na fun xx=>by
 obtain⟨⟨(tk:Int),(st:Int),(S:List Sta),(O:List Ord),(M:List Met),(X:List Out),(Q:List Per)⟩,⟨(n:Int),(k:ByteArray),(ns:List ByteArray),(vs:List Int),(tx:ByteArray)⟩,_⟩:=xx
 refine(by kernel_rfl:(Z59 vs→Z96 vs∧Kf (Z89 vs) 0 1000=Jn4 vs)=_).mp ?_
 delta Z32 Z59 Z89 Z96 Bd Tw Ln
 intro h
 repeat' first|assumption|exact rfl|trivial|omega|apply And.intro|intro _
abbrev W64 [Sx.Dr]:=W63.add Ko7
def Jhn (e:Ev):Int:=Jf [bif (e.2.2.1.getD 1 Ja).toList==(e.2.2.1.getD 2 Ja).toList then 24 else 0,Zc e,Kf (e.2.2.2.1.getD 3 0) 1 1000]
def Jve (S:List Sta) (O:List Ord) (X:List Out) (e:Ev):Bool:=He (Vt e) fun h=>decide (min (Xd S O X (e.2.2.1.getD 1 Ja) h) (Xd S O X (e.2.2.1.getD 2 Ja) h)<e.2.2.2.1.getD 3 0)
def Jb4 (S:List Sta) (O:List Ord) (X:List Out) (e:Ev):Int:=if Jhn e≠0 then Jhn e else Jf [bif Jve S O X e then 4 else 0,bif decide ((32:Int)≤O.length) then 5 else 0]
def Kb2:Con:={args:=[Jbd,aEv],ress:=[I],owns:=[],pre:=fun(r,e,_)=>[Jk r,EvV e,e.2.2.1.length=3,e.2.2.2.1.length=4,0≤Jx r.2.2.1 (e.2.2.1.getD 1 Ja),0≤Jx r.2.2.1 (e.2.2.1.getD 2 Ja)],spec:=fun((tk,st,S,O,M,X,Q),(n,k,ns,vs,tx),_)=>(Jb4 S O X (n,k,ns,vs,tx),())}
def Z31 (a:Li):=Bd 3 (Ln a)
def Z57 (a:Li):=List.length a=4
def Z85 (a:Li):=List.getD a 3 0
def Z86 (a:Li):=Tw (Z31 a)
def Z91 (a:Ls):=List.getD a 2 B0
def Z93 (a:Ls):=Bd 1 (Ln a)
def Z98 (a:Ls):=Bd 2 (Ln a)
def H9 (a:Ls):=List.getD a 1 B0
def J60 (a:Ls):=List.getD a 2 Ja
def Jj2 (a:Ls):=List.getD a 1 Ja
def Jsz (a:Ls):=List.length a=3
def Jyg (a:List Sta) (b:Ls):=Jx a (H9 b)
def J21 (a:List Sta) (b:Ls):=0≤Jyg a b
def J9c (a:List Sta) (b:Ls):=0≤Jx a (Jj2 b)
def Klf (a:Ls):=Lb (H9 a) (Z91 a)
def Kvi (a:Ls) (b:Int) (c:Bt) (d:Li) (e:Bt):=Jf [bif Klf a then 24 else 0,Zc (b,c,a,d,e),Kf (Z85 d) 1 1000]
theorem Ko5 [Sx.Dr]:Ok Tryz.prog 154 Kb2:=okW W64 Tryz.f154 na fun xx=>by
 obtain⟨⟨(tk:Int),(st:Int),(S:List Sta),(O:List Ord),(M:List Met),(X:List Out),(Q:List Per)⟩,⟨(n:Int),(k:ByteArray),(ns:List ByteArray),(vs:List Int),(tx:ByteArray)⟩,_⟩:=xx
 refine(by kernel_rfl:(Jt tk st S O M X Q→EvV (n,k,ns,vs,tx)→Jsz ns→Z57 vs→J9c S ns→0≤Jx S (J60 ns)→T2 (Z93 ns) (T2 (Z98 ns) (Z86 vs))∧(Z53 vs∧EvV (n,k,ns,vs,tx)∧3≤1000000)∧Br (Kvi ns n k vs tx !=0) (Kvi ns n k vs tx=Jb4 S O X (n,k,ns,vs,tx)) ((Z53 vs∧(0≤(Z48 n k ns vs tx).1∧(Z48 n k ns vs tx).1≤999999999)∧(0≤(Z48 n k ns vs tx).2∧(Z48 n k ns vs tx).2≤999999999)∧∀(h:Int),(Z48 n k ns vs tx).1≤h→h<(Z48 n k ns vs tx).2→Jt tk st S O M X Q∧J21 S ns∧0≤Jx S (Z91 ns))∧2≤1000000∧Jf [bif He (E2 (Z48 n k ns vs tx)) fun(h:Int)=>decide (min (Xd S O X (H9 ns) h) (Xd S O X (Z91 ns) h)<Z85 vs) then 4 else 0,bif decide (32≤Ln O) then 5 else 0]=Jb4 S O X (n,k,ns,vs,tx)))=_).mp ?_
 delta Z31 Z48 Z53 Z57 Z66 Z85 Z86 Z91 Z93 Z98 H9 J60 Jj2 Jsz Jt Jyg J21 J9c Klf Kvi Br Bd T2 Tw Ln B0 Lb E2
 intro hr hv hn hl h1 h2
 have sp:(0≤(Vt (n,k,ns,vs,tx)).1∧(Vt (n,k,ns,vs,tx)).1≤999999999)∧0≤(Vt (n,k,ns,vs,tx)).2∧(Vt (n,k,ns,vs,tx)).2≤999999999:=⟨hv (vs.getD 1 0) (Jc (show 1<vs.length by omega)),hv (vs.getD 2 0) (Jc (show 2<vs.length by omega))⟩
 refine⟨by omega,⟨by omega,hv,by omega⟩,fun h=> ?_,fun h=>⟨⟨by omega,sp.1,sp.2,fun _ _ _=>⟨hr,h1,h2⟩⟩,by omega, ?_⟩⟩
 ·have h:Jhn (n,k,ns,vs,tx)≠0:=bne_iff_ne.1 h
  unfold Jb4;rw[if_pos h];rfl
 ·have h:¬Jhn (n,k,ns,vs,tx)≠0:=by have:=bne_eq_false_iff_eq.1 h;exact fun f=>f this
  unfold Jb4;rw[if_neg h];rfl
abbrev W65 [Sx.Dr]:=W64.add Ko5
def Jl6 (O:List Ord) (M:List Met) (ns:List ByteArray) (vs:List Int):Int:=Jf [bif decide (vs.getD 0 0≤vs.getD 1 0) then 11 else 0,bif !Ko (Xy O (ns.getD 0 Ja)).2.2.2.1 (vs.getD 1 0) then 14 else 0,bif !J2 (Xy O (ns.getD 0 Ja)) (vs.getD 1 0) then 23 else 0,bif decide (0≤K2 M (Xy O (ns.getD 0 Ja)).1 (vs.getD 1 0)) then 9 else 0,bif (bif decide ((Xy O (ns.getD 0 Ja)).2.2.2.2.1<vs.getD 2 0) then true else decide (vs.getD 2 0<vs.getD 3 0)) then 3 else 0]
def Kb3:Con:={args:=[Jbd,aEv],ress:=[I],owns:=[],pre:=fun(r,e,_)=>[Jk r,1≤e.2.2.1.length,4≤e.2.2.2.1.length,0≤Ku r.2.2.2.1 (e.2.2.1.getD 0 Ja)],spec:=fun((tk,st,S,O,M,X,Q),(n,k,ns,vs,tx),_)=>(Jl6 O M ns vs,())}
def Z60 (a:Li):=4≤List.length a
def Z87 (a:Ls):=List.getD a 0 B0
def Z92 (a:Ls):=Bd 0 (Ln a)
def Lx (a:Ls):=List.getD a 0 Ja
def Y0 (a:Ls):=1≤List.length a
def J6y (a:List Ord) (b:Ls):=Xy a (Z87 b)
def Jqp (a:List Ord) (b:Ls):=Ku a (Z87 b)
def J9l (a:List Ord) (b:Ls):=(J6y a b).2.2
def J6u (a:List Ord) (b:Ls):=(J9l a b).2.2
def J9i (a:List Ord) (b:Ls):=(J9l a b).2.1
def Jsw (a:List Ord) (b:Ls):=0≤Ku a (Lx b)
def Kk6 (a:Li):=decide (U1 a≤Z89 a)
def Kk5 (a:Li):=decide (Z90 a<Z85 a)
def Kg1 (a:List Ord) (b:Ls):=((J6y a b).1,(J6y a b).2.1,(J9l a b).1,E2 (J9i a b),(J6u a b).1,E2 (J6u a b).2)
theorem Ko2 [Sx.Dr]:Ok Tryz.prog 157 Kb3:=okW W65 Tryz.f157 na fun xx=>by
 obtain⟨⟨(tk:Int),(st:Int),(S:List Sta),(O:List Ord),(M:List Met),(X:List Out),(Q:List Per)⟩,⟨(n:Int),(k:ByteArray),(ns:List ByteArray),(vs:List Int),(tx:ByteArray)⟩,_⟩:=xx
 refine(by kernel_rfl:(Jt tk st S O M X Q→Y0 ns→Z60 vs→Jsw O ns→T2 (Z92 ns) (Z56 O∧0≤Jqp O ns∧T2 (Z32 vs) (T2 (Z25 vs) (Z86 vs)))∧T2 (Z27 vs) (Jt tk st S O M X Q∧5≤1000000)∧Jf [bif Kk6 vs then 11 else 0,bif !Ko (E2 (J9i O ns)) (Z89 vs) then 14 else 0,bif !J2 (Kg1 O ns) (Z89 vs) then 23 else 0,bif decide (0≤K2 M (J6y O ns).1 (Z89 vs)) then 9 else 0,bif bif decide ((J6u O ns).1<Z90 vs) then true else Kk5 vs then 3 else 0]=Jl6 O M ns vs)=_).mp ?_
 delta Z25 Z27 Z31 Z32 Z56 Z60 Z66 Z85 Z86 Z87 Z89 Z90 Z92 U1 Lx Y0 Jt J6y Jqp J9l J6u J9i Jsw Kk6 Kk5 Kg1 Bd T2 Tw Ln B0 E2
 intro hr h1 h2 h3
 have nO:O.length≤32:=hr.nO
 refine⟨⟨⟨by omega,by omega⟩,⟨by omega,by omega⟩,by omega,h3,by omega⟩,⟨by omega,by omega,hr,by omega⟩,rfl⟩
abbrev W66 [Sx.Dr]:=W65.add Ko2
def Jcs (O:List Ord) (ns:List ByteArray) (vs:List Int):Int:=bif (bif (Xy O (ns.getD 0 Ja)).2.2.2.2.2.2 != -1 then true else decide ((Xy O (ns.getD 0 Ja)).2.2.2.1.2≤vs.getD 0 0)) then 23 else 0
def J49:Con:={args:=[Jbd,aEv],ress:=[I],owns:=[],pre:=fun(r,e,_)=>[Jk r,1≤e.2.2.1.length,1≤e.2.2.2.1.length,0≤Ku r.2.2.2.1 (e.2.2.1.getD 0 Ja)],spec:=fun((tk,st,S,O,M,X,Q),(n,k,ns,vs,tx),_)=>(Jcs O ns vs,())}
def Z52 (a:Li):=1≤List.length a
def Ki8 (a:Ls) (b:List Ord):=T2 (Z92 a) (Z56 b∧0≤Jqp b a)
def Kxa (a:List Ord) (b:Ls):=(J6u a b).2.2 !=Z68
theorem Ko0 [Sx.Dr]:Ok Tryz.prog 159 J49:=okW W66 Tryz.f159 na fun xx=>by
 obtain⟨⟨(tk:Int),(st:Int),(S:List Sta),(O:List Ord),(M:List Met),(X:List Out),(Q:List Per)⟩,⟨(n:Int),(k:ByteArray),(ns:List ByteArray),(vs:List Int),(tx:ByteArray)⟩,_⟩:=xx
 refine(by kernel_rfl:(Jt tk st S O M X Q→Y0 ns→Z52 vs→Jsw O ns→Ki8 ns O∧Tw (Kxa O ns=false→Z27 vs)∧(bif bif Kxa O ns then true else decide ((J9i O ns).2≤U1 vs) then 23 else 0)=Jcs O ns vs)=_).mp ?_
 delta Z27 Z52 Z56 Z66 Z68 Z87 Z92 U1 Lx Y0 Jt J6y Jqp J9l J6u J9i Jsw Ki8 Kxa Bd T2 Tw Ln B0
 intro hr h1 h2 h3
 have nO:O.length≤32:=hr.nO
 repeat' first|assumption|exact rfl|trivial|omega|apply And.intro|intro _
abbrev W67 [Sx.Dr]:=W66.add Ko0
def Jhm (S:List Sta) (e:Ev):Int:=Jf [Zc e,bif decide ((Hl S (e.2.2.1.getD 1 Ja)).2.1≤e.2.2.2.1.getD 3 0) then 3 else 0]
def Jb3 (S:List Sta) (O:List Ord) (X:List Out) (e:Ev):Int:=if Jhm S e≠0 then Jhm S e else Jf [bif He (Vt e) (fun h=>decide (e.2.2.2.1.getD 3 0<U9 O (e.2.2.1.getD 1 Ja) h)) then 24 else 0,bif decide ((16:Int)≤X.length) then 5 else 0]
def Kb1:Con:={args:=[Jbd,aEv],ress:=[I],owns:=[],pre:=fun(r,e,_)=>[Jk r,EvV e,e.2.2.1.length=2,e.2.2.2.1.length=4,0≤Jx r.2.2.1 (e.2.2.1.getD 1 Ja)],spec:=fun((tk,st,S,O,M,X,Q),(n,k,ns,vs,tx),_)=>(Jb3 S O X (n,k,ns,vs,tx),())}
def Jqq (a:Ls):=List.length a=2
def Kwf (a:Int) (b:Bt) (c:Ls) (d:Li) (e:Bt) (f:List Sta):=Jf [Zc (a,b,c,d,e),bif decide ((Hl f (H9 c)).2.1≤Z85 d) then 3 else 0]
theorem Koy [Sx.Dr]:Ok Tryz.prog 161 Kb1:=okW W67 Tryz.f161 na fun xx=>by
 obtain⟨⟨(tk:Int),(st:Int),(S:List Sta),(O:List Ord),(M:List Met),(X:List Out),(Q:List Per)⟩,⟨(n:Int),(k:ByteArray),(ns:List ByteArray),(vs:List Int),(tx:ByteArray)⟩,_⟩:=xx
 refine(by kernel_rfl:(Jt tk st S O M X Q→EvV (n,k,ns,vs,tx)→Jqq ns→Z57 vs→J9c S ns→T2 (Z93 ns) (Z86 vs)∧(Z53 vs∧EvV (n,k,ns,vs,tx)∧Z55 S∧J21 S ns∧2≤1000000)∧Br (Kwf n k ns vs tx S !=0) (Kwf n k ns vs tx S=Jb3 S O X (n,k,ns,vs,tx)) ((Z53 vs∧(0≤(Z48 n k ns vs tx).1∧(Z48 n k ns vs tx).1≤999999999)∧(0≤(Z48 n k ns vs tx).2∧(Z48 n k ns vs tx).2≤999999999)∧∀(h:Int),(Z48 n k ns vs tx).1≤h→h<(Z48 n k ns vs tx).2→Jt tk st S O M X Q)∧2≤1000000∧Jf [bif He (E2 (Z48 n k ns vs tx)) fun(h:Int)=>decide (Z85 vs<U9 O (H9 ns) h) then 24 else 0,bif decide (16≤Ln X) then 5 else 0]=Jb3 S O X (n,k,ns,vs,tx)))=_).mp ?_
 delta Z31 Z48 Z53 Z55 Z57 Z66 Z85 Z86 Z93 H9 Jj2 Jqq Jt Jyg J21 J9c Kwf Br Bd T2 Tw Ln B0 E2
 intro hr hv hn hl h1
 have sp:(0≤(Vt (n,k,ns,vs,tx)).1∧(Vt (n,k,ns,vs,tx)).1≤999999999)∧0≤(Vt (n,k,ns,vs,tx)).2∧(Vt (n,k,ns,vs,tx)).2≤999999999:=⟨hv (vs.getD 1 0) (Jc (show 1<vs.length by omega)),hv (vs.getD 2 0) (Jc (show 2<vs.length by omega))⟩
 have nS:S.length≤6:=hr.nS
 refine⟨by omega,⟨by omega,hv,by omega,h1,by omega⟩,fun h=> ?_,fun h=>⟨⟨by omega,sp.1,sp.2,fun _ _ _=>hr⟩,by omega, ?_⟩⟩
 ·have h:Jhm S (n,k,ns,vs,tx)≠0:=bne_iff_ne.1 h
  unfold Jb3;rw[if_pos h];rfl
 ·have h:¬Jhm S (n,k,ns,vs,tx)≠0:=by have:=bne_eq_false_iff_eq.1 h;exact fun f=>f this
  unfold Jb3;rw[if_neg h];rfl
abbrev W68 [Sx.Dr]:=W67.add Koy
def Jct (X:List Out) (Q:List Per) (ns:List ByteArray) (vs:List Int):Int:=Jf [bif decide (vs.getD 0 0≤(L1 X (ns.getD 0 Ja)).2.2.1.1) then 21 else 0,bif decide ((L1 X (ns.getD 0 Ja)).2.2.1.2≤vs.getD 0 0) then 23 else 0,bif decide ((0:Int)<((L2 Q).filter fun p=>p.2.1.toList==(L1 X (ns.getD 0 Ja)).1.toList).length) then 32 else 0]
def J5b:Con:={args:=[Jbd,aEv],ress:=[I],owns:=[],pre:=fun(r,e,_)=>[Jk r,1≤e.2.2.1.length,1≤e.2.2.2.1.length,0≤J5 r.2.2.2.2.2.1 (e.2.2.1.getD 0 Ja)],spec:=fun((tk,st,S,O,M,X,Q),(n,k,ns,vs,tx),_)=>(Jct X Q ns vs,())}
def J9t (a:List Out) (b:Ls):=L1 a (Z87 b)
def Jsy (a:List Out) (b:Ls):=J5 a (Z87 b)
def J03 (a:List Out) (b:Ls):=0≤J5 a (Lx b)
def Ki9 (a:Ls) (b:List Out):=T2 (Z92 a) (Z54 b∧0≤Jsy b a)
def Kh2 (a b:Int) (c:List Sta) (d:List Ord) (e:List Met) (f:List Out) (g:List Per):=Jt a b c d e f g∧List.length (L2 g)≤1000000∧∀(x:Per),x∈L2 g→True
theorem Kov [Sx.Dr]:Ok Tryz.prog 164 J5b:=okW W68 Tryz.f164 na fun xx=>by
 obtain⟨⟨(tk:Int),(st:Int),(S:List Sta),(O:List Ord),(M:List Met),(X:List Out),(Q:List Per)⟩,⟨(n:Int),(k:ByteArray),(ns:List ByteArray),(vs:List Int),(tx:ByteArray)⟩,_⟩:=xx
 refine(by kernel_rfl:(Jt tk st S O M X Q→Y0 ns→Z52 vs→J03 X ns→Ki9 ns X∧Kh2 tk st S O M X Q∧T2 (Z27 vs) (T2 (Z27 vs) (3≤1000000))∧Jf [bif decide (U1 vs≤(J9t X ns).2.2.1.1) then 21 else 0,bif decide ((J9t X ns).2.2.1.2≤U1 vs) then 23 else 0,bif decide (0<Ln (List.filter (fun(x:Per)=>List.beq (ByteArray.toList x.2.1) (ByteArray.toList (J9t X ns).1)) (L2 Q))) then 32 else 0]=Jct X Q ns vs)=_).mp ?_
 delta Z27 Z52 Z54 Z66 Z87 Z92 U1 Lx Y0 Jt J9t Jsy J03 Ki9 Kh2 Bd T2 Ln B0
 intro hr h1 h2 h3
 have nX:X.length≤16:=hr.nX
 have nQ:Q.length≤16:=hr.nQ
 have:=Jdj (Q:=Q)
 refine⟨⟨by omega,by omega,by omega,h3⟩,⟨hr,by omega,fun _ _=>trivial⟩,by omega,rfl⟩
abbrev W69 [Sx.Dr]:=W68.add Kov
def Jcu (X:List Out) (Q:List Per) (ns:List ByteArray) (vs:List Int):Int:=Jf [bif !Ko (L1 X (ns.getD 1 Ja)).2.2.1 (vs.getD 0 0) then 22 else 0,bif decide ((16:Int)≤Q.length) then 5 else 0]
def J5c:Con:={args:=[Jbd,aEv],ress:=[I],owns:=[],pre:=fun(r,e,_)=>[Jk r,2≤e.2.2.1.length,1≤e.2.2.2.1.length,0≤J5 r.2.2.2.2.2.1 (e.2.2.1.getD 1 Ja)],spec:=fun((tk,st,S,O,M,X,Q),(n,k,ns,vs,tx),_)=>(Jcu X Q ns vs,())}
def Jyl (a:Ls):=2≤List.length a
theorem Kot [Sx.Dr]:Ok Tryz.prog 166 J5c:=okW W69 Tryz.f166 na fun xx=>by
 obtain⟨⟨(tk:Int),(st:Int),(S:List Sta),(O:List Ord),(M:List Met),(X:List Out),(Q:List Per)⟩,⟨(n:Int),(k:ByteArray),(ns:List ByteArray),(vs:List Int),(tx:ByteArray)⟩,_⟩:=xx
 refine(by kernel_rfl:(Jt tk st S O M X Q→Jyl ns→Z52 vs→0≤J5 X (Jj2 ns)→T2 (Z93 ns) (Z54 X∧0≤J5 X (H9 ns)∧T2 (Z27 vs) (2≤1000000))∧Jf [bif !Ko (E2 (L1 X (H9 ns)).2.2.1) (U1 vs) then 22 else 0,bif decide (16≤Ln Q) then 5 else 0]=Jcu X Q ns vs)=_).mp ?_
 delta Z27 Z52 Z54 Z66 Z93 U1 H9 Jj2 Jyl Jt Bd T2 Ln B0 E2
 intro hr h1 h2 h3
 have nX:X.length≤16:=hr.nX
 repeat' first|assumption|exact rfl|trivial|omega|apply And.intro|intro _
abbrev W70 [Sx.Dr]:=W69.add Kot
def Jn3 (Q:List Per) (ns:List ByteArray):Int:=bif !(Jmf Q (ns.getD 0 Ja)).2.2 then 23 else 0
def Kbz:Con:={args:=[Jbd,aEv],ress:=[I],owns:=[],pre:=fun(r,e,_)=>[Jk r,1≤e.2.2.1.length,0≤Uz r.2.2.2.2.2.2 (e.2.2.1.getD 0 Ja)],spec:=fun((tk,st,S,O,M,X,Q),(n,k,ns,vs,tx),_)=>(Jn3 Q ns,())}
def Jsd (a:List Per) (b:Ls):=Uz a (Z87 b)
def J02 (a:List Per) (b:Ls):=0≤Uz a (Lx b)
theorem Koq [Sx.Dr]:Ok Tryz.prog 169 Kbz:=okW W70 Tryz.f169 na fun xx=>by
 obtain⟨⟨(tk:Int),(st:Int),(S:List Sta),(O:List Ord),(M:List Met),(X:List Out),(Q:List Per)⟩,⟨(n:Int),(k:ByteArray),(ns:List ByteArray),(vs:List Int),(tx:ByteArray)⟩,_⟩:=xx
 refine(by kernel_rfl:(Jt tk st S O M X Q→Y0 ns→J02 Q ns→T2 (Z92 ns) (Z45 Q∧0≤Jsd Q ns)∧(bif !(Jmf Q (Z87 ns)).2.2 then 23 else 0)=Jn3 Q ns)=_).mp ?_
 delta Z45 Z66 Z87 Z92 Lx Y0 Jt Jsd J02 Bd T2 Ln B0
 intro hr h1 h3
 have nQ:Q.length≤16:=hr.nQ
 repeat' first|assumption|exact rfl|trivial|omega|apply And.intro|intro _
abbrev W71 [Sx.Dr]:=W70.add Koq
def Lu (st:Int) (O:List Ord) (M:List Met) (X:List Out) (Q:List Per) (vs:List Int):Int:=bif (bif decide (vs.getD 1 0≤st) then true else decide (vs.getD 0 0<vs.getD 1 0)) then 14 else bif (bif decide ((0:Int)<(Ke M (vs.getD 1 0) O).length) then true else decide ((0:Int)<((L2 Q).filter fun p=>decide ((L1 X p.2.1).2.2.1.2≤vs.getD 1 0)).length)) then 32 else 0
def J5a:Con:={args:=[Jbd,aEv],ress:=[I],owns:=[],pre:=fun(r,e,_)=>[Jk r,2≤e.2.2.2.1.length],spec:=fun((tk,st,S,O,M,X,Q),(n,k,ns,vs,tx),_)=>(Lu st O M X Q vs,())}
def Kfs (a:Li) (b:Int):=decide (Z89 a≤b)
def Kj6 (a:Li) (b:Int):=Tw (Kfs a b=false→Z27 a)
def Kip (a:Li) (b:Int):=bif Kfs a b then true else decide (U1 a<Z89 a)
theorem Koo [Sx.Dr]:Ok Tryz.prog 171 J5a:=okW W71 Tryz.f171 na fun xx=>by
 obtain⟨⟨(tk:Int),(st:Int),(S:List Sta),(O:List Ord),(M:List Met),(X:List Out),(Q:List Per)⟩,⟨(n:Int),(k:ByteArray),(ns:List ByteArray),(vs:List Int),(tx:ByteArray)⟩,_⟩:=xx
 refine(by kernel_rfl:(Jt tk st S O M X Q→Z59 vs→Z96 vs∧Kj6 vs st∧Br (Kip vs st) (14=Lu st O M X Q vs) ((Jt tk st S O M X Q∧List.length (L2 Q)≤1000000∧∀(x:Per),x∈L2 Q→Jt tk st S O M X Q∧0≤J5 X x.2.1)∧Jt tk st S O M X Q∧(bif bif decide (0<Ln (Ke M (Z89 vs) O)) then true else decide (0<Ln (List.filter (fun(x:Per)=>decide ((L1 X x.2.1).2.2.1.2≤Z89 vs)) (L2 Q))) then 32 else 0)=Lu st O M X Q vs))=_).mp ?_
 delta Z27 Z32 Z59 Z66 Z89 Z96 U1 Jt Kfs Kj6 Kip Br Bd Tw Ln
 intro hr h1
 have nQ:Q.length≤16:=hr.nQ
 have:=Jdj (Q:=Q)
 refine⟨by omega,⟨fun _=>by omega,fun _=>by omega⟩,fun h=> ?_,fun h=>⟨⟨hr,by omega,fun x hx=>⟨hr,hr.per x (Jlb hx)⟩⟩,hr, ?_⟩⟩
 ·unfold Lu;rw[h];rfl
 ·unfold Lu;rw[h];rfl
abbrev W72 [Sx.Dr]:=W71.add Koo
abbrev Jx2 (pre:Reg→Ev→List Prop) (post:Reg→Ev→Reg):Xt:={T? :=some 105,s:=Jm3,args:=[aEv],ress:=[],pre:=fun r (e,_)=>pre r e,spec:=fun _ _=>(),post:=fun r (e,_)=>post r e}
def Fw (O:List Ord) (s:ByteArray) (v:Int):List Ord:=O.set (Ku O s).toNat ((Xy O s).1,(Xy O s).2.1,(Xy O s).2.2.1,(Xy O s).2.2.2.1,(Xy O s).2.2.2.2.1,(Xy O s).2.2.2.2.2.1,v)
def Jd7 (X:List Out) (s:ByteArray) (v:Int):List Out:=X.set (J5 X s).toNat ((L1 X s).1,(L1 X s).2.1,((L1 X s).2.2.1.1,v),(L1 X s).2.2.2)
def Fx (Q:List Per) (s:ByteArray):List Per:=Q.set (Uz Q s).toNat ((Jmf Q s).1,(Jmf Q s).2.1,false)
def Jay:Reg→Ev→Reg:=fun(tk,st,S,O,M,X,Q) (n,k,ns,vs,tx)=>(tk,st,S++[(ns.getD 0 Ja,vs.getD 1 0,0)],O,M,X,Q)
def Jwc:Xt:=Jx2 (fun r e=>[Jk r,1≤e.2.2.1.length,2≤e.2.2.2.1.length]) Jay
def Kj5 (a:List Sta) (b:Ls) (c:Li):=a++[(Z87 b,Z89 c,0)]
def Kjb (a:Ls) (b:Li) (c:List Sta):=T2 (Z92 a) (T2 (Z32 b) ((List.length c+1)*32≤140737488355328))
theorem Kmn [Sx.Dr] (tk st:Int) (S:List Sta) (O:List Ord) (M:List Met) (X:List Out) (Q:List Per) (n:Int) (k:ByteArray) (ns:List ByteArray) (vs:List Int) (tx:ByteArray):wpFO Tryz.prog W72.g (na ()) (fun _=>na ()) (Sx.look ([]:List (Nat×Func))) Tryz.f149 Jwc 105 (tk,st,S,O,M,X,Q) ((n,k,ns,vs,tx),()):=by
 refine(by kernel_rfl:(Jt tk st S O M X Q→Y0 ns→Z59 vs→Kjb ns vs S∧Sf true (Sf 105 ((tk,st,Kj5 S ns vs,O,M,X,Q)=Jay (Z66 tk st S O M X Q) (n,k,ns,vs,tx))))=_).mp ?_
 delta Z32 Z59 Z66 Z87 Z89 Z92 Y0 Jt Kj5 Kjb Bd T2 Sf Ln B0
 intro hr
 have nS:S.length≤6:=hr.nS
 have nO:O.length≤32:=hr.nO
 have nM:M.length≤10000:=hr.nM
 have nX:X.length≤16:=hr.nX
 have nQ:Q.length≤16:=hr.nQ
 intros
 repeat' first|assumption|exact rfl|trivial|omega|exact Kz|exact Uy|exact Uo|exact Ux|apply And.intro|intro _
theorem Kpa [Sx.Dr]:Ok Tryz.prog 149 (Xt.con Jwc):=Xz (K9 mixed W72.ok (by kernel_rfl) (by kernel_rfl) (U6 (l:=([]:List (Nat×Func))) (by simp)) (fun xx yy=>na ()) (fun xx yy=>fun _=>na ()) fun T xx yy hT=>by obtain rfl:=hT _ rfl;exact Kmn xx.1 xx.2.1 xx.2.2.1 xx.2.2.2.1 xx.2.2.2.2.1 xx.2.2.2.2.2.1 xx.2.2.2.2.2.2 yy.1.1 yy.1.2.1 yy.1.2.2.1 yy.1.2.2.2.1 yy.1.2.2.2.2)
abbrev W73 [Sx.Dr]:=W72.add Kpa
def Fk:Reg→Ev→Reg:=fun(tk,st,S,O,M,X,Q) (n,k,ns,vs,tx)=>(tk,st,S.set (Jx S (ns.getD 0 Ja)).toNat ((Hl S (ns.getD 0 Ja)).1,(Hl S (ns.getD 0 Ja)).2.1,vs.getD 1 0),O,M,X,Q)
def Jv9:Xt:=Jx2 (fun r e=>[Jk r,1≤e.2.2.1.length,2≤e.2.2.2.1.length,0≤Jx r.2.2.1 (e.2.2.1.getD 0 Ja)]) Fk
def J26 (a:List Sta) (b:Ls):=Jx a (Z87 b)
def K0y (a:List Sta) (b:Ls):=Gt a (J26 a b) Z10
theorem Kmm [Sx.Dr] (tk st:Int) (S:List Sta) (O:List Ord) (M:List Met) (X:List Out) (Q:List Per) (n:Int) (k:ByteArray) (ns:List ByteArray) (vs:List Int) (tx:ByteArray):wpFO Tryz.prog W73.g (na ()) (fun _=>na ()) (Sx.look ([]:List (Nat×Func))) Tryz.f153 Jv9 105 (tk,st,S,O,M,X,Q) ((n,k,ns,vs,tx),()):=by
 refine(by kernel_rfl:(Jt tk st S O M X Q→Y0 ns→Z59 vs→0≤Jx S (Lx ns)→T2 (Z92 ns) (Z55 S∧T2 (Z32 vs) (Tw (Bd (J26 S ns) (Ln S))))∧Sf true (Sf 105 ((tk,st,List.set S (Int.toNat (J26 S ns)) ((K0y S ns).1,(K0y S ns).2.1,Z89 vs),O,M,X,Q)=Fk (Z66 tk st S O M X Q) (n,k,ns,vs,tx))))=_).mp ?_
 delta Z10 Z32 Z55 Z59 Z66 Z87 Z89 Z92 Lx Y0 Jt J26 K0y Bd T2 Tw Sf Ln Gt B0
 intro hr
 have nS:S.length≤6:=hr.nS
 have nO:O.length≤32:=hr.nO
 have nM:M.length≤10000:=hr.nM
 have nX:X.length≤16:=hr.nX
 have nQ:Q.length≤16:=hr.nQ
 intros
 repeat' first|assumption|exact rfl|trivial|omega|exact Kz|exact Uy|exact Uo|exact Ux|apply And.intro|intro _
theorem Ko6 [Sx.Dr]:Ok Tryz.prog 153 (Xt.con Jv9):=Xz (K9 mixed W73.ok (by kernel_rfl) (by kernel_rfl) (U6 (l:=([]:List (Nat×Func))) (by simp)) (fun xx yy=>na ()) (fun xx yy=>fun _=>na ()) fun T xx yy hT=>by obtain rfl:=hT _ rfl;exact Kmm xx.1 xx.2.1 xx.2.2.1 xx.2.2.2.1 xx.2.2.2.2.1 xx.2.2.2.2.2.1 xx.2.2.2.2.2.2 yy.1.1 yy.1.2.1 yy.1.2.2.1 yy.1.2.2.2.1 yy.1.2.2.2.2)
abbrev W74 [Sx.Dr]:=W73.add Ko6
def Fo:Reg→Ev→Reg:=fun(tk,st,S,O,M,X,Q) (n,k,ns,vs,tx)=>(tk,st,S,O++[(ns.getD 0 Ja,ns.getD 1 Ja,ns.getD 2 Ja,Vt (n,k,ns,vs,tx),vs.getD 3 0,(Hl S (ns.getD 1 Ja)).2.2,-1)],M,X,Q)
def Jwe:Xt:=Jx2 (fun r e=>[Jk r,e.2.2.1.length=3,e.2.2.2.1.length=4,0≤Jx r.2.2.1 (e.2.2.1.getD 1 Ja)]) Fo
theorem Kml [Sx.Dr] (tk st:Int) (S:List Sta) (O:List Ord) (M:List Met) (X:List Out) (Q:List Per) (n:Int) (k:ByteArray) (ns:List ByteArray) (vs:List Int) (tx:ByteArray):wpFO Tryz.prog W74.g (na ()) (fun _=>na ()) (Sx.look ([]:List (Nat×Func))) Tryz.f155 Jwe 105 (tk,st,S,O,M,X,Q) ((n,k,ns,vs,tx),()):=by
 refine(by kernel_rfl:(Jt tk st S O M X Q→Jsz ns→Z57 vs→J9c S ns→T2 (Z92 ns) (T2 (Z93 ns) (T2 (Z98 ns) (Z53 vs∧T2 (Z31 vs) (T2 (Z93 ns) (Z55 S∧J21 S ns∧(List.length O+1)*88≤140737488355328)))))∧Sf true (Sf 105 ((tk,st,S,O++[(Z87 ns,H9 ns,Z91 ns,E2 (Z48 n k ns vs tx),Z85 vs,(Hl S (H9 ns)).2.2,Z68)],M,X,Q)=Fo (Z66 tk st S O M X Q) (n,k,ns,vs,tx))))=_).mp ?_
 delta Z31 Z48 Z53 Z55 Z57 Z66 Z68 Z85 Z87 Z91 Z92 Z93 Z98 H9 Jj2 Jsz Jt Jyg J21 J9c Bd T2 Sf Ln B0 E2
 intro hr
 have nS:S.length≤6:=hr.nS
 have nO:O.length≤32:=hr.nO
 have nM:M.length≤10000:=hr.nM
 have nX:X.length≤16:=hr.nX
 have nQ:Q.length≤16:=hr.nQ
 intros
 repeat' first|assumption|exact rfl|trivial|omega|exact Kz|exact Uy|exact Uo|exact Ux|apply And.intro|intro _
theorem Ko4 [Sx.Dr]:Ok Tryz.prog 155 (Xt.con Jwe):=Xz (K9 mixed W74.ok (by kernel_rfl) (by kernel_rfl) (U6 (l:=([]:List (Nat×Func))) (by simp)) (fun xx yy=>na ()) (fun xx yy=>fun _=>na ()) fun T xx yy hT=>by obtain rfl:=hT _ rfl;exact Kml xx.1 xx.2.1 xx.2.2.1 xx.2.2.2.1 xx.2.2.2.2.1 xx.2.2.2.2.2.1 xx.2.2.2.2.2.2 yy.1.1 yy.1.2.1 yy.1.2.2.1 yy.1.2.2.2.1 yy.1.2.2.2.2)
abbrev W75 [Sx.Dr]:=W74.add Ko4
def Fp:Reg→Ev→Reg:=fun(tk,st,S,O,M,X,Q) (n,k,ns,vs,tx)=>(tk,st,S,O,M++[(ns.getD 0 Ja,vs.getD 1 0,vs.getD 2 0,vs.getD 3 0)],X,Q)
def Jwf:Xt:=Jx2 (fun r e=>[Jk r,1≤e.2.2.1.length,4≤e.2.2.2.1.length]) Fp
def Kjx (a:Li):=(Z89 a,Z90 a,Z85 a)
def Kic (a:Li) (b:List Met):=T2 (Z32 a) (T2 (Z25 a) (T2 (Z31 a) ((List.length b+1)*40≤140737488355328)))
theorem Kmk [Sx.Dr] (tk st:Int) (S:List Sta) (O:List Ord) (M:List Met) (X:List Out) (Q:List Per) (n:Int) (k:ByteArray) (ns:List ByteArray) (vs:List Int) (tx:ByteArray):wpFO Tryz.prog W75.g (na ()) (fun _=>na ()) (Sx.look ([]:List (Nat×Func))) Tryz.f158 Jwf 105 (tk,st,S,O,M,X,Q) ((n,k,ns,vs,tx),()):=by
 refine(by kernel_rfl:(Jt tk st S O M X Q→Y0 ns→Z60 vs→T2 (Z92 ns) (Kic vs M)∧Sf true (Sf 105 ((tk,st,S,O,M++[(Z87 ns,Kjx vs)],X,Q)=Fp (Z66 tk st S O M X Q) (n,k,ns,vs,tx))))=_).mp ?_
 delta Z25 Z31 Z32 Z60 Z66 Z85 Z87 Z89 Z90 Z92 Y0 Jt Kjx Kic Bd T2 Sf Ln B0
 intro hr
 have nS:S.length≤6:=hr.nS
 have nO:O.length≤32:=hr.nO
 have nM:M.length≤10000:=hr.nM
 have nX:X.length≤16:=hr.nX
 have nQ:Q.length≤16:=hr.nQ
 intros
 repeat' first|assumption|exact rfl|trivial|omega|exact Kz|exact Uy|exact Uo|exact Ux|apply And.intro|intro _
theorem Ko1 [Sx.Dr]:Ok Tryz.prog 158 (Xt.con Jwf):=Xz (K9 mixed W75.ok (by kernel_rfl) (by kernel_rfl) (U6 (l:=([]:List (Nat×Func))) (by simp)) (fun xx yy=>na ()) (fun xx yy=>fun _=>na ()) fun T xx yy hT=>by obtain rfl:=hT _ rfl;exact Kmk xx.1 xx.2.1 xx.2.2.1 xx.2.2.2.1 xx.2.2.2.2.1 xx.2.2.2.2.2.1 xx.2.2.2.2.2.2 yy.1.1 yy.1.2.1 yy.1.2.2.1 yy.1.2.2.2.1 yy.1.2.2.2.2)
abbrev W76 [Sx.Dr]:=W75.add Ko1
def Fj:Reg→Ev→Reg:=fun(tk,st,S,O,M,X,Q) (n,k,ns,vs,tx)=>(tk,st,S,Fw O (ns.getD 0 Ja) (vs.getD 0 0),M,X,Q)
def Jv7:Xt:=Jx2 (fun r e=>[Jk r,1≤e.2.2.1.length,1≤e.2.2.2.1.length,0≤Ku r.2.2.2.1 (e.2.2.1.getD 0 Ja)]) Fj
def Kx4 (a:List Ord) (b:Ls):=Gt a (Jqp a b) Jgd
def Kxs (a:List Ord) (b:Ls):=(Kx4 a b).2
def Kxq (a:List Ord) (b:Ls):=(Kxs a b).2
def Kxm (a:List Ord) (b:Ls):=(Kxq a b).2
def Kxi (a:List Ord) (b:Ls):=(Kxm a b).2
theorem Kmj [Sx.Dr] (tk st:Int) (S:List Sta) (O:List Ord) (M:List Met) (X:List Out) (Q:List Per) (n:Int) (k:ByteArray) (ns:List ByteArray) (vs:List Int) (tx:ByteArray):wpFO Tryz.prog W76.g (na ()) (fun _=>na ()) (Sx.look ([]:List (Nat×Func))) Tryz.f160 Jv7 105 (tk,st,S,O,M,X,Q) ((n,k,ns,vs,tx),()):=by
 refine(by kernel_rfl:(Jt tk st S O M X Q→Y0 ns→Z52 vs→Jsw O ns→T2 (Z92 ns) (Z56 O∧T2 (Z27 vs) (Tw (Bd (Jqp O ns) (Ln O))))∧Sf true (Sf 105 ((tk,st,S,List.set O (Int.toNat (Jqp O ns)) ((Kx4 O ns).1,(Kxs O ns).1,(Kxq O ns).1,E2 (Kxm O ns).1,(Kxi O ns).1,(Kxi O ns).2.1,U1 vs),M,X,Q)=Fj (Z66 tk st S O M X Q) (n,k,ns,vs,tx))))=_).mp ?_
 delta Z27 Z52 Z56 Z66 Z70 Z87 Z92 U1 Lx Y0 Jt Jqp Jsw Jgd Kx4 Kxs Kxq Kxm Kxi Bd T2 Tw Sf Ln Gt B0 E2
 intro hr
 have nS:S.length≤6:=hr.nS
 have nO:O.length≤32:=hr.nO
 have nM:M.length≤10000:=hr.nM
 have nX:X.length≤16:=hr.nX
 have nQ:Q.length≤16:=hr.nQ
 intros
 repeat' first|assumption|exact rfl|trivial|omega|exact Kz|exact Uy|exact Uo|exact Ux|apply And.intro|intro _
theorem Koz [Sx.Dr]:Ok Tryz.prog 160 (Xt.con Jv7):=Xz (K9 mixed W76.ok (by kernel_rfl) (by kernel_rfl) (U6 (l:=([]:List (Nat×Func))) (by simp)) (fun xx yy=>na ()) (fun xx yy=>fun _=>na ()) fun T xx yy hT=>by obtain rfl:=hT _ rfl;exact Kmj xx.1 xx.2.1 xx.2.2.1 xx.2.2.2.1 xx.2.2.2.2.1 xx.2.2.2.2.2.1 xx.2.2.2.2.2.2 yy.1.1 yy.1.2.1 yy.1.2.2.1 yy.1.2.2.2.1 yy.1.2.2.2.2)
abbrev W77 [Sx.Dr]:=W76.add Koz
def Fm:Reg→Ev→Reg:=fun(tk,st,S,O,M,X,Q) (n,k,ns,vs,tx)=>(tk,st,S,O,M,X++[(ns.getD 0 Ja,ns.getD 1 Ja,Vt (n,k,ns,vs,tx),vs.getD 3 0)],Q)
def Jwb:Xt:=Jx2 (fun r e=>[Jk r,e.2.2.1.length=2,e.2.2.2.1.length=4]) Fm
def Kku (a:Li) (b:List Out):=T2 (Z31 a) ((List.length b+1)*56≤140737488355328)
theorem Kmi [Sx.Dr] (tk st:Int) (S:List Sta) (O:List Ord) (M:List Met) (X:List Out) (Q:List Per) (n:Int) (k:ByteArray) (ns:List ByteArray) (vs:List Int) (tx:ByteArray):wpFO Tryz.prog W77.g (na ()) (fun _=>na ()) (Sx.look ([]:List (Nat×Func))) Tryz.f162 Jwb 105 (tk,st,S,O,M,X,Q) ((n,k,ns,vs,tx),()):=by
 refine(by kernel_rfl:(Jt tk st S O M X Q→Jqq ns→Z57 vs→T2 (Z92 ns) (T2 (Z93 ns) (Z53 vs∧Kku vs X))∧Sf true (Sf 105 ((tk,st,S,O,M,X++[(Z87 ns,H9 ns,E2 (Z48 n k ns vs tx),Z85 vs)],Q)=Fm (Z66 tk st S O M X Q) (n,k,ns,vs,tx))))=_).mp ?_
 delta Z31 Z48 Z53 Z57 Z66 Z85 Z87 Z92 Z93 H9 Jqq Jt Kku Bd T2 Sf Ln B0 E2
 intro hr
 have nS:S.length≤6:=hr.nS
 have nO:O.length≤32:=hr.nO
 have nM:M.length≤10000:=hr.nM
 have nX:X.length≤16:=hr.nX
 have nQ:Q.length≤16:=hr.nQ
 intros
 repeat' first|assumption|exact rfl|trivial|omega|exact Kz|exact Uy|exact Uo|exact Ux|apply And.intro|intro _
theorem Kox [Sx.Dr]:Ok Tryz.prog 162 (Xt.con Jwb):=Xz (K9 mixed W77.ok (by kernel_rfl) (by kernel_rfl) (U6 (l:=([]:List (Nat×Func))) (by simp)) (fun xx yy=>na ()) (fun xx yy=>fun _=>na ()) fun T xx yy hT=>by obtain rfl:=hT _ rfl;exact Kmi xx.1 xx.2.1 xx.2.2.1 xx.2.2.2.1 xx.2.2.2.2.1 xx.2.2.2.2.2.1 xx.2.2.2.2.2.2 yy.1.1 yy.1.2.1 yy.1.2.2.1 yy.1.2.2.2.1 yy.1.2.2.2.2)
abbrev W78 [Sx.Dr]:=W77.add Kox
def Fl:Reg→Ev→Reg:=fun(tk,st,S,O,M,X,Q) (n,k,ns,vs,tx)=>(tk,st,S,O,M,Jd7 X (ns.getD 0 Ja) (vs.getD 0 0),Q)
def Jwa:Xt:=Jx2 (fun r e=>[Jk r,1≤e.2.2.1.length,1≤e.2.2.2.1.length,0≤J5 r.2.2.2.2.2.1 (e.2.2.1.getD 0 Ja)]) Fl
def K0b (a:List Out) (b:Ls):=Gt a (Jsy a b) Jc9
def Kz8 (a:List Out) (b:Ls):=(K0b a b).2
def Kz5 (a:List Out) (b:Ls):=(Kz8 a b).2
theorem Kmh [Sx.Dr] (tk st:Int) (S:List Sta) (O:List Ord) (M:List Met) (X:List Out) (Q:List Per) (n:Int) (k:ByteArray) (ns:List ByteArray) (vs:List Int) (tx:ByteArray):wpFO Tryz.prog W78.g (na ()) (fun _=>na ()) (Sx.look ([]:List (Nat×Func))) Tryz.f165 Jwa 105 (tk,st,S,O,M,X,Q) ((n,k,ns,vs,tx),()):=by
 refine(by kernel_rfl:(Jt tk st S O M X Q→Y0 ns→Z52 vs→J03 X ns→T2 (Z92 ns) (Z54 X∧T2 (Z27 vs) (Tw (Bd (Jsy X ns) (Ln X))))∧Sf true (Sf 105 ((tk,st,S,O,M,List.set X (Int.toNat (Jsy X ns)) ((K0b X ns).1,(Kz8 X ns).1,((Kz5 X ns).1.1,U1 vs),(Kz5 X ns).2),Q)=Fl (Z66 tk st S O M X Q) (n,k,ns,vs,tx))))=_).mp ?_
 delta Z27 Z52 Z54 Z66 Z87 Z92 U1 Lx Y0 Jt Jc9 Jsy J03 K0b Kz8 Kz5 Bd T2 Tw Sf Ln Gt B0
 intro hr
 have nS:S.length≤6:=hr.nS
 have nO:O.length≤32:=hr.nO
 have nM:M.length≤10000:=hr.nM
 have nX:X.length≤16:=hr.nX
 have nQ:Q.length≤16:=hr.nQ
 intros
 repeat' first|assumption|exact rfl|trivial|omega|exact Kz|exact Uy|exact Uo|exact Ux|apply And.intro|intro _
theorem Kou [Sx.Dr]:Ok Tryz.prog 165 (Xt.con Jwa):=Xz (K9 mixed W78.ok (by kernel_rfl) (by kernel_rfl) (U6 (l:=([]:List (Nat×Func))) (by simp)) (fun xx yy=>na ()) (fun xx yy=>fun _=>na ()) fun T xx yy hT=>by obtain rfl:=hT _ rfl;exact Kmh xx.1 xx.2.1 xx.2.2.1 xx.2.2.2.1 xx.2.2.2.2.1 xx.2.2.2.2.2.1 xx.2.2.2.2.2.2 yy.1.1 yy.1.2.1 yy.1.2.2.1 yy.1.2.2.2.1 yy.1.2.2.2.2)
abbrev W79 [Sx.Dr]:=W78.add Kou
def Fn:Reg→Ev→Reg:=fun(tk,st,S,O,M,X,Q) (n,k,ns,vs,tx)=>(tk,st,S,O,M,X,Q++[(ns.getD 0 Ja,ns.getD 1 Ja,true)])
def Jwd:Xt:=Jx2 (fun r e=>[Jk r,2≤e.2.2.1.length]) Fn
def Kj1 (a:List Out) (b:List Per) (c:Ls):=(a,b++[(Z87 c,H9 c,true)])
def Kiz (a:Ls) (b:List Per):=T2 (Z92 a) (T2 (Z93 a) ((List.length b+1)*40≤140737488355328))
theorem Kmg [Sx.Dr] (tk st:Int) (S:List Sta) (O:List Ord) (M:List Met) (X:List Out) (Q:List Per) (n:Int) (k:ByteArray) (ns:List ByteArray) (vs:List Int) (tx:ByteArray):wpFO Tryz.prog W79.g (na ()) (fun _=>na ()) (Sx.look ([]:List (Nat×Func))) Tryz.f167 Jwd 105 (tk,st,S,O,M,X,Q) ((n,k,ns,vs,tx),()):=by
 refine(by kernel_rfl:(Jt tk st S O M X Q→Jyl ns→Kiz ns Q∧Sf true (Sf 105 ((tk,st,S,O,M,Kj1 X Q ns)=Fn (Z66 tk st S O M X Q) (n,k,ns,vs,tx))))=_).mp ?_
 delta Z66 Z87 Z92 Z93 H9 Jyl Jt Kj1 Kiz Bd T2 Sf Ln B0
 intro hr
 have nS:S.length≤6:=hr.nS
 have nO:O.length≤32:=hr.nO
 have nM:M.length≤10000:=hr.nM
 have nX:X.length≤16:=hr.nX
 have nQ:Q.length≤16:=hr.nQ
 intros
 repeat' first|assumption|exact rfl|trivial|omega|exact Kz|exact Uy|exact Uo|exact Ux|apply And.intro|intro _
theorem Kos [Sx.Dr]:Ok Tryz.prog 167 (Xt.con Jwd):=Xz (K9 mixed W79.ok (by kernel_rfl) (by kernel_rfl) (U6 (l:=([]:List (Nat×Func))) (by simp)) (fun xx yy=>na ()) (fun xx yy=>fun _=>na ()) fun T xx yy hT=>by obtain rfl:=hT _ rfl;exact Kmg xx.1 xx.2.1 xx.2.2.1 xx.2.2.2.1 xx.2.2.2.2.1 xx.2.2.2.2.2.1 xx.2.2.2.2.2.2 yy.1.1 yy.1.2.1 yy.1.2.2.1 yy.1.2.2.2.1 yy.1.2.2.2.2)
abbrev W80 [Sx.Dr]:=W79.add Kos
def Jgq:Reg→Ev→Reg:=fun(tk,st,S,O,M,X,Q) (n,k,ns,vs,tx)=>(tk,st,S,O,M,X,Fx Q (ns.getD 0 Ja))
def J2n:Xt:=Jx2 (fun r e=>[Jk r,1≤e.2.2.1.length,0≤Uz r.2.2.2.2.2.2 (e.2.2.1.getD 0 Ja)]) Jgq
theorem Kmf [Sx.Dr] (tk st:Int) (S:List Sta) (O:List Ord) (M:List Met) (X:List Out) (Q:List Per) (n:Int) (k:ByteArray) (ns:List ByteArray) (vs:List Int) (tx:ByteArray):wpFO Tryz.prog W80.g (na ()) (fun _=>na ()) (Sx.look ([]:List (Nat×Func))) Tryz.f170 J2n 105 (tk,st,S,O,M,X,Q) ((n,k,ns,vs,tx),()):=by
 refine(by kernel_rfl:(Jt tk st S O M X Q→Y0 ns→J02 Q ns→T2 (Z92 ns) (Z45 Q∧Tw (Bd (Jsd Q ns) (Ln Q)))∧Sf true (Sf 105 ((tk,st,S,O,M,X,List.set Q (Int.toNat (Jsd Q ns)) ((Gt Q (Jsd Q ns) (B0,B0,false)).1,(Gt Q (Jsd Q ns) (B0,B0,false)).2.1,false))=Jgq (Z66 tk st S O M X Q) (n,k,ns,vs,tx))))=_).mp ?_
 delta Z45 Z66 Z87 Z92 Lx Y0 Jt Jsd J02 Bd T2 Tw Sf Ln Gt B0
 intro hr
 have nS:S.length≤6:=hr.nS
 have nO:O.length≤32:=hr.nO
 have nM:M.length≤10000:=hr.nM
 have nX:X.length≤16:=hr.nX
 have nQ:Q.length≤16:=hr.nQ
 intros
 repeat' first|assumption|exact rfl|trivial|omega|exact Kz|exact Uy|exact Uo|exact Ux|apply And.intro|intro _
theorem Kop [Sx.Dr]:Ok Tryz.prog 170 (Xt.con J2n):=Xz (K9 mixed W80.ok (by kernel_rfl) (by kernel_rfl) (U6 (l:=([]:List (Nat×Func))) (by simp)) (fun xx yy=>na ()) (fun xx yy=>fun _=>na ()) fun T xx yy hT=>by obtain rfl:=hT _ rfl;exact Kmf xx.1 xx.2.1 xx.2.2.1 xx.2.2.2.1 xx.2.2.2.2.1 xx.2.2.2.2.2.1 xx.2.2.2.2.2.2 yy.1.1 yy.1.2.1 yy.1.2.2.1 yy.1.2.2.2.1 yy.1.2.2.2.2)
abbrev W81 [Sx.Dr]:=W80.add Kop
def Jax:Reg→Ev→Reg:=fun(tk,st,S,O,M,X,Q) (n,k,ns,vs,tx)=>(tk,vs.getD 1 0,S,O,M,X,Q)
def Jv8:Xt:=Jx2 (fun r e=>[Jk r,2≤e.2.2.2.1.length]) Jax
theorem Kme [Sx.Dr] (tk st:Int) (S:List Sta) (O:List Ord) (M:List Met) (X:List Out) (Q:List Per) (n:Int) (k:ByteArray) (ns:List ByteArray) (vs:List Int) (tx:ByteArray):wpFO Tryz.prog W81.g (na ()) (fun _=>na ()) (Sx.look ([]:List (Nat×Func))) Tryz.f172 Jv8 105 (tk,st,S,O,M,X,Q) ((n,k,ns,vs,tx),()):=by
 refine(by kernel_rfl:(Jt tk st S O M X Q→Z59 vs→Z96 vs∧Sf true (Sf 105 ((tk,Z89 vs,S,O,M,X,Q)=Jax (Z66 tk st S O M X Q) (n,k,ns,vs,tx))))=_).mp ?_
 delta Z32 Z59 Z66 Z89 Z96 Jt Bd Tw Sf Ln
 intro hr
 have nS:S.length≤6:=hr.nS
 have nO:O.length≤32:=hr.nO
 have nM:M.length≤10000:=hr.nM
 have nX:X.length≤16:=hr.nX
 have nQ:Q.length≤16:=hr.nQ
 intros
 repeat' first|assumption|exact rfl|trivial|omega|exact Kz|exact Uy|exact Uo|exact Ux|apply And.intro|intro _
theorem Kon [Sx.Dr]:Ok Tryz.prog 172 (Xt.con Jv8):=Xz (K9 mixed W81.ok (by kernel_rfl) (by kernel_rfl) (U6 (l:=([]:List (Nat×Func))) (by simp)) (fun xx yy=>na ()) (fun xx yy=>fun _=>na ()) fun T xx yy hT=>by obtain rfl:=hT _ rfl;exact Kme xx.1 xx.2.1 xx.2.2.1 xx.2.2.2.1 xx.2.2.2.2.1 xx.2.2.2.2.2.1 xx.2.2.2.2.2.2 yy.1.1 yy.1.2.1 yy.1.2.2.1 yy.1.2.2.2.1 yy.1.2.2.2.2)
abbrev W82 [Sx.Dr]:=W81.add Kon
end Go.Proofs.YtcibbcfiemeoiaaGreatDoor
namespace Go.Proofs.YtcibbcfiemeoiaaGreatDoor
instance drOff:Sx.Dr:=Sx.Dr.off
open Go.Sx
def Jcv (T:TypeId) (s:Sch):Con:={args:=[.val false (.list T s)],ress:=[(false, .list T s)],owns:=[true],pre:=fun(l,_)=>[l.length≤1000000],spec:=fun(l,_)=>(l,())}
theorem Jk4 {M:Nat→Prop} {w:World}:∀{xs:List Int} {flat:List Value},V6 (Rep M w (.int .i64)) xs flat→flat=xs.map (Value.int .i64)
 |[],_,h=>h
 |x::xs,_,⟨c1,c2,rfl,h1,h2⟩=>by
  have h1:c1=[.int .i64 x]:=h1
  rw[h1,Jk4 h2];rfl
theorem Jo3 {M:Nat→Prop} {w:World}:∀(xs:List Int),V6 (Rep M w (.int .i64)) xs (xs.map (Value.int .i64))
 |[]=>rfl
 |x::xs=>⟨[.int .i64 x],xs.map (Value.int .i64),rfl,rfl,Jo3 xs⟩
theorem Jec {M:Nat→Prop} {w:World}:∀{xs:List ByteArray} {flat:List Value},V6 (Rep M w .str) xs flat→flat=xs.map Value.string
 |[],_,h=>h
 |x::xs,_,⟨c1,c2,rfl,h1,h2⟩=>by
  have h1:c1=[.string x]:=h1
  rw[h1,Jec h2];rfl
theorem Jo2 {M:Nat→Prop} {w:World}:∀(xs:List ByteArray),V6 (Rep M w .str) xs (xs.map Value.string)
 |[]=>rfl
 |x::xs=>⟨[.string x],xs.map Value.string,rfl,rfl,Jo2 xs⟩
theorem Kol:Ok Tryz.prog 174 (Jcv 3 sI):=by
 refine⟨⟨Tryz.f174,by kernel_rfl,by kernel_rfl,by kernel_rfl⟩,fun z hz=>(by cases hz),fun F hF=>(by cases hF),fun _ x M R w vs hM hg hpre hargs=> ?_⟩
 obtain⟨l,u⟩:=x
 obtain⟨v1,vs1,rfl,⟨cs,rfl,hr⟩,hn⟩:=hargs
 have hn:vs1=[]:=hn
 subst hn
 obtain⟨v,flat,rfl,h1,h2⟩:=hr
 have hfl:=Jk4 h1
 have hl:l.length≤1000000:=hpre
 have fin:∀(v':Value) (w':World),w'.ownsRow w.heap.size 3 1 v' l.length (l.map (Value.int .i64))→RowKit.Below w.heap.size w w'→Joi M w (Jcv 3 sI).ress (Jcv 3 sI).owns ((Jcv 3 sI).spec (l,u)) (.returned v') w':=by
  intro v' w' ho hb
  refine⟨M,[v'],rfl, .ofK hb,fun _ h=>h,fun b h=> .inl h,_,[],rfl,⟨l.map (Value.int .i64),Jo3 l,ho,fun g hg' hMg=> ?_⟩,rfl⟩
  rcases ho.2 with⟨rfl,_⟩|⟨g',cap,cur,rfl,hbg,_⟩
  ·cases hg'
  ·have:g'=g:=Option.some.inj hg'
   have:=hM g (.inl hMg)
   omega
 rcases h2 with⟨rfl|⟨ad,cap,rfl⟩,h0⟩|⟨b,off,cap,rfl,hcap,hk,hm⟩
 ·have:l=[]:=List.eq_nil_of_length_eq_zero h0
  subst this
  refine(Tryz.clone174_nil 0 0 w).mono ?_
  rintro e w' ⟨rfl,rfl⟩
  exact fin _ _ ⟨rfl, .inl ⟨rfl,rfl⟩⟩ (RowKit.Below.refl _ _)
 ·have:l=[]:=List.eq_nil_of_length_eq_zero h0
  subst this
  refine(Tryz.clone174_zero ad cap w).mono ?_
  rintro e w' ⟨v',rfl,ho,_,hb⟩
  exact fin _ _ ho hb
 ·refine(Tryz.clone174 b off l.length cap l w (Nat.le_refl _) (by omega) (fun j hj=>hk j _ (by rw[hfl,List.getElem?_map,List.getElem?_eq_getElem hj];simp[List.getD_eq_getElem?_getD,List.getElem?_eq_getElem hj]))).mono ?_
  rintro e w' ⟨v',rfl,ho,_,hb⟩
  rw[List.take_of_length_le (Nat.le_refl _)] at ho
  exact fin _ _ ho hb
abbrev W83:=W82.add Kol
theorem Kom:Ok Tryz.prog 173 (Jcv 9 .str):=by
 refine⟨⟨Tryz.f173,by kernel_rfl,by kernel_rfl,by kernel_rfl⟩,fun z hz=>(by cases hz),fun F hF=>(by cases hF),fun _ x M R w vs hM hg hpre hargs=> ?_⟩
 obtain⟨l,u⟩:=x
 obtain⟨v1,vs1,rfl,⟨cs,rfl,hr⟩,hn⟩:=hargs
 have hn:vs1=[]:=hn
 subst hn
 obtain⟨v,flat,rfl,h1,h2⟩:=hr
 have hfl:=Jec h1
 have hl:l.length≤1000000:=hpre
 have fin:∀(v':Value) (w':World),w'.ownsRow w.heap.size 9 1 v' l.length (l.map Value.string)→RowKit.Below w.heap.size w w'→Joi M w (Jcv 9 .str).ress (Jcv 9 .str).owns ((Jcv 9 .str).spec (l,u)) (.returned v') w':=by
  intro v' w' ho hb
  refine⟨M,[v'],rfl, .ofK hb,fun _ h=>h,fun b h=> .inl h,_,[],rfl,⟨l.map Value.string,Jo2 l,ho,fun g hg' hMg=> ?_⟩,rfl⟩
  rcases ho.2 with⟨rfl,_⟩|⟨g',cap,cur,rfl,hbg,_⟩
  ·cases hg'
  ·have:g'=g:=Option.some.inj hg'
   have:=hM g (.inl hMg)
   omega
 rcases h2 with⟨rfl|⟨ad,cap,rfl⟩,h0⟩|⟨b,off,cap,rfl,hcap,hk,hm⟩
 ·have:l=[]:=List.eq_nil_of_length_eq_zero h0
  subst this
  refine(Tryz.clone173_nil 0 0 w).mono ?_
  rintro e w' ⟨rfl,rfl⟩
  exact fin _ _ ⟨rfl, .inl ⟨rfl,rfl⟩⟩ (RowKit.Below.refl _ _)
 ·have:l=[]:=List.eq_nil_of_length_eq_zero h0
  subst this
  refine(Tryz.clone173_zero ad cap w).mono ?_
  rintro e w' ⟨v',rfl,ho,_,hb⟩
  exact fin _ _ ho hb
 ·refine(Tryz.clone173 b off l.length cap l w (Nat.le_refl _) (by omega) (fun j hj=>hk j _ (by rw[hfl,List.getElem?_map,List.getElem?_eq_getElem hj];simp[List.getD_eq_getElem?_getD,List.getElem?_eq_getElem hj]))).mono ?_
  rintro e w' ⟨v',rfl,ho,_,hb⟩
  rw[List.take_of_length_le (Nat.le_refl _)] at ho
  exact fin _ _ ho hb
abbrev W84:=W83.add Kom
def J2k:Con:={args:=[aEv],ress:=[(true,sEv)],owns:=[],pre:=fun(e,_)=>[e.2.2.1.length≤1000000,e.2.2.2.1.length≤1000000],spec:=fun(e,_)=>(e,())}
def Jcz (a:Ls) (b:Li):=Jbb a∧Z47 b
theorem K1q:Ok Tryz.prog 81 J2k:=okW W84 Tryz.f81 na fun xx=>by
 obtain⟨⟨(n:Int),(k:ByteArray),(ns:List ByteArray),(vs:List Int),(tx:ByteArray)⟩,_⟩:=xx
 refine(by kernel_rfl:(Jbb ns→Z47 vs→Jcz ns vs∧(n,k,ns,vs,tx)=(n,k,ns,vs,tx))=_).mp ?_
 delta Z47 Jbb Jcz
 exact fun h1 h2=>⟨⟨h1,h2⟩,rfl⟩
abbrev W85:=W84.add K1q
def Jgt (T:TypeId) (s:Sch):Con:={args:=[.val false (.list T s)],ress:=[(false, .list T s)],owns:=[true],pre:=fun(l,_)=>[l.length≤1000000],spec:=fun(l,_)=>(l,())}
theorem Kai:Ok Tryz.prog 216 (Jgt 127 Dp):=okW W85 Tryz.f216 na fun xx=>by
 obtain⟨(l:List Sta),_⟩:=xx
 refine(by kernel_rfl:(Z55 l→((0≤Ln l∧Ln l≤1000000)∧Ln l≤Ln l∧Ln l≤1000000)∧List.length l=List.length (List.replicate (List.length l) Z10)∧l=l)=_).mp ?_
 delta Z10 Z55 Ln B0
 intro h
 exact⟨⟨⟨by omega,by omega⟩,by omega,by omega⟩,by simp,rfl⟩
abbrev W86:=W85.add Kai
theorem Kah:Ok Tryz.prog 217 (Jgt 130 Hm):=okW W86 Tryz.f217 na fun xx=>by
 obtain⟨(l:List Ord),_⟩:=xx
 refine(by kernel_rfl:(Z56 l→((0≤Ln l∧Ln l≤1000000)∧Ln l≤Ln l∧Ln l≤1000000)∧List.length l=List.length (List.replicate (List.length l) Jgd)∧l=l)=_).mp ?_
 delta Z56 Z70 Jgd Ln B0
 intro h
 exact⟨⟨⟨by omega,by omega⟩,by omega,by omega⟩,by simp,rfl⟩
abbrev W87:=W86.add Kah
theorem Kag:Ok Tryz.prog 218 (Jgt 155 Fb):=okW W87 Tryz.f218 na fun xx=>by
 obtain⟨(l:List Met),_⟩:=xx
 refine(by kernel_rfl:(List.length l≤1000000→((0≤Ln l∧Ln l≤1000000)∧Ln l≤Ln l∧Ln l≤1000000)∧List.length l=List.length (List.replicate (List.length l) Jyk)∧l=l)=_).mp ?_
 delta Z70 Jyk Ln B0
 intro h
 exact⟨⟨⟨by omega,by omega⟩,by omega,by omega⟩,by simp,rfl⟩
abbrev W88:=W87.add Kag
theorem Kaf:Ok Tryz.prog 219 (Jgt 188 X4):=okW W88 Tryz.f219 na fun xx=>by
 obtain⟨(l:List Out),_⟩:=xx
 refine(by kernel_rfl:(Z54 l→((0≤Ln l∧Ln l≤1000000)∧Ln l≤Ln l∧Ln l≤1000000)∧List.length l=List.length (List.replicate (List.length l) Jc9)∧l=l)=_).mp ?_
 delta Z54 Jc9 Ln B0
 intro h
 exact⟨⟨⟨by omega,by omega⟩,by omega,by omega⟩,by simp,rfl⟩
abbrev W89:=W88.add Kaf
theorem Kae:Ok Tryz.prog 220 (Jgt 235 Zw):=okW W89 Tryz.f220 na fun xx=>by
 obtain⟨(l:List Per),_⟩:=xx
 refine(by kernel_rfl:(Z45 l→((0≤Ln l∧Ln l≤1000000)∧Ln l≤Ln l∧Ln l≤1000000)∧List.length l=List.length (List.replicate (List.length l) (B0,B0,false))∧l=l)=_).mp ?_
 delta Z45 Ln B0
 intro h
 exact⟨⟨⟨by omega,by omega⟩,by omega,by omega⟩,by simp,rfl⟩
abbrev W90:=W89.add Kae
end Go.Proofs.YtcibbcfiemeoiaaGreatDoor
namespace Go.Proofs.Tryz
open Go.Proofs.YtcibbcfiemeoiaaGreatDoor
def kindsU:List (ByteArray×K1k):=[(Jz,[],0,none,none,none),
 (Ju,[(0,false)],2,some 148,some 149,some 150),
 (K7,[(0,true)],2,some 152,some 153,some 150),
 (Kk,[(1,false),(0,true),(0,true)],4,some 154,some 155,some 156),
 (K0,[(1,true)],4,some 157,some 158,some 156),
 (Vo,[(1,true)],1,some 159,some 160,some 156),
 (Jv,[(2,false),(0,true)],4,some 161,some 162,some 163),
 (Jq,[(2,true)],1,some 164,some 165,some 163),
 (Kb,[(3,false),(2,true)],1,some 166,some 167,some 168),
 (Ka,[(3,true)],1,some 169,some 170,some 168),
 (Jh,[],2,some 171,some 172,none)]
end Go.Proofs.Tryz
namespace Go.Proofs.YtcibbcfiemeoiaaGreatDoor
open Go.Sx
def J4z:Jme:={kT:=9,gk:=false,gv:=true,ks:= .str,vs:=J98,l:=Tryz.kindsU}
theorem Kmz:Ok Tryz.prog 80 (Jme.con J4z):=Km0
abbrev W91:=W90.add Kmz
abbrev Kn:=List Ev×List Ev×List Reg
abbrev Jit:Sch:= .prod (.list 67 sEv) (.prod (.list 67 sEv) (.list 105 Jm3))
def U0:Reg:=(0,0,[],[],[],[],[])
def ev0:Ev:=(0,Ja,[],[],Ja)
def Kc (G:List Reg):Reg:=G.getD (G.length-1) U0
structure Kd (h:Kn):Prop where
 nE:h.1.length≤1000
 nC:h.2.1.length≤h.1.length
 nG:h.2.2.length=h.2.1.length
 reg:∀r∈h.2.2,Jk r
def Ki (r:Reg) (ns:List ByteArray):List (Int×Bool)→Nat→Bool
 |[],_=>false
 |(w,b)::l,i=>bif (bif b then !Vf r w (ns.getD i Ja) else false) then true else Ki r ns l (i+1)
def Ks (r:Reg) (ns:List ByteArray):List (Int×Bool)→Nat→Bool
 |[],_=>false
 |(w,b)::l,i=>bif (bif !b then Vf r w (ns.getD i Ja) else false) then true else Ks r ns l (i+1)
def ckS (r:Reg) (e:Ev):Int:=match(Ji e.2.1).2.2.1 with
 |some 148=>Jl5 r.2.2.1 e.2.2.2.1
 |some 152=>Jn4 e.2.2.2.1
 |some 154=>Jb4 r.2.2.1 r.2.2.2.1 r.2.2.2.2.2.1 e
 |some 157=>Jl6 r.2.2.2.1 r.2.2.2.2.1 e.2.2.1 e.2.2.2.1
 |some 159=>Jcs r.2.2.2.1 e.2.2.1 e.2.2.2.1
 |some 161=>Jb3 r.2.2.1 r.2.2.2.1 r.2.2.2.2.2.1 e
 |some 164=>Jct r.2.2.2.2.2.1 r.2.2.2.2.2.2 e.2.2.1 e.2.2.2.1
 |some 166=>Jcu r.2.2.2.2.2.1 r.2.2.2.2.2.2 e.2.2.1 e.2.2.2.1
 |some 169=>Jn3 r.2.2.2.2.2.2 e.2.2.1
 |some 171=>Lu r.2.1 r.2.2.2.1 r.2.2.2.2.1 r.2.2.2.2.2.1 r.2.2.2.2.2.2 e.2.2.2.1
 |_=>0
def L5 (h:Kn) (e:Ev):Int:=
 bif e.1 !=(h.1.length:Int)+1 then 11 else
 bif e.2.1.toList==Jz.toList then(bif (h.2.1.length:Int)==0 then 12 else bif (h.2.1.getD (h.2.1.length-1) ev0).2.1.toList==Jh.toList then 21 else 0) else
 bif decide (e.2.2.2.1.getD 0 0<(Kc h.2.2).1) then 22 else
 bif Ki (Kc h.2.2) e.2.2.1 (Ji e.2.1).1 0 then 10 else
 bif Ks (Kc h.2.2) e.2.2.1 (Ji e.2.1).1 0 then 9 else ckS (Kc h.2.2) e
def Jp0:Xt:={T? :=none,s:=Jit,args:=[aEv],ress:=[I],pre:=fun h (e,_)=>[Kd h,Jb e=0],spec:=fun h (e,_)=>(L5 h e,()),post:=fun h _=>h}
abbrev Xi (m:Nat):Nat→Option Ann:=fun i=>if i=0∨i=2 then some {X:=Unit,σ:=fun _=>⟨0,[],[]⟩,inv:=fun _=>True,mu:=fun _=>0,un:=m} else none
def Jqd (h:Kn) (n:Int) (ns:List ByteArray) (vs:List Int) (roles:List (Int×Bool)) (ck:Int):Int:=
 bif n !=(h.1.length:Int)+1 then 11 else
 bif decide (vs.getD 0 0<(Kc h.2.2).1) then 22 else
 bif Ki (Kc h.2.2) ns roles 0 then 10 else
 bif Ks (Kc h.2.2) ns roles 0 then 9 else ck
theorem Yx {h:Kn} {n:Int} {k:ByteArray} {ns:List ByteArray} {vs:List Int} {tx:ByteArray} (h1:(k.toList==Jz.toList)=false):L5 h (n,k,ns,vs,tx)=Jqd h n ns vs (Ji k).1 (ckS (Kc h.2.2) (n,k,ns,vs,tx)):=by
 unfold L5 Jqd
 dsimp only
 rw[h1];rfl
theorem K6:Ji Ju=([(0,false)],2,some 148,some 149,some 150):=by kernel_rfl
theorem Vb:Ji K7=([(0,true)],2,some 152,some 153,some 150):=by kernel_rfl
theorem Uu:Ji Kk=([(1,false),(0,true),(0,true)],4,some 154,some 155,some 156):=by kernel_rfl
theorem Uv:Ji K0=([(1,true)],4,some 157,some 158,some 156):=by kernel_rfl
theorem Vp:Ji Vo=([(1,true)],1,some 159,some 160,some 156):=by kernel_rfl
theorem Kt:Ji Jv=([(2,false),(0,true)],4,some 161,some 162,some 163):=by kernel_rfl
theorem Kj:Ji Jq=([(2,true)],1,some 164,some 165,some 163):=by kernel_rfl
theorem K4:Ji Kb=([(3,false),(2,true)],1,some 166,some 167,some 168):=by kernel_rfl
theorem K3:Ji Ka=([(3,true)],1,some 169,some 170,some 168):=by kernel_rfl
theorem Us:Ji Jh=([],2,some 171,some 172,none):=by kernel_rfl
theorem Jbs:Ji Jz=([],0,none,none,none):=by kernel_rfl
theorem Je8 {r:Reg} {s:ByteArray}:Vf r 0 s=decide (0≤Jx r.2.2.1 s):=rfl
theorem Jgo {r:Reg} {s:ByteArray}:Vf r 1 s=decide (0≤Ku r.2.2.2.1 s):=rfl
theorem Je7 {r:Reg} {s:ByteArray}:Vf r 2 s=decide (0≤J5 r.2.2.2.2.2.1 s):=rfl
theorem Jgn {r:Reg} {s:ByteArray}:Vf r 3 s=decide (0≤Uz r.2.2.2.2.2.2 s):=rfl
structure J72 (e:Ev):Prop where
 num:1≤e.1∧e.1≤1000
 kind:Ys e.2.1=true
 nn:e.2.2.1.length=(Ji e.2.1).1.length
 nv:(e.2.2.2.1.length:Int)=(Ji e.2.1).2.1
 name:∀s∈e.2.2.1,Yk s=true
 val:EvV e
 txt:e.2.2.2.2.size=0
theorem Ut {l:List Int}:Jf l=0↔∀x∈l,x=0:=by
 induction l with
 |nil=>simp[Jf]
 |cons x l ih=>
  unfold Jf
  by_cases h:x=0
  ·rw[if_pos h,ih];simp[h]
  ·rw[if_neg h];simp[h]
theorem Yi {n a b:Int}:Kf n a b=0↔a≤n∧n≤b:=by
 unfold Kf
 by_cases h1:n<a
 ·simp[h1];omega
 ·by_cases h2:b<n
  ·simp[h2]
  ·simp[h1,h2];omega
theorem Uj {e:Ev} (h:Jb e=0):J72 e:=by
 unfold Jb at h
 by_cases h1:Kf e.1 1 1000≠0
 ·rw[if_pos h1] at h;exact absurd h h1
 rw[if_neg h1] at h
 cases hk:Ys e.2.1 with
 |false=>rw[hk] at h;cases h
 | true =>
  rw[hk,cond_true] at h
  by_cases h2:e.2.2.1.length=(Ji e.2.1).1.length∧(e.2.2.2.1.length:Int)=(Ji e.2.1).2.1
  ·rw[if_pos h2] at h
   have h3:=Ut.1 h
   have n1:=Ut.1 (h3 _ (List.mem_cons_self ..))
   have n2:=Ut.1 (h3 _ (List.mem_cons_of_mem _ (List.mem_cons_self ..)))
   have n3:=h3 _ (List.mem_cons_of_mem _ (List.mem_cons_of_mem _ (List.mem_cons_self ..)))
   refine⟨Yi.1 (by omega),hk,h2.1,h2.2,fun s hs=> ?_,fun v hv=>Yi.1 (n2 _ (List.mem_map_of_mem hv)), ?_⟩
   ·have:=n1 _ (List.mem_map_of_mem hs)
    cases hn:Yk s with
    |true=>rfl
    |false=>rw[hn] at this;cases this
   ·by_cases h4:0<e.2.2.2.2.size
    ·rw[decide_eq_true h4] at n3;cases n3
    ·omega
  ·rw[if_neg h2] at h;cases h
theorem X0 {h:Kn} (hh:Kd h):Jk (Kc h.2.2):=by
 unfold Kc
 by_cases h0:0<h.2.2.length
 ·exact hh.reg _ (Jc (by omega))
 ·have:h.2.2=[]:=List.eq_nil_of_length_eq_zero (by omega)
  rw[this]
  exact⟨by decide,by decide,by decide,by decide,by decide,by decide,by decide,fun _ h=>(by cases h),fun _ h=>(by cases h),fun _ h=>(by cases h),fun _ h=>(by cases h),fun _ h=>(by cases h),fun _ h=>(by cases h)⟩
theorem Km {G:List Reg} (h:decide (0<(G.length:Int))=false):Kc G=U0:=by
 have h:¬0<(G.length:Int):=of_decide_eq_false h
 have:G=[]:=List.eq_nil_of_length_eq_zero (by omega)
 rw[this];rfl
theorem Hq:((0,0,[],[],[],[],[]):Reg)=U0:=rfl
theorem Jhb (G:List Reg):G.getD (G.length-1) U0=Kc G:=rfl
theorem Hw {E C:List Ev} {G:List Reg} {e:Ev} (hh:Kd (E,C,G)) (hc:Jb e=0):e.2.2.1.length=(Ji e.2.1).1.length∧(e.2.2.2.1.length:Int)=(Ji e.2.1).2.1∧Jk (Kc G)∧Jk U0∧E.length≤1000∧C.length≤E.length∧G.length=C.length∧((G.length:Int)-1).toNat=G.length-1∧EvV e:=
 have hE:=Uj hc
 ⟨hE.nn,hE.nv,X0 hh,X0 (h:=([],[],[])) ⟨by decide,by decide,rfl,fun _ h=>(by cases h)⟩,hh.nE,hh.nC,hh.nG,by omega,hE.val⟩
def Z0 (a:List Ev):=Ln a+1
def Z1 (a:Int) (b:Ls) (c:Li) (d:Bt):=(a,Jz,b,c,d)
def Z2 (a:List Ev):=Ln a-1
def Z4 (a:List Ev):=Ln a==0
def Z28:=Iw ((0:Int)+1)
def Z49:=Tw (Bd 0 0)
def Z64 (a:List Ev):=Iw (Z2 a)
def Z65 (a:List Ev):=Iw (Z0 a)
def Z97 (a:Li):=Tw (Z27 a)
def V2 (a:List Reg):=decide (0<Ln a)
def J27:=Z28∧False
def Jsc (a b:List Ev) (c:List Reg) (d:Int) (e:Ls) (f:Li) (g:Bt):=L5 (a,b,c) (Z1 d e f g)
def Jad:Int×ByteArray×List ByteArray×List Int×ByteArray:=((0:Int),B0,[],[],B0)
def Jge (a:Li):=decide (U1 a<0)
def L9:Int×List Sta×List Ord×List Met×List Out×List Per:=((0:Int),[],[],[],[],[])
def Jgc (a:Int) (b:List Ev):=a !=Z0 b
def Jgb (a:List Ev):=Z64 a∧Tw (Bd (Z2 a) (Ln a))
def Vs:=((0:Int),L9)
def V1 (a:List Reg):=Iw (Ln a-1)∧Tw (Bd (Ln a-1) (Ln a))
def Yr:=Jk Vs
def Jdu:=true=true→Yr
def Jba:=false=true→Yr
def D6 (a:List Reg):=Gt a (Ln a-1) Vs
def D5 (a:List Reg):=(D6 a).2
def Jac (a:List Reg):=(D6 a).1
def Ft (a:List Reg):=(D5 a).1
def Ho (a:List Reg):=(D5 a).2
def Hn (a:List Reg):=(Ho a).2
def L8 (a:List Reg):=(Hn a).2
def Zv (a:List Reg):=(L8 a).2
def J2w (a:Ls):=Vf Vs 0 (Z87 a)
def Jga (a:List Ev):=bif Lb (Gt a (Z2 a) Jad).2.1 Jh then(21:Int) else(0:Int)
def J8j (a:Ls):=bif true then J2w a else false
def Jf9 (a:Li) (b:List Reg):=decide (U1 a<Jac b)
def Jf8 (a:Ls):=T2 (true=true→Z92 a) Jdu
def Jf7 (a:Ls):=T2 (false=true→Z92 a) Jba
def Kvn (a:TypeId) (b c:List Ev) (d:List Reg) (e:Int) (f:Ls) (g:Li) (h:Bt):=Br false (Sf true (Sf a (Sf (b,c,d) (10=Jsc b c d e f g h)))) J27
def Fs (a:List Reg):=(Ft a,(Ho a).1,(Hn a).1,(L8 a).1,E2 (Zv a))
def Yc (a:List Reg):=(Jac a,Fs a)
def Yz (a:List Reg):=Jk (Yc a)
def Jdq (a:List Reg):=true=true→Yz a
def Jb9 (a:List Reg):=false=true→Yz a
def J2s (a:List Reg) (b:Ls):=Vf (Yc a) 0 (Z87 b)
def Jsj (a:List Reg) (b:Ls):=bif true then J2s a b else false
def Zz (a:Ls) (b:List Reg):=T2 (true=true→Z92 a) (Jdq b)
def Zy (a:Ls) (b:List Reg):=T2 (false=true→Z92 a) (Jb9 b)
theorem Jqy (T:TypeId) (E C:List Ev) (G:List Reg) (n:Int) (ns:List ByteArray) (vs:List Int) (tx:ByteArray):wpFO Tryz.prog W91.g (Xi 1) (fun _=>na ()) (Sx.look ([(75,Tryz.f75)]:List (Nat×Func))) Tryz.f130 Jp0 T (E,C,G) ((n,Jz,ns,vs,tx),()):=by
 refine(by kernel_rfl:(Kd (E,C,G)→Jb (Z1 n ns vs tx)=0→Z65 E∧Br (Jgc n E) (Sf true (Sf T (Sf (E,C,G) (11=Jsc E C G n ns vs tx)))) (Br true (Br (Z4 C) (Sf true (Sf T (Sf (E,C,G) (12=Jsc E C G n ns vs tx)))) (Jgb C∧Sf true (Sf T (Sf (E,C,G) (Jga C=Jsc E C G n ns vs tx))))) (Br (V2 G) (V1 G∧Z97 vs∧Br (Jf9 vs G) (Sf true (Sf T (Sf (E,C,G) (22=Jsc E C G n ns vs tx)))) (Br false (Z49∧Zy ns G∧Kvn T E C G n ns vs tx) (Br false (Z49∧Zz ns G∧Br (Jsj G ns) (Sf true (Sf T (Sf (E,C,G) (9=Jsc E C G n ns vs tx)))) J27) (False∧Sf true False)))) (Z97 vs∧Br (Jge vs) (Sf true (Sf T (Sf (E,C,G) (22=Jsc E C G n ns vs tx)))) (Br false (Z49∧Jf7 ns∧Kvn T E C G n ns vs tx) (Br false (Z49∧Jf8 ns∧Br (J8j ns) (Sf true (Sf T (Sf (E,C,G) (9=Jsc E C G n ns vs tx)))) J27) (False∧Sf true False)))))))=_).mp ?_
 delta Z0 Z1 Z2 Z4 Z27 Z28 Z49 Z64 Z65 Z87 Z92 Z97 U1 V2 J27 Jsc Jad Jge L9 Jgc Jgb Vs V1 Yr Jdu Jba D6 D5 Jac Ft Ho Hn L8 Zv J2w Jga J8j Jf9 Jf8 Jf7 Kvn Fs Yc Yz Jdq Jb9 J2s Jsj Zz Zy Br Iw Bd T2 Tw Sf Ln Gt B0 Lb E2 Jh Jz
 intro hh hc
 have hE:=Uj hc
 have n1:E.length≤1000:=hh.nE
 have n2:C.length≤E.length:=hh.nC
 have eA:L5 (E,C,G) (n,Jz,ns,vs,tx)=bif n !=(E.length:Int)+1 then 11 else(bif (C.length:Int)==0 then 12 else bif (C.getD (C.length-1) ev0).2.1.toList==Jh.toList then 21 else 0):=by
  unfold L5
  dsimp only
  rw[show(Jz.toList==Jz.toList)=true from by kernel_rfl];rfl
 refine⟨by omega,fun h=>⟨rfl,rfl,rfl, ?_⟩,fun h=>⟨fun _=>⟨fun h2=>⟨rfl,rfl,rfl, ?_⟩,fun h2=> ?_⟩,fun h=>(by cases h)⟩⟩
 ·rw[eA,h];rfl
 ·rw[eA,h,h2];rfl
 ·have h3:¬C.length=0:=fun e=>by rw[e] at h2;cases h2
  have h4:((C.length:Int)-1).toNat=C.length-1:=by omega
  refine⟨⟨⟨by omega,by omega⟩,⟨by omega,by omega⟩,⟨by omega,by omega⟩⟩,rfl,rfl,rfl, ?_⟩
  rw[eA,h,h2,h4];rfl
def Z24 (a:Int) (b:Ls) (c:Li) (d:Bt):=(a,Ju,b,c,d)
def Z61:=Tw (Bd 0 1)
def Jog:=(0:Int)+1+1
def Jgf:=Iw Jog
def Jaf:=Tw (Bd ((0:Int)+1) 1)
def Jqh (a b:List Ev) (c:List Reg) (d:Int) (e:Ls) (f:Li) (g:Bt):=L5 (a,b,c) (Z24 d e f g)
def Jdx:=Jgf∧False
def Jxe (a:Ls):=true=true→Bd ((0:Int)+1) (Ln a)
def Jxd (a:Ls):=false=true→Bd ((0:Int)+1) (Ln a)
def J8q (a:Li):=Yr∧Z59 a
def Jya (a:Ls):=Vf Vs 0 (H9 a)
def Kh6 (a:TypeId) (b c:List Ev) (d:List Reg) (e:Int) (f:Ls) (g:Li) (h:Bt):=Sf true (Sf a (Sf (b,c,d) (10=Jqh b c d e f g h)))
def Kd4 (a:TypeId) (b c:List Ev) (d:List Reg) (e:Int) (f:Ls) (g:Li) (h:Bt):=Sf true (Sf a (Sf (b,c,d) (9=Jqh b c d e f g h)))
def Jst (a:Ls):=bif true then Jya a else false
def Jj7 (a:Ls):=T2 (Jxe a) Jdu
def Jj6 (a:Ls):=T2 (Jxd a) Jba
def Kvc (a:TypeId) (b c:List Ev) (d:List Reg) (e:Int) (f:Ls) (g:Li) (h:Bt):=Br false (Kh6 a b c d e f g h) Jdx
def Kut (a:Li) (b:TypeId) (c d:List Ev) (e:List Reg) (f:Int) (g:Ls) (h:Bt):=J8q a∧Sf true (Sf b (Sf (c,d,e) (Jl5 [] a=Jqh c d e f g a h)))
def J8a (a:List Reg) (b:Li):=Yz a∧Z59 b
def Jx5 (a:List Reg) (b:Ls):=Vf (Yc a) 0 (H9 b)
def Jda (a:List Reg) (b:Ls):=bif true then Jx5 a b else false
def L7 (a:Ls) (b:List Reg):=T2 (Jxe a) (Jdq b)
def L6 (a:Ls) (b:List Reg):=T2 (Jxd a) (Jb9 b)
def J7t (a:List Reg) (b:Li) (c:TypeId) (d e:List Ev) (f:Int) (g:Ls) (h:Bt):=J8a a b∧Sf true (Sf c (Sf (d,e,a) (Jl5 (Ho a).1 b=Jqh d e a f g b h)))
def J7e (a:Ls) (b:TypeId) (c d:List Ev) (e:List Reg) (f:Int) (g:Li) (h:Bt):=Br true (Z61∧Jf8 a∧Br (J8j a) (Kd4 b c d e f a g h) (Z28∧Br false (Jaf∧Jj7 a∧Br (Jst a) (Kd4 b c d e f a g h) Jdx) (Kut g b c d e f a h))) (Kut g b c d e f a h)
def J63 (a:Ls) (b:List Reg) (c:TypeId) (d e:List Ev) (f:Int) (g:Li) (h:Bt):=Br true (Z61∧Zz a b∧Br (Jsj b a) (Kd4 c d e b f a g h) (Z28∧Br false (Jaf∧L7 a b∧Br (Jda b a) (Kd4 c d e b f a g h) Jdx) (J7t b g c d e f a h))) (J7t b g c d e f a h)
theorem Jh5 (T:TypeId) (E C:List Ev) (G:List Reg) (n:Int) (ns:List ByteArray) (vs:List Int) (tx:ByteArray):wpFO Tryz.prog W91.g (Xi 2) (fun _=>na ()) (Sx.look ([(75,Tryz.f75)]:List (Nat×Func))) Tryz.f130 Jp0 T (E,C,G) ((n,Ju,ns,vs,tx),()):=by
 refine(by kernel_rfl:(Kd (E,C,G)→Jb (Z24 n ns vs tx)=0→Z65 E∧Br (Jgc n E) (Sf true (Sf T (Sf (E,C,G) (11=Jqh E C G n ns vs tx)))) (Br false (Br (Z4 C) (Sf true (Sf T (Sf (E,C,G) (12=Jqh E C G n ns vs tx)))) (Jgb C∧Sf true (Sf T (Sf (E,C,G) (Jga C=Jqh E C G n ns vs tx))))) (Br (V2 G) (V1 G∧Z97 vs∧Br (Jf9 vs G) (Sf true (Sf T (Sf (E,C,G) (22=Jqh E C G n ns vs tx)))) (Br true (Z61∧Zy ns G∧Br false (Kh6 T E C G n ns vs tx) (Z28∧Br false (Jaf∧L6 ns G∧Kvc T E C G n ns vs tx) (J63 ns G T E C n vs tx))) (J63 ns G T E C n vs tx))) (Z97 vs∧Br (Jge vs) (Sf true (Sf T (Sf (E,C,G) (22=Jqh E C G n ns vs tx)))) (Br true (Z61∧Jf7 ns∧Br false (Kh6 T E C G n ns vs tx) (Z28∧Br false (Jaf∧Jj6 ns∧Kvc T E C G n ns vs tx) (J7e ns T E C G n vs tx))) (J7e ns T E C G n vs tx))))))=_).mp ?_
 delta Z0 Z2 Z4 Z24 Z27 Z28 Z59 Z61 Z64 Z65 Z87 Z92 Z97 U1 H9 V2 Jog Jgf Jaf Jqh Jdx Jad Jge Jxe Jxd L9 Jgc Jgb Vs V1 Yr Jdu Jba D6 D5 Jac J8q Ft Ho Hn L8 Zv Jya J2w Jga Kh6 Kd4 Jst J8j Jf9 Jf8 Jf7 Jj7 Jj6 Kvc Kut Fs Yc Yz Jdq Jb9 J8a J2s Jx5 Jsj Jda Zz Zy L7 L6 J7t J7e J63 Br Iw Bd T2 Tw Sf Ln Gt B0 Lb E2 Jh Ju
 intro hh hc
 have eK:=Yx (h:=(E,C,G)) (n:=n) (k:=Ju) (ns:=ns) (vs:=vs) (tx:=tx) (by kernel_rfl)
 obtain⟨hn,hv,hR,hr0,n1,n2,n3,hG,hV⟩:=Hw hh hc
 simp only[K6,ckS,List.length_cons,List.length_nil] at eK hn hv
 rw[eK]
 simp only[hG,Jhb,Hq,Prod.eta,Jqd,Ki,Ks,Je8,Jgo,Je7,Jgn,cond_true,cond_false,Bool.not_true,Bool.not_false,Ja]
 repeat' first|apply And.intro|exact hV|intro _
 all_goals first|trivial|omega|assumption|(rename_i h;have h:=of_decide_eq_true h;omega)|(simp only[*,cond_true,cond_false,Bool.not_true,Bool.not_false];done)|(rw[Km ‹_›];(first|have e1:decide (vs.getD 0 0<U0.1)=true:=‹_›|have e1:decide (vs.getD 0 0<U0.1)=false:=‹_›);simp only[*,cond_true,cond_false,Bool.not_true,Bool.not_false];first|done|rfl)|(simp only[Bool.not_eq_false',decide_eq_true_eq] at*;assumption)
def Z7 (a:Int) (b:Ls) (c:Li) (d:Bt):=(a,K7,b,c,d)
def Jsb (a b:List Ev) (c:List Reg) (d:Int) (e:Ls) (f:Li) (g:Bt):=L5 (a,b,c) (Z7 d e f g)
def Kd7 (a:TypeId) (b c:List Ev) (d:List Reg) (e:Int) (f:Ls) (g:Li) (h:Bt):=Sf true (Sf a (Sf (b,c,d) (9=Jsb b c d e f g h)))
def Kia (a:TypeId) (b c:List Ev) (d:List Reg) (e:Int) (f:Ls) (g:Li) (h:Bt):=Sf true (Sf a (Sf (b,c,d) (10=Jsb b c d e f g h)))
def J8i (a:Ls):=bif true then !J2w a else false
def Kdo (a:Li) (b:TypeId) (c d:List Ev) (e:List Reg) (f:Int) (g:Ls) (h:Bt):=Z59 a∧Sf true (Sf b (Sf (c,d,e) (Jn4 a=Jsb c d e f g a h)))
def Kvg (a:TypeId) (b c:List Ev) (d:List Reg) (e:Int) (f:Ls) (g:Li) (h:Bt):=Br false (Kia a b c d e f g h) Jdx
def Jsh (a:List Reg) (b:Ls):=bif true then !J2s a b else false
def J7j (a:Ls) (b:TypeId) (c d:List Ev) (e:List Reg) (f:Int) (g:Li) (h:Bt):=Br true (Z61∧Jf7 a∧Br false (Kd7 b c d e f a g h) (Z28∧Br false (Jaf∧Jj7 a∧Br (Jst a) (Kd7 b c d e f a g h) Jdx) (Kdo g b c d e f a h))) (Kdo g b c d e f a h)
def J68 (a:Ls) (b:List Reg) (c:TypeId) (d e:List Ev) (f:Int) (g:Li) (h:Bt):=Br true (Z61∧Zy a b∧Br false (Kd7 c d e b f a g h) (Z28∧Br false (Jaf∧L7 a b∧Br (Jda b a) (Kd7 c d e b f a g h) Jdx) (Kdo g c d e b f a h))) (Kdo g c d e b f a h)
theorem Jmq (T:TypeId) (E C:List Ev) (G:List Reg) (n:Int) (ns:List ByteArray) (vs:List Int) (tx:ByteArray):wpFO Tryz.prog W91.g (Xi 2) (fun _=>na ()) (Sx.look ([(75,Tryz.f75)]:List (Nat×Func))) Tryz.f130 Jp0 T (E,C,G) ((n,K7,ns,vs,tx),()):=by
 refine(by kernel_rfl:(Kd (E,C,G)→Jb (Z7 n ns vs tx)=0→Z65 E∧Br (Jgc n E) (Sf true (Sf T (Sf (E,C,G) (11=Jsb E C G n ns vs tx)))) (Br false (Br (Z4 C) (Sf true (Sf T (Sf (E,C,G) (12=Jsb E C G n ns vs tx)))) (Jgb C∧Sf true (Sf T (Sf (E,C,G) (Jga C=Jsb E C G n ns vs tx))))) (Br (V2 G) (V1 G∧Z97 vs∧Br (Jf9 vs G) (Sf true (Sf T (Sf (E,C,G) (22=Jsb E C G n ns vs tx)))) (Br true (Z61∧Zz ns G∧Br (Jsh G ns) (Kia T E C G n ns vs tx) (Z28∧Br false (Jaf∧L6 ns G∧Kvg T E C G n ns vs tx) (J68 ns G T E C n vs tx))) (J68 ns G T E C n vs tx))) (Z97 vs∧Br (Jge vs) (Sf true (Sf T (Sf (E,C,G) (22=Jsb E C G n ns vs tx)))) (Br true (Z61∧Jf8 ns∧Br (J8i ns) (Kia T E C G n ns vs tx) (Z28∧Br false (Jaf∧Jj6 ns∧Kvg T E C G n ns vs tx) (J7j ns T E C G n vs tx))) (J7j ns T E C G n vs tx))))))=_).mp ?_
 delta Z0 Z2 Z4 Z7 Z27 Z28 Z59 Z61 Z64 Z65 Z87 Z92 Z97 U1 H9 V2 Jog Jgf Jaf Jsb Jdx Jad Jge Jxe Jxd L9 Jgc Jgb Vs V1 Yr Jdu Jba D6 D5 Jac Ft Ho Hn L8 Zv Jya J2w Jga Kd7 Kia Jst J8i Jf9 Jf8 Jf7 Jj7 Jj6 Kdo Kvg Fs Yc Yz Jdq Jb9 J2s Jx5 Jda Jsh Zz Zy L7 L6 J7j J68 Br Iw Bd T2 Tw Sf Ln Gt B0 Lb E2 K7 Jh
 intro hh hc
 have eK:=Yx (h:=(E,C,G)) (n:=n) (k:=K7) (ns:=ns) (vs:=vs) (tx:=tx) (by kernel_rfl)
 obtain⟨hn,hv,hR,hr0,n1,n2,n3,hG,hV⟩:=Hw hh hc
 simp only[Vb,ckS,List.length_cons,List.length_nil] at eK hn hv
 rw[eK]
 simp only[hG,Jhb,Hq,Prod.eta,Jqd,Ki,Ks,Je8,Jgo,Je7,Jgn,cond_true,cond_false,Bool.not_true,Bool.not_false,Ja]
 repeat' first|apply And.intro|exact hV|intro _
 all_goals first|trivial|omega|assumption|(rename_i h;have h:=of_decide_eq_true h;omega)|(simp only[*,cond_true,cond_false,Bool.not_true,Bool.not_false];done)|(rw[Km ‹_›];(first|have e1:decide (vs.getD 0 0<U0.1)=true:=‹_›|have e1:decide (vs.getD 0 0<U0.1)=false:=‹_›);simp only[*,cond_true,cond_false,Bool.not_true,Bool.not_false];first|done|rfl)|(simp only[Bool.not_eq_false',decide_eq_true_eq] at*;assumption)
def Z8 (a:Int) (b:Ls) (c:Li) (d:Bt):=(a,Kk,b,c,d)
def Z58:=Tw (Bd 0 3)
def Kfy:=Tw (Bd ((0:Int)+1) 3)
def Jqm (a b:List Ev) (c:List Reg) (d:Int) (e:Ls) (f:Li) (g:Bt):=L5 (a,b,c) (Z8 d e f g)
def J6x:=Jog+1
def J22:=Iw J6x
def Kfo:=Tw (Bd Jog 3)
def Kfk (a:Ls):=0≤Jx [] (Jj2 a)
def Kfj:=Tw (Bd J6x 3)
def K09 (a:Ls):=Bd J6x (Ln a)
def Kk9:=Iw (J6x+1)∧False
def Kfe (a:Ls):=true=true→Bd Jog (Ln a)
def Kfd (a:Ls):=false=true→Bd Jog (Ln a)
def K0l (a:Ls):=true=true→K09 a
def K0k (a:Ls):=false=true→K09 a
def Kek (a:Ls):=Vf Vs 0 (Z91 a)
def J8n (a:Ls):=Vf Vs 1 (Z87 a)
def J2v (a:TypeId) (b c:List Ev) (d:List Reg) (e:Int) (f:Ls) (g:Li) (h:Bt):=Sf true (Sf a (Sf (b,c,d) (10=Jqm b c d e f g h)))
def J0y (a:TypeId) (b c:List Ev) (d:List Reg) (e:Int) (f:Ls) (g:Li) (h:Bt):=Sf true (Sf a (Sf (b,c,d) (9=Jqm b c d e f g h)))
def Kh1 (a:Ls):=bif true then !Jya a else false
def Kdx (a:List Reg) (b:Ls):=0≤Jx (Ho a).1 (Jj2 b)
def J8g (a:Ls):=T2 (Kfe a) Jdu
def J8f (a:Ls):=T2 (Kfd a) Jba
def Ku3 (a:TypeId) (b c:List Ev) (d:List Reg) (e:Int) (f:Ls) (g:Li) (h:Bt):=Br false (J2v a b c d e f g h) Kk9
def Kda (a:Int) (b:Ls) (c:Li) (d:Bt) (e:TypeId) (f g:List Ev) (h:List Reg):=(Yr∧EvV (Z8 a b c d)∧Jsz b∧Z57 c∧Kfk b∧0≤Jx [] (J60 b))∧Sf true (Sf e (Sf (f,g,h) (Jb4 [] [] [] (Z8 a b c d)=Jqm f g h a b c d)))
def J79 (a:List Reg) (b:Ls):=Vf (Yc a) 1 (Z87 b)
def Jxn (a:List Reg) (b:Ls):=Vf (Yc a) 0 (Z91 b)
def J1l (a:List Reg) (b:Ls):=bif true then !Jx5 a b else false
def Jsg (a:Ls) (b:List Reg):=T2 (Kfe a) (Jdq b)
def Jsf (a:Ls) (b:List Reg):=T2 (Kfd a) (Jb9 b)
def Jxj (a:List Reg) (b:Int) (c:Ls) (d:Li) (e:Bt) (f:TypeId) (g h:List Ev):=(Yz a∧EvV (Z8 b c d e)∧Jsz c∧Z57 d∧Kdx a c∧0≤Jx (Ho a).1 (J60 c))∧Sf true (Sf f (Sf (g,h,a) (Jb4 (Ho a).1 (Hn a).1 (Zv a).1 (Z8 b c d e)=Jqm g h a b c d e)))
def Jxi (a:Ls) (b:TypeId) (c d:List Ev) (e:List Reg) (f:Int) (g:Li) (h:Bt):=Br true (Z58∧Jf8 a∧Br (bif true then J8n a else false) (J0y b c d e f a g h) (Z28∧Br true (Kfy∧Jj6 a∧Br false (J0y b c d e f a g h) (Jgf∧Br true (Kfo∧J8f a∧Br false (J0y b c d e f a g h) (J22∧Br false (Kfj∧T2 (K0l a) Jdu∧Br (bif true then Vf Vs 0 (List.getD a 3 B0) else false) (J0y b c d e f a g h) Kk9) (Kda f a g h b c d e))) (Kda f a g h b c d e))) (Kda f a g h b c d e))) (Kda f a g h b c d e)
def Jxg (a:Ls) (b:List Reg) (c:TypeId) (d e:List Ev) (f:Int) (g:Li) (h:Bt):=Br true (Z58∧Zz a b∧Br (bif true then J79 b a else false) (J0y c d e b f a g h) (Z28∧Br true (Kfy∧L6 a b∧Br false (J0y c d e b f a g h) (Jgf∧Br true (Kfo∧Jsf a b∧Br false (J0y c d e b f a g h) (J22∧Br false (Kfj∧T2 (K0l a) (Jdq b)∧Br (bif true then Vf (Yc b) 0 (List.getD a 3 B0) else false) (J0y c d e b f a g h) Kk9) (Jxj b f a g h c d e))) (Jxj b f a g h c d e))) (Jxj b f a g h c d e))) (Jxj b f a g h c d e)
theorem Jmr (T:TypeId) (E C:List Ev) (G:List Reg) (n:Int) (ns:List ByteArray) (vs:List Int) (tx:ByteArray):wpFO Tryz.prog W91.g (Xi 4) (fun _=>na ()) (Sx.look ([(75,Tryz.f75)]:List (Nat×Func))) Tryz.f130 Jp0 T (E,C,G) ((n,Kk,ns,vs,tx),()):=by
 refine(by kernel_rfl:(Kd (E,C,G)→Jb (Z8 n ns vs tx)=0→Z65 E∧Br (Jgc n E) (Sf true (Sf T (Sf (E,C,G) (11=Jqm E C G n ns vs tx)))) (Br false (Br (Z4 C) (Sf true (Sf T (Sf (E,C,G) (12=Jqm E C G n ns vs tx)))) (Jgb C∧Sf true (Sf T (Sf (E,C,G) (Jga C=Jqm E C G n ns vs tx))))) (Br (V2 G) (V1 G∧Z97 vs∧Br (Jf9 vs G) (Sf true (Sf T (Sf (E,C,G) (22=Jqm E C G n ns vs tx)))) (Br true (Z58∧Zy ns G∧Br false (J2v T E C G n ns vs tx) (Z28∧Br true (Kfy∧L7 ns G∧Br (J1l G ns) (J2v T E C G n ns vs tx) (Jgf∧Br true (Kfo∧Jsg ns G∧Br (bif true then !Jxn G ns else false) (J2v T E C G n ns vs tx) (J22∧Br false (Kfj∧T2 (K0k ns) (Jb9 G)∧Ku3 T E C G n ns vs tx) (Jxg ns G T E C n vs tx))) (Jxg ns G T E C n vs tx))) (Jxg ns G T E C n vs tx))) (Jxg ns G T E C n vs tx))) (Z97 vs∧Br (Jge vs) (Sf true (Sf T (Sf (E,C,G) (22=Jqm E C G n ns vs tx)))) (Br true (Z58∧Jf7 ns∧Br false (J2v T E C G n ns vs tx) (Z28∧Br true (Kfy∧Jj7 ns∧Br (Kh1 ns) (J2v T E C G n ns vs tx) (Jgf∧Br true (Kfo∧J8g ns∧Br (bif true then !Kek ns else false) (J2v T E C G n ns vs tx) (J22∧Br false (Kfj∧T2 (K0k ns) Jba∧Ku3 T E C G n ns vs tx) (Jxi ns T E C G n vs tx))) (Jxi ns T E C G n vs tx))) (Jxi ns T E C G n vs tx))) (Jxi ns T E C G n vs tx))))))=_).mp ?_
 delta Z0 Z2 Z4 Z8 Z27 Z28 Z57 Z58 Z64 Z65 Z87 Z91 Z92 Z97 U1 H9 V2 Jog J60 Jj2 Jsz Jgf Kfy Jqm J6x Jad J22 Jge Kfo Kfk Jxe Kfj Jxd K09 L9 Kk9 Kfe Jgc Kfd Jgb Vs V1 Yr K0l K0k Jdu Jba D6 D5 Jac Ft Ho Hn L8 Zv Kek Jya J8n Jga J2v J0y Kh1 Jf9 Jf8 Jf7 Kdx Jj7 Jj6 J8g J8f Ku3 Kda Fs Yc Yz Jdq Jb9 J79 Jx5 Jxn J1l Zz Zy L7 L6 Jsg Jsf Jxj Jxi Jxg Br Iw Bd T2 Tw Sf Ln Gt B0 Lb E2 Kk Jh
 intro hh hc
 have eK:=Yx (h:=(E,C,G)) (n:=n) (k:=Kk) (ns:=ns) (vs:=vs) (tx:=tx) (by kernel_rfl)
 obtain⟨hn,hv,hR,hr0,n1,n2,n3,hG,hV⟩:=Hw hh hc
 simp only[Uu,ckS,List.length_cons,List.length_nil] at eK hn hv
 rw[eK]
 simp only[hG,Jhb,Hq,Prod.eta,Jqd,Ki,Ks,Je8,Jgo,Je7,Jgn,cond_true,cond_false,Bool.not_true,Bool.not_false,Ja]
 repeat' first|apply And.intro|exact hV|intro _
 all_goals first|trivial|omega|assumption|(rename_i h;have h:=of_decide_eq_true h;omega)|(simp only[*,cond_true,cond_false,Bool.not_true,Bool.not_false];done)|(rw[Km ‹_›];(first|have e1:decide (vs.getD 0 0<U0.1)=true:=‹_›|have e1:decide (vs.getD 0 0<U0.1)=false:=‹_›);simp only[*,cond_true,cond_false,Bool.not_true,Bool.not_false];first|done|rfl)|(simp only[Bool.not_eq_false',decide_eq_true_eq] at*;assumption)
def Z13 (a:Int) (b:Ls) (c:Li) (d:Bt):=(a,K0,b,c,d)
def Jqn (a b:List Ev) (c:List Reg) (d:Int) (e:Ls) (f:Li) (g:Bt):=L5 (a,b,c) (Z13 d e f g)
def Kfl (a:Ls):=0≤Ku [] (Lx a)
def Kh9 (a:TypeId) (b c:List Ev) (d:List Reg) (e:Int) (f:Ls) (g:Li) (h:Bt):=Sf true (Sf a (Sf (b,c,d) (10=Jqn b c d e f g h)))
def Kd6 (a:TypeId) (b c:List Ev) (d:List Reg) (e:Int) (f:Ls) (g:Li) (h:Bt):=Sf true (Sf a (Sf (b,c,d) (9=Jqn b c d e f g h)))
def J8h (a:Ls):=bif true then !J8n a else false
def Kdu (a:List Reg) (b:Ls):=0≤Ku (Hn a).1 (Lx b)
def Kvh (a:TypeId) (b c:List Ev) (d:List Reg) (e:Int) (f:Ls) (g:Li) (h:Bt):=Br false (Kh9 a b c d e f g h) Jdx
def Ktx (a:Ls) (b:Li) (c:TypeId) (d e:List Ev) (f:List Reg) (g:Int) (h:Bt):=(Yr∧Y0 a∧Z60 b∧Kfl a)∧Sf true (Sf c (Sf (d,e,f) (Jl6 [] [] a b=Jqn d e f g a b h)))
def Jsi (a:List Reg) (b:Ls):=bif true then !J79 a b else false
def J7h (a:List Reg) (b:Ls) (c:Li) (d:TypeId) (e f:List Ev) (g:Int) (h:Bt):=(Yz a∧Y0 b∧Z60 c∧Kdu a b)∧Sf true (Sf d (Sf (e,f,a) (Jl6 (Hn a).1 (L8 a).1 b c=Jqn e f a g b c h)))
def J7c (a:Ls) (b:TypeId) (c d:List Ev) (e:List Reg) (f:Int) (g:Li) (h:Bt):=Br true (Z61∧Jf7 a∧Br false (Kd6 b c d e f a g h) (Z28∧Br false (Jaf∧Jj7 a∧Br (Jst a) (Kd6 b c d e f a g h) Jdx) (Ktx a g b c d e f h))) (Ktx a g b c d e f h)
def J65 (a:Ls) (b:List Reg) (c:TypeId) (d e:List Ev) (f:Int) (g:Li) (h:Bt):=Br true (Z61∧Zy a b∧Br false (Kd6 c d e b f a g h) (Z28∧Br false (Jaf∧L7 a b∧Br (Jda b a) (Kd6 c d e b f a g h) Jdx) (J7h b a g c d e f h))) (J7h b a g c d e f h)
theorem Jms (T:TypeId) (E C:List Ev) (G:List Reg) (n:Int) (ns:List ByteArray) (vs:List Int) (tx:ByteArray):wpFO Tryz.prog W91.g (Xi 2) (fun _=>na ()) (Sx.look ([(75,Tryz.f75)]:List (Nat×Func))) Tryz.f130 Jp0 T (E,C,G) ((n,K0,ns,vs,tx),()):=by
 refine(by kernel_rfl:(Kd (E,C,G)→Jb (Z13 n ns vs tx)=0→Z65 E∧Br (Jgc n E) (Sf true (Sf T (Sf (E,C,G) (11=Jqn E C G n ns vs tx)))) (Br false (Br (Z4 C) (Sf true (Sf T (Sf (E,C,G) (12=Jqn E C G n ns vs tx)))) (Jgb C∧Sf true (Sf T (Sf (E,C,G) (Jga C=Jqn E C G n ns vs tx))))) (Br (V2 G) (V1 G∧Z97 vs∧Br (Jf9 vs G) (Sf true (Sf T (Sf (E,C,G) (22=Jqn E C G n ns vs tx)))) (Br true (Z61∧Zz ns G∧Br (Jsi G ns) (Kh9 T E C G n ns vs tx) (Z28∧Br false (Jaf∧L6 ns G∧Kvh T E C G n ns vs tx) (J65 ns G T E C n vs tx))) (J65 ns G T E C n vs tx))) (Z97 vs∧Br (Jge vs) (Sf true (Sf T (Sf (E,C,G) (22=Jqn E C G n ns vs tx)))) (Br true (Z61∧Jf8 ns∧Br (J8h ns) (Kh9 T E C G n ns vs tx) (Z28∧Br false (Jaf∧Jj6 ns∧Kvh T E C G n ns vs tx) (J7c ns T E C G n vs tx))) (J7c ns T E C G n vs tx))))))=_).mp ?_
 delta Z0 Z2 Z4 Z13 Z27 Z28 Z60 Z61 Z64 Z65 Z87 Z92 Z97 U1 H9 V2 Jog Lx Y0 Jgf Jaf Jqn Jdx Jad Jge Kfl Jxe Jxd L9 Jgc Jgb Vs V1 Yr Jdu Jba D6 D5 Jac Ft Ho Hn L8 Zv Jya J8n Jga Kh9 Kd6 Jst J8h Jf9 Jf8 Jf7 Kdu Jj7 Jj6 Kvh Ktx Fs Yc Yz Jdq Jb9 J79 Jx5 Jda Jsi Zz Zy L7 L6 J7h J7c J65 Br Iw Bd T2 Tw Sf Ln Gt B0 Lb E2 K0 Jh
 intro hh hc
 have eK:=Yx (h:=(E,C,G)) (n:=n) (k:=K0) (ns:=ns) (vs:=vs) (tx:=tx) (by kernel_rfl)
 obtain⟨hn,hv,hR,hr0,n1,n2,n3,hG,hV⟩:=Hw hh hc
 simp only[Uv,ckS,List.length_cons,List.length_nil] at eK hn hv
 rw[eK]
 simp only[hG,Jhb,Hq,Prod.eta,Jqd,Ki,Ks,Je8,Jgo,Je7,Jgn,cond_true,cond_false,Bool.not_true,Bool.not_false,Ja]
 repeat' first|apply And.intro|exact hV|intro _
 all_goals first|trivial|omega|assumption|(rename_i h;have h:=of_decide_eq_true h;omega)|(simp only[*,cond_true,cond_false,Bool.not_true,Bool.not_false];done)|(rw[Km ‹_›];(first|have e1:decide (vs.getD 0 0<U0.1)=true:=‹_›|have e1:decide (vs.getD 0 0<U0.1)=false:=‹_›);simp only[*,cond_true,cond_false,Bool.not_true,Bool.not_false];first|done|rfl)|(simp only[Bool.not_eq_false',decide_eq_true_eq] at*;assumption)
def Z3 (a:Int) (b:Ls) (c:Li) (d:Bt):=(a,Vo,b,c,d)
def Jqo (a b:List Ev) (c:List Reg) (d:Int) (e:Ls) (f:Li) (g:Bt):=L5 (a,b,c) (Z3 d e f g)
def Kd8 (a:TypeId) (b c:List Ev) (d:List Reg) (e:Int) (f:Ls) (g:Li) (h:Bt):=Sf true (Sf a (Sf (b,c,d) (9=Jqo b c d e f g h)))
def Kib (a:TypeId) (b c:List Ev) (d:List Reg) (e:Int) (f:Ls) (g:Li) (h:Bt):=Sf true (Sf a (Sf (b,c,d) (10=Jqo b c d e f g h)))
def Kvj (a:TypeId) (b c:List Ev) (d:List Reg) (e:Int) (f:Ls) (g:Li) (h:Bt):=Br false (Kib a b c d e f g h) Jdx
def Khd (a:Ls) (b:Li):=Yr∧Y0 a∧Z52 b∧Kfl a
def Ktz (a:Ls) (b:Li) (c:TypeId) (d e:List Ev) (f:List Reg) (g:Int) (h:Bt):=Khd a b∧Sf true (Sf c (Sf (d,e,f) (Jcs [] a b=Jqo d e f g a b h)))
def J1j (a:List Reg) (b:Ls) (c:Li):=Yz a∧Y0 b∧Z52 c∧Kdu a b
def J7k (a:List Reg) (b:Ls) (c:Li) (d:TypeId) (e f:List Ev) (g:Int) (h:Bt):=J1j a b c∧Sf true (Sf d (Sf (e,f,a) (Jcs (Hn a).1 b c=Jqo e f a g b c h)))
def J7d (a:Ls) (b:TypeId) (c d:List Ev) (e:List Reg) (f:Int) (g:Li) (h:Bt):=Br true (Z61∧Jf7 a∧Br false (Kd8 b c d e f a g h) (Z28∧Br false (Jaf∧Jj7 a∧Br (Jst a) (Kd8 b c d e f a g h) Jdx) (Ktz a g b c d e f h))) (Ktz a g b c d e f h)
def J66 (a:Ls) (b:List Reg) (c:TypeId) (d e:List Ev) (f:Int) (g:Li) (h:Bt):=Br true (Z61∧Zy a b∧Br false (Kd8 c d e b f a g h) (Z28∧Br false (Jaf∧L7 a b∧Br (Jda b a) (Kd8 c d e b f a g h) Jdx) (J7k b a g c d e f h))) (J7k b a g c d e f h)
theorem Jqz (T:TypeId) (E C:List Ev) (G:List Reg) (n:Int) (ns:List ByteArray) (vs:List Int) (tx:ByteArray):wpFO Tryz.prog W91.g (Xi 2) (fun _=>na ()) (Sx.look ([(75,Tryz.f75)]:List (Nat×Func))) Tryz.f130 Jp0 T (E,C,G) ((n,Vo,ns,vs,tx),()):=by
 refine(by kernel_rfl:(Kd (E,C,G)→Jb (Z3 n ns vs tx)=0→Z65 E∧Br (Jgc n E) (Sf true (Sf T (Sf (E,C,G) (11=Jqo E C G n ns vs tx)))) (Br false (Br (Z4 C) (Sf true (Sf T (Sf (E,C,G) (12=Jqo E C G n ns vs tx)))) (Jgb C∧Sf true (Sf T (Sf (E,C,G) (Jga C=Jqo E C G n ns vs tx))))) (Br (V2 G) (V1 G∧Z97 vs∧Br (Jf9 vs G) (Sf true (Sf T (Sf (E,C,G) (22=Jqo E C G n ns vs tx)))) (Br true (Z61∧Zz ns G∧Br (Jsi G ns) (Kib T E C G n ns vs tx) (Z28∧Br false (Jaf∧L6 ns G∧Kvj T E C G n ns vs tx) (J66 ns G T E C n vs tx))) (J66 ns G T E C n vs tx))) (Z97 vs∧Br (Jge vs) (Sf true (Sf T (Sf (E,C,G) (22=Jqo E C G n ns vs tx)))) (Br true (Z61∧Jf8 ns∧Br (J8h ns) (Kib T E C G n ns vs tx) (Z28∧Br false (Jaf∧Jj6 ns∧Kvj T E C G n ns vs tx) (J7d ns T E C G n vs tx))) (J7d ns T E C G n vs tx))))))=_).mp ?_
 delta Z0 Z2 Z3 Z4 Z27 Z28 Z52 Z61 Z64 Z65 Z87 Z92 Z97 U1 H9 V2 Jog Lx Y0 Jgf Jaf Jqo Jdx Jad Jge Kfl Jxe Jxd L9 Jgc Jgb Vs V1 Yr Jdu Jba D6 D5 Jac Ft Ho Hn L8 Zv Jya J8n Jga Kd8 Kib Jst J8h Jf9 Jf8 Jf7 Kdu Jj7 Jj6 Kvj Khd Ktz Fs Yc Yz Jdq Jb9 J79 Jx5 Jda Jsi Zz Zy L7 L6 J1j J7k J7d J66 Br Iw Bd T2 Tw Sf Ln Gt B0 Lb E2 Jh Vo
 intro hh hc
 have eK:=Yx (h:=(E,C,G)) (n:=n) (k:=Vo) (ns:=ns) (vs:=vs) (tx:=tx) (by kernel_rfl)
 obtain⟨hn,hv,hR,hr0,n1,n2,n3,hG,hV⟩:=Hw hh hc
 simp only[Vp,ckS,List.length_cons,List.length_nil] at eK hn hv
 rw[eK]
 simp only[hG,Jhb,Hq,Prod.eta,Jqd,Ki,Ks,Je8,Jgo,Je7,Jgn,cond_true,cond_false,Bool.not_true,Bool.not_false,Ja]
 repeat' first|apply And.intro|exact hV|intro _
 all_goals first|trivial|omega|assumption|(rename_i h;have h:=of_decide_eq_true h;omega)|(simp only[*,cond_true,cond_false,Bool.not_true,Bool.not_false];done)|(rw[Km ‹_›];(first|have e1:decide (vs.getD 0 0<U0.1)=true:=‹_›|have e1:decide (vs.getD 0 0<U0.1)=false:=‹_›);simp only[*,cond_true,cond_false,Bool.not_true,Bool.not_false];first|done|rfl)|(simp only[Bool.not_eq_false',decide_eq_true_eq] at*;assumption)
def Z19 (a:Int) (b:Ls) (c:Li) (d:Bt):=(a,Jv,b,c,d)
def Z62:=Tw (Bd 0 2)
def Jyi:=Tw (Bd ((0:Int)+1) 2)
def Jqk (a b:List Ev) (c:List Reg) (d:Int) (e:Ls) (f:Li) (g:Bt):=L5 (a,b,c) (Z19 d e f g)
def Jyc:=Tw (Bd Jog 2)
def J2z:=J22∧False
def Kj0 (a:Li) (b:Ls):=Z57 a∧Kfk b
def Kix (a:Ls):=Vf Vs 2 (Z87 a)
def J57 (a:TypeId) (b c:List Ev) (d:List Reg) (e:Int) (f:Ls) (g:Li) (h:Bt):=Sf true (Sf a (Sf (b,c,d) (9=Jqk b c d e f g h)))
def J8l (a:TypeId) (b c:List Ev) (d:List Reg) (e:Int) (f:Ls) (g:Li) (h:Bt):=Sf true (Sf a (Sf (b,c,d) (10=Jqk b c d e f g h)))
def Kh3 (a:Ls):=bif true then Kek a else false
def Khj (a:Li) (b:List Reg) (c:Ls):=Z57 a∧Kdx b c
def Ku7 (a:TypeId) (b c:List Ev) (d:List Reg) (e:Int) (f:Ls) (g:Li) (h:Bt):=Br false (J8l a b c d e f g h) J2z
def Kgq (a:Int) (b:Ls) (c:Li) (d:Bt) (e:TypeId) (f g:List Ev) (h:List Reg):=(Yr∧EvV (Z19 a b c d)∧Jqq b∧Kj0 c b)∧Sf true (Sf e (Sf (f,g,h) (Jb3 [] [] [] (Z19 a b c d)=Jqk f g h a b c d)))
def Kgn (a:List Reg) (b:Ls):=Vf (Yc a) 2 (Z87 b)
def J1m (a:List Reg) (b:Ls):=bif true then Jxn a b else false
def J1d (a:List Reg) (b:Int) (c:Ls) (d:Li) (e:Bt) (f:TypeId) (g h:List Ev):=(Yz a∧EvV (Z19 b c d e)∧Jqq c∧Khj d a c)∧Sf true (Sf f (Sf (g,h,a) (Jb3 (Ho a).1 (Hn a).1 (Zv a).1 (Z19 b c d e)=Jqk g h a b c d e)))
def J1b (a:Ls) (b:TypeId) (c d:List Ev) (e:List Reg) (f:Int) (g:Li) (h:Bt):=Br true (Z62∧Jf8 a∧Br (bif true then Kix a else false) (J57 b c d e f a g h) (Z28∧Br true (Jyi∧Jj6 a∧Br false (J57 b c d e f a g h) (Jgf∧Br false (Jyc∧J8g a∧Br (Kh3 a) (J57 b c d e f a g h) J2z) (Kgq f a g h b c d e))) (Kgq f a g h b c d e))) (Kgq f a g h b c d e)
def J09 (a:Ls) (b:List Reg) (c:TypeId) (d e:List Ev) (f:Int) (g:Li) (h:Bt):=Br true (Z62∧Zz a b∧Br (bif true then Kgn b a else false) (J57 c d e b f a g h) (Z28∧Br true (Jyi∧L6 a b∧Br false (J57 c d e b f a g h) (Jgf∧Br false (Jyc∧Jsg a b∧Br (J1m b a) (J57 c d e b f a g h) J2z) (J1d b f a g h c d e))) (J1d b f a g h c d e))) (J1d b f a g h c d e)
theorem Jki (T:TypeId) (E C:List Ev) (G:List Reg) (n:Int) (ns:List ByteArray) (vs:List Int) (tx:ByteArray):wpFO Tryz.prog W91.g (Xi 3) (fun _=>na ()) (Sx.look ([(75,Tryz.f75)]:List (Nat×Func))) Tryz.f130 Jp0 T (E,C,G) ((n,Jv,ns,vs,tx),()):=by
 refine(by kernel_rfl:(Kd (E,C,G)→Jb (Z19 n ns vs tx)=0→Z65 E∧Br (Jgc n E) (Sf true (Sf T (Sf (E,C,G) (11=Jqk E C G n ns vs tx)))) (Br false (Br (Z4 C) (Sf true (Sf T (Sf (E,C,G) (12=Jqk E C G n ns vs tx)))) (Jgb C∧Sf true (Sf T (Sf (E,C,G) (Jga C=Jqk E C G n ns vs tx))))) (Br (V2 G) (V1 G∧Z97 vs∧Br (Jf9 vs G) (Sf true (Sf T (Sf (E,C,G) (22=Jqk E C G n ns vs tx)))) (Br true (Z62∧Zy ns G∧Br false (J8l T E C G n ns vs tx) (Z28∧Br true (Jyi∧L7 ns G∧Br (J1l G ns) (J8l T E C G n ns vs tx) (Jgf∧Br false (Jyc∧Jsf ns G∧Ku7 T E C G n ns vs tx) (J09 ns G T E C n vs tx))) (J09 ns G T E C n vs tx))) (J09 ns G T E C n vs tx))) (Z97 vs∧Br (Jge vs) (Sf true (Sf T (Sf (E,C,G) (22=Jqk E C G n ns vs tx)))) (Br true (Z62∧Jf7 ns∧Br false (J8l T E C G n ns vs tx) (Z28∧Br true (Jyi∧Jj7 ns∧Br (Kh1 ns) (J8l T E C G n ns vs tx) (Jgf∧Br false (Jyc∧J8f ns∧Ku7 T E C G n ns vs tx) (J1b ns T E C G n vs tx))) (J1b ns T E C G n vs tx))) (J1b ns T E C G n vs tx))))))=_).mp ?_
 delta Z0 Z2 Z4 Z19 Z27 Z28 Z57 Z62 Z64 Z65 Z87 Z91 Z92 Z97 U1 H9 V2 Jog Jj2 Jqq Jgf Jyi Jqk J6x Jad J22 Jge Jyc J2z Kfk Jxe Jxd L9 Kfe Jgc Kfd Jgb Vs V1 Yr Kj0 Jdu Jba D6 D5 Jac Ft Ho Hn L8 Zv Kek Jya Kix Jga J57 J8l Kh3 Kh1 Jf9 Jf8 Jf7 Kdx Jj7 Jj6 J8g J8f Khj Ku7 Kgq Fs Yc Yz Jdq Jb9 Kgn Jx5 Jxn J1m J1l Zz Zy L7 L6 Jsg Jsf J1d J1b J09 Br Iw Bd T2 Tw Sf Ln Gt B0 Lb E2 Jv Jh
 intro hh hc
 have eK:=Yx (h:=(E,C,G)) (n:=n) (k:=Jv) (ns:=ns) (vs:=vs) (tx:=tx) (by kernel_rfl)
 obtain⟨hn,hv,hR,hr0,n1,n2,n3,hG,hV⟩:=Hw hh hc
 simp only[Kt,ckS,List.length_cons,List.length_nil] at eK hn hv
 rw[eK]
 simp only[hG,Jhb,Hq,Prod.eta,Jqd,Ki,Ks,Je8,Jgo,Je7,Jgn,cond_true,cond_false,Bool.not_true,Bool.not_false,Ja]
 repeat' first|apply And.intro|exact hV|intro _
 all_goals first|trivial|omega|assumption|(rename_i h;have h:=of_decide_eq_true h;omega)|(simp only[*,cond_true,cond_false,Bool.not_true,Bool.not_false];done)|(rw[Km ‹_›];(first|have e1:decide (vs.getD 0 0<U0.1)=true:=‹_›|have e1:decide (vs.getD 0 0<U0.1)=false:=‹_›);simp only[*,cond_true,cond_false,Bool.not_true,Bool.not_false];first|done|rfl)|(simp only[Bool.not_eq_false',decide_eq_true_eq] at*;assumption)
def Z30 (a:Int) (b:Ls) (c:Li) (d:Bt):=(a,Jq,b,c,d)
def Jqi (a b:List Ev) (c:List Reg) (d:Int) (e:Ls) (f:Li) (g:Bt):=L5 (a,b,c) (Z30 d e f g)
def Kh5 (a:TypeId) (b c:List Ev) (d:List Reg) (e:Int) (f:Ls) (g:Li) (h:Bt):=Sf true (Sf a (Sf (b,c,d) (10=Jqi b c d e f g h)))
def Kd3 (a:TypeId) (b c:List Ev) (d:List Reg) (e:Int) (f:Ls) (g:Li) (h:Bt):=Sf true (Sf a (Sf (b,c,d) (9=Jqi b c d e f g h)))
def Kvb (a:TypeId) (b c:List Ev) (d:List Reg) (e:Int) (f:Ls) (g:Li) (h:Bt):=Br false (Kh5 a b c d e f g h) Jdx
def Khc (a:Ls) (b:Li):=Yr∧Y0 a∧Z52 b∧0≤J5 [] (Lx a)
def Ktw (a:Ls) (b:Li) (c:TypeId) (d e:List Ev) (f:List Reg) (g:Int) (h:Bt):=Khc a b∧Sf true (Sf c (Sf (d,e,f) (Jct [] [] a b=Jqi d e f g a b h)))
def J1i (a:List Reg) (b:Ls) (c:Li):=Yz a∧Y0 b∧Z52 c∧0≤J5 (Zv a).1 (Lx b)
def J7g (a:List Reg) (b:Ls) (c:Li) (d:TypeId) (e f:List Ev) (g:Int) (h:Bt):=J1i a b c∧Sf true (Sf d (Sf (e,f,a) (Jct (Zv a).1 (Zv a).2 b c=Jqi e f a g b c h)))
def J7b (a:Ls) (b:TypeId) (c d:List Ev) (e:List Reg) (f:Int) (g:Li) (h:Bt):=Br true (Z61∧Jf7 a∧Br false (Kd3 b c d e f a g h) (Z28∧Br false (Jaf∧Jj7 a∧Br (Jst a) (Kd3 b c d e f a g h) Jdx) (Ktw a g b c d e f h))) (Ktw a g b c d e f h)
def J64 (a:Ls) (b:List Reg) (c:TypeId) (d e:List Ev) (f:Int) (g:Li) (h:Bt):=Br true (Z61∧Zy a b∧Br false (Kd3 c d e b f a g h) (Z28∧Br false (Jaf∧L7 a b∧Br (Jda b a) (Kd3 c d e b f a g h) Jdx) (J7g b a g c d e f h))) (J7g b a g c d e f h)
theorem Jh6 (T:TypeId) (E C:List Ev) (G:List Reg) (n:Int) (ns:List ByteArray) (vs:List Int) (tx:ByteArray):wpFO Tryz.prog W91.g (Xi 2) (fun _=>na ()) (Sx.look ([(75,Tryz.f75)]:List (Nat×Func))) Tryz.f130 Jp0 T (E,C,G) ((n,Jq,ns,vs,tx),()):=by
 refine(by kernel_rfl:(Kd (E,C,G)→Jb (Z30 n ns vs tx)=0→Z65 E∧Br (Jgc n E) (Sf true (Sf T (Sf (E,C,G) (11=Jqi E C G n ns vs tx)))) (Br false (Br (Z4 C) (Sf true (Sf T (Sf (E,C,G) (12=Jqi E C G n ns vs tx)))) (Jgb C∧Sf true (Sf T (Sf (E,C,G) (Jga C=Jqi E C G n ns vs tx))))) (Br (V2 G) (V1 G∧Z97 vs∧Br (Jf9 vs G) (Sf true (Sf T (Sf (E,C,G) (22=Jqi E C G n ns vs tx)))) (Br true (Z61∧Zz ns G∧Br (bif true then !Kgn G ns else false) (Kh5 T E C G n ns vs tx) (Z28∧Br false (Jaf∧L6 ns G∧Kvb T E C G n ns vs tx) (J64 ns G T E C n vs tx))) (J64 ns G T E C n vs tx))) (Z97 vs∧Br (Jge vs) (Sf true (Sf T (Sf (E,C,G) (22=Jqi E C G n ns vs tx)))) (Br true (Z61∧Jf8 ns∧Br (bif true then !Kix ns else false) (Kh5 T E C G n ns vs tx) (Z28∧Br false (Jaf∧Jj6 ns∧Kvb T E C G n ns vs tx) (J7b ns T E C G n vs tx))) (J7b ns T E C G n vs tx))))))=_).mp ?_
 delta Z0 Z2 Z4 Z27 Z28 Z30 Z52 Z61 Z64 Z65 Z87 Z92 Z97 U1 H9 V2 Jog Lx Y0 Jgf Jaf Jqi Jdx Jad Jge Jxe Jxd L9 Jgc Jgb Vs V1 Yr Jdu Jba D6 D5 Jac Ft Ho Hn L8 Zv Jya Kix Jga Kh5 Kd3 Jst Jf9 Jf8 Jf7 Jj7 Jj6 Kvb Khc Ktw Fs Yc Yz Jdq Jb9 Kgn Jx5 Jda Zz Zy L7 L6 J1i J7g J7b J64 Br Iw Bd T2 Tw Sf Ln Gt B0 Lb E2 Jq Jh
 intro hh hc
 have eK:=Yx (h:=(E,C,G)) (n:=n) (k:=Jq) (ns:=ns) (vs:=vs) (tx:=tx) (by kernel_rfl)
 obtain⟨hn,hv,hR,hr0,n1,n2,n3,hG,hV⟩:=Hw hh hc
 simp only[Kj,ckS,List.length_cons,List.length_nil] at eK hn hv
 rw[eK]
 simp only[hG,Jhb,Hq,Prod.eta,Jqd,Ki,Ks,Je8,Jgo,Je7,Jgn,cond_true,cond_false,Bool.not_true,Bool.not_false,Ja]
 repeat' first|apply And.intro|exact hV|intro _
 all_goals first|trivial|omega|assumption|(rename_i h;have h:=of_decide_eq_true h;omega)|(simp only[*,cond_true,cond_false,Bool.not_true,Bool.not_false];done)|(rw[Km ‹_›];(first|have e1:decide (vs.getD 0 0<U0.1)=true:=‹_›|have e1:decide (vs.getD 0 0<U0.1)=false:=‹_›);simp only[*,cond_true,cond_false,Bool.not_true,Bool.not_false];first|done|rfl)|(simp only[Bool.not_eq_false',decide_eq_true_eq] at*;assumption)
def Z16 (a:Int) (b:Ls) (c:Li) (d:Bt):=(a,Kb,b,c,d)
def Jqj (a b:List Ev) (c:List Reg) (d:Int) (e:Ls) (f:Li) (g:Bt):=L5 (a,b,c) (Z16 d e f g)
def Kiw (a:Ls):=Vf Vs 3 (Z87 a)
def J56 (a:TypeId) (b c:List Ev) (d:List Reg) (e:Int) (f:Ls) (g:Li) (h:Bt):=Sf true (Sf a (Sf (b,c,d) (9=Jqj b c d e f g h)))
def J8k (a:TypeId) (b c:List Ev) (d:List Reg) (e:Int) (f:Ls) (g:Li) (h:Bt):=Sf true (Sf a (Sf (b,c,d) (10=Jqj b c d e f g h)))
def Ku6 (a:TypeId) (b c:List Ev) (d:List Reg) (e:Int) (f:Ls) (g:Li) (h:Bt):=Br false (J8k a b c d e f g h) J2z
def Kgv (a:Ls) (b:Li) (c:TypeId) (d e:List Ev) (f:List Reg) (g:Int) (h:Bt):=(Yr∧Jyl a∧Z52 b∧0≤J5 [] (Jj2 a))∧Sf true (Sf c (Sf (d,e,f) (Jcu [] [] a b=Jqj d e f g a b h)))
def Kgm (a:List Reg) (b:Ls):=Vf (Yc a) 3 (Z87 b)
def J1e (a:List Reg) (b:Ls) (c:Li) (d:TypeId) (e f:List Ev) (g:Int) (h:Bt):=(Yz a∧Jyl b∧Z52 c∧0≤J5 (Zv a).1 (Jj2 b))∧Sf true (Sf d (Sf (e,f,a) (Jcu (Zv a).1 (Zv a).2 b c=Jqj e f a g b c h)))
def J1c (a:Ls) (b:TypeId) (c d:List Ev) (e:List Reg) (f:Int) (g:Li) (h:Bt):=Br true (Z62∧Jf8 a∧Br (bif true then Kiw a else false) (J56 b c d e f a g h) (Z28∧Br true (Jyi∧Jj6 a∧Br false (J56 b c d e f a g h) (Jgf∧Br false (Jyc∧J8g a∧Br (Kh3 a) (J56 b c d e f a g h) J2z) (Kgv a g b c d e f h))) (Kgv a g b c d e f h))) (Kgv a g b c d e f h)
def J1a (a:Ls) (b:List Reg) (c:TypeId) (d e:List Ev) (f:Int) (g:Li) (h:Bt):=Br true (Z62∧Zz a b∧Br (bif true then Kgm b a else false) (J56 c d e b f a g h) (Z28∧Br true (Jyi∧L6 a b∧Br false (J56 c d e b f a g h) (Jgf∧Br false (Jyc∧Jsg a b∧Br (J1m b a) (J56 c d e b f a g h) J2z) (J1e b a g c d e f h))) (J1e b a g c d e f h))) (J1e b a g c d e f h)
theorem Jkh (T:TypeId) (E C:List Ev) (G:List Reg) (n:Int) (ns:List ByteArray) (vs:List Int) (tx:ByteArray):wpFO Tryz.prog W91.g (Xi 3) (fun _=>na ()) (Sx.look ([(75,Tryz.f75)]:List (Nat×Func))) Tryz.f130 Jp0 T (E,C,G) ((n,Kb,ns,vs,tx),()):=by
 refine(by kernel_rfl:(Kd (E,C,G)→Jb (Z16 n ns vs tx)=0→Z65 E∧Br (Jgc n E) (Sf true (Sf T (Sf (E,C,G) (11=Jqj E C G n ns vs tx)))) (Br false (Br (Z4 C) (Sf true (Sf T (Sf (E,C,G) (12=Jqj E C G n ns vs tx)))) (Jgb C∧Sf true (Sf T (Sf (E,C,G) (Jga C=Jqj E C G n ns vs tx))))) (Br (V2 G) (V1 G∧Z97 vs∧Br (Jf9 vs G) (Sf true (Sf T (Sf (E,C,G) (22=Jqj E C G n ns vs tx)))) (Br true (Z62∧Zy ns G∧Br false (J8k T E C G n ns vs tx) (Z28∧Br true (Jyi∧L7 ns G∧Br (bif true then !Vf (Yc G) 2 (H9 ns) else false) (J8k T E C G n ns vs tx) (Jgf∧Br false (Jyc∧Jsf ns G∧Ku6 T E C G n ns vs tx) (J1a ns G T E C n vs tx))) (J1a ns G T E C n vs tx))) (J1a ns G T E C n vs tx))) (Z97 vs∧Br (Jge vs) (Sf true (Sf T (Sf (E,C,G) (22=Jqj E C G n ns vs tx)))) (Br true (Z62∧Jf7 ns∧Br false (J8k T E C G n ns vs tx) (Z28∧Br true (Jyi∧Jj7 ns∧Br (bif true then !Vf Vs 2 (H9 ns) else false) (J8k T E C G n ns vs tx) (Jgf∧Br false (Jyc∧J8f ns∧Ku6 T E C G n ns vs tx) (J1c ns T E C G n vs tx))) (J1c ns T E C G n vs tx))) (J1c ns T E C G n vs tx))))))=_).mp ?_
 delta Z0 Z2 Z4 Z16 Z27 Z28 Z52 Z62 Z64 Z65 Z87 Z91 Z92 Z97 U1 H9 V2 Jog Jj2 Jyl Jgf Jyi Jqj J6x Jad J22 Jge Jyc J2z Jxe Jxd L9 Kfe Jgc Kfd Jgb Vs V1 Yr Jdu Jba D6 D5 Jac Ft Ho Hn L8 Zv Kek Kiw Jga J56 J8k Kh3 Jf9 Jf8 Jf7 Jj7 Jj6 J8g J8f Ku6 Kgv Fs Yc Yz Jdq Jb9 Kgm Jxn J1m Zz Zy L7 L6 Jsg Jsf J1e J1c J1a Br Iw Bd T2 Tw Sf Ln Gt B0 Lb E2 Kb Jh
 intro hh hc
 have eK:=Yx (h:=(E,C,G)) (n:=n) (k:=Kb) (ns:=ns) (vs:=vs) (tx:=tx) (by kernel_rfl)
 obtain⟨hn,hv,hR,hr0,n1,n2,n3,hG,hV⟩:=Hw hh hc
 simp only[K4,ckS,List.length_cons,List.length_nil] at eK hn hv
 rw[eK]
 simp only[hG,Jhb,Hq,Prod.eta,Jqd,Ki,Ks,Je8,Jgo,Je7,Jgn,cond_true,cond_false,Bool.not_true,Bool.not_false,Ja]
 repeat' first|apply And.intro|exact hV|intro _
 all_goals first|trivial|omega|assumption|(rename_i h;have h:=of_decide_eq_true h;omega)|(simp only[*,cond_true,cond_false,Bool.not_true,Bool.not_false];done)|(rw[Km ‹_›];(first|have e1:decide (vs.getD 0 0<U0.1)=true:=‹_›|have e1:decide (vs.getD 0 0<U0.1)=false:=‹_›);simp only[*,cond_true,cond_false,Bool.not_true,Bool.not_false];first|done|rfl)|(simp only[Bool.not_eq_false',decide_eq_true_eq] at*;assumption)
def Z22 (a:Int) (b:Ls) (c:Li) (d:Bt):=(a,Ka,b,c,d)
def Jql (a b:List Ev) (c:List Reg) (d:Int) (e:Ls) (f:Li) (g:Bt):=L5 (a,b,c) (Z22 d e f g)
def Kh7 (a:TypeId) (b c:List Ev) (d:List Reg) (e:Int) (f:Ls) (g:Li) (h:Bt):=Sf true (Sf a (Sf (b,c,d) (10=Jql b c d e f g h)))
def Kd5 (a:TypeId) (b c:List Ev) (d:List Reg) (e:Int) (f:Ls) (g:Li) (h:Bt):=Sf true (Sf a (Sf (b,c,d) (9=Jql b c d e f g h)))
def Khq (a:Ls):=Yr∧Y0 a∧0≤Uz [] (Lx a)
def Kve (a:TypeId) (b c:List Ev) (d:List Reg) (e:Int) (f:Ls) (g:Li) (h:Bt):=Br false (Kh7 a b c d e f g h) Jdx
def Kt8 (a:Ls) (b:TypeId) (c d:List Ev) (e:List Reg) (f:Int) (g:Li) (h:Bt):=Khq a∧Sf true (Sf b (Sf (c,d,e) (Jn3 [] a=Jql c d e f a g h)))
def J1k (a:List Reg) (b:Ls):=Yz a∧Y0 b∧0≤Uz (Zv a).2 (Lx b)
def J7l (a:List Reg) (b:Ls) (c:TypeId) (d e:List Ev) (f:Int) (g:Li) (h:Bt):=J1k a b∧Sf true (Sf c (Sf (d,e,a) (Jn3 (Zv a).2 b=Jql d e a f b g h)))
def J7f (a:Ls) (b:TypeId) (c d:List Ev) (e:List Reg) (f:Int) (g:Li) (h:Bt):=Br true (Z61∧Jf7 a∧Br false (Kd5 b c d e f a g h) (Z28∧Br false (Jaf∧Jj7 a∧Br (Jst a) (Kd5 b c d e f a g h) Jdx) (Kt8 a b c d e f g h))) (Kt8 a b c d e f g h)
def J67 (a:Ls) (b:List Reg) (c:TypeId) (d e:List Ev) (f:Int) (g:Li) (h:Bt):=Br true (Z61∧Zy a b∧Br false (Kd5 c d e b f a g h) (Z28∧Br false (Jaf∧L7 a b∧Br (Jda b a) (Kd5 c d e b f a g h) Jdx) (J7l b a c d e f g h))) (J7l b a c d e f g h)
theorem Jkg (T:TypeId) (E C:List Ev) (G:List Reg) (n:Int) (ns:List ByteArray) (vs:List Int) (tx:ByteArray):wpFO Tryz.prog W91.g (Xi 2) (fun _=>na ()) (Sx.look ([(75,Tryz.f75)]:List (Nat×Func))) Tryz.f130 Jp0 T (E,C,G) ((n,Ka,ns,vs,tx),()):=by
 refine(by kernel_rfl:(Kd (E,C,G)→Jb (Z22 n ns vs tx)=0→Z65 E∧Br (Jgc n E) (Sf true (Sf T (Sf (E,C,G) (11=Jql E C G n ns vs tx)))) (Br false (Br (Z4 C) (Sf true (Sf T (Sf (E,C,G) (12=Jql E C G n ns vs tx)))) (Jgb C∧Sf true (Sf T (Sf (E,C,G) (Jga C=Jql E C G n ns vs tx))))) (Br (V2 G) (V1 G∧Z97 vs∧Br (Jf9 vs G) (Sf true (Sf T (Sf (E,C,G) (22=Jql E C G n ns vs tx)))) (Br true (Z61∧Zz ns G∧Br (bif true then !Kgm G ns else false) (Kh7 T E C G n ns vs tx) (Z28∧Br false (Jaf∧L6 ns G∧Kve T E C G n ns vs tx) (J67 ns G T E C n vs tx))) (J67 ns G T E C n vs tx))) (Z97 vs∧Br (Jge vs) (Sf true (Sf T (Sf (E,C,G) (22=Jql E C G n ns vs tx)))) (Br true (Z61∧Jf8 ns∧Br (bif true then !Kiw ns else false) (Kh7 T E C G n ns vs tx) (Z28∧Br false (Jaf∧Jj6 ns∧Kve T E C G n ns vs tx) (J7f ns T E C G n vs tx))) (J7f ns T E C G n vs tx))))))=_).mp ?_
 delta Z0 Z2 Z4 Z22 Z27 Z28 Z61 Z64 Z65 Z87 Z92 Z97 U1 H9 V2 Jog Lx Y0 Jgf Jaf Jql Jdx Jad Jge Jxe Jxd L9 Jgc Jgb Vs V1 Yr Jdu Jba D6 D5 Jac Ft Ho Hn L8 Zv Jya Kiw Jga Kh7 Kd5 Jst Jf9 Jf8 Jf7 Jj7 Jj6 Khq Kve Kt8 Fs Yc Yz Jdq Jb9 Jx5 Kgm Jda Zz Zy L7 L6 J1k J7l J7f J67 Br Iw Bd T2 Tw Sf Ln Gt B0 Lb E2 Ka Jh
 intro hh hc
 have eK:=Yx (h:=(E,C,G)) (n:=n) (k:=Ka) (ns:=ns) (vs:=vs) (tx:=tx) (by kernel_rfl)
 obtain⟨hn,hv,hR,hr0,n1,n2,n3,hG,hV⟩:=Hw hh hc
 simp only[K3,ckS,List.length_cons,List.length_nil] at eK hn hv
 rw[eK]
 simp only[hG,Jhb,Hq,Prod.eta,Jqd,Ki,Ks,Je8,Jgo,Je7,Jgn,cond_true,cond_false,Bool.not_true,Bool.not_false,Ja]
 repeat' first|apply And.intro|exact hV|intro _
 all_goals first|trivial|omega|assumption|(rename_i h;have h:=of_decide_eq_true h;omega)|(simp only[*,cond_true,cond_false,Bool.not_true,Bool.not_false];done)|(rw[Km ‹_›];(first|have e1:decide (vs.getD 0 0<U0.1)=true:=‹_›|have e1:decide (vs.getD 0 0<U0.1)=false:=‹_›);simp only[*,cond_true,cond_false,Bool.not_true,Bool.not_false];first|done|rfl)|(simp only[Bool.not_eq_false',decide_eq_true_eq] at*;assumption)
def Z17 (a:Int) (b:Ls) (c:Li) (d:Bt):=(a,Jh,b,c,d)
def Jof (a b:List Ev) (c:List Reg) (d:Int) (e:Ls) (f:Li) (g:Bt):=L5 (a,b,c) (Z17 d e f g)
def Kvl (a:TypeId) (b c:List Ev) (d:List Reg) (e:Int) (f:Ls) (g:Li) (h:Bt):=Br false (Sf true (Sf a (Sf (b,c,d) (10=Jof b c d e f g h)))) J27
theorem Jkf (T:TypeId) (E C:List Ev) (G:List Reg) (n:Int) (ns:List ByteArray) (vs:List Int) (tx:ByteArray):wpFO Tryz.prog W91.g (Xi 1) (fun _=>na ()) (Sx.look ([(75,Tryz.f75)]:List (Nat×Func))) Tryz.f130 Jp0 T (E,C,G) ((n,Jh,ns,vs,tx),()):=by
 refine(by kernel_rfl:(Kd (E,C,G)→Jb (Z17 n ns vs tx)=0→Z65 E∧Br (Jgc n E) (Sf true (Sf T (Sf (E,C,G) (11=Jof E C G n ns vs tx)))) (Br false (Br (Z4 C) (Sf true (Sf T (Sf (E,C,G) (12=Jof E C G n ns vs tx)))) (Jgb C∧Sf true (Sf T (Sf (E,C,G) (Jga C=Jof E C G n ns vs tx))))) (Br (V2 G) (V1 G∧Z97 vs∧Br (Jf9 vs G) (Sf true (Sf T (Sf (E,C,G) (22=Jof E C G n ns vs tx)))) (Br false (Z49∧Zy ns G∧Kvl T E C G n ns vs tx) (Br false (Z49∧Zz ns G∧Br (Jsj G ns) (Sf true (Sf T (Sf (E,C,G) (9=Jof E C G n ns vs tx)))) J27) (J8a G vs∧Sf true (Sf T (Sf (E,C,G) (Lu (Ft G) (Hn G).1 (L8 G).1 (Zv G).1 (Zv G).2 vs=Jof E C G n ns vs tx))))))) (Z97 vs∧Br (Jge vs) (Sf true (Sf T (Sf (E,C,G) (22=Jof E C G n ns vs tx)))) (Br false (Z49∧Jf7 ns∧Kvl T E C G n ns vs tx) (Br false (Z49∧Jf8 ns∧Br (J8j ns) (Sf true (Sf T (Sf (E,C,G) (9=Jof E C G n ns vs tx)))) J27) (J8q vs∧Sf true (Sf T (Sf (E,C,G) (Lu 0 [] [] [] [] vs=Jof E C G n ns vs tx))))))))))=_).mp ?_
 delta Z0 Z2 Z4 Z17 Z27 Z28 Z49 Z59 Z64 Z65 Z87 Z92 Z97 U1 V2 J27 Jof Jad Jge L9 Jgc Jgb Vs V1 Yr Jdu Jba D6 D5 Jac J8q Ft Ho Hn L8 Zv J2w Jga J8j Jf9 Jf8 Jf7 Kvl Fs Yc Yz Jdq Jb9 J8a J2s Jsj Zz Zy Br Iw Bd T2 Tw Sf Ln Gt B0 Lb E2 Jh
 intro hh hc
 have eK:=Yx (h:=(E,C,G)) (n:=n) (k:=Jh) (ns:=ns) (vs:=vs) (tx:=tx) (by kernel_rfl)
 obtain⟨hn,hv,hR,hr0,n1,n2,n3,hG,hV⟩:=Hw hh hc
 simp only[Us,ckS,List.length_cons,List.length_nil] at eK hn hv
 rw[eK]
 simp only[hG,Jhb,Hq,Prod.eta,Jqd,Ki,Ks,Je8,Jgo,Je7,Jgn,cond_true,cond_false,Bool.not_true,Bool.not_false,Ja]
 repeat' first|apply And.intro|exact hV|intro _
 all_goals first|trivial|omega|assumption|(rename_i h;have h:=of_decide_eq_true h;omega)|(simp only[*,cond_true,cond_false,Bool.not_true,Bool.not_false];done)|(rw[Km ‹_›];(first|have e1:decide (vs.getD 0 0<U0.1)=true:=‹_›|have e1:decide (vs.getD 0 0<U0.1)=false:=‹_›);simp only[*,cond_true,cond_false,Bool.not_true,Bool.not_false];first|done|rfl)|(simp only[Bool.not_eq_false',decide_eq_true_eq] at*;assumption)
theorem Lm {a b:ByteArray} (h:(a.toList==b.toList)=true):a=b:=by
 have h:=eq_of_beq h
 rw[Lib.toList_data,Lib.toList_data] at h
 cases a;cases b
 congr
 exact Array.toList_inj.1 h
theorem Ju1 {a b:ByteArray} (h:D4 .str a b=true):a=b:=Lm h
theorem Jeu {β:Type} {ks:Sch} {k:ks.T}:∀{l:List (ks.T×β)},(Uh ks k l).isSome=true→∃x∈l,D4 ks k x.1=true
 |[],h=>by cases h
 | x :: l, h => by
  unfold Uh at h
  by_cases hx:D4 ks k x.1=true
  ·exact⟨x,List.mem_cons_self ..,hx⟩
  ·rw[if_neg hx] at h
   obtain⟨y,h1,h2⟩:=Jeu h
   exact⟨y,List.mem_cons_of_mem _ h1,h2⟩
theorem Vd {k:ByteArray} (h:Ys k=true):k=Jz∨k=Ju∨k=K7∨k=Kk∨k=K0∨k=Vo∨k=Jv∨k=Jq∨k=Kb∨k=Ka∨k=Jh:=by
 obtain⟨x,hx,hk⟩:=Jeu h
 have hk:=Ju1 hk
 unfold Lr at hx
 subst hk
 rcases List.mem_cons.1 hx with rfl|hx
 ·exact .inl rfl
 rcases List.mem_cons.1 hx with rfl|hx
 ·exact .inr (.inl rfl)
 rcases List.mem_cons.1 hx with rfl|hx
 ·exact .inr (.inr (.inl rfl))
 rcases List.mem_cons.1 hx with rfl|hx
 ·exact .inr (.inr (.inr (.inl rfl)))
 rcases List.mem_cons.1 hx with rfl|hx
 ·exact .inr (.inr (.inr (.inr (.inl rfl))))
 rcases List.mem_cons.1 hx with rfl|hx
 ·exact .inr (.inr (.inr (.inr (.inr (.inl rfl)))))
 rcases List.mem_cons.1 hx with rfl|hx
 ·exact .inr (.inr (.inr (.inr (.inr (.inr (.inl rfl))))))
 rcases List.mem_cons.1 hx with rfl|hx
 ·exact .inr (.inr (.inr (.inr (.inr (.inr (.inr (.inl rfl)))))))
 rcases List.mem_cons.1 hx with rfl|hx
 ·exact .inr (.inr (.inr (.inr (.inr (.inr (.inr (.inr (.inl rfl))))))))
 rcases List.mem_cons.1 hx with rfl|hx
 ·exact .inr (.inr (.inr (.inr (.inr (.inr (.inr (.inr (.inr (.inl rfl)))))))))
 rcases List.mem_cons.1 hx with rfl|hx
 ·exact .inr (.inr (.inr (.inr (.inr (.inr (.inr (.inr (.inr (.inr rfl)))))))))
 cases hx
theorem Jas:∀{l:List Prop} {q:Prop},(Ul l→J4f l q)→J4f l q
 |[],_,h=>h trivial
 |[_],_,h=>fun hp=>h hp hp
 |_::p'::r,_,h=>fun hp=>Jas (l:=p'::r) fun hr=>h ⟨hp,hr⟩ hp
theorem Jh2 {Γ:Gam} {ann:Nat→Option Ann} {annF:FuncId→Nat→Option Ann} {lib:FuncId→Option Func} {fn:Func} {c:Xt} {T:TypeId} {x:c.s.T} {y:ATup c.args} (hb:fn.body.isSome=true) (h:Ul (c.pre x y)→wpFO Tryz.prog Γ ann annF lib fn c T x y):wpFO Tryz.prog Γ ann annF lib fn c T x y:=by
 unfold wpFO at h⊢
 cases hc:fn.body with
 |none=>rw[hc] at hb;cases hb
 |some code=>
  rw[hc] at h
  exact Jas h
def Jbj (k:ByteArray):Nat:=if k=Jz then 1 else(Ji k).1.length+1
theorem Kmp (T:TypeId):∀(x:Kn) (y:ATup [aEv]),wpFO Tryz.prog W91.g (Xi (Jbj y.1.2.1)) (fun _=>na ()) (Sx.look ([(75,Tryz.f75)]:List (Nat×Func))) Tryz.f130 Jp0 T x y
 |(E,C,G),((n,k,ns,vs,tx),())=>by
  refine Jh2 (by kernel_rfl) fun hp=> ?_
  have hc:Jb (n,k,ns,vs,tx)=0:=hp.2
  rcases Vd (Uj hc).kind with h|h|h|h|h|h|h|h|h|h|h<;>dsimp only at h<;>subst h
  ·exact(show Jbj Jz=1 from by kernel_rfl)▸Jqy T E C G n ns vs tx
  ·exact(show Jbj Ju=2 from by kernel_rfl)▸Jh5 T E C G n ns vs tx
  ·exact(show Jbj K7=2 from by kernel_rfl)▸Jmq T E C G n ns vs tx
  ·exact(show Jbj Kk=4 from by kernel_rfl)▸Jmr T E C G n ns vs tx
  ·exact(show Jbj K0=2 from by kernel_rfl)▸Jms T E C G n ns vs tx
  ·exact(show Jbj Vo=2 from by kernel_rfl)▸Jqz T E C G n ns vs tx
  ·exact(show Jbj Jv=3 from by kernel_rfl)▸Jki T E C G n ns vs tx
  ·exact(show Jbj Jq=2 from by kernel_rfl)▸Jh6 T E C G n ns vs tx
  ·exact(show Jbj Kb=3 from by kernel_rfl)▸Jkh T E C G n ns vs tx
  ·exact(show Jbj Ka=2 from by kernel_rfl)▸Jkg T E C G n ns vs tx
  ·exact(show Jbj Jh=1 from by kernel_rfl)▸Jkf T E C G n ns vs tx
theorem Kaj:Ok Tryz.prog 130 (Xt.con Jp0):=Xz (K9 mixed W91.ok (by kernel_rfl) (by kernel_rfl) (U6 (l:=([(75,Tryz.f75)]:List (Nat×Func))) (List.forall_mem_cons.2 ⟨by kernel_rfl,by simp⟩)) (fun _ yy=>Xi (Jbj yy.1.2.1)) (fun _ _=>fun _=>na ()) fun T xx yy _=>Kmp T xx yy)
abbrev W92:=W91.add Kaj
def doS (r:Reg) (e:Ev):Reg:=match(Ji e.2.1).2.2.2.1 with
 |some 149=>Jay r e
 |some 153=>Fk r e
 |some 155=>Fo r e
 |some 158=>Fp r e
 |some 160=>Fj r e
 |some 162=>Fm r e
 |some 165=>Fl r e
 |some 167=>Fn r e
 |some 170=>Jgq r e
 |some 172=>Jax r e
 |_=>r
def Jp (r:Reg) (e:Ev):Reg:=(e.2.2.2.1.getD 0 0,(doS r e).2)
def D1 (h:Kn) (e:Ev):Kn:=
 bif e.2.1.toList==Jz.toList then(h.1++[e],h.2.1.take (h.2.1.length-1),h.2.2.take (h.2.1.length-1)) else(h.1++[e],h.2.1++[e],h.2.2++[Jp (Kc h.2.2) e])
def Uk (h:Kn) (e:Ev):Int:=if Jb e≠0 then Jb e else L5 h e
def Jfm (e:Ev):Prop:=e.2.2.1.length≤1000000∧e.2.2.2.1.length≤1000000∧∀s∈e.2.2.1,s.size≤1000000
def Vj (h:Kn) (e:Ev):Kn:=if Uk h e=0 then D1 h e else h
def Kgl:Xt:={T? :=none,s:=Jit,args:=[aEv],ress:=[I],pre:=fun h (e,_)=>[Kd h,h.1.length<1000,Jfm e],spec:=fun h (e,_)=>(Uk h e,()),post:=fun h (e,_)=>Vj h e}
def Jb5:Xt:={Kgl with pre:=fun h (e,_)=>[Kd h,h.1.length<1000,Jfm e,Jb e=0,L5 h e=0]}
theorem Ja9 {h:Kn} {n:Int} {ns:List ByteArray} {vs:List Int} {roles:List (Int×Bool)} {ck:Int} (e:Jqd h n ns vs roles ck=0):n=(h.1.length:Int)+1∧¬vs.getD 0 0<(Kc h.2.2).1∧Ki (Kc h.2.2) ns roles 0=false∧Ks (Kc h.2.2) ns roles 0=false∧ck=0:=by
 unfold Jqd at e
 cases h1:n !=(h.1.length:Int)+1 with
 |true=>rw[h1] at e;cases e
 | false =>
  rw[h1,cond_false] at e
  cases h2:decide (vs.getD 0 0<(Kc h.2.2).1) with
  |true=>rw[h2] at e;cases e
  | false =>
   rw[h2,cond_false] at e
   cases h3:Ki (Kc h.2.2) ns roles 0 with
   |true=>rw[h3] at e;cases e
   | false =>
    rw[h3,cond_false] at e
    cases h4:Ks (Kc h.2.2) ns roles 0 with
    |true=>rw[h4] at e;cases e
    |false=>
     rw[h4,cond_false] at e
     exact⟨bne_eq_false_iff_eq.1 h1,of_decide_eq_false h2,rfl,rfl,e⟩
theorem Jm {r:Reg} {ns:List ByteArray} {w:Int} {b:Bool} {l:List (Int×Bool)} {i:Nat} (h:Ki r ns ((w,b)::l) i=false):(b=true→Vf r w (ns.getD i Ja)=true)∧Ki r ns l (i+1)=false:=by
 unfold Ki at h
 cases b with
 |false=>exact⟨fun f=>(by cases f),h⟩
 |true=>
  cases h1:Vf r w (ns.getD i Ja) with
  |true=>rw[h1] at h;exact⟨fun _=>rfl,h⟩
  |false=>rw[h1] at h;cases h
theorem Jr0 {r:Reg} {s:ByteArray} (h:Vf r 0 s=true):0≤Jx r.2.2.1 s:=of_decide_eq_true (show decide _=true from h)
theorem J2e {r:Reg} {s:ByteArray} (h:Vf r 1 s=true):0≤Ku r.2.2.2.1 s:=of_decide_eq_true (show decide _=true from h)
theorem J2d {r:Reg} {s:ByteArray} (h:Vf r 2 s=true):0≤J5 r.2.2.2.2.2.1 s:=of_decide_eq_true (show decide _=true from h)
theorem Kgj {r:Reg} {s:ByteArray} (h:Vf r 3 s=true):0≤Uz r.2.2.2.2.2.2 s:=of_decide_eq_true (show decide _=true from h)
theorem Jze {h:Kn} {n:Int} {k:ByteArray} {ns:List ByteArray} {vs:List Int} {tx:ByteArray} (hk:(k.toList==Jz.toList)=false) (hc:Jb (n,k,ns,vs,tx)=0) (ha:L5 h (n,k,ns,vs,tx)=0):Uk h (n,k,ns,vs,tx)=0∧Vj h (n,k,ns,vs,tx)=(h.1++[(n,k,ns,vs,tx)],h.2.1++[(n,k,ns,vs,tx)],h.2.2++[Jp (Kc h.2.2) (n,k,ns,vs,tx)]):=by
 have e:Uk h (n,k,ns,vs,tx)=0:=by unfold Uk;rw[if_neg (by rw[hc];simp)];exact ha
 refine⟨e, ?_⟩
 unfold Vj;rw[if_pos e];unfold D1;dsimp only;rw[hk];rfl
theorem Jgj {E C:List Ev} {G:List Reg} {n:Int} {k:ByteArray} {ns:List ByteArray} {vs:List Int} {tx:ByteArray} (hk:(k.toList==Jz.toList)=false) (hc:Jb (n,k,ns,vs,tx)=0) (ha:L5 (E,C,G) (n,k,ns,vs,tx)=0):Ki (Kc G) ns (Ji k).1 0=false∧Uk (E,C,G) (n,k,ns,vs,tx)=0∧Vj (E,C,G) (n,k,ns,vs,tx)=(E++[(n,k,ns,vs,tx)],C++[(n,k,ns,vs,tx)],G++[Jp (Kc G) (n,k,ns,vs,tx)]):=
 have e:=Yx (h:=(E,C,G)) (n:=n) (ns:=ns) (vs:=vs) (tx:=tx) hk
 ⟨(Ja9 (e.symm.trans ha)).2.2.1,Jze hk hc ha⟩
theorem J0x {h:Kn} {n:Int} {ns:List ByteArray} {vs:List Int} {tx:ByteArray} (ha:L5 h (n,Jz,ns,vs,tx)=0):n=(h.1.length:Int)+1∧h.2.1.length≠0∧((h.2.1.getD (h.2.1.length-1) ev0).2.1.toList==Jh.toList)=false:=by
 unfold L5 at ha
 dsimp only at ha
 rw[show(Jz.toList==Jz.toList)=true from by kernel_rfl,cond_true] at ha
 cases h1:n !=(h.1.length:Int)+1 with
 |true=>rw[h1] at ha;cases ha
 | false =>
  rw[h1,cond_false] at ha
  cases h2:(h.2.1.length:Int)==0 with
  |true=>rw[h2] at ha;cases ha
  |false=>
   rw[h2,cond_false] at ha
   cases h3:(h.2.1.getD (h.2.1.length-1) ev0).2.1.toList==Jh.toList with
   |true=>rw[h3] at ha;cases ha
   |false=>exact⟨bne_eq_false_iff_eq.1 h1,(fun e=>by rw[e] at h2;cases h2),rfl⟩
def Z42 (a:List Ev):=List.length a<1000
def Jc8 (a:List Ev):=(List.length a+1)*88≤140737488355328
def Jdw:=0≤1000000∧T2 (0≤1000000) (Tw (0≤1000000))
def Jdv (a:List Ev) (b:List Reg):=(List.take (Int.toNat (Z2 a)) a,List.take (Int.toNat (Z2 a)) b)
def D7 (a:List Ev) (b:List Reg):=Jc8 a∧(List.length b+1)*136≤140737488355328
def Jdt (a:List Ev) (b:List Reg):=(0≤Z2 a∧Z2 a≤Ln a)∧0≤Z2 a∧Z2 a≤Ln b
def Jds (a:Ls) (b:Li):=Jbb a∧Z47 b∧Jhr a
def Jdr (a:List Reg):=List.length (Ho a).1≤1000000∧List.length (Hn a).1≤1000000∧List.length (L8 a).1≤1000000∧List.length (Zv a).1≤1000000∧List.length (Zv a).2≤1000000
theorem Jq0 (T:TypeId) (E C:List Ev) (G:List Reg) (n:Int) (ns:List ByteArray) (vs:List Int) (tx:ByteArray):wpFO Tryz.prog W92.g (na ()) (fun _=>na ()) (Sx.look ([(75,Tryz.f75),(129,Tryz.f129)]:List (Nat×Func))) Tryz.f121 Jb5 T (E,C,G) ((n,Jz,ns,vs,tx),()):=by
 refine(by kernel_rfl:(Kd (E,C,G)→Z42 E→Jfm (Z1 n ns vs tx)→Jb (Z1 n ns vs tx)=0→Jsc E C G n ns vs tx=0→Jds ns vs∧Br (Jb (Z1 n ns vs tx) !=0) (Sf true (Sf T ((E,C,G)=Vj (E,C,G) (Z1 n ns vs tx)∧Jb (Z1 n ns vs tx)=Uk (E,C,G) (Z1 n ns vs tx)))) ((Kd (E,C,G)∧Jb (Z1 n ns vs tx)=0)∧Br (Jsc E C G n ns vs tx !=0) (Sf true (Sf T ((E,C,G)=Vj (E,C,G) (Z1 n ns vs tx)∧Jsc E C G n ns vs tx=Uk (E,C,G) (Z1 n ns vs tx)))) (Jcz ns vs∧Jc8 E∧Br true (Z64 C∧Jdt C G∧Sf true (Sf T ((E++[Z1 n ns vs tx],Jdv C G)=Vj (E,C,G) (Z1 n ns vs tx)∧0=Uk (E,C,G) (Z1 n ns vs tx)))) (Br (V2 G) (V1 G∧Jdr G∧False∧Z97 vs∧D7 C G∧Sf true (Sf T ((E++[Z1 n ns vs tx],C++[Z1 n ns vs tx],G++[(U1 vs,Fs G)])=Vj (E,C,G) (Z1 n ns vs tx)∧0=Uk (E,C,G) (Z1 n ns vs tx)))) (Jdw∧False∧Z97 vs∧D7 C G∧Sf true (Sf T ((E++[Z1 n ns vs tx],C++[Z1 n ns vs tx],G++[(U1 vs,L9)])=Vj (E,C,G) (Z1 n ns vs tx)∧0=Uk (E,C,G) (Z1 n ns vs tx))))))))=_).mp ?_
 delta Z1 Z2 Z27 Z42 Z47 Z64 Z97 U1 V2 Jbb Jsc Jc8 Jgv Jcz L9 Jdw Vs V1 Jdv Jhr D7 D6 D5 Ft Ho Hn L8 Zv Jdt Jds Fs Jdr Br Iw Bd T2 Tw Sf Ln Gt E2 Jz
 intro hh hlt hsz hc ha
 obtain⟨a1,a2,a3⟩:=J0x ha
 have n1:E.length≤1000:=hh.nE
 have n2:C.length≤E.length:=hh.nC
 have n3:G.length=C.length:=hh.nG
 have a2:C.length≠0:=a2
 have hC:((C.length:Int)-1).toNat=C.length-1:=by omega
 have eE:Uk (E,C,G) (n,Jz,ns,vs,tx)=0:=by unfold Uk;rw[if_neg (by rw[hc];simp)];exact ha
 have eP:Vj (E,C,G) (n,Jz,ns,vs,tx)=(E++[(n,Jz,ns,vs,tx)],C.take (C.length-1),G.take (C.length-1)):=by
  unfold Vj;rw[if_pos eE];unfold D1;dsimp only;rw[show(Jz.toList==Jz.toList)=true from by kernel_rfl];rfl
 simp only[eE,eP,hc,ha,hC]
 repeat' first|exact hh|exact hsz.2.2|apply And.intro|intro _
 all_goals first|trivial|omega|assumption|contradiction|exact hsz.1|exact hsz.2.1|rfl
def Kyk (a:Int) (b:Ls) (c:Li) (d:Bt):=(Jay Vs (Z24 a b c d)).2
def Kya (a:Int) (b:Ls) (c:Li) (d:Bt):=(Kyk a b c d).2
def Kx3 (a:Int) (b:Ls) (c:Li) (d:Bt):=(Kya a b c d).2
def Kxr (a:Int) (b:Ls) (c:Li) (d:Bt):=(Kx3 a b c d).2
def Ksr (a:List Reg) (b:Int) (c:Ls) (d:Li) (e:Bt):=(Jay (Yc a) (Z24 b c d e)).2
def Ksf (a:List Reg) (b:Int) (c:Ls) (d:Li) (e:Bt):=(Ksr a b c d e).2
def Kr8 (a:List Reg) (b:Int) (c:Ls) (d:Li) (e:Bt):=(Ksf a b c d e).2
def Kry (a:List Reg) (b:Int) (c:Ls) (d:Li) (e:Bt):=(Kr8 a b c d e).2
theorem Jh7 (T:TypeId) (E C:List Ev) (G:List Reg) (n:Int) (ns:List ByteArray) (vs:List Int) (tx:ByteArray):wpFO Tryz.prog W92.g (na ()) (fun _=>na ()) (Sx.look ([(75,Tryz.f75),(129,Tryz.f129)]:List (Nat×Func))) Tryz.f121 Jb5 T (E,C,G) ((n,Ju,ns,vs,tx),()):=by
 refine(by kernel_rfl:(Kd (E,C,G)→Z42 E→Jfm (Z24 n ns vs tx)→Jb (Z24 n ns vs tx)=0→Jqh E C G n ns vs tx=0→Jds ns vs∧Br (Jb (Z24 n ns vs tx) !=0) (Sf true (Sf T ((E,C,G)=Vj (E,C,G) (Z24 n ns vs tx)∧Jb (Z24 n ns vs tx)=Uk (E,C,G) (Z24 n ns vs tx)))) ((Kd (E,C,G)∧Jb (Z24 n ns vs tx)=0)∧Br (Jqh E C G n ns vs tx !=0) (Sf true (Sf T ((E,C,G)=Vj (E,C,G) (Z24 n ns vs tx)∧Jqh E C G n ns vs tx=Uk (E,C,G) (Z24 n ns vs tx)))) (Jcz ns vs∧Jc8 E∧Br false (Z64 C∧Jdt C G∧Sf true (Sf T ((E++[Z24 n ns vs tx],Jdv C G)=Vj (E,C,G) (Z24 n ns vs tx)∧0=Uk (E,C,G) (Z24 n ns vs tx)))) (Br (V2 G) (V1 G∧Jdr G∧(Yz G∧Y0 ns∧Z59 vs)∧Z97 vs∧D7 C G∧Sf true (Sf T ((E++[Z24 n ns vs tx],C++[Z24 n ns vs tx],G++[(U1 vs,(Ksr G n ns vs tx).1,(Ksf G n ns vs tx).1,(Kr8 G n ns vs tx).1,(Kry G n ns vs tx).1,E2 (Kry G n ns vs tx).2)])=Vj (E,C,G) (Z24 n ns vs tx)∧0=Uk (E,C,G) (Z24 n ns vs tx)))) (Jdw∧(Yr∧Y0 ns∧Z59 vs)∧Z97 vs∧D7 C G∧Sf true (Sf T ((E++[Z24 n ns vs tx],C++[Z24 n ns vs tx],G++[(U1 vs,(Kyk n ns vs tx).1,(Kya n ns vs tx).1,(Kx3 n ns vs tx).1,(Kxr n ns vs tx).1,E2 (Kxr n ns vs tx).2)])=Vj (E,C,G) (Z24 n ns vs tx)∧0=Uk (E,C,G) (Z24 n ns vs tx))))))))=_).mp ?_
 delta Z2 Z24 Z27 Z42 Z47 Z59 Z64 Z97 U1 V2 Jbb Y0 Jqh Jc8 Jgv Jcz L9 Jdw Vs V1 Yr Jdv Jhr D7 D6 Kyk D5 Jac Kya Kx3 Ft Ho Hn Kxr L8 Zv Jdt Jds Fs Jdr Yc Yz Ksr Ksf Kr8 Kry Br Iw Bd T2 Tw Sf Ln Gt E2 Ju
 intro hh hlt hsz hc ha
 obtain⟨u0,aE,aP⟩:=Jgj (k:=Ju) (by kernel_rfl) hc ha
 obtain⟨hn,hv,hR,_,n1,n2,n3,hG,hV⟩:=Hw hh hc
 simp only[K6,List.length_cons,List.length_nil] at hn hv u0
 have hs:Jp (Kc G) (n,Ju,ns,vs,tx)=(vs.getD 0 0,(Jay (Kc G) (n,Ju,ns,vs,tx)).2):=by simp only[Jp,doS,K6]
 simp only[aE,aP,hs,hc,ha,hG,Hq,Jhb,Prod.eta]
 repeat' first|exact hV|exact hh|exact hR|exact hsz.2.2|apply And.intro|intro _
 all_goals first|trivial|omega|assumption|exact Nat.le_trans hR.nS (by decide)|exact Nat.le_trans hR.nO (by decide)|exact Nat.le_trans hR.nM (by decide)|exact Nat.le_trans hR.nX (by decide)|exact Nat.le_trans hR.nQ (by decide)|exact Nat.zero_le _|exact hsz.1|exact hsz.2.1|(rename_i h;have h:=of_decide_eq_true h;omega)|rfl|(rw[←Km ‹_›];first|done|exact hR)
def Kyy (a:Int) (b:Ls) (c:Li) (d:Bt):=(Fk Vs (Z7 a b c d)).2
def Kyr (a:Int) (b:Ls) (c:Li) (d:Bt):=(Kyy a b c d).2
def Kyd (a:Int) (b:Ls) (c:Li) (d:Bt):=(Kyr a b c d).2
def Kx5 (a:Int) (b:Ls) (c:Li) (d:Bt):=(Kyd a b c d).2
def Ksx (a:List Reg) (b:Int) (c:Ls) (d:Li) (e:Bt):=(Fk (Yc a) (Z7 b c d e)).2
def Kso (a:List Reg) (b:Int) (c:Ls) (d:Li) (e:Bt):=(Ksx a b c d e).2
def Ksg (a:List Reg) (b:Int) (c:Ls) (d:Li) (e:Bt):=(Kso a b c d e).2
def Kr6 (a:List Reg) (b:Int) (c:Ls) (d:Li) (e:Bt):=(Ksg a b c d e).2
theorem Jmt (T:TypeId) (E C:List Ev) (G:List Reg) (n:Int) (ns:List ByteArray) (vs:List Int) (tx:ByteArray):wpFO Tryz.prog W92.g (na ()) (fun _=>na ()) (Sx.look ([(75,Tryz.f75),(129,Tryz.f129)]:List (Nat×Func))) Tryz.f121 Jb5 T (E,C,G) ((n,K7,ns,vs,tx),()):=by
 refine(by kernel_rfl:(Kd (E,C,G)→Z42 E→Jfm (Z7 n ns vs tx)→Jb (Z7 n ns vs tx)=0→Jsb E C G n ns vs tx=0→Jds ns vs∧Br (Jb (Z7 n ns vs tx) !=0) (Sf true (Sf T ((E,C,G)=Vj (E,C,G) (Z7 n ns vs tx)∧Jb (Z7 n ns vs tx)=Uk (E,C,G) (Z7 n ns vs tx)))) ((Kd (E,C,G)∧Jb (Z7 n ns vs tx)=0)∧Br (Jsb E C G n ns vs tx !=0) (Sf true (Sf T ((E,C,G)=Vj (E,C,G) (Z7 n ns vs tx)∧Jsb E C G n ns vs tx=Uk (E,C,G) (Z7 n ns vs tx)))) (Jcz ns vs∧Jc8 E∧Br false (Z64 C∧Jdt C G∧Sf true (Sf T ((E++[Z7 n ns vs tx],Jdv C G)=Vj (E,C,G) (Z7 n ns vs tx)∧0=Uk (E,C,G) (Z7 n ns vs tx)))) (Br (V2 G) (V1 G∧Jdr G∧(Yz G∧Y0 ns∧Z59 vs∧0≤Jx (Ho G).1 (Lx ns))∧Z97 vs∧D7 C G∧Sf true (Sf T ((E++[Z7 n ns vs tx],C++[Z7 n ns vs tx],G++[(U1 vs,(Ksx G n ns vs tx).1,(Kso G n ns vs tx).1,(Ksg G n ns vs tx).1,(Kr6 G n ns vs tx).1,E2 (Kr6 G n ns vs tx).2)])=Vj (E,C,G) (Z7 n ns vs tx)∧0=Uk (E,C,G) (Z7 n ns vs tx)))) (Jdw∧(Yr∧Y0 ns∧Z59 vs∧0≤Jx [] (Lx ns))∧Z97 vs∧D7 C G∧Sf true (Sf T ((E++[Z7 n ns vs tx],C++[Z7 n ns vs tx],G++[(U1 vs,(Kyy n ns vs tx).1,(Kyr n ns vs tx).1,(Kyd n ns vs tx).1,(Kx5 n ns vs tx).1,E2 (Kx5 n ns vs tx).2)])=Vj (E,C,G) (Z7 n ns vs tx)∧0=Uk (E,C,G) (Z7 n ns vs tx))))))))=_).mp ?_
 delta Z2 Z7 Z27 Z42 Z47 Z59 Z64 Z97 U1 V2 Jbb Lx Y0 Jsb Jc8 Jgv Jcz L9 Jdw Vs V1 Yr Jdv Jhr D7 Kyy Kyr D6 D5 Kyd Jac Kx5 Ft Ho Hn L8 Zv Jdt Jds Fs Jdr Yc Yz Ksx Kso Ksg Kr6 Br Iw Bd T2 Tw Sf Ln Gt E2 K7
 intro hh hlt hsz hc ha
 obtain⟨u0,aE,aP⟩:=Jgj (k:=K7) (by kernel_rfl) hc ha
 obtain⟨hn,hv,hR,_,n1,n2,n3,hG,hV⟩:=Hw hh hc
 simp only[Vb,List.length_cons,List.length_nil] at hn hv u0
 obtain⟨k0,u1⟩:=Jm u0
 have f0:=Jr0 (k0 rfl)
 have hs:Jp (Kc G) (n,K7,ns,vs,tx)=(vs.getD 0 0,(Fk (Kc G) (n,K7,ns,vs,tx)).2):=by simp only[Jp,doS,Vb]
 simp only[aE,aP,hs,hc,ha,hG,Hq,Jhb,Prod.eta]
 repeat' first|exact hV|exact hh|exact hR|exact hsz.2.2|apply And.intro|intro _
 all_goals first|trivial|omega|assumption|exact Nat.le_trans hR.nS (by decide)|exact Nat.le_trans hR.nO (by decide)|exact Nat.le_trans hR.nM (by decide)|exact Nat.le_trans hR.nX (by decide)|exact Nat.le_trans hR.nQ (by decide)|exact Nat.zero_le _|exact hsz.1|exact hsz.2.1|(rename_i h;have h:=of_decide_eq_true h;omega)|rfl|(rw[←Km ‹_›];first|done|exact hR)|(rw[Km ‹_›] at f0;exact f0)
def Ky1 (a:Int) (b:Ls) (c:Li) (d:Bt):=(Fo Vs (Z8 a b c d)).2
def Kyl (a:Int) (b:Ls) (c:Li) (d:Bt):=(Ky1 a b c d).2
def Kye (a:Int) (b:Ls) (c:Li) (d:Bt):=(Kyl a b c d).2
def Kx0 (a:Int) (b:Ls) (c:Li) (d:Bt):=(Kye a b c d).2
def Ksz (a:List Reg) (b:Int) (c:Ls) (d:Li) (e:Bt):=(Fo (Yc a) (Z8 b c d e)).2
def Ksn (a:List Reg) (b:Int) (c:Ls) (d:Li) (e:Bt):=(Ksz a b c d e).2
def Kse (a:List Reg) (b:Int) (c:Ls) (d:Li) (e:Bt):=(Ksn a b c d e).2
def Kr7 (a:List Reg) (b:Int) (c:Ls) (d:Li) (e:Bt):=(Kse a b c d e).2
theorem Jmu (T:TypeId) (E C:List Ev) (G:List Reg) (n:Int) (ns:List ByteArray) (vs:List Int) (tx:ByteArray):wpFO Tryz.prog W92.g (na ()) (fun _=>na ()) (Sx.look ([(75,Tryz.f75),(129,Tryz.f129)]:List (Nat×Func))) Tryz.f121 Jb5 T (E,C,G) ((n,Kk,ns,vs,tx),()):=by
 refine(by kernel_rfl:(Kd (E,C,G)→Z42 E→Jfm (Z8 n ns vs tx)→Jb (Z8 n ns vs tx)=0→Jqm E C G n ns vs tx=0→Jds ns vs∧Br (Jb (Z8 n ns vs tx) !=0) (Sf true (Sf T ((E,C,G)=Vj (E,C,G) (Z8 n ns vs tx)∧Jb (Z8 n ns vs tx)=Uk (E,C,G) (Z8 n ns vs tx)))) ((Kd (E,C,G)∧Jb (Z8 n ns vs tx)=0)∧Br (Jqm E C G n ns vs tx !=0) (Sf true (Sf T ((E,C,G)=Vj (E,C,G) (Z8 n ns vs tx)∧Jqm E C G n ns vs tx=Uk (E,C,G) (Z8 n ns vs tx)))) (Jcz ns vs∧Jc8 E∧Br false (Z64 C∧Jdt C G∧Sf true (Sf T ((E++[Z8 n ns vs tx],Jdv C G)=Vj (E,C,G) (Z8 n ns vs tx)∧0=Uk (E,C,G) (Z8 n ns vs tx)))) (Br (V2 G) (V1 G∧Jdr G∧(Yz G∧Jsz ns∧Khj vs G ns)∧Z97 vs∧D7 C G∧Sf true (Sf T ((E++[Z8 n ns vs tx],C++[Z8 n ns vs tx],G++[(U1 vs,(Ksz G n ns vs tx).1,(Ksn G n ns vs tx).1,(Kse G n ns vs tx).1,(Kr7 G n ns vs tx).1,E2 (Kr7 G n ns vs tx).2)])=Vj (E,C,G) (Z8 n ns vs tx)∧0=Uk (E,C,G) (Z8 n ns vs tx)))) (Jdw∧(Yr∧Jsz ns∧Kj0 vs ns)∧Z97 vs∧D7 C G∧Sf true (Sf T ((E++[Z8 n ns vs tx],C++[Z8 n ns vs tx],G++[(U1 vs,(Ky1 n ns vs tx).1,(Kyl n ns vs tx).1,(Kye n ns vs tx).1,(Kx0 n ns vs tx).1,E2 (Kx0 n ns vs tx).2)])=Vj (E,C,G) (Z8 n ns vs tx)∧0=Uk (E,C,G) (Z8 n ns vs tx))))))))=_).mp ?_
 delta Z2 Z8 Z27 Z42 Z47 Z57 Z64 Z97 U1 V2 Jbb Jj2 Jsz Jqm Jc8 Jgv Kfk Jcz L9 Jdw Vs V1 Yr Jdv Kj0 Jhr D7 Ky1 D6 Kyl D5 Kye Jac Ft Kx0 Ho Hn L8 Zv Jdt Jds Kdx Khj Fs Jdr Yc Yz Ksz Ksn Kse Kr7 Br Iw Bd T2 Tw Sf Ln Gt E2 Kk
 intro hh hlt hsz hc ha
 obtain⟨u0,aE,aP⟩:=Jgj (k:=Kk) (by kernel_rfl) hc ha
 obtain⟨hn,hv,hR,_,n1,n2,n3,hG,hV⟩:=Hw hh hc
 simp only[Uu,List.length_cons,List.length_nil] at hn hv u0
 obtain⟨k0,u1⟩:=Jm u0
 obtain⟨k1,u2⟩:=Jm u1
 obtain⟨k2,u3⟩:=Jm u2
 have f1:=Jr0 (k1 rfl)
 have f2:=Jr0 (k2 rfl)
 have hs:Jp (Kc G) (n,Kk,ns,vs,tx)=(vs.getD 0 0,(Fo (Kc G) (n,Kk,ns,vs,tx)).2):=by simp only[Jp,doS,Uu]
 simp only[aE,aP,hs,hc,ha,hG,Hq,Jhb,Prod.eta]
 repeat' first|exact hV|exact hh|exact hR|exact hsz.2.2|apply And.intro|intro _
 all_goals first|trivial|omega|assumption|exact Nat.le_trans hR.nS (by decide)|exact Nat.le_trans hR.nO (by decide)|exact Nat.le_trans hR.nM (by decide)|exact Nat.le_trans hR.nX (by decide)|exact Nat.le_trans hR.nQ (by decide)|exact Nat.zero_le _|exact hsz.1|exact hsz.2.1|(rename_i h;have h:=of_decide_eq_true h;omega)|rfl|(rw[←Km ‹_›];first|done|exact hR)|(rw[Km ‹_›] at f1;exact f1)|(rw[Km ‹_›] at f2;exact f2)
def Kyz (a:Int) (b:Ls) (c:Li) (d:Bt):=(Fp Vs (Z13 a b c d)).2
def Kyn (a:Int) (b:Ls) (c:Li) (d:Bt):=(Kyz a b c d).2
def Kyc (a:Int) (b:Ls) (c:Li) (d:Bt):=(Kyn a b c d).2
def Kxz (a:Int) (b:Ls) (c:Li) (d:Bt):=(Kyc a b c d).2
def Ksy (a:List Reg) (b:Int) (c:Ls) (d:Li) (e:Bt):=(Fp (Yc a) (Z13 b c d e)).2
def Kss (a:List Reg) (b:Int) (c:Ls) (d:Li) (e:Bt):=(Ksy a b c d e).2
def Ksh (a:List Reg) (b:Int) (c:Ls) (d:Li) (e:Bt):=(Kss a b c d e).2
def Kr4 (a:List Reg) (b:Int) (c:Ls) (d:Li) (e:Bt):=(Ksh a b c d e).2
theorem Jmv (T:TypeId) (E C:List Ev) (G:List Reg) (n:Int) (ns:List ByteArray) (vs:List Int) (tx:ByteArray):wpFO Tryz.prog W92.g (na ()) (fun _=>na ()) (Sx.look ([(75,Tryz.f75),(129,Tryz.f129)]:List (Nat×Func))) Tryz.f121 Jb5 T (E,C,G) ((n,K0,ns,vs,tx),()):=by
 refine(by kernel_rfl:(Kd (E,C,G)→Z42 E→Jfm (Z13 n ns vs tx)→Jb (Z13 n ns vs tx)=0→Jqn E C G n ns vs tx=0→Jds ns vs∧Br (Jb (Z13 n ns vs tx) !=0) (Sf true (Sf T ((E,C,G)=Vj (E,C,G) (Z13 n ns vs tx)∧Jb (Z13 n ns vs tx)=Uk (E,C,G) (Z13 n ns vs tx)))) ((Kd (E,C,G)∧Jb (Z13 n ns vs tx)=0)∧Br (Jqn E C G n ns vs tx !=0) (Sf true (Sf T ((E,C,G)=Vj (E,C,G) (Z13 n ns vs tx)∧Jqn E C G n ns vs tx=Uk (E,C,G) (Z13 n ns vs tx)))) (Jcz ns vs∧Jc8 E∧Br false (Z64 C∧Jdt C G∧Sf true (Sf T ((E++[Z13 n ns vs tx],Jdv C G)=Vj (E,C,G) (Z13 n ns vs tx)∧0=Uk (E,C,G) (Z13 n ns vs tx)))) (Br (V2 G) (V1 G∧Jdr G∧(Yz G∧Y0 ns∧Z60 vs)∧Z97 vs∧D7 C G∧Sf true (Sf T ((E++[Z13 n ns vs tx],C++[Z13 n ns vs tx],G++[(U1 vs,(Ksy G n ns vs tx).1,(Kss G n ns vs tx).1,(Ksh G n ns vs tx).1,(Kr4 G n ns vs tx).1,E2 (Kr4 G n ns vs tx).2)])=Vj (E,C,G) (Z13 n ns vs tx)∧0=Uk (E,C,G) (Z13 n ns vs tx)))) (Jdw∧(Yr∧Y0 ns∧Z60 vs)∧Z97 vs∧D7 C G∧Sf true (Sf T ((E++[Z13 n ns vs tx],C++[Z13 n ns vs tx],G++[(U1 vs,(Kyz n ns vs tx).1,(Kyn n ns vs tx).1,(Kyc n ns vs tx).1,(Kxz n ns vs tx).1,E2 (Kxz n ns vs tx).2)])=Vj (E,C,G) (Z13 n ns vs tx)∧0=Uk (E,C,G) (Z13 n ns vs tx))))))))=_).mp ?_
 delta Z2 Z13 Z27 Z42 Z47 Z60 Z64 Z97 U1 V2 Jbb Y0 Jqn Jc8 Jgv Jcz L9 Jdw Vs V1 Yr Jdv Jhr D7 Kyz Kyn D6 D5 Kyc Jac Ft Ho Kxz Hn L8 Zv Jdt Jds Fs Jdr Yc Yz Ksy Kss Ksh Kr4 Br Iw Bd T2 Tw Sf Ln Gt E2 K0
 intro hh hlt hsz hc ha
 obtain⟨u0,aE,aP⟩:=Jgj (k:=K0) (by kernel_rfl) hc ha
 obtain⟨hn,hv,hR,_,n1,n2,n3,hG,hV⟩:=Hw hh hc
 simp only[Uv,List.length_cons,List.length_nil] at hn hv u0
 obtain⟨k0,u1⟩:=Jm u0
 have f0:=J2e (k0 rfl)
 have hs:Jp (Kc G) (n,K0,ns,vs,tx)=(vs.getD 0 0,(Fp (Kc G) (n,K0,ns,vs,tx)).2):=by simp only[Jp,doS,Uv]
 simp only[aE,aP,hs,hc,ha,hG,Hq,Jhb,Prod.eta]
 repeat' first|exact hV|exact hh|exact hR|exact hsz.2.2|apply And.intro|intro _
 all_goals first|trivial|omega|assumption|exact Nat.le_trans hR.nS (by decide)|exact Nat.le_trans hR.nO (by decide)|exact Nat.le_trans hR.nM (by decide)|exact Nat.le_trans hR.nX (by decide)|exact Nat.le_trans hR.nQ (by decide)|exact Nat.zero_le _|exact hsz.1|exact hsz.2.1|(rename_i h;have h:=of_decide_eq_true h;omega)|rfl|(rw[←Km ‹_›];first|done|exact hR)|exact Km ‹_› ▸f0
def Ky3 (a:Int) (b:Ls) (c:Li) (d:Bt):=(Fj Vs (Z3 a b c d)).2
def Kyv (a:Int) (b:Ls) (c:Li) (d:Bt):=(Ky3 a b c d).2
def Kyi (a:Int) (b:Ls) (c:Li) (d:Bt):=(Kyv a b c d).2
def Kx8 (a:Int) (b:Ls) (c:Li) (d:Bt):=(Kyi a b c d).2
def Ks1 (a:List Reg) (b:Int) (c:Ls) (d:Li) (e:Bt):=(Fj (Yc a) (Z3 b c d e)).2
def Ksu (a:List Reg) (b:Int) (c:Ls) (d:Li) (e:Bt):=(Ks1 a b c d e).2
def Ksk (a:List Reg) (b:Int) (c:Ls) (d:Li) (e:Bt):=(Ksu a b c d e).2
def Ksa (a:List Reg) (b:Int) (c:Ls) (d:Li) (e:Bt):=(Ksk a b c d e).2
theorem Jq1 (T:TypeId) (E C:List Ev) (G:List Reg) (n:Int) (ns:List ByteArray) (vs:List Int) (tx:ByteArray):wpFO Tryz.prog W92.g (na ()) (fun _=>na ()) (Sx.look ([(75,Tryz.f75),(129,Tryz.f129)]:List (Nat×Func))) Tryz.f121 Jb5 T (E,C,G) ((n,Vo,ns,vs,tx),()):=by
 refine(by kernel_rfl:(Kd (E,C,G)→Z42 E→Jfm (Z3 n ns vs tx)→Jb (Z3 n ns vs tx)=0→Jqo E C G n ns vs tx=0→Jds ns vs∧Br (Jb (Z3 n ns vs tx) !=0) (Sf true (Sf T ((E,C,G)=Vj (E,C,G) (Z3 n ns vs tx)∧Jb (Z3 n ns vs tx)=Uk (E,C,G) (Z3 n ns vs tx)))) ((Kd (E,C,G)∧Jb (Z3 n ns vs tx)=0)∧Br (Jqo E C G n ns vs tx !=0) (Sf true (Sf T ((E,C,G)=Vj (E,C,G) (Z3 n ns vs tx)∧Jqo E C G n ns vs tx=Uk (E,C,G) (Z3 n ns vs tx)))) (Jcz ns vs∧Jc8 E∧Br false (Z64 C∧Jdt C G∧Sf true (Sf T ((E++[Z3 n ns vs tx],Jdv C G)=Vj (E,C,G) (Z3 n ns vs tx)∧0=Uk (E,C,G) (Z3 n ns vs tx)))) (Br (V2 G) (V1 G∧Jdr G∧J1j G ns vs∧Z97 vs∧D7 C G∧Sf true (Sf T ((E++[Z3 n ns vs tx],C++[Z3 n ns vs tx],G++[(U1 vs,(Ks1 G n ns vs tx).1,(Ksu G n ns vs tx).1,(Ksk G n ns vs tx).1,(Ksa G n ns vs tx).1,E2 (Ksa G n ns vs tx).2)])=Vj (E,C,G) (Z3 n ns vs tx)∧0=Uk (E,C,G) (Z3 n ns vs tx)))) (Jdw∧Khd ns vs∧Z97 vs∧D7 C G∧Sf true (Sf T ((E++[Z3 n ns vs tx],C++[Z3 n ns vs tx],G++[(U1 vs,(Ky3 n ns vs tx).1,(Kyv n ns vs tx).1,(Kyi n ns vs tx).1,(Kx8 n ns vs tx).1,E2 (Kx8 n ns vs tx).2)])=Vj (E,C,G) (Z3 n ns vs tx)∧0=Uk (E,C,G) (Z3 n ns vs tx))))))))=_).mp ?_
 delta Z2 Z3 Z27 Z42 Z47 Z52 Z64 Z97 U1 V2 Jbb Lx Y0 Jqo Jc8 Jgv Kfl Jcz L9 Jdw Vs V1 Yr Jdv Jhr D7 Ky3 Kyv D6 Kyi D5 Jac Kx8 Ft Ho Hn L8 Zv Jdt Jds Kdu Khd Fs Jdr Yc Yz Ks1 Ksu Ksk Ksa J1j Br Iw Bd T2 Tw Sf Ln Gt E2 Vo
 intro hh hlt hsz hc ha
 obtain⟨u0,aE,aP⟩:=Jgj (k:=Vo) (by kernel_rfl) hc ha
 obtain⟨hn,hv,hR,_,n1,n2,n3,hG,hV⟩:=Hw hh hc
 simp only[Vp,List.length_cons,List.length_nil] at hn hv u0
 obtain⟨k0,u1⟩:=Jm u0
 have f0:=J2e (k0 rfl)
 have hs:Jp (Kc G) (n,Vo,ns,vs,tx)=(vs.getD 0 0,(Fj (Kc G) (n,Vo,ns,vs,tx)).2):=by simp only[Jp,doS,Vp]
 simp only[aE,aP,hs,hc,ha,hG,Hq,Jhb,Prod.eta]
 repeat' first|exact hV|exact hh|exact hR|exact hsz.2.2|apply And.intro|intro _
 all_goals first|trivial|omega|assumption|exact Nat.le_trans hR.nS (by decide)|exact Nat.le_trans hR.nO (by decide)|exact Nat.le_trans hR.nM (by decide)|exact Nat.le_trans hR.nX (by decide)|exact Nat.le_trans hR.nQ (by decide)|exact Nat.zero_le _|exact hsz.1|exact hsz.2.1|(rename_i h;have h:=of_decide_eq_true h;omega)|rfl|(rw[←Km ‹_›];first|done|exact hR)|(rw[Km ‹_›] at f0;exact f0)
def Kyu (a:Int) (b:Ls) (c:Li) (d:Bt):=(Fm Vs (Z19 a b c d)).2
def Kyh (a:Int) (b:Ls) (c:Li) (d:Bt):=(Kyu a b c d).2
def Kx9 (a:Int) (b:Ls) (c:Li) (d:Bt):=(Kyh a b c d).2
def Kxx (a:Int) (b:Ls) (c:Li) (d:Bt):=(Kx9 a b c d).2
def Ksv (a:List Reg) (b:Int) (c:Ls) (d:Li) (e:Bt):=(Fm (Yc a) (Z19 b c d e)).2
def Ksm (a:List Reg) (b:Int) (c:Ls) (d:Li) (e:Bt):=(Ksv a b c d e).2
def Ksc (a:List Reg) (b:Int) (c:Ls) (d:Li) (e:Bt):=(Ksm a b c d e).2
def Kr1 (a:List Reg) (b:Int) (c:Ls) (d:Li) (e:Bt):=(Ksc a b c d e).2
theorem Jkm (T:TypeId) (E C:List Ev) (G:List Reg) (n:Int) (ns:List ByteArray) (vs:List Int) (tx:ByteArray):wpFO Tryz.prog W92.g (na ()) (fun _=>na ()) (Sx.look ([(75,Tryz.f75),(129,Tryz.f129)]:List (Nat×Func))) Tryz.f121 Jb5 T (E,C,G) ((n,Jv,ns,vs,tx),()):=by
 refine(by kernel_rfl:(Kd (E,C,G)→Z42 E→Jfm (Z19 n ns vs tx)→Jb (Z19 n ns vs tx)=0→Jqk E C G n ns vs tx=0→Jds ns vs∧Br (Jb (Z19 n ns vs tx) !=0) (Sf true (Sf T ((E,C,G)=Vj (E,C,G) (Z19 n ns vs tx)∧Jb (Z19 n ns vs tx)=Uk (E,C,G) (Z19 n ns vs tx)))) ((Kd (E,C,G)∧Jb (Z19 n ns vs tx)=0)∧Br (Jqk E C G n ns vs tx !=0) (Sf true (Sf T ((E,C,G)=Vj (E,C,G) (Z19 n ns vs tx)∧Jqk E C G n ns vs tx=Uk (E,C,G) (Z19 n ns vs tx)))) (Jcz ns vs∧Jc8 E∧Br false (Z64 C∧Jdt C G∧Sf true (Sf T ((E++[Z19 n ns vs tx],Jdv C G)=Vj (E,C,G) (Z19 n ns vs tx)∧0=Uk (E,C,G) (Z19 n ns vs tx)))) (Br (V2 G) (V1 G∧Jdr G∧(Yz G∧Jqq ns∧Z57 vs)∧Z97 vs∧D7 C G∧Sf true (Sf T ((E++[Z19 n ns vs tx],C++[Z19 n ns vs tx],G++[(U1 vs,(Ksv G n ns vs tx).1,(Ksm G n ns vs tx).1,(Ksc G n ns vs tx).1,(Kr1 G n ns vs tx).1,E2 (Kr1 G n ns vs tx).2)])=Vj (E,C,G) (Z19 n ns vs tx)∧0=Uk (E,C,G) (Z19 n ns vs tx)))) (Jdw∧(Yr∧Jqq ns∧Z57 vs)∧Z97 vs∧D7 C G∧Sf true (Sf T ((E++[Z19 n ns vs tx],C++[Z19 n ns vs tx],G++[(U1 vs,(Kyu n ns vs tx).1,(Kyh n ns vs tx).1,(Kx9 n ns vs tx).1,(Kxx n ns vs tx).1,E2 (Kxx n ns vs tx).2)])=Vj (E,C,G) (Z19 n ns vs tx)∧0=Uk (E,C,G) (Z19 n ns vs tx))))))))=_).mp ?_
 delta Z2 Z19 Z27 Z42 Z47 Z57 Z64 Z97 U1 V2 Jbb Jqq Jqk Jc8 Jgv Jcz L9 Jdw Vs V1 Yr Jdv Jhr D7 Kyu D6 Kyh D5 Jac Kx9 Ft Ho Kxx Hn L8 Zv Jdt Jds Fs Jdr Yc Yz Ksv Ksm Ksc Kr1 Br Iw Bd T2 Tw Sf Ln Gt E2 Jv
 intro hh hlt hsz hc ha
 obtain⟨u0,aE,aP⟩:=Jgj (k:=Jv) (by kernel_rfl) hc ha
 obtain⟨hn,hv,hR,_,n1,n2,n3,hG,hV⟩:=Hw hh hc
 simp only[Kt,List.length_cons,List.length_nil] at hn hv u0
 obtain⟨k0,u1⟩:=Jm u0
 obtain⟨k1,u2⟩:=Jm u1
 have f1:=Jr0 (k1 rfl)
 have hs:Jp (Kc G) (n,Jv,ns,vs,tx)=(vs.getD 0 0,(Fm (Kc G) (n,Jv,ns,vs,tx)).2):=by simp only[Jp,doS,Kt]
 simp only[aE,aP,hs,hc,ha,hG,Hq,Jhb,Prod.eta]
 repeat' first|exact hV|exact hh|exact hR|exact hsz.2.2|apply And.intro|intro _
 all_goals first|trivial|omega|assumption|exact Nat.le_trans hR.nS (by decide)|exact Nat.le_trans hR.nO (by decide)|exact Nat.le_trans hR.nM (by decide)|exact Nat.le_trans hR.nX (by decide)|exact Nat.le_trans hR.nQ (by decide)|exact Nat.zero_le _|exact hsz.1|exact hsz.2.1|(rename_i h;have h:=of_decide_eq_true h;omega)|rfl|(rw[←Km ‹_›];first|done|exact hR)|exact Km ‹_› ▸f1
def Kyp (a:Int) (b:Ls) (c:Li) (d:Bt):=(Fl Vs (Z30 a b c d)).2
def Kyf (a:Int) (b:Ls) (c:Li) (d:Bt):=(Kyp a b c d).2
def Kxy (a:Int) (b:Ls) (c:Li) (d:Bt):=(Kyf a b c d).2
def Kxt (a:Int) (b:Ls) (c:Li) (d:Bt):=(Kxy a b c d).2
def Ksp (a:List Reg) (b:Int) (c:Ls) (d:Li) (e:Bt):=(Fl (Yc a) (Z30 b c d e)).2
def Ksi (a:List Reg) (b:Int) (c:Ls) (d:Li) (e:Bt):=(Ksp a b c d e).2
def Kr3 (a:List Reg) (b:Int) (c:Ls) (d:Li) (e:Bt):=(Ksi a b c d e).2
def Krz (a:List Reg) (b:Int) (c:Ls) (d:Li) (e:Bt):=(Kr3 a b c d e).2
theorem Jh8 (T:TypeId) (E C:List Ev) (G:List Reg) (n:Int) (ns:List ByteArray) (vs:List Int) (tx:ByteArray):wpFO Tryz.prog W92.g (na ()) (fun _=>na ()) (Sx.look ([(75,Tryz.f75),(129,Tryz.f129)]:List (Nat×Func))) Tryz.f121 Jb5 T (E,C,G) ((n,Jq,ns,vs,tx),()):=by
 refine(by kernel_rfl:(Kd (E,C,G)→Z42 E→Jfm (Z30 n ns vs tx)→Jb (Z30 n ns vs tx)=0→Jqi E C G n ns vs tx=0→Jds ns vs∧Br (Jb (Z30 n ns vs tx) !=0) (Sf true (Sf T ((E,C,G)=Vj (E,C,G) (Z30 n ns vs tx)∧Jb (Z30 n ns vs tx)=Uk (E,C,G) (Z30 n ns vs tx)))) ((Kd (E,C,G)∧Jb (Z30 n ns vs tx)=0)∧Br (Jqi E C G n ns vs tx !=0) (Sf true (Sf T ((E,C,G)=Vj (E,C,G) (Z30 n ns vs tx)∧Jqi E C G n ns vs tx=Uk (E,C,G) (Z30 n ns vs tx)))) (Jcz ns vs∧Jc8 E∧Br false (Z64 C∧Jdt C G∧Sf true (Sf T ((E++[Z30 n ns vs tx],Jdv C G)=Vj (E,C,G) (Z30 n ns vs tx)∧0=Uk (E,C,G) (Z30 n ns vs tx)))) (Br (V2 G) (V1 G∧Jdr G∧J1i G ns vs∧Z97 vs∧D7 C G∧Sf true (Sf T ((E++[Z30 n ns vs tx],C++[Z30 n ns vs tx],G++[(U1 vs,(Ksp G n ns vs tx).1,(Ksi G n ns vs tx).1,(Kr3 G n ns vs tx).1,(Krz G n ns vs tx).1,E2 (Krz G n ns vs tx).2)])=Vj (E,C,G) (Z30 n ns vs tx)∧0=Uk (E,C,G) (Z30 n ns vs tx)))) (Jdw∧Khc ns vs∧Z97 vs∧D7 C G∧Sf true (Sf T ((E++[Z30 n ns vs tx],C++[Z30 n ns vs tx],G++[(U1 vs,(Kyp n ns vs tx).1,(Kyf n ns vs tx).1,(Kxy n ns vs tx).1,(Kxt n ns vs tx).1,E2 (Kxt n ns vs tx).2)])=Vj (E,C,G) (Z30 n ns vs tx)∧0=Uk (E,C,G) (Z30 n ns vs tx))))))))=_).mp ?_
 delta Z2 Z27 Z30 Z42 Z47 Z52 Z64 Z97 U1 V2 Jbb Lx Y0 Jqi Jc8 Jgv Jcz L9 Jdw Vs V1 Yr Jdv Jhr D7 Kyp D6 D5 Kyf Jac Ft Ho Kxy Hn Kxt L8 Zv Jdt Jds Khc Fs Jdr Yc Yz Ksp Ksi Kr3 Krz J1i Br Iw Bd T2 Tw Sf Ln Gt E2 Jq
 intro hh hlt hsz hc ha
 obtain⟨u0,aE,aP⟩:=Jgj (k:=Jq) (by kernel_rfl) hc ha
 obtain⟨hn,hv,hR,_,n1,n2,n3,hG,hV⟩:=Hw hh hc
 simp only[Kj,List.length_cons,List.length_nil] at hn hv u0
 obtain⟨k0,u1⟩:=Jm u0
 have f0:=J2d (k0 rfl)
 have hs:Jp (Kc G) (n,Jq,ns,vs,tx)=(vs.getD 0 0,(Fl (Kc G) (n,Jq,ns,vs,tx)).2):=by simp only[Jp,doS,Kj]
 simp only[aE,aP,hs,hc,ha,hG,Hq,Jhb,Prod.eta]
 repeat' first|exact hV|exact hh|exact hR|exact hsz.2.2|apply And.intro|intro _
 all_goals first|trivial|omega|assumption|exact Nat.le_trans hR.nS (by decide)|exact Nat.le_trans hR.nO (by decide)|exact Nat.le_trans hR.nM (by decide)|exact Nat.le_trans hR.nX (by decide)|exact Nat.le_trans hR.nQ (by decide)|exact Nat.zero_le _|exact hsz.1|exact hsz.2.1|(rename_i h;have h:=of_decide_eq_true h;omega)|rfl|(rw[←Km ‹_›];first|done|exact hR)|(rw[Km ‹_›] at f0;exact f0)
def Kyt (a:Int) (b:Ls) (c:Li) (d:Bt):=(Fn Vs (Z16 a b c d)).2
def Kyj (a:Int) (b:Ls) (c:Li) (d:Bt):=(Kyt a b c d).2
def Kx7 (a:Int) (b:Ls) (c:Li) (d:Bt):=(Kyj a b c d).2
def Kxw (a:Int) (b:Ls) (c:Li) (d:Bt):=(Kx7 a b c d).2
def Kst (a:List Reg) (b:Int) (c:Ls) (d:Li) (e:Bt):=(Fn (Yc a) (Z16 b c d e)).2
def Ksj (a:List Reg) (b:Int) (c:Ls) (d:Li) (e:Bt):=(Kst a b c d e).2
def Ksb (a:List Reg) (b:Int) (c:Ls) (d:Li) (e:Bt):=(Ksj a b c d e).2
def Kr0 (a:List Reg) (b:Int) (c:Ls) (d:Li) (e:Bt):=(Ksb a b c d e).2
theorem Jkl (T:TypeId) (E C:List Ev) (G:List Reg) (n:Int) (ns:List ByteArray) (vs:List Int) (tx:ByteArray):wpFO Tryz.prog W92.g (na ()) (fun _=>na ()) (Sx.look ([(75,Tryz.f75),(129,Tryz.f129)]:List (Nat×Func))) Tryz.f121 Jb5 T (E,C,G) ((n,Kb,ns,vs,tx),()):=by
 refine(by kernel_rfl:(Kd (E,C,G)→Z42 E→Jfm (Z16 n ns vs tx)→Jb (Z16 n ns vs tx)=0→Jqj E C G n ns vs tx=0→Jds ns vs∧Br (Jb (Z16 n ns vs tx) !=0) (Sf true (Sf T ((E,C,G)=Vj (E,C,G) (Z16 n ns vs tx)∧Jb (Z16 n ns vs tx)=Uk (E,C,G) (Z16 n ns vs tx)))) ((Kd (E,C,G)∧Jb (Z16 n ns vs tx)=0)∧Br (Jqj E C G n ns vs tx !=0) (Sf true (Sf T ((E,C,G)=Vj (E,C,G) (Z16 n ns vs tx)∧Jqj E C G n ns vs tx=Uk (E,C,G) (Z16 n ns vs tx)))) (Jcz ns vs∧Jc8 E∧Br false (Z64 C∧Jdt C G∧Sf true (Sf T ((E++[Z16 n ns vs tx],Jdv C G)=Vj (E,C,G) (Z16 n ns vs tx)∧0=Uk (E,C,G) (Z16 n ns vs tx)))) (Br (V2 G) (V1 G∧Jdr G∧(Yz G∧Jyl ns)∧Z97 vs∧D7 C G∧Sf true (Sf T ((E++[Z16 n ns vs tx],C++[Z16 n ns vs tx],G++[(U1 vs,(Kst G n ns vs tx).1,(Ksj G n ns vs tx).1,(Ksb G n ns vs tx).1,(Kr0 G n ns vs tx).1,E2 (Kr0 G n ns vs tx).2)])=Vj (E,C,G) (Z16 n ns vs tx)∧0=Uk (E,C,G) (Z16 n ns vs tx)))) (Jdw∧(Yr∧Jyl ns)∧Z97 vs∧D7 C G∧Sf true (Sf T ((E++[Z16 n ns vs tx],C++[Z16 n ns vs tx],G++[(U1 vs,(Kyt n ns vs tx).1,(Kyj n ns vs tx).1,(Kx7 n ns vs tx).1,(Kxw n ns vs tx).1,E2 (Kxw n ns vs tx).2)])=Vj (E,C,G) (Z16 n ns vs tx)∧0=Uk (E,C,G) (Z16 n ns vs tx))))))))=_).mp ?_
 delta Z2 Z16 Z27 Z42 Z47 Z64 Z97 U1 V2 Jbb Jyl Jqj Jc8 Jgv Jcz L9 Jdw Vs V1 Yr Jdv Jhr D7 Kyt D6 Kyj D5 Jac Kx7 Ft Ho Kxw Hn L8 Zv Jdt Jds Fs Jdr Yc Yz Kst Ksj Ksb Kr0 Br Iw Bd T2 Tw Sf Ln Gt E2 Kb
 intro hh hlt hsz hc ha
 obtain⟨u0,aE,aP⟩:=Jgj (k:=Kb) (by kernel_rfl) hc ha
 obtain⟨hn,hv,hR,_,n1,n2,n3,hG,hV⟩:=Hw hh hc
 simp only[K4,List.length_cons,List.length_nil] at hn hv u0
 obtain⟨k0,u1⟩:=Jm u0
 obtain⟨k1,u2⟩:=Jm u1
 have f1:=J2d (k1 rfl)
 have hs:Jp (Kc G) (n,Kb,ns,vs,tx)=(vs.getD 0 0,(Fn (Kc G) (n,Kb,ns,vs,tx)).2):=by simp only[Jp,doS,K4]
 simp only[aE,aP,hs,hc,ha,hG,Hq,Jhb,Prod.eta]
 repeat' first|exact hV|exact hh|exact hR|exact hsz.2.2|apply And.intro|intro _
 all_goals first|trivial|omega|assumption|exact Nat.le_trans hR.nS (by decide)|exact Nat.le_trans hR.nO (by decide)|exact Nat.le_trans hR.nM (by decide)|exact Nat.le_trans hR.nX (by decide)|exact Nat.le_trans hR.nQ (by decide)|exact Nat.zero_le _|exact hsz.1|exact hsz.2.1|(rename_i h;have h:=of_decide_eq_true h;omega)|rfl|(rw[←Km ‹_›];first|done|exact hR)|exact Km ‹_› ▸f1
def Kyw (a:Int) (b:Ls) (c:Li) (d:Bt):=(Jgq Vs (Z22 a b c d)).2
def Kyo (a:Int) (b:Ls) (c:Li) (d:Bt):=(Kyw a b c d).2
def Kyb (a:Int) (b:Ls) (c:Li) (d:Bt):=(Kyo a b c d).2
def Kx1 (a:Int) (b:Ls) (c:Li) (d:Bt):=(Kyb a b c d).2
def Ks0 (a:List Reg) (b:Int) (c:Ls) (d:Li) (e:Bt):=(Jgq (Yc a) (Z22 b c d e)).2
def Ksq (a:List Reg) (b:Int) (c:Ls) (d:Li) (e:Bt):=(Ks0 a b c d e).2
def Ksd (a:List Reg) (b:Int) (c:Ls) (d:Li) (e:Bt):=(Ksq a b c d e).2
def Kr5 (a:List Reg) (b:Int) (c:Ls) (d:Li) (e:Bt):=(Ksd a b c d e).2
theorem Jkk (T:TypeId) (E C:List Ev) (G:List Reg) (n:Int) (ns:List ByteArray) (vs:List Int) (tx:ByteArray):wpFO Tryz.prog W92.g (na ()) (fun _=>na ()) (Sx.look ([(75,Tryz.f75),(129,Tryz.f129)]:List (Nat×Func))) Tryz.f121 Jb5 T (E,C,G) ((n,Ka,ns,vs,tx),()):=by
 refine(by kernel_rfl:(Kd (E,C,G)→Z42 E→Jfm (Z22 n ns vs tx)→Jb (Z22 n ns vs tx)=0→Jql E C G n ns vs tx=0→Jds ns vs∧Br (Jb (Z22 n ns vs tx) !=0) (Sf true (Sf T ((E,C,G)=Vj (E,C,G) (Z22 n ns vs tx)∧Jb (Z22 n ns vs tx)=Uk (E,C,G) (Z22 n ns vs tx)))) ((Kd (E,C,G)∧Jb (Z22 n ns vs tx)=0)∧Br (Jql E C G n ns vs tx !=0) (Sf true (Sf T ((E,C,G)=Vj (E,C,G) (Z22 n ns vs tx)∧Jql E C G n ns vs tx=Uk (E,C,G) (Z22 n ns vs tx)))) (Jcz ns vs∧Jc8 E∧Br false (Z64 C∧Jdt C G∧Sf true (Sf T ((E++[Z22 n ns vs tx],Jdv C G)=Vj (E,C,G) (Z22 n ns vs tx)∧0=Uk (E,C,G) (Z22 n ns vs tx)))) (Br (V2 G) (V1 G∧Jdr G∧J1k G ns∧Z97 vs∧D7 C G∧Sf true (Sf T ((E++[Z22 n ns vs tx],C++[Z22 n ns vs tx],G++[(U1 vs,(Ks0 G n ns vs tx).1,(Ksq G n ns vs tx).1,(Ksd G n ns vs tx).1,(Kr5 G n ns vs tx).1,E2 (Kr5 G n ns vs tx).2)])=Vj (E,C,G) (Z22 n ns vs tx)∧0=Uk (E,C,G) (Z22 n ns vs tx)))) (Jdw∧Khq ns∧Z97 vs∧D7 C G∧Sf true (Sf T ((E++[Z22 n ns vs tx],C++[Z22 n ns vs tx],G++[(U1 vs,(Kyw n ns vs tx).1,(Kyo n ns vs tx).1,(Kyb n ns vs tx).1,(Kx1 n ns vs tx).1,E2 (Kx1 n ns vs tx).2)])=Vj (E,C,G) (Z22 n ns vs tx)∧0=Uk (E,C,G) (Z22 n ns vs tx))))))))=_).mp ?_
 delta Z2 Z22 Z27 Z42 Z47 Z64 Z97 U1 V2 Jbb Lx Y0 Jql Jc8 Jgv Jcz L9 Jdw Vs V1 Yr Jdv Jhr D7 Kyw Kyo D6 D5 Kyb Jac Ft Kx1 Ho Hn L8 Zv Jdt Jds Khq Fs Jdr Yc Yz Ks0 Ksq Ksd Kr5 J1k Br Iw Bd T2 Tw Sf Ln Gt E2 Ka
 intro hh hlt hsz hc ha
 obtain⟨u0,aE,aP⟩:=Jgj (k:=Ka) (by kernel_rfl) hc ha
 obtain⟨hn,hv,hR,_,n1,n2,n3,hG,hV⟩:=Hw hh hc
 simp only[K3,List.length_cons,List.length_nil] at hn hv u0
 obtain⟨k0,u1⟩:=Jm u0
 have f0:=Kgj (k0 rfl)
 have hs:Jp (Kc G) (n,Ka,ns,vs,tx)=(vs.getD 0 0,(Jgq (Kc G) (n,Ka,ns,vs,tx)).2):=by simp only[Jp,doS,K3]
 simp only[aE,aP,hs,hc,ha,hG,Hq,Jhb,Prod.eta]
 repeat' first|exact hV|exact hh|exact hR|exact hsz.2.2|apply And.intro|intro _
 all_goals first|trivial|omega|assumption|exact Nat.le_trans hR.nS (by decide)|exact Nat.le_trans hR.nO (by decide)|exact Nat.le_trans hR.nM (by decide)|exact Nat.le_trans hR.nX (by decide)|exact Nat.le_trans hR.nQ (by decide)|exact Nat.zero_le _|exact hsz.1|exact hsz.2.1|(rename_i h;have h:=of_decide_eq_true h;omega)|rfl|(rw[←Km ‹_›];first|done|exact hR)|(rw[Km ‹_›] at f0;exact f0)
def Kys (a:Int) (b:Ls) (c:Li) (d:Bt):=(Jax Vs (Z17 a b c d)).2
def Kyg (a:Int) (b:Ls) (c:Li) (d:Bt):=(Kys a b c d).2
def Kx6 (a:Int) (b:Ls) (c:Li) (d:Bt):=(Kyg a b c d).2
def Kxv (a:Int) (b:Ls) (c:Li) (d:Bt):=(Kx6 a b c d).2
def Ksw (a:List Reg) (b:Int) (c:Ls) (d:Li) (e:Bt):=(Jax (Yc a) (Z17 b c d e)).2
def Ksl (a:List Reg) (b:Int) (c:Ls) (d:Li) (e:Bt):=(Ksw a b c d e).2
def Kr9 (a:List Reg) (b:Int) (c:Ls) (d:Li) (e:Bt):=(Ksl a b c d e).2
def Kr2 (a:List Reg) (b:Int) (c:Ls) (d:Li) (e:Bt):=(Kr9 a b c d e).2
theorem Jkj (T:TypeId) (E C:List Ev) (G:List Reg) (n:Int) (ns:List ByteArray) (vs:List Int) (tx:ByteArray):wpFO Tryz.prog W92.g (na ()) (fun _=>na ()) (Sx.look ([(75,Tryz.f75),(129,Tryz.f129)]:List (Nat×Func))) Tryz.f121 Jb5 T (E,C,G) ((n,Jh,ns,vs,tx),()):=by
 refine(by kernel_rfl:(Kd (E,C,G)→Z42 E→Jfm (Z17 n ns vs tx)→Jb (Z17 n ns vs tx)=0→Jof E C G n ns vs tx=0→Jds ns vs∧Br (Jb (Z17 n ns vs tx) !=0) (Sf true (Sf T ((E,C,G)=Vj (E,C,G) (Z17 n ns vs tx)∧Jb (Z17 n ns vs tx)=Uk (E,C,G) (Z17 n ns vs tx)))) ((Kd (E,C,G)∧Jb (Z17 n ns vs tx)=0)∧Br (Jof E C G n ns vs tx !=0) (Sf true (Sf T ((E,C,G)=Vj (E,C,G) (Z17 n ns vs tx)∧Jof E C G n ns vs tx=Uk (E,C,G) (Z17 n ns vs tx)))) (Jcz ns vs∧Jc8 E∧Br false (Z64 C∧Jdt C G∧Sf true (Sf T ((E++[Z17 n ns vs tx],Jdv C G)=Vj (E,C,G) (Z17 n ns vs tx)∧0=Uk (E,C,G) (Z17 n ns vs tx)))) (Br (V2 G) (V1 G∧Jdr G∧J8a G vs∧Z97 vs∧D7 C G∧Sf true (Sf T ((E++[Z17 n ns vs tx],C++[Z17 n ns vs tx],G++[(U1 vs,(Ksw G n ns vs tx).1,(Ksl G n ns vs tx).1,(Kr9 G n ns vs tx).1,(Kr2 G n ns vs tx).1,E2 (Kr2 G n ns vs tx).2)])=Vj (E,C,G) (Z17 n ns vs tx)∧0=Uk (E,C,G) (Z17 n ns vs tx)))) (Jdw∧J8q vs∧Z97 vs∧D7 C G∧Sf true (Sf T ((E++[Z17 n ns vs tx],C++[Z17 n ns vs tx],G++[(U1 vs,(Kys n ns vs tx).1,(Kyg n ns vs tx).1,(Kx6 n ns vs tx).1,(Kxv n ns vs tx).1,E2 (Kxv n ns vs tx).2)])=Vj (E,C,G) (Z17 n ns vs tx)∧0=Uk (E,C,G) (Z17 n ns vs tx))))))))=_).mp ?_
 delta Z2 Z17 Z27 Z42 Z47 Z59 Z64 Z97 U1 V2 Jbb Jof Jc8 Jgv Jcz L9 Jdw Vs V1 Yr Jdv Jhr D7 Kys D6 Kyg D5 Jac J8q Kx6 Ft Ho Kxv Hn L8 Zv Jdt Jds Fs Jdr Yc Yz Ksw Ksl J8a Kr9 Kr2 Br Iw Bd T2 Tw Sf Ln Gt E2 Jh
 intro hh hlt hsz hc ha
 obtain⟨u0,aE,aP⟩:=Jgj (k:=Jh) (by kernel_rfl) hc ha
 obtain⟨hn,hv,hR,_,n1,n2,n3,hG,hV⟩:=Hw hh hc
 simp only[Us,List.length_cons,List.length_nil] at hn hv u0
 have hs:Jp (Kc G) (n,Jh,ns,vs,tx)=(vs.getD 0 0,(Jax (Kc G) (n,Jh,ns,vs,tx)).2):=by simp only[Jp,doS,Us]
 simp only[aE,aP,hs,hc,ha,hG,Hq,Jhb,Prod.eta]
 repeat' first|exact hV|exact hh|exact hR|exact hsz.2.2|apply And.intro|intro _
 all_goals first|trivial|omega|assumption|exact Nat.le_trans hR.nS (by decide)|exact Nat.le_trans hR.nO (by decide)|exact Nat.le_trans hR.nM (by decide)|exact Nat.le_trans hR.nX (by decide)|exact Nat.le_trans hR.nQ (by decide)|exact Nat.zero_le _|exact hsz.1|exact hsz.2.1|(rename_i h;have h:=of_decide_eq_true h;omega)|rfl|(rw[←Km ‹_›];first|done|exact hR)
abbrev GG:Gam:=[(64,Kb4),(130,Xt.con Jp0),(81,J2k),(216,Jgt 127 Dp),(217,Jgt 130 Hm),(218,Jgt 155 Fb),(219,Jgt 188 X4),(220,Jgt 235 Zw)]
theorem gG:Yn Tryz.prog GG:= .cons K1r (.cons Kaj (.cons K1q (.cons Kai (.cons Kah (.cons Kag (.cons Kaf (.cons Kae (.nil _))))))))
def Kb6:Xt:={Kgl with pre:=fun h (e,_)=>[Kd h,h.1.length<1000,Jfm e,¬(Jb e=0∧L5 h e=0)]}
theorem Js8 (T:TypeId) (E C:List Ev) (G:List Reg) (n:Int) (k:ByteArray) (ns:List ByteArray) (vs:List Int) (tx:ByteArray):wpFO Tryz.prog GG (na ()) (fun _=>na ()) (Sx.look ([(75,Tryz.f75),(129,Tryz.f129)]:List (Nat×Func))) Tryz.f121 Kb6 T (E,C,G) ((n,k,ns,vs,tx),()):=by
 refine(by kernel_rfl:(Kd (E,C,G)→Z42 E→Jfm (n,k,ns,vs,tx)→(Jb (n,k,ns,vs,tx)=0∧L5 (E,C,G) (n,k,ns,vs,tx)=0→False)→Jds ns vs∧Br (Jb (n,k,ns,vs,tx) !=0) (Sf true (Sf T ((E,C,G)=Vj (E,C,G) (n,k,ns,vs,tx)∧Jb (n,k,ns,vs,tx)=Uk (E,C,G) (n,k,ns,vs,tx)))) ((Kd (E,C,G)∧Jb (n,k,ns,vs,tx)=0)∧Br (L5 (E,C,G) (n,k,ns,vs,tx) !=0) (Sf true (Sf T ((E,C,G)=Vj (E,C,G) (n,k,ns,vs,tx)∧L5 (E,C,G) (n,k,ns,vs,tx)=Uk (E,C,G) (n,k,ns,vs,tx)))) (Jcz ns vs∧Jc8 E∧Br (Lb k Jz) (Z64 C∧Jdt C G∧Sf true (Sf T ((E++[(n,k,ns,vs,tx)],Jdv C G)=Vj (E,C,G) (n,k,ns,vs,tx)∧0=Uk (E,C,G) (n,k,ns,vs,tx)))) (Br (V2 G) (V1 G∧Jdr G∧Jxs 777 1) (Jdw∧Jxs 777 1)))))=_).mp ?_
 delta Z2 Z42 Z47 Z64 V2 Jbb Jc8 Jgv Jcz L9 Jdw Vs V1 Jdv Jhr D6 D5 Ho Hn L8 Zv Jdt Jds Jdr Br Iw Bd T2 Tw Sf Ln Gt Lb Jz
 intro hh hlt hsz hx
 have n1:E.length≤1000:=hh.nE
 have e1:Jb (n,k,ns,vs,tx)≠0→Uk (E,C,G) (n,k,ns,vs,tx)=Jb (n,k,ns,vs,tx):=fun h=>by unfold Uk;rw[if_pos h]
 have e2:¬Jb (n,k,ns,vs,tx)≠0→Uk (E,C,G) (n,k,ns,vs,tx)=L5 (E,C,G) (n,k,ns,vs,tx):=fun h=>by unfold Uk;rw[if_neg h]
 have e3:Uk (E,C,G) (n,k,ns,vs,tx)≠0→Vj (E,C,G) (n,k,ns,vs,tx)=(E,C,G):=fun h=>by unfold Vj;rw[if_neg h]
 refine⟨⟨hsz.1,hsz.2.1,hsz.2.2⟩,fun h=> ?_,fun h=>⟨⟨hh, ?_⟩,fun h2=> ?_,fun h2=> ?_⟩⟩
 ·have h:Jb (n,k,ns,vs,tx)≠0:=bne_iff_ne.1 h
  exact⟨rfl,rfl,(e3 (by rw[e1 h];exact h)).symm,(e1 h).symm⟩
 ·exact bne_eq_false_iff_eq.1 h
 ·have h:Jb (n,k,ns,vs,tx)=0:=bne_eq_false_iff_eq.1 h
  have h2:L5 (E,C,G) (n,k,ns,vs,tx)≠0:=bne_iff_ne.1 h2
  have e4:=e2 (by rw[h];simp)
  exact⟨rfl,rfl,(e3 (by rw[e4];exact h2)).symm,e4.symm⟩
 ·exact absurd ⟨bne_eq_false_iff_eq.1 h,bne_eq_false_iff_eq.1 h2⟩ hx
theorem Jug {f:FuncId} {c:Xt} {p1 p2:c.s.T→ATup c.args→List Prop} (h1:OkO Tryz.prog f {c with pre:=p1}) (h2:OkO Tryz.prog f {c with pre:=p2}) (h:∀x y,Ul (c.pre x y)→Ul (p1 x y)∨Ul (p2 x y)):OkO Tryz.prog f c:=
 ⟨h1.1,fun x y M R B w b T cells vals vs hB hMR hg hw hBb hMb hRb hT ho hv hpre ha=>(h x y hpre).elim (fun q=>h1.2 x y M R B w b T cells vals vs hB hMR hg hw hBb hMb hRb hT ho hv q ha) fun q=>h2.2 x y M R B w b T cells vals vs hB hMR hg hw hBb hMb hRb hT ho hv q ha⟩
theorem J94 (T:TypeId):∀(x:Kn) (y:ATup [aEv]),wpFO Tryz.prog W92.g (na ()) (fun _=>na ()) (Sx.look ([(75,Tryz.f75),(129,Tryz.f129)]:List (Nat×Func))) Tryz.f121 Jb5 T x y
 |(E,C,G),((n,k,ns,vs,tx),())=>by
  refine Jh2 (by kernel_rfl) fun hp=> ?_
  have hc:Jb (n,k,ns,vs,tx)=0:=hp.2.2.2.1
  rcases Vd (Uj hc).kind with h|h|h|h|h|h|h|h|h|h|h<;>dsimp only at h<;>subst h
  ·exact Jq0 T E C G n ns vs tx
  ·exact Jh7 T E C G n ns vs tx
  ·exact Jmt T E C G n ns vs tx
  ·exact Jmu T E C G n ns vs tx
  ·exact Jmv T E C G n ns vs tx
  ·exact Jq1 T E C G n ns vs tx
  ·exact Jkm T E C G n ns vs tx
  ·exact Jh8 T E C G n ns vs tx
  ·exact Jkl T E C G n ns vs tx
  ·exact Jkk T E C G n ns vs tx
  ·exact Jkj T E C G n ns vs tx
theorem okK:OkO Tryz.prog 121 Jb5:=K9 mixed W92.ok (by kernel_rfl) (by kernel_rfl) (U6 (l:=([(75,Tryz.f75),(129,Tryz.f129)]:List (Nat×Func))) (List.forall_mem_cons.2 ⟨by kernel_rfl,List.forall_mem_cons.2 ⟨by kernel_rfl,by simp⟩⟩)) (fun _ _=>na ()) (fun _ _=>fun _=>na ()) fun T xx yy _=>J94 T xx yy
theorem okG:OkO Tryz.prog 121 Kb6:=K9 mixed gG (by kernel_rfl) (by kernel_rfl) (U6 (l:=([(75,Tryz.f75),(129,Tryz.f129)]:List (Nat×Func))) (List.forall_mem_cons.2 ⟨by kernel_rfl,List.forall_mem_cons.2 ⟨by kernel_rfl,by simp⟩⟩)) (fun _ _=>na ()) (fun _ _=>fun _=>na ()) fun T xx yy _=>Js8 T xx.1 xx.2.1 xx.2.2 yy.1.1 yy.1.2.1 yy.1.2.2.1 yy.1.2.2.2.1 yy.1.2.2.2.2
theorem Kpz:Ok Tryz.prog 121 (Xt.con Kgl):=Xz (Jug (c:=Kgl) okK okG fun x y hp=>by
 by_cases h:Jb y.1=0∧L5 x y.1=0
 ·exact .inl ⟨hp.1,hp.2.1,hp.2.2,h.1,h.2⟩
 ·exact .inr ⟨hp.1,hp.2.1,hp.2.2,h⟩)
abbrev W93:=W92.add Kpz
theorem Yl {α:Type} {p:α→Bool} {m:List α}:∀{l:List α} {k:Nat},0≤Vn p l k→Vn p (l++m) k=Vn p l k
 |[],k,h=>by simp[Vn] at h
 | x :: l, k, h => by
  show(if p x=true then(k:Int) else Vn p (l++m) (k+1))=(if p x=true then(k:Int) else Vn p l (k+1))
  have h:0≤(if p x=true then(k:Int) else Vn p l (k+1)):=h
  by_cases hp:p x=true
  ·rw[if_pos hp,if_pos hp]
  ·rw[if_neg hp] at h
   rw[if_neg hp,if_neg hp,Yl h]
theorem Du {α:Type} {p:α→Bool} {y:α}:∀{l:List α} {i k:Nat},(∀x,l[i]? =some x→p y=p x)→Vn p (l.set i y) k=Vn p l k
 |[],_,_,_=>rfl
 |x::l,0,k,h=>by
  have:=h x rfl
  simp only[List.set_cons_zero]
  unfold Vn
  rw[this]
 |x::l,i+1,k,h=>by
  simp only[List.set_cons_succ]
  unfold Vn
  rw[Du fun z hz=>h z (by simpa using hz)]
theorem Jfa {α:Type} {l:List α} {i:Nat} {d x:α} (h:l[i]? =some x):l.getD i d=x:=by
 rw[List.getD_eq_getElem?_getD,h];rfl
theorem Jbo {α:Type} {l:List α} {i:Nat} {y x:α} (h:x∈l.set i y):x=y∨x∈l:=by
 rcases List.mem_or_eq_of_mem_set h with h|h
 ·exact .inr h
 ·exact .inl h
theorem Yf {α:Type} {l:List α} {y x:α} (h:x∈l++[y]):x∈l∨x=y:=by
 rcases List.mem_append.1 h with h|h
 ·exact .inl h
 ·exact .inr (by simpa using h)
theorem Yh {b:Bool} {c:Int} (hc:c≠0) (h:(bif b then c else 0)=0):b=false:=by
 cases b with
 |true=>exact absurd h hc
 |false=>rfl
theorem Xm {a b:Int} (h:Jf [a,b]=0):a=0∧b=0:=
 ⟨Ut.1 h _ (List.mem_cons_self ..),Ut.1 h _ (List.mem_cons_of_mem _ (List.mem_cons_self ..))⟩
theorem Jfh {a b c:Int} (h:Jf [a,b,c]=0):a=0∧b=0∧c=0:=
 ⟨Ut.1 h _ (by simp),Ut.1 h _ (by simp),Ut.1 h _ (by simp)⟩
theorem Jbn {O:List Ord} {s:ByteArray} (h:0≤Ku O s):Xy O s∈O:=by
 have:=Uy (l:=O) (s:=s)
 exact Jc (by omega)
theorem Juf {X:List Out} {s:ByteArray} (h:0≤J5 X s):L1 X s∈X:=by
 have:=Uo (l:=X) (s:=s)
 exact Jc (by omega)
theorem Jm0 {S:List Sta} {s:ByteArray} (h:0≤Jx S s):Hl S s∈S:=by
 have:=Kz (l:=S) (s:=s)
 exact Jc (by omega)
theorem J3y {Q:List Per} {s:ByteArray} (h:0≤Uz Q s):Jmf Q s∈Q:=by
 have:=Ux (l:=Q) (s:=s)
 exact Jc (by omega)
theorem Jdc.mono {S S':List Sta} {x:Ord} (h:Jdc S x) (hs:∀s,0≤Jx S s→0≤Jx S' s):Jdc S' x:=⟨h.span,h.pow,h.pri,h.trip,hs _ h.fr,hs _ h.tu⟩
theorem Jj3.mono {S S':List Sta} {x:Out} (h:Jj3 S x) (hs:∀s,0≤Jx S s→0≤Jx S' s):Jj3 S' x:=⟨h.span,h.rest,hs _ h.sta⟩
section
variable {tk st v:Int} {S:List Sta} {O:List Ord} {M:List Met} {X:List Out} {Q:List Per} {n:Int} {k tx:ByteArray} {ns:List ByteArray} {vs:List Int}
theorem Jq8 (hr:Jk (tk,st,S,O,M,X,Q)) (hv:tk≤v∧v≤999999999) (hc:Jl5 S vs=0) {a:ByteArray}:Jk (v,st,S++[(a,vs.getD 1 0,0)],O,M,X,Q):=by
 obtain⟨c1,c2⟩:=Xm hc
 have c1:=Yi.1 c1
 have c2:=of_decide_eq_false (Yh (by decide) c2)
 have hs:∀s,0≤Jx S s→0≤Jx (S++[(a,vs.getD 1 0,0)]) s:=fun s h=>by unfold Jx at h⊢;rw[Yl h];exact h
 have h0:=hr.tk
 have h1:=hr.st
 dsimp only at h0 h1
 refine⟨by dsimp only;omega,by dsimp only;omega,by dsimp only;rw[List.length_append,List.length_singleton];omega,hr.nO,hr.nM,hr.nX,hr.nQ,fun x hx=> ?_,fun x hx=>(hr.ord x hx).mono hs,hr.met,fun x hx=>(hr.out x hx).mono hs,hr.per,hr.done⟩
 rcases Yf hx with h|rfl
 ·exact hr.sta x h
 ·exact⟨c1,Int.le_refl 0,by show(0:Int)≤1000;decide⟩
theorem Jyx (hr:Jk (tk,st,S,O,M,X,Q)) (hv:tk≤v∧v≤999999999) (hc:Jn4 vs=0) {a:ByteArray} (ha:0≤Jx S a):Jk (v,st,S.set (Jx S a).toNat ((Hl S a).1,(Hl S a).2.1,vs.getD 1 0),O,M,X,Q):=by
 have c1:=Yi.1 hc
 have hs:∀s,0≤Jx S s→0≤Jx (S.set (Jx S a).toNat ((Hl S a).1,(Hl S a).2.1,vs.getD 1 0)) s:=fun s h=>by
  unfold Jx at h⊢
  rw[Du fun x hx=> ?_]
  ·exact h
  ·have:=Jfa (d:=Jsm) hx
   show((Hl S a).1.toList==s.toList)=_
   unfold Hl Jx
   rw[this]
 have h0:=hr.tk
 have h1:=hr.st
 dsimp only at h0 h1
 refine⟨by dsimp only;omega,by dsimp only;omega,by rw[List.length_set];exact hr.nS,hr.nO,hr.nM,hr.nX,hr.nQ,fun x hx=> ?_,fun x hx=>(hr.ord x hx).mono hs,hr.met,fun x hx=>(hr.out x hx).mono hs,hr.per,hr.done⟩
 rcases Jbo hx with rfl|h
 ·exact⟨(hr.sta _ (Jm0 ha)).lim,c1⟩
 ·exact hr.sta x h
theorem Jyz (hr:Jk (tk,st,S,O,M,X,Q)) (hv:tk≤v∧v≤999999999) (hm:M.length<10000) (ho:0≤Ku O (ns.getD 0 Ja)) (hb:∀i,i<4→0≤vs.getD i 0∧vs.getD i 0≤999999999) (hc:Jl6 O M ns vs=0):Jk (v,st,S,O,M++[(ns.getD 0 Ja,vs.getD 1 0,vs.getD 2 0,vs.getD 3 0)],X,Q):=by
 have h5:=Yh (by decide) (Ut.1 hc _ (List.mem_cons_of_mem _ (List.mem_cons_of_mem _ (List.mem_cons_of_mem _ (List.mem_cons_of_mem _ (List.mem_cons_self ..))))))
 have h6:=bn1 h5
 have p1:=of_decide_eq_false h6.1
 have p2:=of_decide_eq_false h6.2
 have hp:1≤(Xy O (ns.getD 0 Ja)).2.2.2.2.1∧(Xy O (ns.getD 0 Ja)).2.2.2.2.1≤1000:=(hr.ord _ (Jbn ho)).pow
 have h0:=hr.tk
 have h1:=hr.st
 dsimp only at h0 h1
 have b1:=hb 1 (by omega)
 have b2:=hb 2 (by omega)
 have b3:=hb 3 (by omega)
 refine⟨by dsimp only;omega,by dsimp only;omega,hr.nS,hr.nO,by dsimp only;rw[List.length_append,List.length_singleton];omega,hr.nX,hr.nQ,hr.sta,hr.ord,fun x hx=> ?_,hr.out,hr.per,fun x hx h e1 e2=> ?_⟩
 ·rcases Yf hx with h|rfl
  ·exact hr.met x h
  ·exact⟨b1,⟨b2.1,by dsimp only;omega⟩,⟨b3.1,by dsimp only;omega⟩⟩
 ·have:=hr.done x hx h e1 e2
  unfold K2 at this⊢
  dsimp only at this⊢
  rw[Yl this];exact this
theorem Jos {e:Ev} (hv:EvV e) (hl:e.2.2.2.1.length=4) (hc:Zc e=0):Jhy (Vt e)∧e.2.2.2.1.getD 0 0≤(Vt e).1:=by
 have h:=Yh (by decide) hc
 have h1:=bn1 h
 have h2:=bn1 h1.1
 have e1:=of_decide_eq_false h2.1
 have e2:=of_decide_eq_false h2.2
 have e3:=of_decide_eq_false h1.2
 have v1:0≤(Vt e).1∧(Vt e).1≤999999999:=hv _ (Jc (by omega))
 have v2:0≤(Vt e).2∧(Vt e).2≤999999999:=hv _ (Jc (by omega))
 exact⟨⟨v1.1,by omega,v2.2,by omega⟩,by omega⟩
theorem Jyy (hr:Jk (tk,st,S,O,M,X,Q)) (hv:tk≤v∧v≤999999999) (hvs:v=vs.getD 0 0) (hE:EvV (n,k,ns,vs,tx)) (hl:vs.length=4) (h1:0≤Jx S (ns.getD 1 Ja)) (h2:0≤Jx S (ns.getD 2 Ja)) (hc:Jb4 S O X (n,k,ns,vs,tx)=0):Jk (v,st,S,O++[(ns.getD 0 Ja,ns.getD 1 Ja,ns.getD 2 Ja,Vt (n,k,ns,vs,tx),vs.getD 3 0,(Hl S (ns.getD 1 Ja)).2.2,-1)],M,X,Q):=by
 have hk:¬Jhn (n,k,ns,vs,tx)≠0:=fun h=>by unfold Jb4 at hc;rw[if_pos h] at hc;exact h hc
 unfold Jb4 at hc
 rw[if_neg hk] at hc
 obtain⟨c1,c2⟩:=Xm hc
 have c2:=of_decide_eq_false (Yh (by decide) c2)
 obtain⟨d1,d2,d3⟩:=Jfh (show Jf [_,Zc (n,k,ns,vs,tx),Kf (vs.getD 3 0) 1 1000]=0 from Decidable.of_not_not hk)
 have d3:=Yi.1 d3
 obtain⟨sp,sv⟩:=Jos hE hl d2
 have sv:vs.getD 0 0≤(Vt (n,k,ns,vs,tx)).1:=sv
 have g0:=hr.tk
 have g1:=hr.st
 dsimp only at g0 g1
 refine⟨by dsimp only;omega,by dsimp only;omega,hr.nS,by dsimp only;rw[List.length_append,List.length_singleton];omega,hr.nM,hr.nX,hr.nQ,hr.sta,fun x hx=> ?_,hr.met,hr.out,hr.per,fun x hx hh e1 e2=> ?_⟩
 ·rcases Yf hx with h|rfl
  ·exact hr.ord x h
  ·exact⟨sp,d3,(hr.sta _ (Jm0 h1)).pri,⟨Int.le_refl _,by show(-1:Int)≤999999999;decide⟩,h1,h2⟩
 ·rcases Yf hx with h|rfl
  ·exact hr.done x h hh e1 e2
  ·exfalso
   unfold J2 Ko at e1
   dsimp only at e1 e2
   cases h3:decide ((Vt (n,k,ns,vs,tx)).1≤hh) with
   |true=>have:=of_decide_eq_true h3;omega
   |false=>rw[h3] at e1;cases e1
theorem Jto (hr:Jk (tk,st,S,O,M,X,Q)) (hv:tk≤v∧v≤999999999) (hE:EvV (n,k,ns,vs,tx)) (hl:vs.length=4) (h1:0≤Jx S (ns.getD 1 Ja)) (hc:Jb3 S O X (n,k,ns,vs,tx)=0):Jk (v,st,S,O,M,X++[(ns.getD 0 Ja,ns.getD 1 Ja,Vt (n,k,ns,vs,tx),vs.getD 3 0)],Q):=by
 have hk:¬Jhm S (n,k,ns,vs,tx)≠0:=fun h=>by unfold Jb3 at hc;rw[if_pos h] at hc;exact h hc
 unfold Jb3 at hc
 rw[if_neg hk] at hc
 obtain⟨c1,c2⟩:=Xm hc
 have c2:=of_decide_eq_false (Yh (by decide) c2)
 obtain⟨d2,d3⟩:=Xm (show Jf [Zc (n,k,ns,vs,tx),bif decide ((Hl S (ns.getD 1 Ja)).2.1≤vs.getD 3 0) then 3 else 0]=0 from Decidable.of_not_not hk)
 have d3:=of_decide_eq_false (Yh (by decide) d3)
 obtain⟨sp,sv⟩:=Jos hE hl d2
 have hl3:(Hl S (ns.getD 1 Ja)).2.1≤1000:=(hr.sta _ (Jm0 h1)).lim.2
 have v3:0≤vs.getD 3 0∧vs.getD 3 0≤999999999:=hE _ (Jc (show 3<vs.length by omega))
 have hf:∀s,0≤J5 X s→0≤J5 (X++[(ns.getD 0 Ja,ns.getD 1 Ja,Vt (n,k,ns,vs,tx),vs.getD 3 0)]) s:=fun s h=>by unfold J5 at h⊢;rw[Yl h];exact h
 have g0:=hr.tk
 have g1:=hr.st
 dsimp only at g0 g1
 refine⟨by dsimp only;omega,by dsimp only;omega,hr.nS,hr.nO,hr.nM,by dsimp only;rw[List.length_append,List.length_singleton];omega,hr.nQ,hr.sta,hr.ord,hr.met,fun x hx=> ?_,fun x hx=>hf _ (hr.per x hx),hr.done⟩
 rcases Yf hx with h|rfl
 ·exact hr.out x h
 ·exact⟨sp,⟨v3.1,by dsimp only;omega⟩,h1⟩
theorem J3n (hr:Jk (tk,st,S,O,M,X,Q)) (hv:tk≤vs.getD 0 0∧vs.getD 0 0≤999999999) (ho:0≤Ku O (ns.getD 0 Ja)) (hc:Jcs O ns vs=0):Jk (vs.getD 0 0,st,S,Fw O (ns.getD 0 Ja) (vs.getD 0 0),M,X,Q):=by
 have h1:=bn1 (Yh (by decide) hc)
 have c1:(Xy O (ns.getD 0 Ja)).2.2.2.2.2.2= -1:=bne_eq_false_iff_eq.1 h1.1
 have hm:=Jbn ho
 have g0:=hr.tk
 have g1:=hr.st
 dsimp only at g0 g1
 have ox:Jdc S (Xy O (ns.getD 0 Ja)):=hr.ord _ hm
 refine⟨by dsimp only;omega,by dsimp only;omega,hr.nS,by unfold Fw;rw[List.length_set];exact hr.nO,hr.nM,hr.nX,hr.nQ,hr.sta,fun x hx=> ?_,hr.met,hr.out,hr.per,fun x hx hh e1 e2=> ?_⟩
 ·rcases Jbo hx with rfl|h
  ·exact⟨ox.span,ox.pow,ox.pri,⟨by dsimp only;omega,hv.2⟩,ox.fr,ox.tu⟩
  ·exact hr.ord x h
 ·rcases Jbo hx with rfl|h
  ·refine hr.done _ hm hh ?_ e2
   unfold J2 at e1⊢
   rw[c1]
   have e1:(bif Ko (Xy O (ns.getD 0 Ja)).2.2.2.1 hh then _ else false)=true:=e1
   cases h3:Ko (Xy O (ns.getD 0 Ja)).2.2.2.1 hh with
   |true=>rfl
   |false=>rw[h3] at e1;cases e1
  ·exact hr.done x h hh e1 e2
theorem Jq9 (hr:Jk (tk,st,S,O,M,X,Q)) (hv:tk≤vs.getD 0 0∧vs.getD 0 0≤999999999) (ho:0≤J5 X (ns.getD 0 Ja)) (hc:Jct X Q ns vs=0):Jk (vs.getD 0 0,st,S,O,M,Jd7 X (ns.getD 0 Ja) (vs.getD 0 0),Q):=by
 obtain⟨c1,c2,c3⟩:=Jfh hc
 have c1:=of_decide_eq_false (Yh (by decide) c1)
 have c2:=of_decide_eq_false (Yh (by decide) c2)
 have hm:=Juf ho
 have ox:Jj3 S (L1 X (ns.getD 0 Ja)):=hr.out _ hm
 have l1:=ox.span.lo
 have l2:=ox.span.len
 have g0:=hr.tk
 have g1:=hr.st
 dsimp only at g0 g1
 have hf:∀s,0≤J5 X s→0≤J5 (Jd7 X (ns.getD 0 Ja) (vs.getD 0 0)) s:=fun s h=>by
  unfold Jd7
  unfold J5 at h⊢
  rw[Du fun x hx=> ?_]
  ·exact h
  ·have:=Jfa (d:=V8) hx
   show((L1 X (ns.getD 0 Ja)).1.toList==s.toList)=_
   unfold L1 J5
   rw[this]
 refine⟨by dsimp only;omega,by dsimp only;omega,hr.nS,hr.nO,hr.nM,by unfold Jd7;rw[List.length_set];exact hr.nX,hr.nQ,hr.sta,hr.ord,hr.met,fun x hx=> ?_,fun x hx=>hf _ (hr.per x hx),hr.done⟩
 rcases Jbo hx with rfl|h
 ·exact⟨⟨l1,by dsimp only;omega,hv.2,by dsimp only;omega⟩,ox.rest,ox.sta⟩
 ·exact hr.out x h
theorem Jtn (hr:Jk (tk,st,S,O,M,X,Q)) (hv:tk≤v∧v≤999999999) (ho:0≤J5 X (ns.getD 1 Ja)) (hc:Jcu X Q ns vs=0):Jk (v,st,S,O,M,X,Q++[(ns.getD 0 Ja,ns.getD 1 Ja,true)]):=by
 have c2:=of_decide_eq_false (Yh (by decide) (Xm hc).2)
 have g0:=hr.tk
 have g1:=hr.st
 dsimp only at g0 g1
 refine⟨by dsimp only;omega,by dsimp only;omega,hr.nS,hr.nO,hr.nM,hr.nX,by dsimp only;rw[List.length_append,List.length_singleton];omega,hr.sta,hr.ord,hr.met,hr.out,fun x hx=> ?_,hr.done⟩
 rcases Yf hx with h|rfl
 ·exact hr.per x h
 ·exact ho
theorem Jtm (hr:Jk (tk,st,S,O,M,X,Q)) (hv:tk≤v∧v≤999999999) {a:ByteArray} (ho:0≤Uz Q a):Jk (v,st,S,O,M,X,Fx Q a):=by
 have g0:=hr.tk
 have g1:=hr.st
 dsimp only at g0 g1
 refine⟨by dsimp only;omega,by dsimp only;omega,hr.nS,hr.nO,hr.nM,hr.nX,by unfold Fx;rw[List.length_set];exact hr.nQ,hr.sta,hr.ord,hr.met,hr.out,fun x hx=> ?_,hr.done⟩
 rcases Jbo hx with rfl|h
 ·exact hr.per (Jmf Q a) (J3y ho)
 ·exact hr.per x h
theorem Jlh {u:Int} {x:Ord}:∀{m:Nat} {a:Int},L3 M u x a m=[]→∀h,a≤h→h<a+m→(J2 x h&&(decide (h<u)&&decide (K2 M x.1 h<0)))=false
 |0,a,_,h,h1,h2=>by omega
 | m + 1, a, e, h, h1, h2 => by
  unfold L3 at e
  obtain⟨e1,e2⟩:=List.append_eq_nil_iff.1 e
  by_cases ha:h=a
  ·subst ha
   cases hb:J2 x h&&(decide (h<u)&&decide (K2 M x.1 h<0)) with
   |false=>rfl
   |true=>rw[hb] at e1;cases e1
  ·exact Jlh e2 h (by omega) (by push_cast at h2;omega)
theorem Jlf {u:Int}:∀{O:List Ord},Ke M u O=[]→∀x∈O,Juq M u x=[]
 |[],_,x,hx=>by cases hx
 |y::l,e,x,hx=>by
  unfold Ke at e
  obtain⟨e1,e2⟩:=List.append_eq_nil_iff.1 e
  rcases List.mem_cons.1 hx with rfl|hx
  ·exact e1
  ·exact Jlf e2 x hx
theorem Jvt {x:Ord} {h:Int} (e:J2 x h=true):x.2.2.2.1.1≤h∧h<x.2.2.2.1.2:=by
 unfold J2 Ko at e
 cases h1:decide (x.2.2.2.1.1≤h) with
 |false=>rw[h1] at e;cases e
 |true=>
  cases h2:decide (h<x.2.2.2.1.2) with
  |false=>rw[h1,h2] at e;cases e
  |true=>exact⟨of_decide_eq_true h1,of_decide_eq_true h2⟩
theorem Jtl (hr:Jk (tk,st,S,O,M,X,Q)) (hv:tk≤vs.getD 0 0∧vs.getD 0 0≤999999999) (hc:Lu st O M X Q vs=0):Jk (vs.getD 0 0,vs.getD 1 0,S,O,M,X,Q):=by
 unfold Lu at hc
 cases h1:(bif decide (vs.getD 1 0≤st) then true else decide (vs.getD 0 0<vs.getD 1 0)) with
 |true=>rw[h1] at hc;cases hc
 |false=>
  rw[h1,cond_false] at hc
  have h2:=bn1 h1
  have d1:=of_decide_eq_false h2.1
  have d2:=of_decide_eq_false h2.2
  have h3:=of_decide_eq_false (bn1 (Yh (by decide) hc)).1
  have h4:Ke M (vs.getD 1 0) O=[]:=List.eq_nil_of_length_eq_zero (by omega)
  have g0:=hr.tk
  have g1:=hr.st
  dsimp only at g0 g1
  refine⟨by dsimp only;omega,by dsimp only;omega,hr.nS,hr.nO,hr.nM,hr.nX,hr.nQ,hr.sta,hr.ord,hr.met,hr.out,hr.per,fun x hx hh e1 e2=> ?_⟩
  have hi:=Jvt e1
  have h5:=Jlh (Jlf h4 x hx) hh hi.1 (by omega)
  have e2:hh<vs.getD 1 0:=e2
  rw[e1,decide_eq_true e2,Bool.true_and,Bool.true_and] at h5
  have:=of_decide_eq_false h5
  show 0≤K2 M x.1 hh
  omega
end
theorem J3k {h:Kn} {e:Ev} (hh:Kd h) (hm:(Kc h.2.2).2.2.2.2.1.length<10000) (hc:Jb e=0) (ha:L5 h e=0) (hk:(e.2.1.toList==Jz.toList)=false):Jk (Jp (Kc h.2.2) e):=by
 obtain⟨n,k,ns,vs,tx⟩:=e
 have hE:=Uj hc
 have eK:=Yx (h:=h) (n:=n) (k:=k) (ns:=ns) (vs:=vs) (tx:=tx) hk
 rw[ha] at eK
 obtain⟨_,z2,z3,z4,z5⟩:=Ja9 eK.symm
 have hr:=X0 hh
 clear eK ha z4
 generalize Kc h.2.2=r at*
 obtain⟨tk,st,S,O,M,X,Q⟩:=r
 have z2:¬vs.getD 0 0<tk:=z2
 have hm:M.length<10000:=hm
 have hn:ns.length=(Ji k).1.length:=hE.nn
 have hvl:(vs.length:Int)=(Ji k).2.1:=hE.nv
 have hx:∀i,i<vs.length→(0≤vs.getD i 0∧vs.getD i 0≤999999999):=fun i hi=>hE.val _ (Jc hi)
 have hV:EvV (n,k,ns,vs,tx):=hE.val
 have hkd:=Vd hE.kind
 dsimp only at hkd hk
 clear hE hc hh
 rcases hkd with h|h|h|h|h|h|h|h|h|h|h<;>subst h
 ·exact absurd hk (by rw[show(Jz.toList==Jz.toList)=true from by kernel_rfl];decide)
 ·simp only[K6,List.length_cons,List.length_nil] at hn hvl z3
  simp only[ckS,K6] at z5
  obtain⟨k0,z3⟩:=Jm z3
  have e:Jp (tk,st,S,O,M,X,Q) (n,Ju,ns,vs,tx)=(vs.getD 0 0,(Jay (tk,st,S,O,M,X,Q) (n,Ju,ns,vs,tx)).2):=by unfold Jp doS;simp only[K6]
  rw[e]
  have hv:tk≤vs.getD 0 0∧vs.getD 0 0≤999999999:=⟨by omega,(hx 0 (by omega)).2⟩
  exact Jq8 hr hv z5
 ·simp only[Vb,List.length_cons,List.length_nil] at hn hvl z3
  simp only[ckS,Vb] at z5
  obtain⟨k0,z3⟩:=Jm z3
  have e:Jp (tk,st,S,O,M,X,Q) (n,K7,ns,vs,tx)=(vs.getD 0 0,(Fk (tk,st,S,O,M,X,Q) (n,K7,ns,vs,tx)).2):=by unfold Jp doS;simp only[Vb]
  rw[e]
  have hv:tk≤vs.getD 0 0∧vs.getD 0 0≤999999999:=⟨by omega,(hx 0 (by omega)).2⟩
  exact Jyx hr hv z5 (Jr0 (k0 rfl))
 ·simp only[Uu,List.length_cons,List.length_nil] at hn hvl z3
  simp only[ckS,Uu] at z5
  obtain⟨k0,z3⟩:=Jm z3
  obtain⟨k1,z3⟩:=Jm z3
  obtain⟨k2,z3⟩:=Jm z3
  have e:Jp (tk,st,S,O,M,X,Q) (n,Kk,ns,vs,tx)=(vs.getD 0 0,(Fo (tk,st,S,O,M,X,Q) (n,Kk,ns,vs,tx)).2):=by unfold Jp doS;simp only[Uu]
  rw[e]
  have hv:tk≤vs.getD 0 0∧vs.getD 0 0≤999999999:=⟨by omega,(hx 0 (by omega)).2⟩
  exact Jyy hr hv rfl hV (by omega) (Jr0 (k1 rfl)) (Jr0 (k2 rfl)) z5
 ·simp only[Uv,List.length_cons,List.length_nil] at hn hvl z3
  simp only[ckS,Uv] at z5
  obtain⟨k0,z3⟩:=Jm z3
  have e:Jp (tk,st,S,O,M,X,Q) (n,K0,ns,vs,tx)=(vs.getD 0 0,(Fp (tk,st,S,O,M,X,Q) (n,K0,ns,vs,tx)).2):=by unfold Jp doS;simp only[Uv]
  rw[e]
  have hv:tk≤vs.getD 0 0∧vs.getD 0 0≤999999999:=⟨by omega,(hx 0 (by omega)).2⟩
  exact Jyz hr hv hm (J2e (k0 rfl)) (fun i hi=>hx i (by omega)) z5
 ·simp only[Vp,List.length_cons,List.length_nil] at hn hvl z3
  simp only[ckS,Vp] at z5
  obtain⟨k0,z3⟩:=Jm z3
  have e:Jp (tk,st,S,O,M,X,Q) (n,Vo,ns,vs,tx)=(vs.getD 0 0,(Fj (tk,st,S,O,M,X,Q) (n,Vo,ns,vs,tx)).2):=by unfold Jp doS;simp only[Vp]
  rw[e]
  have hv:tk≤vs.getD 0 0∧vs.getD 0 0≤999999999:=⟨by omega,(hx 0 (by omega)).2⟩
  exact J3n hr hv (J2e (k0 rfl)) z5
 ·simp only[Kt,List.length_cons,List.length_nil] at hn hvl z3
  simp only[ckS,Kt] at z5
  obtain⟨k0,z3⟩:=Jm z3
  obtain⟨k1,z3⟩:=Jm z3
  have e:Jp (tk,st,S,O,M,X,Q) (n,Jv,ns,vs,tx)=(vs.getD 0 0,(Fm (tk,st,S,O,M,X,Q) (n,Jv,ns,vs,tx)).2):=by unfold Jp doS;simp only[Kt]
  rw[e]
  have hv:tk≤vs.getD 0 0∧vs.getD 0 0≤999999999:=⟨by omega,(hx 0 (by omega)).2⟩
  exact Jto hr hv hV (by omega) (Jr0 (k1 rfl)) z5
 ·simp only[Kj,List.length_cons,List.length_nil] at hn hvl z3
  simp only[ckS,Kj] at z5
  obtain⟨k0,z3⟩:=Jm z3
  have e:Jp (tk,st,S,O,M,X,Q) (n,Jq,ns,vs,tx)=(vs.getD 0 0,(Fl (tk,st,S,O,M,X,Q) (n,Jq,ns,vs,tx)).2):=by unfold Jp doS;simp only[Kj]
  rw[e]
  have hv:tk≤vs.getD 0 0∧vs.getD 0 0≤999999999:=⟨by omega,(hx 0 (by omega)).2⟩
  exact Jq9 hr hv (J2d (k0 rfl)) z5
 ·simp only[K4,List.length_cons,List.length_nil] at hn hvl z3
  simp only[ckS,K4] at z5
  obtain⟨k0,z3⟩:=Jm z3
  obtain⟨k1,z3⟩:=Jm z3
  have e:Jp (tk,st,S,O,M,X,Q) (n,Kb,ns,vs,tx)=(vs.getD 0 0,(Fn (tk,st,S,O,M,X,Q) (n,Kb,ns,vs,tx)).2):=by unfold Jp doS;simp only[K4]
  rw[e]
  have hv:tk≤vs.getD 0 0∧vs.getD 0 0≤999999999:=⟨by omega,(hx 0 (by omega)).2⟩
  exact Jtn hr hv (J2d (k1 rfl)) z5
 ·simp only[K3,List.length_cons,List.length_nil] at hn hvl z3
  simp only[ckS,K3] at z5
  obtain⟨k0,z3⟩:=Jm z3
  have e:Jp (tk,st,S,O,M,X,Q) (n,Ka,ns,vs,tx)=(vs.getD 0 0,(Jgq (tk,st,S,O,M,X,Q) (n,Ka,ns,vs,tx)).2):=by unfold Jp doS;simp only[K3]
  rw[e]
  have hv:tk≤vs.getD 0 0∧vs.getD 0 0≤999999999:=⟨by omega,(hx 0 (by omega)).2⟩
  exact Jtm hr hv (Kgj (k0 rfl))
 ·simp only[Us,List.length_cons,List.length_nil] at hn hvl z3
  simp only[ckS,Us] at z5
  have e:Jp (tk,st,S,O,M,X,Q) (n,Jh,ns,vs,tx)=(vs.getD 0 0,(Jax (tk,st,S,O,M,X,Q) (n,Jh,ns,vs,tx)).2):=by unfold Jp doS;simp only[Us]
  rw[e]
  have hv:tk≤vs.getD 0 0∧vs.getD 0 0≤999999999:=⟨by omega,(hx 0 (by omega)).2⟩
  exact Jtl hr hv z5
theorem J4n {r:Reg} {e:Ev}:(doS r e).2.2.2.2.1.length≤r.2.2.2.2.1.length+1:=by
 obtain⟨tk,st,S,O,M,X,Q⟩:=r
 obtain⟨n,k,ns,vs,tx⟩:=e
 unfold doS
 split<;>first|exact Nat.le_succ _|(show(M++[_]).length≤M.length+1;simp)
structure Y3 (h:Kn):Prop where
 ok:Kd h
 met:∀r∈h.2.2,r.2.2.2.2.1.length≤h.1.length
theorem Juj {h:Kn} (hi:Y3 h):(Kc h.2.2).2.2.2.2.1.length≤h.1.length:=by
 unfold Kc
 by_cases h0:0<h.2.2.length
 ·exact hi.met _ (Jc (by omega))
 ·have:h.2.2=[]:=List.eq_nil_of_length_eq_zero (by omega)
  rw[this];exact Nat.zero_le _
theorem add_zero {h:Kn} {e:Ev} (ha:Uk h e=0):Jb e=0∧L5 h e=0:=by
 unfold Uk at ha
 by_cases hc:Jb e≠0
 ·rw[if_pos hc] at ha;exact absurd ha hc
 ·rw[if_neg hc] at ha;exact⟨Decidable.of_not_not hc,ha⟩
theorem Jf2 {h:Kn} {e:Ev} (hi:Y3 h) (hl:h.1.length<1000) (ha:Uk h e=0):Y3 (D1 h e):=by
 obtain⟨hc,hacc⟩:=add_zero ha
 obtain⟨E,C,G⟩:=h
 obtain⟨n1,n2,n3,hr⟩:=hi.ok
 have hm:=Juj hi
 dsimp only at n1 n2 n3 hr hl hm
 cases hk:e.2.1.toList==Jz.toList with
 |true=>
  unfold D1
  rw[hk,cond_true]
  refine⟨⟨by simp;omega,by simp;omega,by simp;omega,fun r hx=>hr r (List.mem_of_mem_take hx)⟩,fun r hx=> ?_⟩
  have:r.2.2.2.2.1.length≤E.length:=hi.met r (List.mem_of_mem_take hx)
  simp only[List.length_append,List.length_singleton]
  omega
 | false =>
  have hs:=J3k hi.ok (Nat.lt_of_le_of_lt hm (by omega)) hc hacc hk
  unfold D1
  rw[hk,cond_false]
  refine⟨⟨by simp;omega,by simp;omega,by simp;omega,fun r hx=> ?_⟩,fun r hx=> ?_⟩
  ·rcases Yf hx with h|rfl
   ·exact hr r h
   ·exact hs
  ·rcases Yf hx with h|rfl
   ·have:r.2.2.2.2.1.length≤E.length:=hi.met r h
    simp only[List.length_append,List.length_singleton]
    omega
   ·have:=J4n (r:=Kc G) (e:=e)
    simp only[List.length_append,List.length_singleton]
    show(doS (Kc G) e).2.2.2.2.1.length≤_
    omega
theorem D0 {h:Kn} {e:Ev}:(D1 h e).1.length=h.1.length+1:=by
 unfold D1
 cases e.2.1.toList==Jz.toList<;>simp
def Zx:Kn:=([],[],[])
theorem Hb:Y3 Zx:=⟨⟨by decide,by decide,rfl,fun _ h=>(by cases h)⟩,fun _ h=>(by cases h)⟩
def Jc0:Kn→List Ev→Kn×Int×Int
 |h,[]=>(h,0,0)
 |h,e::l=>if Uk h e=0 then Jc0 (D1 h e) l else(h,h.1.length+1,Uk h e)
def Jg (l:List Ev):Kn×Int×Int:=if 1000<l.length then(Zx,0,5) else Jc0 Zx l
def Jo (l:List Ev):Reg:=if(Jg l).2.2=0 then Kc (Jg l).1.2.2 else U0
def lOk (l:List Ev):Prop:=l.length≤1000000∧∀e∈l,Jfm e
abbrev J1t:List SC:=[.int .i64 0, .int .i64 0, .val (.slice none 0 0), .val (.slice none 0 0), .val (.slice none 0 0), .val (.slice none 0 0), .val (.slice none 0 0)]
abbrev W94:=W93
def K56:Con:={args:=[aS, .ref 105 Jm3],ress:=[I],owns:=[],pre:=fun(_,r,_)=>[Jk r],spec:=fun(s,r,_)=>(bif !Vf r 0 s then 10 else 0,())}
theorem Kpk:Ok Tryz.prog 139 K56:=okW W94 Tryz.f139 na fun xx=>by
 obtain⟨(s:ByteArray),⟨(tk:Int),(st:Int),(S:List Sta),(O:List Ord),(M:List Met),(X:List Out),(Q:List Per)⟩,_⟩:=xx
 refine(by kernel_rfl:(Jt tk st S O M X Q→Jt tk st S O M X Q∧(bif !Vf (Z66 tk st S O M X Q) (0:Int) s then(10:Int) else(0:Int))=bif !Vf (Z66 tk st S O M X Q) (0:Int) s then(10:Int) else(0:Int))=_).mp ?_
 delta Z66 Jt
 intro hr
 exact⟨hr,rfl⟩
abbrev W95:=W94.add Kpk
def opE (l:List Ev) (ns:List ByteArray):Int:=if(Jg l).2.2=0 then Jf (ns.map fun s=>bif !Vf (Jo l) 0 s then 10 else 0) else(Jg l).2.2
def Kq2:Con:={args:=[.val false (.list 67 sEv), .val false (.list 9 .str)],ress:=[(true,Jm3),I],owns:=[],pre:=fun(l,ns,_)=>[lOk l,ns.length≤1000000],spec:=fun(l,ns,_)=>(Jo l,opE l ns,())}
abbrev J5m (l:List Ev) (ns:List ByteArray):Ann:={X:=Kn×Nat,σ:=fun(h,k)=>⟨9,[(5, .one (.ptr 4 0)),(14, .one (.sl 0)),(15, .one (.int .i64 l.length)),(16, .one (.int .i64 k))],[(0, .imm 67 sEv l),(1, .imm 9 .str ns),(2, .box 105 J1t),(3, .sus [(1, .one (.sl 1)),(4, .one (.ptr 2 0))]),(4, .box 167 [.sl 6, .sl 7, .sl 8]),(6, .own 67 sEv h.1),(7, .own 67 sEv h.2.1),(8, .own 105 Jm3 h.2.2)]⟩,inv:=fun(h,k)=>Y3 h∧h.1.length=k∧k≤l.length∧l.length≤1000∧Jc0 h (l.drop k)=Jg l,mu:=fun(_,k)=>l.length-k}
def Z29 (a:Kn×Nat) (b:List Ev):=Bd (Nc a.2) (Ln b)
def Z33 (a:Kn×Nat):=Iw (Nc a.2+1)
def Jyj (a:Kn×Nat) (b:(List Ev×List Ev×List Reg)×Nat):=Nc a.2+1=Nc b.2
def Vk:=Value.slice none 0 0
def Jyh (a:Kn×Nat):=(a.1.1,E2 a.1.2)
def Kfq (a:Kn×Nat):=Kd (Jyh a)
def J80 (a:List Ev) (b:Kn×Nat):=List.getD a b.2 Jad
def J8z (a:List Ev) (b:Kn×Nat):=(J80 a b).2
def J2y (a:List Ev) (b:Kn×Nat):=(J8z a b).2
def Jsu (a:List Ev):=Vs=Jo a
def Kjo (a:(List Ev×List Ev×List Reg)×Nat):=List.length a.1.1=0∧List.length a.1.2.1=0∧List.length a.1.2.2=0
def Kjl (a:Bt):= !Vf Vs 0 a
def Kxh (a:Kn×Nat):=Gt a.1.2.2 (Ln a.1.2.2-1) Vs
def Kxf (a:Kn×Nat):=(Kxh a).2
def Keg (a:Kn×Nat) (b:List Ev):=List.length a.1.1=a.2∧a.2≤List.length b∧List.length b≤1000∧Jc0 a.1 (List.drop a.2 b)=Jg b
def Kef (a:(List Ev×List Ev×List Reg)×Nat) (b:List Ev):=List.length a.1.1=a.2∧a.2≤List.length b∧List.length b≤1000∧Jc0 a.1 (List.drop a.2 b)=Jg b
def Kxb (a:Kn×Nat):=(Kxf a).2
def Kw9 (a:Kn×Nat):=(Kxb a).2
def Kw5 (a:Kn×Nat):=(Kw9 a).2
def Kid (a:Kn×Nat) (b:List Ev):=Y3 a.1∧Keg a b
def Kd9 (a:(List Ev×List Ev×List Reg)×Nat) (b:List Ev):=Y3 a.1∧Kef a b
def Kvu (a:Ls):=List.map (fun(x:ByteArray)=>match Kjl x with|true=>(10:Int)|false=>(0:Int)) a
def Khl (a:(List Ev×List Ev×List Reg)×Nat) (b:List Ev) (c:Kn×Nat):=Kd9 a b∧List.length b-a.2<List.length b-c.2
def Jx6 (a:List Ev) (b:Kn×Nat):=((J80 a b).1,(J8z a b).1,(J2y a b).1,E2 (J2y a b).2)
def Kgx (a:Kn×Nat) (b:List Ev):=Vj (Jyh a) (Jx6 b a)
def J8b (a:Kn×Nat) (b:List Ev):=Uk (Jyh a) (Jx6 b a)
def Kgw (a:Kn×Nat) (b:List Ev):=(Kgx a b).2
def Kgu (a:Kn×Nat) (b:List Ev):=Kfq a∧List.length a.1.1<1000∧Jfm (Jx6 b a)
def Kdb (a:Kn×Nat) (b:List Ev):=J8b a b !=0
def J1n (a:Kn×Nat):=((Kxh a).1,(Kxf a).1,(Kxb a).1,(Kw9 a).1,(Kw5 a).1,E2 (Kw5 a).2)
def J7u (a:Kn×Nat) (b:Ls):=List.map (fun(x:ByteArray)=>match !Vf (J1n a) (0:Int) x with|true=>(10:Int)|false=>(0:Int)) b
def J1h (a:Kn×Nat) (b:List Ev) (c:(List Ev×List Ev×List Reg)×Nat):=(Kgx a b).1=c.1.1∧(Kgw a b).1=c.1.2.1∧(Kgw a b).2=c.1.2.2
theorem K44:Ok Tryz.prog 68 Kq2:=J16 W95 Tryz.f68 (U6 (l:=([(74,Tryz.f74),(75,Tryz.f75)]:List (Nat×Func))) (List.forall_mem_cons.2 ⟨by kernel_rfl,List.forall_mem_cons.2 ⟨by kernel_rfl,by simp⟩⟩)) (fun xx=>na ()) (fun xx=>fun f id=>if f=74 then some (J5m xx.1 xx.2.1) else none) fun xx=>by
 obtain⟨(l:List Ev),(ns:List ByteArray),_⟩:=xx
 refine(by kernel_rfl:(lOk l→Jbb ns→Br (decide (1000<Ln l)) (Br true (Sf true (Jsu l∧5=opE l ns)) False) (∃(x:(List Ev×List Ev×List Reg)×Nat),Si (Ln l) (0=Nc x.2∧Sf l (Sf ns (Si 0 (Si 0 (Sf Vk (Sf Vk (Sf Vk (Sf Vk (Sf Vk (Kjo x))))))))))∧Kd9 x l∧∀(x:Kn×Nat),Kid x l→Br (decide (Nc x.2<Ln l)) (Tw (Z29 x l)∧Kgu x l∧Br (Kdb x l) (Z33 x∧Br (Kdb x l) (Sf true (Jsu l∧J8b x l=opE l ns)) False) (Z33 x∧∃(y:(List Ev×List Ev×List Reg)×Nat),Si (Ln l) (Jyj x y∧Sf l (Sf ns (Si 0 (Si 0 (Sf Vk (Sf Vk (Sf Vk (Sf Vk (Sf Vk (J1h x l y))))))))))∧Khl y l x)) (Br false (Sf true (Jsu l∧0=opE l ns)) (Br (decide (0<Ln x.1.2.2)) ((Iw (Ln x.1.2.2-1)∧Tw (Bd (Ln x.1.2.2-1) (Ln x.1.2.2)))∧(Jbb ns∧(∀(x_1:ByteArray),Jgv ns x_1→Jk (J1n x))∧List.length (J7u x ns)≤1000000)∧Sf true (J1n x=Jo l∧Jf (J7u x ns)=opE l ns)) ((Jbb ns∧(∀(x:ByteArray),Jgv ns x→Yr)∧List.length (Kvu ns)≤1000000)∧Sf true (Jsu l∧Jf (Kvu ns)=opE l ns))))))=_).mp ?_
 delta Z29 Z33 Jbb Jyj Vk Jyh Jad Kfq Jgv J80 J8z J2y L9 Vs Yr Jsu Kjo Kjl Kxh Kxf Keg Kef Kxb Kw9 Kw5 Kid Kd9 Kvu Khl Jx6 Kgx J8b Kgw Kgu Kdb J1n J7u J1h Br Iw Bd Tw Sf Si Ln Nc Gt B0 E2
 intro hl hns
 refine⟨fun h=> ?_,fun h=> ?_⟩
 ·have e:Jg l=(Zx,0,5):=by unfold Jg;rw[if_pos (by have:=of_decide_eq_true h;omega)]
  refine⟨fun _=>⟨rfl, ?_, ?_⟩,fun h=>by cases h⟩
  ·unfold Jo;rw[e];rfl
  ·unfold opE;rw[e];rfl
 have hn:l.length≤1000:=by have:=of_decide_eq_false h;omega
 have e0:Jg l=Jc0 Zx l:=by unfold Jg;rw[if_neg (by omega)]
 refine⟨(Zx,(0:Nat)),⟨rfl,rfl,rfl,rfl,rfl,rfl,rfl,rfl,rfl,rfl,rfl,rfl,rfl,rfl⟩,⟨Hb,rfl,Nat.zero_le _,hn,e0.symm⟩,fun(x:Kn×Nat) hx=>⟨fun h1=> ?_,fun h1=> ?_⟩⟩
 ·obtain⟨g,k⟩:=x
  obtain⟨hi,hk,hk2,_,hrun⟩:=hx
  dsimp only at hi hk hk2 hrun
  have hlt:k<l.length:=by simpa using h1
  rw[Js (d:=ev0) hlt,Jc0] at hrun
  have hz:=hl.2 _ (Jc (d:=ev0) hlt)
  refine⟨⟨⟨by dsimp only;omega,by dsimp only;omega⟩,by dsimp only;omega,by dsimp only;omega⟩,⟨hi.ok,by show g.1.length<1000;omega,hz⟩,fun h2=>⟨by dsimp only;omega,fun h3=> ?_,fun h3=> ?_⟩,fun h2=>⟨by dsimp only;omega,(D1 g (l.getD k ev0),k+1), ?_,⟨?_, ?_,by dsimp only;omega,hn, ?_⟩,by dsimp only;omega⟩⟩
  ·have h2:Uk g (l.getD k ev0)≠0:=bne_iff_ne.1 h2
   rw[if_neg h2] at hrun
   refine⟨rfl, ?_, ?_⟩
   ·unfold Jo;rw[←hrun];dsimp only;rw[if_neg h2];rfl
   ·unfold opE;rw[←hrun];dsimp only;rw[if_neg h2];rfl
  ·have h2:Uk g (l.getD k ev0)≠0:=bne_iff_ne.1 h2
   exact absurd (bne_eq_false_iff_eq.1 h3) h2
  ·have h2:Uk g (l.getD k ev0)=0:=bne_eq_false_iff_eq.1 h2
   have eP:Vj g (l.getD k ev0)=D1 g (l.getD k ev0):=by unfold Vj;rw[if_pos h2]
   refine⟨rfl,by simp,rfl,rfl,rfl,rfl,rfl,rfl,rfl,rfl,rfl, ?_, ?_, ?_⟩
   ·show(Vj g (l.getD k ev0)).1=_;rw[eP]
   ·show(Vj g (l.getD k ev0)).2.1=_;rw[eP]
   ·show(Vj g (l.getD k ev0)).2.2=_;rw[eP]
  ·exact Jf2 hi (by omega) (bne_eq_false_iff_eq.1 h2)
  ·show(D1 g (l.getD k ev0)).1.length=k+1
   rw[D0,hk]
  ·have h2:Uk g (l.getD k ev0)=0:=bne_eq_false_iff_eq.1 h2
   rw[if_pos h2] at hrun
   exact hrun
 ·obtain⟨g,k⟩:=x
  obtain⟨hi,hk,hk2,_,hrun⟩:=hx
  dsimp only at hi hk hk2 hrun
  have hlt:¬k<l.length:=by simpa using h1
  have:k=l.length:=by omega
  rw[this,List.drop_length,Jc0] at hrun
  have eR:Jo l=Kc g.2.2:=by unfold Jo;rw[←hrun];rfl
  have hR:=X0 hi.ok
  have hGl:((g.2.2.length:Int)-1).toNat=g.2.2.length-1:=by omega
  have hb:g.2.2.length≤1000:=by have:=hi.ok.nG;have:=hi.ok.nC;have:=hi.ok.nE;omega
  have eO:opE l ns=Jf (ns.map fun s=>bif !Vf (Kc g.2.2) 0 s then 10 else 0):=by unfold opE;rw[←hrun,eR];rfl
  refine⟨fun f=>(by cases f),fun _=>⟨fun h2=> ?_,fun h2=> ?_⟩⟩
  ·have h2:(0:Int)<g.2.2.length:=of_decide_eq_true h2
   dsimp only
   rw[hGl]
   exact⟨⟨⟨by omega,by omega⟩,⟨by omega,by omega⟩,by omega,by omega⟩,⟨hns,fun _ _=>hR,by rw[List.length_map];exact hns⟩,rfl,eR.symm,eO.symm⟩
  ·have e1:=Km h2
   rw[e1] at eR eO hR
   exact⟨⟨hns,fun _ _=>hR,by rw[List.length_map];exact hns⟩,rfl,eR.symm,eO.symm⟩
abbrev W96:=W95.add K44
theorem Jty:∀{l:List Ev} {h:Kn},Y3 h→h.1.length+l.length≤1000→Y3 (Jc0 h l).1
 |[],_,hi,_=>hi
 | e :: l, h, hi, hl => by
  unfold Jc0
  simp only[List.length_cons] at hl
  by_cases ha:Uk h e=0
  ·rw[if_pos ha]
   exact Jty (Jf2 hi (by omega) ha) (by rw[D0];omega)
  ·rw[if_neg ha];exact hi
theorem Jt5 {l:List Ev}:Y3 (Jg l).1:=by
 unfold Jg
 by_cases h:1000<l.length
 ·rw[if_pos h];exact Hb
 ·rw[if_neg h];exact Jty Hb (by show 0+l.length≤1000;omega)
theorem Dg {l:List Ev}:Jk (Jo l):=by
 unfold Jo
 by_cases h:(Jg l).2.2=0
 ·rw[if_pos h];exact X0 Jt5.ok
 ·rw[if_neg h];exact X0 Hb.ok
def Fy (l:List Ev) (s:ByteArray) (h:Int):Int:=Jf [opE l [s],Kf h 0 999999999]
def Jk1 (l:List Ev) (s:ByteArray) (h:Int):Int:=if Fy l s h=0 then Xd (Jo l).2.2.1 (Jo l).2.2.2.1 (Jo l).2.2.2.2.2.1 s h else 0
def J4t:Con:={args:=[.val false (.list 67 sEv),aS,aI],ress:=[I,I],owns:=[],pre:=fun(l,_)=>[lOk l],spec:=fun(l,s,h,_)=>(Jk1 l s h,Fy l s h,())}
theorem J14 {l:List Ev} {s:ByteArray} (h:opE l [s]=0):0≤Jx (Jo l).2.2.1 s:=by
 unfold opE at h
 by_cases h0:(Jg l).2.2=0
 ·rw[if_pos h0] at h
  have h1:=Ut.1 h _ (List.mem_map_of_mem (List.mem_cons_self ..))
  have h2:=Yh (by decide) h1
  exact Jr0 (by simpa using h2)
 ·rw[if_neg h0] at h;exact absurd h h0
def Kfx (a:Int):=[Z69 a]
def J0z (a:List Ev):=((Jo a).1,(Jo a).2.1,(Jo a).2.2.1,(Jo a).2.2.2.1,(Jo a).2.2.2.2.1,E2 (Jo a).2.2.2.2.2)
def Jj1 (a:List Ev):=Jk (J0z a)
def Khu (a:List Ev) (b:Bt):=Jj1 a∧0≤Jx (Jo a).2.2.1 b
theorem K5m:Ok Tryz.prog 25 J4t:=okW W96 Tryz.f25 na fun xx=>by
 obtain⟨(l:List Ev),(s:ByteArray),(h:Int),_⟩:=xx
 refine(by kernel_rfl:(lOk l→(lOk l∧1≤1000000)∧2≤1000000∧Br (Jf (opE l [s]::Kfx h) !=0) (0=Jk1 l s h∧Jf (opE l [s]::Kfx h)=Fy l s h) (Khu l s∧Xd (Jo l).2.2.1 (Jo l).2.2.2.1 (Jo l).2.2.2.2.2.1 s h=Jk1 l s h∧0=Fy l s h))=_).mp ?_
 delta Z69 Kfx J0z Jj1 Khu Br E2
 intro hl
 refine⟨⟨hl,by decide⟩,by decide,fun e=> ?_,fun e=> ?_⟩
 ·have e:Fy l s h≠0:=bne_iff_ne.1 e
  exact⟨by unfold Jk1;rw[if_neg e],rfl⟩
 ·have e:Fy l s h=0:=bne_eq_false_iff_eq.1 e
  exact⟨⟨Dg,J14 (Xm e).1⟩,by unfold Jk1;rw[if_pos e],e.symm⟩
abbrev W97:=W96.add K5m
def Jc5 (l:List Ev) (h:Int):Int:=Jf [opE l [],Kf h 0 999999999]
def Xl (l:List Ev) (h:Int):List Gap×Int:=if Jc5 l h=0 then(if 256<(Ke (Jo l).2.2.2.2.1 h (Jo l).2.2.2.1).length then([],5) else(Ke (Jo l).2.2.2.2.1 h (Jo l).2.2.2.1,0)) else([],Jc5 l h)
def J4w:Con:={args:=[.val false (.list 67 sEv),aI],ress:=[(false, .list 200 Jre),I],owns:=[],pre:=fun(l,_)=>[lOk l],spec:=fun(l,h,_)=>((Xl l h).1,(Xl l h).2,())}
def Kfu (a:List Ev) (b:Int):=Ke (Jo a).2.2.2.2.1 b (Jo a).2.2.2.1
def K05 (a:List Ev) (b:Int):=Jf (opE a []::Kfx b)
def Kff (a:List Ev) (b:Int):=decide (256<Ln (Kfu a b))
theorem K5l:Ok Tryz.prog 26 J4w:=okW W97 Tryz.f26 na fun xx=>by
 obtain⟨(l:List Ev),(h:Int),_⟩:=xx
 refine(by kernel_rfl:(lOk l→(lOk l∧0≤1000000)∧2≤1000000∧Br (K05 l h !=0) (Z43=(Xl l h).1∧K05 l h=(Xl l h).2) (Jj1 l∧Br (Kff l h) (Z43=(Xl l h).1∧5=(Xl l h).2) (Kfu l h=(Xl l h).1∧0=(Xl l h).2)))=_).mp ?_
 delta Z43 Z69 Kfx Kfu K05 Kff J0z Jj1 Br Ln E2
 intro hl
 refine⟨⟨hl,by decide⟩,by decide,fun e=> ?_,fun e=>⟨Dg,fun q=> ?_,fun q=> ?_⟩⟩
 ·have e:Jc5 l h≠0:=bne_iff_ne.1 e
  unfold Xl;rw[if_neg e]
  exact⟨rfl,rfl⟩
 ·have e:Jc5 l h=0:=bne_eq_false_iff_eq.1 e
  have q:256<(Ke (Jo l).2.2.2.2.1 h (Jo l).2.2.2.1).length:=Int.ofNat_lt.1 (of_decide_eq_true q)
  unfold Xl;rw[if_pos e,if_pos q]
  exact⟨rfl,rfl⟩
 ·have e:Jc5 l h=0:=bne_eq_false_iff_eq.1 e
  have q:¬256<(Ke (Jo l).2.2.2.2.1 h (Jo l).2.2.2.1).length:=fun h=>of_decide_eq_false q (Int.ofNat_lt.2 h)
  unfold Xl;rw[if_pos e,if_neg q]
  exact⟨rfl,rfl⟩
abbrev W98:=W97.add K5l
abbrev W99:=W98
abbrev K35:=W99
end Go.Proofs.YtcibbcfiemeoiaaGreatDoor

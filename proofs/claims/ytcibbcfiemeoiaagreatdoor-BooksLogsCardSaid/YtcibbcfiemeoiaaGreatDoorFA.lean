/- Contracts of the functions that the law reaches: part of the proof. -/
import Derived.Test.YtcibbcfiemeoiaaGreatDoorProg
import Derived.Test.YtcibbcfiemeoiaaGreatDoorSxC
import Derived.Test.YtcibbcfiemeoiaaGreatDoorShelfA
import Derived.Test.YtcibbcfiemeoiaaGreatDoorLayA
import Derived.KernelRfl
import Derived.Laws.RangeAny
import Derived.Lib.Strings
set_option linter.unusedSimpArgs false
set_option linter.unusedVariables false
set_option maxRecDepth 20000
namespace Go.Proofs.YtcibbcfiemeoiaaGreatDoor
open Go.Sx
set_option maxHeartbeats 20000000
abbrev I:Bool×Sch:=(false, .int .i64)
abbrev Bo:Bool×Sch:=(false, .bool)
abbrev aI:AK:= .val false (.int .i64)
abbrev aB:AK:= .val false .bool
abbrev aS:AK:= .val false .str
abbrev tS:Bool×Sch:=(false, .str)
abbrev sI:Sch:= .int .i64
abbrev W0 [Sx.Dr]:GW Tryz.prog:=⟨[], .nil _⟩
theorem mixed:Tryz.prog.follows .mixedOrders=true:=by kernel_rfl
theorem okW [Sx.Dr] {f:FuncId} {c:Con} (W:GW Tryz.prog) (fn:Func) (ann:ATup c.args→Nat→Option Ann) (h:∀x:ATup c.args,wpF Tryz.prog W.g (ann x) fn c x) (h1:Tryz.prog.funcs[f]? =some fn:=by kernel_rfl) (h2:shapeOK fn c=true:=by kernel_rfl):Ok Tryz.prog f c:=ok_of_wp mixed W.ok h1 h2 ann h
theorem okWG [Sx.Dr] {f:FuncId} {c:Con} {lib:FuncId→Option Func} (W:GW Tryz.prog) (fn:Func) (hl:∀f fn,lib f=some fn→Tryz.prog.funcs[f]? =some fn) (ann:ATup c.args→Nat→Option Ann) (annF:ATup c.args→FuncId→Nat→Option Ann) (h:∀x:ATup c.args,wpFG Tryz.prog W.g (ann x) (annF x) lib fn c x) (h1:Tryz.prog.funcs[f]? =some fn:=by kernel_rfl) (h2:shapeOK fn c=true:=by kernel_rfl):Ok Tryz.prog f c:=ok_of_wpG mixed W.ok h1 h2 hl ann annF h
abbrev na {α:Type}:α→Nat→Option Ann:=fun _ _=>none
abbrev ann0 (A:Ann):Nat→Option Ann:=fun k=>if k=0 then some A else none
def cWhen:Con:={args:=[aB,aI],ress:=[I],owns:=[],pre:=fun _=>[],spec:=fun(b,e,_)=>(bif b then e else 0,())}
def Z300 (a:Bool) (b:Int):=Br a (b=bif a then b else 0) (0=bif a then b else 0)
theorem ok71 [Sx.Dr]:Ok Tryz.prog 71 cWhen:=okW W0 Tryz.f71 na fun xx=>by
 obtain⟨(b:Bool),(e:Int),_⟩:=xx
 refine(by kernel_rfl:(Z300 b e)=_).mp ?_
 delta Z300 Br
 cases b<;>simp
abbrev W1 [Sx.Dr]:=W0.add ok71
theorem ok84 [Sx.Dr]:Ok Tryz.prog 84 cWhen:=okW W1 Tryz.f84 na fun xx=>by
 obtain⟨(b:Bool),(e:Int),_⟩:=xx
 refine(by kernel_rfl:(Z300 b e)=_).mp ?_
 delta Z300 Br
 cases b<;>simp
abbrev W2 [Sx.Dr]:=W1.add ok84
theorem ok19 [Sx.Dr]:Ok Tryz.prog 19 cWhen:=okW W2 Tryz.f19 na fun xx=>by
 obtain⟨(b:Bool),(e:Int),_⟩:=xx
 refine(by kernel_rfl:((bif b then e else 0)=bif b then e else 0)=_).mp ?_
 trivial
abbrev W3 [Sx.Dr]:=W2.add ok19
def withinS (n lo hi:Int):Int:=bif decide (n<lo)||decide (hi<n) then 3 else 0
def cWithin:Con:={args:=[aI,aI,aI],ress:=[I],owns:=[],pre:=fun _=>[],spec:=fun(n,lo,hi,_)=>(withinS n lo hi,())}
theorem ok133 [Sx.Dr]:Ok Tryz.prog 133 cWithin:=okW W3 Tryz.f133 na fun xx=>by
 obtain⟨(n:Int),(lo:Int),(hi:Int),_⟩:=xx
 refine(by kernel_rfl:((bif bif decide (n<lo) then true else decide (hi<n) then 3 else 0)=withinS n lo hi)=_).mp ?_
 unfold withinS;cases decide (n<lo)<;>rfl
abbrev W4 [Sx.Dr]:=W3.add ok133
def outsideB (n lo hi:Int):Bool:=decide (n<lo)||decide (hi<n)
def cOutside:Con:={args:=[aI,aI,aI],ress:=[Bo],owns:=[],pre:=fun _=>[],spec:=fun(n,lo,hi,_)=>(outsideB n lo hi,())}
theorem ok20 [Sx.Dr]:Ok Tryz.prog 20 cOutside:=okW W4 Tryz.f20 na fun xx=>by
 obtain⟨(n:Int),(lo:Int),(hi:Int),_⟩:=xx
 refine(by kernel_rfl:((bif decide (n<lo) then true else decide (hi<n))=outsideB n lo hi)=_).mp ?_
 unfold outsideB;cases decide (n<lo)<;>rfl
abbrev W5 [Sx.Dr]:=W4.add ok20
def cTick:Con:={args:=[aI],ress:=[I],owns:=[],pre:=fun _=>[],spec:=fun(n,_)=>(withinS n 0 999999999,())}
def Z61 (a:Int):=withinS a 0 999999999
def Z239 (a:Int):=Z61 a=Z61 a
theorem ok70 [Sx.Dr]:Ok Tryz.prog 70 cTick:=okW W5 Tryz.f70 na fun xx=>by
 obtain⟨(n:Int),_⟩:=xx
 refine(by kernel_rfl:(Z239 n)=_).mp ?_
 delta Z61 Z239
 rfl
abbrev W6 [Sx.Dr]:=W5.add ok70
def firstS:List Int→Int
 |[]=>0
 |x::l=>if x=0 then firstS l else x
theorem firstS_drop {l:List Int} {k:Nat} (h:k<l.length):firstS (l.drop k)=if l.getD k 0=0 then firstS (l.drop (k+1)) else l.getD k 0:=by
 rw[List.drop_eq_getElem_cons h]
 simp[firstS,List.getD_eq_getElem?_getD,h]
def cFirst:Con:={args:=[.val false (.list 26 sI)],ress:=[I],owns:=[],pre:=fun(l,_)=>[l.length≤1000000],spec:=fun(l,_)=>(firstS l,())}
abbrev annFirst (l:List Int):Ann:={X:=Nat,σ:=fun k=>⟨1,[(5, .one (.sl 0)),(6, .one (.int .i64 l.length)),(7, .one (.int .i64 k))],[(0, .imm 26 sI l)]⟩,inv:=fun k=>k≤l.length∧firstS l=firstS (l.drop k),mu:=fun k=>l.length-k}
def Z14 (a:Li) (b:Nat):=List.getD a b 0
def Z16 (a:Nat):=Iw (Nc a+1)
def Z53 (a:Li):=List.length a≤1000000
def Z72 (a:Nat) (b:Li):=Tw (Bd (Nc a) (Ln b))
def Z82 (a:Nat) (b:Li):=decide (Nc a<Ln b)
def Z94 (a b:Nat):=Nc a+1=Nc b
def Z176 (a:Li) (b c:Nat):=List.length a-b<List.length a-c
def Z250 (a:Nat) (b:Li):=a≤List.length b∧firstS b=firstS (List.drop a b)
def Z324 (a:Li) (b:Nat):=Z14 a b !=0
def Z439 (a:Nat) (b:Li) (c:Nat):=Z250 a b∧Z176 b a c
theorem ok69 [Sx.Dr]:Ok Tryz.prog 69 cFirst:=okW W6 Tryz.f69 (fun xx=>ann0 (annFirst xx.1)) fun xx=>by
 obtain⟨(l:List Int),_⟩:=xx
 refine(by kernel_rfl:(Z53 l→∃(x:Nat),Si (Ln l) (0=Nc x∧l=l)∧Z250 x l∧∀(x:Nat),Z250 x l→Br (Z82 x l) (Z72 x l∧Br (Z324 l x) (Z14 l x=firstS l) (Z16 x∧∃(y:Nat),Si (Ln l) (Z94 x y∧l=l)∧Z439 y l x)) (0=firstS l))=_).mp ?_
 delta Z14 Z16 Z53 Z72 Z82 Z94 Z176 Z250 Z324 Z439 Br Iw Bd Tw Si Ln Nc
 intro hb
 refine⟨(0:Nat),⟨rfl,rfl,rfl⟩,⟨Nat.zero_le _,rfl⟩,fun(k:Nat) hk=>⟨fun h=> ?_,fun h=> ?_⟩⟩
 ·have hlt:k<l.length:=by simpa using h
  have hd:=firstS_drop hlt
  refine⟨by omega,fun h1=> ?_,fun h1=>⟨by omega,(k+1:Nat),⟨rfl,by simp,rfl⟩,⟨by omega, ?_⟩,by omega⟩⟩
  ·have h2:¬l.getD k 0=0:=by simpa using h1
   rw[hk.2,hd,if_neg h2]
  ·have h2:l.getD k 0=0:=by simpa using h1
   rw[hk.2,hd,if_pos h2]
 ·have hlt:¬k<l.length:=by simpa using h
  have:k=l.length:=by omega
  rw[hk.2,this,List.drop_length];rfl
abbrev W7 [Sx.Dr]:=W6.add ok69
def cFirstR:Con:={args:=[.val false (.list 3 sI)],ress:=[I],owns:=[],pre:=fun(l,_)=>[l.length≤1000000],spec:=fun(l,_)=>(firstS l,())}
abbrev annFirstR (l:List Int):Ann:={X:=Nat,σ:=fun k=>⟨1,[(0, .one (.sl 0)),(3, .one (.int .i64 k))],[(0, .imm 3 sI l)]⟩,inv:=fun k=>k≤l.length∧firstS l=firstS (l.drop k),mu:=fun k=>l.length-k}
theorem ok83 [Sx.Dr]:Ok Tryz.prog 83 cFirstR:=okW W7 Tryz.f83 (fun xx=>ann0 (annFirstR xx.1)) fun xx=>by
 obtain⟨(l:List Int),_⟩:=xx
 refine(by kernel_rfl:(Z53 l→∃(x:Nat),(0=Nc x∧l=l)∧Z250 x l∧∀(x:Nat),Z250 x l→Br (Z82 x l) (Z72 x l∧Br (Z324 l x) (Z72 x l∧Z14 l x=firstS l) (Z16 x∧∃(y:Nat),(Z94 x y∧l=l)∧Z439 y l x)) (0=firstS l))=_).mp ?_
 delta Z14 Z16 Z53 Z72 Z82 Z94 Z176 Z250 Z324 Z439 Br Iw Bd Tw Ln Nc
 intro hb
 refine⟨(0:Nat),⟨rfl,rfl⟩,⟨Nat.zero_le _,rfl⟩,fun(k:Nat) hk=>⟨fun h=> ?_,fun h=> ?_⟩⟩
 ·have hlt:k<l.length:=by simpa using h
  have hd:=firstS_drop hlt
  refine⟨by omega,fun h1=>⟨by omega, ?_⟩,fun h1=>⟨by omega,(k+1:Nat),⟨by simp,rfl⟩,⟨by omega, ?_⟩,by omega⟩⟩
  ·have h2:¬l.getD k 0=0:=by simpa using h1
   rw[hk.2,hd,if_neg h2]
  ·have h2:l.getD k 0=0:=by simpa using h1
   rw[hk.2,hd,if_pos h2]
 ·have hlt:¬k<l.length:=by simpa using h
  have:k=l.length:=by omega
  rw[hk.2,this,List.drop_length];rfl
abbrev W8 [Sx.Dr]:=W7.add ok83
theorem ok18 [Sx.Dr]:Ok Tryz.prog 18 cFirstR:=okW W8 Tryz.f18 na fun xx=>by
 obtain⟨(l:List Int),_⟩:=xx
 refine(by kernel_rfl:(Z53 l→Z53 l∧firstS l=firstS l)=_).mp ?_
 delta Z53
 exact fun h=>⟨h,rfl⟩
abbrev W9 [Sx.Dr]:=W8.add ok18
def okB (f:Bool) (c:Int):Bool:=bif (bif decide ((65:Int)≤c) then decide (c≤90) else false) then true else bif (bif decide ((97:Int)≤c) then decide (c≤122) else false) then true else bif f then false else bif decide (c<48) then c==95 else bif decide (57<c) then c==95 else true
def okL (f:Bool):List UInt8→Bool
 |[]=>true
 |b::r=>okB f (b.toNat:Int)&&okL false r
def nameB (s:ByteArray):Bool:=okL true s.data.toList&&(decide (0<s.size)&&decide ((s.size:Int)≤24))
theorem okB_not (f:Bool) (c:Int):(bif !bif (bif decide ((65:Int)≤c) then decide (c≤90) else false) then true else bif decide ((97:Int)≤c) then decide (c≤122) else false then bif f then true else bif (bif decide (c<48) then true else decide (57<c)) then c !=95 else false else false)= !okB f c:=by
 unfold okB bne
 cases decide ((65:Int)≤c)<;>cases decide (c≤90)<;>cases decide ((97:Int)≤c)<;>cases decide (c≤122)<;>cases f<;>cases decide (c<48)<;>cases decide (57<c)<;>cases c==95<;>rfl
theorem okB_high {f:Bool} {c:Int} (h:128≤c):okB f c=false:=by
 unfold okB
 have h1:decide (c≤90)=false:=decide_eq_false (by omega)
 have h2:decide (c≤122)=false:=decide_eq_false (by omega)
 have h3:decide (c<48)=false:=decide_eq_false (by omega)
 have h4:decide ((57:Int)<c)=true:=decide_eq_true (by omega)
 have h5:(c==95)=false:=beq_eq_false_iff_ne.2 (by omega)
 rw[h1,h2,h3,h4,h5]
 cases decide ((65:Int)≤c)<;>cases decide ((97:Int)≤c)<;>cases f<;>rfl
theorem rune_low {s:ByteArray} {k:Nat} (h:k<s.size) (ha:(s[k]'h).toNat<128):runeAt s k=((s[k]'h).toNat:Int)∧runeW s k=1:=by
 unfold runeAt runeW
 rw[decode_ascii s k h ha]
 exact⟨rfl,rfl⟩
theorem rune_high {s:ByteArray} {k:Nat} (h:k<s.size) (ha:128≤(s[k]'h).toNat):128≤runeAt s k:=by
 have:=(decode_high s k h ha).1
 unfold runeAt
 omega
theorem bytes_drop {s:ByteArray} {k:Nat} (h:k<s.size):s.data.toList.drop k=(s[k]'h)::s.data.toList.drop (k+1):=by
 rw[List.drop_eq_getElem_cons (by simpa using h)]
 congr 1
theorem ne_empty (s:ByteArray):(!(s.toList==(⟨⟨[]⟩⟩:ByteArray).toList))=decide (0<s.size):=by
 rw[Lib.toList_data,Lib.toList_data]
 have e:s.data.toList.length=s.size:=by simp
 cases h:s.data.toList with
 |nil=>rw[h] at e;simp at e;rw[←e];rfl
 |cons a l=>rw[h] at e;simp at e;rw[←e];simp
theorem nat_zero_beq (k:Nat):(((k:Nat):Int)==0)=(k==0):=by
 rw[Bool.eq_iff_iff,beq_iff_eq,beq_iff_eq];omega
def cName:Con:={args:=[aS],ress:=[Bo],owns:=[],pre:=fun(s,_)=>[s.size≤1000000],spec:=fun(s,_)=>(nameB s,())}
abbrev annName (s:ByteArray):Ann:={X:=Nat,σ:=fun k=>⟨1,[(0, .one (.str s)),(7, .one (.sl 0))],[(0, .siter s k)]⟩,inv:=fun k=>k≤s.size∧okL true s.data.toList=okL (k==0) (s.data.toList.drop k),mu:=fun k=>s.size-k}
def Z10 (a:Bt):=a.data.toList
def Z329 (a:Bt) (b:Nat):=bif decide (runeAt a b<48) then true else decide (57<runeAt a b)
def Z382 (a:Bt):=Sf true ((bif !Lb a B0 then decide (Nc (ByteArray.size a)≤24) else false)=nameB a)
def Z474 (a:Nat) (b:Bt):=a≤ByteArray.size b∧okL true (Z10 b)=okL (a==0) (List.drop a (Z10 b))
theorem ok136 [Sx.Dr]:Ok Tryz.prog 136 cName:=okWG W9 Tryz.f136 (lib_ok (l:=([]:List (Nat×Func))) (by simp)) (fun xx=>ann0 (annName xx.1)) (fun xx=>fun _=>na ()) fun xx=>by
 obtain⟨(s:ByteArray),_⟩:=xx
 refine(by kernel_rfl:(ByteArray.size s≤1000000→∃(x:Nat),Sf s (Sf s (0=x))∧Z474 x s∧∀(x:Nat),Z474 x s→(x<ByteArray.size s→Br true (Br (bif !bif bif decide (65≤runeAt s x) then decide (runeAt s x≤90) else false then true else bif decide (97≤runeAt s x) then decide (runeAt s x≤122) else false then bif Nc x==0 then true else bif Z329 s x then runeAt s x !=95 else false else false) (Sf true (false=nameB s)) (∃(y:Nat),Sf s (Sf s (x+runeW s x=y))∧Z474 y s∧ByteArray.size s-y<ByteArray.size s-x)) (Z382 s))∧((x<ByteArray.size s→False)→Br false False (Z382 s)))=_).mp ?_
 delta Z10 Z329 Z382 Z474 Br Sf Nc B0 Lb
 intro hb
 refine⟨(0:Nat),⟨rfl,rfl,rfl⟩,⟨Nat.zero_le _,by simp⟩,fun(k:Nat) hk=>⟨fun h=>⟨fun _=>⟨fun h1=>⟨rfl, ?_⟩,fun h1=> ?_⟩,fun h=>(by cases h)⟩,fun h=> ?_⟩⟩
 ·rw[okB_not,nat_zero_beq] at h1
  have h2:okB (k==0) (runeAt s k)=false:=by simpa using h1
  unfold nameB
  have h3:okL true s.data.toList=false:=by
   rw[hk.2,bytes_drop h,okL]
   by_cases ha:(s[k]'h).toNat<128
   ·rw[←(rune_low h ha).1,h2];rfl
   ·rw[okB_high (by omega)];rfl
  rw[h3];rfl
 ·rw[okB_not,nat_zero_beq] at h1
  have h2:okB (k==0) (runeAt s k)=true:=by simpa using h1
  by_cases ha:(s[k]'h).toNat<128
  ·obtain⟨r1,r2⟩:=rune_low h ha
   refine⟨(k+1:Nat),⟨rfl,rfl,by rw[r2]⟩,⟨by omega, ?_⟩,by omega⟩
   rw[hk.2,bytes_drop h,okL,←r1,h2]
   rfl
  ·have:=rune_high h (by omega)
   rw[okB_high this] at h2
   cases h2
 ·have e:k=s.size:=Nat.le_antisymm hk.1 (Nat.le_of_not_lt h)
  refine⟨fun h=>(by cases h),fun _=>⟨rfl, ?_⟩⟩
  rw[e,List.drop_eq_nil_of_le (by simp)] at hk
  unfold nameB
  rw[hk.2,ne_empty]
  cases decide (0<s.size)<;>cases decide ((s.size:Int)≤24)<;>rfl
abbrev W10 [Sx.Dr]:=W9.add ok136
abbrev aU:AK:= .val false (.int .u8)
def letB (c:Int):Bool:=bif (bif decide ((65:Int)≤c) then decide (c≤90) else false) then true else bif decide ((97:Int)≤c) then decide (c≤122) else false
def digB (c:Int):Bool:=bif decide ((48:Int)≤c) then decide (c≤57) else false
def cLet:Con:={args:=[aU],ress:=[Bo],owns:=[],pre:=fun _=>[],spec:=fun(c,_)=>(letB c,())}
theorem ok190 [Sx.Dr]:Ok Tryz.prog 190 cLet:=okW W10 Tryz.f190 na fun xx=>by
 obtain⟨(c:Int),_⟩:=xx
 refine(by kernel_rfl:((bif bif decide (65≤c) then decide (c≤90) else false then true else bif decide (97≤c) then decide (c≤122) else false)=letB c)=_).mp ?_
 rfl
abbrev W11 [Sx.Dr]:=W10.add ok190
def cDig:Con:={args:=[aU],ress:=[Bo],owns:=[],pre:=fun _=>[],spec:=fun(c,_)=>(digB c,())}
theorem ok191 [Sx.Dr]:Ok Tryz.prog 191 cDig:=okW W11 Tryz.f191 na fun xx=>by
 obtain⟨(c:Int),_⟩:=xx
 refine(by kernel_rfl:((bif decide (48≤c) then decide (c≤57) else false)=digB c)=_).mp ?_
 rfl
abbrev W12 [Sx.Dr]:=W11.add ok191
theorem okB_let (c:Int):okB true c=letB c:=by
 unfold okB letB
 cases decide ((65:Int)≤c)<;>cases decide (c≤90)<;>cases decide ((97:Int)≤c)<;>cases decide (c≤122)<;>rfl
theorem okB_ref (c:Int):(bif bif !letB c then !digB c else false then c !=95 else false)= !okB false c:=by
 unfold okB letB digB bne
 have e1:decide (c<48)= !decide ((48:Int)≤c):=by rw[Bool.eq_iff_iff];simp
 have e2:decide ((57:Int)<c)= !decide (c≤57):=by rw[Bool.eq_iff_iff];simp
 rw[e1,e2]
 cases decide ((65:Int)≤c)<;>cases decide (c≤90)<;>cases decide ((97:Int)≤c)<;>cases decide (c≤122)<;>cases decide ((48:Int)≤c)<;>cases decide (c≤57)<;>cases c==95<;>rfl
theorem bytes_get {s:ByteArray} {k:Nat} (h:k<s.size):s.data.toList.drop k=s.data.toList.getD k 0::s.data.toList.drop (k+1):=by
 have h':k<s.data.toList.length:=by simpa using h
 rw[List.drop_eq_getElem_cons h']
 congr 1
 rw[List.getD_eq_getElem?_getD,List.getElem?_eq_getElem h'];rfl
abbrev annNameR (s:ByteArray):Ann:={X:=Nat,σ:=fun k=>⟨0,[(0, .one (.str s)),(3, .one (.int .i64 k))],[]⟩,inv:=fun k=>0<k∧k≤s.size∧nameB s=okL false (s.data.toList.drop k),mu:=fun k=>s.size-k}
def Z231 (a:Bt) (b:Nat):=Nc (UInt8.toNat (List.getD (Z10 a) b 0))
def Z268 (a:Bt):=Nc (UInt8.toNat (List.getD (Z10 a) 0 0))
def Z291 (a:Bt) (b:Nat):= !letB (Z231 a b)
def Z305 (a:Bt):=bif Nc (ByteArray.size a)==0 then true else decide (24<Nc (ByteArray.size a))
def Z392 (a:Nat) (b:Bt):=0<a∧a≤ByteArray.size b∧nameB b=okL false (List.drop a (Z10 b))
def Z613 (a:Bt) (b:Nat):=bif Z291 a b then !digB (Z231 a b) else false
theorem ok111 [Sx.Dr]:Ok Tryz.prog 111 cName:=okW W12 Tryz.f111 (fun xx=>ann0 (annNameR xx.1)) fun xx=>by
 obtain⟨(s:ByteArray),_⟩:=xx
 refine(by kernel_rfl:(ByteArray.size s≤1000000→(Z305 s=false→Bd 0 (Nc (ByteArray.size s)))∧Br (bif Z305 s then true else !letB (Z268 s)) (false=nameB s) (∃(x:Nat),Sf s (1=Nc x)∧Z392 x s∧∀(x:Nat),Z392 x s→Br (decide (Nc x<Nc (ByteArray.size s))) ((Bd (Nc x) (Nc (ByteArray.size s))∧(Z291 s x=true→Bd (Nc x) (Nc (ByteArray.size s)))∧(Z613 s x=true→Bd (Nc x) (Nc (ByteArray.size s))))∧Br (bif Z613 s x then Z231 s x !=95 else false) (false=nameB s) (Z16 x∧∃(y:Nat),Sf s (Z94 x y)∧Z392 y s∧ByteArray.size s-y<ByteArray.size s-x)) (true=nameB s)))=_).mp ?_
 delta Z10 Z16 Z94 Z231 Z268 Z291 Z305 Z392 Z613 Br Iw Bd Sf Nc
 intro hb
 have e0:∀h:0<s.size,okL true s.data.toList=(letB ((s.data.toList.getD 0 0).toNat:Int)&&okL false (s.data.toList.drop 1)):=fun h=>by
  have:=bytes_get h
  rw[List.drop_zero] at this
  rw[this,okL,okB_let]
  simp
 refine⟨fun h=> ?_,fun h=> ?_,fun h=> ?_⟩
 ·have h1:((s.size:Int)==0)=false:=by revert h;cases((s.size:Int)==0)<;>simp
  have:=beq_eq_false_iff_ne.1 h1
  exact⟨Int.le_refl _,by omega⟩
 ·unfold nameB
  by_cases h0:0<s.size
  ·rw[e0 h0]
   have h1:((s.size:Int)==0)=false:=beq_eq_false_iff_ne.2 (by omega)
   rw[h1] at h
   by_cases h2:(s.size:Int)≤24
   ·have h3:decide ((24:Int)<s.size)=false:=decide_eq_false (by omega)
    rw[h3] at h
    have h4:letB ((s.data.toList.getD 0 0).toNat:Int)=false:=by simpa using h
    rw[h4];rfl
   ·rw[decide_eq_false h2];simp
  ·rw[decide_eq_false h0];simp
 ·have h1:((s.size:Int)==0)=false:=by revert h;cases((s.size:Int)==0)<;>simp
  rw[h1] at h
  have h2:decide ((24:Int)<s.size)=false:=by revert h;cases decide ((24:Int)<s.size)<;>simp
  rw[h2] at h
  have h3:letB ((s.data.toList.getD 0 0).toNat:Int)=true:=by simpa using h
  have h0:0<s.size:=by have:=beq_eq_false_iff_ne.1 h1;omega
  have h24:(s.size:Int)≤24:=by have:=of_decide_eq_false h2;omega
  have en:nameB s=okL false (s.data.toList.drop 1):=by
   unfold nameB
   rw[e0 h0,h3,decide_eq_true h0,decide_eq_true h24];simp
  refine⟨(1:Nat),⟨rfl,rfl⟩,⟨by omega,by omega,en⟩,fun(k:Nat) hk=>⟨fun h=> ?_,fun h=> ?_⟩⟩
  ·have hlt:k<s.size:=by simpa using h
   rw[okB_ref]
   refine⟨⟨by omega,fun _=>by omega,fun _=>by omega⟩,fun h1=> ?_,fun h1=>⟨by omega,(k+1:Nat),⟨rfl,by simp⟩,⟨by omega,by omega, ?_⟩,by omega⟩⟩
   ·have h2:okB false ((s.data.toList.getD k 0).toNat:Int)=false:=by simpa using h1
    rw[hk.2.2,bytes_get hlt,okL,h2];rfl
   ·have h2:okB false ((s.data.toList.getD k 0).toNat:Int)=true:=by simpa using h1
    rw[hk.2.2,bytes_get hlt,okL,h2];rfl
  ·have hlt:¬k<s.size:=by simpa using h
   have:k=s.size:=by omega
   rw[hk.2.2,this,List.drop_eq_nil_of_le (by simp)];rfl
abbrev W13 [Sx.Dr]:=W12.add ok111
abbrev sRole:Sch:= .prod sI .bool
abbrev sKind:Sch:= .prod (.list 251 sRole) (.prod sI (.prod .fnc (.prod .fnc .fnc)))
abbrev Kind:=List (Int×Bool)×Int×Option Nat×Option Nat×Option Nat
abbrev wUndo:ByteArray:=⟨⟨[117,110,100,111]⟩⟩
abbrev wStation:ByteArray:=⟨⟨[115,116,97,116,105,111,110]⟩⟩
abbrev wPrice:ByteArray:=⟨⟨[112,114,105,99,101]⟩⟩
abbrev wOrder:ByteArray:=⟨⟨[111,114,100,101,114]⟩⟩
abbrev wMeter:ByteArray:=⟨⟨[109,101,116,101,114]⟩⟩
abbrev wTrip:ByteArray:=⟨⟨[116,114,105,112]⟩⟩
abbrev wOutage:ByteArray:=⟨⟨[111,117,116,97,103,101]⟩⟩
abbrev wRestore:ByteArray:=⟨⟨[114,101,115,116,111,114,101]⟩⟩
abbrev wPermit:ByteArray:=⟨⟨[112,101,114,109,105,116]⟩⟩
abbrev wReturn:ByteArray:=⟨⟨[114,101,116,117,114,110]⟩⟩
abbrev wSettle:ByteArray:=⟨⟨[115,101,116,116,108,101]⟩⟩
def kindsL:List (ByteArray×Kind):=[(wUndo,[],0,none,none,none),
 (wStation,[(0,false)],2,some 148,some 149,some 150),
 (wPrice,[(0,true)],2,some 152,some 153,some 150),
 (wOrder,[(1,false),(0,true),(0,true)],4,some 154,some 155,some 156),
 (wMeter,[(1,true)],4,some 157,some 158,some 156),
 (wTrip,[(1,true)],1,some 159,some 160,some 156),
 (wOutage,[(2,false),(0,true)],4,some 161,some 162,some 163),
 (wRestore,[(2,true)],1,some 164,some 165,some 163),
 (wPermit,[(3,false),(2,true)],1,some 166,some 167,some 168),
 (wReturn,[(3,true)],1,some 169,some 170,some 168),
 (wSettle,[],2,some 171,some 172,none)]
def cFresh:Con:={args:=[aI],ress:=[(true,sRole)],owns:=[],pre:=fun _=>[],spec:=fun(t,_)=>((t,false),())}
theorem ok147 [Sx.Dr]:Ok Tryz.prog 147 cFresh:=okW W13 Tryz.f147 na fun xx=>by
 obtain⟨(t:Int),_⟩:=xx
 refine(by kernel_rfl:((t,false)=(t,false))=_).mp ?_
 trivial
abbrev W14 [Sx.Dr]:=W13.add ok147
def cOld:Con:={args:=[aI],ress:=[(true,sRole)],owns:=[],pre:=fun _=>[],spec:=fun(t,_)=>((t,true),())}
theorem ok151 [Sx.Dr]:Ok Tryz.prog 151 cOld:=okW W14 Tryz.f151 na fun xx=>by
 obtain⟨(t:Int),_⟩:=xx
 refine(by kernel_rfl:((t,true)=(t,true))=_).mp ?_
 trivial
abbrev W15 [Sx.Dr]:=W14.add ok151
def cKinds:ConM:={kT:=9,gk:=false,gv:=true,ks:= .str,vs:=sKind,l:=kindsL}
def Z131:=[((0:Int),true)]
def Z283:List (Int×Bool)×Int×Option Nat×Option Nat×Option Nat:=([],(0:Int),none,none,none)
def Z651:=(∀(k k':ByteArray),some (Lb k k')=some (List.beq (ByteArray.toList k) (ByteArray.toList k')))∧∀(k:ByteArray),true=true
theorem wp80 [Sx.Dr]:wpFM Tryz.prog W15.g (na ()) (fun _=>na ()) (Sx.look ([]:List (Nat×Func))) Tryz.f80 cKinds:=by
 refine(by kernel_rfl:(Z651∧Sf true ([(wUndo,Z283),(wStation,[(0,false)],2,some 148,some 149,some 150),(wPrice,Z131,2,some 152,some 153,some 150),(wOrder,(1,false)::(0,true)::Z131,4,some 154,some 155,some 156),(wMeter,[(1,true)],4,some 157,some 158,some 156),(wTrip,[(1,true)],1,some 159,some 160,some 156),(wOutage,(2,false)::Z131,4,some 161,some 162,some 163),(wRestore,[(2,true)],1,some 164,some 165,some 163),(wPermit,[(3,false),(2,true)],1,some 166,some 167,some 168),(wReturn,[(3,true)],1,some 169,some 170,some 168),(wSettle,[],2,some 171,some 172,none)]=kindsL))=_).mp ?_
 delta Z131 Z283 Z651 Sf Lb wMeter wOrder wOutage wPermit wPrice wRestore wReturn wSettle wStation wTrip wUndo
 exact⟨⟨fun _ _=>rfl,fun _=>rfl⟩,rfl,rfl⟩
theorem ok80 [Sx.Dr]:Ok Tryz.prog 80 (ConM.con cKinds):=ok_map (ok_of_wpM mixed W15.ok (by kernel_rfl) (by kernel_rfl) (lib_ok (l:=([]:List (Nat×Func))) (by simp)) (na ()) (fun _=>na ()) wp80)
abbrev W16 [Sx.Dr]:=W15.add ok80
theorem getD_mem {α:Type} {l:List α} {k:Nat} {d:α} (h:k<l.length):l.getD k d∈l:=by
 simp[List.getD_eq_getElem?_getD,h]
theorem take_snoc {α:Type} {d:α} {l:List α} {k:Nat} (h:k<l.length):l.take k++[l.getD k d]=l.take (k+1):=by
 rw[List.take_succ_eq_append_getElem h,List.getD_eq_getElem?_getD,List.getElem?_eq_getElem h];rfl
abbrev annMap (T U:TypeId) (s:Sch) (l:List s.T) (r:Bool×Sch) (g:Bool) (q:Tup [(g,s)]→List Prop) (f:Tup [(g,s)]→r.2.T):Ann:={X:=Nat,σ:=fun k=>⟨3,[(1, .one (.fv 1)),(5, .one (.sl 2)),(8, .one (.sl 0)),(9, .one (.int .i64 l.length)),(10, .one (.int .i64 k))],[(0, .imm T s l),(1, .afn [(g,s)] r q f),(2, .own U r.2 ((l.take k).map fun x=>f (x,())))]⟩,inv:=fun k=>k≤l.length,mu:=fun k=>l.length-k}
def cMapSE:Con:={args:=[.val false (.list 9 .str), .fn [tS] I],ress:=[(false, .list 26 sI)],owns:=[true],pre:=fun(l,(q,_),_)=>[l.length≤1000000,∀x∈l,conj (q (x,()))],spec:=fun(l,(_,f),_)=>(l.map fun x=>f (x,()),())}
def cMapIE:Con:={args:=[.val false (.list 3 sI), .fn [I] I],ress:=[(false, .list 26 sI)],owns:=[true],pre:=fun(l,(q,_),_)=>[l.length≤1000000,∀x∈l,conj (q (x,()))],spec:=fun(l,(_,f),_)=>(l.map fun x=>f (x,()),())}
def Z174 (a:Li) (b:Int):=b∈a
def Z198 (a:Int×Unit→Int) (b:Nat) (c:Li):=List.map (fun(x:Int)=>a (x,PUnit.unit)) (List.take b c)
def Z285 (a:Nat) (b:Li) (c:Nat):=a≤List.length b∧Z176 b a c
def Z323 (a:Li) (b:Int×Unit→List Prop):=∀(x:Int),Z174 a x→conj (b (x,PUnit.unit))
theorem ok137 [Sx.Dr]:Ok Tryz.prog 137 cMapIE:=okW W16 Tryz.f137 (fun xx=>ann0 (annMap 3 26 sI xx.1 I false xx.2.1.1 xx.2.1.2)) fun xx=>by
 obtain⟨(l:List Int),⟨(q:Int×Unit→List Prop),(f:Int×Unit→Int)⟩,_⟩:=xx
 refine(by kernel_rfl:(Z53 l→Z323 l q→∃(x:Nat),Si (Ln l) (0=Nc x∧Sf l ((fun(x:Int×PUnit)=>q x)=q∧(fun(x:Int×PUnit)=>f x)=f∧List.length (Z198 f x l)=0))∧x≤List.length l∧∀(x:Nat),x≤List.length l→Br (Z82 x l) (Z72 x l∧(conj (q (Z14 l x,PUnit.unit))∧(List.length (Z198 f x l)+1)*8≤140737488355328)∧Z16 x∧∃(y:Nat),Si (Ln l) (Z94 x y∧Sf l ((fun(x:Int×PUnit)=>q x)=q∧(fun(x:Int×PUnit)=>f x)=f∧Z198 f x l++[f (Z14 l x,PUnit.unit)]=Z198 f y l))∧Z285 y l x) (Z198 f x l=List.map (fun(x:Int)=>f (x,PUnit.unit)) l))=_).mp ?_
 delta Z14 Z16 Z53 Z72 Z82 Z94 Z174 Z176 Z198 Z285 Z323 Br Iw Bd Tw Sf Si Ln Nc
 intro hb hq
 refine⟨(0:Nat),⟨rfl,rfl,rfl,rfl,rfl,by simp⟩,Nat.zero_le _,fun(k:Nat) hk=>⟨fun h=> ?_,fun h=> ?_⟩⟩
 ·have hlt:k<l.length:=by simpa using h
  refine⟨by omega,⟨hq (l.getD k 0) (getD_mem hlt),by simp only[List.length_map,List.length_take];omega⟩,by omega,(k+1:Nat),⟨rfl,by simp,rfl,rfl,rfl, ?_⟩,by omega,by omega⟩
  rw[←take_snoc (d:=0) hlt,List.map_append];rfl
 ·have hlt:¬k<l.length:=by simpa using h
  rw[List.take_of_length_le (by omega)]
abbrev W17 [Sx.Dr]:=W16.add ok137
def Z18 (a:Ls) (b:Nat):=List.getD a b B0
def Z33 (a:Nat) (b:Ls):=a≤List.length b
def Z68 (a:Nat) (b:Ls):=Bd (Nc a) (Ln b)
def Z102 (a:Ls):=List.length a≤1000000
def Z216 (a:Ls) (b c:Nat):=List.length a-b<List.length a-c
def Z240 (a:Bt×Unit→Int) (b:Nat) (c:Ls):=List.map (fun(x:ByteArray)=>a (x,PUnit.unit)) (List.take b c)
def Z241 (a:Ls) (b:Bt):=b∈a
theorem ok134 [Sx.Dr]:Ok Tryz.prog 134 cMapSE:=okW W17 Tryz.f134 (fun xx=>ann0 (annMap 9 26 .str xx.1 I false xx.2.1.1 xx.2.1.2)) fun xx=>by
 obtain⟨(l:List ByteArray),⟨(q:ByteArray×Unit→List Prop),(f:ByteArray×Unit→Int)⟩,_⟩:=xx
 refine(by kernel_rfl:(Z102 l→(∀(x:ByteArray),Z241 l x→conj (q (x,PUnit.unit)))→∃(x:Nat),Si (Ln l) (0=Nc x∧Sf l ((fun(x:ByteArray×PUnit)=>q x)=q∧(fun(x:ByteArray×PUnit)=>f x)=f∧List.length (Z240 f x l)=0))∧Z33 x l∧∀(x:Nat),Z33 x l→Br (decide (Nc x<Ln l)) (Tw (Z68 x l)∧(conj (q (Z18 l x,PUnit.unit))∧(List.length (Z240 f x l)+1)*8≤140737488355328)∧Z16 x∧∃(y:Nat),Si (Ln l) (Z94 x y∧Sf l ((fun(x:ByteArray×PUnit)=>q x)=q∧(fun(x:ByteArray×PUnit)=>f x)=f∧Z240 f x l++[f (Z18 l x,PUnit.unit)]=Z240 f y l))∧Z33 y l∧Z216 l y x) (Z240 f x l=List.map (fun(x:ByteArray)=>f (x,PUnit.unit)) l))=_).mp ?_
 delta Z16 Z18 Z33 Z68 Z94 Z102 Z216 Z240 Z241 Br Iw Bd Tw Sf Si Ln Nc B0
 intro hb hq
 refine⟨(0:Nat),⟨rfl,rfl,rfl,rfl,rfl,by simp⟩,Nat.zero_le _,fun(k:Nat) hk=>⟨fun h=> ?_,fun h=> ?_⟩⟩
 ·have hlt:k<l.length:=by simpa using h
  refine⟨by omega,⟨hq (l.getD k (⟨⟨[]⟩⟩:ByteArray)) (getD_mem hlt),by simp only[List.length_map,List.length_take];omega⟩,by omega,(k+1:Nat),⟨rfl,by simp,rfl,rfl,rfl, ?_⟩,by omega,by omega⟩
  rw[←take_snoc (d:=(⟨⟨[]⟩⟩:ByteArray)) hlt,List.map_append];rfl
 ·have hlt:¬k<l.length:=by simpa using h
  rw[List.take_of_length_le (by omega)]
abbrev W18 [Sx.Dr]:=W17.add ok134
def cChkN:Con:={args:=[aS],ress:=[I],owns:=[],pre:=fun(s,_)=>[s.size≤1000000],spec:=fun(s,_)=>(bif nameB s then 0 else 8,())}
theorem ok135 [Sx.Dr]:Ok Tryz.prog 135 cChkN:=okW W18 Tryz.f135 na fun xx=>by
 obtain⟨(s:ByteArray),_⟩:=xx
 refine(by kernel_rfl:(ByteArray.size s≤(1000000:Nat)→ByteArray.size s≤(1000000:Nat)∧(bif !nameB s then(8:Int) else(0:Int))=bif nameB s then(0:Int) else(8:Int))=_).mp ?_
 exact fun h=>⟨h,by cases nameB s<;>rfl⟩
abbrev W19 [Sx.Dr]:=W18.add ok135
def cChkV:Con:={args:=[aI],ress:=[I],owns:=[],pre:=fun _=>[],spec:=fun(n,_)=>(withinS n 0 999999999,())}
theorem ok138 [Sx.Dr]:Ok Tryz.prog 138 cChkV:=okW W19 Tryz.f138 na fun xx=>by
 obtain⟨(n:Int),_⟩:=xx
 refine(by kernel_rfl:(Z239 n)=_).mp ?_
 delta Z61 Z239
 rfl
abbrev W20 [Sx.Dr]:=W19.add ok138
abbrev Ev:=Int×ByteArray×List ByteArray×List Int×ByteArray
abbrev sEv:Sch:= .prod sI (.prod .str (.prod (.list 9 .str) (.prod (.list 3 sI) .str)))
abbrev aEv:AK:= .val true sEv
def kindD (k:ByteArray):Kind:=(mpGet .str k kindsL).getD ([],0,none,none,none)
def kindK (k:ByteArray):Bool:=(mpGet .str k kindsL).isSome
def checkE (e:Ev):Int:=
 if withinS e.1 1 1000≠0 then withinS e.1 1 1000 else
 bif kindK e.2.1 then(if e.2.2.1.length=(kindD e.2.1).1.length∧(e.2.2.2.1.length:Int)=(kindD e.2.1).2.1 then
  firstS [firstS (e.2.2.1.map fun s=>bif nameB s then 0 else 8),firstS (e.2.2.2.1.map fun n=>withinS n 0 999999999),bif decide (0<e.2.2.2.2.size) then 1 else 0] else 2) else 13
theorem bn1 {b c:Bool} (h:(bif b then true else c)=false):b=false∧c=false:=by cases b<;>simp_all
def cChkE:Con:={args:=[aEv],ress:=[I],owns:=[],pre:=fun(e,_)=>[e.2.2.1.length≤1000000,e.2.2.2.1.length≤1000000,∀s∈e.2.2.1,s.size≤1000000],spec:=fun(e,_)=>(checkE e,())}
def Z57 (a:Int) (b:Bt) (c:Ls) (d:Li) (e:Bt):=checkE (a,b,c,d,e)
def Z358 (a:Ls):=List.map (fun(x:ByteArray)=>match nameB x with|true=>(0:Int)|false=>(8:Int)) a
def Z402 (a:Ls):=∀(s:ByteArray),Z241 a s→ByteArray.size s≤1000000
def Z449 (a:Bt):=mpGet Sch.str a kindsL
def Z733 (a:Bt):=Option.getD (Z449 a) Z283
theorem ok64 [Sx.Dr]:Ok Tryz.prog 64 cChkE:=okW W20 Tryz.f64 na fun xx=>by
 obtain⟨⟨(n:Int),(k:ByteArray),(ns:List ByteArray),(vs:List Int),(t:ByteArray)⟩,_⟩:=xx
 refine(by kernel_rfl:(Z102 ns→Z53 vs→Z402 ns→Br (withinS n 1 (1000:Int) !=0) (withinS n 1 1000=Z57 n k ns vs t) (Br (!Option.isSome (Z449 k)) (13=Z57 n k ns vs t) (Br (bif Ln ns !=Ln (Z733 k).1 then true else Ln vs !=(Z733 k).2.1) (2=Z57 n k ns vs t) ((Z102 ns∧Z402 ns)∧(Z53 vs∧∀(x:Int),Z174 vs x→True)∧(List.length (Z358 ns)≤1000000∧List.length (List.map (fun(x:Int)=>Z61 x) vs)≤1000000∧3≤1000000)∧firstS [firstS (Z358 ns),firstS (List.map (fun(x:Int)=>Z61 x) vs),bif !Lb t B0 then 1 else 0]=Z57 n k ns vs t))))=_).mp ?_
 delta Z53 Z57 Z61 Z102 Z174 Z241 Z283 Z358 Z402 Z449 Z733 Br Ln B0 Lb
 intro h1 h2 h3
 unfold checkE kindD kindK
 dsimp only
 refine⟨fun h=> ?_,fun h=> ?_⟩
 ·rw[if_pos (bne_iff_ne.1 h)]
 rw[if_neg (by have:=bne_eq_false_iff_eq.1 h;simpa using this)]
 refine⟨fun h4=> ?_,fun h4=> ?_⟩
 ·rw[Bool.not_eq_true'] at h4
  rw[h4];rfl
 rw[Bool.not_eq_false'] at h4
 rw[h4,cond_true]
 refine⟨fun h5=> ?_,fun h5=>⟨⟨h1,h3⟩,⟨h2,fun _ _=>trivial⟩,⟨by simpa using h1,by simpa using h2,by decide⟩, ?_⟩⟩
 ·rw[if_neg]
  rintro⟨e1,e2⟩
  rw[e1,e2] at h5
  simp at h5
 ·have h6:=bn1 h5
  rw[if_pos ⟨Int.ofNat_inj.1 (bne_eq_false_iff_eq.1 h6.1),bne_eq_false_iff_eq.1 h6.2⟩,ne_empty]
  rfl
abbrev W21 [Sx.Dr]:=W20.add ok64
abbrev sSpan:Sch:= .prod sI sI
abbrev Sta:=ByteArray×Int×Int
abbrev Ord:=ByteArray×ByteArray×ByteArray×(Int×Int)×Int×Int×Int
abbrev Met:=ByteArray×Int×Int×Int
abbrev Out:=ByteArray×ByteArray×(Int×Int)×Int
abbrev Per:=ByteArray×ByteArray×Bool
abbrev sSta:Sch:= .prod .str (.prod sI sI)
abbrev sOrd:Sch:= .prod .str (.prod .str (.prod .str (.prod sSpan (.prod sI (.prod sI sI)))))
abbrev sMet:Sch:= .prod .str (.prod sI (.prod sI sI))
abbrev sOut:Sch:= .prod .str (.prod .str (.prod sSpan sI))
abbrev sPer:Sch:= .prod .str (.prod .str .bool)
def cNmS:Con:={args:=[.val true sSta],ress:=[tS],owns:=[],pre:=fun _=>[],spec:=fun(x,_)=>(x.1,())}
def cNmO:Con:={args:=[.val true sOrd],ress:=[tS],owns:=[],pre:=fun _=>[],spec:=fun(x,_)=>(x.1,())}
def cNmX:Con:={args:=[.val true sOut],ress:=[tS],owns:=[],pre:=fun _=>[],spec:=fun(x,_)=>(x.1,())}
def cNmP:Con:={args:=[.val true sPer],ress:=[tS],owns:=[],pre:=fun _=>[],spec:=fun(x,_)=>(x.1,())}
theorem wp328 [Sx.Dr] (x:Sta):wpF Tryz.prog W21.g (na ()) Tryz.f328 cNmS (x,()):=by
 refine(by kernel_rfl:(x.1=x.1)=_).mp ?_
 rfl
theorem ok328 [Sx.Dr]:Ok Tryz.prog 328 cNmS:=ok_of_wp mixed W21.ok (by kernel_rfl) (by kernel_rfl) na fun xx=>wp328 xx.1
abbrev W22 [Sx.Dr]:=W21.add ok328
theorem wp329 [Sx.Dr] (x:Ord):wpF Tryz.prog W22.g (na ()) Tryz.f329 cNmO (x,()):=by
 refine(by kernel_rfl:(x.1=x.1)=_).mp ?_
 rfl
theorem ok329 [Sx.Dr]:Ok Tryz.prog 329 cNmO:=ok_of_wp mixed W22.ok (by kernel_rfl) (by kernel_rfl) na fun xx=>wp329 xx.1
abbrev W23 [Sx.Dr]:=W22.add ok329
theorem wp204 [Sx.Dr] (x:Out):wpF Tryz.prog W23.g (na ()) Tryz.f204 cNmX (x,()):=by
 refine(by kernel_rfl:(x.1=x.1)=_).mp ?_
 rfl
theorem ok204 [Sx.Dr]:Ok Tryz.prog 204 cNmX:=ok_of_wp mixed W23.ok (by kernel_rfl) (by kernel_rfl) na fun xx=>wp204 xx.1
abbrev W24 [Sx.Dr]:=W23.add ok204
theorem wp208 [Sx.Dr] (x:Per):wpF Tryz.prog W24.g (na ()) Tryz.f208 cNmP (x,()):=by
 refine(by kernel_rfl:(x.1=x.1)=_).mp ?_
 rfl
theorem ok208 [Sx.Dr]:Ok Tryz.prog 208 cNmP:=ok_of_wp mixed W24.ok (by kernel_rfl) (by kernel_rfl) na fun xx=>wp208 xx.1
abbrev W25 [Sx.Dr]:=W24.add ok208
def bnil:ByteArray:=⟨⟨[]⟩⟩
def idxS {α:Type} (p:α→Bool):List α→Nat→Int
 |[],_=> -1
 |x::r,k=>if p x=true then(k:Int) else idxS p r (k+1)
theorem idxS_drop {α:Type} {p:α→Bool} {l:List α} {k:Nat} {d:α} (h:k<l.length):idxS p (l.drop k) k=if p (l.getD k d)=true then(k:Int) else idxS p (l.drop (k+1)) (k+1):=by
 rw[List.drop_eq_getElem_cons h]
 simp[idxS,List.getD_eq_getElem?_getD,h]
abbrev annIdx (T:TypeId) (s:Sch) (g:Bool) (l:List s.T) (q:Tup [(g,s)]→List Prop) (f:Tup [(g,s)]→Bool):Ann:={X:=Nat,σ:=fun k=>⟨2,[(0, .one (.sl 0)),(1, .one (.fv 1)),(7, .one (.int .i64 l.length)),(8, .one (.int .i64 k))],[(0, .imm T s l),(1, .afn [(g,s)] Bo q f)]⟩,inv:=fun k=>k≤l.length∧idxS (fun x=>f (x,())) l 0=idxS (fun x=>f (x,())) (l.drop k) k,mu:=fun k=>l.length-k}
def cIdx (T:TypeId) (s:Sch) (g:Bool):Con:={args:=[.val false (.list T s), .fn [(g,s)] Bo],ress:=[I],owns:=[],pre:=fun(l,(q,_),_)=>[l.length≤1000000,∀x∈l,conj (q (x,()))],spec:=fun(l,(_,f),_)=>(idxS (fun x=>f (x,())) l 0,())}
def sta0:Sta:=(bnil,0,0)
def cIsS:Con:={args:=[.val true sSta, .ref 9 .str],ress:=[Bo],owns:=[],pre:=fun _=>[],spec:=fun(x,s,_)=>(x.1.toList==s.toList,())}
theorem wp229 [Sx.Dr] (x:Sta) (s:ByteArray):wpF Tryz.prog W25.g (na ()) Tryz.f229 cIsS (x,s,()):=by
 refine(by kernel_rfl:(Lb x.1 s=Lb x.1 s)=_).mp ?_
 delta Lb
 rfl
theorem ok229 [Sx.Dr]:Ok Tryz.prog 229 cIsS:=ok_of_wp mixed W25.ok (by kernel_rfl) (by kernel_rfl) na fun xx=>wp229 xx.1 xx.2.1
abbrev W26 [Sx.Dr]:=W25.add ok229
def Z9:=(B0,(0:Int),(0:Int))
def Z43 (a:List Sta):=List.length a≤1000000
def Z64:=(-1)
def Z409 (a:List Sta) (b:Nat):=(((List.getD a b Z9).1,E2 (List.getD a b Z9).2),PUnit.unit)
def Z504 (a:Nat) (b:List Sta) (c:Sta×Unit→Bool):=a≤List.length b∧idxS (fun(x:Sta)=>c (x,PUnit.unit)) b 0=idxS (fun(x:Sta)=>c (x,PUnit.unit)) (List.drop a b) a
theorem ok228 [Sx.Dr]:Ok Tryz.prog 228 (cIdx 127 sSta true):=okW W26 Tryz.f228 (fun xx=>ann0 (annIdx 127 sSta true xx.1 xx.2.1.1 xx.2.1.2)) fun xx=>by
 obtain⟨(l:List Sta),⟨(q:Sta×Unit→List Prop),(f:Sta×Unit→Bool)⟩,_⟩:=xx
 refine(by kernel_rfl:(Z43 l→(∀(x:Sta),x∈l→conj (q (x,PUnit.unit)))→∃(x:Nat),Si (Ln l) (0=Nc x∧Sf l ((fun(x:Sta×PUnit)=>q x)=q∧(fun(x:Sta×PUnit)=>f x)=f))∧Z504 x l f∧∀(x:Nat),Z504 x l f→Br (decide (Nc x<Ln l)) (T2 (Bd (Nc x) (Ln l)) (conj (q (Z409 l x)))∧Br (f (Z409 l x)) (Nc x=idxS (fun(x:Sta)=>f (x,PUnit.unit)) l 0) (Z16 x∧∃(y:Nat),Si (Ln l) (Z94 x y∧Sf l ((fun(x:Sta×PUnit)=>q x)=q∧(fun(x:Sta×PUnit)=>f x)=f))∧Z504 y l f∧List.length l-y<List.length l-x)) (Z64=idxS (fun(x:Sta)=>f (x,PUnit.unit)) l 0))=_).mp ?_
 delta Z9 Z16 Z43 Z64 Z94 Z409 Z504 Br Iw Bd T2 Sf Si Ln Nc B0 E2
 intro hb hq
 refine⟨(0:Nat),⟨rfl,rfl,rfl,rfl,rfl⟩,⟨Nat.zero_le _,rfl⟩,fun(k:Nat) hk=>⟨fun h=> ?_,fun h=> ?_⟩⟩
 ·have hlt:k<l.length:=by simpa using h
  have hd:=idxS_drop (p:=fun x=>f (x,())) (d:=sta0) hlt
  refine⟨⟨by omega,by omega,hq (l.getD k sta0) (getD_mem hlt)⟩,fun h1=> ?_,fun h1=>⟨by omega,(k+1:Nat),⟨rfl,rfl,rfl,by simp,rfl⟩,⟨by omega, ?_⟩,by omega⟩⟩
  ·rw[hk.2,hd,if_pos (show f (l.getD k sta0,())=true from h1)]
  ·rw[hk.2,hd,if_neg (by rw[show f (l.getD k sta0,())=false from h1];simp)]
 ·have hlt:¬k<l.length:=by simpa using h
  have:k=l.length:=by omega
  rw[hk.2,this,List.drop_length];rfl
abbrev W27 [Sx.Dr]:=W26.add ok228
def findS (l:List Sta) (s:ByteArray):Int:=idxS (fun x=>x.1.toList==s.toList) l 0
def cFindS:Con:={args:=[.val false (.list 127 sSta),aS],ress:=[I],owns:=[],pre:=fun(l,_)=>[l.length≤1000000],spec:=fun(l,s,_)=>(findS l s,())}
theorem ok143 [Sx.Dr]:Ok Tryz.prog 143 cFindS:=okW W27 Tryz.f143 na fun xx=>by
 obtain⟨(l:List Sta),(s:ByteArray),_⟩:=xx
 refine(by kernel_rfl:(Z43 l→(Z43 l∧∀(x:Sta),x∈l→True)∧idxS (fun(x:Sta)=>List.beq (ByteArray.toList x.1) (ByteArray.toList s)) l 0=findS l s)=_).mp ?_
 delta Z43
 exact fun h=>⟨⟨h,fun _ _=>trivial⟩,rfl⟩
abbrev W28 [Sx.Dr]:=W27.add ok143
def ord0:Ord:=(bnil,bnil,bnil,(0,0),0,0,0)
def cIsO:Con:={args:=[.val true sOrd, .ref 9 .str],ress:=[Bo],owns:=[],pre:=fun _=>[],spec:=fun(x,s,_)=>(x.1.toList==s.toList,())}
theorem wp231 [Sx.Dr] (x:Ord) (s:ByteArray):wpF Tryz.prog W28.g (na ()) Tryz.f231 cIsO (x,s,()):=by
 refine(by kernel_rfl:(Lb x.1 s=Lb x.1 s)=_).mp ?_
 delta Lb
 rfl
theorem ok231 [Sx.Dr]:Ok Tryz.prog 231 cIsO:=ok_of_wp mixed W28.ok (by kernel_rfl) (by kernel_rfl) na fun xx=>wp231 xx.1 xx.2.1
abbrev W29 [Sx.Dr]:=W28.add ok231
def Z51 (a:List Ord):=List.length a≤1000000
def Z60:=((0:Int),(0:Int),(0:Int))
def Z254:=(B0,B0,B0,((0:Int),(0:Int)),Z60)
def Z315 (a:List Ord) (b:Nat):=List.getD a b Z254
def Z320 (a:List Ord) (b:Ord×Unit→List Prop):=∀(x:Ord),x∈a→conj (b (x,PUnit.unit))
def Z322 (a:List Ord) (b:Nat):=(Z315 a b).2
def Z330 (a:List Ord) (b:Nat):=(Z322 a b).2
def Z342 (a:List Ord) (b:Nat):=(Z330 a b).2
def Z346 (a:List Ord) (b:Nat):=(Z342 a b).2
def Z501 (a:Nat) (b:List Ord) (c:Ord×Unit→Bool):=a≤List.length b∧idxS (fun(x:Ord)=>c (x,PUnit.unit)) b 0=idxS (fun(x:Ord)=>c (x,PUnit.unit)) (List.drop a b) a
def Z801 (a:List Ord) (b:Nat):=(((Z315 a b).1,(Z322 a b).1,(Z330 a b).1,E2 (Z342 a b).1,(Z346 a b).1,E2 (Z346 a b).2),PUnit.unit)
def Z807 (a:Ord×Unit→List Prop) (b:List Ord) (c:Nat):=conj (a (Z801 b c))
theorem ok230 [Sx.Dr]:Ok Tryz.prog 230 (cIdx 130 sOrd true):=okW W29 Tryz.f230 (fun xx=>ann0 (annIdx 130 sOrd true xx.1 xx.2.1.1 xx.2.1.2)) fun xx=>by
 obtain⟨(l:List Ord),⟨(q:Ord×Unit→List Prop),(f:Ord×Unit→Bool)⟩,_⟩:=xx
 refine(by kernel_rfl:(Z51 l→Z320 l q→∃(x:Nat),Si (Ln l) (0=Nc x∧Sf l ((fun(x:Ord×PUnit)=>q x)=q∧(fun(x:Ord×PUnit)=>f x)=f))∧Z501 x l f∧∀(x:Nat),Z501 x l f→Br (decide (Nc x<Ln l)) (T2 (Bd (Nc x) (Ln l)) (Z807 q l x)∧Br (f (Z801 l x)) (Nc x=idxS (fun(x:Ord)=>f (x,PUnit.unit)) l 0) (Z16 x∧∃(y:Nat),Si (Ln l) (Z94 x y∧Sf l ((fun(x:Ord×PUnit)=>q x)=q∧(fun(x:Ord×PUnit)=>f x)=f))∧Z501 y l f∧List.length l-y<List.length l-x)) (Z64=idxS (fun(x:Ord)=>f (x,PUnit.unit)) l 0))=_).mp ?_
 delta Z16 Z51 Z60 Z64 Z94 Z254 Z315 Z320 Z322 Z330 Z342 Z346 Z501 Z801 Z807 Br Iw Bd T2 Sf Si Ln Nc B0 E2
 intro hb hq
 refine⟨(0:Nat),⟨rfl,rfl,rfl,rfl,rfl⟩,⟨Nat.zero_le _,rfl⟩,fun(k:Nat) hk=>⟨fun h=> ?_,fun h=> ?_⟩⟩
 ·have hlt:k<l.length:=by simpa using h
  have hd:=idxS_drop (p:=fun x=>f (x,())) (d:=ord0) hlt
  refine⟨⟨by omega,by omega,hq (l.getD k ord0) (getD_mem hlt)⟩,fun h1=> ?_,fun h1=>⟨by omega,(k+1:Nat),⟨rfl,rfl,rfl,by simp,rfl⟩,⟨by omega, ?_⟩,by omega⟩⟩
  ·rw[hk.2,hd,if_pos (show f (l.getD k ord0,())=true from h1)]
  ·rw[hk.2,hd,if_neg (by rw[show f (l.getD k ord0,())=false from h1];simp)]
 ·have hlt:¬k<l.length:=by simpa using h
  have:k=l.length:=by omega
  rw[hk.2,this,List.drop_length];rfl
abbrev W30 [Sx.Dr]:=W29.add ok230
def findO (l:List Ord) (s:ByteArray):Int:=idxS (fun x=>x.1.toList==s.toList) l 0
def cFindO:Con:={args:=[.val false (.list 130 sOrd),aS],ress:=[I],owns:=[],pre:=fun(l,_)=>[l.length≤1000000],spec:=fun(l,s,_)=>(findO l s,())}
theorem ok144 [Sx.Dr]:Ok Tryz.prog 144 cFindO:=okW W30 Tryz.f144 na fun xx=>by
 obtain⟨(l:List Ord),(s:ByteArray),_⟩:=xx
 refine(by kernel_rfl:(Z51 l→(Z51 l∧∀(x:Ord),x∈l→True)∧idxS (fun(x:Ord)=>List.beq (ByteArray.toList x.1) (ByteArray.toList s)) l 0=findO l s)=_).mp ?_
 delta Z51
 exact fun h=>⟨⟨h,fun _ _=>trivial⟩,rfl⟩
abbrev W31 [Sx.Dr]:=W30.add ok144
def out0:Out:=(bnil,bnil,(0,0),0)
def cIsX:Con:={args:=[.val true sOut, .ref 9 .str],ress:=[Bo],owns:=[],pre:=fun _=>[],spec:=fun(x,s,_)=>(x.1.toList==s.toList,())}
theorem wp233 [Sx.Dr] (x:Out) (s:ByteArray):wpF Tryz.prog W31.g (na ()) Tryz.f233 cIsX (x,s,()):=by
 refine(by kernel_rfl:(Lb x.1 s=Lb x.1 s)=_).mp ?_
 delta Lb
 rfl
theorem ok233 [Sx.Dr]:Ok Tryz.prog 233 cIsX:=ok_of_wp mixed W31.ok (by kernel_rfl) (by kernel_rfl) na fun xx=>wp233 xx.1 xx.2.1
abbrev W32 [Sx.Dr]:=W31.add ok233
def Z50 (a:List Out):=List.length a≤1000000
def Z134:=(B0,B0,((0:Int),(0:Int)),(0:Int))
def Z219 (a:List Out) (b:Nat):=(List.getD a b Z134).2
def Z325 (a:List Out) (b:Out×Unit→List Prop):=∀(x:Out),x∈a→conj (b (x,PUnit.unit))
def Z503 (a:Nat) (b:List Out) (c:Out×Unit→Bool):=a≤List.length b∧idxS (fun(x:Out)=>c (x,PUnit.unit)) b 0=idxS (fun(x:Out)=>c (x,PUnit.unit)) (List.drop a b) a
def Z715 (a:List Out) (b:Nat):=((List.getD a b Z134).1,(Z219 a b).1,E2 (Z219 a b).2.1,(Z219 a b).2.2)
def Z720 (a:List Out) (b:Nat):=(Z715 a b,PUnit.unit)
def Z722 (a:Out×Unit→Bool) (b:List Out) (c:Nat):=a (Z720 b c)
def Z728 (a:Out×Unit→List Prop) (b:List Out) (c:Nat):=conj (a (Z720 b c))
theorem ok232 [Sx.Dr]:Ok Tryz.prog 232 (cIdx 188 sOut true):=okW W32 Tryz.f232 (fun xx=>ann0 (annIdx 188 sOut true xx.1 xx.2.1.1 xx.2.1.2)) fun xx=>by
 obtain⟨(l:List Out),⟨(q:Out×Unit→List Prop),(f:Out×Unit→Bool)⟩,_⟩:=xx
 refine(by kernel_rfl:(Z50 l→Z325 l q→∃(x:Nat),Si (Ln l) (0=Nc x∧Sf l ((fun(x:Out×PUnit)=>q x)=q∧(fun(x:Out×PUnit)=>f x)=f))∧Z503 x l f∧∀(x:Nat),Z503 x l f→Br (decide (Nc x<Ln l)) (T2 (Bd (Nc x) (Ln l)) (Z728 q l x)∧Br (Z722 f l x) (Nc x=idxS (fun(x:Out)=>f (x,PUnit.unit)) l 0) (Z16 x∧∃(y:Nat),Si (Ln l) (Z94 x y∧Sf l ((fun(x:Out×PUnit)=>q x)=q∧(fun(x:Out×PUnit)=>f x)=f))∧Z503 y l f∧List.length l-y<List.length l-x)) (Z64=idxS (fun(x:Out)=>f (x,PUnit.unit)) l 0))=_).mp ?_
 delta Z16 Z50 Z64 Z94 Z134 Z219 Z325 Z503 Z715 Z720 Z722 Z728 Br Iw Bd T2 Sf Si Ln Nc B0 E2
 intro hb hq
 refine⟨(0:Nat),⟨rfl,rfl,rfl,rfl,rfl⟩,⟨Nat.zero_le _,rfl⟩,fun(k:Nat) hk=>⟨fun h=> ?_,fun h=> ?_⟩⟩
 ·have hlt:k<l.length:=by simpa using h
  have hd:=idxS_drop (p:=fun x=>f (x,())) (d:=out0) hlt
  refine⟨⟨by omega,by omega,hq (l.getD k out0) (getD_mem hlt)⟩,fun h1=> ?_,fun h1=>⟨by omega,(k+1:Nat),⟨rfl,rfl,rfl,by simp,rfl⟩,⟨by omega, ?_⟩,by omega⟩⟩
  ·rw[hk.2,hd,if_pos (show f (l.getD k out0,())=true from h1)]
  ·rw[hk.2,hd,if_neg (by rw[show f (l.getD k out0,())=false from h1];simp)]
 ·have hlt:¬k<l.length:=by simpa using h
  have:k=l.length:=by omega
  rw[hk.2,this,List.drop_length];rfl
abbrev W33 [Sx.Dr]:=W32.add ok232
def findX (l:List Out) (s:ByteArray):Int:=idxS (fun x=>x.1.toList==s.toList) l 0
def cFindX:Con:={args:=[.val false (.list 188 sOut),aS],ress:=[I],owns:=[],pre:=fun(l,_)=>[l.length≤1000000],spec:=fun(l,s,_)=>(findX l s,())}
def Z271 (a:List Out):=∀(x:Out),x∈a→True
theorem ok145 [Sx.Dr]:Ok Tryz.prog 145 cFindX:=okW W33 Tryz.f145 na fun xx=>by
 obtain⟨(l:List Out),(s:ByteArray),_⟩:=xx
 refine(by kernel_rfl:(Z50 l→(Z50 l∧Z271 l)∧idxS (fun(x:Out)=>List.beq (ByteArray.toList x.1) (ByteArray.toList s)) l 0=findX l s)=_).mp ?_
 delta Z50 Z271
 exact fun h=>⟨⟨h,fun _ _=>trivial⟩,rfl⟩
abbrev W34 [Sx.Dr]:=W33.add ok145
def per0:Per:=(bnil,bnil,false)
def cIsP:Con:={args:=[.val true sPer, .ref 9 .str],ress:=[Bo],owns:=[],pre:=fun _=>[],spec:=fun(x,s,_)=>(x.1.toList==s.toList,())}
theorem wp235 [Sx.Dr] (x:Per) (s:ByteArray):wpF Tryz.prog W34.g (na ()) Tryz.f235 cIsP (x,s,()):=by
 refine(by kernel_rfl:(Lb x.1 s=Lb x.1 s)=_).mp ?_
 delta Lb
 rfl
theorem ok235 [Sx.Dr]:Ok Tryz.prog 235 cIsP:=ok_of_wp mixed W34.ok (by kernel_rfl) (by kernel_rfl) na fun xx=>wp235 xx.1 xx.2.1
abbrev W35 [Sx.Dr]:=W34.add ok235
def Z41 (a:List Per):=List.length a≤1000000
def Z321 (a:List Per) (b:Per×Unit→List Prop):=∀(x:Per),x∈a→conj (b (x,PUnit.unit))
def Z353 (a:List Per) (b:Nat):=((List.getD a b (B0,B0,false)).1,E2 (List.getD a b (B0,B0,false)).2)
def Z377 (a:List Per) (b:Nat):=(Z353 a b,PUnit.unit)
def Z391 (a:Per×Unit→Bool) (b:List Per) (c:Nat):=a (Z377 b c)
def Z420 (a:Per×Unit→List Prop) (b:List Per) (c:Nat):=conj (a (Z377 b c))
def Z506 (a:Nat) (b:List Per) (c:Per×Unit→Bool):=a≤List.length b∧idxS (fun(x:Per)=>c (x,PUnit.unit)) b 0=idxS (fun(x:Per)=>c (x,PUnit.unit)) (List.drop a b) a
theorem ok234 [Sx.Dr]:Ok Tryz.prog 234 (cIdx 235 sPer true):=okW W35 Tryz.f234 (fun xx=>ann0 (annIdx 235 sPer true xx.1 xx.2.1.1 xx.2.1.2)) fun xx=>by
 obtain⟨(l:List Per),⟨(q:Per×Unit→List Prop),(f:Per×Unit→Bool)⟩,_⟩:=xx
 refine(by kernel_rfl:(Z41 l→Z321 l q→∃(x:Nat),Si (Ln l) (0=Nc x∧Sf l ((fun(x:Per×PUnit)=>q x)=q∧(fun(x:Per×PUnit)=>f x)=f))∧Z506 x l f∧∀(x:Nat),Z506 x l f→Br (decide (Nc x<Ln l)) (T2 (Bd (Nc x) (Ln l)) (Z420 q l x)∧Br (Z391 f l x) (Nc x=idxS (fun(x:Per)=>f (x,PUnit.unit)) l 0) (Z16 x∧∃(y:Nat),Si (Ln l) (Z94 x y∧Sf l ((fun(x:Per×PUnit)=>q x)=q∧(fun(x:Per×PUnit)=>f x)=f))∧Z506 y l f∧List.length l-y<List.length l-x)) (Z64=idxS (fun(x:Per)=>f (x,PUnit.unit)) l 0))=_).mp ?_
 delta Z16 Z41 Z64 Z94 Z321 Z353 Z377 Z391 Z420 Z506 Br Iw Bd T2 Sf Si Ln Nc B0 E2
 intro hb hq
 refine⟨(0:Nat),⟨rfl,rfl,rfl,rfl,rfl⟩,⟨Nat.zero_le _,rfl⟩,fun(k:Nat) hk=>⟨fun h=> ?_,fun h=> ?_⟩⟩
 ·have hlt:k<l.length:=by simpa using h
  have hd:=idxS_drop (p:=fun x=>f (x,())) (d:=per0) hlt
  refine⟨⟨by omega,by omega,hq (l.getD k per0) (getD_mem hlt)⟩,fun h1=> ?_,fun h1=>⟨by omega,(k+1:Nat),⟨rfl,rfl,rfl,by simp,rfl⟩,⟨by omega, ?_⟩,by omega⟩⟩
  ·rw[hk.2,hd,if_pos (show f (l.getD k per0,())=true from h1)]
  ·rw[hk.2,hd,if_neg (by rw[show f (l.getD k per0,())=false from h1];simp)]
 ·have hlt:¬k<l.length:=by simpa using h
  have:k=l.length:=by omega
  rw[hk.2,this,List.drop_length];rfl
abbrev W36 [Sx.Dr]:=W35.add ok234
def findP (l:List Per) (s:ByteArray):Int:=idxS (fun x=>x.1.toList==s.toList) l 0
def cFindP:Con:={args:=[.val false (.list 235 sPer),aS],ress:=[I],owns:=[],pre:=fun(l,_)=>[l.length≤1000000],spec:=fun(l,s,_)=>(findP l s,())}
def Z384 (a:List Per):=Z41 a∧∀(x:Per),x∈a→True
theorem ok146 [Sx.Dr]:Ok Tryz.prog 146 cFindP:=okW W36 Tryz.f146 na fun xx=>by
 obtain⟨(l:List Per),(s:ByteArray),_⟩:=xx
 refine(by kernel_rfl:(Z41 l→Z384 l∧idxS (fun(x:Per)=>List.beq (ByteArray.toList x.1) (ByteArray.toList s)) l 0=findP l s)=_).mp ?_
 delta Z41 Z384
 exact fun h=>⟨⟨h,fun _ _=>trivial⟩,rfl⟩
abbrev W37 [Sx.Dr]:=W36.add ok146
abbrev Reg:=Int×Int×List Sta×List Ord×List Met×List Out×List Per
abbrev sReg:Sch:= .prod sI (.prod sI (.prod (.list 127 sSta) (.prod (.list 130 sOrd) (.prod (.list 155 sMet) (.prod (.list 188 sOut) (.list 235 sPer))))))
abbrev aReg:AK:= .val true sReg
def insideB (s:Int×Int) (h:Int):Bool:=bif decide (s.1≤h) then decide (h<s.2) else false
def cInside:Con:={args:=[.val true sSpan,aI],ress:=[Bo],owns:=[],pre:=fun _=>[],spec:=fun(s,h,_)=>(insideB s h,())}
theorem ok140 [Sx.Dr]:Ok Tryz.prog 140 cInside:=okW W37 Tryz.f140 na fun xx=>by
 obtain⟨⟨(a:Int),(b:Int)⟩,(h:Int),_⟩:=xx
 refine(by kernel_rfl:((bif decide (a≤h) then decide (h<b) else false)=insideB (a,b) h)=_).mp ?_
 rfl
abbrev W38 [Sx.Dr]:=W37.add ok140
def countsB (x:Ord) (h:Int):Bool:=bif insideB x.2.2.2.1 h then(bif x.2.2.2.2.2.2== -1 then true else decide (h<x.2.2.2.2.2.2)) else false
def cCounts:Con:={args:=[.val true sOrd,aI],ress:=[Bo],owns:=[],pre:=fun _=>[],spec:=fun(x,h,_)=>(countsB x h,())}
theorem ok72 [Sx.Dr]:Ok Tryz.prog 72 cCounts:=okW W38 Tryz.f72 na fun xx=>by
 obtain⟨⟨(n:ByteArray),(f:ByteArray),(t:ByteArray),⟨(a:Int),(b:Int)⟩,(p:Int),(c:Int),(r:Int)⟩,(h:Int),_⟩:=xx
 refine(by kernel_rfl:((bif insideB (a,b) h then bif r==Z64 then true else decide (h<r) else false)=countsB (n,f,t,(a,b),p,c,r) h)=_).mp ?_
 delta Z64
 rfl
abbrev W39 [Sx.Dr]:=W38.add ok72
def aboutB (x:Ord) (s:ByteArray):Bool:=bif x.2.1.toList==s.toList then true else x.2.2.1.toList==s.toList
def cAbout:Con:={args:=[.val true sOrd,aS],ress:=[Bo],owns:=[],pre:=fun _=>[],spec:=fun(x,s,_)=>(aboutB x s,())}
theorem ok240 [Sx.Dr]:Ok Tryz.prog 240 cAbout:=okW W39 Tryz.f240 na fun xx=>by
 obtain⟨⟨(n:ByteArray),(f:ByteArray),(t:ByteArray),⟨(a:Int),(b:Int)⟩,(p:Int),(c:Int),(r:Int)⟩,(s:ByteArray),_⟩:=xx
 refine(by kernel_rfl:((bif Lb f s then true else Lb t s)=aboutB (n,f,t,(a,b),p,c,r) s)=_).mp ?_
 delta Lb
 rfl
abbrev W40 [Sx.Dr]:=W39.add ok240
def outB (x:Out) (s:ByteArray) (h:Int):Bool:=bif x.2.1.toList==s.toList then insideB x.2.2.1 h else false
def cOut:Con:={args:=[.val true sOut,aS,aI],ress:=[Bo],owns:=[],pre:=fun _=>[],spec:=fun(x,s,h,_)=>(outB x s h,())}
theorem ok176 [Sx.Dr]:Ok Tryz.prog 176 cOut:=okW W40 Tryz.f176 na fun xx=>by
 obtain⟨⟨(n:ByteArray),(f:ByteArray),⟨(a:Int),(b:Int)⟩,(p:Int)⟩,(s:ByteArray),(h:Int),_⟩:=xx
 refine(by kernel_rfl:((bif Lb f s then insideB (a,b) h else false)=outB (n,f,(a,b),p) s h)=_).mp ?_
 delta Lb
 rfl
abbrev W41 [Sx.Dr]:=W40.add ok176
theorem drop_cons {α:Type} {l:List α} {k:Nat} {d:α} (h:k<l.length):l.drop k=l.getD k d::l.drop (k+1):=by
 rw[List.drop_eq_getElem_cons h,List.getD_eq_getElem?_getD,List.getElem?_eq_getElem h];rfl
theorem idxS_lt {α:Type} {p:α→Bool}:∀{l:List α} {k:Nat},idxS p l k<k+l.length∧-1≤idxS p l k
 |[],k=>by simp[idxS];omega
 | x :: l, k => by
  unfold idxS
  split
  ·simp only[List.length_cons];omega
  ·have:=idxS_lt (p:=p) (l:=l) (k:=k+1)
   simp only[List.length_cons];omega
theorem findS_lt {l:List Sta} {s:ByteArray}:findS l s<l.length:=by have:=(idxS_lt (p:=fun x=>x.1.toList==s.toList) (l:=l) (k:=0)).1;unfold findS;omega
theorem findO_lt {l:List Ord} {s:ByteArray}:findO l s<l.length:=by have:=(idxS_lt (p:=fun x=>x.1.toList==s.toList) (l:=l) (k:=0)).1;unfold findO;omega
theorem findX_lt {l:List Out} {s:ByteArray}:findX l s<l.length:=by have:=(idxS_lt (p:=fun x=>x.1.toList==s.toList) (l:=l) (k:=0)).1;unfold findX;omega
theorem findP_lt {l:List Per} {s:ByteArray}:findP l s<l.length:=by have:=(idxS_lt (p:=fun x=>x.1.toList==s.toList) (l:=l) (k:=0)).1;unfold findP;omega
def meterS (M:List Met) (n:ByteArray) (h:Int):Int:=idxS (fun x=>bif x.1.toList==n.toList then x.2.1==h else false) M 0
theorem meterS_lt {l:List Met} {s:ByteArray} {h:Int}:meterS l s h<l.length:=by have:=(idxS_lt (p:=fun x=>bif x.1.toList==s.toList then x.2.1==h else false) (l:=l) (k:=0)).1;unfold meterS;omega
structure StaOk (x:Sta):Prop where
 lim:1≤x.2.1∧x.2.1≤1000
 pri:0≤x.2.2∧x.2.2≤1000
structure SpanOk (x:Int×Int):Prop where
 lo:0≤x.1
 mid:x.1≤x.2
 hi:x.2≤999999999
 len:x.2-x.1≤48
structure OrdOk (S:List Sta) (x:Ord):Prop where
 span:SpanOk x.2.2.2.1
 pow:1≤x.2.2.2.2.1∧x.2.2.2.2.1≤1000
 pri:0≤x.2.2.2.2.2.1∧x.2.2.2.2.2.1≤1000
 trip: -1≤x.2.2.2.2.2.2∧x.2.2.2.2.2.2≤999999999
 fr:0≤findS S x.2.1
 tu:0≤findS S x.2.2.1
structure MetOk (x:Met):Prop where
 hour:0≤x.2.1∧x.2.1≤999999999
 sent:0≤x.2.2.1∧x.2.2.1≤1000
 got:0≤x.2.2.2∧x.2.2.2≤x.2.2.1
structure OutOk (S:List Sta) (x:Out):Prop where
 span:SpanOk x.2.2.1
 rest:0≤x.2.2.2∧x.2.2.2≤1000
 sta:0≤findS S x.2.1
structure RegOk (r:Reg):Prop where
 tk:0≤r.1∧r.1≤999999999
 st:0≤r.2.1∧r.2.1≤r.1
 nS:r.2.2.1.length≤6
 nO:r.2.2.2.1.length≤32
 nM:r.2.2.2.2.1.length≤10000
 nX:r.2.2.2.2.2.1.length≤16
 nQ:r.2.2.2.2.2.2.length≤16
 sta:∀x∈r.2.2.1,StaOk x
 ord:∀x∈r.2.2.2.1,OrdOk r.2.2.1 x
 met:∀x∈r.2.2.2.2.1,MetOk x
 out:∀x∈r.2.2.2.2.2.1,OutOk r.2.2.1 x
 per:∀x∈r.2.2.2.2.2.2,0≤findX r.2.2.2.2.2.1 x.2.1
 done:∀x∈r.2.2.2.1,∀h,countsB x h=true→h<r.2.1→0≤meterS r.2.2.2.2.1 x.1 h
def staS (S:List Sta) (s:ByteArray):Sta:=S.getD (findS S s).toNat sta0
def cGetSta:Con:={args:=[aReg,aS],ress:=[(true,sSta)],owns:=[],pre:=fun((_,_,S,_),s,_)=>[S.length≤1000000,0≤findS S s],spec:=fun((_,_,S,_),s,_)=>(staS S s,())}
def Z20 (a:List Sta) (b:Bt):=0≤findS a b
theorem ok175 [Sx.Dr]:Ok Tryz.prog 175 cGetSta:=okW W41 Tryz.f175 na fun xx=>by
 obtain⟨⟨(tk:Int),(st:Int),(S:List Sta),(O:List Ord),(M:List Met),(X:List Out),(Q:List Per)⟩,(s:ByteArray),_⟩:=xx
 refine(by kernel_rfl:(Z43 S→Z20 S s→(Z43 S∧Tw (Bd (findS S s) (Ln S)))∧((Gt S (findS S s) Z9).1,E2 (Gt S (findS S s) Z9).2)=staS S s)=_).mp ?_
 delta Z9 Z20 Z43 Bd Tw Ln Gt B0 E2
 exact fun h1 h2=>⟨⟨h1,⟨h2,findS_lt⟩,⟨h2,findS_lt⟩⟩,rfl⟩
abbrev W42 [Sx.Dr]:=W41.add ok175
def ordS (O:List Ord) (s:ByteArray):Ord:=O.getD (findO O s).toNat ord0
def cGetOrd:Con:={args:=[aReg,aS],ress:=[(true,sOrd)],owns:=[],pre:=fun((_,_,_,O,_),s,_)=>[O.length≤1000000,0≤findO O s],spec:=fun((_,_,_,O,_),s,_)=>(ordS O s,())}
def Z354 (a:List Ord) (b:Bt):=Gt a (findO a b) Z254
def Z363 (a:List Ord) (b:Bt):=(Z354 a b).2
def Z371 (a:List Ord) (b:Bt):=(Z363 a b).2
def Z373 (a:List Ord) (b:Bt):=(Z371 a b).2
def Z379 (a:List Ord) (b:Bt):=(Z373 a b).2
theorem ok198 [Sx.Dr]:Ok Tryz.prog 198 cGetOrd:=okW W42 Tryz.f198 na fun xx=>by
 obtain⟨⟨(tk:Int),(st:Int),(S:List Sta),(O:List Ord),(M:List Met),(X:List Out),(Q:List Per)⟩,(s:ByteArray),_⟩:=xx
 refine(by kernel_rfl:(Z51 O→0≤findO O s→(Z51 O∧Tw (Bd (findO O s) (Ln O)))∧((Z354 O s).1,(Z363 O s).1,(Z371 O s).1,E2 (Z373 O s).1,(Z379 O s).1,E2 (Z379 O s).2)=ordS O s)=_).mp ?_
 delta Z51 Z60 Z254 Z354 Z363 Z371 Z373 Z379 Bd Tw Ln Gt B0 E2
 exact fun h1 h2=>⟨⟨h1,⟨h2,findO_lt⟩,⟨h2,findO_lt⟩⟩,rfl⟩
abbrev W43 [Sx.Dr]:=W42.add ok198
def outS (X:List Out) (s:ByteArray):Out:=X.getD (findX X s).toNat out0
def cGetOut:Con:={args:=[aReg,aS],ress:=[(true,sOut)],owns:=[],pre:=fun((_,_,_,_,_,X,_),s,_)=>[X.length≤1000000,0≤findX X s],spec:=fun((_,_,_,_,_,X,_),s,_)=>(outS X s,())}
def Z257 (a:List Out) (b:Bt):=(Gt a (findX a b) Z134).2
theorem ok242 [Sx.Dr]:Ok Tryz.prog 242 cGetOut:=okW W43 Tryz.f242 na fun xx=>by
 obtain⟨⟨(tk:Int),(st:Int),(S:List Sta),(O:List Ord),(M:List Met),(X:List Out),(Q:List Per)⟩,(s:ByteArray),_⟩:=xx
 refine(by kernel_rfl:(Z50 X→0≤findX X s→(Z50 X∧Tw (Bd (findX X s) (Ln X)))∧((Gt X (findX X s) Z134).1,(Z257 X s).1,E2 (Z257 X s).2.1,(Z257 X s).2.2)=outS X s)=_).mp ?_
 delta Z50 Z134 Z257 Bd Tw Ln Gt B0 E2
 exact fun h1 h2=>⟨⟨h1,⟨h2,findX_lt⟩,⟨h2,findX_lt⟩⟩,rfl⟩
abbrev W44 [Sx.Dr]:=W43.add ok242
def perS (Q:List Per) (s:ByteArray):Per:=Q.getD (findP Q s).toNat per0
def cGetPer:Con:={args:=[aReg,aS],ress:=[(true,sPer)],owns:=[],pre:=fun((_,_,_,_,_,_,Q),s,_)=>[Q.length≤1000000,0≤findP Q s],spec:=fun((_,_,_,_,_,_,Q),s,_)=>(perS Q s,())}
theorem ok245 [Sx.Dr]:Ok Tryz.prog 245 cGetPer:=okW W44 Tryz.f245 na fun xx=>by
 obtain⟨⟨(tk:Int),(st:Int),(S:List Sta),(O:List Ord),(M:List Met),(X:List Out),(Q:List Per)⟩,(s:ByteArray),_⟩:=xx
 refine(by kernel_rfl:(Z41 Q→0≤findP Q s→(Z41 Q∧Tw (Bd (findP Q s) (Ln Q)))∧((Gt Q (findP Q s) (B0,B0,false)).1,E2 (Gt Q (findP Q s) (B0,B0,false)).2)=perS Q s)=_).mp ?_
 delta Z41 Bd Tw Ln Gt B0 E2
 exact fun h1 h2=>⟨⟨h1,⟨h2,findP_lt⟩,⟨h2,findP_lt⟩⟩,rfl⟩
abbrev W45 [Sx.Dr]:=W44.add ok245
def loadS:List Ord→ByteArray→Int→Int
 |[],_,_=>0
 |x::l,s,h=>(bif bif aboutB x s then countsB x h else false then x.2.2.2.2.1 else 0)+loadS l s h
theorem loadS_bd {S:List Sta} {s:ByteArray} {h:Int}:∀{O:List Ord},(∀x∈O,OrdOk S x)→0≤loadS O s h∧loadS O s h≤1000*O.length
 |[],_=>by simp[loadS]
 |x::l,hO=>by
  have:=loadS_bd (s:=s) (h:=h) (O:=l) fun y hy=>hO y (List.mem_cons_of_mem _ hy)
  have hx:=(hO x (List.mem_cons_self ..)).pow
  unfold loadS
  simp only[List.length_cons]
  cases(bif aboutB x s then countsB x h else false)<;>simp only[cond_true,cond_false]<;>omega
def cLoad:Con:={args:=[aReg,aS,aI],ress:=[I],owns:=[],pre:=fun(r,_)=>[RegOk r],spec:=fun((_,_,_,O,_),s,h,_)=>(loadS O s h,())}
abbrev annLoad (O:List Ord) (s:ByteArray) (h:Int):Ann:={X:=Nat×Int,σ:=fun(k,n)=>⟨1,[(1, .one (.str s)),(2, .one (.int .i64 h)),(7, .one (.int .i64 n)),(11, .one (.sl 0)),(12, .one (.int .i64 O.length)),(13, .one (.int .i64 k))],[(0, .imm 130 sOrd O)]⟩,inv:=fun(k,n)=>k≤O.length∧0≤n∧n≤1000*k∧n+loadS (O.drop k) s h=loadS O s h,mu:=fun(k,_)=>O.length-k}
def Z35 (a:Nat×Int):=Iw (Nc a.1+1)
def Z111 (a b:Nat×Int):=Nc a.1+1=Nc b.1
def Z119 (a b:Int) (c:List Sta) (d:List Ord) (e:List Met) (f:List Out) (g:List Per):=RegOk (a,b,c,d,e,f,g)
def Z328 (a:List Ord) (b:Nat×Int):=List.getD a b.1 Z254
def Z331 (a:List Ord) (b:Nat×Int):=(Z328 a b).2
def Z338 (a:List Ord) (b:Nat×Int):=(Z331 a b).1
def Z341 (a:List Ord) (b:Nat×Int):=(Z331 a b).2
def Z348 (a:List Ord) (b:Nat×Int):=(Z341 a b).1
def Z350 (a:List Ord) (b:Nat×Int):=(Z341 a b).2
def Z355 (a:List Ord) (b:Nat×Int):=(Z350 a b).2
def Z362 (a:List Ord) (b:Nat×Int):=(Z355 a b).1
def Z386 (a:Nat×Int) (b:List Ord):=a.2+Z362 b a
def Z549 (a:Nat×Int) (b:List Ord) (c:Bt) (d:Int):=a.1≤List.length b∧0≤a.2∧a.2≤1000*Nc a.1∧a.2+loadS (List.drop a.1 b) c d=loadS b c d
def Z662 (a:Nat×Int) (b:List Ord) (c:Bt) (d:Int) (e:Nat×Int):=Z549 a b c d∧List.length b-a.1<List.length b-e.1
def Z802 (a:List Ord) (b:Nat×Int):=((Z328 a b).1,Z338 a b,Z348 a b,E2 (Z350 a b).1,Z362 a b,E2 (Z355 a b).2)
theorem ok177 [Sx.Dr]:Ok Tryz.prog 177 cLoad:=okW W45 Tryz.f177 (fun xx=>ann0 (annLoad xx.1.2.2.2.1 xx.2.1 xx.2.2.1)) fun xx=>by
 obtain⟨⟨(tk:Int),(st:Int),(S:List Sta),(O:List Ord),(M:List Met),(X:List Out),(Q:List Per)⟩,(s:ByteArray),(h:Int),_⟩:=xx
 refine(by kernel_rfl:(Z119 tk st S O M X Q→∃(x:Nat×Int),Sf s (Si h (0=x.2∧Si (Ln O) (0=Nc x.1∧O=O)))∧Z549 x O s h∧∀(x:Nat×Int),Z549 x O s h→Br (decide (Nc x.1<Ln O)) (Tw (Bd (Nc x.1) (Ln O))∧Br (bif aboutB (Z802 O x) s then countsB (Z802 O x) h else false) (Iw (Z386 x O)∧Z35 x∧∃(y:Nat×Int),Sf s (Si h (Z386 x O=y.2∧Si (Ln O) (Z111 x y∧O=O)))∧Z662 y O s h x) (Z35 x∧∃(y:Nat×Int),Sf s (Si h (x.2=y.2∧Si (Ln O) (Z111 x y∧O=O)))∧Z662 y O s h x)) (x.2=loadS O s h))=_).mp ?_
 delta Z35 Z60 Z111 Z119 Z254 Z328 Z331 Z338 Z341 Z348 Z350 Z355 Z362 Z386 Z549 Z662 Z802 Br Iw Bd Tw Sf Si Ln Nc B0 E2
 intro hr
 have hO:∀x∈O,OrdOk S x:=hr.ord
 have nO:O.length≤32:=hr.nO
 refine⟨((0:Nat),(0:Int)),⟨rfl,rfl,rfl,rfl,rfl,rfl⟩,⟨Nat.zero_le _,by simp,by simp,by simp⟩,fun(x:Nat×Int) hk=>⟨fun h1=> ?_,fun h1=> ?_⟩⟩
 ·obtain⟨k,n⟩:=x
  have hlt:k<O.length:=by simpa using h1
  have ho:=hO _ (getD_mem (d:=ord0) hlt)
  have hp:=ho.pow
  dsimp only at hk⊢
  obtain⟨k1,k2,k3,k4⟩:=hk
  rw[drop_cons (d:=ord0) hlt,loadS] at k4
  refine⟨⟨by omega,by omega⟩,fun h2=> ?_,fun h2=> ?_⟩
  ·have h3:(bif aboutB (O.getD k ord0) s then countsB (O.getD k ord0) h else false)=true:=h2
   rw[h3,cond_true] at k4
   refine⟨⟨?_, ?_⟩,⟨by omega,by omega⟩,(k+1,n+(O.getD k ord0).2.2.2.2.1),⟨rfl,rfl,rfl,rfl,by simp,rfl⟩,⟨by simp only;omega,by simp only;omega,by simp only;omega,by simp only;omega⟩,by simp only;omega⟩
   ·show _≤n+(O.getD k ord0).2.2.2.2.1;omega
   ·show n+(O.getD k ord0).2.2.2.2.1≤_;omega
  ·have h3:(bif aboutB (O.getD k ord0) s then countsB (O.getD k ord0) h else false)=false:=h2
   rw[h3,cond_false] at k4
   refine⟨⟨by omega,by omega⟩,(k+1,n),⟨rfl,rfl,rfl,rfl,by simp,rfl⟩,⟨by simp only;omega,by simp only;omega,by simp only;omega,by simp only;omega⟩,by simp only;omega⟩
 ·obtain⟨k,n⟩:=x
  have hlt:¬k<O.length:=by simpa using h1
  simp only at hk
  have:k=O.length:=by omega
  rw[this,List.drop_length,loadS] at hk
  show n=_
  omega
abbrev W46 [Sx.Dr]:=W45.add ok177
theorem staS_ok {S:List Sta} {s:ByteArray} (h:∀x∈S,StaOk x) (hf:0≤findS S s):StaOk (staS S s):=by
 have:=findS_lt (l:=S) (s:=s)
 exact h _ (getD_mem (by omega))
def capS:List Out→ByteArray→Int→Int→Int
 |[],_,_,n=>n
 |x::l,s,h,n=>capS l s h (bif outB x s h then min n x.2.2.2 else n)
def roomS (S:List Sta) (O:List Ord) (X:List Out) (s:ByteArray) (h:Int):Int:=capS X s h (staS S s).2.1-loadS O s h
def cRoom:Con:={args:=[aReg,aS,aI],ress:=[I],owns:=[],pre:=fun(r,s,_)=>[RegOk r,0≤findS r.2.2.1 s],spec:=fun((_,_,S,O,_,X,_),s,h,_)=>(roomS S O X s h,())}
abbrev annRoom (tk st:Int) (S:List Sta) (O:List Ord) (M:List Met) (X:List Out) (Q:List Per) (s:ByteArray) (h:Int):Ann:={X:=Nat×Int,σ:=fun(k,n)=>⟨6,[(1, .one (.str s)),(2, .one (.int .i64 h)),(3, .one (.ptr 5 0)),(7, .one (.int .i64 n)),(15, .one (.sl 3)),(16, .one (.int .i64 X.length)),(17, .one (.int .i64 k))],[(0, .imm 127 sSta S),(1, .imm 130 sOrd O),(2, .imm 155 sMet M),(3, .imm 188 sOut X),(4, .imm 235 sPer Q),(5, .box 105 [.int .i64 tk, .int .i64 st, .sl 0, .sl 1, .sl 2, .sl 3, .sl 4])]⟩,inv:=fun(k,n)=>k≤X.length∧0≤n∧n≤1000∧capS (X.drop k) s h n=capS X s h (staS S s).2.1,mu:=fun(k,_)=>X.length-k}
def Z218 (a:List Out) (b:Nat×Int):=List.getD a b.1 Z134
def Z232 (a:List Out) (b:Nat×Int):=(Z218 a b).2.2
def Z543 (a:Nat×Int) (b:List Out) (c:Bt) (d:Int) (e:List Sta):=a.1≤List.length b∧0≤a.2∧a.2≤1000∧capS (List.drop a.1 b) c d a.2=capS b c d (staS e c).2.1
def Z547 (a:Nat×Int) (b:List Sta) (c:List Ord) (d:List Met) (e:List Out) (f:List Per) (g h:Int):=0=Nc a.1∧Sf b (Sf c (Sf d (Sf e (Sf f (Si g (h=h))))))
def Z584 (a b:Nat×Int) (c:List Sta) (d:List Ord) (e:List Met) (f:List Out) (g:List Per) (h i:Int):=Z111 a b∧Sf c (Sf d (Sf e (Sf f (Sf g (Si h (i=i))))))
def Z657 (a:Nat×Int) (b:List Out) (c:Bt) (d:Int) (e:List Sta) (f:Nat×Int):=Z543 a b c d e∧List.length b-a.1<List.length b-f.1
theorem ok91 [Sx.Dr]:Ok Tryz.prog 91 cRoom:=okW W46 Tryz.f91 (fun xx=>ann0 (annRoom xx.1.1 xx.1.2.1 xx.1.2.2.1 xx.1.2.2.2.1 xx.1.2.2.2.2.1 xx.1.2.2.2.2.2.1 xx.1.2.2.2.2.2.2 xx.2.1 xx.2.2.1)) fun xx=>by
 obtain⟨⟨(tk:Int),(st:Int),(S:List Sta),(O:List Ord),(M:List Met),(X:List Out),(Q:List Per)⟩,(s:ByteArray),(h:Int),_⟩:=xx
 refine(by kernel_rfl:(Z119 tk st S O M X Q→Z20 S s→(Z43 S∧Z20 S s)∧∃(x:Nat×Int),Sf s (Si h ((staS S s).2.1=x.2∧Si (Ln X) (Z547 x S O M X Q tk st)))∧Z543 x X s h S∧∀(x:Nat×Int),Z543 x X s h S→Br (decide (Nc x.1<Ln X)) (Tw (Bd (Nc x.1) (Ln X))∧Br (outB ((Z218 X x).1,(Z218 X x).2.1,E2 (Z232 X x).1,(Z232 X x).2) s h) (Z35 x∧∃(y:Nat×Int),Sf s (Si h (min x.2 (Z232 X x).2=y.2∧Si (Ln X) (Z584 x y S O M X Q tk st)))∧Z657 y X s h S x) (Z35 x∧∃(y:Nat×Int),Sf s (Si h (x.2=y.2∧Si (Ln X) (Z584 x y S O M X Q tk st)))∧Z657 y X s h S x)) ((Z119 tk st S O M X Q∧Iw (x.2-loadS O s h))∧x.2-loadS O s h=roomS S O X s h))=_).mp ?_
 delta Z20 Z35 Z43 Z111 Z119 Z134 Z218 Z232 Z543 Z547 Z584 Z657 Br Iw Bd Tw Sf Si Ln Nc B0 E2
 intro hr hf
 have hX:∀x∈X,OutOk S x:=hr.out
 have nO:O.length≤32:=hr.nO
 have nX:X.length≤16:=hr.nX
 have nS:S.length≤6:=hr.nS
 have hs:=staS_ok hr.sta hf
 have hl:=loadS_bd (s:=s) (h:=h) hr.ord
 refine⟨⟨by omega,hf⟩,((0:Nat),(staS S s).2.1),⟨rfl,rfl,rfl,rfl,rfl,rfl,rfl,rfl,rfl,rfl,rfl,rfl⟩,⟨Nat.zero_le _, ?_,hs.lim.2,by simp⟩,fun(x:Nat×Int) hk=>⟨fun h1=> ?_,fun h1=> ?_⟩⟩
 ·have:=hs.lim.1
  show 0≤(staS S s).2.1
  simp only at this
  omega
 ·obtain⟨k,n⟩:=x
  have hlt:k<X.length:=by simpa using h1
  have ho:=(hX _ (getD_mem (d:=out0) hlt)).rest
  dsimp only at hk⊢
  obtain⟨k1,k2,k3,k4⟩:=hk
  rw[drop_cons (d:=out0) hlt,capS] at k4
  refine⟨⟨by omega,by omega⟩,fun h2=> ?_,fun h2=> ?_⟩
  ·have h3:outB (X.getD k out0) s h=true:=h2
   rw[h3,cond_true] at k4
   exact⟨⟨by omega,by omega⟩,(k+1,min n (X.getD k out0).2.2.2),⟨rfl,rfl,rfl,rfl,by simp,rfl,rfl,rfl,rfl,rfl,rfl,rfl⟩,⟨by simp only;omega,by simp only;omega,by simp only;omega,k4⟩,by simp only;omega⟩
  ·have h3:outB (X.getD k out0) s h=false:=h2
   rw[h3,cond_false] at k4
   exact⟨⟨by omega,by omega⟩,(k+1,n),⟨rfl,rfl,rfl,rfl,by simp,rfl,rfl,rfl,rfl,rfl,rfl,rfl⟩,⟨by simp only;omega,by simp only;omega,by simp only;omega,k4⟩,by simp only;omega⟩
 ·obtain⟨k,n⟩:=x
  have hlt:¬k<X.length:=by simpa using h1
  simp only at hk
  have:k=X.length:=by omega
  rw[this,List.drop_length,capS] at hk
  unfold roomS
  have hl2:loadS O s h≤1000*(O.length:Int):=hl.2
  have hl1:0≤loadS O s h:=hl.1
  refine⟨⟨hr, ?_, ?_⟩, ?_⟩
  ·show _≤n-_;omega
  ·show n-_≤_;omega
  ·show n-_=_;omega
abbrev W47 [Sx.Dr]:=W46.add ok91
def hasS (r:Reg) (w:Int) (s:ByteArray):Bool:=bif w==0 then decide (0≤findS r.2.2.1 s) else bif w==1 then decide (0≤findO r.2.2.2.1 s) else bif w==2 then decide (0≤findX r.2.2.2.2.2.1 s) else bif w==3 then decide (0≤findP r.2.2.2.2.2.2 s) else true
def cHas:Con:={args:=[aReg,aI,aS],ress:=[Bo],owns:=[],pre:=fun(r,_)=>[RegOk r],spec:=fun(r,w,s,_)=>(hasS r w s,())}
theorem ok76 [Sx.Dr]:Ok Tryz.prog 76 cHas:=okW W47 Tryz.f76 na fun xx=>by
 obtain⟨⟨(tk:Int),(st:Int),(S:List Sta),(O:List Ord),(M:List Met),(X:List Out),(Q:List Per)⟩,(w:Int),(s:ByteArray),_⟩:=xx
 refine(by kernel_rfl:(Z119 tk st S O M X Q→Br (w==0) (Z43 S∧decide (0≤findS S s)=hasS (tk,st,S,O,M,X,Q) w s) (Br (w==1) (Z51 O∧decide (0≤findO O s)=hasS (tk,st,S,O,M,X,Q) w s) (Br (w==2) (Z50 X∧decide (0≤findX X s)=hasS (tk,st,S,O,M,X,Q) w s) (Br (w==3) (Z41 Q∧decide (0≤findP Q s)=hasS (tk,st,S,O,M,X,Q) w s) (true=hasS (tk,st,S,O,M,X,Q) w s)))))=_).mp ?_
 delta Z41 Z43 Z50 Z51 Z119 Br
 intro hr
 have nS:S.length≤6:=hr.nS
 have nO:O.length≤32:=hr.nO
 have nX:X.length≤16:=hr.nX
 have nQ:Q.length≤16:=hr.nQ
 unfold hasS
 refine⟨fun h=> ?_,fun h=> ?_⟩
 ·rw[h];exact⟨by omega,rfl⟩
 rw[h]
 refine⟨fun h=> ?_,fun h=> ?_⟩
 ·rw[h];exact⟨by omega,rfl⟩
 rw[h]
 refine⟨fun h=> ?_,fun h=> ?_⟩
 ·rw[h];exact⟨by omega,rfl⟩
 rw[h]
 refine⟨fun h=> ?_,fun h=> ?_⟩
 ·rw[h];exact⟨by omega,rfl⟩
 rw[h];rfl
abbrev W48 [Sx.Dr]:=W47.add ok76
def met0:Met:=(bnil,0,0,0)
def cIsM:Con:={args:=[.val true sMet, .ref 9 .str, .ref 3 sI],ress:=[Bo],owns:=[],pre:=fun _=>[],spec:=fun(x,s,h,_)=>(bif x.1.toList==s.toList then x.2.1==h else false,())}
theorem ok142 [Sx.Dr]:Ok Tryz.prog 142 cIsM:=okW W48 Tryz.f142 na fun xx=>by
 obtain⟨⟨(a:ByteArray),(b:Int),(c:Int),(d:Int)⟩,(s:ByteArray),(h:Int),_⟩:=xx
 refine(by kernel_rfl:((Lb a s&&(b==h&&(c==c&&(d==d&&true))))=bif Lb a s then b==h else false)=_).mp ?_
 delta Lb
 cases a.toList==s.toList<;>cases b==h<;>simp
abbrev W49 [Sx.Dr]:=W48.add ok142
def Z110:=(B0,Z60)
def Z192 (a:List Met) (b:Nat):=List.getD a b Z110
def Z507 (a:Nat) (b:List Met) (c:Met×Unit→Bool):=a≤List.length b∧idxS (fun(x:Met)=>c (x,PUnit.unit)) b 0=idxS (fun(x:Met)=>c (x,PUnit.unit)) (List.drop a b) a
def Z654 (a:List Met) (b:Nat):=(((Z192 a b).1,(Z192 a b).2.1,E2 (Z192 a b).2.2),PUnit.unit)
theorem ok141 [Sx.Dr]:Ok Tryz.prog 141 (cIdx 155 sMet true):=okW W49 Tryz.f141 (fun xx=>ann0 (annIdx 155 sMet true xx.1 xx.2.1.1 xx.2.1.2)) fun xx=>by
 obtain⟨(l:List Met),⟨(q:Met×Unit→List Prop),(f:Met×Unit→Bool)⟩,_⟩:=xx
 refine(by kernel_rfl:(List.length l≤1000000→(∀(x:Met),x∈l→conj (q (x,PUnit.unit)))→∃(x:Nat),Si (Ln l) (0=Nc x∧Sf l ((fun(x:Met×PUnit)=>q x)=q∧(fun(x:Met×PUnit)=>f x)=f))∧Z507 x l f∧∀(x:Nat),Z507 x l f→Br (decide (Nc x<Ln l)) (T2 (Bd (Nc x) (Ln l)) (conj (q (Z654 l x)))∧Br (f (Z654 l x)) (Nc x=idxS (fun(x:Met)=>f (x,PUnit.unit)) l 0) (Z16 x∧∃(y:Nat),Si (Ln l) (Z94 x y∧Sf l ((fun(x:Met×PUnit)=>q x)=q∧(fun(x:Met×PUnit)=>f x)=f))∧Z507 y l f∧List.length l-y<List.length l-x)) (Z64=idxS (fun(x:Met)=>f (x,PUnit.unit)) l 0))=_).mp ?_
 delta Z16 Z60 Z64 Z94 Z110 Z192 Z507 Z654 Br Iw Bd T2 Sf Si Ln Nc B0 E2
 intro hb hq
 refine⟨(0:Nat),⟨rfl,rfl,rfl,rfl,rfl⟩,⟨Nat.zero_le _,rfl⟩,fun(k:Nat) hk=>⟨fun h=> ?_,fun h=> ?_⟩⟩
 ·have hlt:k<l.length:=by simpa using h
  have hd:=idxS_drop (p:=fun x=>f (x,())) (d:=met0) hlt
  refine⟨⟨by omega,by omega,hq (l.getD k met0) (getD_mem hlt)⟩,fun h1=> ?_,fun h1=>⟨by omega,(k+1:Nat),⟨rfl,rfl,rfl,by simp,rfl⟩,⟨by omega, ?_⟩,by omega⟩⟩
  ·rw[hk.2,hd,if_pos (show f (l.getD k met0,())=true from h1)]
  ·rw[hk.2,hd,if_neg (by rw[show f (l.getD k met0,())=false from h1];simp)]
 ·have hlt:¬k<l.length:=by simpa using h
  have:k=l.length:=by omega
  rw[hk.2,this,List.drop_length];rfl
abbrev W50 [Sx.Dr]:=W49.add ok141
def cMeter:Con:={args:=[aReg,aS,aI],ress:=[I],owns:=[],pre:=fun(r,_)=>[RegOk r],spec:=fun((_,_,_,_,M,_),s,h,_)=>(meterS M s h,())}
theorem ok73 [Sx.Dr]:Ok Tryz.prog 73 cMeter:=okW W50 Tryz.f73 na fun xx=>by
 obtain⟨⟨(tk:Int),(st:Int),(S:List Sta),(O:List Ord),(M:List Met),(X:List Out),(Q:List Per)⟩,(s:ByteArray),(h:Int),_⟩:=xx
 refine(by kernel_rfl:(Z119 tk st S O M X Q→(List.length M≤1000000∧∀(x:Met),x∈M→True)∧idxS (fun(x:Met)=>match Lb x.1 s with|true=>x.2.1==h|false=>false) M 0=meterS M s h)=_).mp ?_
 delta Z119 Lb
 intro hr
 have nM:M.length≤10000:=hr.nM
 exact⟨⟨by omega,fun _ _=>trivial⟩,rfl⟩
abbrev W51 [Sx.Dr]:=W50.add ok73
def spanE (e:Ev):Int×Int:=(e.2.2.2.1.getD 1 0,e.2.2.2.1.getD 2 0)
def cSpan:Con:={args:=[aEv],ress:=[(true,sSpan)],owns:=[],pre:=fun(e,_)=>[3≤e.2.2.2.1.length],spec:=fun(e,_)=>(spanE e,())}
def Z23 (a:Li):=Bd 1 (Ln a)
def Z42 (a:Int) (b:Bt) (c:Ls) (d:Li) (e:Bt):=spanE (a,b,c,d,e)
def Z49 (a:Li):=3≤List.length a
def Z91 (a:Li):=List.getD a 1 0
def Z93 (a:Li):=List.getD a 2 0
theorem ok238 [Sx.Dr]:Ok Tryz.prog 238 cSpan:=okW W51 Tryz.f238 na fun xx=>by
 obtain⟨⟨(n:Int),(k:ByteArray),(ns:List ByteArray),(vs:List Int),(t:ByteArray)⟩,_⟩:=xx
 refine(by kernel_rfl:(Z49 vs→T2 (Z23 vs) (Tw (Bd 2 (Ln vs)))∧(Z91 vs,Z93 vs)=Z42 n k ns vs t)=_).mp ?_
 delta Z23 Z42 Z49 Z91 Z93 Bd T2 Tw Ln
 intro h
 exact⟨⟨⟨by omega,by omega⟩,⟨by omega,by omega⟩,⟨by omega,by omega⟩,⟨by omega,by omega⟩⟩,rfl⟩
abbrev W52 [Sx.Dr]:=W51.add ok238
abbrev EvV (e:Ev):Prop:=∀v∈e.2.2.2.1,0≤v∧v≤999999999
def spanErr (e:Ev):Int:=bif (bif (bif decide ((spanE e).1<e.2.2.2.1.getD 0 0) then true else decide ((spanE e).2≤(spanE e).1)) then true else decide (48<(spanE e).2-(spanE e).1)) then 14 else 0
def cChkSpan:Con:={args:=[aEv],ress:=[I],owns:=[],pre:=fun(e,_)=>[3≤e.2.2.2.1.length,EvV e],spec:=fun(e,_)=>(spanErr e,())}
def Z22 (a:Li):=Bd 0 (Ln a)
def Z86 (a:Li):=List.getD a 0 0
def Z595 (a:Int) (b:Bt) (c:Ls) (d:Li) (e:Bt):=bif decide ((Z42 a b c d e).1<Z86 d) then true else decide ((Z42 a b c d e).2≤(Z42 a b c d e).1)
theorem ok236 [Sx.Dr]:Ok Tryz.prog 236 cChkSpan:=okW W52 Tryz.f236 na fun xx=>by
 obtain⟨⟨(n:Int),(k:ByteArray),(ns:List ByteArray),(vs:List Int),(t:ByteArray)⟩,_⟩:=xx
 refine(by kernel_rfl:(Z49 vs→EvV (n,k,ns,vs,t)→Z49 vs∧T2 (Z22 vs) (Z595 n k ns vs t=false→Iw ((Z42 n k ns vs t).2-(Z42 n k ns vs t).1))∧(bif bif Z595 n k ns vs t then true else decide (48<(Z42 n k ns vs t).2-(Z42 n k ns vs t).1) then 14 else 0)=spanErr (n,k,ns,vs,t))=_).mp ?_
 delta Z22 Z42 Z49 Z86 Z595 Iw Bd T2 Ln
 intro h hv
 refine⟨h,⟨⟨by omega,by omega⟩,⟨by omega,by omega⟩,fun _=> ?_⟩,rfl⟩
 have h1:=hv (vs.getD 1 0) (getD_mem (show 1<vs.length by omega))
 have h2:=hv (vs.getD 2 0) (getD_mem (show 2<vs.length by omega))
 unfold spanE
 simp only
 omega
abbrev W53 [Sx.Dr]:=W52.add ok236
abbrev Gap:=ByteArray×Int
abbrev sGap:Sch:= .prod .str sI
def missH (M:List Met) (u:Int) (x:Ord):Int→Nat→List Gap
 |_,0=>[]
 |h,n+1=>(bif countsB x h&&(decide (h<u)&&decide (meterS M x.1 h<0)) then[(x.1,h)] else[])++missH M u x (h+1) n
def missO (M:List Met) (u:Int) (x:Ord):List Gap:=missH M u x x.2.2.2.1.1 (x.2.2.2.1.2-x.2.2.2.1.1).toNat
def missS (M:List Met) (u:Int):List Ord→List Gap
 |[]=>[]
 |x::l=>missO M u x++missS M u l
def cMiss:Con:={args:=[aReg,aI],ress:=[(false, .list 200 sGap)],owns:=[true],pre:=fun(r,_)=>[RegOk r],spec:=fun((_,_,_,O,M,_),u,_)=>(missS M u O,())}
abbrev annMiss (tk st:Int) (S:List Sta) (O:List Ord) (M:List Met) (X:List Out) (Q:List Per) (u:Int):Ann:={X:=Nat×List Gap,σ:=fun(k,o)=>⟨9,[(2, .one (.ptr 5 0)),(3, .one (.ptr 6 0)),(5, .one (.ptr 7 0)),(10, .one (.sl 1)),(11, .one (.int .i64 O.length)),(12, .one (.int .i64 k))],[(0, .imm 127 sSta S),(1, .imm 130 sOrd O),(2, .imm 155 sMet M),(3, .imm 188 sOut X),(4, .imm 235 sPer Q),(5, .box 105 [.int .i64 tk, .int .i64 st, .sl 0, .sl 1, .sl 2, .sl 3, .sl 4]),(6, .box 3 [.int .i64 u]),(7, .box 50 [.sl 8]),(8, .own 200 sGap o)]⟩,inv:=fun(k,o)=>k≤O.length∧o.length≤48*k∧o++missS M u (O.drop k)=missS M u O,mu:=fun(k,_)=>O.length-k}
abbrev bxO (x:Ord):List SC:=[.str x.1, .str x.2.1, .str x.2.2.1, .int .i64 x.2.2.2.1.1, .int .i64 x.2.2.2.1.2, .int .i64 x.2.2.2.2.1, .int .i64 x.2.2.2.2.2.1, .int .i64 x.2.2.2.2.2.2]
def spanN (x:Ord):Nat:=(x.2.2.2.1.2-x.2.2.2.1.1).toNat
abbrev annMissI (tk st:Int) (S:List Sta) (O:List Ord) (M:List Met) (X:List Out) (Q:List Per) (u:Int):Ann:={X:=Nat×List Gap×Nat,σ:=fun(k,o,j)=>⟨16,[(0, .one (.fv 13)),(1, .one (.ptr 11 0)),(3, .one (.int .i64 ((O.getD k ord0).2.2.2.1.1+j)))],[(0, .imm 127 sSta S),(1, .imm 130 sOrd O),(2, .imm 155 sMet M),(3, .imm 188 sOut X),(4, .imm 235 sPer Q),(5, .box 105 [.int .i64 tk, .int .i64 st, .sl 0, .sl 1, .sl 2, .sl 3, .sl 4]),(6, .box 3 [.int .i64 u]),(7, .box 50 [.sl 15]),(9, .box 130 (bxO (O.getD k ord0))),(11, .box 130 (bxO (O.getD k ord0))),(13, .yld .ready),(14, .sus [(2, .one (.ptr 5 0)),(3, .one (.ptr 6 0)),(5, .one (.ptr 7 0)),(7, .one (.ptr 9 0)),(10, .one (.sl 1)),(11, .one (.int .i64 O.length)),(12, .one (.int .i64 k))]),(15, .own 200 sGap o)]⟩,inv:=fun(k,o,j)=>RegOk (tk,st,S,O,M,X,Q)∧k<O.length∧j≤spanN (O.getD k ord0)∧o.length≤48*k+j∧o++(missH M u (O.getD k ord0) ((O.getD k ord0).2.2.2.1.1+j) (spanN (O.getD k ord0)-j)++missS M u (O.drop (k+1)))=missS M u O,mu:=fun(k,_,j)=>spanN (O.getD k ord0)-j,rel:=some fun x y=>y.1=x.1}
theorem bif_and (a b:Bool):(bif a then b else false)=(a&&b):=by cases a<;>rfl
def Z0 (a:List Ord) (b:Nat×List (Bt×Int)×Nat):=List.getD a b.1 ord0
def Z3 (a:List Ord) (b:Nat×List Gap×Nat):=List.getD a b.1 ord0
def Z65 (a:List Ord) (b:Nat×List Gap×Nat):=(Z3 a b).2.2.2.1
def Z66 (a:List Ord) (b:Nat×List Gap×Nat):=(Z3 a b).2.2.2.2
def Z67 (a:List Ord) (b:Nat×List (Bt×Int)×Nat):=(Z0 a b).2.2.2.2
def Z74 (a:List Ord) (b:Nat×List (Bt×Int)×Nat):=(Z0 a b).2.2.2.1
def Z175 (a:List Ord) (b:Nat×List Gap×Nat):=(Z65 a b).1+Nc b.2.2
def Z203 (a:List Ord) (b:Nat×List Gap×Nat) (c:Nat×List (Bt×Int)×Nat):=(Z3 a b).1=(Z0 a c).1
def Z213 (a:List Ord) (b:Nat×List Gap×Nat) (c:Nat×List (Bt×Int)×Nat):=(Z3 a b).2.1=(Z0 a c).2.1
def Z221 (a:List Ord) (b:Nat×List Gap×Nat):=Z175 a b+1
def Z229 (a:List Ord) (b:Nat×List Gap×Nat) (c:Nat×List (Bt×Int)×Nat):=(Z3 a b).2.2.1=(Z0 a c).2.2.1
def Z258 (a:List Ord) (b:Nat×List Gap×Nat) (c:Nat×List (Bt×Int)×Nat):=(Z65 a b).2=(Z74 a c).2
def Z259 (a:List Ord) (b:Nat×List Gap×Nat) (c:Nat×List (Bt×Int)×Nat):=(Z66 a b).1=(Z67 a c).1
def Z260 (a:List Ord) (b:Nat×List Gap×Nat) (c:Nat×List (Bt×Int)×Nat):=(Z65 a b).1=(Z74 a c).1
def Z277 (a:List Ord) (b:Nat×List Gap×Nat) (c:Nat×List (Bt×Int)×Nat):=(Z66 a b).2.1=(Z67 a c).2.1
def Z280 (a:List Ord) (b:Nat×List Gap×Nat) (c:Nat×List (Bt×Int)×Nat):=(Z66 a b).2.2=(Z67 a c).2.2
def Z326 (a:List Ord) (b:Nat×List Gap):=List.getD a b.1 Z254
def Z333 (a:List Ord) (b:Nat×List Gap):=(Z326 a b).2
def Z337 (a:List Ord) (b:Nat×List Gap):=(Z333 a b).2
def Z349 (a:List Ord) (b:Nat×List Gap):=(Z337 a b).2
def Z351 (a:List Ord) (b:Nat×List Gap):=(Z349 a b).2
def Z352 (a:List Ord) (b:Nat×List Gap):=(Z349 a b).1
def Z360 (a:List Ord) (b:Nat×List Gap):=(Z351 a b).2
def Z366 (a:List Ord) (b:Nat×List Gap):=(Z352 a b).1
def Z417 (a:List Ord) (b:Nat×List Gap×Nat) (c:Nat×List (Bt×Int)×Nat):=Z221 a b=(Z74 a c).1+Nc c.2.2
def Z425 (a:Nat×List Gap×Nat) (b:List Ord):=a.2.1++[((Z3 b a).1,Z175 b a)]
def Z432 (a:List Ord) (b:Nat×List Gap) (c:Nat×List (Bt×Int)×Nat):=(Z326 a b).1=(Z0 a c).1
def Z456 (a:List Ord) (b:Nat×List Gap) (c:Nat×List (Bt×Int)×Nat):=(Z333 a b).1=(Z0 a c).2.1
def Z496 (a:List Ord) (b:Nat×List Gap) (c:Nat×List (Bt×Int)×Nat):=(Z337 a b).1=(Z0 a c).2.2.1
def Z513 (a:Nat×List (Bt×Int)) (b:List Ord) (c:List Met) (d:Int):=a.1≤List.length b∧List.length a.2≤48*a.1∧a.2++missS c d (List.drop a.1 b)=missS c d b
def Z525 (a:List Ord) (b:Nat×List Gap) (c:Nat×List (Bt×Int)×Nat):=(Z352 a b).2=(Z74 a c).2
def Z527 (a:List Ord) (b:Nat×List Gap) (c:Nat×List (Bt×Int)×Nat):=(Z351 a b).1=(Z67 a c).1
def Z528 (a:List Ord) (b:Nat×List Gap) (c:Nat×List (Bt×Int)×Nat):=Z366 a b=(Z74 a c).1
def Z536 (a:List Ord) (b:Nat×List Gap) (c:Nat×List (Bt×Int)×Nat):=(Z360 a b).1=(Z67 a c).2.1
def Z537 (a:List Ord) (b:Nat×List Gap) (c:Nat×List (Bt×Int)×Nat):=(Z360 a b).2=(Z67 a c).2.2
def Z647 (a:Nat×List (Bt×Int)) (b:List Ord) (c:List Met) (d:Int) (e:Nat×List Gap):=Z513 a b c d∧List.length b-a.1<List.length b-e.1
def Z773 (a b:Int) (c:List Sta) (d:List Ord) (e:List Met) (f:List Out) (g:List Per) (h:Nat×List (Bt×Int)×Nat) (i:Int):=Z119 a b c d e f g∧h.1<List.length d∧h.2.2≤spanN (List.getD d h.1 ord0)∧List.length h.2.1≤48*h.1+h.2.2∧h.2.1++(missH e i (List.getD d h.1 ord0) ((List.getD d h.1 ord0).2.2.2.1.1+Nc h.2.2) (spanN (List.getD d h.1 ord0)-h.2.2)++missS e i (List.drop (h.1+1) d))=missS e i d
def Z791 (a:Nat×List Gap×Nat) (b:List Ord) (c:List Sta) (d:List Met) (e:List Out) (f:List Per) (g h i:Int) (j:Nat×List Gap):=Iw (Nc a.1+1)∧∃(y:Nat×List (ByteArray×Int)),Si (Ln b) (Nc a.1+1=Nc y.1∧Sf c (Sf b (Sf d (Sf e (Sf f (Si g (Si h (Si i (a.2.1=y.2)))))))))∧Z647 y b d i j
def Z795 (a b:Int) (c:List Sta) (d:List Ord) (e:List Met) (f:List Out) (g:List Per) (h:Nat×List (Bt×Int)×Nat) (i:Int) (j:Nat×List (Bt×Int)×Nat) (k:Nat×List Gap×Nat):=(Z773 a b c d e f g h i∧h.1=j.1)∧spanN (List.getD d h.1 ord0)-h.2.2<spanN (List.getD d k.1 ord0)-k.2.2
def Z928 (a:Nat×List Gap×Nat) (b:List Ord) (c:List Sta) (d:List Met) (e:List Out) (f:List Per) (g h i:Int) (j:Nat×List Gap) (k:Nat×List (Bt×Int)×Nat):=Br false (Z791 a b c d e f g h i j) (Iw (Z221 b a)∧∃(y:Nat×List (ByteArray×Int)×Nat),(Z417 b a y∧Sf c (Sf b (Sf d (Sf e (Sf f (Si g (Si h (Si i (Z203 b a y∧Z213 b a y∧Z229 b a y∧Z260 b a y∧Z258 b a y∧Z259 b a y∧Z277 b a y∧Z280 b a y∧Z203 b a y∧Z213 b a y∧Z229 b a y∧Z260 b a y∧Z258 b a y∧Z259 b a y∧Z277 b a y∧Z280 b a y∧Si (Ln b) (Nc a.1=Nc y.1∧a.2.1=y.2.1))))))))))∧Z795 g h c b d e f y i k a)
theorem ok92 [Sx.Dr]:Ok Tryz.prog 92 cMiss:=okWG W53 Tryz.f92 (lib_ok (l:=([(178,Tryz.f178),(247,Tryz.f247)]:List (Nat×Func))) (List.forall_mem_cons.2 ⟨by kernel_rfl,List.forall_mem_cons.2 ⟨by kernel_rfl,by simp⟩⟩)) (fun xx=>ann0 (annMiss xx.1.1 xx.1.2.1 xx.1.2.2.1 xx.1.2.2.2.1 xx.1.2.2.2.2.1 xx.1.2.2.2.2.2.1 xx.1.2.2.2.2.2.2 xx.2.1)) (fun xx=>fun f id=>if f=247 then some (annMissI xx.1.1 xx.1.2.1 xx.1.2.2.1 xx.1.2.2.2.1 xx.1.2.2.2.2.1 xx.1.2.2.2.2.2.1 xx.1.2.2.2.2.2.2 xx.2.1) else none) fun xx=>by
 obtain⟨⟨(tk:Int),(st:Int),(S:List Sta),(O:List Ord),(M:List Met),(X:List Out),(Q:List Per)⟩,(u:Int),_⟩:=xx
 refine(by kernel_rfl:(Z119 tk st S O M X Q→∃(x:Nat×List (ByteArray×Int)),Si (Ln O) (0=Nc x.1∧Sf S (Sf O (Sf M (Sf X (Sf Q (Si tk (Si st (Si u (List.length x.2=0)))))))))∧Z513 x O M u∧∀(x:Nat×List Gap),x.1≤List.length O∧List.length x.2≤48*x.1∧x.2++missS M u (List.drop x.1 O)=missS M u O→Br (decide (Nc x.1<Ln O)) (Tw (Bd (Nc x.1) (Ln O))∧∃(x0:Nat×List (ByteArray×Int)×Nat),(Z366 O x=(Z74 O x0).1+Nc x0.2.2∧Sf S (Sf O (Sf M (Sf X (Sf Q (Si tk (Si st (Si u (Z432 O x x0∧Z456 O x x0∧Z496 O x x0∧Z528 O x x0∧Z525 O x x0∧Z527 O x x0∧Z536 O x x0∧Z537 O x x0∧Z432 O x x0∧Z456 O x x0∧Z496 O x x0∧Z528 O x x0∧Z525 O x x0∧Z527 O x x0∧Z536 O x x0∧Z537 O x x0∧Si (Ln O) (Nc x.1=Nc x0.1∧x.2=x0.2.1))))))))))∧(Z773 tk st S O M X Q x0 u∧x0.1=x0.1)∧∀(x_1:Nat×List Gap×Nat),(Z119 tk st S O M X Q∧x_1.1<List.length O∧x_1.2.2≤spanN (List.getD O x_1.1 ord0)∧List.length x_1.2.1≤48*x_1.1+x_1.2.2∧x_1.2.1++(missH M u (List.getD O x_1.1 ord0) ((List.getD O x_1.1 ord0).2.2.2.1.1+Nc x_1.2.2) (spanN (List.getD O x_1.1 ord0)-x_1.2.2)++missS M u (List.drop (x_1.1+1) O))=missS M u O)∧x_1.1=x0.1→Br (decide (Z175 O x_1<(Z65 O x_1).2)) (Br (countsB ((Z3 O x_1).1,(Z3 O x_1).2.1,(Z3 O x_1).2.2.1,E2 (Z65 O x_1),(Z66 O x_1).1,E2 (Z66 O x_1).2) (Z175 O x_1)) ((decide (Z175 O x_1<u)=true→Z119 tk st S O M X Q)∧Br (bif decide (Z175 O x_1<u) then decide (meterS M (Z3 O x_1).1 (Z175 O x_1)<0) else false) ((List.length x_1.2.1+1)*24≤140737488355328∧Br false (Iw (Nc x_1.1+1)∧∃(y:Nat×List (ByteArray×Int)),Si (Ln O) (Nc x_1.1+1=Nc y.1∧Sf S (Sf O (Sf M (Sf X (Sf Q (Si tk (Si st (Si u (Z425 x_1 O=y.2)))))))))∧Z647 y O M u x) (Iw (Z221 O x_1)∧∃(y:Nat×List (ByteArray×Int)×Nat),(Z417 O x_1 y∧Sf S (Sf O (Sf M (Sf X (Sf Q (Si tk (Si st (Si u (Z203 O x_1 y∧Z213 O x_1 y∧Z229 O x_1 y∧Z260 O x_1 y∧Z258 O x_1 y∧Z259 O x_1 y∧Z277 O x_1 y∧Z280 O x_1 y∧Z203 O x_1 y∧Z213 O x_1 y∧Z229 O x_1 y∧Z260 O x_1 y∧Z258 O x_1 y∧Z259 O x_1 y∧Z277 O x_1 y∧Z280 O x_1 y∧Si (Ln O) (Nc x_1.1=Nc y.1∧Z425 x_1 O=y.2.1))))))))))∧Z795 tk st S O M X Q y u x0 x_1)) (Z928 x_1 O S M X Q tk st u x x0)) (Z928 x_1 O S M X Q tk st u x x0)) (Z791 x_1 O S M X Q tk st u x)) (Sf true (x.2=missS M u O)))=_).mp ?_
 delta Z0 Z3 Z60 Z65 Z66 Z67 Z74 Z119 Z175 Z203 Z213 Z221 Z229 Z254 Z258 Z259 Z260 Z277 Z280 Z326 Z333 Z337 Z349 Z351 Z352 Z360 Z366 Z417 Z425 Z432 Z456 Z496 Z513 Z525 Z527 Z528 Z536 Z537 Z647 Z773 Z791 Z795 Z928 Br Iw Bd Tw Sf Si Ln Nc B0 E2
 intro hr
 have nO:O.length≤32:=hr.nO
 refine⟨((0:Nat),[]),by(repeat' first|exact rfl|apply And.intro|exact(Int.add_zero _).symm|exact Int.add_assoc _ _ _|omega|(dsimp only;push_cast;omega)),⟨Nat.zero_le _,Nat.zero_le _,rfl⟩,fun(x:Nat×List Gap) hk=>⟨fun h1=> ?_,fun h1=> ?_⟩⟩
 ·obtain⟨k,o⟩:=x
  have hlt:k<O.length:=by simpa using h1
  obtain⟨k1,k2,k3⟩:=hk
  dsimp only at k1 k2 k3
  rw[drop_cons (d:=ord0) hlt,missS,missO] at k3
  refine⟨⟨⟨by dsimp only;omega,by dsimp only;omega⟩,by dsimp only;omega,by dsimp only;omega⟩,(k,o,(0:Nat)), ?_,⟨⟨hr,hlt,Nat.zero_le _,by simpa using k2, ?_⟩,rfl⟩,fun(y:Nat×List Gap×Nat) hy=> ?_⟩
  ·repeat' first|exact rfl|apply And.intro|exact(Int.add_zero _).symm|exact Int.add_assoc _ _ _|omega|(dsimp only;push_cast;omega)
  ·simpa[spanN] using k3
  obtain⟨k',o,j⟩:=y
  obtain⟨⟨_,i1,i2,i3,i4⟩,hkk⟩:=hy
  have hkk:k'=k:=hkk
  subst hkk
  dsimp only at i1 i2 i3 i4
  have ho:SpanOk (O.getD k' ord0).2.2.2.1:=(hr.ord (O.getD k' ord0) (getD_mem hlt)).span
  have hn:spanN (O.getD k' ord0)≤48∧(spanN (O.getD k' ord0):Int)=(O.getD k' ord0).2.2.2.1.2-(O.getD k' ord0).2.2.2.1.1:=by
   have:=ho.mid;have:=ho.len
   unfold spanN
   constructor<;>omega
  have b1:=ho.lo
  have b2:=ho.hi
  refine⟨fun h2=> ?_,fun h2=> ?_⟩
  ·have h2:(O.getD k' ord0).2.2.2.1.1+(j:Int)<(O.getD k' ord0).2.2.2.1.2:=of_decide_eq_true h2
   have hj:spanN (O.getD k' ord0)-j=(spanN (O.getD k' ord0)-(j+1))+1:=by omega
   rw[hj,missH] at i4
   have hB: -9223372036854775808≤(O.getD k' ord0).2.2.2.1.1+(j:Int)+1∧(O.getD k' ord0).2.2.2.1.1+(j:Int)+1≤9223372036854775807:=by omega
   have hc:(O.getD k' ord0).2.2.2.1.1+(j:Int)+1=(O.getD k' ord0).2.2.2.1.1+((j+1:Nat):Int):=by omega
   refine⟨fun h3=>⟨fun _=>hr,fun h4=>⟨by dsimp only;omega,fun f=>(by cases f),fun _=>⟨hB,(k',o++[((O.getD k' ord0).1,(O.getD k' ord0).2.2.2.1.1+(j:Int))],j+1), ?_,⟨⟨hr,hlt,by dsimp only;omega,by simp;omega, ?_⟩,rfl⟩,by dsimp only;omega⟩⟩,fun h4=>⟨fun f=>(by cases f),fun _=>⟨hB,(k',o,j+1), ?_,⟨⟨hr,hlt,by dsimp only;omega,by dsimp only;omega, ?_⟩,rfl⟩,by dsimp only;omega⟩⟩⟩,fun h3=>⟨fun f=>(by cases f),fun _=>⟨hB,(k',o,j+1), ?_,⟨⟨hr,hlt,by dsimp only;omega,by dsimp only;omega, ?_⟩,rfl⟩,by dsimp only;omega⟩⟩⟩
   ·repeat' first|exact rfl|apply And.intro|exact(Int.add_zero _).symm|exact Int.add_assoc _ _ _|omega|(dsimp only;push_cast;omega)
   ·have h3:countsB (O.getD k' ord0) ((O.getD k' ord0).2.2.2.1.1+(j:Int))=true:=h3
    have h4:(bif decide ((O.getD k' ord0).2.2.2.1.1+(j:Int)<u) then decide (meterS M (O.getD k' ord0).1 ((O.getD k' ord0).2.2.2.1.1+(j:Int))<0) else false)=true:=h4
    rw[bif_and] at h4
    rw[h3,Bool.true_and,h4,hc] at i4
    rw[←i4]
    simp
   ·repeat' first|exact rfl|apply And.intro|exact(Int.add_zero _).symm|exact Int.add_assoc _ _ _|omega|(dsimp only;push_cast;omega)
   ·have h3:countsB (O.getD k' ord0) ((O.getD k' ord0).2.2.2.1.1+(j:Int))=true:=h3
    have h4:(bif decide ((O.getD k' ord0).2.2.2.1.1+(j:Int)<u) then decide (meterS M (O.getD k' ord0).1 ((O.getD k' ord0).2.2.2.1.1+(j:Int))<0) else false)=false:=h4
    rw[bif_and] at h4
    rw[h3,Bool.true_and,h4,hc] at i4
    rw[←i4]
    simp
   ·repeat' first|exact rfl|apply And.intro|exact(Int.add_zero _).symm|exact Int.add_assoc _ _ _|omega|(dsimp only;push_cast;omega)
   ·have h3:countsB (O.getD k' ord0) ((O.getD k' ord0).2.2.2.1.1+(j:Int))=false:=h3
    rw[h3,hc] at i4
    rw[←i4]
    simp
  ·have h2:¬(O.getD k' ord0).2.2.2.1.1+(j:Int)<(O.getD k' ord0).2.2.2.1.2:=of_decide_eq_false h2
   have hj:spanN (O.getD k' ord0)-j=0:=by omega
   rw[hj,missH] at i4
   refine⟨⟨by dsimp only;omega,by dsimp only;omega⟩,(k'+1,o), ?_,⟨by dsimp only;omega,by dsimp only;omega,by simpa using i4⟩,by dsimp only;omega⟩
   repeat' first|exact rfl|apply And.intro|exact(Int.add_zero _).symm|exact Int.add_assoc _ _ _|omega|(dsimp only;push_cast;omega)
 ·obtain⟨k,o⟩:=x
  have hlt:¬k<O.length:=by simpa using h1
  obtain⟨k1,k2,k3⟩:=hk
  dsimp only at k1 k2 k3
  have:k=O.length:=by omega
  rw[this,List.drop_length,missS,List.append_nil] at k3
  exact⟨rfl,k3⟩
abbrev W54 [Sx.Dr]:=W53.add ok92
abbrev annKept (T U:TypeId) (s:Sch) (l:List s.T) (g:Bool) (q:Tup [(g,s)]→List Prop) (f:Tup [(g,s)]→Bool):Ann:={X:=Nat,σ:=fun k=>⟨3,[(1, .one (.fv 1)),(5, .one (.sl 2)),(8, .one (.sl 0)),(9, .one (.int .i64 l.length)),(10, .one (.int .i64 k))],[(0, .imm T s l),(1, .afn [(g,s)] Bo q f),(2, .own U s ((l.take k).filter fun x=>f (x,())))]⟩,inv:=fun k=>k≤l.length,mu:=fun k=>l.length-k}
def cKeptP:Con:={args:=[.val false (.list 235 sPer), .fn [(true,sPer)] Bo],ress:=[(false, .list 235 sPer)],owns:=[true],pre:=fun(l,(q,_),_)=>[l.length≤1000000,∀x∈l,conj (q (x,()))],spec:=fun(l,(_,f),_)=>(l.filter fun x=>f (x,()),())}
theorem filter_le {α:Type} {p:α→Bool} {l:List α} {k:Nat} (h:k≤l.length):((l.take k).filter p).length≤k:=by
 have:=List.length_filter_le p (l.take k)
 rw[List.length_take] at this
 omega
def Z188 (a:Per×Unit→Bool) (b:Nat) (c:List Per):=List.filter (fun(x:Per)=>a (x,PUnit.unit)) (List.take b c)
def Z282 (a:Nat) (b:List Per) (c:Nat):=a≤List.length b∧List.length b-a<List.length b-c
theorem ok243 [Sx.Dr]:Ok Tryz.prog 243 cKeptP:=okW W54 Tryz.f243 (fun xx=>ann0 (annKept 235 235 sPer xx.1 true xx.2.1.1 xx.2.1.2)) fun xx=>by
 obtain⟨(l:List Per),⟨(q:Per×Unit→List Prop),(f:Per×Unit→Bool)⟩,_⟩:=xx
 refine(by kernel_rfl:(Z41 l→Z321 l q→∃(x:Nat),Si (Ln l) (0=Nc x∧Sf l ((fun(x:Per×PUnit)=>q x)=q∧(fun(x:Per×PUnit)=>f x)=f∧List.length (Z188 f x l)=0))∧x≤List.length l∧∀(x:Nat),x≤List.length l→Br (decide (Nc x<Ln l)) (Tw (Bd (Nc x) (Ln l))∧Z420 q l x∧Br (Z391 f l x) ((List.length (Z188 f x l)+1)*40≤140737488355328∧Z16 x∧∃(y:Nat),Si (Ln l) (Z94 x y∧Sf l ((fun(x:Per×PUnit)=>q x)=q∧(fun(x:Per×PUnit)=>f x)=f∧Z188 f x l++[Z353 l x]=Z188 f y l))∧Z282 y l x) (Z16 x∧∃(y:Nat),Si (Ln l) (Z94 x y∧Sf l ((fun(x:Per×PUnit)=>q x)=q∧(fun(x:Per×PUnit)=>f x)=f∧Z188 f x l=Z188 f y l))∧Z282 y l x)) (Z188 f x l=List.filter (fun(x:Per)=>f (x,PUnit.unit)) l))=_).mp ?_
 delta Z16 Z41 Z94 Z188 Z282 Z321 Z353 Z377 Z391 Z420 Br Iw Bd Tw Sf Si Ln Nc B0 E2
 intro hb hq
 refine⟨(0:Nat),⟨rfl,rfl,rfl,rfl,rfl,by simp⟩,Nat.zero_le _,fun(k:Nat) hk=>⟨fun h=> ?_,fun h=> ?_⟩⟩
 ·have hlt:k<l.length:=by simpa using h
  have hf:=filter_le (p:=fun x=>f (x,())) hk
  have ht:=take_snoc (d:=per0) hlt
  refine⟨by omega,hq (l.getD k per0) (getD_mem hlt),fun h1=> ?_,fun h1=> ?_⟩
  ·have h1:f (l.getD k per0,())=true:=h1
   refine⟨by show((List.filter (fun x=>f (x,())) (List.take k l)).length+1)*40≤_;omega,by omega,(k+1:Nat),⟨rfl,by simp,rfl,rfl,rfl, ?_⟩,by omega,by omega⟩
   rw[←ht,List.filter_append,List.filter_cons,if_pos h1];rfl
  ·have h1:f (l.getD k per0,())=false:=h1
   refine⟨by omega,(k+1:Nat),⟨rfl,by simp,rfl,rfl,rfl, ?_⟩,by omega,by omega⟩
   rw[←ht,List.filter_append,List.filter_cons,if_neg (by rw[h1];decide)];simp
 ·have hlt:¬k<l.length:=by simpa using h
  rw[List.take_of_length_le (by omega)]
abbrev W55 [Sx.Dr]:=W54.add ok243
def cOpenP:Con:={args:=[.val true sPer],ress:=[Bo],owns:=[],pre:=fun _=>[],spec:=fun(x,_)=>(x.2.2,())}
theorem wp261 [Sx.Dr] (x:Per):wpF Tryz.prog W55.g (na ()) Tryz.f261 cOpenP (x,()):=by
 refine(by kernel_rfl:(x.2.2=x.2.2)=_).mp ?_
 rfl
theorem ok261 [Sx.Dr]:Ok Tryz.prog 261 cOpenP:=ok_of_wp mixed W55.ok (by kernel_rfl) (by kernel_rfl) na fun xx=>wp261 xx.1
abbrev W56 [Sx.Dr]:=W55.add ok261
def openS (Q:List Per):List Per:=Q.filter fun x=>x.2.2
def cOpenR:Con:={args:=[aReg],ress:=[(false, .list 235 sPer)],owns:=[true],pre:=fun(r,_)=>[RegOk r],spec:=fun((_,_,_,_,_,_,Q),_)=>(openS Q,())}
theorem ok207 [Sx.Dr]:Ok Tryz.prog 207 cOpenR:=okW W56 Tryz.f207 na fun xx=>by
 obtain⟨⟨(tk:Int),(st:Int),(S:List Sta),(O:List Ord),(M:List Met),(X:List Out),(Q:List Per)⟩,_⟩:=xx
 refine(by kernel_rfl:(Z119 tk st S O M X Q→Z384 Q∧List.filter (fun(x:Per)=>x.2.2) Q=openS Q)=_).mp ?_
 delta Z41 Z119 Z384
 intro hr
 have nQ:Q.length≤16:=hr.nQ
 exact⟨⟨by omega,fun _ _=>trivial⟩,rfl⟩
abbrev W57 [Sx.Dr]:=W56.add ok207
theorem openS_le {Q:List Per}:(openS Q).length≤Q.length:=List.length_filter_le _ _
theorem openS_mem {Q:List Per} {x:Per} (h:x∈openS Q):x∈Q:=(List.mem_filter.1 h).1
def cRst1:Con:={args:=[.val true sPer, .ref 188 sOut],ress:=[Bo],owns:=[],pre:=fun _=>[],spec:=fun(x,y,_)=>(x.2.1.toList==y.1.toList,())}
theorem wp244 [Sx.Dr] (x:Per) (y:Out):wpF Tryz.prog W57.g (na ()) Tryz.f244 cRst1 (x,y,()):=by
 refine(by kernel_rfl:(Lb x.2.1 y.1=Lb x.2.1 y.1)=_).mp ?_
 delta Lb
 rfl
theorem ok244 [Sx.Dr]:Ok Tryz.prog 244 cRst1:=ok_of_wp mixed W57.ok (by kernel_rfl) (by kernel_rfl) na fun xx=>wp244 xx.1 xx.2.1
abbrev W58 [Sx.Dr]:=W57.add ok244
def cSet1:Con:={args:=[.val true sPer, .ref 105 sReg, .ref 3 sI],ress:=[Bo],owns:=[],pre:=fun(x,r,_)=>[RegOk r,0≤findX r.2.2.2.2.2.1 x.2.1],spec:=fun(x,(_,_,_,_,_,X,_),h,_)=>(decide ((outS X x.2.1).2.2.1.2≤h),())}
theorem ok246 [Sx.Dr]:Ok Tryz.prog 246 cSet1:=okW W58 Tryz.f246 na fun xx=>by
 obtain⟨⟨(a:ByteArray),(b:ByteArray),(c:Bool)⟩,⟨(tk:Int),(st:Int),(S:List Sta),(O:List Ord),(M:List Met),(X:List Out),(Q:List Per)⟩,(h:Int),_⟩:=xx
 refine(by kernel_rfl:(Z119 tk st S O M X Q→0≤findX X b→(Z50 X∧0≤findX X b)∧decide ((outS X b).2.2.1.2≤h)=decide ((outS X b).2.2.1.2≤h))=_).mp ?_
 delta Z50 Z119
 intro hr h
 have nX:X.length≤16:=hr.nX
 repeat' first|assumption|exact rfl|trivial|omega|apply And.intro|intro _
abbrev W59 [Sx.Dr]:=W58.add ok246
def cOrd1:Con:={args:=[aI, .ref 105 sReg, .ref 9 .str, .ref 9 .str, .ref 3 sI],ress:=[Bo],owns:=[],pre:=fun(_,r,a,b,_)=>[RegOk r,0≤findS r.2.2.1 a,0≤findS r.2.2.1 b],spec:=fun(h,(_,_,S,O,_,X,_),a,b,p,_)=>(decide (min (roomS S O X a h) (roomS S O X b h)<p),())}
theorem ok239 [Sx.Dr]:Ok Tryz.prog 239 cOrd1:=okW W59 Tryz.f239 na fun xx=>by
 obtain⟨(h:Int),⟨(tk:Int),(st:Int),(S:List Sta),(O:List Ord),(M:List Met),(X:List Out),(Q:List Per)⟩,(a:ByteArray),(b:ByteArray),(p:Int),_⟩:=xx
 refine(by kernel_rfl:(Z119 tk st S O M X Q→Z20 S a→Z20 S b→(Z119 tk st S O M X Q∧Z20 S a∧Z119 tk st S O M X Q∧Z20 S b)∧decide (min (roomS S O X a h) (roomS S O X b h)<p)=decide (min (roomS S O X a h) (roomS S O X b h)<p))=_).mp ?_
 delta Z20 Z119
 intro hr h1 h2
 repeat' first|assumption|exact rfl|trivial|omega|apply And.intro|intro _
abbrev W60 [Sx.Dr]:=W59.add ok239
def cOut1:Con:={args:=[aI, .ref 105 sReg, .ref 9 .str, .ref 3 sI],ress:=[Bo],owns:=[],pre:=fun(_,r,a,_)=>[RegOk r],spec:=fun(h,(_,_,_,O,_),a,p,_)=>(decide (p<loadS O a h),())}
theorem ok241 [Sx.Dr]:Ok Tryz.prog 241 cOut1:=okW W60 Tryz.f241 na fun xx=>by
 obtain⟨(h:Int),⟨(tk:Int),(st:Int),(S:List Sta),(O:List Ord),(M:List Met),(X:List Out),(Q:List Per)⟩,(a:ByteArray),(p:Int),_⟩:=xx
 refine(by kernel_rfl:(Z119 tk st S O M X Q→Z119 tk st S O M X Q∧decide (p<loadS O a h)=decide (p<loadS O a h))=_).mp ?_
 delta Z119
 intro hr
 repeat' first|assumption|exact rfl|trivial|omega|apply And.intro|intro _
abbrev W61 [Sx.Dr]:=W60.add ok241
def anyS (f:Int→Bool):Int→Nat→Bool
 |_,0=>false
 |a,n+1=>bif f a then true else anyS f (a+1) n
def crowdS (s:Int×Int) (f:Int→Bool):Bool:=anyS f s.1 (s.2-s.1).toNat
def cCrowd:Con:={args:=[.val true sSpan, .fn [I] Bo],ress:=[Bo],owns:=[],pre:=fun(s,(q,_),_)=>[0≤s.1∧s.1≤999999999,0≤s.2∧s.2≤999999999,∀h,s.1≤h→h<s.2→conj (q (h,()))],spec:=fun(s,(_,f),_)=>(crowdS s fun h=>f (h,()),())}
abbrev annCrowd (a b:Int) (q:Int×Unit→List Prop) (f:Int×Unit→Bool):Ann:={X:=Nat,σ:=fun k=>⟨2,[(1, .one (.fv 1)),(2, .one (.ptr 0 0)),(5, .one (.bool false)),(11, .one (.int .i64 (b-a))),(12, .one (.int .i64 k))],[(0, .box 117 [.int .i64 a, .int .i64 b]),(1, .afn [I] Bo q f)]⟩,inv:=fun k=>k≤(b-a).toNat∧crowdS (a,b) (fun h=>f (h,()))=anyS (fun h=>f (h,())) (a+k) ((b-a).toNat-k),mu:=fun k=>(b-a).toNat-k}
def Z531 (a:Nat) (b c:Int) (d:Int×Unit→Bool):=a≤Int.toNat (b-c)∧(crowdS (c,b) fun(h:Int)=>d (h,PUnit.unit))=anyS (fun(h:Int)=>d (h,PUnit.unit)) (c+Nc a) (Int.toNat (b-c)-a)
theorem ok237 [Sx.Dr]:Ok Tryz.prog 237 cCrowd:=okW W61 Tryz.f237 (fun xx=>ann0 (annCrowd xx.1.1 xx.1.2 xx.2.1.1 xx.2.1.2)) fun xx=>by
 obtain⟨⟨(a:Int),(b:Int)⟩,⟨(q:Int×Unit→List Prop),(f:Int×Unit→Bool)⟩,_⟩:=xx
 refine(by kernel_rfl:(0≤a∧a≤999999999→0≤b∧b≤999999999→(∀(h:Int),a≤h→h<b→conj (q (h,PUnit.unit)))→Iw (b-a)∧∃(x:Nat),Sf false (Si (b-a) (0=Nc x∧Si a (Si b ((fun(x:Int×PUnit)=>q x)=q∧(fun(x:Int×PUnit)=>f x)=f))))∧Z531 x b a f∧∀(x:Nat),Z531 x b a f→Br (decide (Nc x<b-a)) ((Iw (a+Nc x)∧conj (q (a+Nc x,PUnit.unit)))∧Br (f (a+Nc x,PUnit.unit)) (true=crowdS (a,b) fun(h:Int)=>f (h,PUnit.unit)) (Z16 x∧∃(y:Nat),Sf false (Si (b-a) (Z94 x y∧Si a (Si b ((fun(x:Int×PUnit)=>q x)=q∧(fun(x:Int×PUnit)=>f x)=f))))∧Z531 y b a f∧Int.toNat (b-a)-y<Int.toNat (b-a)-x)) (false=crowdS (a,b) fun(h:Int)=>f (h,PUnit.unit)))=_).mp ?_
 delta Z16 Z94 Z531 Br Iw Sf Si Nc
 intro h1 h2 hq
 refine⟨by omega,(0:Nat),⟨rfl,rfl,rfl,rfl,rfl,rfl,rfl⟩,⟨Nat.zero_le _,by simp[crowdS]⟩,fun(k:Nat) hk=>⟨fun h=> ?_,fun h=> ?_⟩⟩
 ·have h:(k:Int)<b-a:=of_decide_eq_true h
  obtain⟨k1,k2⟩:=hk
  have hj:(b-a).toNat-k=((b-a).toNat-(k+1))+1:=by omega
  rw[hj,anyS] at k2
  refine⟨⟨by omega,hq (a+k) (by omega) (by omega)⟩,fun h3=> ?_,fun h3=>⟨by omega,(k+1:Nat),⟨rfl,rfl,by simp,rfl,rfl,rfl,rfl⟩,⟨by omega, ?_⟩,by omega⟩⟩
  ·rw[k2]
   show true=bif f (a+(k:Int),PUnit.unit) then true else _
   rw[h3];rfl
  ·rw[k2]
   show(bif f (a+(k:Int),PUnit.unit) then true else _)=_
   rw[h3,Int.natCast_add,←Int.add_assoc];rfl
 ·have h:¬(k:Int)<b-a:=of_decide_eq_false h
  have hj:(b-a).toNat-k=0:=by omega
  rw[hk.2,hj];rfl
abbrev W62 [Sx.Dr]:=W61.add ok237
def ckSta (S:List Sta) (vs:List Int):Int:=firstS [withinS (vs.getD 1 0) 1 1000,bif decide ((6:Int)≤S.length) then 5 else 0]
def cCkSta:Con:={args:=[aReg,aEv],ress:=[I],owns:=[],pre:=fun(r,e,_)=>[RegOk r,2≤e.2.2.2.1.length],spec:=fun((tk,st,S,O,M,X,Q),(n,k,ns,vs,tx),_)=>(ckSta S vs,())}
def Z55 (a:Li):=2≤List.length a
theorem ok148 [Sx.Dr]:Ok Tryz.prog 148 cCkSta:=okW W62 Tryz.f148 na fun xx=>by
 obtain⟨⟨(tk:Int),(st:Int),(S:List Sta),(O:List Ord),(M:List Met),(X:List Out),(Q:List Per)⟩,⟨(n:Int),(k:ByteArray),(ns:List ByteArray),(vs:List Int),(tx:ByteArray)⟩,_⟩:=xx
 refine(by kernel_rfl:(Z119 tk st S O M X Q→Z55 vs→T2 (Z23 vs) (2≤1000000)∧firstS [withinS (Z91 vs) 1 1000,bif decide (6≤Ln S) then 5 else 0]=ckSta S vs)=_).mp ?_
 delta Z23 Z55 Z91 Z119 Bd T2 Ln
 intro hr h
 repeat' first|assumption|exact rfl|trivial|omega|apply And.intro|intro _
abbrev W63 [Sx.Dr]:=W62.add ok148
def ckPri (vs:List Int):Int:=withinS (vs.getD 1 0) 0 1000
def cCkPri:Con:={args:=[aReg,aEv],ress:=[I],owns:=[],pre:=fun(r,e,_)=>[2≤e.2.2.2.1.length],spec:=fun((tk,st,S,O,M,X,Q),(n,k,ns,vs,tx),_)=>(ckPri vs,())}
theorem ok152 [Sx.Dr]:Ok Tryz.prog 152 cCkPri:=okW W63 Tryz.f152 na fun xx=>by
 obtain⟨⟨(tk:Int),(st:Int),(S:List Sta),(O:List Ord),(M:List Met),(X:List Out),(Q:List Per)⟩,⟨(n:Int),(k:ByteArray),(ns:List ByteArray),(vs:List Int),(tx:ByteArray)⟩,_⟩:=xx
 refine(by kernel_rfl:(Z55 vs→Tw (Z23 vs)∧withinS (Z91 vs) 0 1000=ckPri vs)=_).mp ?_
 delta Z23 Z55 Z91 Bd Tw Ln
 intro h
 repeat' first|assumption|exact rfl|trivial|omega|apply And.intro|intro _
abbrev W64 [Sx.Dr]:=W63.add ok152
def ckOrd1 (e:Ev):Int:=firstS [bif (e.2.2.1.getD 1 bnil).toList==(e.2.2.1.getD 2 bnil).toList then 24 else 0,spanErr e,withinS (e.2.2.2.1.getD 3 0) 1 1000]
def fullS (S:List Sta) (O:List Ord) (X:List Out) (e:Ev):Bool:=crowdS (spanE e) fun h=>decide (min (roomS S O X (e.2.2.1.getD 1 bnil) h) (roomS S O X (e.2.2.1.getD 2 bnil) h)<e.2.2.2.1.getD 3 0)
def ckOrd (S:List Sta) (O:List Ord) (X:List Out) (e:Ev):Int:=if ckOrd1 e≠0 then ckOrd1 e else firstS [bif fullS S O X e then 4 else 0,bif decide ((32:Int)≤O.length) then 5 else 0]
def cCkOrd:Con:={args:=[aReg,aEv],ress:=[I],owns:=[],pre:=fun(r,e,_)=>[RegOk r,EvV e,e.2.2.1.length=3,e.2.2.2.1.length=4,0≤findS r.2.2.1 (e.2.2.1.getD 1 bnil),0≤findS r.2.2.1 (e.2.2.1.getD 2 bnil)],spec:=fun((tk,st,S,O,M,X,Q),(n,k,ns,vs,tx),_)=>(ckOrd S O X (n,k,ns,vs,tx),())}
def Z24 (a:Li):=Bd 3 (Ln a)
def Z46 (a:Li):=List.length a=4
def Z84 (a:Ls):=List.getD a 2 B0
def Z88 (a:Ls):=List.getD a 1 B0
def Z89 (a:Ls):=Bd 1 (Ln a)
def Z96 (a:Li):=List.getD a 3 0
def Z99 (a:Ls):=List.length a=3
def Z106 (a:Ls):=List.getD a 1 bnil
def Z202 (a:List Sta) (b:Ls):=0≤findS a (Z88 b)
def Z210 (a:List Sta) (b:Ls):=0≤findS a (Z106 b)
def Z677 (a:Ls) (b:Int) (c:Bt) (d:Li) (e:Bt):=firstS [bif Lb (Z88 a) (Z84 a) then 24 else 0,spanErr (b,c,a,d,e),withinS (Z96 d) 1 1000]
theorem ok154 [Sx.Dr]:Ok Tryz.prog 154 cCkOrd:=okW W64 Tryz.f154 na fun xx=>by
 obtain⟨⟨(tk:Int),(st:Int),(S:List Sta),(O:List Ord),(M:List Met),(X:List Out),(Q:List Per)⟩,⟨(n:Int),(k:ByteArray),(ns:List ByteArray),(vs:List Int),(tx:ByteArray)⟩,_⟩:=xx
 refine(by kernel_rfl:(Z119 tk st S O M X Q→EvV (n,k,ns,vs,tx)→Z99 ns→Z46 vs→Z210 S ns→0≤findS S (List.getD ns 2 bnil)→T2 (Z89 ns) (T2 (Bd 2 (Ln ns)) (Tw (Z24 vs)))∧(Z49 vs∧EvV (n,k,ns,vs,tx)∧3≤1000000)∧Br (Z677 ns n k vs tx !=0) (Z677 ns n k vs tx=ckOrd S O X (n,k,ns,vs,tx)) ((Z49 vs∧(0≤(Z42 n k ns vs tx).1∧(Z42 n k ns vs tx).1≤999999999)∧(0≤(Z42 n k ns vs tx).2∧(Z42 n k ns vs tx).2≤999999999)∧∀(h:Int),(Z42 n k ns vs tx).1≤h→h<(Z42 n k ns vs tx).2→Z119 tk st S O M X Q∧Z202 S ns∧0≤findS S (Z84 ns))∧2≤1000000∧firstS [bif crowdS (E2 (Z42 n k ns vs tx)) fun(h:Int)=>decide (min (roomS S O X (Z88 ns) h) (roomS S O X (Z84 ns) h)<Z96 vs) then 4 else 0,bif decide (32≤Ln O) then 5 else 0]=ckOrd S O X (n,k,ns,vs,tx)))=_).mp ?_
 delta Z24 Z42 Z46 Z49 Z84 Z88 Z89 Z96 Z99 Z106 Z119 Z202 Z210 Z677 Br Bd T2 Tw Ln B0 Lb E2
 intro hr hv hn hl h1 h2
 have sp:(0≤(spanE (n,k,ns,vs,tx)).1∧(spanE (n,k,ns,vs,tx)).1≤999999999)∧0≤(spanE (n,k,ns,vs,tx)).2∧(spanE (n,k,ns,vs,tx)).2≤999999999:=⟨hv (vs.getD 1 0) (getD_mem (show 1<vs.length by omega)),hv (vs.getD 2 0) (getD_mem (show 2<vs.length by omega))⟩
 refine⟨by omega,⟨by omega,hv,by omega⟩,fun h=> ?_,fun h=>⟨⟨by omega,sp.1,sp.2,fun _ _ _=>⟨hr,h1,h2⟩⟩,by omega, ?_⟩⟩
 ·have h:ckOrd1 (n,k,ns,vs,tx)≠0:=bne_iff_ne.1 h
  unfold ckOrd;rw[if_pos h];rfl
 ·have h:¬ckOrd1 (n,k,ns,vs,tx)≠0:=by have:=bne_eq_false_iff_eq.1 h;exact fun f=>f this
  unfold ckOrd;rw[if_neg h];rfl
abbrev W65 [Sx.Dr]:=W64.add ok154
def ckMet (O:List Ord) (M:List Met) (ns:List ByteArray) (vs:List Int):Int:=firstS [bif decide (vs.getD 0 0≤vs.getD 1 0) then 11 else 0,bif !insideB (ordS O (ns.getD 0 bnil)).2.2.2.1 (vs.getD 1 0) then 14 else 0,bif !countsB (ordS O (ns.getD 0 bnil)) (vs.getD 1 0) then 23 else 0,bif decide (0≤meterS M (ordS O (ns.getD 0 bnil)).1 (vs.getD 1 0)) then 9 else 0,bif (bif decide ((ordS O (ns.getD 0 bnil)).2.2.2.2.1<vs.getD 2 0) then true else decide (vs.getD 2 0<vs.getD 3 0)) then 3 else 0]
def cCkMet:Con:={args:=[aReg,aEv],ress:=[I],owns:=[],pre:=fun(r,e,_)=>[RegOk r,1≤e.2.2.1.length,4≤e.2.2.2.1.length,0≤findO r.2.2.2.1 (e.2.2.1.getD 0 bnil)],spec:=fun((tk,st,S,O,M,X,Q),(n,k,ns,vs,tx),_)=>(ckMet O M ns vs,())}
def Z47 (a:Li):=4≤List.length a
def Z79 (a:Ls):=Bd 0 (Ln a)
def Z85 (a:Ls):=List.getD a 0 B0
def Z104 (a:Ls):=List.getD a 0 bnil
def Z105 (a:Ls):=1≤List.length a
def Z141 (a:List Ord) (b:Ls):=ordS a (Z85 b)
def Z147 (a:List Ord) (b:Ls):=findO a (Z85 b)
def Z165 (a:List Ord) (b:Ls):=(Z141 a b).2.2
def Z179 (a:List Ord) (b:Ls):=(Z165 a b).2.1
def Z180 (a:List Ord) (b:Ls):=(Z165 a b).2.2
def Z205 (a:List Ord) (b:Ls):=0≤findO a (Z104 b)
def Z744 (a:List Ord) (b:Ls):=((Z141 a b).1,(Z141 a b).2.1,(Z165 a b).1,E2 (Z179 a b),(Z180 a b).1,E2 (Z180 a b).2)
theorem ok157 [Sx.Dr]:Ok Tryz.prog 157 cCkMet:=okW W65 Tryz.f157 na fun xx=>by
 obtain⟨⟨(tk:Int),(st:Int),(S:List Sta),(O:List Ord),(M:List Met),(X:List Out),(Q:List Per)⟩,⟨(n:Int),(k:ByteArray),(ns:List ByteArray),(vs:List Int),(tx:ByteArray)⟩,_⟩:=xx
 refine(by kernel_rfl:(Z119 tk st S O M X Q→Z105 ns→Z47 vs→Z205 O ns→T2 (Z79 ns) (Z51 O∧0≤Z147 O ns∧T2 (Z23 vs) (T2 (Bd 2 (Ln vs)) (Tw (Z24 vs))))∧T2 (Z22 vs) (Z119 tk st S O M X Q∧5≤1000000)∧firstS [bif decide (Z86 vs≤Z91 vs) then 11 else 0,bif !insideB (E2 (Z179 O ns)) (Z91 vs) then 14 else 0,bif !countsB (Z744 O ns) (Z91 vs) then 23 else 0,bif decide (0≤meterS M (Z141 O ns).1 (Z91 vs)) then 9 else 0,bif bif decide ((Z180 O ns).1<Z93 vs) then true else decide (Z93 vs<Z96 vs) then 3 else 0]=ckMet O M ns vs)=_).mp ?_
 delta Z22 Z23 Z24 Z47 Z51 Z79 Z85 Z86 Z91 Z93 Z96 Z104 Z105 Z119 Z141 Z147 Z165 Z179 Z180 Z205 Z744 Bd T2 Tw Ln B0 E2
 intro hr h1 h2 h3
 have nO:O.length≤32:=hr.nO
 refine⟨⟨⟨by omega,by omega⟩,⟨by omega,by omega⟩,by omega,h3,by omega⟩,⟨by omega,by omega,hr,by omega⟩,rfl⟩
abbrev W66 [Sx.Dr]:=W65.add ok157
def ckTrip (O:List Ord) (ns:List ByteArray) (vs:List Int):Int:=bif (bif (ordS O (ns.getD 0 bnil)).2.2.2.2.2.2 != -1 then true else decide ((ordS O (ns.getD 0 bnil)).2.2.2.1.2≤vs.getD 0 0)) then 23 else 0
def cCkTrip:Con:={args:=[aReg,aEv],ress:=[I],owns:=[],pre:=fun(r,e,_)=>[RegOk r,1≤e.2.2.1.length,1≤e.2.2.2.1.length,0≤findO r.2.2.2.1 (e.2.2.1.getD 0 bnil)],spec:=fun((tk,st,S,O,M,X,Q),(n,k,ns,vs,tx),_)=>(ckTrip O ns vs,())}
def Z56 (a:Li):=1≤List.length a
def Z499 (a:Ls) (b:List Ord):=T2 (Z79 a) (Z51 b∧0≤Z147 b a)
def Z533 (a:List Ord) (b:Ls):=(Z180 a b).2.2 !=Z64
theorem ok159 [Sx.Dr]:Ok Tryz.prog 159 cCkTrip:=okW W66 Tryz.f159 na fun xx=>by
 obtain⟨⟨(tk:Int),(st:Int),(S:List Sta),(O:List Ord),(M:List Met),(X:List Out),(Q:List Per)⟩,⟨(n:Int),(k:ByteArray),(ns:List ByteArray),(vs:List Int),(tx:ByteArray)⟩,_⟩:=xx
 refine(by kernel_rfl:(Z119 tk st S O M X Q→Z105 ns→Z56 vs→Z205 O ns→Z499 ns O∧Tw (Z533 O ns=false→Z22 vs)∧(bif bif Z533 O ns then true else decide ((Z179 O ns).2≤Z86 vs) then 23 else 0)=ckTrip O ns vs)=_).mp ?_
 delta Z22 Z51 Z56 Z64 Z79 Z85 Z86 Z104 Z105 Z119 Z141 Z147 Z165 Z179 Z180 Z205 Z499 Z533 Bd T2 Tw Ln B0
 intro hr h1 h2 h3
 have nO:O.length≤32:=hr.nO
 repeat' first|assumption|exact rfl|trivial|omega|apply And.intro|intro _
abbrev W67 [Sx.Dr]:=W66.add ok159
def ckOut1 (S:List Sta) (e:Ev):Int:=firstS [spanErr e,bif decide ((staS S (e.2.2.1.getD 1 bnil)).2.1≤e.2.2.2.1.getD 3 0) then 3 else 0]
def ckOut (S:List Sta) (O:List Ord) (X:List Out) (e:Ev):Int:=if ckOut1 S e≠0 then ckOut1 S e else firstS [bif crowdS (spanE e) (fun h=>decide (e.2.2.2.1.getD 3 0<loadS O (e.2.2.1.getD 1 bnil) h)) then 24 else 0,bif decide ((16:Int)≤X.length) then 5 else 0]
def cCkOut:Con:={args:=[aReg,aEv],ress:=[I],owns:=[],pre:=fun(r,e,_)=>[RegOk r,EvV e,e.2.2.1.length=2,e.2.2.2.1.length=4,0≤findS r.2.2.1 (e.2.2.1.getD 1 bnil)],spec:=fun((tk,st,S,O,M,X,Q),(n,k,ns,vs,tx),_)=>(ckOut S O X (n,k,ns,vs,tx),())}
def Z107 (a:Ls):=List.length a=2
def Z611 (a:Int) (b:Bt) (c:Ls) (d:Li) (e:Bt) (f:List Sta):=firstS [spanErr (a,b,c,d,e),bif decide ((staS f (Z88 c)).2.1≤Z96 d) then 3 else 0]
theorem ok161 [Sx.Dr]:Ok Tryz.prog 161 cCkOut:=okW W67 Tryz.f161 na fun xx=>by
 obtain⟨⟨(tk:Int),(st:Int),(S:List Sta),(O:List Ord),(M:List Met),(X:List Out),(Q:List Per)⟩,⟨(n:Int),(k:ByteArray),(ns:List ByteArray),(vs:List Int),(tx:ByteArray)⟩,_⟩:=xx
 refine(by kernel_rfl:(Z119 tk st S O M X Q→EvV (n,k,ns,vs,tx)→Z107 ns→Z46 vs→Z210 S ns→T2 (Z89 ns) (Tw (Z24 vs))∧(Z49 vs∧EvV (n,k,ns,vs,tx)∧Z43 S∧Z202 S ns∧2≤1000000)∧Br (Z611 n k ns vs tx S !=0) (Z611 n k ns vs tx S=ckOut S O X (n,k,ns,vs,tx)) ((Z49 vs∧(0≤(Z42 n k ns vs tx).1∧(Z42 n k ns vs tx).1≤999999999)∧(0≤(Z42 n k ns vs tx).2∧(Z42 n k ns vs tx).2≤999999999)∧∀(h:Int),(Z42 n k ns vs tx).1≤h→h<(Z42 n k ns vs tx).2→Z119 tk st S O M X Q)∧2≤1000000∧firstS [bif crowdS (E2 (Z42 n k ns vs tx)) fun(h:Int)=>decide (Z96 vs<loadS O (Z88 ns) h) then 24 else 0,bif decide (16≤Ln X) then 5 else 0]=ckOut S O X (n,k,ns,vs,tx)))=_).mp ?_
 delta Z24 Z42 Z43 Z46 Z49 Z88 Z89 Z96 Z106 Z107 Z119 Z202 Z210 Z611 Br Bd T2 Tw Ln B0 E2
 intro hr hv hn hl h1
 have sp:(0≤(spanE (n,k,ns,vs,tx)).1∧(spanE (n,k,ns,vs,tx)).1≤999999999)∧0≤(spanE (n,k,ns,vs,tx)).2∧(spanE (n,k,ns,vs,tx)).2≤999999999:=⟨hv (vs.getD 1 0) (getD_mem (show 1<vs.length by omega)),hv (vs.getD 2 0) (getD_mem (show 2<vs.length by omega))⟩
 have nS:S.length≤6:=hr.nS
 refine⟨by omega,⟨by omega,hv,by omega,h1,by omega⟩,fun h=> ?_,fun h=>⟨⟨by omega,sp.1,sp.2,fun _ _ _=>hr⟩,by omega, ?_⟩⟩
 ·have h:ckOut1 S (n,k,ns,vs,tx)≠0:=bne_iff_ne.1 h
  unfold ckOut;rw[if_pos h];rfl
 ·have h:¬ckOut1 S (n,k,ns,vs,tx)≠0:=by have:=bne_eq_false_iff_eq.1 h;exact fun f=>f this
  unfold ckOut;rw[if_neg h];rfl
abbrev W68 [Sx.Dr]:=W67.add ok161
def ckRest (X:List Out) (Q:List Per) (ns:List ByteArray) (vs:List Int):Int:=firstS [bif decide (vs.getD 0 0≤(outS X (ns.getD 0 bnil)).2.2.1.1) then 21 else 0,bif decide ((outS X (ns.getD 0 bnil)).2.2.1.2≤vs.getD 0 0) then 23 else 0,bif decide ((0:Int)<((openS Q).filter fun p=>p.2.1.toList==(outS X (ns.getD 0 bnil)).1.toList).length) then 32 else 0]
def cCkRest:Con:={args:=[aReg,aEv],ress:=[I],owns:=[],pre:=fun(r,e,_)=>[RegOk r,1≤e.2.2.1.length,1≤e.2.2.2.1.length,0≤findX r.2.2.2.2.2.1 (e.2.2.1.getD 0 bnil)],spec:=fun((tk,st,S,O,M,X,Q),(n,k,ns,vs,tx),_)=>(ckRest X Q ns vs,())}
def Z140 (a:List Out) (b:Ls):=outS a (Z85 b)
def Z143 (a:List Out) (b:Ls):=findX a (Z85 b)
def Z209 (a:List Out) (b:Ls):=0≤findX a (Z104 b)
def Z493 (a:Ls) (b:List Out):=T2 (Z79 a) (Z50 b∧0≤Z143 b a)
def Z586 (a b:Int) (c:List Sta) (d:List Ord) (e:List Met) (f:List Out) (g:List Per):=Z119 a b c d e f g∧List.length (openS g)≤1000000∧∀(x:Per),x∈openS g→True
theorem ok164 [Sx.Dr]:Ok Tryz.prog 164 cCkRest:=okW W68 Tryz.f164 na fun xx=>by
 obtain⟨⟨(tk:Int),(st:Int),(S:List Sta),(O:List Ord),(M:List Met),(X:List Out),(Q:List Per)⟩,⟨(n:Int),(k:ByteArray),(ns:List ByteArray),(vs:List Int),(tx:ByteArray)⟩,_⟩:=xx
 refine(by kernel_rfl:(Z119 tk st S O M X Q→Z105 ns→Z56 vs→Z209 X ns→Z493 ns X∧Z586 tk st S O M X Q∧T2 (Z22 vs) (T2 (Z22 vs) (3≤1000000))∧firstS [bif decide (Z86 vs≤(Z140 X ns).2.2.1.1) then 21 else 0,bif decide ((Z140 X ns).2.2.1.2≤Z86 vs) then 23 else 0,bif decide (0<Ln (List.filter (fun(x:Per)=>List.beq (ByteArray.toList x.2.1) (ByteArray.toList (Z140 X ns).1)) (openS Q))) then 32 else 0]=ckRest X Q ns vs)=_).mp ?_
 delta Z22 Z50 Z56 Z79 Z85 Z86 Z104 Z105 Z119 Z140 Z143 Z209 Z493 Z586 Bd T2 Ln B0
 intro hr h1 h2 h3
 have nX:X.length≤16:=hr.nX
 have nQ:Q.length≤16:=hr.nQ
 have:=openS_le (Q:=Q)
 refine⟨⟨by omega,by omega,by omega,h3⟩,⟨hr,by omega,fun _ _=>trivial⟩,by omega,rfl⟩
abbrev W69 [Sx.Dr]:=W68.add ok164
def ckPerm (X:List Out) (Q:List Per) (ns:List ByteArray) (vs:List Int):Int:=firstS [bif !insideB (outS X (ns.getD 1 bnil)).2.2.1 (vs.getD 0 0) then 22 else 0,bif decide ((16:Int)≤Q.length) then 5 else 0]
def cCkPerm:Con:={args:=[aReg,aEv],ress:=[I],owns:=[],pre:=fun(r,e,_)=>[RegOk r,2≤e.2.2.1.length,1≤e.2.2.2.1.length,0≤findX r.2.2.2.2.2.1 (e.2.2.1.getD 1 bnil)],spec:=fun((tk,st,S,O,M,X,Q),(n,k,ns,vs,tx),_)=>(ckPerm X Q ns vs,())}
def Z100 (a:Ls):=2≤List.length a
theorem ok166 [Sx.Dr]:Ok Tryz.prog 166 cCkPerm:=okW W69 Tryz.f166 na fun xx=>by
 obtain⟨⟨(tk:Int),(st:Int),(S:List Sta),(O:List Ord),(M:List Met),(X:List Out),(Q:List Per)⟩,⟨(n:Int),(k:ByteArray),(ns:List ByteArray),(vs:List Int),(tx:ByteArray)⟩,_⟩:=xx
 refine(by kernel_rfl:(Z119 tk st S O M X Q→Z100 ns→Z56 vs→0≤findX X (Z106 ns)→T2 (Z89 ns) (Z50 X∧0≤findX X (Z88 ns)∧T2 (Z22 vs) (2≤1000000))∧firstS [bif !insideB (E2 (outS X (Z88 ns)).2.2.1) (Z86 vs) then 22 else 0,bif decide (16≤Ln Q) then 5 else 0]=ckPerm X Q ns vs)=_).mp ?_
 delta Z22 Z50 Z56 Z86 Z88 Z89 Z100 Z106 Z119 Bd T2 Ln B0 E2
 intro hr h1 h2 h3
 have nX:X.length≤16:=hr.nX
 repeat' first|assumption|exact rfl|trivial|omega|apply And.intro|intro _
abbrev W70 [Sx.Dr]:=W69.add ok166
def ckRet (Q:List Per) (ns:List ByteArray):Int:=bif !(perS Q (ns.getD 0 bnil)).2.2 then 23 else 0
def cCkRet:Con:={args:=[aReg,aEv],ress:=[I],owns:=[],pre:=fun(r,e,_)=>[RegOk r,1≤e.2.2.1.length,0≤findP r.2.2.2.2.2.2 (e.2.2.1.getD 0 bnil)],spec:=fun((tk,st,S,O,M,X,Q),(n,k,ns,vs,tx),_)=>(ckRet Q ns,())}
def Z144 (a:List Per) (b:Ls):=findP a (Z85 b)
def Z207 (a:List Per) (b:Ls):=0≤findP a (Z104 b)
theorem ok169 [Sx.Dr]:Ok Tryz.prog 169 cCkRet:=okW W70 Tryz.f169 na fun xx=>by
 obtain⟨⟨(tk:Int),(st:Int),(S:List Sta),(O:List Ord),(M:List Met),(X:List Out),(Q:List Per)⟩,⟨(n:Int),(k:ByteArray),(ns:List ByteArray),(vs:List Int),(tx:ByteArray)⟩,_⟩:=xx
 refine(by kernel_rfl:(Z119 tk st S O M X Q→Z105 ns→Z207 Q ns→T2 (Z79 ns) (Z41 Q∧0≤Z144 Q ns)∧(bif !(perS Q (Z85 ns)).2.2 then 23 else 0)=ckRet Q ns)=_).mp ?_
 delta Z41 Z79 Z85 Z104 Z105 Z119 Z144 Z207 Bd T2 Ln B0
 intro hr h1 h3
 have nQ:Q.length≤16:=hr.nQ
 repeat' first|assumption|exact rfl|trivial|omega|apply And.intro|intro _
abbrev W71 [Sx.Dr]:=W70.add ok169
def ckSett (st:Int) (O:List Ord) (M:List Met) (X:List Out) (Q:List Per) (vs:List Int):Int:=bif (bif decide (vs.getD 1 0≤st) then true else decide (vs.getD 0 0<vs.getD 1 0)) then 14 else bif (bif decide ((0:Int)<(missS M (vs.getD 1 0) O).length) then true else decide ((0:Int)<((openS Q).filter fun p=>decide ((outS X p.2.1).2.2.1.2≤vs.getD 1 0)).length)) then 32 else 0
def cCkSett:Con:={args:=[aReg,aEv],ress:=[I],owns:=[],pre:=fun(r,e,_)=>[RegOk r,2≤e.2.2.2.1.length],spec:=fun((tk,st,S,O,M,X,Q),(n,k,ns,vs,tx),_)=>(ckSett st O M X Q vs,())}
theorem ok171 [Sx.Dr]:Ok Tryz.prog 171 cCkSett:=okW W71 Tryz.f171 na fun xx=>by
 obtain⟨⟨(tk:Int),(st:Int),(S:List Sta),(O:List Ord),(M:List Met),(X:List Out),(Q:List Per)⟩,⟨(n:Int),(k:ByteArray),(ns:List ByteArray),(vs:List Int),(tx:ByteArray)⟩,_⟩:=xx
 refine(by kernel_rfl:(Z119 tk st S O M X Q→Z55 vs→Tw (Z23 vs)∧Tw (decide (Z91 vs≤st)=false→Z22 vs)∧Br (bif decide (Z91 vs≤st) then true else decide (Z86 vs<Z91 vs)) (14=ckSett st O M X Q vs) ((Z119 tk st S O M X Q∧List.length (openS Q)≤1000000∧∀(x:Per),x∈openS Q→Z119 tk st S O M X Q∧0≤findX X x.2.1)∧Z119 tk st S O M X Q∧(bif bif decide (0<Ln (missS M (Z91 vs) O)) then true else decide (0<Ln (List.filter (fun(x:Per)=>decide ((outS X x.2.1).2.2.1.2≤Z91 vs)) (openS Q))) then 32 else 0)=ckSett st O M X Q vs))=_).mp ?_
 delta Z22 Z23 Z55 Z86 Z91 Z119 Br Bd Tw Ln
 intro hr h1
 have nQ:Q.length≤16:=hr.nQ
 have:=openS_le (Q:=Q)
 refine⟨by omega,⟨fun _=>by omega,fun _=>by omega⟩,fun h=> ?_,fun h=>⟨⟨hr,by omega,fun x hx=>⟨hr,hr.per x (openS_mem hx)⟩⟩,hr, ?_⟩⟩
 ·unfold ckSett;rw[h];rfl
 ·unfold ckSett;rw[h];rfl
abbrev W72 [Sx.Dr]:=W71.add ok171
abbrev dCon (pre:Reg→Ev→List Prop) (post:Reg→Ev→Reg):ConO:={T? :=some 105,s:=sReg,args:=[aEv],ress:=[],pre:=fun r (e,_)=>pre r e,spec:=fun _ _=>(),post:=fun r (e,_)=>post r e}
def setTrip (O:List Ord) (s:ByteArray) (v:Int):List Ord:=O.set (findO O s).toNat ((ordS O s).1,(ordS O s).2.1,(ordS O s).2.2.1,(ordS O s).2.2.2.1,(ordS O s).2.2.2.2.1,(ordS O s).2.2.2.2.2.1,v)
def setTo (X:List Out) (s:ByteArray) (v:Int):List Out:=X.set (findX X s).toNat ((outS X s).1,(outS X s).2.1,((outS X s).2.2.1.1,v),(outS X s).2.2.2)
def setShut (Q:List Per) (s:ByteArray):List Per:=Q.set (findP Q s).toNat ((perS Q s).1,(perS Q s).2.1,false)
def doAddS:Reg→Ev→Reg:=fun(tk,st,S,O,M,X,Q) (n,k,ns,vs,tx)=>(tk,st,S++[(ns.getD 0 bnil,vs.getD 1 0,0)],O,M,X,Q)
def cDoAddS:ConO:=dCon (fun r e=>[RegOk r,1≤e.2.2.1.length,2≤e.2.2.2.1.length]) doAddS
theorem wp149 [Sx.Dr] (tk st:Int) (S:List Sta) (O:List Ord) (M:List Met) (X:List Out) (Q:List Per) (n:Int) (k:ByteArray) (ns:List ByteArray) (vs:List Int) (tx:ByteArray):wpFO Tryz.prog W72.g (na ()) (fun _=>na ()) (Sx.look ([]:List (Nat×Func))) Tryz.f149 cDoAddS 105 (tk,st,S,O,M,X,Q) ((n,k,ns,vs,tx),()):=by
 refine(by kernel_rfl:(Z119 tk st S O M X Q→Z105 ns→Z55 vs→T2 (Z79 ns) (T2 (Z23 vs) ((List.length S+1)*32≤140737488355328))∧Sf true (Sf 105 ((tk,st,S++[(Z85 ns,Z91 vs,0)],O,M,X,Q)=doAddS (tk,st,S,O,M,X,Q) (n,k,ns,vs,tx))))=_).mp ?_
 delta Z23 Z55 Z79 Z85 Z91 Z105 Z119 Bd T2 Sf Ln B0
 intro hr
 have nS:S.length≤6:=hr.nS
 have nO:O.length≤32:=hr.nO
 have nM:M.length≤10000:=hr.nM
 have nX:X.length≤16:=hr.nX
 have nQ:Q.length≤16:=hr.nQ
 intros
 repeat' first|assumption|exact rfl|trivial|omega|exact findS_lt|exact findO_lt|exact findX_lt|exact findP_lt|apply And.intro|intro _
theorem ok149 [Sx.Dr]:Ok Tryz.prog 149 (ConO.con cDoAddS):=ok_obj (ok_of_wpO mixed W72.ok (by kernel_rfl) (by kernel_rfl) (lib_ok (l:=([]:List (Nat×Func))) (by simp)) (fun xx yy=>na ()) (fun xx yy=>fun _=>na ()) fun T xx yy hT=>by obtain rfl:=hT _ rfl;exact wp149 xx.1 xx.2.1 xx.2.2.1 xx.2.2.2.1 xx.2.2.2.2.1 xx.2.2.2.2.2.1 xx.2.2.2.2.2.2 yy.1.1 yy.1.2.1 yy.1.2.2.1 yy.1.2.2.2.1 yy.1.2.2.2.2)
abbrev W73 [Sx.Dr]:=W72.add ok149
def doSetP:Reg→Ev→Reg:=fun(tk,st,S,O,M,X,Q) (n,k,ns,vs,tx)=>(tk,st,S.set (findS S (ns.getD 0 bnil)).toNat ((staS S (ns.getD 0 bnil)).1,(staS S (ns.getD 0 bnil)).2.1,vs.getD 1 0),O,M,X,Q)
def cDoSetP:ConO:=dCon (fun r e=>[RegOk r,1≤e.2.2.1.length,2≤e.2.2.2.1.length,0≤findS r.2.2.1 (e.2.2.1.getD 0 bnil)]) doSetP
def Z301 (a:List Sta) (b:Ls):=Gt a (findS a (Z85 b)) Z9
theorem wp153 [Sx.Dr] (tk st:Int) (S:List Sta) (O:List Ord) (M:List Met) (X:List Out) (Q:List Per) (n:Int) (k:ByteArray) (ns:List ByteArray) (vs:List Int) (tx:ByteArray):wpFO Tryz.prog W73.g (na ()) (fun _=>na ()) (Sx.look ([]:List (Nat×Func))) Tryz.f153 cDoSetP 105 (tk,st,S,O,M,X,Q) ((n,k,ns,vs,tx),()):=by
 refine(by kernel_rfl:(Z119 tk st S O M X Q→Z105 ns→Z55 vs→0≤findS S (Z104 ns)→T2 (Z79 ns) (Z43 S∧T2 (Z23 vs) (Tw (Bd (findS S (Z85 ns)) (Ln S))))∧Sf true (Sf 105 ((tk,st,List.set S (Int.toNat (findS S (Z85 ns))) ((Z301 S ns).1,(Z301 S ns).2.1,Z91 vs),O,M,X,Q)=doSetP (tk,st,S,O,M,X,Q) (n,k,ns,vs,tx))))=_).mp ?_
 delta Z9 Z23 Z43 Z55 Z79 Z85 Z91 Z104 Z105 Z119 Z301 Bd T2 Tw Sf Ln Gt B0
 intro hr
 have nS:S.length≤6:=hr.nS
 have nO:O.length≤32:=hr.nO
 have nM:M.length≤10000:=hr.nM
 have nX:X.length≤16:=hr.nX
 have nQ:Q.length≤16:=hr.nQ
 intros
 repeat' first|assumption|exact rfl|trivial|omega|exact findS_lt|exact findO_lt|exact findX_lt|exact findP_lt|apply And.intro|intro _
theorem ok153 [Sx.Dr]:Ok Tryz.prog 153 (ConO.con cDoSetP):=ok_obj (ok_of_wpO mixed W73.ok (by kernel_rfl) (by kernel_rfl) (lib_ok (l:=([]:List (Nat×Func))) (by simp)) (fun xx yy=>na ()) (fun xx yy=>fun _=>na ()) fun T xx yy hT=>by obtain rfl:=hT _ rfl;exact wp153 xx.1 xx.2.1 xx.2.2.1 xx.2.2.2.1 xx.2.2.2.2.1 xx.2.2.2.2.2.1 xx.2.2.2.2.2.2 yy.1.1 yy.1.2.1 yy.1.2.2.1 yy.1.2.2.2.1 yy.1.2.2.2.2)
abbrev W74 [Sx.Dr]:=W73.add ok153
def doAddO:Reg→Ev→Reg:=fun(tk,st,S,O,M,X,Q) (n,k,ns,vs,tx)=>(tk,st,S,O++[(ns.getD 0 bnil,ns.getD 1 bnil,ns.getD 2 bnil,spanE (n,k,ns,vs,tx),vs.getD 3 0,(staS S (ns.getD 1 bnil)).2.2,-1)],M,X,Q)
def cDoAddO:ConO:=dCon (fun r e=>[RegOk r,e.2.2.1.length=3,e.2.2.2.1.length=4,0≤findS r.2.2.1 (e.2.2.1.getD 1 bnil)]) doAddO
theorem wp155 [Sx.Dr] (tk st:Int) (S:List Sta) (O:List Ord) (M:List Met) (X:List Out) (Q:List Per) (n:Int) (k:ByteArray) (ns:List ByteArray) (vs:List Int) (tx:ByteArray):wpFO Tryz.prog W74.g (na ()) (fun _=>na ()) (Sx.look ([]:List (Nat×Func))) Tryz.f155 cDoAddO 105 (tk,st,S,O,M,X,Q) ((n,k,ns,vs,tx),()):=by
 refine(by kernel_rfl:(Z119 tk st S O M X Q→Z99 ns→Z46 vs→Z210 S ns→T2 (Z79 ns) (T2 (Z89 ns) (T2 (Bd 2 (Ln ns)) (Z49 vs∧T2 (Z24 vs) (T2 (Z89 ns) (Z43 S∧Z202 S ns∧(List.length O+1)*88≤140737488355328)))))∧Sf true (Sf 105 ((tk,st,S,O++[(Z85 ns,Z88 ns,Z84 ns,E2 (Z42 n k ns vs tx),Z96 vs,(staS S (Z88 ns)).2.2,Z64)],M,X,Q)=doAddO (tk,st,S,O,M,X,Q) (n,k,ns,vs,tx))))=_).mp ?_
 delta Z24 Z42 Z43 Z46 Z49 Z64 Z79 Z84 Z85 Z88 Z89 Z96 Z99 Z106 Z119 Z202 Z210 Bd T2 Sf Ln B0 E2
 intro hr
 have nS:S.length≤6:=hr.nS
 have nO:O.length≤32:=hr.nO
 have nM:M.length≤10000:=hr.nM
 have nX:X.length≤16:=hr.nX
 have nQ:Q.length≤16:=hr.nQ
 intros
 repeat' first|assumption|exact rfl|trivial|omega|exact findS_lt|exact findO_lt|exact findX_lt|exact findP_lt|apply And.intro|intro _
theorem ok155 [Sx.Dr]:Ok Tryz.prog 155 (ConO.con cDoAddO):=ok_obj (ok_of_wpO mixed W74.ok (by kernel_rfl) (by kernel_rfl) (lib_ok (l:=([]:List (Nat×Func))) (by simp)) (fun xx yy=>na ()) (fun xx yy=>fun _=>na ()) fun T xx yy hT=>by obtain rfl:=hT _ rfl;exact wp155 xx.1 xx.2.1 xx.2.2.1 xx.2.2.2.1 xx.2.2.2.2.1 xx.2.2.2.2.2.1 xx.2.2.2.2.2.2 yy.1.1 yy.1.2.1 yy.1.2.2.1 yy.1.2.2.2.1 yy.1.2.2.2.2)
abbrev W75 [Sx.Dr]:=W74.add ok155
def doAddM:Reg→Ev→Reg:=fun(tk,st,S,O,M,X,Q) (n,k,ns,vs,tx)=>(tk,st,S,O,M++[(ns.getD 0 bnil,vs.getD 1 0,vs.getD 2 0,vs.getD 3 0)],X,Q)
def cDoAddM:ConO:=dCon (fun r e=>[RegOk r,1≤e.2.2.1.length,4≤e.2.2.2.1.length]) doAddM
theorem wp158 [Sx.Dr] (tk st:Int) (S:List Sta) (O:List Ord) (M:List Met) (X:List Out) (Q:List Per) (n:Int) (k:ByteArray) (ns:List ByteArray) (vs:List Int) (tx:ByteArray):wpFO Tryz.prog W75.g (na ()) (fun _=>na ()) (Sx.look ([]:List (Nat×Func))) Tryz.f158 cDoAddM 105 (tk,st,S,O,M,X,Q) ((n,k,ns,vs,tx),()):=by
 refine(by kernel_rfl:(Z119 tk st S O M X Q→Z105 ns→Z47 vs→T2 (Z79 ns) (T2 (Z23 vs) (T2 (Bd 2 (Ln vs)) (T2 (Z24 vs) ((List.length M+1)*40≤140737488355328))))∧Sf true (Sf 105 ((tk,st,S,O,M++[(Z85 ns,Z91 vs,Z93 vs,Z96 vs)],X,Q)=doAddM (tk,st,S,O,M,X,Q) (n,k,ns,vs,tx))))=_).mp ?_
 delta Z23 Z24 Z47 Z79 Z85 Z91 Z93 Z96 Z105 Z119 Bd T2 Sf Ln B0
 intro hr
 have nS:S.length≤6:=hr.nS
 have nO:O.length≤32:=hr.nO
 have nM:M.length≤10000:=hr.nM
 have nX:X.length≤16:=hr.nX
 have nQ:Q.length≤16:=hr.nQ
 intros
 repeat' first|assumption|exact rfl|trivial|omega|exact findS_lt|exact findO_lt|exact findX_lt|exact findP_lt|apply And.intro|intro _
theorem ok158 [Sx.Dr]:Ok Tryz.prog 158 (ConO.con cDoAddM):=ok_obj (ok_of_wpO mixed W75.ok (by kernel_rfl) (by kernel_rfl) (lib_ok (l:=([]:List (Nat×Func))) (by simp)) (fun xx yy=>na ()) (fun xx yy=>fun _=>na ()) fun T xx yy hT=>by obtain rfl:=hT _ rfl;exact wp158 xx.1 xx.2.1 xx.2.2.1 xx.2.2.2.1 xx.2.2.2.2.1 xx.2.2.2.2.2.1 xx.2.2.2.2.2.2 yy.1.1 yy.1.2.1 yy.1.2.2.1 yy.1.2.2.2.1 yy.1.2.2.2.2)
abbrev W76 [Sx.Dr]:=W75.add ok158
def doTrip:Reg→Ev→Reg:=fun(tk,st,S,O,M,X,Q) (n,k,ns,vs,tx)=>(tk,st,S,setTrip O (ns.getD 0 bnil) (vs.getD 0 0),M,X,Q)
def cDoTrip:ConO:=dCon (fun r e=>[RegOk r,1≤e.2.2.1.length,1≤e.2.2.2.1.length,0≤findO r.2.2.2.1 (e.2.2.1.getD 0 bnil)]) doTrip
def Z479 (a:List Ord) (b:Ls):=Gt a (Z147 a b) Z254
def Z494 (a:List Ord) (b:Ls):=(Z479 a b).2
def Z505 (a:List Ord) (b:Ls):=(Z494 a b).2
def Z511 (a:List Ord) (b:Ls):=(Z505 a b).2
def Z523 (a:List Ord) (b:Ls):=(Z511 a b).2
theorem wp160 [Sx.Dr] (tk st:Int) (S:List Sta) (O:List Ord) (M:List Met) (X:List Out) (Q:List Per) (n:Int) (k:ByteArray) (ns:List ByteArray) (vs:List Int) (tx:ByteArray):wpFO Tryz.prog W76.g (na ()) (fun _=>na ()) (Sx.look ([]:List (Nat×Func))) Tryz.f160 cDoTrip 105 (tk,st,S,O,M,X,Q) ((n,k,ns,vs,tx),()):=by
 refine(by kernel_rfl:(Z119 tk st S O M X Q→Z105 ns→Z56 vs→Z205 O ns→T2 (Z79 ns) (Z51 O∧T2 (Z22 vs) (Tw (Bd (Z147 O ns) (Ln O))))∧Sf true (Sf 105 ((tk,st,S,List.set O (Int.toNat (Z147 O ns)) ((Z479 O ns).1,(Z494 O ns).1,(Z505 O ns).1,E2 (Z511 O ns).1,(Z523 O ns).1,(Z523 O ns).2.1,Z86 vs),M,X,Q)=doTrip (tk,st,S,O,M,X,Q) (n,k,ns,vs,tx))))=_).mp ?_
 delta Z22 Z51 Z56 Z60 Z79 Z85 Z86 Z104 Z105 Z119 Z147 Z205 Z254 Z479 Z494 Z505 Z511 Z523 Bd T2 Tw Sf Ln Gt B0 E2
 intro hr
 have nS:S.length≤6:=hr.nS
 have nO:O.length≤32:=hr.nO
 have nM:M.length≤10000:=hr.nM
 have nX:X.length≤16:=hr.nX
 have nQ:Q.length≤16:=hr.nQ
 intros
 repeat' first|assumption|exact rfl|trivial|omega|exact findS_lt|exact findO_lt|exact findX_lt|exact findP_lt|apply And.intro|intro _
theorem ok160 [Sx.Dr]:Ok Tryz.prog 160 (ConO.con cDoTrip):=ok_obj (ok_of_wpO mixed W76.ok (by kernel_rfl) (by kernel_rfl) (lib_ok (l:=([]:List (Nat×Func))) (by simp)) (fun xx yy=>na ()) (fun xx yy=>fun _=>na ()) fun T xx yy hT=>by obtain rfl:=hT _ rfl;exact wp160 xx.1 xx.2.1 xx.2.2.1 xx.2.2.2.1 xx.2.2.2.2.1 xx.2.2.2.2.2.1 xx.2.2.2.2.2.2 yy.1.1 yy.1.2.1 yy.1.2.2.1 yy.1.2.2.2.1 yy.1.2.2.2.2)
abbrev W77 [Sx.Dr]:=W76.add ok160
def doAddX:Reg→Ev→Reg:=fun(tk,st,S,O,M,X,Q) (n,k,ns,vs,tx)=>(tk,st,S,O,M,X++[(ns.getD 0 bnil,ns.getD 1 bnil,spanE (n,k,ns,vs,tx),vs.getD 3 0)],Q)
def cDoAddX:ConO:=dCon (fun r e=>[RegOk r,e.2.2.1.length=2,e.2.2.2.1.length=4]) doAddX
theorem wp162 [Sx.Dr] (tk st:Int) (S:List Sta) (O:List Ord) (M:List Met) (X:List Out) (Q:List Per) (n:Int) (k:ByteArray) (ns:List ByteArray) (vs:List Int) (tx:ByteArray):wpFO Tryz.prog W77.g (na ()) (fun _=>na ()) (Sx.look ([]:List (Nat×Func))) Tryz.f162 cDoAddX 105 (tk,st,S,O,M,X,Q) ((n,k,ns,vs,tx),()):=by
 refine(by kernel_rfl:(Z119 tk st S O M X Q→Z107 ns→Z46 vs→T2 (Z79 ns) (T2 (Z89 ns) (Z49 vs∧T2 (Z24 vs) ((List.length X+1)*56≤140737488355328)))∧Sf true (Sf 105 ((tk,st,S,O,M,X++[(Z85 ns,Z88 ns,E2 (Z42 n k ns vs tx),Z96 vs)],Q)=doAddX (tk,st,S,O,M,X,Q) (n,k,ns,vs,tx))))=_).mp ?_
 delta Z24 Z42 Z46 Z49 Z79 Z85 Z88 Z89 Z96 Z107 Z119 Bd T2 Sf Ln B0 E2
 intro hr
 have nS:S.length≤6:=hr.nS
 have nO:O.length≤32:=hr.nO
 have nM:M.length≤10000:=hr.nM
 have nX:X.length≤16:=hr.nX
 have nQ:Q.length≤16:=hr.nQ
 intros
 repeat' first|assumption|exact rfl|trivial|omega|exact findS_lt|exact findO_lt|exact findX_lt|exact findP_lt|apply And.intro|intro _
theorem ok162 [Sx.Dr]:Ok Tryz.prog 162 (ConO.con cDoAddX):=ok_obj (ok_of_wpO mixed W77.ok (by kernel_rfl) (by kernel_rfl) (lib_ok (l:=([]:List (Nat×Func))) (by simp)) (fun xx yy=>na ()) (fun xx yy=>fun _=>na ()) fun T xx yy hT=>by obtain rfl:=hT _ rfl;exact wp162 xx.1 xx.2.1 xx.2.2.1 xx.2.2.2.1 xx.2.2.2.2.1 xx.2.2.2.2.2.1 xx.2.2.2.2.2.2 yy.1.1 yy.1.2.1 yy.1.2.2.1 yy.1.2.2.2.1 yy.1.2.2.2.2)
abbrev W78 [Sx.Dr]:=W77.add ok162
def doRest:Reg→Ev→Reg:=fun(tk,st,S,O,M,X,Q) (n,k,ns,vs,tx)=>(tk,st,S,O,M,setTo X (ns.getD 0 bnil) (vs.getD 0 0),Q)
def cDoRest:ConO:=dCon (fun r e=>[RegOk r,1≤e.2.2.1.length,1≤e.2.2.2.1.length,0≤findX r.2.2.2.2.2.1 (e.2.2.1.getD 0 bnil)]) doRest
def Z368 (a:List Out) (b:Ls):=Gt a (Z143 a b) Z134
def Z372 (a:List Out) (b:Ls):=(Z368 a b).2
def Z374 (a:List Out) (b:Ls):=(Z372 a b).2
theorem wp165 [Sx.Dr] (tk st:Int) (S:List Sta) (O:List Ord) (M:List Met) (X:List Out) (Q:List Per) (n:Int) (k:ByteArray) (ns:List ByteArray) (vs:List Int) (tx:ByteArray):wpFO Tryz.prog W78.g (na ()) (fun _=>na ()) (Sx.look ([]:List (Nat×Func))) Tryz.f165 cDoRest 105 (tk,st,S,O,M,X,Q) ((n,k,ns,vs,tx),()):=by
 refine(by kernel_rfl:(Z119 tk st S O M X Q→Z105 ns→Z56 vs→Z209 X ns→T2 (Z79 ns) (Z50 X∧T2 (Z22 vs) (Tw (Bd (Z143 X ns) (Ln X))))∧Sf true (Sf 105 ((tk,st,S,O,M,List.set X (Int.toNat (Z143 X ns)) ((Z368 X ns).1,(Z372 X ns).1,((Z374 X ns).1.1,Z86 vs),(Z374 X ns).2),Q)=doRest (tk,st,S,O,M,X,Q) (n,k,ns,vs,tx))))=_).mp ?_
 delta Z22 Z50 Z56 Z79 Z85 Z86 Z104 Z105 Z119 Z134 Z143 Z209 Z368 Z372 Z374 Bd T2 Tw Sf Ln Gt B0
 intro hr
 have nS:S.length≤6:=hr.nS
 have nO:O.length≤32:=hr.nO
 have nM:M.length≤10000:=hr.nM
 have nX:X.length≤16:=hr.nX
 have nQ:Q.length≤16:=hr.nQ
 intros
 repeat' first|assumption|exact rfl|trivial|omega|exact findS_lt|exact findO_lt|exact findX_lt|exact findP_lt|apply And.intro|intro _
theorem ok165 [Sx.Dr]:Ok Tryz.prog 165 (ConO.con cDoRest):=ok_obj (ok_of_wpO mixed W78.ok (by kernel_rfl) (by kernel_rfl) (lib_ok (l:=([]:List (Nat×Func))) (by simp)) (fun xx yy=>na ()) (fun xx yy=>fun _=>na ()) fun T xx yy hT=>by obtain rfl:=hT _ rfl;exact wp165 xx.1 xx.2.1 xx.2.2.1 xx.2.2.2.1 xx.2.2.2.2.1 xx.2.2.2.2.2.1 xx.2.2.2.2.2.2 yy.1.1 yy.1.2.1 yy.1.2.2.1 yy.1.2.2.2.1 yy.1.2.2.2.2)
abbrev W79 [Sx.Dr]:=W78.add ok165
def doAddP:Reg→Ev→Reg:=fun(tk,st,S,O,M,X,Q) (n,k,ns,vs,tx)=>(tk,st,S,O,M,X,Q++[(ns.getD 0 bnil,ns.getD 1 bnil,true)])
def cDoAddP:ConO:=dCon (fun r e=>[RegOk r,2≤e.2.2.1.length]) doAddP
theorem wp167 [Sx.Dr] (tk st:Int) (S:List Sta) (O:List Ord) (M:List Met) (X:List Out) (Q:List Per) (n:Int) (k:ByteArray) (ns:List ByteArray) (vs:List Int) (tx:ByteArray):wpFO Tryz.prog W79.g (na ()) (fun _=>na ()) (Sx.look ([]:List (Nat×Func))) Tryz.f167 cDoAddP 105 (tk,st,S,O,M,X,Q) ((n,k,ns,vs,tx),()):=by
 refine(by kernel_rfl:(Z119 tk st S O M X Q→Z100 ns→T2 (Z79 ns) (T2 (Z89 ns) ((List.length Q+1)*40≤140737488355328))∧Sf true (Sf 105 ((tk,st,S,O,M,X,Q++[(Z85 ns,Z88 ns,true)])=doAddP (tk,st,S,O,M,X,Q) (n,k,ns,vs,tx))))=_).mp ?_
 delta Z79 Z85 Z88 Z89 Z100 Z119 Bd T2 Sf Ln B0
 intro hr
 have nS:S.length≤6:=hr.nS
 have nO:O.length≤32:=hr.nO
 have nM:M.length≤10000:=hr.nM
 have nX:X.length≤16:=hr.nX
 have nQ:Q.length≤16:=hr.nQ
 intros
 repeat' first|assumption|exact rfl|trivial|omega|exact findS_lt|exact findO_lt|exact findX_lt|exact findP_lt|apply And.intro|intro _
theorem ok167 [Sx.Dr]:Ok Tryz.prog 167 (ConO.con cDoAddP):=ok_obj (ok_of_wpO mixed W79.ok (by kernel_rfl) (by kernel_rfl) (lib_ok (l:=([]:List (Nat×Func))) (by simp)) (fun xx yy=>na ()) (fun xx yy=>fun _=>na ()) fun T xx yy hT=>by obtain rfl:=hT _ rfl;exact wp167 xx.1 xx.2.1 xx.2.2.1 xx.2.2.2.1 xx.2.2.2.2.1 xx.2.2.2.2.2.1 xx.2.2.2.2.2.2 yy.1.1 yy.1.2.1 yy.1.2.2.1 yy.1.2.2.2.1 yy.1.2.2.2.2)
abbrev W80 [Sx.Dr]:=W79.add ok167
def doRet:Reg→Ev→Reg:=fun(tk,st,S,O,M,X,Q) (n,k,ns,vs,tx)=>(tk,st,S,O,M,X,setShut Q (ns.getD 0 bnil))
def cDoRet:ConO:=dCon (fun r e=>[RegOk r,1≤e.2.2.1.length,0≤findP r.2.2.2.2.2.2 (e.2.2.1.getD 0 bnil)]) doRet
theorem wp170 [Sx.Dr] (tk st:Int) (S:List Sta) (O:List Ord) (M:List Met) (X:List Out) (Q:List Per) (n:Int) (k:ByteArray) (ns:List ByteArray) (vs:List Int) (tx:ByteArray):wpFO Tryz.prog W80.g (na ()) (fun _=>na ()) (Sx.look ([]:List (Nat×Func))) Tryz.f170 cDoRet 105 (tk,st,S,O,M,X,Q) ((n,k,ns,vs,tx),()):=by
 refine(by kernel_rfl:(Z119 tk st S O M X Q→Z105 ns→Z207 Q ns→T2 (Z79 ns) (Z41 Q∧Tw (Bd (Z144 Q ns) (Ln Q)))∧Sf true (Sf 105 ((tk,st,S,O,M,X,List.set Q (Int.toNat (Z144 Q ns)) ((Gt Q (Z144 Q ns) (B0,B0,false)).1,(Gt Q (Z144 Q ns) (B0,B0,false)).2.1,false))=doRet (tk,st,S,O,M,X,Q) (n,k,ns,vs,tx))))=_).mp ?_
 delta Z41 Z79 Z85 Z104 Z105 Z119 Z144 Z207 Bd T2 Tw Sf Ln Gt B0
 intro hr
 have nS:S.length≤6:=hr.nS
 have nO:O.length≤32:=hr.nO
 have nM:M.length≤10000:=hr.nM
 have nX:X.length≤16:=hr.nX
 have nQ:Q.length≤16:=hr.nQ
 intros
 repeat' first|assumption|exact rfl|trivial|omega|exact findS_lt|exact findO_lt|exact findX_lt|exact findP_lt|apply And.intro|intro _
theorem ok170 [Sx.Dr]:Ok Tryz.prog 170 (ConO.con cDoRet):=ok_obj (ok_of_wpO mixed W80.ok (by kernel_rfl) (by kernel_rfl) (lib_ok (l:=([]:List (Nat×Func))) (by simp)) (fun xx yy=>na ()) (fun xx yy=>fun _=>na ()) fun T xx yy hT=>by obtain rfl:=hT _ rfl;exact wp170 xx.1 xx.2.1 xx.2.2.1 xx.2.2.2.1 xx.2.2.2.2.1 xx.2.2.2.2.2.1 xx.2.2.2.2.2.2 yy.1.1 yy.1.2.1 yy.1.2.2.1 yy.1.2.2.2.1 yy.1.2.2.2.2)
abbrev W81 [Sx.Dr]:=W80.add ok170
def doSett:Reg→Ev→Reg:=fun(tk,st,S,O,M,X,Q) (n,k,ns,vs,tx)=>(tk,vs.getD 1 0,S,O,M,X,Q)
def cDoSett:ConO:=dCon (fun r e=>[RegOk r,2≤e.2.2.2.1.length]) doSett
theorem wp172 [Sx.Dr] (tk st:Int) (S:List Sta) (O:List Ord) (M:List Met) (X:List Out) (Q:List Per) (n:Int) (k:ByteArray) (ns:List ByteArray) (vs:List Int) (tx:ByteArray):wpFO Tryz.prog W81.g (na ()) (fun _=>na ()) (Sx.look ([]:List (Nat×Func))) Tryz.f172 cDoSett 105 (tk,st,S,O,M,X,Q) ((n,k,ns,vs,tx),()):=by
 refine(by kernel_rfl:(Z119 tk st S O M X Q→Z55 vs→Tw (Z23 vs)∧Sf true (Sf 105 ((tk,Z91 vs,S,O,M,X,Q)=doSett (tk,st,S,O,M,X,Q) (n,k,ns,vs,tx))))=_).mp ?_
 delta Z23 Z55 Z91 Z119 Bd Tw Sf Ln
 intro hr
 have nS:S.length≤6:=hr.nS
 have nO:O.length≤32:=hr.nO
 have nM:M.length≤10000:=hr.nM
 have nX:X.length≤16:=hr.nX
 have nQ:Q.length≤16:=hr.nQ
 intros
 repeat' first|assumption|exact rfl|trivial|omega|exact findS_lt|exact findO_lt|exact findX_lt|exact findP_lt|apply And.intro|intro _
theorem ok172 [Sx.Dr]:Ok Tryz.prog 172 (ConO.con cDoSett):=ok_obj (ok_of_wpO mixed W81.ok (by kernel_rfl) (by kernel_rfl) (lib_ok (l:=([]:List (Nat×Func))) (by simp)) (fun xx yy=>na ()) (fun xx yy=>fun _=>na ()) fun T xx yy hT=>by obtain rfl:=hT _ rfl;exact wp172 xx.1 xx.2.1 xx.2.2.1 xx.2.2.2.1 xx.2.2.2.2.1 xx.2.2.2.2.2.1 xx.2.2.2.2.2.2 yy.1.1 yy.1.2.1 yy.1.2.2.1 yy.1.2.2.2.1 yy.1.2.2.2.2)
abbrev W82 [Sx.Dr]:=W81.add ok172
end Go.Proofs.YtcibbcfiemeoiaaGreatDoor
namespace Go.Proofs.YtcibbcfiemeoiaaGreatDoor
instance drOff:Sx.Dr:=Sx.Dr.off
open Go.Sx
def cClone (T:TypeId) (s:Sch):Con:={args:=[.val false (.list T s)],ress:=[(false, .list T s)],owns:=[true],pre:=fun(l,_)=>[l.length≤1000000],spec:=fun(l,_)=>(l,())}
theorem repL_ints {M:Nat→Prop} {w:World}:∀{xs:List Int} {flat:List Value},RepL (Rep M w (.int .i64)) xs flat→flat=xs.map (Value.int .i64)
 |[],_,h=>h
 |x::xs,_,⟨c1,c2,rfl,h1,h2⟩=>by
  have h1:c1=[.int .i64 x]:=h1
  rw[h1,repL_ints h2];rfl
theorem repL_mkI {M:Nat→Prop} {w:World}:∀(xs:List Int),RepL (Rep M w (.int .i64)) xs (xs.map (Value.int .i64))
 |[]=>rfl
 |x::xs=>⟨[.int .i64 x],xs.map (Value.int .i64),rfl,rfl,repL_mkI xs⟩
theorem repL_strs {M:Nat→Prop} {w:World}:∀{xs:List ByteArray} {flat:List Value},RepL (Rep M w .str) xs flat→flat=xs.map Value.string
 |[],_,h=>h
 |x::xs,_,⟨c1,c2,rfl,h1,h2⟩=>by
  have h1:c1=[.string x]:=h1
  rw[h1,repL_strs h2];rfl
theorem repL_mkS {M:Nat→Prop} {w:World}:∀(xs:List ByteArray),RepL (Rep M w .str) xs (xs.map Value.string)
 |[]=>rfl
 |x::xs=>⟨[.string x],xs.map Value.string,rfl,rfl,repL_mkS xs⟩
theorem ok174:Ok Tryz.prog 174 (cClone 3 sI):=by
 refine⟨⟨Tryz.f174,by kernel_rfl,by kernel_rfl,by kernel_rfl⟩,fun z hz=>(by cases hz),fun F hF=>(by cases hF),fun _ x M R w vs hM hg hpre hargs=> ?_⟩
 obtain⟨l,u⟩:=x
 obtain⟨v1,vs1,rfl,⟨cs,rfl,hr⟩,hn⟩:=hargs
 have hn:vs1=[]:=hn
 subst hn
 obtain⟨v,flat,rfl,h1,h2⟩:=hr
 have hfl:=repL_ints h1
 have hl:l.length≤1000000:=hpre
 have fin:∀(v':Value) (w':World),w'.ownsRow w.heap.size 3 1 v' l.length (l.map (Value.int .i64))→RowKit.Below w.heap.size w w'→Post M w (cClone 3 sI).ress (cClone 3 sI).owns ((cClone 3 sI).spec (l,u)) (.returned v') w':=by
  intro v' w' ho hb
  refine⟨M,[v'],rfl, .ofK hb,fun _ h=>h,fun b h=> .inl h,_,[],rfl,⟨l.map (Value.int .i64),repL_mkI l,ho,fun g hg' hMg=> ?_⟩,rfl⟩
  rcases ho.2 with⟨rfl,_⟩|⟨g',cap,cur,rfl,hbg,_⟩
  ·cases hg'
  ·have:g'=g:=Option.some.inj hg'
   have:=hM g (.inl hMg)
   omega
 rcases h2 with⟨rfl|⟨ad,cap,rfl⟩,h0⟩|⟨b,off,cap,rfl,hcap,hk,hm⟩
 ·have:l=[]:=List.eq_nil_of_length_eq_zero h0
  subst this
  refine(Tryz.clone174_nil 0 0 w).mono ?_
  rintro e w' ⟨rfl,rfl⟩
  exact fin _ _ ⟨rfl, .inl ⟨rfl,rfl⟩⟩ (RowKit.Below.refl _ _)
 ·have:l=[]:=List.eq_nil_of_length_eq_zero h0
  subst this
  refine(Tryz.clone174_zero ad cap w).mono ?_
  rintro e w' ⟨v',rfl,ho,_,hb⟩
  exact fin _ _ ho hb
 ·refine(Tryz.clone174 b off l.length cap l w (Nat.le_refl _) (by omega) (fun j hj=>hk j _ (by rw[hfl,List.getElem?_map,List.getElem?_eq_getElem hj];simp[List.getD_eq_getElem?_getD,List.getElem?_eq_getElem hj]))).mono ?_
  rintro e w' ⟨v',rfl,ho,_,hb⟩
  rw[List.take_of_length_le (Nat.le_refl _)] at ho
  exact fin _ _ ho hb
abbrev W83:=W82.add ok174
theorem ok173:Ok Tryz.prog 173 (cClone 9 .str):=by
 refine⟨⟨Tryz.f173,by kernel_rfl,by kernel_rfl,by kernel_rfl⟩,fun z hz=>(by cases hz),fun F hF=>(by cases hF),fun _ x M R w vs hM hg hpre hargs=> ?_⟩
 obtain⟨l,u⟩:=x
 obtain⟨v1,vs1,rfl,⟨cs,rfl,hr⟩,hn⟩:=hargs
 have hn:vs1=[]:=hn
 subst hn
 obtain⟨v,flat,rfl,h1,h2⟩:=hr
 have hfl:=repL_strs h1
 have hl:l.length≤1000000:=hpre
 have fin:∀(v':Value) (w':World),w'.ownsRow w.heap.size 9 1 v' l.length (l.map Value.string)→RowKit.Below w.heap.size w w'→Post M w (cClone 9 .str).ress (cClone 9 .str).owns ((cClone 9 .str).spec (l,u)) (.returned v') w':=by
  intro v' w' ho hb
  refine⟨M,[v'],rfl, .ofK hb,fun _ h=>h,fun b h=> .inl h,_,[],rfl,⟨l.map Value.string,repL_mkS l,ho,fun g hg' hMg=> ?_⟩,rfl⟩
  rcases ho.2 with⟨rfl,_⟩|⟨g',cap,cur,rfl,hbg,_⟩
  ·cases hg'
  ·have:g'=g:=Option.some.inj hg'
   have:=hM g (.inl hMg)
   omega
 rcases h2 with⟨rfl|⟨ad,cap,rfl⟩,h0⟩|⟨b,off,cap,rfl,hcap,hk,hm⟩
 ·have:l=[]:=List.eq_nil_of_length_eq_zero h0
  subst this
  refine(Tryz.clone173_nil 0 0 w).mono ?_
  rintro e w' ⟨rfl,rfl⟩
  exact fin _ _ ⟨rfl, .inl ⟨rfl,rfl⟩⟩ (RowKit.Below.refl _ _)
 ·have:l=[]:=List.eq_nil_of_length_eq_zero h0
  subst this
  refine(Tryz.clone173_zero ad cap w).mono ?_
  rintro e w' ⟨v',rfl,ho,_,hb⟩
  exact fin _ _ ho hb
 ·refine(Tryz.clone173 b off l.length cap l w (Nat.le_refl _) (by omega) (fun j hj=>hk j _ (by rw[hfl,List.getElem?_map,List.getElem?_eq_getElem hj];simp[List.getD_eq_getElem?_getD,List.getElem?_eq_getElem hj]))).mono ?_
  rintro e w' ⟨v',rfl,ho,_,hb⟩
  rw[List.take_of_length_le (Nat.le_refl _)] at ho
  exact fin _ _ ho hb
abbrev W84:=W83.add ok173
def cOwned:Con:={args:=[aEv],ress:=[(true,sEv)],owns:=[],pre:=fun(e,_)=>[e.2.2.1.length≤1000000,e.2.2.2.1.length≤1000000],spec:=fun(e,_)=>(e,())}
def Z249 (a:Ls) (b:Li):=Z102 a∧Z53 b
theorem ok81:Ok Tryz.prog 81 cOwned:=okW W84 Tryz.f81 na fun xx=>by
 obtain⟨⟨(n:Int),(k:ByteArray),(ns:List ByteArray),(vs:List Int),(tx:ByteArray)⟩,_⟩:=xx
 refine(by kernel_rfl:(Z102 ns→Z53 vs→Z249 ns vs∧(n,k,ns,vs,tx)=(n,k,ns,vs,tx))=_).mp ?_
 delta Z53 Z102 Z249
 exact fun h1 h2=>⟨⟨h1,h2⟩,rfl⟩
abbrev W85:=W84.add ok81
def cCopy (T:TypeId) (s:Sch):Con:={args:=[.val false (.list T s)],ress:=[(false, .list T s)],owns:=[true],pre:=fun(l,_)=>[l.length≤1000000],spec:=fun(l,_)=>(l,())}
theorem ok216:Ok Tryz.prog 216 (cCopy 127 sSta):=okW W85 Tryz.f216 na fun xx=>by
 obtain⟨(l:List Sta),_⟩:=xx
 refine(by kernel_rfl:(Z43 l→((0≤Ln l∧Ln l≤1000000)∧Ln l≤Ln l∧Ln l≤1000000)∧List.length l=List.length (List.replicate (List.length l) Z9)∧l=l)=_).mp ?_
 delta Z9 Z43 Ln B0
 intro h
 exact⟨⟨⟨by omega,by omega⟩,by omega,by omega⟩,by simp,rfl⟩
abbrev W86:=W85.add ok216
theorem ok217:Ok Tryz.prog 217 (cCopy 130 sOrd):=okW W86 Tryz.f217 na fun xx=>by
 obtain⟨(l:List Ord),_⟩:=xx
 refine(by kernel_rfl:(Z51 l→((0≤Ln l∧Ln l≤1000000)∧Ln l≤Ln l∧Ln l≤1000000)∧List.length l=List.length (List.replicate (List.length l) Z254)∧l=l)=_).mp ?_
 delta Z51 Z60 Z254 Ln B0
 intro h
 exact⟨⟨⟨by omega,by omega⟩,by omega,by omega⟩,by simp,rfl⟩
abbrev W87:=W86.add ok217
theorem ok218:Ok Tryz.prog 218 (cCopy 155 sMet):=okW W87 Tryz.f218 na fun xx=>by
 obtain⟨(l:List Met),_⟩:=xx
 refine(by kernel_rfl:(List.length l≤1000000→((0≤Ln l∧Ln l≤1000000)∧Ln l≤Ln l∧Ln l≤1000000)∧List.length l=List.length (List.replicate (List.length l) Z110)∧l=l)=_).mp ?_
 delta Z60 Z110 Ln B0
 intro h
 exact⟨⟨⟨by omega,by omega⟩,by omega,by omega⟩,by simp,rfl⟩
abbrev W88:=W87.add ok218
theorem ok219:Ok Tryz.prog 219 (cCopy 188 sOut):=okW W88 Tryz.f219 na fun xx=>by
 obtain⟨(l:List Out),_⟩:=xx
 refine(by kernel_rfl:(Z50 l→((0≤Ln l∧Ln l≤1000000)∧Ln l≤Ln l∧Ln l≤1000000)∧List.length l=List.length (List.replicate (List.length l) Z134)∧l=l)=_).mp ?_
 delta Z50 Z134 Ln B0
 intro h
 exact⟨⟨⟨by omega,by omega⟩,by omega,by omega⟩,by simp,rfl⟩
abbrev W89:=W88.add ok219
theorem ok220:Ok Tryz.prog 220 (cCopy 235 sPer):=okW W89 Tryz.f220 na fun xx=>by
 obtain⟨(l:List Per),_⟩:=xx
 refine(by kernel_rfl:(Z41 l→((0≤Ln l∧Ln l≤1000000)∧Ln l≤Ln l∧Ln l≤1000000)∧List.length l=List.length (List.replicate (List.length l) (B0,B0,false))∧l=l)=_).mp ?_
 delta Z41 Ln B0
 intro h
 exact⟨⟨⟨by omega,by omega⟩,by omega,by omega⟩,by simp,rfl⟩
abbrev W90:=W89.add ok220
end Go.Proofs.YtcibbcfiemeoiaaGreatDoor
namespace Go.Proofs.Tryz
open Go.Proofs.YtcibbcfiemeoiaaGreatDoor
def kindsU:List (ByteArray×Kind):=[(wUndo,[],0,none,none,none),
 (wStation,[(0,false)],2,some 148,some 149,some 150),
 (wPrice,[(0,true)],2,some 152,some 153,some 150),
 (wOrder,[(1,false),(0,true),(0,true)],4,some 154,some 155,some 156),
 (wMeter,[(1,true)],4,some 157,some 158,some 156),
 (wTrip,[(1,true)],1,some 159,some 160,some 156),
 (wOutage,[(2,false),(0,true)],4,some 161,some 162,some 163),
 (wRestore,[(2,true)],1,some 164,some 165,some 163),
 (wPermit,[(3,false),(2,true)],1,some 166,some 167,some 168),
 (wReturn,[(3,true)],1,some 169,some 170,some 168),
 (wSettle,[],2,some 171,some 172,none)]
end Go.Proofs.Tryz
namespace Go.Proofs.YtcibbcfiemeoiaaGreatDoor
open Go.Sx
def cKindsU:ConM:={kT:=9,gk:=false,gv:=true,ks:= .str,vs:=sKind,l:=Tryz.kindsU}
theorem ok80U:Ok Tryz.prog 80 (ConM.con cKindsU):=ok80
abbrev W91:=W90.add ok80U
abbrev Hist:=List Ev×List Ev×List Reg
abbrev sHist:Sch:= .prod (.list 67 sEv) (.prod (.list 67 sEv) (.list 105 sReg))
def reg0:Reg:=(0,0,[],[],[],[],[])
def ev0:Ev:=(0,bnil,[],[],bnil)
def nowS (G:List Reg):Reg:=G.getD (G.length-1) reg0
structure HistOk (h:Hist):Prop where
 nE:h.1.length≤1000
 nC:h.2.1.length≤h.1.length
 nG:h.2.2.length=h.2.1.length
 reg:∀r∈h.2.2,RegOk r
def roleUnk (r:Reg) (ns:List ByteArray):List (Int×Bool)→Nat→Bool
 |[],_=>false
 |(w,b)::l,i=>bif (bif b then !hasS r w (ns.getD i bnil) else false) then true else roleUnk r ns l (i+1)
def roleTwi (r:Reg) (ns:List ByteArray):List (Int×Bool)→Nat→Bool
 |[],_=>false
 |(w,b)::l,i=>bif (bif !b then hasS r w (ns.getD i bnil) else false) then true else roleTwi r ns l (i+1)
def ckS (r:Reg) (e:Ev):Int:=match(kindD e.2.1).2.2.1 with
 |some 148=>ckSta r.2.2.1 e.2.2.2.1
 |some 152=>ckPri e.2.2.2.1
 |some 154=>ckOrd r.2.2.1 r.2.2.2.1 r.2.2.2.2.2.1 e
 |some 157=>ckMet r.2.2.2.1 r.2.2.2.2.1 e.2.2.1 e.2.2.2.1
 |some 159=>ckTrip r.2.2.2.1 e.2.2.1 e.2.2.2.1
 |some 161=>ckOut r.2.2.1 r.2.2.2.1 r.2.2.2.2.2.1 e
 |some 164=>ckRest r.2.2.2.2.2.1 r.2.2.2.2.2.2 e.2.2.1 e.2.2.2.1
 |some 166=>ckPerm r.2.2.2.2.2.1 r.2.2.2.2.2.2 e.2.2.1 e.2.2.2.1
 |some 169=>ckRet r.2.2.2.2.2.2 e.2.2.1
 |some 171=>ckSett r.2.1 r.2.2.2.1 r.2.2.2.2.1 r.2.2.2.2.2.1 r.2.2.2.2.2.2 e.2.2.2.1
 |_=>0
def accS (h:Hist) (e:Ev):Int:=
 bif e.1 !=(h.1.length:Int)+1 then 11 else
 bif e.2.1.toList==wUndo.toList then(bif (h.2.1.length:Int)==0 then 12 else bif (h.2.1.getD (h.2.1.length-1) ev0).2.1.toList==wSettle.toList then 21 else 0) else
 bif decide (e.2.2.2.1.getD 0 0<(nowS h.2.2).1) then 22 else
 bif roleUnk (nowS h.2.2) e.2.2.1 (kindD e.2.1).1 0 then 10 else
 bif roleTwi (nowS h.2.2) e.2.2.1 (kindD e.2.1).1 0 then 9 else ckS (nowS h.2.2) e
def cAcc:ConO:={T? :=none,s:=sHist,args:=[aEv],ress:=[I],pre:=fun h (e,_)=>[HistOk h,checkE e=0],spec:=fun h (e,_)=>(accS h e,()),post:=fun h _=>h}
abbrev annRole (m:Nat):Nat→Option Ann:=fun i=>if i=0∨i=2 then some {X:=Unit,σ:=fun _=>⟨0,[],[]⟩,inv:=fun _=>True,mu:=fun _=>0,un:=m} else none
def accK (h:Hist) (n:Int) (ns:List ByteArray) (vs:List Int) (roles:List (Int×Bool)) (ck:Int):Int:=
 bif n !=(h.1.length:Int)+1 then 11 else
 bif decide (vs.getD 0 0<(nowS h.2.2).1) then 22 else
 bif roleUnk (nowS h.2.2) ns roles 0 then 10 else
 bif roleTwi (nowS h.2.2) ns roles 0 then 9 else ck
theorem accS_eq {h:Hist} {n:Int} {k:ByteArray} {ns:List ByteArray} {vs:List Int} {tx:ByteArray} (h1:(k.toList==wUndo.toList)=false):accS h (n,k,ns,vs,tx)=accK h n ns vs (kindD k).1 (ckS (nowS h.2.2) (n,k,ns,vs,tx)):=by
 unfold accS accK
 dsimp only
 rw[h1];rfl
theorem kd_station:kindD wStation=([(0,false)],2,some 148,some 149,some 150):=by kernel_rfl
theorem kd_price:kindD wPrice=([(0,true)],2,some 152,some 153,some 150):=by kernel_rfl
theorem kd_order:kindD wOrder=([(1,false),(0,true),(0,true)],4,some 154,some 155,some 156):=by kernel_rfl
theorem kd_meter:kindD wMeter=([(1,true)],4,some 157,some 158,some 156):=by kernel_rfl
theorem kd_trip:kindD wTrip=([(1,true)],1,some 159,some 160,some 156):=by kernel_rfl
theorem kd_outage:kindD wOutage=([(2,false),(0,true)],4,some 161,some 162,some 163):=by kernel_rfl
theorem kd_restore:kindD wRestore=([(2,true)],1,some 164,some 165,some 163):=by kernel_rfl
theorem kd_permit:kindD wPermit=([(3,false),(2,true)],1,some 166,some 167,some 168):=by kernel_rfl
theorem kd_return:kindD wReturn=([(3,true)],1,some 169,some 170,some 168):=by kernel_rfl
theorem kd_settle:kindD wSettle=([],2,some 171,some 172,none):=by kernel_rfl
theorem kd_undo:kindD wUndo=([],0,none,none,none):=by kernel_rfl
theorem hasS0 {r:Reg} {s:ByteArray}:hasS r 0 s=decide (0≤findS r.2.2.1 s):=rfl
theorem hasS1 {r:Reg} {s:ByteArray}:hasS r 1 s=decide (0≤findO r.2.2.2.1 s):=rfl
theorem hasS2 {r:Reg} {s:ByteArray}:hasS r 2 s=decide (0≤findX r.2.2.2.2.2.1 s):=rfl
theorem hasS3 {r:Reg} {s:ByteArray}:hasS r 3 s=decide (0≤findP r.2.2.2.2.2.2 s):=rfl
structure EvFacts (e:Ev):Prop where
 num:1≤e.1∧e.1≤1000
 kind:kindK e.2.1=true
 nn:e.2.2.1.length=(kindD e.2.1).1.length
 nv:(e.2.2.2.1.length:Int)=(kindD e.2.1).2.1
 name:∀s∈e.2.2.1,nameB s=true
 val:EvV e
 txt:e.2.2.2.2.size=0
theorem firstS_zero {l:List Int}:firstS l=0↔∀x∈l,x=0:=by
 induction l with
 |nil=>simp[firstS]
 |cons x l ih=>
  unfold firstS
  by_cases h:x=0
  ·rw[if_pos h,ih];simp[h]
  ·rw[if_neg h];simp[h]
theorem within_zero {n a b:Int}:withinS n a b=0↔a≤n∧n≤b:=by
 unfold withinS
 by_cases h1:n<a
 ·simp[h1];omega
 ·by_cases h2:b<n
  ·simp[h2]
  ·simp[h1,h2];omega
theorem checkE_zero {e:Ev} (h:checkE e=0):EvFacts e:=by
 unfold checkE at h
 by_cases h1:withinS e.1 1 1000≠0
 ·rw[if_pos h1] at h;exact absurd h h1
 rw[if_neg h1] at h
 cases hk:kindK e.2.1 with
 |false=>rw[hk] at h;cases h
 | true =>
  rw[hk,cond_true] at h
  by_cases h2:e.2.2.1.length=(kindD e.2.1).1.length∧(e.2.2.2.1.length:Int)=(kindD e.2.1).2.1
  ·rw[if_pos h2] at h
   have h3:=firstS_zero.1 h
   have n1:=firstS_zero.1 (h3 _ (List.mem_cons_self ..))
   have n2:=firstS_zero.1 (h3 _ (List.mem_cons_of_mem _ (List.mem_cons_self ..)))
   have n3:=h3 _ (List.mem_cons_of_mem _ (List.mem_cons_of_mem _ (List.mem_cons_self ..)))
   refine⟨within_zero.1 (by omega),hk,h2.1,h2.2,fun s hs=> ?_,fun v hv=>within_zero.1 (n2 _ (List.mem_map_of_mem hv)), ?_⟩
   ·have:=n1 _ (List.mem_map_of_mem hs)
    cases hn:nameB s with
    |true=>rfl
    |false=>rw[hn] at this;cases this
   ·by_cases h4:0<e.2.2.2.2.size
    ·rw[decide_eq_true h4] at n3;cases n3
    ·omega
  ·rw[if_neg h2] at h;cases h
theorem now_ok {h:Hist} (hh:HistOk h):RegOk (nowS h.2.2):=by
 unfold nowS
 by_cases h0:0<h.2.2.length
 ·exact hh.reg _ (getD_mem (by omega))
 ·have:h.2.2=[]:=List.eq_nil_of_length_eq_zero (by omega)
  rw[this]
  exact⟨by decide,by decide,by decide,by decide,by decide,by decide,by decide,fun _ h=>(by cases h),fun _ h=>(by cases h),fun _ h=>(by cases h),fun _ h=>(by cases h),fun _ h=>(by cases h),fun _ h=>(by cases h)⟩
theorem now_nil {G:List Reg} (h:decide (0<(G.length:Int))=false):nowS G=reg0:=by
 have h:¬0<(G.length:Int):=of_decide_eq_false h
 have:G=[]:=List.eq_nil_of_length_eq_zero (by omega)
 rw[this];rfl
def Z2 (a:List Ev):=Ln a+1
def Z5 (a:List Ev):=Ln a==0
def Z6 (a:Int) (b:Ls) (c:Li) (d:Bt):=(a,wUndo,b,c,d)
def Z7 (a:List Ev):=Ln a-1
def Z26:=Iw ((0:Int)+1)
def Z45:=Tw (Bd 0 0)
def Z58 (a:List Ev):=Iw (Z2 a)
def Z59 (a:List Ev):=Iw (Z7 a)
def Z81 (a:Li):=Tw (Z22 a)
def Z97 (a:List Reg):=decide (0<Ln a)
def Z114:=Z26∧False
def Z146 (a b:List Ev) (c:List Reg) (d:Int) (e:Ls) (f:Li) (g:Bt):=accS (a,b,c) (Z6 d e f g)
def Z181:Int×ByteArray×List ByteArray×List Int×ByteArray:=((0:Int),B0,[],[],B0)
def Z194 (a:Li):=decide (Z86 a<0)
def Z274:Int×List Sta×List Ord×List Met×List Out×List Per:=((0:Int),[],[],[],[],[])
def Z296 (a:Int) (b:List Ev):=a !=Z2 b
def Z299 (a:List Ev):=Z59 a∧Tw (Bd (Z7 a) (Ln a))
def Z306:=((0:Int),Z274)
def Z308 (a:List Reg):=Iw (Ln a-1)∧Tw (Bd (Ln a-1) (Ln a))
def Z336:=RegOk Z306
def Z408:=true=true→Z336
def Z411:=false=true→Z336
def Z447 (a:List Reg):=Gt a (Ln a-1) Z306
def Z457 (a:List Reg):=(Z447 a).1
def Z458 (a:List Reg):=(Z447 a).2
def Z481 (a:List Reg):=(Z458 a).1
def Z486 (a:List Reg):=(Z458 a).2
def Z497 (a:List Reg):=(Z486 a).2
def Z502 (a:List Reg):=(Z497 a).2
def Z512 (a:List Reg):=(Z502 a).2
def Z522 (a:Ls):=hasS Z306 0 (Z85 a)
def Z529 (a:List Ev):=bif Lb (Gt a (Z7 a) Z181).2.1 wSettle then(21:Int) else(0:Int)
def Z582 (a:Ls):=bif true then Z522 a else false
def Z598 (a:Li) (b:List Reg):=decide (Z86 a<Z457 b)
def Z603 (a:Ls):=T2 (true=true→Z79 a) Z408
def Z610 (a:Ls):=T2 (false=true→Z79 a) Z411
def Z665 (a:TypeId) (b c:List Ev) (d:List Reg) (e:Int) (f:Ls) (g:Li) (h:Bt):=Br false (Sf true (Sf a (Sf (b,c,d) (10=Z146 b c d e f g h)))) Z114
def Z814 (a:List Reg):=(Z481 a,(Z486 a).1,(Z497 a).1,(Z502 a).1,E2 (Z512 a))
def Z820 (a:List Reg):=(Z457 a,Z814 a)
def Z821 (a:List Reg):=RegOk (Z820 a)
def Z829 (a:List Reg):=true=true→Z821 a
def Z830 (a:List Reg):=false=true→Z821 a
def Z882 (a:List Reg) (b:Ls):=hasS (Z820 a) 0 (Z85 b)
def Z889 (a:List Reg) (b:Ls):=bif true then Z882 a b else false
def Z894 (a:Ls) (b:List Reg):=T2 (true=true→Z79 a) (Z829 b)
def Z895 (a:Ls) (b:List Reg):=T2 (false=true→Z79 a) (Z830 b)
theorem wp130_Undo (T:TypeId) (E C:List Ev) (G:List Reg) (n:Int) (ns:List ByteArray) (vs:List Int) (tx:ByteArray):wpFO Tryz.prog W91.g (annRole 1) (fun _=>na ()) (Sx.look ([(75,Tryz.f75)]:List (Nat×Func))) Tryz.f130 cAcc T (E,C,G) ((n,wUndo,ns,vs,tx),()):=by
 refine(by kernel_rfl:(HistOk (E,C,G)→checkE (Z6 n ns vs tx)=0→Z58 E∧Br (Z296 n E) (Sf true (Sf T (Sf (E,C,G) (11=Z146 E C G n ns vs tx)))) (Br true (Br (Z5 C) (Sf true (Sf T (Sf (E,C,G) (12=Z146 E C G n ns vs tx)))) (Z299 C∧Sf true (Sf T (Sf (E,C,G) (Z529 C=Z146 E C G n ns vs tx))))) (Br (Z97 G) (Z308 G∧Z81 vs∧Br (Z598 vs G) (Sf true (Sf T (Sf (E,C,G) (22=Z146 E C G n ns vs tx)))) (Br false (Z45∧Z895 ns G∧Z665 T E C G n ns vs tx) (Br false (Z45∧Z894 ns G∧Br (Z889 G ns) (Sf true (Sf T (Sf (E,C,G) (9=Z146 E C G n ns vs tx)))) Z114) (False∧Sf true False)))) (Z81 vs∧Br (Z194 vs) (Sf true (Sf T (Sf (E,C,G) (22=Z146 E C G n ns vs tx)))) (Br false (Z45∧Z610 ns∧Z665 T E C G n ns vs tx) (Br false (Z45∧Z603 ns∧Br (Z582 ns) (Sf true (Sf T (Sf (E,C,G) (9=Z146 E C G n ns vs tx)))) Z114) (False∧Sf true False)))))))=_).mp ?_
 delta Z2 Z5 Z6 Z7 Z22 Z26 Z45 Z58 Z59 Z79 Z81 Z85 Z86 Z97 Z114 Z146 Z181 Z194 Z274 Z296 Z299 Z306 Z308 Z336 Z408 Z411 Z447 Z457 Z458 Z481 Z486 Z497 Z502 Z512 Z522 Z529 Z582 Z598 Z603 Z610 Z665 Z814 Z820 Z821 Z829 Z830 Z882 Z889 Z894 Z895 Br Iw Bd T2 Tw Sf Ln Gt B0 Lb E2 wSettle wUndo
 intro hh hc
 have hE:=checkE_zero hc
 have n1:E.length≤1000:=hh.nE
 have n2:C.length≤E.length:=hh.nC
 have eA:accS (E,C,G) (n,wUndo,ns,vs,tx)=bif n !=(E.length:Int)+1 then 11 else(bif (C.length:Int)==0 then 12 else bif (C.getD (C.length-1) ev0).2.1.toList==wSettle.toList then 21 else 0):=by
  unfold accS
  dsimp only
  rw[show(wUndo.toList==wUndo.toList)=true from by kernel_rfl];rfl
 refine⟨by omega,fun h=>⟨rfl,rfl,rfl, ?_⟩,fun h=>⟨fun _=>⟨fun h2=>⟨rfl,rfl,rfl, ?_⟩,fun h2=> ?_⟩,fun h=>(by cases h)⟩⟩
 ·rw[eA,h];rfl
 ·rw[eA,h,h2];rfl
 ·have h3:¬C.length=0:=fun e=>by rw[e] at h2;cases h2
  have h4:((C.length:Int)-1).toNat=C.length-1:=by omega
  refine⟨⟨⟨by omega,by omega⟩,⟨by omega,by omega⟩,⟨by omega,by omega⟩⟩,rfl,rfl,rfl, ?_⟩
  rw[eA,h,h2,h4];rfl
def Z27 (a:Int) (b:Ls) (c:Li) (d:Bt):=(a,wStation,b,c,d)
def Z48:=Tw (Bd 0 1)
def Z103:=(0:Int)+1+1
def Z124:=Iw Z103
def Z138:=Tw (Bd ((0:Int)+1) 1)
def Z166 (a b:List Ev) (c:List Reg) (d:Int) (e:Ls) (f:Li) (g:Bt):=accS (a,b,c) (Z27 d e f g)
def Z178:=Z124∧False
def Z244 (a:Ls):=true=true→Bd ((0:Int)+1) (Ln a)
def Z247 (a:Ls):=false=true→Bd ((0:Int)+1) (Ln a)
def Z476 (a:Li):=Z336∧Z55 a
def Z517 (a:Ls):=hasS Z306 0 (Z88 a)
def Z577 (a:TypeId) (b c:List Ev) (d:List Reg) (e:Int) (f:Ls) (g:Li) (h:Bt):=Sf true (Sf a (Sf (b,c,d) (10=Z166 b c d e f g h)))
def Z578 (a:TypeId) (b c:List Ev) (d:List Reg) (e:Int) (f:Ls) (g:Li) (h:Bt):=Sf true (Sf a (Sf (b,c,d) (9=Z166 b c d e f g h)))
def Z585 (a:Ls):=bif true then Z517 a else false
def Z632 (a:Ls):=T2 (Z244 a) Z408
def Z644 (a:Ls):=T2 (Z247 a) Z411
def Z681 (a:TypeId) (b c:List Ev) (d:List Reg) (e:Int) (f:Ls) (g:Li) (h:Bt):=Br false (Z577 a b c d e f g h) Z178
def Z730 (a:Li) (b:TypeId) (c d:List Ev) (e:List Reg) (f:Int) (g:Ls) (h:Bt):=Z476 a∧Sf true (Sf b (Sf (c,d,e) (ckSta [] a=Z166 c d e f g a h)))
def Z864 (a:List Reg) (b:Li):=Z821 a∧Z55 b
def Z884 (a:List Reg) (b:Ls):=hasS (Z820 a) 0 (Z88 b)
def Z890 (a:List Reg) (b:Ls):=bif true then Z884 a b else false
def Z897 (a:Ls) (b:List Reg):=T2 (Z244 a) (Z829 b)
def Z898 (a:Ls) (b:List Reg):=T2 (Z247 a) (Z830 b)
def Z907 (a:List Reg) (b:Li) (c:TypeId) (d e:List Ev) (f:Int) (g:Ls) (h:Bt):=Z864 a b∧Sf true (Sf c (Sf (d,e,a) (ckSta (Z486 a).1 b=Z166 d e a f g b h)))
def Z922 (a:Ls) (b:TypeId) (c d:List Ev) (e:List Reg) (f:Int) (g:Li) (h:Bt):=Br true (Z48∧Z603 a∧Br (Z582 a) (Z578 b c d e f a g h) (Z26∧Br false (Z138∧Z632 a∧Br (Z585 a) (Z578 b c d e f a g h) Z178) (Z730 g b c d e f a h))) (Z730 g b c d e f a h)
def Z937 (a:Ls) (b:List Reg) (c:TypeId) (d e:List Ev) (f:Int) (g:Li) (h:Bt):=Br true (Z48∧Z894 a b∧Br (Z889 b a) (Z578 c d e b f a g h) (Z26∧Br false (Z138∧Z897 a b∧Br (Z890 b a) (Z578 c d e b f a g h) Z178) (Z907 b g c d e f a h))) (Z907 b g c d e f a h)
theorem wp130_Station (T:TypeId) (E C:List Ev) (G:List Reg) (n:Int) (ns:List ByteArray) (vs:List Int) (tx:ByteArray):wpFO Tryz.prog W91.g (annRole 2) (fun _=>na ()) (Sx.look ([(75,Tryz.f75)]:List (Nat×Func))) Tryz.f130 cAcc T (E,C,G) ((n,wStation,ns,vs,tx),()):=by
 refine(by kernel_rfl:(HistOk (E,C,G)→checkE (Z27 n ns vs tx)=0→Z58 E∧Br (Z296 n E) (Sf true (Sf T (Sf (E,C,G) (11=Z166 E C G n ns vs tx)))) (Br false (Br (Z5 C) (Sf true (Sf T (Sf (E,C,G) (12=Z166 E C G n ns vs tx)))) (Z299 C∧Sf true (Sf T (Sf (E,C,G) (Z529 C=Z166 E C G n ns vs tx))))) (Br (Z97 G) (Z308 G∧Z81 vs∧Br (Z598 vs G) (Sf true (Sf T (Sf (E,C,G) (22=Z166 E C G n ns vs tx)))) (Br true (Z48∧Z895 ns G∧Br false (Z577 T E C G n ns vs tx) (Z26∧Br false (Z138∧Z898 ns G∧Z681 T E C G n ns vs tx) (Z937 ns G T E C n vs tx))) (Z937 ns G T E C n vs tx))) (Z81 vs∧Br (Z194 vs) (Sf true (Sf T (Sf (E,C,G) (22=Z166 E C G n ns vs tx)))) (Br true (Z48∧Z610 ns∧Br false (Z577 T E C G n ns vs tx) (Z26∧Br false (Z138∧Z644 ns∧Z681 T E C G n ns vs tx) (Z922 ns T E C G n vs tx))) (Z922 ns T E C G n vs tx))))))=_).mp ?_
 delta Z2 Z5 Z7 Z22 Z26 Z27 Z48 Z55 Z58 Z59 Z79 Z81 Z85 Z86 Z88 Z97 Z103 Z124 Z138 Z166 Z178 Z181 Z194 Z244 Z247 Z274 Z296 Z299 Z306 Z308 Z336 Z408 Z411 Z447 Z457 Z458 Z476 Z481 Z486 Z497 Z502 Z512 Z517 Z522 Z529 Z577 Z578 Z582 Z585 Z598 Z603 Z610 Z632 Z644 Z681 Z730 Z814 Z820 Z821 Z829 Z830 Z864 Z882 Z884 Z889 Z890 Z894 Z895 Z897 Z898 Z907 Z922 Z937 Br Iw Bd T2 Tw Sf Ln Gt B0 Lb E2 wSettle wStation
 intro hh hc
 have hE:=checkE_zero hc
 have eK:=accS_eq (h:=(E,C,G)) (n:=n) (k:=wStation) (ns:=ns) (vs:=vs) (tx:=tx) (by kernel_rfl)
 have hn:=hE.nn
 have hv:=hE.nv
 simp only[kd_station,ckS,List.length_cons,List.length_nil] at eK hn hv
 have hR:RegOk (nowS G):=now_ok hh
 have hr0:RegOk reg0:=now_ok (h:=([],[],[])) ⟨by decide,by decide,rfl,fun _ h=>(by cases h)⟩
 have n1:E.length≤1000:=hh.nE
 have n2:C.length≤E.length:=hh.nC
 have n3:G.length=C.length:=hh.nG
 have hG:((G.length:Int)-1).toNat=G.length-1:=by omega
 have hx:∀i,i<vs.length→(0≤vs.getD i 0∧vs.getD i 0≤999999999):=fun i hi=>hE.val _ (getD_mem hi)
 rw[eK]
 have hnow:G.getD (G.length-1) reg0=nowS G:=rfl
 have hreg:((0,0,[],[],[],[],[]):Reg)=reg0:=rfl
 simp only[hG,hnow,hreg,Prod.eta,accK,roleUnk,roleTwi,hasS0,hasS1,hasS2,hasS3,cond_true,cond_false,Bool.not_true,Bool.not_false,bnil]
 clear hreg
 repeat' first|apply And.intro|intro _
 all_goals first|trivial|omega|assumption|contradiction|(rename_i h;have h:=of_decide_eq_true h;omega)|(simp only[*,cond_true,cond_false,Bool.not_true,Bool.not_false];done)|(have hq:nowS G=reg0:=now_nil (by assumption);rw[hq];have e1:decide (vs.getD 0 0<reg0.1)=true:=(by assumption);simp only[*,cond_true,cond_false];done)|(have hq:nowS G=reg0:=now_nil (by assumption);rw[hq];have e1:decide (vs.getD 0 0<reg0.1)=false:=(by assumption);simp only[*,cond_true,cond_false,Bool.not_true,Bool.not_false];first|done|rfl)|(simp only[Bool.not_eq_false',decide_eq_true_eq] at*;assumption)
def Z12 (a:Int) (b:Ls) (c:Li) (d:Bt):=(a,wPrice,b,c,d)
def Z155 (a b:List Ev) (c:List Reg) (d:Int) (e:Ls) (f:Li) (g:Bt):=accS (a,b,c) (Z12 d e f g)
def Z561 (a:TypeId) (b c:List Ev) (d:List Reg) (e:Int) (f:Ls) (g:Li) (h:Bt):=Sf true (Sf a (Sf (b,c,d) (10=Z155 b c d e f g h)))
def Z566 (a:TypeId) (b c:List Ev) (d:List Reg) (e:Int) (f:Ls) (g:Li) (h:Bt):=Sf true (Sf a (Sf (b,c,d) (9=Z155 b c d e f g h)))
def Z588 (a:Ls):=bif true then !Z522 a else false
def Z648 (a:Li) (b:TypeId) (c d:List Ev) (e:List Reg) (f:Int) (g:Ls) (h:Bt):=Z55 a∧Sf true (Sf b (Sf (c,d,e) (ckPri a=Z155 c d e f g a h)))
def Z675 (a:TypeId) (b c:List Ev) (d:List Reg) (e:Int) (f:Ls) (g:Li) (h:Bt):=Br false (Z561 a b c d e f g h) Z178
def Z893 (a:List Reg) (b:Ls):=bif true then !Z882 a b else false
def Z915 (a:Ls) (b:TypeId) (c d:List Ev) (e:List Reg) (f:Int) (g:Li) (h:Bt):=Br true (Z48∧Z610 a∧Br false (Z566 b c d e f a g h) (Z26∧Br false (Z138∧Z632 a∧Br (Z585 a) (Z566 b c d e f a g h) Z178) (Z648 g b c d e f a h))) (Z648 g b c d e f a h)
def Z931 (a:Ls) (b:List Reg) (c:TypeId) (d e:List Ev) (f:Int) (g:Li) (h:Bt):=Br true (Z48∧Z895 a b∧Br false (Z566 c d e b f a g h) (Z26∧Br false (Z138∧Z897 a b∧Br (Z890 b a) (Z566 c d e b f a g h) Z178) (Z648 g c d e b f a h))) (Z648 g c d e b f a h)
theorem wp130_Price (T:TypeId) (E C:List Ev) (G:List Reg) (n:Int) (ns:List ByteArray) (vs:List Int) (tx:ByteArray):wpFO Tryz.prog W91.g (annRole 2) (fun _=>na ()) (Sx.look ([(75,Tryz.f75)]:List (Nat×Func))) Tryz.f130 cAcc T (E,C,G) ((n,wPrice,ns,vs,tx),()):=by
 refine(by kernel_rfl:(HistOk (E,C,G)→checkE (Z12 n ns vs tx)=0→Z58 E∧Br (Z296 n E) (Sf true (Sf T (Sf (E,C,G) (11=Z155 E C G n ns vs tx)))) (Br false (Br (Z5 C) (Sf true (Sf T (Sf (E,C,G) (12=Z155 E C G n ns vs tx)))) (Z299 C∧Sf true (Sf T (Sf (E,C,G) (Z529 C=Z155 E C G n ns vs tx))))) (Br (Z97 G) (Z308 G∧Z81 vs∧Br (Z598 vs G) (Sf true (Sf T (Sf (E,C,G) (22=Z155 E C G n ns vs tx)))) (Br true (Z48∧Z894 ns G∧Br (Z893 G ns) (Z561 T E C G n ns vs tx) (Z26∧Br false (Z138∧Z898 ns G∧Z675 T E C G n ns vs tx) (Z931 ns G T E C n vs tx))) (Z931 ns G T E C n vs tx))) (Z81 vs∧Br (Z194 vs) (Sf true (Sf T (Sf (E,C,G) (22=Z155 E C G n ns vs tx)))) (Br true (Z48∧Z603 ns∧Br (Z588 ns) (Z561 T E C G n ns vs tx) (Z26∧Br false (Z138∧Z644 ns∧Z675 T E C G n ns vs tx) (Z915 ns T E C G n vs tx))) (Z915 ns T E C G n vs tx))))))=_).mp ?_
 delta Z2 Z5 Z7 Z12 Z22 Z26 Z48 Z55 Z58 Z59 Z79 Z81 Z85 Z86 Z88 Z97 Z103 Z124 Z138 Z155 Z178 Z181 Z194 Z244 Z247 Z274 Z296 Z299 Z306 Z308 Z336 Z408 Z411 Z447 Z457 Z458 Z481 Z486 Z497 Z502 Z512 Z517 Z522 Z529 Z561 Z566 Z585 Z588 Z598 Z603 Z610 Z632 Z644 Z648 Z675 Z814 Z820 Z821 Z829 Z830 Z882 Z884 Z890 Z893 Z894 Z895 Z897 Z898 Z915 Z931 Br Iw Bd T2 Tw Sf Ln Gt B0 Lb E2 wPrice wSettle
 intro hh hc
 have hE:=checkE_zero hc
 have eK:=accS_eq (h:=(E,C,G)) (n:=n) (k:=wPrice) (ns:=ns) (vs:=vs) (tx:=tx) (by kernel_rfl)
 have hn:=hE.nn
 have hv:=hE.nv
 simp only[kd_price,ckS,List.length_cons,List.length_nil] at eK hn hv
 have hR:RegOk (nowS G):=now_ok hh
 have hr0:RegOk reg0:=now_ok (h:=([],[],[])) ⟨by decide,by decide,rfl,fun _ h=>(by cases h)⟩
 have n1:E.length≤1000:=hh.nE
 have n2:C.length≤E.length:=hh.nC
 have n3:G.length=C.length:=hh.nG
 have hG:((G.length:Int)-1).toNat=G.length-1:=by omega
 have hx:∀i,i<vs.length→(0≤vs.getD i 0∧vs.getD i 0≤999999999):=fun i hi=>hE.val _ (getD_mem hi)
 rw[eK]
 have hnow:G.getD (G.length-1) reg0=nowS G:=rfl
 have hreg:((0,0,[],[],[],[],[]):Reg)=reg0:=rfl
 simp only[hG,hnow,hreg,Prod.eta,accK,roleUnk,roleTwi,hasS0,hasS1,hasS2,hasS3,cond_true,cond_false,Bool.not_true,Bool.not_false,bnil]
 clear hreg
 repeat' first|apply And.intro|intro _
 all_goals first|trivial|omega|assumption|contradiction|(rename_i h;have h:=of_decide_eq_true h;omega)|(simp only[*,cond_true,cond_false,Bool.not_true,Bool.not_false];done)|(have hq:nowS G=reg0:=now_nil (by assumption);rw[hq];have e1:decide (vs.getD 0 0<reg0.1)=true:=(by assumption);simp only[*,cond_true,cond_false];done)|(have hq:nowS G=reg0:=now_nil (by assumption);rw[hq];have e1:decide (vs.getD 0 0<reg0.1)=false:=(by assumption);simp only[*,cond_true,cond_false,Bool.not_true,Bool.not_false];first|done|rfl)|(simp only[Bool.not_eq_false',decide_eq_true_eq] at*;assumption)
def Z8 (a:Int) (b:Ls) (c:Li) (d:Bt):=(a,wOrder,b,c,d)
def Z44:=Tw (Bd 0 3)
def Z139:=Tw (Bd ((0:Int)+1) 3)
def Z149 (a b:List Ev) (c:List Reg) (d:Int) (e:Ls) (f:Li) (g:Bt):=accS (a,b,c) (Z8 d e f g)
def Z169:=Z103+1
def Z189:=Iw Z169
def Z197:=Tw (Bd Z103 3)
def Z243 (a:Ls):=0≤findS [] (Z106 a)
def Z248:=Tw (Bd Z169 3)
def Z266 (a:Ls):=Bd Z169 (Ln a)
def Z284:=Iw (Z169+1)∧False
def Z294 (a:Ls):=true=true→Bd Z103 (Ln a)
def Z298 (a:Ls):=false=true→Bd Z103 (Ln a)
def Z343 (a:Ls):=true=true→Z266 a
def Z344 (a:Ls):=false=true→Z266 a
def Z518 (a:Ls):=hasS Z306 1 (Z85 a)
def Z520 (a:Ls):=hasS Z306 0 (Z84 a)
def Z563 (a:TypeId) (b c:List Ev) (d:List Reg) (e:Int) (f:Ls) (g:Li) (h:Bt):=Sf true (Sf a (Sf (b,c,d) (9=Z149 b c d e f g h)))
def Z564 (a:TypeId) (b c:List Ev) (d:List Reg) (e:Int) (f:Ls) (g:Li) (h:Bt):=Sf true (Sf a (Sf (b,c,d) (10=Z149 b c d e f g h)))
def Z587 (a:Ls):=bif true then !Z517 a else false
def Z628 (a:List Reg) (b:Ls):=0≤findS (Z486 a).1 (Z106 b)
def Z655 (a:Ls):=T2 (Z294 a) Z408
def Z658 (a:Ls):=T2 (Z298 a) Z411
def Z699 (a:TypeId) (b c:List Ev) (d:List Reg) (e:Int) (f:Ls) (g:Li) (h:Bt):=Br false (Z564 a b c d e f g h) Z284
def Z798 (a:Int) (b:Ls) (c:Li) (d:Bt) (e:TypeId) (f g:List Ev) (h:List Reg):=(Z336∧EvV (Z8 a b c d)∧Z99 b∧Z46 c∧Z243 b∧0≤findS [] (List.getD b 2 bnil))∧Sf true (Sf e (Sf (f,g,h) (ckOrd [] [] [] (Z8 a b c d)=Z149 f g h a b c d)))
def Z881 (a:List Reg) (b:Ls):=hasS (Z820 a) 1 (Z85 b)
def Z885 (a:List Reg) (b:Ls):=hasS (Z820 a) 0 (Z84 b)
def Z891 (a:List Reg) (b:Ls):=bif true then !Z884 a b else false
def Z899 (a:Ls) (b:List Reg):=T2 (Z294 a) (Z829 b)
def Z900 (a:Ls) (b:List Reg):=T2 (Z298 a) (Z830 b)
def Z924 (a:List Reg) (b:Int) (c:Ls) (d:Li) (e:Bt) (f:TypeId) (g h:List Ev):=(Z821 a∧EvV (Z8 b c d e)∧Z99 c∧Z46 d∧Z628 a c∧0≤findS (Z486 a).1 (List.getD c 2 bnil))∧Sf true (Sf f (Sf (g,h,a) (ckOrd (Z486 a).1 (Z497 a).1 (Z512 a).1 (Z8 b c d e)=Z149 g h a b c d e)))
def Z932 (a:Ls) (b:TypeId) (c d:List Ev) (e:List Reg) (f:Int) (g:Li) (h:Bt):=Br true (Z44∧Z603 a∧Br (bif true then Z518 a else false) (Z563 b c d e f a g h) (Z26∧Br true (Z139∧Z644 a∧Br false (Z563 b c d e f a g h) (Z124∧Br true (Z197∧Z658 a∧Br false (Z563 b c d e f a g h) (Z189∧Br false (Z248∧T2 (Z343 a) Z408∧Br (bif true then hasS Z306 0 (List.getD a 3 B0) else false) (Z563 b c d e f a g h) Z284) (Z798 f a g h b c d e))) (Z798 f a g h b c d e))) (Z798 f a g h b c d e))) (Z798 f a g h b c d e)
def Z941 (a:Ls) (b:List Reg) (c:TypeId) (d e:List Ev) (f:Int) (g:Li) (h:Bt):=Br true (Z44∧Z894 a b∧Br (bif true then Z881 b a else false) (Z563 c d e b f a g h) (Z26∧Br true (Z139∧Z898 a b∧Br false (Z563 c d e b f a g h) (Z124∧Br true (Z197∧Z900 a b∧Br false (Z563 c d e b f a g h) (Z189∧Br false (Z248∧T2 (Z343 a) (Z829 b)∧Br (bif true then hasS (Z820 b) 0 (List.getD a 3 B0) else false) (Z563 c d e b f a g h) Z284) (Z924 b f a g h c d e))) (Z924 b f a g h c d e))) (Z924 b f a g h c d e))) (Z924 b f a g h c d e)
theorem wp130_Order (T:TypeId) (E C:List Ev) (G:List Reg) (n:Int) (ns:List ByteArray) (vs:List Int) (tx:ByteArray):wpFO Tryz.prog W91.g (annRole 4) (fun _=>na ()) (Sx.look ([(75,Tryz.f75)]:List (Nat×Func))) Tryz.f130 cAcc T (E,C,G) ((n,wOrder,ns,vs,tx),()):=by
 refine(by kernel_rfl:(HistOk (E,C,G)→checkE (Z8 n ns vs tx)=0→Z58 E∧Br (Z296 n E) (Sf true (Sf T (Sf (E,C,G) (11=Z149 E C G n ns vs tx)))) (Br false (Br (Z5 C) (Sf true (Sf T (Sf (E,C,G) (12=Z149 E C G n ns vs tx)))) (Z299 C∧Sf true (Sf T (Sf (E,C,G) (Z529 C=Z149 E C G n ns vs tx))))) (Br (Z97 G) (Z308 G∧Z81 vs∧Br (Z598 vs G) (Sf true (Sf T (Sf (E,C,G) (22=Z149 E C G n ns vs tx)))) (Br true (Z44∧Z895 ns G∧Br false (Z564 T E C G n ns vs tx) (Z26∧Br true (Z139∧Z897 ns G∧Br (Z891 G ns) (Z564 T E C G n ns vs tx) (Z124∧Br true (Z197∧Z899 ns G∧Br (bif true then !Z885 G ns else false) (Z564 T E C G n ns vs tx) (Z189∧Br false (Z248∧T2 (Z344 ns) (Z830 G)∧Z699 T E C G n ns vs tx) (Z941 ns G T E C n vs tx))) (Z941 ns G T E C n vs tx))) (Z941 ns G T E C n vs tx))) (Z941 ns G T E C n vs tx))) (Z81 vs∧Br (Z194 vs) (Sf true (Sf T (Sf (E,C,G) (22=Z149 E C G n ns vs tx)))) (Br true (Z44∧Z610 ns∧Br false (Z564 T E C G n ns vs tx) (Z26∧Br true (Z139∧Z632 ns∧Br (Z587 ns) (Z564 T E C G n ns vs tx) (Z124∧Br true (Z197∧Z655 ns∧Br (bif true then !Z520 ns else false) (Z564 T E C G n ns vs tx) (Z189∧Br false (Z248∧T2 (Z344 ns) Z411∧Z699 T E C G n ns vs tx) (Z932 ns T E C G n vs tx))) (Z932 ns T E C G n vs tx))) (Z932 ns T E C G n vs tx))) (Z932 ns T E C G n vs tx))))))=_).mp ?_
 delta Z2 Z5 Z7 Z8 Z22 Z26 Z44 Z46 Z58 Z59 Z79 Z81 Z84 Z85 Z86 Z88 Z97 Z99 Z103 Z106 Z124 Z139 Z149 Z169 Z181 Z189 Z194 Z197 Z243 Z244 Z247 Z248 Z266 Z274 Z284 Z294 Z296 Z298 Z299 Z306 Z308 Z336 Z343 Z344 Z408 Z411 Z447 Z457 Z458 Z481 Z486 Z497 Z502 Z512 Z517 Z518 Z520 Z529 Z563 Z564 Z587 Z598 Z603 Z610 Z628 Z632 Z644 Z655 Z658 Z699 Z798 Z814 Z820 Z821 Z829 Z830 Z881 Z884 Z885 Z891 Z894 Z895 Z897 Z898 Z899 Z900 Z924 Z932 Z941 Br Iw Bd T2 Tw Sf Ln Gt B0 Lb E2 wOrder wSettle
 intro hh hc
 have hE:=checkE_zero hc
 have eK:=accS_eq (h:=(E,C,G)) (n:=n) (k:=wOrder) (ns:=ns) (vs:=vs) (tx:=tx) (by kernel_rfl)
 have hn:=hE.nn
 have hv:=hE.nv
 simp only[kd_order,ckS,List.length_cons,List.length_nil] at eK hn hv
 have hR:RegOk (nowS G):=now_ok hh
 have hr0:RegOk reg0:=now_ok (h:=([],[],[])) ⟨by decide,by decide,rfl,fun _ h=>(by cases h)⟩
 have n1:E.length≤1000:=hh.nE
 have n2:C.length≤E.length:=hh.nC
 have n3:G.length=C.length:=hh.nG
 have hG:((G.length:Int)-1).toNat=G.length-1:=by omega
 have hx:∀i,i<vs.length→(0≤vs.getD i 0∧vs.getD i 0≤999999999):=fun i hi=>hE.val _ (getD_mem hi)
 rw[eK]
 have hnow:G.getD (G.length-1) reg0=nowS G:=rfl
 have hreg:((0,0,[],[],[],[],[]):Reg)=reg0:=rfl
 simp only[hG,hnow,hreg,Prod.eta,accK,roleUnk,roleTwi,hasS0,hasS1,hasS2,hasS3,cond_true,cond_false,Bool.not_true,Bool.not_false,bnil]
 clear hreg
 repeat' first|apply And.intro|exact hE.val|intro _
 all_goals first|trivial|omega|assumption|contradiction|(rename_i h;have h:=of_decide_eq_true h;omega)|(simp only[*,cond_true,cond_false,Bool.not_true,Bool.not_false];done)|(have hq:nowS G=reg0:=now_nil (by assumption);rw[hq];have e1:decide (vs.getD 0 0<reg0.1)=true:=(by assumption);simp only[*,cond_true,cond_false];done)|(have hq:nowS G=reg0:=now_nil (by assumption);rw[hq];have e1:decide (vs.getD 0 0<reg0.1)=false:=(by assumption);simp only[*,cond_true,cond_false,Bool.not_true,Bool.not_false];first|done|rfl)|(simp only[Bool.not_eq_false',decide_eq_true_eq] at*;assumption)
def Z11 (a:Int) (b:Ls) (c:Li) (d:Bt):=(a,wMeter,b,c,d)
def Z151 (a b:List Ev) (c:List Reg) (d:Int) (e:Ls) (f:Li) (g:Bt):=accS (a,b,c) (Z11 d e f g)
def Z242 (a:Ls):=0≤findO [] (Z104 a)
def Z562 (a:TypeId) (b c:List Ev) (d:List Reg) (e:Int) (f:Ls) (g:Li) (h:Bt):=Sf true (Sf a (Sf (b,c,d) (10=Z151 b c d e f g h)))
def Z565 (a:TypeId) (b c:List Ev) (d:List Reg) (e:Int) (f:Ls) (g:Li) (h:Bt):=Sf true (Sf a (Sf (b,c,d) (9=Z151 b c d e f g h)))
def Z589 (a:Ls):=bif true then !Z518 a else false
def Z630 (a:List Reg) (b:Ls):=0≤findO (Z497 a).1 (Z104 b)
def Z674 (a:TypeId) (b c:List Ev) (d:List Reg) (e:Int) (f:Ls) (g:Li) (h:Bt):=Br false (Z562 a b c d e f g h) Z178
def Z781 (a:Ls) (b:Li) (c:TypeId) (d e:List Ev) (f:List Reg) (g:Int) (h:Bt):=(Z336∧Z105 a∧Z47 b∧Z242 a)∧Sf true (Sf c (Sf (d,e,f) (ckMet [] [] a b=Z151 d e f g a b h)))
def Z892 (a:List Reg) (b:Ls):=bif true then !Z881 a b else false
def Z917 (a:List Reg) (b:Ls) (c:Li) (d:TypeId) (e f:List Ev) (g:Int) (h:Bt):=(Z821 a∧Z105 b∧Z47 c∧Z630 a b)∧Sf true (Sf d (Sf (e,f,a) (ckMet (Z497 a).1 (Z502 a).1 b c=Z151 e f a g b c h)))
def Z925 (a:Ls) (b:TypeId) (c d:List Ev) (e:List Reg) (f:Int) (g:Li) (h:Bt):=Br true (Z48∧Z610 a∧Br false (Z565 b c d e f a g h) (Z26∧Br false (Z138∧Z632 a∧Br (Z585 a) (Z565 b c d e f a g h) Z178) (Z781 a g b c d e f h))) (Z781 a g b c d e f h)
def Z935 (a:Ls) (b:List Reg) (c:TypeId) (d e:List Ev) (f:Int) (g:Li) (h:Bt):=Br true (Z48∧Z895 a b∧Br false (Z565 c d e b f a g h) (Z26∧Br false (Z138∧Z897 a b∧Br (Z890 b a) (Z565 c d e b f a g h) Z178) (Z917 b a g c d e f h))) (Z917 b a g c d e f h)
theorem wp130_Meter (T:TypeId) (E C:List Ev) (G:List Reg) (n:Int) (ns:List ByteArray) (vs:List Int) (tx:ByteArray):wpFO Tryz.prog W91.g (annRole 2) (fun _=>na ()) (Sx.look ([(75,Tryz.f75)]:List (Nat×Func))) Tryz.f130 cAcc T (E,C,G) ((n,wMeter,ns,vs,tx),()):=by
 refine(by kernel_rfl:(HistOk (E,C,G)→checkE (Z11 n ns vs tx)=0→Z58 E∧Br (Z296 n E) (Sf true (Sf T (Sf (E,C,G) (11=Z151 E C G n ns vs tx)))) (Br false (Br (Z5 C) (Sf true (Sf T (Sf (E,C,G) (12=Z151 E C G n ns vs tx)))) (Z299 C∧Sf true (Sf T (Sf (E,C,G) (Z529 C=Z151 E C G n ns vs tx))))) (Br (Z97 G) (Z308 G∧Z81 vs∧Br (Z598 vs G) (Sf true (Sf T (Sf (E,C,G) (22=Z151 E C G n ns vs tx)))) (Br true (Z48∧Z894 ns G∧Br (Z892 G ns) (Z562 T E C G n ns vs tx) (Z26∧Br false (Z138∧Z898 ns G∧Z674 T E C G n ns vs tx) (Z935 ns G T E C n vs tx))) (Z935 ns G T E C n vs tx))) (Z81 vs∧Br (Z194 vs) (Sf true (Sf T (Sf (E,C,G) (22=Z151 E C G n ns vs tx)))) (Br true (Z48∧Z603 ns∧Br (Z589 ns) (Z562 T E C G n ns vs tx) (Z26∧Br false (Z138∧Z644 ns∧Z674 T E C G n ns vs tx) (Z925 ns T E C G n vs tx))) (Z925 ns T E C G n vs tx))))))=_).mp ?_
 delta Z2 Z5 Z7 Z11 Z22 Z26 Z47 Z48 Z58 Z59 Z79 Z81 Z85 Z86 Z88 Z97 Z103 Z104 Z105 Z124 Z138 Z151 Z178 Z181 Z194 Z242 Z244 Z247 Z274 Z296 Z299 Z306 Z308 Z336 Z408 Z411 Z447 Z457 Z458 Z481 Z486 Z497 Z502 Z512 Z517 Z518 Z529 Z562 Z565 Z585 Z589 Z598 Z603 Z610 Z630 Z632 Z644 Z674 Z781 Z814 Z820 Z821 Z829 Z830 Z881 Z884 Z890 Z892 Z894 Z895 Z897 Z898 Z917 Z925 Z935 Br Iw Bd T2 Tw Sf Ln Gt B0 Lb E2 wMeter wSettle
 intro hh hc
 have hE:=checkE_zero hc
 have eK:=accS_eq (h:=(E,C,G)) (n:=n) (k:=wMeter) (ns:=ns) (vs:=vs) (tx:=tx) (by kernel_rfl)
 have hn:=hE.nn
 have hv:=hE.nv
 simp only[kd_meter,ckS,List.length_cons,List.length_nil] at eK hn hv
 have hR:RegOk (nowS G):=now_ok hh
 have hr0:RegOk reg0:=now_ok (h:=([],[],[])) ⟨by decide,by decide,rfl,fun _ h=>(by cases h)⟩
 have n1:E.length≤1000:=hh.nE
 have n2:C.length≤E.length:=hh.nC
 have n3:G.length=C.length:=hh.nG
 have hG:((G.length:Int)-1).toNat=G.length-1:=by omega
 have hx:∀i,i<vs.length→(0≤vs.getD i 0∧vs.getD i 0≤999999999):=fun i hi=>hE.val _ (getD_mem hi)
 rw[eK]
 have hnow:G.getD (G.length-1) reg0=nowS G:=rfl
 have hreg:((0,0,[],[],[],[],[]):Reg)=reg0:=rfl
 simp only[hG,hnow,hreg,Prod.eta,accK,roleUnk,roleTwi,hasS0,hasS1,hasS2,hasS3,cond_true,cond_false,Bool.not_true,Bool.not_false,bnil]
 clear hreg
 repeat' first|apply And.intro|exact hE.val|intro _
 all_goals first|trivial|omega|assumption|contradiction|(rename_i h;have h:=of_decide_eq_true h;omega)|(simp only[*,cond_true,cond_false,Bool.not_true,Bool.not_false];done)|(have hq:nowS G=reg0:=now_nil (by assumption);rw[hq];have e1:decide (vs.getD 0 0<reg0.1)=true:=(by assumption);simp only[*,cond_true,cond_false];done)|(have hq:nowS G=reg0:=now_nil (by assumption);rw[hq];have e1:decide (vs.getD 0 0<reg0.1)=false:=(by assumption);simp only[*,cond_true,cond_false,Bool.not_true,Bool.not_false];first|done|rfl)|(simp only[Bool.not_eq_false',decide_eq_true_eq] at*;assumption)
def Z4 (a:Int) (b:Ls) (c:Li) (d:Bt):=(a,wTrip,b,c,d)
def Z145 (a b:List Ev) (c:List Reg) (d:Int) (e:Ls) (f:Li) (g:Bt):=accS (a,b,c) (Z4 d e f g)
def Z558 (a:TypeId) (b c:List Ev) (d:List Reg) (e:Int) (f:Ls) (g:Li) (h:Bt):=Sf true (Sf a (Sf (b,c,d) (9=Z145 b c d e f g h)))
def Z559 (a:TypeId) (b c:List Ev) (d:List Reg) (e:Int) (f:Ls) (g:Li) (h:Bt):=Sf true (Sf a (Sf (b,c,d) (10=Z145 b c d e f g h)))
def Z672 (a:TypeId) (b c:List Ev) (d:List Reg) (e:Int) (f:Ls) (g:Li) (h:Bt):=Br false (Z559 a b c d e f g h) Z178
def Z694 (a:Ls) (b:Li):=Z336∧Z105 a∧Z56 b∧Z242 a
def Z779 (a:Ls) (b:Li) (c:TypeId) (d e:List Ev) (f:List Reg) (g:Int) (h:Bt):=Z694 a b∧Sf true (Sf c (Sf (d,e,f) (ckTrip [] a b=Z145 d e f g a b h)))
def Z905 (a:List Reg) (b:Ls) (c:Li):=Z821 a∧Z105 b∧Z56 c∧Z630 a b
def Z914 (a:List Reg) (b:Ls) (c:Li) (d:TypeId) (e f:List Ev) (g:Int) (h:Bt):=Z905 a b c∧Sf true (Sf d (Sf (e,f,a) (ckTrip (Z497 a).1 b c=Z145 e f a g b c h)))
def Z923 (a:Ls) (b:TypeId) (c d:List Ev) (e:List Reg) (f:Int) (g:Li) (h:Bt):=Br true (Z48∧Z610 a∧Br false (Z558 b c d e f a g h) (Z26∧Br false (Z138∧Z632 a∧Br (Z585 a) (Z558 b c d e f a g h) Z178) (Z779 a g b c d e f h))) (Z779 a g b c d e f h)
def Z934 (a:Ls) (b:List Reg) (c:TypeId) (d e:List Ev) (f:Int) (g:Li) (h:Bt):=Br true (Z48∧Z895 a b∧Br false (Z558 c d e b f a g h) (Z26∧Br false (Z138∧Z897 a b∧Br (Z890 b a) (Z558 c d e b f a g h) Z178) (Z914 b a g c d e f h))) (Z914 b a g c d e f h)
theorem wp130_Trip (T:TypeId) (E C:List Ev) (G:List Reg) (n:Int) (ns:List ByteArray) (vs:List Int) (tx:ByteArray):wpFO Tryz.prog W91.g (annRole 2) (fun _=>na ()) (Sx.look ([(75,Tryz.f75)]:List (Nat×Func))) Tryz.f130 cAcc T (E,C,G) ((n,wTrip,ns,vs,tx),()):=by
 refine(by kernel_rfl:(HistOk (E,C,G)→checkE (Z4 n ns vs tx)=0→Z58 E∧Br (Z296 n E) (Sf true (Sf T (Sf (E,C,G) (11=Z145 E C G n ns vs tx)))) (Br false (Br (Z5 C) (Sf true (Sf T (Sf (E,C,G) (12=Z145 E C G n ns vs tx)))) (Z299 C∧Sf true (Sf T (Sf (E,C,G) (Z529 C=Z145 E C G n ns vs tx))))) (Br (Z97 G) (Z308 G∧Z81 vs∧Br (Z598 vs G) (Sf true (Sf T (Sf (E,C,G) (22=Z145 E C G n ns vs tx)))) (Br true (Z48∧Z894 ns G∧Br (Z892 G ns) (Z559 T E C G n ns vs tx) (Z26∧Br false (Z138∧Z898 ns G∧Z672 T E C G n ns vs tx) (Z934 ns G T E C n vs tx))) (Z934 ns G T E C n vs tx))) (Z81 vs∧Br (Z194 vs) (Sf true (Sf T (Sf (E,C,G) (22=Z145 E C G n ns vs tx)))) (Br true (Z48∧Z603 ns∧Br (Z589 ns) (Z559 T E C G n ns vs tx) (Z26∧Br false (Z138∧Z644 ns∧Z672 T E C G n ns vs tx) (Z923 ns T E C G n vs tx))) (Z923 ns T E C G n vs tx))))))=_).mp ?_
 delta Z2 Z4 Z5 Z7 Z22 Z26 Z48 Z56 Z58 Z59 Z79 Z81 Z85 Z86 Z88 Z97 Z103 Z104 Z105 Z124 Z138 Z145 Z178 Z181 Z194 Z242 Z244 Z247 Z274 Z296 Z299 Z306 Z308 Z336 Z408 Z411 Z447 Z457 Z458 Z481 Z486 Z497 Z502 Z512 Z517 Z518 Z529 Z558 Z559 Z585 Z589 Z598 Z603 Z610 Z630 Z632 Z644 Z672 Z694 Z779 Z814 Z820 Z821 Z829 Z830 Z881 Z884 Z890 Z892 Z894 Z895 Z897 Z898 Z905 Z914 Z923 Z934 Br Iw Bd T2 Tw Sf Ln Gt B0 Lb E2 wSettle wTrip
 intro hh hc
 have hE:=checkE_zero hc
 have eK:=accS_eq (h:=(E,C,G)) (n:=n) (k:=wTrip) (ns:=ns) (vs:=vs) (tx:=tx) (by kernel_rfl)
 have hn:=hE.nn
 have hv:=hE.nv
 simp only[kd_trip,ckS,List.length_cons,List.length_nil] at eK hn hv
 have hR:RegOk (nowS G):=now_ok hh
 have hr0:RegOk reg0:=now_ok (h:=([],[],[])) ⟨by decide,by decide,rfl,fun _ h=>(by cases h)⟩
 have n1:E.length≤1000:=hh.nE
 have n2:C.length≤E.length:=hh.nC
 have n3:G.length=C.length:=hh.nG
 have hG:((G.length:Int)-1).toNat=G.length-1:=by omega
 have hx:∀i,i<vs.length→(0≤vs.getD i 0∧vs.getD i 0≤999999999):=fun i hi=>hE.val _ (getD_mem hi)
 rw[eK]
 have hnow:G.getD (G.length-1) reg0=nowS G:=rfl
 have hreg:((0,0,[],[],[],[],[]):Reg)=reg0:=rfl
 simp only[hG,hnow,hreg,Prod.eta,accK,roleUnk,roleTwi,hasS0,hasS1,hasS2,hasS3,cond_true,cond_false,Bool.not_true,Bool.not_false,bnil]
 clear hreg
 repeat' first|apply And.intro|exact hE.val|intro _
 all_goals first|trivial|omega|assumption|contradiction|(rename_i h;have h:=of_decide_eq_true h;omega)|(simp only[*,cond_true,cond_false,Bool.not_true,Bool.not_false];done)|(have hq:nowS G=reg0:=now_nil (by assumption);rw[hq];have e1:decide (vs.getD 0 0<reg0.1)=true:=(by assumption);simp only[*,cond_true,cond_false];done)|(have hq:nowS G=reg0:=now_nil (by assumption);rw[hq];have e1:decide (vs.getD 0 0<reg0.1)=false:=(by assumption);simp only[*,cond_true,cond_false,Bool.not_true,Bool.not_false];first|done|rfl)|(simp only[Bool.not_eq_false',decide_eq_true_eq] at*;assumption)
def Z15 (a:Int) (b:Ls) (c:Li) (d:Bt):=(a,wOutage,b,c,d)
def Z54:=Tw (Bd 0 2)
def Z136:=Tw (Bd ((0:Int)+1) 2)
def Z162 (a b:List Ev) (c:List Reg) (d:Int) (e:Ls) (f:Li) (g:Bt):=accS (a,b,c) (Z15 d e f g)
def Z199:=Tw (Bd Z103 2)
def Z225:=Z189∧False
def Z369 (a:Li) (b:Ls):=Z46 a∧Z243 b
def Z521 (a:Ls):=hasS Z306 2 (Z85 a)
def Z571 (a:TypeId) (b c:List Ev) (d:List Reg) (e:Int) (f:Ls) (g:Li) (h:Bt):=Sf true (Sf a (Sf (b,c,d) (9=Z162 b c d e f g h)))
def Z572 (a:TypeId) (b c:List Ev) (d:List Reg) (e:Int) (f:Ls) (g:Li) (h:Bt):=Sf true (Sf a (Sf (b,c,d) (10=Z162 b c d e f g h)))
def Z581 (a:Ls):=bif true then Z520 a else false
def Z673 (a:Li) (b:List Reg) (c:Ls):=Z46 a∧Z628 b c
def Z691 (a:TypeId) (b c:List Ev) (d:List Reg) (e:Int) (f:Ls) (g:Li) (h:Bt):=Br false (Z572 a b c d e f g h) Z225
def Z794 (a:Int) (b:Ls) (c:Li) (d:Bt) (e:TypeId) (f g:List Ev) (h:List Reg):=(Z336∧EvV (Z15 a b c d)∧Z107 b∧Z369 c b)∧Sf true (Sf e (Sf (f,g,h) (ckOut [] [] [] (Z15 a b c d)=Z162 f g h a b c d)))
def Z880 (a:List Reg) (b:Ls):=hasS (Z820 a) 2 (Z85 b)
def Z888 (a:List Reg) (b:Ls):=bif true then Z885 a b else false
def Z920 (a:List Reg) (b:Int) (c:Ls) (d:Li) (e:Bt) (f:TypeId) (g h:List Ev):=(Z821 a∧EvV (Z15 b c d e)∧Z107 c∧Z673 d a c)∧Sf true (Sf f (Sf (g,h,a) (ckOut (Z486 a).1 (Z497 a).1 (Z512 a).1 (Z15 b c d e)=Z162 g h a b c d e)))
def Z930 (a:Ls) (b:TypeId) (c d:List Ev) (e:List Reg) (f:Int) (g:Li) (h:Bt):=Br true (Z54∧Z603 a∧Br (bif true then Z521 a else false) (Z571 b c d e f a g h) (Z26∧Br true (Z136∧Z644 a∧Br false (Z571 b c d e f a g h) (Z124∧Br false (Z199∧Z655 a∧Br (Z581 a) (Z571 b c d e f a g h) Z225) (Z794 f a g h b c d e))) (Z794 f a g h b c d e))) (Z794 f a g h b c d e)
def Z940 (a:Ls) (b:List Reg) (c:TypeId) (d e:List Ev) (f:Int) (g:Li) (h:Bt):=Br true (Z54∧Z894 a b∧Br (bif true then Z880 b a else false) (Z571 c d e b f a g h) (Z26∧Br true (Z136∧Z898 a b∧Br false (Z571 c d e b f a g h) (Z124∧Br false (Z199∧Z899 a b∧Br (Z888 b a) (Z571 c d e b f a g h) Z225) (Z920 b f a g h c d e))) (Z920 b f a g h c d e))) (Z920 b f a g h c d e)
theorem wp130_Outage (T:TypeId) (E C:List Ev) (G:List Reg) (n:Int) (ns:List ByteArray) (vs:List Int) (tx:ByteArray):wpFO Tryz.prog W91.g (annRole 3) (fun _=>na ()) (Sx.look ([(75,Tryz.f75)]:List (Nat×Func))) Tryz.f130 cAcc T (E,C,G) ((n,wOutage,ns,vs,tx),()):=by
 refine(by kernel_rfl:(HistOk (E,C,G)→checkE (Z15 n ns vs tx)=0→Z58 E∧Br (Z296 n E) (Sf true (Sf T (Sf (E,C,G) (11=Z162 E C G n ns vs tx)))) (Br false (Br (Z5 C) (Sf true (Sf T (Sf (E,C,G) (12=Z162 E C G n ns vs tx)))) (Z299 C∧Sf true (Sf T (Sf (E,C,G) (Z529 C=Z162 E C G n ns vs tx))))) (Br (Z97 G) (Z308 G∧Z81 vs∧Br (Z598 vs G) (Sf true (Sf T (Sf (E,C,G) (22=Z162 E C G n ns vs tx)))) (Br true (Z54∧Z895 ns G∧Br false (Z572 T E C G n ns vs tx) (Z26∧Br true (Z136∧Z897 ns G∧Br (Z891 G ns) (Z572 T E C G n ns vs tx) (Z124∧Br false (Z199∧Z900 ns G∧Z691 T E C G n ns vs tx) (Z940 ns G T E C n vs tx))) (Z940 ns G T E C n vs tx))) (Z940 ns G T E C n vs tx))) (Z81 vs∧Br (Z194 vs) (Sf true (Sf T (Sf (E,C,G) (22=Z162 E C G n ns vs tx)))) (Br true (Z54∧Z610 ns∧Br false (Z572 T E C G n ns vs tx) (Z26∧Br true (Z136∧Z632 ns∧Br (Z587 ns) (Z572 T E C G n ns vs tx) (Z124∧Br false (Z199∧Z658 ns∧Z691 T E C G n ns vs tx) (Z930 ns T E C G n vs tx))) (Z930 ns T E C G n vs tx))) (Z930 ns T E C G n vs tx))))))=_).mp ?_
 delta Z2 Z5 Z7 Z15 Z22 Z26 Z46 Z54 Z58 Z59 Z79 Z81 Z84 Z85 Z86 Z88 Z97 Z103 Z106 Z107 Z124 Z136 Z162 Z169 Z181 Z189 Z194 Z199 Z225 Z243 Z244 Z247 Z274 Z294 Z296 Z298 Z299 Z306 Z308 Z336 Z369 Z408 Z411 Z447 Z457 Z458 Z481 Z486 Z497 Z502 Z512 Z517 Z520 Z521 Z529 Z571 Z572 Z581 Z587 Z598 Z603 Z610 Z628 Z632 Z644 Z655 Z658 Z673 Z691 Z794 Z814 Z820 Z821 Z829 Z830 Z880 Z884 Z885 Z888 Z891 Z894 Z895 Z897 Z898 Z899 Z900 Z920 Z930 Z940 Br Iw Bd T2 Tw Sf Ln Gt B0 Lb E2 wOutage wSettle
 intro hh hc
 have hE:=checkE_zero hc
 have eK:=accS_eq (h:=(E,C,G)) (n:=n) (k:=wOutage) (ns:=ns) (vs:=vs) (tx:=tx) (by kernel_rfl)
 have hn:=hE.nn
 have hv:=hE.nv
 simp only[kd_outage,ckS,List.length_cons,List.length_nil] at eK hn hv
 have hR:RegOk (nowS G):=now_ok hh
 have hr0:RegOk reg0:=now_ok (h:=([],[],[])) ⟨by decide,by decide,rfl,fun _ h=>(by cases h)⟩
 have n1:E.length≤1000:=hh.nE
 have n2:C.length≤E.length:=hh.nC
 have n3:G.length=C.length:=hh.nG
 have hG:((G.length:Int)-1).toNat=G.length-1:=by omega
 have hx:∀i,i<vs.length→(0≤vs.getD i 0∧vs.getD i 0≤999999999):=fun i hi=>hE.val _ (getD_mem hi)
 rw[eK]
 have hnow:G.getD (G.length-1) reg0=nowS G:=rfl
 have hreg:((0,0,[],[],[],[],[]):Reg)=reg0:=rfl
 simp only[hG,hnow,hreg,Prod.eta,accK,roleUnk,roleTwi,hasS0,hasS1,hasS2,hasS3,cond_true,cond_false,Bool.not_true,Bool.not_false,bnil]
 clear hreg
 repeat' first|apply And.intro|exact hE.val|intro _
 all_goals first|trivial|omega|assumption|contradiction|(rename_i h;have h:=of_decide_eq_true h;omega)|(simp only[*,cond_true,cond_false,Bool.not_true,Bool.not_false];done)|(have hq:nowS G=reg0:=now_nil (by assumption);rw[hq];have e1:decide (vs.getD 0 0<reg0.1)=true:=(by assumption);simp only[*,cond_true,cond_false];done)|(have hq:nowS G=reg0:=now_nil (by assumption);rw[hq];have e1:decide (vs.getD 0 0<reg0.1)=false:=(by assumption);simp only[*,cond_true,cond_false,Bool.not_true,Bool.not_false];first|done|rfl)|(simp only[Bool.not_eq_false',decide_eq_true_eq] at*;assumption)
def Z28 (a:Int) (b:Ls) (c:Li) (d:Bt):=(a,wRestore,b,c,d)
def Z168 (a b:List Ev) (c:List Reg) (d:Int) (e:Ls) (f:Li) (g:Bt):=accS (a,b,c) (Z28 d e f g)
def Z575 (a:TypeId) (b c:List Ev) (d:List Reg) (e:Int) (f:Ls) (g:Li) (h:Bt):=Sf true (Sf a (Sf (b,c,d) (10=Z168 b c d e f g h)))
def Z576 (a:TypeId) (b c:List Ev) (d:List Reg) (e:Int) (f:Ls) (g:Li) (h:Bt):=Sf true (Sf a (Sf (b,c,d) (9=Z168 b c d e f g h)))
def Z683 (a:TypeId) (b c:List Ev) (d:List Reg) (e:Int) (f:Ls) (g:Li) (h:Bt):=Br false (Z575 a b c d e f g h) Z178
def Z695 (a:Ls) (b:Li):=Z336∧Z105 a∧Z56 b∧0≤findX [] (Z104 a)
def Z783 (a:Ls) (b:Li) (c:TypeId) (d e:List Ev) (f:List Reg) (g:Int) (h:Bt):=Z695 a b∧Sf true (Sf c (Sf (d,e,f) (ckRest [] [] a b=Z168 d e f g a b h)))
def Z906 (a:List Reg) (b:Ls) (c:Li):=Z821 a∧Z105 b∧Z56 c∧0≤findX (Z512 a).1 (Z104 b)
def Z919 (a:List Reg) (b:Ls) (c:Li) (d:TypeId) (e f:List Ev) (g:Int) (h:Bt):=Z906 a b c∧Sf true (Sf d (Sf (e,f,a) (ckRest (Z512 a).1 (Z512 a).2 b c=Z168 e f a g b c h)))
def Z926 (a:Ls) (b:TypeId) (c d:List Ev) (e:List Reg) (f:Int) (g:Li) (h:Bt):=Br true (Z48∧Z610 a∧Br false (Z576 b c d e f a g h) (Z26∧Br false (Z138∧Z632 a∧Br (Z585 a) (Z576 b c d e f a g h) Z178) (Z783 a g b c d e f h))) (Z783 a g b c d e f h)
def Z936 (a:Ls) (b:List Reg) (c:TypeId) (d e:List Ev) (f:Int) (g:Li) (h:Bt):=Br true (Z48∧Z895 a b∧Br false (Z576 c d e b f a g h) (Z26∧Br false (Z138∧Z897 a b∧Br (Z890 b a) (Z576 c d e b f a g h) Z178) (Z919 b a g c d e f h))) (Z919 b a g c d e f h)
theorem wp130_Restore (T:TypeId) (E C:List Ev) (G:List Reg) (n:Int) (ns:List ByteArray) (vs:List Int) (tx:ByteArray):wpFO Tryz.prog W91.g (annRole 2) (fun _=>na ()) (Sx.look ([(75,Tryz.f75)]:List (Nat×Func))) Tryz.f130 cAcc T (E,C,G) ((n,wRestore,ns,vs,tx),()):=by
 refine(by kernel_rfl:(HistOk (E,C,G)→checkE (Z28 n ns vs tx)=0→Z58 E∧Br (Z296 n E) (Sf true (Sf T (Sf (E,C,G) (11=Z168 E C G n ns vs tx)))) (Br false (Br (Z5 C) (Sf true (Sf T (Sf (E,C,G) (12=Z168 E C G n ns vs tx)))) (Z299 C∧Sf true (Sf T (Sf (E,C,G) (Z529 C=Z168 E C G n ns vs tx))))) (Br (Z97 G) (Z308 G∧Z81 vs∧Br (Z598 vs G) (Sf true (Sf T (Sf (E,C,G) (22=Z168 E C G n ns vs tx)))) (Br true (Z48∧Z894 ns G∧Br (bif true then !Z880 G ns else false) (Z575 T E C G n ns vs tx) (Z26∧Br false (Z138∧Z898 ns G∧Z683 T E C G n ns vs tx) (Z936 ns G T E C n vs tx))) (Z936 ns G T E C n vs tx))) (Z81 vs∧Br (Z194 vs) (Sf true (Sf T (Sf (E,C,G) (22=Z168 E C G n ns vs tx)))) (Br true (Z48∧Z603 ns∧Br (bif true then !Z521 ns else false) (Z575 T E C G n ns vs tx) (Z26∧Br false (Z138∧Z644 ns∧Z683 T E C G n ns vs tx) (Z926 ns T E C G n vs tx))) (Z926 ns T E C G n vs tx))))))=_).mp ?_
 delta Z2 Z5 Z7 Z22 Z26 Z28 Z48 Z56 Z58 Z59 Z79 Z81 Z85 Z86 Z88 Z97 Z103 Z104 Z105 Z124 Z138 Z168 Z178 Z181 Z194 Z244 Z247 Z274 Z296 Z299 Z306 Z308 Z336 Z408 Z411 Z447 Z457 Z458 Z481 Z486 Z497 Z502 Z512 Z517 Z521 Z529 Z575 Z576 Z585 Z598 Z603 Z610 Z632 Z644 Z683 Z695 Z783 Z814 Z820 Z821 Z829 Z830 Z880 Z884 Z890 Z894 Z895 Z897 Z898 Z906 Z919 Z926 Z936 Br Iw Bd T2 Tw Sf Ln Gt B0 Lb E2 wRestore wSettle
 intro hh hc
 have hE:=checkE_zero hc
 have eK:=accS_eq (h:=(E,C,G)) (n:=n) (k:=wRestore) (ns:=ns) (vs:=vs) (tx:=tx) (by kernel_rfl)
 have hn:=hE.nn
 have hv:=hE.nv
 simp only[kd_restore,ckS,List.length_cons,List.length_nil] at eK hn hv
 have hR:RegOk (nowS G):=now_ok hh
 have hr0:RegOk reg0:=now_ok (h:=([],[],[])) ⟨by decide,by decide,rfl,fun _ h=>(by cases h)⟩
 have n1:E.length≤1000:=hh.nE
 have n2:C.length≤E.length:=hh.nC
 have n3:G.length=C.length:=hh.nG
 have hG:((G.length:Int)-1).toNat=G.length-1:=by omega
 have hx:∀i,i<vs.length→(0≤vs.getD i 0∧vs.getD i 0≤999999999):=fun i hi=>hE.val _ (getD_mem hi)
 rw[eK]
 have hnow:G.getD (G.length-1) reg0=nowS G:=rfl
 have hreg:((0,0,[],[],[],[],[]):Reg)=reg0:=rfl
 simp only[hG,hnow,hreg,Prod.eta,accK,roleUnk,roleTwi,hasS0,hasS1,hasS2,hasS3,cond_true,cond_false,Bool.not_true,Bool.not_false,bnil]
 clear hreg
 repeat' first|apply And.intro|exact hE.val|intro _
 all_goals first|trivial|omega|assumption|contradiction|(rename_i h;have h:=of_decide_eq_true h;omega)|(simp only[*,cond_true,cond_false,Bool.not_true,Bool.not_false];done)|(have hq:nowS G=reg0:=now_nil (by assumption);rw[hq];have e1:decide (vs.getD 0 0<reg0.1)=true:=(by assumption);simp only[*,cond_true,cond_false];done)|(have hq:nowS G=reg0:=now_nil (by assumption);rw[hq];have e1:decide (vs.getD 0 0<reg0.1)=false:=(by assumption);simp only[*,cond_true,cond_false,Bool.not_true,Bool.not_false];first|done|rfl)|(simp only[Bool.not_eq_false',decide_eq_true_eq] at*;assumption)
def Z17 (a:Int) (b:Ls) (c:Li) (d:Bt):=(a,wPermit,b,c,d)
def Z161 (a b:List Ev) (c:List Reg) (d:Int) (e:Ls) (f:Li) (g:Bt):=accS (a,b,c) (Z17 d e f g)
def Z524 (a:Ls):=hasS Z306 3 (Z85 a)
def Z569 (a:TypeId) (b c:List Ev) (d:List Reg) (e:Int) (f:Ls) (g:Li) (h:Bt):=Sf true (Sf a (Sf (b,c,d) (10=Z161 b c d e f g h)))
def Z574 (a:TypeId) (b c:List Ev) (d:List Reg) (e:Int) (f:Ls) (g:Li) (h:Bt):=Sf true (Sf a (Sf (b,c,d) (9=Z161 b c d e f g h)))
def Z690 (a:TypeId) (b c:List Ev) (d:List Reg) (e:Int) (f:Ls) (g:Li) (h:Bt):=Br false (Z569 a b c d e f g h) Z225
def Z782 (a:Ls) (b:Li) (c:TypeId) (d e:List Ev) (f:List Reg) (g:Int) (h:Bt):=(Z336∧Z100 a∧Z56 b∧0≤findX [] (Z106 a))∧Sf true (Sf c (Sf (d,e,f) (ckPerm [] [] a b=Z161 d e f g a b h)))
def Z883 (a:List Reg) (b:Ls):=hasS (Z820 a) 3 (Z85 b)
def Z918 (a:List Reg) (b:Ls) (c:Li) (d:TypeId) (e f:List Ev) (g:Int) (h:Bt):=(Z821 a∧Z100 b∧Z56 c∧0≤findX (Z512 a).1 (Z106 b))∧Sf true (Sf d (Sf (e,f,a) (ckPerm (Z512 a).1 (Z512 a).2 b c=Z161 e f a g b c h)))
def Z929 (a:Ls) (b:TypeId) (c d:List Ev) (e:List Reg) (f:Int) (g:Li) (h:Bt):=Br true (Z54∧Z603 a∧Br (bif true then Z524 a else false) (Z574 b c d e f a g h) (Z26∧Br true (Z136∧Z644 a∧Br false (Z574 b c d e f a g h) (Z124∧Br false (Z199∧Z655 a∧Br (Z581 a) (Z574 b c d e f a g h) Z225) (Z782 a g b c d e f h))) (Z782 a g b c d e f h))) (Z782 a g b c d e f h)
def Z939 (a:Ls) (b:List Reg) (c:TypeId) (d e:List Ev) (f:Int) (g:Li) (h:Bt):=Br true (Z54∧Z894 a b∧Br (bif true then Z883 b a else false) (Z574 c d e b f a g h) (Z26∧Br true (Z136∧Z898 a b∧Br false (Z574 c d e b f a g h) (Z124∧Br false (Z199∧Z899 a b∧Br (Z888 b a) (Z574 c d e b f a g h) Z225) (Z918 b a g c d e f h))) (Z918 b a g c d e f h))) (Z918 b a g c d e f h)
theorem wp130_Permit (T:TypeId) (E C:List Ev) (G:List Reg) (n:Int) (ns:List ByteArray) (vs:List Int) (tx:ByteArray):wpFO Tryz.prog W91.g (annRole 3) (fun _=>na ()) (Sx.look ([(75,Tryz.f75)]:List (Nat×Func))) Tryz.f130 cAcc T (E,C,G) ((n,wPermit,ns,vs,tx),()):=by
 refine(by kernel_rfl:(HistOk (E,C,G)→checkE (Z17 n ns vs tx)=0→Z58 E∧Br (Z296 n E) (Sf true (Sf T (Sf (E,C,G) (11=Z161 E C G n ns vs tx)))) (Br false (Br (Z5 C) (Sf true (Sf T (Sf (E,C,G) (12=Z161 E C G n ns vs tx)))) (Z299 C∧Sf true (Sf T (Sf (E,C,G) (Z529 C=Z161 E C G n ns vs tx))))) (Br (Z97 G) (Z308 G∧Z81 vs∧Br (Z598 vs G) (Sf true (Sf T (Sf (E,C,G) (22=Z161 E C G n ns vs tx)))) (Br true (Z54∧Z895 ns G∧Br false (Z569 T E C G n ns vs tx) (Z26∧Br true (Z136∧Z897 ns G∧Br (bif true then !hasS (Z820 G) 2 (Z88 ns) else false) (Z569 T E C G n ns vs tx) (Z124∧Br false (Z199∧Z900 ns G∧Z690 T E C G n ns vs tx) (Z939 ns G T E C n vs tx))) (Z939 ns G T E C n vs tx))) (Z939 ns G T E C n vs tx))) (Z81 vs∧Br (Z194 vs) (Sf true (Sf T (Sf (E,C,G) (22=Z161 E C G n ns vs tx)))) (Br true (Z54∧Z610 ns∧Br false (Z569 T E C G n ns vs tx) (Z26∧Br true (Z136∧Z632 ns∧Br (bif true then !hasS Z306 2 (Z88 ns) else false) (Z569 T E C G n ns vs tx) (Z124∧Br false (Z199∧Z658 ns∧Z690 T E C G n ns vs tx) (Z929 ns T E C G n vs tx))) (Z929 ns T E C G n vs tx))) (Z929 ns T E C G n vs tx))))))=_).mp ?_
 delta Z2 Z5 Z7 Z17 Z22 Z26 Z54 Z56 Z58 Z59 Z79 Z81 Z84 Z85 Z86 Z88 Z97 Z100 Z103 Z106 Z124 Z136 Z161 Z169 Z181 Z189 Z194 Z199 Z225 Z244 Z247 Z274 Z294 Z296 Z298 Z299 Z306 Z308 Z336 Z408 Z411 Z447 Z457 Z458 Z481 Z486 Z497 Z502 Z512 Z520 Z524 Z529 Z569 Z574 Z581 Z598 Z603 Z610 Z632 Z644 Z655 Z658 Z690 Z782 Z814 Z820 Z821 Z829 Z830 Z883 Z885 Z888 Z894 Z895 Z897 Z898 Z899 Z900 Z918 Z929 Z939 Br Iw Bd T2 Tw Sf Ln Gt B0 Lb E2 wPermit wSettle
 intro hh hc
 have hE:=checkE_zero hc
 have eK:=accS_eq (h:=(E,C,G)) (n:=n) (k:=wPermit) (ns:=ns) (vs:=vs) (tx:=tx) (by kernel_rfl)
 have hn:=hE.nn
 have hv:=hE.nv
 simp only[kd_permit,ckS,List.length_cons,List.length_nil] at eK hn hv
 have hR:RegOk (nowS G):=now_ok hh
 have hr0:RegOk reg0:=now_ok (h:=([],[],[])) ⟨by decide,by decide,rfl,fun _ h=>(by cases h)⟩
 have n1:E.length≤1000:=hh.nE
 have n2:C.length≤E.length:=hh.nC
 have n3:G.length=C.length:=hh.nG
 have hG:((G.length:Int)-1).toNat=G.length-1:=by omega
 have hx:∀i,i<vs.length→(0≤vs.getD i 0∧vs.getD i 0≤999999999):=fun i hi=>hE.val _ (getD_mem hi)
 rw[eK]
 have hnow:G.getD (G.length-1) reg0=nowS G:=rfl
 have hreg:((0,0,[],[],[],[],[]):Reg)=reg0:=rfl
 simp only[hG,hnow,hreg,Prod.eta,accK,roleUnk,roleTwi,hasS0,hasS1,hasS2,hasS3,cond_true,cond_false,Bool.not_true,Bool.not_false,bnil]
 clear hreg
 repeat' first|apply And.intro|exact hE.val|intro _
 all_goals first|trivial|omega|assumption|contradiction|(rename_i h;have h:=of_decide_eq_true h;omega)|(simp only[*,cond_true,cond_false,Bool.not_true,Bool.not_false];done)|(have hq:nowS G=reg0:=now_nil (by assumption);rw[hq];have e1:decide (vs.getD 0 0<reg0.1)=true:=(by assumption);simp only[*,cond_true,cond_false];done)|(have hq:nowS G=reg0:=now_nil (by assumption);rw[hq];have e1:decide (vs.getD 0 0<reg0.1)=false:=(by assumption);simp only[*,cond_true,cond_false,Bool.not_true,Bool.not_false];first|done|rfl)|(simp only[Bool.not_eq_false',decide_eq_true_eq] at*;assumption)
def Z19 (a:Int) (b:Ls) (c:Li) (d:Bt):=(a,wReturn,b,c,d)
def Z158 (a b:List Ev) (c:List Reg) (d:Int) (e:Ls) (f:Li) (g:Bt):=accS (a,b,c) (Z19 d e f g)
def Z567 (a:TypeId) (b c:List Ev) (d:List Reg) (e:Int) (f:Ls) (g:Li) (h:Bt):=Sf true (Sf a (Sf (b,c,d) (10=Z158 b c d e f g h)))
def Z568 (a:TypeId) (b c:List Ev) (d:List Reg) (e:Int) (f:Ls) (g:Li) (h:Bt):=Sf true (Sf a (Sf (b,c,d) (9=Z158 b c d e f g h)))
def Z659 (a:Ls):=Z336∧Z105 a∧0≤findP [] (Z104 a)
def Z679 (a:TypeId) (b c:List Ev) (d:List Reg) (e:Int) (f:Ls) (g:Li) (h:Bt):=Br false (Z567 a b c d e f g h) Z178
def Z765 (a:Ls) (b:TypeId) (c d:List Ev) (e:List Reg) (f:Int) (g:Li) (h:Bt):=Z659 a∧Sf true (Sf b (Sf (c,d,e) (ckRet [] a=Z158 c d e f a g h)))
def Z904 (a:List Reg) (b:Ls):=Z821 a∧Z105 b∧0≤findP (Z512 a).2 (Z104 b)
def Z913 (a:List Reg) (b:Ls) (c:TypeId) (d e:List Ev) (f:Int) (g:Li) (h:Bt):=Z904 a b∧Sf true (Sf c (Sf (d,e,a) (ckRet (Z512 a).2 b=Z158 d e a f b g h)))
def Z921 (a:Ls) (b:TypeId) (c d:List Ev) (e:List Reg) (f:Int) (g:Li) (h:Bt):=Br true (Z48∧Z610 a∧Br false (Z568 b c d e f a g h) (Z26∧Br false (Z138∧Z632 a∧Br (Z585 a) (Z568 b c d e f a g h) Z178) (Z765 a b c d e f g h))) (Z765 a b c d e f g h)
def Z933 (a:Ls) (b:List Reg) (c:TypeId) (d e:List Ev) (f:Int) (g:Li) (h:Bt):=Br true (Z48∧Z895 a b∧Br false (Z568 c d e b f a g h) (Z26∧Br false (Z138∧Z897 a b∧Br (Z890 b a) (Z568 c d e b f a g h) Z178) (Z913 b a c d e f g h))) (Z913 b a c d e f g h)
theorem wp130_Return (T:TypeId) (E C:List Ev) (G:List Reg) (n:Int) (ns:List ByteArray) (vs:List Int) (tx:ByteArray):wpFO Tryz.prog W91.g (annRole 2) (fun _=>na ()) (Sx.look ([(75,Tryz.f75)]:List (Nat×Func))) Tryz.f130 cAcc T (E,C,G) ((n,wReturn,ns,vs,tx),()):=by
 refine(by kernel_rfl:(HistOk (E,C,G)→checkE (Z19 n ns vs tx)=0→Z58 E∧Br (Z296 n E) (Sf true (Sf T (Sf (E,C,G) (11=Z158 E C G n ns vs tx)))) (Br false (Br (Z5 C) (Sf true (Sf T (Sf (E,C,G) (12=Z158 E C G n ns vs tx)))) (Z299 C∧Sf true (Sf T (Sf (E,C,G) (Z529 C=Z158 E C G n ns vs tx))))) (Br (Z97 G) (Z308 G∧Z81 vs∧Br (Z598 vs G) (Sf true (Sf T (Sf (E,C,G) (22=Z158 E C G n ns vs tx)))) (Br true (Z48∧Z894 ns G∧Br (bif true then !Z883 G ns else false) (Z567 T E C G n ns vs tx) (Z26∧Br false (Z138∧Z898 ns G∧Z679 T E C G n ns vs tx) (Z933 ns G T E C n vs tx))) (Z933 ns G T E C n vs tx))) (Z81 vs∧Br (Z194 vs) (Sf true (Sf T (Sf (E,C,G) (22=Z158 E C G n ns vs tx)))) (Br true (Z48∧Z603 ns∧Br (bif true then !Z524 ns else false) (Z567 T E C G n ns vs tx) (Z26∧Br false (Z138∧Z644 ns∧Z679 T E C G n ns vs tx) (Z921 ns T E C G n vs tx))) (Z921 ns T E C G n vs tx))))))=_).mp ?_
 delta Z2 Z5 Z7 Z19 Z22 Z26 Z48 Z58 Z59 Z79 Z81 Z85 Z86 Z88 Z97 Z103 Z104 Z105 Z124 Z138 Z158 Z178 Z181 Z194 Z244 Z247 Z274 Z296 Z299 Z306 Z308 Z336 Z408 Z411 Z447 Z457 Z458 Z481 Z486 Z497 Z502 Z512 Z517 Z524 Z529 Z567 Z568 Z585 Z598 Z603 Z610 Z632 Z644 Z659 Z679 Z765 Z814 Z820 Z821 Z829 Z830 Z883 Z884 Z890 Z894 Z895 Z897 Z898 Z904 Z913 Z921 Z933 Br Iw Bd T2 Tw Sf Ln Gt B0 Lb E2 wReturn wSettle
 intro hh hc
 have hE:=checkE_zero hc
 have eK:=accS_eq (h:=(E,C,G)) (n:=n) (k:=wReturn) (ns:=ns) (vs:=vs) (tx:=tx) (by kernel_rfl)
 have hn:=hE.nn
 have hv:=hE.nv
 simp only[kd_return,ckS,List.length_cons,List.length_nil] at eK hn hv
 have hR:RegOk (nowS G):=now_ok hh
 have hr0:RegOk reg0:=now_ok (h:=([],[],[])) ⟨by decide,by decide,rfl,fun _ h=>(by cases h)⟩
 have n1:E.length≤1000:=hh.nE
 have n2:C.length≤E.length:=hh.nC
 have n3:G.length=C.length:=hh.nG
 have hG:((G.length:Int)-1).toNat=G.length-1:=by omega
 have hx:∀i,i<vs.length→(0≤vs.getD i 0∧vs.getD i 0≤999999999):=fun i hi=>hE.val _ (getD_mem hi)
 rw[eK]
 have hnow:G.getD (G.length-1) reg0=nowS G:=rfl
 have hreg:((0,0,[],[],[],[],[]):Reg)=reg0:=rfl
 simp only[hG,hnow,hreg,Prod.eta,accK,roleUnk,roleTwi,hasS0,hasS1,hasS2,hasS3,cond_true,cond_false,Bool.not_true,Bool.not_false,bnil]
 clear hreg
 repeat' first|apply And.intro|exact hE.val|intro _
 all_goals first|trivial|omega|assumption|contradiction|(rename_i h;have h:=of_decide_eq_true h;omega)|(simp only[*,cond_true,cond_false,Bool.not_true,Bool.not_false];done)|(have hq:nowS G=reg0:=now_nil (by assumption);rw[hq];have e1:decide (vs.getD 0 0<reg0.1)=true:=(by assumption);simp only[*,cond_true,cond_false];done)|(have hq:nowS G=reg0:=now_nil (by assumption);rw[hq];have e1:decide (vs.getD 0 0<reg0.1)=false:=(by assumption);simp only[*,cond_true,cond_false,Bool.not_true,Bool.not_false];first|done|rfl)|(simp only[Bool.not_eq_false',decide_eq_true_eq] at*;assumption)
def Z21 (a:Int) (b:Ls) (c:Li) (d:Bt):=(a,wSettle,b,c,d)
def Z157 (a b:List Ev) (c:List Reg) (d:Int) (e:Ls) (f:Li) (g:Bt):=accS (a,b,c) (Z21 d e f g)
def Z667 (a:TypeId) (b c:List Ev) (d:List Reg) (e:Int) (f:Ls) (g:Li) (h:Bt):=Br false (Sf true (Sf a (Sf (b,c,d) (10=Z157 b c d e f g h)))) Z114
theorem wp130_Settle (T:TypeId) (E C:List Ev) (G:List Reg) (n:Int) (ns:List ByteArray) (vs:List Int) (tx:ByteArray):wpFO Tryz.prog W91.g (annRole 1) (fun _=>na ()) (Sx.look ([(75,Tryz.f75)]:List (Nat×Func))) Tryz.f130 cAcc T (E,C,G) ((n,wSettle,ns,vs,tx),()):=by
 refine(by kernel_rfl:(HistOk (E,C,G)→checkE (Z21 n ns vs tx)=0→Z58 E∧Br (Z296 n E) (Sf true (Sf T (Sf (E,C,G) (11=Z157 E C G n ns vs tx)))) (Br false (Br (Z5 C) (Sf true (Sf T (Sf (E,C,G) (12=Z157 E C G n ns vs tx)))) (Z299 C∧Sf true (Sf T (Sf (E,C,G) (Z529 C=Z157 E C G n ns vs tx))))) (Br (Z97 G) (Z308 G∧Z81 vs∧Br (Z598 vs G) (Sf true (Sf T (Sf (E,C,G) (22=Z157 E C G n ns vs tx)))) (Br false (Z45∧Z895 ns G∧Z667 T E C G n ns vs tx) (Br false (Z45∧Z894 ns G∧Br (Z889 G ns) (Sf true (Sf T (Sf (E,C,G) (9=Z157 E C G n ns vs tx)))) Z114) (Z864 G vs∧Sf true (Sf T (Sf (E,C,G) (ckSett (Z481 G) (Z497 G).1 (Z502 G).1 (Z512 G).1 (Z512 G).2 vs=Z157 E C G n ns vs tx))))))) (Z81 vs∧Br (Z194 vs) (Sf true (Sf T (Sf (E,C,G) (22=Z157 E C G n ns vs tx)))) (Br false (Z45∧Z610 ns∧Z667 T E C G n ns vs tx) (Br false (Z45∧Z603 ns∧Br (Z582 ns) (Sf true (Sf T (Sf (E,C,G) (9=Z157 E C G n ns vs tx)))) Z114) (Z476 vs∧Sf true (Sf T (Sf (E,C,G) (ckSett 0 [] [] [] [] vs=Z157 E C G n ns vs tx))))))))))=_).mp ?_
 delta Z2 Z5 Z7 Z21 Z22 Z26 Z45 Z55 Z58 Z59 Z79 Z81 Z85 Z86 Z97 Z114 Z157 Z181 Z194 Z274 Z296 Z299 Z306 Z308 Z336 Z408 Z411 Z447 Z457 Z458 Z476 Z481 Z486 Z497 Z502 Z512 Z522 Z529 Z582 Z598 Z603 Z610 Z667 Z814 Z820 Z821 Z829 Z830 Z864 Z882 Z889 Z894 Z895 Br Iw Bd T2 Tw Sf Ln Gt B0 Lb E2 wSettle
 intro hh hc
 have hE:=checkE_zero hc
 have eK:=accS_eq (h:=(E,C,G)) (n:=n) (k:=wSettle) (ns:=ns) (vs:=vs) (tx:=tx) (by kernel_rfl)
 have hn:=hE.nn
 have hv:=hE.nv
 simp only[kd_settle,ckS,List.length_cons,List.length_nil] at eK hn hv
 have hR:RegOk (nowS G):=now_ok hh
 have hr0:RegOk reg0:=now_ok (h:=([],[],[])) ⟨by decide,by decide,rfl,fun _ h=>(by cases h)⟩
 have n1:E.length≤1000:=hh.nE
 have n2:C.length≤E.length:=hh.nC
 have n3:G.length=C.length:=hh.nG
 have hG:((G.length:Int)-1).toNat=G.length-1:=by omega
 have hx:∀i,i<vs.length→(0≤vs.getD i 0∧vs.getD i 0≤999999999):=fun i hi=>hE.val _ (getD_mem hi)
 rw[eK]
 have hnow:G.getD (G.length-1) reg0=nowS G:=rfl
 have hreg:((0,0,[],[],[],[],[]):Reg)=reg0:=rfl
 simp only[hG,hnow,hreg,Prod.eta,accK,roleUnk,roleTwi,hasS0,hasS1,hasS2,hasS3,cond_true,cond_false,Bool.not_true,Bool.not_false,bnil]
 clear hreg
 repeat' first|apply And.intro|exact hE.val|intro _
 all_goals first|trivial|omega|assumption|contradiction|(rename_i h;have h:=of_decide_eq_true h;omega)|(simp only[*,cond_true,cond_false,Bool.not_true,Bool.not_false];done)|(have hq:nowS G=reg0:=now_nil (by assumption);rw[hq];have e1:decide (vs.getD 0 0<reg0.1)=true:=(by assumption);simp only[*,cond_true,cond_false];done)|(have hq:nowS G=reg0:=now_nil (by assumption);rw[hq];have e1:decide (vs.getD 0 0<reg0.1)=false:=(by assumption);simp only[*,cond_true,cond_false,Bool.not_true,Bool.not_false];first|done|rfl)|(simp only[Bool.not_eq_false',decide_eq_true_eq] at*;assumption)
theorem bytes_eq {a b:ByteArray} (h:(a.toList==b.toList)=true):a=b:=by
 have h:=eq_of_beq h
 rw[Lib.toList_data,Lib.toList_data] at h
 cases a;cases b
 congr
 exact Array.toList_inj.1 h
theorem key_str {a b:ByteArray} (h:keyEq .str a b=true):a=b:=bytes_eq h
theorem mpGet_mem {β:Type} {ks:Sch} {k:ks.T}:∀{l:List (ks.T×β)},(mpGet ks k l).isSome=true→∃x∈l,keyEq ks k x.1=true
 |[],h=>by cases h
 | x :: l, h => by
  unfold mpGet at h
  by_cases hx:keyEq ks k x.1=true
  ·exact⟨x,List.mem_cons_self ..,hx⟩
  ·rw[if_neg hx] at h
   obtain⟨y,h1,h2⟩:=mpGet_mem h
   exact⟨y,List.mem_cons_of_mem _ h1,h2⟩
theorem kind_cases {k:ByteArray} (h:kindK k=true):k=wUndo∨k=wStation∨k=wPrice∨k=wOrder∨k=wMeter∨k=wTrip∨k=wOutage∨k=wRestore∨k=wPermit∨k=wReturn∨k=wSettle:=by
 obtain⟨x,hx,hk⟩:=mpGet_mem h
 have hk:=key_str hk
 unfold kindsL at hx
 subst hk
 rcases List.mem_cons.1 hx with rfl|hx
 ·exact .inl rfl
 rcases List.mem_cons.1 hx with rfl|hx
 ·exact .inr (.inl rfl)
 rcases List.mem_cons.1 hx with rfl|hx
 ·exact .inr (.inr (.inl rfl))
 rcases List.mem_cons.1 hx with rfl|hx
 ·exact .inr (.inr (.inr (.inl rfl)))
 rcases List.mem_cons.1 hx with rfl|hx
 ·exact .inr (.inr (.inr (.inr (.inl rfl))))
 rcases List.mem_cons.1 hx with rfl|hx
 ·exact .inr (.inr (.inr (.inr (.inr (.inl rfl)))))
 rcases List.mem_cons.1 hx with rfl|hx
 ·exact .inr (.inr (.inr (.inr (.inr (.inr (.inl rfl))))))
 rcases List.mem_cons.1 hx with rfl|hx
 ·exact .inr (.inr (.inr (.inr (.inr (.inr (.inr (.inl rfl)))))))
 rcases List.mem_cons.1 hx with rfl|hx
 ·exact .inr (.inr (.inr (.inr (.inr (.inr (.inr (.inr (.inl rfl))))))))
 rcases List.mem_cons.1 hx with rfl|hx
 ·exact .inr (.inr (.inr (.inr (.inr (.inr (.inr (.inr (.inr (.inl rfl)))))))))
 rcases List.mem_cons.1 hx with rfl|hx
 ·exact .inr (.inr (.inr (.inr (.inr (.inr (.inr (.inr (.inr (.inr rfl)))))))))
 cases hx
theorem imps_conj:∀{l:List Prop} {q:Prop},(conj l→imps l q)→imps l q
 |[],_,h=>h trivial
 |[_],_,h=>fun hp=>h hp hp
 |_::p'::r,_,h=>fun hp=>imps_conj (l:=p'::r) fun hr=>h ⟨hp,hr⟩ hp
theorem wpFO_pre {Γ:Gam} {ann:Nat→Option Ann} {annF:FuncId→Nat→Option Ann} {lib:FuncId→Option Func} {fn:Func} {c:ConO} {T:TypeId} {x:c.s.T} {y:ATup c.args} (hb:fn.body.isSome=true) (h:conj (c.pre x y)→wpFO Tryz.prog Γ ann annF lib fn c T x y):wpFO Tryz.prog Γ ann annF lib fn c T x y:=by
 unfold wpFO at h⊢
 cases hc:fn.body with
 |none=>rw[hc] at hb;cases hb
 |some code=>
  rw[hc] at h
  exact imps_conj h
def roleN (k:ByteArray):Nat:=if k=wUndo then 1 else(kindD k).1.length+1
theorem wp130 (T:TypeId):∀(x:Hist) (y:ATup [aEv]),wpFO Tryz.prog W91.g (annRole (roleN y.1.2.1)) (fun _=>na ()) (Sx.look ([(75,Tryz.f75)]:List (Nat×Func))) Tryz.f130 cAcc T x y
 |(E,C,G),((n,k,ns,vs,tx),())=>by
  refine wpFO_pre (by kernel_rfl) fun hp=> ?_
  have hc:checkE (n,k,ns,vs,tx)=0:=hp.2
  rcases kind_cases (checkE_zero hc).kind with h|h|h|h|h|h|h|h|h|h|h<;>dsimp only at h<;>subst h
  ·exact(show roleN wUndo=1 from by kernel_rfl)▸wp130_Undo T E C G n ns vs tx
  ·exact(show roleN wStation=2 from by kernel_rfl)▸wp130_Station T E C G n ns vs tx
  ·exact(show roleN wPrice=2 from by kernel_rfl)▸wp130_Price T E C G n ns vs tx
  ·exact(show roleN wOrder=4 from by kernel_rfl)▸wp130_Order T E C G n ns vs tx
  ·exact(show roleN wMeter=2 from by kernel_rfl)▸wp130_Meter T E C G n ns vs tx
  ·exact(show roleN wTrip=2 from by kernel_rfl)▸wp130_Trip T E C G n ns vs tx
  ·exact(show roleN wOutage=3 from by kernel_rfl)▸wp130_Outage T E C G n ns vs tx
  ·exact(show roleN wRestore=2 from by kernel_rfl)▸wp130_Restore T E C G n ns vs tx
  ·exact(show roleN wPermit=3 from by kernel_rfl)▸wp130_Permit T E C G n ns vs tx
  ·exact(show roleN wReturn=2 from by kernel_rfl)▸wp130_Return T E C G n ns vs tx
  ·exact(show roleN wSettle=1 from by kernel_rfl)▸wp130_Settle T E C G n ns vs tx
theorem ok130:Ok Tryz.prog 130 (ConO.con cAcc):=ok_obj (ok_of_wpO mixed W91.ok (by kernel_rfl) (by kernel_rfl) (lib_ok (l:=([(75,Tryz.f75)]:List (Nat×Func))) (List.forall_mem_cons.2 ⟨by kernel_rfl,by simp⟩)) (fun _ yy=>annRole (roleN yy.1.2.1)) (fun _ _=>fun _=>na ()) fun T xx yy _=>wp130 T xx yy)
abbrev W92:=W91.add ok130
def doS (r:Reg) (e:Ev):Reg:=match(kindD e.2.1).2.2.2.1 with
 |some 149=>doAddS r e
 |some 153=>doSetP r e
 |some 155=>doAddO r e
 |some 158=>doAddM r e
 |some 160=>doTrip r e
 |some 162=>doAddX r e
 |some 165=>doRest r e
 |some 167=>doAddP r e
 |some 170=>doRet r e
 |some 172=>doSett r e
 |_=>r
def stepS (r:Reg) (e:Ev):Reg:=(e.2.2.2.1.getD 0 0,(doS r e).2)
def addH (h:Hist) (e:Ev):Hist:=
 bif e.2.1.toList==wUndo.toList then(h.1++[e],h.2.1.take (h.2.1.length-1),h.2.2.take (h.2.1.length-1)) else(h.1++[e],h.2.1++[e],h.2.2++[stepS (nowS h.2.2) e])
def addE (h:Hist) (e:Ev):Int:=if checkE e≠0 then checkE e else accS h e
def evSz (e:Ev):Prop:=e.2.2.1.length≤1000000∧e.2.2.2.1.length≤1000000∧∀s∈e.2.2.1,s.size≤1000000
def addP (h:Hist) (e:Ev):Hist:=if addE h e=0 then addH h e else h
def cAdd:ConO:={T? :=none,s:=sHist,args:=[aEv],ress:=[I],pre:=fun h (e,_)=>[HistOk h,h.1.length<1000,evSz e],spec:=fun h (e,_)=>(addE h e,()),post:=fun h (e,_)=>addP h e}
def cAddK:ConO:={cAdd with pre:=fun h (e,_)=>[HistOk h,h.1.length<1000,evSz e,checkE e=0,accS h e=0]}
theorem accK_zero {h:Hist} {n:Int} {ns:List ByteArray} {vs:List Int} {roles:List (Int×Bool)} {ck:Int} (e:accK h n ns vs roles ck=0):n=(h.1.length:Int)+1∧¬vs.getD 0 0<(nowS h.2.2).1∧roleUnk (nowS h.2.2) ns roles 0=false∧roleTwi (nowS h.2.2) ns roles 0=false∧ck=0:=by
 unfold accK at e
 cases h1:n !=(h.1.length:Int)+1 with
 |true=>rw[h1] at e;cases e
 | false =>
  rw[h1,cond_false] at e
  cases h2:decide (vs.getD 0 0<(nowS h.2.2).1) with
  |true=>rw[h2] at e;cases e
  | false =>
   rw[h2,cond_false] at e
   cases h3:roleUnk (nowS h.2.2) ns roles 0 with
   |true=>rw[h3] at e;cases e
   | false =>
    rw[h3,cond_false] at e
    cases h4:roleTwi (nowS h.2.2) ns roles 0 with
    |true=>rw[h4] at e;cases e
    |false=>
     rw[h4,cond_false] at e
     exact⟨bne_eq_false_iff_eq.1 h1,of_decide_eq_false h2,rfl,rfl,e⟩
theorem unk_cons {r:Reg} {ns:List ByteArray} {w:Int} {b:Bool} {l:List (Int×Bool)} {i:Nat} (h:roleUnk r ns ((w,b)::l) i=false):(b=true→hasS r w (ns.getD i bnil)=true)∧roleUnk r ns l (i+1)=false:=by
 unfold roleUnk at h
 cases b with
 |false=>exact⟨fun f=>(by cases f),h⟩
 |true=>
  cases h1:hasS r w (ns.getD i bnil) with
  |true=>rw[h1] at h;exact⟨fun _=>rfl,h⟩
  |false=>rw[h1] at h;cases h
theorem has0 {r:Reg} {s:ByteArray} (h:hasS r 0 s=true):0≤findS r.2.2.1 s:=of_decide_eq_true (show decide _=true from h)
theorem has1 {r:Reg} {s:ByteArray} (h:hasS r 1 s=true):0≤findO r.2.2.2.1 s:=of_decide_eq_true (show decide _=true from h)
theorem has2 {r:Reg} {s:ByteArray} (h:hasS r 2 s=true):0≤findX r.2.2.2.2.2.1 s:=of_decide_eq_true (show decide _=true from h)
theorem has3 {r:Reg} {s:ByteArray} (h:hasS r 3 s=true):0≤findP r.2.2.2.2.2.2 s:=of_decide_eq_true (show decide _=true from h)
theorem not_undo {h:Hist} {n:Int} {k:ByteArray} {ns:List ByteArray} {vs:List Int} {tx:ByteArray} (hk:(k.toList==wUndo.toList)=false) (hc:checkE (n,k,ns,vs,tx)=0) (ha:accS h (n,k,ns,vs,tx)=0):addE h (n,k,ns,vs,tx)=0∧addP h (n,k,ns,vs,tx)=(h.1++[(n,k,ns,vs,tx)],h.2.1++[(n,k,ns,vs,tx)],h.2.2++[stepS (nowS h.2.2) (n,k,ns,vs,tx)]):=by
 have e:addE h (n,k,ns,vs,tx)=0:=by unfold addE;rw[if_neg (by rw[hc];simp)];exact ha
 refine⟨e, ?_⟩
 unfold addP;rw[if_pos e];unfold addH;dsimp only;rw[hk];rfl
theorem acc_undo {h:Hist} {n:Int} {ns:List ByteArray} {vs:List Int} {tx:ByteArray} (ha:accS h (n,wUndo,ns,vs,tx)=0):n=(h.1.length:Int)+1∧h.2.1.length≠0∧((h.2.1.getD (h.2.1.length-1) ev0).2.1.toList==wSettle.toList)=false:=by
 unfold accS at ha
 dsimp only at ha
 rw[show(wUndo.toList==wUndo.toList)=true from by kernel_rfl,cond_true] at ha
 cases h1:n !=(h.1.length:Int)+1 with
 |true=>rw[h1] at ha;cases ha
 | false =>
  rw[h1,cond_false] at ha
  cases h2:(h.2.1.length:Int)==0 with
  |true=>rw[h2] at ha;cases ha
  |false=>
   rw[h2,cond_false] at ha
   cases h3:(h.2.1.getD (h.2.1.length-1) ev0).2.1.toList==wSettle.toList with
   |true=>rw[h3] at ha;cases ha
   |false=>exact⟨bne_eq_false_iff_eq.1 h1,(fun e=>by rw[e] at h2;cases h2),rfl⟩
def Z30 (a:List Ev):=List.length a<1000
def Z195 (a:List Ev):=(List.length a+1)*88≤140737488355328
def Z295:=0≤1000000∧T2 (0≤1000000) (Tw (0≤1000000))
def Z356 (a:List Ev) (b:List Reg):=(List.take (Int.toNat (Z7 a)) a,List.take (Int.toNat (Z7 a)) b)
def Z407 (a:List Ev) (b:List Reg):=Z195 a∧(List.length b+1)*136≤140737488355328
def Z591 (a:List Ev) (b:List Reg):=(0≤Z7 a∧Z7 a≤Ln a)∧0≤Z7 a∧Z7 a≤Ln b
def Z625 (a:Ls) (b:Li):=Z102 a∧Z53 b∧Z402 a
def Z819 (a:List Reg):=List.length (Z486 a).1≤1000000∧List.length (Z497 a).1≤1000000∧List.length (Z502 a).1≤1000000∧List.length (Z512 a).1≤1000000∧List.length (Z512 a).2≤1000000
theorem wp121_Undo (T:TypeId) (E C:List Ev) (G:List Reg) (n:Int) (ns:List ByteArray) (vs:List Int) (tx:ByteArray):wpFO Tryz.prog W92.g (na ()) (fun _=>na ()) (Sx.look ([(75,Tryz.f75),(129,Tryz.f129)]:List (Nat×Func))) Tryz.f121 cAddK T (E,C,G) ((n,wUndo,ns,vs,tx),()):=by
 refine(by kernel_rfl:(HistOk (E,C,G)→Z30 E→evSz (Z6 n ns vs tx)→checkE (Z6 n ns vs tx)=0→Z146 E C G n ns vs tx=0→Z625 ns vs∧Br (checkE (Z6 n ns vs tx) !=0) (Sf true (Sf T ((E,C,G)=addP (E,C,G) (Z6 n ns vs tx)∧checkE (Z6 n ns vs tx)=addE (E,C,G) (Z6 n ns vs tx)))) ((HistOk (E,C,G)∧checkE (Z6 n ns vs tx)=0)∧Br (Z146 E C G n ns vs tx !=0) (Sf true (Sf T ((E,C,G)=addP (E,C,G) (Z6 n ns vs tx)∧Z146 E C G n ns vs tx=addE (E,C,G) (Z6 n ns vs tx)))) (Z249 ns vs∧Z195 E∧Br true (Z59 C∧Z591 C G∧Sf true (Sf T ((E++[Z6 n ns vs tx],Z356 C G)=addP (E,C,G) (Z6 n ns vs tx)∧0=addE (E,C,G) (Z6 n ns vs tx)))) (Br (Z97 G) (Z308 G∧Z819 G∧False∧Z81 vs∧Z407 C G∧Sf true (Sf T ((E++[Z6 n ns vs tx],C++[Z6 n ns vs tx],G++[(Z86 vs,Z814 G)])=addP (E,C,G) (Z6 n ns vs tx)∧0=addE (E,C,G) (Z6 n ns vs tx)))) (Z295∧False∧Z81 vs∧Z407 C G∧Sf true (Sf T ((E++[Z6 n ns vs tx],C++[Z6 n ns vs tx],G++[(Z86 vs,Z274)])=addP (E,C,G) (Z6 n ns vs tx)∧0=addE (E,C,G) (Z6 n ns vs tx))))))))=_).mp ?_
 delta Z6 Z7 Z22 Z30 Z53 Z59 Z81 Z86 Z97 Z102 Z146 Z195 Z241 Z249 Z274 Z295 Z306 Z308 Z356 Z402 Z407 Z447 Z458 Z481 Z486 Z497 Z502 Z512 Z591 Z625 Z814 Z819 Br Iw Bd T2 Tw Sf Ln Gt E2 wUndo
 intro hh hlt hsz hc ha
 obtain⟨a1,a2,a3⟩:=acc_undo ha
 have n1:E.length≤1000:=hh.nE
 have n2:C.length≤E.length:=hh.nC
 have n3:G.length=C.length:=hh.nG
 have a2:C.length≠0:=a2
 have hC:((C.length:Int)-1).toNat=C.length-1:=by omega
 have eE:addE (E,C,G) (n,wUndo,ns,vs,tx)=0:=by unfold addE;rw[if_neg (by rw[hc];simp)];exact ha
 have eP:addP (E,C,G) (n,wUndo,ns,vs,tx)=(E++[(n,wUndo,ns,vs,tx)],C.take (C.length-1),G.take (C.length-1)):=by
  unfold addP;rw[if_pos eE];unfold addH;dsimp only;rw[show(wUndo.toList==wUndo.toList)=true from by kernel_rfl];rfl
 simp only[eE,eP,hc,ha,hC]
 repeat' first|exact hh|exact hsz.2.2|apply And.intro|intro _
 all_goals first|trivial|omega|assumption|contradiction|exact hsz.1|exact hsz.2.1|rfl
def Z450 (a:Int) (b:Ls) (c:Li) (d:Bt):=(doAddS Z306 (Z27 a b c d)).2
def Z463 (a:Int) (b:Ls) (c:Li) (d:Bt):=(Z450 a b c d).2
def Z484 (a:Int) (b:Ls) (c:Li) (d:Bt):=(Z463 a b c d).2
def Z498 (a:Int) (b:Ls) (c:Li) (d:Bt):=(Z484 a b c d).2
def Z844 (a:List Reg) (b:Int) (c:Ls) (d:Li) (e:Bt):=(doAddS (Z820 a) (Z27 b c d e)).2
def Z855 (a:List Reg) (b:Int) (c:Ls) (d:Li) (e:Bt):=(Z844 a b c d e).2
def Z873 (a:List Reg) (b:Int) (c:Ls) (d:Li) (e:Bt):=(Z855 a b c d e).2
def Z878 (a:List Reg) (b:Int) (c:Ls) (d:Li) (e:Bt):=(Z873 a b c d e).2
theorem wp121_Station (T:TypeId) (E C:List Ev) (G:List Reg) (n:Int) (ns:List ByteArray) (vs:List Int) (tx:ByteArray):wpFO Tryz.prog W92.g (na ()) (fun _=>na ()) (Sx.look ([(75,Tryz.f75),(129,Tryz.f129)]:List (Nat×Func))) Tryz.f121 cAddK T (E,C,G) ((n,wStation,ns,vs,tx),()):=by
 refine(by kernel_rfl:(HistOk (E,C,G)→Z30 E→evSz (Z27 n ns vs tx)→checkE (Z27 n ns vs tx)=0→Z166 E C G n ns vs tx=0→Z625 ns vs∧Br (checkE (Z27 n ns vs tx) !=0) (Sf true (Sf T ((E,C,G)=addP (E,C,G) (Z27 n ns vs tx)∧checkE (Z27 n ns vs tx)=addE (E,C,G) (Z27 n ns vs tx)))) ((HistOk (E,C,G)∧checkE (Z27 n ns vs tx)=0)∧Br (Z166 E C G n ns vs tx !=0) (Sf true (Sf T ((E,C,G)=addP (E,C,G) (Z27 n ns vs tx)∧Z166 E C G n ns vs tx=addE (E,C,G) (Z27 n ns vs tx)))) (Z249 ns vs∧Z195 E∧Br false (Z59 C∧Z591 C G∧Sf true (Sf T ((E++[Z27 n ns vs tx],Z356 C G)=addP (E,C,G) (Z27 n ns vs tx)∧0=addE (E,C,G) (Z27 n ns vs tx)))) (Br (Z97 G) (Z308 G∧Z819 G∧(Z821 G∧Z105 ns∧Z55 vs)∧Z81 vs∧Z407 C G∧Sf true (Sf T ((E++[Z27 n ns vs tx],C++[Z27 n ns vs tx],G++[(Z86 vs,(Z844 G n ns vs tx).1,(Z855 G n ns vs tx).1,(Z873 G n ns vs tx).1,(Z878 G n ns vs tx).1,E2 (Z878 G n ns vs tx).2)])=addP (E,C,G) (Z27 n ns vs tx)∧0=addE (E,C,G) (Z27 n ns vs tx)))) (Z295∧(Z336∧Z105 ns∧Z55 vs)∧Z81 vs∧Z407 C G∧Sf true (Sf T ((E++[Z27 n ns vs tx],C++[Z27 n ns vs tx],G++[(Z86 vs,(Z450 n ns vs tx).1,(Z463 n ns vs tx).1,(Z484 n ns vs tx).1,(Z498 n ns vs tx).1,E2 (Z498 n ns vs tx).2)])=addP (E,C,G) (Z27 n ns vs tx)∧0=addE (E,C,G) (Z27 n ns vs tx))))))))=_).mp ?_
 delta Z7 Z22 Z27 Z30 Z53 Z55 Z59 Z81 Z86 Z97 Z102 Z105 Z166 Z195 Z241 Z249 Z274 Z295 Z306 Z308 Z336 Z356 Z402 Z407 Z447 Z450 Z457 Z458 Z463 Z481 Z484 Z486 Z497 Z498 Z502 Z512 Z591 Z625 Z814 Z819 Z820 Z821 Z844 Z855 Z873 Z878 Br Iw Bd T2 Tw Sf Ln Gt E2 wStation
 intro hh hlt hsz hc ha
 have hE:=checkE_zero hc
 have eK:=accS_eq (h:=(E,C,G)) (n:=n) (k:=wStation) (ns:=ns) (vs:=vs) (tx:=tx) (by kernel_rfl)
 have hu:=not_undo (h:=(E,C,G)) (n:=n) (k:=wStation) (ns:=ns) (vs:=vs) (tx:=tx) (by kernel_rfl) hc ha
 rw[ha] at eK
 obtain⟨z1,z2,z3,z4,z5⟩:=accK_zero eK.symm
 have hn:=hE.nn
 have hv:=hE.nv
 simp only[kd_station,List.length_cons,List.length_nil] at hn hv z3
 have hR:RegOk (nowS G):=now_ok hh
 have n1:E.length≤1000:=hh.nE
 have n2:C.length≤E.length:=hh.nC
 have n3:G.length=C.length:=hh.nG
 have hG:((G.length:Int)-1).toNat=G.length-1:=by omega
 have hs:stepS (nowS G) (n,wStation,ns,vs,tx)=(vs.getD 0 0,(doAddS (nowS G) (n,wStation,ns,vs,tx)).2):=by
  unfold stepS doS
  simp only[kd_station]
 have hreg:((0,0,[],[],[],[],[]):Reg)=reg0:=rfl
 have hnow:G.getD (G.length-1) reg0=nowS G:=rfl
 simp only[hu.1,hu.2,hs,hc,ha,hG,hreg,hnow,Prod.eta]
 clear hreg eK
 repeat' first|exact hE.val|exact hh|exact hR|exact hsz.2.2|apply And.intro|intro _
 all_goals first|trivial|omega|assumption|contradiction|exact Nat.le_trans hR.nS (by decide)|exact Nat.le_trans hR.nO (by decide)|exact Nat.le_trans hR.nM (by decide)|exact Nat.le_trans hR.nX (by decide)|exact Nat.le_trans hR.nQ (by decide)|exact Nat.zero_le _|exact hsz.1|exact hsz.2.1|(rename_i h;have h:=of_decide_eq_true h;omega)|rfl|(have hq:reg0=nowS G:=(now_nil (by assumption)).symm;rw[hq];done)|(have hq:reg0=nowS G:=(now_nil (by assumption)).symm;rw[hq];exact hR)
def Z435 (a:Int) (b:Ls) (c:Li) (d:Bt):=(doSetP Z306 (Z12 a b c d)).2
def Z443 (a:Int) (b:Ls) (c:Li) (d:Bt):=(Z435 a b c d).2
def Z466 (a:Int) (b:Ls) (c:Li) (d:Bt):=(Z443 a b c d).2
def Z488 (a:Int) (b:Ls) (c:Li) (d:Bt):=(Z466 a b c d).2
def Z832 (a:List Reg) (b:Int) (c:Ls) (d:Li) (e:Bt):=(doSetP (Z820 a) (Z12 b c d e)).2
def Z841 (a:List Reg) (b:Int) (c:Ls) (d:Li) (e:Bt):=(Z832 a b c d e).2
def Z857 (a:List Reg) (b:Int) (c:Ls) (d:Li) (e:Bt):=(Z841 a b c d e).2
def Z868 (a:List Reg) (b:Int) (c:Ls) (d:Li) (e:Bt):=(Z857 a b c d e).2
theorem wp121_Price (T:TypeId) (E C:List Ev) (G:List Reg) (n:Int) (ns:List ByteArray) (vs:List Int) (tx:ByteArray):wpFO Tryz.prog W92.g (na ()) (fun _=>na ()) (Sx.look ([(75,Tryz.f75),(129,Tryz.f129)]:List (Nat×Func))) Tryz.f121 cAddK T (E,C,G) ((n,wPrice,ns,vs,tx),()):=by
 refine(by kernel_rfl:(HistOk (E,C,G)→Z30 E→evSz (Z12 n ns vs tx)→checkE (Z12 n ns vs tx)=0→Z155 E C G n ns vs tx=0→Z625 ns vs∧Br (checkE (Z12 n ns vs tx) !=0) (Sf true (Sf T ((E,C,G)=addP (E,C,G) (Z12 n ns vs tx)∧checkE (Z12 n ns vs tx)=addE (E,C,G) (Z12 n ns vs tx)))) ((HistOk (E,C,G)∧checkE (Z12 n ns vs tx)=0)∧Br (Z155 E C G n ns vs tx !=0) (Sf true (Sf T ((E,C,G)=addP (E,C,G) (Z12 n ns vs tx)∧Z155 E C G n ns vs tx=addE (E,C,G) (Z12 n ns vs tx)))) (Z249 ns vs∧Z195 E∧Br false (Z59 C∧Z591 C G∧Sf true (Sf T ((E++[Z12 n ns vs tx],Z356 C G)=addP (E,C,G) (Z12 n ns vs tx)∧0=addE (E,C,G) (Z12 n ns vs tx)))) (Br (Z97 G) (Z308 G∧Z819 G∧(Z821 G∧Z105 ns∧Z55 vs∧0≤findS (Z486 G).1 (Z104 ns))∧Z81 vs∧Z407 C G∧Sf true (Sf T ((E++[Z12 n ns vs tx],C++[Z12 n ns vs tx],G++[(Z86 vs,(Z832 G n ns vs tx).1,(Z841 G n ns vs tx).1,(Z857 G n ns vs tx).1,(Z868 G n ns vs tx).1,E2 (Z868 G n ns vs tx).2)])=addP (E,C,G) (Z12 n ns vs tx)∧0=addE (E,C,G) (Z12 n ns vs tx)))) (Z295∧(Z336∧Z105 ns∧Z55 vs∧0≤findS [] (Z104 ns))∧Z81 vs∧Z407 C G∧Sf true (Sf T ((E++[Z12 n ns vs tx],C++[Z12 n ns vs tx],G++[(Z86 vs,(Z435 n ns vs tx).1,(Z443 n ns vs tx).1,(Z466 n ns vs tx).1,(Z488 n ns vs tx).1,E2 (Z488 n ns vs tx).2)])=addP (E,C,G) (Z12 n ns vs tx)∧0=addE (E,C,G) (Z12 n ns vs tx))))))))=_).mp ?_
 delta Z7 Z12 Z22 Z30 Z53 Z55 Z59 Z81 Z86 Z97 Z102 Z104 Z105 Z155 Z195 Z241 Z249 Z274 Z295 Z306 Z308 Z336 Z356 Z402 Z407 Z435 Z443 Z447 Z457 Z458 Z466 Z481 Z486 Z488 Z497 Z502 Z512 Z591 Z625 Z814 Z819 Z820 Z821 Z832 Z841 Z857 Z868 Br Iw Bd T2 Tw Sf Ln Gt E2 wPrice
 intro hh hlt hsz hc ha
 have hE:=checkE_zero hc
 have eK:=accS_eq (h:=(E,C,G)) (n:=n) (k:=wPrice) (ns:=ns) (vs:=vs) (tx:=tx) (by kernel_rfl)
 have hu:=not_undo (h:=(E,C,G)) (n:=n) (k:=wPrice) (ns:=ns) (vs:=vs) (tx:=tx) (by kernel_rfl) hc ha
 rw[ha] at eK
 obtain⟨z1,z2,z3,z4,z5⟩:=accK_zero eK.symm
 have hn:=hE.nn
 have hv:=hE.nv
 simp only[kd_price,List.length_cons,List.length_nil] at hn hv z3
 have u0:=z3
 obtain⟨k0,u1⟩:=unk_cons u0
 have f0:=has0 (k0 rfl)
 have hR:RegOk (nowS G):=now_ok hh
 have n1:E.length≤1000:=hh.nE
 have n2:C.length≤E.length:=hh.nC
 have n3:G.length=C.length:=hh.nG
 have hG:((G.length:Int)-1).toNat=G.length-1:=by omega
 have hs:stepS (nowS G) (n,wPrice,ns,vs,tx)=(vs.getD 0 0,(doSetP (nowS G) (n,wPrice,ns,vs,tx)).2):=by
  unfold stepS doS
  simp only[kd_price]
 have hreg:((0,0,[],[],[],[],[]):Reg)=reg0:=rfl
 have hnow:G.getD (G.length-1) reg0=nowS G:=rfl
 simp only[hu.1,hu.2,hs,hc,ha,hG,hreg,hnow,Prod.eta]
 clear hreg eK
 repeat' first|exact hE.val|exact hh|exact hR|exact hsz.2.2|apply And.intro|intro _
 all_goals first|trivial|omega|assumption|contradiction|exact Nat.le_trans hR.nS (by decide)|exact Nat.le_trans hR.nO (by decide)|exact Nat.le_trans hR.nM (by decide)|exact Nat.le_trans hR.nX (by decide)|exact Nat.le_trans hR.nQ (by decide)|exact Nat.zero_le _|exact hsz.1|exact hsz.2.1|(rename_i h;have h:=of_decide_eq_true h;omega)|rfl|(have hq:reg0=nowS G:=(now_nil (by assumption)).symm;rw[hq];done)|(have hq:reg0=nowS G:=(now_nil (by assumption)).symm;rw[hq];exact hR)|(have hq:nowS G=reg0:=now_nil (by assumption);rw[hq] at f0;exact f0)
def Z437 (a:Int) (b:Ls) (c:Li) (d:Bt):=(doAddO Z306 (Z8 a b c d)).2
def Z445 (a:Int) (b:Ls) (c:Li) (d:Bt):=(Z437 a b c d).2
def Z467 (a:Int) (b:Ls) (c:Li) (d:Bt):=(Z445 a b c d).2
def Z482 (a:Int) (b:Ls) (c:Li) (d:Bt):=(Z467 a b c d).2
def Z834 (a:List Reg) (b:Int) (c:Ls) (d:Li) (e:Bt):=(doAddO (Z820 a) (Z8 b c d e)).2
def Z840 (a:List Reg) (b:Int) (c:Ls) (d:Li) (e:Bt):=(Z834 a b c d e).2
def Z853 (a:List Reg) (b:Int) (c:Ls) (d:Li) (e:Bt):=(Z840 a b c d e).2
def Z871 (a:List Reg) (b:Int) (c:Ls) (d:Li) (e:Bt):=(Z853 a b c d e).2
theorem wp121_Order (T:TypeId) (E C:List Ev) (G:List Reg) (n:Int) (ns:List ByteArray) (vs:List Int) (tx:ByteArray):wpFO Tryz.prog W92.g (na ()) (fun _=>na ()) (Sx.look ([(75,Tryz.f75),(129,Tryz.f129)]:List (Nat×Func))) Tryz.f121 cAddK T (E,C,G) ((n,wOrder,ns,vs,tx),()):=by
 refine(by kernel_rfl:(HistOk (E,C,G)→Z30 E→evSz (Z8 n ns vs tx)→checkE (Z8 n ns vs tx)=0→Z149 E C G n ns vs tx=0→Z625 ns vs∧Br (checkE (Z8 n ns vs tx) !=0) (Sf true (Sf T ((E,C,G)=addP (E,C,G) (Z8 n ns vs tx)∧checkE (Z8 n ns vs tx)=addE (E,C,G) (Z8 n ns vs tx)))) ((HistOk (E,C,G)∧checkE (Z8 n ns vs tx)=0)∧Br (Z149 E C G n ns vs tx !=0) (Sf true (Sf T ((E,C,G)=addP (E,C,G) (Z8 n ns vs tx)∧Z149 E C G n ns vs tx=addE (E,C,G) (Z8 n ns vs tx)))) (Z249 ns vs∧Z195 E∧Br false (Z59 C∧Z591 C G∧Sf true (Sf T ((E++[Z8 n ns vs tx],Z356 C G)=addP (E,C,G) (Z8 n ns vs tx)∧0=addE (E,C,G) (Z8 n ns vs tx)))) (Br (Z97 G) (Z308 G∧Z819 G∧(Z821 G∧Z99 ns∧Z673 vs G ns)∧Z81 vs∧Z407 C G∧Sf true (Sf T ((E++[Z8 n ns vs tx],C++[Z8 n ns vs tx],G++[(Z86 vs,(Z834 G n ns vs tx).1,(Z840 G n ns vs tx).1,(Z853 G n ns vs tx).1,(Z871 G n ns vs tx).1,E2 (Z871 G n ns vs tx).2)])=addP (E,C,G) (Z8 n ns vs tx)∧0=addE (E,C,G) (Z8 n ns vs tx)))) (Z295∧(Z336∧Z99 ns∧Z369 vs ns)∧Z81 vs∧Z407 C G∧Sf true (Sf T ((E++[Z8 n ns vs tx],C++[Z8 n ns vs tx],G++[(Z86 vs,(Z437 n ns vs tx).1,(Z445 n ns vs tx).1,(Z467 n ns vs tx).1,(Z482 n ns vs tx).1,E2 (Z482 n ns vs tx).2)])=addP (E,C,G) (Z8 n ns vs tx)∧0=addE (E,C,G) (Z8 n ns vs tx))))))))=_).mp ?_
 delta Z7 Z8 Z22 Z30 Z46 Z53 Z59 Z81 Z86 Z97 Z99 Z102 Z106 Z149 Z195 Z241 Z243 Z249 Z274 Z295 Z306 Z308 Z336 Z356 Z369 Z402 Z407 Z437 Z445 Z447 Z457 Z458 Z467 Z481 Z482 Z486 Z497 Z502 Z512 Z591 Z625 Z628 Z673 Z814 Z819 Z820 Z821 Z834 Z840 Z853 Z871 Br Iw Bd T2 Tw Sf Ln Gt E2 wOrder
 intro hh hlt hsz hc ha
 have hE:=checkE_zero hc
 have eK:=accS_eq (h:=(E,C,G)) (n:=n) (k:=wOrder) (ns:=ns) (vs:=vs) (tx:=tx) (by kernel_rfl)
 have hu:=not_undo (h:=(E,C,G)) (n:=n) (k:=wOrder) (ns:=ns) (vs:=vs) (tx:=tx) (by kernel_rfl) hc ha
 rw[ha] at eK
 obtain⟨z1,z2,z3,z4,z5⟩:=accK_zero eK.symm
 have hn:=hE.nn
 have hv:=hE.nv
 simp only[kd_order,List.length_cons,List.length_nil] at hn hv z3
 have u0:=z3
 obtain⟨k0,u1⟩:=unk_cons u0
 obtain⟨k1,u2⟩:=unk_cons u1
 obtain⟨k2,u3⟩:=unk_cons u2
 have f1:=has0 (k1 rfl)
 have f2:=has0 (k2 rfl)
 have hR:RegOk (nowS G):=now_ok hh
 have n1:E.length≤1000:=hh.nE
 have n2:C.length≤E.length:=hh.nC
 have n3:G.length=C.length:=hh.nG
 have hG:((G.length:Int)-1).toNat=G.length-1:=by omega
 have hs:stepS (nowS G) (n,wOrder,ns,vs,tx)=(vs.getD 0 0,(doAddO (nowS G) (n,wOrder,ns,vs,tx)).2):=by
  unfold stepS doS
  simp only[kd_order]
 have hreg:((0,0,[],[],[],[],[]):Reg)=reg0:=rfl
 have hnow:G.getD (G.length-1) reg0=nowS G:=rfl
 simp only[hu.1,hu.2,hs,hc,ha,hG,hreg,hnow,Prod.eta]
 clear hreg eK
 repeat' first|exact hE.val|exact hh|exact hR|exact hsz.2.2|apply And.intro|intro _
 all_goals first|trivial|omega|assumption|contradiction|exact Nat.le_trans hR.nS (by decide)|exact Nat.le_trans hR.nO (by decide)|exact Nat.le_trans hR.nM (by decide)|exact Nat.le_trans hR.nX (by decide)|exact Nat.le_trans hR.nQ (by decide)|exact Nat.zero_le _|exact hsz.1|exact hsz.2.1|(rename_i h;have h:=of_decide_eq_true h;omega)|rfl|(have hq:reg0=nowS G:=(now_nil (by assumption)).symm;rw[hq];done)|(have hq:reg0=nowS G:=(now_nil (by assumption)).symm;rw[hq];exact hR)|(have hq:nowS G=reg0:=now_nil (by assumption);rw[hq] at f1;exact f1)|(have hq:nowS G=reg0:=now_nil (by assumption);rw[hq] at f2;exact f2)
def Z434 (a:Int) (b:Ls) (c:Li) (d:Bt):=(doAddM Z306 (Z11 a b c d)).2
def Z444 (a:Int) (b:Ls) (c:Li) (d:Bt):=(Z434 a b c d).2
def Z462 (a:Int) (b:Ls) (c:Li) (d:Bt):=(Z444 a b c d).2
def Z483 (a:Int) (b:Ls) (c:Li) (d:Bt):=(Z462 a b c d).2
def Z835 (a:List Reg) (b:Int) (c:Ls) (d:Li) (e:Bt):=(doAddM (Z820 a) (Z11 b c d e)).2
def Z843 (a:List Reg) (b:Int) (c:Ls) (d:Li) (e:Bt):=(Z835 a b c d e).2
def Z856 (a:List Reg) (b:Int) (c:Ls) (d:Li) (e:Bt):=(Z843 a b c d e).2
def Z870 (a:List Reg) (b:Int) (c:Ls) (d:Li) (e:Bt):=(Z856 a b c d e).2
theorem wp121_Meter (T:TypeId) (E C:List Ev) (G:List Reg) (n:Int) (ns:List ByteArray) (vs:List Int) (tx:ByteArray):wpFO Tryz.prog W92.g (na ()) (fun _=>na ()) (Sx.look ([(75,Tryz.f75),(129,Tryz.f129)]:List (Nat×Func))) Tryz.f121 cAddK T (E,C,G) ((n,wMeter,ns,vs,tx),()):=by
 refine(by kernel_rfl:(HistOk (E,C,G)→Z30 E→evSz (Z11 n ns vs tx)→checkE (Z11 n ns vs tx)=0→Z151 E C G n ns vs tx=0→Z625 ns vs∧Br (checkE (Z11 n ns vs tx) !=0) (Sf true (Sf T ((E,C,G)=addP (E,C,G) (Z11 n ns vs tx)∧checkE (Z11 n ns vs tx)=addE (E,C,G) (Z11 n ns vs tx)))) ((HistOk (E,C,G)∧checkE (Z11 n ns vs tx)=0)∧Br (Z151 E C G n ns vs tx !=0) (Sf true (Sf T ((E,C,G)=addP (E,C,G) (Z11 n ns vs tx)∧Z151 E C G n ns vs tx=addE (E,C,G) (Z11 n ns vs tx)))) (Z249 ns vs∧Z195 E∧Br false (Z59 C∧Z591 C G∧Sf true (Sf T ((E++[Z11 n ns vs tx],Z356 C G)=addP (E,C,G) (Z11 n ns vs tx)∧0=addE (E,C,G) (Z11 n ns vs tx)))) (Br (Z97 G) (Z308 G∧Z819 G∧(Z821 G∧Z105 ns∧Z47 vs)∧Z81 vs∧Z407 C G∧Sf true (Sf T ((E++[Z11 n ns vs tx],C++[Z11 n ns vs tx],G++[(Z86 vs,(Z835 G n ns vs tx).1,(Z843 G n ns vs tx).1,(Z856 G n ns vs tx).1,(Z870 G n ns vs tx).1,E2 (Z870 G n ns vs tx).2)])=addP (E,C,G) (Z11 n ns vs tx)∧0=addE (E,C,G) (Z11 n ns vs tx)))) (Z295∧(Z336∧Z105 ns∧Z47 vs)∧Z81 vs∧Z407 C G∧Sf true (Sf T ((E++[Z11 n ns vs tx],C++[Z11 n ns vs tx],G++[(Z86 vs,(Z434 n ns vs tx).1,(Z444 n ns vs tx).1,(Z462 n ns vs tx).1,(Z483 n ns vs tx).1,E2 (Z483 n ns vs tx).2)])=addP (E,C,G) (Z11 n ns vs tx)∧0=addE (E,C,G) (Z11 n ns vs tx))))))))=_).mp ?_
 delta Z7 Z11 Z22 Z30 Z47 Z53 Z59 Z81 Z86 Z97 Z102 Z105 Z151 Z195 Z241 Z249 Z274 Z295 Z306 Z308 Z336 Z356 Z402 Z407 Z434 Z444 Z447 Z457 Z458 Z462 Z481 Z483 Z486 Z497 Z502 Z512 Z591 Z625 Z814 Z819 Z820 Z821 Z835 Z843 Z856 Z870 Br Iw Bd T2 Tw Sf Ln Gt E2 wMeter
 intro hh hlt hsz hc ha
 have hE:=checkE_zero hc
 have eK:=accS_eq (h:=(E,C,G)) (n:=n) (k:=wMeter) (ns:=ns) (vs:=vs) (tx:=tx) (by kernel_rfl)
 have hu:=not_undo (h:=(E,C,G)) (n:=n) (k:=wMeter) (ns:=ns) (vs:=vs) (tx:=tx) (by kernel_rfl) hc ha
 rw[ha] at eK
 obtain⟨z1,z2,z3,z4,z5⟩:=accK_zero eK.symm
 have hn:=hE.nn
 have hv:=hE.nv
 simp only[kd_meter,List.length_cons,List.length_nil] at hn hv z3
 have u0:=z3
 obtain⟨k0,u1⟩:=unk_cons u0
 have f0:=has1 (k0 rfl)
 have hR:RegOk (nowS G):=now_ok hh
 have n1:E.length≤1000:=hh.nE
 have n2:C.length≤E.length:=hh.nC
 have n3:G.length=C.length:=hh.nG
 have hG:((G.length:Int)-1).toNat=G.length-1:=by omega
 have hs:stepS (nowS G) (n,wMeter,ns,vs,tx)=(vs.getD 0 0,(doAddM (nowS G) (n,wMeter,ns,vs,tx)).2):=by
  unfold stepS doS
  simp only[kd_meter]
 have hreg:((0,0,[],[],[],[],[]):Reg)=reg0:=rfl
 have hnow:G.getD (G.length-1) reg0=nowS G:=rfl
 simp only[hu.1,hu.2,hs,hc,ha,hG,hreg,hnow,Prod.eta]
 clear hreg eK
 repeat' first|exact hE.val|exact hh|exact hR|exact hsz.2.2|apply And.intro|intro _
 all_goals first|trivial|omega|assumption|contradiction|exact Nat.le_trans hR.nS (by decide)|exact Nat.le_trans hR.nO (by decide)|exact Nat.le_trans hR.nM (by decide)|exact Nat.le_trans hR.nX (by decide)|exact Nat.le_trans hR.nQ (by decide)|exact Nat.zero_le _|exact hsz.1|exact hsz.2.1|(rename_i h;have h:=of_decide_eq_true h;omega)|rfl|(have hq:reg0=nowS G:=(now_nil (by assumption)).symm;rw[hq];done)|(have hq:reg0=nowS G:=(now_nil (by assumption)).symm;rw[hq];exact hR)|(have hq:nowS G=reg0:=now_nil (by assumption);rw[hq] at f0;exact f0)
def Z430 (a:Int) (b:Ls) (c:Li) (d:Bt):=(doTrip Z306 (Z4 a b c d)).2
def Z442 (a:Int) (b:Ls) (c:Li) (d:Bt):=(Z430 a b c d).2
def Z454 (a:Int) (b:Ls) (c:Li) (d:Bt):=(Z442 a b c d).2
def Z471 (a:Int) (b:Ls) (c:Li) (d:Bt):=(Z454 a b c d).2
def Z831 (a:List Reg) (b:Int) (c:Ls) (d:Li) (e:Bt):=(doTrip (Z820 a) (Z4 b c d e)).2
def Z839 (a:List Reg) (b:Int) (c:Ls) (d:Li) (e:Bt):=(Z831 a b c d e).2
def Z849 (a:List Reg) (b:Int) (c:Ls) (d:Li) (e:Bt):=(Z839 a b c d e).2
def Z863 (a:List Reg) (b:Int) (c:Ls) (d:Li) (e:Bt):=(Z849 a b c d e).2
theorem wp121_Trip (T:TypeId) (E C:List Ev) (G:List Reg) (n:Int) (ns:List ByteArray) (vs:List Int) (tx:ByteArray):wpFO Tryz.prog W92.g (na ()) (fun _=>na ()) (Sx.look ([(75,Tryz.f75),(129,Tryz.f129)]:List (Nat×Func))) Tryz.f121 cAddK T (E,C,G) ((n,wTrip,ns,vs,tx),()):=by
 refine(by kernel_rfl:(HistOk (E,C,G)→Z30 E→evSz (Z4 n ns vs tx)→checkE (Z4 n ns vs tx)=0→Z145 E C G n ns vs tx=0→Z625 ns vs∧Br (checkE (Z4 n ns vs tx) !=0) (Sf true (Sf T ((E,C,G)=addP (E,C,G) (Z4 n ns vs tx)∧checkE (Z4 n ns vs tx)=addE (E,C,G) (Z4 n ns vs tx)))) ((HistOk (E,C,G)∧checkE (Z4 n ns vs tx)=0)∧Br (Z145 E C G n ns vs tx !=0) (Sf true (Sf T ((E,C,G)=addP (E,C,G) (Z4 n ns vs tx)∧Z145 E C G n ns vs tx=addE (E,C,G) (Z4 n ns vs tx)))) (Z249 ns vs∧Z195 E∧Br false (Z59 C∧Z591 C G∧Sf true (Sf T ((E++[Z4 n ns vs tx],Z356 C G)=addP (E,C,G) (Z4 n ns vs tx)∧0=addE (E,C,G) (Z4 n ns vs tx)))) (Br (Z97 G) (Z308 G∧Z819 G∧Z905 G ns vs∧Z81 vs∧Z407 C G∧Sf true (Sf T ((E++[Z4 n ns vs tx],C++[Z4 n ns vs tx],G++[(Z86 vs,(Z831 G n ns vs tx).1,(Z839 G n ns vs tx).1,(Z849 G n ns vs tx).1,(Z863 G n ns vs tx).1,E2 (Z863 G n ns vs tx).2)])=addP (E,C,G) (Z4 n ns vs tx)∧0=addE (E,C,G) (Z4 n ns vs tx)))) (Z295∧Z694 ns vs∧Z81 vs∧Z407 C G∧Sf true (Sf T ((E++[Z4 n ns vs tx],C++[Z4 n ns vs tx],G++[(Z86 vs,(Z430 n ns vs tx).1,(Z442 n ns vs tx).1,(Z454 n ns vs tx).1,(Z471 n ns vs tx).1,E2 (Z471 n ns vs tx).2)])=addP (E,C,G) (Z4 n ns vs tx)∧0=addE (E,C,G) (Z4 n ns vs tx))))))))=_).mp ?_
 delta Z4 Z7 Z22 Z30 Z53 Z56 Z59 Z81 Z86 Z97 Z102 Z104 Z105 Z145 Z195 Z241 Z242 Z249 Z274 Z295 Z306 Z308 Z336 Z356 Z402 Z407 Z430 Z442 Z447 Z454 Z457 Z458 Z471 Z481 Z486 Z497 Z502 Z512 Z591 Z625 Z630 Z694 Z814 Z819 Z820 Z821 Z831 Z839 Z849 Z863 Z905 Br Iw Bd T2 Tw Sf Ln Gt E2 wTrip
 intro hh hlt hsz hc ha
 have hE:=checkE_zero hc
 have eK:=accS_eq (h:=(E,C,G)) (n:=n) (k:=wTrip) (ns:=ns) (vs:=vs) (tx:=tx) (by kernel_rfl)
 have hu:=not_undo (h:=(E,C,G)) (n:=n) (k:=wTrip) (ns:=ns) (vs:=vs) (tx:=tx) (by kernel_rfl) hc ha
 rw[ha] at eK
 obtain⟨z1,z2,z3,z4,z5⟩:=accK_zero eK.symm
 have hn:=hE.nn
 have hv:=hE.nv
 simp only[kd_trip,List.length_cons,List.length_nil] at hn hv z3
 have u0:=z3
 obtain⟨k0,u1⟩:=unk_cons u0
 have f0:=has1 (k0 rfl)
 have hR:RegOk (nowS G):=now_ok hh
 have n1:E.length≤1000:=hh.nE
 have n2:C.length≤E.length:=hh.nC
 have n3:G.length=C.length:=hh.nG
 have hG:((G.length:Int)-1).toNat=G.length-1:=by omega
 have hs:stepS (nowS G) (n,wTrip,ns,vs,tx)=(vs.getD 0 0,(doTrip (nowS G) (n,wTrip,ns,vs,tx)).2):=by
  unfold stepS doS
  simp only[kd_trip]
 have hreg:((0,0,[],[],[],[],[]):Reg)=reg0:=rfl
 have hnow:G.getD (G.length-1) reg0=nowS G:=rfl
 simp only[hu.1,hu.2,hs,hc,ha,hG,hreg,hnow,Prod.eta]
 clear hreg eK
 repeat' first|exact hE.val|exact hh|exact hR|exact hsz.2.2|apply And.intro|intro _
 all_goals first|trivial|omega|assumption|contradiction|exact Nat.le_trans hR.nS (by decide)|exact Nat.le_trans hR.nO (by decide)|exact Nat.le_trans hR.nM (by decide)|exact Nat.le_trans hR.nX (by decide)|exact Nat.le_trans hR.nQ (by decide)|exact Nat.zero_le _|exact hsz.1|exact hsz.2.1|(rename_i h;have h:=of_decide_eq_true h;omega)|rfl|(have hq:reg0=nowS G:=(now_nil (by assumption)).symm;rw[hq];done)|(have hq:reg0=nowS G:=(now_nil (by assumption)).symm;rw[hq];exact hR)|(have hq:nowS G=reg0:=now_nil (by assumption);rw[hq] at f0;exact f0)
def Z441 (a:Int) (b:Ls) (c:Li) (d:Bt):=(doAddX Z306 (Z15 a b c d)).2
def Z453 (a:Int) (b:Ls) (c:Li) (d:Bt):=(Z441 a b c d).2
def Z475 (a:Int) (b:Ls) (c:Li) (d:Bt):=(Z453 a b c d).2
def Z489 (a:Int) (b:Ls) (c:Li) (d:Bt):=(Z475 a b c d).2
def Z838 (a:List Reg) (b:Int) (c:Ls) (d:Li) (e:Bt):=(doAddX (Z820 a) (Z15 b c d e)).2
def Z846 (a:List Reg) (b:Int) (c:Ls) (d:Li) (e:Bt):=(Z838 a b c d e).2
def Z862 (a:List Reg) (b:Int) (c:Ls) (d:Li) (e:Bt):=(Z846 a b c d e).2
def Z875 (a:List Reg) (b:Int) (c:Ls) (d:Li) (e:Bt):=(Z862 a b c d e).2
theorem wp121_Outage (T:TypeId) (E C:List Ev) (G:List Reg) (n:Int) (ns:List ByteArray) (vs:List Int) (tx:ByteArray):wpFO Tryz.prog W92.g (na ()) (fun _=>na ()) (Sx.look ([(75,Tryz.f75),(129,Tryz.f129)]:List (Nat×Func))) Tryz.f121 cAddK T (E,C,G) ((n,wOutage,ns,vs,tx),()):=by
 refine(by kernel_rfl:(HistOk (E,C,G)→Z30 E→evSz (Z15 n ns vs tx)→checkE (Z15 n ns vs tx)=0→Z162 E C G n ns vs tx=0→Z625 ns vs∧Br (checkE (Z15 n ns vs tx) !=0) (Sf true (Sf T ((E,C,G)=addP (E,C,G) (Z15 n ns vs tx)∧checkE (Z15 n ns vs tx)=addE (E,C,G) (Z15 n ns vs tx)))) ((HistOk (E,C,G)∧checkE (Z15 n ns vs tx)=0)∧Br (Z162 E C G n ns vs tx !=0) (Sf true (Sf T ((E,C,G)=addP (E,C,G) (Z15 n ns vs tx)∧Z162 E C G n ns vs tx=addE (E,C,G) (Z15 n ns vs tx)))) (Z249 ns vs∧Z195 E∧Br false (Z59 C∧Z591 C G∧Sf true (Sf T ((E++[Z15 n ns vs tx],Z356 C G)=addP (E,C,G) (Z15 n ns vs tx)∧0=addE (E,C,G) (Z15 n ns vs tx)))) (Br (Z97 G) (Z308 G∧Z819 G∧(Z821 G∧Z107 ns∧Z46 vs)∧Z81 vs∧Z407 C G∧Sf true (Sf T ((E++[Z15 n ns vs tx],C++[Z15 n ns vs tx],G++[(Z86 vs,(Z838 G n ns vs tx).1,(Z846 G n ns vs tx).1,(Z862 G n ns vs tx).1,(Z875 G n ns vs tx).1,E2 (Z875 G n ns vs tx).2)])=addP (E,C,G) (Z15 n ns vs tx)∧0=addE (E,C,G) (Z15 n ns vs tx)))) (Z295∧(Z336∧Z107 ns∧Z46 vs)∧Z81 vs∧Z407 C G∧Sf true (Sf T ((E++[Z15 n ns vs tx],C++[Z15 n ns vs tx],G++[(Z86 vs,(Z441 n ns vs tx).1,(Z453 n ns vs tx).1,(Z475 n ns vs tx).1,(Z489 n ns vs tx).1,E2 (Z489 n ns vs tx).2)])=addP (E,C,G) (Z15 n ns vs tx)∧0=addE (E,C,G) (Z15 n ns vs tx))))))))=_).mp ?_
 delta Z7 Z15 Z22 Z30 Z46 Z53 Z59 Z81 Z86 Z97 Z102 Z107 Z162 Z195 Z241 Z249 Z274 Z295 Z306 Z308 Z336 Z356 Z402 Z407 Z441 Z447 Z453 Z457 Z458 Z475 Z481 Z486 Z489 Z497 Z502 Z512 Z591 Z625 Z814 Z819 Z820 Z821 Z838 Z846 Z862 Z875 Br Iw Bd T2 Tw Sf Ln Gt E2 wOutage
 intro hh hlt hsz hc ha
 have hE:=checkE_zero hc
 have eK:=accS_eq (h:=(E,C,G)) (n:=n) (k:=wOutage) (ns:=ns) (vs:=vs) (tx:=tx) (by kernel_rfl)
 have hu:=not_undo (h:=(E,C,G)) (n:=n) (k:=wOutage) (ns:=ns) (vs:=vs) (tx:=tx) (by kernel_rfl) hc ha
 rw[ha] at eK
 obtain⟨z1,z2,z3,z4,z5⟩:=accK_zero eK.symm
 have hn:=hE.nn
 have hv:=hE.nv
 simp only[kd_outage,List.length_cons,List.length_nil] at hn hv z3
 have u0:=z3
 obtain⟨k0,u1⟩:=unk_cons u0
 obtain⟨k1,u2⟩:=unk_cons u1
 have f1:=has0 (k1 rfl)
 have hR:RegOk (nowS G):=now_ok hh
 have n1:E.length≤1000:=hh.nE
 have n2:C.length≤E.length:=hh.nC
 have n3:G.length=C.length:=hh.nG
 have hG:((G.length:Int)-1).toNat=G.length-1:=by omega
 have hs:stepS (nowS G) (n,wOutage,ns,vs,tx)=(vs.getD 0 0,(doAddX (nowS G) (n,wOutage,ns,vs,tx)).2):=by
  unfold stepS doS
  simp only[kd_outage]
 have hreg:((0,0,[],[],[],[],[]):Reg)=reg0:=rfl
 have hnow:G.getD (G.length-1) reg0=nowS G:=rfl
 simp only[hu.1,hu.2,hs,hc,ha,hG,hreg,hnow,Prod.eta]
 clear hreg eK
 repeat' first|exact hE.val|exact hh|exact hR|exact hsz.2.2|apply And.intro|intro _
 all_goals first|trivial|omega|assumption|contradiction|exact Nat.le_trans hR.nS (by decide)|exact Nat.le_trans hR.nO (by decide)|exact Nat.le_trans hR.nM (by decide)|exact Nat.le_trans hR.nX (by decide)|exact Nat.le_trans hR.nQ (by decide)|exact Nat.zero_le _|exact hsz.1|exact hsz.2.1|(rename_i h;have h:=of_decide_eq_true h;omega)|rfl|(have hq:reg0=nowS G:=(now_nil (by assumption)).symm;rw[hq];done)|(have hq:reg0=nowS G:=(now_nil (by assumption)).symm;rw[hq];exact hR)|(have hq:nowS G=reg0:=now_nil (by assumption);rw[hq] at f1;exact f1)
def Z446 (a:Int) (b:Ls) (c:Li) (d:Bt):=(doRest Z306 (Z28 a b c d)).2
def Z465 (a:Int) (b:Ls) (c:Li) (d:Bt):=(Z446 a b c d).2
def Z487 (a:Int) (b:Ls) (c:Li) (d:Bt):=(Z465 a b c d).2
def Z495 (a:Int) (b:Ls) (c:Li) (d:Bt):=(Z487 a b c d).2
def Z845 (a:List Reg) (b:Int) (c:Ls) (d:Li) (e:Bt):=(doRest (Z820 a) (Z28 b c d e)).2
def Z851 (a:List Reg) (b:Int) (c:Ls) (d:Li) (e:Bt):=(Z845 a b c d e).2
def Z872 (a:List Reg) (b:Int) (c:Ls) (d:Li) (e:Bt):=(Z851 a b c d e).2
def Z877 (a:List Reg) (b:Int) (c:Ls) (d:Li) (e:Bt):=(Z872 a b c d e).2
theorem wp121_Restore (T:TypeId) (E C:List Ev) (G:List Reg) (n:Int) (ns:List ByteArray) (vs:List Int) (tx:ByteArray):wpFO Tryz.prog W92.g (na ()) (fun _=>na ()) (Sx.look ([(75,Tryz.f75),(129,Tryz.f129)]:List (Nat×Func))) Tryz.f121 cAddK T (E,C,G) ((n,wRestore,ns,vs,tx),()):=by
 refine(by kernel_rfl:(HistOk (E,C,G)→Z30 E→evSz (Z28 n ns vs tx)→checkE (Z28 n ns vs tx)=0→Z168 E C G n ns vs tx=0→Z625 ns vs∧Br (checkE (Z28 n ns vs tx) !=0) (Sf true (Sf T ((E,C,G)=addP (E,C,G) (Z28 n ns vs tx)∧checkE (Z28 n ns vs tx)=addE (E,C,G) (Z28 n ns vs tx)))) ((HistOk (E,C,G)∧checkE (Z28 n ns vs tx)=0)∧Br (Z168 E C G n ns vs tx !=0) (Sf true (Sf T ((E,C,G)=addP (E,C,G) (Z28 n ns vs tx)∧Z168 E C G n ns vs tx=addE (E,C,G) (Z28 n ns vs tx)))) (Z249 ns vs∧Z195 E∧Br false (Z59 C∧Z591 C G∧Sf true (Sf T ((E++[Z28 n ns vs tx],Z356 C G)=addP (E,C,G) (Z28 n ns vs tx)∧0=addE (E,C,G) (Z28 n ns vs tx)))) (Br (Z97 G) (Z308 G∧Z819 G∧Z906 G ns vs∧Z81 vs∧Z407 C G∧Sf true (Sf T ((E++[Z28 n ns vs tx],C++[Z28 n ns vs tx],G++[(Z86 vs,(Z845 G n ns vs tx).1,(Z851 G n ns vs tx).1,(Z872 G n ns vs tx).1,(Z877 G n ns vs tx).1,E2 (Z877 G n ns vs tx).2)])=addP (E,C,G) (Z28 n ns vs tx)∧0=addE (E,C,G) (Z28 n ns vs tx)))) (Z295∧Z695 ns vs∧Z81 vs∧Z407 C G∧Sf true (Sf T ((E++[Z28 n ns vs tx],C++[Z28 n ns vs tx],G++[(Z86 vs,(Z446 n ns vs tx).1,(Z465 n ns vs tx).1,(Z487 n ns vs tx).1,(Z495 n ns vs tx).1,E2 (Z495 n ns vs tx).2)])=addP (E,C,G) (Z28 n ns vs tx)∧0=addE (E,C,G) (Z28 n ns vs tx))))))))=_).mp ?_
 delta Z7 Z22 Z28 Z30 Z53 Z56 Z59 Z81 Z86 Z97 Z102 Z104 Z105 Z168 Z195 Z241 Z249 Z274 Z295 Z306 Z308 Z336 Z356 Z402 Z407 Z446 Z447 Z457 Z458 Z465 Z481 Z486 Z487 Z495 Z497 Z502 Z512 Z591 Z625 Z695 Z814 Z819 Z820 Z821 Z845 Z851 Z872 Z877 Z906 Br Iw Bd T2 Tw Sf Ln Gt E2 wRestore
 intro hh hlt hsz hc ha
 have hE:=checkE_zero hc
 have eK:=accS_eq (h:=(E,C,G)) (n:=n) (k:=wRestore) (ns:=ns) (vs:=vs) (tx:=tx) (by kernel_rfl)
 have hu:=not_undo (h:=(E,C,G)) (n:=n) (k:=wRestore) (ns:=ns) (vs:=vs) (tx:=tx) (by kernel_rfl) hc ha
 rw[ha] at eK
 obtain⟨z1,z2,z3,z4,z5⟩:=accK_zero eK.symm
 have hn:=hE.nn
 have hv:=hE.nv
 simp only[kd_restore,List.length_cons,List.length_nil] at hn hv z3
 have u0:=z3
 obtain⟨k0,u1⟩:=unk_cons u0
 have f0:=has2 (k0 rfl)
 have hR:RegOk (nowS G):=now_ok hh
 have n1:E.length≤1000:=hh.nE
 have n2:C.length≤E.length:=hh.nC
 have n3:G.length=C.length:=hh.nG
 have hG:((G.length:Int)-1).toNat=G.length-1:=by omega
 have hs:stepS (nowS G) (n,wRestore,ns,vs,tx)=(vs.getD 0 0,(doRest (nowS G) (n,wRestore,ns,vs,tx)).2):=by
  unfold stepS doS
  simp only[kd_restore]
 have hreg:((0,0,[],[],[],[],[]):Reg)=reg0:=rfl
 have hnow:G.getD (G.length-1) reg0=nowS G:=rfl
 simp only[hu.1,hu.2,hs,hc,ha,hG,hreg,hnow,Prod.eta]
 clear hreg eK
 repeat' first|exact hE.val|exact hh|exact hR|exact hsz.2.2|apply And.intro|intro _
 all_goals first|trivial|omega|assumption|contradiction|exact Nat.le_trans hR.nS (by decide)|exact Nat.le_trans hR.nO (by decide)|exact Nat.le_trans hR.nM (by decide)|exact Nat.le_trans hR.nX (by decide)|exact Nat.le_trans hR.nQ (by decide)|exact Nat.zero_le _|exact hsz.1|exact hsz.2.1|(rename_i h;have h:=of_decide_eq_true h;omega)|rfl|(have hq:reg0=nowS G:=(now_nil (by assumption)).symm;rw[hq];done)|(have hq:reg0=nowS G:=(now_nil (by assumption)).symm;rw[hq];exact hR)|(have hq:nowS G=reg0:=now_nil (by assumption);rw[hq] at f0;exact f0)
def Z438 (a:Int) (b:Ls) (c:Li) (d:Bt):=(doAddP Z306 (Z17 a b c d)).2
def Z455 (a:Int) (b:Ls) (c:Li) (d:Bt):=(Z438 a b c d).2
def Z478 (a:Int) (b:Ls) (c:Li) (d:Bt):=(Z455 a b c d).2
def Z492 (a:Int) (b:Ls) (c:Li) (d:Bt):=(Z478 a b c d).2
def Z836 (a:List Reg) (b:Int) (c:Ls) (d:Li) (e:Bt):=(doAddP (Z820 a) (Z17 b c d e)).2
def Z847 (a:List Reg) (b:Int) (c:Ls) (d:Li) (e:Bt):=(Z836 a b c d e).2
def Z860 (a:List Reg) (b:Int) (c:Ls) (d:Li) (e:Bt):=(Z847 a b c d e).2
def Z876 (a:List Reg) (b:Int) (c:Ls) (d:Li) (e:Bt):=(Z860 a b c d e).2
theorem wp121_Permit (T:TypeId) (E C:List Ev) (G:List Reg) (n:Int) (ns:List ByteArray) (vs:List Int) (tx:ByteArray):wpFO Tryz.prog W92.g (na ()) (fun _=>na ()) (Sx.look ([(75,Tryz.f75),(129,Tryz.f129)]:List (Nat×Func))) Tryz.f121 cAddK T (E,C,G) ((n,wPermit,ns,vs,tx),()):=by
 refine(by kernel_rfl:(HistOk (E,C,G)→Z30 E→evSz (Z17 n ns vs tx)→checkE (Z17 n ns vs tx)=0→Z161 E C G n ns vs tx=0→Z625 ns vs∧Br (checkE (Z17 n ns vs tx) !=0) (Sf true (Sf T ((E,C,G)=addP (E,C,G) (Z17 n ns vs tx)∧checkE (Z17 n ns vs tx)=addE (E,C,G) (Z17 n ns vs tx)))) ((HistOk (E,C,G)∧checkE (Z17 n ns vs tx)=0)∧Br (Z161 E C G n ns vs tx !=0) (Sf true (Sf T ((E,C,G)=addP (E,C,G) (Z17 n ns vs tx)∧Z161 E C G n ns vs tx=addE (E,C,G) (Z17 n ns vs tx)))) (Z249 ns vs∧Z195 E∧Br false (Z59 C∧Z591 C G∧Sf true (Sf T ((E++[Z17 n ns vs tx],Z356 C G)=addP (E,C,G) (Z17 n ns vs tx)∧0=addE (E,C,G) (Z17 n ns vs tx)))) (Br (Z97 G) (Z308 G∧Z819 G∧(Z821 G∧Z100 ns)∧Z81 vs∧Z407 C G∧Sf true (Sf T ((E++[Z17 n ns vs tx],C++[Z17 n ns vs tx],G++[(Z86 vs,(Z836 G n ns vs tx).1,(Z847 G n ns vs tx).1,(Z860 G n ns vs tx).1,(Z876 G n ns vs tx).1,E2 (Z876 G n ns vs tx).2)])=addP (E,C,G) (Z17 n ns vs tx)∧0=addE (E,C,G) (Z17 n ns vs tx)))) (Z295∧(Z336∧Z100 ns)∧Z81 vs∧Z407 C G∧Sf true (Sf T ((E++[Z17 n ns vs tx],C++[Z17 n ns vs tx],G++[(Z86 vs,(Z438 n ns vs tx).1,(Z455 n ns vs tx).1,(Z478 n ns vs tx).1,(Z492 n ns vs tx).1,E2 (Z492 n ns vs tx).2)])=addP (E,C,G) (Z17 n ns vs tx)∧0=addE (E,C,G) (Z17 n ns vs tx))))))))=_).mp ?_
 delta Z7 Z17 Z22 Z30 Z53 Z59 Z81 Z86 Z97 Z100 Z102 Z161 Z195 Z241 Z249 Z274 Z295 Z306 Z308 Z336 Z356 Z402 Z407 Z438 Z447 Z455 Z457 Z458 Z478 Z481 Z486 Z492 Z497 Z502 Z512 Z591 Z625 Z814 Z819 Z820 Z821 Z836 Z847 Z860 Z876 Br Iw Bd T2 Tw Sf Ln Gt E2 wPermit
 intro hh hlt hsz hc ha
 have hE:=checkE_zero hc
 have eK:=accS_eq (h:=(E,C,G)) (n:=n) (k:=wPermit) (ns:=ns) (vs:=vs) (tx:=tx) (by kernel_rfl)
 have hu:=not_undo (h:=(E,C,G)) (n:=n) (k:=wPermit) (ns:=ns) (vs:=vs) (tx:=tx) (by kernel_rfl) hc ha
 rw[ha] at eK
 obtain⟨z1,z2,z3,z4,z5⟩:=accK_zero eK.symm
 have hn:=hE.nn
 have hv:=hE.nv
 simp only[kd_permit,List.length_cons,List.length_nil] at hn hv z3
 have u0:=z3
 obtain⟨k0,u1⟩:=unk_cons u0
 obtain⟨k1,u2⟩:=unk_cons u1
 have f1:=has2 (k1 rfl)
 have hR:RegOk (nowS G):=now_ok hh
 have n1:E.length≤1000:=hh.nE
 have n2:C.length≤E.length:=hh.nC
 have n3:G.length=C.length:=hh.nG
 have hG:((G.length:Int)-1).toNat=G.length-1:=by omega
 have hs:stepS (nowS G) (n,wPermit,ns,vs,tx)=(vs.getD 0 0,(doAddP (nowS G) (n,wPermit,ns,vs,tx)).2):=by
  unfold stepS doS
  simp only[kd_permit]
 have hreg:((0,0,[],[],[],[],[]):Reg)=reg0:=rfl
 have hnow:G.getD (G.length-1) reg0=nowS G:=rfl
 simp only[hu.1,hu.2,hs,hc,ha,hG,hreg,hnow,Prod.eta]
 clear hreg eK
 repeat' first|exact hE.val|exact hh|exact hR|exact hsz.2.2|apply And.intro|intro _
 all_goals first|trivial|omega|assumption|contradiction|exact Nat.le_trans hR.nS (by decide)|exact Nat.le_trans hR.nO (by decide)|exact Nat.le_trans hR.nM (by decide)|exact Nat.le_trans hR.nX (by decide)|exact Nat.le_trans hR.nQ (by decide)|exact Nat.zero_le _|exact hsz.1|exact hsz.2.1|(rename_i h;have h:=of_decide_eq_true h;omega)|rfl|(have hq:reg0=nowS G:=(now_nil (by assumption)).symm;rw[hq];done)|(have hq:reg0=nowS G:=(now_nil (by assumption)).symm;rw[hq];exact hR)|(have hq:nowS G=reg0:=now_nil (by assumption);rw[hq] at f1;exact f1)
def Z433 (a:Int) (b:Ls) (c:Li) (d:Bt):=(doRet Z306 (Z19 a b c d)).2
def Z448 (a:Int) (b:Ls) (c:Li) (d:Bt):=(Z433 a b c d).2
def Z460 (a:Int) (b:Ls) (c:Li) (d:Bt):=(Z448 a b c d).2
def Z485 (a:Int) (b:Ls) (c:Li) (d:Bt):=(Z460 a b c d).2
def Z833 (a:List Reg) (b:Int) (c:Ls) (d:Li) (e:Bt):=(doRet (Z820 a) (Z19 b c d e)).2
def Z842 (a:List Reg) (b:Int) (c:Ls) (d:Li) (e:Bt):=(Z833 a b c d e).2
def Z850 (a:List Reg) (b:Int) (c:Ls) (d:Li) (e:Bt):=(Z842 a b c d e).2
def Z869 (a:List Reg) (b:Int) (c:Ls) (d:Li) (e:Bt):=(Z850 a b c d e).2
theorem wp121_Return (T:TypeId) (E C:List Ev) (G:List Reg) (n:Int) (ns:List ByteArray) (vs:List Int) (tx:ByteArray):wpFO Tryz.prog W92.g (na ()) (fun _=>na ()) (Sx.look ([(75,Tryz.f75),(129,Tryz.f129)]:List (Nat×Func))) Tryz.f121 cAddK T (E,C,G) ((n,wReturn,ns,vs,tx),()):=by
 refine(by kernel_rfl:(HistOk (E,C,G)→Z30 E→evSz (Z19 n ns vs tx)→checkE (Z19 n ns vs tx)=0→Z158 E C G n ns vs tx=0→Z625 ns vs∧Br (checkE (Z19 n ns vs tx) !=0) (Sf true (Sf T ((E,C,G)=addP (E,C,G) (Z19 n ns vs tx)∧checkE (Z19 n ns vs tx)=addE (E,C,G) (Z19 n ns vs tx)))) ((HistOk (E,C,G)∧checkE (Z19 n ns vs tx)=0)∧Br (Z158 E C G n ns vs tx !=0) (Sf true (Sf T ((E,C,G)=addP (E,C,G) (Z19 n ns vs tx)∧Z158 E C G n ns vs tx=addE (E,C,G) (Z19 n ns vs tx)))) (Z249 ns vs∧Z195 E∧Br false (Z59 C∧Z591 C G∧Sf true (Sf T ((E++[Z19 n ns vs tx],Z356 C G)=addP (E,C,G) (Z19 n ns vs tx)∧0=addE (E,C,G) (Z19 n ns vs tx)))) (Br (Z97 G) (Z308 G∧Z819 G∧Z904 G ns∧Z81 vs∧Z407 C G∧Sf true (Sf T ((E++[Z19 n ns vs tx],C++[Z19 n ns vs tx],G++[(Z86 vs,(Z833 G n ns vs tx).1,(Z842 G n ns vs tx).1,(Z850 G n ns vs tx).1,(Z869 G n ns vs tx).1,E2 (Z869 G n ns vs tx).2)])=addP (E,C,G) (Z19 n ns vs tx)∧0=addE (E,C,G) (Z19 n ns vs tx)))) (Z295∧Z659 ns∧Z81 vs∧Z407 C G∧Sf true (Sf T ((E++[Z19 n ns vs tx],C++[Z19 n ns vs tx],G++[(Z86 vs,(Z433 n ns vs tx).1,(Z448 n ns vs tx).1,(Z460 n ns vs tx).1,(Z485 n ns vs tx).1,E2 (Z485 n ns vs tx).2)])=addP (E,C,G) (Z19 n ns vs tx)∧0=addE (E,C,G) (Z19 n ns vs tx))))))))=_).mp ?_
 delta Z7 Z19 Z22 Z30 Z53 Z59 Z81 Z86 Z97 Z102 Z104 Z105 Z158 Z195 Z241 Z249 Z274 Z295 Z306 Z308 Z336 Z356 Z402 Z407 Z433 Z447 Z448 Z457 Z458 Z460 Z481 Z485 Z486 Z497 Z502 Z512 Z591 Z625 Z659 Z814 Z819 Z820 Z821 Z833 Z842 Z850 Z869 Z904 Br Iw Bd T2 Tw Sf Ln Gt E2 wReturn
 intro hh hlt hsz hc ha
 have hE:=checkE_zero hc
 have eK:=accS_eq (h:=(E,C,G)) (n:=n) (k:=wReturn) (ns:=ns) (vs:=vs) (tx:=tx) (by kernel_rfl)
 have hu:=not_undo (h:=(E,C,G)) (n:=n) (k:=wReturn) (ns:=ns) (vs:=vs) (tx:=tx) (by kernel_rfl) hc ha
 rw[ha] at eK
 obtain⟨z1,z2,z3,z4,z5⟩:=accK_zero eK.symm
 have hn:=hE.nn
 have hv:=hE.nv
 simp only[kd_return,List.length_cons,List.length_nil] at hn hv z3
 have u0:=z3
 obtain⟨k0,u1⟩:=unk_cons u0
 have f0:=has3 (k0 rfl)
 have hR:RegOk (nowS G):=now_ok hh
 have n1:E.length≤1000:=hh.nE
 have n2:C.length≤E.length:=hh.nC
 have n3:G.length=C.length:=hh.nG
 have hG:((G.length:Int)-1).toNat=G.length-1:=by omega
 have hs:stepS (nowS G) (n,wReturn,ns,vs,tx)=(vs.getD 0 0,(doRet (nowS G) (n,wReturn,ns,vs,tx)).2):=by
  unfold stepS doS
  simp only[kd_return]
 have hreg:((0,0,[],[],[],[],[]):Reg)=reg0:=rfl
 have hnow:G.getD (G.length-1) reg0=nowS G:=rfl
 simp only[hu.1,hu.2,hs,hc,ha,hG,hreg,hnow,Prod.eta]
 clear hreg eK
 repeat' first|exact hE.val|exact hh|exact hR|exact hsz.2.2|apply And.intro|intro _
 all_goals first|trivial|omega|assumption|contradiction|exact Nat.le_trans hR.nS (by decide)|exact Nat.le_trans hR.nO (by decide)|exact Nat.le_trans hR.nM (by decide)|exact Nat.le_trans hR.nX (by decide)|exact Nat.le_trans hR.nQ (by decide)|exact Nat.zero_le _|exact hsz.1|exact hsz.2.1|(rename_i h;have h:=of_decide_eq_true h;omega)|rfl|(have hq:reg0=nowS G:=(now_nil (by assumption)).symm;rw[hq];done)|(have hq:reg0=nowS G:=(now_nil (by assumption)).symm;rw[hq];exact hR)|(have hq:nowS G=reg0:=now_nil (by assumption);rw[hq] at f0;exact f0)
def Z440 (a:Int) (b:Ls) (c:Li) (d:Bt):=(doSett Z306 (Z21 a b c d)).2
def Z452 (a:Int) (b:Ls) (c:Li) (d:Bt):=(Z440 a b c d).2
def Z473 (a:Int) (b:Ls) (c:Li) (d:Bt):=(Z452 a b c d).2
def Z490 (a:Int) (b:Ls) (c:Li) (d:Bt):=(Z473 a b c d).2
def Z837 (a:List Reg) (b:Int) (c:Ls) (d:Li) (e:Bt):=(doSett (Z820 a) (Z21 b c d e)).2
def Z848 (a:List Reg) (b:Int) (c:Ls) (d:Li) (e:Bt):=(Z837 a b c d e).2
def Z859 (a:List Reg) (b:Int) (c:Ls) (d:Li) (e:Bt):=(Z848 a b c d e).2
def Z874 (a:List Reg) (b:Int) (c:Ls) (d:Li) (e:Bt):=(Z859 a b c d e).2
theorem wp121_Settle (T:TypeId) (E C:List Ev) (G:List Reg) (n:Int) (ns:List ByteArray) (vs:List Int) (tx:ByteArray):wpFO Tryz.prog W92.g (na ()) (fun _=>na ()) (Sx.look ([(75,Tryz.f75),(129,Tryz.f129)]:List (Nat×Func))) Tryz.f121 cAddK T (E,C,G) ((n,wSettle,ns,vs,tx),()):=by
 refine(by kernel_rfl:(HistOk (E,C,G)→Z30 E→evSz (Z21 n ns vs tx)→checkE (Z21 n ns vs tx)=0→Z157 E C G n ns vs tx=0→Z625 ns vs∧Br (checkE (Z21 n ns vs tx) !=0) (Sf true (Sf T ((E,C,G)=addP (E,C,G) (Z21 n ns vs tx)∧checkE (Z21 n ns vs tx)=addE (E,C,G) (Z21 n ns vs tx)))) ((HistOk (E,C,G)∧checkE (Z21 n ns vs tx)=0)∧Br (Z157 E C G n ns vs tx !=0) (Sf true (Sf T ((E,C,G)=addP (E,C,G) (Z21 n ns vs tx)∧Z157 E C G n ns vs tx=addE (E,C,G) (Z21 n ns vs tx)))) (Z249 ns vs∧Z195 E∧Br false (Z59 C∧Z591 C G∧Sf true (Sf T ((E++[Z21 n ns vs tx],Z356 C G)=addP (E,C,G) (Z21 n ns vs tx)∧0=addE (E,C,G) (Z21 n ns vs tx)))) (Br (Z97 G) (Z308 G∧Z819 G∧Z864 G vs∧Z81 vs∧Z407 C G∧Sf true (Sf T ((E++[Z21 n ns vs tx],C++[Z21 n ns vs tx],G++[(Z86 vs,(Z837 G n ns vs tx).1,(Z848 G n ns vs tx).1,(Z859 G n ns vs tx).1,(Z874 G n ns vs tx).1,E2 (Z874 G n ns vs tx).2)])=addP (E,C,G) (Z21 n ns vs tx)∧0=addE (E,C,G) (Z21 n ns vs tx)))) (Z295∧Z476 vs∧Z81 vs∧Z407 C G∧Sf true (Sf T ((E++[Z21 n ns vs tx],C++[Z21 n ns vs tx],G++[(Z86 vs,(Z440 n ns vs tx).1,(Z452 n ns vs tx).1,(Z473 n ns vs tx).1,(Z490 n ns vs tx).1,E2 (Z490 n ns vs tx).2)])=addP (E,C,G) (Z21 n ns vs tx)∧0=addE (E,C,G) (Z21 n ns vs tx))))))))=_).mp ?_
 delta Z7 Z21 Z22 Z30 Z53 Z55 Z59 Z81 Z86 Z97 Z102 Z157 Z195 Z241 Z249 Z274 Z295 Z306 Z308 Z336 Z356 Z402 Z407 Z440 Z447 Z452 Z457 Z458 Z473 Z476 Z481 Z486 Z490 Z497 Z502 Z512 Z591 Z625 Z814 Z819 Z820 Z821 Z837 Z848 Z859 Z864 Z874 Br Iw Bd T2 Tw Sf Ln Gt E2 wSettle
 intro hh hlt hsz hc ha
 have hE:=checkE_zero hc
 have eK:=accS_eq (h:=(E,C,G)) (n:=n) (k:=wSettle) (ns:=ns) (vs:=vs) (tx:=tx) (by kernel_rfl)
 have hu:=not_undo (h:=(E,C,G)) (n:=n) (k:=wSettle) (ns:=ns) (vs:=vs) (tx:=tx) (by kernel_rfl) hc ha
 rw[ha] at eK
 obtain⟨z1,z2,z3,z4,z5⟩:=accK_zero eK.symm
 have hn:=hE.nn
 have hv:=hE.nv
 simp only[kd_settle,List.length_cons,List.length_nil] at hn hv z3
 have hR:RegOk (nowS G):=now_ok hh
 have n1:E.length≤1000:=hh.nE
 have n2:C.length≤E.length:=hh.nC
 have n3:G.length=C.length:=hh.nG
 have hG:((G.length:Int)-1).toNat=G.length-1:=by omega
 have hs:stepS (nowS G) (n,wSettle,ns,vs,tx)=(vs.getD 0 0,(doSett (nowS G) (n,wSettle,ns,vs,tx)).2):=by
  unfold stepS doS
  simp only[kd_settle]
 have hreg:((0,0,[],[],[],[],[]):Reg)=reg0:=rfl
 have hnow:G.getD (G.length-1) reg0=nowS G:=rfl
 simp only[hu.1,hu.2,hs,hc,ha,hG,hreg,hnow,Prod.eta]
 clear hreg eK
 repeat' first|exact hE.val|exact hh|exact hR|exact hsz.2.2|apply And.intro|intro _
 all_goals first|trivial|omega|assumption|contradiction|exact Nat.le_trans hR.nS (by decide)|exact Nat.le_trans hR.nO (by decide)|exact Nat.le_trans hR.nM (by decide)|exact Nat.le_trans hR.nX (by decide)|exact Nat.le_trans hR.nQ (by decide)|exact Nat.zero_le _|exact hsz.1|exact hsz.2.1|(rename_i h;have h:=of_decide_eq_true h;omega)|rfl|(have hq:reg0=nowS G:=(now_nil (by assumption)).symm;rw[hq];done)|(have hq:reg0=nowS G:=(now_nil (by assumption)).symm;rw[hq];exact hR)
abbrev GG:Gam:=[(64,cChkE),(130,ConO.con cAcc),(81,cOwned),(216,cCopy 127 sSta),(217,cCopy 130 sOrd),(218,cCopy 155 sMet),(219,cCopy 188 sOut),(220,cCopy 235 sPer)]
theorem gG:GamOk Tryz.prog GG:= .cons ok64 (.cons ok130 (.cons ok81 (.cons ok216 (.cons ok217 (.cons ok218 (.cons ok219 (.cons ok220 (.nil _))))))))
def cAddG:ConO:={cAdd with pre:=fun h (e,_)=>[HistOk h,h.1.length<1000,evSz e,¬(checkE e=0∧accS h e=0)]}
theorem wp121_Gen (T:TypeId) (E C:List Ev) (G:List Reg) (n:Int) (k:ByteArray) (ns:List ByteArray) (vs:List Int) (tx:ByteArray):wpFO Tryz.prog GG (na ()) (fun _=>na ()) (Sx.look ([(75,Tryz.f75),(129,Tryz.f129)]:List (Nat×Func))) Tryz.f121 cAddG T (E,C,G) ((n,k,ns,vs,tx),()):=by
 refine(by kernel_rfl:(HistOk (E,C,G)→Z30 E→evSz (n,k,ns,vs,tx)→(Z57 n k ns vs tx=0∧accS (E,C,G) (n,k,ns,vs,tx)=0→False)→Z625 ns vs∧Br (Z57 n k ns vs tx !=0) (Sf true (Sf T ((E,C,G)=addP (E,C,G) (n,k,ns,vs,tx)∧Z57 n k ns vs tx=addE (E,C,G) (n,k,ns,vs,tx)))) ((HistOk (E,C,G)∧Z57 n k ns vs tx=0)∧Br (accS (E,C,G) (n,k,ns,vs,tx) !=0) (Sf true (Sf T ((E,C,G)=addP (E,C,G) (n,k,ns,vs,tx)∧accS (E,C,G) (n,k,ns,vs,tx)=addE (E,C,G) (n,k,ns,vs,tx)))) (Z249 ns vs∧Z195 E∧Br (Lb k wUndo) (Z59 C∧Z591 C G∧Sf true (Sf T ((E++[(n,k,ns,vs,tx)],Z356 C G)=addP (E,C,G) (n,k,ns,vs,tx)∧0=addE (E,C,G) (n,k,ns,vs,tx)))) (Br (Z97 G) (Z308 G∧Z819 G∧STUCK 777 1) (Z295∧STUCK 777 1)))))=_).mp ?_
 delta Z7 Z30 Z53 Z57 Z59 Z97 Z102 Z195 Z241 Z249 Z274 Z295 Z306 Z308 Z356 Z402 Z447 Z458 Z486 Z497 Z502 Z512 Z591 Z625 Z819 Br Iw Bd T2 Tw Sf Ln Gt Lb wUndo
 intro hh hlt hsz hx
 have n1:E.length≤1000:=hh.nE
 have e1:checkE (n,k,ns,vs,tx)≠0→addE (E,C,G) (n,k,ns,vs,tx)=checkE (n,k,ns,vs,tx):=fun h=>by unfold addE;rw[if_pos h]
 have e2:¬checkE (n,k,ns,vs,tx)≠0→addE (E,C,G) (n,k,ns,vs,tx)=accS (E,C,G) (n,k,ns,vs,tx):=fun h=>by unfold addE;rw[if_neg h]
 have e3:addE (E,C,G) (n,k,ns,vs,tx)≠0→addP (E,C,G) (n,k,ns,vs,tx)=(E,C,G):=fun h=>by unfold addP;rw[if_neg h]
 refine⟨⟨hsz.1,hsz.2.1,hsz.2.2⟩,fun h=> ?_,fun h=>⟨⟨hh, ?_⟩,fun h2=> ?_,fun h2=> ?_⟩⟩
 ·have h:checkE (n,k,ns,vs,tx)≠0:=bne_iff_ne.1 h
  exact⟨rfl,rfl,(e3 (by rw[e1 h];exact h)).symm,(e1 h).symm⟩
 ·exact bne_eq_false_iff_eq.1 h
 ·have h:checkE (n,k,ns,vs,tx)=0:=bne_eq_false_iff_eq.1 h
  have h2:accS (E,C,G) (n,k,ns,vs,tx)≠0:=bne_iff_ne.1 h2
  have e4:=e2 (by rw[h];simp)
  exact⟨rfl,rfl,(e3 (by rw[e4];exact h2)).symm,e4.symm⟩
 ·exact absurd ⟨bne_eq_false_iff_eq.1 h,bne_eq_false_iff_eq.1 h2⟩ hx
theorem okO_split {f:FuncId} {c:ConO} {p1 p2:c.s.T→ATup c.args→List Prop} (h1:OkO Tryz.prog f {c with pre:=p1}) (h2:OkO Tryz.prog f {c with pre:=p2}) (h:∀x y,conj (c.pre x y)→conj (p1 x y)∨conj (p2 x y)):OkO Tryz.prog f c:=
 ⟨h1.1,fun x y M R B w b T cells vals vs hB hMR hg hw hBb hMb hRb hT ho hv hpre ha=>(h x y hpre).elim (fun q=>h1.2 x y M R B w b T cells vals vs hB hMR hg hw hBb hMb hRb hT ho hv q ha) fun q=>h2.2 x y M R B w b T cells vals vs hB hMR hg hw hBb hMb hRb hT ho hv q ha⟩
theorem wp121K (T:TypeId):∀(x:Hist) (y:ATup [aEv]),wpFO Tryz.prog W92.g (na ()) (fun _=>na ()) (Sx.look ([(75,Tryz.f75),(129,Tryz.f129)]:List (Nat×Func))) Tryz.f121 cAddK T x y
 |(E,C,G),((n,k,ns,vs,tx),())=>by
  refine wpFO_pre (by kernel_rfl) fun hp=> ?_
  have hc:checkE (n,k,ns,vs,tx)=0:=hp.2.2.2.1
  rcases kind_cases (checkE_zero hc).kind with h|h|h|h|h|h|h|h|h|h|h<;>dsimp only at h<;>subst h
  ·exact wp121_Undo T E C G n ns vs tx
  ·exact wp121_Station T E C G n ns vs tx
  ·exact wp121_Price T E C G n ns vs tx
  ·exact wp121_Order T E C G n ns vs tx
  ·exact wp121_Meter T E C G n ns vs tx
  ·exact wp121_Trip T E C G n ns vs tx
  ·exact wp121_Outage T E C G n ns vs tx
  ·exact wp121_Restore T E C G n ns vs tx
  ·exact wp121_Permit T E C G n ns vs tx
  ·exact wp121_Return T E C G n ns vs tx
  ·exact wp121_Settle T E C G n ns vs tx
theorem okK:OkO Tryz.prog 121 cAddK:=ok_of_wpO mixed W92.ok (by kernel_rfl) (by kernel_rfl) (lib_ok (l:=([(75,Tryz.f75),(129,Tryz.f129)]:List (Nat×Func))) (List.forall_mem_cons.2 ⟨by kernel_rfl,List.forall_mem_cons.2 ⟨by kernel_rfl,by simp⟩⟩)) (fun _ _=>na ()) (fun _ _=>fun _=>na ()) fun T xx yy _=>wp121K T xx yy
theorem okG:OkO Tryz.prog 121 cAddG:=ok_of_wpO mixed gG (by kernel_rfl) (by kernel_rfl) (lib_ok (l:=([(75,Tryz.f75),(129,Tryz.f129)]:List (Nat×Func))) (List.forall_mem_cons.2 ⟨by kernel_rfl,List.forall_mem_cons.2 ⟨by kernel_rfl,by simp⟩⟩)) (fun _ _=>na ()) (fun _ _=>fun _=>na ()) fun T xx yy _=>wp121_Gen T xx.1 xx.2.1 xx.2.2 yy.1.1 yy.1.2.1 yy.1.2.2.1 yy.1.2.2.2.1 yy.1.2.2.2.2
theorem ok121:Ok Tryz.prog 121 (ConO.con cAdd):=ok_obj (okO_split (c:=cAdd) okK okG fun x y hp=>by
 by_cases h:checkE y.1=0∧accS x y.1=0
 ·exact .inl ⟨hp.1,hp.2.1,hp.2.2,h.1,h.2⟩
 ·exact .inr ⟨hp.1,hp.2.1,hp.2.2,h⟩)
abbrev W93:=W92.add ok121
theorem idxS_append {α:Type} {p:α→Bool} {m:List α}:∀{l:List α} {k:Nat},0≤idxS p l k→idxS p (l++m) k=idxS p l k
 |[],k,h=>by simp[idxS] at h
 | x :: l, k, h => by
  show(if p x=true then(k:Int) else idxS p (l++m) (k+1))=(if p x=true then(k:Int) else idxS p l (k+1))
  have h:0≤(if p x=true then(k:Int) else idxS p l (k+1)):=h
  by_cases hp:p x=true
  ·rw[if_pos hp,if_pos hp]
  ·rw[if_neg hp] at h
   rw[if_neg hp,if_neg hp,idxS_append h]
theorem idxS_set {α:Type} {p:α→Bool} {y:α}:∀{l:List α} {i k:Nat},(∀x,l[i]? =some x→p y=p x)→idxS p (l.set i y) k=idxS p l k
 |[],_,_,_=>rfl
 |x::l,0,k,h=>by
  have:=h x rfl
  simp only[List.set_cons_zero]
  unfold idxS
  rw[this]
 |x::l,i+1,k,h=>by
  simp only[List.set_cons_succ]
  unfold idxS
  rw[idxS_set fun z hz=>h z (by simpa using hz)]
theorem getD_of {α:Type} {l:List α} {i:Nat} {d x:α} (h:l[i]? =some x):l.getD i d=x:=by
 rw[List.getD_eq_getElem?_getD,h];rfl
theorem mem_set {α:Type} {l:List α} {i:Nat} {y x:α} (h:x∈l.set i y):x=y∨x∈l:=by
 rcases List.mem_or_eq_of_mem_set h with h|h
 ·exact .inr h
 ·exact .inl h
theorem mem_snoc {α:Type} {l:List α} {y x:α} (h:x∈l++[y]):x∈l∨x=y:=by
 rcases List.mem_append.1 h with h|h
 ·exact .inl h
 ·exact .inr (by simpa using h)
theorem bif_zero {b:Bool} {c:Int} (hc:c≠0) (h:(bif b then c else 0)=0):b=false:=by
 cases b with
 |true=>exact absurd h hc
 |false=>rfl
theorem first_two {a b:Int} (h:firstS [a,b]=0):a=0∧b=0:=
 ⟨firstS_zero.1 h _ (List.mem_cons_self ..),firstS_zero.1 h _ (List.mem_cons_of_mem _ (List.mem_cons_self ..))⟩
theorem first_three {a b c:Int} (h:firstS [a,b,c]=0):a=0∧b=0∧c=0:=
 ⟨firstS_zero.1 h _ (by simp),firstS_zero.1 h _ (by simp),firstS_zero.1 h _ (by simp)⟩
theorem ord_mem {O:List Ord} {s:ByteArray} (h:0≤findO O s):ordS O s∈O:=by
 have:=findO_lt (l:=O) (s:=s)
 exact getD_mem (by omega)
theorem out_mem {X:List Out} {s:ByteArray} (h:0≤findX X s):outS X s∈X:=by
 have:=findX_lt (l:=X) (s:=s)
 exact getD_mem (by omega)
theorem sta_mem {S:List Sta} {s:ByteArray} (h:0≤findS S s):staS S s∈S:=by
 have:=findS_lt (l:=S) (s:=s)
 exact getD_mem (by omega)
theorem per_mem {Q:List Per} {s:ByteArray} (h:0≤findP Q s):perS Q s∈Q:=by
 have:=findP_lt (l:=Q) (s:=s)
 exact getD_mem (by omega)
theorem OrdOk.mono {S S':List Sta} {x:Ord} (h:OrdOk S x) (hs:∀s,0≤findS S s→0≤findS S' s):OrdOk S' x:=⟨h.span,h.pow,h.pri,h.trip,hs _ h.fr,hs _ h.tu⟩
theorem OutOk.mono {S S':List Sta} {x:Out} (h:OutOk S x) (hs:∀s,0≤findS S s→0≤findS S' s):OutOk S' x:=⟨h.span,h.rest,hs _ h.sta⟩
section
variable {tk st v:Int} {S:List Sta} {O:List Ord} {M:List Met} {X:List Out} {Q:List Per} {n:Int} {k tx:ByteArray} {ns:List ByteArray} {vs:List Int}
theorem st_station (hr:RegOk (tk,st,S,O,M,X,Q)) (hv:tk≤v∧v≤999999999) (hc:ckSta S vs=0) {a:ByteArray}:RegOk (v,st,S++[(a,vs.getD 1 0,0)],O,M,X,Q):=by
 obtain⟨c1,c2⟩:=first_two hc
 have c1:=within_zero.1 c1
 have c2:=of_decide_eq_false (bif_zero (by decide) c2)
 have hs:∀s,0≤findS S s→0≤findS (S++[(a,vs.getD 1 0,0)]) s:=fun s h=>by unfold findS at h⊢;rw[idxS_append h];exact h
 have h0:=hr.tk
 have h1:=hr.st
 dsimp only at h0 h1
 refine⟨by dsimp only;omega,by dsimp only;omega,by dsimp only;rw[List.length_append,List.length_singleton];omega,hr.nO,hr.nM,hr.nX,hr.nQ,fun x hx=> ?_,fun x hx=>(hr.ord x hx).mono hs,hr.met,fun x hx=>(hr.out x hx).mono hs,hr.per,hr.done⟩
 rcases mem_snoc hx with h|rfl
 ·exact hr.sta x h
 ·exact⟨c1,Int.le_refl 0,by show(0:Int)≤1000;decide⟩
theorem st_price (hr:RegOk (tk,st,S,O,M,X,Q)) (hv:tk≤v∧v≤999999999) (hc:ckPri vs=0) {a:ByteArray} (ha:0≤findS S a):RegOk (v,st,S.set (findS S a).toNat ((staS S a).1,(staS S a).2.1,vs.getD 1 0),O,M,X,Q):=by
 have c1:=within_zero.1 hc
 have hs:∀s,0≤findS S s→0≤findS (S.set (findS S a).toNat ((staS S a).1,(staS S a).2.1,vs.getD 1 0)) s:=fun s h=>by
  unfold findS at h⊢
  rw[idxS_set fun x hx=> ?_]
  ·exact h
  ·have:=getD_of (d:=sta0) hx
   show((staS S a).1.toList==s.toList)=_
   unfold staS findS
   rw[this]
 have h0:=hr.tk
 have h1:=hr.st
 dsimp only at h0 h1
 refine⟨by dsimp only;omega,by dsimp only;omega,by rw[List.length_set];exact hr.nS,hr.nO,hr.nM,hr.nX,hr.nQ,fun x hx=> ?_,fun x hx=>(hr.ord x hx).mono hs,hr.met,fun x hx=>(hr.out x hx).mono hs,hr.per,hr.done⟩
 rcases mem_set hx with rfl|h
 ·exact⟨(hr.sta _ (sta_mem ha)).lim,c1⟩
 ·exact hr.sta x h
theorem st_meter (hr:RegOk (tk,st,S,O,M,X,Q)) (hv:tk≤v∧v≤999999999) (hm:M.length<10000) (ho:0≤findO O (ns.getD 0 bnil)) (hb:∀i,i<4→0≤vs.getD i 0∧vs.getD i 0≤999999999) (hc:ckMet O M ns vs=0):RegOk (v,st,S,O,M++[(ns.getD 0 bnil,vs.getD 1 0,vs.getD 2 0,vs.getD 3 0)],X,Q):=by
 have h5:=bif_zero (by decide) (firstS_zero.1 hc _ (List.mem_cons_of_mem _ (List.mem_cons_of_mem _ (List.mem_cons_of_mem _ (List.mem_cons_of_mem _ (List.mem_cons_self ..))))))
 have h6:=bn1 h5
 have p1:=of_decide_eq_false h6.1
 have p2:=of_decide_eq_false h6.2
 have hp:1≤(ordS O (ns.getD 0 bnil)).2.2.2.2.1∧(ordS O (ns.getD 0 bnil)).2.2.2.2.1≤1000:=(hr.ord _ (ord_mem ho)).pow
 have h0:=hr.tk
 have h1:=hr.st
 dsimp only at h0 h1
 have b1:=hb 1 (by omega)
 have b2:=hb 2 (by omega)
 have b3:=hb 3 (by omega)
 refine⟨by dsimp only;omega,by dsimp only;omega,hr.nS,hr.nO,by dsimp only;rw[List.length_append,List.length_singleton];omega,hr.nX,hr.nQ,hr.sta,hr.ord,fun x hx=> ?_,hr.out,hr.per,fun x hx h e1 e2=> ?_⟩
 ·rcases mem_snoc hx with h|rfl
  ·exact hr.met x h
  ·exact⟨b1,⟨b2.1,by dsimp only;omega⟩,⟨b3.1,by dsimp only;omega⟩⟩
 ·have:=hr.done x hx h e1 e2
  unfold meterS at this⊢
  dsimp only at this⊢
  rw[idxS_append this];exact this
theorem spanE_ok {e:Ev} (hv:EvV e) (hl:e.2.2.2.1.length=4) (hc:spanErr e=0):SpanOk (spanE e)∧e.2.2.2.1.getD 0 0≤(spanE e).1:=by
 have h:=bif_zero (by decide) hc
 have h1:=bn1 h
 have h2:=bn1 h1.1
 have e1:=of_decide_eq_false h2.1
 have e2:=of_decide_eq_false h2.2
 have e3:=of_decide_eq_false h1.2
 have v1:0≤(spanE e).1∧(spanE e).1≤999999999:=hv _ (getD_mem (by omega))
 have v2:0≤(spanE e).2∧(spanE e).2≤999999999:=hv _ (getD_mem (by omega))
 exact⟨⟨v1.1,by omega,v2.2,by omega⟩,by omega⟩
theorem st_order (hr:RegOk (tk,st,S,O,M,X,Q)) (hv:tk≤v∧v≤999999999) (hvs:v=vs.getD 0 0) (hE:EvV (n,k,ns,vs,tx)) (hl:vs.length=4) (h1:0≤findS S (ns.getD 1 bnil)) (h2:0≤findS S (ns.getD 2 bnil)) (hc:ckOrd S O X (n,k,ns,vs,tx)=0):RegOk (v,st,S,O++[(ns.getD 0 bnil,ns.getD 1 bnil,ns.getD 2 bnil,spanE (n,k,ns,vs,tx),vs.getD 3 0,(staS S (ns.getD 1 bnil)).2.2,-1)],M,X,Q):=by
 have hk:¬ckOrd1 (n,k,ns,vs,tx)≠0:=fun h=>by unfold ckOrd at hc;rw[if_pos h] at hc;exact h hc
 unfold ckOrd at hc
 rw[if_neg hk] at hc
 obtain⟨c1,c2⟩:=first_two hc
 have c2:=of_decide_eq_false (bif_zero (by decide) c2)
 obtain⟨d1,d2,d3⟩:=first_three (show firstS [_,spanErr (n,k,ns,vs,tx),withinS (vs.getD 3 0) 1 1000]=0 from Decidable.of_not_not hk)
 have d3:=within_zero.1 d3
 obtain⟨sp,sv⟩:=spanE_ok hE hl d2
 have sv:vs.getD 0 0≤(spanE (n,k,ns,vs,tx)).1:=sv
 have g0:=hr.tk
 have g1:=hr.st
 dsimp only at g0 g1
 refine⟨by dsimp only;omega,by dsimp only;omega,hr.nS,by dsimp only;rw[List.length_append,List.length_singleton];omega,hr.nM,hr.nX,hr.nQ,hr.sta,fun x hx=> ?_,hr.met,hr.out,hr.per,fun x hx hh e1 e2=> ?_⟩
 ·rcases mem_snoc hx with h|rfl
  ·exact hr.ord x h
  ·exact⟨sp,d3,(hr.sta _ (sta_mem h1)).pri,⟨Int.le_refl _,by show(-1:Int)≤999999999;decide⟩,h1,h2⟩
 ·rcases mem_snoc hx with h|rfl
  ·exact hr.done x h hh e1 e2
  ·exfalso
   unfold countsB insideB at e1
   dsimp only at e1 e2
   cases h3:decide ((spanE (n,k,ns,vs,tx)).1≤hh) with
   |true=>have:=of_decide_eq_true h3;omega
   |false=>rw[h3] at e1;cases e1
theorem st_outage (hr:RegOk (tk,st,S,O,M,X,Q)) (hv:tk≤v∧v≤999999999) (hE:EvV (n,k,ns,vs,tx)) (hl:vs.length=4) (h1:0≤findS S (ns.getD 1 bnil)) (hc:ckOut S O X (n,k,ns,vs,tx)=0):RegOk (v,st,S,O,M,X++[(ns.getD 0 bnil,ns.getD 1 bnil,spanE (n,k,ns,vs,tx),vs.getD 3 0)],Q):=by
 have hk:¬ckOut1 S (n,k,ns,vs,tx)≠0:=fun h=>by unfold ckOut at hc;rw[if_pos h] at hc;exact h hc
 unfold ckOut at hc
 rw[if_neg hk] at hc
 obtain⟨c1,c2⟩:=first_two hc
 have c2:=of_decide_eq_false (bif_zero (by decide) c2)
 obtain⟨d2,d3⟩:=first_two (show firstS [spanErr (n,k,ns,vs,tx),bif decide ((staS S (ns.getD 1 bnil)).2.1≤vs.getD 3 0) then 3 else 0]=0 from Decidable.of_not_not hk)
 have d3:=of_decide_eq_false (bif_zero (by decide) d3)
 obtain⟨sp,sv⟩:=spanE_ok hE hl d2
 have hl3:(staS S (ns.getD 1 bnil)).2.1≤1000:=(hr.sta _ (sta_mem h1)).lim.2
 have v3:0≤vs.getD 3 0∧vs.getD 3 0≤999999999:=hE _ (getD_mem (show 3<vs.length by omega))
 have hf:∀s,0≤findX X s→0≤findX (X++[(ns.getD 0 bnil,ns.getD 1 bnil,spanE (n,k,ns,vs,tx),vs.getD 3 0)]) s:=fun s h=>by unfold findX at h⊢;rw[idxS_append h];exact h
 have g0:=hr.tk
 have g1:=hr.st
 dsimp only at g0 g1
 refine⟨by dsimp only;omega,by dsimp only;omega,hr.nS,hr.nO,hr.nM,by dsimp only;rw[List.length_append,List.length_singleton];omega,hr.nQ,hr.sta,hr.ord,hr.met,fun x hx=> ?_,fun x hx=>hf _ (hr.per x hx),hr.done⟩
 rcases mem_snoc hx with h|rfl
 ·exact hr.out x h
 ·exact⟨sp,⟨v3.1,by dsimp only;omega⟩,h1⟩
theorem st_trip (hr:RegOk (tk,st,S,O,M,X,Q)) (hv:tk≤vs.getD 0 0∧vs.getD 0 0≤999999999) (ho:0≤findO O (ns.getD 0 bnil)) (hc:ckTrip O ns vs=0):RegOk (vs.getD 0 0,st,S,setTrip O (ns.getD 0 bnil) (vs.getD 0 0),M,X,Q):=by
 have h1:=bn1 (bif_zero (by decide) hc)
 have c1:(ordS O (ns.getD 0 bnil)).2.2.2.2.2.2= -1:=bne_eq_false_iff_eq.1 h1.1
 have hm:=ord_mem ho
 have g0:=hr.tk
 have g1:=hr.st
 dsimp only at g0 g1
 have ox:OrdOk S (ordS O (ns.getD 0 bnil)):=hr.ord _ hm
 refine⟨by dsimp only;omega,by dsimp only;omega,hr.nS,by unfold setTrip;rw[List.length_set];exact hr.nO,hr.nM,hr.nX,hr.nQ,hr.sta,fun x hx=> ?_,hr.met,hr.out,hr.per,fun x hx hh e1 e2=> ?_⟩
 ·rcases mem_set hx with rfl|h
  ·exact⟨ox.span,ox.pow,ox.pri,⟨by dsimp only;omega,hv.2⟩,ox.fr,ox.tu⟩
  ·exact hr.ord x h
 ·rcases mem_set hx with rfl|h
  ·refine hr.done _ hm hh ?_ e2
   unfold countsB at e1⊢
   rw[c1]
   have e1:(bif insideB (ordS O (ns.getD 0 bnil)).2.2.2.1 hh then _ else false)=true:=e1
   cases h3:insideB (ordS O (ns.getD 0 bnil)).2.2.2.1 hh with
   |true=>rfl
   |false=>rw[h3] at e1;cases e1
  ·exact hr.done x h hh e1 e2
theorem st_restore (hr:RegOk (tk,st,S,O,M,X,Q)) (hv:tk≤vs.getD 0 0∧vs.getD 0 0≤999999999) (ho:0≤findX X (ns.getD 0 bnil)) (hc:ckRest X Q ns vs=0):RegOk (vs.getD 0 0,st,S,O,M,setTo X (ns.getD 0 bnil) (vs.getD 0 0),Q):=by
 obtain⟨c1,c2,c3⟩:=first_three hc
 have c1:=of_decide_eq_false (bif_zero (by decide) c1)
 have c2:=of_decide_eq_false (bif_zero (by decide) c2)
 have hm:=out_mem ho
 have ox:OutOk S (outS X (ns.getD 0 bnil)):=hr.out _ hm
 have l1:=ox.span.lo
 have l2:=ox.span.len
 have g0:=hr.tk
 have g1:=hr.st
 dsimp only at g0 g1
 have hf:∀s,0≤findX X s→0≤findX (setTo X (ns.getD 0 bnil) (vs.getD 0 0)) s:=fun s h=>by
  unfold setTo
  unfold findX at h⊢
  rw[idxS_set fun x hx=> ?_]
  ·exact h
  ·have:=getD_of (d:=out0) hx
   show((outS X (ns.getD 0 bnil)).1.toList==s.toList)=_
   unfold outS findX
   rw[this]
 refine⟨by dsimp only;omega,by dsimp only;omega,hr.nS,hr.nO,hr.nM,by unfold setTo;rw[List.length_set];exact hr.nX,hr.nQ,hr.sta,hr.ord,hr.met,fun x hx=> ?_,fun x hx=>hf _ (hr.per x hx),hr.done⟩
 rcases mem_set hx with rfl|h
 ·exact⟨⟨l1,by dsimp only;omega,hv.2,by dsimp only;omega⟩,ox.rest,ox.sta⟩
 ·exact hr.out x h
theorem st_permit (hr:RegOk (tk,st,S,O,M,X,Q)) (hv:tk≤v∧v≤999999999) (ho:0≤findX X (ns.getD 1 bnil)) (hc:ckPerm X Q ns vs=0):RegOk (v,st,S,O,M,X,Q++[(ns.getD 0 bnil,ns.getD 1 bnil,true)]):=by
 have c2:=of_decide_eq_false (bif_zero (by decide) (first_two hc).2)
 have g0:=hr.tk
 have g1:=hr.st
 dsimp only at g0 g1
 refine⟨by dsimp only;omega,by dsimp only;omega,hr.nS,hr.nO,hr.nM,hr.nX,by dsimp only;rw[List.length_append,List.length_singleton];omega,hr.sta,hr.ord,hr.met,hr.out,fun x hx=> ?_,hr.done⟩
 rcases mem_snoc hx with h|rfl
 ·exact hr.per x h
 ·exact ho
theorem st_return (hr:RegOk (tk,st,S,O,M,X,Q)) (hv:tk≤v∧v≤999999999) {a:ByteArray} (ho:0≤findP Q a):RegOk (v,st,S,O,M,X,setShut Q a):=by
 have g0:=hr.tk
 have g1:=hr.st
 dsimp only at g0 g1
 refine⟨by dsimp only;omega,by dsimp only;omega,hr.nS,hr.nO,hr.nM,hr.nX,by unfold setShut;rw[List.length_set];exact hr.nQ,hr.sta,hr.ord,hr.met,hr.out,fun x hx=> ?_,hr.done⟩
 rcases mem_set hx with rfl|h
 ·exact hr.per (perS Q a) (per_mem ho)
 ·exact hr.per x h
theorem missH_nil {u:Int} {x:Ord}:∀{m:Nat} {a:Int},missH M u x a m=[]→∀h,a≤h→h<a+m→(countsB x h&&(decide (h<u)&&decide (meterS M x.1 h<0)))=false
 |0,a,_,h,h1,h2=>by omega
 | m + 1, a, e, h, h1, h2 => by
  unfold missH at e
  obtain⟨e1,e2⟩:=List.append_eq_nil_iff.1 e
  by_cases ha:h=a
  ·subst ha
   cases hb:countsB x h&&(decide (h<u)&&decide (meterS M x.1 h<0)) with
   |false=>rfl
   |true=>rw[hb] at e1;cases e1
  ·exact missH_nil e2 h (by omega) (by push_cast at h2;omega)
theorem missS_nil {u:Int}:∀{O:List Ord},missS M u O=[]→∀x∈O,missO M u x=[]
 |[],_,x,hx=>by cases hx
 |y::l,e,x,hx=>by
  unfold missS at e
  obtain⟨e1,e2⟩:=List.append_eq_nil_iff.1 e
  rcases List.mem_cons.1 hx with rfl|hx
  ·exact e1
  ·exact missS_nil e2 x hx
theorem counts_in {x:Ord} {h:Int} (e:countsB x h=true):x.2.2.2.1.1≤h∧h<x.2.2.2.1.2:=by
 unfold countsB insideB at e
 cases h1:decide (x.2.2.2.1.1≤h) with
 |false=>rw[h1] at e;cases e
 |true=>
  cases h2:decide (h<x.2.2.2.1.2) with
  |false=>rw[h1,h2] at e;cases e
  |true=>exact⟨of_decide_eq_true h1,of_decide_eq_true h2⟩
theorem st_settle (hr:RegOk (tk,st,S,O,M,X,Q)) (hv:tk≤vs.getD 0 0∧vs.getD 0 0≤999999999) (hc:ckSett st O M X Q vs=0):RegOk (vs.getD 0 0,vs.getD 1 0,S,O,M,X,Q):=by
 unfold ckSett at hc
 cases h1:(bif decide (vs.getD 1 0≤st) then true else decide (vs.getD 0 0<vs.getD 1 0)) with
 |true=>rw[h1] at hc;cases hc
 |false=>
  rw[h1,cond_false] at hc
  have h2:=bn1 h1
  have d1:=of_decide_eq_false h2.1
  have d2:=of_decide_eq_false h2.2
  have h3:=of_decide_eq_false (bn1 (bif_zero (by decide) hc)).1
  have h4:missS M (vs.getD 1 0) O=[]:=List.eq_nil_of_length_eq_zero (by omega)
  have g0:=hr.tk
  have g1:=hr.st
  dsimp only at g0 g1
  refine⟨by dsimp only;omega,by dsimp only;omega,hr.nS,hr.nO,hr.nM,hr.nX,hr.nQ,hr.sta,hr.ord,hr.met,hr.out,hr.per,fun x hx hh e1 e2=> ?_⟩
  have hi:=counts_in e1
  have h5:=missH_nil (missS_nil h4 x hx) hh hi.1 (by omega)
  have e2:hh<vs.getD 1 0:=e2
  rw[e1,decide_eq_true e2,Bool.true_and,Bool.true_and] at h5
  have:=of_decide_eq_false h5
  show 0≤meterS M x.1 hh
  omega
end
theorem step_ok {h:Hist} {e:Ev} (hh:HistOk h) (hm:(nowS h.2.2).2.2.2.2.1.length<10000) (hc:checkE e=0) (ha:accS h e=0) (hk:(e.2.1.toList==wUndo.toList)=false):RegOk (stepS (nowS h.2.2) e):=by
 obtain⟨n,k,ns,vs,tx⟩:=e
 have hE:=checkE_zero hc
 have eK:=accS_eq (h:=h) (n:=n) (k:=k) (ns:=ns) (vs:=vs) (tx:=tx) hk
 rw[ha] at eK
 obtain⟨_,z2,z3,z4,z5⟩:=accK_zero eK.symm
 have hr:=now_ok hh
 clear eK ha z4
 generalize nowS h.2.2=r at*
 obtain⟨tk,st,S,O,M,X,Q⟩:=r
 have z2:¬vs.getD 0 0<tk:=z2
 have hm:M.length<10000:=hm
 have hn:ns.length=(kindD k).1.length:=hE.nn
 have hvl:(vs.length:Int)=(kindD k).2.1:=hE.nv
 have hx:∀i,i<vs.length→(0≤vs.getD i 0∧vs.getD i 0≤999999999):=fun i hi=>hE.val _ (getD_mem hi)
 have hV:EvV (n,k,ns,vs,tx):=hE.val
 have hkd:=kind_cases hE.kind
 dsimp only at hkd hk
 clear hE hc hh
 rcases hkd with h|h|h|h|h|h|h|h|h|h|h<;>subst h
 ·exact absurd hk (by rw[show(wUndo.toList==wUndo.toList)=true from by kernel_rfl];decide)
 ·simp only[kd_station,List.length_cons,List.length_nil] at hn hvl z3
  simp only[ckS,kd_station] at z5
  obtain⟨k0,z3⟩:=unk_cons z3
  have e:stepS (tk,st,S,O,M,X,Q) (n,wStation,ns,vs,tx)=(vs.getD 0 0,(doAddS (tk,st,S,O,M,X,Q) (n,wStation,ns,vs,tx)).2):=by unfold stepS doS;simp only[kd_station]
  rw[e]
  have hv:tk≤vs.getD 0 0∧vs.getD 0 0≤999999999:=⟨by omega,(hx 0 (by omega)).2⟩
  exact st_station hr hv z5
 ·simp only[kd_price,List.length_cons,List.length_nil] at hn hvl z3
  simp only[ckS,kd_price] at z5
  obtain⟨k0,z3⟩:=unk_cons z3
  have e:stepS (tk,st,S,O,M,X,Q) (n,wPrice,ns,vs,tx)=(vs.getD 0 0,(doSetP (tk,st,S,O,M,X,Q) (n,wPrice,ns,vs,tx)).2):=by unfold stepS doS;simp only[kd_price]
  rw[e]
  have hv:tk≤vs.getD 0 0∧vs.getD 0 0≤999999999:=⟨by omega,(hx 0 (by omega)).2⟩
  exact st_price hr hv z5 (has0 (k0 rfl))
 ·simp only[kd_order,List.length_cons,List.length_nil] at hn hvl z3
  simp only[ckS,kd_order] at z5
  obtain⟨k0,z3⟩:=unk_cons z3
  obtain⟨k1,z3⟩:=unk_cons z3
  obtain⟨k2,z3⟩:=unk_cons z3
  have e:stepS (tk,st,S,O,M,X,Q) (n,wOrder,ns,vs,tx)=(vs.getD 0 0,(doAddO (tk,st,S,O,M,X,Q) (n,wOrder,ns,vs,tx)).2):=by unfold stepS doS;simp only[kd_order]
  rw[e]
  have hv:tk≤vs.getD 0 0∧vs.getD 0 0≤999999999:=⟨by omega,(hx 0 (by omega)).2⟩
  exact st_order hr hv rfl hV (by omega) (has0 (k1 rfl)) (has0 (k2 rfl)) z5
 ·simp only[kd_meter,List.length_cons,List.length_nil] at hn hvl z3
  simp only[ckS,kd_meter] at z5
  obtain⟨k0,z3⟩:=unk_cons z3
  have e:stepS (tk,st,S,O,M,X,Q) (n,wMeter,ns,vs,tx)=(vs.getD 0 0,(doAddM (tk,st,S,O,M,X,Q) (n,wMeter,ns,vs,tx)).2):=by unfold stepS doS;simp only[kd_meter]
  rw[e]
  have hv:tk≤vs.getD 0 0∧vs.getD 0 0≤999999999:=⟨by omega,(hx 0 (by omega)).2⟩
  exact st_meter hr hv hm (has1 (k0 rfl)) (fun i hi=>hx i (by omega)) z5
 ·simp only[kd_trip,List.length_cons,List.length_nil] at hn hvl z3
  simp only[ckS,kd_trip] at z5
  obtain⟨k0,z3⟩:=unk_cons z3
  have e:stepS (tk,st,S,O,M,X,Q) (n,wTrip,ns,vs,tx)=(vs.getD 0 0,(doTrip (tk,st,S,O,M,X,Q) (n,wTrip,ns,vs,tx)).2):=by unfold stepS doS;simp only[kd_trip]
  rw[e]
  have hv:tk≤vs.getD 0 0∧vs.getD 0 0≤999999999:=⟨by omega,(hx 0 (by omega)).2⟩
  exact st_trip hr hv (has1 (k0 rfl)) z5
 ·simp only[kd_outage,List.length_cons,List.length_nil] at hn hvl z3
  simp only[ckS,kd_outage] at z5
  obtain⟨k0,z3⟩:=unk_cons z3
  obtain⟨k1,z3⟩:=unk_cons z3
  have e:stepS (tk,st,S,O,M,X,Q) (n,wOutage,ns,vs,tx)=(vs.getD 0 0,(doAddX (tk,st,S,O,M,X,Q) (n,wOutage,ns,vs,tx)).2):=by unfold stepS doS;simp only[kd_outage]
  rw[e]
  have hv:tk≤vs.getD 0 0∧vs.getD 0 0≤999999999:=⟨by omega,(hx 0 (by omega)).2⟩
  exact st_outage hr hv hV (by omega) (has0 (k1 rfl)) z5
 ·simp only[kd_restore,List.length_cons,List.length_nil] at hn hvl z3
  simp only[ckS,kd_restore] at z5
  obtain⟨k0,z3⟩:=unk_cons z3
  have e:stepS (tk,st,S,O,M,X,Q) (n,wRestore,ns,vs,tx)=(vs.getD 0 0,(doRest (tk,st,S,O,M,X,Q) (n,wRestore,ns,vs,tx)).2):=by unfold stepS doS;simp only[kd_restore]
  rw[e]
  have hv:tk≤vs.getD 0 0∧vs.getD 0 0≤999999999:=⟨by omega,(hx 0 (by omega)).2⟩
  exact st_restore hr hv (has2 (k0 rfl)) z5
 ·simp only[kd_permit,List.length_cons,List.length_nil] at hn hvl z3
  simp only[ckS,kd_permit] at z5
  obtain⟨k0,z3⟩:=unk_cons z3
  obtain⟨k1,z3⟩:=unk_cons z3
  have e:stepS (tk,st,S,O,M,X,Q) (n,wPermit,ns,vs,tx)=(vs.getD 0 0,(doAddP (tk,st,S,O,M,X,Q) (n,wPermit,ns,vs,tx)).2):=by unfold stepS doS;simp only[kd_permit]
  rw[e]
  have hv:tk≤vs.getD 0 0∧vs.getD 0 0≤999999999:=⟨by omega,(hx 0 (by omega)).2⟩
  exact st_permit hr hv (has2 (k1 rfl)) z5
 ·simp only[kd_return,List.length_cons,List.length_nil] at hn hvl z3
  simp only[ckS,kd_return] at z5
  obtain⟨k0,z3⟩:=unk_cons z3
  have e:stepS (tk,st,S,O,M,X,Q) (n,wReturn,ns,vs,tx)=(vs.getD 0 0,(doRet (tk,st,S,O,M,X,Q) (n,wReturn,ns,vs,tx)).2):=by unfold stepS doS;simp only[kd_return]
  rw[e]
  have hv:tk≤vs.getD 0 0∧vs.getD 0 0≤999999999:=⟨by omega,(hx 0 (by omega)).2⟩
  exact st_return hr hv (has3 (k0 rfl))
 ·simp only[kd_settle,List.length_cons,List.length_nil] at hn hvl z3
  simp only[ckS,kd_settle] at z5
  have e:stepS (tk,st,S,O,M,X,Q) (n,wSettle,ns,vs,tx)=(vs.getD 0 0,(doSett (tk,st,S,O,M,X,Q) (n,wSettle,ns,vs,tx)).2):=by unfold stepS doS;simp only[kd_settle]
  rw[e]
  have hv:tk≤vs.getD 0 0∧vs.getD 0 0≤999999999:=⟨by omega,(hx 0 (by omega)).2⟩
  exact st_settle hr hv z5
theorem doS_met {r:Reg} {e:Ev}:(doS r e).2.2.2.2.1.length≤r.2.2.2.2.1.length+1:=by
 obtain⟨tk,st,S,O,M,X,Q⟩:=r
 obtain⟨n,k,ns,vs,tx⟩:=e
 unfold doS
 split<;>first|exact Nat.le_succ _|(show(M++[_]).length≤M.length+1;simp)
structure HistI (h:Hist):Prop where
 ok:HistOk h
 met:∀r∈h.2.2,r.2.2.2.2.1.length≤h.1.length
theorem now_met {h:Hist} (hi:HistI h):(nowS h.2.2).2.2.2.2.1.length≤h.1.length:=by
 unfold nowS
 by_cases h0:0<h.2.2.length
 ·exact hi.met _ (getD_mem (by omega))
 ·have:h.2.2=[]:=List.eq_nil_of_length_eq_zero (by omega)
  rw[this];exact Nat.zero_le _
theorem add_zero {h:Hist} {e:Ev} (ha:addE h e=0):checkE e=0∧accS h e=0:=by
 unfold addE at ha
 by_cases hc:checkE e≠0
 ·rw[if_pos hc] at ha;exact absurd ha hc
 ·rw[if_neg hc] at ha;exact⟨Decidable.of_not_not hc,ha⟩
theorem add_ok {h:Hist} {e:Ev} (hi:HistI h) (hl:h.1.length<1000) (ha:addE h e=0):HistI (addH h e):=by
 obtain⟨hc,hacc⟩:=add_zero ha
 obtain⟨E,C,G⟩:=h
 obtain⟨n1,n2,n3,hr⟩:=hi.ok
 have hm:=now_met hi
 dsimp only at n1 n2 n3 hr hl hm
 cases hk:e.2.1.toList==wUndo.toList with
 |true=>
  unfold addH
  rw[hk,cond_true]
  refine⟨⟨by simp;omega,by simp;omega,by simp;omega,fun r hx=>hr r (List.mem_of_mem_take hx)⟩,fun r hx=> ?_⟩
  have:r.2.2.2.2.1.length≤E.length:=hi.met r (List.mem_of_mem_take hx)
  simp only[List.length_append,List.length_singleton]
  omega
 | false =>
  have hs:=step_ok hi.ok (Nat.lt_of_le_of_lt hm (by omega)) hc hacc hk
  unfold addH
  rw[hk,cond_false]
  refine⟨⟨by simp;omega,by simp;omega,by simp;omega,fun r hx=> ?_⟩,fun r hx=> ?_⟩
  ·rcases mem_snoc hx with h|rfl
   ·exact hr r h
   ·exact hs
  ·rcases mem_snoc hx with h|rfl
   ·have:r.2.2.2.2.1.length≤E.length:=hi.met r h
    simp only[List.length_append,List.length_singleton]
    omega
   ·have:=doS_met (r:=nowS G) (e:=e)
    simp only[List.length_append,List.length_singleton]
    show(doS (nowS G) e).2.2.2.2.1.length≤_
    omega
theorem addH_len {h:Hist} {e:Ev}:(addH h e).1.length=h.1.length+1:=by
 unfold addH
 cases e.2.1.toList==wUndo.toList<;>simp
def hist0:Hist:=([],[],[])
theorem hist0_ok:HistI hist0:=⟨⟨by decide,by decide,rfl,fun _ h=>(by cases h)⟩,fun _ h=>(by cases h)⟩
def runS:Hist→List Ev→Hist×Int×Int
 |h,[]=>(h,0,0)
 |h,e::l=>if addE h e=0 then runS (addH h e) l else(h,h.1.length+1,addE h e)
def replayS (l:List Ev):Hist×Int×Int:=if 1000<l.length then(hist0,0,5) else runS hist0 l
def regP (l:List Ev):Reg:=if(replayS l).2.2=0 then nowS (replayS l).1.2.2 else reg0
def lOk (l:List Ev):Prop:=l.length≤1000000∧∀e∈l,evSz e
abbrev zReg:List SC:=[.int .i64 0, .int .i64 0, .val (.slice none 0 0), .val (.slice none 0 0), .val (.slice none 0 0), .val (.slice none 0 0), .val (.slice none 0 0)]
abbrev W94:=W93
end Go.Proofs.YtcibbcfiemeoiaaGreatDoor

/- Contracts of the functions that the law reaches: part of the proof. -/
import Derived.Test.YtcibbcfiemeoiaaGreatDoorProg
import Derived.Test.YtcibbcfiemeoiaaGreatDoorSxC
import Derived.Test.YtcibbcfiemeoiaaGreatDoorShelfA
import Derived.Test.YtcibbcfiemeoiaaGreatDoorLayA
import Derived.KernelRfl
import Derived.Laws.RangeAny
import Derived.Lib.Strings
set_option linter.unusedSimpArgs false
set_option linter.unusedVariables false
set_option maxRecDepth 20000
namespace Go.Proofs.YtcibbcfiemeoiaaGreatDoor
open Go.Sx
set_option maxHeartbeats 20000000
abbrev I:Bool×Sch:=(false, .int .i64)
abbrev Bo:Bool×Sch:=(false, .bool)
abbrev aI:AK:= .val false (.int .i64)
abbrev aB:AK:= .val false .bool
abbrev aS:AK:= .val false .str
abbrev tS:Bool×Sch:=(false, .str)
abbrev sI:Sch:= .int .i64
abbrev W0 [Sx.Dr]:GW Tryz.prog:=⟨[], .nil _⟩
theorem mixed:Tryz.prog.follows .mixedOrders=true:=by kernel_rfl
theorem okW [Sx.Dr] {f:FuncId} {c:Con} (W:GW Tryz.prog) (fn:Func) (ann:ATup c.args→Nat→Option Ann) (h:∀x:ATup c.args,wpF Tryz.prog W.g (ann x) fn c x) (h1:Tryz.prog.funcs[f]? =some fn:=by kernel_rfl) (h2:Jb9 fn c=true:=by kernel_rfl):Ok Tryz.prog f c:=Vy mixed W.ok h1 h2 ann h
theorem J1g [Sx.Dr] {f:FuncId} {c:Con} {lib:FuncId→Option Func} (W:GW Tryz.prog) (fn:Func) (hl:∀f fn,lib f=some fn→Tryz.prog.funcs[f]? =some fn) (ann:ATup c.args→Nat→Option Ann) (annF:ATup c.args→FuncId→Nat→Option Ann) (h:∀x:ATup c.args,wpFG Tryz.prog W.g (ann x) (annF x) lib fn c x) (h1:Tryz.prog.funcs[f]? =some fn:=by kernel_rfl) (h2:Jb9 fn c=true:=by kernel_rfl):Ok Tryz.prog f c:=Jfd mixed W.ok h1 h2 hl ann annF h
abbrev na {α:Type}:α→Nat→Option Ann:=fun _ _=>none
abbrev Y4 (A:Ann):Nat→Option Ann:=fun k=>if k=0 then some A else none
def Kyt:Con:={args:=[aB,aI],ress:=[I],owns:=[],pre:=fun _=>[],spec:=fun(b,e,_)=>(bif b then e else 0,())}
theorem Ub4 [Sx.Dr]:Ok Tryz.prog 71 Kyt:=okW W0 Tryz.f71 na fun xx=>by
 obtain⟨(b:Bool),(e:Int),_⟩:=xx
 refine(by kernel_rfl:(Br b (e=bif b then e else 0) (0=bif b then e else 0))=_).mp ?_
 delta Br
 cases b<;>simp
abbrev W1 [Sx.Dr]:=W0.add Ub4
abbrev W2 [Sx.Dr]:=W1
abbrev W3 [Sx.Dr]:=W2
def Kr (n lo hi:Int):Int:=bif decide (n<lo)||decide (hi<n) then 3 else 0
def J7x:Con:={args:=[aI,aI,aI],ress:=[I],owns:=[],pre:=fun _=>[],spec:=fun(n,lo,hi,_)=>(Kr n lo hi,())}
theorem Kxp [Sx.Dr]:Ok Tryz.prog 133 J7x:=okW W3 Tryz.f133 na fun xx=>by
 obtain⟨(n:Int),(lo:Int),(hi:Int),_⟩:=xx
 refine(by kernel_rfl:((bif bif decide (n<lo) then true else decide (hi<n) then 3 else 0)=Kr n lo hi)=_).mp ?_
 unfold Kr;cases decide (n<lo)<;>rfl
abbrev W4 [Sx.Dr]:=W3.add Kxp
def Xw (n lo hi:Int):Bool:=decide (n<lo)||decide (hi<n)
def J2f:Con:={args:=[aI,aI,aI],ress:=[Bo],owns:=[],pre:=fun _=>[],spec:=fun(n,lo,hi,_)=>(Xw n lo hi,())}
theorem Ucs [Sx.Dr]:Ok Tryz.prog 20 J2f:=okW W4 Tryz.f20 na fun xx=>by
 obtain⟨(n:Int),(lo:Int),(hi:Int),_⟩:=xx
 refine(by kernel_rfl:((bif decide (n<lo) then true else decide (hi<n))=Xw n lo hi)=_).mp ?_
 unfold Xw;cases decide (n<lo)<;>rfl
abbrev W5 [Sx.Dr]:=W4.add Ucs
def Kyu:Con:={args:=[aI],ress:=[I],owns:=[],pre:=fun _=>[],spec:=fun(n,_)=>(Kr n 0 999999999,())}
def Z80 (a:Int):=Kr a 0 999999999
def Ks5 (a:Int):=Z80 a=Z80 a
theorem Ub5 [Sx.Dr]:Ok Tryz.prog 70 Kyu:=okW W5 Tryz.f70 na fun xx=>by
 obtain⟨(n:Int),_⟩:=xx
 refine(by kernel_rfl:(Ks5 n)=_).mp ?_
 delta Z80 Ks5
 rfl
abbrev W6 [Sx.Dr]:=W5.add Ub5
def Jg:List Int→Int
 |[]=>0
 |x::l=>if x=0 then Jg l else x
theorem Jom {l:List Int} {k:Nat} (h:k<l.length):Jg (l.drop k)=if l.getD k 0=0 then Jg (l.drop (k+1)) else l.getD k 0:=by
 rw[List.drop_eq_getElem_cons h]
 simp[Jg,List.getD_eq_getElem?_getD,h]
def Kjd:Con:={args:=[.val false (.list 26 sI)],ress:=[I],owns:=[],pre:=fun(l,_)=>[l.length≤1000000],spec:=fun(l,_)=>(Jg l,())}
abbrev J2u (l:List Int):Ann:={X:=Nat,σ:=fun k=>⟨1,[(5, .one (.sl 0)),(6, .one (.int .i64 l.length)),(7, .one (.int .i64 k))],[(0, .imm 26 sI l)]⟩,inv:=fun k=>k≤l.length∧Jg l=Jg (l.drop k),mu:=fun k=>l.length-k}
def Z17 (a:Li) (b:Nat):=List.getD a b 0
def Z20 (a:Nat):=Iw (Nc a+1)
def Z61 (a:Li):=List.length a≤1000000
def Z91 (a:Nat) (b:Li):=Tw (Bd (Nc a) (Ln b))
def Vm (a b:Nat):=Nc a+1=Nc b
def J0f (a:Nat) (b:Li):=decide (Nc a<Ln b)
def Jz9 (a:Li) (b c:Nat):=List.length a-b<List.length a-c
def Ks3 (a:Nat) (b:Li):=a≤List.length b∧Jg b=Jg (List.drop a b)
theorem Ub6 [Sx.Dr]:Ok Tryz.prog 69 Kjd:=okW W6 Tryz.f69 (fun xx=>Y4 (J2u xx.1)) fun xx=>by
 obtain⟨(l:List Int),_⟩:=xx
 refine(by kernel_rfl:(Z61 l→∃(x:Nat),Si (Ln l) (0=Nc x∧l=l)∧Ks3 x l∧∀(x:Nat),Ks3 x l→Br (J0f x l) (Z91 x l∧Br (Z17 l x !=0) (Z17 l x=Jg l) (Z20 x∧∃(y:Nat),Si (Ln l) (Vm x y∧l=l)∧Ks3 y l∧Jz9 l y x)) (0=Jg l))=_).mp ?_
 delta Z17 Z20 Z61 Z91 Vm J0f Jz9 Ks3 Br Iw Bd Tw Si Ln Nc
 intro hb
 refine⟨(0:Nat),⟨rfl,rfl,rfl⟩,⟨Nat.zero_le _,rfl⟩,fun(k:Nat) hk=>⟨fun h=> ?_,fun h=> ?_⟩⟩
 ·have hlt:k<l.length:=by simpa using h
  have hd:=Jom hlt
  refine⟨by omega,fun h1=> ?_,fun h1=>⟨by omega,(k+1:Nat),⟨rfl,by simp,rfl⟩,⟨by omega, ?_⟩,by omega⟩⟩
  ·have h2:¬l.getD k 0=0:=by simpa using h1
   rw[hk.2,hd,if_neg h2]
  ·have h2:l.getD k 0=0:=by simpa using h1
   rw[hk.2,hd,if_pos h2]
 ·have hlt:¬k<l.length:=by simpa using h
  have:k=l.length:=by omega
  rw[hk.2,this,List.drop_length];rfl
abbrev W7 [Sx.Dr]:=W6.add Ub6
abbrev W8 [Sx.Dr]:=W7
abbrev W9 [Sx.Dr]:=W8
def okB (f:Bool) (c:Int):Bool:=bif (bif decide ((65:Int)≤c) then decide (c≤90) else false) then true else bif (bif decide ((97:Int)≤c) then decide (c≤122) else false) then true else bif f then false else bif decide (c<48) then c==95 else bif decide (57<c) then c==95 else true
def okL (f:Bool):List UInt8→Bool
 |[]=>true
 |b::r=>okB f (b.toNat:Int)&&okL false r
def Ys (s:ByteArray):Bool:=okL true s.data.toList&&(decide (0<s.size)&&decide ((s.size:Int)≤24))
theorem Jvp (f:Bool) (c:Int):(bif !bif (bif decide ((65:Int)≤c) then decide (c≤90) else false) then true else bif decide ((97:Int)≤c) then decide (c≤122) else false then bif f then true else bif (bif decide (c<48) then true else decide (57<c)) then c !=95 else false else false)= !okB f c:=by
 unfold okB bne
 cases decide ((65:Int)≤c)<;>cases decide (c≤90)<;>cases decide ((97:Int)≤c)<;>cases decide (c≤122)<;>cases f<;>cases decide (c<48)<;>cases decide (57<c)<;>cases c==95<;>rfl
theorem Jp3 {f:Bool} {c:Int} (h:128≤c):okB f c=false:=by
 unfold okB
 have h1:decide (c≤90)=false:=decide_eq_false (by omega)
 have h2:decide (c≤122)=false:=decide_eq_false (by omega)
 have h3:decide (c<48)=false:=decide_eq_false (by omega)
 have h4:decide ((57:Int)<c)=true:=decide_eq_true (by omega)
 have h5:(c==95)=false:=beq_eq_false_iff_ne.2 (by omega)
 rw[h1,h2,h3,h4,h5]
 cases decide ((65:Int)≤c)<;>cases decide ((97:Int)≤c)<;>cases f<;>rfl
theorem Jd2 {s:ByteArray} {k:Nat} (h:k<s.size) (ha:(s[k]'h).toNat<128):Yg s k=((s[k]'h).toNat:Int)∧Jg4 s k=1:=by
 unfold Yg Jg4
 rw[decode_ascii s k h ha]
 exact⟨rfl,rfl⟩
theorem Jli {s:ByteArray} {k:Nat} (h:k<s.size) (ha:128≤(s[k]'h).toNat):128≤Yg s k:=by
 have:=(decode_high s k h ha).1
 unfold Yg
 omega
theorem Fd {s:ByteArray} {k:Nat} (h:k<s.size):s.data.toList.drop k=(s[k]'h)::s.data.toList.drop (k+1):=by
 rw[List.drop_eq_getElem_cons (by simpa using h)]
 congr 1
theorem Jjs (s:ByteArray):(!(s.toList==(⟨⟨[]⟩⟩:ByteArray).toList))=decide (0<s.size):=by
 rw[Lib.toList_data,Lib.toList_data]
 have e:s.data.toList.length=s.size:=by simp
 cases h:s.data.toList with
 |nil=>rw[h] at e;simp at e;rw[←e];rfl
 |cons a l=>rw[h] at e;simp at e;rw[←e];simp
theorem Jdc (k:Nat):(((k:Nat):Int)==0)=(k==0):=by
 rw[Bool.eq_iff_iff,beq_iff_eq,beq_iff_eq];omega
def Kiw:Con:={args:=[aS],ress:=[Bo],owns:=[],pre:=fun(s,_)=>[s.size≤1000000],spec:=fun(s,_)=>(Ys s,())}
abbrev J80 (s:ByteArray):Ann:={X:=Nat,σ:=fun k=>⟨1,[(0, .one (.str s)),(7, .one (.sl 0))],[(0, .siter s k)]⟩,inv:=fun k=>k≤s.size∧okL true s.data.toList=okL (k==0) (s.data.toList.drop k),mu:=fun k=>s.size-k}
def Z11 (a:Bt):=a.data.toList
def Kr9 (a:Bt) (b:Nat):=bif decide (Yg a b<48) then true else decide (57<Yg a b)
def K56 (a:Bt):=Sf true ((bif !Lb a B0 then decide (Nc (ByteArray.size a)≤24) else false)=Ys a)
def Kq0 (a:Nat) (b:Bt):=a≤ByteArray.size b∧okL true (Z11 b)=okL (a==0) (List.drop a (Z11 b))
theorem Kxm [Sx.Dr]:Ok Tryz.prog 136 Kiw:=J1g W9 Tryz.f136 (U6 (l:=([]:List (Nat×Func))) (by simp)) (fun xx=>Y4 (J80 xx.1)) (fun xx=>fun _=>na ()) fun xx=>by
 obtain⟨(s:ByteArray),_⟩:=xx
 refine(by kernel_rfl:(ByteArray.size s≤1000000→∃(x:Nat),Sf s (Sf s (0=x))∧Kq0 x s∧∀(x:Nat),Kq0 x s→(x<ByteArray.size s→Br true (Br (bif !bif bif decide (65≤Yg s x) then decide (Yg s x≤90) else false then true else bif decide (97≤Yg s x) then decide (Yg s x≤122) else false then bif Nc x==0 then true else bif Kr9 s x then Yg s x !=95 else false else false) (Sf true (false=Ys s)) (∃(y:Nat),Sf s (Sf s (x+Jg4 s x=y))∧Kq0 y s∧ByteArray.size s-y<ByteArray.size s-x)) (K56 s))∧((x<ByteArray.size s→False)→Br false False (K56 s)))=_).mp ?_
 delta Z11 Kr9 K56 Kq0 Br Sf Nc B0 Lb
 intro hb
 refine⟨(0:Nat),⟨rfl,rfl,rfl⟩,⟨Nat.zero_le _,by simp⟩,fun(k:Nat) hk=>⟨fun h=>⟨fun _=>⟨fun h1=>⟨rfl, ?_⟩,fun h1=> ?_⟩,fun h=>(by cases h)⟩,fun h=> ?_⟩⟩
 ·rw[Jvp,Jdc] at h1
  have h2:okB (k==0) (Yg s k)=false:=by simpa using h1
  unfold Ys
  have h3:okL true s.data.toList=false:=by
   rw[hk.2,Fd h,okL]
   by_cases ha:(s[k]'h).toNat<128
   ·rw[←(Jd2 h ha).1,h2];rfl
   ·rw[Jp3 (by omega)];rfl
  rw[h3];rfl
 ·rw[Jvp,Jdc] at h1
  have h2:okB (k==0) (Yg s k)=true:=by simpa using h1
  by_cases ha:(s[k]'h).toNat<128
  ·obtain⟨r1,r2⟩:=Jd2 h ha
   refine⟨(k+1:Nat),⟨rfl,rfl,by rw[r2]⟩,⟨by omega, ?_⟩,by omega⟩
   rw[hk.2,Fd h,okL,←r1,h2]
   rfl
  ·have:=Jli h (by omega)
   rw[Jp3 this] at h2
   cases h2
 ·have e:k=s.size:=Nat.le_antisymm hk.1 (Nat.le_of_not_lt h)
  refine⟨fun h=>(by cases h),fun _=>⟨rfl, ?_⟩⟩
  rw[e,List.drop_eq_nil_of_le (by simp)] at hk
  unfold Ys
  rw[hk.2,Jjs]
  cases decide (0<s.size)<;>cases decide ((s.size:Int)≤24)<;>rfl
abbrev W10 [Sx.Dr]:=W9.add Kxm
abbrev aU:AK:= .val false (.int .u8)
def Jv1 (c:Int):Bool:=bif (bif decide ((65:Int)≤c) then decide (c≤90) else false) then true else bif decide ((97:Int)≤c) then decide (c≤122) else false
def Kic (c:Int):Bool:=bif decide ((48:Int)≤c) then decide (c≤57) else false
def Udb:Con:={args:=[aU],ress:=[Bo],owns:=[],pre:=fun _=>[],spec:=fun(c,_)=>(Jv1 c,())}
theorem Kv9 [Sx.Dr]:Ok Tryz.prog 190 Udb:=okW W10 Tryz.f190 na fun xx=>by
 obtain⟨(c:Int),_⟩:=xx
 refine(by kernel_rfl:((bif bif decide (65≤c) then decide (c≤90) else false then true else bif decide (97≤c) then decide (c≤122) else false)=Jv1 c)=_).mp ?_
 rfl
abbrev W11 [Sx.Dr]:=W10.add Kv9
def Ude:Con:={args:=[aU],ress:=[Bo],owns:=[],pre:=fun _=>[],spec:=fun(c,_)=>(Kic c,())}
theorem Kv8 [Sx.Dr]:Ok Tryz.prog 191 Ude:=okW W11 Tryz.f191 na fun xx=>by
 obtain⟨(c:Int),_⟩:=xx
 refine(by kernel_rfl:((bif decide (48≤c) then decide (c≤57) else false)=Kic c)=_).mp ?_
 rfl
abbrev W12 [Sx.Dr]:=W11.add Kv8
theorem J62 (c:Int):okB true c=Jv1 c:=by
 unfold okB Jv1
 cases decide ((65:Int)≤c)<;>cases decide (c≤90)<;>cases decide ((97:Int)≤c)<;>cases decide (c≤122)<;>rfl
theorem J61 (c:Int):(bif bif !Jv1 c then !Kic c else false then c !=95 else false)= !okB false c:=by
 unfold okB Jv1 Kic bne
 have e1:decide (c<48)= !decide ((48:Int)≤c):=by rw[Bool.eq_iff_iff];simp
 have e2:decide ((57:Int)<c)= !decide (c≤57):=by rw[Bool.eq_iff_iff];simp
 rw[e1,e2]
 cases decide ((65:Int)≤c)<;>cases decide (c≤90)<;>cases decide ((97:Int)≤c)<;>cases decide (c≤122)<;>cases decide ((48:Int)≤c)<;>cases decide (c≤57)<;>cases c==95<;>rfl
theorem Lm {s:ByteArray} {k:Nat} (h:k<s.size):s.data.toList.drop k=s.data.toList.getD k 0::s.data.toList.drop (k+1):=by
 have h':k<s.data.toList.length:=by simpa using h
 rw[List.drop_eq_getElem_cons h']
 congr 1
 rw[List.getD_eq_getElem?_getD,List.getElem?_eq_getElem h'];rfl
abbrev J2s (s:ByteArray):Ann:={X:=Nat,σ:=fun k=>⟨0,[(0, .one (.str s)),(3, .one (.int .i64 k))],[]⟩,inv:=fun k=>0<k∧k≤s.size∧Ys s=okL false (s.data.toList.drop k),mu:=fun k=>s.size-k}
def J9y (a:Bt) (b:Nat):=Nc (UInt8.toNat (List.getD (Z11 a) b 0))
def Kmx (a:Bt):=Nc (UInt8.toNat (List.getD (Z11 a) 0 0))
def K7g (a:Bt) (b:Nat):= !Jv1 (J9y a b)
def K7a (a:Bt):=bif Nc (ByteArray.size a)==0 then true else decide (24<Nc (ByteArray.size a))
def Kra (a:Nat) (b:Bt):=0<a∧a≤ByteArray.size b∧Ys b=okL false (List.drop a (Z11 b))
def K18 (a:Bt) (b:Nat):=bif K7g a b then !Kic (J9y a b) else false
theorem Kx7 [Sx.Dr]:Ok Tryz.prog 111 Kiw:=okW W12 Tryz.f111 (fun xx=>Y4 (J2s xx.1)) fun xx=>by
 obtain⟨(s:ByteArray),_⟩:=xx
 refine(by kernel_rfl:(ByteArray.size s≤1000000→(K7a s=false→Bd 0 (Nc (ByteArray.size s)))∧Br (bif K7a s then true else !Jv1 (Kmx s)) (false=Ys s) (∃(x:Nat),Sf s (1=Nc x)∧Kra x s∧∀(x:Nat),Kra x s→Br (decide (Nc x<Nc (ByteArray.size s))) ((Bd (Nc x) (Nc (ByteArray.size s))∧(K7g s x=true→Bd (Nc x) (Nc (ByteArray.size s)))∧(K18 s x=true→Bd (Nc x) (Nc (ByteArray.size s))))∧Br (bif K18 s x then J9y s x !=95 else false) (false=Ys s) (Z20 x∧∃(y:Nat),Sf s (Vm x y)∧Kra y s∧ByteArray.size s-y<ByteArray.size s-x)) (true=Ys s)))=_).mp ?_
 delta Z11 Z20 Vm J9y Kmx K7g K7a Kra K18 Br Iw Bd Sf Nc
 intro hb
 have e0:∀h:0<s.size,okL true s.data.toList=(Jv1 ((s.data.toList.getD 0 0).toNat:Int)&&okL false (s.data.toList.drop 1)):=fun h=>by
  have:=Lm h
  rw[List.drop_zero] at this
  rw[this,okL,J62]
  simp
 refine⟨fun h=> ?_,fun h=> ?_,fun h=> ?_⟩
 ·have h1:((s.size:Int)==0)=false:=by revert h;cases((s.size:Int)==0)<;>simp
  have:=beq_eq_false_iff_ne.1 h1
  exact⟨Int.le_refl _,by omega⟩
 ·unfold Ys
  by_cases h0:0<s.size
  ·rw[e0 h0]
   have h1:((s.size:Int)==0)=false:=beq_eq_false_iff_ne.2 (by omega)
   rw[h1] at h
   by_cases h2:(s.size:Int)≤24
   ·have h3:decide ((24:Int)<s.size)=false:=decide_eq_false (by omega)
    rw[h3] at h
    have h4:Jv1 ((s.data.toList.getD 0 0).toNat:Int)=false:=by simpa using h
    rw[h4];rfl
   ·rw[decide_eq_false h2];simp
  ·rw[decide_eq_false h0];simp
 ·have h1:((s.size:Int)==0)=false:=by revert h;cases((s.size:Int)==0)<;>simp
  rw[h1] at h
  have h2:decide ((24:Int)<s.size)=false:=by revert h;cases decide ((24:Int)<s.size)<;>simp
  rw[h2] at h
  have h3:Jv1 ((s.data.toList.getD 0 0).toNat:Int)=true:=by simpa using h
  have h0:0<s.size:=by have:=beq_eq_false_iff_ne.1 h1;omega
  have h24:(s.size:Int)≤24:=by have:=of_decide_eq_false h2;omega
  have en:Ys s=okL false (s.data.toList.drop 1):=by
   unfold Ys
   rw[e0 h0,h3,decide_eq_true h0,decide_eq_true h24];simp
  refine⟨(1:Nat),⟨rfl,rfl⟩,⟨by omega,by omega,en⟩,fun(k:Nat) hk=>⟨fun h=> ?_,fun h=> ?_⟩⟩
  ·have hlt:k<s.size:=by simpa using h
   rw[J61]
   refine⟨⟨by omega,fun _=>by omega,fun _=>by omega⟩,fun h1=> ?_,fun h1=>⟨by omega,(k+1:Nat),⟨rfl,by simp⟩,⟨by omega,by omega, ?_⟩,by omega⟩⟩
   ·have h2:okB false ((s.data.toList.getD k 0).toNat:Int)=false:=by simpa using h1
    rw[hk.2.2,Lm hlt,okL,h2];rfl
   ·have h2:okB false ((s.data.toList.getD k 0).toNat:Int)=true:=by simpa using h1
    rw[hk.2.2,Lm hlt,okL,h2];rfl
  ·have hlt:¬k<s.size:=by simpa using h
   have:k=s.size:=by omega
   rw[hk.2.2,this,List.drop_eq_nil_of_le (by simp)];rfl
abbrev W13 [Sx.Dr]:=W12.add Kx7
abbrev J05:Sch:= .prod sI .bool
abbrev Khn:Sch:= .prod (.list 251 J05) (.prod sI (.prod .fnc (.prod .fnc .fnc)))
abbrev K76:=List (Int×Bool)×Int×Option Nat×Option Nat×Option Nat
abbrev J1:ByteArray:=⟨⟨[117,110,100,111]⟩⟩
abbrev Jy:ByteArray:=⟨⟨[115,116,97,116,105,111,110]⟩⟩
abbrev Ue:ByteArray:=⟨⟨[112,114,105,99,101]⟩⟩
abbrev Ku:ByteArray:=⟨⟨[111,114,100,101,114]⟩⟩
abbrev Uc:ByteArray:=⟨⟨[109,101,116,101,114]⟩⟩
abbrev Vq:ByteArray:=⟨⟨[116,114,105,112]⟩⟩
abbrev Jz:ByteArray:=⟨⟨[111,117,116,97,103,101]⟩⟩
abbrev Jv:ByteArray:=⟨⟨[114,101,115,116,111,114,101]⟩⟩
abbrev Kh:ByteArray:=⟨⟨[112,101,114,109,105,116]⟩⟩
abbrev Kg:ByteArray:=⟨⟨[114,101,116,117,114,110]⟩⟩
abbrev Ji:ByteArray:=⟨⟨[115,101,116,116,108,101]⟩⟩
def L3:List (ByteArray×K76):=[(J1,[],0,none,none,none),
 (Jy,[(0,false)],2,some 148,some 149,some 150),
 (Ue,[(0,true)],2,some 152,some 153,some 150),
 (Ku,[(1,false),(0,true),(0,true)],4,some 154,some 155,some 156),
 (Uc,[(1,true)],4,some 157,some 158,some 156),
 (Vq,[(1,true)],1,some 159,some 160,some 156),
 (Jz,[(2,false),(0,true)],4,some 161,some 162,some 163),
 (Jv,[(2,true)],1,some 164,some 165,some 163),
 (Kh,[(3,false),(2,true)],1,some 166,some 167,some 168),
 (Kg,[(3,true)],1,some 169,some 170,some 168),
 (Ji,[],2,some 171,some 172,none)]
def Kjb:Con:={args:=[aI],ress:=[(true,J05)],owns:=[],pre:=fun _=>[],spec:=fun(t,_)=>((t,false),())}
theorem Kxb [Sx.Dr]:Ok Tryz.prog 147 Kjb:=okW W13 Tryz.f147 na fun xx=>by
 obtain⟨(t:Int),_⟩:=xx
 refine(by kernel_rfl:((t,false)=(t,false))=_).mp ?_
 trivial
abbrev W14 [Sx.Dr]:=W13.add Kxb
def Uc7:Con:={args:=[aI],ress:=[(true,J05)],owns:=[],pre:=fun _=>[],spec:=fun(t,_)=>((t,true),())}
theorem Kw7 [Sx.Dr]:Ok Tryz.prog 151 Uc7:=okW W14 Tryz.f151 na fun xx=>by
 obtain⟨(t:Int),_⟩:=xx
 refine(by kernel_rfl:((t,true)=(t,true))=_).mp ?_
 trivial
abbrev W15 [Sx.Dr]:=W14.add Kw7
def J5j:Jm7:={kT:=9,gk:=false,gv:=true,ks:= .str,vs:=Khn,l:=L3}
def Ktq:=[((0:Int),true)]
def Kf2:List (Int×Bool)×Int×Option Nat×Option Nat×Option Nat:=([],(0:Int),none,none,none)
def Kpa:=(∀(k k':ByteArray),some (Lb k k')=some (List.beq (ByteArray.toList k) (ByteArray.toList k')))∧∀(k:ByteArray),true=true
theorem Uba [Sx.Dr]:wpFM Tryz.prog W15.g (na ()) (fun _=>na ()) (Sx.look ([]:List (Nat×Func))) Tryz.f80 J5j:=by
 refine(by kernel_rfl:(Kpa∧Sf true ([(J1,Kf2),(Jy,[(0,false)],2,some 148,some 149,some 150),(Ue,Ktq,2,some 152,some 153,some 150),(Ku,(1,false)::(0,true)::Ktq,4,some 154,some 155,some 156),(Uc,[(1,true)],4,some 157,some 158,some 156),(Vq,[(1,true)],1,some 159,some 160,some 156),(Jz,(2,false)::Ktq,4,some 161,some 162,some 163),(Jv,[(2,true)],1,some 164,some 165,some 163),(Kh,[(3,false),(2,true)],1,some 166,some 167,some 168),(Kg,[(3,true)],1,some 169,some 170,some 168),(Ji,[],2,some 171,some 172,none)]=L3))=_).mp ?_
 delta Ktq Kf2 Kpa Sf Lb Uc Ku Jz Kh Ue Jv Kg Ji Jy Vq J1
 exact⟨⟨fun _ _=>rfl,fun _=>rfl⟩,rfl,rfl⟩
theorem Kux [Sx.Dr]:Ok Tryz.prog 80 (Jm7.con J5j):=J4y (Jlz mixed W15.ok (by kernel_rfl) (by kernel_rfl) (U6 (l:=([]:List (Nat×Func))) (by simp)) (na ()) (fun _=>na ()) Uba)
abbrev W16 [Sx.Dr]:=W15.add Kux
theorem Je {α:Type} {l:List α} {k:Nat} {d:α} (h:k<l.length):l.getD k d∈l:=by
 simp[List.getD_eq_getElem?_getD,h]
theorem Km {α:Type} {d:α} {l:List α} {k:Nat} (h:k<l.length):l.take k++[l.getD k d]=l.take (k+1):=by
 rw[List.take_succ_eq_append_getElem h,List.getD_eq_getElem?_getD,List.getElem?_eq_getElem h];rfl
abbrev Jbz (T U:TypeId) (s:Sch) (l:List s.T) (r:Bool×Sch) (g:Bool) (q:Tup [(g,s)]→List Prop) (f:Tup [(g,s)]→r.2.T):Ann:={X:=Nat,σ:=fun k=>⟨3,[(1, .one (.fv 1)),(5, .one (.sl 2)),(8, .one (.sl 0)),(9, .one (.int .i64 l.length)),(10, .one (.int .i64 k))],[(0, .imm T s l),(1, .afn [(g,s)] r q f),(2, .own U r.2 ((l.take k).map fun x=>f (x,())))]⟩,inv:=fun k=>k≤l.length,mu:=fun k=>l.length-k}
def Kiz:Con:={args:=[.val false (.list 9 .str), .fn [tS] I],ress:=[(false, .list 26 sI)],owns:=[true],pre:=fun(l,(q,_),_)=>[l.length≤1000000,∀x∈l,Up (q (x,()))],spec:=fun(l,(_,f),_)=>(l.map fun x=>f (x,()),())}
def Ki2:Con:={args:=[.val false (.list 3 sI), .fn [I] I],ress:=[(false, .list 26 sI)],owns:=[true],pre:=fun(l,(q,_),_)=>[l.length≤1000000,∀x∈l,Up (q (x,()))],spec:=fun(l,(_,f),_)=>(l.map fun x=>f (x,()),())}
def J95 (a:Li) (b:Int):=b∈a
def Kgm (a:Int×Unit→Int) (b:Nat) (c:Li):=List.map (fun(x:Int)=>a (x,PUnit.unit)) (List.take b c)
def Kf3 (a:Nat) (b:Li) (c:Nat):=a≤List.length b∧Jz9 b a c
def Ksa (a:Li) (b:Int×Unit→List Prop):=∀(x:Int),J95 a x→Up (b (x,PUnit.unit))
theorem Kxl [Sx.Dr]:Ok Tryz.prog 137 Ki2:=okW W16 Tryz.f137 (fun xx=>Y4 (Jbz 3 26 sI xx.1 I false xx.2.1.1 xx.2.1.2)) fun xx=>by
 obtain⟨(l:List Int),⟨(q:Int×Unit→List Prop),(f:Int×Unit→Int)⟩,_⟩:=xx
 refine(by kernel_rfl:(Z61 l→Ksa l q→∃(x:Nat),Si (Ln l) (0=Nc x∧Sf l ((fun(x:Int×PUnit)=>q x)=q∧(fun(x:Int×PUnit)=>f x)=f∧List.length (Kgm f x l)=0))∧x≤List.length l∧∀(x:Nat),x≤List.length l→Br (J0f x l) (Z91 x l∧(Up (q (Z17 l x,PUnit.unit))∧(List.length (Kgm f x l)+1)*8≤140737488355328)∧Z20 x∧∃(y:Nat),Si (Ln l) (Vm x y∧Sf l ((fun(x:Int×PUnit)=>q x)=q∧(fun(x:Int×PUnit)=>f x)=f∧Kgm f x l++[f (Z17 l x,PUnit.unit)]=Kgm f y l))∧Kf3 y l x) (Kgm f x l=List.map (fun(x:Int)=>f (x,PUnit.unit)) l))=_).mp ?_
 delta Z17 Z20 Z61 Z91 Vm J0f J95 Jz9 Kgm Kf3 Ksa Br Iw Bd Tw Sf Si Ln Nc
 intro hb hq
 refine⟨(0:Nat),⟨rfl,rfl,rfl,rfl,rfl,by simp⟩,Nat.zero_le _,fun(k:Nat) hk=>⟨fun h=> ?_,fun h=> ?_⟩⟩
 ·have hlt:k<l.length:=by simpa using h
  refine⟨by omega,⟨hq (l.getD k 0) (Je hlt),by simp only[List.length_map,List.length_take];omega⟩,by omega,(k+1:Nat),⟨rfl,by simp,rfl,rfl,rfl, ?_⟩,by omega,by omega⟩
  rw[←Km (d:=0) hlt,List.map_append];rfl
 ·have hlt:¬k<l.length:=by simpa using h
  rw[List.take_of_length_le (by omega)]
abbrev W17 [Sx.Dr]:=W16.add Kxl
def Z27 (a:Ls) (b:Nat):=List.getD a b B0
def Z39 (a:Nat) (b:Ls):=a≤List.length b
def Z94 (a:Nat) (b:Ls):=Bd (Nc a) (Ln b)
def F5 (a:Ls):=List.length a≤1000000
def J6a (a:Nat) (b:Ls):=decide (Nc a<Ln b)
def Jz3 (a:Ls) (b c:Nat):=List.length a-b<List.length a-c
def Jgz (a:Ls) (b:Bt):=b∈a
def Kgd (a:Bt×Unit→Int) (b:Nat) (c:Ls):=List.map (fun(x:ByteArray)=>a (x,PUnit.unit)) (List.take b c)
theorem Kxo [Sx.Dr]:Ok Tryz.prog 134 Kiz:=okW W17 Tryz.f134 (fun xx=>Y4 (Jbz 9 26 .str xx.1 I false xx.2.1.1 xx.2.1.2)) fun xx=>by
 obtain⟨(l:List ByteArray),⟨(q:ByteArray×Unit→List Prop),(f:ByteArray×Unit→Int)⟩,_⟩:=xx
 refine(by kernel_rfl:(F5 l→(∀(x:ByteArray),Jgz l x→Up (q (x,PUnit.unit)))→∃(x:Nat),Si (Ln l) (0=Nc x∧Sf l ((fun(x:ByteArray×PUnit)=>q x)=q∧(fun(x:ByteArray×PUnit)=>f x)=f∧List.length (Kgd f x l)=0))∧Z39 x l∧∀(x:Nat),Z39 x l→Br (J6a x l) (Tw (Z94 x l)∧(Up (q (Z27 l x,PUnit.unit))∧(List.length (Kgd f x l)+1)*8≤140737488355328)∧Z20 x∧∃(y:Nat),Si (Ln l) (Vm x y∧Sf l ((fun(x:ByteArray×PUnit)=>q x)=q∧(fun(x:ByteArray×PUnit)=>f x)=f∧Kgd f x l++[f (Z27 l x,PUnit.unit)]=Kgd f y l))∧Z39 y l∧Jz3 l y x) (Kgd f x l=List.map (fun(x:ByteArray)=>f (x,PUnit.unit)) l))=_).mp ?_
 delta Z20 Z27 Z39 Z94 Vm F5 J6a Jz3 Jgz Kgd Br Iw Bd Tw Sf Si Ln Nc B0
 intro hb hq
 refine⟨(0:Nat),⟨rfl,rfl,rfl,rfl,rfl,by simp⟩,Nat.zero_le _,fun(k:Nat) hk=>⟨fun h=> ?_,fun h=> ?_⟩⟩
 ·have hlt:k<l.length:=by simpa using h
  refine⟨by omega,⟨hq (l.getD k (⟨⟨[]⟩⟩:ByteArray)) (Je hlt),by simp only[List.length_map,List.length_take];omega⟩,by omega,(k+1:Nat),⟨rfl,by simp,rfl,rfl,rfl, ?_⟩,by omega,by omega⟩
  rw[←Km (d:=(⟨⟨[]⟩⟩:ByteArray)) hlt,List.map_append];rfl
 ·have hlt:¬k<l.length:=by simpa using h
  rw[List.take_of_length_le (by omega)]
abbrev W18 [Sx.Dr]:=W17.add Kxo
def Kzh:Con:={args:=[aS],ress:=[I],owns:=[],pre:=fun(s,_)=>[s.size≤1000000],spec:=fun(s,_)=>(bif Ys s then 0 else 8,())}
theorem Kxn [Sx.Dr]:Ok Tryz.prog 135 Kzh:=okW W18 Tryz.f135 na fun xx=>by
 obtain⟨(s:ByteArray),_⟩:=xx
 refine(by kernel_rfl:(ByteArray.size s≤(1000000:Nat)→ByteArray.size s≤(1000000:Nat)∧(bif !Ys s then(8:Int) else(0:Int))=bif Ys s then(0:Int) else(8:Int))=_).mp ?_
 exact fun h=>⟨h,by cases Ys s<;>rfl⟩
abbrev W19 [Sx.Dr]:=W18.add Kxn
def Kzg:Con:={args:=[aI],ress:=[I],owns:=[],pre:=fun _=>[],spec:=fun(n,_)=>(Kr n 0 999999999,())}
theorem Kxk [Sx.Dr]:Ok Tryz.prog 138 Kzg:=okW W19 Tryz.f138 na fun xx=>by
 obtain⟨(n:Int),_⟩:=xx
 refine(by kernel_rfl:(Ks5 n)=_).mp ?_
 delta Z80 Ks5
 rfl
abbrev W20 [Sx.Dr]:=W19.add Kxk
abbrev Ev:=Int×ByteArray×List ByteArray×List Int×ByteArray
abbrev sEv:Sch:= .prod sI (.prod .str (.prod (.list 9 .str) (.prod (.list 3 sI) .str)))
abbrev aEv:AK:= .val true sEv
def Jh (k:ByteArray):K76:=(Vv .str k L3).getD ([],0,none,none,none)
def Uo (k:ByteArray):Bool:=(Vv .str k L3).isSome
def Jd (e:Ev):Int:=
 if Kr e.1 1 1000≠0 then Kr e.1 1 1000 else
 bif Uo e.2.1 then(if e.2.2.1.length=(Jh e.2.1).1.length∧(e.2.2.2.1.length:Int)=(Jh e.2.1).2.1 then
  Jg [Jg (e.2.2.1.map fun s=>bif Ys s then 0 else 8),Jg (e.2.2.2.1.map fun n=>Kr n 0 999999999),bif decide (0<e.2.2.2.2.size) then 1 else 0] else 2) else 13
theorem bn1 {b c:Bool} (h:(bif b then true else c)=false):b=false∧c=false:=by cases b<;>simp_all
def Kjq:Con:={args:=[aEv],ress:=[I],owns:=[],pre:=fun(e,_)=>[e.2.2.1.length≤1000000,e.2.2.2.1.length≤1000000,∀s∈e.2.2.1,s.size≤1000000],spec:=fun(e,_)=>(Jd e,())}
def Z75 (a:Int) (b:Bt) (c:Ls) (d:Li) (e:Bt):=Jd (a,b,c,d,e)
def K6n (a:Ls):=List.map (fun(x:ByteArray)=>match Ys x with|true=>(0:Int)|false=>(8:Int)) a
def Jhi (a:Ls):=∀(s:ByteArray),Jgz a s→ByteArray.size s≤1000000
def K4q (a:Bt):=Vv Sch.str a L3
def Kz3 (a:Bt):=Option.getD (K4q a) Kf2
theorem K8d [Sx.Dr]:Ok Tryz.prog 64 Kjq:=okW W20 Tryz.f64 na fun xx=>by
 obtain⟨⟨(n:Int),(k:ByteArray),(ns:List ByteArray),(vs:List Int),(t:ByteArray)⟩,_⟩:=xx
 refine(by kernel_rfl:(F5 ns→Z61 vs→Jhi ns→Br (Kr n 1 (1000:Int) !=0) (Kr n 1 1000=Z75 n k ns vs t) (Br (!Option.isSome (K4q k)) (13=Z75 n k ns vs t) (Br (bif Ln ns !=Ln (Kz3 k).1 then true else Ln vs !=(Kz3 k).2.1) (2=Z75 n k ns vs t) ((F5 ns∧Jhi ns)∧(Z61 vs∧∀(x:Int),J95 vs x→True)∧(List.length (K6n ns)≤1000000∧List.length (List.map (fun(x:Int)=>Z80 x) vs)≤1000000∧3≤1000000)∧Jg [Jg (K6n ns),Jg (List.map (fun(x:Int)=>Z80 x) vs),bif !Lb t B0 then 1 else 0]=Z75 n k ns vs t))))=_).mp ?_
 delta Z61 Z75 Z80 F5 J95 Jgz Kf2 K6n Jhi K4q Kz3 Br Ln B0 Lb
 intro h1 h2 h3
 unfold Jd Jh Uo
 dsimp only
 refine⟨fun h=> ?_,fun h=> ?_⟩
 ·rw[if_pos (bne_iff_ne.1 h)]
 rw[if_neg (by have:=bne_eq_false_iff_eq.1 h;simpa using this)]
 refine⟨fun h4=> ?_,fun h4=> ?_⟩
 ·rw[Bool.not_eq_true'] at h4
  rw[h4];rfl
 rw[Bool.not_eq_false'] at h4
 rw[h4,cond_true]
 refine⟨fun h5=> ?_,fun h5=>⟨⟨h1,h3⟩,⟨h2,fun _ _=>trivial⟩,⟨by simpa using h1,by simpa using h2,by decide⟩, ?_⟩⟩
 ·rw[if_neg]
  rintro⟨e1,e2⟩
  rw[e1,e2] at h5
  simp at h5
 ·have h6:=bn1 h5
  rw[if_pos ⟨Int.ofNat_inj.1 (bne_eq_false_iff_eq.1 h6.1),bne_eq_false_iff_eq.1 h6.2⟩,Jjs]
  rfl
abbrev W21 [Sx.Dr]:=W20.add K8d
abbrev La:Sch:= .prod sI sI
abbrev Sta:=ByteArray×Int×Int
abbrev Ord:=ByteArray×ByteArray×ByteArray×(Int×Int)×Int×Int×Int
abbrev Met:=ByteArray×Int×Int×Int
abbrev Out:=ByteArray×ByteArray×(Int×Int)×Int
abbrev Per:=ByteArray×ByteArray×Bool
abbrev De:Sch:= .prod .str (.prod sI sI)
abbrev Hj:Sch:= .prod .str (.prod .str (.prod .str (.prod La (.prod sI (.prod sI sI)))))
abbrev Dm:Sch:= .prod .str (.prod sI (.prod sI sI))
abbrev X4:Sch:= .prod .str (.prod .str (.prod La sI))
abbrev Zl:Sch:= .prod .str (.prod .str .bool)
def K8r:Con:={args:=[.val true De],ress:=[tS],owns:=[],pre:=fun _=>[],spec:=fun(x,_)=>(x.1,())}
def K8t:Con:={args:=[.val true Hj],ress:=[tS],owns:=[],pre:=fun _=>[],spec:=fun(x,_)=>(x.1,())}
def K8q:Con:={args:=[.val true X4],ress:=[tS],owns:=[],pre:=fun _=>[],spec:=fun(x,_)=>(x.1,())}
def K8s:Con:={args:=[.val true Zl],ress:=[tS],owns:=[],pre:=fun _=>[],spec:=fun(x,_)=>(x.1,())}
theorem Kt2 [Sx.Dr] (x:Sta):wpF Tryz.prog W21.g (na ()) Tryz.f328 K8r (x,()):=by
 refine(by kernel_rfl:(x.1=x.1)=_).mp ?_
 rfl
theorem Ku0 [Sx.Dr]:Ok Tryz.prog 328 K8r:=Vy mixed W21.ok (by kernel_rfl) (by kernel_rfl) na fun xx=>Kt2 xx.1
abbrev W22 [Sx.Dr]:=W21.add Ku0
theorem Kt1 [Sx.Dr] (x:Ord):wpF Tryz.prog W22.g (na ()) Tryz.f329 K8t (x,()):=by
 refine(by kernel_rfl:(x.1=x.1)=_).mp ?_
 rfl
theorem Kuz [Sx.Dr]:Ok Tryz.prog 329 K8t:=Vy mixed W22.ok (by kernel_rfl) (by kernel_rfl) na fun xx=>Kt1 xx.1
abbrev W23 [Sx.Dr]:=W22.add Kuz
theorem Kua [Sx.Dr] (x:Out):wpF Tryz.prog W23.g (na ()) Tryz.f204 K8q (x,()):=by
 refine(by kernel_rfl:(x.1=x.1)=_).mp ?_
 rfl
theorem Kvv [Sx.Dr]:Ok Tryz.prog 204 K8q:=Vy mixed W23.ok (by kernel_rfl) (by kernel_rfl) na fun xx=>Kua xx.1
abbrev W24 [Sx.Dr]:=W23.add Kvv
theorem Kt9 [Sx.Dr] (x:Per):wpF Tryz.prog W24.g (na ()) Tryz.f208 K8s (x,()):=by
 refine(by kernel_rfl:(x.1=x.1)=_).mp ?_
 rfl
theorem Kvr [Sx.Dr]:Ok Tryz.prog 208 K8s:=Vy mixed W24.ok (by kernel_rfl) (by kernel_rfl) na fun xx=>Kt9 xx.1
abbrev W25 [Sx.Dr]:=W24.add Kvr
def Jb:ByteArray:=⟨⟨[]⟩⟩
def Vt {α:Type} (p:α→Bool):List α→Nat→Int
 |[],_=> -1
 |x::r,k=>if p x=true then(k:Int) else Vt p r (k+1)
theorem Yi {α:Type} {p:α→Bool} {l:List α} {k:Nat} {d:α} (h:k<l.length):Vt p (l.drop k) k=if p (l.getD k d)=true then(k:Int) else Vt p (l.drop (k+1)) (k+1):=by
 rw[List.drop_eq_getElem_cons h]
 simp[Vt,List.getD_eq_getElem?_getD,h]
abbrev Jmv (T:TypeId) (s:Sch) (g:Bool) (l:List s.T) (q:Tup [(g,s)]→List Prop) (f:Tup [(g,s)]→Bool):Ann:={X:=Nat,σ:=fun k=>⟨2,[(0, .one (.sl 0)),(1, .one (.fv 1)),(7, .one (.int .i64 l.length)),(8, .one (.int .i64 k))],[(0, .imm T s l),(1, .afn [(g,s)] Bo q f)]⟩,inv:=fun k=>k≤l.length∧Vt (fun x=>f (x,())) l 0=Vt (fun x=>f (x,())) (l.drop k) k,mu:=fun k=>l.length-k}
def Ki9 (T:TypeId) (s:Sch) (g:Bool):Con:={args:=[.val false (.list T s), .fn [(g,s)] Bo],ress:=[I],owns:=[],pre:=fun(l,(q,_),_)=>[l.length≤1000000,∀x∈l,Up (q (x,()))],spec:=fun(l,(_,f),_)=>(Vt (fun x=>f (x,())) l 0,())}
def Jnt:Sta:=(Jb,0,0)
def K8v:Con:={args:=[.val true De, .ref 9 .str],ress:=[Bo],owns:=[],pre:=fun _=>[],spec:=fun(x,s,_)=>(x.1.toList==s.toList,())}
theorem Kt8 [Sx.Dr] (x:Sta) (s:ByteArray):wpF Tryz.prog W25.g (na ()) Tryz.f229 K8v (x,s,()):=by
 refine(by kernel_rfl:(Lb x.1 s=Lb x.1 s)=_).mp ?_
 delta Lb
 rfl
theorem Kvn [Sx.Dr]:Ok Tryz.prog 229 K8v:=Vy mixed W25.ok (by kernel_rfl) (by kernel_rfl) na fun xx=>Kt8 xx.1 xx.2.1
abbrev W26 [Sx.Dr]:=W25.add Kvn
def Z12:=(B0,(0:Int),(0:Int))
def Z62 (a:List Sta):=List.length a≤1000000
def Z79:=(-1)
def K5n (a:List Sta) (b:Nat):=(((List.getD a b Z12).1,E2 (List.getD a b Z12).2),PUnit.unit)
def Kqq (a:Nat) (b:List Sta) (c:Sta×Unit→Bool):=a≤List.length b∧Vt (fun(x:Sta)=>c (x,PUnit.unit)) b 0=Vt (fun(x:Sta)=>c (x,PUnit.unit)) (List.drop a b) a
theorem Kvo [Sx.Dr]:Ok Tryz.prog 228 (Ki9 127 De true):=okW W26 Tryz.f228 (fun xx=>Y4 (Jmv 127 De true xx.1 xx.2.1.1 xx.2.1.2)) fun xx=>by
 obtain⟨(l:List Sta),⟨(q:Sta×Unit→List Prop),(f:Sta×Unit→Bool)⟩,_⟩:=xx
 refine(by kernel_rfl:(Z62 l→(∀(x:Sta),x∈l→Up (q (x,PUnit.unit)))→∃(x:Nat),Si (Ln l) (0=Nc x∧Sf l ((fun(x:Sta×PUnit)=>q x)=q∧(fun(x:Sta×PUnit)=>f x)=f))∧Kqq x l f∧∀(x:Nat),Kqq x l f→Br (decide (Nc x<Ln l)) (T2 (Bd (Nc x) (Ln l)) (Up (q (K5n l x)))∧Br (f (K5n l x)) (Nc x=Vt (fun(x:Sta)=>f (x,PUnit.unit)) l 0) (Z20 x∧∃(y:Nat),Si (Ln l) (Vm x y∧Sf l ((fun(x:Sta×PUnit)=>q x)=q∧(fun(x:Sta×PUnit)=>f x)=f))∧Kqq y l f∧List.length l-y<List.length l-x)) (Z79=Vt (fun(x:Sta)=>f (x,PUnit.unit)) l 0))=_).mp ?_
 delta Z12 Z20 Z62 Z79 Vm K5n Kqq Br Iw Bd T2 Sf Si Ln Nc B0 E2
 intro hb hq
 refine⟨(0:Nat),⟨rfl,rfl,rfl,rfl,rfl⟩,⟨Nat.zero_le _,rfl⟩,fun(k:Nat) hk=>⟨fun h=> ?_,fun h=> ?_⟩⟩
 ·have hlt:k<l.length:=by simpa using h
  have hd:=Yi (p:=fun x=>f (x,())) (d:=Jnt) hlt
  refine⟨⟨by omega,by omega,hq (l.getD k Jnt) (Je hlt)⟩,fun h1=> ?_,fun h1=>⟨by omega,(k+1:Nat),⟨rfl,rfl,rfl,by simp,rfl⟩,⟨by omega, ?_⟩,by omega⟩⟩
  ·rw[hk.2,hd,if_pos (show f (l.getD k Jnt,())=true from h1)]
  ·rw[hk.2,hd,if_neg (by rw[show f (l.getD k Jnt,())=false from h1];simp)]
 ·have hlt:¬k<l.length:=by simpa using h
  have:k=l.length:=by omega
  rw[hk.2,this,List.drop_length];rfl
abbrev W27 [Sx.Dr]:=W26.add Kvo
def J6 (l:List Sta) (s:ByteArray):Int:=Vt (fun x=>x.1.toList==s.toList) l 0
def Kjf:Con:={args:=[.val false (.list 127 De),aS],ress:=[I],owns:=[],pre:=fun(l,_)=>[l.length≤1000000],spec:=fun(l,s,_)=>(J6 l s,())}
theorem Kxf [Sx.Dr]:Ok Tryz.prog 143 Kjf:=okW W27 Tryz.f143 na fun xx=>by
 obtain⟨(l:List Sta),(s:ByteArray),_⟩:=xx
 refine(by kernel_rfl:(Z62 l→(Z62 l∧∀(x:Sta),x∈l→True)∧Vt (fun(x:Sta)=>List.beq (ByteArray.toList x.1) (ByteArray.toList s)) l 0=J6 l s)=_).mp ?_
 delta Z62
 exact fun h=>⟨⟨h,fun _ _=>trivial⟩,rfl⟩
abbrev W28 [Sx.Dr]:=W27.add Kxf
def Jo:Ord:=(Jb,Jb,Jb,(0,0),0,0,0)
def K8x:Con:={args:=[.val true Hj, .ref 9 .str],ress:=[Bo],owns:=[],pre:=fun _=>[],spec:=fun(x,s,_)=>(x.1.toList==s.toList,())}
theorem Kt7 [Sx.Dr] (x:Ord) (s:ByteArray):wpF Tryz.prog W28.g (na ()) Tryz.f231 K8x (x,s,()):=by
 refine(by kernel_rfl:(Lb x.1 s=Lb x.1 s)=_).mp ?_
 delta Lb
 rfl
theorem Kvl [Sx.Dr]:Ok Tryz.prog 231 K8x:=Vy mixed W28.ok (by kernel_rfl) (by kernel_rfl) na fun xx=>Kt7 xx.1 xx.2.1
abbrev W29 [Sx.Dr]:=W28.add Kvl
def Z64 (a:List Ord):=List.length a≤1000000
def Z83:=((0:Int),(0:Int),(0:Int))
def J58 (a:List Ord) (b c:Nat):=List.length a-b<List.length a-c
def Jem:=(B0,B0,B0,((0:Int),(0:Int)),Z83)
def Kfz (a:List Ord) (b:Nat):=List.getD a b Jem
def Ksc (a:List Ord) (b:Ord×Unit→List Prop):=∀(x:Ord),x∈a→Up (b (x,PUnit.unit))
def J9n (a:List Ord) (b:Nat):=(Kfz a b).1
def Kmo (a:List Ord) (b:Nat):=(Kfz a b).2
def Kmn (a:List Ord) (b:Nat):=(Kmo a b).1
def Kmm (a:List Ord) (b:Nat):=(Kmo a b).2
def Kml (a:List Ord) (b:Nat):=(Kmm a b).2
def Kmk (a:List Ord) (b:Nat):=(Kmm a b).1
def Kfs (a:List Ord) (b:Nat):=(Kml a b).1
def Kmi (a:List Ord) (b:Nat):=(Kml a b).2
def Kmg (a:List Ord) (b:Nat):=(Kmi a b).1
def Kfp (a:List Ord) (b:Nat):=(Kmi a b).2
def Kqu (a:Nat) (b:List Ord) (c:Ord×Unit→Bool):=a≤List.length b∧Vt (fun(x:Ord)=>c (x,PUnit.unit)) b 0=Vt (fun(x:Ord)=>c (x,PUnit.unit)) (List.drop a b) a
def Jy9 (a:List Ord) (b:Nat):=((J9n a b,Kmn a b,Kmk a b,E2 (Kfs a b),Kmg a b,E2 (Kfp a b)),PUnit.unit)
def J3y (a:Ord×Unit→List Prop) (b:List Ord) (c:Nat):=Up (a (Jy9 b c))
theorem Kvm [Sx.Dr]:Ok Tryz.prog 230 (Ki9 130 Hj true):=okW W29 Tryz.f230 (fun xx=>Y4 (Jmv 130 Hj true xx.1 xx.2.1.1 xx.2.1.2)) fun xx=>by
 obtain⟨(l:List Ord),⟨(q:Ord×Unit→List Prop),(f:Ord×Unit→Bool)⟩,_⟩:=xx
 refine(by kernel_rfl:(Z64 l→Ksc l q→∃(x:Nat),Si (Ln l) (0=Nc x∧Sf l ((fun(x:Ord×PUnit)=>q x)=q∧(fun(x:Ord×PUnit)=>f x)=f))∧Kqu x l f∧∀(x:Nat),Kqu x l f→Br (decide (Nc x<Ln l)) (T2 (Bd (Nc x) (Ln l)) (J3y q l x)∧Br (f (Jy9 l x)) (Nc x=Vt (fun(x:Ord)=>f (x,PUnit.unit)) l 0) (Z20 x∧∃(y:Nat),Si (Ln l) (Vm x y∧Sf l ((fun(x:Ord×PUnit)=>q x)=q∧(fun(x:Ord×PUnit)=>f x)=f))∧Kqu y l f∧J58 l y x)) (Z79=Vt (fun(x:Ord)=>f (x,PUnit.unit)) l 0))=_).mp ?_
 delta Z20 Z64 Z79 Z83 Vm J58 Jem Kfz Ksc J9n Kmo Kmn Kmm Kml Kmk Kfs Kmi Kmg Kfp Kqu Jy9 J3y Br Iw Bd T2 Sf Si Ln Nc B0 E2
 intro hb hq
 refine⟨(0:Nat),⟨rfl,rfl,rfl,rfl,rfl⟩,⟨Nat.zero_le _,rfl⟩,fun(k:Nat) hk=>⟨fun h=> ?_,fun h=> ?_⟩⟩
 ·have hlt:k<l.length:=by simpa using h
  have hd:=Yi (p:=fun x=>f (x,())) (d:=Jo) hlt
  refine⟨⟨by omega,by omega,hq (l.getD k Jo) (Je hlt)⟩,fun h1=> ?_,fun h1=>⟨by omega,(k+1:Nat),⟨rfl,rfl,rfl,by simp,rfl⟩,⟨by omega, ?_⟩,by omega⟩⟩
  ·rw[hk.2,hd,if_pos (show f (l.getD k Jo,())=true from h1)]
  ·rw[hk.2,hd,if_neg (by rw[show f (l.getD k Jo,())=false from h1];simp)]
 ·have hlt:¬k<l.length:=by simpa using h
  have:k=l.length:=by omega
  rw[hk.2,this,List.drop_length];rfl
abbrev W30 [Sx.Dr]:=W29.add Kvm
def K0 (l:List Ord) (s:ByteArray):Int:=Vt (fun x=>x.1.toList==s.toList) l 0
def Kjh:Con:={args:=[.val false (.list 130 Hj),aS],ress:=[I],owns:=[],pre:=fun(l,_)=>[l.length≤1000000],spec:=fun(l,s,_)=>(K0 l s,())}
theorem Kxe [Sx.Dr]:Ok Tryz.prog 144 Kjh:=okW W30 Tryz.f144 na fun xx=>by
 obtain⟨(l:List Ord),(s:ByteArray),_⟩:=xx
 refine(by kernel_rfl:(Z64 l→(Z64 l∧∀(x:Ord),x∈l→True)∧Vt (fun(x:Ord)=>List.beq (ByteArray.toList x.1) (ByteArray.toList s)) l 0=K0 l s)=_).mp ?_
 delta Z64
 exact fun h=>⟨⟨h,fun _ _=>trivial⟩,rfl⟩
abbrev W31 [Sx.Dr]:=W30.add Kxe
def Fi:Out:=(Jb,Jb,(0,0),0)
def K8u:Con:={args:=[.val true X4, .ref 9 .str],ress:=[Bo],owns:=[],pre:=fun _=>[],spec:=fun(x,s,_)=>(x.1.toList==s.toList,())}
theorem Kt6 [Sx.Dr] (x:Out) (s:ByteArray):wpF Tryz.prog W31.g (na ()) Tryz.f233 K8u (x,s,()):=by
 refine(by kernel_rfl:(Lb x.1 s=Lb x.1 s)=_).mp ?_
 delta Lb
 rfl
theorem Kvj [Sx.Dr]:Ok Tryz.prog 233 K8u:=Vy mixed W31.ok (by kernel_rfl) (by kernel_rfl) na fun xx=>Kt6 xx.1 xx.2.1
abbrev W32 [Sx.Dr]:=W31.add Kvj
def Z55 (a:List Out):=List.length a≤1000000
def Jrk (a:Nat) (b:List Out):=decide (Nc a<Ln b)
def Jgp:=(B0,B0,((0:Int),(0:Int)),(0:Int))
def Jyi (a:List Out) (b c:Nat):=List.length a-b<List.length a-c
def Jz4 (a:List Out) (b:Nat):=List.getD a b Jgp
def Jyh (a:List Out) (b:Nat):=(Jz4 a b).1
def J26 (a:List Out) (b:Nat):=(Jz4 a b).2.2
def J9p (a:List Out) (b:Nat):=E2 (J26 a b).1
def J5u (a:List Out) (b:Out×Unit→List Prop):=∀(x:Out),x∈a→Up (b (x,PUnit.unit))
def Kqt (a:Nat) (b:List Out) (c:Out×Unit→Bool):=a≤List.length b∧Vt (fun(x:Out)=>c (x,PUnit.unit)) b 0=Vt (fun(x:Out)=>c (x,PUnit.unit)) (List.drop a b) a
def Ke1 (a:List Out) (b:Nat):=(Jyh a b,(Jz4 a b).2.1,J9p a b,(J26 a b).2)
def J5p (a:List Out) (b:Nat):=(Ke1 a b,PUnit.unit)
def Koi (a:Out×Unit→Bool) (b:List Out) (c:Nat):=a (J5p b c)
def J5o (a:Out×Unit→List Prop) (b:List Out) (c:Nat):=Up (a (J5p b c))
theorem Kvk [Sx.Dr]:Ok Tryz.prog 232 (Ki9 188 X4 true):=okW W32 Tryz.f232 (fun xx=>Y4 (Jmv 188 X4 true xx.1 xx.2.1.1 xx.2.1.2)) fun xx=>by
 obtain⟨(l:List Out),⟨(q:Out×Unit→List Prop),(f:Out×Unit→Bool)⟩,_⟩:=xx
 refine(by kernel_rfl:(Z55 l→J5u l q→∃(x:Nat),Si (Ln l) (0=Nc x∧Sf l ((fun(x:Out×PUnit)=>q x)=q∧(fun(x:Out×PUnit)=>f x)=f))∧Kqt x l f∧∀(x:Nat),Kqt x l f→Br (Jrk x l) (T2 (Bd (Nc x) (Ln l)) (J5o q l x)∧Br (Koi f l x) (Nc x=Vt (fun(x:Out)=>f (x,PUnit.unit)) l 0) (Z20 x∧∃(y:Nat),Si (Ln l) (Vm x y∧Sf l ((fun(x:Out×PUnit)=>q x)=q∧(fun(x:Out×PUnit)=>f x)=f))∧Kqt y l f∧Jyi l y x)) (Z79=Vt (fun(x:Out)=>f (x,PUnit.unit)) l 0))=_).mp ?_
 delta Z20 Z55 Z79 Jrk Vm Jgp Jyi Jz4 Jyh J26 J9p J5u Kqt Ke1 J5p Koi J5o Br Iw Bd T2 Sf Si Ln Nc B0 E2
 intro hb hq
 refine⟨(0:Nat),⟨rfl,rfl,rfl,rfl,rfl⟩,⟨Nat.zero_le _,rfl⟩,fun(k:Nat) hk=>⟨fun h=> ?_,fun h=> ?_⟩⟩
 ·have hlt:k<l.length:=by simpa using h
  have hd:=Yi (p:=fun x=>f (x,())) (d:=Fi) hlt
  refine⟨⟨by omega,by omega,hq (l.getD k Fi) (Je hlt)⟩,fun h1=> ?_,fun h1=>⟨by omega,(k+1:Nat),⟨rfl,rfl,rfl,by simp,rfl⟩,⟨by omega, ?_⟩,by omega⟩⟩
  ·rw[hk.2,hd,if_pos (show f (l.getD k Fi,())=true from h1)]
  ·rw[hk.2,hd,if_neg (by rw[show f (l.getD k Fi,())=false from h1];simp)]
 ·have hlt:¬k<l.length:=by simpa using h
  have:k=l.length:=by omega
  rw[hk.2,this,List.drop_length];rfl
abbrev W33 [Sx.Dr]:=W32.add Kvk
def Kc (l:List Out) (s:ByteArray):Int:=Vt (fun x=>x.1.toList==s.toList) l 0
def Kje:Con:={args:=[.val false (.list 188 X4),aS],ress:=[I],owns:=[],pre:=fun(l,_)=>[l.length≤1000000],spec:=fun(l,s,_)=>(Kc l s,())}
def Ksx (a:List Out):=∀(x:Out),x∈a→True
theorem Kxd [Sx.Dr]:Ok Tryz.prog 145 Kje:=okW W33 Tryz.f145 na fun xx=>by
 obtain⟨(l:List Out),(s:ByteArray),_⟩:=xx
 refine(by kernel_rfl:(Z55 l→(Z55 l∧Ksx l)∧Vt (fun(x:Out)=>List.beq (ByteArray.toList x.1) (ByteArray.toList s)) l 0=Kc l s)=_).mp ?_
 delta Z55 Ksx
 exact fun h=>⟨⟨h,fun _ _=>trivial⟩,rfl⟩
abbrev W34 [Sx.Dr]:=W33.add Kxd
def Jd5:Per:=(Jb,Jb,false)
def K8w:Con:={args:=[.val true Zl, .ref 9 .str],ress:=[Bo],owns:=[],pre:=fun _=>[],spec:=fun(x,s,_)=>(x.1.toList==s.toList,())}
theorem Kt5 [Sx.Dr] (x:Per) (s:ByteArray):wpF Tryz.prog W34.g (na ()) Tryz.f235 K8w (x,s,()):=by
 refine(by kernel_rfl:(Lb x.1 s=Lb x.1 s)=_).mp ?_
 delta Lb
 rfl
theorem Kvh [Sx.Dr]:Ok Tryz.prog 235 K8w:=Vy mixed W34.ok (by kernel_rfl) (by kernel_rfl) na fun xx=>Kt5 xx.1 xx.2.1
abbrev W35 [Sx.Dr]:=W34.add Kvh
def Z23 (a:Nat) (b:List Per):=Bd (Nc a) (Ln b)
def Z54 (a:List Per):=List.length a≤1000000
def Jt2 (a:Nat) (b:List Per):=decide (Nc a<Ln b)
def J0d (a:List Per) (b:Nat):=(List.getD a b (B0,B0,false)).2
def Jz8 (a:List Per) (b c:Nat):=List.length a-b<List.length a-c
def Kfx (a:List Per) (b:Per×Unit→List Prop):=∀(x:Per),x∈a→Up (b (x,PUnit.unit))
def Kme (a:List Per) (b:Nat):=((List.getD a b (B0,B0,false)).1,E2 (J0d a b))
def Kfl (a:List Per) (b:Nat):=(Kme a b,PUnit.unit)
def Krb (a:Per×Unit→Bool) (b:List Per) (c:Nat):=a (Kfl b c)
def Kfj (a:Per×Unit→List Prop) (b:List Per) (c:Nat):=Up (a (Kfl b c))
def Kqr (a:Nat) (b:List Per) (c:Per×Unit→Bool):=a≤List.length b∧Vt (fun(x:Per)=>c (x,PUnit.unit)) b 0=Vt (fun(x:Per)=>c (x,PUnit.unit)) (List.drop a b) a
theorem Kvi [Sx.Dr]:Ok Tryz.prog 234 (Ki9 235 Zl true):=okW W35 Tryz.f234 (fun xx=>Y4 (Jmv 235 Zl true xx.1 xx.2.1.1 xx.2.1.2)) fun xx=>by
 obtain⟨(l:List Per),⟨(q:Per×Unit→List Prop),(f:Per×Unit→Bool)⟩,_⟩:=xx
 refine(by kernel_rfl:(Z54 l→Kfx l q→∃(x:Nat),Si (Ln l) (0=Nc x∧Sf l ((fun(x:Per×PUnit)=>q x)=q∧(fun(x:Per×PUnit)=>f x)=f))∧Kqr x l f∧∀(x:Nat),Kqr x l f→Br (Jt2 x l) (T2 (Z23 x l) (Kfj q l x)∧Br (Krb f l x) (Nc x=Vt (fun(x:Per)=>f (x,PUnit.unit)) l 0) (Z20 x∧∃(y:Nat),Si (Ln l) (Vm x y∧Sf l ((fun(x:Per×PUnit)=>q x)=q∧(fun(x:Per×PUnit)=>f x)=f))∧Kqr y l f∧Jz8 l y x)) (Z79=Vt (fun(x:Per)=>f (x,PUnit.unit)) l 0))=_).mp ?_
 delta Z20 Z23 Z54 Z79 Vm Jt2 J0d Jz8 Kfx Kme Kfl Krb Kfj Kqr Br Iw Bd T2 Sf Si Ln Nc B0 E2
 intro hb hq
 refine⟨(0:Nat),⟨rfl,rfl,rfl,rfl,rfl⟩,⟨Nat.zero_le _,rfl⟩,fun(k:Nat) hk=>⟨fun h=> ?_,fun h=> ?_⟩⟩
 ·have hlt:k<l.length:=by simpa using h
  have hd:=Yi (p:=fun x=>f (x,())) (d:=Jd5) hlt
  refine⟨⟨by omega,by omega,hq (l.getD k Jd5) (Je hlt)⟩,fun h1=> ?_,fun h1=>⟨by omega,(k+1:Nat),⟨rfl,rfl,rfl,by simp,rfl⟩,⟨by omega, ?_⟩,by omega⟩⟩
  ·rw[hk.2,hd,if_pos (show f (l.getD k Jd5,())=true from h1)]
  ·rw[hk.2,hd,if_neg (by rw[show f (l.getD k Jd5,())=false from h1];simp)]
 ·have hlt:¬k<l.length:=by simpa using h
  have:k=l.length:=by omega
  rw[hk.2,this,List.drop_length];rfl
abbrev W36 [Sx.Dr]:=W35.add Kvi
def U5 (l:List Per) (s:ByteArray):Int:=Vt (fun x=>x.1.toList==s.toList) l 0
def Kjg:Con:={args:=[.val false (.list 235 Zl),aS],ress:=[I],owns:=[],pre:=fun(l,_)=>[l.length≤1000000],spec:=fun(l,s,_)=>(U5 l s,())}
def Kri (a:List Per):=Z54 a∧∀(x:Per),x∈a→True
theorem Kxc [Sx.Dr]:Ok Tryz.prog 146 Kjg:=okW W36 Tryz.f146 na fun xx=>by
 obtain⟨(l:List Per),(s:ByteArray),_⟩:=xx
 refine(by kernel_rfl:(Z54 l→Kri l∧Vt (fun(x:Per)=>List.beq (ByteArray.toList x.1) (ByteArray.toList s)) l 0=U5 l s)=_).mp ?_
 delta Z54 Kri
 exact fun h=>⟨⟨h,fun _ _=>trivial⟩,rfl⟩
abbrev W37 [Sx.Dr]:=W36.add Kxc
abbrev Reg:=Int×Int×List Sta×List Ord×List Met×List Out×List Per
abbrev Jkq:Sch:= .prod sI (.prod sI (.prod (.list 127 De) (.prod (.list 130 Hj) (.prod (.list 155 Dm) (.prod (.list 188 X4) (.list 235 Zl))))))
abbrev Jb3:AK:= .val true Jkq
def Ki (s:Int×Int) (h:Int):Bool:=bif decide (s.1≤h) then decide (h<s.2) else false
def Jxa:Con:={args:=[.val true La,aI],ress:=[Bo],owns:=[],pre:=fun _=>[],spec:=fun(s,h,_)=>(Ki s h,())}
theorem Kxi [Sx.Dr]:Ok Tryz.prog 140 Jxa:=okW W37 Tryz.f140 na fun xx=>by
 obtain⟨⟨(a:Int),(b:Int)⟩,(h:Int),_⟩:=xx
 refine(by kernel_rfl:((bif decide (a≤h) then decide (h<b) else false)=Ki (a,b) h)=_).mp ?_
 rfl
abbrev W38 [Sx.Dr]:=W37.add Kxi
def Jr (x:Ord) (h:Int):Bool:=bif Ki x.2.2.2.1 h then(bif x.2.2.2.2.2.2== -1 then true else decide (h<x.2.2.2.2.2.2)) else false
def J8g:Con:={args:=[.val true Hj,aI],ress:=[Bo],owns:=[],pre:=fun _=>[],spec:=fun(x,h,_)=>(Jr x h,())}
theorem Ub3 [Sx.Dr]:Ok Tryz.prog 72 J8g:=okW W38 Tryz.f72 na fun xx=>by
 obtain⟨⟨(n:ByteArray),(f:ByteArray),(t:ByteArray),⟨(a:Int),(b:Int)⟩,(p:Int),(c:Int),(r:Int)⟩,(h:Int),_⟩:=xx
 refine(by kernel_rfl:((bif Ki (a,b) h then bif r==Z79 then true else decide (h<r) else false)=Jr (n,f,t,(a,b),p,c,r) h)=_).mp ?_
 delta Z79
 rfl
abbrev W39 [Sx.Dr]:=W38.add Ub3
def F3 (x:Ord) (s:ByteArray):Bool:=bif x.2.1.toList==s.toList then true else x.2.2.1.toList==s.toList
def Kjy:Con:={args:=[.val true Hj,aS],ress:=[Bo],owns:=[],pre:=fun _=>[],spec:=fun(x,s,_)=>(F3 x s,())}
theorem Kvc [Sx.Dr]:Ok Tryz.prog 240 Kjy:=okW W39 Tryz.f240 na fun xx=>by
 obtain⟨⟨(n:ByteArray),(f:ByteArray),(t:ByteArray),⟨(a:Int),(b:Int)⟩,(p:Int),(c:Int),(r:Int)⟩,(s:ByteArray),_⟩:=xx
 refine(by kernel_rfl:((bif Lb f s then true else Lb t s)=F3 (n,f,t,(a,b),p,c,r) s)=_).mp ?_
 delta Lb
 rfl
abbrev W40 [Sx.Dr]:=W39.add Kvc
def J1e (x:Out) (s:ByteArray) (h:Int):Bool:=bif x.2.1.toList==s.toList then Ki x.2.2.1 h else false
def Uc5:Con:={args:=[.val true X4,aS,aI],ress:=[Bo],owns:=[],pre:=fun _=>[],spec:=fun(x,s,h,_)=>(J1e x s h,())}
theorem Kwi [Sx.Dr]:Ok Tryz.prog 176 Uc5:=okW W40 Tryz.f176 na fun xx=>by
 obtain⟨⟨(n:ByteArray),(f:ByteArray),⟨(a:Int),(b:Int)⟩,(p:Int)⟩,(s:ByteArray),(h:Int),_⟩:=xx
 refine(by kernel_rfl:((bif Lb f s then Ki (a,b) h else false)=J1e (n,f,(a,b),p) s h)=_).mp ?_
 delta Lb
 rfl
abbrev W41 [Sx.Dr]:=W40.add Kwi
theorem Jq {α:Type} {l:List α} {k:Nat} {d:α} (h:k<l.length):l.drop k=l.getD k d::l.drop (k+1):=by
 rw[List.drop_eq_getElem_cons h,List.getD_eq_getElem?_getD,List.getElem?_eq_getElem h];rfl
theorem Jcj {α:Type} {p:α→Bool}:∀{l:List α} {k:Nat},Vt p l k<k+l.length∧-1≤Vt p l k
 |[],k=>by simp[Vt];omega
 | x :: l, k => by
  unfold Vt
  split
  ·simp only[List.length_cons];omega
  ·have:=Jcj (p:=p) (l:=l) (k:=k+1)
   simp only[List.length_cons];omega
theorem K8 {l:List Sta} {s:ByteArray}:J6 l s<l.length:=by have:=(Jcj (p:=fun x=>x.1.toList==s.toList) (l:=l) (k:=0)).1;unfold J6;omega
theorem Ut {l:List Ord} {s:ByteArray}:K0 l s<l.length:=by have:=(Jcj (p:=fun x=>x.1.toList==s.toList) (l:=l) (k:=0)).1;unfold K0;omega
theorem Us {l:List Out} {s:ByteArray}:Kc l s<l.length:=by have:=(Jcj (p:=fun x=>x.1.toList==s.toList) (l:=l) (k:=0)).1;unfold Kc;omega
theorem U4 {l:List Per} {s:ByteArray}:U5 l s<l.length:=by have:=(Jcj (p:=fun x=>x.1.toList==s.toList) (l:=l) (k:=0)).1;unfold U5;omega
def K6 (M:List Met) (n:ByteArray) (h:Int):Int:=Vt (fun x=>bif x.1.toList==n.toList then x.2.1==h else false) M 0
theorem Jbe {l:List Met} {s:ByteArray} {h:Int}:K6 l s h<l.length:=by have:=(Jcj (p:=fun x=>bif x.1.toList==s.toList then x.2.1==h else false) (l:=l) (k:=0)).1;unfold K6;omega
structure Keq (x:Sta):Prop where
 lim:1≤x.2.1∧x.2.1≤1000
 pri:0≤x.2.2∧x.2.2≤1000
structure Jm5 (x:Int×Int):Prop where
 lo:0≤x.1
 mid:x.1≤x.2
 hi:x.2≤999999999
 len:x.2-x.1≤48
structure Jc2 (S:List Sta) (x:Ord):Prop where
 span:Jm5 x.2.2.2.1
 pow:1≤x.2.2.2.2.1∧x.2.2.2.2.1≤1000
 pri:0≤x.2.2.2.2.2.1∧x.2.2.2.2.2.1≤1000
 trip: -1≤x.2.2.2.2.2.2∧x.2.2.2.2.2.2≤999999999
 fr:0≤J6 S x.2.1
 tu:0≤J6 S x.2.2.1
structure Jtn (x:Met):Prop where
 hour:0≤x.2.1∧x.2.1≤999999999
 sent:0≤x.2.2.1∧x.2.2.1≤1000
 got:0≤x.2.2.2∧x.2.2.2≤x.2.2.1
structure Jpi (S:List Sta) (x:Out):Prop where
 span:Jm5 x.2.2.1
 rest:0≤x.2.2.2∧x.2.2.2≤1000
 sta:0≤J6 S x.2.1
structure Jn (r:Reg):Prop where
 tk:0≤r.1∧r.1≤999999999
 st:0≤r.2.1∧r.2.1≤r.1
 nS:r.2.2.1.length≤6
 nO:r.2.2.2.1.length≤32
 nM:r.2.2.2.2.1.length≤10000
 nX:r.2.2.2.2.2.1.length≤16
 nQ:r.2.2.2.2.2.2.length≤16
 sta:∀x∈r.2.2.1,Keq x
 ord:∀x∈r.2.2.2.1,Jc2 r.2.2.1 x
 met:∀x∈r.2.2.2.2.1,Jtn x
 out:∀x∈r.2.2.2.2.2.1,Jpi r.2.2.1 x
 per:∀x∈r.2.2.2.2.2.2,0≤Kc r.2.2.2.2.2.1 x.2.1
 done:∀x∈r.2.2.2.1,∀h,Jr x h=true→h<r.2.1→0≤K6 r.2.2.2.2.1 x.1 h
def Hm (S:List Sta) (s:ByteArray):Sta:=S.getD (J6 S s).toNat Jnt
def J8b:Con:={args:=[Jb3,aS],ress:=[(true,De)],owns:=[],pre:=fun((_,_,S,_),s,_)=>[S.length≤1000000,0≤J6 S s],spec:=fun((_,_,S,_),s,_)=>(Hm S s,())}
def Z26 (a:List Sta) (b:Bt):=0≤J6 a b
def Knc (a:List Sta) (b:Bt):=Gt a (J6 a b) Z12
theorem Kwj [Sx.Dr]:Ok Tryz.prog 175 J8b:=okW W41 Tryz.f175 na fun xx=>by
 obtain⟨⟨(tk:Int),(st:Int),(S:List Sta),(O:List Ord),(M:List Met),(X:List Out),(Q:List Per)⟩,(s:ByteArray),_⟩:=xx
 refine(by kernel_rfl:(Z62 S→Z26 S s→(Z62 S∧Tw (Bd (J6 S s) (Ln S)))∧((Knc S s).1,E2 (Knc S s).2)=Hm S s)=_).mp ?_
 delta Z12 Z26 Z62 Knc Bd Tw Ln Gt B0 E2
 exact fun h1 h2=>⟨⟨h1,⟨h2,K8⟩,⟨h2,K8⟩⟩,rfl⟩
abbrev W42 [Sx.Dr]:=W41.add Kwj
def Xj (O:List Ord) (s:ByteArray):Ord:=O.getD (K0 O s).toNat Jo
def J8e:Con:={args:=[Jb3,aS],ress:=[(true,Hj)],owns:=[],pre:=fun((_,_,_,O,_),s,_)=>[O.length≤1000000,0≤K0 O s],spec:=fun((_,_,_,O,_),s,_)=>(Xj O s,())}
def K6o (a:List Ord) (b:Bt):=Gt a (K0 a b) Jem
def K6j (a:List Ord) (b:Bt):=(K6o a b).2
def K6f (a:List Ord) (b:Bt):=(K6j a b).2
def K6d (a:List Ord) (b:Bt):=(K6f a b).2
def K6a (a:List Ord) (b:Bt):=(K6d a b).2
theorem Kv1 [Sx.Dr]:Ok Tryz.prog 198 J8e:=okW W42 Tryz.f198 na fun xx=>by
 obtain⟨⟨(tk:Int),(st:Int),(S:List Sta),(O:List Ord),(M:List Met),(X:List Out),(Q:List Per)⟩,(s:ByteArray),_⟩:=xx
 refine(by kernel_rfl:(Z64 O→0≤K0 O s→(Z64 O∧Tw (Bd (K0 O s) (Ln O)))∧((K6o O s).1,(K6j O s).1,(K6f O s).1,E2 (K6d O s).1,(K6a O s).1,E2 (K6a O s).2)=Xj O s)=_).mp ?_
 delta Z64 Z83 Jem K6o K6j K6f K6d K6a Bd Tw Ln Gt B0 E2
 exact fun h1 h2=>⟨⟨h1,⟨h2,Ut⟩,⟨h2,Ut⟩⟩,rfl⟩
abbrev W43 [Sx.Dr]:=W42.add Kv1
def Df (X:List Out) (s:ByteArray):Out:=X.getD (Kc X s).toNat Fi
def J8d:Con:={args:=[Jb3,aS],ress:=[(true,X4)],owns:=[],pre:=fun((_,_,_,_,_,X,_),s,_)=>[X.length≤1000000,0≤Kc X s],spec:=fun((_,_,_,_,_,X,_),s,_)=>(Df X s,())}
def Ks2 (a:List Out) (b:Bt):=(Gt a (Kc a b) Jgp).2
theorem Kva [Sx.Dr]:Ok Tryz.prog 242 J8d:=okW W43 Tryz.f242 na fun xx=>by
 obtain⟨⟨(tk:Int),(st:Int),(S:List Sta),(O:List Ord),(M:List Met),(X:List Out),(Q:List Per)⟩,(s:ByteArray),_⟩:=xx
 refine(by kernel_rfl:(Z55 X→0≤Kc X s→(Z55 X∧Tw (Bd (Kc X s) (Ln X)))∧((Gt X (Kc X s) Jgp).1,(Ks2 X s).1,E2 (Ks2 X s).2.1,(Ks2 X s).2.2)=Df X s)=_).mp ?_
 delta Z55 Jgp Ks2 Bd Tw Ln Gt B0 E2
 exact fun h1 h2=>⟨⟨h1,⟨h2,Us⟩,⟨h2,Us⟩⟩,rfl⟩
abbrev W44 [Sx.Dr]:=W43.add Kva
def Jm9 (Q:List Per) (s:ByteArray):Per:=Q.getD (U5 Q s).toNat Jd5
def J8c:Con:={args:=[Jb3,aS],ress:=[(true,Zl)],owns:=[],pre:=fun((_,_,_,_,_,_,Q),s,_)=>[Q.length≤1000000,0≤U5 Q s],spec:=fun((_,_,_,_,_,_,Q),s,_)=>(Jm9 Q s,())}
theorem Ku7 [Sx.Dr]:Ok Tryz.prog 245 J8c:=okW W44 Tryz.f245 na fun xx=>by
 obtain⟨⟨(tk:Int),(st:Int),(S:List Sta),(O:List Ord),(M:List Met),(X:List Out),(Q:List Per)⟩,(s:ByteArray),_⟩:=xx
 refine(by kernel_rfl:(Z54 Q→0≤U5 Q s→(Z54 Q∧Tw (Bd (U5 Q s) (Ln Q)))∧((Gt Q (U5 Q s) (B0,B0,false)).1,E2 (Gt Q (U5 Q s) (B0,B0,false)).2)=Jm9 Q s)=_).mp ?_
 delta Z54 Bd Tw Ln Gt B0 E2
 exact fun h1 h2=>⟨⟨h1,⟨h2,U4⟩,⟨h2,U4⟩⟩,rfl⟩
abbrev W45 [Sx.Dr]:=W44.add Ku7
def Vf:List Ord→ByteArray→Int→Int
 |[],_,_=>0
 |x::l,s,h=>(bif bif F3 x s then Jr x h else false then x.2.2.2.2.1 else 0)+Vf l s h
theorem Jjx {S:List Sta} {s:ByteArray} {h:Int}:∀{O:List Ord},(∀x∈O,Jc2 S x)→0≤Vf O s h∧Vf O s h≤1000*O.length
 |[],_=>by simp[Vf]
 |x::l,hO=>by
  have:=Jjx (s:=s) (h:=h) (O:=l) fun y hy=>hO y (List.mem_cons_of_mem _ hy)
  have hx:=(hO x (List.mem_cons_self ..)).pow
  unfold Vf
  simp only[List.length_cons]
  cases(bif F3 x s then Jr x h else false)<;>simp only[cond_true,cond_false]<;>omega
def Ky8:Con:={args:=[Jb3,aS,aI],ress:=[I],owns:=[],pre:=fun(r,_)=>[Jn r],spec:=fun((_,_,_,O,_),s,h,_)=>(Vf O s h,())}
abbrev J83 (O:List Ord) (s:ByteArray) (h:Int):Ann:={X:=Nat×Int,σ:=fun(k,n)=>⟨1,[(1, .one (.str s)),(2, .one (.int .i64 h)),(7, .one (.int .i64 n)),(11, .one (.sl 0)),(12, .one (.int .i64 O.length)),(13, .one (.int .i64 k))],[(0, .imm 130 Hj O)]⟩,inv:=fun(k,n)=>k≤O.length∧0≤n∧n≤1000*k∧n+Vf (O.drop k) s h=Vf O s h,mu:=fun(k,_)=>O.length-k}
def Z46 (a:Nat×Int):=Iw (Nc a.1+1)
def Z72 (a b:Int) (c:List Sta) (d:List Ord) (e:List Met) (f:List Out) (g:List Per):=(a,b,c,d,e,f,g)
def Jnb (a b:Nat×Int):=Nc a.1+1=Nc b.1
def Ju (a b:Int) (c:List Sta) (d:List Ord) (e:List Met) (f:List Out) (g:List Per):=Jn (Z72 a b c d e f g)
def Kfy (a:List Ord) (b:Nat×Int):=List.getD a b.1 Jem
def Kfw (a:List Ord) (b:Nat×Int):=(Kfy a b).2
def Kfu (a:List Ord) (b:Nat×Int):=(Kfw a b).2
def Kft (a:List Ord) (b:Nat×Int):=(Kfw a b).1
def Kfr (a:List Ord) (b:Nat×Int):=(Kfu a b).1
def Kmh (a:List Ord) (b:Nat×Int):=(Kfu a b).2
def Kmf (a:List Ord) (b:Nat×Int):=(Kmh a b).2
def Kmd (a:List Ord) (b:Nat×Int):=(Kmf a b).1
def Kmc (a:List Ord) (b:Nat×Int):=(Kmf a b).2
def Krf (a:Nat×Int) (b:List Ord):=a.2+Kmd b a
def Kq8 (a:Nat×Int) (b:List Ord):=Iw (Krf a b)
def Kq4 (a:Nat×Int) (b:List Ord) (c:Nat×Int):=Krf a b=c.2
def Kp3 (a:Nat×Int) (b:List Ord) (c:Bt) (d:Int):=a.1≤List.length b∧0≤a.2∧a.2≤1000*Nc a.1∧a.2+Vf (List.drop a.1 b) c d=Vf b c d
def K1f (a:Nat×Int) (b:List Ord) (c:Bt) (d:Int) (e:Nat×Int):=Kp3 a b c d∧List.length b-a.1<List.length b-e.1
def Jpd (a:List Ord) (b:Nat×Int):=((Kfy a b).1,Kft a b,Kfr a b,E2 (Kmh a b).1,Kmd a b,E2 (Kmc a b))
def J3x (a:List Ord) (b:Nat×Int) (c:Int):=Jr (Jpd a b) c
theorem Kwh [Sx.Dr]:Ok Tryz.prog 177 Ky8:=okW W45 Tryz.f177 (fun xx=>Y4 (J83 xx.1.2.2.2.1 xx.2.1 xx.2.2.1)) fun xx=>by
 obtain⟨⟨(tk:Int),(st:Int),(S:List Sta),(O:List Ord),(M:List Met),(X:List Out),(Q:List Per)⟩,(s:ByteArray),(h:Int),_⟩:=xx
 refine(by kernel_rfl:(Ju tk st S O M X Q→∃(x:Nat×Int),Sf s (Si h (0=x.2∧Si (Ln O) (0=Nc x.1∧O=O)))∧Kp3 x O s h∧∀(x:Nat×Int),Kp3 x O s h→Br (decide (Nc x.1<Ln O)) (Tw (Bd (Nc x.1) (Ln O))∧Br (bif F3 (Jpd O x) s then J3x O x h else false) (Kq8 x O∧Z46 x∧∃(y:Nat×Int),Sf s (Si h (Kq4 x O y∧Si (Ln O) (Jnb x y∧O=O)))∧K1f y O s h x) (Z46 x∧∃(y:Nat×Int),Sf s (Si h (x.2=y.2∧Si (Ln O) (Jnb x y∧O=O)))∧K1f y O s h x)) (x.2=Vf O s h))=_).mp ?_
 delta Z46 Z72 Z83 Jnb Ju Jem Kfy Kfw Kfu Kft Kfr Kmh Kmf Kmd Kmc Krf Kq8 Kq4 Kp3 K1f Jpd J3x Br Iw Bd Tw Sf Si Ln Nc B0 E2
 intro hr
 have hO:∀x∈O,Jc2 S x:=hr.ord
 have nO:O.length≤32:=hr.nO
 refine⟨((0:Nat),(0:Int)),⟨rfl,rfl,rfl,rfl,rfl,rfl⟩,⟨Nat.zero_le _,by simp,by simp,by simp⟩,fun(x:Nat×Int) hk=>⟨fun h1=> ?_,fun h1=> ?_⟩⟩
 ·obtain⟨k,n⟩:=x
  have hlt:k<O.length:=by simpa using h1
  have ho:=hO _ (Je (d:=Jo) hlt)
  have hp:=ho.pow
  dsimp only at hk⊢
  obtain⟨k1,k2,k3,k4⟩:=hk
  rw[Jq (d:=Jo) hlt,Vf] at k4
  refine⟨⟨by omega,by omega⟩,fun h2=> ?_,fun h2=> ?_⟩
  ·have h3:(bif F3 (O.getD k Jo) s then Jr (O.getD k Jo) h else false)=true:=h2
   rw[h3,cond_true] at k4
   refine⟨⟨?_, ?_⟩,⟨by omega,by omega⟩,(k+1,n+(O.getD k Jo).2.2.2.2.1),⟨rfl,rfl,rfl,rfl,by simp,rfl⟩,⟨by simp only;omega,by simp only;omega,by simp only;omega,by simp only;omega⟩,by simp only;omega⟩
   ·show _≤n+(O.getD k Jo).2.2.2.2.1;omega
   ·show n+(O.getD k Jo).2.2.2.2.1≤_;omega
  ·have h3:(bif F3 (O.getD k Jo) s then Jr (O.getD k Jo) h else false)=false:=h2
   rw[h3,cond_false] at k4
   refine⟨⟨by omega,by omega⟩,(k+1,n),⟨rfl,rfl,rfl,rfl,by simp,rfl⟩,⟨by simp only;omega,by simp only;omega,by simp only;omega,by simp only;omega⟩,by simp only;omega⟩
 ·obtain⟨k,n⟩:=x
  have hlt:¬k<O.length:=by simpa using h1
  simp only at hk
  have:k=O.length:=by omega
  rw[this,List.drop_length,Vf] at hk
  show n=_
  omega
abbrev W46 [Sx.Dr]:=W45.add Kwh
theorem Jet {S:List Sta} {s:ByteArray} (h:∀x∈S,Keq x) (hf:0≤J6 S s):Keq (Hm S s):=by
 have:=K8 (l:=S) (s:=s)
 exact h _ (Je (by omega))
def Jhg:List Out→ByteArray→Int→Int→Int
 |[],_,_,n=>n
 |x::l,s,h,n=>Jhg l s h (bif J1e x s h then min n x.2.2.2 else n)
def X0 (S:List Sta) (O:List Ord) (X:List Out) (s:ByteArray) (h:Int):Int:=Jhg X s h (Hm S s).2.1-Vf O s h
def Kyx:Con:={args:=[Jb3,aS,aI],ress:=[I],owns:=[],pre:=fun(r,s,_)=>[Jn r,0≤J6 r.2.2.1 s],spec:=fun((_,_,S,O,_,X,_),s,h,_)=>(X0 S O X s h,())}
abbrev J8v (tk st:Int) (S:List Sta) (O:List Ord) (M:List Met) (X:List Out) (Q:List Per) (s:ByteArray) (h:Int):Ann:={X:=Nat×Int,σ:=fun(k,n)=>⟨6,[(1, .one (.str s)),(2, .one (.int .i64 h)),(3, .one (.ptr 5 0)),(7, .one (.int .i64 n)),(15, .one (.sl 3)),(16, .one (.int .i64 X.length)),(17, .one (.int .i64 k))],[(0, .imm 127 De S),(1, .imm 130 Hj O),(2, .imm 155 Dm M),(3, .imm 188 X4 X),(4, .imm 235 Zl Q),(5, .box 105 [.int .i64 tk, .int .i64 st, .sl 0, .sl 1, .sl 2, .sl 3, .sl 4])]⟩,inv:=fun(k,n)=>k≤X.length∧0≤n∧n≤1000∧Jhg (X.drop k) s h n=Jhg X s h (Hm S s).2.1,mu:=fun(k,_)=>X.length-k}
def Kgf (a:List Out) (b:Nat×Int):=(List.getD a b.1 Jgp).2
def Kga (a:List Out) (b:Nat×Int):=(Kgf a b).2.2
def Ksk (a:List Out) (b:Nat×Int):=E2 (Kgf a b).2.1
def Jo9 (a:List Sta) (b:List Ord) (c:List Met) (d:List Out) (e:List Per) (f g:Int):=Sf a (Sf b (Sf c (Sf d (Sf e (Si f (g=g))))))
def Kqb (a:Nat×Int) (b:List Out) (c:Bt) (d:Int) (e:List Sta):=a.1≤List.length b∧0≤a.2∧a.2≤1000∧Jhg (List.drop a.1 b) c d a.2=Jhg b c d (Hm e c).2.1
def Jtu (a:Nat×Int) (b:List Sta) (c:List Ord) (d:List Met) (e:List Out) (f:List Per) (g h:Int):=0=Nc a.1∧Jo9 b c d e f g h
def Jo8 (a b:Nat×Int) (c:List Sta) (d:List Ord) (e:List Met) (f:List Out) (g:List Per) (h i:Int):=Jnb a b∧Jo9 c d e f g h i
def K1i (a:Nat×Int) (b:List Out) (c:Bt) (d:Int) (e:List Sta) (f:Nat×Int):=Kqb a b c d e∧List.length b-a.1<List.length b-f.1
theorem Ubp [Sx.Dr]:Ok Tryz.prog 91 Kyx:=okW W46 Tryz.f91 (fun xx=>Y4 (J8v xx.1.1 xx.1.2.1 xx.1.2.2.1 xx.1.2.2.2.1 xx.1.2.2.2.2.1 xx.1.2.2.2.2.2.1 xx.1.2.2.2.2.2.2 xx.2.1 xx.2.2.1)) fun xx=>by
 obtain⟨⟨(tk:Int),(st:Int),(S:List Sta),(O:List Ord),(M:List Met),(X:List Out),(Q:List Per)⟩,(s:ByteArray),(h:Int),_⟩:=xx
 refine(by kernel_rfl:(Ju tk st S O M X Q→Z26 S s→(Z62 S∧Z26 S s)∧∃(x:Nat×Int),Sf s (Si h ((Hm S s).2.1=x.2∧Si (Ln X) (Jtu x S O M X Q tk st)))∧Kqb x X s h S∧∀(x:Nat×Int),Kqb x X s h S→Br (decide (Nc x.1<Ln X)) (Tw (Bd (Nc x.1) (Ln X))∧Br (J1e ((List.getD X x.1 Jgp).1,(Kgf X x).1,Ksk X x,Kga X x) s h) (Z46 x∧∃(y:Nat×Int),Sf s (Si h (min x.2 (Kga X x)=y.2∧Si (Ln X) (Jo8 x y S O M X Q tk st)))∧K1i y X s h S x) (Z46 x∧∃(y:Nat×Int),Sf s (Si h (x.2=y.2∧Si (Ln X) (Jo8 x y S O M X Q tk st)))∧K1i y X s h S x)) ((Ju tk st S O M X Q∧Iw (x.2-Vf O s h))∧x.2-Vf O s h=X0 S O X s h))=_).mp ?_
 delta Z26 Z46 Z62 Z72 Jnb Ju Jgp Kgf Kga Ksk Jo9 Kqb Jtu Jo8 K1i Br Iw Bd Tw Sf Si Ln Nc B0 E2
 intro hr hf
 have hX:∀x∈X,Jpi S x:=hr.out
 have nO:O.length≤32:=hr.nO
 have nX:X.length≤16:=hr.nX
 have nS:S.length≤6:=hr.nS
 have hs:=Jet hr.sta hf
 have hl:=Jjx (s:=s) (h:=h) hr.ord
 refine⟨⟨by omega,hf⟩,((0:Nat),(Hm S s).2.1),⟨rfl,rfl,rfl,rfl,rfl,rfl,rfl,rfl,rfl,rfl,rfl,rfl⟩,⟨Nat.zero_le _, ?_,hs.lim.2,by simp⟩,fun(x:Nat×Int) hk=>⟨fun h1=> ?_,fun h1=> ?_⟩⟩
 ·have:=hs.lim.1
  show 0≤(Hm S s).2.1
  simp only at this
  omega
 ·obtain⟨k,n⟩:=x
  have hlt:k<X.length:=by simpa using h1
  have ho:=(hX _ (Je (d:=Fi) hlt)).rest
  dsimp only at hk⊢
  obtain⟨k1,k2,k3,k4⟩:=hk
  rw[Jq (d:=Fi) hlt,Jhg] at k4
  refine⟨⟨by omega,by omega⟩,fun h2=> ?_,fun h2=> ?_⟩
  ·have h3:J1e (X.getD k Fi) s h=true:=h2
   rw[h3,cond_true] at k4
   exact⟨⟨by omega,by omega⟩,(k+1,min n (X.getD k Fi).2.2.2),⟨rfl,rfl,rfl,rfl,by simp,rfl,rfl,rfl,rfl,rfl,rfl,rfl⟩,⟨by simp only;omega,by simp only;omega,by simp only;omega,k4⟩,by simp only;omega⟩
  ·have h3:J1e (X.getD k Fi) s h=false:=h2
   rw[h3,cond_false] at k4
   exact⟨⟨by omega,by omega⟩,(k+1,n),⟨rfl,rfl,rfl,rfl,by simp,rfl,rfl,rfl,rfl,rfl,rfl,rfl⟩,⟨by simp only;omega,by simp only;omega,by simp only;omega,k4⟩,by simp only;omega⟩
 ·obtain⟨k,n⟩:=x
  have hlt:¬k<X.length:=by simpa using h1
  simp only at hk
  have:k=X.length:=by omega
  rw[this,List.drop_length,Jhg] at hk
  unfold X0
  have hl2:Vf O s h≤1000*(O.length:Int):=hl.2
  have hl1:0≤Vf O s h:=hl.1
  refine⟨⟨hr, ?_, ?_⟩, ?_⟩
  ·show _≤n-_;omega
  ·show n-_≤_;omega
  ·show n-_=_;omega
abbrev W47 [Sx.Dr]:=W46.add Ubp
def Ye (r:Reg) (w:Int) (s:ByteArray):Bool:=bif w==0 then decide (0≤J6 r.2.2.1 s) else bif w==1 then decide (0≤K0 r.2.2.2.1 s) else bif w==2 then decide (0≤Kc r.2.2.2.2.2.1 s) else bif w==3 then decide (0≤U5 r.2.2.2.2.2.2 s) else true
def Udd:Con:={args:=[Jb3,aI,aS],ress:=[Bo],owns:=[],pre:=fun(r,_)=>[Jn r],spec:=fun(r,w,s,_)=>(Ye r w s,())}
theorem Ub0 [Sx.Dr]:Ok Tryz.prog 76 Udd:=okW W47 Tryz.f76 na fun xx=>by
 obtain⟨⟨(tk:Int),(st:Int),(S:List Sta),(O:List Ord),(M:List Met),(X:List Out),(Q:List Per)⟩,(w:Int),(s:ByteArray),_⟩:=xx
 refine(by kernel_rfl:(Ju tk st S O M X Q→Br (w==0) (Z62 S∧decide (0≤J6 S s)=Ye (Z72 tk st S O M X Q) w s) (Br (w==1) (Z64 O∧decide (0≤K0 O s)=Ye (Z72 tk st S O M X Q) w s) (Br (w==2) (Z55 X∧decide (0≤Kc X s)=Ye (Z72 tk st S O M X Q) w s) (Br (w==3) (Z54 Q∧decide (0≤U5 Q s)=Ye (Z72 tk st S O M X Q) w s) (true=Ye (Z72 tk st S O M X Q) w s)))))=_).mp ?_
 delta Z54 Z55 Z62 Z64 Z72 Ju Br
 intro hr
 have nS:S.length≤6:=hr.nS
 have nO:O.length≤32:=hr.nO
 have nX:X.length≤16:=hr.nX
 have nQ:Q.length≤16:=hr.nQ
 unfold Ye
 refine⟨fun h=> ?_,fun h=> ?_⟩
 ·rw[h];exact⟨by omega,rfl⟩
 rw[h]
 refine⟨fun h=> ?_,fun h=> ?_⟩
 ·rw[h];exact⟨by omega,rfl⟩
 rw[h]
 refine⟨fun h=> ?_,fun h=> ?_⟩
 ·rw[h];exact⟨by omega,rfl⟩
 rw[h]
 refine⟨fun h=> ?_,fun h=> ?_⟩
 ·rw[h];exact⟨by omega,rfl⟩
 rw[h];rfl
abbrev W48 [Sx.Dr]:=W47.add Ub0
def Jib:Met:=(Jb,0,0,0)
def Udc:Con:={args:=[.val true Dm, .ref 9 .str, .ref 3 sI],ress:=[Bo],owns:=[],pre:=fun _=>[],spec:=fun(x,s,h,_)=>(bif x.1.toList==s.toList then x.2.1==h else false,())}
theorem Kxg [Sx.Dr]:Ok Tryz.prog 142 Udc:=okW W48 Tryz.f142 na fun xx=>by
 obtain⟨⟨(a:ByteArray),(b:Int),(c:Int),(d:Int)⟩,(s:ByteArray),(h:Int),_⟩:=xx
 refine(by kernel_rfl:((Lb a s&&(b==h&&(c==c&&(d==d&&true))))=bif Lb a s then b==h else false)=_).mp ?_
 delta Lb
 cases a.toList==s.toList<;>cases b==h<;>simp
abbrev W49 [Sx.Dr]:=W48.add Kxg
def Jt0:=(B0,Z83)
def Knb (a:List Met) (b:Nat):=List.getD a b Jt0
def Km8 (a:List Met) (b:Nat):=(Knb a b).2
def Kqs (a:Nat) (b:List Met) (c:Met×Unit→Bool):=a≤List.length b∧Vt (fun(x:Met)=>c (x,PUnit.unit)) b 0=Vt (fun(x:Met)=>c (x,PUnit.unit)) (List.drop a b) a
def Kpb (a:List Met) (b:Nat):=((Knb a b).1,(Km8 a b).1,E2 (Km8 a b).2)
def K1k (a:List Met) (b:Nat):=(Kpb a b,PUnit.unit)
theorem Kxh [Sx.Dr]:Ok Tryz.prog 141 (Ki9 155 Dm true):=okW W49 Tryz.f141 (fun xx=>Y4 (Jmv 155 Dm true xx.1 xx.2.1.1 xx.2.1.2)) fun xx=>by
 obtain⟨(l:List Met),⟨(q:Met×Unit→List Prop),(f:Met×Unit→Bool)⟩,_⟩:=xx
 refine(by kernel_rfl:(List.length l≤1000000→(∀(x:Met),x∈l→Up (q (x,PUnit.unit)))→∃(x:Nat),Si (Ln l) (0=Nc x∧Sf l ((fun(x:Met×PUnit)=>q x)=q∧(fun(x:Met×PUnit)=>f x)=f))∧Kqs x l f∧∀(x:Nat),Kqs x l f→Br (decide (Nc x<Ln l)) (T2 (Bd (Nc x) (Ln l)) (Up (q (K1k l x)))∧Br (f (K1k l x)) (Nc x=Vt (fun(x:Met)=>f (x,PUnit.unit)) l 0) (Z20 x∧∃(y:Nat),Si (Ln l) (Vm x y∧Sf l ((fun(x:Met×PUnit)=>q x)=q∧(fun(x:Met×PUnit)=>f x)=f))∧Kqs y l f∧List.length l-y<List.length l-x)) (Z79=Vt (fun(x:Met)=>f (x,PUnit.unit)) l 0))=_).mp ?_
 delta Z20 Z79 Z83 Vm Jt0 Knb Km8 Kqs Kpb K1k Br Iw Bd T2 Sf Si Ln Nc B0 E2
 intro hb hq
 refine⟨(0:Nat),⟨rfl,rfl,rfl,rfl,rfl⟩,⟨Nat.zero_le _,rfl⟩,fun(k:Nat) hk=>⟨fun h=> ?_,fun h=> ?_⟩⟩
 ·have hlt:k<l.length:=by simpa using h
  have hd:=Yi (p:=fun x=>f (x,())) (d:=Jib) hlt
  refine⟨⟨by omega,by omega,hq (l.getD k Jib) (Je hlt)⟩,fun h1=> ?_,fun h1=>⟨by omega,(k+1:Nat),⟨rfl,rfl,rfl,by simp,rfl⟩,⟨by omega, ?_⟩,by omega⟩⟩
  ·rw[hk.2,hd,if_pos (show f (l.getD k Jib,())=true from h1)]
  ·rw[hk.2,hd,if_neg (by rw[show f (l.getD k Jib,())=false from h1];simp)]
 ·have hlt:¬k<l.length:=by simpa using h
  have:k=l.length:=by omega
  rw[hk.2,this,List.drop_length];rfl
abbrev W50 [Sx.Dr]:=W49.add Kxh
def Kix:Con:={args:=[Jb3,aS,aI],ress:=[I],owns:=[],pre:=fun(r,_)=>[Jn r],spec:=fun((_,_,_,_,M,_),s,h,_)=>(K6 M s h,())}
theorem Ub2 [Sx.Dr]:Ok Tryz.prog 73 Kix:=okW W50 Tryz.f73 na fun xx=>by
 obtain⟨⟨(tk:Int),(st:Int),(S:List Sta),(O:List Ord),(M:List Met),(X:List Out),(Q:List Per)⟩,(s:ByteArray),(h:Int),_⟩:=xx
 refine(by kernel_rfl:(Ju tk st S O M X Q→(List.length M≤1000000∧∀(x:Met),x∈M→True)∧Vt (fun(x:Met)=>match Lb x.1 s with|true=>x.2.1==h|false=>false) M 0=K6 M s h)=_).mp ?_
 delta Z72 Ju Lb
 intro hr
 have nM:M.length≤10000:=hr.nM
 exact⟨⟨by omega,fun _ _=>trivial⟩,rfl⟩
abbrev W51 [Sx.Dr]:=W50.add Ub2
def V0 (e:Ev):Int×Int:=(e.2.2.2.1.getD 1 0,e.2.2.2.1.getD 2 0)
def Kyv:Con:={args:=[aEv],ress:=[(true,La)],owns:=[],pre:=fun(e,_)=>[3≤e.2.2.2.1.length],spec:=fun(e,_)=>(V0 e,())}
def Z35 (a:Li):=Bd 1 (Ln a)
def Z36 (a:Li):=Bd 2 (Ln a)
def Z68 (a:Int) (b:Bt) (c:Ls) (d:Li) (e:Bt):=V0 (a,b,c,d,e)
def Z69 (a:Li):=3≤List.length a
def Zo (a:Li):=List.getD a 1 0
def Jm2 (a:Li):=List.getD a 2 0
def Kgc (a:Li):=T2 (Z35 a) (Tw (Z36 a))
def Kf8 (a:Li):=(Zo a,Jm2 a)
theorem Kve [Sx.Dr]:Ok Tryz.prog 238 Kyv:=okW W51 Tryz.f238 na fun xx=>by
 obtain⟨⟨(n:Int),(k:ByteArray),(ns:List ByteArray),(vs:List Int),(t:ByteArray)⟩,_⟩:=xx
 refine(by kernel_rfl:(Z69 vs→Kgc vs∧Kf8 vs=Z68 n k ns vs t)=_).mp ?_
 delta Z35 Z36 Z68 Z69 Zo Jm2 Kgc Kf8 Bd T2 Tw Ln
 intro h
 exact⟨⟨⟨by omega,by omega⟩,⟨by omega,by omega⟩,⟨by omega,by omega⟩,⟨by omega,by omega⟩⟩,rfl⟩
abbrev W52 [Sx.Dr]:=W51.add Kve
abbrev EvV (e:Ev):Prop:=∀v∈e.2.2.2.1,0≤v∧v≤999999999
def Zu (e:Ev):Int:=bif (bif (bif decide ((V0 e).1<e.2.2.2.1.getD 0 0) then true else decide ((V0 e).2≤(V0 e).1)) then true else decide (48<(V0 e).2-(V0 e).1)) then 14 else 0
def J2h:Con:={args:=[aEv],ress:=[I],owns:=[],pre:=fun(e,_)=>[3≤e.2.2.2.1.length,EvV e],spec:=fun(e,_)=>(Zu e,())}
def Z30 (a:Li):=Bd 0 (Ln a)
def U8 (a:Li):=List.getD a 0 0
def K2m (a:Int) (b:Bt) (c:Ls) (d:Li) (e:Bt):=bif decide ((Z68 a b c d e).1<U8 d) then true else decide ((Z68 a b c d e).2≤(Z68 a b c d e).1)
theorem Kvg [Sx.Dr]:Ok Tryz.prog 236 J2h:=okW W52 Tryz.f236 na fun xx=>by
 obtain⟨⟨(n:Int),(k:ByteArray),(ns:List ByteArray),(vs:List Int),(t:ByteArray)⟩,_⟩:=xx
 refine(by kernel_rfl:(Z69 vs→EvV (n,k,ns,vs,t)→Z69 vs∧T2 (Z30 vs) (K2m n k ns vs t=false→Iw ((Z68 n k ns vs t).2-(Z68 n k ns vs t).1))∧(bif bif K2m n k ns vs t then true else decide (48<(Z68 n k ns vs t).2-(Z68 n k ns vs t).1) then 14 else 0)=Zu (n,k,ns,vs,t))=_).mp ?_
 delta Z30 Z68 Z69 U8 K2m Iw Bd T2 Ln
 intro h hv
 refine⟨h,⟨⟨by omega,by omega⟩,⟨by omega,by omega⟩,fun _=> ?_⟩,rfl⟩
 have h1:=hv (vs.getD 1 0) (Je (show 1<vs.length by omega))
 have h2:=hv (vs.getD 2 0) (Je (show 2<vs.length by omega))
 unfold V0
 simp only
 omega
abbrev W53 [Sx.Dr]:=W52.add Kvg
abbrev Gap:=ByteArray×Int
abbrev J4v:Sch:= .prod .str sI
def Dg (M:List Met) (u:Int) (x:Ord):Int→Nat→List Gap
 |_,0=>[]
 |h,n+1=>(bif Jr x h&&(decide (h<u)&&decide (K6 M x.1 h<0)) then[(x.1,h)] else[])++Dg M u x (h+1) n
def Jvu (M:List Met) (u:Int) (x:Ord):List Gap:=Dg M u x x.2.2.2.1.1 (x.2.2.2.1.2-x.2.2.2.1.1).toNat
def J4 (M:List Met) (u:Int):List Ord→List Gap
 |[]=>[]
 |x::l=>Jvu M u x++J4 M u l
def Ky5:Con:={args:=[Jb3,aI],ress:=[(false, .list 200 J4v)],owns:=[true],pre:=fun(r,_)=>[Jn r],spec:=fun((_,_,_,O,M,_),u,_)=>(J4 M u O,())}
abbrev J81 (tk st:Int) (S:List Sta) (O:List Ord) (M:List Met) (X:List Out) (Q:List Per) (u:Int):Ann:={X:=Nat×List Gap,σ:=fun(k,o)=>⟨9,[(2, .one (.ptr 5 0)),(3, .one (.ptr 6 0)),(5, .one (.ptr 7 0)),(10, .one (.sl 1)),(11, .one (.int .i64 O.length)),(12, .one (.int .i64 k))],[(0, .imm 127 De S),(1, .imm 130 Hj O),(2, .imm 155 Dm M),(3, .imm 188 X4 X),(4, .imm 235 Zl Q),(5, .box 105 [.int .i64 tk, .int .i64 st, .sl 0, .sl 1, .sl 2, .sl 3, .sl 4]),(6, .box 3 [.int .i64 u]),(7, .box 50 [.sl 8]),(8, .own 200 J4v o)]⟩,inv:=fun(k,o)=>k≤O.length∧o.length≤48*k∧o++J4 M u (O.drop k)=J4 M u O,mu:=fun(k,_)=>O.length-k}
abbrev bxO (x:Ord):List SC:=[.str x.1, .str x.2.1, .str x.2.2.1, .int .i64 x.2.2.2.1.1, .int .i64 x.2.2.2.1.2, .int .i64 x.2.2.2.2.1, .int .i64 x.2.2.2.2.2.1, .int .i64 x.2.2.2.2.2.2]
def Kz (x:Ord):Nat:=(x.2.2.2.1.2-x.2.2.2.1.1).toNat
abbrev J2t (tk st:Int) (S:List Sta) (O:List Ord) (M:List Met) (X:List Out) (Q:List Per) (u:Int):Ann:={X:=Nat×List Gap×Nat,σ:=fun(k,o,j)=>⟨16,[(0, .one (.fv 13)),(1, .one (.ptr 11 0)),(3, .one (.int .i64 ((O.getD k Jo).2.2.2.1.1+j)))],[(0, .imm 127 De S),(1, .imm 130 Hj O),(2, .imm 155 Dm M),(3, .imm 188 X4 X),(4, .imm 235 Zl Q),(5, .box 105 [.int .i64 tk, .int .i64 st, .sl 0, .sl 1, .sl 2, .sl 3, .sl 4]),(6, .box 3 [.int .i64 u]),(7, .box 50 [.sl 15]),(9, .box 130 (bxO (O.getD k Jo))),(11, .box 130 (bxO (O.getD k Jo))),(13, .yld .ready),(14, .sus [(2, .one (.ptr 5 0)),(3, .one (.ptr 6 0)),(5, .one (.ptr 7 0)),(7, .one (.ptr 9 0)),(10, .one (.sl 1)),(11, .one (.int .i64 O.length)),(12, .one (.int .i64 k))]),(15, .own 200 J4v o)]⟩,inv:=fun(k,o,j)=>Jn (tk,st,S,O,M,X,Q)∧k<O.length∧j≤Kz (O.getD k Jo)∧o.length≤48*k+j∧o++(Dg M u (O.getD k Jo) ((O.getD k Jo).2.2.2.1.1+j) (Kz (O.getD k Jo)-j)++J4 M u (O.drop (k+1)))=J4 M u O,mu:=fun(k,_,j)=>Kz (O.getD k Jo)-j,rel:=some fun x y=>y.1=x.1}
theorem Jxs (a b:Bool):(bif a then b else false)=(a&&b):=by cases a<;>rfl
def Z3 (a:List Ord) (b:Nat×List Gap×Nat):=List.getD a b.1 Jo
def Z6 (a:List Ord) (b:Nat×List (Bt×Int)×Nat):=List.getD a b.1 Jo
def Z85 (a:List Ord) (b:Nat×List Gap×Nat):=(Z3 a b).2.2.2.2
def Z88 (a:List Ord) (b:Nat×List Gap×Nat):=(Z3 a b).2.2.2.1
def Z99 (a:List Ord) (b:Nat×List (Bt×Int)×Nat):=(Z6 a b).2.2.2.1
def J6f (a:List Ord) (b:Nat×List (Bt×Int)×Nat):=(Z6 a b).2.2.2.2
def J0a (a:List Ord) (b:Nat×List Gap×Nat):=(Z88 a b).1+Nc b.2.2
def J92 (a:List Ord) (b:Nat×List Gap×Nat) (c:Nat×List (Bt×Int)×Nat):=(Z3 a b).1=(Z6 a c).1
def J90 (a:List Ord) (b:Nat×List Gap×Nat) (c:Nat×List (Bt×Int)×Nat):=(Z3 a b).2.1=(Z6 a c).2.1
def J9z (a:List Ord) (b:Nat×List Gap×Nat) (c:Nat×List (Bt×Int)×Nat):=(Z3 a b).2.2.1=(Z6 a c).2.2.1
def Kge (a:List Ord) (b:Nat×List Gap×Nat) (c:Int):=decide (J0a a b<c)
def Kf9 (a:List Ord) (b:Nat×List Gap×Nat):=Iw (J0a a b+1)
def J9v (a:List Ord) (b:Nat×List Gap×Nat) (c:Nat×List (Bt×Int)×Nat):=(Z88 a b).1=(Z99 a c).1
def J9u (a:List Ord) (b:Nat×List Gap×Nat) (c:Nat×List (Bt×Int)×Nat):=(Z88 a b).2=(Z99 a c).2
def J9t (a:List Ord) (b:Nat×List Gap×Nat) (c:Nat×List (Bt×Int)×Nat):=(Z85 a b).1=(J6f a c).1
def J9s (a:List Ord) (b:Nat×List Gap×Nat) (c:Nat×List (Bt×Int)×Nat):=(Z85 a b).2.1=(J6f a c).2.1
def J9r (a:List Ord) (b:Nat×List Gap×Nat) (c:Nat×List (Bt×Int)×Nat):=(Z85 a b).2.2=(J6f a c).2.2
def Kst (a:Nat×List Gap×Nat):=(List.length a.2.1+1)*24≤140737488355328
def Ksb (a:List Ord) (b:Nat×List Gap):=List.getD a b.1 Jem
def Kr7 (a:List Ord) (b:Nat×List Gap):=(Ksb a b).2
def Kr5 (a:List Ord) (b:Nat×List Gap):=(Kr7 a b).2
def Kr4 (a:List Ord) (b:Nat×List Gap):=(Kr5 a b).2
def Kr3 (a:List Ord) (b:Nat×List Gap×Nat):=decide (J0a a b<(Z88 a b).2)
def Kr1 (a:List Ord) (b:Nat×List Gap):=(Kr4 a b).2
def Krx (a:List Ord) (b:Nat×List Gap):=(Kr4 a b).1
def Krt (a:List Ord) (b:Nat×List Gap):=(Kr1 a b).2
def Krr (a:List Ord) (b:Nat×List Gap):=(Krx a b).1
def Kfi (a:List Ord) (b:Nat×List Gap×Nat) (c:Nat×List (Bt×Int)×Nat):=J0a a b+1=(Z99 a c).1+Nc c.2.2
def Kq2 (a:Nat×List Gap×Nat) (b:List Ord):=a.2.1++[((Z3 b a).1,J0a b a)]
def Kl9 (a:List Ord) (b:Nat×List Gap) (c:Nat×List (Bt×Int)×Nat):=(Ksb a b).1=(Z6 a c).1
def Kl7 (a:List Ord) (b:Nat×List Gap) (c:Nat×List (Bt×Int)×Nat):=(Kr7 a b).1=(Z6 a c).2.1
def Kqy (a:Nat×List Gap×Nat) (b:List Ord) (c:Nat×List (Bt×Int)×Nat):=Kq2 a b=c.2.1
def Klz (a:List Ord) (b:Nat×List Gap) (c:Nat×List (Bt×Int)×Nat):=(Kr5 a b).1=(Z6 a c).2.2.1
def Klx (a:Nat×List (Bt×Int)) (b:List Ord) (c:List Met) (d:Int):=a.1≤List.length b∧List.length a.2≤48*a.1∧a.2++J4 c d (List.drop a.1 b)=J4 c d b
def Kqm (a:Nat×List Gap) (b:List Ord) (c:List Met) (d:Int):=a.1≤List.length b∧List.length a.2≤48*a.1∧a.2++J4 c d (List.drop a.1 b)=J4 c d b
def Klu (a:List Ord) (b:Nat×List Gap) (c:Nat×List (Bt×Int)×Nat):=Krr a b=(Z99 a c).1
def Klt (a:List Ord) (b:Nat×List Gap) (c:Nat×List (Bt×Int)×Nat):=(Krx a b).2=(Z99 a c).2
def Kls (a:List Ord) (b:Nat×List Gap) (c:Nat×List (Bt×Int)×Nat):=(Kr1 a b).1=(J6f a c).1
def Klp (a:List Ord) (b:Nat×List Gap) (c:Nat×List (Bt×Int)×Nat):=(Krt a b).1=(J6f a c).2.1
def Klo (a:List Ord) (b:Nat×List Gap) (c:Nat×List (Bt×Int)×Nat):=(Krt a b).2=(J6f a c).2.2
def Kpx (a:List Ord) (b:Nat×List Gap) (c:Nat×List (Bt×Int)×Nat):=Krr a b=(Z99 a c).1+Nc c.2.2
def Kky (a:Nat×List (Bt×Int)) (b:List Ord) (c:List Met) (d:Int) (e:Nat×List Gap):=Klx a b c d∧List.length b-a.1<List.length b-e.1
def Koj (a:List Ord) (b:Nat×List Gap×Nat):=Jr ((Z3 a b).1,(Z3 a b).2.1,(Z3 a b).2.2.1,E2 (Z88 a b),(Z85 a b).1,E2 (Z85 a b).2) (J0a a b)
def J4f (a:Nat×List Gap×Nat) (b:List Ord) (c:List Met) (d:Int):=a.1<List.length b∧a.2.2≤Kz (List.getD b a.1 Jo)∧List.length a.2.1≤48*a.1+a.2.2∧a.2.1++(Dg c d (List.getD b a.1 Jo) ((List.getD b a.1 Jo).2.2.2.1.1+Nc a.2.2) (Kz (List.getD b a.1 Jo)-a.2.2)++J4 c d (List.drop (a.1+1) b))=J4 c d b
def Jzf (a:Nat×List (Bt×Int)×Nat) (b:List Ord) (c:List Met) (d:Int):=a.1<List.length b∧a.2.2≤Kz (List.getD b a.1 Jo)∧List.length a.2.1≤48*a.1+a.2.2∧a.2.1++(Dg c d (List.getD b a.1 Jo) ((List.getD b a.1 Jo).2.2.2.1.1+Nc a.2.2) (Kz (List.getD b a.1 Jo)-a.2.2)++J4 c d (List.drop (a.1+1) b))=J4 c d b
def Kdw (a b:Int) (c:List Sta) (d:List Ord) (e:List Met) (f:List Out) (g:List Per) (h:Nat×List (Bt×Int)×Nat) (i:Int):=Ju a b c d e f g∧Jzf h d e i
def Kdc (a:Nat×List Gap×Nat) (b:List Ord) (c:List Sta) (d:List Met) (e:List Out) (f:List Per) (g h i:Int) (j:Nat×List Gap):=Iw (Nc a.1+1)∧∃(y:Nat×List (ByteArray×Int)),Si (Ln b) (Nc a.1+1=Nc y.1∧Sf c (Sf b (Sf d (Sf e (Sf f (Si g (Si h (Si i (a.2.1=y.2)))))))))∧Kky y b d i j
def Kc8 (a b:Int) (c:List Sta) (d:List Ord) (e:List Met) (f:List Out) (g:List Per) (h:Nat×List (Bt×Int)×Nat) (i:Int) (j:Nat×List (Bt×Int)×Nat) (k:Nat×List Gap×Nat):=(Kdw a b c d e f g h i∧h.1=j.1)∧Kz (List.getD d h.1 Jo)-h.2.2<Kz (List.getD d k.1 Jo)-k.2.2
def Kap (a:Nat×List Gap×Nat) (b:List Ord) (c:List Sta) (d:List Met) (e:List Out) (f:List Per) (g h i:Int) (j:Nat×List Gap) (k:Nat×List (Bt×Int)×Nat):=Br false (Kdc a b c d e f g h i j) (Kf9 b a∧∃(y:Nat×List (ByteArray×Int)×Nat),(Kfi b a y∧Sf c (Sf b (Sf d (Sf e (Sf f (Si g (Si h (Si i (J92 b a y∧J90 b a y∧J9z b a y∧J9v b a y∧J9u b a y∧J9t b a y∧J9s b a y∧J9r b a y∧J92 b a y∧J90 b a y∧J9z b a y∧J9v b a y∧J9u b a y∧J9t b a y∧J9s b a y∧J9r b a y∧Si (Ln b) (Nc a.1=Nc y.1∧a.2.1=y.2.1))))))))))∧Kc8 g h c b d e f y i k a)
theorem Ubo [Sx.Dr]:Ok Tryz.prog 92 Ky5:=J1g W53 Tryz.f92 (U6 (l:=([(178,Tryz.f178),(247,Tryz.f247)]:List (Nat×Func))) (List.forall_mem_cons.2 ⟨by kernel_rfl,List.forall_mem_cons.2 ⟨by kernel_rfl,by simp⟩⟩)) (fun xx=>Y4 (J81 xx.1.1 xx.1.2.1 xx.1.2.2.1 xx.1.2.2.2.1 xx.1.2.2.2.2.1 xx.1.2.2.2.2.2.1 xx.1.2.2.2.2.2.2 xx.2.1)) (fun xx=>fun f id=>if f=247 then some (J2t xx.1.1 xx.1.2.1 xx.1.2.2.1 xx.1.2.2.2.1 xx.1.2.2.2.2.1 xx.1.2.2.2.2.2.1 xx.1.2.2.2.2.2.2 xx.2.1) else none) fun xx=>by
 obtain⟨⟨(tk:Int),(st:Int),(S:List Sta),(O:List Ord),(M:List Met),(X:List Out),(Q:List Per)⟩,(u:Int),_⟩:=xx
 refine(by kernel_rfl:(Ju tk st S O M X Q→∃(x:Nat×List (ByteArray×Int)),Si (Ln O) (0=Nc x.1∧Sf S (Sf O (Sf M (Sf X (Sf Q (Si tk (Si st (Si u (List.length x.2=0)))))))))∧Klx x O M u∧∀(x:Nat×List Gap),Kqm x O M u→Br (decide (Nc x.1<Ln O)) (Tw (Bd (Nc x.1) (Ln O))∧∃(x0:Nat×List (ByteArray×Int)×Nat),(Kpx O x x0∧Sf S (Sf O (Sf M (Sf X (Sf Q (Si tk (Si st (Si u (Kl9 O x x0∧Kl7 O x x0∧Klz O x x0∧Klu O x x0∧Klt O x x0∧Kls O x x0∧Klp O x x0∧Klo O x x0∧Kl9 O x x0∧Kl7 O x x0∧Klz O x x0∧Klu O x x0∧Klt O x x0∧Kls O x x0∧Klp O x x0∧Klo O x x0∧Si (Ln O) (Nc x.1=Nc x0.1∧x.2=x0.2.1))))))))))∧(Kdw tk st S O M X Q x0 u∧x0.1=x0.1)∧∀(x_1:Nat×List Gap×Nat),(Ju tk st S O M X Q∧J4f x_1 O M u)∧x_1.1=x0.1→Br (Kr3 O x_1) (Br (Koj O x_1) ((Kge O x_1 u=true→Ju tk st S O M X Q)∧Br (bif Kge O x_1 u then decide (K6 M (Z3 O x_1).1 (J0a O x_1)<0) else false) (Kst x_1∧Br false (Iw (Nc x_1.1+1)∧∃(y:Nat×List (ByteArray×Int)),Si (Ln O) (Nc x_1.1+1=Nc y.1∧Sf S (Sf O (Sf M (Sf X (Sf Q (Si tk (Si st (Si u (Kq2 x_1 O=y.2)))))))))∧Kky y O M u x) (Kf9 O x_1∧∃(y:Nat×List (ByteArray×Int)×Nat),(Kfi O x_1 y∧Sf S (Sf O (Sf M (Sf X (Sf Q (Si tk (Si st (Si u (J92 O x_1 y∧J90 O x_1 y∧J9z O x_1 y∧J9v O x_1 y∧J9u O x_1 y∧J9t O x_1 y∧J9s O x_1 y∧J9r O x_1 y∧J92 O x_1 y∧J90 O x_1 y∧J9z O x_1 y∧J9v O x_1 y∧J9u O x_1 y∧J9t O x_1 y∧J9s O x_1 y∧J9r O x_1 y∧Si (Ln O) (Nc x_1.1=Nc y.1∧Kqy x_1 O y))))))))))∧Kc8 tk st S O M X Q y u x0 x_1)) (Kap x_1 O S M X Q tk st u x x0)) (Kap x_1 O S M X Q tk st u x x0)) (Kdc x_1 O S M X Q tk st u x)) (Sf true (x.2=J4 M u O)))=_).mp ?_
 delta Z3 Z6 Z72 Z83 Z85 Z88 Z99 J6f Ju J0a J92 J90 J9z Kge Kf9 Jem J9v J9u J9t J9s J9r Kst Ksb Kr7 Kr5 Kr4 Kr3 Kr1 Krx Krt Krr Kfi Kq2 Kl9 Kl7 Kqy Klz Klx Kqm Klu Klt Kls Klp Klo Kpx Kky Koj J4f Jzf Kdw Kdc Kc8 Kap Br Iw Bd Tw Sf Si Ln Nc B0 E2
 intro hr
 have nO:O.length≤32:=hr.nO
 refine⟨((0:Nat),[]),by(repeat' first|exact rfl|apply And.intro|exact(Int.add_zero _).symm|omega|dsimp only;omega),⟨Nat.zero_le _,Nat.zero_le _,rfl⟩,fun(x:Nat×List Gap) hk=>⟨fun h1=> ?_,fun h1=> ?_⟩⟩
 ·obtain⟨k,o⟩:=x
  have hlt:k<O.length:=by simpa using h1
  obtain⟨k1,k2,k3⟩:=hk
  dsimp only at k1 k2 k3
  rw[Jq (d:=Jo) hlt,J4,Jvu] at k3
  refine⟨⟨⟨by dsimp only;omega,by dsimp only;omega⟩,by dsimp only;omega,by dsimp only;omega⟩,(k,o,(0:Nat)), ?_,⟨⟨hr,hlt,Nat.zero_le _,by simpa using k2, ?_⟩,rfl⟩,fun(y:Nat×List Gap×Nat) hy=> ?_⟩
  ·repeat' first|exact rfl|apply And.intro|exact(Int.add_zero _).symm|omega|dsimp only;omega
  ·simpa[Kz] using k3
  obtain⟨k',o,j⟩:=y
  obtain⟨⟨_,i1,i2,i3,i4⟩,hkk⟩:=hy
  have hkk:k'=k:=hkk
  subst hkk
  dsimp only at i1 i2 i3 i4
  have ho:Jm5 (O.getD k' Jo).2.2.2.1:=(hr.ord (O.getD k' Jo) (Je hlt)).span
  have hn:Kz (O.getD k' Jo)≤48∧(Kz (O.getD k' Jo):Int)=(O.getD k' Jo).2.2.2.1.2-(O.getD k' Jo).2.2.2.1.1:=by
   have:=ho.mid;have:=ho.len
   unfold Kz
   constructor<;>omega
  have b1:=ho.lo
  have b2:=ho.hi
  refine⟨fun h2=> ?_,fun h2=> ?_⟩
  ·have h2:(O.getD k' Jo).2.2.2.1.1+(j:Int)<(O.getD k' Jo).2.2.2.1.2:=of_decide_eq_true h2
   have hj:Kz (O.getD k' Jo)-j=(Kz (O.getD k' Jo)-(j+1))+1:=by omega
   rw[hj,Dg] at i4
   have hB: -9223372036854775808≤(O.getD k' Jo).2.2.2.1.1+(j:Int)+1∧(O.getD k' Jo).2.2.2.1.1+(j:Int)+1≤9223372036854775807:=by omega
   have hc:(O.getD k' Jo).2.2.2.1.1+(j:Int)+1=(O.getD k' Jo).2.2.2.1.1+((j+1:Nat):Int):=by omega
   refine⟨fun h3=>⟨fun _=>hr,fun h4=>⟨by dsimp only;omega,fun f=>(by cases f),fun _=>⟨hB,(k',o++[((O.getD k' Jo).1,(O.getD k' Jo).2.2.2.1.1+(j:Int))],j+1), ?_,⟨⟨hr,hlt,by dsimp only;omega,by simp;omega, ?_⟩,rfl⟩,by dsimp only;omega⟩⟩,fun h4=>⟨fun f=>(by cases f),fun _=>⟨hB,(k',o,j+1), ?_,⟨⟨hr,hlt,by dsimp only;omega,by dsimp only;omega, ?_⟩,rfl⟩,by dsimp only;omega⟩⟩⟩,fun h3=>⟨fun f=>(by cases f),fun _=>⟨hB,(k',o,j+1), ?_,⟨⟨hr,hlt,by dsimp only;omega,by dsimp only;omega, ?_⟩,rfl⟩,by dsimp only;omega⟩⟩⟩
   ·repeat' first|exact rfl|apply And.intro|exact(Int.add_zero _).symm|omega|dsimp only;omega
   ·have h3:Jr (O.getD k' Jo) ((O.getD k' Jo).2.2.2.1.1+(j:Int))=true:=h3
    have h4:(bif decide ((O.getD k' Jo).2.2.2.1.1+(j:Int)<u) then decide (K6 M (O.getD k' Jo).1 ((O.getD k' Jo).2.2.2.1.1+(j:Int))<0) else false)=true:=h4
    rw[Jxs] at h4
    rw[h3,Bool.true_and,h4,hc] at i4
    rw[←i4]
    simp
   ·repeat' first|exact rfl|apply And.intro|exact(Int.add_zero _).symm|omega|dsimp only;omega
   ·have h3:Jr (O.getD k' Jo) ((O.getD k' Jo).2.2.2.1.1+(j:Int))=true:=h3
    have h4:(bif decide ((O.getD k' Jo).2.2.2.1.1+(j:Int)<u) then decide (K6 M (O.getD k' Jo).1 ((O.getD k' Jo).2.2.2.1.1+(j:Int))<0) else false)=false:=h4
    rw[Jxs] at h4
    rw[h3,Bool.true_and,h4,hc] at i4
    rw[←i4]
    simp
   ·repeat' first|exact rfl|apply And.intro|exact(Int.add_zero _).symm|omega|dsimp only;omega
   ·have h3:Jr (O.getD k' Jo) ((O.getD k' Jo).2.2.2.1.1+(j:Int))=false:=h3
    rw[h3,hc] at i4
    rw[←i4]
    simp
  ·have h2:¬(O.getD k' Jo).2.2.2.1.1+(j:Int)<(O.getD k' Jo).2.2.2.1.2:=of_decide_eq_false h2
   have hj:Kz (O.getD k' Jo)-j=0:=by omega
   rw[hj,Dg] at i4
   refine⟨⟨by dsimp only;omega,by dsimp only;omega⟩,(k'+1,o), ?_,⟨by dsimp only;omega,by dsimp only;omega,by simpa using i4⟩,by dsimp only;omega⟩
   repeat' first|exact rfl|apply And.intro|exact(Int.add_zero _).symm|omega|dsimp only;omega
 ·obtain⟨k,o⟩:=x
  have hlt:¬k<O.length:=by simpa using h1
  obtain⟨k1,k2,k3⟩:=hk
  dsimp only at k1 k2 k3
  have:k=O.length:=by omega
  rw[this,List.drop_length,J4,List.append_nil] at k3
  exact⟨rfl,k3⟩
abbrev W54 [Sx.Dr]:=W53.add Ubo
abbrev aE:AK:=aEv
abbrev Jo5 (T U:TypeId) (s:Sch) (l:List s.T) (g:Bool) (q:Tup [(g,s)]→List Prop) (f:Tup [(g,s)]→Bool):Ann:={X:=Nat,σ:=fun k=>⟨3,[(1, .one (.fv 1)),(5, .one (.sl 2)),(8, .one (.sl 0)),(9, .one (.int .i64 l.length)),(10, .one (.int .i64 k))],[(0, .imm T s l),(1, .afn [(g,s)] Bo q f),(2, .own U s ((l.take k).filter fun x=>f (x,())))]⟩,inv:=fun k=>k≤l.length,mu:=fun k=>l.length-k}
def Ki6:Con:={args:=[.val false (.list 235 Zl), .fn [(true,Zl)] Bo],ress:=[(false, .list 235 Zl)],owns:=[true],pre:=fun(l,(q,_),_)=>[l.length≤1000000,∀x∈l,Up (q (x,()))],spec:=fun(l,(_,f),_)=>(l.filter fun x=>f (x,()),())}
theorem Jf3 {α:Type} {p:α→Bool} {l:List α} {k:Nat} (h:k≤l.length):((l.take k).filter p).length≤k:=by
 have:=List.length_filter_le p (l.take k)
 rw[List.length_take] at this
 omega
def J53 (a:Per×Unit→Bool) (b:Nat) (c:List Per):=List.filter (fun(x:Per)=>a (x,PUnit.unit)) (List.take b c)
def J5v (a:Nat) (b:List Per) (c:Nat):=a≤List.length b∧Jz8 b a c
theorem Ku9 [Sx.Dr]:Ok Tryz.prog 243 Ki6:=okW W54 Tryz.f243 (fun xx=>Y4 (Jo5 235 235 Zl xx.1 true xx.2.1.1 xx.2.1.2)) fun xx=>by
 obtain⟨(l:List Per),⟨(q:Per×Unit→List Prop),(f:Per×Unit→Bool)⟩,_⟩:=xx
 refine(by kernel_rfl:(Z54 l→Kfx l q→∃(x:Nat),Si (Ln l) (0=Nc x∧Sf l ((fun(x:Per×PUnit)=>q x)=q∧(fun(x:Per×PUnit)=>f x)=f∧List.length (J53 f x l)=0))∧x≤List.length l∧∀(x:Nat),x≤List.length l→Br (Jt2 x l) (Tw (Z23 x l)∧Kfj q l x∧Br (Krb f l x) ((List.length (J53 f x l)+1)*40≤140737488355328∧Z20 x∧∃(y:Nat),Si (Ln l) (Vm x y∧Sf l ((fun(x:Per×PUnit)=>q x)=q∧(fun(x:Per×PUnit)=>f x)=f∧J53 f x l++[Kme l x]=J53 f y l))∧J5v y l x) (Z20 x∧∃(y:Nat),Si (Ln l) (Vm x y∧Sf l ((fun(x:Per×PUnit)=>q x)=q∧(fun(x:Per×PUnit)=>f x)=f∧J53 f x l=J53 f y l))∧J5v y l x)) (J53 f x l=List.filter (fun(x:Per)=>f (x,PUnit.unit)) l))=_).mp ?_
 delta Z20 Z23 Z54 Vm Jt2 J0d Jz8 J53 J5v Kfx Kme Kfl Krb Kfj Br Iw Bd Tw Sf Si Ln Nc B0 E2
 intro hb hq
 refine⟨(0:Nat),⟨rfl,rfl,rfl,rfl,rfl,by simp⟩,Nat.zero_le _,fun(k:Nat) hk=>⟨fun h=> ?_,fun h=> ?_⟩⟩
 ·have hlt:k<l.length:=by simpa using h
  have hf:=Jf3 (p:=fun x=>f (x,())) hk
  have ht:=Km (d:=Jd5) hlt
  refine⟨by omega,hq (l.getD k Jd5) (Je hlt),fun h1=> ?_,fun h1=> ?_⟩
  ·have h1:f (l.getD k Jd5,())=true:=h1
   refine⟨by show((List.filter (fun x=>f (x,())) (List.take k l)).length+1)*40≤_;omega,by omega,(k+1:Nat),⟨rfl,by simp,rfl,rfl,rfl, ?_⟩,by omega,by omega⟩
   rw[←ht,List.filter_append,List.filter_cons,if_pos h1];rfl
  ·have h1:f (l.getD k Jd5,())=false:=h1
   refine⟨by omega,(k+1:Nat),⟨rfl,by simp,rfl,rfl,rfl, ?_⟩,by omega,by omega⟩
   rw[←ht,List.filter_append,List.filter_cons,if_neg (by rw[h1];decide)];simp
 ·have hlt:¬k<l.length:=by simpa using h
  rw[List.take_of_length_le (by omega)]
abbrev W55 [Sx.Dr]:=W54.add Ku9
def J5i:Con:={args:=[.val true Zl],ress:=[Bo],owns:=[],pre:=fun _=>[],spec:=fun(x,_)=>(x.2.2,())}
theorem Kt3 [Sx.Dr] (x:Per):wpF Tryz.prog W55.g (na ()) Tryz.f261 J5i (x,()):=by
 refine(by kernel_rfl:(x.2.2=x.2.2)=_).mp ?_
 rfl
theorem Ku3 [Sx.Dr]:Ok Tryz.prog 261 J5i:=Vy mixed W55.ok (by kernel_rfl) (by kernel_rfl) na fun xx=>Kt3 xx.1
abbrev W56 [Sx.Dr]:=W55.add Ku3
def Ha (Q:List Per):List Per:=Q.filter fun x=>x.2.2
def Kiu:Con:={args:=[Jb3],ress:=[(false, .list 235 Zl)],owns:=[true],pre:=fun(r,_)=>[Jn r],spec:=fun((_,_,_,_,_,_,Q),_)=>(Ha Q,())}
theorem Kvs [Sx.Dr]:Ok Tryz.prog 207 Kiu:=okW W56 Tryz.f207 na fun xx=>by
 obtain⟨⟨(tk:Int),(st:Int),(S:List Sta),(O:List Ord),(M:List Met),(X:List Out),(Q:List Per)⟩,_⟩:=xx
 refine(by kernel_rfl:(Ju tk st S O M X Q→Kri Q∧List.filter (fun(x:Per)=>x.2.2) Q=Ha Q)=_).mp ?_
 delta Z54 Z72 Ju Kri
 intro hr
 have nQ:Q.length≤16:=hr.nQ
 exact⟨⟨by omega,fun _ _=>trivial⟩,rfl⟩
abbrev W57 [Sx.Dr]:=W56.add Kvs
theorem Jd6 {Q:List Per}:(Ha Q).length≤Q.length:=List.length_filter_le _ _
theorem Jly {Q:List Per} {x:Per} (h:x∈Ha Q):x∈Q:=(List.mem_filter.1 h).1
def Kio:Con:={args:=[.val true Zl, .ref 188 X4],ress:=[Bo],owns:=[],pre:=fun _=>[],spec:=fun(x,y,_)=>(x.2.1.toList==y.1.toList,())}
theorem Kt4 [Sx.Dr] (x:Per) (y:Out):wpF Tryz.prog W57.g (na ()) Tryz.f244 Kio (x,y,()):=by
 refine(by kernel_rfl:(Lb x.2.1 y.1=Lb x.2.1 y.1)=_).mp ?_
 delta Lb
 rfl
theorem Ku8 [Sx.Dr]:Ok Tryz.prog 244 Kio:=Vy mixed W57.ok (by kernel_rfl) (by kernel_rfl) na fun xx=>Kt4 xx.1 xx.2.1
abbrev W58 [Sx.Dr]:=W57.add Ku8
def Kyw:Con:={args:=[.val true Zl, .ref 105 Jkq, .ref 3 sI],ress:=[Bo],owns:=[],pre:=fun(x,r,_)=>[Jn r,0≤Kc r.2.2.2.2.2.1 x.2.1],spec:=fun(x,(_,_,_,_,_,X,_),h,_)=>(decide ((Df X x.2.1).2.2.1.2≤h),())}
theorem Ku6 [Sx.Dr]:Ok Tryz.prog 246 Kyw:=okW W58 Tryz.f246 na fun xx=>by
 obtain⟨⟨(a:ByteArray),(b:ByteArray),(c:Bool)⟩,⟨(tk:Int),(st:Int),(S:List Sta),(O:List Ord),(M:List Met),(X:List Out),(Q:List Per)⟩,(h:Int),_⟩:=xx
 refine(by kernel_rfl:(Ju tk st S O M X Q→0≤Kc X b→(Z55 X∧0≤Kc X b)∧decide ((Df X b).2.2.1.2≤h)=decide ((Df X b).2.2.1.2≤h))=_).mp ?_
 delta Z55 Z72 Ju
 intro hr h
 have nX:X.length≤16:=hr.nX
 repeat' first|assumption|exact rfl|trivial|omega|apply And.intro|intro _
abbrev W59 [Sx.Dr]:=W58.add Ku6
def Ky3:Con:={args:=[aI, .ref 105 Jkq, .ref 9 .str, .ref 9 .str, .ref 3 sI],ress:=[Bo],owns:=[],pre:=fun(_,r,a,b,_)=>[Jn r,0≤J6 r.2.2.1 a,0≤J6 r.2.2.1 b],spec:=fun(h,(_,_,S,O,_,X,_),a,b,p,_)=>(decide (min (X0 S O X a h) (X0 S O X b h)<p),())}
theorem Kvd [Sx.Dr]:Ok Tryz.prog 239 Ky3:=okW W59 Tryz.f239 na fun xx=>by
 obtain⟨(h:Int),⟨(tk:Int),(st:Int),(S:List Sta),(O:List Ord),(M:List Met),(X:List Out),(Q:List Per)⟩,(a:ByteArray),(b:ByteArray),(p:Int),_⟩:=xx
 refine(by kernel_rfl:(Ju tk st S O M X Q→Z26 S a→Z26 S b→(Ju tk st S O M X Q∧Z26 S a∧Ju tk st S O M X Q∧Z26 S b)∧decide (min (X0 S O X a h) (X0 S O X b h)<p)=decide (min (X0 S O X a h) (X0 S O X b h)<p))=_).mp ?_
 delta Z26 Z72 Ju
 intro hr h1 h2
 repeat' first|assumption|exact rfl|trivial|omega|apply And.intro|intro _
abbrev W60 [Sx.Dr]:=W59.add Kvd
def Ky2:Con:={args:=[aI, .ref 105 Jkq, .ref 9 .str, .ref 3 sI],ress:=[Bo],owns:=[],pre:=fun(_,r,a,_)=>[Jn r],spec:=fun(h,(_,_,_,O,_),a,p,_)=>(decide (p<Vf O a h),())}
theorem Kvb [Sx.Dr]:Ok Tryz.prog 241 Ky2:=okW W60 Tryz.f241 na fun xx=>by
 obtain⟨(h:Int),⟨(tk:Int),(st:Int),(S:List Sta),(O:List Ord),(M:List Met),(X:List Out),(Q:List Per)⟩,(a:ByteArray),(p:Int),_⟩:=xx
 refine(by kernel_rfl:(Ju tk st S O M X Q→Ju tk st S O M X Q∧decide (p<Vf O a h)=decide (p<Vf O a h))=_).mp ?_
 delta Z72 Ju
 intro hr
 repeat' first|assumption|exact rfl|trivial|omega|apply And.intro|intro _
abbrev W61 [Sx.Dr]:=W60.add Kvb
def Js7 (f:Int→Bool):Int→Nat→Bool
 |_,0=>false
 |a,n+1=>bif f a then true else Js7 f (a+1) n
def Hw (s:Int×Int) (f:Int→Bool):Bool:=Js7 f s.1 (s.2-s.1).toNat
def Kjj:Con:={args:=[.val true La, .fn [I] Bo],ress:=[Bo],owns:=[],pre:=fun(s,(q,_),_)=>[0≤s.1∧s.1≤999999999,0≤s.2∧s.2≤999999999,∀h,s.1≤h→h<s.2→Up (q (h,()))],spec:=fun(s,(_,f),_)=>(Hw s fun h=>f (h,()),())}
abbrev J2v (a b:Int) (q:Int×Unit→List Prop) (f:Int×Unit→Bool):Ann:={X:=Nat,σ:=fun k=>⟨2,[(1, .one (.fv 1)),(2, .one (.ptr 0 0)),(5, .one (.bool false)),(11, .one (.int .i64 (b-a))),(12, .one (.int .i64 k))],[(0, .box 117 [.int .i64 a, .int .i64 b]),(1, .afn [I] Bo q f)]⟩,inv:=fun k=>k≤(b-a).toNat∧Hw (a,b) (fun h=>f (h,()))=Js7 (fun h=>f (h,())) (a+k) ((b-a).toNat-k),mu:=fun k=>(b-a).toNat-k}
def Khc (a:Int):=0≤a∧a≤999999999
def Kqj (a:Nat) (b c:Int) (d:Int×Unit→Bool):=a≤Int.toNat (b-c)∧(Hw (c,b) fun(h:Int)=>d (h,PUnit.unit))=Js7 (fun(h:Int)=>d (h,PUnit.unit)) (c+Nc a) (Int.toNat (b-c)-a)
theorem Kvf [Sx.Dr]:Ok Tryz.prog 237 Kjj:=okW W61 Tryz.f237 (fun xx=>Y4 (J2v xx.1.1 xx.1.2 xx.2.1.1 xx.2.1.2)) fun xx=>by
 obtain⟨⟨(a:Int),(b:Int)⟩,⟨(q:Int×Unit→List Prop),(f:Int×Unit→Bool)⟩,_⟩:=xx
 refine(by kernel_rfl:(Khc a→Khc b→(∀(h:Int),a≤h→h<b→Up (q (h,PUnit.unit)))→Iw (b-a)∧∃(x:Nat),Sf false (Si (b-a) (0=Nc x∧Si a (Si b ((fun(x:Int×PUnit)=>q x)=q∧(fun(x:Int×PUnit)=>f x)=f))))∧Kqj x b a f∧∀(x:Nat),Kqj x b a f→Br (decide (Nc x<b-a)) ((Iw (a+Nc x)∧Up (q (a+Nc x,PUnit.unit)))∧Br (f (a+Nc x,PUnit.unit)) (true=Hw (a,b) fun(h:Int)=>f (h,PUnit.unit)) (Z20 x∧∃(y:Nat),Sf false (Si (b-a) (Vm x y∧Si a (Si b ((fun(x:Int×PUnit)=>q x)=q∧(fun(x:Int×PUnit)=>f x)=f))))∧Kqj y b a f∧Int.toNat (b-a)-y<Int.toNat (b-a)-x)) (false=Hw (a,b) fun(h:Int)=>f (h,PUnit.unit)))=_).mp ?_
 delta Z20 Vm Khc Kqj Br Iw Sf Si Nc
 intro h1 h2 hq
 refine⟨by omega,(0:Nat),⟨rfl,rfl,rfl,rfl,rfl,rfl,rfl⟩,⟨Nat.zero_le _,by simp[Hw]⟩,fun(k:Nat) hk=>⟨fun h=> ?_,fun h=> ?_⟩⟩
 ·have h:(k:Int)<b-a:=of_decide_eq_true h
  obtain⟨k1,k2⟩:=hk
  have hj:(b-a).toNat-k=((b-a).toNat-(k+1))+1:=by omega
  rw[hj,Js7] at k2
  refine⟨⟨by omega,hq (a+k) (by omega) (by omega)⟩,fun h3=> ?_,fun h3=>⟨by omega,(k+1:Nat),⟨rfl,rfl,by simp,rfl,rfl,rfl,rfl⟩,⟨by omega, ?_⟩,by omega⟩⟩
  ·rw[k2]
   show true=bif f (a+(k:Int),PUnit.unit) then true else _
   rw[h3];rfl
  ·rw[k2]
   show(bif f (a+(k:Int),PUnit.unit) then true else _)=_
   rw[h3,Int.natCast_add,←Int.add_assoc];rfl
 ·have h:¬(k:Int)<b-a:=of_decide_eq_false h
  have hj:(b-a).toNat-k=0:=by omega
  rw[hk.2,hj];rfl
abbrev W62 [Sx.Dr]:=W61.add Kvf
def Jmp (S:List Sta) (vs:List Int):Int:=Jg [Kr (vs.getD 1 0) 1 1000,bif decide ((6:Int)≤S.length) then 5 else 0]
def Kjk:Con:={args:=[Jb3,aEv],ress:=[I],owns:=[],pre:=fun(r,e,_)=>[Jn r,2≤e.2.2.2.1.length],spec:=fun((tk,st,S,O,M,X,Q),(n,k,ns,vs,tx),_)=>(Jmp S vs,())}
def Z66 (a:Li):=2≤List.length a
theorem Kxa [Sx.Dr]:Ok Tryz.prog 148 Kjk:=okW W62 Tryz.f148 na fun xx=>by
 obtain⟨⟨(tk:Int),(st:Int),(S:List Sta),(O:List Ord),(M:List Met),(X:List Out),(Q:List Per)⟩,⟨(n:Int),(k:ByteArray),(ns:List ByteArray),(vs:List Int),(tx:ByteArray)⟩,_⟩:=xx
 refine(by kernel_rfl:(Ju tk st S O M X Q→Z66 vs→T2 (Z35 vs) (2≤1000000)∧Jg [Kr (Zo vs) 1 1000,bif decide (6≤Ln S) then 5 else 0]=Jmp S vs)=_).mp ?_
 delta Z35 Z66 Z72 Zo Ju Bd T2 Ln
 intro hr h
 repeat' first|assumption|exact rfl|trivial|omega|apply And.intro|intro _
abbrev W63 [Sx.Dr]:=W62.add Kxa
def Joy (vs:List Int):Int:=Kr (vs.getD 1 0) 0 1000
def Kjm:Con:={args:=[Jb3,aEv],ress:=[I],owns:=[],pre:=fun(r,e,_)=>[2≤e.2.2.2.1.length],spec:=fun((tk,st,S,O,M,X,Q),(n,k,ns,vs,tx),_)=>(Joy vs,())}
def Jrj (a:Li):=Tw (Z35 a)
theorem Kw6 [Sx.Dr]:Ok Tryz.prog 152 Kjm:=okW W63 Tryz.f152 na fun xx=>by
 obtain⟨⟨(tk:Int),(st:Int),(S:List Sta),(O:List Ord),(M:List Met),(X:List Out),(Q:List Per)⟩,⟨(n:Int),(k:ByteArray),(ns:List ByteArray),(vs:List Int),(tx:ByteArray)⟩,_⟩:=xx
 refine(by kernel_rfl:(Z66 vs→Jrj vs∧Kr (Zo vs) 0 1000=Joy vs)=_).mp ?_
 delta Z35 Z66 Jrj Zo Bd Tw Ln
 intro h
 repeat' first|assumption|exact rfl|trivial|omega|apply And.intro|intro _
abbrev W64 [Sx.Dr]:=W63.add Kw6
def Jik (e:Ev):Int:=Jg [bif (e.2.2.1.getD 1 Jb).toList==(e.2.2.1.getD 2 Jb).toList then 24 else 0,Zu e,Kr (e.2.2.2.1.getD 3 0) 1 1000]
def Jwm (S:List Sta) (O:List Ord) (X:List Out) (e:Ev):Bool:=Hw (V0 e) fun h=>decide (min (X0 S O X (e.2.2.1.getD 1 Jb) h) (X0 S O X (e.2.2.1.getD 2 Jb) h)<e.2.2.2.1.getD 3 0)
def Jct (S:List Sta) (O:List Ord) (X:List Out) (e:Ev):Int:=if Jik e≠0 then Jik e else Jg [bif Jwm S O X e then 4 else 0,bif decide ((32:Int)≤O.length) then 5 else 0]
def Kjo:Con:={args:=[Jb3,aEv],ress:=[I],owns:=[],pre:=fun(r,e,_)=>[Jn r,EvV e,e.2.2.1.length=3,e.2.2.2.1.length=4,0≤J6 r.2.2.1 (e.2.2.1.getD 1 Jb),0≤J6 r.2.2.1 (e.2.2.1.getD 2 Jb)],spec:=fun((tk,st,S,O,M,X,Q),(n,k,ns,vs,tx),_)=>(Jct S O X (n,k,ns,vs,tx),())}
def Z29 (a:Li):=Bd 3 (Ln a)
def Z56 (a:Li):=List.length a=4
def J0h (a:Li):=Tw (Z29 a)
def Jpe (a:Ls):=List.getD a 2 B0
def J6d (a:Ls):=Bd 2 (Ln a)
def Jeo (a:Ls):=Bd 1 (Ln a)
def Lp (a:Ls):=List.getD a 1 B0
def Jb4 (a:Li):=List.getD a 3 0
def J99 (a:Ls):=List.getD a 2 Jb
def Jt1 (a:Ls):=List.length a=3
def Jko (a:Ls):=List.getD a 1 Jb
def J0b (a:List Sta) (b:Ls):=J6 a (Lp b)
def J52 (a:List Sta) (b:Ls):=0≤J0b a b
def Kgj (a:List Sta) (b:Ls):=0≤J6 a (Jko b)
def Ks1 (a:Ls):=Lb (Lp a) (Jpe a)
def K07 (a:Ls) (b:Int) (c:Bt) (d:Li) (e:Bt):=Jg [bif Ks1 a then 24 else 0,Zu (b,c,a,d,e),Kr (Jb4 d) 1 1000]
theorem Kw4 [Sx.Dr]:Ok Tryz.prog 154 Kjo:=okW W64 Tryz.f154 na fun xx=>by
 obtain⟨⟨(tk:Int),(st:Int),(S:List Sta),(O:List Ord),(M:List Met),(X:List Out),(Q:List Per)⟩,⟨(n:Int),(k:ByteArray),(ns:List ByteArray),(vs:List Int),(tx:ByteArray)⟩,_⟩:=xx
 refine(by kernel_rfl:(Ju tk st S O M X Q→EvV (n,k,ns,vs,tx)→Jt1 ns→Z56 vs→Kgj S ns→0≤J6 S (J99 ns)→T2 (Jeo ns) (T2 (J6d ns) (J0h vs))∧(Z69 vs∧EvV (n,k,ns,vs,tx)∧3≤1000000)∧Br (K07 ns n k vs tx !=0) (K07 ns n k vs tx=Jct S O X (n,k,ns,vs,tx)) ((Z69 vs∧(0≤(Z68 n k ns vs tx).1∧(Z68 n k ns vs tx).1≤999999999)∧(0≤(Z68 n k ns vs tx).2∧(Z68 n k ns vs tx).2≤999999999)∧∀(h:Int),(Z68 n k ns vs tx).1≤h→h<(Z68 n k ns vs tx).2→Ju tk st S O M X Q∧J52 S ns∧0≤J6 S (Jpe ns))∧2≤1000000∧Jg [bif Hw (E2 (Z68 n k ns vs tx)) fun(h:Int)=>decide (min (X0 S O X (Lp ns) h) (X0 S O X (Jpe ns) h)<Jb4 vs) then 4 else 0,bif decide (32≤Ln O) then 5 else 0]=Jct S O X (n,k,ns,vs,tx)))=_).mp ?_
 delta Z29 Z56 Z68 Z69 Z72 J0h Jpe J6d Jeo Lp Jb4 J99 Jt1 Jko Ju J0b J52 Kgj Ks1 K07 Br Bd T2 Tw Ln B0 Lb E2
 intro hr hv hn hl h1 h2
 have sp:(0≤(V0 (n,k,ns,vs,tx)).1∧(V0 (n,k,ns,vs,tx)).1≤999999999)∧0≤(V0 (n,k,ns,vs,tx)).2∧(V0 (n,k,ns,vs,tx)).2≤999999999:=⟨hv (vs.getD 1 0) (Je (show 1<vs.length by omega)),hv (vs.getD 2 0) (Je (show 2<vs.length by omega))⟩
 refine⟨by omega,⟨by omega,hv,by omega⟩,fun h=> ?_,fun h=>⟨⟨by omega,sp.1,sp.2,fun _ _ _=>⟨hr,h1,h2⟩⟩,by omega, ?_⟩⟩
 ·have h:Jik (n,k,ns,vs,tx)≠0:=bne_iff_ne.1 h
  unfold Jct;rw[if_pos h];rfl
 ·have h:¬Jik (n,k,ns,vs,tx)≠0:=by have:=bne_eq_false_iff_eq.1 h;exact fun f=>f this
  unfold Jct;rw[if_neg h];rfl
abbrev W65 [Sx.Dr]:=W64.add Kw4
def Jmq (O:List Ord) (M:List Met) (ns:List ByteArray) (vs:List Int):Int:=Jg [bif decide (vs.getD 0 0≤vs.getD 1 0) then 11 else 0,bif !Ki (Xj O (ns.getD 0 Jb)).2.2.2.1 (vs.getD 1 0) then 14 else 0,bif !Jr (Xj O (ns.getD 0 Jb)) (vs.getD 1 0) then 23 else 0,bif decide (0≤K6 M (Xj O (ns.getD 0 Jb)).1 (vs.getD 1 0)) then 9 else 0,bif (bif decide ((Xj O (ns.getD 0 Jb)).2.2.2.2.1<vs.getD 2 0) then true else decide (vs.getD 2 0<vs.getD 3 0)) then 3 else 0]
def Kjp:Con:={args:=[Jb3,aEv],ress:=[I],owns:=[],pre:=fun(r,e,_)=>[Jn r,1≤e.2.2.1.length,4≤e.2.2.2.1.length,0≤K0 r.2.2.2.1 (e.2.2.1.getD 0 Jb)],spec:=fun((tk,st,S,O,M,X,Q),(n,k,ns,vs,tx),_)=>(Jmq O M ns vs,())}
def Z53 (a:Li):=4≤List.length a
def Yd (a:Ls):=Bd 0 (Ln a)
def Uz (a:Ls):=List.getD a 0 B0
def Da (a:Ls):=List.getD a 0 Jb
def Xd (a:Ls):=1≤List.length a
def J97 (a:List Ord) (b:Ls):=Xj a (Uz b)
def Jrg (a:List Ord) (b:Ls):=K0 a (Uz b)
def Kgu (a:List Ord) (b:Ls):=(J97 a b).2.2
def Kgr (a:List Ord) (b:Ls):=(Kgu a b).2.1
def J94 (a:List Ord) (b:Ls):=(Kgu a b).2.2
def Jtx (a:List Ord) (b:Ls):=0≤K0 a (Da b)
def Ksq (a:Li):=decide (U8 a≤Zo a)
def Ksp (a:Li):=decide (Jm2 a<Jb4 a)
def J4h (a:List Ord) (b:Ls):=((J97 a b).1,(J97 a b).2.1,(Kgu a b).1,E2 (Kgr a b),(J94 a b).1,E2 (J94 a b).2)
theorem Kw1 [Sx.Dr]:Ok Tryz.prog 157 Kjp:=okW W65 Tryz.f157 na fun xx=>by
 obtain⟨⟨(tk:Int),(st:Int),(S:List Sta),(O:List Ord),(M:List Met),(X:List Out),(Q:List Per)⟩,⟨(n:Int),(k:ByteArray),(ns:List ByteArray),(vs:List Int),(tx:ByteArray)⟩,_⟩:=xx
 refine(by kernel_rfl:(Ju tk st S O M X Q→Xd ns→Z53 vs→Jtx O ns→T2 (Yd ns) (Z64 O∧0≤Jrg O ns∧T2 (Z35 vs) (T2 (Z36 vs) (J0h vs)))∧T2 (Z30 vs) (Ju tk st S O M X Q∧5≤1000000)∧Jg [bif Ksq vs then 11 else 0,bif !Ki (E2 (Kgr O ns)) (Zo vs) then 14 else 0,bif !Jr (J4h O ns) (Zo vs) then 23 else 0,bif decide (0≤K6 M (J97 O ns).1 (Zo vs)) then 9 else 0,bif bif decide ((J94 O ns).1<Jm2 vs) then true else Ksp vs then 3 else 0]=Jmq O M ns vs)=_).mp ?_
 delta Z29 Z30 Z35 Z36 Z53 Z64 Z72 Yd J0h Uz Zo Jm2 U8 Jb4 Da Xd Ju J97 Jrg Kgu Kgr J94 Jtx Ksq Ksp J4h Bd T2 Tw Ln B0 E2
 intro hr h1 h2 h3
 have nO:O.length≤32:=hr.nO
 refine⟨⟨⟨by omega,by omega⟩,⟨by omega,by omega⟩,by omega,h3,by omega⟩,⟨by omega,by omega,hr,by omega⟩,rfl⟩
abbrev W66 [Sx.Dr]:=W65.add Kw1
def Jdh (O:List Ord) (ns:List ByteArray) (vs:List Int):Int:=bif (bif (Xj O (ns.getD 0 Jb)).2.2.2.2.2.2 != -1 then true else decide ((Xj O (ns.getD 0 Jb)).2.2.2.1.2≤vs.getD 0 0)) then 23 else 0
def J8h:Con:={args:=[Jb3,aEv],ress:=[I],owns:=[],pre:=fun(r,e,_)=>[Jn r,1≤e.2.2.1.length,1≤e.2.2.2.1.length,0≤K0 r.2.2.2.1 (e.2.2.1.getD 0 Jb)],spec:=fun((tk,st,S,O,M,X,Q),(n,k,ns,vs,tx),_)=>(Jdh O ns vs,())}
def Z51 (a:Li):=1≤List.length a
def Kqw (a:Ls) (b:List Ord):=T2 (Yd a) (Z64 b∧0≤Jrg b a)
def K27 (a:List Ord) (b:Ls):=(J94 a b).2.2 !=Z79
theorem Kwz [Sx.Dr]:Ok Tryz.prog 159 J8h:=okW W66 Tryz.f159 na fun xx=>by
 obtain⟨⟨(tk:Int),(st:Int),(S:List Sta),(O:List Ord),(M:List Met),(X:List Out),(Q:List Per)⟩,⟨(n:Int),(k:ByteArray),(ns:List ByteArray),(vs:List Int),(tx:ByteArray)⟩,_⟩:=xx
 refine(by kernel_rfl:(Ju tk st S O M X Q→Xd ns→Z51 vs→Jtx O ns→Kqw ns O∧Tw (K27 O ns=false→Z30 vs)∧(bif bif K27 O ns then true else decide ((Kgr O ns).2≤U8 vs) then 23 else 0)=Jdh O ns vs)=_).mp ?_
 delta Z30 Z51 Z64 Z72 Z79 Yd Uz U8 Da Xd Ju J97 Jrg Kgu Kgr J94 Jtx Kqw K27 Bd T2 Tw Ln B0
 intro hr h1 h2 h3
 have nO:O.length≤32:=hr.nO
 repeat' first|assumption|exact rfl|trivial|omega|apply And.intro|intro _
abbrev W67 [Sx.Dr]:=W66.add Kwz
def Jij (S:List Sta) (e:Ev):Int:=Jg [Zu e,bif decide ((Hm S (e.2.2.1.getD 1 Jb)).2.1≤e.2.2.2.1.getD 3 0) then 3 else 0]
def Jcs (S:List Sta) (O:List Ord) (X:List Out) (e:Ev):Int:=if Jij S e≠0 then Jij S e else Jg [bif Hw (V0 e) (fun h=>decide (e.2.2.2.1.getD 3 0<Vf O (e.2.2.1.getD 1 Jb) h)) then 24 else 0,bif decide ((16:Int)≤X.length) then 5 else 0]
def Kjn:Con:={args:=[Jb3,aEv],ress:=[I],owns:=[],pre:=fun(r,e,_)=>[Jn r,EvV e,e.2.2.1.length=2,e.2.2.2.1.length=4,0≤J6 r.2.2.1 (e.2.2.1.getD 1 Jb)],spec:=fun((tk,st,S,O,M,X,Q),(n,k,ns,vs,tx),_)=>(Jcs S O X (n,k,ns,vs,tx),())}
def Jri (a:Ls):=List.length a=2
def K19 (a:Int) (b:Bt) (c:Ls) (d:Li) (e:Bt) (f:List Sta):=Jg [Zu (a,b,c,d,e),bif decide ((Hm f (Lp c)).2.1≤Jb4 d) then 3 else 0]
theorem Kwx [Sx.Dr]:Ok Tryz.prog 161 Kjn:=okW W67 Tryz.f161 na fun xx=>by
 obtain⟨⟨(tk:Int),(st:Int),(S:List Sta),(O:List Ord),(M:List Met),(X:List Out),(Q:List Per)⟩,⟨(n:Int),(k:ByteArray),(ns:List ByteArray),(vs:List Int),(tx:ByteArray)⟩,_⟩:=xx
 refine(by kernel_rfl:(Ju tk st S O M X Q→EvV (n,k,ns,vs,tx)→Jri ns→Z56 vs→Kgj S ns→T2 (Jeo ns) (J0h vs)∧(Z69 vs∧EvV (n,k,ns,vs,tx)∧Z62 S∧J52 S ns∧2≤1000000)∧Br (K19 n k ns vs tx S !=0) (K19 n k ns vs tx S=Jcs S O X (n,k,ns,vs,tx)) ((Z69 vs∧(0≤(Z68 n k ns vs tx).1∧(Z68 n k ns vs tx).1≤999999999)∧(0≤(Z68 n k ns vs tx).2∧(Z68 n k ns vs tx).2≤999999999)∧∀(h:Int),(Z68 n k ns vs tx).1≤h→h<(Z68 n k ns vs tx).2→Ju tk st S O M X Q)∧2≤1000000∧Jg [bif Hw (E2 (Z68 n k ns vs tx)) fun(h:Int)=>decide (Jb4 vs<Vf O (Lp ns) h) then 24 else 0,bif decide (16≤Ln X) then 5 else 0]=Jcs S O X (n,k,ns,vs,tx)))=_).mp ?_
 delta Z29 Z56 Z62 Z68 Z69 Z72 J0h Jeo Lp Jb4 Jri Jko Ju J0b J52 Kgj K19 Br Bd T2 Tw Ln B0 E2
 intro hr hv hn hl h1
 have sp:(0≤(V0 (n,k,ns,vs,tx)).1∧(V0 (n,k,ns,vs,tx)).1≤999999999)∧0≤(V0 (n,k,ns,vs,tx)).2∧(V0 (n,k,ns,vs,tx)).2≤999999999:=⟨hv (vs.getD 1 0) (Je (show 1<vs.length by omega)),hv (vs.getD 2 0) (Je (show 2<vs.length by omega))⟩
 have nS:S.length≤6:=hr.nS
 refine⟨by omega,⟨by omega,hv,by omega,h1,by omega⟩,fun h=> ?_,fun h=>⟨⟨by omega,sp.1,sp.2,fun _ _ _=>hr⟩,by omega, ?_⟩⟩
 ·have h:Jij S (n,k,ns,vs,tx)≠0:=bne_iff_ne.1 h
  unfold Jcs;rw[if_pos h];rfl
 ·have h:¬Jij S (n,k,ns,vs,tx)≠0:=by have:=bne_eq_false_iff_eq.1 h;exact fun f=>f this
  unfold Jcs;rw[if_neg h];rfl
abbrev W68 [Sx.Dr]:=W67.add Kwx
def Jdi (X:List Out) (Q:List Per) (ns:List ByteArray) (vs:List Int):Int:=Jg [bif decide (vs.getD 0 0≤(Df X (ns.getD 0 Jb)).2.2.1.1) then 21 else 0,bif decide ((Df X (ns.getD 0 Jb)).2.2.1.2≤vs.getD 0 0) then 23 else 0,bif decide ((0:Int)<((Ha Q).filter fun p=>p.2.1.toList==(Df X (ns.getD 0 Jb)).1.toList).length) then 32 else 0]
def J8j:Con:={args:=[Jb3,aEv],ress:=[I],owns:=[],pre:=fun(r,e,_)=>[Jn r,1≤e.2.2.1.length,1≤e.2.2.2.1.length,0≤Kc r.2.2.2.2.2.1 (e.2.2.1.getD 0 Jb)],spec:=fun((tk,st,S,O,M,X,Q),(n,k,ns,vs,tx),_)=>(Jdi X Q ns vs,())}
def Kg4 (a:List Out) (b:Ls):=Df a (Uz b)
def Jtz (a:List Out) (b:Ls):=Kc a (Uz b)
def J29 (a:List Out) (b:Ls):=0≤Kc a (Da b)
def Kqx (a:Ls) (b:List Out):=T2 (Yd a) (Z55 b∧0≤Jtz b a)
def Kpk (a b:Int) (c:List Sta) (d:List Ord) (e:List Met) (f:List Out) (g:List Per):=Ju a b c d e f g∧List.length (Ha g)≤1000000∧∀(x:Per),x∈Ha g→True
theorem Kwu [Sx.Dr]:Ok Tryz.prog 164 J8j:=okW W68 Tryz.f164 na fun xx=>by
 obtain⟨⟨(tk:Int),(st:Int),(S:List Sta),(O:List Ord),(M:List Met),(X:List Out),(Q:List Per)⟩,⟨(n:Int),(k:ByteArray),(ns:List ByteArray),(vs:List Int),(tx:ByteArray)⟩,_⟩:=xx
 refine(by kernel_rfl:(Ju tk st S O M X Q→Xd ns→Z51 vs→J29 X ns→Kqx ns X∧Kpk tk st S O M X Q∧T2 (Z30 vs) (T2 (Z30 vs) (3≤1000000))∧Jg [bif decide (U8 vs≤(Kg4 X ns).2.2.1.1) then 21 else 0,bif decide ((Kg4 X ns).2.2.1.2≤U8 vs) then 23 else 0,bif decide (0<Ln (List.filter (fun(x:Per)=>List.beq (ByteArray.toList x.2.1) (ByteArray.toList (Kg4 X ns).1)) (Ha Q))) then 32 else 0]=Jdi X Q ns vs)=_).mp ?_
 delta Z30 Z51 Z55 Z72 Yd Uz U8 Da Xd Ju Kg4 Jtz J29 Kqx Kpk Bd T2 Ln B0
 intro hr h1 h2 h3
 have nX:X.length≤16:=hr.nX
 have nQ:Q.length≤16:=hr.nQ
 have:=Jd6 (Q:=Q)
 refine⟨⟨by omega,by omega,by omega,h3⟩,⟨hr,by omega,fun _ _=>trivial⟩,by omega,rfl⟩
abbrev W69 [Sx.Dr]:=W68.add Kwu
def Jdj (X:List Out) (Q:List Per) (ns:List ByteArray) (vs:List Int):Int:=Jg [bif !Ki (Df X (ns.getD 1 Jb)).2.2.1 (vs.getD 0 0) then 22 else 0,bif decide ((16:Int)≤Q.length) then 5 else 0]
def J8k:Con:={args:=[Jb3,aEv],ress:=[I],owns:=[],pre:=fun(r,e,_)=>[Jn r,2≤e.2.2.1.length,1≤e.2.2.2.1.length,0≤Kc r.2.2.2.2.2.1 (e.2.2.1.getD 1 Jb)],spec:=fun((tk,st,S,O,M,X,Q),(n,k,ns,vs,tx),_)=>(Jdj X Q ns vs,())}
def J0e (a:Ls):=2≤List.length a
theorem Kws [Sx.Dr]:Ok Tryz.prog 166 J8k:=okW W69 Tryz.f166 na fun xx=>by
 obtain⟨⟨(tk:Int),(st:Int),(S:List Sta),(O:List Ord),(M:List Met),(X:List Out),(Q:List Per)⟩,⟨(n:Int),(k:ByteArray),(ns:List ByteArray),(vs:List Int),(tx:ByteArray)⟩,_⟩:=xx
 refine(by kernel_rfl:(Ju tk st S O M X Q→J0e ns→Z51 vs→0≤Kc X (Jko ns)→T2 (Jeo ns) (Z55 X∧0≤Kc X (Lp ns)∧T2 (Z30 vs) (2≤1000000))∧Jg [bif !Ki (E2 (Df X (Lp ns)).2.2.1) (U8 vs) then 22 else 0,bif decide (16≤Ln Q) then 5 else 0]=Jdj X Q ns vs)=_).mp ?_
 delta Z30 Z51 Z55 Z72 Jeo Lp U8 J0e Jko Ju Bd T2 Ln B0 E2
 intro hr h1 h2 h3
 have nX:X.length≤16:=hr.nX
 repeat' first|assumption|exact rfl|trivial|omega|apply And.intro|intro _
abbrev W70 [Sx.Dr]:=W69.add Kws
def Jox (Q:List Per) (ns:List ByteArray):Int:=bif !(Jm9 Q (ns.getD 0 Jb)).2.2 then 23 else 0
def Kjl:Con:={args:=[Jb3,aEv],ress:=[I],owns:=[],pre:=fun(r,e,_)=>[Jn r,1≤e.2.2.1.length,0≤U5 r.2.2.2.2.2.2 (e.2.2.1.getD 0 Jb)],spec:=fun((tk,st,S,O,M,X,Q),(n,k,ns,vs,tx),_)=>(Jox Q ns,())}
def Jtc (a:List Per) (b:Ls):=U5 a (Uz b)
def J27 (a:List Per) (b:Ls):=0≤U5 a (Da b)
theorem Kwp [Sx.Dr]:Ok Tryz.prog 169 Kjl:=okW W70 Tryz.f169 na fun xx=>by
 obtain⟨⟨(tk:Int),(st:Int),(S:List Sta),(O:List Ord),(M:List Met),(X:List Out),(Q:List Per)⟩,⟨(n:Int),(k:ByteArray),(ns:List ByteArray),(vs:List Int),(tx:ByteArray)⟩,_⟩:=xx
 refine(by kernel_rfl:(Ju tk st S O M X Q→Xd ns→J27 Q ns→T2 (Yd ns) (Z54 Q∧0≤Jtc Q ns)∧(bif !(Jm9 Q (Uz ns)).2.2 then 23 else 0)=Jox Q ns)=_).mp ?_
 delta Z54 Z72 Yd Uz Da Xd Ju Jtc J27 Bd T2 Ln B0
 intro hr h1 h3
 have nQ:Q.length≤16:=hr.nQ
 repeat' first|assumption|exact rfl|trivial|omega|apply And.intro|intro _
abbrev W71 [Sx.Dr]:=W70.add Kwp
def L6 (st:Int) (O:List Ord) (M:List Met) (X:List Out) (Q:List Per) (vs:List Int):Int:=bif (bif decide (vs.getD 1 0≤st) then true else decide (vs.getD 0 0<vs.getD 1 0)) then 14 else bif (bif decide ((0:Int)<(J4 M (vs.getD 1 0) O).length) then true else decide ((0:Int)<((Ha Q).filter fun p=>decide ((Df X p.2.1).2.2.1.2≤vs.getD 1 0)).length)) then 32 else 0
def J8i:Con:={args:=[Jb3,aEv],ress:=[I],owns:=[],pre:=fun(r,e,_)=>[Jn r,2≤e.2.2.2.1.length],spec:=fun((tk,st,S,O,M,X,Q),(n,k,ns,vs,tx),_)=>(L6 st O M X Q vs,())}
def Knd (a:Li) (b:Int):=decide (Zo a≤b)
def Krv (a:Li) (b:Int):=Tw (Knd a b=false→Z30 a)
def Kp9 (a:Li) (b:Int):=bif Knd a b then true else decide (U8 a<Zo a)
theorem Kwn [Sx.Dr]:Ok Tryz.prog 171 J8i:=okW W71 Tryz.f171 na fun xx=>by
 obtain⟨⟨(tk:Int),(st:Int),(S:List Sta),(O:List Ord),(M:List Met),(X:List Out),(Q:List Per)⟩,⟨(n:Int),(k:ByteArray),(ns:List ByteArray),(vs:List Int),(tx:ByteArray)⟩,_⟩:=xx
 refine(by kernel_rfl:(Ju tk st S O M X Q→Z66 vs→Jrj vs∧Krv vs st∧Br (Kp9 vs st) (14=L6 st O M X Q vs) ((Ju tk st S O M X Q∧List.length (Ha Q)≤1000000∧∀(x:Per),x∈Ha Q→Ju tk st S O M X Q∧0≤Kc X x.2.1)∧Ju tk st S O M X Q∧(bif bif decide (0<Ln (J4 M (Zo vs) O)) then true else decide (0<Ln (List.filter (fun(x:Per)=>decide ((Df X x.2.1).2.2.1.2≤Zo vs)) (Ha Q))) then 32 else 0)=L6 st O M X Q vs))=_).mp ?_
 delta Z30 Z35 Z66 Z72 Jrj Zo U8 Ju Knd Krv Kp9 Br Bd Tw Ln
 intro hr h1
 have nQ:Q.length≤16:=hr.nQ
 have:=Jd6 (Q:=Q)
 refine⟨by omega,⟨fun _=>by omega,fun _=>by omega⟩,fun h=> ?_,fun h=>⟨⟨hr,by omega,fun x hx=>⟨hr,hr.per x (Jly hx)⟩⟩,hr, ?_⟩⟩
 ·unfold L6;rw[h];rfl
 ·unfold L6;rw[h];rfl
abbrev W72 [Sx.Dr]:=W71.add Kwn
abbrev Jzs (pre:Reg→Ev→List Prop) (post:Reg→Ev→Reg):X9:={T? :=some 105,s:=Jkq,args:=[aEv],ress:=[],pre:=fun r (e,_)=>pre r e,spec:=fun _ _=>(),post:=fun r (e,_)=>post r e}
def Jad (O:List Ord) (s:ByteArray) (v:Int):List Ord:=O.set (K0 O s).toNat ((Xj O s).1,(Xj O s).2.1,(Xj O s).2.2.1,(Xj O s).2.2.2.1,(Xj O s).2.2.2.2.1,(Xj O s).2.2.2.2.2.1,v)
def Jex (X:List Out) (s:ByteArray) (v:Int):List Out:=X.set (Kc X s).toNat ((Df X s).1,(Df X s).2.1,((Df X s).2.2.1.1,v),(Df X s).2.2.2)
def Jae (Q:List Per) (s:ByteArray):List Per:=Q.set (U5 Q s).toNat ((Jm9 Q s).1,(Jm9 Q s).2.1,false)
def Jbq:Reg→Ev→Reg:=fun(tk,st,S,O,M,X,Q) (n,k,ns,vs,tx)=>(tk,st,S++[(ns.getD 0 Jb,vs.getD 1 0,0)],O,M,X,Q)
def Jxg:X9:=Jzs (fun r e=>[Jn r,1≤e.2.2.1.length,2≤e.2.2.2.1.length]) Jbq
def Krw (a:List Sta) (b:Ls) (c:Li):=a++[(Uz b,Zo c,0)]
def Kqz (a:Ls) (b:Li) (c:List Sta):=T2 (Yd a) (T2 (Z35 b) ((List.length c+1)*32≤140737488355328))
theorem Kuk [Sx.Dr] (tk st:Int) (S:List Sta) (O:List Ord) (M:List Met) (X:List Out) (Q:List Per) (n:Int) (k:ByteArray) (ns:List ByteArray) (vs:List Int) (tx:ByteArray):wpFO Tryz.prog W72.g (na ()) (fun _=>na ()) (Sx.look ([]:List (Nat×Func))) Tryz.f149 Jxg 105 (tk,st,S,O,M,X,Q) ((n,k,ns,vs,tx),()):=by
 refine(by kernel_rfl:(Ju tk st S O M X Q→Xd ns→Z66 vs→Kqz ns vs S∧Sf true (Sf 105 ((tk,st,Krw S ns vs,O,M,X,Q)=Jbq (Z72 tk st S O M X Q) (n,k,ns,vs,tx))))=_).mp ?_
 delta Z35 Z66 Z72 Yd Uz Zo Xd Ju Krw Kqz Bd T2 Sf Ln B0
 intro hr
 have nS:S.length≤6:=hr.nS
 have nO:O.length≤32:=hr.nO
 have nM:M.length≤10000:=hr.nM
 have nX:X.length≤16:=hr.nX
 have nQ:Q.length≤16:=hr.nQ
 intros
 repeat' first|assumption|exact rfl|trivial|omega|exact K8|exact Ut|exact Us|exact U4|apply And.intro|intro _
theorem Kw9 [Sx.Dr]:Ok Tryz.prog 149 (X9.con Jxg):=Zd (Ul mixed W72.ok (by kernel_rfl) (by kernel_rfl) (U6 (l:=([]:List (Nat×Func))) (by simp)) (fun xx yy=>na ()) (fun xx yy=>fun _=>na ()) fun T xx yy hT=>by obtain rfl:=hT _ rfl;exact Kuk xx.1 xx.2.1 xx.2.2.1 xx.2.2.2.1 xx.2.2.2.2.1 xx.2.2.2.2.2.1 xx.2.2.2.2.2.2 yy.1.1 yy.1.2.1 yy.1.2.2.1 yy.1.2.2.2.1 yy.1.2.2.2.2)
abbrev W73 [Sx.Dr]:=W72.add Kw9
def Fw:Reg→Ev→Reg:=fun(tk,st,S,O,M,X,Q) (n,k,ns,vs,tx)=>(tk,st,S.set (J6 S (ns.getD 0 Jb)).toNat ((Hm S (ns.getD 0 Jb)).1,(Hm S (ns.getD 0 Jb)).2.1,vs.getD 1 0),O,M,X,Q)
def Jxd:X9:=Jzs (fun r e=>[Jn r,1≤e.2.2.1.length,2≤e.2.2.2.1.length,0≤J6 r.2.2.1 (e.2.2.1.getD 0 Jb)]) Fw
def J59 (a:List Sta) (b:Ls):=J6 a (Uz b)
def K7b (a:List Sta) (b:Ls):=Gt a (J59 a b) Z12
theorem Kuj [Sx.Dr] (tk st:Int) (S:List Sta) (O:List Ord) (M:List Met) (X:List Out) (Q:List Per) (n:Int) (k:ByteArray) (ns:List ByteArray) (vs:List Int) (tx:ByteArray):wpFO Tryz.prog W73.g (na ()) (fun _=>na ()) (Sx.look ([]:List (Nat×Func))) Tryz.f153 Jxd 105 (tk,st,S,O,M,X,Q) ((n,k,ns,vs,tx),()):=by
 refine(by kernel_rfl:(Ju tk st S O M X Q→Xd ns→Z66 vs→0≤J6 S (Da ns)→T2 (Yd ns) (Z62 S∧T2 (Z35 vs) (Tw (Bd (J59 S ns) (Ln S))))∧Sf true (Sf 105 ((tk,st,List.set S (Int.toNat (J59 S ns)) ((K7b S ns).1,(K7b S ns).2.1,Zo vs),O,M,X,Q)=Fw (Z72 tk st S O M X Q) (n,k,ns,vs,tx))))=_).mp ?_
 delta Z12 Z35 Z62 Z66 Z72 Yd Uz Zo Da Xd Ju J59 K7b Bd T2 Tw Sf Ln Gt B0
 intro hr
 have nS:S.length≤6:=hr.nS
 have nO:O.length≤32:=hr.nO
 have nM:M.length≤10000:=hr.nM
 have nX:X.length≤16:=hr.nX
 have nQ:Q.length≤16:=hr.nQ
 intros
 repeat' first|assumption|exact rfl|trivial|omega|exact K8|exact Ut|exact Us|exact U4|apply And.intro|intro _
theorem Kw5 [Sx.Dr]:Ok Tryz.prog 153 (X9.con Jxd):=Zd (Ul mixed W73.ok (by kernel_rfl) (by kernel_rfl) (U6 (l:=([]:List (Nat×Func))) (by simp)) (fun xx yy=>na ()) (fun xx yy=>fun _=>na ()) fun T xx yy hT=>by obtain rfl:=hT _ rfl;exact Kuj xx.1 xx.2.1 xx.2.2.1 xx.2.2.2.1 xx.2.2.2.2.1 xx.2.2.2.2.2.1 xx.2.2.2.2.2.2 yy.1.1 yy.1.2.1 yy.1.2.2.1 yy.1.2.2.2.1 yy.1.2.2.2.2)
abbrev W74 [Sx.Dr]:=W73.add Kw5
def F0:Reg→Ev→Reg:=fun(tk,st,S,O,M,X,Q) (n,k,ns,vs,tx)=>(tk,st,S,O++[(ns.getD 0 Jb,ns.getD 1 Jb,ns.getD 2 Jb,V0 (n,k,ns,vs,tx),vs.getD 3 0,(Hm S (ns.getD 1 Jb)).2.2,-1)],M,X,Q)
def Jxi:X9:=Jzs (fun r e=>[Jn r,e.2.2.1.length=3,e.2.2.2.1.length=4,0≤J6 r.2.2.1 (e.2.2.1.getD 1 Jb)]) F0
theorem Kui [Sx.Dr] (tk st:Int) (S:List Sta) (O:List Ord) (M:List Met) (X:List Out) (Q:List Per) (n:Int) (k:ByteArray) (ns:List ByteArray) (vs:List Int) (tx:ByteArray):wpFO Tryz.prog W74.g (na ()) (fun _=>na ()) (Sx.look ([]:List (Nat×Func))) Tryz.f155 Jxi 105 (tk,st,S,O,M,X,Q) ((n,k,ns,vs,tx),()):=by
 refine(by kernel_rfl:(Ju tk st S O M X Q→Jt1 ns→Z56 vs→Kgj S ns→T2 (Yd ns) (T2 (Jeo ns) (T2 (J6d ns) (Z69 vs∧T2 (Z29 vs) (T2 (Jeo ns) (Z62 S∧J52 S ns∧(List.length O+1)*88≤140737488355328)))))∧Sf true (Sf 105 ((tk,st,S,O++[(Uz ns,Lp ns,Jpe ns,E2 (Z68 n k ns vs tx),Jb4 vs,(Hm S (Lp ns)).2.2,Z79)],M,X,Q)=F0 (Z72 tk st S O M X Q) (n,k,ns,vs,tx))))=_).mp ?_
 delta Z29 Z56 Z62 Z68 Z69 Z72 Z79 Yd Jpe J6d Uz Jeo Lp Jb4 Jt1 Jko Ju J0b J52 Kgj Bd T2 Sf Ln B0 E2
 intro hr
 have nS:S.length≤6:=hr.nS
 have nO:O.length≤32:=hr.nO
 have nM:M.length≤10000:=hr.nM
 have nX:X.length≤16:=hr.nX
 have nQ:Q.length≤16:=hr.nQ
 intros
 repeat' first|assumption|exact rfl|trivial|omega|exact K8|exact Ut|exact Us|exact U4|apply And.intro|intro _
theorem Kw3 [Sx.Dr]:Ok Tryz.prog 155 (X9.con Jxi):=Zd (Ul mixed W74.ok (by kernel_rfl) (by kernel_rfl) (U6 (l:=([]:List (Nat×Func))) (by simp)) (fun xx yy=>na ()) (fun xx yy=>fun _=>na ()) fun T xx yy hT=>by obtain rfl:=hT _ rfl;exact Kui xx.1 xx.2.1 xx.2.2.1 xx.2.2.2.1 xx.2.2.2.2.1 xx.2.2.2.2.2.1 xx.2.2.2.2.2.2 yy.1.1 yy.1.2.1 yy.1.2.2.1 yy.1.2.2.2.1 yy.1.2.2.2.2)
abbrev W75 [Sx.Dr]:=W74.add Kw3
def F1:Reg→Ev→Reg:=fun(tk,st,S,O,M,X,Q) (n,k,ns,vs,tx)=>(tk,st,S,O,M++[(ns.getD 0 Jb,vs.getD 1 0,vs.getD 2 0,vs.getD 3 0)],X,Q)
def Jxj:X9:=Jzs (fun r e=>[Jn r,1≤e.2.2.1.length,4≤e.2.2.2.1.length]) F1
def Krl (a:Li):=(Zo a,Jm2 a,Jb4 a)
def Kpt (a:Li) (b:List Met):=T2 (Z35 a) (T2 (Z36 a) (T2 (Z29 a) ((List.length b+1)*40≤140737488355328)))
theorem Kuh [Sx.Dr] (tk st:Int) (S:List Sta) (O:List Ord) (M:List Met) (X:List Out) (Q:List Per) (n:Int) (k:ByteArray) (ns:List ByteArray) (vs:List Int) (tx:ByteArray):wpFO Tryz.prog W75.g (na ()) (fun _=>na ()) (Sx.look ([]:List (Nat×Func))) Tryz.f158 Jxj 105 (tk,st,S,O,M,X,Q) ((n,k,ns,vs,tx),()):=by
 refine(by kernel_rfl:(Ju tk st S O M X Q→Xd ns→Z53 vs→T2 (Yd ns) (Kpt vs M)∧Sf true (Sf 105 ((tk,st,S,O,M++[(Uz ns,Krl vs)],X,Q)=F1 (Z72 tk st S O M X Q) (n,k,ns,vs,tx))))=_).mp ?_
 delta Z29 Z35 Z36 Z53 Z72 Yd Uz Zo Jm2 Jb4 Xd Ju Krl Kpt Bd T2 Sf Ln B0
 intro hr
 have nS:S.length≤6:=hr.nS
 have nO:O.length≤32:=hr.nO
 have nM:M.length≤10000:=hr.nM
 have nX:X.length≤16:=hr.nX
 have nQ:Q.length≤16:=hr.nQ
 intros
 repeat' first|assumption|exact rfl|trivial|omega|exact K8|exact Ut|exact Us|exact U4|apply And.intro|intro _
theorem Kw0 [Sx.Dr]:Ok Tryz.prog 158 (X9.con Jxj):=Zd (Ul mixed W75.ok (by kernel_rfl) (by kernel_rfl) (U6 (l:=([]:List (Nat×Func))) (by simp)) (fun xx yy=>na ()) (fun xx yy=>fun _=>na ()) fun T xx yy hT=>by obtain rfl:=hT _ rfl;exact Kuh xx.1 xx.2.1 xx.2.2.1 xx.2.2.2.1 xx.2.2.2.2.1 xx.2.2.2.2.2.1 xx.2.2.2.2.2.2 yy.1.1 yy.1.2.1 yy.1.2.2.1 yy.1.2.2.2.1 yy.1.2.2.2.2)
abbrev W76 [Sx.Dr]:=W75.add Kw0
def Fv:Reg→Ev→Reg:=fun(tk,st,S,O,M,X,Q) (n,k,ns,vs,tx)=>(tk,st,S,Jad O (ns.getD 0 Jb) (vs.getD 0 0),M,X,Q)
def Jxb:X9:=Jzs (fun r e=>[Jn r,1≤e.2.2.1.length,1≤e.2.2.2.1.length,0≤K0 r.2.2.2.1 (e.2.2.1.getD 0 Jb)]) Fv
def K31 (a:List Ord) (b:Ls):=Gt a (Jrg a b) Jem
def K3r (a:List Ord) (b:Ls):=(K31 a b).2
def K3n (a:List Ord) (b:Ls):=(K3r a b).2
def K3j (a:List Ord) (b:Ls):=(K3n a b).2
def K3f (a:List Ord) (b:Ls):=(K3j a b).2
theorem Kug [Sx.Dr] (tk st:Int) (S:List Sta) (O:List Ord) (M:List Met) (X:List Out) (Q:List Per) (n:Int) (k:ByteArray) (ns:List ByteArray) (vs:List Int) (tx:ByteArray):wpFO Tryz.prog W76.g (na ()) (fun _=>na ()) (Sx.look ([]:List (Nat×Func))) Tryz.f160 Jxb 105 (tk,st,S,O,M,X,Q) ((n,k,ns,vs,tx),()):=by
 refine(by kernel_rfl:(Ju tk st S O M X Q→Xd ns→Z51 vs→Jtx O ns→T2 (Yd ns) (Z64 O∧T2 (Z30 vs) (Tw (Bd (Jrg O ns) (Ln O))))∧Sf true (Sf 105 ((tk,st,S,List.set O (Int.toNat (Jrg O ns)) ((K31 O ns).1,(K3r O ns).1,(K3n O ns).1,E2 (K3j O ns).1,(K3f O ns).1,(K3f O ns).2.1,U8 vs),M,X,Q)=Fv (Z72 tk st S O M X Q) (n,k,ns,vs,tx))))=_).mp ?_
 delta Z30 Z51 Z64 Z72 Z83 Yd Uz U8 Da Xd Ju Jrg Jtx Jem K31 K3r K3n K3j K3f Bd T2 Tw Sf Ln Gt B0 E2
 intro hr
 have nS:S.length≤6:=hr.nS
 have nO:O.length≤32:=hr.nO
 have nM:M.length≤10000:=hr.nM
 have nX:X.length≤16:=hr.nX
 have nQ:Q.length≤16:=hr.nQ
 intros
 repeat' first|assumption|exact rfl|trivial|omega|exact K8|exact Ut|exact Us|exact U4|apply And.intro|intro _
theorem Kwy [Sx.Dr]:Ok Tryz.prog 160 (X9.con Jxb):=Zd (Ul mixed W76.ok (by kernel_rfl) (by kernel_rfl) (U6 (l:=([]:List (Nat×Func))) (by simp)) (fun xx yy=>na ()) (fun xx yy=>fun _=>na ()) fun T xx yy hT=>by obtain rfl:=hT _ rfl;exact Kug xx.1 xx.2.1 xx.2.2.1 xx.2.2.2.1 xx.2.2.2.2.1 xx.2.2.2.2.2.1 xx.2.2.2.2.2.2 yy.1.1 yy.1.2.1 yy.1.2.2.1 yy.1.2.2.2.1 yy.1.2.2.2.2)
abbrev W77 [Sx.Dr]:=W76.add Kwy
def Fy:Reg→Ev→Reg:=fun(tk,st,S,O,M,X,Q) (n,k,ns,vs,tx)=>(tk,st,S,O,M,X++[(ns.getD 0 Jb,ns.getD 1 Jb,V0 (n,k,ns,vs,tx),vs.getD 3 0)],Q)
def Jxf:X9:=Jzs (fun r e=>[Jn r,e.2.2.1.length=2,e.2.2.2.1.length=4]) Fy
def Ksd (a:Li) (b:List Out):=T2 (Z29 a) ((List.length b+1)*56≤140737488355328)
theorem Kuf [Sx.Dr] (tk st:Int) (S:List Sta) (O:List Ord) (M:List Met) (X:List Out) (Q:List Per) (n:Int) (k:ByteArray) (ns:List ByteArray) (vs:List Int) (tx:ByteArray):wpFO Tryz.prog W77.g (na ()) (fun _=>na ()) (Sx.look ([]:List (Nat×Func))) Tryz.f162 Jxf 105 (tk,st,S,O,M,X,Q) ((n,k,ns,vs,tx),()):=by
 refine(by kernel_rfl:(Ju tk st S O M X Q→Jri ns→Z56 vs→T2 (Yd ns) (T2 (Jeo ns) (Z69 vs∧Ksd vs X))∧Sf true (Sf 105 ((tk,st,S,O,M,X++[(Uz ns,Lp ns,E2 (Z68 n k ns vs tx),Jb4 vs)],Q)=Fy (Z72 tk st S O M X Q) (n,k,ns,vs,tx))))=_).mp ?_
 delta Z29 Z56 Z68 Z69 Z72 Yd Uz Jeo Lp Jb4 Jri Ju Ksd Bd T2 Sf Ln B0 E2
 intro hr
 have nS:S.length≤6:=hr.nS
 have nO:O.length≤32:=hr.nO
 have nM:M.length≤10000:=hr.nM
 have nX:X.length≤16:=hr.nX
 have nQ:Q.length≤16:=hr.nQ
 intros
 repeat' first|assumption|exact rfl|trivial|omega|exact K8|exact Ut|exact Us|exact U4|apply And.intro|intro _
theorem Kww [Sx.Dr]:Ok Tryz.prog 162 (X9.con Jxf):=Zd (Ul mixed W77.ok (by kernel_rfl) (by kernel_rfl) (U6 (l:=([]:List (Nat×Func))) (by simp)) (fun xx yy=>na ()) (fun xx yy=>fun _=>na ()) fun T xx yy hT=>by obtain rfl:=hT _ rfl;exact Kuf xx.1 xx.2.1 xx.2.2.1 xx.2.2.2.1 xx.2.2.2.2.1 xx.2.2.2.2.2.1 xx.2.2.2.2.2.2 yy.1.1 yy.1.2.1 yy.1.2.2.1 yy.1.2.2.2.1 yy.1.2.2.2.2)
abbrev W78 [Sx.Dr]:=W77.add Kww
def Fx:Reg→Ev→Reg:=fun(tk,st,S,O,M,X,Q) (n,k,ns,vs,tx)=>(tk,st,S,O,M,Jex X (ns.getD 0 Jb) (vs.getD 0 0),Q)
def Jxe:X9:=Jzs (fun r e=>[Jn r,1≤e.2.2.1.length,1≤e.2.2.2.1.length,0≤Kc r.2.2.2.2.2.1 (e.2.2.1.getD 0 Jb)]) Fx
def K6h (a:List Out) (b:Ls):=Gt a (Jtz a b) Jgp
def K6e (a:List Out) (b:Ls):=(K6h a b).2
def K6b (a:List Out) (b:Ls):=(K6e a b).2
theorem Kue [Sx.Dr] (tk st:Int) (S:List Sta) (O:List Ord) (M:List Met) (X:List Out) (Q:List Per) (n:Int) (k:ByteArray) (ns:List ByteArray) (vs:List Int) (tx:ByteArray):wpFO Tryz.prog W78.g (na ()) (fun _=>na ()) (Sx.look ([]:List (Nat×Func))) Tryz.f165 Jxe 105 (tk,st,S,O,M,X,Q) ((n,k,ns,vs,tx),()):=by
 refine(by kernel_rfl:(Ju tk st S O M X Q→Xd ns→Z51 vs→J29 X ns→T2 (Yd ns) (Z55 X∧T2 (Z30 vs) (Tw (Bd (Jtz X ns) (Ln X))))∧Sf true (Sf 105 ((tk,st,S,O,M,List.set X (Int.toNat (Jtz X ns)) ((K6h X ns).1,(K6e X ns).1,((K6b X ns).1.1,U8 vs),(K6b X ns).2),Q)=Fx (Z72 tk st S O M X Q) (n,k,ns,vs,tx))))=_).mp ?_
 delta Z30 Z51 Z55 Z72 Yd Uz U8 Da Xd Ju Jgp Jtz J29 K6h K6e K6b Bd T2 Tw Sf Ln Gt B0
 intro hr
 have nS:S.length≤6:=hr.nS
 have nO:O.length≤32:=hr.nO
 have nM:M.length≤10000:=hr.nM
 have nX:X.length≤16:=hr.nX
 have nQ:Q.length≤16:=hr.nQ
 intros
 repeat' first|assumption|exact rfl|trivial|omega|exact K8|exact Ut|exact Us|exact U4|apply And.intro|intro _
theorem Kwt [Sx.Dr]:Ok Tryz.prog 165 (X9.con Jxe):=Zd (Ul mixed W78.ok (by kernel_rfl) (by kernel_rfl) (U6 (l:=([]:List (Nat×Func))) (by simp)) (fun xx yy=>na ()) (fun xx yy=>fun _=>na ()) fun T xx yy hT=>by obtain rfl:=hT _ rfl;exact Kue xx.1 xx.2.1 xx.2.2.1 xx.2.2.2.1 xx.2.2.2.2.1 xx.2.2.2.2.2.1 xx.2.2.2.2.2.2 yy.1.1 yy.1.2.1 yy.1.2.2.1 yy.1.2.2.2.1 yy.1.2.2.2.2)
abbrev W79 [Sx.Dr]:=W78.add Kwt
def Fz:Reg→Ev→Reg:=fun(tk,st,S,O,M,X,Q) (n,k,ns,vs,tx)=>(tk,st,S,O,M,X,Q++[(ns.getD 0 Jb,ns.getD 1 Jb,true)])
def Jxh:X9:=Jzs (fun r e=>[Jn r,2≤e.2.2.1.length]) Fz
def Krq (a:List Out) (b:List Per) (c:Ls):=(a,b++[(Uz c,Lp c,true)])
def Kqo (a:Ls) (b:List Per):=T2 (Yd a) (T2 (Jeo a) ((List.length b+1)*40≤140737488355328))
theorem Kud [Sx.Dr] (tk st:Int) (S:List Sta) (O:List Ord) (M:List Met) (X:List Out) (Q:List Per) (n:Int) (k:ByteArray) (ns:List ByteArray) (vs:List Int) (tx:ByteArray):wpFO Tryz.prog W79.g (na ()) (fun _=>na ()) (Sx.look ([]:List (Nat×Func))) Tryz.f167 Jxh 105 (tk,st,S,O,M,X,Q) ((n,k,ns,vs,tx),()):=by
 refine(by kernel_rfl:(Ju tk st S O M X Q→J0e ns→Kqo ns Q∧Sf true (Sf 105 ((tk,st,S,O,M,Krq X Q ns)=Fz (Z72 tk st S O M X Q) (n,k,ns,vs,tx))))=_).mp ?_
 delta Z72 Yd Uz Jeo Lp J0e Ju Krq Kqo Bd T2 Sf Ln B0
 intro hr
 have nS:S.length≤6:=hr.nS
 have nO:O.length≤32:=hr.nO
 have nM:M.length≤10000:=hr.nM
 have nX:X.length≤16:=hr.nX
 have nQ:Q.length≤16:=hr.nQ
 intros
 repeat' first|assumption|exact rfl|trivial|omega|exact K8|exact Ut|exact Us|exact U4|apply And.intro|intro _
theorem Kwr [Sx.Dr]:Ok Tryz.prog 167 (X9.con Jxh):=Zd (Ul mixed W79.ok (by kernel_rfl) (by kernel_rfl) (U6 (l:=([]:List (Nat×Func))) (by simp)) (fun xx yy=>na ()) (fun xx yy=>fun _=>na ()) fun T xx yy hT=>by obtain rfl:=hT _ rfl;exact Kud xx.1 xx.2.1 xx.2.2.1 xx.2.2.2.1 xx.2.2.2.2.1 xx.2.2.2.2.2.1 xx.2.2.2.2.2.2 yy.1.1 yy.1.2.1 yy.1.2.2.1 yy.1.2.2.2.1 yy.1.2.2.2.2)
abbrev W80 [Sx.Dr]:=W79.add Kwr
def Jhf:Reg→Ev→Reg:=fun(tk,st,S,O,M,X,Q) (n,k,ns,vs,tx)=>(tk,st,S,O,M,X,Jae Q (ns.getD 0 Jb))
def J5k:X9:=Jzs (fun r e=>[Jn r,1≤e.2.2.1.length,0≤U5 r.2.2.2.2.2.2 (e.2.2.1.getD 0 Jb)]) Jhf
theorem Kuc [Sx.Dr] (tk st:Int) (S:List Sta) (O:List Ord) (M:List Met) (X:List Out) (Q:List Per) (n:Int) (k:ByteArray) (ns:List ByteArray) (vs:List Int) (tx:ByteArray):wpFO Tryz.prog W80.g (na ()) (fun _=>na ()) (Sx.look ([]:List (Nat×Func))) Tryz.f170 J5k 105 (tk,st,S,O,M,X,Q) ((n,k,ns,vs,tx),()):=by
 refine(by kernel_rfl:(Ju tk st S O M X Q→Xd ns→J27 Q ns→T2 (Yd ns) (Z54 Q∧Tw (Bd (Jtc Q ns) (Ln Q)))∧Sf true (Sf 105 ((tk,st,S,O,M,X,List.set Q (Int.toNat (Jtc Q ns)) ((Gt Q (Jtc Q ns) (B0,B0,false)).1,(Gt Q (Jtc Q ns) (B0,B0,false)).2.1,false))=Jhf (Z72 tk st S O M X Q) (n,k,ns,vs,tx))))=_).mp ?_
 delta Z54 Z72 Yd Uz Da Xd Ju Jtc J27 Bd T2 Tw Sf Ln Gt B0
 intro hr
 have nS:S.length≤6:=hr.nS
 have nO:O.length≤32:=hr.nO
 have nM:M.length≤10000:=hr.nM
 have nX:X.length≤16:=hr.nX
 have nQ:Q.length≤16:=hr.nQ
 intros
 repeat' first|assumption|exact rfl|trivial|omega|exact K8|exact Ut|exact Us|exact U4|apply And.intro|intro _
theorem Kwo [Sx.Dr]:Ok Tryz.prog 170 (X9.con J5k):=Zd (Ul mixed W80.ok (by kernel_rfl) (by kernel_rfl) (U6 (l:=([]:List (Nat×Func))) (by simp)) (fun xx yy=>na ()) (fun xx yy=>fun _=>na ()) fun T xx yy hT=>by obtain rfl:=hT _ rfl;exact Kuc xx.1 xx.2.1 xx.2.2.1 xx.2.2.2.1 xx.2.2.2.2.1 xx.2.2.2.2.2.1 xx.2.2.2.2.2.2 yy.1.1 yy.1.2.1 yy.1.2.2.1 yy.1.2.2.2.1 yy.1.2.2.2.2)
abbrev W81 [Sx.Dr]:=W80.add Kwo
def Jbp:Reg→Ev→Reg:=fun(tk,st,S,O,M,X,Q) (n,k,ns,vs,tx)=>(tk,vs.getD 1 0,S,O,M,X,Q)
def Jxc:X9:=Jzs (fun r e=>[Jn r,2≤e.2.2.2.1.length]) Jbp
theorem Kub [Sx.Dr] (tk st:Int) (S:List Sta) (O:List Ord) (M:List Met) (X:List Out) (Q:List Per) (n:Int) (k:ByteArray) (ns:List ByteArray) (vs:List Int) (tx:ByteArray):wpFO Tryz.prog W81.g (na ()) (fun _=>na ()) (Sx.look ([]:List (Nat×Func))) Tryz.f172 Jxc 105 (tk,st,S,O,M,X,Q) ((n,k,ns,vs,tx),()):=by
 refine(by kernel_rfl:(Ju tk st S O M X Q→Z66 vs→Jrj vs∧Sf true (Sf 105 ((tk,Zo vs,S,O,M,X,Q)=Jbp (Z72 tk st S O M X Q) (n,k,ns,vs,tx))))=_).mp ?_
 delta Z35 Z66 Z72 Jrj Zo Ju Bd Tw Sf Ln
 intro hr
 have nS:S.length≤6:=hr.nS
 have nO:O.length≤32:=hr.nO
 have nM:M.length≤10000:=hr.nM
 have nX:X.length≤16:=hr.nX
 have nQ:Q.length≤16:=hr.nQ
 intros
 repeat' first|assumption|exact rfl|trivial|omega|exact K8|exact Ut|exact Us|exact U4|apply And.intro|intro _
theorem Kwm [Sx.Dr]:Ok Tryz.prog 172 (X9.con Jxc):=Zd (Ul mixed W81.ok (by kernel_rfl) (by kernel_rfl) (U6 (l:=([]:List (Nat×Func))) (by simp)) (fun xx yy=>na ()) (fun xx yy=>fun _=>na ()) fun T xx yy hT=>by obtain rfl:=hT _ rfl;exact Kub xx.1 xx.2.1 xx.2.2.1 xx.2.2.2.1 xx.2.2.2.2.1 xx.2.2.2.2.2.1 xx.2.2.2.2.2.2 yy.1.1 yy.1.2.1 yy.1.2.2.1 yy.1.2.2.2.1 yy.1.2.2.2.2)
abbrev W82 [Sx.Dr]:=W81.add Kwm
end Go.Proofs.YtcibbcfiemeoiaaGreatDoor
namespace Go.Proofs.YtcibbcfiemeoiaaGreatDoor
instance drOff:Sx.Dr:=Sx.Dr.off
open Go.Sx
def Jdl (T:TypeId) (s:Sch):Con:={args:=[.val false (.list T s)],ress:=[(false, .list T s)],owns:=[true],pre:=fun(l,_)=>[l.length≤1000000],spec:=fun(l,_)=>(l,())}
theorem Jlm {M:Nat→Prop} {w:World}:∀{xs:List Int} {flat:List Value},Y2 (Rep M w (.int .i64)) xs flat→flat=xs.map (Value.int .i64)
 |[],_,h=>h
 |x::xs,_,⟨c1,c2,rfl,h1,h2⟩=>by
  have h1:c1=[.int .i64 x]:=h1
  rw[h1,Jlm h2];rfl
theorem Jpy {M:Nat→Prop} {w:World}:∀(xs:List Int),Y2 (Rep M w (.int .i64)) xs (xs.map (Value.int .i64))
 |[]=>rfl
 |x::xs=>⟨[.int .i64 x],xs.map (Value.int .i64),rfl,rfl,Jpy xs⟩
theorem Je2 {M:Nat→Prop} {w:World}:∀{xs:List ByteArray} {flat:List Value},Y2 (Rep M w .str) xs flat→flat=xs.map Value.string
 |[],_,h=>h
 |x::xs,_,⟨c1,c2,rfl,h1,h2⟩=>by
  have h1:c1=[.string x]:=h1
  rw[h1,Je2 h2];rfl
theorem Jpx {M:Nat→Prop} {w:World}:∀(xs:List ByteArray),Y2 (Rep M w .str) xs (xs.map Value.string)
 |[]=>rfl
 |x::xs=>⟨[.string x],xs.map Value.string,rfl,rfl,Jpx xs⟩
theorem Kwk:Ok Tryz.prog 174 (Jdl 3 sI):=by
 refine⟨⟨Tryz.f174,by kernel_rfl,by kernel_rfl,by kernel_rfl⟩,fun z hz=>(by cases hz),fun F hF=>(by cases hF),fun _ x M R w vs hM hg hpre hargs=> ?_⟩
 obtain⟨l,u⟩:=x
 obtain⟨v1,vs1,rfl,⟨cs,rfl,hr⟩,hn⟩:=hargs
 have hn:vs1=[]:=hn
 subst hn
 obtain⟨v,flat,rfl,h1,h2⟩:=hr
 have hfl:=Jlm h1
 have hl:l.length≤1000000:=hpre
 have fin:∀(v':Value) (w':World),w'.ownsRow w.heap.size 3 1 v' l.length (l.map (Value.int .i64))→RowKit.Below w.heap.size w w'→Jph M w (Jdl 3 sI).ress (Jdl 3 sI).owns ((Jdl 3 sI).spec (l,u)) (.returned v') w':=by
  intro v' w' ho hb
  refine⟨M,[v'],rfl, .ofK hb,fun _ h=>h,fun b h=> .inl h,_,[],rfl,⟨l.map (Value.int .i64),Jpy l,ho,fun g hg' hMg=> ?_⟩,rfl⟩
  rcases ho.2 with⟨rfl,_⟩|⟨g',cap,cur,rfl,hbg,_⟩
  ·cases hg'
  ·have:g'=g:=Option.some.inj hg'
   have:=hM g (.inl hMg)
   omega
 rcases h2 with⟨rfl|⟨ad,cap,rfl⟩,h0⟩|⟨b,off,cap,rfl,hcap,hk,hm⟩
 ·have:l=[]:=List.eq_nil_of_length_eq_zero h0
  subst this
  refine(Tryz.clone174_nil 0 0 w).mono ?_
  rintro e w' ⟨rfl,rfl⟩
  exact fin _ _ ⟨rfl, .inl ⟨rfl,rfl⟩⟩ (RowKit.Below.refl _ _)
 ·have:l=[]:=List.eq_nil_of_length_eq_zero h0
  subst this
  refine(Tryz.clone174_zero ad cap w).mono ?_
  rintro e w' ⟨v',rfl,ho,_,hb⟩
  exact fin _ _ ho hb
 ·refine(Tryz.clone174 b off l.length cap l w (Nat.le_refl _) (by omega) (fun j hj=>hk j _ (by rw[hfl,List.getElem?_map,List.getElem?_eq_getElem hj];simp[List.getD_eq_getElem?_getD,List.getElem?_eq_getElem hj]))).mono ?_
  rintro e w' ⟨v',rfl,ho,_,hb⟩
  rw[List.take_of_length_le (Nat.le_refl _)] at ho
  exact fin _ _ ho hb
abbrev W83:=W82.add Kwk
theorem Kwl:Ok Tryz.prog 173 (Jdl 9 .str):=by
 refine⟨⟨Tryz.f173,by kernel_rfl,by kernel_rfl,by kernel_rfl⟩,fun z hz=>(by cases hz),fun F hF=>(by cases hF),fun _ x M R w vs hM hg hpre hargs=> ?_⟩
 obtain⟨l,u⟩:=x
 obtain⟨v1,vs1,rfl,⟨cs,rfl,hr⟩,hn⟩:=hargs
 have hn:vs1=[]:=hn
 subst hn
 obtain⟨v,flat,rfl,h1,h2⟩:=hr
 have hfl:=Je2 h1
 have hl:l.length≤1000000:=hpre
 have fin:∀(v':Value) (w':World),w'.ownsRow w.heap.size 9 1 v' l.length (l.map Value.string)→RowKit.Below w.heap.size w w'→Jph M w (Jdl 9 .str).ress (Jdl 9 .str).owns ((Jdl 9 .str).spec (l,u)) (.returned v') w':=by
  intro v' w' ho hb
  refine⟨M,[v'],rfl, .ofK hb,fun _ h=>h,fun b h=> .inl h,_,[],rfl,⟨l.map Value.string,Jpx l,ho,fun g hg' hMg=> ?_⟩,rfl⟩
  rcases ho.2 with⟨rfl,_⟩|⟨g',cap,cur,rfl,hbg,_⟩
  ·cases hg'
  ·have:g'=g:=Option.some.inj hg'
   have:=hM g (.inl hMg)
   omega
 rcases h2 with⟨rfl|⟨ad,cap,rfl⟩,h0⟩|⟨b,off,cap,rfl,hcap,hk,hm⟩
 ·have:l=[]:=List.eq_nil_of_length_eq_zero h0
  subst this
  refine(Tryz.clone173_nil 0 0 w).mono ?_
  rintro e w' ⟨rfl,rfl⟩
  exact fin _ _ ⟨rfl, .inl ⟨rfl,rfl⟩⟩ (RowKit.Below.refl _ _)
 ·have:l=[]:=List.eq_nil_of_length_eq_zero h0
  subst this
  refine(Tryz.clone173_zero ad cap w).mono ?_
  rintro e w' ⟨v',rfl,ho,_,hb⟩
  exact fin _ _ ho hb
 ·refine(Tryz.clone173 b off l.length cap l w (Nat.le_refl _) (by omega) (fun j hj=>hk j _ (by rw[hfl,List.getElem?_map,List.getElem?_eq_getElem hj];simp[List.getD_eq_getElem?_getD,List.getElem?_eq_getElem hj]))).mono ?_
  rintro e w' ⟨v',rfl,ho,_,hb⟩
  rw[List.take_of_length_le (Nat.le_refl _)] at ho
  exact fin _ _ ho hb
abbrev W84:=W83.add Kwl
def J5h:Con:={args:=[aEv],ress:=[(true,sEv)],owns:=[],pre:=fun(e,_)=>[e.2.2.1.length≤1000000,e.2.2.2.1.length≤1000000],spec:=fun(e,_)=>(e,())}
def Jdp (a:Ls) (b:Li):=F5 a∧Z61 b
theorem K8c:Ok Tryz.prog 81 J5h:=okW W84 Tryz.f81 na fun xx=>by
 obtain⟨⟨(n:Int),(k:ByteArray),(ns:List ByteArray),(vs:List Int),(tx:ByteArray)⟩,_⟩:=xx
 refine(by kernel_rfl:(F5 ns→Z61 vs→Jdp ns vs∧(n,k,ns,vs,tx)=(n,k,ns,vs,tx))=_).mp ?_
 delta Z61 F5 Jdp
 exact fun h1 h2=>⟨⟨h1,h2⟩,rfl⟩
abbrev W85:=W84.add K8c
def Jhh (T:TypeId) (s:Sch):Con:={args:=[.val false (.list T s)],ress:=[(false, .list T s)],owns:=[true],pre:=fun(l,_)=>[l.length≤1000000],spec:=fun(l,_)=>(l,())}
theorem Khy:Ok Tryz.prog 216 (Jhh 127 De):=okW W85 Tryz.f216 na fun xx=>by
 obtain⟨(l:List Sta),_⟩:=xx
 refine(by kernel_rfl:(Z62 l→((0≤Ln l∧Ln l≤1000000)∧Ln l≤Ln l∧Ln l≤1000000)∧List.length l=List.length (List.replicate (List.length l) Z12)∧l=l)=_).mp ?_
 delta Z12 Z62 Ln B0
 intro h
 exact⟨⟨⟨by omega,by omega⟩,by omega,by omega⟩,by simp,rfl⟩
abbrev W86:=W85.add Khy
theorem Khx:Ok Tryz.prog 217 (Jhh 130 Hj):=okW W86 Tryz.f217 na fun xx=>by
 obtain⟨(l:List Ord),_⟩:=xx
 refine(by kernel_rfl:(Z64 l→((0≤Ln l∧Ln l≤1000000)∧Ln l≤Ln l∧Ln l≤1000000)∧List.length l=List.length (List.replicate (List.length l) Jem)∧l=l)=_).mp ?_
 delta Z64 Z83 Jem Ln B0
 intro h
 exact⟨⟨⟨by omega,by omega⟩,by omega,by omega⟩,by simp,rfl⟩
abbrev W87:=W86.add Khx
theorem Khw:Ok Tryz.prog 218 (Jhh 155 Dm):=okW W87 Tryz.f218 na fun xx=>by
 obtain⟨(l:List Met),_⟩:=xx
 refine(by kernel_rfl:(List.length l≤1000000→((0≤Ln l∧Ln l≤1000000)∧Ln l≤Ln l∧Ln l≤1000000)∧List.length l=List.length (List.replicate (List.length l) Jt0)∧l=l)=_).mp ?_
 delta Z83 Jt0 Ln B0
 intro h
 exact⟨⟨⟨by omega,by omega⟩,by omega,by omega⟩,by simp,rfl⟩
abbrev W88:=W87.add Khw
theorem Khv:Ok Tryz.prog 219 (Jhh 188 X4):=okW W88 Tryz.f219 na fun xx=>by
 obtain⟨(l:List Out),_⟩:=xx
 refine(by kernel_rfl:(Z55 l→((0≤Ln l∧Ln l≤1000000)∧Ln l≤Ln l∧Ln l≤1000000)∧List.length l=List.length (List.replicate (List.length l) Jgp)∧l=l)=_).mp ?_
 delta Z55 Jgp Ln B0
 intro h
 exact⟨⟨⟨by omega,by omega⟩,by omega,by omega⟩,by simp,rfl⟩
abbrev W89:=W88.add Khv
theorem Khu:Ok Tryz.prog 220 (Jhh 235 Zl):=okW W89 Tryz.f220 na fun xx=>by
 obtain⟨(l:List Per),_⟩:=xx
 refine(by kernel_rfl:(Z54 l→((0≤Ln l∧Ln l≤1000000)∧Ln l≤Ln l∧Ln l≤1000000)∧List.length l=List.length (List.replicate (List.length l) (B0,B0,false))∧l=l)=_).mp ?_
 delta Z54 Ln B0
 intro h
 exact⟨⟨⟨by omega,by omega⟩,by omega,by omega⟩,by simp,rfl⟩
abbrev W90:=W89.add Khu
end Go.Proofs.YtcibbcfiemeoiaaGreatDoor
namespace Go.Proofs.Tryz
open Go.Proofs.YtcibbcfiemeoiaaGreatDoor
def kindsU:List (ByteArray×K76):=[(J1,[],0,none,none,none),
 (Jy,[(0,false)],2,some 148,some 149,some 150),
 (Ue,[(0,true)],2,some 152,some 153,some 150),
 (Ku,[(1,false),(0,true),(0,true)],4,some 154,some 155,some 156),
 (Uc,[(1,true)],4,some 157,some 158,some 156),
 (Vq,[(1,true)],1,some 159,some 160,some 156),
 (Jz,[(2,false),(0,true)],4,some 161,some 162,some 163),
 (Jv,[(2,true)],1,some 164,some 165,some 163),
 (Kh,[(3,false),(2,true)],1,some 166,some 167,some 168),
 (Kg,[(3,true)],1,some 169,some 170,some 168),
 (Ji,[],2,some 171,some 172,none)]
end Go.Proofs.Tryz
namespace Go.Proofs.YtcibbcfiemeoiaaGreatDoor
open Go.Sx
def J77:Jm7:={kT:=9,gk:=false,gv:=true,ks:= .str,vs:=Khn,l:=Tryz.kindsU}
theorem Kuw:Ok Tryz.prog 80 (Jm7.con J77):=Kux
abbrev W91:=W90.add Kuw
abbrev J9:=List Ev×List Ev×List Reg
abbrev Jjh:Sch:= .prod (.list 67 sEv) (.prod (.list 67 sEv) (.list 105 Jkq))
def Xg:Reg:=(0,0,[],[],[],[],[])
def ev0:Ev:=(0,Jb,[],[],Jb)
def Ko (G:List Reg):Reg:=G.getD (G.length-1) Xg
structure Kp (h:J9):Prop where
 nE:h.1.length≤1000
 nC:h.2.1.length≤h.1.length
 nG:h.2.2.length=h.2.1.length
 reg:∀r∈h.2.2,Jn r
def Ks (r:Reg) (ns:List ByteArray):List (Int×Bool)→Nat→Bool
 |[],_=>false
 |(w,b)::l,i=>bif (bif b then !Ye r w (ns.getD i Jb) else false) then true else Ks r ns l (i+1)
def K5 (r:Reg) (ns:List ByteArray):List (Int×Bool)→Nat→Bool
 |[],_=>false
 |(w,b)::l,i=>bif (bif !b then Ye r w (ns.getD i Jb) else false) then true else K5 r ns l (i+1)
def ckS (r:Reg) (e:Ev):Int:=match(Jh e.2.1).2.2.1 with
 |some 148=>Jmp r.2.2.1 e.2.2.2.1
 |some 152=>Joy e.2.2.2.1
 |some 154=>Jct r.2.2.1 r.2.2.2.1 r.2.2.2.2.2.1 e
 |some 157=>Jmq r.2.2.2.1 r.2.2.2.2.1 e.2.2.1 e.2.2.2.1
 |some 159=>Jdh r.2.2.2.1 e.2.2.1 e.2.2.2.1
 |some 161=>Jcs r.2.2.1 r.2.2.2.1 r.2.2.2.2.2.1 e
 |some 164=>Jdi r.2.2.2.2.2.1 r.2.2.2.2.2.2 e.2.2.1 e.2.2.2.1
 |some 166=>Jdj r.2.2.2.2.2.1 r.2.2.2.2.2.2 e.2.2.1 e.2.2.2.1
 |some 169=>Jox r.2.2.2.2.2.2 e.2.2.1
 |some 171=>L6 r.2.1 r.2.2.2.1 r.2.2.2.2.1 r.2.2.2.2.2.1 r.2.2.2.2.2.2 e.2.2.2.1
 |_=>0
def L9 (h:J9) (e:Ev):Int:=
 bif e.1 !=(h.1.length:Int)+1 then 11 else
 bif e.2.1.toList==J1.toList then(bif (h.2.1.length:Int)==0 then 12 else bif (h.2.1.getD (h.2.1.length-1) ev0).2.1.toList==Ji.toList then 21 else 0) else
 bif decide (e.2.2.2.1.getD 0 0<(Ko h.2.2).1) then 22 else
 bif Ks (Ko h.2.2) e.2.2.1 (Jh e.2.1).1 0 then 10 else
 bif K5 (Ko h.2.2) e.2.2.1 (Jh e.2.1).1 0 then 9 else ckS (Ko h.2.2) e
def Jqu:X9:={T? :=none,s:=Jjh,args:=[aEv],ress:=[I],pre:=fun h (e,_)=>[Kp h,Jd e=0],spec:=fun h (e,_)=>(L9 h e,()),post:=fun h _=>h}
abbrev Xt (m:Nat):Nat→Option Ann:=fun i=>if i=0∨i=2 then some {X:=Unit,σ:=fun _=>⟨0,[],[]⟩,inv:=fun _=>True,mu:=fun _=>0,un:=m} else none
def Jq6 (h:J9) (n:Int) (ns:List ByteArray) (vs:List Int) (roles:List (Int×Bool)) (ck:Int):Int:=
 bif n !=(h.1.length:Int)+1 then 11 else
 bif decide (vs.getD 0 0<(Ko h.2.2).1) then 22 else
 bif Ks (Ko h.2.2) ns roles 0 then 10 else
 bif K5 (Ko h.2.2) ns roles 0 then 9 else ck
theorem Xa {h:J9} {n:Int} {k:ByteArray} {ns:List ByteArray} {vs:List Int} {tx:ByteArray} (h1:(k.toList==J1.toList)=false):L9 h (n,k,ns,vs,tx)=Jq6 h n ns vs (Jh k).1 (ckS (Ko h.2.2) (n,k,ns,vs,tx)):=by
 unfold L9 Jq6
 dsimp only
 rw[h1];rfl
theorem Ui:Jh Jy=([(0,false)],2,some 148,some 149,some 150):=by kernel_rfl
theorem Vj:Jh Ue=([(0,true)],2,some 152,some 153,some 150):=by kernel_rfl
theorem U1:Jh Ku=([(1,false),(0,true),(0,true)],4,some 154,some 155,some 156):=by kernel_rfl
theorem U2:Jh Uc=([(1,true)],4,some 157,some 158,some 156):=by kernel_rfl
theorem Vw:Jh Vq=([(1,true)],1,some 159,some 160,some 156):=by kernel_rfl
theorem K7:Jh Jz=([(2,false),(0,true)],4,some 161,some 162,some 163):=by kernel_rfl
theorem Kt:Jh Jv=([(2,true)],1,some 164,some 165,some 163):=by kernel_rfl
theorem Ug:Jh Kh=([(3,false),(2,true)],1,some 166,some 167,some 168):=by kernel_rfl
theorem Uf:Jh Kg=([(3,true)],1,some 169,some 170,some 168):=by kernel_rfl
theorem Uw:Jh Ji=([],2,some 171,some 172,none):=by kernel_rfl
theorem Jci:Jh J1=([],0,none,none,none):=by kernel_rfl
theorem Jhd {r:Reg} {s:ByteArray}:Ye r 0 s=decide (0≤J6 r.2.2.1 s):=rfl
theorem Jhc {r:Reg} {s:ByteArray}:Ye r 1 s=decide (0≤K0 r.2.2.2.1 s):=rfl
theorem Jft {r:Reg} {s:ByteArray}:Ye r 2 s=decide (0≤Kc r.2.2.2.2.2.1 s):=rfl
theorem Jhb {r:Reg} {s:ByteArray}:Ye r 3 s=decide (0≤U5 r.2.2.2.2.2.2 s):=rfl
structure Ket (e:Ev):Prop where
 num:1≤e.1∧e.1≤1000
 kind:Uo e.2.1=true
 nn:e.2.2.1.length=(Jh e.2.1).1.length
 nv:(e.2.2.2.1.length:Int)=(Jh e.2.1).2.1
 name:∀s∈e.2.2.1,Ys s=true
 val:EvV e
 txt:e.2.2.2.2.size=0
theorem Uy {l:List Int}:Jg l=0↔∀x∈l,x=0:=by
 induction l with
 |nil=>simp[Jg]
 |cons x l ih=>
  unfold Jg
  by_cases h:x=0
  ·rw[if_pos h,ih];simp[h]
  ·rw[if_neg h];simp[h]
theorem Yq {n a b:Int}:Kr n a b=0↔a≤n∧n≤b:=by
 unfold Kr
 by_cases h1:n<a
 ·simp[h1];omega
 ·by_cases h2:b<n
  ·simp[h2]
  ·simp[h1,h2];omega
theorem K1 {e:Ev} (h:Jd e=0):Ket e:=by
 unfold Jd at h
 by_cases h1:Kr e.1 1 1000≠0
 ·rw[if_pos h1] at h;exact absurd h h1
 rw[if_neg h1] at h
 cases hk:Uo e.2.1 with
 |false=>rw[hk] at h;cases h
 | true =>
  rw[hk,cond_true] at h
  by_cases h2:e.2.2.1.length=(Jh e.2.1).1.length∧(e.2.2.2.1.length:Int)=(Jh e.2.1).2.1
  ·rw[if_pos h2] at h
   have h3:=Uy.1 h
   have n1:=Uy.1 (h3 _ (List.mem_cons_self ..))
   have n2:=Uy.1 (h3 _ (List.mem_cons_of_mem _ (List.mem_cons_self ..)))
   have n3:=h3 _ (List.mem_cons_of_mem _ (List.mem_cons_of_mem _ (List.mem_cons_self ..)))
   refine⟨Yq.1 (by omega),hk,h2.1,h2.2,fun s hs=> ?_,fun v hv=>Yq.1 (n2 _ (List.mem_map_of_mem hv)), ?_⟩
   ·have:=n1 _ (List.mem_map_of_mem hs)
    cases hn:Ys s with
    |true=>rfl
    |false=>rw[hn] at this;cases this
   ·by_cases h4:0<e.2.2.2.2.size
    ·rw[decide_eq_true h4] at n3;cases n3
    ·omega
  ·rw[if_neg h2] at h;cases h
theorem Fq {h:J9} (hh:Kp h):Jn (Ko h.2.2):=by
 unfold Ko
 by_cases h0:0<h.2.2.length
 ·exact hh.reg _ (Je (by omega))
 ·have:h.2.2=[]:=List.eq_nil_of_length_eq_zero (by omega)
  rw[this]
  exact⟨by decide,by decide,by decide,by decide,by decide,by decide,by decide,fun _ h=>(by cases h),fun _ h=>(by cases h),fun _ h=>(by cases h),fun _ h=>(by cases h),fun _ h=>(by cases h),fun _ h=>(by cases h)⟩
theorem Kw {G:List Reg} (h:decide (0<(G.length:Int))=false):Ko G=Xg:=by
 have h:¬0<(G.length:Int):=of_decide_eq_false h
 have:G=[]:=List.eq_nil_of_length_eq_zero (by omega)
 rw[this];rfl
theorem H7:((0,0,[],[],[],[],[]):Reg)=Xg:=rfl
theorem Jh7 (G:List Reg):G.getD (G.length-1) Xg=Ko G:=rfl
theorem Ld {E C:List Ev} {G:List Reg} {e:Ev} (hh:Kp (E,C,G)) (hc:Jd e=0):e.2.2.1.length=(Jh e.2.1).1.length∧(e.2.2.2.1.length:Int)=(Jh e.2.1).2.1∧Jn (Ko G)∧Jn Xg∧E.length≤1000∧C.length≤E.length∧G.length=C.length∧((G.length:Int)-1).toNat=G.length-1∧EvV e:=
 have hE:=K1 hc
 ⟨hE.nn,hE.nv,Fq hh,Fq (h:=([],[],[])) ⟨by decide,by decide,rfl,fun _ h=>(by cases h)⟩,hh.nE,hh.nC,hh.nG,by omega,hE.val⟩
def Z2 (a:List Ev):=Ln a==0
def Z4 (a:Int) (b:Ls) (c:Li) (d:Bt):=(a,J1,b,c,d)
def Z5 (a:List Ev):=Ln a+1
def Z8 (a:List Ev):=Ln a-1
def Z31:=Iw ((0:Int)+1)
def Z67:=Tw (Bd 0 0)
def Z76 (a:List Ev):=Iw (Z5 a)
def Z77 (a:List Ev):=Iw (Z8 a)
def K4 (a:Li):=Tw (Z30 a)
def Yc (a:List Reg):=decide (0<Ln a)
def J6b:=Z31∧False
def Jtb (a b:List Ev) (c:List Reg) (d:Int) (e:Ls) (f:Li) (g:Bt):=L9 (a,b,c) (Z4 d e f g)
def Di:Int×ByteArray×List ByteArray×List Int×ByteArray:=((0:Int),B0,[],[],B0)
def Jg0 (a:Li):=decide (U8 a<0)
def Do:Int×List Sta×List Ord×List Met×List Out×List Per:=((0:Int),[],[],[],[],[])
def Jgy (a:Int) (b:List Ev):=a !=Z5 b
def Jgx (a:List Ev):=Z77 a∧Tw (Bd (Z8 a) (Ln a))
def Vz:=((0:Int),Do)
def Yb (a:List Reg):=Iw (Ln a-1)∧Tw (Bd (Ln a-1) (Ln a))
def Y1:=Jn Vz
def Jej:=true=true→Y1
def Jb2:=false=true→Y1
def Fl (a:List Reg):=Gt a (Ln a-1) Vz
def Jaw (a:List Reg):=(Fl a).1
def Fk (a:List Reg):=(Fl a).2
def F4 (a:List Reg):=(Fk a).1
def H5 (a:List Reg):=(Fk a).2
def H4 (a:List Reg):=(H5 a).2
def Dn (a:List Reg):=(H4 a).2
def Hk (a:List Reg):=(Dn a).2
def J5s (a:Ls):=Ye Vz 0 (Uz a)
def Jgw (a:List Ev):=bif Lb (Gt a (Z8 a) Di).2.1 Ji then(21:Int) else(0:Int)
def Ke9 (a:Ls):=bif true then J5s a else false
def Jgv (a:Li) (b:List Reg):=decide (U8 a<Jaw b)
def Jgu (a:Ls):=T2 (true=true→Yd a) Jej
def Jgt (a:Ls):=T2 (false=true→Yd a) Jb2
def K1e (a:TypeId) (b c:List Ev) (d:List Reg) (e:Int) (f:Ls) (g:Li) (h:Bt):=Br false (Sf true (Sf a (Sf (b,c,d) (10=Jtb b c d e f g h)))) J6b
def Ym (a:List Reg):=(F4 a,(H5 a).1,(H4 a).1,(Dn a).1,E2 (Hk a))
def Kx (a:List Reg):=(Jaw a,Ym a)
def Ub (a:List Reg):=Jn (Kx a)
def Zi (a:List Reg):=true=true→Ub a
def Xu (a:List Reg):=false=true→Ub a
def Jm3 (a:List Reg) (b:Ls):=Ye (Kx a) 0 (Uz b)
def Jth (a:List Reg) (b:Ls):=bif true then Jm3 a b else false
def Hr (a:Ls) (b:List Reg):=T2 (true=true→Yd a) (Zi b)
def Hq (a:Ls) (b:List Reg):=T2 (false=true→Yd a) (Xu b)
variable (T:TypeId) (E C:List Ev) (G:List Reg) (tk st:Int) (S:List Sta) (O:List Ord) (M:List Met) (X:List Out) (Q:List Per) (n:Int) (ns:List ByteArray) (vs:List Int) (tx:ByteArray)
theorem Jrr:wpFO Tryz.prog W91.g (Xt 1) (fun _=>na ()) (Sx.look ([(75,Tryz.f75)]:List (Nat×Func))) Tryz.f130 Jqu T (E,C,G) ((n,J1,ns,vs,tx),()):=by
 refine(by kernel_rfl:(Kp (E,C,G)→Jd (Z4 n ns vs tx)=0→Z76 E∧Br (Jgy n E) (Sf true (Sf T (Sf (E,C,G) (11=Jtb E C G n ns vs tx)))) (Br true (Br (Z2 C) (Sf true (Sf T (Sf (E,C,G) (12=Jtb E C G n ns vs tx)))) (Jgx C∧Sf true (Sf T (Sf (E,C,G) (Jgw C=Jtb E C G n ns vs tx))))) (Br (Yc G) (Yb G∧K4 vs∧Br (Jgv vs G) (Sf true (Sf T (Sf (E,C,G) (22=Jtb E C G n ns vs tx)))) (Br false (Z67∧Hq ns G∧K1e T E C G n ns vs tx) (Br false (Z67∧Hr ns G∧Br (Jth G ns) (Sf true (Sf T (Sf (E,C,G) (9=Jtb E C G n ns vs tx)))) J6b) (False∧Sf true False)))) (K4 vs∧Br (Jg0 vs) (Sf true (Sf T (Sf (E,C,G) (22=Jtb E C G n ns vs tx)))) (Br false (Z67∧Jgt ns∧K1e T E C G n ns vs tx) (Br false (Z67∧Jgu ns∧Br (Ke9 ns) (Sf true (Sf T (Sf (E,C,G) (9=Jtb E C G n ns vs tx)))) J6b) (False∧Sf true False)))))))=_).mp ?_
 delta Z2 Z4 Z5 Z8 Z30 Z31 Z67 Z76 Z77 Yd K4 Uz U8 Yc J6b Jtb Di Jg0 Do Jgy Jgx Vz Yb Y1 Jej Jb2 Fl Jaw Fk F4 H5 H4 Dn Hk J5s Jgw Ke9 Jgv Jgu Jgt K1e Ym Kx Ub Zi Xu Jm3 Jth Hr Hq Br Iw Bd T2 Tw Sf Ln Gt B0 Lb E2 Ji J1
 intro hh hc
 have hE:=K1 hc
 have n1:E.length≤1000:=hh.nE
 have n2:C.length≤E.length:=hh.nC
 have eA:L9 (E,C,G) (n,J1,ns,vs,tx)=bif n !=(E.length:Int)+1 then 11 else(bif (C.length:Int)==0 then 12 else bif (C.getD (C.length-1) ev0).2.1.toList==Ji.toList then 21 else 0):=by
  unfold L9
  dsimp only
  rw[show(J1.toList==J1.toList)=true from by kernel_rfl];rfl
 refine⟨by omega,fun h=>⟨rfl,rfl,rfl, ?_⟩,fun h=>⟨fun _=>⟨fun h2=>⟨rfl,rfl,rfl, ?_⟩,fun h2=> ?_⟩,fun h=>(by cases h)⟩⟩
 ·rw[eA,h];rfl
 ·rw[eA,h,h2];rfl
 ·have h3:¬C.length=0:=fun e=>by rw[e] at h2;cases h2
  have h4:((C.length:Int)-1).toNat=C.length-1:=by omega
  refine⟨⟨⟨by omega,by omega⟩,⟨by omega,by omega⟩,⟨by omega,by omega⟩⟩,rfl,rfl,rfl, ?_⟩
  rw[eA,h,h2,h4];rfl
def Z37 (a:Int) (b:Ls) (c:Li) (d:Bt):=(a,Jy,b,c,d)
def Z59:=Tw (Bd 0 1)
def Jpc:=(0:Int)+1+1
def Jg1:=Iw Jpc
def Jaz:=Tw (Bd ((0:Int)+1) 1)
def Jra (a b:List Ev) (c:List Reg) (d:Int) (e:Ls) (f:Li) (g:Bt):=L9 (a,b,c) (Z37 d e f g)
def Jen:=Jg1∧False
def Jyg (a:Ls):=true=true→Bd ((0:Int)+1) (Ln a)
def Jyf (a:Ls):=false=true→Bd ((0:Int)+1) (Ln a)
def Kfg (a:Li):=Y1∧Z66 a
def Jz0 (a:Ls):=Ye Vz 0 (Lp a)
def Kle (a:TypeId) (b c:List Ev) (d:List Reg) (e:Int) (f:Ls) (g:Li) (h:Bt):=Sf true (Sf a (Sf (b,c,d) (9=Jra b c d e f g h)))
def Kpn (a:TypeId) (b c:List Ev) (d:List Reg) (e:Int) (f:Ls) (g:Li) (h:Bt):=Sf true (Sf a (Sf (b,c,d) (10=Jra b c d e f g h)))
def Jtt (a:Ls):=bif true then Jz0 a else false
def Jks (a:Ls):=T2 (Jyg a) Jej
def Jkr (a:Ls):=T2 (Jyf a) Jb2
def K01 (a:TypeId) (b c:List Ev) (d:List Reg) (e:Int) (f:Ls) (g:Li) (h:Bt):=Br false (Kpn a b c d e f g h) Jen
def Kz5 (a:Li) (b:TypeId) (c d:List Ev) (e:List Reg) (f:Int) (g:Ls) (h:Bt):=Kfg a∧Sf true (Sf b (Sf (c,d,e) (Jmp [] a=Jra c d e f g a h)))
def Jtj (a:List Reg) (b:Li):=Ub a∧Z66 b
def Jhk (a:List Reg) (b:Ls):=Ye (Kx a) 0 (Lp b)
def Jdx (a:List Reg) (b:Ls):=bif true then Jhk a b else false
def Dl (a:Ls) (b:List Reg):=T2 (Jyg a) (Zi b)
def Dk (a:Ls) (b:List Reg):=T2 (Jyf a) (Xu b)
def Kba (a:List Reg) (b:Li) (c:TypeId) (d e:List Ev) (f:Int) (g:Ls) (h:Bt):=Jtj a b∧Sf true (Sf c (Sf (d,e,a) (Jmp (H5 a).1 b=Jra d e a f g b h)))
def Kau (a:Ls) (b:TypeId) (c d:List Ev) (e:List Reg) (f:Int) (g:Li) (h:Bt):=Br true (Z59∧Jgu a∧Br (Ke9 a) (Kle b c d e f a g h) (Z31∧Br false (Jaz∧Jks a∧Br (Jtt a) (Kle b c d e f a g h) Jen) (Kz5 g b c d e f a h))) (Kz5 g b c d e f a h)
def Kae (a:Ls) (b:List Reg) (c:TypeId) (d e:List Ev) (f:Int) (g:Li) (h:Bt):=Br true (Z59∧Hr a b∧Br (Jth b a) (Kle c d e b f a g h) (Z31∧Br false (Jaz∧Dl a b∧Br (Jdx b a) (Kle c d e b f a g h) Jen) (Kba b g c d e f a h))) (Kba b g c d e f a h)
theorem Ji0:wpFO Tryz.prog W91.g (Xt 2) (fun _=>na ()) (Sx.look ([(75,Tryz.f75)]:List (Nat×Func))) Tryz.f130 Jqu T (E,C,G) ((n,Jy,ns,vs,tx),()):=by
 refine(by kernel_rfl:(Kp (E,C,G)→Jd (Z37 n ns vs tx)=0→Z76 E∧Br (Jgy n E) (Sf true (Sf T (Sf (E,C,G) (11=Jra E C G n ns vs tx)))) (Br false (Br (Z2 C) (Sf true (Sf T (Sf (E,C,G) (12=Jra E C G n ns vs tx)))) (Jgx C∧Sf true (Sf T (Sf (E,C,G) (Jgw C=Jra E C G n ns vs tx))))) (Br (Yc G) (Yb G∧K4 vs∧Br (Jgv vs G) (Sf true (Sf T (Sf (E,C,G) (22=Jra E C G n ns vs tx)))) (Br true (Z59∧Hq ns G∧Br false (Kpn T E C G n ns vs tx) (Z31∧Br false (Jaz∧Dk ns G∧K01 T E C G n ns vs tx) (Kae ns G T E C n vs tx))) (Kae ns G T E C n vs tx))) (K4 vs∧Br (Jg0 vs) (Sf true (Sf T (Sf (E,C,G) (22=Jra E C G n ns vs tx)))) (Br true (Z59∧Jgt ns∧Br false (Kpn T E C G n ns vs tx) (Z31∧Br false (Jaz∧Jkr ns∧K01 T E C G n ns vs tx) (Kau ns T E C G n vs tx))) (Kau ns T E C G n vs tx))))))=_).mp ?_
 delta Z2 Z5 Z8 Z30 Z31 Z37 Z59 Z66 Z76 Z77 Yd K4 Uz Lp U8 Yc Jpc Jg1 Jaz Jra Jen Di Jg0 Jyg Jyf Do Jgy Jgx Vz Yb Y1 Jej Jb2 Fl Jaw Fk Kfg F4 H5 H4 Dn Hk J5s Jz0 Jgw Kle Kpn Ke9 Jtt Jgv Jgu Jgt Jks Jkr K01 Kz5 Ym Kx Ub Zi Xu Jtj Jm3 Jhk Jth Jdx Hr Hq Dl Dk Kba Kau Kae Br Iw Bd T2 Tw Sf Ln Gt B0 Lb E2 Ji Jy
 intro hh hc
 have eK:=Xa (h:=(E,C,G)) (n:=n) (k:=Jy) (ns:=ns) (vs:=vs) (tx:=tx) (by kernel_rfl)
 obtain⟨hn,hv,hR,hr0,n1,n2,n3,hG,hV⟩:=Ld hh hc
 simp only[Ui,ckS,List.length_cons,List.length_nil] at eK hn hv
 rw[eK]
 simp only[hG,Jh7,H7,Prod.eta,Jq6,Ks,K5,Jhd,Jhc,Jft,Jhb,cond_true,cond_false,Bool.not_true,Bool.not_false,Jb]
 repeat' first|apply And.intro|exact hV|intro _
 all_goals first|trivial|omega|assumption|(rename_i h;have h:=of_decide_eq_true h;omega)|(simp only[*,cond_true,cond_false,Bool.not_true,Bool.not_false];done)|(rw[Kw ‹_›];(first|have e1:decide (vs.getD 0 0<Xg.1)=true:=‹_›|have e1:decide (vs.getD 0 0<Xg.1)=false:=‹_›);simp only[*,cond_true,cond_false,Bool.not_true,Bool.not_false];first|done|rfl)|(simp only[Bool.not_eq_false',decide_eq_true_eq] at*;assumption)
def Z16 (a:Int) (b:Ls) (c:Li) (d:Bt):=(a,Ue,b,c,d)
def Jta (a b:List Ev) (c:List Reg) (d:Int) (e:Ls) (f:Li) (g:Bt):=L9 (a,b,c) (Z16 d e f g)
def Kli (a:TypeId) (b c:List Ev) (d:List Reg) (e:Int) (f:Ls) (g:Li) (h:Bt):=Sf true (Sf a (Sf (b,c,d) (9=Jta b c d e f g h)))
def Kpq (a:TypeId) (b c:List Ev) (d:List Reg) (e:Int) (f:Ls) (g:Li) (h:Bt):=Sf true (Sf a (Sf (b,c,d) (10=Jta b c d e f g h)))
def Ke8 (a:Ls):=bif true then !J5s a else false
def Kkx (a:Li) (b:TypeId) (c d:List Ev) (e:List Reg) (f:Int) (g:Ls) (h:Bt):=Z66 a∧Sf true (Sf b (Sf (c,d,e) (Joy a=Jta c d e f g a h)))
def K05 (a:TypeId) (b c:List Ev) (d:List Reg) (e:Int) (f:Ls) (g:Li) (h:Bt):=Br false (Kpq a b c d e f g h) Jen
def Jtg (a:List Reg) (b:Ls):=bif true then !Jm3 a b else false
def Ka0 (a:Ls) (b:TypeId) (c d:List Ev) (e:List Reg) (f:Int) (g:Li) (h:Bt):=Br true (Z59∧Jgt a∧Br false (Kli b c d e f a g h) (Z31∧Br false (Jaz∧Jks a∧Br (Jtt a) (Kli b c d e f a g h) Jen) (Kkx g b c d e f a h))) (Kkx g b c d e f a h)
def Kao (a:Ls) (b:List Reg) (c:TypeId) (d e:List Ev) (f:Int) (g:Li) (h:Bt):=Br true (Z59∧Hq a b∧Br false (Kli c d e b f a g h) (Z31∧Br false (Jaz∧Dl a b∧Br (Jdx b a) (Kli c d e b f a g h) Jen) (Kkx g c d e b f a h))) (Kkx g c d e b f a h)
theorem Jnj:wpFO Tryz.prog W91.g (Xt 2) (fun _=>na ()) (Sx.look ([(75,Tryz.f75)]:List (Nat×Func))) Tryz.f130 Jqu T (E,C,G) ((n,Ue,ns,vs,tx),()):=by
 refine(by kernel_rfl:(Kp (E,C,G)→Jd (Z16 n ns vs tx)=0→Z76 E∧Br (Jgy n E) (Sf true (Sf T (Sf (E,C,G) (11=Jta E C G n ns vs tx)))) (Br false (Br (Z2 C) (Sf true (Sf T (Sf (E,C,G) (12=Jta E C G n ns vs tx)))) (Jgx C∧Sf true (Sf T (Sf (E,C,G) (Jgw C=Jta E C G n ns vs tx))))) (Br (Yc G) (Yb G∧K4 vs∧Br (Jgv vs G) (Sf true (Sf T (Sf (E,C,G) (22=Jta E C G n ns vs tx)))) (Br true (Z59∧Hr ns G∧Br (Jtg G ns) (Kpq T E C G n ns vs tx) (Z31∧Br false (Jaz∧Dk ns G∧K05 T E C G n ns vs tx) (Kao ns G T E C n vs tx))) (Kao ns G T E C n vs tx))) (K4 vs∧Br (Jg0 vs) (Sf true (Sf T (Sf (E,C,G) (22=Jta E C G n ns vs tx)))) (Br true (Z59∧Jgu ns∧Br (Ke8 ns) (Kpq T E C G n ns vs tx) (Z31∧Br false (Jaz∧Jkr ns∧K05 T E C G n ns vs tx) (Ka0 ns T E C G n vs tx))) (Ka0 ns T E C G n vs tx))))))=_).mp ?_
 delta Z2 Z5 Z8 Z16 Z30 Z31 Z59 Z66 Z76 Z77 Yd K4 Uz Lp U8 Yc Jpc Jg1 Jaz Jta Jen Di Jg0 Jyg Jyf Do Jgy Jgx Vz Yb Y1 Jej Jb2 Fl Jaw Fk F4 H5 H4 Dn Hk J5s Jz0 Jgw Kli Kpq Jtt Ke8 Jgv Jgu Jgt Jks Jkr Kkx K05 Ym Kx Ub Zi Xu Jm3 Jhk Jdx Jtg Hr Hq Dl Dk Ka0 Kao Br Iw Bd T2 Tw Sf Ln Gt B0 Lb E2 Ue Ji
 intro hh hc
 have eK:=Xa (h:=(E,C,G)) (n:=n) (k:=Ue) (ns:=ns) (vs:=vs) (tx:=tx) (by kernel_rfl)
 obtain⟨hn,hv,hR,hr0,n1,n2,n3,hG,hV⟩:=Ld hh hc
 simp only[Vj,ckS,List.length_cons,List.length_nil] at eK hn hv
 rw[eK]
 simp only[hG,Jh7,H7,Prod.eta,Jq6,Ks,K5,Jhd,Jhc,Jft,Jhb,cond_true,cond_false,Bool.not_true,Bool.not_false,Jb]
 repeat' first|apply And.intro|exact hV|intro _
 all_goals first|trivial|omega|assumption|(rename_i h;have h:=of_decide_eq_true h;omega)|(simp only[*,cond_true,cond_false,Bool.not_true,Bool.not_false];done)|(rw[Kw ‹_›];(first|have e1:decide (vs.getD 0 0<Xg.1)=true:=‹_›|have e1:decide (vs.getD 0 0<Xg.1)=false:=‹_›);simp only[*,cond_true,cond_false,Bool.not_true,Bool.not_false];first|done|rfl)|(simp only[Bool.not_eq_false',decide_eq_true_eq] at*;assumption)
def Z15 (a:Int) (b:Ls) (c:Li) (d:Bt):=(a,Ku,b,c,d)
def Z58:=Tw (Bd 0 3)
def Knj:=Tw (Bd ((0:Int)+1) 3)
def Jre (a b:List Ev) (c:List Reg) (d:Int) (e:Ls) (f:Li) (g:Bt):=L9 (a,b,c) (Z15 d e f g)
def J96:=Jpc+1
def J54:=Iw J96
def Kna:=Tw (Bd Jpc 3)
def Km0 (a:Ls):=0≤J6 [] (Jko a)
def Kmz:=Tw (Bd J96 3)
def K7n (a:Ls):=Bd J96 (Ln a)
def Ksr:=Iw (J96+1)∧False
def Kms (a:Ls):=true=true→Bd Jpc (Ln a)
def Kmq (a:Ls):=false=true→Bd Jpc (Ln a)
def K6u (a:Ls):=true=true→K7n a
def K6s (a:Ls):=false=true→K7n a
def Klv (a:Ls):=Ye Vz 0 (Jpe a)
def Kfd (a:Ls):=Ye Vz 1 (Uz a)
def J22 (a:TypeId) (b c:List Ev) (d:List Reg) (e:Int) (f:Ls) (g:Li) (h:Bt):=Sf true (Sf a (Sf (b,c,d) (9=Jre b c d e f g h)))
def J5r (a:TypeId) (b c:List Ev) (d:List Reg) (e:Int) (f:Ls) (g:Li) (h:Bt):=Sf true (Sf a (Sf (b,c,d) (10=Jre b c d e f g h)))
def Kpj (a:Ls):=bif true then !Jz0 a else false
def Kk6 (a:List Reg) (b:Ls):=0≤J6 (H5 a).1 (Jko b)
def Ke5 (a:Ls):=T2 (Kms a) Jej
def Ke4 (a:Ls):=T2 (Kmq a) Jb2
def K0s (a:TypeId) (b c:List Ev) (d:List Reg) (e:Int) (f:Ls) (g:Li) (h:Bt):=Br false (J5r a b c d e f g h) Ksr
def Jza (a:Int) (b:Ls) (c:Li) (d:Bt) (e:TypeId) (f g:List Ev) (h:List Reg):=(Y1∧EvV (Z15 a b c d)∧Jt1 b∧Z56 c∧Km0 b∧0≤J6 [] (J99 b))∧Sf true (Sf e (Sf (f,g,h) (Jct [] [] [] (Z15 a b c d)=Jre f g h a b c d)))
def Jti (a:List Reg) (b:Ls):=Ye (Kx a) 1 (Uz b)
def Jyu (a:List Reg) (b:Ls):=Ye (Kx a) 0 (Jpe b)
def J3q (a:List Reg) (b:Ls):=bif true then !Jhk a b else false
def Jte (a:Ls) (b:List Reg):=T2 (Kms a) (Zi b)
def Jtd (a:Ls) (b:List Reg):=T2 (Kmq a) (Xu b)
def Jyq (a:List Reg) (b:Int) (c:Ls) (d:Li) (e:Bt) (f:TypeId) (g h:List Ev):=(Ub a∧EvV (Z15 b c d e)∧Jt1 c∧Z56 d∧Kk6 a c∧0≤J6 (H5 a).1 (J99 c))∧Sf true (Sf f (Sf (g,h,a) (Jct (H5 a).1 (H4 a).1 (Hk a).1 (Z15 b c d e)=Jre g h a b c d e)))
def Jyp (a:Ls) (b:TypeId) (c d:List Ev) (e:List Reg) (f:Int) (g:Li) (h:Bt):=Br true (Z58∧Jgu a∧Br (bif true then Kfd a else false) (J22 b c d e f a g h) (Z31∧Br true (Knj∧Jkr a∧Br false (J22 b c d e f a g h) (Jg1∧Br true (Kna∧Ke4 a∧Br false (J22 b c d e f a g h) (J54∧Br false (Kmz∧T2 (K6u a) Jej∧Br (bif true then Ye Vz 0 (List.getD a 3 B0) else false) (J22 b c d e f a g h) Ksr) (Jza f a g h b c d e))) (Jza f a g h b c d e))) (Jza f a g h b c d e))) (Jza f a g h b c d e)
def Jyn (a:Ls) (b:List Reg) (c:TypeId) (d e:List Ev) (f:Int) (g:Li) (h:Bt):=Br true (Z58∧Hr a b∧Br (bif true then Jti b a else false) (J22 c d e b f a g h) (Z31∧Br true (Knj∧Dk a b∧Br false (J22 c d e b f a g h) (Jg1∧Br true (Kna∧Jtd a b∧Br false (J22 c d e b f a g h) (J54∧Br false (Kmz∧T2 (K6u a) (Zi b)∧Br (bif true then Ye (Kx b) 0 (List.getD a 3 B0) else false) (J22 c d e b f a g h) Ksr) (Jyq b f a g h c d e))) (Jyq b f a g h c d e))) (Jyq b f a g h c d e))) (Jyq b f a g h c d e)
theorem Jnk:wpFO Tryz.prog W91.g (Xt 4) (fun _=>na ()) (Sx.look ([(75,Tryz.f75)]:List (Nat×Func))) Tryz.f130 Jqu T (E,C,G) ((n,Ku,ns,vs,tx),()):=by
 refine(by kernel_rfl:(Kp (E,C,G)→Jd (Z15 n ns vs tx)=0→Z76 E∧Br (Jgy n E) (Sf true (Sf T (Sf (E,C,G) (11=Jre E C G n ns vs tx)))) (Br false (Br (Z2 C) (Sf true (Sf T (Sf (E,C,G) (12=Jre E C G n ns vs tx)))) (Jgx C∧Sf true (Sf T (Sf (E,C,G) (Jgw C=Jre E C G n ns vs tx))))) (Br (Yc G) (Yb G∧K4 vs∧Br (Jgv vs G) (Sf true (Sf T (Sf (E,C,G) (22=Jre E C G n ns vs tx)))) (Br true (Z58∧Hq ns G∧Br false (J5r T E C G n ns vs tx) (Z31∧Br true (Knj∧Dl ns G∧Br (J3q G ns) (J5r T E C G n ns vs tx) (Jg1∧Br true (Kna∧Jte ns G∧Br (bif true then !Jyu G ns else false) (J5r T E C G n ns vs tx) (J54∧Br false (Kmz∧T2 (K6s ns) (Xu G)∧K0s T E C G n ns vs tx) (Jyn ns G T E C n vs tx))) (Jyn ns G T E C n vs tx))) (Jyn ns G T E C n vs tx))) (Jyn ns G T E C n vs tx))) (K4 vs∧Br (Jg0 vs) (Sf true (Sf T (Sf (E,C,G) (22=Jre E C G n ns vs tx)))) (Br true (Z58∧Jgt ns∧Br false (J5r T E C G n ns vs tx) (Z31∧Br true (Knj∧Jks ns∧Br (Kpj ns) (J5r T E C G n ns vs tx) (Jg1∧Br true (Kna∧Ke5 ns∧Br (bif true then !Klv ns else false) (J5r T E C G n ns vs tx) (J54∧Br false (Kmz∧T2 (K6s ns) Jb2∧K0s T E C G n ns vs tx) (Jyp ns T E C G n vs tx))) (Jyp ns T E C G n vs tx))) (Jyp ns T E C G n vs tx))) (Jyp ns T E C G n vs tx))))))=_).mp ?_
 delta Z2 Z5 Z8 Z15 Z30 Z31 Z56 Z58 Z76 Z77 Yd Jpe K4 Uz Lp U8 Yc J99 Jt1 Jpc Jko Jg1 Knj Jre J96 Di J54 Jg0 Kna Km0 Jyg Jyf Kmz K7n Do Ksr Kms Kmq Jgy Jgx Vz Yb Y1 K6u K6s Jej Jb2 Fl Jaw Fk F4 H5 H4 Dn Hk Klv Kfd Jz0 Jgw J22 J5r Kpj Jgv Jgu Jgt Kk6 Jks Jkr Ke5 Ke4 K0s Jza Ym Kx Ub Zi Xu Jti Jyu Jhk J3q Hr Hq Dl Dk Jte Jtd Jyq Jyp Jyn Br Iw Bd T2 Tw Sf Ln Gt B0 Lb E2 Ku Ji
 intro hh hc
 have eK:=Xa (h:=(E,C,G)) (n:=n) (k:=Ku) (ns:=ns) (vs:=vs) (tx:=tx) (by kernel_rfl)
 obtain⟨hn,hv,hR,hr0,n1,n2,n3,hG,hV⟩:=Ld hh hc
 simp only[U1,ckS,List.length_cons,List.length_nil] at eK hn hv
 rw[eK]
 simp only[hG,Jh7,H7,Prod.eta,Jq6,Ks,K5,Jhd,Jhc,Jft,Jhb,cond_true,cond_false,Bool.not_true,Bool.not_false,Jb]
 repeat' first|apply And.intro|exact hV|intro _
 all_goals first|trivial|omega|assumption|(rename_i h;have h:=of_decide_eq_true h;omega)|(simp only[*,cond_true,cond_false,Bool.not_true,Bool.not_false];done)|(rw[Kw ‹_›];(first|have e1:decide (vs.getD 0 0<Xg.1)=true:=‹_›|have e1:decide (vs.getD 0 0<Xg.1)=false:=‹_›);simp only[*,cond_true,cond_false,Bool.not_true,Bool.not_false];first|done|rfl)|(simp only[Bool.not_eq_false',decide_eq_true_eq] at*;assumption)
def Z13 (a:Int) (b:Ls) (c:Li) (d:Bt):=(a,Uc,b,c,d)
def Jrf (a b:List Ev) (c:List Reg) (d:Int) (e:Ls) (f:Li) (g:Bt):=L9 (a,b,c) (Z13 d e f g)
def Km1 (a:Ls):=0≤K0 [] (Da a)
def Kpr (a:TypeId) (b c:List Ev) (d:List Reg) (e:Int) (f:Ls) (g:Li) (h:Bt):=Sf true (Sf a (Sf (b,c,d) (10=Jrf b c d e f g h)))
def Klh (a:TypeId) (b c:List Ev) (d:List Reg) (e:Int) (f:Ls) (g:Li) (h:Bt):=Sf true (Sf a (Sf (b,c,d) (9=Jrf b c d e f g h)))
def Ke7 (a:Ls):=bif true then !Kfd a else false
def Kk2 (a:List Reg) (b:Ls):=0≤K0 (H4 a).1 (Da b)
def K06 (a:TypeId) (b c:List Ev) (d:List Reg) (e:Int) (f:Ls) (g:Li) (h:Bt):=Br false (Kpr a b c d e f g h) Jen
def Kdn (a:Ls) (b:Li) (c:TypeId) (d e:List Ev) (f:List Reg) (g:Int) (h:Bt):=(Y1∧Xd a∧Z53 b∧Km1 a)∧Sf true (Sf c (Sf (d,e,f) (Jmq [] [] a b=Jrf d e f g a b h)))
def Jtf (a:List Reg) (b:Ls):=bif true then !Jti a b else false
def Kay (a:List Reg) (b:Ls) (c:Li) (d:TypeId) (e f:List Ev) (g:Int) (h:Bt):=(Ub a∧Xd b∧Z53 c∧Kk2 a b)∧Sf true (Sf d (Sf (e,f,a) (Jmq (H4 a).1 (Dn a).1 b c=Jrf e f a g b c h)))
def Kas (a:Ls) (b:TypeId) (c d:List Ev) (e:List Reg) (f:Int) (g:Li) (h:Bt):=Br true (Z59∧Jgt a∧Br false (Klh b c d e f a g h) (Z31∧Br false (Jaz∧Jks a∧Br (Jtt a) (Klh b c d e f a g h) Jen) (Kdn a g b c d e f h))) (Kdn a g b c d e f h)
def Kah (a:Ls) (b:List Reg) (c:TypeId) (d e:List Ev) (f:Int) (g:Li) (h:Bt):=Br true (Z59∧Hq a b∧Br false (Klh c d e b f a g h) (Z31∧Br false (Jaz∧Dl a b∧Br (Jdx b a) (Klh c d e b f a g h) Jen) (Kay b a g c d e f h))) (Kay b a g c d e f h)
theorem Jnl:wpFO Tryz.prog W91.g (Xt 2) (fun _=>na ()) (Sx.look ([(75,Tryz.f75)]:List (Nat×Func))) Tryz.f130 Jqu T (E,C,G) ((n,Uc,ns,vs,tx),()):=by
 refine(by kernel_rfl:(Kp (E,C,G)→Jd (Z13 n ns vs tx)=0→Z76 E∧Br (Jgy n E) (Sf true (Sf T (Sf (E,C,G) (11=Jrf E C G n ns vs tx)))) (Br false (Br (Z2 C) (Sf true (Sf T (Sf (E,C,G) (12=Jrf E C G n ns vs tx)))) (Jgx C∧Sf true (Sf T (Sf (E,C,G) (Jgw C=Jrf E C G n ns vs tx))))) (Br (Yc G) (Yb G∧K4 vs∧Br (Jgv vs G) (Sf true (Sf T (Sf (E,C,G) (22=Jrf E C G n ns vs tx)))) (Br true (Z59∧Hr ns G∧Br (Jtf G ns) (Kpr T E C G n ns vs tx) (Z31∧Br false (Jaz∧Dk ns G∧K06 T E C G n ns vs tx) (Kah ns G T E C n vs tx))) (Kah ns G T E C n vs tx))) (K4 vs∧Br (Jg0 vs) (Sf true (Sf T (Sf (E,C,G) (22=Jrf E C G n ns vs tx)))) (Br true (Z59∧Jgu ns∧Br (Ke7 ns) (Kpr T E C G n ns vs tx) (Z31∧Br false (Jaz∧Jkr ns∧K06 T E C G n ns vs tx) (Kas ns T E C G n vs tx))) (Kas ns T E C G n vs tx))))))=_).mp ?_
 delta Z2 Z5 Z8 Z13 Z30 Z31 Z53 Z59 Z76 Z77 Yd K4 Uz Lp U8 Yc Da Jpc Xd Jg1 Jaz Jrf Jen Di Jg0 Km1 Jyg Jyf Do Jgy Jgx Vz Yb Y1 Jej Jb2 Fl Jaw Fk F4 H5 H4 Dn Hk Kfd Jz0 Jgw Kpr Klh Jtt Ke7 Jgv Jgu Jgt Kk2 Jks Jkr K06 Kdn Ym Kx Ub Zi Xu Jti Jhk Jdx Jtf Hr Hq Dl Dk Kay Kas Kah Br Iw Bd T2 Tw Sf Ln Gt B0 Lb E2 Uc Ji
 intro hh hc
 have eK:=Xa (h:=(E,C,G)) (n:=n) (k:=Uc) (ns:=ns) (vs:=vs) (tx:=tx) (by kernel_rfl)
 obtain⟨hn,hv,hR,hr0,n1,n2,n3,hG,hV⟩:=Ld hh hc
 simp only[U2,ckS,List.length_cons,List.length_nil] at eK hn hv
 rw[eK]
 simp only[hG,Jh7,H7,Prod.eta,Jq6,Ks,K5,Jhd,Jhc,Jft,Jhb,cond_true,cond_false,Bool.not_true,Bool.not_false,Jb]
 repeat' first|apply And.intro|exact hV|intro _
 all_goals first|trivial|omega|assumption|(rename_i h;have h:=of_decide_eq_true h;omega)|(simp only[*,cond_true,cond_false,Bool.not_true,Bool.not_false];done)|(rw[Kw ‹_›];(first|have e1:decide (vs.getD 0 0<Xg.1)=true:=‹_›|have e1:decide (vs.getD 0 0<Xg.1)=false:=‹_›);simp only[*,cond_true,cond_false,Bool.not_true,Bool.not_false];first|done|rfl)|(simp only[Bool.not_eq_false',decide_eq_true_eq] at*;assumption)
def Z7 (a:Int) (b:Ls) (c:Li) (d:Bt):=(a,Vq,b,c,d)
def Jrh (a b:List Ev) (c:List Reg) (d:Int) (e:Ls) (f:Li) (g:Bt):=L9 (a,b,c) (Z7 d e f g)
def Klj (a:TypeId) (b c:List Ev) (d:List Reg) (e:Int) (f:Ls) (g:Li) (h:Bt):=Sf true (Sf a (Sf (b,c,d) (9=Jrh b c d e f g h)))
def Kps (a:TypeId) (b c:List Ev) (d:List Reg) (e:Int) (f:Ls) (g:Li) (h:Bt):=Sf true (Sf a (Sf (b,c,d) (10=Jrh b c d e f g h)))
def K09 (a:TypeId) (b c:List Ev) (d:List Reg) (e:Int) (f:Ls) (g:Li) (h:Bt):=Br false (Kps a b c d e f g h) Jen
def Kor (a:Ls) (b:Li):=Y1∧Xd a∧Z51 b∧Km1 a
def Kdp (a:Ls) (b:Li) (c:TypeId) (d e:List Ev) (f:List Reg) (g:Int) (h:Bt):=Kor a b∧Sf true (Sf c (Sf (d,e,f) (Jdh [] a b=Jrh d e f g a b h)))
def J3o (a:List Reg) (b:Ls) (c:Li):=Ub a∧Xd b∧Z51 c∧Kk2 a b
def Ka1 (a:List Reg) (b:Ls) (c:Li) (d:TypeId) (e f:List Ev) (g:Int) (h:Bt):=J3o a b c∧Sf true (Sf d (Sf (e,f,a) (Jdh (H4 a).1 b c=Jrh e f a g b c h)))
def Kat (a:Ls) (b:TypeId) (c d:List Ev) (e:List Reg) (f:Int) (g:Li) (h:Bt):=Br true (Z59∧Jgt a∧Br false (Klj b c d e f a g h) (Z31∧Br false (Jaz∧Jks a∧Br (Jtt a) (Klj b c d e f a g h) Jen) (Kdp a g b c d e f h))) (Kdp a g b c d e f h)
def Kaj (a:Ls) (b:List Reg) (c:TypeId) (d e:List Ev) (f:Int) (g:Li) (h:Bt):=Br true (Z59∧Hq a b∧Br false (Klj c d e b f a g h) (Z31∧Br false (Jaz∧Dl a b∧Br (Jdx b a) (Klj c d e b f a g h) Jen) (Ka1 b a g c d e f h))) (Ka1 b a g c d e f h)
theorem Jrs:wpFO Tryz.prog W91.g (Xt 2) (fun _=>na ()) (Sx.look ([(75,Tryz.f75)]:List (Nat×Func))) Tryz.f130 Jqu T (E,C,G) ((n,Vq,ns,vs,tx),()):=by
 refine(by kernel_rfl:(Kp (E,C,G)→Jd (Z7 n ns vs tx)=0→Z76 E∧Br (Jgy n E) (Sf true (Sf T (Sf (E,C,G) (11=Jrh E C G n ns vs tx)))) (Br false (Br (Z2 C) (Sf true (Sf T (Sf (E,C,G) (12=Jrh E C G n ns vs tx)))) (Jgx C∧Sf true (Sf T (Sf (E,C,G) (Jgw C=Jrh E C G n ns vs tx))))) (Br (Yc G) (Yb G∧K4 vs∧Br (Jgv vs G) (Sf true (Sf T (Sf (E,C,G) (22=Jrh E C G n ns vs tx)))) (Br true (Z59∧Hr ns G∧Br (Jtf G ns) (Kps T E C G n ns vs tx) (Z31∧Br false (Jaz∧Dk ns G∧K09 T E C G n ns vs tx) (Kaj ns G T E C n vs tx))) (Kaj ns G T E C n vs tx))) (K4 vs∧Br (Jg0 vs) (Sf true (Sf T (Sf (E,C,G) (22=Jrh E C G n ns vs tx)))) (Br true (Z59∧Jgu ns∧Br (Ke7 ns) (Kps T E C G n ns vs tx) (Z31∧Br false (Jaz∧Jkr ns∧K09 T E C G n ns vs tx) (Kat ns T E C G n vs tx))) (Kat ns T E C G n vs tx))))))=_).mp ?_
 delta Z2 Z5 Z7 Z8 Z30 Z31 Z51 Z59 Z76 Z77 Yd K4 Uz Lp U8 Yc Da Jpc Xd Jg1 Jaz Jrh Jen Di Jg0 Km1 Jyg Jyf Do Jgy Jgx Vz Yb Y1 Jej Jb2 Fl Jaw Fk F4 H5 H4 Dn Hk Kfd Jz0 Jgw Klj Kps Jtt Ke7 Jgv Jgu Jgt Kk2 Jks Jkr K09 Kor Kdp Ym Kx Ub Zi Xu Jti Jhk Jdx Jtf Hr Hq Dl Dk J3o Ka1 Kat Kaj Br Iw Bd T2 Tw Sf Ln Gt B0 Lb E2 Ji Vq
 intro hh hc
 have eK:=Xa (h:=(E,C,G)) (n:=n) (k:=Vq) (ns:=ns) (vs:=vs) (tx:=tx) (by kernel_rfl)
 obtain⟨hn,hv,hR,hr0,n1,n2,n3,hG,hV⟩:=Ld hh hc
 simp only[Vw,ckS,List.length_cons,List.length_nil] at eK hn hv
 rw[eK]
 simp only[hG,Jh7,H7,Prod.eta,Jq6,Ks,K5,Jhd,Jhc,Jft,Jhb,cond_true,cond_false,Bool.not_true,Bool.not_false,Jb]
 repeat' first|apply And.intro|exact hV|intro _
 all_goals first|trivial|omega|assumption|(rename_i h;have h:=of_decide_eq_true h;omega)|(simp only[*,cond_true,cond_false,Bool.not_true,Bool.not_false];done)|(rw[Kw ‹_›];(first|have e1:decide (vs.getD 0 0<Xg.1)=true:=‹_›|have e1:decide (vs.getD 0 0<Xg.1)=false:=‹_›);simp only[*,cond_true,cond_false,Bool.not_true,Bool.not_false];first|done|rfl)|(simp only[Bool.not_eq_false',decide_eq_true_eq] at*;assumption)
def Z21 (a:Int) (b:Ls) (c:Li) (d:Bt):=(a,Jz,b,c,d)
def Z65:=Tw (Bd 0 2)
def J0c:=Tw (Bd ((0:Int)+1) 2)
def Jrb (a b:List Ev) (c:List Reg) (d:Int) (e:Ls) (f:Li) (g:Bt):=L9 (a,b,c) (Z21 d e f g)
def Jz6:=Tw (Bd Jpc 2)
def J50:=J54∧False
def Krn (a:Li) (b:Ls):=Z56 a∧Km0 b
def Kql (a:Ls):=Ye Vz 2 (Uz a)
def Kfb (a:TypeId) (b c:List Ev) (d:List Reg) (e:Int) (f:Ls) (g:Li) (h:Bt):=Sf true (Sf a (Sf (b,c,d) (10=Jrb b c d e f g h)))
def J9j (a:TypeId) (b c:List Ev) (d:List Reg) (e:Int) (f:Ls) (g:Li) (h:Bt):=Sf true (Sf a (Sf (b,c,d) (9=Jrb b c d e f g h)))
def Kpm (a:Ls):=bif true then Klv a else false
def Ko0 (a:Li) (b:List Reg) (c:Ls):=Z56 a∧Kk6 b c
def K0v (a:TypeId) (b c:List Ev) (d:List Reg) (e:Int) (f:Ls) (g:Li) (h:Bt):=Br false (Kfb a b c d e f g h) J50
def J31 (a:Int) (b:Ls) (c:Li) (d:Bt) (e:TypeId) (f g:List Ev) (h:List Reg):=(Y1∧EvV (Z21 a b c d)∧Jri b∧Krn c b)∧Sf true (Sf e (Sf (f,g,h) (Jcs [] [] [] (Z21 a b c d)=Jrb f g h a b c d)))
def J3v (a:List Reg) (b:Ls):=Ye (Kx a) 2 (Uz b)
def J3r (a:List Reg) (b:Ls):=bif true then Jyu a b else false
def J3i (a:List Reg) (b:Int) (c:Ls) (d:Li) (e:Bt) (f:TypeId) (g h:List Ev):=(Ub a∧EvV (Z21 b c d e)∧Jri c∧Ko0 d a c)∧Sf true (Sf f (Sf (g,h,a) (Jcs (H5 a).1 (H4 a).1 (Hk a).1 (Z21 b c d e)=Jrb g h a b c d e)))
def J3g (a:Ls) (b:TypeId) (c d:List Ev) (e:List Reg) (f:Int) (g:Li) (h:Bt):=Br true (Z65∧Jgu a∧Br (bif true then Kql a else false) (J9j b c d e f a g h) (Z31∧Br true (J0c∧Jkr a∧Br false (J9j b c d e f a g h) (Jg1∧Br false (Jz6∧Ke5 a∧Br (Kpm a) (J9j b c d e f a g h) J50) (J31 f a g h b c d e))) (J31 f a g h b c d e))) (J31 f a g h b c d e)
def J3e (a:Ls) (b:List Reg) (c:TypeId) (d e:List Ev) (f:Int) (g:Li) (h:Bt):=Br true (Z65∧Hr a b∧Br (bif true then J3v b a else false) (J9j c d e b f a g h) (Z31∧Br true (J0c∧Dk a b∧Br false (J9j c d e b f a g h) (Jg1∧Br false (Jz6∧Jte a b∧Br (J3r b a) (J9j c d e b f a g h) J50) (J3i b f a g h c d e))) (J3i b f a g h c d e))) (J3i b f a g h c d e)
theorem Jk3:wpFO Tryz.prog W91.g (Xt 3) (fun _=>na ()) (Sx.look ([(75,Tryz.f75)]:List (Nat×Func))) Tryz.f130 Jqu T (E,C,G) ((n,Jz,ns,vs,tx),()):=by
 refine(by kernel_rfl:(Kp (E,C,G)→Jd (Z21 n ns vs tx)=0→Z76 E∧Br (Jgy n E) (Sf true (Sf T (Sf (E,C,G) (11=Jrb E C G n ns vs tx)))) (Br false (Br (Z2 C) (Sf true (Sf T (Sf (E,C,G) (12=Jrb E C G n ns vs tx)))) (Jgx C∧Sf true (Sf T (Sf (E,C,G) (Jgw C=Jrb E C G n ns vs tx))))) (Br (Yc G) (Yb G∧K4 vs∧Br (Jgv vs G) (Sf true (Sf T (Sf (E,C,G) (22=Jrb E C G n ns vs tx)))) (Br true (Z65∧Hq ns G∧Br false (Kfb T E C G n ns vs tx) (Z31∧Br true (J0c∧Dl ns G∧Br (J3q G ns) (Kfb T E C G n ns vs tx) (Jg1∧Br false (Jz6∧Jtd ns G∧K0v T E C G n ns vs tx) (J3e ns G T E C n vs tx))) (J3e ns G T E C n vs tx))) (J3e ns G T E C n vs tx))) (K4 vs∧Br (Jg0 vs) (Sf true (Sf T (Sf (E,C,G) (22=Jrb E C G n ns vs tx)))) (Br true (Z65∧Jgt ns∧Br false (Kfb T E C G n ns vs tx) (Z31∧Br true (J0c∧Jks ns∧Br (Kpj ns) (Kfb T E C G n ns vs tx) (Jg1∧Br false (Jz6∧Ke4 ns∧K0v T E C G n ns vs tx) (J3g ns T E C G n vs tx))) (J3g ns T E C G n vs tx))) (J3g ns T E C G n vs tx))))))=_).mp ?_
 delta Z2 Z5 Z8 Z21 Z30 Z31 Z56 Z65 Z76 Z77 Yd Jpe K4 Uz Lp U8 Yc Jri Jpc Jko Jg1 J0c Jrb J96 Di J54 Jg0 Jz6 J50 Km0 Jyg Jyf Do Kms Kmq Jgy Jgx Vz Yb Y1 Krn Jej Jb2 Fl Jaw Fk F4 H5 H4 Dn Hk Klv Kql Jz0 Jgw Kfb J9j Kpm Kpj Jgv Jgu Jgt Kk6 Jks Jkr Ke5 Ke4 Ko0 K0v J31 Ym Kx Ub Zi Xu J3v Jyu Jhk J3r J3q Hr Hq Dl Dk Jte Jtd J3i J3g J3e Br Iw Bd T2 Tw Sf Ln Gt B0 Lb E2 Jz Ji
 intro hh hc
 have eK:=Xa (h:=(E,C,G)) (n:=n) (k:=Jz) (ns:=ns) (vs:=vs) (tx:=tx) (by kernel_rfl)
 obtain⟨hn,hv,hR,hr0,n1,n2,n3,hG,hV⟩:=Ld hh hc
 simp only[K7,ckS,List.length_cons,List.length_nil] at eK hn hv
 rw[eK]
 simp only[hG,Jh7,H7,Prod.eta,Jq6,Ks,K5,Jhd,Jhc,Jft,Jhb,cond_true,cond_false,Bool.not_true,Bool.not_false,Jb]
 repeat' first|apply And.intro|exact hV|intro _
 all_goals first|trivial|omega|assumption|(rename_i h;have h:=of_decide_eq_true h;omega)|(simp only[*,cond_true,cond_false,Bool.not_true,Bool.not_false];done)|(rw[Kw ‹_›];(first|have e1:decide (vs.getD 0 0<Xg.1)=true:=‹_›|have e1:decide (vs.getD 0 0<Xg.1)=false:=‹_›);simp only[*,cond_true,cond_false,Bool.not_true,Bool.not_false];first|done|rfl)|(simp only[Bool.not_eq_false',decide_eq_true_eq] at*;assumption)
def Z33 (a:Int) (b:Ls) (c:Li) (d:Bt):=(a,Jv,b,c,d)
def Jq9 (a b:List Ev) (c:List Reg) (d:Int) (e:Ls) (f:Li) (g:Bt):=L9 (a,b,c) (Z33 d e f g)
def Kpo (a:TypeId) (b c:List Ev) (d:List Reg) (e:Int) (f:Ls) (g:Li) (h:Bt):=Sf true (Sf a (Sf (b,c,d) (10=Jq9 b c d e f g h)))
def Kld (a:TypeId) (b c:List Ev) (d:List Reg) (e:Int) (f:Ls) (g:Li) (h:Bt):=Sf true (Sf a (Sf (b,c,d) (9=Jq9 b c d e f g h)))
def K0z (a:TypeId) (b c:List Ev) (d:List Reg) (e:Int) (f:Ls) (g:Li) (h:Bt):=Br false (Kpo a b c d e f g h) Jen
def Kos (a:Ls) (b:Li):=Y1∧Xd a∧Z51 b∧0≤Kc [] (Da a)
def Kdm (a:Ls) (b:Li) (c:TypeId) (d e:List Ev) (f:List Reg) (g:Int) (h:Bt):=Kos a b∧Sf true (Sf c (Sf (d,e,f) (Jdi [] [] a b=Jq9 d e f g a b h)))
def J3n (a:List Reg) (b:Ls) (c:Li):=Ub a∧Xd b∧Z51 c∧0≤Kc (Hk a).1 (Da b)
def Kax (a:List Reg) (b:Ls) (c:Li) (d:TypeId) (e f:List Ev) (g:Int) (h:Bt):=J3n a b c∧Sf true (Sf d (Sf (e,f,a) (Jdi (Hk a).1 (Hk a).2 b c=Jq9 e f a g b c h)))
def Kar (a:Ls) (b:TypeId) (c d:List Ev) (e:List Reg) (f:Int) (g:Li) (h:Bt):=Br true (Z59∧Jgt a∧Br false (Kld b c d e f a g h) (Z31∧Br false (Jaz∧Jks a∧Br (Jtt a) (Kld b c d e f a g h) Jen) (Kdm a g b c d e f h))) (Kdm a g b c d e f h)
def Kag (a:Ls) (b:List Reg) (c:TypeId) (d e:List Ev) (f:Int) (g:Li) (h:Bt):=Br true (Z59∧Hq a b∧Br false (Kld c d e b f a g h) (Z31∧Br false (Jaz∧Dl a b∧Br (Jdx b a) (Kld c d e b f a g h) Jen) (Kax b a g c d e f h))) (Kax b a g c d e f h)
theorem Ji1:wpFO Tryz.prog W91.g (Xt 2) (fun _=>na ()) (Sx.look ([(75,Tryz.f75)]:List (Nat×Func))) Tryz.f130 Jqu T (E,C,G) ((n,Jv,ns,vs,tx),()):=by
 refine(by kernel_rfl:(Kp (E,C,G)→Jd (Z33 n ns vs tx)=0→Z76 E∧Br (Jgy n E) (Sf true (Sf T (Sf (E,C,G) (11=Jq9 E C G n ns vs tx)))) (Br false (Br (Z2 C) (Sf true (Sf T (Sf (E,C,G) (12=Jq9 E C G n ns vs tx)))) (Jgx C∧Sf true (Sf T (Sf (E,C,G) (Jgw C=Jq9 E C G n ns vs tx))))) (Br (Yc G) (Yb G∧K4 vs∧Br (Jgv vs G) (Sf true (Sf T (Sf (E,C,G) (22=Jq9 E C G n ns vs tx)))) (Br true (Z59∧Hr ns G∧Br (bif true then !J3v G ns else false) (Kpo T E C G n ns vs tx) (Z31∧Br false (Jaz∧Dk ns G∧K0z T E C G n ns vs tx) (Kag ns G T E C n vs tx))) (Kag ns G T E C n vs tx))) (K4 vs∧Br (Jg0 vs) (Sf true (Sf T (Sf (E,C,G) (22=Jq9 E C G n ns vs tx)))) (Br true (Z59∧Jgu ns∧Br (bif true then !Kql ns else false) (Kpo T E C G n ns vs tx) (Z31∧Br false (Jaz∧Jkr ns∧K0z T E C G n ns vs tx) (Kar ns T E C G n vs tx))) (Kar ns T E C G n vs tx))))))=_).mp ?_
 delta Z2 Z5 Z8 Z30 Z31 Z33 Z51 Z59 Z76 Z77 Yd K4 Uz Lp U8 Yc Da Jpc Xd Jg1 Jaz Jq9 Jen Di Jg0 Jyg Jyf Do Jgy Jgx Vz Yb Y1 Jej Jb2 Fl Jaw Fk F4 H5 H4 Dn Hk Kql Jz0 Jgw Kpo Kld Jtt Jgv Jgu Jgt Jks Jkr K0z Kos Kdm Ym Kx Ub Zi Xu J3v Jhk Jdx Hr Hq Dl Dk J3n Kax Kar Kag Br Iw Bd T2 Tw Sf Ln Gt B0 Lb E2 Jv Ji
 intro hh hc
 have eK:=Xa (h:=(E,C,G)) (n:=n) (k:=Jv) (ns:=ns) (vs:=vs) (tx:=tx) (by kernel_rfl)
 obtain⟨hn,hv,hR,hr0,n1,n2,n3,hG,hV⟩:=Ld hh hc
 simp only[Kt,ckS,List.length_cons,List.length_nil] at eK hn hv
 rw[eK]
 simp only[hG,Jh7,H7,Prod.eta,Jq6,Ks,K5,Jhd,Jhc,Jft,Jhb,cond_true,cond_false,Bool.not_true,Bool.not_false,Jb]
 repeat' first|apply And.intro|exact hV|intro _
 all_goals first|trivial|omega|assumption|(rename_i h;have h:=of_decide_eq_true h;omega)|(simp only[*,cond_true,cond_false,Bool.not_true,Bool.not_false];done)|(rw[Kw ‹_›];(first|have e1:decide (vs.getD 0 0<Xg.1)=true:=‹_›|have e1:decide (vs.getD 0 0<Xg.1)=false:=‹_›);simp only[*,cond_true,cond_false,Bool.not_true,Bool.not_false];first|done|rfl)|(simp only[Bool.not_eq_false',decide_eq_true_eq] at*;assumption)
def Z25 (a:Int) (b:Ls) (c:Li) (d:Bt):=(a,Kh,b,c,d)
def Jrc (a b:List Ev) (c:List Reg) (d:Int) (e:Ls) (f:Li) (g:Bt):=L9 (a,b,c) (Z25 d e f g)
def Kqk (a:Ls):=Ye Vz 3 (Uz a)
def J9k (a:TypeId) (b c:List Ev) (d:List Reg) (e:Int) (f:Ls) (g:Li) (h:Bt):=Sf true (Sf a (Sf (b,c,d) (9=Jrc b c d e f g h)))
def Kfa (a:TypeId) (b c:List Ev) (d:List Reg) (e:Int) (f:Ls) (g:Li) (h:Bt):=Sf true (Sf a (Sf (b,c,d) (10=Jrc b c d e f g h)))
def K0w (a:TypeId) (b c:List Ev) (d:List Reg) (e:Int) (f:Ls) (g:Li) (h:Bt):=Br false (Kfa a b c d e f g h) J50
def J36 (a:Ls) (b:Li) (c:TypeId) (d e:List Ev) (f:List Reg) (g:Int) (h:Bt):=(Y1∧J0e a∧Z51 b∧0≤Kc [] (Jko a))∧Sf true (Sf c (Sf (d,e,f) (Jdj [] [] a b=Jrc d e f g a b h)))
def J3u (a:List Reg) (b:Ls):=Ye (Kx a) 3 (Uz b)
def J3j (a:List Reg) (b:Ls) (c:Li) (d:TypeId) (e f:List Ev) (g:Int) (h:Bt):=(Ub a∧J0e b∧Z51 c∧0≤Kc (Hk a).1 (Jko b))∧Sf true (Sf d (Sf (e,f,a) (Jdj (Hk a).1 (Hk a).2 b c=Jrc e f a g b c h)))
def J3h (a:Ls) (b:TypeId) (c d:List Ev) (e:List Reg) (f:Int) (g:Li) (h:Bt):=Br true (Z65∧Jgu a∧Br (bif true then Kqk a else false) (J9k b c d e f a g h) (Z31∧Br true (J0c∧Jkr a∧Br false (J9k b c d e f a g h) (Jg1∧Br false (Jz6∧Ke5 a∧Br (Kpm a) (J9k b c d e f a g h) J50) (J36 a g b c d e f h))) (J36 a g b c d e f h))) (J36 a g b c d e f h)
def J3f (a:Ls) (b:List Reg) (c:TypeId) (d e:List Ev) (f:Int) (g:Li) (h:Bt):=Br true (Z65∧Hr a b∧Br (bif true then J3u b a else false) (J9k c d e b f a g h) (Z31∧Br true (J0c∧Dk a b∧Br false (J9k c d e b f a g h) (Jg1∧Br false (Jz6∧Jte a b∧Br (J3r b a) (J9k c d e b f a g h) J50) (J3j b a g c d e f h))) (J3j b a g c d e f h))) (J3j b a g c d e f h)
theorem Jk2:wpFO Tryz.prog W91.g (Xt 3) (fun _=>na ()) (Sx.look ([(75,Tryz.f75)]:List (Nat×Func))) Tryz.f130 Jqu T (E,C,G) ((n,Kh,ns,vs,tx),()):=by
 refine(by kernel_rfl:(Kp (E,C,G)→Jd (Z25 n ns vs tx)=0→Z76 E∧Br (Jgy n E) (Sf true (Sf T (Sf (E,C,G) (11=Jrc E C G n ns vs tx)))) (Br false (Br (Z2 C) (Sf true (Sf T (Sf (E,C,G) (12=Jrc E C G n ns vs tx)))) (Jgx C∧Sf true (Sf T (Sf (E,C,G) (Jgw C=Jrc E C G n ns vs tx))))) (Br (Yc G) (Yb G∧K4 vs∧Br (Jgv vs G) (Sf true (Sf T (Sf (E,C,G) (22=Jrc E C G n ns vs tx)))) (Br true (Z65∧Hq ns G∧Br false (Kfa T E C G n ns vs tx) (Z31∧Br true (J0c∧Dl ns G∧Br (bif true then !Ye (Kx G) 2 (Lp ns) else false) (Kfa T E C G n ns vs tx) (Jg1∧Br false (Jz6∧Jtd ns G∧K0w T E C G n ns vs tx) (J3f ns G T E C n vs tx))) (J3f ns G T E C n vs tx))) (J3f ns G T E C n vs tx))) (K4 vs∧Br (Jg0 vs) (Sf true (Sf T (Sf (E,C,G) (22=Jrc E C G n ns vs tx)))) (Br true (Z65∧Jgt ns∧Br false (Kfa T E C G n ns vs tx) (Z31∧Br true (J0c∧Jks ns∧Br (bif true then !Ye Vz 2 (Lp ns) else false) (Kfa T E C G n ns vs tx) (Jg1∧Br false (Jz6∧Ke4 ns∧K0w T E C G n ns vs tx) (J3h ns T E C G n vs tx))) (J3h ns T E C G n vs tx))) (J3h ns T E C G n vs tx))))))=_).mp ?_
 delta Z2 Z5 Z8 Z25 Z30 Z31 Z51 Z65 Z76 Z77 Yd Jpe K4 Uz Lp U8 Yc J0e Jpc Jko Jg1 J0c Jrc J96 Di J54 Jg0 Jz6 J50 Jyg Jyf Do Kms Kmq Jgy Jgx Vz Yb Y1 Jej Jb2 Fl Jaw Fk F4 H5 H4 Dn Hk Klv Kqk Jgw J9k Kfa Kpm Jgv Jgu Jgt Jks Jkr Ke5 Ke4 K0w J36 Ym Kx Ub Zi Xu Jyu J3u J3r Hr Hq Dl Dk Jte Jtd J3j J3h J3f Br Iw Bd T2 Tw Sf Ln Gt B0 Lb E2 Kh Ji
 intro hh hc
 have eK:=Xa (h:=(E,C,G)) (n:=n) (k:=Kh) (ns:=ns) (vs:=vs) (tx:=tx) (by kernel_rfl)
 obtain⟨hn,hv,hR,hr0,n1,n2,n3,hG,hV⟩:=Ld hh hc
 simp only[Ug,ckS,List.length_cons,List.length_nil] at eK hn hv
 rw[eK]
 simp only[hG,Jh7,H7,Prod.eta,Jq6,Ks,K5,Jhd,Jhc,Jft,Jhb,cond_true,cond_false,Bool.not_true,Bool.not_false,Jb]
 repeat' first|apply And.intro|exact hV|intro _
 all_goals first|trivial|omega|assumption|(rename_i h;have h:=of_decide_eq_true h;omega)|(simp only[*,cond_true,cond_false,Bool.not_true,Bool.not_false];done)|(rw[Kw ‹_›];(first|have e1:decide (vs.getD 0 0<Xg.1)=true:=‹_›|have e1:decide (vs.getD 0 0<Xg.1)=false:=‹_›);simp only[*,cond_true,cond_false,Bool.not_true,Bool.not_false];first|done|rfl)|(simp only[Bool.not_eq_false',decide_eq_true_eq] at*;assumption)
def Z18 (a:Int) (b:Ls) (c:Li) (d:Bt):=(a,Kg,b,c,d)
def Jrd (a b:List Ev) (c:List Reg) (d:Int) (e:Ls) (f:Li) (g:Bt):=L9 (a,b,c) (Z18 d e f g)
def Kpp (a:TypeId) (b c:List Ev) (d:List Reg) (e:Int) (f:Ls) (g:Li) (h:Bt):=Sf true (Sf a (Sf (b,c,d) (10=Jrd b c d e f g h)))
def Klg (a:TypeId) (b c:List Ev) (d:List Reg) (e:Int) (f:Ls) (g:Li) (h:Bt):=Sf true (Sf a (Sf (b,c,d) (9=Jrd b c d e f g h)))
def Ko9 (a:Ls):=Y1∧Xd a∧0≤U5 [] (Da a)
def K03 (a:TypeId) (b c:List Ev) (d:List Reg) (e:Int) (f:Ls) (g:Li) (h:Bt):=Br false (Kpp a b c d e f g h) Jen
def Kdy (a:Ls) (b:TypeId) (c d:List Ev) (e:List Reg) (f:Int) (g:Li) (h:Bt):=Ko9 a∧Sf true (Sf b (Sf (c,d,e) (Jox [] a=Jrd c d e f a g h)))
def J3p (a:List Reg) (b:Ls):=Ub a∧Xd b∧0≤U5 (Hk a).2 (Da b)
def Ka2 (a:List Reg) (b:Ls) (c:TypeId) (d e:List Ev) (f:Int) (g:Li) (h:Bt):=J3p a b∧Sf true (Sf c (Sf (d,e,a) (Jox (Hk a).2 b=Jrd d e a f b g h)))
def Kav (a:Ls) (b:TypeId) (c d:List Ev) (e:List Reg) (f:Int) (g:Li) (h:Bt):=Br true (Z59∧Jgt a∧Br false (Klg b c d e f a g h) (Z31∧Br false (Jaz∧Jks a∧Br (Jtt a) (Klg b c d e f a g h) Jen) (Kdy a b c d e f g h))) (Kdy a b c d e f g h)
def Kak (a:Ls) (b:List Reg) (c:TypeId) (d e:List Ev) (f:Int) (g:Li) (h:Bt):=Br true (Z59∧Hq a b∧Br false (Klg c d e b f a g h) (Z31∧Br false (Jaz∧Dl a b∧Br (Jdx b a) (Klg c d e b f a g h) Jen) (Ka2 b a c d e f g h))) (Ka2 b a c d e f g h)
theorem Jk1:wpFO Tryz.prog W91.g (Xt 2) (fun _=>na ()) (Sx.look ([(75,Tryz.f75)]:List (Nat×Func))) Tryz.f130 Jqu T (E,C,G) ((n,Kg,ns,vs,tx),()):=by
 refine(by kernel_rfl:(Kp (E,C,G)→Jd (Z18 n ns vs tx)=0→Z76 E∧Br (Jgy n E) (Sf true (Sf T (Sf (E,C,G) (11=Jrd E C G n ns vs tx)))) (Br false (Br (Z2 C) (Sf true (Sf T (Sf (E,C,G) (12=Jrd E C G n ns vs tx)))) (Jgx C∧Sf true (Sf T (Sf (E,C,G) (Jgw C=Jrd E C G n ns vs tx))))) (Br (Yc G) (Yb G∧K4 vs∧Br (Jgv vs G) (Sf true (Sf T (Sf (E,C,G) (22=Jrd E C G n ns vs tx)))) (Br true (Z59∧Hr ns G∧Br (bif true then !J3u G ns else false) (Kpp T E C G n ns vs tx) (Z31∧Br false (Jaz∧Dk ns G∧K03 T E C G n ns vs tx) (Kak ns G T E C n vs tx))) (Kak ns G T E C n vs tx))) (K4 vs∧Br (Jg0 vs) (Sf true (Sf T (Sf (E,C,G) (22=Jrd E C G n ns vs tx)))) (Br true (Z59∧Jgu ns∧Br (bif true then !Kqk ns else false) (Kpp T E C G n ns vs tx) (Z31∧Br false (Jaz∧Jkr ns∧K03 T E C G n ns vs tx) (Kav ns T E C G n vs tx))) (Kav ns T E C G n vs tx))))))=_).mp ?_
 delta Z2 Z5 Z8 Z18 Z30 Z31 Z59 Z76 Z77 Yd K4 Uz Lp U8 Yc Da Jpc Xd Jg1 Jaz Jrd Jen Di Jg0 Jyg Jyf Do Jgy Jgx Vz Yb Y1 Jej Jb2 Fl Jaw Fk F4 H5 H4 Dn Hk Kqk Jz0 Jgw Kpp Klg Jtt Jgv Jgu Jgt Jks Jkr Ko9 K03 Kdy Ym Kx Ub Zi Xu Jhk J3u Jdx Hr Hq Dl Dk J3p Ka2 Kav Kak Br Iw Bd T2 Tw Sf Ln Gt B0 Lb E2 Kg Ji
 intro hh hc
 have eK:=Xa (h:=(E,C,G)) (n:=n) (k:=Kg) (ns:=ns) (vs:=vs) (tx:=tx) (by kernel_rfl)
 obtain⟨hn,hv,hR,hr0,n1,n2,n3,hG,hV⟩:=Ld hh hc
 simp only[Uf,ckS,List.length_cons,List.length_nil] at eK hn hv
 rw[eK]
 simp only[hG,Jh7,H7,Prod.eta,Jq6,Ks,K5,Jhd,Jhc,Jft,Jhb,cond_true,cond_false,Bool.not_true,Bool.not_false,Jb]
 repeat' first|apply And.intro|exact hV|intro _
 all_goals first|trivial|omega|assumption|(rename_i h;have h:=of_decide_eq_true h;omega)|(simp only[*,cond_true,cond_false,Bool.not_true,Bool.not_false];done)|(rw[Kw ‹_›];(first|have e1:decide (vs.getD 0 0<Xg.1)=true:=‹_›|have e1:decide (vs.getD 0 0<Xg.1)=false:=‹_›);simp only[*,cond_true,cond_false,Bool.not_true,Bool.not_false];first|done|rfl)|(simp only[Bool.not_eq_false',decide_eq_true_eq] at*;assumption)
def Z19 (a:Int) (b:Ls) (c:Li) (d:Bt):=(a,Ji,b,c,d)
def Jpa (a b:List Ev) (c:List Reg) (d:Int) (e:Ls) (f:Li) (g:Bt):=L9 (a,b,c) (Z19 d e f g)
def K1a (a:TypeId) (b c:List Ev) (d:List Reg) (e:Int) (f:Ls) (g:Li) (h:Bt):=Br false (Sf true (Sf a (Sf (b,c,d) (10=Jpa b c d e f g h)))) J6b
theorem Jk0:wpFO Tryz.prog W91.g (Xt 1) (fun _=>na ()) (Sx.look ([(75,Tryz.f75)]:List (Nat×Func))) Tryz.f130 Jqu T (E,C,G) ((n,Ji,ns,vs,tx),()):=by
 refine(by kernel_rfl:(Kp (E,C,G)→Jd (Z19 n ns vs tx)=0→Z76 E∧Br (Jgy n E) (Sf true (Sf T (Sf (E,C,G) (11=Jpa E C G n ns vs tx)))) (Br false (Br (Z2 C) (Sf true (Sf T (Sf (E,C,G) (12=Jpa E C G n ns vs tx)))) (Jgx C∧Sf true (Sf T (Sf (E,C,G) (Jgw C=Jpa E C G n ns vs tx))))) (Br (Yc G) (Yb G∧K4 vs∧Br (Jgv vs G) (Sf true (Sf T (Sf (E,C,G) (22=Jpa E C G n ns vs tx)))) (Br false (Z67∧Hq ns G∧K1a T E C G n ns vs tx) (Br false (Z67∧Hr ns G∧Br (Jth G ns) (Sf true (Sf T (Sf (E,C,G) (9=Jpa E C G n ns vs tx)))) J6b) (Jtj G vs∧Sf true (Sf T (Sf (E,C,G) (L6 (F4 G) (H4 G).1 (Dn G).1 (Hk G).1 (Hk G).2 vs=Jpa E C G n ns vs tx))))))) (K4 vs∧Br (Jg0 vs) (Sf true (Sf T (Sf (E,C,G) (22=Jpa E C G n ns vs tx)))) (Br false (Z67∧Jgt ns∧K1a T E C G n ns vs tx) (Br false (Z67∧Jgu ns∧Br (Ke9 ns) (Sf true (Sf T (Sf (E,C,G) (9=Jpa E C G n ns vs tx)))) J6b) (Kfg vs∧Sf true (Sf T (Sf (E,C,G) (L6 0 [] [] [] [] vs=Jpa E C G n ns vs tx))))))))))=_).mp ?_
 delta Z2 Z5 Z8 Z19 Z30 Z31 Z66 Z67 Z76 Z77 Yd K4 Uz U8 Yc J6b Jpa Di Jg0 Do Jgy Jgx Vz Yb Y1 Jej Jb2 Fl Jaw Fk Kfg F4 H5 H4 Dn Hk J5s Jgw Ke9 Jgv Jgu Jgt K1a Ym Kx Ub Zi Xu Jtj Jm3 Jth Hr Hq Br Iw Bd T2 Tw Sf Ln Gt B0 Lb E2 Ji
 intro hh hc
 have eK:=Xa (h:=(E,C,G)) (n:=n) (k:=Ji) (ns:=ns) (vs:=vs) (tx:=tx) (by kernel_rfl)
 obtain⟨hn,hv,hR,hr0,n1,n2,n3,hG,hV⟩:=Ld hh hc
 simp only[Uw,ckS,List.length_cons,List.length_nil] at eK hn hv
 rw[eK]
 simp only[hG,Jh7,H7,Prod.eta,Jq6,Ks,K5,Jhd,Jhc,Jft,Jhb,cond_true,cond_false,Bool.not_true,Bool.not_false,Jb]
 repeat' first|apply And.intro|exact hV|intro _
 all_goals first|trivial|omega|assumption|(rename_i h;have h:=of_decide_eq_true h;omega)|(simp only[*,cond_true,cond_false,Bool.not_true,Bool.not_false];done)|(rw[Kw ‹_›];(first|have e1:decide (vs.getD 0 0<Xg.1)=true:=‹_›|have e1:decide (vs.getD 0 0<Xg.1)=false:=‹_›);simp only[*,cond_true,cond_false,Bool.not_true,Bool.not_false];first|done|rfl)|(simp only[Bool.not_eq_false',decide_eq_true_eq] at*;assumption)
theorem Y9 {a b:ByteArray} (h:(a.toList==b.toList)=true):a=b:=by
 have h:=eq_of_beq h
 rw[Lib.toList_data,Lib.toList_data] at h
 cases a;cases b
 congr
 exact Array.toList_inj.1 h
theorem Jv7 {a b:ByteArray} (h:Fj .str a b=true):a=b:=Y9 h
theorem Jfh {β:Type} {ks:Sch} {k:ks.T}:∀{l:List (ks.T×β)},(Vv ks k l).isSome=true→∃x∈l,Fj ks k x.1=true
 |[],h=>by cases h
 | x :: l, h => by
  unfold Vv at h
  by_cases hx:Fj ks k x.1=true
  ·exact⟨x,List.mem_cons_self ..,hx⟩
  ·rw[if_neg hx] at h
   obtain⟨y,h1,h2⟩:=Jfh h
   exact⟨y,List.mem_cons_of_mem _ h1,h2⟩
theorem Vl {k:ByteArray} (h:Uo k=true):k=J1∨k=Jy∨k=Ue∨k=Ku∨k=Uc∨k=Vq∨k=Jz∨k=Jv∨k=Kh∨k=Kg∨k=Ji:=by
 obtain⟨x,hx,hk⟩:=Jfh h
 have hk:=Jv7 hk
 unfold L3 at hx
 subst hk
 rcases List.mem_cons.1 hx with rfl|hx
 ·exact .inl rfl
 rcases List.mem_cons.1 hx with rfl|hx
 ·exact .inr (.inl rfl)
 rcases List.mem_cons.1 hx with rfl|hx
 ·exact .inr (.inr (.inl rfl))
 rcases List.mem_cons.1 hx with rfl|hx
 ·exact .inr (.inr (.inr (.inl rfl)))
 rcases List.mem_cons.1 hx with rfl|hx
 ·exact .inr (.inr (.inr (.inr (.inl rfl))))
 rcases List.mem_cons.1 hx with rfl|hx
 ·exact .inr (.inr (.inr (.inr (.inr (.inl rfl)))))
 rcases List.mem_cons.1 hx with rfl|hx
 ·exact .inr (.inr (.inr (.inr (.inr (.inr (.inl rfl))))))
 rcases List.mem_cons.1 hx with rfl|hx
 ·exact .inr (.inr (.inr (.inr (.inr (.inr (.inr (.inl rfl)))))))
 rcases List.mem_cons.1 hx with rfl|hx
 ·exact .inr (.inr (.inr (.inr (.inr (.inr (.inr (.inr (.inl rfl))))))))
 rcases List.mem_cons.1 hx with rfl|hx
 ·exact .inr (.inr (.inr (.inr (.inr (.inr (.inr (.inr (.inr (.inl rfl)))))))))
 rcases List.mem_cons.1 hx with rfl|hx
 ·exact .inr (.inr (.inr (.inr (.inr (.inr (.inr (.inr (.inr (.inr rfl)))))))))
 cases hx
theorem Jbk:∀{l:List Prop} {q:Prop},(Up l→J45 l q)→J45 l q
 |[],_,h=>h trivial
 |[_],_,h=>fun hp=>h hp hp
 |_::p'::r,_,h=>fun hp=>Jbk (l:=p'::r) fun hr=>h ⟨hp,hr⟩ hp
theorem Jix {Γ:Gam} {ann:Nat→Option Ann} {annF:FuncId→Nat→Option Ann} {lib:FuncId→Option Func} {fn:Func} {c:X9} {T:TypeId} {x:c.s.T} {y:ATup c.args} (hb:fn.body.isSome=true) (h:Up (c.pre x y)→wpFO Tryz.prog Γ ann annF lib fn c T x y):wpFO Tryz.prog Γ ann annF lib fn c T x y:=by
 unfold wpFO at h⊢
 cases hc:fn.body with
 |none=>rw[hc] at hb;cases hb
 |some code=>
  rw[hc] at h
  exact Jbk h
def Jca (k:ByteArray):Nat:=if k=J1 then 1 else(Jh k).1.length+1
theorem Kum (T:TypeId):∀(x:J9) (y:ATup [aEv]),wpFO Tryz.prog W91.g (Xt (Jca y.1.2.1)) (fun _=>na ()) (Sx.look ([(75,Tryz.f75)]:List (Nat×Func))) Tryz.f130 Jqu T x y
 |(E,C,G),((n,k,ns,vs,tx),())=>by
  refine Jix (by kernel_rfl) fun hp=> ?_
  have hc:Jd (n,k,ns,vs,tx)=0:=hp.2
  rcases Vl (K1 hc).kind with h|h|h|h|h|h|h|h|h|h|h<;>dsimp only at h<;>subst h
  ·exact(show Jca J1=1 from by kernel_rfl)▸Jrr T E C G n ns vs tx
  ·exact(show Jca Jy=2 from by kernel_rfl)▸Ji0 T E C G n ns vs tx
  ·exact(show Jca Ue=2 from by kernel_rfl)▸Jnj T E C G n ns vs tx
  ·exact(show Jca Ku=4 from by kernel_rfl)▸Jnk T E C G n ns vs tx
  ·exact(show Jca Uc=2 from by kernel_rfl)▸Jnl T E C G n ns vs tx
  ·exact(show Jca Vq=2 from by kernel_rfl)▸Jrs T E C G n ns vs tx
  ·exact(show Jca Jz=3 from by kernel_rfl)▸Jk3 T E C G n ns vs tx
  ·exact(show Jca Jv=2 from by kernel_rfl)▸Ji1 T E C G n ns vs tx
  ·exact(show Jca Kh=3 from by kernel_rfl)▸Jk2 T E C G n ns vs tx
  ·exact(show Jca Kg=2 from by kernel_rfl)▸Jk1 T E C G n ns vs tx
  ·exact(show Jca Ji=1 from by kernel_rfl)▸Jk0 T E C G n ns vs tx
theorem Khz:Ok Tryz.prog 130 (X9.con Jqu):=Zd (Ul mixed W91.ok (by kernel_rfl) (by kernel_rfl) (U6 (l:=([(75,Tryz.f75)]:List (Nat×Func))) (List.forall_mem_cons.2 ⟨by kernel_rfl,by simp⟩)) (fun _ yy=>Xt (Jca yy.1.2.1)) (fun _ _=>fun _=>na ()) fun T xx yy _=>Kum T xx yy)
abbrev W92:=W91.add Khz
def doS (r:Reg) (e:Ev):Reg:=match(Jh e.2.1).2.2.2.1 with
 |some 149=>Jbq r e
 |some 153=>Fw r e
 |some 155=>F0 r e
 |some 158=>F1 r e
 |some 160=>Fv r e
 |some 162=>Fy r e
 |some 165=>Fx r e
 |some 167=>Fz r e
 |some 170=>Jhf r e
 |some 172=>Jbp r e
 |_=>r
def Jw (r:Reg) (e:Ev):Reg:=(e.2.2.2.1.getD 0 0,(doS r e).2)
def Ho (h:J9) (e:Ev):J9:=
 bif e.2.1.toList==J1.toList then(h.1++[e],h.2.1.take (h.2.1.length-1),h.2.2.take (h.2.1.length-1)) else(h.1++[e],h.2.1++[e],h.2.2++[Jw (Ko h.2.2) e])
def K3 (h:J9) (e:Ev):Int:=if Jd e≠0 then Jd e else L9 h e
def Jbn (e:Ev):Prop:=e.2.2.1.length≤1000000∧e.2.2.2.1.length≤1000000∧∀s∈e.2.2.1,s.size≤1000000
def Vi (h:J9) (e:Ev):J9:=if K3 h e=0 then Ho h e else h
def Kn6:X9:={T? :=none,s:=Jjh,args:=[aEv],ress:=[I],pre:=fun h (e,_)=>[Kp h,h.1.length<1000,Jbn e],spec:=fun h (e,_)=>(K3 h e,()),post:=fun h (e,_)=>Vi h e}
def Jcu:X9:={Kn6 with pre:=fun h (e,_)=>[Kp h,h.1.length<1000,Jbn e,Jd e=0,L9 h e=0]}
theorem Jb1 {h:J9} {n:Int} {ns:List ByteArray} {vs:List Int} {roles:List (Int×Bool)} {ck:Int} (e:Jq6 h n ns vs roles ck=0):n=(h.1.length:Int)+1∧¬vs.getD 0 0<(Ko h.2.2).1∧Ks (Ko h.2.2) ns roles 0=false∧K5 (Ko h.2.2) ns roles 0=false∧ck=0:=by
 unfold Jq6 at e
 cases h1:n !=(h.1.length:Int)+1 with
 |true=>rw[h1] at e;cases e
 | false =>
  rw[h1,cond_false] at e
  cases h2:decide (vs.getD 0 0<(Ko h.2.2).1) with
  |true=>rw[h2] at e;cases e
  | false =>
   rw[h2,cond_false] at e
   cases h3:Ks (Ko h.2.2) ns roles 0 with
   |true=>rw[h3] at e;cases e
   | false =>
    rw[h3,cond_false] at e
    cases h4:K5 (Ko h.2.2) ns roles 0 with
    |true=>rw[h4] at e;cases e
    |false=>
     rw[h4,cond_false] at e
     exact⟨bne_eq_false_iff_eq.1 h1,of_decide_eq_false h2,rfl,rfl,e⟩
theorem Jm {r:Reg} {ns:List ByteArray} {w:Int} {b:Bool} {l:List (Int×Bool)} {i:Nat} (h:Ks r ns ((w,b)::l) i=false):(b=true→Ye r w (ns.getD i Jb)=true)∧Ks r ns l (i+1)=false:=by
 unfold Ks at h
 cases b with
 |false=>exact⟨fun f=>(by cases f),h⟩
 |true=>
  cases h1:Ye r w (ns.getD i Jb) with
  |true=>rw[h1] at h;exact⟨fun _=>rfl,h⟩
  |false=>rw[h1] at h;cases h
theorem Jsx {r:Reg} {s:ByteArray} (h:Ye r 0 s=true):0≤J6 r.2.2.1 s:=of_decide_eq_true (show decide _=true from h)
theorem J48 {r:Reg} {s:ByteArray} (h:Ye r 1 s=true):0≤K0 r.2.2.2.1 s:=of_decide_eq_true (show decide _=true from h)
theorem J47 {r:Reg} {s:ByteArray} (h:Ye r 2 s=true):0≤Kc r.2.2.2.2.2.1 s:=of_decide_eq_true (show decide _=true from h)
theorem Kn4 {r:Reg} {s:ByteArray} (h:Ye r 3 s=true):0≤U5 r.2.2.2.2.2.2 s:=of_decide_eq_true (show decide _=true from h)
theorem J1i {h:J9} {n:Int} {k:ByteArray} {ns:List ByteArray} {vs:List Int} {tx:ByteArray} (hk:(k.toList==J1.toList)=false) (hc:Jd (n,k,ns,vs,tx)=0) (ha:L9 h (n,k,ns,vs,tx)=0):K3 h (n,k,ns,vs,tx)=0∧Vi h (n,k,ns,vs,tx)=(h.1++[(n,k,ns,vs,tx)],h.2.1++[(n,k,ns,vs,tx)],h.2.2++[Jw (Ko h.2.2) (n,k,ns,vs,tx)]):=by
 have e:K3 h (n,k,ns,vs,tx)=0:=by unfold K3;rw[if_neg (by rw[hc];simp)];exact ha
 refine⟨e, ?_⟩
 unfold Vi;rw[if_pos e];unfold Ho;dsimp only;rw[hk];rfl
theorem Jg9 {E C:List Ev} {G:List Reg} {n:Int} {k:ByteArray} {ns:List ByteArray} {vs:List Int} {tx:ByteArray} (hk:(k.toList==J1.toList)=false) (hc:Jd (n,k,ns,vs,tx)=0) (ha:L9 (E,C,G) (n,k,ns,vs,tx)=0):Ks (Ko G) ns (Jh k).1 0=false∧K3 (E,C,G) (n,k,ns,vs,tx)=0∧Vi (E,C,G) (n,k,ns,vs,tx)=(E++[(n,k,ns,vs,tx)],C++[(n,k,ns,vs,tx)],G++[Jw (Ko G) (n,k,ns,vs,tx)]):=
 have e:=Xa (h:=(E,C,G)) (n:=n) (ns:=ns) (vs:=vs) (tx:=tx) hk
 ⟨(Jb1 (e.symm.trans ha)).2.2.1,J1i hk hc ha⟩
theorem J21 {h:J9} {n:Int} {ns:List ByteArray} {vs:List Int} {tx:ByteArray} (ha:L9 h (n,J1,ns,vs,tx)=0):n=(h.1.length:Int)+1∧h.2.1.length≠0∧((h.2.1.getD (h.2.1.length-1) ev0).2.1.toList==Ji.toList)=false:=by
 unfold L9 at ha
 dsimp only at ha
 rw[show(J1.toList==J1.toList)=true from by kernel_rfl,cond_true] at ha
 cases h1:n !=(h.1.length:Int)+1 with
 |true=>rw[h1] at ha;cases ha
 | false =>
  rw[h1,cond_false] at ha
  cases h2:(h.2.1.length:Int)==0 with
  |true=>rw[h2] at ha;cases ha
  |false=>
   rw[h2,cond_false] at ha
   cases h3:(h.2.1.getD (h.2.1.length-1) ev0).2.1.toList==Ji.toList with
   |true=>rw[h3] at ha;cases ha
   |false=>exact⟨bne_eq_false_iff_eq.1 h1,(fun e=>by rw[e] at h2;cases h2),rfl⟩
def Z45 (a:List Ev):=List.length a<1000
def Jc0 (a:List Ev):=(List.length a+1)*88≤140737488355328
def Jel:=0≤1000000∧T2 (0≤1000000) (Tw (0≤1000000))
def Jek (a:List Ev) (b:List Reg):=(List.take (Int.toNat (Z8 a)) a,List.take (Int.toNat (Z8 a)) b)
def Fm (a:List Ev) (b:List Reg):=Jc0 a∧(List.length b+1)*136≤140737488355328
def Jei (a:List Ev) (b:List Reg):=(0≤Z8 a∧Z8 a≤Ln a)∧0≤Z8 a∧Z8 a≤Ln b
def Jdo (a:Ls) (b:Li):=F5 a∧Z61 b∧Jhi a
def Zj (a:List Reg):=List.length (H5 a).1≤1000000∧List.length (H4 a).1≤1000000∧List.length (Dn a).1≤1000000∧List.length (Hk a).1≤1000000∧List.length (Hk a).2≤1000000
theorem Jrt:wpFO Tryz.prog W92.g (na ()) (fun _=>na ()) (Sx.look ([(75,Tryz.f75),(129,Tryz.f129)]:List (Nat×Func))) Tryz.f121 Jcu T (E,C,G) ((n,J1,ns,vs,tx),()):=by
 refine(by kernel_rfl:(Kp (E,C,G)→Z45 E→Jbn (Z4 n ns vs tx)→Jd (Z4 n ns vs tx)=0→Jtb E C G n ns vs tx=0→Jdo ns vs∧Br (Jd (Z4 n ns vs tx) !=0) (Sf true (Sf T ((E,C,G)=Vi (E,C,G) (Z4 n ns vs tx)∧Jd (Z4 n ns vs tx)=K3 (E,C,G) (Z4 n ns vs tx)))) ((Kp (E,C,G)∧Jd (Z4 n ns vs tx)=0)∧Br (Jtb E C G n ns vs tx !=0) (Sf true (Sf T ((E,C,G)=Vi (E,C,G) (Z4 n ns vs tx)∧Jtb E C G n ns vs tx=K3 (E,C,G) (Z4 n ns vs tx)))) (Jdp ns vs∧Jc0 E∧Br true (Z77 C∧Jei C G∧Sf true (Sf T ((E++[Z4 n ns vs tx],Jek C G)=Vi (E,C,G) (Z4 n ns vs tx)∧0=K3 (E,C,G) (Z4 n ns vs tx)))) (Br (Yc G) (Yb G∧Zj G∧False∧K4 vs∧Fm C G∧Sf true (Sf T ((E++[Z4 n ns vs tx],C++[Z4 n ns vs tx],G++[(U8 vs,Ym G)])=Vi (E,C,G) (Z4 n ns vs tx)∧0=K3 (E,C,G) (Z4 n ns vs tx)))) (Jel∧False∧K4 vs∧Fm C G∧Sf true (Sf T ((E++[Z4 n ns vs tx],C++[Z4 n ns vs tx],G++[(U8 vs,Do)])=Vi (E,C,G) (Z4 n ns vs tx)∧0=K3 (E,C,G) (Z4 n ns vs tx))))))))=_).mp ?_
 delta Z4 Z8 Z30 Z45 Z61 Z77 K4 U8 Yc F5 Jtb Jc0 Jgz Jdp Do Jel Vz Yb Jek Jhi Fm Fl Fk F4 H5 H4 Dn Hk Jei Jdo Ym Zj Br Iw Bd T2 Tw Sf Ln Gt E2 J1
 intro hh hlt hsz hc ha
 obtain⟨a1,a2,a3⟩:=J21 ha
 have n1:E.length≤1000:=hh.nE
 have n2:C.length≤E.length:=hh.nC
 have n3:G.length=C.length:=hh.nG
 have a2:C.length≠0:=a2
 have hC:((C.length:Int)-1).toNat=C.length-1:=by omega
 have eE:K3 (E,C,G) (n,J1,ns,vs,tx)=0:=by unfold K3;rw[if_neg (by rw[hc];simp)];exact ha
 have eP:Vi (E,C,G) (n,J1,ns,vs,tx)=(E++[(n,J1,ns,vs,tx)],C.take (C.length-1),G.take (C.length-1)):=by
  unfold Vi;rw[if_pos eE];unfold Ho;dsimp only;rw[show(J1.toList==J1.toList)=true from by kernel_rfl];rfl
 simp only[eE,eP,hc,ha,hC]
 repeat' first|exact hh|exact hsz.2.2|apply And.intro|intro _
 all_goals first|trivial|omega|assumption|contradiction|exact hsz.1|exact hsz.2.1|rfl
def K4n (a:Int) (b:Ls) (c:Li) (d:Bt):=(Jbq Vz (Z37 a b c d)).2
def K4c (a:Int) (b:Ls) (c:Li) (d:Bt):=(K4n a b c d).2
def K30 (a:Int) (b:Ls) (c:Li) (d:Bt):=(K4c a b c d).2
def K3p (a:Int) (b:Ls) (c:Li) (d:Bt):=(K30 a b c d).2
def Kb9 (a:List Reg) (b:Int) (c:Ls) (d:Li) (e:Bt):=(Jbq (Kx a) (Z37 b c d e)).2
def Kb2 (a:List Reg) (b:Int) (c:Ls) (d:Li) (e:Bt):=(Kb9 a b c d e).2
def Kbr (a:List Reg) (b:Int) (c:Ls) (d:Li) (e:Bt):=(Kb2 a b c d e).2
def Kbj (a:List Reg) (b:Int) (c:Ls) (d:Li) (e:Bt):=(Kbr a b c d e).2
theorem Ji2:wpFO Tryz.prog W92.g (na ()) (fun _=>na ()) (Sx.look ([(75,Tryz.f75),(129,Tryz.f129)]:List (Nat×Func))) Tryz.f121 Jcu T (E,C,G) ((n,Jy,ns,vs,tx),()):=by
 refine(by kernel_rfl:(Kp (E,C,G)→Z45 E→Jbn (Z37 n ns vs tx)→Jd (Z37 n ns vs tx)=0→Jra E C G n ns vs tx=0→Jdo ns vs∧Br (Jd (Z37 n ns vs tx) !=0) (Sf true (Sf T ((E,C,G)=Vi (E,C,G) (Z37 n ns vs tx)∧Jd (Z37 n ns vs tx)=K3 (E,C,G) (Z37 n ns vs tx)))) ((Kp (E,C,G)∧Jd (Z37 n ns vs tx)=0)∧Br (Jra E C G n ns vs tx !=0) (Sf true (Sf T ((E,C,G)=Vi (E,C,G) (Z37 n ns vs tx)∧Jra E C G n ns vs tx=K3 (E,C,G) (Z37 n ns vs tx)))) (Jdp ns vs∧Jc0 E∧Br false (Z77 C∧Jei C G∧Sf true (Sf T ((E++[Z37 n ns vs tx],Jek C G)=Vi (E,C,G) (Z37 n ns vs tx)∧0=K3 (E,C,G) (Z37 n ns vs tx)))) (Br (Yc G) (Yb G∧Zj G∧(Ub G∧Xd ns∧Z66 vs)∧K4 vs∧Fm C G∧Sf true (Sf T ((E++[Z37 n ns vs tx],C++[Z37 n ns vs tx],G++[(U8 vs,(Kb9 G n ns vs tx).1,(Kb2 G n ns vs tx).1,(Kbr G n ns vs tx).1,(Kbj G n ns vs tx).1,E2 (Kbj G n ns vs tx).2)])=Vi (E,C,G) (Z37 n ns vs tx)∧0=K3 (E,C,G) (Z37 n ns vs tx)))) (Jel∧(Y1∧Xd ns∧Z66 vs)∧K4 vs∧Fm C G∧Sf true (Sf T ((E++[Z37 n ns vs tx],C++[Z37 n ns vs tx],G++[(U8 vs,(K4n n ns vs tx).1,(K4c n ns vs tx).1,(K30 n ns vs tx).1,(K3p n ns vs tx).1,E2 (K3p n ns vs tx).2)])=Vi (E,C,G) (Z37 n ns vs tx)∧0=K3 (E,C,G) (Z37 n ns vs tx))))))))=_).mp ?_
 delta Z8 Z30 Z37 Z45 Z61 Z66 Z77 K4 U8 Yc F5 Xd Jra Jc0 Jgz Jdp Do Jel Vz Yb Y1 Jek Jhi Fm Fl K4n K4c Jaw Fk F4 H5 K30 K3p H4 Dn Hk Jei Jdo Ym Zj Kx Ub Kb9 Kb2 Kbr Kbj Br Iw Bd T2 Tw Sf Ln Gt E2 Jy
 intro hh hlt hsz hc ha
 obtain⟨u0,aE,aP⟩:=Jg9 (k:=Jy) (by kernel_rfl) hc ha
 obtain⟨hn,hv,hR,_,n1,n2,n3,hG,hV⟩:=Ld hh hc
 simp only[Ui,List.length_cons,List.length_nil] at hn hv u0
 have hs:Jw (Ko G) (n,Jy,ns,vs,tx)=(vs.getD 0 0,(Jbq (Ko G) (n,Jy,ns,vs,tx)).2):=by simp only[Jw,doS,Ui]
 simp only[aE,aP,hs,hc,ha,hG,H7,Jh7,Prod.eta]
 repeat' first|exact hV|exact hh|exact hR|exact hsz.2.2|apply And.intro|intro _
 all_goals first|trivial|omega|assumption|exact Nat.le_trans hR.nS (by decide)|exact Nat.le_trans hR.nO (by decide)|exact Nat.le_trans hR.nM (by decide)|exact Nat.le_trans hR.nX (by decide)|exact Nat.le_trans hR.nQ (by decide)|exact Nat.zero_le _|exact hsz.1|exact hsz.2.1|(rename_i h;have h:=of_decide_eq_true h;omega)|rfl|(rw[←Kw ‹_›];first|done|exact hR)
def K4v (a:Int) (b:Ls) (c:Li) (d:Bt):=(Fw Vz (Z16 a b c d)).2
def K4o (a:Int) (b:Ls) (c:Li) (d:Bt):=(K4v a b c d).2
def K4e (a:Int) (b:Ls) (c:Li) (d:Bt):=(K4o a b c d).2
def K3x (a:Int) (b:Ls) (c:Li) (d:Bt):=(K4e a b c d).2
def Kcl (a:List Reg) (b:Int) (c:Ls) (d:Li) (e:Bt):=(Fw (Kx a) (Z16 b c d e)).2
def Kca (a:List Reg) (b:Int) (c:Ls) (d:Li) (e:Bt):=(Kcl a b c d e).2
def Kb1 (a:List Reg) (b:Int) (c:Ls) (d:Li) (e:Bt):=(Kca a b c d e).2
def Kbs (a:List Reg) (b:Int) (c:Ls) (d:Li) (e:Bt):=(Kb1 a b c d e).2
theorem Jnm:wpFO Tryz.prog W92.g (na ()) (fun _=>na ()) (Sx.look ([(75,Tryz.f75),(129,Tryz.f129)]:List (Nat×Func))) Tryz.f121 Jcu T (E,C,G) ((n,Ue,ns,vs,tx),()):=by
 refine(by kernel_rfl:(Kp (E,C,G)→Z45 E→Jbn (Z16 n ns vs tx)→Jd (Z16 n ns vs tx)=0→Jta E C G n ns vs tx=0→Jdo ns vs∧Br (Jd (Z16 n ns vs tx) !=0) (Sf true (Sf T ((E,C,G)=Vi (E,C,G) (Z16 n ns vs tx)∧Jd (Z16 n ns vs tx)=K3 (E,C,G) (Z16 n ns vs tx)))) ((Kp (E,C,G)∧Jd (Z16 n ns vs tx)=0)∧Br (Jta E C G n ns vs tx !=0) (Sf true (Sf T ((E,C,G)=Vi (E,C,G) (Z16 n ns vs tx)∧Jta E C G n ns vs tx=K3 (E,C,G) (Z16 n ns vs tx)))) (Jdp ns vs∧Jc0 E∧Br false (Z77 C∧Jei C G∧Sf true (Sf T ((E++[Z16 n ns vs tx],Jek C G)=Vi (E,C,G) (Z16 n ns vs tx)∧0=K3 (E,C,G) (Z16 n ns vs tx)))) (Br (Yc G) (Yb G∧Zj G∧(Ub G∧Xd ns∧Z66 vs∧0≤J6 (H5 G).1 (Da ns))∧K4 vs∧Fm C G∧Sf true (Sf T ((E++[Z16 n ns vs tx],C++[Z16 n ns vs tx],G++[(U8 vs,(Kcl G n ns vs tx).1,(Kca G n ns vs tx).1,(Kb1 G n ns vs tx).1,(Kbs G n ns vs tx).1,E2 (Kbs G n ns vs tx).2)])=Vi (E,C,G) (Z16 n ns vs tx)∧0=K3 (E,C,G) (Z16 n ns vs tx)))) (Jel∧(Y1∧Xd ns∧Z66 vs∧0≤J6 [] (Da ns))∧K4 vs∧Fm C G∧Sf true (Sf T ((E++[Z16 n ns vs tx],C++[Z16 n ns vs tx],G++[(U8 vs,(K4v n ns vs tx).1,(K4o n ns vs tx).1,(K4e n ns vs tx).1,(K3x n ns vs tx).1,E2 (K3x n ns vs tx).2)])=Vi (E,C,G) (Z16 n ns vs tx)∧0=K3 (E,C,G) (Z16 n ns vs tx))))))))=_).mp ?_
 delta Z8 Z16 Z30 Z45 Z61 Z66 Z77 K4 U8 Yc F5 Da Xd Jta Jc0 Jgz Jdp Do Jel Vz Yb Y1 Jek Jhi Fm K4v K4o Fl K4e Jaw Fk F4 H5 K3x H4 Dn Hk Jei Jdo Ym Zj Kx Ub Kcl Kca Kb1 Kbs Br Iw Bd T2 Tw Sf Ln Gt E2 Ue
 intro hh hlt hsz hc ha
 obtain⟨u0,aE,aP⟩:=Jg9 (k:=Ue) (by kernel_rfl) hc ha
 obtain⟨hn,hv,hR,_,n1,n2,n3,hG,hV⟩:=Ld hh hc
 simp only[Vj,List.length_cons,List.length_nil] at hn hv u0
 obtain⟨k0,u1⟩:=Jm u0
 have f0:=Jsx (k0 rfl)
 have hs:Jw (Ko G) (n,Ue,ns,vs,tx)=(vs.getD 0 0,(Fw (Ko G) (n,Ue,ns,vs,tx)).2):=by simp only[Jw,doS,Vj]
 simp only[aE,aP,hs,hc,ha,hG,H7,Jh7,Prod.eta]
 repeat' first|exact hV|exact hh|exact hR|exact hsz.2.2|apply And.intro|intro _
 all_goals first|trivial|omega|assumption|exact Nat.le_trans hR.nS (by decide)|exact Nat.le_trans hR.nO (by decide)|exact Nat.le_trans hR.nM (by decide)|exact Nat.le_trans hR.nX (by decide)|exact Nat.le_trans hR.nQ (by decide)|exact Nat.zero_le _|exact hsz.1|exact hsz.2.1|(rename_i h;have h:=of_decide_eq_true h;omega)|rfl|(rw[←Kw ‹_›];first|done|exact hR)|(rw[Kw ‹_›] at f0;exact f0)
def K4w (a:Int) (b:Ls) (c:Li) (d:Bt):=(F0 Vz (Z15 a b c d)).2
def K4l (a:Int) (b:Ls) (c:Li) (d:Bt):=(K4w a b c d).2
def K4a (a:Int) (b:Ls) (c:Li) (d:Bt):=(K4l a b c d).2
def K3z (a:Int) (b:Ls) (c:Li) (d:Bt):=(K4a a b c d).2
def Kck (a:List Reg) (b:Int) (c:Ls) (d:Li) (e:Bt):=(F0 (Kx a) (Z15 b c d e)).2
def Kcb (a:List Reg) (b:Int) (c:Ls) (d:Li) (e:Bt):=(Kck a b c d e).2
def Kbz (a:List Reg) (b:Int) (c:Ls) (d:Li) (e:Bt):=(Kcb a b c d e).2
def Kbt (a:List Reg) (b:Int) (c:Ls) (d:Li) (e:Bt):=(Kbz a b c d e).2
theorem Jnn:wpFO Tryz.prog W92.g (na ()) (fun _=>na ()) (Sx.look ([(75,Tryz.f75),(129,Tryz.f129)]:List (Nat×Func))) Tryz.f121 Jcu T (E,C,G) ((n,Ku,ns,vs,tx),()):=by
 refine(by kernel_rfl:(Kp (E,C,G)→Z45 E→Jbn (Z15 n ns vs tx)→Jd (Z15 n ns vs tx)=0→Jre E C G n ns vs tx=0→Jdo ns vs∧Br (Jd (Z15 n ns vs tx) !=0) (Sf true (Sf T ((E,C,G)=Vi (E,C,G) (Z15 n ns vs tx)∧Jd (Z15 n ns vs tx)=K3 (E,C,G) (Z15 n ns vs tx)))) ((Kp (E,C,G)∧Jd (Z15 n ns vs tx)=0)∧Br (Jre E C G n ns vs tx !=0) (Sf true (Sf T ((E,C,G)=Vi (E,C,G) (Z15 n ns vs tx)∧Jre E C G n ns vs tx=K3 (E,C,G) (Z15 n ns vs tx)))) (Jdp ns vs∧Jc0 E∧Br false (Z77 C∧Jei C G∧Sf true (Sf T ((E++[Z15 n ns vs tx],Jek C G)=Vi (E,C,G) (Z15 n ns vs tx)∧0=K3 (E,C,G) (Z15 n ns vs tx)))) (Br (Yc G) (Yb G∧Zj G∧(Ub G∧Jt1 ns∧Ko0 vs G ns)∧K4 vs∧Fm C G∧Sf true (Sf T ((E++[Z15 n ns vs tx],C++[Z15 n ns vs tx],G++[(U8 vs,(Kck G n ns vs tx).1,(Kcb G n ns vs tx).1,(Kbz G n ns vs tx).1,(Kbt G n ns vs tx).1,E2 (Kbt G n ns vs tx).2)])=Vi (E,C,G) (Z15 n ns vs tx)∧0=K3 (E,C,G) (Z15 n ns vs tx)))) (Jel∧(Y1∧Jt1 ns∧Krn vs ns)∧K4 vs∧Fm C G∧Sf true (Sf T ((E++[Z15 n ns vs tx],C++[Z15 n ns vs tx],G++[(U8 vs,(K4w n ns vs tx).1,(K4l n ns vs tx).1,(K4a n ns vs tx).1,(K3z n ns vs tx).1,E2 (K3z n ns vs tx).2)])=Vi (E,C,G) (Z15 n ns vs tx)∧0=K3 (E,C,G) (Z15 n ns vs tx))))))))=_).mp ?_
 delta Z8 Z15 Z30 Z45 Z56 Z61 Z77 K4 U8 Yc F5 Jt1 Jko Jre Jc0 Jgz Km0 Jdp Do Jel Vz Yb Y1 Jek Krn Jhi Fm K4w Fl K4l Jaw K4a Fk F4 H5 K3z H4 Dn Hk Jei Jdo Kk6 Ko0 Ym Zj Kx Ub Kck Kcb Kbz Kbt Br Iw Bd T2 Tw Sf Ln Gt E2 Ku
 intro hh hlt hsz hc ha
 obtain⟨u0,aE,aP⟩:=Jg9 (k:=Ku) (by kernel_rfl) hc ha
 obtain⟨hn,hv,hR,_,n1,n2,n3,hG,hV⟩:=Ld hh hc
 simp only[U1,List.length_cons,List.length_nil] at hn hv u0
 obtain⟨k0,u1⟩:=Jm u0
 obtain⟨k1,u2⟩:=Jm u1
 obtain⟨k2,u3⟩:=Jm u2
 have f1:=Jsx (k1 rfl)
 have f2:=Jsx (k2 rfl)
 have hs:Jw (Ko G) (n,Ku,ns,vs,tx)=(vs.getD 0 0,(F0 (Ko G) (n,Ku,ns,vs,tx)).2):=by simp only[Jw,doS,U1]
 simp only[aE,aP,hs,hc,ha,hG,H7,Jh7,Prod.eta]
 repeat' first|exact hV|exact hh|exact hR|exact hsz.2.2|apply And.intro|intro _
 all_goals first|trivial|omega|assumption|exact Nat.le_trans hR.nS (by decide)|exact Nat.le_trans hR.nO (by decide)|exact Nat.le_trans hR.nM (by decide)|exact Nat.le_trans hR.nX (by decide)|exact Nat.le_trans hR.nQ (by decide)|exact Nat.zero_le _|exact hsz.1|exact hsz.2.1|(rename_i h;have h:=of_decide_eq_true h;omega)|rfl|(rw[←Kw ‹_›];first|done|exact hR)|(rw[Kw ‹_›] at f1;exact f1)|(rw[Kw ‹_›] at f2;exact f2)
def K41 (a:Int) (b:Ls) (c:Li) (d:Bt):=(F1 Vz (Z13 a b c d)).2
def K4p (a:Int) (b:Ls) (c:Li) (d:Bt):=(K41 a b c d).2
def K4d (a:Int) (b:Ls) (c:Li) (d:Bt):=(K4p a b c d).2
def K32 (a:Int) (b:Ls) (c:Li) (d:Bt):=(K4d a b c d).2
def Kci (a:List Reg) (b:Int) (c:Ls) (d:Li) (e:Bt):=(F1 (Kx a) (Z13 b c d e)).2
def Kcd (a:List Reg) (b:Int) (c:Ls) (d:Li) (e:Bt):=(Kci a b c d e).2
def Kb3 (a:List Reg) (b:Int) (c:Ls) (d:Li) (e:Bt):=(Kcd a b c d e).2
def Kbq (a:List Reg) (b:Int) (c:Ls) (d:Li) (e:Bt):=(Kb3 a b c d e).2
theorem Jno:wpFO Tryz.prog W92.g (na ()) (fun _=>na ()) (Sx.look ([(75,Tryz.f75),(129,Tryz.f129)]:List (Nat×Func))) Tryz.f121 Jcu T (E,C,G) ((n,Uc,ns,vs,tx),()):=by
 refine(by kernel_rfl:(Kp (E,C,G)→Z45 E→Jbn (Z13 n ns vs tx)→Jd (Z13 n ns vs tx)=0→Jrf E C G n ns vs tx=0→Jdo ns vs∧Br (Jd (Z13 n ns vs tx) !=0) (Sf true (Sf T ((E,C,G)=Vi (E,C,G) (Z13 n ns vs tx)∧Jd (Z13 n ns vs tx)=K3 (E,C,G) (Z13 n ns vs tx)))) ((Kp (E,C,G)∧Jd (Z13 n ns vs tx)=0)∧Br (Jrf E C G n ns vs tx !=0) (Sf true (Sf T ((E,C,G)=Vi (E,C,G) (Z13 n ns vs tx)∧Jrf E C G n ns vs tx=K3 (E,C,G) (Z13 n ns vs tx)))) (Jdp ns vs∧Jc0 E∧Br false (Z77 C∧Jei C G∧Sf true (Sf T ((E++[Z13 n ns vs tx],Jek C G)=Vi (E,C,G) (Z13 n ns vs tx)∧0=K3 (E,C,G) (Z13 n ns vs tx)))) (Br (Yc G) (Yb G∧Zj G∧(Ub G∧Xd ns∧Z53 vs)∧K4 vs∧Fm C G∧Sf true (Sf T ((E++[Z13 n ns vs tx],C++[Z13 n ns vs tx],G++[(U8 vs,(Kci G n ns vs tx).1,(Kcd G n ns vs tx).1,(Kb3 G n ns vs tx).1,(Kbq G n ns vs tx).1,E2 (Kbq G n ns vs tx).2)])=Vi (E,C,G) (Z13 n ns vs tx)∧0=K3 (E,C,G) (Z13 n ns vs tx)))) (Jel∧(Y1∧Xd ns∧Z53 vs)∧K4 vs∧Fm C G∧Sf true (Sf T ((E++[Z13 n ns vs tx],C++[Z13 n ns vs tx],G++[(U8 vs,(K41 n ns vs tx).1,(K4p n ns vs tx).1,(K4d n ns vs tx).1,(K32 n ns vs tx).1,E2 (K32 n ns vs tx).2)])=Vi (E,C,G) (Z13 n ns vs tx)∧0=K3 (E,C,G) (Z13 n ns vs tx))))))))=_).mp ?_
 delta Z8 Z13 Z30 Z45 Z53 Z61 Z77 K4 U8 Yc F5 Xd Jrf Jc0 Jgz Jdp Do Jel Vz Yb Y1 Jek Jhi Fm K41 K4p Fl K4d Jaw Fk F4 H5 K32 H4 Dn Hk Jei Jdo Ym Zj Kx Ub Kci Kcd Kb3 Kbq Br Iw Bd T2 Tw Sf Ln Gt E2 Uc
 intro hh hlt hsz hc ha
 obtain⟨u0,aE,aP⟩:=Jg9 (k:=Uc) (by kernel_rfl) hc ha
 obtain⟨hn,hv,hR,_,n1,n2,n3,hG,hV⟩:=Ld hh hc
 simp only[U2,List.length_cons,List.length_nil] at hn hv u0
 obtain⟨k0,u1⟩:=Jm u0
 have f0:=J48 (k0 rfl)
 have hs:Jw (Ko G) (n,Uc,ns,vs,tx)=(vs.getD 0 0,(F1 (Ko G) (n,Uc,ns,vs,tx)).2):=by simp only[Jw,doS,U2]
 simp only[aE,aP,hs,hc,ha,hG,H7,Jh7,Prod.eta]
 repeat' first|exact hV|exact hh|exact hR|exact hsz.2.2|apply And.intro|intro _
 all_goals first|trivial|omega|assumption|exact Nat.le_trans hR.nS (by decide)|exact Nat.le_trans hR.nO (by decide)|exact Nat.le_trans hR.nM (by decide)|exact Nat.le_trans hR.nX (by decide)|exact Nat.le_trans hR.nQ (by decide)|exact Nat.zero_le _|exact hsz.1|exact hsz.2.1|(rename_i h;have h:=of_decide_eq_true h;omega)|rfl|(rw[←Kw ‹_›];first|done|exact hR)|(rw[Kw ‹_›] at f0;exact f0)
def K42 (a:Int) (b:Ls) (c:Li) (d:Bt):=(Fv Vz (Z7 a b c d)).2
def K4r (a:Int) (b:Ls) (c:Li) (d:Bt):=(K42 a b c d).2
def K4g (a:Int) (b:Ls) (c:Li) (d:Bt):=(K4r a b c d).2
def K36 (a:Int) (b:Ls) (c:Li) (d:Bt):=(K4g a b c d).2
def Kcm (a:List Reg) (b:Int) (c:Ls) (d:Li) (e:Bt):=(Fv (Kx a) (Z7 b c d e)).2
def Kch (a:List Reg) (b:Int) (c:Ls) (d:Li) (e:Bt):=(Kcm a b c d e).2
def Kb5 (a:List Reg) (b:Int) (c:Ls) (d:Li) (e:Bt):=(Kch a b c d e).2
def Kbv (a:List Reg) (b:Int) (c:Ls) (d:Li) (e:Bt):=(Kb5 a b c d e).2
theorem Jru:wpFO Tryz.prog W92.g (na ()) (fun _=>na ()) (Sx.look ([(75,Tryz.f75),(129,Tryz.f129)]:List (Nat×Func))) Tryz.f121 Jcu T (E,C,G) ((n,Vq,ns,vs,tx),()):=by
 refine(by kernel_rfl:(Kp (E,C,G)→Z45 E→Jbn (Z7 n ns vs tx)→Jd (Z7 n ns vs tx)=0→Jrh E C G n ns vs tx=0→Jdo ns vs∧Br (Jd (Z7 n ns vs tx) !=0) (Sf true (Sf T ((E,C,G)=Vi (E,C,G) (Z7 n ns vs tx)∧Jd (Z7 n ns vs tx)=K3 (E,C,G) (Z7 n ns vs tx)))) ((Kp (E,C,G)∧Jd (Z7 n ns vs tx)=0)∧Br (Jrh E C G n ns vs tx !=0) (Sf true (Sf T ((E,C,G)=Vi (E,C,G) (Z7 n ns vs tx)∧Jrh E C G n ns vs tx=K3 (E,C,G) (Z7 n ns vs tx)))) (Jdp ns vs∧Jc0 E∧Br false (Z77 C∧Jei C G∧Sf true (Sf T ((E++[Z7 n ns vs tx],Jek C G)=Vi (E,C,G) (Z7 n ns vs tx)∧0=K3 (E,C,G) (Z7 n ns vs tx)))) (Br (Yc G) (Yb G∧Zj G∧J3o G ns vs∧K4 vs∧Fm C G∧Sf true (Sf T ((E++[Z7 n ns vs tx],C++[Z7 n ns vs tx],G++[(U8 vs,(Kcm G n ns vs tx).1,(Kch G n ns vs tx).1,(Kb5 G n ns vs tx).1,(Kbv G n ns vs tx).1,E2 (Kbv G n ns vs tx).2)])=Vi (E,C,G) (Z7 n ns vs tx)∧0=K3 (E,C,G) (Z7 n ns vs tx)))) (Jel∧Kor ns vs∧K4 vs∧Fm C G∧Sf true (Sf T ((E++[Z7 n ns vs tx],C++[Z7 n ns vs tx],G++[(U8 vs,(K42 n ns vs tx).1,(K4r n ns vs tx).1,(K4g n ns vs tx).1,(K36 n ns vs tx).1,E2 (K36 n ns vs tx).2)])=Vi (E,C,G) (Z7 n ns vs tx)∧0=K3 (E,C,G) (Z7 n ns vs tx))))))))=_).mp ?_
 delta Z7 Z8 Z30 Z45 Z51 Z61 Z77 K4 U8 Yc F5 Da Xd Jrh Jc0 Jgz Km1 Jdp Do Jel Vz Yb Y1 Jek Jhi Fm K42 K4r Fl K4g Jaw Fk K36 F4 H5 H4 Dn Hk Jei Jdo Kk2 Kor Ym Zj Kx Ub Kcm Kch Kb5 Kbv J3o Br Iw Bd T2 Tw Sf Ln Gt E2 Vq
 intro hh hlt hsz hc ha
 obtain⟨u0,aE,aP⟩:=Jg9 (k:=Vq) (by kernel_rfl) hc ha
 obtain⟨hn,hv,hR,_,n1,n2,n3,hG,hV⟩:=Ld hh hc
 simp only[Vw,List.length_cons,List.length_nil] at hn hv u0
 obtain⟨k0,u1⟩:=Jm u0
 have f0:=J48 (k0 rfl)
 have hs:Jw (Ko G) (n,Vq,ns,vs,tx)=(vs.getD 0 0,(Fv (Ko G) (n,Vq,ns,vs,tx)).2):=by simp only[Jw,doS,Vw]
 simp only[aE,aP,hs,hc,ha,hG,H7,Jh7,Prod.eta]
 repeat' first|exact hV|exact hh|exact hR|exact hsz.2.2|apply And.intro|intro _
 all_goals first|trivial|omega|assumption|exact Nat.le_trans hR.nS (by decide)|exact Nat.le_trans hR.nO (by decide)|exact Nat.le_trans hR.nM (by decide)|exact Nat.le_trans hR.nX (by decide)|exact Nat.le_trans hR.nQ (by decide)|exact Nat.zero_le _|exact hsz.1|exact hsz.2.1|(rename_i h;have h:=of_decide_eq_true h;omega)|rfl|(rw[←Kw ‹_›];first|done|exact hR)|(rw[Kw ‹_›] at f0;exact f0)
def K4s (a:Int) (b:Ls) (c:Li) (d:Bt):=(Fy Vz (Z21 a b c d)).2
def K4f (a:Int) (b:Ls) (c:Li) (d:Bt):=(K4s a b c d).2
def K35 (a:Int) (b:Ls) (c:Li) (d:Bt):=(K4f a b c d).2
def K3u (a:Int) (b:Ls) (c:Li) (d:Bt):=(K35 a b c d).2
def Kcg (a:List Reg) (b:Int) (c:Ls) (d:Li) (e:Bt):=(Fy (Kx a) (Z21 b c d e)).2
def Kb6 (a:List Reg) (b:Int) (c:Ls) (d:Li) (e:Bt):=(Kcg a b c d e).2
def Kbw (a:List Reg) (b:Int) (c:Ls) (d:Li) (e:Bt):=(Kb6 a b c d e).2
def Kbn (a:List Reg) (b:Int) (c:Ls) (d:Li) (e:Bt):=(Kbw a b c d e).2
theorem Jk7:wpFO Tryz.prog W92.g (na ()) (fun _=>na ()) (Sx.look ([(75,Tryz.f75),(129,Tryz.f129)]:List (Nat×Func))) Tryz.f121 Jcu T (E,C,G) ((n,Jz,ns,vs,tx),()):=by
 refine(by kernel_rfl:(Kp (E,C,G)→Z45 E→Jbn (Z21 n ns vs tx)→Jd (Z21 n ns vs tx)=0→Jrb E C G n ns vs tx=0→Jdo ns vs∧Br (Jd (Z21 n ns vs tx) !=0) (Sf true (Sf T ((E,C,G)=Vi (E,C,G) (Z21 n ns vs tx)∧Jd (Z21 n ns vs tx)=K3 (E,C,G) (Z21 n ns vs tx)))) ((Kp (E,C,G)∧Jd (Z21 n ns vs tx)=0)∧Br (Jrb E C G n ns vs tx !=0) (Sf true (Sf T ((E,C,G)=Vi (E,C,G) (Z21 n ns vs tx)∧Jrb E C G n ns vs tx=K3 (E,C,G) (Z21 n ns vs tx)))) (Jdp ns vs∧Jc0 E∧Br false (Z77 C∧Jei C G∧Sf true (Sf T ((E++[Z21 n ns vs tx],Jek C G)=Vi (E,C,G) (Z21 n ns vs tx)∧0=K3 (E,C,G) (Z21 n ns vs tx)))) (Br (Yc G) (Yb G∧Zj G∧(Ub G∧Jri ns∧Z56 vs)∧K4 vs∧Fm C G∧Sf true (Sf T ((E++[Z21 n ns vs tx],C++[Z21 n ns vs tx],G++[(U8 vs,(Kcg G n ns vs tx).1,(Kb6 G n ns vs tx).1,(Kbw G n ns vs tx).1,(Kbn G n ns vs tx).1,E2 (Kbn G n ns vs tx).2)])=Vi (E,C,G) (Z21 n ns vs tx)∧0=K3 (E,C,G) (Z21 n ns vs tx)))) (Jel∧(Y1∧Jri ns∧Z56 vs)∧K4 vs∧Fm C G∧Sf true (Sf T ((E++[Z21 n ns vs tx],C++[Z21 n ns vs tx],G++[(U8 vs,(K4s n ns vs tx).1,(K4f n ns vs tx).1,(K35 n ns vs tx).1,(K3u n ns vs tx).1,E2 (K3u n ns vs tx).2)])=Vi (E,C,G) (Z21 n ns vs tx)∧0=K3 (E,C,G) (Z21 n ns vs tx))))))))=_).mp ?_
 delta Z8 Z21 Z30 Z45 Z56 Z61 Z77 K4 U8 Yc F5 Jri Jrb Jc0 Jgz Jdp Do Jel Vz Yb Y1 Jek Jhi Fm K4s Fl K4f Jaw Fk K35 F4 H5 K3u H4 Dn Hk Jei Jdo Ym Zj Kx Ub Kcg Kb6 Kbw Kbn Br Iw Bd T2 Tw Sf Ln Gt E2 Jz
 intro hh hlt hsz hc ha
 obtain⟨u0,aE,aP⟩:=Jg9 (k:=Jz) (by kernel_rfl) hc ha
 obtain⟨hn,hv,hR,_,n1,n2,n3,hG,hV⟩:=Ld hh hc
 simp only[K7,List.length_cons,List.length_nil] at hn hv u0
 obtain⟨k0,u1⟩:=Jm u0
 obtain⟨k1,u2⟩:=Jm u1
 have f1:=Jsx (k1 rfl)
 have hs:Jw (Ko G) (n,Jz,ns,vs,tx)=(vs.getD 0 0,(Fy (Ko G) (n,Jz,ns,vs,tx)).2):=by simp only[Jw,doS,K7]
 simp only[aE,aP,hs,hc,ha,hG,H7,Jh7,Prod.eta]
 repeat' first|exact hV|exact hh|exact hR|exact hsz.2.2|apply And.intro|intro _
 all_goals first|trivial|omega|assumption|exact Nat.le_trans hR.nS (by decide)|exact Nat.le_trans hR.nO (by decide)|exact Nat.le_trans hR.nM (by decide)|exact Nat.le_trans hR.nX (by decide)|exact Nat.le_trans hR.nQ (by decide)|exact Nat.zero_le _|exact hsz.1|exact hsz.2.1|(rename_i h;have h:=of_decide_eq_true h;omega)|rfl|(rw[←Kw ‹_›];first|done|exact hR)|(rw[Kw ‹_›] at f1;exact f1)
def K4j (a:Int) (b:Ls) (c:Li) (d:Bt):=(Fx Vz (Z33 a b c d)).2
def K39 (a:Int) (b:Ls) (c:Li) (d:Bt):=(K4j a b c d).2
def K33 (a:Int) (b:Ls) (c:Li) (d:Bt):=(K39 a b c d).2
def K3q (a:Int) (b:Ls) (c:Li) (d:Bt):=(K33 a b c d).2
def Kcc (a:List Reg) (b:Int) (c:Ls) (d:Li) (e:Bt):=(Fx (Kx a) (Z33 b c d e)).2
def Kb0 (a:List Reg) (b:Int) (c:Ls) (d:Li) (e:Bt):=(Kcc a b c d e).2
def Kbo (a:List Reg) (b:Int) (c:Ls) (d:Li) (e:Bt):=(Kb0 a b c d e).2
def Kbk (a:List Reg) (b:Int) (c:Ls) (d:Li) (e:Bt):=(Kbo a b c d e).2
theorem Ji3:wpFO Tryz.prog W92.g (na ()) (fun _=>na ()) (Sx.look ([(75,Tryz.f75),(129,Tryz.f129)]:List (Nat×Func))) Tryz.f121 Jcu T (E,C,G) ((n,Jv,ns,vs,tx),()):=by
 refine(by kernel_rfl:(Kp (E,C,G)→Z45 E→Jbn (Z33 n ns vs tx)→Jd (Z33 n ns vs tx)=0→Jq9 E C G n ns vs tx=0→Jdo ns vs∧Br (Jd (Z33 n ns vs tx) !=0) (Sf true (Sf T ((E,C,G)=Vi (E,C,G) (Z33 n ns vs tx)∧Jd (Z33 n ns vs tx)=K3 (E,C,G) (Z33 n ns vs tx)))) ((Kp (E,C,G)∧Jd (Z33 n ns vs tx)=0)∧Br (Jq9 E C G n ns vs tx !=0) (Sf true (Sf T ((E,C,G)=Vi (E,C,G) (Z33 n ns vs tx)∧Jq9 E C G n ns vs tx=K3 (E,C,G) (Z33 n ns vs tx)))) (Jdp ns vs∧Jc0 E∧Br false (Z77 C∧Jei C G∧Sf true (Sf T ((E++[Z33 n ns vs tx],Jek C G)=Vi (E,C,G) (Z33 n ns vs tx)∧0=K3 (E,C,G) (Z33 n ns vs tx)))) (Br (Yc G) (Yb G∧Zj G∧J3n G ns vs∧K4 vs∧Fm C G∧Sf true (Sf T ((E++[Z33 n ns vs tx],C++[Z33 n ns vs tx],G++[(U8 vs,(Kcc G n ns vs tx).1,(Kb0 G n ns vs tx).1,(Kbo G n ns vs tx).1,(Kbk G n ns vs tx).1,E2 (Kbk G n ns vs tx).2)])=Vi (E,C,G) (Z33 n ns vs tx)∧0=K3 (E,C,G) (Z33 n ns vs tx)))) (Jel∧Kos ns vs∧K4 vs∧Fm C G∧Sf true (Sf T ((E++[Z33 n ns vs tx],C++[Z33 n ns vs tx],G++[(U8 vs,(K4j n ns vs tx).1,(K39 n ns vs tx).1,(K33 n ns vs tx).1,(K3q n ns vs tx).1,E2 (K3q n ns vs tx).2)])=Vi (E,C,G) (Z33 n ns vs tx)∧0=K3 (E,C,G) (Z33 n ns vs tx))))))))=_).mp ?_
 delta Z8 Z30 Z33 Z45 Z51 Z61 Z77 K4 U8 Yc F5 Da Xd Jq9 Jc0 Jgz Jdp Do Jel Vz Yb Y1 Jek Jhi Fm Fl K4j Jaw Fk K39 F4 K33 H5 K3q H4 Dn Hk Jei Jdo Kos Ym Zj Kx Ub Kcc Kb0 Kbo Kbk J3n Br Iw Bd T2 Tw Sf Ln Gt E2 Jv
 intro hh hlt hsz hc ha
 obtain⟨u0,aE,aP⟩:=Jg9 (k:=Jv) (by kernel_rfl) hc ha
 obtain⟨hn,hv,hR,_,n1,n2,n3,hG,hV⟩:=Ld hh hc
 simp only[Kt,List.length_cons,List.length_nil] at hn hv u0
 obtain⟨k0,u1⟩:=Jm u0
 have f0:=J47 (k0 rfl)
 have hs:Jw (Ko G) (n,Jv,ns,vs,tx)=(vs.getD 0 0,(Fx (Ko G) (n,Jv,ns,vs,tx)).2):=by simp only[Jw,doS,Kt]
 simp only[aE,aP,hs,hc,ha,hG,H7,Jh7,Prod.eta]
 repeat' first|exact hV|exact hh|exact hR|exact hsz.2.2|apply And.intro|intro _
 all_goals first|trivial|omega|assumption|exact Nat.le_trans hR.nS (by decide)|exact Nat.le_trans hR.nO (by decide)|exact Nat.le_trans hR.nM (by decide)|exact Nat.le_trans hR.nX (by decide)|exact Nat.le_trans hR.nQ (by decide)|exact Nat.zero_le _|exact hsz.1|exact hsz.2.1|(rename_i h;have h:=of_decide_eq_true h;omega)|rfl|(rw[←Kw ‹_›];first|done|exact hR)|(rw[Kw ‹_›] at f0;exact f0)
def K4t (a:Int) (b:Ls) (c:Li) (d:Bt):=(Fz Vz (Z25 a b c d)).2
def K4h (a:Int) (b:Ls) (c:Li) (d:Bt):=(K4t a b c d).2
def K37 (a:Int) (b:Ls) (c:Li) (d:Bt):=(K4h a b c d).2
def K3t (a:Int) (b:Ls) (c:Li) (d:Bt):=(K37 a b c d).2
def Kce (a:List Reg) (b:Int) (c:Ls) (d:Li) (e:Bt):=(Fz (Kx a) (Z25 b c d e)).2
def Kb7 (a:List Reg) (b:Int) (c:Ls) (d:Li) (e:Bt):=(Kce a b c d e).2
def Kbu (a:List Reg) (b:Int) (c:Ls) (d:Li) (e:Bt):=(Kb7 a b c d e).2
def Kbm (a:List Reg) (b:Int) (c:Ls) (d:Li) (e:Bt):=(Kbu a b c d e).2
theorem Jk6:wpFO Tryz.prog W92.g (na ()) (fun _=>na ()) (Sx.look ([(75,Tryz.f75),(129,Tryz.f129)]:List (Nat×Func))) Tryz.f121 Jcu T (E,C,G) ((n,Kh,ns,vs,tx),()):=by
 refine(by kernel_rfl:(Kp (E,C,G)→Z45 E→Jbn (Z25 n ns vs tx)→Jd (Z25 n ns vs tx)=0→Jrc E C G n ns vs tx=0→Jdo ns vs∧Br (Jd (Z25 n ns vs tx) !=0) (Sf true (Sf T ((E,C,G)=Vi (E,C,G) (Z25 n ns vs tx)∧Jd (Z25 n ns vs tx)=K3 (E,C,G) (Z25 n ns vs tx)))) ((Kp (E,C,G)∧Jd (Z25 n ns vs tx)=0)∧Br (Jrc E C G n ns vs tx !=0) (Sf true (Sf T ((E,C,G)=Vi (E,C,G) (Z25 n ns vs tx)∧Jrc E C G n ns vs tx=K3 (E,C,G) (Z25 n ns vs tx)))) (Jdp ns vs∧Jc0 E∧Br false (Z77 C∧Jei C G∧Sf true (Sf T ((E++[Z25 n ns vs tx],Jek C G)=Vi (E,C,G) (Z25 n ns vs tx)∧0=K3 (E,C,G) (Z25 n ns vs tx)))) (Br (Yc G) (Yb G∧Zj G∧(Ub G∧J0e ns)∧K4 vs∧Fm C G∧Sf true (Sf T ((E++[Z25 n ns vs tx],C++[Z25 n ns vs tx],G++[(U8 vs,(Kce G n ns vs tx).1,(Kb7 G n ns vs tx).1,(Kbu G n ns vs tx).1,(Kbm G n ns vs tx).1,E2 (Kbm G n ns vs tx).2)])=Vi (E,C,G) (Z25 n ns vs tx)∧0=K3 (E,C,G) (Z25 n ns vs tx)))) (Jel∧(Y1∧J0e ns)∧K4 vs∧Fm C G∧Sf true (Sf T ((E++[Z25 n ns vs tx],C++[Z25 n ns vs tx],G++[(U8 vs,(K4t n ns vs tx).1,(K4h n ns vs tx).1,(K37 n ns vs tx).1,(K3t n ns vs tx).1,E2 (K3t n ns vs tx).2)])=Vi (E,C,G) (Z25 n ns vs tx)∧0=K3 (E,C,G) (Z25 n ns vs tx))))))))=_).mp ?_
 delta Z8 Z25 Z30 Z45 Z61 Z77 K4 U8 Yc F5 J0e Jrc Jc0 Jgz Jdp Do Jel Vz Yb Y1 Jek Jhi Fm K4t Fl K4h Jaw Fk K37 F4 H5 K3t H4 Dn Hk Jei Jdo Ym Zj Kx Ub Kce Kb7 Kbu Kbm Br Iw Bd T2 Tw Sf Ln Gt E2 Kh
 intro hh hlt hsz hc ha
 obtain⟨u0,aE,aP⟩:=Jg9 (k:=Kh) (by kernel_rfl) hc ha
 obtain⟨hn,hv,hR,_,n1,n2,n3,hG,hV⟩:=Ld hh hc
 simp only[Ug,List.length_cons,List.length_nil] at hn hv u0
 obtain⟨k0,u1⟩:=Jm u0
 obtain⟨k1,u2⟩:=Jm u1
 have f1:=J47 (k1 rfl)
 have hs:Jw (Ko G) (n,Kh,ns,vs,tx)=(vs.getD 0 0,(Fz (Ko G) (n,Kh,ns,vs,tx)).2):=by simp only[Jw,doS,Ug]
 simp only[aE,aP,hs,hc,ha,hG,H7,Jh7,Prod.eta]
 repeat' first|exact hV|exact hh|exact hR|exact hsz.2.2|apply And.intro|intro _
 all_goals first|trivial|omega|assumption|exact Nat.le_trans hR.nS (by decide)|exact Nat.le_trans hR.nO (by decide)|exact Nat.le_trans hR.nM (by decide)|exact Nat.le_trans hR.nX (by decide)|exact Nat.le_trans hR.nQ (by decide)|exact Nat.zero_le _|exact hsz.1|exact hsz.2.1|(rename_i h;have h:=of_decide_eq_true h;omega)|rfl|(rw[←Kw ‹_›];first|done|exact hR)|(rw[Kw ‹_›] at f1;exact f1)
def K40 (a:Int) (b:Ls) (c:Li) (d:Bt):=(Jhf Vz (Z18 a b c d)).2
def K4k (a:Int) (b:Ls) (c:Li) (d:Bt):=(K40 a b c d).2
def K4b (a:Int) (b:Ls) (c:Li) (d:Bt):=(K4k a b c d).2
def K3w (a:Int) (b:Ls) (c:Li) (d:Bt):=(K4b a b c d).2
def Kcj (a:List Reg) (b:Int) (c:Ls) (d:Li) (e:Bt):=(Jhf (Kx a) (Z18 b c d e)).2
def Kb8 (a:List Reg) (b:Int) (c:Ls) (d:Li) (e:Bt):=(Kcj a b c d e).2
def Kby (a:List Reg) (b:Int) (c:Ls) (d:Li) (e:Bt):=(Kb8 a b c d e).2
def Kbp (a:List Reg) (b:Int) (c:Ls) (d:Li) (e:Bt):=(Kby a b c d e).2
theorem Jk5:wpFO Tryz.prog W92.g (na ()) (fun _=>na ()) (Sx.look ([(75,Tryz.f75),(129,Tryz.f129)]:List (Nat×Func))) Tryz.f121 Jcu T (E,C,G) ((n,Kg,ns,vs,tx),()):=by
 refine(by kernel_rfl:(Kp (E,C,G)→Z45 E→Jbn (Z18 n ns vs tx)→Jd (Z18 n ns vs tx)=0→Jrd E C G n ns vs tx=0→Jdo ns vs∧Br (Jd (Z18 n ns vs tx) !=0) (Sf true (Sf T ((E,C,G)=Vi (E,C,G) (Z18 n ns vs tx)∧Jd (Z18 n ns vs tx)=K3 (E,C,G) (Z18 n ns vs tx)))) ((Kp (E,C,G)∧Jd (Z18 n ns vs tx)=0)∧Br (Jrd E C G n ns vs tx !=0) (Sf true (Sf T ((E,C,G)=Vi (E,C,G) (Z18 n ns vs tx)∧Jrd E C G n ns vs tx=K3 (E,C,G) (Z18 n ns vs tx)))) (Jdp ns vs∧Jc0 E∧Br false (Z77 C∧Jei C G∧Sf true (Sf T ((E++[Z18 n ns vs tx],Jek C G)=Vi (E,C,G) (Z18 n ns vs tx)∧0=K3 (E,C,G) (Z18 n ns vs tx)))) (Br (Yc G) (Yb G∧Zj G∧J3p G ns∧K4 vs∧Fm C G∧Sf true (Sf T ((E++[Z18 n ns vs tx],C++[Z18 n ns vs tx],G++[(U8 vs,(Kcj G n ns vs tx).1,(Kb8 G n ns vs tx).1,(Kby G n ns vs tx).1,(Kbp G n ns vs tx).1,E2 (Kbp G n ns vs tx).2)])=Vi (E,C,G) (Z18 n ns vs tx)∧0=K3 (E,C,G) (Z18 n ns vs tx)))) (Jel∧Ko9 ns∧K4 vs∧Fm C G∧Sf true (Sf T ((E++[Z18 n ns vs tx],C++[Z18 n ns vs tx],G++[(U8 vs,(K40 n ns vs tx).1,(K4k n ns vs tx).1,(K4b n ns vs tx).1,(K3w n ns vs tx).1,E2 (K3w n ns vs tx).2)])=Vi (E,C,G) (Z18 n ns vs tx)∧0=K3 (E,C,G) (Z18 n ns vs tx))))))))=_).mp ?_
 delta Z8 Z18 Z30 Z45 Z61 Z77 K4 U8 Yc F5 Da Xd Jrd Jc0 Jgz Jdp Do Jel Vz Yb Y1 Jek Jhi Fm K40 Fl K4k Jaw K4b Fk F4 H5 K3w H4 Dn Hk Jei Jdo Ko9 Ym Zj Kx Ub Kcj Kb8 Kby Kbp J3p Br Iw Bd T2 Tw Sf Ln Gt E2 Kg
 intro hh hlt hsz hc ha
 obtain⟨u0,aE,aP⟩:=Jg9 (k:=Kg) (by kernel_rfl) hc ha
 obtain⟨hn,hv,hR,_,n1,n2,n3,hG,hV⟩:=Ld hh hc
 simp only[Uf,List.length_cons,List.length_nil] at hn hv u0
 obtain⟨k0,u1⟩:=Jm u0
 have f0:=Kn4 (k0 rfl)
 have hs:Jw (Ko G) (n,Kg,ns,vs,tx)=(vs.getD 0 0,(Jhf (Ko G) (n,Kg,ns,vs,tx)).2):=by simp only[Jw,doS,Uf]
 simp only[aE,aP,hs,hc,ha,hG,H7,Jh7,Prod.eta]
 repeat' first|exact hV|exact hh|exact hR|exact hsz.2.2|apply And.intro|intro _
 all_goals first|trivial|omega|assumption|exact Nat.le_trans hR.nS (by decide)|exact Nat.le_trans hR.nO (by decide)|exact Nat.le_trans hR.nM (by decide)|exact Nat.le_trans hR.nX (by decide)|exact Nat.le_trans hR.nQ (by decide)|exact Nat.zero_le _|exact hsz.1|exact hsz.2.1|(rename_i h;have h:=of_decide_eq_true h;omega)|rfl|(rw[←Kw ‹_›];first|done|exact hR)|(rw[Kw ‹_›] at f0;exact f0)
def K4u (a:Int) (b:Ls) (c:Li) (d:Bt):=(Jbp Vz (Z19 a b c d)).2
def K4i (a:Int) (b:Ls) (c:Li) (d:Bt):=(K4u a b c d).2
def K38 (a:Int) (b:Ls) (c:Li) (d:Bt):=(K4i a b c d).2
def K3v (a:Int) (b:Ls) (c:Li) (d:Bt):=(K38 a b c d).2
def Kcf (a:List Reg) (b:Int) (c:Ls) (d:Li) (e:Bt):=(Jbp (Kx a) (Z19 b c d e)).2
def Kb4 (a:List Reg) (b:Int) (c:Ls) (d:Li) (e:Bt):=(Kcf a b c d e).2
def Kbx (a:List Reg) (b:Int) (c:Ls) (d:Li) (e:Bt):=(Kb4 a b c d e).2
def Kbl (a:List Reg) (b:Int) (c:Ls) (d:Li) (e:Bt):=(Kbx a b c d e).2
theorem Jk4:wpFO Tryz.prog W92.g (na ()) (fun _=>na ()) (Sx.look ([(75,Tryz.f75),(129,Tryz.f129)]:List (Nat×Func))) Tryz.f121 Jcu T (E,C,G) ((n,Ji,ns,vs,tx),()):=by
 refine(by kernel_rfl:(Kp (E,C,G)→Z45 E→Jbn (Z19 n ns vs tx)→Jd (Z19 n ns vs tx)=0→Jpa E C G n ns vs tx=0→Jdo ns vs∧Br (Jd (Z19 n ns vs tx) !=0) (Sf true (Sf T ((E,C,G)=Vi (E,C,G) (Z19 n ns vs tx)∧Jd (Z19 n ns vs tx)=K3 (E,C,G) (Z19 n ns vs tx)))) ((Kp (E,C,G)∧Jd (Z19 n ns vs tx)=0)∧Br (Jpa E C G n ns vs tx !=0) (Sf true (Sf T ((E,C,G)=Vi (E,C,G) (Z19 n ns vs tx)∧Jpa E C G n ns vs tx=K3 (E,C,G) (Z19 n ns vs tx)))) (Jdp ns vs∧Jc0 E∧Br false (Z77 C∧Jei C G∧Sf true (Sf T ((E++[Z19 n ns vs tx],Jek C G)=Vi (E,C,G) (Z19 n ns vs tx)∧0=K3 (E,C,G) (Z19 n ns vs tx)))) (Br (Yc G) (Yb G∧Zj G∧Jtj G vs∧K4 vs∧Fm C G∧Sf true (Sf T ((E++[Z19 n ns vs tx],C++[Z19 n ns vs tx],G++[(U8 vs,(Kcf G n ns vs tx).1,(Kb4 G n ns vs tx).1,(Kbx G n ns vs tx).1,(Kbl G n ns vs tx).1,E2 (Kbl G n ns vs tx).2)])=Vi (E,C,G) (Z19 n ns vs tx)∧0=K3 (E,C,G) (Z19 n ns vs tx)))) (Jel∧Kfg vs∧K4 vs∧Fm C G∧Sf true (Sf T ((E++[Z19 n ns vs tx],C++[Z19 n ns vs tx],G++[(U8 vs,(K4u n ns vs tx).1,(K4i n ns vs tx).1,(K38 n ns vs tx).1,(K3v n ns vs tx).1,E2 (K3v n ns vs tx).2)])=Vi (E,C,G) (Z19 n ns vs tx)∧0=K3 (E,C,G) (Z19 n ns vs tx))))))))=_).mp ?_
 delta Z8 Z19 Z30 Z45 Z61 Z66 Z77 K4 U8 Yc F5 Jpa Jc0 Jgz Jdp Do Jel Vz Yb Y1 Jek Jhi Fm K4u Fl K4i Jaw Fk K38 Kfg F4 H5 K3v H4 Dn Hk Jei Jdo Ym Zj Kx Ub Kcf Kb4 Kbx Jtj Kbl Br Iw Bd T2 Tw Sf Ln Gt E2 Ji
 intro hh hlt hsz hc ha
 obtain⟨u0,aE,aP⟩:=Jg9 (k:=Ji) (by kernel_rfl) hc ha
 obtain⟨hn,hv,hR,_,n1,n2,n3,hG,hV⟩:=Ld hh hc
 simp only[Uw,List.length_cons,List.length_nil] at hn hv u0
 have hs:Jw (Ko G) (n,Ji,ns,vs,tx)=(vs.getD 0 0,(Jbp (Ko G) (n,Ji,ns,vs,tx)).2):=by simp only[Jw,doS,Uw]
 simp only[aE,aP,hs,hc,ha,hG,H7,Jh7,Prod.eta]
 repeat' first|exact hV|exact hh|exact hR|exact hsz.2.2|apply And.intro|intro _
 all_goals first|trivial|omega|assumption|exact Nat.le_trans hR.nS (by decide)|exact Nat.le_trans hR.nO (by decide)|exact Nat.le_trans hR.nM (by decide)|exact Nat.le_trans hR.nX (by decide)|exact Nat.le_trans hR.nQ (by decide)|exact Nat.zero_le _|exact hsz.1|exact hsz.2.1|(rename_i h;have h:=of_decide_eq_true h;omega)|rfl|(rw[←Kw ‹_›];first|done|exact hR)
abbrev GG:Gam:=[(64,Kjq),(130,X9.con Jqu),(81,J5h),(216,Jhh 127 De),(217,Jhh 130 Hj),(218,Jhh 155 Dm),(219,Jhh 188 X4),(220,Jhh 235 Zl)]
theorem gG:Y3 Tryz.prog GG:= .cons K8d (.cons Khz (.cons K8c (.cons Khy (.cons Khx (.cons Khw (.cons Khv (.cons Khu (.nil _))))))))
def Kjv:X9:={Kn6 with pre:=fun h (e,_)=>[Kp h,h.1.length<1000,Jbn e,¬(Jd e=0∧L9 h e=0)]}
theorem Jua (T:TypeId) (E C:List Ev) (G:List Reg) (n:Int) (k:ByteArray) (ns:List ByteArray) (vs:List Int) (tx:ByteArray):wpFO Tryz.prog GG (na ()) (fun _=>na ()) (Sx.look ([(75,Tryz.f75),(129,Tryz.f129)]:List (Nat×Func))) Tryz.f121 Kjv T (E,C,G) ((n,k,ns,vs,tx),()):=by
 refine(by kernel_rfl:(Kp (E,C,G)→Z45 E→Jbn (n,k,ns,vs,tx)→(Z75 n k ns vs tx=0∧L9 (E,C,G) (n,k,ns,vs,tx)=0→False)→Jdo ns vs∧Br (Z75 n k ns vs tx !=0) (Sf true (Sf T ((E,C,G)=Vi (E,C,G) (n,k,ns,vs,tx)∧Z75 n k ns vs tx=K3 (E,C,G) (n,k,ns,vs,tx)))) ((Kp (E,C,G)∧Z75 n k ns vs tx=0)∧Br (L9 (E,C,G) (n,k,ns,vs,tx) !=0) (Sf true (Sf T ((E,C,G)=Vi (E,C,G) (n,k,ns,vs,tx)∧L9 (E,C,G) (n,k,ns,vs,tx)=K3 (E,C,G) (n,k,ns,vs,tx)))) (Jdp ns vs∧Jc0 E∧Br (Lb k J1) (Z77 C∧Jei C G∧Sf true (Sf T ((E++[(n,k,ns,vs,tx)],Jek C G)=Vi (E,C,G) (n,k,ns,vs,tx)∧0=K3 (E,C,G) (n,k,ns,vs,tx)))) (Br (Yc G) (Yb G∧Zj G∧Jzl 777 1) (Jel∧Jzl 777 1)))))=_).mp ?_
 delta Z8 Z45 Z61 Z75 Z77 Yc F5 Jc0 Jgz Jdp Do Jel Vz Yb Jek Jhi Fl Fk H5 H4 Dn Hk Jei Jdo Zj Br Iw Bd T2 Tw Sf Ln Gt Lb J1
 intro hh hlt hsz hx
 have n1:E.length≤1000:=hh.nE
 have e1:Jd (n,k,ns,vs,tx)≠0→K3 (E,C,G) (n,k,ns,vs,tx)=Jd (n,k,ns,vs,tx):=fun h=>by unfold K3;rw[if_pos h]
 have e2:¬Jd (n,k,ns,vs,tx)≠0→K3 (E,C,G) (n,k,ns,vs,tx)=L9 (E,C,G) (n,k,ns,vs,tx):=fun h=>by unfold K3;rw[if_neg h]
 have e3:K3 (E,C,G) (n,k,ns,vs,tx)≠0→Vi (E,C,G) (n,k,ns,vs,tx)=(E,C,G):=fun h=>by unfold Vi;rw[if_neg h]
 refine⟨⟨hsz.1,hsz.2.1,hsz.2.2⟩,fun h=> ?_,fun h=>⟨⟨hh, ?_⟩,fun h2=> ?_,fun h2=> ?_⟩⟩
 ·have h:Jd (n,k,ns,vs,tx)≠0:=bne_iff_ne.1 h
  exact⟨rfl,rfl,(e3 (by rw[e1 h];exact h)).symm,(e1 h).symm⟩
 ·exact bne_eq_false_iff_eq.1 h
 ·have h:Jd (n,k,ns,vs,tx)=0:=bne_eq_false_iff_eq.1 h
  have h2:L9 (E,C,G) (n,k,ns,vs,tx)≠0:=bne_iff_ne.1 h2
  have e4:=e2 (by rw[h];simp)
  exact⟨rfl,rfl,(e3 (by rw[e4];exact h2)).symm,e4.symm⟩
 ·exact absurd ⟨bne_eq_false_iff_eq.1 h,bne_eq_false_iff_eq.1 h2⟩ hx
theorem Jvo {f:FuncId} {c:X9} {p1 p2:c.s.T→ATup c.args→List Prop} (h1:OkO Tryz.prog f {c with pre:=p1}) (h2:OkO Tryz.prog f {c with pre:=p2}) (h:∀x y,Up (c.pre x y)→Up (p1 x y)∨Up (p2 x y)):OkO Tryz.prog f c:=
 ⟨h1.1,fun x y M R B w b T cells vals vs hB hMR hg hw hBb hMb hRb hT ho hv hpre ha=>(h x y hpre).elim (fun q=>h1.2 x y M R B w b T cells vals vs hB hMR hg hw hBb hMb hRb hT ho hv q ha) fun q=>h2.2 x y M R B w b T cells vals vs hB hMR hg hw hBb hMb hRb hT ho hv q ha⟩
theorem Khj (T:TypeId):∀(x:J9) (y:ATup [aEv]),wpFO Tryz.prog W92.g (na ()) (fun _=>na ()) (Sx.look ([(75,Tryz.f75),(129,Tryz.f129)]:List (Nat×Func))) Tryz.f121 Jcu T x y
 |(E,C,G),((n,k,ns,vs,tx),())=>by
  refine Jix (by kernel_rfl) fun hp=> ?_
  have hc:Jd (n,k,ns,vs,tx)=0:=hp.2.2.2.1
  rcases Vl (K1 hc).kind with h|h|h|h|h|h|h|h|h|h|h<;>dsimp only at h<;>subst h
  ·exact Jrt T E C G n ns vs tx
  ·exact Ji2 T E C G n ns vs tx
  ·exact Jnm T E C G n ns vs tx
  ·exact Jnn T E C G n ns vs tx
  ·exact Jno T E C G n ns vs tx
  ·exact Jru T E C G n ns vs tx
  ·exact Jk7 T E C G n ns vs tx
  ·exact Ji3 T E C G n ns vs tx
  ·exact Jk6 T E C G n ns vs tx
  ·exact Jk5 T E C G n ns vs tx
  ·exact Jk4 T E C G n ns vs tx
theorem okK:OkO Tryz.prog 121 Jcu:=Ul mixed W92.ok (by kernel_rfl) (by kernel_rfl) (U6 (l:=([(75,Tryz.f75),(129,Tryz.f129)]:List (Nat×Func))) (List.forall_mem_cons.2 ⟨by kernel_rfl,List.forall_mem_cons.2 ⟨by kernel_rfl,by simp⟩⟩)) (fun _ _=>na ()) (fun _ _=>fun _=>na ()) fun T xx yy _=>Khj T xx yy
theorem okG:OkO Tryz.prog 121 Kjv:=Ul mixed gG (by kernel_rfl) (by kernel_rfl) (U6 (l:=([(75,Tryz.f75),(129,Tryz.f129)]:List (Nat×Func))) (List.forall_mem_cons.2 ⟨by kernel_rfl,List.forall_mem_cons.2 ⟨by kernel_rfl,by simp⟩⟩)) (fun _ _=>na ()) (fun _ _=>fun _=>na ()) fun T xx yy _=>Jua T xx.1 xx.2.1 xx.2.2 yy.1.1 yy.1.2.1 yy.1.2.2.1 yy.1.2.2.2.1 yy.1.2.2.2.2
theorem Kxy:Ok Tryz.prog 121 (X9.con Kn6):=Zd (Jvo (c:=Kn6) okK okG fun x y hp=>by
 by_cases h:Jd y.1=0∧L9 x y.1=0
 ·exact .inl ⟨hp.1,hp.2.1,hp.2.2,h.1,h.2⟩
 ·exact .inr ⟨hp.1,hp.2.1,hp.2.2,h⟩)
abbrev W93:=W92.add Kxy
theorem Yt {α:Type} {p:α→Bool} {m:List α}:∀{l:List α} {k:Nat},0≤Vt p l k→Vt p (l++m) k=Vt p l k
 |[],k,h=>by simp[Vt] at h
 | x :: l, k, h => by
  show(if p x=true then(k:Int) else Vt p (l++m) (k+1))=(if p x=true then(k:Int) else Vt p l (k+1))
  have h:0≤(if p x=true then(k:Int) else Vt p l (k+1)):=h
  by_cases hp:p x=true
  ·rw[if_pos hp,if_pos hp]
  ·rw[if_neg hp] at h
   rw[if_neg hp,if_neg hp,Yt h]
theorem D7 {α:Type} {p:α→Bool} {y:α}:∀{l:List α} {i k:Nat},(∀x,l[i]? =some x→p y=p x)→Vt p (l.set i y) k=Vt p l k
 |[],_,_,_=>rfl
 |x::l,0,k,h=>by
  have:=h x rfl
  simp only[List.set_cons_zero]
  unfold Vt
  rw[this]
 |x::l,i+1,k,h=>by
  simp only[List.set_cons_succ]
  unfold Vt
  rw[D7 fun z hz=>h z (by simpa using hz)]
theorem Jfu {α:Type} {l:List α} {i:Nat} {d x:α} (h:l[i]? =some x):l.getD i d=x:=by
 rw[List.getD_eq_getElem?_getD,h];rfl
theorem Jcf {α:Type} {l:List α} {i:Nat} {y x:α} (h:x∈l.set i y):x=y∨x∈l:=by
 rcases List.mem_or_eq_of_mem_set h with h|h
 ·exact .inr h
 ·exact .inl h
theorem V9 {α:Type} {l:List α} {y x:α} (h:x∈l++[y]):x∈l∨x=y:=by
 rcases List.mem_append.1 h with h|h
 ·exact .inl h
 ·exact .inr (by simpa using h)
theorem Yp {b:Bool} {c:Int} (hc:c≠0) (h:(bif b then c else 0)=0):b=false:=by
 cases b with
 |true=>exact absurd h hc
 |false=>rfl
theorem He {a b:Int} (h:Jg [a,b]=0):a=0∧b=0:=
 ⟨Uy.1 h _ (List.mem_cons_self ..),Uy.1 h _ (List.mem_cons_of_mem _ (List.mem_cons_self ..))⟩
theorem Jf1 {a b c:Int} (h:Jg [a,b,c]=0):a=0∧b=0∧c=0:=
 ⟨Uy.1 h _ (by simp),Uy.1 h _ (by simp),Uy.1 h _ (by simp)⟩
theorem Jaj {O:List Ord} {s:ByteArray} (h:0≤K0 O s):Xj O s∈O:=by
 have:=Ut (l:=O) (s:=s)
 exact Je (by omega)
theorem Jvn {X:List Out} {s:ByteArray} (h:0≤Kc X s):Df X s∈X:=by
 have:=Us (l:=X) (s:=s)
 exact Je (by omega)
theorem Jns {S:List Sta} {s:ByteArray} (h:0≤J6 S s):Hm S s∈S:=by
 have:=K8 (l:=S) (s:=s)
 exact Je (by omega)
theorem J60 {Q:List Per} {s:ByteArray} (h:0≤U5 Q s):Jm9 Q s∈Q:=by
 have:=U4 (l:=Q) (s:=s)
 exact Je (by omega)
theorem Jc2.mono {S S':List Sta} {x:Ord} (h:Jc2 S x) (hs:∀s,0≤J6 S s→0≤J6 S' s):Jc2 S' x:=⟨h.span,h.pow,h.pri,h.trip,hs _ h.fr,hs _ h.tu⟩
theorem Jpi.mono {S S':List Sta} {x:Out} (h:Jpi S x) (hs:∀s,0≤J6 S s→0≤J6 S' s):Jpi S' x:=⟨h.span,h.rest,hs _ h.sta⟩
section
variable {tk st v:Int} {S:List Sta} {O:List Ord} {M:List Met} {X:List Out} {Q:List Per} {n:Int} {k tx:ByteArray} {ns:List ByteArray} {vs:List Int}
theorem Jr1 (hr:Jn (tk,st,S,O,M,X,Q)) (hv:tk≤v∧v≤999999999) (hc:Jmp S vs=0) {a:ByteArray}:Jn (v,st,S++[(a,vs.getD 1 0,0)],O,M,X,Q):=by
 obtain⟨c1,c2⟩:=He hc
 have c1:=Yq.1 c1
 have c2:=of_decide_eq_false (Yp (by decide) c2)
 have hs:∀s,0≤J6 S s→0≤J6 (S++[(a,vs.getD 1 0,0)]) s:=fun s h=>by unfold J6 at h⊢;rw[Yt h];exact h
 have h0:=hr.tk
 have h1:=hr.st
 dsimp only at h0 h1
 refine⟨by dsimp only;omega,by dsimp only;omega,by dsimp only;rw[List.length_append,List.length_singleton];omega,hr.nO,hr.nM,hr.nX,hr.nQ,fun x hx=> ?_,fun x hx=>(hr.ord x hx).mono hs,hr.met,fun x hx=>(hr.out x hx).mono hs,hr.per,hr.done⟩
 rcases V9 hx with h|rfl
 ·exact hr.sta x h
 ·exact⟨c1,Int.le_refl 0,by show(0:Int)≤1000;decide⟩
theorem J0w (hr:Jn (tk,st,S,O,M,X,Q)) (hv:tk≤v∧v≤999999999) (hc:Joy vs=0) {a:ByteArray} (ha:0≤J6 S a):Jn (v,st,S.set (J6 S a).toNat ((Hm S a).1,(Hm S a).2.1,vs.getD 1 0),O,M,X,Q):=by
 have c1:=Yq.1 hc
 have hs:∀s,0≤J6 S s→0≤J6 (S.set (J6 S a).toNat ((Hm S a).1,(Hm S a).2.1,vs.getD 1 0)) s:=fun s h=>by
  unfold J6 at h⊢
  rw[D7 fun x hx=> ?_]
  ·exact h
  ·have:=Jfu (d:=Jnt) hx
   show((Hm S a).1.toList==s.toList)=_
   unfold Hm J6
   rw[this]
 have h0:=hr.tk
 have h1:=hr.st
 dsimp only at h0 h1
 refine⟨by dsimp only;omega,by dsimp only;omega,by rw[List.length_set];exact hr.nS,hr.nO,hr.nM,hr.nX,hr.nQ,fun x hx=> ?_,fun x hx=>(hr.ord x hx).mono hs,hr.met,fun x hx=>(hr.out x hx).mono hs,hr.per,hr.done⟩
 rcases Jcf hx with rfl|h
 ·exact⟨(hr.sta _ (Jns ha)).lim,c1⟩
 ·exact hr.sta x h
theorem J0y (hr:Jn (tk,st,S,O,M,X,Q)) (hv:tk≤v∧v≤999999999) (hm:M.length<10000) (ho:0≤K0 O (ns.getD 0 Jb)) (hb:∀i,i<4→0≤vs.getD i 0∧vs.getD i 0≤999999999) (hc:Jmq O M ns vs=0):Jn (v,st,S,O,M++[(ns.getD 0 Jb,vs.getD 1 0,vs.getD 2 0,vs.getD 3 0)],X,Q):=by
 have h5:=Yp (by decide) (Uy.1 hc _ (List.mem_cons_of_mem _ (List.mem_cons_of_mem _ (List.mem_cons_of_mem _ (List.mem_cons_of_mem _ (List.mem_cons_self ..))))))
 have h6:=bn1 h5
 have p1:=of_decide_eq_false h6.1
 have p2:=of_decide_eq_false h6.2
 have hp:1≤(Xj O (ns.getD 0 Jb)).2.2.2.2.1∧(Xj O (ns.getD 0 Jb)).2.2.2.2.1≤1000:=(hr.ord _ (Jaj ho)).pow
 have h0:=hr.tk
 have h1:=hr.st
 dsimp only at h0 h1
 have b1:=hb 1 (by omega)
 have b2:=hb 2 (by omega)
 have b3:=hb 3 (by omega)
 refine⟨by dsimp only;omega,by dsimp only;omega,hr.nS,hr.nO,by dsimp only;rw[List.length_append,List.length_singleton];omega,hr.nX,hr.nQ,hr.sta,hr.ord,fun x hx=> ?_,hr.out,hr.per,fun x hx h e1 e2=> ?_⟩
 ·rcases V9 hx with h|rfl
  ·exact hr.met x h
  ·exact⟨b1,⟨b2.1,by dsimp only;omega⟩,⟨b3.1,by dsimp only;omega⟩⟩
 ·have:=hr.done x hx h e1 e2
  unfold K6 at this⊢
  dsimp only at this⊢
  rw[Yt this];exact this
theorem Jpq {e:Ev} (hv:EvV e) (hl:e.2.2.2.1.length=4) (hc:Zu e=0):Jm5 (V0 e)∧e.2.2.2.1.getD 0 0≤(V0 e).1:=by
 have h:=Yp (by decide) hc
 have h1:=bn1 h
 have h2:=bn1 h1.1
 have e1:=of_decide_eq_false h2.1
 have e2:=of_decide_eq_false h2.2
 have e3:=of_decide_eq_false h1.2
 have v1:0≤(V0 e).1∧(V0 e).1≤999999999:=hv _ (Je (by omega))
 have v2:0≤(V0 e).2∧(V0 e).2≤999999999:=hv _ (Je (by omega))
 exact⟨⟨v1.1,by omega,v2.2,by omega⟩,by omega⟩
theorem J0x (hr:Jn (tk,st,S,O,M,X,Q)) (hv:tk≤v∧v≤999999999) (hvs:v=vs.getD 0 0) (hE:EvV (n,k,ns,vs,tx)) (hl:vs.length=4) (h1:0≤J6 S (ns.getD 1 Jb)) (h2:0≤J6 S (ns.getD 2 Jb)) (hc:Jct S O X (n,k,ns,vs,tx)=0):Jn (v,st,S,O++[(ns.getD 0 Jb,ns.getD 1 Jb,ns.getD 2 Jb,V0 (n,k,ns,vs,tx),vs.getD 3 0,(Hm S (ns.getD 1 Jb)).2.2,-1)],M,X,Q):=by
 have hk:¬Jik (n,k,ns,vs,tx)≠0:=fun h=>by unfold Jct at hc;rw[if_pos h] at hc;exact h hc
 unfold Jct at hc
 rw[if_neg hk] at hc
 obtain⟨c1,c2⟩:=He hc
 have c2:=of_decide_eq_false (Yp (by decide) c2)
 obtain⟨d1,d2,d3⟩:=Jf1 (show Jg [_,Zu (n,k,ns,vs,tx),Kr (vs.getD 3 0) 1 1000]=0 from Decidable.of_not_not hk)
 have d3:=Yq.1 d3
 obtain⟨sp,sv⟩:=Jpq hE hl d2
 have sv:vs.getD 0 0≤(V0 (n,k,ns,vs,tx)).1:=sv
 have g0:=hr.tk
 have g1:=hr.st
 dsimp only at g0 g1
 refine⟨by dsimp only;omega,by dsimp only;omega,hr.nS,by dsimp only;rw[List.length_append,List.length_singleton];omega,hr.nM,hr.nX,hr.nQ,hr.sta,fun x hx=> ?_,hr.met,hr.out,hr.per,fun x hx hh e1 e2=> ?_⟩
 ·rcases V9 hx with h|rfl
  ·exact hr.ord x h
  ·exact⟨sp,d3,(hr.sta _ (Jns h1)).pri,⟨Int.le_refl _,by show(-1:Int)≤999999999;decide⟩,h1,h2⟩
 ·rcases V9 hx with h|rfl
  ·exact hr.done x h hh e1 e2
  ·exfalso
   unfold Jr Ki at e1
   dsimp only at e1 e2
   cases h3:decide ((V0 (n,k,ns,vs,tx)).1≤hh) with
   |true=>have:=of_decide_eq_true h3;omega
   |false=>rw[h3] at e1;cases e1
theorem Jut (hr:Jn (tk,st,S,O,M,X,Q)) (hv:tk≤v∧v≤999999999) (hE:EvV (n,k,ns,vs,tx)) (hl:vs.length=4) (h1:0≤J6 S (ns.getD 1 Jb)) (hc:Jcs S O X (n,k,ns,vs,tx)=0):Jn (v,st,S,O,M,X++[(ns.getD 0 Jb,ns.getD 1 Jb,V0 (n,k,ns,vs,tx),vs.getD 3 0)],Q):=by
 have hk:¬Jij S (n,k,ns,vs,tx)≠0:=fun h=>by unfold Jcs at hc;rw[if_pos h] at hc;exact h hc
 unfold Jcs at hc
 rw[if_neg hk] at hc
 obtain⟨c1,c2⟩:=He hc
 have c2:=of_decide_eq_false (Yp (by decide) c2)
 obtain⟨d2,d3⟩:=He (show Jg [Zu (n,k,ns,vs,tx),bif decide ((Hm S (ns.getD 1 Jb)).2.1≤vs.getD 3 0) then 3 else 0]=0 from Decidable.of_not_not hk)
 have d3:=of_decide_eq_false (Yp (by decide) d3)
 obtain⟨sp,sv⟩:=Jpq hE hl d2
 have hl3:(Hm S (ns.getD 1 Jb)).2.1≤1000:=(hr.sta _ (Jns h1)).lim.2
 have v3:0≤vs.getD 3 0∧vs.getD 3 0≤999999999:=hE _ (Je (show 3<vs.length by omega))
 have hf:∀s,0≤Kc X s→0≤Kc (X++[(ns.getD 0 Jb,ns.getD 1 Jb,V0 (n,k,ns,vs,tx),vs.getD 3 0)]) s:=fun s h=>by unfold Kc at h⊢;rw[Yt h];exact h
 have g0:=hr.tk
 have g1:=hr.st
 dsimp only at g0 g1
 refine⟨by dsimp only;omega,by dsimp only;omega,hr.nS,hr.nO,hr.nM,by dsimp only;rw[List.length_append,List.length_singleton];omega,hr.nQ,hr.sta,hr.ord,hr.met,fun x hx=> ?_,fun x hx=>hf _ (hr.per x hx),hr.done⟩
 rcases V9 hx with h|rfl
 ·exact hr.out x h
 ·exact⟨sp,⟨v3.1,by dsimp only;omega⟩,h1⟩
theorem J6r (hr:Jn (tk,st,S,O,M,X,Q)) (hv:tk≤vs.getD 0 0∧vs.getD 0 0≤999999999) (ho:0≤K0 O (ns.getD 0 Jb)) (hc:Jdh O ns vs=0):Jn (vs.getD 0 0,st,S,Jad O (ns.getD 0 Jb) (vs.getD 0 0),M,X,Q):=by
 have h1:=bn1 (Yp (by decide) hc)
 have c1:(Xj O (ns.getD 0 Jb)).2.2.2.2.2.2= -1:=bne_eq_false_iff_eq.1 h1.1
 have hm:=Jaj ho
 have g0:=hr.tk
 have g1:=hr.st
 dsimp only at g0 g1
 have ox:Jc2 S (Xj O (ns.getD 0 Jb)):=hr.ord _ hm
 refine⟨by dsimp only;omega,by dsimp only;omega,hr.nS,by unfold Jad;rw[List.length_set];exact hr.nO,hr.nM,hr.nX,hr.nQ,hr.sta,fun x hx=> ?_,hr.met,hr.out,hr.per,fun x hx hh e1 e2=> ?_⟩
 ·rcases Jcf hx with rfl|h
  ·exact⟨ox.span,ox.pow,ox.pri,⟨by dsimp only;omega,hv.2⟩,ox.fr,ox.tu⟩
  ·exact hr.ord x h
 ·rcases Jcf hx with rfl|h
  ·refine hr.done _ hm hh ?_ e2
   unfold Jr at e1⊢
   rw[c1]
   have e1:(bif Ki (Xj O (ns.getD 0 Jb)).2.2.2.1 hh then _ else false)=true:=e1
   cases h3:Ki (Xj O (ns.getD 0 Jb)).2.2.2.1 hh with
   |true=>rfl
   |false=>rw[h3] at e1;cases e1
  ·exact hr.done x h hh e1 e2
theorem Jr2 (hr:Jn (tk,st,S,O,M,X,Q)) (hv:tk≤vs.getD 0 0∧vs.getD 0 0≤999999999) (ho:0≤Kc X (ns.getD 0 Jb)) (hc:Jdi X Q ns vs=0):Jn (vs.getD 0 0,st,S,O,M,Jex X (ns.getD 0 Jb) (vs.getD 0 0),Q):=by
 obtain⟨c1,c2,c3⟩:=Jf1 hc
 have c1:=of_decide_eq_false (Yp (by decide) c1)
 have c2:=of_decide_eq_false (Yp (by decide) c2)
 have hm:=Jvn ho
 have ox:Jpi S (Df X (ns.getD 0 Jb)):=hr.out _ hm
 have l1:=ox.span.lo
 have l2:=ox.span.len
 have g0:=hr.tk
 have g1:=hr.st
 dsimp only at g0 g1
 have hf:∀s,0≤Kc X s→0≤Kc (Jex X (ns.getD 0 Jb) (vs.getD 0 0)) s:=fun s h=>by
  unfold Jex
  unfold Kc at h⊢
  rw[D7 fun x hx=> ?_]
  ·exact h
  ·have:=Jfu (d:=Fi) hx
   show((Df X (ns.getD 0 Jb)).1.toList==s.toList)=_
   unfold Df Kc
   rw[this]
 refine⟨by dsimp only;omega,by dsimp only;omega,hr.nS,hr.nO,hr.nM,by unfold Jex;rw[List.length_set];exact hr.nX,hr.nQ,hr.sta,hr.ord,hr.met,fun x hx=> ?_,fun x hx=>hf _ (hr.per x hx),hr.done⟩
 rcases Jcf hx with rfl|h
 ·exact⟨⟨l1,by dsimp only;omega,hv.2,by dsimp only;omega⟩,ox.rest,ox.sta⟩
 ·exact hr.out x h
theorem Jus (hr:Jn (tk,st,S,O,M,X,Q)) (hv:tk≤v∧v≤999999999) (ho:0≤Kc X (ns.getD 1 Jb)) (hc:Jdj X Q ns vs=0):Jn (v,st,S,O,M,X,Q++[(ns.getD 0 Jb,ns.getD 1 Jb,true)]):=by
 have c2:=of_decide_eq_false (Yp (by decide) (He hc).2)
 have g0:=hr.tk
 have g1:=hr.st
 dsimp only at g0 g1
 refine⟨by dsimp only;omega,by dsimp only;omega,hr.nS,hr.nO,hr.nM,hr.nX,by dsimp only;rw[List.length_append,List.length_singleton];omega,hr.sta,hr.ord,hr.met,hr.out,fun x hx=> ?_,hr.done⟩
 rcases V9 hx with h|rfl
 ·exact hr.per x h
 ·exact ho
theorem Jur (hr:Jn (tk,st,S,O,M,X,Q)) (hv:tk≤v∧v≤999999999) {a:ByteArray} (ho:0≤U5 Q a):Jn (v,st,S,O,M,X,Jae Q a):=by
 have g0:=hr.tk
 have g1:=hr.st
 dsimp only at g0 g1
 refine⟨by dsimp only;omega,by dsimp only;omega,hr.nS,hr.nO,hr.nM,hr.nX,by unfold Jae;rw[List.length_set];exact hr.nQ,hr.sta,hr.ord,hr.met,hr.out,fun x hx=> ?_,hr.done⟩
 rcases Jcf hx with rfl|h
 ·exact hr.per (Jm9 Q a) (J60 ho)
 ·exact hr.per x h
theorem Jl2 {u:Int} {x:Ord}:∀{m:Nat} {a:Int},Dg M u x a m=[]→∀h,a≤h→h<a+m→(Jr x h&&(decide (h<u)&&decide (K6 M x.1 h<0)))=false
 |0,a,_,h,h1,h2=>by omega
 | m + 1, a, e, h, h1, h2 => by
  unfold Dg at e
  obtain⟨e1,e2⟩:=List.append_eq_nil_iff.1 e
  by_cases ha:h=a
  ·subst ha
   cases hb:Jr x h&&(decide (h<u)&&decide (K6 M x.1 h<0)) with
   |false=>rfl
   |true=>rw[hb] at e1;cases e1
  ·exact Jl2 e2 h (by omega) (by push_cast at h2;omega)
theorem Jl1 {u:Int}:∀{O:List Ord},J4 M u O=[]→∀x∈O,Jvu M u x=[]
 |[],_,x,hx=>by cases hx
 |y::l,e,x,hx=>by
  unfold J4 at e
  obtain⟨e1,e2⟩:=List.append_eq_nil_iff.1 e
  rcases List.mem_cons.1 hx with rfl|hx
  ·exact e1
  ·exact Jl1 e2 x hx
theorem Jw0 {x:Ord} {h:Int} (e:Jr x h=true):x.2.2.2.1.1≤h∧h<x.2.2.2.1.2:=by
 unfold Jr Ki at e
 cases h1:decide (x.2.2.2.1.1≤h) with
 |false=>rw[h1] at e;cases e
 |true=>
  cases h2:decide (h<x.2.2.2.1.2) with
  |false=>rw[h1,h2] at e;cases e
  |true=>exact⟨of_decide_eq_true h1,of_decide_eq_true h2⟩
theorem Juq (hr:Jn (tk,st,S,O,M,X,Q)) (hv:tk≤vs.getD 0 0∧vs.getD 0 0≤999999999) (hc:L6 st O M X Q vs=0):Jn (vs.getD 0 0,vs.getD 1 0,S,O,M,X,Q):=by
 unfold L6 at hc
 cases h1:(bif decide (vs.getD 1 0≤st) then true else decide (vs.getD 0 0<vs.getD 1 0)) with
 |true=>rw[h1] at hc;cases hc
 |false=>
  rw[h1,cond_false] at hc
  have h2:=bn1 h1
  have d1:=of_decide_eq_false h2.1
  have d2:=of_decide_eq_false h2.2
  have h3:=of_decide_eq_false (bn1 (Yp (by decide) hc)).1
  have h4:J4 M (vs.getD 1 0) O=[]:=List.eq_nil_of_length_eq_zero (by omega)
  have g0:=hr.tk
  have g1:=hr.st
  dsimp only at g0 g1
  refine⟨by dsimp only;omega,by dsimp only;omega,hr.nS,hr.nO,hr.nM,hr.nX,hr.nQ,hr.sta,hr.ord,hr.met,hr.out,hr.per,fun x hx hh e1 e2=> ?_⟩
  have hi:=Jw0 e1
  have h5:=Jl2 (Jl1 h4 x hx) hh hi.1 (by omega)
  have e2:hh<vs.getD 1 0:=e2
  rw[e1,decide_eq_true e2,Bool.true_and,Bool.true_and] at h5
  have:=of_decide_eq_false h5
  show 0≤K6 M x.1 hh
  omega
end
theorem J6o {h:J9} {e:Ev} (hh:Kp h) (hm:(Ko h.2.2).2.2.2.2.1.length<10000) (hc:Jd e=0) (ha:L9 h e=0) (hk:(e.2.1.toList==J1.toList)=false):Jn (Jw (Ko h.2.2) e):=by
 obtain⟨n,k,ns,vs,tx⟩:=e
 have hE:=K1 hc
 have eK:=Xa (h:=h) (n:=n) (k:=k) (ns:=ns) (vs:=vs) (tx:=tx) hk
 rw[ha] at eK
 obtain⟨_,z2,z3,z4,z5⟩:=Jb1 eK.symm
 have hr:=Fq hh
 clear eK ha z4
 generalize Ko h.2.2=r at*
 obtain⟨tk,st,S,O,M,X,Q⟩:=r
 have z2:¬vs.getD 0 0<tk:=z2
 have hm:M.length<10000:=hm
 have hn:ns.length=(Jh k).1.length:=hE.nn
 have hvl:(vs.length:Int)=(Jh k).2.1:=hE.nv
 have hx:∀i,i<vs.length→(0≤vs.getD i 0∧vs.getD i 0≤999999999):=fun i hi=>hE.val _ (Je hi)
 have hV:EvV (n,k,ns,vs,tx):=hE.val
 have hkd:=Vl hE.kind
 dsimp only at hkd hk
 clear hE hc hh
 rcases hkd with h|h|h|h|h|h|h|h|h|h|h<;>subst h
 ·exact absurd hk (by rw[show(J1.toList==J1.toList)=true from by kernel_rfl];decide)
 ·simp only[Ui,List.length_cons,List.length_nil] at hn hvl z3
  simp only[ckS,Ui] at z5
  obtain⟨k0,z3⟩:=Jm z3
  have e:Jw (tk,st,S,O,M,X,Q) (n,Jy,ns,vs,tx)=(vs.getD 0 0,(Jbq (tk,st,S,O,M,X,Q) (n,Jy,ns,vs,tx)).2):=by unfold Jw doS;simp only[Ui]
  rw[e]
  have hv:tk≤vs.getD 0 0∧vs.getD 0 0≤999999999:=⟨by omega,(hx 0 (by omega)).2⟩
  exact Jr1 hr hv z5
 ·simp only[Vj,List.length_cons,List.length_nil] at hn hvl z3
  simp only[ckS,Vj] at z5
  obtain⟨k0,z3⟩:=Jm z3
  have e:Jw (tk,st,S,O,M,X,Q) (n,Ue,ns,vs,tx)=(vs.getD 0 0,(Fw (tk,st,S,O,M,X,Q) (n,Ue,ns,vs,tx)).2):=by unfold Jw doS;simp only[Vj]
  rw[e]
  have hv:tk≤vs.getD 0 0∧vs.getD 0 0≤999999999:=⟨by omega,(hx 0 (by omega)).2⟩
  exact J0w hr hv z5 (Jsx (k0 rfl))
 ·simp only[U1,List.length_cons,List.length_nil] at hn hvl z3
  simp only[ckS,U1] at z5
  obtain⟨k0,z3⟩:=Jm z3
  obtain⟨k1,z3⟩:=Jm z3
  obtain⟨k2,z3⟩:=Jm z3
  have e:Jw (tk,st,S,O,M,X,Q) (n,Ku,ns,vs,tx)=(vs.getD 0 0,(F0 (tk,st,S,O,M,X,Q) (n,Ku,ns,vs,tx)).2):=by unfold Jw doS;simp only[U1]
  rw[e]
  have hv:tk≤vs.getD 0 0∧vs.getD 0 0≤999999999:=⟨by omega,(hx 0 (by omega)).2⟩
  exact J0x hr hv rfl hV (by omega) (Jsx (k1 rfl)) (Jsx (k2 rfl)) z5
 ·simp only[U2,List.length_cons,List.length_nil] at hn hvl z3
  simp only[ckS,U2] at z5
  obtain⟨k0,z3⟩:=Jm z3
  have e:Jw (tk,st,S,O,M,X,Q) (n,Uc,ns,vs,tx)=(vs.getD 0 0,(F1 (tk,st,S,O,M,X,Q) (n,Uc,ns,vs,tx)).2):=by unfold Jw doS;simp only[U2]
  rw[e]
  have hv:tk≤vs.getD 0 0∧vs.getD 0 0≤999999999:=⟨by omega,(hx 0 (by omega)).2⟩
  exact J0y hr hv hm (J48 (k0 rfl)) (fun i hi=>hx i (by omega)) z5
 ·simp only[Vw,List.length_cons,List.length_nil] at hn hvl z3
  simp only[ckS,Vw] at z5
  obtain⟨k0,z3⟩:=Jm z3
  have e:Jw (tk,st,S,O,M,X,Q) (n,Vq,ns,vs,tx)=(vs.getD 0 0,(Fv (tk,st,S,O,M,X,Q) (n,Vq,ns,vs,tx)).2):=by unfold Jw doS;simp only[Vw]
  rw[e]
  have hv:tk≤vs.getD 0 0∧vs.getD 0 0≤999999999:=⟨by omega,(hx 0 (by omega)).2⟩
  exact J6r hr hv (J48 (k0 rfl)) z5
 ·simp only[K7,List.length_cons,List.length_nil] at hn hvl z3
  simp only[ckS,K7] at z5
  obtain⟨k0,z3⟩:=Jm z3
  obtain⟨k1,z3⟩:=Jm z3
  have e:Jw (tk,st,S,O,M,X,Q) (n,Jz,ns,vs,tx)=(vs.getD 0 0,(Fy (tk,st,S,O,M,X,Q) (n,Jz,ns,vs,tx)).2):=by unfold Jw doS;simp only[K7]
  rw[e]
  have hv:tk≤vs.getD 0 0∧vs.getD 0 0≤999999999:=⟨by omega,(hx 0 (by omega)).2⟩
  exact Jut hr hv hV (by omega) (Jsx (k1 rfl)) z5
 ·simp only[Kt,List.length_cons,List.length_nil] at hn hvl z3
  simp only[ckS,Kt] at z5
  obtain⟨k0,z3⟩:=Jm z3
  have e:Jw (tk,st,S,O,M,X,Q) (n,Jv,ns,vs,tx)=(vs.getD 0 0,(Fx (tk,st,S,O,M,X,Q) (n,Jv,ns,vs,tx)).2):=by unfold Jw doS;simp only[Kt]
  rw[e]
  have hv:tk≤vs.getD 0 0∧vs.getD 0 0≤999999999:=⟨by omega,(hx 0 (by omega)).2⟩
  exact Jr2 hr hv (J47 (k0 rfl)) z5
 ·simp only[Ug,List.length_cons,List.length_nil] at hn hvl z3
  simp only[ckS,Ug] at z5
  obtain⟨k0,z3⟩:=Jm z3
  obtain⟨k1,z3⟩:=Jm z3
  have e:Jw (tk,st,S,O,M,X,Q) (n,Kh,ns,vs,tx)=(vs.getD 0 0,(Fz (tk,st,S,O,M,X,Q) (n,Kh,ns,vs,tx)).2):=by unfold Jw doS;simp only[Ug]
  rw[e]
  have hv:tk≤vs.getD 0 0∧vs.getD 0 0≤999999999:=⟨by omega,(hx 0 (by omega)).2⟩
  exact Jus hr hv (J47 (k1 rfl)) z5
 ·simp only[Uf,List.length_cons,List.length_nil] at hn hvl z3
  simp only[ckS,Uf] at z5
  obtain⟨k0,z3⟩:=Jm z3
  have e:Jw (tk,st,S,O,M,X,Q) (n,Kg,ns,vs,tx)=(vs.getD 0 0,(Jhf (tk,st,S,O,M,X,Q) (n,Kg,ns,vs,tx)).2):=by unfold Jw doS;simp only[Uf]
  rw[e]
  have hv:tk≤vs.getD 0 0∧vs.getD 0 0≤999999999:=⟨by omega,(hx 0 (by omega)).2⟩
  exact Jur hr hv (Kn4 (k0 rfl))
 ·simp only[Uw,List.length_cons,List.length_nil] at hn hvl z3
  simp only[ckS,Uw] at z5
  have e:Jw (tk,st,S,O,M,X,Q) (n,Ji,ns,vs,tx)=(vs.getD 0 0,(Jbp (tk,st,S,O,M,X,Q) (n,Ji,ns,vs,tx)).2):=by unfold Jw doS;simp only[Uw]
  rw[e]
  have hv:tk≤vs.getD 0 0∧vs.getD 0 0≤999999999:=⟨by omega,(hx 0 (by omega)).2⟩
  exact Juq hr hv z5
theorem J7r {r:Reg} {e:Ev}:(doS r e).2.2.2.2.1.length≤r.2.2.2.2.1.length+1:=by
 obtain⟨tk,st,S,O,M,X,Q⟩:=r
 obtain⟨n,k,ns,vs,tx⟩:=e
 unfold doS
 split<;>first|exact Nat.le_succ _|(show(M++[_]).length≤M.length+1;simp)
structure Vs (h:J9):Prop where
 ok:Kp h
 met:∀r∈h.2.2,r.2.2.2.2.1.length≤h.1.length
theorem Jvr {h:J9} (hi:Vs h):(Ko h.2.2).2.2.2.2.1.length≤h.1.length:=by
 unfold Ko
 by_cases h0:0<h.2.2.length
 ·exact hi.met _ (Je (by omega))
 ·have:h.2.2=[]:=List.eq_nil_of_length_eq_zero (by omega)
  rw[this];exact Nat.zero_le _
theorem add_zero {h:J9} {e:Ev} (ha:K3 h e=0):Jd e=0∧L9 h e=0:=by
 unfold K3 at ha
 by_cases hc:Jd e≠0
 ·rw[if_pos hc] at ha;exact absurd ha hc
 ·rw[if_neg hc] at ha;exact⟨Decidable.of_not_not hc,ha⟩
theorem Jb0 {h:J9} {e:Ev} (hi:Vs h) (hl:h.1.length<1000) (ha:K3 h e=0):Vs (Ho h e):=by
 obtain⟨hc,hacc⟩:=add_zero ha
 obtain⟨E,C,G⟩:=h
 obtain⟨n1,n2,n3,hr⟩:=hi.ok
 have hm:=Jvr hi
 dsimp only at n1 n2 n3 hr hl hm
 cases hk:e.2.1.toList==J1.toList with
 |true=>
  unfold Ho
  rw[hk,cond_true]
  refine⟨⟨by simp;omega,by simp;omega,by simp;omega,fun r hx=>hr r (List.mem_of_mem_take hx)⟩,fun r hx=> ?_⟩
  have:r.2.2.2.2.1.length≤E.length:=hi.met r (List.mem_of_mem_take hx)
  simp only[List.length_append,List.length_singleton]
  omega
 | false =>
  have hs:=J6o hi.ok (Nat.lt_of_le_of_lt hm (by omega)) hc hacc hk
  unfold Ho
  rw[hk,cond_false]
  refine⟨⟨by simp;omega,by simp;omega,by simp;omega,fun r hx=> ?_⟩,fun r hx=> ?_⟩
  ·rcases V9 hx with h|rfl
   ·exact hr r h
   ·exact hs
  ·rcases V9 hx with h|rfl
   ·have:r.2.2.2.2.1.length≤E.length:=hi.met r h
    simp only[List.length_append,List.length_singleton]
    omega
   ·have:=J7r (r:=Ko G) (e:=e)
    simp only[List.length_append,List.length_singleton]
    show(doS (Ko G) e).2.2.2.2.1.length≤_
    omega
theorem Xy {h:J9} {e:Ev}:(Ho h e).1.length=h.1.length+1:=by
 unfold Ho
 cases e.2.1.toList==J1.toList<;>simp
def Y7:J9:=([],[],[])
theorem Xx:Vs Y7:=⟨⟨by decide,by decide,rfl,fun _ h=>(by cases h)⟩,fun _ h=>(by cases h)⟩
def Zm:J9→List Ev→J9×Int×Int
 |h,[]=>(h,0,0)
 |h,e::l=>if K3 h e=0 then Zm (Ho h e) l else(h,h.1.length+1,K3 h e)
def Ja (l:List Ev):J9×Int×Int:=if 1000<l.length then(Y7,0,5) else Zm Y7 l
def J7 (l:List Ev):Reg:=if(Ja l).2.2=0 then Ko (Ja l).1.2.2 else Xg
def lOk (l:List Ev):Prop:=l.length≤1000000∧∀e∈l,Jbn e
abbrev J4m:List SC:=[.int .i64 0, .int .i64 0, .val (.slice none 0 0), .val (.slice none 0 0), .val (.slice none 0 0), .val (.slice none 0 0), .val (.slice none 0 0)]
abbrev W94:=W93
def Uc6:Con:={args:=[aS, .ref 105 Jkq],ress:=[I],owns:=[],pre:=fun(_,r,_)=>[Jn r],spec:=fun(s,r,_)=>(bif !Ye r 0 s then 10 else 0,())}
theorem Kxj:Ok Tryz.prog 139 Uc6:=okW W94 Tryz.f139 na fun xx=>by
 obtain⟨(s:ByteArray),⟨(tk:Int),(st:Int),(S:List Sta),(O:List Ord),(M:List Met),(X:List Out),(Q:List Per)⟩,_⟩:=xx
 refine(by kernel_rfl:(Ju tk st S O M X Q→Ju tk st S O M X Q∧(bif !Ye (Z72 tk st S O M X Q) (0:Int) s then(10:Int) else(0:Int))=bif !Ye (Z72 tk st S O M X Q) (0:Int) s then(10:Int) else(0:Int))=_).mp ?_
 delta Z72 Ju
 intro hr
 exact⟨hr,rfl⟩
abbrev W95:=W94.add Kxj
def opE (l:List Ev) (ns:List ByteArray):Int:=if(Ja l).2.2=0 then Jg (ns.map fun s=>bif !Ye (J7 l) 0 s then 10 else 0) else(Ja l).2.2
def Ky4:Con:={args:=[.val false (.list 67 sEv), .val false (.list 9 .str)],ress:=[(true,Jkq),I],owns:=[],pre:=fun(l,ns,_)=>[lOk l,ns.length≤1000000],spec:=fun(l,ns,_)=>(J7 l,opE l ns,())}
abbrev J8y (l:List Ev) (ns:List ByteArray):Ann:={X:=J9×Nat,σ:=fun(h,k)=>⟨9,[(5, .one (.ptr 4 0)),(14, .one (.sl 0)),(15, .one (.int .i64 l.length)),(16, .one (.int .i64 k))],[(0, .imm 67 sEv l),(1, .imm 9 .str ns),(2, .box 105 J4m),(3, .sus [(1, .one (.sl 1)),(4, .one (.ptr 2 0))]),(4, .box 167 [.sl 6, .sl 7, .sl 8]),(6, .own 67 sEv h.1),(7, .own 67 sEv h.2.1),(8, .own 105 Jkq h.2.2)]⟩,inv:=fun(h,k)=>Vs h∧h.1.length=k∧k≤l.length∧l.length≤1000∧Zm h (l.drop k)=Ja l,mu:=fun(_,k)=>l.length-k}
def Z34 (a:J9×Nat) (b:List Ev):=Bd (Nc a.2) (Ln b)
def Z50 (a:J9×Nat):=Iw (Nc a.2+1)
def Jpb (a:J9×Nat) (b:(List Ev×List Ev×List Reg)×Nat):=Nc a.2+1=Nc b.2
def Vh:=Value.slice none 0 0
def Jm1 (a:J9×Nat):=(a.1.1,E2 a.1.2)
def J93 (a:J9×Nat):=Kp (Jm1 a)
def Kf6 (a:List Ev) (b:J9×Nat):=List.getD a b.2 Di
def Kf5 (a:List Ev) (b:J9×Nat):=(Kf6 a b).2
def J5w (a:List Ev) (b:J9×Nat):=(Kf5 a b).2
def Jtv (a:List Ev):=Vz=J7 a
def Kfk (a:(List Ev×List Ev×List Reg)×Nat):=List.length a.1.1=0∧List.length a.1.2.1=0∧List.length a.1.2.2=0
def Kq9 (a:Bt):= !Ye Vz 0 a
def K3e (a:J9×Nat):=Gt a.1.2.2 (Ln a.1.2.2-1) Vz
def K3c (a:J9×Nat):=(K3e a).2
def Klr (a:(List Ev×List Ev×List Reg)×Nat) (b:List Ev):=List.length a.1.1=a.2∧a.2≤List.length b∧List.length b≤1000∧Zm a.1 (List.drop a.2 b)=Ja b
def Klq (a:J9×Nat) (b:List Ev):=List.length a.1.1=a.2∧a.2≤List.length b∧List.length b≤1000∧Zm a.1 (List.drop a.2 b)=Ja b
def K28 (a:J9×Nat):=(K3c a).2
def K26 (a:J9×Nat):=(K28 a).2
def K24 (a:J9×Nat):=(K26 a).2
def Kpu (a:J9×Nat) (b:List Ev):=Vs a.1∧Klq a b
def Klk (a:(List Ev×List Ev×List Reg)×Nat) (b:List Ev):=Vs a.1∧Klr a b
def K1l (a:Ls):=List.map (fun(x:ByteArray)=>match Kq9 x with|true=>(10:Int)|false=>(0:Int)) a
def Ko3 (a:(List Ev×List Ev×List Reg)×Nat) (b:List Ev) (c:J9×Nat):=Klk a b∧List.length b-a.2<List.length b-c.2
def Jhl (a:List Ev) (b:J9×Nat):=((Kf6 a b).1,(Kf5 a b).1,(J5w a b).1,E2 (J5w a b).2)
def Jtk (a:J9×Nat) (b:List Ev):=K3 (Jm1 a) (Jhl b a)
def J4a (a:J9×Nat) (b:List Ev):=Vi (Jm1 a) (Jhl b a)
def J38 (a:J9×Nat) (b:List Ev):=(J4a a b).2
def J35 (a:J9×Nat) (b:List Ev):=J93 a∧List.length a.1.1<1000∧Jbn (Jhl b a)
def Jzb (a:J9×Nat) (b:List Ev):=Jtk a b !=0
def J3s (a:J9×Nat):=((K3e a).1,(K3c a).1,(K28 a).1,(K26 a).1,(K24 a).1,E2 (K24 a).2)
def Kbd (a:J9×Nat) (b:Ls):=List.map (fun(x:ByteArray)=>match !Ye (J3s a) (0:Int) x with|true=>(10:Int)|false=>(0:Int)) b
def J3m (a:J9×Nat) (b:List Ev) (c:(List Ev×List Ev×List Reg)×Nat):=(J4a a b).1=c.1.1∧(J38 a b).1=c.1.2.1∧(J38 a b).2=c.1.2.2
theorem Ub7:Ok Tryz.prog 68 Ky4:=J1g W95 Tryz.f68 (U6 (l:=([(74,Tryz.f74),(75,Tryz.f75)]:List (Nat×Func))) (List.forall_mem_cons.2 ⟨by kernel_rfl,List.forall_mem_cons.2 ⟨by kernel_rfl,by simp⟩⟩)) (fun xx=>na ()) (fun xx=>fun f id=>if f=74 then some (J8y xx.1 xx.2.1) else none) fun xx=>by
 obtain⟨(l:List Ev),(ns:List ByteArray),_⟩:=xx
 refine(by kernel_rfl:(lOk l→F5 ns→Br (decide (1000<Ln l)) (Br true (Sf true (Jtv l∧5=opE l ns)) False) (∃(x:(List Ev×List Ev×List Reg)×Nat),Si (Ln l) (0=Nc x.2∧Sf l (Sf ns (Si 0 (Si 0 (Sf Vh (Sf Vh (Sf Vh (Sf Vh (Sf Vh (Kfk x))))))))))∧Klk x l∧∀(x:J9×Nat),Kpu x l→Br (decide (Nc x.2<Ln l)) (Tw (Z34 x l)∧J35 x l∧Br (Jzb x l) (Z50 x∧Br (Jzb x l) (Sf true (Jtv l∧Jtk x l=opE l ns)) False) (Z50 x∧∃(y:(List Ev×List Ev×List Reg)×Nat),Si (Ln l) (Jpb x y∧Sf l (Sf ns (Si 0 (Si 0 (Sf Vh (Sf Vh (Sf Vh (Sf Vh (Sf Vh (J3m x l y))))))))))∧Ko3 y l x)) (Br false (Sf true (Jtv l∧0=opE l ns)) (Br (decide (0<Ln x.1.2.2)) ((Iw (Ln x.1.2.2-1)∧Tw (Bd (Ln x.1.2.2-1) (Ln x.1.2.2)))∧(F5 ns∧(∀(x_1:ByteArray),Jgz ns x_1→Jn (J3s x))∧List.length (Kbd x ns)≤1000000)∧Sf true (J3s x=J7 l∧Jg (Kbd x ns)=opE l ns)) ((F5 ns∧(∀(x:ByteArray),Jgz ns x→Y1)∧List.length (K1l ns)≤1000000)∧Sf true (Jtv l∧Jg (K1l ns)=opE l ns))))))=_).mp ?_
 delta Z34 Z50 F5 Jpb Vh Jm1 Di J93 Jgz Kf6 Kf5 J5w Do Vz Y1 Jtv Kfk Kq9 K3e K3c Klr Klq K28 K26 K24 Kpu Klk K1l Ko3 Jhl Jtk J4a J38 J35 Jzb J3s Kbd J3m Br Iw Bd Tw Sf Si Ln Nc Gt B0 E2
 intro hl hns
 refine⟨fun h=> ?_,fun h=> ?_⟩
 ·have e:Ja l=(Y7,0,5):=by unfold Ja;rw[if_pos (by have:=of_decide_eq_true h;omega)]
  refine⟨fun _=>⟨rfl, ?_, ?_⟩,fun h=>by cases h⟩
  ·unfold J7;rw[e];rfl
  ·unfold opE;rw[e];rfl
 have hn:l.length≤1000:=by have:=of_decide_eq_false h;omega
 have e0:Ja l=Zm Y7 l:=by unfold Ja;rw[if_neg (by omega)]
 refine⟨(Y7,(0:Nat)),⟨rfl,rfl,rfl,rfl,rfl,rfl,rfl,rfl,rfl,rfl,rfl,rfl,rfl,rfl⟩,⟨Xx,rfl,Nat.zero_le _,hn,e0.symm⟩,fun(x:J9×Nat) hx=>⟨fun h1=> ?_,fun h1=> ?_⟩⟩
 ·obtain⟨g,k⟩:=x
  obtain⟨hi,hk,hk2,_,hrun⟩:=hx
  dsimp only at hi hk hk2 hrun
  have hlt:k<l.length:=by simpa using h1
  rw[Jq (d:=ev0) hlt,Zm] at hrun
  have hz:=hl.2 _ (Je (d:=ev0) hlt)
  refine⟨⟨⟨by dsimp only;omega,by dsimp only;omega⟩,by dsimp only;omega,by dsimp only;omega⟩,⟨hi.ok,by show g.1.length<1000;omega,hz⟩,fun h2=>⟨by dsimp only;omega,fun h3=> ?_,fun h3=> ?_⟩,fun h2=>⟨by dsimp only;omega,(Ho g (l.getD k ev0),k+1), ?_,⟨?_, ?_,by dsimp only;omega,hn, ?_⟩,by dsimp only;omega⟩⟩
  ·have h2:K3 g (l.getD k ev0)≠0:=bne_iff_ne.1 h2
   rw[if_neg h2] at hrun
   refine⟨rfl, ?_, ?_⟩
   ·unfold J7;rw[←hrun];dsimp only;rw[if_neg h2];rfl
   ·unfold opE;rw[←hrun];dsimp only;rw[if_neg h2];rfl
  ·have h2:K3 g (l.getD k ev0)≠0:=bne_iff_ne.1 h2
   exact absurd (bne_eq_false_iff_eq.1 h3) h2
  ·have h2:K3 g (l.getD k ev0)=0:=bne_eq_false_iff_eq.1 h2
   have eP:Vi g (l.getD k ev0)=Ho g (l.getD k ev0):=by unfold Vi;rw[if_pos h2]
   refine⟨rfl,by simp,rfl,rfl,rfl,rfl,rfl,rfl,rfl,rfl,rfl, ?_, ?_, ?_⟩
   ·show(Vi g (l.getD k ev0)).1=_;rw[eP]
   ·show(Vi g (l.getD k ev0)).2.1=_;rw[eP]
   ·show(Vi g (l.getD k ev0)).2.2=_;rw[eP]
  ·exact Jb0 hi (by omega) (bne_eq_false_iff_eq.1 h2)
  ·show(Ho g (l.getD k ev0)).1.length=k+1
   rw[Xy,hk]
  ·have h2:K3 g (l.getD k ev0)=0:=bne_eq_false_iff_eq.1 h2
   rw[if_pos h2] at hrun
   exact hrun
 ·obtain⟨g,k⟩:=x
  obtain⟨hi,hk,hk2,_,hrun⟩:=hx
  dsimp only at hi hk hk2 hrun
  have hlt:¬k<l.length:=by simpa using h1
  have:k=l.length:=by omega
  rw[this,List.drop_length,Zm] at hrun
  have eR:J7 l=Ko g.2.2:=by unfold J7;rw[←hrun];rfl
  have hR:=Fq hi.ok
  have hGl:((g.2.2.length:Int)-1).toNat=g.2.2.length-1:=by omega
  have hb:g.2.2.length≤1000:=by have:=hi.ok.nG;have:=hi.ok.nC;have:=hi.ok.nE;omega
  have eO:opE l ns=Jg (ns.map fun s=>bif !Ye (Ko g.2.2) 0 s then 10 else 0):=by unfold opE;rw[←hrun,eR];rfl
  refine⟨fun f=>(by cases f),fun _=>⟨fun h2=> ?_,fun h2=> ?_⟩⟩
  ·have h2:(0:Int)<g.2.2.length:=of_decide_eq_true h2
   dsimp only
   rw[hGl]
   exact⟨⟨⟨by omega,by omega⟩,⟨by omega,by omega⟩,by omega,by omega⟩,⟨hns,fun _ _=>hR,by rw[List.length_map];exact hns⟩,rfl,eR.symm,eO.symm⟩
  ·have e1:=Kw h2
   rw[e1] at eR eO hR
   exact⟨⟨hns,fun _ _=>hR,by rw[List.length_map];exact hns⟩,rfl,eR.symm,eO.symm⟩
abbrev W96:=W95.add Ub7
theorem Ju5:∀{l:List Ev} {h:J9},Vs h→h.1.length+l.length≤1000→Vs (Zm h l).1
 |[],_,hi,_=>hi
 | e :: l, h, hi, hl => by
  unfold Zm
  simp only[List.length_cons] at hl
  by_cases ha:K3 h e=0
  ·rw[if_pos ha]
   exact Ju5 (Jb0 hi (by omega) ha) (by rw[Xy];omega)
  ·rw[if_neg ha];exact hi
theorem Jll {l:List Ev}:Vs (Ja l).1:=by
 unfold Ja
 by_cases h:1000<l.length
 ·rw[if_pos h];exact Xx
 ·rw[if_neg h];exact Ju5 Xx (by show 0+l.length≤1000;omega)
theorem Jcd {l:List Ev}:Jn (J7 l):=by
 unfold J7
 by_cases h:(Ja l).2.2=0
 ·rw[if_pos h];exact Fq Jll.ok
 ·rw[if_neg h];exact Fq Xx.ok
def Jg5 (l:List Ev) (s:ByteArray) (h:Int):Int:=Jg [opE l [s],Kr h 0 999999999]
def Ju8 (l:List Ev) (s:ByteArray) (h:Int):Int:=if Jg5 l s h=0 then X0 (J7 l).2.2.1 (J7 l).2.2.2.1 (J7 l).2.2.2.2.2.1 s h else 0
def J70:Con:={args:=[.val false (.list 67 sEv),aS,aI],ress:=[I,I],owns:=[],pre:=fun(l,_)=>[lOk l],spec:=fun(l,s,h,_)=>(Ju8 l s h,Jg5 l s h,())}
theorem Kht {l:List Ev} {s:ByteArray} (h:opE l [s]=0):0≤J6 (J7 l).2.2.1 s:=by
 unfold opE at h
 by_cases h0:(Ja l).2.2=0
 ·rw[if_pos h0] at h
  have h1:=Uy.1 h _ (List.mem_map_of_mem (List.mem_cons_self ..))
  have h2:=Yp (by decide) h1
  exact Jsx (by simpa using h2)
 ·rw[if_neg h0] at h;exact absurd h h0
def Jzz (a:List Ev):=((J7 a).1,(J7 a).2.1,(J7 a).2.2.1,(J7 a).2.2.2.1,(J7 a).2.2.2.2.1,E2 (J7 a).2.2.2.2.2)
def Jzy (a:List Ev):=Jn (Jzz a)
theorem Ucq:Ok Tryz.prog 25 J70:=okW W96 Tryz.f25 na fun xx=>by
 obtain⟨(l:List Ev),(s:ByteArray),(h:Int),_⟩:=xx
 refine(by kernel_rfl:(lOk l→(lOk l∧1≤1000000)∧2≤1000000∧Br (Jg [opE l [s],Z80 h] !=0) (0=Ju8 l s h∧Jg [opE l [s],Z80 h]=Jg5 l s h) ((Jzy l∧0≤J6 (J7 l).2.2.1 s)∧X0 (J7 l).2.2.1 (J7 l).2.2.2.1 (J7 l).2.2.2.2.2.1 s h=Ju8 l s h∧0=Jg5 l s h))=_).mp ?_
 delta Z80 Jzz Jzy Br E2
 intro hl
 refine⟨⟨hl,by decide⟩,by decide,fun e=> ?_,fun e=> ?_⟩
 ·have e:Jg5 l s h≠0:=bne_iff_ne.1 e
  exact⟨by unfold Ju8;rw[if_neg e],rfl⟩
 ·have e:Jg5 l s h=0:=bne_eq_false_iff_eq.1 e
  exact⟨⟨Jcd,Kht (He e).1⟩,by unfold Ju8;rw[if_pos e],e.symm⟩
abbrev W97:=W96.add Ucq
abbrev W98:=W97
def Jzu (l:List Ev) (e:Ev):Int:=Jg [(Ja l).2.2,Jd e,bif decide ((1000:Int)≤l.length) then 5 else 0]
def Jts (l:List Ev) (e:Ev):Int:=if Jzu l e=0 then L9 (Ja l).1 e else Jzu l e
abbrev W99:=W98
abbrev Ua8:=W99
end Go.Proofs.YtcibbcfiemeoiaaGreatDoor

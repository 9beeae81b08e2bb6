/- Contracts of the functions that the law reaches: part of the proof. -/
import Derived.Test.YthlgkojihnccaaaGreatDoorProg
import Derived.Test.YthlgkojihnccaaaGreatDoorSxC
import Derived.Test.YthlgkojihnccaaaGreatDoorShelfA
import Derived.Test.YthlgkojihnccaaaGreatDoorLayA
import Derived.KernelRfl
import Derived.Laws.RangeAny
import Derived.Lib.Strings
set_option linter.unusedSimpArgs false
set_option linter.unusedVariables false
set_option maxRecDepth 20000
namespace Go.Proofs.YthlgkojihnccaaaGreatDoor
open Go.Sx
set_option maxHeartbeats 20000000
abbrev I:Bool×Sch:=(false, .int .i64)
abbrev Bo:Bool×Sch:=(false, .bool)
abbrev aI:AK:= .val false (.int .i64)
abbrev aB:AK:= .val false .bool
abbrev aS:AK:= .val false .str
abbrev tS:Bool×Sch:=(false, .str)
abbrev sI:Sch:= .int .i64
abbrev W0 [Sx.Dr]:GW Tryz.prog:=⟨[], .nil _⟩
theorem mixed:Tryz.prog.follows .mixedOrders=true:=by kernel_rfl
theorem okW [Sx.Dr] {f:FuncId} {c:Con} (W:GW Tryz.prog) (fn:Func) (ann:ATup c.args→Nat→Option Ann) (h:∀x:ATup c.args,wpF Tryz.prog W.g (ann x) fn c x) (h1:Tryz.prog.funcs[f]? =some fn:=by kernel_rfl) (h2:F8 fn c=true:=by kernel_rfl):Ok Tryz.prog f c:=Ye mixed W.ok h1 h2 ann h
theorem Jvw [Sx.Dr] {f:FuncId} {c:Con} {lib:FuncId→Option Func} (W:GW Tryz.prog) (fn:Func) (hl:∀f fn,lib f=some fn→Tryz.prog.funcs[f]? =some fn) (ann:ATup c.args→Nat→Option Ann) (annF:ATup c.args→FuncId→Nat→Option Ann) (h:∀x:ATup c.args,wpFG Tryz.prog W.g (ann x) (annF x) lib fn c x) (h1:Tryz.prog.funcs[f]? =some fn:=by kernel_rfl) (h2:F8 fn c=true:=by kernel_rfl):Ok Tryz.prog f c:=Jc2 mixed W.ok h1 h2 hl ann annF h
abbrev na {α:Type}:α→Nat→Option Ann:=fun _ _=>none
abbrev Ho (A:Ann):Nat→Option Ann:=fun k=>if k=0 then some A else none
def J5b:Con:={args:=[aB,aI],ress:=[I],owns:=[],pre:=fun _=>[],spec:=fun(b,e,_)=>(bif b then e else 0,())}
def Keb (a:Bool) (b:Int):=Br a (b=bif a then b else 0) (0=bif a then b else 0)
theorem Kw7 [Sx.Dr]:Ok Tryz.prog 26 J5b:=okW W0 Tryz.f26 na fun xx=>by
 obtain⟨(b:Bool),(e:Int),_⟩:=xx
 refine(by kernel_rfl:(Keb b e)=_).mp ?_
 delta Keb Br
 cases b<;>simp
abbrev W1 [Sx.Dr]:=W0.add Kw7
def Jp (n lo hi:Int):Int:=bif decide (n<lo)||decide (hi<n) then 3 else 0
def Js6:Con:={args:=[aI,aI,aI],ress:=[I],owns:=[],pre:=fun _=>[],spec:=fun(n,lo,hi,_)=>(Jp n lo hi,())}
def Kc3 (a b c:Int):=(bif bif decide (a<b) then true else decide (c<a) then 3 else 0)=Jp a b c
theorem Kwo [Sx.Dr]:Ok Tryz.prog 52 Js6:=okW W1 Tryz.f52 na fun xx=>by
 obtain⟨(n:Int),(lo:Int),(hi:Int),_⟩:=xx
 refine(by kernel_rfl:(Kc3 n lo hi)=_).mp ?_
 delta Kc3
 unfold Jp;cases decide (n<lo)<;>rfl
abbrev W2 [Sx.Dr]:=W1.add Kwo
def Y2 (n lo hi:Int):Bool:=decide (n<lo)||decide (hi<n)
def Jwq:Con:={args:=[aI,aI,aI],ress:=[Bo],owns:=[],pre:=fun _=>[],spec:=fun(n,lo,hi,_)=>(Y2 n lo hi,())}
theorem Kws [Sx.Dr]:Ok Tryz.prog 44 Jwq:=okW W2 Tryz.f44 na fun xx=>by
 obtain⟨(n:Int),(lo:Int),(hi:Int),_⟩:=xx
 refine(by kernel_rfl:((bif decide (n<lo) then true else decide (hi<n))=Y2 n lo hi)=_).mp ?_
 unfold Y2;cases decide (n<lo)<;>rfl
abbrev W3 [Sx.Dr]:=W2.add Kws
def Kh6:Con:={args:=[aI],ress:=[I],owns:=[],pre:=fun _=>[],spec:=fun(n,_)=>(Jp n 0 999999999,())}
def Z76 (a:Int):=Jp a 0 999999999
def Keu (a:Int):=Z76 a=Z76 a
theorem Kw3 [Sx.Dr]:Ok Tryz.prog 32 Kh6:=okW W3 Tryz.f32 na fun xx=>by
 obtain⟨(n:Int),_⟩:=xx
 refine(by kernel_rfl:(Keu n)=_).mp ?_
 delta Z76 Keu
 rfl
abbrev W4 [Sx.Dr]:=W3.add Kw3
def Jg:List Int→Int
 |[]=>0
 |x::l=>if x=0 then Jg l else x
theorem Jdo {l:List Int} {k:Nat} (h:k<l.length):Jg (l.drop k)=if l.getD k 0=0 then Jg (l.drop (k+1)) else l.getD k 0:=by
 rw[List.drop_eq_getElem_cons h]
 simp[Jg,List.getD_eq_getElem?_getD,h]
def Jyb:Con:={args:=[.val false (.list 38 sI)],ress:=[I],owns:=[],pre:=fun(l,_)=>[l.length≤1000000],spec:=fun(l,_)=>(Jg l,())}
abbrev Jnj (l:List Int):Ann:={X:=Nat,σ:=fun k=>⟨1,[(5, .one (.sl 0)),(6, .one (.int .i64 l.length)),(7, .one (.int .i64 k))],[(0, .imm 38 sI l)]⟩,inv:=fun k=>k≤l.length∧Jg l=Jg (l.drop k),mu:=fun k=>l.length-k}
def Z21 (a:Li) (b:Nat):=List.getD a b 0
def Z25 (a:Nat):=Iw (Nc a+1)
def Z55 (a:Li):=List.length a≤1000000
def Z82 (a:Nat) (b:Li):=Tw (Bd (Nc a) (Ln b))
def Z93 (a b:Nat):=Nc a+1=Nc b
def Jt9 (a:Li) (b c:Nat):=List.length a-b<List.length a-c
def J8s (a:Nat) (b:Li):=a≤List.length b∧Jg b=Jg (List.drop a b)
def Kae (a:Li):=Z55 a→∃(x:Nat),Si (Ln a) (0=Nc x∧a=a)∧J8s x a∧∀(x:Nat),J8s x a→Br (decide (Nc x<Ln a)) (Z82 x a∧Br (Z21 a x !=0) (Z21 a x=Jg a) (Z25 x∧∃(y:Nat),Si (Ln a) (Z93 x y∧a=a)∧J8s y a∧Jt9 a y x)) (0=Jg a)
theorem Kw8 [Sx.Dr]:Ok Tryz.prog 24 Jyb:=okW W4 Tryz.f24 (fun xx=>Ho (Jnj xx.1)) fun xx=>by
 obtain⟨(l:List Int),_⟩:=xx
 refine(by kernel_rfl:(Kae l)=_).mp ?_
 delta Z21 Z25 Z55 Z82 Z93 Jt9 J8s Kae Br Iw Bd Tw Si Ln Nc
 intro hb
 refine⟨(0:Nat),⟨rfl,rfl,rfl⟩,⟨Nat.zero_le _,rfl⟩,fun(k:Nat) hk=>⟨fun h=> ?_,fun h=> ?_⟩⟩
 ·have hlt:k<l.length:=by simpa using h
  have hd:=Jdo hlt
  refine⟨by omega,fun h1=> ?_,fun h1=>⟨by omega,(k+1:Nat),⟨rfl,by simp,rfl⟩,⟨by omega, ?_⟩,by omega⟩⟩
  ·have h2:¬l.getD k 0=0:=by simpa using h1
   rw[hk.2,hd,if_neg h2]
  ·have h2:l.getD k 0=0:=by simpa using h1
   rw[hk.2,hd,if_pos h2]
 ·have hlt:¬k<l.length:=by simpa using h
  have:k=l.length:=by omega
  rw[hk.2,this,List.drop_length];rfl
abbrev W5 [Sx.Dr]:=W4.add Kw8
def okB (f:Bool) (c:Int):Bool:=bif (bif decide ((65:Int)≤c) then decide (c≤90) else false) then true else bif (bif decide ((97:Int)≤c) then decide (c≤122) else false) then true else bif f then false else bif decide (c<48) then c==95 else bif decide (57<c) then c==95 else true
def okL (f:Bool):List UInt8→Bool
 |[]=>true
 |b::r=>okB f (b.toNat:Int)&&okL false r
def Vk (s:ByteArray):Bool:=okL true s.data.toList&&(decide (0<s.size)&&decide ((s.size:Int)≤24))
theorem Jrl (f:Bool) (c:Int):(bif !bif (bif decide ((65:Int)≤c) then decide (c≤90) else false) then true else bif decide ((97:Int)≤c) then decide (c≤122) else false then bif f then true else bif (bif decide (c<48) then true else decide (57<c)) then c !=95 else false else false)= !okB f c:=by
 unfold okB bne
 cases decide ((65:Int)≤c)<;>cases decide (c≤90)<;>cases decide ((97:Int)≤c)<;>cases decide (c≤122)<;>cases f<;>cases decide (c<48)<;>cases decide (57<c)<;>cases c==95<;>rfl
theorem Jmm {f:Bool} {c:Int} (h:128≤c):okB f c=false:=by
 unfold okB
 have h1:decide (c≤90)=false:=decide_eq_false (by omega)
 have h2:decide (c≤122)=false:=decide_eq_false (by omega)
 have h3:decide (c<48)=false:=decide_eq_false (by omega)
 have h4:decide ((57:Int)<c)=true:=decide_eq_true (by omega)
 have h5:(c==95)=false:=beq_eq_false_iff_ne.2 (by omega)
 rw[h1,h2,h3,h4,h5]
 cases decide ((65:Int)≤c)<;>cases decide ((97:Int)≤c)<;>cases f<;>rfl
theorem Jbz {s:ByteArray} {k:Nat} (h:k<s.size) (ha:(s[k]'h).toNat<128):Vo s k=((s[k]'h).toNat:Int)∧Jep s k=1:=by
 unfold Vo Jep
 rw[decode_ascii s k h ha]
 exact⟨rfl,rfl⟩
theorem Jig {s:ByteArray} {k:Nat} (h:k<s.size) (ha:128≤(s[k]'h).toNat):128≤Vo s k:=by
 have:=(decode_high s k h ha).1
 unfold Vo
 omega
theorem Ly {s:ByteArray} {k:Nat} (h:k<s.size):s.data.toList.drop k=(s[k]'h)::s.data.toList.drop (k+1):=by
 rw[List.drop_eq_getElem_cons (by simpa using h)]
 congr 1
theorem Jgr (s:ByteArray):(!(s.toList==(⟨⟨[]⟩⟩:ByteArray).toList))=decide (0<s.size):=by
 rw[Lib.toList_data,Lib.toList_data]
 have e:s.data.toList.length=s.size:=by simp
 cases h:s.data.toList with
 |nil=>rw[h] at e;simp at e;rw[←e];rfl
 |cons a l=>rw[h] at e;simp at e;rw[←e];simp
theorem Ja6 (k:Nat):(((k:Nat):Int)==0)=(k==0):=by
 rw[Bool.eq_iff_iff,beq_iff_eq,beq_iff_eq];omega
def J5l:Con:={args:=[aS],ress:=[Bo],owns:=[],pre:=fun(s,_)=>[s.size≤1000000],spec:=fun(s,_)=>(Vk s,())}
abbrev J05 (s:ByteArray):Ann:={X:=Nat,σ:=fun k=>⟨1,[(0, .one (.str s)),(7, .one (.sl 0))],[(0, .siter s k)]⟩,inv:=fun k=>k≤s.size∧okL true s.data.toList=okL (k==0) (s.data.toList.drop k),mu:=fun k=>s.size-k}
def Z13 (a:Bt):=a.data.toList
def Kd0 (a:Bt) (b:Nat):=bif decide (Vo a b<48) then true else decide (57<Vo a b)
def Krn (a:Bt):=Sf true ((bif !Lb a B0 then decide (Nc (ByteArray.size a)≤24) else false)=Vk a)
def Kcs (a:Nat) (b:Bt):=a≤ByteArray.size b∧okL true (Z13 b)=okL (a==0) (List.drop a (Z13 b))
theorem Kwl [Sx.Dr]:Ok Tryz.prog 56 J5l:=Jvw W5 Tryz.f56 (Uq (l:=([]:List (Nat×Func))) (by simp)) (fun xx=>Ho (J05 xx.1)) (fun xx=>fun _=>na ()) fun xx=>by
 obtain⟨(s:ByteArray),_⟩:=xx
 refine(by kernel_rfl:(ByteArray.size s≤1000000→∃(x:Nat),Sf s (Sf s (0=x))∧Kcs x s∧∀(x:Nat),Kcs x s→(x<ByteArray.size s→Br true (Br (bif !bif bif decide (65≤Vo s x) then decide (Vo s x≤90) else false then true else bif decide (97≤Vo s x) then decide (Vo s x≤122) else false then bif Nc x==0 then true else bif Kd0 s x then Vo s x !=95 else false else false) (Sf true (false=Vk s)) (∃(y:Nat),Sf s (Sf s (x+Jep s x=y))∧Kcs y s∧ByteArray.size s-y<ByteArray.size s-x)) (Krn s))∧((x<ByteArray.size s→False)→Br false False (Krn s)))=_).mp ?_
 delta Z13 Kd0 Krn Kcs Br Sf Nc B0 Lb
 intro hb
 refine⟨(0:Nat),⟨rfl,rfl,rfl⟩,⟨Nat.zero_le _,by simp⟩,fun(k:Nat) hk=>⟨fun h=>⟨fun _=>⟨fun h1=>⟨rfl, ?_⟩,fun h1=> ?_⟩,fun h=>(by cases h)⟩,fun h=> ?_⟩⟩
 ·rw[Jrl,Ja6] at h1
  have h2:okB (k==0) (Vo s k)=false:=by simpa using h1
  unfold Vk
  have h3:okL true s.data.toList=false:=by
   rw[hk.2,Ly h,okL]
   by_cases ha:(s[k]'h).toNat<128
   ·rw[←(Jbz h ha).1,h2];rfl
   ·rw[Jmm (by omega)];rfl
  rw[h3];rfl
 ·rw[Jrl,Ja6] at h1
  have h2:okB (k==0) (Vo s k)=true:=by simpa using h1
  by_cases ha:(s[k]'h).toNat<128
  ·obtain⟨r1,r2⟩:=Jbz h ha
   refine⟨(k+1:Nat),⟨rfl,rfl,by rw[r2]⟩,⟨by omega, ?_⟩,by omega⟩
   rw[hk.2,Ly h,okL,←r1,h2]
   rfl
  ·have:=Jig h (by omega)
   rw[Jmm this] at h2
   cases h2
 ·have e:k=s.size:=Nat.le_antisymm hk.1 (Nat.le_of_not_lt h)
  refine⟨fun h=>(by cases h),fun _=>⟨rfl, ?_⟩⟩
  rw[e,List.drop_eq_nil_of_le (by simp)] at hk
  unfold Vk
  rw[hk.2,Jgr]
  cases decide (0<s.size)<;>cases decide ((s.size:Int)≤24)<;>rfl
abbrev W6 [Sx.Dr]:=W5.add Kwl
abbrev aU:AK:= .val false (.int .u8)
def Jrz (c:Int):Bool:=bif (bif decide ((65:Int)≤c) then decide (c≤90) else false) then true else bif decide ((97:Int)≤c) then decide (c≤122) else false
def J43 (c:Int):Bool:=bif decide ((48:Int)≤c) then decide (c≤57) else false
def Kxz:Con:={args:=[aU],ress:=[Bo],owns:=[],pre:=fun _=>[],spec:=fun(c,_)=>(Jrz c,())}
theorem Kv5 [Sx.Dr]:Ok Tryz.prog 78 Kxz:=okW W6 Tryz.f78 na fun xx=>by
 obtain⟨(c:Int),_⟩:=xx
 refine(by kernel_rfl:((bif bif decide (65≤c) then decide (c≤90) else false then true else bif decide (97≤c) then decide (c≤122) else false)=Jrz c)=_).mp ?_
 rfl
abbrev W7 [Sx.Dr]:=W6.add Kv5
def Kx3:Con:={args:=[aU],ress:=[Bo],owns:=[],pre:=fun _=>[],spec:=fun(c,_)=>(J43 c,())}
theorem Kv4 [Sx.Dr]:Ok Tryz.prog 79 Kx3:=okW W7 Tryz.f79 na fun xx=>by
 obtain⟨(c:Int),_⟩:=xx
 refine(by kernel_rfl:((bif decide (48≤c) then decide (c≤57) else false)=J43 c)=_).mp ?_
 rfl
abbrev W8 [Sx.Dr]:=W7.add Kv4
theorem Jzo (c:Int):okB true c=Jrz c:=by
 unfold okB Jrz
 cases decide ((65:Int)≤c)<;>cases decide (c≤90)<;>cases decide ((97:Int)≤c)<;>cases decide (c≤122)<;>rfl
theorem Jzn (c:Int):(bif bif !Jrz c then !J43 c else false then c !=95 else false)= !okB false c:=by
 unfold okB Jrz J43 bne
 have e1:decide (c<48)= !decide ((48:Int)≤c):=by rw[Bool.eq_iff_iff];simp
 have e2:decide ((57:Int)<c)= !decide (c≤57):=by rw[Bool.eq_iff_iff];simp
 rw[e1,e2]
 cases decide ((65:Int)≤c)<;>cases decide (c≤90)<;>cases decide ((97:Int)≤c)<;>cases decide (c≤122)<;>cases decide ((48:Int)≤c)<;>cases decide (c≤57)<;>cases c==95<;>rfl
theorem Fu {s:ByteArray} {k:Nat} (h:k<s.size):s.data.toList.drop k=s.data.toList.getD k 0::s.data.toList.drop (k+1):=by
 have h':k<s.data.toList.length:=by simpa using h
 rw[List.drop_eq_getElem_cons h']
 congr 1
 rw[List.getD_eq_getElem?_getD,List.getElem?_eq_getElem h'];rfl
abbrev Jw2 (s:ByteArray):Ann:={X:=Nat,σ:=fun k=>⟨0,[(0, .one (.str s)),(3, .one (.int .i64 k))],[]⟩,inv:=fun k=>0<k∧k≤s.size∧Vk s=okL false (s.data.toList.drop k),mu:=fun k=>s.size-k}
def Kev (a:Bt) (b:Nat):=Nc (UInt8.toNat (List.getD (Z13 a) b 0))
def Keq (a:Bt):=Nc (UInt8.toNat (List.getD (Z13 a) 0 0))
def Ksr (a:Bt) (b:Nat):= !Jrz (Kev a b)
def Ksj (a:Bt):=bif Nc (ByteArray.size a)==0 then true else decide (24<Nc (ByteArray.size a))
def Kc0 (a:Nat) (b:Bt):=0<a∧a≤ByteArray.size b∧Vk b=okL false (List.drop a (Z13 b))
def Kou (a:Bt) (b:Nat):=bif Ksr a b then !J43 (Kev a b) else false
theorem Kwr [Sx.Dr]:Ok Tryz.prog 46 J5l:=okW W8 Tryz.f46 (fun xx=>Ho (Jw2 xx.1)) fun xx=>by
 obtain⟨(s:ByteArray),_⟩:=xx
 refine(by kernel_rfl:(ByteArray.size s≤1000000→(Ksj s=false→Bd 0 (Nc (ByteArray.size s)))∧Br (bif Ksj s then true else !Jrz (Keq s)) (false=Vk s) (∃(x:Nat),Sf s (1=Nc x)∧Kc0 x s∧∀(x:Nat),Kc0 x s→Br (decide (Nc x<Nc (ByteArray.size s))) ((Bd (Nc x) (Nc (ByteArray.size s))∧(Ksr s x=true→Bd (Nc x) (Nc (ByteArray.size s)))∧(Kou s x=true→Bd (Nc x) (Nc (ByteArray.size s))))∧Br (bif Kou s x then Kev s x !=95 else false) (false=Vk s) (Z25 x∧∃(y:Nat),Sf s (Z93 x y)∧Kc0 y s∧ByteArray.size s-y<ByteArray.size s-x)) (true=Vk s)))=_).mp ?_
 delta Z13 Z25 Z93 Kev Keq Ksr Ksj Kc0 Kou Br Iw Bd Sf Nc
 intro hb
 have e0:∀h:0<s.size,okL true s.data.toList=(Jrz ((s.data.toList.getD 0 0).toNat:Int)&&okL false (s.data.toList.drop 1)):=fun h=>by
  have:=Fu h
  rw[List.drop_zero] at this
  rw[this,okL,Jzo]
  simp
 refine⟨fun h=> ?_,fun h=> ?_,fun h=> ?_⟩
 ·have h1:((s.size:Int)==0)=false:=by revert h;cases((s.size:Int)==0)<;>simp
  have:=beq_eq_false_iff_ne.1 h1
  exact⟨Int.le_refl _,by omega⟩
 ·unfold Vk
  by_cases h0:0<s.size
  ·rw[e0 h0]
   have h1:((s.size:Int)==0)=false:=beq_eq_false_iff_ne.2 (by omega)
   rw[h1] at h
   by_cases h2:(s.size:Int)≤24
   ·have h3:decide ((24:Int)<s.size)=false:=decide_eq_false (by omega)
    rw[h3] at h
    have h4:Jrz ((s.data.toList.getD 0 0).toNat:Int)=false:=by simpa using h
    rw[h4];rfl
   ·rw[decide_eq_false h2];simp
  ·rw[decide_eq_false h0];simp
 ·have h1:((s.size:Int)==0)=false:=by revert h;cases((s.size:Int)==0)<;>simp
  rw[h1] at h
  have h2:decide ((24:Int)<s.size)=false:=by revert h;cases decide ((24:Int)<s.size)<;>simp
  rw[h2] at h
  have h3:Jrz ((s.data.toList.getD 0 0).toNat:Int)=true:=by simpa using h
  have h0:0<s.size:=by have:=beq_eq_false_iff_ne.1 h1;omega
  have h24:(s.size:Int)≤24:=by have:=of_decide_eq_false h2;omega
  have en:Vk s=okL false (s.data.toList.drop 1):=by
   unfold Vk
   rw[e0 h0,h3,decide_eq_true h0,decide_eq_true h24];simp
  refine⟨(1:Nat),⟨rfl,rfl⟩,⟨by omega,by omega,en⟩,fun(k:Nat) hk=>⟨fun h=> ?_,fun h=> ?_⟩⟩
  ·have hlt:k<s.size:=by simpa using h
   rw[Jzn]
   refine⟨⟨by omega,fun _=>by omega,fun _=>by omega⟩,fun h1=> ?_,fun h1=>⟨by omega,(k+1:Nat),⟨rfl,by simp⟩,⟨by omega,by omega, ?_⟩,by omega⟩⟩
   ·have h2:okB false ((s.data.toList.getD k 0).toNat:Int)=false:=by simpa using h1
    rw[hk.2.2,Fu hlt,okL,h2];rfl
   ·have h2:okB false ((s.data.toList.getD k 0).toNat:Int)=true:=by simpa using h1
    rw[hk.2.2,Fu hlt,okL,h2];rfl
  ·have hlt:¬k<s.size:=by simpa using h
   have:k=s.size:=by omega
   rw[hk.2.2,this,List.drop_eq_nil_of_le (by simp)];rfl
abbrev W9 [Sx.Dr]:=W8.add Kwr
abbrev Jvn:Sch:= .prod sI .bool
abbrev J4n:Sch:= .prod (.list 151 Jvn) (.prod sI (.prod .fnc (.prod .fnc .fnc)))
abbrev Ks8:=List (Int×Bool)×Int×Option Nat×Option Nat×Option Nat
abbrev J0:ByteArray:=⟨⟨[117,110,100,111]⟩⟩
abbrev Ju:ByteArray:=⟨⟨[115,116,97,116,105,111,110]⟩⟩
abbrev Kx:ByteArray:=⟨⟨[112,114,105,99,101]⟩⟩
abbrev Ke:ByteArray:=⟨⟨[111,114,100,101,114]⟩⟩
abbrev Ks:ByteArray:=⟨⟨[109,101,116,101,114]⟩⟩
abbrev Vj:ByteArray:=⟨⟨[116,114,105,112]⟩⟩
abbrev Jz:ByteArray:=⟨⟨[111,117,116,97,103,101]⟩⟩
abbrev Jw:ByteArray:=⟨⟨[114,101,115,116,111,114,101]⟩⟩
abbrev Kj:ByteArray:=⟨⟨[112,101,114,109,105,116]⟩⟩
abbrev Ki:ByteArray:=⟨⟨[114,101,116,117,114,110]⟩⟩
abbrev Jh:ByteArray:=⟨⟨[115,101,116,116,108,101]⟩⟩
def Di:List (ByteArray×Ks8):=[(J0,[],0,none,none,none),
 (Ju,[(0,false)],2,some 94,some 95,some 96),
 (Kx,[(0,true)],2,some 98,some 99,some 96),
 (Ke,[(1,false),(0,true),(0,true)],4,some 100,some 101,some 102),
 (Ks,[(1,true)],4,some 103,some 104,some 102),
 (Vj,[(1,true)],1,some 105,some 106,some 102),
 (Jz,[(2,false),(0,true)],4,some 107,some 108,some 109),
 (Jw,[(2,true)],1,some 110,some 111,some 109),
 (Kj,[(3,false),(2,true)],1,some 112,some 113,some 114),
 (Ki,[(3,true)],1,some 115,some 116,some 114),
 (Jh,[],2,some 117,some 118,none)]
def J5w:Con:={args:=[aI],ress:=[(true,Jvn)],owns:=[],pre:=fun _=>[],spec:=fun(t,_)=>((t,false),())}
theorem Kvq [Sx.Dr]:Ok Tryz.prog 93 J5w:=okW W9 Tryz.f93 na fun xx=>by
 obtain⟨(t:Int),_⟩:=xx
 refine(by kernel_rfl:((t,false)=(t,false))=_).mp ?_
 trivial
abbrev W10 [Sx.Dr]:=W9.add Kvq
def Kxw:Con:={args:=[aI],ress:=[(true,Jvn)],owns:=[],pre:=fun _=>[],spec:=fun(t,_)=>((t,true),())}
theorem Kvm [Sx.Dr]:Ok Tryz.prog 97 Kxw:=okW W10 Tryz.f97 na fun xx=>by
 obtain⟨(t:Int),_⟩:=xx
 refine(by kernel_rfl:((t,true)=(t,true))=_).mp ?_
 trivial
abbrev W11 [Sx.Dr]:=W10.add Kvm
def Jya:Jpj:={kT:=9,gk:=false,gv:=true,ks:= .str,vs:=J4n,l:=Di}
def Ke1:=[((0:Int),true)]
def J3r:List (Int×Bool)×Int×Option Nat×Option Nat×Option Nat:=([],(0:Int),none,none,none)
theorem Kvf [Sx.Dr]:wpFM Tryz.prog W11.g (na ()) (fun _=>na ()) (Sx.look ([]:List (Nat×Func))) Tryz.f53 Jya:=by
 refine(by kernel_rfl:(((∀(k k':ByteArray),some (Lb k k')=some (List.beq (ByteArray.toList k) (ByteArray.toList k')))∧∀(k:ByteArray),true=true)∧Sf true ([(J0,J3r),(Ju,[(0,false)],2,some 94,some 95,some 96),(Kx,Ke1,2,some 98,some 99,some 96),(Ke,(1,false)::(0,true)::Ke1,4,some 100,some 101,some 102),(Ks,[(1,true)],4,some 103,some 104,some 102),(Vj,[(1,true)],1,some 105,some 106,some 102),(Jz,(2,false)::Ke1,4,some 107,some 108,some 109),(Jw,[(2,true)],1,some 110,some 111,some 109),(Kj,[(3,false),(2,true)],1,some 112,some 113,some 114),(Ki,[(3,true)],1,some 115,some 116,some 114),(Jh,[],2,some 117,some 118,none)]=Di))=_).mp ?_
 delta Ke1 J3r Sf Lb Ks Ke Jz Kj Kx Jw Ki Jh Ju Vj J0
 exact⟨⟨fun _ _=>rfl,fun _=>rfl⟩,rfl,rfl⟩
theorem Kfw [Sx.Dr]:Ok Tryz.prog 53 (Jpj.con Jya):=J4u (Jrj mixed W11.ok (by kernel_rfl) (by kernel_rfl) (Uq (l:=([]:List (Nat×Func))) (by simp)) (na ()) (fun _=>na ()) Kvf)
abbrev W12 [Sx.Dr]:=W11.add Kfw
theorem Je {α:Type} {l:List α} {k:Nat} {d:α} (h:k<l.length):l.getD k d∈l:=by
 simp[List.getD_eq_getElem?_getD,h]
theorem K7 {α:Type} {d:α} {l:List α} {k:Nat} (h:k<l.length):l.take k++[l.getD k d]=l.take (k+1):=by
 rw[List.take_succ_eq_append_getElem h,List.getD_eq_getElem?_getD,List.getElem?_eq_getElem h];rfl
abbrev Jjm (T U:TypeId) (s:Sch) (l:List s.T) (r:Bool×Sch) (g:Bool) (q:Tup [(g,s)]→List Prop) (f:Tup [(g,s)]→r.2.T):Ann:={X:=Nat,σ:=fun k=>⟨3,[(1, .one (.fv 1)),(5, .one (.sl 2)),(8, .one (.sl 0)),(9, .one (.int .i64 l.length)),(10, .one (.int .i64 k))],[(0, .imm T s l),(1, .afn [(g,s)] r q f),(2, .own U r.2 ((l.take k).map fun x=>f (x,())))]⟩,inv:=fun k=>k≤l.length,mu:=fun k=>l.length-k}
def J5n:Con:={args:=[.val false (.list 9 .str), .fn [tS] I],ress:=[(false, .list 38 sI)],owns:=[true],pre:=fun(l,(q,_),_)=>[l.length≤1000000,∀x∈l,K6 (q (x,()))],spec:=fun(l,(_,f),_)=>(l.map fun x=>f (x,()),())}
def J5p:Con:={args:=[.val false (.list 3 sI), .fn [I] I],ress:=[(false, .list 38 sI)],owns:=[true],pre:=fun(l,(q,_),_)=>[l.length≤1000000,∀x∈l,K6 (q (x,()))],spec:=fun(l,(_,f),_)=>(l.map fun x=>f (x,()),())}
def J2d (a:Li) (b:Int):=b∈a
def J39 (a:Int×Unit→Int) (b:Nat) (c:Li):=List.map (fun(x:Int)=>a (x,PUnit.unit)) (List.take b c)
def Kd1 (a:Li) (b:Int×Unit→List Prop):=∀(x:Int),J2d a x→K6 (b (x,PUnit.unit))
theorem Kwk [Sx.Dr]:Ok Tryz.prog 57 J5p:=okW W12 Tryz.f57 (fun xx=>Ho (Jjm 3 38 sI xx.1 I false xx.2.1.1 xx.2.1.2)) fun xx=>by
 obtain⟨(l:List Int),⟨(q:Int×Unit→List Prop),(f:Int×Unit→Int)⟩,_⟩:=xx
 refine(by kernel_rfl:(Z55 l→Kd1 l q→∃(x:Nat),Si (Ln l) (0=Nc x∧Sf l ((fun(x:Int×PUnit)=>q x)=q∧(fun(x:Int×PUnit)=>f x)=f∧List.length (J39 f x l)=0))∧x≤List.length l∧∀(x:Nat),x≤List.length l→Br (decide (Nc x<Ln l)) (Z82 x l∧(K6 (q (Z21 l x,PUnit.unit))∧(List.length (J39 f x l)+1)*8≤140737488355328)∧Z25 x∧∃(y:Nat),Si (Ln l) (Z93 x y∧Sf l ((fun(x:Int×PUnit)=>q x)=q∧(fun(x:Int×PUnit)=>f x)=f∧J39 f x l++[f (Z21 l x,PUnit.unit)]=J39 f y l))∧y≤List.length l∧Jt9 l y x) (J39 f x l=List.map (fun(x:Int)=>f (x,PUnit.unit)) l))=_).mp ?_
 delta Z21 Z25 Z55 Z82 Z93 Jt9 J2d J39 Kd1 Br Iw Bd Tw Sf Si Ln Nc
 intro hb hq
 refine⟨(0:Nat),⟨rfl,rfl,rfl,rfl,rfl,by simp⟩,Nat.zero_le _,fun(k:Nat) hk=>⟨fun h=> ?_,fun h=> ?_⟩⟩
 ·have hlt:k<l.length:=by simpa using h
  refine⟨by omega,⟨hq (l.getD k 0) (Je hlt),by simp only[List.length_map,List.length_take];omega⟩,by omega,(k+1:Nat),⟨rfl,by simp,rfl,rfl,rfl, ?_⟩,by omega,by omega⟩
  rw[←K7 (d:=0) hlt,List.map_append];rfl
 ·have hlt:¬k<l.length:=by simpa using h
  rw[List.take_of_length_le (by omega)]
abbrev W13 [Sx.Dr]:=W12.add Kwk
def Z28 (a:Ls) (b:Nat):=List.getD a b B0
def Z79 (a:Nat) (b:Ls):=Bd (Nc a) (Ln b)
def Hw (a:Ls):=List.length a≤1000000
def J33 (a:Ls) (b c:Nat):=List.length a-b<List.length a-c
def Jcd (a:Ls) (b:Bt):=b∈a
def J3x (a:Bt×Unit→Int) (b:Nat) (c:Ls):=List.map (fun(x:ByteArray)=>a (x,PUnit.unit)) (List.take b c)
theorem Kwn [Sx.Dr]:Ok Tryz.prog 54 J5n:=okW W13 Tryz.f54 (fun xx=>Ho (Jjm 9 38 .str xx.1 I false xx.2.1.1 xx.2.1.2)) fun xx=>by
 obtain⟨(l:List ByteArray),⟨(q:ByteArray×Unit→List Prop),(f:ByteArray×Unit→Int)⟩,_⟩:=xx
 refine(by kernel_rfl:(Hw l→(∀(x:ByteArray),Jcd l x→K6 (q (x,PUnit.unit)))→∃(x:Nat),Si (Ln l) (0=Nc x∧Sf l ((fun(x:ByteArray×PUnit)=>q x)=q∧(fun(x:ByteArray×PUnit)=>f x)=f∧List.length (J3x f x l)=0))∧x≤List.length l∧∀(x:Nat),x≤List.length l→Br (decide (Nc x<Ln l)) (Tw (Z79 x l)∧(K6 (q (Z28 l x,PUnit.unit))∧(List.length (J3x f x l)+1)*8≤140737488355328)∧Z25 x∧∃(y:Nat),Si (Ln l) (Z93 x y∧Sf l ((fun(x:ByteArray×PUnit)=>q x)=q∧(fun(x:ByteArray×PUnit)=>f x)=f∧J3x f x l++[f (Z28 l x,PUnit.unit)]=J3x f y l))∧y≤List.length l∧J33 l y x) (J3x f x l=List.map (fun(x:ByteArray)=>f (x,PUnit.unit)) l))=_).mp ?_
 delta Z25 Z28 Z79 Z93 Hw J33 Jcd J3x Br Iw Bd Tw Sf Si Ln Nc B0
 intro hb hq
 refine⟨(0:Nat),⟨rfl,rfl,rfl,rfl,rfl,by simp⟩,Nat.zero_le _,fun(k:Nat) hk=>⟨fun h=> ?_,fun h=> ?_⟩⟩
 ·have hlt:k<l.length:=by simpa using h
  refine⟨by omega,⟨hq (l.getD k (⟨⟨[]⟩⟩:ByteArray)) (Je hlt),by simp only[List.length_map,List.length_take];omega⟩,by omega,(k+1:Nat),⟨rfl,by simp,rfl,rfl,rfl, ?_⟩,by omega,by omega⟩
  rw[←K7 (d:=(⟨⟨[]⟩⟩:ByteArray)) hlt,List.map_append];rfl
 ·have hlt:¬k<l.length:=by simpa using h
  rw[List.take_of_length_le (by omega)]
abbrev W14 [Sx.Dr]:=W13.add Kwn
def Kip:Con:={args:=[aS],ress:=[I],owns:=[],pre:=fun(s,_)=>[s.size≤1000000],spec:=fun(s,_)=>(bif Vk s then 0 else 8,())}
theorem Kwm [Sx.Dr]:Ok Tryz.prog 55 Kip:=okW W14 Tryz.f55 na fun xx=>by
 obtain⟨(s:ByteArray),_⟩:=xx
 refine(by kernel_rfl:(ByteArray.size s≤(1000000:Nat)→ByteArray.size s≤(1000000:Nat)∧(bif !Vk s then(8:Int) else(0:Int))=bif Vk s then(0:Int) else(8:Int))=_).mp ?_
 exact fun h=>⟨h,by cases Vk s<;>rfl⟩
abbrev W15 [Sx.Dr]:=W14.add Kwm
def Kin:Con:={args:=[aI],ress:=[I],owns:=[],pre:=fun _=>[],spec:=fun(n,_)=>(Jp n 0 999999999,())}
theorem Kwj [Sx.Dr]:Ok Tryz.prog 58 Kin:=okW W15 Tryz.f58 na fun xx=>by
 obtain⟨(n:Int),_⟩:=xx
 refine(by kernel_rfl:(Keu n)=_).mp ?_
 delta Z76 Keu
 rfl
abbrev W16 [Sx.Dr]:=W15.add Kwj
abbrev Ev:=Int×ByteArray×List ByteArray×List Int×ByteArray
abbrev sEv:Sch:= .prod sI (.prod .str (.prod (.list 9 .str) (.prod (.list 3 sI) .str)))
abbrev aEv:AK:= .val true sEv
def Jj (k:ByteArray):Ks8:=(V2 .str k Di).getD ([],0,none,none,none)
def V4 (k:ByteArray):Bool:=(V2 .str k Di).isSome
def Ja (e:Ev):Int:=
 if Jp e.1 1 1000≠0 then Jp e.1 1 1000 else
 bif V4 e.2.1 then(if e.2.2.1.length=(Jj e.2.1).1.length∧(e.2.2.2.1.length:Int)=(Jj e.2.1).2.1 then
  Jg [Jg (e.2.2.1.map fun s=>bif Vk s then 0 else 8),Jg (e.2.2.2.1.map fun n=>Jp n 0 999999999),bif decide (0<e.2.2.2.2.size) then 1 else 0] else 2) else 13
theorem bn1 {b c:Bool} (h:(bif b then true else c)=false):b=false∧c=false:=by cases b<;>simp_all
def J6a:Con:={args:=[aEv],ress:=[I],owns:=[],pre:=fun(e,_)=>[e.2.2.1.length≤1000000,e.2.2.2.1.length≤1000000,∀s∈e.2.2.1,s.size≤1000000],spec:=fun(e,_)=>(Ja e,())}
def Z63 (a:Int) (b:Bt) (c:Ls) (d:Li) (e:Bt):=Ja (a,b,c,d,e)
def Kr1 (a:Ls):=List.map (fun(x:ByteArray)=>match Vk x with|true=>(0:Int)|false=>(8:Int)) a
def Jau (a:Ls):=∀(s:ByteArray),Jcd a s→ByteArray.size s≤1000000
def Kqf (a:Bt):=V2 Sch.str a Di
def Knp (a:Bt):=Option.getD (Kqf a) J3r
theorem Ktl [Sx.Dr]:Ok Tryz.prog 25 J6a:=okW W16 Tryz.f25 na fun xx=>by
 obtain⟨⟨(n:Int),(k:ByteArray),(ns:List ByteArray),(vs:List Int),(t:ByteArray)⟩,_⟩:=xx
 refine(by kernel_rfl:(Hw ns→Z55 vs→Jau ns→Br (Jp n 1 (1000:Int) !=0) (Jp n 1 1000=Z63 n k ns vs t) (Br (!Option.isSome (Kqf k)) (13=Z63 n k ns vs t) (Br (bif Ln ns !=Ln (Knp k).1 then true else Ln vs !=(Knp k).2.1) (2=Z63 n k ns vs t) ((Hw ns∧Jau ns)∧(Z55 vs∧∀(x:Int),J2d vs x→True)∧(List.length (Kr1 ns)≤1000000∧List.length (List.map (fun(x:Int)=>Z76 x) vs)≤1000000∧3≤1000000)∧Jg [Jg (Kr1 ns),Jg (List.map (fun(x:Int)=>Z76 x) vs),bif !Lb t B0 then 1 else 0]=Z63 n k ns vs t))))=_).mp ?_
 delta Z55 Z63 Z76 Hw J2d Jcd J3r Kr1 Jau Kqf Knp Br Ln B0 Lb
 intro h1 h2 h3
 unfold Ja Jj V4
 dsimp only
 refine⟨fun h=> ?_,fun h=> ?_⟩
 ·rw[if_pos (bne_iff_ne.1 h)]
 rw[if_neg (by have:=bne_eq_false_iff_eq.1 h;simpa using this)]
 refine⟨fun h4=> ?_,fun h4=> ?_⟩
 ·rw[Bool.not_eq_true'] at h4
  rw[h4];rfl
 rw[Bool.not_eq_false'] at h4
 rw[h4,cond_true]
 refine⟨fun h5=> ?_,fun h5=>⟨⟨h1,h3⟩,⟨h2,fun _ _=>trivial⟩,⟨by simpa using h1,by simpa using h2,by decide⟩, ?_⟩⟩
 ·rw[if_neg]
  rintro⟨e1,e2⟩
  rw[e1,e2] at h5
  simp at h5
 ·have h6:=bn1 h5
  rw[if_pos ⟨Int.ofNat_inj.1 (bne_eq_false_iff_eq.1 h6.1),bne_eq_false_iff_eq.1 h6.2⟩,Jgr]
  rfl
abbrev W17 [Sx.Dr]:=W16.add Ktl
abbrev Jid:Sch:= .prod sI sI
abbrev Sta:=ByteArray×Int×Int
abbrev Ord:=ByteArray×ByteArray×ByteArray×(Int×Int)×Int×Int×Int
abbrev Met:=ByteArray×Int×Int×Int
abbrev Out:=ByteArray×ByteArray×(Int×Int)×Int
abbrev Per:=ByteArray×ByteArray×Bool
abbrev Xc:Sch:= .prod .str (.prod sI sI)
abbrev Yn:Sch:= .prod .str (.prod .str (.prod .str (.prod Jid (.prod sI (.prod sI sI)))))
abbrev Xx:Sch:= .prod .str (.prod sI (.prod sI sI))
abbrev Xi:Sch:= .prod .str (.prod .str (.prod Jid sI))
abbrev Yv:Sch:= .prod .str (.prod .str .bool)
def Kts:Con:={args:=[.val true Xc],ress:=[tS],owns:=[],pre:=fun _=>[],spec:=fun(x,_)=>(x.1,())}
def Ktu:Con:={args:=[.val true Yn],ress:=[tS],owns:=[],pre:=fun _=>[],spec:=fun(x,_)=>(x.1,())}
def Ktr:Con:={args:=[.val true Xi],ress:=[tS],owns:=[],pre:=fun _=>[],spec:=fun(x,_)=>(x.1,())}
def Ktt:Con:={args:=[.val true Yv],ress:=[tS],owns:=[],pre:=fun _=>[],spec:=fun(x,_)=>(x.1,())}
theorem Kfa [Sx.Dr] (x:Sta):wpF Tryz.prog W17.g (na ()) Tryz.f239 Kts (x,()):=by
 refine(by kernel_rfl:(x.1=x.1)=_).mp ?_
 rfl
theorem Kf0 [Sx.Dr]:Ok Tryz.prog 239 Kts:=Ye mixed W17.ok (by kernel_rfl) (by kernel_rfl) na fun xx=>Kfa xx.1
abbrev W18 [Sx.Dr]:=W17.add Kf0
theorem Ke9 [Sx.Dr] (x:Ord):wpF Tryz.prog W18.g (na ()) Tryz.f240 Ktu (x,()):=by
 refine(by kernel_rfl:(x.1=x.1)=_).mp ?_
 rfl
theorem Kfz [Sx.Dr]:Ok Tryz.prog 240 Ktu:=Ye mixed W18.ok (by kernel_rfl) (by kernel_rfl) na fun xx=>Ke9 xx.1
abbrev W19 [Sx.Dr]:=W18.add Kfz
theorem Ke8 [Sx.Dr] (x:Out):wpF Tryz.prog W19.g (na ()) Tryz.f241 Ktr (x,()):=by
 refine(by kernel_rfl:(x.1=x.1)=_).mp ?_
 rfl
theorem Kfy [Sx.Dr]:Ok Tryz.prog 241 Ktr:=Ye mixed W19.ok (by kernel_rfl) (by kernel_rfl) na fun xx=>Ke8 xx.1
abbrev W20 [Sx.Dr]:=W19.add Kfy
theorem Ke7 [Sx.Dr] (x:Per):wpF Tryz.prog W20.g (na ()) Tryz.f242 Ktt (x,()):=by
 refine(by kernel_rfl:(x.1=x.1)=_).mp ?_
 rfl
theorem Kfx [Sx.Dr]:Ok Tryz.prog 242 Ktt:=Ye mixed W20.ok (by kernel_rfl) (by kernel_rfl) na fun xx=>Ke7 xx.1
abbrev W21 [Sx.Dr]:=W20.add Kfx
def Jd:ByteArray:=⟨⟨[]⟩⟩
def Vb {α:Type} (p:α→Bool):List α→Nat→Int
 |[],_=> -1
 |x::r,k=>if p x=true then(k:Int) else Vb p r (k+1)
theorem Vr {α:Type} {p:α→Bool} {l:List α} {k:Nat} {d:α} (h:k<l.length):Vb p (l.drop k) k=if p (l.getD k d)=true then(k:Int) else Vb p (l.drop (k+1)) (k+1):=by
 rw[List.drop_eq_getElem_cons h]
 simp[Vb,List.getD_eq_getElem?_getD,h]
abbrev Jjn (T:TypeId) (s:Sch) (g:Bool) (l:List s.T) (q:Tup [(g,s)]→List Prop) (f:Tup [(g,s)]→Bool):Ann:={X:=Nat,σ:=fun k=>⟨2,[(0, .one (.sl 0)),(1, .one (.fv 1)),(7, .one (.int .i64 l.length)),(8, .one (.int .i64 k))],[(0, .imm T s l),(1, .afn [(g,s)] Bo q f)]⟩,inv:=fun k=>k≤l.length∧Vb (fun x=>f (x,())) l 0=Vb (fun x=>f (x,())) (l.drop k) k,mu:=fun k=>l.length-k}
def J5u (T:TypeId) (s:Sch) (g:Bool):Con:={args:=[.val false (.list T s), .fn [(g,s)] Bo],ress:=[I],owns:=[],pre:=fun(l,(q,_),_)=>[l.length≤1000000,∀x∈l,K6 (q (x,()))],spec:=fun(l,(_,f),_)=>(Vb (fun x=>f (x,())) l 0,())}
def Jvg:Sta:=(Jd,0,0)
def Ktw:Con:={args:=[.val true Xc, .ref 9 .str],ress:=[Bo],owns:=[],pre:=fun _=>[],spec:=fun(x,s,_)=>(x.1.toList==s.toList,())}
theorem Kff [Sx.Dr] (x:Sta) (s:ByteArray):wpF Tryz.prog W21.g (na ()) Tryz.f157 Ktw (x,s,()):=by
 refine(by kernel_rfl:(Lb x.1 s=Lb x.1 s)=_).mp ?_
 delta Lb
 rfl
theorem Kgb [Sx.Dr]:Ok Tryz.prog 157 Ktw:=Ye mixed W21.ok (by kernel_rfl) (by kernel_rfl) na fun xx=>Kff xx.1 xx.2.1
abbrev W22 [Sx.Dr]:=W21.add Kgb
def Z19:=(B0,(0:Int),(0:Int))
def Z53 (a:List Sta):=List.length a≤1000000
def Z70:=(-1)
def Jyx (a:List Sta) (b:Nat):=(List.getD a b Z19).2
def Jyw (a:List Sta) (b:Nat):=(List.getD a b Z19).1
def Jyv (a:List Sta) (b c:Nat):=List.length a-b<List.length a-c
def Kc5 (a:List Sta) (b:Nat):=(Jyw a b,E2 (Jyx a b))
def Krc (a:List Sta) (b:Nat):=(Kc5 a b,PUnit.unit)
def Kcj (a:Nat) (b:List Sta) (c:Sta×Unit→Bool):=a≤List.length b∧Vb (fun(x:Sta)=>c (x,PUnit.unit)) b 0=Vb (fun(x:Sta)=>c (x,PUnit.unit)) (List.drop a b) a
theorem Kgc [Sx.Dr]:Ok Tryz.prog 156 (J5u 109 Xc true):=okW W22 Tryz.f156 (fun xx=>Ho (Jjn 109 Xc true xx.1 xx.2.1.1 xx.2.1.2)) fun xx=>by
 obtain⟨(l:List Sta),⟨(q:Sta×Unit→List Prop),(f:Sta×Unit→Bool)⟩,_⟩:=xx
 refine(by kernel_rfl:(Z53 l→(∀(x:Sta),x∈l→K6 (q (x,PUnit.unit)))→∃(x:Nat),Si (Ln l) (0=Nc x∧Sf l ((fun(x:Sta×PUnit)=>q x)=q∧(fun(x:Sta×PUnit)=>f x)=f))∧Kcj x l f∧∀(x:Nat),Kcj x l f→Br (decide (Nc x<Ln l)) (T2 (Bd (Nc x) (Ln l)) (K6 (q (Krc l x)))∧Br (f (Krc l x)) (Nc x=Vb (fun(x:Sta)=>f (x,PUnit.unit)) l 0) (Z25 x∧∃(y:Nat),Si (Ln l) (Z93 x y∧Sf l ((fun(x:Sta×PUnit)=>q x)=q∧(fun(x:Sta×PUnit)=>f x)=f))∧Kcj y l f∧Jyv l y x)) (Z70=Vb (fun(x:Sta)=>f (x,PUnit.unit)) l 0))=_).mp ?_
 delta Z19 Z25 Z53 Z70 Z93 Jyx Jyw Jyv Kc5 Krc Kcj Br Iw Bd T2 Sf Si Ln Nc B0 E2
 intro hb hq
 refine⟨(0:Nat),⟨rfl,rfl,rfl,rfl,rfl⟩,⟨Nat.zero_le _,rfl⟩,fun(k:Nat) hk=>⟨fun h=> ?_,fun h=> ?_⟩⟩
 ·have hlt:k<l.length:=by simpa using h
  have hd:=Vr (p:=fun x=>f (x,())) (d:=Jvg) hlt
  refine⟨⟨by omega,by omega,hq (l.getD k Jvg) (Je hlt)⟩,fun h1=> ?_,fun h1=>⟨by omega,(k+1:Nat),⟨rfl,rfl,rfl,by simp,rfl⟩,⟨by omega, ?_⟩,by omega⟩⟩
  ·rw[hk.2,hd,if_pos (show f (l.getD k Jvg,())=true from h1)]
  ·rw[hk.2,hd,if_neg (by rw[show f (l.getD k Jvg,())=false from h1];simp)]
 ·have hlt:¬k<l.length:=by simpa using h
  have:k=l.length:=by omega
  rw[hk.2,this,List.drop_length];rfl
abbrev W23 [Sx.Dr]:=W22.add Kgc
def J3 (l:List Sta) (s:ByteArray):Int:=Vb (fun x=>x.1.toList==s.toList) l 0
def J5z:Con:={args:=[.val false (.list 109 Xc),aS],ress:=[I],owns:=[],pre:=fun(l,_)=>[l.length≤1000000],spec:=fun(l,s,_)=>(J3 l s,())}
theorem Khb [Sx.Dr]:Ok Tryz.prog 119 J5z:=okW W23 Tryz.f119 na fun xx=>by
 obtain⟨(l:List Sta),(s:ByteArray),_⟩:=xx
 refine(by kernel_rfl:(Z53 l→(Z53 l∧∀(x:Sta),x∈l→True)∧Vb (fun(x:Sta)=>List.beq (ByteArray.toList x.1) (ByteArray.toList s)) l 0=J3 l s)=_).mp ?_
 delta Z53
 exact fun h=>⟨⟨h,fun _ _=>trivial⟩,rfl⟩
abbrev W24 [Sx.Dr]:=W23.add Khb
def Km:Ord:=(Jd,Jd,Jd,(0,0),0,0,0)
def Kty:Con:={args:=[.val true Yn, .ref 9 .str],ress:=[Bo],owns:=[],pre:=fun _=>[],spec:=fun(x,s,_)=>(x.1.toList==s.toList,())}
theorem Kfe [Sx.Dr] (x:Ord) (s:ByteArray):wpF Tryz.prog W24.g (na ()) Tryz.f159 Kty (x,s,()):=by
 refine(by kernel_rfl:(Lb x.1 s=Lb x.1 s)=_).mp ?_
 delta Lb
 rfl
theorem Kf9 [Sx.Dr]:Ok Tryz.prog 159 Kty:=Ye mixed W24.ok (by kernel_rfl) (by kernel_rfl) na fun xx=>Kfe xx.1 xx.2.1
abbrev W25 [Sx.Dr]:=W24.add Kf9
def Z61 (a:List Ord):=List.length a≤1000000
def Z72:=((0:Int),(0:Int),(0:Int))
def Z97 (a:Nat) (b:List Ord):=decide (Nc a<Ln b)
def Jej:=(B0,B0,B0,((0:Int),(0:Int)),Z72)
def J1y (a:List Ord) (b:Nat):=List.getD a b Jej
def Kd4 (a:List Ord) (b:Ord×Unit→List Prop):=∀(x:Ord),x∈a→K6 (b (x,PUnit.unit))
def Jxc (a:List Ord) (b:Nat):=(J1y a b).1
def J3p (a:List Ord) (b:Nat):=(J1y a b).2
def J3o (a:List Ord) (b:Nat):=(J3p a b).2
def J1x (a:List Ord) (b:Nat):=(J3p a b).1
def J1w (a:List Ord) (b:Nat):=(J3o a b).1
def J3n (a:List Ord) (b:Nat):=(J3o a b).2
def J3m (a:List Ord) (b:Nat):=(J3n a b).2
def J1v (a:List Ord) (b:Nat):=(J3n a b).1
def J1u (a:List Ord) (b:Nat):=(J3m a b).2
def J1t (a:List Ord) (b:Nat):=(J3m a b).1
def Kcn (a:Nat) (b:List Ord) (c:Ord×Unit→Bool):=a≤List.length b∧Vb (fun(x:Ord)=>c (x,PUnit.unit)) b 0=Vb (fun(x:Ord)=>c (x,PUnit.unit)) (List.drop a b) a
def J67 (a:List Ord) (b:Nat):=(Jxc a b,J1x a b,J1w a b,E2 (J1v a b),J1t a b,E2 (J1u a b))
def J66 (a:List Ord) (b:Nat):=(J67 a b,PUnit.unit)
def Kag (a:Ord×Unit→List Prop) (b:List Ord) (c:Nat):=K6 (a (J66 b c))
theorem Kga [Sx.Dr]:Ok Tryz.prog 158 (J5u 110 Yn true):=okW W25 Tryz.f158 (fun xx=>Ho (Jjn 110 Yn true xx.1 xx.2.1.1 xx.2.1.2)) fun xx=>by
 obtain⟨(l:List Ord),⟨(q:Ord×Unit→List Prop),(f:Ord×Unit→Bool)⟩,_⟩:=xx
 refine(by kernel_rfl:(Z61 l→Kd4 l q→∃(x:Nat),Si (Ln l) (0=Nc x∧Sf l ((fun(x:Ord×PUnit)=>q x)=q∧(fun(x:Ord×PUnit)=>f x)=f))∧Kcn x l f∧∀(x:Nat),Kcn x l f→Br (Z97 x l) (T2 (Bd (Nc x) (Ln l)) (Kag q l x)∧Br (f (J66 l x)) (Nc x=Vb (fun(x:Ord)=>f (x,PUnit.unit)) l 0) (Z25 x∧∃(y:Nat),Si (Ln l) (Z93 x y∧Sf l ((fun(x:Ord×PUnit)=>q x)=q∧(fun(x:Ord×PUnit)=>f x)=f))∧Kcn y l f∧List.length l-y<List.length l-x)) (Z70=Vb (fun(x:Ord)=>f (x,PUnit.unit)) l 0))=_).mp ?_
 delta Z25 Z61 Z70 Z72 Z93 Z97 Jej J1y Kd4 Jxc J3p J3o J1x J1w J3n J3m J1v J1u J1t Kcn J67 J66 Kag Br Iw Bd T2 Sf Si Ln Nc B0 E2
 intro hb hq
 refine⟨(0:Nat),⟨rfl,rfl,rfl,rfl,rfl⟩,⟨Nat.zero_le _,rfl⟩,fun(k:Nat) hk=>⟨fun h=> ?_,fun h=> ?_⟩⟩
 ·have hlt:k<l.length:=by simpa using h
  have hd:=Vr (p:=fun x=>f (x,())) (d:=Km) hlt
  refine⟨⟨by omega,by omega,hq (l.getD k Km) (Je hlt)⟩,fun h1=> ?_,fun h1=>⟨by omega,(k+1:Nat),⟨rfl,rfl,rfl,by simp,rfl⟩,⟨by omega, ?_⟩,by omega⟩⟩
  ·rw[hk.2,hd,if_pos (show f (l.getD k Km,())=true from h1)]
  ·rw[hk.2,hd,if_neg (by rw[show f (l.getD k Km,())=false from h1];simp)]
 ·have hlt:¬k<l.length:=by simpa using h
  have:k=l.length:=by omega
  rw[hk.2,this,List.drop_length];rfl
abbrev W26 [Sx.Dr]:=W25.add Kga
def Uo (l:List Ord) (s:ByteArray):Int:=Vb (fun x=>x.1.toList==s.toList) l 0
def J51:Con:={args:=[.val false (.list 110 Yn),aS],ress:=[I],owns:=[],pre:=fun(l,_)=>[l.length≤1000000],spec:=fun(l,s,_)=>(Uo l s,())}
theorem Kha [Sx.Dr]:Ok Tryz.prog 120 J51:=okW W26 Tryz.f120 na fun xx=>by
 obtain⟨(l:List Ord),(s:ByteArray),_⟩:=xx
 refine(by kernel_rfl:(Z61 l→(Z61 l∧∀(x:Ord),x∈l→True)∧Vb (fun(x:Ord)=>List.beq (ByteArray.toList x.1) (ByteArray.toList s)) l 0=Uo l s)=_).mp ?_
 delta Z61
 exact fun h=>⟨⟨h,fun _ _=>trivial⟩,rfl⟩
abbrev W27 [Sx.Dr]:=W26.add Kha
def Jfi:Out:=(Jd,Jd,(0,0),0)
def Ktv:Con:={args:=[.val true Xi, .ref 9 .str],ress:=[Bo],owns:=[],pre:=fun _=>[],spec:=fun(x,s,_)=>(x.1.toList==s.toList,())}
theorem Kfd [Sx.Dr] (x:Out) (s:ByteArray):wpF Tryz.prog W27.g (na ()) Tryz.f161 Ktv (x,s,()):=by
 refine(by kernel_rfl:(Lb x.1 s=Lb x.1 s)=_).mp ?_
 delta Lb
 rfl
theorem Kf7 [Sx.Dr]:Ok Tryz.prog 161 Ktv:=Ye mixed W27.ok (by kernel_rfl) (by kernel_rfl) na fun xx=>Kfd xx.1 xx.2.1
abbrev W28 [Sx.Dr]:=W27.add Kf7
def Z27 (a:Nat) (b:List Out):=Bd (Nc a) (Ln b)
def Z54 (a:List Out):=List.length a≤1000000
def Z98 (a:Nat) (b:List Out):=decide (Nc a<Ln b)
def Jel:=(B0,B0,((0:Int),(0:Int)),(0:Int))
def Jus (a:List Out) (b c:Nat):=List.length a-b<List.length a-c
def J17 (a:List Out) (b:Nat):=(List.getD a b Jel).2
def Juq (a:List Out) (b:Nat):=(List.getD a b Jel).1
def J32 (a:List Out) (b:Nat):=(J17 a b).1
def Jyl (a:List Out) (b:Nat):=(J17 a b).2.1
def J3z (a:List Out) (b:Nat):=(J17 a b).2.2
def Kck (a:Nat) (b:List Out) (c:Out×Unit→Bool):=a≤List.length b∧Vb (fun(x:Out)=>c (x,PUnit.unit)) b 0=Vb (fun(x:Out)=>c (x,PUnit.unit)) (List.drop a b) a
def Kaw (a:List Out) (b:Nat):=(Juq a b,J32 a b,E2 (Jyl a b),J3z a b)
def Knr (a:List Out) (b:Nat):=(Kaw a b,PUnit.unit)
theorem Kf8 [Sx.Dr]:Ok Tryz.prog 160 (J5u 112 Xi true):=okW W28 Tryz.f160 (fun xx=>Ho (Jjn 112 Xi true xx.1 xx.2.1.1 xx.2.1.2)) fun xx=>by
 obtain⟨(l:List Out),⟨(q:Out×Unit→List Prop),(f:Out×Unit→Bool)⟩,_⟩:=xx
 refine(by kernel_rfl:(Z54 l→(∀(x:Out),x∈l→K6 (q (x,PUnit.unit)))→∃(x:Nat),Si (Ln l) (0=Nc x∧Sf l ((fun(x:Out×PUnit)=>q x)=q∧(fun(x:Out×PUnit)=>f x)=f))∧Kck x l f∧∀(x:Nat),Kck x l f→Br (Z98 x l) (T2 (Z27 x l) (K6 (q (Knr l x)))∧Br (f (Knr l x)) (Nc x=Vb (fun(x:Out)=>f (x,PUnit.unit)) l 0) (Z25 x∧∃(y:Nat),Si (Ln l) (Z93 x y∧Sf l ((fun(x:Out×PUnit)=>q x)=q∧(fun(x:Out×PUnit)=>f x)=f))∧Kck y l f∧Jus l y x)) (Z70=Vb (fun(x:Out)=>f (x,PUnit.unit)) l 0))=_).mp ?_
 delta Z25 Z27 Z54 Z70 Z93 Z98 Jel Jus J17 Juq J32 Jyl J3z Kck Kaw Knr Br Iw Bd T2 Sf Si Ln Nc B0 E2
 intro hb hq
 refine⟨(0:Nat),⟨rfl,rfl,rfl,rfl,rfl⟩,⟨Nat.zero_le _,rfl⟩,fun(k:Nat) hk=>⟨fun h=> ?_,fun h=> ?_⟩⟩
 ·have hlt:k<l.length:=by simpa using h
  have hd:=Vr (p:=fun x=>f (x,())) (d:=Jfi) hlt
  refine⟨⟨by omega,by omega,hq (l.getD k Jfi) (Je hlt)⟩,fun h1=> ?_,fun h1=>⟨by omega,(k+1:Nat),⟨rfl,rfl,rfl,by simp,rfl⟩,⟨by omega, ?_⟩,by omega⟩⟩
  ·rw[hk.2,hd,if_pos (show f (l.getD k Jfi,())=true from h1)]
  ·rw[hk.2,hd,if_neg (by rw[show f (l.getD k Jfi,())=false from h1];simp)]
 ·have hlt:¬k<l.length:=by simpa using h
  have:k=l.length:=by omega
  rw[hk.2,this,List.drop_length];rfl
abbrev W29 [Sx.Dr]:=W28.add Kf8
def Kb (l:List Out) (s:ByteArray):Int:=Vb (fun x=>x.1.toList==s.toList) l 0
def J5y:Con:={args:=[.val false (.list 112 Xi),aS],ress:=[I],owns:=[],pre:=fun(l,_)=>[l.length≤1000000],spec:=fun(l,s,_)=>(Kb l s,())}
theorem Kg9 [Sx.Dr]:Ok Tryz.prog 121 J5y:=okW W29 Tryz.f121 na fun xx=>by
 obtain⟨(l:List Out),(s:ByteArray),_⟩:=xx
 refine(by kernel_rfl:(Z54 l→(Z54 l∧∀(x:Out),x∈l→True)∧Vb (fun(x:Out)=>List.beq (ByteArray.toList x.1) (ByteArray.toList s)) l 0=Kb l s)=_).mp ?_
 delta Z54
 exact fun h=>⟨⟨h,fun _ _=>trivial⟩,rfl⟩
abbrev W30 [Sx.Dr]:=W29.add Kg9
def Jip:Per:=(Jd,Jd,false)
def Ktx:Con:={args:=[.val true Yv, .ref 9 .str],ress:=[Bo],owns:=[],pre:=fun _=>[],spec:=fun(x,s,_)=>(x.1.toList==s.toList,())}
theorem Kfc [Sx.Dr] (x:Per) (s:ByteArray):wpF Tryz.prog W30.g (na ()) Tryz.f163 Ktx (x,s,()):=by
 refine(by kernel_rfl:(Lb x.1 s=Lb x.1 s)=_).mp ?_
 delta Lb
 rfl
theorem Kf5 [Sx.Dr]:Ok Tryz.prog 163 Ktx:=Ye mixed W30.ok (by kernel_rfl) (by kernel_rfl) na fun xx=>Kfc xx.1 xx.2.1
abbrev W31 [Sx.Dr]:=W30.add Kf5
def Z31 (a:Nat) (b:List Per):=Bd (Nc a) (Ln b)
def Z49 (a:List Per):=List.length a≤1000000
def Jpx (a:Nat) (b:List Per):=decide (Nc a<Ln b)
def Juz (a:List Per) (b:Nat):=(List.getD a b (B0,B0,false)).2
def Jxh (a:List Per) (b:Nat):=(List.getD a b (B0,B0,false)).1
def Juu (a:List Per) (b c:Nat):=List.length a-b<List.length a-c
def Kd2 (a:List Per) (b:Per×Unit→List Prop):=∀(x:Per),x∈a→K6 (b (x,PUnit.unit))
def J8c (a:List Per) (b:Nat):=(Jxh a b,E2 (Juz a b))
def Kda (a:List Per) (b:Nat):=(J8c a b,PUnit.unit)
def Kc2 (a:Per×Unit→Bool) (b:List Per) (c:Nat):=a (Kda b c)
def Kcv (a:Per×Unit→List Prop) (b:List Per) (c:Nat):=K6 (a (Kda b c))
def Kcm (a:Nat) (b:List Per) (c:Per×Unit→Bool):=a≤List.length b∧Vb (fun(x:Per)=>c (x,PUnit.unit)) b 0=Vb (fun(x:Per)=>c (x,PUnit.unit)) (List.drop a b) a
theorem Kf6 [Sx.Dr]:Ok Tryz.prog 162 (J5u 113 Yv true):=okW W31 Tryz.f162 (fun xx=>Ho (Jjn 113 Yv true xx.1 xx.2.1.1 xx.2.1.2)) fun xx=>by
 obtain⟨(l:List Per),⟨(q:Per×Unit→List Prop),(f:Per×Unit→Bool)⟩,_⟩:=xx
 refine(by kernel_rfl:(Z49 l→Kd2 l q→∃(x:Nat),Si (Ln l) (0=Nc x∧Sf l ((fun(x:Per×PUnit)=>q x)=q∧(fun(x:Per×PUnit)=>f x)=f))∧Kcm x l f∧∀(x:Nat),Kcm x l f→Br (Jpx x l) (T2 (Z31 x l) (Kcv q l x)∧Br (Kc2 f l x) (Nc x=Vb (fun(x:Per)=>f (x,PUnit.unit)) l 0) (Z25 x∧∃(y:Nat),Si (Ln l) (Z93 x y∧Sf l ((fun(x:Per×PUnit)=>q x)=q∧(fun(x:Per×PUnit)=>f x)=f))∧Kcm y l f∧Juu l y x)) (Z70=Vb (fun(x:Per)=>f (x,PUnit.unit)) l 0))=_).mp ?_
 delta Z25 Z31 Z49 Z70 Z93 Jpx Juz Jxh Juu Kd2 J8c Kda Kc2 Kcv Kcm Br Iw Bd T2 Sf Si Ln Nc B0 E2
 intro hb hq
 refine⟨(0:Nat),⟨rfl,rfl,rfl,rfl,rfl⟩,⟨Nat.zero_le _,rfl⟩,fun(k:Nat) hk=>⟨fun h=> ?_,fun h=> ?_⟩⟩
 ·have hlt:k<l.length:=by simpa using h
  have hd:=Vr (p:=fun x=>f (x,())) (d:=Jip) hlt
  refine⟨⟨by omega,by omega,hq (l.getD k Jip) (Je hlt)⟩,fun h1=> ?_,fun h1=>⟨by omega,(k+1:Nat),⟨rfl,rfl,rfl,by simp,rfl⟩,⟨by omega, ?_⟩,by omega⟩⟩
  ·rw[hk.2,hd,if_pos (show f (l.getD k Jip,())=true from h1)]
  ·rw[hk.2,hd,if_neg (by rw[show f (l.getD k Jip,())=false from h1];simp)]
 ·have hlt:¬k<l.length:=by simpa using h
  have:k=l.length:=by omega
  rw[hk.2,this,List.drop_length];rfl
abbrev W32 [Sx.Dr]:=W31.add Kf6
def U2 (l:List Per) (s:ByteArray):Int:=Vb (fun x=>x.1.toList==s.toList) l 0
def J50:Con:={args:=[.val false (.list 113 Yv),aS],ress:=[I],owns:=[],pre:=fun(l,_)=>[l.length≤1000000],spec:=fun(l,s,_)=>(U2 l s,())}
def Kc8 (a:List Per):=Z49 a∧∀(x:Per),x∈a→True
theorem Kg8 [Sx.Dr]:Ok Tryz.prog 122 J50:=okW W32 Tryz.f122 na fun xx=>by
 obtain⟨(l:List Per),(s:ByteArray),_⟩:=xx
 refine(by kernel_rfl:(Z49 l→Kc8 l∧Vb (fun(x:Per)=>List.beq (ByteArray.toList x.1) (ByteArray.toList s)) l 0=U2 l s)=_).mp ?_
 delta Z49 Kc8
 exact fun h=>⟨⟨h,fun _ _=>trivial⟩,rfl⟩
abbrev W33 [Sx.Dr]:=W32.add Kg8
abbrev Reg:=Int×Int×List Sta×List Ord×List Met×List Out×List Per
abbrev Jif:Sch:= .prod sI (.prod sI (.prod (.list 109 Xc) (.prod (.list 110 Yn) (.prod (.list 111 Xx) (.prod (.list 112 Xi) (.list 113 Yv))))))
abbrev Jat:AK:= .val true Jif
def Uh (s:Int×Int) (h:Int):Bool:=bif decide (s.1≤h) then decide (h<s.2) else false
def Js7:Con:={args:=[.val true Jid,aI],ress:=[Bo],owns:=[],pre:=fun _=>[],spec:=fun(s,h,_)=>(Uh s h,())}
theorem Kgm [Sx.Dr]:Ok Tryz.prog 146 Js7:=okW W33 Tryz.f146 na fun xx=>by
 obtain⟨⟨(a:Int),(b:Int)⟩,(h:Int),_⟩:=xx
 refine(by kernel_rfl:((bif decide (a≤h) then decide (h<b) else false)=Uh (a,b) h)=_).mp ?_
 rfl
abbrev W34 [Sx.Dr]:=W33.add Kgm
def Ka (x:Ord) (h:Int):Bool:=bif Uh x.2.2.2.1 h then(bif x.2.2.2.2.2.2== -1 then true else decide (h<x.2.2.2.2.2.2)) else false
def J0m:Con:={args:=[.val true Yn,aI],ress:=[Bo],owns:=[],pre:=fun _=>[],spec:=fun(x,h,_)=>(Ka x h,())}
theorem Kgy [Sx.Dr]:Ok Tryz.prog 134 J0m:=okW W34 Tryz.f134 na fun xx=>by
 obtain⟨⟨(n:ByteArray),(f:ByteArray),(t:ByteArray),⟨(a:Int),(b:Int)⟩,(p:Int),(c:Int),(r:Int)⟩,(h:Int),_⟩:=xx
 refine(by kernel_rfl:((bif Uh (a,b) h then bif r==Z70 then true else decide (h<r) else false)=Ka (n,f,t,(a,b),p,c,r) h)=_).mp ?_
 delta Z70
 rfl
abbrev W35 [Sx.Dr]:=W34.add Kgy
def Dt (x:Ord) (s:ByteArray):Bool:=bif x.2.1.toList==s.toList then true else x.2.2.1.toList==s.toList
def J6d:Con:={args:=[.val true Yn,aS],ress:=[Bo],owns:=[],pre:=fun _=>[],spec:=fun(x,s,_)=>(Dt x s,())}
theorem Kgn [Sx.Dr]:Ok Tryz.prog 145 J6d:=okW W35 Tryz.f145 na fun xx=>by
 obtain⟨⟨(n:ByteArray),(f:ByteArray),(t:ByteArray),⟨(a:Int),(b:Int)⟩,(p:Int),(c:Int),(r:Int)⟩,(s:ByteArray),_⟩:=xx
 refine(by kernel_rfl:((bif Lb f s then true else Lb t s)=Dt (n,f,t,(a,b),p,c,r) s)=_).mp ?_
 delta Lb
 rfl
abbrev W36 [Sx.Dr]:=W35.add Kgn
def Jvv (x:Out) (s:ByteArray) (h:Int):Bool:=bif x.2.1.toList==s.toList then Uh x.2.2.1 h else false
def Kxu:Con:={args:=[.val true Xi,aS,aI],ress:=[Bo],owns:=[],pre:=fun _=>[],spec:=fun(x,s,h,_)=>(Jvv x s h,())}
theorem Kf3 [Sx.Dr]:Ok Tryz.prog 176 Kxu:=okW W36 Tryz.f176 na fun xx=>by
 obtain⟨⟨(n:ByteArray),(f:ByteArray),⟨(a:Int),(b:Int)⟩,(p:Int)⟩,(s:ByteArray),(h:Int),_⟩:=xx
 refine(by kernel_rfl:((bif Lb f s then Uh (a,b) h else false)=Jvv (n,f,(a,b),p) s h)=_).mp ?_
 delta Lb
 rfl
abbrev W37 [Sx.Dr]:=W36.add Kf3
theorem Jo {α:Type} {l:List α} {k:Nat} {d:α} (h:k<l.length):l.drop k=l.getD k d::l.drop (k+1):=by
 rw[List.drop_eq_getElem_cons h,List.getD_eq_getElem?_getD,List.getElem?_eq_getElem h];rfl
theorem Jaf {α:Type} {p:α→Bool}:∀{l:List α} {k:Nat},Vb p l k<k+l.length∧-1≤Vb p l k
 |[],k=>by simp[Vb];omega
 | x :: l, k => by
  unfold Vb
  split
  ·simp only[List.length_cons];omega
  ·have:=Jaf (p:=p) (l:=l) (k:=k+1)
   simp only[List.length_cons];omega
theorem Kv {l:List Sta} {s:ByteArray}:J3 l s<l.length:=by have:=(Jaf (p:=fun x=>x.1.toList==s.toList) (l:=l) (k:=0)).1;unfold J3;omega
theorem Ue {l:List Ord} {s:ByteArray}:Uo l s<l.length:=by have:=(Jaf (p:=fun x=>x.1.toList==s.toList) (l:=l) (k:=0)).1;unfold Uo;omega
theorem K2 {l:List Out} {s:ByteArray}:Kb l s<l.length:=by have:=(Jaf (p:=fun x=>x.1.toList==s.toList) (l:=l) (k:=0)).1;unfold Kb;omega
theorem Ud {l:List Per} {s:ByteArray}:U2 l s<l.length:=by have:=(Jaf (p:=fun x=>x.1.toList==s.toList) (l:=l) (k:=0)).1;unfold U2;omega
def Ub (M:List Met) (n:ByteArray) (h:Int):Int:=Vb (fun x=>bif x.1.toList==n.toList then x.2.1==h else false) M 0
theorem Jix {l:List Met} {s:ByteArray} {h:Int}:Ub l s h<l.length:=by have:=(Jaf (p:=fun x=>bif x.1.toList==s.toList then x.2.1==h else false) (l:=l) (k:=0)).1;unfold Ub;omega
structure J2k (x:Sta):Prop where
 lim:1≤x.2.1∧x.2.1≤1000
 pri:0≤x.2.2∧x.2.2≤1000
structure Jny (x:Int×Int):Prop where
 lo:0≤x.1
 mid:x.1≤x.2
 hi:x.2≤999999999
 len:x.2-x.1≤48
structure Jhp (S:List Sta) (x:Ord):Prop where
 span:Jny x.2.2.2.1
 pow:1≤x.2.2.2.2.1∧x.2.2.2.2.1≤1000
 pri:0≤x.2.2.2.2.2.1∧x.2.2.2.2.2.1≤1000
 trip: -1≤x.2.2.2.2.2.2∧x.2.2.2.2.2.2≤999999999
 fr:0≤J3 S x.2.1
 tu:0≤J3 S x.2.2.1
structure Jxi (x:Met):Prop where
 hour:0≤x.2.1∧x.2.1≤999999999
 sent:0≤x.2.2.1∧x.2.2.1≤1000
 got:0≤x.2.2.2∧x.2.2.2≤x.2.2.1
structure Jls (S:List Sta) (x:Out):Prop where
 span:Jny x.2.2.1
 rest:0≤x.2.2.2∧x.2.2.2≤1000
 sta:0≤J3 S x.2.1
structure Js (r:Reg):Prop where
 tk:0≤r.1∧r.1≤999999999
 st:0≤r.2.1∧r.2.1≤r.1
 nS:r.2.2.1.length≤6
 nO:r.2.2.2.1.length≤32
 nM:r.2.2.2.2.1.length≤10000
 nX:r.2.2.2.2.2.1.length≤16
 nQ:r.2.2.2.2.2.2.length≤16
 sta:∀x∈r.2.2.1,J2k x
 ord:∀x∈r.2.2.2.1,Jhp r.2.2.1 x
 met:∀x∈r.2.2.2.2.1,Jxi x
 out:∀x∈r.2.2.2.2.2.1,Jls r.2.2.1 x
 per:∀x∈r.2.2.2.2.2.2,0≤Kb r.2.2.2.2.2.1 x.2.1
 done:∀x∈r.2.2.2.1,∀h,Ka x h=true→h<r.2.1→0≤Ub r.2.2.2.2.1 x.1 h
def Lm (S:List Sta) (s:ByteArray):Sta:=S.getD (J3 S s).toNat Jvg
def J0g:Con:={args:=[Jat,aS],ress:=[(true,Xc)],owns:=[],pre:=fun((_,_,S,_),s,_)=>[S.length≤1000000,0≤J3 S s],spec:=fun((_,_,S,_),s,_)=>(Lm S s,())}
def Z29 (a:List Sta) (b:Bt):=0≤J3 a b
def J82 (a:List Sta) (b:Bt):=Gt a (J3 a b) Z19
theorem Kgp [Sx.Dr]:Ok Tryz.prog 143 J0g:=okW W37 Tryz.f143 na fun xx=>by
 obtain⟨⟨(tk:Int),(st:Int),(S:List Sta),(O:List Ord),(M:List Met),(X:List Out),(Q:List Per)⟩,(s:ByteArray),_⟩:=xx
 refine(by kernel_rfl:(Z53 S→Z29 S s→(Z53 S∧Tw (Bd (J3 S s) (Ln S)))∧((J82 S s).1,E2 (J82 S s).2)=Lm S s)=_).mp ?_
 delta Z19 Z29 Z53 J82 Bd Tw Ln Gt B0 E2
 exact fun h1 h2=>⟨⟨h1,⟨h2,Kv⟩,⟨h2,Kv⟩⟩,rfl⟩
abbrev W38 [Sx.Dr]:=W37.add Kgp
def Dd (O:List Ord) (s:ByteArray):Ord:=O.getD (Uo O s).toNat Km
def J0j:Con:={args:=[Jat,aS],ress:=[(true,Yn)],owns:=[],pre:=fun((_,_,_,O,_),s,_)=>[O.length≤1000000,0≤Uo O s],spec:=fun((_,_,_,O,_),s,_)=>(Dd O s,())}
def Kr4 (a:List Ord) (b:Bt):=Gt a (Uo a b) Jej
def Krx (a:List Ord) (b:Bt):=(Kr4 a b).2
def Kru (a:List Ord) (b:Bt):=(Krx a b).2
def Krs (a:List Ord) (b:Bt):=(Kru a b).2
def Krp (a:List Ord) (b:Bt):=(Krs a b).2
theorem Kgo [Sx.Dr]:Ok Tryz.prog 144 J0j:=okW W38 Tryz.f144 na fun xx=>by
 obtain⟨⟨(tk:Int),(st:Int),(S:List Sta),(O:List Ord),(M:List Met),(X:List Out),(Q:List Per)⟩,(s:ByteArray),_⟩:=xx
 refine(by kernel_rfl:(Z61 O→0≤Uo O s→(Z61 O∧Tw (Bd (Uo O s) (Ln O)))∧((Kr4 O s).1,(Krx O s).1,(Kru O s).1,E2 (Krs O s).1,(Krp O s).1,E2 (Krp O s).2)=Dd O s)=_).mp ?_
 delta Z61 Z72 Jej Kr4 Krx Kru Krs Krp Bd Tw Ln Gt B0 E2
 exact fun h1 h2=>⟨⟨h1,⟨h2,Ue⟩,⟨h2,Ue⟩⟩,rfl⟩
abbrev W39 [Sx.Dr]:=W38.add Kgo
def H9 (X:List Out) (s:ByteArray):Out:=X.getD (Kb X s).toNat Jfi
def J0i:Con:={args:=[Jat,aS],ress:=[(true,Xi)],owns:=[],pre:=fun((_,_,_,_,_,X,_),s,_)=>[X.length≤1000000,0≤Kb X s],spec:=fun((_,_,_,_,_,X,_),s,_)=>(H9 X s,())}
def Kes (a:List Out) (b:Bt):=(Gt a (Kb a b) Jel).2
theorem Kgj [Sx.Dr]:Ok Tryz.prog 149 J0i:=okW W39 Tryz.f149 na fun xx=>by
 obtain⟨⟨(tk:Int),(st:Int),(S:List Sta),(O:List Ord),(M:List Met),(X:List Out),(Q:List Per)⟩,(s:ByteArray),_⟩:=xx
 refine(by kernel_rfl:(Z54 X→0≤Kb X s→(Z54 X∧Tw (Bd (Kb X s) (Ln X)))∧((Gt X (Kb X s) Jel).1,(Kes X s).1,E2 (Kes X s).2.1,(Kes X s).2.2)=H9 X s)=_).mp ?_
 delta Z54 Jel Kes Bd Tw Ln Gt B0 E2
 exact fun h1 h2=>⟨⟨h1,⟨h2,K2⟩,⟨h2,K2⟩⟩,rfl⟩
abbrev W40 [Sx.Dr]:=W39.add Kgj
def Jmk (Q:List Per) (s:ByteArray):Per:=Q.getD (U2 Q s).toNat Jip
def J0h:Con:={args:=[Jat,aS],ress:=[(true,Yv)],owns:=[],pre:=fun((_,_,_,_,_,_,Q),s,_)=>[Q.length≤1000000,0≤U2 Q s],spec:=fun((_,_,_,_,_,_,Q),s,_)=>(Jmk Q s,())}
theorem Kgf [Sx.Dr]:Ok Tryz.prog 153 J0h:=okW W40 Tryz.f153 na fun xx=>by
 obtain⟨⟨(tk:Int),(st:Int),(S:List Sta),(O:List Ord),(M:List Met),(X:List Out),(Q:List Per)⟩,(s:ByteArray),_⟩:=xx
 refine(by kernel_rfl:(Z49 Q→0≤U2 Q s→(Z49 Q∧Tw (Bd (U2 Q s) (Ln Q)))∧((Gt Q (U2 Q s) (B0,B0,false)).1,E2 (Gt Q (U2 Q s) (B0,B0,false)).2)=Jmk Q s)=_).mp ?_
 delta Z49 Bd Tw Ln Gt B0 E2
 exact fun h1 h2=>⟨⟨h1,⟨h2,Ud⟩,⟨h2,Ud⟩⟩,rfl⟩
abbrev W41 [Sx.Dr]:=W40.add Kgf
def Um:List Ord→ByteArray→Int→Int
 |[],_,_=>0
 |x::l,s,h=>(bif bif Dt x s then Ka x h else false then x.2.2.2.2.1 else 0)+Um l s h
theorem Jgv {S:List Sta} {s:ByteArray} {h:Int}:∀{O:List Ord},(∀x∈O,Jhp S x)→0≤Um O s h∧Um O s h≤1000*O.length
 |[],_=>by simp[Um]
 |x::l,hO=>by
  have:=Jgv (s:=s) (h:=h) (O:=l) fun y hy=>hO y (List.mem_cons_of_mem _ hy)
  have hx:=(hO x (List.mem_cons_self ..)).pow
  unfold Um
  simp only[List.length_cons]
  cases(bif Dt x s then Ka x h else false)<;>simp only[cond_true,cond_false]<;>omega
def Kih:Con:={args:=[Jat,aS,aI],ress:=[I],owns:=[],pre:=fun(r,_)=>[Js r],spec:=fun((_,_,_,O,_),s,h,_)=>(Um O s h,())}
abbrev J08 (O:List Ord) (s:ByteArray) (h:Int):Ann:={X:=Nat×Int,σ:=fun(k,n)=>⟨1,[(1, .one (.str s)),(2, .one (.int .i64 h)),(7, .one (.int .i64 n)),(11, .one (.sl 0)),(12, .one (.int .i64 O.length)),(13, .one (.int .i64 k))],[(0, .imm 110 Yn O)]⟩,inv:=fun(k,n)=>k≤O.length∧0≤n∧n≤1000*k∧n+Um (O.drop k) s h=Um O s h,mu:=fun(k,_)=>O.length-k}
def Z42 (a:Nat×Int):=Iw (Nc a.1+1)
def Z62 (a b:Int) (c:List Sta) (d:List Ord) (e:List Met) (f:List Out) (g:List Per):=(a,b,c,d,e,f,g)
def Jux (a b:Nat×Int):=Nc a.1+1=Nc b.1
def Kf (a b:Int) (c:List Sta) (d:List Ord) (e:List Met) (f:List Out) (g:List Per):=Js (Z62 a b c d e f g)
def J8j (a:List Ord) (b:Nat×Int):=List.getD a b.1 Jej
def J8i (a:List Ord) (b:Nat×Int):=(J8j a b).2
def J8h (a:List Ord) (b:Nat×Int):=(J8i a b).1
def J8g (a:List Ord) (b:Nat×Int):=(J8i a b).2
def J8f (a:List Ord) (b:Nat×Int):=(J8g a b).2
def J8e (a:List Ord) (b:Nat×Int):=(J8g a b).1
def J8d (a:List Ord) (b:Nat×Int):=(J8f a b).2
def J8b (a:List Ord) (b:Nat×Int):=(J8d a b).2
def J8a (a:List Ord) (b:Nat×Int):=(J8d a b).1
def Kc4 (a:Nat×Int) (b:List Ord):=a.2+J8a b a
def Kcy (a:Nat×Int) (b:List Ord):=Iw (Kc4 a b)
def Kcx (a:Nat×Int) (b:List Ord) (c:Nat×Int):=Kc4 a b=c.2
def Kby (a:Nat×Int) (b:List Ord) (c:Bt) (d:Int):=a.1≤List.length b∧0≤a.2∧a.2≤1000*Nc a.1∧a.2+Um (List.drop a.1 b) c d=Um b c d
def Kod (a:Nat×Int) (b:List Ord) (c:Bt) (d:Int) (e:Nat×Int):=Kby a b c d∧List.length b-a.1<List.length b-e.1
def J1l (a:List Ord) (b:Nat×Int):=((J8j a b).1,J8h a b,J8e a b,E2 (J8f a b).1,J8a a b,E2 (J8b a b))
def Kaf (a:List Ord) (b:Nat×Int) (c:Int):=Ka (J1l a b) c
theorem Kgk [Sx.Dr]:Ok Tryz.prog 148 Kih:=okW W41 Tryz.f148 (fun xx=>Ho (J08 xx.1.2.2.2.1 xx.2.1 xx.2.2.1)) fun xx=>by
 obtain⟨⟨(tk:Int),(st:Int),(S:List Sta),(O:List Ord),(M:List Met),(X:List Out),(Q:List Per)⟩,(s:ByteArray),(h:Int),_⟩:=xx
 refine(by kernel_rfl:(Kf tk st S O M X Q→∃(x:Nat×Int),Sf s (Si h (0=x.2∧Si (Ln O) (0=Nc x.1∧O=O)))∧Kby x O s h∧∀(x:Nat×Int),Kby x O s h→Br (decide (Nc x.1<Ln O)) (Tw (Bd (Nc x.1) (Ln O))∧Br (bif Dt (J1l O x) s then Kaf O x h else false) (Kcy x O∧Z42 x∧∃(y:Nat×Int),Sf s (Si h (Kcx x O y∧Si (Ln O) (Jux x y∧O=O)))∧Kod y O s h x) (Z42 x∧∃(y:Nat×Int),Sf s (Si h (x.2=y.2∧Si (Ln O) (Jux x y∧O=O)))∧Kod y O s h x)) (x.2=Um O s h))=_).mp ?_
 delta Z42 Z62 Z72 Jux Kf Jej J8j J8i J8h J8g J8f J8e J8d J8b J8a Kc4 Kcy Kcx Kby Kod J1l Kaf Br Iw Bd Tw Sf Si Ln Nc B0 E2
 intro hr
 have hO:∀x∈O,Jhp S x:=hr.ord
 have nO:O.length≤32:=hr.nO
 refine⟨((0:Nat),(0:Int)),⟨rfl,rfl,rfl,rfl,rfl,rfl⟩,⟨Nat.zero_le _,by simp,by simp,by simp⟩,fun(x:Nat×Int) hk=>⟨fun h1=> ?_,fun h1=> ?_⟩⟩
 ·obtain⟨k,n⟩:=x
  have hlt:k<O.length:=by simpa using h1
  have ho:=hO _ (Je (d:=Km) hlt)
  have hp:=ho.pow
  dsimp only at hk⊢
  obtain⟨k1,k2,k3,k4⟩:=hk
  rw[Jo (d:=Km) hlt,Um] at k4
  refine⟨⟨by omega,by omega⟩,fun h2=> ?_,fun h2=> ?_⟩
  ·have h3:(bif Dt (O.getD k Km) s then Ka (O.getD k Km) h else false)=true:=h2
   rw[h3,cond_true] at k4
   refine⟨⟨?_, ?_⟩,⟨by omega,by omega⟩,(k+1,n+(O.getD k Km).2.2.2.2.1),⟨rfl,rfl,rfl,rfl,by simp,rfl⟩,⟨by simp only;omega,by simp only;omega,by simp only;omega,by simp only;omega⟩,by simp only;omega⟩
   ·show _≤n+(O.getD k Km).2.2.2.2.1;omega
   ·show n+(O.getD k Km).2.2.2.2.1≤_;omega
  ·have h3:(bif Dt (O.getD k Km) s then Ka (O.getD k Km) h else false)=false:=h2
   rw[h3,cond_false] at k4
   refine⟨⟨by omega,by omega⟩,(k+1,n),⟨rfl,rfl,rfl,rfl,by simp,rfl⟩,⟨by simp only;omega,by simp only;omega,by simp only;omega,by simp only;omega⟩,by simp only;omega⟩
 ·obtain⟨k,n⟩:=x
  have hlt:¬k<O.length:=by simpa using h1
  simp only at hk
  have:k=O.length:=by omega
  rw[this,List.drop_length,Um] at hk
  show n=_
  omega
abbrev W42 [Sx.Dr]:=W41.add Kgk
theorem Jqn {S:List Sta} {s:ByteArray} (h:∀x∈S,J2k x) (hf:0≤J3 S s):J2k (Lm S s):=by
 have:=Kv (l:=S) (s:=s)
 exact h _ (Je (by omega))
def Jex:List Out→ByteArray→Int→Int→Int
 |[],_,_,n=>n
 |x::l,s,h,n=>Jex l s h (bif Jvv x s h then min n x.2.2.2 else n)
def Xm (S:List Sta) (O:List Ord) (X:List Out) (s:ByteArray) (h:Int):Int:=Jex X s h (Lm S s).2.1-Um O s h
def Kh9:Con:={args:=[Jat,aS,aI],ress:=[I],owns:=[],pre:=fun(r,s,_)=>[Js r,0≤J3 r.2.2.1 s],spec:=fun((_,_,S,O,_,X,_),s,h,_)=>(Xm S O X s h,())}
abbrev J00 (tk st:Int) (S:List Sta) (O:List Ord) (M:List Met) (X:List Out) (Q:List Per) (s:ByteArray) (h:Int):Ann:={X:=Nat×Int,σ:=fun(k,n)=>⟨6,[(1, .one (.str s)),(2, .one (.int .i64 h)),(3, .one (.ptr 5 0)),(7, .one (.int .i64 n)),(15, .one (.sl 3)),(16, .one (.int .i64 X.length)),(17, .one (.int .i64 k))],[(0, .imm 109 Xc S),(1, .imm 110 Yn O),(2, .imm 111 Xx M),(3, .imm 112 Xi X),(4, .imm 113 Yv Q),(5, .box 48 [.int .i64 tk, .int .i64 st, .sl 0, .sl 1, .sl 2, .sl 3, .sl 4])]⟩,inv:=fun(k,n)=>k≤X.length∧0≤n∧n≤1000∧Jex (X.drop k) s h n=Jex X s h (Lm S s).2.1,mu:=fun(k,_)=>X.length-k}
def J31 (a:List Out) (b:Nat×Int):=(List.getD a b.1 Jel).2
def J3w (a:List Out) (b:Nat×Int):=(J31 a b).2.2
def Kee (a:List Out) (b:Nat×Int):=E2 (J31 a b).2.1
def Jpe (a:List Sta) (b:List Ord) (c:List Met) (d:List Out) (e:List Per) (f g:Int):=Sf a (Sf b (Sf c (Sf d (Sf e (Si f (g=g))))))
def Kb6 (a:Nat×Int) (b:List Out) (c:Bt) (d:Int) (e:List Sta):=a.1≤List.length b∧0≤a.2∧a.2≤1000∧Jex (List.drop a.1 b) c d a.2=Jex b c d (Lm e c).2.1
def Jyi (a:Nat×Int) (b:List Sta) (c:List Ord) (d:List Met) (e:List Out) (f:List Per) (g h:Int):=0=Nc a.1∧Jpe b c d e f g h
def Jt6 (a b:Nat×Int) (c:List Sta) (d:List Ord) (e:List Met) (f:List Out) (g:List Per) (h i:Int):=Jux a b∧Jpe c d e f g h i
def Koe (a:Nat×Int) (b:List Out) (c:Bt) (d:Int) (e:List Sta) (f:Nat×Int):=Kb6 a b c d e∧List.length b-a.1<List.length b-f.1
theorem Kgq [Sx.Dr]:Ok Tryz.prog 142 Kh9:=okW W42 Tryz.f142 (fun xx=>Ho (J00 xx.1.1 xx.1.2.1 xx.1.2.2.1 xx.1.2.2.2.1 xx.1.2.2.2.2.1 xx.1.2.2.2.2.2.1 xx.1.2.2.2.2.2.2 xx.2.1 xx.2.2.1)) fun xx=>by
 obtain⟨⟨(tk:Int),(st:Int),(S:List Sta),(O:List Ord),(M:List Met),(X:List Out),(Q:List Per)⟩,(s:ByteArray),(h:Int),_⟩:=xx
 refine(by kernel_rfl:(Kf tk st S O M X Q→Z29 S s→(Z53 S∧Z29 S s)∧∃(x:Nat×Int),Sf s (Si h ((Lm S s).2.1=x.2∧Si (Ln X) (Jyi x S O M X Q tk st)))∧Kb6 x X s h S∧∀(x:Nat×Int),Kb6 x X s h S→Br (decide (Nc x.1<Ln X)) (Tw (Bd (Nc x.1) (Ln X))∧Br (Jvv ((List.getD X x.1 Jel).1,(J31 X x).1,Kee X x,J3w X x) s h) (Z42 x∧∃(y:Nat×Int),Sf s (Si h (min x.2 (J3w X x)=y.2∧Si (Ln X) (Jt6 x y S O M X Q tk st)))∧Koe y X s h S x) (Z42 x∧∃(y:Nat×Int),Sf s (Si h (x.2=y.2∧Si (Ln X) (Jt6 x y S O M X Q tk st)))∧Koe y X s h S x)) ((Kf tk st S O M X Q∧Iw (x.2-Um O s h))∧x.2-Um O s h=Xm S O X s h))=_).mp ?_
 delta Z29 Z42 Z53 Z62 Jux Kf Jel J31 J3w Kee Jpe Kb6 Jyi Jt6 Koe Br Iw Bd Tw Sf Si Ln Nc B0 E2
 intro hr hf
 have hX:∀x∈X,Jls S x:=hr.out
 have nO:O.length≤32:=hr.nO
 have nX:X.length≤16:=hr.nX
 have nS:S.length≤6:=hr.nS
 have hs:=Jqn hr.sta hf
 have hl:=Jgv (s:=s) (h:=h) hr.ord
 refine⟨⟨by omega,hf⟩,((0:Nat),(Lm S s).2.1),⟨rfl,rfl,rfl,rfl,rfl,rfl,rfl,rfl,rfl,rfl,rfl,rfl⟩,⟨Nat.zero_le _, ?_,hs.lim.2,by simp⟩,fun(x:Nat×Int) hk=>⟨fun h1=> ?_,fun h1=> ?_⟩⟩
 ·have:=hs.lim.1
  show 0≤(Lm S s).2.1
  simp only at this
  omega
 ·obtain⟨k,n⟩:=x
  have hlt:k<X.length:=by simpa using h1
  have ho:=(hX _ (Je (d:=Jfi) hlt)).rest
  dsimp only at hk⊢
  obtain⟨k1,k2,k3,k4⟩:=hk
  rw[Jo (d:=Jfi) hlt,Jex] at k4
  refine⟨⟨by omega,by omega⟩,fun h2=> ?_,fun h2=> ?_⟩
  ·have h3:Jvv (X.getD k Jfi) s h=true:=h2
   rw[h3,cond_true] at k4
   exact⟨⟨by omega,by omega⟩,(k+1,min n (X.getD k Jfi).2.2.2),⟨rfl,rfl,rfl,rfl,by simp,rfl,rfl,rfl,rfl,rfl,rfl,rfl⟩,⟨by simp only;omega,by simp only;omega,by simp only;omega,k4⟩,by simp only;omega⟩
  ·have h3:Jvv (X.getD k Jfi) s h=false:=h2
   rw[h3,cond_false] at k4
   exact⟨⟨by omega,by omega⟩,(k+1,n),⟨rfl,rfl,rfl,rfl,by simp,rfl,rfl,rfl,rfl,rfl,rfl,rfl⟩,⟨by simp only;omega,by simp only;omega,by simp only;omega,k4⟩,by simp only;omega⟩
 ·obtain⟨k,n⟩:=x
  have hlt:¬k<X.length:=by simpa using h1
  simp only at hk
  have:k=X.length:=by omega
  rw[this,List.drop_length,Jex] at hk
  unfold Xm
  have hl2:Um O s h≤1000*(O.length:Int):=hl.2
  have hl1:0≤Um O s h:=hl.1
  refine⟨⟨hr, ?_, ?_⟩, ?_⟩
  ·show _≤n-_;omega
  ·show n-_≤_;omega
  ·show n-_=_;omega
abbrev W43 [Sx.Dr]:=W42.add Kgq
def Ze (r:Reg) (w:Int) (s:ByteArray):Bool:=bif w==0 then decide (0≤J3 r.2.2.1 s) else bif w==1 then decide (0≤Uo r.2.2.2.1 s) else bif w==2 then decide (0≤Kb r.2.2.2.2.2.1 s) else bif w==3 then decide (0≤U2 r.2.2.2.2.2.2 s) else true
def Kx1:Con:={args:=[Jat,aI,aS],ress:=[Bo],owns:=[],pre:=fun(r,_)=>[Js r],spec:=fun(r,w,s,_)=>(Ze r w s,())}
theorem Kwi [Sx.Dr]:Ok Tryz.prog 59 Kx1:=okW W43 Tryz.f59 na fun xx=>by
 obtain⟨⟨(tk:Int),(st:Int),(S:List Sta),(O:List Ord),(M:List Met),(X:List Out),(Q:List Per)⟩,(w:Int),(s:ByteArray),_⟩:=xx
 refine(by kernel_rfl:(Kf tk st S O M X Q→Br (w==0) (Z53 S∧decide (0≤J3 S s)=Ze (Z62 tk st S O M X Q) w s) (Br (w==1) (Z61 O∧decide (0≤Uo O s)=Ze (Z62 tk st S O M X Q) w s) (Br (w==2) (Z54 X∧decide (0≤Kb X s)=Ze (Z62 tk st S O M X Q) w s) (Br (w==3) (Z49 Q∧decide (0≤U2 Q s)=Ze (Z62 tk st S O M X Q) w s) (true=Ze (Z62 tk st S O M X Q) w s)))))=_).mp ?_
 delta Z49 Z53 Z54 Z61 Z62 Kf Br
 intro hr
 have nS:S.length≤6:=hr.nS
 have nO:O.length≤32:=hr.nO
 have nX:X.length≤16:=hr.nX
 have nQ:Q.length≤16:=hr.nQ
 unfold Ze
 refine⟨fun h=> ?_,fun h=> ?_⟩
 ·rw[h];exact⟨by omega,rfl⟩
 rw[h]
 refine⟨fun h=> ?_,fun h=> ?_⟩
 ·rw[h];exact⟨by omega,rfl⟩
 rw[h]
 refine⟨fun h=> ?_,fun h=> ?_⟩
 ·rw[h];exact⟨by omega,rfl⟩
 rw[h]
 refine⟨fun h=> ?_,fun h=> ?_⟩
 ·rw[h];exact⟨by omega,rfl⟩
 rw[h];rfl
abbrev W44 [Sx.Dr]:=W43.add Kwi
def Jmo:Met:=(Jd,0,0,0)
def Kx0:Con:={args:=[.val true Xx, .ref 9 .str, .ref 3 sI],ress:=[Bo],owns:=[],pre:=fun _=>[],spec:=fun(x,s,h,_)=>(bif x.1.toList==s.toList then x.2.1==h else false,())}
theorem Kgw [Sx.Dr]:Ok Tryz.prog 136 Kx0:=okW W44 Tryz.f136 na fun xx=>by
 obtain⟨⟨(a:ByteArray),(b:Int),(c:Int),(d:Int)⟩,(s:ByteArray),(h:Int),_⟩:=xx
 refine(by kernel_rfl:((Lb a s&&(b==h&&(c==c&&(d==d&&true))))=bif Lb a s then b==h else false)=_).mp ?_
 delta Lb
 cases a.toList==s.toList<;>cases b==h<;>simp
abbrev W45 [Sx.Dr]:=W44.add Kgw
def Z58 (a:List Met):=List.length a≤1000000
def Juy:=(B0,Z72)
def Jyu (a:List Met) (b c:Nat):=List.length a-b<List.length a-c
def J2b (a:List Met) (b:Nat):=List.getD a b Juy
def Jyq (a:List Met) (b:Nat):=(J2b a b).1
def Jyo (a:List Met) (b:Nat):=(J2b a b).2.1
def Jxf (a:List Met) (b:Nat):=(J2b a b).2.2
def Kcl (a:Nat) (b:List Met) (c:Met×Unit→Bool):=a≤List.length b∧Vb (fun(x:Met)=>c (x,PUnit.unit)) b 0=Vb (fun(x:Met)=>c (x,PUnit.unit)) (List.drop a b) a
def J3a (a:List Met) (b:Nat):=(Jyq a b,Jyo a b,E2 (Jxf a b))
def Kog (a:List Met) (b:Nat):=(J3a a b,PUnit.unit)
theorem Kgx [Sx.Dr]:Ok Tryz.prog 135 (J5u 111 Xx true):=okW W45 Tryz.f135 (fun xx=>Ho (Jjn 111 Xx true xx.1 xx.2.1.1 xx.2.1.2)) fun xx=>by
 obtain⟨(l:List Met),⟨(q:Met×Unit→List Prop),(f:Met×Unit→Bool)⟩,_⟩:=xx
 refine(by kernel_rfl:(Z58 l→(∀(x:Met),x∈l→K6 (q (x,PUnit.unit)))→∃(x:Nat),Si (Ln l) (0=Nc x∧Sf l ((fun(x:Met×PUnit)=>q x)=q∧(fun(x:Met×PUnit)=>f x)=f))∧Kcl x l f∧∀(x:Nat),Kcl x l f→Br (decide (Nc x<Ln l)) (T2 (Bd (Nc x) (Ln l)) (K6 (q (Kog l x)))∧Br (f (Kog l x)) (Nc x=Vb (fun(x:Met)=>f (x,PUnit.unit)) l 0) (Z25 x∧∃(y:Nat),Si (Ln l) (Z93 x y∧Sf l ((fun(x:Met×PUnit)=>q x)=q∧(fun(x:Met×PUnit)=>f x)=f))∧Kcl y l f∧Jyu l y x)) (Z70=Vb (fun(x:Met)=>f (x,PUnit.unit)) l 0))=_).mp ?_
 delta Z25 Z58 Z70 Z72 Z93 Juy Jyu J2b Jyq Jyo Jxf Kcl J3a Kog Br Iw Bd T2 Sf Si Ln Nc B0 E2
 intro hb hq
 refine⟨(0:Nat),⟨rfl,rfl,rfl,rfl,rfl⟩,⟨Nat.zero_le _,rfl⟩,fun(k:Nat) hk=>⟨fun h=> ?_,fun h=> ?_⟩⟩
 ·have hlt:k<l.length:=by simpa using h
  have hd:=Vr (p:=fun x=>f (x,())) (d:=Jmo) hlt
  refine⟨⟨by omega,by omega,hq (l.getD k Jmo) (Je hlt)⟩,fun h1=> ?_,fun h1=>⟨by omega,(k+1:Nat),⟨rfl,rfl,rfl,by simp,rfl⟩,⟨by omega, ?_⟩,by omega⟩⟩
  ·rw[hk.2,hd,if_pos (show f (l.getD k Jmo,())=true from h1)]
  ·rw[hk.2,hd,if_neg (by rw[show f (l.getD k Jmo,())=false from h1];simp)]
 ·have hlt:¬k<l.length:=by simpa using h
  have:k=l.length:=by omega
  rw[hk.2,this,List.drop_length];rfl
abbrev W46 [Sx.Dr]:=W45.add Kgx
def J5m:Con:={args:=[Jat,aS,aI],ress:=[I],owns:=[],pre:=fun(r,_)=>[Js r],spec:=fun((_,_,_,_,M,_),s,h,_)=>(Ub M s h,())}
theorem Kv6 [Sx.Dr]:Ok Tryz.prog 77 J5m:=okW W46 Tryz.f77 na fun xx=>by
 obtain⟨⟨(tk:Int),(st:Int),(S:List Sta),(O:List Ord),(M:List Met),(X:List Out),(Q:List Per)⟩,(s:ByteArray),(h:Int),_⟩:=xx
 refine(by kernel_rfl:(Kf tk st S O M X Q→(Z58 M∧∀(x:Met),x∈M→True)∧Vb (fun(x:Met)=>match Lb x.1 s with|true=>x.2.1==h|false=>false) M 0=Ub M s h)=_).mp ?_
 delta Z58 Z62 Kf Lb
 intro hr
 have nM:M.length≤10000:=hr.nM
 exact⟨⟨by omega,fun _ _=>trivial⟩,rfl⟩
abbrev W47 [Sx.Dr]:=W46.add Kv6
def U7 (e:Ev):Int×Int:=(e.2.2.2.1.getD 1 0,e.2.2.2.1.getD 2 0)
def Kh7:Con:={args:=[aEv],ress:=[(true,Jid)],owns:=[],pre:=fun(e,_)=>[3≤e.2.2.2.1.length],spec:=fun(e,_)=>(U7 e,())}
def Z32 (a:Li):=Bd 2 (Ln a)
def Z34 (a:Li):=Bd 1 (Ln a)
def Z50 (a:Int) (b:Bt) (c:Ls) (d:Li) (e:Bt):=U7 (a,b,c,d,e)
def Z52 (a:Li):=3≤List.length a
def Z85 (a:Li):=List.getD a 2 0
def Z94 (a:Li):=List.getD a 1 0
def J3y (a:Li):=T2 (Z34 a) (Tw (Z32 a))
def J3v (a:Li):=(Z94 a,Z85 a)
theorem Kgs [Sx.Dr]:Ok Tryz.prog 140 Kh7:=okW W47 Tryz.f140 na fun xx=>by
 obtain⟨⟨(n:Int),(k:ByteArray),(ns:List ByteArray),(vs:List Int),(t:ByteArray)⟩,_⟩:=xx
 refine(by kernel_rfl:(Z52 vs→J3y vs∧J3v vs=Z50 n k ns vs t)=_).mp ?_
 delta Z32 Z34 Z50 Z52 Z85 Z94 J3y J3v Bd T2 Tw Ln
 intro h
 exact⟨⟨⟨by omega,by omega⟩,⟨by omega,by omega⟩,⟨by omega,by omega⟩,⟨by omega,by omega⟩⟩,rfl⟩
abbrev W48 [Sx.Dr]:=W47.add Kgs
abbrev EvV (e:Ev):Prop:=∀v∈e.2.2.2.1,0≤v∧v≤999999999
def Xv (e:Ev):Int:=bif (bif (bif decide ((U7 e).1<e.2.2.2.1.getD 0 0) then true else decide ((U7 e).2≤(U7 e).1)) then true else decide (48<(U7 e).2-(U7 e).1)) then 14 else 0
def Jws:Con:={args:=[aEv],ress:=[I],owns:=[],pre:=fun(e,_)=>[3≤e.2.2.2.1.length,EvV e],spec:=fun(e,_)=>(Xv e,())}
def Z36 (a:Li):=Bd 0 (Ln a)
def Z95 (a:Li):=List.getD a 0 0
def Koy (a:Int) (b:Bt) (c:Ls) (d:Li) (e:Bt):=bif decide ((Z50 a b c d e).1<Z95 d) then true else decide ((Z50 a b c d e).2≤(Z50 a b c d e).1)
theorem Kgu [Sx.Dr]:Ok Tryz.prog 138 Jws:=okW W48 Tryz.f138 na fun xx=>by
 obtain⟨⟨(n:Int),(k:ByteArray),(ns:List ByteArray),(vs:List Int),(t:ByteArray)⟩,_⟩:=xx
 refine(by kernel_rfl:(Z52 vs→EvV (n,k,ns,vs,t)→Z52 vs∧T2 (Z36 vs) (Koy n k ns vs t=false→Iw ((Z50 n k ns vs t).2-(Z50 n k ns vs t).1))∧(bif bif Koy n k ns vs t then true else decide (48<(Z50 n k ns vs t).2-(Z50 n k ns vs t).1) then 14 else 0)=Xv (n,k,ns,vs,t))=_).mp ?_
 delta Z36 Z50 Z52 Z95 Koy Iw Bd T2 Ln
 intro h hv
 refine⟨h,⟨⟨by omega,by omega⟩,⟨by omega,by omega⟩,fun _=> ?_⟩,rfl⟩
 have h1:=hv (vs.getD 1 0) (Je (show 1<vs.length by omega))
 have h2:=hv (vs.getD 2 0) (Je (show 2<vs.length by omega))
 unfold U7
 simp only
 omega
abbrev W49 [Sx.Dr]:=W48.add Kgu
abbrev Gap:=ByteArray×Int
abbrev J2q:Sch:= .prod .str sI
def Jbq (M:List Met) (u:Int) (x:Ord):Int→Nat→List Gap
 |_,0=>[]
 |h,n+1=>(bif Ka x h&&(decide (h<u)&&decide (Ub M x.1 h<0)) then[(x.1,h)] else[])++Jbq M u x (h+1) n
def Jv0 (M:List Met) (u:Int) (x:Ord):List Gap:=Jbq M u x x.2.2.2.1.1 (x.2.2.2.1.2-x.2.2.2.1.1).toNat
def V3 (M:List Met) (u:Int):List Ord→List Gap
 |[]=>[]
 |x::l=>Jv0 M u x++V3 M u l
def Kif:Con:={args:=[Jat,aI],ress:=[(false, .list 241 J2q)],owns:=[true],pre:=fun(r,_)=>[Js r],spec:=fun((_,_,_,O,M,_),u,_)=>(V3 M u O,())}
abbrev J06 (tk st:Int) (S:List Sta) (O:List Ord) (M:List Met) (X:List Out) (Q:List Per) (u:Int):Ann:={X:=Nat×List Gap,σ:=fun(k,o)=>⟨9,[(2, .one (.ptr 5 0)),(3, .one (.ptr 6 0)),(5, .one (.ptr 7 0)),(10, .one (.sl 1)),(11, .one (.int .i64 O.length)),(12, .one (.int .i64 k))],[(0, .imm 109 Xc S),(1, .imm 110 Yn O),(2, .imm 111 Xx M),(3, .imm 112 Xi X),(4, .imm 113 Yv Q),(5, .box 48 [.int .i64 tk, .int .i64 st, .sl 0, .sl 1, .sl 2, .sl 3, .sl 4]),(6, .box 3 [.int .i64 u]),(7, .box 212 [.sl 8]),(8, .own 241 J2q o)]⟩,inv:=fun(k,o)=>k≤O.length∧o.length≤48*k∧o++V3 M u (O.drop k)=V3 M u O,mu:=fun(k,_)=>O.length-k}
abbrev bxO (x:Ord):List SC:=[.str x.1, .str x.2.1, .str x.2.2.1, .int .i64 x.2.2.2.1.1, .int .i64 x.2.2.2.1.2, .int .i64 x.2.2.2.2.1, .int .i64 x.2.2.2.2.2.1, .int .i64 x.2.2.2.2.2.2]
def K1 (x:Ord):Nat:=(x.2.2.2.1.2-x.2.2.2.1.1).toNat
abbrev Jw3 (tk st:Int) (S:List Sta) (O:List Ord) (M:List Met) (X:List Out) (Q:List Per) (u:Int):Ann:={X:=Nat×List Gap×Nat,σ:=fun(k,o,j)=>⟨16,[(0, .one (.fv 13)),(1, .one (.ptr 11 0)),(3, .one (.int .i64 ((O.getD k Km).2.2.2.1.1+j)))],[(0, .imm 109 Xc S),(1, .imm 110 Yn O),(2, .imm 111 Xx M),(3, .imm 112 Xi X),(4, .imm 113 Yv Q),(5, .box 48 [.int .i64 tk, .int .i64 st, .sl 0, .sl 1, .sl 2, .sl 3, .sl 4]),(6, .box 3 [.int .i64 u]),(7, .box 212 [.sl 15]),(9, .box 110 (bxO (O.getD k Km))),(11, .box 110 (bxO (O.getD k Km))),(13, .yld .ready),(14, .sus [(2, .one (.ptr 5 0)),(3, .one (.ptr 6 0)),(5, .one (.ptr 7 0)),(7, .one (.ptr 9 0)),(10, .one (.sl 1)),(11, .one (.int .i64 O.length)),(12, .one (.int .i64 k))]),(15, .own 241 J2q o)]⟩,inv:=fun(k,o,j)=>Js (tk,st,S,O,M,X,Q)∧k<O.length∧j≤K1 (O.getD k Km)∧o.length≤48*k+j∧o++(Jbq M u (O.getD k Km) ((O.getD k Km).2.2.2.1.1+j) (K1 (O.getD k Km)-j)++V3 M u (O.drop (k+1)))=V3 M u O,mu:=fun(k,_,j)=>K1 (O.getD k Km)-j,rel:=some fun x y=>y.1=x.1}
theorem Jto (a b:Bool):(bif a then b else false)=(a&&b):=by cases a<;>rfl
def Z1 (a:List Ord) (b:Nat×List Gap×Nat):=List.getD a b.1 Km
def Z8 (a:List Ord) (b:Nat×List (Bt×Int)×Nat):=List.getD a b.1 Km
def Z77 (a:List Ord) (b:Nat×List Gap×Nat):=(Z1 a b).2.2.2.1
def Z78 (a:List Ord) (b:Nat×List Gap×Nat):=(Z1 a b).2.2.2.2
def Z80 (a:List Ord) (b:Nat×List (Bt×Int)×Nat):=(Z8 a b).2.2.2.1
def Z81 (a:List Ord) (b:Nat×List (Bt×Int)×Nat):=(Z8 a b).2.2.2.2
def Jut (a:List Ord) (b:Nat×List Gap×Nat):=(Z77 a b).1+Nc b.2.2
def J2a (a:List Ord) (b:Nat×List Gap×Nat) (c:Nat×List (Bt×Int)×Nat):=(Z1 a b).1=(Z8 a c).1
def J18 (a:List Ord) (b:Nat×List Gap×Nat) (c:Nat×List (Bt×Int)×Nat):=(Z1 a b).2.1=(Z8 a c).2.1
def J30 (a:List Ord) (b:Nat×List Gap×Nat) (c:Int):=decide (Jut a b<c)
def J16 (a:List Ord) (b:Nat×List Gap×Nat) (c:Nat×List (Bt×Int)×Nat):=(Z1 a b).2.2.1=(Z8 a c).2.2.1
def J3t (a:List Ord) (b:Nat×List Gap×Nat):=Iw (Jut a b+1)
def J15 (a:List Ord) (b:Nat×List Gap×Nat) (c:Nat×List (Bt×Int)×Nat):=(Z77 a b).2=(Z80 a c).2
def J14 (a:List Ord) (b:Nat×List Gap×Nat) (c:Nat×List (Bt×Int)×Nat):=(Z77 a b).1=(Z80 a c).1
def J12 (a:List Ord) (b:Nat×List Gap×Nat) (c:Nat×List (Bt×Int)×Nat):=(Z78 a b).1=(Z81 a c).1
def J11 (a:List Ord) (b:Nat×List Gap×Nat) (c:Nat×List (Bt×Int)×Nat):=(Z78 a b).2.2=(Z81 a c).2.2
def J10 (a:List Ord) (b:Nat×List Gap×Nat) (c:Nat×List (Bt×Int)×Nat):=(Z78 a b).2.1=(Z81 a c).2.1
def Kek (a:Nat×List Gap×Nat):=(List.length a.2.1+1)*24≤140737488355328
def Kd3 (a:List Ord) (b:Nat×List Gap):=List.getD a b.1 Jej
def Kdy (a:List Ord) (b:Nat×List Gap):=(Kd3 a b).2
def Kdx (a:List Ord) (b:Nat×List Gap):=(Kdy a b).2
def Kdv (a:List Ord) (b:Nat×List Gap):=(Kdx a b).2
def Kdu (a:List Ord) (b:Nat×List Gap×Nat):=decide (Jut a b<(Z77 a b).2)
def Kdr (a:List Ord) (b:Nat×List Gap):=(Kdv a b).2
def Kdp (a:List Ord) (b:Nat×List Gap):=(Kdv a b).1
def Kdk (a:List Ord) (b:Nat×List Gap):=(Kdp a b).1
def Kdj (a:List Ord) (b:Nat×List Gap):=(Kdr a b).2
def J3j (a:List Ord) (b:Nat×List Gap×Nat) (c:Nat×List (Bt×Int)×Nat):=Jut a b+1=(Z80 a c).1+Nc c.2.2
def Kcu (a:Nat×List Gap×Nat) (b:List Ord):=a.2.1++[((Z1 b a).1,Jut b a)]
def J78 (a:List Ord) (b:Nat×List Gap) (c:Nat×List (Bt×Int)×Nat):=(Kd3 a b).1=(Z8 a c).1
def J77 (a:List Ord) (b:Nat×List Gap) (c:Nat×List (Bt×Int)×Nat):=(Kdy a b).1=(Z8 a c).2.1
def Kcq (a:Nat×List Gap×Nat) (b:List Ord) (c:Nat×List (Bt×Int)×Nat):=Kcu a b=c.2.1
def J75 (a:List Ord) (b:Nat×List Gap) (c:Nat×List (Bt×Int)×Nat):=(Kdx a b).1=(Z8 a c).2.2.1
def Kcg (a:Nat×List Gap) (b:List Ord) (c:List Met) (d:Int):=a.1≤List.length b∧List.length a.2≤48*a.1∧a.2++V3 c d (List.drop a.1 b)=V3 c d b
def J74 (a:Nat×List (Bt×Int)) (b:List Ord) (c:List Met) (d:Int):=a.1≤List.length b∧List.length a.2≤48*a.1∧a.2++V3 c d (List.drop a.1 b)=V3 c d b
def J71 (a:List Ord) (b:Nat×List Gap) (c:Nat×List (Bt×Int)×Nat):=(Kdr a b).1=(Z81 a c).1
def J70 (a:List Ord) (b:Nat×List Gap) (c:Nat×List (Bt×Int)×Nat):=(Kdp a b).2=(Z80 a c).2
def J7z (a:List Ord) (b:Nat×List Gap) (c:Nat×List (Bt×Int)×Nat):=Kdk a b=(Z80 a c).1
def J7w (a:List Ord) (b:Nat×List Gap) (c:Nat×List (Bt×Int)×Nat):=(Kdj a b).1=(Z81 a c).2.1
def J7v (a:List Ord) (b:Nat×List Gap) (c:Nat×List (Bt×Int)×Nat):=(Kdj a b).2=(Z81 a c).2.2
def Kbs (a:List Ord) (b:Nat×List Gap) (c:Nat×List (Bt×Int)×Nat):=Kdk a b=(Z80 a c).1+Nc c.2.2
def J7e (a:Nat×List (Bt×Int)) (b:List Ord) (c:List Met) (d:Int) (e:Nat×List Gap):=J74 a b c d∧List.length b-a.1<List.length b-e.1
def Kav (a:List Ord) (b:Nat×List Gap×Nat):=Ka ((Z1 a b).1,(Z1 a b).2.1,(Z1 a b).2.2.1,E2 (Z77 a b),(Z78 a b).1,E2 (Z78 a b).2) (Jut a b)
def Kas (a:Nat×List Gap×Nat) (b:List Ord) (c:List Met) (d:Int):=a.1<List.length b∧a.2.2≤K1 (List.getD b a.1 Km)∧List.length a.2.1≤48*a.1+a.2.2∧a.2.1++(Jbq c d (List.getD b a.1 Km) ((List.getD b a.1 Km).2.2.2.1.1+Nc a.2.2) (K1 (List.getD b a.1 Km)-a.2.2)++V3 c d (List.drop (a.1+1) b))=V3 c d b
def J7a (a:Nat×List (Bt×Int)×Nat) (b:List Ord) (c:List Met) (d:Int):=a.1<List.length b∧a.2.2≤K1 (List.getD b a.1 Km)∧List.length a.2.1≤48*a.1+a.2.2∧a.2.1++(Jbq c d (List.getD b a.1 Km) ((List.getD b a.1 Km).2.2.2.1.1+Nc a.2.2) (K1 (List.getD b a.1 Km)-a.2.2)++V3 c d (List.drop (a.1+1) b))=V3 c d b
def Km2 (a b:Int) (c:List Sta) (d:List Ord) (e:List Met) (f:List Out) (g:List Per) (h:Nat×List (Bt×Int)×Nat) (i:Int):=Kf a b c d e f g∧J7a h d e i
def Kmn (a:Nat×List Gap×Nat) (b:List Ord) (c:List Sta) (d:List Met) (e:List Out) (f:List Per) (g h i:Int) (j:Nat×List Gap):=Iw (Nc a.1+1)∧∃(y:Nat×List (ByteArray×Int)),Si (Ln b) (Nc a.1+1=Nc y.1∧Sf c (Sf b (Sf d (Sf e (Sf f (Si g (Si h (Si i (a.2.1=y.2)))))))))∧J7e y b d i j
def Kmf (a b:Int) (c:List Sta) (d:List Ord) (e:List Met) (f:List Out) (g:List Per) (h:Nat×List (Bt×Int)×Nat) (i:Int) (j:Nat×List (Bt×Int)×Nat) (k:Nat×List Gap×Nat):=(Km2 a b c d e f g h i∧h.1=j.1)∧K1 (List.getD d h.1 Km)-h.2.2<K1 (List.getD d k.1 Km)-k.2.2
def Kjq (a:Nat×List Gap×Nat) (b:List Ord) (c:List Sta) (d:List Met) (e:List Out) (f:List Per) (g h i:Int) (j:Nat×List Gap) (k:Nat×List (Bt×Int)×Nat):=Br false (Kmn a b c d e f g h i j) (J3t b a∧∃(y:Nat×List (ByteArray×Int)×Nat),(J3j b a y∧Sf c (Sf b (Sf d (Sf e (Sf f (Si g (Si h (Si i (J2a b a y∧J18 b a y∧J16 b a y∧J14 b a y∧J15 b a y∧J12 b a y∧J10 b a y∧J11 b a y∧J2a b a y∧J18 b a y∧J16 b a y∧J14 b a y∧J15 b a y∧J12 b a y∧J10 b a y∧J11 b a y∧Si (Ln b) (Nc a.1=Nc y.1∧a.2.1=y.2.1))))))))))∧Kmf g h c b d e f y i k a)
theorem Kgd [Sx.Dr]:Ok Tryz.prog 155 Kif:=Jvw W49 Tryz.f155 (Uq (l:=([(76,Tryz.f76),(133,Tryz.f133)]:List (Nat×Func))) (List.forall_mem_cons.2 ⟨by kernel_rfl,List.forall_mem_cons.2 ⟨by kernel_rfl,by simp⟩⟩)) (fun xx=>Ho (J06 xx.1.1 xx.1.2.1 xx.1.2.2.1 xx.1.2.2.2.1 xx.1.2.2.2.2.1 xx.1.2.2.2.2.2.1 xx.1.2.2.2.2.2.2 xx.2.1)) (fun xx=>fun f id=>if f=133 then some (Jw3 xx.1.1 xx.1.2.1 xx.1.2.2.1 xx.1.2.2.2.1 xx.1.2.2.2.2.1 xx.1.2.2.2.2.2.1 xx.1.2.2.2.2.2.2 xx.2.1) else none) fun xx=>by
 obtain⟨⟨(tk:Int),(st:Int),(S:List Sta),(O:List Ord),(M:List Met),(X:List Out),(Q:List Per)⟩,(u:Int),_⟩:=xx
 refine(by kernel_rfl:(Kf tk st S O M X Q→∃(x:Nat×List (ByteArray×Int)),Si (Ln O) (0=Nc x.1∧Sf S (Sf O (Sf M (Sf X (Sf Q (Si tk (Si st (Si u (List.length x.2=0)))))))))∧J74 x O M u∧∀(x:Nat×List Gap),Kcg x O M u→Br (decide (Nc x.1<Ln O)) (Tw (Bd (Nc x.1) (Ln O))∧∃(x0:Nat×List (ByteArray×Int)×Nat),(Kbs O x x0∧Sf S (Sf O (Sf M (Sf X (Sf Q (Si tk (Si st (Si u (J78 O x x0∧J77 O x x0∧J75 O x x0∧J7z O x x0∧J70 O x x0∧J71 O x x0∧J7w O x x0∧J7v O x x0∧J78 O x x0∧J77 O x x0∧J75 O x x0∧J7z O x x0∧J70 O x x0∧J71 O x x0∧J7w O x x0∧J7v O x x0∧Si (Ln O) (Nc x.1=Nc x0.1∧x.2=x0.2.1))))))))))∧(Km2 tk st S O M X Q x0 u∧x0.1=x0.1)∧∀(x_1:Nat×List Gap×Nat),(Kf tk st S O M X Q∧Kas x_1 O M u)∧x_1.1=x0.1→Br (Kdu O x_1) (Br (Kav O x_1) ((J30 O x_1 u=true→Kf tk st S O M X Q)∧Br (bif J30 O x_1 u then decide (Ub M (Z1 O x_1).1 (Jut O x_1)<0) else false) (Kek x_1∧Br false (Iw (Nc x_1.1+1)∧∃(y:Nat×List (ByteArray×Int)),Si (Ln O) (Nc x_1.1+1=Nc y.1∧Sf S (Sf O (Sf M (Sf X (Sf Q (Si tk (Si st (Si u (Kcu x_1 O=y.2)))))))))∧J7e y O M u x) (J3t O x_1∧∃(y:Nat×List (ByteArray×Int)×Nat),(J3j O x_1 y∧Sf S (Sf O (Sf M (Sf X (Sf Q (Si tk (Si st (Si u (J2a O x_1 y∧J18 O x_1 y∧J16 O x_1 y∧J14 O x_1 y∧J15 O x_1 y∧J12 O x_1 y∧J10 O x_1 y∧J11 O x_1 y∧J2a O x_1 y∧J18 O x_1 y∧J16 O x_1 y∧J14 O x_1 y∧J15 O x_1 y∧J12 O x_1 y∧J10 O x_1 y∧J11 O x_1 y∧Si (Ln O) (Nc x_1.1=Nc y.1∧Kcq x_1 O y))))))))))∧Kmf tk st S O M X Q y u x0 x_1)) (Kjq x_1 O S M X Q tk st u x x0)) (Kjq x_1 O S M X Q tk st u x x0)) (Kmn x_1 O S M X Q tk st u x)) (Sf true (x.2=V3 M u O)))=_).mp ?_
 delta Z1 Z8 Z62 Z72 Z77 Z78 Z80 Z81 Kf Jut J2a J18 J30 J16 J3t Jej J15 J14 J12 J11 J10 Kek Kd3 Kdy Kdx Kdv Kdu Kdr Kdp Kdk Kdj J3j Kcu J78 J77 Kcq J75 Kcg J74 J71 J70 J7z J7w J7v Kbs J7e Kav Kas J7a Km2 Kmn Kmf Kjq Br Iw Bd Tw Sf Si Ln Nc B0 E2
 intro hr
 have nO:O.length≤32:=hr.nO
 refine⟨((0:Nat),[]),by(repeat' first|exact rfl|apply And.intro|exact(Int.add_zero _).symm|omega|dsimp only;omega),⟨Nat.zero_le _,Nat.zero_le _,rfl⟩,fun(x:Nat×List Gap) hk=>⟨fun h1=> ?_,fun h1=> ?_⟩⟩
 ·obtain⟨k,o⟩:=x
  have hlt:k<O.length:=by simpa using h1
  obtain⟨k1,k2,k3⟩:=hk
  dsimp only at k1 k2 k3
  rw[Jo (d:=Km) hlt,V3,Jv0] at k3
  refine⟨⟨⟨by dsimp only;omega,by dsimp only;omega⟩,by dsimp only;omega,by dsimp only;omega⟩,(k,o,(0:Nat)), ?_,⟨⟨hr,hlt,Nat.zero_le _,by simpa using k2, ?_⟩,rfl⟩,fun(y:Nat×List Gap×Nat) hy=> ?_⟩
  ·repeat' first|exact rfl|apply And.intro|exact(Int.add_zero _).symm|omega|dsimp only;omega
  ·simpa[K1] using k3
  obtain⟨k',o,j⟩:=y
  obtain⟨⟨_,i1,i2,i3,i4⟩,hkk⟩:=hy
  have hkk:k'=k:=hkk
  subst hkk
  dsimp only at i1 i2 i3 i4
  have ho:Jny (O.getD k' Km).2.2.2.1:=(hr.ord (O.getD k' Km) (Je hlt)).span
  have hn:K1 (O.getD k' Km)≤48∧(K1 (O.getD k' Km):Int)=(O.getD k' Km).2.2.2.1.2-(O.getD k' Km).2.2.2.1.1:=by
   have:=ho.mid;have:=ho.len
   unfold K1
   constructor<;>omega
  have b1:=ho.lo
  have b2:=ho.hi
  refine⟨fun h2=> ?_,fun h2=> ?_⟩
  ·have h2:(O.getD k' Km).2.2.2.1.1+(j:Int)<(O.getD k' Km).2.2.2.1.2:=of_decide_eq_true h2
   have hj:K1 (O.getD k' Km)-j=(K1 (O.getD k' Km)-(j+1))+1:=by omega
   rw[hj,Jbq] at i4
   have hB: -9223372036854775808≤(O.getD k' Km).2.2.2.1.1+(j:Int)+1∧(O.getD k' Km).2.2.2.1.1+(j:Int)+1≤9223372036854775807:=by omega
   have hc:(O.getD k' Km).2.2.2.1.1+(j:Int)+1=(O.getD k' Km).2.2.2.1.1+((j+1:Nat):Int):=by omega
   refine⟨fun h3=>⟨fun _=>hr,fun h4=>⟨by dsimp only;omega,fun f=>(by cases f),fun _=>⟨hB,(k',o++[((O.getD k' Km).1,(O.getD k' Km).2.2.2.1.1+(j:Int))],j+1), ?_,⟨⟨hr,hlt,by dsimp only;omega,by simp;omega, ?_⟩,rfl⟩,by dsimp only;omega⟩⟩,fun h4=>⟨fun f=>(by cases f),fun _=>⟨hB,(k',o,j+1), ?_,⟨⟨hr,hlt,by dsimp only;omega,by dsimp only;omega, ?_⟩,rfl⟩,by dsimp only;omega⟩⟩⟩,fun h3=>⟨fun f=>(by cases f),fun _=>⟨hB,(k',o,j+1), ?_,⟨⟨hr,hlt,by dsimp only;omega,by dsimp only;omega, ?_⟩,rfl⟩,by dsimp only;omega⟩⟩⟩
   ·repeat' first|exact rfl|apply And.intro|exact(Int.add_zero _).symm|omega|dsimp only;omega
   ·have h3:Ka (O.getD k' Km) ((O.getD k' Km).2.2.2.1.1+(j:Int))=true:=h3
    have h4:(bif decide ((O.getD k' Km).2.2.2.1.1+(j:Int)<u) then decide (Ub M (O.getD k' Km).1 ((O.getD k' Km).2.2.2.1.1+(j:Int))<0) else false)=true:=h4
    rw[Jto] at h4
    rw[h3,Bool.true_and,h4,hc] at i4
    rw[←i4]
    simp
   ·repeat' first|exact rfl|apply And.intro|exact(Int.add_zero _).symm|omega|dsimp only;omega
   ·have h3:Ka (O.getD k' Km) ((O.getD k' Km).2.2.2.1.1+(j:Int))=true:=h3
    have h4:(bif decide ((O.getD k' Km).2.2.2.1.1+(j:Int)<u) then decide (Ub M (O.getD k' Km).1 ((O.getD k' Km).2.2.2.1.1+(j:Int))<0) else false)=false:=h4
    rw[Jto] at h4
    rw[h3,Bool.true_and,h4,hc] at i4
    rw[←i4]
    simp
   ·repeat' first|exact rfl|apply And.intro|exact(Int.add_zero _).symm|omega|dsimp only;omega
   ·have h3:Ka (O.getD k' Km) ((O.getD k' Km).2.2.2.1.1+(j:Int))=false:=h3
    rw[h3,hc] at i4
    rw[←i4]
    simp
  ·have h2:¬(O.getD k' Km).2.2.2.1.1+(j:Int)<(O.getD k' Km).2.2.2.1.2:=of_decide_eq_false h2
   have hj:K1 (O.getD k' Km)-j=0:=by omega
   rw[hj,Jbq] at i4
   refine⟨⟨by dsimp only;omega,by dsimp only;omega⟩,(k'+1,o), ?_,⟨by dsimp only;omega,by dsimp only;omega,by simpa using i4⟩,by dsimp only;omega⟩
   repeat' first|exact rfl|apply And.intro|exact(Int.add_zero _).symm|omega|dsimp only;omega
 ·obtain⟨k,o⟩:=x
  have hlt:¬k<O.length:=by simpa using h1
  obtain⟨k1,k2,k3⟩:=hk
  dsimp only at k1 k2 k3
  have:k=O.length:=by omega
  rw[this,List.drop_length,V3,List.append_nil] at k3
  exact⟨rfl,k3⟩
abbrev W50 [Sx.Dr]:=W49.add Kgd
abbrev aE:AK:=aEv
abbrev J09 (T U:TypeId) (s:Sch) (l:List s.T) (g:Bool) (q:Tup [(g,s)]→List Prop) (f:Tup [(g,s)]→Bool):Ann:={X:=Nat,σ:=fun k=>⟨3,[(1, .one (.fv 1)),(5, .one (.sl 2)),(8, .one (.sl 0)),(9, .one (.int .i64 l.length)),(10, .one (.int .i64 k))],[(0, .imm T s l),(1, .afn [(g,s)] Bo q f),(2, .own U s ((l.take k).filter fun x=>f (x,())))]⟩,inv:=fun k=>k≤l.length,mu:=fun k=>l.length-k}
def J5s:Con:={args:=[.val false (.list 113 Yv), .fn [(true,Yv)] Bo],ress:=[(false, .list 113 Yv)],owns:=[true],pre:=fun(l,(q,_),_)=>[l.length≤1000000,∀x∈l,K6 (q (x,()))],spec:=fun(l,(_,f),_)=>(l.filter fun x=>f (x,()),())}
theorem Jso {α:Type} {p:α→Bool} {l:List α} {k:Nat} (h:k≤l.length):((l.take k).filter p).length≤k:=by
 have:=List.length_filter_le p (l.take k)
 rw[List.length_take] at this
 omega
def Jyr (a:Per×Unit→Bool) (b:Nat) (c:List Per):=List.filter (fun(x:Per)=>a (x,PUnit.unit)) (List.take b c)
def J1z (a:Nat) (b:List Per) (c:Nat):=a≤List.length b∧Juu b a c
def Kc1 (a:List Per) (b:Nat):=[J8c a b]
theorem Kgi [Sx.Dr]:Ok Tryz.prog 150 J5s:=okW W50 Tryz.f150 (fun xx=>Ho (J09 113 113 Yv xx.1 true xx.2.1.1 xx.2.1.2)) fun xx=>by
 obtain⟨(l:List Per),⟨(q:Per×Unit→List Prop),(f:Per×Unit→Bool)⟩,_⟩:=xx
 refine(by kernel_rfl:(Z49 l→Kd2 l q→∃(x:Nat),Si (Ln l) (0=Nc x∧Sf l ((fun(x:Per×PUnit)=>q x)=q∧(fun(x:Per×PUnit)=>f x)=f∧List.length (Jyr f x l)=0))∧x≤List.length l∧∀(x:Nat),x≤List.length l→Br (Jpx x l) (Tw (Z31 x l)∧Kcv q l x∧Br (Kc2 f l x) ((List.length (Jyr f x l)+1)*40≤140737488355328∧Z25 x∧∃(y:Nat),Si (Ln l) (Z93 x y∧Sf l ((fun(x:Per×PUnit)=>q x)=q∧(fun(x:Per×PUnit)=>f x)=f∧Jyr f x l++Kc1 l x=Jyr f y l))∧J1z y l x) (Z25 x∧∃(y:Nat),Si (Ln l) (Z93 x y∧Sf l ((fun(x:Per×PUnit)=>q x)=q∧(fun(x:Per×PUnit)=>f x)=f∧Jyr f x l=Jyr f y l))∧J1z y l x)) (Jyr f x l=List.filter (fun(x:Per)=>f (x,PUnit.unit)) l))=_).mp ?_
 delta Z25 Z31 Z49 Z93 Jpx Juz Jxh Juu Jyr J1z Kd2 J8c Kda Kc2 Kc1 Kcv Br Iw Bd Tw Sf Si Ln Nc B0 E2
 intro hb hq
 refine⟨(0:Nat),⟨rfl,rfl,rfl,rfl,rfl,by simp⟩,Nat.zero_le _,fun(k:Nat) hk=>⟨fun h=> ?_,fun h=> ?_⟩⟩
 ·have hlt:k<l.length:=by simpa using h
  have hf:=Jso (p:=fun x=>f (x,())) hk
  have ht:=K7 (d:=Jip) hlt
  refine⟨by omega,hq (l.getD k Jip) (Je hlt),fun h1=> ?_,fun h1=> ?_⟩
  ·have h1:f (l.getD k Jip,())=true:=h1
   refine⟨by show((List.filter (fun x=>f (x,())) (List.take k l)).length+1)*40≤_;omega,by omega,(k+1:Nat),⟨rfl,by simp,rfl,rfl,rfl, ?_⟩,by omega,by omega⟩
   rw[←ht,List.filter_append,List.filter_cons,if_pos h1];rfl
  ·have h1:f (l.getD k Jip,())=false:=h1
   refine⟨by omega,(k+1:Nat),⟨rfl,by simp,rfl,rfl,rfl, ?_⟩,by omega,by omega⟩
   rw[←ht,List.filter_append,List.filter_cons,if_neg (by rw[h1];decide)];simp
 ·have hlt:¬k<l.length:=by simpa using h
  rw[List.take_of_length_le (by omega)]
abbrev W51 [Sx.Dr]:=W50.add Kgi
def Jx9:Con:={args:=[.val true Yv],ress:=[Bo],owns:=[],pre:=fun _=>[],spec:=fun(x,_)=>(x.2.2,())}
theorem Kfb [Sx.Dr] (x:Per):wpF Tryz.prog W51.g (na ()) Tryz.f177 Jx9 (x,()):=by
 refine(by kernel_rfl:(x.2.2=x.2.2)=_).mp ?_
 rfl
theorem Kf2 [Sx.Dr]:Ok Tryz.prog 177 Jx9:=Ye mixed W51.ok (by kernel_rfl) (by kernel_rfl) na fun xx=>Kfb xx.1
abbrev W52 [Sx.Dr]:=W51.add Kf2
def L2 (Q:List Per):List Per:=Q.filter fun x=>x.2.2
def J5j:Con:={args:=[Jat],ress:=[(false, .list 113 Yv)],owns:=[true],pre:=fun(r,_)=>[Js r],spec:=fun((_,_,_,_,_,_,Q),_)=>(L2 Q,())}
theorem Kgh [Sx.Dr]:Ok Tryz.prog 151 J5j:=okW W52 Tryz.f151 na fun xx=>by
 obtain⟨⟨(tk:Int),(st:Int),(S:List Sta),(O:List Ord),(M:List Met),(X:List Out),(Q:List Per)⟩,_⟩:=xx
 refine(by kernel_rfl:(Kf tk st S O M X Q→Kc8 Q∧List.filter (fun(x:Per)=>x.2.2) Q=L2 Q)=_).mp ?_
 delta Z49 Z62 Kf Kc8
 intro hr
 have nQ:Q.length≤16:=hr.nQ
 exact⟨⟨by omega,fun _ _=>trivial⟩,rfl⟩
abbrev W53 [Sx.Dr]:=W52.add Kgh
theorem Jml {Q:List Per}:(L2 Q).length≤Q.length:=List.length_filter_le _ _
theorem Jis {Q:List Per} {x:Per} (h:x∈L2 Q):x∈Q:=(List.mem_filter.1 h).1
def J5i:Con:={args:=[.val true Yv, .ref 112 Xi],ress:=[Bo],owns:=[],pre:=fun _=>[],spec:=fun(x,y,_)=>(x.2.1.toList==y.1.toList,())}
theorem Kfg [Sx.Dr] (x:Per) (y:Out):wpF Tryz.prog W53.g (na ()) Tryz.f152 J5i (x,y,()):=by
 refine(by kernel_rfl:(Lb x.2.1 y.1=Lb x.2.1 y.1)=_).mp ?_
 delta Lb
 rfl
theorem Kgg [Sx.Dr]:Ok Tryz.prog 152 J5i:=Ye mixed W53.ok (by kernel_rfl) (by kernel_rfl) na fun xx=>Kfg xx.1 xx.2.1
abbrev W54 [Sx.Dr]:=W53.add Kgg
def Kh8:Con:={args:=[.val true Yv, .ref 48 Jif, .ref 3 sI],ress:=[Bo],owns:=[],pre:=fun(x,r,_)=>[Js r,0≤Kb r.2.2.2.2.2.1 x.2.1],spec:=fun(x,(_,_,_,_,_,X,_),h,_)=>(decide ((H9 X x.2.1).2.2.1.2≤h),())}
theorem Kge [Sx.Dr]:Ok Tryz.prog 154 Kh8:=okW W54 Tryz.f154 na fun xx=>by
 obtain⟨⟨(a:ByteArray),(b:ByteArray),(c:Bool)⟩,⟨(tk:Int),(st:Int),(S:List Sta),(O:List Ord),(M:List Met),(X:List Out),(Q:List Per)⟩,(h:Int),_⟩:=xx
 refine(by kernel_rfl:(Kf tk st S O M X Q→0≤Kb X b→(Z54 X∧0≤Kb X b)∧decide ((H9 X b).2.2.1.2≤h)=decide ((H9 X b).2.2.1.2≤h))=_).mp ?_
 delta Z54 Z62 Kf
 intro hr h
 have nX:X.length≤16:=hr.nX
 repeat' first|assumption|exact rfl|trivial|omega|apply And.intro|intro _
abbrev W55 [Sx.Dr]:=W54.add Kge
def Kid:Con:={args:=[aI, .ref 48 Jif, .ref 9 .str, .ref 9 .str, .ref 3 sI],ress:=[Bo],owns:=[],pre:=fun(_,r,a,b,_)=>[Js r,0≤J3 r.2.2.1 a,0≤J3 r.2.2.1 b],spec:=fun(h,(_,_,S,O,_,X,_),a,b,p,_)=>(decide (min (Xm S O X a h) (Xm S O X b h)<p),())}
theorem Kgr [Sx.Dr]:Ok Tryz.prog 141 Kid:=okW W55 Tryz.f141 na fun xx=>by
 obtain⟨(h:Int),⟨(tk:Int),(st:Int),(S:List Sta),(O:List Ord),(M:List Met),(X:List Out),(Q:List Per)⟩,(a:ByteArray),(b:ByteArray),(p:Int),_⟩:=xx
 refine(by kernel_rfl:(Kf tk st S O M X Q→Z29 S a→Z29 S b→(Kf tk st S O M X Q∧Z29 S a∧Kf tk st S O M X Q∧Z29 S b)∧decide (min (Xm S O X a h) (Xm S O X b h)<p)=decide (min (Xm S O X a h) (Xm S O X b h)<p))=_).mp ?_
 delta Z29 Z62 Kf
 intro hr h1 h2
 repeat' first|assumption|exact rfl|trivial|omega|apply And.intro|intro _
abbrev W56 [Sx.Dr]:=W55.add Kgr
def Kic:Con:={args:=[aI, .ref 48 Jif, .ref 9 .str, .ref 3 sI],ress:=[Bo],owns:=[],pre:=fun(_,r,a,_)=>[Js r],spec:=fun(h,(_,_,_,O,_),a,p,_)=>(decide (p<Um O a h),())}
theorem Kgl [Sx.Dr]:Ok Tryz.prog 147 Kic:=okW W56 Tryz.f147 na fun xx=>by
 obtain⟨(h:Int),⟨(tk:Int),(st:Int),(S:List Sta),(O:List Ord),(M:List Met),(X:List Out),(Q:List Per)⟩,(a:ByteArray),(p:Int),_⟩:=xx
 refine(by kernel_rfl:(Kf tk st S O M X Q→Kf tk st S O M X Q∧decide (p<Um O a h)=decide (p<Um O a h))=_).mp ?_
 delta Z62 Kf
 intro hr
 repeat' first|assumption|exact rfl|trivial|omega|apply And.intro|intro _
abbrev W57 [Sx.Dr]:=W56.add Kgl
def Jpb (f:Int→Bool):Int→Nat→Bool
 |_,0=>false
 |a,n+1=>bif f a then true else Jpb f (a+1) n
def Zk (s:Int×Int) (f:Int→Bool):Bool:=Jpb f s.1 (s.2-s.1).toNat
def J53:Con:={args:=[.val true Jid, .fn [I] Bo],ress:=[Bo],owns:=[],pre:=fun(s,(q,_),_)=>[0≤s.1∧s.1≤999999999,0≤s.2∧s.2≤999999999,∀h,s.1≤h→h<s.2→K6 (q (h,()))],spec:=fun(s,(_,f),_)=>(Zk s fun h=>f (h,()),())}
abbrev Jw4 (a b:Int) (q:Int×Unit→List Prop) (f:Int×Unit→Bool):Ann:={X:=Nat,σ:=fun k=>⟨2,[(1, .one (.fv 1)),(2, .one (.ptr 0 0)),(5, .one (.bool false)),(11, .one (.int .i64 (b-a))),(12, .one (.int .i64 k))],[(0, .box 100 [.int .i64 a, .int .i64 b]),(1, .afn [I] Bo q f)]⟩,inv:=fun k=>k≤(b-a).toNat∧Zk (a,b) (fun h=>f (h,()))=Jpb (fun h=>f (h,())) (a+k) ((b-a).toNat-k),mu:=fun k=>(b-a).toNat-k}
def J4j (a:Int):=0≤a∧a≤999999999
def Kcb (a:Nat) (b c:Int) (d:Int×Unit→Bool):=a≤Int.toNat (b-c)∧(Zk (c,b) fun(h:Int)=>d (h,PUnit.unit))=Jpb (fun(h:Int)=>d (h,PUnit.unit)) (c+Nc a) (Int.toNat (b-c)-a)
theorem Kgt [Sx.Dr]:Ok Tryz.prog 139 J53:=okW W57 Tryz.f139 (fun xx=>Ho (Jw4 xx.1.1 xx.1.2 xx.2.1.1 xx.2.1.2)) fun xx=>by
 obtain⟨⟨(a:Int),(b:Int)⟩,⟨(q:Int×Unit→List Prop),(f:Int×Unit→Bool)⟩,_⟩:=xx
 refine(by kernel_rfl:(J4j a→J4j b→(∀(h:Int),a≤h→h<b→K6 (q (h,PUnit.unit)))→Iw (b-a)∧∃(x:Nat),Sf false (Si (b-a) (0=Nc x∧Si a (Si b ((fun(x:Int×PUnit)=>q x)=q∧(fun(x:Int×PUnit)=>f x)=f))))∧Kcb x b a f∧∀(x:Nat),Kcb x b a f→Br (decide (Nc x<b-a)) ((Iw (a+Nc x)∧K6 (q (a+Nc x,PUnit.unit)))∧Br (f (a+Nc x,PUnit.unit)) (true=Zk (a,b) fun(h:Int)=>f (h,PUnit.unit)) (Z25 x∧∃(y:Nat),Sf false (Si (b-a) (Z93 x y∧Si a (Si b ((fun(x:Int×PUnit)=>q x)=q∧(fun(x:Int×PUnit)=>f x)=f))))∧Kcb y b a f∧Int.toNat (b-a)-y<Int.toNat (b-a)-x)) (false=Zk (a,b) fun(h:Int)=>f (h,PUnit.unit)))=_).mp ?_
 delta Z25 Z93 J4j Kcb Br Iw Sf Si Nc
 intro h1 h2 hq
 refine⟨by omega,(0:Nat),⟨rfl,rfl,rfl,rfl,rfl,rfl,rfl⟩,⟨Nat.zero_le _,by simp[Zk]⟩,fun(k:Nat) hk=>⟨fun h=> ?_,fun h=> ?_⟩⟩
 ·have h:(k:Int)<b-a:=of_decide_eq_true h
  obtain⟨k1,k2⟩:=hk
  have hj:(b-a).toNat-k=((b-a).toNat-(k+1))+1:=by omega
  rw[hj,Jpb] at k2
  refine⟨⟨by omega,hq (a+k) (by omega) (by omega)⟩,fun h3=> ?_,fun h3=>⟨by omega,(k+1:Nat),⟨rfl,rfl,by simp,rfl,rfl,rfl,rfl⟩,⟨by omega, ?_⟩,by omega⟩⟩
  ·rw[k2]
   show true=bif f (a+(k:Int),PUnit.unit) then true else _
   rw[h3];rfl
  ·rw[k2]
   show(bif f (a+(k:Int),PUnit.unit) then true else _)=_
   rw[h3,Int.natCast_add,←Int.add_assoc];rfl
 ·have h:¬(k:Int)<b-a:=of_decide_eq_false h
  have hj:(b-a).toNat-k=0:=by omega
  rw[hk.2,hj];rfl
abbrev W58 [Sx.Dr]:=W57.add Kgt
def Jjh (S:List Sta) (vs:List Int):Int:=Jg [Jp (vs.getD 1 0) 1 1000,bif decide ((6:Int)≤S.length) then 5 else 0]
def J54:Con:={args:=[Jat,aEv],ress:=[I],owns:=[],pre:=fun(r,e,_)=>[Js r,2≤e.2.2.2.1.length],spec:=fun((tk,st,S,O,M,X,Q),(n,k,ns,vs,tx),_)=>(Jjh S vs,())}
def Z57 (a:Li):=2≤List.length a
theorem Kvp [Sx.Dr]:Ok Tryz.prog 94 J54:=okW W58 Tryz.f94 na fun xx=>by
 obtain⟨⟨(tk:Int),(st:Int),(S:List Sta),(O:List Ord),(M:List Met),(X:List Out),(Q:List Per)⟩,⟨(n:Int),(k:ByteArray),(ns:List ByteArray),(vs:List Int),(tx:ByteArray)⟩,_⟩:=xx
 refine(by kernel_rfl:(Kf tk st S O M X Q→Z57 vs→T2 (Z34 vs) (2≤1000000)∧Jg [Jp (Z94 vs) 1 1000,bif decide (6≤Ln S) then 5 else 0]=Jjh S vs)=_).mp ?_
 delta Z34 Z57 Z62 Z94 Kf Bd T2 Ln
 intro hr h
 repeat' first|assumption|exact rfl|trivial|omega|apply And.intro|intro _
abbrev W59 [Sx.Dr]:=W58.add Kvp
def Jla (vs:List Int):Int:=Jp (vs.getD 1 0) 0 1000
def J56:Con:={args:=[Jat,aEv],ress:=[I],owns:=[],pre:=fun(r,e,_)=>[2≤e.2.2.2.1.length],spec:=fun((tk,st,S,O,M,X,Q),(n,k,ns,vs,tx),_)=>(Jla vs,())}
def Z86 (a:Li):=Tw (Z34 a)
theorem Kvl [Sx.Dr]:Ok Tryz.prog 98 J56:=okW W59 Tryz.f98 na fun xx=>by
 obtain⟨⟨(tk:Int),(st:Int),(S:List Sta),(O:List Ord),(M:List Met),(X:List Out),(Q:List Per)⟩,⟨(n:Int),(k:ByteArray),(ns:List ByteArray),(vs:List Int),(tx:ByteArray)⟩,_⟩:=xx
 refine(by kernel_rfl:(Z57 vs→Z86 vs∧Jp (Z94 vs) 0 1000=Jla vs)=_).mp ?_
 delta Z34 Z57 Z86 Z94 Bd Tw Ln
 intro h
 repeat' first|assumption|exact rfl|trivial|omega|apply And.intro|intro _
abbrev W60 [Sx.Dr]:=W59.add Kvl
def Jfs (e:Ev):Int:=Jg [bif (e.2.2.1.getD 1 Jd).toList==(e.2.2.1.getD 2 Jd).toList then 24 else 0,Xv e,Jp (e.2.2.2.1.getD 3 0) 1 1000]
def Jsk (S:List Sta) (O:List Ord) (X:List Out) (e:Ev):Bool:=Zk (U7 e) fun h=>decide (min (Xm S O X (e.2.2.1.getD 1 Jd) h) (Xm S O X (e.2.2.1.getD 2 Jd) h)<e.2.2.2.1.getD 3 0)
def Jan (S:List Sta) (O:List Ord) (X:List Out) (e:Ev):Int:=if Jfs e≠0 then Jfs e else Jg [bif Jsk S O X e then 4 else 0,bif decide ((32:Int)≤O.length) then 5 else 0]
def J58:Con:={args:=[Jat,aEv],ress:=[I],owns:=[],pre:=fun(r,e,_)=>[Js r,EvV e,e.2.2.1.length=3,e.2.2.2.1.length=4,0≤J3 r.2.2.1 (e.2.2.1.getD 1 Jd),0≤J3 r.2.2.1 (e.2.2.1.getD 2 Jd)],spec:=fun((tk,st,S,O,M,X,Q),(n,k,ns,vs,tx),_)=>(Jan S O X (n,k,ns,vs,tx),())}
def Z37 (a:Li):=Bd 3 (Ln a)
def Z46 (a:Li):=List.length a=4
def Z88 (a:Ls):=Bd 1 (Ln a)
def Z90 (a:Li):=List.getD a 3 0
def Z91 (a:Li):=Tw (Z37 a)
def Z92 (a:Ls):=List.getD a 2 B0
def Z96 (a:Ls):=List.getD a 1 B0
def Jy1 (a:Ls):=Bd 2 (Ln a)
def Jpw (a:Ls):=List.length a=3
def Jho (a:Ls):=List.getD a 1 Jd
def J2i (a:Ls):=List.getD a 2 Jd
def Juv (a:List Sta) (b:Ls):=J3 a (Z96 b)
def Jyp (a:List Sta) (b:Ls):=0≤Juv a b
def J36 (a:List Sta) (b:Ls):=0≤J3 a (Jho b)
def Ker (a:Ls):=Lb (Z96 a) (Z92 a)
def Kn4 (a:Ls) (b:Int) (c:Bt) (d:Li) (e:Bt):=Jg [bif Ker a then 24 else 0,Xv (b,c,a,d,e),Jp (Z90 d) 1 1000]
theorem Khu [Sx.Dr]:Ok Tryz.prog 100 J58:=okW W60 Tryz.f100 na fun xx=>by
 obtain⟨⟨(tk:Int),(st:Int),(S:List Sta),(O:List Ord),(M:List Met),(X:List Out),(Q:List Per)⟩,⟨(n:Int),(k:ByteArray),(ns:List ByteArray),(vs:List Int),(tx:ByteArray)⟩,_⟩:=xx
 refine(by kernel_rfl:(Kf tk st S O M X Q→EvV (n,k,ns,vs,tx)→Jpw ns→Z46 vs→J36 S ns→0≤J3 S (J2i ns)→T2 (Z88 ns) (T2 (Jy1 ns) (Z91 vs))∧(Z52 vs∧EvV (n,k,ns,vs,tx)∧3≤1000000)∧Br (Kn4 ns n k vs tx !=0) (Kn4 ns n k vs tx=Jan S O X (n,k,ns,vs,tx)) ((Z52 vs∧(0≤(Z50 n k ns vs tx).1∧(Z50 n k ns vs tx).1≤999999999)∧(0≤(Z50 n k ns vs tx).2∧(Z50 n k ns vs tx).2≤999999999)∧∀(h:Int),(Z50 n k ns vs tx).1≤h→h<(Z50 n k ns vs tx).2→Kf tk st S O M X Q∧Jyp S ns∧0≤J3 S (Z92 ns))∧2≤1000000∧Jg [bif Zk (E2 (Z50 n k ns vs tx)) fun(h:Int)=>decide (min (Xm S O X (Z96 ns) h) (Xm S O X (Z92 ns) h)<Z90 vs) then 4 else 0,bif decide (32≤Ln O) then 5 else 0]=Jan S O X (n,k,ns,vs,tx)))=_).mp ?_
 delta Z37 Z46 Z50 Z52 Z62 Z88 Z90 Z91 Z92 Z96 Jy1 Jpw Jho J2i Kf Juv Jyp J36 Ker Kn4 Br Bd T2 Tw Ln B0 Lb E2
 intro hr hv hn hl h1 h2
 have sp:(0≤(U7 (n,k,ns,vs,tx)).1∧(U7 (n,k,ns,vs,tx)).1≤999999999)∧0≤(U7 (n,k,ns,vs,tx)).2∧(U7 (n,k,ns,vs,tx)).2≤999999999:=⟨hv (vs.getD 1 0) (Je (show 1<vs.length by omega)),hv (vs.getD 2 0) (Je (show 2<vs.length by omega))⟩
 refine⟨by omega,⟨by omega,hv,by omega⟩,fun h=> ?_,fun h=>⟨⟨by omega,sp.1,sp.2,fun _ _ _=>⟨hr,h1,h2⟩⟩,by omega, ?_⟩⟩
 ·have h:Jfs (n,k,ns,vs,tx)≠0:=bne_iff_ne.1 h
  unfold Jan;rw[if_pos h];rfl
 ·have h:¬Jfs (n,k,ns,vs,tx)≠0:=by have:=bne_eq_false_iff_eq.1 h;exact fun f=>f this
  unfold Jan;rw[if_neg h];rfl
abbrev W61 [Sx.Dr]:=W60.add Khu
def Jji (O:List Ord) (M:List Met) (ns:List ByteArray) (vs:List Int):Int:=Jg [bif decide (vs.getD 0 0≤vs.getD 1 0) then 11 else 0,bif !Uh (Dd O (ns.getD 0 Jd)).2.2.2.1 (vs.getD 1 0) then 14 else 0,bif !Ka (Dd O (ns.getD 0 Jd)) (vs.getD 1 0) then 23 else 0,bif decide (0≤Ub M (Dd O (ns.getD 0 Jd)).1 (vs.getD 1 0)) then 9 else 0,bif (bif decide ((Dd O (ns.getD 0 Jd)).2.2.2.2.1<vs.getD 2 0) then true else decide (vs.getD 2 0<vs.getD 3 0)) then 3 else 0]
def J59:Con:={args:=[Jat,aEv],ress:=[I],owns:=[],pre:=fun(r,e,_)=>[Js r,1≤e.2.2.1.length,4≤e.2.2.2.1.length,0≤Uo r.2.2.2.1 (e.2.2.1.getD 0 Jd)],spec:=fun((tk,st,S,O,M,X,Q),(n,k,ns,vs,tx),_)=>(Jji O M ns vs,())}
def Z51 (a:Li):=4≤List.length a
def Z99 (a:Ls):=List.getD a 0 B0
def Vl (a:Ls):=Bd 0 (Ln a)
def Xk (a:Ls):=1≤List.length a
def Fa (a:Ls):=List.getD a 0 Jd
def J2g (a:List Ord) (b:Ls):=Dd a (Z99 b)
def Jnv (a:List Ord) (b:Ls):=Uo a (Z99 b)
def J4f (a:List Ord) (b:Ls):=(J2g a b).2.2
def J4d (a:List Ord) (b:Ls):=(J4f a b).2.1
def J2c (a:List Ord) (b:Ls):=(J4f a b).2.2
def Jyn (a:List Ord) (b:Ls):=0≤Uo a (Fa b)
def Kei (a:Li):=decide (Z85 a<Z90 a)
def Keh (a:Li):=decide (Z95 a≤Z94 a)
def Kau (a:List Ord) (b:Ls):=((J2g a b).1,(J2g a b).2.1,(J4f a b).1,E2 (J4d a b),(J2c a b).1,E2 (J2c a b).2)
theorem Khr [Sx.Dr]:Ok Tryz.prog 103 J59:=okW W61 Tryz.f103 na fun xx=>by
 obtain⟨⟨(tk:Int),(st:Int),(S:List Sta),(O:List Ord),(M:List Met),(X:List Out),(Q:List Per)⟩,⟨(n:Int),(k:ByteArray),(ns:List ByteArray),(vs:List Int),(tx:ByteArray)⟩,_⟩:=xx
 refine(by kernel_rfl:(Kf tk st S O M X Q→Xk ns→Z51 vs→Jyn O ns→T2 (Vl ns) (Z61 O∧0≤Jnv O ns∧T2 (Z34 vs) (T2 (Z32 vs) (Z91 vs)))∧T2 (Z36 vs) (Kf tk st S O M X Q∧5≤1000000)∧Jg [bif Keh vs then 11 else 0,bif !Uh (E2 (J4d O ns)) (Z94 vs) then 14 else 0,bif !Ka (Kau O ns) (Z94 vs) then 23 else 0,bif decide (0≤Ub M (J2g O ns).1 (Z94 vs)) then 9 else 0,bif bif decide ((J2c O ns).1<Z85 vs) then true else Kei vs then 3 else 0]=Jji O M ns vs)=_).mp ?_
 delta Z32 Z34 Z36 Z37 Z51 Z61 Z62 Z85 Z90 Z91 Z94 Z95 Z99 Vl Xk Fa Kf J2g Jnv J4f J4d J2c Jyn Kei Keh Kau Bd T2 Tw Ln B0 E2
 intro hr h1 h2 h3
 have nO:O.length≤32:=hr.nO
 refine⟨⟨⟨by omega,by omega⟩,⟨by omega,by omega⟩,by omega,h3,by omega⟩,⟨by omega,by omega,hr,by omega⟩,rfl⟩
abbrev W62 [Sx.Dr]:=W61.add Khr
def Jbd (O:List Ord) (ns:List ByteArray) (vs:List Int):Int:=bif (bif (Dd O (ns.getD 0 Jd)).2.2.2.2.2.2 != -1 then true else decide ((Dd O (ns.getD 0 Jd)).2.2.2.1.2≤vs.getD 0 0)) then 23 else 0
def J0n:Con:={args:=[Jat,aEv],ress:=[I],owns:=[],pre:=fun(r,e,_)=>[Js r,1≤e.2.2.1.length,1≤e.2.2.2.1.length,0≤Uo r.2.2.2.1 (e.2.2.1.getD 0 Jd)],spec:=fun((tk,st,S,O,M,X,Q),(n,k,ns,vs,tx),_)=>(Jbd O ns vs,())}
def Z59 (a:Li):=1≤List.length a
def Kcp (a:Ls) (b:List Ord):=T2 (Vl a) (Z61 b∧0≤Jnv b a)
def Kpa (a:List Ord) (b:Ls):=(J2c a b).2.2 !=Z70
theorem Khp [Sx.Dr]:Ok Tryz.prog 105 J0n:=okW W62 Tryz.f105 na fun xx=>by
 obtain⟨⟨(tk:Int),(st:Int),(S:List Sta),(O:List Ord),(M:List Met),(X:List Out),(Q:List Per)⟩,⟨(n:Int),(k:ByteArray),(ns:List ByteArray),(vs:List Int),(tx:ByteArray)⟩,_⟩:=xx
 refine(by kernel_rfl:(Kf tk st S O M X Q→Xk ns→Z59 vs→Jyn O ns→Kcp ns O∧Tw (Kpa O ns=false→Z36 vs)∧(bif bif Kpa O ns then true else decide ((J4d O ns).2≤Z95 vs) then 23 else 0)=Jbd O ns vs)=_).mp ?_
 delta Z36 Z59 Z61 Z62 Z70 Z95 Z99 Vl Xk Fa Kf J2g Jnv J4f J4d J2c Jyn Kcp Kpa Bd T2 Tw Ln B0
 intro hr h1 h2 h3
 have nO:O.length≤32:=hr.nO
 repeat' first|assumption|exact rfl|trivial|omega|apply And.intro|intro _
abbrev W63 [Sx.Dr]:=W62.add Khp
def Jfr (S:List Sta) (e:Ev):Int:=Jg [Xv e,bif decide ((Lm S (e.2.2.1.getD 1 Jd)).2.1≤e.2.2.2.1.getD 3 0) then 3 else 0]
def Jam (S:List Sta) (O:List Ord) (X:List Out) (e:Ev):Int:=if Jfr S e≠0 then Jfr S e else Jg [bif Zk (U7 e) (fun h=>decide (e.2.2.2.1.getD 3 0<Um O (e.2.2.1.getD 1 Jd) h)) then 24 else 0,bif decide ((16:Int)≤X.length) then 5 else 0]
def J57:Con:={args:=[Jat,aEv],ress:=[I],owns:=[],pre:=fun(r,e,_)=>[Js r,EvV e,e.2.2.1.length=2,e.2.2.2.1.length=4,0≤J3 r.2.2.1 (e.2.2.1.getD 1 Jd)],spec:=fun((tk,st,S,O,M,X,Q),(n,k,ns,vs,tx),_)=>(Jam S O X (n,k,ns,vs,tx),())}
def Jnx (a:Ls):=List.length a=2
def Kov (a:Int) (b:Bt) (c:Ls) (d:Li) (e:Bt) (f:List Sta):=Jg [Xv (a,b,c,d,e),bif decide ((Lm f (Z96 c)).2.1≤Z90 d) then 3 else 0]
theorem Khn [Sx.Dr]:Ok Tryz.prog 107 J57:=okW W63 Tryz.f107 na fun xx=>by
 obtain⟨⟨(tk:Int),(st:Int),(S:List Sta),(O:List Ord),(M:List Met),(X:List Out),(Q:List Per)⟩,⟨(n:Int),(k:ByteArray),(ns:List ByteArray),(vs:List Int),(tx:ByteArray)⟩,_⟩:=xx
 refine(by kernel_rfl:(Kf tk st S O M X Q→EvV (n,k,ns,vs,tx)→Jnx ns→Z46 vs→J36 S ns→T2 (Z88 ns) (Z91 vs)∧(Z52 vs∧EvV (n,k,ns,vs,tx)∧Z53 S∧Jyp S ns∧2≤1000000)∧Br (Kov n k ns vs tx S !=0) (Kov n k ns vs tx S=Jam S O X (n,k,ns,vs,tx)) ((Z52 vs∧(0≤(Z50 n k ns vs tx).1∧(Z50 n k ns vs tx).1≤999999999)∧(0≤(Z50 n k ns vs tx).2∧(Z50 n k ns vs tx).2≤999999999)∧∀(h:Int),(Z50 n k ns vs tx).1≤h→h<(Z50 n k ns vs tx).2→Kf tk st S O M X Q)∧2≤1000000∧Jg [bif Zk (E2 (Z50 n k ns vs tx)) fun(h:Int)=>decide (Z90 vs<Um O (Z96 ns) h) then 24 else 0,bif decide (16≤Ln X) then 5 else 0]=Jam S O X (n,k,ns,vs,tx)))=_).mp ?_
 delta Z37 Z46 Z50 Z52 Z53 Z62 Z88 Z90 Z91 Z96 Jnx Jho Kf Juv Jyp J36 Kov Br Bd T2 Tw Ln B0 E2
 intro hr hv hn hl h1
 have sp:(0≤(U7 (n,k,ns,vs,tx)).1∧(U7 (n,k,ns,vs,tx)).1≤999999999)∧0≤(U7 (n,k,ns,vs,tx)).2∧(U7 (n,k,ns,vs,tx)).2≤999999999:=⟨hv (vs.getD 1 0) (Je (show 1<vs.length by omega)),hv (vs.getD 2 0) (Je (show 2<vs.length by omega))⟩
 have nS:S.length≤6:=hr.nS
 refine⟨by omega,⟨by omega,hv,by omega,h1,by omega⟩,fun h=> ?_,fun h=>⟨⟨by omega,sp.1,sp.2,fun _ _ _=>hr⟩,by omega, ?_⟩⟩
 ·have h:Jfr S (n,k,ns,vs,tx)≠0:=bne_iff_ne.1 h
  unfold Jam;rw[if_pos h];rfl
 ·have h:¬Jfr S (n,k,ns,vs,tx)≠0:=by have:=bne_eq_false_iff_eq.1 h;exact fun f=>f this
  unfold Jam;rw[if_neg h];rfl
abbrev W64 [Sx.Dr]:=W63.add Khn
def Jbe (X:List Out) (Q:List Per) (ns:List ByteArray) (vs:List Int):Int:=Jg [bif decide (vs.getD 0 0≤(H9 X (ns.getD 0 Jd)).2.2.1.1) then 21 else 0,bif decide ((H9 X (ns.getD 0 Jd)).2.2.1.2≤vs.getD 0 0) then 23 else 0,bif decide ((0:Int)<((L2 Q).filter fun p=>p.2.1.toList==(H9 X (ns.getD 0 Jd)).1.toList).length) then 32 else 0]
def J0p:Con:={args:=[Jat,aEv],ress:=[I],owns:=[],pre:=fun(r,e,_)=>[Js r,1≤e.2.2.1.length,1≤e.2.2.2.1.length,0≤Kb r.2.2.2.2.2.1 (e.2.2.1.getD 0 Jd)],spec:=fun((tk,st,S,O,M,X,Q),(n,k,ns,vs,tx),_)=>(Jbe X Q ns vs,())}
def J4g (a:List Out) (b:Ls):=H9 a (Z99 b)
def Jpu (a:List Out) (b:Ls):=Kb a (Z99 b)
def J37 (a:List Out) (b:Ls):=0≤Kb a (Fa b)
def Kco (a:Ls) (b:List Out):=T2 (Vl a) (Z54 b∧0≤Jpu b a)
theorem Khk [Sx.Dr]:Ok Tryz.prog 110 J0p:=okW W64 Tryz.f110 na fun xx=>by
 obtain⟨⟨(tk:Int),(st:Int),(S:List Sta),(O:List Ord),(M:List Met),(X:List Out),(Q:List Per)⟩,⟨(n:Int),(k:ByteArray),(ns:List ByteArray),(vs:List Int),(tx:ByteArray)⟩,_⟩:=xx
 refine(by kernel_rfl:(Kf tk st S O M X Q→Xk ns→Z59 vs→J37 X ns→Kco ns X∧(Kf tk st S O M X Q∧List.length (L2 Q)≤1000000∧∀(x:Per),x∈L2 Q→True)∧T2 (Z36 vs) (T2 (Z36 vs) (3≤1000000))∧Jg [bif decide (Z95 vs≤(J4g X ns).2.2.1.1) then 21 else 0,bif decide ((J4g X ns).2.2.1.2≤Z95 vs) then 23 else 0,bif decide (0<Ln (List.filter (fun(x:Per)=>List.beq (ByteArray.toList x.2.1) (ByteArray.toList (J4g X ns).1)) (L2 Q))) then 32 else 0]=Jbe X Q ns vs)=_).mp ?_
 delta Z36 Z54 Z59 Z62 Z95 Z99 Vl Xk Fa Kf J4g Jpu J37 Kco Bd T2 Ln B0
 intro hr h1 h2 h3
 have nX:X.length≤16:=hr.nX
 have nQ:Q.length≤16:=hr.nQ
 have:=Jml (Q:=Q)
 refine⟨⟨by omega,by omega,by omega,h3⟩,⟨hr,by omega,fun _ _=>trivial⟩,by omega,rfl⟩
abbrev W65 [Sx.Dr]:=W64.add Khk
def Jbf (X:List Out) (Q:List Per) (ns:List ByteArray) (vs:List Int):Int:=Jg [bif !Uh (H9 X (ns.getD 1 Jd)).2.2.1 (vs.getD 0 0) then 22 else 0,bif decide ((16:Int)≤Q.length) then 5 else 0]
def J0q:Con:={args:=[Jat,aEv],ress:=[I],owns:=[],pre:=fun(r,e,_)=>[Js r,2≤e.2.2.1.length,1≤e.2.2.2.1.length,0≤Kb r.2.2.2.2.2.1 (e.2.2.1.getD 1 Jd)],spec:=fun((tk,st,S,O,M,X,Q),(n,k,ns,vs,tx),_)=>(Jbf X Q ns vs,())}
def Ju0 (a:Ls):=2≤List.length a
theorem Khi [Sx.Dr]:Ok Tryz.prog 112 J0q:=okW W65 Tryz.f112 na fun xx=>by
 obtain⟨⟨(tk:Int),(st:Int),(S:List Sta),(O:List Ord),(M:List Met),(X:List Out),(Q:List Per)⟩,⟨(n:Int),(k:ByteArray),(ns:List ByteArray),(vs:List Int),(tx:ByteArray)⟩,_⟩:=xx
 refine(by kernel_rfl:(Kf tk st S O M X Q→Ju0 ns→Z59 vs→0≤Kb X (Jho ns)→T2 (Z88 ns) (Z54 X∧0≤Kb X (Z96 ns)∧T2 (Z36 vs) (2≤1000000))∧Jg [bif !Uh (E2 (H9 X (Z96 ns)).2.2.1) (Z95 vs) then 22 else 0,bif decide (16≤Ln Q) then 5 else 0]=Jbf X Q ns vs)=_).mp ?_
 delta Z36 Z54 Z59 Z62 Z88 Z95 Z96 Ju0 Jho Kf Bd T2 Ln B0 E2
 intro hr h1 h2 h3
 have nX:X.length≤16:=hr.nX
 repeat' first|assumption|exact rfl|trivial|omega|apply And.intro|intro _
abbrev W66 [Sx.Dr]:=W65.add Khi
def Jk9 (Q:List Per) (ns:List ByteArray):Int:=bif !(Jmk Q (ns.getD 0 Jd)).2.2 then 23 else 0
def J55:Con:={args:=[Jat,aEv],ress:=[I],owns:=[],pre:=fun(r,e,_)=>[Js r,1≤e.2.2.1.length,0≤U2 r.2.2.2.2.2.2 (e.2.2.1.getD 0 Jd)],spec:=fun((tk,st,S,O,M,X,Q),(n,k,ns,vs,tx),_)=>(Jk9 Q ns,())}
def Jph (a:List Per) (b:Ls):=U2 a (Z99 b)
def J35 (a:List Per) (b:Ls):=0≤U2 a (Fa b)
theorem Khf [Sx.Dr]:Ok Tryz.prog 115 J55:=okW W66 Tryz.f115 na fun xx=>by
 obtain⟨⟨(tk:Int),(st:Int),(S:List Sta),(O:List Ord),(M:List Met),(X:List Out),(Q:List Per)⟩,⟨(n:Int),(k:ByteArray),(ns:List ByteArray),(vs:List Int),(tx:ByteArray)⟩,_⟩:=xx
 refine(by kernel_rfl:(Kf tk st S O M X Q→Xk ns→J35 Q ns→T2 (Vl ns) (Z49 Q∧0≤Jph Q ns)∧(bif !(Jmk Q (Z99 ns)).2.2 then 23 else 0)=Jk9 Q ns)=_).mp ?_
 delta Z49 Z62 Z99 Vl Xk Fa Kf Jph J35 Bd T2 Ln B0
 intro hr h1 h3
 have nQ:Q.length≤16:=hr.nQ
 repeat' first|assumption|exact rfl|trivial|omega|apply And.intro|intro _
abbrev W67 [Sx.Dr]:=W66.add Khf
def Ht (st:Int) (O:List Ord) (M:List Met) (X:List Out) (Q:List Per) (vs:List Int):Int:=bif (bif decide (vs.getD 1 0≤st) then true else decide (vs.getD 0 0<vs.getD 1 0)) then 14 else bif (bif decide ((0:Int)<(V3 M (vs.getD 1 0) O).length) then true else decide ((0:Int)<((L2 Q).filter fun p=>decide ((H9 X p.2.1).2.2.1.2≤vs.getD 1 0)).length)) then 32 else 0
def J0o:Con:={args:=[Jat,aEv],ress:=[I],owns:=[],pre:=fun(r,e,_)=>[Js r,2≤e.2.2.2.1.length],spec:=fun((tk,st,S,O,M,X,Q),(n,k,ns,vs,tx),_)=>(Ht st O M X Q vs,())}
def J84 (a:Li) (b:Int):=decide (Z94 a≤b)
def Kdm (a:Li) (b:Int):=Tw (J84 a b=false→Z36 a)
def Kb2 (a:Li) (b:Int):=bif J84 a b then true else decide (Z95 a<Z94 a)
theorem Khd [Sx.Dr]:Ok Tryz.prog 117 J0o:=okW W67 Tryz.f117 na fun xx=>by
 obtain⟨⟨(tk:Int),(st:Int),(S:List Sta),(O:List Ord),(M:List Met),(X:List Out),(Q:List Per)⟩,⟨(n:Int),(k:ByteArray),(ns:List ByteArray),(vs:List Int),(tx:ByteArray)⟩,_⟩:=xx
 refine(by kernel_rfl:(Kf tk st S O M X Q→Z57 vs→Z86 vs∧Kdm vs st∧Br (Kb2 vs st) (14=Ht st O M X Q vs) ((Kf tk st S O M X Q∧List.length (L2 Q)≤1000000∧∀(x:Per),x∈L2 Q→Kf tk st S O M X Q∧0≤Kb X x.2.1)∧Kf tk st S O M X Q∧(bif bif decide (0<Ln (V3 M (Z94 vs) O)) then true else decide (0<Ln (List.filter (fun(x:Per)=>decide ((H9 X x.2.1).2.2.1.2≤Z94 vs)) (L2 Q))) then 32 else 0)=Ht st O M X Q vs))=_).mp ?_
 delta Z34 Z36 Z57 Z62 Z86 Z94 Z95 Kf J84 Kdm Kb2 Br Bd Tw Ln
 intro hr h1
 have nQ:Q.length≤16:=hr.nQ
 have:=Jml (Q:=Q)
 refine⟨by omega,⟨fun _=>by omega,fun _=>by omega⟩,fun h=> ?_,fun h=>⟨⟨hr,by omega,fun x hx=>⟨hr,hr.per x (Jis hx)⟩⟩,hr, ?_⟩⟩
 ·unfold Ht;rw[h];rfl
 ·unfold Ht;rw[h];rfl
abbrev W68 [Sx.Dr]:=W67.add Khd
abbrev Jui (pre:Reg→Ev→List Prop) (post:Reg→Ev→Reg):Zc:={T? :=some 48,s:=Jif,args:=[aEv],ress:=[],pre:=fun r (e,_)=>pre r e,spec:=fun _ _=>(),post:=fun r (e,_)=>post r e}
def Jkb (O:List Ord) (s:ByteArray) (v:Int):List Ord:=O.set (Uo O s).toNat ((Dd O s).1,(Dd O s).2.1,(Dd O s).2.2.1,(Dd O s).2.2.2.1,(Dd O s).2.2.2.2.1,(Dd O s).2.2.2.2.2.1,v)
def Jkc (X:List Out) (s:ByteArray) (v:Int):List Out:=X.set (Kb X s).toNat ((H9 X s).1,(H9 X s).2.1,((H9 X s).2.2.1.1,v),(H9 X s).2.2.2)
def Jkd (Q:List Per) (s:ByteArray):List Per:=Q.set (U2 Q s).toNat ((Jmk Q s).1,(Jmk Q s).2.1,false)
def Fs:Reg→Ev→Reg:=fun(tk,st,S,O,M,X,Q) (n,k,ns,vs,tx)=>(tk,st,S++[(ns.getD 0 Jd,vs.getD 1 0,0)],O,M,X,Q)
def Jtd:Zc:=Jui (fun r e=>[Js r,1≤e.2.2.1.length,2≤e.2.2.2.1.length]) Fs
def Kdn (a:List Sta) (b:Ls) (c:Li):=a++[(Z99 b,Z94 c,0)]
def Kcr (a:Ls) (b:Li) (c:List Sta):=T2 (Vl a) (T2 (Z34 b) ((List.length c+1)*32≤140737488355328))
theorem Kve [Sx.Dr] (tk st:Int) (S:List Sta) (O:List Ord) (M:List Met) (X:List Out) (Q:List Per) (n:Int) (k:ByteArray) (ns:List ByteArray) (vs:List Int) (tx:ByteArray):wpFO Tryz.prog W68.g (na ()) (fun _=>na ()) (Sx.look ([]:List (Nat×Func))) Tryz.f95 Jtd 48 (tk,st,S,O,M,X,Q) ((n,k,ns,vs,tx),()):=by
 refine(by kernel_rfl:(Kf tk st S O M X Q→Xk ns→Z57 vs→Kcr ns vs S∧Sf true (Sf 48 ((tk,st,Kdn S ns vs,O,M,X,Q)=Fs (Z62 tk st S O M X Q) (n,k,ns,vs,tx))))=_).mp ?_
 delta Z34 Z57 Z62 Z94 Z99 Vl Xk Kf Kdn Kcr Bd T2 Sf Ln B0
 intro hr
 have nS:S.length≤6:=hr.nS
 have nO:O.length≤32:=hr.nO
 have nM:M.length≤10000:=hr.nM
 have nX:X.length≤16:=hr.nX
 have nQ:Q.length≤16:=hr.nQ
 intros
 repeat' first|assumption|exact rfl|trivial|omega|exact Kv|exact Ue|exact K2|exact Ud|apply And.intro|intro _
theorem Kvo [Sx.Dr]:Ok Tryz.prog 95 (Zc.con Jtd):=Zh (Ua mixed W68.ok (by kernel_rfl) (by kernel_rfl) (Uq (l:=([]:List (Nat×Func))) (by simp)) (fun xx yy=>na ()) (fun xx yy=>fun _=>na ()) fun T xx yy hT=>by obtain rfl:=hT _ rfl;exact Kve xx.1 xx.2.1 xx.2.2.1 xx.2.2.2.1 xx.2.2.2.2.1 xx.2.2.2.2.2.1 xx.2.2.2.2.2.2 yy.1.1 yy.1.2.1 yy.1.2.2.1 yy.1.2.2.2.1 yy.1.2.2.2.2)
abbrev W69 [Sx.Dr]:=W68.add Kvo
def Dk:Reg→Ev→Reg:=fun(tk,st,S,O,M,X,Q) (n,k,ns,vs,tx)=>(tk,st,S.set (J3 S (ns.getD 0 Jd)).toNat ((Lm S (ns.getD 0 Jd)).1,(Lm S (ns.getD 0 Jd)).2.1,vs.getD 1 0),O,M,X,Q)
def Jta:Zc:=Jui (fun r e=>[Js r,1≤e.2.2.1.length,2≤e.2.2.2.1.length,0≤J3 r.2.2.1 (e.2.2.1.getD 0 Jd)]) Dk
def Jyy (a:List Sta) (b:Ls):=J3 a (Z99 b)
def Ksm (a:List Sta) (b:Ls):=Gt a (Jyy a b) Z19
theorem Kvd [Sx.Dr] (tk st:Int) (S:List Sta) (O:List Ord) (M:List Met) (X:List Out) (Q:List Per) (n:Int) (k:ByteArray) (ns:List ByteArray) (vs:List Int) (tx:ByteArray):wpFO Tryz.prog W69.g (na ()) (fun _=>na ()) (Sx.look ([]:List (Nat×Func))) Tryz.f99 Jta 48 (tk,st,S,O,M,X,Q) ((n,k,ns,vs,tx),()):=by
 refine(by kernel_rfl:(Kf tk st S O M X Q→Xk ns→Z57 vs→0≤J3 S (Fa ns)→T2 (Vl ns) (Z53 S∧T2 (Z34 vs) (Tw (Bd (Jyy S ns) (Ln S))))∧Sf true (Sf 48 ((tk,st,List.set S (Int.toNat (Jyy S ns)) ((Ksm S ns).1,(Ksm S ns).2.1,Z94 vs),O,M,X,Q)=Dk (Z62 tk st S O M X Q) (n,k,ns,vs,tx))))=_).mp ?_
 delta Z19 Z34 Z53 Z57 Z62 Z94 Z99 Vl Xk Fa Kf Jyy Ksm Bd T2 Tw Sf Ln Gt B0
 intro hr
 have nS:S.length≤6:=hr.nS
 have nO:O.length≤32:=hr.nO
 have nM:M.length≤10000:=hr.nM
 have nX:X.length≤16:=hr.nX
 have nQ:Q.length≤16:=hr.nQ
 intros
 repeat' first|assumption|exact rfl|trivial|omega|exact Kv|exact Ue|exact K2|exact Ud|apply And.intro|intro _
theorem Kvk [Sx.Dr]:Ok Tryz.prog 99 (Zc.con Jta):=Zh (Ua mixed W69.ok (by kernel_rfl) (by kernel_rfl) (Uq (l:=([]:List (Nat×Func))) (by simp)) (fun xx yy=>na ()) (fun xx yy=>fun _=>na ()) fun T xx yy hT=>by obtain rfl:=hT _ rfl;exact Kvd xx.1 xx.2.1 xx.2.2.1 xx.2.2.2.1 xx.2.2.2.2.1 xx.2.2.2.2.2.1 xx.2.2.2.2.2.2 yy.1.1 yy.1.2.1 yy.1.2.2.1 yy.1.2.2.2.1 yy.1.2.2.2.2)
abbrev W70 [Sx.Dr]:=W69.add Kvk
def Do:Reg→Ev→Reg:=fun(tk,st,S,O,M,X,Q) (n,k,ns,vs,tx)=>(tk,st,S,O++[(ns.getD 0 Jd,ns.getD 1 Jd,ns.getD 2 Jd,U7 (n,k,ns,vs,tx),vs.getD 3 0,(Lm S (ns.getD 1 Jd)).2.2,-1)],M,X,Q)
def Jtf:Zc:=Jui (fun r e=>[Js r,e.2.2.1.length=3,e.2.2.2.1.length=4,0≤J3 r.2.2.1 (e.2.2.1.getD 1 Jd)]) Do
theorem Kfo [Sx.Dr] (tk st:Int) (S:List Sta) (O:List Ord) (M:List Met) (X:List Out) (Q:List Per) (n:Int) (k:ByteArray) (ns:List ByteArray) (vs:List Int) (tx:ByteArray):wpFO Tryz.prog W70.g (na ()) (fun _=>na ()) (Sx.look ([]:List (Nat×Func))) Tryz.f101 Jtf 48 (tk,st,S,O,M,X,Q) ((n,k,ns,vs,tx),()):=by
 refine(by kernel_rfl:(Kf tk st S O M X Q→Jpw ns→Z46 vs→J36 S ns→T2 (Vl ns) (T2 (Z88 ns) (T2 (Jy1 ns) (Z52 vs∧T2 (Z37 vs) (T2 (Z88 ns) (Z53 S∧Jyp S ns∧(List.length O+1)*88≤140737488355328)))))∧Sf true (Sf 48 ((tk,st,S,O++[(Z99 ns,Z96 ns,Z92 ns,E2 (Z50 n k ns vs tx),Z90 vs,(Lm S (Z96 ns)).2.2,Z70)],M,X,Q)=Do (Z62 tk st S O M X Q) (n,k,ns,vs,tx))))=_).mp ?_
 delta Z37 Z46 Z50 Z52 Z53 Z62 Z70 Z88 Z90 Z92 Z96 Z99 Jy1 Vl Jpw Jho Kf Juv Jyp J36 Bd T2 Sf Ln B0 E2
 intro hr
 have nS:S.length≤6:=hr.nS
 have nO:O.length≤32:=hr.nO
 have nM:M.length≤10000:=hr.nM
 have nX:X.length≤16:=hr.nX
 have nQ:Q.length≤16:=hr.nQ
 intros
 repeat' first|assumption|exact rfl|trivial|omega|exact Kv|exact Ue|exact K2|exact Ud|apply And.intro|intro _
theorem Kht [Sx.Dr]:Ok Tryz.prog 101 (Zc.con Jtf):=Zh (Ua mixed W70.ok (by kernel_rfl) (by kernel_rfl) (Uq (l:=([]:List (Nat×Func))) (by simp)) (fun xx yy=>na ()) (fun xx yy=>fun _=>na ()) fun T xx yy hT=>by obtain rfl:=hT _ rfl;exact Kfo xx.1 xx.2.1 xx.2.2.1 xx.2.2.2.1 xx.2.2.2.2.1 xx.2.2.2.2.2.1 xx.2.2.2.2.2.2 yy.1.1 yy.1.2.1 yy.1.2.2.1 yy.1.2.2.2.1 yy.1.2.2.2.2)
abbrev W71 [Sx.Dr]:=W70.add Kht
def Dp:Reg→Ev→Reg:=fun(tk,st,S,O,M,X,Q) (n,k,ns,vs,tx)=>(tk,st,S,O,M++[(ns.getD 0 Jd,vs.getD 1 0,vs.getD 2 0,vs.getD 3 0)],X,Q)
def Jtg:Zc:=Jui (fun r e=>[Js r,1≤e.2.2.1.length,4≤e.2.2.2.1.length]) Dp
def Kdb (a:Li):=(Z94 a,Z85 a,Z90 a)
def Kbq (a:Li) (b:List Met):=T2 (Z34 a) (T2 (Z32 a) (T2 (Z37 a) ((List.length b+1)*40≤140737488355328)))
theorem Kfn [Sx.Dr] (tk st:Int) (S:List Sta) (O:List Ord) (M:List Met) (X:List Out) (Q:List Per) (n:Int) (k:ByteArray) (ns:List ByteArray) (vs:List Int) (tx:ByteArray):wpFO Tryz.prog W71.g (na ()) (fun _=>na ()) (Sx.look ([]:List (Nat×Func))) Tryz.f104 Jtg 48 (tk,st,S,O,M,X,Q) ((n,k,ns,vs,tx),()):=by
 refine(by kernel_rfl:(Kf tk st S O M X Q→Xk ns→Z51 vs→T2 (Vl ns) (Kbq vs M)∧Sf true (Sf 48 ((tk,st,S,O,M++[(Z99 ns,Kdb vs)],X,Q)=Dp (Z62 tk st S O M X Q) (n,k,ns,vs,tx))))=_).mp ?_
 delta Z32 Z34 Z37 Z51 Z62 Z85 Z90 Z94 Z99 Vl Xk Kf Kdb Kbq Bd T2 Sf Ln B0
 intro hr
 have nS:S.length≤6:=hr.nS
 have nO:O.length≤32:=hr.nO
 have nM:M.length≤10000:=hr.nM
 have nX:X.length≤16:=hr.nX
 have nQ:Q.length≤16:=hr.nQ
 intros
 repeat' first|assumption|exact rfl|trivial|omega|exact Kv|exact Ue|exact K2|exact Ud|apply And.intro|intro _
theorem Khq [Sx.Dr]:Ok Tryz.prog 104 (Zc.con Jtg):=Zh (Ua mixed W71.ok (by kernel_rfl) (by kernel_rfl) (Uq (l:=([]:List (Nat×Func))) (by simp)) (fun xx yy=>na ()) (fun xx yy=>fun _=>na ()) fun T xx yy hT=>by obtain rfl:=hT _ rfl;exact Kfn xx.1 xx.2.1 xx.2.2.1 xx.2.2.2.1 xx.2.2.2.2.1 xx.2.2.2.2.2.1 xx.2.2.2.2.2.2 yy.1.1 yy.1.2.1 yy.1.2.2.1 yy.1.2.2.2.1 yy.1.2.2.2.2)
abbrev W72 [Sx.Dr]:=W71.add Khq
def Dj:Reg→Ev→Reg:=fun(tk,st,S,O,M,X,Q) (n,k,ns,vs,tx)=>(tk,st,S,Jkb O (ns.getD 0 Jd) (vs.getD 0 0),M,X,Q)
def Js8:Zc:=Jui (fun r e=>[Js r,1≤e.2.2.1.length,1≤e.2.2.2.1.length,0≤Uo r.2.2.2.1 (e.2.2.1.getD 0 Jd)]) Dj
def Kpv (a:List Ord) (b:Ls):=Gt a (Jnv a b) Jej
def Kpl (a:List Ord) (b:Ls):=(Kpv a b).2
def Kpk (a:List Ord) (b:Ls):=(Kpl a b).2
def Kph (a:List Ord) (b:Ls):=(Kpk a b).2
def Kpf (a:List Ord) (b:Ls):=(Kph a b).2
theorem Kfm [Sx.Dr] (tk st:Int) (S:List Sta) (O:List Ord) (M:List Met) (X:List Out) (Q:List Per) (n:Int) (k:ByteArray) (ns:List ByteArray) (vs:List Int) (tx:ByteArray):wpFO Tryz.prog W72.g (na ()) (fun _=>na ()) (Sx.look ([]:List (Nat×Func))) Tryz.f106 Js8 48 (tk,st,S,O,M,X,Q) ((n,k,ns,vs,tx),()):=by
 refine(by kernel_rfl:(Kf tk st S O M X Q→Xk ns→Z59 vs→Jyn O ns→T2 (Vl ns) (Z61 O∧T2 (Z36 vs) (Tw (Bd (Jnv O ns) (Ln O))))∧Sf true (Sf 48 ((tk,st,S,List.set O (Int.toNat (Jnv O ns)) ((Kpv O ns).1,(Kpl O ns).1,(Kpk O ns).1,E2 (Kph O ns).1,(Kpf O ns).1,(Kpf O ns).2.1,Z95 vs),M,X,Q)=Dj (Z62 tk st S O M X Q) (n,k,ns,vs,tx))))=_).mp ?_
 delta Z36 Z59 Z61 Z62 Z72 Z95 Z99 Vl Xk Fa Kf Jnv Jyn Jej Kpv Kpl Kpk Kph Kpf Bd T2 Tw Sf Ln Gt B0 E2
 intro hr
 have nS:S.length≤6:=hr.nS
 have nO:O.length≤32:=hr.nO
 have nM:M.length≤10000:=hr.nM
 have nX:X.length≤16:=hr.nX
 have nQ:Q.length≤16:=hr.nQ
 intros
 repeat' first|assumption|exact rfl|trivial|omega|exact Kv|exact Ue|exact K2|exact Ud|apply And.intro|intro _
theorem Kho [Sx.Dr]:Ok Tryz.prog 106 (Zc.con Js8):=Zh (Ua mixed W72.ok (by kernel_rfl) (by kernel_rfl) (Uq (l:=([]:List (Nat×Func))) (by simp)) (fun xx yy=>na ()) (fun xx yy=>fun _=>na ()) fun T xx yy hT=>by obtain rfl:=hT _ rfl;exact Kfm xx.1 xx.2.1 xx.2.2.1 xx.2.2.2.1 xx.2.2.2.2.1 xx.2.2.2.2.2.1 xx.2.2.2.2.2.2 yy.1.1 yy.1.2.1 yy.1.2.2.1 yy.1.2.2.2.1 yy.1.2.2.2.2)
abbrev W73 [Sx.Dr]:=W72.add Kho
def Dm:Reg→Ev→Reg:=fun(tk,st,S,O,M,X,Q) (n,k,ns,vs,tx)=>(tk,st,S,O,M,X++[(ns.getD 0 Jd,ns.getD 1 Jd,U7 (n,k,ns,vs,tx),vs.getD 3 0)],Q)
def Jtc:Zc:=Jui (fun r e=>[Js r,e.2.2.1.length=2,e.2.2.2.1.length=4]) Dm
def Kd5 (a:Li) (b:List Out):=T2 (Z37 a) ((List.length b+1)*56≤140737488355328)
theorem Kfl [Sx.Dr] (tk st:Int) (S:List Sta) (O:List Ord) (M:List Met) (X:List Out) (Q:List Per) (n:Int) (k:ByteArray) (ns:List ByteArray) (vs:List Int) (tx:ByteArray):wpFO Tryz.prog W73.g (na ()) (fun _=>na ()) (Sx.look ([]:List (Nat×Func))) Tryz.f108 Jtc 48 (tk,st,S,O,M,X,Q) ((n,k,ns,vs,tx),()):=by
 refine(by kernel_rfl:(Kf tk st S O M X Q→Jnx ns→Z46 vs→T2 (Vl ns) (T2 (Z88 ns) (Z52 vs∧Kd5 vs X))∧Sf true (Sf 48 ((tk,st,S,O,M,X++[(Z99 ns,Z96 ns,E2 (Z50 n k ns vs tx),Z90 vs)],Q)=Dm (Z62 tk st S O M X Q) (n,k,ns,vs,tx))))=_).mp ?_
 delta Z37 Z46 Z50 Z52 Z62 Z88 Z90 Z96 Z99 Vl Jnx Kf Kd5 Bd T2 Sf Ln B0 E2
 intro hr
 have nS:S.length≤6:=hr.nS
 have nO:O.length≤32:=hr.nO
 have nM:M.length≤10000:=hr.nM
 have nX:X.length≤16:=hr.nX
 have nQ:Q.length≤16:=hr.nQ
 intros
 repeat' first|assumption|exact rfl|trivial|omega|exact Kv|exact Ue|exact K2|exact Ud|apply And.intro|intro _
theorem Khm [Sx.Dr]:Ok Tryz.prog 108 (Zc.con Jtc):=Zh (Ua mixed W73.ok (by kernel_rfl) (by kernel_rfl) (Uq (l:=([]:List (Nat×Func))) (by simp)) (fun xx yy=>na ()) (fun xx yy=>fun _=>na ()) fun T xx yy hT=>by obtain rfl:=hT _ rfl;exact Kfl xx.1 xx.2.1 xx.2.2.1 xx.2.2.2.1 xx.2.2.2.2.1 xx.2.2.2.2.2.1 xx.2.2.2.2.2.2 yy.1.1 yy.1.2.1 yy.1.2.2.1 yy.1.2.2.2.1 yy.1.2.2.2.2)
abbrev W74 [Sx.Dr]:=W73.add Khm
def Dl:Reg→Ev→Reg:=fun(tk,st,S,O,M,X,Q) (n,k,ns,vs,tx)=>(tk,st,S,O,M,Jkc X (ns.getD 0 Jd) (vs.getD 0 0),Q)
def Jtb:Zc:=Jui (fun r e=>[Js r,1≤e.2.2.1.length,1≤e.2.2.2.1.length,0≤Kb r.2.2.2.2.2.1 (e.2.2.1.getD 0 Jd)]) Dl
def Krv (a:List Out) (b:Ls):=Gt a (Jpu a b) Jel
def Krt (a:List Out) (b:Ls):=(Krv a b).2
def Krr (a:List Out) (b:Ls):=(Krt a b).2
theorem Kfk [Sx.Dr] (tk st:Int) (S:List Sta) (O:List Ord) (M:List Met) (X:List Out) (Q:List Per) (n:Int) (k:ByteArray) (ns:List ByteArray) (vs:List Int) (tx:ByteArray):wpFO Tryz.prog W74.g (na ()) (fun _=>na ()) (Sx.look ([]:List (Nat×Func))) Tryz.f111 Jtb 48 (tk,st,S,O,M,X,Q) ((n,k,ns,vs,tx),()):=by
 refine(by kernel_rfl:(Kf tk st S O M X Q→Xk ns→Z59 vs→J37 X ns→T2 (Vl ns) (Z54 X∧T2 (Z36 vs) (Tw (Bd (Jpu X ns) (Ln X))))∧Sf true (Sf 48 ((tk,st,S,O,M,List.set X (Int.toNat (Jpu X ns)) ((Krv X ns).1,(Krt X ns).1,((Krr X ns).1.1,Z95 vs),(Krr X ns).2),Q)=Dl (Z62 tk st S O M X Q) (n,k,ns,vs,tx))))=_).mp ?_
 delta Z36 Z54 Z59 Z62 Z95 Z99 Vl Xk Fa Kf Jel Jpu J37 Krv Krt Krr Bd T2 Tw Sf Ln Gt B0
 intro hr
 have nS:S.length≤6:=hr.nS
 have nO:O.length≤32:=hr.nO
 have nM:M.length≤10000:=hr.nM
 have nX:X.length≤16:=hr.nX
 have nQ:Q.length≤16:=hr.nQ
 intros
 repeat' first|assumption|exact rfl|trivial|omega|exact Kv|exact Ue|exact K2|exact Ud|apply And.intro|intro _
theorem Khj [Sx.Dr]:Ok Tryz.prog 111 (Zc.con Jtb):=Zh (Ua mixed W74.ok (by kernel_rfl) (by kernel_rfl) (Uq (l:=([]:List (Nat×Func))) (by simp)) (fun xx yy=>na ()) (fun xx yy=>fun _=>na ()) fun T xx yy hT=>by obtain rfl:=hT _ rfl;exact Kfk xx.1 xx.2.1 xx.2.2.1 xx.2.2.2.1 xx.2.2.2.2.1 xx.2.2.2.2.2.1 xx.2.2.2.2.2.2 yy.1.1 yy.1.2.1 yy.1.2.2.1 yy.1.2.2.2.1 yy.1.2.2.2.2)
abbrev W75 [Sx.Dr]:=W74.add Khj
def Dn:Reg→Ev→Reg:=fun(tk,st,S,O,M,X,Q) (n,k,ns,vs,tx)=>(tk,st,S,O,M,X,Q++[(ns.getD 0 Jd,ns.getD 1 Jd,true)])
def Jte:Zc:=Jui (fun r e=>[Js r,2≤e.2.2.1.length]) Dn
def Kdi (a:List Out) (b:List Per) (c:Ls):=(a,b++[(Z99 c,Z96 c,true)])
def Kch (a:Ls) (b:List Per):=T2 (Vl a) (T2 (Z88 a) ((List.length b+1)*40≤140737488355328))
theorem Kfj [Sx.Dr] (tk st:Int) (S:List Sta) (O:List Ord) (M:List Met) (X:List Out) (Q:List Per) (n:Int) (k:ByteArray) (ns:List ByteArray) (vs:List Int) (tx:ByteArray):wpFO Tryz.prog W75.g (na ()) (fun _=>na ()) (Sx.look ([]:List (Nat×Func))) Tryz.f113 Jte 48 (tk,st,S,O,M,X,Q) ((n,k,ns,vs,tx),()):=by
 refine(by kernel_rfl:(Kf tk st S O M X Q→Ju0 ns→Kch ns Q∧Sf true (Sf 48 ((tk,st,S,O,M,Kdi X Q ns)=Dn (Z62 tk st S O M X Q) (n,k,ns,vs,tx))))=_).mp ?_
 delta Z62 Z88 Z96 Z99 Vl Ju0 Kf Kdi Kch Bd T2 Sf Ln B0
 intro hr
 have nS:S.length≤6:=hr.nS
 have nO:O.length≤32:=hr.nO
 have nM:M.length≤10000:=hr.nM
 have nX:X.length≤16:=hr.nX
 have nQ:Q.length≤16:=hr.nQ
 intros
 repeat' first|assumption|exact rfl|trivial|omega|exact Kv|exact Ue|exact K2|exact Ud|apply And.intro|intro _
theorem Khh [Sx.Dr]:Ok Tryz.prog 113 (Zc.con Jte):=Zh (Ua mixed W75.ok (by kernel_rfl) (by kernel_rfl) (Uq (l:=([]:List (Nat×Func))) (by simp)) (fun xx yy=>na ()) (fun xx yy=>fun _=>na ()) fun T xx yy hT=>by obtain rfl:=hT _ rfl;exact Kfj xx.1 xx.2.1 xx.2.2.1 xx.2.2.2.1 xx.2.2.2.2.1 xx.2.2.2.2.2.1 xx.2.2.2.2.2.2 yy.1.1 yy.1.2.1 yy.1.2.2.1 yy.1.2.2.2.1 yy.1.2.2.2.2)
abbrev W76 [Sx.Dr]:=W75.add Khh
def Jev:Reg→Ev→Reg:=fun(tk,st,S,O,M,X,Q) (n,k,ns,vs,tx)=>(tk,st,S,O,M,X,Jkd Q (ns.getD 0 Jd))
def Jyc:Zc:=Jui (fun r e=>[Js r,1≤e.2.2.1.length,0≤U2 r.2.2.2.2.2.2 (e.2.2.1.getD 0 Jd)]) Jev
theorem Kfi [Sx.Dr] (tk st:Int) (S:List Sta) (O:List Ord) (M:List Met) (X:List Out) (Q:List Per) (n:Int) (k:ByteArray) (ns:List ByteArray) (vs:List Int) (tx:ByteArray):wpFO Tryz.prog W76.g (na ()) (fun _=>na ()) (Sx.look ([]:List (Nat×Func))) Tryz.f116 Jyc 48 (tk,st,S,O,M,X,Q) ((n,k,ns,vs,tx),()):=by
 refine(by kernel_rfl:(Kf tk st S O M X Q→Xk ns→J35 Q ns→T2 (Vl ns) (Z49 Q∧Tw (Bd (Jph Q ns) (Ln Q)))∧Sf true (Sf 48 ((tk,st,S,O,M,X,List.set Q (Int.toNat (Jph Q ns)) ((Gt Q (Jph Q ns) (B0,B0,false)).1,(Gt Q (Jph Q ns) (B0,B0,false)).2.1,false))=Jev (Z62 tk st S O M X Q) (n,k,ns,vs,tx))))=_).mp ?_
 delta Z49 Z62 Z99 Vl Xk Fa Kf Jph J35 Bd T2 Tw Sf Ln Gt B0
 intro hr
 have nS:S.length≤6:=hr.nS
 have nO:O.length≤32:=hr.nO
 have nM:M.length≤10000:=hr.nM
 have nX:X.length≤16:=hr.nX
 have nQ:Q.length≤16:=hr.nQ
 intros
 repeat' first|assumption|exact rfl|trivial|omega|exact Kv|exact Ue|exact K2|exact Ud|apply And.intro|intro _
theorem Khe [Sx.Dr]:Ok Tryz.prog 116 (Zc.con Jyc):=Zh (Ua mixed W76.ok (by kernel_rfl) (by kernel_rfl) (Uq (l:=([]:List (Nat×Func))) (by simp)) (fun xx yy=>na ()) (fun xx yy=>fun _=>na ()) fun T xx yy hT=>by obtain rfl:=hT _ rfl;exact Kfi xx.1 xx.2.1 xx.2.2.1 xx.2.2.2.1 xx.2.2.2.2.1 xx.2.2.2.2.2.1 xx.2.2.2.2.2.2 yy.1.1 yy.1.2.1 yy.1.2.2.1 yy.1.2.2.2.1 yy.1.2.2.2.2)
abbrev W77 [Sx.Dr]:=W76.add Khe
def Fr:Reg→Ev→Reg:=fun(tk,st,S,O,M,X,Q) (n,k,ns,vs,tx)=>(tk,vs.getD 1 0,S,O,M,X,Q)
def Js9:Zc:=Jui (fun r e=>[Js r,2≤e.2.2.2.1.length]) Fr
theorem Kfh [Sx.Dr] (tk st:Int) (S:List Sta) (O:List Ord) (M:List Met) (X:List Out) (Q:List Per) (n:Int) (k:ByteArray) (ns:List ByteArray) (vs:List Int) (tx:ByteArray):wpFO Tryz.prog W77.g (na ()) (fun _=>na ()) (Sx.look ([]:List (Nat×Func))) Tryz.f118 Js9 48 (tk,st,S,O,M,X,Q) ((n,k,ns,vs,tx),()):=by
 refine(by kernel_rfl:(Kf tk st S O M X Q→Z57 vs→Z86 vs∧Sf true (Sf 48 ((tk,Z94 vs,S,O,M,X,Q)=Fr (Z62 tk st S O M X Q) (n,k,ns,vs,tx))))=_).mp ?_
 delta Z34 Z57 Z62 Z86 Z94 Kf Bd Tw Sf Ln
 intro hr
 have nS:S.length≤6:=hr.nS
 have nO:O.length≤32:=hr.nO
 have nM:M.length≤10000:=hr.nM
 have nX:X.length≤16:=hr.nX
 have nQ:Q.length≤16:=hr.nQ
 intros
 repeat' first|assumption|exact rfl|trivial|omega|exact Kv|exact Ue|exact K2|exact Ud|apply And.intro|intro _
theorem Khc [Sx.Dr]:Ok Tryz.prog 118 (Zc.con Js9):=Zh (Ua mixed W77.ok (by kernel_rfl) (by kernel_rfl) (Uq (l:=([]:List (Nat×Func))) (by simp)) (fun xx yy=>na ()) (fun xx yy=>fun _=>na ()) fun T xx yy hT=>by obtain rfl:=hT _ rfl;exact Kfh xx.1 xx.2.1 xx.2.2.1 xx.2.2.2.1 xx.2.2.2.2.1 xx.2.2.2.2.2.1 xx.2.2.2.2.2.2 yy.1.1 yy.1.2.1 yy.1.2.2.1 yy.1.2.2.2.1 yy.1.2.2.2.2)
abbrev W78 [Sx.Dr]:=W77.add Khc
end Go.Proofs.YthlgkojihnccaaaGreatDoor
namespace Go.Proofs.YthlgkojihnccaaaGreatDoor
instance drOff:Sx.Dr:=Sx.Dr.off
open Go.Sx
set_option maxHeartbeats 20000000
def Jbh (T:TypeId) (s:Sch):Con:={args:=[.val false (.list T s)],ress:=[(false, .list T s)],owns:=[true],pre:=fun(l,_)=>[l.length≤1000000],spec:=fun(l,_)=>(l,())}
theorem Jij {M:Nat→Prop} {w:World}:∀{xs:List Int} {flat:List Value},Yc (Rep M w (.int .i64)) xs flat→flat=xs.map (Value.int .i64)
 |[],_,h=>h
 |x::xs,_,⟨c1,c2,rfl,h1,h2⟩=>by
  have h1:c1=[.int .i64 x]:=h1
  rw[h1,Jij h2];rfl
theorem Jme {M:Nat→Prop} {w:World}:∀(xs:List Int),Yc (Rep M w (.int .i64)) xs (xs.map (Value.int .i64))
 |[]=>rfl
 |x::xs=>⟨[.int .i64 x],xs.map (Value.int .i64),rfl,rfl,Jme xs⟩
theorem Jct {M:Nat→Prop} {w:World}:∀{xs:List ByteArray} {flat:List Value},Yc (Rep M w .str) xs flat→flat=xs.map Value.string
 |[],_,h=>h
 |x::xs,_,⟨c1,c2,rfl,h1,h2⟩=>by
  have h1:c1=[.string x]:=h1
  rw[h1,Jct h2];rfl
theorem Jmd {M:Nat→Prop} {w:World}:∀(xs:List ByteArray),Yc (Rep M w .str) xs (xs.map Value.string)
 |[]=>rfl
 |x::xs=>⟨[.string x],xs.map Value.string,rfl,rfl,Jmd xs⟩
theorem Kwc:Ok Tryz.prog 70 (Jbh 3 sI):=by
 refine⟨⟨Tryz.f70,by kernel_rfl,by kernel_rfl,by kernel_rfl⟩,fun z hz=>(by cases hz),fun F hF=>(by cases hF),fun _ x M R w vs hM hg hpre hargs=> ?_⟩
 obtain⟨l,u⟩:=x
 obtain⟨v1,vs1,rfl,⟨cs,rfl,hr⟩,hn⟩:=hargs
 have hn:vs1=[]:=hn
 subst hn
 obtain⟨v,flat,rfl,h1,h2⟩:=hr
 have hfl:=Jij h1
 have hl:l.length≤1000000:=hpre
 have fin:∀(v':Value) (w':World),w'.ownsRow w.heap.size 3 1 v' l.length (l.map (Value.int .i64))→RowKit.Below w.heap.size w w'→Jlr M w (Jbh 3 sI).ress (Jbh 3 sI).owns ((Jbh 3 sI).spec (l,u)) (.returned v') w':=by
  intro v' w' ho hb
  refine⟨M,[v'],rfl, .ofK hb,fun _ h=>h,fun b h=> .inl h,_,[],rfl,⟨l.map (Value.int .i64),Jme l,ho,fun g hg' hMg=> ?_⟩,rfl⟩
  rcases ho.2 with⟨rfl,_⟩|⟨g',cap,cur,rfl,hbg,_⟩
  ·cases hg'
  ·have:g'=g:=Option.some.inj hg'
   have:=hM g (.inl hMg)
   omega
 rcases h2 with⟨rfl|⟨ad,cap,rfl⟩,h0⟩|⟨b,off,cap,rfl,hcap,hk,hm⟩
 ·have:l=[]:=List.eq_nil_of_length_eq_zero h0
  subst this
  refine(Tryz.clone174_nil 0 0 w).mono ?_
  rintro e w' ⟨rfl,rfl⟩
  exact fin _ _ ⟨rfl, .inl ⟨rfl,rfl⟩⟩ (RowKit.Below.refl _ _)
 ·have:l=[]:=List.eq_nil_of_length_eq_zero h0
  subst this
  refine(Tryz.clone174_zero ad cap w).mono ?_
  rintro e w' ⟨v',rfl,ho,_,hb⟩
  exact fin _ _ ho hb
 ·refine(Tryz.clone174 b off l.length cap l w (Nat.le_refl _) (by omega) (fun j hj=>hk j _ (by rw[hfl,List.getElem?_map,List.getElem?_eq_getElem hj];simp[List.getD_eq_getElem?_getD,List.getElem?_eq_getElem hj]))).mono ?_
  rintro e w' ⟨v',rfl,ho,_,hb⟩
  rw[List.take_of_length_le (Nat.le_refl _)] at ho
  exact fin _ _ ho hb
abbrev W79:=W78.add Kwc
theorem Kwd:Ok Tryz.prog 69 (Jbh 9 .str):=by
 refine⟨⟨Tryz.f69,by kernel_rfl,by kernel_rfl,by kernel_rfl⟩,fun z hz=>(by cases hz),fun F hF=>(by cases hF),fun _ x M R w vs hM hg hpre hargs=> ?_⟩
 obtain⟨l,u⟩:=x
 obtain⟨v1,vs1,rfl,⟨cs,rfl,hr⟩,hn⟩:=hargs
 have hn:vs1=[]:=hn
 subst hn
 obtain⟨v,flat,rfl,h1,h2⟩:=hr
 have hfl:=Jct h1
 have hl:l.length≤1000000:=hpre
 have fin:∀(v':Value) (w':World),w'.ownsRow w.heap.size 9 1 v' l.length (l.map Value.string)→RowKit.Below w.heap.size w w'→Jlr M w (Jbh 9 .str).ress (Jbh 9 .str).owns ((Jbh 9 .str).spec (l,u)) (.returned v') w':=by
  intro v' w' ho hb
  refine⟨M,[v'],rfl, .ofK hb,fun _ h=>h,fun b h=> .inl h,_,[],rfl,⟨l.map Value.string,Jmd l,ho,fun g hg' hMg=> ?_⟩,rfl⟩
  rcases ho.2 with⟨rfl,_⟩|⟨g',cap,cur,rfl,hbg,_⟩
  ·cases hg'
  ·have:g'=g:=Option.some.inj hg'
   have:=hM g (.inl hMg)
   omega
 rcases h2 with⟨rfl|⟨ad,cap,rfl⟩,h0⟩|⟨b,off,cap,rfl,hcap,hk,hm⟩
 ·have:l=[]:=List.eq_nil_of_length_eq_zero h0
  subst this
  refine(Tryz.clone173_nil 0 0 w).mono ?_
  rintro e w' ⟨rfl,rfl⟩
  exact fin _ _ ⟨rfl, .inl ⟨rfl,rfl⟩⟩ (RowKit.Below.refl _ _)
 ·have:l=[]:=List.eq_nil_of_length_eq_zero h0
  subst this
  refine(Tryz.clone173_zero ad cap w).mono ?_
  rintro e w' ⟨v',rfl,ho,_,hb⟩
  exact fin _ _ ho hb
 ·refine(Tryz.clone173 b off l.length cap l w (Nat.le_refl _) (by omega) (fun j hj=>hk j _ (by rw[hfl,List.getElem?_map,List.getElem?_eq_getElem hj];simp[List.getD_eq_getElem?_getD,List.getElem?_eq_getElem hj]))).mono ?_
  rintro e w' ⟨v',rfl,ho,_,hb⟩
  rw[List.take_of_length_le (Nat.le_refl _)] at ho
  exact fin _ _ ho hb
abbrev W80:=W79.add Kwd
def Jx7:Con:={args:=[aEv],ress:=[(true,sEv)],owns:=[],pre:=fun(e,_)=>[e.2.2.1.length≤1000000,e.2.2.2.1.length≤1000000],spec:=fun(e,_)=>(e,())}
def Jbn (a:Ls) (b:Li):=Hw a∧Z55 b
theorem Ktj:Ok Tryz.prog 36 Jx7:=okW W80 Tryz.f36 na fun xx=>by
 obtain⟨⟨(n:Int),(k:ByteArray),(ns:List ByteArray),(vs:List Int),(tx:ByteArray)⟩,_⟩:=xx
 refine(by kernel_rfl:(Hw ns→Z55 vs→Jbn ns vs∧(n,k,ns,vs,tx)=(n,k,ns,vs,tx))=_).mp ?_
 delta Z55 Hw Jbn
 exact fun h1 h2=>⟨⟨h1,h2⟩,rfl⟩
abbrev W81:=W80.add Ktj
def Jey (T:TypeId) (s:Sch):Con:={args:=[.val false (.list T s)],ress:=[(false, .list T s)],owns:=[true],pre:=fun(l,_)=>[l.length≤1000000],spec:=fun(l,_)=>(l,())}
theorem Kth:Ok Tryz.prog 64 (Jey 109 Xc):=okW W81 Tryz.f64 na fun xx=>by
 obtain⟨(l:List Sta),_⟩:=xx
 refine(by kernel_rfl:(Z53 l→((0≤Ln l∧Ln l≤1000000)∧Ln l≤Ln l∧Ln l≤1000000)∧List.length l=List.length (List.replicate (List.length l) Z19)∧l=l)=_).mp ?_
 delta Z19 Z53 Ln B0
 intro h
 exact⟨⟨⟨by omega,by omega⟩,by omega,by omega⟩,by simp,rfl⟩
abbrev W82:=W81.add Kth
theorem Ktg:Ok Tryz.prog 65 (Jey 110 Yn):=okW W82 Tryz.f65 na fun xx=>by
 obtain⟨(l:List Ord),_⟩:=xx
 refine(by kernel_rfl:(Z61 l→((0≤Ln l∧Ln l≤1000000)∧Ln l≤Ln l∧Ln l≤1000000)∧List.length l=List.length (List.replicate (List.length l) Jej)∧l=l)=_).mp ?_
 delta Z61 Z72 Jej Ln B0
 intro h
 exact⟨⟨⟨by omega,by omega⟩,by omega,by omega⟩,by simp,rfl⟩
abbrev W83:=W82.add Ktg
theorem Ktf:Ok Tryz.prog 66 (Jey 111 Xx):=okW W83 Tryz.f66 na fun xx=>by
 obtain⟨(l:List Met),_⟩:=xx
 refine(by kernel_rfl:(Z58 l→((0≤Ln l∧Ln l≤1000000)∧Ln l≤Ln l∧Ln l≤1000000)∧List.length l=List.length (List.replicate (List.length l) Juy)∧l=l)=_).mp ?_
 delta Z58 Z72 Juy Ln B0
 intro h
 exact⟨⟨⟨by omega,by omega⟩,by omega,by omega⟩,by simp,rfl⟩
abbrev W84:=W83.add Ktf
theorem Kte:Ok Tryz.prog 67 (Jey 112 Xi):=okW W84 Tryz.f67 na fun xx=>by
 obtain⟨(l:List Out),_⟩:=xx
 refine(by kernel_rfl:(Z54 l→((0≤Ln l∧Ln l≤1000000)∧Ln l≤Ln l∧Ln l≤1000000)∧List.length l=List.length (List.replicate (List.length l) Jel)∧l=l)=_).mp ?_
 delta Z54 Jel Ln B0
 intro h
 exact⟨⟨⟨by omega,by omega⟩,by omega,by omega⟩,by simp,rfl⟩
abbrev W85:=W84.add Kte
theorem Ktd:Ok Tryz.prog 68 (Jey 113 Yv):=okW W85 Tryz.f68 na fun xx=>by
 obtain⟨(l:List Per),_⟩:=xx
 refine(by kernel_rfl:(Z49 l→((0≤Ln l∧Ln l≤1000000)∧Ln l≤Ln l∧Ln l≤1000000)∧List.length l=List.length (List.replicate (List.length l) (B0,B0,false))∧l=l)=_).mp ?_
 delta Z49 Ln B0
 intro h
 exact⟨⟨⟨by omega,by omega⟩,by omega,by omega⟩,by simp,rfl⟩
abbrev W86:=W85.add Ktd
end Go.Proofs.YthlgkojihnccaaaGreatDoor
namespace Go.Proofs.Tryz
open Go.Proofs.YthlgkojihnccaaaGreatDoor
def kindsU:List (ByteArray×Ks8):=[(J0,[],0,none,none,none),
 (Ju,[(0,false)],2,some 94,some 95,some 96),
 (Kx,[(0,true)],2,some 98,some 99,some 96),
 (Ke,[(1,false),(0,true),(0,true)],4,some 100,some 101,some 102),
 (Ks,[(1,true)],4,some 103,some 104,some 102),
 (Vj,[(1,true)],1,some 105,some 106,some 102),
 (Jz,[(2,false),(0,true)],4,some 107,some 108,some 109),
 (Jw,[(2,true)],1,some 110,some 111,some 109),
 (Kj,[(3,false),(2,true)],1,some 112,some 113,some 114),
 (Ki,[(3,true)],1,some 115,some 116,some 114),
 (Jh,[],2,some 117,some 118,none)]
end Go.Proofs.Tryz
namespace Go.Proofs.YthlgkojihnccaaaGreatDoor
open Go.Sx
set_option maxHeartbeats 20000000
def J0f:Jpj:={kT:=9,gk:=false,gv:=true,ks:= .str,vs:=J4n,l:=Tryz.kindsU}
theorem Kfv:Ok Tryz.prog 53 (Jpj.con J0f):=Kfw
abbrev W87:=W86.add Kfv
abbrev J8:=List Ev×List Ev×List Reg
abbrev Jqv:Sch:= .prod (.list 37 sEv) (.prod (.list 37 sEv) (.list 48 Jif))
def Vq:Reg:=(0,0,[],[],[],[],[])
def ev0:Ev:=(0,Jd,[],[],Jd)
def Uv (G:List Reg):Reg:=G.getD (G.length-1) Vq
structure Kc (h:J8):Prop where
 nE:h.1.length≤1000
 nC:h.2.1.length≤h.1.length
 nG:h.2.2.length=h.2.1.length
 reg:∀r∈h.2.2,Js r
def Kd (r:Reg) (ns:List ByteArray):List (Int×Bool)→Nat→Bool
 |[],_=>false
 |(w,b)::l,i=>bif (bif b then !Ze r w (ns.getD i Jd) else false) then true else Kd r ns l (i+1)
def Kp (r:Reg) (ns:List ByteArray):List (Int×Bool)→Nat→Bool
 |[],_=>false
 |(w,b)::l,i=>bif (bif !b then Ze r w (ns.getD i Jd) else false) then true else Kp r ns l (i+1)
def ckS (r:Reg) (e:Ev):Int:=match(Jj e.2.1).2.2.1 with
 |some 94=>Jjh r.2.2.1 e.2.2.2.1
 |some 98=>Jla e.2.2.2.1
 |some 100=>Jan r.2.2.1 r.2.2.2.1 r.2.2.2.2.2.1 e
 |some 103=>Jji r.2.2.2.1 r.2.2.2.2.1 e.2.2.1 e.2.2.2.1
 |some 105=>Jbd r.2.2.2.1 e.2.2.1 e.2.2.2.1
 |some 107=>Jam r.2.2.1 r.2.2.2.1 r.2.2.2.2.2.1 e
 |some 110=>Jbe r.2.2.2.2.2.1 r.2.2.2.2.2.2 e.2.2.1 e.2.2.2.1
 |some 112=>Jbf r.2.2.2.2.2.1 r.2.2.2.2.2.2 e.2.2.1 e.2.2.2.1
 |some 115=>Jk9 r.2.2.2.2.2.2 e.2.2.1
 |some 117=>Ht r.2.1 r.2.2.2.1 r.2.2.2.2.1 r.2.2.2.2.2.1 r.2.2.2.2.2.2 e.2.2.2.1
 |_=>0
def Hf (h:J8) (e:Ev):Int:=
 bif e.1 !=(h.1.length:Int)+1 then 11 else
 bif e.2.1.toList==J0.toList then(bif (h.2.1.length:Int)==0 then 12 else bif (h.2.1.getD (h.2.1.length-1) ev0).2.1.toList==Jh.toList then 21 else 0) else
 bif decide (e.2.2.2.1.getD 0 0<(Uv h.2.2).1) then 22 else
 bif Kd (Uv h.2.2) e.2.2.1 (Jj e.2.1).1 0 then 10 else
 bif Kp (Uv h.2.2) e.2.2.1 (Jj e.2.1).1 0 then 9 else ckS (Uv h.2.2) e
def Jna:Zc:={T? :=none,s:=Jqv,args:=[aEv],ress:=[I],pre:=fun h (e,_)=>[Kc h,Ja e=0],spec:=fun h (e,_)=>(Hf h e,()),post:=fun h _=>h}
abbrev Y0 (m:Nat):Nat→Option Ann:=fun i=>if i=0∨i=2 then some {X:=Unit,σ:=fun _=>⟨0,[],[]⟩,inv:=fun _=>True,mu:=fun _=>0,un:=m} else none
def Jnm (h:J8) (n:Int) (ns:List ByteArray) (vs:List Int) (roles:List (Int×Bool)) (ck:Int):Int:=
 bif n !=(h.1.length:Int)+1 then 11 else
 bif decide (vs.getD 0 0<(Uv h.2.2).1) then 22 else
 bif Kd (Uv h.2.2) ns roles 0 then 10 else
 bif Kp (Uv h.2.2) ns roles 0 then 9 else ck
theorem Ym {h:J8} {n:Int} {k:ByteArray} {ns:List ByteArray} {vs:List Int} {tx:ByteArray} (h1:(k.toList==J0.toList)=false):Hf h (n,k,ns,vs,tx)=Jnm h n ns vs (Jj k).1 (ckS (Uv h.2.2) (n,k,ns,vs,tx)):=by
 unfold Hf Jnm
 dsimp only
 rw[h1];rfl
theorem Us:Jj Ju=([(0,false)],2,some 94,some 95,some 96):=by kernel_rfl
theorem Vx:Jj Kx=([(0,true)],2,some 98,some 99,some 96):=by kernel_rfl
theorem Vy:Jj Ke=([(1,false),(0,true),(0,true)],4,some 100,some 101,some 102):=by kernel_rfl
theorem Vz:Jj Ks=([(1,true)],4,some 103,some 104,some 102):=by kernel_rfl
theorem Xe:Jj Vj=([(1,true)],1,some 105,some 106,some 102):=by kernel_rfl
theorem Ut:Jj Jz=([(2,false),(0,true)],4,some 107,some 108,some 109):=by kernel_rfl
theorem K5:Jj Jw=([(2,true)],1,some 110,some 111,some 109):=by kernel_rfl
theorem U1:Jj Kj=([(3,false),(2,true)],1,some 112,some 113,some 114):=by kernel_rfl
theorem U0:Jj Ki=([(3,true)],1,some 115,some 116,some 114):=by kernel_rfl
theorem Va:Jj Jh=([],2,some 117,some 118,none):=by kernel_rfl
theorem Jr8:Jj J0=([],0,none,none,none):=by kernel_rfl
theorem Jet {r:Reg} {s:ByteArray}:Ze r 0 s=decide (0≤J3 r.2.2.1 s):=rfl
theorem Jes {r:Reg} {s:ByteArray}:Ze r 1 s=decide (0≤Uo r.2.2.2.1 s):=rfl
theorem Jdh {r:Reg} {s:ByteArray}:Ze r 2 s=decide (0≤Kb r.2.2.2.2.2.1 s):=rfl
theorem Jer {r:Reg} {s:ByteArray}:Ze r 3 s=decide (0≤U2 r.2.2.2.2.2.2 s):=rfl
structure J2o (e:Ev):Prop where
 num:1≤e.1∧e.1≤1000
 kind:V4 e.2.1=true
 nn:e.2.2.1.length=(Jj e.2.1).1.length
 nv:(e.2.2.2.1.length:Int)=(Jj e.2.1).2.1
 name:∀s∈e.2.2.1,Vk s=true
 val:EvV e
 txt:e.2.2.2.2.size=0
theorem Kz {l:List Int}:Jg l=0↔∀x∈l,x=0:=by
 induction l with
 |nil=>simp[Jg]
 |cons x l ih=>
  unfold Jg
  by_cases h:x=0
  ·rw[if_pos h,ih];simp[h]
  ·rw[if_neg h];simp[h]
theorem Ko {n a b:Int}:Jp n a b=0↔a≤n∧n≤b:=by
 unfold Jp
 by_cases h1:n<a
 ·simp[h1];omega
 ·by_cases h2:b<n
  ·simp[h2]
  ·simp[h1,h2];omega
theorem J2 {e:Ev} (h:Ja e=0):J2o e:=by
 unfold Ja at h
 by_cases h1:Jp e.1 1 1000≠0
 ·rw[if_pos h1] at h;exact absurd h h1
 rw[if_neg h1] at h
 cases hk:V4 e.2.1 with
 |false=>rw[hk] at h;cases h
 | true =>
  rw[hk,cond_true] at h
  by_cases h2:e.2.2.1.length=(Jj e.2.1).1.length∧(e.2.2.2.1.length:Int)=(Jj e.2.1).2.1
  ·rw[if_pos h2] at h
   have h3:=Kz.1 h
   have n1:=Kz.1 (h3 _ (List.mem_cons_self ..))
   have n2:=Kz.1 (h3 _ (List.mem_cons_of_mem _ (List.mem_cons_self ..)))
   have n3:=h3 _ (List.mem_cons_of_mem _ (List.mem_cons_of_mem _ (List.mem_cons_self ..)))
   refine⟨Ko.1 (by omega),hk,h2.1,h2.2,fun s hs=> ?_,fun v hv=>Ko.1 (n2 _ (List.mem_map_of_mem hv)), ?_⟩
   ·have:=n1 _ (List.mem_map_of_mem hs)
    cases hn:Vk s with
    |true=>rfl
    |false=>rw[hn] at this;cases this
   ·by_cases h4:0<e.2.2.2.2.size
    ·rw[decide_eq_true h4] at n3;cases n3
    ·omega
  ·rw[if_neg h2] at h;cases h
theorem De {h:J8} (hh:Kc h):Js (Uv h.2.2):=by
 unfold Uv
 by_cases h0:0<h.2.2.length
 ·exact hh.reg _ (Je (by omega))
 ·have:h.2.2=[]:=List.eq_nil_of_length_eq_zero (by omega)
  rw[this]
  exact⟨by decide,by decide,by decide,by decide,by decide,by decide,by decide,fun _ h=>(by cases h),fun _ h=>(by cases h),fun _ h=>(by cases h),fun _ h=>(by cases h),fun _ h=>(by cases h),fun _ h=>(by cases h)⟩
theorem Kk {G:List Reg} (h:decide (0<(G.length:Int))=false):Uv G=Vq:=by
 have h:¬0<(G.length:Int):=of_decide_eq_false h
 have:G=[]:=List.eq_nil_of_length_eq_zero (by omega)
 rw[this];rfl
theorem Zq:((0,0,[],[],[],[],[]):Reg)=Vq:=rfl
theorem Jfj (G:List Reg):G.getD (G.length-1) Vq=Uv G:=rfl
theorem Zv {E C:List Ev} {G:List Reg} {e:Ev} (hh:Kc (E,C,G)) (hc:Ja e=0):e.2.2.1.length=(Jj e.2.1).1.length∧(e.2.2.2.1.length:Int)=(Jj e.2.1).2.1∧Js (Uv G)∧Js Vq∧E.length≤1000∧C.length≤E.length∧G.length=C.length∧((G.length:Int)-1).toNat=G.length-1∧EvV e:=
 have hE:=J2 hc
 ⟨hE.nn,hE.nv,De hh,De (h:=([],[],[])) ⟨by decide,by decide,rfl,fun _ h=>(by cases h)⟩,hh.nE,hh.nC,hh.nG,by omega,hE.val⟩
def Z2 (a:Int) (b:Ls) (c:Li) (d:Bt):=(a,J0,b,c,d)
def Z4 (a:List Ev):=Ln a-1
def Z5 (a:List Ev):=Ln a==0
def Z7 (a:List Ev):=Ln a+1
def Z33:=Iw ((0:Int)+1)
def Z48:=Tw (Bd 0 0)
def Z67 (a:List Ev):=Iw (Z4 a)
def Z68 (a:List Ev):=Iw (Z7 a)
def Z84 (a:Li):=Tw (Z36 a)
def Xq (a:List Reg):=decide (0<Ln a)
def Jy0:=Z33∧False
def Jpg (a b:List Ev) (c:List Reg) (d:Int) (e:Ls) (f:Li) (g:Bt):=Hf (a,b,c) (Z2 d e f g)
def H2:Int×ByteArray×List ByteArray×List Int×ByteArray:=((0:Int),B0,[],[],B0)
def Jek (a:Li):=decide (Z95 a<0)
def Fb:Int×List Sta×List Ord×List Met×List Out×List Per:=((0:Int),[],[],[],[],[])
def Jei (a:Int) (b:List Ev):=a !=Z7 b
def Jeh (a:List Ev):=Z67 a∧Tw (Bd (Z4 a) (Ln a))
def Yq:=((0:Int),Fb)
def Xp (a:List Reg):=Iw (Ln a-1)∧Tw (Bd (Ln a-1) (Ln a))
def Hr:=Js Yq
def Jlm:=true=true→Hr
def Jll:=false=true→Hr
def Jbl (a:List Reg):=Gt a (Ln a-1) Yq
def Jbk (a:List Reg):=(Jbl a).2
def Jcb (a:List Reg):=(Jbl a).1
def Jbs (a:List Reg):=(Jbk a).1
def L7 (a:List Reg):=(Jbk a).2
def L6 (a:List Reg):=(L7 a).2
def F1 (a:List Reg):=(L6 a).2
def Hq (a:List Reg):=(F1 a).2
def J3f (a:Ls):=Ze Yq 0 (Z99 a)
def Jeg (a:List Ev):=bif Lb (Gt a (Z4 a) H2).2.1 Jh then(21:Int) else(0:Int)
def J3b (a:Ls):=bif true then J3f a else false
def Jef (a:Li) (b:List Reg):=decide (Z95 a<Jcb b)
def Jee (a:Ls):=T2 (true=true→Vl a) Jlm
def Jed (a:Ls):=T2 (false=true→Vl a) Jll
def Koa (a:TypeId) (b c:List Ev) (d:List Reg) (e:Int) (f:Ls) (g:Li) (h:Bt):=Br false (Sf true (Sf a (Sf (b,c,d) (10=Jpg b c d e f g h)))) Jy0
def Jbr (a:List Reg):=(Jbs a,(L7 a).1,(L6 a).1,(F1 a).1,E2 (Hq a))
def Zp (a:List Reg):=(Jcb a,Jbr a)
def H0 (a:List Reg):=Js (Zp a)
def Jlk (a:List Reg):=true=true→H0 a
def Jlj (a:List Reg):=false=true→H0 a
def J22 (a:List Reg) (b:Ls):=Ze (Zp a) 0 (Z99 b)
def J21 (a:List Reg) (b:Ls):=bif true then J22 a b else false
def Jec (a:Ls) (b:List Reg):=T2 (true=true→Vl a) (Jlk b)
def Jeb (a:Ls) (b:List Reg):=T2 (false=true→Vl a) (Jlj b)
variable (T:TypeId) (E C:List Ev) (G:List Reg) (tk st:Int) (S:List Sta) (O:List Ord) (M:List Met) (X:List Out) (Q:List Per) (n:Int) (ns:List ByteArray) (vs:List Int) (tx:ByteArray)
theorem Jp5:wpFO Tryz.prog W87.g (Y0 1) (fun _=>na ()) (Sx.look ([(30,Tryz.f30)]:List (Nat×Func))) Tryz.f27 Jna T (E,C,G) ((n,J0,ns,vs,tx),()):=by
 refine(by kernel_rfl:(Kc (E,C,G)→Ja (Z2 n ns vs tx)=0→Z68 E∧Br (Jei n E) (Sf true (Sf T (Sf (E,C,G) (11=Jpg E C G n ns vs tx)))) (Br true (Br (Z5 C) (Sf true (Sf T (Sf (E,C,G) (12=Jpg E C G n ns vs tx)))) (Jeh C∧Sf true (Sf T (Sf (E,C,G) (Jeg C=Jpg E C G n ns vs tx))))) (Br (Xq G) (Xp G∧Z84 vs∧Br (Jef vs G) (Sf true (Sf T (Sf (E,C,G) (22=Jpg E C G n ns vs tx)))) (Br false (Z48∧Jeb ns G∧Koa T E C G n ns vs tx) (Br false (Z48∧Jec ns G∧Br (J21 G ns) (Sf true (Sf T (Sf (E,C,G) (9=Jpg E C G n ns vs tx)))) Jy0) (False∧Sf true False)))) (Z84 vs∧Br (Jek vs) (Sf true (Sf T (Sf (E,C,G) (22=Jpg E C G n ns vs tx)))) (Br false (Z48∧Jed ns∧Koa T E C G n ns vs tx) (Br false (Z48∧Jee ns∧Br (J3b ns) (Sf true (Sf T (Sf (E,C,G) (9=Jpg E C G n ns vs tx)))) Jy0) (False∧Sf true False)))))))=_).mp ?_
 delta Z2 Z4 Z5 Z7 Z33 Z36 Z48 Z67 Z68 Z84 Z95 Z99 Vl Xq Jy0 Jpg H2 Jek Fb Jei Jeh Yq Xp Hr Jlm Jll Jbl Jbk Jcb Jbs L7 L6 F1 Hq J3f Jeg J3b Jef Jee Jed Koa Jbr Zp H0 Jlk Jlj J22 J21 Jec Jeb Br Iw Bd T2 Tw Sf Ln Gt B0 Lb E2 Jh J0
 intro hh hc
 have hE:=J2 hc
 have n1:E.length≤1000:=hh.nE
 have n2:C.length≤E.length:=hh.nC
 have eA:Hf (E,C,G) (n,J0,ns,vs,tx)=bif n !=(E.length:Int)+1 then 11 else(bif (C.length:Int)==0 then 12 else bif (C.getD (C.length-1) ev0).2.1.toList==Jh.toList then 21 else 0):=by
  unfold Hf
  dsimp only
  rw[show(J0.toList==J0.toList)=true from by kernel_rfl];rfl
 refine⟨by omega,fun h=>⟨rfl,rfl,rfl, ?_⟩,fun h=>⟨fun _=>⟨fun h2=>⟨rfl,rfl,rfl, ?_⟩,fun h2=> ?_⟩,fun h=>(by cases h)⟩⟩
 ·rw[eA,h];rfl
 ·rw[eA,h,h2];rfl
 ·have h3:¬C.length=0:=fun e=>by rw[e] at h2;cases h2
  have h4:((C.length:Int)-1).toNat=C.length-1:=by omega
  refine⟨⟨⟨by omega,by omega⟩,⟨by omega,by omega⟩,⟨by omega,by omega⟩⟩,rfl,rfl,rfl, ?_⟩
  rw[eA,h,h2,h4];rfl
def Z40 (a:Int) (b:Ls) (c:Li) (d:Bt):=(a,Ju,b,c,d)
def Z60:=Tw (Bd 0 1)
def Jlp:=(0:Int)+1+1
def Jem:=Iw Jlp
def Fc:=Tw (Bd ((0:Int)+1) 1)
def Jnn (a b:List Ev) (c:List Reg) (d:Int) (e:Ls) (f:Li) (g:Bt):=Hf (a,b,c) (Z40 d e f g)
def Jce:=Jem∧False
def Jt8 (a:Ls):=true=true→Bd ((0:Int)+1) (Ln a)
def Jt7 (a:Ls):=false=true→Bd ((0:Int)+1) (Ln a)
def J3i (a:Li):=Hr∧Z57 a
def Juo (a:Ls):=Ze Yq 0 (Z96 a)
def Kbl (a:TypeId) (b c:List Ev) (d:List Reg) (e:Int) (f:Ls) (g:Li) (h:Bt):=Sf true (Sf a (Sf (b,c,d) (10=Jnn b c d e f g h)))
def J7k (a:TypeId) (b c:List Ev) (d:List Reg) (e:Int) (f:Ls) (g:Li) (h:Bt):=Sf true (Sf a (Sf (b,c,d) (9=Jnn b c d e f g h)))
def Jpr (a:Ls):=bif true then Juo a else false
def Jhw (a:Ls):=T2 (Jt8 a) Jlm
def Jhv (a:Ls):=T2 (Jt7 a) Jll
def Kn1 (a:TypeId) (b c:List Ev) (d:List Reg) (e:Int) (f:Ls) (g:Li) (h:Bt):=Br false (Kbl a b c d e f g h) Jce
def Knq (a:Li) (b:TypeId) (c d:List Ev) (e:List Reg) (f:Int) (g:Ls) (h:Bt):=J3i a∧Sf true (Sf b (Sf (c,d,e) (Jjh [] a=Jnn c d e f g a h)))
def J23 (a:List Reg) (b:Li):=H0 a∧Z57 b
def Juk (a:List Reg) (b:Ls):=Ze (Zp a) 0 (Z96 b)
def Jpo (a:List Reg) (b:Ls):=bif true then Juk a b else false
def Jhu (a:Ls) (b:List Reg):=T2 (Jt8 a) (Jlk b)
def Jht (a:Ls) (b:List Reg):=T2 (Jt7 a) (Jlj b)
def Kkg (a:List Reg) (b:Li) (c:TypeId) (d e:List Ev) (f:Int) (g:Ls) (h:Bt):=J23 a b∧Sf true (Sf c (Sf (d,e,a) (Jjh (L7 a).1 b=Jnn d e a f g b h)))
def Kjv (a:Ls) (b:TypeId) (c d:List Ev) (e:List Reg) (f:Int) (g:Li) (h:Bt):=Br true (Z60∧Jee a∧Br (J3b a) (J7k b c d e f a g h) (Z33∧Br false (Fc∧Jhw a∧Br (Jpr a) (J7k b c d e f a g h) Jce) (Knq g b c d e f a h))) (Knq g b c d e f a h)
def Kjc (a:Ls) (b:List Reg) (c:TypeId) (d e:List Ev) (f:Int) (g:Li) (h:Bt):=Br true (Z60∧Jec a b∧Br (J21 b a) (J7k c d e b f a g h) (Z33∧Br false (Fc∧Jhu a b∧Br (Jpo b a) (J7k c d e b f a g h) Jce) (Kkg b g c d e f a h))) (Kkg b g c d e f a h)
theorem Jhz:wpFO Tryz.prog W87.g (Y0 2) (fun _=>na ()) (Sx.look ([(30,Tryz.f30)]:List (Nat×Func))) Tryz.f27 Jna T (E,C,G) ((n,Ju,ns,vs,tx),()):=by
 refine(by kernel_rfl:(Kc (E,C,G)→Ja (Z40 n ns vs tx)=0→Z68 E∧Br (Jei n E) (Sf true (Sf T (Sf (E,C,G) (11=Jnn E C G n ns vs tx)))) (Br false (Br (Z5 C) (Sf true (Sf T (Sf (E,C,G) (12=Jnn E C G n ns vs tx)))) (Jeh C∧Sf true (Sf T (Sf (E,C,G) (Jeg C=Jnn E C G n ns vs tx))))) (Br (Xq G) (Xp G∧Z84 vs∧Br (Jef vs G) (Sf true (Sf T (Sf (E,C,G) (22=Jnn E C G n ns vs tx)))) (Br true (Z60∧Jeb ns G∧Br false (Kbl T E C G n ns vs tx) (Z33∧Br false (Fc∧Jht ns G∧Kn1 T E C G n ns vs tx) (Kjc ns G T E C n vs tx))) (Kjc ns G T E C n vs tx))) (Z84 vs∧Br (Jek vs) (Sf true (Sf T (Sf (E,C,G) (22=Jnn E C G n ns vs tx)))) (Br true (Z60∧Jed ns∧Br false (Kbl T E C G n ns vs tx) (Z33∧Br false (Fc∧Jhv ns∧Kn1 T E C G n ns vs tx) (Kjv ns T E C G n vs tx))) (Kjv ns T E C G n vs tx))))))=_).mp ?_
 delta Z4 Z5 Z7 Z33 Z36 Z40 Z57 Z60 Z67 Z68 Z84 Z95 Z96 Z99 Vl Xq Jlp Jem Fc Jnn Jce H2 Jek Jt8 Jt7 Fb Jei Jeh Yq Xp Hr Jlm Jll Jbl Jbk Jcb J3i Jbs L7 L6 F1 Hq J3f Juo Jeg Kbl J7k J3b Jpr Jef Jee Jed Jhw Jhv Kn1 Knq Jbr Zp H0 Jlk Jlj J23 Juk J22 Jpo J21 Jec Jeb Jhu Jht Kkg Kjv Kjc Br Iw Bd T2 Tw Sf Ln Gt B0 Lb E2 Jh Ju
 intro hh hc
 have eK:=Ym (h:=(E,C,G)) (n:=n) (k:=Ju) (ns:=ns) (vs:=vs) (tx:=tx) (by kernel_rfl)
 obtain⟨hn,hv,hR,hr0,n1,n2,n3,hG,hV⟩:=Zv hh hc
 simp only[Us,ckS,List.length_cons,List.length_nil] at eK hn hv
 rw[eK]
 simp only[hG,Jfj,Zq,Prod.eta,Jnm,Kd,Kp,Jet,Jes,Jdh,Jer,cond_true,cond_false,Bool.not_true,Bool.not_false,Jd]
 repeat' first|apply And.intro|exact hV|intro _
 all_goals first|trivial|omega|assumption|(rename_i h;have h:=of_decide_eq_true h;omega)|(simp only[*,cond_true,cond_false,Bool.not_true,Bool.not_false];done)|(rw[Kk ‹_›];(first|have e1:decide (vs.getD 0 0<Vq.1)=true:=‹_›|have e1:decide (vs.getD 0 0<Vq.1)=false:=‹_›);simp only[*,cond_true,cond_false,Bool.not_true,Bool.not_false];first|done|rfl)|(simp only[Bool.not_eq_false',decide_eq_true_eq] at*;assumption)
def Z18 (a:Int) (b:Ls) (c:Li) (d:Bt):=(a,Kx,b,c,d)
def Jpf (a b:List Ev) (c:List Reg) (d:Int) (e:Ls) (f:Li) (g:Bt):=Hf (a,b,c) (Z18 d e f g)
def Kbo (a:TypeId) (b c:List Ev) (d:List Reg) (e:Int) (f:Ls) (g:Li) (h:Bt):=Sf true (Sf a (Sf (b,c,d) (10=Jpf b c d e f g h)))
def J7n (a:TypeId) (b c:List Ev) (d:List Reg) (e:Int) (f:Ls) (g:Li) (h:Bt):=Sf true (Sf a (Sf (b,c,d) (9=Jpf b c d e f g h)))
def J7d (a:Li) (b:TypeId) (c d:List Ev) (e:List Reg) (f:Int) (g:Ls) (h:Bt):=Z57 a∧Sf true (Sf b (Sf (c,d,e) (Jla a=Jpf c d e f g a h)))
def Kn5 (a:TypeId) (b c:List Ev) (d:List Reg) (e:Int) (f:Ls) (g:Li) (h:Bt):=Br false (Kbo a b c d e f g h) Jce
def Kj3 (a:Ls) (b:TypeId) (c d:List Ev) (e:List Reg) (f:Int) (g:Li) (h:Bt):=Br true (Z60∧Jed a∧Br false (J7n b c d e f a g h) (Z33∧Br false (Fc∧Jhw a∧Br (Jpr a) (J7n b c d e f a g h) Jce) (J7d g b c d e f a h))) (J7d g b c d e f a h)
def Kjj (a:Ls) (b:List Reg) (c:TypeId) (d e:List Ev) (f:Int) (g:Li) (h:Bt):=Br true (Z60∧Jeb a b∧Br false (J7n c d e b f a g h) (Z33∧Br false (Fc∧Jhu a b∧Br (Jpo b a) (J7n c d e b f a g h) Jce) (J7d g c d e b f a h))) (J7d g c d e b f a h)
theorem Jn3:wpFO Tryz.prog W87.g (Y0 2) (fun _=>na ()) (Sx.look ([(30,Tryz.f30)]:List (Nat×Func))) Tryz.f27 Jna T (E,C,G) ((n,Kx,ns,vs,tx),()):=by
 refine(by kernel_rfl:(Kc (E,C,G)→Ja (Z18 n ns vs tx)=0→Z68 E∧Br (Jei n E) (Sf true (Sf T (Sf (E,C,G) (11=Jpf E C G n ns vs tx)))) (Br false (Br (Z5 C) (Sf true (Sf T (Sf (E,C,G) (12=Jpf E C G n ns vs tx)))) (Jeh C∧Sf true (Sf T (Sf (E,C,G) (Jeg C=Jpf E C G n ns vs tx))))) (Br (Xq G) (Xp G∧Z84 vs∧Br (Jef vs G) (Sf true (Sf T (Sf (E,C,G) (22=Jpf E C G n ns vs tx)))) (Br true (Z60∧Jec ns G∧Br (bif true then !J22 G ns else false) (Kbo T E C G n ns vs tx) (Z33∧Br false (Fc∧Jht ns G∧Kn5 T E C G n ns vs tx) (Kjj ns G T E C n vs tx))) (Kjj ns G T E C n vs tx))) (Z84 vs∧Br (Jek vs) (Sf true (Sf T (Sf (E,C,G) (22=Jpf E C G n ns vs tx)))) (Br true (Z60∧Jee ns∧Br (bif true then !J3f ns else false) (Kbo T E C G n ns vs tx) (Z33∧Br false (Fc∧Jhv ns∧Kn5 T E C G n ns vs tx) (Kj3 ns T E C G n vs tx))) (Kj3 ns T E C G n vs tx))))))=_).mp ?_
 delta Z4 Z5 Z7 Z18 Z33 Z36 Z57 Z60 Z67 Z68 Z84 Z95 Z96 Z99 Vl Xq Jlp Jem Fc Jpf Jce H2 Jek Jt8 Jt7 Fb Jei Jeh Yq Xp Hr Jlm Jll Jbl Jbk Jcb Jbs L7 L6 F1 Hq J3f Juo Jeg Kbo J7n Jpr Jef Jee Jed Jhw Jhv J7d Kn5 Jbr Zp H0 Jlk Jlj Juk J22 Jpo Jec Jeb Jhu Jht Kj3 Kjj Br Iw Bd T2 Tw Sf Ln Gt B0 Lb E2 Kx Jh
 intro hh hc
 have eK:=Ym (h:=(E,C,G)) (n:=n) (k:=Kx) (ns:=ns) (vs:=vs) (tx:=tx) (by kernel_rfl)
 obtain⟨hn,hv,hR,hr0,n1,n2,n3,hG,hV⟩:=Zv hh hc
 simp only[Vx,ckS,List.length_cons,List.length_nil] at eK hn hv
 rw[eK]
 simp only[hG,Jfj,Zq,Prod.eta,Jnm,Kd,Kp,Jet,Jes,Jdh,Jer,cond_true,cond_false,Bool.not_true,Bool.not_false,Jd]
 repeat' first|apply And.intro|exact hV|intro _
 all_goals first|trivial|omega|assumption|(rename_i h;have h:=of_decide_eq_true h;omega)|(simp only[*,cond_true,cond_false,Bool.not_true,Bool.not_false];done)|(rw[Kk ‹_›];(first|have e1:decide (vs.getD 0 0<Vq.1)=true:=‹_›|have e1:decide (vs.getD 0 0<Vq.1)=false:=‹_›);simp only[*,cond_true,cond_false,Bool.not_true,Bool.not_false];first|done|rfl)|(simp only[Bool.not_eq_false',decide_eq_true_eq] at*;assumption)
def Z12 (a:Int) (b:Ls) (c:Li) (d:Bt):=(a,Ke,b,c,d)
def Z56:=Tw (Bd 0 3)
def J89:=Tw (Bd ((0:Int)+1) 3)
def Jns (a b:List Ev) (c:List Reg) (d:Int) (e:Ls) (f:Li) (g:Bt):=Hf (a,b,c) (Z12 d e f g)
def J2e:=Jlp+1
def Jys:=Iw J2e
def J81:=Tw (Bd Jlp 3)
def J8u (a:Ls):=0≤J3 [] (Jho a)
def J8t:=Tw (Bd J2e 3)
def Kss (a:Ls):=Bd J2e (Ln a)
def Kej:=Iw (J2e+1)∧False
def J8m (a:Ls):=true=true→Bd Jlp (Ln a)
def J8l (a:Ls):=false=true→Bd Jlp (Ln a)
def Kr8 (a:Ls):=true=true→Kss a
def Kr7 (a:Ls):=false=true→Kss a
def J73 (a:Ls):=Ze Yq 0 (Z92 a)
def J72 (a:Ls):=Ze Yq 1 (Z99 a)
def Jyg (a:TypeId) (b c:List Ev) (d:List Reg) (e:Int) (f:Ls) (g:Li) (h:Bt):=Sf true (Sf a (Sf (b,c,d) (10=Jns b c d e f g h)))
def Jw9 (a:TypeId) (b c:List Ev) (d:List Reg) (e:Int) (f:Ls) (g:Li) (h:Bt):=Sf true (Sf a (Sf (b,c,d) (9=Jns b c d e f g h)))
def Kbg (a:Ls):=bif true then !Juo a else false
def J7h (a:List Reg) (b:Ls):=0≤J3 (L7 a).1 (Jho b)
def J29 (a:Ls):=T2 (J8m a) Jlm
def J28 (a:Ls):=T2 (J8l a) Jll
def Knu (a:TypeId) (b c:List Ev) (d:List Reg) (e:Int) (f:Ls) (g:Li) (h:Bt):=Br false (Jyg a b c d e f g h) Kej
def J68 (a:Int) (b:Ls) (c:Li) (d:Bt) (e:TypeId) (f g:List Ev) (h:List Reg):=(Hr∧EvV (Z12 a b c d)∧Jpw b∧Z46 c∧J8u b∧0≤J3 [] (J2i b))∧Sf true (Sf e (Sf (f,g,h) (Jan [] [] [] (Z12 a b c d)=Jns f g h a b c d)))
def J65 (a:List Reg) (b:Ls):=Ze (Zp a) 1 (Z99 b)
def J64 (a:List Reg) (b:Ls):=Ze (Zp a) 0 (Z92 b)
def J99 (a:List Reg) (b:Ls):=bif true then !Juk a b else false
def J20 (a:Ls) (b:List Reg):=T2 (J8m a) (Jlk b)
def J2z (a:Ls) (b:List Reg):=T2 (J8l a) (Jlj b)
def J6z (a:List Reg) (b:Int) (c:Ls) (d:Li) (e:Bt) (f:TypeId) (g h:List Ev):=(H0 a∧EvV (Z12 b c d e)∧Jpw c∧Z46 d∧J7h a c∧0≤J3 (L7 a).1 (J2i c))∧Sf true (Sf f (Sf (g,h,a) (Jan (L7 a).1 (L6 a).1 (Hq a).1 (Z12 b c d e)=Jns g h a b c d e)))
def J6y (a:Ls) (b:TypeId) (c d:List Ev) (e:List Reg) (f:Int) (g:Li) (h:Bt):=Br true (Z56∧Jee a∧Br (bif true then J72 a else false) (Jw9 b c d e f a g h) (Z33∧Br true (J89∧Jhv a∧Br false (Jw9 b c d e f a g h) (Jem∧Br true (J81∧J28 a∧Br false (Jw9 b c d e f a g h) (Jys∧Br false (J8t∧T2 (Kr8 a) Jlm∧Br (bif true then Ze Yq 0 (List.getD a 3 B0) else false) (Jw9 b c d e f a g h) Kej) (J68 f a g h b c d e))) (J68 f a g h b c d e))) (J68 f a g h b c d e))) (J68 f a g h b c d e)
def J6w (a:Ls) (b:List Reg) (c:TypeId) (d e:List Ev) (f:Int) (g:Li) (h:Bt):=Br true (Z56∧Jec a b∧Br (bif true then J65 b a else false) (Jw9 c d e b f a g h) (Z33∧Br true (J89∧Jht a b∧Br false (Jw9 c d e b f a g h) (Jem∧Br true (J81∧J2z a b∧Br false (Jw9 c d e b f a g h) (Jys∧Br false (J8t∧T2 (Kr8 a) (Jlk b)∧Br (bif true then Ze (Zp b) 0 (List.getD a 3 B0) else false) (Jw9 c d e b f a g h) Kej) (J6z b f a g h c d e))) (J6z b f a g h c d e))) (J6z b f a g h c d e))) (J6z b f a g h c d e)
theorem Jn4:wpFO Tryz.prog W87.g (Y0 4) (fun _=>na ()) (Sx.look ([(30,Tryz.f30)]:List (Nat×Func))) Tryz.f27 Jna T (E,C,G) ((n,Ke,ns,vs,tx),()):=by
 refine(by kernel_rfl:(Kc (E,C,G)→Ja (Z12 n ns vs tx)=0→Z68 E∧Br (Jei n E) (Sf true (Sf T (Sf (E,C,G) (11=Jns E C G n ns vs tx)))) (Br false (Br (Z5 C) (Sf true (Sf T (Sf (E,C,G) (12=Jns E C G n ns vs tx)))) (Jeh C∧Sf true (Sf T (Sf (E,C,G) (Jeg C=Jns E C G n ns vs tx))))) (Br (Xq G) (Xp G∧Z84 vs∧Br (Jef vs G) (Sf true (Sf T (Sf (E,C,G) (22=Jns E C G n ns vs tx)))) (Br true (Z56∧Jeb ns G∧Br false (Jyg T E C G n ns vs tx) (Z33∧Br true (J89∧Jhu ns G∧Br (J99 G ns) (Jyg T E C G n ns vs tx) (Jem∧Br true (J81∧J20 ns G∧Br (bif true then !J64 G ns else false) (Jyg T E C G n ns vs tx) (Jys∧Br false (J8t∧T2 (Kr7 ns) (Jlj G)∧Knu T E C G n ns vs tx) (J6w ns G T E C n vs tx))) (J6w ns G T E C n vs tx))) (J6w ns G T E C n vs tx))) (J6w ns G T E C n vs tx))) (Z84 vs∧Br (Jek vs) (Sf true (Sf T (Sf (E,C,G) (22=Jns E C G n ns vs tx)))) (Br true (Z56∧Jed ns∧Br false (Jyg T E C G n ns vs tx) (Z33∧Br true (J89∧Jhw ns∧Br (Kbg ns) (Jyg T E C G n ns vs tx) (Jem∧Br true (J81∧J29 ns∧Br (bif true then !J73 ns else false) (Jyg T E C G n ns vs tx) (Jys∧Br false (J8t∧T2 (Kr7 ns) Jll∧Knu T E C G n ns vs tx) (J6y ns T E C G n vs tx))) (J6y ns T E C G n vs tx))) (J6y ns T E C G n vs tx))) (J6y ns T E C G n vs tx))))))=_).mp ?_
 delta Z4 Z5 Z7 Z12 Z33 Z36 Z46 Z56 Z67 Z68 Z84 Z92 Z95 Z96 Z99 Vl Xq Jpw Jho Jlp J2i Jem J89 Jns J2e H2 Jys Jek J81 Jt8 J8u J8t Jt7 Kss Fb Kej J8m J8l Jei Jeh Yq Xp Kr8 Hr Kr7 Jlm Jll Jbl Jbk Jcb Jbs L7 L6 F1 Hq J73 Juo J72 Jeg Jyg Jw9 Kbg Jef Jee Jed J7h Jhw Jhv J29 J28 Knu J68 Jbr Zp H0 Jlk Jlj Juk J65 J64 J99 Jec Jeb Jhu Jht J20 J2z J6z J6y J6w Br Iw Bd T2 Tw Sf Ln Gt B0 Lb E2 Ke Jh
 intro hh hc
 have eK:=Ym (h:=(E,C,G)) (n:=n) (k:=Ke) (ns:=ns) (vs:=vs) (tx:=tx) (by kernel_rfl)
 obtain⟨hn,hv,hR,hr0,n1,n2,n3,hG,hV⟩:=Zv hh hc
 simp only[Vy,ckS,List.length_cons,List.length_nil] at eK hn hv
 rw[eK]
 simp only[hG,Jfj,Zq,Prod.eta,Jnm,Kd,Kp,Jet,Jes,Jdh,Jer,cond_true,cond_false,Bool.not_true,Bool.not_false,Jd]
 repeat' first|apply And.intro|exact hV|intro _
 all_goals first|trivial|omega|assumption|(rename_i h;have h:=of_decide_eq_true h;omega)|(simp only[*,cond_true,cond_false,Bool.not_true,Bool.not_false];done)|(rw[Kk ‹_›];(first|have e1:decide (vs.getD 0 0<Vq.1)=true:=‹_›|have e1:decide (vs.getD 0 0<Vq.1)=false:=‹_›);simp only[*,cond_true,cond_false,Bool.not_true,Bool.not_false];first|done|rfl)|(simp only[Bool.not_eq_false',decide_eq_true_eq] at*;assumption)
def Z20 (a:Int) (b:Ls) (c:Li) (d:Bt):=(a,Ks,b,c,d)
def Jnt (a b:List Ev) (c:List Reg) (d:Int) (e:Ls) (f:Li) (g:Bt):=Hf (a,b,c) (Z20 d e f g)
def J8w (a:Ls):=0≤Uo [] (Fa a)
def J7o (a:TypeId) (b c:List Ev) (d:List Reg) (e:Int) (f:Ls) (g:Li) (h:Bt):=Sf true (Sf a (Sf (b,c,d) (9=Jnt b c d e f g h)))
def Kbn (a:TypeId) (b c:List Ev) (d:List Reg) (e:Int) (f:Ls) (g:Li) (h:Bt):=Sf true (Sf a (Sf (b,c,d) (10=Jnt b c d e f g h)))
def Kbh (a:Ls):=bif true then !J72 a else false
def J7f (a:List Reg) (b:Ls):=0≤Uo (L6 a).1 (Fa b)
def Kn3 (a:TypeId) (b c:List Ev) (d:List Reg) (e:Int) (f:Ls) (g:Li) (h:Bt):=Br false (Kbn a b c d e f g h) Jce
def Kmz (a:Ls) (b:Li) (c:TypeId) (d e:List Ev) (f:List Reg) (g:Int) (h:Bt):=(Hr∧Xk a∧Z51 b∧J8w a)∧Sf true (Sf c (Sf (d,e,f) (Jji [] [] a b=Jnt d e f g a b h)))
def J98 (a:List Reg) (b:Ls):=bif true then !J65 a b else false
def Kj1 (a:List Reg) (b:Ls) (c:Li) (d:TypeId) (e f:List Ev) (g:Int) (h:Bt):=(H0 a∧Xk b∧Z51 c∧J7f a b)∧Sf true (Sf d (Sf (e,f,a) (Jji (L6 a).1 (F1 a).1 b c=Jnt e f a g b c h)))
def Kjt (a:Ls) (b:TypeId) (c d:List Ev) (e:List Reg) (f:Int) (g:Li) (h:Bt):=Br true (Z60∧Jed a∧Br false (J7o b c d e f a g h) (Z33∧Br false (Fc∧Jhw a∧Br (Jpr a) (J7o b c d e f a g h) Jce) (Kmz a g b c d e f h))) (Kmz a g b c d e f h)
def Kje (a:Ls) (b:List Reg) (c:TypeId) (d e:List Ev) (f:Int) (g:Li) (h:Bt):=Br true (Z60∧Jeb a b∧Br false (J7o c d e b f a g h) (Z33∧Br false (Fc∧Jhu a b∧Br (Jpo b a) (J7o c d e b f a g h) Jce) (Kj1 b a g c d e f h))) (Kj1 b a g c d e f h)
theorem Jn5:wpFO Tryz.prog W87.g (Y0 2) (fun _=>na ()) (Sx.look ([(30,Tryz.f30)]:List (Nat×Func))) Tryz.f27 Jna T (E,C,G) ((n,Ks,ns,vs,tx),()):=by
 refine(by kernel_rfl:(Kc (E,C,G)→Ja (Z20 n ns vs tx)=0→Z68 E∧Br (Jei n E) (Sf true (Sf T (Sf (E,C,G) (11=Jnt E C G n ns vs tx)))) (Br false (Br (Z5 C) (Sf true (Sf T (Sf (E,C,G) (12=Jnt E C G n ns vs tx)))) (Jeh C∧Sf true (Sf T (Sf (E,C,G) (Jeg C=Jnt E C G n ns vs tx))))) (Br (Xq G) (Xp G∧Z84 vs∧Br (Jef vs G) (Sf true (Sf T (Sf (E,C,G) (22=Jnt E C G n ns vs tx)))) (Br true (Z60∧Jec ns G∧Br (J98 G ns) (Kbn T E C G n ns vs tx) (Z33∧Br false (Fc∧Jht ns G∧Kn3 T E C G n ns vs tx) (Kje ns G T E C n vs tx))) (Kje ns G T E C n vs tx))) (Z84 vs∧Br (Jek vs) (Sf true (Sf T (Sf (E,C,G) (22=Jnt E C G n ns vs tx)))) (Br true (Z60∧Jee ns∧Br (Kbh ns) (Kbn T E C G n ns vs tx) (Z33∧Br false (Fc∧Jhv ns∧Kn3 T E C G n ns vs tx) (Kjt ns T E C G n vs tx))) (Kjt ns T E C G n vs tx))))))=_).mp ?_
 delta Z4 Z5 Z7 Z20 Z33 Z36 Z51 Z60 Z67 Z68 Z84 Z95 Z96 Z99 Vl Xq Xk Fa Jlp Jem Fc Jnt Jce H2 Jek J8w Jt8 Jt7 Fb Jei Jeh Yq Xp Hr Jlm Jll Jbl Jbk Jcb Jbs L7 L6 F1 Hq Juo J72 Jeg J7o Kbn Jpr Kbh Jef Jee Jed Jhw J7f Jhv Kn3 Kmz Jbr Zp H0 Jlk Jlj Juk J65 Jpo J98 Jec Jeb Jhu Jht Kj1 Kjt Kje Br Iw Bd T2 Tw Sf Ln Gt B0 Lb E2 Ks Jh
 intro hh hc
 have eK:=Ym (h:=(E,C,G)) (n:=n) (k:=Ks) (ns:=ns) (vs:=vs) (tx:=tx) (by kernel_rfl)
 obtain⟨hn,hv,hR,hr0,n1,n2,n3,hG,hV⟩:=Zv hh hc
 simp only[Vz,ckS,List.length_cons,List.length_nil] at eK hn hv
 rw[eK]
 simp only[hG,Jfj,Zq,Prod.eta,Jnm,Kd,Kp,Jet,Jes,Jdh,Jer,cond_true,cond_false,Bool.not_true,Bool.not_false,Jd]
 repeat' first|apply And.intro|exact hV|intro _
 all_goals first|trivial|omega|assumption|(rename_i h;have h:=of_decide_eq_true h;omega)|(simp only[*,cond_true,cond_false,Bool.not_true,Bool.not_false];done)|(rw[Kk ‹_›];(first|have e1:decide (vs.getD 0 0<Vq.1)=true:=‹_›|have e1:decide (vs.getD 0 0<Vq.1)=false:=‹_›);simp only[*,cond_true,cond_false,Bool.not_true,Bool.not_false];first|done|rfl)|(simp only[Bool.not_eq_false',decide_eq_true_eq] at*;assumption)
def Z6 (a:Int) (b:Ls) (c:Li) (d:Bt):=(a,Vj,b,c,d)
def Jnu (a b:List Ev) (c:List Reg) (d:Int) (e:Ls) (f:Li) (g:Bt):=Hf (a,b,c) (Z6 d e f g)
def Kbp (a:TypeId) (b c:List Ev) (d:List Reg) (e:Int) (f:Ls) (g:Li) (h:Bt):=Sf true (Sf a (Sf (b,c,d) (10=Jnu b c d e f g h)))
def J7p (a:TypeId) (b c:List Ev) (d:List Reg) (e:Int) (f:Ls) (g:Li) (h:Bt):=Sf true (Sf a (Sf (b,c,d) (9=Jnu b c d e f g h)))
def Kn6 (a:TypeId) (b c:List Ev) (d:List Reg) (e:Int) (f:Ls) (g:Li) (h:Bt):=Br false (Kbp a b c d e f g h) Jce
def Ka1 (a:Ls) (b:Li):=Hr∧Xk a∧Z59 b∧J8w a
def Km0 (a:Ls) (b:Li) (c:TypeId) (d e:List Ev) (f:List Reg) (g:Int) (h:Bt):=Ka1 a b∧Sf true (Sf c (Sf (d,e,f) (Jbd [] a b=Jnu d e f g a b h)))
def J96 (a:List Reg) (b:Ls) (c:Li):=H0 a∧Xk b∧Z59 c∧J7f a b
def Kj4 (a:List Reg) (b:Ls) (c:Li) (d:TypeId) (e f:List Ev) (g:Int) (h:Bt):=J96 a b c∧Sf true (Sf d (Sf (e,f,a) (Jbd (L6 a).1 b c=Jnu e f a g b c h)))
def Kju (a:Ls) (b:TypeId) (c d:List Ev) (e:List Reg) (f:Int) (g:Li) (h:Bt):=Br true (Z60∧Jed a∧Br false (J7p b c d e f a g h) (Z33∧Br false (Fc∧Jhw a∧Br (Jpr a) (J7p b c d e f a g h) Jce) (Km0 a g b c d e f h))) (Km0 a g b c d e f h)
def Kjf (a:Ls) (b:List Reg) (c:TypeId) (d e:List Ev) (f:Int) (g:Li) (h:Bt):=Br true (Z60∧Jeb a b∧Br false (J7p c d e b f a g h) (Z33∧Br false (Fc∧Jhu a b∧Br (Jpo b a) (J7p c d e b f a g h) Jce) (Kj4 b a g c d e f h))) (Kj4 b a g c d e f h)
theorem Jp6:wpFO Tryz.prog W87.g (Y0 2) (fun _=>na ()) (Sx.look ([(30,Tryz.f30)]:List (Nat×Func))) Tryz.f27 Jna T (E,C,G) ((n,Vj,ns,vs,tx),()):=by
 refine(by kernel_rfl:(Kc (E,C,G)→Ja (Z6 n ns vs tx)=0→Z68 E∧Br (Jei n E) (Sf true (Sf T (Sf (E,C,G) (11=Jnu E C G n ns vs tx)))) (Br false (Br (Z5 C) (Sf true (Sf T (Sf (E,C,G) (12=Jnu E C G n ns vs tx)))) (Jeh C∧Sf true (Sf T (Sf (E,C,G) (Jeg C=Jnu E C G n ns vs tx))))) (Br (Xq G) (Xp G∧Z84 vs∧Br (Jef vs G) (Sf true (Sf T (Sf (E,C,G) (22=Jnu E C G n ns vs tx)))) (Br true (Z60∧Jec ns G∧Br (J98 G ns) (Kbp T E C G n ns vs tx) (Z33∧Br false (Fc∧Jht ns G∧Kn6 T E C G n ns vs tx) (Kjf ns G T E C n vs tx))) (Kjf ns G T E C n vs tx))) (Z84 vs∧Br (Jek vs) (Sf true (Sf T (Sf (E,C,G) (22=Jnu E C G n ns vs tx)))) (Br true (Z60∧Jee ns∧Br (Kbh ns) (Kbp T E C G n ns vs tx) (Z33∧Br false (Fc∧Jhv ns∧Kn6 T E C G n ns vs tx) (Kju ns T E C G n vs tx))) (Kju ns T E C G n vs tx))))))=_).mp ?_
 delta Z4 Z5 Z6 Z7 Z33 Z36 Z59 Z60 Z67 Z68 Z84 Z95 Z96 Z99 Vl Xq Xk Fa Jlp Jem Fc Jnu Jce H2 Jek J8w Jt8 Jt7 Fb Jei Jeh Yq Xp Hr Jlm Jll Jbl Jbk Jcb Jbs L7 L6 F1 Hq Juo J72 Jeg Kbp J7p Jpr Kbh Jef Jee Jed Jhw J7f Jhv Kn6 Ka1 Km0 Jbr Zp H0 Jlk Jlj Juk J65 Jpo J98 Jec Jeb Jhu Jht J96 Kj4 Kju Kjf Br Iw Bd T2 Tw Sf Ln Gt B0 Lb E2 Jh Vj
 intro hh hc
 have eK:=Ym (h:=(E,C,G)) (n:=n) (k:=Vj) (ns:=ns) (vs:=vs) (tx:=tx) (by kernel_rfl)
 obtain⟨hn,hv,hR,hr0,n1,n2,n3,hG,hV⟩:=Zv hh hc
 simp only[Xe,ckS,List.length_cons,List.length_nil] at eK hn hv
 rw[eK]
 simp only[hG,Jfj,Zq,Prod.eta,Jnm,Kd,Kp,Jet,Jes,Jdh,Jer,cond_true,cond_false,Bool.not_true,Bool.not_false,Jd]
 repeat' first|apply And.intro|exact hV|intro _
 all_goals first|trivial|omega|assumption|(rename_i h;have h:=of_decide_eq_true h;omega)|(simp only[*,cond_true,cond_false,Bool.not_true,Bool.not_false];done)|(rw[Kk ‹_›];(first|have e1:decide (vs.getD 0 0<Vq.1)=true:=‹_›|have e1:decide (vs.getD 0 0<Vq.1)=false:=‹_›);simp only[*,cond_true,cond_false,Bool.not_true,Bool.not_false];first|done|rfl)|(simp only[Bool.not_eq_false',decide_eq_true_eq] at*;assumption)
def Z22 (a:Int) (b:Ls) (c:Li) (d:Bt):=(a,Jz,b,c,d)
def Z45:=Tw (Bd 0 2)
def Juw:=Tw (Bd ((0:Int)+1) 2)
def Jnp (a b:List Ev) (c:List Reg) (d:Int) (e:Ls) (f:Li) (g:Bt):=Hf (a,b,c) (Z22 d e f g)
def Jur:=Tw (Bd Jlp 2)
def Jym:=Jys∧False
def Kdh (a:Li) (b:Ls):=Z46 a∧J8u b
def Kcf (a:Ls):=Ze Yq 2 (Z99 a)
def J1p (a:TypeId) (b c:List Ev) (d:List Reg) (e:Int) (f:Ls) (g:Li) (h:Bt):=Sf true (Sf a (Sf (b,c,d) (9=Jnp b c d e f g h)))
def J3c (a:TypeId) (b c:List Ev) (d:List Reg) (e:Int) (f:Ls) (g:Li) (h:Bt):=Sf true (Sf a (Sf (b,c,d) (10=Jnp b c d e f g h)))
def Kbj (a:Ls):=bif true then J73 a else false
def Ka6 (a:Li) (b:List Reg) (c:Ls):=Z46 a∧J7h b c
def Knw (a:TypeId) (b c:List Ev) (d:List Reg) (e:Int) (f:Ls) (g:Li) (h:Bt):=Br false (J3c a b c d e f g h) Jym
def Kai (a:Int) (b:Ls) (c:Li) (d:Bt) (e:TypeId) (f g:List Ev) (h:List Reg):=(Hr∧EvV (Z22 a b c d)∧Jnx b∧Kdh c b)∧Sf true (Sf e (Sf (f,g,h) (Jam [] [] [] (Z22 a b c d)=Jnp f g h a b c d)))
def Kad (a:List Reg) (b:Ls):=Ze (Zp a) 2 (Z99 b)
def Kab (a:List Reg) (b:Ls):=bif true then J64 a b else false
def J90 (a:List Reg) (b:Int) (c:Ls) (d:Li) (e:Bt) (f:TypeId) (g h:List Ev):=(H0 a∧EvV (Z22 b c d e)∧Jnx c∧Ka6 d a c)∧Sf true (Sf f (Sf (g,h,a) (Jam (L7 a).1 (L6 a).1 (Hq a).1 (Z22 b c d e)=Jnp g h a b c d e)))
def J9y (a:Ls) (b:TypeId) (c d:List Ev) (e:List Reg) (f:Int) (g:Li) (h:Bt):=Br true (Z45∧Jee a∧Br (bif true then Kcf a else false) (J1p b c d e f a g h) (Z33∧Br true (Juw∧Jhv a∧Br false (J1p b c d e f a g h) (Jem∧Br false (Jur∧J29 a∧Br (Kbj a) (J1p b c d e f a g h) Jym) (Kai f a g h b c d e))) (Kai f a g h b c d e))) (Kai f a g h b c d e)
def J9w (a:Ls) (b:List Reg) (c:TypeId) (d e:List Ev) (f:Int) (g:Li) (h:Bt):=Br true (Z45∧Jec a b∧Br (bif true then Kad b a else false) (J1p c d e b f a g h) (Z33∧Br true (Juw∧Jht a b∧Br false (J1p c d e b f a g h) (Jem∧Br false (Jur∧J20 a b∧Br (Kab b a) (J1p c d e b f a g h) Jym) (J90 b f a g h c d e))) (J90 b f a g h c d e))) (J90 b f a g h c d e)
theorem Jj1:wpFO Tryz.prog W87.g (Y0 3) (fun _=>na ()) (Sx.look ([(30,Tryz.f30)]:List (Nat×Func))) Tryz.f27 Jna T (E,C,G) ((n,Jz,ns,vs,tx),()):=by
 refine(by kernel_rfl:(Kc (E,C,G)→Ja (Z22 n ns vs tx)=0→Z68 E∧Br (Jei n E) (Sf true (Sf T (Sf (E,C,G) (11=Jnp E C G n ns vs tx)))) (Br false (Br (Z5 C) (Sf true (Sf T (Sf (E,C,G) (12=Jnp E C G n ns vs tx)))) (Jeh C∧Sf true (Sf T (Sf (E,C,G) (Jeg C=Jnp E C G n ns vs tx))))) (Br (Xq G) (Xp G∧Z84 vs∧Br (Jef vs G) (Sf true (Sf T (Sf (E,C,G) (22=Jnp E C G n ns vs tx)))) (Br true (Z45∧Jeb ns G∧Br false (J3c T E C G n ns vs tx) (Z33∧Br true (Juw∧Jhu ns G∧Br (J99 G ns) (J3c T E C G n ns vs tx) (Jem∧Br false (Jur∧J2z ns G∧Knw T E C G n ns vs tx) (J9w ns G T E C n vs tx))) (J9w ns G T E C n vs tx))) (J9w ns G T E C n vs tx))) (Z84 vs∧Br (Jek vs) (Sf true (Sf T (Sf (E,C,G) (22=Jnp E C G n ns vs tx)))) (Br true (Z45∧Jed ns∧Br false (J3c T E C G n ns vs tx) (Z33∧Br true (Juw∧Jhw ns∧Br (Kbg ns) (J3c T E C G n ns vs tx) (Jem∧Br false (Jur∧J28 ns∧Knw T E C G n ns vs tx) (J9y ns T E C G n vs tx))) (J9y ns T E C G n vs tx))) (J9y ns T E C G n vs tx))))))=_).mp ?_
 delta Z4 Z5 Z7 Z22 Z33 Z36 Z45 Z46 Z67 Z68 Z84 Z92 Z95 Z96 Z99 Vl Xq Jnx Jho Jlp Jem Juw Jnp J2e H2 Jys Jek Jur Jym Jt8 J8u Jt7 Fb J8m J8l Jei Jeh Yq Xp Hr Kdh Jlm Jll Jbl Jbk Jcb Jbs L7 L6 F1 Hq Kcf J73 Juo Jeg J1p J3c Kbj Kbg Jef Jee Jed J7h Jhw Jhv J29 J28 Ka6 Knw Kai Jbr Zp H0 Jlk Jlj Kad Juk J64 Kab J99 Jec Jeb Jhu Jht J20 J2z J90 J9y J9w Br Iw Bd T2 Tw Sf Ln Gt B0 Lb E2 Jz Jh
 intro hh hc
 have eK:=Ym (h:=(E,C,G)) (n:=n) (k:=Jz) (ns:=ns) (vs:=vs) (tx:=tx) (by kernel_rfl)
 obtain⟨hn,hv,hR,hr0,n1,n2,n3,hG,hV⟩:=Zv hh hc
 simp only[Ut,ckS,List.length_cons,List.length_nil] at eK hn hv
 rw[eK]
 simp only[hG,Jfj,Zq,Prod.eta,Jnm,Kd,Kp,Jet,Jes,Jdh,Jer,cond_true,cond_false,Bool.not_true,Bool.not_false,Jd]
 repeat' first|apply And.intro|exact hV|intro _
 all_goals first|trivial|omega|assumption|(rename_i h;have h:=of_decide_eq_true h;omega)|(simp only[*,cond_true,cond_false,Bool.not_true,Bool.not_false];done)|(rw[Kk ‹_›];(first|have e1:decide (vs.getD 0 0<Vq.1)=true:=‹_›|have e1:decide (vs.getD 0 0<Vq.1)=false:=‹_›);simp only[*,cond_true,cond_false,Bool.not_true,Bool.not_false];first|done|rfl)|(simp only[Bool.not_eq_false',decide_eq_true_eq] at*;assumption)
def Z38 (a:Int) (b:Ls) (c:Li) (d:Bt):=(a,Jw,b,c,d)
def Jno (a b:List Ev) (c:List Reg) (d:Int) (e:Ls) (f:Li) (g:Bt):=Hf (a,b,c) (Z38 d e f g)
def J7l (a:TypeId) (b c:List Ev) (d:List Reg) (e:Int) (f:Ls) (g:Li) (h:Bt):=Sf true (Sf a (Sf (b,c,d) (9=Jno b c d e f g h)))
def Kbk (a:TypeId) (b c:List Ev) (d:List Reg) (e:Int) (f:Ls) (g:Li) (h:Bt):=Sf true (Sf a (Sf (b,c,d) (10=Jno b c d e f g h)))
def Knz (a:TypeId) (b c:List Ev) (d:List Reg) (e:Int) (f:Ls) (g:Li) (h:Bt):=Br false (Kbk a b c d e f g h) Jce
def Ka0 (a:Ls) (b:Li):=Hr∧Xk a∧Z59 b∧0≤Kb [] (Fa a)
def Kmy (a:Ls) (b:Li) (c:TypeId) (d e:List Ev) (f:List Reg) (g:Int) (h:Bt):=Ka0 a b∧Sf true (Sf c (Sf (d,e,f) (Jbe [] [] a b=Jno d e f g a b h)))
def J95 (a:List Reg) (b:Ls) (c:Li):=H0 a∧Xk b∧Z59 c∧0≤Kb (Hq a).1 (Fa b)
def Kj0 (a:List Reg) (b:Ls) (c:Li) (d:TypeId) (e f:List Ev) (g:Int) (h:Bt):=J95 a b c∧Sf true (Sf d (Sf (e,f,a) (Jbe (Hq a).1 (Hq a).2 b c=Jno e f a g b c h)))
def Kjs (a:Ls) (b:TypeId) (c d:List Ev) (e:List Reg) (f:Int) (g:Li) (h:Bt):=Br true (Z60∧Jed a∧Br false (J7l b c d e f a g h) (Z33∧Br false (Fc∧Jhw a∧Br (Jpr a) (J7l b c d e f a g h) Jce) (Kmy a g b c d e f h))) (Kmy a g b c d e f h)
def Kjd (a:Ls) (b:List Reg) (c:TypeId) (d e:List Ev) (f:Int) (g:Li) (h:Bt):=Br true (Z60∧Jeb a b∧Br false (J7l c d e b f a g h) (Z33∧Br false (Fc∧Jhu a b∧Br (Jpo b a) (J7l c d e b f a g h) Jce) (Kj0 b a g c d e f h))) (Kj0 b a g c d e f h)
theorem Jh0:wpFO Tryz.prog W87.g (Y0 2) (fun _=>na ()) (Sx.look ([(30,Tryz.f30)]:List (Nat×Func))) Tryz.f27 Jna T (E,C,G) ((n,Jw,ns,vs,tx),()):=by
 refine(by kernel_rfl:(Kc (E,C,G)→Ja (Z38 n ns vs tx)=0→Z68 E∧Br (Jei n E) (Sf true (Sf T (Sf (E,C,G) (11=Jno E C G n ns vs tx)))) (Br false (Br (Z5 C) (Sf true (Sf T (Sf (E,C,G) (12=Jno E C G n ns vs tx)))) (Jeh C∧Sf true (Sf T (Sf (E,C,G) (Jeg C=Jno E C G n ns vs tx))))) (Br (Xq G) (Xp G∧Z84 vs∧Br (Jef vs G) (Sf true (Sf T (Sf (E,C,G) (22=Jno E C G n ns vs tx)))) (Br true (Z60∧Jec ns G∧Br (bif true then !Kad G ns else false) (Kbk T E C G n ns vs tx) (Z33∧Br false (Fc∧Jht ns G∧Knz T E C G n ns vs tx) (Kjd ns G T E C n vs tx))) (Kjd ns G T E C n vs tx))) (Z84 vs∧Br (Jek vs) (Sf true (Sf T (Sf (E,C,G) (22=Jno E C G n ns vs tx)))) (Br true (Z60∧Jee ns∧Br (bif true then !Kcf ns else false) (Kbk T E C G n ns vs tx) (Z33∧Br false (Fc∧Jhv ns∧Knz T E C G n ns vs tx) (Kjs ns T E C G n vs tx))) (Kjs ns T E C G n vs tx))))))=_).mp ?_
 delta Z4 Z5 Z7 Z33 Z36 Z38 Z59 Z60 Z67 Z68 Z84 Z95 Z96 Z99 Vl Xq Xk Fa Jlp Jem Fc Jno Jce H2 Jek Jt8 Jt7 Fb Jei Jeh Yq Xp Hr Jlm Jll Jbl Jbk Jcb Jbs L7 L6 F1 Hq Kcf Juo Jeg J7l Kbk Jpr Jef Jee Jed Jhw Jhv Knz Ka0 Kmy Jbr Zp H0 Jlk Jlj Kad Juk Jpo Jec Jeb Jhu Jht J95 Kj0 Kjs Kjd Br Iw Bd T2 Tw Sf Ln Gt B0 Lb E2 Jw Jh
 intro hh hc
 have eK:=Ym (h:=(E,C,G)) (n:=n) (k:=Jw) (ns:=ns) (vs:=vs) (tx:=tx) (by kernel_rfl)
 obtain⟨hn,hv,hR,hr0,n1,n2,n3,hG,hV⟩:=Zv hh hc
 simp only[K5,ckS,List.length_cons,List.length_nil] at eK hn hv
 rw[eK]
 simp only[hG,Jfj,Zq,Prod.eta,Jnm,Kd,Kp,Jet,Jes,Jdh,Jer,cond_true,cond_false,Bool.not_true,Bool.not_false,Jd]
 repeat' first|apply And.intro|exact hV|intro _
 all_goals first|trivial|omega|assumption|(rename_i h;have h:=of_decide_eq_true h;omega)|(simp only[*,cond_true,cond_false,Bool.not_true,Bool.not_false];done)|(rw[Kk ‹_›];(first|have e1:decide (vs.getD 0 0<Vq.1)=true:=‹_›|have e1:decide (vs.getD 0 0<Vq.1)=false:=‹_›);simp only[*,cond_true,cond_false,Bool.not_true,Bool.not_false];first|done|rfl)|(simp only[Bool.not_eq_false',decide_eq_true_eq] at*;assumption)
def Z30 (a:Int) (b:Ls) (c:Li) (d:Bt):=(a,Kj,b,c,d)
def Jnr (a b:List Ev) (c:List Reg) (d:Int) (e:Ls) (f:Li) (g:Bt):=Hf (a,b,c) (Z30 d e f g)
def Kcd (a:Ls):=Ze Yq 3 (Z99 a)
def J3d (a:TypeId) (b c:List Ev) (d:List Reg) (e:Int) (f:Ls) (g:Li) (h:Bt):=Sf true (Sf a (Sf (b,c,d) (10=Jnr b c d e f g h)))
def J1o (a:TypeId) (b c:List Ev) (d:List Reg) (e:Int) (f:Ls) (g:Li) (h:Bt):=Sf true (Sf a (Sf (b,c,d) (9=Jnr b c d e f g h)))
def Knx (a:TypeId) (b c:List Ev) (d:List Reg) (e:Int) (f:Ls) (g:Li) (h:Bt):=Br false (J3d a b c d e f g h) Jym
def Kam (a:Ls) (b:Li) (c:TypeId) (d e:List Ev) (f:List Reg) (g:Int) (h:Bt):=(Hr∧Ju0 a∧Z59 b∧0≤Kb [] (Jho a))∧Sf true (Sf c (Sf (d,e,f) (Jbf [] [] a b=Jnr d e f g a b h)))
def Kac (a:List Reg) (b:Ls):=Ze (Zp a) 3 (Z99 b)
def J91 (a:List Reg) (b:Ls) (c:Li) (d:TypeId) (e f:List Ev) (g:Int) (h:Bt):=(H0 a∧Ju0 b∧Z59 c∧0≤Kb (Hq a).1 (Jho b))∧Sf true (Sf d (Sf (e,f,a) (Jbf (Hq a).1 (Hq a).2 b c=Jnr e f a g b c h)))
def J9z (a:Ls) (b:TypeId) (c d:List Ev) (e:List Reg) (f:Int) (g:Li) (h:Bt):=Br true (Z45∧Jee a∧Br (bif true then Kcd a else false) (J1o b c d e f a g h) (Z33∧Br true (Juw∧Jhv a∧Br false (J1o b c d e f a g h) (Jem∧Br false (Jur∧J29 a∧Br (Kbj a) (J1o b c d e f a g h) Jym) (Kam a g b c d e f h))) (Kam a g b c d e f h))) (Kam a g b c d e f h)
def J9x (a:Ls) (b:List Reg) (c:TypeId) (d e:List Ev) (f:Int) (g:Li) (h:Bt):=Br true (Z45∧Jec a b∧Br (bif true then Kac b a else false) (J1o c d e b f a g h) (Z33∧Br true (Juw∧Jht a b∧Br false (J1o c d e b f a g h) (Jem∧Br false (Jur∧J20 a b∧Br (Kab b a) (J1o c d e b f a g h) Jym) (J91 b a g c d e f h))) (J91 b a g c d e f h))) (J91 b a g c d e f h)
theorem Jj0:wpFO Tryz.prog W87.g (Y0 3) (fun _=>na ()) (Sx.look ([(30,Tryz.f30)]:List (Nat×Func))) Tryz.f27 Jna T (E,C,G) ((n,Kj,ns,vs,tx),()):=by
 refine(by kernel_rfl:(Kc (E,C,G)→Ja (Z30 n ns vs tx)=0→Z68 E∧Br (Jei n E) (Sf true (Sf T (Sf (E,C,G) (11=Jnr E C G n ns vs tx)))) (Br false (Br (Z5 C) (Sf true (Sf T (Sf (E,C,G) (12=Jnr E C G n ns vs tx)))) (Jeh C∧Sf true (Sf T (Sf (E,C,G) (Jeg C=Jnr E C G n ns vs tx))))) (Br (Xq G) (Xp G∧Z84 vs∧Br (Jef vs G) (Sf true (Sf T (Sf (E,C,G) (22=Jnr E C G n ns vs tx)))) (Br true (Z45∧Jeb ns G∧Br false (J3d T E C G n ns vs tx) (Z33∧Br true (Juw∧Jhu ns G∧Br (bif true then !Ze (Zp G) 2 (Z96 ns) else false) (J3d T E C G n ns vs tx) (Jem∧Br false (Jur∧J2z ns G∧Knx T E C G n ns vs tx) (J9x ns G T E C n vs tx))) (J9x ns G T E C n vs tx))) (J9x ns G T E C n vs tx))) (Z84 vs∧Br (Jek vs) (Sf true (Sf T (Sf (E,C,G) (22=Jnr E C G n ns vs tx)))) (Br true (Z45∧Jed ns∧Br false (J3d T E C G n ns vs tx) (Z33∧Br true (Juw∧Jhw ns∧Br (bif true then !Ze Yq 2 (Z96 ns) else false) (J3d T E C G n ns vs tx) (Jem∧Br false (Jur∧J28 ns∧Knx T E C G n ns vs tx) (J9z ns T E C G n vs tx))) (J9z ns T E C G n vs tx))) (J9z ns T E C G n vs tx))))))=_).mp ?_
 delta Z4 Z5 Z7 Z30 Z33 Z36 Z45 Z59 Z67 Z68 Z84 Z92 Z95 Z96 Z99 Vl Xq Ju0 Jho Jlp Jem Juw Jnr J2e H2 Jys Jek Jur Jym Jt8 Jt7 Fb J8m J8l Jei Jeh Yq Xp Hr Jlm Jll Jbl Jbk Jcb Jbs L7 L6 F1 Hq J73 Kcd Jeg J3d J1o Kbj Jef Jee Jed Jhw Jhv J29 J28 Knx Kam Jbr Zp H0 Jlk Jlj Kac J64 Kab Jec Jeb Jhu Jht J20 J2z J91 J9z J9x Br Iw Bd T2 Tw Sf Ln Gt B0 Lb E2 Kj Jh
 intro hh hc
 have eK:=Ym (h:=(E,C,G)) (n:=n) (k:=Kj) (ns:=ns) (vs:=vs) (tx:=tx) (by kernel_rfl)
 obtain⟨hn,hv,hR,hr0,n1,n2,n3,hG,hV⟩:=Zv hh hc
 simp only[U1,ckS,List.length_cons,List.length_nil] at eK hn hv
 rw[eK]
 simp only[hG,Jfj,Zq,Prod.eta,Jnm,Kd,Kp,Jet,Jes,Jdh,Jer,cond_true,cond_false,Bool.not_true,Bool.not_false,Jd]
 repeat' first|apply And.intro|exact hV|intro _
 all_goals first|trivial|omega|assumption|(rename_i h;have h:=of_decide_eq_true h;omega)|(simp only[*,cond_true,cond_false,Bool.not_true,Bool.not_false];done)|(rw[Kk ‹_›];(first|have e1:decide (vs.getD 0 0<Vq.1)=true:=‹_›|have e1:decide (vs.getD 0 0<Vq.1)=false:=‹_›);simp only[*,cond_true,cond_false,Bool.not_true,Bool.not_false];first|done|rfl)|(simp only[Bool.not_eq_false',decide_eq_true_eq] at*;assumption)
def Z23 (a:Int) (b:Ls) (c:Li) (d:Bt):=(a,Ki,b,c,d)
def Jnq (a b:List Ev) (c:List Reg) (d:Int) (e:Ls) (f:Li) (g:Bt):=Hf (a,b,c) (Z23 d e f g)
def J7m (a:TypeId) (b c:List Ev) (d:List Reg) (e:Int) (f:Ls) (g:Li) (h:Bt):=Sf true (Sf a (Sf (b,c,d) (9=Jnq b c d e f g h)))
def Kbm (a:TypeId) (b c:List Ev) (d:List Reg) (e:Int) (f:Ls) (g:Li) (h:Bt):=Sf true (Sf a (Sf (b,c,d) (10=Jnq b c d e f g h)))
def Ka9 (a:Ls):=Hr∧Xk a∧0≤U2 [] (Fa a)
def Kn2 (a:TypeId) (b c:List Ev) (d:List Reg) (e:Int) (f:Ls) (g:Li) (h:Bt):=Br false (Kbm a b c d e f g h) Jce
def Km6 (a:Ls) (b:TypeId) (c d:List Ev) (e:List Reg) (f:Int) (g:Li) (h:Bt):=Ka9 a∧Sf true (Sf b (Sf (c,d,e) (Jk9 [] a=Jnq c d e f a g h)))
def J97 (a:List Reg) (b:Ls):=H0 a∧Xk b∧0≤U2 (Hq a).2 (Fa b)
def Kj5 (a:List Reg) (b:Ls) (c:TypeId) (d e:List Ev) (f:Int) (g:Li) (h:Bt):=J97 a b∧Sf true (Sf c (Sf (d,e,a) (Jk9 (Hq a).2 b=Jnq d e a f b g h)))
def Kjw (a:Ls) (b:TypeId) (c d:List Ev) (e:List Reg) (f:Int) (g:Li) (h:Bt):=Br true (Z60∧Jed a∧Br false (J7m b c d e f a g h) (Z33∧Br false (Fc∧Jhw a∧Br (Jpr a) (J7m b c d e f a g h) Jce) (Km6 a b c d e f g h))) (Km6 a b c d e f g h)
def Kjg (a:Ls) (b:List Reg) (c:TypeId) (d e:List Ev) (f:Int) (g:Li) (h:Bt):=Br true (Z60∧Jeb a b∧Br false (J7m c d e b f a g h) (Z33∧Br false (Fc∧Jhu a b∧Br (Jpo b a) (J7m c d e b f a g h) Jce) (Kj5 b a c d e f g h))) (Kj5 b a c d e f g h)
theorem Jjz:wpFO Tryz.prog W87.g (Y0 2) (fun _=>na ()) (Sx.look ([(30,Tryz.f30)]:List (Nat×Func))) Tryz.f27 Jna T (E,C,G) ((n,Ki,ns,vs,tx),()):=by
 refine(by kernel_rfl:(Kc (E,C,G)→Ja (Z23 n ns vs tx)=0→Z68 E∧Br (Jei n E) (Sf true (Sf T (Sf (E,C,G) (11=Jnq E C G n ns vs tx)))) (Br false (Br (Z5 C) (Sf true (Sf T (Sf (E,C,G) (12=Jnq E C G n ns vs tx)))) (Jeh C∧Sf true (Sf T (Sf (E,C,G) (Jeg C=Jnq E C G n ns vs tx))))) (Br (Xq G) (Xp G∧Z84 vs∧Br (Jef vs G) (Sf true (Sf T (Sf (E,C,G) (22=Jnq E C G n ns vs tx)))) (Br true (Z60∧Jec ns G∧Br (bif true then !Kac G ns else false) (Kbm T E C G n ns vs tx) (Z33∧Br false (Fc∧Jht ns G∧Kn2 T E C G n ns vs tx) (Kjg ns G T E C n vs tx))) (Kjg ns G T E C n vs tx))) (Z84 vs∧Br (Jek vs) (Sf true (Sf T (Sf (E,C,G) (22=Jnq E C G n ns vs tx)))) (Br true (Z60∧Jee ns∧Br (bif true then !Kcd ns else false) (Kbm T E C G n ns vs tx) (Z33∧Br false (Fc∧Jhv ns∧Kn2 T E C G n ns vs tx) (Kjw ns T E C G n vs tx))) (Kjw ns T E C G n vs tx))))))=_).mp ?_
 delta Z4 Z5 Z7 Z23 Z33 Z36 Z60 Z67 Z68 Z84 Z95 Z96 Z99 Vl Xq Xk Fa Jlp Jem Fc Jnq Jce H2 Jek Jt8 Jt7 Fb Jei Jeh Yq Xp Hr Jlm Jll Jbl Jbk Jcb Jbs L7 L6 F1 Hq Juo Kcd Jeg J7m Kbm Jpr Jef Jee Jed Jhw Jhv Ka9 Kn2 Km6 Jbr Zp H0 Jlk Jlj Kac Juk Jpo Jec Jeb Jhu Jht J97 Kj5 Kjw Kjg Br Iw Bd T2 Tw Sf Ln Gt B0 Lb E2 Ki Jh
 intro hh hc
 have eK:=Ym (h:=(E,C,G)) (n:=n) (k:=Ki) (ns:=ns) (vs:=vs) (tx:=tx) (by kernel_rfl)
 obtain⟨hn,hv,hR,hr0,n1,n2,n3,hG,hV⟩:=Zv hh hc
 simp only[U0,ckS,List.length_cons,List.length_nil] at eK hn hv
 rw[eK]
 simp only[hG,Jfj,Zq,Prod.eta,Jnm,Kd,Kp,Jet,Jes,Jdh,Jer,cond_true,cond_false,Bool.not_true,Bool.not_false,Jd]
 repeat' first|apply And.intro|exact hV|intro _
 all_goals first|trivial|omega|assumption|(rename_i h;have h:=of_decide_eq_true h;omega)|(simp only[*,cond_true,cond_false,Bool.not_true,Bool.not_false];done)|(rw[Kk ‹_›];(first|have e1:decide (vs.getD 0 0<Vq.1)=true:=‹_›|have e1:decide (vs.getD 0 0<Vq.1)=false:=‹_›);simp only[*,cond_true,cond_false,Bool.not_true,Bool.not_false];first|done|rfl)|(simp only[Bool.not_eq_false',decide_eq_true_eq] at*;assumption)
def Z26 (a:Int) (b:Ls) (c:Li) (d:Bt):=(a,Jh,b,c,d)
def Jlo (a b:List Ev) (c:List Reg) (d:Int) (e:Ls) (f:Li) (g:Bt):=Hf (a,b,c) (Z26 d e f g)
def Kn7 (a:TypeId) (b c:List Ev) (d:List Reg) (e:Int) (f:Ls) (g:Li) (h:Bt):=Br false (Sf true (Sf a (Sf (b,c,d) (10=Jlo b c d e f g h)))) Jy0
theorem Jjy:wpFO Tryz.prog W87.g (Y0 1) (fun _=>na ()) (Sx.look ([(30,Tryz.f30)]:List (Nat×Func))) Tryz.f27 Jna T (E,C,G) ((n,Jh,ns,vs,tx),()):=by
 refine(by kernel_rfl:(Kc (E,C,G)→Ja (Z26 n ns vs tx)=0→Z68 E∧Br (Jei n E) (Sf true (Sf T (Sf (E,C,G) (11=Jlo E C G n ns vs tx)))) (Br false (Br (Z5 C) (Sf true (Sf T (Sf (E,C,G) (12=Jlo E C G n ns vs tx)))) (Jeh C∧Sf true (Sf T (Sf (E,C,G) (Jeg C=Jlo E C G n ns vs tx))))) (Br (Xq G) (Xp G∧Z84 vs∧Br (Jef vs G) (Sf true (Sf T (Sf (E,C,G) (22=Jlo E C G n ns vs tx)))) (Br false (Z48∧Jeb ns G∧Kn7 T E C G n ns vs tx) (Br false (Z48∧Jec ns G∧Br (J21 G ns) (Sf true (Sf T (Sf (E,C,G) (9=Jlo E C G n ns vs tx)))) Jy0) (J23 G vs∧Sf true (Sf T (Sf (E,C,G) (Ht (Jbs G) (L6 G).1 (F1 G).1 (Hq G).1 (Hq G).2 vs=Jlo E C G n ns vs tx))))))) (Z84 vs∧Br (Jek vs) (Sf true (Sf T (Sf (E,C,G) (22=Jlo E C G n ns vs tx)))) (Br false (Z48∧Jed ns∧Kn7 T E C G n ns vs tx) (Br false (Z48∧Jee ns∧Br (J3b ns) (Sf true (Sf T (Sf (E,C,G) (9=Jlo E C G n ns vs tx)))) Jy0) (J3i vs∧Sf true (Sf T (Sf (E,C,G) (Ht 0 [] [] [] [] vs=Jlo E C G n ns vs tx))))))))))=_).mp ?_
 delta Z4 Z5 Z7 Z26 Z33 Z36 Z48 Z57 Z67 Z68 Z84 Z95 Z99 Vl Xq Jy0 Jlo H2 Jek Fb Jei Jeh Yq Xp Hr Jlm Jll Jbl Jbk Jcb J3i Jbs L7 L6 F1 Hq J3f Jeg J3b Jef Jee Jed Kn7 Jbr Zp H0 Jlk Jlj J23 J22 J21 Jec Jeb Br Iw Bd T2 Tw Sf Ln Gt B0 Lb E2 Jh
 intro hh hc
 have eK:=Ym (h:=(E,C,G)) (n:=n) (k:=Jh) (ns:=ns) (vs:=vs) (tx:=tx) (by kernel_rfl)
 obtain⟨hn,hv,hR,hr0,n1,n2,n3,hG,hV⟩:=Zv hh hc
 simp only[Va,ckS,List.length_cons,List.length_nil] at eK hn hv
 rw[eK]
 simp only[hG,Jfj,Zq,Prod.eta,Jnm,Kd,Kp,Jet,Jes,Jdh,Jer,cond_true,cond_false,Bool.not_true,Bool.not_false,Jd]
 repeat' first|apply And.intro|exact hV|intro _
 all_goals first|trivial|omega|assumption|(rename_i h;have h:=of_decide_eq_true h;omega)|(simp only[*,cond_true,cond_false,Bool.not_true,Bool.not_false];done)|(rw[Kk ‹_›];(first|have e1:decide (vs.getD 0 0<Vq.1)=true:=‹_›|have e1:decide (vs.getD 0 0<Vq.1)=false:=‹_›);simp only[*,cond_true,cond_false,Bool.not_true,Bool.not_false];first|done|rfl)|(simp only[Bool.not_eq_false',decide_eq_true_eq] at*;assumption)
theorem Y3 {a b:ByteArray} (h:(a.toList==b.toList)=true):a=b:=by
 have h:=eq_of_beq h
 rw[Lib.toList_data,Lib.toList_data] at h
 cases a;cases b
 congr
 exact Array.toList_inj.1 h
theorem Jz1 {a b:ByteArray} (h:L4 .str a b=true):a=b:=Y3 h
theorem Jiu {β:Type} {ks:Sch} {k:ks.T}:∀{l:List (ks.T×β)},(V2 ks k l).isSome=true→∃x∈l,L4 ks k x.1=true
 |[],h=>by cases h
 | x :: l, h => by
  unfold V2 at h
  by_cases hx:L4 ks k x.1=true
  ·exact⟨x,List.mem_cons_self ..,hx⟩
  ·rw[if_neg hx] at h
   obtain⟨y,h1,h2⟩:=Jiu h
   exact⟨y,List.mem_cons_of_mem _ h1,h2⟩
theorem U3 {k:ByteArray} (h:V4 k=true):k=J0∨k=Ju∨k=Kx∨k=Ke∨k=Ks∨k=Vj∨k=Jz∨k=Jw∨k=Kj∨k=Ki∨k=Jh:=by
 obtain⟨x,hx,hk⟩:=Jiu h
 have hk:=Jz1 hk
 unfold Di at hx
 subst hk
 rcases List.mem_cons.1 hx with rfl|hx
 ·exact .inl rfl
 rcases List.mem_cons.1 hx with rfl|hx
 ·exact .inr (.inl rfl)
 rcases List.mem_cons.1 hx with rfl|hx
 ·exact .inr (.inr (.inl rfl))
 rcases List.mem_cons.1 hx with rfl|hx
 ·exact .inr (.inr (.inr (.inl rfl)))
 rcases List.mem_cons.1 hx with rfl|hx
 ·exact .inr (.inr (.inr (.inr (.inl rfl))))
 rcases List.mem_cons.1 hx with rfl|hx
 ·exact .inr (.inr (.inr (.inr (.inr (.inl rfl)))))
 rcases List.mem_cons.1 hx with rfl|hx
 ·exact .inr (.inr (.inr (.inr (.inr (.inr (.inl rfl))))))
 rcases List.mem_cons.1 hx with rfl|hx
 ·exact .inr (.inr (.inr (.inr (.inr (.inr (.inr (.inl rfl)))))))
 rcases List.mem_cons.1 hx with rfl|hx
 ·exact .inr (.inr (.inr (.inr (.inr (.inr (.inr (.inr (.inl rfl))))))))
 rcases List.mem_cons.1 hx with rfl|hx
 ·exact .inr (.inr (.inr (.inr (.inr (.inr (.inr (.inr (.inr (.inl rfl)))))))))
 rcases List.mem_cons.1 hx with rfl|hx
 ·exact .inr (.inr (.inr (.inr (.inr (.inr (.inr (.inr (.inr (.inr rfl)))))))))
 cases hx
theorem Jde:∀{l:List Prop} {q:Prop},(K6 l→Jxz l q)→Jxz l q
 |[],_,h=>h trivial
 |[_],_,h=>fun hp=>h hp hp
 |_::p'::r,_,h=>fun hp=>Jde (l:=p'::r) fun hr=>h ⟨hp,hr⟩ hp
theorem Jlw {Γ:Gam} {ann:Nat→Option Ann} {annF:FuncId→Nat→Option Ann} {lib:FuncId→Option Func} {fn:Func} {c:Zc} {T:TypeId} {x:c.s.T} {y:ATup c.args} (hb:fn.body.isSome=true) (h:K6 (c.pre x y)→wpFO Tryz.prog Γ ann annF lib fn c T x y):wpFO Tryz.prog Γ ann annF lib fn c T x y:=by
 unfold wpFO at h⊢
 cases hc:fn.body with
 |none=>rw[hc] at hb;cases hb
 |some code=>
  rw[hc] at h
  exact Jde h
def F9 (k:ByteArray):Nat:=if k=J0 then 1 else(Jj k).1.length+1
theorem Kvg (T:TypeId):∀(x:J8) (y:ATup [aEv]),wpFO Tryz.prog W87.g (Y0 (F9 y.1.2.1)) (fun _=>na ()) (Sx.look ([(30,Tryz.f30)]:List (Nat×Func))) Tryz.f27 Jna T x y
 |(E,C,G),((n,k,ns,vs,tx),())=>by
  refine Jlw (by kernel_rfl) fun hp=> ?_
  have hc:Ja (n,k,ns,vs,tx)=0:=hp.2
  rcases U3 (J2 hc).kind with h|h|h|h|h|h|h|h|h|h|h<;>dsimp only at h<;>subst h
  ·exact(show F9 J0=1 from by kernel_rfl)▸Jp5 T E C G n ns vs tx
  ·exact(show F9 Ju=2 from by kernel_rfl)▸Jhz T E C G n ns vs tx
  ·exact(show F9 Kx=2 from by kernel_rfl)▸Jn3 T E C G n ns vs tx
  ·exact(show F9 Ke=4 from by kernel_rfl)▸Jn4 T E C G n ns vs tx
  ·exact(show F9 Ks=2 from by kernel_rfl)▸Jn5 T E C G n ns vs tx
  ·exact(show F9 Vj=2 from by kernel_rfl)▸Jp6 T E C G n ns vs tx
  ·exact(show F9 Jz=3 from by kernel_rfl)▸Jj1 T E C G n ns vs tx
  ·exact(show F9 Jw=2 from by kernel_rfl)▸Jh0 T E C G n ns vs tx
  ·exact(show F9 Kj=3 from by kernel_rfl)▸Jj0 T E C G n ns vs tx
  ·exact(show F9 Ki=2 from by kernel_rfl)▸Jjz T E C G n ns vs tx
  ·exact(show F9 Jh=1 from by kernel_rfl)▸Jjy T E C G n ns vs tx
theorem Ktk:Ok Tryz.prog 27 (Zc.con Jna):=Zh (Ua mixed W87.ok (by kernel_rfl) (by kernel_rfl) (Uq (l:=([(30,Tryz.f30)]:List (Nat×Func))) (List.forall_mem_cons.2 ⟨by kernel_rfl,by simp⟩)) (fun _ yy=>Y0 (F9 yy.1.2.1)) (fun _ _=>fun _=>na ()) fun T xx yy _=>Kvg T xx yy)
abbrev W88:=W87.add Ktk
def doS (r:Reg) (e:Ev):Reg:=match(Jj e.2.1).2.2.2.1 with
 |some 95=>Fs r e
 |some 99=>Dk r e
 |some 101=>Do r e
 |some 104=>Dp r e
 |some 106=>Dj r e
 |some 108=>Dm r e
 |some 111=>Dl r e
 |some 113=>Dn r e
 |some 116=>Jev r e
 |some 118=>Fr r e
 |_=>r
def Jv (r:Reg) (e:Ev):Reg:=(e.2.2.2.1.getD 0 0,(doS r e).2)
def Zd (h:J8) (e:Ev):J8:=
 bif e.2.1.toList==J0.toList then(h.1++[e],h.2.1.take (h.2.1.length-1),h.2.2.take (h.2.1.length-1)) else(h.1++[e],h.2.1++[e],h.2.2++[Jv (Uv h.2.2) e])
def Kn (h:J8) (e:Ev):Int:=if Ja e≠0 then Ja e else Hf h e
def F2 (e:Ev):Prop:=e.2.2.1.length≤1000000∧e.2.2.2.1.length≤1000000∧∀s∈e.2.2.1,s.size≤1000000
def Uf (h:J8) (e:Ev):J8:=if Kn h e=0 then Zd h e else h
def J9v:Zc:={T? :=none,s:=Jqv,args:=[aEv],ress:=[I],pre:=fun h (e,_)=>[Kc h,h.1.length<1000,F2 e],spec:=fun h (e,_)=>(Kn h e,()),post:=fun h (e,_)=>Uf h e}
def Jap:Zc:={J9v with pre:=fun h (e,_)=>[Kc h,h.1.length<1000,F2 e,Ja e=0,Hf h e=0]}
theorem F0 {h:J8} {n:Int} {ns:List ByteArray} {vs:List Int} {roles:List (Int×Bool)} {ck:Int} (e:Jnm h n ns vs roles ck=0):n=(h.1.length:Int)+1∧¬vs.getD 0 0<(Uv h.2.2).1∧Kd (Uv h.2.2) ns roles 0=false∧Kp (Uv h.2.2) ns roles 0=false∧ck=0:=by
 unfold Jnm at e
 cases h1:n !=(h.1.length:Int)+1 with
 |true=>rw[h1] at e;cases e
 | false =>
  rw[h1,cond_false] at e
  cases h2:decide (vs.getD 0 0<(Uv h.2.2).1) with
  |true=>rw[h2] at e;cases e
  | false =>
   rw[h2,cond_false] at e
   cases h3:Kd (Uv h.2.2) ns roles 0 with
   |true=>rw[h3] at e;cases e
   | false =>
    rw[h3,cond_false] at e
    cases h4:Kp (Uv h.2.2) ns roles 0 with
    |true=>rw[h4] at e;cases e
    |false=>
     rw[h4,cond_false] at e
     exact⟨bne_eq_false_iff_eq.1 h1,of_decide_eq_false h2,rfl,rfl,e⟩
theorem Jm {r:Reg} {ns:List ByteArray} {w:Int} {b:Bool} {l:List (Int×Bool)} {i:Nat} (h:Kd r ns ((w,b)::l) i=false):(b=true→Ze r w (ns.getD i Jd)=true)∧Kd r ns l (i+1)=false:=by
 unfold Kd at h
 cases b with
 |false=>exact⟨fun f=>(by cases f),h⟩
 |true=>
  cases h1:Ze r w (ns.getD i Jd) with
  |true=>rw[h1] at h;exact⟨fun _=>rfl,h⟩
  |false=>rw[h1] at h;cases h
theorem Jpl {r:Reg} {s:ByteArray} (h:Ze r 0 s=true):0≤J3 r.2.2.1 s:=of_decide_eq_true (show decide _=true from h)
theorem J2x {r:Reg} {s:ByteArray} (h:Ze r 1 s=true):0≤Uo r.2.2.2.1 s:=of_decide_eq_true (show decide _=true from h)
theorem Jz4 {r:Reg} {s:ByteArray} (h:Ze r 2 s=true):0≤Kb r.2.2.2.2.2.1 s:=of_decide_eq_true (show decide _=true from h)
theorem Kh5 {r:Reg} {s:ByteArray} (h:Ze r 3 s=true):0≤U2 r.2.2.2.2.2.2 s:=of_decide_eq_true (show decide _=true from h)
theorem Jvy {h:J8} {n:Int} {k:ByteArray} {ns:List ByteArray} {vs:List Int} {tx:ByteArray} (hk:(k.toList==J0.toList)=false) (hc:Ja (n,k,ns,vs,tx)=0) (ha:Hf h (n,k,ns,vs,tx)=0):Kn h (n,k,ns,vs,tx)=0∧Uf h (n,k,ns,vs,tx)=(h.1++[(n,k,ns,vs,tx)],h.2.1++[(n,k,ns,vs,tx)],h.2.2++[Jv (Uv h.2.2) (n,k,ns,vs,tx)]):=by
 have e:Kn h (n,k,ns,vs,tx)=0:=by unfold Kn;rw[if_neg (by rw[hc];simp)];exact ha
 refine⟨e, ?_⟩
 unfold Uf;rw[if_pos e];unfold Zd;dsimp only;rw[hk];rfl
theorem Jeq {E C:List Ev} {G:List Reg} {n:Int} {k:ByteArray} {ns:List ByteArray} {vs:List Int} {tx:ByteArray} (hk:(k.toList==J0.toList)=false) (hc:Ja (n,k,ns,vs,tx)=0) (ha:Hf (E,C,G) (n,k,ns,vs,tx)=0):Kd (Uv G) ns (Jj k).1 0=false∧Kn (E,C,G) (n,k,ns,vs,tx)=0∧Uf (E,C,G) (n,k,ns,vs,tx)=(E++[(n,k,ns,vs,tx)],C++[(n,k,ns,vs,tx)],G++[Jv (Uv G) (n,k,ns,vs,tx)]):=
 have e:=Ym (h:=(E,C,G)) (n:=n) (ns:=ns) (vs:=vs) (tx:=tx) hk
 ⟨(F0 (e.symm.trans ha)).2.2.1,Jvy hk hc ha⟩
theorem Jw7 {h:J8} {n:Int} {ns:List ByteArray} {vs:List Int} {tx:ByteArray} (ha:Hf h (n,J0,ns,vs,tx)=0):n=(h.1.length:Int)+1∧h.2.1.length≠0∧((h.2.1.getD (h.2.1.length-1) ev0).2.1.toList==Jh.toList)=false:=by
 unfold Hf at ha
 dsimp only at ha
 rw[show(J0.toList==J0.toList)=true from by kernel_rfl,cond_true] at ha
 cases h1:n !=(h.1.length:Int)+1 with
 |true=>rw[h1] at ha;cases ha
 | false =>
  rw[h1,cond_false] at ha
  cases h2:(h.2.1.length:Int)==0 with
  |true=>rw[h2] at ha;cases ha
  |false=>
   rw[h2,cond_false] at ha
   cases h3:(h.2.1.getD (h.2.1.length-1) ev0).2.1.toList==Jh.toList with
   |true=>rw[h3] at ha;cases ha
   |false=>exact⟨bne_eq_false_iff_eq.1 h1,(fun e=>by rw[e] at h2;cases h2),rfl⟩
def Z43 (a:List Ev):=List.length a<1000
def Jav (a:List Ev):=(List.length a+1)*88≤140737488355328
def Jbm:=0≤1000000∧T2 (0≤1000000) (Tw (0≤1000000))
def Jcc (a:List Ev) (b:List Reg):=(List.take (Int.toNat (Z4 a)) a,List.take (Int.toNat (Z4 a)) b)
def L8 (a:List Ev) (b:List Reg):=Jav a∧(List.length b+1)*136≤140737488355328
def Jca (a:List Ev) (b:List Reg):=(0≤Z4 a∧Z4 a≤Ln a)∧0≤Z4 a∧Z4 a≤Ln b
def Jb9 (a:Ls) (b:Li):=Hw a∧Z55 b∧Jau a
def Jb8 (a:List Reg):=List.length (L7 a).1≤1000000∧List.length (L6 a).1≤1000000∧List.length (F1 a).1≤1000000∧List.length (Hq a).1≤1000000∧List.length (Hq a).2≤1000000
theorem Jp3:wpFO Tryz.prog W88.g (na ()) (fun _=>na ()) (Sx.look ([(30,Tryz.f30),(31,Tryz.f31)]:List (Nat×Func))) Tryz.f51 Jap T (E,C,G) ((n,J0,ns,vs,tx),()):=by
 refine(by kernel_rfl:(Kc (E,C,G)→Z43 E→F2 (Z2 n ns vs tx)→Ja (Z2 n ns vs tx)=0→Jpg E C G n ns vs tx=0→Jb9 ns vs∧Br (Ja (Z2 n ns vs tx) !=0) (Sf true (Sf T ((E,C,G)=Uf (E,C,G) (Z2 n ns vs tx)∧Ja (Z2 n ns vs tx)=Kn (E,C,G) (Z2 n ns vs tx)))) ((Kc (E,C,G)∧Ja (Z2 n ns vs tx)=0)∧Br (Jpg E C G n ns vs tx !=0) (Sf true (Sf T ((E,C,G)=Uf (E,C,G) (Z2 n ns vs tx)∧Jpg E C G n ns vs tx=Kn (E,C,G) (Z2 n ns vs tx)))) (Jbn ns vs∧Jav E∧Br true (Z67 C∧Jca C G∧Sf true (Sf T ((E++[Z2 n ns vs tx],Jcc C G)=Uf (E,C,G) (Z2 n ns vs tx)∧0=Kn (E,C,G) (Z2 n ns vs tx)))) (Br (Xq G) (Xp G∧Jb8 G∧False∧Z84 vs∧L8 C G∧Sf true (Sf T ((E++[Z2 n ns vs tx],C++[Z2 n ns vs tx],G++[(Z95 vs,Jbr G)])=Uf (E,C,G) (Z2 n ns vs tx)∧0=Kn (E,C,G) (Z2 n ns vs tx)))) (Jbm∧False∧Z84 vs∧L8 C G∧Sf true (Sf T ((E++[Z2 n ns vs tx],C++[Z2 n ns vs tx],G++[(Z95 vs,Fb)])=Uf (E,C,G) (Z2 n ns vs tx)∧0=Kn (E,C,G) (Z2 n ns vs tx))))))))=_).mp ?_
 delta Z2 Z4 Z36 Z43 Z55 Z67 Z84 Z95 Xq Hw Jpg Jav Jcd Jbn Fb Jbm Yq Xp Jcc Jau L8 Jbl Jbk Jbs L7 L6 F1 Hq Jca Jb9 Jbr Jb8 Br Iw Bd T2 Tw Sf Ln Gt E2 J0
 intro hh hlt hsz hc ha
 obtain⟨a1,a2,a3⟩:=Jw7 ha
 have n1:E.length≤1000:=hh.nE
 have n2:C.length≤E.length:=hh.nC
 have n3:G.length=C.length:=hh.nG
 have a2:C.length≠0:=a2
 have hC:((C.length:Int)-1).toNat=C.length-1:=by omega
 have eE:Kn (E,C,G) (n,J0,ns,vs,tx)=0:=by unfold Kn;rw[if_neg (by rw[hc];simp)];exact ha
 have eP:Uf (E,C,G) (n,J0,ns,vs,tx)=(E++[(n,J0,ns,vs,tx)],C.take (C.length-1),G.take (C.length-1)):=by
  unfold Uf;rw[if_pos eE];unfold Zd;dsimp only;rw[show(J0.toList==J0.toList)=true from by kernel_rfl];rfl
 simp only[eE,eP,hc,ha,hC]
 repeat' first|exact hh|exact hsz.2.2|apply And.intro|intro _
 all_goals first|trivial|omega|assumption|contradiction|exact hsz.1|exact hsz.2.1|rfl
def Kqi (a:Int) (b:Ls) (c:Li) (d:Bt):=(Fs Yq (Z40 a b c d)).2
def Kp4 (a:Int) (b:Ls) (c:Li) (d:Bt):=(Kqi a b c d).2
def Kpt (a:Int) (b:Ls) (c:Li) (d:Bt):=(Kp4 a b c d).2
def Kpm (a:Int) (b:Ls) (c:Li) (d:Bt):=(Kpt a b c d).2
def Kld (a:List Reg) (b:Int) (c:Ls) (d:Li) (e:Bt):=(Fs (Zp a) (Z40 b c d e)).2
def Kk1 (a:List Reg) (b:Int) (c:Ls) (d:Li) (e:Bt):=(Kld a b c d e).2
def Kkp (a:List Reg) (b:Int) (c:Ls) (d:Li) (e:Bt):=(Kk1 a b c d e).2
def Kkk (a:List Reg) (b:Int) (c:Ls) (d:Li) (e:Bt):=(Kkp a b c d e).2
theorem Jhx:wpFO Tryz.prog W88.g (na ()) (fun _=>na ()) (Sx.look ([(30,Tryz.f30),(31,Tryz.f31)]:List (Nat×Func))) Tryz.f51 Jap T (E,C,G) ((n,Ju,ns,vs,tx),()):=by
 refine(by kernel_rfl:(Kc (E,C,G)→Z43 E→F2 (Z40 n ns vs tx)→Ja (Z40 n ns vs tx)=0→Jnn E C G n ns vs tx=0→Jb9 ns vs∧Br (Ja (Z40 n ns vs tx) !=0) (Sf true (Sf T ((E,C,G)=Uf (E,C,G) (Z40 n ns vs tx)∧Ja (Z40 n ns vs tx)=Kn (E,C,G) (Z40 n ns vs tx)))) ((Kc (E,C,G)∧Ja (Z40 n ns vs tx)=0)∧Br (Jnn E C G n ns vs tx !=0) (Sf true (Sf T ((E,C,G)=Uf (E,C,G) (Z40 n ns vs tx)∧Jnn E C G n ns vs tx=Kn (E,C,G) (Z40 n ns vs tx)))) (Jbn ns vs∧Jav E∧Br false (Z67 C∧Jca C G∧Sf true (Sf T ((E++[Z40 n ns vs tx],Jcc C G)=Uf (E,C,G) (Z40 n ns vs tx)∧0=Kn (E,C,G) (Z40 n ns vs tx)))) (Br (Xq G) (Xp G∧Jb8 G∧(H0 G∧Xk ns∧Z57 vs)∧Z84 vs∧L8 C G∧Sf true (Sf T ((E++[Z40 n ns vs tx],C++[Z40 n ns vs tx],G++[(Z95 vs,(Kld G n ns vs tx).1,(Kk1 G n ns vs tx).1,(Kkp G n ns vs tx).1,(Kkk G n ns vs tx).1,E2 (Kkk G n ns vs tx).2)])=Uf (E,C,G) (Z40 n ns vs tx)∧0=Kn (E,C,G) (Z40 n ns vs tx)))) (Jbm∧(Hr∧Xk ns∧Z57 vs)∧Z84 vs∧L8 C G∧Sf true (Sf T ((E++[Z40 n ns vs tx],C++[Z40 n ns vs tx],G++[(Z95 vs,(Kqi n ns vs tx).1,(Kp4 n ns vs tx).1,(Kpt n ns vs tx).1,(Kpm n ns vs tx).1,E2 (Kpm n ns vs tx).2)])=Uf (E,C,G) (Z40 n ns vs tx)∧0=Kn (E,C,G) (Z40 n ns vs tx))))))))=_).mp ?_
 delta Z4 Z36 Z40 Z43 Z55 Z57 Z67 Z84 Z95 Xq Xk Hw Jnn Jav Jcd Jbn Fb Jbm Yq Xp Hr Jcc Jau L8 Kqi Jbl Jbk Jcb Kp4 Jbs L7 Kpt L6 Kpm F1 Hq Jca Jb9 Jbr Jb8 Zp H0 Kld Kk1 Kkp Kkk Br Iw Bd T2 Tw Sf Ln Gt E2 Ju
 intro hh hlt hsz hc ha
 obtain⟨u0,aE,aP⟩:=Jeq (k:=Ju) (by kernel_rfl) hc ha
 obtain⟨hn,hv,hR,_,n1,n2,n3,hG,hV⟩:=Zv hh hc
 simp only[Us,List.length_cons,List.length_nil] at hn hv u0
 have hs:Jv (Uv G) (n,Ju,ns,vs,tx)=(vs.getD 0 0,(Fs (Uv G) (n,Ju,ns,vs,tx)).2):=by simp only[Jv,doS,Us]
 simp only[aE,aP,hs,hc,ha,hG,Zq,Jfj,Prod.eta]
 repeat' first|exact hV|exact hh|exact hR|exact hsz.2.2|apply And.intro|intro _
 all_goals first|trivial|omega|assumption|exact Nat.le_trans hR.nS (by decide)|exact Nat.le_trans hR.nO (by decide)|exact Nat.le_trans hR.nM (by decide)|exact Nat.le_trans hR.nX (by decide)|exact Nat.le_trans hR.nQ (by decide)|exact Nat.zero_le _|exact hsz.1|exact hsz.2.1|(rename_i h;have h:=of_decide_eq_true h;omega)|rfl|(rw[←Kk ‹_›];first|done|exact hR)
def Kqt (a:Int) (b:Ls) (c:Li) (d:Bt):=(Dk Yq (Z18 a b c d)).2
def Kqg (a:Int) (b:Ls) (c:Li) (d:Bt):=(Kqt a b c d).2
def Kp3 (a:Int) (b:Ls) (c:Li) (d:Bt):=(Kqg a b c d).2
def Kps (a:Int) (b:Ls) (c:Li) (d:Bt):=(Kp3 a b c d).2
def Klm (a:List Reg) (b:Int) (c:Ls) (d:Li) (e:Bt):=(Dk (Zp a) (Z18 b c d e)).2
def Kle (a:List Reg) (b:Int) (c:Ls) (d:Li) (e:Bt):=(Klm a b c d e).2
def Kk2 (a:List Reg) (b:Int) (c:Ls) (d:Li) (e:Bt):=(Kle a b c d e).2
def Kkq (a:List Reg) (b:Int) (c:Ls) (d:Li) (e:Bt):=(Kk2 a b c d e).2
theorem Jn0:wpFO Tryz.prog W88.g (na ()) (fun _=>na ()) (Sx.look ([(30,Tryz.f30),(31,Tryz.f31)]:List (Nat×Func))) Tryz.f51 Jap T (E,C,G) ((n,Kx,ns,vs,tx),()):=by
 refine(by kernel_rfl:(Kc (E,C,G)→Z43 E→F2 (Z18 n ns vs tx)→Ja (Z18 n ns vs tx)=0→Jpf E C G n ns vs tx=0→Jb9 ns vs∧Br (Ja (Z18 n ns vs tx) !=0) (Sf true (Sf T ((E,C,G)=Uf (E,C,G) (Z18 n ns vs tx)∧Ja (Z18 n ns vs tx)=Kn (E,C,G) (Z18 n ns vs tx)))) ((Kc (E,C,G)∧Ja (Z18 n ns vs tx)=0)∧Br (Jpf E C G n ns vs tx !=0) (Sf true (Sf T ((E,C,G)=Uf (E,C,G) (Z18 n ns vs tx)∧Jpf E C G n ns vs tx=Kn (E,C,G) (Z18 n ns vs tx)))) (Jbn ns vs∧Jav E∧Br false (Z67 C∧Jca C G∧Sf true (Sf T ((E++[Z18 n ns vs tx],Jcc C G)=Uf (E,C,G) (Z18 n ns vs tx)∧0=Kn (E,C,G) (Z18 n ns vs tx)))) (Br (Xq G) (Xp G∧Jb8 G∧(H0 G∧Xk ns∧Z57 vs∧0≤J3 (L7 G).1 (Fa ns))∧Z84 vs∧L8 C G∧Sf true (Sf T ((E++[Z18 n ns vs tx],C++[Z18 n ns vs tx],G++[(Z95 vs,(Klm G n ns vs tx).1,(Kle G n ns vs tx).1,(Kk2 G n ns vs tx).1,(Kkq G n ns vs tx).1,E2 (Kkq G n ns vs tx).2)])=Uf (E,C,G) (Z18 n ns vs tx)∧0=Kn (E,C,G) (Z18 n ns vs tx)))) (Jbm∧(Hr∧Xk ns∧Z57 vs∧0≤J3 [] (Fa ns))∧Z84 vs∧L8 C G∧Sf true (Sf T ((E++[Z18 n ns vs tx],C++[Z18 n ns vs tx],G++[(Z95 vs,(Kqt n ns vs tx).1,(Kqg n ns vs tx).1,(Kp3 n ns vs tx).1,(Kps n ns vs tx).1,E2 (Kps n ns vs tx).2)])=Uf (E,C,G) (Z18 n ns vs tx)∧0=Kn (E,C,G) (Z18 n ns vs tx))))))))=_).mp ?_
 delta Z4 Z18 Z36 Z43 Z55 Z57 Z67 Z84 Z95 Xq Xk Hw Fa Jpf Jav Jcd Jbn Fb Jbm Yq Xp Hr Jcc Jau L8 Kqt Kqg Jbl Jbk Jcb Kp3 Jbs L7 Kps L6 F1 Hq Jca Jb9 Jbr Jb8 Zp H0 Klm Kle Kk2 Kkq Br Iw Bd T2 Tw Sf Ln Gt E2 Kx
 intro hh hlt hsz hc ha
 obtain⟨u0,aE,aP⟩:=Jeq (k:=Kx) (by kernel_rfl) hc ha
 obtain⟨hn,hv,hR,_,n1,n2,n3,hG,hV⟩:=Zv hh hc
 simp only[Vx,List.length_cons,List.length_nil] at hn hv u0
 obtain⟨k0,u1⟩:=Jm u0
 have f0:=Jpl (k0 rfl)
 have hs:Jv (Uv G) (n,Kx,ns,vs,tx)=(vs.getD 0 0,(Dk (Uv G) (n,Kx,ns,vs,tx)).2):=by simp only[Jv,doS,Vx]
 simp only[aE,aP,hs,hc,ha,hG,Zq,Jfj,Prod.eta]
 repeat' first|exact hV|exact hh|exact hR|exact hsz.2.2|apply And.intro|intro _
 all_goals first|trivial|omega|assumption|exact Nat.le_trans hR.nS (by decide)|exact Nat.le_trans hR.nO (by decide)|exact Nat.le_trans hR.nM (by decide)|exact Nat.le_trans hR.nX (by decide)|exact Nat.le_trans hR.nQ (by decide)|exact Nat.zero_le _|exact hsz.1|exact hsz.2.1|(rename_i h;have h:=of_decide_eq_true h;omega)|rfl|(rw[←Kk ‹_›];first|done|exact hR)|(rw[Kk ‹_›] at f0;exact f0)
def Kqq (a:Int) (b:Ls) (c:Li) (d:Bt):=(Do Yq (Z12 a b c d)).2
def Kqd (a:Int) (b:Ls) (c:Li) (d:Bt):=(Kqq a b c d).2
def Kp7 (a:Int) (b:Ls) (c:Li) (d:Bt):=(Kqd a b c d).2
def Kpr (a:Int) (b:Ls) (c:Li) (d:Bt):=(Kp7 a b c d).2
def Klj (a:List Reg) (b:Int) (c:Ls) (d:Li) (e:Bt):=(Do (Zp a) (Z12 b c d e)).2
def Klc (a:List Reg) (b:Int) (c:Ls) (d:Li) (e:Bt):=(Klj a b c d e).2
def Kk3 (a:List Reg) (b:Int) (c:Ls) (d:Li) (e:Bt):=(Klc a b c d e).2
def Kkt (a:List Reg) (b:Int) (c:Ls) (d:Li) (e:Bt):=(Kk3 a b c d e).2
theorem Jn1:wpFO Tryz.prog W88.g (na ()) (fun _=>na ()) (Sx.look ([(30,Tryz.f30),(31,Tryz.f31)]:List (Nat×Func))) Tryz.f51 Jap T (E,C,G) ((n,Ke,ns,vs,tx),()):=by
 refine(by kernel_rfl:(Kc (E,C,G)→Z43 E→F2 (Z12 n ns vs tx)→Ja (Z12 n ns vs tx)=0→Jns E C G n ns vs tx=0→Jb9 ns vs∧Br (Ja (Z12 n ns vs tx) !=0) (Sf true (Sf T ((E,C,G)=Uf (E,C,G) (Z12 n ns vs tx)∧Ja (Z12 n ns vs tx)=Kn (E,C,G) (Z12 n ns vs tx)))) ((Kc (E,C,G)∧Ja (Z12 n ns vs tx)=0)∧Br (Jns E C G n ns vs tx !=0) (Sf true (Sf T ((E,C,G)=Uf (E,C,G) (Z12 n ns vs tx)∧Jns E C G n ns vs tx=Kn (E,C,G) (Z12 n ns vs tx)))) (Jbn ns vs∧Jav E∧Br false (Z67 C∧Jca C G∧Sf true (Sf T ((E++[Z12 n ns vs tx],Jcc C G)=Uf (E,C,G) (Z12 n ns vs tx)∧0=Kn (E,C,G) (Z12 n ns vs tx)))) (Br (Xq G) (Xp G∧Jb8 G∧(H0 G∧Jpw ns∧Ka6 vs G ns)∧Z84 vs∧L8 C G∧Sf true (Sf T ((E++[Z12 n ns vs tx],C++[Z12 n ns vs tx],G++[(Z95 vs,(Klj G n ns vs tx).1,(Klc G n ns vs tx).1,(Kk3 G n ns vs tx).1,(Kkt G n ns vs tx).1,E2 (Kkt G n ns vs tx).2)])=Uf (E,C,G) (Z12 n ns vs tx)∧0=Kn (E,C,G) (Z12 n ns vs tx)))) (Jbm∧(Hr∧Jpw ns∧Kdh vs ns)∧Z84 vs∧L8 C G∧Sf true (Sf T ((E++[Z12 n ns vs tx],C++[Z12 n ns vs tx],G++[(Z95 vs,(Kqq n ns vs tx).1,(Kqd n ns vs tx).1,(Kp7 n ns vs tx).1,(Kpr n ns vs tx).1,E2 (Kpr n ns vs tx).2)])=Uf (E,C,G) (Z12 n ns vs tx)∧0=Kn (E,C,G) (Z12 n ns vs tx))))))))=_).mp ?_
 delta Z4 Z12 Z36 Z43 Z46 Z55 Z67 Z84 Z95 Xq Jpw Hw Jho Jns Jav Jcd J8u Jbn Fb Jbm Yq Xp Hr Jcc Kdh Jau L8 Kqq Jbl Kqd Jbk Kp7 Jcb Jbs L7 Kpr L6 F1 Hq Jca Jb9 J7h Ka6 Jbr Jb8 Zp H0 Klj Klc Kk3 Kkt Br Iw Bd T2 Tw Sf Ln Gt E2 Ke
 intro hh hlt hsz hc ha
 obtain⟨u0,aE,aP⟩:=Jeq (k:=Ke) (by kernel_rfl) hc ha
 obtain⟨hn,hv,hR,_,n1,n2,n3,hG,hV⟩:=Zv hh hc
 simp only[Vy,List.length_cons,List.length_nil] at hn hv u0
 obtain⟨k0,u1⟩:=Jm u0
 obtain⟨k1,u2⟩:=Jm u1
 obtain⟨k2,u3⟩:=Jm u2
 have f1:=Jpl (k1 rfl)
 have f2:=Jpl (k2 rfl)
 have hs:Jv (Uv G) (n,Ke,ns,vs,tx)=(vs.getD 0 0,(Do (Uv G) (n,Ke,ns,vs,tx)).2):=by simp only[Jv,doS,Vy]
 simp only[aE,aP,hs,hc,ha,hG,Zq,Jfj,Prod.eta]
 repeat' first|exact hV|exact hh|exact hR|exact hsz.2.2|apply And.intro|intro _
 all_goals first|trivial|omega|assumption|exact Nat.le_trans hR.nS (by decide)|exact Nat.le_trans hR.nO (by decide)|exact Nat.le_trans hR.nM (by decide)|exact Nat.le_trans hR.nX (by decide)|exact Nat.le_trans hR.nQ (by decide)|exact Nat.zero_le _|exact hsz.1|exact hsz.2.1|(rename_i h;have h:=of_decide_eq_true h;omega)|rfl|(rw[←Kk ‹_›];first|done|exact hR)|(rw[Kk ‹_›] at f1;exact f1)|(rw[Kk ‹_›] at f2;exact f2)
def Kqs (a:Int) (b:Ls) (c:Li) (d:Bt):=(Dp Yq (Z20 a b c d)).2
def Kqc (a:Int) (b:Ls) (c:Li) (d:Bt):=(Kqs a b c d).2
def Kp5 (a:Int) (b:Ls) (c:Li) (d:Bt):=(Kqc a b c d).2
def Kpu (a:Int) (b:Ls) (c:Li) (d:Bt):=(Kp5 a b c d).2
def Klk (a:List Reg) (b:Int) (c:Ls) (d:Li) (e:Bt):=(Dp (Zp a) (Z20 b c d e)).2
def Kla (a:List Reg) (b:Int) (c:Ls) (d:Li) (e:Bt):=(Klk a b c d e).2
def Kkz (a:List Reg) (b:Int) (c:Ls) (d:Li) (e:Bt):=(Kla a b c d e).2
def Kks (a:List Reg) (b:Int) (c:Ls) (d:Li) (e:Bt):=(Kkz a b c d e).2
theorem Jn2:wpFO Tryz.prog W88.g (na ()) (fun _=>na ()) (Sx.look ([(30,Tryz.f30),(31,Tryz.f31)]:List (Nat×Func))) Tryz.f51 Jap T (E,C,G) ((n,Ks,ns,vs,tx),()):=by
 refine(by kernel_rfl:(Kc (E,C,G)→Z43 E→F2 (Z20 n ns vs tx)→Ja (Z20 n ns vs tx)=0→Jnt E C G n ns vs tx=0→Jb9 ns vs∧Br (Ja (Z20 n ns vs tx) !=0) (Sf true (Sf T ((E,C,G)=Uf (E,C,G) (Z20 n ns vs tx)∧Ja (Z20 n ns vs tx)=Kn (E,C,G) (Z20 n ns vs tx)))) ((Kc (E,C,G)∧Ja (Z20 n ns vs tx)=0)∧Br (Jnt E C G n ns vs tx !=0) (Sf true (Sf T ((E,C,G)=Uf (E,C,G) (Z20 n ns vs tx)∧Jnt E C G n ns vs tx=Kn (E,C,G) (Z20 n ns vs tx)))) (Jbn ns vs∧Jav E∧Br false (Z67 C∧Jca C G∧Sf true (Sf T ((E++[Z20 n ns vs tx],Jcc C G)=Uf (E,C,G) (Z20 n ns vs tx)∧0=Kn (E,C,G) (Z20 n ns vs tx)))) (Br (Xq G) (Xp G∧Jb8 G∧(H0 G∧Xk ns∧Z51 vs)∧Z84 vs∧L8 C G∧Sf true (Sf T ((E++[Z20 n ns vs tx],C++[Z20 n ns vs tx],G++[(Z95 vs,(Klk G n ns vs tx).1,(Kla G n ns vs tx).1,(Kkz G n ns vs tx).1,(Kks G n ns vs tx).1,E2 (Kks G n ns vs tx).2)])=Uf (E,C,G) (Z20 n ns vs tx)∧0=Kn (E,C,G) (Z20 n ns vs tx)))) (Jbm∧(Hr∧Xk ns∧Z51 vs)∧Z84 vs∧L8 C G∧Sf true (Sf T ((E++[Z20 n ns vs tx],C++[Z20 n ns vs tx],G++[(Z95 vs,(Kqs n ns vs tx).1,(Kqc n ns vs tx).1,(Kp5 n ns vs tx).1,(Kpu n ns vs tx).1,E2 (Kpu n ns vs tx).2)])=Uf (E,C,G) (Z20 n ns vs tx)∧0=Kn (E,C,G) (Z20 n ns vs tx))))))))=_).mp ?_
 delta Z4 Z20 Z36 Z43 Z51 Z55 Z67 Z84 Z95 Xq Xk Hw Jnt Jav Jcd Jbn Fb Jbm Yq Xp Hr Jcc Jau L8 Kqs Jbl Kqc Jbk Jcb Kp5 Jbs L7 Kpu L6 F1 Hq Jca Jb9 Jbr Jb8 Zp H0 Klk Kla Kkz Kks Br Iw Bd T2 Tw Sf Ln Gt E2 Ks
 intro hh hlt hsz hc ha
 obtain⟨u0,aE,aP⟩:=Jeq (k:=Ks) (by kernel_rfl) hc ha
 obtain⟨hn,hv,hR,_,n1,n2,n3,hG,hV⟩:=Zv hh hc
 simp only[Vz,List.length_cons,List.length_nil] at hn hv u0
 obtain⟨k0,u1⟩:=Jm u0
 have f0:=J2x (k0 rfl)
 have hs:Jv (Uv G) (n,Ks,ns,vs,tx)=(vs.getD 0 0,(Dp (Uv G) (n,Ks,ns,vs,tx)).2):=by simp only[Jv,doS,Vz]
 simp only[aE,aP,hs,hc,ha,hG,Zq,Jfj,Prod.eta]
 repeat' first|exact hV|exact hh|exact hR|exact hsz.2.2|apply And.intro|intro _
 all_goals first|trivial|omega|assumption|exact Nat.le_trans hR.nS (by decide)|exact Nat.le_trans hR.nO (by decide)|exact Nat.le_trans hR.nM (by decide)|exact Nat.le_trans hR.nX (by decide)|exact Nat.le_trans hR.nQ (by decide)|exact Nat.zero_le _|exact hsz.1|exact hsz.2.1|(rename_i h;have h:=of_decide_eq_true h;omega)|rfl|(rw[←Kk ‹_›];first|done|exact hR)|(rw[Kk ‹_›] at f0;exact f0)
def Kqv (a:Int) (b:Ls) (c:Li) (d:Bt):=(Dj Yq (Z6 a b c d)).2
def Kql (a:Int) (b:Ls) (c:Li) (d:Bt):=(Kqv a b c d).2
def Kp8 (a:Int) (b:Ls) (c:Li) (d:Bt):=(Kql a b c d).2
def Kp0 (a:Int) (b:Ls) (c:Li) (d:Bt):=(Kp8 a b c d).2
def Kln (a:List Reg) (b:Int) (c:Ls) (d:Li) (e:Bt):=(Dj (Zp a) (Z6 b c d e)).2
def Klg (a:List Reg) (b:Int) (c:Ls) (d:Li) (e:Bt):=(Kln a b c d e).2
def Kk6 (a:List Reg) (b:Int) (c:Ls) (d:Li) (e:Bt):=(Klg a b c d e).2
def Kkx (a:List Reg) (b:Int) (c:Ls) (d:Li) (e:Bt):=(Kk6 a b c d e).2
theorem Jp4:wpFO Tryz.prog W88.g (na ()) (fun _=>na ()) (Sx.look ([(30,Tryz.f30),(31,Tryz.f31)]:List (Nat×Func))) Tryz.f51 Jap T (E,C,G) ((n,Vj,ns,vs,tx),()):=by
 refine(by kernel_rfl:(Kc (E,C,G)→Z43 E→F2 (Z6 n ns vs tx)→Ja (Z6 n ns vs tx)=0→Jnu E C G n ns vs tx=0→Jb9 ns vs∧Br (Ja (Z6 n ns vs tx) !=0) (Sf true (Sf T ((E,C,G)=Uf (E,C,G) (Z6 n ns vs tx)∧Ja (Z6 n ns vs tx)=Kn (E,C,G) (Z6 n ns vs tx)))) ((Kc (E,C,G)∧Ja (Z6 n ns vs tx)=0)∧Br (Jnu E C G n ns vs tx !=0) (Sf true (Sf T ((E,C,G)=Uf (E,C,G) (Z6 n ns vs tx)∧Jnu E C G n ns vs tx=Kn (E,C,G) (Z6 n ns vs tx)))) (Jbn ns vs∧Jav E∧Br false (Z67 C∧Jca C G∧Sf true (Sf T ((E++[Z6 n ns vs tx],Jcc C G)=Uf (E,C,G) (Z6 n ns vs tx)∧0=Kn (E,C,G) (Z6 n ns vs tx)))) (Br (Xq G) (Xp G∧Jb8 G∧J96 G ns vs∧Z84 vs∧L8 C G∧Sf true (Sf T ((E++[Z6 n ns vs tx],C++[Z6 n ns vs tx],G++[(Z95 vs,(Kln G n ns vs tx).1,(Klg G n ns vs tx).1,(Kk6 G n ns vs tx).1,(Kkx G n ns vs tx).1,E2 (Kkx G n ns vs tx).2)])=Uf (E,C,G) (Z6 n ns vs tx)∧0=Kn (E,C,G) (Z6 n ns vs tx)))) (Jbm∧Ka1 ns vs∧Z84 vs∧L8 C G∧Sf true (Sf T ((E++[Z6 n ns vs tx],C++[Z6 n ns vs tx],G++[(Z95 vs,(Kqv n ns vs tx).1,(Kql n ns vs tx).1,(Kp8 n ns vs tx).1,(Kp0 n ns vs tx).1,E2 (Kp0 n ns vs tx).2)])=Uf (E,C,G) (Z6 n ns vs tx)∧0=Kn (E,C,G) (Z6 n ns vs tx))))))))=_).mp ?_
 delta Z4 Z6 Z36 Z43 Z55 Z59 Z67 Z84 Z95 Xq Xk Hw Fa Jnu Jav Jcd J8w Jbn Fb Jbm Yq Xp Hr Jcc Jau L8 Kqv Kql Jbl Kp8 Jbk Jcb Kp0 Jbs L7 L6 F1 Hq Jca Jb9 J7f Ka1 Jbr Jb8 Zp H0 Kln Klg Kk6 Kkx J96 Br Iw Bd T2 Tw Sf Ln Gt E2 Vj
 intro hh hlt hsz hc ha
 obtain⟨u0,aE,aP⟩:=Jeq (k:=Vj) (by kernel_rfl) hc ha
 obtain⟨hn,hv,hR,_,n1,n2,n3,hG,hV⟩:=Zv hh hc
 simp only[Xe,List.length_cons,List.length_nil] at hn hv u0
 obtain⟨k0,u1⟩:=Jm u0
 have f0:=J2x (k0 rfl)
 have hs:Jv (Uv G) (n,Vj,ns,vs,tx)=(vs.getD 0 0,(Dj (Uv G) (n,Vj,ns,vs,tx)).2):=by simp only[Jv,doS,Xe]
 simp only[aE,aP,hs,hc,ha,hG,Zq,Jfj,Prod.eta]
 repeat' first|exact hV|exact hh|exact hR|exact hsz.2.2|apply And.intro|intro _
 all_goals first|trivial|omega|assumption|exact Nat.le_trans hR.nS (by decide)|exact Nat.le_trans hR.nO (by decide)|exact Nat.le_trans hR.nM (by decide)|exact Nat.le_trans hR.nX (by decide)|exact Nat.le_trans hR.nQ (by decide)|exact Nat.zero_le _|exact hsz.1|exact hsz.2.1|(rename_i h;have h:=of_decide_eq_true h;omega)|rfl|(rw[←Kk ‹_›];first|done|exact hR)|(rw[Kk ‹_›] at f0;exact f0)
def Kqn (a:Int) (b:Ls) (c:Li) (d:Bt):=(Dm Yq (Z22 a b c d)).2
def Kp9 (a:Int) (b:Ls) (c:Li) (d:Bt):=(Kqn a b c d).2
def Kp1 (a:Int) (b:Ls) (c:Li) (d:Bt):=(Kp9 a b c d).2
def Kpq (a:Int) (b:Ls) (c:Li) (d:Bt):=(Kp1 a b c d).2
def Kli (a:List Reg) (b:Int) (c:Ls) (d:Li) (e:Bt):=(Dm (Zp a) (Z22 b c d e)).2
def Kk7 (a:List Reg) (b:Int) (c:Ls) (d:Li) (e:Bt):=(Kli a b c d e).2
def Kkv (a:List Reg) (b:Int) (c:Ls) (d:Li) (e:Bt):=(Kk7 a b c d e).2
def Kko (a:List Reg) (b:Int) (c:Ls) (d:Li) (e:Bt):=(Kkv a b c d e).2
theorem Jjx:wpFO Tryz.prog W88.g (na ()) (fun _=>na ()) (Sx.look ([(30,Tryz.f30),(31,Tryz.f31)]:List (Nat×Func))) Tryz.f51 Jap T (E,C,G) ((n,Jz,ns,vs,tx),()):=by
 refine(by kernel_rfl:(Kc (E,C,G)→Z43 E→F2 (Z22 n ns vs tx)→Ja (Z22 n ns vs tx)=0→Jnp E C G n ns vs tx=0→Jb9 ns vs∧Br (Ja (Z22 n ns vs tx) !=0) (Sf true (Sf T ((E,C,G)=Uf (E,C,G) (Z22 n ns vs tx)∧Ja (Z22 n ns vs tx)=Kn (E,C,G) (Z22 n ns vs tx)))) ((Kc (E,C,G)∧Ja (Z22 n ns vs tx)=0)∧Br (Jnp E C G n ns vs tx !=0) (Sf true (Sf T ((E,C,G)=Uf (E,C,G) (Z22 n ns vs tx)∧Jnp E C G n ns vs tx=Kn (E,C,G) (Z22 n ns vs tx)))) (Jbn ns vs∧Jav E∧Br false (Z67 C∧Jca C G∧Sf true (Sf T ((E++[Z22 n ns vs tx],Jcc C G)=Uf (E,C,G) (Z22 n ns vs tx)∧0=Kn (E,C,G) (Z22 n ns vs tx)))) (Br (Xq G) (Xp G∧Jb8 G∧(H0 G∧Jnx ns∧Z46 vs)∧Z84 vs∧L8 C G∧Sf true (Sf T ((E++[Z22 n ns vs tx],C++[Z22 n ns vs tx],G++[(Z95 vs,(Kli G n ns vs tx).1,(Kk7 G n ns vs tx).1,(Kkv G n ns vs tx).1,(Kko G n ns vs tx).1,E2 (Kko G n ns vs tx).2)])=Uf (E,C,G) (Z22 n ns vs tx)∧0=Kn (E,C,G) (Z22 n ns vs tx)))) (Jbm∧(Hr∧Jnx ns∧Z46 vs)∧Z84 vs∧L8 C G∧Sf true (Sf T ((E++[Z22 n ns vs tx],C++[Z22 n ns vs tx],G++[(Z95 vs,(Kqn n ns vs tx).1,(Kp9 n ns vs tx).1,(Kp1 n ns vs tx).1,(Kpq n ns vs tx).1,E2 (Kpq n ns vs tx).2)])=Uf (E,C,G) (Z22 n ns vs tx)∧0=Kn (E,C,G) (Z22 n ns vs tx))))))))=_).mp ?_
 delta Z4 Z22 Z36 Z43 Z46 Z55 Z67 Z84 Z95 Xq Jnx Hw Jnp Jav Jcd Jbn Fb Jbm Yq Xp Hr Jcc Jau L8 Kqn Jbl Kp9 Jbk Jcb Kp1 Jbs L7 Kpq L6 F1 Hq Jca Jb9 Jbr Jb8 Zp H0 Kli Kk7 Kkv Kko Br Iw Bd T2 Tw Sf Ln Gt E2 Jz
 intro hh hlt hsz hc ha
 obtain⟨u0,aE,aP⟩:=Jeq (k:=Jz) (by kernel_rfl) hc ha
 obtain⟨hn,hv,hR,_,n1,n2,n3,hG,hV⟩:=Zv hh hc
 simp only[Ut,List.length_cons,List.length_nil] at hn hv u0
 obtain⟨k0,u1⟩:=Jm u0
 obtain⟨k1,u2⟩:=Jm u1
 have f1:=Jpl (k1 rfl)
 have hs:Jv (Uv G) (n,Jz,ns,vs,tx)=(vs.getD 0 0,(Dm (Uv G) (n,Jz,ns,vs,tx)).2):=by simp only[Jv,doS,Ut]
 simp only[aE,aP,hs,hc,ha,hG,Zq,Jfj,Prod.eta]
 repeat' first|exact hV|exact hh|exact hR|exact hsz.2.2|apply And.intro|intro _
 all_goals first|trivial|omega|assumption|exact Nat.le_trans hR.nS (by decide)|exact Nat.le_trans hR.nO (by decide)|exact Nat.le_trans hR.nM (by decide)|exact Nat.le_trans hR.nX (by decide)|exact Nat.le_trans hR.nQ (by decide)|exact Nat.zero_le _|exact hsz.1|exact hsz.2.1|(rename_i h;have h:=of_decide_eq_true h;omega)|rfl|(rw[←Kk ‹_›];first|done|exact hR)|(rw[Kk ‹_›] at f1;exact f1)
def Kqj (a:Int) (b:Ls) (c:Li) (d:Bt):=(Dl Yq (Z38 a b c d)).2
def Kp6 (a:Int) (b:Ls) (c:Li) (d:Bt):=(Kqj a b c d).2
def Kpx (a:Int) (b:Ls) (c:Li) (d:Bt):=(Kp6 a b c d).2
def Kpn (a:Int) (b:Ls) (c:Li) (d:Bt):=(Kpx a b c d).2
def Klb (a:List Reg) (b:Int) (c:Ls) (d:Li) (e:Bt):=(Dl (Zp a) (Z38 b c d e)).2
def Kk0 (a:List Reg) (b:Int) (c:Ls) (d:Li) (e:Bt):=(Klb a b c d e).2
def Kku (a:List Reg) (b:Int) (c:Ls) (d:Li) (e:Bt):=(Kk0 a b c d e).2
def Kkl (a:List Reg) (b:Int) (c:Ls) (d:Li) (e:Bt):=(Kku a b c d e).2
theorem Jhy:wpFO Tryz.prog W88.g (na ()) (fun _=>na ()) (Sx.look ([(30,Tryz.f30),(31,Tryz.f31)]:List (Nat×Func))) Tryz.f51 Jap T (E,C,G) ((n,Jw,ns,vs,tx),()):=by
 refine(by kernel_rfl:(Kc (E,C,G)→Z43 E→F2 (Z38 n ns vs tx)→Ja (Z38 n ns vs tx)=0→Jno E C G n ns vs tx=0→Jb9 ns vs∧Br (Ja (Z38 n ns vs tx) !=0) (Sf true (Sf T ((E,C,G)=Uf (E,C,G) (Z38 n ns vs tx)∧Ja (Z38 n ns vs tx)=Kn (E,C,G) (Z38 n ns vs tx)))) ((Kc (E,C,G)∧Ja (Z38 n ns vs tx)=0)∧Br (Jno E C G n ns vs tx !=0) (Sf true (Sf T ((E,C,G)=Uf (E,C,G) (Z38 n ns vs tx)∧Jno E C G n ns vs tx=Kn (E,C,G) (Z38 n ns vs tx)))) (Jbn ns vs∧Jav E∧Br false (Z67 C∧Jca C G∧Sf true (Sf T ((E++[Z38 n ns vs tx],Jcc C G)=Uf (E,C,G) (Z38 n ns vs tx)∧0=Kn (E,C,G) (Z38 n ns vs tx)))) (Br (Xq G) (Xp G∧Jb8 G∧J95 G ns vs∧Z84 vs∧L8 C G∧Sf true (Sf T ((E++[Z38 n ns vs tx],C++[Z38 n ns vs tx],G++[(Z95 vs,(Klb G n ns vs tx).1,(Kk0 G n ns vs tx).1,(Kku G n ns vs tx).1,(Kkl G n ns vs tx).1,E2 (Kkl G n ns vs tx).2)])=Uf (E,C,G) (Z38 n ns vs tx)∧0=Kn (E,C,G) (Z38 n ns vs tx)))) (Jbm∧Ka0 ns vs∧Z84 vs∧L8 C G∧Sf true (Sf T ((E++[Z38 n ns vs tx],C++[Z38 n ns vs tx],G++[(Z95 vs,(Kqj n ns vs tx).1,(Kp6 n ns vs tx).1,(Kpx n ns vs tx).1,(Kpn n ns vs tx).1,E2 (Kpn n ns vs tx).2)])=Uf (E,C,G) (Z38 n ns vs tx)∧0=Kn (E,C,G) (Z38 n ns vs tx))))))))=_).mp ?_
 delta Z4 Z36 Z38 Z43 Z55 Z59 Z67 Z84 Z95 Xq Xk Hw Fa Jno Jav Jcd Jbn Fb Jbm Yq Xp Hr Jcc Jau L8 Kqj Jbl Jbk Kp6 Jcb Jbs L7 Kpx L6 Kpn F1 Hq Jca Jb9 Ka0 Jbr Jb8 Zp H0 Klb Kk0 Kku Kkl J95 Br Iw Bd T2 Tw Sf Ln Gt E2 Jw
 intro hh hlt hsz hc ha
 obtain⟨u0,aE,aP⟩:=Jeq (k:=Jw) (by kernel_rfl) hc ha
 obtain⟨hn,hv,hR,_,n1,n2,n3,hG,hV⟩:=Zv hh hc
 simp only[K5,List.length_cons,List.length_nil] at hn hv u0
 obtain⟨k0,u1⟩:=Jm u0
 have f0:=Jz4 (k0 rfl)
 have hs:Jv (Uv G) (n,Jw,ns,vs,tx)=(vs.getD 0 0,(Dl (Uv G) (n,Jw,ns,vs,tx)).2):=by simp only[Jv,doS,K5]
 simp only[aE,aP,hs,hc,ha,hG,Zq,Jfj,Prod.eta]
 repeat' first|exact hV|exact hh|exact hR|exact hsz.2.2|apply And.intro|intro _
 all_goals first|trivial|omega|assumption|exact Nat.le_trans hR.nS (by decide)|exact Nat.le_trans hR.nO (by decide)|exact Nat.le_trans hR.nM (by decide)|exact Nat.le_trans hR.nX (by decide)|exact Nat.le_trans hR.nQ (by decide)|exact Nat.zero_le _|exact hsz.1|exact hsz.2.1|(rename_i h;have h:=of_decide_eq_true h;omega)|rfl|(rw[←Kk ‹_›];first|done|exact hR)|(rw[Kk ‹_›] at f0;exact f0)
def Kqk (a:Int) (b:Ls) (c:Li) (d:Bt):=(Dn Yq (Z30 a b c d)).2
def Kqb (a:Int) (b:Ls) (c:Li) (d:Bt):=(Kqk a b c d).2
def Kpz (a:Int) (b:Ls) (c:Li) (d:Bt):=(Kqb a b c d).2
def Kpo (a:Int) (b:Ls) (c:Li) (d:Bt):=(Kpz a b c d).2
def Klf (a:List Reg) (b:Int) (c:Ls) (d:Li) (e:Bt):=(Dn (Zp a) (Z30 b c d e)).2
def Kk5 (a:List Reg) (b:Int) (c:Ls) (d:Li) (e:Bt):=(Klf a b c d e).2
def Kkw (a:List Reg) (b:Int) (c:Ls) (d:Li) (e:Bt):=(Kk5 a b c d e).2
def Kkm (a:List Reg) (b:Int) (c:Ls) (d:Li) (e:Bt):=(Kkw a b c d e).2
theorem Jjw:wpFO Tryz.prog W88.g (na ()) (fun _=>na ()) (Sx.look ([(30,Tryz.f30),(31,Tryz.f31)]:List (Nat×Func))) Tryz.f51 Jap T (E,C,G) ((n,Kj,ns,vs,tx),()):=by
 refine(by kernel_rfl:(Kc (E,C,G)→Z43 E→F2 (Z30 n ns vs tx)→Ja (Z30 n ns vs tx)=0→Jnr E C G n ns vs tx=0→Jb9 ns vs∧Br (Ja (Z30 n ns vs tx) !=0) (Sf true (Sf T ((E,C,G)=Uf (E,C,G) (Z30 n ns vs tx)∧Ja (Z30 n ns vs tx)=Kn (E,C,G) (Z30 n ns vs tx)))) ((Kc (E,C,G)∧Ja (Z30 n ns vs tx)=0)∧Br (Jnr E C G n ns vs tx !=0) (Sf true (Sf T ((E,C,G)=Uf (E,C,G) (Z30 n ns vs tx)∧Jnr E C G n ns vs tx=Kn (E,C,G) (Z30 n ns vs tx)))) (Jbn ns vs∧Jav E∧Br false (Z67 C∧Jca C G∧Sf true (Sf T ((E++[Z30 n ns vs tx],Jcc C G)=Uf (E,C,G) (Z30 n ns vs tx)∧0=Kn (E,C,G) (Z30 n ns vs tx)))) (Br (Xq G) (Xp G∧Jb8 G∧(H0 G∧Ju0 ns)∧Z84 vs∧L8 C G∧Sf true (Sf T ((E++[Z30 n ns vs tx],C++[Z30 n ns vs tx],G++[(Z95 vs,(Klf G n ns vs tx).1,(Kk5 G n ns vs tx).1,(Kkw G n ns vs tx).1,(Kkm G n ns vs tx).1,E2 (Kkm G n ns vs tx).2)])=Uf (E,C,G) (Z30 n ns vs tx)∧0=Kn (E,C,G) (Z30 n ns vs tx)))) (Jbm∧(Hr∧Ju0 ns)∧Z84 vs∧L8 C G∧Sf true (Sf T ((E++[Z30 n ns vs tx],C++[Z30 n ns vs tx],G++[(Z95 vs,(Kqk n ns vs tx).1,(Kqb n ns vs tx).1,(Kpz n ns vs tx).1,(Kpo n ns vs tx).1,E2 (Kpo n ns vs tx).2)])=Uf (E,C,G) (Z30 n ns vs tx)∧0=Kn (E,C,G) (Z30 n ns vs tx))))))))=_).mp ?_
 delta Z4 Z30 Z36 Z43 Z55 Z67 Z84 Z95 Xq Ju0 Hw Jnr Jav Jcd Jbn Fb Jbm Yq Xp Hr Jcc Jau L8 Kqk Jbl Kqb Jbk Jcb Kpz Jbs L7 Kpo L6 F1 Hq Jca Jb9 Jbr Jb8 Zp H0 Klf Kk5 Kkw Kkm Br Iw Bd T2 Tw Sf Ln Gt E2 Kj
 intro hh hlt hsz hc ha
 obtain⟨u0,aE,aP⟩:=Jeq (k:=Kj) (by kernel_rfl) hc ha
 obtain⟨hn,hv,hR,_,n1,n2,n3,hG,hV⟩:=Zv hh hc
 simp only[U1,List.length_cons,List.length_nil] at hn hv u0
 obtain⟨k0,u1⟩:=Jm u0
 obtain⟨k1,u2⟩:=Jm u1
 have f1:=Jz4 (k1 rfl)
 have hs:Jv (Uv G) (n,Kj,ns,vs,tx)=(vs.getD 0 0,(Dn (Uv G) (n,Kj,ns,vs,tx)).2):=by simp only[Jv,doS,U1]
 simp only[aE,aP,hs,hc,ha,hG,Zq,Jfj,Prod.eta]
 repeat' first|exact hV|exact hh|exact hR|exact hsz.2.2|apply And.intro|intro _
 all_goals first|trivial|omega|assumption|exact Nat.le_trans hR.nS (by decide)|exact Nat.le_trans hR.nO (by decide)|exact Nat.le_trans hR.nM (by decide)|exact Nat.le_trans hR.nX (by decide)|exact Nat.le_trans hR.nQ (by decide)|exact Nat.zero_le _|exact hsz.1|exact hsz.2.1|(rename_i h;have h:=of_decide_eq_true h;omega)|rfl|(rw[←Kk ‹_›];first|done|exact hR)|(rw[Kk ‹_›] at f1;exact f1)
def Kqo (a:Int) (b:Ls) (c:Li) (d:Bt):=(Jev Yq (Z23 a b c d)).2
def Kqh (a:Int) (b:Ls) (c:Li) (d:Bt):=(Kqo a b c d).2
def Kp2 (a:Int) (b:Ls) (c:Li) (d:Bt):=(Kqh a b c d).2
def Kpw (a:Int) (b:Ls) (c:Li) (d:Bt):=(Kp2 a b c d).2
def Kll (a:List Reg) (b:Int) (c:Ls) (d:Li) (e:Bt):=(Jev (Zp a) (Z23 b c d e)).2
def Kk9 (a:List Reg) (b:Int) (c:Ls) (d:Li) (e:Bt):=(Kll a b c d e).2
def Kk4 (a:List Reg) (b:Int) (c:Ls) (d:Li) (e:Bt):=(Kk9 a b c d e).2
def Kkr (a:List Reg) (b:Int) (c:Ls) (d:Li) (e:Bt):=(Kk4 a b c d e).2
theorem Jjv:wpFO Tryz.prog W88.g (na ()) (fun _=>na ()) (Sx.look ([(30,Tryz.f30),(31,Tryz.f31)]:List (Nat×Func))) Tryz.f51 Jap T (E,C,G) ((n,Ki,ns,vs,tx),()):=by
 refine(by kernel_rfl:(Kc (E,C,G)→Z43 E→F2 (Z23 n ns vs tx)→Ja (Z23 n ns vs tx)=0→Jnq E C G n ns vs tx=0→Jb9 ns vs∧Br (Ja (Z23 n ns vs tx) !=0) (Sf true (Sf T ((E,C,G)=Uf (E,C,G) (Z23 n ns vs tx)∧Ja (Z23 n ns vs tx)=Kn (E,C,G) (Z23 n ns vs tx)))) ((Kc (E,C,G)∧Ja (Z23 n ns vs tx)=0)∧Br (Jnq E C G n ns vs tx !=0) (Sf true (Sf T ((E,C,G)=Uf (E,C,G) (Z23 n ns vs tx)∧Jnq E C G n ns vs tx=Kn (E,C,G) (Z23 n ns vs tx)))) (Jbn ns vs∧Jav E∧Br false (Z67 C∧Jca C G∧Sf true (Sf T ((E++[Z23 n ns vs tx],Jcc C G)=Uf (E,C,G) (Z23 n ns vs tx)∧0=Kn (E,C,G) (Z23 n ns vs tx)))) (Br (Xq G) (Xp G∧Jb8 G∧J97 G ns∧Z84 vs∧L8 C G∧Sf true (Sf T ((E++[Z23 n ns vs tx],C++[Z23 n ns vs tx],G++[(Z95 vs,(Kll G n ns vs tx).1,(Kk9 G n ns vs tx).1,(Kk4 G n ns vs tx).1,(Kkr G n ns vs tx).1,E2 (Kkr G n ns vs tx).2)])=Uf (E,C,G) (Z23 n ns vs tx)∧0=Kn (E,C,G) (Z23 n ns vs tx)))) (Jbm∧Ka9 ns∧Z84 vs∧L8 C G∧Sf true (Sf T ((E++[Z23 n ns vs tx],C++[Z23 n ns vs tx],G++[(Z95 vs,(Kqo n ns vs tx).1,(Kqh n ns vs tx).1,(Kp2 n ns vs tx).1,(Kpw n ns vs tx).1,E2 (Kpw n ns vs tx).2)])=Uf (E,C,G) (Z23 n ns vs tx)∧0=Kn (E,C,G) (Z23 n ns vs tx))))))))=_).mp ?_
 delta Z4 Z23 Z36 Z43 Z55 Z67 Z84 Z95 Xq Xk Hw Fa Jnq Jav Jcd Jbn Fb Jbm Yq Xp Hr Jcc Jau L8 Kqo Kqh Jbl Jbk Jcb Kp2 Jbs L7 Kpw L6 F1 Hq Jca Jb9 Ka9 Jbr Jb8 Zp H0 Kll Kk9 Kk4 Kkr J97 Br Iw Bd T2 Tw Sf Ln Gt E2 Ki
 intro hh hlt hsz hc ha
 obtain⟨u0,aE,aP⟩:=Jeq (k:=Ki) (by kernel_rfl) hc ha
 obtain⟨hn,hv,hR,_,n1,n2,n3,hG,hV⟩:=Zv hh hc
 simp only[U0,List.length_cons,List.length_nil] at hn hv u0
 obtain⟨k0,u1⟩:=Jm u0
 have f0:=Kh5 (k0 rfl)
 have hs:Jv (Uv G) (n,Ki,ns,vs,tx)=(vs.getD 0 0,(Jev (Uv G) (n,Ki,ns,vs,tx)).2):=by simp only[Jv,doS,U0]
 simp only[aE,aP,hs,hc,ha,hG,Zq,Jfj,Prod.eta]
 repeat' first|exact hV|exact hh|exact hR|exact hsz.2.2|apply And.intro|intro _
 all_goals first|trivial|omega|assumption|exact Nat.le_trans hR.nS (by decide)|exact Nat.le_trans hR.nO (by decide)|exact Nat.le_trans hR.nM (by decide)|exact Nat.le_trans hR.nX (by decide)|exact Nat.le_trans hR.nQ (by decide)|exact Nat.zero_le _|exact hsz.1|exact hsz.2.1|(rename_i h;have h:=of_decide_eq_true h;omega)|rfl|(rw[←Kk ‹_›];first|done|exact hR)|(rw[Kk ‹_›] at f0;exact f0)
def Kqm (a:Int) (b:Ls) (c:Li) (d:Bt):=(Fr Yq (Z26 a b c d)).2
def Kqa (a:Int) (b:Ls) (c:Li) (d:Bt):=(Kqm a b c d).2
def Kpy (a:Int) (b:Ls) (c:Li) (d:Bt):=(Kqa a b c d).2
def Kpp (a:Int) (b:Ls) (c:Li) (d:Bt):=(Kpy a b c d).2
def Klh (a:List Reg) (b:Int) (c:Ls) (d:Li) (e:Bt):=(Fr (Zp a) (Z26 b c d e)).2
def Kk8 (a:List Reg) (b:Int) (c:Ls) (d:Li) (e:Bt):=(Klh a b c d e).2
def Kky (a:List Reg) (b:Int) (c:Ls) (d:Li) (e:Bt):=(Kk8 a b c d e).2
def Kkn (a:List Reg) (b:Int) (c:Ls) (d:Li) (e:Bt):=(Kky a b c d e).2
theorem Jju:wpFO Tryz.prog W88.g (na ()) (fun _=>na ()) (Sx.look ([(30,Tryz.f30),(31,Tryz.f31)]:List (Nat×Func))) Tryz.f51 Jap T (E,C,G) ((n,Jh,ns,vs,tx),()):=by
 refine(by kernel_rfl:(Kc (E,C,G)→Z43 E→F2 (Z26 n ns vs tx)→Ja (Z26 n ns vs tx)=0→Jlo E C G n ns vs tx=0→Jb9 ns vs∧Br (Ja (Z26 n ns vs tx) !=0) (Sf true (Sf T ((E,C,G)=Uf (E,C,G) (Z26 n ns vs tx)∧Ja (Z26 n ns vs tx)=Kn (E,C,G) (Z26 n ns vs tx)))) ((Kc (E,C,G)∧Ja (Z26 n ns vs tx)=0)∧Br (Jlo E C G n ns vs tx !=0) (Sf true (Sf T ((E,C,G)=Uf (E,C,G) (Z26 n ns vs tx)∧Jlo E C G n ns vs tx=Kn (E,C,G) (Z26 n ns vs tx)))) (Jbn ns vs∧Jav E∧Br false (Z67 C∧Jca C G∧Sf true (Sf T ((E++[Z26 n ns vs tx],Jcc C G)=Uf (E,C,G) (Z26 n ns vs tx)∧0=Kn (E,C,G) (Z26 n ns vs tx)))) (Br (Xq G) (Xp G∧Jb8 G∧J23 G vs∧Z84 vs∧L8 C G∧Sf true (Sf T ((E++[Z26 n ns vs tx],C++[Z26 n ns vs tx],G++[(Z95 vs,(Klh G n ns vs tx).1,(Kk8 G n ns vs tx).1,(Kky G n ns vs tx).1,(Kkn G n ns vs tx).1,E2 (Kkn G n ns vs tx).2)])=Uf (E,C,G) (Z26 n ns vs tx)∧0=Kn (E,C,G) (Z26 n ns vs tx)))) (Jbm∧J3i vs∧Z84 vs∧L8 C G∧Sf true (Sf T ((E++[Z26 n ns vs tx],C++[Z26 n ns vs tx],G++[(Z95 vs,(Kqm n ns vs tx).1,(Kqa n ns vs tx).1,(Kpy n ns vs tx).1,(Kpp n ns vs tx).1,E2 (Kpp n ns vs tx).2)])=Uf (E,C,G) (Z26 n ns vs tx)∧0=Kn (E,C,G) (Z26 n ns vs tx))))))))=_).mp ?_
 delta Z4 Z26 Z36 Z43 Z55 Z57 Z67 Z84 Z95 Xq Hw Jlo Jav Jcd Jbn Fb Jbm Yq Xp Hr Jcc Jau L8 Kqm Jbl Kqa Jbk Jcb J3i Kpy Jbs L7 Kpp L6 F1 Hq Jca Jb9 Jbr Jb8 Zp H0 Klh Kk8 Kky J23 Kkn Br Iw Bd T2 Tw Sf Ln Gt E2 Jh
 intro hh hlt hsz hc ha
 obtain⟨u0,aE,aP⟩:=Jeq (k:=Jh) (by kernel_rfl) hc ha
 obtain⟨hn,hv,hR,_,n1,n2,n3,hG,hV⟩:=Zv hh hc
 simp only[Va,List.length_cons,List.length_nil] at hn hv u0
 have hs:Jv (Uv G) (n,Jh,ns,vs,tx)=(vs.getD 0 0,(Fr (Uv G) (n,Jh,ns,vs,tx)).2):=by simp only[Jv,doS,Va]
 simp only[aE,aP,hs,hc,ha,hG,Zq,Jfj,Prod.eta]
 repeat' first|exact hV|exact hh|exact hR|exact hsz.2.2|apply And.intro|intro _
 all_goals first|trivial|omega|assumption|exact Nat.le_trans hR.nS (by decide)|exact Nat.le_trans hR.nO (by decide)|exact Nat.le_trans hR.nM (by decide)|exact Nat.le_trans hR.nX (by decide)|exact Nat.le_trans hR.nQ (by decide)|exact Nat.zero_le _|exact hsz.1|exact hsz.2.1|(rename_i h;have h:=of_decide_eq_true h;omega)|rfl|(rw[←Kk ‹_›];first|done|exact hR)
abbrev GG:Gam:=[(25,J6a),(27,Zc.con Jna),(36,Jx7),(64,Jey 109 Xc),(65,Jey 110 Yn),(66,Jey 111 Xx),(67,Jey 112 Xi),(68,Jey 113 Yv)]
theorem gG:V6 Tryz.prog GG:= .cons Ktl (.cons Ktk (.cons Ktj (.cons Kth (.cons Ktg (.cons Ktf (.cons Kte (.cons Ktd (.nil _))))))))
def J6c:Zc:={J9v with pre:=fun h (e,_)=>[Kc h,h.1.length<1000,F2 e,¬(Ja e=0∧Hf h e=0)]}
theorem Ju9 (T:TypeId) (E C:List Ev) (G:List Reg) (n:Int) (k:ByteArray) (ns:List ByteArray) (vs:List Int) (tx:ByteArray):wpFO Tryz.prog GG (na ()) (fun _=>na ()) (Sx.look ([(30,Tryz.f30),(31,Tryz.f31)]:List (Nat×Func))) Tryz.f51 J6c T (E,C,G) ((n,k,ns,vs,tx),()):=by
 refine(by kernel_rfl:(Kc (E,C,G)→Z43 E→F2 (n,k,ns,vs,tx)→(Z63 n k ns vs tx=0∧Hf (E,C,G) (n,k,ns,vs,tx)=0→False)→Jb9 ns vs∧Br (Z63 n k ns vs tx !=0) (Sf true (Sf T ((E,C,G)=Uf (E,C,G) (n,k,ns,vs,tx)∧Z63 n k ns vs tx=Kn (E,C,G) (n,k,ns,vs,tx)))) ((Kc (E,C,G)∧Z63 n k ns vs tx=0)∧Br (Hf (E,C,G) (n,k,ns,vs,tx) !=0) (Sf true (Sf T ((E,C,G)=Uf (E,C,G) (n,k,ns,vs,tx)∧Hf (E,C,G) (n,k,ns,vs,tx)=Kn (E,C,G) (n,k,ns,vs,tx)))) (Jbn ns vs∧Jav E∧Br (Lb k J0) (Z67 C∧Jca C G∧Sf true (Sf T ((E++[(n,k,ns,vs,tx)],Jcc C G)=Uf (E,C,G) (n,k,ns,vs,tx)∧0=Kn (E,C,G) (n,k,ns,vs,tx)))) (Br (Xq G) (Xp G∧Jb8 G∧J9k 777 1) (Jbm∧J9k 777 1)))))=_).mp ?_
 delta Z4 Z43 Z55 Z63 Z67 Xq Hw Jav Jcd Jbn Fb Jbm Yq Xp Jcc Jau Jbl Jbk L7 L6 F1 Hq Jca Jb9 Jb8 Br Iw Bd T2 Tw Sf Ln Gt Lb J0
 intro hh hlt hsz hx
 have n1:E.length≤1000:=hh.nE
 have e1:Ja (n,k,ns,vs,tx)≠0→Kn (E,C,G) (n,k,ns,vs,tx)=Ja (n,k,ns,vs,tx):=fun h=>by unfold Kn;rw[if_pos h]
 have e2:¬Ja (n,k,ns,vs,tx)≠0→Kn (E,C,G) (n,k,ns,vs,tx)=Hf (E,C,G) (n,k,ns,vs,tx):=fun h=>by unfold Kn;rw[if_neg h]
 have e3:Kn (E,C,G) (n,k,ns,vs,tx)≠0→Uf (E,C,G) (n,k,ns,vs,tx)=(E,C,G):=fun h=>by unfold Uf;rw[if_neg h]
 refine⟨⟨hsz.1,hsz.2.1,hsz.2.2⟩,fun h=> ?_,fun h=>⟨⟨hh, ?_⟩,fun h2=> ?_,fun h2=> ?_⟩⟩
 ·have h:Ja (n,k,ns,vs,tx)≠0:=bne_iff_ne.1 h
  exact⟨rfl,rfl,(e3 (by rw[e1 h];exact h)).symm,(e1 h).symm⟩
 ·exact bne_eq_false_iff_eq.1 h
 ·have h:Ja (n,k,ns,vs,tx)=0:=bne_eq_false_iff_eq.1 h
  have h2:Hf (E,C,G) (n,k,ns,vs,tx)≠0:=bne_iff_ne.1 h2
  have e4:=e2 (by rw[h];simp)
  exact⟨rfl,rfl,(e3 (by rw[e4];exact h2)).symm,e4.symm⟩
 ·exact absurd ⟨bne_eq_false_iff_eq.1 h,bne_eq_false_iff_eq.1 h2⟩ hx
theorem Jrk {f:FuncId} {c:Zc} {p1 p2:c.s.T→ATup c.args→List Prop} (h1:OkO Tryz.prog f {c with pre:=p1}) (h2:OkO Tryz.prog f {c with pre:=p2}) (h:∀x y,K6 (c.pre x y)→K6 (p1 x y)∨K6 (p2 x y)):OkO Tryz.prog f c:=
 ⟨h1.1,fun x y M R B w b T cells vals vs hB hMR hg hw hBb hMb hRb hT ho hv hpre ha=>(h x y hpre).elim (fun q=>h1.2 x y M R B w b T cells vals vs hB hMR hg hw hBb hMb hRb hT ho hv q ha) fun q=>h2.2 x y M R B w b T cells vals vs hB hMR hg hw hBb hMb hRb hT ho hv q ha⟩
theorem Ke6 (T:TypeId):∀(x:J8) (y:ATup [aEv]),wpFO Tryz.prog W88.g (na ()) (fun _=>na ()) (Sx.look ([(30,Tryz.f30),(31,Tryz.f31)]:List (Nat×Func))) Tryz.f51 Jap T x y
 |(E,C,G),((n,k,ns,vs,tx),())=>by
  refine Jlw (by kernel_rfl) fun hp=> ?_
  have hc:Ja (n,k,ns,vs,tx)=0:=hp.2.2.2.1
  rcases U3 (J2 hc).kind with h|h|h|h|h|h|h|h|h|h|h<;>dsimp only at h<;>subst h
  ·exact Jp3 T E C G n ns vs tx
  ·exact Jhx T E C G n ns vs tx
  ·exact Jn0 T E C G n ns vs tx
  ·exact Jn1 T E C G n ns vs tx
  ·exact Jn2 T E C G n ns vs tx
  ·exact Jp4 T E C G n ns vs tx
  ·exact Jjx T E C G n ns vs tx
  ·exact Jhy T E C G n ns vs tx
  ·exact Jjw T E C G n ns vs tx
  ·exact Jjv T E C G n ns vs tx
  ·exact Jju T E C G n ns vs tx
theorem okK:OkO Tryz.prog 51 Jap:=Ua mixed W88.ok (by kernel_rfl) (by kernel_rfl) (Uq (l:=([(30,Tryz.f30),(31,Tryz.f31)]:List (Nat×Func))) (List.forall_mem_cons.2 ⟨by kernel_rfl,List.forall_mem_cons.2 ⟨by kernel_rfl,by simp⟩⟩)) (fun _ _=>na ()) (fun _ _=>fun _=>na ()) fun T xx yy _=>Ke6 T xx yy
theorem okG:OkO Tryz.prog 51 J6c:=Ua mixed gG (by kernel_rfl) (by kernel_rfl) (Uq (l:=([(30,Tryz.f30),(31,Tryz.f31)]:List (Nat×Func))) (List.forall_mem_cons.2 ⟨by kernel_rfl,List.forall_mem_cons.2 ⟨by kernel_rfl,by simp⟩⟩)) (fun _ _=>na ()) (fun _ _=>fun _=>na ()) fun T xx yy _=>Ju9 T xx.1 xx.2.1 xx.2.2 yy.1.1 yy.1.2.1 yy.1.2.2.1 yy.1.2.2.2.1 yy.1.2.2.2.2
theorem Kwp:Ok Tryz.prog 51 (Zc.con J9v):=Zh (Jrk (c:=J9v) okK okG fun x y hp=>by
 by_cases h:Ja y.1=0∧Hf x y.1=0
 ·exact .inl ⟨hp.1,hp.2.1,hp.2.2,h.1,h.2⟩
 ·exact .inr ⟨hp.1,hp.2.1,hp.2.2,h⟩)
abbrev W89:=W88.add Kwp
theorem Hj {α:Type} {p:α→Bool} {m:List α}:∀{l:List α} {k:Nat},0≤Vb p l k→Vb p (l++m) k=Vb p l k
 |[],k,h=>by simp[Vb] at h
 | x :: l, k, h => by
  show(if p x=true then(k:Int) else Vb p (l++m) (k+1))=(if p x=true then(k:Int) else Vb p l (k+1))
  have h:0≤(if p x=true then(k:Int) else Vb p l (k+1)):=h
  by_cases hp:p x=true
  ·rw[if_pos hp,if_pos hp]
  ·rw[if_neg hp] at h
   rw[if_neg hp,if_neg hp,Hj h]
theorem Jg6 {α:Type} {p:α→Bool} {y:α}:∀{l:List α} {i k:Nat},(∀x,l[i]? =some x→p y=p x)→Vb p (l.set i y) k=Vb p l k
 |[],_,_,_=>rfl
 |x::l,0,k,h=>by
  have:=h x rfl
  simp only[List.set_cons_zero]
  unfold Vb
  rw[this]
 |x::l,i+1,k,h=>by
  simp only[List.set_cons_succ]
  unfold Vb
  rw[Jg6 fun z hz=>h z (by simpa using hz)]
theorem Jsj {α:Type} {l:List α} {i:Nat} {d x:α} (h:l[i]? =some x):l.getD i d=x:=by
 rw[List.getD_eq_getElem?_getD,h];rfl
theorem Jc5 {α:Type} {l:List α} {i:Nat} {y x:α} (h:x∈l.set i y):x=y∨x∈l:=by
 rcases List.mem_or_eq_of_mem_set h with h|h
 ·exact .inr h
 ·exact .inl h
theorem Xo {α:Type} {l:List α} {y x:α} (h:x∈l++[y]):x∈l∨x=y:=by
 rcases List.mem_append.1 h with h|h
 ·exact .inl h
 ·exact .inr (by simpa using h)
theorem Yk {b:Bool} {c:Int} (hc:c≠0) (h:(bif b then c else 0)=0):b=false:=by
 cases b with
 |true=>exact absurd h hc
 |false=>rfl
theorem Ld {a b:Int} (h:Jg [a,b]=0):a=0∧b=0:=
 ⟨Kz.1 h _ (List.mem_cons_self ..),Kz.1 h _ (List.mem_cons_of_mem _ (List.mem_cons_self ..))⟩
theorem D5 {a b c:Int} (h:Jg [a,b,c]=0):a=0∧b=0∧c=0:=
 ⟨Kz.1 h _ (by simp),Kz.1 h _ (by simp),Kz.1 h _ (by simp)⟩
theorem Jgm {O:List Ord} {s:ByteArray} (h:0≤Uo O s):Dd O s∈O:=by
 have:=Ue (l:=O) (s:=s)
 exact Je (by omega)
theorem Jrh {X:List Out} {s:ByteArray} (h:0≤Kb X s):H9 X s∈X:=by
 have:=K2 (l:=X) (s:=s)
 exact Je (by omega)
theorem Jka {S:List Sta} {s:ByteArray} (h:0≤J3 S s):Lm S s∈S:=by
 have:=Kv (l:=S) (s:=s)
 exact Je (by omega)
theorem Jzl {Q:List Per} {s:ByteArray} (h:0≤U2 Q s):Jmk Q s∈Q:=by
 have:=Ud (l:=Q) (s:=s)
 exact Je (by omega)
theorem Jhp.mono {S S':List Sta} {x:Ord} (h:Jhp S x) (hs:∀s,0≤J3 S s→0≤J3 S' s):Jhp S' x:=⟨h.span,h.pow,h.pri,h.trip,hs _ h.fr,hs _ h.tu⟩
theorem Jls.mono {S S':List Sta} {x:Out} (h:Jls S x) (hs:∀s,0≤J3 S s→0≤J3 S' s):Jls S' x:=⟨h.span,h.rest,hs _ h.sta⟩
section
variable {tk st v:Int} {S:List Sta} {O:List Ord} {M:List Met} {X:List Out} {Q:List Per} {n:Int} {k tx:ByteArray} {ns:List ByteArray} {vs:List Int}
theorem Jod (hr:Js (tk,st,S,O,M,X,Q)) (hv:tk≤v∧v≤999999999) (hc:Jjh S vs=0) {a:ByteArray}:Js (v,st,S++[(a,vs.getD 1 0,0)],O,M,X,Q):=by
 obtain⟨c1,c2⟩:=Ld hc
 have c1:=Ko.1 c1
 have c2:=of_decide_eq_false (Yk (by decide) c2)
 have hs:∀s,0≤J3 S s→0≤J3 (S++[(a,vs.getD 1 0,0)]) s:=fun s h=>by unfold J3 at h⊢;rw[Hj h];exact h
 have h0:=hr.tk
 have h1:=hr.st
 dsimp only at h0 h1
 refine⟨by dsimp only;omega,by dsimp only;omega,by dsimp only;rw[List.length_append,List.length_singleton];omega,hr.nO,hr.nM,hr.nX,hr.nQ,fun x hx=> ?_,fun x hx=>(hr.ord x hx).mono hs,hr.met,fun x hx=>(hr.out x hx).mono hs,hr.per,hr.done⟩
 rcases Xo hx with h|rfl
 ·exact hr.sta x h
 ·exact⟨c1,Int.le_refl 0,by show(0:Int)≤1000;decide⟩
theorem Jvh (hr:Js (tk,st,S,O,M,X,Q)) (hv:tk≤v∧v≤999999999) (hc:Jla vs=0) {a:ByteArray} (ha:0≤J3 S a):Js (v,st,S.set (J3 S a).toNat ((Lm S a).1,(Lm S a).2.1,vs.getD 1 0),O,M,X,Q):=by
 have c1:=Ko.1 hc
 have hs:∀s,0≤J3 S s→0≤J3 (S.set (J3 S a).toNat ((Lm S a).1,(Lm S a).2.1,vs.getD 1 0)) s:=fun s h=>by
  unfold J3 at h⊢
  rw[Jg6 fun x hx=> ?_]
  ·exact h
  ·have:=Jsj (d:=Jvg) hx
   show((Lm S a).1.toList==s.toList)=_
   unfold Lm J3
   rw[this]
 have h0:=hr.tk
 have h1:=hr.st
 dsimp only at h0 h1
 refine⟨by dsimp only;omega,by dsimp only;omega,by rw[List.length_set];exact hr.nS,hr.nO,hr.nM,hr.nX,hr.nQ,fun x hx=> ?_,fun x hx=>(hr.ord x hx).mono hs,hr.met,fun x hx=>(hr.out x hx).mono hs,hr.per,hr.done⟩
 rcases Jc5 hx with rfl|h
 ·exact⟨(hr.sta _ (Jka ha)).lim,c1⟩
 ·exact hr.sta x h
theorem Jvj (hr:Js (tk,st,S,O,M,X,Q)) (hv:tk≤v∧v≤999999999) (hm:M.length<10000) (ho:0≤Uo O (ns.getD 0 Jd)) (hb:∀i,i<4→0≤vs.getD i 0∧vs.getD i 0≤999999999) (hc:Jji O M ns vs=0):Js (v,st,S,O,M++[(ns.getD 0 Jd,vs.getD 1 0,vs.getD 2 0,vs.getD 3 0)],X,Q):=by
 have h5:=Yk (by decide) (Kz.1 hc _ (List.mem_cons_of_mem _ (List.mem_cons_of_mem _ (List.mem_cons_of_mem _ (List.mem_cons_of_mem _ (List.mem_cons_self ..))))))
 have h6:=bn1 h5
 have p1:=of_decide_eq_false h6.1
 have p2:=of_decide_eq_false h6.2
 have hp:1≤(Dd O (ns.getD 0 Jd)).2.2.2.2.1∧(Dd O (ns.getD 0 Jd)).2.2.2.2.1≤1000:=(hr.ord _ (Jgm ho)).pow
 have h0:=hr.tk
 have h1:=hr.st
 dsimp only at h0 h1
 have b1:=hb 1 (by omega)
 have b2:=hb 2 (by omega)
 have b3:=hb 3 (by omega)
 refine⟨by dsimp only;omega,by dsimp only;omega,hr.nS,hr.nO,by dsimp only;rw[List.length_append,List.length_singleton];omega,hr.nX,hr.nQ,hr.sta,hr.ord,fun x hx=> ?_,hr.out,hr.per,fun x hx h e1 e2=> ?_⟩
 ·rcases Xo hx with h|rfl
  ·exact hr.met x h
  ·exact⟨b1,⟨b2.1,by dsimp only;omega⟩,⟨b3.1,by dsimp only;omega⟩⟩
 ·have:=hr.done x hx h e1 e2
  unfold Ub at this⊢
  dsimp only at this⊢
  rw[Hj this];exact this
theorem Jl4 {e:Ev} (hv:EvV e) (hl:e.2.2.2.1.length=4) (hc:Xv e=0):Jny (U7 e)∧e.2.2.2.1.getD 0 0≤(U7 e).1:=by
 have h:=Yk (by decide) hc
 have h1:=bn1 h
 have h2:=bn1 h1.1
 have e1:=of_decide_eq_false h2.1
 have e2:=of_decide_eq_false h2.2
 have e3:=of_decide_eq_false h1.2
 have v1:0≤(U7 e).1∧(U7 e).1≤999999999:=hv _ (Je (by omega))
 have v2:0≤(U7 e).2∧(U7 e).2≤999999999:=hv _ (Je (by omega))
 exact⟨⟨v1.1,by omega,v2.2,by omega⟩,by omega⟩
theorem Jvi (hr:Js (tk,st,S,O,M,X,Q)) (hv:tk≤v∧v≤999999999) (hvs:v=vs.getD 0 0) (hE:EvV (n,k,ns,vs,tx)) (hl:vs.length=4) (h1:0≤J3 S (ns.getD 1 Jd)) (h2:0≤J3 S (ns.getD 2 Jd)) (hc:Jan S O X (n,k,ns,vs,tx)=0):Js (v,st,S,O++[(ns.getD 0 Jd,ns.getD 1 Jd,ns.getD 2 Jd,U7 (n,k,ns,vs,tx),vs.getD 3 0,(Lm S (ns.getD 1 Jd)).2.2,-1)],M,X,Q):=by
 have hk:¬Jfs (n,k,ns,vs,tx)≠0:=fun h=>by unfold Jan at hc;rw[if_pos h] at hc;exact h hc
 unfold Jan at hc
 rw[if_neg hk] at hc
 obtain⟨c1,c2⟩:=Ld hc
 have c2:=of_decide_eq_false (Yk (by decide) c2)
 obtain⟨d1,d2,d3⟩:=D5 (show Jg [_,Xv (n,k,ns,vs,tx),Jp (vs.getD 3 0) 1 1000]=0 from Decidable.of_not_not hk)
 have d3:=Ko.1 d3
 obtain⟨sp,sv⟩:=Jl4 hE hl d2
 have sv:vs.getD 0 0≤(U7 (n,k,ns,vs,tx)).1:=sv
 have g0:=hr.tk
 have g1:=hr.st
 dsimp only at g0 g1
 refine⟨by dsimp only;omega,by dsimp only;omega,hr.nS,by dsimp only;rw[List.length_append,List.length_singleton];omega,hr.nM,hr.nX,hr.nQ,hr.sta,fun x hx=> ?_,hr.met,hr.out,hr.per,fun x hx hh e1 e2=> ?_⟩
 ·rcases Xo hx with h|rfl
  ·exact hr.ord x h
  ·exact⟨sp,d3,(hr.sta _ (Jka h1)).pri,⟨Int.le_refl _,by show(-1:Int)≤999999999;decide⟩,h1,h2⟩
 ·rcases Xo hx with h|rfl
  ·exact hr.done x h hh e1 e2
  ·exfalso
   unfold Ka Uh at e1
   dsimp only at e1 e2
   cases h3:decide ((U7 (n,k,ns,vs,tx)).1≤hh) with
   |true=>have:=of_decide_eq_true h3;omega
   |false=>rw[h3] at e1;cases e1
theorem Jqr (hr:Js (tk,st,S,O,M,X,Q)) (hv:tk≤v∧v≤999999999) (hE:EvV (n,k,ns,vs,tx)) (hl:vs.length=4) (h1:0≤J3 S (ns.getD 1 Jd)) (hc:Jam S O X (n,k,ns,vs,tx)=0):Js (v,st,S,O,M,X++[(ns.getD 0 Jd,ns.getD 1 Jd,U7 (n,k,ns,vs,tx),vs.getD 3 0)],Q):=by
 have hk:¬Jfr S (n,k,ns,vs,tx)≠0:=fun h=>by unfold Jam at hc;rw[if_pos h] at hc;exact h hc
 unfold Jam at hc
 rw[if_neg hk] at hc
 obtain⟨c1,c2⟩:=Ld hc
 have c2:=of_decide_eq_false (Yk (by decide) c2)
 obtain⟨d2,d3⟩:=Ld (show Jg [Xv (n,k,ns,vs,tx),bif decide ((Lm S (ns.getD 1 Jd)).2.1≤vs.getD 3 0) then 3 else 0]=0 from Decidable.of_not_not hk)
 have d3:=of_decide_eq_false (Yk (by decide) d3)
 obtain⟨sp,sv⟩:=Jl4 hE hl d2
 have hl3:(Lm S (ns.getD 1 Jd)).2.1≤1000:=(hr.sta _ (Jka h1)).lim.2
 have v3:0≤vs.getD 3 0∧vs.getD 3 0≤999999999:=hE _ (Je (show 3<vs.length by omega))
 have hf:∀s,0≤Kb X s→0≤Kb (X++[(ns.getD 0 Jd,ns.getD 1 Jd,U7 (n,k,ns,vs,tx),vs.getD 3 0)]) s:=fun s h=>by unfold Kb at h⊢;rw[Hj h];exact h
 have g0:=hr.tk
 have g1:=hr.st
 dsimp only at g0 g1
 refine⟨by dsimp only;omega,by dsimp only;omega,hr.nS,hr.nO,hr.nM,by dsimp only;rw[List.length_append,List.length_singleton];omega,hr.nQ,hr.sta,hr.ord,hr.met,fun x hx=> ?_,fun x hx=>hf _ (hr.per x hx),hr.done⟩
 rcases Xo hx with h|rfl
 ·exact hr.out x h
 ·exact⟨sp,⟨v3.1,by dsimp only;omega⟩,h1⟩
theorem Jzf (hr:Js (tk,st,S,O,M,X,Q)) (hv:tk≤vs.getD 0 0∧vs.getD 0 0≤999999999) (ho:0≤Uo O (ns.getD 0 Jd)) (hc:Jbd O ns vs=0):Js (vs.getD 0 0,st,S,Jkb O (ns.getD 0 Jd) (vs.getD 0 0),M,X,Q):=by
 have h1:=bn1 (Yk (by decide) hc)
 have c1:(Dd O (ns.getD 0 Jd)).2.2.2.2.2.2= -1:=bne_eq_false_iff_eq.1 h1.1
 have hm:=Jgm ho
 have g0:=hr.tk
 have g1:=hr.st
 dsimp only at g0 g1
 have ox:Jhp S (Dd O (ns.getD 0 Jd)):=hr.ord _ hm
 refine⟨by dsimp only;omega,by dsimp only;omega,hr.nS,by unfold Jkb;rw[List.length_set];exact hr.nO,hr.nM,hr.nX,hr.nQ,hr.sta,fun x hx=> ?_,hr.met,hr.out,hr.per,fun x hx hh e1 e2=> ?_⟩
 ·rcases Jc5 hx with rfl|h
  ·exact⟨ox.span,ox.pow,ox.pri,⟨by dsimp only;omega,hv.2⟩,ox.fr,ox.tu⟩
  ·exact hr.ord x h
 ·rcases Jc5 hx with rfl|h
  ·refine hr.done _ hm hh ?_ e2
   unfold Ka at e1⊢
   rw[c1]
   have e1:(bif Uh (Dd O (ns.getD 0 Jd)).2.2.2.1 hh then _ else false)=true:=e1
   cases h3:Uh (Dd O (ns.getD 0 Jd)).2.2.2.1 hh with
   |true=>rfl
   |false=>rw[h3] at e1;cases e1
  ·exact hr.done x h hh e1 e2
theorem Joe (hr:Js (tk,st,S,O,M,X,Q)) (hv:tk≤vs.getD 0 0∧vs.getD 0 0≤999999999) (ho:0≤Kb X (ns.getD 0 Jd)) (hc:Jbe X Q ns vs=0):Js (vs.getD 0 0,st,S,O,M,Jkc X (ns.getD 0 Jd) (vs.getD 0 0),Q):=by
 obtain⟨c1,c2,c3⟩:=D5 hc
 have c1:=of_decide_eq_false (Yk (by decide) c1)
 have c2:=of_decide_eq_false (Yk (by decide) c2)
 have hm:=Jrh ho
 have ox:Jls S (H9 X (ns.getD 0 Jd)):=hr.out _ hm
 have l1:=ox.span.lo
 have l2:=ox.span.len
 have g0:=hr.tk
 have g1:=hr.st
 dsimp only at g0 g1
 have hf:∀s,0≤Kb X s→0≤Kb (Jkc X (ns.getD 0 Jd) (vs.getD 0 0)) s:=fun s h=>by
  unfold Jkc
  unfold Kb at h⊢
  rw[Jg6 fun x hx=> ?_]
  ·exact h
  ·have:=Jsj (d:=Jfi) hx
   show((H9 X (ns.getD 0 Jd)).1.toList==s.toList)=_
   unfold H9 Kb
   rw[this]
 refine⟨by dsimp only;omega,by dsimp only;omega,hr.nS,hr.nO,hr.nM,by unfold Jkc;rw[List.length_set];exact hr.nX,hr.nQ,hr.sta,hr.ord,hr.met,fun x hx=> ?_,fun x hx=>hf _ (hr.per x hx),hr.done⟩
 rcases Jc5 hx with rfl|h
 ·exact⟨⟨l1,by dsimp only;omega,hv.2,by dsimp only;omega⟩,ox.rest,ox.sta⟩
 ·exact hr.out x h
theorem Jqq (hr:Js (tk,st,S,O,M,X,Q)) (hv:tk≤v∧v≤999999999) (ho:0≤Kb X (ns.getD 1 Jd)) (hc:Jbf X Q ns vs=0):Js (v,st,S,O,M,X,Q++[(ns.getD 0 Jd,ns.getD 1 Jd,true)]):=by
 have c2:=of_decide_eq_false (Yk (by decide) (Ld hc).2)
 have g0:=hr.tk
 have g1:=hr.st
 dsimp only at g0 g1
 refine⟨by dsimp only;omega,by dsimp only;omega,hr.nS,hr.nO,hr.nM,hr.nX,by dsimp only;rw[List.length_append,List.length_singleton];omega,hr.sta,hr.ord,hr.met,hr.out,fun x hx=> ?_,hr.done⟩
 rcases Xo hx with h|rfl
 ·exact hr.per x h
 ·exact ho
theorem Jqp (hr:Js (tk,st,S,O,M,X,Q)) (hv:tk≤v∧v≤999999999) {a:ByteArray} (ho:0≤U2 Q a):Js (v,st,S,O,M,X,Jkd Q a):=by
 have g0:=hr.tk
 have g1:=hr.st
 dsimp only at g0 g1
 refine⟨by dsimp only;omega,by dsimp only;omega,hr.nS,hr.nO,hr.nM,hr.nX,by unfold Jkd;rw[List.length_set];exact hr.nQ,hr.sta,hr.ord,hr.met,hr.out,fun x hx=> ?_,hr.done⟩
 rcases Jc5 hx with rfl|h
 ·exact hr.per (Jmk Q a) (Jzl ho)
 ·exact hr.per x h
theorem Jiw {u:Int} {x:Ord}:∀{m:Nat} {a:Int},Jbq M u x a m=[]→∀h,a≤h→h<a+m→(Ka x h&&(decide (h<u)&&decide (Ub M x.1 h<0)))=false
 |0,a,_,h,h1,h2=>by omega
 | m + 1, a, e, h, h1, h2 => by
  unfold Jbq at e
  obtain⟨e1,e2⟩:=List.append_eq_nil_iff.1 e
  by_cases ha:h=a
  ·subst ha
   cases hb:Ka x h&&(decide (h<u)&&decide (Ub M x.1 h<0)) with
   |false=>rfl
   |true=>rw[hb] at e1;cases e1
  ·exact Jiw e2 h (by omega) (by push_cast at h2;omega)
theorem Jiv {u:Int}:∀{O:List Ord},V3 M u O=[]→∀x∈O,Jv0 M u x=[]
 |[],_,x,hx=>by cases hx
 |y::l,e,x,hx=>by
  unfold V3 at e
  obtain⟨e1,e2⟩:=List.append_eq_nil_iff.1 e
  rcases List.mem_cons.1 hx with rfl|hx
  ·exact e1
  ·exact Jiv e2 x hx
theorem Jsy {x:Ord} {h:Int} (e:Ka x h=true):x.2.2.2.1.1≤h∧h<x.2.2.2.1.2:=by
 unfold Ka Uh at e
 cases h1:decide (x.2.2.2.1.1≤h) with
 |false=>rw[h1] at e;cases e
 |true=>
  cases h2:decide (h<x.2.2.2.1.2) with
  |false=>rw[h1,h2] at e;cases e
  |true=>exact⟨of_decide_eq_true h1,of_decide_eq_true h2⟩
theorem Jqo (hr:Js (tk,st,S,O,M,X,Q)) (hv:tk≤vs.getD 0 0∧vs.getD 0 0≤999999999) (hc:Ht st O M X Q vs=0):Js (vs.getD 0 0,vs.getD 1 0,S,O,M,X,Q):=by
 unfold Ht at hc
 cases h1:(bif decide (vs.getD 1 0≤st) then true else decide (vs.getD 0 0<vs.getD 1 0)) with
 |true=>rw[h1] at hc;cases hc
 |false=>
  rw[h1,cond_false] at hc
  have h2:=bn1 h1
  have d1:=of_decide_eq_false h2.1
  have d2:=of_decide_eq_false h2.2
  have h3:=of_decide_eq_false (bn1 (Yk (by decide) hc)).1
  have h4:V3 M (vs.getD 1 0) O=[]:=List.eq_nil_of_length_eq_zero (by omega)
  have g0:=hr.tk
  have g1:=hr.st
  dsimp only at g0 g1
  refine⟨by dsimp only;omega,by dsimp only;omega,hr.nS,hr.nO,hr.nM,hr.nX,hr.nQ,hr.sta,hr.ord,hr.met,hr.out,hr.per,fun x hx hh e1 e2=> ?_⟩
  have hi:=Jsy e1
  have h5:=Jiw (Jiv h4 x hx) hh hi.1 (by omega)
  have e2:hh<vs.getD 1 0:=e2
  rw[e1,decide_eq_true e2,Bool.true_and,Bool.true_and] at h5
  have:=of_decide_eq_false h5
  show 0≤Ub M x.1 hh
  omega
end
theorem Jzd {h:J8} {e:Ev} (hh:Kc h) (hm:(Uv h.2.2).2.2.2.2.1.length<10000) (hc:Ja e=0) (ha:Hf h e=0) (hk:(e.2.1.toList==J0.toList)=false):Js (Jv (Uv h.2.2) e):=by
 obtain⟨n,k,ns,vs,tx⟩:=e
 have hE:=J2 hc
 have eK:=Ym (h:=h) (n:=n) (k:=k) (ns:=ns) (vs:=vs) (tx:=tx) hk
 rw[ha] at eK
 obtain⟨_,z2,z3,z4,z5⟩:=F0 eK.symm
 have hr:=De hh
 clear eK ha z4
 generalize Uv h.2.2=r at*
 obtain⟨tk,st,S,O,M,X,Q⟩:=r
 have z2:¬vs.getD 0 0<tk:=z2
 have hm:M.length<10000:=hm
 have hn:ns.length=(Jj k).1.length:=hE.nn
 have hvl:(vs.length:Int)=(Jj k).2.1:=hE.nv
 have hx:∀i,i<vs.length→(0≤vs.getD i 0∧vs.getD i 0≤999999999):=fun i hi=>hE.val _ (Je hi)
 have hV:EvV (n,k,ns,vs,tx):=hE.val
 have hkd:=U3 hE.kind
 dsimp only at hkd hk
 clear hE hc hh
 rcases hkd with h|h|h|h|h|h|h|h|h|h|h<;>subst h
 ·exact absurd hk (by rw[show(J0.toList==J0.toList)=true from by kernel_rfl];decide)
 ·simp only[Us,List.length_cons,List.length_nil] at hn hvl z3
  simp only[ckS,Us] at z5
  obtain⟨k0,z3⟩:=Jm z3
  have e:Jv (tk,st,S,O,M,X,Q) (n,Ju,ns,vs,tx)=(vs.getD 0 0,(Fs (tk,st,S,O,M,X,Q) (n,Ju,ns,vs,tx)).2):=by unfold Jv doS;simp only[Us]
  rw[e]
  have hv:tk≤vs.getD 0 0∧vs.getD 0 0≤999999999:=⟨by omega,(hx 0 (by omega)).2⟩
  exact Jod hr hv z5
 ·simp only[Vx,List.length_cons,List.length_nil] at hn hvl z3
  simp only[ckS,Vx] at z5
  obtain⟨k0,z3⟩:=Jm z3
  have e:Jv (tk,st,S,O,M,X,Q) (n,Kx,ns,vs,tx)=(vs.getD 0 0,(Dk (tk,st,S,O,M,X,Q) (n,Kx,ns,vs,tx)).2):=by unfold Jv doS;simp only[Vx]
  rw[e]
  have hv:tk≤vs.getD 0 0∧vs.getD 0 0≤999999999:=⟨by omega,(hx 0 (by omega)).2⟩
  exact Jvh hr hv z5 (Jpl (k0 rfl))
 ·simp only[Vy,List.length_cons,List.length_nil] at hn hvl z3
  simp only[ckS,Vy] at z5
  obtain⟨k0,z3⟩:=Jm z3
  obtain⟨k1,z3⟩:=Jm z3
  obtain⟨k2,z3⟩:=Jm z3
  have e:Jv (tk,st,S,O,M,X,Q) (n,Ke,ns,vs,tx)=(vs.getD 0 0,(Do (tk,st,S,O,M,X,Q) (n,Ke,ns,vs,tx)).2):=by unfold Jv doS;simp only[Vy]
  rw[e]
  have hv:tk≤vs.getD 0 0∧vs.getD 0 0≤999999999:=⟨by omega,(hx 0 (by omega)).2⟩
  exact Jvi hr hv rfl hV (by omega) (Jpl (k1 rfl)) (Jpl (k2 rfl)) z5
 ·simp only[Vz,List.length_cons,List.length_nil] at hn hvl z3
  simp only[ckS,Vz] at z5
  obtain⟨k0,z3⟩:=Jm z3
  have e:Jv (tk,st,S,O,M,X,Q) (n,Ks,ns,vs,tx)=(vs.getD 0 0,(Dp (tk,st,S,O,M,X,Q) (n,Ks,ns,vs,tx)).2):=by unfold Jv doS;simp only[Vz]
  rw[e]
  have hv:tk≤vs.getD 0 0∧vs.getD 0 0≤999999999:=⟨by omega,(hx 0 (by omega)).2⟩
  exact Jvj hr hv hm (J2x (k0 rfl)) (fun i hi=>hx i (by omega)) z5
 ·simp only[Xe,List.length_cons,List.length_nil] at hn hvl z3
  simp only[ckS,Xe] at z5
  obtain⟨k0,z3⟩:=Jm z3
  have e:Jv (tk,st,S,O,M,X,Q) (n,Vj,ns,vs,tx)=(vs.getD 0 0,(Dj (tk,st,S,O,M,X,Q) (n,Vj,ns,vs,tx)).2):=by unfold Jv doS;simp only[Xe]
  rw[e]
  have hv:tk≤vs.getD 0 0∧vs.getD 0 0≤999999999:=⟨by omega,(hx 0 (by omega)).2⟩
  exact Jzf hr hv (J2x (k0 rfl)) z5
 ·simp only[Ut,List.length_cons,List.length_nil] at hn hvl z3
  simp only[ckS,Ut] at z5
  obtain⟨k0,z3⟩:=Jm z3
  obtain⟨k1,z3⟩:=Jm z3
  have e:Jv (tk,st,S,O,M,X,Q) (n,Jz,ns,vs,tx)=(vs.getD 0 0,(Dm (tk,st,S,O,M,X,Q) (n,Jz,ns,vs,tx)).2):=by unfold Jv doS;simp only[Ut]
  rw[e]
  have hv:tk≤vs.getD 0 0∧vs.getD 0 0≤999999999:=⟨by omega,(hx 0 (by omega)).2⟩
  exact Jqr hr hv hV (by omega) (Jpl (k1 rfl)) z5
 ·simp only[K5,List.length_cons,List.length_nil] at hn hvl z3
  simp only[ckS,K5] at z5
  obtain⟨k0,z3⟩:=Jm z3
  have e:Jv (tk,st,S,O,M,X,Q) (n,Jw,ns,vs,tx)=(vs.getD 0 0,(Dl (tk,st,S,O,M,X,Q) (n,Jw,ns,vs,tx)).2):=by unfold Jv doS;simp only[K5]
  rw[e]
  have hv:tk≤vs.getD 0 0∧vs.getD 0 0≤999999999:=⟨by omega,(hx 0 (by omega)).2⟩
  exact Joe hr hv (Jz4 (k0 rfl)) z5
 ·simp only[U1,List.length_cons,List.length_nil] at hn hvl z3
  simp only[ckS,U1] at z5
  obtain⟨k0,z3⟩:=Jm z3
  obtain⟨k1,z3⟩:=Jm z3
  have e:Jv (tk,st,S,O,M,X,Q) (n,Kj,ns,vs,tx)=(vs.getD 0 0,(Dn (tk,st,S,O,M,X,Q) (n,Kj,ns,vs,tx)).2):=by unfold Jv doS;simp only[U1]
  rw[e]
  have hv:tk≤vs.getD 0 0∧vs.getD 0 0≤999999999:=⟨by omega,(hx 0 (by omega)).2⟩
  exact Jqq hr hv (Jz4 (k1 rfl)) z5
 ·simp only[U0,List.length_cons,List.length_nil] at hn hvl z3
  simp only[ckS,U0] at z5
  obtain⟨k0,z3⟩:=Jm z3
  have e:Jv (tk,st,S,O,M,X,Q) (n,Ki,ns,vs,tx)=(vs.getD 0 0,(Jev (tk,st,S,O,M,X,Q) (n,Ki,ns,vs,tx)).2):=by unfold Jv doS;simp only[U0]
  rw[e]
  have hv:tk≤vs.getD 0 0∧vs.getD 0 0≤999999999:=⟨by omega,(hx 0 (by omega)).2⟩
  exact Jqp hr hv (Kh5 (k0 rfl))
 ·simp only[Va,List.length_cons,List.length_nil] at hn hvl z3
  simp only[ckS,Va] at z5
  have e:Jv (tk,st,S,O,M,X,Q) (n,Jh,ns,vs,tx)=(vs.getD 0 0,(Fr (tk,st,S,O,M,X,Q) (n,Jh,ns,vs,tx)).2):=by unfold Jv doS;simp only[Va]
  rw[e]
  have hv:tk≤vs.getD 0 0∧vs.getD 0 0≤999999999:=⟨by omega,(hx 0 (by omega)).2⟩
  exact Jqo hr hv z5
set_option maxHeartbeats 20000000
theorem Jz7 {r:Reg} {e:Ev}:(doS r e).2.2.2.2.1.length≤r.2.2.2.2.1.length+1:=by
 obtain⟨tk,st,S,O,M,X,Q⟩:=r
 obtain⟨n,k,ns,vs,tx⟩:=e
 unfold doS
 split<;>first|exact Nat.le_succ _|(show(M++[_]).length≤M.length+1;simp)
structure Yb (h:J8):Prop where
 ok:Kc h
 met:∀r∈h.2.2,r.2.2.2.2.1.length≤h.1.length
theorem Jrn {h:J8} (hi:Yb h):(Uv h.2.2).2.2.2.2.1.length≤h.1.length:=by
 unfold Uv
 by_cases h0:0<h.2.2.length
 ·exact hi.met _ (Je (by omega))
 ·have:h.2.2=[]:=List.eq_nil_of_length_eq_zero (by omega)
  rw[this];exact Nat.zero_le _
theorem add_zero {h:J8} {e:Ev} (ha:Kn h e=0):Ja e=0∧Hf h e=0:=by
 unfold Kn at ha
 by_cases hc:Ja e≠0
 ·rw[if_pos hc] at ha;exact absurd ha hc
 ·rw[if_neg hc] at ha;exact⟨Decidable.of_not_not hc,ha⟩
theorem Fz {h:J8} {e:Ev} (hi:Yb h) (hl:h.1.length<1000) (ha:Kn h e=0):Yb (Zd h e):=by
 obtain⟨hc,hacc⟩:=add_zero ha
 obtain⟨E,C,G⟩:=h
 obtain⟨n1,n2,n3,hr⟩:=hi.ok
 have hm:=Jrn hi
 dsimp only at n1 n2 n3 hr hl hm
 cases hk:e.2.1.toList==J0.toList with
 |true=>
  unfold Zd
  rw[hk,cond_true]
  refine⟨⟨by simp;omega,by simp;omega,by simp;omega,fun r hx=>hr r (List.mem_of_mem_take hx)⟩,fun r hx=> ?_⟩
  have:r.2.2.2.2.1.length≤E.length:=hi.met r (List.mem_of_mem_take hx)
  simp only[List.length_append,List.length_singleton]
  omega
 | false =>
  have hs:=Jzd hi.ok (Nat.lt_of_le_of_lt hm (by omega)) hc hacc hk
  unfold Zd
  rw[hk,cond_false]
  refine⟨⟨by simp;omega,by simp;omega,by simp;omega,fun r hx=> ?_⟩,fun r hx=> ?_⟩
  ·rcases Xo hx with h|rfl
   ·exact hr r h
   ·exact hs
  ·rcases Xo hx with h|rfl
   ·have:r.2.2.2.2.1.length≤E.length:=hi.met r h
    simp only[List.length_append,List.length_singleton]
    omega
   ·have:=Jz7 (r:=Uv G) (e:=e)
    simp only[List.length_append,List.length_singleton]
    show(doS (Uv G) e).2.2.2.2.1.length≤_
    omega
theorem Y4 {h:J8} {e:Ev}:(Zd h e).1.length=h.1.length+1:=by
 unfold Zd
 cases e.2.1.toList==J0.toList<;>simp
def Xf:J8:=([],[],[])
theorem V0:Yb Xf:=⟨⟨by decide,by decide,rfl,fun _ h=>(by cases h)⟩,fun _ h=>(by cases h)⟩
def Vp:J8→List Ev→J8×Int×Int
 |h,[]=>(h,0,0)
 |h,e::l=>if Kn h e=0 then Vp (Zd h e) l else(h,h.1.length+1,Kn h e)
def Jb (l:List Ev):J8×Int×Int:=if 1000<l.length then(Xf,0,5) else Vp Xf l
def Ui (l:List Ev):Reg:=if(Jb l).2.2=0 then Uv (Jb l).1.2.2 else Vq
def lOk (l:List Ev):Prop:=l.length≤1000000∧∀e∈l,F2 e
def J0c:Con:={args:=[.val false (.list 37 sEv)],ress:=[(true,Jif),I,I],owns:=[],pre:=fun(l,_)=>[lOk l],spec:=fun(l,_)=>(Ui l,(Jb l).2.1,(Jb l).2.2,())}
abbrev Jjs:List SC:=[.int .i64 0, .int .i64 0, .val (.slice none 0 0), .val (.slice none 0 0), .val (.slice none 0 0), .val (.slice none 0 0), .val (.slice none 0 0)]
abbrev J6j (l:List Ev):Ann:={X:=J8×Nat,σ:=fun(h,k)=>⟨7,[(5, .one (.ptr 3 0)),(14, .one (.sl 0)),(15, .one (.int .i64 l.length)),(16, .one (.int .i64 k))],[(0, .imm 37 sEv l),(1, .box 48 Jjs),(2, .sus [(2, .one (.ptr 1 0))]),(3, .box 94 [.sl 4, .sl 5, .sl 6]),(4, .own 37 sEv h.1),(5, .own 37 sEv h.2.1),(6, .own 48 Jif h.2.2)]⟩,inv:=fun(h,k)=>Yb h∧h.1.length=k∧k≤l.length∧l.length≤1000∧Vp h (l.drop k)=Jb l,mu:=fun(_,k)=>l.length-k}
def Z35 (a:J8×Nat) (b:List Ev):=Bd (Nc a.2) (Ln b)
def Z41 (a:J8×Nat):=Iw (Nc a.2+1)
def Z89 (a:List Ev):=decide (1000<Ln a)
def Ju1 (a:J8×Nat) (b:List Ev):=decide (Nc a.2<Ln b)
def Jnw (a:J8×Nat) (b:(List Ev×List Ev×List Reg)×Nat):=Nc a.2+1=Nc b.2
def Jr:=Value.slice none 0 0
def Jyz (a:J8×Nat) (b:List Ev):=Nc a.2+1=(Jb b).2.1
def Jpv (a:J8×Nat):=(a.1.1,E2 a.1.2)
def Jyt (a:J8×Nat):=Kc (Jpv a)
def J8x (a:List Ev):=0=(Jb a).2.1∧0=(Jb a).2.2
def Jyk (a:List Ev) (b:J8×Nat):=List.getD a b.2 H2
def Jyj (a:List Ev) (b:J8×Nat):=(Jyk a b).2
def Jup (a:List Ev) (b:J8×Nat):=(Jyj a b).2
def Jln (a:List Ev):=Yq=Ui a
def Kdg (a:J8×Nat):=Iw (Ln a.1.2.2-1)∧Tw (Bd (Ln a.1.2.2-1) (Ln a.1.2.2))
def Jxb (a:(List Ev×List Ev×List Reg)×Nat):=List.length a.1.1=0∧List.length a.1.2.1=0∧List.length a.1.2.2=0
def Kce (a:J8×Nat):=Gt a.1.2.2 (Ln a.1.2.2-1) Yq
def Kcc (a:J8×Nat):=(Kce a).2
def J7y (a:J8×Nat):=(Kcc a).2
def J1r (a:(List Ev×List Ev×List Reg)×Nat) (b:List Ev):=List.length a.1.1=a.2∧a.2≤List.length b∧List.length b≤1000∧Vp a.1 (List.drop a.2 b)=Jb b
def J1q (a:J8×Nat) (b:List Ev):=List.length a.1.1=a.2∧a.2≤List.length b∧List.length b≤1000∧Vp a.1 (List.drop a.2 b)=Jb b
def J7x (a:J8×Nat):=(J7y a).2
def J7u (a:J8×Nat):=(J7x a).2
def J7t (a:J8×Nat):=(J7u a).2
def Jxa (a:(List Ev×List Ev×List Reg)×Nat) (b:List Ev):=Yb a.1∧J1r a b
def Jyh (a:J8×Nat) (b:List Ev):=Yb a.1∧J1q a b
def Kbi (a:List Ev):=Jln a∧0=(Jb a).2.1∧5=(Jb a).2.2
def Kor (a:List Ev):=Sf true (Jln a∧J8x a)
def Jyf (a:(List Ev×List Ev×List Reg)×Nat) (b:List Ev) (c:J8×Nat):=Jxa a b∧List.length b-a.2<List.length b-c.2
def Jpq (a:List Ev) (b:J8×Nat):=((Jyk a b).1,(Jyj a b).1,(Jup a b).1,E2 (Jup a b).2)
def Jw8 (a:J8×Nat) (b:List Ev):=Kn (Jpv a) (Jpq b a)
def J25 (a:J8×Nat) (b:List Ev):=Uf (Jpv a) (Jpq b a)
def J24 (a:J8×Nat) (b:List Ev):=(J25 a b).2
def Kan (a:(List Ev×List Ev×List Reg)×Nat):=Si 0 (Si 0 (Sf Jr (Sf Jr (Sf Jr (Sf Jr (Sf Jr (Jxb a)))))))
def Jye (a:J8×Nat) (b:List Ev):=Jyt a∧List.length a.1.1<1000∧F2 (Jpq b a)
def Jul (a:J8×Nat) (b:List Ev):=Jw8 a b !=0
def J62 (a:J8×Nat):=((Kce a).1,(Kcc a).1,(J7y a).1,(J7x a).1,(J7u a).1,E2 (J7t a))
def Kaa (a:J8×Nat) (b:List Ev):=J62 a=Ui b
def J1k (a:J8×Nat) (b:List Ev) (c:(List Ev×List Ev×List Reg)×Nat):=(J25 a b).1=c.1.1∧(J24 a b).1=c.1.2.1∧(J24 a b).2=c.1.2.2
def J92 (a:J8×Nat) (b:List Ev) (c:(List Ev×List Ev×List Reg)×Nat):=Si 0 (Si 0 (Sf Jr (Sf Jr (Sf Jr (Sf Jr (Sf Jr (J1k a b c)))))))
theorem ok9:Ok Tryz.prog 9 J0c:=Jvw W89 Tryz.f9 (Uq (l:=([(23,Tryz.f23),(30,Tryz.f30),(31,Tryz.f31)]:List (Nat×Func))) (List.forall_mem_cons.2 ⟨by kernel_rfl,List.forall_mem_cons.2 ⟨by kernel_rfl,List.forall_mem_cons.2 ⟨by kernel_rfl,by simp⟩⟩⟩)) (fun xx=>na ()) (fun xx=>fun f id=>if f=23 then some (J6j xx.1) else none) fun xx=>by
 obtain⟨(l:List Ev),_⟩:=xx
 refine(by kernel_rfl:(lOk l→Br (Z89 l) (Br true (Sf true (Kbi l)) False) (∃(x:(List Ev×List Ev×List Reg)×Nat),Si (Ln l) (0=Nc x.2∧Sf l (Kan x))∧Jxa x l∧∀(x:J8×Nat),Jyh x l→Br (Ju1 x l) (Tw (Z35 x l)∧Jye x l∧Br (Jul x l) (Z41 x∧Br (Jul x l) (Sf true (Jln l∧Jyz x l∧Jw8 x l=(Jb l).2.2)) False) (Z41 x∧∃(y:(List Ev×List Ev×List Reg)×Nat),Si (Ln l) (Jnw x y∧Sf l (J92 x l y))∧Jyf y l x)) (Br false (Kor l) (Br (decide (0<Ln x.1.2.2)) (Kdg x∧(List.length (J7y x).1≤1000000∧List.length (J7x x).1≤1000000∧List.length (J7u x).1≤1000000∧List.length (J7t x).1≤1000000∧List.length (J7t x).2≤1000000)∧Sf true (Kaa x l∧J8x l)) (Jbm∧Kor l)))))=_).mp ?_
 delta Z35 Z41 Z89 Ju1 Jnw Jr Jyz Jpv H2 Jyt J8x Jyk Jyj Jup Fb Jbm Yq Jln Kdg Jxb Kce Kcc J7y J1r J1q J7x J7u J7t Jxa Jyh Kbi Kor Jyf Jpq Jw8 J25 J24 Kan Jye Jul J62 Kaa J1k J92 Br Iw Bd T2 Tw Sf Si Ln Nc Gt B0 E2
 intro hl
 refine⟨fun h=> ?_,fun h=> ?_⟩
 ·have e:Jb l=(Xf,0,5):=by unfold Jb;rw[if_pos (by have:=of_decide_eq_true h;omega)]
  refine⟨fun _=>⟨rfl, ?_,by rw[e],by rw[e]⟩,fun h=>by cases h⟩
  unfold Ui;rw[e];rfl
 have hn:l.length≤1000:=by have:=of_decide_eq_false h;omega
 have e0:Jb l=Vp Xf l:=by unfold Jb;rw[if_neg (by omega)]
 refine⟨(Xf,(0:Nat)),⟨rfl,rfl,rfl,rfl,rfl,rfl,rfl,rfl,rfl,rfl,rfl,rfl,rfl⟩,⟨V0,rfl,Nat.zero_le _,hn,e0.symm⟩,fun(x:J8×Nat) hx=>⟨fun h1=> ?_,fun h1=> ?_⟩⟩
 ·obtain⟨g,k⟩:=x
  obtain⟨hi,hk,hk2,_,hrun⟩:=hx
  dsimp only at hi hk hk2 hrun
  have hlt:k<l.length:=by simpa using h1
  rw[Jo (d:=ev0) hlt,Vp] at hrun
  have hz:=hl.2 _ (Je (d:=ev0) hlt)
  refine⟨⟨⟨by dsimp only;omega,by dsimp only;omega⟩,by dsimp only;omega,by dsimp only;omega⟩,⟨hi.ok,by show g.1.length<1000;omega,hz⟩,fun h2=>⟨by dsimp only;omega,fun h3=> ?_,fun h3=> ?_⟩,fun h2=>⟨by dsimp only;omega,(Zd g (l.getD k ev0),k+1), ?_,⟨?_, ?_,by dsimp only;omega,hn, ?_⟩,by dsimp only;omega⟩⟩
  ·have h2:Kn g (l.getD k ev0)≠0:=bne_iff_ne.1 h2
   rw[if_neg h2] at hrun
   rw[←hrun]
   refine⟨rfl, ?_, ?_,rfl⟩
   ·unfold Ui;rw[←hrun];dsimp only;rw[if_neg h2];rfl
   ·show((k:Nat):Int)+1=(g.1.length:Int)+1;rw[hk]
  ·have h2:Kn g (l.getD k ev0)≠0:=bne_iff_ne.1 h2
   exact absurd (bne_eq_false_iff_eq.1 h3) h2
  ·have h2:Kn g (l.getD k ev0)=0:=bne_eq_false_iff_eq.1 h2
   have eP:Uf g (l.getD k ev0)=Zd g (l.getD k ev0):=by unfold Uf;rw[if_pos h2]
   refine⟨rfl,by simp,rfl,rfl,rfl,rfl,rfl,rfl,rfl,rfl, ?_, ?_, ?_⟩
   ·show(Uf g (l.getD k ev0)).1=_;rw[eP]
   ·show(Uf g (l.getD k ev0)).2.1=_;rw[eP]
   ·show(Uf g (l.getD k ev0)).2.2=_;rw[eP]
  ·exact Fz hi (by omega) (bne_eq_false_iff_eq.1 h2)
  ·show(Zd g (l.getD k ev0)).1.length=k+1
   rw[Y4,hk]
  ·have h2:Kn g (l.getD k ev0)=0:=bne_eq_false_iff_eq.1 h2
   rw[if_pos h2] at hrun
   exact hrun
 ·obtain⟨g,k⟩:=x
  obtain⟨hi,hk,hk2,_,hrun⟩:=hx
  dsimp only at hi hk hk2 hrun
  have hlt:¬k<l.length:=by simpa using h1
  have:k=l.length:=by omega
  rw[this,List.drop_length,Vp] at hrun
  have eR:Ui l=Uv g.2.2:=by unfold Ui;rw[←hrun];rfl
  have hR:=De hi.ok
  have hGl:((g.2.2.length:Int)-1).toNat=g.2.2.length-1:=by omega
  have hb:g.2.2.length≤1000:=by have:=hi.ok.nG;have:=hi.ok.nC;have:=hi.ok.nE;omega
  refine⟨fun f=>(by cases f),fun _=>⟨fun h2=> ?_,fun h2=> ?_⟩⟩
  ·have h2:(0:Int)<g.2.2.length:=of_decide_eq_true h2
   dsimp only
   rw[hGl]
   refine⟨⟨⟨by omega,by omega⟩,⟨by omega,by omega⟩,by omega,by omega⟩,⟨Nat.le_trans hR.nS (by decide),Nat.le_trans hR.nO (by decide),Nat.le_trans hR.nM (by decide),Nat.le_trans hR.nX (by decide),Nat.le_trans hR.nQ (by decide)⟩,rfl,eR.symm, ?_, ?_⟩
   ·rw[←hrun]
   ·rw[←hrun]
  ·have e1:=Kk h2
   rw[e1] at eR
   refine⟨by decide,rfl,eR.symm, ?_, ?_⟩
   ·rw[←hrun]
   ·rw[←hrun]
abbrev W90:=W89.add ok9
def Kxv:Con:={args:=[aS, .ref 48 Jif],ress:=[I],owns:=[],pre:=fun(_,r,_)=>[Js r],spec:=fun(s,r,_)=>(bif !Ze r 0 s then 10 else 0,())}
theorem Kv7:Ok Tryz.prog 75 Kxv:=okW W90 Tryz.f75 na fun xx=>by
 obtain⟨(s:ByteArray),⟨(tk:Int),(st:Int),(S:List Sta),(O:List Ord),(M:List Met),(X:List Out),(Q:List Per)⟩,_⟩:=xx
 refine(by kernel_rfl:(Kf tk st S O M X Q→Kf tk st S O M X Q∧(bif !Ze (Z62 tk st S O M X Q) (0:Int) s then(10:Int) else(0:Int))=bif !Ze (Z62 tk st S O M X Q) (0:Int) s then(10:Int) else(0:Int))=_).mp ?_
 delta Z62 Kf
 intro hr
 exact⟨hr,rfl⟩
abbrev W91:=W90.add Kv7
def opE (l:List Ev) (ns:List ByteArray):Int:=if(Jb l).2.2=0 then Jg (ns.map fun s=>bif !Ze (Ui l) 0 s then 10 else 0) else(Jb l).2.2
def Kie:Con:={args:=[.val false (.list 37 sEv), .val false (.list 9 .str)],ress:=[(true,Jif),I],owns:=[],pre:=fun(l,ns,_)=>[lOk l,ns.length≤1000000],spec:=fun(l,ns,_)=>(Ui l,opE l ns,())}
abbrev J03 (l:List Ev) (ns:List ByteArray):Ann:={X:=J8×Nat,σ:=fun(h,k)=>⟨9,[(5, .one (.ptr 4 0)),(14, .one (.sl 0)),(15, .one (.int .i64 l.length)),(16, .one (.int .i64 k))],[(0, .imm 37 sEv l),(1, .imm 9 .str ns),(2, .box 48 Jjs),(3, .sus [(1, .one (.sl 1)),(4, .one (.ptr 2 0))]),(4, .box 94 [.sl 6, .sl 7, .sl 8]),(6, .own 37 sEv h.1),(7, .own 37 sEv h.2.1),(8, .own 48 Jif h.2.2)]⟩,inv:=fun(h,k)=>Yb h∧h.1.length=k∧k≤l.length∧l.length≤1000∧Vp h (l.drop k)=Jb l,mu:=fun(_,k)=>l.length-k}
def Koh (a:Ls):=List.map (fun(x:ByteArray)=>match !Ze Yq (0:Int) x with|true=>(10:Int)|false=>(0:Int)) a
def Kkh (a:J8×Nat) (b:Ls):=List.map (fun(x:ByteArray)=>match !Ze (J62 a) (0:Int) x with|true=>(10:Int)|false=>(0:Int)) b
theorem Kwx:Ok Tryz.prog 39 Kie:=Jvw W91 Tryz.f39 (Uq (l:=([(23,Tryz.f23),(30,Tryz.f30)]:List (Nat×Func))) (List.forall_mem_cons.2 ⟨by kernel_rfl,List.forall_mem_cons.2 ⟨by kernel_rfl,by simp⟩⟩)) (fun xx=>na ()) (fun xx=>fun f id=>if f=23 then some (J03 xx.1 xx.2.1) else none) fun xx=>by
 obtain⟨(l:List Ev),(ns:List ByteArray),_⟩:=xx
 refine(by kernel_rfl:(lOk l→Hw ns→Br (Z89 l) (Br true (Sf true (Jln l∧5=opE l ns)) False) (∃(x:(List Ev×List Ev×List Reg)×Nat),Si (Ln l) (0=Nc x.2∧Sf l (Sf ns (Kan x)))∧Jxa x l∧∀(x:J8×Nat),Jyh x l→Br (Ju1 x l) (Tw (Z35 x l)∧Jye x l∧Br (Jul x l) (Z41 x∧Br (Jul x l) (Sf true (Jln l∧Jw8 x l=opE l ns)) False) (Z41 x∧∃(y:(List Ev×List Ev×List Reg)×Nat),Si (Ln l) (Jnw x y∧Sf l (Sf ns (J92 x l y)))∧Jyf y l x)) (Br false (Sf true (Jln l∧0=opE l ns)) (Br (decide (0<Ln x.1.2.2)) (Kdg x∧(Hw ns∧(∀(x_1:ByteArray),Jcd ns x_1→Js (J62 x))∧List.length (Kkh x ns)≤1000000)∧Sf true (Kaa x l∧Jg (Kkh x ns)=opE l ns)) ((Hw ns∧(∀(x:ByteArray),Jcd ns x→Hr)∧List.length (Koh ns)≤1000000)∧Sf true (Jln l∧Jg (Koh ns)=opE l ns))))))=_).mp ?_
 delta Z35 Z41 Z89 Ju1 Hw Jnw Jr Jpv H2 Jyt Jcd Jyk Jyj Jup Fb Yq Hr Jln Kdg Jxb Kce Kcc J7y J1r J1q J7x J7u J7t Jxa Jyh Koh Jyf Jpq Jw8 J25 J24 Kan Jye Jul J62 Kaa Kkh J1k J92 Br Iw Bd Tw Sf Si Ln Nc Gt B0 E2
 intro hl hns
 refine⟨fun h=> ?_,fun h=> ?_⟩
 ·have e:Jb l=(Xf,0,5):=by unfold Jb;rw[if_pos (by have:=of_decide_eq_true h;omega)]
  refine⟨fun _=>⟨rfl, ?_, ?_⟩,fun h=>by cases h⟩
  ·unfold Ui;rw[e];rfl
  ·unfold opE;rw[e];rfl
 have hn:l.length≤1000:=by have:=of_decide_eq_false h;omega
 have e0:Jb l=Vp Xf l:=by unfold Jb;rw[if_neg (by omega)]
 refine⟨(Xf,(0:Nat)),⟨rfl,rfl,rfl,rfl,rfl,rfl,rfl,rfl,rfl,rfl,rfl,rfl,rfl,rfl⟩,⟨V0,rfl,Nat.zero_le _,hn,e0.symm⟩,fun(x:J8×Nat) hx=>⟨fun h1=> ?_,fun h1=> ?_⟩⟩
 ·obtain⟨g,k⟩:=x
  obtain⟨hi,hk,hk2,_,hrun⟩:=hx
  dsimp only at hi hk hk2 hrun
  have hlt:k<l.length:=by simpa using h1
  rw[Jo (d:=ev0) hlt,Vp] at hrun
  have hz:=hl.2 _ (Je (d:=ev0) hlt)
  refine⟨⟨⟨by dsimp only;omega,by dsimp only;omega⟩,by dsimp only;omega,by dsimp only;omega⟩,⟨hi.ok,by show g.1.length<1000;omega,hz⟩,fun h2=>⟨by dsimp only;omega,fun h3=> ?_,fun h3=> ?_⟩,fun h2=>⟨by dsimp only;omega,(Zd g (l.getD k ev0),k+1), ?_,⟨?_, ?_,by dsimp only;omega,hn, ?_⟩,by dsimp only;omega⟩⟩
  ·have h2:Kn g (l.getD k ev0)≠0:=bne_iff_ne.1 h2
   rw[if_neg h2] at hrun
   refine⟨rfl, ?_, ?_⟩
   ·unfold Ui;rw[←hrun];dsimp only;rw[if_neg h2];rfl
   ·unfold opE;rw[←hrun];dsimp only;rw[if_neg h2];rfl
  ·have h2:Kn g (l.getD k ev0)≠0:=bne_iff_ne.1 h2
   exact absurd (bne_eq_false_iff_eq.1 h3) h2
  ·have h2:Kn g (l.getD k ev0)=0:=bne_eq_false_iff_eq.1 h2
   have eP:Uf g (l.getD k ev0)=Zd g (l.getD k ev0):=by unfold Uf;rw[if_pos h2]
   refine⟨rfl,by simp,rfl,rfl,rfl,rfl,rfl,rfl,rfl,rfl,rfl, ?_, ?_, ?_⟩
   ·show(Uf g (l.getD k ev0)).1=_;rw[eP]
   ·show(Uf g (l.getD k ev0)).2.1=_;rw[eP]
   ·show(Uf g (l.getD k ev0)).2.2=_;rw[eP]
  ·exact Fz hi (by omega) (bne_eq_false_iff_eq.1 h2)
  ·show(Zd g (l.getD k ev0)).1.length=k+1
   rw[Y4,hk]
  ·have h2:Kn g (l.getD k ev0)=0:=bne_eq_false_iff_eq.1 h2
   rw[if_pos h2] at hrun
   exact hrun
 ·obtain⟨g,k⟩:=x
  obtain⟨hi,hk,hk2,_,hrun⟩:=hx
  dsimp only at hi hk hk2 hrun
  have hlt:¬k<l.length:=by simpa using h1
  have:k=l.length:=by omega
  rw[this,List.drop_length,Vp] at hrun
  have eR:Ui l=Uv g.2.2:=by unfold Ui;rw[←hrun];rfl
  have hR:=De hi.ok
  have hGl:((g.2.2.length:Int)-1).toNat=g.2.2.length-1:=by omega
  have hb:g.2.2.length≤1000:=by have:=hi.ok.nG;have:=hi.ok.nC;have:=hi.ok.nE;omega
  have eO:opE l ns=Jg (ns.map fun s=>bif !Ze (Uv g.2.2) 0 s then 10 else 0):=by unfold opE;rw[←hrun,eR];rfl
  refine⟨fun f=>(by cases f),fun _=>⟨fun h2=> ?_,fun h2=> ?_⟩⟩
  ·have h2:(0:Int)<g.2.2.length:=of_decide_eq_true h2
   dsimp only
   rw[hGl]
   exact⟨⟨⟨by omega,by omega⟩,⟨by omega,by omega⟩,by omega,by omega⟩,⟨hns,fun _ _=>hR,by rw[List.length_map];exact hns⟩,rfl,eR.symm,eO.symm⟩
  ·have e1:=Kk h2
   rw[e1] at eR eO hR
   exact⟨⟨hns,fun _ _=>hR,by rw[List.length_map];exact hns⟩,rfl,eR.symm,eO.symm⟩
abbrev W92:=W91.add Kwx
theorem Jq2:∀{l:List Ev} {h:J8},Yb h→h.1.length+l.length≤1000→Yb (Vp h l).1
 |[],_,hi,_=>hi
 | e :: l, h, hi, hl => by
  unfold Vp
  simp only[List.length_cons] at hl
  by_cases ha:Kn h e=0
  ·rw[if_pos ha]
   exact Jq2 (Fz hi (by omega) ha) (by rw[Y4];omega)
  ·rw[if_neg ha];exact hi
theorem Xz {l:List Ev}:Yb (Jb l).1:=by
 unfold Jb
 by_cases h:1000<l.length
 ·rw[if_pos h];exact V0
 ·rw[if_neg h];exact Jq2 V0 (by show 0+l.length≤1000;omega)
theorem Jkm {l:List Ev}:Js (Ui l):=by
 unfold Ui
 by_cases h:(Jb l).2.2=0
 ·rw[if_pos h];exact De Xz.ok
 ·rw[if_neg h];exact De V0.ok
def Jpn (l:List Ev) (e:Ev):Int:=Jg [(Jb l).2.2,Ja e,bif decide ((1000:Int)≤l.length) then 5 else 0]
def Jd8 (l:List Ev) (e:Ev):Int:=if Jpn l e=0 then Hf (Jb l).1 e else Jpn l e
def Jwv:Con:={args:=[.val false (.list 37 sEv),aEv],ress:=[I],owns:=[],pre:=fun(l,e,_)=>[lOk l,F2 e],spec:=fun(l,e,_)=>(Jd8 l e,())}
abbrev J02 (l:List Ev) (n:Int) (kk:ByteArray) (ns:List ByteArray) (vs:List Int) (tx:ByteArray):Ann:={X:=J8×Nat,σ:=fun(h,k)=>⟨10,[(5, .one (.ptr 5 0)),(14, .one (.sl 0)),(15, .one (.int .i64 l.length)),(16, .one (.int .i64 k))],[(0, .imm 37 sEv l),(1, .imm 9 .str ns),(2, .imm 3 sI vs),(3, .box 37 [.int .i64 n, .str kk, .sl 1, .sl 2, .str tx]),(4, .sus [(0, .one (.sl 0)),(3, .one (.ptr 3 0))]),(5, .box 94 [.sl 7, .sl 8, .sl 9]),(7, .own 37 sEv h.1),(8, .own 37 sEv h.2.1),(9, .own 48 Jif h.2.2)]⟩,inv:=fun(h,k)=>Yb h∧h.1.length=k∧k≤l.length∧l.length≤1000∧Vp h (l.drop k)=Jb l,mu:=fun(_,k)=>l.length-k}
def J3k (a:Int) (b:Bt) (c:Ls) (d:Li) (e:Bt) (f:List Ev):=[Z63 a b c d e,bif decide (1000≤Ln f) then 5 else 0]
def Ka7 (a:Ls) (b:Li):=Hw a∧Z55 b∧Jau a∧3≤1000000
def Kme (a:J8×Nat) (b:List Ev) (c:Int) (d:Bt) (e:Ls) (f:Li) (g:Bt):=Jg (Jw8 a b::J3k c d e f g b)
theorem ok7:Ok Tryz.prog 7 Jwv:=Jvw W92 Tryz.f7 (Uq (l:=([(23,Tryz.f23)]:List (Nat×Func))) (List.forall_mem_cons.2 ⟨by kernel_rfl,by simp⟩)) (fun xx=>na ()) (fun xx=>fun f id=>if f=23 then some (J02 xx.1 xx.2.1.1 xx.2.1.2.1 xx.2.1.2.2.1 xx.2.1.2.2.2.1 xx.2.1.2.2.2.2) else none) fun xx=>by
 obtain⟨(l:List Ev),⟨(n:Int),(k:ByteArray),(ns:List ByteArray),(vs:List Int),(tx:ByteArray)⟩,_⟩:=xx
 refine(by kernel_rfl:(lOk l→F2 (n,k,ns,vs,tx)→Br (Z89 l) (Ka7 ns vs∧Br (Jg (5::J3k n k ns vs tx l) !=0) (Sf true (Jg (5::J3k n k ns vs tx l)=Jd8 l (n,k,ns,vs,tx))) False) (∃(x:(List Ev×List Ev×List Reg)×Nat),Si (Ln l) (0=Nc x.2∧Sf l (Sf ns (Sf vs (Si n (Sf k (Sf tx (Jxb x)))))))∧Jxa x l∧∀(x:J8×Nat),Jyh x l→Br (Ju1 x l) (Tw (Z35 x l)∧Jye x l∧Br (Jul x l) (Z41 x∧Ka7 ns vs∧Br (Kme x l n k ns vs tx !=0) (Sf true (Kme x l n k ns vs tx=Jd8 l (n,k,ns,vs,tx))) False) (Z41 x∧∃(y:(List Ev×List Ev×List Reg)×Nat),Si (Ln l) (Jnw x y∧Sf l (Sf ns (Sf vs (Si n (Sf k (Sf tx (J1k x l y)))))))∧Jyf y l x)) (Ka7 ns vs∧Br (Jg (0::J3k n k ns vs tx l) !=0) (Sf true (Jg (0::J3k n k ns vs tx l)=Jd8 l (n,k,ns,vs,tx))) ((Jyt x∧Z63 n k ns vs tx=0)∧Sf true (Hf (Jpv x) (n,k,ns,vs,tx)=Jd8 l (n,k,ns,vs,tx))))))=_).mp ?_
 delta Z35 Z41 Z55 Z63 Z89 Ju1 Hw Jnw Jpv H2 Jyt Jcd Jyk Jyj Jup J3k Jxb Jau J1r J1q Jxa Jyh Ka7 Jyf Jpq Jw8 J25 J24 Jye Jul Kme J1k Br Iw Bd Tw Sf Si Ln Nc B0 E2
 intro hl hz0
 refine⟨fun h=> ?_,fun h=> ?_⟩
 ·have e:Jb l=(Xf,0,5):=by unfold Jb;rw[if_pos (by have:=of_decide_eq_true h;omega)]
  have e5:Jpn l (n,k,ns,vs,tx)=5:=by unfold Jpn;rw[e];rfl
  refine⟨⟨hz0.1,hz0.2.1,hz0.2.2,by decide⟩,fun _=>⟨rfl, ?_⟩,fun h=> ?_⟩
  ·unfold Jd8;rw[e5];rfl
  ·have:Jpn l (n,k,ns,vs,tx)=0:=by unfold Jpn;rw[e];exact bne_eq_false_iff_eq.1 h
   rw[e5] at this;cases this
 have hn:l.length≤1000:=by have:=of_decide_eq_false h;omega
 have e0:Jb l=Vp Xf l:=by unfold Jb;rw[if_neg (by omega)]
 refine⟨(Xf,(0:Nat)),⟨rfl,rfl,rfl,rfl,rfl,rfl,rfl,rfl,rfl,rfl,rfl⟩,⟨V0,rfl,Nat.zero_le _,hn,e0.symm⟩,fun(x:J8×Nat) hx=>⟨fun h1=> ?_,fun h1=> ?_⟩⟩
 ·obtain⟨g,m⟩:=x
  obtain⟨hi,hk,hk2,_,hrun⟩:=hx
  dsimp only at hi hk hk2 hrun
  have hlt:m<l.length:=by simpa using h1
  rw[Jo (d:=ev0) hlt,Vp] at hrun
  have hz:=hl.2 _ (Je (d:=ev0) hlt)
  refine⟨⟨⟨by dsimp only;omega,by dsimp only;omega⟩,by dsimp only;omega,by dsimp only;omega⟩,⟨hi.ok,by show g.1.length<1000;omega,hz⟩,fun h2=>⟨by dsimp only;omega,⟨hz0.1,hz0.2.1,hz0.2.2,by decide⟩,fun h3=> ?_,fun h3=> ?_⟩,fun h2=>⟨by dsimp only;omega,(Zd g (l.getD m ev0),m+1), ?_,⟨?_, ?_,by dsimp only;omega,hn, ?_⟩,by dsimp only;omega⟩⟩
  ·have h2:Kn g (l.getD m ev0)≠0:=bne_iff_ne.1 h2
   rw[if_neg h2] at hrun
   have e6:Jpn l (n,k,ns,vs,tx)=Kn g (l.getD m ev0):=by unfold Jpn;rw[←hrun];unfold Jg;rw[if_neg h2]
   refine⟨rfl, ?_⟩
   unfold Jd8
   rw[if_neg (by rw[e6];exact h2),e6]
   unfold Jg
   exact if_neg h2
  ·have h2:Kn g (l.getD m ev0)≠0:=bne_iff_ne.1 h2
   have h3:=bne_eq_false_iff_eq.1 h3
   unfold Jg at h3
   exact h2 ((if_neg h2).symm.trans h3)
  ·have h2:Kn g (l.getD m ev0)=0:=bne_eq_false_iff_eq.1 h2
   have eP:Uf g (l.getD m ev0)=Zd g (l.getD m ev0):=by unfold Uf;rw[if_pos h2]
   refine⟨rfl,by simp,rfl,rfl,rfl,rfl,rfl,rfl, ?_, ?_, ?_⟩
   ·show(Uf g (l.getD m ev0)).1=_;rw[eP]
   ·show(Uf g (l.getD m ev0)).2.1=_;rw[eP]
   ·show(Uf g (l.getD m ev0)).2.2=_;rw[eP]
  ·exact Fz hi (by omega) (bne_eq_false_iff_eq.1 h2)
  ·show(Zd g (l.getD m ev0)).1.length=m+1
   rw[Y4,hk]
  ·have h2:Kn g (l.getD m ev0)=0:=bne_eq_false_iff_eq.1 h2
   rw[if_pos h2] at hrun
   exact hrun
 ·obtain⟨g,m⟩:=x
  obtain⟨hi,hk,hk2,_,hrun⟩:=hx
  dsimp only at hi hk hk2 hrun
  have hlt:¬m<l.length:=by simpa using h1
  have:m=l.length:=by omega
  rw[this,List.drop_length,Vp] at hrun
  have e6:Jpn l (n,k,ns,vs,tx)=Jg [0,Ja (n,k,ns,vs,tx),bif decide ((1000:Int)≤l.length) then 5 else 0]:=by unfold Jpn;rw[←hrun]
  refine⟨⟨hz0.1,hz0.2.1,hz0.2.2,by decide⟩,fun h2=>⟨rfl, ?_⟩,fun h2=> ?_⟩
  ·have h2:=bne_iff_ne.1 h2
   rw[←e6] at h2
   unfold Jd8;rw[if_neg h2,e6]
  ·have h2:=bne_eq_false_iff_eq.1 h2
   have h3:=(D5 h2).2.1
   rw[←e6] at h2
   refine⟨⟨hi.ok,h3⟩,rfl, ?_⟩
   unfold Jd8;rw[if_pos h2,←hrun]
abbrev W93:=W92.add ok7
def Jd2:List Reg→Int→Reg→Reg
 |[],_,o=>o
 |r::l,t,o=>Jd2 l t (bif decide (r.1≤t) then r else o)
def Yo (l:List Ev) (t:Int):Int:=Jg [(Jb l).2.2,Jp t 0 999999999]
def Yl (l:List Ev) (t:Int):Reg:=if Yo l t=0 then Jd2 (Jb l).1.2.2 t Vq else Vq
def Kiy:Con:={args:=[.val false (.list 37 sEv),aI],ress:=[(true,Jif),I],owns:=[],pre:=fun(l,_)=>[lOk l],spec:=fun(l,t,_)=>(Yl l t,Yo l t,())}
abbrev J01 (l:List Ev) (t:Int):Ann:={X:=J8×Nat,σ:=fun(h,k)=>⟨7,[(5, .one (.ptr 3 0)),(14, .one (.sl 0)),(15, .one (.int .i64 l.length)),(16, .one (.int .i64 k))],[(0, .imm 37 sEv l),(1, .box 48 Jjs),(2, .sus [(1, .one (.int .i64 t)),(4, .one (.ptr 1 0))]),(3, .box 94 [.sl 4, .sl 5, .sl 6]),(4, .own 37 sEv h.1),(5, .own 37 sEv h.2.1),(6, .own 48 Jif h.2.2)]⟩,inv:=fun(h,k)=>Yb h∧h.1.length=k∧k≤l.length∧l.length≤1000∧Vp h (l.drop k)=Jb l,mu:=fun(_,k)=>l.length-k}
abbrev J1f (l:List Ev) (t:Int):Ann:={X:=J8×Nat×Reg,σ:=fun(h,k,r)=>⟨9,[(1, .one (.int .i64 t)),(4, .one (.ptr 0 0)),(10, .one (.ptr 1 0)),(31, .one (.sl 2)),(32, .one (.int .i64 h.2.2.length)),(33, .one (.int .i64 k))],[(0, .box 48 Jjs),(1, .box 48 [.int .i64 r.1, .int .i64 r.2.1, .sl 3, .sl 4, .sl 5, .sl 6, .sl 7]),(2, .own 48 Jif h.2.2),(3, .imm 109 Xc r.2.2.1),(4, .imm 110 Yn r.2.2.2.1),(5, .imm 111 Xx r.2.2.2.2.1),(6, .imm 112 Xi r.2.2.2.2.2.1),(7, .imm 113 Yv r.2.2.2.2.2.2)]⟩,inv:=fun(h,k,r)=>Yb h∧Jb l=(h,0,0)∧Yo l t=0∧k≤h.2.2.length∧Js r∧Jd2 (h.2.2.drop k) t r=Jd2 h.2.2 t Vq,mu:=fun(h,k,_)=>h.2.2.length-k,rel:=some fun x y=>x.1=y.1}
def Ke0 (a:Int):=[Z76 a]
def Ks2 (a:Int):=Jg (5::Ke0 a)
def Ks1 (a:Int):=Jg (0::Ke0 a)
def Kdd (a:List Ev) (b:Int):=Yq=Yl a b
def Krl (a:J8×Nat×Reg):=List.getD a.1.2.2 a.2.1 Yq
def Kri (a:J8×Nat×Reg):=(Krl a).1
def Kre (a:J8×Nat×Reg):=(Krl a).2
def Kq9 (a:J8×Nat×Reg):=(Kre a).2
def Kq3 (a:J8×Nat×Reg):=(Kq9 a).2
def Kqz (a:J8×Nat×Reg):=(Kq3 a).2
def Kqw (a:J8×Nat×Reg):=(Kqz a).2
def Kn0 (a:(List Ev×List Ev×List Reg)×Nat×Reg) (b:List Ev) (c:Int):=Yb a.1∧Jb b=(a.1,0,0)∧Yo b c=0∧a.2.1≤List.length a.1.2.2∧Js a.2.2∧Jd2 (List.drop a.2.1 a.1.2.2) c a.2.2=Jd2 a.1.2.2 c Vq
def Kno (a:(List Ev×List Ev×List Reg)×Nat×Reg) (b:List Ev) (c:Int) (d:(List Ev×List Ev×List Reg)×Nat×Reg) (e:J8×Nat×Reg):=(Kn0 a b c∧d.1=a.1)∧List.length a.1.2.2-a.2.1<List.length e.1.2.2-e.2.1
def Kmv (a:J8×Nat) (b:List Ev) (c:Int):=Jg (Jw8 a b::Ke0 c)
theorem Kxk:Ok Tryz.prog 10 Kiy:=Jvw W93 Tryz.f10 (Uq (l:=([(23,Tryz.f23),(31,Tryz.f31)]:List (Nat×Func))) (List.forall_mem_cons.2 ⟨by kernel_rfl,List.forall_mem_cons.2 ⟨by kernel_rfl,by simp⟩⟩)) (fun xx=>Ho (J1f xx.1 xx.2.1)) (fun xx=>fun f id=>if f=23 then some (J01 xx.1 xx.2.1) else none) fun xx=>by
 obtain⟨(l:List Ev),(t:Int),_⟩:=xx
 refine(by kernel_rfl:(lOk l→Br (Z89 l) (2≤1000000∧Br (Ks2 t !=0) (Sf true (Kdd l t∧Ks2 t=Yo l t)) False) (∃(x:(List Ev×List Ev×List Reg)×Nat),Si (Ln l) (0=Nc x.2∧Sf l (Si 0 (Si 0 (Sf Jr (Sf Jr (Sf Jr (Sf Jr (Sf Jr (Si t (Jxb x))))))))))∧Jxa x l∧∀(x:J8×Nat),Jyh x l→Br (Ju1 x l) (Tw (Z35 x l)∧Jye x l∧Br (Jul x l) (Z41 x∧2≤1000000∧Br (Kmv x l t !=0) (Sf true (Kdd l t∧Kmv x l t=Yo l t)) False) (Z41 x∧∃(y:(List Ev×List Ev×List Reg)×Nat),Si (Ln l) (Jnw x y∧Sf l (Si 0 (Si 0 (Sf Jr (Sf Jr (Sf Jr (Sf Jr (Sf Jr (Si t (J1k x l y))))))))))∧Jyf y l x)) (2≤1000000∧Br (Ks1 t !=0) (Sf true (Kdd l t∧Ks1 t=Yo l t)) (∃(x0:(List Ev×List Ev×List Reg)×Nat×Reg),Si t (Ln x.1.2.2=Ln x0.1.2.2∧0=Nc x0.2.1∧Si 0 (Si 0 (Sf Jr (Sf Jr (Sf Jr (Sf Jr (Sf Jr (0=x0.2.2.1∧0=x0.2.2.2.1∧x.1.2.2=x0.1.2.2∧List.length x0.2.2.2.2.1=0∧List.length x0.2.2.2.2.2.1=0∧List.length x0.2.2.2.2.2.2.1=0∧List.length x0.2.2.2.2.2.2.2.1=0∧List.length x0.2.2.2.2.2.2.2.2=0))))))))∧(Kn0 x0 l t∧x0.1=x0.1)∧∀(x:J8×Nat×Reg),(Yb x.1∧Jb l=(x.1,0,0)∧Yo l t=0∧x.2.1≤List.length x.1.2.2∧Js x.2.2∧Jd2 (List.drop x.2.1 x.1.2.2) t x.2.2=Jd2 x.1.2.2 t Vq)∧x0.1=x.1→Br (decide (Nc x.2.1<Ln x.1.2.2)) (Tw (Bd (Nc x.2.1) (Ln x.1.2.2))∧Br (decide (Kri x≤t)) (Iw (Nc x.2.1+1)∧∃(y:(List Ev×List Ev×List Reg)×Nat×Reg),Si t (Ln x.1.2.2=Ln y.1.2.2∧Nc x.2.1+1=Nc y.2.1∧Si 0 (Si 0 (Sf Jr (Sf Jr (Sf Jr (Sf Jr (Sf Jr (Kri x=y.2.2.1∧(Kre x).1=y.2.2.2.1∧x.1.2.2=y.1.2.2∧(Kq9 x).1=y.2.2.2.2.1∧(Kq3 x).1=y.2.2.2.2.2.1∧(Kqz x).1=y.2.2.2.2.2.2.1∧(Kqw x).1=y.2.2.2.2.2.2.2.1∧(Kqw x).2=y.2.2.2.2.2.2.2.2))))))))∧Kno y l t x0 x) (Iw (Nc x.2.1+1)∧∃(y:(List Ev×List Ev×List Reg)×Nat×Reg),Si t (Ln x.1.2.2=Ln y.1.2.2∧Nc x.2.1+1=Nc y.2.1∧Si 0 (Si 0 (Sf Jr (Sf Jr (Sf Jr (Sf Jr (Sf Jr (x.2.2.1=y.2.2.1∧x.2.2.2.1=y.2.2.2.1∧x.1.2.2=y.1.2.2∧x.2.2.2.2.1=y.2.2.2.2.1∧x.2.2.2.2.2.1=y.2.2.2.2.2.1∧x.2.2.2.2.2.2.1=y.2.2.2.2.2.2.1∧x.2.2.2.2.2.2.2.1=y.2.2.2.2.2.2.2.1∧x.2.2.2.2.2.2.2.2=y.2.2.2.2.2.2.2.2))))))))∧Kno y l t x0 x)) ((List.length x.2.2.2.2.1≤1000000∧List.length x.2.2.2.2.2.1≤1000000∧List.length x.2.2.2.2.2.2.1≤1000000∧List.length x.2.2.2.2.2.2.2.1≤1000000∧List.length x.2.2.2.2.2.2.2.2≤1000000)∧Sf true ((x.2.2.1,x.2.2.2.1,x.2.2.2.2.1,x.2.2.2.2.2.1,x.2.2.2.2.2.2.1,E2 x.2.2.2.2.2.2.2)=Yl l t∧0=Yo l t))))))=_).mp ?_
 delta Z35 Z41 Z76 Z89 Ju1 Jnw Jr Ke0 Jpv H2 Jyt Ks2 Ks1 Jyk Jyj Jup Fb Yq Kdd Jxb Krl Kri Kre Kq9 Kq3 Kqz Kqw J1r J1q Jxa Jyh Jyf Kn0 Kno Jpq Jw8 J25 J24 Jye Kmv Jul J1k Br Iw Bd Tw Sf Si Ln Nc B0 E2
 intro hl
 refine⟨fun h=> ?_,fun h=> ?_⟩
 ·have e:Jb l=(Xf,0,5):=by unfold Jb;rw[if_pos (by have:=of_decide_eq_true h;omega)]
  have e5:Yo l t=5:=by unfold Yo;rw[e];rfl
  refine⟨by decide,fun _=>⟨rfl, ?_, ?_⟩,fun h=> ?_⟩
  ·unfold Yl;rw[if_neg (by rw[e5];decide)];rfl
  ·unfold Yo;rw[e]
  ·have:Yo l t=0:=by unfold Yo;rw[e];exact bne_eq_false_iff_eq.1 h
   rw[e5] at this;cases this
 have hn:l.length≤1000:=by have:=of_decide_eq_false h;omega
 have e0:Jb l=Vp Xf l:=by unfold Jb;rw[if_neg (by omega)]
 refine⟨(Xf,(0:Nat)),by(repeat' first|exact rfl|apply And.intro|exact(Int.add_zero _).symm|omega|dsimp only;omega),⟨V0,rfl,Nat.zero_le _,hn,e0.symm⟩,fun(x:J8×Nat) hx=>⟨fun h1=> ?_,fun h1=> ?_⟩⟩
 ·obtain⟨g,m⟩:=x
  obtain⟨hi,hk,hk2,_,hrun⟩:=hx
  dsimp only at hi hk hk2 hrun
  have hlt:m<l.length:=by simpa using h1
  rw[Jo (d:=ev0) hlt,Vp] at hrun
  have hz:=hl.2 _ (Je (d:=ev0) hlt)
  refine⟨⟨⟨by dsimp only;omega,by dsimp only;omega⟩,by dsimp only;omega,by dsimp only;omega⟩,⟨hi.ok,by show g.1.length<1000;omega,hz⟩,fun h2=>⟨by dsimp only;omega,by decide,fun h3=> ?_,fun h3=> ?_⟩,fun h2=>⟨by dsimp only;omega,(Zd g (l.getD m ev0),m+1), ?_,⟨?_, ?_,by dsimp only;omega,hn, ?_⟩,by dsimp only;omega⟩⟩
  ·have h2:Kn g (l.getD m ev0)≠0:=bne_iff_ne.1 h2
   rw[if_neg h2] at hrun
   have e6:Yo l t=Kn g (l.getD m ev0):=by unfold Yo;rw[←hrun];unfold Jg;rw[if_neg h2]
   refine⟨rfl, ?_, ?_⟩
   ·unfold Yl;rw[if_neg (by rw[e6];exact h2)];rfl
   ·rw[e6];unfold Jg;exact if_neg h2
  ·have h2:Kn g (l.getD m ev0)≠0:=bne_iff_ne.1 h2
   have h3:=bne_eq_false_iff_eq.1 h3
   unfold Jg at h3
   exact h2 ((if_neg h2).symm.trans h3)
  ·have h2:Kn g (l.getD m ev0)=0:=bne_eq_false_iff_eq.1 h2
   have eP:Uf g (l.getD m ev0)=Zd g (l.getD m ev0):=by unfold Uf;rw[if_pos h2]
   refine⟨rfl,by simp,rfl,rfl,rfl,rfl,rfl,rfl,rfl,rfl,rfl, ?_, ?_, ?_⟩
   ·show(Uf g (l.getD m ev0)).1=_;rw[eP]
   ·show(Uf g (l.getD m ev0)).2.1=_;rw[eP]
   ·show(Uf g (l.getD m ev0)).2.2=_;rw[eP]
  ·exact Fz hi (by omega) (bne_eq_false_iff_eq.1 h2)
  ·show(Zd g (l.getD m ev0)).1.length=m+1
   rw[Y4,hk]
  ·have h2:Kn g (l.getD m ev0)=0:=bne_eq_false_iff_eq.1 h2
   rw[if_pos h2] at hrun
   exact hrun
 ·obtain⟨g,m⟩:=x
  obtain⟨hi,hk,hk2,_,hrun⟩:=hx
  dsimp only at hi hk hk2 hrun
  have hlt:¬m<l.length:=by simpa using h1
  have:m=l.length:=by omega
  rw[this,List.drop_length,Vp] at hrun
  have e6:Yo l t=Jg [0,Jp t 0 999999999]:=by unfold Yo;rw[←hrun]
  refine⟨by decide,fun h2=>⟨rfl, ?_,e6.symm⟩,fun h2=> ?_⟩
  ·have h2:=bne_iff_ne.1 h2
   rw[←e6] at h2
   unfold Yl;rw[if_neg h2];rfl
  have h2:=bne_eq_false_iff_eq.1 h2
  rw[←e6] at h2
  have hb:g.2.2.length≤1000:=by have:=hi.ok.nG;have:=hi.ok.nC;have:=hi.ok.nE;omega
  refine⟨(g,(0:Nat),Vq),by(repeat' first|exact rfl|apply And.intro|exact(Int.add_zero _).symm|omega|dsimp only;omega),⟨⟨hi,hrun.symm,h2,Nat.zero_le _,De V0.ok,rfl⟩,rfl⟩,fun(y:J8×Nat×Reg) hy=>⟨fun h3=> ?_,fun h3=> ?_⟩⟩
  ·obtain⟨g',m',r⟩:=y
   obtain⟨⟨hi',hr',_,hm',hR',ha'⟩,hgg⟩:=hy
   have hgg:g=g':=hgg
   subst hgg
   dsimp only at hm' hR' ha'
   have hlt':m'<g.2.2.length:=by simpa using h3
   rw[Jo (d:=Vq) hlt',Jd2] at ha'
   refine⟨⟨⟨by dsimp only;omega,by dsimp only;omega⟩,by dsimp only;omega,by dsimp only;omega⟩,fun h4=>⟨by dsimp only;omega,(g,m'+1,g.2.2.getD m' Vq),by(repeat' first|exact rfl|apply And.intro|exact(Int.add_zero _).symm|omega|dsimp only;omega),⟨⟨hi,hr',h2,by dsimp only;omega,hi.ok.reg _ (Je hlt'), ?_⟩,rfl⟩,by dsimp only;omega⟩,fun h4=>⟨by dsimp only;omega,(g,m'+1,r),by(repeat' first|exact rfl|apply And.intro|exact(Int.add_zero _).symm|omega|dsimp only;omega),⟨⟨hi,hr',h2,by dsimp only;omega,hR', ?_⟩,rfl⟩,by dsimp only;omega⟩⟩
   ·have h4:decide ((g.2.2.getD m' Vq).1≤t)=true:=h4
    rw[h4] at ha'
    exact ha'
   ·have h4:decide ((g.2.2.getD m' Vq).1≤t)=false:=h4
    rw[h4] at ha'
    exact ha'
  ·obtain⟨g',m',r⟩:=y
   obtain⟨⟨hi',hr',_,hm',hR',ha'⟩,hgg⟩:=hy
   have hgg:g=g':=hgg
   subst hgg
   dsimp only at hm' hR' ha'
   have hlt':¬m'<g.2.2.length:=by simpa using h3
   have:m'=g.2.2.length:=by omega
   rw[this,List.drop_length,Jd2] at ha'
   refine⟨⟨Nat.le_trans hR'.nS (by decide),Nat.le_trans hR'.nO (by decide),Nat.le_trans hR'.nM (by decide),Nat.le_trans hR'.nX (by decide),Nat.le_trans hR'.nQ (by decide)⟩,rfl, ?_,h2.symm⟩
   unfold Yl
   rw[if_pos h2,←hrun]
   exact ha'
abbrev W94:=W93.add Kxk
end Go.Proofs.YthlgkojihnccaaaGreatDoor

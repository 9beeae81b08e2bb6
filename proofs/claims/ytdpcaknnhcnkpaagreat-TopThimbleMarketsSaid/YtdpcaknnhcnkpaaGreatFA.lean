/- Contracts of the functions that the law reaches: part of the proof. -/
import Derived.Test.YtdpcaknnhcnkpaaGreatProg
import Derived.Test.YtdpcaknnhcnkpaaGreatSxC
import Derived.Test.YtdpcaknnhcnkpaaGreatLayA
import Derived.KernelRfl
import Derived.Laws.RangeAny
import Derived.Lib.Strings
set_option linter.unusedSimpArgs false
set_option linter.unusedVariables false
set_option maxRecDepth 20000
namespace Go.Proofs.YtdpcaknnhcnkpaaGreat
open Go.Sx
set_option maxHeartbeats 20000000
abbrev I:Bool×Sch:=(false, .int .i64)
abbrev Bo:Bool×Sch:=(false, .bool)
abbrev aI:AK:= .val false (.int .i64)
abbrev aB:AK:= .val false .bool
abbrev aS:AK:= .val false .str
abbrev tS:Bool×Sch:=(false, .str)
abbrev sI:Sch:= .int .i64
abbrev W0 [Sx.Dr]:GW Tryz.prog:=⟨[], .nil _⟩
theorem mixed:Tryz.prog.follows .mixedOrders=true:=by kernel_rfl
theorem okW [Sx.Dr] {f:FuncId} {c:Con} (W:GW Tryz.prog) (fn:Func) (ann:ATup c.args→Nat→Option Ann) (h:∀x:ATup c.args,wpF Tryz.prog W.g (ann x) fn c x) (h1:Tryz.prog.funcs[f]? =some fn:=by kernel_rfl) (h2:Dq fn c=true:=by kernel_rfl):Ok Tryz.prog f c:=Ke mixed W.ok h1 h2 ann h
theorem Jvl [Sx.Dr] {f:FuncId} {c:Con} {lib:FuncId→Option Func} (W:GW Tryz.prog) (fn:Func) (hl:∀f fn,lib f=some fn→Tryz.prog.funcs[f]? =some fn) (ann:ATup c.args→Nat→Option Ann) (annF:ATup c.args→FuncId→Nat→Option Ann) (h:∀x:ATup c.args,wpFG Tryz.prog W.g (ann x) (annF x) lib fn c x) (h1:Tryz.prog.funcs[f]? =some fn:=by kernel_rfl) (h2:Dq fn c=true:=by kernel_rfl):Ok Tryz.prog f c:=Jgz mixed W.ok h1 h2 hl ann annF h
abbrev na {α:Type}:α→Nat→Option Ann:=fun _ _=>none
abbrev Dl (A:Ann):Nat→Option Ann:=fun k=>if k=0 then some A else none
def J0e:Con:={args:=[aB,aI],ress:=[I],owns:=[],pre:=fun _=>[],spec:=fun(b,e,_)=>(bif b then e else 0,())}
def J6j (a:Bool) (b:Int):=Br a (b=bif a then b else 0) (0=bif a then b else 0)
theorem Kln [Sx.Dr]:Ok Tryz.prog 42 J0e:=okW W0 Tryz.f42 na fun xx=>by
 obtain⟨(b:Bool),(e:Int),_⟩:=xx
 refine(by kernel_rfl:(J6j b e)=_).mp ?_
 delta J6j Br
 cases b<;>simp
abbrev W1 [Sx.Dr]:=W0.add Kln
def Jd (n lo hi:Int):Int:=bif decide (n<lo)||decide (hi<n) then 3 else 0
def Jp1:Con:={args:=[aI,aI,aI],ress:=[I],owns:=[],pre:=fun _=>[],spec:=fun(n,lo,hi,_)=>(Jd n lo hi,())}
def J5r (a b c:Int):=(bif bif decide (a<b) then true else decide (c<a) then 3 else 0)=Jd a b c
theorem Kk6 [Sx.Dr]:Ok Tryz.prog 65 Jp1:=okW W1 Tryz.f65 na fun xx=>by
 obtain⟨(n:Int),(lo:Int),(hi:Int),_⟩:=xx
 refine(by kernel_rfl:(J5r n lo hi)=_).mp ?_
 delta J5r
 unfold Jd;cases decide (n<lo)<;>rfl
abbrev W2 [Sx.Dr]:=W1.add Kk6
def J9r:Con:={args:=[aI],ress:=[I],owns:=[],pre:=fun _=>[],spec:=fun(n,_)=>(Jd n 0 999999999,())}
def Z64 (a:Int):=Jd a 0 999999999
def J6t (a:Int):=Z64 a=Z64 a
theorem Klq [Sx.Dr]:Ok Tryz.prog 39 J9r:=okW W2 Tryz.f39 na fun xx=>by
 obtain⟨(n:Int),_⟩:=xx
 refine(by kernel_rfl:(J6t n)=_).mp ?_
 delta Z64 J6t
 rfl
abbrev W3 [Sx.Dr]:=W2.add Klq
def Ja:List Int→Int
 |[]=>0
 |x::l=>if x=0 then Ja l else x
theorem Jb6 {l:List Int} {k:Nat} (h:k<l.length):Ja (l.drop k)=if l.getD k 0=0 then Ja (l.drop (k+1)) else l.getD k 0:=by
 rw[List.drop_eq_getElem_cons h]
 simp[Ja,List.getD_eq_getElem?_getD,h]
def Jun:Con:={args:=[.val false (.list 35 sI)],ress:=[I],owns:=[],pre:=fun(l,_)=>[l.length≤1000000],spec:=fun(l,_)=>(Ja l,())}
abbrev Jla (l:List Int):Ann:={X:=Nat,σ:=fun k=>⟨1,[(5, .one (.sl 0)),(6, .one (.int .i64 l.length)),(7, .one (.int .i64 k))],[(0, .imm 35 sI l)]⟩,inv:=fun k=>k≤l.length∧Ja l=Ja (l.drop k),mu:=fun k=>l.length-k}
def Z20 (a:Nat):=Iw (Nc a+1)
def Z43 (a:Li):=List.length a≤1000000
def Z83 (a b:Nat):=Nc a+1=Nc b
def J2l (a:Nat) (b:Li):=a≤List.length b∧Ja b=Ja (List.drop a b)
def J31 (a:Li):=Z43 a→∃(x:Nat),Si (Ln a) (0=Nc x∧a=a)∧J2l x a∧∀(x:Nat),J2l x a→Br (decide (Nc x<Ln a)) (Tw (Bd (Nc x) (Ln a))∧Br (List.getD a x (0:Int) !=0) (List.getD a x 0=Ja a) (Z20 x∧∃(y:Nat),Si (Ln a) (Z83 x y∧a=a)∧J2l y a∧List.length a-y<List.length a-x)) (0=Ja a)
theorem Klr [Sx.Dr]:Ok Tryz.prog 38 Jun:=okW W3 Tryz.f38 (fun xx=>Dl (Jla xx.1)) fun xx=>by
 obtain⟨(l:List Int),_⟩:=xx
 refine(by kernel_rfl:(J31 l)=_).mp ?_
 delta Z20 Z43 Z83 J2l J31 Br Iw Bd Tw Si Ln Nc
 intro hb
 refine⟨(0:Nat),⟨rfl,rfl,rfl⟩,⟨Nat.zero_le _,rfl⟩,fun(k:Nat) hk=>⟨fun h=> ?_,fun h=> ?_⟩⟩
 ·have hlt:k<l.length:=by simpa using h
  have hd:=Jb6 hlt
  refine⟨by omega,fun h1=> ?_,fun h1=>⟨by omega,(k+1:Nat),⟨rfl,by simp,rfl⟩,⟨by omega, ?_⟩,by omega⟩⟩
  ·have h2:¬l.getD k 0=0:=by simpa using h1
   rw[hk.2,hd,if_neg h2]
  ·have h2:l.getD k 0=0:=by simpa using h1
   rw[hk.2,hd,if_pos h2]
 ·have hlt:¬k<l.length:=by simpa using h
  have:k=l.length:=by omega
  rw[hk.2,this,List.drop_length];rfl
abbrev W4 [Sx.Dr]:=W3.add Klr
def okB (f:Bool) (c:Int):Bool:=bif (bif decide ((65:Int)≤c) then decide (c≤90) else false) then true else bif (bif decide ((97:Int)≤c) then decide (c≤122) else false) then true else bif f then false else bif decide (c<48) then c==95 else bif decide (57<c) then c==95 else true
def okL (f:Bool):List UInt8→Bool
 |[]=>true
 |b::r=>okB f (b.toNat:Int)&&okL false r
def Xn (s:ByteArray):Bool:=okL true s.data.toList&&(decide (0<s.size)&&decide ((s.size:Int)≤24))
theorem Joi (f:Bool) (c:Int):(bif !bif (bif decide ((65:Int)≤c) then decide (c≤90) else false) then true else bif decide ((97:Int)≤c) then decide (c≤122) else false then bif f then true else bif (bif decide (c<48) then true else decide (57<c)) then c !=95 else false else false)= !okB f c:=by
 unfold okB bne
 cases decide ((65:Int)≤c)<;>cases decide (c≤90)<;>cases decide ((97:Int)≤c)<;>cases decide (c≤122)<;>cases f<;>cases decide (c<48)<;>cases decide (57<c)<;>cases c==95<;>rfl
theorem Jka {f:Bool} {c:Int} (h:128≤c):okB f c=false:=by
 unfold okB
 have h1:decide (c≤90)=false:=decide_eq_false (by omega)
 have h2:decide (c≤122)=false:=decide_eq_false (by omega)
 have h3:decide (c<48)=false:=decide_eq_false (by omega)
 have h4:decide ((57:Int)<c)=true:=decide_eq_true (by omega)
 have h5:(c==95)=false:=beq_eq_false_iff_ne.2 (by omega)
 rw[h1,h2,h3,h4,h5]
 cases decide ((65:Int)≤c)<;>cases decide ((97:Int)≤c)<;>cases f<;>rfl
theorem Jjy {s:ByteArray} {k:Nat} (h:k<s.size) (ha:(s[k]'h).toNat<128):Vj s k=((s[k]'h).toNat:Int)∧Jeq s k=1:=by
 unfold Vj Jeq
 rw[decode_ascii s k h ha]
 exact⟨rfl,rfl⟩
theorem Jnu {s:ByteArray} {k:Nat} (h:k<s.size) (ha:128≤(s[k]'h).toNat):128≤Vj s k:=by
 have:=(decode_high s k h ha).1
 unfold Vj
 omega
theorem Jef {s:ByteArray} {k:Nat} (h:k<s.size):s.data.toList.drop k=(s[k]'h)::s.data.toList.drop (k+1):=by
 rw[List.drop_eq_getElem_cons (by simpa using h)]
 congr 1
theorem Jkc (s:ByteArray):(!(s.toList==(⟨⟨[]⟩⟩:ByteArray).toList))=decide (0<s.size):=by
 rw[Lib.toList_data,Lib.toList_data]
 have e:s.data.toList.length=s.size:=by simp
 cases h:s.data.toList with
 |nil=>rw[h] at e;simp at e;rw[←e];rfl
 |cons a l=>rw[h] at e;simp at e;rw[←e];simp
theorem Fs (k:Nat):(((k:Nat):Int)==0)=(k==0):=by
 rw[Bool.eq_iff_iff,beq_iff_eq,beq_iff_eq];omega
def J9z:Con:={args:=[aS],ress:=[Bo],owns:=[],pre:=fun(s,_)=>[s.size≤1000000],spec:=fun(s,_)=>(Xn s,())}
abbrev Jw9 (s:ByteArray):Ann:={X:=Nat,σ:=fun k=>⟨1,[(0, .one (.str s)),(7, .one (.sl 0))],[(0, .siter s k)]⟩,inv:=fun k=>k≤s.size∧okL true s.data.toList=okL (k==0) (s.data.toList.drop k),mu:=fun k=>s.size-k}
def Khn (a:Bt):=Sf true ((bif !Lb a B0 then decide (Nc (ByteArray.size a)≤24) else false)=Xn a)
def J5j (a:Nat) (b:Bt):=a≤ByteArray.size b∧okL true b.data.toList=okL (a==0) (List.drop a b.data.toList)
theorem Kku [Sx.Dr]:Ok Tryz.prog 78 J9z:=Jvl W4 Tryz.f78 (Un (l:=([]:List (Nat×Func))) (by simp)) (fun xx=>Dl (Jw9 xx.1)) (fun xx=>fun _=>na ()) fun xx=>by
 obtain⟨(s:ByteArray),_⟩:=xx
 refine(by kernel_rfl:(ByteArray.size s≤1000000→∃(x:Nat),Sf s (Sf s (0=x))∧J5j x s∧∀(x:Nat),J5j x s→(x<ByteArray.size s→Br true (Br (bif !bif bif decide (65≤Vj s x) then decide (Vj s x≤90) else false then true else bif decide (97≤Vj s x) then decide (Vj s x≤122) else false then bif Nc x==0 then true else bif bif decide (Vj s x<48) then true else decide (57<Vj s x) then Vj s x !=95 else false else false) (Sf true (false=Xn s)) (∃(y:Nat),Sf s (Sf s (x+Jeq s x=y))∧J5j y s∧ByteArray.size s-y<ByteArray.size s-x)) (Khn s))∧((x<ByteArray.size s→False)→Br false False (Khn s)))=_).mp ?_
 delta Khn J5j Br Sf Nc B0 Lb
 intro hb
 refine⟨(0:Nat),⟨rfl,rfl,rfl⟩,⟨Nat.zero_le _,by simp⟩,fun(k:Nat) hk=>⟨fun h=>⟨fun _=>⟨fun h1=>⟨rfl, ?_⟩,fun h1=> ?_⟩,fun h=>(by cases h)⟩,fun h=> ?_⟩⟩
 ·rw[Joi,Fs] at h1
  have h2:okB (k==0) (Vj s k)=false:=by simpa using h1
  unfold Xn
  have h3:okL true s.data.toList=false:=by
   rw[hk.2,Jef h,okL]
   by_cases ha:(s[k]'h).toNat<128
   ·rw[←(Jjy h ha).1,h2];rfl
   ·rw[Jka (by omega)];rfl
  rw[h3];rfl
 ·rw[Joi,Fs] at h1
  have h2:okB (k==0) (Vj s k)=true:=by simpa using h1
  by_cases ha:(s[k]'h).toNat<128
  ·obtain⟨r1,r2⟩:=Jjy h ha
   refine⟨(k+1:Nat),⟨rfl,rfl,by rw[r2]⟩,⟨by omega, ?_⟩,by omega⟩
   rw[hk.2,Jef h,okL,←r1,h2]
   rfl
  ·have:=Jnu h (by omega)
   rw[Jka this] at h2
   cases h2
 ·have e:k=s.size:=Nat.le_antisymm hk.1 (Nat.le_of_not_lt h)
  refine⟨fun h=>(by cases h),fun _=>⟨rfl, ?_⟩⟩
  rw[e,List.drop_eq_nil_of_le (by simp)] at hk
  unfold Xn
  rw[hk.2,Jkc]
  cases decide (0<s.size)<;>cases decide ((s.size:Int)≤24)<;>rfl
abbrev W5 [Sx.Dr]:=W4.add Kku
abbrev Jvd:Sch:= .prod sI .bool
abbrev Jzj:Sch:= .prod (.list 168 Jvd) (.prod sI (.prod .fnc (.prod .fnc .fnc)))
abbrev Ki4:=List (Int×Bool)×Int×Option Nat×Option Nat×Option Nat
abbrev K3:ByteArray:=⟨⟨[117,110,100,111]⟩⟩
abbrev J1:ByteArray:=⟨⟨[115,116,97,116,105,111,110]⟩⟩
abbrev Uh:ByteArray:=⟨⟨[112,114,105,99,101]⟩⟩
abbrev Ka:ByteArray:=⟨⟨[111,114,100,101,114]⟩⟩
abbrev Kn:ByteArray:=⟨⟨[109,101,116,101,114]⟩⟩
abbrev Zz:ByteArray:=⟨⟨[116,114,105,112]⟩⟩
abbrev Ul:ByteArray:=⟨⟨[111,117,116,97,103,101]⟩⟩
abbrev Kt:ByteArray:=⟨⟨[114,101,115,116,111,114,101]⟩⟩
abbrev Uk:ByteArray:=⟨⟨[112,101,114,109,105,116]⟩⟩
abbrev Uj:ByteArray:=⟨⟨[114,101,116,117,114,110]⟩⟩
abbrev Jk:ByteArray:=⟨⟨[115,101,116,116,108,101]⟩⟩
def Jd4:List (ByteArray×Ki4):=[(K3,[],0,none,none,none),
 (J1,[(0,false)],2,some 101,some 102,some 103),
 (Uh,[(0,true)],2,some 105,some 106,some 103),
 (Ka,[(1,false),(0,true),(0,true)],4,some 107,some 108,some 109),
 (Kn,[(1,true)],4,some 110,some 111,some 109),
 (Zz,[(1,true)],1,some 112,some 113,some 109),
 (Ul,[(2,false),(0,true)],4,some 114,some 115,some 116),
 (Kt,[(2,true)],1,some 117,some 118,some 116),
 (Uk,[(3,false),(2,true)],1,some 119,some 120,some 121),
 (Uj,[(3,true)],1,some 122,some 123,some 121),
 (Jk,[],2,some 124,some 125,none)]
def J0q:Con:={args:=[aI],ress:=[(true,Jvd)],owns:=[],pre:=fun _=>[],spec:=fun(t,_)=>((t,false),())}
theorem J9j [Sx.Dr]:Ok Tryz.prog 100 J0q:=okW W5 Tryz.f100 na fun xx=>by
 obtain⟨(t:Int),_⟩:=xx
 refine(by kernel_rfl:((t,false)=(t,false))=_).mp ?_
 trivial
abbrev W6 [Sx.Dr]:=W5.add J9j
def Kmo:Con:={args:=[aI],ress:=[(true,Jvd)],owns:=[],pre:=fun _=>[],spec:=fun(t,_)=>((t,true),())}
theorem J9g [Sx.Dr]:Ok Tryz.prog 104 Kmo:=okW W6 Tryz.f104 na fun xx=>by
 obtain⟨(t:Int),_⟩:=xx
 refine(by kernel_rfl:((t,true)=(t,true))=_).mp ?_
 trivial
abbrev W7 [Sx.Dr]:=W6.add J9g
def Jum:Jmt:={kT:=9,gk:=false,gv:=true,ks:= .str,vs:=Jzj,l:=Jd4}
def J69:=[((0:Int),true)]
def J6o:List (Int×Bool)×Int×Option Nat×Option Nat×Option Nat:=([],(0:Int),none,none,none)
theorem Kkb [Sx.Dr]:wpFM Tryz.prog W7.g (na ()) (fun _=>na ()) (Sx.look ([]:List (Nat×Func))) Tryz.f76 Jum:=by
 refine(by kernel_rfl:(((∀(k k':ByteArray),some (Lb k k')=some (List.beq (ByteArray.toList k) (ByteArray.toList k')))∧∀(k:ByteArray),true=true)∧Sf true ([(K3,J6o),(J1,[(0,false)],2,some 101,some 102,some 103),(Uh,J69,2,some 105,some 106,some 103),(Ka,(1,false)::(0,true)::J69,4,some 107,some 108,some 109),(Kn,[(1,true)],4,some 110,some 111,some 109),(Zz,[(1,true)],1,some 112,some 113,some 109),(Ul,(2,false)::J69,4,some 114,some 115,some 116),(Kt,[(2,true)],1,some 117,some 118,some 116),(Uk,[(3,false),(2,true)],1,some 119,some 120,some 121),(Uj,[(3,true)],1,some 122,some 123,some 121),(Jk,[],2,some 124,some 125,none)]=Jd4))=_).mp ?_
 delta J69 J6o Sf Lb Kn Ka Ul Uk Uh Kt Uj Jk J1 Zz K3
 exact⟨⟨fun _ _=>rfl,fun _=>rfl⟩,rfl,rfl⟩
theorem Ki8 [Sx.Dr]:Ok Tryz.prog 76 (Jmt.con Jum):=Jzr (Jog mixed W7.ok (by kernel_rfl) (by kernel_rfl) (Un (l:=([]:List (Nat×Func))) (by simp)) (na ()) (fun _=>na ()) Kkb)
abbrev W8 [Sx.Dr]:=W7.add Ki8
theorem Jf {α:Type} {l:List α} {k:Nat} {d:α} (h:k<l.length):l.getD k d∈l:=by
 simp[List.getD_eq_getElem?_getD,h]
theorem Ys {α:Type} {d:α} {l:List α} {k:Nat} (h:k<l.length):l.take k++[l.getD k d]=l.take (k+1):=by
 rw[List.take_succ_eq_append_getElem h,List.getD_eq_getElem?_getD,List.getElem?_eq_getElem h];rfl
abbrev Jk9 (T U:TypeId) (s:Sch) (l:List s.T) (r:Bool×Sch) (g:Bool) (q:Tup [(g,s)]→List Prop) (f:Tup [(g,s)]→r.2.T):Ann:={X:=Nat,σ:=fun k=>⟨3,[(1, .one (.fv 1)),(5, .one (.sl 2)),(8, .one (.sl 0)),(9, .one (.int .i64 l.length)),(10, .one (.int .i64 k))],[(0, .imm T s l),(1, .afn [(g,s)] r q f),(2, .own U r.2 ((l.take k).map fun x=>f (x,())))]⟩,inv:=fun k=>k≤l.length,mu:=fun k=>l.length-k}
def J0j:Con:={args:=[.val false (.list 9 .str), .fn [tS] I],ress:=[(false, .list 35 sI)],owns:=[true],pre:=fun(l,(q,_),_)=>[l.length≤1000000,∀x∈l,Kq (q (x,()))],spec:=fun(l,(_,f),_)=>(l.map fun x=>f (x,()),())}
def J0l:Con:={args:=[.val false (.list 3 sI), .fn [I] I],ress:=[(false, .list 35 sI)],owns:=[true],pre:=fun(l,(q,_),_)=>[l.length≤1000000,∀x∈l,Kq (q (x,()))],spec:=fun(l,(_,f),_)=>(l.map fun x=>f (x,()),())}
def Jyz (a:Int×Unit→Int) (b:Nat) (c:Li):=List.map (fun(x:Int)=>a (x,PUnit.unit)) (List.take b c)
theorem Kkt [Sx.Dr]:Ok Tryz.prog 79 J0l:=okW W8 Tryz.f79 (fun xx=>Dl (Jk9 3 35 sI xx.1 I false xx.2.1.1 xx.2.1.2)) fun xx=>by
 obtain⟨(l:List Int),⟨(q:Int×Unit→List Prop),(f:Int×Unit→Int)⟩,_⟩:=xx
 refine(by kernel_rfl:(Z43 l→(∀(x:Int),x∈l→Kq (q (x,PUnit.unit)))→∃(x:Nat),Si (Ln l) (0=Nc x∧Sf l ((fun(x:Int×PUnit)=>q x)=q∧(fun(x:Int×PUnit)=>f x)=f∧List.length (Jyz f x l)=0))∧x≤List.length l∧∀(x:Nat),x≤List.length l→Br (decide (Nc x<Ln l)) (Tw (Bd (Nc x) (Ln l))∧(Kq (q (List.getD l x 0,PUnit.unit))∧(List.length (Jyz f x l)+1)*8≤140737488355328)∧Z20 x∧∃(y:Nat),Si (Ln l) (Z83 x y∧Sf l ((fun(x:Int×PUnit)=>q x)=q∧(fun(x:Int×PUnit)=>f x)=f∧Jyz f x l++[f (List.getD l x 0,PUnit.unit)]=Jyz f y l))∧y≤List.length l∧List.length l-y<List.length l-x) (Jyz f x l=List.map (fun(x:Int)=>f (x,PUnit.unit)) l))=_).mp ?_
 delta Z20 Z43 Z83 Jyz Br Iw Bd Tw Sf Si Ln Nc
 intro hb hq
 refine⟨(0:Nat),⟨rfl,rfl,rfl,rfl,rfl,by simp⟩,Nat.zero_le _,fun(k:Nat) hk=>⟨fun h=> ?_,fun h=> ?_⟩⟩
 ·have hlt:k<l.length:=by simpa using h
  refine⟨by omega,⟨hq (l.getD k 0) (Jf hlt),by simp only[List.length_map,List.length_take];omega⟩,by omega,(k+1:Nat),⟨rfl,by simp,rfl,rfl,rfl, ?_⟩,by omega,by omega⟩
  rw[←Ys (d:=0) hlt,List.map_append];rfl
 ·have hlt:¬k<l.length:=by simpa using h
  rw[List.take_of_length_le (by omega)]
abbrev W9 [Sx.Dr]:=W8.add Kkt
def Z98 (a:Ls):=List.length a≤1000000
def Jc8 (a:Ls) (b:Bt):=b∈a
def Jys (a:Bt×Unit→Int) (b:Nat) (c:Ls):=List.map (fun(x:ByteArray)=>a (x,PUnit.unit)) (List.take b c)
theorem Kk9 [Sx.Dr]:Ok Tryz.prog 62 J0j:=okW W9 Tryz.f62 (fun xx=>Dl (Jk9 9 35 .str xx.1 I false xx.2.1.1 xx.2.1.2)) fun xx=>by
 obtain⟨(l:List ByteArray),⟨(q:ByteArray×Unit→List Prop),(f:ByteArray×Unit→Int)⟩,_⟩:=xx
 refine(by kernel_rfl:(Z98 l→(∀(x:ByteArray),Jc8 l x→Kq (q (x,PUnit.unit)))→∃(x:Nat),Si (Ln l) (0=Nc x∧Sf l ((fun(x:ByteArray×PUnit)=>q x)=q∧(fun(x:ByteArray×PUnit)=>f x)=f∧List.length (Jys f x l)=0))∧x≤List.length l∧∀(x:Nat),x≤List.length l→Br (decide (Nc x<Ln l)) (Tw (Bd (Nc x) (Ln l))∧(Kq (q (List.getD l x B0,PUnit.unit))∧(List.length (Jys f x l)+1)*8≤140737488355328)∧Z20 x∧∃(y:Nat),Si (Ln l) (Z83 x y∧Sf l ((fun(x:ByteArray×PUnit)=>q x)=q∧(fun(x:ByteArray×PUnit)=>f x)=f∧Jys f x l++[f (List.getD l x B0,PUnit.unit)]=Jys f y l))∧y≤List.length l∧List.length l-y<List.length l-x) (Jys f x l=List.map (fun(x:ByteArray)=>f (x,PUnit.unit)) l))=_).mp ?_
 delta Z20 Z83 Z98 Jc8 Jys Br Iw Bd Tw Sf Si Ln Nc B0
 intro hb hq
 refine⟨(0:Nat),⟨rfl,rfl,rfl,rfl,rfl,by simp⟩,Nat.zero_le _,fun(k:Nat) hk=>⟨fun h=> ?_,fun h=> ?_⟩⟩
 ·have hlt:k<l.length:=by simpa using h
  refine⟨by omega,⟨hq (l.getD k (⟨⟨[]⟩⟩:ByteArray)) (Jf hlt),by simp only[List.length_map,List.length_take];omega⟩,by omega,(k+1:Nat),⟨rfl,by simp,rfl,rfl,rfl, ?_⟩,by omega,by omega⟩
  rw[←Ys (d:=(⟨⟨[]⟩⟩:ByteArray)) hlt,List.map_append];rfl
 ·have hlt:¬k<l.length:=by simpa using h
  rw[List.take_of_length_le (by omega)]
abbrev W10 [Sx.Dr]:=W9.add Kk9
def J98:Con:={args:=[aS],ress:=[I],owns:=[],pre:=fun(s,_)=>[s.size≤1000000],spec:=fun(s,_)=>(bif Xn s then 0 else 8,())}
theorem Kkv [Sx.Dr]:Ok Tryz.prog 77 J98:=okW W10 Tryz.f77 na fun xx=>by
 obtain⟨(s:ByteArray),_⟩:=xx
 refine(by kernel_rfl:(ByteArray.size s≤(1000000:Nat)→ByteArray.size s≤(1000000:Nat)∧(bif !Xn s then(8:Int) else(0:Int))=bif Xn s then(0:Int) else(8:Int))=_).mp ?_
 exact fun h=>⟨h,by cases Xn s<;>rfl⟩
abbrev W11 [Sx.Dr]:=W10.add Kkv
def J96:Con:={args:=[aI],ress:=[I],owns:=[],pre:=fun _=>[],spec:=fun(n,_)=>(Jd n 0 999999999,())}
theorem Kks [Sx.Dr]:Ok Tryz.prog 80 J96:=okW W11 Tryz.f80 na fun xx=>by
 obtain⟨(n:Int),_⟩:=xx
 refine(by kernel_rfl:(J6t n)=_).mp ?_
 delta Z64 J6t
 rfl
abbrev W12 [Sx.Dr]:=W11.add Kks
abbrev Ev:=Int×ByteArray×List ByteArray×List Int×ByteArray
abbrev sEv:Sch:= .prod sI (.prod .str (.prod (.list 9 .str) (.prod (.list 3 sI) .str)))
abbrev aEv:AK:= .val true sEv
def Kz (k:ByteArray):Ki4:=(K5 .str k Jd4).getD ([],0,none,none,none)
def D3 (k:ByteArray):Bool:=(K5 .str k Jd4).isSome
def Jc (e:Ev):Int:=
 if Jd e.1 1 1000≠0 then Jd e.1 1 1000 else
 bif D3 e.2.1 then(if e.2.2.1.length=(Kz e.2.1).1.length∧(e.2.2.2.1.length:Int)=(Kz e.2.1).2.1 then
  Ja [Ja (e.2.2.1.map fun s=>bif Xn s then 0 else 8),Ja (e.2.2.2.1.map fun n=>Jd n 0 999999999),bif decide (0<e.2.2.2.2.size) then 1 else 0] else 2) else 13
theorem bn1 {b c:Bool} (h:(bif b then true else c)=false):b=false∧c=false:=by cases b<;>simp_all
def J02:Con:={args:=[aEv],ress:=[I],owns:=[],pre:=fun(e,_)=>[e.2.2.1.length≤1000000,e.2.2.2.1.length≤1000000,∀s∈e.2.2.1,s.size≤1000000],spec:=fun(e,_)=>(Jc e,())}
def Kh0 (a:Ls):=List.map (fun(x:ByteArray)=>match Xn x with|true=>(0:Int)|false=>(8:Int)) a
def Jc5 (a:Ls):=∀(s:ByteArray),Jc8 a s→ByteArray.size s≤1000000
def Kgr (a:Bt):=K5 Sch.str a Jd4
def Kdy (a:Bt):=Option.getD (Kgr a) J6o
theorem Kja [Sx.Dr]:Ok Tryz.prog 52 J02:=okW W12 Tryz.f52 na fun xx=>by
 obtain⟨⟨(n:Int),(k:ByteArray),(ns:List ByteArray),(vs:List Int),(t:ByteArray)⟩,_⟩:=xx
 refine(by kernel_rfl:(Z98 ns→Z43 vs→Jc5 ns→Br (Jd n 1 (1000:Int) !=0) (Jd n 1 1000=Jc (n,k,ns,vs,t)) (Br (!Option.isSome (Kgr k)) (13=Jc (n,k,ns,vs,t)) (Br (bif Ln ns !=Ln (Kdy k).1 then true else Ln vs !=(Kdy k).2.1) (2=Jc (n,k,ns,vs,t)) ((Z98 ns∧Jc5 ns)∧(Z43 vs∧∀(x:Int),x∈vs→True)∧(List.length (Kh0 ns)≤1000000∧List.length (List.map (fun(x:Int)=>Z64 x) vs)≤1000000∧3≤1000000)∧Ja [Ja (Kh0 ns),Ja (List.map (fun(x:Int)=>Z64 x) vs),bif !Lb t B0 then 1 else 0]=Jc (n,k,ns,vs,t)))))=_).mp ?_
 delta Z43 Z64 Z98 Jc8 J6o Kh0 Jc5 Kgr Kdy Br Ln B0 Lb
 intro h1 h2 h3
 unfold Jc Kz D3
 dsimp only
 refine⟨fun h=> ?_,fun h=> ?_⟩
 ·rw[if_pos (bne_iff_ne.1 h)]
 rw[if_neg (by have:=bne_eq_false_iff_eq.1 h;simpa using this)]
 refine⟨fun h4=> ?_,fun h4=> ?_⟩
 ·rw[Bool.not_eq_true'] at h4
  rw[h4];rfl
 rw[Bool.not_eq_false'] at h4
 rw[h4,cond_true]
 refine⟨fun h5=> ?_,fun h5=>⟨⟨h1,h3⟩,⟨h2,fun _ _=>trivial⟩,⟨by simpa using h1,by simpa using h2,by decide⟩, ?_⟩⟩
 ·rw[if_neg]
  rintro⟨e1,e2⟩
  rw[e1,e2] at h5
  simp at h5
 ·have h6:=bn1 h5
  rw[if_pos ⟨Int.ofNat_inj.1 (bne_eq_false_iff_eq.1 h6.1),bne_eq_false_iff_eq.1 h6.2⟩,Jkc]
  rfl
abbrev W13 [Sx.Dr]:=W12.add Kja
abbrev Jif:Sch:= .prod sI sI
abbrev Sta:=ByteArray×Int×Int
abbrev Ord:=ByteArray×ByteArray×ByteArray×(Int×Int)×Int×Int×Int
abbrev Met:=ByteArray×Int×Int×Int
abbrev Out:=ByteArray×ByteArray×(Int×Int)×Int
abbrev Per:=ByteArray×ByteArray×Bool
abbrev Jie:Sch:= .prod .str (.prod sI sI)
abbrev Jcw:Sch:= .prod .str (.prod .str (.prod .str (.prod Jif (.prod sI (.prod sI sI)))))
abbrev Jmu:Sch:= .prod .str (.prod sI (.prod sI sI))
abbrev Jgl:Sch:= .prod .str (.prod .str (.prod Jif sI))
abbrev Ja5:Sch:= .prod .str (.prod .str .bool)
def Kjh:Con:={args:=[.val true Jie],ress:=[tS],owns:=[],pre:=fun _=>[],spec:=fun(x,_)=>(x.1,())}
def Kjj:Con:={args:=[.val true Jcw],ress:=[tS],owns:=[],pre:=fun _=>[],spec:=fun(x,_)=>(x.1,())}
def Kjg:Con:={args:=[.val true Jgl],ress:=[tS],owns:=[],pre:=fun _=>[],spec:=fun(x,_)=>(x.1,())}
def Kji:Con:={args:=[.val true Ja5],ress:=[tS],owns:=[],pre:=fun _=>[],spec:=fun(x,_)=>(x.1,())}
theorem J7i [Sx.Dr] (x:Sta):wpF Tryz.prog W13.g (na ()) Tryz.f178 Kjh (x,()):=by
 refine(by kernel_rfl:(x.1=x.1)=_).mp ?_
 rfl
theorem J79 [Sx.Dr]:Ok Tryz.prog 178 Kjh:=Ke mixed W13.ok (by kernel_rfl) (by kernel_rfl) na fun xx=>J7i xx.1
abbrev W14 [Sx.Dr]:=W13.add J79
theorem J7j [Sx.Dr] (x:Ord):wpF Tryz.prog W14.g (na ()) Tryz.f177 Kjj (x,()):=by
 refine(by kernel_rfl:(x.1=x.1)=_).mp ?_
 rfl
theorem J8a [Sx.Dr]:Ok Tryz.prog 177 Kjj:=Ke mixed W14.ok (by kernel_rfl) (by kernel_rfl) na fun xx=>J7j xx.1
abbrev W15 [Sx.Dr]:=W14.add J8a
theorem J7h [Sx.Dr] (x:Out):wpF Tryz.prog W15.g (na ()) Tryz.f179 Kjg (x,()):=by
 refine(by kernel_rfl:(x.1=x.1)=_).mp ?_
 rfl
theorem J78 [Sx.Dr]:Ok Tryz.prog 179 Kjg:=Ke mixed W15.ok (by kernel_rfl) (by kernel_rfl) na fun xx=>J7h xx.1
abbrev W16 [Sx.Dr]:=W15.add J78
theorem J7g [Sx.Dr] (x:Per):wpF Tryz.prog W16.g (na ()) Tryz.f180 Kji (x,()):=by
 refine(by kernel_rfl:(x.1=x.1)=_).mp ?_
 rfl
theorem J77 [Sx.Dr]:Ok Tryz.prog 180 Kji:=Ke mixed W16.ok (by kernel_rfl) (by kernel_rfl) na fun xx=>J7g xx.1
abbrev W17 [Sx.Dr]:=W16.add J77
def Jz:ByteArray:=⟨⟨[]⟩⟩
def Vt {α:Type} (p:α→Bool):List α→Nat→Int
 |[],_=> -1
 |x::r,k=>if p x=true then(k:Int) else Vt p r (k+1)
theorem Hl {α:Type} {p:α→Bool} {l:List α} {k:Nat} {d:α} (h:k<l.length):Vt p (l.drop k) k=if p (l.getD k d)=true then(k:Int) else Vt p (l.drop (k+1)) (k+1):=by
 rw[List.drop_eq_getElem_cons h]
 simp[Vt,List.getD_eq_getElem?_getD,h]
abbrev Jht (T:TypeId) (s:Sch) (g:Bool) (l:List s.T) (q:Tup [(g,s)]→List Prop) (f:Tup [(g,s)]→Bool):Ann:={X:=Nat,σ:=fun k=>⟨2,[(0, .one (.sl 0)),(1, .one (.fv 1)),(7, .one (.int .i64 l.length)),(8, .one (.int .i64 k))],[(0, .imm T s l),(1, .afn [(g,s)] Bo q f)]⟩,inv:=fun k=>k≤l.length∧Vt (fun x=>f (x,())) l 0=Vt (fun x=>f (x,())) (l.drop k) k,mu:=fun k=>l.length-k}
def J0p (T:TypeId) (s:Sch) (g:Bool):Con:={args:=[.val false (.list T s), .fn [(g,s)] Bo],ress:=[I],owns:=[],pre:=fun(l,(q,_),_)=>[l.length≤1000000,∀x∈l,Kq (q (x,()))],spec:=fun(l,(_,f),_)=>(Vt (fun x=>f (x,())) l 0,())}
def Jx1:Sta:=(Jz,0,0)
def Kjl:Con:={args:=[.val true Jie, .ref 9 .str],ress:=[Bo],owns:=[],pre:=fun _=>[],spec:=fun(x,s,_)=>(x.1.toList==s.toList,())}
theorem J7p [Sx.Dr] (x:Sta) (s:ByteArray):wpF Tryz.prog W17.g (na ()) Tryz.f132 Kjl (x,s,()):=by
 refine(by kernel_rfl:(Lb x.1 s=Lb x.1 s)=_).mp ?_
 delta Lb
 rfl
theorem J8w [Sx.Dr]:Ok Tryz.prog 132 Kjl:=Ke mixed W17.ok (by kernel_rfl) (by kernel_rfl) na fun xx=>J7p xx.1 xx.2.1
abbrev W18 [Sx.Dr]:=W17.add J8w
def Z17:=(B0,(0:Int),(0:Int))
def Z53 (a:List Sta):=List.length a≤1000000
def Z61:=(-1)
def Kha (a:List Sta) (b:Nat):=(((List.getD a b Z17).1,E2 (List.getD a b Z17).2),PUnit.unit)
def J5e (a:Nat) (b:List Sta) (c:Sta×Unit→Bool):=a≤List.length b∧Vt (fun(x:Sta)=>c (x,PUnit.unit)) b 0=Vt (fun(x:Sta)=>c (x,PUnit.unit)) (List.drop a b) a
theorem J8x [Sx.Dr]:Ok Tryz.prog 131 (J0p 140 Jie true):=okW W18 Tryz.f131 (fun xx=>Dl (Jht 140 Jie true xx.1 xx.2.1.1 xx.2.1.2)) fun xx=>by
 obtain⟨(l:List Sta),⟨(q:Sta×Unit→List Prop),(f:Sta×Unit→Bool)⟩,_⟩:=xx
 refine(by kernel_rfl:(Z53 l→(∀(x:Sta),x∈l→Kq (q (x,PUnit.unit)))→∃(x:Nat),Si (Ln l) (0=Nc x∧Sf l ((fun(x:Sta×PUnit)=>q x)=q∧(fun(x:Sta×PUnit)=>f x)=f))∧J5e x l f∧∀(x:Nat),J5e x l f→Br (decide (Nc x<Ln l)) (T2 (Bd (Nc x) (Ln l)) (Kq (q (Kha l x)))∧Br (f (Kha l x)) (Nc x=Vt (fun(x:Sta)=>f (x,PUnit.unit)) l 0) (Z20 x∧∃(y:Nat),Si (Ln l) (Z83 x y∧Sf l ((fun(x:Sta×PUnit)=>q x)=q∧(fun(x:Sta×PUnit)=>f x)=f))∧J5e y l f∧List.length l-y<List.length l-x)) (Z61=Vt (fun(x:Sta)=>f (x,PUnit.unit)) l 0))=_).mp ?_
 delta Z17 Z20 Z53 Z61 Z83 Kha J5e Br Iw Bd T2 Sf Si Ln Nc B0 E2
 intro hb hq
 refine⟨(0:Nat),⟨rfl,rfl,rfl,rfl,rfl⟩,⟨Nat.zero_le _,rfl⟩,fun(k:Nat) hk=>⟨fun h=> ?_,fun h=> ?_⟩⟩
 ·have hlt:k<l.length:=by simpa using h
  have hd:=Hl (p:=fun x=>f (x,())) (d:=Jx1) hlt
  refine⟨⟨by omega,by omega,hq (l.getD k Jx1) (Jf hlt)⟩,fun h1=> ?_,fun h1=>⟨by omega,(k+1:Nat),⟨rfl,rfl,rfl,by simp,rfl⟩,⟨by omega, ?_⟩,by omega⟩⟩
  ·rw[hk.2,hd,if_pos (show f (l.getD k Jx1,())=true from h1)]
  ·rw[hk.2,hd,if_neg (by rw[show f (l.getD k Jx1,())=false from h1];simp)]
 ·have hlt:¬k<l.length:=by simpa using h
  have:k=l.length:=by omega
  rw[hk.2,this,List.drop_length];rfl
abbrev W19 [Sx.Dr]:=W18.add J8x
def J0 (l:List Sta) (s:ByteArray):Int:=Vt (fun x=>x.1.toList==s.toList) l 0
def J0s:Con:={args:=[.val false (.list 140 Jie),aS],ress:=[I],owns:=[],pre:=fun(l,_)=>[l.length≤1000000],spec:=fun(l,s,_)=>(J0 l s,())}
theorem Kkq [Sx.Dr]:Ok Tryz.prog 92 J0s:=okW W19 Tryz.f92 na fun xx=>by
 obtain⟨(l:List Sta),(s:ByteArray),_⟩:=xx
 refine(by kernel_rfl:(Z53 l→(Z53 l∧∀(x:Sta),x∈l→True)∧Vt (fun(x:Sta)=>List.beq (ByteArray.toList x.1) (ByteArray.toList s)) l 0=J0 l s)=_).mp ?_
 delta Z53
 exact fun h=>⟨⟨h,fun _ _=>trivial⟩,rfl⟩
abbrev W20 [Sx.Dr]:=W19.add Kkq
def K6:Ord:=(Jz,Jz,Jz,(0,0),0,0,0)
def Kjn:Con:={args:=[.val true Jcw, .ref 9 .str],ress:=[Bo],owns:=[],pre:=fun _=>[],spec:=fun(x,s,_)=>(x.1.toList==s.toList,())}
theorem J7o [Sx.Dr] (x:Ord) (s:ByteArray):wpF Tryz.prog W20.g (na ()) Tryz.f134 Kjn (x,s,()):=by
 refine(by kernel_rfl:(Lb x.1 s=Lb x.1 s)=_).mp ?_
 delta Lb
 rfl
theorem J8u [Sx.Dr]:Ok Tryz.prog 134 Kjn:=Ke mixed W20.ok (by kernel_rfl) (by kernel_rfl) na fun xx=>J7o xx.1 xx.2.1
abbrev W21 [Sx.Dr]:=W20.add J8u
def Z41 (a:List Ord):=List.length a≤1000000
def Z65:=((0:Int),(0:Int),(0:Int))
def Jhz:=(B0,B0,B0,((0:Int),(0:Int)),Z65)
def J6f (a:List Ord) (b:Nat):=List.getD a b Jhz
def J6d (a:List Ord) (b:Ord×Unit→List Prop):=∀(x:Ord),x∈a→Kq (b (x,PUnit.unit))
def J6b (a:List Ord) (b:Nat):=(J6f a b).2
def J6a (a:List Ord) (b:Nat):=(J6b a b).2
def J58 (a:List Ord) (b:Nat):=(J6a a b).2
def J54 (a:List Ord) (b:Nat):=(J58 a b).2
def J5h (a:Nat) (b:List Ord) (c:Ord×Unit→Bool):=a≤List.length b∧Vt (fun(x:Ord)=>c (x,PUnit.unit)) b 0=Vt (fun(x:Ord)=>c (x,PUnit.unit)) (List.drop a b) a
def J1i (a:List Ord) (b:Nat):=(((J6f a b).1,(J6b a b).1,(J6a a b).1,E2 (J58 a b).1,(J54 a b).1,E2 (J54 a b).2),PUnit.unit)
def J32 (a:Ord×Unit→List Prop) (b:List Ord) (c:Nat):=Kq (a (J1i b c))
theorem J8v [Sx.Dr]:Ok Tryz.prog 133 (J0p 108 Jcw true):=okW W21 Tryz.f133 (fun xx=>Dl (Jht 108 Jcw true xx.1 xx.2.1.1 xx.2.1.2)) fun xx=>by
 obtain⟨(l:List Ord),⟨(q:Ord×Unit→List Prop),(f:Ord×Unit→Bool)⟩,_⟩:=xx
 refine(by kernel_rfl:(Z41 l→J6d l q→∃(x:Nat),Si (Ln l) (0=Nc x∧Sf l ((fun(x:Ord×PUnit)=>q x)=q∧(fun(x:Ord×PUnit)=>f x)=f))∧J5h x l f∧∀(x:Nat),J5h x l f→Br (decide (Nc x<Ln l)) (T2 (Bd (Nc x) (Ln l)) (J32 q l x)∧Br (f (J1i l x)) (Nc x=Vt (fun(x:Ord)=>f (x,PUnit.unit)) l 0) (Z20 x∧∃(y:Nat),Si (Ln l) (Z83 x y∧Sf l ((fun(x:Ord×PUnit)=>q x)=q∧(fun(x:Ord×PUnit)=>f x)=f))∧J5h y l f∧List.length l-y<List.length l-x)) (Z61=Vt (fun(x:Ord)=>f (x,PUnit.unit)) l 0))=_).mp ?_
 delta Z20 Z41 Z61 Z65 Z83 Jhz J6f J6d J6b J6a J58 J54 J5h J1i J32 Br Iw Bd T2 Sf Si Ln Nc B0 E2
 intro hb hq
 refine⟨(0:Nat),⟨rfl,rfl,rfl,rfl,rfl⟩,⟨Nat.zero_le _,rfl⟩,fun(k:Nat) hk=>⟨fun h=> ?_,fun h=> ?_⟩⟩
 ·have hlt:k<l.length:=by simpa using h
  have hd:=Hl (p:=fun x=>f (x,())) (d:=K6) hlt
  refine⟨⟨by omega,by omega,hq (l.getD k K6) (Jf hlt)⟩,fun h1=> ?_,fun h1=>⟨by omega,(k+1:Nat),⟨rfl,rfl,rfl,by simp,rfl⟩,⟨by omega, ?_⟩,by omega⟩⟩
  ·rw[hk.2,hd,if_pos (show f (l.getD k K6,())=true from h1)]
  ·rw[hk.2,hd,if_neg (by rw[show f (l.getD k K6,())=false from h1];simp)]
 ·have hlt:¬k<l.length:=by simpa using h
  have:k=l.length:=by omega
  rw[hk.2,this,List.drop_length];rfl
abbrev W22 [Sx.Dr]:=W21.add J8v
def Uv (l:List Ord) (s:ByteArray):Int:=Vt (fun x=>x.1.toList==s.toList) l 0
def J0u:Con:={args:=[.val false (.list 108 Jcw),aS],ress:=[I],owns:=[],pre:=fun(l,_)=>[l.length≤1000000],spec:=fun(l,s,_)=>(Uv l s,())}
theorem Kkp [Sx.Dr]:Ok Tryz.prog 93 J0u:=okW W22 Tryz.f93 na fun xx=>by
 obtain⟨(l:List Ord),(s:ByteArray),_⟩:=xx
 refine(by kernel_rfl:(Z41 l→(Z41 l∧∀(x:Ord),x∈l→True)∧Vt (fun(x:Ord)=>List.beq (ByteArray.toList x.1) (ByteArray.toList s)) l 0=Uv l s)=_).mp ?_
 delta Z41
 exact fun h=>⟨⟨h,fun _ _=>trivial⟩,rfl⟩
abbrev W23 [Sx.Dr]:=W22.add Kkp
def Job:Out:=(Jz,Jz,(0,0),0)
def Kjk:Con:={args:=[.val true Jgl, .ref 9 .str],ress:=[Bo],owns:=[],pre:=fun _=>[],spec:=fun(x,s,_)=>(x.1.toList==s.toList,())}
theorem J7n [Sx.Dr] (x:Out) (s:ByteArray):wpF Tryz.prog W23.g (na ()) Tryz.f136 Kjk (x,s,()):=by
 refine(by kernel_rfl:(Lb x.1 s=Lb x.1 s)=_).mp ?_
 delta Lb
 rfl
theorem J8s [Sx.Dr]:Ok Tryz.prog 136 Kjk:=Ke mixed W23.ok (by kernel_rfl) (by kernel_rfl) na fun xx=>J7n xx.1 xx.2.1
abbrev W24 [Sx.Dr]:=W23.add J8s
def Z42 (a:List Out):=List.length a≤1000000
def Jmy:=(B0,B0,((0:Int),(0:Int)),(0:Int))
def J6z (a:List Out) (b:Nat):=(List.getD a b Jmy).2
def J5g (a:Nat) (b:List Out) (c:Out×Unit→Bool):=a≤List.length b∧Vt (fun(x:Out)=>c (x,PUnit.unit)) b 0=Vt (fun(x:Out)=>c (x,PUnit.unit)) (List.drop a b) a
def Kd1 (a:List Out) (b:Nat):=(((List.getD a b Jmy).1,(J6z a b).1,E2 (J6z a b).2.1,(J6z a b).2.2),PUnit.unit)
theorem J8t [Sx.Dr]:Ok Tryz.prog 135 (J0p 143 Jgl true):=okW W24 Tryz.f135 (fun xx=>Dl (Jht 143 Jgl true xx.1 xx.2.1.1 xx.2.1.2)) fun xx=>by
 obtain⟨(l:List Out),⟨(q:Out×Unit→List Prop),(f:Out×Unit→Bool)⟩,_⟩:=xx
 refine(by kernel_rfl:(Z42 l→(∀(x:Out),x∈l→Kq (q (x,PUnit.unit)))→∃(x:Nat),Si (Ln l) (0=Nc x∧Sf l ((fun(x:Out×PUnit)=>q x)=q∧(fun(x:Out×PUnit)=>f x)=f))∧J5g x l f∧∀(x:Nat),J5g x l f→Br (decide (Nc x<Ln l)) (T2 (Bd (Nc x) (Ln l)) (Kq (q (Kd1 l x)))∧Br (f (Kd1 l x)) (Nc x=Vt (fun(x:Out)=>f (x,PUnit.unit)) l 0) (Z20 x∧∃(y:Nat),Si (Ln l) (Z83 x y∧Sf l ((fun(x:Out×PUnit)=>q x)=q∧(fun(x:Out×PUnit)=>f x)=f))∧J5g y l f∧List.length l-y<List.length l-x)) (Z61=Vt (fun(x:Out)=>f (x,PUnit.unit)) l 0))=_).mp ?_
 delta Z20 Z42 Z61 Z83 Jmy J6z J5g Kd1 Br Iw Bd T2 Sf Si Ln Nc B0 E2
 intro hb hq
 refine⟨(0:Nat),⟨rfl,rfl,rfl,rfl,rfl⟩,⟨Nat.zero_le _,rfl⟩,fun(k:Nat) hk=>⟨fun h=> ?_,fun h=> ?_⟩⟩
 ·have hlt:k<l.length:=by simpa using h
  have hd:=Hl (p:=fun x=>f (x,())) (d:=Job) hlt
  refine⟨⟨by omega,by omega,hq (l.getD k Job) (Jf hlt)⟩,fun h1=> ?_,fun h1=>⟨by omega,(k+1:Nat),⟨rfl,rfl,rfl,by simp,rfl⟩,⟨by omega, ?_⟩,by omega⟩⟩
  ·rw[hk.2,hd,if_pos (show f (l.getD k Job,())=true from h1)]
  ·rw[hk.2,hd,if_neg (by rw[show f (l.getD k Job,())=false from h1];simp)]
 ·have hlt:¬k<l.length:=by simpa using h
  have:k=l.length:=by omega
  rw[hk.2,this,List.drop_length];rfl
abbrev W25 [Sx.Dr]:=W24.add J8t
def K1 (l:List Out) (s:ByteArray):Int:=Vt (fun x=>x.1.toList==s.toList) l 0
def J0r:Con:={args:=[.val false (.list 143 Jgl),aS],ress:=[I],owns:=[],pre:=fun(l,_)=>[l.length≤1000000],spec:=fun(l,s,_)=>(K1 l s,())}
theorem Kko [Sx.Dr]:Ok Tryz.prog 94 J0r:=okW W25 Tryz.f94 na fun xx=>by
 obtain⟨(l:List Out),(s:ByteArray),_⟩:=xx
 refine(by kernel_rfl:(Z42 l→(Z42 l∧∀(x:Out),x∈l→True)∧Vt (fun(x:Out)=>List.beq (ByteArray.toList x.1) (ByteArray.toList s)) l 0=K1 l s)=_).mp ?_
 delta Z42
 exact fun h=>⟨⟨h,fun _ _=>trivial⟩,rfl⟩
abbrev W26 [Sx.Dr]:=W25.add Kko
def Jr9:Per:=(Jz,Jz,false)
def Kjm:Con:={args:=[.val true Ja5, .ref 9 .str],ress:=[Bo],owns:=[],pre:=fun _=>[],spec:=fun(x,s,_)=>(x.1.toList==s.toList,())}
theorem J7m [Sx.Dr] (x:Per) (s:ByteArray):wpF Tryz.prog W26.g (na ()) Tryz.f138 Kjm (x,s,()):=by
 refine(by kernel_rfl:(Lb x.1 s=Lb x.1 s)=_).mp ?_
 delta Lb
 rfl
theorem J8q [Sx.Dr]:Ok Tryz.prog 138 Kjm:=Ke mixed W26.ok (by kernel_rfl) (by kernel_rfl) na fun xx=>J7m xx.1 xx.2.1
abbrev W27 [Sx.Dr]:=W26.add J8q
def Z44 (a:List Per):=List.length a≤1000000
def J6e (a:List Per) (b:Per×Unit→List Prop):=∀(x:Per),x∈a→Kq (b (x,PUnit.unit))
def J50 (a:List Per) (b:Nat):=((List.getD a b (B0,B0,false)).1,E2 (List.getD a b (B0,B0,false)).2)
def J5v (a:List Per) (b:Nat):=(J50 a b,PUnit.unit)
def J5p (a:Per×Unit→Bool) (b:List Per) (c:Nat):=a (J5v b c)
def J5n (a:Per×Unit→List Prop) (b:List Per) (c:Nat):=Kq (a (J5v b c))
def J5f (a:Nat) (b:List Per) (c:Per×Unit→Bool):=a≤List.length b∧Vt (fun(x:Per)=>c (x,PUnit.unit)) b 0=Vt (fun(x:Per)=>c (x,PUnit.unit)) (List.drop a b) a
theorem J8r [Sx.Dr]:Ok Tryz.prog 137 (J0p 186 Ja5 true):=okW W27 Tryz.f137 (fun xx=>Dl (Jht 186 Ja5 true xx.1 xx.2.1.1 xx.2.1.2)) fun xx=>by
 obtain⟨(l:List Per),⟨(q:Per×Unit→List Prop),(f:Per×Unit→Bool)⟩,_⟩:=xx
 refine(by kernel_rfl:(Z44 l→J6e l q→∃(x:Nat),Si (Ln l) (0=Nc x∧Sf l ((fun(x:Per×PUnit)=>q x)=q∧(fun(x:Per×PUnit)=>f x)=f))∧J5f x l f∧∀(x:Nat),J5f x l f→Br (decide (Nc x<Ln l)) (T2 (Bd (Nc x) (Ln l)) (J5n q l x)∧Br (J5p f l x) (Nc x=Vt (fun(x:Per)=>f (x,PUnit.unit)) l 0) (Z20 x∧∃(y:Nat),Si (Ln l) (Z83 x y∧Sf l ((fun(x:Per×PUnit)=>q x)=q∧(fun(x:Per×PUnit)=>f x)=f))∧J5f y l f∧List.length l-y<List.length l-x)) (Z61=Vt (fun(x:Per)=>f (x,PUnit.unit)) l 0))=_).mp ?_
 delta Z20 Z44 Z61 Z83 J6e J50 J5v J5p J5n J5f Br Iw Bd T2 Sf Si Ln Nc B0 E2
 intro hb hq
 refine⟨(0:Nat),⟨rfl,rfl,rfl,rfl,rfl⟩,⟨Nat.zero_le _,rfl⟩,fun(k:Nat) hk=>⟨fun h=> ?_,fun h=> ?_⟩⟩
 ·have hlt:k<l.length:=by simpa using h
  have hd:=Hl (p:=fun x=>f (x,())) (d:=Jr9) hlt
  refine⟨⟨by omega,by omega,hq (l.getD k Jr9) (Jf hlt)⟩,fun h1=> ?_,fun h1=>⟨by omega,(k+1:Nat),⟨rfl,rfl,rfl,by simp,rfl⟩,⟨by omega, ?_⟩,by omega⟩⟩
  ·rw[hk.2,hd,if_pos (show f (l.getD k Jr9,())=true from h1)]
  ·rw[hk.2,hd,if_neg (by rw[show f (l.getD k Jr9,())=false from h1];simp)]
 ·have hlt:¬k<l.length:=by simpa using h
  have:k=l.length:=by omega
  rw[hk.2,this,List.drop_length];rfl
abbrev W28 [Sx.Dr]:=W27.add J8r
def Yi (l:List Per) (s:ByteArray):Int:=Vt (fun x=>x.1.toList==s.toList) l 0
def J0t:Con:={args:=[.val false (.list 186 Ja5),aS],ress:=[I],owns:=[],pre:=fun(l,_)=>[l.length≤1000000],spec:=fun(l,s,_)=>(Yi l s,())}
def J5t (a:List Per):=Z44 a∧∀(x:Per),x∈a→True
theorem Kkn [Sx.Dr]:Ok Tryz.prog 95 J0t:=okW W28 Tryz.f95 na fun xx=>by
 obtain⟨(l:List Per),(s:ByteArray),_⟩:=xx
 refine(by kernel_rfl:(Z44 l→J5t l∧Vt (fun(x:Per)=>List.beq (ByteArray.toList x.1) (ByteArray.toList s)) l 0=Yi l s)=_).mp ?_
 delta Z44 J5t
 exact fun h=>⟨⟨h,fun _ _=>trivial⟩,rfl⟩
abbrev W29 [Sx.Dr]:=W28.add Kkn
abbrev Reg:=Int×Int×List Sta×List Ord×List Met×List Out×List Per
abbrev Jrg:Sch:= .prod sI (.prod sI (.prod (.list 140 Jie) (.prod (.list 108 Jcw) (.prod (.list 111 Jmu) (.prod (.list 143 Jgl) (.list 186 Ja5))))))
abbrev Jcy:AK:= .val true Jrg
def U5 (s:Int×Int) (h:Int):Bool:=bif decide (s.1≤h) then decide (h<s.2) else false
def Jwq:Con:={args:=[.val true Jif,aI],ress:=[Bo],owns:=[],pre:=fun _=>[],spec:=fun(s,h,_)=>(U5 s h,())}
theorem Kk1 [Sx.Dr]:Ok Tryz.prog 70 Jwq:=okW W29 Tryz.f70 na fun xx=>by
 obtain⟨⟨(a:Int),(b:Int)⟩,(h:Int),_⟩:=xx
 refine(by kernel_rfl:((bif decide (a≤h) then decide (h<b) else false)=U5 (a,b) h)=_).mp ?_
 rfl
abbrev W30 [Sx.Dr]:=W29.add Kk1
def Jv (x:Ord) (h:Int):Bool:=bif U5 x.2.2.2.1 h then(bif x.2.2.2.2.2.2== -1 then true else decide (h<x.2.2.2.2.2.2)) else false
def Jww:Con:={args:=[.val true Jcw,aI],ress:=[Bo],owns:=[],pre:=fun _=>[],spec:=fun(x,h,_)=>(Jv x h,())}
theorem Klm [Sx.Dr]:Ok Tryz.prog 43 Jww:=okW W30 Tryz.f43 na fun xx=>by
 obtain⟨⟨(n:ByteArray),(f:ByteArray),(t:ByteArray),⟨(a:Int),(b:Int)⟩,(p:Int),(c:Int),(r:Int)⟩,(h:Int),_⟩:=xx
 refine(by kernel_rfl:((bif U5 (a,b) h then bif r==Z61 then true else decide (h<r) else false)=Jv (n,f,t,(a,b),p,c,r) h)=_).mp ?_
 delta Z61
 rfl
abbrev W31 [Sx.Dr]:=W30.add Klm
def Dj (x:Ord) (s:ByteArray):Bool:=bif x.2.1.toList==s.toList then true else x.2.2.1.toList==s.toList
def J05:Con:={args:=[.val true Jcw,aS],ress:=[Bo],owns:=[],pre:=fun _=>[],spec:=fun(x,s,_)=>(Dj x s,())}
theorem Kkm [Sx.Dr]:Ok Tryz.prog 96 J05:=okW W31 Tryz.f96 na fun xx=>by
 obtain⟨⟨(n:ByteArray),(f:ByteArray),(t:ByteArray),⟨(a:Int),(b:Int)⟩,(p:Int),(c:Int),(r:Int)⟩,(s:ByteArray),_⟩:=xx
 refine(by kernel_rfl:((bif Lb f s then true else Lb t s)=Dj (n,f,t,(a,b),p,c,r) s)=_).mp ?_
 delta Lb
 rfl
abbrev W32 [Sx.Dr]:=W31.add Kkm
def Jx5 (x:Out) (s:ByteArray) (h:Int):Bool:=bif x.2.1.toList==s.toList then U5 x.2.2.1 h else false
def Kmm:Con:={args:=[.val true Jgl,aS,aI],ress:=[Bo],owns:=[],pre:=fun _=>[],spec:=fun(x,s,h,_)=>(Jx5 x s h,())}
theorem Kk4 [Sx.Dr]:Ok Tryz.prog 67 Kmm:=okW W32 Tryz.f67 na fun xx=>by
 obtain⟨⟨(n:ByteArray),(f:ByteArray),⟨(a:Int),(b:Int)⟩,(p:Int)⟩,(s:ByteArray),(h:Int),_⟩:=xx
 refine(by kernel_rfl:((bif Lb f s then U5 (a,b) h else false)=Jx5 (n,f,(a,b),p) s h)=_).mp ?_
 delta Lb
 rfl
abbrev W33 [Sx.Dr]:=W32.add Kk4
theorem V5 {α:Type} {l:List α} {k:Nat} {d:α} (h:k<l.length):l.drop k=l.getD k d::l.drop (k+1):=by
 rw[List.drop_eq_getElem_cons h,List.getD_eq_getElem?_getD,List.getElem?_eq_getElem h];rfl
theorem D6 {α:Type} {p:α→Bool}:∀{l:List α} {k:Nat},Vt p l k<k+l.length∧-1≤Vt p l k
 |[],k=>by simp[Vt];omega
 | x :: l, k => by
  unfold Vt
  split
  ·simp only[List.length_cons];omega
  ·have:=D6 (p:=p) (l:=l) (k:=k+1)
   simp only[List.length_cons];omega
theorem Uo {l:List Sta} {s:ByteArray}:J0 l s<l.length:=by have:=(D6 (p:=fun x=>x.1.toList==s.toList) (l:=l) (k:=0)).1;unfold J0;omega
theorem U2 {l:List Ord} {s:ByteArray}:Uv l s<l.length:=by have:=(D6 (p:=fun x=>x.1.toList==s.toList) (l:=l) (k:=0)).1;unfold Uv;omega
theorem U0 {l:List Out} {s:ByteArray}:K1 l s<l.length:=by have:=(D6 (p:=fun x=>x.1.toList==s.toList) (l:=l) (k:=0)).1;unfold K1;omega
theorem U1 {l:List Per} {s:ByteArray}:Yi l s<l.length:=by have:=(D6 (p:=fun x=>x.1.toList==s.toList) (l:=l) (k:=0)).1;unfold Yi;omega
def Kj (M:List Met) (n:ByteArray) (h:Int):Int:=Vt (fun x=>bif x.1.toList==n.toList then x.2.1==h else false) M 0
theorem Jbo {l:List Met} {s:ByteArray} {h:Int}:Kj l s h<l.length:=by have:=(D6 (p:=fun x=>bif x.1.toList==s.toList then x.2.1==h else false) (l:=l) (k:=0)).1;unfold Kj;omega
structure Jxw (x:Sta):Prop where
 lim:1≤x.2.1∧x.2.1≤1000
 pri:0≤x.2.2∧x.2.2≤1000
structure Jlm (x:Int×Int):Prop where
 lo:0≤x.1
 mid:x.1≤x.2
 hi:x.2≤999999999
 len:x.2-x.1≤48
structure Jf2 (S:List Sta) (x:Ord):Prop where
 span:Jlm x.2.2.2.1
 pow:1≤x.2.2.2.2.1∧x.2.2.2.2.1≤1000
 pri:0≤x.2.2.2.2.2.1∧x.2.2.2.2.2.1≤1000
 trip: -1≤x.2.2.2.2.2.2∧x.2.2.2.2.2.2≤999999999
 fr:0≤J0 S x.2.1
 tu:0≤J0 S x.2.2.1
structure Jrc (x:Met):Prop where
 hour:0≤x.2.1∧x.2.1≤999999999
 sent:0≤x.2.2.1∧x.2.2.1≤1000
 got:0≤x.2.2.2∧x.2.2.2≤x.2.2.1
structure Jmq (S:List Sta) (x:Out):Prop where
 span:Jlm x.2.2.1
 rest:0≤x.2.2.2∧x.2.2.2≤1000
 sta:0≤J0 S x.2.1
structure J3 (r:Reg):Prop where
 tk:0≤r.1∧r.1≤999999999
 st:0≤r.2.1∧r.2.1≤r.1
 nS:r.2.2.1.length≤6
 nO:r.2.2.2.1.length≤32
 nM:r.2.2.2.2.1.length≤10000
 nX:r.2.2.2.2.2.1.length≤16
 nQ:r.2.2.2.2.2.2.length≤16
 sta:∀x∈r.2.2.1,Jxw x
 ord:∀x∈r.2.2.2.1,Jf2 r.2.2.1 x
 met:∀x∈r.2.2.2.2.1,Jrc x
 out:∀x∈r.2.2.2.2.2.1,Jmq r.2.2.1 x
 per:∀x∈r.2.2.2.2.2.2,0≤K1 r.2.2.2.2.2.1 x.2.1
 done:∀x∈r.2.2.2.1,∀h,Jv x h=true→h<r.2.1→0≤Kj r.2.2.2.2.1 x.1 h
def Ll (S:List Sta) (s:ByteArray):Sta:=S.getD (J0 S s).toNat Jx1
def Jws:Con:={args:=[Jcy,aS],ress:=[(true,Jie)],owns:=[],pre:=fun((_,_,S,_),s,_)=>[S.length≤1000000,0≤J0 S s],spec:=fun((_,_,S,_),s,_)=>(Ll S s,())}
def Z23 (a:List Sta) (b:Bt):=0≤J0 a b
theorem Kk5 [Sx.Dr]:Ok Tryz.prog 66 Jws:=okW W33 Tryz.f66 na fun xx=>by
 obtain⟨⟨(tk:Int),(st:Int),(S:List Sta),(O:List Ord),(M:List Met),(X:List Out),(Q:List Per)⟩,(s:ByteArray),_⟩:=xx
 refine(by kernel_rfl:(Z53 S→Z23 S s→(Z53 S∧Tw (Bd (J0 S s) (Ln S)))∧((Gt S (J0 S s) Z17).1,E2 (Gt S (J0 S s) Z17).2)=Ll S s)=_).mp ?_
 delta Z17 Z23 Z53 Bd Tw Ln Gt B0 E2
 exact fun h1 h2=>⟨⟨h1,⟨h2,Uo⟩,⟨h2,Uo⟩⟩,rfl⟩
abbrev W34 [Sx.Dr]:=W33.add Kk5
def Jam (O:List Ord) (s:ByteArray):Ord:=O.getD (Uv O s).toNat K6
def Jwv:Con:={args:=[Jcy,aS],ress:=[(true,Jcw)],owns:=[],pre:=fun((_,_,_,O,_),s,_)=>[O.length≤1000000,0≤Uv O s],spec:=fun((_,_,_,O,_),s,_)=>(Jam O s,())}
def Kh4 (a:List Ord) (b:Bt):=Gt a (Uv a b) Jhz
def Khy (a:List Ord) (b:Bt):=(Kh4 a b).2
def Khu (a:List Ord) (b:Bt):=(Khy a b).2
def Khs (a:List Ord) (b:Bt):=(Khu a b).2
def Khp (a:List Ord) (b:Bt):=(Khs a b).2
theorem J8j [Sx.Dr]:Ok Tryz.prog 150 Jwv:=okW W34 Tryz.f150 na fun xx=>by
 obtain⟨⟨(tk:Int),(st:Int),(S:List Sta),(O:List Ord),(M:List Met),(X:List Out),(Q:List Per)⟩,(s:ByteArray),_⟩:=xx
 refine(by kernel_rfl:(Z41 O→0≤Uv O s→(Z41 O∧Tw (Bd (Uv O s) (Ln O)))∧((Kh4 O s).1,(Khy O s).1,(Khu O s).1,E2 (Khs O s).1,(Khp O s).1,E2 (Khp O s).2)=Jam O s)=_).mp ?_
 delta Z41 Z65 Jhz Kh4 Khy Khu Khs Khp Bd Tw Ln Gt B0 E2
 exact fun h1 h2=>⟨⟨h1,⟨h2,U2⟩,⟨h2,U2⟩⟩,rfl⟩
abbrev W35 [Sx.Dr]:=W34.add J8j
def Jbh (X:List Out) (s:ByteArray):Out:=X.getD (K1 X s).toNat Job
def Jwu:Con:={args:=[Jcy,aS],ress:=[(true,Jgl)],owns:=[],pre:=fun((_,_,_,_,_,X,_),s,_)=>[X.length≤1000000,0≤K1 X s],spec:=fun((_,_,_,_,_,X,_),s,_)=>(Jbh X s,())}
def J6s (a:List Out) (b:Bt):=(Gt a (K1 a b) Jmy).2
theorem J8h [Sx.Dr]:Ok Tryz.prog 152 Jwu:=okW W35 Tryz.f152 na fun xx=>by
 obtain⟨⟨(tk:Int),(st:Int),(S:List Sta),(O:List Ord),(M:List Met),(X:List Out),(Q:List Per)⟩,(s:ByteArray),_⟩:=xx
 refine(by kernel_rfl:(Z42 X→0≤K1 X s→(Z42 X∧Tw (Bd (K1 X s) (Ln X)))∧((Gt X (K1 X s) Jmy).1,(J6s X s).1,E2 (J6s X s).2.1,(J6s X s).2.2)=Jbh X s)=_).mp ?_
 delta Z42 Jmy J6s Bd Tw Ln Gt B0 E2
 exact fun h1 h2=>⟨⟨h1,⟨h2,U0⟩,⟨h2,U0⟩⟩,rfl⟩
abbrev W36 [Sx.Dr]:=W35.add J8h
def Jtw (Q:List Per) (s:ByteArray):Per:=Q.getD (Yi Q s).toNat Jr9
def Jwt:Con:={args:=[Jcy,aS],ress:=[(true,Ja5)],owns:=[],pre:=fun((_,_,_,_,_,_,Q),s,_)=>[Q.length≤1000000,0≤Yi Q s],spec:=fun((_,_,_,_,_,_,Q),s,_)=>(Jtw Q s,())}
theorem J8d [Sx.Dr]:Ok Tryz.prog 156 Jwt:=okW W36 Tryz.f156 na fun xx=>by
 obtain⟨⟨(tk:Int),(st:Int),(S:List Sta),(O:List Ord),(M:List Met),(X:List Out),(Q:List Per)⟩,(s:ByteArray),_⟩:=xx
 refine(by kernel_rfl:(Z44 Q→0≤Yi Q s→(Z44 Q∧Tw (Bd (Yi Q s) (Ln Q)))∧((Gt Q (Yi Q s) (B0,B0,false)).1,E2 (Gt Q (Yi Q s) (B0,B0,false)).2)=Jtw Q s)=_).mp ?_
 delta Z44 Bd Tw Ln Gt B0 E2
 exact fun h1 h2=>⟨⟨h1,⟨h2,U1⟩,⟨h2,U1⟩⟩,rfl⟩
abbrev W37 [Sx.Dr]:=W36.add J8d
def Vk:List Ord→ByteArray→Int→Int
 |[],_,_=>0
 |x::l,s,h=>(bif bif Dj x s then Jv x h else false then x.2.2.2.2.1 else 0)+Vk l s h
theorem Jkd {S:List Sta} {s:ByteArray} {h:Int}:∀{O:List Ord},(∀x∈O,Jf2 S x)→0≤Vk O s h∧Vk O s h≤1000*O.length
 |[],_=>by simp[Vk]
 |x::l,hO=>by
  have:=Jkd (s:=s) (h:=h) (O:=l) fun y hy=>hO y (List.mem_cons_of_mem _ hy)
  have hx:=(hO x (List.mem_cons_self ..)).pow
  unfold Vk
  simp only[List.length_cons]
  cases(bif Dj x s then Jv x h else false)<;>simp only[cond_true,cond_false]<;>omega
def J91:Con:={args:=[Jcy,aS,aI],ress:=[I],owns:=[],pre:=fun(r,_)=>[J3 r],spec:=fun((_,_,_,O,_),s,h,_)=>(Vk O s h,())}
abbrev Jxb (O:List Ord) (s:ByteArray) (h:Int):Ann:={X:=Nat×Int,σ:=fun(k,n)=>⟨1,[(1, .one (.str s)),(2, .one (.int .i64 h)),(7, .one (.int .i64 n)),(11, .one (.sl 0)),(12, .one (.int .i64 O.length)),(13, .one (.int .i64 k))],[(0, .imm 108 Jcw O)]⟩,inv:=fun(k,n)=>k≤O.length∧0≤n∧n≤1000*k∧n+Vk (O.drop k) s h=Vk O s h,mu:=fun(k,_)=>O.length-k}
def Z38 (a:Nat×Int):=Iw (Nc a.1+1)
def Jtl (a b:Nat×Int):=Nc a.1+1=Nc b.1
def Uf (a b:Int) (c:List Sta) (d:List Ord) (e:List Met) (f:List Out) (g:List Per):=J3 (a,b,c,d,e,f,g)
def J6c (a:List Ord) (b:Nat×Int):=List.getD a b.1 Jhz
def J59 (a:List Ord) (b:Nat×Int):=(J6c a b).2
def J57 (a:List Ord) (b:Nat×Int):=(J59 a b).1
def J55 (a:List Ord) (b:Nat×Int):=(J59 a b).2
def J53 (a:List Ord) (b:Nat×Int):=(J55 a b).2
def J52 (a:List Ord) (b:Nat×Int):=(J55 a b).1
def J5z (a:List Ord) (b:Nat×Int):=(J53 a b).2
def J5y (a:List Ord) (b:Nat×Int):=(J5z a b).1
def Khl (a:Nat×Int) (b:List Ord):=a.2+J5y b a
def J45 (a:Nat×Int) (b:List Ord) (c:Bt) (d:Int):=a.1≤List.length b∧0≤a.2∧a.2≤1000*Nc a.1∧a.2+Vk (List.drop a.1 b) c d=Vk b c d
def Kej (a:Nat×Int) (b:List Ord) (c:Bt) (d:Int) (e:Nat×Int):=J45 a b c d∧List.length b-a.1<List.length b-e.1
def Jyg (a:List Ord) (b:Nat×Int):=((J6c a b).1,J57 a b,J52 a b,E2 (J53 a b).1,J5y a b,E2 (J5z a b).2)
theorem Kk3 [Sx.Dr]:Ok Tryz.prog 68 J91:=okW W37 Tryz.f68 (fun xx=>Dl (Jxb xx.1.2.2.2.1 xx.2.1 xx.2.2.1)) fun xx=>by
 obtain⟨⟨(tk:Int),(st:Int),(S:List Sta),(O:List Ord),(M:List Met),(X:List Out),(Q:List Per)⟩,(s:ByteArray),(h:Int),_⟩:=xx
 refine(by kernel_rfl:(Uf tk st S O M X Q→∃(x:Nat×Int),Sf s (Si h (0=x.2∧Si (Ln O) (0=Nc x.1∧O=O)))∧J45 x O s h∧∀(x:Nat×Int),J45 x O s h→Br (decide (Nc x.1<Ln O)) (Tw (Bd (Nc x.1) (Ln O))∧Br (bif Dj (Jyg O x) s then Jv (Jyg O x) h else false) (Iw (Khl x O)∧Z38 x∧∃(y:Nat×Int),Sf s (Si h (Khl x O=y.2∧Si (Ln O) (Jtl x y∧O=O)))∧Kej y O s h x) (Z38 x∧∃(y:Nat×Int),Sf s (Si h (x.2=y.2∧Si (Ln O) (Jtl x y∧O=O)))∧Kej y O s h x)) (x.2=Vk O s h))=_).mp ?_
 delta Z38 Z65 Jtl Uf Jhz J6c J59 J57 J55 J53 J52 J5z J5y Khl J45 Kej Jyg Br Iw Bd Tw Sf Si Ln Nc B0 E2
 intro hr
 have hO:∀x∈O,Jf2 S x:=hr.ord
 have nO:O.length≤32:=hr.nO
 refine⟨((0:Nat),(0:Int)),⟨rfl,rfl,rfl,rfl,rfl,rfl⟩,⟨Nat.zero_le _,by simp,by simp,by simp⟩,fun(x:Nat×Int) hk=>⟨fun h1=> ?_,fun h1=> ?_⟩⟩
 ·obtain⟨k,n⟩:=x
  have hlt:k<O.length:=by simpa using h1
  have ho:=hO _ (Jf (d:=K6) hlt)
  have hp:=ho.pow
  dsimp only at hk⊢
  obtain⟨k1,k2,k3,k4⟩:=hk
  rw[V5 (d:=K6) hlt,Vk] at k4
  refine⟨⟨by omega,by omega⟩,fun h2=> ?_,fun h2=> ?_⟩
  ·have h3:(bif Dj (O.getD k K6) s then Jv (O.getD k K6) h else false)=true:=h2
   rw[h3,cond_true] at k4
   refine⟨⟨?_, ?_⟩,⟨by omega,by omega⟩,(k+1,n+(O.getD k K6).2.2.2.2.1),⟨rfl,rfl,rfl,rfl,by simp,rfl⟩,⟨by simp only;omega,by simp only;omega,by simp only;omega,by simp only;omega⟩,by simp only;omega⟩
   ·show _≤n+(O.getD k K6).2.2.2.2.1;omega
   ·show n+(O.getD k K6).2.2.2.2.1≤_;omega
  ·have h3:(bif Dj (O.getD k K6) s then Jv (O.getD k K6) h else false)=false:=h2
   rw[h3,cond_false] at k4
   refine⟨⟨by omega,by omega⟩,(k+1,n),⟨rfl,rfl,rfl,rfl,by simp,rfl⟩,⟨by simp only;omega,by simp only;omega,by simp only;omega,by simp only;omega⟩,by simp only;omega⟩
 ·obtain⟨k,n⟩:=x
  have hlt:¬k<O.length:=by simpa using h1
  simp only at hk
  have:k=O.length:=by omega
  rw[this,List.drop_length,Vk] at hk
  show n=_
  omega
abbrev W38 [Sx.Dr]:=W37.add Kk3
theorem Jva {S:List Sta} {s:ByteArray} (h:∀x∈S,Jxw x) (hf:0≤J0 S s):Jxw (Ll S s):=by
 have:=Uo (l:=S) (s:=s)
 exact h _ (Jf (by omega))
def Jrj:List Out→ByteArray→Int→Int→Int
 |[],_,_,n=>n
 |x::l,s,h,n=>Jrj l s h (bif Jx5 x s h then min n x.2.2.2 else n)
def Xm (S:List Sta) (O:List Ord) (X:List Out) (s:ByteArray) (h:Int):Int:=Jrj X s h (Ll S s).2.1-Vk O s h
def J9v:Con:={args:=[Jcy,aS,aI],ress:=[I],owns:=[],pre:=fun(r,s,_)=>[J3 r,0≤J0 r.2.2.1 s],spec:=fun((_,_,S,O,_,X,_),s,h,_)=>(Xm S O X s h,())}
abbrev Jw6 (tk st:Int) (S:List Sta) (O:List Ord) (M:List Met) (X:List Out) (Q:List Per) (s:ByteArray) (h:Int):Ann:={X:=Nat×Int,σ:=fun(k,n)=>⟨6,[(1, .one (.str s)),(2, .one (.int .i64 h)),(3, .one (.ptr 5 0)),(7, .one (.int .i64 n)),(15, .one (.sl 3)),(16, .one (.int .i64 X.length)),(17, .one (.int .i64 k))],[(0, .imm 140 Jie S),(1, .imm 108 Jcw O),(2, .imm 111 Jmu M),(3, .imm 143 Jgl X),(4, .imm 186 Ja5 Q),(5, .box 100 [.int .i64 tk, .int .i64 st, .sl 0, .sl 1, .sl 2, .sl 3, .sl 4])]⟩,inv:=fun(k,n)=>k≤X.length∧0≤n∧n≤1000∧Jrj (X.drop k) s h n=Jrj X s h (Ll S s).2.1,mu:=fun(k,_)=>X.length-k}
def J6y (a:List Out) (b:Nat×Int):=List.getD a b.1 Jmy
def J6v (a:List Out) (b:Nat×Int):=(J6y a b).2.2
def J17 (a:List Sta) (b:List Ord) (c:List Met) (d:List Out) (e:List Per) (f g:Int):=Sf a (Sf b (Sf c (Sf d (Sf e (Si f (g=g))))))
def J46 (a:Nat×Int) (b:List Out) (c:Bt) (d:Int) (e:List Sta):=a.1≤List.length b∧0≤a.2∧a.2≤1000∧Jrj (List.drop a.1 b) c d a.2=Jrj b c d (Ll e c).2.1
def J1u (a b:Nat×Int) (c:List Sta) (d:List Ord) (e:List Met) (f:List Out) (g:List Per) (h i:Int):=Jtl a b∧J17 c d e f g h i
def Kek (a:Nat×Int) (b:List Out) (c:Bt) (d:Int) (e:List Sta) (f:Nat×Int):=J46 a b c d e∧List.length b-a.1<List.length b-f.1
theorem Klp [Sx.Dr]:Ok Tryz.prog 40 J9v:=okW W38 Tryz.f40 (fun xx=>Dl (Jw6 xx.1.1 xx.1.2.1 xx.1.2.2.1 xx.1.2.2.2.1 xx.1.2.2.2.2.1 xx.1.2.2.2.2.2.1 xx.1.2.2.2.2.2.2 xx.2.1 xx.2.2.1)) fun xx=>by
 obtain⟨⟨(tk:Int),(st:Int),(S:List Sta),(O:List Ord),(M:List Met),(X:List Out),(Q:List Per)⟩,(s:ByteArray),(h:Int),_⟩:=xx
 refine(by kernel_rfl:(Uf tk st S O M X Q→Z23 S s→(Z53 S∧Z23 S s)∧∃(x:Nat×Int),Sf s (Si h ((Ll S s).2.1=x.2∧Si (Ln X) (0=Nc x.1∧J17 S O M X Q tk st)))∧J46 x X s h S∧∀(x:Nat×Int),J46 x X s h S→Br (decide (Nc x.1<Ln X)) (Tw (Bd (Nc x.1) (Ln X))∧Br (Jx5 ((J6y X x).1,(J6y X x).2.1,E2 (J6v X x).1,(J6v X x).2) s h) (Z38 x∧∃(y:Nat×Int),Sf s (Si h (min x.2 (J6v X x).2=y.2∧Si (Ln X) (J1u x y S O M X Q tk st)))∧Kek y X s h S x) (Z38 x∧∃(y:Nat×Int),Sf s (Si h (x.2=y.2∧Si (Ln X) (J1u x y S O M X Q tk st)))∧Kek y X s h S x)) ((Uf tk st S O M X Q∧Iw (x.2-Vk O s h))∧x.2-Vk O s h=Xm S O X s h))=_).mp ?_
 delta Z23 Z38 Z53 Jtl Uf Jmy J6y J6v J17 J46 J1u Kek Br Iw Bd Tw Sf Si Ln Nc B0 E2
 intro hr hf
 have hX:∀x∈X,Jmq S x:=hr.out
 have nO:O.length≤32:=hr.nO
 have nX:X.length≤16:=hr.nX
 have nS:S.length≤6:=hr.nS
 have hs:=Jva hr.sta hf
 have hl:=Jkd (s:=s) (h:=h) hr.ord
 refine⟨⟨by omega,hf⟩,((0:Nat),(Ll S s).2.1),⟨rfl,rfl,rfl,rfl,rfl,rfl,rfl,rfl,rfl,rfl,rfl,rfl⟩,⟨Nat.zero_le _, ?_,hs.lim.2,by simp⟩,fun(x:Nat×Int) hk=>⟨fun h1=> ?_,fun h1=> ?_⟩⟩
 ·have:=hs.lim.1
  show 0≤(Ll S s).2.1
  simp only at this
  omega
 ·obtain⟨k,n⟩:=x
  have hlt:k<X.length:=by simpa using h1
  have ho:=(hX _ (Jf (d:=Job) hlt)).rest
  dsimp only at hk⊢
  obtain⟨k1,k2,k3,k4⟩:=hk
  rw[V5 (d:=Job) hlt,Jrj] at k4
  refine⟨⟨by omega,by omega⟩,fun h2=> ?_,fun h2=> ?_⟩
  ·have h3:Jx5 (X.getD k Job) s h=true:=h2
   rw[h3,cond_true] at k4
   exact⟨⟨by omega,by omega⟩,(k+1,min n (X.getD k Job).2.2.2),⟨rfl,rfl,rfl,rfl,by simp,rfl,rfl,rfl,rfl,rfl,rfl,rfl⟩,⟨by simp only;omega,by simp only;omega,by simp only;omega,k4⟩,by simp only;omega⟩
  ·have h3:Jx5 (X.getD k Job) s h=false:=h2
   rw[h3,cond_false] at k4
   exact⟨⟨by omega,by omega⟩,(k+1,n),⟨rfl,rfl,rfl,rfl,by simp,rfl,rfl,rfl,rfl,rfl,rfl,rfl⟩,⟨by simp only;omega,by simp only;omega,by simp only;omega,k4⟩,by simp only;omega⟩
 ·obtain⟨k,n⟩:=x
  have hlt:¬k<X.length:=by simpa using h1
  simp only at hk
  have:k=X.length:=by omega
  rw[this,List.drop_length,Jrj] at hk
  unfold Xm
  have hl2:Vk O s h≤1000*(O.length:Int):=hl.2
  have hl1:0≤Vk O s h:=hl.1
  refine⟨⟨hr, ?_, ?_⟩, ?_⟩
  ·show _≤n-_;omega
  ·show n-_≤_;omega
  ·show n-_=_;omega
abbrev W39 [Sx.Dr]:=W38.add Klp
def Ym (r:Reg) (w:Int) (s:ByteArray):Bool:=bif w==0 then decide (0≤J0 r.2.2.1 s) else bif w==1 then decide (0≤Uv r.2.2.2.1 s) else bif w==2 then decide (0≤K1 r.2.2.2.2.2.1 s) else bif w==3 then decide (0≤Yi r.2.2.2.2.2.2 s) else true
def Kms:Con:={args:=[Jcy,aI,aS],ress:=[Bo],owns:=[],pre:=fun(r,_)=>[J3 r],spec:=fun(r,w,s,_)=>(Ym r w s,())}
theorem Kk7 [Sx.Dr]:Ok Tryz.prog 64 Kms:=okW W39 Tryz.f64 na fun xx=>by
 obtain⟨⟨(tk:Int),(st:Int),(S:List Sta),(O:List Ord),(M:List Met),(X:List Out),(Q:List Per)⟩,(w:Int),(s:ByteArray),_⟩:=xx
 refine(by kernel_rfl:(Uf tk st S O M X Q→Br (w==0) (Z53 S∧decide (0≤J0 S s)=Ym (tk,st,S,O,M,X,Q) w s) (Br (w==1) (Z41 O∧decide (0≤Uv O s)=Ym (tk,st,S,O,M,X,Q) w s) (Br (w==2) (Z42 X∧decide (0≤K1 X s)=Ym (tk,st,S,O,M,X,Q) w s) (Br (w==3) (Z44 Q∧decide (0≤Yi Q s)=Ym (tk,st,S,O,M,X,Q) w s) (true=Ym (tk,st,S,O,M,X,Q) w s)))))=_).mp ?_
 delta Z41 Z42 Z44 Z53 Uf Br
 intro hr
 have nS:S.length≤6:=hr.nS
 have nO:O.length≤32:=hr.nO
 have nX:X.length≤16:=hr.nX
 have nQ:Q.length≤16:=hr.nQ
 unfold Ym
 refine⟨fun h=> ?_,fun h=> ?_⟩
 ·rw[h];exact⟨by omega,rfl⟩
 rw[h]
 refine⟨fun h=> ?_,fun h=> ?_⟩
 ·rw[h];exact⟨by omega,rfl⟩
 rw[h]
 refine⟨fun h=> ?_,fun h=> ?_⟩
 ·rw[h];exact⟨by omega,rfl⟩
 rw[h]
 refine⟨fun h=> ?_,fun h=> ?_⟩
 ·rw[h];exact⟨by omega,rfl⟩
 rw[h];rfl
abbrev W40 [Sx.Dr]:=W39.add Kk7
def Jvz:Met:=(Jz,0,0,0)
def Kmr:Con:={args:=[.val true Jmu, .ref 9 .str, .ref 3 sI],ress:=[Bo],owns:=[],pre:=fun _=>[],spec:=fun(x,s,h,_)=>(bif x.1.toList==s.toList then x.2.1==h else false,())}
theorem Kkz [Sx.Dr]:Ok Tryz.prog 72 Kmr:=okW W40 Tryz.f72 na fun xx=>by
 obtain⟨⟨(a:ByteArray),(b:Int),(c:Int),(d:Int)⟩,(s:ByteArray),(h:Int),_⟩:=xx
 refine(by kernel_rfl:((Lb a s&&(b==h&&(c==c&&(d==d&&true))))=bif Lb a s then b==h else false)=_).mp ?_
 delta Lb
 cases a.toList==s.toList<;>cases b==h<;>simp
abbrev W41 [Sx.Dr]:=W40.add Kkz
def Ju2:=(B0,Z65)
def J64 (a:List Met) (b:Nat):=List.getD a b Ju2
def J5d (a:Nat) (b:List Met) (c:Met×Unit→Bool):=a≤List.length b∧Vt (fun(x:Met)=>c (x,PUnit.unit)) b 0=Vt (fun(x:Met)=>c (x,PUnit.unit)) (List.drop a b) a
def Ken (a:List Met) (b:Nat):=(((J64 a b).1,(J64 a b).2.1,E2 (J64 a b).2.2),PUnit.unit)
theorem Kk0 [Sx.Dr]:Ok Tryz.prog 71 (J0p 111 Jmu true):=okW W41 Tryz.f71 (fun xx=>Dl (Jht 111 Jmu true xx.1 xx.2.1.1 xx.2.1.2)) fun xx=>by
 obtain⟨(l:List Met),⟨(q:Met×Unit→List Prop),(f:Met×Unit→Bool)⟩,_⟩:=xx
 refine(by kernel_rfl:(List.length l≤1000000→(∀(x:Met),x∈l→Kq (q (x,PUnit.unit)))→∃(x:Nat),Si (Ln l) (0=Nc x∧Sf l ((fun(x:Met×PUnit)=>q x)=q∧(fun(x:Met×PUnit)=>f x)=f))∧J5d x l f∧∀(x:Nat),J5d x l f→Br (decide (Nc x<Ln l)) (T2 (Bd (Nc x) (Ln l)) (Kq (q (Ken l x)))∧Br (f (Ken l x)) (Nc x=Vt (fun(x:Met)=>f (x,PUnit.unit)) l 0) (Z20 x∧∃(y:Nat),Si (Ln l) (Z83 x y∧Sf l ((fun(x:Met×PUnit)=>q x)=q∧(fun(x:Met×PUnit)=>f x)=f))∧J5d y l f∧List.length l-y<List.length l-x)) (Z61=Vt (fun(x:Met)=>f (x,PUnit.unit)) l 0))=_).mp ?_
 delta Z20 Z61 Z65 Z83 Ju2 J64 J5d Ken Br Iw Bd T2 Sf Si Ln Nc B0 E2
 intro hb hq
 refine⟨(0:Nat),⟨rfl,rfl,rfl,rfl,rfl⟩,⟨Nat.zero_le _,rfl⟩,fun(k:Nat) hk=>⟨fun h=> ?_,fun h=> ?_⟩⟩
 ·have hlt:k<l.length:=by simpa using h
  have hd:=Hl (p:=fun x=>f (x,())) (d:=Jvz) hlt
  refine⟨⟨by omega,by omega,hq (l.getD k Jvz) (Jf hlt)⟩,fun h1=> ?_,fun h1=>⟨by omega,(k+1:Nat),⟨rfl,rfl,rfl,by simp,rfl⟩,⟨by omega, ?_⟩,by omega⟩⟩
  ·rw[hk.2,hd,if_pos (show f (l.getD k Jvz,())=true from h1)]
  ·rw[hk.2,hd,if_neg (by rw[show f (l.getD k Jvz,())=false from h1];simp)]
 ·have hlt:¬k<l.length:=by simpa using h
  have:k=l.length:=by omega
  rw[hk.2,this,List.drop_length];rfl
abbrev W42 [Sx.Dr]:=W41.add Kk0
def J0i:Con:={args:=[Jcy,aS,aI],ress:=[I],owns:=[],pre:=fun(r,_)=>[J3 r],spec:=fun((_,_,_,_,M,_),s,h,_)=>(Kj M s h,())}
theorem Kll [Sx.Dr]:Ok Tryz.prog 44 J0i:=okW W42 Tryz.f44 na fun xx=>by
 obtain⟨⟨(tk:Int),(st:Int),(S:List Sta),(O:List Ord),(M:List Met),(X:List Out),(Q:List Per)⟩,(s:ByteArray),(h:Int),_⟩:=xx
 refine(by kernel_rfl:(Uf tk st S O M X Q→(List.length M≤1000000∧∀(x:Met),x∈M→True)∧Vt (fun(x:Met)=>match Lb x.1 s with|true=>x.2.1==h|false=>false) M 0=Kj M s h)=_).mp ?_
 delta Uf Lb
 intro hr
 have nM:M.length≤10000:=hr.nM
 exact⟨⟨by omega,fun _ _=>trivial⟩,rfl⟩
abbrev W43 [Sx.Dr]:=W42.add Kll
def Uq (e:Ev):Int×Int:=(e.2.2.2.1.getD 1 0,e.2.2.2.1.getD 2 0)
def J9s:Con:={args:=[aEv],ress:=[(true,Jif)],owns:=[],pre:=fun(e,_)=>[3≤e.2.2.2.1.length],spec:=fun(e,_)=>(Uq e,())}
def Z28 (a:Li):=Bd 1 (Ln a)
def Z48 (a:Li):=3≤List.length a
def Z52 (a:Int) (b:Bt) (c:Ls) (d:Li) (e:Bt):=Uq (a,b,c,d,e)
def Z77 (a:Li):=List.getD a 2 0
def Z85 (a:Li):=List.getD a 1 0
theorem J8l [Sx.Dr]:Ok Tryz.prog 148 J9s:=okW W43 Tryz.f148 na fun xx=>by
 obtain⟨⟨(n:Int),(k:ByteArray),(ns:List ByteArray),(vs:List Int),(t:ByteArray)⟩,_⟩:=xx
 refine(by kernel_rfl:(Z48 vs→T2 (Z28 vs) (Tw (Bd 2 (Ln vs)))∧(Z85 vs,Z77 vs)=Z52 n k ns vs t)=_).mp ?_
 delta Z28 Z48 Z52 Z77 Z85 Bd T2 Tw Ln
 intro h
 exact⟨⟨⟨by omega,by omega⟩,⟨by omega,by omega⟩,⟨by omega,by omega⟩,⟨by omega,by omega⟩⟩,rfl⟩
abbrev W44 [Sx.Dr]:=W43.add J8l
abbrev EvV (e:Ev):Prop:=∀v∈e.2.2.2.1,0≤v∧v≤999999999
def Yt (e:Ev):Int:=bif (bif (bif decide ((Uq e).1<e.2.2.2.1.getD 0 0) then true else decide ((Uq e).2≤(Uq e).1)) then true else decide (48<(Uq e).2-(Uq e).1)) then 14 else 0
def Js5:Con:={args:=[aEv],ress:=[I],owns:=[],pre:=fun(e,_)=>[3≤e.2.2.2.1.length,EvV e],spec:=fun(e,_)=>(Yt e,())}
def Z32 (a:Li):=Bd 0 (Ln a)
def Z76 (a:Li):=List.getD a 0 0
def Kex (a:Int) (b:Bt) (c:Ls) (d:Li) (e:Bt):=bif decide ((Z52 a b c d e).1<Z76 d) then true else decide ((Z52 a b c d e).2≤(Z52 a b c d e).1)
theorem J8n [Sx.Dr]:Ok Tryz.prog 146 Js5:=okW W44 Tryz.f146 na fun xx=>by
 obtain⟨⟨(n:Int),(k:ByteArray),(ns:List ByteArray),(vs:List Int),(t:ByteArray)⟩,_⟩:=xx
 refine(by kernel_rfl:(Z48 vs→EvV (n,k,ns,vs,t)→Z48 vs∧T2 (Z32 vs) (Kex n k ns vs t=false→Iw ((Z52 n k ns vs t).2-(Z52 n k ns vs t).1))∧(bif bif Kex n k ns vs t then true else decide (48<(Z52 n k ns vs t).2-(Z52 n k ns vs t).1) then 14 else 0)=Yt (n,k,ns,vs,t))=_).mp ?_
 delta Z32 Z48 Z52 Z76 Kex Iw Bd T2 Ln
 intro h hv
 refine⟨h,⟨⟨by omega,by omega⟩,⟨by omega,by omega⟩,fun _=> ?_⟩,rfl⟩
 have h1:=hv (vs.getD 1 0) (Jf (show 1<vs.length by omega))
 have h2:=hv (vs.getD 2 0) (Jf (show 2<vs.length by omega))
 unfold Uq
 simp only
 omega
abbrev W45 [Sx.Dr]:=W44.add J8n
abbrev Gap:=ByteArray×Int
abbrev Jx2:Sch:= .prod .str sI
def Je4 (M:List Met) (u:Int) (x:Ord):Int→Nat→List Gap
 |_,0=>[]
 |h,n+1=>(bif Jv x h&&(decide (h<u)&&decide (Kj M x.1 h<0)) then[(x.1,h)] else[])++Je4 M u x (h+1) n
def Jiu (M:List Met) (u:Int) (x:Ord):List Gap:=Je4 M u x x.2.2.2.1.1 (x.2.2.2.1.2-x.2.2.2.1.1).toNat
def Ur (M:List Met) (u:Int):List Ord→List Gap
 |[]=>[]
 |x::l=>Jiu M u x++Ur M u l
def J90:Con:={args:=[Jcy,aI],ress:=[(false, .list 49 Jx2)],owns:=[true],pre:=fun(r,_)=>[J3 r],spec:=fun((_,_,_,O,M,_),u,_)=>(Ur M u O,())}
abbrev Jxa (tk st:Int) (S:List Sta) (O:List Ord) (M:List Met) (X:List Out) (Q:List Per) (u:Int):Ann:={X:=Nat×List Gap,σ:=fun(k,o)=>⟨9,[(2, .one (.ptr 5 0)),(3, .one (.ptr 6 0)),(5, .one (.ptr 7 0)),(10, .one (.sl 1)),(11, .one (.int .i64 O.length)),(12, .one (.int .i64 k))],[(0, .imm 140 Jie S),(1, .imm 108 Jcw O),(2, .imm 111 Jmu M),(3, .imm 143 Jgl X),(4, .imm 186 Ja5 Q),(5, .box 100 [.int .i64 tk, .int .i64 st, .sl 0, .sl 1, .sl 2, .sl 3, .sl 4]),(6, .box 3 [.int .i64 u]),(7, .box 45 [.sl 8]),(8, .own 49 Jx2 o)]⟩,inv:=fun(k,o)=>k≤O.length∧o.length≤48*k∧o++Ur M u (O.drop k)=Ur M u O,mu:=fun(k,_)=>O.length-k}
abbrev bxO (x:Ord):List SC:=[.str x.1, .str x.2.1, .str x.2.2.1, .int .i64 x.2.2.2.1.1, .int .i64 x.2.2.2.1.2, .int .i64 x.2.2.2.2.1, .int .i64 x.2.2.2.2.2.1, .int .i64 x.2.2.2.2.2.2]
def Um (x:Ord):Nat:=(x.2.2.2.1.2-x.2.2.2.1.1).toNat
abbrev Jtd (tk st:Int) (S:List Sta) (O:List Ord) (M:List Met) (X:List Out) (Q:List Per) (u:Int):Ann:={X:=Nat×List Gap×Nat,σ:=fun(k,o,j)=>⟨16,[(0, .one (.fv 13)),(1, .one (.ptr 11 0)),(3, .one (.int .i64 ((O.getD k K6).2.2.2.1.1+j)))],[(0, .imm 140 Jie S),(1, .imm 108 Jcw O),(2, .imm 111 Jmu M),(3, .imm 143 Jgl X),(4, .imm 186 Ja5 Q),(5, .box 100 [.int .i64 tk, .int .i64 st, .sl 0, .sl 1, .sl 2, .sl 3, .sl 4]),(6, .box 3 [.int .i64 u]),(7, .box 45 [.sl 15]),(9, .box 108 (bxO (O.getD k K6))),(11, .box 108 (bxO (O.getD k K6))),(13, .yld .ready),(14, .sus [(2, .one (.ptr 5 0)),(3, .one (.ptr 6 0)),(5, .one (.ptr 7 0)),(7, .one (.ptr 9 0)),(10, .one (.sl 1)),(11, .one (.int .i64 O.length)),(12, .one (.int .i64 k))]),(15, .own 49 Jx2 o)]⟩,inv:=fun(k,o,j)=>J3 (tk,st,S,O,M,X,Q)∧k<O.length∧j≤Um (O.getD k K6)∧o.length≤48*k+j∧o++(Je4 M u (O.getD k K6) ((O.getD k K6).2.2.2.1.1+j) (Um (O.getD k K6)-j)++Ur M u (O.drop (k+1)))=Ur M u O,mu:=fun(k,_,j)=>Um (O.getD k K6)-j,rel:=some fun x y=>y.1=x.1}
theorem Jqo (a b:Bool):(bif a then b else false)=(a&&b):=by cases a<;>rfl
def Z1 (a:List Ord) (b:Nat×List (Bt×Int)×Nat):=List.getD a b.1 K6
def Z5 (a:List Ord) (b:Nat×List Gap×Nat):=List.getD a b.1 K6
def Z36:List (ByteArray×Int):=[]
def Z68 (a:List Ord) (b:Nat×List (Bt×Int)×Nat):=(Z1 a b).2.2.2.1
def Z69 (a:List Ord) (b:Nat×List (Bt×Int)×Nat):=(Z1 a b).2.2.2.2
def Z70 (a:List Ord) (b:Nat×List Gap×Nat):=(Z5 a b).2.2.2.1
def Z75 (a:List Ord) (b:Nat×List Gap×Nat):=(Z5 a b).2.2.2.2
def Jux (a:List Ord) (b:Nat×List Gap×Nat):=(Z70 a b).1+Nc b.2.2
def J2u (a:List Ord) (b:Nat×List Gap×Nat) (c:Nat×List (Bt×Int)×Nat):=(Z5 a b).1=(Z1 a c).1
def J2s (a:List Ord) (b:Nat×List Gap×Nat) (c:Nat×List (Bt×Int)×Nat):=(Z5 a b).2.1=(Z1 a c).2.1
def J6x (a:List Ord) (b:Nat×List Gap×Nat):=Jux a b+1
def J2r (a:List Ord) (b:Nat×List Gap×Nat) (c:Nat×List (Bt×Int)×Nat):=(Z5 a b).2.2.1=(Z1 a c).2.2.1
def J2k (a:List Ord) (b:Nat×List Gap×Nat) (c:Nat×List (Bt×Int)×Nat):=(Z70 a b).2=(Z68 a c).2
def J2j (a:List Ord) (b:Nat×List Gap×Nat) (c:Nat×List (Bt×Int)×Nat):=(Z70 a b).1=(Z68 a c).1
def J2i (a:List Ord) (b:Nat×List Gap×Nat) (c:Nat×List (Bt×Int)×Nat):=(Z75 a b).1=(Z69 a c).1
def J2f (a:List Ord) (b:Nat×List Gap×Nat) (c:Nat×List (Bt×Int)×Nat):=(Z75 a b).2.2=(Z69 a c).2.2
def J2e (a:List Ord) (b:Nat×List Gap×Nat) (c:Nat×List (Bt×Int)×Nat):=(Z75 a b).2.1=(Z69 a c).2.1
def Kid (a:List Ord) (b:Nat×List Gap):=List.getD a b.1 Jhz
def Kib (a:List Ord) (b:Nat×List Gap):=(Kid a b).2
def Kh8 (a:List Ord) (b:Nat×List Gap):=(Kib a b).2
def Kh6 (a:List Ord) (b:Nat×List Gap):=(Kh8 a b).2
def Kh3 (a:List Ord) (b:Nat×List Gap):=(Kh6 a b).2
def Kh2 (a:List Ord) (b:Nat×List Gap):=(Kh6 a b).1
def Khx (a:List Ord) (b:Nat×List Gap):=(Kh3 a b).2
def Khw (a:List Ord) (b:Nat×List Gap):=(Kh2 a b).1
def Kg9 (a:List Ord) (b:Nat×List Gap×Nat) (c:Nat×List (Bt×Int)×Nat):=J6x a b=(Z68 a c).1+Nc c.2.2
def Kg5 (a:Nat×List Gap×Nat) (b:List Ord):=a.2.1++((Z5 b a).1,Jux b a)::Z36
def Kg1 (a:List Ord) (b:Nat×List Gap) (c:Nat×List (Bt×Int)×Nat):=(Kid a b).1=(Z1 a c).1
def Kgh (a:List Ord) (b:Nat×List Gap) (c:Nat×List (Bt×Int)×Nat):=(Kib a b).1=(Z1 a c).2.1
def Kfu (a:List Ord) (b:Nat×List Gap) (c:Nat×List (Bt×Int)×Nat):=(Kh8 a b).1=(Z1 a c).2.2.1
def Kfp (a:Nat×List (Bt×Int)) (b:List Ord) (c:List Met) (d:Int):=a.1≤List.length b∧List.length a.2≤48*a.1∧a.2++Ur c d (List.drop a.1 b)=Ur c d b
def Kfk (a:List Ord) (b:Nat×List Gap) (c:Nat×List (Bt×Int)×Nat):=(Kh3 a b).1=(Z69 a c).1
def Kfj (a:List Ord) (b:Nat×List Gap) (c:Nat×List (Bt×Int)×Nat):=(Kh2 a b).2=(Z68 a c).2
def Kfi (a:List Ord) (b:Nat×List Gap) (c:Nat×List (Bt×Int)×Nat):=Khw a b=(Z68 a c).1
def Kfb (a:List Ord) (b:Nat×List Gap) (c:Nat×List (Bt×Int)×Nat):=(Khx a b).1=(Z69 a c).2.1
def Ke9 (a:List Ord) (b:Nat×List Gap) (c:Nat×List (Bt×Int)×Nat):=(Khx a b).2=(Z69 a c).2.2
def Ker (a:Nat×List (Bt×Int)) (b:List Ord) (c:List Met) (d:Int) (e:Nat×List Gap):=Kfp a b c d∧List.length b-a.1<List.length b-e.1
def Kdi (a b:Int) (c:List Sta) (d:List Ord) (e:List Met) (f:List Out) (g:List Per) (h:Nat×List (Bt×Int)×Nat) (i:Int):=Uf a b c d e f g∧h.1<List.length d∧h.2.2≤Um (List.getD d h.1 K6)∧List.length h.2.1≤48*h.1+h.2.2∧h.2.1++(Je4 e i (List.getD d h.1 K6) ((List.getD d h.1 K6).2.2.2.1.1+Nc h.2.2) (Um (List.getD d h.1 K6)-h.2.2)++Ur e i (List.drop (h.1+1) d))=Ur e i d
def Kc8 (a:Nat×List Gap×Nat) (b:List Ord) (c:List Sta) (d:List Met) (e:List Out) (f:List Per) (g h i:Int) (j:Nat×List Gap):=Iw (Nc a.1+1)∧∃(y:Nat×List (ByteArray×Int)),Si (Ln b) (Nc a.1+1=Nc y.1∧Sf c (Sf b (Sf d (Sf e (Sf f (Si g (Si h (Si i (a.2.1=y.2)))))))))∧Ker y b d i j
def Kc6 (a b:Int) (c:List Sta) (d:List Ord) (e:List Met) (f:List Out) (g:List Per) (h:Nat×List (Bt×Int)×Nat) (i:Int) (j:Nat×List (Bt×Int)×Nat) (k:Nat×List Gap×Nat):=(Kdi a b c d e f g h i∧h.1=j.1)∧Um (List.getD d h.1 K6)-h.2.2<Um (List.getD d k.1 K6)-k.2.2
def Kaw (a:Nat×List Gap×Nat) (b:List Ord) (c:List Sta) (d:List Met) (e:List Out) (f:List Per) (g h i:Int) (j:Nat×List Gap) (k:Nat×List (Bt×Int)×Nat):=Br false (Kc8 a b c d e f g h i j) (Iw (J6x b a)∧∃(y:Nat×List (ByteArray×Int)×Nat),(Kg9 b a y∧Sf c (Sf b (Sf d (Sf e (Sf f (Si g (Si h (Si i (J2u b a y∧J2s b a y∧J2r b a y∧J2j b a y∧J2k b a y∧J2i b a y∧J2e b a y∧J2f b a y∧J2u b a y∧J2s b a y∧J2r b a y∧J2j b a y∧J2k b a y∧J2i b a y∧J2e b a y∧J2f b a y∧Si (Ln b) (Nc a.1=Nc y.1∧a.2.1=y.2.1))))))))))∧Kc6 g h c b d e f y i k a)
theorem Klo [Sx.Dr]:Ok Tryz.prog 41 J90:=Jvl W45 Tryz.f41 (Un (l:=([(69,Tryz.f69),(97,Tryz.f97)]:List (Nat×Func))) (List.forall_mem_cons.2 ⟨by kernel_rfl,List.forall_mem_cons.2 ⟨by kernel_rfl,by simp⟩⟩)) (fun xx=>Dl (Jxa xx.1.1 xx.1.2.1 xx.1.2.2.1 xx.1.2.2.2.1 xx.1.2.2.2.2.1 xx.1.2.2.2.2.2.1 xx.1.2.2.2.2.2.2 xx.2.1)) (fun xx=>fun f id=>if f=97 then some (Jtd xx.1.1 xx.1.2.1 xx.1.2.2.1 xx.1.2.2.2.1 xx.1.2.2.2.2.1 xx.1.2.2.2.2.2.1 xx.1.2.2.2.2.2.2 xx.2.1) else none) fun xx=>by
 obtain⟨⟨(tk:Int),(st:Int),(S:List Sta),(O:List Ord),(M:List Met),(X:List Out),(Q:List Per)⟩,(u:Int),_⟩:=xx
 refine(by kernel_rfl:(Uf tk st S O M X Q→∃(x:Nat×List (ByteArray×Int)),Si (Ln O) (0=Nc x.1∧Sf S (Sf O (Sf M (Sf X (Sf Q (Si tk (Si st (Si u (List.length x.2=0)))))))))∧Kfp x O M u∧∀(x:Nat×List Gap),x.1≤List.length O∧List.length x.2≤48*x.1∧x.2++Ur M u (List.drop x.1 O)=Ur M u O→Br (decide (Nc x.1<Ln O)) (Tw (Bd (Nc x.1) (Ln O))∧∃(x0:Nat×List (ByteArray×Int)×Nat),(Khw O x=(Z68 O x0).1+Nc x0.2.2∧Sf S (Sf O (Sf M (Sf X (Sf Q (Si tk (Si st (Si u (Kg1 O x x0∧Kgh O x x0∧Kfu O x x0∧Kfi O x x0∧Kfj O x x0∧Kfk O x x0∧Kfb O x x0∧Ke9 O x x0∧Kg1 O x x0∧Kgh O x x0∧Kfu O x x0∧Kfi O x x0∧Kfj O x x0∧Kfk O x x0∧Kfb O x x0∧Ke9 O x x0∧Si (Ln O) (Nc x.1=Nc x0.1∧x.2=x0.2.1))))))))))∧(Kdi tk st S O M X Q x0 u∧x0.1=x0.1)∧∀(x_1:Nat×List Gap×Nat),(Uf tk st S O M X Q∧x_1.1<List.length O∧x_1.2.2≤Um (List.getD O x_1.1 K6)∧List.length x_1.2.1≤48*x_1.1+x_1.2.2∧x_1.2.1++(Je4 M u (List.getD O x_1.1 K6) ((List.getD O x_1.1 K6).2.2.2.1.1+Nc x_1.2.2) (Um (List.getD O x_1.1 K6)-x_1.2.2)++Ur M u (List.drop (x_1.1+1) O))=Ur M u O)∧x_1.1=x0.1→Br (decide (Jux O x_1<(Z70 O x_1).2)) (Br (Jv ((Z5 O x_1).1,(Z5 O x_1).2.1,(Z5 O x_1).2.2.1,E2 (Z70 O x_1),(Z75 O x_1).1,E2 (Z75 O x_1).2) (Jux O x_1)) ((decide (Jux O x_1<u)=true→Uf tk st S O M X Q)∧Br (bif decide (Jux O x_1<u) then decide (Kj M (Z5 O x_1).1 (Jux O x_1)<0) else false) ((List.length x_1.2.1+1)*24≤140737488355328∧Br false (Iw (Nc x_1.1+1)∧∃(y:Nat×List (ByteArray×Int)),Si (Ln O) (Nc x_1.1+1=Nc y.1∧Sf S (Sf O (Sf M (Sf X (Sf Q (Si tk (Si st (Si u (Kg5 x_1 O=y.2)))))))))∧Ker y O M u x) (Iw (J6x O x_1)∧∃(y:Nat×List (ByteArray×Int)×Nat),(Kg9 O x_1 y∧Sf S (Sf O (Sf M (Sf X (Sf Q (Si tk (Si st (Si u (J2u O x_1 y∧J2s O x_1 y∧J2r O x_1 y∧J2j O x_1 y∧J2k O x_1 y∧J2i O x_1 y∧J2e O x_1 y∧J2f O x_1 y∧J2u O x_1 y∧J2s O x_1 y∧J2r O x_1 y∧J2j O x_1 y∧J2k O x_1 y∧J2i O x_1 y∧J2e O x_1 y∧J2f O x_1 y∧Si (Ln O) (Nc x_1.1=Nc y.1∧Kg5 x_1 O=y.2.1))))))))))∧Kc6 tk st S O M X Q y u x0 x_1)) (Kaw x_1 O S M X Q tk st u x x0)) (Kaw x_1 O S M X Q tk st u x x0)) (Kc8 x_1 O S M X Q tk st u x)) (Sf true (x.2=Ur M u O)))=_).mp ?_
 delta Z1 Z5 Z36 Z65 Z68 Z69 Z70 Z75 Uf Jux J2u J2s J6x J2r Jhz J2k J2j J2i J2f J2e Kid Kib Kh8 Kh6 Kh3 Kh2 Khx Khw Kg9 Kg5 Kg1 Kgh Kfu Kfp Kfk Kfj Kfi Kfb Ke9 Ker Kdi Kc8 Kc6 Kaw Br Iw Bd Tw Sf Si Ln Nc B0 E2
 intro hr
 have nO:O.length≤32:=hr.nO
 refine⟨((0:Nat),[]),by(repeat' first|exact rfl|apply And.intro|exact(Int.add_zero _).symm|omega|dsimp only;omega),⟨Nat.zero_le _,Nat.zero_le _,rfl⟩,fun(x:Nat×List Gap) hk=>⟨fun h1=> ?_,fun h1=> ?_⟩⟩
 ·obtain⟨k,o⟩:=x
  have hlt:k<O.length:=by simpa using h1
  obtain⟨k1,k2,k3⟩:=hk
  dsimp only at k1 k2 k3
  rw[V5 (d:=K6) hlt,Ur,Jiu] at k3
  refine⟨⟨⟨by dsimp only;omega,by dsimp only;omega⟩,by dsimp only;omega,by dsimp only;omega⟩,(k,o,(0:Nat)), ?_,⟨⟨hr,hlt,Nat.zero_le _,by simpa using k2, ?_⟩,rfl⟩,fun(y:Nat×List Gap×Nat) hy=> ?_⟩
  ·repeat' first|exact rfl|apply And.intro|exact(Int.add_zero _).symm|omega|dsimp only;omega
  ·simpa[Um] using k3
  obtain⟨k',o,j⟩:=y
  obtain⟨⟨_,i1,i2,i3,i4⟩,hkk⟩:=hy
  have hkk:k'=k:=hkk
  subst hkk
  dsimp only at i1 i2 i3 i4
  have ho:Jlm (O.getD k' K6).2.2.2.1:=(hr.ord (O.getD k' K6) (Jf hlt)).span
  have hn:Um (O.getD k' K6)≤48∧(Um (O.getD k' K6):Int)=(O.getD k' K6).2.2.2.1.2-(O.getD k' K6).2.2.2.1.1:=by
   have:=ho.mid;have:=ho.len
   unfold Um
   constructor<;>omega
  have b1:=ho.lo
  have b2:=ho.hi
  refine⟨fun h2=> ?_,fun h2=> ?_⟩
  ·have h2:(O.getD k' K6).2.2.2.1.1+(j:Int)<(O.getD k' K6).2.2.2.1.2:=of_decide_eq_true h2
   have hj:Um (O.getD k' K6)-j=(Um (O.getD k' K6)-(j+1))+1:=by omega
   rw[hj,Je4] at i4
   have hB: -9223372036854775808≤(O.getD k' K6).2.2.2.1.1+(j:Int)+1∧(O.getD k' K6).2.2.2.1.1+(j:Int)+1≤9223372036854775807:=by omega
   have hc:(O.getD k' K6).2.2.2.1.1+(j:Int)+1=(O.getD k' K6).2.2.2.1.1+((j+1:Nat):Int):=by omega
   refine⟨fun h3=>⟨fun _=>hr,fun h4=>⟨by dsimp only;omega,fun f=>(by cases f),fun _=>⟨hB,(k',o++[((O.getD k' K6).1,(O.getD k' K6).2.2.2.1.1+(j:Int))],j+1), ?_,⟨⟨hr,hlt,by dsimp only;omega,by simp;omega, ?_⟩,rfl⟩,by dsimp only;omega⟩⟩,fun h4=>⟨fun f=>(by cases f),fun _=>⟨hB,(k',o,j+1), ?_,⟨⟨hr,hlt,by dsimp only;omega,by dsimp only;omega, ?_⟩,rfl⟩,by dsimp only;omega⟩⟩⟩,fun h3=>⟨fun f=>(by cases f),fun _=>⟨hB,(k',o,j+1), ?_,⟨⟨hr,hlt,by dsimp only;omega,by dsimp only;omega, ?_⟩,rfl⟩,by dsimp only;omega⟩⟩⟩
   ·repeat' first|exact rfl|apply And.intro|exact(Int.add_zero _).symm|omega|dsimp only;omega
   ·have h3:Jv (O.getD k' K6) ((O.getD k' K6).2.2.2.1.1+(j:Int))=true:=h3
    have h4:(bif decide ((O.getD k' K6).2.2.2.1.1+(j:Int)<u) then decide (Kj M (O.getD k' K6).1 ((O.getD k' K6).2.2.2.1.1+(j:Int))<0) else false)=true:=h4
    rw[Jqo] at h4
    rw[h3,Bool.true_and,h4,hc] at i4
    rw[←i4]
    simp
   ·repeat' first|exact rfl|apply And.intro|exact(Int.add_zero _).symm|omega|dsimp only;omega
   ·have h3:Jv (O.getD k' K6) ((O.getD k' K6).2.2.2.1.1+(j:Int))=true:=h3
    have h4:(bif decide ((O.getD k' K6).2.2.2.1.1+(j:Int)<u) then decide (Kj M (O.getD k' K6).1 ((O.getD k' K6).2.2.2.1.1+(j:Int))<0) else false)=false:=h4
    rw[Jqo] at h4
    rw[h3,Bool.true_and,h4,hc] at i4
    rw[←i4]
    simp
   ·repeat' first|exact rfl|apply And.intro|exact(Int.add_zero _).symm|omega|dsimp only;omega
   ·have h3:Jv (O.getD k' K6) ((O.getD k' K6).2.2.2.1.1+(j:Int))=false:=h3
    rw[h3,hc] at i4
    rw[←i4]
    simp
  ·have h2:¬(O.getD k' K6).2.2.2.1.1+(j:Int)<(O.getD k' K6).2.2.2.1.2:=of_decide_eq_false h2
   have hj:Um (O.getD k' K6)-j=0:=by omega
   rw[hj,Je4] at i4
   refine⟨⟨by dsimp only;omega,by dsimp only;omega⟩,(k'+1,o), ?_,⟨by dsimp only;omega,by dsimp only;omega,by simpa using i4⟩,by dsimp only;omega⟩
   repeat' first|exact rfl|apply And.intro|exact(Int.add_zero _).symm|omega|dsimp only;omega
 ·obtain⟨k,o⟩:=x
  have hlt:¬k<O.length:=by simpa using h1
  obtain⟨k1,k2,k3⟩:=hk
  dsimp only at k1 k2 k3
  have:k=O.length:=by omega
  rw[this,List.drop_length,Ur,List.append_nil] at k3
  exact⟨rfl,k3⟩
abbrev W46 [Sx.Dr]:=W45.add Klo
abbrev aE:AK:=aEv
abbrev Jxc (T U:TypeId) (s:Sch) (l:List s.T) (g:Bool) (q:Tup [(g,s)]→List Prop) (f:Tup [(g,s)]→Bool):Ann:={X:=Nat,σ:=fun k=>⟨3,[(1, .one (.fv 1)),(5, .one (.sl 2)),(8, .one (.sl 0)),(9, .one (.int .i64 l.length)),(10, .one (.int .i64 k))],[(0, .imm T s l),(1, .afn [(g,s)] Bo q f),(2, .own U s ((l.take k).filter fun x=>f (x,())))]⟩,inv:=fun k=>k≤l.length,mu:=fun k=>l.length-k}
def J0n:Con:={args:=[.val false (.list 186 Ja5), .fn [(true,Ja5)] Bo],ress:=[(false, .list 186 Ja5)],owns:=[true],pre:=fun(l,(q,_),_)=>[l.length≤1000000,∀x∈l,Kq (q (x,()))],spec:=fun(l,(_,f),_)=>(l.filter fun x=>f (x,()),())}
theorem Jpk {α:Type} {p:α→Bool} {l:List α} {k:Nat} (h:k≤l.length):((l.take k).filter p).length≤k:=by
 have:=List.length_filter_le p (l.take k)
 rw[List.length_take] at this
 omega
def Juu (a:Per×Unit→Bool) (b:Nat) (c:List Per):=List.filter (fun(x:Per)=>a (x,PUnit.unit)) (List.take b c)
theorem J8g [Sx.Dr]:Ok Tryz.prog 153 J0n:=okW W46 Tryz.f153 (fun xx=>Dl (Jxc 186 186 Ja5 xx.1 true xx.2.1.1 xx.2.1.2)) fun xx=>by
 obtain⟨(l:List Per),⟨(q:Per×Unit→List Prop),(f:Per×Unit→Bool)⟩,_⟩:=xx
 refine(by kernel_rfl:(Z44 l→J6e l q→∃(x:Nat),Si (Ln l) (0=Nc x∧Sf l ((fun(x:Per×PUnit)=>q x)=q∧(fun(x:Per×PUnit)=>f x)=f∧List.length (Juu f x l)=0))∧x≤List.length l∧∀(x:Nat),x≤List.length l→Br (decide (Nc x<Ln l)) (Tw (Bd (Nc x) (Ln l))∧J5n q l x∧Br (J5p f l x) ((List.length (Juu f x l)+1)*40≤140737488355328∧Z20 x∧∃(y:Nat),Si (Ln l) (Z83 x y∧Sf l ((fun(x:Per×PUnit)=>q x)=q∧(fun(x:Per×PUnit)=>f x)=f∧Juu f x l++[J50 l x]=Juu f y l))∧y≤List.length l∧List.length l-y<List.length l-x) (Z20 x∧∃(y:Nat),Si (Ln l) (Z83 x y∧Sf l ((fun(x:Per×PUnit)=>q x)=q∧(fun(x:Per×PUnit)=>f x)=f∧Juu f x l=Juu f y l))∧y≤List.length l∧List.length l-y<List.length l-x)) (Juu f x l=List.filter (fun(x:Per)=>f (x,PUnit.unit)) l))=_).mp ?_
 delta Z20 Z44 Z83 Juu J6e J50 J5v J5p J5n Br Iw Bd Tw Sf Si Ln Nc B0 E2
 intro hb hq
 refine⟨(0:Nat),⟨rfl,rfl,rfl,rfl,rfl,by simp⟩,Nat.zero_le _,fun(k:Nat) hk=>⟨fun h=> ?_,fun h=> ?_⟩⟩
 ·have hlt:k<l.length:=by simpa using h
  have hf:=Jpk (p:=fun x=>f (x,())) hk
  have ht:=Ys (d:=Jr9) hlt
  refine⟨by omega,hq (l.getD k Jr9) (Jf hlt),fun h1=> ?_,fun h1=> ?_⟩
  ·have h1:f (l.getD k Jr9,())=true:=h1
   refine⟨by show((List.filter (fun x=>f (x,())) (List.take k l)).length+1)*40≤_;omega,by omega,(k+1:Nat),⟨rfl,by simp,rfl,rfl,rfl, ?_⟩,by omega,by omega⟩
   rw[←ht,List.filter_append,List.filter_cons,if_pos h1];rfl
  ·have h1:f (l.getD k Jr9,())=false:=h1
   refine⟨by omega,(k+1:Nat),⟨rfl,by simp,rfl,rfl,rfl, ?_⟩,by omega,by omega⟩
   rw[←ht,List.filter_append,List.filter_cons,if_neg (by rw[h1];decide)];simp
 ·have hlt:¬k<l.length:=by simpa using h
  rw[List.take_of_length_le (by omega)]
abbrev W47 [Sx.Dr]:=W46.add J8g
def Juj:Con:={args:=[.val true Ja5],ress:=[Bo],owns:=[],pre:=fun _=>[],spec:=fun(x,_)=>(x.2.2,())}
theorem J7k [Sx.Dr] (x:Per):wpF Tryz.prog W47.g (na ()) Tryz.f159 Juj (x,()):=by
 refine(by kernel_rfl:(x.2.2=x.2.2)=_).mp ?_
 rfl
theorem J8b [Sx.Dr]:Ok Tryz.prog 159 Juj:=Ke mixed W47.ok (by kernel_rfl) (by kernel_rfl) na fun xx=>J7k xx.1
abbrev W48 [Sx.Dr]:=W47.add J8b
def F9 (Q:List Per):List Per:=Q.filter fun x=>x.2.2
def J0h:Con:={args:=[Jcy],ress:=[(false, .list 186 Ja5)],owns:=[true],pre:=fun(r,_)=>[J3 r],spec:=fun((_,_,_,_,_,_,Q),_)=>(F9 Q,())}
theorem J8f [Sx.Dr]:Ok Tryz.prog 154 J0h:=okW W48 Tryz.f154 na fun xx=>by
 obtain⟨⟨(tk:Int),(st:Int),(S:List Sta),(O:List Ord),(M:List Met),(X:List Out),(Q:List Per)⟩,_⟩:=xx
 refine(by kernel_rfl:(Uf tk st S O M X Q→J5t Q∧List.filter (fun(x:Per)=>x.2.2) Q=F9 Q)=_).mp ?_
 delta Z44 Uf J5t
 intro hr
 have nQ:Q.length≤16:=hr.nQ
 exact⟨⟨by omega,fun _ _=>trivial⟩,rfl⟩
abbrev W49 [Sx.Dr]:=W48.add J8f
theorem Jj9 {Q:List Per}:(F9 Q).length≤Q.length:=List.length_filter_le _ _
theorem Jof {Q:List Per} {x:Per} (h:x∈F9 Q):x∈Q:=(List.mem_filter.1 h).1
def J0g:Con:={args:=[.val true Ja5, .ref 143 Jgl],ress:=[Bo],owns:=[],pre:=fun _=>[],spec:=fun(x,y,_)=>(x.2.1.toList==y.1.toList,())}
theorem J7l [Sx.Dr] (x:Per) (y:Out):wpF Tryz.prog W49.g (na ()) Tryz.f155 J0g (x,y,()):=by
 refine(by kernel_rfl:(Lb x.2.1 y.1=Lb x.2.1 y.1)=_).mp ?_
 delta Lb
 rfl
theorem J8e [Sx.Dr]:Ok Tryz.prog 155 J0g:=Ke mixed W49.ok (by kernel_rfl) (by kernel_rfl) na fun xx=>J7l xx.1 xx.2.1
abbrev W50 [Sx.Dr]:=W49.add J8e
def J9u:Con:={args:=[.val true Ja5, .ref 100 Jrg, .ref 3 sI],ress:=[Bo],owns:=[],pre:=fun(x,r,_)=>[J3 r,0≤K1 r.2.2.2.2.2.1 x.2.1],spec:=fun(x,(_,_,_,_,_,X,_),h,_)=>(decide ((Jbh X x.2.1).2.2.1.2≤h),())}
theorem J8c [Sx.Dr]:Ok Tryz.prog 157 J9u:=okW W50 Tryz.f157 na fun xx=>by
 obtain⟨⟨(a:ByteArray),(b:ByteArray),(c:Bool)⟩,⟨(tk:Int),(st:Int),(S:List Sta),(O:List Ord),(M:List Met),(X:List Out),(Q:List Per)⟩,(h:Int),_⟩:=xx
 refine(by kernel_rfl:(Uf tk st S O M X Q→0≤K1 X b→(Z42 X∧0≤K1 X b)∧decide ((Jbh X b).2.2.1.2≤h)=decide ((Jbh X b).2.2.1.2≤h))=_).mp ?_
 delta Z42 Uf
 intro hr h
 have nX:X.length≤16:=hr.nX
 repeat' first|assumption|exact rfl|trivial|omega|apply And.intro|intro _
abbrev W51 [Sx.Dr]:=W50.add J8c
def J9x:Con:={args:=[aI, .ref 100 Jrg, .ref 9 .str, .ref 9 .str, .ref 3 sI],ress:=[Bo],owns:=[],pre:=fun(_,r,a,b,_)=>[J3 r,0≤J0 r.2.2.1 a,0≤J0 r.2.2.1 b],spec:=fun(h,(_,_,S,O,_,X,_),a,b,p,_)=>(decide (min (Xm S O X a h) (Xm S O X b h)<p),())}
theorem J8k [Sx.Dr]:Ok Tryz.prog 149 J9x:=okW W51 Tryz.f149 na fun xx=>by
 obtain⟨(h:Int),⟨(tk:Int),(st:Int),(S:List Sta),(O:List Ord),(M:List Met),(X:List Out),(Q:List Per)⟩,(a:ByteArray),(b:ByteArray),(p:Int),_⟩:=xx
 refine(by kernel_rfl:(Uf tk st S O M X Q→Z23 S a→Z23 S b→(Uf tk st S O M X Q∧Z23 S a∧Uf tk st S O M X Q∧Z23 S b)∧decide (min (Xm S O X a h) (Xm S O X b h)<p)=decide (min (Xm S O X a h) (Xm S O X b h)<p))=_).mp ?_
 delta Z23 Uf
 intro hr h1 h2
 repeat' first|assumption|exact rfl|trivial|omega|apply And.intro|intro _
abbrev W52 [Sx.Dr]:=W51.add J8k
def J9w:Con:={args:=[aI, .ref 100 Jrg, .ref 9 .str, .ref 3 sI],ress:=[Bo],owns:=[],pre:=fun(_,r,a,_)=>[J3 r],spec:=fun(h,(_,_,_,O,_),a,p,_)=>(decide (p<Vk O a h),())}
theorem J8i [Sx.Dr]:Ok Tryz.prog 151 J9w:=okW W52 Tryz.f151 na fun xx=>by
 obtain⟨(h:Int),⟨(tk:Int),(st:Int),(S:List Sta),(O:List Ord),(M:List Met),(X:List Out),(Q:List Per)⟩,(a:ByteArray),(p:Int),_⟩:=xx
 refine(by kernel_rfl:(Uf tk st S O M X Q→Uf tk st S O M X Q∧decide (p<Vk O a h)=decide (p<Vk O a h))=_).mp ?_
 delta Uf
 intro hr
 repeat' first|assumption|exact rfl|trivial|omega|apply And.intro|intro _
abbrev W53 [Sx.Dr]:=W52.add J8i
def J08 (f:Int→Bool):Int→Nat→Bool
 |_,0=>false
 |a,n+1=>bif f a then true else J08 f (a+1) n
def Zt (s:Int×Int) (f:Int→Bool):Bool:=J08 f s.1 (s.2-s.1).toNat
def J0v:Con:={args:=[.val true Jif, .fn [I] Bo],ress:=[Bo],owns:=[],pre:=fun(s,(q,_),_)=>[0≤s.1∧s.1≤999999999,0≤s.2∧s.2≤999999999,∀h,s.1≤h→h<s.2→Kq (q (h,()))],spec:=fun(s,(_,f),_)=>(Zt s fun h=>f (h,()),())}
abbrev Jte (a b:Int) (q:Int×Unit→List Prop) (f:Int×Unit→Bool):Ann:={X:=Nat,σ:=fun k=>⟨2,[(1, .one (.fv 1)),(2, .one (.ptr 0 0)),(5, .one (.bool false)),(11, .one (.int .i64 (b-a))),(12, .one (.int .i64 k))],[(0, .box 106 [.int .i64 a, .int .i64 b]),(1, .afn [I] Bo q f)]⟩,inv:=fun k=>k≤(b-a).toNat∧Zt (a,b) (fun h=>f (h,()))=J08 (fun h=>f (h,())) (a+k) ((b-a).toNat-k),mu:=fun k=>(b-a).toNat-k}
def J49 (a:Nat) (b c:Int) (d:Int×Unit→Bool):=a≤Int.toNat (b-c)∧(Zt (c,b) fun(h:Int)=>d (h,PUnit.unit))=J08 (fun(h:Int)=>d (h,PUnit.unit)) (c+Nc a) (Int.toNat (b-c)-a)
theorem J8m [Sx.Dr]:Ok Tryz.prog 147 J0v:=okW W53 Tryz.f147 (fun xx=>Dl (Jte xx.1.1 xx.1.2 xx.2.1.1 xx.2.1.2)) fun xx=>by
 obtain⟨⟨(a:Int),(b:Int)⟩,⟨(q:Int×Unit→List Prop),(f:Int×Unit→Bool)⟩,_⟩:=xx
 refine(by kernel_rfl:(0≤a∧a≤999999999→0≤b∧b≤999999999→(∀(h:Int),a≤h→h<b→Kq (q (h,PUnit.unit)))→Iw (b-a)∧∃(x:Nat),Sf false (Si (b-a) (0=Nc x∧Si a (Si b ((fun(x:Int×PUnit)=>q x)=q∧(fun(x:Int×PUnit)=>f x)=f))))∧J49 x b a f∧∀(x:Nat),J49 x b a f→Br (decide (Nc x<b-a)) ((Iw (a+Nc x)∧Kq (q (a+Nc x,PUnit.unit)))∧Br (f (a+Nc x,PUnit.unit)) (true=Zt (a,b) fun(h:Int)=>f (h,PUnit.unit)) (Z20 x∧∃(y:Nat),Sf false (Si (b-a) (Z83 x y∧Si a (Si b ((fun(x:Int×PUnit)=>q x)=q∧(fun(x:Int×PUnit)=>f x)=f))))∧J49 y b a f∧Int.toNat (b-a)-y<Int.toNat (b-a)-x)) (false=Zt (a,b) fun(h:Int)=>f (h,PUnit.unit)))=_).mp ?_
 delta Z20 Z83 J49 Br Iw Sf Si Nc
 intro h1 h2 hq
 refine⟨by omega,(0:Nat),⟨rfl,rfl,rfl,rfl,rfl,rfl,rfl⟩,⟨Nat.zero_le _,by simp[Zt]⟩,fun(k:Nat) hk=>⟨fun h=> ?_,fun h=> ?_⟩⟩
 ·have h:(k:Int)<b-a:=of_decide_eq_true h
  obtain⟨k1,k2⟩:=hk
  have hj:(b-a).toNat-k=((b-a).toNat-(k+1))+1:=by omega
  rw[hj,J08] at k2
  refine⟨⟨by omega,hq (a+k) (by omega) (by omega)⟩,fun h3=> ?_,fun h3=>⟨by omega,(k+1:Nat),⟨rfl,rfl,by simp,rfl,rfl,rfl,rfl⟩,⟨by omega, ?_⟩,by omega⟩⟩
  ·rw[k2]
   show true=bif f (a+(k:Int),PUnit.unit) then true else _
   rw[h3];rfl
  ·rw[k2]
   show(bif f (a+(k:Int),PUnit.unit) then true else _)=_
   rw[h3,Int.natCast_add,←Int.add_assoc];rfl
 ·have h:¬(k:Int)<b-a:=of_decide_eq_false h
  have hj:(b-a).toNat-k=0:=by omega
  rw[hk.2,hj];rfl
abbrev W54 [Sx.Dr]:=W53.add J8m
def Jmk (S:List Sta) (vs:List Int):Int:=Ja [Jd (vs.getD 1 0) 1 1000,bif decide ((6:Int)≤S.length) then 5 else 0]
def J0w:Con:={args:=[Jcy,aEv],ress:=[I],owns:=[],pre:=fun(r,e,_)=>[J3 r,2≤e.2.2.2.1.length],spec:=fun((tk,st,S,O,M,X,Q),(n,k,ns,vs,tx),_)=>(Jmk S vs,())}
def Z45 (a:Li):=2≤List.length a
theorem J9i [Sx.Dr]:Ok Tryz.prog 101 J0w:=okW W54 Tryz.f101 na fun xx=>by
 obtain⟨⟨(tk:Int),(st:Int),(S:List Sta),(O:List Ord),(M:List Met),(X:List Out),(Q:List Per)⟩,⟨(n:Int),(k:ByteArray),(ns:List ByteArray),(vs:List Int),(tx:ByteArray)⟩,_⟩:=xx
 refine(by kernel_rfl:(Uf tk st S O M X Q→Z45 vs→T2 (Z28 vs) (2≤1000000)∧Ja [Jd (Z85 vs) 1 1000,bif decide (6≤Ln S) then 5 else 0]=Jmk S vs)=_).mp ?_
 delta Z28 Z45 Z85 Uf Bd T2 Ln
 intro hr h
 repeat' first|assumption|exact rfl|trivial|omega|apply And.intro|intro _
abbrev W55 [Sx.Dr]:=W54.add J9i
def Jpw (vs:List Int):Int:=Jd (vs.getD 1 0) 0 1000
def J0y:Con:={args:=[Jcy,aEv],ress:=[I],owns:=[],pre:=fun(r,e,_)=>[2≤e.2.2.2.1.length],spec:=fun((tk,st,S,O,M,X,Q),(n,k,ns,vs,tx),_)=>(Jpw vs,())}
theorem J9f [Sx.Dr]:Ok Tryz.prog 105 J0y:=okW W55 Tryz.f105 na fun xx=>by
 obtain⟨⟨(tk:Int),(st:Int),(S:List Sta),(O:List Ord),(M:List Met),(X:List Out),(Q:List Per)⟩,⟨(n:Int),(k:ByteArray),(ns:List ByteArray),(vs:List Int),(tx:ByteArray)⟩,_⟩:=xx
 refine(by kernel_rfl:(Z45 vs→Tw (Z28 vs)∧Jd (Z85 vs) 0 1000=Jpw vs)=_).mp ?_
 delta Z28 Z45 Z85 Bd Tw Ln
 intro h
 repeat' first|assumption|exact rfl|trivial|omega|apply And.intro|intro _
abbrev W56 [Sx.Dr]:=W55.add J9f
def Df (e:Ev):Int:=Ja [bif (e.2.2.1.getD 1 Jz).toList==(e.2.2.1.getD 2 Jz).toList then 24 else 0,Yt e,Jd (e.2.2.2.1.getD 3 0) 1 1000]
def Jpg (S:List Sta) (O:List Ord) (X:List Out) (e:Ev):Bool:=Zt (Uq e) fun h=>decide (min (Xm S O X (e.2.2.1.getD 1 Jz) h) (Xm S O X (e.2.2.1.getD 2 Jz) h)<e.2.2.2.1.getD 3 0)
def L1 (S:List Sta) (O:List Ord) (X:List Out) (e:Ev):Int:=if Df e≠0 then Df e else Ja [bif Jpg S O X e then 4 else 0,bif decide ((32:Int)≤O.length) then 5 else 0]
def J00:Con:={args:=[Jcy,aEv],ress:=[I],owns:=[],pre:=fun(r,e,_)=>[J3 r,EvV e,e.2.2.1.length=3,e.2.2.2.1.length=4,0≤J0 r.2.2.1 (e.2.2.1.getD 1 Jz),0≤J0 r.2.2.1 (e.2.2.1.getD 2 Jz)],spec:=fun((tk,st,S,O,M,X,Q),(n,k,ns,vs,tx),_)=>(L1 S O X (n,k,ns,vs,tx),())}
def Z27 (a:Li):=Bd 3 (Ln a)
def Z46 (a:Li):=List.length a=4
def Z79 (a:Ls):=Bd 1 (Ln a)
def Z81 (a:Ls):=List.getD a 2 B0
def Z82 (a:Ls):=List.getD a 1 B0
def Z86 (a:Li):=List.getD a 3 0
def Z93 (a:Ls):=List.getD a 1 Jz
def Z96 (a:Ls):=List.length a=3
def Jyy (a:List Sta) (b:Ls):=0≤J0 a (Z82 b)
def Jyw (a:List Sta) (b:Ls):=0≤J0 a (Z93 b)
def Kec (a:Ls) (b:Int) (c:Bt) (d:Li) (e:Bt):=Ja [bif Lb (Z82 a) (Z81 a) then 24 else 0,Yt (b,c,a,d,e),Jd (Z86 d) 1 1000]
theorem J9d [Sx.Dr]:Ok Tryz.prog 107 J00:=okW W56 Tryz.f107 na fun xx=>by
 obtain⟨⟨(tk:Int),(st:Int),(S:List Sta),(O:List Ord),(M:List Met),(X:List Out),(Q:List Per)⟩,⟨(n:Int),(k:ByteArray),(ns:List ByteArray),(vs:List Int),(tx:ByteArray)⟩,_⟩:=xx
 refine(by kernel_rfl:(Uf tk st S O M X Q→EvV (n,k,ns,vs,tx)→Z96 ns→Z46 vs→Jyw S ns→0≤J0 S (List.getD ns 2 Jz)→T2 (Z79 ns) (T2 (Bd 2 (Ln ns)) (Tw (Z27 vs)))∧(Z48 vs∧EvV (n,k,ns,vs,tx)∧3≤1000000)∧Br (Kec ns n k vs tx !=0) (Kec ns n k vs tx=L1 S O X (n,k,ns,vs,tx)) ((Z48 vs∧(0≤(Z52 n k ns vs tx).1∧(Z52 n k ns vs tx).1≤999999999)∧(0≤(Z52 n k ns vs tx).2∧(Z52 n k ns vs tx).2≤999999999)∧∀(h:Int),(Z52 n k ns vs tx).1≤h→h<(Z52 n k ns vs tx).2→Uf tk st S O M X Q∧Jyy S ns∧0≤J0 S (Z81 ns))∧2≤1000000∧Ja [bif Zt (E2 (Z52 n k ns vs tx)) fun(h:Int)=>decide (min (Xm S O X (Z82 ns) h) (Xm S O X (Z81 ns) h)<Z86 vs) then 4 else 0,bif decide (32≤Ln O) then 5 else 0]=L1 S O X (n,k,ns,vs,tx)))=_).mp ?_
 delta Z27 Z46 Z48 Z52 Z79 Z81 Z82 Z86 Z93 Z96 Uf Jyy Jyw Kec Br Bd T2 Tw Ln B0 Lb E2
 intro hr hv hn hl h1 h2
 have sp:(0≤(Uq (n,k,ns,vs,tx)).1∧(Uq (n,k,ns,vs,tx)).1≤999999999)∧0≤(Uq (n,k,ns,vs,tx)).2∧(Uq (n,k,ns,vs,tx)).2≤999999999:=⟨hv (vs.getD 1 0) (Jf (show 1<vs.length by omega)),hv (vs.getD 2 0) (Jf (show 2<vs.length by omega))⟩
 refine⟨by omega,⟨by omega,hv,by omega⟩,fun h=> ?_,fun h=>⟨⟨by omega,sp.1,sp.2,fun _ _ _=>⟨hr,h1,h2⟩⟩,by omega, ?_⟩⟩
 ·have h:Df (n,k,ns,vs,tx)≠0:=bne_iff_ne.1 h
  unfold L1;rw[if_pos h];rfl
 ·have h:¬Df (n,k,ns,vs,tx)≠0:=by have:=bne_eq_false_iff_eq.1 h;exact fun f=>f this
  unfold L1;rw[if_neg h];rfl
abbrev W57 [Sx.Dr]:=W56.add J9d
def Jho (O:List Ord) (M:List Met) (ns:List ByteArray) (vs:List Int):Int:=Ja [bif decide (vs.getD 0 0≤vs.getD 1 0) then 11 else 0,bif !U5 (Jam O (ns.getD 0 Jz)).2.2.2.1 (vs.getD 1 0) then 14 else 0,bif !Jv (Jam O (ns.getD 0 Jz)) (vs.getD 1 0) then 23 else 0,bif decide (0≤Kj M (Jam O (ns.getD 0 Jz)).1 (vs.getD 1 0)) then 9 else 0,bif (bif decide ((Jam O (ns.getD 0 Jz)).2.2.2.2.1<vs.getD 2 0) then true else decide (vs.getD 2 0<vs.getD 3 0)) then 3 else 0]
def J01:Con:={args:=[Jcy,aEv],ress:=[I],owns:=[],pre:=fun(r,e,_)=>[J3 r,1≤e.2.2.1.length,4≤e.2.2.2.1.length,0≤Uv r.2.2.2.1 (e.2.2.1.getD 0 Jz)],spec:=fun((tk,st,S,O,M,X,Q),(n,k,ns,vs,tx),_)=>(Jho O M ns vs,())}
def Z40 (a:Li):=4≤List.length a
def Z78 (a:Ls):=List.getD a 0 B0
def Z84 (a:Ls):=Bd 0 (Ln a)
def Z89 (a:Ls):=1≤List.length a
def Z95 (a:Ls):=List.getD a 0 Jz
def Jy6 (a:List Ord) (b:Ls):=Jam a (Z78 b)
def Juz (a:List Ord) (b:Ls):=Uv a (Z78 b)
def J21 (a:List Ord) (b:Ls):=(Jy6 a b).2.2
def J20 (a:List Ord) (b:Ls):=(J21 a b).2.1
def Jy2 (a:List Ord) (b:Ls):=(J21 a b).2.2
def Jyt (a:List Ord) (b:Ls):=0≤Uv a (Z95 b)
theorem J9b [Sx.Dr]:Ok Tryz.prog 110 J01:=okW W57 Tryz.f110 na fun xx=>by
 obtain⟨⟨(tk:Int),(st:Int),(S:List Sta),(O:List Ord),(M:List Met),(X:List Out),(Q:List Per)⟩,⟨(n:Int),(k:ByteArray),(ns:List ByteArray),(vs:List Int),(tx:ByteArray)⟩,_⟩:=xx
 refine(by kernel_rfl:(Uf tk st S O M X Q→Z89 ns→Z40 vs→Jyt O ns→T2 (Z84 ns) (Z41 O∧0≤Juz O ns∧T2 (Z28 vs) (T2 (Bd 2 (Ln vs)) (Tw (Z27 vs))))∧T2 (Z32 vs) (Uf tk st S O M X Q∧5≤1000000)∧Ja [bif decide (Z76 vs≤Z85 vs) then 11 else 0,bif !U5 (E2 (J20 O ns)) (Z85 vs) then 14 else 0,bif !Jv ((Jy6 O ns).1,(Jy6 O ns).2.1,(J21 O ns).1,E2 (J20 O ns),(Jy2 O ns).1,E2 (Jy2 O ns).2) (Z85 vs) then 23 else 0,bif decide (0≤Kj M (Jy6 O ns).1 (Z85 vs)) then 9 else 0,bif bif decide ((Jy2 O ns).1<Z77 vs) then true else decide (Z77 vs<Z86 vs) then 3 else 0]=Jho O M ns vs)=_).mp ?_
 delta Z27 Z28 Z32 Z40 Z41 Z76 Z77 Z78 Z84 Z85 Z86 Z89 Z95 Uf Jy6 Juz J21 J20 Jy2 Jyt Bd T2 Tw Ln B0 E2
 intro hr h1 h2 h3
 have nO:O.length≤32:=hr.nO
 refine⟨⟨⟨by omega,by omega⟩,⟨by omega,by omega⟩,by omega,h3,by omega⟩,⟨by omega,by omega,hr,by omega⟩,rfl⟩
abbrev W58 [Sx.Dr]:=W57.add J9b
def Jeb (O:List Ord) (ns:List ByteArray) (vs:List Int):Int:=bif (bif (Jam O (ns.getD 0 Jz)).2.2.2.2.2.2 != -1 then true else decide ((Jam O (ns.getD 0 Jz)).2.2.2.1.2≤vs.getD 0 0)) then 23 else 0
def Jwy:Con:={args:=[Jcy,aEv],ress:=[I],owns:=[],pre:=fun(r,e,_)=>[J3 r,1≤e.2.2.1.length,1≤e.2.2.2.1.length,0≤Uv r.2.2.2.1 (e.2.2.1.getD 0 Jz)],spec:=fun((tk,st,S,O,M,X,Q),(n,k,ns,vs,tx),_)=>(Jeb O ns vs,())}
def Z51 (a:Li):=1≤List.length a
def Kfd (a:List Ord) (b:Ls):=(Jy2 a b).2.2 !=Z61
theorem J89 [Sx.Dr]:Ok Tryz.prog 112 Jwy:=okW W58 Tryz.f112 na fun xx=>by
 obtain⟨⟨(tk:Int),(st:Int),(S:List Sta),(O:List Ord),(M:List Met),(X:List Out),(Q:List Per)⟩,⟨(n:Int),(k:ByteArray),(ns:List ByteArray),(vs:List Int),(tx:ByteArray)⟩,_⟩:=xx
 refine(by kernel_rfl:(Uf tk st S O M X Q→Z89 ns→Z51 vs→Jyt O ns→T2 (Z84 ns) (Z41 O∧0≤Juz O ns)∧Tw (Kfd O ns=false→Z32 vs)∧(bif bif Kfd O ns then true else decide ((J20 O ns).2≤Z76 vs) then 23 else 0)=Jeb O ns vs)=_).mp ?_
 delta Z32 Z41 Z51 Z61 Z76 Z78 Z84 Z89 Z95 Uf Jy6 Juz J21 J20 Jy2 Jyt Kfd Bd T2 Tw Ln B0
 intro hr h1 h2 h3
 have nO:O.length≤32:=hr.nO
 repeat' first|assumption|exact rfl|trivial|omega|apply And.intro|intro _
abbrev W59 [Sx.Dr]:=W58.add J89
def Jhn (S:List Sta) (e:Ev):Int:=Ja [Yt e,bif decide ((Ll S (e.2.2.1.getD 1 Jz)).2.1≤e.2.2.2.1.getD 3 0) then 3 else 0]
def Jck (S:List Sta) (O:List Ord) (X:List Out) (e:Ev):Int:=if Jhn S e≠0 then Jhn S e else Ja [bif Zt (Uq e) (fun h=>decide (e.2.2.2.1.getD 3 0<Vk O (e.2.2.1.getD 1 Jz) h)) then 24 else 0,bif decide ((16:Int)≤X.length) then 5 else 0]
def J0z:Con:={args:=[Jcy,aEv],ress:=[I],owns:=[],pre:=fun(r,e,_)=>[J3 r,EvV e,e.2.2.1.length=2,e.2.2.2.1.length=4,0≤J0 r.2.2.1 (e.2.2.1.getD 1 Jz)],spec:=fun((tk,st,S,O,M,X,Q),(n,k,ns,vs,tx),_)=>(Jck S O X (n,k,ns,vs,tx),())}
def Z91 (a:Ls):=List.length a=2
def Keu (a:Int) (b:Bt) (c:Ls) (d:Li) (e:Bt) (f:List Sta):=Ja [Yt (a,b,c,d,e),bif decide ((Ll f (Z82 c)).2.1≤Z86 d) then 3 else 0]
theorem J87 [Sx.Dr]:Ok Tryz.prog 114 J0z:=okW W59 Tryz.f114 na fun xx=>by
 obtain⟨⟨(tk:Int),(st:Int),(S:List Sta),(O:List Ord),(M:List Met),(X:List Out),(Q:List Per)⟩,⟨(n:Int),(k:ByteArray),(ns:List ByteArray),(vs:List Int),(tx:ByteArray)⟩,_⟩:=xx
 refine(by kernel_rfl:(Uf tk st S O M X Q→EvV (n,k,ns,vs,tx)→Z91 ns→Z46 vs→Jyw S ns→T2 (Z79 ns) (Tw (Z27 vs))∧(Z48 vs∧EvV (n,k,ns,vs,tx)∧Z53 S∧Jyy S ns∧2≤1000000)∧Br (Keu n k ns vs tx S !=0) (Keu n k ns vs tx S=Jck S O X (n,k,ns,vs,tx)) ((Z48 vs∧(0≤(Z52 n k ns vs tx).1∧(Z52 n k ns vs tx).1≤999999999)∧(0≤(Z52 n k ns vs tx).2∧(Z52 n k ns vs tx).2≤999999999)∧∀(h:Int),(Z52 n k ns vs tx).1≤h→h<(Z52 n k ns vs tx).2→Uf tk st S O M X Q)∧2≤1000000∧Ja [bif Zt (E2 (Z52 n k ns vs tx)) fun(h:Int)=>decide (Z86 vs<Vk O (Z82 ns) h) then 24 else 0,bif decide (16≤Ln X) then 5 else 0]=Jck S O X (n,k,ns,vs,tx)))=_).mp ?_
 delta Z27 Z46 Z48 Z52 Z53 Z79 Z82 Z86 Z91 Z93 Uf Jyy Jyw Keu Br Bd T2 Tw Ln B0 E2
 intro hr hv hn hl h1
 have sp:(0≤(Uq (n,k,ns,vs,tx)).1∧(Uq (n,k,ns,vs,tx)).1≤999999999)∧0≤(Uq (n,k,ns,vs,tx)).2∧(Uq (n,k,ns,vs,tx)).2≤999999999:=⟨hv (vs.getD 1 0) (Jf (show 1<vs.length by omega)),hv (vs.getD 2 0) (Jf (show 2<vs.length by omega))⟩
 have nS:S.length≤6:=hr.nS
 refine⟨by omega,⟨by omega,hv,by omega,h1,by omega⟩,fun h=> ?_,fun h=>⟨⟨by omega,sp.1,sp.2,fun _ _ _=>hr⟩,by omega, ?_⟩⟩
 ·have h:Jhn S (n,k,ns,vs,tx)≠0:=bne_iff_ne.1 h
  unfold Jck;rw[if_pos h];rfl
 ·have h:¬Jhn S (n,k,ns,vs,tx)≠0:=by have:=bne_eq_false_iff_eq.1 h;exact fun f=>f this
  unfold Jck;rw[if_neg h];rfl
abbrev W60 [Sx.Dr]:=W59.add J87
def Jec (X:List Out) (Q:List Per) (ns:List ByteArray) (vs:List Int):Int:=Ja [bif decide (vs.getD 0 0≤(Jbh X (ns.getD 0 Jz)).2.2.1.1) then 21 else 0,bif decide ((Jbh X (ns.getD 0 Jz)).2.2.1.2≤vs.getD 0 0) then 23 else 0,bif decide ((0:Int)<((F9 Q).filter fun p=>p.2.1.toList==(Jbh X (ns.getD 0 Jz)).1.toList).length) then 32 else 0]
def Jw0:Con:={args:=[Jcy,aEv],ress:=[I],owns:=[],pre:=fun(r,e,_)=>[J3 r,1≤e.2.2.1.length,1≤e.2.2.2.1.length,0≤K1 r.2.2.2.2.2.1 (e.2.2.1.getD 0 Jz)],spec:=fun((tk,st,S,O,M,X,Q),(n,k,ns,vs,tx),_)=>(Jec X Q ns vs,())}
def Jy5 (a:List Out) (b:Ls):=K1 a (Z78 b)
theorem J85 [Sx.Dr]:Ok Tryz.prog 117 Jw0:=okW W60 Tryz.f117 na fun xx=>by
 obtain⟨⟨(tk:Int),(st:Int),(S:List Sta),(O:List Ord),(M:List Met),(X:List Out),(Q:List Per)⟩,⟨(n:Int),(k:ByteArray),(ns:List ByteArray),(vs:List Int),(tx:ByteArray)⟩,_⟩:=xx
 refine(by kernel_rfl:(Uf tk st S O M X Q→Z89 ns→Z51 vs→0≤K1 X (Z95 ns)→T2 (Z84 ns) (Z42 X∧0≤Jy5 X ns)∧(Uf tk st S O M X Q∧List.length (F9 Q)≤1000000∧∀(x:Per),x∈F9 Q→True)∧T2 (Z32 vs) (T2 (Z32 vs) (3≤1000000))∧Ja [bif decide (Z76 vs≤(Jbh X (Z78 ns)).2.2.1.1) then 21 else 0,bif decide ((Jbh X (Z78 ns)).2.2.1.2≤Z76 vs) then 23 else 0,bif decide (0<Ln (List.filter (fun(x:Per)=>List.beq (ByteArray.toList x.2.1) (ByteArray.toList (Jbh X (Z78 ns)).1)) (F9 Q))) then 32 else 0]=Jec X Q ns vs)=_).mp ?_
 delta Z32 Z42 Z51 Z76 Z78 Z84 Z89 Z95 Uf Jy5 Bd T2 Ln B0
 intro hr h1 h2 h3
 have nX:X.length≤16:=hr.nX
 have nQ:Q.length≤16:=hr.nQ
 have:=Jj9 (Q:=Q)
 refine⟨⟨by omega,by omega,by omega,h3⟩,⟨hr,by omega,fun _ _=>trivial⟩,by omega,rfl⟩
abbrev W61 [Sx.Dr]:=W60.add J85
def Jed (X:List Out) (Q:List Per) (ns:List ByteArray) (vs:List Int):Int:=Ja [bif !U5 (Jbh X (ns.getD 1 Jz)).2.2.1 (vs.getD 0 0) then 22 else 0,bif decide ((16:Int)≤Q.length) then 5 else 0]
def Jw1:Con:={args:=[Jcy,aEv],ress:=[I],owns:=[],pre:=fun(r,e,_)=>[J3 r,2≤e.2.2.1.length,1≤e.2.2.2.1.length,0≤K1 r.2.2.2.2.2.1 (e.2.2.1.getD 1 Jz)],spec:=fun((tk,st,S,O,M,X,Q),(n,k,ns,vs,tx),_)=>(Jed X Q ns vs,())}
def Z94 (a:Ls):=2≤List.length a
theorem J83 [Sx.Dr]:Ok Tryz.prog 119 Jw1:=okW W61 Tryz.f119 na fun xx=>by
 obtain⟨⟨(tk:Int),(st:Int),(S:List Sta),(O:List Ord),(M:List Met),(X:List Out),(Q:List Per)⟩,⟨(n:Int),(k:ByteArray),(ns:List ByteArray),(vs:List Int),(tx:ByteArray)⟩,_⟩:=xx
 refine(by kernel_rfl:(Uf tk st S O M X Q→Z94 ns→Z51 vs→0≤K1 X (Z93 ns)→T2 (Z79 ns) (Z42 X∧0≤K1 X (Z82 ns)∧T2 (Z32 vs) (2≤1000000))∧Ja [bif !U5 (E2 (Jbh X (Z82 ns)).2.2.1) (Z76 vs) then 22 else 0,bif decide (16≤Ln Q) then 5 else 0]=Jed X Q ns vs)=_).mp ?_
 delta Z32 Z42 Z51 Z76 Z79 Z82 Z93 Z94 Uf Bd T2 Ln B0 E2
 intro hr h1 h2 h3
 have nX:X.length≤16:=hr.nX
 repeat' first|assumption|exact rfl|trivial|omega|apply And.intro|intro _
abbrev W62 [Sx.Dr]:=W61.add J83
def Jpv (Q:List Per) (ns:List ByteArray):Int:=bif !(Jtw Q (ns.getD 0 Jz)).2.2 then 23 else 0
def J0x:Con:={args:=[Jcy,aEv],ress:=[I],owns:=[],pre:=fun(r,e,_)=>[J3 r,1≤e.2.2.1.length,0≤Yi r.2.2.2.2.2.2 (e.2.2.1.getD 0 Jz)],spec:=fun((tk,st,S,O,M,X,Q),(n,k,ns,vs,tx),_)=>(Jpv Q ns,())}
def Jxr (a:List Per) (b:Ls):=Yi a (Z78 b)
theorem J81 [Sx.Dr]:Ok Tryz.prog 122 J0x:=okW W62 Tryz.f122 na fun xx=>by
 obtain⟨⟨(tk:Int),(st:Int),(S:List Sta),(O:List Ord),(M:List Met),(X:List Out),(Q:List Per)⟩,⟨(n:Int),(k:ByteArray),(ns:List ByteArray),(vs:List Int),(tx:ByteArray)⟩,_⟩:=xx
 refine(by kernel_rfl:(Uf tk st S O M X Q→Z89 ns→0≤Yi Q (Z95 ns)→T2 (Z84 ns) (Z44 Q∧0≤Jxr Q ns)∧(bif !(Jtw Q (Z78 ns)).2.2 then 23 else 0)=Jpv Q ns)=_).mp ?_
 delta Z44 Z78 Z84 Z89 Z95 Uf Jxr Bd T2 Ln B0
 intro hr h1 h3
 have nQ:Q.length≤16:=hr.nQ
 repeat' first|assumption|exact rfl|trivial|omega|apply And.intro|intro _
abbrev W63 [Sx.Dr]:=W62.add J81
def Zu (st:Int) (O:List Ord) (M:List Met) (X:List Out) (Q:List Per) (vs:List Int):Int:=bif (bif decide (vs.getD 1 0≤st) then true else decide (vs.getD 0 0<vs.getD 1 0)) then 14 else bif (bif decide ((0:Int)<(Ur M (vs.getD 1 0) O).length) then true else decide ((0:Int)<((F9 Q).filter fun p=>decide ((Jbh X p.2.1).2.2.1.2≤vs.getD 1 0)).length)) then 32 else 0
def Jwz:Con:={args:=[Jcy,aEv],ress:=[I],owns:=[],pre:=fun(r,e,_)=>[J3 r,2≤e.2.2.2.1.length],spec:=fun((tk,st,S,O,M,X,Q),(n,k,ns,vs,tx),_)=>(Zu st O M X Q vs,())}
theorem J8z [Sx.Dr]:Ok Tryz.prog 124 Jwz:=okW W63 Tryz.f124 na fun xx=>by
 obtain⟨⟨(tk:Int),(st:Int),(S:List Sta),(O:List Ord),(M:List Met),(X:List Out),(Q:List Per)⟩,⟨(n:Int),(k:ByteArray),(ns:List ByteArray),(vs:List Int),(tx:ByteArray)⟩,_⟩:=xx
 refine(by kernel_rfl:(Uf tk st S O M X Q→Z45 vs→Tw (Z28 vs)∧Tw (decide (Z85 vs≤st)=false→Z32 vs)∧Br (bif decide (Z85 vs≤st) then true else decide (Z76 vs<Z85 vs)) (14=Zu st O M X Q vs) ((Uf tk st S O M X Q∧List.length (F9 Q)≤1000000∧∀(x:Per),x∈F9 Q→Uf tk st S O M X Q∧0≤K1 X x.2.1)∧Uf tk st S O M X Q∧(bif bif decide (0<Ln (Ur M (Z85 vs) O)) then true else decide (0<Ln (List.filter (fun(x:Per)=>decide ((Jbh X x.2.1).2.2.1.2≤Z85 vs)) (F9 Q))) then 32 else 0)=Zu st O M X Q vs))=_).mp ?_
 delta Z28 Z32 Z45 Z76 Z85 Uf Br Bd Tw Ln
 intro hr h1
 have nQ:Q.length≤16:=hr.nQ
 have:=Jj9 (Q:=Q)
 refine⟨by omega,⟨fun _=>by omega,fun _=>by omega⟩,fun h=> ?_,fun h=>⟨⟨hr,by omega,fun x hx=>⟨hr,hr.per x (Jof hx)⟩⟩,hr, ?_⟩⟩
 ·unfold Zu;rw[h];rfl
 ·unfold Zu;rw[h];rfl
abbrev W64 [Sx.Dr]:=W63.add J8z
abbrev Jri (pre:Reg→Ev→List Prop) (post:Reg→Ev→Reg):Yb:={T? :=some 100,s:=Jrg,args:=[aEv],ress:=[],pre:=fun r (e,_)=>pre r e,spec:=fun _ _=>(),post:=fun r (e,_)=>post r e}
def Jic (O:List Ord) (s:ByteArray) (v:Int):List Ord:=O.set (Uv O s).toNat ((Jam O s).1,(Jam O s).2.1,(Jam O s).2.2.1,(Jam O s).2.2.2.1,(Jam O s).2.2.2.2.1,(Jam O s).2.2.2.2.2.1,v)
def Jnr (X:List Out) (s:ByteArray) (v:Int):List Out:=X.set (K1 X s).toNat ((Jbh X s).1,(Jbh X s).2.1,((Jbh X s).2.2.1.1,v),(Jbh X s).2.2.2)
def Jid (Q:List Per) (s:ByteArray):List Per:=Q.set (Yi Q s).toNat ((Jtw Q s).1,(Jtw Q s).2.1,false)
def Jce:Reg→Ev→Reg:=fun(tk,st,S,O,M,X,Q) (n,k,ns,vs,tx)=>(tk,st,S++[(ns.getD 0 Jz,vs.getD 1 0,0)],O,M,X,Q)
def Jqe:Yb:=Jri (fun r e=>[J3 r,1≤e.2.2.1.length,2≤e.2.2.2.1.length]) Jce
theorem J7z [Sx.Dr] (tk st:Int) (S:List Sta) (O:List Ord) (M:List Met) (X:List Out) (Q:List Per) (n:Int) (k:ByteArray) (ns:List ByteArray) (vs:List Int) (tx:ByteArray):wpFO Tryz.prog W64.g (na ()) (fun _=>na ()) (Sx.look ([]:List (Nat×Func))) Tryz.f102 Jqe 100 (tk,st,S,O,M,X,Q) ((n,k,ns,vs,tx),()):=by
 refine(by kernel_rfl:(Uf tk st S O M X Q→Z89 ns→Z45 vs→T2 (Z84 ns) (T2 (Z28 vs) ((List.length S+1)*32≤140737488355328))∧Sf true (Sf 100 ((tk,st,S++[(Z78 ns,Z85 vs,0)],O,M,X,Q)=Jce (tk,st,S,O,M,X,Q) (n,k,ns,vs,tx))))=_).mp ?_
 delta Z28 Z45 Z78 Z84 Z85 Z89 Uf Bd T2 Sf Ln B0
 intro hr
 have nS:S.length≤6:=hr.nS
 have nO:O.length≤32:=hr.nO
 have nM:M.length≤10000:=hr.nM
 have nX:X.length≤16:=hr.nX
 have nQ:Q.length≤16:=hr.nQ
 intros
 repeat' first|assumption|exact rfl|trivial|omega|exact Uo|exact U2|exact U0|exact U1|apply And.intro|intro _
theorem J9h [Sx.Dr]:Ok Tryz.prog 102 (Yb.con Jqe):=Ye (Ks mixed W64.ok (by kernel_rfl) (by kernel_rfl) (Un (l:=([]:List (Nat×Func))) (by simp)) (fun xx yy=>na ()) (fun xx yy=>fun _=>na ()) fun T xx yy hT=>by obtain rfl:=hT _ rfl;exact J7z xx.1 xx.2.1 xx.2.2.1 xx.2.2.2.1 xx.2.2.2.2.1 xx.2.2.2.2.2.1 xx.2.2.2.2.2.2 yy.1.1 yy.1.2.1 yy.1.2.2.1 yy.1.2.2.2.1 yy.1.2.2.2.2)
abbrev W65 [Sx.Dr]:=W64.add J9h
def Jcb:Reg→Ev→Reg:=fun(tk,st,S,O,M,X,Q) (n,k,ns,vs,tx)=>(tk,st,S.set (J0 S (ns.getD 0 Jz)).toNat ((Ll S (ns.getD 0 Jz)).1,(Ll S (ns.getD 0 Jz)).2.1,vs.getD 1 0),O,M,X,Q)
def Jqb:Yb:=Jri (fun r e=>[J3 r,1≤e.2.2.1.length,2≤e.2.2.2.1.length,0≤J0 r.2.2.1 (e.2.2.1.getD 0 Jz)]) Jcb
def Kij (a:List Sta) (b:Ls):=Gt a (J0 a (Z78 b)) Z17
theorem J7y [Sx.Dr] (tk st:Int) (S:List Sta) (O:List Ord) (M:List Met) (X:List Out) (Q:List Per) (n:Int) (k:ByteArray) (ns:List ByteArray) (vs:List Int) (tx:ByteArray):wpFO Tryz.prog W65.g (na ()) (fun _=>na ()) (Sx.look ([]:List (Nat×Func))) Tryz.f106 Jqb 100 (tk,st,S,O,M,X,Q) ((n,k,ns,vs,tx),()):=by
 refine(by kernel_rfl:(Uf tk st S O M X Q→Z89 ns→Z45 vs→0≤J0 S (Z95 ns)→T2 (Z84 ns) (Z53 S∧T2 (Z28 vs) (Tw (Bd (J0 S (Z78 ns)) (Ln S))))∧Sf true (Sf 100 ((tk,st,List.set S (Int.toNat (J0 S (Z78 ns))) ((Kij S ns).1,(Kij S ns).2.1,Z85 vs),O,M,X,Q)=Jcb (tk,st,S,O,M,X,Q) (n,k,ns,vs,tx))))=_).mp ?_
 delta Z17 Z28 Z45 Z53 Z78 Z84 Z85 Z89 Z95 Uf Kij Bd T2 Tw Sf Ln Gt B0
 intro hr
 have nS:S.length≤6:=hr.nS
 have nO:O.length≤32:=hr.nO
 have nM:M.length≤10000:=hr.nM
 have nX:X.length≤16:=hr.nX
 have nQ:Q.length≤16:=hr.nQ
 intros
 repeat' first|assumption|exact rfl|trivial|omega|exact Uo|exact U2|exact U0|exact U1|apply And.intro|intro _
theorem J9e [Sx.Dr]:Ok Tryz.prog 106 (Yb.con Jqb):=Ye (Ks mixed W65.ok (by kernel_rfl) (by kernel_rfl) (Un (l:=([]:List (Nat×Func))) (by simp)) (fun xx yy=>na ()) (fun xx yy=>fun _=>na ()) fun T xx yy hT=>by obtain rfl:=hT _ rfl;exact J7y xx.1 xx.2.1 xx.2.2.1 xx.2.2.2.1 xx.2.2.2.2.1 xx.2.2.2.2.2.1 xx.2.2.2.2.2.2 yy.1.1 yy.1.2.1 yy.1.2.2.1 yy.1.2.2.2.1 yy.1.2.2.2.2)
abbrev W66 [Sx.Dr]:=W65.add J9e
def F1:Reg→Ev→Reg:=fun(tk,st,S,O,M,X,Q) (n,k,ns,vs,tx)=>(tk,st,S,O++[(ns.getD 0 Jz,ns.getD 1 Jz,ns.getD 2 Jz,Uq (n,k,ns,vs,tx),vs.getD 3 0,(Ll S (ns.getD 1 Jz)).2.2,-1)],M,X,Q)
def Jqg:Yb:=Jri (fun r e=>[J3 r,e.2.2.1.length=3,e.2.2.2.1.length=4,0≤J0 r.2.2.1 (e.2.2.1.getD 1 Jz)]) F1
theorem J7x [Sx.Dr] (tk st:Int) (S:List Sta) (O:List Ord) (M:List Met) (X:List Out) (Q:List Per) (n:Int) (k:ByteArray) (ns:List ByteArray) (vs:List Int) (tx:ByteArray):wpFO Tryz.prog W66.g (na ()) (fun _=>na ()) (Sx.look ([]:List (Nat×Func))) Tryz.f108 Jqg 100 (tk,st,S,O,M,X,Q) ((n,k,ns,vs,tx),()):=by
 refine(by kernel_rfl:(Uf tk st S O M X Q→Z96 ns→Z46 vs→Jyw S ns→T2 (Z84 ns) (T2 (Z79 ns) (T2 (Bd 2 (Ln ns)) (Z48 vs∧T2 (Z27 vs) (T2 (Z79 ns) (Z53 S∧Jyy S ns∧(List.length O+1)*88≤140737488355328)))))∧Sf true (Sf 100 ((tk,st,S,O++[(Z78 ns,Z82 ns,Z81 ns,E2 (Z52 n k ns vs tx),Z86 vs,(Ll S (Z82 ns)).2.2,Z61)],M,X,Q)=F1 (tk,st,S,O,M,X,Q) (n,k,ns,vs,tx))))=_).mp ?_
 delta Z27 Z46 Z48 Z52 Z53 Z61 Z78 Z79 Z81 Z82 Z84 Z86 Z93 Z96 Uf Jyy Jyw Bd T2 Sf Ln B0 E2
 intro hr
 have nS:S.length≤6:=hr.nS
 have nO:O.length≤32:=hr.nO
 have nM:M.length≤10000:=hr.nM
 have nX:X.length≤16:=hr.nX
 have nQ:Q.length≤16:=hr.nQ
 intros
 repeat' first|assumption|exact rfl|trivial|omega|exact Uo|exact U2|exact U0|exact U1|apply And.intro|intro _
theorem J9c [Sx.Dr]:Ok Tryz.prog 108 (Yb.con Jqg):=Ye (Ks mixed W66.ok (by kernel_rfl) (by kernel_rfl) (Un (l:=([]:List (Nat×Func))) (by simp)) (fun xx yy=>na ()) (fun xx yy=>fun _=>na ()) fun T xx yy hT=>by obtain rfl:=hT _ rfl;exact J7x xx.1 xx.2.1 xx.2.2.1 xx.2.2.2.1 xx.2.2.2.2.1 xx.2.2.2.2.2.1 xx.2.2.2.2.2.2 yy.1.1 yy.1.2.1 yy.1.2.2.1 yy.1.2.2.2.1 yy.1.2.2.2.2)
abbrev W67 [Sx.Dr]:=W66.add J9c
def F2:Reg→Ev→Reg:=fun(tk,st,S,O,M,X,Q) (n,k,ns,vs,tx)=>(tk,st,S,O,M++[(ns.getD 0 Jz,vs.getD 1 0,vs.getD 2 0,vs.getD 3 0)],X,Q)
def Jqh:Yb:=Jri (fun r e=>[J3 r,1≤e.2.2.1.length,4≤e.2.2.2.1.length]) F2
theorem J7w [Sx.Dr] (tk st:Int) (S:List Sta) (O:List Ord) (M:List Met) (X:List Out) (Q:List Per) (n:Int) (k:ByteArray) (ns:List ByteArray) (vs:List Int) (tx:ByteArray):wpFO Tryz.prog W67.g (na ()) (fun _=>na ()) (Sx.look ([]:List (Nat×Func))) Tryz.f111 Jqh 100 (tk,st,S,O,M,X,Q) ((n,k,ns,vs,tx),()):=by
 refine(by kernel_rfl:(Uf tk st S O M X Q→Z89 ns→Z40 vs→T2 (Z84 ns) (T2 (Z28 vs) (T2 (Bd 2 (Ln vs)) (T2 (Z27 vs) ((List.length M+1)*40≤140737488355328))))∧Sf true (Sf 100 ((tk,st,S,O,M++[(Z78 ns,Z85 vs,Z77 vs,Z86 vs)],X,Q)=F2 (tk,st,S,O,M,X,Q) (n,k,ns,vs,tx))))=_).mp ?_
 delta Z27 Z28 Z40 Z77 Z78 Z84 Z85 Z86 Z89 Uf Bd T2 Sf Ln B0
 intro hr
 have nS:S.length≤6:=hr.nS
 have nO:O.length≤32:=hr.nO
 have nM:M.length≤10000:=hr.nM
 have nX:X.length≤16:=hr.nX
 have nQ:Q.length≤16:=hr.nQ
 intros
 repeat' first|assumption|exact rfl|trivial|omega|exact Uo|exact U2|exact U0|exact U1|apply And.intro|intro _
theorem J9a [Sx.Dr]:Ok Tryz.prog 111 (Yb.con Jqh):=Ye (Ks mixed W67.ok (by kernel_rfl) (by kernel_rfl) (Un (l:=([]:List (Nat×Func))) (by simp)) (fun xx yy=>na ()) (fun xx yy=>fun _=>na ()) fun T xx yy hT=>by obtain rfl:=hT _ rfl;exact J7w xx.1 xx.2.1 xx.2.2.1 xx.2.2.2.1 xx.2.2.2.2.1 xx.2.2.2.2.2.1 xx.2.2.2.2.2.2 yy.1.1 yy.1.2.1 yy.1.2.2.1 yy.1.2.2.2.1 yy.1.2.2.2.2)
abbrev W68 [Sx.Dr]:=W67.add J9a
def Jca:Reg→Ev→Reg:=fun(tk,st,S,O,M,X,Q) (n,k,ns,vs,tx)=>(tk,st,S,Jic O (ns.getD 0 Jz) (vs.getD 0 0),M,X,Q)
def Jp9:Yb:=Jri (fun r e=>[J3 r,1≤e.2.2.1.length,1≤e.2.2.2.1.length,0≤Uv r.2.2.2.1 (e.2.2.1.getD 0 Jz)]) Jca
def Kfz (a:List Ord) (b:Ls):=Gt a (Juz a b) Jhz
def Kft (a:List Ord) (b:Ls):=(Kfz a b).2
def Kfr (a:List Ord) (b:Ls):=(Kft a b).2
def Kfq (a:List Ord) (b:Ls):=(Kfr a b).2
def Kfo (a:List Ord) (b:Ls):=(Kfq a b).2
theorem J7v [Sx.Dr] (tk st:Int) (S:List Sta) (O:List Ord) (M:List Met) (X:List Out) (Q:List Per) (n:Int) (k:ByteArray) (ns:List ByteArray) (vs:List Int) (tx:ByteArray):wpFO Tryz.prog W68.g (na ()) (fun _=>na ()) (Sx.look ([]:List (Nat×Func))) Tryz.f113 Jp9 100 (tk,st,S,O,M,X,Q) ((n,k,ns,vs,tx),()):=by
 refine(by kernel_rfl:(Uf tk st S O M X Q→Z89 ns→Z51 vs→Jyt O ns→T2 (Z84 ns) (Z41 O∧T2 (Z32 vs) (Tw (Bd (Juz O ns) (Ln O))))∧Sf true (Sf 100 ((tk,st,S,List.set O (Int.toNat (Juz O ns)) ((Kfz O ns).1,(Kft O ns).1,(Kfr O ns).1,E2 (Kfq O ns).1,(Kfo O ns).1,(Kfo O ns).2.1,Z76 vs),M,X,Q)=Jca (tk,st,S,O,M,X,Q) (n,k,ns,vs,tx))))=_).mp ?_
 delta Z32 Z41 Z51 Z65 Z76 Z78 Z84 Z89 Z95 Uf Juz Jyt Jhz Kfz Kft Kfr Kfq Kfo Bd T2 Tw Sf Ln Gt B0 E2
 intro hr
 have nS:S.length≤6:=hr.nS
 have nO:O.length≤32:=hr.nO
 have nM:M.length≤10000:=hr.nM
 have nX:X.length≤16:=hr.nX
 have nQ:Q.length≤16:=hr.nQ
 intros
 repeat' first|assumption|exact rfl|trivial|omega|exact Uo|exact U2|exact U0|exact U1|apply And.intro|intro _
theorem J88 [Sx.Dr]:Ok Tryz.prog 113 (Yb.con Jp9):=Ye (Ks mixed W68.ok (by kernel_rfl) (by kernel_rfl) (Un (l:=([]:List (Nat×Func))) (by simp)) (fun xx yy=>na ()) (fun xx yy=>fun _=>na ()) fun T xx yy hT=>by obtain rfl:=hT _ rfl;exact J7v xx.1 xx.2.1 xx.2.2.1 xx.2.2.2.1 xx.2.2.2.2.1 xx.2.2.2.2.2.1 xx.2.2.2.2.2.2 yy.1.1 yy.1.2.1 yy.1.2.2.1 yy.1.2.2.2.1 yy.1.2.2.2.2)
abbrev W69 [Sx.Dr]:=W68.add J88
def Jcd:Reg→Ev→Reg:=fun(tk,st,S,O,M,X,Q) (n,k,ns,vs,tx)=>(tk,st,S,O,M,X++[(ns.getD 0 Jz,ns.getD 1 Jz,Uq (n,k,ns,vs,tx),vs.getD 3 0)],Q)
def Jqd:Yb:=Jri (fun r e=>[J3 r,e.2.2.1.length=2,e.2.2.2.1.length=4]) Jcd
theorem J7u [Sx.Dr] (tk st:Int) (S:List Sta) (O:List Ord) (M:List Met) (X:List Out) (Q:List Per) (n:Int) (k:ByteArray) (ns:List ByteArray) (vs:List Int) (tx:ByteArray):wpFO Tryz.prog W69.g (na ()) (fun _=>na ()) (Sx.look ([]:List (Nat×Func))) Tryz.f115 Jqd 100 (tk,st,S,O,M,X,Q) ((n,k,ns,vs,tx),()):=by
 refine(by kernel_rfl:(Uf tk st S O M X Q→Z91 ns→Z46 vs→T2 (Z84 ns) (T2 (Z79 ns) (Z48 vs∧T2 (Z27 vs) ((List.length X+1)*56≤140737488355328)))∧Sf true (Sf 100 ((tk,st,S,O,M,X++[(Z78 ns,Z82 ns,E2 (Z52 n k ns vs tx),Z86 vs)],Q)=Jcd (tk,st,S,O,M,X,Q) (n,k,ns,vs,tx))))=_).mp ?_
 delta Z27 Z46 Z48 Z52 Z78 Z79 Z82 Z84 Z86 Z91 Uf Bd T2 Sf Ln B0 E2
 intro hr
 have nS:S.length≤6:=hr.nS
 have nO:O.length≤32:=hr.nO
 have nM:M.length≤10000:=hr.nM
 have nX:X.length≤16:=hr.nX
 have nQ:Q.length≤16:=hr.nQ
 intros
 repeat' first|assumption|exact rfl|trivial|omega|exact Uo|exact U2|exact U0|exact U1|apply And.intro|intro _
theorem J86 [Sx.Dr]:Ok Tryz.prog 115 (Yb.con Jqd):=Ye (Ks mixed W69.ok (by kernel_rfl) (by kernel_rfl) (Un (l:=([]:List (Nat×Func))) (by simp)) (fun xx yy=>na ()) (fun xx yy=>fun _=>na ()) fun T xx yy hT=>by obtain rfl:=hT _ rfl;exact J7u xx.1 xx.2.1 xx.2.2.1 xx.2.2.2.1 xx.2.2.2.2.1 xx.2.2.2.2.2.1 xx.2.2.2.2.2.2 yy.1.1 yy.1.2.1 yy.1.2.2.1 yy.1.2.2.2.1 yy.1.2.2.2.2)
abbrev W70 [Sx.Dr]:=W69.add J86
def Jcc:Reg→Ev→Reg:=fun(tk,st,S,O,M,X,Q) (n,k,ns,vs,tx)=>(tk,st,S,O,M,Jnr X (ns.getD 0 Jz) (vs.getD 0 0),Q)
def Jqc:Yb:=Jri (fun r e=>[J3 r,1≤e.2.2.1.length,1≤e.2.2.2.1.length,0≤K1 r.2.2.2.2.2.1 (e.2.2.1.getD 0 Jz)]) Jcc
def Khv (a:List Out) (b:Ls):=Gt a (Jy5 a b) Jmy
def Kht (a:List Out) (b:Ls):=(Khv a b).2
def Khr (a:List Out) (b:Ls):=(Kht a b).2
theorem J7t [Sx.Dr] (tk st:Int) (S:List Sta) (O:List Ord) (M:List Met) (X:List Out) (Q:List Per) (n:Int) (k:ByteArray) (ns:List ByteArray) (vs:List Int) (tx:ByteArray):wpFO Tryz.prog W70.g (na ()) (fun _=>na ()) (Sx.look ([]:List (Nat×Func))) Tryz.f118 Jqc 100 (tk,st,S,O,M,X,Q) ((n,k,ns,vs,tx),()):=by
 refine(by kernel_rfl:(Uf tk st S O M X Q→Z89 ns→Z51 vs→0≤K1 X (Z95 ns)→T2 (Z84 ns) (Z42 X∧T2 (Z32 vs) (Tw (Bd (Jy5 X ns) (Ln X))))∧Sf true (Sf 100 ((tk,st,S,O,M,List.set X (Int.toNat (Jy5 X ns)) ((Khv X ns).1,(Kht X ns).1,((Khr X ns).1.1,Z76 vs),(Khr X ns).2),Q)=Jcc (tk,st,S,O,M,X,Q) (n,k,ns,vs,tx))))=_).mp ?_
 delta Z32 Z42 Z51 Z76 Z78 Z84 Z89 Z95 Uf Jmy Jy5 Khv Kht Khr Bd T2 Tw Sf Ln Gt B0
 intro hr
 have nS:S.length≤6:=hr.nS
 have nO:O.length≤32:=hr.nO
 have nM:M.length≤10000:=hr.nM
 have nX:X.length≤16:=hr.nX
 have nQ:Q.length≤16:=hr.nQ
 intros
 repeat' first|assumption|exact rfl|trivial|omega|exact Uo|exact U2|exact U0|exact U1|apply And.intro|intro _
theorem J84 [Sx.Dr]:Ok Tryz.prog 118 (Yb.con Jqc):=Ye (Ks mixed W70.ok (by kernel_rfl) (by kernel_rfl) (Un (l:=([]:List (Nat×Func))) (by simp)) (fun xx yy=>na ()) (fun xx yy=>fun _=>na ()) fun T xx yy hT=>by obtain rfl:=hT _ rfl;exact J7t xx.1 xx.2.1 xx.2.2.1 xx.2.2.2.1 xx.2.2.2.2.1 xx.2.2.2.2.2.1 xx.2.2.2.2.2.2 yy.1.1 yy.1.2.1 yy.1.2.2.1 yy.1.2.2.2.1 yy.1.2.2.2.2)
abbrev W71 [Sx.Dr]:=W70.add J84
def Jcf:Reg→Ev→Reg:=fun(tk,st,S,O,M,X,Q) (n,k,ns,vs,tx)=>(tk,st,S,O,M,X,Q++[(ns.getD 0 Jz,ns.getD 1 Jz,true)])
def Jqf:Yb:=Jri (fun r e=>[J3 r,2≤e.2.2.1.length]) Jcf
theorem J7s [Sx.Dr] (tk st:Int) (S:List Sta) (O:List Ord) (M:List Met) (X:List Out) (Q:List Per) (n:Int) (k:ByteArray) (ns:List ByteArray) (vs:List Int) (tx:ByteArray):wpFO Tryz.prog W71.g (na ()) (fun _=>na ()) (Sx.look ([]:List (Nat×Func))) Tryz.f120 Jqf 100 (tk,st,S,O,M,X,Q) ((n,k,ns,vs,tx),()):=by
 refine(by kernel_rfl:(Uf tk st S O M X Q→Z94 ns→T2 (Z84 ns) (T2 (Z79 ns) ((List.length Q+1)*40≤140737488355328))∧Sf true (Sf 100 ((tk,st,S,O,M,X,Q++[(Z78 ns,Z82 ns,true)])=Jcf (tk,st,S,O,M,X,Q) (n,k,ns,vs,tx))))=_).mp ?_
 delta Z78 Z79 Z82 Z84 Z94 Uf Bd T2 Sf Ln B0
 intro hr
 have nS:S.length≤6:=hr.nS
 have nO:O.length≤32:=hr.nO
 have nM:M.length≤10000:=hr.nM
 have nX:X.length≤16:=hr.nX
 have nQ:Q.length≤16:=hr.nQ
 intros
 repeat' first|assumption|exact rfl|trivial|omega|exact Uo|exact U2|exact U0|exact U1|apply And.intro|intro _
theorem J82 [Sx.Dr]:Ok Tryz.prog 120 (Yb.con Jqf):=Ye (Ks mixed W71.ok (by kernel_rfl) (by kernel_rfl) (Un (l:=([]:List (Nat×Func))) (by simp)) (fun xx yy=>na ()) (fun xx yy=>fun _=>na ()) fun T xx yy hT=>by obtain rfl:=hT _ rfl;exact J7s xx.1 xx.2.1 xx.2.2.1 xx.2.2.2.1 xx.2.2.2.2.1 xx.2.2.2.2.2.1 xx.2.2.2.2.2.2 yy.1.1 yy.1.2.1 yy.1.2.2.1 yy.1.2.2.2.1 yy.1.2.2.2.2)
abbrev W72 [Sx.Dr]:=W71.add J82
def Ji2:Reg→Ev→Reg:=fun(tk,st,S,O,M,X,Q) (n,k,ns,vs,tx)=>(tk,st,S,O,M,X,Jid Q (ns.getD 0 Jz))
def Juo:Yb:=Jri (fun r e=>[J3 r,1≤e.2.2.1.length,0≤Yi r.2.2.2.2.2.2 (e.2.2.1.getD 0 Jz)]) Ji2
theorem J7r [Sx.Dr] (tk st:Int) (S:List Sta) (O:List Ord) (M:List Met) (X:List Out) (Q:List Per) (n:Int) (k:ByteArray) (ns:List ByteArray) (vs:List Int) (tx:ByteArray):wpFO Tryz.prog W72.g (na ()) (fun _=>na ()) (Sx.look ([]:List (Nat×Func))) Tryz.f123 Juo 100 (tk,st,S,O,M,X,Q) ((n,k,ns,vs,tx),()):=by
 refine(by kernel_rfl:(Uf tk st S O M X Q→Z89 ns→0≤Yi Q (Z95 ns)→T2 (Z84 ns) (Z44 Q∧Tw (Bd (Jxr Q ns) (Ln Q)))∧Sf true (Sf 100 ((tk,st,S,O,M,X,List.set Q (Int.toNat (Jxr Q ns)) ((Gt Q (Jxr Q ns) (B0,B0,false)).1,(Gt Q (Jxr Q ns) (B0,B0,false)).2.1,false))=Ji2 (tk,st,S,O,M,X,Q) (n,k,ns,vs,tx))))=_).mp ?_
 delta Z44 Z78 Z84 Z89 Z95 Uf Jxr Bd T2 Tw Sf Ln Gt B0
 intro hr
 have nS:S.length≤6:=hr.nS
 have nO:O.length≤32:=hr.nO
 have nM:M.length≤10000:=hr.nM
 have nX:X.length≤16:=hr.nX
 have nQ:Q.length≤16:=hr.nQ
 intros
 repeat' first|assumption|exact rfl|trivial|omega|exact Uo|exact U2|exact U0|exact U1|apply And.intro|intro _
theorem J80 [Sx.Dr]:Ok Tryz.prog 123 (Yb.con Juo):=Ye (Ks mixed W72.ok (by kernel_rfl) (by kernel_rfl) (Un (l:=([]:List (Nat×Func))) (by simp)) (fun xx yy=>na ()) (fun xx yy=>fun _=>na ()) fun T xx yy hT=>by obtain rfl:=hT _ rfl;exact J7r xx.1 xx.2.1 xx.2.2.1 xx.2.2.2.1 xx.2.2.2.2.1 xx.2.2.2.2.2.1 xx.2.2.2.2.2.2 yy.1.1 yy.1.2.1 yy.1.2.2.1 yy.1.2.2.2.1 yy.1.2.2.2.2)
abbrev W73 [Sx.Dr]:=W72.add J80
def F0:Reg→Ev→Reg:=fun(tk,st,S,O,M,X,Q) (n,k,ns,vs,tx)=>(tk,vs.getD 1 0,S,O,M,X,Q)
def Jqa:Yb:=Jri (fun r e=>[J3 r,2≤e.2.2.2.1.length]) F0
theorem J7q [Sx.Dr] (tk st:Int) (S:List Sta) (O:List Ord) (M:List Met) (X:List Out) (Q:List Per) (n:Int) (k:ByteArray) (ns:List ByteArray) (vs:List Int) (tx:ByteArray):wpFO Tryz.prog W73.g (na ()) (fun _=>na ()) (Sx.look ([]:List (Nat×Func))) Tryz.f125 Jqa 100 (tk,st,S,O,M,X,Q) ((n,k,ns,vs,tx),()):=by
 refine(by kernel_rfl:(Uf tk st S O M X Q→Z45 vs→Tw (Z28 vs)∧Sf true (Sf 100 ((tk,Z85 vs,S,O,M,X,Q)=F0 (tk,st,S,O,M,X,Q) (n,k,ns,vs,tx))))=_).mp ?_
 delta Z28 Z45 Z85 Uf Bd Tw Sf Ln
 intro hr
 have nS:S.length≤6:=hr.nS
 have nO:O.length≤32:=hr.nO
 have nM:M.length≤10000:=hr.nM
 have nX:X.length≤16:=hr.nX
 have nQ:Q.length≤16:=hr.nQ
 intros
 repeat' first|assumption|exact rfl|trivial|omega|exact Uo|exact U2|exact U0|exact U1|apply And.intro|intro _
theorem J8y [Sx.Dr]:Ok Tryz.prog 125 (Yb.con Jqa):=Ye (Ks mixed W73.ok (by kernel_rfl) (by kernel_rfl) (Un (l:=([]:List (Nat×Func))) (by simp)) (fun xx yy=>na ()) (fun xx yy=>fun _=>na ()) fun T xx yy hT=>by obtain rfl:=hT _ rfl;exact J7q xx.1 xx.2.1 xx.2.2.1 xx.2.2.2.1 xx.2.2.2.2.1 xx.2.2.2.2.2.1 xx.2.2.2.2.2.2 yy.1.1 yy.1.2.1 yy.1.2.2.1 yy.1.2.2.2.1 yy.1.2.2.2.2)
abbrev W74 [Sx.Dr]:=W73.add J8y
end Go.Proofs.YtdpcaknnhcnkpaaGreat
namespace Go.Proofs.YtdpcaknnhcnkpaaGreat
instance drOff:Sx.Dr:=Sx.Dr.off
open Go.Sx
set_option maxHeartbeats 20000000
def F3 (T:TypeId) (s:Sch):Con:={args:=[.val false (.list T s)],ress:=[(false, .list T s)],owns:=[true],pre:=fun(l,_)=>[l.length≤1000000],spec:=fun(l,_)=>(l,())}
theorem Jgr {M:Nat→Prop} {w:World}:∀{xs:List Int} {flat:List Value},U6 (Rep M w (.int .i64)) xs flat→flat=xs.map (Value.int .i64)
 |[],_,h=>h
 |x::xs,_,⟨c1,c2,rfl,h1,h2⟩=>by
  have h1:c1=[.int .i64 x]:=h1
  rw[h1,Jgr h2];rfl
theorem Jj5 {M:Nat→Prop} {w:World}:∀(xs:List Int),U6 (Rep M w (.int .i64)) xs (xs.map (Value.int .i64))
 |[]=>rfl
 |x::xs=>⟨[.int .i64 x],xs.map (Value.int .i64),rfl,rfl,Jj5 xs⟩
theorem Jgq {M:Nat→Prop} {w:World}:∀{xs:List ByteArray} {flat:List Value},U6 (Rep M w .str) xs flat→flat=xs.map Value.string
 |[],_,h=>h
 |x::xs,_,⟨c1,c2,rfl,h1,h2⟩=>by
  have h1:c1=[.string x]:=h1
  rw[h1,Jgq h2];rfl
theorem Jj4 {M:Nat→Prop} {w:World}:∀(xs:List ByteArray),U6 (Rep M w .str) xs (xs.map Value.string)
 |[]=>rfl
 |x::xs=>⟨[.string x],xs.map Value.string,rfl,rfl,Jj4 xs⟩
theorem J8o:Ok Tryz.prog 140 (F3 3 sI):=by
 refine⟨⟨Tryz.f140,by kernel_rfl,by kernel_rfl,by kernel_rfl⟩,fun z hz=>(by cases hz),fun F hF=>(by cases hF),fun _ x M R w vs hM hg hpre hargs=> ?_⟩
 obtain⟨l,u⟩:=x
 obtain⟨v1,vs1,rfl,⟨cs,rfl,hr⟩,hn⟩:=hargs
 have hn:vs1=[]:=hn
 subst hn
 obtain⟨v,flat,rfl,h1,h2⟩:=hr
 have hfl:=Jgr h1
 have hl:l.length≤1000000:=hpre
 have fin:∀(v':Value) (w':World),w'.ownsRow w.heap.size 3 1 v' l.length (l.map (Value.int .i64))→RowKit.Below w.heap.size w w'→Jjk M w (F3 3 sI).ress (F3 3 sI).owns ((F3 3 sI).spec (l,u)) (.returned v') w':=by
  intro v' w' ho hb
  refine⟨M,[v'],rfl, .ofK hb,fun _ h=>h,fun b h=> .inl h,_,[],rfl,⟨l.map (Value.int .i64),Jj5 l,ho,fun g hg' hMg=> ?_⟩,rfl⟩
  rcases ho.2 with⟨rfl,_⟩|⟨g',cap,cur,rfl,hbg,_⟩
  ·cases hg'
  ·have:g'=g:=Option.some.inj hg'
   have:=hM g (.inl hMg)
   omega
 rcases h2 with⟨rfl|⟨ad,cap,rfl⟩,h0⟩|⟨b,off,cap,rfl,hcap,hk,hm⟩
 ·have:l=[]:=List.eq_nil_of_length_eq_zero h0
  subst this
  refine(Tryz.clone174_nil 0 0 w).mono ?_
  rintro e w' ⟨rfl,rfl⟩
  exact fin _ _ ⟨rfl, .inl ⟨rfl,rfl⟩⟩ (RowKit.Below.refl _ _)
 ·have:l=[]:=List.eq_nil_of_length_eq_zero h0
  subst this
  refine(Tryz.clone174_zero ad cap w).mono ?_
  rintro e w' ⟨v',rfl,ho,_,hb⟩
  exact fin _ _ ho hb
 ·refine(Tryz.clone174 b off l.length cap l w (Nat.le_refl _) (by omega) (fun j hj=>hk j _ (by rw[hfl,List.getElem?_map,List.getElem?_eq_getElem hj];simp[List.getD_eq_getElem?_getD,List.getElem?_eq_getElem hj]))).mono ?_
  rintro e w' ⟨v',rfl,ho,_,hb⟩
  rw[List.take_of_length_le (Nat.le_refl _)] at ho
  exact fin _ _ ho hb
abbrev W75:=W74.add J8o
theorem J8p:Ok Tryz.prog 139 (F3 9 .str):=by
 refine⟨⟨Tryz.f139,by kernel_rfl,by kernel_rfl,by kernel_rfl⟩,fun z hz=>(by cases hz),fun F hF=>(by cases hF),fun _ x M R w vs hM hg hpre hargs=> ?_⟩
 obtain⟨l,u⟩:=x
 obtain⟨v1,vs1,rfl,⟨cs,rfl,hr⟩,hn⟩:=hargs
 have hn:vs1=[]:=hn
 subst hn
 obtain⟨v,flat,rfl,h1,h2⟩:=hr
 have hfl:=Jgq h1
 have hl:l.length≤1000000:=hpre
 have fin:∀(v':Value) (w':World),w'.ownsRow w.heap.size 9 1 v' l.length (l.map Value.string)→RowKit.Below w.heap.size w w'→Jjk M w (F3 9 .str).ress (F3 9 .str).owns ((F3 9 .str).spec (l,u)) (.returned v') w':=by
  intro v' w' ho hb
  refine⟨M,[v'],rfl, .ofK hb,fun _ h=>h,fun b h=> .inl h,_,[],rfl,⟨l.map Value.string,Jj4 l,ho,fun g hg' hMg=> ?_⟩,rfl⟩
  rcases ho.2 with⟨rfl,_⟩|⟨g',cap,cur,rfl,hbg,_⟩
  ·cases hg'
  ·have:g'=g:=Option.some.inj hg'
   have:=hM g (.inl hMg)
   omega
 rcases h2 with⟨rfl|⟨ad,cap,rfl⟩,h0⟩|⟨b,off,cap,rfl,hcap,hk,hm⟩
 ·have:l=[]:=List.eq_nil_of_length_eq_zero h0
  subst this
  refine(Tryz.clone173_nil 0 0 w).mono ?_
  rintro e w' ⟨rfl,rfl⟩
  exact fin _ _ ⟨rfl, .inl ⟨rfl,rfl⟩⟩ (RowKit.Below.refl _ _)
 ·have:l=[]:=List.eq_nil_of_length_eq_zero h0
  subst this
  refine(Tryz.clone173_zero ad cap w).mono ?_
  rintro e w' ⟨v',rfl,ho,_,hb⟩
  exact fin _ _ ho hb
 ·refine(Tryz.clone173 b off l.length cap l w (Nat.le_refl _) (by omega) (fun j hj=>hk j _ (by rw[hfl,List.getElem?_map,List.getElem?_eq_getElem hj];simp[List.getD_eq_getElem?_getD,List.getElem?_eq_getElem hj]))).mono ?_
  rintro e w' ⟨v',rfl,ho,_,hb⟩
  rw[List.take_of_length_le (Nat.le_refl _)] at ho
  exact fin _ _ ho hb
abbrev W76:=W75.add J8p
def Jui:Con:={args:=[aEv],ress:=[(true,sEv)],owns:=[],pre:=fun(e,_)=>[e.2.2.1.length≤1000000,e.2.2.2.1.length≤1000000],spec:=fun(e,_)=>(e,())}
def F8 (a:Ls) (b:Li):=Z98 a∧Z43 b
theorem Ki7:Ok Tryz.prog 98 Jui:=okW W76 Tryz.f98 na fun xx=>by
 obtain⟨⟨(n:Int),(k:ByteArray),(ns:List ByteArray),(vs:List Int),(tx:ByteArray)⟩,_⟩:=xx
 refine(by kernel_rfl:(Z98 ns→Z43 vs→F8 ns vs∧(n,k,ns,vs,tx)=(n,k,ns,vs,tx))=_).mp ?_
 delta Z43 Z98 F8
 exact fun h1 h2=>⟨⟨h1,h2⟩,rfl⟩
abbrev W77:=W76.add Ki7
def Jdo (T:TypeId) (s:Sch):Con:={args:=[.val false (.list T s)],ress:=[(false, .list T s)],owns:=[true],pre:=fun(l,_)=>[l.length≤1000000],spec:=fun(l,_)=>(l,())}
theorem Jzx:Ok Tryz.prog 141 (Jdo 140 Jie):=okW W77 Tryz.f141 na fun xx=>by
 obtain⟨(l:List Sta),_⟩:=xx
 refine(by kernel_rfl:(Z53 l→((0≤Ln l∧Ln l≤1000000)∧Ln l≤Ln l∧Ln l≤1000000)∧List.length l=List.length (List.replicate (List.length l) Z17)∧l=l)=_).mp ?_
 delta Z17 Z53 Ln B0
 intro h
 exact⟨⟨⟨by omega,by omega⟩,by omega,by omega⟩,by simp,rfl⟩
abbrev W78:=W77.add Jzx
theorem Jzw:Ok Tryz.prog 142 (Jdo 108 Jcw):=okW W78 Tryz.f142 na fun xx=>by
 obtain⟨(l:List Ord),_⟩:=xx
 refine(by kernel_rfl:(Z41 l→((0≤Ln l∧Ln l≤1000000)∧Ln l≤Ln l∧Ln l≤1000000)∧List.length l=List.length (List.replicate (List.length l) Jhz)∧l=l)=_).mp ?_
 delta Z41 Z65 Jhz Ln B0
 intro h
 exact⟨⟨⟨by omega,by omega⟩,by omega,by omega⟩,by simp,rfl⟩
abbrev W79:=W78.add Jzw
theorem Jzv:Ok Tryz.prog 143 (Jdo 111 Jmu):=okW W79 Tryz.f143 na fun xx=>by
 obtain⟨(l:List Met),_⟩:=xx
 refine(by kernel_rfl:(List.length l≤1000000→((0≤Ln l∧Ln l≤1000000)∧Ln l≤Ln l∧Ln l≤1000000)∧List.length l=List.length (List.replicate (List.length l) Ju2)∧l=l)=_).mp ?_
 delta Z65 Ju2 Ln B0
 intro h
 exact⟨⟨⟨by omega,by omega⟩,by omega,by omega⟩,by simp,rfl⟩
abbrev W80:=W79.add Jzv
theorem Jzu:Ok Tryz.prog 144 (Jdo 143 Jgl):=okW W80 Tryz.f144 na fun xx=>by
 obtain⟨(l:List Out),_⟩:=xx
 refine(by kernel_rfl:(Z42 l→((0≤Ln l∧Ln l≤1000000)∧Ln l≤Ln l∧Ln l≤1000000)∧List.length l=List.length (List.replicate (List.length l) Jmy)∧l=l)=_).mp ?_
 delta Z42 Jmy Ln B0
 intro h
 exact⟨⟨⟨by omega,by omega⟩,by omega,by omega⟩,by simp,rfl⟩
abbrev W81:=W80.add Jzu
theorem Jzt:Ok Tryz.prog 145 (Jdo 186 Ja5):=okW W81 Tryz.f145 na fun xx=>by
 obtain⟨(l:List Per),_⟩:=xx
 refine(by kernel_rfl:(Z44 l→((0≤Ln l∧Ln l≤1000000)∧Ln l≤Ln l∧Ln l≤1000000)∧List.length l=List.length (List.replicate (List.length l) (B0,B0,false))∧l=l)=_).mp ?_
 delta Z44 Ln B0
 intro h
 exact⟨⟨⟨by omega,by omega⟩,by omega,by omega⟩,by simp,rfl⟩
abbrev W82:=W81.add Jzt
end Go.Proofs.YtdpcaknnhcnkpaaGreat
namespace Go.Proofs.Tryz
open Go.Proofs.YtdpcaknnhcnkpaaGreat
def kindsU:List (ByteArray×Ki4):=[(K3,[],0,none,none,none),
 (J1,[(0,false)],2,some 101,some 102,some 103),
 (Uh,[(0,true)],2,some 105,some 106,some 103),
 (Ka,[(1,false),(0,true),(0,true)],4,some 107,some 108,some 109),
 (Kn,[(1,true)],4,some 110,some 111,some 109),
 (Zz,[(1,true)],1,some 112,some 113,some 109),
 (Ul,[(2,false),(0,true)],4,some 114,some 115,some 116),
 (Kt,[(2,true)],1,some 117,some 118,some 116),
 (Uk,[(3,false),(2,true)],1,some 119,some 120,some 121),
 (Uj,[(3,true)],1,some 122,some 123,some 121),
 (Jk,[],2,some 124,some 125,none)]
end Go.Proofs.Tryz
namespace Go.Proofs.YtdpcaknnhcnkpaaGreat
open Go.Sx
set_option maxHeartbeats 20000000
def Jwp:Jmt:={kT:=9,gk:=false,gv:=true,ks:= .str,vs:=Jzj,l:=Tryz.kindsU}
theorem J74:Ok Tryz.prog 76 (Jmt.con Jwp):=Ki8
abbrev W83:=W82.add J74
abbrev V7:=List Ev×List Ev×List Reg
abbrev Jzk:Sch:= .prod (.list 67 sEv) (.prod (.list 67 sEv) (.list 100 Jrg))
def Fr:Reg:=(0,0,[],[],[],[],[])
def ev0:Ev:=(0,Jz,[],[],Jz)
def Vs (G:List Reg):Reg:=G.getD (G.length-1) Fr
structure Jy (h:V7):Prop where
 nE:h.1.length≤1000
 nC:h.2.1.length≤h.1.length
 nG:h.2.2.length=h.2.1.length
 reg:∀r∈h.2.2,J3 r
def Km (r:Reg) (ns:List ByteArray):List (Int×Bool)→Nat→Bool
 |[],_=>false
 |(w,b)::l,i=>bif (bif b then !Ym r w (ns.getD i Jz) else false) then true else Km r ns l (i+1)
def K4 (r:Reg) (ns:List ByteArray):List (Int×Bool)→Nat→Bool
 |[],_=>false
 |(w,b)::l,i=>bif (bif !b then Ym r w (ns.getD i Jz) else false) then true else K4 r ns l (i+1)
def ckS (r:Reg) (e:Ev):Int:=match(Kz e.2.1).2.2.1 with
 |some 101=>Jmk r.2.2.1 e.2.2.2.1
 |some 105=>Jpw e.2.2.2.1
 |some 107=>L1 r.2.2.1 r.2.2.2.1 r.2.2.2.2.2.1 e
 |some 110=>Jho r.2.2.2.1 r.2.2.2.2.1 e.2.2.1 e.2.2.2.1
 |some 112=>Jeb r.2.2.2.1 e.2.2.1 e.2.2.2.1
 |some 114=>Jck r.2.2.1 r.2.2.2.1 r.2.2.2.2.2.1 e
 |some 117=>Jec r.2.2.2.2.2.1 r.2.2.2.2.2.2 e.2.2.1 e.2.2.2.1
 |some 119=>Jed r.2.2.2.2.2.1 r.2.2.2.2.2.2 e.2.2.1 e.2.2.2.1
 |some 122=>Jpv r.2.2.2.2.2.2 e.2.2.1
 |some 124=>Zu r.2.1 r.2.2.2.1 r.2.2.2.2.1 r.2.2.2.2.2.1 r.2.2.2.2.2.2 e.2.2.2.1
 |_=>0
def Zw (h:V7) (e:Ev):Int:=
 bif e.1 !=(h.1.length:Int)+1 then 11 else
 bif e.2.1.toList==K3.toList then(bif (h.2.1.length:Int)==0 then 12 else bif (h.2.1.getD (h.2.1.length-1) ev0).2.1.toList==Jk.toList then 21 else 0) else
 bif decide (e.2.2.2.1.getD 0 0<(Vs h.2.2).1) then 22 else
 bif Km (Vs h.2.2) e.2.2.1 (Kz e.2.1).1 0 then 10 else
 bif K4 (Vs h.2.2) e.2.2.1 (Kz e.2.1).1 0 then 9 else ckS (Vs h.2.2) e
def Jk0:Yb:={T? :=none,s:=Jzk,args:=[aEv],ress:=[I],pre:=fun h (e,_)=>[Jy h,Jc e=0],spec:=fun h (e,_)=>(Zw h e,()),post:=fun h _=>h}
abbrev V3 (m:Nat):Nat→Option Ann:=fun i=>if i=0∨i=2 then some {X:=Unit,σ:=fun _=>⟨0,[],[]⟩,inv:=fun _=>True,mu:=fun _=>0,un:=m} else none
def Jjd (h:V7) (n:Int) (ns:List ByteArray) (vs:List Int) (roles:List (Int×Bool)) (ck:Int):Int:=
 bif n !=(h.1.length:Int)+1 then 11 else
 bif decide (vs.getD 0 0<(Vs h.2.2).1) then 22 else
 bif Km (Vs h.2.2) ns roles 0 then 10 else
 bif K4 (Vs h.2.2) ns roles 0 then 9 else ck
theorem V4 {h:V7} {n:Int} {k:ByteArray} {ns:List ByteArray} {vs:List Int} {tx:ByteArray} (h1:(k.toList==K3.toList)=false):Zw h (n,k,ns,vs,tx)=Jjd h n ns vs (Kz k).1 (ckS (Vs h.2.2) (n,k,ns,vs,tx)):=by
 unfold Zw Jjd
 dsimp only
 rw[h1];rfl
theorem Yk:Kz J1=([(0,false)],2,some 101,some 102,some 103):=by kernel_rfl
theorem Ht:Kz Uh=([(0,true)],2,some 105,some 106,some 103):=by kernel_rfl
theorem Uc:Kz Ka=([(1,false),(0,true),(0,true)],4,some 107,some 108,some 109):=by kernel_rfl
theorem Vl:Kz Kn=([(1,true)],4,some 110,some 111,some 109):=by kernel_rfl
theorem D5:Kz Zz=([(1,true)],1,some 112,some 113,some 109):=by kernel_rfl
theorem X2:Kz Ul=([(2,false),(0,true)],4,some 114,some 115,some 116):=by kernel_rfl
theorem Yl:Kz Kt=([(2,true)],1,some 117,some 118,some 116):=by kernel_rfl
theorem X1:Kz Uk=([(3,false),(2,true)],1,some 119,some 120,some 121):=by kernel_rfl
theorem X0:Kz Uj=([(3,true)],1,some 122,some 123,some 121):=by kernel_rfl
theorem Ut:Kz Jk=([],2,some 124,some 125,none):=by kernel_rfl
theorem Jdm {r:Reg} {s:ByteArray}:Ym r 0 s=decide (0≤J0 r.2.2.1 s):=rfl
theorem Jdl {r:Reg} {s:ByteArray}:Ym r 1 s=decide (0≤Uv r.2.2.2.1 s):=rfl
theorem Jdk {r:Reg} {s:ByteArray}:Ym r 2 s=decide (0≤K1 r.2.2.2.2.2.1 s):=rfl
theorem Jdj {r:Reg} {s:ByteArray}:Ym r 3 s=decide (0≤Yi r.2.2.2.2.2.2 s):=rfl
structure Jxz (e:Ev):Prop where
 num:1≤e.1∧e.1≤1000
 kind:D3 e.2.1=true
 nn:e.2.2.1.length=(Kz e.2.1).1.length
 nv:(e.2.2.2.1.length:Int)=(Kz e.2.1).2.1
 name:∀s∈e.2.2.1,Xn s=true
 val:EvV e
 txt:e.2.2.2.2.size=0
theorem firstS_zero {l:List Int}:Ja l=0↔∀x∈l,x=0:=by
 induction l with
 |nil=>simp[Ja]
 |cons x l ih=>
  unfold Ja
  by_cases h:x=0
  ·rw[if_pos h,ih];simp[h]
  ·rw[if_neg h];simp[h]
theorem Je {n a b:Int}:Jd n a b=0↔a≤n∧n≤b:=by
 unfold Jd
 by_cases h1:n<a
 ·simp[h1];omega
 ·by_cases h2:b<n
  ·simp[h2]
  ·simp[h1,h2];omega
theorem Y9 {e:Ev} (h:Jc e=0):Jxz e:=by
 unfold Jc at h
 by_cases h1:Jd e.1 1 1000≠0
 ·rw[if_pos h1] at h;exact absurd h h1
 rw[if_neg h1] at h
 cases hk:D3 e.2.1 with
 |false=>rw[hk] at h;cases h
 | true =>
  rw[hk,cond_true] at h
  by_cases h2:e.2.2.1.length=(Kz e.2.1).1.length∧(e.2.2.2.1.length:Int)=(Kz e.2.1).2.1
  ·rw[if_pos h2] at h
   have h3:=firstS_zero.1 h
   have n1:=firstS_zero.1 (h3 _ (List.mem_cons_self ..))
   have n2:=firstS_zero.1 (h3 _ (List.mem_cons_of_mem _ (List.mem_cons_self ..)))
   have n3:=h3 _ (List.mem_cons_of_mem _ (List.mem_cons_of_mem _ (List.mem_cons_self ..)))
   refine⟨Je.1 (by omega),hk,h2.1,h2.2,fun s hs=> ?_,fun v hv=>Je.1 (n2 _ (List.mem_map_of_mem hv)), ?_⟩
   ·have:=n1 _ (List.mem_map_of_mem hs)
    cases hn:Xn s with
    |true=>rfl
    |false=>rw[hn] at this;cases this
   ·by_cases h4:0<e.2.2.2.2.size
    ·rw[decide_eq_true h4] at n3;cases n3
    ·omega
  ·rw[if_neg h2] at h;cases h
theorem Jdy {h:V7} (hh:Jy h):J3 (Vs h.2.2):=by
 unfold Vs
 by_cases h0:0<h.2.2.length
 ·exact hh.reg _ (Jf (by omega))
 ·have:h.2.2=[]:=List.eq_nil_of_length_eq_zero (by omega)
  rw[this]
  exact⟨by decide,by decide,by decide,by decide,by decide,by decide,by decide,fun _ h=>(by cases h),fun _ h=>(by cases h),fun _ h=>(by cases h),fun _ h=>(by cases h),fun _ h=>(by cases h),fun _ h=>(by cases h)⟩
theorem J6 {G:List Reg} (h:decide (0<(G.length:Int))=false):Vs G=Fr:=by
 have h:¬0<(G.length:Int):=of_decide_eq_false h
 have:G=[]:=List.eq_nil_of_length_eq_zero (by omega)
 rw[this];rfl
theorem Xq:((0,0,[],[],[],[],[]):Reg)=Fr:=rfl
theorem Jdz (G:List Reg):G.getD (G.length-1) Fr=Vs G:=rfl
theorem Xw {E C:List Ev} {G:List Reg} {e:Ev} (hh:Jy (E,C,G)) (hc:Jc e=0):e.2.2.1.length=(Kz e.2.1).1.length∧(e.2.2.2.1.length:Int)=(Kz e.2.1).2.1∧J3 (Vs G)∧J3 Fr∧E.length≤1000∧C.length≤E.length∧G.length=C.length∧((G.length:Int)-1).toNat=G.length-1∧EvV e:=
 have hE:=Y9 hc
 ⟨hE.nn,hE.nv,Jdy hh,Jdy (h:=([],[],[])) ⟨by decide,by decide,rfl,fun _ h=>(by cases h)⟩,hh.nE,hh.nC,hh.nG,by omega,hE.val⟩
def Z2 (a:List Ev):=Ln a==0
def Z4 (a:Int) (b:Ls) (c:Li) (d:Bt):=(a,K3,b,c,d)
def Z6 (a:List Ev):=Ln a-1
def Z29:=Iw ((0:Int)+1)
def Z39:=Tw (Bd 0 0)
def Z55 (a:List Ev):=Iw (Z6 a)
def Z57 (a:List Ev):=Iw (Ln a+1)
def Z80 (a:Li):=Tw (Z32 a)
def Z87 (a:List Reg):=decide (0<Ln a)
def Ju1:=Z29∧False
def Jmp (a b:List Ev) (c:List Reg) (d:Int) (e:Ls) (f:Li) (g:Bt):=Zw (a,b,c) (Z4 d e f g)
def Jh0:Int×ByteArray×List ByteArray×List Int×ByteArray:=((0:Int),B0,[],[],B0)
def Jc9 (a:Li):=decide (Z76 a<0)
def F7:Int×List Sta×List Ord×List Met×List Out×List Per:=((0:Int),[],[],[],[],[])
def Jc7 (a:Int) (b:List Ev):=a !=Ln b+1
def Jc6 (a:List Ev):=Z55 a∧Tw (Bd (Z6 a) (Ln a))
def Xd:=((0:Int),F7)
def Xe (a:List Reg):=Iw (Ln a-1)∧Tw (Bd (Ln a-1) (Ln a))
def Zs:=J3 Xd
def Jjh:=true=true→Zs
def Jjg:=false=true→Zs
def Jaf (a:List Reg):=Gt a (Ln a-1) Xd
def Jcq (a:List Reg):=(Jaf a).1
def Jae (a:List Reg):=(Jaf a).2
def Lf (a:List Reg):=(Jae a).2
def Jax (a:List Reg):=(Jae a).1
def Le (a:List Reg):=(Lf a).2
def Dm (a:List Reg):=(Le a).2
def Zx (a:List Reg):=(Dm a).2
def Jym (a:Ls):=Ym Xd 0 (Z78 a)
def Jc4 (a:List Ev):=bif Lb (Gt a (Z6 a) Jh0).2.1 Jk then(21:Int) else(0:Int)
def Jyj (a:Ls):=bif true then Jym a else false
def Jc3 (a:Li) (b:List Reg):=decide (Z76 a<Jcq b)
def Jc2 (a:Ls):=T2 (true=true→Z84 a) Jjh
def Jc1 (a:Ls):=T2 (false=true→Z84 a) Jjg
def Kei (a:TypeId) (b c:List Ev) (d:List Reg) (e:Int) (f:Ls) (g:Li) (h:Bt):=Br false (Sf true (Sf a (Sf (b,c,d) (10=Jmp b c d e f g h)))) Ju1
def Jau (a:List Reg):=(Jax a,(Lf a).1,(Le a).1,(Dm a).1,E2 (Zx a))
def Za (a:List Reg):=(Jcq a,Jau a)
def Ha (a:List Reg):=J3 (Za a)
def Jjf (a:List Reg):=true=true→Ha a
def Jje (a:List Reg):=false=true→Ha a
def Jye (a:List Reg) (b:Ls):=Ym (Za a) 0 (Z78 b)
def Jyd (a:List Reg) (b:Ls):=bif true then Jye a b else false
def Jc0 (a:Ls) (b:List Reg):=T2 (true=true→Z84 a) (Jjf b)
def Jcz (a:Ls) (b:List Reg):=T2 (false=true→Z84 a) (Jje b)
variable (T:TypeId) (E C:List Ev) (G:List Reg) (tk st:Int) (S:List Sta) (O:List Ord) (M:List Met) (X:List Out) (Q:List Per) (n:Int) (ns:List ByteArray) (vs:List Int) (tx:ByteArray)
theorem Jm6:wpFO Tryz.prog W83.g (V3 1) (fun _=>na ()) (Sx.look ([(61,Tryz.f61)]:List (Nat×Func))) Tryz.f53 Jk0 T (E,C,G) ((n,K3,ns,vs,tx),()):=by
 refine(by kernel_rfl:(Jy (E,C,G)→Jc (Z4 n ns vs tx)=0→Z57 E∧Br (Jc7 n E) (Sf true (Sf T (Sf (E,C,G) (11=Jmp E C G n ns vs tx)))) (Br true (Br (Z2 C) (Sf true (Sf T (Sf (E,C,G) (12=Jmp E C G n ns vs tx)))) (Jc6 C∧Sf true (Sf T (Sf (E,C,G) (Jc4 C=Jmp E C G n ns vs tx))))) (Br (Z87 G) (Xe G∧Z80 vs∧Br (Jc3 vs G) (Sf true (Sf T (Sf (E,C,G) (22=Jmp E C G n ns vs tx)))) (Br false (Z39∧Jcz ns G∧Kei T E C G n ns vs tx) (Br false (Z39∧Jc0 ns G∧Br (Jyd G ns) (Sf true (Sf T (Sf (E,C,G) (9=Jmp E C G n ns vs tx)))) Ju1) (False∧Sf true False)))) (Z80 vs∧Br (Jc9 vs) (Sf true (Sf T (Sf (E,C,G) (22=Jmp E C G n ns vs tx)))) (Br false (Z39∧Jc1 ns∧Kei T E C G n ns vs tx) (Br false (Z39∧Jc2 ns∧Br (Jyj ns) (Sf true (Sf T (Sf (E,C,G) (9=Jmp E C G n ns vs tx)))) Ju1) (False∧Sf true False)))))))=_).mp ?_
 delta Z2 Z4 Z6 Z29 Z32 Z39 Z55 Z57 Z76 Z78 Z80 Z84 Z87 Ju1 Jmp Jh0 Jc9 F7 Jc7 Jc6 Xd Xe Zs Jjh Jjg Jaf Jcq Jae Lf Jax Le Dm Zx Jym Jc4 Jyj Jc3 Jc2 Jc1 Kei Jau Za Ha Jjf Jje Jye Jyd Jc0 Jcz Br Iw Bd T2 Tw Sf Ln Gt B0 Lb E2 Jk K3
 intro hh hc
 have hE:=Y9 hc
 have n1:E.length≤1000:=hh.nE
 have n2:C.length≤E.length:=hh.nC
 have eA:Zw (E,C,G) (n,K3,ns,vs,tx)=bif n !=(E.length:Int)+1 then 11 else(bif (C.length:Int)==0 then 12 else bif (C.getD (C.length-1) ev0).2.1.toList==Jk.toList then 21 else 0):=by
  unfold Zw
  dsimp only
  rw[show(K3.toList==K3.toList)=true from by kernel_rfl];rfl
 refine⟨by omega,fun h=>⟨rfl,rfl,rfl, ?_⟩,fun h=>⟨fun _=>⟨fun h2=>⟨rfl,rfl,rfl, ?_⟩,fun h2=> ?_⟩,fun h=>(by cases h)⟩⟩
 ·rw[eA,h];rfl
 ·rw[eA,h,h2];rfl
 ·have h3:¬C.length=0:=fun e=>by rw[e] at h2;cases h2
  have h4:((C.length:Int)-1).toNat=C.length-1:=by omega
  refine⟨⟨⟨by omega,by omega⟩,⟨by omega,by omega⟩,⟨by omega,by omega⟩⟩,rfl,rfl,rfl, ?_⟩
  rw[eA,h,h2,h4];rfl
def Z31 (a:Int) (b:Ls) (c:Li) (d:Bt):=(a,J1,b,c,d)
def Z50:=Tw (Bd 0 1)
def Z97:=(0:Int)+1+1
def Jda:=Iw Z97
def L3:=Tw (Bd ((0:Int)+1) 1)
def Jlf (a b:List Ev) (c:List Reg) (d:Int) (e:Ls) (f:Li) (g:Bt):=Zw (a,b,c) (Z31 d e f g)
def Ja0:=Jda∧False
def Jq4 (a:Ls):=true=true→Bd ((0:Int)+1) (Ln a)
def Jq3 (a:Ls):=false=true→Bd ((0:Int)+1) (Ln a)
def Jyn (a:Li):=Zs∧Z45 a
def Jrl (a:Ls):=Ym Xd 0 (Z82 a)
def J4y (a:TypeId) (b c:List Ev) (d:List Reg) (e:Int) (f:Ls) (g:Li) (h:Bt):=Sf true (Sf a (Sf (b,c,d) (10=Jlf b c d e f g h)))
def J1v (a:TypeId) (b c:List Ev) (d:List Reg) (e:Int) (f:Ls) (g:Li) (h:Bt):=Sf true (Sf a (Sf (b,c,d) (9=Jlf b c d e f g h)))
def Jmx (a:Ls):=bif true then Jrl a else false
def Jf6 (a:Ls):=T2 (Jq4 a) Jjh
def Jf5 (a:Ls):=T2 (Jq3 a) Jjg
def Kd9 (a:TypeId) (b c:List Ev) (d:List Reg) (e:Int) (f:Ls) (g:Li) (h:Bt):=Br false (J4y a b c d e f g h) Ja0
def Kdz (a:Li) (b:TypeId) (c d:List Ev) (e:List Reg) (f:Int) (g:Ls) (h:Bt):=Jyn a∧Sf true (Sf b (Sf (c,d,e) (Jmk [] a=Jlf c d e f g a h)))
def Jyf (a:List Reg) (b:Li):=Ha a∧Z45 b
def Jrk (a:List Reg) (b:Ls):=Ym (Za a) 0 (Z82 b)
def Jmw (a:List Reg) (b:Ls):=bif true then Jrk a b else false
def Jf4 (a:Ls) (b:List Reg):=T2 (Jq4 a) (Jjf b)
def Jf3 (a:Ls) (b:List Reg):=T2 (Jq3 a) (Jje b)
def Kbi (a:List Reg) (b:Li) (c:TypeId) (d e:List Ev) (f:Int) (g:Ls) (h:Bt):=Jyf a b∧Sf true (Sf c (Sf (d,e,a) (Jmk (Lf a).1 b=Jlf d e a f g b h)))
def Ka1 (a:Ls) (b:TypeId) (c d:List Ev) (e:List Reg) (f:Int) (g:Li) (h:Bt):=Br true (Z50∧Jc2 a∧Br (Jyj a) (J1v b c d e f a g h) (Z29∧Br false (L3∧Jf6 a∧Br (Jmx a) (J1v b c d e f a g h) Ja0) (Kdz g b c d e f a h))) (Kdz g b c d e f a h)
def Kai (a:Ls) (b:List Reg) (c:TypeId) (d e:List Ev) (f:Int) (g:Li) (h:Bt):=Br true (Z50∧Jc0 a b∧Br (Jyd b a) (J1v c d e b f a g h) (Z29∧Br false (L3∧Jf4 a b∧Br (Jmw b a) (J1v c d e b f a g h) Ja0) (Kbi b g c d e f a h))) (Kbi b g c d e f a h)
theorem Jga:wpFO Tryz.prog W83.g (V3 2) (fun _=>na ()) (Sx.look ([(61,Tryz.f61)]:List (Nat×Func))) Tryz.f53 Jk0 T (E,C,G) ((n,J1,ns,vs,tx),()):=by
 refine(by kernel_rfl:(Jy (E,C,G)→Jc (Z31 n ns vs tx)=0→Z57 E∧Br (Jc7 n E) (Sf true (Sf T (Sf (E,C,G) (11=Jlf E C G n ns vs tx)))) (Br false (Br (Z2 C) (Sf true (Sf T (Sf (E,C,G) (12=Jlf E C G n ns vs tx)))) (Jc6 C∧Sf true (Sf T (Sf (E,C,G) (Jc4 C=Jlf E C G n ns vs tx))))) (Br (Z87 G) (Xe G∧Z80 vs∧Br (Jc3 vs G) (Sf true (Sf T (Sf (E,C,G) (22=Jlf E C G n ns vs tx)))) (Br true (Z50∧Jcz ns G∧Br false (J4y T E C G n ns vs tx) (Z29∧Br false (L3∧Jf3 ns G∧Kd9 T E C G n ns vs tx) (Kai ns G T E C n vs tx))) (Kai ns G T E C n vs tx))) (Z80 vs∧Br (Jc9 vs) (Sf true (Sf T (Sf (E,C,G) (22=Jlf E C G n ns vs tx)))) (Br true (Z50∧Jc1 ns∧Br false (J4y T E C G n ns vs tx) (Z29∧Br false (L3∧Jf5 ns∧Kd9 T E C G n ns vs tx) (Ka1 ns T E C G n vs tx))) (Ka1 ns T E C G n vs tx))))))=_).mp ?_
 delta Z2 Z6 Z29 Z31 Z32 Z45 Z50 Z55 Z57 Z76 Z78 Z80 Z82 Z84 Z87 Z97 Jda L3 Jlf Ja0 Jh0 Jc9 Jq4 Jq3 F7 Jc7 Jc6 Xd Xe Zs Jjh Jjg Jaf Jcq Jae Jyn Lf Jax Le Dm Zx Jrl Jym Jc4 J4y J1v Jmx Jyj Jc3 Jc2 Jc1 Jf6 Jf5 Kd9 Kdz Jau Za Ha Jjf Jje Jyf Jye Jrk Jyd Jmw Jc0 Jcz Jf4 Jf3 Kbi Ka1 Kai Br Iw Bd T2 Tw Sf Ln Gt B0 Lb E2 Jk J1
 intro hh hc
 have eK:=V4 (h:=(E,C,G)) (n:=n) (k:=J1) (ns:=ns) (vs:=vs) (tx:=tx) (by kernel_rfl)
 obtain⟨hn,hv,hR,hr0,n1,n2,n3,hG,hV⟩:=Xw hh hc
 simp only[Yk,ckS,List.length_cons,List.length_nil] at eK hn hv
 rw[eK]
 simp only[hG,Jdz,Xq,Prod.eta,Jjd,Km,K4,Jdm,Jdl,Jdk,Jdj,cond_true,cond_false,Bool.not_true,Bool.not_false,Jz]
 repeat' first|apply And.intro|exact hV|intro _
 all_goals first|trivial|omega|assumption|(rename_i h;have h:=of_decide_eq_true h;omega)|(simp only[*,cond_true,cond_false,Bool.not_true,Bool.not_false];done)|(rw[J6 ‹_›];(first|have e1:decide (vs.getD 0 0<Fr.1)=true:=‹_›|have e1:decide (vs.getD 0 0<Fr.1)=false:=‹_›);simp only[*,cond_true,cond_false,Bool.not_true,Bool.not_false];first|done|rfl)|(simp only[Bool.not_eq_false',decide_eq_true_eq] at*;assumption)
def Z14 (a:Int) (b:Ls) (c:Li) (d:Bt):=(a,Uh,b,c,d)
def Jmo (a b:List Ev) (c:List Reg) (d:Int) (e:Ls) (f:Li) (g:Bt):=Zw (a,b,c) (Z14 d e f g)
def J40 (a:TypeId) (b c:List Ev) (d:List Reg) (e:Int) (f:Ls) (g:Li) (h:Bt):=Sf true (Sf a (Sf (b,c,d) (10=Jmo b c d e f g h)))
def J1y (a:TypeId) (b c:List Ev) (d:List Reg) (e:Int) (f:Ls) (g:Li) (h:Bt):=Sf true (Sf a (Sf (b,c,d) (9=Jmo b c d e f g h)))
def J1q (a:Li) (b:TypeId) (c d:List Ev) (e:List Reg) (f:Int) (g:Ls) (h:Bt):=Z45 a∧Sf true (Sf b (Sf (c,d,e) (Jpw a=Jmo c d e f g a h)))
def Kee (a:TypeId) (b c:List Ev) (d:List Reg) (e:Int) (f:Ls) (g:Li) (h:Bt):=Br false (J40 a b c d e f g h) Ja0
def Ka9 (a:Ls) (b:TypeId) (c d:List Ev) (e:List Reg) (f:Int) (g:Li) (h:Bt):=Br true (Z50∧Jc1 a∧Br false (J1y b c d e f a g h) (Z29∧Br false (L3∧Jf6 a∧Br (Jmx a) (J1y b c d e f a g h) Ja0) (J1q g b c d e f a h))) (J1q g b c d e f a h)
def Kap (a:Ls) (b:List Reg) (c:TypeId) (d e:List Ev) (f:Int) (g:Li) (h:Bt):=Br true (Z50∧Jcz a b∧Br false (J1y c d e b f a g h) (Z29∧Br false (L3∧Jf4 a b∧Br (Jmw b a) (J1y c d e b f a g h) Ja0) (J1q g c d e b f a h))) (J1q g c d e b f a h)
theorem Jlr:wpFO Tryz.prog W83.g (V3 2) (fun _=>na ()) (Sx.look ([(61,Tryz.f61)]:List (Nat×Func))) Tryz.f53 Jk0 T (E,C,G) ((n,Uh,ns,vs,tx),()):=by
 refine(by kernel_rfl:(Jy (E,C,G)→Jc (Z14 n ns vs tx)=0→Z57 E∧Br (Jc7 n E) (Sf true (Sf T (Sf (E,C,G) (11=Jmo E C G n ns vs tx)))) (Br false (Br (Z2 C) (Sf true (Sf T (Sf (E,C,G) (12=Jmo E C G n ns vs tx)))) (Jc6 C∧Sf true (Sf T (Sf (E,C,G) (Jc4 C=Jmo E C G n ns vs tx))))) (Br (Z87 G) (Xe G∧Z80 vs∧Br (Jc3 vs G) (Sf true (Sf T (Sf (E,C,G) (22=Jmo E C G n ns vs tx)))) (Br true (Z50∧Jc0 ns G∧Br (bif true then !Jye G ns else false) (J40 T E C G n ns vs tx) (Z29∧Br false (L3∧Jf3 ns G∧Kee T E C G n ns vs tx) (Kap ns G T E C n vs tx))) (Kap ns G T E C n vs tx))) (Z80 vs∧Br (Jc9 vs) (Sf true (Sf T (Sf (E,C,G) (22=Jmo E C G n ns vs tx)))) (Br true (Z50∧Jc2 ns∧Br (bif true then !Jym ns else false) (J40 T E C G n ns vs tx) (Z29∧Br false (L3∧Jf5 ns∧Kee T E C G n ns vs tx) (Ka9 ns T E C G n vs tx))) (Ka9 ns T E C G n vs tx))))))=_).mp ?_
 delta Z2 Z6 Z14 Z29 Z32 Z45 Z50 Z55 Z57 Z76 Z78 Z80 Z82 Z84 Z87 Z97 Jda L3 Jmo Ja0 Jh0 Jc9 Jq4 Jq3 F7 Jc7 Jc6 Xd Xe Zs Jjh Jjg Jaf Jcq Jae Lf Jax Le Dm Zx Jrl Jym Jc4 J40 J1y Jmx Jc3 Jc2 Jc1 Jf6 Jf5 J1q Kee Jau Za Ha Jjf Jje Jye Jrk Jmw Jc0 Jcz Jf4 Jf3 Ka9 Kap Br Iw Bd T2 Tw Sf Ln Gt B0 Lb E2 Uh Jk
 intro hh hc
 have eK:=V4 (h:=(E,C,G)) (n:=n) (k:=Uh) (ns:=ns) (vs:=vs) (tx:=tx) (by kernel_rfl)
 obtain⟨hn,hv,hR,hr0,n1,n2,n3,hG,hV⟩:=Xw hh hc
 simp only[Ht,ckS,List.length_cons,List.length_nil] at eK hn hv
 rw[eK]
 simp only[hG,Jdz,Xq,Prod.eta,Jjd,Km,K4,Jdm,Jdl,Jdk,Jdj,cond_true,cond_false,Bool.not_true,Bool.not_false,Jz]
 repeat' first|apply And.intro|exact hV|intro _
 all_goals first|trivial|omega|assumption|(rename_i h;have h:=of_decide_eq_true h;omega)|(simp only[*,cond_true,cond_false,Bool.not_true,Bool.not_false];done)|(rw[J6 ‹_›];(first|have e1:decide (vs.getD 0 0<Fr.1)=true:=‹_›|have e1:decide (vs.getD 0 0<Fr.1)=false:=‹_›);simp only[*,cond_true,cond_false,Bool.not_true,Bool.not_false];first|done|rfl)|(simp only[Bool.not_eq_false',decide_eq_true_eq] at*;assumption)
def Z7 (a:Int) (b:Ls) (c:Li) (d:Bt):=(a,Ka,b,c,d)
def Z49:=Tw (Bd 0 3)
def J23:=Tw (Bd ((0:Int)+1) 3)
def Jlj (a b:List Ev) (c:List Reg) (d:Int) (e:Ls) (f:Li) (g:Bt):=Zw (a,b,c) (Z7 d e f g)
def Jxp:=Z97+1
def Juv:=Iw Jxp
def J2w:=Tw (Bd Z97 3)
def J2p (a:Ls):=0≤J0 [] (Z93 a)
def J2o:=Tw (Bd Jxp 3)
def Kin (a:Ls):=Bd Jxp (Ln a)
def J6n:=Iw (Jxp+1)∧False
def J2d (a:Ls):=true=true→Bd Z97 (Ln a)
def J2c (a:Ls):=false=true→Bd Z97 (Ln a)
def Kh9 (a:Ls):=true=true→Kin a
def Kh7 (a:Ls):=false=true→Kin a
def J14 (a:Ls):=Ym Xd 1 (Z78 a)
def J13 (a:Ls):=Ym Xd 0 (Z81 a)
def Jur (a:TypeId) (b c:List Ev) (d:List Reg) (e:Int) (f:Ls) (g:Li) (h:Bt):=Sf true (Sf a (Sf (b,c,d) (10=Jlj b c d e f g h)))
def Jtj (a:TypeId) (b c:List Ev) (d:List Reg) (e:Int) (f:Ls) (g:Li) (h:Bt):=Sf true (Sf a (Sf (b,c,d) (9=Jlj b c d e f g h)))
def J4u (a:Ls):=bif true then !Jrl a else false
def J1s (a:List Reg) (b:Ls):=0≤J0 (Lf a).1 (Z93 b)
def Jyi (a:Ls):=T2 (J2d a) Jjh
def Jyh (a:Ls):=T2 (J2c a) Jjg
def Kd4 (a:TypeId) (b c:List Ev) (d:List Reg) (e:Int) (f:Ls) (g:Li) (h:Bt):=Br false (Jur a b c d e f g h) J6n
def J1j (a:Int) (b:Ls) (c:Li) (d:Bt) (e:TypeId) (f g:List Ev) (h:List Reg):=(Zs∧EvV (Z7 a b c d)∧Z96 b∧Z46 c∧J2p b∧0≤J0 [] (List.getD b 2 Jz))∧Sf true (Sf e (Sf (f,g,h) (L1 [] [] [] (Z7 a b c d)=Jlj f g h a b c d)))
def J1h (a:List Reg) (b:Ls):=Ym (Za a) 1 (Z78 b)
def J1g (a:List Reg) (b:Ls):=Ym (Za a) 0 (Z81 b)
def J3u (a:List Reg) (b:Ls):=bif true then !Jrk a b else false
def Jyc (a:Ls) (b:List Reg):=T2 (J2d a) (Jjf b)
def Jyb (a:Ls) (b:List Reg):=T2 (J2c a) (Jje b)
def J1e (a:List Reg) (b:Int) (c:Ls) (d:Li) (e:Bt) (f:TypeId) (g h:List Ev):=(Ha a∧EvV (Z7 b c d e)∧Z96 c∧Z46 d∧J1s a c∧0≤J0 (Lf a).1 (List.getD c 2 Jz))∧Sf true (Sf f (Sf (g,h,a) (L1 (Lf a).1 (Le a).1 (Zx a).1 (Z7 b c d e)=Jlj g h a b c d e)))
def J1d (a:Ls) (b:TypeId) (c d:List Ev) (e:List Reg) (f:Int) (g:Li) (h:Bt):=Br true (Z49∧Jc2 a∧Br (bif true then J14 a else false) (Jtj b c d e f a g h) (Z29∧Br true (J23∧Jf5 a∧Br false (Jtj b c d e f a g h) (Jda∧Br true (J2w∧Jyh a∧Br false (Jtj b c d e f a g h) (Juv∧Br false (J2o∧T2 (Kh9 a) Jjh∧Br (bif true then Ym Xd 0 (List.getD a 3 B0) else false) (Jtj b c d e f a g h) J6n) (J1j f a g h b c d e))) (J1j f a g h b c d e))) (J1j f a g h b c d e))) (J1j f a g h b c d e)
def J1c (a:Ls) (b:List Reg) (c:TypeId) (d e:List Ev) (f:Int) (g:Li) (h:Bt):=Br true (Z49∧Jc0 a b∧Br (bif true then J1h b a else false) (Jtj c d e b f a g h) (Z29∧Br true (J23∧Jf3 a b∧Br false (Jtj c d e b f a g h) (Jda∧Br true (J2w∧Jyb a b∧Br false (Jtj c d e b f a g h) (Juv∧Br false (J2o∧T2 (Kh9 a) (Jjf b)∧Br (bif true then Ym (Za b) 0 (List.getD a 3 B0) else false) (Jtj c d e b f a g h) J6n) (J1e b f a g h c d e))) (J1e b f a g h c d e))) (J1e b f a g h c d e))) (J1e b f a g h c d e)
theorem Jls:wpFO Tryz.prog W83.g (V3 4) (fun _=>na ()) (Sx.look ([(61,Tryz.f61)]:List (Nat×Func))) Tryz.f53 Jk0 T (E,C,G) ((n,Ka,ns,vs,tx),()):=by
 refine(by kernel_rfl:(Jy (E,C,G)→Jc (Z7 n ns vs tx)=0→Z57 E∧Br (Jc7 n E) (Sf true (Sf T (Sf (E,C,G) (11=Jlj E C G n ns vs tx)))) (Br false (Br (Z2 C) (Sf true (Sf T (Sf (E,C,G) (12=Jlj E C G n ns vs tx)))) (Jc6 C∧Sf true (Sf T (Sf (E,C,G) (Jc4 C=Jlj E C G n ns vs tx))))) (Br (Z87 G) (Xe G∧Z80 vs∧Br (Jc3 vs G) (Sf true (Sf T (Sf (E,C,G) (22=Jlj E C G n ns vs tx)))) (Br true (Z49∧Jcz ns G∧Br false (Jur T E C G n ns vs tx) (Z29∧Br true (J23∧Jf4 ns G∧Br (J3u G ns) (Jur T E C G n ns vs tx) (Jda∧Br true (J2w∧Jyc ns G∧Br (bif true then !J1g G ns else false) (Jur T E C G n ns vs tx) (Juv∧Br false (J2o∧T2 (Kh7 ns) (Jje G)∧Kd4 T E C G n ns vs tx) (J1c ns G T E C n vs tx))) (J1c ns G T E C n vs tx))) (J1c ns G T E C n vs tx))) (J1c ns G T E C n vs tx))) (Z80 vs∧Br (Jc9 vs) (Sf true (Sf T (Sf (E,C,G) (22=Jlj E C G n ns vs tx)))) (Br true (Z49∧Jc1 ns∧Br false (Jur T E C G n ns vs tx) (Z29∧Br true (J23∧Jf6 ns∧Br (J4u ns) (Jur T E C G n ns vs tx) (Jda∧Br true (J2w∧Jyi ns∧Br (bif true then !J13 ns else false) (Jur T E C G n ns vs tx) (Juv∧Br false (J2o∧T2 (Kh7 ns) Jjg∧Kd4 T E C G n ns vs tx) (J1d ns T E C G n vs tx))) (J1d ns T E C G n vs tx))) (J1d ns T E C G n vs tx))) (J1d ns T E C G n vs tx))))))=_).mp ?_
 delta Z2 Z6 Z7 Z29 Z32 Z46 Z49 Z55 Z57 Z76 Z78 Z80 Z81 Z82 Z84 Z87 Z93 Z96 Z97 Jda J23 Jlj Jxp Jh0 Juv Jc9 J2w J2p Jq4 J2o Jq3 Kin F7 J6n J2d J2c Jc7 Jc6 Xd Xe Zs Kh9 Kh7 Jjh Jjg Jaf Jcq Jae Lf Jax Le Dm Zx Jrl J14 J13 Jc4 Jur Jtj J4u Jc3 Jc2 Jc1 J1s Jf6 Jf5 Jyi Jyh Kd4 J1j Jau Za Ha Jjf Jje J1h J1g Jrk J3u Jc0 Jcz Jf4 Jf3 Jyc Jyb J1e J1d J1c Br Iw Bd T2 Tw Sf Ln Gt B0 Lb E2 Ka Jk
 intro hh hc
 have eK:=V4 (h:=(E,C,G)) (n:=n) (k:=Ka) (ns:=ns) (vs:=vs) (tx:=tx) (by kernel_rfl)
 obtain⟨hn,hv,hR,hr0,n1,n2,n3,hG,hV⟩:=Xw hh hc
 simp only[Uc,ckS,List.length_cons,List.length_nil] at eK hn hv
 rw[eK]
 simp only[hG,Jdz,Xq,Prod.eta,Jjd,Km,K4,Jdm,Jdl,Jdk,Jdj,cond_true,cond_false,Bool.not_true,Bool.not_false,Jz]
 repeat' first|apply And.intro|exact hV|intro _
 all_goals first|trivial|omega|assumption|(rename_i h;have h:=of_decide_eq_true h;omega)|(simp only[*,cond_true,cond_false,Bool.not_true,Bool.not_false];done)|(rw[J6 ‹_›];(first|have e1:decide (vs.getD 0 0<Fr.1)=true:=‹_›|have e1:decide (vs.getD 0 0<Fr.1)=false:=‹_›);simp only[*,cond_true,cond_false,Bool.not_true,Bool.not_false];first|done|rfl)|(simp only[Bool.not_eq_false',decide_eq_true_eq] at*;assumption)
def Z9 (a:Int) (b:Ls) (c:Li) (d:Bt):=(a,Kn,b,c,d)
def Jlk (a b:List Ev) (c:List Reg) (d:Int) (e:Ls) (f:Li) (g:Bt):=Zw (a,b,c) (Z9 d e f g)
def J2q (a:Ls):=0≤Uv [] (Z95 a)
def J41 (a:TypeId) (b c:List Ev) (d:List Reg) (e:Int) (f:Ls) (g:Li) (h:Bt):=Sf true (Sf a (Sf (b,c,d) (10=Jlk b c d e f g h)))
def J1z (a:TypeId) (b c:List Ev) (d:List Reg) (e:Int) (f:Ls) (g:Li) (h:Bt):=Sf true (Sf a (Sf (b,c,d) (9=Jlk b c d e f g h)))
def J4v (a:Ls):=bif true then !J14 a else false
def J1r (a:List Reg) (b:Ls):=0≤Uv (Le a).1 (Z95 b)
def Keb (a:TypeId) (b c:List Ev) (d:List Reg) (e:Int) (f:Ls) (g:Li) (h:Bt):=Br false (J41 a b c d e f g h) Ja0
def Kde (a:Ls) (b:Li) (c:TypeId) (d e:List Ev) (f:List Reg) (g:Int) (h:Bt):=(Zs∧Z89 a∧Z40 b∧J2q a)∧Sf true (Sf c (Sf (d,e,f) (Jho [] [] a b=Jlk d e f g a b h)))
def J3v (a:List Reg) (b:Ls):=bif true then !J1h a b else false
def Ka7 (a:List Reg) (b:Ls) (c:Li) (d:TypeId) (e f:List Ev) (g:Int) (h:Bt):=(Ha a∧Z89 b∧Z40 c∧J1r a b)∧Sf true (Sf d (Sf (e,f,a) (Jho (Le a).1 (Dm a).1 b c=Jlk e f a g b c h)))
def Kaz (a:Ls) (b:TypeId) (c d:List Ev) (e:List Reg) (f:Int) (g:Li) (h:Bt):=Br true (Z50∧Jc1 a∧Br false (J1z b c d e f a g h) (Z29∧Br false (L3∧Jf6 a∧Br (Jmx a) (J1z b c d e f a g h) Ja0) (Kde a g b c d e f h))) (Kde a g b c d e f h)
def Kak (a:Ls) (b:List Reg) (c:TypeId) (d e:List Ev) (f:Int) (g:Li) (h:Bt):=Br true (Z50∧Jcz a b∧Br false (J1z c d e b f a g h) (Z29∧Br false (L3∧Jf4 a b∧Br (Jmw b a) (J1z c d e b f a g h) Ja0) (Ka7 b a g c d e f h))) (Ka7 b a g c d e f h)
theorem Jlt:wpFO Tryz.prog W83.g (V3 2) (fun _=>na ()) (Sx.look ([(61,Tryz.f61)]:List (Nat×Func))) Tryz.f53 Jk0 T (E,C,G) ((n,Kn,ns,vs,tx),()):=by
 refine(by kernel_rfl:(Jy (E,C,G)→Jc (Z9 n ns vs tx)=0→Z57 E∧Br (Jc7 n E) (Sf true (Sf T (Sf (E,C,G) (11=Jlk E C G n ns vs tx)))) (Br false (Br (Z2 C) (Sf true (Sf T (Sf (E,C,G) (12=Jlk E C G n ns vs tx)))) (Jc6 C∧Sf true (Sf T (Sf (E,C,G) (Jc4 C=Jlk E C G n ns vs tx))))) (Br (Z87 G) (Xe G∧Z80 vs∧Br (Jc3 vs G) (Sf true (Sf T (Sf (E,C,G) (22=Jlk E C G n ns vs tx)))) (Br true (Z50∧Jc0 ns G∧Br (J3v G ns) (J41 T E C G n ns vs tx) (Z29∧Br false (L3∧Jf3 ns G∧Keb T E C G n ns vs tx) (Kak ns G T E C n vs tx))) (Kak ns G T E C n vs tx))) (Z80 vs∧Br (Jc9 vs) (Sf true (Sf T (Sf (E,C,G) (22=Jlk E C G n ns vs tx)))) (Br true (Z50∧Jc2 ns∧Br (J4v ns) (J41 T E C G n ns vs tx) (Z29∧Br false (L3∧Jf5 ns∧Keb T E C G n ns vs tx) (Kaz ns T E C G n vs tx))) (Kaz ns T E C G n vs tx))))))=_).mp ?_
 delta Z2 Z6 Z9 Z29 Z32 Z40 Z50 Z55 Z57 Z76 Z78 Z80 Z82 Z84 Z87 Z89 Z95 Z97 Jda L3 Jlk Ja0 Jh0 Jc9 J2q Jq4 Jq3 F7 Jc7 Jc6 Xd Xe Zs Jjh Jjg Jaf Jcq Jae Lf Jax Le Dm Zx Jrl J14 Jc4 J41 J1z Jmx J4v Jc3 Jc2 Jc1 J1r Jf6 Jf5 Keb Kde Jau Za Ha Jjf Jje J1h Jrk Jmw J3v Jc0 Jcz Jf4 Jf3 Ka7 Kaz Kak Br Iw Bd T2 Tw Sf Ln Gt B0 Lb E2 Kn Jk
 intro hh hc
 have eK:=V4 (h:=(E,C,G)) (n:=n) (k:=Kn) (ns:=ns) (vs:=vs) (tx:=tx) (by kernel_rfl)
 obtain⟨hn,hv,hR,hr0,n1,n2,n3,hG,hV⟩:=Xw hh hc
 simp only[Vl,ckS,List.length_cons,List.length_nil] at eK hn hv
 rw[eK]
 simp only[hG,Jdz,Xq,Prod.eta,Jjd,Km,K4,Jdm,Jdl,Jdk,Jdj,cond_true,cond_false,Bool.not_true,Bool.not_false,Jz]
 repeat' first|apply And.intro|exact hV|intro _
 all_goals first|trivial|omega|assumption|(rename_i h;have h:=of_decide_eq_true h;omega)|(simp only[*,cond_true,cond_false,Bool.not_true,Bool.not_false];done)|(rw[J6 ‹_›];(first|have e1:decide (vs.getD 0 0<Fr.1)=true:=‹_›|have e1:decide (vs.getD 0 0<Fr.1)=false:=‹_›);simp only[*,cond_true,cond_false,Bool.not_true,Bool.not_false];first|done|rfl)|(simp only[Bool.not_eq_false',decide_eq_true_eq] at*;assumption)
def Z0 (a:Int) (b:Ls) (c:Li) (d:Bt):=(a,Zz,b,c,d)
def Jll (a b:List Ev) (c:List Reg) (d:Int) (e:Ls) (f:Li) (g:Bt):=Zw (a,b,c) (Z0 d e f g)
def J10 (a:TypeId) (b c:List Ev) (d:List Reg) (e:Int) (f:Ls) (g:Li) (h:Bt):=Sf true (Sf a (Sf (b,c,d) (9=Jll b c d e f g h)))
def J42 (a:TypeId) (b c:List Ev) (d:List Reg) (e:Int) (f:Ls) (g:Li) (h:Bt):=Sf true (Sf a (Sf (b,c,d) (10=Jll b c d e f g h)))
def Kef (a:TypeId) (b c:List Ev) (d:List Reg) (e:Int) (f:Ls) (g:Li) (h:Bt):=Br false (J42 a b c d e f g h) Ja0
def J4d (a:Ls) (b:Li):=Zs∧Z89 a∧Z51 b∧J2q a
def Kdf (a:Ls) (b:Li) (c:TypeId) (d e:List Ev) (f:List Reg) (g:Int) (h:Bt):=J4d a b∧Sf true (Sf c (Sf (d,e,f) (Jeb [] a b=Jll d e f g a b h)))
def J3s (a:List Reg) (b:Ls) (c:Li):=Ha a∧Z89 b∧Z51 c∧J1r a b
def Kbb (a:List Reg) (b:Ls) (c:Li) (d:TypeId) (e f:List Ev) (g:Int) (h:Bt):=J3s a b c∧Sf true (Sf d (Sf (e,f,a) (Jeb (Le a).1 b c=Jll e f a g b c h)))
def Ka0 (a:Ls) (b:TypeId) (c d:List Ev) (e:List Reg) (f:Int) (g:Li) (h:Bt):=Br true (Z50∧Jc1 a∧Br false (J10 b c d e f a g h) (Z29∧Br false (L3∧Jf6 a∧Br (Jmx a) (J10 b c d e f a g h) Ja0) (Kdf a g b c d e f h))) (Kdf a g b c d e f h)
def Kal (a:Ls) (b:List Reg) (c:TypeId) (d e:List Ev) (f:Int) (g:Li) (h:Bt):=Br true (Z50∧Jcz a b∧Br false (J10 c d e b f a g h) (Z29∧Br false (L3∧Jf4 a b∧Br (Jmw b a) (J10 c d e b f a g h) Ja0) (Kbb b a g c d e f h))) (Kbb b a g c d e f h)
theorem Jm7:wpFO Tryz.prog W83.g (V3 2) (fun _=>na ()) (Sx.look ([(61,Tryz.f61)]:List (Nat×Func))) Tryz.f53 Jk0 T (E,C,G) ((n,Zz,ns,vs,tx),()):=by
 refine(by kernel_rfl:(Jy (E,C,G)→Jc (Z0 n ns vs tx)=0→Z57 E∧Br (Jc7 n E) (Sf true (Sf T (Sf (E,C,G) (11=Jll E C G n ns vs tx)))) (Br false (Br (Z2 C) (Sf true (Sf T (Sf (E,C,G) (12=Jll E C G n ns vs tx)))) (Jc6 C∧Sf true (Sf T (Sf (E,C,G) (Jc4 C=Jll E C G n ns vs tx))))) (Br (Z87 G) (Xe G∧Z80 vs∧Br (Jc3 vs G) (Sf true (Sf T (Sf (E,C,G) (22=Jll E C G n ns vs tx)))) (Br true (Z50∧Jc0 ns G∧Br (J3v G ns) (J42 T E C G n ns vs tx) (Z29∧Br false (L3∧Jf3 ns G∧Kef T E C G n ns vs tx) (Kal ns G T E C n vs tx))) (Kal ns G T E C n vs tx))) (Z80 vs∧Br (Jc9 vs) (Sf true (Sf T (Sf (E,C,G) (22=Jll E C G n ns vs tx)))) (Br true (Z50∧Jc2 ns∧Br (J4v ns) (J42 T E C G n ns vs tx) (Z29∧Br false (L3∧Jf5 ns∧Kef T E C G n ns vs tx) (Ka0 ns T E C G n vs tx))) (Ka0 ns T E C G n vs tx))))))=_).mp ?_
 delta Z0 Z2 Z6 Z29 Z32 Z50 Z51 Z55 Z57 Z76 Z78 Z80 Z82 Z84 Z87 Z89 Z95 Z97 Jda L3 Jll Ja0 Jh0 Jc9 J2q Jq4 Jq3 F7 Jc7 Jc6 Xd Xe Zs Jjh Jjg Jaf Jcq Jae Lf Jax Le Dm Zx Jrl J14 Jc4 J10 J42 Jmx J4v Jc3 Jc2 Jc1 J1r Jf6 Jf5 Kef J4d Kdf Jau Za Ha Jjf Jje J1h Jrk Jmw J3v Jc0 Jcz Jf4 Jf3 J3s Kbb Ka0 Kal Br Iw Bd T2 Tw Sf Ln Gt B0 Lb E2 Jk Zz
 intro hh hc
 have eK:=V4 (h:=(E,C,G)) (n:=n) (k:=Zz) (ns:=ns) (vs:=vs) (tx:=tx) (by kernel_rfl)
 obtain⟨hn,hv,hR,hr0,n1,n2,n3,hG,hV⟩:=Xw hh hc
 simp only[D5,ckS,List.length_cons,List.length_nil] at eK hn hv
 rw[eK]
 simp only[hG,Jdz,Xq,Prod.eta,Jjd,Km,K4,Jdm,Jdl,Jdk,Jdj,cond_true,cond_false,Bool.not_true,Bool.not_false,Jz]
 repeat' first|apply And.intro|exact hV|intro _
 all_goals first|trivial|omega|assumption|(rename_i h;have h:=of_decide_eq_true h;omega)|(simp only[*,cond_true,cond_false,Bool.not_true,Bool.not_false];done)|(rw[J6 ‹_›];(first|have e1:decide (vs.getD 0 0<Fr.1)=true:=‹_›|have e1:decide (vs.getD 0 0<Fr.1)=false:=‹_›);simp only[*,cond_true,cond_false,Bool.not_true,Bool.not_false];first|done|rfl)|(simp only[Bool.not_eq_false',decide_eq_true_eq] at*;assumption)
def Z24 (a:Int) (b:Ls) (c:Li) (d:Bt):=(a,Ul,b,c,d)
def Z47:=Tw (Bd 0 2)
def Jrn:=Tw (Bd ((0:Int)+1) 2)
def Jlg (a b:List Ev) (c:List Reg) (d:Int) (e:Ls) (f:Li) (g:Bt):=Zw (a,b,c) (Z24 d e f g)
def Jrm:=Tw (Bd Z97 2)
def Jut:=Juv∧False
def J5w (a:Li) (b:Ls):=Z46 a∧J2p b
def J5a (a:Ls):=Ym Xd 2 (Z78 a)
def Jxj (a:TypeId) (b c:List Ev) (d:List Reg) (e:Int) (f:Ls) (g:Li) (h:Bt):=Sf true (Sf a (Sf (b,c,d) (9=Jlg b c d e f g h)))
def Jyk (a:TypeId) (b c:List Ev) (d:List Reg) (e:Int) (f:Ls) (g:Li) (h:Bt):=Sf true (Sf a (Sf (b,c,d) (10=Jlg b c d e f g h)))
def J4w (a:Ls):=bif true then J13 a else false
def J4h (a:Li) (b:List Reg) (c:Ls):=Z46 a∧J1s b c
def Kd5 (a:TypeId) (b c:List Ev) (d:List Reg) (e:Int) (f:Ls) (g:Li) (h:Bt):=Br false (Jyk a b c d e f g h) Jut
def J33 (a:Int) (b:Ls) (c:Li) (d:Bt) (e:TypeId) (f g:List Ev) (h:List Reg):=(Zs∧EvV (Z24 a b c d)∧Z91 b∧J5w c b)∧Sf true (Sf e (Sf (f,g,h) (Jck [] [] [] (Z24 a b c d)=Jlg f g h a b c d)))
def J3y (a:List Reg) (b:Ls):=Ym (Za a) 2 (Z78 b)
def J3w (a:List Reg) (b:Ls):=bif true then J1g a b else false
def J3m (a:List Reg) (b:Int) (c:Ls) (d:Li) (e:Bt) (f:TypeId) (g h:List Ev):=(Ha a∧EvV (Z24 b c d e)∧Z91 c∧J4h d a c)∧Sf true (Sf f (Sf (g,h,a) (Jck (Lf a).1 (Le a).1 (Zx a).1 (Z24 b c d e)=Jlg g h a b c d e)))
def J3k (a:Ls) (b:TypeId) (c d:List Ev) (e:List Reg) (f:Int) (g:Li) (h:Bt):=Br true (Z47∧Jc2 a∧Br (bif true then J5a a else false) (Jxj b c d e f a g h) (Z29∧Br true (Jrn∧Jf5 a∧Br false (Jxj b c d e f a g h) (Jda∧Br false (Jrm∧Jyi a∧Br (J4w a) (Jxj b c d e f a g h) Jut) (J33 f a g h b c d e))) (J33 f a g h b c d e))) (J33 f a g h b c d e)
def J3i (a:Ls) (b:List Reg) (c:TypeId) (d e:List Ev) (f:Int) (g:Li) (h:Bt):=Br true (Z47∧Jc0 a b∧Br (bif true then J3y b a else false) (Jxj c d e b f a g h) (Z29∧Br true (Jrn∧Jf3 a b∧Br false (Jxj c d e b f a g h) (Jda∧Br false (Jrm∧Jyc a b∧Br (J3w b a) (Jxj c d e b f a g h) Jut) (J3m b f a g h c d e))) (J3m b f a g h c d e))) (J3m b f a g h c d e)
theorem Jh8:wpFO Tryz.prog W83.g (V3 3) (fun _=>na ()) (Sx.look ([(61,Tryz.f61)]:List (Nat×Func))) Tryz.f53 Jk0 T (E,C,G) ((n,Ul,ns,vs,tx),()):=by
 refine(by kernel_rfl:(Jy (E,C,G)→Jc (Z24 n ns vs tx)=0→Z57 E∧Br (Jc7 n E) (Sf true (Sf T (Sf (E,C,G) (11=Jlg E C G n ns vs tx)))) (Br false (Br (Z2 C) (Sf true (Sf T (Sf (E,C,G) (12=Jlg E C G n ns vs tx)))) (Jc6 C∧Sf true (Sf T (Sf (E,C,G) (Jc4 C=Jlg E C G n ns vs tx))))) (Br (Z87 G) (Xe G∧Z80 vs∧Br (Jc3 vs G) (Sf true (Sf T (Sf (E,C,G) (22=Jlg E C G n ns vs tx)))) (Br true (Z47∧Jcz ns G∧Br false (Jyk T E C G n ns vs tx) (Z29∧Br true (Jrn∧Jf4 ns G∧Br (J3u G ns) (Jyk T E C G n ns vs tx) (Jda∧Br false (Jrm∧Jyb ns G∧Kd5 T E C G n ns vs tx) (J3i ns G T E C n vs tx))) (J3i ns G T E C n vs tx))) (J3i ns G T E C n vs tx))) (Z80 vs∧Br (Jc9 vs) (Sf true (Sf T (Sf (E,C,G) (22=Jlg E C G n ns vs tx)))) (Br true (Z47∧Jc1 ns∧Br false (Jyk T E C G n ns vs tx) (Z29∧Br true (Jrn∧Jf6 ns∧Br (J4u ns) (Jyk T E C G n ns vs tx) (Jda∧Br false (Jrm∧Jyh ns∧Kd5 T E C G n ns vs tx) (J3k ns T E C G n vs tx))) (J3k ns T E C G n vs tx))) (J3k ns T E C G n vs tx))))))=_).mp ?_
 delta Z2 Z6 Z24 Z29 Z32 Z46 Z47 Z55 Z57 Z76 Z78 Z80 Z81 Z82 Z84 Z87 Z91 Z93 Z97 Jda Jrn Jlg Jxp Jh0 Juv Jc9 Jrm Jut J2p Jq4 Jq3 F7 J2d J2c Jc7 Jc6 Xd Xe Zs J5w Jjh Jjg Jaf Jcq Jae Lf Jax Le Dm Zx Jrl J5a J13 Jc4 Jxj Jyk J4w J4u Jc3 Jc2 Jc1 J1s Jf6 Jf5 Jyi Jyh J4h Kd5 J33 Jau Za Ha Jjf Jje J3y J1g Jrk J3w J3u Jc0 Jcz Jf4 Jf3 Jyc Jyb J3m J3k J3i Br Iw Bd T2 Tw Sf Ln Gt B0 Lb E2 Ul Jk
 intro hh hc
 have eK:=V4 (h:=(E,C,G)) (n:=n) (k:=Ul) (ns:=ns) (vs:=vs) (tx:=tx) (by kernel_rfl)
 obtain⟨hn,hv,hR,hr0,n1,n2,n3,hG,hV⟩:=Xw hh hc
 simp only[X2,ckS,List.length_cons,List.length_nil] at eK hn hv
 rw[eK]
 simp only[hG,Jdz,Xq,Prod.eta,Jjd,Km,K4,Jdm,Jdl,Jdk,Jdj,cond_true,cond_false,Bool.not_true,Bool.not_false,Jz]
 repeat' first|apply And.intro|exact hV|intro _
 all_goals first|trivial|omega|assumption|(rename_i h;have h:=of_decide_eq_true h;omega)|(simp only[*,cond_true,cond_false,Bool.not_true,Bool.not_false];done)|(rw[J6 ‹_›];(first|have e1:decide (vs.getD 0 0<Fr.1)=true:=‹_›|have e1:decide (vs.getD 0 0<Fr.1)=false:=‹_›);simp only[*,cond_true,cond_false,Bool.not_true,Bool.not_false];first|done|rfl)|(simp only[Bool.not_eq_false',decide_eq_true_eq] at*;assumption)
def Z33 (a:Int) (b:Ls) (c:Li) (d:Bt):=(a,Kt,b,c,d)
def Jle (a b:List Ev) (c:List Reg) (d:Int) (e:Ls) (f:Li) (g:Bt):=Zw (a,b,c) (Z33 d e f g)
def J1w (a:TypeId) (b c:List Ev) (d:List Reg) (e:Int) (f:Ls) (g:Li) (h:Bt):=Sf true (Sf a (Sf (b,c,d) (9=Jle b c d e f g h)))
def J4x (a:TypeId) (b c:List Ev) (d:List Reg) (e:Int) (f:Ls) (g:Li) (h:Bt):=Sf true (Sf a (Sf (b,c,d) (10=Jle b c d e f g h)))
def Kd7 (a:TypeId) (b c:List Ev) (d:List Reg) (e:Int) (f:Ls) (g:Li) (h:Bt):=Br false (J4x a b c d e f g h) Ja0
def J4c (a:Ls) (b:Li):=Zs∧Z89 a∧Z51 b∧0≤K1 [] (Z95 a)
def Kdd (a:Ls) (b:Li) (c:TypeId) (d e:List Ev) (f:List Reg) (g:Int) (h:Bt):=J4c a b∧Sf true (Sf c (Sf (d,e,f) (Jec [] [] a b=Jle d e f g a b h)))
def J3r (a:List Reg) (b:Ls) (c:Li):=Ha a∧Z89 b∧Z51 c∧0≤K1 (Zx a).1 (Z95 b)
def Ka6 (a:List Reg) (b:Ls) (c:Li) (d:TypeId) (e f:List Ev) (g:Int) (h:Bt):=J3r a b c∧Sf true (Sf d (Sf (e,f,a) (Jec (Zx a).1 (Zx a).2 b c=Jle e f a g b c h)))
def Kay (a:Ls) (b:TypeId) (c d:List Ev) (e:List Reg) (f:Int) (g:Li) (h:Bt):=Br true (Z50∧Jc1 a∧Br false (J1w b c d e f a g h) (Z29∧Br false (L3∧Jf6 a∧Br (Jmx a) (J1w b c d e f a g h) Ja0) (Kdd a g b c d e f h))) (Kdd a g b c d e f h)
def Kaj (a:Ls) (b:List Reg) (c:TypeId) (d e:List Ev) (f:Int) (g:Li) (h:Bt):=Br true (Z50∧Jcz a b∧Br false (J1w c d e b f a g h) (Z29∧Br false (L3∧Jf4 a b∧Br (Jmw b a) (J1w c d e b f a g h) Ja0) (Ka6 b a g c d e f h))) (Ka6 b a g c d e f h)
theorem Jgb:wpFO Tryz.prog W83.g (V3 2) (fun _=>na ()) (Sx.look ([(61,Tryz.f61)]:List (Nat×Func))) Tryz.f53 Jk0 T (E,C,G) ((n,Kt,ns,vs,tx),()):=by
 refine(by kernel_rfl:(Jy (E,C,G)→Jc (Z33 n ns vs tx)=0→Z57 E∧Br (Jc7 n E) (Sf true (Sf T (Sf (E,C,G) (11=Jle E C G n ns vs tx)))) (Br false (Br (Z2 C) (Sf true (Sf T (Sf (E,C,G) (12=Jle E C G n ns vs tx)))) (Jc6 C∧Sf true (Sf T (Sf (E,C,G) (Jc4 C=Jle E C G n ns vs tx))))) (Br (Z87 G) (Xe G∧Z80 vs∧Br (Jc3 vs G) (Sf true (Sf T (Sf (E,C,G) (22=Jle E C G n ns vs tx)))) (Br true (Z50∧Jc0 ns G∧Br (bif true then !J3y G ns else false) (J4x T E C G n ns vs tx) (Z29∧Br false (L3∧Jf3 ns G∧Kd7 T E C G n ns vs tx) (Kaj ns G T E C n vs tx))) (Kaj ns G T E C n vs tx))) (Z80 vs∧Br (Jc9 vs) (Sf true (Sf T (Sf (E,C,G) (22=Jle E C G n ns vs tx)))) (Br true (Z50∧Jc2 ns∧Br (bif true then !J5a ns else false) (J4x T E C G n ns vs tx) (Z29∧Br false (L3∧Jf5 ns∧Kd7 T E C G n ns vs tx) (Kay ns T E C G n vs tx))) (Kay ns T E C G n vs tx))))))=_).mp ?_
 delta Z2 Z6 Z29 Z32 Z33 Z50 Z51 Z55 Z57 Z76 Z78 Z80 Z82 Z84 Z87 Z89 Z95 Z97 Jda L3 Jle Ja0 Jh0 Jc9 Jq4 Jq3 F7 Jc7 Jc6 Xd Xe Zs Jjh Jjg Jaf Jcq Jae Lf Jax Le Dm Zx Jrl J5a Jc4 J1w J4x Jmx Jc3 Jc2 Jc1 Jf6 Jf5 Kd7 J4c Kdd Jau Za Ha Jjf Jje J3y Jrk Jmw Jc0 Jcz Jf4 Jf3 J3r Ka6 Kay Kaj Br Iw Bd T2 Tw Sf Ln Gt B0 Lb E2 Kt Jk
 intro hh hc
 have eK:=V4 (h:=(E,C,G)) (n:=n) (k:=Kt) (ns:=ns) (vs:=vs) (tx:=tx) (by kernel_rfl)
 obtain⟨hn,hv,hR,hr0,n1,n2,n3,hG,hV⟩:=Xw hh hc
 simp only[Yl,ckS,List.length_cons,List.length_nil] at eK hn hv
 rw[eK]
 simp only[hG,Jdz,Xq,Prod.eta,Jjd,Km,K4,Jdm,Jdl,Jdk,Jdj,cond_true,cond_false,Bool.not_true,Bool.not_false,Jz]
 repeat' first|apply And.intro|exact hV|intro _
 all_goals first|trivial|omega|assumption|(rename_i h;have h:=of_decide_eq_true h;omega)|(simp only[*,cond_true,cond_false,Bool.not_true,Bool.not_false];done)|(rw[J6 ‹_›];(first|have e1:decide (vs.getD 0 0<Fr.1)=true:=‹_›|have e1:decide (vs.getD 0 0<Fr.1)=false:=‹_›);simp only[*,cond_true,cond_false,Bool.not_true,Bool.not_false];first|done|rfl)|(simp only[Bool.not_eq_false',decide_eq_true_eq] at*;assumption)
def Z25 (a:Int) (b:Ls) (c:Li) (d:Bt):=(a,Uk,b,c,d)
def Jlh (a b:List Ev) (c:List Reg) (d:Int) (e:Ls) (f:Li) (g:Bt):=Zw (a,b,c) (Z25 d e f g)
def J5b (a:Ls):=Ym Xd 3 (Z78 a)
def Jyl (a:TypeId) (b c:List Ev) (d:List Reg) (e:Int) (f:Ls) (g:Li) (h:Bt):=Sf true (Sf a (Sf (b,c,d) (10=Jlh b c d e f g h)))
def Jxi (a:TypeId) (b c:List Ev) (d:List Reg) (e:Int) (f:Ls) (g:Li) (h:Bt):=Sf true (Sf a (Sf (b,c,d) (9=Jlh b c d e f g h)))
def Kd6 (a:TypeId) (b c:List Ev) (d:List Reg) (e:Int) (f:Ls) (g:Li) (h:Bt):=Br false (Jyl a b c d e f g h) Jut
def J35 (a:Ls) (b:Li) (c:TypeId) (d e:List Ev) (f:List Reg) (g:Int) (h:Bt):=(Zs∧Z94 a∧Z51 b∧0≤K1 [] (Z93 a))∧Sf true (Sf c (Sf (d,e,f) (Jed [] [] a b=Jlh d e f g a b h)))
def J3z (a:List Reg) (b:Ls):=Ym (Za a) 3 (Z78 b)
def J3n (a:List Reg) (b:Ls) (c:Li) (d:TypeId) (e f:List Ev) (g:Int) (h:Bt):=(Ha a∧Z94 b∧Z51 c∧0≤K1 (Zx a).1 (Z93 b))∧Sf true (Sf d (Sf (e,f,a) (Jed (Zx a).1 (Zx a).2 b c=Jlh e f a g b c h)))
def J3l (a:Ls) (b:TypeId) (c d:List Ev) (e:List Reg) (f:Int) (g:Li) (h:Bt):=Br true (Z47∧Jc2 a∧Br (bif true then J5b a else false) (Jxi b c d e f a g h) (Z29∧Br true (Jrn∧Jf5 a∧Br false (Jxi b c d e f a g h) (Jda∧Br false (Jrm∧Jyi a∧Br (J4w a) (Jxi b c d e f a g h) Jut) (J35 a g b c d e f h))) (J35 a g b c d e f h))) (J35 a g b c d e f h)
def J3j (a:Ls) (b:List Reg) (c:TypeId) (d e:List Ev) (f:Int) (g:Li) (h:Bt):=Br true (Z47∧Jc0 a b∧Br (bif true then J3z b a else false) (Jxi c d e b f a g h) (Z29∧Br true (Jrn∧Jf3 a b∧Br false (Jxi c d e b f a g h) (Jda∧Br false (Jrm∧Jyc a b∧Br (J3w b a) (Jxi c d e b f a g h) Jut) (J3n b a g c d e f h))) (J3n b a g c d e f h))) (J3n b a g c d e f h)
theorem Jh7:wpFO Tryz.prog W83.g (V3 3) (fun _=>na ()) (Sx.look ([(61,Tryz.f61)]:List (Nat×Func))) Tryz.f53 Jk0 T (E,C,G) ((n,Uk,ns,vs,tx),()):=by
 refine(by kernel_rfl:(Jy (E,C,G)→Jc (Z25 n ns vs tx)=0→Z57 E∧Br (Jc7 n E) (Sf true (Sf T (Sf (E,C,G) (11=Jlh E C G n ns vs tx)))) (Br false (Br (Z2 C) (Sf true (Sf T (Sf (E,C,G) (12=Jlh E C G n ns vs tx)))) (Jc6 C∧Sf true (Sf T (Sf (E,C,G) (Jc4 C=Jlh E C G n ns vs tx))))) (Br (Z87 G) (Xe G∧Z80 vs∧Br (Jc3 vs G) (Sf true (Sf T (Sf (E,C,G) (22=Jlh E C G n ns vs tx)))) (Br true (Z47∧Jcz ns G∧Br false (Jyl T E C G n ns vs tx) (Z29∧Br true (Jrn∧Jf4 ns G∧Br (bif true then !Ym (Za G) 2 (Z82 ns) else false) (Jyl T E C G n ns vs tx) (Jda∧Br false (Jrm∧Jyb ns G∧Kd6 T E C G n ns vs tx) (J3j ns G T E C n vs tx))) (J3j ns G T E C n vs tx))) (J3j ns G T E C n vs tx))) (Z80 vs∧Br (Jc9 vs) (Sf true (Sf T (Sf (E,C,G) (22=Jlh E C G n ns vs tx)))) (Br true (Z47∧Jc1 ns∧Br false (Jyl T E C G n ns vs tx) (Z29∧Br true (Jrn∧Jf6 ns∧Br (bif true then !Ym Xd 2 (Z82 ns) else false) (Jyl T E C G n ns vs tx) (Jda∧Br false (Jrm∧Jyh ns∧Kd6 T E C G n ns vs tx) (J3l ns T E C G n vs tx))) (J3l ns T E C G n vs tx))) (J3l ns T E C G n vs tx))))))=_).mp ?_
 delta Z2 Z6 Z25 Z29 Z32 Z47 Z51 Z55 Z57 Z76 Z78 Z80 Z81 Z82 Z84 Z87 Z93 Z94 Z97 Jda Jrn Jlh Jxp Jh0 Juv Jc9 Jrm Jut Jq4 Jq3 F7 J2d J2c Jc7 Jc6 Xd Xe Zs Jjh Jjg Jaf Jcq Jae Lf Jax Le Dm Zx J5b J13 Jc4 Jyl Jxi J4w Jc3 Jc2 Jc1 Jf6 Jf5 Jyi Jyh Kd6 J35 Jau Za Ha Jjf Jje J3z J1g J3w Jc0 Jcz Jf4 Jf3 Jyc Jyb J3n J3l J3j Br Iw Bd T2 Tw Sf Ln Gt B0 Lb E2 Uk Jk
 intro hh hc
 have eK:=V4 (h:=(E,C,G)) (n:=n) (k:=Uk) (ns:=ns) (vs:=vs) (tx:=tx) (by kernel_rfl)
 obtain⟨hn,hv,hR,hr0,n1,n2,n3,hG,hV⟩:=Xw hh hc
 simp only[X1,ckS,List.length_cons,List.length_nil] at eK hn hv
 rw[eK]
 simp only[hG,Jdz,Xq,Prod.eta,Jjd,Km,K4,Jdm,Jdl,Jdk,Jdj,cond_true,cond_false,Bool.not_true,Bool.not_false,Jz]
 repeat' first|apply And.intro|exact hV|intro _
 all_goals first|trivial|omega|assumption|(rename_i h;have h:=of_decide_eq_true h;omega)|(simp only[*,cond_true,cond_false,Bool.not_true,Bool.not_false];done)|(rw[J6 ‹_›];(first|have e1:decide (vs.getD 0 0<Fr.1)=true:=‹_›|have e1:decide (vs.getD 0 0<Fr.1)=false:=‹_›);simp only[*,cond_true,cond_false,Bool.not_true,Bool.not_false];first|done|rfl)|(simp only[Bool.not_eq_false',decide_eq_true_eq] at*;assumption)
def Z22 (a:Int) (b:Ls) (c:Li) (d:Bt):=(a,Uj,b,c,d)
def Jli (a b:List Ev) (c:List Reg) (d:Int) (e:Ls) (f:Li) (g:Bt):=Zw (a,b,c) (Z22 d e f g)
def J4z (a:TypeId) (b c:List Ev) (d:List Reg) (e:Int) (f:Ls) (g:Li) (h:Bt):=Sf true (Sf a (Sf (b,c,d) (10=Jli b c d e f g h)))
def J1x (a:TypeId) (b c:List Ev) (d:List Reg) (e:Int) (f:Ls) (g:Li) (h:Bt):=Sf true (Sf a (Sf (b,c,d) (9=Jli b c d e f g h)))
def J4m (a:Ls):=Zs∧Z89 a∧0≤Yi [] (Z95 a)
def Kea (a:TypeId) (b c:List Ev) (d:List Reg) (e:Int) (f:Ls) (g:Li) (h:Bt):=Br false (J4z a b c d e f g h) Ja0
def Kdk (a:Ls) (b:TypeId) (c d:List Ev) (e:List Reg) (f:Int) (g:Li) (h:Bt):=J4m a∧Sf true (Sf b (Sf (c,d,e) (Jpv [] a=Jli c d e f a g h)))
def J3t (a:List Reg) (b:Ls):=Ha a∧Z89 b∧0≤Yi (Zx a).2 (Z95 b)
def Kbc (a:List Reg) (b:Ls) (c:TypeId) (d e:List Ev) (f:Int) (g:Li) (h:Bt):=J3t a b∧Sf true (Sf c (Sf (d,e,a) (Jpv (Zx a).2 b=Jli d e a f b g h)))
def Ka2 (a:Ls) (b:TypeId) (c d:List Ev) (e:List Reg) (f:Int) (g:Li) (h:Bt):=Br true (Z50∧Jc1 a∧Br false (J1x b c d e f a g h) (Z29∧Br false (L3∧Jf6 a∧Br (Jmx a) (J1x b c d e f a g h) Ja0) (Kdk a b c d e f g h))) (Kdk a b c d e f g h)
def Kam (a:Ls) (b:List Reg) (c:TypeId) (d e:List Ev) (f:Int) (g:Li) (h:Bt):=Br true (Z50∧Jcz a b∧Br false (J1x c d e b f a g h) (Z29∧Br false (L3∧Jf4 a b∧Br (Jmw b a) (J1x c d e b f a g h) Ja0) (Kbc b a c d e f g h))) (Kbc b a c d e f g h)
theorem Jh6:wpFO Tryz.prog W83.g (V3 2) (fun _=>na ()) (Sx.look ([(61,Tryz.f61)]:List (Nat×Func))) Tryz.f53 Jk0 T (E,C,G) ((n,Uj,ns,vs,tx),()):=by
 refine(by kernel_rfl:(Jy (E,C,G)→Jc (Z22 n ns vs tx)=0→Z57 E∧Br (Jc7 n E) (Sf true (Sf T (Sf (E,C,G) (11=Jli E C G n ns vs tx)))) (Br false (Br (Z2 C) (Sf true (Sf T (Sf (E,C,G) (12=Jli E C G n ns vs tx)))) (Jc6 C∧Sf true (Sf T (Sf (E,C,G) (Jc4 C=Jli E C G n ns vs tx))))) (Br (Z87 G) (Xe G∧Z80 vs∧Br (Jc3 vs G) (Sf true (Sf T (Sf (E,C,G) (22=Jli E C G n ns vs tx)))) (Br true (Z50∧Jc0 ns G∧Br (bif true then !J3z G ns else false) (J4z T E C G n ns vs tx) (Z29∧Br false (L3∧Jf3 ns G∧Kea T E C G n ns vs tx) (Kam ns G T E C n vs tx))) (Kam ns G T E C n vs tx))) (Z80 vs∧Br (Jc9 vs) (Sf true (Sf T (Sf (E,C,G) (22=Jli E C G n ns vs tx)))) (Br true (Z50∧Jc2 ns∧Br (bif true then !J5b ns else false) (J4z T E C G n ns vs tx) (Z29∧Br false (L3∧Jf5 ns∧Kea T E C G n ns vs tx) (Ka2 ns T E C G n vs tx))) (Ka2 ns T E C G n vs tx))))))=_).mp ?_
 delta Z2 Z6 Z22 Z29 Z32 Z50 Z55 Z57 Z76 Z78 Z80 Z82 Z84 Z87 Z89 Z95 Z97 Jda L3 Jli Ja0 Jh0 Jc9 Jq4 Jq3 F7 Jc7 Jc6 Xd Xe Zs Jjh Jjg Jaf Jcq Jae Lf Jax Le Dm Zx Jrl J5b Jc4 J4z J1x Jmx Jc3 Jc2 Jc1 Jf6 Jf5 J4m Kea Kdk Jau Za Ha Jjf Jje J3z Jrk Jmw Jc0 Jcz Jf4 Jf3 J3t Kbc Ka2 Kam Br Iw Bd T2 Tw Sf Ln Gt B0 Lb E2 Uj Jk
 intro hh hc
 have eK:=V4 (h:=(E,C,G)) (n:=n) (k:=Uj) (ns:=ns) (vs:=vs) (tx:=tx) (by kernel_rfl)
 obtain⟨hn,hv,hR,hr0,n1,n2,n3,hG,hV⟩:=Xw hh hc
 simp only[X0,ckS,List.length_cons,List.length_nil] at eK hn hv
 rw[eK]
 simp only[hG,Jdz,Xq,Prod.eta,Jjd,Km,K4,Jdm,Jdl,Jdk,Jdj,cond_true,cond_false,Bool.not_true,Bool.not_false,Jz]
 repeat' first|apply And.intro|exact hV|intro _
 all_goals first|trivial|omega|assumption|(rename_i h;have h:=of_decide_eq_true h;omega)|(simp only[*,cond_true,cond_false,Bool.not_true,Bool.not_false];done)|(rw[J6 ‹_›];(first|have e1:decide (vs.getD 0 0<Fr.1)=true:=‹_›|have e1:decide (vs.getD 0 0<Fr.1)=false:=‹_›);simp only[*,cond_true,cond_false,Bool.not_true,Bool.not_false];first|done|rfl)|(simp only[Bool.not_eq_false',decide_eq_true_eq] at*;assumption)
def Z21 (a:Int) (b:Ls) (c:Li) (d:Bt):=(a,Jk,b,c,d)
def Jji (a b:List Ev) (c:List Reg) (d:Int) (e:Ls) (f:Li) (g:Bt):=Zw (a,b,c) (Z21 d e f g)
def Keh (a:TypeId) (b c:List Ev) (d:List Reg) (e:Int) (f:Ls) (g:Li) (h:Bt):=Br false (Sf true (Sf a (Sf (b,c,d) (10=Jji b c d e f g h)))) Ju1
theorem Jh5:wpFO Tryz.prog W83.g (V3 1) (fun _=>na ()) (Sx.look ([(61,Tryz.f61)]:List (Nat×Func))) Tryz.f53 Jk0 T (E,C,G) ((n,Jk,ns,vs,tx),()):=by
 refine(by kernel_rfl:(Jy (E,C,G)→Jc (Z21 n ns vs tx)=0→Z57 E∧Br (Jc7 n E) (Sf true (Sf T (Sf (E,C,G) (11=Jji E C G n ns vs tx)))) (Br false (Br (Z2 C) (Sf true (Sf T (Sf (E,C,G) (12=Jji E C G n ns vs tx)))) (Jc6 C∧Sf true (Sf T (Sf (E,C,G) (Jc4 C=Jji E C G n ns vs tx))))) (Br (Z87 G) (Xe G∧Z80 vs∧Br (Jc3 vs G) (Sf true (Sf T (Sf (E,C,G) (22=Jji E C G n ns vs tx)))) (Br false (Z39∧Jcz ns G∧Keh T E C G n ns vs tx) (Br false (Z39∧Jc0 ns G∧Br (Jyd G ns) (Sf true (Sf T (Sf (E,C,G) (9=Jji E C G n ns vs tx)))) Ju1) (Jyf G vs∧Sf true (Sf T (Sf (E,C,G) (Zu (Jax G) (Le G).1 (Dm G).1 (Zx G).1 (Zx G).2 vs=Jji E C G n ns vs tx))))))) (Z80 vs∧Br (Jc9 vs) (Sf true (Sf T (Sf (E,C,G) (22=Jji E C G n ns vs tx)))) (Br false (Z39∧Jc1 ns∧Keh T E C G n ns vs tx) (Br false (Z39∧Jc2 ns∧Br (Jyj ns) (Sf true (Sf T (Sf (E,C,G) (9=Jji E C G n ns vs tx)))) Ju1) (Jyn vs∧Sf true (Sf T (Sf (E,C,G) (Zu 0 [] [] [] [] vs=Jji E C G n ns vs tx))))))))))=_).mp ?_
 delta Z2 Z6 Z21 Z29 Z32 Z39 Z45 Z55 Z57 Z76 Z78 Z80 Z84 Z87 Ju1 Jji Jh0 Jc9 F7 Jc7 Jc6 Xd Xe Zs Jjh Jjg Jaf Jcq Jae Jyn Lf Jax Le Dm Zx Jym Jc4 Jyj Jc3 Jc2 Jc1 Keh Jau Za Ha Jjf Jje Jyf Jye Jyd Jc0 Jcz Br Iw Bd T2 Tw Sf Ln Gt B0 Lb E2 Jk
 intro hh hc
 have eK:=V4 (h:=(E,C,G)) (n:=n) (k:=Jk) (ns:=ns) (vs:=vs) (tx:=tx) (by kernel_rfl)
 obtain⟨hn,hv,hR,hr0,n1,n2,n3,hG,hV⟩:=Xw hh hc
 simp only[Ut,ckS,List.length_cons,List.length_nil] at eK hn hv
 rw[eK]
 simp only[hG,Jdz,Xq,Prod.eta,Jjd,Km,K4,Jdm,Jdl,Jdk,Jdj,cond_true,cond_false,Bool.not_true,Bool.not_false,Jz]
 repeat' first|apply And.intro|exact hV|intro _
 all_goals first|trivial|omega|assumption|(rename_i h;have h:=of_decide_eq_true h;omega)|(simp only[*,cond_true,cond_false,Bool.not_true,Bool.not_false];done)|(rw[J6 ‹_›];(first|have e1:decide (vs.getD 0 0<Fr.1)=true:=‹_›|have e1:decide (vs.getD 0 0<Fr.1)=false:=‹_›);simp only[*,cond_true,cond_false,Bool.not_true,Bool.not_false];first|done|rfl)|(simp only[Bool.not_eq_false',decide_eq_true_eq] at*;assumption)
theorem Js8 {a b:ByteArray} (h:(a.toList==b.toList)=true):a=b:=by
 have h:=eq_of_beq h
 rw[Lib.toList_data,Lib.toList_data] at h
 cases a;cases b
 congr
 exact Array.toList_inj.1 h
theorem Jv5 {a b:ByteArray} (h:H2 .str a b=true):a=b:=Js8 h
theorem Jg2 {β:Type} {ks:Sch} {k:ks.T}:∀{l:List (ks.T×β)},(K5 ks k l).isSome=true→∃x∈l,H2 ks k x.1=true
 |[],h=>by cases h
 | x :: l, h => by
  unfold K5 at h
  by_cases hx:H2 ks k x.1=true
  ·exact⟨x,List.mem_cons_self ..,hx⟩
  ·rw[if_neg hx] at h
   obtain⟨y,h1,h2⟩:=Jg2 h
   exact⟨y,List.mem_cons_of_mem _ h1,h2⟩
theorem D2 {k:ByteArray} (h:D3 k=true):k=K3∨k=J1∨k=Uh∨k=Ka∨k=Kn∨k=Zz∨k=Ul∨k=Kt∨k=Uk∨k=Uj∨k=Jk:=by
 obtain⟨x,hx,hk⟩:=Jg2 h
 have hk:=Jv5 hk
 unfold Jd4 at hx
 subst hk
 rcases List.mem_cons.1 hx with rfl|hx
 ·exact .inl rfl
 rcases List.mem_cons.1 hx with rfl|hx
 ·exact .inr (.inl rfl)
 rcases List.mem_cons.1 hx with rfl|hx
 ·exact .inr (.inr (.inl rfl))
 rcases List.mem_cons.1 hx with rfl|hx
 ·exact .inr (.inr (.inr (.inl rfl)))
 rcases List.mem_cons.1 hx with rfl|hx
 ·exact .inr (.inr (.inr (.inr (.inl rfl))))
 rcases List.mem_cons.1 hx with rfl|hx
 ·exact .inr (.inr (.inr (.inr (.inr (.inl rfl)))))
 rcases List.mem_cons.1 hx with rfl|hx
 ·exact .inr (.inr (.inr (.inr (.inr (.inr (.inl rfl))))))
 rcases List.mem_cons.1 hx with rfl|hx
 ·exact .inr (.inr (.inr (.inr (.inr (.inr (.inr (.inl rfl)))))))
 rcases List.mem_cons.1 hx with rfl|hx
 ·exact .inr (.inr (.inr (.inr (.inr (.inr (.inr (.inr (.inl rfl))))))))
 rcases List.mem_cons.1 hx with rfl|hx
 ·exact .inr (.inr (.inr (.inr (.inr (.inr (.inr (.inr (.inr (.inl rfl)))))))))
 rcases List.mem_cons.1 hx with rfl|hx
 ·exact .inr (.inr (.inr (.inr (.inr (.inr (.inr (.inr (.inr (.inr rfl)))))))))
 cases hx
theorem Jhb:∀{l:List Prop} {q:Prop},(Kq l→Jt6 l q)→Jt6 l q
 |[],_,h=>h trivial
 |[_],_,h=>fun hp=>h hp hp
 |_::p'::r,_,h=>fun hp=>Jhb (l:=p'::r) fun hr=>h ⟨hp,hr⟩ hp
theorem Jjp {Γ:Gam} {ann:Nat→Option Ann} {annF:FuncId→Nat→Option Ann} {lib:FuncId→Option Func} {fn:Func} {c:Yb} {T:TypeId} {x:c.s.T} {y:ATup c.args} (hb:fn.body.isSome=true) (h:Kq (c.pre x y)→wpFO Tryz.prog Γ ann annF lib fn c T x y):wpFO Tryz.prog Γ ann annF lib fn c T x y:=by
 unfold wpFO at h⊢
 cases hc:fn.body with
 |none=>rw[hc] at hb;cases hb
 |some code=>
  rw[hc] at h
  exact Jhb h
def Ds (k:ByteArray):Nat:=if k=K3 then 1 else(Kz k).1.length+1
theorem Kke (T:TypeId):∀(x:V7) (y:ATup [aEv]),wpFO Tryz.prog W83.g (V3 (Ds y.1.2.1)) (fun _=>na ()) (Sx.look ([(61,Tryz.f61)]:List (Nat×Func))) Tryz.f53 Jk0 T x y
 |(E,C,G),((n,k,ns,vs,tx),())=>by
  refine Jjp (by kernel_rfl) fun hp=> ?_
  have hc:Jc (n,k,ns,vs,tx)=0:=hp.2
  rcases D2 (Y9 hc).kind with h|h|h|h|h|h|h|h|h|h|h<;>dsimp only at h<;>subst h
  ·exact(show Ds K3=1 from by kernel_rfl)▸Jm6 T E C G n ns vs tx
  ·exact(show Ds J1=2 from by kernel_rfl)▸Jga T E C G n ns vs tx
  ·exact(show Ds Uh=2 from by kernel_rfl)▸Jlr T E C G n ns vs tx
  ·exact(show Ds Ka=4 from by kernel_rfl)▸Jls T E C G n ns vs tx
  ·exact(show Ds Kn=2 from by kernel_rfl)▸Jlt T E C G n ns vs tx
  ·exact(show Ds Zz=2 from by kernel_rfl)▸Jm7 T E C G n ns vs tx
  ·exact(show Ds Ul=3 from by kernel_rfl)▸Jh8 T E C G n ns vs tx
  ·exact(show Ds Kt=2 from by kernel_rfl)▸Jgb T E C G n ns vs tx
  ·exact(show Ds Uk=3 from by kernel_rfl)▸Jh7 T E C G n ns vs tx
  ·exact(show Ds Uj=2 from by kernel_rfl)▸Jh6 T E C G n ns vs tx
  ·exact(show Ds Jk=1 from by kernel_rfl)▸Jh5 T E C G n ns vs tx
theorem Ki9:Ok Tryz.prog 53 (Yb.con Jk0):=Ye (Ks mixed W83.ok (by kernel_rfl) (by kernel_rfl) (Un (l:=([(61,Tryz.f61)]:List (Nat×Func))) (List.forall_mem_cons.2 ⟨by kernel_rfl,by simp⟩)) (fun _ yy=>V3 (Ds yy.1.2.1)) (fun _ _=>fun _=>na ()) fun T xx yy _=>Kke T xx yy)
abbrev W84:=W83.add Ki9
def doS (r:Reg) (e:Ev):Reg:=match(Kz e.2.1).2.2.2.1 with
 |some 102=>Jce r e
 |some 106=>Jcb r e
 |some 108=>F1 r e
 |some 111=>F2 r e
 |some 113=>Jca r e
 |some 115=>Jcd r e
 |some 118=>Jcc r e
 |some 120=>Jcf r e
 |some 123=>Ji2 r e
 |some 125=>F0 r e
 |_=>r
def Kh (r:Reg) (e:Ev):Reg:=(e.2.2.2.1.getD 0 0,(doS r e).2)
def Jf1 (h:V7) (e:Ev):V7:=
 bif e.2.1.toList==K3.toList then(h.1++[e],h.2.1.take (h.2.1.length-1),h.2.2.take (h.2.1.length-1)) else(h.1++[e],h.2.1++[e],h.2.2++[Kh (Vs h.2.2) e])
def Kv (h:V7) (e:Ev):Int:=if Jc e≠0 then Jc e else Zw h e
def Dk (e:Ev):Prop:=e.2.2.1.length≤1000000∧e.2.2.2.1.length≤1000000∧∀s∈e.2.2.1,s.size≤1000000
def Ui (h:V7) (e:Ev):V7:=if Kv h e=0 then Jf1 h e else h
def J3h:Yb:={T? :=none,s:=Jzk,args:=[aEv],ress:=[I],pre:=fun h (e,_)=>[Jy h,h.1.length<1000,Dk e],spec:=fun h (e,_)=>(Kv h e,()),post:=fun h (e,_)=>Ui h e}
def Fg:Yb:={J3h with pre:=fun h (e,_)=>[Jy h,h.1.length<1000,Dk e,Jc e=0,Zw h e=0]}
theorem Jhv {h:V7} {n:Int} {ns:List ByteArray} {vs:List Int} {roles:List (Int×Bool)} {ck:Int} (e:Jjd h n ns vs roles ck=0):n=(h.1.length:Int)+1∧¬vs.getD 0 0<(Vs h.2.2).1∧Km (Vs h.2.2) ns roles 0=false∧K4 (Vs h.2.2) ns roles 0=false∧ck=0:=by
 unfold Jjd at e
 cases h1:n !=(h.1.length:Int)+1 with
 |true=>rw[h1] at e;cases e
 | false =>
  rw[h1,cond_false] at e
  cases h2:decide (vs.getD 0 0<(Vs h.2.2).1) with
  |true=>rw[h2] at e;cases e
  | false =>
   rw[h2,cond_false] at e
   cases h3:Km (Vs h.2.2) ns roles 0 with
   |true=>rw[h3] at e;cases e
   | false =>
    rw[h3,cond_false] at e
    cases h4:K4 (Vs h.2.2) ns roles 0 with
    |true=>rw[h4] at e;cases e
    |false=>
     rw[h4,cond_false] at e
     exact⟨bne_eq_false_iff_eq.1 h1,of_decide_eq_false h2,rfl,rfl,e⟩
theorem J2 {r:Reg} {ns:List ByteArray} {w:Int} {b:Bool} {l:List (Int×Bool)} {i:Nat} (h:Km r ns ((w,b)::l) i=false):(b=true→Ym r w (ns.getD i Jz)=true)∧Km r ns l (i+1)=false:=by
 unfold Km at h
 cases b with
 |false=>exact⟨fun f=>(by cases f),h⟩
 |true=>
  cases h1:Ym r w (ns.getD i Jz) with
  |true=>rw[h1] at h;exact⟨fun _=>rfl,h⟩
  |false=>rw[h1] at h;cases h
theorem Jst {r:Reg} {s:ByteArray} (h:Ym r 0 s=true):0≤J0 r.2.2.1 s:=of_decide_eq_true (show decide _=true from h)
theorem J3e {r:Reg} {s:ByteArray} (h:Ym r 1 s=true):0≤Uv r.2.2.2.1 s:=of_decide_eq_true (show decide _=true from h)
theorem J3d {r:Reg} {s:ByteArray} (h:Ym r 2 s=true):0≤K1 r.2.2.2.2.2.1 s:=of_decide_eq_true (show decide _=true from h)
theorem Kjd {r:Reg} {s:ByteArray} (h:Ym r 3 s=true):0≤Yi r.2.2.2.2.2.2 s:=of_decide_eq_true (show decide _=true from h)
theorem Jse {h:V7} {n:Int} {k:ByteArray} {ns:List ByteArray} {vs:List Int} {tx:ByteArray} (hk:(k.toList==K3.toList)=false) (hc:Jc (n,k,ns,vs,tx)=0) (ha:Zw h (n,k,ns,vs,tx)=0):Kv h (n,k,ns,vs,tx)=0∧Ui h (n,k,ns,vs,tx)=(h.1++[(n,k,ns,vs,tx)],h.2.1++[(n,k,ns,vs,tx)],h.2.2++[Kh (Vs h.2.2) (n,k,ns,vs,tx)]):=by
 have e:Kv h (n,k,ns,vs,tx)=0:=by unfold Kv;rw[if_neg (by rw[hc];simp)];exact ha
 refine⟨e, ?_⟩
 unfold Ui;rw[if_pos e];unfold Jf1;dsimp only;rw[hk];rfl
theorem Jde {E C:List Ev} {G:List Reg} {n:Int} {k:ByteArray} {ns:List ByteArray} {vs:List Int} {tx:ByteArray} (hk:(k.toList==K3.toList)=false) (hc:Jc (n,k,ns,vs,tx)=0) (ha:Zw (E,C,G) (n,k,ns,vs,tx)=0):Km (Vs G) ns (Kz k).1 0=false∧Kv (E,C,G) (n,k,ns,vs,tx)=0∧Ui (E,C,G) (n,k,ns,vs,tx)=(E++[(n,k,ns,vs,tx)],C++[(n,k,ns,vs,tx)],G++[Kh (Vs G) (n,k,ns,vs,tx)]):=
 have e:=V4 (h:=(E,C,G)) (n:=n) (ns:=ns) (vs:=vs) (tx:=tx) hk
 ⟨(Jhv (e.symm.trans ha)).2.2.1,Jse hk hc ha⟩
theorem Jth {h:V7} {n:Int} {ns:List ByteArray} {vs:List Int} {tx:ByteArray} (ha:Zw h (n,K3,ns,vs,tx)=0):n=(h.1.length:Int)+1∧h.2.1.length≠0∧((h.2.1.getD (h.2.1.length-1) ev0).2.1.toList==Jk.toList)=false:=by
 unfold Zw at ha
 dsimp only at ha
 rw[show(K3.toList==K3.toList)=true from by kernel_rfl,cond_true] at ha
 cases h1:n !=(h.1.length:Int)+1 with
 |true=>rw[h1] at ha;cases ha
 | false =>
  rw[h1,cond_false] at ha
  cases h2:(h.2.1.length:Int)==0 with
  |true=>rw[h2] at ha;cases ha
  |false=>
   rw[h2,cond_false] at ha
   cases h3:(h.2.1.getD (h.2.1.length-1) ev0).2.1.toList==Jk.toList with
   |true=>rw[h3] at ha;cases ha
   |false=>exact⟨bne_eq_false_iff_eq.1 h1,(fun e=>by rw[e] at h2;cases h2),rfl⟩
def Z34 (a:List Ev):=List.length a<1000
def Fi (a:List Ev):=(List.length a+1)*88≤140737488355328
def Jaz:=0≤1000000∧T2 (0≤1000000) (Tw (0≤1000000))
def Jay (a:List Ev) (b:List Reg):=(List.take (Int.toNat (Z6 a)) a,List.take (Int.toNat (Z6 a)) b)
def H4 (a:List Ev) (b:List Reg):=Fi a∧(List.length b+1)*136≤140737488355328
def Jaw (a:List Ev) (b:List Reg):=(0≤Z6 a∧Z6 a≤Ln a)∧0≤Z6 a∧Z6 a≤Ln b
def Jav (a:Ls) (b:Li):=Z98 a∧Z43 b∧Jc5 a
def Jat (a:List Reg):=List.length (Lf a).1≤1000000∧List.length (Le a).1≤1000000∧List.length (Dm a).1≤1000000∧List.length (Zx a).1≤1000000∧List.length (Zx a).2≤1000000
theorem Jm4:wpFO Tryz.prog W84.g (na ()) (fun _=>na ()) (Sx.look ([(61,Tryz.f61),(99,Tryz.f99)]:List (Nat×Func))) Tryz.f75 Fg T (E,C,G) ((n,K3,ns,vs,tx),()):=by
 refine(by kernel_rfl:(Jy (E,C,G)→Z34 E→Dk (Z4 n ns vs tx)→Jc (Z4 n ns vs tx)=0→Jmp E C G n ns vs tx=0→Jav ns vs∧Br (Jc (Z4 n ns vs tx) !=0) (Sf true (Sf T ((E,C,G)=Ui (E,C,G) (Z4 n ns vs tx)∧Jc (Z4 n ns vs tx)=Kv (E,C,G) (Z4 n ns vs tx)))) ((Jy (E,C,G)∧Jc (Z4 n ns vs tx)=0)∧Br (Jmp E C G n ns vs tx !=0) (Sf true (Sf T ((E,C,G)=Ui (E,C,G) (Z4 n ns vs tx)∧Jmp E C G n ns vs tx=Kv (E,C,G) (Z4 n ns vs tx)))) (F8 ns vs∧Fi E∧Br true (Z55 C∧Jaw C G∧Sf true (Sf T ((E++[Z4 n ns vs tx],Jay C G)=Ui (E,C,G) (Z4 n ns vs tx)∧0=Kv (E,C,G) (Z4 n ns vs tx)))) (Br (Z87 G) (Xe G∧Jat G∧False∧Z80 vs∧H4 C G∧Sf true (Sf T ((E++[Z4 n ns vs tx],C++[Z4 n ns vs tx],G++[(Z76 vs,Jau G)])=Ui (E,C,G) (Z4 n ns vs tx)∧0=Kv (E,C,G) (Z4 n ns vs tx)))) (Jaz∧False∧Z80 vs∧H4 C G∧Sf true (Sf T ((E++[Z4 n ns vs tx],C++[Z4 n ns vs tx],G++[(Z76 vs,F7)])=Ui (E,C,G) (Z4 n ns vs tx)∧0=Kv (E,C,G) (Z4 n ns vs tx))))))))=_).mp ?_
 delta Z4 Z6 Z32 Z34 Z43 Z55 Z76 Z80 Z87 Z98 Jmp Fi Jc8 F8 F7 Jaz Xd Xe Jay Jc5 H4 Jaf Jae Lf Jax Le Dm Zx Jaw Jav Jau Jat Br Iw Bd T2 Tw Sf Ln Gt E2 K3
 intro hh hlt hsz hc ha
 obtain⟨a1,a2,a3⟩:=Jth ha
 have n1:E.length≤1000:=hh.nE
 have n2:C.length≤E.length:=hh.nC
 have n3:G.length=C.length:=hh.nG
 have a2:C.length≠0:=a2
 have hC:((C.length:Int)-1).toNat=C.length-1:=by omega
 have eE:Kv (E,C,G) (n,K3,ns,vs,tx)=0:=by unfold Kv;rw[if_neg (by rw[hc];simp)];exact ha
 have eP:Ui (E,C,G) (n,K3,ns,vs,tx)=(E++[(n,K3,ns,vs,tx)],C.take (C.length-1),G.take (C.length-1)):=by
  unfold Ui;rw[if_pos eE];unfold Jf1;dsimp only;rw[show(K3.toList==K3.toList)=true from by kernel_rfl];rfl
 simp only[eE,eP,hc,ha,hC]
 repeat' first|exact hh|exact hsz.2.2|apply And.intro|intro _
 all_goals first|trivial|omega|assumption|contradiction|exact hsz.1|exact hsz.2.1|rfl
def Kgp (a:Int) (b:Ls) (c:Li) (d:Bt):=(Jce Xd (Z31 a b c d)).2
def Kgi (a:Int) (b:Ls) (c:Li) (d:Bt):=(Kgp a b c d).2
def Kf3 (a:Int) (b:Ls) (c:Li) (d:Bt):=(Kgi a b c d).2
def Kfs (a:Int) (b:Ls) (c:Li) (d:Bt):=(Kf3 a b c d).2
def Kcf (a:List Reg) (b:Int) (c:Ls) (d:Li) (e:Bt):=(Jce (Za a) (Z31 b c d e)).2
def Kb2 (a:List Reg) (b:Int) (c:Ls) (d:Li) (e:Bt):=(Kcf a b c d e).2
def Kbs (a:List Reg) (b:Int) (c:Ls) (d:Li) (e:Bt):=(Kb2 a b c d e).2
def Kbl (a:List Reg) (b:Int) (c:Ls) (d:Li) (e:Bt):=(Kbs a b c d e).2
theorem Jf8:wpFO Tryz.prog W84.g (na ()) (fun _=>na ()) (Sx.look ([(61,Tryz.f61),(99,Tryz.f99)]:List (Nat×Func))) Tryz.f75 Fg T (E,C,G) ((n,J1,ns,vs,tx),()):=by
 refine(by kernel_rfl:(Jy (E,C,G)→Z34 E→Dk (Z31 n ns vs tx)→Jc (Z31 n ns vs tx)=0→Jlf E C G n ns vs tx=0→Jav ns vs∧Br (Jc (Z31 n ns vs tx) !=0) (Sf true (Sf T ((E,C,G)=Ui (E,C,G) (Z31 n ns vs tx)∧Jc (Z31 n ns vs tx)=Kv (E,C,G) (Z31 n ns vs tx)))) ((Jy (E,C,G)∧Jc (Z31 n ns vs tx)=0)∧Br (Jlf E C G n ns vs tx !=0) (Sf true (Sf T ((E,C,G)=Ui (E,C,G) (Z31 n ns vs tx)∧Jlf E C G n ns vs tx=Kv (E,C,G) (Z31 n ns vs tx)))) (F8 ns vs∧Fi E∧Br false (Z55 C∧Jaw C G∧Sf true (Sf T ((E++[Z31 n ns vs tx],Jay C G)=Ui (E,C,G) (Z31 n ns vs tx)∧0=Kv (E,C,G) (Z31 n ns vs tx)))) (Br (Z87 G) (Xe G∧Jat G∧(Ha G∧Z89 ns∧Z45 vs)∧Z80 vs∧H4 C G∧Sf true (Sf T ((E++[Z31 n ns vs tx],C++[Z31 n ns vs tx],G++[(Z76 vs,(Kcf G n ns vs tx).1,(Kb2 G n ns vs tx).1,(Kbs G n ns vs tx).1,(Kbl G n ns vs tx).1,E2 (Kbl G n ns vs tx).2)])=Ui (E,C,G) (Z31 n ns vs tx)∧0=Kv (E,C,G) (Z31 n ns vs tx)))) (Jaz∧(Zs∧Z89 ns∧Z45 vs)∧Z80 vs∧H4 C G∧Sf true (Sf T ((E++[Z31 n ns vs tx],C++[Z31 n ns vs tx],G++[(Z76 vs,(Kgp n ns vs tx).1,(Kgi n ns vs tx).1,(Kf3 n ns vs tx).1,(Kfs n ns vs tx).1,E2 (Kfs n ns vs tx).2)])=Ui (E,C,G) (Z31 n ns vs tx)∧0=Kv (E,C,G) (Z31 n ns vs tx))))))))=_).mp ?_
 delta Z6 Z31 Z32 Z34 Z43 Z45 Z55 Z76 Z80 Z87 Z89 Z98 Jlf Fi Jc8 F8 F7 Jaz Xd Xe Zs Jay Jc5 H4 Jaf Kgp Kgi Jcq Jae Lf Jax Kf3 Kfs Le Dm Zx Jaw Jav Jau Jat Za Ha Kcf Kb2 Kbs Kbl Br Iw Bd T2 Tw Sf Ln Gt E2 J1
 intro hh hlt hsz hc ha
 obtain⟨u0,aE,aP⟩:=Jde (k:=J1) (by kernel_rfl) hc ha
 obtain⟨hn,hv,hR,_,n1,n2,n3,hG,hV⟩:=Xw hh hc
 simp only[Yk,List.length_cons,List.length_nil] at hn hv u0
 have hs:Kh (Vs G) (n,J1,ns,vs,tx)=(vs.getD 0 0,(Jce (Vs G) (n,J1,ns,vs,tx)).2):=by simp only[Kh,doS,Yk]
 simp only[aE,aP,hs,hc,ha,hG,Xq,Jdz,Prod.eta]
 repeat' first|exact hV|exact hh|exact hR|exact hsz.2.2|apply And.intro|intro _
 all_goals first|trivial|omega|assumption|exact Nat.le_trans hR.nS (by decide)|exact Nat.le_trans hR.nO (by decide)|exact Nat.le_trans hR.nM (by decide)|exact Nat.le_trans hR.nX (by decide)|exact Nat.le_trans hR.nQ (by decide)|exact Nat.zero_le _|exact hsz.1|exact hsz.2.1|(rename_i h;have h:=of_decide_eq_true h;omega)|rfl|(rw[←J6 ‹_›];first|done|exact hR)
def Kg3 (a:Int) (b:Ls) (c:Li) (d:Bt):=(Jcb Xd (Z14 a b c d)).2
def Kgq (a:Int) (b:Ls) (c:Li) (d:Bt):=(Kg3 a b c d).2
def Kgb (a:Int) (b:Ls) (c:Li) (d:Bt):=(Kgq a b c d).2
def Kf5 (a:Int) (b:Ls) (c:Li) (d:Bt):=(Kgb a b c d).2
def Kcl (a:List Reg) (b:Int) (c:Ls) (d:Li) (e:Bt):=(Jcb (Za a) (Z14 b c d e)).2
def Kcd (a:List Reg) (b:Int) (c:Ls) (d:Li) (e:Bt):=(Kcl a b c d e).2
def Kb3 (a:List Reg) (b:Int) (c:Ls) (d:Li) (e:Bt):=(Kcd a b c d e).2
def Kbq (a:List Reg) (b:Int) (c:Ls) (d:Li) (e:Bt):=(Kb3 a b c d e).2
theorem Jlo:wpFO Tryz.prog W84.g (na ()) (fun _=>na ()) (Sx.look ([(61,Tryz.f61),(99,Tryz.f99)]:List (Nat×Func))) Tryz.f75 Fg T (E,C,G) ((n,Uh,ns,vs,tx),()):=by
 refine(by kernel_rfl:(Jy (E,C,G)→Z34 E→Dk (Z14 n ns vs tx)→Jc (Z14 n ns vs tx)=0→Jmo E C G n ns vs tx=0→Jav ns vs∧Br (Jc (Z14 n ns vs tx) !=0) (Sf true (Sf T ((E,C,G)=Ui (E,C,G) (Z14 n ns vs tx)∧Jc (Z14 n ns vs tx)=Kv (E,C,G) (Z14 n ns vs tx)))) ((Jy (E,C,G)∧Jc (Z14 n ns vs tx)=0)∧Br (Jmo E C G n ns vs tx !=0) (Sf true (Sf T ((E,C,G)=Ui (E,C,G) (Z14 n ns vs tx)∧Jmo E C G n ns vs tx=Kv (E,C,G) (Z14 n ns vs tx)))) (F8 ns vs∧Fi E∧Br false (Z55 C∧Jaw C G∧Sf true (Sf T ((E++[Z14 n ns vs tx],Jay C G)=Ui (E,C,G) (Z14 n ns vs tx)∧0=Kv (E,C,G) (Z14 n ns vs tx)))) (Br (Z87 G) (Xe G∧Jat G∧(Ha G∧Z89 ns∧Z45 vs∧0≤J0 (Lf G).1 (Z95 ns))∧Z80 vs∧H4 C G∧Sf true (Sf T ((E++[Z14 n ns vs tx],C++[Z14 n ns vs tx],G++[(Z76 vs,(Kcl G n ns vs tx).1,(Kcd G n ns vs tx).1,(Kb3 G n ns vs tx).1,(Kbq G n ns vs tx).1,E2 (Kbq G n ns vs tx).2)])=Ui (E,C,G) (Z14 n ns vs tx)∧0=Kv (E,C,G) (Z14 n ns vs tx)))) (Jaz∧(Zs∧Z89 ns∧Z45 vs∧0≤J0 [] (Z95 ns))∧Z80 vs∧H4 C G∧Sf true (Sf T ((E++[Z14 n ns vs tx],C++[Z14 n ns vs tx],G++[(Z76 vs,(Kg3 n ns vs tx).1,(Kgq n ns vs tx).1,(Kgb n ns vs tx).1,(Kf5 n ns vs tx).1,E2 (Kf5 n ns vs tx).2)])=Ui (E,C,G) (Z14 n ns vs tx)∧0=Kv (E,C,G) (Z14 n ns vs tx))))))))=_).mp ?_
 delta Z6 Z14 Z32 Z34 Z43 Z45 Z55 Z76 Z80 Z87 Z89 Z95 Z98 Jmo Fi Jc8 F8 F7 Jaz Xd Xe Zs Jay Jc5 H4 Kg3 Jaf Kgq Jcq Jae Kgb Lf Jax Kf5 Le Dm Zx Jaw Jav Jau Jat Za Ha Kcl Kcd Kb3 Kbq Br Iw Bd T2 Tw Sf Ln Gt E2 Uh
 intro hh hlt hsz hc ha
 obtain⟨u0,aE,aP⟩:=Jde (k:=Uh) (by kernel_rfl) hc ha
 obtain⟨hn,hv,hR,_,n1,n2,n3,hG,hV⟩:=Xw hh hc
 simp only[Ht,List.length_cons,List.length_nil] at hn hv u0
 obtain⟨k0,u1⟩:=J2 u0
 have f0:=Jst (k0 rfl)
 have hs:Kh (Vs G) (n,Uh,ns,vs,tx)=(vs.getD 0 0,(Jcb (Vs G) (n,Uh,ns,vs,tx)).2):=by simp only[Kh,doS,Ht]
 simp only[aE,aP,hs,hc,ha,hG,Xq,Jdz,Prod.eta]
 repeat' first|exact hV|exact hh|exact hR|exact hsz.2.2|apply And.intro|intro _
 all_goals first|trivial|omega|assumption|exact Nat.le_trans hR.nS (by decide)|exact Nat.le_trans hR.nO (by decide)|exact Nat.le_trans hR.nM (by decide)|exact Nat.le_trans hR.nX (by decide)|exact Nat.le_trans hR.nQ (by decide)|exact Nat.zero_le _|exact hsz.1|exact hsz.2.1|(rename_i h;have h:=of_decide_eq_true h;omega)|rfl|(rw[←J6 ‹_›];first|done|exact hR)|(rw[J6 ‹_›] at f0;exact f0)
def Kg2 (a:Int) (b:Ls) (c:Li) (d:Bt):=(F1 Xd (Z7 a b c d)).2
def Kgn (a:Int) (b:Ls) (c:Li) (d:Bt):=(Kg2 a b c d).2
def Kge (a:Int) (b:Ls) (c:Li) (d:Bt):=(Kgn a b c d).2
def Kf1 (a:Int) (b:Ls) (c:Li) (d:Bt):=(Kge a b c d).2
def Kcm (a:List Reg) (b:Int) (c:Ls) (d:Li) (e:Bt):=(F1 (Za a) (Z7 b c d e)).2
def Kce (a:List Reg) (b:Int) (c:Ls) (d:Li) (e:Bt):=(Kcm a b c d e).2
def Kb0 (a:List Reg) (b:Int) (c:Ls) (d:Li) (e:Bt):=(Kce a b c d e).2
def Kbu (a:List Reg) (b:Int) (c:Ls) (d:Li) (e:Bt):=(Kb0 a b c d e).2
theorem Jlp:wpFO Tryz.prog W84.g (na ()) (fun _=>na ()) (Sx.look ([(61,Tryz.f61),(99,Tryz.f99)]:List (Nat×Func))) Tryz.f75 Fg T (E,C,G) ((n,Ka,ns,vs,tx),()):=by
 refine(by kernel_rfl:(Jy (E,C,G)→Z34 E→Dk (Z7 n ns vs tx)→Jc (Z7 n ns vs tx)=0→Jlj E C G n ns vs tx=0→Jav ns vs∧Br (Jc (Z7 n ns vs tx) !=0) (Sf true (Sf T ((E,C,G)=Ui (E,C,G) (Z7 n ns vs tx)∧Jc (Z7 n ns vs tx)=Kv (E,C,G) (Z7 n ns vs tx)))) ((Jy (E,C,G)∧Jc (Z7 n ns vs tx)=0)∧Br (Jlj E C G n ns vs tx !=0) (Sf true (Sf T ((E,C,G)=Ui (E,C,G) (Z7 n ns vs tx)∧Jlj E C G n ns vs tx=Kv (E,C,G) (Z7 n ns vs tx)))) (F8 ns vs∧Fi E∧Br false (Z55 C∧Jaw C G∧Sf true (Sf T ((E++[Z7 n ns vs tx],Jay C G)=Ui (E,C,G) (Z7 n ns vs tx)∧0=Kv (E,C,G) (Z7 n ns vs tx)))) (Br (Z87 G) (Xe G∧Jat G∧(Ha G∧Z96 ns∧J4h vs G ns)∧Z80 vs∧H4 C G∧Sf true (Sf T ((E++[Z7 n ns vs tx],C++[Z7 n ns vs tx],G++[(Z76 vs,(Kcm G n ns vs tx).1,(Kce G n ns vs tx).1,(Kb0 G n ns vs tx).1,(Kbu G n ns vs tx).1,E2 (Kbu G n ns vs tx).2)])=Ui (E,C,G) (Z7 n ns vs tx)∧0=Kv (E,C,G) (Z7 n ns vs tx)))) (Jaz∧(Zs∧Z96 ns∧J5w vs ns)∧Z80 vs∧H4 C G∧Sf true (Sf T ((E++[Z7 n ns vs tx],C++[Z7 n ns vs tx],G++[(Z76 vs,(Kg2 n ns vs tx).1,(Kgn n ns vs tx).1,(Kge n ns vs tx).1,(Kf1 n ns vs tx).1,E2 (Kf1 n ns vs tx).2)])=Ui (E,C,G) (Z7 n ns vs tx)∧0=Kv (E,C,G) (Z7 n ns vs tx))))))))=_).mp ?_
 delta Z6 Z7 Z32 Z34 Z43 Z46 Z55 Z76 Z80 Z87 Z93 Z96 Z98 Jlj Fi Jc8 J2p F8 F7 Jaz Xd Xe Zs Jay J5w Jc5 H4 Kg2 Jaf Kgn Jcq Jae Kge Lf Jax Kf1 Le Dm Zx Jaw Jav J1s J4h Jau Jat Za Ha Kcm Kce Kb0 Kbu Br Iw Bd T2 Tw Sf Ln Gt E2 Ka
 intro hh hlt hsz hc ha
 obtain⟨u0,aE,aP⟩:=Jde (k:=Ka) (by kernel_rfl) hc ha
 obtain⟨hn,hv,hR,_,n1,n2,n3,hG,hV⟩:=Xw hh hc
 simp only[Uc,List.length_cons,List.length_nil] at hn hv u0
 obtain⟨k0,u1⟩:=J2 u0
 obtain⟨k1,u2⟩:=J2 u1
 obtain⟨k2,u3⟩:=J2 u2
 have f1:=Jst (k1 rfl)
 have f2:=Jst (k2 rfl)
 have hs:Kh (Vs G) (n,Ka,ns,vs,tx)=(vs.getD 0 0,(F1 (Vs G) (n,Ka,ns,vs,tx)).2):=by simp only[Kh,doS,Uc]
 simp only[aE,aP,hs,hc,ha,hG,Xq,Jdz,Prod.eta]
 repeat' first|exact hV|exact hh|exact hR|exact hsz.2.2|apply And.intro|intro _
 all_goals first|trivial|omega|assumption|exact Nat.le_trans hR.nS (by decide)|exact Nat.le_trans hR.nO (by decide)|exact Nat.le_trans hR.nM (by decide)|exact Nat.le_trans hR.nX (by decide)|exact Nat.le_trans hR.nQ (by decide)|exact Nat.zero_le _|exact hsz.1|exact hsz.2.1|(rename_i h;have h:=of_decide_eq_true h;omega)|rfl|(rw[←J6 ‹_›];first|done|exact hR)|(rw[J6 ‹_›] at f1;exact f1)|(rw[J6 ‹_›] at f2;exact f2)
def Kg0 (a:Int) (b:Ls) (c:Li) (d:Bt):=(F2 Xd (Z9 a b c d)).2
def Kgt (a:Int) (b:Ls) (c:Li) (d:Bt):=(Kg0 a b c d).2
def Kgg (a:Int) (b:Ls) (c:Li) (d:Bt):=(Kgt a b c d).2
def Kf2 (a:Int) (b:Ls) (c:Li) (d:Bt):=(Kgg a b c d).2
def Kck (a:List Reg) (b:Int) (c:Ls) (d:Li) (e:Bt):=(F2 (Za a) (Z9 b c d e)).2
def Kcc (a:List Reg) (b:Int) (c:Ls) (d:Li) (e:Bt):=(Kck a b c d e).2
def Kb4 (a:List Reg) (b:Int) (c:Ls) (d:Li) (e:Bt):=(Kcc a b c d e).2
def Kbt (a:List Reg) (b:Int) (c:Ls) (d:Li) (e:Bt):=(Kb4 a b c d e).2
theorem Jlq:wpFO Tryz.prog W84.g (na ()) (fun _=>na ()) (Sx.look ([(61,Tryz.f61),(99,Tryz.f99)]:List (Nat×Func))) Tryz.f75 Fg T (E,C,G) ((n,Kn,ns,vs,tx),()):=by
 refine(by kernel_rfl:(Jy (E,C,G)→Z34 E→Dk (Z9 n ns vs tx)→Jc (Z9 n ns vs tx)=0→Jlk E C G n ns vs tx=0→Jav ns vs∧Br (Jc (Z9 n ns vs tx) !=0) (Sf true (Sf T ((E,C,G)=Ui (E,C,G) (Z9 n ns vs tx)∧Jc (Z9 n ns vs tx)=Kv (E,C,G) (Z9 n ns vs tx)))) ((Jy (E,C,G)∧Jc (Z9 n ns vs tx)=0)∧Br (Jlk E C G n ns vs tx !=0) (Sf true (Sf T ((E,C,G)=Ui (E,C,G) (Z9 n ns vs tx)∧Jlk E C G n ns vs tx=Kv (E,C,G) (Z9 n ns vs tx)))) (F8 ns vs∧Fi E∧Br false (Z55 C∧Jaw C G∧Sf true (Sf T ((E++[Z9 n ns vs tx],Jay C G)=Ui (E,C,G) (Z9 n ns vs tx)∧0=Kv (E,C,G) (Z9 n ns vs tx)))) (Br (Z87 G) (Xe G∧Jat G∧(Ha G∧Z89 ns∧Z40 vs)∧Z80 vs∧H4 C G∧Sf true (Sf T ((E++[Z9 n ns vs tx],C++[Z9 n ns vs tx],G++[(Z76 vs,(Kck G n ns vs tx).1,(Kcc G n ns vs tx).1,(Kb4 G n ns vs tx).1,(Kbt G n ns vs tx).1,E2 (Kbt G n ns vs tx).2)])=Ui (E,C,G) (Z9 n ns vs tx)∧0=Kv (E,C,G) (Z9 n ns vs tx)))) (Jaz∧(Zs∧Z89 ns∧Z40 vs)∧Z80 vs∧H4 C G∧Sf true (Sf T ((E++[Z9 n ns vs tx],C++[Z9 n ns vs tx],G++[(Z76 vs,(Kg0 n ns vs tx).1,(Kgt n ns vs tx).1,(Kgg n ns vs tx).1,(Kf2 n ns vs tx).1,E2 (Kf2 n ns vs tx).2)])=Ui (E,C,G) (Z9 n ns vs tx)∧0=Kv (E,C,G) (Z9 n ns vs tx))))))))=_).mp ?_
 delta Z6 Z9 Z32 Z34 Z40 Z43 Z55 Z76 Z80 Z87 Z89 Z98 Jlk Fi Jc8 F8 F7 Jaz Xd Xe Zs Jay Jc5 H4 Kg0 Jaf Kgt Jcq Kgg Jae Lf Jax Kf2 Le Dm Zx Jaw Jav Jau Jat Za Ha Kck Kcc Kb4 Kbt Br Iw Bd T2 Tw Sf Ln Gt E2 Kn
 intro hh hlt hsz hc ha
 obtain⟨u0,aE,aP⟩:=Jde (k:=Kn) (by kernel_rfl) hc ha
 obtain⟨hn,hv,hR,_,n1,n2,n3,hG,hV⟩:=Xw hh hc
 simp only[Vl,List.length_cons,List.length_nil] at hn hv u0
 obtain⟨k0,u1⟩:=J2 u0
 have f0:=J3e (k0 rfl)
 have hs:Kh (Vs G) (n,Kn,ns,vs,tx)=(vs.getD 0 0,(F2 (Vs G) (n,Kn,ns,vs,tx)).2):=by simp only[Kh,doS,Vl]
 simp only[aE,aP,hs,hc,ha,hG,Xq,Jdz,Prod.eta]
 repeat' first|exact hV|exact hh|exact hR|exact hsz.2.2|apply And.intro|intro _
 all_goals first|trivial|omega|assumption|exact Nat.le_trans hR.nS (by decide)|exact Nat.le_trans hR.nO (by decide)|exact Nat.le_trans hR.nM (by decide)|exact Nat.le_trans hR.nX (by decide)|exact Nat.le_trans hR.nQ (by decide)|exact Nat.zero_le _|exact hsz.1|exact hsz.2.1|(rename_i h;have h:=of_decide_eq_true h;omega)|rfl|(rw[←J6 ‹_›];first|done|exact hR)|(rw[J6 ‹_›] at f0;exact f0)
def Kg4 (a:Int) (b:Ls) (c:Li) (d:Bt):=(Jca Xd (Z0 a b c d)).2
def Kgu (a:Int) (b:Ls) (c:Li) (d:Bt):=(Kg4 a b c d).2
def Kgk (a:Int) (b:Ls) (c:Li) (d:Bt):=(Kgu a b c d).2
def Kf7 (a:Int) (b:Ls) (c:Li) (d:Bt):=(Kgk a b c d).2
def Kco (a:List Reg) (b:Int) (c:Ls) (d:Li) (e:Bt):=(Jca (Za a) (Z0 b c d e)).2
def Kcj (a:List Reg) (b:Int) (c:Ls) (d:Li) (e:Bt):=(Kco a b c d e).2
def Kb7 (a:List Reg) (b:Int) (c:Ls) (d:Li) (e:Bt):=(Kcj a b c d e).2
def Kbx (a:List Reg) (b:Int) (c:Ls) (d:Li) (e:Bt):=(Kb7 a b c d e).2
theorem Jm5:wpFO Tryz.prog W84.g (na ()) (fun _=>na ()) (Sx.look ([(61,Tryz.f61),(99,Tryz.f99)]:List (Nat×Func))) Tryz.f75 Fg T (E,C,G) ((n,Zz,ns,vs,tx),()):=by
 refine(by kernel_rfl:(Jy (E,C,G)→Z34 E→Dk (Z0 n ns vs tx)→Jc (Z0 n ns vs tx)=0→Jll E C G n ns vs tx=0→Jav ns vs∧Br (Jc (Z0 n ns vs tx) !=0) (Sf true (Sf T ((E,C,G)=Ui (E,C,G) (Z0 n ns vs tx)∧Jc (Z0 n ns vs tx)=Kv (E,C,G) (Z0 n ns vs tx)))) ((Jy (E,C,G)∧Jc (Z0 n ns vs tx)=0)∧Br (Jll E C G n ns vs tx !=0) (Sf true (Sf T ((E,C,G)=Ui (E,C,G) (Z0 n ns vs tx)∧Jll E C G n ns vs tx=Kv (E,C,G) (Z0 n ns vs tx)))) (F8 ns vs∧Fi E∧Br false (Z55 C∧Jaw C G∧Sf true (Sf T ((E++[Z0 n ns vs tx],Jay C G)=Ui (E,C,G) (Z0 n ns vs tx)∧0=Kv (E,C,G) (Z0 n ns vs tx)))) (Br (Z87 G) (Xe G∧Jat G∧J3s G ns vs∧Z80 vs∧H4 C G∧Sf true (Sf T ((E++[Z0 n ns vs tx],C++[Z0 n ns vs tx],G++[(Z76 vs,(Kco G n ns vs tx).1,(Kcj G n ns vs tx).1,(Kb7 G n ns vs tx).1,(Kbx G n ns vs tx).1,E2 (Kbx G n ns vs tx).2)])=Ui (E,C,G) (Z0 n ns vs tx)∧0=Kv (E,C,G) (Z0 n ns vs tx)))) (Jaz∧J4d ns vs∧Z80 vs∧H4 C G∧Sf true (Sf T ((E++[Z0 n ns vs tx],C++[Z0 n ns vs tx],G++[(Z76 vs,(Kg4 n ns vs tx).1,(Kgu n ns vs tx).1,(Kgk n ns vs tx).1,(Kf7 n ns vs tx).1,E2 (Kf7 n ns vs tx).2)])=Ui (E,C,G) (Z0 n ns vs tx)∧0=Kv (E,C,G) (Z0 n ns vs tx))))))))=_).mp ?_
 delta Z0 Z6 Z32 Z34 Z43 Z51 Z55 Z76 Z80 Z87 Z89 Z95 Z98 Jll Fi Jc8 J2q F8 F7 Jaz Xd Xe Zs Jay Jc5 H4 Kg4 Kgu Jaf Kgk Jcq Jae Kf7 Lf Jax Le Dm Zx Jaw Jav J1r J4d Jau Jat Za Ha Kco Kcj Kb7 Kbx J3s Br Iw Bd T2 Tw Sf Ln Gt E2 Zz
 intro hh hlt hsz hc ha
 obtain⟨u0,aE,aP⟩:=Jde (k:=Zz) (by kernel_rfl) hc ha
 obtain⟨hn,hv,hR,_,n1,n2,n3,hG,hV⟩:=Xw hh hc
 simp only[D5,List.length_cons,List.length_nil] at hn hv u0
 obtain⟨k0,u1⟩:=J2 u0
 have f0:=J3e (k0 rfl)
 have hs:Kh (Vs G) (n,Zz,ns,vs,tx)=(vs.getD 0 0,(Jca (Vs G) (n,Zz,ns,vs,tx)).2):=by simp only[Kh,doS,D5]
 simp only[aE,aP,hs,hc,ha,hG,Xq,Jdz,Prod.eta]
 repeat' first|exact hV|exact hh|exact hR|exact hsz.2.2|apply And.intro|intro _
 all_goals first|trivial|omega|assumption|exact Nat.le_trans hR.nS (by decide)|exact Nat.le_trans hR.nO (by decide)|exact Nat.le_trans hR.nM (by decide)|exact Nat.le_trans hR.nX (by decide)|exact Nat.le_trans hR.nQ (by decide)|exact Nat.zero_le _|exact hsz.1|exact hsz.2.1|(rename_i h;have h:=of_decide_eq_true h;omega)|rfl|(rw[←J6 ‹_›];first|done|exact hR)|(rw[J6 ‹_›] at f0;exact f0)
def Kgx (a:Int) (b:Ls) (c:Li) (d:Bt):=(Jcd Xd (Z24 a b c d)).2
def Kgl (a:Int) (b:Ls) (c:Li) (d:Bt):=(Kgx a b c d).2
def Kf9 (a:Int) (b:Ls) (c:Li) (d:Bt):=(Kgl a b c d).2
def Kfx (a:Int) (b:Ls) (c:Li) (d:Bt):=(Kf9 a b c d).2
def Kch (a:List Reg) (b:Int) (c:Ls) (d:Li) (e:Bt):=(Jcd (Za a) (Z24 b c d e)).2
def Kb6 (a:List Reg) (b:Int) (c:Ls) (d:Li) (e:Bt):=(Kch a b c d e).2
def Kbw (a:List Reg) (b:Int) (c:Ls) (d:Li) (e:Bt):=(Kb6 a b c d e).2
def Kbn (a:List Reg) (b:Int) (c:Ls) (d:Li) (e:Bt):=(Kbw a b c d e).2
theorem Jh4:wpFO Tryz.prog W84.g (na ()) (fun _=>na ()) (Sx.look ([(61,Tryz.f61),(99,Tryz.f99)]:List (Nat×Func))) Tryz.f75 Fg T (E,C,G) ((n,Ul,ns,vs,tx),()):=by
 refine(by kernel_rfl:(Jy (E,C,G)→Z34 E→Dk (Z24 n ns vs tx)→Jc (Z24 n ns vs tx)=0→Jlg E C G n ns vs tx=0→Jav ns vs∧Br (Jc (Z24 n ns vs tx) !=0) (Sf true (Sf T ((E,C,G)=Ui (E,C,G) (Z24 n ns vs tx)∧Jc (Z24 n ns vs tx)=Kv (E,C,G) (Z24 n ns vs tx)))) ((Jy (E,C,G)∧Jc (Z24 n ns vs tx)=0)∧Br (Jlg E C G n ns vs tx !=0) (Sf true (Sf T ((E,C,G)=Ui (E,C,G) (Z24 n ns vs tx)∧Jlg E C G n ns vs tx=Kv (E,C,G) (Z24 n ns vs tx)))) (F8 ns vs∧Fi E∧Br false (Z55 C∧Jaw C G∧Sf true (Sf T ((E++[Z24 n ns vs tx],Jay C G)=Ui (E,C,G) (Z24 n ns vs tx)∧0=Kv (E,C,G) (Z24 n ns vs tx)))) (Br (Z87 G) (Xe G∧Jat G∧(Ha G∧Z91 ns∧Z46 vs)∧Z80 vs∧H4 C G∧Sf true (Sf T ((E++[Z24 n ns vs tx],C++[Z24 n ns vs tx],G++[(Z76 vs,(Kch G n ns vs tx).1,(Kb6 G n ns vs tx).1,(Kbw G n ns vs tx).1,(Kbn G n ns vs tx).1,E2 (Kbn G n ns vs tx).2)])=Ui (E,C,G) (Z24 n ns vs tx)∧0=Kv (E,C,G) (Z24 n ns vs tx)))) (Jaz∧(Zs∧Z91 ns∧Z46 vs)∧Z80 vs∧H4 C G∧Sf true (Sf T ((E++[Z24 n ns vs tx],C++[Z24 n ns vs tx],G++[(Z76 vs,(Kgx n ns vs tx).1,(Kgl n ns vs tx).1,(Kf9 n ns vs tx).1,(Kfx n ns vs tx).1,E2 (Kfx n ns vs tx).2)])=Ui (E,C,G) (Z24 n ns vs tx)∧0=Kv (E,C,G) (Z24 n ns vs tx))))))))=_).mp ?_
 delta Z6 Z24 Z32 Z34 Z43 Z46 Z55 Z76 Z80 Z87 Z91 Z98 Jlg Fi Jc8 F8 F7 Jaz Xd Xe Zs Jay Jc5 H4 Kgx Jaf Kgl Jcq Jae Kf9 Lf Jax Kfx Le Dm Zx Jaw Jav Jau Jat Za Ha Kch Kb6 Kbw Kbn Br Iw Bd T2 Tw Sf Ln Gt E2 Ul
 intro hh hlt hsz hc ha
 obtain⟨u0,aE,aP⟩:=Jde (k:=Ul) (by kernel_rfl) hc ha
 obtain⟨hn,hv,hR,_,n1,n2,n3,hG,hV⟩:=Xw hh hc
 simp only[X2,List.length_cons,List.length_nil] at hn hv u0
 obtain⟨k0,u1⟩:=J2 u0
 obtain⟨k1,u2⟩:=J2 u1
 have f1:=Jst (k1 rfl)
 have hs:Kh (Vs G) (n,Ul,ns,vs,tx)=(vs.getD 0 0,(Jcd (Vs G) (n,Ul,ns,vs,tx)).2):=by simp only[Kh,doS,X2]
 simp only[aE,aP,hs,hc,ha,hG,Xq,Jdz,Prod.eta]
 repeat' first|exact hV|exact hh|exact hR|exact hsz.2.2|apply And.intro|intro _
 all_goals first|trivial|omega|assumption|exact Nat.le_trans hR.nS (by decide)|exact Nat.le_trans hR.nO (by decide)|exact Nat.le_trans hR.nM (by decide)|exact Nat.le_trans hR.nX (by decide)|exact Nat.le_trans hR.nQ (by decide)|exact Nat.zero_le _|exact hsz.1|exact hsz.2.1|(rename_i h;have h:=of_decide_eq_true h;omega)|rfl|(rw[←J6 ‹_›];first|done|exact hR)|(rw[J6 ‹_›] at f1;exact f1)
def Kgo (a:Int) (b:Ls) (c:Li) (d:Bt):=(Jcc Xd (Z33 a b c d)).2
def Kgd (a:Int) (b:Ls) (c:Li) (d:Bt):=(Kgo a b c d).2
def Kf0 (a:Int) (b:Ls) (c:Li) (d:Bt):=(Kgd a b c d).2
def Kfv (a:Int) (b:Ls) (c:Li) (d:Bt):=(Kf0 a b c d).2
def Kca (a:List Reg) (b:Int) (c:Ls) (d:Li) (e:Bt):=(Jcc (Za a) (Z33 b c d e)).2
def Kb5 (a:List Reg) (b:Int) (c:Ls) (d:Li) (e:Bt):=(Kca a b c d e).2
def Kbr (a:List Reg) (b:Int) (c:Ls) (d:Li) (e:Bt):=(Kb5 a b c d e).2
def Kbm (a:List Reg) (b:Int) (c:Ls) (d:Li) (e:Bt):=(Kbr a b c d e).2
theorem Jf9:wpFO Tryz.prog W84.g (na ()) (fun _=>na ()) (Sx.look ([(61,Tryz.f61),(99,Tryz.f99)]:List (Nat×Func))) Tryz.f75 Fg T (E,C,G) ((n,Kt,ns,vs,tx),()):=by
 refine(by kernel_rfl:(Jy (E,C,G)→Z34 E→Dk (Z33 n ns vs tx)→Jc (Z33 n ns vs tx)=0→Jle E C G n ns vs tx=0→Jav ns vs∧Br (Jc (Z33 n ns vs tx) !=0) (Sf true (Sf T ((E,C,G)=Ui (E,C,G) (Z33 n ns vs tx)∧Jc (Z33 n ns vs tx)=Kv (E,C,G) (Z33 n ns vs tx)))) ((Jy (E,C,G)∧Jc (Z33 n ns vs tx)=0)∧Br (Jle E C G n ns vs tx !=0) (Sf true (Sf T ((E,C,G)=Ui (E,C,G) (Z33 n ns vs tx)∧Jle E C G n ns vs tx=Kv (E,C,G) (Z33 n ns vs tx)))) (F8 ns vs∧Fi E∧Br false (Z55 C∧Jaw C G∧Sf true (Sf T ((E++[Z33 n ns vs tx],Jay C G)=Ui (E,C,G) (Z33 n ns vs tx)∧0=Kv (E,C,G) (Z33 n ns vs tx)))) (Br (Z87 G) (Xe G∧Jat G∧J3r G ns vs∧Z80 vs∧H4 C G∧Sf true (Sf T ((E++[Z33 n ns vs tx],C++[Z33 n ns vs tx],G++[(Z76 vs,(Kca G n ns vs tx).1,(Kb5 G n ns vs tx).1,(Kbr G n ns vs tx).1,(Kbm G n ns vs tx).1,E2 (Kbm G n ns vs tx).2)])=Ui (E,C,G) (Z33 n ns vs tx)∧0=Kv (E,C,G) (Z33 n ns vs tx)))) (Jaz∧J4c ns vs∧Z80 vs∧H4 C G∧Sf true (Sf T ((E++[Z33 n ns vs tx],C++[Z33 n ns vs tx],G++[(Z76 vs,(Kgo n ns vs tx).1,(Kgd n ns vs tx).1,(Kf0 n ns vs tx).1,(Kfv n ns vs tx).1,E2 (Kfv n ns vs tx).2)])=Ui (E,C,G) (Z33 n ns vs tx)∧0=Kv (E,C,G) (Z33 n ns vs tx))))))))=_).mp ?_
 delta Z6 Z32 Z33 Z34 Z43 Z51 Z55 Z76 Z80 Z87 Z89 Z95 Z98 Jle Fi Jc8 F8 F7 Jaz Xd Xe Zs Jay Jc5 H4 Jaf Kgo Jcq Jae Kgd Lf Jax Kf0 Kfv Le Dm Zx Jaw Jav J4c Jau Jat Za Ha Kca Kb5 Kbr Kbm J3r Br Iw Bd T2 Tw Sf Ln Gt E2 Kt
 intro hh hlt hsz hc ha
 obtain⟨u0,aE,aP⟩:=Jde (k:=Kt) (by kernel_rfl) hc ha
 obtain⟨hn,hv,hR,_,n1,n2,n3,hG,hV⟩:=Xw hh hc
 simp only[Yl,List.length_cons,List.length_nil] at hn hv u0
 obtain⟨k0,u1⟩:=J2 u0
 have f0:=J3d (k0 rfl)
 have hs:Kh (Vs G) (n,Kt,ns,vs,tx)=(vs.getD 0 0,(Jcc (Vs G) (n,Kt,ns,vs,tx)).2):=by simp only[Kh,doS,Yl]
 simp only[aE,aP,hs,hc,ha,hG,Xq,Jdz,Prod.eta]
 repeat' first|exact hV|exact hh|exact hR|exact hsz.2.2|apply And.intro|intro _
 all_goals first|trivial|omega|assumption|exact Nat.le_trans hR.nS (by decide)|exact Nat.le_trans hR.nO (by decide)|exact Nat.le_trans hR.nM (by decide)|exact Nat.le_trans hR.nX (by decide)|exact Nat.le_trans hR.nQ (by decide)|exact Nat.zero_le _|exact hsz.1|exact hsz.2.1|(rename_i h;have h:=of_decide_eq_true h;omega)|rfl|(rw[←J6 ‹_›];first|done|exact hR)|(rw[J6 ‹_›] at f0;exact f0)
def Kgy (a:Int) (b:Ls) (c:Li) (d:Bt):=(Jcf Xd (Z25 a b c d)).2
def Kgm (a:Int) (b:Ls) (c:Li) (d:Bt):=(Kgy a b c d).2
def Kga (a:Int) (b:Ls) (c:Li) (d:Bt):=(Kgm a b c d).2
def Kfy (a:Int) (b:Ls) (c:Li) (d:Bt):=(Kga a b c d).2
def Kcg (a:List Reg) (b:Int) (c:Ls) (d:Li) (e:Bt):=(Jcf (Za a) (Z25 b c d e)).2
def Kb9 (a:List Reg) (b:Int) (c:Ls) (d:Li) (e:Bt):=(Kcg a b c d e).2
def Kby (a:List Reg) (b:Int) (c:Ls) (d:Li) (e:Bt):=(Kb9 a b c d e).2
def Kbo (a:List Reg) (b:Int) (c:Ls) (d:Li) (e:Bt):=(Kby a b c d e).2
theorem Jh3:wpFO Tryz.prog W84.g (na ()) (fun _=>na ()) (Sx.look ([(61,Tryz.f61),(99,Tryz.f99)]:List (Nat×Func))) Tryz.f75 Fg T (E,C,G) ((n,Uk,ns,vs,tx),()):=by
 refine(by kernel_rfl:(Jy (E,C,G)→Z34 E→Dk (Z25 n ns vs tx)→Jc (Z25 n ns vs tx)=0→Jlh E C G n ns vs tx=0→Jav ns vs∧Br (Jc (Z25 n ns vs tx) !=0) (Sf true (Sf T ((E,C,G)=Ui (E,C,G) (Z25 n ns vs tx)∧Jc (Z25 n ns vs tx)=Kv (E,C,G) (Z25 n ns vs tx)))) ((Jy (E,C,G)∧Jc (Z25 n ns vs tx)=0)∧Br (Jlh E C G n ns vs tx !=0) (Sf true (Sf T ((E,C,G)=Ui (E,C,G) (Z25 n ns vs tx)∧Jlh E C G n ns vs tx=Kv (E,C,G) (Z25 n ns vs tx)))) (F8 ns vs∧Fi E∧Br false (Z55 C∧Jaw C G∧Sf true (Sf T ((E++[Z25 n ns vs tx],Jay C G)=Ui (E,C,G) (Z25 n ns vs tx)∧0=Kv (E,C,G) (Z25 n ns vs tx)))) (Br (Z87 G) (Xe G∧Jat G∧(Ha G∧Z94 ns)∧Z80 vs∧H4 C G∧Sf true (Sf T ((E++[Z25 n ns vs tx],C++[Z25 n ns vs tx],G++[(Z76 vs,(Kcg G n ns vs tx).1,(Kb9 G n ns vs tx).1,(Kby G n ns vs tx).1,(Kbo G n ns vs tx).1,E2 (Kbo G n ns vs tx).2)])=Ui (E,C,G) (Z25 n ns vs tx)∧0=Kv (E,C,G) (Z25 n ns vs tx)))) (Jaz∧(Zs∧Z94 ns)∧Z80 vs∧H4 C G∧Sf true (Sf T ((E++[Z25 n ns vs tx],C++[Z25 n ns vs tx],G++[(Z76 vs,(Kgy n ns vs tx).1,(Kgm n ns vs tx).1,(Kga n ns vs tx).1,(Kfy n ns vs tx).1,E2 (Kfy n ns vs tx).2)])=Ui (E,C,G) (Z25 n ns vs tx)∧0=Kv (E,C,G) (Z25 n ns vs tx))))))))=_).mp ?_
 delta Z6 Z25 Z32 Z34 Z43 Z55 Z76 Z80 Z87 Z94 Z98 Jlh Fi Jc8 F8 F7 Jaz Xd Xe Zs Jay Jc5 H4 Kgy Jaf Kgm Jcq Jae Kga Lf Jax Kfy Le Dm Zx Jaw Jav Jau Jat Za Ha Kcg Kb9 Kby Kbo Br Iw Bd T2 Tw Sf Ln Gt E2 Uk
 intro hh hlt hsz hc ha
 obtain⟨u0,aE,aP⟩:=Jde (k:=Uk) (by kernel_rfl) hc ha
 obtain⟨hn,hv,hR,_,n1,n2,n3,hG,hV⟩:=Xw hh hc
 simp only[X1,List.length_cons,List.length_nil] at hn hv u0
 obtain⟨k0,u1⟩:=J2 u0
 obtain⟨k1,u2⟩:=J2 u1
 have f1:=J3d (k1 rfl)
 have hs:Kh (Vs G) (n,Uk,ns,vs,tx)=(vs.getD 0 0,(Jcf (Vs G) (n,Uk,ns,vs,tx)).2):=by simp only[Kh,doS,X1]
 simp only[aE,aP,hs,hc,ha,hG,Xq,Jdz,Prod.eta]
 repeat' first|exact hV|exact hh|exact hR|exact hsz.2.2|apply And.intro|intro _
 all_goals first|trivial|omega|assumption|exact Nat.le_trans hR.nS (by decide)|exact Nat.le_trans hR.nO (by decide)|exact Nat.le_trans hR.nM (by decide)|exact Nat.le_trans hR.nX (by decide)|exact Nat.le_trans hR.nQ (by decide)|exact Nat.zero_le _|exact hsz.1|exact hsz.2.1|(rename_i h;have h:=of_decide_eq_true h;omega)|rfl|(rw[←J6 ‹_›];first|done|exact hR)|(rw[J6 ‹_›] at f1;exact f1)
def Kgz (a:Int) (b:Ls) (c:Li) (d:Bt):=(Ji2 Xd (Z22 a b c d)).2
def Kgs (a:Int) (b:Ls) (c:Li) (d:Bt):=(Kgz a b c d).2
def Kgf (a:Int) (b:Ls) (c:Li) (d:Bt):=(Kgs a b c d).2
def Kf6 (a:Int) (b:Ls) (c:Li) (d:Bt):=(Kgf a b c d).2
def Kcn (a:List Reg) (b:Int) (c:Ls) (d:Li) (e:Bt):=(Ji2 (Za a) (Z22 b c d e)).2
def Kcb (a:List Reg) (b:Int) (c:Ls) (d:Li) (e:Bt):=(Kcn a b c d e).2
def Kb1 (a:List Reg) (b:Int) (c:Ls) (d:Li) (e:Bt):=(Kcb a b c d e).2
def Kbv (a:List Reg) (b:Int) (c:Ls) (d:Li) (e:Bt):=(Kb1 a b c d e).2
theorem Jh2:wpFO Tryz.prog W84.g (na ()) (fun _=>na ()) (Sx.look ([(61,Tryz.f61),(99,Tryz.f99)]:List (Nat×Func))) Tryz.f75 Fg T (E,C,G) ((n,Uj,ns,vs,tx),()):=by
 refine(by kernel_rfl:(Jy (E,C,G)→Z34 E→Dk (Z22 n ns vs tx)→Jc (Z22 n ns vs tx)=0→Jli E C G n ns vs tx=0→Jav ns vs∧Br (Jc (Z22 n ns vs tx) !=0) (Sf true (Sf T ((E,C,G)=Ui (E,C,G) (Z22 n ns vs tx)∧Jc (Z22 n ns vs tx)=Kv (E,C,G) (Z22 n ns vs tx)))) ((Jy (E,C,G)∧Jc (Z22 n ns vs tx)=0)∧Br (Jli E C G n ns vs tx !=0) (Sf true (Sf T ((E,C,G)=Ui (E,C,G) (Z22 n ns vs tx)∧Jli E C G n ns vs tx=Kv (E,C,G) (Z22 n ns vs tx)))) (F8 ns vs∧Fi E∧Br false (Z55 C∧Jaw C G∧Sf true (Sf T ((E++[Z22 n ns vs tx],Jay C G)=Ui (E,C,G) (Z22 n ns vs tx)∧0=Kv (E,C,G) (Z22 n ns vs tx)))) (Br (Z87 G) (Xe G∧Jat G∧J3t G ns∧Z80 vs∧H4 C G∧Sf true (Sf T ((E++[Z22 n ns vs tx],C++[Z22 n ns vs tx],G++[(Z76 vs,(Kcn G n ns vs tx).1,(Kcb G n ns vs tx).1,(Kb1 G n ns vs tx).1,(Kbv G n ns vs tx).1,E2 (Kbv G n ns vs tx).2)])=Ui (E,C,G) (Z22 n ns vs tx)∧0=Kv (E,C,G) (Z22 n ns vs tx)))) (Jaz∧J4m ns∧Z80 vs∧H4 C G∧Sf true (Sf T ((E++[Z22 n ns vs tx],C++[Z22 n ns vs tx],G++[(Z76 vs,(Kgz n ns vs tx).1,(Kgs n ns vs tx).1,(Kgf n ns vs tx).1,(Kf6 n ns vs tx).1,E2 (Kf6 n ns vs tx).2)])=Ui (E,C,G) (Z22 n ns vs tx)∧0=Kv (E,C,G) (Z22 n ns vs tx))))))))=_).mp ?_
 delta Z6 Z22 Z32 Z34 Z43 Z55 Z76 Z80 Z87 Z89 Z95 Z98 Jli Fi Jc8 F8 F7 Jaz Xd Xe Zs Jay Jc5 H4 Kgz Jaf Kgs Jcq Jae Kgf Lf Jax Kf6 Le Dm Zx Jaw Jav J4m Jau Jat Za Ha Kcn Kcb Kb1 Kbv J3t Br Iw Bd T2 Tw Sf Ln Gt E2 Uj
 intro hh hlt hsz hc ha
 obtain⟨u0,aE,aP⟩:=Jde (k:=Uj) (by kernel_rfl) hc ha
 obtain⟨hn,hv,hR,_,n1,n2,n3,hG,hV⟩:=Xw hh hc
 simp only[X0,List.length_cons,List.length_nil] at hn hv u0
 obtain⟨k0,u1⟩:=J2 u0
 have f0:=Kjd (k0 rfl)
 have hs:Kh (Vs G) (n,Uj,ns,vs,tx)=(vs.getD 0 0,(Ji2 (Vs G) (n,Uj,ns,vs,tx)).2):=by simp only[Kh,doS,X0]
 simp only[aE,aP,hs,hc,ha,hG,Xq,Jdz,Prod.eta]
 repeat' first|exact hV|exact hh|exact hR|exact hsz.2.2|apply And.intro|intro _
 all_goals first|trivial|omega|assumption|exact Nat.le_trans hR.nS (by decide)|exact Nat.le_trans hR.nO (by decide)|exact Nat.le_trans hR.nM (by decide)|exact Nat.le_trans hR.nX (by decide)|exact Nat.le_trans hR.nQ (by decide)|exact Nat.zero_le _|exact hsz.1|exact hsz.2.1|(rename_i h;have h:=of_decide_eq_true h;omega)|rfl|(rw[←J6 ‹_›];first|done|exact hR)|(rw[J6 ‹_›] at f0;exact f0)
def Kgv (a:Int) (b:Ls) (c:Li) (d:Bt):=(F0 Xd (Z21 a b c d)).2
def Kgj (a:Int) (b:Ls) (c:Li) (d:Bt):=(Kgv a b c d).2
def Kf8 (a:Int) (b:Ls) (c:Li) (d:Bt):=(Kgj a b c d).2
def Kfw (a:Int) (b:Ls) (c:Li) (d:Bt):=(Kf8 a b c d).2
def Kci (a:List Reg) (b:Int) (c:Ls) (d:Li) (e:Bt):=(F0 (Za a) (Z21 b c d e)).2
def Kb8 (a:List Reg) (b:Int) (c:Ls) (d:Li) (e:Bt):=(Kci a b c d e).2
def Kbz (a:List Reg) (b:Int) (c:Ls) (d:Li) (e:Bt):=(Kb8 a b c d e).2
def Kbp (a:List Reg) (b:Int) (c:Ls) (d:Li) (e:Bt):=(Kbz a b c d e).2
theorem Jh1:wpFO Tryz.prog W84.g (na ()) (fun _=>na ()) (Sx.look ([(61,Tryz.f61),(99,Tryz.f99)]:List (Nat×Func))) Tryz.f75 Fg T (E,C,G) ((n,Jk,ns,vs,tx),()):=by
 refine(by kernel_rfl:(Jy (E,C,G)→Z34 E→Dk (Z21 n ns vs tx)→Jc (Z21 n ns vs tx)=0→Jji E C G n ns vs tx=0→Jav ns vs∧Br (Jc (Z21 n ns vs tx) !=0) (Sf true (Sf T ((E,C,G)=Ui (E,C,G) (Z21 n ns vs tx)∧Jc (Z21 n ns vs tx)=Kv (E,C,G) (Z21 n ns vs tx)))) ((Jy (E,C,G)∧Jc (Z21 n ns vs tx)=0)∧Br (Jji E C G n ns vs tx !=0) (Sf true (Sf T ((E,C,G)=Ui (E,C,G) (Z21 n ns vs tx)∧Jji E C G n ns vs tx=Kv (E,C,G) (Z21 n ns vs tx)))) (F8 ns vs∧Fi E∧Br false (Z55 C∧Jaw C G∧Sf true (Sf T ((E++[Z21 n ns vs tx],Jay C G)=Ui (E,C,G) (Z21 n ns vs tx)∧0=Kv (E,C,G) (Z21 n ns vs tx)))) (Br (Z87 G) (Xe G∧Jat G∧Jyf G vs∧Z80 vs∧H4 C G∧Sf true (Sf T ((E++[Z21 n ns vs tx],C++[Z21 n ns vs tx],G++[(Z76 vs,(Kci G n ns vs tx).1,(Kb8 G n ns vs tx).1,(Kbz G n ns vs tx).1,(Kbp G n ns vs tx).1,E2 (Kbp G n ns vs tx).2)])=Ui (E,C,G) (Z21 n ns vs tx)∧0=Kv (E,C,G) (Z21 n ns vs tx)))) (Jaz∧Jyn vs∧Z80 vs∧H4 C G∧Sf true (Sf T ((E++[Z21 n ns vs tx],C++[Z21 n ns vs tx],G++[(Z76 vs,(Kgv n ns vs tx).1,(Kgj n ns vs tx).1,(Kf8 n ns vs tx).1,(Kfw n ns vs tx).1,E2 (Kfw n ns vs tx).2)])=Ui (E,C,G) (Z21 n ns vs tx)∧0=Kv (E,C,G) (Z21 n ns vs tx))))))))=_).mp ?_
 delta Z6 Z21 Z32 Z34 Z43 Z45 Z55 Z76 Z80 Z87 Z98 Jji Fi Jc8 F8 F7 Jaz Xd Xe Zs Jay Jc5 H4 Kgv Jaf Kgj Jcq Jae Kf8 Jyn Lf Jax Kfw Le Dm Zx Jaw Jav Jau Jat Za Ha Kci Kb8 Jyf Kbz Kbp Br Iw Bd T2 Tw Sf Ln Gt E2 Jk
 intro hh hlt hsz hc ha
 obtain⟨u0,aE,aP⟩:=Jde (k:=Jk) (by kernel_rfl) hc ha
 obtain⟨hn,hv,hR,_,n1,n2,n3,hG,hV⟩:=Xw hh hc
 simp only[Ut,List.length_cons,List.length_nil] at hn hv u0
 have hs:Kh (Vs G) (n,Jk,ns,vs,tx)=(vs.getD 0 0,(F0 (Vs G) (n,Jk,ns,vs,tx)).2):=by simp only[Kh,doS,Ut]
 simp only[aE,aP,hs,hc,ha,hG,Xq,Jdz,Prod.eta]
 repeat' first|exact hV|exact hh|exact hR|exact hsz.2.2|apply And.intro|intro _
 all_goals first|trivial|omega|assumption|exact Nat.le_trans hR.nS (by decide)|exact Nat.le_trans hR.nO (by decide)|exact Nat.le_trans hR.nM (by decide)|exact Nat.le_trans hR.nX (by decide)|exact Nat.le_trans hR.nQ (by decide)|exact Nat.zero_le _|exact hsz.1|exact hsz.2.1|(rename_i h;have h:=of_decide_eq_true h;omega)|rfl|(rw[←J6 ‹_›];first|done|exact hR)
abbrev GG:Gam:=[(52,J02),(53,Yb.con Jk0),(98,Jui),(141,Jdo 140 Jie),(142,Jdo 108 Jcw),(143,Jdo 111 Jmu),(144,Jdo 143 Jgl),(145,Jdo 186 Ja5)]
theorem gG:Vb Tryz.prog GG:= .cons Kja (.cons Ki9 (.cons Ki7 (.cons Jzx (.cons Jzw (.cons Jzv (.cons Jzu (.cons Jzt (.nil _))))))))
def J04:Yb:={J3h with pre:=fun h (e,_)=>[Jy h,h.1.length<1000,Dk e,¬(Jc e=0∧Zw h e=0)]}
theorem Jrt (T:TypeId) (E C:List Ev) (G:List Reg) (n:Int) (k:ByteArray) (ns:List ByteArray) (vs:List Int) (tx:ByteArray):wpFO Tryz.prog GG (na ()) (fun _=>na ()) (Sx.look ([(61,Tryz.f61),(99,Tryz.f99)]:List (Nat×Func))) Tryz.f75 J04 T (E,C,G) ((n,k,ns,vs,tx),()):=by
 refine(by kernel_rfl:(Jy (E,C,G)→Z34 E→Dk (n,k,ns,vs,tx)→(Jc (n,k,ns,vs,tx)=0∧Zw (E,C,G) (n,k,ns,vs,tx)=0→False)→Jav ns vs∧Br (Jc (n,k,ns,vs,tx) !=0) (Sf true (Sf T ((E,C,G)=Ui (E,C,G) (n,k,ns,vs,tx)∧Jc (n,k,ns,vs,tx)=Kv (E,C,G) (n,k,ns,vs,tx)))) ((Jy (E,C,G)∧Jc (n,k,ns,vs,tx)=0)∧Br (Zw (E,C,G) (n,k,ns,vs,tx) !=0) (Sf true (Sf T ((E,C,G)=Ui (E,C,G) (n,k,ns,vs,tx)∧Zw (E,C,G) (n,k,ns,vs,tx)=Kv (E,C,G) (n,k,ns,vs,tx)))) (F8 ns vs∧Fi E∧Br (Lb k K3) (Z55 C∧Jaw C G∧Sf true (Sf T ((E++[(n,k,ns,vs,tx)],Jay C G)=Ui (E,C,G) (n,k,ns,vs,tx)∧0=Kv (E,C,G) (n,k,ns,vs,tx)))) (Br (Z87 G) (Xe G∧Jat G∧Jra 777 1) (Jaz∧Jra 777 1)))))=_).mp ?_
 delta Z6 Z34 Z43 Z55 Z87 Z98 Fi Jc8 F8 F7 Jaz Xd Xe Jay Jc5 Jaf Jae Lf Le Dm Zx Jaw Jav Jat Br Iw Bd T2 Tw Sf Ln Gt Lb K3
 intro hh hlt hsz hx
 have n1:E.length≤1000:=hh.nE
 have e1:Jc (n,k,ns,vs,tx)≠0→Kv (E,C,G) (n,k,ns,vs,tx)=Jc (n,k,ns,vs,tx):=fun h=>by unfold Kv;rw[if_pos h]
 have e2:¬Jc (n,k,ns,vs,tx)≠0→Kv (E,C,G) (n,k,ns,vs,tx)=Zw (E,C,G) (n,k,ns,vs,tx):=fun h=>by unfold Kv;rw[if_neg h]
 have e3:Kv (E,C,G) (n,k,ns,vs,tx)≠0→Ui (E,C,G) (n,k,ns,vs,tx)=(E,C,G):=fun h=>by unfold Ui;rw[if_neg h]
 refine⟨⟨hsz.1,hsz.2.1,hsz.2.2⟩,fun h=> ?_,fun h=>⟨⟨hh, ?_⟩,fun h2=> ?_,fun h2=> ?_⟩⟩
 ·have h:Jc (n,k,ns,vs,tx)≠0:=bne_iff_ne.1 h
  exact⟨rfl,rfl,(e3 (by rw[e1 h];exact h)).symm,(e1 h).symm⟩
 ·exact bne_eq_false_iff_eq.1 h
 ·have h:Jc (n,k,ns,vs,tx)=0:=bne_eq_false_iff_eq.1 h
  have h2:Zw (E,C,G) (n,k,ns,vs,tx)≠0:=bne_iff_ne.1 h2
  have e4:=e2 (by rw[h];simp)
  exact⟨rfl,rfl,(e3 (by rw[e4];exact h2)).symm,e4.symm⟩
 ·exact absurd ⟨bne_eq_false_iff_eq.1 h,bne_eq_false_iff_eq.1 h2⟩ hx
theorem Joh {f:FuncId} {c:Yb} {p1 p2:c.s.T→ATup c.args→List Prop} (h1:OkO Tryz.prog f {c with pre:=p1}) (h2:OkO Tryz.prog f {c with pre:=p2}) (h:∀x y,Kq (c.pre x y)→Kq (p1 x y)∨Kq (p2 x y)):OkO Tryz.prog f c:=
 ⟨h1.1,fun x y M R B w b T cells vals vs hB hMR hg hw hBb hMb hRb hT ho hv hpre ha=>(h x y hpre).elim (fun q=>h1.2 x y M R B w b T cells vals vs hB hMR hg hw hBb hMb hRb hT ho hv q ha) fun q=>h2.2 x y M R B w b T cells vals vs hB hMR hg hw hBb hMb hRb hT ho hv q ha⟩
theorem J7f (T:TypeId):∀(x:V7) (y:ATup [aEv]),wpFO Tryz.prog W84.g (na ()) (fun _=>na ()) (Sx.look ([(61,Tryz.f61),(99,Tryz.f99)]:List (Nat×Func))) Tryz.f75 Fg T x y
 |(E,C,G),((n,k,ns,vs,tx),())=>by
  refine Jjp (by kernel_rfl) fun hp=> ?_
  have hc:Jc (n,k,ns,vs,tx)=0:=hp.2.2.2.1
  rcases D2 (Y9 hc).kind with h|h|h|h|h|h|h|h|h|h|h<;>dsimp only at h<;>subst h
  ·exact Jm4 T E C G n ns vs tx
  ·exact Jf8 T E C G n ns vs tx
  ·exact Jlo T E C G n ns vs tx
  ·exact Jlp T E C G n ns vs tx
  ·exact Jlq T E C G n ns vs tx
  ·exact Jm5 T E C G n ns vs tx
  ·exact Jh4 T E C G n ns vs tx
  ·exact Jf9 T E C G n ns vs tx
  ·exact Jh3 T E C G n ns vs tx
  ·exact Jh2 T E C G n ns vs tx
  ·exact Jh1 T E C G n ns vs tx
theorem okK:OkO Tryz.prog 75 Fg:=Ks mixed W84.ok (by kernel_rfl) (by kernel_rfl) (Un (l:=([(61,Tryz.f61),(99,Tryz.f99)]:List (Nat×Func))) (List.forall_mem_cons.2 ⟨by kernel_rfl,List.forall_mem_cons.2 ⟨by kernel_rfl,by simp⟩⟩)) (fun _ _=>na ()) (fun _ _=>fun _=>na ()) fun T xx yy _=>J7f T xx yy
theorem okG:OkO Tryz.prog 75 J04:=Ks mixed gG (by kernel_rfl) (by kernel_rfl) (Un (l:=([(61,Tryz.f61),(99,Tryz.f99)]:List (Nat×Func))) (List.forall_mem_cons.2 ⟨by kernel_rfl,List.forall_mem_cons.2 ⟨by kernel_rfl,by simp⟩⟩)) (fun _ _=>na ()) (fun _ _=>fun _=>na ()) fun T xx yy _=>Jrt T xx.1 xx.2.1 xx.2.2 yy.1.1 yy.1.2.1 yy.1.2.2.1 yy.1.2.2.2.1 yy.1.2.2.2.2
theorem Kkw:Ok Tryz.prog 75 (Yb.con J3h):=Ye (Joh (c:=J3h) okK okG fun x y hp=>by
 by_cases h:Jc y.1=0∧Zw x y.1=0
 ·exact .inl ⟨hp.1,hp.2.1,hp.2.2,h.1,h.2⟩
 ·exact .inr ⟨hp.1,hp.2.1,hp.2.2,h⟩)
abbrev W85:=W84.add Kkw
theorem Zi {α:Type} {p:α→Bool} {m:List α}:∀{l:List α} {k:Nat},0≤Vt p l k→Vt p (l++m) k=Vt p l k
 |[],k,h=>by simp[Vt] at h
 | x :: l, k, h => by
  show(if p x=true then(k:Int) else Vt p (l++m) (k+1))=(if p x=true then(k:Int) else Vt p l (k+1))
  have h:0≤(if p x=true then(k:Int) else Vt p l (k+1)):=h
  by_cases hp:p x=true
  ·rw[if_pos hp,if_pos hp]
  ·rw[if_neg hp] at h
   rw[if_neg hp,if_neg hp,Zi h]
theorem Jfi {α:Type} {p:α→Bool} {y:α}:∀{l:List α} {i k:Nat},(∀x,l[i]? =some x→p y=p x)→Vt p (l.set i y) k=Vt p l k
 |[],_,_,_=>rfl
 |x::l,0,k,h=>by
  have:=h x rfl
  simp only[List.set_cons_zero]
  unfold Vt
  rw[this]
 |x::l,i+1,k,h=>by
  simp only[List.set_cons_succ]
  unfold Vt
  rw[Jfi fun z hz=>h z (by simpa using hz)]
theorem Jpf {α:Type} {l:List α} {i:Nat} {d x:α} (h:l[i]? =some x):l.getD i d=x:=by
 rw[List.getD_eq_getElem?_getD,h];rfl
theorem Jbq {α:Type} {l:List α} {i:Nat} {y x:α} (h:x∈l.set i y):x=y∨x∈l:=by
 rcases List.mem_or_eq_of_mem_set h with h|h
 ·exact .inr h
 ·exact .inl h
theorem Xf {α:Type} {l:List α} {y x:α} (h:x∈l++[y]):x∈l∨x=y:=by
 rcases List.mem_append.1 h with h|h
 ·exact .inl h
 ·exact .inr (by simpa using h)
theorem Vc {b:Bool} {c:Int} (hc:c≠0) (h:(bif b then c else 0)=0):b=false:=by
 cases b with
 |true=>exact absurd h hc
 |false=>rfl
theorem X4 {a b:Int} (h:Ja [a,b]=0):a=0∧b=0:=
 ⟨firstS_zero.1 h _ (List.mem_cons_self ..),firstS_zero.1 h _ (List.mem_cons_of_mem _ (List.mem_cons_self ..))⟩
theorem Lx {a b c:Int} (h:Ja [a,b,c]=0):a=0∧b=0∧c=0:=
 ⟨firstS_zero.1 h _ (by simp),firstS_zero.1 h _ (by simp),firstS_zero.1 h _ (by simp)⟩
theorem Jod {O:List Ord} {s:ByteArray} (h:0≤Uv O s):Jam O s∈O:=by
 have:=U2 (l:=O) (s:=s)
 exact Jf (by omega)
theorem Jvk {X:List Out} {s:ByteArray} (h:0≤K1 X s):Jbh X s∈X:=by
 have:=U0 (l:=X) (s:=s)
 exact Jf (by omega)
theorem Jib {S:List Sta} {s:ByteArray} (h:0≤J0 S s):Ll S s∈S:=by
 have:=Uo (l:=S) (s:=s)
 exact Jf (by omega)
theorem Jvj {Q:List Per} {s:ByteArray} (h:0≤Yi Q s):Jtw Q s∈Q:=by
 have:=U1 (l:=Q) (s:=s)
 exact Jf (by omega)
theorem Jf2.mono {S S':List Sta} {x:Ord} (h:Jf2 S x) (hs:∀s,0≤J0 S s→0≤J0 S' s):Jf2 S' x:=⟨h.span,h.pow,h.pri,h.trip,hs _ h.fr,hs _ h.tu⟩
theorem Jmq.mono {S S':List Sta} {x:Out} (h:Jmq S x) (hs:∀s,0≤J0 S s→0≤J0 S' s):Jmq S' x:=⟨h.span,h.rest,hs _ h.sta⟩
section
variable {tk st v:Int} {S:List Sta} {O:List Ord} {M:List Met} {X:List Out} {Q:List Per} {n:Int} {k tx:ByteArray} {ns:List ByteArray} {vs:List Int}
theorem Jlx (hr:J3 (tk,st,S,O,M,X,Q)) (hv:tk≤v∧v≤999999999) (hc:Jmk S vs=0) {a:ByteArray}:J3 (v,st,S++[(a,vs.getD 1 0,0)],O,M,X,Q):=by
 obtain⟨c1,c2⟩:=X4 hc
 have c1:=Je.1 c1
 have c2:=of_decide_eq_false (Vc (by decide) c2)
 have hs:∀s,0≤J0 S s→0≤J0 (S++[(a,vs.getD 1 0,0)]) s:=fun s h=>by unfold J0 at h⊢;rw[Zi h];exact h
 have h0:=hr.tk
 have h1:=hr.st
 dsimp only at h0 h1
 refine⟨by dsimp only;omega,by dsimp only;omega,by dsimp only;rw[List.length_append,List.length_singleton];omega,hr.nO,hr.nM,hr.nX,hr.nQ,fun x hx=> ?_,fun x hx=>(hr.ord x hx).mono hs,hr.met,fun x hx=>(hr.out x hx).mono hs,hr.per,hr.done⟩
 rcases Xf hx with h|rfl
 ·exact hr.sta x h
 ·exact⟨c1,Int.le_refl 0,by show(0:Int)≤1000;decide⟩
theorem Jrx (hr:J3 (tk,st,S,O,M,X,Q)) (hv:tk≤v∧v≤999999999) (hc:Jpw vs=0) {a:ByteArray} (ha:0≤J0 S a):J3 (v,st,S.set (J0 S a).toNat ((Ll S a).1,(Ll S a).2.1,vs.getD 1 0),O,M,X,Q):=by
 have c1:=Je.1 hc
 have hs:∀s,0≤J0 S s→0≤J0 (S.set (J0 S a).toNat ((Ll S a).1,(Ll S a).2.1,vs.getD 1 0)) s:=fun s h=>by
  unfold J0 at h⊢
  rw[Jfi fun x hx=> ?_]
  ·exact h
  ·have:=Jpf (d:=Jx1) hx
   show((Ll S a).1.toList==s.toList)=_
   unfold Ll J0
   rw[this]
 have h0:=hr.tk
 have h1:=hr.st
 dsimp only at h0 h1
 refine⟨by dsimp only;omega,by dsimp only;omega,by rw[List.length_set];exact hr.nS,hr.nO,hr.nM,hr.nX,hr.nQ,fun x hx=> ?_,fun x hx=>(hr.ord x hx).mono hs,hr.met,fun x hx=>(hr.out x hx).mono hs,hr.per,hr.done⟩
 rcases Jbq hx with rfl|h
 ·exact⟨(hr.sta _ (Jib ha)).lim,c1⟩
 ·exact hr.sta x h
theorem Jrz (hr:J3 (tk,st,S,O,M,X,Q)) (hv:tk≤v∧v≤999999999) (hm:M.length<10000) (ho:0≤Uv O (ns.getD 0 Jz)) (hb:∀i,i<4→0≤vs.getD i 0∧vs.getD i 0≤999999999) (hc:Jho O M ns vs=0):J3 (v,st,S,O,M++[(ns.getD 0 Jz,vs.getD 1 0,vs.getD 2 0,vs.getD 3 0)],X,Q):=by
 have h5:=Vc (by decide) (firstS_zero.1 hc _ (List.mem_cons_of_mem _ (List.mem_cons_of_mem _ (List.mem_cons_of_mem _ (List.mem_cons_of_mem _ (List.mem_cons_self ..))))))
 have h6:=bn1 h5
 have p1:=of_decide_eq_false h6.1
 have p2:=of_decide_eq_false h6.2
 have hp:1≤(Jam O (ns.getD 0 Jz)).2.2.2.2.1∧(Jam O (ns.getD 0 Jz)).2.2.2.2.1≤1000:=(hr.ord _ (Jod ho)).pow
 have h0:=hr.tk
 have h1:=hr.st
 dsimp only at h0 h1
 have b1:=hb 1 (by omega)
 have b2:=hb 2 (by omega)
 have b3:=hb 3 (by omega)
 refine⟨by dsimp only;omega,by dsimp only;omega,hr.nS,hr.nO,by dsimp only;rw[List.length_append,List.length_singleton];omega,hr.nX,hr.nQ,hr.sta,hr.ord,fun x hx=> ?_,hr.out,hr.per,fun x hx h e1 e2=> ?_⟩
 ·rcases Xf hx with h|rfl
  ·exact hr.met x h
  ·exact⟨b1,⟨b2.1,by dsimp only;omega⟩,⟨b3.1,by dsimp only;omega⟩⟩
 ·have:=hr.done x hx h e1 e2
  unfold Kj at this⊢
  dsimp only at this⊢
  rw[Zi this];exact this
theorem Jjv {e:Ev} (hv:EvV e) (hl:e.2.2.2.1.length=4) (hc:Yt e=0):Jlm (Uq e)∧e.2.2.2.1.getD 0 0≤(Uq e).1:=by
 have h:=Vc (by decide) hc
 have h1:=bn1 h
 have h2:=bn1 h1.1
 have e1:=of_decide_eq_false h2.1
 have e2:=of_decide_eq_false h2.2
 have e3:=of_decide_eq_false h1.2
 have v1:0≤(Uq e).1∧(Uq e).1≤999999999:=hv _ (Jf (by omega))
 have v2:0≤(Uq e).2∧(Uq e).2≤999999999:=hv _ (Jf (by omega))
 exact⟨⟨v1.1,by omega,v2.2,by omega⟩,by omega⟩
theorem Jry (hr:J3 (tk,st,S,O,M,X,Q)) (hv:tk≤v∧v≤999999999) (hvs:v=vs.getD 0 0) (hE:EvV (n,k,ns,vs,tx)) (hl:vs.length=4) (h1:0≤J0 S (ns.getD 1 Jz)) (h2:0≤J0 S (ns.getD 2 Jz)) (hc:L1 S O X (n,k,ns,vs,tx)=0):J3 (v,st,S,O++[(ns.getD 0 Jz,ns.getD 1 Jz,ns.getD 2 Jz,Uq (n,k,ns,vs,tx),vs.getD 3 0,(Ll S (ns.getD 1 Jz)).2.2,-1)],M,X,Q):=by
 have hk:¬Df (n,k,ns,vs,tx)≠0:=fun h=>by unfold L1 at hc;rw[if_pos h] at hc;exact h hc
 unfold L1 at hc
 rw[if_neg hk] at hc
 obtain⟨c1,c2⟩:=X4 hc
 have c2:=of_decide_eq_false (Vc (by decide) c2)
 obtain⟨d1,d2,d3⟩:=Lx (show Ja [_,Yt (n,k,ns,vs,tx),Jd (vs.getD 3 0) 1 1000]=0 from Decidable.of_not_not hk)
 have d3:=Je.1 d3
 obtain⟨sp,sv⟩:=Jjv hE hl d2
 have sv:vs.getD 0 0≤(Uq (n,k,ns,vs,tx)).1:=sv
 have g0:=hr.tk
 have g1:=hr.st
 dsimp only at g0 g1
 refine⟨by dsimp only;omega,by dsimp only;omega,hr.nS,by dsimp only;rw[List.length_append,List.length_singleton];omega,hr.nM,hr.nX,hr.nQ,hr.sta,fun x hx=> ?_,hr.met,hr.out,hr.per,fun x hx hh e1 e2=> ?_⟩
 ·rcases Xf hx with h|rfl
  ·exact hr.ord x h
  ·exact⟨sp,d3,(hr.sta _ (Jib h1)).pri,⟨Int.le_refl _,by show(-1:Int)≤999999999;decide⟩,h1,h2⟩
 ·rcases Xf hx with h|rfl
  ·exact hr.done x h hh e1 e2
  ·exfalso
   unfold Jv U5 at e1
   dsimp only at e1 e2
   cases h3:decide ((Uq (n,k,ns,vs,tx)).1≤hh) with
   |true=>have:=of_decide_eq_true h3;omega
   |false=>rw[h3] at e1;cases e1
theorem Jnq (hr:J3 (tk,st,S,O,M,X,Q)) (hv:tk≤v∧v≤999999999) (hE:EvV (n,k,ns,vs,tx)) (hl:vs.length=4) (h1:0≤J0 S (ns.getD 1 Jz)) (hc:Jck S O X (n,k,ns,vs,tx)=0):J3 (v,st,S,O,M,X++[(ns.getD 0 Jz,ns.getD 1 Jz,Uq (n,k,ns,vs,tx),vs.getD 3 0)],Q):=by
 have hk:¬Jhn S (n,k,ns,vs,tx)≠0:=fun h=>by unfold Jck at hc;rw[if_pos h] at hc;exact h hc
 unfold Jck at hc
 rw[if_neg hk] at hc
 obtain⟨c1,c2⟩:=X4 hc
 have c2:=of_decide_eq_false (Vc (by decide) c2)
 obtain⟨d2,d3⟩:=X4 (show Ja [Yt (n,k,ns,vs,tx),bif decide ((Ll S (ns.getD 1 Jz)).2.1≤vs.getD 3 0) then 3 else 0]=0 from Decidable.of_not_not hk)
 have d3:=of_decide_eq_false (Vc (by decide) d3)
 obtain⟨sp,sv⟩:=Jjv hE hl d2
 have hl3:(Ll S (ns.getD 1 Jz)).2.1≤1000:=(hr.sta _ (Jib h1)).lim.2
 have v3:0≤vs.getD 3 0∧vs.getD 3 0≤999999999:=hE _ (Jf (show 3<vs.length by omega))
 have hf:∀s,0≤K1 X s→0≤K1 (X++[(ns.getD 0 Jz,ns.getD 1 Jz,Uq (n,k,ns,vs,tx),vs.getD 3 0)]) s:=fun s h=>by unfold K1 at h⊢;rw[Zi h];exact h
 have g0:=hr.tk
 have g1:=hr.st
 dsimp only at g0 g1
 refine⟨by dsimp only;omega,by dsimp only;omega,hr.nS,hr.nO,hr.nM,by dsimp only;rw[List.length_append,List.length_singleton];omega,hr.nQ,hr.sta,hr.ord,hr.met,fun x hx=> ?_,fun x hx=>hf _ (hr.per x hx),hr.done⟩
 rcases Xf hx with h|rfl
 ·exact hr.out x h
 ·exact⟨sp,⟨v3.1,by dsimp only;omega⟩,h1⟩
theorem Jvb (hr:J3 (tk,st,S,O,M,X,Q)) (hv:tk≤vs.getD 0 0∧vs.getD 0 0≤999999999) (ho:0≤Uv O (ns.getD 0 Jz)) (hc:Jeb O ns vs=0):J3 (vs.getD 0 0,st,S,Jic O (ns.getD 0 Jz) (vs.getD 0 0),M,X,Q):=by
 have h1:=bn1 (Vc (by decide) hc)
 have c1:(Jam O (ns.getD 0 Jz)).2.2.2.2.2.2= -1:=bne_eq_false_iff_eq.1 h1.1
 have hm:=Jod ho
 have g0:=hr.tk
 have g1:=hr.st
 dsimp only at g0 g1
 have ox:Jf2 S (Jam O (ns.getD 0 Jz)):=hr.ord _ hm
 refine⟨by dsimp only;omega,by dsimp only;omega,hr.nS,by unfold Jic;rw[List.length_set];exact hr.nO,hr.nM,hr.nX,hr.nQ,hr.sta,fun x hx=> ?_,hr.met,hr.out,hr.per,fun x hx hh e1 e2=> ?_⟩
 ·rcases Jbq hx with rfl|h
  ·exact⟨ox.span,ox.pow,ox.pri,⟨by dsimp only;omega,hv.2⟩,ox.fr,ox.tu⟩
  ·exact hr.ord x h
 ·rcases Jbq hx with rfl|h
  ·refine hr.done _ hm hh ?_ e2
   unfold Jv at e1⊢
   rw[c1]
   have e1:(bif U5 (Jam O (ns.getD 0 Jz)).2.2.2.1 hh then _ else false)=true:=e1
   cases h3:U5 (Jam O (ns.getD 0 Jz)).2.2.2.1 hh with
   |true=>rfl
   |false=>rw[h3] at e1;cases e1
  ·exact hr.done x h hh e1 e2
theorem Jly (hr:J3 (tk,st,S,O,M,X,Q)) (hv:tk≤vs.getD 0 0∧vs.getD 0 0≤999999999) (ho:0≤K1 X (ns.getD 0 Jz)) (hc:Jec X Q ns vs=0):J3 (vs.getD 0 0,st,S,O,M,Jnr X (ns.getD 0 Jz) (vs.getD 0 0),Q):=by
 obtain⟨c1,c2,c3⟩:=Lx hc
 have c1:=of_decide_eq_false (Vc (by decide) c1)
 have c2:=of_decide_eq_false (Vc (by decide) c2)
 have hm:=Jvk ho
 have ox:Jmq S (Jbh X (ns.getD 0 Jz)):=hr.out _ hm
 have l1:=ox.span.lo
 have l2:=ox.span.len
 have g0:=hr.tk
 have g1:=hr.st
 dsimp only at g0 g1
 have hf:∀s,0≤K1 X s→0≤K1 (Jnr X (ns.getD 0 Jz) (vs.getD 0 0)) s:=fun s h=>by
  unfold Jnr
  unfold K1 at h⊢
  rw[Jfi fun x hx=> ?_]
  ·exact h
  ·have:=Jpf (d:=Job) hx
   show((Jbh X (ns.getD 0 Jz)).1.toList==s.toList)=_
   unfold Jbh K1
   rw[this]
 refine⟨by dsimp only;omega,by dsimp only;omega,hr.nS,hr.nO,hr.nM,by unfold Jnr;rw[List.length_set];exact hr.nX,hr.nQ,hr.sta,hr.ord,hr.met,fun x hx=> ?_,fun x hx=>hf _ (hr.per x hx),hr.done⟩
 rcases Jbq hx with rfl|h
 ·exact⟨⟨l1,by dsimp only;omega,hv.2,by dsimp only;omega⟩,ox.rest,ox.sta⟩
 ·exact hr.out x h
theorem Jnp (hr:J3 (tk,st,S,O,M,X,Q)) (hv:tk≤v∧v≤999999999) (ho:0≤K1 X (ns.getD 1 Jz)) (hc:Jed X Q ns vs=0):J3 (v,st,S,O,M,X,Q++[(ns.getD 0 Jz,ns.getD 1 Jz,true)]):=by
 have c2:=of_decide_eq_false (Vc (by decide) (X4 hc).2)
 have g0:=hr.tk
 have g1:=hr.st
 dsimp only at g0 g1
 refine⟨by dsimp only;omega,by dsimp only;omega,hr.nS,hr.nO,hr.nM,hr.nX,by dsimp only;rw[List.length_append,List.length_singleton];omega,hr.sta,hr.ord,hr.met,hr.out,fun x hx=> ?_,hr.done⟩
 rcases Xf hx with h|rfl
 ·exact hr.per x h
 ·exact ho
theorem Jno (hr:J3 (tk,st,S,O,M,X,Q)) (hv:tk≤v∧v≤999999999) {a:ByteArray} (ho:0≤Yi Q a):J3 (v,st,S,O,M,X,Jid Q a):=by
 have g0:=hr.tk
 have g1:=hr.st
 dsimp only at g0 g1
 refine⟨by dsimp only;omega,by dsimp only;omega,hr.nS,hr.nO,hr.nM,hr.nX,by unfold Jid;rw[List.length_set];exact hr.nQ,hr.sta,hr.ord,hr.met,hr.out,fun x hx=> ?_,hr.done⟩
 rcases Jbq hx with rfl|h
 ·exact hr.per (Jtw Q a) (Jvj ho)
 ·exact hr.per x h
theorem Jg4 {u:Int} {x:Ord}:∀{m:Nat} {a:Int},Je4 M u x a m=[]→∀h,a≤h→h<a+m→(Jv x h&&(decide (h<u)&&decide (Kj M x.1 h<0)))=false
 |0,a,_,h,h1,h2=>by omega
 | m + 1, a, e, h, h1, h2 => by
  unfold Je4 at e
  obtain⟨e1,e2⟩:=List.append_eq_nil_iff.1 e
  by_cases ha:h=a
  ·subst ha
   cases hb:Jv x h&&(decide (h<u)&&decide (Kj M x.1 h<0)) with
   |false=>rfl
   |true=>rw[hb] at e1;cases e1
  ·exact Jg4 e2 h (by omega) (by push_cast at h2;omega)
theorem Jg3 {u:Int}:∀{O:List Ord},Ur M u O=[]→∀x∈O,Jiu M u x=[]
 |[],_,x,hx=>by cases hx
 |y::l,e,x,hx=>by
  unfold Ur at e
  obtain⟨e1,e2⟩:=List.append_eq_nil_iff.1 e
  rcases List.mem_cons.1 hx with rfl|hx
  ·exact e1
  ·exact Jg3 e2 x hx
theorem Jps {x:Ord} {h:Int} (e:Jv x h=true):x.2.2.2.1.1≤h∧h<x.2.2.2.1.2:=by
 unfold Jv U5 at e
 cases h1:decide (x.2.2.2.1.1≤h) with
 |false=>rw[h1] at e;cases e
 |true=>
  cases h2:decide (h<x.2.2.2.1.2) with
  |false=>rw[h1,h2] at e;cases e
  |true=>exact⟨of_decide_eq_true h1,of_decide_eq_true h2⟩
theorem Jnn (hr:J3 (tk,st,S,O,M,X,Q)) (hv:tk≤vs.getD 0 0∧vs.getD 0 0≤999999999) (hc:Zu st O M X Q vs=0):J3 (vs.getD 0 0,vs.getD 1 0,S,O,M,X,Q):=by
 unfold Zu at hc
 cases h1:(bif decide (vs.getD 1 0≤st) then true else decide (vs.getD 0 0<vs.getD 1 0)) with
 |true=>rw[h1] at hc;cases hc
 |false=>
  rw[h1,cond_false] at hc
  have h2:=bn1 h1
  have d1:=of_decide_eq_false h2.1
  have d2:=of_decide_eq_false h2.2
  have h3:=of_decide_eq_false (bn1 (Vc (by decide) hc)).1
  have h4:Ur M (vs.getD 1 0) O=[]:=List.eq_nil_of_length_eq_zero (by omega)
  have g0:=hr.tk
  have g1:=hr.st
  dsimp only at g0 g1
  refine⟨by dsimp only;omega,by dsimp only;omega,hr.nS,hr.nO,hr.nM,hr.nX,hr.nQ,hr.sta,hr.ord,hr.met,hr.out,hr.per,fun x hx hh e1 e2=> ?_⟩
  have hi:=Jps e1
  have h5:=Jg4 (Jg3 h4 x hx) hh hi.1 (by omega)
  have e2:hh<vs.getD 1 0:=e2
  rw[e1,decide_eq_true e2,Bool.true_and,Bool.true_and] at h5
  have:=of_decide_eq_false h5
  show 0≤Kj M x.1 hh
  omega
end
theorem Ju9 {h:V7} {e:Ev} (hh:Jy h) (hm:(Vs h.2.2).2.2.2.2.1.length<10000) (hc:Jc e=0) (ha:Zw h e=0) (hk:(e.2.1.toList==K3.toList)=false):J3 (Kh (Vs h.2.2) e):=by
 obtain⟨n,k,ns,vs,tx⟩:=e
 have hE:=Y9 hc
 have eK:=V4 (h:=h) (n:=n) (k:=k) (ns:=ns) (vs:=vs) (tx:=tx) hk
 rw[ha] at eK
 obtain⟨_,z2,z3,z4,z5⟩:=Jhv eK.symm
 have hr:=Jdy hh
 clear eK ha z4
 generalize Vs h.2.2=r at*
 obtain⟨tk,st,S,O,M,X,Q⟩:=r
 have z2:¬vs.getD 0 0<tk:=z2
 have hm:M.length<10000:=hm
 have hn:ns.length=(Kz k).1.length:=hE.nn
 have hvl:(vs.length:Int)=(Kz k).2.1:=hE.nv
 have hx:∀i,i<vs.length→(0≤vs.getD i 0∧vs.getD i 0≤999999999):=fun i hi=>hE.val _ (Jf hi)
 have hV:EvV (n,k,ns,vs,tx):=hE.val
 have hkd:=D2 hE.kind
 dsimp only at hkd hk
 clear hE hc hh
 rcases hkd with h|h|h|h|h|h|h|h|h|h|h<;>subst h
 ·exact absurd hk (by rw[show(K3.toList==K3.toList)=true from by kernel_rfl];decide)
 ·simp only[Yk,List.length_cons,List.length_nil] at hn hvl z3
  simp only[ckS,Yk] at z5
  obtain⟨k0,z3⟩:=J2 z3
  have e:Kh (tk,st,S,O,M,X,Q) (n,J1,ns,vs,tx)=(vs.getD 0 0,(Jce (tk,st,S,O,M,X,Q) (n,J1,ns,vs,tx)).2):=by unfold Kh doS;simp only[Yk]
  rw[e]
  have hv:tk≤vs.getD 0 0∧vs.getD 0 0≤999999999:=⟨by omega,(hx 0 (by omega)).2⟩
  exact Jlx hr hv z5
 ·simp only[Ht,List.length_cons,List.length_nil] at hn hvl z3
  simp only[ckS,Ht] at z5
  obtain⟨k0,z3⟩:=J2 z3
  have e:Kh (tk,st,S,O,M,X,Q) (n,Uh,ns,vs,tx)=(vs.getD 0 0,(Jcb (tk,st,S,O,M,X,Q) (n,Uh,ns,vs,tx)).2):=by unfold Kh doS;simp only[Ht]
  rw[e]
  have hv:tk≤vs.getD 0 0∧vs.getD 0 0≤999999999:=⟨by omega,(hx 0 (by omega)).2⟩
  exact Jrx hr hv z5 (Jst (k0 rfl))
 ·simp only[Uc,List.length_cons,List.length_nil] at hn hvl z3
  simp only[ckS,Uc] at z5
  obtain⟨k0,z3⟩:=J2 z3
  obtain⟨k1,z3⟩:=J2 z3
  obtain⟨k2,z3⟩:=J2 z3
  have e:Kh (tk,st,S,O,M,X,Q) (n,Ka,ns,vs,tx)=(vs.getD 0 0,(F1 (tk,st,S,O,M,X,Q) (n,Ka,ns,vs,tx)).2):=by unfold Kh doS;simp only[Uc]
  rw[e]
  have hv:tk≤vs.getD 0 0∧vs.getD 0 0≤999999999:=⟨by omega,(hx 0 (by omega)).2⟩
  exact Jry hr hv rfl hV (by omega) (Jst (k1 rfl)) (Jst (k2 rfl)) z5
 ·simp only[Vl,List.length_cons,List.length_nil] at hn hvl z3
  simp only[ckS,Vl] at z5
  obtain⟨k0,z3⟩:=J2 z3
  have e:Kh (tk,st,S,O,M,X,Q) (n,Kn,ns,vs,tx)=(vs.getD 0 0,(F2 (tk,st,S,O,M,X,Q) (n,Kn,ns,vs,tx)).2):=by unfold Kh doS;simp only[Vl]
  rw[e]
  have hv:tk≤vs.getD 0 0∧vs.getD 0 0≤999999999:=⟨by omega,(hx 0 (by omega)).2⟩
  exact Jrz hr hv hm (J3e (k0 rfl)) (fun i hi=>hx i (by omega)) z5
 ·simp only[D5,List.length_cons,List.length_nil] at hn hvl z3
  simp only[ckS,D5] at z5
  obtain⟨k0,z3⟩:=J2 z3
  have e:Kh (tk,st,S,O,M,X,Q) (n,Zz,ns,vs,tx)=(vs.getD 0 0,(Jca (tk,st,S,O,M,X,Q) (n,Zz,ns,vs,tx)).2):=by unfold Kh doS;simp only[D5]
  rw[e]
  have hv:tk≤vs.getD 0 0∧vs.getD 0 0≤999999999:=⟨by omega,(hx 0 (by omega)).2⟩
  exact Jvb hr hv (J3e (k0 rfl)) z5
 ·simp only[X2,List.length_cons,List.length_nil] at hn hvl z3
  simp only[ckS,X2] at z5
  obtain⟨k0,z3⟩:=J2 z3
  obtain⟨k1,z3⟩:=J2 z3
  have e:Kh (tk,st,S,O,M,X,Q) (n,Ul,ns,vs,tx)=(vs.getD 0 0,(Jcd (tk,st,S,O,M,X,Q) (n,Ul,ns,vs,tx)).2):=by unfold Kh doS;simp only[X2]
  rw[e]
  have hv:tk≤vs.getD 0 0∧vs.getD 0 0≤999999999:=⟨by omega,(hx 0 (by omega)).2⟩
  exact Jnq hr hv hV (by omega) (Jst (k1 rfl)) z5
 ·simp only[Yl,List.length_cons,List.length_nil] at hn hvl z3
  simp only[ckS,Yl] at z5
  obtain⟨k0,z3⟩:=J2 z3
  have e:Kh (tk,st,S,O,M,X,Q) (n,Kt,ns,vs,tx)=(vs.getD 0 0,(Jcc (tk,st,S,O,M,X,Q) (n,Kt,ns,vs,tx)).2):=by unfold Kh doS;simp only[Yl]
  rw[e]
  have hv:tk≤vs.getD 0 0∧vs.getD 0 0≤999999999:=⟨by omega,(hx 0 (by omega)).2⟩
  exact Jly hr hv (J3d (k0 rfl)) z5
 ·simp only[X1,List.length_cons,List.length_nil] at hn hvl z3
  simp only[ckS,X1] at z5
  obtain⟨k0,z3⟩:=J2 z3
  obtain⟨k1,z3⟩:=J2 z3
  have e:Kh (tk,st,S,O,M,X,Q) (n,Uk,ns,vs,tx)=(vs.getD 0 0,(Jcf (tk,st,S,O,M,X,Q) (n,Uk,ns,vs,tx)).2):=by unfold Kh doS;simp only[X1]
  rw[e]
  have hv:tk≤vs.getD 0 0∧vs.getD 0 0≤999999999:=⟨by omega,(hx 0 (by omega)).2⟩
  exact Jnp hr hv (J3d (k1 rfl)) z5
 ·simp only[X0,List.length_cons,List.length_nil] at hn hvl z3
  simp only[ckS,X0] at z5
  obtain⟨k0,z3⟩:=J2 z3
  have e:Kh (tk,st,S,O,M,X,Q) (n,Uj,ns,vs,tx)=(vs.getD 0 0,(Ji2 (tk,st,S,O,M,X,Q) (n,Uj,ns,vs,tx)).2):=by unfold Kh doS;simp only[X0]
  rw[e]
  have hv:tk≤vs.getD 0 0∧vs.getD 0 0≤999999999:=⟨by omega,(hx 0 (by omega)).2⟩
  exact Jno hr hv (Kjd (k0 rfl))
 ·simp only[Ut,List.length_cons,List.length_nil] at hn hvl z3
  simp only[ckS,Ut] at z5
  have e:Kh (tk,st,S,O,M,X,Q) (n,Jk,ns,vs,tx)=(vs.getD 0 0,(F0 (tk,st,S,O,M,X,Q) (n,Jk,ns,vs,tx)).2):=by unfold Kh doS;simp only[Ut]
  rw[e]
  have hv:tk≤vs.getD 0 0∧vs.getD 0 0≤999999999:=⟨by omega,(hx 0 (by omega)).2⟩
  exact Jnn hr hv z5
set_option maxHeartbeats 20000000
theorem Jwi {r:Reg} {e:Ev}:(doS r e).2.2.2.2.1.length≤r.2.2.2.2.1.length+1:=by
 obtain⟨tk,st,S,O,M,X,Q⟩:=r
 obtain⟨n,k,ns,vs,tx⟩:=e
 unfold doS
 split<;>first|exact Nat.le_succ _|(show(M++[_]).length≤M.length+1;simp)
structure Jct (h:V7):Prop where
 ok:Jy h
 met:∀r∈h.2.2,r.2.2.2.2.1.length≤h.1.length
theorem Jvo {h:V7} (hi:Jct h):(Vs h.2.2).2.2.2.2.1.length≤h.1.length:=by
 unfold Vs
 by_cases h0:0<h.2.2.length
 ·exact hi.met _ (Jf (by omega))
 ·have:h.2.2=[]:=List.eq_nil_of_length_eq_zero (by omega)
  rw[this];exact Nat.zero_le _
theorem add_zero {h:V7} {e:Ev} (ha:Kv h e=0):Jc e=0∧Zw h e=0:=by
 unfold Kv at ha
 by_cases hc:Jc e≠0
 ·rw[if_pos hc] at ha;exact absurd ha hc
 ·rw[if_neg hc] at ha;exact⟨Decidable.of_not_not hc,ha⟩
theorem Jqz {h:V7} {e:Ev} (hi:Jct h) (hl:h.1.length<1000) (ha:Kv h e=0):Jct (Jf1 h e):=by
 obtain⟨hc,hacc⟩:=add_zero ha
 obtain⟨E,C,G⟩:=h
 obtain⟨n1,n2,n3,hr⟩:=hi.ok
 have hm:=Jvo hi
 dsimp only at n1 n2 n3 hr hl hm
 cases hk:e.2.1.toList==K3.toList with
 |true=>
  unfold Jf1
  rw[hk,cond_true]
  refine⟨⟨by simp;omega,by simp;omega,by simp;omega,fun r hx=>hr r (List.mem_of_mem_take hx)⟩,fun r hx=> ?_⟩
  have:r.2.2.2.2.1.length≤E.length:=hi.met r (List.mem_of_mem_take hx)
  simp only[List.length_append,List.length_singleton]
  omega
 | false =>
  have hs:=Ju9 hi.ok (Nat.lt_of_le_of_lt hm (by omega)) hc hacc hk
  unfold Jf1
  rw[hk,cond_false]
  refine⟨⟨by simp;omega,by simp;omega,by simp;omega,fun r hx=> ?_⟩,fun r hx=> ?_⟩
  ·rcases Xf hx with h|rfl
   ·exact hr r h
   ·exact hs
  ·rcases Xf hx with h|rfl
   ·have:r.2.2.2.2.1.length≤E.length:=hi.met r h
    simp only[List.length_append,List.length_singleton]
    omega
   ·have:=Jwi (r:=Vs G) (e:=e)
    simp only[List.length_append,List.length_singleton]
    show(doS (Vs G) e).2.2.2.2.1.length≤_
    omega
theorem Jf0 {h:V7} {e:Ev}:(Jf1 h e).1.length=h.1.length+1:=by
 unfold Jf1
 cases e.2.1.toList==K3.toList<;>simp
def Jdi:V7:=([],[],[])
theorem Dd:Jct Jdi:=⟨⟨by decide,by decide,rfl,fun _ h=>(by cases h)⟩,fun _ h=>(by cases h)⟩
def Jdd:V7→List Ev→V7×Int×Int
 |h,[]=>(h,0,0)
 |h,e::l=>if Kv h e=0 then Jdd (Jf1 h e) l else(h,h.1.length+1,Kv h e)
def Jp (l:List Ev):V7×Int×Int:=if 1000<l.length then(Jdi,0,5) else Jdd Jdi l
def Kd (l:List Ev):Reg:=if(Jp l).2.2=0 then Vs (Jp l).1.2.2 else Fr
def lOk (l:List Ev):Prop:=l.length≤1000000∧∀e∈l,Dk e
abbrev Kka:List SC:=[.int .i64 0, .int .i64 0, .val (.slice none 0 0), .val (.slice none 0 0), .val (.slice none 0 0), .val (.slice none 0 0), .val (.slice none 0 0)]
def Kmn:Con:={args:=[aS, .ref 100 Jrg],ress:=[I],owns:=[],pre:=fun(_,r,_)=>[J3 r],spec:=fun(s,r,_)=>(bif !Ym r 0 s then 10 else 0,())}
theorem Kk8:Ok Tryz.prog 63 Kmn:=okW W85 Tryz.f63 na fun xx=>by
 obtain⟨(s:ByteArray),⟨(tk:Int),(st:Int),(S:List Sta),(O:List Ord),(M:List Met),(X:List Out),(Q:List Per)⟩,_⟩:=xx
 refine(by kernel_rfl:(Uf tk st S O M X Q→Uf tk st S O M X Q∧(bif !Ym (tk,st,S,O,M,X,Q) (0:Int) s then(10:Int) else(0:Int))=bif !Ym (tk,st,S,O,M,X,Q) (0:Int) s then(10:Int) else(0:Int))=_).mp ?_
 delta Uf
 intro hr
 exact⟨hr,rfl⟩
abbrev W86:=W85.add Kk8
def opE (l:List Ev) (ns:List ByteArray):Int:=if(Jp l).2.2=0 then Ja (ns.map fun s=>bif !Ym (Kd l) 0 s then 10 else 0) else(Jp l).2.2
def J9y:Con:={args:=[.val false (.list 67 sEv), .val false (.list 9 .str)],ress:=[(true,Jrg),I],owns:=[],pre:=fun(l,ns,_)=>[lOk l,ns.length≤1000000],spec:=fun(l,ns,_)=>(Kd l,opE l ns,())}
abbrev Jw8 (l:List Ev) (ns:List ByteArray):Ann:={X:=V7×Nat,σ:=fun(h,k)=>⟨9,[(5, .one (.ptr 4 0)),(14, .one (.sl 0)),(15, .one (.int .i64 l.length)),(16, .one (.int .i64 k))],[(0, .imm 67 sEv l),(1, .imm 9 .str ns),(2, .box 100 Kka),(3, .sus [(1, .one (.sl 1)),(4, .one (.ptr 2 0))]),(4, .box 155 [.sl 6, .sl 7, .sl 8]),(6, .own 67 sEv h.1),(7, .own 67 sEv h.2.1),(8, .own 100 Jrg h.2.2)]⟩,inv:=fun(h,k)=>Jct h∧h.1.length=k∧k≤l.length∧l.length≤1000∧Jdd h (l.drop k)=Jp l,mu:=fun(_,k)=>l.length-k}
def Jq6:=Value.slice none 0 0
def Jxs (a:V7×Nat):=(a.1.1,E2 a.1.2)
def J2h (a:List Ev) (b:V7×Nat):=(List.getD a b.2 Jh0).2
def J19 (a:List Ev):=Xd=Kd a
def J5o (a:(List Ev×List Ev×List Reg)×Nat):=List.length a.1.1=0∧List.length a.1.2.1=0∧List.length a.1.2.2=0
def Kfn (a:V7×Nat):=Gt a.1.2.2 (Ln a.1.2.2-1) Xd
def Kfg (a:V7×Nat):=(Kfn a).2
def Kfe (a:V7×Nat):=(Kfg a).2
def Kfc (a:V7×Nat):=(Kfe a).2
def Ke6 (a:V7×Nat):=(Kfc a).2
def J43 (a:V7×Nat) (b:List Ev):=Jct a.1∧List.length a.1.1=a.2∧a.2≤List.length b∧List.length b≤1000∧Jdd a.1 (List.drop a.2 b)=Jp b
def J11 (a:(List Ev×List Ev×List Reg)×Nat) (b:List Ev):=Jct a.1∧List.length a.1.1=a.2∧a.2≤List.length b∧List.length b≤1000∧Jdd a.1 (List.drop a.2 b)=Jp b
def Keo (a:Ls):=List.map (fun(x:ByteArray)=>match !Ym Xd (0:Int) x with|true=>(10:Int)|false=>(0:Int)) a
def J4i (a:(List Ev×List Ev×List Reg)×Nat) (b:List Ev) (c:V7×Nat):=J11 a b∧List.length b-a.2<List.length b-c.2
def J1n (a:List Ev) (b:V7×Nat):=((List.getD a b.2 Jh0).1,(J2h a b).1,(J2h a b).2.1,E2 (J2h a b).2.2)
def J1m (a:V7×Nat) (b:List Ev):=Kv (Jxs a) (J1n b a)
def J38 (a:V7×Nat) (b:List Ev):=Ui (Jxs a) (J1n b a)
def J37 (a:V7×Nat) (b:List Ev):=(J38 a b).2
def J34 (a:V7×Nat) (b:List Ev):=Jy (Jxs a)∧List.length a.1.1<1000∧Dk (J1n b a)
def J1l (a:V7×Nat) (b:List Ev):=J1m a b !=0
def J3x (a:V7×Nat):=((Kfn a).1,(Kfg a).1,(Kfe a).1,(Kfc a).1,(Ke6 a).1,E2 (Ke6 a).2)
def Kbk (a:V7×Nat) (b:Ls):=List.map (fun(x:ByteArray)=>match !Ym (J3x a) (0:Int) x with|true=>(10:Int)|false=>(0:Int)) b
def J3q (a:V7×Nat) (b:List Ev) (c:(List Ev×List Ev×List Reg)×Nat):=(J38 a b).1=c.1.1∧(J37 a b).1=c.1.2.1∧(J37 a b).2=c.1.2.2
theorem Kls:Ok Tryz.prog 37 J9y:=Jvl W86 Tryz.f37 (Un (l:=([(51,Tryz.f51),(61,Tryz.f61)]:List (Nat×Func))) (List.forall_mem_cons.2 ⟨by kernel_rfl,List.forall_mem_cons.2 ⟨by kernel_rfl,by simp⟩⟩)) (fun xx=>na ()) (fun xx=>fun f id=>if f=51 then some (Jw8 xx.1 xx.2.1) else none) fun xx=>by
 obtain⟨(l:List Ev),(ns:List ByteArray),_⟩:=xx
 refine(by kernel_rfl:(lOk l→Z98 ns→Br (decide (1000<Ln l)) (Br true (Sf true (J19 l∧5=opE l ns)) False) (∃(x:(List Ev×List Ev×List Reg)×Nat),Si (Ln l) (0=Nc x.2∧Sf l (Sf ns (Si 0 (Si 0 (Sf Jq6 (Sf Jq6 (Sf Jq6 (Sf Jq6 (Sf Jq6 (J5o x))))))))))∧J11 x l∧∀(x:V7×Nat),J43 x l→Br (decide (Nc x.2<Ln l)) (Tw (Bd (Nc x.2) (Ln l))∧J34 x l∧Br (J1l x l) (Iw (Nc x.2+1)∧Br (J1l x l) (Sf true (J19 l∧J1m x l=opE l ns)) False) (Iw (Nc x.2+1)∧∃(y:(List Ev×List Ev×List Reg)×Nat),Si (Ln l) (Nc x.2+1=Nc y.2∧Sf l (Sf ns (Si 0 (Si 0 (Sf Jq6 (Sf Jq6 (Sf Jq6 (Sf Jq6 (Sf Jq6 (J3q x l y))))))))))∧J4i y l x)) (Br false (Sf true (J19 l∧0=opE l ns)) (Br (decide (0<Ln x.1.2.2)) ((Iw (Ln x.1.2.2-1)∧Tw (Bd (Ln x.1.2.2-1) (Ln x.1.2.2)))∧(Z98 ns∧(∀(x_1:ByteArray),Jc8 ns x_1→J3 (J3x x))∧List.length (Kbk x ns)≤1000000)∧Sf true (J3x x=Kd l∧Ja (Kbk x ns)=opE l ns)) ((Z98 ns∧(∀(x:ByteArray),Jc8 ns x→Zs)∧List.length (Keo ns)≤1000000)∧Sf true (J19 l∧Ja (Keo ns)=opE l ns))))))=_).mp ?_
 delta Z98 Jq6 Jxs Jh0 Jc8 J2h F7 Xd Zs J19 J5o Kfn Kfg Kfe Kfc Ke6 J43 J11 Keo J4i J1n J1m J38 J37 J34 J1l J3x Kbk J3q Br Iw Bd Tw Sf Si Ln Nc Gt B0 E2
 intro hl hns
 refine⟨fun h=> ?_,fun h=> ?_⟩
 ·have e:Jp l=(Jdi,0,5):=by unfold Jp;rw[if_pos (by have:=of_decide_eq_true h;omega)]
  refine⟨fun _=>⟨rfl, ?_, ?_⟩,fun h=>by cases h⟩
  ·unfold Kd;rw[e];rfl
  ·unfold opE;rw[e];rfl
 have hn:l.length≤1000:=by have:=of_decide_eq_false h;omega
 have e0:Jp l=Jdd Jdi l:=by unfold Jp;rw[if_neg (by omega)]
 refine⟨(Jdi,(0:Nat)),⟨rfl,rfl,rfl,rfl,rfl,rfl,rfl,rfl,rfl,rfl,rfl,rfl,rfl,rfl⟩,⟨Dd,rfl,Nat.zero_le _,hn,e0.symm⟩,fun(x:V7×Nat) hx=>⟨fun h1=> ?_,fun h1=> ?_⟩⟩
 ·obtain⟨g,k⟩:=x
  obtain⟨hi,hk,hk2,_,hrun⟩:=hx
  dsimp only at hi hk hk2 hrun
  have hlt:k<l.length:=by simpa using h1
  rw[V5 (d:=ev0) hlt,Jdd] at hrun
  have hz:=hl.2 _ (Jf (d:=ev0) hlt)
  refine⟨⟨⟨by dsimp only;omega,by dsimp only;omega⟩,by dsimp only;omega,by dsimp only;omega⟩,⟨hi.ok,by show g.1.length<1000;omega,hz⟩,fun h2=>⟨by dsimp only;omega,fun h3=> ?_,fun h3=> ?_⟩,fun h2=>⟨by dsimp only;omega,(Jf1 g (l.getD k ev0),k+1), ?_,⟨?_, ?_,by dsimp only;omega,hn, ?_⟩,by dsimp only;omega⟩⟩
  ·have h2:Kv g (l.getD k ev0)≠0:=bne_iff_ne.1 h2
   rw[if_neg h2] at hrun
   refine⟨rfl, ?_, ?_⟩
   ·unfold Kd;rw[←hrun];dsimp only;rw[if_neg h2];rfl
   ·unfold opE;rw[←hrun];dsimp only;rw[if_neg h2];rfl
  ·have h2:Kv g (l.getD k ev0)≠0:=bne_iff_ne.1 h2
   exact absurd (bne_eq_false_iff_eq.1 h3) h2
  ·have h2:Kv g (l.getD k ev0)=0:=bne_eq_false_iff_eq.1 h2
   have eP:Ui g (l.getD k ev0)=Jf1 g (l.getD k ev0):=by unfold Ui;rw[if_pos h2]
   refine⟨rfl,by simp,rfl,rfl,rfl,rfl,rfl,rfl,rfl,rfl,rfl, ?_, ?_, ?_⟩
   ·show(Ui g (l.getD k ev0)).1=_;rw[eP]
   ·show(Ui g (l.getD k ev0)).2.1=_;rw[eP]
   ·show(Ui g (l.getD k ev0)).2.2=_;rw[eP]
  ·exact Jqz hi (by omega) (bne_eq_false_iff_eq.1 h2)
  ·show(Jf1 g (l.getD k ev0)).1.length=k+1
   rw[Jf0,hk]
  ·have h2:Kv g (l.getD k ev0)=0:=bne_eq_false_iff_eq.1 h2
   rw[if_pos h2] at hrun
   exact hrun
 ·obtain⟨g,k⟩:=x
  obtain⟨hi,hk,hk2,_,hrun⟩:=hx
  dsimp only at hi hk hk2 hrun
  have hlt:¬k<l.length:=by simpa using h1
  have:k=l.length:=by omega
  rw[this,List.drop_length,Jdd] at hrun
  have eR:Kd l=Vs g.2.2:=by unfold Kd;rw[←hrun];rfl
  have hR:=Jdy hi.ok
  have hGl:((g.2.2.length:Int)-1).toNat=g.2.2.length-1:=by omega
  have hb:g.2.2.length≤1000:=by have:=hi.ok.nG;have:=hi.ok.nC;have:=hi.ok.nE;omega
  have eO:opE l ns=Ja (ns.map fun s=>bif !Ym (Vs g.2.2) 0 s then 10 else 0):=by unfold opE;rw[←hrun,eR];rfl
  refine⟨fun f=>(by cases f),fun _=>⟨fun h2=> ?_,fun h2=> ?_⟩⟩
  ·have h2:(0:Int)<g.2.2.length:=of_decide_eq_true h2
   dsimp only
   rw[hGl]
   exact⟨⟨⟨by omega,by omega⟩,⟨by omega,by omega⟩,by omega,by omega⟩,⟨hns,fun _ _=>hR,by rw[List.length_map];exact hns⟩,rfl,eR.symm,eO.symm⟩
  ·have e1:=J6 h2
   rw[e1] at eR eO hR
   exact⟨⟨hns,fun _ _=>hR,by rw[List.length_map];exact hns⟩,rfl,eR.symm,eO.symm⟩
abbrev W87:=W86.add Kls
theorem Jnx:∀{l:List Ev} {h:V7},Jct h→h.1.length+l.length≤1000→Jct (Jdd h l).1
 |[],_,hi,_=>hi
 | e :: l, h, hi, hl => by
  unfold Jdd
  simp only[List.length_cons] at hl
  by_cases ha:Kv h e=0
  ·rw[if_pos ha]
   exact Jnx (Jqz hi (by omega) ha) (by rw[Jf0];omega)
  ·rw[if_neg ha];exact hi
theorem Jn4 {l:List Ev}:Jct (Jp l).1:=by
 unfold Jp
 by_cases h:1000<l.length
 ·rw[if_pos h];exact Dd
 ·rw[if_neg h];exact Jnx Dd (by show 0+l.length≤1000;omega)
theorem Du {l:List Ev}:J3 (Kd l):=by
 unfold Kd
 by_cases h:(Jp l).2.2=0
 ·rw[if_pos h];exact Jdy Jn4.ok
 ·rw[if_neg h];exact Jdy Dd.ok
def Ja7 (l:List Ev) (s:ByteArray) (h:Int):Int:=Ja [opE l [s],Jd h 0 999999999]
def Jes (l:List Ev) (s:ByteArray) (h:Int):Int:=if Ja7 l s h=0 then Xm (Kd l).2.2.1 (Kd l).2.2.2.1 (Kd l).2.2.2.2.2.1 s h else 0
def Jwl:Con:={args:=[.val false (.list 67 sEv),aS,aI],ress:=[I,I],owns:=[],pre:=fun(l,_)=>[lOk l],spec:=fun(l,s,h,_)=>(Jes l s h,Ja7 l s h,())}
theorem Jzq {l:List Ev} {s:ByteArray} (h:opE l [s]=0):0≤J0 (Kd l).2.2.1 s:=by
 unfold opE at h
 by_cases h0:(Jp l).2.2=0
 ·rw[if_pos h0] at h
  have h1:=firstS_zero.1 h _ (List.mem_map_of_mem (List.mem_cons_self ..))
  have h2:=Vc (by decide) h1
  exact Jst (by simpa using h2)
 ·rw[if_neg h0] at h;exact absurd h h0
def Jy7 (a:Int):=[Z64 a]
def Jq2 (a:List Ev):=J3 ((Kd a).1,(Kd a).2.1,(Kd a).2.2.1,(Kd a).2.2.2.1,(Kd a).2.2.2.2.1,E2 (Kd a).2.2.2.2.2)
theorem Kmi:Ok Tryz.prog 10 Jwl:=okW W87 Tryz.f10 na fun xx=>by
 obtain⟨(l:List Ev),(s:ByteArray),(h:Int),_⟩:=xx
 refine(by kernel_rfl:(lOk l→(lOk l∧1≤1000000)∧2≤1000000∧Br (Ja (opE l [s]::Jy7 h) !=0) (0=Jes l s h∧Ja (opE l [s]::Jy7 h)=Ja7 l s h) ((Jq2 l∧0≤J0 (Kd l).2.2.1 s)∧Xm (Kd l).2.2.1 (Kd l).2.2.2.1 (Kd l).2.2.2.2.2.1 s h=Jes l s h∧0=Ja7 l s h))=_).mp ?_
 delta Z64 Jy7 Jq2 Br E2
 intro hl
 refine⟨⟨hl,by decide⟩,by decide,fun e=> ?_,fun e=> ?_⟩
 ·have e:Ja7 l s h≠0:=bne_iff_ne.1 e
  exact⟨by unfold Jes;rw[if_neg e],rfl⟩
 ·have e:Ja7 l s h=0:=bne_eq_false_iff_eq.1 e
  exact⟨⟨Du,Jzq (X4 e).1⟩,by unfold Jes;rw[if_pos e],e.symm⟩
abbrev W88:=W87.add Kmi
def Jbn (l:List Ev) (h:Int):Int:=Ja [opE l [],Jd h 0 999999999]
def Xp (l:List Ev) (h:Int):List Gap×Int:=if Jbn l h=0 then(if 256<(Ur (Kd l).2.2.2.2.1 h (Kd l).2.2.2.1).length then([],5) else(Ur (Kd l).2.2.2.2.1 h (Kd l).2.2.2.1,0)) else([],Jbn l h)
def Jp5:Con:={args:=[.val false (.list 67 sEv),aI],ress:=[(false, .list 49 Jx2),I],owns:=[],pre:=fun(l,_)=>[lOk l],spec:=fun(l,h,_)=>((Xp l h).1,(Xp l h).2,())}
def J6m (a:List Ev) (b:Int):=Ja (opE a []::Jy7 b)
def J30 (a:List Ev) (b:Int):=lOk a→(lOk a∧0≤1000000)∧2≤1000000∧Br (J6m a b !=0) (Z36=(Xp a b).1∧J6m a b=(Xp a b).2) (Jq2 a∧Br (decide (256<Ln (Ur (Kd a).2.2.2.2.1 b (Kd a).2.2.2.1))) (Z36=(Xp a b).1∧5=(Xp a b).2) (Ur (Kd a).2.2.2.2.1 b (Kd a).2.2.2.1=(Xp a b).1∧0=(Xp a b).2))
theorem Kmg:Ok Tryz.prog 12 Jp5:=okW W88 Tryz.f12 na fun xx=>by
 obtain⟨(l:List Ev),(h:Int),_⟩:=xx
 refine(by kernel_rfl:(J30 l h)=_).mp ?_
 delta Z36 Z64 Jy7 J6m Jq2 J30 Br Ln E2
 intro hl
 refine⟨⟨hl,by decide⟩,by decide,fun e=> ?_,fun e=>⟨Du,fun q=> ?_,fun q=> ?_⟩⟩
 ·have e:Jbn l h≠0:=bne_iff_ne.1 e
  unfold Xp;rw[if_neg e]
  exact⟨rfl,rfl⟩
 ·have e:Jbn l h=0:=bne_eq_false_iff_eq.1 e
  have q:256<(Ur (Kd l).2.2.2.2.1 h (Kd l).2.2.2.1).length:=Int.ofNat_lt.1 (of_decide_eq_true q)
  unfold Xp;rw[if_pos e,if_pos q]
  exact⟨rfl,rfl⟩
 ·have e:Jbn l h=0:=bne_eq_false_iff_eq.1 e
  have q:¬256<(Ur (Kd l).2.2.2.2.1 h (Kd l).2.2.2.1).length:=fun h=>of_decide_eq_false q (Int.ofNat_lt.2 h)
  unfold Xp;rw[if_pos e,if_neg q]
  exact⟨rfl,rfl⟩
abbrev W89:=W88.add Kmg
def Jld (l:List Ev) (e:Ev):Int:=Ja [(Jp l).2.2,Jc e,bif decide ((1000:Int)≤l.length) then 5 else 0]
def Ya (l:List Ev) (e:Ev):Int:=if Jld l e=0 then Zw (Jp l).1 e else Jld l e
def Js7:Con:={args:=[.val false (.list 67 sEv),aEv],ress:=[I],owns:=[],pre:=fun(l,e,_)=>[lOk l,Dk e],spec:=fun(l,e,_)=>(Ya l e,())}
abbrev Jw7 (l:List Ev) (n:Int) (kk:ByteArray) (ns:List ByteArray) (vs:List Int) (tx:ByteArray):Ann:={X:=V7×Nat,σ:=fun(h,k)=>⟨10,[(5, .one (.ptr 5 0)),(14, .one (.sl 0)),(15, .one (.int .i64 l.length)),(16, .one (.int .i64 k))],[(0, .imm 67 sEv l),(1, .imm 9 .str ns),(2, .imm 3 sI vs),(3, .box 67 [.int .i64 n, .str kk, .sl 1, .sl 2, .str tx]),(4, .sus [(0, .one (.sl 0)),(3, .one (.ptr 3 0))]),(5, .box 155 [.sl 7, .sl 8, .sl 9]),(7, .own 67 sEv h.1),(8, .own 67 sEv h.2.1),(9, .own 100 Jrg h.2.2)]⟩,inv:=fun(h,k)=>Jct h∧h.1.length=k∧k≤l.length∧l.length≤1000∧Jdd h (l.drop k)=Jp l,mu:=fun(_,k)=>l.length-k}
def Jyo (a:Int) (b:Bt) (c:Ls) (d:Li) (e:Bt) (f:List Ev):=[Jc (a,b,c,d,e),bif decide (1000≤Ln f) then 5 else 0]
def J4j (a:Ls) (b:Li):=Z98 a∧Z43 b∧Jc5 a∧3≤1000000
def Kc5 (a:V7×Nat) (b:List Ev) (c:Int) (d:Bt) (e:Ls) (f:Li) (g:Bt):=Ja (J1m a b::Jyo c d e f g b)
theorem Kmb:Ok Tryz.prog 17 Js7:=Jvl W89 Tryz.f17 (Un (l:=([(51,Tryz.f51)]:List (Nat×Func))) (List.forall_mem_cons.2 ⟨by kernel_rfl,by simp⟩)) (fun xx=>na ()) (fun xx=>fun f id=>if f=51 then some (Jw7 xx.1 xx.2.1.1 xx.2.1.2.1 xx.2.1.2.2.1 xx.2.1.2.2.2.1 xx.2.1.2.2.2.2) else none) fun xx=>by
 obtain⟨(l:List Ev),⟨(n:Int),(k:ByteArray),(ns:List ByteArray),(vs:List Int),(tx:ByteArray)⟩,_⟩:=xx
 refine(by kernel_rfl:(lOk l→Dk (n,k,ns,vs,tx)→Br (decide (1000<Ln l)) (J4j ns vs∧Br (Ja (5::Jyo n k ns vs tx l) !=0) (Sf true (Ja (5::Jyo n k ns vs tx l)=Ya l (n,k,ns,vs,tx))) False) (∃(x:(List Ev×List Ev×List Reg)×Nat),Si (Ln l) (0=Nc x.2∧Sf l (Sf ns (Sf vs (Si n (Sf k (Sf tx (J5o x)))))))∧J11 x l∧∀(x:V7×Nat),J43 x l→Br (decide (Nc x.2<Ln l)) (Tw (Bd (Nc x.2) (Ln l))∧J34 x l∧Br (J1l x l) (Iw (Nc x.2+1)∧J4j ns vs∧Br (Kc5 x l n k ns vs tx !=0) (Sf true (Kc5 x l n k ns vs tx=Ya l (n,k,ns,vs,tx))) False) (Iw (Nc x.2+1)∧∃(y:(List Ev×List Ev×List Reg)×Nat),Si (Ln l) (Nc x.2+1=Nc y.2∧Sf l (Sf ns (Sf vs (Si n (Sf k (Sf tx (J3q x l y)))))))∧J4i y l x)) (J4j ns vs∧Br (Ja (0::Jyo n k ns vs tx l) !=0) (Sf true (Ja (0::Jyo n k ns vs tx l)=Ya l (n,k,ns,vs,tx))) ((Jy (Jxs x)∧Jc (n,k,ns,vs,tx)=0)∧Sf true (Zw (Jxs x) (n,k,ns,vs,tx)=Ya l (n,k,ns,vs,tx))))))=_).mp ?_
 delta Z43 Z98 Jxs Jh0 Jc8 J2h Jyo J5o Jc5 J43 J11 J4j J4i J1n J1m J38 J37 J34 J1l Kc5 J3q Br Iw Bd Tw Sf Si Ln Nc B0 E2
 intro hl hz0
 refine⟨fun h=> ?_,fun h=> ?_⟩
 ·have e:Jp l=(Jdi,0,5):=by unfold Jp;rw[if_pos (by have:=of_decide_eq_true h;omega)]
  have e5:Jld l (n,k,ns,vs,tx)=5:=by unfold Jld;rw[e];rfl
  refine⟨⟨hz0.1,hz0.2.1,hz0.2.2,by decide⟩,fun _=>⟨rfl, ?_⟩,fun h=> ?_⟩
  ·unfold Ya;rw[e5];rfl
  ·have:Jld l (n,k,ns,vs,tx)=0:=by unfold Jld;rw[e];exact bne_eq_false_iff_eq.1 h
   rw[e5] at this;cases this
 have hn:l.length≤1000:=by have:=of_decide_eq_false h;omega
 have e0:Jp l=Jdd Jdi l:=by unfold Jp;rw[if_neg (by omega)]
 refine⟨(Jdi,(0:Nat)),⟨rfl,rfl,rfl,rfl,rfl,rfl,rfl,rfl,rfl,rfl,rfl⟩,⟨Dd,rfl,Nat.zero_le _,hn,e0.symm⟩,fun(x:V7×Nat) hx=>⟨fun h1=> ?_,fun h1=> ?_⟩⟩
 ·obtain⟨g,m⟩:=x
  obtain⟨hi,hk,hk2,_,hrun⟩:=hx
  dsimp only at hi hk hk2 hrun
  have hlt:m<l.length:=by simpa using h1
  rw[V5 (d:=ev0) hlt,Jdd] at hrun
  have hz:=hl.2 _ (Jf (d:=ev0) hlt)
  refine⟨⟨⟨by dsimp only;omega,by dsimp only;omega⟩,by dsimp only;omega,by dsimp only;omega⟩,⟨hi.ok,by show g.1.length<1000;omega,hz⟩,fun h2=>⟨by dsimp only;omega,⟨hz0.1,hz0.2.1,hz0.2.2,by decide⟩,fun h3=> ?_,fun h3=> ?_⟩,fun h2=>⟨by dsimp only;omega,(Jf1 g (l.getD m ev0),m+1), ?_,⟨?_, ?_,by dsimp only;omega,hn, ?_⟩,by dsimp only;omega⟩⟩
  ·have h2:Kv g (l.getD m ev0)≠0:=bne_iff_ne.1 h2
   rw[if_neg h2] at hrun
   have e6:Jld l (n,k,ns,vs,tx)=Kv g (l.getD m ev0):=by unfold Jld;rw[←hrun];unfold Ja;rw[if_neg h2]
   refine⟨rfl, ?_⟩
   unfold Ya
   rw[if_neg (by rw[e6];exact h2),e6]
   unfold Ja
   exact if_neg h2
  ·have h2:Kv g (l.getD m ev0)≠0:=bne_iff_ne.1 h2
   have h3:=bne_eq_false_iff_eq.1 h3
   unfold Ja at h3
   exact h2 ((if_neg h2).symm.trans h3)
  ·have h2:Kv g (l.getD m ev0)=0:=bne_eq_false_iff_eq.1 h2
   have eP:Ui g (l.getD m ev0)=Jf1 g (l.getD m ev0):=by unfold Ui;rw[if_pos h2]
   refine⟨rfl,by simp,rfl,rfl,rfl,rfl,rfl,rfl, ?_, ?_, ?_⟩
   ·show(Ui g (l.getD m ev0)).1=_;rw[eP]
   ·show(Ui g (l.getD m ev0)).2.1=_;rw[eP]
   ·show(Ui g (l.getD m ev0)).2.2=_;rw[eP]
  ·exact Jqz hi (by omega) (bne_eq_false_iff_eq.1 h2)
  ·show(Jf1 g (l.getD m ev0)).1.length=m+1
   rw[Jf0,hk]
  ·have h2:Kv g (l.getD m ev0)=0:=bne_eq_false_iff_eq.1 h2
   rw[if_pos h2] at hrun
   exact hrun
 ·obtain⟨g,m⟩:=x
  obtain⟨hi,hk,hk2,_,hrun⟩:=hx
  dsimp only at hi hk hk2 hrun
  have hlt:¬m<l.length:=by simpa using h1
  have:m=l.length:=by omega
  rw[this,List.drop_length,Jdd] at hrun
  have e6:Jld l (n,k,ns,vs,tx)=Ja [0,Jc (n,k,ns,vs,tx),bif decide ((1000:Int)≤l.length) then 5 else 0]:=by unfold Jld;rw[←hrun]
  refine⟨⟨hz0.1,hz0.2.1,hz0.2.2,by decide⟩,fun h2=>⟨rfl, ?_⟩,fun h2=> ?_⟩
  ·have h2:=bne_iff_ne.1 h2
   rw[←e6] at h2
   unfold Ya;rw[if_neg h2,e6]
  ·have h2:=bne_eq_false_iff_eq.1 h2
   have h3:=(Lx h2).2.1
   rw[←e6] at h2
   refine⟨⟨hi.ok,h3⟩,rfl, ?_⟩
   unfold Ya;rw[if_pos h2,←hrun]
abbrev W90:=W89.add Kmb
abbrev Jln:=ByteArray×Int×Int×Int×Int×Int
abbrev Jnt:Sch:= .prod .str (.prod sI (.prod sI (.prod sI (.prod sI sI))))
abbrev Jjn:=Int×Int×Int×Int
def Jao (M:List Met) (s:ByteArray) (h:Int):Met:=M.getD (Kj M s h).toNat Jvz
def Jfw (st:Int) (M:List Met) (x:Ord):Int→Nat→Jjn→Jjn
 |_,0,a=>a
 |h,n+1,(c,s,g,f)=>Jfw st M x (h+1) n (bif Jv x h&&decide (h<st) then(c+1,s+(Jao M x.1 h).2.2.1,g+(Jao M x.1 h).2.2.2,f+3*(x.2.2.2.2.1-(Jao M x.1 h).2.2.2)) else(c,s,g,f))
def Zp (st:Int) (M:List Met) (x:Ord):Jjn:=Jfw st M x x.2.2.2.1.1 (Um x) (0,0,0,0)
def Ue (st:Int) (M:List Met) (x:Ord):Jln:=(x.1,(Zp st M x).1,(Zp st M x).2.1,(Zp st M x).2.2.1,(Zp st M x).2.2.1*x.2.2.2.2.2.1,(Zp st M x).2.2.2)
def Kaa:Con:={args:=[Jcy, .val true Jcw],ress:=[(true,Jnt)],owns:=[],pre:=fun(r,x,_)=>[J3 r,x∈r.2.2.2.1],spec:=fun((_,st,_,_,M,_),x,_)=>(Ue st M x,())}
abbrev Jxe (tk st:Int) (S:List Sta) (O:List Ord) (M:List Met) (X:List Out) (Q:List Per) (x:Ord):Ann:={X:=Nat×Jjn,σ:=fun(j,c,s,g,f)=>⟨14,[(0, .one (.fv 12)),(1, .one (.ptr 10 0)),(3, .one (.int .i64 (x.2.2.2.1.1+j)))],[(0, .imm 140 Jie S),(1, .imm 108 Jcw O),(2, .imm 111 Jmu M),(3, .imm 143 Jgl X),(4, .imm 186 Ja5 Q),(5, .box 100 [.int .i64 tk, .int .i64 st, .sl 0, .sl 1, .sl 2, .sl 3, .sl 4]),(6, .box 108 (bxO x)),(7, .box 118 [.str Jz, .int .i64 0, .int .i64 0, .int .i64 0, .int .i64 0, .int .i64 0]),(8, .box 118 [.str x.1, .int .i64 c, .int .i64 s, .int .i64 g, .int .i64 0, .int .i64 f]),(10, .box 108 (bxO x)),(12, .yld .ready),(13, .sus [(2, .one (.ptr 5 0)),(3, .one (.ptr 6 0)),(4, .one (.ptr 7 0)),(5, .one (.ptr 8 0))])]⟩,inv:=fun(j,c,s,g,f)=>j≤Um x∧(0≤c∧c≤j)∧(0≤s∧s≤1000*j)∧(0≤g∧g≤1000*j)∧(-3000*j≤f∧f≤3000*j)∧Jfw st M x (x.2.2.2.1.1+j) (Um x-j) (c,s,g,f)=Zp st M x,mu:=fun(j,_)=>Um x-j}
def Jy3 (a:Int) (b:Nat):=0≤a∧a≤1000*Nc b
def J6i (a:List Met) (b:Bt) (c:Int) (d:Nat×Jjn):=(Gt a (Kj a b (c+Nc d.1)) Ju2).2.2
def J56 (a:Int) (b:List Met) (c:Bt) (d:Int) (e:Nat×Jjn):=a-(J6i b c d e).2
def J5x (a:Nat×Jjn) (b:List Met) (c:Bt) (d:Int):=a.2.2.1+(J6i b c d a).1
def Jyp (a:Nat×Jjn) (b:List Met) (c:Bt) (d:Int):=a.2.2.2.1+(J6i b c d a).2
def J5l (a:Nat×Jjn) (b:Int) (c:List Met) (d:Bt) (e:Int):=a.2.2.2.2+3*J56 b c d e a
def Kc9 (a:Nat) (b c d:Bt) (e f g h i j k l m n:Int) (o:List Met):=a≤Um (b,c,d,(e,f),g,h,i)∧(0≤j∧j≤Nc a)∧Jy3 k a∧Jy3 l a∧((-3000)*Nc a≤m∧m≤3000*Nc a)∧Jfw n o (b,c,d,(e,f),g,h,i) (e+Nc a) (Um (b,c,d,(e,f),g,h,i)-a) (j,k,l,m)=Zp n o (b,c,d,(e,f),g,h,i)
def Kc4 (a:Nat×Int×Int×Int×Int) (b c d:Bt) (e f g h i j:Int) (k:List Met):=match a with|(j_1,c_1,s,g_1,f_1)=>Kc9 j_1 b c d e f g h i c_1 s g_1 f_1 j k
def Kcy (a:Nat×Int×Int×Int×Int) (b c d:Bt) (e f g h i j:Int) (k:List Met) (l:Nat×Jjn):=Kc4 a b c d e f g h i j k∧Um (b,c,d,(e,f),g,h,i)-a.1<Um (b,c,d,(e,f),g,h,i)-l.1
def Ka8 (a:Nat×Jjn) (b:Int) (c:Bt) (d:Int) (e:List Met) (f g:Bt) (h i j k:Int) (l:List Sta) (m:List Ord) (n:List Out) (o:List Per) (p:Int):=Br false (Iw (a.2.2.2.1*b)∧Sf true ((c,a.2.1,a.2.2.1,a.2.2.2.1,a.2.2.2.1*b,a.2.2.2.2)=Ue d e (c,f,g,(h,i),j,b,k))) (Iw (h+Nc a.1+1)∧∃(y:Nat×Int×Int×Int×Int),(h+Nc a.1+1=h+Nc y.1∧Sf l (Sf m (Sf e (Sf n (Sf o (Si p (Si d (Sf c (Sf f (Sf g (Si h (Si i (Si j (Si b (Si k (Sf Jz (Si 0 (Si 0 (Si 0 (Si 0 (Si 0 (Sf c (a.2.1=y.2.1∧a.2.2.1=y.2.2.1∧a.2.2.2.1=y.2.2.2.1∧Si 0 (a.2.2.2.2=y.2.2.2.2∧Sf c (Sf f (Sf g (Si h (Si i (Si j (Si b (k=k)))))))))))))))))))))))))))))))∧Kcy y c f g h i j b k d e a)
theorem Klg:Ok Tryz.prog 49 Kaa:=Jvl W90 Tryz.f49 (Un (l:=([(69,Tryz.f69),(97,Tryz.f97)]:List (Nat×Func))) (List.forall_mem_cons.2 ⟨by kernel_rfl,List.forall_mem_cons.2 ⟨by kernel_rfl,by simp⟩⟩)) (fun xx=>na ()) (fun xx=>fun f' id=>if f'=97 then some (Jxe xx.1.1 xx.1.2.1 xx.1.2.2.1 xx.1.2.2.2.1 xx.1.2.2.2.2.1 xx.1.2.2.2.2.2.1 xx.1.2.2.2.2.2.2 (xx.2.1.1,xx.2.1.2.1,xx.2.1.2.2.1,(xx.2.1.2.2.2.1.1,xx.2.1.2.2.2.1.2),xx.2.1.2.2.2.2.1,xx.2.1.2.2.2.2.2.1,xx.2.1.2.2.2.2.2.2)) else none) fun xx=>by
 obtain⟨⟨(tk:Int),(st:Int),(S:List Sta),(O:List Ord),(M:List Met),(X:List Out),(Q:List Per)⟩,⟨(n:ByteArray),(f:ByteArray),(t:ByteArray),⟨(a:Int),(b:Int)⟩,(p:Int),(c:Int),(r:Int)⟩,_⟩:=xx
 refine(by kernel_rfl:(Uf tk st S O M X Q→(n,f,t,(a,b),p,c,r)∈O→∃(x:Nat×Int×Int×Int×Int),(a=a+Nc x.1∧Sf S (Sf O (Sf M (Sf X (Sf Q (Si tk (Si st (Sf n (Sf f (Sf t (Si a (Si b (Si p (Si c (Si r (B0=Jz∧Si 0 (Si 0 (Si 0 (Si 0 (Si 0 (Sf n (0=x.2.1∧0=x.2.2.1∧0=x.2.2.2.1∧Si 0 (0=x.2.2.2.2∧Sf n (Sf f (Sf t (Si a (Si b (Si p (Si c (r=r))))))))))))))))))))))))))))))∧Kc4 x n f t a b p c r st M∧∀(x:Nat×Jjn),(match x with|(j,c_1,s,g,f_1)=>Kc9 j n f t a b p c r c_1 s g f_1 st M)→Br (decide (a+Nc x.1<b)) (Br (Jv (n,f,t,(a,b),p,c,r) (a+Nc x.1)) (Br (decide (a+Nc x.1<st)) ((Uf tk st S O M X Q∧Tw (Bd (Kj M n (a+Nc x.1)) (Ln M)))∧Iw (x.2.1+1)∧Iw (J5x x M n a)∧Iw (Jyp x M n a)∧(Iw (J56 p M n a x)∧Iw (3*J56 p M n a x)∧Iw (J5l x p M n a))∧Br false (Iw (Jyp x M n a*c)∧Sf true ((n,x.2.1+1,J5x x M n a,Jyp x M n a,Jyp x M n a*c,J5l x p M n a)=Ue st M (n,f,t,(a,b),p,c,r))) (Iw (a+Nc x.1+1)∧∃(y:Nat×Int×Int×Int×Int),(a+Nc x.1+1=a+Nc y.1∧Sf S (Sf O (Sf M (Sf X (Sf Q (Si tk (Si st (Sf n (Sf f (Sf t (Si a (Si b (Si p (Si c (Si r (Sf Jz (Si 0 (Si 0 (Si 0 (Si 0 (Si 0 (Sf n (x.2.1+1=y.2.1∧J5x x M n a=y.2.2.1∧Jyp x M n a=y.2.2.2.1∧Si 0 (J5l x p M n a=y.2.2.2.2∧Sf n (Sf f (Sf t (Si a (Si b (Si p (Si c (r=r)))))))))))))))))))))))))))))))∧Kcy y n f t a b p c r st M x)) (Ka8 x c n st M f t a b p r S O X Q tk)) (Ka8 x c n st M f t a b p r S O X Q tk)) (Iw (x.2.2.2.1*c)∧Sf true ((n,x.2.1,x.2.2.1,x.2.2.2.1,x.2.2.2.1*c,x.2.2.2.2)=Ue st M (n,f,t,(a,b),p,c,r))))=_).mp ?_
 delta Z65 Ju2 Uf Jy3 J6i J56 J5x Jyp J5l Kc9 Kc4 Kcy Ka8 Br Iw Bd Tw Sf Si Ln Nc Gt B0
 intro hr hx
 have hO:=hr.ord _ hx
 have hD:=hr.done _ hx
 have b0:=hO.span.lo
 have b1:=hO.span.mid
 have b2:=hO.span.hi
 have b3:=hO.span.len
 have bp:=hO.pow
 have bc:=hO.pri
 have hn:Um (n,f,t,(a,b),p,c,r)≤48∧(Um (n,f,t,(a,b),p,c,r):Int)=b-a:=by
  dsimp only at b1 b3
  unfold Um
  constructor<;>dsimp only<;>omega
 dsimp only at b0 b1 b2 b3 bp bc hD
 refine⟨((0:Nat),(0,0,0,0)),by(repeat' first|exact rfl|apply And.intro|exact(Int.add_zero _).symm|omega|dsimp only;omega),⟨Nat.zero_le _,by omega,by omega,by omega,by omega, ?_⟩,fun(y:Nat×Jjn) hy=>⟨fun h1=> ?_,fun h1=> ?_⟩⟩
 ·unfold Zp
  rw[Nat.sub_zero]
  simp only[Int.natCast_zero,Int.add_zero]
 ·obtain⟨j,c1,s1,g1,f1⟩:=y
  obtain⟨k1,k2,k3,k4,k5,k6⟩:=hy
  have h1:a+(j:Int)<b:=of_decide_eq_true h1
  have hj:Um (n,f,t,(a,b),p,c,r)-j=(Um (n,f,t,(a,b),p,c,r)-(j+1))+1:=by omega
  rw[hj,Jfw] at k6
  have hc:a+(j:Int)+1=a+((j+1:Nat):Int):=by omega
  have hB: -9223372036854775808≤a+(j:Int)+1∧a+(j:Int)+1≤9223372036854775807:=by omega
  refine⟨fun h2=>⟨fun h3=> ?_,fun h3=>⟨fun h=>(by cases h),fun _=>⟨hB,(j+1,c1,s1,g1,f1),by(repeat' first|exact rfl|apply And.intro|exact(Int.add_zero _).symm|omega|dsimp only;omega),⟨by(first|omega|dsimp only;omega),by(first|omega|dsimp only;omega),by(first|omega|dsimp only;omega),by(first|omega|dsimp only;omega),by(first|omega|dsimp only;omega), ?_⟩,by(first|omega|dsimp only;omega)⟩⟩⟩,fun h2=>⟨fun h=>(by cases h),fun _=>⟨hB,(j+1,c1,s1,g1,f1),by(repeat' first|exact rfl|apply And.intro|exact(Int.add_zero _).symm|omega|dsimp only;omega),⟨by(first|omega|dsimp only;omega),by(first|omega|dsimp only;omega),by(first|omega|dsimp only;omega),by(first|omega|dsimp only;omega),by(first|omega|dsimp only;omega), ?_⟩,by(first|omega|dsimp only;omega)⟩⟩⟩
  ·have h3':a+(j:Int)<st:=of_decide_eq_true h3
   have hm:0≤Kj M n (a+(j:Int)):=hD _ h2 h3'
   have hl:=Jbo (l:=M) (s:=n) (h:=a+(j:Int))
   have hM:Jrc (Jao M n (a+(j:Int))):=hr.met _ (Jf (show _<M.length by omega))
   have m1:=hM.sent
   have m2:=hM.got
   have e:M.getD (Kj M n (a+(j:Int))).toNat (Jz,0,0,0)=Jao M n (a+(j:Int)):=rfl
   simp only[]
   rw[show(({data:={toList:=[]}}:ByteArray),(0:Int),(0:Int),(0:Int))=(Jz,0,0,0) from rfl,e]
   rw[h2,h3,Bool.true_and,cond_true] at k6
   refine⟨⟨hr,⟨hm,hl⟩,hm,hl⟩,by omega,by omega,by omega,⟨by omega,by omega,by omega⟩,fun h=>(by cases h),fun _=>⟨hB,(j+1,c1+1,s1+(Jao M n (a+(j:Int))).2.2.1,g1+(Jao M n (a+(j:Int))).2.2.2,f1+3*(p-(Jao M n (a+(j:Int))).2.2.2)),by(repeat' first|exact rfl|apply And.intro|exact(Int.add_zero _).symm|omega|dsimp only;omega),⟨by(first|omega|dsimp only;omega),by(first|omega|dsimp only;omega),by(first|omega|dsimp only;omega),by(first|omega|dsimp only;omega),by(first|omega|dsimp only;omega), ?_⟩,by(first|omega|dsimp only;omega)⟩⟩
   rw[hc] at k6
   exact k6
  ·rw[h3,Bool.and_false,cond_false,hc] at k6
   exact k6
  ·rw[show Jv (n,f,t,(a,b),p,c,r) (a+(j:Int))=false from h2,Bool.false_and,cond_false,hc] at k6
   exact k6
 ·obtain⟨j,c1,s1,g1,f1⟩:=y
  obtain⟨k1,k2,k3,k4,k5,k6⟩:=hy
  have h1:¬a+(j:Int)<b:=of_decide_eq_false h1
  have hj:Um (n,f,t,(a,b),p,c,r)-j=0:=by omega
  rw[hj,Jfw] at k6
  have q1:0≤g1*c:=Int.mul_nonneg k4.1 bc.1
  have q2:g1*c≤48000*1000:=Int.mul_le_mul (by omega) bc.2 bc.1 (by decide)
  refine⟨⟨by(first|omega|dsimp only;omega),by(first|omega|dsimp only;omega)⟩,rfl, ?_⟩
  unfold Ue
  rw[←k6]
abbrev W91:=W90.add Klg
def bd4 (k:Int) (a:Jjn):Prop:=(0≤a.1∧a.1≤k)∧(0≤a.2.1∧a.2.1≤1000*k)∧(0≤a.2.2.1∧a.2.2.1≤a.2.1)∧-3000*k≤a.2.2.2∧a.2.2.2≤3000*k
theorem Jk3 {st:Int} {M:List Met} {x:Ord} (hp:1≤x.2.2.2.2.1∧x.2.2.2.2.1≤1000) (hM:∀m∈M,Jrc m) (hd:∀h,Jv x h=true→h<st→0≤Kj M x.1 h):∀(n:Nat) (h:Int) (a:Jjn) (k:Int),bd4 k a→bd4 (k+n) (Jfw st M x h n a)
 |0,_,_,k,ha=>by unfold Jfw;rw[show k+((0:Nat):Int)=k by omega];exact ha
 | n + 1, h, (c, s, g, f), k, ha => by
  unfold Jfw
  rw[show k+((n+1:Nat):Int)=(k+1)+n by omega]
  apply Jk3 hp hM hd n
  unfold bd4 at ha⊢
  dsimp only at ha
  cases hb:Jv x h&&decide (h<st) with
  |false=>simp only[cond_false];omega
  |true=>
   have h1:=Bool.and_eq_true_iff.1 hb
   have hm:0≤Kj M x.1 h:=hd h h1.1 (of_decide_eq_true h1.2)
   have hl:=Jbo (l:=M) (s:=x.1) (h:=h)
   have hk:Jrc (Jao M x.1 h):=hM _ (Jf (show _<M.length by omega))
   have m1:=hk.sent
   have m2:=hk.got
   simp only[cond_true]
   omega
theorem Jr0 {S:List Sta} {x:Ord} (h:Jf2 S x):Um x≤48:=by
 have:=h.span.len
 have:=h.span.mid
 unfold Um
 omega
structure Ju6 (b:Jln):Prop where
 hours:0≤b.2.1∧b.2.1≤48
 sent:0≤b.2.2.1∧b.2.2.1≤48000
 got:0≤b.2.2.2.1∧b.2.2.2.1≤b.2.2.1
 money:0≤b.2.2.2.2.1∧b.2.2.2.2.1≤48000000
 fine: -144000≤b.2.2.2.2.2∧b.2.2.2.2.2≤144000
theorem Jk2 {tk st:Int} {S:List Sta} {O:List Ord} {M:List Met} {X:List Out} {Q:List Per} {x:Ord} (hr:J3 (tk,st,S,O,M,X,Q)) (hx:x∈O):Ju6 (Ue st M x):=by
 have hO:=hr.ord _ hx
 have hs:=Jr0 hO
 have h:=Jk3 hO.pow hr.met (hr.done _ hx) (Um x) x.2.2.2.1.1 (0,0,0,0) 0 (by unfold bd4;simp)
 have bc:=hO.pri
 unfold bd4 at h
 have h:(0≤(Zp st M x).1∧(Zp st M x).1≤0+(Um x:Int))∧(0≤(Zp st M x).2.1∧(Zp st M x).2.1≤1000*(0+(Um x:Int)))∧(0≤(Zp st M x).2.2.1∧(Zp st M x).2.2.1≤(Zp st M x).2.1)∧-3000*(0+(Um x:Int))≤(Zp st M x).2.2.2∧(Zp st M x).2.2.2≤3000*(0+(Um x:Int)):=h
 have q1:0≤(Zp st M x).2.2.1*x.2.2.2.2.2.1:=Int.mul_nonneg h.2.2.1.1 bc.1
 have q2:(Zp st M x).2.2.1*x.2.2.2.2.2.1≤48000*1000:=Int.mul_le_mul (by omega) bc.2 bc.1 (by decide)
 exact⟨by unfold Ue;(first|omega|dsimp only;omega),by unfold Ue;(first|omega|dsimp only;omega),by unfold Ue;(first|omega|dsimp only;omega),by unfold Ue;(first|omega|dsimp only;omega),by unfold Ue;(first|omega|dsimp only;omega)⟩
def Fz (x:Ord) (a b:ByteArray):Bool:=x.2.1.toList==a.toList&&(x.2.2.1.toList==b.toList&&true)
def Kmz (st:Int) (M:List Met) (a b:ByteArray) (x:Ord) (n:Int):Int:=(bif Fz x b a then(bif Fz x a b then n+((Ue st M x).2.2.2.2.1-(Ue st M x).2.2.2.2.2) else n)-((Ue st M x).2.2.2.2.1-(Ue st M x).2.2.2.2.2) else(bif Fz x a b then n+((Ue st M x).2.2.2.2.1-(Ue st M x).2.2.2.2.2) else n))
def Jxg (st:Int) (M:List Met) (a b:ByteArray):List Ord→Int→Int
 |[],n=>n
 |x::l,n=>Jxg st M a b l (Kmz st M a b x n)
def Jjc (st:Int) (O:List Ord) (M:List Met) (a b:ByteArray):Int:=Jxg st M a b O 0
def Js6:Con:={args:=[Jcy,aS,aS],ress:=[I],owns:=[],pre:=fun(r,_)=>[J3 r],spec:=fun((_,st,_,O,M,_),a,b,_)=>(Jjc st O M a b,())}
abbrev J1b (tk st:Int) (S:List Sta) (O:List Ord) (M:List Met) (X:List Out) (Q:List Per) (a b:ByteArray):Ann:={X:=Nat×Int,σ:=fun(k,n)=>⟨6,[(1, .one (.str a)),(2, .one (.str b)),(3, .one (.ptr 5 0)),(7, .one (.int .i64 n)),(13, .one (.sl 1)),(14, .one (.int .i64 O.length)),(15, .one (.int .i64 k))],[(0, .imm 140 Jie S),(1, .imm 108 Jcw O),(2, .imm 111 Jmu M),(3, .imm 143 Jgl X),(4, .imm 186 Ja5 Q),(5, .box 100 [.int .i64 tk, .int .i64 st, .sl 0, .sl 1, .sl 2, .sl 3, .sl 4])]⟩,inv:=fun(k,n)=>k≤O.length∧(-100000000*k≤n∧n≤100000000*k)∧Jxg st M a b (O.drop k) n=Jjc st O M a b,mu:=fun(k,_)=>O.length-k}
def J1t (a:List Ord) (b c:Nat×Int) (d:List Sta) (e:List Met) (f:List Out) (g:List Per) (h i:Int):=Si (Ln a) (J1u b c d a e f g h i)
def J4o (a:Nat×Int) (b:List Ord) (c:Int) (d:List Met) (e f:Bt):=a.1≤List.length b∧((-100000000)*Nc a.1≤a.2∧a.2≤100000000*Nc a.1)∧Jxg c d e f (List.drop a.1 b) a.2=Jjc c b d e f
def J4g (a:List Ord) (b:Nat×Int) (c d:Bt):=Lb (J57 a b) c&&(Lb (J52 a b) d&&true)
def J1o (a:Nat×Int) (b:List Ord) (c:Int) (d:List Met) (e f:Bt) (g:Nat×Int):=J4o a b c d e f∧List.length b-a.1<List.length b-g.1
def Kcx (a:Int) (b:List Met) (c:List Ord) (d:Nat×Int):=(Ue a b (Jyg c d)).2.2.2.2
def J1f (a:Int) (b:List Met) (c:List Ord) (d:Nat×Int):=(Kcx a b c d).1-(Kcx a b c d).2
def J3p (a:Int) (b:List Met) (c:List Ord) (d:Nat×Int):=Iw (J1f a b c d)
def J3o (a:Nat×Int) (b:Int) (c:List Met) (d:List Ord):=a.2+J1f b c d a
def Kbe (a:Nat×Int) (b:Int) (c:List Met) (d:List Ord):=a.2-J1f b c d a
def Kax (a:Nat×Int) (b:Int) (c:List Met) (d:List Ord):=J3o a b c d-J1f b c d a
theorem Kli:Ok Tryz.prog 47 Js6:=okW W91 Tryz.f47 (fun xx=>Dl (J1b xx.1.1 xx.1.2.1 xx.1.2.2.1 xx.1.2.2.2.1 xx.1.2.2.2.2.1 xx.1.2.2.2.2.2.1 xx.1.2.2.2.2.2.2 xx.2.1 xx.2.2.1)) fun xx=>by
 obtain⟨⟨(tk:Int),(st:Int),(S:List Sta),(O:List Ord),(M:List Met),(X:List Out),(Q:List Per)⟩,(a:ByteArray),(b:ByteArray),_⟩:=xx
 refine(by kernel_rfl:(Uf tk st S O M X Q→∃(x:Nat×Int),Sf a (Sf b (0=x.2∧Si (Ln O) (0=Nc x.1∧J17 S O M X Q tk st)))∧J4o x O st M a b∧∀(x:Nat×Int),J4o x O st M a b→Br (decide (Nc x.1<Ln O)) (Tw (Bd (Nc x.1) (Ln O))∧(Uf tk st S O M X Q∧Jyg O x∈O)∧Br (J4g O x a b) ((J3p st M O x∧Iw (J3o x st M O))∧Br (J4g O x b a) ((J3p st M O x∧Iw (Kax x st M O))∧Z38 x∧∃(y:Nat×Int),Sf a (Sf b (Kax x st M O=y.2∧J1t O x y S M X Q tk st))∧J1o y O st M a b x) (Z38 x∧∃(y:Nat×Int),Sf a (Sf b (J3o x st M O=y.2∧J1t O x y S M X Q tk st))∧J1o y O st M a b x)) (Br (J4g O x b a) ((J3p st M O x∧Iw (Kbe x st M O))∧Z38 x∧∃(y:Nat×Int),Sf a (Sf b (Kbe x st M O=y.2∧J1t O x y S M X Q tk st))∧J1o y O st M a b x) (Z38 x∧∃(y:Nat×Int),Sf a (Sf b (x.2=y.2∧J1t O x y S M X Q tk st))∧J1o y O st M a b x))) (x.2=Jjc st O M a b))=_).mp ?_
 delta Z38 Z65 Jtl Uf Jhz J6c J59 J57 J55 J53 J52 J5z J5y J17 J1u J1t J4o J4g J1o Jyg Kcx J1f J3p J3o Kbe Kax Br Iw Bd Tw Sf Si Ln Nc B0 Lb E2
 intro hr
 have nO:O.length≤32:=hr.nO
 refine⟨((0:Nat),(0:Int)),by(repeat' first|exact rfl|apply And.intro|exact(Int.add_zero _).symm|omega|dsimp only;omega),⟨Nat.zero_le _,by omega,rfl⟩,fun(x:Nat×Int) hk=>⟨fun h1=> ?_,fun h1=> ?_⟩⟩
 ·obtain⟨k,n⟩:=x
  have hlt:k<O.length:=by simpa using h1
  have hx:=Jf (d:=K6) hlt
  have hb:=Jk2 hr hx
  obtain⟨k1,k2,k3⟩:=hk
  rw[V5 (d:=K6) hlt,Jxg] at k3
  have m1:=hb.money
  have m2:=hb.fine
  have hz:((({data:={toList:=[]}}:ByteArray),({data:={toList:=[]}}:ByteArray),({data:={toList:=[]}}:ByteArray),((0:Int),(0:Int)),(0:Int),(0:Int),(0:Int)):Ord)=K6:=rfl
  dsimp only at k1 k2 k3
  simp only[hz,Prod.eta]
  generalize O.getD k K6=y at*
  have k3:Jxg st M a b (List.drop (k+1) O) (bif Fz y b a then(bif Fz y a b then n+((Ue st M y).2.2.2.2.1-(Ue st M y).2.2.2.2.2) else n)-((Ue st M y).2.2.2.2.1-(Ue st M y).2.2.2.2.2) else(bif Fz y a b then n+((Ue st M y).2.2.2.2.1-(Ue st M y).2.2.2.2.2) else n))=Jjc st O M a b:=k3
  refine⟨⟨⟨by omega,by omega⟩,by omega,by omega⟩,⟨hr,hx⟩,fun h2=>⟨⟨⟨by omega,by omega⟩,by omega,by omega⟩,fun h3=>⟨⟨⟨by omega,by omega⟩,by omega,by omega⟩,⟨⟨by omega,by omega⟩,(k+1,n+((Ue st M y).2.2.2.2.1-(Ue st M y).2.2.2.2.2)-((Ue st M y).2.2.2.2.1-(Ue st M y).2.2.2.2.2)),by simp,⟨by(first|omega|dsimp only;omega),by(first|omega|dsimp only;omega), ?_⟩,by(first|omega|dsimp only;omega)⟩⟩,fun h3=>⟨⟨by omega,by omega⟩,(k+1,n+((Ue st M y).2.2.2.2.1-(Ue st M y).2.2.2.2.2)),by simp,⟨by(first|omega|dsimp only;omega),by(first|omega|dsimp only;omega), ?_⟩,by(first|omega|dsimp only;omega)⟩⟩,fun h2=>⟨fun h3=>⟨⟨⟨by omega,by omega⟩,by omega,by omega⟩,⟨⟨by omega,by omega⟩,(k+1,n-((Ue st M y).2.2.2.2.1-(Ue st M y).2.2.2.2.2)),by simp,⟨by(first|omega|dsimp only;omega),by(first|omega|dsimp only;omega), ?_⟩,by(first|omega|dsimp only;omega)⟩⟩,fun h3=>⟨⟨by omega,by omega⟩,(k+1,n),by simp,⟨by(first|omega|dsimp only;omega),by(first|omega|dsimp only;omega), ?_⟩,by(first|omega|dsimp only;omega)⟩⟩⟩
  all_goals (have h2:Fz y a b=_:=h2;have h3:Fz y b a=_:=h3;rw[h2,h3] at k3;exact k3)
 ·obtain⟨k,n⟩:=x
  have hlt:¬k<O.length:=by simpa using h1
  obtain⟨k1,k2,k3⟩:=hk
  have:k=O.length:=by omega
  rw[this,List.drop_length,Jxg] at k3
  exact k3
abbrev W92:=W91.add Kli
def Jx7 (num den:Int):Int×Int:=(num.tdiv (Nat.gcd num.toNat den.toNat:Nat),den.tdiv (Nat.gcd num.toNat den.toNat:Nat))
def Kmq:Con:={args:=[aI,aI],ress:=[(true,Jif)],owns:=[],pre:=fun(a,b,_)=>[0≤a∧a≤1000000000000,1≤b∧b≤1000000000000],spec:=fun(a,b,_)=>(Jx7 a b,())}
abbrev J09 (num den:Int):Ann:={X:=Int×Int,σ:=fun(a,b)=>⟨1,[(0, .one (.int .i64 num)),(1, .one (.int .i64 den)),(4, .one (.ptr 0 0)),(5, .one (.int .i64 a)),(6, .one (.int .i64 b))],[(0, .box 62 [.int .i64 0, .int .i64 0])]⟩,inv:=fun(a,b)=>(0≤a∧a≤1000000000000)∧(0≤b∧b≤1000000000000)∧(a=0→b≠0)∧Nat.gcd a.toNat b.toNat=Nat.gcd num.toNat den.toNat,mu:=fun(_,b)=>b.toNat}
def J4l (a:Int×Int) (b c:Int):=(0≤a.1∧a.1≤1000000000000)∧(0≤a.2∧a.2≤1000000000000)∧(a.1=0→a.2=0→False)∧Nat.gcd (Int.toNat a.1) (Int.toNat a.2)=Nat.gcd (Int.toNat b) (Int.toNat c)
theorem Klf:Ok Tryz.prog 50 Kmq:=okW W92 Tryz.f50 (fun xx=>Dl (J09 xx.1 xx.2.1)) fun xx=>by
 obtain⟨(num:Int),(den:Int),_⟩:=xx
 refine(by kernel_rfl:(0≤num∧num≤1000000000000→1≤den∧den≤1000000000000→∃(x:Int×Int),Si num (Si den (num=x.1∧den=x.2∧Tw ((0:Int)=0)))∧J4l x num den∧∀(x:Int×Int),J4l x num den→Br (x.2 !=0) ((x.2=0→False)∧∃(y:Int×Int),Si num (Si den (x.2=y.1∧Int.tmod x.1 x.2=y.2∧Tw ((0:Int)=0)))∧J4l y num den∧Int.toNat y.2<Int.toNat x.2) (((x.1=0→False)∧Iw (Int.tdiv num x.1)∧(x.1=0→False)∧Iw (Int.tdiv den x.1))∧(Int.tdiv num x.1,Int.tdiv den x.1)=Jx7 num den))=_).mp ?_
 delta J4l Br Iw Tw Si
 intro h1' h2
 refine⟨(num,den),by simp,⟨h1',by(first|omega|dsimp only;omega),by(first|omega|dsimp only;omega),rfl⟩,fun(x:Int×Int) hk=>⟨fun h1=> ?_,fun h1=> ?_⟩⟩
 ·obtain⟨a,b⟩:=x
  obtain⟨k1,k2,k3,k4⟩:=hk
  dsimp only at k1 k2 k3 k4 h1
  have hb:b≠0:=bne_iff_ne.1 h1
  obtain⟨A,rfl⟩:=Int.eq_ofNat_of_zero_le k1.1
  obtain⟨B,rfl⟩:=Int.eq_ofNat_of_zero_le k2.1
  have hB:0<B:=by omega
  have hm:=Nat.mod_lt A hB
  have e:((A:Int).tmod (B:Int))=((A %B:Nat):Int):=(Int.ofNat_tmod A B).symm
  refine⟨hb,((B:Int),((A %B:Nat):Int)),⟨rfl,rfl,rfl,e,rfl,rfl⟩,⟨by(first|omega|dsimp only;omega),by(first|omega|dsimp only;omega),fun h=>(by dsimp only at h;omega), ?_⟩, ?_⟩
  ·rw[←k4]
   simp only[Int.toNat_natCast]
   rw[Nat.gcd_comm A B,Nat.gcd_rec B A,Nat.gcd_comm]
  ·simp only[Int.toNat_natCast]
   exact hm
 ·obtain⟨a,b⟩:=x
  obtain⟨k1,k2,k3,k4⟩:=hk
  dsimp only at k1 k2 k3 k4 h1
  have hb:b=0:=by simpa using h1
  subst hb
  have ha:a≠0:=fun h=>k3 h rfl
  have hg:(Nat.gcd num.toNat den.toNat:Int)=a:=by rw[←k4];simp;omega
  have d1:0≤num.tdiv a:=Int.tdiv_nonneg h1'.1 k1.1
  have d2:num.tdiv a≤num:=Int.tdiv_le_self _ h1'.1
  have d3:0≤den.tdiv a:=Int.tdiv_nonneg (by omega) k1.1
  have d4:den.tdiv a≤den:=Int.tdiv_le_self _ (by omega)
  refine⟨⟨ha,⟨by(first|omega|dsimp only;omega),by(first|omega|dsimp only;omega)⟩,ha,by(first|omega|dsimp only;omega),by(first|omega|dsimp only;omega)⟩, ?_⟩
  unfold Jx7
  rw[hg]
abbrev W93:=W92.add Klf
def Jqn:Jln:=(Jz,0,0,0,0,0)
abbrev sH3:Sch:= .prod sI (.prod sI sI)
abbrev H3:=Int×Int×Int
def Jv9 (M:List Met) (h:Int) (x:Ord) (a:H3):H3:=bif Jv x h then(a.1+(Jao M x.1 h).2.2.1,a.2.1+(Jao M x.1 h).2.2.2,a.2.2+((Jao M x.1 h).2.2.2*x.2.2.2.2.2.1-3*(x.2.2.2.2.1-(Jao M x.1 h).2.2.2))) else a
def Jdh (M:List Met) (h:Int):List Ord→H3→H3
 |[],a=>a
 |x::l,a=>Jdh M h l (Jv9 M h x a)
def Jni:List Jln→Int×Int→Int×Int
 |[],a=>a
 |b::l,(s,g)=>Jni l (s+b.2.2.1,g+b.2.2.2.1)
def Jz0 (st:Int) (O:List Ord) (M:List Met):(Int×Int)×Int:=if(Jni (O.map (Ue st M)) (0,0)).1=0 then((0,0),6) else(Jx7 ((Jni (O.map (Ue st M)) (0,0)).1-(Jni (O.map (Ue st M)) (0,0)).2) (Jni (O.map (Ue st M)) (0,0)).1,0)
end Go.Proofs.YtdpcaknnhcnkpaaGreat

/- Contracts of the functions that the law reaches: part of the proof. -/
import Derived.Test.YthchfepplbcdeaaGreatDoorProg
import Derived.Test.YthchfepplbcdeaaGreatDoorSxC
import Derived.Test.YthchfepplbcdeaaGreatDoorShelfA
import Derived.Test.YthchfepplbcdeaaGreatDoorLayA
import Derived.KernelRfl
import Derived.Laws.RangeAny
import Derived.Lib.Strings
set_option linter.unusedSimpArgs false
set_option linter.unusedVariables false
set_option maxRecDepth 20000
namespace Go.Proofs.YthchfepplbcdeaaGreatDoor
open Go.Sx
abbrev I:Bool×Sch:=(false, .int .i64)
abbrev Bo:Bool×Sch:=(false, .bool)
abbrev aI:AK:= .val false (.int .i64)
abbrev aB:AK:= .val false .bool
abbrev aS:AK:= .val false .str
abbrev tS:Bool×Sch:=(false, .str)
abbrev sI:Sch:= .int .i64
abbrev sPt:Sch:= .prod sI sI
abbrev Pr:Bool×Sch:=(true, .prod sI sI)
abbrev aP:AK:= .val true sPt
abbrev W0 [Sx.Dr]:GW Tryz.prog:=⟨[], .nil _⟩
theorem mixed:Tryz.prog.follows .mixedOrders=true:=by kernel_rfl
theorem okW [Sx.Dr] {f:FuncId} {c:Con} (W:GW Tryz.prog) (fn:Func) (ann:ATup c.args→Nat→Option Ann) (h:∀x:ATup c.args,wpF Tryz.prog W.g (ann x) fn c x) (h1:Tryz.prog.funcs[f]? =some fn:=by kernel_rfl) (h2:Lr fn c=true:=by kernel_rfl):Ok Tryz.prog f c:=Je mixed W.ok h1 h2 ann h
theorem J5y [Sx.Dr] {f:FuncId} {c:Con} {lib:FuncId→Option Func} (W:GW Tryz.prog) (fn:Func) (hl:∀f fn,lib f=some fn→Tryz.prog.funcs[f]? =some fn) (ann:ATup c.args→Nat→Option Ann) (annF:ATup c.args→FuncId→Nat→Option Ann) (h:∀x:ATup c.args,wpFG Tryz.prog W.g (ann x) (annF x) lib fn c x) (h1:Tryz.prog.funcs[f]? =some fn:=by kernel_rfl) (h2:Lr fn c=true:=by kernel_rfl):Ok Tryz.prog f c:=Vz mixed W.ok h1 h2 hl ann annF h
abbrev na {α:Type}:α→Nat→Option Ann:=fun _ _=>none
abbrev Vi (A:Ann):Nat→Option Ann:=fun k=>if k=0 then some A else none
def Jol:Con:={args:=[aB,aI],ress:=[I],owns:=[],pre:=fun _=>[],spec:=fun(b,e,_)=>(bif b then e else 0,())}
def Jpp (a:Bool) (b:Int):=Br a (b=bif a then b else 0) (0=bif a then b else 0)
theorem Kjr [Sx.Dr]:Ok Tryz.prog 36 Jol:=okW W0 Tryz.f36 na fun xx=>by
 obtain⟨(b:Bool),(e:Int),_⟩:=xx
 refine(by kernel_rfl:(Jpp b e)=_).mp ?_
 delta Jpp Br
 cases b<;>simp
abbrev W1 [Sx.Dr]:=W0.add Kjr
theorem Kj4 [Sx.Dr]:Ok Tryz.prog 23 Jol:=okW W1 Tryz.f23 na fun xx=>by
 obtain⟨(b:Bool),(e:Int),_⟩:=xx
 refine(by kernel_rfl:(Jpp b e)=_).mp ?_
 delta Jpp Br
 cases b<;>simp
abbrev W2 [Sx.Dr]:=W1.add Kj4
def Jb (n lo hi:Int):Int:=bif decide (n<lo)||decide (hi<n) then 3 else 0
def Jec:Con:={args:=[aI,aI,aI],ress:=[I],owns:=[],pre:=fun _=>[],spec:=fun(n,lo,hi,_)=>(Jb n lo hi,())}
def Jt2 (a b c:Int):=(bif bif decide (a<b) then true else decide (c<a) then 3 else 0)=Jb a b c
theorem Kjg [Sx.Dr]:Ok Tryz.prog 47 Jec:=okW W2 Tryz.f47 na fun xx=>by
 obtain⟨(n:Int),(lo:Int),(hi:Int),_⟩:=xx
 refine(by kernel_rfl:(Jt2 n lo hi)=_).mp ?_
 delta Jt2
 unfold Jb;cases decide (n<lo)<;>rfl
abbrev W3 [Sx.Dr]:=W2.add Kjg
theorem Kj5 [Sx.Dr]:Ok Tryz.prog 22 Jec:=okW W3 Tryz.f22 na fun xx=>by
 obtain⟨(n:Int),(lo:Int),(hi:Int),_⟩:=xx
 refine(by kernel_rfl:(Jt2 n lo hi)=_).mp ?_
 delta Jt2
 unfold Jb;cases decide (n<lo)<;>rfl
abbrev W4 [Sx.Dr]:=W3.add Kj5
def Ja:List Int→Int
 |[]=>0
 |x::l=>if x=0 then Ja l else x
theorem U6 {l:List Int} {k:Nat} (h:k<l.length):Ja (l.drop k)=if l.getD k 0=0 then Ja (l.drop (k+1)) else l.getD k 0:=by
 rw[List.drop_eq_getElem_cons h]
 simp[Ja,List.getD_eq_getElem?_getD,h]
def Jjr:Con:={args:=[.val false (.list 34 sI)],ress:=[I],owns:=[],pre:=fun(l,_)=>[l.length≤1000000],spec:=fun(l,_)=>(Ja l,())}
abbrev Fr (l:List Int):Ann:={X:=Nat,σ:=fun k=>⟨1,[(5, .one (.sl 0)),(6, .one (.int .i64 l.length)),(7, .one (.int .i64 k))],[(0, .imm 34 sI l)]⟩,inv:=fun k=>k≤l.length∧Ja l=Ja (l.drop k),mu:=fun k=>l.length-k}
def Z1 (a:Nat):=Iw (Nc a+1)
def Z3 (a:Li) (b:Nat):=List.getD a b 0
def Z12 (a:Li):=List.length a≤1000000
def Z22 (a:Nat) (b:Li):=Tw (Bd (Nc a) (Ln b))
def Z25 (a b:Nat):=Nc a+1=Nc b
def Z28 (a:Nat) (b:Li):=decide (Nc a<Ln b)
def Z86 (a:Li) (b c:Nat):=List.length a-b<List.length a-c
def Z93 (a:Li) (b:Nat):=Si (Ln a) (0=Nc b∧a=a)
def Jr7 (a:Li) (b c:Nat):=Si (Ln a) (Z25 b c∧a=a)
def Jla (a:Nat) (b:Li):=a≤List.length b∧Ja b=Ja (List.drop a b)
def Jr3 (a:Li) (b:Nat):=Z3 a b !=0
def Jr1 (a:Nat) (b:Li) (c:Nat):=Jla a b∧Z86 b a c
def Jt0 (a:Li):=Z12 a→∃(x:Nat),Z93 a x∧Jla x a∧∀(x:Nat),Jla x a→Br (Z28 x a) (Z22 x a∧Br (Jr3 a x) (Z3 a x=Ja a) (Z1 x∧∃(y:Nat),Jr7 a x y∧Jr1 y a x)) (0=Ja a)
theorem Kjv [Sx.Dr]:Ok Tryz.prog 32 Jjr:=okW W4 Tryz.f32 (fun xx=>Vi (Fr xx.1)) fun xx=>by
 obtain⟨(l:List Int),_⟩:=xx
 refine(by kernel_rfl:(Jt0 l)=_).mp ?_
 delta Z1 Z3 Z12 Z22 Z25 Z28 Z86 Z93 Jr7 Jla Jr3 Jr1 Jt0 Br Iw Bd Tw Si Ln Nc
 intro hb
 refine⟨(0:Nat),⟨rfl,rfl,rfl⟩,⟨Nat.zero_le _,rfl⟩,fun(k:Nat) hk=>⟨fun h=> ?_,fun h=> ?_⟩⟩
 ·have hlt:k<l.length:=by simpa using h
  have hd:=U6 hlt
  refine⟨by omega,fun h1=> ?_,fun h1=>⟨by omega,(k+1:Nat),⟨rfl,by simp,rfl⟩,⟨by omega, ?_⟩,by omega⟩⟩
  ·have h2:¬l.getD k 0=0:=by simpa using h1
   rw[hk.2,hd,if_neg h2]
  ·have h2:l.getD k 0=0:=by simpa using h1
   rw[hk.2,hd,if_pos h2]
 ·have hlt:¬k<l.length:=by simpa using h
  have:k=l.length:=by omega
  rw[hk.2,this,List.drop_length];rfl
abbrev W5 [Sx.Dr]:=W4.add Kjv
def Jvw:Con:={args:=[.val false (.list 3 sI)],ress:=[I],owns:=[],pre:=fun(l,_)=>[l.length≤1000000],spec:=fun(l,_)=>(Ja l,())}
abbrev Jo1 (l:List Int):Ann:={X:=Nat,σ:=fun k=>⟨1,[(0, .one (.sl 0)),(3, .one (.int .i64 k))],[(0, .imm 3 sI l)]⟩,inv:=fun k=>k≤l.length∧Ja l=Ja (l.drop k),mu:=fun k=>l.length-k}
theorem Kj6 [Sx.Dr]:Ok Tryz.prog 21 Jvw:=okW W5 Tryz.f21 (fun xx=>Vi (Jo1 xx.1)) fun xx=>by
 obtain⟨(l:List Int),_⟩:=xx
 refine(by kernel_rfl:(Z12 l→∃(x:Nat),(0=Nc x∧l=l)∧Jla x l∧∀(x:Nat),Jla x l→Br (Z28 x l) (Z22 x l∧Br (Jr3 l x) (Z22 x l∧Z3 l x=Ja l) (Z1 x∧∃(y:Nat),(Z25 x y∧l=l)∧Jr1 y l x)) (0=Ja l))=_).mp ?_
 delta Z1 Z3 Z12 Z22 Z25 Z28 Z86 Jla Jr3 Jr1 Br Iw Bd Tw Ln Nc
 intro hb
 refine⟨(0:Nat),⟨rfl,rfl⟩,⟨Nat.zero_le _,rfl⟩,fun(k:Nat) hk=>⟨fun h=> ?_,fun h=> ?_⟩⟩
 ·have hlt:k<l.length:=by simpa using h
  have hd:=U6 hlt
  refine⟨by omega,fun h1=>⟨by omega, ?_⟩,fun h1=>⟨by omega,(k+1:Nat),⟨by simp,rfl⟩,⟨by omega, ?_⟩,by omega⟩⟩
  ·have h2:¬l.getD k 0=0:=by simpa using h1
   rw[hk.2,hd,if_neg h2]
  ·have h2:l.getD k 0=0:=by simpa using h1
   rw[hk.2,hd,if_pos h2]
 ·have hlt:¬k<l.length:=by simpa using h
  have:k=l.length:=by omega
  rw[hk.2,this,List.drop_length];rfl
abbrev W6 [Sx.Dr]:=W5.add Kj6
def Ur (a b:Int):Int:=Int.gcd a b
def Jjt:Con:={args:=[aI,aI],ress:=[I],owns:=[],pre:=fun(n,den,_)=>[-9200000000000000000≤n∧n≤9200000000000000000,0≤den∧den≤9200000000000000000],spec:=fun(n,den,_)=>(Ur n den,())}
theorem Ji5 (a b n den:Int) (h:Int.gcd a b=Int.gcd n den):Int.gcd b (a.tmod b)=Int.gcd n den:=by
 rw[←h,Int.gcd_comm a b]
 unfold Int.gcd
 rw[Int.natAbs_tmod,Nat.gcd_comm,←Nat.gcd_rec]
theorem Jlv {a b:Int} (hb:b≠0):(a.tmod b).natAbs<b.natAbs:=by rw[Int.natAbs_tmod];exact Nat.mod_lt _ (by omega)
abbrev Jtw (n den:Int):Ann:={X:=Int×Int,σ:=fun(a,b)=>⟨0,[(0, .one (.int .i64 a)),(1, .one (.int .i64 b))],[]⟩,inv:=fun(a,b)=> -9200000000000000000≤a∧a≤9200000000000000000∧-9200000000000000000≤b∧b≤9200000000000000000∧Int.gcd a b=Int.gcd n den,mu:=fun(_,b)=>b.natAbs}
def Z20:=(-9200000000000000000)
def Jwt (a:Int):=Z20≤a∧a≤9200000000000000000
def J4p (a:Int×Int):=a.2 !=0
def Jwe (a:Int×Int) (b c:Int):=Z20≤a.1∧a.1≤9200000000000000000∧Z20≤a.2∧a.2≤9200000000000000000∧Int.gcd a.1 a.2=Int.gcd b c
def J2f (a:Int×Int) (b c:Int):=(a.2=0→False)∧∃(y:Int×Int),(a.2=y.1∧Int.tmod a.1 a.2=y.2)∧Jwe y b c∧Int.natAbs y.2<Int.natAbs a.2
theorem J7m [Sx.Dr]:Ok Tryz.prog 103 Jjt:=okW W6 Tryz.f103 (fun xx=>Vi (Jtw xx.1 xx.2.1)) fun xx=>by
 obtain⟨(n:Int),(den:Int),_⟩:=xx
 refine(by kernel_rfl:(Jwt n→0≤den∧den≤9200000000000000000→∃(x:Int×Int),(n=x.1∧den=x.2)∧Jwe x n den∧∀(x:Int×Int),Jwe x n den→Br (J4p x) (J2f x n den) (Iw (0-x.1)∧max x.1 (0-x.1)=Ur n den))=_).mp ?_
 delta Z20 Jwt J4p Jwe J2f Br Iw
 intro h1 h2
 refine⟨(n,den),⟨rfl,rfl⟩,⟨by simp only;omega,by simp only;omega,by simp only;omega,by simp only;omega,rfl⟩, ?_⟩
 rintro⟨a,b⟩ ⟨i1,i2,i3,i4,i5⟩
 dsimp only at i1 i2 i3 i4 i5⊢
 refine⟨fun h=> ?_,fun h=> ?_⟩
 ·have hb:b≠0:=by simpa using h
  have hl:=Jlv (a:=a) hb
  exact⟨hb,(b,a.tmod b),⟨rfl,rfl⟩,⟨i3,i4,by dsimp only;omega,by dsimp only;omega,Ji5 a b n den i5⟩,hl⟩
 ·have hb:b=0:=by simpa using h
  subst hb
  have e:Ur n den=a.natAbs:=by unfold Ur;rw[←i5];simp
  rw[e]
  exact⟨by omega,by omega⟩
abbrev W7 [Sx.Dr]:=W6.add J7m
theorem Kjf [Sx.Dr]:Ok Tryz.prog 48 Jjt:=okW W7 Tryz.f48 (fun xx=>Vi (Jtw xx.1 xx.2.1)) fun xx=>by
 obtain⟨(n:Int),(den:Int),_⟩:=xx
 refine(by kernel_rfl:(Jwt n→0≤den∧den≤9200000000000000000→∃(x:Int×Int),(n=x.1∧den=x.2)∧Jwe x n den∧∀(x:Int×Int),Jwe x n den→Br (J4p x) (J2f x n den) (Br (decide (x.1<0)) (Iw (0-x.1)∧0-x.1=Ur n den) (x.1=Ur n den)))=_).mp ?_
 delta Z20 Jwt J4p Jwe J2f Br Iw
 intro h1 h2
 refine⟨(n,den),⟨rfl,rfl⟩,⟨by simp only;omega,by simp only;omega,by simp only;omega,by simp only;omega,rfl⟩, ?_⟩
 rintro⟨a,b⟩ ⟨i1,i2,i3,i4,i5⟩
 dsimp only at i1 i2 i3 i4 i5⊢
 refine⟨fun h=> ?_,fun h=> ?_⟩
 ·have hb:b≠0:=by simpa using h
  have hl:=Jlv (a:=a) hb
  exact⟨hb,(b,a.tmod b),⟨rfl,rfl⟩,⟨i3,i4,by dsimp only;omega,by dsimp only;omega,Ji5 a b n den i5⟩,hl⟩
 ·have hb:b=0:=by simpa using h
  subst hb
  have e:Ur n den=a.natAbs:=by unfold Ur;rw[←i5];simp
  rw[e]
  refine⟨fun h=>⟨by omega, ?_⟩,fun h=> ?_⟩
  ·have h:a<0:=by simpa using h
   omega
  ·have h:¬a<0:=by simpa using h
   omega
abbrev W8 [Sx.Dr]:=W7.add Kjf
def Jn (n d:Int):Int×Int:=(n.tdiv (Ur n d),d.tdiv (Ur n d))
theorem Vn {n d:Int} (h:0<d):0<Ur n d:=by
 unfold Ur
 have:=Nat.gcd_pos_of_pos_right (m:=n.natAbs) (n:=d.natAbs) (by omega)
 unfold Int.gcd
 omega
theorem Lp {a g B:Int} (h: -B≤a∧a≤B): -B≤a.tdiv g∧a.tdiv g≤B:=by
 have h1:(a.tdiv g).natAbs≤a.natAbs:=by rw[Int.natAbs_tdiv];exact Nat.div_le_self _ _
 omega
theorem Jev {n d:Int} (h:0<d):0<d.tdiv (Ur n d):=by
 have h1:=Vn (n:=n) h
 have h2:Ur n d∣d:=Int.gcd_dvd_right n d
 obtain⟨k,hk⟩:=h2
 have h3:d.tdiv (Ur n d)=k:=by
  rw[Int.tdiv_eq_ediv_of_nonneg (by omega)]
  exact Int.ediv_eq_of_eq_mul_right (by omega) hk
 rw[h3]
 rcases Int.lt_or_le 0 k with hk'|hk'
 ·exact hk'
 ·have:=Int.mul_nonpos_of_nonneg_of_nonpos (Int.le_of_lt h1) hk'
  omega
theorem H1 {a b A B:Int} (ha: -A≤a∧a≤A) (hb: -B≤b∧b≤B): -(A*B)≤a*b∧a*b≤A*B:=by
 have h1:(a*b).natAbs≤A.natAbs*B.natAbs:=by rw[Int.natAbs_mul];exact Nat.mul_le_mul (by omega) (by omega)
 have h2:((A.natAbs*B.natAbs:Nat):Int)=A*B:=by
  rw[Int.natCast_mul]
  congr 1<;>omega
 omega
def Jvt:Con:={args:=[aI,aI],ress:=[Pr],owns:=[],pre:=fun(n,den,_)=>[-9200000000000000000≤n∧n≤9200000000000000000,0<den∧den≤9200000000000000000],spec:=fun(n,den,_)=>(Jn n den,())}
theorem Kiq [Sx.Dr]:Ok Tryz.prog 75 Jvt:=okW W8 Tryz.f75 na fun xx=>by
 obtain⟨(n:Int),(den:Int),_⟩:=xx
 refine(by kernel_rfl:(Jwt n→0<den∧den≤9200000000000000000→(Jwt n∧0≤den∧den≤9200000000000000000)∧((Ur n den=0→False)∧Iw (Int.tdiv n (Ur n den))∧(Ur n den=0→False)∧Iw (Int.tdiv den (Ur n den)))∧(Int.tdiv n (Ur n den),Int.tdiv den (Ur n den))=Jn n den)=_).mp ?_
 delta Z20 Jwt Iw
 intro h1 h2
 have hg:=Vn (n:=n) h2.1
 have b1:=Lp (g:=Ur n den) (B:=9200000000000000000) ⟨by omega,h1.2⟩
 have b2:=Lp (a:=den) (g:=Ur n den) (B:=9200000000000000000) ⟨by omega,h2.2⟩
 exact⟨by omega,⟨by omega,by omega,by omega,by omega⟩,rfl⟩
abbrev W9 [Sx.Dr]:=W8.add Kiq
def sA:ByteArray:=⟨⟨[65]⟩⟩
def sB:ByteArray:=⟨⟨[66]⟩⟩
def D4 (s:ByteArray):Int:=bif (!(s.toList==sA.toList))&&(!(s.toList==sB.toList)) then 13 else 0
def Kgd:Con:={args:=[aS],ress:=[I],owns:=[],pre:=fun _=>[],spec:=fun(s,_)=>(D4 s,())}
def Z52:=ByteArray.mk (Array.mk [65])
def Z53:=ByteArray.mk (Array.mk [66])
def Z79 (a:Bt):=Lb a Z53
def Z80 (a:Bt):=Lb a Z52
def J2q (a:Bt):=(bif bif !Z80 a then !Z79 a else false then 13 else 0)=D4 a
theorem Kjt [Sx.Dr]:Ok Tryz.prog 34 Kgd:=okW W9 Tryz.f34 na fun xx=>by
 obtain⟨(s:ByteArray),_⟩:=xx
 refine(by kernel_rfl:(J2q s)=_).mp ?_
 delta Z52 Z53 Z79 Z80 J2q Lb
 unfold D4
 show(bif bif !s.toList==sA.toList then !s.toList==sB.toList else false then(13:Int) else 0)=_
 cases(s.toList==sA.toList)<;>rfl
abbrev W10 [Sx.Dr]:=W9.add Kjt
theorem Kjw [Sx.Dr]:Ok Tryz.prog 31 Kgd:=okW W10 Tryz.f31 na fun xx=>by
 obtain⟨(s:ByteArray),_⟩:=xx
 refine(by kernel_rfl:(J2q s)=_).mp ?_
 delta Z52 Z53 Z79 Z80 J2q Lb
 unfold D4
 show(bif bif !s.toList==sA.toList then !s.toList==sB.toList else false then(13:Int) else 0)=_
 cases(s.toList==sA.toList)<;>rfl
abbrev W11 [Sx.Dr]:=W10.add Kjw
def Jjs:Con:={args:=[aI],ress:=[I],owns:=[],pre:=fun _=>[],spec:=fun(n,_)=>(Jb n (-8) 8,())}
def Z19:=(-8)
def Z98 (a:Int):=Jb a Z19 8
def J3w (a:Int):=Z98 a=Z98 a
theorem Kir [Sx.Dr]:Ok Tryz.prog 74 Jjs:=okW W11 Tryz.f74 na fun xx=>by
 obtain⟨(n:Int),_⟩:=xx
 refine(by kernel_rfl:(J3w n)=_).mp ?_
 delta Z19 Z98 J3w
 rfl
abbrev W12 [Sx.Dr]:=W11.add Kir
theorem Kja [Sx.Dr]:Ok Tryz.prog 53 Jjs:=okW W12 Tryz.f53 na fun xx=>by
 obtain⟨(n:Int),_⟩:=xx
 refine(by kernel_rfl:(J3w n)=_).mp ?_
 delta Z19 Z98 J3w
 rfl
abbrev W13 [Sx.Dr]:=W12.add Kja
def Jw1 (n:Int):Int:=Jb n 1 1099511627776
def Kkn:Con:={args:=[aI],ress:=[I],owns:=[],pre:=fun _=>[],spec:=fun(n,_)=>(Jw1 n,())}
theorem Kjc [Sx.Dr]:Ok Tryz.prog 51 Kkn:=okW W13 Tryz.f51 na fun xx=>by
 obtain⟨(n:Int),_⟩:=xx
 refine(by kernel_rfl:(Jb n 1 1099511627776=Jw1 n)=_).mp ?_
 rfl
abbrev W14 [Sx.Dr]:=W13.add Kjc
def Jdc (x:Int×Int):Int:=Ja [Jb x.1 1 100000,Jb x.2 1 64]
def Kf5:Con:={args:=[aP],ress:=[I],owns:=[],pre:=fun _=>[],spec:=fun(x,_)=>(Jdc x,())}
theorem Khc [Sx.Dr] (x:Int×Int):wpF Tryz.prog W14.g (na ()) Tryz.f72 Kf5 (x,()):=by
 refine(by kernel_rfl:(2≤1000000∧Ja [Jb x.1 1 100000,Jb x.2 1 64]=Jdc x)=_).mp ?_
 exact⟨by simp,rfl⟩
theorem Kit [Sx.Dr]:Ok Tryz.prog 72 Kf5:=Je mixed W14.ok (by kernel_rfl) (by kernel_rfl) na fun xx=>Khc xx.1
abbrev W15 [Sx.Dr]:=W14.add Kit
theorem Jj {α:Type} {l:List α} {k:Nat} {d:α} (h:k<l.length):l.getD k d∈l:=by
 simp[List.getD_eq_getElem?_getD,h]
theorem Jy {α:Type} {d:α} {l:List α} {k:Nat} (h:k<l.length):l.take k++[l.getD k d]=l.take (k+1):=by
 rw[List.take_succ_eq_append_getElem h,List.getD_eq_getElem?_getD,List.getElem?_eq_getElem h];rfl
abbrev Zn (T U:TypeId) (s:Sch) (l:List s.T) (r:Bool×Sch) (g:Bool) (q:Tup [(g,s)]→List Prop) (f:Tup [(g,s)]→r.2.T):Ann:={X:=Nat,σ:=fun k=>⟨3,[(1, .one (.fv 1)),(5, .one (.sl 2)),(8, .one (.sl 0)),(9, .one (.int .i64 l.length)),(10, .one (.int .i64 k))],[(0, .imm T s l),(1, .afn [(g,s)] r q f),(2, .own U r.2 ((l.take k).map fun x=>f (x,())))]⟩,inv:=fun k=>k≤l.length,mu:=fun k=>l.length-k}
def Jtk (T U:TypeId):Con:={args:=[.val false (.list T sI), .fn [I] I],ress:=[(false, .list U sI)],owns:=[true],pre:=fun(l,(q,_),_)=>[l.length≤1000000,∀x∈l,Kf (q (x,()))],spec:=fun(l,(_,f),_)=>(l.map fun x=>f (x,()),())}
def Z34 (a:Li) (b:Nat):=(Z3 a b,PUnit.unit)
def Z85 (a:Li) (b:Int):=b∈a
def Jwu (a:Int×Unit→Int) (b:Nat) (c:Li):=List.map (fun(x:Int)=>a (x,PUnit.unit)) (List.take b c)
def Jpo (a:Li) (b:Int×Unit→List Prop):=∀(x:Int),Z85 a x→Kf (b (x,PUnit.unit))
def J1v (a:Li) (b:Int×Unit→List Prop) (c:Int×Unit→Int):=Z12 a→Jpo a b→∃(x:Nat),Si (Ln a) (0=Nc x∧Sf a ((fun(x:Int×PUnit)=>b x)=b∧(fun(x:Int×PUnit)=>c x)=c∧List.length (Jwu c x a)=0))∧x≤List.length a∧∀(x:Nat),x≤List.length a→Br (Z28 x a) (Z22 x a∧(Kf (b (Z34 a x))∧(List.length (Jwu c x a)+1)*8≤140737488355328)∧Z1 x∧∃(y:Nat),Si (Ln a) (Z25 x y∧Sf a ((fun(x:Int×PUnit)=>b x)=b∧(fun(x:Int×PUnit)=>c x)=c∧Jwu c x a++[c (Z34 a x)]=Jwu c y a))∧y≤List.length a∧Z86 a y x) (Jwu c x a=List.map (fun(x:Int)=>c (x,PUnit.unit)) a)
theorem Kis [Sx.Dr]:Ok Tryz.prog 73 (Jtk 3 34):=okW W15 Tryz.f73 (fun xx=>Vi (Zn 3 34 sI xx.1 I false xx.2.1.1 xx.2.1.2)) fun xx=>by
 obtain⟨(l:List Int),⟨(q:Int×Unit→List Prop),(f:Int×Unit→Int)⟩,_⟩:=xx
 refine(by kernel_rfl:(J1v l q f)=_).mp ?_
 delta Z1 Z3 Z12 Z22 Z25 Z28 Z34 Z85 Z86 Jwu Jpo J1v Br Iw Bd Tw Sf Si Ln Nc
 intro hb hq
 refine⟨(0:Nat),⟨rfl,rfl,rfl,rfl,rfl,by simp⟩,Nat.zero_le _,fun(k:Nat) hk=>⟨fun h=> ?_,fun h=> ?_⟩⟩
 ·have hlt:k<l.length:=by simpa using h
  refine⟨by omega,⟨hq _ (Jj hlt),by simp only[List.length_map,List.length_take];omega⟩,by omega,(k+1:Nat),⟨rfl,by simp,rfl,rfl,rfl, ?_⟩,by omega,by omega⟩
  rw[←Jy (d:=0) hlt,List.map_append];rfl
 ·have hlt:¬k<l.length:=by simpa using h
  rw[List.take_of_length_le (by omega)]
abbrev W16 [Sx.Dr]:=W15.add Kis
def Jzc:Con:={args:=[.val false (.list 91 sPt), .fn [Pr] I],ress:=[(false, .list 34 sI)],owns:=[true],pre:=fun(l,(q,_),_)=>[l.length≤1000000,∀x∈l,Kf (q (x,()))],spec:=fun(l,(_,f),_)=>(l.map fun x=>f (x,()),())}
def Z8 (a:List (Int×Int)):=List.length a
def Jxp (a:(Int×Int)×Unit→Int) (b:Nat) (c:List (Int×Int)):=List.map (fun(x:Int×Int)=>a (x,PUnit.unit)) (List.take b c)
theorem Kiu [Sx.Dr]:Ok Tryz.prog 71 Jzc:=okW W16 Tryz.f71 (fun xx=>Vi (Zn 91 34 sPt xx.1 I true xx.2.1.1 xx.2.1.2)) fun xx=>by
 obtain⟨(l:List (Int×Int)),⟨(q:(Int×Int)×Unit→List Prop),(f:(Int×Int)×Unit→Int)⟩,_⟩:=xx
 refine(by kernel_rfl:(Z8 l≤1000000→(∀(x:Int×Int),x∈l→Kf (q (x,PUnit.unit)))→∃(x:Nat),Si (Ln l) (0=Nc x∧Sf l ((fun(x:(Int×Int)×PUnit)=>q x)=q∧(fun(x:(Int×Int)×PUnit)=>f x)=f∧List.length (Jxp f x l)=0))∧x≤Z8 l∧∀(x:Nat),x≤Z8 l→Br (decide (Nc x<Ln l)) (Tw (Bd (Nc x) (Ln l))∧(Kf (q (E2 (List.getD l x (0,0)),PUnit.unit))∧(List.length (Jxp f x l)+1)*8≤140737488355328)∧Z1 x∧∃(y:Nat),Si (Ln l) (Z25 x y∧Sf l ((fun(x:(Int×Int)×PUnit)=>q x)=q∧(fun(x:(Int×Int)×PUnit)=>f x)=f∧Jxp f x l++[f (E2 (List.getD l x (0,0)),PUnit.unit)]=Jxp f y l))∧y≤Z8 l∧Z8 l-y<Z8 l-x) (Jxp f x l=List.map (fun(x:Int×Int)=>f (x,PUnit.unit)) l))=_).mp ?_
 delta Z1 Z8 Z25 Jxp Br Iw Bd Tw Sf Si Ln Nc E2
 intro hb hq
 refine⟨(0:Nat),⟨rfl,rfl,rfl,rfl,rfl,by simp⟩,Nat.zero_le _,fun(k:Nat) hk=>⟨fun h=> ?_,fun h=> ?_⟩⟩
 ·have hlt:k<l.length:=by simpa using h
  refine⟨by omega,⟨hq (l.getD k (0,0)) (Jj hlt),by simp only[List.length_map,List.length_take];omega⟩,by omega,(k+1:Nat),⟨rfl,by simp,rfl,rfl,rfl, ?_⟩,by omega,by omega⟩
  rw[←Jy (d:=(0,0)) hlt,List.map_append];rfl
 ·have hlt:¬k<l.length:=by simpa using h
  rw[List.take_of_length_le (by omega)]
abbrev W17 [Sx.Dr]:=W16.add Kiu
abbrev Cab:Type:=List (Int×Int)×List Int×Int×Int
abbrev J5s (T:TypeId):Sch:= .prod (.list T sPt) (.prod (.list 3 sI) (.prod sI sI))
abbrev aC:AK:= .val true (J5s 91)
abbrev aCR:AK:= .val true (J5s 68)
def Jf8 (n:Int):Int:=Jb n (-8) 8
def Uc (c:Cab):Int:=
 if c.1.length=0 then 12 else if 6<c.1.length then 5 else
 Ja [Ja (c.1.map Jdc),(if(c.2.1.length:Int)≠c.1.length-1 then 2 else 0),Ja (c.2.1.map Jf8),Ja [Jf8 c.2.2.1,Jf8 c.2.2.2]]
def Kge:Con:={args:=[aC],ress:=[I],owns:=[],pre:=fun(c,_)=>[c.1.length≤1000000,c.2.1.length≤1000000],spec:=fun(c,_)=>(Uc c,())}
theorem Kh {n:Int}:(n !=0)=true↔n≠0:=by simp
theorem Jz {n:Int}:(n !=0)=false↔n=0:=by simp
def Z4 (a:Cab):=Ln a.1
def Z13 (a:Cab):=List.length a.1
def Z26 (a:Cab):=List.length a.2.1≤1000000
def Z30 (a:Cab):=List.length a.2.1≤1000000
def Z51 (a:Cab):=Z4 a-1
def Z64 (a:Cab):=Z13 a≤1000000
def Z67 (a:Cab):=List.length a.1≤1000000
def Z70 (a:Cab):=Iw (Z51 a)
def Kej (a:Cab):=List.map (fun(x:Int)=>Z98 x) a.2.1
def J3x (a:Cab):=Ln a.2.1 !=Z51 a
def J26 (a:Cab):=Ja [Jb a.2.2.1 Z19 8,Jb a.2.2.2 Z19 8]
def Kay (a:Cab):=Ja [bif Z4 a==0 then 12 else 0,bif decide (6<Z4 a) then 5 else 0]
theorem Kho [Sx.Dr] (c:Cab):wpF Tryz.prog W17.g (na ()) Tryz.f43 Kge (c,()):=by
 refine(by kernel_rfl:(Z64 c→Z30 c→2≤1000000∧Br (Kay c !=0) (Kay c=Uc c) ((Z67 c∧(∀(x:Int×Int),x∈c.1→True)∧List.length (List.map (fun(x:Int×Int)=>Jdc x) c.1)≤1000000∧Z70 c∧Z26 c∧(∀(x:Int),x∈c.2.1→True)∧List.length (Kej c)≤1000000∧2≤1000000∧(∀(x:Int),x∈[c.2.2.1,c.2.2.2]→True)∧2≤1000000∧4≤1000000)∧Ja [Ja (List.map (fun(x:Int×Int)=>Jdc x) c.1),bif J3x c then 2 else 0,Ja (Kej c),J26 c]=Uc c))=_).mp ?_
 delta Z4 Z13 Z19 Z26 Z30 Z51 Z64 Z67 Z70 Z98 Kej J3x J26 Kay Br Iw Ln
 intro h1 h2
 unfold Uc
 have e1:Ja [bif (c.1.length:Int)==0 then 12 else 0,bif decide ((6:Int)<c.1.length) then 5 else 0]=if c.1.length=0 then 12 else if 6<c.1.length then 5 else 0:=by
  simp only[Ja,Bool.cond_eq_ite,beq_iff_eq,decide_eq_true_eq]
  repeat' split
  all_goals omega
 rw[e1]
 refine⟨by omega,fun h=> ?_,fun h=>⟨⟨h1,fun _ _=>trivial,by simpa using h1,by omega,h2,fun _ _=>trivial,by simpa using h2,by omega,fun _ _=>trivial,by omega,by omega⟩, ?_⟩⟩
 ·have h:=Kh.1 h
  by_cases h0:c.1.length=0
  ·rw[if_pos h0,if_pos h0]
  ·rw[if_neg h0] at h⊢
   rw[if_neg h0]
   by_cases h6:6<c.1.length
   ·rw[if_pos h6,if_pos h6]
   ·rw[if_neg h6] at h;exact absurd rfl h
 ·have h:=Jz.1 h
  by_cases h0:c.1.length=0
  ·rw[if_pos h0] at h;cases h
  ·rw [if_neg h0] at h ⊢
   by_cases h6:6<c.1.length
   ·rw[if_pos h6] at h;cases h
   ·rw[if_neg h6]
    have e2:(bif ((c.2.1.length:Int) !=c.1.length-1) then(2:Int) else 0)=if(c.2.1.length:Int)≠c.1.length-1 then 2 else 0:=by
     by_cases h3:(c.2.1.length:Int)=c.1.length-1
     ·simp[h3]
     ·have:((c.2.1.length:Int) !=c.1.length-1)=true:=by simpa using h3
      rw[this,if_pos h3];rfl
    rw[e2]
    rfl
theorem Kjk [Sx.Dr]:Ok Tryz.prog 43 Kge:=Je mixed W17.ok (by kernel_rfl) (by kernel_rfl) na fun xx=>Kho xx.1
abbrev W18 [Sx.Dr]:=W17.add Kjk
def Jzp:Con:={args:=[aCR],ress:=[I],owns:=[],pre:=fun(c,_)=>[c.1.length≤1000000,c.2.1.length≤1000000],spec:=fun(c,_)=>(Uc c,())}
theorem Ja8 {α:Type} {f:α→Int} {d:α} {l:List α} {k:Nat} (h:k<l.length):Ja ((l.drop k).map f)=if f (l.getD k d)=0 then Ja ((l.drop (k+1)).map f) else f (l.getD k d):=by
 rw[List.drop_eq_getElem_cons h,List.map_cons,List.getD_eq_getElem?_getD,List.getElem?_eq_getElem h]
 rfl
theorem K0 {x:Int} {l:List Int}:Ja (x::l)=if x=0 then Ja l else x:=rfl
abbrev Jo6 (c:Cab):Ann:={X:=Nat,σ:=fun k=>⟨3,[(1, .one (.ptr 2 0)),(3, .one (.int .i64 k))],[(0, .imm 68 sPt c.1),(1, .imm 3 sI c.2.1),(2, .box 26 [.sl 0, .sl 1, .int .i64 c.2.2.1, .int .i64 c.2.2.2])]⟩,inv:=fun k=>k≤c.1.length∧c.1.length≠0∧c.1.length≤6∧Ja (c.1.map Jdc)=Ja ((c.1.drop k).map Jdc),mu:=fun k=>c.1.length-k}
abbrev Jo5 (c:Cab):Ann:={X:=Nat,σ:=fun k=>⟨3,[(1, .one (.ptr 2 0)),(5, .one (.int .i64 k))],[(0, .imm 68 sPt c.1),(1, .imm 3 sI c.2.1),(2, .box 26 [.sl 0, .sl 1, .int .i64 c.2.2.1, .int .i64 c.2.2.2])]⟩,inv:=fun k=>k≤c.2.1.length∧c.1.length≠0∧c.1.length≤6∧Ja (c.1.map Jdc)=0∧(c.2.1.length:Int)=c.1.length-1∧Ja (c.2.1.map Jf8)=Ja ((c.2.1.drop k).map Jf8),mu:=fun k=>c.2.1.length-k}
def Z40 (a:Nat) (b:Cab):=a≤Z13 b
def Z56 (a:Nat) (b:Cab):=Bd (Nc a) (Z4 b)
def Z72 (a:Nat) (b:Cab):=decide (Nc a<Z4 b)
def Z89 (a:Cab) (b:Nat):=List.getD a.1 b (0,0)
def Jr8 (a:Cab) (b:Nat):=(Z89 a b).2
def Ker (a:Cab):=a.1=a.1∧a.2.1=a.2.1∧Si a.2.2.1 (a.2.2.2=a.2.2.2)
def Jr6 (a:Cab) (b c:Nat):=Z13 a-b<Z13 a-c
def Kek (a:Cab) (b:Nat):=Jb (List.getD a.2.1 b 0) Z19 8
def Kd4 (a:Nat) (b:Cab):=0=Nc a∧Ker b
def Kdv (a b:Nat) (c:Cab):=Z25 a b∧Ker c
def Kat (a:Cab) (b:Nat):=Ja [Jb (Z89 a b).1 1 100000,Jb (Jr8 a b) 1 64]
def J2j (a:Nat) (b:Cab):=Z40 a b∧(Z13 b=0→False)∧Z13 b≤6∧Ja (List.map Jdc b.1)=Ja (List.map Jdc (List.drop a b.1))
def J18 (a:Nat) (b:Cab):=a≤List.length b.2.1∧(Z13 b=0→False)∧Z13 b≤6∧Ja (List.map Jdc b.1)=0∧Ln b.2.1=Z51 b∧Ja (List.map Jf8 b.2.1)=Ja (List.map Jf8 (List.drop a b.2.1))
theorem Khv [Sx.Dr] (c:Cab):wpF Tryz.prog W18.g (fun k=>if k=0 then some (Jo6 c) else if k=2 then some (Jo5 c) else none) Tryz.f20 Jzp (c,()):=by
 refine(by kernel_rfl:(Z64 c→Z30 c→Br (Z4 c==0) (12=Uc c) (Br (decide (6<Z4 c)) (5=Uc c) (∃(x:Nat),Kd4 x c∧J2j x c∧∀(x:Nat),J2j x c→Br (Z72 x c) (T2 (Z56 x c) (T2 (Z56 x c) (2≤1000000))∧Br (Kat c x !=0) (Kat c x=Uc c) (Z1 x∧∃(y:Nat),Kdv x y c∧J2j y c∧Jr6 c y x)) (Z70 c∧Br (J3x c) (2=Uc c) (∃(x:Nat),Kd4 x c∧J18 x c∧∀(x:Nat),J18 x c→Br (decide (Nc x<Ln c.2.1)) (Tw (Bd (Nc x) (Ln c.2.1))∧Br (Kek c x !=0) (Kek c x=Uc c) (Z1 x∧∃(y:Nat),Kdv x y c∧J18 y c∧List.length c.2.1-y<List.length c.2.1-x)) (2≤1000000∧J26 c=Uc c))))))=_).mp ?_
 delta Z1 Z4 Z13 Z19 Z25 Z30 Z40 Z51 Z56 Z64 Z70 Z72 Z89 Jr8 Ker Jr6 Kek Kd4 Kdv J3x J26 Kat J2j J18 Br Iw Bd T2 Tw Si Ln Nc
 intro h1 h2
 refine⟨fun h=> ?_,fun h=>⟨fun h'=> ?_,fun h'=> ?_⟩⟩
 ·have h:c.1.length=0:=by have:=eq_of_beq h;omega
  unfold Uc;rw[if_pos h]
 ·have h:¬c.1.length=0:=by have:=ne_of_beq_false h;omega
  have h':6<c.1.length:=by have:=of_decide_eq_true h';omega
  unfold Uc;rw[if_neg h,if_pos h']
 have h:¬c.1.length=0:=by have:=ne_of_beq_false h;omega
 have h':¬6<c.1.length:=by have:=of_decide_eq_false h';omega
 have hc:Uc c=Ja [Ja (c.1.map Jdc),(if(c.2.1.length:Int)≠c.1.length-1 then 2 else 0),Ja (c.2.1.map Jf8),Ja [Jf8 c.2.2.1,Jf8 c.2.2.2]]:=by unfold Uc;rw[if_neg h,if_neg h']
 refine⟨(0:Nat),⟨rfl,rfl,rfl,rfl,rfl⟩,⟨Nat.zero_le _,h,by omega,rfl⟩, ?_⟩
 rintro k ⟨k1,k2,k3,k4⟩
 refine⟨fun hk=> ?_,fun hk=> ?_⟩
 ·have hk:k<c.1.length:=by have:=of_decide_eq_true hk;omega
  have hd:=Ja8 (f:=Jdc) (d:=(0,0)) hk
  refine⟨⟨by omega,by omega,by omega,by omega,by omega⟩,fun hb=> ?_,fun hb=>⟨by omega,(k+1:Nat),⟨by omega,rfl,rfl,rfl,rfl⟩,⟨by omega,k2,k3, ?_⟩,by omega⟩⟩
  ·have hb:¬Jdc (c.1.getD k (0,0))=0:=Kh.1 hb
   rw[if_neg hb] at hd
   show Jdc (c.1.getD k (0,0))=Uc c
   rw[hc,k4,hd,K0,if_neg hb]
  ·have hb:Jdc (c.1.getD k (0,0))=0:=Jz.1 hb
   rw[if_pos hb] at hd
   rw[k4,hd]
 have hk:k=c.1.length:=by have:=of_decide_eq_false hk;omega
 have hz:Ja (c.1.map Jdc)=0:=by rw[k4,hk,List.drop_length];rfl
 rw[K0,if_pos hz] at hc
 refine⟨by omega,fun hj=> ?_,fun hj=> ?_⟩
 ·have hj:(c.2.1.length:Int)≠c.1.length-1:=by simpa using hj
  rw[if_pos hj] at hc
  rw[hc];rfl
 have hj:(c.2.1.length:Int)=c.1.length-1:=by simpa using hj
 rw[if_neg (by simpa using hj),K0,if_pos rfl] at hc
 refine⟨(0:Nat),⟨rfl,rfl,rfl,rfl,rfl⟩,⟨Nat.zero_le _,h,by omega,hz,hj,rfl⟩, ?_⟩
 rintro m ⟨m1,m2,m3,m4,m5,m6⟩
 refine⟨fun hm=> ?_,fun hm=> ?_⟩
 ·have hm:m<c.2.1.length:=by have:=of_decide_eq_true hm;omega
  have hd:=Ja8 (f:=Jf8) (d:=(0:Int)) hm
  refine⟨⟨by omega,by omega⟩,fun hb=> ?_,fun hb=>⟨by omega,(m+1:Nat),⟨by omega,rfl,rfl,rfl,rfl⟩,⟨by omega,m2,m3,m4,m5, ?_⟩,by omega⟩⟩
  ·have hb:¬Jf8 (c.2.1.getD m 0)=0:=Kh.1 hb
   rw[if_neg hb] at hd
   show Jf8 (c.2.1.getD m 0)=Uc c
   rw[hc,m6,hd,K0,if_neg hb]
  ·have hb:Jf8 (c.2.1.getD m 0)=0:=Jz.1 hb
   rw[if_pos hb] at hd
   rw[m6,hd]
 have hm:m=c.2.1.length:=by have:=of_decide_eq_false hm;omega
 have hz2:Ja (c.2.1.map Jf8)=0:=by rw[m6,hm,List.drop_length];rfl
 rw[K0,if_pos hz2] at hc
 have h1s:∀x:Int,Ja [x]=x:=fun x=>by unfold Ja;split<;>simp_all [Ja]
 rw[h1s] at hc
 rw[hc]
 exact⟨by omega,rfl⟩
theorem Kj7 [Sx.Dr]:Ok Tryz.prog 20 Jzp:=Je mixed W18.ok (by kernel_rfl) (by kernel_rfl) (fun xx=>fun k=>if k=0 then some (Jo6 xx.1) else if k=2 then some (Jo5 xx.1) else none) fun xx=>Khv xx.1
abbrev W19 [Sx.Dr]:=W18.add Kj7
theorem Ji:∀{l:List Int},Ja l=0→∀x∈l,x=0
 |[],_,x,hx=>by simp at hx
 | y :: l, h, x, hx => by
  rw[K0] at h
  split at h
  ·rename_i e
   rcases List.mem_cons.1 hx with rfl|hx
   ·exact e
   ·exact Ji h x hx
  ·rename_i e;exact absurd h e
theorem Jc {n lo hi:Int}:Jb n lo hi=0↔lo≤n∧n≤hi:=by
 unfold Jb
 by_cases h1:n<lo
 ·simp[h1]<;>omega
 ·by_cases h2:hi<n
  ·simp[h2]<;>omega
  ·simp[h1,h2]<;>omega
def Yb (c:Cab):Prop:=0<c.1.length∧c.1.length≤6∧(∀x∈c.1,1≤x.1∧x.1≤100000∧1≤x.2∧x.2≤64)∧c.2.1.length+1=c.1.length∧(∀n∈c.2.1,-8≤n∧n≤8)∧(-8≤c.2.2.1∧c.2.2.1≤8)∧-8≤c.2.2.2∧c.2.2.2≤8
theorem Xx {c:Cab} (h:Uc c=0):Yb c:=by
 unfold Uc at h
 split at h
 ·cases h
 rename_i h0
 split at h
 ·cases h
 rename_i h6
 have hz:=Ji h
 simp only[List.mem_cons,List.not_mem_nil,or_false,forall_eq_or_imp,forall_eq] at hz
 obtain⟨a1,a2,a3,a4⟩:=hz
 have a1':=Ji a1
 have a3':=Ji a3
 have a4':=Ji a4
 simp only[List.mem_cons,List.not_mem_nil,or_false,forall_eq_or_imp,forall_eq] at a4'
 have hj:(c.2.1.length:Int)=c.1.length-1:=by
  by_cases e:(c.2.1.length:Int)=c.1.length-1
  ·exact e
  ·rw[if_pos e] at a2;cases a2
 refine⟨by omega,by omega,fun x hx=> ?_,by omega,fun n hn=> ?_,Jc.1 a4'.1,Jc.1 a4'.2⟩
 ·have:=Ji (a1' (Jdc x) (List.mem_map.2 ⟨x,hx,rfl⟩))
  simp only[List.mem_cons,List.not_mem_nil,or_false,forall_eq_or_imp,forall_eq] at this
  have b1:=Jc.1 this.1
  have b2:=Jc.1 this.2
  exact⟨b1.1,b1.2,b2.1,b2.2⟩
 ·exact Jc.1 (a3' (Jf8 n) (List.mem_map.2 ⟨n,hn,rfl⟩))
def Ks:List (Int×Int)→Int×Int
 |[]=>(0,0)
 |x::r=>(x.1+(Ks r).1,x.2+(Ks r).2)
theorem Jl8 (l:List (Int×Int)) (x:Int×Int):Ks (l++[x])=((Ks l).1+x.1,(Ks l).2+x.2):=by
 induction l with
 |nil=>simp[Ks]
 |cons y l ih=>simp only[List.cons_append,Ks,ih];ext<;>simp only<;>omega
theorem Uk:∀{l:List (Int×Int)},(∀x∈l,1≤x.1∧x.1≤100000∧1≤x.2∧x.2≤64)→(l.length:Int)≤(Ks l).1∧(Ks l).1≤100000*l.length∧(l.length:Int)≤(Ks l).2∧(Ks l).2≤64*l.length
 |[],_=>by simp[Ks]
 |x::r,h=>by
  have h1:=h x (by simp)
  have h2:=Uk (l:=r) fun y hy=>h y (by simp[hy])
  simp only[Ks,List.length_cons]
  omega
theorem Fx {l:List (Int×Int)} {k:Nat} (h:k<l.length):Ks (l.take (k+1))=((Ks (l.take k)).1+(l.getD k (0,0)).1,(Ks (l.take k)).2+(l.getD k (0,0)).2):=by
 rw[←Jy (d:=(0,0)) h,Jl8]
theorem Jew {l:List (Int×Int)} (h:∀x∈l,1≤x.1∧x.1≤100000∧1≤x.2∧x.2≤64) (k:Nat):∀x∈l.take k,1≤x.1∧x.1≤100000∧1≤x.2∧x.2≤64:=fun x hx=>h x (List.mem_of_mem_take hx)
def Jte:Con:={args:=[aC],ress:=[Pr],owns:=[],pre:=fun(c,_)=>[Uc c=0],spec:=fun(c,_)=>(Ks c.1,())}
abbrev Jj2 (c:Cab):Ann:={X:=Nat,σ:=fun k=>⟨5,[(2, .one (.ptr 3 0)),(3, .one (.ptr 4 0)),(7, .one (.sl 0)),(8, .one (.int .i64 c.1.length)),(9, .one (.int .i64 k))],[(0, .imm 91 sPt c.1),(3, .box 24 [.int .i64 0, .int .i64 0]),(4, .box 24 [.int .i64 (Ks (c.1.take k)).1, .int .i64 (Ks (c.1.take k)).2])]⟩,inv:=fun k=>k≤c.1.length,mu:=fun k=>c.1.length-k}
def Z16 (a:Nat) (b:Cab):=List.take a b.1
def Z45 (a:Nat) (b:Cab):=Ks (Z16 a b)
def Kd2 (a:Nat) (b:Cab):=(Z45 a b).2+Jr8 b a
def Kd1 (a:Nat) (b:Cab):=(Z45 a b).1+(Z89 b a).1
def J3u (a:Nat) (b:Cab) (c:Nat):=Z40 a b∧Jr6 b a c
theorem Khm [Sx.Dr] (c:Cab):wpF Tryz.prog W19.g (Vi (Jj2 c)) Tryz.f45 Jte (c,()):=by
 refine(by kernel_rfl:(Uc c=0→∃(x:Nat),Si (Z4 c) (0=Nc x∧c.1=c.1∧Si 0 (Si 0 (0=(Z45 x c).1∧0=(Z45 x c).2)))∧Z40 x c∧∀(x:Nat),Z40 x c→Br (Z72 x c) (Tw (Z56 x c)∧Iw (Kd1 x c)∧Iw (Kd2 x c)∧Z1 x∧∃(y:Nat),Si (Z4 c) (Z25 x y∧c.1=c.1∧Si 0 (Si 0 (Kd1 x c=(Z45 y c).1∧Kd2 x c=(Z45 y c).2)))∧J3u y c x) (E2 (Z45 x c)=Ks c.1))=_).mp ?_
 delta Z1 Z4 Z13 Z16 Z25 Z40 Z45 Z56 Z72 Z89 Jr8 Jr6 Kd2 Kd1 J3u Br Iw Bd Tw Si Ln Nc E2
 intro h
 have hv:Yb c:=Xx h
 obtain⟨v1,v2,v3,v4,v5,v6,v7⟩:=id hv
 refine⟨(0:Nat),⟨rfl,rfl,rfl,rfl,rfl,rfl,rfl⟩,Nat.zero_le _,fun(k:Nat) hk=>⟨fun hlt=> ?_,fun hlt=> ?_⟩⟩
 ·have hlt:k<c.1.length:=by have:=of_decide_eq_true hlt;omega
  have e:=Fx hlt
  have b:=Uk (Jew v3 (k+1))
  have hl:(c.1.take (k+1)).length≤6:=by rw[List.length_take];omega
  have b0:=Uk (Jew v3 k)
  rw[e] at b
  dsimp only at b
  refine⟨by omega,by omega,by omega,by omega,(k+1:Nat),⟨rfl,by omega,rfl,rfl,rfl,by rw[e],by rw[e]⟩,by omega,by omega⟩
 ·have hlt:¬k<c.1.length:=by have:=of_decide_eq_false hlt;omega
  rw[List.take_of_length_le (by omega)]
theorem Kji [Sx.Dr]:Ok Tryz.prog 45 Jte:=Je mixed W19.ok (by kernel_rfl) (by kernel_rfl) (fun xx=>Vi (Jj2 xx.1)) fun xx=>Khm xx.1
abbrev W20 [Sx.Dr]:=W19.add Kji
def Jf (den:Int):List (Int×Int)→Int→Int→Int×Int
 |[],at_,_=>Jn at_ 1
 |s::r,at_,num=>if num≤s.2*den then Jn (at_*s.2*den+s.1*num) (s.2*den) else Jf den r (at_+s.1) (num-s.2*den)
theorem Jfl (den:Int) {l:List (Int×Int)} {k:Nat} (h:k<l.length) (a n:Int):Jf den (l.drop k) a n=if n≤(l.getD k (0,0)).2*den then Jn (a*(l.getD k (0,0)).2*den+(l.getD k (0,0)).1*n) ((l.getD k (0,0)).2*den) else Jf den (l.drop (k+1)) (a+(l.getD k (0,0)).1) (n-(l.getD k (0,0)).2*den):=by
 rw[List.drop_eq_getElem_cons h,List.getD_eq_getElem?_getD,List.getElem?_eq_getElem h];rfl
theorem Jch (n:Int):Jn n 1=(n,1):=by
 have:Ur n 1=1:=by unfold Ur;simp
 unfold Jn;rw[this];simp
def Jtj:Con:={args:=[aC,aI],ress:=[Pr],owns:=[],pre:=fun(c,n,_)=>[Uc c=0,-1000000000000≤n∧n≤1000000000000],spec:=fun(c,n,_)=>(Jf 2 c.1 0 n,())}
abbrev Jj3 (c:Cab) (n:Int):Ann:={X:=Nat×Int×Int,σ:=fun p=>⟨4,[(1, .one (.int .i64 p.2.2)),(4, .one (.ptr 3 0)),(5, .one (.int .i64 p.2.1)),(9, .one (.sl 0)),(10, .one (.int .i64 c.1.length)),(11, .one (.int .i64 p.1))],[(0, .imm 91 sPt c.1),(3, .box 70 [.int .i64 0, .int .i64 0])]⟩,inv:=fun p=>p.1≤c.1.length∧(0≤p.2.1∧p.2.1≤100000*p.1)∧(-1000000000000-1000*p.1≤p.2.2∧p.2.2≤1000000000000+1000*p.1)∧Jf 2 c.1 0 n=Jf 2 (c.1.drop p.1) p.2.1 p.2.2,mu:=fun p=>c.1.length-p.1}
def Z6:=Tw ((0:Int)=0)
def Z15:=(-1000000000000)
def J1d (a:Cab) (b:Nat×Int×Int):=(List.getD a.1 b.1 (0,0)).1
def Jpr (a:Cab) (b:Nat×Int×Int):=2*(List.getD a.1 b.1 (0,0)).2
def J05 (a:Cab) (b:Nat×Int×Int):=Iw (Jpr a b)
def J0l (a:Cab) (b:Nat×Int×Int):=Jpr a b*b.2.1+J1d a b*b.2.2
def J2c (a:Nat×Int×Int) (b:Cab) (c:Int):=a.1≤Z13 b∧(0≤a.2.1∧a.2.1≤100000*Nc a.1)∧(Z15-1000*Nc a.1≤a.2.2∧a.2.2≤(1000000000000:Int)+1000*Nc a.1)∧Jf 2 b.1 0 c=Jf 2 (List.drop a.1 b.1) a.2.1 a.2.2
theorem Khl [Sx.Dr] (c:Cab) (n:Int):wpF Tryz.prog W20.g (Vi (Jj3 c n)) Tryz.f46 Jtj (c,n,()):=by
 refine(by kernel_rfl:(Uc c=0→Z15≤n∧n≤1000000000000→∃(x:Nat×Int×Int),(n=x.2.2∧0=x.2.1∧Si (Z4 c) (0=Nc x.1∧c.1=c.1∧Z6))∧J2c x c n∧∀(x:Nat×Int×Int),J2c x c n→Br (decide (Nc x.1<Z4 c)) (Tw (Bd (Nc x.1) (Z4 c))∧J05 c x∧Br (decide (x.2.2≤Jpr c x)) ((J05 c x∧Iw (Jpr c x*x.2.1)∧Iw (J1d c x*x.2.2)∧Iw (J0l c x)∧J05 c x∧(Z20≤J0l c x∧J0l c x≤9200000000000000000)∧0<Jpr c x∧Jpr c x≤9200000000000000000)∧E2 (Jn (J0l c x) (Jpr c x))=Jf 2 c.1 0 n) ((J05 c x∧Iw (x.2.2-Jpr c x))∧Iw (x.2.1+J1d c x)∧Iw (Nc x.1+1)∧∃(y:Nat×Int×Int),(x.2.2-Jpr c x=y.2.2∧x.2.1+J1d c x=y.2.1∧Si (Z4 c) (Nc x.1+1=Nc y.1∧c.1=c.1∧Z6))∧J2c y c n∧Z13 c-y.1<Z13 c-x.1)) ((x.2.1,1)=Jf 2 c.1 0 n))=_).mp ?_
 delta Z4 Z6 Z13 Z15 Z20 J1d Jpr J05 J0l J2c Br Iw Bd Tw Si Ln Nc E2
 intro h hn
 have hv:Yb c:=Xx h
 obtain⟨v1,v2,v3,v4,v5,v6,v7⟩:=id hv
 refine⟨(0,0,n),⟨rfl,rfl,rfl,rfl,rfl,rfl,rfl⟩,⟨Nat.zero_le _,by dsimp only;omega,by dsimp only;omega,rfl⟩, ?_⟩
 rintro⟨k,a,m⟩ ⟨k1,k2,k3,k4⟩
 dsimp only at k1 k2 k3 k4⊢
 refine⟨fun hlt=> ?_,fun hlt=> ?_⟩
 ·have hlt:k<c.1.length:=by have:=of_decide_eq_true hlt;omega
  have hd:=Jfl 2 hlt a m
  have hs:=v3 _ (Jj (d:=(0,0)) hlt)
  generalize c.1.getD k (0,0)=s at*
  have e2:s.2*2=2*s.2:=Int.mul_comm _ _
  rw[e2] at hd
  refine⟨by omega,by omega,fun hc=> ?_,fun hc=> ?_⟩
  ·have hc:m≤2*s.2:=of_decide_eq_true hc
   rw[if_pos hc] at hd
   have m1:=H1 (a:=2*s.2) (b:=a) (A:=128) (B:=600000) ⟨by omega,by omega⟩ ⟨by omega,by omega⟩
   have m2:=H1 (a:=s.1) (b:=m) (A:=100000) (B:=1000000006000) ⟨by omega,by omega⟩ ⟨by omega,by omega⟩
   have e3:a*s.2*2=2*s.2*a:=by rw[Int.mul_assoc,e2,Int.mul_comm]
   rw[k4,hd,e3]
   generalize 2*s.2*a=u at*
   generalize s.1*m=v at*
   exact⟨by omega,rfl⟩
  ·have hc:¬m≤2*s.2:=of_decide_eq_false hc
   rw[if_neg hc] at hd
   refine⟨⟨by omega,by omega⟩,by omega,by omega,(k+1,a+s.1,m-2*s.2),⟨rfl,rfl,rfl,by simp,rfl,rfl,rfl⟩,⟨by dsimp only;omega,by dsimp only;omega,by dsimp only;omega, ?_⟩,by dsimp only;omega⟩
   rw[k4,hd]
 ·have hlt:¬k<c.1.length:=by have:=of_decide_eq_false hlt;omega
  rw[k4,List.drop_eq_nil_of_le (by omega)]
  show(a,1)=_
  exact(Jch a).symm
theorem Kjh [Sx.Dr]:Ok Tryz.prog 46 Jtj:=Je mixed W20.ok (by kernel_rfl) (by kernel_rfl) (fun xx=>Vi (Jj3 xx.1 xx.2.1)) fun xx=>Khl xx.1 xx.2.1
abbrev W21 [Sx.Dr]:=W20.add Kjh
def Uu (c:Cab) (t:Int):Int:=if Uc c=0 then Jb t 0 (Ks c.1).2 else Uc c
def J0 (c:Cab) (t:Int):Int×Int:=if Uu c t=0 then Jf 2 c.1 0 (2*t) else(0,0)
def Jok:Con:={args:=[aC,aI],ress:=[Pr,I],owns:=[],pre:=fun(c,t,_)=>[c.1.length≤1000000,c.2.1.length≤1000000],spec:=fun(c,t,_)=>(J0 c t,Uu c t,())}
def Z39 (a:Cab):=(a.1,a.2.1,E2 a.2.2)
def Z66 (a:Cab):=Uc (Z39 a)
def Jbp (a:Cab):=Z66 a=0
def Jpq (a:Cab):=Z67 a∧Z26 a
def J3z (a:Cab):=Z66 a !=0
theorem Kh0 [Sx.Dr] (c:Cab) (t:Int):wpF Tryz.prog W21.g (na ()) Tryz.f15 Jok (c,t,()):=by
 refine(by kernel_rfl:(Z64 c→Z30 c→Jpq c∧Br (J3z c) ((0,0)=J0 c t∧Z66 c=Uu c t) (Jbp c∧Br (Jb t 0 (Ks c.1).2 !=0) ((0,0)=J0 c t∧Jb t 0 (Ks c.1).2=Uu c t) ((Iw (2*t)∧Jbp c∧Z15≤2*t∧2*t≤1000000000000)∧E2 (Jf 2 c.1 0 (2*t))=J0 c t∧0=Uu c t)))=_).mp ?_
 delta Z13 Z15 Z26 Z30 Z39 Z64 Z66 Z67 Jbp Jpq J3z Br Iw E2
 intro h1 h2
 unfold J0 Uu
 refine⟨⟨h1,h2⟩,fun h=> ?_,fun h=> ?_⟩
 ·have h:=Kh.1 h
  rw[if_neg h,if_neg h];exact⟨rfl,rfl⟩
 ·have h:=Jz.1 h
  rw[if_pos h]
  have hv:Yb c:=Xx h
  obtain⟨v1,v2,v3,v4,v5,v6,v7⟩:=id hv
  have b:=Uk v3
  refine⟨h,fun h'=> ?_,fun h'=> ?_⟩
  ·have h':=Kh.1 h'
   rw[if_neg h'];exact⟨rfl,rfl⟩
  ·have h':=Jz.1 h'
   have hw:0≤t∧t≤(Ks c.1).2:=Jc.1 h'
   rw[if_pos h',h']
   exact⟨⟨by omega,h,by omega⟩,rfl,rfl⟩
theorem Kkc [Sx.Dr]:Ok Tryz.prog 15 Jok:=Je mixed W21.ok (by kernel_rfl) (by kernel_rfl) na fun xx=>Kh0 xx.1 xx.2.1
abbrev W22 [Sx.Dr]:=W21.add Kkc
abbrev Flt:Type:=Int×Int×Int×Int
abbrev Kh4:Sch:= .prod sI (.prod sI (.prod sI sI))
abbrev aF:AK:= .val true Kh4
def Jdd (c:Cab) (s:Int):Int:=bif decide (s<0)||decide ((c.1.length:Int)≤s) then 10 else 0
def Jm2 (c:Cab) (s t:Int):Int:=Jb t 1 ((c.1.getD s.toNat (0,0)).2-1)
def Jy7:Con:={args:=[aC,aI],ress:=[I],owns:=[],pre:=fun(c,_)=>[c.1.length≤1000000],spec:=fun(c,s,_)=>(Jdd c s,())}
theorem Khb [Sx.Dr] (c:Cab) (s:Int):wpF Tryz.prog W22.g (na ()) Tryz.f76 Jy7 (c,s,()):=by
 refine(by kernel_rfl:(Z64 c→(bif bif decide (s<0) then true else decide (Z4 c≤s) then 10 else 0)=Jdd c s)=_).mp ?_
 delta Z4 Z13 Z64 Ln
 intro _
 unfold Jdd
 cases decide (s<0)<;>rfl
theorem Kip [Sx.Dr]:Ok Tryz.prog 76 Jy7:=Je mixed W22.ok (by kernel_rfl) (by kernel_rfl) na fun xx=>Khb xx.1 xx.2.1
abbrev W23 [Sx.Dr]:=W22.add Kip
def Jy9:Con:={args:=[aC,aI,aI],ress:=[I],owns:=[],pre:=fun(c,s,_)=>[Uc c=0,0≤s∧s<c.1.length],spec:=fun(c,s,t,_)=>(Jm2 c s t,())}
theorem Kha [Sx.Dr] (c:Cab) (s t:Int):wpF Tryz.prog W23.g (na ()) Tryz.f77 Jy9 (c,s,t,()):=by
 refine(by kernel_rfl:(Uc c=0→Bd s (Z4 c)→T2 (Bd s (Z4 c)) (Iw ((Gt c.1 s (0,0)).2-1))∧Jb t 1 ((Gt c.1 s (0,0)).2-1)=Jm2 c s t)=_).mp ?_
 delta Z4 Iw Bd T2 Ln Gt
 intro h hs
 have hv:Yb c:=Xx h
 have b:=hv.2.2.1 _ (Jj (d:=(0,0)) (l:=c.1) (k:=s.toNat) (by omega))
 exact⟨by omega,rfl⟩
theorem Kio [Sx.Dr]:Ok Tryz.prog 77 Jy9:=Je mixed W23.ok (by kernel_rfl) (by kernel_rfl) na fun xx=>Kha xx.1 xx.2.1 xx.2.2.1
abbrev W24 [Sx.Dr]:=W23.add Kio
theorem Jn1 {x:Int}:Ja [x]=x:=by unfold Ja;split<;>simp_all [Ja]
def Lj (c:Cab) (f:Flt):Int:=
 if Uc c=0 then if Jdd c f.1=0 then Ja [Jm2 c f.1 f.2.1,Jb f.2.2.1 0 100000,Jb f.2.2.2 (-1024) 1024,if f.2.2.2=0 then 6 else 0] else 10 else Uc c
theorem Hr {c:Cab} {s:Int}:Jdd c s=0↔0≤s∧s<c.1.length:=by
 unfold Jdd
 by_cases h1:s<0
 ·simp[h1]<;>omega
 ·by_cases h2:(c.1.length:Int)≤s
  ·simp[h2]<;>omega
  ·simp[h1,h2]<;>omega
theorem Jki (c:Cab) (s:Int):Jdd c s=0∨Jdd c s=10:=by
 unfold Jdd
 cases(decide (s<0)||decide ((c.1.length:Int)≤s))<;>simp
theorem Jh6 {n:Int} (e:Int):(bif n==0 then e else 0)=if n=0 then e else 0:=by
 by_cases h:n=0
 ·simp[h]
 ·have:(n==0)=false:=by simpa using h
  rw[this,if_neg h];rfl
def Kgb:Con:={args:=[aC,aF],ress:=[I],owns:=[],pre:=fun(c,_)=>[c.1.length≤1000000,c.2.1.length≤1000000],spec:=fun(c,f,_)=>(Lj c f,())}
def Kdp (a:Cab) (b:Flt):=Ja [Z66 a,Jdd (Z39 a) b.1]
theorem Khi [Sx.Dr] (c:Cab) (f:Flt):wpF Tryz.prog W24.g (na ()) Tryz.f54 Kgb (c,f,()):=by
 refine(by kernel_rfl:(Z64 c→Z30 c→(Z67 c∧Z26 c∧Z67 c∧2≤1000000)∧Br (Kdp c f !=0) (Kdp c f=Lj c f) ((Jbp c∧Bd f.1 (Ln c.1)∧4≤1000000)∧Ja [Jm2 (Z39 c) f.1 f.2.1,Jb f.2.2.1 0 100000,Jb f.2.2.2 (-1024) 1024,bif f.2.2.2==0 then 6 else 0]=Lj c f))=_).mp ?_
 delta Z13 Z26 Z30 Z39 Z64 Z66 Z67 Jbp Kdp Br Bd Ln E2
 intro h1 h2
 have e1:Ja [Uc c,Jdd c f.1]=if Uc c=0 then Jdd c f.1 else Uc c:=by
  rw[K0];split
  ·exact Jn1
  ·rfl
 refine⟨⟨h1,h2,h1,by omega⟩,fun h=> ?_,fun h=> ?_⟩
 ·have h:¬Ja [Uc c,Jdd c f.1]=0:=Kh.1 h
  show Ja [Uc c,Jdd c f.1]=_
  rw[e1] at h⊢
  unfold Lj
  by_cases hc:Uc c=0
  ·rw[if_pos hc] at h
   rw[if_pos hc,if_pos hc,if_neg h]
   exact(Jki c f.1).resolve_left h
  ·rw[if_neg hc,if_neg hc]
 ·have h:Ja [Uc c,Jdd c f.1]=0:=Jz.1 h
  rw[e1] at h
  have hc:Uc c=0:=by
   by_cases hc:Uc c=0
   ·exact hc
   ·rw[if_neg hc] at h;exact absurd h hc
  rw[if_pos hc] at h
  refine⟨⟨hc,Hr.1 h,by omega⟩, ?_⟩
  unfold Lj
  rw[if_pos hc,if_pos h,Jh6]
theorem Ki9 [Sx.Dr]:Ok Tryz.prog 54 Kgb:=Je mixed W24.ok (by kernel_rfl) (by kernel_rfl) na fun xx=>Khi xx.1 xx.2.1
abbrev W25 [Sx.Dr]:=W24.add Ki9
def Jzk:Con:={args:=[aCR,aF],ress:=[I],owns:=[],pre:=fun(c,_)=>[c.1.length≤1000000,c.2.1.length≤1000000],spec:=fun(c,f,_)=>(Lj c f,())}
def Z97 (a:Cab) (b:Flt):=(Gt a.1 b.1 (0,0)).2
def Kag (a:Flt) (b:Cab):=Ja [Jb a.2.1 1 (Z97 b a-1),Jb a.2.2.1 0 100000,Jb a.2.2.2 (-1024) 1024]
theorem wp5 [Sx.Dr] (c:Cab) (f:Flt):wpF Tryz.prog W25.g (na ()) Tryz.f5 Jzk (c,f,()):=by
 refine(by kernel_rfl:(Z64 c→Z30 c→Jpq c∧Br (J3z c) (Z66 c=Lj c f) (Br (bif decide (f.1<0) then true else decide (Z4 c≤f.1)) (10=Lj c f) (T2 (Bd f.1 (Z4 c)) (Iw (Z97 c f-1)∧3≤1000000)∧Br (Kag f c !=0) (Kag f c=Lj c f) ((bif f.2.2.2==0 then 6 else 0)=Lj c f))))=_).mp ?_
 delta Z4 Z13 Z26 Z30 Z39 Z64 Z66 Z67 Z97 Jpq J3z Kag Br Iw Bd T2 Ln Gt E2
 intro h1 h2
 refine⟨⟨h1,h2⟩,fun h=> ?_,fun h=> ?_⟩
 ·have h:¬Uc c=0:=Kh.1 h
  unfold Lj;rw[if_neg h]
 have hc:Uc c=0:=Jz.1 h
 unfold Lj
 rw[if_pos hc]
 have e:(bif decide (f.1<0) then true else decide ((c.1.length:Int)≤f.1))=true↔Jdd c f.1≠0:=by
  unfold Jdd
  cases decide (f.1<0)<;>cases decide ((c.1.length:Int)≤f.1)<;>simp
 refine⟨fun h=> ?_,fun h=> ?_⟩
 ·rw[if_neg (e.1 h)]
 have hs:Jdd c f.1=0:=by
  by_cases hs:Jdd c f.1=0
  ·exact hs
  ·have:=e.2 hs;rw[h] at this;cases this
 have hr:=Hr.1 hs
 have hv:Yb c:=Xx hc
 have b:=hv.2.2.1 _ (Jj (d:=(0,0)) (l:=c.1) (k:=f.1.toNat) (by omega))
 rw[if_pos hs]
 have e4:Ja [Jm2 c f.1 f.2.1,Jb f.2.2.1 0 100000,Jb f.2.2.2 (-1024) 1024,if f.2.2.2=0 then 6 else 0]=if Ja [Jm2 c f.1 f.2.1,Jb f.2.2.1 0 100000,Jb f.2.2.2 (-1024) 1024]=0 then(if f.2.2.2=0 then 6 else 0) else Ja [Jm2 c f.1 f.2.1,Jb f.2.2.1 0 100000,Jb f.2.2.2 (-1024) 1024]:=by
  generalize Jm2 c f.1 f.2.1=p
  generalize Jb f.2.2.1 0 100000=q
  generalize Jb f.2.2.2 (-1024) 1024=r
  generalize(if f.2.2.2=0 then(6:Int) else 0)=s
  simp only[Ja]
  repeat' split
  all_goals first|rfl|omega
 rw[e4]
 refine⟨⟨hr,hr,by omega,by omega⟩,fun h=> ?_,fun h=> ?_⟩
 ·have h:¬Ja [Jm2 c f.1 f.2.1,Jb f.2.2.1 0 100000,Jb f.2.2.2 (-1024) 1024]=0:=Kh.1 h
  rw[if_neg h];rfl
 ·have h:Ja [Jm2 c f.1 f.2.1,Jb f.2.2.1 0 100000,Jb f.2.2.2 (-1024) 1024]=0:=Jz.1 h
  rw[if_pos h,Jh6]
theorem ok5 [Sx.Dr]:Ok Tryz.prog 5 Jzk:=Je mixed W25.ok (by kernel_rfl) (by kernel_rfl) na fun xx=>wp5 xx.1 xx.2.1
abbrev W26 [Sx.Dr]:=W25.add ok5
def Jgn (c:Cab) (f:Flt) (w:Int):Int:=Ja [Lj c f,Jb w 0 1000]
def Jy2:Con:={args:=[aC,aF,aI],ress:=[I],owns:=[],pre:=fun(c,_)=>[c.1.length≤1000000,c.2.1.length≤1000000],spec:=fun(c,f,w,_)=>(Jgn c f w,())}
def Z38 (a:Flt):=(a.1,a.2.1,E2 a.2.2)
def Jxq (a:Cab) (b:Flt):=Lj (Z39 a) (Z38 b)
def Jxj (a:Cab):=Z67 a∧Z26 a∧2≤1000000
theorem Khs [Sx.Dr] (c:Cab) (f:Flt) (w:Int):wpF Tryz.prog W26.g (na ()) Tryz.f29 Jy2 (c,f,w,()):=by
 refine(by kernel_rfl:(Z64 c→Z30 c→Jxj c∧Ja [Jxq c f,Jb w 0 1000]=Jgn c f w)=_).mp ?_
 delta Z13 Z26 Z30 Z38 Z39 Z64 Z67 Jxq Jxj E2
 intro h1 h2
 exact⟨⟨h1,h2,by omega⟩,rfl⟩
theorem Kjy [Sx.Dr]:Ok Tryz.prog 29 Jy2:=Je mixed W26.ok (by kernel_rfl) (by kernel_rfl) na fun xx=>Khs xx.1 xx.2.1 xx.2.2.1
abbrev W27 [Sx.Dr]:=W26.add Kjy
def Yw (c:Cab) (f:Flt):Prop:=Yb c∧(0≤f.1∧f.1<c.1.length)∧(1≤f.2.1∧f.2.1<(c.1.getD f.1.toNat (0,0)).2)∧(0≤f.2.2.1∧f.2.2.1≤100000)∧(-1024≤f.2.2.2∧f.2.2.2≤1024)∧f.2.2.2≠0
theorem D3 {c:Cab} {f:Flt} (h:Lj c f=0):Uc c=0∧Yw c f:=by
 unfold Lj at h
 split at h
 ·rename_i hc
  split at h
  ·rename_i hs
   have hz:=Ji h
   simp only[List.mem_cons,List.not_mem_nil,or_false,forall_eq_or_imp,forall_eq] at hz
   obtain⟨a1,a2,a3,a4⟩:=hz
   have b1:=Jc.1 a1
   have b2:=Jc.1 a2
   have b3:=Jc.1 a3
   have b4:f.2.2.2≠0:=fun e=>by rw[if_pos e] at a4;cases a4
   exact⟨hc,Xx hc,Hr.1 hs,⟨b1.1,by omega⟩,b2,b3,b4⟩
  ·cases h
 ·rename_i hc;exact absurd h hc
def Yf (x:Int×Int):Int:=Ja [Jb x.1 0 999999999,Jb x.2 0 999999999,bif decide (x.2<x.1) then 11 else 0]
def Jtg:Con:={args:=[aP],ress:=[I],owns:=[],pre:=fun _=>[],spec:=fun(x,_)=>(Yf x,())}
theorem Khn [Sx.Dr] (x:Int×Int):wpF Tryz.prog W27.g (na ()) Tryz.f44 Jtg (x,()):=by
 refine(by kernel_rfl:(3≤1000000∧Ja [Jb x.1 0 999999999,Jb x.2 0 999999999,bif decide (x.2<x.1) then 11 else 0]=Yf x)=_).mp ?_
 exact⟨by omega,rfl⟩
theorem Kjj [Sx.Dr]:Ok Tryz.prog 44 Jtg:=Je mixed W27.ok (by kernel_rfl) (by kernel_rfl) na fun xx=>Khn xx.1
abbrev W28 [Sx.Dr]:=W27.add Kjj
abbrev sRR:Sch:= .prod sI (.prod sI (.prod sI sI))
def Jir (c:Cab) (a b:Int×Int):Int:=max 0 ((Ks c.1).2+a.1-b.2)
def Fa (c:Cab) (a b:Int×Int):Int:=min (2*(Ks c.1).2) ((Ks c.1).2+a.2-b.1)
abbrev RR:Type:=Int×Int×Int×Int
def rr (x y:Int×Int):RR:=(x.1,x.2,y.1,y.2)
def J7q (c:Cab) (a b:Int×Int):RR:=if Fa c a b<Jir c a b then(0,0,0,0) else rr (Jf 2 c.1 0 (Jir c a b)) (Jf 2 c.1 0 (Fa c a b))
def Ju1 (c:Cab) (a b:Int×Int):Int:=if Fa c a b<Jir c a b then 7 else 0
def Jle (c:Cab) (a b:Int×Int):Int:=if Ja [Uc c,Yf a,Yf b]=0 then Ju1 c a b else Ja [Uc c,Yf a,Yf b]
def Jkw (c:Cab) (a b:Int×Int):RR:=if Ja [Uc c,Yf a,Yf b]=0 then J7q c a b else(0,0,0,0)
theorem Jlw {x:Int×Int} (h:Yf x=0):0≤x.1∧x.1≤x.2∧x.2≤999999999:=by
 have hz:=Ji h
 simp only[List.mem_cons,List.not_mem_nil,or_false,forall_eq_or_imp,forall_eq] at hz
 obtain⟨a1,a2,a3⟩:=hz
 have b1:=Jc.1 a1
 have b2:=Jc.1 a2
 have b3:¬x.2<x.1:=fun e=>by simp[e] at a3
 omega
def Jon:Con:={args:=[aC,aP,aP],ress:=[(true,sRR),I],owns:=[],pre:=fun(c,_)=>[c.1.length≤1000000,c.2.1.length≤1000000],spec:=fun(c,a,b,_)=>(Jkw c a b,Jle c a b,())}
theorem Jyh {c:Cab} {a b:Int×Int} (h:Ja [Uc c,Yf a,Yf b]=0):Uc c=0∧(1≤(Ks c.1).2∧(Ks c.1).2≤384)∧(0≤a.1∧a.1≤a.2∧a.2≤999999999)∧0≤b.1∧b.1≤b.2∧b.2≤999999999:=by
 have hz:=Ji h
 simp only[List.mem_cons,List.not_mem_nil,or_false,forall_eq_or_imp,forall_eq] at hz
 obtain⟨a1,a2,a3⟩:=hz
 obtain⟨v1,v2,v3,_⟩:=Xx a1
 have b1:=Uk v3
 exact⟨a1,by omega,Jlw a2,Jlw a3⟩
def Z18:=((0:Int),(0:Int),(0:Int))
def Z62:=((0:Int),Z18)
def Jxv (a:Cab) (b c:Int×Int):=max 0 ((Ks a.1).2+b.1-c.2)
def J03 (a:Cab) (b c:Int×Int):=min (2*(Ks a.1).2) ((Ks a.1).2+b.2-c.1)
def Kdk (a:Cab) (b c:Int×Int):=Ja [Z66 a,Yf (E2 b),Yf (E2 c)]
theorem Kh1 [Sx.Dr] (c:Cab) (a b:Int×Int):wpF Tryz.prog W28.g (na ()) Tryz.f14 Jon (c,a,b,()):=by
 refine(by kernel_rfl:(Z64 c→Z30 c→(Z67 c∧Z26 c∧3≤1000000)∧Br (Kdk c a b !=0) (Z62=Jkw c a b∧Kdk c a b=Jle c a b) (Jbp c∧(Iw ((Ks c.1).2+a.1)∧Iw ((Ks c.1).2+a.1-b.2)∧Iw (2*(Ks c.1).2)∧Iw ((Ks c.1).2+a.2)∧Iw ((Ks c.1).2+a.2-b.1))∧Br (decide (J03 c a b<Jxv c a b)) (Z62=Jkw c a b∧7=Jle c a b) ((Jbp c∧(Z15≤Jxv c a b∧Jxv c a b≤1000000000000)∧Jbp c∧Z15≤J03 c a b∧J03 c a b≤1000000000000)∧((Jf 2 c.1 0 (Jxv c a b)).1,(Jf 2 c.1 0 (Jxv c a b)).2,E2 (Jf 2 c.1 0 (J03 c a b)))=Jkw c a b∧0=Jle c a b)))=_).mp ?_
 delta Z13 Z15 Z18 Z26 Z30 Z39 Z62 Z64 Z66 Z67 Jbp Jxv J03 Kdk Br Iw E2
 intro h1 h2
 unfold Jkw Jle
 refine⟨⟨h1,h2,by omega⟩,fun h=> ?_,fun h=> ?_⟩
 ·have h:¬Ja [Uc c,Yf a,Yf b]=0:=Kh.1 h
  rw[if_neg h,if_neg h];exact⟨rfl,rfl⟩
 ·have h:Ja [Uc c,Yf a,Yf b]=0:=Jz.1 h
  obtain⟨hc,b1,b2,b3⟩:=Jyh h
  rw[if_pos h,if_pos h]
  have b1:1≤(Ks c.1).2∧(Ks c.1).2≤384:=b1
  unfold J7q Ju1 Jir Fa
  generalize(Ks c.1).2=L at b1⊢
  refine⟨hc,by omega,fun h'=> ?_,fun h'=> ?_⟩
  ·have h':=of_decide_eq_true h'
   rw[if_pos h',if_pos h'];exact⟨rfl,rfl⟩
  ·have h':=of_decide_eq_false h'
   rw[if_neg h',if_neg h']
   exact⟨⟨hc,by omega,hc,by omega,by omega⟩,rfl,rfl⟩
theorem Kkd [Sx.Dr]:Ok Tryz.prog 14 Jon:=Je mixed W28.ok (by kernel_rfl) (by kernel_rfl) na fun xx=>Kh1 xx.1 xx.2.1 xx.2.2.1
abbrev W29 [Sx.Dr]:=W28.add Kkd
abbrev Stp:Type:=Int×Int×Bool×Int×Int
abbrev Jmj:Sch:= .prod sI (.prod sI (.prod .bool (.prod sI sI)))
abbrev aW:AK:= .val true Jmj
def Ud (w:Stp) (r:Bool):Int×Int:=bif r then(w.2.1+1,w.2.1) else(w.2.1-1,w.2.1-1)
def Jto:Con:={args:=[aW,aB],ress:=[I,I],owns:=[],pre:=fun(w,_)=>[-1000≤w.2.1∧w.2.1≤1000],spec:=fun(w,r,_)=>((Ud w r).1,(Ud w r).2,())}
def Z14:=(-1000)
def J4r (a:Stp):=Z14≤a.2.1∧a.2.1≤1000
theorem J4y [Sx.Dr] (w:Stp) (r:Bool):wpF Tryz.prog W29.g (na ()) Tryz.f163 Jto (w,r,()):=by
 refine(by kernel_rfl:(J4r w→Br r (Iw (w.2.1+1)∧w.2.1+1=(Ud w r).1∧w.2.1=(Ud w r).2) (Tw (Iw (w.2.1-1))∧w.2.1-1=(Ud w r).1∧w.2.1-1=(Ud w r).2))=_).mp ?_
 delta Z14 J4r Br Iw Tw
 intro h
 unfold Ud
 refine⟨fun e=> ?_,fun e=> ?_⟩<;>(subst e;exact⟨by omega,rfl,rfl⟩)
theorem J6c [Sx.Dr]:Ok Tryz.prog 163 Jto:=Je mixed W29.ok (by kernel_rfl) (by kernel_rfl) na fun xx=>J4y xx.1 xx.2.1
abbrev W30 [Sx.Dr]:=W29.add J6c
def hgt (w:Stp) (k:Int):Int:=(w.2.2.2.2*k).tdiv 8
def Kv (c:Cab) (w:Stp) (r:Bool) (k:Int):List Stp:=
 if hgt w k=0∨(Ud w r).2<0∨(c.1.length:Int)≤(Ud w r).2 then[] else[(w.1+(c.1.getD (Ud w r).2.toNat (0,0)).2,(Ud w r).1,r,w.2.2.2.1+1,hgt w k)]
def wvB (w:Stp):Prop:=(0≤w.1∧w.1≤1000000)∧(0≤w.2.1∧w.2.1≤6)∧(0≤w.2.2.2.1∧w.2.2.2.1≤6)∧-17179869184≤w.2.2.2.2∧w.2.2.2.2≤17179869184
def Jy6:Con:={args:=[aC,aW,aB,aI],ress:=[(false, .list 149 Jmj)],owns:=[true],pre:=fun(c,w,_,k,_)=>[Uc c=0,wvB w,-16≤k∧k≤16],spec:=fun(c,w,r,k,_)=>(Kv c w r k,())}
theorem Jyr {w:Stp} {k:Int} (h:wvB w) (hk: -16≤k∧k≤16):(-274877906944≤w.2.2.2.2*k∧w.2.2.2.2*k≤274877906944)∧-34359738368≤hgt w k∧hgt w k≤34359738368:=by
 obtain⟨_,_,_,h1,h2⟩:=h
 have a1:w.2.2.2.2*k≤274877906944:=by
  rcases Int.le_total 0 k with h|h
  ·have:=Int.mul_le_mul h2 hk.2 h (by omega);omega
  ·have:=Int.mul_le_mul_of_nonpos_right h1 h;omega
 have a2: -274877906944≤w.2.2.2.2*k:=by
  rcases Int.le_total 0 k with h|h
  ·have:=Int.mul_le_mul_of_nonneg_right h1 h;omega
  ·have:=Int.mul_le_mul_of_nonpos_right h2 h;omega
 refine⟨⟨a2,a1⟩, ?_⟩
 unfold hgt
 generalize w.2.2.2.2*k=x at a1 a2
 rcases Int.le_total 0 x with h|h
 ·rw[Int.tdiv_eq_ediv_of_nonneg h];omega
 ·have e:x.tdiv 8= -((-x).tdiv 8):=by rw[Int.neg_tdiv,Int.neg_neg]
  rw[e,Int.tdiv_eq_ediv_of_nonneg (by omega)];omega
def Z21:=(-16)
def Z76 (a:Stp):=(a.1,a.2.1,a.2.2.1,E2 a.2.2.2)
def Jps:List (Int×Int×Bool×Int×Int):=[]
def J1a (a:Stp) (b:Bool):=(Ud (Z76 a) b).2
def Kdh (a:Stp) (b:Cab) (c:Bool):=a.1+(Gt b.1 (J1a a c) (0,0)).2
theorem J45 [Sx.Dr] (c:Cab) (w:Stp) (r:Bool) (k:Int):wpF Tryz.prog W30.g (na ()) Tryz.f129 Jy6 (c,w,r,k,()):=by
 refine(by kernel_rfl:(Uc c=0→wvB w→Z21≤k∧k≤16→J4r w∧(Iw (w.2.2.2.2*k)∧((8:Int)=0→False)∧Iw (Int.tdiv (w.2.2.2.2*k) 8))∧Br (bif bif Int.tdiv (w.2.2.2.2*k) (8:Int)==0 then true else decide (J1a w r<0) then true else decide (Z4 c≤J1a w r)) (Jps=Kv c w r k) (T2 (Bd (J1a w r) (Z4 c)) (Iw (Kdh w c r)∧Iw (w.2.2.2.1+1))∧(Kdh w c r,(Ud (Z76 w) r).1,r,w.2.2.2.1+1,Int.tdiv (w.2.2.2.2*k) 8)::Jps=Kv c w r k))=_).mp ?_
 delta Z4 Z14 Z21 Z76 Jps J1a J4r Kdh Br Iw Bd T2 Ln Gt E2
 intro h hw hk
 have hv:Yb c:=Xx h
 obtain⟨⟨m1,m2⟩,n1,n2⟩:=Jyr hw hk
 obtain⟨q1,q2,q3,_⟩:=hw
 unfold Kv hgt at*
 generalize(w.2.2.2.2*k).tdiv 8=H at*
 generalize Ud w r=A at*
 refine⟨by omega,⟨by omega,by omega,by omega⟩,fun h1=> ?_,fun h1=> ?_⟩
 ·have h2:H=0∨A.2<0∨(c.1.length:Int)≤A.2:=by simpa[or_assoc] using h1
  rw[if_pos h2]
 ·have h2:¬(H=0∨A.2<0∨(c.1.length:Int)≤A.2):=by simpa[or_assoc,and_assoc] using h1
  rw[if_neg h2]
  have b:=hv.2.2.1 _ (Jj (d:=(0,0)) (l:=c.1) (k:=A.2.toNat) (by omega))
  exact⟨⟨by omega,by omega,by omega,by omega⟩,rfl⟩
theorem J6x [Sx.Dr]:Ok Tryz.prog 129 Jy6:=Je mixed W30.ok (by kernel_rfl) (by kernel_rfl) na fun xx=>J45 xx.1 xx.2.1 xx.2.2.1 xx.2.2.2.1
abbrev W31 [Sx.Dr]:=W30.add J6x
def Jve (_:Nat→Option Res) (n:Nat) (args:List SV):Option Out:=match args with
 |[.v false [.val (.slice none 0 0)], .v false [.int .i64 k]]=>some ⟨[0≤k∧k≤1000000], .one (.sl n),[.own 149 Jmj []],[]⟩
 |_=>none
def J77:Con:={args:=[],ress:=[],owns:=[],pre:=fun _=>[False],spec:=fun _=>(),prim:=some Jve}
theorem Jvd [Sx.Dr]:Jpe Tryz.prog 164 Jve:=by
 intro N B w0 al τ σ a w ρ M R n d rs args out C hd hrs hop hpre hfresh
 unfold Jve at hop
 split at hop
 ·rename_i k
  cases hop
  have hk:0≤k∧k≤1000000:=hpre
  have hn:¬al n:=fun h=>hfresh n h ⟨Nat.le_refl _,by simp⟩
  obtain⟨m,rfl⟩:=Int.eq_ofNat_of_zero_le hk.1
  have hm:m≤1000000:=by omega
  rcases Nat.eq_zero_or_pos m with h0|h0
  ·subst h0
   refine⟨_,Tryz.grow203_none w,fun e w' hp=> ?_⟩
   obtain⟨rfl,rfl⟩:=hp
   have hne:∀id,al id→id≠n:=fun id h e=>hn (e▸h)
   have en:Kb ρ n [Value.slice none 0 0] n= .slice none 0 0:=Ko (i:=0) rfl
   have eo:∀id,al id→Kb ρ n [Value.slice none 0 0] id=ρ id:=fun id h=>Ke (by have:=hne id h;simp;omega)
   refine⟨_,Kb ρ n [.slice none 0 0],M,rfl, ?_⟩
   refine C.step hd (fun id h=>by have:=hne id h;simp;omega) (fun id h=>Ke (by simpa using h)) (by show _=Sx.valOf false [Kb ρ n _ n];rw[en];rfl) (fun id hid=> ?_) (Sx.Below.refl _ _) (Nat.le_refl _) (fun _ h=>h) (fun b h=>C.old b (.inl h)) (fun _ _=>rfl) ?_ ?_ ?_ ?_
   ·have:id=n:=by simpa[SV.ids,J1,SC.ids] using hid
    exact .inr ⟨by omega,by simp;omega⟩
   ·intro r x _ _ hx ho b hb
    exact⟨rfl,(C.notM hx ho hb).1⟩
   ·rintro r x hx (h|h)
    ·have er:r=n:=by simp at h;omega
     subst er
     rw[Vm h] at hx
     simp at hx
     subst hx
     refine⟨⟨[],rfl,⟨by simp, .inl ⟨en,rfl⟩⟩,fun g hg=>by rw[en] at hg;cases hg⟩, .inr h,fun id hid=>by simp[Res.ids] at hid⟩
    ·exact absurd rfl h
   ·intro id h
    have er:id=n:=by simp at h;omega
    subst er
    rw[en];rfl
   ·rintro r r' x1 x2 hne' h1 h2 o1 o2 (h|h) b hb1 hb2
    ·have er:r=n:=by simp at h;omega
     subst er
     rw[en] at hb1;cases hb1
    ·exact absurd rfl h
  ·refine⟨_,Tryz.grow203 m w h0 hm,fun e w' hp=> ?_⟩
   obtain⟨cap,cur,rfl,rfl,hcur,hcap⟩:=hp
   have C0:Jl Tryz.prog N B w0 al τ σ a w.drew ρ M R:=C.world (w':=w.drew) rfl ⟨rfl,rfl,rfl,Nat.le_refl _,fun _ _=>rfl,fun _=>Nat.le_succ _⟩
   obtain⟨ρ',hC⟩:=C0.allocRes (n:=n) (d:=d) (x:= .own 149 Jmj []) (v:= .sl n) (u:= .slice (some ⟨w.heap.size,0,none⟩) 0 cap) hd hn (.cells cur 149) rfl rfl (fun ρ' h=>h) (fun id h=>by simpa[SC.ids] using h) (fun id h=>by simp[Res.ids] at h) (fun ρ' h5 _=>by
    refine⟨[],rfl,⟨by simp, .inr ⟨w.heap.size,cap,cur,h5,C.base,heap_alloc_new w.drew _,Nat.zero_le _,hcap,hcur,by simp⟩⟩,fun g hg=> ?_⟩
    rw[h5] at hg;cases hg
    exact⟨fun h=>Nat.lt_irrefl _ (C.old w.heap.size (.inl h)),fun h=>Nat.lt_irrefl _ (C.old w.heap.size (.inr h))⟩)
   exact⟨_,ρ',M,rfl,hC⟩
 ·cases hop
theorem J6b [Sx.Dr]:Ok Tryz.prog 164 J77:=⟨⟨Tryz.f164,by kernel_rfl,by kernel_rfl,by kernel_rfl⟩,fun z hz=>(by cases hz),fun F hF=>(by cases hF;exact Jvd),fun _ x M R w vs _ _ hpre _=>False.elim hpre⟩
abbrev W32 [Sx.Dr]:=W31.add J6b
theorem V4 {α:Type} {l:List α} {k:Nat} {d:α} (h:k<l.length):l.drop k=l.getD k d::l.drop (k+1):=by
 rw[List.drop_eq_getElem_cons h]
 simp[List.getD_eq_getElem?_getD,h]
def Jb4 (ll:List (List Stp)):Prop:=ll.length≤100∧∀l∈ll,l.length≤100
def Jvy:Con:={args:=[.val false (.list 182 (.list 149 Jmj))],ress:=[(false, .list 149 Jmj)],owns:=[true],pre:=fun(ll,_)=>[Jb4 ll],spec:=fun(ll,_)=>(ll.flatten,())}
abbrev Jo3 (ll:List (List Stp)):Nat→Option Ann:=fun id=>
 if id=0 then some {X:=Nat,σ:=fun k=>⟨5,[(0, .one (.sl 0)),(3, .one (.int .i64 (ll.take k).flatten.length)),(9, .one (.sl 0)),(10, .one (.int .i64 ll.length)),(11, .one (.int .i64 k))],[(0, .imm 182 (.list 149 Jmj) ll)]⟩,inv:=fun k=>k≤ll.length,mu:=fun k=>ll.length-k}
 else if id=2 then some {X:=Nat,σ:=fun k=>⟨5,[(0, .one (.sl 0)),(6, .one (.sl 4)),(25, .one (.sl 0)),(26, .one (.int .i64 ll.length)),(27, .one (.int .i64 k))],[(0, .imm 182 (.list 149 Jmj) ll),(4, .own 149 Jmj (ll.take k).flatten)]⟩,inv:=fun k=>k≤ll.length,mu:=fun k=>ll.length-k}
 else none
theorem Jf3 {ll:List (List Stp)} {k:Nat} (h:k<ll.length):(ll.take (k+1)).flatten=(ll.take k).flatten++ll.getD k []:=by
 rw[←Jy (d:=[]) h];simp
theorem Jd2 {ll:List (List Stp)} (h:Jb4 ll) {k:Nat}:(ll.take k).flatten.length≤100*ll.length:=by
 have key:∀l:List (List Stp),(∀x∈l,x.length≤100)→l.flatten.length≤100*l.length:=by
  intro l
  induction l with
  |nil=>simp
  |cons x r ih=>
   intro hx
   have h1:=hx x (by simp)
   have h2:=ih fun y hy=>hx y (by simp[hy])
   simp only[List.flatten_cons,List.length_append,List.length_cons];omega
 have h1:=key (ll.take k) fun x hx=>h.2 x (List.mem_of_mem_take hx)
 have:(ll.take k).length≤ll.length:=by simp;omega
 omega
def Z47 (a:Nat) (b:List (List Stp)):=List.flatten (List.take a b)
def Z82 (a:Nat) (b:List (List Stp)):=Ln (Z47 a b)
def Kd0 (a:Nat) (b:List (List Stp)) (c:Nat):=a≤List.length b∧List.length b-a<List.length b-c
def J29 (a:List (List Stp)) (b:Nat):=List.getD a b Jps
def J2l (a:Nat) (b:List (List Stp)):=Z82 a b+Ln (J29 b a)
def J9a (a:Nat) (b:List (List Stp)):=Z1 a∧∃(y:Nat),(J2l a b=Z82 y b∧Si (Ln b) (Z25 a y∧b=b))∧Kd0 y b a
theorem J6w [Sx.Dr]:Ok Tryz.prog 130 Jvy:=okW W32 Tryz.f130 (fun xx=>Jo3 xx.1) fun xx=>by
 obtain⟨(ll:List (List Stp)),_⟩:=xx
 refine(by kernel_rfl:(Jb4 ll→∃(x:Nat),(0=Z82 x ll∧Si (Ln ll) (0=Nc x∧ll=ll))∧x≤List.length ll∧∀(x:Nat),x≤List.length ll→Br (decide (Nc x<Ln ll)) (Tw (Bd (Nc x) (Ln ll))∧Iw (J2l x ll)∧Br (decide (J2l x ll<0)) (False∧J9a x ll) (J9a x ll)) ((0≤Z82 x ll∧Z82 x ll≤1000000)∧∃(x:Nat),Si (Ln ll) (0=Nc x∧Sf ll (Jps=Z47 x ll))∧x≤List.length ll∧∀(x:Nat),x≤List.length ll→Br (decide (Nc x<Ln ll)) (Tw (Bd (Nc x) (Ln ll))∧(List.length (Z47 x ll)+List.length (J29 ll x))*40≤140737488355328∧Z1 x∧∃(y:Nat),Si (Ln ll) (Z25 x y∧Sf ll (Z47 x ll++J29 ll x=Z47 y ll))∧Kd0 y ll x) (Z47 x ll=List.flatten ll)))=_).mp ?_
 delta Z1 Z25 Z47 Z82 Jps Kd0 J29 J2l J9a Br Iw Bd Tw Sf Si Ln Nc
 intro h
 have hl:=h.1
 have gl:∀k,k<ll.length→(ll.getD k []).length≤100:=fun k hk=>h.2 _ (Jj hk)
 refine⟨(0:Nat),⟨by simp,rfl,rfl,rfl⟩,Nat.zero_le _,fun(k:Nat) hk=>⟨fun h1=> ?_,fun h1=> ?_⟩⟩
 ·have hlt:k<ll.length:=by simpa using h1
  have h2:=Jd2 h (k:=k)
  have h3:=gl k hlt
  refine⟨by omega,by omega,fun h4=> ?_,fun h4=>⟨by omega,(k+1:Nat),⟨?_,rfl,by simp,rfl⟩,by omega,by omega⟩⟩
  ·have h4:=of_decide_eq_true h4
   omega
  ·rw[Jf3 hlt,List.length_append];simp
 ·have h2:=Jd2 h (k:=k)
  refine⟨by omega,(0:Nat),⟨rfl,rfl,rfl,by simp⟩,Nat.zero_le _,fun(j:Nat) hj=>⟨fun h1=> ?_,fun h1=> ?_⟩⟩
  ·have hlt:j<ll.length:=by simpa using h1
   have h2:=Jd2 h (k:=j)
   have h3:=gl j hlt
   exact⟨by omega,by omega,by omega,(j+1:Nat),⟨rfl,by simp,rfl,(Jf3 hlt).symm⟩,by omega,by omega⟩
  ·have hlt:¬j<ll.length:=by simpa using h1
   rw[List.take_of_length_le (by omega)]
abbrev W33 [Sx.Dr]:=W32.add J6w
def Jgr (c:Cab) (w:Stp):Int:=bif w.2.2.1 then c.2.1.getD (w.2.1-1).toNat 0 else 0-c.2.1.getD (w.2.1-1).toNat 0
def Js (c:Cab) (w:Stp):List Stp:=
 if w.2.2.2.1=6 then[] else if w.2.1=0 then Kv c w true c.2.2.1 else if w.2.1=c.1.length then Kv c w false c.2.2.2 else
 Kv c w w.2.2.1 (8+Jgr c w)++Kv c w (!w.2.2.1) (Jgr c w)
def wvC (c:Cab) (w:Stp):Prop:=wvB w∧w.2.1≤c.1.length
def Jtm:Con:={args:=[aC,aW],ress:=[(false, .list 149 Jmj)],owns:=[true],pre:=fun(c,w,_)=>[Uc c=0,wvC c w],spec:=fun(c,w,_)=>(Js c w,())}
theorem X2 (c:Cab) (w:Stp) (r:Bool) (k:Int):(Kv c w r k).length≤1:=by
 unfold Kv;split<;>simp
theorem Jb5 (c:Cab) (w:Stp) (r r':Bool) (k k':Int):Jb4 [Kv c w r k,Kv c w r' k']:=by
 refine⟨by simp,fun l hl=> ?_⟩
 have h1:=X2 c w r k
 have h2:=X2 c w r' k'
 simp only[List.mem_cons,List.not_mem_nil,or_false] at hl
 rcases hl with rfl|rfl<;>omega
theorem Jix {c:Cab} {w:Stp} (hv:Yb c) (hw:wvC c w) (h0:¬w.2.1=0) (h1:¬w.2.1=c.1.length):(0≤w.2.1-1∧w.2.1-1<c.2.1.length)∧-8≤c.2.1.getD (w.2.1-1).toNat 0∧c.2.1.getD (w.2.1-1).toNat 0≤8:=by
 obtain⟨⟨_,hb,_⟩,hn⟩:=hw
 obtain⟨_,_,_,v4,v5,_⟩:=hv
 have b:0≤w.2.1-1∧w.2.1-1<c.2.1.length:=by omega
 exact⟨b,v5 _ (Jj (by omega))⟩
def Z68 (a:Cab) (b:Stp):=Gt a.2.1 (b.2.1-1) 0
def Jwv (a:Stp):=wvB (Z76 a)
def Jxw (a:Cab) (b:Stp):=0-Z68 a b
def J1c (a:Cab) (b:Stp):=8+Z68 a b
def Ket:List (List (Int×Int×Bool×Int×Int)):=[]
def J07 (a:Cab) (b:Stp):=8+Jxw a b
def Ka5 (a:Cab) (b:Stp):=Kv (Z39 a) (Z76 b) b.2.2.1 (J1c a b)
def Kaz (a:Cab) (b:Stp):=Kv (Z39 a) (Z76 b) b.2.2.1 (J07 a b)
def Kae (a:Cab) (b:Stp):=Kv (Z39 a) (Z76 b) (!b.2.2.1) (Z68 a b)::Ket
def J98 (a:Cab) (b:Stp):=Kv (Z39 a) (Z76 b) (!b.2.2.1) (Jxw a b)::Ket
theorem Kg6 [Sx.Dr] (c:Cab) (w:Stp):wpF Tryz.prog W33.g (na ()) Tryz.f88 Jtm (c,w,()):=by
 refine(by kernel_rfl:(Uc c=0→wvC c w→Br (w.2.2.2.1==6) (Jps=Js c w) (Br (w.2.1==0) ((Jbp c∧Jwv w∧Z21≤c.2.2.1∧c.2.2.1≤16)∧Kv (Z39 c) (Z76 w) true c.2.2.1=Js c w) (Br (w.2.1==Z4 c) ((Jbp c∧Jwv w∧Z21≤c.2.2.2∧c.2.2.2≤16)∧Kv (Z39 c) (Z76 w) false c.2.2.2=Js c w) ((Iw (w.2.1-1)∧Tw (Bd (w.2.1-1) (Ln c.2.1)))∧Br (!w.2.2.1) (Iw (Jxw c w)∧(Iw (J07 c w)∧Jbp c∧Jwv w∧(Z21≤J07 c w∧J07 c w≤16)∧Jbp c∧Jwv w∧(Z21≤Jxw c w∧Jxw c w≤16)∧Jb4 (Kaz c w::J98 c w))∧Kaz c w++List.flatten (J98 c w)=Js c w) ((Iw (J1c c w)∧Jbp c∧Jwv w∧(Z21≤J1c c w∧J1c c w≤16)∧Jbp c∧Jwv w∧(Z21≤Z68 c w∧Z68 c w≤16)∧Jb4 (Ka5 c w::Kae c w))∧Ka5 c w++List.flatten (Kae c w)=Js c w)))))=_).mp ?_
 delta Z4 Z21 Z39 Z66 Z68 Z76 Jwv Jbp Jxw J1c Jps Ket J07 Ka5 Kaz Kae J98 Br Iw Bd Tw Ln Gt E2
 intro h hw
 have hv:Yb c:=Xx h
 have hb:=hw.1
 obtain⟨_,_,_,v4,v5,v6,v7⟩:=id hv
 unfold Js
 refine⟨fun e=> ?_,fun e=>⟨fun e1=> ?_,fun e1=>⟨fun e2=> ?_,fun e2=> ?_⟩⟩⟩
 ·rw[if_pos (by simpa using e)]
 ·rw[if_neg (by simpa using e),if_pos (by simpa using e1)]
  exact⟨⟨h,hb,by omega,by omega⟩,rfl⟩
 ·rw[if_neg (by simpa using e),if_neg (by simpa using e1),if_pos (by simpa using e2)]
  exact⟨⟨h,hb,by omega,by omega⟩,rfl⟩
 ·rw[if_neg (by simpa using e),if_neg (by simpa using e1),if_neg (by simpa using e2)]
  obtain⟨j1,j2⟩:=Jix hv hw (by simpa using e1) (by simpa using e2)
  refine⟨⟨by omega,j1,j1⟩,fun e3=> ?_,fun e3=> ?_⟩
  ·have e3:w.2.2.1=false:=by simpa using e3
   have ef:Jgr c w=0-c.2.1.getD (w.2.1-1).toNat 0:=by unfold Jgr;rw[e3];rfl
   rw[ef]
   refine⟨by omega,⟨by omega,h,hb,by omega,h,hb,by omega,Jb5 _ _ _ _ _ _⟩, ?_⟩
   simp only[List.flatten_cons,List.flatten_nil,List.append_nil]
  ·have e3:w.2.2.1=true:=by simpa using e3
   have ef:Jgr c w=c.2.1.getD (w.2.1-1).toNat 0:=by unfold Jgr;rw[e3];rfl
   rw[ef]
   refine⟨⟨by omega,h,hb,by omega,h,hb,by omega,Jb5 _ _ _ _ _ _⟩, ?_⟩
   simp only[List.flatten_cons,List.flatten_nil,List.append_nil]
theorem Kih [Sx.Dr]:Ok Tryz.prog 88 Jtm:=Je mixed W33.ok (by kernel_rfl) (by kernel_rfl) na fun xx=>Kg6 xx.1 xx.2.1
abbrev W34 [Sx.Dr]:=W33.add Kih
def Jv4 (a b:Stp):Bool:=if a.1≠b.1 then decide (a.1<b.1) else if a.2.1≠b.2.1 then decide (a.2.1<b.2.1) else if a.2.2.1≠b.2.2.1 then b.2.2.1 else if a.2.2.2.1≠b.2.2.2.1 then decide (a.2.2.2.1<b.2.2.2.1) else decide (a.2.2.2.2<b.2.2.2.2)
def Kfv (x:Stp):List Stp→List Stp
 |[]=>[x]
 |y::r=>if Jv4 x y then x::y::r else y::Kfv x r
def wt (w:Stp):Nat:=3^(7-w.2.2.2.1.toNat)
def wtL:List Stp→Nat
 |[]=>0
 |w::r=>wt w+wtL r
theorem Zd (w:Stp):0<wt w:=Nat.pow_pos (by omega)
theorem K3 (l r:List Stp):wtL (l++r)=wtL l+wtL r:=by
 induction l with
 |nil=>simp[wtL]
 |cons x l ih=>simp only[List.cons_append,wtL,ih];omega
theorem Ho {c:Cab} {w x:Stp} {r:Bool} {k:Int} (h:x∈Kv c w r k):x.2.2.2.1=w.2.2.2.1+1:=by
 unfold Kv at h
 split at h
 ·simp at h
 ·simp only[List.mem_singleton] at h;rw[h]
theorem Jdb {c:Cab} {w:Stp} {r:Bool} {k:Int} (h0:0≤w.2.2.2.1):wtL (Kv c w r k)≤3^(6-w.2.2.2.1.toNat):=by
 unfold Kv
 split
 ·exact Nat.zero_le _
 ·simp only[wtL,wt,Nat.add_zero]
  rw[show(w.2.2.2.1+1).toNat=w.2.2.2.1.toNat+1 by omega,show 7-(w.2.2.2.1.toNat+1)=6-w.2.2.2.1.toNat by omega]
  exact Nat.le_refl _
theorem H9 {c:Cab} {w:Stp} (h0:0≤w.2.2.2.1∧w.2.2.2.1≤6):wtL (Js c w)<wt w:=by
 unfold Js
 split
 ·exact Zd w
 ·rename_i h6
  have e:wt w=3^(6-w.2.2.2.1.toNat)*3:=by
   unfold wt
   rw[←Nat.pow_succ,show 7-w.2.2.2.1.toNat=(6-w.2.2.2.1.toNat).succ by omega]
  have hp:0<3^(6-w.2.2.2.1.toNat):=Nat.pow_pos (by omega)
  repeat' split
  ·have:=Jdb (c:=c) (r:=true) (k:=c.2.2.1) h0.1;omega
  ·have:=Jdb (c:=c) (r:=false) (k:=c.2.2.2) h0.1;omega
  ·rw[K3]
   have h1:=Jdb (c:=c) (r:=w.2.2.1) (k:=8+Jgr c w) h0.1
   have h2:=Jdb (c:=c) (r:= !w.2.2.1) (k:=Jgr c w) h0.1
   omega
def bfs (c:Cab) (last:Int):Nat→List Stp→List Stp
 |0,_=>[]
 |_+1,[]=>[]
 |n+1,w::r=>if last<w.1 then bfs c last n r else w::bfs c last n (r++Js c w)
def hbN (h:Nat):Int:=268435456*2^h
def wvH (c:Cab) (w:Stp):Prop:=(0≤w.2.2.2.1∧w.2.2.2.1≤6)∧(0≤w.2.1∧w.2.1≤c.1.length)∧(0≤w.1∧w.1≤100064+64*w.2.2.2.1)∧-hbN w.2.2.2.1.toNat≤w.2.2.2.2∧w.2.2.2.2≤hbN w.2.2.2.1.toNat
theorem Ji2:∀{h:Nat},h≤6→hbN h≤17179869184:=by
 intro h hh
 have:∀k,k<7→hbN k≤17179869184:=by decide
 exact this h (by omega)
theorem Jpy {c:Cab} {w:Stp} (hv:Yb c) (h:wvH c w):wvC c w:=by
 obtain⟨h1,h2,h3,h4,h5⟩:=h
 have:=Ji2 (h:=w.2.2.2.1.toNat) (by omega)
 have:=hv.2.1
 exact⟨⟨by omega,by omega,h1,by omega,by omega⟩,h2.2⟩
theorem Jvc {w:Stp} {k B:Int} (hk: -16≤k∧k≤16) (h: -B≤w.2.2.2.2∧w.2.2.2.2≤B): -(2*B)≤hgt w k∧hgt w k≤2*B:=by
 have hB:0≤B:=by omega
 have a1:w.2.2.2.2*k≤16*B:=by
  rcases Int.le_total 0 k with hk0|hk0
  ·have:=Int.mul_le_mul h.2 hk.2 hk0 hB;omega
  ·have q:=Int.mul_le_mul_of_nonpos_right h.1 hk0
   have q2:B* -k≤B*16:=Int.mul_le_mul_of_nonneg_left (by omega) hB
   rw[Int.neg_mul] at q;rw[Int.mul_neg] at q2;omega
 have a2: -(16*B)≤w.2.2.2.2*k:=by
  rcases Int.le_total 0 k with hk0|hk0
  ·have q:=Int.mul_le_mul_of_nonneg_right h.1 hk0
   have q2:B*k≤B*16:=Int.mul_le_mul_of_nonneg_left hk.2 hB
   rw[Int.neg_mul] at q;omega
  ·have q:=Int.mul_le_mul_of_nonpos_right h.2 hk0
   have q2:B* -k≤B*16:=Int.mul_le_mul_of_nonneg_left (by omega) hB
   rw[Int.mul_neg] at q2;omega
 unfold hgt
 generalize w.2.2.2.2*k=x at a1 a2
 rcases Int.le_total 0 x with hx|hx
 ·rw[Int.tdiv_eq_ediv_of_nonneg hx];omega
 ·have e:x.tdiv 8= -((-x).tdiv 8):=by rw[Int.neg_tdiv,Int.neg_neg]
  rw[e,Int.tdiv_eq_ediv_of_nonneg (by omega)];omega
theorem Jid {c:Cab} {w x:Stp} {r:Bool} {k:Int} (hv:Yb c) (hw:wvH c w) (h6:¬w.2.2.2.1=6) (hk: -16≤k∧k≤16) (h:x∈Kv c w r k):wvH c x:=by
 unfold Kv at h
 split at h
 ·simp at h
 ·rename_i hn
  simp only[List.mem_singleton] at h
  obtain⟨h1,h2,h3,h4⟩:=hw
  have b:=hv.2.2.1 _ (Jj (d:=(0,0)) (l:=c.1) (k:=(Ud w r).2.toNat) (by omega))
  have g:=Jvc hk h4
  have e:hbN (w.2.2.2.1+1).toNat=2*hbN w.2.2.2.1.toNat:=by
   rw[show(w.2.2.2.1+1).toNat=w.2.2.2.1.toNat+1 by omega]
   unfold hbN;rw[Int.pow_succ];omega
  have hb:0≤(Ud w r).1∧(Ud w r).1≤c.1.length:=by
   unfold Ud at hn⊢
   cases r
   ·simp only[cond_false] at hn⊢;omega
   ·simp only[cond_true] at hn⊢;omega
  rw[h]
  unfold wvH
  dsimp only
  refine⟨by omega,hb,by omega, ?_⟩
  rw[e];exact g
theorem Dj {c:Cab} {w x:Stp} (hv:Yb c) (hw:wvH c w) (h:x∈Js c w):wvH c x:=by
 obtain⟨_,_,_,_,_,v6,v7⟩:=id hv
 unfold Js at h
 split at h
 ·simp at h
 ·rename_i h6
  split at h
  ·exact Jid hv hw h6 (by omega) h
  ·rename_i h0
   split at h
   ·exact Jid hv hw h6 (by omega) h
   ·rename_i h1
    have j:=Jix hv (Jpy hv hw) h0 h1
    have fb: -8≤Jgr c w∧Jgr c w≤8:=by
     unfold Jgr
     cases w.2.2.1<;>simp only[cond_true,cond_false]<;>omega
    rcases List.mem_append.1 h with h|h
    ·exact Jid hv hw h6 (by omega) h
    ·exact Jid hv hw h6 (by omega) h
theorem Fq {c:Cab} {last:Int} (hv:Yb c):∀{n m:Nat} {l:List Stp},(∀w∈l,wvH c w)→wtL l≤n→wtL l≤m→bfs c last n l=bfs c last m l
 |0,0,_,_,_,_=>rfl
 |0,m+1,[],_,_,_=>rfl
 |0,_+1,w::r,_,h,_=>by have:=Zd w;simp only[wtL] at h;omega
 |n+1,0,[],_,_,_=>rfl
 |_+1,0,w::r,_,_,h=>by have:=Zd w;simp only[wtL] at h;omega
 |n+1,m+1,[],_,_,_=>rfl
 | n + 1, m + 1, w :: r, hl, h1, h2 => by
  have hp:=Zd w
  have hw:=hl w (by simp)
  have hc:=H9 (c:=c) hw.1
  simp only[wtL] at h1 h2
  simp only[bfs]
  split
  ·exact Fq hv (fun x hx=>hl x (by simp[hx])) (by omega) (by omega)
  ·refine congrArg _ (Fq hv (fun x hx=> ?_) (by rw[K3];omega) (by rw[K3];omega))
   rcases List.mem_append.1 hx with hx|hx
   ·exact hl x (by simp[hx])
   ·exact Dj hv hw hx
def Jlc (c:Cab) (last:Int) (l:List Stp):List Stp:=bfs c last (wtL l) l
theorem Jmp {c:Cab} {last:Int} {w:Stp} {r:List Stp} (hv:Yb c) (hl:∀x∈w::r,wvH c x):Jlc c last (w::r)=if last<w.1 then Jlc c last r else w::Jlc c last (r++Js c w):=by
 have hp:=Zd w
 have hw:=hl w (by simp)
 have hc:=H9 (c:=c) hw.1
 have hr:∀x∈r,wvH c x:=fun x hx=>hl x (by simp[hx])
 have hrc:∀x∈r++Js c w,wvH c x:=fun x hx=>by
  rcases List.mem_append.1 hx with hx|hx
  ·exact hr x hx
  ·exact Dj hv hw hx
 have e:Jlc c last (w::r)=bfs c last (wt w+wtL r-1+1) (w::r):=by
  unfold Jlc
  rw[show wt w+wtL r-1+1=wtL (w::r) by simp only[wtL];omega]
 rw[e]
 simp only[bfs]
 unfold Jlc
 split
 ·exact Fq hv hr (by omega) (Nat.le_refl _)
 ·exact congrArg _ (Fq hv hrc (by rw[K3];omega) (Nat.le_refl _))
theorem Jh0 {c:Cab} {last:Int} (hv:Yb c):∀{n:Nat} {l:List Stp},(∀w∈l,wvH c w)→wtL l≤n→(bfs c last n l).length≤wtL l
 |0,_,_,_=>by simp[bfs]
 |n+1,[],_,_=>by simp[bfs]
 | n + 1, w :: r, hl, h1 => by
  have hp:=Zd w
  have hw:=hl w (by simp)
  have hc:=H9 (c:=c) hw.1
  simp only[wtL] at h1⊢
  simp only[bfs]
  split
  ·have:=Jh0 (last:=last) hv (l:=r) (n:=n) (fun x hx=>hl x (by simp[hx])) (by omega);omega
  ·have:=Jh0 (last:=last) hv (l:=r++Js c w) (n:=n) (fun x hx=>by
    rcases List.mem_append.1 hx with hx|hx
    ·exact hl x (by simp[hx])
    ·exact Dj hv hw hx) (by rw[K3];omega)
   rw[K3] at this
   simp only[List.length_cons];omega
theorem Jv3 {c:Cab} {last:Int} (hv:Yb c):∀{n:Nat} {l:List Stp},(∀w∈l,wvH c w)→∀w∈bfs c last n l,wvH c w∧w.1≤last
 |0,_,_,w,h=>by simp[bfs] at h
 |n+1,[],_,w,h=>by simp[bfs] at h
 | n + 1, w :: r, hl, x, h => by
  simp only[bfs] at h
  split at h
  ·exact Jv3 hv (fun x hx=>hl x (by simp[hx])) x h
  ·rename_i hlt
   rcases List.mem_cons.1 h with rfl|h
   ·exact⟨hl _ (by simp),by omega⟩
   ·refine Jv3 hv (fun x hx=> ?_) x h
    rcases List.mem_append.1 hx with hx|hx
    ·exact hl x (by simp[hx])
    ·exact Dj hv (hl w (by simp)) hx
def Jax (c:Cab) (f:Flt):List Stp:=[(f.2.2.1+f.2.1,f.1,false,0,f.2.2.2*262144),(f.2.2.1+((c.1.getD f.1.toNat (0,0)).2-f.2.1),f.1+1,true,0,f.2.2.2*262144)]
theorem Jaw {c:Cab} {f:Flt} (h:Yw c f):∀w∈Jax c f,wvH c w:=by
 obtain⟨hv,h1,h2,h3,h4,h5⟩:=h
 have b:=hv.2.2.1 _ (Jj (d:=(0,0)) (l:=c.1) (k:=f.1.toNat) (by omega))
 have e:hbN (0:Int).toNat=268435456:=rfl
 intro w hw
 simp only[Jax,List.mem_cons,List.not_mem_nil,or_false] at hw
 rcases hw with rfl|rfl
 ·unfold wvH
  dsimp only
  refine⟨⟨by omega,by omega⟩,⟨by omega,by omega⟩,⟨by omega,by omega⟩, ?_⟩
  show -hbN (0:Int).toNat≤f.2.2.2*262144∧f.2.2.2*262144≤hbN (0:Int).toNat
  rw[e];omega
 ·unfold wvH
  dsimp only
  refine⟨⟨by omega,by omega⟩,⟨by omega,by omega⟩,⟨by omega,by omega⟩, ?_⟩
  show -hbN (0:Int).toNat≤f.2.2.2*262144∧f.2.2.2*262144≤hbN (0:Int).toNat
  rw[e];omega
theorem Jiz (c:Cab) (f:Flt):wtL (Jax c f)=4374:=rfl
def Kr (c:Cab) (f:Flt) (win:Int):List Stp:=Jlc c (f.2.2.1+win) (Jax c f)
def Js1 (o:List Stp):List Stp→List Stp
 |[]=>o
 |x::r=>Js1 (Kfv x o) r
def Jsp (c:Cab) (f:Flt) (win:Int):List Stp:=Js1 [] (Kr c f win)
theorem Jsw:∀l:List Stp,l.length≤wtL l
 |[]=>Nat.le_refl _
 |x::r=>by
  have h1:=Zd x
  have h2:=Jsw r
  simp only[wtL,List.length_cons];omega
theorem Jgg (c:Cab) (w:Stp):(Js c w).length≤2:=by
 unfold Js
 repeat' split
 ·simp
 ·have:=X2 c w true c.2.2.1;omega
 ·have:=X2 c w false c.2.2.2;omega
 ·have h1:=X2 c w w.2.2.1 (8+Jgr c w)
  have h2:=X2 c w (!w.2.2.1) (Jgr c w)
  simp only[List.length_append];omega
theorem Jrw {c:Cab} {w:Stp} {r:List Stp} (hv:Yb c) (hl:∀x∈w::r,wvH c x):∀x∈r++Js c w,wvH c x:=fun x hx=>by
 rcases List.mem_append.1 hx with hx|hx
 ·exact hl x (by simp[hx])
 ·exact Dj hv (hl w (by simp)) hx
def cOr:Con:={args:=[.val false (.list 3 sI)],ress:=[I],owns:=[],pre:=fun(l,_)=>[l.length≤1000000],spec:=fun(l,_)=>(Ja l,())}
abbrev J8e (l:List Int):Ann:={X:=Nat,σ:=fun k=>⟨1,[(3, .one (.int .i64 0)),(6, .one (.sl 0)),(7, .one (.int .i64 l.length)),(8, .one (.int .i64 k))],[(0, .imm 3 sI l)]⟩,inv:=fun k=>k≤l.length∧Ja l=Ja (l.drop k),mu:=fun k=>l.length-k}
theorem Kig [Sx.Dr]:Ok Tryz.prog 91 cOr:=okW W34 Tryz.f91 (fun xx=>Vi (J8e xx.1)) fun xx=>by
 obtain⟨(l:List Int),_⟩:=xx
 refine(by kernel_rfl:(Z12 l→∃(x:Nat),Si 0 (Z93 l x)∧Jla x l∧∀(x:Nat),Jla x l→Br (Z28 x l) (Z22 x l∧Br (Jr3 l x) (Z3 l x=Ja l) (Z1 x∧∃(y:Nat),Si 0 (Jr7 l x y)∧Jr1 y l x)) (0=Ja l))=_).mp ?_
 delta Z1 Z3 Z12 Z22 Z25 Z28 Z86 Z93 Jr7 Jla Jr3 Jr1 Br Iw Bd Tw Si Ln Nc
 intro hb
 refine⟨(0:Nat),⟨rfl,rfl,rfl,rfl⟩,⟨Nat.zero_le _,rfl⟩,fun(k:Nat) hk=>⟨fun h=> ?_,fun h=> ?_⟩⟩
 ·have hlt:k<l.length:=by simpa using h
  have hd:=U6 hlt
  refine⟨by omega,fun h1=> ?_,fun h1=>⟨by omega,(k+1:Nat),⟨rfl,rfl,by simp,rfl⟩,⟨by omega, ?_⟩,by omega⟩⟩
  ·have h2:¬l.getD k 0=0:=by simpa using h1
   rw[hk.2,hd,if_neg h2]
  ·have h2:l.getD k 0=0:=by simpa using h1
   rw[hk.2,hd,if_pos h2]
 ·have hlt:¬k<l.length:=by simpa using h
  have:k=l.length:=by omega
  rw[hk.2,this,List.drop_length];rfl
abbrev W35 [Sx.Dr]:=W34.add Kig
def Kkt:Con:={args:=[aI],ress:=[Bo],owns:=[],pre:=fun _=>[],spec:=fun _=>(false,())}
theorem J6v [Sx.Dr]:Ok Tryz.prog 141 Kkt:=okW W35 Tryz.f141 na fun xx=>by
 obtain⟨(x:Int),_⟩:=xx
 refine(by kernel_rfl:((x !=x)=false)=_).mp ?_
 simp
abbrev W36 [Sx.Dr]:=W35.add J6v
def Jen (x y:Int):Int:=if x<y then -1 else if y<x then 1 else 0
def J79:Con:={args:=[aI,aI],ress:=[I],owns:=[],pre:=fun _=>[],spec:=fun(x,y,_)=>(Jen x y,())}
def Z17:=(-1)
theorem Kif [Sx.Dr]:Ok Tryz.prog 92 J79:=okW W36 Tryz.f92 na fun xx=>by
 obtain⟨(x:Int),(y:Int),_⟩:=xx
 refine(by kernel_rfl:(Br false (Br false (0=Jen x y) (Z17=Jen x y)) (Br false (1=Jen x y) (Br (decide (x<y)) (Z17=Jen x y) (Br (decide (y<x)) (1=Jen x y) (0=Jen x y)))))=_).mp ?_
 delta Z17 Br
 unfold Jen
 refine⟨fun h=>(by cases h),fun _=>⟨fun h=>(by cases h),fun _=>⟨fun h=> ?_,fun h=>⟨fun h1=> ?_,fun h1=> ?_⟩⟩⟩⟩
 ·rw[if_pos (of_decide_eq_true h)]
 ·rw[if_neg (of_decide_eq_false h),if_pos (of_decide_eq_true h1)]
 ·rw[if_neg (of_decide_eq_false h),if_neg (of_decide_eq_false h1)]
abbrev W37 [Sx.Dr]:=W36.add Kif
def J72:Con:={args:=[aS],ress:=[Bo],owns:=[],pre:=fun _=>[],spec:=fun _=>(false,())}
theorem J6u [Sx.Dr]:Ok Tryz.prog 142 J72:=okW W37 Tryz.f142 na fun xx=>by
 obtain⟨(x:ByteArray),_⟩:=xx
 refine(by kernel_rfl:((!Lb x x)=false)=_).mp ?_
 delta Lb
 simp
abbrev W38 [Sx.Dr]:=W37.add J6u
def bLt (x y:ByteArray):Bool:=Op.bytesLess x.toList y.toList
def cmpB (x y:ByteArray):Int:=if bLt x y=true then -1 else if x.toList=y.toList then 0 else 1
def J78:Con:={args:=[aS,aS],ress:=[I],owns:=[],pre:=fun _=>[],spec:=fun(x,y,_)=>(cmpB x y,())}
theorem Kie [Sx.Dr]:Ok Tryz.prog 93 J78:=okW W38 Tryz.f93 na fun xx=>by
 obtain⟨(x:ByteArray),(y:ByteArray),_⟩:=xx
 refine(by kernel_rfl:(Br false (Br false (0=cmpB x y) (Z17=cmpB x y)) (Br false (1=cmpB x y) (Br (Op.bytesLess (ByteArray.toList x) (ByteArray.toList y)) (Z17=cmpB x y) (Br (!(Op.bytesLess (ByteArray.toList x) (ByteArray.toList y)||Lb x y)) (1=cmpB x y) (0=cmpB x y)))))=_).mp ?_
 delta Z17 Br Lb
 unfold cmpB bLt
 refine⟨fun h=>(by cases h),fun _=>⟨fun h=>(by cases h),fun _=>⟨fun h=> ?_,fun h=>⟨fun h1=> ?_,fun h1=> ?_⟩⟩⟩⟩
 ·rw[if_pos h]
 ·rw[if_neg (by simp[h]),if_neg]
  simpa[h] using h1
 ·rw[if_neg (by simp[h]),if_pos]
  simpa[h] using h1
abbrev W39 [Sx.Dr]:=W38.add Kie
theorem Jx0 {c:Cab} {f:Flt} {win:Int} (h:Jgn c f win=0):Lj c f=0∧0≤win∧win≤1000:=by
 have h:=Ji (show Ja [Lj c f,Jb win 0 1000]=0 from h)
 simp only[List.mem_cons,List.not_mem_nil,or_false,forall_eq_or_imp,forall_eq] at h
 exact⟨h.1,Jc.1 h.2⟩
abbrev Arr:Type:=Int×ByteArray×Int
abbrev K9:Sch:= .prod sI (.prod .str sI)
abbrev aA:AK:= .val true K9
theorem Lc:∀x:List UInt8,Op.bytesLess x x=false
 |[]=>rfl
 |a::x=>by simp[Op.bytesLess,Lc x]
theorem Jjw:∀{x y z:List UInt8},Op.bytesLess x y=true→Op.bytesLess y z=true→Op.bytesLess x z=true
 |_,[],_,h,_=>by cases ‹List UInt8› <;>simp[Op.bytesLess] at h
 |_,_::_,[],_,h=>by simp[Op.bytesLess] at h
 |[],_::_,_::_,_,_=>rfl
 | a :: x, b :: y, c :: z, h, h' => by
  simp only[Op.bytesLess,Bool.or_eq_true,decide_eq_true_eq,Bool.and_eq_true,beq_iff_eq] at h h'⊢
  rcases h with h|⟨rfl,h⟩
  ·rcases h' with h'|⟨rfl,h'⟩
   ·exact .inl (UInt8.lt_trans h h')
   ·exact .inl h
  ·rcases h' with h'|⟨rfl,h'⟩
   ·exact .inl h'
   ·exact .inr ⟨rfl,Jjw h h'⟩
theorem Jtp:∀{x y:List UInt8},Op.bytesLess x y=false→Op.bytesLess y x=false→x=y
 |[],[],_,_=>rfl
 |[],_::_,h,_=>by simp[Op.bytesLess] at h
 |_::_,[],_,h=>by simp[Op.bytesLess] at h
 |a::x,b::y,h,h'=>by
  simp only[Op.bytesLess,Bool.or_eq_false_iff,decide_eq_false_iff_not,Bool.and_eq_false_iff,beq_eq_false_iff_ne] at h h'
  have e:a=b:=UInt8.le_antisymm (UInt8.not_lt.1 h'.1) (UInt8.not_lt.1 h.1)
  subst e
  rw[Jtp (h.2.resolve_left fun q=>q rfl) (h'.2.resolve_left fun q=>q rfl)]
theorem Jov {x y:ByteArray} (h:x.toList=y.toList):x=y:=by
 rw[Lib.toList_data,Lib.toList_data] at h
 exact ByteArray.ext (Array.ext' h)
def ltA (a b:Arr):Prop:=a.1<b.1∨a.1=b.1∧bLt a.2.1 b.2.1=true
def Lk (a b:Arr):Int:=Ja [Jen a.1 b.1,cmpB a.2.1 b.2.1]
theorem L6 (a:Arr):¬ltA a a:=by
 rintro(h|⟨_,h⟩)
 ·omega
 ·unfold bLt at h;rw[Lc] at h;cases h
theorem Xp {a b c:Arr} (h:ltA a b) (h':ltA b c):ltA a c:=by
 rcases h with h|⟨e,h⟩<;>rcases h' with h'|⟨e',h'⟩
 ·exact .inl (by omega)
 ·exact .inl (by omega)
 ·exact .inl (by omega)
 ·exact .inr ⟨by omega,Jjw h h'⟩
theorem Jhg {a b:Arr} (h:¬ltA b a) (hk:¬(a.1=b.1∧a.2.1=b.2.1)):ltA a b:=by
 unfold ltA at*
 by_cases e:a.1=b.1
 ·refine .inr ⟨e, ?_⟩
  have h1:bLt b.2.1 a.2.1=false:=by
   cases hb:bLt b.2.1 a.2.1 with
   |false=>rfl
   |true=>exact absurd (.inr ⟨e.symm,hb⟩) h
  cases hb:bLt a.2.1 b.2.1 with
  |true=>rfl
  |false=>exact absurd ⟨e,Jov (Jtp hb h1)⟩ hk
 ·exact .inl (by omega)
theorem Jkt {a b c:Arr} (h:¬ltA a b) (h':¬ltA b c):¬ltA a c:=by
 intro q
 by_cases e:b.1=a.1∧b.2.1=a.2.1
 ·refine h' ?_
  unfold ltA at q⊢
  rw[e.1,e.2];exact q
 ·exact h' (Xp (Jhg h e) q)
theorem Jvo (x y:ByteArray):cmpB x y<0↔bLt x y=true:=by
 unfold cmpB
 split
 ·rename_i h;simp[h]
 ·rename_i h
  split<;>simp[h]
theorem Fp (a b:Arr):Lk a b<0↔ltA a b:=by
 unfold Lk ltA
 simp only[Ja,Jen]
 rw[←Jvo]
 generalize cmpB a.2.1 b.2.1=q
 repeat' split
 all_goals omega
theorem Jdu (a b:Arr):Proofs.ltOf Lk a b=true↔ltA a b:=by
 unfold Proofs.ltOf;rw[decide_eq_true_iff,Fp]
theorem Jal {a b:Arr}:Proofs.ltOf Lk a b=false↔¬ltA a b:=by
 rw[←Jdu,Bool.not_eq_true]
theorem Kh3:Sort.SWO (Proofs.ltOf Lk) where
 irrefl x:=Jal.2 (L6 x)
 trans x y z h1 h2:=(Jdu x z).2 (Xp ((Jdu x y).1 h1) ((Jdu y z).1 h2))
 ntrans x y z h1 h2:=Jal.2 (Jkt (Jal.1 h1) (Jal.1 h2))
def Jzo:Con:={args:=[aA,aA],ress:=[I],owns:=[],pre:=fun _=>[],spec:=fun(a,b,_)=>(Lk a b,())}
theorem Khf [Sx.Dr] (a b:Arr):wpF Tryz.prog W39.g (na ()) Tryz.f63 Jzo (a,b,()):=by
 refine(by kernel_rfl:(2≤1000000∧Ja [Jen a.1 b.1,cmpB a.2.1 b.2.1]=Lk a b)=_).mp ?_
 exact⟨by omega,rfl⟩
theorem Kfq [Sx.Dr]:Ok Tryz.prog 63 Jzo:=Je mixed W39.ok (by kernel_rfl) (by kernel_rfl) na fun xx=>Khf xx.1 xx.2.1
abbrev W40 [Sx.Dr]:=W39.add Kfq
abbrev Jqc (l:List Arr):Prop:=l.Pairwise ltA
abbrev Jhm (l:List Arr):Prop:=l.Pairwise fun a b=>¬(a.1=b.1∧a.2.1=b.2.1)
def Ju8 (x:Arr):List Arr→List Arr
 |[]=>[x]
 |y::r=>if Lk x y<0 then x::y::r else y::Ju8 x r
def sortA:List Arr→List Arr
 |[]=>[]
 |x::r=>Ju8 x (sortA r)
theorem Jau (x:Arr):∀l,(Ju8 x l).Perm (x::l)
 |[]=> .refl _
 |y::r=>by
  simp only[Ju8]
  split
  ·exact .refl _
  ·exact((Jau x r).cons y).trans (.swap x y r)
theorem U2:∀l,(sortA l).Perm l
 |[]=> .refl _
 |x::r=>(Jau x _).trans ((U2 r).cons x)
theorem Jat {x:Arr}:∀{l:List Arr},Jqc l→(∀y∈l,¬(x.1=y.1∧x.2.1=y.2.1))→Jqc (Ju8 x l)
 |[],_,_=>by simp[Ju8]
 | y :: r, h, hne => by
  replace h:=List.pairwise_cons.1 h
  simp only[Ju8]
  split
  ·rename_i hlt
   have hlt:=(Fp x y).1 hlt
   refine List.pairwise_cons.2 ⟨fun z hz=> ?_,List.pairwise_cons.2 h⟩
   rcases List.mem_cons.1 hz with rfl|hz
   ·exact hlt
   ·exact Xp hlt (h.1 z hz)
  ·rename_i hlt
   have hlt:¬ltA x y:=fun q=>hlt ((Fp x y).2 q)
   refine List.pairwise_cons.2 ⟨fun z hz=> ?_,Jat h.2 fun z hz=>hne z (by simp[hz])⟩
   rcases List.mem_cons.1 ((Jau x r).mem_iff.1 hz) with rfl|hz
   ·exact Jhg hlt fun q=>hne y (by simp) ⟨q.1.symm,q.2.symm⟩
   ·exact h.1 z hz
theorem U7:∀{l:List Arr},Jhm l→Jqc (sortA l)
 |[],_=>by simp[sortA]
 |x::r,h=>by
  replace h:=List.pairwise_cons.1 h
  exact Jat (U7 h.2) fun y hy=>h.1 y ((U2 r).mem_iff.1 hy)
theorem Zu:∀{l l':List Arr},l.Perm l'→Jqc l→Jqc l'→l=l'
 |[],l',h,_,_=>by simpa using h
 |x::r,[],h,_,_=>by simp at h
 | x :: r, y :: r', h, h1, h2 => by
  by_cases e:x=y
  ·subst e
   rw[Zu h.cons_inv (List.pairwise_cons.1 h1).2 (List.pairwise_cons.1 h2).2]
  ·have m1:x∈r':=by
    have:=h.mem_iff.1 (show x∈x::r by simp)
    rcases List.mem_cons.1 this with q|q
    ·exact absurd q e
    ·exact q
   have m2:y∈r:=by
    have:=h.mem_iff.2 (show y∈y::r' by simp)
    rcases List.mem_cons.1 this with q|q
    ·exact absurd q.symm e
    ·exact q
   exact absurd (Xp ((List.pairwise_cons.1 h1).1 y m2) ((List.pairwise_cons.1 h2).1 x m1)) (L6 _)
theorem L9 {l l':List Arr} (h:l.Perm l') (hn:Jhm l):Jhm l':=(List.Perm.pairwise_iff (R:=fun a b:Arr=>¬(a.1=b.1∧a.2.1=b.2.1)) (fun q e=>q ⟨e.1.symm,e.2.symm⟩) h).1 hn
theorem Jc9 {l:List Arr} (hn:Jhm l) (h:l.Pairwise fun a b=>¬ltA b a):Jqc l:=
 List.Pairwise.imp (fun{a b} q=>Jhg q.2 q.1) (List.Pairwise.and hn h)
def Jk7 (x:Arr):List Value:=[.int .i64 x.1, .string x.2.1, .int .i64 x.2.2]
theorem Jd9 (M:Nat→Prop) (w:World) (x:Arr) (cs:List Value):Rep M w K9 x cs↔cs=Jk7 x:=by
 constructor
 ·rintro⟨a,b,rfl,ha,c,d,rfl,hc,hd⟩
  have ha:a=[.int .i64 x.1]:=ha
  have hc:c=[.string x.2.1]:=hc
  have hd:d=[.int .i64 x.2.2]:=hd
  subst ha;subst hc;subst hd;rfl
 ·rintro rfl
  exact⟨_,_,rfl,rfl,_,_,rfl,rfl,rfl⟩
instance:Inhabited (Sch.T K9):=⟨(0,⟨#[]⟩,0)⟩
theorem Joc [Sx.Dr] (w:World) (x y:Arr) (hG:Sx.Good Tryz.prog w):Calls Tryz.prog 63 #[.agg (Jk7 x).toArray, .agg (Jk7 y).toArray] w fun e w'=>e= .returned (.int .i64 (Lk x y))∧RowKit.Below w.heap.size w w'∧w.drawn≤w'.drawn:=by
 have h:=(@Kfq .on).2.2.2 rfl (x,y,()) (fun _=>False) (fun _=>False) w [.agg (Jk7 x).toArray, .agg (Jk7 y).toArray] (fun b hb=>by rcases hb with hb|hb<;>exact hb.elim) hG.on trivial ⟨_,_,rfl,⟨Jk7 x,rfl,(Jd9 _ _ _ _).2 rfl⟩,_,_,rfl,⟨Jk7 y,rfl,(Jd9 _ _ _ _).2 rfl⟩,rfl⟩
 refine h.mono ?_
 rintro e w' ⟨M',vs,rfl,hb,_,_,hr⟩
 obtain⟨v,vs',rfl,⟨cs,rfl,hc⟩,hr⟩:=hr
 have hc:cs=[.int .i64 (Lk x y)]:=hc
 have hr:vs'=[]:=hr
 subst hc;subst hr
 exact⟨rfl,@Sx.Below.kit .on _ _ _ hb,hb.dr⟩
theorem Juk (g cap:Nat) (d:Array Arr) (w:World) (hH:Sort.HoldsK Jk7 3 w g 0 d) (hg:g<w.heap.size) (hd:d.size<4611686018427387904) (hc:Proofs.CmpLays Tryz.prog 63 #[] Jk7 3 Lk g 0 d.size w):
  Calls Tryz.prog 62 #[.slice (some ⟨g,0,none⟩) d.size cap, .func (.func 63) #[] #[]] w fun e w'=>e= .returned (.tuple #[])∧∃d' n os,Sort.PermIn 0 d.size d d'∧Sort.SortedIn (Proofs.ltOf Lk) 0 d.size d'∧w'=Proofs.sortWorldK Jk7 3 w g 0 n d' os:=by
 have eg:∀args w,(callFunc 63 args).run Tryz.prog w= .ok (.enter 63 args) w:=Proofs.enters_of Tryz.func63 (by kernel_rfl) rfl
 exact Proofs.AnyQ.slices_SortFunc Proofs.Tryz.sortA 3 Tryz.isAgg48 Tryz.sizeOf48 Jk7 (fun _=>rfl) (fun x v hv=>by simp[Jk7] at hv;rcases hv with rfl|rfl|rfl<;>rfl) Lk Kh3 63 #[] g 0 cap d w eg hc hH hg hd
theorem Je0 (w:World):Calls Tryz.prog 62 #[.slice none 0 0, .func (.func 63) #[] #[]] w fun e w'=>e= .returned (.tuple #[])∧w'=w:=
 Proofs.AnyF.slices_SortFunc_none Proofs.Tryz.sortA none 0 _ w
abbrev J5u (l:List Arr):Prop:=Jhm l∧l.length≤1000000
theorem Jkf [Sx.Dr]:Jpc Tryz.prog 62 {T:=48,s:=K9,g:=63,pre:=J5u,f:=sortA}:=
 Jqd (s:=K9) (T:=48) (k:=3) Jk7 (fun _=>rfl) rfl Jd9 Lk _ _ Juk Je0 Joc
  (fun xs ys hx hp hs=>Zu (hp.trans (show List.Perm xs (sortA xs) from(U2 xs).symm)) (Jc9 (L9 (List.Perm.symm hp) hx.1) (hs.imp fun h=>Jal.1 h)) (U7 hx.1))
  (fun xs h=>h.2)
def Jy5:Con:={args:=[],ress:=[],owns:=[],pre:=fun _=>[False],spec:=fun _=>(),srt:=some {T:=48,s:=K9,g:=63,pre:=J5u,f:=sortA}}
theorem Ki2 [Sx.Dr]:Ok Tryz.prog 62 Jy5:=⟨⟨Tryz.f62,by kernel_rfl,by kernel_rfl,by kernel_rfl⟩,fun z hz=>(by cases hz;exact Jkf),fun F hF=>(by cases hF),fun h=>by cases h⟩
abbrev W41 [Sx.Dr]:=W40.add Ki2
set_option pp.deepTerms true
set_option pp.maxSteps 1000000
set_option maxHeartbeats 20000000
abbrev AM:Type:=List (Arr×Int)
def Jtz (m:AM) (k:Arr) (h:Int):AM:=Kj K9 k ((Jv K9 k m).getD 0+h) m
def Jk1 (c:Cab) (m:AM) (w:Stp):AM:=if w.2.1=0 then Jtz m (w.1,sA,0) w.2.2.2.2 else if w.2.1=c.1.length then Jtz m (w.1,sB,0) w.2.2.2.2 else m
def Kq (c:Cab) (l:List Stp):AM:=l.foldl (Jk1 c) []
def Jms (p:Arr×Int):Arr:=(p.1.1,p.1.2.1,p.2)
def Va (c:Cab) (f:Flt) (win:Int):List Arr:=sortA ((Kq c (Kr c f win)).map Jms)
def Jkh (m:AM) (seen:List Nat):List Arr:=seen.map fun p=>Jms (m.getD p ((0,⟨#[]⟩,0),0))
def Kgg:Con:={args:=[aC,aF,aI],ress:=[(false, .list 48 K9)],owns:=[],pre:=fun(c,f,win,_)=>[Jgn c f win=0],spec:=fun(c,f,win,_)=>(Va c f win,())}
abbrev Jz4 (c:Cab) (f:Flt) (win:Int):Ann:={X:=List Stp×List Stp,σ:=fun p=>⟨14,[(0, .one (.fv 11)),(2, .one (.ptr 7 0)),(3, .one (.ptr 9 0)),(7, .one (.sl 13))],[(0, .imm 91 sPt c.1),(1, .imm 3 sI c.2.1),(2, .box 39 [.sl 0, .sl 1, .int .i64 c.2.2.1, .int .i64 c.2.2.2]),(4, .mp 48 true false K9 sI (Kq c p.2)),(5, .box 142 [.sl 4]),(7, .box 39 [.sl 0, .sl 1, .int .i64 c.2.2.1, .int .i64 c.2.2.2]),(9, .box 3 [.int .i64 (f.2.2.1+win)]),(11, .yld .ready),(12, .sus [(3, .one (.ptr 2 0)),(7, .one (.ptr 5 0))]),(13, .ownT 149 Jmj p.1)]⟩,inv:=fun p=>(∀w∈p.1,wvH c w)∧(∀w∈p.2,wvH c w)∧Yw c f∧(0≤win∧win≤1000)∧p.2++Jlc c (f.2.2.1+win) p.1=Kr c f win∧p.2.length+wtL p.1≤4374,mu:=fun p=>wtL p.1}
abbrev Jty (m:AM):Nat→Option Ann:=fun i=>if i=3 then some {X:=List Nat,σ:=fun seen=>⟨3,[(9, .one (.sl 2)),(56, .one (.sl 1))],[(1, .mpi 0 48 true false K9 sI m seen),(0, .mp 48 true false K9 sI m),(2, .own 48 K9 (Jkh m seen))]⟩,inv:=fun seen=>seen.Nodup∧(∀p∈seen,p<m.length),mu:=fun seen=>m.length-seen.length} else none
theorem Y2 {k k':Arr}:Xs K9 k k'=true↔k=k':=by
 constructor
 ·intro h
  simp only[Xs,Bool.and_eq_true,beq_iff_eq] at h
  exact Prod.ext h.1 (Prod.ext (Jov h.2.1) h.2.2)
 ·rintro rfl
  simp[Xs]
theorem Jam (k:Arr):Xs K9 k k=true:=Y2.2 rfl
theorem L4 (k:Arr) (u:Int):∀m:AM,Jv K9 k (Kj K9 k u m)=some u
 |[]=>by simp only[Kj,Jv,Jam,if_true]
 | x :: r => by
  simp only[Kj]
  split
  ·simp only[Jv,Jam,if_true]
  ·rename_i h
   simp only[Jv]
   rw[if_neg h,L4 k u r]
theorem Jah (k:Arr) (m:AM):SV.v false [SC.int .i64 ((Jv K9 k (Kj K9 k ((Jv K9 k m).getD 0) m)).getD 0)]=SV.v false [SC.int .i64 ((Jv K9 k m).getD 0)]:=by
 rw[L4];rfl
theorem L3 (k:Arr) (u v:Int):∀m:AM,Zy v (Kj K9 k u m) (Y0 K9 k m)=Kj K9 k v m
 |[]=>rfl
 |x::r=>by
  simp only[Kj,Y0]
  split
  ·rfl
  ·simp only[Zy];rw[L3 k u v r]
theorem Jag (k:Arr) (u:Int):∀m:AM,Y0 K9 k m<(Kj K9 k u m).length
 |[]=>by simp[Y0,Kj]
 |x::r=>by
  have:=Jag k u r
  simp only[Kj,Y0]
  split
  ·simp
  ·simp only[List.length_cons];omega
theorem Jcd (k:Arr) (u:Int):∀m:AM,(Kj K9 k u m).length≤m.length+1
 |[]=>by simp[Kj]
 |x::r=>by
  have:=Jcd k u r
  simp only[Kj]
  split
  ·simp
  ·simp only[List.length_cons];omega
theorem X5 {k:Arr} {u:Int} {p:Arr×Int}:∀{m:AM},p∈Kj K9 k u m→p=(k,u)∨p∈m
 |[],h=>by simpa[Kj] using h
 | x :: r, h => by
  simp only[Kj] at h
  split at h
  ·rcases List.mem_cons.1 h with h|h
   ·exact .inl h
   ·exact .inr (by simp[h])
  ·rcases List.mem_cons.1 h with h|h
   ·exact .inr (by simp[h])
   ·rcases X5 h with h|h
    ·exact .inl h
    ·exact .inr (by simp[h])
theorem L5 {k:Arr}:∀{m:AM} {v:Int},Jv K9 k m=some v→(k,v)∈m
 |[],v,h=>by simp[Jv] at h
 | x :: r, v, h => by
  simp only[Jv] at h
  split at h
  ·rename_i e
   cases h
   rw[Y2.1 e];exact List.mem_cons_self
  ·exact List.mem_cons_of_mem _ (L5 h)
theorem Jaf {k:Arr} {u:Int}:∀{m:AM},(m.Pairwise fun a b=>a.1≠b.1)→(Kj K9 k u m).Pairwise fun a b=>a.1≠b.1
 |[],_=>by simp[Kj]
 | x :: r, h => by
  replace h:=List.pairwise_cons.1 h
  simp only[Kj]
  split
  ·rename_i e
   have e:=Y2.1 e
   refine List.pairwise_cons.2 ⟨fun p hp=> ?_,h.2⟩
   rw[e];exact h.1 p hp
  ·rename_i e
   refine List.pairwise_cons.2 ⟨fun p hp=> ?_,Jaf h.2⟩
   rcases X5 hp with rfl|hp
   ·exact fun q=>e (Y2.2 q.symm)
   ·exact h.1 p hp
def okM (m:AM) (n:Nat):Prop:=m.length≤n∧(∀p∈m,-(17179869184*(n:Int))≤p.2∧p.2≤17179869184*n)∧(m.Pairwise fun a b=>a.1≠b.1)∧∀p∈m,p.1.2.2=0
theorem Jnw {m:AM} {n:Nat} (h:okM m n) (k:Arr): -(17179869184*(n:Int))≤(Jv K9 k m).getD 0∧(Jv K9 k m).getD 0≤17179869184*n:=by
 cases e:Jv K9 k m with
 |none=>simp only[Option.getD_none];omega
 |some v=>exact h.2.1 _ (L5 e)
theorem Jo9 {m:AM} {n:Nat} (h:okM m n) {k:Arr} (hk:k.2.2=0) {v:Int} (hv: -17179869184≤v∧v≤17179869184):okM (Jtz m k v) (n+1):=by
 have hg:=Jnw h k
 obtain⟨h1,h2,h3,h4⟩:=h
 unfold Jtz
 refine⟨?_,fun p hp=> ?_,Jaf h3,fun p hp=> ?_⟩
 ·have:=Jcd k ((Jv K9 k m).getD 0+v) m;omega
 ·rcases X5 hp with rfl|hp
  ·simp only;omega
  ·have:=h2 p hp;omega
 ·rcases X5 hp with rfl|hp
  ·exact hk
  ·exact h4 p hp
theorem Jqs {m:AM} {n:Nat} (h:okM m n):okM m (n+1):=by
 obtain⟨h1,h2,h3,h4⟩:=h
 exact⟨by omega,fun p hp=>by have:=h2 p hp;omega,h3,h4⟩
theorem Jvb {c:Cab} {m:AM} {n:Nat} (h:okM m n) {w:Stp} (hw: -17179869184≤w.2.2.2.2∧w.2.2.2.2≤17179869184):okM (Jk1 c m w) (n+1):=by
 unfold Jk1
 repeat' split
 ·exact Jo9 h rfl hw
 ·exact Jo9 h rfl hw
 ·exact Jqs h
theorem X1 (c:Cab) (l:List Stp) (w:Stp):Kq c (l++[w])=Jk1 c (Kq c l) w:=by
 unfold Kq;rw[List.foldl_append];rfl
theorem Jnz {c:Cab}:∀{l:List Stp} {m:AM} {n:Nat},okM m n→(∀w∈l,-17179869184≤w.2.2.2.2∧w.2.2.2.2≤17179869184)→okM (l.foldl (Jk1 c) m) (n+l.length)
 |[],_,_,h,_=>h
 |w::r,m,n,h,hl=>by
  have:=Jnz (c:=c) (l:=r) (Jvb (c:=c) h (hl w (by simp))) fun x hx=>hl x (by simp[hx])
  rw[show n+1+r.length=n+(w::r).length by simp only[List.length_cons];omega] at this
  exact this
theorem Fg {c:Cab} {l:List Stp} (h:∀w∈l,wvH c w):okM (Kq c l) l.length:=by
 have:=Jnz (c:=c) (l:=l) (m:=[]) (n:=0) ⟨Nat.le_refl _,fun p hp=>by simp at hp, .nil,fun p hp=>by simp at hp⟩ fun w hw=>by
  obtain⟨a1,_,_,a4,a5⟩:=h w hw
  have:=Ji2 (h:=w.2.2.2.1.toNat) (by omega)
  omega
 rwa[Nat.zero_add] at this
theorem Jmr {m:AM} {n:Nat} (h:okM m n):Jhm (m.map Jms):=by
 obtain⟨_,_,h3,h4⟩:=h
 rw[Jhm,List.pairwise_map]
 refine List.Pairwise.imp_of_mem (fun{a b} ha hb q e=>q ?_) h3
 have e1:=h4 a ha
 have e2:=h4 b hb
 exact Prod.ext e.1 (Prod.ext e.2 (by rw[e1,e2]))
theorem Xo:∀(n:Nat) {l:List Nat},l.Nodup→(∀p∈l,p<n)→l.length≤n
 |0,[],_,_=>Nat.le_refl _
 |0,p::_,_,h=>by have:=h p (by simp);omega
 | n + 1, l, hn, h => by
  by_cases hm:n∈l
  ·have ih:=Xo n (hn.erase n) fun p hp=>by
    have:=(hn.mem_erase_iff).1 hp
    have h2:=h p this.2
    have:=this.1
    omega
   rw[List.length_erase_of_mem hm] at ih
   omega
  ·have ih:=Xo n hn fun p hp=>by
    have h2:=h p hp
    have:p≠n:=by rintro rfl;exact hm hp
    omega
   omega
theorem Jkg {m:AM} {seen:List Nat} (h1:seen.Nodup) (h2:∀p∈seen,p<m.length) (h3:∀p,p<m.length→p∈seen):(Jkh m seen).Perm (m.map Jms):=by
 have hp:seen.Perm (List.range m.length):=(List.perm_ext_iff_of_nodup h1 List.nodup_range).2 fun p=>⟨fun h=>List.mem_range.2 (h2 p h),fun h=>h3 p (List.mem_range.1 h)⟩
 have e:m.map Jms=(List.range m.length).map fun p=>Jms (m.getD p ((0,⟨#[]⟩,0),0)):=by
  apply List.ext_getElem?
  intro j
  rw[List.getElem?_map,List.getElem?_map]
  by_cases hj:j<m.length
  ·rw[List.getElem?_range hj,List.getElem?_eq_getElem hj];simp[List.getD_eq_getElem?_getD,hj]
  ·rw[List.getElem?_eq_none (by omega),List.getElem?_eq_none (by simp;omega)];rfl
 rw[e]
 exact hp.map _
def Z0:=((0:Int),B0,(0:Int))
def Z7 (a:Cab) (b:Flt) (c:Int):=Kq a (Kr a b c)
def Z46 (a:Cab) (b:Flt) (c:Int) (d:List Nat):=Jkh (Z7 a b c) d
def Z54:List (Int×ByteArray×Int):=[]
def Z58:=Sch.prod (Sch.int IntKind.i64) (Sch.prod Sch.str (Sch.int IntKind.i64))
def Z84 (a:List Nat) (b:Nat):=b∈a
def J4s (a:Cab) (b:Flt):=Z97 a b-b.2.1
def J4k (a:List Stp×List Stp):=List.drop 1 a.1
def J00 (a:Cab) (b:Flt) (c:Int):=List.length (Z7 a b c)
def J34 (a:Cab) (b:Flt) (c:Int) (d:List Nat):=List.length (Z46 a b c d)=0
def Kc9 (a:Cab) (b:Flt) (c:Int) (d:List Nat):=(List.length (Z46 a b c d)+1)*32≤140737488355328
def Kcw (a:List Stp×List Stp):=List.getD a.1 0 (0,0,false,0,0)
def Kct (a:List Stp×List Stp):=(Kcw a).2
def J0o (a:List Stp×List Stp):=(Kcw a).1
def Kcf (a:List Stp×List Stp):=(Kct a).2
def J3f (a:List Stp×List Stp):=(Kct a).1
def Kcc (a:List Stp×List Stp):=(Kcf a).2
def Kca (a:List Stp×List Stp):=(Kcc a).2
def Kb8 (a:Cab) (b:Flt) (c:Int) (d:List Nat):=J5u (Z46 a b c d)∧Sf true (sortA (Z46 a b c d)=Va a b c)
def Kbn (a:Cab) (b:Flt) (c:Int) (d:List Nat):=List.getD (Z7 a b c) (List.getLastD d 0) (Z0,0)
def J2z (a:List Nat) (b:Cab) (c:Flt) (d:Int):=List.Nodup a∧∀(p:Nat),Z84 a p→p<List.length (Z7 b c d)
def Kbj (a:Cab) (b:Flt) (c:Int) (d:List Nat):=(Kbn a b c d).1
def Ka3 (a:Cab) (b:Flt) (c:Int) (d:List Nat) (e:Nat):=List.getD (Z7 a b c) (List.getLastD (d++[e]) 0) (Z0,0)
def Ka2 (a:Cab) (b:Flt) (c:Int) (d:List Nat) (e:Nat):=(Ka3 a b c d e).1
def J0h (a:List Stp×List Stp):=(J0o a,Z52,(0:Int))
def J0g (a:List Stp×List Stp):=(J0o a,Z53,(0:Int))
def J94 (a:List Stp×List Stp) (b:Cab):=Y0 Z58 (J0g a) (Kq b a.2)
def J93 (a:List Stp×List Stp) (b:Cab):=Y0 Z58 (J0h a) (Kq b a.2)
def J2i (a:List Stp×List Stp) (b:Cab):=Option.getD (Jv Z58 (J0h a) (Kq b a.2)) 0
def J2h (a:List Stp×List Stp) (b:Cab):=Option.getD (Jv Z58 (J0g a) (Kq b a.2)) 0
def J9p (a:List Nat) (b:Cab) (c:Flt) (d:Int) (e:List Nat):=J2z a b c d∧List.length (Z7 b c d)-List.length a<List.length (Z7 b c d)-List.length e
def J9m (a:List (Int×Int×Bool×Int×Int)×List (Int×Int×Bool×Int×Int)) (b:Cab) (c:Flt) (d:Int):=(∀(w:Stp),w∈a.1→wvH b w)∧(∀(w:Stp),w∈a.2→wvH b w)∧Yw b c∧(0≤d∧d≤1000)∧a.2++Jlc b (c.2.2.1+d) a.1=Kr b c d∧List.length a.2+wtL a.1≤4374
def Jz8 (a:List (Int×Int×Bool×Int×Int)×List (Int×Int×Bool×Int×Int)) (b:Cab) (c:Flt) (d:Int) (e:List Stp×List Stp):=J9m a b c d∧wtL a.1<wtL e.1
def J9g (a:List Stp×List Stp) (b:Cab):=J2i a b+Kca a
def J9f (a:List Stp×List Stp) (b:Cab):=J2h a b+Kca a
def J12 (a:List Stp×List Stp) (b:Cab):=Kj Z58 (J0g a) (J2h a b) (Kq b a.2)
def J11 (a:List Stp×List Stp) (b:Cab):=Kj Z58 (J0h a) (J2i a b) (Kq b a.2)
def J89 (a:List Stp×List Stp):=(J0o a,J3f a,(Kcf a).1,E2 (Kcc a))
def J86 (a:Cab) (b:List Stp×List Stp):=Js (Z39 a) (J89 b)
def J1z (a:Cab) (b:List Stp×List Stp):=Jbp a∧wvC (Z39 a) (J89 b)
def J1y (a:Cab) (b:Flt) (c:Int) (d:List Stp×List Stp) (e:List (Int×Int×Bool×Int×Int)×List (Int×Int×Bool×Int×Int)):=Si a.2.2.1 (Si a.2.2.2 (Si (b.2.2.1+c) (J4k d++J86 a d=e.1)))
def J1w (a:List Stp×List Stp) (b:Cab):=(List.length (J4k a)+List.length (J86 b a))*40≤140737488355328
def J8y (a:List Stp×List Stp) (b:Cab):=Zy (J9f a b) (J12 a b) (J94 a b)
def J8x (a:List Stp×List Stp) (b:Cab):=Zy (J9g a b) (J11 a b) (J93 a b)
def J8v (a:List Stp×List Stp) (b:Cab) (c:Flt) (d:Int):=J8x a b=Z7 b c d
def J8u (a:List Stp×List Stp) (b:Cab) (c:Flt) (d:Int):=J8y a b=Z7 b c d
def J1s (a:List Nat) (b:Cab) (c:Flt) (d:Int):=J2z a b c d∧∀(x:List Nat),J2z x b c d→Sf (Z7 b c d) ((∀(p:Nat),p<J00 b c d→(Z84 x p→False)→Br true (Sf (Z7 b c d) ((x++[p]=[]→False)∧List.getLastD (x++[p]) 0<J00 b c d)∧Kc9 b c d x∧∃(y:List Nat),Sf (Z7 b c d) (x++[p]=y∧Sf (Z7 b c d) (Z46 b c d x++((Ka2 b c d x p).1,(Ka2 b c d x p).2.1,(Ka3 b c d x p).2)::Z54=Z46 b c d y))∧J9p y b c d x) (Kb8 b c d x))∧((∀(p:Nat),p<J00 b c d→Z84 x p)→Br false (Sf (Z7 b c d) ((x=[]→False)∧List.getLastD x 0<J00 b c d)∧Kc9 b c d x∧∃(y:List Nat),Sf (Z7 b c d) (x=y∧Sf (Z7 b c d) (Z46 b c d x++((Kbj b c d x).1,(Kbj b c d x).2.1,(Kbn b c d x).2)::Z54=Z46 b c d y))∧J9p y b c d x) (Kb8 b c d x)))
def J8k (a:Cab) (b:List Stp×List Stp) (c:Flt) (d:Int):=∃(x:List Nat),(Kq a b.2=Z7 a c d∧[]=x∧Kq a b.2=Z7 a c d∧J34 a c d x)∧J1s x a c d
theorem Khr [Sx.Dr] (c:Cab) (f:Flt) (win:Int):wpFG Tryz.prog W41.g (Jty (Kq c (Kr c f win))) (fun g id=>if g=87 then some (Jz4 c f win) else none) (Sx.look ([(61,Tryz.f61),(87,Tryz.f87)]:List (Nat×Func))) Tryz.f30 Kgg (c,f,win,()):=by
 refine(by kernel_rfl:(Jgn c f win=0→((∀(k k':Int×ByteArray×Int),some (k.1==k'.1&&(Lb k.2.1 k'.2.1&&(k.2.2==k'.2.2&&true)))=some (match decide (k.1=k'.1) with|false=>false|true=>match List.beq (ByteArray.toList k.2.1) (ByteArray.toList k'.2.1) with|false=>false|true=>decide (k.2.2=k'.2.2)))∧∀(k:Int×ByteArray×Int),true=true)∧Iw (f.2.2.1+win)∧Iw (f.2.2.2*262144)∧T2 (Bd f.1 (Z4 c)) (Iw (J4s c f))∧(Iw (f.2.2.1+f.2.1)∧Iw (f.2.2.1+J4s c f)∧Iw (f.1+1))∧∃(x:List (Int×Int×Bool×Int×Int)×List (Int×Int×Bool×Int×Int)),(c.1=c.1∧c.2.1=c.2.1∧Si c.2.2.1 (Si c.2.2.2 ([]=Kq c x.2∧Si c.2.2.1 (Si c.2.2.2 (Si (f.2.2.1+win) ((f.2.2.1+f.2.1,f.1,false,0,f.2.2.2*262144)::(f.2.2.1+J4s c f,f.1+1,true,0,f.2.2.2*262144)::Jps=x.1))))))∧J9m x c f win∧∀(x:List Stp×List Stp),(∀(w:Stp),w∈x.1→wvH c w)∧(∀(w:Stp),w∈x.2→wvH c w)∧Yw c f∧(0≤win∧win≤1000)∧x.2++Jlc c (f.2.2.1+win) x.1=Kr c f win∧List.length x.2+wtL x.1≤4374→Br (decide (0<Ln x.1)) (Tw (Bd 0 (Ln x.1))∧((0:Int)≤1∧1≤Ln x.1)∧Br (decide (f.2.2.1+win<J0o x)) (∃(y:List (Int×Int×Bool×Int×Int)×List (Int×Int×Bool×Int×Int)),(c.1=c.1∧c.2.1=c.2.1∧Si c.2.2.1 (Si c.2.2.2 (Kq c x.2=Kq c y.2∧Si c.2.2.1 (Si c.2.2.2 (Si (f.2.2.1+win) (J4k x=y.1))))))∧Jz8 y c f win x) (Br (J3f x==0) ((SV.v false [SC.int IntKind.i64 (Option.getD (Jv Z58 (J0h x) (J11 x c)) 0)]=SV.v false [SC.int IntKind.i64 (J2i x c)]∧Iw (J9g x c)∧Bd (Nc (J93 x c)) (Ln (J11 x c)))∧Br false (∃(x_1:List Nat),(J8v x c f win∧[]=x_1∧J8v x c f win∧J34 c f win x_1)∧J1s x_1 c f win) (J1z c x∧J1w x c∧∃(y:List (Int×Int×Bool×Int×Int)×List (Int×Int×Bool×Int×Int)),(c.1=c.1∧c.2.1=c.2.1∧Si c.2.2.1 (Si c.2.2.2 (J8x x c=Kq c y.2∧J1y c f win x y)))∧Jz8 y c f win x)) (Br (J3f x==Z4 c) ((SV.v false [SC.int IntKind.i64 (Option.getD (Jv Z58 (J0g x) (J12 x c)) 0)]=SV.v false [SC.int IntKind.i64 (J2h x c)]∧Iw (J9f x c)∧Bd (Nc (J94 x c)) (Ln (J12 x c)))∧Br false (∃(x_1:List Nat),(J8u x c f win∧[]=x_1∧J8u x c f win∧J34 c f win x_1)∧J1s x_1 c f win) (J1z c x∧J1w x c∧∃(y:List (Int×Int×Bool×Int×Int)×List (Int×Int×Bool×Int×Int)),(c.1=c.1∧c.2.1=c.2.1∧Si c.2.2.1 (Si c.2.2.2 (J8y x c=Kq c y.2∧J1y c f win x y)))∧Jz8 y c f win x)) (Br false (J8k c x f win) (J1z c x∧J1w x c∧∃(y:List (Int×Int×Bool×Int×Int)×List (Int×Int×Bool×Int×Int)),(c.1=c.1∧c.2.1=c.2.1∧Si c.2.2.1 (Si c.2.2.2 (Kq c x.2=Kq c y.2∧J1y c f win x y)))∧Jz8 y c f win x))))) (J8k c x f win))=_).mp ?_
 delta Z0 Z4 Z7 Z39 Z46 Z52 Z53 Z54 Z58 Z66 Z84 Z97 Jbp Jps J4s J4k J00 J34 Kc9 Kcw Kct J0o Kcf J3f Kcc Kca Kb8 Kbn J2z Kbj Ka3 Ka2 J0h J0g J94 J93 J2i J2h J9p J9m Jz8 J9g J9f J12 J11 J89 J86 J1z J1y J1w J8y J8x J8v J8u J1s J8k Br Iw Bd T2 Tw Sf Si Ln Nc Gt B0 Lb E2
 intro h1
 obtain⟨ef,hw⟩:=Jx0 h1
 obtain⟨hc,hfv⟩:=D3 ef
 have hv:=hfv.1
 obtain⟨_,g1,g2,g3,g4,g5⟩:=id hfv
 have b:=hv.2.2.1 _ (Jj (d:=(0,0)) (l:=c.1) (k:=f.1.toNat) (by omega))
 have hi:=Jaw hfv
 have hlen:=hv.2.1
 refine⟨⟨fun k k'=>(by simp only[Bool.and_true];rfl),fun _=>rfl⟩,by omega,by omega,⟨g1,g1,by omega⟩,⟨by omega,by omega,by omega⟩,(Jax c f,[]),⟨rfl,rfl,rfl,rfl,rfl,rfl,rfl,rfl,rfl⟩,⟨hi,fun w hw=>(by simp at hw),hfv,hw,rfl,by show 0+wtL (Jax c f)≤4374;rw[Jiz];omega⟩,fun p hp=> ?_⟩
 obtain⟨o,out⟩:=p
 obtain⟨p1,p0,_,_,p2,p3⟩:=hp
 replace p2:out++Jlc c (f.2.2.1+win) o=Kr c f win:=p2
 replace p3:out.length+wtL o≤4374:=p3
 replace p0:∀w∈out,wvH c w:=p0
 have hm:=Fg p0
 cases o with
 | nil =>
  refine⟨fun h1=>by simp at h1,fun h1=> ?_⟩
  have p2:out=Kr c f win:=by rw[←p2];exact(List.append_nil out).symm
  have hm:okM (Kq c (Kr c f win)) out.length:=by rw[←p2];exact hm
  have p3:out.length≤4374:=by omega
  have eA:Va c f win=sortA ((Kq c (Kr c f win)).map Jms):=rfl
  refine⟨[],⟨by rw[←p2],rfl,by rw[←p2],rfl⟩,⟨List.nodup_nil,fun p hp=>by simp at hp⟩, ?_⟩
  rw[eA]
  generalize Kq c (Kr c f win)=m at hm⊢
  intro seen hs
  have hls:=Xo m.length hs.1 hs.2
  have hlm:=hm.1
  have hl2:(Jkh m seen).length=seen.length:=by simp[Jkh]
  refine⟨rfl,fun p hp hps=>⟨fun _=> ?_,fun h=>(by cases h)⟩,fun hall=>⟨fun h=>(by cases h),fun _=> ?_⟩⟩
  ·have hl:(seen++[p]).getLastD 0=p:=by simp[List.getLastD_eq_getLast?]
   have hn:(seen++[p]).Nodup:=List.nodup_append.2 ⟨hs.1,by simp,fun x hx y hy=>by
    have:y=p:=by simpa using hy
    subst this
    rintro rfl
    exact hps hx⟩
   have ha:∀q∈seen++[p],q<m.length:=fun q hq=>by
    rcases List.mem_append.1 hq with hq|hq
    ·exact hs.2 q hq
    ·have:q=p:=by simpa using hq
     subst this;exact hp
   have hlen2:=Xo _ hn ha
   rw[List.length_append] at hlen2
   have hlen2:seen.length+1≤m.length:=hlen2
   rw[hl,hl2]
   refine⟨⟨rfl,by simp,hp⟩,by omega,seen++[p],⟨rfl,rfl,rfl, ?_⟩,⟨hn,ha⟩,by rw[List.length_append];simp;omega⟩
   simp only[Jkh,List.map_append,List.map_cons,List.map_nil]
   rfl
  ·have hp:=Jkg hs.1 hs.2 hall
   have hk:=Jmr hm
   refine⟨⟨L9 hp.symm hk,by omega⟩,rfl, ?_⟩
   exact Zu ((U2 _).trans (hp.trans (U2 _).symm)) (U7 (L9 hp.symm hk)) (U7 hk)
 | cons w r =>
  have hw':wvH c w:=p1 w (by simp)
  have hr:=Jmp (last:=f.2.2.1+win) hv p1
  have hc':=H9 (c:=c) hw'.1
  have hp:=Zd w
  have hl1:=Jsw r
  have hl2:=Jgg c w
  simp only[wtL] at p3
  rw[hr] at p2
  refine⟨fun h1=> ?_,fun h1=>by simp at h1⟩
  have l1:0<((w::r).length:Int):=by simp only[List.length_cons];omega
  refine⟨⟨⟨by omega,l1⟩,by omega,l1⟩,⟨by omega,l1⟩,fun h2=> ?_,fun h2=> ?_⟩
  ·have h2:f.2.2.1+win<w.1:=of_decide_eq_true h2
   rw[if_pos h2] at p2
   refine⟨(r,out),⟨rfl,rfl,rfl,rfl,rfl,rfl,rfl,rfl,rfl⟩,⟨fun x hx=>p1 x (by simp[hx]),p0,hfv,hw,p2, ?_⟩, ?_⟩
   ·show out.length+wtL r≤4374
    omega
   ·show wtL r<wtL (w::r)
    simp only[wtL];omega
  ·have h2:¬f.2.2.1+win<w.1:=of_decide_eq_false h2
   rw[if_neg h2] at p2
   have f1:(r.length+(Js c w).length)*40≤140737488355328:=by omega
   have f2:(out++[w])++Jlc c (f.2.2.1+win) (r++Js c w)=Kr c f win:=by rw[List.append_assoc];exact p2
   have f3:(out++[w]).length+wtL (r++Js c w)≤4374:=by rw[K3,List.length_append,List.length_singleton];omega
   have f4:wtL (r++Js c w)<wtL (w::r):=by rw[K3];simp only[wtL];omega
   have f5:∀x∈out++[w],wvH c x:=fun x hx=>by
    rcases List.mem_append.1 hx with hx|hx
    ·exact p0 x hx
    ·simp only[List.mem_singleton] at hx;rw[hx];exact hw'
   have hB: -17179869184≤w.2.2.2.2∧w.2.2.2.2≤17179869184:=by
    obtain⟨a1,_,_,a4,a5⟩:=hw'
    have:=Ji2 (h:=w.2.2.2.1.toNat) (by omega)
    omega
   refine⟨fun e0=> ?_,fun e0=>⟨fun e1=> ?_,fun e1=> ?_⟩⟩
   ·have e0:w.2.1=0:=eq_of_beq e0
    have hg:=Jnw hm (w.1,sA,0)
    refine⟨⟨?_, ?_,Int.natCast_nonneg _,Int.ofNat_lt.2 (Jag (w.1,sA,0) _ _)⟩,fun h=>(by cases h),fun _=>⟨⟨hc,Jpy hv hw'⟩,f1,(r++Js c w,out++[w]),⟨rfl,rfl,rfl,rfl, ?_,rfl,rfl,rfl,rfl⟩,⟨Jrw hv p1,f5,hfv,hw,f2,f3⟩,f4⟩⟩
    ·exact Jah (w.1,sA,0) _
    ·show -9223372036854775808≤(Jv K9 (w.1,sA,0) (Kq c out)).getD 0+w.2.2.2.2∧(Jv K9 (w.1,sA,0) (Kq c out)).getD 0+w.2.2.2.2≤9223372036854775807
     omega
    ·rw[X1]
     unfold Jk1 Jtz
     rw[if_pos e0]
     exact L3 (w.1,sA,0) _ _ _
   ·have e0:¬w.2.1=0:=by
     have e0:(w.2.1==0)=false:=e0
     simpa using e0
    have e1:w.2.1=c.1.length:=eq_of_beq e1
    have hg:=Jnw hm (w.1,sB,0)
    refine⟨⟨?_, ?_,Int.natCast_nonneg _,Int.ofNat_lt.2 (Jag (w.1,sB,0) _ _)⟩,fun h=>(by cases h),fun _=>⟨⟨hc,Jpy hv hw'⟩,f1,(r++Js c w,out++[w]),⟨rfl,rfl,rfl,rfl, ?_,rfl,rfl,rfl,rfl⟩,⟨Jrw hv p1,f5,hfv,hw,f2,f3⟩,f4⟩⟩
    ·exact Jah (w.1,sB,0) _
    ·show -9223372036854775808≤(Jv K9 (w.1,sB,0) (Kq c out)).getD 0+w.2.2.2.2∧(Jv K9 (w.1,sB,0) (Kq c out)).getD 0+w.2.2.2.2≤9223372036854775807
     omega
    ·rw[X1]
     unfold Jk1 Jtz
     rw[if_neg e0,if_pos e1]
     exact L3 (w.1,sB,0) _ _ _
   ·have e0:¬w.2.1=0:=by
     have e0:(w.2.1==0)=false:=e0
     simpa using e0
    have e1:¬w.2.1=c.1.length:=by
     have e1:(w.2.1==(c.1.length:Int))=false:=e1
     simpa using e1
    refine⟨fun h=>(by cases h),fun _=>⟨⟨hc,Jpy hv hw'⟩,f1,(r++Js c w,out++[w]),⟨rfl,rfl,rfl,rfl, ?_,rfl,rfl,rfl,rfl⟩,⟨Jrw hv p1,f5,hfv,hw,f2,f3⟩,f4⟩⟩
    rw[X1]
    unfold Jk1
    rw[if_neg e0,if_neg e1]
theorem Kjx [Sx.Dr]:Ok Tryz.prog 30 Kgg:=Vz mixed W41.ok (by kernel_rfl) (by kernel_rfl) (H2 (l:=([(61,Tryz.f61),(87,Tryz.f87)]:List (Nat×Func))) (List.forall_mem_cons.2 ⟨by kernel_rfl,List.forall_mem_cons.2 ⟨by kernel_rfl,by simp⟩⟩)) (fun xx=>Jty (Kq xx.1 (Kr xx.1 xx.2.1 xx.2.2.1))) (fun xx=>fun g id=>if g=87 then some (Jz4 xx.1 xx.2.1 xx.2.2.1) else none) fun xx=>Khr xx.1 xx.2.1 xx.2.2.1
abbrev W42 [Sx.Dr]:=W41.add Kjx
def Zm (c:Cab) (f:Flt) (win:Int):List Arr:=if Jgn c f win=0 then Va c f win else[]
def Jgj:Con:={args:=[aC,aF,aI],ress:=[(false, .list 48 K9),I],owns:=[],pre:=fun(c,f,win,_)=>[c.1.length≤1000000,c.2.1.length≤1000000],spec:=fun(c,f,win,_)=>(Zm c f win,Jgn c f win,())}
def J4d (a:Cab) (b:Flt) (c:Int):=Jgn (Z39 a) (Z38 b) c
theorem wp7 [Sx.Dr] (c:Cab) (f:Flt) (win:Int):wpF Tryz.prog W42.g (na ()) Tryz.f7 Jgj (c,f,win,()):=by
 refine(by kernel_rfl:(Z64 c→Z30 c→Jpq c∧Br (J4d c f win !=0) (Z54=Zm c f win∧J4d c f win=Jgn c f win) (J4d c f win=0∧Va (Z39 c) (Z38 f) win=Zm c f win∧0=Jgn c f win))=_).mp ?_
 delta Z13 Z26 Z30 Z38 Z39 Z54 Z64 Z67 Jpq J4d Br E2
 intro h1 h2
 refine⟨⟨h1,h2⟩,fun e=> ?_,fun e=> ?_⟩
 ·have e:¬Jgn c f win=0:=Kh.1 e
  unfold Zm;rw[if_neg e];exact⟨rfl,rfl⟩
 ·have e:Jgn c f win=0:=Jz.1 e
  unfold Zm;rw[if_pos e];exact⟨e,rfl,e.symm⟩
theorem ok7 [Sx.Dr]:Ok Tryz.prog 7 Jgj:=Je mixed W42.ok (by kernel_rfl) (by kernel_rfl) na fun xx=>wp7 xx.1 xx.2.1 xx.2.2.1
abbrev W43 [Sx.Dr]:=W42.add ok7
def Jrj (w:Stp):ByteArray:=if w.2.1=0 then sA else sB
abbrev dA:Arr:=(0,⟨⟨[]⟩⟩,0)
theorem Jxz {c:Cab} {w:Stp} (h:wvH c w): -17179869184≤w.2.2.2.2∧w.2.2.2.2≤17179869184:=by
 obtain⟨a1,_,_,a4,a5⟩:=h
 have:=Ji2 (h:=w.2.2.2.1.toNat) (by omega)
 omega
theorem Ft {c:Cab} {f:Flt} {win:Int} (h:Yw c f):(∀w∈Kr c f win,wvH c w∧w.1≤f.2.2.1+win)∧(Kr c f win).length≤4374:=
 ⟨Jv3 h.1 (Jaw h),by have:=Jh0 (last:=f.2.2.1+win) h.1 (Jaw h) (Nat.le_refl _);rw[Jiz] at this;exact this⟩
def Hm (c:Cab):Bool:=decide (c.1.length≤7)&&decide (c.2.1.length≤8)
def Jti:Con:={args:=[aCR],ress:=[Bo],owns:=[],pre:=fun _=>[],spec:=fun(c,_)=>(Hm c,())}
theorem wp4 [Sx.Dr] (c:Cab):wpF Tryz.prog W43.g (na ()) Tryz.f4 Jti (c,()):=by
 refine(by kernel_rfl:((bif decide (Z4 c≤7) then decide (Ln c.2.1≤8) else false)=Hm c)=_).mp ?_
 delta Z4 Ln
 unfold Hm
 rw[show decide (c.1.length≤7)=decide ((c.1.length:Int)≤7) from decide_eq_decide.2 (by omega),show decide (c.2.1.length≤8)=decide ((c.2.1.length:Int)≤8) from decide_eq_decide.2 (by omega)]
 cases decide ((c.1.length:Int)≤7)<;>rfl
theorem ok4 [Sx.Dr]:Ok Tryz.prog 4 Jti:=Je mixed W43.ok (by kernel_rfl) (by kernel_rfl) na fun xx=>wp4 xx.1
abbrev W44 [Sx.Dr]:=W43.add ok4
def Kf8:Con:={args:=[aCR],ress:=[(true,J5s 91)],owns:=[],pre:=fun(c,_)=>[c.1.length≤1000000,c.2.1.length≤1000000],spec:=fun(c,_)=>(c,())}
abbrev zC:List SC:=[.val (.slice none 0 0), .val (.slice none 0 0), .int .i64 0, .int .i64 0]
abbrev Jtu (T U A B:TypeId) (c:Cab):Ann:={X:=Nat,σ:=fun k=>⟨8,[(2, .one (.ptr 3 0)),(3, .one (.ptr 6 0)),(14, .one (.sl 0)),(15, .one (.int .i64 c.1.length)),(16, .one (.int .i64 k))],[(0, .imm T sPt c.1),(3, .box B zC),(5, .own 3 sI c.2.1),(6, .box B [.sl 7, .sl 5, .int .i64 c.2.2.1, .int .i64 c.2.2.2]),(7, .own U sPt (c.1.take k))]⟩,inv:=fun k=>k≤c.1.length,mu:=fun k=>c.1.length-k}
abbrev Jv7 (T:TypeId) (s:Sch) (a b:List s.T) (J:Nat→Prop):Ann:={X:=Nat,σ:=fun k=>⟨2,[(0, .one (.sl 0)),(1, .one (.sl 1)),(5, .one (.int .i64 k))],[(0, .imm T s a),(1, .imm T s b)]⟩,inv:=fun k=>k≤a.length∧a.length=b.length∧J k,mu:=fun k=>a.length-k}
theorem Jmi {α:Type} {a b:List α} {k:Nat} {d:α} (h:a.take k=b.take k) (hl:a.length=b.length) (hk:k<a.length) (he:a.getD k d=b.getD k d):a.take (k+1)=b.take (k+1):=by
 rw[←Jy (d:=d) hk,←Jy (d:=d) (by omega),h,he]
def Jy8:Con:={args:=[.val false (.list 3 sI), .val false (.list 3 sI)],ress:=[Bo],owns:=[],pre:=fun(a,b,_)=>[a.length≤1000000],spec:=fun(a,b,_)=>(decide (a=b),())}
def J4g (a b:Li):=Ln a !=Ln b
def Jwh (a:Nat) (b c:Li):=a≤List.length b∧List.length b=List.length c∧List.take a b=List.take a c
def J3y (a:Li) (b:Nat) (c:Li):=Z3 a b !=Z3 c b
def J2v (a:Nat) (b c:Li) (d:Nat):=Jwh a b c∧Z86 b a d
theorem Kjz [Sx.Dr]:Ok Tryz.prog 28 Jy8:=okW W44 Tryz.f28 (fun xx=>Vi (Jv7 3 sI xx.1 xx.2.1 fun k=>xx.1.take k=xx.2.1.take k)) fun xx=>by
 obtain⟨(a:List Int),(b:List Int),_⟩:=xx
 refine(by kernel_rfl:(Z12 a→Br (J4g a b) (false=decide (a=b)) (∃(x:Nat),(0=Nc x∧Sf a (b=b))∧Jwh x a b∧∀(x:Nat),Jwh x a b→Br (Z28 x a) (T2 (Bd (Nc x) (Ln a)) (Z22 x b)∧Br (J3y a x b) (false=decide (a=b)) (Z1 x∧∃(y:Nat),(Z25 x y∧Sf a (b=b))∧J2v y a b x)) (true=decide (a=b))))=_).mp ?_
 delta Z1 Z3 Z12 Z22 Z25 Z28 Z86 J4g Jwh J3y J2v Br Iw Bd T2 Tw Sf Ln Nc
 intro hb
 refine⟨fun h=> ?_,fun h=> ?_⟩
 ·have hne:¬a.length=b.length:=by intro e;rw[e] at h;simp at h
  have:¬a=b:=by rintro rfl;exact hne rfl
  simp[this]
 ·have hlen:a.length=b.length:=by
   have:(a.length:Int)=b.length:=by simpa using h
   omega
  refine⟨(0:Nat),⟨rfl,rfl,rfl⟩,⟨Nat.zero_le _,hlen,rfl⟩,fun(k:Nat) hk=>⟨fun h=> ?_,fun h=> ?_⟩⟩
  ·have hlt:k<a.length:=by simpa using h
   refine⟨by omega,fun h1=> ?_,fun h1=>⟨by omega,(k+1:Nat),⟨by simp,rfl,rfl⟩,⟨by omega,hlen, ?_⟩,by omega⟩⟩
   ·have:¬a=b:=by rintro rfl;simp at h1
    simp[this]
   ·have he:a.getD k 0=b.getD k 0:=by
     simpa using h1
    exact Jmi hk.2.2 hlen hlt he
  ·have hlt:¬k<a.length:=by simpa using h
   have hk':k=a.length:=by omega
   have h2:=hk.2.2
   rw[hk',List.take_length,hlen,List.take_length] at h2
   simp[h2]
abbrev W45 [Sx.Dr]:=W44.add Kjz
def Jky (p:Option Arr) (a:Arr):Bool:=match p with
 |none=>false
 |some b=>decide (Lk a b≤0)
def Jld (p:Option Arr) (a:Arr):Int:=Ja [Jb a.1 0 999999999,D4 a.2.1,Jb a.2.2 (-17592186044416) 17592186044416,bif Jky p a then 11 else 0]
def H8:Option Arr→List Arr→Int
 |_,[]=>0
 |p,a::r=>if Jld p a=0 then H8 (some a) r else Jld p a
def Xe (l:List Arr) (k:Nat):Option Arr:=if k=0 then none else some (l.getD (k-1) dA)
def Lf (l:List Arr):Int:=if 2048<l.length then 5 else H8 none l
theorem Jjn {l:List Arr} {k:Nat} (h:k<l.length):H8 (Xe l k) (l.drop k)=if Jld (Xe l k) (l.getD k dA)=0 then H8 (Xe l (k+1)) (l.drop (k+1)) else Jld (Xe l k) (l.getD k dA):=by
 rw[V4 (d:=dA) h]
 simp only[H8]
 have:Xe l (k+1)=some (l.getD k dA):=by unfold Xe;simp
 rw[this]
theorem Jfi (l:List Arr) (k:Nat):Xe l (k+1)=some (l.getD k dA):=by unfold Xe;simp
theorem Ju6 (l:List Arr) (k:Nat):(bif decide (0<(k:Int)) then decide (Lk (l.getD k dA) (l.getD (max 0 ((k:Int)-1)).toNat dA)≤0) else false)=Jky (Xe l k) (l.getD k dA):=by
 cases k with
 |zero=>rfl
 |succ n=>
  rw[Jfi,decide_eq_true (by omega:(0:Int)<((n+1:Nat):Int)),show(max 0 (((n+1:Nat):Int)-1)).toNat=n by omega]
  rfl
theorem Jvp (a b:Arr):decide (Lk a b≤0)=(bif decide (a.1<b.1) then true else bif a.1==b.1 then(Op.bytesLess a.2.1.toList b.2.1.toList||a.2.1.toList==b.2.1.toList) else false):=by
 by_cases h1:a.1<b.1
 ·have e0:Jen a.1 b.1= -1:=by unfold Jen;rw[if_pos h1]
  have e:Lk a b= -1:=by unfold Lk;simp[Ja,e0]
  rw[e,decide_eq_true h1];rfl
 ·rw[decide_eq_false h1]
  by_cases h2:b.1<a.1
  ·have e0:Jen a.1 b.1=1:=by unfold Jen;rw[if_neg h1,if_pos h2]
   have e:Lk a b=1:=by unfold Lk;simp[Ja,e0]
   have:(a.1==b.1)=false:=by rw[beq_eq_false_iff_ne];omega
   rw[e,this];rfl
  ·have e0:Jen a.1 b.1=0:=by unfold Jen;rw[if_neg h1,if_neg h2]
   have e:Lk a b=cmpB a.2.1 b.2.1:=by
    unfold Lk
    rw[e0]
    generalize cmpB a.2.1 b.2.1=q
    simp only[Ja]
    rw[if_pos trivial]
    split
    ·omega
    ·rfl
   have:(a.1==b.1)=true:=by rw[beq_iff_eq];omega
   rw[e,this]
   simp only[cond_true,cond_false]
   unfold cmpB bLt
   cases hb:Op.bytesLess a.2.1.toList b.2.1.toList with
   |true=>rfl
   |false=>
    by_cases he:a.2.1.toList=b.2.1.toList
    ·rw[he];simp
    ·simp[he]
theorem Jiw (l:List Arr) (k:Nat):(bif decide (0<(k:Int)) then(bif decide ((l.getD k dA).1<(l.getD ((k:Int)-1).toNat dA).1) then true else bif (l.getD k dA).1==(l.getD ((k:Int)-1).toNat dA).1 then(Op.bytesLess (l.getD k dA).2.1.toList (l.getD ((k:Int)-1).toNat dA).2.1.toList||(l.getD k dA).2.1.toList==(l.getD ((k:Int)-1).toNat dA).2.1.toList) else false) else false)=Jky (Xe l k) (l.getD k dA):=by
 cases k with
 |zero=>rfl
 |succ n=>
  rw[Jfi,decide_eq_true (by omega:(0:Int)<((n+1:Nat):Int)),show(((n+1:Nat):Int)-1).toNat=n by omega]
  simp only[cond_true]
  rw[←Jvp];rfl
theorem Jkn (p:Option Arr) (a:Arr):Jld p a=if Ja [Jb a.1 0 999999999,D4 a.2.1,Jb a.2.2 (-17592186044416) 17592186044416]=0 then(bif Jky p a then 11 else 0) else Ja [Jb a.1 0 999999999,D4 a.2.1,Jb a.2.2 (-17592186044416) 17592186044416]:=by
 unfold Jld
 generalize Jb a.1 0 999999999=x
 generalize D4 a.2.1=y
 generalize Jb a.2.2 (-17592186044416) 17592186044416=z
 generalize(bif Jky p a then(11:Int) else 0)=q
 simp only[Ja]
 repeat' split
 all_goals first|rfl|omega
def J8b:Con:={args:=[.val false (.list 48 K9)],ress:=[I],owns:=[],pre:=fun(l,_)=>[l.length≤1000000],spec:=fun(l,_)=>(Lf l,())}
abbrev Jz3 (l:List Arr):Ann:={X:=Nat,σ:=fun k=>⟨1,[(0, .one (.sl 0)),(10, .one (.sl 0)),(11, .one (.int .i64 l.length)),(12, .one (.int .i64 k))],[(0, .imm 48 K9 l)]⟩,inv:=fun k=>k≤l.length∧l.length≤2048∧Lf l=H8 (Xe l k) (l.drop k),mu:=fun k=>l.length-k}
def Z2 (a:Nat) (b:List Arr):=Bd (Nc a) (Ln b)
def Z44 (a:Nat):=decide (0<Nc a)=true
def Jcw (a:List Arr):=List.length a≤1000000
def J4n (a:Nat):=Z44 a→Iw (Nc a-1)
def Jxs (a:List Arr) (b:Nat):=(List.getD a b Z0).2
def Jws (a:List Arr) (b:Nat):=(List.getD a b Z0).1
def J02 (a:List Arr) (b:Nat):=(Jxs a b).1
def J39 (a:List Arr) (b:Nat):=D4 (J02 a b)
def Kef (a:List Arr) (b:Nat):=Gt a (max 0 (Nc b-1)) Z0
def J32 (a:List Arr) (b:Nat):=Jb (Jws a b) 0 999999999
def Jwf (a:Nat) (b:List Arr):=a≤List.length b∧List.length b≤2048∧Lf b=H8 (Xe b a) (List.drop a b)
def J3j (a:List Arr) (b:Nat):=Jb (Jxs a b).2 (-17592186044416) 17592186044416
def J2s (a:Nat) (b:List Arr) (c:Nat):=Jwf a b∧List.length b-a<List.length b-c
def J2r (a:List Arr) (b:Nat):=(Jws a b,E2 (Jxs a b))
def J82 (a:List Arr) (b:Nat):=Ja [J32 a b,J39 a b,J3j a b,bif bif decide (0<Nc b) then decide (Lk (J2r a b) ((Kef a b).1,E2 (Kef a b).2)≤0) else false then 11 else 0]
theorem Kju [Sx.Dr]:Ok Tryz.prog 33 J8b:=okW W45 Tryz.f33 (fun xx=>Vi (Jz3 xx.1)) fun xx=>by
 obtain⟨(l:List Arr),_⟩:=xx
 refine(by kernel_rfl:(Jcw l→Br (decide (2048<Ln l)) (5=Lf l) (∃(x:Nat),Si (Ln l) (0=Nc x∧l=l)∧Jwf x l∧∀(x:Nat),Jwf x l→Br (decide (Nc x<Ln l)) (Tw (Z2 x l)∧(J4n x∧Tw (Z44 x→Bd (max 0 (Nc x-1)) (Ln l)))∧4≤1000000∧Br (J82 l x !=0) (J82 l x=Lf l) (Z1 x∧∃(y:Nat),Si (Ln l) (Z25 x y∧l=l)∧J2s y l x)) (0=Lf l)))=_).mp ?_
 delta Z0 Z1 Z2 Z25 Z44 Jcw J4n Jxs Jws J02 J39 Kef J32 Jwf J3j J2s J2r J82 Br Iw Bd Tw Si Ln Nc Gt B0 E2
 intro h1
 refine⟨fun h=> ?_,fun h=> ?_⟩
 ·have h:=of_decide_eq_true h
  unfold Lf;rw[if_pos (by omega)]
 have h:¬2048<l.length:=by have:=of_decide_eq_false h;omega
 have eA:Lf l=H8 none l:=by unfold Lf;rw[if_neg h]
 refine⟨(0:Nat),⟨rfl,rfl,rfl⟩,⟨Nat.zero_le _,by omega,eA⟩,fun(k:Nat) hk=>⟨fun e=> ?_,fun e=> ?_⟩⟩
 ·have hlt:k<l.length:=by simpa using e
  have hd:=Jjn hlt
  have e1:Ja [Jb (l.getD k dA).1 0 999999999,D4 (l.getD k dA).2.1,Jb (l.getD k dA).2.2 (-17592186044416) 17592186044416,bif (bif decide (0<(k:Int)) then decide (Lk (l.getD k dA) (l.getD (max 0 ((k:Int)-1)).toNat dA)≤0) else false) then 11 else 0]=Jld (Xe l k) (l.getD k dA):=by
   rw[Ju6];rfl
  refine⟨⟨by omega,by omega⟩,⟨fun h=>by have:=of_decide_eq_true h;omega,fun h=>by have:=of_decide_eq_true h;omega,fun h=>by have:=of_decide_eq_true h;omega⟩,by omega,fun h=> ?_,fun h=> ?_⟩
  ·have h:¬Jld (Xe l k) (l.getD k dA)=0:=by rw[←e1];exact bne_iff_ne.1 h
   rw[hk.2.2,hd,if_neg h];exact e1
  ·have h:Jld (Xe l k) (l.getD k dA)=0:=by rw[←e1];exact bne_eq_false_iff_eq.1 h
   refine⟨by omega,(k+1:Nat),⟨rfl,by simp,rfl⟩,⟨by omega,by omega, ?_⟩,by omega⟩
   rw[hk.2.2,hd,if_pos h]
 ·have hge:¬k<l.length:=by simpa using e
  rw[hk.2.2,List.drop_of_length_le (by omega)]
  rfl
abbrev W46 [Sx.Dr]:=W45.add Kju
abbrev Jv9 (l:List Arr):Ann:={X:=Nat,σ:=fun k=>⟨1,[(0, .one (.sl 0)),(3, .one (.int .i64 k))],[(0, .imm 107 K9 l)]⟩,inv:=fun k=>k≤l.length∧l.length≤2048∧Lf l=H8 (Xe l k) (l.drop k),mu:=fun k=>l.length-k}
def Jzq:Con:={args:=[.val false (.list 107 K9)],ress:=[I],owns:=[],pre:=fun(l,_)=>[l.length≤1000000],spec:=fun(l,_)=>(Lf l,())}
def J1b (a:List Arr) (b:Nat):=Gt a (Nc b-1) Z0
def Kbv (a:List Arr) (b:Nat):=Jws a b==(J1b a b).1
def Kbi (a:List Arr) (b:Nat):=decide (Jws a b<(J1b a b).1)
def J0e (a:Nat) (b:List Arr):=Z44 a∧Kbi b a=false
def J9l (a:List Arr) (b:Nat):=Ja [J32 a b,J39 a b,J3j a b]
def J19 (a:Nat) (b:List Arr):=J0e a b∧Kbv b a=true
theorem ok9 [Sx.Dr]:Ok Tryz.prog 9 Jzq:=okW W46 Tryz.f9 (fun xx=>Vi (Jv9 xx.1)) fun xx=>by
 obtain⟨(l:List Arr),_⟩:=xx
 refine(by kernel_rfl:(Jcw l→Br (decide (2048<Ln l)) (5=Lf l) (∃(x:Nat),(0=Nc x∧l=l)∧Jwf x l∧∀(x:Nat),Jwf x l→Br (decide (Nc x<Ln l)) (T2 (Z2 x l) (T2 (Z2 x l) (T2 (Z2 x l) (3≤1000000)))∧Br (J9l l x !=0) (J9l l x=Lf l) (T2 (Z44 x→Z2 x l) (J4n x∧T2 (Z44 x→Bd (Nc x-1) (Ln l)) (T2 (J0e x l→Z2 x l) ((J0e x l→Iw (Nc x-1))∧T2 (J0e x l→Bd (Nc x-1) (Ln l)) (T2 (J19 x l→Z2 x l) ((J19 x l→Iw (Nc x-1))∧Tw (J19 x l→Bd (Nc x-1) (Ln l)))))))∧Br (bif decide (0<Nc x) then bif Kbi l x then true else bif Kbv l x then Op.bytesLess (ByteArray.toList (J02 l x)) (ByteArray.toList (J1b l x).2.1)||Lb (J02 l x) (J1b l x).2.1 else false else false) (11=Lf l) (Z1 x∧∃(y:Nat),(Z25 x y∧l=l)∧J2s y l x))) (0=Lf l)))=_).mp ?_
 delta Z0 Z1 Z2 Z25 Z44 Jcw J1b J4n Jxs Jws J02 J39 J32 Jwf J3j Kbv Kbi J2s J0e J9l J19 Br Iw Bd T2 Tw Ln Nc Gt B0 Lb
 intro h1
 refine⟨fun h=> ?_,fun h=> ?_⟩
 ·have h:=of_decide_eq_true h
  unfold Lf;rw[if_pos (by omega)]
 have h:¬2048<l.length:=by have:=of_decide_eq_false h;omega
 have eA:Lf l=H8 none l:=by unfold Lf;rw[if_neg h]
 refine⟨(0:Nat),⟨rfl,rfl⟩,⟨Nat.zero_le _,by omega,eA⟩,fun(k:Nat) hk=>⟨fun e=> ?_,fun e=> ?_⟩⟩
 ·have hlt:k<l.length:=by simpa using e
  have hd:=Jjn hlt
  have h3:=Jkn (Xe l k) (l.getD k dA)
  have kk:0≤(k:Int)∧(k:Int)<l.length:=by omega
  have km: -9223372036854775808≤(k:Int)-1∧(k:Int)-1≤9223372036854775807:=by omega
  have kp:decide (0<(k:Int))=true→0≤(k:Int)-1∧(k:Int)-1<l.length:=fun h=>by have:=of_decide_eq_true h;omega
  refine⟨⟨kk,kk,kk,kk,kk,kk,by omega⟩,fun h=> ?_,fun h=>⟨⟨fun _=>kk,fun _=>kk,fun _=>km,kp,kp,fun _=>kk,fun _=>kk,fun _=>km,fun q=>kp q.1,fun q=>kp q.1,fun _=>kk,fun _=>kk,fun _=>km,fun q=>kp q.1.1,fun q=>kp q.1.1⟩,fun h'=> ?_,fun h'=> ?_⟩⟩
  ·have h:=bne_iff_ne.1 h
   have h3:Jld (Xe l k) (l.getD k dA)=_:=h3
   rw[if_neg h] at h3
   rw[hk.2.2,hd,h3,if_neg h]
  ·have h:=bne_eq_false_iff_eq.1 h
   have h':=(Jiw l k).symm.trans h'
   rw[if_pos h,h'] at h3
   rw[hk.2.2,hd,h3,if_neg (by decide)]
   rfl
  ·have h:=bne_eq_false_iff_eq.1 h
   have h':=(Jiw l k).symm.trans h'
   rw[if_pos h,h'] at h3
   refine⟨by omega,(k+1:Nat),⟨by simp,rfl⟩,⟨by omega,by omega, ?_⟩,by omega⟩
   rw[hk.2.2,hd,h3]
   exact if_pos rfl
 ·have hge:¬k<l.length:=by simpa using e
  rw[hk.2.2,List.drop_of_length_le (by omega)]
  rfl
abbrev W47 [Sx.Dr]:=W46.add ok9
def Zc (e:ByteArray) (a:Arr):Bool:=a.2.1.toList==e.toList
def V6 (e:ByteArray) (l:List Arr):Option Arr:=l.find? (Zc e)
def Yg (f:Arr→Bool):List Arr→Nat→Int
 |[],_=> -1
 |a::r,k=>if f a=true then k else Yg f r (k+1)
theorem Ji1 (f:Arr→Bool):∀(l:List Arr) (k:Nat),(Yg f l k= -1∧l.find? f=none)∨∃i,i<l.length∧Yg f l k=((k+i:Nat):Int)∧l.find? f=some (l.getD i dA)
 |[],k=> .inl ⟨rfl,rfl⟩
 | a :: r, k => by
  simp only[Yg]
  cases h:f a with
  |true=>exact .inr ⟨0,by simp,by simp,by simp[h]⟩
  | false =>
   rcases Ji1 f r (k+1) with⟨h1,h2⟩|⟨i,h1,h2,h3⟩
   ·exact .inl ⟨by simpa using h1,by simp[h,h2]⟩
   ·refine .inr ⟨i+1,by simp only[List.length_cons];omega, ?_,by simp[h,h3]⟩
    simp only[Bool.false_eq_true,if_false]
    rw[h2];congr 1;omega
theorem Jq9 {f:Arr→Bool} {l:List Arr} {k:Nat} (h:k<l.length):Yg f (l.drop k) k=if f (l.getD k dA)=true then(k:Int) else Yg f (l.drop (k+1)) (k+1):=by
 rw[V4 (d:=dA) h];rfl
def Jtl:Con:={args:=[aA, .ref 9 .str],ress:=[Bo],owns:=[],pre:=fun _=>[],spec:=fun(a,e,_)=>(Zc e a,())}
theorem Khe [Sx.Dr] (a:Arr) (e:ByteArray):wpF Tryz.prog W47.g (na ()) Tryz.f65 Jtl (a,e,()):=by
 refine(by kernel_rfl:(Lb a.2.1 e=Zc e a)=_).mp ?_
 delta Lb
 rfl
theorem Ki0 [Sx.Dr]:Ok Tryz.prog 65 Jtl:=Je mixed W47.ok (by kernel_rfl) (by kernel_rfl) na fun xx=>Khe xx.1 xx.2.1
abbrev W48 [Sx.Dr]:=W47.add Ki0
def Kku:Con:={args:=[.val false (.list 48 K9), .fn [(true,K9)] Bo],ress:=[I],owns:=[],pre:=fun(l,(q,_),_)=>[l.length≤1000000,∀x∈l,Kf (q (x,()))],spec:=fun(l,(_,f),_)=>(Yg (fun x=>f (x,())) l 0,())}
abbrev Jzz (l:List Arr) (q:Arr×Unit→List Prop) (f:Arr×Unit→Bool):Ann:={X:=Nat,σ:=fun k=>⟨2,[(0, .one (.sl 0)),(1, .one (.fv 1)),(7, .one (.int .i64 l.length)),(8, .one (.int .i64 k))],[(0, .imm 48 K9 l),(1, .afn [(true,K9)] Bo q f)]⟩,inv:=fun k=>k≤l.length∧Yg (fun x=>f (x,())) l 0=Yg (fun x=>f (x,())) (l.drop k) k,mu:=fun k=>l.length-k}
def J3q (a:Nat) (b:List Arr) (c:Arr×Unit→Bool):=a≤List.length b∧Yg (fun(x:Arr)=>c (x,PUnit.unit)) b 0=Yg (fun(x:Arr)=>c (x,PUnit.unit)) (List.drop a b) a
def J27 (a:List Arr) (b:Int×Bt×Int):=b∈a
def Kav (a:List Arr) (b:Nat):=(J2r a b,PUnit.unit)
theorem Ki1 [Sx.Dr]:Ok Tryz.prog 64 Kku:=okW W48 Tryz.f64 (fun xx=>Vi (Jzz xx.1 xx.2.1.1 xx.2.1.2)) fun xx=>by
 obtain⟨(l:List Arr),⟨(q:Arr×Unit→List Prop),(f:Arr×Unit→Bool)⟩,_⟩:=xx
 refine(by kernel_rfl:(Jcw l→(∀(x:Int×ByteArray×Int),J27 l x→Kf (q (x,PUnit.unit)))→∃(x:Nat),Si (Ln l) (0=Nc x∧Sf l ((fun(x:(Int×ByteArray×Int)×PUnit)=>q x)=q∧(fun(x:(Int×ByteArray×Int)×PUnit)=>f x)=f))∧J3q x l f∧∀(x:Nat),J3q x l f→Br (decide (Nc x<Ln l)) (T2 (Z2 x l) (Kf (q (Kav l x)))∧Br (f (Kav l x)) (Nc x=Yg (fun(x:Arr)=>f (x,PUnit.unit)) l 0) (Z1 x∧∃(y:Nat),Si (Ln l) (Z25 x y∧Sf l ((fun(x:(Int×ByteArray×Int)×PUnit)=>q x)=q∧(fun(x:(Int×ByteArray×Int)×PUnit)=>f x)=f))∧J3q y l f∧List.length l-y<List.length l-x)) (Z17=Yg (fun(x:Arr)=>f (x,PUnit.unit)) l 0))=_).mp ?_
 delta Z0 Z1 Z2 Z17 Z25 Jcw Jxs Jws J3q J27 J2r Kav Br Iw Bd T2 Sf Si Ln Nc B0 E2
 intro h1 hq
 refine⟨(0:Nat),⟨rfl,rfl,rfl,rfl,rfl⟩,⟨Nat.zero_le _,rfl⟩,fun(k:Nat) hk=>⟨fun e=> ?_,fun e=> ?_⟩⟩
 ·have hlt:k<l.length:=by simpa using e
  have hd:=Jq9 (f:=fun x=>f (x,())) hlt
  refine⟨⟨by omega,by omega,hq (l.getD k dA) (Jj hlt)⟩,fun h=> ?_,fun h=> ?_⟩
  ·have h:f (l.getD k dA,())=true:=h
   rw[hk.2,hd,if_pos h]
  ·have h:f (l.getD k dA,())=false:=h
   refine⟨by omega,(k+1:Nat),⟨rfl,by simp,rfl,rfl,rfl⟩,⟨by omega, ?_⟩,by omega⟩
   rw[hk.2,hd,if_neg (by rw[h];decide)]
 ·have hge:¬k<l.length:=by simpa using e
  rw[hk.2,List.drop_of_length_le (by omega)]
  rfl
abbrev W49 [Sx.Dr]:=W48.add Ki1
def cAt:Con:={args:=[.val false (.list 48 K9),aS],ress:=[(true,K9),Bo],owns:=[],pre:=fun(l,_)=>[l.length≤1000000],spec:=fun(l,e,_)=>((V6 e l).getD dA,(V6 e l).isSome,())}
def Z10 (a:Bt) (b:List Arr):=Option.getD (V6 a b) dA
def Ken (a:List Arr) (b:Bt):=Gt a (Yg (fun(x:Arr)=>Zc b x) a 0) Z0
theorem Kjs [Sx.Dr]:Ok Tryz.prog 35 cAt:=okW W49 Tryz.f35 na fun xx=>by
 obtain⟨(l:List Arr),(e:ByteArray),_⟩:=xx
 refine(by kernel_rfl:(Jcw l→(Jcw l∧∀(x:Int×ByteArray×Int),J27 l x→True)∧Br (decide (Yg (fun(x:Arr)=>Zc e x) l 0<0)) (Z0=Z10 e l∧false=Option.isSome (V6 e l)) (Tw (Bd (Yg (fun(x:Arr)=>Zc e x) l 0) (Ln l))∧((Ken l e).1,E2 (Ken l e).2)=Z10 e l∧true=Option.isSome (V6 e l)))=_).mp ?_
 delta Z0 Z10 Jcw Ken J27 Br Bd Tw Ln Gt B0 E2
 intro h1
 have hi:=Ji1 (Zc e) l 0
 have hf:V6 e l=l.find? (Zc e):=rfl
 rw[hf]
 refine⟨⟨h1,fun _ _=>trivial⟩,fun h=> ?_,fun h=> ?_⟩
 ·have h:Yg (Zc e) l 0<0:=of_decide_eq_true h
  rcases hi with⟨_,h2⟩|⟨i,_,h2,_⟩
  ·rw[h2];exact⟨rfl,rfl⟩
  ·rw[h2] at h;omega
 ·have h:¬Yg (Zc e) l 0<0:=of_decide_eq_false h
  rcases hi with⟨h2,_⟩|⟨i,h3,h2,h4⟩
  ·rw[h2] at h;omega
  ·rw[Nat.zero_add] at h2
   have b:0≤Yg (Zc e) l 0∧Yg (Zc e) l 0<l.length:=by rw[h2];omega
   refine⟨⟨b,b⟩, ?_,by rw[h4];rfl⟩
   show l.getD (Yg (Zc e) l 0).toNat dA=_
   rw[h4,h2];rfl
abbrev W50 [Sx.Dr]:=W49.add Kjs
def Jco (l:List Arr) (e:ByteArray):Int:=Ja [Lf l,D4 e]
def Uv (l:List Arr) (e:ByteArray):Arr:=if Jco l e=0 then(V6 e l).getD dA else dA
def K6 (l:List Arr) (e:ByteArray):Int:=if Jco l e=0 then(if(V6 e l).isSome=true then 0 else 7) else Jco l e
def Jvx:Con:={args:=[.val false (.list 48 K9),aS],ress:=[(true,K9),I],owns:=[],pre:=fun(l,_)=>[l.length≤1000000],spec:=fun(l,e,_)=>(Uv l e,K6 l e,())}
theorem Kkf [Sx.Dr]:Ok Tryz.prog 11 Jvx:=okW W50 Tryz.f11 na fun xx=>by
 obtain⟨(l:List Arr),(e:ByteArray),_⟩:=xx
 refine(by kernel_rfl:(Jcw l→(Jcw l∧2≤1000000)∧Br (Ja [Lf l,D4 e] !=0) (Z0=Uv l e∧Ja [Lf l,D4 e]=K6 l e) (Jcw l∧((Z10 e l).1,E2 (Z10 e l).2)=Uv l e∧(bif !Option.isSome (V6 e l) then 7 else 0)=K6 l e))=_).mp ?_
 delta Z0 Z10 Jcw Br B0 E2
 intro h1
 unfold Uv K6 Jco
 refine⟨⟨h1,by omega⟩,fun h=> ?_,fun h=> ?_⟩
 ·have h:=bne_iff_ne.1 h
  rw[if_neg h,if_neg h];exact⟨rfl,rfl⟩
 ·have h:=bne_eq_false_iff_eq.1 h
  rw[if_pos h,if_pos h]
  refine⟨h1,rfl, ?_⟩
  cases(V6 e l).isSome<;>rfl
abbrev W51 [Sx.Dr]:=W50.add Kkf
def isA (e:ByteArray):Bool:=e.toList==sA.toList
def isB (e:ByteArray):Bool:=e.toList==sB.toList
theorem Jdn (e:ByteArray) (h:isB e=true):isA e=false:=by
 have h:e.toList=sB.toList:=eq_of_beq h
 unfold isA;rw[h,Lib.toList_data,Lib.toList_data];rfl
def Vv (e:ByteArray) (s:Int) (i:Nat) (r:Int) (p:Int×Int):Int×Int:=
 bif (bif isB e then decide (s≤(i:Int)) else false) then(p.1*(8+r),p.2*8) else bif (bif isA e then decide ((i:Int)<s) else false) then(p.1*(8-r),p.2*8) else p
def Vh (e:ByteArray) (s:Int):Nat→List Int→Int×Int→Int×Int
 |_,[],p=>p
 |i,r::l,p=>Vh e s (i+1) l (Vv e s i r p)
def Jw (c:Cab) (s:Int) (e:ByteArray):Int×Int:=Vh e s 0 c.2.1 (1,1)
theorem Jre {e:ByteArray} {s:Int} {l:List Int} {k:Nat} {p:Int×Int} (h:k<l.length):Vh e s k (l.drop k) p=Vh e s (k+1) (l.drop (k+1)) (Vv e s k (l.getD k 0) p):=by
 rw[V4 (d:=(0:Int)) h];rfl
def Fb (k:Nat) (p:Int×Int):Prop:=(0≤p.1∧p.1≤16^k)∧∃j,j≤k∧p.2=8^j
theorem Dg {k i:Nat} {e:ByteArray} {s r:Int} {p:Int×Int} (h:Fb k p) (hr: -8≤r∧r≤8):Fb (k+1) (Vv e s i r p):=by
 obtain⟨⟨h1,h2⟩,j,hj,h3⟩:=h
 have hp:(16:Int)^(k+1)=16^k*16:=Int.pow_succ ..
 have h0:(0:Int)≤16^k:=Int.le_trans h1 h2
 have key:∀q:Int,0≤q∧q≤16→Fb (k+1) (p.1*q,p.2*8):=fun q hq=>by
  refine⟨⟨Int.mul_nonneg h1 hq.1, ?_⟩,j+1,by omega, ?_⟩
  ·rw[hp];exact Int.mul_le_mul h2 hq.2 hq.1 h0
  ·show p.2*8=_
   rw[h3,Int.pow_succ]
 unfold Vv
 cases(bif isB e then decide (s≤(i:Int)) else false) with
 |true=>exact key (8+r) (by omega)
 | false =>
  cases(bif isA e then decide ((i:Int)<s) else false) with
  |true=>exact key (8-r) (by omega)
  |false=>
   refine⟨⟨h1, ?_⟩,j,by omega,h3⟩
   show p.1≤_
   rw[hp];omega
theorem J5v {k:Nat} (h:k≤5):(16:Int)^k≤1048576:=by
 have:∀j,j<6→(16:Int)^j≤1048576:=by decide
 exact this k (by omega)
theorem Kh9 {k:Nat} (h:k≤5):1≤(8:Int)^k∧(8:Int)^k≤32768:=by
 have:∀j,j<6→1≤(8:Int)^j∧(8:Int)^j≤32768:=by decide
 exact this k (by omega)
theorem Jjf {k:Nat} {p:Int×Int} (h:Fb k p) (hk:k≤5):(0≤p.1∧p.1≤1048576)∧1≤p.2∧p.2≤32768:=by
 obtain⟨⟨h1,h2⟩,j,hj,h3⟩:=h
 have:=J5v hk
 have:=Kh9 (k:=j) (by omega)
 rw[h3];omega
def Jzm:Con:={args:=[aC,aI,aS],ress:=[I,I],owns:=[],pre:=fun(c,s,_)=>[Uc c=0,-1000≤s∧s≤1000],spec:=fun(c,s,e,_)=>((Jw c s e).1,(Jw c s e).2,())}
abbrev Jo2 (c:Cab) (s:Int) (e:ByteArray):Ann:={X:=Nat×Int×Int,σ:=fun p=>⟨3,[(1, .one (.int .i64 s)),(2, .one (.str e)),(8, .one (.int .i64 p.2.1)),(9, .one (.int .i64 p.2.2)),(13, .one (.sl 1)),(14, .one (.int .i64 c.2.1.length)),(15, .one (.int .i64 p.1))],[(1, .imm 3 sI c.2.1)]⟩,inv:=fun p=>p.1≤c.2.1.length∧Fb p.1 p.2∧Jw c s e=Vh e s p.1 (c.2.1.drop p.1) p.2,mu:=fun p=>c.2.1.length-p.1}
def Z23 (a:Cab) (b:Nat×Int×Int):=List.getD a.2.1 b.1 0
def Kdq (a b:Nat×Int×Int) (c:Cab):=a.2.2*8=b.2.2∧Si (Ln c.2.1) (Nc a.1+1=Nc b.1∧c.2.1=c.2.1)
def J3s (a:Nat×Int×Int) (b:Cab) (c:Int) (d:Bt):=a.1≤List.length b.2.1∧Fb a.1 a.2∧Jw b c d=Vh d c a.1 (List.drop a.1 b.2.1) a.2
def J2o (a:Nat×Int×Int) (b:Cab) (c:Int) (d:Bt) (e:Nat×Int×Int):=J3s a b c d∧List.length b.2.1-a.1<List.length b.2.1-e.1
theorem Khj [Sx.Dr] (c:Cab) (s:Int) (e:ByteArray):wpF Tryz.prog W51.g (Vi (Jo2 c s e)) Tryz.f50 Jzm (c,s,e,()):=by
 refine(by kernel_rfl:(Uc c=0→Z14≤s∧s≤1000→∃(x:Nat×Int×Int),Si s (Sf e (1=x.2.1∧1=x.2.2∧Si (Ln c.2.1) (0=Nc x.1∧c.2.1=c.2.1)))∧J3s x c s e∧∀(x:Nat×Int×Int),J3s x c s e→Br (decide (Nc x.1<Ln c.2.1)) (Tw (Bd (Nc x.1) (Ln c.2.1))∧Br (bif Z79 e then decide (s≤Nc x.1) else false) ((Iw (8+Z23 c x)∧Iw (x.2.1*(8+Z23 c x))∧Iw (x.2.2*8))∧Iw (Nc x.1+1)∧∃(y:Nat×Int×Int),Si s (Sf e (x.2.1*(8+Z23 c x)=y.2.1∧Kdq x y c))∧J2o y c s e x) (Br (bif Z80 e then decide (Nc x.1<s) else false) ((Iw (8-Z23 c x)∧Iw (x.2.1*(8-Z23 c x))∧Iw (x.2.2*8))∧Iw (Nc x.1+1)∧∃(y:Nat×Int×Int),Si s (Sf e (x.2.1*(8-Z23 c x)=y.2.1∧Kdq x y c))∧J2o y c s e x) (Iw (Nc x.1+1)∧∃(y:Nat×Int×Int),Si s (Sf e (x.2.1=y.2.1∧x.2.2=y.2.2∧Si (Ln c.2.1) (Nc x.1+1=Nc y.1∧c.2.1=c.2.1)))∧J2o y c s e x))) (x.2.1=(Jw c s e).1∧x.2.2=(Jw c s e).2))=_).mp ?_
 delta Z14 Z23 Z52 Z53 Z79 Z80 Kdq J3s J2o Br Iw Bd Tw Sf Si Ln Nc Lb
 intro h hs
 have hv:Yb c:=Xx h
 obtain⟨v1,v2,v3,v4,v5,_⟩:=id hv
 refine⟨((0:Nat),(1:Int),(1:Int)),⟨rfl,rfl,rfl,rfl,rfl,rfl,rfl⟩,⟨Nat.zero_le _,⟨⟨by decide,by decide⟩,0,Nat.le_refl _,rfl⟩,rfl⟩,fun p hp=> ?_⟩
 obtain⟨k,n,d⟩:=p
 obtain⟨i1,i2,i3⟩:=hp
 replace i1:k≤c.2.1.length:=i1
 replace i2:Fb k (n,d):=i2
 replace i3:Jw c s e=Vh e s k (c.2.1.drop k) (n,d):=i3
 refine⟨fun e1=> ?_,fun e1=> ?_⟩
 ·have hlt:k<c.2.1.length:=by
   have e1:(k:Int)<c.2.1.length:=of_decide_eq_true e1
   omega
  have hr:=v5 _ (Jj (d:=(0:Int)) hlt)
  have hd:=Jre (e:=e) (s:=s) (p:=(n,d)) hlt
  have ho:=Dg (i:=k) (e:=e) (s:=s) i2 hr
  have hb:=Jjf ho (by omega)
  rw[hd] at i3
  have kk:0≤(k:Int)∧(k:Int)<c.2.1.length:=by omega
  have kb: -9223372036854775808≤(k:Int)+1∧(k:Int)+1≤9223372036854775807:=by omega
  dsimp only
  refine⟨⟨kk,kk⟩,fun c1=> ?_,fun c1=>⟨fun c2=> ?_,fun c2=> ?_⟩⟩
  ·have c1:(bif isB e then decide (s≤(k:Int)) else false)=true:=c1
   have es:Vv e s k (c.2.1.getD k 0) (n,d)=(n*(8+c.2.1.getD k 0),d*8):=by unfold Vv;rw[c1];rfl
   rw[es] at ho hb i3
   dsimp only at hb
   exact⟨⟨by omega,⟨by omega,by omega⟩,by omega,by omega⟩,kb,(k+1,n*(8+c.2.1.getD k 0),d*8),⟨rfl,rfl,rfl,rfl,rfl,by simp,rfl⟩,⟨hlt,ho,i3⟩,by show c.2.1.length-(k+1)<c.2.1.length-k;omega⟩
  ·have c1:(bif isB e then decide (s≤(k:Int)) else false)=false:=c1
   have c2:(bif isA e then decide ((k:Int)<s) else false)=true:=c2
   have es:Vv e s k (c.2.1.getD k 0) (n,d)=(n*(8-c.2.1.getD k 0),d*8):=by unfold Vv;rw[c1,c2];rfl
   rw[es] at ho hb i3
   dsimp only at hb
   exact⟨⟨by omega,⟨by omega,by omega⟩,by omega,by omega⟩,kb,(k+1,n*(8-c.2.1.getD k 0),d*8),⟨rfl,rfl,rfl,rfl,rfl,by simp,rfl⟩,⟨hlt,ho,i3⟩,by show c.2.1.length-(k+1)<c.2.1.length-k;omega⟩
  ·have c1:(bif isB e then decide (s≤(k:Int)) else false)=false:=c1
   have c2:(bif isA e then decide ((k:Int)<s) else false)=false:=c2
   have es:Vv e s k (c.2.1.getD k 0) (n,d)=(n,d):=by unfold Vv;rw[c1,c2];rfl
   rw[es] at ho i3
   exact⟨kb,(k+1,n,d),⟨rfl,rfl,rfl,rfl,rfl,by simp,rfl⟩,⟨hlt,ho,i3⟩,by show c.2.1.length-(k+1)<c.2.1.length-k;omega⟩
 ·have hge:¬k<c.2.1.length:=by
   have e1:¬(k:Int)<c.2.1.length:=of_decide_eq_false e1
   omega
  rw[i3,List.drop_of_length_le (by omega)]
  exact⟨rfl,rfl⟩
theorem Kjd [Sx.Dr]:Ok Tryz.prog 50 Jzm:=Je mixed W51.ok (by kernel_rfl) (by kernel_rfl) (fun xx=>Vi (Jo2 xx.1 xx.2.1 xx.2.2.1)) fun xx=>Khj xx.1 xx.2.1 xx.2.2.1
abbrev W52 [Sx.Dr]:=W51.add Kjd
theorem Jjg {e:ByteArray} {s:Int}:∀{l:List Int} {i k:Nat} {p:Int×Int},Fb k p→(∀r∈l,-8≤r∧r≤8)→Fb (k+l.length) (Vh e s i l p)
 |[],_,_,_,h,_=>h
 |r::l,i,k,p,h,hl=>by
  have:=Jjg (e:=e) (s:=s) (l:=l) (i:=i+1) (Dg (i:=i) (e:=e) (s:=s) h (hl r (by simp))) fun x hx=>hl x (by simp[hx])
  rw[show k+1+l.length=k+(r::l).length by simp only[List.length_cons];omega] at this
  exact this
theorem Jd5 {c:Cab} {s:Int} {e:ByteArray} (hv:Yb c):Fb c.2.1.length (Jw c s e):=by
 have:=Jjg (e:=e) (s:=s) (l:=c.2.1) (i:=0) (k:=0) (p:=(1,1)) ⟨⟨by decide,by decide⟩,0,Nat.le_refl _,rfl⟩ hv.2.2.2.2.1
 rwa[Nat.zero_add] at this
theorem Jd6 {c:Cab} {s:Int} {e:ByteArray} (hv:Yb c):(0≤(Jw c s e).1∧(Jw c s e).1≤1048576)∧1≤(Jw c s e).2∧(Jw c s e).2≤32768:=
 Jjf (Jd5 hv) (by have:=hv.2.1;have:=hv.2.2.2.1;omega)
def Xk (q:Nat→Bool):Nat→List (Int×Int)→Int→Int
 |_,[],a=>a
 |i,x::r,a=>Xk q (i+1) r (bif q i then a+x.2 else a)
theorem Je5 (q:Nat→Bool) (x:Int×Int):∀(l:List (Int×Int)) (i:Nat) (a:Int),Xk q i (l++[x]) a=bif q (i+l.length) then Xk q i l a+x.2 else Xk q i l a
 |[],i,a=>by simp[Xk]
 |y::r,i,a=>by
  simp only[List.cons_append,Xk,List.length_cons]
  rw[Je5 q x r,show i+1+r.length=i+(r.length+1) by omega]
theorem Hq (q:Nat→Bool):∀(l:List (Int×Int)) (i:Nat) (a b:Int),Xk q i l (a+b)=Xk q i l a+b
 |[],_,_,_=>rfl
 | x :: r, i, a, b => by
  simp only[Xk]
  cases q i
  ·simp only[cond_false];exact Hq q r (i+1) a b
  ·simp only[cond_true]
   rw[show a+b+x.2=(a+x.2)+b by omega];exact Hq q r (i+1) _ b
theorem Lt {q q':Nat→Bool} (h:∀i,q i=q' i) (l:List (Int×Int)) (i:Nat) (a:Int):Xk q i l a=Xk q' i l a:=by
 rw[show q=q' from funext h]
theorem Jmg {q:Nat→Bool}:∀{l:List (Int×Int)} {i:Nat} {a:Int},(∀x∈l,1≤x.1∧x.1≤100000∧1≤x.2∧x.2≤64)→a≤Xk q i l a∧Xk q i l a≤a+64*l.length
 |[],_,_,_=>by simp[Xk]
 |x::r,i,a,h=>by
  have hx:=h x (by simp)
  have ih:=Jmg (q:=q) (l:=r) (i:=i+1) (a:=bif q i then a+x.2 else a) fun y hy=>h y (by simp[hy])
  simp only[Xk,List.length_cons]
  cases hq:q i
  ·rw[hq] at ih;simp only[cond_false] at ih⊢;omega
  ·rw[hq] at ih;simp only[cond_true] at ih⊢;omega
theorem Jb6 {s:Int}:∀(l:List (Int×Int)) (i:Nat) (a:Int),(i:Int)≤s→s<i+l.length→Xk (fun k=>decide (s≤(k:Int))) i l a=Xk (fun k=>decide (s<(k:Int))) i l a+(l.getD (s-i).toNat (0,0)).2
 |[],i,a,h1,h2=>by simp at h2;omega
 | x :: r, i, a, h1, h2 => by
  simp only[Xk]
  simp only[List.length_cons] at h2
  rw[decide_eq_false (by omega:¬s<(i:Int))]
  simp only[cond_false]
  by_cases e:(i:Int)=s
  ·rw[decide_eq_true (by omega:s≤(i:Int)),show(s-(i:Int)).toNat=0 by omega]
   simp only[cond_true,List.getD_cons_zero]
   rw[Hq]
   have:∀(l:List (Int×Int)) (j:Nat) (a:Int),s<(j:Int)→Xk (fun k=>decide (s≤(k:Int))) j l a=Xk (fun k=>decide (s<(k:Int))) j l a:=by
    intro l
    induction l with
    |nil=>intro j a _;rfl
    |cons y t ih=>
     intro j a hj
     simp only[Xk]
     rw[decide_eq_true (by omega:s≤(j:Int)),decide_eq_true hj]
     exact ih (j+1) _ (by omega)
   rw[this r (i+1) a (by omega)]
  ·rw[decide_eq_false (by omega:¬s≤(i:Int))]
   simp only[cond_false]
   rw[Jb6 r (i+1) a (by omega) (by omega),show(s-(i:Int)).toNat=(s-((i+1:Nat):Int)).toNat+1 by omega,List.getD_cons_succ]
def qP (e:ByteArray) (s:Int) (i:Nat):Bool:=bif (bif isB e then decide (s≤(i:Int)) else false) then true else(bif isA e then decide ((i:Int)<s) else false)
def qR (e:ByteArray) (s:Int) (i:Nat):Bool:=bif (bif isA e then decide ((i:Int)<s) else false) then true else(bif isB e then decide (s<(i:Int)) else false)
def Jp1 (c:Cab) (f:Flt) (e:ByteArray):Int:=bif isA e then Xk (qP e f.1) 0 c.1 (f.2.2.1-f.2.1)+2*f.2.1 else Xk (qP e f.1) 0 c.1 (f.2.2.1-f.2.1)
def Jp0 (c:Cab) (f:Flt) (e:ByteArray):Int:=Xk (qR e f.1) 0 c.1 (bif isB e then f.2.2.1+(c.1.getD f.1.toNat (0,0)).2-f.2.1 else f.2.2.1+f.2.1)
theorem Jyu {e:ByteArray} (h:D4 e=0):(isA e=true∧isB e=false)∨(isA e=false∧isB e=true):=by
 unfold D4 at h
 cases ha:isA e with
 |true=>
  cases hb:isB e with
  |true=>have:=Jdn e hb;rw[ha] at this;cases this
  |false=>exact .inl ⟨rfl,rfl⟩
 | false =>
  cases hb:isB e with
  |true=>exact .inr ⟨rfl,rfl⟩
  |false=>
   have ha:(e.toList==sA.toList)=false:=ha
   have hb:(e.toList==sB.toList)=false:=hb
   rw[ha,hb] at h
   cases h
theorem Juf {c:Cab} {f:Flt} {e:ByteArray} (hs:0≤f.1∧f.1<c.1.length) (he:D4 e=0):Jp1 c f e=Jp0 c f e:=by
 unfold Jp1 Jp0
 rcases Jyu he with⟨ha,hb⟩|⟨ha,hb⟩
 ·rw[ha,hb]
  simp only[cond_true,cond_false]
  rw[←Hq,show f.2.2.1-f.2.1+2*f.2.1=f.2.2.1+f.2.1 by omega]
  refine Lt (fun i=> ?_) _ _ _
  unfold qP qR;rw[ha,hb]
  cases decide ((i:Int)<f.1)<;>rfl
 ·rw[ha,hb]
  simp only[cond_true,cond_false]
  have e1:Xk (qP e f.1) 0 c.1 (f.2.2.1-f.2.1)=Xk (fun k=>decide (f.1≤(k:Int))) 0 c.1 (f.2.2.1-f.2.1):=Lt (fun i=>by unfold qP;rw[ha,hb];cases decide (f.1≤(i:Int))<;>rfl) _ _ _
  have e2:∀a,Xk (qR e f.1) 0 c.1 a=Xk (fun k=>decide (f.1<(k:Int))) 0 c.1 a:=fun a=>Lt (fun i=>by unfold qR;rw[ha,hb];rfl) _ _ _
  rw[e1,e2,Jb6 c.1 0 _ (by omega) (by omega),show f.2.2.1+(c.1.getD f.1.toNat (0,0)).2-f.2.1=(f.2.2.1-f.2.1)+(c.1.getD f.1.toNat (0,0)).2 by omega,Hq,show(f.1-((0:Nat):Int)).toNat=f.1.toNat by omega]
theorem Jfv {H n d:Int} {j:Nat} (hj:j≤5) (hd:d=8^j):H*(262144:Int).tdiv d*n=(H*262144*n).tdiv d:=by
 have key:∀q:Int,0<d→262144=d*q→H*(262144:Int).tdiv d*n=(H*262144*n).tdiv d:=fun q hd hq=>by
  rw[hq,Int.mul_tdiv_cancel_left _ (by omega),show H*(d*q)*n=d*(H*q*n) by rw[Int.mul_left_comm H d q,Int.mul_assoc d],Int.mul_tdiv_cancel_left _ (by omega)]
 have:j=0∨j=1∨j=2∨j=3∨j=4∨j=5:=by omega
 rcases this with rfl|rfl|rfl|rfl|rfl|rfl
 ·exact key 262144 (by rw[hd];decide) (by rw[hd];decide)
 ·exact key 32768 (by rw[hd];decide) (by rw[hd];decide)
 ·exact key 4096 (by rw[hd];decide) (by rw[hd];decide)
 ·exact key 512 (by rw[hd];decide) (by rw[hd];decide)
 ·exact key 64 (by rw[hd];decide) (by rw[hd];decide)
 ·exact key 8 (by rw[hd];decide) (by rw[hd];decide)
def Jhq (c:Cab) (f:Flt) (e:ByteArray):Int:=(f.2.2.2*262144*(Jw c f.1 e).1).tdiv (Jw c f.1 e).2
def Js9 (c:Cab) (f:Flt) (e:ByteArray):Int:=Ja [Lj c f,D4 e]
def J1o (c:Cab) (f:Flt) (e:ByteArray):Int×Int:=if(Jw c f.1 e).1=0 then(0,0) else(Jp0 c f e,Jhq c f e)
def Jrk (c:Cab) (f:Flt) (e:ByteArray):Int:=if(Jw c f.1 e).1=0 then 7 else 0
def Jvl (c:Cab) (f:Flt) (e:ByteArray):Int×Int:=if Js9 c f e=0 then J1o c f e else(0,0)
def Jhv (c:Cab) (f:Flt) (e:ByteArray):Int:=if Js9 c f e=0 then Jrk c f e else Js9 c f e
theorem Jn8 {c:Cab} {f:Flt} {e:ByteArray} (h:Js9 c f e=0):Lj c f=0∧D4 e=0:=by
 have hz:=Ji (show Ja [Lj c f,D4 e]=0 from h)
 simp only[List.mem_cons,List.not_mem_nil,or_false,forall_eq_or_imp,forall_eq] at hz
 exact hz
theorem Jqh {q:Nat→Bool} {l:List (Int×Int)} {k:Nat} {a:Int} (h:k<l.length):Xk q 0 (l.take (k+1)) a=bif q k then Xk q 0 (l.take k) a+(l.getD k (0,0)).2 else Xk q 0 (l.take k) a:=by
 rw[←Jy (d:=(0,0)) h,Je5,Nat.zero_add,List.length_take,Nat.min_eq_left (by omega)]
theorem Jsk {c:Cab} {q:Nat→Bool} {k:Nat} {a:Int} (hv:Yb c) (ha: -100000≤a∧a≤200000): -100000≤Xk q 0 (c.1.take k) a∧Xk q 0 (c.1.take k) a≤200384:=by
 have h:=Jmg (q:=q) (l:=c.1.take k) (i:=0) (a:=a) fun x hx=>hv.2.2.1 x (List.mem_of_mem_take hx)
 have h2:(c.1.take k).length≤c.1.length:=by simp;omega
 have h3:=hv.2.1
 omega
theorem Jyq {c:Cab} {s H:Int} {e:ByteArray} (hv:Yb c) (hH: -1024≤H∧H≤1024):((Jw c s e).2=0→False)∧(-9223372036854775808≤(262144:Int).tdiv (Jw c s e).2∧(262144:Int).tdiv (Jw c s e).2≤9223372036854775807)∧(-9223372036854775808≤H*(262144:Int).tdiv (Jw c s e).2∧H*(262144:Int).tdiv (Jw c s e).2≤9223372036854775807)∧-9223372036854775808≤H*(262144:Int).tdiv (Jw c s e).2*(Jw c s e).1∧H*(262144:Int).tdiv (Jw c s e).2*(Jw c s e).1≤9223372036854775807:=by
 have hb:=Jd6 (s:=s) (e:=e) hv
 have t:=Lp (a:=262144) (g:=(Jw c s e).2) (B:=262144) ⟨by decide,by decide⟩
 have m1:=H1 (A:=1024) (B:=262144) hH t
 have m2:=H1 (A:=1024*262144) (B:=1048576) m1 (b:=(Jw c s e).1) ⟨by omega,hb.1.2⟩
 exact⟨by omega,by omega,by omega,by omega⟩
def Jop:Con:={args:=[aC,aF,aS],ress:=[Pr,I],owns:=[],pre:=fun(c,_)=>[c.1.length≤1000000,c.2.1.length≤1000000],spec:=fun(c,f,e,_)=>(Jvl c f e,Jhv c f e,())}
abbrev Jtx (c:Cab) (f:Flt) (e:ByteArray):Ann:={X:=Nat,σ:=fun k=>⟨5,[(2, .one (.str e)),(4, .one (.ptr 3 0)),(6, .one (.ptr 4 0)),(9, .one (.int .i64 (Jw c f.1 e).1)),(10, .one (.int .i64 (Jw c f.1 e).2)),(11, .one (.int .i64 (Xk (qP e f.1) 0 (c.1.take k) (f.2.2.1-f.2.1)))),(42, .one (.sl 0)),(43, .one (.int .i64 c.1.length)),(44, .one (.int .i64 k))],[(0, .imm 91 sPt c.1),(3, .box 41 [.int .i64 f.1, .int .i64 f.2.1, .int .i64 f.2.2.1, .int .i64 f.2.2.2]),(4, .box 24 [.int .i64 0, .int .i64 0])]⟩,inv:=fun k=>k≤c.1.length∧Js9 c f e=0∧(Jw c f.1 e).1≠0,mu:=fun k=>c.1.length-k}
def J4m (a:Flt) (b:Cab) (c:Bt):=a.2.2.2*Int.tdiv 262144 (Jw b a.1 c).2*(Jw b a.1 c).1
def Jr5 (a:Bt) (b:Flt) (c:Nat) (d:Cab):=Xk (qP a b.1) 0 (Z16 c d) (b.2.2.1-b.2.1)
def Kd9 (a:Cab) (b:Flt):=a.1=a.1∧Si b.1 (Si b.2.1 (Si b.2.2.1 (Si b.2.2.2 Z6)))
def Kdr (a:Cab) (b:Flt) (c:Bt):=Ja [Jxq a b,D4 c]
def J3t (a:Nat) (b:Cab) (c:Flt) (d:Bt):=Z40 a b∧Js9 b c d=0∧((Jw b c.1 d).1=0→False)
def Kb6 (a:Bt) (b:Flt) (c:Nat) (d:Cab):=Jr5 a b c d+Jr8 d c
def Ka4 (a:Cab) (b c:Nat) (d:Flt):=Si (Z4 a) (Z25 b c∧Kd9 a d)
def Kaj (a:Nat) (b:Cab) (c:Flt) (d:Bt) (e:Nat):=J3t a b c d∧Jr6 b a e
def Kab (a:Cab) (b:Flt) (c:Bt):=((Jw a b.1 c).2=0→False)∧Iw (Int.tdiv 262144 (Jw a b.1 c).2)∧Iw (b.2.2.2*Int.tdiv 262144 (Jw a b.1 c).2)∧Iw (J4m b a c)
def J81 (a:Bt) (b:Flt) (c:Nat) (d:Cab):=Iw (Kb6 a b c d)∧Z1 c∧∃(y:Nat),Sf a (Si (Jw d b.1 a).1 (Si (Jw d b.1 a).2 (Kb6 a b c d=Jr5 a b y d∧Ka4 d c y b)))∧Kaj y d b a c
theorem Khu [Sx.Dr] (c:Cab) (f:Flt) (e:ByteArray):wpF Tryz.prog W52.g (Vi (Jtx c f e)) Tryz.f24 Jop (c,f,e,()):=by
 refine(by kernel_rfl:(Z64 c→Z30 c→Jxj c∧Br (Kdr c f e !=0) ((0,0)=Jvl c f e∧Kdr c f e=Jhv c f e) ((Jbp c∧Z14≤f.1∧f.1≤1000)∧Br ((Jw (Z39 c) f.1 e).1==0) ((0,0)=Jvl c f e∧7=Jhv c f e) (Iw (f.2.2.1-f.2.1)∧∃(x:Nat),Sf e ((Jw (Z39 c) f.1 e).1=(Jw c f.1 e).1∧(Jw (Z39 c) f.1 e).2=(Jw c f.1 e).2∧f.2.2.1-f.2.1=Jr5 e f x c∧Si (Z4 c) (0=Nc x∧Kd9 c f))∧J3t x c f e∧∀(x:Nat),J3t x c f e→Br (Z72 x c) (Tw (Z56 x c)∧Br (bif Z79 e then decide (f.1≤Nc x) else false) (J81 e f x c) (Br (bif Z80 e then decide (Nc x<f.1) else false) (J81 e f x c) (Z1 x∧∃(y:Nat),Sf e (Si (Jw c f.1 e).1 (Si (Jw c f.1 e).2 (Jr5 e f x c=Jr5 e f y c∧Ka4 c x y f)))∧Kaj y c f e x))) (Br (Z80 e) ((Iw (2*f.2.1)∧Iw (Jr5 e f x c+2*f.2.1))∧Kab c f e∧(Jr5 e f x c+2*f.2.1,J4m f c e)=Jvl c f e∧0=Jhv c f e) (Kab c f e∧(Jr5 e f x c,J4m f c e)=Jvl c f e∧0=Jhv c f e)))))=_).mp ?_
 delta Z1 Z4 Z6 Z13 Z14 Z16 Z25 Z26 Z30 Z38 Z39 Z40 Z52 Z53 Z56 Z64 Z66 Z67 Z72 Z79 Z80 Z89 Jr8 Jbp J4m Jr6 Jxq Jr5 Kd9 Jxj Kdr J3t Kb6 Ka4 Kaj Kab J81 Br Iw Bd Tw Sf Si Ln Nc Lb E2
 intro h1 h2
 refine⟨⟨h1,h2,by omega⟩,fun h=> ?_,fun h=> ?_⟩
 ·have h:¬Js9 c f e=0:=bne_iff_ne.1 h
  unfold Jvl Jhv;rw[if_neg h,if_neg h];exact⟨rfl,rfl⟩
 have h:Js9 c f e=0:=bne_eq_false_iff_eq.1 h
 obtain⟨hf,he⟩:=Jn8 h
 obtain⟨hc,hfv⟩:=D3 hf
 have hv:=hfv.1
 obtain⟨_,g1,g2,g3,g4,g5⟩:=id hfv
 have hlen:=hv.2.1
 have b:=hv.2.2.1 _ (Jj (d:=(0,0)) (l:=c.1) (k:=f.1.toNat) (by omega))
 have eF:Jvl c f e=J1o c f e:=if_pos h
 have eE:Jhv c f e=Jrk c f e:=if_pos h
 refine⟨⟨hc,by omega⟩,fun e1=> ?_,fun e1=> ?_⟩
 ·have e1:(Jw c f.1 e).1=0:=eq_of_beq e1
  rw[eF,eE];unfold J1o Jrk;rw[if_pos e1,if_pos e1];exact⟨rfl,rfl⟩
 have e1:¬(Jw c f.1 e).1=0:=by
  have e1:((Jw c f.1 e).1==0)=false:=e1
  simpa using e1
 refine⟨by omega,(0:Nat),⟨rfl,rfl,rfl,rfl,rfl,rfl,rfl,rfl,rfl,rfl,rfl,rfl,rfl⟩,⟨Nat.zero_le _,h,e1⟩,fun(k:Nat) hk=>⟨fun hlt=> ?_,fun hge=> ?_⟩⟩
 ·have hlt:k<c.1.length:=by simpa using hlt
  have st:=Jqh (q:=qP e f.1) (a:=f.2.2.1-f.2.1) hlt
  have sb:=Jsk (q:=qP e f.1) (k:=k) (a:=f.2.2.1-f.2.1) hv (by omega)
  have xb:=hv.2.2.1 _ (Jj (d:=(0,0)) hlt)
  refine⟨⟨by omega,by omega⟩,fun c1=> ?_,fun c1=>⟨fun c2=> ?_,fun c2=> ?_⟩⟩
  ·have c1:(bif isB e then decide (f.1≤(k:Int)) else false)=true:=c1
   have q:qP e f.1 k=true:=by unfold qP;rw[c1];rfl
   rw[q] at st
   exact⟨by omega,by omega,(k+1:Nat),⟨rfl,rfl,rfl,st.symm,rfl,by simp,rfl,rfl,rfl,rfl,rfl,rfl,rfl⟩,⟨hlt,h,e1⟩,by omega⟩
  ·have c1:(bif isB e then decide (f.1≤(k:Int)) else false)=false:=c1
   have c2:(bif isA e then decide ((k:Int)<f.1) else false)=true:=c2
   have q:qP e f.1 k=true:=by unfold qP;rw[c1,c2];rfl
   rw[q] at st
   exact⟨by omega,by omega,(k+1:Nat),⟨rfl,rfl,rfl,st.symm,rfl,by simp,rfl,rfl,rfl,rfl,rfl,rfl,rfl⟩,⟨hlt,h,e1⟩,by omega⟩
  ·have c1:(bif isB e then decide (f.1≤(k:Int)) else false)=false:=c1
   have c2:(bif isA e then decide ((k:Int)<f.1) else false)=false:=c2
   have q:qP e f.1 k=false:=by unfold qP;rw[c1,c2];rfl
   rw[q] at st
   exact⟨by omega,(k+1:Nat),⟨rfl,rfl,rfl,st.symm,rfl,by simp,rfl,rfl,rfl,rfl,rfl,rfl,rfl⟩,⟨hlt,h,e1⟩,by omega⟩
 ·have hge:¬k<c.1.length:=by simpa using hge
  have sb:=Jsk (q:=qP e f.1) (k:=k) (a:=f.2.2.1-f.2.1) hv (by omega)
  have hB:=Jyq (c:=c) (s:=f.1) (e:=e) hv g4
  obtain⟨_,j,hj,hd⟩:=Jd5 (s:=f.1) (e:=e) hv
  have hh:f.2.2.2*(262144:Int).tdiv (Jw c f.1 e).2*(Jw c f.1 e).1=Jhq c f e:=Jfv (by have:=hv.2.2.2.1;omega) hd
  have ht:=Juf (c:=c) (f:=f) (e:=e) g1 he
  have eG:J1o c f e=(Jp0 c f e,Jhq c f e):=if_neg e1
  have eGE:Jrk c f e=0:=if_neg e1
  have et:c.1.take k=c.1:=List.take_of_length_le (by omega)
  refine⟨fun ha=> ?_,fun ha=> ?_⟩
  ·have ha:isA e=true:=ha
   refine⟨⟨by omega,by omega⟩,hB, ?_,by rw[eE,eGE]⟩
   rw[eF,eG,←hh,←ht,et]
   unfold Jp1;rw[ha];rfl
  ·have ha:isA e=false:=ha
   refine⟨hB, ?_,by rw[eE,eGE]⟩
   rw[eF,eG,←hh,←ht,et]
   unfold Jp1;rw[ha];rfl
theorem Kj3 [Sx.Dr]:Ok Tryz.prog 24 Jop:=Je mixed W52.ok (by kernel_rfl) (by kernel_rfl) (fun xx=>Vi (Jtx xx.1 xx.2.1 xx.2.2.1)) fun xx=>Khu xx.1 xx.2.1 xx.2.2.1
abbrev W53 [Sx.Dr]:=W52.add Kj3
abbrev Zon:Type:=(Int×Int)×Int×Int×ByteArray
abbrev sZ:Sch:= .prod sPt (.prod sI (.prod sI .str))
abbrev aZ:AK:= .val true sZ
def Yj (z:Zon) (n:Int):Int:=Ja [if z.1.1<0∨z.1.2≤z.1.1∨n<z.1.2 then 14 else 0,Jb z.2.1 1 1024,Jb z.2.2.1 1 1024,D4 z.2.2.2]
theorem Jli (z:Zon) (n:Int):(bif (bif decide (z.1.1<0) then true else decide (z.1.2≤z.1.1)) then true else decide (n<z.1.2))=decide (z.1.1<0∨z.1.2≤z.1.1∨n<z.1.2):=by
 by_cases h1:z.1.1<0<;>by_cases h2:z.1.2≤z.1.1<;>by_cases h3:n<z.1.2<;>simp[h1,h2,h3]
def Jy1:Con:={args:=[aZ,aI],ress:=[I],owns:=[],pre:=fun _=>[],spec:=fun(z,n,_)=>(Yj z n,())}
theorem Khk [Sx.Dr] (z:Zon) (n:Int):wpF Tryz.prog W53.g (na ()) Tryz.f49 Jy1 (z,n,()):=by
 refine(by kernel_rfl:(4≤1000000∧Ja [bif bif bif decide (z.1.1<0) then true else decide (z.1.2≤z.1.1) then true else decide (n<z.1.2) then 14 else 0,Jb z.2.1 1 1024,Jb z.2.2.1 1 1024,D4 z.2.2.2]=Yj z n)=_).mp ?_
 refine⟨by omega, ?_⟩
 rw[Jli]
 unfold Yj
 by_cases h:z.1.1<0∨z.1.2≤z.1.1∨n<z.1.2
 ·rw[decide_eq_true h,if_pos h];rfl
 ·rw[decide_eq_false h,if_neg h];rfl
theorem Kje [Sx.Dr]:Ok Tryz.prog 49 Jy1:=Je mixed W53.ok (by kernel_rfl) (by kernel_rfl) na fun xx=>Khk xx.1 xx.2.1
abbrev W54 [Sx.Dr]:=W53.add Kje
theorem Lm {z:Zon} {n:Int} (h:Yj z n=0):(0≤z.1.1∧z.1.1<z.1.2∧z.1.2≤n)∧(1≤z.2.1∧z.2.1≤1024)∧(1≤z.2.2.1∧z.2.2.1≤1024)∧D4 z.2.2.2=0:=by
 have hz:=Ji (show Ja [_,_,_,_]=0 from h)
 simp only[List.mem_cons,List.not_mem_nil,or_false,forall_eq_or_imp,forall_eq] at hz
 obtain⟨a1,a2,a3,a4⟩:=hz
 have b2:=Jc.1 a2
 have b3:=Jc.1 a3
 have b1:¬(z.1.1<0∨z.1.2≤z.1.1∨n<z.1.2):=fun q=>by rw[if_pos q] at a1;cases a1
 exact⟨by omega,b2,b3,a4⟩
def Du (c:Cab) (e:ByteArray) (k:Nat):Int:=(262144:Int).tdiv (Jw c k e).2*(Jw c k e).1
def Hj (c:Cab) (z:Zon) (k:Nat) (p:Int×Int):Int×Int:=if z.1.1≤(k:Int)∧(k:Int)<z.1.2 then(p.1,min p.2 (z.2.1*Du c z.2.2.2 k)) else(max p.1 (z.2.2.1*Du c z.2.2.2 k+1),p.2)
def thN (c:Cab) (z:Zon) (hi:Int):Nat→Int×Int
 |0=>(1,hi)
 |k+1=>Hj c z k (thN c z hi k)
theorem Jqm {k i:Nat} {e:ByteArray} {s r:Int} {p:Int×Int} (h:Fb k p) (hp:p.1≤2^k*p.2) (hd:1≤p.2) (hr: -8≤r∧r≤8):(Vv e s i r p).1≤2^(k+1)*(Vv e s i r p).2∧1≤(Vv e s i r p).2:=by
 obtain⟨⟨h1,_⟩,_⟩:=h
 rw[Int.pow_succ]
 have h2:(0:Int)≤2^k:=Int.le_of_lt (Int.pow_pos (by decide))
 generalize(2:Int)^k=y at hp h2⊢
 have key:∀q:Int,0≤q∧q≤16→p.1*q≤y*2*(p.2*8)∧1≤p.2*8:=fun q hq=>by
  have a1:p.1*q≤p.1*16:=Int.mul_le_mul_of_nonneg_left hq.2 h1
  have a2:y*2*(p.2*8)=y*p.2*16:=by rw[Int.mul_assoc,show 2*(p.2*8)=p.2*16 by omega,←Int.mul_assoc]
  rw[a2];omega
 have same:p.1≤y*2*p.2∧1≤p.2:=by
  have a2:y*2*p.2=y*p.2*2:=by rw[Int.mul_assoc,Int.mul_comm 2,←Int.mul_assoc]
  have a3:0≤y*p.2:=Int.mul_nonneg h2 (by omega)
  rw[a2];omega
 unfold Vv
 cases(bif isB e then decide (s≤(i:Int)) else false) with
 |true=>exact key (8+r) (by omega)
 |false=>
  cases(bif isA e then decide ((i:Int)<s) else false) with
  |true=>exact key (8-r) (by omega)
  |false=>exact same
theorem Jsq {e:ByteArray} {s:Int}:∀{l:List Int} {i k:Nat} {p:Int×Int},Fb k p→p.1≤2^k*p.2→1≤p.2→(∀r∈l,-8≤r∧r≤8)→(Vh e s i l p).1≤2^(k+l.length)*(Vh e s i l p).2
 |[],_,_,_,_,h,_,_=>h
 |r::l,i,k,p,h,hp,hd,hl=>by
  have hr:=hl r (by simp)
  have st:=Jqm (i:=i) (e:=e) (s:=s) h hp hd hr
  have:=Jsq (e:=e) (s:=s) (l:=l) (i:=i+1) (Dg (i:=i) (e:=e) (s:=s) h hr) st.1 st.2 fun x hx=>hl x (by simp[hx])
  rw[show k+1+l.length=k+(r::l).length by simp only[List.length_cons];omega] at this
  exact this
theorem Kia {k:Nat} (h:k≤5):(2:Int)^k≤32:=by
 have:∀j,j<6→(2:Int)^j≤32:=by decide
 exact this k (by omega)
theorem Jhc {c:Cab} {e:ByteArray} {k:Nat} (hv:Yb c):0≤Du c e k∧Du c e k≤8388608:=by
 have hb:=Jd6 (s:=k) (e:=e) hv
 have hr:(Jw c k e).1≤2^(0+c.2.1.length)*(Jw c k e).2:=Jsq (p:=(1,1)) ⟨⟨by decide,by decide⟩,0,Nat.le_refl _,rfl⟩ (by decide) (by decide) hv.2.2.2.2.1
 have hl:0+c.2.1.length≤5:=by have:=hv.2.1;have:=hv.2.2.2.1;omega
 have h2:=Kia hl
 have a1:(2:Int)^(0+c.2.1.length)*(Jw c k e).2≤32*(Jw c k e).2:=Int.mul_le_mul_of_nonneg_right h2 (by omega)
 obtain⟨_,j,hj,hd⟩:=Jd5 (s:=k) (e:=e) hv
 have hu:=Jfv (H:=1) (n:=(Jw c k e).1) (d:=(Jw c k e).2) (j:=j) (by have:=hv.2.1;have:=hv.2.2.2.1;omega) hd
 rw[Int.one_mul,Int.one_mul] at hu
 have e1:Du c e k=(262144*(Jw c k e).1).tdiv (Jw c k e).2:=hu
 rw[e1,Int.tdiv_eq_ediv_of_nonneg (by omega)]
 refine⟨Int.ediv_nonneg (by omega) (by omega), ?_⟩
 exact Int.ediv_le_of_le_mul (by omega) (by omega)
def thE (c:Cab) (z:Zon):Int:=Ja [Uc c,Yj z c.1.length]
def thG (c:Cab) (z:Zon):Int×Int:=thN c z 1099511627776 c.1.length
def thF (c:Cab) (z:Zon):Int×Int:=if thE c z=0 then(if(thG c z).2<(thG c z).1 then(0,0) else thG c z) else(0,0)
def Jgo (c:Cab) (z:Zon):Int:=if thE c z=0 then(if(thG c z).2<(thG c z).1 then 18 else 0) else thE c z
theorem Jly {c:Cab} {z:Zon} {A B:Int} (h:B≤A):∀k,(thN c z A k).1=(thN c z B k).1∧(thN c z B k).2=min B (thN c z A k).2
 |0=>⟨rfl,by show B=min B A;omega⟩
 | k + 1 => by
  obtain⟨h1,h2⟩:=Jly (c:=c) (z:=z) h k
  simp only[thN,Hj]
  split
  ·refine⟨h1, ?_⟩
   show min (thN c z B k).2 _=min B (min (thN c z A k).2 _)
   omega
  ·exact⟨by show max _ _=max _ _;rw[h1],h2⟩
theorem L2 {c:Cab} {e:ByteArray} {k:Nat} (hv:Yb c) {n:Int} (hn:1≤n∧n≤1024):0≤n*Du c e k∧n*Du c e k≤8589934592:=by
 have h:=Jhc (e:=e) (k:=k) hv
 refine⟨Int.mul_nonneg (by omega) h.1, ?_⟩
 have:=Int.mul_le_mul hn.2 h.2 h.1 (by decide:(0:Int)≤1024)
 omega
theorem Jsg {c:Cab} {z:Zon} {A:Int} (hv:Yb c) (hz:Yj z c.1.length=0):∀k:Nat,z.1.1<(k:Int)→(thN c z A k).2≤8589934592
 |0,h=>by have:=(Lm hz).1;omega
 | k + 1, h => by
  have hZ:=Lm hz
  simp only[thN,Hj]
  by_cases e:z.1.1=k
  ·rw[if_pos ⟨by omega,by omega⟩]
   have:=L2 (e:=z.2.2.2) (k:=k) hv hZ.2.1
   show min _ _≤_
   omega
  ·have ih:=Jsg (A:=A) hv hz k (by omega)
   split
   ·show min _ _≤_
    omega
   ·exact ih
theorem Jx3 {c:Cab} {z:Zon} (hv:Yb c) (hz:Yj z c.1.length=0):thN c z 1152921504606846976 c.1.length=thG c z:=by
 have h:=Jly (c:=c) (z:=z) (A:=1152921504606846976) (B:=1099511627776) (by decide) c.1.length
 have hl:=Jsg (A:=1152921504606846976) hv hz c.1.length (by have:=(Lm hz).1;omega)
 unfold thG
 exact Prod.ext h.1 (by rw[h.2];omega)
theorem Jp2 {c:Cab} {z:Zon} (h:thE c z=0):Uc c=0∧Yj z c.1.length=0:=by
 have hz:=Ji (show Ja [Uc c,Yj z c.1.length]=0 from h)
 simp only[List.mem_cons,List.not_mem_nil,or_false,forall_eq_or_imp,forall_eq] at hz
 exact hz
theorem zin {z:Zon} {k:Nat}:(bif decide (z.1.1≤(k:Int)) then decide ((k:Int)<z.1.2) else false)=decide (z.1.1≤(k:Int)∧(k:Int)<z.1.2):=by
 by_cases h1:z.1.1≤(k:Int)<;>by_cases h2:(k:Int)<z.1.2<;>simp[h1,h2]
theorem Juq {c:Cab} {e:ByteArray} {k:Nat} (hv:Yb c):((Jw c k e).2=0→False)∧(-9223372036854775808≤(262144:Int).tdiv (Jw c k e).2∧(262144:Int).tdiv (Jw c k e).2≤9223372036854775807)∧-9223372036854775808≤Du c e k∧Du c e k≤9223372036854775807:=by
 have hb:=Jd6 (s:=k) (e:=e) hv
 have t:=Lp (a:=262144) (g:=(Jw c k e).2) (B:=262144) ⟨by decide,by decide⟩
 have h:=Jhc (e:=e) (k:=k) hv
 exact⟨by omega,by omega,by omega⟩
def Jom:Con:={args:=[aC,aZ],ress:=[Pr,I],owns:=[],pre:=fun(c,_)=>[c.1.length≤1000000,c.2.1.length≤1000000],spec:=fun(c,z,_)=>(thF c z,Jgo c z,())}
abbrev Jtt (c:Cab) (z:Zon):Ann:={X:=Nat,σ:=fun k=>⟨6,[(2, .one (.ptr 2 0)),(3, .one (.ptr 3 0)),(4, .one (.ptr 4 0)),(7, .one (.ptr 5 0)),(28, .one (.int .i64 c.1.length)),(29, .one (.int .i64 k))],[(0, .imm 91 sPt c.1),(1, .imm 3 sI c.2.1),(2, .box 39 [.sl 0, .sl 1, .int .i64 c.2.2.1, .int .i64 c.2.2.2]),(3, .box 81 [.int .i64 z.1.1, .int .i64 z.1.2, .int .i64 z.2.1, .int .i64 z.2.2.1, .str z.2.2.2]),(4, .box 63 [.int .i64 0, .int .i64 0]),(5, .box 63 [.int .i64 (thN c z 1152921504606846976 k).1, .int .i64 (thN c z 1152921504606846976 k).2])]⟩,inv:=fun k=>k≤c.1.length∧thE c z=0,mu:=fun k=>c.1.length-k}
def J4t (a:Cab) (b:Nat) (c:Zon):=(Jw (Z39 a) (Nc b) c.2.2.2).2
def J4q (a:Nat) (b:Cab) (c:Zon):=Z40 a b∧thE b c=0
def J20 (a:Cab) (b:Nat) (c:Zon):=Int.tdiv 262144 (J4t a b c)*(Jw (Z39 a) (Nc b) c.2.2.2).1
def Kbl (a:Nat) (b:Cab) (c:Zon) (d:Nat):=J4q a b c∧Jr6 b a d
def Ka9 (a:Zon) (b:Cab) (c:Nat):=a.2.1*J20 b c a
def Ka8 (a:Cab) (b:Zon):=Ja [Z66 a,Yj (E2 b.1,b.2.1,E2 b.2.2) (Z4 a)]
def Ka7 (a:Zon) (b:Cab) (c:Nat):=a.2.2.1*J20 b c a
def Ka0 (a:Zon) (b:Cab) (c:Nat):=Ka7 a b c+1
theorem Khx [Sx.Dr] (c:Cab) (z:Zon):wpF Tryz.prog W54.g (Vi (Jtt c z)) Tryz.f18 Jom (c,z,()):=by
 refine(by kernel_rfl:(Z64 c→Z30 c→Jxj c∧Br (Ka8 c z !=0) ((0,0)=thF c z∧Ka8 c z=Jgo c z) (∃(x:Nat),Si (Z4 c) (0=Nc x∧c.1=c.1∧c.2.1=c.2.1∧Si c.2.2.1 (Si c.2.2.2 (Si z.1.1 (Si z.1.2 (Si z.2.1 (Si z.2.2.1 (Sf z.2.2.2 (Si 0 (Si 0 (1=(thN c z 1152921504606846976 x).1∧1152921504606846976=(thN c z 1152921504606846976 x).2))))))))))∧J4q x c z∧∀(x:Nat),J4q x c z→Br (Z72 x c) ((Jbp c∧Z14≤Nc x∧Nc x≤1000)∧((J4t c x z=0→False)∧Iw (Int.tdiv 262144 (J4t c x z))∧Iw (J20 c x z))∧Br (bif decide (z.1.1≤Nc x) then decide (Nc x<z.1.2) else false) (Iw (Ka9 z c x)∧Z1 x∧∃(y:Nat),Si (Z4 c) (Z25 x y∧c.1=c.1∧c.2.1=c.2.1∧Si c.2.2.1 (Si c.2.2.2 (Si z.1.1 (Si z.1.2 (Si z.2.1 (Si z.2.2.1 (Sf z.2.2.2 (Si 0 (Si 0 ((thN c z 1152921504606846976 x).1=(thN c z 1152921504606846976 y).1∧min (thN c z 1152921504606846976 x).2 (Ka9 z c x)=(thN c z 1152921504606846976 y).2))))))))))∧Kbl y c z x) ((Iw (Ka7 z c x)∧Iw (Ka0 z c x))∧Z1 x∧∃(y:Nat),Si (Z4 c) (Z25 x y∧c.1=c.1∧c.2.1=c.2.1∧Si c.2.2.1 (Si c.2.2.2 (Si z.1.1 (Si z.1.2 (Si z.2.1 (Si z.2.2.1 (Sf z.2.2.2 (Si 0 (Si 0 (max (thN c z 1152921504606846976 x).1 (Ka0 z c x)=(thN c z 1152921504606846976 y).1∧(thN c z 1152921504606846976 x).2=(thN c z 1152921504606846976 y).2))))))))))∧Kbl y c z x)) (Br (decide ((thN c z 1152921504606846976 x).2<(thN c z 1152921504606846976 x).1)) ((0,0)=thF c z∧18=Jgo c z) (E2 (thN c z 1152921504606846976 x)=thF c z∧0=Jgo c z))))=_).mp ?_
 delta Z1 Z4 Z13 Z14 Z25 Z26 Z30 Z39 Z40 Z64 Z66 Z67 Z72 Jbp J4t J4q Jr6 Jxj J20 Kbl Ka9 Ka8 Ka7 Ka0 Br Iw Sf Si Ln Nc E2
 intro h1 h2
 refine⟨⟨h1,h2,by omega⟩,fun h=> ?_,fun h=> ?_⟩
 ·have h:¬thE c z=0:=bne_iff_ne.1 h
  unfold thF Jgo;rw[if_neg h,if_neg h];exact⟨rfl,rfl⟩
 have h:thE c z=0:=bne_eq_false_iff_eq.1 h
 obtain⟨hc,hz⟩:=Jp2 h
 have hv:Yb c:=Xx hc
 have hZ:=Lm hz
 have hlen:=hv.2.1
 refine⟨(0:Nat),⟨rfl,rfl,rfl,rfl,rfl,rfl,rfl,rfl,rfl,rfl,rfl,rfl,rfl,rfl,rfl⟩,⟨Nat.zero_le _,h⟩,fun(k:Nat) hk=>⟨fun hlt=> ?_,fun hge=> ?_⟩⟩
 ·have hlt:k<c.1.length:=by simpa using hlt
  have b1:=Juq (e:=z.2.2.2) (k:=k) hv
  have b2:=L2 (e:=z.2.2.2) (k:=k) hv hZ.2.1
  have b3:=L2 (e:=z.2.2.2) (k:=k) hv hZ.2.2.1
  have b2': -9223372036854775808≤z.2.1*Du c z.2.2.2 k∧z.2.1*Du c z.2.2.2 k≤9223372036854775807:=by omega
  have b3':(-9223372036854775808≤z.2.2.1*Du c z.2.2.2 k∧z.2.2.1*Du c z.2.2.2 k≤9223372036854775807)∧-9223372036854775808≤z.2.2.1*Du c z.2.2.2 k+1∧z.2.2.1*Du c z.2.2.2 k+1≤9223372036854775807:=by omega
  have st:thN c z 1152921504606846976 (k+1)=Hj c z k (thN c z 1152921504606846976 k):=rfl
  rw[zin]
  refine⟨⟨hc,by omega⟩,b1,fun q=> ?_,fun q=> ?_⟩
  ·have q:=of_decide_eq_true q
   have e1:Hj c z k (thN c z 1152921504606846976 k)=((thN c z 1152921504606846976 k).1,min (thN c z 1152921504606846976 k).2 (z.2.1*Du c z.2.2.2 k)):=if_pos q
   rw[e1] at st
   exact⟨b2',by omega,(k+1:Nat),⟨rfl,by simp,rfl,rfl,rfl,rfl,rfl,rfl,rfl,rfl,rfl,rfl,rfl,by rw[st],by rw[st];rfl⟩,⟨hlt,h⟩,by omega⟩
  ·have q:=of_decide_eq_false q
   have e1:Hj c z k (thN c z 1152921504606846976 k)=(max (thN c z 1152921504606846976 k).1 (z.2.2.1*Du c z.2.2.2 k+1),(thN c z 1152921504606846976 k).2):=if_neg q
   rw[e1] at st
   exact⟨b3',by omega,(k+1:Nat),⟨rfl,by simp,rfl,rfl,rfl,rfl,rfl,rfl,rfl,rfl,rfl,rfl,rfl,by rw[st];rfl,by rw[st]⟩,⟨hlt,h⟩,by omega⟩
 ·have hge:¬k<c.1.length:=by simpa using hge
  have ek:k=c.1.length:=by omega
  rw[ek,Jx3 hv hz]
  have eF:thF c z=if(thG c z).2<(thG c z).1 then(0,0) else thG c z:=if_pos h
  have eE:Jgo c z=if(thG c z).2<(thG c z).1 then 18 else 0:=if_pos h
  rw[eF,eE]
  refine⟨fun q=> ?_,fun q=> ?_⟩
  ·have q:=of_decide_eq_true q
   rw[if_pos q,if_pos q];exact⟨rfl,rfl⟩
  ·have q:=of_decide_eq_false q
   rw[if_neg q,if_neg q];exact⟨rfl,rfl⟩
theorem Kj9 [Sx.Dr]:Ok Tryz.prog 18 Jom:=Je mixed W54.ok (by kernel_rfl) (by kernel_rfl) (fun xx=>Vi (Jtt xx.1 xx.2.1)) fun xx=>Khx xx.1 xx.2.1
abbrev W55 [Sx.Dr]:=W54.add Kj9
def Jxc (l:List Arr):Prop:=∀a∈l,-80000000000000≤a.2.2∧a.2.2≤80000000000000
theorem Jtd:∀{l:List Arr} {p:Option Arr},H8 p l=0→Jxc l
 |[],_,_=>fun a ha=>by simp at ha
 | a :: r, p, h => by
  simp only[H8] at h
  split at h
  ·rename_i h0
   have hz:=Ji (show Ja [_,_,_,_]=0 from h0)
   simp only[List.mem_cons,List.not_mem_nil,or_false,forall_eq_or_imp,forall_eq] at hz
   have b:=Jc.1 hz.2.2.1
   intro x hx
   rcases List.mem_cons.1 hx with rfl|hx
   ·exact⟨by omega,by omega⟩
   ·exact Jtd h x hx
  ·rename_i h0;exact absurd h h0
theorem Jv5 {l:List Arr} (h:Lf l=0):Jxc l∧l.length≤2048:=by
 unfold Lf at h
 split at h
 ·cases h
 ·exact⟨Jtd h,by omega⟩
theorem Jvg {l:List Arr} (h:Jxc l) (e:ByteArray): -80000000000000≤((V6 e l).getD dA).2.2∧((V6 e l).getD dA).2.2≤80000000000000:=by
 cases hf:V6 e l with
 |none=>exact⟨by decide,by decide⟩
 |some a=>exact h a (List.mem_of_find?_eq_some hf)
def Jc2 (l:List Arr) (e:ByteArray) (t:Int):Bool:=bif (V6 e l).isSome then decide (t≤max ((V6 e l).getD dA).2.2 (0-((V6 e l).getD dA).2.2)) else false
def J7z:Con:={args:=[.val false (.list 48 K9),aS,aI],ress:=[Bo],owns:=[],pre:=fun(l,_)=>[l.length≤1000000,Jxc l],spec:=fun(l,e,t,_)=>(Jc2 l e t,())}
theorem Kjb [Sx.Dr]:Ok Tryz.prog 52 J7z:=okW W55 Tryz.f52 na fun xx=>by
 obtain⟨(l:List Arr),(e:ByteArray),(t:Int),_⟩:=xx
 refine(by kernel_rfl:(Jcw l→Jxc l→Jcw l∧(Option.isSome (V6 e l)=true→Iw (0-(Z10 e l).2.2))∧(bif Option.isSome (V6 e l) then decide (t≤max (Z10 e l).2.2 (0-(Z10 e l).2.2)) else false)=Jc2 l e t)=_).mp ?_
 delta Z10 Jcw Iw
 intro h1 h2
 have b:=Jvg h2 e
 exact⟨h1,fun _=>by omega,rfl⟩
abbrev W56 [Sx.Dr]:=W55.add Kjb
def Ye (l:List Arr) (z:Zon) (t:Int):Int:=Ja [Lf l,Yj z 6,Jw1 t]
def Yy (l:List Arr) (z:Zon) (t:Int):Bool:=if Ye l z t=0 then Jc2 l z.2.2.2 t else false
def Jtf:Con:={args:=[.val false (.list 48 K9),aZ,aI],ress:=[Bo,I],owns:=[],pre:=fun(l,_)=>[l.length≤1000000],spec:=fun(l,z,t,_)=>(Yy l z t,Ye l z t,())}
def Kdm (a:List Arr) (b:Zon) (c:Int):=Ja [Lf a,Yj (E2 b.1,b.2.1,E2 b.2.2) 6,Jw1 c]
theorem Khw [Sx.Dr] (l:List Arr) (z:Zon) (t:Int):wpF Tryz.prog W56.g (na ()) Tryz.f19 Jtf (l,z,t,()):=by
 refine(by kernel_rfl:(Jcw l→(Jcw l∧3≤1000000)∧Br (Kdm l z t !=0) (false=Yy l z t∧Kdm l z t=Ye l z t) ((Jcw l∧Jxc l)∧Jc2 l z.2.2.2 t=Yy l z t∧0=Ye l z t))=_).mp ?_
 delta Jcw Kdm Br E2
 intro h1
 refine⟨⟨h1,by omega⟩,fun h=> ?_,fun h=> ?_⟩
 ·have h:¬Ye l z t=0:=bne_iff_ne.1 h
  unfold Yy;rw[if_neg h];exact⟨rfl,rfl⟩
 ·have h:Ye l z t=0:=bne_eq_false_iff_eq.1 h
  have hz:=Ji (show Ja [Lf l,Yj z 6,Jw1 t]=0 from h)
  simp only[List.mem_cons,List.not_mem_nil,or_false,forall_eq_or_imp,forall_eq] at hz
  unfold Yy;rw[if_pos h]
  exact⟨⟨h1,(Jv5 hz.1).1⟩,rfl,h.symm⟩
theorem Kj8 [Sx.Dr]:Ok Tryz.prog 19 Jtf:=Je mixed W56.ok (by kernel_rfl) (by kernel_rfl) na fun xx=>Khw xx.1 xx.2.1 xx.2.2.1
abbrev W57 [Sx.Dr]:=W56.add Kj8
abbrev Jig:Sch:= .prod .str .bool
abbrev sSw:Sch:= .prod .str (.prod .str (.prod sI (.prod sI .bool)))
abbrev sPm:Sch:= .prod .str sI
abbrev sYd:Sch:= .prod (.list 135 Jig) (.prod (.list 137 sSw) (.list 206 sPm))
abbrev Sec:Type:=ByteArray×Bool
abbrev Sw:Type:=ByteArray×ByteArray×Int×Int×Bool
abbrev Pm:Type:=ByteArray×Int
abbrev Yd:Type:=List Sec×List Sw×List Pm
abbrev aYd:AK:= .val true sYd
def eB:ByteArray:=⟨#[]⟩
def Jsn:ByteArray:=⟨#[98,114,101,97,107,101,114]⟩
def Jw3:ByteArray:=⟨#[105,115,111,108,97,116,111,114]⟩
def Jkl:ByteArray:=⟨#[101,97,114,116,104]⟩
abbrev Jxb:Sec:=(eB,false)
abbrev dSw:Sw:=(eB,eB,0,0,false)
abbrev dPm:Pm:=(eB,0)
theorem Kik [Sx.Dr]:Ok Tryz.prog 80 Jol:=okW W57 Tryz.f80 na fun xx=>by
 obtain⟨(b:Bool),(e:Int),_⟩:=xx
 refine(by kernel_rfl:(Jpp b e)=_).mp ?_
 delta Jpp Br
 cases b<;>simp
abbrev W58 [Sx.Dr]:=W57.add Kik
theorem J7k [Sx.Dr]:Ok Tryz.prog 105 Jjr:=okW W58 Tryz.f105 (fun xx=>Vi (Fr xx.1)) fun xx=>by
 obtain⟨(l:List Int),_⟩:=xx
 refine(by kernel_rfl:(Jt0 l)=_).mp ?_
 delta Z1 Z3 Z12 Z22 Z25 Z28 Z86 Z93 Jr7 Jla Jr3 Jr1 Jt0 Br Iw Bd Tw Si Ln Nc
 intro hb
 refine⟨(0:Nat),⟨rfl,rfl,rfl⟩,⟨Nat.zero_le _,rfl⟩,fun(k:Nat) hk=>⟨fun h=> ?_,fun h=> ?_⟩⟩
 ·have hlt:k<l.length:=by simpa using h
  have hd:=U6 hlt
  refine⟨by omega,fun h1=> ?_,fun h1=>⟨by omega,(k+1:Nat),⟨rfl,by simp,rfl⟩,⟨by omega, ?_⟩,by omega⟩⟩
  ·have h2:¬l.getD k 0=0:=by simpa using h1
   rw[hk.2,hd,if_neg h2]
  ·have h2:l.getD k 0=0:=by simpa using h1
   rw[hk.2,hd,if_pos h2]
 ·have hlt:¬k<l.length:=by simpa using h
  have:k=l.length:=by omega
  rw[hk.2,this,List.drop_length];rfl
abbrev W59 [Sx.Dr]:=W58.add J7k
def Uq (y:Yd) (s:Int):Bool:=bif decide (0≤s) then decide (s<y.1.length) else false
def Jzj:Con:={args:=[aYd,aI],ress:=[Bo],owns:=[],pre:=fun(y,_)=>[y.1.length≤1000000],spec:=fun(y,s,_)=>(Uq y s,())}
def Z27 (a:Yd):=Ln a.1
def Z81 (a:Yd):=List.length a.1≤1000000
theorem J5i [Sx.Dr] (y:Yd) (s:Int):wpF Tryz.prog W59.g (na ()) Tryz.f112 Jzj (y,s,()):=by
 refine(by kernel_rfl:(Z81 y→(bif decide (0≤s) then decide (s<Z27 y) else false)=Uq y s)=_).mp ?_
 delta Z27 Z81 Ln
 intro _;rfl
theorem J7d [Sx.Dr]:Ok Tryz.prog 112 Jzj:=Je mixed W59.ok (by kernel_rfl) (by kernel_rfl) na fun xx=>J5i xx.1 xx.2.1
abbrev W60 [Sx.Dr]:=W59.add J7d
def D9 (k:ByteArray):Bool:=bif k.toList==Jsn.toList then true else bif k.toList==Jw3.toList then true else k.toList==Jkl.toList
def swE (y:Yd) (x:Sw):Int:=bif !D9 x.2.1 then 13 else bif x.2.1.toList==Jkl.toList then Ja [bif !Uq y x.2.2.1 then 10 else 0,bif x.2.2.2.1== -1 then 0 else 24] else Ja [bif (bif !Uq y x.2.2.1 then true else !Uq y x.2.2.2.1) then 10 else 0,bif x.2.2.1==x.2.2.2.1 then 24 else 0]
def Kf4:Con:={args:=[aYd, .val true sSw],ress:=[I],owns:=[],pre:=fun(y,_)=>[y.1.length≤1000000],spec:=fun(y,x,_)=>(swE y x,())}
abbrev Jts:Nat→Option Ann:=fun i=>if i=0 then some {X:=Unit,σ:=fun _=>⟨0,[],[]⟩,inv:=fun _=>True,mu:=fun _=>0,un:=4} else none
def Z5:=Iw ((0:Int)+1)
def Z55:=Iw ((0:Int)+1+1)
def Z78:=(0:Int)+1+(1:Int)+1
def Z87 (a:Yd):=List.length a.1≤1000000
def Z96:=Iw Z78
def Jt5:=ByteArray.mk (Array.mk [101,97,114,116,104])
def Jwj (a:Sw):=Lb a.2.1 Jt5
def Jwi:=ByteArray.mk (Array.mk [98,114,101,97,107,101,114])
def J0t:=ByteArray.mk (Array.mk [105,115,111,108,97,116,111,114])
def Vb (a:Yd):=(a.1,E2 a.2)
def J0p (a:Sw):=Lb a.2.1 J0t
def J3a (a:Yd) (b:Sw):=Uq (Vb a) b.2.2.1
def J25 (a:Yd) (b:Sw):= !J3a a b
def J8w (a:Sw) (b:Yd):=Br (Jwj a) ((Z87 b∧2≤1000000)∧Sf true (Ja [bif J25 b a then 10 else 0,bif !(a.2.2.1==a.2.2.1&&(a.2.2.2.1==Z17&&true)) then 24 else 0]=swE b a)) ((Z87 b∧(J25 b a=false→Z87 b)∧2≤1000000)∧Sf true (Ja [bif bif J25 b a then true else !Uq (Vb b) a.2.2.2.1 then 10 else 0,bif a.2.2.1==a.2.2.2.1 then 24 else 0]=swE b a))
def Jz6 (a:Yd) (b:Sw):=Br true (Sf true (13=swE a b)) (J8w b a)
def J1u (a:Yd) (b:Sw):=Br false (Sf true (13=swE a b)) (J8w b a)
theorem J5k [Sx.Dr] (y:Yd) (x:Sw):wpFG Tryz.prog W60.g (na ()) (fun f=>if f=175 then Jts else na ()) (Sx.look ([(152,Tryz.f152),(175,Tryz.f175)]:List (Nat×Func))) Tryz.f110 Kf4 (y,x,()):=by
 refine(by kernel_rfl:(Z81 y→Tw (Br true (Br (Lb x.2.1 Jwi) (J1u y x) (Z5∧Br true (Br (J0p x) (J1u y x) (Z55∧Br true (Br (Jwj x) (J1u y x) (Z96∧Br false False (Jz6 y x))) (Jz6 y x))) (Jz6 y x))) (Jz6 y x)))=_).mp ?_
 delta Z5 Z17 Z55 Z78 Z81 Z87 Z96 Jt5 Jwj Jwi J0t Vb J0p J3a J25 J8w Jz6 J1u Br Iw Tw Sf Lb E2
 intro h1
 have kA:(x.2.1.toList==Jsn.toList)=true→D9 x.2.1=true:=fun h=>by unfold D9;rw[h];rfl
 have kB:(x.2.1.toList==Jw3.toList)=true→D9 x.2.1=true:=fun h=>by unfold D9;rw[h];cases(x.2.1.toList==Jsn.toList)<;>rfl
 have kC:(x.2.1.toList==Jkl.toList)=true→D9 x.2.1=true:=fun h=>by unfold D9;rw[h];cases(x.2.1.toList==Jsn.toList)<;>cases(x.2.1.toList==Jw3.toList)<;>rfl
 have m0:(x.2.1.toList==Jsn.toList)=false→(x.2.1.toList==Jw3.toList)=false→(x.2.1.toList==Jkl.toList)=false→13=swE y x:=fun a b c=>by
  unfold swE D9;rw[a,b,c];rfl
 have m1:D9 x.2.1=true→(x.2.1.toList==Jkl.toList)=true→Ja [bif !Uq y x.2.2.1 then 10 else 0,bif !(x.2.2.1==x.2.2.1&&(x.2.2.2.1== -1&&true)) then 24 else 0]=swE y x:=fun hk he=>by
  unfold swE;rw[hk,he]
  have e:(x.2.2.1==x.2.2.1)=true:=by simp
  rw[e];cases(x.2.2.2.1== -1)<;>rfl
 have m2:D9 x.2.1=true→(x.2.1.toList==Jkl.toList)=false→Ja [bif (bif !Uq y x.2.2.1 then true else !Uq y x.2.2.2.1) then 10 else 0,bif x.2.2.1==x.2.2.2.1 then 24 else 0]=swE y x:=fun hk he=>by
  unfold swE;rw[hk,he];rfl
 repeat' first|refine And.intro ?_ ?_|refine fun _=> ?_
 all_goals first
  |exact h1
  |decide
  |exact absurd (by assumption:false=true) Bool.false_ne_true
  |exact absurd (by assumption:true=false) (fun h=>Bool.noConfusion h)
  |rfl
  |exact m0 (by assumption) (by assumption) (by assumption)
  |exact m1 (by first|exact kA (by assumption)|exact kB (by assumption)|exact kC (by assumption)) (by assumption)
  |exact m2 (by first|exact kA (by assumption)|exact kB (by assumption)|exact kC (by assumption)) (by assumption)
theorem J7f [Sx.Dr]:Ok Tryz.prog 110 Kf4:=Vz mixed W60.ok (by kernel_rfl) (by kernel_rfl) (H2 (l:=([(152,Tryz.f152),(175,Tryz.f175)]:List (Nat×Func))) (List.forall_mem_cons.2 ⟨by kernel_rfl,List.forall_mem_cons.2 ⟨by kernel_rfl,by simp⟩⟩)) (fun xx=>na ()) (fun xx=>fun f=>if f=175 then Jts else na ()) fun xx=>J5k xx.1 xx.2.1
abbrev W61 [Sx.Dr]:=W60.add J7f
def ixG {α:Type} (f:α→Bool):List α→Int→Int
 |[],_=> -1
 |x::r,k=>if f x=true then k else ixG f r (k+1)
theorem H4 {α:Type} {d:α} {f:α→Bool} {l:List α} {k:Nat} (h:k<l.length):ixG f (l.drop k) k=if f (l.getD k d)=true then(k:Int) else ixG f (l.drop (k+1)) (k+1):=by
 rw[V4 (d:=d) h];rfl
theorem Da {α:Type} (f:α→Bool):∀(l:List α) (k:Int),0≤k→decide (0≤ixG f l k)=l.any f
 |[],k,_=>rfl
 | x :: r, k, hk => by
  rw[List.any_cons]
  by_cases h:f x=true
  ·rw[show ixG f (x::r) k=k from by simp only[ixG];rw[if_pos h],h];simpa using hk
  ·have e:f x=false:=by simpa using h
   rw[show ixG f (x::r) k=ixG f r (k+1) from by simp only[ixG];rw[if_neg h],e,Da f r (k+1) (by omega)];rfl
abbrev Jo0 (T:TypeId) (s:Sch) (g:Bool) (l:List s.T) (q:Tup [(g,s)]→List Prop) (f:Tup [(g,s)]→Bool):Ann:={X:=Nat,σ:=fun k=>⟨2,[(0, .one (.sl 0)),(1, .one (.fv 1)),(7, .one (.int .i64 l.length)),(8, .one (.int .i64 k))],[(0, .imm T s l),(1, .afn [(g,s)] Bo q f)]⟩,inv:=fun k=>k≤l.length∧ixG (fun x=>f (x,())) l 0=ixG (fun x=>f (x,())) (l.drop k) k,mu:=fun k=>l.length-k}
def J75 (T:TypeId) (s:Sch) (g:Bool):Con:={args:=[.val false (.list T s), .fn [(g,s)] Bo],ress:=[I],owns:=[],pre:=fun(l,(q,_),_)=>[l.length≤1000000,∀x∈l,Kf (q (x,()))],spec:=fun(l,(_,f),_)=>(ixG (fun x=>f (x,())) l 0,())}
def Jvz (T:TypeId) (s:Sch) (g:Bool):Con:={args:=[.val false (.list T s), .fn [(g,s)] Bo],ress:=[Bo],owns:=[],pre:=fun(l,(q,_),_)=>[l.length≤1000000,∀x∈l,Kf (q (x,()))],spec:=fun(l,(_,f),_)=>(l.any (fun x=>f (x,())),())}
def Z31 (a:List Pm):=List.length a
def Z57 (a:Nat) (b:List Pm):=a≤Z31 b
def Z75 (a:List Pm):=Z31 a≤1000000
def Jxt (a:Pm×Unit→Bool) (b:List Pm):=ixG (fun(x:ByteArray×Int)=>a (x,PUnit.unit)) b 0
def Jwn (a:List Pm) (b:Nat):=(E2 (List.getD a b (B0,0)),PUnit.unit)
def Jxo (a:List Pm) (b c:Nat):=Z31 a-b<Z31 a-c
def Jxm (a:Pm×Unit→List Prop) (b:List Pm) (c:Nat):=Kf (a (Jwn b c))
def Jxl (a:List Pm) (b:Bt×Int):=b∈a
def Jpm (a:List Pm) (b:Pm×Unit→List Prop):=∀(x:ByteArray×Int),Jxl a x→Kf (b (x,PUnit.unit))
def J2n (a:Nat) (b:List Pm) (c:Pm×Unit→Bool):=Z57 a b∧Jxt c b=ixG (fun(x:ByteArray×Int)=>c (x,PUnit.unit)) (List.drop a b) (Nc a)
theorem J51 [Sx.Dr]:Ok Tryz.prog 183 (J75 206 sPm true):=okW W61 Tryz.f183 (fun xx=>Vi (Jo0 206 sPm true xx.1 xx.2.1.1 xx.2.1.2)) fun xx=>by
 obtain⟨(l:List Pm),⟨(q:Pm×Unit→List Prop),(f:Pm×Unit→Bool)⟩,_⟩:=xx
 refine(by kernel_rfl:(Z75 l→Jpm l q→∃(x:Nat),Si (Ln l) (0=Nc x∧Sf l ((fun(x:(ByteArray×Int)×PUnit)=>q x)=q∧(fun(x:(ByteArray×Int)×PUnit)=>f x)=f))∧J2n x l f∧∀(x:Nat),J2n x l f→Br (decide (Nc x<Ln l)) (T2 (Bd (Nc x) (Ln l)) (Jxm q l x)∧Br (f (Jwn l x)) (Nc x=Jxt f l) (Z1 x∧∃(y:Nat),Si (Ln l) (Z25 x y∧Sf l ((fun(x:(ByteArray×Int)×PUnit)=>q x)=q∧(fun(x:(ByteArray×Int)×PUnit)=>f x)=f))∧J2n y l f∧Jxo l y x)) (Z17=Jxt f l))=_).mp ?_
 delta Z1 Z17 Z25 Z31 Z57 Z75 Jxt Jwn Jxo Jxm Jxl Jpm J2n Br Iw Bd T2 Sf Si Ln Nc B0 E2
 intro h1 hq
 refine⟨(0:Nat),⟨rfl,rfl,rfl,rfl,rfl⟩,⟨Nat.zero_le _,rfl⟩,fun(k:Nat) hk=>⟨fun e=> ?_,fun e=> ?_⟩⟩
 ·have hlt:k<l.length:=by simpa using e
  have hd:=H4 (d:=dPm) (f:=fun x=>f (x,())) hlt
  refine⟨⟨by omega,by omega,hq (l.getD k dPm) (Jj hlt)⟩,fun h=> ?_,fun h=> ?_⟩
  ·have h:f (l.getD k dPm,())=true:=h
   rw[hk.2,hd,if_pos h]
  ·have h:f (l.getD k dPm,())=false:=h
   refine⟨by omega,(k+1:Nat),⟨rfl,by simp,rfl,rfl,rfl⟩,⟨by omega, ?_⟩,by omega⟩
   rw[hk.2,hd,if_neg (by rw[h];decide)]
   rfl
 ·have hge:¬k<l.length:=by simpa using e
  rw[hk.2,List.drop_of_length_le (by omega)]
  rfl
abbrev W62 [Sx.Dr]:=W61.add J51
def J2m (a:List Pm) (b:Pm×Unit→List Prop):=Z75 a∧Jpm a b
theorem J6f [Sx.Dr]:Ok Tryz.prog 160 (Jvz 206 sPm true):=okW W62 Tryz.f160 na fun xx=>by
 obtain⟨(l:List Pm),⟨(q:Pm×Unit→List Prop),(f:Pm×Unit→Bool)⟩,_⟩:=xx
 refine(by kernel_rfl:(Z75 l→Jpm l q→J2m l q∧decide (0≤Jxt f l)=List.any l fun(x:ByteArray×Int)=>f (x,PUnit.unit))=_).mp ?_
 delta Z31 Z75 Jxt Jxl Jpm J2m
 intro h1 hq
 exact⟨⟨h1,hq⟩,Da _ l 0 (Int.le_refl 0)⟩
abbrev W63 [Sx.Dr]:=W62.add J6f
def Z69 (a:Int×Unit→Bool) (b:Li):=ixG (fun(x:Int)=>a (x,PUnit.unit)) b 0
def J28 (a:Nat) (b:Li) (c:Int×Unit→Bool):=a≤List.length b∧Z69 c b=ixG (fun(x:Int)=>c (x,PUnit.unit)) (List.drop a b) (Nc a)
theorem J50 [Sx.Dr]:Ok Tryz.prog 189 (J75 3 sI false):=okW W63 Tryz.f189 (fun xx=>Vi (Jo0 3 sI false xx.1 xx.2.1.1 xx.2.1.2)) fun xx=>by
 obtain⟨(l:List Int),⟨(q:Int×Unit→List Prop),(f:Int×Unit→Bool)⟩,_⟩:=xx
 refine(by kernel_rfl:(Z12 l→Jpo l q→∃(x:Nat),Si (Ln l) (0=Nc x∧Sf l ((fun(x:Int×PUnit)=>q x)=q∧(fun(x:Int×PUnit)=>f x)=f))∧J28 x l f∧∀(x:Nat),J28 x l f→Br (Z28 x l) (T2 (Bd (Nc x) (Ln l)) (Kf (q (Z34 l x)))∧Br (f (Z34 l x)) (Nc x=Z69 f l) (Z1 x∧∃(y:Nat),Si (Ln l) (Z25 x y∧Sf l ((fun(x:Int×PUnit)=>q x)=q∧(fun(x:Int×PUnit)=>f x)=f))∧J28 y l f∧Z86 l y x)) (Z17=Z69 f l))=_).mp ?_
 delta Z1 Z3 Z12 Z17 Z25 Z28 Z34 Z69 Z85 Z86 Jpo J28 Br Iw Bd T2 Sf Si Ln Nc
 intro h1 hq
 refine⟨(0:Nat),⟨rfl,rfl,rfl,rfl,rfl⟩,⟨Nat.zero_le _,rfl⟩,fun(k:Nat) hk=>⟨fun e=> ?_,fun e=> ?_⟩⟩
 ·have hlt:k<l.length:=by simpa using e
  have hd:=H4 (d:=(0:Int)) (f:=fun x=>f (x,())) hlt
  refine⟨⟨by omega,by omega,hq (l.getD k (0:Int)) (Jj hlt)⟩,fun h=> ?_,fun h=> ?_⟩
  ·have h:f (l.getD k (0:Int),())=true:=h
   rw[hk.2,hd,if_pos h]
  ·have h:f (l.getD k (0:Int),())=false:=h
   refine⟨by omega,(k+1:Nat),⟨rfl,by simp,rfl,rfl,rfl⟩,⟨by omega, ?_⟩,by omega⟩
   rw[hk.2,hd,if_neg (by rw[h];decide)]
   rfl
 ·have hge:¬k<l.length:=by simpa using e
  rw[hk.2,List.drop_of_length_le (by omega)]
  rfl
abbrev W64 [Sx.Dr]:=W63.add J50
theorem J57 [Sx.Dr]:Ok Tryz.prog 176 (Jvz 3 sI false):=okW W64 Tryz.f176 na fun xx=>by
 obtain⟨(l:List Int),⟨(q:Int×Unit→List Prop),(f:Int×Unit→Bool)⟩,_⟩:=xx
 refine(by kernel_rfl:(Z12 l→Jpo l q→(Z12 l∧Jpo l q)∧decide (0≤Z69 f l)=List.any l fun(x:Int)=>f (x,PUnit.unit))=_).mp ?_
 delta Z12 Z69 Z85 Jpo
 intro h1 hq
 exact⟨⟨h1,hq⟩,Da _ l 0 (Int.le_refl 0)⟩
abbrev W65 [Sx.Dr]:=W64.add J57
def Z49:=(B0,B0,(0:Int),(0:Int),false)
def Jwo (a:List Sw):=List.length a
def Jt4 (a:Nat) (b:List Sw):=a≤Jwo b
def J01 (a:List Sw) (b:Nat):=Jwo a-b
def Jr4 (a:List Sw):=Jwo a≤1000000
def Jxk (a:Sw×Unit→Bool) (b:List Sw):=ixG (fun(x:ByteArray×ByteArray×Int×Int×Bool)=>a (x,PUnit.unit)) b 0
def J0s (a:List Sw) (b:Nat):=List.getD a b Z49
def J0r (a:List Sw) (b:Nat):=(J0s a b).2
def J0q (a:List Sw) (b:Nat):=(J0r a b).2
def Jxf (a:List Sw) (b c:Nat):=J01 a b<J01 a c
def Jxe (a:List Sw) (b:Bt×Bt×Int×Int×Bool):=b∈a
def Jpl (a:List Sw) (b:Sw×Unit→List Prop):=∀(x:ByteArray×ByteArray×Int×Int×Bool),Jxe a x→Kf (b (x,PUnit.unit))
def J17 (a:Nat) (b:List Sw) (c:Sw×Unit→Bool):=Jt4 a b∧Jxk c b=ixG (fun(x:ByteArray×ByteArray×Int×Int×Bool)=>c (x,PUnit.unit)) (List.drop a b) (Nc a)
def Jwb (a:List Sw) (b:Nat):=(((J0s a b).1,(J0r a b).1,(J0q a b).1,E2 (J0q a b).2),PUnit.unit)
def Jxd (a:Sw×Unit→List Prop) (b:List Sw) (c:Nat):=Kf (a (Jwb b c))
theorem J69 [Sx.Dr]:Ok Tryz.prog 116 (J75 137 sSw true):=okW W65 Tryz.f116 (fun xx=>Vi (Jo0 137 sSw true xx.1 xx.2.1.1 xx.2.1.2)) fun xx=>by
 obtain⟨(l:List Sw),⟨(q:Sw×Unit→List Prop),(f:Sw×Unit→Bool)⟩,_⟩:=xx
 refine(by kernel_rfl:(Jr4 l→Jpl l q→∃(x:Nat),Si (Ln l) (0=Nc x∧Sf l ((fun(x:(ByteArray×ByteArray×Int×Int×Bool)×PUnit)=>q x)=q∧(fun(x:(ByteArray×ByteArray×Int×Int×Bool)×PUnit)=>f x)=f))∧J17 x l f∧∀(x:Nat),J17 x l f→Br (decide (Nc x<Ln l)) (T2 (Bd (Nc x) (Ln l)) (Jxd q l x)∧Br (f (Jwb l x)) (Nc x=Jxk f l) (Z1 x∧∃(y:Nat),Si (Ln l) (Z25 x y∧Sf l ((fun(x:(ByteArray×ByteArray×Int×Int×Bool)×PUnit)=>q x)=q∧(fun(x:(ByteArray×ByteArray×Int×Int×Bool)×PUnit)=>f x)=f))∧J17 y l f∧Jxf l y x)) (Z17=Jxk f l))=_).mp ?_
 delta Z1 Z17 Z25 Z49 Jwo Jt4 J01 Jr4 Jxk J0s J0r J0q Jxf Jxe Jpl J17 Jwb Jxd Br Iw Bd T2 Sf Si Ln Nc B0 E2
 intro h1 hq
 refine⟨(0:Nat),⟨rfl,rfl,rfl,rfl,rfl⟩,⟨Nat.zero_le _,rfl⟩,fun(k:Nat) hk=>⟨fun e=> ?_,fun e=> ?_⟩⟩
 ·have hlt:k<l.length:=by simpa using e
  have hd:=H4 (d:=dSw) (f:=fun x=>f (x,())) hlt
  refine⟨⟨by omega,by omega,hq (l.getD k dSw) (Jj hlt)⟩,fun h=> ?_,fun h=> ?_⟩
  ·have h:f (l.getD k dSw,())=true:=h
   rw[hk.2,hd,if_pos h]
  ·have h:f (l.getD k dSw,())=false:=h
   refine⟨by omega,(k+1:Nat),⟨rfl,by simp,rfl,rfl,rfl⟩,⟨by omega, ?_⟩,by omega⟩
   rw[hk.2,hd,if_neg (by rw[h];decide)]
   rfl
 ·have hge:¬k<l.length:=by simpa using e
  rw[hk.2,List.drop_of_length_le (by omega)]
  rfl
abbrev W66 [Sx.Dr]:=W65.add J69
def J14 (a:List Sw) (b:Sw×Unit→List Prop):=Jr4 a∧Jpl a b
theorem J53 [Sx.Dr]:Ok Tryz.prog 181 (Jvz 137 sSw true):=okW W66 Tryz.f181 na fun xx=>by
 obtain⟨(l:List Sw),⟨(q:Sw×Unit→List Prop),(f:Sw×Unit→Bool)⟩,_⟩:=xx
 refine(by kernel_rfl:(Jr4 l→Jpl l q→J14 l q∧decide (0≤Jxk f l)=List.any l fun(x:ByteArray×ByteArray×Int×Int×Bool)=>f (x,PUnit.unit))=_).mp ?_
 delta Jwo Jr4 Jxk Jxe Jpl J14
 intro h1 hq
 exact⟨⟨h1,hq⟩,Da _ l 0 (Int.le_refl 0)⟩
abbrev W67 [Sx.Dr]:=W66.add J53
abbrev Jry (l:List ByteArray) (x:ByteArray):Ann:={X:=Nat,σ:=fun k=>⟨1,[(0, .one (.sl 0)),(1, .one (.str x)),(7, .one (.int .i64 l.length)),(8, .one (.int .i64 k))],[(0, .imm 9 .str l)]⟩,inv:=fun k=>k≤l.length∧ixG (fun y=>x.toList==y.toList) l 0=ixG (fun y=>x.toList==y.toList) (l.drop k) k,mu:=fun k=>l.length-k}
def Jzh:Con:={args:=[.val false (.list 9 .str),aS],ress:=[I],owns:=[],pre:=fun(l,_)=>[l.length≤1000000],spec:=fun(l,x,_)=>(ixG (fun y=>x.toList==y.toList) l 0,())}
def Z36 (a:Ls):=List.length a≤1000000
def Z73 (a:Bt) (b:Ls):=ixG (fun(y:ByteArray)=>Lb a y) b 0
def J2w (a:Nat) (b:Ls) (c:Bt):=a≤List.length b∧Z73 c b=ixG (fun(y:ByteArray)=>Lb c y) (List.drop a b) (Nc a)
theorem J58 [Sx.Dr]:Ok Tryz.prog 175 Jzh:=okW W67 Tryz.f175 (fun xx=>Vi (Jry xx.1 xx.2.1)) fun xx=>by
 obtain⟨(l:List ByteArray),(x:ByteArray),_⟩:=xx
 refine(by kernel_rfl:(Z36 l→∃(x_1:Nat),Sf x (Si (Ln l) (0=Nc x_1∧l=l))∧J2w x_1 l x∧∀(x_2:Nat),J2w x_2 l x→Br (decide (Nc x_2<Ln l)) (Tw (Bd (Nc x_2) (Ln l))∧Br (Lb x (List.getD l x_2 B0)) (Nc x_2=Z73 x l) (Z1 x_2∧∃(y:Nat),Sf x (Si (Ln l) (Z25 x_2 y∧l=l))∧J2w y l x∧List.length l-y<List.length l-x_2)) (Z17=Z73 x l))=_).mp ?_
 delta Z1 Z17 Z25 Z36 Z73 J2w Br Iw Bd Tw Sf Si Ln Nc B0 Lb
 intro h1
 refine⟨(0:Nat),⟨rfl,rfl,rfl,rfl⟩,⟨Nat.zero_le _,rfl⟩,fun(k:Nat) hk=>⟨fun e=> ?_,fun e=> ?_⟩⟩
 ·have hlt:k<l.length:=by simpa using e
  have hd:=H4 (d:=(⟨⟨[]⟩⟩:ByteArray)) (f:=fun y=>x.toList==y.toList) hlt
  refine⟨by omega,fun h=> ?_,fun h=> ?_⟩
  ·rw[hk.2,hd,if_pos h]
  ·refine⟨by omega,(k+1:Nat),⟨rfl,by simp,rfl,rfl⟩,⟨by omega, ?_⟩,by omega⟩
   rw[hk.2,hd,if_neg (by rw[h];decide)]
   rfl
 ·have hge:¬k<l.length:=by simpa using e
  rw[hk.2,List.drop_of_length_le (by omega)]
  rfl
abbrev W68 [Sx.Dr]:=W67.add J58
def Jvv:Con:={args:=[.val false (.list 9 .str),aS],ress:=[Bo],owns:=[],pre:=fun(l,_)=>[l.length≤1000000],spec:=fun(l,x,_)=>(l.any (fun y=>x.toList==y.toList),())}
theorem J6n [Sx.Dr]:Ok Tryz.prog 152 Jvv:=okW W68 Tryz.f152 na fun xx=>by
 obtain⟨(l:List ByteArray),(x:ByteArray),_⟩:=xx
 refine(by kernel_rfl:(Z36 l→Z36 l∧decide (0≤Z73 x l)=List.any l fun(y:ByteArray)=>Lb x y)=_).mp ?_
 delta Z36 Z73 Lb
 intro h1
 exact⟨h1,Da _ l 0 (Int.le_refl 0)⟩
abbrev W69 [Sx.Dr]:=W68.add J6n
abbrev Jrx (l:List Int) (x:Int):Ann:={X:=Nat,σ:=fun k=>⟨1,[(0, .one (.sl 0)),(1, .one (.int .i64 x)),(7, .one (.int .i64 l.length)),(8, .one (.int .i64 k))],[(0, .imm 3 sI l)]⟩,inv:=fun k=>k≤l.length∧ixG (fun y=>x==y) l 0=ixG (fun y=>x==y) (l.drop k) k,mu:=fun k=>l.length-k}
def Jzg:Con:={args:=[.val false (.list 3 sI),aI],ress:=[I],owns:=[],pre:=fun(l,_)=>[l.length≤1000000],spec:=fun(l,x,_)=>(ixG (fun y=>x==y) l 0,())}
def Z48 (a:Int) (b:Li):=ixG (fun(y:Int)=>a==y) b 0
def J3p (a:Nat) (b:Li) (c:Int):=a≤List.length b∧Z48 c b=ixG (fun(y:Int)=>c==y) (List.drop a b) (Nc a)
theorem J5z [Sx.Dr]:Ok Tryz.prog 191 Jzg:=okW W69 Tryz.f191 (fun xx=>Vi (Jrx xx.1 xx.2.1)) fun xx=>by
 obtain⟨(l:List Int),(x:Int),_⟩:=xx
 refine(by kernel_rfl:(Z12 l→∃(x_1:Nat),Si x (Z93 l x_1)∧J3p x_1 l x∧∀(x_2:Nat),J3p x_2 l x→Br (Z28 x_2 l) (Z22 x_2 l∧Br (x==Z3 l x_2) (Nc x_2=Z48 x l) (Z1 x_2∧∃(y:Nat),Si x (Jr7 l x_2 y)∧J3p y l x∧Z86 l y x_2)) (Z17=Z48 x l))=_).mp ?_
 delta Z1 Z3 Z12 Z17 Z22 Z25 Z28 Z48 Z86 Z93 Jr7 J3p Br Iw Bd Tw Si Ln Nc
 intro h1
 refine⟨(0:Nat),⟨rfl,rfl,rfl,rfl⟩,⟨Nat.zero_le _,rfl⟩,fun(k:Nat) hk=>⟨fun e=> ?_,fun e=> ?_⟩⟩
 ·have hlt:k<l.length:=by simpa using e
  have hd:=H4 (d:=(0:Int)) (f:=fun y=>x==y) hlt
  refine⟨by omega,fun h=> ?_,fun h=> ?_⟩
  ·rw[hk.2,hd,if_pos h]
  ·refine⟨by omega,(k+1:Nat),⟨rfl,by simp,rfl,rfl⟩,⟨by omega, ?_⟩,by omega⟩
   rw[hk.2,hd,if_neg (by rw[h];decide)]
   rfl
 ·have hge:¬k<l.length:=by simpa using e
  rw[hk.2,List.drop_of_length_le (by omega)]
  rfl
abbrev W70 [Sx.Dr]:=W69.add J5z
def Jvu:Con:={args:=[.val false (.list 3 sI),aI],ress:=[Bo],owns:=[],pre:=fun(l,_)=>[l.length≤1000000],spec:=fun(l,x,_)=>(l.any (fun y=>x==y),())}
theorem J55 [Sx.Dr]:Ok Tryz.prog 179 Jvu:=okW W70 Tryz.f179 na fun xx=>by
 obtain⟨(l:List Int),(x:Int),_⟩:=xx
 refine(by kernel_rfl:(Z12 l→Z12 l∧decide (0≤Z48 x l)=List.any l fun(y:Int)=>x==y)=_).mp ?_
 delta Z12 Z48
 intro h1
 exact⟨h1,Da _ l 0 (Int.le_refl 0)⟩
abbrev W71 [Sx.Dr]:=W70.add J55
theorem J6a [Sx.Dr]:Ok Tryz.prog 170 Jol:=okW W71 Tryz.f170 na fun xx=>by
 obtain⟨(b:Bool),(e:Int),_⟩:=xx
 refine(by kernel_rfl:(Jpp b e)=_).mp ?_
 delta Jpp Br
 cases b<;>simp
abbrev W72 [Sx.Dr]:=W71.add J6a
theorem Kid [Sx.Dr]:Ok Tryz.prog 94 Jjr:=okW W72 Tryz.f94 (fun xx=>Vi (Fr xx.1)) fun xx=>by
 obtain⟨(l:List Int),_⟩:=xx
 refine(by kernel_rfl:(Jt0 l)=_).mp ?_
 delta Z1 Z3 Z12 Z22 Z25 Z28 Z86 Z93 Jr7 Jla Jr3 Jr1 Jt0 Br Iw Bd Tw Si Ln Nc
 intro hb
 refine⟨(0:Nat),⟨rfl,rfl,rfl⟩,⟨Nat.zero_le _,rfl⟩,fun(k:Nat) hk=>⟨fun h=> ?_,fun h=> ?_⟩⟩
 ·have hlt:k<l.length:=by simpa using h
  have hd:=U6 hlt
  refine⟨by omega,fun h1=> ?_,fun h1=>⟨by omega,(k+1:Nat),⟨rfl,by simp,rfl⟩,⟨by omega, ?_⟩,by omega⟩⟩
  ·have h2:¬l.getD k 0=0:=by simpa using h1
   rw[hk.2,hd,if_neg h2]
  ·have h2:l.getD k 0=0:=by simpa using h1
   rw[hk.2,hd,if_pos h2]
 ·have hlt:¬k<l.length:=by simpa using h
  have:k=l.length:=by omega
  rw[hk.2,this,List.drop_length];rfl
abbrev W73 [Sx.Dr]:=W72.add Kid
def okB (f:Bool) (c:Int):Bool:=bif (bif decide ((65:Int)≤c) then decide (c≤90) else false) then true else bif (bif decide ((97:Int)≤c) then decide (c≤122) else false) then true else bif f then false else bif decide (c<48) then c==95 else bif decide (57<c) then c==95 else true
def Jqt (f:Bool):List UInt8→Bool
 |[]=>true
 |b::r=>okB f (b.toNat:Int)&&Jqt false r
def Jhe (s:ByteArray):Bool:=Jqt true s.data.toList&&(decide (0<s.size)&&decide ((s.size:Int)≤24))
theorem Jm1 (f:Bool) (c:Int):(bif !bif (bif decide ((65:Int)≤c) then decide (c≤90) else false) then true else bif decide ((97:Int)≤c) then decide (c≤122) else false then bif f then true else bif (bif decide (c<48) then true else decide (57<c)) then c !=95 else false else false)= !okB f c:=by
 unfold okB bne
 cases decide ((65:Int)≤c)<;>cases decide (c≤90)<;>cases decide ((97:Int)≤c)<;>cases decide (c≤122)<;>cases f<;>cases decide (c<48)<;>cases decide (57<c)<;>cases c==95<;>rfl
theorem Jip {f:Bool} {c:Int} (h:128≤c):okB f c=false:=by
 unfold okB
 have h1:decide (c≤90)=false:=decide_eq_false (by omega)
 have h2:decide (c≤122)=false:=decide_eq_false (by omega)
 have h3:decide (c<48)=false:=decide_eq_false (by omega)
 have h4:decide ((57:Int)<c)=true:=decide_eq_true (by omega)
 have h5:(c==95)=false:=beq_eq_false_iff_ne.2 (by omega)
 rw[h1,h2,h3,h4,h5]
 cases decide ((65:Int)≤c)<;>cases decide ((97:Int)≤c)<;>cases f<;>rfl
theorem Jih {s:ByteArray} {k:Nat} (h:k<s.size) (ha:(s[k]'h).toNat<128):Ul s k=((s[k]'h).toNat:Int)∧Jdf s k=1:=by
 unfold Ul Jdf
 rw[decode_ascii s k h ha]
 exact⟨rfl,rfl⟩
theorem Jml {s:ByteArray} {k:Nat} (h:k<s.size) (ha:128≤(s[k]'h).toNat):128≤Ul s k:=by
 have:=(decode_high s k h ha).1
 unfold Ul
 omega
theorem Jcu {s:ByteArray} {k:Nat} (h:k<s.size):s.data.toList.drop k=(s[k]'h)::s.data.toList.drop (k+1):=by
 rw[List.drop_eq_getElem_cons (by simpa using h)]
 congr 1
theorem Jqx (s:ByteArray):(!(s.toList==(⟨⟨[]⟩⟩:ByteArray).toList))=decide (0<s.size):=by
 rw[Lib.toList_data,Lib.toList_data]
 have e:s.data.toList.length=s.size:=by simp
 cases h:s.data.toList with
 |nil=>rw[h] at e;simp at e;rw[←e];rfl
 |cons a l=>rw[h] at e;simp at e;rw[←e];simp
theorem Dv (k:Nat):(((k:Nat):Int)==0)=(k==0):=by
 rw[Bool.eq_iff_iff,beq_iff_eq,beq_iff_eq];omega
def J73:Con:={args:=[aS],ress:=[Bo],owns:=[],pre:=fun(s,_)=>[s.size≤1000000],spec:=fun(s,_)=>(Jhe s,())}
abbrev Jv8 (s:ByteArray):Ann:={X:=Nat,σ:=fun k=>⟨1,[(0, .one (.str s)),(7, .one (.sl 0))],[(0, .siter s k)]⟩,inv:=fun k=>k≤s.size∧Jqt true s.data.toList=Jqt (k==0) (s.data.toList.drop k),mu:=fun k=>s.size-k}
def Kdz (a:Bt):=Sf true ((bif !Lb a B0 then decide (Nc (ByteArray.size a)≤24) else false)=Jhe a)
def J3g (a:Nat) (b:Bt):=a≤ByteArray.size b∧Jqt true b.data.toList=Jqt (a==0) (List.drop a b.data.toList)
theorem J59 [Sx.Dr]:Ok Tryz.prog 174 J73:=J5y W73 Tryz.f174 (H2 (l:=([]:List (Nat×Func))) (by simp)) (fun xx=>Vi (Jv8 xx.1)) (fun xx=>fun _=>na ()) fun xx=>by
 obtain⟨(s:ByteArray),_⟩:=xx
 refine(by kernel_rfl:(ByteArray.size s≤1000000→∃(x:Nat),Sf s (Sf s (0=x))∧J3g x s∧∀(x:Nat),J3g x s→(x<ByteArray.size s→Br true (Br (bif !bif bif decide (65≤Ul s x) then decide (Ul s x≤90) else false then true else bif decide (97≤Ul s x) then decide (Ul s x≤122) else false then bif Nc x==0 then true else bif bif decide (Ul s x<48) then true else decide (57<Ul s x) then Ul s x !=95 else false else false) (Sf true (false=Jhe s)) (∃(y:Nat),Sf s (Sf s (x+Jdf s x=y))∧J3g y s∧ByteArray.size s-y<ByteArray.size s-x)) (Kdz s))∧((x<ByteArray.size s→False)→Br false False (Kdz s)))=_).mp ?_
 delta Kdz J3g Br Sf Nc B0 Lb
 intro hb
 refine⟨(0:Nat),⟨rfl,rfl,rfl⟩,⟨Nat.zero_le _,by simp⟩,fun(k:Nat) hk=>⟨fun h=>⟨fun _=>⟨fun h1=>⟨rfl, ?_⟩,fun h1=> ?_⟩,fun h=>(by cases h)⟩,fun h=> ?_⟩⟩
 ·rw[Jm1,Dv] at h1
  have h2:okB (k==0) (Ul s k)=false:=by simpa using h1
  unfold Jhe
  have h3:Jqt true s.data.toList=false:=by
   rw[hk.2,Jcu h,Jqt]
   by_cases ha:(s[k]'h).toNat<128
   ·rw[←(Jih h ha).1,h2];rfl
   ·rw[Jip (by omega)];rfl
  rw[h3];rfl
 ·rw[Jm1,Dv] at h1
  have h2:okB (k==0) (Ul s k)=true:=by simpa using h1
  by_cases ha:(s[k]'h).toNat<128
  ·obtain⟨r1,r2⟩:=Jih h ha
   refine⟨(k+1:Nat),⟨rfl,rfl,by rw[r2]⟩,⟨by omega, ?_⟩,by omega⟩
   rw[hk.2,Jcu h,Jqt,←r1,h2]
   rfl
  ·have:=Jml h (by omega)
   rw[Jip this] at h2
   cases h2
 ·have e:k=s.size:=Nat.le_antisymm hk.1 (Nat.le_of_not_lt h)
  refine⟨fun h=>(by cases h),fun _=>⟨rfl, ?_⟩⟩
  rw[e,List.drop_eq_nil_of_le (by simp)] at hk
  unfold Jhe
  rw[hk.2,Jqx]
  cases decide (0<s.size)<;>cases decide ((s.size:Int)≤24)<;>rfl
abbrev W74 [Sx.Dr]:=W73.add J59
def nmE (s:ByteArray) (l:List ByteArray):Int:=Ja [bif !Jhe s then 8 else 0,bif l.any (fun y=>s.toList==y.toList) then 9 else 0]
def Kks:Con:={args:=[aS, .val false (.list 9 .str)],ress:=[I],owns:=[],pre:=fun(s,l,_)=>[s.size≤1000000,l.length≤1000000],spec:=fun(s,l,_)=>(nmE s l,())}
theorem J6p [Sx.Dr]:Ok Tryz.prog 150 Kks:=okW W74 Tryz.f150 na fun xx=>by
 obtain⟨(s:ByteArray),(l:List ByteArray),_⟩:=xx
 refine(by kernel_rfl:(ByteArray.size s≤1000000→Z36 l→(ByteArray.size s≤1000000∧Z36 l∧2≤1000000)∧Ja [bif !Jhe s then 8 else 0,bif List.any l fun(y:ByteArray)=>Lb s y then 9 else 0]=nmE s l)=_).mp ?_
 delta Z36 Lb
 exact fun h1 h2=>⟨⟨h1,h2,by decide⟩,rfl⟩
abbrev W75 [Sx.Dr]:=W74.add J6p
theorem J5m [Sx.Dr] (x:Sec):wpF Tryz.prog W75.g (na ()) Tryz.f107 ({args:=[.val true Jig],ress:=[tS],owns:=[],pre:=fun _=>[],spec:=fun(x,_)=>(x.1,())}) (x,()):=by
 refine(by kernel_rfl:(x.1=x.1)=_).mp ?_
 rfl
theorem J7i [Sx.Dr]:Ok Tryz.prog 107 ({args:=[.val true Jig],ress:=[tS],owns:=[],pre:=fun _=>[],spec:=fun(x,_)=>(x.1,())}):=Je mixed W75.ok (by kernel_rfl) (by kernel_rfl) na fun xx=>J5m xx.1
abbrev W76 [Sx.Dr]:=W75.add J7i
theorem J5l [Sx.Dr] (x:Sw):wpF Tryz.prog W76.g (na ()) Tryz.f109 ({args:=[.val true sSw],ress:=[tS],owns:=[],pre:=fun _=>[],spec:=fun(x,_)=>(x.1,())}) (x,()):=by
 refine(by kernel_rfl:(x.1=x.1)=_).mp ?_
 rfl
theorem J7g [Sx.Dr]:Ok Tryz.prog 109 ({args:=[.val true sSw],ress:=[tS],owns:=[],pre:=fun _=>[],spec:=fun(x,_)=>(x.1,())}):=Je mixed W76.ok (by kernel_rfl) (by kernel_rfl) na fun xx=>J5l xx.1
abbrev W77 [Sx.Dr]:=W76.add J7g
theorem J5h [Sx.Dr] (x:Pm):wpF Tryz.prog W77.g (na ()) Tryz.f114 ({args:=[.val true sPm],ress:=[tS],owns:=[],pre:=fun _=>[],spec:=fun(x,_)=>(x.1,())}) (x,()):=by
 refine(by kernel_rfl:(x.1=x.1)=_).mp ?_
 rfl
theorem J7b [Sx.Dr]:Ok Tryz.prog 114 ({args:=[.val true sPm],ress:=[tS],owns:=[],pre:=fun _=>[],spec:=fun(x,_)=>(x.1,())}):=Je mixed W77.ok (by kernel_rfl) (by kernel_rfl) na fun xx=>J5h xx.1
abbrev W78 [Sx.Dr]:=W77.add J7b
theorem J5n [Sx.Dr] (x:Sec):wpF Tryz.prog W78.g (na ()) Tryz.f104 ({args:=[.val true Jig],ress:=[I],owns:=[],pre:=fun _=>[],spec:=fun _=>(0,())}) (x,()):=by
 refine(by kernel_rfl:((0:Int)=0)=_).mp ?_
 rfl
theorem J7l [Sx.Dr]:Ok Tryz.prog 104 ({args:=[.val true Jig],ress:=[I],owns:=[],pre:=fun _=>[],spec:=fun _=>(0,())}):=Je mixed W78.ok (by kernel_rfl) (by kernel_rfl) na fun xx=>J5n xx.1
abbrev W79 [Sx.Dr]:=W78.add J7l
def knE (y:Yd) (x:Pm):Int:=bif !Uq y x.2 then 10 else 0
def J3d (a:Yd) (b:Pm):=Uq (Vb a) b.2
theorem J5j [Sx.Dr] (x:Pm) (y:Yd):wpF Tryz.prog W79.g (na ()) Tryz.f111 ({args:=[.val true sPm, .ref 100 sYd],ress:=[I],owns:=[],pre:=fun(_,y,_)=>[y.1.length≤1000000],spec:=fun(x,y,_)=>(knE y x,())}) (x,y,()):=by
 refine(by kernel_rfl:(Z81 y→Z87 y∧(bif !J3d y x then 10 else 0)=knE y x)=_).mp ?_
 delta Z81 Z87 Vb J3d E2
 exact fun h=>⟨h,rfl⟩
theorem J7e [Sx.Dr]:Ok Tryz.prog 111 ({args:=[.val true sPm, .ref 100 sYd],ress:=[I],owns:=[],pre:=fun(_,y,_)=>[y.1.length≤1000000],spec:=fun(x,y,_)=>(knE y x,())}):=Je mixed W79.ok (by kernel_rfl) (by kernel_rfl) na fun xx=>J5j xx.1 xx.2.1
abbrev W80 [Sx.Dr]:=W79.add J7e
def Jvs (T:TypeId) (s:Sch):Con:={args:=[.val false (.list T s), .fn [(true,s)] tS],ress:=[(false, .list 9 .str)],owns:=[true],pre:=fun(l,(q,_),_)=>[l.length≤1000000,∀x∈l,Kf (q (x,()))],spec:=fun(l,(_,f),_)=>(l.map fun x=>f (x,()),())}
def Z59 (a:List Sec) (b:Nat):=List.length a-b
def Z61 (a:Nat) (b:List Sec):=a≤List.length b
def Z77 (a:List Sec):=List.length a≤1000000
def Jxr (a:List Sec) (b:Nat):=(E2 (List.getD a b (B0,false)),PUnit.unit)
def J0u (a:Sec×Unit→Bt) (b:Nat) (c:List Sec):=List.map (fun(x:ByteArray×Bool)=>a (x,PUnit.unit)) (List.take b c)
def J31 (a:List Sec) (b:Bt×Bool):=b∈a
def Kdn (a:Sec×Unit→Bt) (b:Nat) (c:List Sec):=List.length (J0u a b c)
def Jxg (a:List Sec) (b:Sec×Unit→List Prop):=∀(x:ByteArray×Bool),J31 a x→Kf (b (x,PUnit.unit))
theorem J6q [Sx.Dr]:Ok Tryz.prog 149 (Jvs 135 Jig):=okW W80 Tryz.f149 (fun xx=>Vi (Zn 135 9 Jig xx.1 tS true xx.2.1.1 xx.2.1.2)) fun xx=>by
 obtain⟨(l:List Sec),⟨(q:Sec×Unit→List Prop),(f:Sec×Unit→ByteArray)⟩,_⟩:=xx
 refine(by kernel_rfl:(Z77 l→Jxg l q→∃(x:Nat),Si (Ln l) (0=Nc x∧Sf l ((fun(x:(ByteArray×Bool)×PUnit)=>q x)=q∧(fun(x:(ByteArray×Bool)×PUnit)=>f x)=f∧Kdn f x l=0))∧Z61 x l∧∀(x:Nat),Z61 x l→Br (decide (Nc x<Ln l)) (Tw (Bd (Nc x) (Ln l))∧(Kf (q (Jxr l x))∧(Kdn f x l+1)*16≤140737488355328)∧Z1 x∧∃(y:Nat),Si (Ln l) (Z25 x y∧Sf l ((fun(x:(ByteArray×Bool)×PUnit)=>q x)=q∧(fun(x:(ByteArray×Bool)×PUnit)=>f x)=f∧J0u f x l++[f (Jxr l x)]=J0u f y l))∧Z61 y l∧Z59 l y<Z59 l x) (J0u f x l=List.map (fun(x:ByteArray×Bool)=>f (x,PUnit.unit)) l))=_).mp ?_
 delta Z1 Z25 Z59 Z61 Z77 Jxr J0u J31 Kdn Jxg Br Iw Bd Tw Sf Si Ln Nc B0 E2
 intro hb hq
 refine⟨(0:Nat),⟨rfl,rfl,rfl,rfl,rfl,by simp⟩,Nat.zero_le _,fun(k:Nat) hk=>⟨fun h=> ?_,fun h=> ?_⟩⟩
 ·have hlt:k<l.length:=by simpa using h
  refine⟨by omega,⟨hq (l.getD k Jxb) (Jj hlt),by simp only[List.length_map,List.length_take];omega⟩,by omega,(k+1:Nat),⟨rfl,by simp,rfl,rfl,rfl, ?_⟩,by omega,by omega⟩
  rw[←Jy (d:=Jxb) hlt,List.map_append];rfl
 ·have hlt:¬k<l.length:=by simpa using h
  rw[List.take_of_length_le (by omega)]
abbrev W81 [Sx.Dr]:=W80.add J6q
def J30 (a:Sw×Unit→Bt) (b:List Sw):=List.map (fun(x:ByteArray×ByteArray×Int×Int×Bool)=>a (x,PUnit.unit)) b
def J0j (a:Sw×Unit→Bt) (b:Nat) (c:List Sw):=List.map (fun(x:ByteArray×ByteArray×Int×Int×Bool)=>a (x,PUnit.unit)) (List.take b c)
def Kal (a:Sw×Unit→Bt) (b:Nat) (c:List Sw):=List.length (J0j a b c)
theorem J6o [Sx.Dr]:Ok Tryz.prog 151 (Jvs 137 sSw):=okW W81 Tryz.f151 (fun xx=>Vi (Zn 137 9 sSw xx.1 tS true xx.2.1.1 xx.2.1.2)) fun xx=>by
 obtain⟨(l:List Sw),⟨(q:Sw×Unit→List Prop),(f:Sw×Unit→ByteArray)⟩,_⟩:=xx
 refine(by kernel_rfl:(Jr4 l→Jpl l q→∃(x:Nat),Si (Ln l) (0=Nc x∧Sf l ((fun(x:(ByteArray×ByteArray×Int×Int×Bool)×PUnit)=>q x)=q∧(fun(x:(ByteArray×ByteArray×Int×Int×Bool)×PUnit)=>f x)=f∧Kal f x l=0))∧Jt4 x l∧∀(x:Nat),Jt4 x l→Br (decide (Nc x<Ln l)) (Tw (Bd (Nc x) (Ln l))∧(Jxd q l x∧(Kal f x l+1)*16≤140737488355328)∧Z1 x∧∃(y:Nat),Si (Ln l) (Z25 x y∧Sf l ((fun(x:(ByteArray×ByteArray×Int×Int×Bool)×PUnit)=>q x)=q∧(fun(x:(ByteArray×ByteArray×Int×Int×Bool)×PUnit)=>f x)=f∧J0j f x l++[f (Jwb l x)]=J0j f y l))∧Jt4 y l∧Jxf l y x) (J0j f x l=J30 f l))=_).mp ?_
 delta Z1 Z25 Z49 Jwo Jt4 J01 Jr4 J30 J0s J0r J0q Jxf J0j Kal Jxe Jpl Jwb Jxd Br Iw Bd Tw Sf Si Ln Nc B0 E2
 intro hb hq
 refine⟨(0:Nat),⟨rfl,rfl,rfl,rfl,rfl,by simp⟩,Nat.zero_le _,fun(k:Nat) hk=>⟨fun h=> ?_,fun h=> ?_⟩⟩
 ·have hlt:k<l.length:=by simpa using h
  refine⟨by omega,⟨hq (l.getD k dSw) (Jj hlt),by simp only[List.length_map,List.length_take];omega⟩,by omega,(k+1:Nat),⟨rfl,by simp,rfl,rfl,rfl, ?_⟩,by omega,by omega⟩
  rw[←Jy (d:=dSw) hlt,List.map_append];rfl
 ·have hlt:¬k<l.length:=by simpa using h
  rw[List.take_of_length_le (by omega)]
abbrev W82 [Sx.Dr]:=W81.add J6o
def J0v (a:Pm×Unit→Bt) (b:Nat) (c:List Pm):=List.map (fun(x:ByteArray×Int)=>a (x,PUnit.unit)) (List.take b c)
def Kdo (a:Pm×Unit→Bt) (b:Nat) (c:List Pm):=List.length (J0v a b c)
theorem J6m [Sx.Dr]:Ok Tryz.prog 153 (Jvs 206 sPm):=okW W82 Tryz.f153 (fun xx=>Vi (Zn 206 9 sPm xx.1 tS true xx.2.1.1 xx.2.1.2)) fun xx=>by
 obtain⟨(l:List Pm),⟨(q:Pm×Unit→List Prop),(f:Pm×Unit→ByteArray)⟩,_⟩:=xx
 refine(by kernel_rfl:(Z75 l→Jpm l q→∃(x:Nat),Si (Ln l) (0=Nc x∧Sf l ((fun(x:(ByteArray×Int)×PUnit)=>q x)=q∧(fun(x:(ByteArray×Int)×PUnit)=>f x)=f∧Kdo f x l=0))∧Z57 x l∧∀(x:Nat),Z57 x l→Br (decide (Nc x<Ln l)) (Tw (Bd (Nc x) (Ln l))∧(Jxm q l x∧(Kdo f x l+1)*16≤140737488355328)∧Z1 x∧∃(y:Nat),Si (Ln l) (Z25 x y∧Sf l ((fun(x:(ByteArray×Int)×PUnit)=>q x)=q∧(fun(x:(ByteArray×Int)×PUnit)=>f x)=f∧J0v f x l++[f (Jwn l x)]=J0v f y l))∧Z57 y l∧Jxo l y x) (J0v f x l=List.map (fun(x:ByteArray×Int)=>f (x,PUnit.unit)) l))=_).mp ?_
 delta Z1 Z25 Z31 Z57 Z75 Jwn Jxo Jxm J0v Jxl Kdo Jpm Br Iw Bd Tw Sf Si Ln Nc B0 E2
 intro hb hq
 refine⟨(0:Nat),⟨rfl,rfl,rfl,rfl,rfl,by simp⟩,Nat.zero_le _,fun(k:Nat) hk=>⟨fun h=> ?_,fun h=> ?_⟩⟩
 ·have hlt:k<l.length:=by simpa using h
  refine⟨by omega,⟨hq (l.getD k dPm) (Jj hlt),by simp only[List.length_map,List.length_take];omega⟩,by omega,(k+1:Nat),⟨rfl,by simp,rfl,rfl,rfl, ?_⟩,by omega,by omega⟩
  rw[←Jy (d:=dPm) hlt,List.map_append];rfl
 ·have hlt:¬k<l.length:=by simpa using h
  rw[List.take_of_length_le (by omega)]
abbrev W83 [Sx.Dr]:=W82.add J6m
def Ub {α:Type} (nm:α→ByteArray) (ck:α→Int):List ByteArray→List α→Int
 |_,[]=>0
 |seen,x::r=>if Ja [nmE (nm x) seen,ck x]=0 then Ub nm ck (seen++[nm x]) r else Ja [nmE (nm x) seen,ck x]
def J9 {α:Type} (nm:α→ByteArray) (ck:α→Int) (most:Int) (l:List α):Int:=bif decide (most<l.length) then 5 else Ub nm ck [] l
theorem Jdr {α β:Type} {d:α} {e:β} {f:α→β} {l:List α} {k:Nat} (h:k<l.length):(l.map f).getD k e=f (l.getD k d):=by
 simp[List.getD_eq_getElem?_getD,h]
theorem Hg {α:Type} {d:α} {nm:α→ByteArray} {ck:α→Int} {l:List α} {k:Nat} (h:k<l.length):Ub nm ck ((l.map nm).take k) (l.drop k)=if Ja [nmE (nm (l.getD k d)) ((l.map nm).take k),ck (l.getD k d)]=0 then Ub nm ck ((l.map nm).take (k+1)) (l.drop (k+1)) else Ja [nmE (nm (l.getD k d)) ((l.map nm).take k),ck (l.getD k d)]:=by
 rw[V4 (d:=d) h,Ub,←Jy (d:=nm d) (l:=l.map nm) (by simpa using h)]
 have e:(l.map nm).getD k (nm d)=nm (l.getD k d):=by simp[List.getD_eq_getElem?_getD,List.getElem?_map]
 rw[e]
abbrev Jo4 (T:TypeId) (s:Sch) (l:List s.T) (nm:s.T→ByteArray) (q2:Tup [(true,s)]→List Prop) (f2:Tup [(true,s)]→Int):Ann:={X:=Nat,σ:=fun k=>⟨3,[(3, .one (.fv 1)),(9, .one (.sl 2)),(20, .one (.sl 0)),(21, .one (.int .i64 l.length)),(22, .one (.int .i64 k))],[(0, .imm T s l),(1, .afn [(true,s)] I q2 f2),(2, .imm 9 .str (l.map nm))]⟩,inv:=fun k=>k≤l.length∧Ub nm (fun x=>f2 (x,())) [] l=Ub nm (fun x=>f2 (x,())) ((l.map nm).take k) (l.drop k),mu:=fun k=>l.length-k,frz:=[9]}
def J8a (T:TypeId) (s:Sch):Con:={args:=[.val false (.list T s),aI, .fn [(true,s)] tS, .fn [(true,s)] I],ress:=[I],owns:=[],pre:=fun(l,_,(q1,f1),(q2,_),_)=>[l.length≤1000000,∀x∈l,Kf (q1 (x,())),∀x∈l,(f1 (x,())).size≤1000000,∀x∈l,Kf (q2 (x,()))],spec:=fun(l,m,(_,f1),(_,f2),_)=>(J9 (fun x=>f1 (x,())) (fun x=>f2 (x,())) m l,())}
def Jt9 (a:Sec×Unit→Bt) (b:List Sec):=List.map (fun(x:ByteArray×Bool)=>a (x,PUnit.unit)) b
def Kem (a:Sec×Unit→Bt) (b:List Sec):=Ln (Jt9 a b)
def J4a (a:Sec×Unit→Bt) (b:Sec×Unit→Int) (c:Int) (d:List Sec):=J9 (fun(x:ByteArray×Bool)=>a (x,PUnit.unit)) (fun(x:ByteArray×Bool)=>b (x,PUnit.unit)) c d
def J37 (a:Nat) (b:Sec×Unit→Bt) (c:List Sec):=List.take a (Jt9 b c)
def J9v (a:Sec×Unit→Bt) (b:List Sec) (c:Nat) (d:Sec×Unit→Int):=Ja [nmE (List.getD (Jt9 a b) c B0) (J37 c a b),d (Jxr b c)]
def J2a (a:Nat) (b:List Sec) (c:Sec×Unit→Bt) (d:Sec×Unit→Int):=Z61 a b∧Ub (fun(x:ByteArray×Bool)=>c (x,PUnit.unit)) (fun(x:ByteArray×Bool)=>d (x,PUnit.unit)) [] b=Ub (fun(x:ByteArray×Bool)=>c (x,PUnit.unit)) (fun(x:ByteArray×Bool)=>d (x,PUnit.unit)) (J37 a c b) (List.drop a b)
theorem J7j [Sx.Dr]:Ok Tryz.prog 106 (J8a 135 Jig):=okW W83 Tryz.f106 (fun xx=>Vi (Jo4 135 Jig xx.1 (fun x=>xx.2.2.1.2 (x,())) xx.2.2.2.1.1 xx.2.2.2.1.2)) fun xx=>by
 obtain⟨(l:List Sec),(m:Int),⟨(q1:Sec×Unit→List Prop),(f1:Sec×Unit→ByteArray)⟩,⟨(q2:Sec×Unit→List Prop),(f2:Sec×Unit→Int)⟩,_⟩:=xx
 refine(by kernel_rfl:(Z77 l→Jxg l q1→(∀(x:ByteArray×Bool),J31 l x→ByteArray.size (f1 (x,PUnit.unit))≤1000000)→Jxg l q2→Br (decide (m<Ln l)) (5=J4a f1 f2 m l) ((Z77 l∧Jxg l q1)∧∃(x:Nat),Si (Ln l) (0=Nc x∧Sf l ((fun(x:(ByteArray×Bool)×PUnit)=>q2 x)=q2∧(fun(x:(ByteArray×Bool)×PUnit)=>f2 x)=f2∧List.map (fun(x:ByteArray×Bool)=>f1 (x,PUnit.unit)) l=Jt9 f1 l))∧J2a x l f1 f2∧∀(x:Nat),J2a x l f1 f2→Br (decide (Nc x<Ln l)) (Tw (Bd (Nc x) (Ln l))∧T2 (Bd (Nc x) (Kem f1 l)) (((0:Int)≤0∧0≤Nc x∧Nc x≤Kem f1 l)∧ByteArray.size (List.getD (Jt9 f1 l) x B0)≤1000000∧List.length (J37 x f1 l)≤1000000∧Kf (q2 (Jxr l x))∧2≤1000000)∧Br (J9v f1 l x f2 !=0) (J9v f1 l x f2=J4a f1 f2 m l) (Z1 x∧∃(y:Nat),Si (Ln l) (Z25 x y∧Sf l ((fun(x:(ByteArray×Bool)×PUnit)=>q2 x)=q2∧(fun(x:(ByteArray×Bool)×PUnit)=>f2 x)=f2∧Jt9 f1 l=Jt9 f1 l))∧J2a y l f1 f2∧Z59 l y<Z59 l x)) (0=J4a f1 f2 m l)))=_).mp ?_
 delta Z1 Z25 Z59 Z61 Z77 Jt9 Jxr Kem J4a J37 J31 Jxg J9v J2a Br Iw Bd T2 Tw Sf Si Ln Nc B0 E2
 intro h1 hq1 hs hq2
 refine⟨fun h=> ?_,fun h=>⟨⟨h1,hq1⟩,(0:Nat),⟨rfl,rfl,rfl,rfl,rfl,rfl⟩,⟨Nat.zero_le _,rfl⟩,fun(k:Nat) hk=>⟨fun e=> ?_,fun e=> ?_⟩⟩⟩
 ·unfold J9;rw[show decide (m<(l.length:Int))=true from h];rfl
 ·have hlt:k<l.length:=by simpa using e
  have hd:=Hg (d:=Jxb) (nm:=fun x=>f1 (x,())) (ck:=fun x=>f2 (x,())) hlt
  have en:(l.map fun x=>f1 (x,())).getD k ⟨⟨[]⟩⟩=f1 (l.getD k Jxb,()):=Jdr hlt
  have hm:(l.map fun x=>f1 (x,())).length=l.length:=List.length_map _
  have hA:J9 (fun x=>f1 (x,())) (fun x=>f2 (x,())) m l=Ub (fun x=>f1 (x,())) (fun x=>f2 (x,())) [] l:=by
   unfold J9;rw[show decide (m<(l.length:Int))=false from h];rfl
  refine⟨⟨by omega,by omega⟩,⟨by rw[hm];omega,by rw[hm];omega,by rw[hm];omega, ?_, ?_,hq2 (l.getD k Jxb) (Jj hlt),by decide⟩,fun g=> ?_,fun g=>⟨by omega,(k+1:Nat),⟨rfl,by simp,rfl,rfl,rfl,rfl⟩,⟨by omega, ?_⟩,by omega⟩⟩
  ·rw[en];exact hs _ (Jj hlt)
  ·rw[List.length_take];omega
  ·rw[en] at g
   rw[en,hA,hk.2,hd]
   exact(if_neg (Kh.1 g)).symm
  ·rw[en] at g
   rw[hk.2,hd]
   exact if_pos (Jz.1 g)
 ·have hge:¬k<l.length:=by simpa using e
  unfold J9;rw[show decide (m<(l.length:Int))=false from h]
  rw[List.drop_of_length_le (by omega)] at hk
  show 0=Ub _ _ [] l
  rw[hk.2];rfl
abbrev W84 [Sx.Dr]:=W83.add J7j
def Jwg (a:Sw×Unit→Bt) (b:List Sw):=List.map (fun(x:ByteArray×ByteArray×Int×Int×Bool)=>a (x,PUnit.unit)) b
def Kda (a:Sw×Unit→Bt) (b:List Sw):=Ln (Jwg a b)
def J3o (a:Sw×Unit→Bt) (b:Sw×Unit→Int) (c:Int) (d:List Sw):=J9 (fun(x:ByteArray×ByteArray×Int×Int×Bool)=>a (x,PUnit.unit)) (fun(x:ByteArray×ByteArray×Int×Int×Bool)=>b (x,PUnit.unit)) c d
def J3l (a:Nat) (b:Sw×Unit→Bt) (c:List Sw):=List.take a (Jwg b c)
def Kce (a:Sw×Unit→Bt) (b:List Sw) (c:Nat):=List.getD (Jwg a b) c B0
def J10 (a:Nat) (b:List Sw) (c:Sw×Unit→Bt) (d:Sw×Unit→Int):=Jt4 a b∧Ub (fun(x:ByteArray×ByteArray×Int×Int×Bool)=>c (x,PUnit.unit)) (fun(x:ByteArray×ByteArray×Int×Int×Bool)=>d (x,PUnit.unit)) [] b=Ub (fun(x:ByteArray×ByteArray×Int×Int×Bool)=>c (x,PUnit.unit)) (fun(x:ByteArray×ByteArray×Int×Int×Bool)=>d (x,PUnit.unit)) (J3l a c b) (List.drop a b)
def J83 (a:Sw×Unit→Bt) (b:List Sw) (c:Nat) (d:Sw×Unit→Int):=Ja [nmE (Kce a b c) (J3l c a b),d (Jwb b c)]
theorem J7h [Sx.Dr]:Ok Tryz.prog 108 (J8a 137 sSw):=okW W84 Tryz.f108 (fun xx=>Vi (Jo4 137 sSw xx.1 (fun x=>xx.2.2.1.2 (x,())) xx.2.2.2.1.1 xx.2.2.2.1.2)) fun xx=>by
 obtain⟨(l:List Sw),(m:Int),⟨(q1:Sw×Unit→List Prop),(f1:Sw×Unit→ByteArray)⟩,⟨(q2:Sw×Unit→List Prop),(f2:Sw×Unit→Int)⟩,_⟩:=xx
 refine(by kernel_rfl:(Jr4 l→Jpl l q1→(∀(x:ByteArray×ByteArray×Int×Int×Bool),Jxe l x→ByteArray.size (f1 (x,PUnit.unit))≤1000000)→Jpl l q2→Br (decide (m<Ln l)) (5=J3o f1 f2 m l) (J14 l q1∧∃(x:Nat),Si (Ln l) (0=Nc x∧Sf l ((fun(x:(ByteArray×ByteArray×Int×Int×Bool)×PUnit)=>q2 x)=q2∧(fun(x:(ByteArray×ByteArray×Int×Int×Bool)×PUnit)=>f2 x)=f2∧J30 f1 l=Jwg f1 l))∧J10 x l f1 f2∧∀(x:Nat),J10 x l f1 f2→Br (decide (Nc x<Ln l)) (Tw (Bd (Nc x) (Ln l))∧T2 (Bd (Nc x) (Kda f1 l)) (((0:Int)≤0∧0≤Nc x∧Nc x≤Kda f1 l)∧ByteArray.size (Kce f1 l x)≤1000000∧List.length (J3l x f1 l)≤1000000∧Jxd q2 l x∧2≤1000000)∧Br (J83 f1 l x f2 !=0) (J83 f1 l x f2=J3o f1 f2 m l) (Z1 x∧∃(y:Nat),Si (Ln l) (Z25 x y∧Sf l ((fun(x:(ByteArray×ByteArray×Int×Int×Bool)×PUnit)=>q2 x)=q2∧(fun(x:(ByteArray×ByteArray×Int×Int×Bool)×PUnit)=>f2 x)=f2∧Jwg f1 l=Jwg f1 l))∧J10 y l f1 f2∧Jxf l y x)) (0=J3o f1 f2 m l)))=_).mp ?_
 delta Z1 Z25 Z49 Jwo Jt4 J01 Jr4 J30 Jwg J0s J0r J0q Kda J3o J3l Kce Jxf Jxe Jpl J14 Jwb Jxd J10 J83 Br Iw Bd T2 Tw Sf Si Ln Nc B0 E2
 intro h1 hq1 hs hq2
 refine⟨fun h=> ?_,fun h=>⟨⟨h1,hq1⟩,(0:Nat),⟨rfl,rfl,rfl,rfl,rfl,rfl⟩,⟨Nat.zero_le _,rfl⟩,fun(k:Nat) hk=>⟨fun e=> ?_,fun e=> ?_⟩⟩⟩
 ·unfold J9;rw[show decide (m<(l.length:Int))=true from h];rfl
 ·have hlt:k<l.length:=by simpa using e
  have hd:=Hg (d:=dSw) (nm:=fun x=>f1 (x,())) (ck:=fun x=>f2 (x,())) hlt
  have en:(l.map fun x=>f1 (x,())).getD k ⟨⟨[]⟩⟩=f1 (l.getD k dSw,()):=Jdr hlt
  have hm:(l.map fun x=>f1 (x,())).length=l.length:=List.length_map _
  have hA:J9 (fun x=>f1 (x,())) (fun x=>f2 (x,())) m l=Ub (fun x=>f1 (x,())) (fun x=>f2 (x,())) [] l:=by
   unfold J9;rw[show decide (m<(l.length:Int))=false from h];rfl
  refine⟨⟨by omega,by omega⟩,⟨by rw[hm];omega,by rw[hm];omega,by rw[hm];omega, ?_, ?_,hq2 (l.getD k dSw) (Jj hlt),by decide⟩,fun g=> ?_,fun g=>⟨by omega,(k+1:Nat),⟨rfl,by simp,rfl,rfl,rfl,rfl⟩,⟨by omega, ?_⟩,by omega⟩⟩
  ·rw[en];exact hs _ (Jj hlt)
  ·rw[List.length_take];omega
  ·rw[en] at g
   rw[en,hA,hk.2,hd]
   exact(if_neg (Kh.1 g)).symm
  ·rw[en] at g
   rw[hk.2,hd]
   exact if_pos (Jz.1 g)
 ·have hge:¬k<l.length:=by simpa using e
  unfold J9;rw[show decide (m<(l.length:Int))=false from h]
  rw[List.drop_of_length_le (by omega)] at hk
  show 0=Ub _ _ [] l
  rw[hk.2];rfl
abbrev W85 [Sx.Dr]:=W84.add J7h
def Jua (a:Pm×Unit→Bt) (b:List Pm):=List.map (fun(x:ByteArray×Int)=>a (x,PUnit.unit)) b
def Keo (a:Pm×Unit→Bt) (b:List Pm):=Ln (Jua a b)
def J4c (a:Pm×Unit→Bt) (b:Pm×Unit→Int) (c:Int) (d:List Pm):=J9 (fun(x:ByteArray×Int)=>a (x,PUnit.unit)) (fun(x:ByteArray×Int)=>b (x,PUnit.unit)) c d
def J38 (a:Nat) (b:Pm×Unit→Bt) (c:List Pm):=List.take a (Jua b c)
def J9x (a:Pm×Unit→Bt) (b:List Pm) (c:Nat) (d:Pm×Unit→Int):=Ja [nmE (List.getD (Jua a b) c B0) (J38 c a b),d (Jwn b c)]
def J2b (a:Nat) (b:List Pm) (c:Pm×Unit→Bt) (d:Pm×Unit→Int):=Z57 a b∧Ub (fun(x:ByteArray×Int)=>c (x,PUnit.unit)) (fun(x:ByteArray×Int)=>d (x,PUnit.unit)) [] b=Ub (fun(x:ByteArray×Int)=>c (x,PUnit.unit)) (fun(x:ByteArray×Int)=>d (x,PUnit.unit)) (J38 a c b) (List.drop a b)
theorem J7c [Sx.Dr]:Ok Tryz.prog 113 (J8a 206 sPm):=okW W85 Tryz.f113 (fun xx=>Vi (Jo4 206 sPm xx.1 (fun x=>xx.2.2.1.2 (x,())) xx.2.2.2.1.1 xx.2.2.2.1.2)) fun xx=>by
 obtain⟨(l:List Pm),(m:Int),⟨(q1:Pm×Unit→List Prop),(f1:Pm×Unit→ByteArray)⟩,⟨(q2:Pm×Unit→List Prop),(f2:Pm×Unit→Int)⟩,_⟩:=xx
 refine(by kernel_rfl:(Z75 l→Jpm l q1→(∀(x:ByteArray×Int),Jxl l x→ByteArray.size (f1 (x,PUnit.unit))≤1000000)→Jpm l q2→Br (decide (m<Ln l)) (5=J4c f1 f2 m l) (J2m l q1∧∃(x:Nat),Si (Ln l) (0=Nc x∧Sf l ((fun(x:(ByteArray×Int)×PUnit)=>q2 x)=q2∧(fun(x:(ByteArray×Int)×PUnit)=>f2 x)=f2∧List.map (fun(x:ByteArray×Int)=>f1 (x,PUnit.unit)) l=Jua f1 l))∧J2b x l f1 f2∧∀(x:Nat),J2b x l f1 f2→Br (decide (Nc x<Ln l)) (Tw (Bd (Nc x) (Ln l))∧T2 (Bd (Nc x) (Keo f1 l)) (((0:Int)≤0∧0≤Nc x∧Nc x≤Keo f1 l)∧ByteArray.size (List.getD (Jua f1 l) x B0)≤1000000∧List.length (J38 x f1 l)≤1000000∧Jxm q2 l x∧2≤1000000)∧Br (J9x f1 l x f2 !=0) (J9x f1 l x f2=J4c f1 f2 m l) (Z1 x∧∃(y:Nat),Si (Ln l) (Z25 x y∧Sf l ((fun(x:(ByteArray×Int)×PUnit)=>q2 x)=q2∧(fun(x:(ByteArray×Int)×PUnit)=>f2 x)=f2∧Jua f1 l=Jua f1 l))∧J2b y l f1 f2∧Jxo l y x)) (0=J4c f1 f2 m l)))=_).mp ?_
 delta Z1 Z25 Z31 Z57 Z75 Jua Jwn Keo J4c J38 Jxo Jxm Jxl Jpm J2m J9x J2b Br Iw Bd T2 Tw Sf Si Ln Nc B0 E2
 intro h1 hq1 hs hq2
 refine⟨fun h=> ?_,fun h=>⟨⟨h1,hq1⟩,(0:Nat),⟨rfl,rfl,rfl,rfl,rfl,rfl⟩,⟨Nat.zero_le _,rfl⟩,fun(k:Nat) hk=>⟨fun e=> ?_,fun e=> ?_⟩⟩⟩
 ·unfold J9;rw[show decide (m<(l.length:Int))=true from h];rfl
 ·have hlt:k<l.length:=by simpa using e
  have hd:=Hg (d:=dPm) (nm:=fun x=>f1 (x,())) (ck:=fun x=>f2 (x,())) hlt
  have en:(l.map fun x=>f1 (x,())).getD k ⟨⟨[]⟩⟩=f1 (l.getD k dPm,()):=Jdr hlt
  have hm:(l.map fun x=>f1 (x,())).length=l.length:=List.length_map _
  have hA:J9 (fun x=>f1 (x,())) (fun x=>f2 (x,())) m l=Ub (fun x=>f1 (x,())) (fun x=>f2 (x,())) [] l:=by
   unfold J9;rw[show decide (m<(l.length:Int))=false from h];rfl
  refine⟨⟨by omega,by omega⟩,⟨by rw[hm];omega,by rw[hm];omega,by rw[hm];omega, ?_, ?_,hq2 (l.getD k dPm) (Jj hlt),by decide⟩,fun g=> ?_,fun g=>⟨by omega,(k+1:Nat),⟨rfl,by simp,rfl,rfl,rfl,rfl⟩,⟨by omega, ?_⟩,by omega⟩⟩
  ·rw[en];exact hs _ (Jj hlt)
  ·rw[List.length_take];omega
  ·rw[en] at g
   rw[en,hA,hk.2,hd]
   exact(if_neg (Kh.1 g)).symm
  ·rw[en] at g
   rw[hk.2,hd]
   exact if_pos (Jz.1 g)
 ·have hge:¬k<l.length:=by simpa using e
  unfold J9;rw[show decide (m<(l.length:Int))=false from h]
  rw[List.drop_of_length_le (by omega)] at hk
  show 0=Ub _ _ [] l
  rw[hk.2];rfl
abbrev W86 [Sx.Dr]:=W85.add J7c
def Yq (all:Bool) (x:Sw):Bool:=bif !(x.2.1.toList==Jkl.toList) then(bif x.2.2.2.2 then true else bif all then x.2.1.toList==Jsn.toList else false) else false
def Fd (o:List Int) (k:Int):List Int:=bif o.any (fun y=>k==y) then o else o++[k]
def Jkd (all:Bool) (s:Int) (o:List Int) (x:Sw):List Int:=(fun o1=>bif (bif Yq all x then x.2.2.2.1==s else false) then Fd o1 x.2.2.1 else o1) (bif (bif Yq all x then x.2.2.1==s else false) then Fd o x.2.2.2.1 else o)
def Lu (all:Bool) (s:Int) (sw:List Sw) (o:List Int):List Int:=sw.foldl (Jkd all s) o
def Dk (all:Bool) (sw:List Sw):Nat→Nat→List Int→List Int
 |0,_,o=>o
 |f+1,i,o=>if i<o.length then Dk all sw f (i+1) (Lu all (o.getD i 0) sw o) else o
def Jnm (y:Yd) (s:Int) (all:Bool):List Int:=Jb2 (Dk all y.2.1 (y.1.length+1) 0 [s])
def okN (n:Nat) (o:List Int):Prop:=o.Nodup∧∀x∈o,0≤x∧x<n
def Kfk (y:Yd):Prop:=∀x∈y.2.1,swE y x=0
theorem Jab {n:Nat} {o:List Int} (h:okN n o):o.length≤n:=by
 have:=Xo n (l:=o.map Int.toNat) (List.pairwise_map.2 (h.1.imp_of_mem fun{a b} ha hb q e=>q (by have h1:=h.2 a ha;have h2:=h.2 b hb;omega))) (fun p hp=>by
  obtain⟨x,hx,rfl⟩:=List.mem_map.1 hp
  have:=h.2 x hx;omega)
 simpa using this
theorem Jej {n:Nat} {o:List Int} {k:Int} (h:okN n o) (hk:0≤k∧k<n):okN n (Fd o k)∧∃t,Fd o k=o++t:=by
 unfold Fd
 cases e:o.any (fun y=>k==y) with
 |true=>exact⟨h,[],by simp⟩
 | false =>
  refine⟨⟨List.nodup_append.2 ⟨h.1,by simp,fun a ha b hb q=> ?_⟩,fun x hx=> ?_⟩,[k],rfl⟩
  ·have hb:b=k:=by simpa using hb
   have:=List.any_eq_false.1 e a ha
   rw[q,hb] at this
   simp at this
  ·rcases List.mem_append.1 hx with hx|hx
   ·exact h.2 x hx
   ·have:x=k:=by simpa using hx
    rw[this];exact hk
theorem Jc7 {y:Yd} {x:Sw} {all:Bool} (h:swE y x=0) (hj:Yq all x=true):Uq y x.2.2.1=true∧Uq y x.2.2.2.1=true:=by
 have he:(x.2.1.toList==Jkl.toList)=false:=by
  unfold Yq at hj
  cases e:(x.2.1.toList==Jkl.toList) with
  |false=>rfl
  |true=>rw[e] at hj;cases hj
 unfold swE at h
 rw[he] at h
 cases hk:D9 x.2.1 with
 |false=>rw[hk] at h;cases h
 | true =>
  rw[hk] at h
  cases a:Uq y x.2.2.1 with
  |false=>rw[a] at h;cases h
  |true=>
   cases b:Uq y x.2.2.2.1 with
   |false=>rw[a,b] at h;cases h
   |true=>exact⟨rfl,rfl⟩
theorem Y4 {y:Yd} {s:Int}:Uq y s=true↔0≤s∧s<y.1.length:=by
 unfold Uq
 by_cases h:0≤s
 ·rw[decide_eq_true h];simp[h]
 ·rw[decide_eq_false h];simp[h]
theorem Jp7 {y:Yd} {all:Bool} {s:Int} {o:List Int} {x:Sw} (hx:swE y x=0) (h:okN y.1.length o):okN y.1.length (Jkd all s o x)∧∃t,Jkd all s o x=o++t:=by
 unfold Jkd
 cases hj:Yq all x with
 |false=>exact⟨h,[],by simp⟩
 | true =>
  obtain⟨h1,h2⟩:=Jc7 hx hj
  have h1:=Y4.1 h1
  have h2:=Y4.1 h2
  have k1:okN y.1.length (bif x.2.2.1==s then Fd o x.2.2.2.1 else o)∧∃t,(bif x.2.2.1==s then Fd o x.2.2.2.1 else o)=o++t:=by
   cases(x.2.2.1==s) with
   |false=>exact⟨h,[],by simp⟩
   |true=>exact Jej h h2
  obtain⟨k1,t1,e1⟩:=k1
  show okN _ ((fun o1=>bif x.2.2.2.1==s then Fd o1 x.2.2.1 else o1) (bif x.2.2.1==s then Fd o x.2.2.2.1 else o))∧∃t,(fun o1=>bif x.2.2.2.1==s then Fd o1 x.2.2.1 else o1) (bif x.2.2.1==s then Fd o x.2.2.2.1 else o)=o++t
  generalize(bif x.2.2.1==s then Fd o x.2.2.2.1 else o)=o1 at*
  subst e1
  cases(x.2.2.2.1==s) with
  |false=>exact⟨k1,t1,rfl⟩
  |true=>
   obtain⟨k2,t2,e2⟩:=Jej k1 h1
   exact⟨k2,t1++t2,by show Fd _ _=_;rw[e2,List.append_assoc]⟩
theorem Jde {y:Yd} {all:Bool} {s:Int}:∀{l:List Sw} {o:List Int},(∀x∈l,swE y x=0)→okN y.1.length o→okN y.1.length (Lu all s l o)∧∃t,Lu all s l o=o++t
 |[],o,_,h=>⟨h,[],by simp[Lu]⟩
 |x::r,o,hx,h=>by
  obtain⟨h1,t1,e1⟩:=Jp7 (all:=all) (s:=s) (hx x (by simp)) h
  obtain⟨h2,t2,e2⟩:=Jde (all:=all) (s:=s) (l:=r) (fun z hz=>hx z (by simp[hz])) h1
  refine⟨h2,t1++t2, ?_⟩
  show Lu all s r (Jkd all s o x)=_
  rw[e2,e1,List.append_assoc]
theorem Jkj {all:Bool} {s:Int} {l:List Sw} {o:List Int} {k:Nat} (h:k<l.length):Lu all s (l.drop k) o=Lu all s (l.drop (k+1)) (Jkd all s o (l.getD k dSw)):=by
 rw[V4 (d:=dSw) h];rfl
theorem Jjx {all:Bool} {sw:List Sw} {f i:Nat} {o:List Int} (h:¬i<o.length):Dk all sw f i o=o:=by
 cases f with
 |zero=>rfl
 |succ f=>simp only[Dk];rw[if_neg h]
theorem Jot {all:Bool} {sw:List Sw} {f i:Nat} {o:List Int} (h:i<o.length):Dk all sw (f+1) i o=Dk all sw f (i+1) (Lu all (o.getD i 0) sw o):=by
 simp only[Dk];rw[if_pos h]
theorem Xa {o t:List Int} {i:Nat} (h:i<o.length):(o++t).getD i 0=o.getD i 0:=by
 simp[List.getD_eq_getElem?_getD,List.getElem?_append_left h]
def Kkp:Con:={args:=[],ress:=[],owns:=[],pre:=fun _=>[False],spec:=fun _=>(),prim:=some (Juj 3)}
theorem J54 [Sx.Dr]:Ok Tryz.prog 180 Kkp:=⟨⟨Tryz.f180,by kernel_rfl,by kernel_rfl,by kernel_rfl⟩,fun z hz=>(by cases hz),fun F hF=>(by cases hF;exact Jg9 fun g cap zs w hH hlt hn=>Tryz.slices_Sort_int g 0 cap zs w hH hlt hn),fun _ x M R w vs _ _ hpre _=>False.elim hpre⟩
abbrev W87 [Sx.Dr]:=W86.add J54
def Xf (y:Yd):Prop:=(y.1.length≤8∧y.2.1.length≤8)∧Kfk y
def Kga:Con:={args:=[aYd,aI,aB],ress:=[(false, .list 3 sI)],owns:=[],pre:=fun(y,s,_,_)=>[Xf y,Uq y s=true],spec:=fun(y,s,all,_)=>(Jnm y s all,())}
abbrev rsY (y:Yd):List (Nat×Res):=[(0, .imm 135 Jig y.1),(1, .imm 137 sSw y.2.1),(2, .imm 206 sPm y.2.2),(3, .box 100 [.sl 0, .sl 1, .sl 2])]
def Jhn (y:Yd) (s:Int) (all:Bool) (p:Nat×List Int):Prop:=okN y.1.length p.2∧p.1≤p.2.length∧Dk all y.2.1 (y.1.length+1) 0 [s]=Dk all y.2.1 (y.1.length+1-p.1) p.1 p.2
abbrev Jtv (y:Yd) (s:Int) (all:Bool):Nat→Option Ann:=fun id=>
 if id=0 then some {X:=Nat×List Int,σ:=fun p=>⟨6,[(2, .one (.bool all)),(3, .one (.ptr 3 0)),(7, .one (.ptr 5 0)),(8, .one (.int .i64 p.1))],rsY y++[(5, .box 23 [.sl 4]),(4, .own 3 sI p.2)]⟩,inv:=Jhn y s all,mu:=fun p=>y.1.length+1-p.1}
 else if id=4000005 then some {X:=Nat×List Int,σ:=fun p=>⟨11,[(2, .one (.bool all)),(3, .one (.ptr 3 0)),(7, .one (.ptr 5 0)),(8, .one (.int .i64 p.1)),(24, .one (.fv 10))],rsY y++[(5, .box 23 [.sl 4]),(10, .clo 190 [] [.one (.ptr 7 0), .one (.ptr 9 0), .one (.ptr 8 0)]),(7, .box 100 [.sl 0, .sl 1, .sl 2]),(8, .box 3 [.int .i64 (p.2.getD p.1 0)]),(9, .box 4 [.bool all]),(4, .own 3 sI p.2)]⟩,inv:=fun p=>p.1<p.2.length∧Jhn y s all p,mu:=fun _=>0,un:=7779,rel:=some fun a b=>b.1=a.1}
 else none
abbrev Jyx:Option Ann:=some {X:=Unit,σ:=fun _=>⟨0,[],[]⟩,inv:=fun _=>True,mu:=fun _=>0,un:=7777}
abbrev J5r (y:Yd) (p:Nat×Nat×List Int):List (Nat×SV):=[(0, .one (.fv 11)),(1, .one (.ptr 7 0)),(2, .one (.ptr 9 0)),(3, .one (.ptr 8 0)),(9, .one (.sl 1)),(10, .one (.int .i64 y.2.1.length)),(11, .one (.int .i64 p.1))]
abbrev J5t (y:Yd) (all:Bool) (p:Nat×Nat×List Int):List (Nat×Res):=rsY y++[(5, .box 23 [.sl 4]),(7, .box 100 [.sl 0, .sl 1, .sl 2]),(8, .box 3 [.int .i64 (p.2.2.getD p.2.1 0)]),(9, .box 4 [.bool all]),(11, .yld .ready),(12, .sus [(2, .one (.bool all)),(3, .one (.ptr 3 0)),(7, .one (.ptr 5 0)),(8, .one (.int .i64 p.2.1))])]
abbrev Jc6 (y:Yd) (p:Nat×Nat×List Int):Sw:=y.2.1.getD p.1 dSw
def Kfm (y:Yd) (s:Int) (all:Bool) (i:Nat) (k:Nat) (o:List Int):Prop:=Dk all y.2.1 (y.1.length+1) 0 [s]=Dk all y.2.1 (y.1.length+1-(i+1)) (i+1) (Lu all (o.getD i 0) (y.2.1.drop k) o)
def Jq7 (y:Yd) (s:Int) (all:Bool) (p:Nat×Nat×List Int):Prop:=okN y.1.length p.2.2∧p.1≤y.2.1.length∧p.2.1<p.2.2.length∧Kfm y s all p.2.1 p.1 p.2.2
def Jhf (y:Yd) (s:Int) (all:Bool) (p:Nat×Nat×List Int):Prop:=okN y.1.length p.2.2∧p.1<y.2.1.length∧p.2.1<p.2.2.length∧Dk all y.2.1 (y.1.length+1) 0 [s]=Dk all y.2.1 (y.1.length+1-(p.2.1+1)) (p.2.1+1) (Lu all (p.2.2.getD p.2.1 0) (y.2.1.drop (p.1+1)) (bif (bif Yq all (Jc6 y p) then(Jc6 y p).2.2.2.1==p.2.2.getD p.2.1 0 else false) then Fd p.2.2 (Jc6 y p).2.2.1 else p.2.2))
def Jyv (y:Yd) (s:Int) (all:Bool) (p:Nat×Nat×List Int):Prop:=okN y.1.length p.2.2∧p.1<y.2.1.length∧p.2.1<p.2.2.length∧Kfm y s all p.2.1 (p.1+1) p.2.2
abbrev xNb (y:Yd) (p:Nat×Nat×List Int):List (Nat×Res):=[(13, .box 137 [.str (Jc6 y p).1, .str (Jc6 y p).2.1, .int .i64 (Jc6 y p).2.2.1, .int .i64 (Jc6 y p).2.2.2.1, .bool (Jc6 y p).2.2.2.2])]
abbrev Jzy (y:Yd) (s:Int) (all:Bool):Nat→Option Ann:=fun id=>
 if id=0 then some {X:=Nat×Nat×List Int,σ:=fun p=>⟨13,J5r y p,J5t y all p++[(4, .own 3 sI p.2.2)]⟩,inv:=Jq7 y s all,mu:=fun p=>y.2.1.length-p.1,rel:=some fun a b=>b.2.1=a.2.1}
 else if id=4000004 then some {X:=Nat×Nat×List Int,σ:=fun p=>⟨14,J5r y p++[(6, .one (.ptr 13 0)),(7, .one (.bool (Yq all (Jc6 y p)))),(43, .one (.bool false))],J5t y all p++xNb y p++[(4, .own 3 sI p.2.2)]⟩,inv:=Jhf y s all,mu:=fun _=>0,un:=7779,rel:=some fun a b=>b.1=a.1∧b.2.1=a.2.1}
 else if id=4000005 then some {X:=Nat×Nat×List Int,σ:=fun p=>⟨13,J5r y p++[(57, .one (.bool false))],J5t y all p++[(4, .own 3 sI p.2.2)]⟩,inv:=Jyv y s all,mu:=fun _=>0,un:=7779,rel:=some fun a b=>b.1=a.1∧b.2.1=a.2.1}
 else if id=1000043∨id=1000057 then Jyx
 else none
def Z29 (a b:Nat×Nat×Li):=a.1=b.1∧a.2.1=b.2.1
def Z33 (a:Nat×Nat×Li):=List.getD a.2.2 a.2.1 0
def J06 (a b:Nat×Nat×Li):=Z33 a=Z33 b
def Kc3 (a:Yd) (b:Nat×Nat×Li):=List.getD a.2.1 b.1 Z49
def Kc1 (a:Yd) (b:Nat×Nat×Li):=(Kc3 a b).2
def J3k (a:Yd) (b:Nat×Nat×Li):=(Kc1 a b).1
def Kcu (a:Yd) (b:Nat×Nat×Li):=(Kc1 a b).2
def Kck (a:Yd) (b:Nat×Nat×Li):=(Kcu a b).1
def Kcj (a:Yd) (b:Nat×Nat×Li):=(Kcu a b).2
def J3e (a:Yd) (b:Nat×Nat×Li):=(Kcj a b).1
def Kcd (a:Yd) (b:Nat×Nat×Li):=(Kcj a b).2
def Kbr (a:Yd) (b c:Nat×Nat×Li):=(Kc3 a b).1=(Jc6 a c).1
def Kbm (a:Yd) (b c:Nat×Nat×Li):=J3k a b=(Jc6 a c).2.1
def Kbe (a:Yd) (b c:Nat×Nat×Li):=Kck a b=(Jc6 a c).2.2.1
def Kbb (a:Yd) (b c:Nat×Nat×Li):=J3e a b=(Jc6 a c).2.2.2.1
def Kba (a:Yd) (b c:Nat×Nat×Li):=Kcd a b=(Jc6 a c).2.2.2.2
def Kah (a:Yd) (b c:Nat×Nat×Li) (d:Bool):=a.1=a.1∧a.2.1=a.2.1∧a.2.2=a.2.2∧J06 b c∧Sf d (Sf d (Nc b.2.1=Nc c.2.1∧b.2.2=c.2.2))
def J9o (a:Bool) (b:Nat×Li) (c:Yd) (d:Int) (e:Nat×Li):=∃(y:Nat×List Int),Sf a (Nc b.1=Nc y.1∧c.1=c.1∧c.2.1=c.2.1∧c.2.2=c.2.2∧List.getD b.2 b.1 0=List.getD y.2 y.1 0∧Sf a (b.2=y.2))∧(y.1<List.length y.2∧Jhn c d a y)∧y.1=e.1
def J16 (a:Yd) (b:Nat×Nat×Li) (c:Bool) (d:Int) (e:Nat×Nat×Li):=∃(y:Nat×Nat×List Int),Si (Ln a.2.1) (Nc b.1=Nc y.1∧Sf false (Kah a b y c))∧Jyv a d c y∧Z29 y e
def J85 (a:Yd) (b:Nat×Nat×Li) (c:Bool):=bif !Lb (J3k a b) Jt5 then bif Kcd a b then true else bif c then Lb (J3k a b) Jwi else false else false
def J84 (a:Yd) (b:Nat×Nat×Li) (c:Bool) (d:Nat×Nat×Li):=J85 a b c=Yq c (Jc6 a d)
def J80 (a:Nat×Nat×Li) (b:Yd) (c:Bool) (d:Int) (e:Nat×Nat×Li):=List.length a.2.2≤1000000∧Br (!List.any a.2.2 fun(y:Int)=>(Jc6 b a).2.2.1==y) ((List.length a.2.2+1)*8≤140737488355328∧∃(y:Nat×Nat×List Int),Si (Ln b.2.1) (Nc a.1=Nc y.1∧Sf false (b.1=b.1∧b.2.1=b.2.1∧b.2.2=b.2.2∧J06 a y∧Sf c (Sf c (Nc a.2.1=Nc y.2.1∧a.2.2++[(Jc6 b a).2.2.1]=y.2.2))))∧Jyv b d c y∧Z29 y e) (J16 b a c d e)
def J1t (a:Yd) (b:Nat×Nat×Li) (c:Bool) (d:Int) (e:Nat×Nat×Li):=∃(y:Nat×Nat×List Int),Si (Ln a.2.1) (Nc b.1=Nc y.1∧J84 a b c y∧Sf false (a.1=a.1∧a.2.1=a.2.1∧a.2.2=a.2.2∧J06 b y∧Sf c (Sf c (Nc b.2.1=Nc y.2.1∧Kbr a b y∧Kbm a b y∧Kbe a b y∧Kbb a b y∧Kba a b y∧b.2.2=y.2.2))))∧Jhf a d c y∧Z29 y e
def J8j (a:Nat×Nat×Li) (b:Yd) (c:Bool) (d:Int) (e:Nat×Nat×Li):=List.length a.2.2≤1000000∧Br (!List.any a.2.2 fun(y:Int)=>J3e b a==y) ((List.length a.2.2+1)*8≤140737488355328∧∃(y:Nat×Nat×List Int),Si (Ln b.2.1) (Nc a.1=Nc y.1∧J84 b a c y∧Sf false (b.1=b.1∧b.2.1=b.2.1∧b.2.2=b.2.2∧J06 a y∧Sf c (Sf c (Nc a.2.1=Nc y.2.1∧Kbr b a y∧Kbm b a y∧Kbe b a y∧Kbb b a y∧Kba b a y∧a.2.2++[J3e b a]=y.2.2))))∧Jhf b d c y∧Z29 y e) (J1t b a c d e)
theorem J43 [Sx.Dr] (y:Yd) (s:Int) (all:Bool):wpFG Tryz.prog W87.g (Jtv y s all) (fun f=>if f=190 then Jzy y s all else na ()) (Sx.look ([(178,Tryz.f178),(190,Tryz.f190)]:List (Nat×Func))) Tryz.f157 Kga (y,s,all,()):=by
 refine(by kernel_rfl:(Xf y→Uq y s=true→∃(x:Nat×List Int),Sf all (0=Nc x.1∧y.1=y.1∧y.2.1=y.2.1∧y.2.2=y.2.2∧[s]=x.2)∧Jhn y s all x∧∀(x:Nat×List Int),Jhn y s all x→Br (decide (Nc x.1<Ln x.2)) (∃(x0:Nat×List Int),T2 (T2 (Bd (Nc x.1) (Ln x.2)) (J9o all x y s x0)) (Bd (Nc x.1) (Ln x.2)∧Tw (Bd (Nc x.1) (Ln x.2)∧J9o all x y s x0))∧∀(y_1:Nat×List Int),(y_1.1<List.length y_1.2∧Jhn y s all y_1)∧y_1.1=x0.1→∃(x0:Nat×Nat×List Int),Si (Ln y.2.1) (0=Nc x0.1∧y.1=y.1∧y.2.1=y.2.1∧y.2.2=y.2.2∧List.getD y_1.2 y_1.1 0=Z33 x0∧Sf all (Sf all (Nc y_1.1=Nc x0.2.1∧y_1.2=x0.2.2)))∧(Jq7 y s all x0∧x0.2.1=x0.2.1)∧∀(x_1:Nat×Nat×List Int),Jq7 y s all x_1∧x_1.2.1=x0.2.1→Br (decide (Nc x_1.1<Ln y.2.1)) (Tw (Bd (Nc x_1.1) (Ln y.2.1))∧∃(x0_1:Nat×Nat×List Int),Br (J85 y x_1 all) (Br (Kck y x_1==Z33 x_1) (J8j x_1 y all s x0_1) (J1t y x_1 all s x0_1)) (Br false (J8j x_1 y all s x0_1) (J1t y x_1 all s x0_1))∧∀(y_2:Nat×Nat×List Int),Jhf y s all y_2∧Z29 y_2 x0_1→∃(x0_2:Nat×Nat×List Int),Br (Yq all (Jc6 y y_2)) (Br ((Jc6 y y_2).2.2.2.1==Z33 y_2) (J80 y_2 y all s x0_2) (J16 y y_2 all s x0_2)) (Br false (J80 y_2 y all s x0_2) (J16 y y_2 all s x0_2))∧∀(y_3:Nat×Nat×List Int),Jyv y s all y_3∧Z29 y_3 x0_2→Iw (Nc y_3.1+1)∧∃(y_4:Nat×Nat×List Int),Si (Ln y.2.1) (Nc y_3.1+1=Nc y_4.1∧Kah y y_3 y_4 all)∧(Jq7 y s all y_4∧y_4.2.1=x0.2.1)∧List.length y.2.1-y_4.1<List.length y.2.1-x_1.1) (Iw (Nc x_1.2.1+1)∧∃(y_2:Nat×List Int),Sf all (Nc x_1.2.1+1=Nc y_2.1∧y.1=y.1∧y.2.1=y.2.1∧y.2.2=y.2.2∧x_1.2.2=y_2.2)∧Jhn y s all y_2∧List.length y.1+1-y_2.1<List.length y.1+1-x.1)) ((0<List.length x.2∧List.length x.2≤1000000)∧Sf true (Jb2 x.2=Jnm y s all)))=_).mp ?_
 delta Z29 Z33 Z49 J06 Jt5 Jwi Kc3 Kc1 J3k Kcu Kck Kcj J3e Kcd Kbr Kbm Kbe Kbb Kba Kah J9o J16 J85 J84 J80 J1t J8j Br Iw Bd T2 Tw Sf Si Ln Nc B0 Lb
 intro hy hs
 obtain⟨⟨n1,n2⟩,n3⟩:=hy
 have hs:=Y4.1 hs
 refine⟨((0:Nat),[s]),⟨rfl,rfl,rfl,rfl,rfl,rfl⟩,⟨⟨by simp,fun x hx=>by
  have:x=s:=by simpa using hx
  rw[this];exact hs⟩,Nat.zero_le _,rfl⟩, ?_⟩
 rintro⟨i,o⟩ ⟨h1,h2,h3⟩
 dsimp only at h1 h2 h3⊢
 have hl:=Jab h1
 refine⟨fun e=> ?_,fun e=> ?_⟩
 ·have hlt:i<o.length:=by simpa using e
  have b:0≤(i:Int)∧(i:Int)<o.length:=by omega
  refine⟨(i,o),⟨⟨b,b,(i,o),⟨rfl,rfl,rfl,rfl,rfl,rfl,rfl,rfl⟩,⟨hlt,h1,h2,h3⟩,rfl⟩,⟨b,b,(i,o),⟨rfl,rfl,rfl,rfl,rfl,rfl,rfl,rfl⟩,⟨hlt,h1,h2,h3⟩,rfl⟩,b,⟨b,(i,o),⟨rfl,rfl,rfl,rfl,rfl,rfl,rfl,rfl⟩,⟨hlt,h1,h2,h3⟩,rfl⟩,b,(i,o),⟨rfl,rfl,rfl,rfl,rfl,rfl,rfl,rfl⟩,⟨hlt,h1,h2,h3⟩,rfl⟩, ?_⟩
  rintro⟨i',o'⟩ ⟨⟨g1,g2,g3,g4⟩,g5⟩
  have g5:i'=i:=g5
  subst g5
  dsimp only at g1 g2 g3 g4⊢
  have gl:=Jab g2
  refine⟨((0:Nat),i',o'),⟨rfl,rfl,rfl,rfl,rfl,rfl,rfl,rfl,rfl,rfl⟩,⟨⟨g2,Nat.zero_le _,g1, ?_⟩,rfl⟩, ?_⟩
  ·show Dk all y.2.1 (y.1.length+1) 0 [s]=_
   rw[g4,show y.1.length+1-i'=(y.1.length+1-(i'+1))+1 by omega,Jot g1];rfl
  rintro⟨k,j,q⟩ ⟨⟨m1,m2,m3,m4⟩,m5⟩
  have m5:j=i':=m5
  subst m5
  dsimp only at m1 m2 m3 m4⊢
  have ml:=Jab m1
  refine⟨fun e=> ?_,fun e=> ?_⟩
  ·have hk:k<y.2.1.length:=by simpa using e
   have c:0≤(k:Int)∧(k:Int)<y.2.1.length:=by omega
   have hx:=n3 _ (Jj (d:=dSw) hk)
   have M:∀o1 t,o1=q++t→okN y.1.length o1→o1=(bif (bif Yq all (y.2.1.getD k dSw) then(y.2.1.getD k dSw).2.2.1==q.getD j 0 else false) then Fd q (y.2.1.getD k dSw).2.2.2.1 else q)→Jhf y s all (k,j,o1):=fun o1 t et ho eo=>by
    have eg:o1.getD j 0=q.getD j 0:=by rw[et];exact Xa m3
    refine⟨ho,hk,by show j<o1.length;rw[et,List.length_append];omega, ?_⟩
    show Dk all y.2.1 (y.1.length+1) 0 [s]=Dk all y.2.1 (y.1.length+1-(j+1)) (j+1) (Lu all (o1.getD j 0) (y.2.1.drop (k+1)) (bif (bif Yq all (y.2.1.getD k dSw) then(y.2.1.getD k dSw).2.2.2.1==o1.getD j 0 else false) then Fd o1 (y.2.1.getD k dSw).2.2.1 else o1))
    rw[eg,m4,Jkj hk,eo];rfl
   have NJ:Yq all (y.2.1.getD k dSw)=false→Jhf y s all (k,j,q):=fun hj=>M q [] (by simp) m1 (by rw[hj];rfl)
   have NA:((y.2.1.getD k dSw).2.2.1==q.getD j 0)=false→Jhf y s all (k,j,q):=fun ha=>M q [] (by simp) m1 (by rw[ha];cases Yq all (y.2.1.getD k dSw)<;>rfl)
   refine⟨⟨c,c⟩,(k,j,q),⟨⟨fun hj=>⟨fun ha=>⟨by omega,fun hc=>⟨by omega,(k,j,q++[(y.2.1.getD k dSw).2.2.2.1]),⟨rfl,rfl,rfl,rfl,rfl,rfl,rfl,(Xa m3).symm,rfl,rfl,rfl,rfl,rfl,rfl,rfl,rfl,rfl⟩, ?_,rfl,rfl⟩,fun hc=>⟨(k,j,q),⟨rfl,rfl,rfl,rfl,rfl,rfl,rfl,rfl,rfl,rfl,rfl,rfl,rfl,rfl,rfl,rfl,rfl⟩, ?_,rfl,rfl⟩⟩,fun ha=>⟨(k,j,q),⟨rfl,rfl,rfl,rfl,rfl,rfl,rfl,rfl,rfl,rfl,rfl,rfl,rfl,rfl,rfl,rfl,rfl⟩,NA ha,rfl,rfl⟩⟩,fun hj=>⟨fun h=>(by cases h),fun _=>⟨(k,j,q),⟨rfl,rfl,rfl,rfl,rfl,rfl,rfl,rfl,rfl,rfl,rfl,rfl,rfl,rfl,rfl,rfl,rfl⟩,NJ hj,rfl,rfl⟩⟩⟩, ?_⟩⟩
   ·have hj:Yq all (y.2.1.getD k dSw)=true:=hj
    have hc:(!q.any fun z=>(y.2.1.getD k dSw).2.2.2.1==z)=true:=hc
    have ha:((y.2.1.getD k dSw).2.2.1==q.getD j 0)=true:=ha
    have ea:Fd q (y.2.1.getD k dSw).2.2.2.1=q++[(y.2.1.getD k dSw).2.2.2.1]:=by
     unfold Fd;rw[show(q.any fun z=>(y.2.1.getD k dSw).2.2.2.1==z)=false by simpa using hc];rfl
    have:=(Jej m1 (Y4.1 (Jc7 hx hj).2)).1
    rw[ea] at this
    exact M _ _ rfl this (by rw[hj,ha];exact ea.symm)
   ·have hj:Yq all (y.2.1.getD k dSw)=true:=hj
    have hc:(!q.any fun z=>(y.2.1.getD k dSw).2.2.2.1==z)=false:=hc
    have ha:((y.2.1.getD k dSw).2.2.1==q.getD j 0)=true:=ha
    have ea:Fd q (y.2.1.getD k dSw).2.2.2.1=q:=by
     unfold Fd;rw[show(q.any fun z=>(y.2.1.getD k dSw).2.2.2.1==z)=true by simpa using hc];rfl
    exact M q [] (by simp) m1 (by rw[hj,ha];exact ea.symm)
   rintro⟨k',j',q'⟩ ⟨⟨p1,p2,p3,p4⟩,p5,p6⟩
   have p5:k'=k:=p5
   have p6:j'=j:=p6
   subst p5;subst p6
   dsimp only at p1 p2 p3 p4⊢
   have pl:=Jab p1
   have M2:∀o1 t,o1=q'++t→okN y.1.length o1→o1=(bif (bif Yq all (y.2.1.getD k' dSw) then(y.2.1.getD k' dSw).2.2.2.1==q'.getD j' 0 else false) then Fd q' (y.2.1.getD k' dSw).2.2.1 else q')→Jyv y s all (k',j',o1):=fun o1 t et ho eo=>by
    have eg:o1.getD j' 0=q'.getD j' 0:=by rw[et];exact Xa p3
    refine⟨ho,p2,by show j'<o1.length;rw[et,List.length_append];omega, ?_⟩
    show Dk all y.2.1 (y.1.length+1) 0 [s]=Dk all y.2.1 (y.1.length+1-(j'+1)) (j'+1) (Lu all (o1.getD j' 0) (y.2.1.drop (k'+1)) o1)
    rw[eg,p4,eo]
   refine⟨(k',j',q'),⟨⟨fun hj=>⟨fun ha=>⟨by omega,fun hc=>⟨by omega,(k',j',q'++[(y.2.1.getD k' dSw).2.2.1]),⟨rfl,rfl,rfl,rfl,rfl,rfl,(Xa p3).symm,rfl,rfl,rfl,rfl⟩, ?_,rfl,rfl⟩,fun hc=>⟨(k',j',q'),⟨rfl,rfl,rfl,rfl,rfl,rfl,rfl,rfl,rfl,rfl,rfl⟩, ?_,rfl,rfl⟩⟩,fun ha=>⟨(k',j',q'),⟨rfl,rfl,rfl,rfl,rfl,rfl,rfl,rfl,rfl,rfl,rfl⟩,M2 q' [] (by simp) p1 ?_,rfl,rfl⟩⟩,fun hj=>⟨fun h=>(by cases h),fun _=>⟨(k',j',q'),⟨rfl,rfl,rfl,rfl,rfl,rfl,rfl,rfl,rfl,rfl,rfl⟩,M2 q' [] (by simp) p1 ?_,rfl,rfl⟩⟩⟩, ?_⟩⟩
   ·have hc:(!q'.any fun z=>(y.2.1.getD k' dSw).2.2.1==z)=true:=hc
    have hj:Yq all (y.2.1.getD k' dSw)=true:=hj
    have ha:((y.2.1.getD k' dSw).2.2.2.1==q'.getD j' 0)=true:=ha
    have ea:Fd q' (y.2.1.getD k' dSw).2.2.1=q'++[(y.2.1.getD k' dSw).2.2.1]:=by
     unfold Fd;rw[show(q'.any fun z=>(y.2.1.getD k' dSw).2.2.1==z)=false by simpa using hc];rfl
    have:=(Jej p1 (Y4.1 (Jc7 hx hj).1)).1
    rw[ea] at this
    exact M2 _ _ rfl this (by rw[hj,ha];exact ea.symm)
   ·have hc:(!q'.any fun z=>(y.2.1.getD k' dSw).2.2.1==z)=false:=hc
    have hj:Yq all (y.2.1.getD k' dSw)=true:=hj
    have ha:((y.2.1.getD k' dSw).2.2.2.1==q'.getD j' 0)=true:=ha
    have ea:Fd q' (y.2.1.getD k' dSw).2.2.1=q':=by
     unfold Fd;rw[show(q'.any fun z=>(y.2.1.getD k' dSw).2.2.1==z)=true by simpa using hc];rfl
    exact M2 q' [] (by simp) p1 (by rw[hj,ha];exact ea.symm)
   ·have ha:((y.2.1.getD k' dSw).2.2.2.1==q'.getD j' 0)=false:=ha
    rw[ha];cases Yq all (y.2.1.getD k' dSw)<;>rfl
   ·have hj:Yq all (y.2.1.getD k' dSw)=false:=hj
    rw[hj];rfl
   rintro⟨k2,j2,q2⟩ ⟨⟨r1,r2,r3,r4⟩,r5,r6⟩
   have r5:k2=k':=r5
   have r6:j2=j':=r6
   subst r5;subst r6
   dsimp only at r1 r2 r3 r4⊢
   exact⟨by omega,(k2+1,j2,q2),⟨rfl,rfl,rfl,rfl,rfl,rfl,rfl,rfl,rfl,rfl⟩,⟨⟨r1,r2,r3,r4⟩,rfl⟩,by omega⟩
  ·have hk:¬k<y.2.1.length:=by simpa using e
   refine⟨by omega,(j+1,q),⟨rfl,rfl,rfl,rfl,rfl,rfl⟩,⟨m1,by show j+1≤q.length;omega, ?_⟩,by show y.1.length+1-(j+1)<_;omega⟩
   show Dk all y.2.1 (y.1.length+1) 0 [s]=_
   have m4:Dk all y.2.1 (y.1.length+1) 0 [s]=Dk all y.2.1 (y.1.length+1-(j+1)) (j+1) (Lu all (q.getD j 0) (y.2.1.drop k) q):=m4
   rw[m4,List.drop_of_length_le (by omega)];rfl
 ·have hge : ¬ i < o.length := by simpa using e
  have h0 : 0 < o.length := by
   rcases Nat.eq_zero_or_pos o.length with h0|h0
   ·have:i=0:=by omega
    subst this
    have eo:=List.eq_nil_of_length_eq_zero h0
    subst eo
    have h3:Dk all y.2.1 (y.1.length+1) 0 [s]=Dk all y.2.1 (y.1.length+1) 0 []:=h3
    rw[Jjx (o:=[]) (by simp)] at h3
    exfalso
    have:∀(f i:Nat) (o:List Int),Dk all y.2.1 f i o=[]→okN y.1.length o→o=[]:=fun f=>by
     induction f with
     |zero=>exact fun i o h _=>h
     | succ f ih =>
      intro i o h ho
      simp only[Dk] at h
      split at h
      ·obtain⟨q1,t,q2⟩:=Jde (all:=all) (s:=o.getD i 0) n3 ho
       have:=ih _ _ h q1
       rw[q2] at this
       exact(List.append_eq_nil_iff.1 this).1
      ·exact h
    have:=this _ _ _ h3 ⟨by simp,fun x hx=>by
     have:x=s:=by simpa using hx
     rw[this];exact hs⟩
    cases this
   ·exact h0
  refine⟨⟨h0,by omega⟩,rfl, ?_⟩
  unfold Jnm
  rw[h3,Jjx hge]
theorem J6i [Sx.Dr]:Ok Tryz.prog 157 Kga:=Vz mixed W87.ok (by kernel_rfl) (by kernel_rfl) (H2 (l:=([(178,Tryz.f178),(190,Tryz.f190)]:List (Nat×Func))) (List.forall_mem_cons.2 ⟨by kernel_rfl,List.forall_mem_cons.2 ⟨by kernel_rfl,by simp⟩⟩)) (fun xx=>Jtv xx.1 xx.2.1 xx.2.2.1) (fun xx=>fun f=>if f=190 then Jzy xx.1 xx.2.1 xx.2.2.1 else na ()) fun xx=>J43 xx.1 xx.2.1 xx.2.2.1
abbrev W88 [Sx.Dr]:=W87.add J6i
def Jx4 (y:Yd) (i:Int):Bool:=(y.1.getD i.toNat Jxb).2
def Jw9 (y:Yd) (l:List Int):Bool:=l.any (Jx4 y)
theorem J4x [Sx.Dr] (i:Int) (y:Yd):wpF Tryz.prog W88.g (na ()) Tryz.f177 ({args:=[aI, .ref 100 sYd],ress:=[Bo],owns:=[],pre:=fun(i,y,_)=>[Uq y i=true],spec:=fun(i,y,_)=>(Jx4 y i,())}) (i,y,()):=by
 refine(by kernel_rfl:(Uq y i=true→Tw (Bd i (Z27 y))∧(Gt y.1 i (B0,false)).2=Jx4 y i)=_).mp ?_
 delta Z27 Bd Tw Ln Gt B0
 intro h
 have:=Y4.1 h
 exact⟨⟨this,this⟩,rfl⟩
theorem J56 [Sx.Dr]:Ok Tryz.prog 177 ({args:=[aI, .ref 100 sYd],ress:=[Bo],owns:=[],pre:=fun(i,y,_)=>[Uq y i=true],spec:=fun(i,y,_)=>(Jx4 y i,())}):=Je mixed W88.ok (by kernel_rfl) (by kernel_rfl) na fun xx=>J4x xx.1 xx.2.1
abbrev W89 [Sx.Dr]:=W88.add J56
def Kgc:Con:={args:=[aYd, .val false (.list 3 sI)],ress:=[Bo],owns:=[],pre:=fun(y,l,_)=>[l.length≤1000000,∀i∈l,Uq y i=true],spec:=fun(y,l,_)=>(Jw9 y l,())}
def Jek (a:Yd) (b:Int):=Uq (Vb a) b=true
theorem J44 [Sx.Dr] (y:Yd) (l:List Int):wpF Tryz.prog W89.g (na ()) Tryz.f156 Kgc (y,l,()):=by
 refine(by kernel_rfl:(Z12 l→(∀(i:Int),Z85 l i→Uq y i=true)→(Z12 l∧∀(x:Int),Z85 l x→Jek y x)∧(List.any l fun(x:Int)=>Jx4 (Vb y) x)=Jw9 y l)=_).mp ?_
 delta Z12 Z85 Vb Jek E2
 exact fun h1 h2=>⟨⟨h1,h2⟩,rfl⟩
theorem J6j [Sx.Dr]:Ok Tryz.prog 156 Kgc:=Je mixed W89.ok (by kernel_rfl) (by kernel_rfl) na fun xx=>J44 xx.1 xx.2.1
abbrev W90 [Sx.Dr]:=W89.add J6j
def enB (y:Yd) (s:Int):Bool:=Jw9 y (Jnm y s false)
def Jul (y:Yd) (s:Int):Bool:= !Jw9 y (Jnm y s true)
def Jyw (l:List Int) (x:Sw):Bool:=bif (bif x.2.1.toList==Jkl.toList then x.2.2.2.2 else false) then l.any (fun z=>x.2.2.1==z) else false
def Jxa (y:Yd) (s:Int):Bool:=y.2.1.any (Jyw (Jnm y s false))
def Jpi (y:Yd) (s:Int):Bool:=bif Jul y s then Jxa y s else false
theorem Jou {y:Yd} {all:Bool} (h:Kfk y):∀(f i:Nat) {o:List Int},okN y.1.length o→okN y.1.length (Dk all y.2.1 f i o)
 |0,_,_,ho=>ho
 |f+1,i,o,ho=>by
  simp only[Dk]
  split
  ·exact Jou h f (i+1) (Jde h ho).1
  ·exact ho
theorem Jao {y:Yd} {s:Int} {all:Bool} (h:Xf y) (hs:Uq y s=true):(Jnm y s all).length≤1000000∧∀i∈Jnm y s all,Uq y i=true:=by
 have h1:=Jou (all:=all) h.2 (y.1.length+1) 0 (o:=[s]) ⟨by simp,fun x hx=>by
  have:x=s:=by simpa using hx
  rw[this];exact Y4.1 hs⟩
 have hl:=Jab h1
 have hn:=h.1.1
 refine⟨?_,fun i hi=> ?_⟩
 ·unfold Jnm;rw[(Xg _).length_eq];omega
 ·exact Y4.2 (h1.2 i ((Xg _).mem_iff.1 hi))
def Jtn (f:Yd→Int→Bool):Con:={args:=[aYd,aI],ress:=[Bo],owns:=[],pre:=fun(y,s,_)=>[Xf y,Uq y s=true],spec:=fun(y,s,_)=>(f y s,())}
def Zo (a:Yd):=Xf (Vb a)
def Jxi (a:Yd) (b:Int):=Jnm (Vb a) b false
def J2u (a:Yd) (b:Int):=List.length (Jxi a b)≤1000000
theorem J5c [Sx.Dr] (y:Yd) (s:Int):wpF Tryz.prog W90.g (na ()) Tryz.f122 (Jtn enB) (y,s,()):=by
 refine(by kernel_rfl:(Xf y→Uq y s=true→(Zo y∧Jek y s∧J2u y s∧∀(i:Int),i∈Jxi y s→Jek y i)∧Jw9 (Vb y) (Jxi y s)=enB y s)=_).mp ?_
 delta Vb Zo Jxi Jek J2u E2
 exact fun h1 h2=>⟨⟨h1,h2,(Jao h1 h2).1,(Jao h1 h2).2⟩,rfl⟩
theorem J64 [Sx.Dr]:Ok Tryz.prog 122 (Jtn enB):=Je mixed W90.ok (by kernel_rfl) (by kernel_rfl) na fun xx=>J5c xx.1 xx.2.1
abbrev W91 [Sx.Dr]:=W90.add J64
def J3b (a:Yd) (b:Int):=Jnm (Vb a) b true
theorem J48 [Sx.Dr] (y:Yd) (s:Int):wpF Tryz.prog W91.g (na ()) Tryz.f126 (Jtn Jul) (y,s,()):=by
 refine(by kernel_rfl:(Xf y→Uq y s=true→(Zo y∧Jek y s∧List.length (J3b y s)≤1000000∧∀(i:Int),i∈J3b y s→Jek y i)∧(!Jw9 (Vb y) (J3b y s))=Jul y s)=_).mp ?_
 delta Vb Zo J3b Jek E2
 exact fun h1 h2=>⟨⟨h1,h2,(Jao h1 h2).1,(Jao h1 h2).2⟩,rfl⟩
theorem J60 [Sx.Dr]:Ok Tryz.prog 126 (Jtn Jul):=Je mixed W91.ok (by kernel_rfl) (by kernel_rfl) na fun xx=>J48 xx.1 xx.2.1
abbrev W92 [Sx.Dr]:=W91.add J60
def Kc4 (a:Sw):=bif Jwj a then a.2.2.2.2 else false
theorem J4w [Sx.Dr] (x:Sw) (l:List Int):wpF Tryz.prog W92.g (na ()) Tryz.f182 ({args:=[.val true sSw, .ref 23 (.list 3 sI)],ress:=[Bo],owns:=[],pre:=fun(_,l,_)=>[l.length≤1000000],spec:=fun(x,l,_)=>(Jyw l x,())}) (x,l,()):=by
 refine(by kernel_rfl:(Z12 l→(Kc4 x=true→Z12 l)∧(bif Kc4 x then List.any l fun(y:Int)=>x.2.2.1==y else false)=Jyw l x)=_).mp ?_
 delta Z12 Jt5 Jwj Kc4 Lb
 exact fun h=>⟨fun _=>h,rfl⟩
theorem J52 [Sx.Dr]:Ok Tryz.prog 182 ({args:=[.val true sSw, .ref 23 (.list 3 sI)],ress:=[Bo],owns:=[],pre:=fun(_,l,_)=>[l.length≤1000000],spec:=fun(x,l,_)=>(Jyw l x,())}):=Je mixed W92.ok (by kernel_rfl) (by kernel_rfl) na fun xx=>J4w xx.1 xx.2.1
abbrev W93 [Sx.Dr]:=W92.add J52
def Jt6 (a:Yd):=List.length a.2.1
def Jpn (a:Yd):=Jt6 a≤1000000
def Jwc (a:Yd) (b:Bt×Bt×Int×Int×Bool):=b∈a.2.1
def J0c (a:Yd) (b:Int):=Zo a∧Jek a b
theorem J41 [Sx.Dr] (y:Yd) (s:Int):wpF Tryz.prog W93.g (na ()) Tryz.f159 (Jtn Jxa) (y,s,()):=by
 refine(by kernel_rfl:(Xf y→Uq y s=true→J0c y s∧(Jpn y∧∀(x:ByteArray×ByteArray×Int×Int×Bool),Jwc y x→J2u y s)∧(List.any y.2.1 fun(x:ByteArray×ByteArray×Int×Int×Bool)=>Jyw (Jxi y s) x)=Jxa y s)=_).mp ?_
 delta Jt6 Jpn Vb Zo Jxi Jek J2u Jwc J0c E2
 exact fun h1 h2=>⟨⟨h1,h2⟩,⟨Nat.le_trans h1.1.2 (by decide),fun _ _=>(Jao h1 h2).1⟩,rfl⟩
theorem J6g [Sx.Dr]:Ok Tryz.prog 159 (Jtn Jxa):=Je mixed W93.ok (by kernel_rfl) (by kernel_rfl) na fun xx=>J41 xx.1 xx.2.1
abbrev W94 [Sx.Dr]:=W93.add J6g
def J3h (a:Yd) (b:Int):=Jxa (Vb a) b
def Kci (a:Yd) (b:Int):=Jul (Vb a) b
def Kb4 (a:Yd) (b:Int):=Kci a b=true
theorem J4z [Sx.Dr] (y:Yd) (s:Int):wpF Tryz.prog W94.g (na ()) Tryz.f162 (Jtn Jpi) (y,s,()):=by
 refine(by kernel_rfl:(Xf y→Uq y s=true→(Zo y∧Jek y s∧(Kb4 y s→Zo y)∧(Kb4 y s→Jek y s))∧(bif Kci y s then J3h y s else false)=Jpi y s)=_).mp ?_
 delta Vb Zo J3h Kci Jek Kb4 E2
 exact fun h1 h2=>⟨⟨h1,h2,fun _=>h1,fun _=>h2⟩,rfl⟩
theorem J6d [Sx.Dr]:Ok Tryz.prog 162 (Jtn Jpi):=Je mixed W94.ok (by kernel_rfl) (by kernel_rfl) na fun xx=>J4z xx.1 xx.2.1
abbrev W95 [Sx.Dr]:=W94.add J6d
def shB (y:Yd) (i:Int):Bool:=bif enB y i then Jxa y i else false
def Jmy (n:Nat):List Int:=(List.range n).map Int.ofNat
def Vu (f:Int→Bool) (n:Nat):List Int:=(Jmy n).filter f
def V7 (y:Yd):Bool:=decide (0<((Vu (shB y) y.1.length).length:Int))
def L0 (y:Yd):Bool:=y.2.2.any fun x=> !Jpi y x.2
def Jez (y:Yd):Bool:=bif !V7 y then !L0 y else false
def J0n (a:Yd) (b:Int):=enB (Vb a) b
def Kb5 (a:Yd) (b:Int):=J0n a b=true
theorem J42 [Sx.Dr] (s:Int) (y:Yd):wpF Tryz.prog W95.g (na ()) Tryz.f158 ({args:=[aI, .ref 100 sYd],ress:=[Bo],owns:=[],pre:=fun(s,y,_)=>[Xf y,Uq y s=true],spec:=fun(s,y,_)=>(shB y s,())}) (s,y,()):=by
 refine(by kernel_rfl:(Xf y→Uq y s=true→(Zo y∧Jek y s∧(Kb5 y s→Zo y)∧(Kb5 y s→Jek y s))∧(bif J0n y s then J3h y s else false)=shB y s)=_).mp ?_
 delta Vb Zo J0n J3h Kb5 Jek E2
 exact fun h1 h2=>⟨⟨h1,h2,fun _=>h1,fun _=>h2⟩,rfl⟩
theorem J6h [Sx.Dr]:Ok Tryz.prog 158 ({args:=[aI, .ref 100 sYd],ress:=[Bo],owns:=[],pre:=fun(s,y,_)=>[Xf y,Uq y s=true],spec:=fun(s,y,_)=>(shB y s,())}):=Je mixed W95.ok (by kernel_rfl) (by kernel_rfl) na fun xx=>J42 xx.1 xx.2.1
abbrev W96 [Sx.Dr]:=W95.add J6h
theorem J40 [Sx.Dr] (x:Pm) (y:Yd):wpF Tryz.prog W96.g (na ()) Tryz.f161 ({args:=[.val true sPm, .ref 100 sYd],ress:=[Bo],owns:=[],pre:=fun(x,y,_)=>[Xf y,Uq y x.2=true],spec:=fun(x,y,_)=>(!Jpi y x.2,())}) (x,y,()):=by
 refine(by kernel_rfl:(Xf y→Uq y x.2=true→(Zo y∧J3d y x=true)∧(!Jpi (Vb y) x.2)= !Jpi y x.2)=_).mp ?_
 delta Vb Zo J3d E2
 exact fun h1 h2=>⟨⟨h1,h2⟩,rfl⟩
theorem J6e [Sx.Dr]:Ok Tryz.prog 161 ({args:=[.val true sPm, .ref 100 sYd],ress:=[Bo],owns:=[],pre:=fun(x,y,_)=>[Xf y,Uq y x.2=true],spec:=fun(x,y,_)=>(!Jpi y x.2,())}):=Je mixed W96.ok (by kernel_rfl) (by kernel_rfl) na fun xx=>J40 xx.1 xx.2.1
abbrev W97 [Sx.Dr]:=W96.add J6e
theorem Jkb (f:Int→Bool) (k:Nat):Vu f (k+1)=Vu f k++(if f k=true then[(k:Int)] else[]):=by
 unfold Vu Jmy
 rw[List.range_succ,List.map_append,List.filter_append]
 congr 1
 show List.filter f [Int.ofNat k]=_
 rw[List.filter_cons]
 rfl
theorem Fw (f:Int→Bool) (k:Nat):(Vu f k).length≤k:=by
 unfold Vu Jmy
 refine Nat.le_trans (List.length_filter_le _ _) ?_
 simp
def Jth:Con:={args:=[aYd, .fn [I] Bo],ress:=[(false, .list 3 sI)],owns:=[true],pre:=fun(y,(q,_),_)=>[y.1.length≤1000000,∀i,Uq y i=true→Kf (q (i,()))],spec:=fun(y,(_,f),_)=>(Vu (fun i=>f (i,())) y.1.length,())}
abbrev Jzv (y:Yd) (q:Int×Unit→List Prop) (f:Int×Unit→Bool):Ann:={X:=Nat,σ:=fun k=>⟨6,[(1, .one (.fv 3)),(2, .one (.ptr 4 0)),(5, .one (.sl 5)),(9, .one (.int .i64 y.1.length)),(10, .one (.int .i64 k))],[(0, .imm 135 Jig y.1),(1, .imm 137 sSw y.2.1),(2, .imm 206 sPm y.2.2),(3, .afn [I] Bo q f),(4, .box 100 [.sl 0, .sl 1, .sl 2]),(5, .own 3 sI (Vu (fun i=>f (i,())) k))]⟩,inv:=fun k=>k≤y.1.length,mu:=fun k=>y.1.length-k}
def Z32 (a:Int×Unit→Bool) (b:Nat):=Vu (fun(i:Int)=>a (i,PUnit.unit)) b
theorem J5d [Sx.Dr] (y:Yd) (q:Int×Unit→List Prop) (f:Int×Unit→Bool):wpF Tryz.prog W97.g (Vi (Jzv y q f)) Tryz.f121 Jth (y,(q,f),()):=by
 refine(by kernel_rfl:(Z81 y→(∀(i:Int),Uq y i=true→Kf (q (i,PUnit.unit)))→∃(x:Nat),(Z27 y=Ln y.1∧0=Nc x∧y.1=y.1∧y.2.1=y.2.1∧y.2.2=y.2.2∧(fun(x:Int×PUnit)=>q x)=q∧(fun(x:Int×PUnit)=>f x)=f∧List.length (Z32 f x)=0)∧x≤List.length y.1∧∀(x:Nat),x≤List.length y.1→Br (decide (Nc x<Ln y.1)) (Kf (q (Nc x,PUnit.unit))∧Br (f (Nc x,PUnit.unit)) ((List.length (Z32 f x)+1)*8≤140737488355328∧Z1 x∧∃(y_1:Nat),Si (Ln y.1) (Z25 x y_1∧y.1=y.1∧y.2.1=y.2.1∧y.2.2=y.2.2∧(fun(x:Int×PUnit)=>q x)=q∧(fun(x:Int×PUnit)=>f x)=f∧Z32 f x++[Nc x]=Z32 f y_1)∧y_1≤List.length y.1∧List.length y.1-y_1<List.length y.1-x) (Z1 x∧∃(y_1:Nat),Si (Ln y.1) (Z25 x y_1∧y.1=y.1∧y.2.1=y.2.1∧y.2.2=y.2.2∧(fun(x:Int×PUnit)=>q x)=q∧(fun(x:Int×PUnit)=>f x)=f∧Z32 f x=Z32 f y_1)∧y_1≤List.length y.1∧List.length y.1-y_1<List.length y.1-x)) (Z32 f x=Vu (fun(i:Int)=>f (i,PUnit.unit)) (List.length y.1)))=_).mp ?_
 delta Z1 Z25 Z27 Z32 Z81 Br Iw Si Ln Nc
 intro h1 hq
 refine⟨(0:Nat),⟨rfl,rfl,rfl,rfl,rfl,rfl,rfl,rfl⟩,Nat.zero_le _,fun(k:Nat) hk=>⟨fun e=> ?_,fun e=> ?_⟩⟩
 ·have hlt:k<y.1.length:=by simpa using e
  have hl:=Fw (fun i=>f (i,())) k
  have hs:=Jkb (fun i=>f (i,())) k
  refine⟨hq _ (Y4.2 (by omega)),fun h=>⟨by show((Vu (fun i=>f (i,())) k).length+1)*8≤_;omega,by omega,(k+1:Nat),⟨rfl,rfl,rfl,rfl,rfl,rfl,rfl, ?_⟩,by omega,by omega⟩,fun h=>⟨by omega,(k+1:Nat),⟨rfl,rfl,rfl,rfl,rfl,rfl,rfl, ?_⟩,by omega,by omega⟩⟩
  ·rw[hs,if_pos h]
  ·rw[hs,if_neg (by rw[h];decide)];simp
 ·have hge:¬k<y.1.length:=by simpa using e
  rw[show k=y.1.length by omega]
theorem J65 [Sx.Dr]:Ok Tryz.prog 121 Jth:=Je mixed W97.ok (by kernel_rfl) (by kernel_rfl) (fun xx=>Vi (Jzv xx.1 xx.2.1.1 xx.2.1.2)) fun xx=>J5d xx.1 xx.2.1.1 xx.2.1.2
abbrev W98 [Sx.Dr]:=W97.add J65
def Kf0 (f:Yd→Bool):Con:={args:=[aYd],ress:=[Bo],owns:=[],pre:=fun(y,_)=>[Xf y],spec:=fun(y,_)=>(f y,())}
def J1p (f:Yd→Bool):Con:={args:=[aYd],ress:=[Bo],owns:=[],pre:=fun(y,_)=>[Xf y,y.2.2.length≤8,∀x∈y.2.2,Uq y x.2=true],spec:=fun(y,_)=>(f y,())}
def J15 (a:Yd):=∀(i:Int),Jek a i→J0c a i
theorem J5a [Sx.Dr] (y:Yd):wpF Tryz.prog W98.g (na ()) Tryz.f124 (Kf0 V7) (y,()):=by
 refine(by kernel_rfl:(Xf y→(Z87 y∧J15 y)∧decide (0<Ln (Vu (fun(i:Int)=>shB (Vb y) i) (List.length y.1)))=V7 y)=_).mp ?_
 delta Z87 Vb Zo Jek J0c J15 Ln E2
 exact fun h=>⟨⟨Nat.le_trans h.1.1 (by decide),fun _ hi=>⟨h,hi⟩⟩,rfl⟩
theorem J62 [Sx.Dr]:Ok Tryz.prog 124 (Kf0 V7):=Je mixed W98.ok (by kernel_rfl) (by kernel_rfl) na fun xx=>J5a xx.1
abbrev W99 [Sx.Dr]:=W98.add J62
def Z42 (a:Yd):=List.length a.2.2
def Z43 (a:Yd):=List.length a.2.2
def Z88 (a:Yd):=Z42 a≤1000000
def Jr2 (a:Yd) (b:Bt×Int):=b∈a.2.2
def Jxh (a:Yd) (b:Bt×Int):=Uq (Vb a) b.2=true
def J2t (a:Yd):=∀(x:ByteArray×Int),x∈a.2.2→Uq a x.2=true
theorem J46 [Sx.Dr] (y:Yd):wpF Tryz.prog W99.g (na ()) Tryz.f128 (J1p L0) (y,()):=by
 refine(by kernel_rfl:(Xf y→Z43 y≤8→J2t y→(Z88 y∧∀(x:ByteArray×Int),Jr2 y x→Zo y∧Jxh y x)∧(List.any y.2.2 fun(x:ByteArray×Int)=>match Jpi (Vb y) x.2 with|true=>false|false=>true)=L0 y)=_).mp ?_
 delta Z42 Z43 Z88 Jr2 Vb Zo Jxh J2t E2
 exact fun h h1 h2=>⟨⟨Nat.le_trans h1 (by decide),fun x hx=>⟨h,h2 x hx⟩⟩,by unfold L0;first|rfl|(congr 1;done)|(congr 1;funext x;cases Jpi y x.2<;>rfl)⟩
theorem J6y [Sx.Dr]:Ok Tryz.prog 128 (J1p L0):=Je mixed W99.ok (by kernel_rfl) (by kernel_rfl) na fun xx=>J46 xx.1
abbrev Kfh [Sx.Dr]:=W99.add J6y
def J3m (a:Yd):=L0 (Vb a)
def J3i (a:Yd):=V7 (Vb a)
def Kb9 (a:Yd):= !J3i a
def J23 (a:Yd):=Kb9 a=true
def J0b (a:Yd):=∀(x:ByteArray×Int),Jr2 a x→Jxh a x
theorem J5g [Sx.Dr] (y:Yd):wpF Tryz.prog Kfh.g (na ()) Tryz.f115 (J1p Jez) (y,()):=by
 refine(by kernel_rfl:(Xf y→Z43 y≤8→J2t y→(Zo y∧(J23 y→Zo y)∧(J23 y→Z42 y≤8)∧(J23 y→J0b y))∧(bif Kb9 y then !J3m y else false)=Jez y)=_).mp ?_
 delta Z42 Z43 Jr2 Vb Zo J3m J3i Kb9 Jxh J23 J2t J0b E2
 exact fun h h1 h2=>⟨⟨h,fun _=>h,fun _=>h1,fun _=>h2⟩,rfl⟩
theorem J7a [Sx.Dr]:Ok Tryz.prog 115 (J1p Jez):=Je mixed Kfh.ok (by kernel_rfl) (by kernel_rfl) na fun xx=>J5g xx.1
abbrev Kg3 [Sx.Dr]:=Kfh.add J7a
theorem Kiv [Sx.Dr]:Ok Tryz.prog 70 Jol:=okW Kg3 Tryz.f70 na fun xx=>by
 obtain⟨(b:Bool),(e:Int),_⟩:=xx
 refine(by kernel_rfl:(Jpp b e)=_).mp ?_
 delta Jpp Br
 cases b<;>simp
abbrev Kg2 [Sx.Dr]:=Kg3.add Kiv
theorem Kjm [Sx.Dr]:Ok Tryz.prog 41 Jjr:=okW Kg2 Tryz.f41 (fun xx=>Vi (Fr xx.1)) fun xx=>by
 obtain⟨(l:List Int),_⟩:=xx
 refine(by kernel_rfl:(Jt0 l)=_).mp ?_
 delta Z1 Z3 Z12 Z22 Z25 Z28 Z86 Z93 Jr7 Jla Jr3 Jr1 Jt0 Br Iw Bd Tw Si Ln Nc
 intro hb
 refine⟨(0:Nat),⟨rfl,rfl,rfl⟩,⟨Nat.zero_le _,rfl⟩,fun(k:Nat) hk=>⟨fun h=> ?_,fun h=> ?_⟩⟩
 ·have hlt:k<l.length:=by simpa using h
  have hd:=U6 hlt
  refine⟨by omega,fun h1=> ?_,fun h1=>⟨by omega,(k+1:Nat),⟨rfl,by simp,rfl⟩,⟨by omega, ?_⟩,by omega⟩⟩
  ·have h2:¬l.getD k 0=0:=by simpa using h1
   rw[hk.2,hd,if_neg h2]
  ·have h2:l.getD k 0=0:=by simpa using h1
   rw[hk.2,hd,if_pos h2]
 ·have hlt:¬k<l.length:=by simpa using h
  have:k=l.length:=by omega
  rw[hk.2,this,List.drop_length];rfl
abbrev Kg1 [Sx.Dr]:=Kg2.add Kjm
theorem Kjl [Sx.Dr]:Ok Tryz.prog 42 Jec:=okW Kg1 Tryz.f42 na fun xx=>by
 obtain⟨(n:Int),(lo:Int),(hi:Int),_⟩:=xx
 refine(by kernel_rfl:(Jt2 n lo hi)=_).mp ?_
 delta Jt2
 unfold Jb;cases decide (n<lo)<;>rfl
abbrev Kg0 [Sx.Dr]:=Kg1.add Kjl
theorem J6t [Sx.Dr]:Ok Tryz.prog 143 Jec:=okW Kg0 Tryz.f143 na fun xx=>by
 obtain⟨(n:Int),(lo:Int),(hi:Int),_⟩:=xx
 refine(by kernel_rfl:(Jt2 n lo hi)=_).mp ?_
 delta Jt2
 unfold Jb;cases decide (n<lo)<;>rfl
abbrev Kgz [Sx.Dr]:=Kg0.add J6t
abbrev sPu:Sch:= .prod sI sI
abbrev Pu:Type:=Int×Int
abbrev Jw2:Sch:= .prod sI (.list 55 sPu)
abbrev Log:Type:=Int×List Pu
abbrev sTg:Sch:= .prod sI (.prod sI (.prod sI (.prod sI (.prod sI sI))))
abbrev Tg:Type:=Int×Int×Int×Int×Int×Int
def puE (last:Int) (p:Pu):Int:=Ja [Jb p.1 0 100000,Jb p.2 0 4095,bif decide (p.1≤last) then 11 else 0]
def Jbq:Int→List Pu→Int
 |_,[]=>0
 |last,p::r=>if puE last p=0 then Jbq p.1 r else puE last p
def Jgu (l:List Pu):Int:=bif decide (256<(l.length:Int)) then 5 else Jbq (-1) l
def Hc (l:List Pu) (k:Nat):Int:=if k=0 then -1 else(l.getD (k-1) (0,0)).1
theorem Jcq {α:Type} {l:List α} {k:Nat} {d:α} (h:k<l.length):l.drop k=l.getD k d::l.drop (k+1):=by
 rw[List.drop_eq_getElem_cons h];simp[List.getD_eq_getElem?_getD,h]
theorem Jka {l:List Pu} {k:Nat} (h:k<l.length):Jbq (Hc l k) (l.drop k)=if puE (Hc l k) (l.getD k (0,0))=0 then Jbq (Hc l (k+1)) (l.drop (k+1)) else puE (Hc l k) (l.getD k (0,0)):=by
 rw[Jcq (d:=(0,0)) h,Jbq]
 have e:Hc l (k+1)=(l.getD k (0,0)).1:=by unfold Hc;simp
 rw[e]
def Kkm:Con:={args:=[.val false (.list 55 sPu)],ress:=[I],owns:=[],pre:=fun(l,_)=>[l.length≤1000000],spec:=fun(l,_)=>(Jgu l,())}
abbrev Jzu (l:List Pu):Ann:={X:=Nat,σ:=fun k=>⟨4,[(1, .one (.fv 2)),(8, .one (.sl 0)),(9, .one (.int .i64 l.length)),(10, .one (.int .i64 k))],[(0, .imm 55 sPu l),(1, .box 3 [.int .i64 (Hc l k)]),(2, .clo 84 [] [.one (.ptr 1 0)]),(3, .sus [])]⟩,inv:=fun k=>k≤l.length∧Jbq (-1) l=Jbq (Hc l k) (l.drop k),mu:=fun k=>l.length-k}
def Z9 (a:List Pu):=List.length a
def Z60 (a:List Pu):=Z9 a≤1000000
def Z83 (a:List Pu) (b:Nat):=List.getD a b (0,0)
def Z92 (a:List Pu) (b:Nat):=(Z83 a b).1
def J3v (a:Nat) (b:List Pu):=a≤List.length b∧Jbq Z17 b=Jbq (Hc b a) (List.drop a b)
def J9u (a:List Pu) (b:Nat):=Ja [Jb (Z92 a b) 0 100000,Jb (Z83 a b).2 0 4095,bif decide (Z92 a b≤Hc a b) then 11 else 0]
theorem Ki5 [Sx.Dr]:Ok Tryz.prog 58 Kkm:=J5y Kgz Tryz.f58 (H2 (l:=([(83,Tryz.f83),(84,Tryz.f84)]:List (Nat×Func))) (List.forall_mem_cons.2 ⟨by kernel_rfl,List.forall_mem_cons.2 ⟨by kernel_rfl,by simp⟩⟩)) (fun xx=>na ()) (fun xx=>fun f=>if f=83 then Vi (Jzu xx.1) else na ()) fun xx=>by
 obtain⟨(l:List Pu),_⟩:=xx
 refine(by kernel_rfl:(Z60 l→Br (decide (256<Ln l)) (Sf true (5=Jgu l)) (∃(x:Nat),Si (Ln l) (0=Nc x∧Sf l (Z17=Hc l x))∧J3v x l∧∀(x:Nat),J3v x l→Br (decide (Nc x<Ln l)) (Tw (Bd (Nc x) (Ln l))∧3≤1000000∧Br (J9u l x !=0) (Sf true (J9u l x=Jgu l)) (Z1 x∧∃(y:Nat),Si (Ln l) (Z25 x y∧Sf l (Z92 l x=Hc l y))∧J3v y l∧List.length l-y<List.length l-x)) (Sf true (0=Jgu l))))=_).mp ?_
 delta Z1 Z9 Z17 Z25 Z60 Z83 Z92 J3v J9u Br Iw Bd Tw Sf Si Ln Nc
 intro hl
 refine⟨fun h=>⟨rfl, ?_⟩,fun h=>⟨(0:Nat),⟨rfl,rfl,rfl,rfl⟩,⟨Nat.zero_le _,rfl⟩,fun(k:Nat) hk=>⟨fun e=> ?_,fun e=> ?_⟩⟩⟩
 ·unfold Jgu;rw[h];rfl
 ·have hlt:k<l.length:=by simpa using e
  have hd:=Jka hlt
  refine⟨⟨by omega,by omega⟩,by decide,fun q=>⟨rfl, ?_⟩,fun q=>⟨by omega,(k+1:Nat),⟨rfl,by simp,rfl,by unfold Hc;simp⟩,⟨by omega, ?_⟩,by omega⟩⟩
  ·have q:¬puE (Hc l k) (l.getD k (0,0))=0:=bne_iff_ne.1 q
   unfold Jgu;rw[h,hk.2,hd,if_neg q];rfl
  ·have q:puE (Hc l k) (l.getD k (0,0))=0:=bne_eq_false_iff_eq.1 q
   rw[hk.2,hd,if_pos q]
 ·have hge:¬k<l.length:=by simpa using e
  refine⟨rfl, ?_⟩
  unfold Jgu;rw[h,hk.2,List.drop_of_length_le (by omega)];rfl
abbrev Kfg [Sx.Dr]:=Kgz.add Ki5
def Jdv (g:Log):Int:=Ja [Jb g.1 0 255,Jgu g.2]
def Kf9:Con:={args:=[.val true Jw2],ress:=[I],owns:=[],pre:=fun(g,_)=>[g.2.length≤1000000],spec:=fun(g,_)=>(Jdv g,())}
def Z65 (a:Log):=List.length a.2≤1000000
theorem Khq [Sx.Dr] (g:Log):wpF Tryz.prog Kfg.g (na ()) Tryz.f37 Kf9 (g,()):=by
 refine(by kernel_rfl:(List.length g.2≤1000000→(Z65 g∧2≤1000000)∧Ja [Jb g.1 0 255,Jgu g.2]=Jdv g)=_).mp ?_
 delta Z65
 exact fun h=>⟨⟨h,by decide⟩,rfl⟩
theorem Kjq [Sx.Dr]:Ok Tryz.prog 37 Kf9:=Je mixed Kfg.ok (by kernel_rfl) (by kernel_rfl) na fun xx=>Khq xx.1
abbrev Kff [Sx.Dr]:=Kfg.add Kjq
def tgO (c:Int) (p:Pu):Tg:=(c,p.1.tmod 65536,p.2,0,0,0)
def Z35:=(65536:Int)=0→False
theorem Khp [Sx.Dr] (p:Pu) (g:Log):wpF Tryz.prog Kff.g (na ()) Tryz.f39 ({args:=[.val true sPu, .ref 58 Jw2],ress:=[(true,sTg)],owns:=[],pre:=fun _=>[],spec:=fun(p,g,_)=>(tgO g.1 p,())}) (p,g,()):=by
 refine(by kernel_rfl:(Z35∧(g.1,Int.tmod p.1 65536,p.2,Z18)=tgO g.1 p)=_).mp ?_
 delta Z18 Z35
 exact⟨fun h=>by omega,rfl⟩
theorem Kjo [Sx.Dr]:Ok Tryz.prog 39 ({args:=[.val true sPu, .ref 58 Jw2],ress:=[(true,sTg)],owns:=[],pre:=fun _=>[],spec:=fun(p,g,_)=>(tgO g.1 p,())}):=Je mixed Kff.ok (by kernel_rfl) (by kernel_rfl) na fun xx=>Khp xx.1 xx.2.1
abbrev Kgy [Sx.Dr]:=Kff.add Kjo
def Jzd:Con:={args:=[.val false (.list 55 sPu), .fn [(true,sPu)] (true,sTg)],ress:=[(false, .list 61 sTg)],owns:=[true],pre:=fun(l,(q,_),_)=>[l.length≤1000000,∀x∈l,Kf (q (x,()))],spec:=fun(l,(_,f),_)=>(l.map fun x=>f (x,()),())}
def Jt8:List (Int×Int×Int×Int×Int×Int):=[]
def J4i (a:Pu×Unit→Tg) (b:List Pu) (c:Nat):=a (E2 (Z83 b c),PUnit.unit)
def J4e (a:Pu×Unit→Tg) (b:List Pu) (c:Nat):=(J4i a b c).2.2
def J0m (a:Pu×Unit→Tg) (b:Nat) (c:List Pu):=List.map (fun(x:Int×Int)=>a (x,PUnit.unit)) (List.take b c)
def Kaf (a:Pu×Unit→Tg) (b:Nat) (c:List Pu):=List.length (J0m a b c)
theorem Kjp [Sx.Dr]:Ok Tryz.prog 38 Jzd:=okW Kgy Tryz.f38 (fun xx=>Vi (Zn 55 61 sPu xx.1 (true,sTg) true xx.2.1.1 xx.2.1.2)) fun xx=>by
 obtain⟨(l:List Pu),⟨(q:Pu×Unit→List Prop),(f:Pu×Unit→Tg)⟩,_⟩:=xx
 refine(by kernel_rfl:(Z60 l→(∀(x:Int×Int),x∈l→Kf (q (x,PUnit.unit)))→∃(x:Nat),Si (Ln l) (0=Nc x∧Sf l ((fun(x:(Int×Int)×PUnit)=>q x)=q∧(fun(x:(Int×Int)×PUnit)=>f x)=f∧Kaf f x l=0))∧x≤Z9 l∧∀(x:Nat),x≤Z9 l→Br (decide (Nc x<Ln l)) (Tw (Bd (Nc x) (Ln l))∧(Kf (q (E2 (Z83 l x),PUnit.unit))∧(Kaf f x l+1)*48≤140737488355328)∧Z1 x∧∃(y:Nat),Si (Ln l) (Z25 x y∧Sf l ((fun(x:(Int×Int)×PUnit)=>q x)=q∧(fun(x:(Int×Int)×PUnit)=>f x)=f∧J0m f x l++((J4i f l x).1,(J4i f l x).2.1,(J4e f l x).1,(J4e f l x).2.1,E2 (J4e f l x).2.2)::Jt8=J0m f y l))∧y≤Z9 l∧Z9 l-y<Z9 l-x) (J0m f x l=List.map (fun(x:Int×Int)=>f (x,PUnit.unit)) l))=_).mp ?_
 delta Z1 Z9 Z25 Z60 Z83 Jt8 J4i J4e J0m Kaf Br Iw Bd Tw Sf Si Ln Nc E2
 intro hb hq
 refine⟨(0:Nat),⟨rfl,rfl,rfl,rfl,rfl,by simp⟩,Nat.zero_le _,fun(k:Nat) hk=>⟨fun h=> ?_,fun h=> ?_⟩⟩
 ·have hlt:k<l.length:=by simpa using h
  refine⟨by omega,⟨hq (l.getD k (0,0)) (Jj hlt),by simp only[List.length_map,List.length_take];omega⟩,by omega,(k+1:Nat),⟨rfl,by simp,rfl,rfl,rfl, ?_⟩,by omega,by omega⟩
  rw[←Jy (d:=(0,0)) hlt,List.map_append];rfl
 ·have hlt:¬k<l.length:=by simpa using h
  rw[List.take_of_length_le (by omega)]
abbrev Kfe [Sx.Dr]:=Kgy.add Kjp
def Kf3:Con:={args:=[.val true Jw2],ress:=[(false, .list 61 sTg),I],owns:=[],pre:=fun(g,_)=>[g.2.length≤1000000],spec:=fun(g,_)=>(if Jdv g=0 then g.2.map (tgO g.1) else[],Jdv g,())}
def J9q (a:Log):=if Jdv a=0 then List.map (tgO a.1) a.2 else Jt8
theorem Kh2 [Sx.Dr] (g:Log):wpF Tryz.prog Kfe.g (na ()) Tryz.f12 Kf3 (g,()):=by
 refine(by kernel_rfl:(List.length g.2≤1000000→Z65 g∧Br (Jdv (E2 g) !=0) (Jt8=J9q g∧Jdv (E2 g)=Jdv g) ((Z65 g∧∀(x:Int×Int),x∈g.2→True)∧List.map (fun(x:Int×Int)=>tgO g.1 x) g.2=J9q g∧0=Jdv g))=_).mp ?_
 delta Z65 Jt8 J9q Br E2
 intro h
 refine⟨h,fun k=> ?_,fun k=> ?_⟩
 ·have k:¬Jdv g=0:=bne_iff_ne.1 k
  rw[if_neg k];exact⟨rfl,rfl⟩
 ·have k:Jdv g=0:=bne_eq_false_iff_eq.1 k
  rw[if_pos k];exact⟨⟨h,fun _ _=>trivial⟩,rfl,k.symm⟩
theorem Kfr [Sx.Dr]:Ok Tryz.prog 12 Kf3:=Je mixed Kfe.ok (by kernel_rfl) (by kernel_rfl) na fun xx=>Kh2 xx.1
abbrev Kgx [Sx.Dr]:=Kfe.add Kfr
def tgV (t:Tg):List Int:=[t.2.2.1,t.2.2.2.1,t.2.2.2.2.1,t.2.2.2.2.2]
def hwE (n:Int):Int:=Jb n (-32768) 32767
def tgE (t:Tg):Int:=Ja [Ja [Jb t.1 0 255,Jb t.2.1 0 65535],Ja ((tgV t).map hwE)]
theorem J6r [Sx.Dr]:Ok Tryz.prog 145 ({args:=[aI],ress:=[I],owns:=[],pre:=fun _=>[],spec:=fun(n,_)=>(hwE n,())}):=okW Kgx Tryz.f145 na fun xx=>by
 obtain⟨(n:Int),_⟩:=xx
 refine(by kernel_rfl:(Jb n (-32768) 32767=hwE n)=_).mp ?_
 first|rfl|exact⟨trivial,rfl⟩
abbrev Kgw [Sx.Dr]:=Kgx.add J6r
theorem J6s [Sx.Dr]:Ok Tryz.prog 144 (Jtk 3 34):=okW Kgw Tryz.f144 (fun xx=>Vi (Zn 3 34 sI xx.1 I false xx.2.1.1 xx.2.1.2)) fun xx=>by
 obtain⟨(l:List Int),⟨(q:Int×Unit→List Prop),(f:Int×Unit→Int)⟩,_⟩:=xx
 refine(by kernel_rfl:(J1v l q f)=_).mp ?_
 delta Z1 Z3 Z12 Z22 Z25 Z28 Z34 Z85 Z86 Jwu Jpo J1v Br Iw Bd Tw Sf Si Ln Nc
 intro hb hq
 refine⟨(0:Nat),⟨rfl,rfl,rfl,rfl,rfl,by simp⟩,Nat.zero_le _,fun(k:Nat) hk=>⟨fun h=> ?_,fun h=> ?_⟩⟩
 ·have hlt:k<l.length:=by simpa using h
  refine⟨by omega,⟨hq _ (Jj hlt),by simp only[List.length_map,List.length_take];omega⟩,by omega,(k+1:Nat),⟨rfl,by simp,rfl,rfl,rfl, ?_⟩,by omega,by omega⟩
  rw[←Jy (d:=0) hlt,List.map_append];rfl
 ·have hlt:¬k<l.length:=by simpa using h
  rw[List.take_of_length_le (by omega)]
abbrev Kfd [Sx.Dr]:=Kgw.add J6s
theorem Jn2 {x y:Int} (h:¬x=0):x=Ja [x,y]:=by simp[Ja,h]
theorem Jn0 {x y:Int} (h:x=0):y=Ja [x,y]:=by
 by_cases k:y=0<;>simp[Ja,h,k]
def Kf2:Con:={args:=[.val true sTg],ress:=[I],owns:=[],pre:=fun _=>[],spec:=fun(t,_)=>(tgE t,())}
def Keb (a:Tg):=Ja [Jb a.1 0 255,Jb a.2.1 0 65535]
theorem Kg5 [Sx.Dr] (t:Tg):wpF Tryz.prog Kfd.g (na ()) Tryz.f96 Kf2 (t,()):=by
 refine(by kernel_rfl:(2≤1000000∧Br (Keb t !=0) (Keb t=tgE t) ((4≤1000000∧(∀(x:Int),x∈[t.2.2.1,t.2.2.2.1,t.2.2.2.2.1,t.2.2.2.2.2]→True)∧4≤1000000)∧Ja [hwE t.2.2.1,hwE t.2.2.2.1,hwE t.2.2.2.2.1,hwE t.2.2.2.2.2]=tgE t))=_).mp ?_
 delta Keb Br
 refine⟨by decide,fun k=> ?_,fun k=>⟨⟨by decide,fun _ _=>trivial,by decide⟩, ?_⟩⟩
 ·have k:¬Ja [Jb t.1 0 255,Jb t.2.1 0 65535]=0:=bne_iff_ne.1 k
  exact Jn2 k
 ·have k:Ja [Jb t.1 0 255,Jb t.2.1 0 65535]=0:=bne_eq_false_iff_eq.1 k
  exact Jn0 k
theorem Kib [Sx.Dr]:Ok Tryz.prog 96 Kf2:=Je mixed Kfd.ok (by kernel_rfl) (by kernel_rfl) na fun xx=>Kg5 xx.1
abbrev Kgv [Sx.Dr]:=Kfd.add Kib
def Jzb:Con:={args:=[.val false (.list 61 sTg), .fn [(true,sTg)] I],ress:=[(false, .list 34 sI)],owns:=[true],pre:=fun(l,(q,_),_)=>[l.length≤1000000,∀x∈l,Kf (q (x,()))],spec:=fun(l,(_,f),_)=>(l.map fun x=>f (x,()),())}
def J08:=((0:Int),(0:Int),Z62)
def Jt7 (a:List Tg):=List.length a
def J4b (a:List Tg) (b:Nat):=Jt7 a-b
def Jwl (a:Nat) (b:List Tg):=a≤Jt7 b
def Jj6 (a:List Tg):=Jt7 a≤1000000
def J24 (a:List Tg) (b:Nat):=List.getD a b J08
def J22 (a:List Tg) (b:Nat):=(J24 a b).2
def J21 (a:List Tg) (b:Nat):=(J22 a b).2
def J2y (a:List Tg) (b:Nat):=(J21 a b).2
def J0k (a:Tg×Unit→Int) (b:Nat) (c:List Tg):=List.map (fun(x:Int×Int×Int×Int×Int×Int)=>a (x,PUnit.unit)) (List.take b c)
def Kar (a:Tg×Unit→Int) (b:Nat) (c:List Tg):=List.length (J0k a b c)
def Jwd (a:List Tg) (b:Int×Int×Int×Int×Int×Int):=b∈a
def J2k (a:Nat) (b:List Tg) (c:Nat):=Jwl a b∧J4b b a<J4b b c
def J2d (a:List Tg) (b:Tg×Unit→List Prop):=∀(x:Int×Int×Int×Int×Int×Int),Jwd a x→Kf (b (x,PUnit.unit))
def Jz7 (a:List Tg) (b:Nat):=(((J24 a b).1,(J22 a b).1,(J21 a b).1,(J2y a b).1,E2 (J2y a b).2),PUnit.unit)
def J1x (a:Tg×Unit→List Prop) (b:List Tg) (c:Nat):=Kf (a (Jz7 b c))
theorem Kic [Sx.Dr]:Ok Tryz.prog 95 Jzb:=okW Kgv Tryz.f95 (fun xx=>Vi (Zn 61 34 sTg xx.1 I true xx.2.1.1 xx.2.1.2)) fun xx=>by
 obtain⟨(l:List Tg),⟨(q:Tg×Unit→List Prop),(f:Tg×Unit→Int)⟩,_⟩:=xx
 refine(by kernel_rfl:(Jj6 l→J2d l q→∃(x:Nat),Si (Ln l) (0=Nc x∧Sf l ((fun(x:(Int×Int×Int×Int×Int×Int)×PUnit)=>q x)=q∧(fun(x:(Int×Int×Int×Int×Int×Int)×PUnit)=>f x)=f∧Kar f x l=0))∧Jwl x l∧∀(x:Nat),Jwl x l→Br (decide (Nc x<Ln l)) (Tw (Bd (Nc x) (Ln l))∧(J1x q l x∧(Kar f x l+1)*8≤140737488355328)∧Z1 x∧∃(y:Nat),Si (Ln l) (Z25 x y∧Sf l ((fun(x:(Int×Int×Int×Int×Int×Int)×PUnit)=>q x)=q∧(fun(x:(Int×Int×Int×Int×Int×Int)×PUnit)=>f x)=f∧J0k f x l++[f (Jz7 l x)]=J0k f y l))∧J2k y l x) (J0k f x l=List.map (fun(x:Int×Int×Int×Int×Int×Int)=>f (x,PUnit.unit)) l))=_).mp ?_
 delta Z1 Z18 Z25 Z62 J08 Jt7 J4b Jwl Jj6 J24 J22 J21 J2y J0k Kar Jwd J2k J2d Jz7 J1x Br Iw Bd Tw Sf Si Ln Nc E2
 intro hb hq
 refine⟨(0:Nat),⟨rfl,rfl,rfl,rfl,rfl,by simp⟩,Nat.zero_le _,fun(k:Nat) hk=>⟨fun h=> ?_,fun h=> ?_⟩⟩
 ·have hlt:k<l.length:=by simpa using h
  refine⟨by omega,⟨hq (l.getD k (0,0,0,0,0,0)) (Jj hlt),by simp only[List.length_map,List.length_take];omega⟩,by omega,(k+1:Nat),⟨rfl,by simp,rfl,rfl,rfl, ?_⟩,by omega,by omega⟩
  rw[←Jy (d:=(0,0,0,0,0,0)) hlt,List.map_append];rfl
 ·have hlt:¬k<l.length:=by simpa using h
  rw[List.take_of_length_le (by omega)]
abbrev Kgu [Sx.Dr]:=Kgv.add Kic
def Jb0 (l:List Tg):Int:=bif decide (1024<(l.length:Int)) then 5 else Ja (l.map tgE)
def J70:Con:={args:=[.val false (.list 61 sTg)],ress:=[I],owns:=[],pre:=fun(l,_)=>[l.length≤1000000],spec:=fun(l,_)=>(Jb0 l,())}
def Kd7 (a:List Tg):=List.map (fun(x:Int×Int×Int×Int×Int×Int)=>tgE x) a
theorem Kiz [Sx.Dr]:Ok Tryz.prog 66 J70:=okW Kgu Tryz.f66 na fun xx=>by
 obtain⟨(l:List Tg),_⟩:=xx
 refine(by kernel_rfl:(Jj6 l→Br (decide (1024<Ln l)) (5=Jb0 l) ((Jj6 l∧(∀(x:Int×Int×Int×Int×Int×Int),Jwd l x→True)∧List.length (Kd7 l)≤1000000)∧Ja (Kd7 l)=Jb0 l))=_).mp ?_
 delta Jt7 Jj6 Kd7 Jwd Br Ln
 intro h
 refine⟨fun k=> ?_,fun k=>⟨⟨h,fun _ _=>trivial,by simpa using h⟩, ?_⟩⟩
 ·unfold Jb0;rw[k];rfl
 ·unfold Jb0;rw[k];rfl
abbrev Kgt [Sx.Dr]:=Kgu.add Kiz
def Jh8 (l:List Pu) (i:Nat):Int:=bits .xor .i64 (l.getD (i+1) (0,0)).2 (l.getD i (0,0)).2
def Jjp (l:List Pu) (k:Nat):List Int:=(List.range k).map (Jh8 l)
theorem Jog (l:List Pu) (k:Nat):(Jjp l k).length=k:=by simp[Jjp]
theorem Jro (l:List Pu) (k:Nat):Jjp l (k+1)=Jjp l k++[Jh8 l k]:=by simp[Jjp,List.range_succ]
theorem Jvq {l:List Pu} {n k:Nat} (h:k<n):(Jjp l n).getD k 0=Jh8 l k:=by
 simp[Jjp,List.getD_eq_getElem?_getD,h]
def Jeo (l:List Pu):List Int:=Jjp l (l.length-1)
def Kkx:Con:={args:=[.val false (.list 55 sPu)],ress:=[(false, .list 3 sI)],owns:=[true],pre:=fun(l,_)=>[l.length≤1000000],spec:=fun(l,_)=>(Jeo l,())}
abbrev Jz1 (l:List Pu):Ann:={X:=Nat,σ:=fun k=>⟨2,[(0, .one (.sl 0)),(3, .one (.sl 1)),(4, .one (.int .i64 (k+1)))],[(0, .imm 55 sPu l),(1, .own 3 sI (Jjp l k))]⟩,inv:=fun k=>k≤l.length-1,mu:=fun k=>l.length-k}
def Z37 (a:Nat) (b:List Pu):=a≤List.length b-1
def J0w (a:Nat) (b:List Pu) (c:Nat):=Z37 a b∧List.length b-a<List.length b-c
theorem Ki4 [Sx.Dr]:Ok Tryz.prog 59 Kkx:=okW Kgt Tryz.f59 (fun xx=>Vi (Jz1 xx.1)) fun xx=>by
 obtain⟨(l:List Pu),_⟩:=xx
 refine(by kernel_rfl:(Z60 l→∃(x:Nat),(1=Nc x+1∧Sf l (List.length (Jjp l x)=0))∧Z37 x l∧∀(x:Nat),Z37 x l→Br (decide (Nc x+1<Ln l)) (T2 (Bd (Nc x+1) (Ln l)) (Iw (Nc x+(1:Int)-1)∧T2 (Bd (Nc x+(1:Int)-1) (Ln l)) ((List.length (Jjp l x)+1)*8≤140737488355328))∧Iw (Nc x+(1:Int)+1)∧∃(y:Nat),(Nc x+(1:Int)+1=Nc y+1∧Sf l (Jjp l x++[bits BinOp.xor IntKind.i64 (Gt l (Nc x+1) (0,0)).2 (Gt l (Nc x+(1:Int)-1) (0,0)).2]=Jjp l y))∧J0w y l x) (Jjp l x=Jeo l))=_).mp ?_
 delta Z9 Z37 Z60 J0w Br Iw Bd T2 Sf Ln Nc Gt
 intro hl
 refine⟨(0:Nat),⟨rfl,rfl,rfl⟩,Nat.zero_le _,fun(k:Nat) hk=>⟨fun h=> ?_,fun h=> ?_⟩⟩
 ·have hlt:k+1<l.length:=by have:=of_decide_eq_true h;omega
  have hn:=Jog l k
  refine⟨⟨by omega,by omega,by omega,by omega,by omega,by rw[hn];omega⟩,by omega,(k+1:Nat),⟨by omega,rfl, ?_⟩,by omega,by omega⟩
  have e1:((k:Int)+1).toNat=k+1:=by omega
  have e2:((k:Int)+1-1).toNat=k:=by omega
  rw[Jro,e1,e2];rfl
 ·have hge:=of_decide_eq_false h
  unfold Jeo
  rw[show l.length-1=k by omega]
abbrev Kgs [Sx.Dr]:=Kgt.add Ki4
def Jss (x:Int):Int:=if x=0 then 0 else 2
def Kf7:Con:={args:=[.val false (.int .u64)],ress:=[I],owns:=[],pre:=fun(x,_)=>[x=0∨x=5],spec:=fun(x,_)=>(Jss x,())}
def Ka1 (a:Int):=IntKind.wrap IntKind.u64 (bits BinOp.and IntKind.u64 (Int.fdiv a (2^1)) 6148914691236517205+bits BinOp.and IntKind.u64 a 6148914691236517205)
def J9c (a:Int):=IntKind.wrap IntKind.u64 (bits BinOp.and IntKind.u64 (Int.fdiv (Ka1 a) (2^2)) 3689348814741910323+bits BinOp.and IntKind.u64 (Ka1 a) 3689348814741910323)
def J8z (a:Int):=bits BinOp.and IntKind.u64 (IntKind.wrap IntKind.u64 (Int.fdiv (J9c a) (2^4)+J9c a)) 1085102592571150095
def J8l (a:Int):=IntKind.wrap IntKind.u64 (J8z a+Int.fdiv (J8z a) (2^8))
def J8i (a:Int):=IntKind.wrap IntKind.u64 (J8l a+Int.fdiv (J8l a) (2^16))
def J8h (a:Int):=IntKind.wrap IntKind.u64 (J8i a+Int.fdiv (J8i a) (2^32))
theorem Kii [Sx.Dr]:Ok Tryz.prog 86 Kf7:=okW Kgs Tryz.f86 na fun xx=>by
 obtain⟨(x:Int),_⟩:=xx
 refine(by kernel_rfl:(x=0∨x=5→((0:Int)≤1∧(1:Int)≤63)∧((0:Int)≤2∧(2:Int)≤63)∧((0:Int)≤4∧(4:Int)≤63)∧((0:Int)≤8∧(8:Int)≤63)∧((0:Int)≤16∧(16:Int)≤63)∧((0:Int)≤32∧(32:Int)≤63)∧Iw (J8h x)∧bits BinOp.and IntKind.i64 (J8h x) 127=Jss x)=_).mp ?_
 delta Ka1 J9c J8z J8l J8i J8h Iw
 rintro(rfl|rfl)
 ·exact⟨by omega,by omega,by omega,by omega,by omega,by omega,⟨of_decide_eq_true (by kernel_rfl),of_decide_eq_true (by kernel_rfl)⟩,by kernel_rfl⟩
 ·exact⟨by omega,by omega,by omega,by omega,by omega,by omega,⟨of_decide_eq_true (by kernel_rfl),of_decide_eq_true (by kernel_rfl)⟩,by kernel_rfl⟩
abbrev Kgr [Sx.Dr]:=Kgs.add Kii
theorem Ki3 [Sx.Dr]:Ok Tryz.prog 60 Kf7:=J5y Kgr Tryz.f60 (H2 (l:=([]:List (Nat×Func))) (by simp)) (fun xx=>na ()) (fun xx=>fun _=>na ()) fun xx=>by
 obtain⟨(x:Int),_⟩:=xx
 refine(by kernel_rfl:(x=0∨x=5→(x=0∨x=5)∧Sf true (Jss x=Jss x))=_).mp ?_
 delta Sf
 exact fun h=>⟨h,rfl,rfl⟩
abbrev Kgq [Sx.Dr]:=Kgr.add Ki3
def Jhz (l:List Pu) (lim:Int) (k:Nat):List Int:=((List.range k).filter fun i=>decide (lim<Jss (Jh8 l i))).map fun i=>(l.getD (i+1) (0,0)).1
theorem Jjv (l:List Pu) (lim:Int) (k:Nat):Jhz l lim (k+1)=Jhz l lim k++if lim<Jss (Jh8 l k) then[(l.getD (k+1) (0,0)).1] else[]:=by
 unfold Jhz
 rw[List.range_succ,List.filter_append,List.map_append]
 congr 1
 by_cases h:lim<Jss (Jh8 l k)<;>simp[h]
theorem Jv1 (l:List Pu) (lim:Int) (k:Nat):(Jhz l lim k).length≤k:=by
 unfold Jhz
 rw[List.length_map]
 exact Nat.le_trans (List.length_filter_le _ _) (by simp)
def Jv2 (l:List Pu) (lim:Int):Int:=Ja [Jgu l,Jb lim 0 12]
def Kky:Con:={args:=[.val false (.list 55 sPu),aI],ress:=[(false, .list 3 sI),I],owns:=[],pre:=fun(l,_)=>[l.length≤1000000,∀i,i<l.length-1→Jh8 l i=0∨Jh8 l i=5],spec:=fun(l,lim,_)=>(if Jv2 l lim=0 then Jhz l lim (l.length-1) else[],Jv2 l lim,())}
abbrev Jz2 (l:List Pu) (lim:Int):Ann:={X:=Nat,σ:=fun k=>⟨4,[(0, .one (.sl 0)),(1, .one (.int .i64 lim)),(7, .one (.sl 3)),(20, .one (.sl 2)),(21, .one (.int .i64 (Jeo l).length)),(22, .one (.int .i64 k))],[(0, .imm 55 sPu l),(2, .own 3 sI (Jeo l)),(3, .own 3 sI (Jhz l lim k))]⟩,inv:=fun k=>k≤l.length-1,mu:=fun k=>l.length-k}
def Kbf (a:List Pu) (b:Int):=if Jv2 a b=0 then Jhz a b (Z9 a-1) else[]
theorem Kj0 [Sx.Dr]:Ok Tryz.prog 27 Kky:=okW Kgq Tryz.f27 (fun xx=>Vi (Jz2 xx.1 xx.2.1)) fun xx=>by
 obtain⟨(l:List Pu),(lim:Int),_⟩:=xx
 refine(by kernel_rfl:(Z60 l→(∀(i:Nat),i<Z9 l-1→Jh8 l i=0∨Jh8 l i=5)→(Z60 l∧2≤1000000)∧Br (Ja [Jgu l,Jb lim 0 12] !=0) ([]=Kbf l lim∧Ja [Jgu l,Jb lim 0 12]=Jv2 l lim) (Z60 l∧∃(x:Nat),Si lim (Si (Ln (Jeo l)) (0=Nc x∧Sf l (Sf (Jeo l) (List.length (Jhz l lim x)=0))))∧Z37 x l∧∀(x:Nat),Z37 x l→Br (decide (Nc x<Ln (Jeo l))) (Tw (Bd (Nc x) (Ln (Jeo l)))∧(IntKind.wrap IntKind.u64 (List.getD (Jeo l) x 0)=0∨IntKind.wrap IntKind.u64 (List.getD (Jeo l) x 0)=5)∧Br (decide (lim<Jss (IntKind.wrap IntKind.u64 (List.getD (Jeo l) x 0)))) ((Z1 x∧T2 (Bd (Nc x+1) (Ln l)) ((List.length (Jhz l lim x)+1)*8≤140737488355328))∧Z1 x∧∃(y:Nat),Si lim (Si (Ln (Jeo l)) (Z25 x y∧Sf l (Sf (Jeo l) (Jhz l lim x++[(Gt l (Nc x+1) (0,0)).1]=Jhz l lim y))))∧J0w y l x) (Z1 x∧∃(y:Nat),Si lim (Si (Ln (Jeo l)) (Z25 x y∧Sf l (Sf (Jeo l) (Jhz l lim x=Jhz l lim y))))∧J0w y l x)) (Jhz l lim x=Kbf l lim∧0=Jv2 l lim)))=_).mp ?_
 delta Z1 Z9 Z25 Z37 Z60 J0w Kbf Br Iw Bd T2 Tw Sf Si Ln Nc Gt
 intro hl hx
 have ez:(Jeo l).length=l.length-1:=Jog _ _
 refine⟨⟨hl,by decide⟩,fun q=> ?_,fun q=> ?_⟩
 ·have q:¬Jv2 l lim=0:=bne_iff_ne.1 q
  rw[if_neg q];exact⟨rfl,rfl⟩
 ·have q:Jv2 l lim=0:=bne_eq_false_iff_eq.1 q
  refine⟨hl,(0:Nat),⟨rfl,rfl,rfl,rfl,rfl,rfl⟩,Nat.zero_le _,fun(k:Nat) hk=>⟨fun h=> ?_,fun h=> ?_⟩⟩
  ·have hlt:k<l.length-1:=by have:=of_decide_eq_true h;omega
   have e:(Jeo l).getD k 0=Jh8 l k:=Jvq hlt
   have hb:=Jv1 l lim k
   have hw:IntKind.u64.wrap (Jh8 l k)=Jh8 l k:=by rcases hx k hlt with w|w<;>rw[w]<;>rfl
   have e1:((k:Int)+1).toNat=k+1:=by omega
   rw[e,hw,e1]
   refine⟨⟨by omega,by omega⟩,hx k hlt,fun p=>⟨⟨by omega,by omega,by omega,by omega⟩,by omega,(k+1:Nat),⟨rfl,rfl,by simp,rfl,rfl, ?_⟩,by omega,by omega⟩,fun p=>⟨by omega,(k+1:Nat),⟨rfl,rfl,by simp,rfl,rfl, ?_⟩,by omega,by omega⟩⟩
   ·rw[Jjv,if_pos (of_decide_eq_true p)]
   ·rw[Jjv,if_neg (of_decide_eq_false p),List.append_nil]
  ·have hge:=of_decide_eq_false h
   rw[if_pos q,show l.length-1=k by omega];exact⟨rfl,q.symm⟩
abbrev Kfc [Sx.Dr]:=Kgq.add Kj0
def Jff (x:Int×Int):Int:=Ja [Ja [Jb x.1 (-999999999) 999999999,Jb x.2 1 999999999],bif Ur x.1 x.2 !=1 then 1 else 0]
def Kf6:Con:={args:=[.val true sPt],ress:=[I],owns:=[],pre:=fun _=>[],spec:=fun(x,_)=>(Jff x,())}
def Kds (a:Int×Int):=Ja [Jb a.1 (-999999999) 999999999,Jb a.2 1 999999999]
theorem Khz [Sx.Dr] (x:Int×Int):wpF Tryz.prog Kfc.g (na ()) Tryz.f16 Kf6 (x,()):=by
 refine(by kernel_rfl:(2≤1000000∧Br (Kds x !=0) (Kds x=Jff x) (((Z20≤x.1∧x.1≤9200000000000000000)∧0≤x.2∧x.2≤9200000000000000000)∧(bif Ur x.1 x.2 !=1 then 1 else 0)=Jff x))=_).mp ?_
 delta Z20 Kds Br
 refine⟨by decide,fun k=>Jn2 (bne_iff_ne.1 k),fun k=>⟨?_,Jn0 (bne_eq_false_iff_eq.1 k)⟩⟩
 have k:=Ji (bne_eq_false_iff_eq.1 k)
 have k1:=Jc.1 (k _ (List.mem_cons_self ..))
 have k2:=Jc.1 (k _ (List.mem_cons_of_mem _ (List.mem_cons_self ..)))
 omega
theorem Kkb [Sx.Dr]:Ok Tryz.prog 16 Kf6:=Je mixed Kfc.ok (by kernel_rfl) (by kernel_rfl) na fun xx=>Khz xx.1
abbrev Kfb [Sx.Dr]:=Kfc.add Kkb
def Jgs (a b:Int×Int):Int:=(bif decide (b.1*a.2<a.1*b.2) then 1 else 0)-(bif decide (a.1*b.2<b.1*a.2) then 1 else 0)
def Jzn:Con:={args:=[.val true sPt, .val true sPt],ress:=[I],owns:=[],pre:=fun(a,b,_)=>[-9223372036854775808≤a.1*b.2∧a.1*b.2≤9223372036854775807,-9223372036854775808≤b.1*a.2∧b.1*a.2≤9223372036854775807],spec:=fun(a,b,_)=>(Jgs a b,())}
def Kbs (a b:Int×Int):=(bif decide (a.1*b.2<b.1*a.2) then(1:Int) else(0:Int))-bif decide (b.1*a.2<a.1*b.2) then(1:Int) else(0:Int)
theorem Khy [Sx.Dr] (a b:Int×Int):wpF Tryz.prog Kfb.g (na ()) Tryz.f17 Jzn (a,b,()):=by
 refine(by kernel_rfl:(Iw (a.1*b.2)→Iw (b.1*a.2)→(Iw (a.1*b.2)∧Iw (b.1*a.2))∧Iw (Kbs b a)∧Kbs b a=Jgs a b)=_).mp ?_
 delta Kbs Iw
 intro h1 h2
 refine⟨⟨h1,h2⟩, ?_,rfl⟩
 cases decide (b.1*a.2<a.1*b.2)<;>cases decide (a.1*b.2<b.1*a.2)<;>decide
theorem Kka [Sx.Dr]:Ok Tryz.prog 17 Jzn:=Je mixed Kfb.ok (by kernel_rfl) (by kernel_rfl) na fun xx=>Khy xx.1 xx.2.1
abbrev Kgp [Sx.Dr]:=Kfb.add Kka
def Jrl (n:Int):ByteArray:=⟨⟨[UInt8.ofNat (IntKind.u8.wrap (48+n)).toNat]⟩⟩
def Kkw:Con:={args:=[aI],ress:=[tS],owns:=[],pre:=fun(n,_)=>[0≤n∧n<10],spec:=fun(n,_)=>(Jrl n,())}
theorem Ki6 [Sx.Dr]:Ok Tryz.prog 57 Kkw:=okW Kgp Tryz.f57 na fun xx=>by
 obtain⟨(n:Int),_⟩:=xx
 refine(by kernel_rfl:(Bd n 10→Br (decide (n<0)) (Br (decide ((-10)<n)) (Jwx 3 2) (Jwx 4 2)) (Br (decide (n<10)) ((Iw (48+n)∧0<1)∧ByteArray.mk (Array.mk [UInt8.ofNat (Int.toNat (IntKind.wrap IntKind.u8 (48+n)))])=Jrl n) (Jwx 7 2)))=_).mp ?_
 delta Br Iw Bd
 intro h
 refine⟨fun k=>absurd (of_decide_eq_true k) (by omega),fun _=>⟨fun _=>⟨⟨by omega,by decide⟩,rfl⟩,fun k=>absurd (of_decide_eq_false k) (by omega)⟩⟩
abbrev Kgo [Sx.Dr]:=Kgp.add Ki6
def J71:Con:={args:=[.val false (.list 48 (.prod sI (.prod .str sI)))],ress:=[(false, .list 107 (.prod sI (.prod .str sI)))],owns:=[true],pre:=fun(l,_)=>[l.length≤1000000],spec:=fun(l,_)=>(l,())}
abbrev J8d (l:List (Int×ByteArray×Int)):Ann:={X:=Nat,σ:=fun k=>⟨2,[(3, .one (.sl 1)),(6, .one (.sl 0)),(7, .one (.int .i64 l.length)),(8, .one (.int .i64 k))],[(0, .imm 48 (.prod sI (.prod .str sI)) l),(1, .own 107 (.prod sI (.prod .str sI)) (l.take k))]⟩,inv:=fun k=>k≤l.length,mu:=fun k=>l.length-k}
def Z63 (a:List (Int×Bt×Int)):=Ln a
def Z71 (a:List (Int×Bt×Int)):=List.length a
def Z74 (a:Nat) (b:List (Int×Bt×Int)):=List.take a b
def Z94 (a:Nat) (b:List (Int×Bt×Int)):=a≤Z71 b
def Ked (a:Nat) (b:List (Int×Bt×Int)):=List.length (Z74 a b)
theorem Kkg [Sx.Dr]:Ok Tryz.prog 10 J71:=okW Kgo Tryz.f10 (fun xx=>Vi (J8d xx.1)) fun xx=>by
 obtain⟨(l:List (Int×ByteArray×Int)),_⟩:=xx
 refine(by kernel_rfl:(Z71 l≤1000000→∃(x:Nat),Si (Z63 l) (0=Nc x∧Sf l (Ked x l=0))∧Z94 x l∧∀(x:Nat),Z94 x l→Br (decide (Nc x<Z63 l)) (Tw (Bd (Nc x) (Z63 l))∧(Ked x l+1)*32≤140737488355328∧Z1 x∧∃(y:Nat),Si (Z63 l) (Z25 x y∧Sf l (Z74 x l++((List.getD l x Z0).1,E2 (List.getD l x Z0).2)::Z54=Z74 y l))∧Z94 y l∧Z71 l-y<Z71 l-x) (Z74 x l=l))=_).mp ?_
 delta Z0 Z1 Z25 Z54 Z63 Z71 Z74 Z94 Ked Br Iw Bd Tw Sf Si Ln Nc B0 E2
 intro hl
 refine⟨(0:Nat),⟨rfl,rfl,rfl,rfl⟩,Nat.zero_le _,fun(k:Nat) hk=>⟨fun h=> ?_,fun h=> ?_⟩⟩
 ·have hlt:k<l.length:=by simpa using h
  have hn:(l.take k).length≤l.length:=by rw[List.length_take];omega
  exact⟨⟨by omega,by omega⟩,by omega,by omega,(k+1:Nat),⟨rfl,by simp,rfl,Jy (d:=((0:Int),(⟨⟨[]⟩⟩:ByteArray),(0:Int))) hlt⟩,by omega,by omega⟩
 ·have hge:¬k<l.length:=by simpa using h
  rw[List.take_of_length_le (by omega)]
abbrev Kgn [Sx.Dr]:=Kgo.add Kkg
def sGa:ByteArray:=⟨⟨[103,97]⟩⟩
def sBa:ByteArray:=⟨⟨[98,97]⟩⟩
def sBb:ByteArray:=⟨⟨[98,98]⟩⟩
def sGb:ByteArray:=⟨⟨[103,98]⟩⟩
def sCa:ByteArray:=⟨⟨[99,97]⟩⟩
def sCb:ByteArray:=⟨⟨[99,98]⟩⟩
def sEe:ByteArray:=⟨⟨[101]⟩⟩
def Jx6 (i:Nat):Sec:=((⟨⟨[115]⟩⟩:ByteArray)++Jrl i,false)
def Kfl (i:Nat):Sw:=((⟨⟨[105]⟩⟩:ByteArray)++Jrl i,Jw3,i+1,i+2,true)
def Jgp (k:Nat):List Sec:=[(sGa,true),(sBa,false)]++(List.range k).map Jx6
def swK (n:Int) (k:Nat):List Sw:=[(sCa,Jsn,0,1,true),(sCb,Jsn,n+2,n+3,true)]++(List.range k).map Kfl
theorem Jmh (k:Nat):Jgp (k+1)=Jgp k++[Jx6 k]:=by simp[Jgp,List.range_succ]
theorem Jp3 (n:Int) (k:Nat):swK n (k+1)=swK n k++[Kfl k]:=by simp[swK,List.range_succ]
theorem Jif (k:Nat):(Jgp k).length=k+2:=by simp[Jgp]
theorem Jl4 (n:Int) (k:Nat):(swK n k).length=k+2:=by simp[swK]
def Jlj (n k:Int):Yd:=(Jgp n.toNat++[(sBb,false),(sGb,true)],swK n (n+1).toNat++[(sEe,Jkl,k+2,-1,false)],[])
def J7y:Con:={args:=[aI,aI],ress:=[(true,sYd)],owns:=[],pre:=fun(n,k,_)=>[0≤n∧n≤8,0≤k∧k≤8],spec:=fun(n,k,_)=>(Jlj n k,())}
abbrev nl:SC:= .val (.slice none 0 0)
abbrev J8c (n k:Int):Nat→Option Ann:=fun i=>
 if i=0 then some {X:=Nat,σ:=fun j=>⟨4,[(0, .one (.int .i64 n)),(1, .one (.int .i64 k)),(4, .one (.ptr 0 0)),(5, .one (.ptr 2 0)),(12, .one (.int .i64 n)),(13, .one (.int .i64 j))],[(0, .box 100 [nl,nl,nl]),(2, .box 100 [.sl 3,nl,nl]),(3, .own 135 Jig (Jgp j))]⟩,inv:=fun j=>(j:Int)≤n,mu:=fun j=>n.toNat-j}
 else if i=2 then some {X:=Nat,σ:=fun j=>⟨5,[(0, .one (.int .i64 n)),(1, .one (.int .i64 k)),(4, .one (.ptr 0 0)),(5, .one (.ptr 2 0)),(42, .one (.int .i64 (n+1))),(43, .one (.int .i64 j))],[(0, .box 100 [nl,nl,nl]),(2, .box 100 [.sl 3, .sl 4,nl]),(3, .own 135 Jig (Jgp n.toNat++[(sBb,false),(sGb,true)])),(4, .own 137 sSw (swK n j))]⟩,inv:=fun j=>(j:Int)≤n+1,mu:=fun j=>(n+1).toNat-j}
 else none
def Z11:List (ByteArray×Bool):=[]
def Z50:=Value.slice none 0 0
def Keu:=(sBb,false)::(sGb,true)::Z11
def J4o:List (ByteArray×ByteArray×Int×Int×Bool):=[]
def Keq (a:Int):=Jgp (Int.toNat a)++Keu
def Kep (a:Int):=Jgp (Int.toNat a)++Keu
def Kcy (a:Int) (b:Nat):=(List.length (swK a b)+1)*56≤140737488355328
theorem Kj1 [Sx.Dr]:Ok Tryz.prog 26 J7y:=okW Kgn Tryz.f26 (fun xx=>J8c xx.1 xx.2.1) fun xx=>by
 obtain⟨(n:Int),(k:Int),_⟩:=xx
 refine(by kernel_rfl:(0≤n∧n≤8→0≤k∧k≤8→∃(x:Nat),Si n (Si k (Si n (0=Nc x∧Sf Z50 (Sf Z50 (Sf Z50 (Sf Z50 (Sf Z50 ((ByteArray.mk (Array.mk [103,97]),true)::(ByteArray.mk (Array.mk [98,97]),false)::Z11=Jgp x))))))))∧Int.instLEInt.1 (Nc x) n∧∀(x:Nat),Int.instLEInt.1 (Nc x) n→Br (decide (Nc x<n)) ((Bd (Nc x) 10∧Nc (1+ByteArray.size (Jrl (Nc x)))≤9223372036854775807∧(List.length (Jgp x)+1)*24≤140737488355328)∧Z1 x∧∃(y:Nat),Si n (Si k (Si n (Z25 x y∧Sf Z50 (Sf Z50 (Sf Z50 (Sf Z50 (Sf Z50 (Jgp x++(ByteArray.mk (Array.mk (115::([]++(Jrl (Nc x)).data.toList))),false)::Z11=Jgp y))))))))∧Int.instLEInt.1 (Nc y) n∧Int.toNat n-y<Int.toNat n-x) ((List.length (Jgp x)+2)*24≤140737488355328∧(Iw (n+2)∧Iw (n+3))∧Iw (n+1)∧∃(x_1:Nat),Si n (Si k (Si (n+1) (0=Nc x_1∧Sf Z50 (Sf Z50 (Sf Z50 (Sf Z50 (Jgp x++(ByteArray.mk (Array.mk [98,98]),false)::(ByteArray.mk (Array.mk [103,98]),true)::Z11=Keq n∧(ByteArray.mk (Array.mk [99,97]),Jwi,0,1,true)::(ByteArray.mk (Array.mk [99,98]),Jwi,n+2,n+3,true)::J4o=swK n x_1)))))))∧Int.instLEInt.1 (Nc x_1) (n+1)∧∀(x:Nat),Int.instLEInt.1 (Nc x) (n+1)→Br (decide (Nc x<n+1)) ((Bd (Nc x) 10∧Nc (1+ByteArray.size (Jrl (Nc x)))≤9223372036854775807∧Z1 x∧Iw (Nc x+2)∧Kcy n x)∧Z1 x∧∃(y:Nat),Si n (Si k (Si (n+1) (Z25 x y∧Sf Z50 (Sf Z50 (Sf Z50 (Sf Z50 (Kep n=Keq n∧swK n x++(ByteArray.mk (Array.mk (105::([]++(Jrl (Nc x)).data.toList))),J0t,Nc x+1,Nc x+2,true)::J4o=swK n y)))))))∧Int.instLEInt.1 (Nc y) (n+1)∧Int.toNat (n+1)-y<Int.toNat (n+1)-x) ((Iw (k+2)∧Kcy n x)∧(Kep n,swK n x++(ByteArray.mk (Array.mk [101]),Jt5,k+2,Z17,false)::J4o,[])=Jlj n k)))=_).mp ?_
 delta Z1 Z11 Z17 Z25 Z50 Keu J4o Keq Kep Jt5 Jwi J0t Kcy Br Iw Bd Sf Si Nc
 intro hn hk
 have dsz:∀i,(Jrl i).size=1:=fun _=>rfl
 refine⟨(0:Nat),⟨rfl,rfl,rfl,rfl,rfl,rfl,rfl,rfl,rfl,rfl⟩,hn.1,fun(i:Nat) hi=>⟨fun h=> ?_,fun h=> ?_⟩⟩
 ·have h:=of_decide_eq_true h
  have l1:=Jif i
  refine⟨⟨by omega,by rw[dsz];omega,by omega⟩,by omega,(i+1:Nat),⟨rfl,rfl,rfl,by simp,rfl,rfl,rfl,rfl,rfl, ?_⟩, ?_,by omega⟩
  ·rw[Jmh];rfl
  ·show((i+1:Nat):Int)≤n
   omega
 ·have hi:(i:Int)≤n:=hi
  have h:=of_decide_eq_false h
  have hin:i=n.toNat:=by omega
  subst hin
  have l1:=Jif n.toNat
  refine⟨by omega,by omega,by omega,(0:Nat),⟨rfl,rfl,rfl,rfl,rfl,rfl,rfl,rfl,rfl,rfl⟩, ?_,fun(j:Nat) hj=>⟨fun h=> ?_,fun h=> ?_⟩⟩
  ·show(0:Int)≤n+1
   omega
  ·have h:=of_decide_eq_true h
   have l2:=Jl4 n j
   refine⟨⟨by omega,by rw[dsz];omega,by omega,by omega,by omega⟩,by omega,(j+1:Nat),⟨rfl,rfl,rfl,by simp,rfl,rfl,rfl,rfl,rfl, ?_⟩, ?_,by omega⟩
   ·rw[Jp3];rfl
   ·show((j+1:Nat):Int)≤n+1
    omega
  ·have hj:(j:Int)≤n+1:=hj
   have h:=of_decide_eq_false h
   have hjn:j=(n+1).toNat:=by omega
   subst hjn
   have l2:=Jl4 n (n+1).toNat
   exact⟨⟨by omega,by omega⟩,rfl⟩
abbrev Kfa [Sx.Dr]:=Kgn.add Kj1
end Go.Proofs.YthchfepplbcdeaaGreatDoor

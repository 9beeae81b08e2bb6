/- Contracts of the functions that the law reaches: part of the proof. -/
import Derived.Test.YtkhdpgadionfnaaGreatProg
import Derived.Test.YtkhdpgadionfnaaGreatSxC
import Derived.Test.YtkhdpgadionfnaaGreatLayA
import Derived.KernelRfl
import Derived.Laws.Entries
set_option linter.unusedSimpArgs false
set_option linter.unusedVariables false
set_option maxRecDepth 20000
namespace Go.Proofs.YtkhdpgadionfnaaGreat
open Go.Sx
abbrev I:Bool×Sch:=(false, .int .i64)
abbrev Bo:Bool×Sch:=(false, .bool)
abbrev aI:AK:= .val false (.int .i64)
abbrev aB:AK:= .val false .bool
abbrev aS:AK:= .val false .str
abbrev sI:Sch:= .int .i64
abbrev sPt:Sch:= .prod sI sI
abbrev Pr:Bool×Sch:=(true, .prod sI sI)
abbrev aP:AK:= .val true sPt
abbrev W0 [Sx.Dr]:GW Tryz.prog:=⟨[], .nil _⟩
theorem mixed:Tryz.prog.follows .mixedOrders=true:=by kernel_rfl
theorem okW [Sx.Dr] {f:FuncId} {c:Con} (W:GW Tryz.prog) (fn:Func) (ann:ATup c.args→Nat→Option Ann) (h:∀x:ATup c.args,wpF Tryz.prog W.g (ann x) fn c x) (h1:Tryz.prog.funcs[f]? =some fn:=by kernel_rfl) (h2:Ly fn c=true:=by kernel_rfl):Ok Tryz.prog f c:=Jn mixed W.ok h1 h2 ann h
theorem Jwi [Sx.Dr] {f:FuncId} {c:Con} {lib:FuncId→Option Func} (W:GW Tryz.prog) (fn:Func) (hl:∀f fn,lib f=some fn→Tryz.prog.funcs[f]? =some fn) (ann:ATup c.args→Nat→Option Ann) (annF:ATup c.args→FuncId→Nat→Option Ann) (h:∀x:ATup c.args,wpFG Tryz.prog W.g (ann x) (annF x) lib fn c x) (h1:Tryz.prog.funcs[f]? =some fn:=by kernel_rfl) (h2:Ly fn c=true:=by kernel_rfl):Ok Tryz.prog f c:=F6 mixed W.ok h1 h2 hl ann annF h
abbrev na {α:Type}:α→Nat→Option Ann:=fun _ _=>none
abbrev Yl (A:Ann):Nat→Option Ann:=fun k=>if k=0 then some A else none
def Juq:Con:={args:=[aB,aI],ress:=[I],owns:=[],pre:=fun _=>[],spec:=fun(b,e,_)=>(bif b then e else 0,())}
def Jvz (a:Bool) (b:Int):=Br a (b=bif a then b else 0) (0=bif a then b else 0)
theorem J8y [Sx.Dr]:Ok Tryz.prog 56 Juq:=okW W0 Tryz.f56 na fun xx=>by
 obtain⟨(b:Bool),(e:Int),_⟩:=xx
 refine(by kernel_rfl:(Jvz b e)=_).mp ?_
 delta Jvz Br
 cases b<;>simp
abbrev W1 [Sx.Dr]:=W0.add J8y
theorem J85 [Sx.Dr]:Ok Tryz.prog 48 Juq:=okW W1 Tryz.f48 na fun xx=>by
 obtain⟨(b:Bool),(e:Int),_⟩:=xx
 refine(by kernel_rfl:(Jvz b e)=_).mp ?_
 delta Jvz Br
 cases b<;>simp
abbrev W2 [Sx.Dr]:=W1.add J85
def Jh (n lo hi:Int):Int:=bif decide (n<lo)||decide (hi<n) then 3 else 0
def Job:Con:={args:=[aI,aI,aI],ress:=[I],owns:=[],pre:=fun _=>[],spec:=fun(n,lo,hi,_)=>(Jh n lo hi,())}
def J0i (a b c:Int):=(bif bif decide (a<b) then true else decide (c<a) then 3 else 0)=Jh a b c
theorem J9k [Sx.Dr]:Ok Tryz.prog 27 Job:=okW W2 Tryz.f27 na fun xx=>by
 obtain⟨(n:Int),(lo:Int),(hi:Int),_⟩:=xx
 refine(by kernel_rfl:(J0i n lo hi)=_).mp ?_
 delta J0i
 unfold Jh;cases decide (n<lo)<;>rfl
abbrev W3 [Sx.Dr]:=W2.add J9k
theorem J86 [Sx.Dr]:Ok Tryz.prog 47 Job:=okW W3 Tryz.f47 na fun xx=>by
 obtain⟨(n:Int),(lo:Int),(hi:Int),_⟩:=xx
 refine(by kernel_rfl:(J0i n lo hi)=_).mp ?_
 delta J0i
 unfold Jh;cases decide (n<lo)<;>rfl
abbrev W4 [Sx.Dr]:=W3.add J86
def Ja:List Int→Int
 |[]=>0
 |x::l=>if x=0 then Ja l else x
theorem Xg {l:List Int} {k:Nat} (h:k<l.length):Ja (l.drop k)=if l.getD k 0=0 then Ja (l.drop (k+1)) else l.getD k 0:=by
 rw[List.drop_eq_getElem_cons h]
 simp[Ja,List.getD_eq_getElem?_getD,h]
def Jsq:Con:={args:=[.val false (.list 36 sI)],ress:=[I],owns:=[],pre:=fun(l,_)=>[l.length≤1000000],spec:=fun(l,_)=>(Ja l,())}
abbrev Jj8 (l:List Int):Ann:={X:=Nat,σ:=fun k=>⟨1,[(5, .one (.sl 0)),(6, .one (.int .i64 l.length)),(7, .one (.int .i64 k))],[(0, .imm 36 sI l)]⟩,inv:=fun k=>k≤l.length∧Ja l=Ja (l.drop k),mu:=fun k=>l.length-k}
def Z2 (a:Nat):=Iw (Nc a+1)
def Z4 (a:Li) (b:Nat):=List.getD a b 0
def Z12 (a:Li):=List.length a≤1000000
def Z24 (a:Nat) (b:Li):=Tw (Bd (Nc a) (Ln b))
def Z27 (a:Nat) (b:Li):=decide (Nc a<Ln b)
def Z29 (a b:Nat):=Nc a+1=Nc b
def Z77 (a:Li) (b:Nat):=Si (Ln a) (0=Nc b∧a=a)
def Jrl (a:Li) (b c:Nat):=Si (Ln a) (Z29 b c∧a=a)
def Jo6 (a:Nat) (b:Li):=a≤List.length b∧Ja b=Ja (List.drop a b)
def Ju9 (a:Li) (b:Nat):=Z4 a b !=0
def Ju8 (a:Nat) (b:Li) (c:Nat):=Jo6 a b∧List.length b-a<List.length b-c
def Jy4 (a:Li):=Z12 a→∃(x:Nat),Z77 a x∧Jo6 x a∧∀(x:Nat),Jo6 x a→Br (Z27 x a) (Z24 x a∧Br (Ju9 a x) (Z4 a x=Ja a) (Z2 x∧∃(y:Nat),Jrl a x y∧Ju8 y a x)) (0=Ja a)
theorem J9q [Sx.Dr]:Ok Tryz.prog 21 Jsq:=okW W4 Tryz.f21 (fun xx=>Yl (Jj8 xx.1)) fun xx=>by
 obtain⟨(l:List Int),_⟩:=xx
 refine(by kernel_rfl:(Jy4 l)=_).mp ?_
 delta Z2 Z4 Z12 Z24 Z27 Z29 Z77 Jrl Jo6 Ju9 Ju8 Jy4 Br Iw Bd Tw Si Ln Nc
 intro hb
 refine⟨(0:Nat),⟨rfl,rfl,rfl⟩,⟨Nat.zero_le _,rfl⟩,fun(k:Nat) hk=>⟨fun h=> ?_,fun h=> ?_⟩⟩
 ·have hlt:k<l.length:=by simpa using h
  have hd:=Xg hlt
  refine⟨by omega,fun h1=> ?_,fun h1=>⟨by omega,(k+1:Nat),⟨rfl,by simp,rfl⟩,⟨by omega, ?_⟩,by omega⟩⟩
  ·have h2:¬l.getD k 0=0:=by simpa using h1
   rw[hk.2,hd,if_neg h2]
  ·have h2:l.getD k 0=0:=by simpa using h1
   rw[hk.2,hd,if_pos h2]
 ·have hlt:¬k<l.length:=by simpa using h
  have:k=l.length:=by omega
  rw[hk.2,this,List.drop_length];rfl
abbrev W5 [Sx.Dr]:=W4.add J9q
def Jut:Con:={args:=[.val false (.list 3 sI)],ress:=[I],owns:=[],pre:=fun(l,_)=>[l.length≤1000000],spec:=fun(l,_)=>(Ja l,())}
abbrev Jou (l:List Int):Ann:={X:=Nat,σ:=fun k=>⟨1,[(0, .one (.sl 0)),(3, .one (.int .i64 k))],[(0, .imm 3 sI l)]⟩,inv:=fun k=>k≤l.length∧Ja l=Ja (l.drop k),mu:=fun k=>l.length-k}
theorem J87 [Sx.Dr]:Ok Tryz.prog 46 Jut:=okW W5 Tryz.f46 (fun xx=>Yl (Jou xx.1)) fun xx=>by
 obtain⟨(l:List Int),_⟩:=xx
 refine(by kernel_rfl:(Z12 l→∃(x:Nat),(0=Nc x∧l=l)∧Jo6 x l∧∀(x:Nat),Jo6 x l→Br (Z27 x l) (Z24 x l∧Br (Ju9 l x) (Z24 x l∧Z4 l x=Ja l) (Z2 x∧∃(y:Nat),(Z29 x y∧l=l)∧Ju8 y l x)) (0=Ja l))=_).mp ?_
 delta Z2 Z4 Z12 Z24 Z27 Z29 Jo6 Ju9 Ju8 Br Iw Bd Tw Ln Nc
 intro hb
 refine⟨(0:Nat),⟨rfl,rfl⟩,⟨Nat.zero_le _,rfl⟩,fun(k:Nat) hk=>⟨fun h=> ?_,fun h=> ?_⟩⟩
 ·have hlt:k<l.length:=by simpa using h
  have hd:=Xg hlt
  refine⟨by omega,fun h1=>⟨by omega, ?_⟩,fun h1=>⟨by omega,(k+1:Nat),⟨by simp,rfl⟩,⟨by omega, ?_⟩,by omega⟩⟩
  ·have h2:¬l.getD k 0=0:=by simpa using h1
   rw[hk.2,hd,if_neg h2]
  ·have h2:l.getD k 0=0:=by simpa using h1
   rw[hk.2,hd,if_pos h2]
 ·have hlt:¬k<l.length:=by simpa using h
  have:k=l.length:=by omega
  rw[hk.2,this,List.drop_length];rfl
abbrev W6 [Sx.Dr]:=W5.add J87
def Y0 (a b:Int):Int:=Int.gcd a b
def Jrb:Con:={args:=[aI,aI],ress:=[I],owns:=[],pre:=fun(n,den,_)=>[-9200000000000000000≤n∧n≤9200000000000000000,0≤den∧den≤9200000000000000000],spec:=fun(n,den,_)=>(Y0 n den,())}
theorem Jqy (a b n den:Int) (h:Int.gcd a b=Int.gcd n den):Int.gcd b (a.tmod b)=Int.gcd n den:=by
 rw[←h,Int.gcd_comm a b]
 unfold Int.gcd
 rw[Int.natAbs_tmod,Nat.gcd_comm,←Nat.gcd_rec]
theorem Jtb {a b:Int} (hb:b≠0):(a.tmod b).natAbs<b.natAbs:=by rw[Int.natAbs_tmod];exact Nat.mod_lt _ (by omega)
abbrev Jx2 (n den:Int):Ann:={X:=Int×Int,σ:=fun(a,b)=>⟨0,[(0, .one (.int .i64 a)),(1, .one (.int .i64 b))],[]⟩,inv:=fun(a,b)=> -9200000000000000000≤a∧a≤9200000000000000000∧-9200000000000000000≤b∧b≤9200000000000000000∧Int.gcd a b=Int.gcd n den,mu:=fun(_,b)=>b.natAbs}
def Z19:=(-9200000000000000000)
def Z88 (a:Int):=Z19≤a∧a≤9200000000000000000
def Jzu (a:Int×Int) (b c:Int):=Z19≤a.1∧a.1≤9200000000000000000∧Z19≤a.2∧a.2≤9200000000000000000∧Int.gcd a.1 a.2=Int.gcd b c
theorem J8l [Sx.Dr]:Ok Tryz.prog 72 Jrb:=okW W6 Tryz.f72 (fun xx=>Yl (Jx2 xx.1 xx.2.1)) fun xx=>by
 obtain⟨(n:Int),(den:Int),_⟩:=xx
 refine(by kernel_rfl:(Z88 n→0≤den∧den≤9200000000000000000→∃(x:Int×Int),(n=x.1∧den=x.2)∧Jzu x n den∧∀(x:Int×Int),Jzu x n den→Br (x.2 !=0) ((x.2=0→False)∧∃(y:Int×Int),(x.2=y.1∧Int.tmod x.1 x.2=y.2)∧Jzu y n den∧Int.natAbs y.2<Int.natAbs x.2) (Iw (0-x.1)∧max x.1 (0-x.1)=Y0 n den))=_).mp ?_
 delta Z19 Z88 Jzu Br Iw
 intro h1 h2
 refine⟨(n,den),⟨rfl,rfl⟩,⟨by simp only;omega,by simp only;omega,by simp only;omega,by simp only;omega,rfl⟩, ?_⟩
 rintro⟨a,b⟩ ⟨i1,i2,i3,i4,i5⟩
 dsimp only at i1 i2 i3 i4 i5⊢
 refine⟨fun h=> ?_,fun h=> ?_⟩
 ·have hb:b≠0:=by simpa using h
  have hl:=Jtb (a:=a) hb
  exact⟨hb,(b,a.tmod b),⟨rfl,rfl⟩,⟨i3,i4,by dsimp only;omega,by dsimp only;omega,Jqy a b n den i5⟩,hl⟩
 ·have hb:b=0:=by simpa using h
  subst hb
  have e:Y0 n den=a.natAbs:=by unfold Y0;rw[←i5];simp
  rw[e]
  exact⟨by omega,by omega⟩
abbrev W7 [Sx.Dr]:=W6.add J8l
def Jr (n d:Int):Int×Int:=(n.tdiv (Y0 n d),d.tdiv (Y0 n d))
theorem Ye {n d:Int} (h:0<d):0<Y0 n d:=by
 unfold Y0
 have:=Nat.gcd_pos_of_pos_right (m:=n.natAbs) (n:=d.natAbs) (by omega)
 unfold Int.gcd
 omega
theorem Hd {a g B:Int} (h: -B≤a∧a≤B): -B≤a.tdiv g∧a.tdiv g≤B:=by
 have h1:(a.tdiv g).natAbs≤a.natAbs:=by rw[Int.natAbs_tdiv];exact Nat.div_le_self _ _
 omega
theorem Jes {n d:Int} (h:0<d):0<d.tdiv (Y0 n d):=by
 have h1:=Ye (n:=n) h
 have h2:Y0 n d∣d:=Int.gcd_dvd_right n d
 obtain⟨k,hk⟩:=h2
 have h3:d.tdiv (Y0 n d)=k:=by
  rw[Int.tdiv_eq_ediv_of_nonneg (by omega)]
  exact Int.ediv_eq_of_eq_mul_right (by omega) hk
 rw[h3]
 rcases Int.lt_or_le 0 k with hk'|hk'
 ·exact hk'
 ·have:=Int.mul_nonpos_of_nonneg_of_nonpos (Int.le_of_lt h1) hk'
  omega
theorem Ld {a b A B:Int} (ha: -A≤a∧a≤A) (hb: -B≤b∧b≤B): -(A*B)≤a*b∧a*b≤A*B:=by
 have h1:(a*b).natAbs≤A.natAbs*B.natAbs:=by rw[Int.natAbs_mul];exact Nat.mul_le_mul (by omega) (by omega)
 have h2:((A.natAbs*B.natAbs:Nat):Int)=A*B:=by
  rw[Int.natCast_mul]
  congr 1<;>omega
 omega
def Jur:Con:={args:=[aI,aI],ress:=[Pr],owns:=[],pre:=fun(n,den,_)=>[-9200000000000000000≤n∧n≤9200000000000000000,0<den∧den≤9200000000000000000],spec:=fun(n,den,_)=>(Jr n den,())}
theorem J8t [Sx.Dr]:Ok Tryz.prog 61 Jur:=okW W7 Tryz.f61 na fun xx=>by
 obtain⟨(n:Int),(den:Int),_⟩:=xx
 refine(by kernel_rfl:(Z88 n→0<den∧den≤9200000000000000000→(Z88 n∧0≤den∧den≤9200000000000000000)∧((Y0 n den=0→False)∧Iw (Int.tdiv n (Y0 n den))∧(Y0 n den=0→False)∧Iw (Int.tdiv den (Y0 n den)))∧(Int.tdiv n (Y0 n den),Int.tdiv den (Y0 n den))=Jr n den)=_).mp ?_
 delta Z19 Z88 Iw
 intro h1 h2
 have hg:=Ye (n:=n) h2.1
 have b1:=Hd (g:=Y0 n den) (B:=9200000000000000000) ⟨by omega,h1.2⟩
 have b2:=Hd (a:=den) (g:=Y0 n den) (B:=9200000000000000000) ⟨by omega,h2.2⟩
 exact⟨by omega,⟨by omega,by omega,by omega,by omega⟩,rfl⟩
abbrev W8 [Sx.Dr]:=W7.add J8t
def Jxp:Con:={args:=[aI,aI],ress:=[I],owns:=[],pre:=fun(n,d,_)=>[-1000000000000000≤n∧n≤1000000000000000,0<d∧d≤1000000000000000],spec:=fun(n,d,_)=>(n/d,())}
theorem Jge {n d:Int} (h:0<d):(n<n.tdiv d*d→n.tdiv d-1=n/d)∧(¬n<n.tdiv d*d→n.tdiv d=n/d):=by
 have h1:=Int.ediv_mul_add_emod n d
 have h2:=Int.emod_nonneg n (by omega:d≠0)
 have h4:=Int.emod_lt_of_pos n h
 have h3:=Int.tdiv_eq_ediv (a:=n) (b:=d)
 rw[Int.sign_eq_one_of_pos h] at h3
 split at h3
 ·rw[Int.add_zero] at h3
  rw[h3]
  exact⟨fun h=>by omega,fun _=>rfl⟩
 ·rw[h3]
  have e:(n/d+1)*d=n/d*d+d:=by rw[Int.add_mul,Int.one_mul]
  rw[e]
  exact⟨fun _=>by omega,fun h=>by omega⟩
theorem J9m [Sx.Dr]:Ok Tryz.prog 25 Jxp:=okW W8 Tryz.f25 na fun xx=>by
 obtain⟨(n:Int),(d:Int),_⟩:=xx
 refine(by kernel_rfl:((-1000000000000000)≤n∧n≤1000000000000000→0<d∧d≤1000000000000000→((d=0→False)∧Iw (Int.tdiv n d))∧Iw (Int.tdiv n d*d)∧Br (decide (n<Int.tdiv n d*d)) (Iw (Int.tdiv n d-1)∧Int.tdiv n d-1=n/d) (Int.tdiv n d=n/d))=_).mp ?_
 delta Br Iw
 intro h1 h2
 have b:=Hd (a:=n) (g:=d) (B:=1000000000000000) ⟨by omega,h1.2⟩
 have b2:(n.tdiv d*d).natAbs≤n.natAbs:=by rw[Int.natAbs_mul,Int.natAbs_tdiv];exact Nat.div_mul_le_self _ _
 have hk:=Jge (n:=n) h2.1
 refine⟨by omega,by omega,fun h=>⟨by omega,hk.1 (by simpa using h)⟩,fun h=>hk.2 (by simpa using h)⟩
abbrev W9 [Sx.Dr]:=W8.add J9m
def Vk (n d:Int):Int:=(2*n+d)/(2*d)
def Jsl:Con:={args:=[aI,aI],ress:=[I],owns:=[],pre:=fun(n,d,_)=>[-400000000000000≤n∧n≤400000000000000,0<d∧d≤100000000],spec:=fun(n,d,_)=>(Vk n d,())}
def Z15:=(-400000000000000)
theorem J91 [Sx.Dr]:Ok Tryz.prog 10 Jsl:=okW W9 Tryz.f10 na fun xx=>by
 obtain⟨(n:Int),(d:Int),_⟩:=xx
 refine(by kernel_rfl:(Z15≤n∧n≤400000000000000→0<d∧d≤100000000→(Iw (2*n)∧Iw (2*n+d)∧Iw (2*d)∧((-1000000000000000:Int)≤2*n+d∧2*n+d≤1000000000000000)∧(0:Int)<2*d∧2*d≤1000000000000000)∧(2*n+d)/(2*d)=Vk n d)=_).mp ?_
 delta Z15 Iw
 intro h1 h2
 exact⟨⟨by omega,by omega,by omega,by omega,by omega⟩,rfl⟩
abbrev W10 [Sx.Dr]:=W9.add J91
def Z57 (a b:Int):=Int.tdiv (2*a+b) (2*b)
theorem J9f [Sx.Dr]:Ok Tryz.prog 32 Jsl:=okW W10 Tryz.f32 na fun xx=>by
 obtain⟨(n:Int),(d:Int),_⟩:=xx
 refine(by kernel_rfl:(Z15≤n∧n≤400000000000000→0<d∧d≤100000000→(Iw (2*n)∧Iw (2*n+d)∧Iw (2*d))∧((2*d=0→False)∧Iw (Z57 n d))∧Iw (Z57 n d*(2*d))∧Br (decide (2*n+d<Z57 n d*(2*d))) (Iw (Z57 n d-1)∧Z57 n d-1=Vk n d) (Z57 n d=Vk n d))=_).mp ?_
 delta Z15 Z57 Br Iw
 intro h1 h2
 have b:=Hd (a:=2*n+d) (g:=2*d) (B:=1000000000000000) ⟨by omega,by omega⟩
 have b2:((2*n+d).tdiv (2*d)*(2*d)).natAbs≤(2*n+d).natAbs:=by rw[Int.natAbs_mul,Int.natAbs_tdiv];exact Nat.div_mul_le_self _ _
 have hk:=Jge (n:=2*n+d) (d:=2*d) (by omega)
 refine⟨by omega,by omega,by omega,fun h=>⟨by omega,hk.1 (by simpa using h)⟩,fun h=>hk.2 (by simpa using h)⟩
abbrev W11 [Sx.Dr]:=W10.add J9f
def sA:ByteArray:=⟨⟨[65]⟩⟩
def sB:ByteArray:=⟨⟨[66]⟩⟩
def Jhx (s:ByteArray):Int:=bif (!(s.toList==sA.toList))&&(!(s.toList==sB.toList)) then 13 else 0
def Kab:Con:={args:=[aS],ress:=[I],owns:=[],pre:=fun _=>[],spec:=fun(s,_)=>(Jhx s,())}
def Z49:=ByteArray.mk (Array.mk [65])
def Z50:=ByteArray.mk (Array.mk [66])
def Z64 (a:Bt):=Lb a Z50
def Z65 (a:Bt):=Lb a Z49
theorem J9o [Sx.Dr]:Ok Tryz.prog 23 Kab:=okW W11 Tryz.f23 na fun xx=>by
 obtain⟨(s:ByteArray),_⟩:=xx
 refine(by kernel_rfl:((bif bif !Z65 s then !Z64 s else false then 13 else 0)=Jhx s)=_).mp ?_
 delta Z49 Z50 Z64 Z65 Lb
 unfold Jhx
 show(bif bif !s.toList==sA.toList then !s.toList==sB.toList else false then(13:Int) else 0)=_
 cases(s.toList==sA.toList)<;>rfl
abbrev W12 [Sx.Dr]:=W11.add J9o
def Jjy:Con:={args:=[aI],ress:=[I],owns:=[],pre:=fun _=>[],spec:=fun(n,_)=>(Jh n (-8) 8,())}
def Z22:=(-8)
def Z81 (a:Int):=Jh a Z22 8
def J0f (a:Int):=Z81 a=Z81 a
theorem J8u [Sx.Dr]:Ok Tryz.prog 60 Jjy:=okW W12 Tryz.f60 na fun xx=>by
 obtain⟨(n:Int),_⟩:=xx
 refine(by kernel_rfl:(J0f n)=_).mp ?_
 delta Z22 Z81 J0f
 rfl
abbrev W13 [Sx.Dr]:=W12.add J8u
theorem J8o [Sx.Dr]:Ok Tryz.prog 69 Jjy:=okW W13 Tryz.f69 na fun xx=>by
 obtain⟨(n:Int),_⟩:=xx
 refine(by kernel_rfl:(J0f n)=_).mp ?_
 delta Z22 Z81 J0f
 rfl
abbrev W14 [Sx.Dr]:=W13.add J8o
def Jc7 (x:Int×Int):Int:=Ja [Jh x.1 1 100000,Jh x.2 1 64]
def J60:Con:={args:=[aP],ress:=[I],owns:=[],pre:=fun _=>[],spec:=fun(x,_)=>(Jc7 x,())}
theorem J7i [Sx.Dr] (x:Int×Int):wpF Tryz.prog W14.g (na ()) Tryz.f58 J60 (x,()):=by
 refine(by kernel_rfl:(2≤1000000∧Ja [Jh x.1 1 100000,Jh x.2 1 64]=Jc7 x)=_).mp ?_
 exact⟨by simp,rfl⟩
theorem J8w [Sx.Dr]:Ok Tryz.prog 58 J60:=Jn mixed W14.ok (by kernel_rfl) (by kernel_rfl) na fun xx=>J7i xx.1
abbrev W15 [Sx.Dr]:=W14.add J8w
theorem Jp {α:Type} {l:List α} {k:Nat} {d:α} (h:k<l.length):l.getD k d∈l:=by
 simp[List.getD_eq_getElem?_getD,h]
theorem Kn {α:Type} {d:α} {l:List α} {k:Nat} (h:k<l.length):l.take k++[l.getD k d]=l.take (k+1):=by
 rw[List.take_succ_eq_append_getElem h,List.getD_eq_getElem?_getD,List.getElem?_eq_getElem h];rfl
abbrev Jsy (T U:TypeId) (s:Sch) (l:List s.T) (r:Bool×Sch) (g:Bool) (q:Tup [(g,s)]→List Prop) (f:Tup [(g,s)]→r.2.T):Ann:={X:=Nat,σ:=fun k=>⟨3,[(1, .one (.fv 1)),(5, .one (.sl 2)),(8, .one (.sl 0)),(9, .one (.int .i64 l.length)),(10, .one (.int .i64 k))],[(0, .imm T s l),(1, .afn [(g,s)] r q f),(2, .own U r.2 ((l.take k).map fun x=>f (x,())))]⟩,inv:=fun k=>k≤l.length,mu:=fun k=>l.length-k}
def Jxl (T U:TypeId):Con:={args:=[.val false (.list T sI), .fn [I] I],ress:=[(false, .list U sI)],owns:=[true],pre:=fun(l,(q,_),_)=>[l.length≤1000000,∀x∈l,K1 (q (x,()))],spec:=fun(l,(_,f),_)=>(l.map fun x=>f (x,()),())}
def Z85 (a:Int×Unit→Int) (b:Nat) (c:Li):=List.map (fun(x:Int)=>a (x,PUnit.unit)) (List.take b c)
def Jv2 (a:Nat) (b:Li) (c:Nat):=a≤List.length b∧List.length b-a<List.length b-c
theorem J8v [Sx.Dr]:Ok Tryz.prog 59 (Jxl 3 36):=okW W15 Tryz.f59 (fun xx=>Yl (Jsy 3 36 sI xx.1 I false xx.2.1.1 xx.2.1.2)) fun xx=>by
 obtain⟨(l:List Int),⟨(q:Int×Unit→List Prop),(f:Int×Unit→Int)⟩,_⟩:=xx
 refine(by kernel_rfl:(Z12 l→(∀(x:Int),x∈l→K1 (q (x,PUnit.unit)))→∃(x:Nat),Si (Ln l) (0=Nc x∧Sf l ((fun(x:Int×PUnit)=>q x)=q∧(fun(x:Int×PUnit)=>f x)=f∧List.length (Z85 f x l)=0))∧x≤List.length l∧∀(x:Nat),x≤List.length l→Br (Z27 x l) (Z24 x l∧(K1 (q (Z4 l x,PUnit.unit))∧(List.length (Z85 f x l)+1)*8≤140737488355328)∧Z2 x∧∃(y:Nat),Si (Ln l) (Z29 x y∧Sf l ((fun(x:Int×PUnit)=>q x)=q∧(fun(x:Int×PUnit)=>f x)=f∧Z85 f x l++[f (Z4 l x,PUnit.unit)]=Z85 f y l))∧Jv2 y l x) (Z85 f x l=List.map (fun(x:Int)=>f (x,PUnit.unit)) l))=_).mp ?_
 delta Z2 Z4 Z12 Z24 Z27 Z29 Z85 Jv2 Br Iw Bd Tw Sf Si Ln Nc
 intro hb hq
 refine⟨(0:Nat),⟨rfl,rfl,rfl,rfl,rfl,by simp⟩,Nat.zero_le _,fun(k:Nat) hk=>⟨fun h=> ?_,fun h=> ?_⟩⟩
 ·have hlt:k<l.length:=by simpa using h
  refine⟨by omega,⟨hq _ (Jp hlt),by simp only[List.length_map,List.length_take];omega⟩,by omega,(k+1:Nat),⟨rfl,by simp,rfl,rfl,rfl, ?_⟩,by omega,by omega⟩
  rw[←Kn (d:=0) hlt,List.map_append];rfl
 ·have hlt:¬k<l.length:=by simpa using h
  rw[List.take_of_length_le (by omega)]
abbrev W16 [Sx.Dr]:=W15.add J8v
def Jxk:Con:={args:=[.val false (.list 59 sPt), .fn [Pr] I],ress:=[(false, .list 36 sI)],owns:=[true],pre:=fun(l,(q,_),_)=>[l.length≤1000000,∀x∈l,K1 (q (x,()))],spec:=fun(l,(_,f),_)=>(l.map fun x=>f (x,()),())}
def Z8 (a:List (Int×Int)):=List.length a
def Jv1 (a:(Int×Int)×Unit→Int) (b:Nat) (c:List (Int×Int)):=List.map (fun(x:Int×Int)=>a (x,PUnit.unit)) (List.take b c)
theorem J8x [Sx.Dr]:Ok Tryz.prog 57 Jxk:=okW W16 Tryz.f57 (fun xx=>Yl (Jsy 59 36 sPt xx.1 I true xx.2.1.1 xx.2.1.2)) fun xx=>by
 obtain⟨(l:List (Int×Int)),⟨(q:(Int×Int)×Unit→List Prop),(f:(Int×Int)×Unit→Int)⟩,_⟩:=xx
 refine(by kernel_rfl:(Z8 l≤1000000→(∀(x:Int×Int),x∈l→K1 (q (x,PUnit.unit)))→∃(x:Nat),Si (Ln l) (0=Nc x∧Sf l ((fun(x:(Int×Int)×PUnit)=>q x)=q∧(fun(x:(Int×Int)×PUnit)=>f x)=f∧List.length (Jv1 f x l)=0))∧x≤Z8 l∧∀(x:Nat),x≤Z8 l→Br (decide (Nc x<Ln l)) (Tw (Bd (Nc x) (Ln l))∧(K1 (q (E2 (List.getD l x (0,0)),PUnit.unit))∧(List.length (Jv1 f x l)+1)*8≤140737488355328)∧Z2 x∧∃(y:Nat),Si (Ln l) (Z29 x y∧Sf l ((fun(x:(Int×Int)×PUnit)=>q x)=q∧(fun(x:(Int×Int)×PUnit)=>f x)=f∧Jv1 f x l++[f (E2 (List.getD l x (0,0)),PUnit.unit)]=Jv1 f y l))∧y≤Z8 l∧Z8 l-y<Z8 l-x) (Jv1 f x l=List.map (fun(x:Int×Int)=>f (x,PUnit.unit)) l))=_).mp ?_
 delta Z2 Z8 Z29 Jv1 Br Iw Bd Tw Sf Si Ln Nc E2
 intro hb hq
 refine⟨(0:Nat),⟨rfl,rfl,rfl,rfl,rfl,by simp⟩,Nat.zero_le _,fun(k:Nat) hk=>⟨fun h=> ?_,fun h=> ?_⟩⟩
 ·have hlt:k<l.length:=by simpa using h
  refine⟨by omega,⟨hq (l.getD k (0,0)) (Jp hlt),by simp only[List.length_map,List.length_take];omega⟩,by omega,(k+1:Nat),⟨rfl,by simp,rfl,rfl,rfl, ?_⟩,by omega,by omega⟩
  rw[←Kn (d:=(0,0)) hlt,List.map_append];rfl
 ·have hlt:¬k<l.length:=by simpa using h
  rw[List.take_of_length_le (by omega)]
abbrev W17 [Sx.Dr]:=W16.add J8x
abbrev Cab:Type:=List (Int×Int)×List Int×Int×Int
abbrev J1a (T:TypeId):Sch:= .prod (.list T sPt) (.prod (.list 3 sI) (.prod sI sI))
abbrev aC:AK:= .val true (J1a 59)
abbrev aCR:AK:= .val true (J1a 48)
def Jgj (n:Int):Int:=Jh n (-8) 8
def Uk (c:Cab):Int:=
 if c.1.length=0 then 12 else if 6<c.1.length then 5 else
 Ja [Ja (c.1.map Jc7),(if(c.2.1.length:Int)≠c.1.length-1 then 2 else 0),Ja (c.2.1.map Jgj),Ja [Jgj c.2.2.1,Jgj c.2.2.2]]
def J65:Con:={args:=[aC],ress:=[I],owns:=[],pre:=fun(c,_)=>[c.1.length≤1000000,c.2.1.length≤1000000],spec:=fun(c,_)=>(Uk c,())}
theorem Vs {n:Int}:(n !=0)=true↔n≠0:=by simp
theorem Ut {n:Int}:(n !=0)=false↔n=0:=by simp
def Z1 (a:Cab):=Ln a.1
def Z13 (a:Cab):=List.length a.1
def Z26 (a:Cab):=List.length a.2.1≤1000000
def Z28 (a:Cab):=List.length a.2.1≤1000000
def Z43 (a:Cab):=Z1 a-1
def Z53 (a:Cab):=List.length a.1≤1000000
def Z55 (a:Cab):=Z13 a≤1000000
def J6e (a:Cab):=List.map (fun(x:Int)=>Z81 x) a.2.1
def J0h (a:Cab):=Ln a.2.1 !=Z43 a
def Jz0 (a:Cab):=Ja [Jh a.2.2.1 Z22 8,Jh a.2.2.2 Z22 8]
def J39 (a:Cab):=Ja [bif Z1 a==0 then 12 else 0,bif decide (6<Z1 a) then 5 else 0]
theorem J7r [Sx.Dr] (c:Cab):wpF Tryz.prog W17.g (na ()) Tryz.f26 J65 (c,()):=by
 refine(by kernel_rfl:(Z55 c→Z26 c→2≤1000000∧Br (J39 c !=0) (J39 c=Uk c) ((Z53 c∧(∀(x:Int×Int),x∈c.1→True)∧List.length (List.map (fun(x:Int×Int)=>Jc7 x) c.1)≤1000000∧Iw (Z43 c)∧Z28 c∧(∀(x:Int),x∈c.2.1→True)∧List.length (J6e c)≤1000000∧2≤1000000∧(∀(x:Int),x∈[c.2.2.1,c.2.2.2]→True)∧2≤1000000∧4≤1000000)∧Ja [Ja (List.map (fun(x:Int×Int)=>Jc7 x) c.1),bif J0h c then 2 else 0,Ja (J6e c),Jz0 c]=Uk c))=_).mp ?_
 delta Z1 Z13 Z22 Z26 Z28 Z43 Z53 Z55 Z81 J6e J0h Jz0 J39 Br Iw Ln
 intro h1 h2
 unfold Uk
 have e1:Ja [bif (c.1.length:Int)==0 then 12 else 0,bif decide ((6:Int)<c.1.length) then 5 else 0]=if c.1.length=0 then 12 else if 6<c.1.length then 5 else 0:=by
  simp only[Ja,Bool.cond_eq_ite,beq_iff_eq,decide_eq_true_eq]
  repeat' split
  all_goals omega
 rw[e1]
 refine⟨by omega,fun h=> ?_,fun h=>⟨⟨h1,fun _ _=>trivial,by simpa using h1,by omega,h2,fun _ _=>trivial,by simpa using h2,by omega,fun _ _=>trivial,by omega,by omega⟩, ?_⟩⟩
 ·have h:=Vs.1 h
  by_cases h0:c.1.length=0
  ·rw[if_pos h0,if_pos h0]
  ·rw[if_neg h0] at h⊢
   rw[if_neg h0]
   by_cases h6:6<c.1.length
   ·rw[if_pos h6,if_pos h6]
   ·rw[if_neg h6] at h;exact absurd rfl h
 ·have h:=Ut.1 h
  by_cases h0:c.1.length=0
  ·rw[if_pos h0] at h;cases h
  ·rw [if_neg h0] at h ⊢
   by_cases h6:6<c.1.length
   ·rw[if_pos h6] at h;cases h
   ·rw[if_neg h6]
    have e2:(bif ((c.2.1.length:Int) !=c.1.length-1) then(2:Int) else 0)=if(c.2.1.length:Int)≠c.1.length-1 then 2 else 0:=by
     by_cases h3:(c.2.1.length:Int)=c.1.length-1
     ·simp[h3]
     ·have:((c.2.1.length:Int) !=c.1.length-1)=true:=by simpa using h3
      rw[this,if_pos h3];rfl
    rw[e2]
    rfl
theorem J9l [Sx.Dr]:Ok Tryz.prog 26 J65:=Jn mixed W17.ok (by kernel_rfl) (by kernel_rfl) na fun xx=>J7r xx.1
abbrev W18 [Sx.Dr]:=W17.add J9l
def Jxs:Con:={args:=[aCR],ress:=[I],owns:=[],pre:=fun(c,_)=>[c.1.length≤1000000,c.2.1.length≤1000000],spec:=fun(c,_)=>(Uk c,())}
theorem Ja5 {α:Type} {f:α→Int} {d:α} {l:List α} {k:Nat} (h:k<l.length):Ja ((l.drop k).map f)=if f (l.getD k d)=0 then Ja ((l.drop (k+1)).map f) else f (l.getD k d):=by
 rw[List.drop_eq_getElem_cons h,List.map_cons,List.getD_eq_getElem?_getD,List.getElem?_eq_getElem h]
 rfl
theorem Ky {x:Int} {l:List Int}:Ja (x::l)=if x=0 then Ja l else x:=rfl
abbrev Joy (c:Cab):Ann:={X:=Nat,σ:=fun k=>⟨3,[(1, .one (.ptr 2 0)),(3, .one (.int .i64 k))],[(0, .imm 48 sPt c.1),(1, .imm 3 sI c.2.1),(2, .box 26 [.sl 0, .sl 1, .int .i64 c.2.2.1, .int .i64 c.2.2.2])]⟩,inv:=fun k=>k≤c.1.length∧c.1.length≠0∧c.1.length≤6∧Ja (c.1.map Jc7)=Ja ((c.1.drop k).map Jc7),mu:=fun k=>c.1.length-k}
abbrev Jox (c:Cab):Ann:={X:=Nat,σ:=fun k=>⟨3,[(1, .one (.ptr 2 0)),(5, .one (.int .i64 k))],[(0, .imm 48 sPt c.1),(1, .imm 3 sI c.2.1),(2, .box 26 [.sl 0, .sl 1, .int .i64 c.2.2.1, .int .i64 c.2.2.2])]⟩,inv:=fun k=>k≤c.2.1.length∧c.1.length≠0∧c.1.length≤6∧Ja (c.1.map Jc7)=0∧(c.2.1.length:Int)=c.1.length-1∧Ja (c.2.1.map Jgj)=Ja ((c.2.1.drop k).map Jgj),mu:=fun k=>c.2.1.length-k}
def Z37 (a:Nat) (b:Cab):=a≤Z13 b
def Z48 (a:Nat) (b:Cab):=Bd (Nc a) (Z1 b)
def Z58 (a:Nat) (b:Cab):=decide (Nc a<Z1 b)
def Z75 (a:Cab) (b:Nat):=List.getD a.1 b (0,0)
def Z79 (a:Cab) (b:Nat):=(Z75 a b).2
def J6j (a:Cab):=a.1=a.1∧a.2.1=a.2.1∧Si a.2.2.1 (a.2.2.2=a.2.2.2)
def Jvb (a:Cab) (b c:Nat):=Z13 a-b<Z13 a-c
def J6f (a:Cab) (b:Nat):=Jh (List.getD a.2.1 b 0) Z22 8
def J56 (a:Nat) (b:Cab):=0=Nc a∧J6j b
def J5v (a b:Nat) (c:Cab):=Z29 a b∧J6j c
def J3z (a:Cab) (b:Nat):=Ja [Jh (Z75 a b).1 1 100000,Jh (Z79 a b) 1 64]
def Jzm (a:Nat) (b:Cab):=Z37 a b∧(Z13 b=0→False)∧Z13 b≤6∧Ja (List.map Jc7 b.1)=Ja (List.map Jc7 (List.drop a b.1))
def Jzi (a:Nat) (b:Cab):=a≤List.length b.2.1∧(Z13 b=0→False)∧Z13 b≤6∧Ja (List.map Jc7 b.1)=0∧Ln b.2.1=Z43 b∧Ja (List.map Jgj b.2.1)=Ja (List.map Jgj (List.drop a b.2.1))
theorem J7m [Sx.Dr] (c:Cab):wpF Tryz.prog W18.g (fun k=>if k=0 then some (Joy c) else if k=2 then some (Jox c) else none) Tryz.f45 Jxs (c,()):=by
 refine(by kernel_rfl:(Z55 c→Z26 c→Br (Z1 c==0) (12=Uk c) (Br (decide (6<Z1 c)) (5=Uk c) (∃(x:Nat),J56 x c∧Jzm x c∧∀(x:Nat),Jzm x c→Br (Z58 x c) (T2 (Z48 x c) (T2 (Z48 x c) (2≤1000000))∧Br (J3z c x !=0) (J3z c x=Uk c) (Z2 x∧∃(y:Nat),J5v x y c∧Jzm y c∧Jvb c y x)) (Iw (Z43 c)∧Br (J0h c) (2=Uk c) (∃(x:Nat),J56 x c∧Jzi x c∧∀(x:Nat),Jzi x c→Br (decide (Nc x<Ln c.2.1)) (Tw (Bd (Nc x) (Ln c.2.1))∧Br (J6f c x !=0) (J6f c x=Uk c) (Z2 x∧∃(y:Nat),J5v x y c∧Jzi y c∧List.length c.2.1-y<List.length c.2.1-x)) (2≤1000000∧Jz0 c=Uk c))))))=_).mp ?_
 delta Z1 Z2 Z13 Z22 Z26 Z29 Z37 Z43 Z48 Z55 Z58 Z75 Z79 J6j Jvb J6f J56 J5v J0h Jz0 J3z Jzm Jzi Br Iw Bd T2 Tw Si Ln Nc
 intro h1 h2
 refine⟨fun h=> ?_,fun h=>⟨fun h'=> ?_,fun h'=> ?_⟩⟩
 ·have h:c.1.length=0:=by have:=eq_of_beq h;omega
  unfold Uk;rw[if_pos h]
 ·have h:¬c.1.length=0:=by have:=ne_of_beq_false h;omega
  have h':6<c.1.length:=by have:=of_decide_eq_true h';omega
  unfold Uk;rw[if_neg h,if_pos h']
 have h:¬c.1.length=0:=by have:=ne_of_beq_false h;omega
 have h':¬6<c.1.length:=by have:=of_decide_eq_false h';omega
 have hc:Uk c=Ja [Ja (c.1.map Jc7),(if(c.2.1.length:Int)≠c.1.length-1 then 2 else 0),Ja (c.2.1.map Jgj),Ja [Jgj c.2.2.1,Jgj c.2.2.2]]:=by unfold Uk;rw[if_neg h,if_neg h']
 refine⟨(0:Nat),⟨rfl,rfl,rfl,rfl,rfl⟩,⟨Nat.zero_le _,h,by omega,rfl⟩, ?_⟩
 rintro k ⟨k1,k2,k3,k4⟩
 refine⟨fun hk=> ?_,fun hk=> ?_⟩
 ·have hk:k<c.1.length:=by have:=of_decide_eq_true hk;omega
  have hd:=Ja5 (f:=Jc7) (d:=(0,0)) hk
  refine⟨⟨by omega,by omega,by omega,by omega,by omega⟩,fun hb=> ?_,fun hb=>⟨by omega,(k+1:Nat),⟨by omega,rfl,rfl,rfl,rfl⟩,⟨by omega,k2,k3, ?_⟩,by omega⟩⟩
  ·have hb:¬Jc7 (c.1.getD k (0,0))=0:=Vs.1 hb
   rw[if_neg hb] at hd
   show Jc7 (c.1.getD k (0,0))=Uk c
   rw[hc,k4,hd,Ky,if_neg hb]
  ·have hb:Jc7 (c.1.getD k (0,0))=0:=Ut.1 hb
   rw[if_pos hb] at hd
   rw[k4,hd]
 have hk:k=c.1.length:=by have:=of_decide_eq_false hk;omega
 have hz:Ja (c.1.map Jc7)=0:=by rw[k4,hk,List.drop_length];rfl
 rw[Ky,if_pos hz] at hc
 refine⟨by omega,fun hj=> ?_,fun hj=> ?_⟩
 ·have hj:(c.2.1.length:Int)≠c.1.length-1:=by simpa using hj
  rw[if_pos hj] at hc
  rw[hc];rfl
 have hj:(c.2.1.length:Int)=c.1.length-1:=by simpa using hj
 rw[if_neg (by simpa using hj),Ky,if_pos rfl] at hc
 refine⟨(0:Nat),⟨rfl,rfl,rfl,rfl,rfl⟩,⟨Nat.zero_le _,h,by omega,hz,hj,rfl⟩, ?_⟩
 rintro m ⟨m1,m2,m3,m4,m5,m6⟩
 refine⟨fun hm=> ?_,fun hm=> ?_⟩
 ·have hm:m<c.2.1.length:=by have:=of_decide_eq_true hm;omega
  have hd:=Ja5 (f:=Jgj) (d:=(0:Int)) hm
  refine⟨⟨by omega,by omega⟩,fun hb=> ?_,fun hb=>⟨by omega,(m+1:Nat),⟨by omega,rfl,rfl,rfl,rfl⟩,⟨by omega,m2,m3,m4,m5, ?_⟩,by omega⟩⟩
  ·have hb:¬Jgj (c.2.1.getD m 0)=0:=Vs.1 hb
   rw[if_neg hb] at hd
   show Jgj (c.2.1.getD m 0)=Uk c
   rw[hc,m6,hd,Ky,if_neg hb]
  ·have hb:Jgj (c.2.1.getD m 0)=0:=Ut.1 hb
   rw[if_pos hb] at hd
   rw[m6,hd]
 have hm:m=c.2.1.length:=by have:=of_decide_eq_false hm;omega
 have hz2:Ja (c.2.1.map Jgj)=0:=by rw[m6,hm,List.drop_length];rfl
 rw[Ky,if_pos hz2] at hc
 have h1s:∀x:Int,Ja [x]=x:=fun x=>by unfold Ja;split<;>simp_all [Ja]
 rw[h1s] at hc
 rw[hc]
 exact⟨by omega,rfl⟩
theorem J88 [Sx.Dr]:Ok Tryz.prog 45 Jxs:=Jn mixed W18.ok (by kernel_rfl) (by kernel_rfl) (fun xx=>fun k=>if k=0 then some (Joy xx.1) else if k=2 then some (Jox xx.1) else none) fun xx=>J7m xx.1
abbrev W19 [Sx.Dr]:=W18.add J88
theorem J4:∀{l:List Int},Ja l=0→∀x∈l,x=0
 |[],_,x,hx=>by simp at hx
 | y :: l, h, x, hx => by
  rw[Ky] at h
  split at h
  ·rename_i e
   rcases List.mem_cons.1 hx with rfl|hx
   ·exact e
   ·exact J4 h x hx
  ·rename_i e;exact absurd h e
theorem Jg {n lo hi:Int}:Jh n lo hi=0↔lo≤n∧n≤hi:=by
 unfold Jh
 by_cases h1:n<lo
 ·simp[h1]<;>omega
 ·by_cases h2:hi<n
  ·simp[h2]<;>omega
  ·simp[h1,h2]<;>omega
def Y7 (c:Cab):Prop:=0<c.1.length∧c.1.length≤6∧(∀x∈c.1,1≤x.1∧x.1≤100000∧1≤x.2∧x.2≤64)∧c.2.1.length+1=c.1.length∧(∀n∈c.2.1,-8≤n∧n≤8)∧(-8≤c.2.2.1∧c.2.2.1≤8)∧-8≤c.2.2.2∧c.2.2.2≤8
theorem Xl {c:Cab} (h:Uk c=0):Y7 c:=by
 unfold Uk at h
 split at h
 ·cases h
 rename_i h0
 split at h
 ·cases h
 rename_i h6
 have hz:=J4 h
 simp only[List.mem_cons,List.not_mem_nil,or_false,forall_eq_or_imp,forall_eq] at hz
 obtain⟨a1,a2,a3,a4⟩:=hz
 have a1':=J4 a1
 have a3':=J4 a3
 have a4':=J4 a4
 simp only[List.mem_cons,List.not_mem_nil,or_false,forall_eq_or_imp,forall_eq] at a4'
 have hj:(c.2.1.length:Int)=c.1.length-1:=by
  by_cases e:(c.2.1.length:Int)=c.1.length-1
  ·exact e
  ·rw[if_pos e] at a2;cases a2
 refine⟨by omega,by omega,fun x hx=> ?_,by omega,fun n hn=> ?_,Jg.1 a4'.1,Jg.1 a4'.2⟩
 ·have:=J4 (a1' (Jc7 x) (List.mem_map.2 ⟨x,hx,rfl⟩))
  simp only[List.mem_cons,List.not_mem_nil,or_false,forall_eq_or_imp,forall_eq] at this
  have b1:=Jg.1 this.1
  have b2:=Jg.1 this.2
  exact⟨b1.1,b1.2,b2.1,b2.2⟩
 ·exact Jg.1 (a3' (Jgj n) (List.mem_map.2 ⟨n,hn,rfl⟩))
def Kv:List (Int×Int)→Int×Int
 |[]=>(0,0)
 |x::r=>(x.1+(Kv r).1,x.2+(Kv r).2)
theorem Jl2 (l:List (Int×Int)) (x:Int×Int):Kv (l++[x])=((Kv l).1+x.1,(Kv l).2+x.2):=by
 induction l with
 |nil=>simp[Kv]
 |cons y l ih=>simp only[List.cons_append,Kv,ih];ext<;>simp only<;>omega
theorem Vc:∀{l:List (Int×Int)},(∀x∈l,1≤x.1∧x.1≤100000∧1≤x.2∧x.2≤64)→(l.length:Int)≤(Kv l).1∧(Kv l).1≤100000*l.length∧(l.length:Int)≤(Kv l).2∧(Kv l).2≤64*l.length
 |[],_=>by simp[Kv]
 |x::r,h=>by
  have h1:=h x (by simp)
  have h2:=Vc (l:=r) fun y hy=>h y (by simp[hy])
  simp only[Kv,List.length_cons]
  omega
theorem Fr {l:List (Int×Int)} {k:Nat} (h:k<l.length):Kv (l.take (k+1))=((Kv (l.take k)).1+(l.getD k (0,0)).1,(Kv (l.take k)).2+(l.getD k (0,0)).2):=by
 rw[←Kn (d:=(0,0)) h,Jl2]
theorem Jet {l:List (Int×Int)} (h:∀x∈l,1≤x.1∧x.1≤100000∧1≤x.2∧x.2≤64) (k:Nat):∀x∈l.take k,1≤x.1∧x.1≤100000∧1≤x.2∧x.2≤64:=fun x hx=>h x (List.mem_of_mem_take hx)
def Jsh:Con:={args:=[aC],ress:=[Pr],owns:=[],pre:=fun(c,_)=>[Uk c=0],spec:=fun(c,_)=>(Kv c.1,())}
abbrev Jj6 (c:Cab):Ann:={X:=Nat,σ:=fun k=>⟨5,[(2, .one (.ptr 3 0)),(3, .one (.ptr 4 0)),(7, .one (.sl 0)),(8, .one (.int .i64 c.1.length)),(9, .one (.int .i64 k))],[(0, .imm 59 sPt c.1),(3, .box 24 [.int .i64 0, .int .i64 0]),(4, .box 24 [.int .i64 (Kv (c.1.take k)).1, .int .i64 (Kv (c.1.take k)).2])]⟩,inv:=fun k=>k≤c.1.length,mu:=fun k=>c.1.length-k}
def Z21 (a:Nat) (b:Cab):=List.take a b.1
def Z40 (a:Nat) (b:Cab):=Kv (Z21 a b)
def J53 (a:Nat) (b:Cab):=(Z40 a b).2+Z79 b a
def J51 (a:Nat) (b:Cab):=(Z40 a b).1+(Z75 b a).1
def J0d (a:Nat) (b:Cab) (c:Nat):=Z37 a b∧Jvb b a c
theorem J7q [Sx.Dr] (c:Cab):wpF Tryz.prog W19.g (Yl (Jj6 c)) Tryz.f28 Jsh (c,()):=by
 refine(by kernel_rfl:(Uk c=0→∃(x:Nat),Si (Z1 c) (0=Nc x∧c.1=c.1∧Si 0 (Si 0 (0=(Z40 x c).1∧0=(Z40 x c).2)))∧Z37 x c∧∀(x:Nat),Z37 x c→Br (Z58 x c) (Tw (Z48 x c)∧Iw (J51 x c)∧Iw (J53 x c)∧Z2 x∧∃(y:Nat),Si (Z1 c) (Z29 x y∧c.1=c.1∧Si 0 (Si 0 (J51 x c=(Z40 y c).1∧J53 x c=(Z40 y c).2)))∧J0d y c x) (E2 (Z40 x c)=Kv c.1))=_).mp ?_
 delta Z1 Z2 Z13 Z21 Z29 Z37 Z40 Z48 Z58 Z75 Z79 Jvb J53 J51 J0d Br Iw Bd Tw Si Ln Nc E2
 intro h
 have hv:Y7 c:=Xl h
 obtain⟨v1,v2,v3,v4,v5,v6,v7⟩:=id hv
 refine⟨(0:Nat),⟨rfl,rfl,rfl,rfl,rfl,rfl,rfl⟩,Nat.zero_le _,fun(k:Nat) hk=>⟨fun hlt=> ?_,fun hlt=> ?_⟩⟩
 ·have hlt:k<c.1.length:=by have:=of_decide_eq_true hlt;omega
  have e:=Fr hlt
  have b:=Vc (Jet v3 (k+1))
  have hl:(c.1.take (k+1)).length≤6:=by rw[List.length_take];omega
  have b0:=Vc (Jet v3 k)
  rw[e] at b
  dsimp only at b
  refine⟨by omega,by omega,by omega,by omega,(k+1:Nat),⟨rfl,by omega,rfl,rfl,rfl,by rw[e],by rw[e]⟩,by omega,by omega⟩
 ·have hlt:¬k<c.1.length:=by have:=of_decide_eq_false hlt;omega
  rw[List.take_of_length_le (by omega)]
theorem J9j [Sx.Dr]:Ok Tryz.prog 28 Jsh:=Jn mixed W19.ok (by kernel_rfl) (by kernel_rfl) (fun xx=>Yl (Jj6 xx.1)) fun xx=>J7q xx.1
abbrev W20 [Sx.Dr]:=W19.add J9j
def Je (den:Int):List (Int×Int)→Int→Int→Int×Int
 |[],at_,_=>Jr at_ 1
 |s::r,at_,num=>if num≤s.2*den then Jr (at_*s.2*den+s.1*num) (s.2*den) else Je den r (at_+s.1) (num-s.2*den)
theorem Jfp (den:Int) {l:List (Int×Int)} {k:Nat} (h:k<l.length) (a n:Int):Je den (l.drop k) a n=if n≤(l.getD k (0,0)).2*den then Jr (a*(l.getD k (0,0)).2*den+(l.getD k (0,0)).1*n) ((l.getD k (0,0)).2*den) else Je den (l.drop (k+1)) (a+(l.getD k (0,0)).1) (n-(l.getD k (0,0)).2*den):=by
 rw[List.drop_eq_getElem_cons h,List.getD_eq_getElem?_getD,List.getElem?_eq_getElem h];rfl
theorem Jcf (n:Int):Jr n 1=(n,1):=by
 have:Y0 n 1=1:=by unfold Y0;simp
 unfold Jr;rw[this];simp
def Jsn:Con:={args:=[aC,aI],ress:=[Pr],owns:=[],pre:=fun(c,n,_)=>[Uk c=0,-1000000000000≤n∧n≤1000000000000],spec:=fun(c,n,_)=>(Je 2 c.1 0 n,())}
abbrev Jj7 (c:Cab) (n:Int):Ann:={X:=Nat×Int×Int,σ:=fun p=>⟨4,[(1, .one (.int .i64 p.2.2)),(4, .one (.ptr 3 0)),(5, .one (.int .i64 p.2.1)),(9, .one (.sl 0)),(10, .one (.int .i64 c.1.length)),(11, .one (.int .i64 p.1))],[(0, .imm 59 sPt c.1),(3, .box 50 [.int .i64 0, .int .i64 0])]⟩,inv:=fun p=>p.1≤c.1.length∧(0≤p.2.1∧p.2.1≤100000*p.1)∧(-1000000000000-1000*p.1≤p.2.2∧p.2.2≤1000000000000+1000*p.1)∧Je 2 c.1 0 n=Je 2 (c.1.drop p.1) p.2.1 p.2.2,mu:=fun p=>c.1.length-p.1}
def Z6:=Tw ((0:Int)=0)
def Z20:=(-1000000000000)
def Z86 (a:Cab) (b:Nat×Int×Int):=(List.getD a.1 b.1 (0,0)).1
def Jph (a:Cab) (b:Nat×Int×Int):=2*(List.getD a.1 b.1 (0,0)).2
def Jyr (a:Cab) (b:Nat×Int×Int):=Iw (Jph a b)
def Jye (a:Cab) (b:Nat×Int×Int):=Jph a b*b.2.1+Z86 a b*b.2.2
def Jzj (a:Nat×Int×Int) (b:Cab) (c:Int):=a.1≤Z13 b∧(0≤a.2.1∧a.2.1≤100000*Nc a.1)∧(Z20-1000*Nc a.1≤a.2.2∧a.2.2≤(1000000000000:Int)+1000*Nc a.1)∧Je 2 b.1 0 c=Je 2 (List.drop a.1 b.1) a.2.1 a.2.2
theorem J7p [Sx.Dr] (c:Cab) (n:Int):wpF Tryz.prog W20.g (Yl (Jj7 c n)) Tryz.f29 Jsn (c,n,()):=by
 refine(by kernel_rfl:(Uk c=0→Z20≤n∧n≤1000000000000→∃(x:Nat×Int×Int),(n=x.2.2∧0=x.2.1∧Si (Z1 c) (0=Nc x.1∧c.1=c.1∧Z6))∧Jzj x c n∧∀(x:Nat×Int×Int),Jzj x c n→Br (decide (Nc x.1<Z1 c)) (Tw (Bd (Nc x.1) (Z1 c))∧Jyr c x∧Br (decide (x.2.2≤Jph c x)) ((Jyr c x∧Iw (Jph c x*x.2.1)∧Iw (Z86 c x*x.2.2)∧Iw (Jye c x)∧Jyr c x∧(Z19≤Jye c x∧Jye c x≤9200000000000000000)∧0<Jph c x∧Jph c x≤9200000000000000000)∧E2 (Jr (Jye c x) (Jph c x))=Je 2 c.1 0 n) ((Jyr c x∧Iw (x.2.2-Jph c x))∧Iw (x.2.1+Z86 c x)∧Iw (Nc x.1+1)∧∃(y:Nat×Int×Int),(x.2.2-Jph c x=y.2.2∧x.2.1+Z86 c x=y.2.1∧Si (Z1 c) (Nc x.1+1=Nc y.1∧c.1=c.1∧Z6))∧Jzj y c n∧Z13 c-y.1<Z13 c-x.1)) ((x.2.1,1)=Je 2 c.1 0 n))=_).mp ?_
 delta Z1 Z6 Z13 Z19 Z20 Z86 Jph Jyr Jye Jzj Br Iw Bd Tw Si Ln Nc E2
 intro h hn
 have hv:Y7 c:=Xl h
 obtain⟨v1,v2,v3,v4,v5,v6,v7⟩:=id hv
 refine⟨(0,0,n),⟨rfl,rfl,rfl,rfl,rfl,rfl,rfl⟩,⟨Nat.zero_le _,by dsimp only;omega,by dsimp only;omega,rfl⟩, ?_⟩
 rintro⟨k,a,m⟩ ⟨k1,k2,k3,k4⟩
 dsimp only at k1 k2 k3 k4⊢
 refine⟨fun hlt=> ?_,fun hlt=> ?_⟩
 ·have hlt:k<c.1.length:=by have:=of_decide_eq_true hlt;omega
  have hd:=Jfp 2 hlt a m
  have hs:=v3 _ (Jp (d:=(0,0)) hlt)
  generalize c.1.getD k (0,0)=s at*
  have e2:s.2*2=2*s.2:=Int.mul_comm _ _
  rw[e2] at hd
  refine⟨by omega,by omega,fun hc=> ?_,fun hc=> ?_⟩
  ·have hc:m≤2*s.2:=of_decide_eq_true hc
   rw[if_pos hc] at hd
   have m1:=Ld (a:=2*s.2) (b:=a) (A:=128) (B:=600000) ⟨by omega,by omega⟩ ⟨by omega,by omega⟩
   have m2:=Ld (a:=s.1) (b:=m) (A:=100000) (B:=1000000006000) ⟨by omega,by omega⟩ ⟨by omega,by omega⟩
   have e3:a*s.2*2=2*s.2*a:=by rw[Int.mul_assoc,e2,Int.mul_comm]
   rw[k4,hd,e3]
   generalize 2*s.2*a=u at*
   generalize s.1*m=v at*
   exact⟨by omega,rfl⟩
  ·have hc:¬m≤2*s.2:=of_decide_eq_false hc
   rw[if_neg hc] at hd
   refine⟨⟨by omega,by omega⟩,by omega,by omega,(k+1,a+s.1,m-2*s.2),⟨rfl,rfl,rfl,by simp,rfl,rfl,rfl⟩,⟨by dsimp only;omega,by dsimp only;omega,by dsimp only;omega, ?_⟩,by dsimp only;omega⟩
   rw[k4,hd]
 ·have hlt:¬k<c.1.length:=by have:=of_decide_eq_false hlt;omega
  rw[k4,List.drop_eq_nil_of_le (by omega)]
  show(a,1)=_
  exact(Jcf a).symm
theorem J9i [Sx.Dr]:Ok Tryz.prog 29 Jsn:=Jn mixed W20.ok (by kernel_rfl) (by kernel_rfl) (fun xx=>Yl (Jj7 xx.1 xx.2.1)) fun xx=>J7p xx.1 xx.2.1
abbrev W21 [Sx.Dr]:=W20.add J9i
def Zs (c:Cab) (t:Int):Int:=if Uk c=0 then Jh t 0 (Kv c.1).2 else Uk c
def J8 (c:Cab) (t:Int):Int×Int:=if Zs c t=0 then Je 2 c.1 0 (2*t) else(0,0)
def Joa:Con:={args:=[aC,aI],ress:=[Pr,I],owns:=[],pre:=fun(c,t,_)=>[c.1.length≤1000000,c.2.1.length≤1000000],spec:=fun(c,t,_)=>(J8 c t,Zs c t,())}
def Z33 (a:Cab):=(a.1,a.2.1,E2 a.2.2)
def Z54 (a:Cab):=Uk (Z33 a)
def Z87 (a:Cab):=Z54 a=0
def Js3 (a:Cab):=Z53 a∧Z28 a
def J0j (a:Cab):=Z54 a !=0
theorem J7z [Sx.Dr] (c:Cab) (t:Int):wpF Tryz.prog W21.g (na ()) Tryz.f11 Joa (c,t,()):=by
 refine(by kernel_rfl:(Z55 c→Z26 c→Js3 c∧Br (J0j c) ((0,0)=J8 c t∧Z54 c=Zs c t) (Z87 c∧Br (Jh t 0 (Kv c.1).2 !=0) ((0,0)=J8 c t∧Jh t 0 (Kv c.1).2=Zs c t) ((Iw (2*t)∧Z87 c∧Z20≤2*t∧2*t≤1000000000000)∧E2 (Je 2 c.1 0 (2*t))=J8 c t∧0=Zs c t)))=_).mp ?_
 delta Z13 Z20 Z26 Z28 Z33 Z53 Z54 Z55 Z87 Js3 J0j Br Iw E2
 intro h1 h2
 unfold J8 Zs
 refine⟨⟨h1,h2⟩,fun h=> ?_,fun h=> ?_⟩
 ·have h:=Vs.1 h
  rw[if_neg h,if_neg h];exact⟨rfl,rfl⟩
 ·have h:=Ut.1 h
  rw[if_pos h]
  have hv:Y7 c:=Xl h
  obtain⟨v1,v2,v3,v4,v5,v6,v7⟩:=id hv
  have b:=Vc v3
  refine⟨h,fun h'=> ?_,fun h'=> ?_⟩
  ·have h':=Vs.1 h'
   rw[if_neg h'];exact⟨rfl,rfl⟩
  ·have h':=Ut.1 h'
   have hw:0≤t∧t≤(Kv c.1).2:=Jg.1 h'
   rw[if_pos h',h']
   exact⟨⟨by omega,h,by omega⟩,rfl,rfl⟩
theorem J90 [Sx.Dr]:Ok Tryz.prog 11 Joa:=Jn mixed W21.ok (by kernel_rfl) (by kernel_rfl) na fun xx=>J7z xx.1 xx.2.1
abbrev W22 [Sx.Dr]:=W21.add J90
abbrev Flt:Type:=Int×Int×Int×Int
abbrev J71:Sch:= .prod sI (.prod sI (.prod sI sI))
abbrev aF:AK:= .val true J71
def Jc8 (c:Cab) (s:Int):Int:=bif decide (s<0)||decide ((c.1.length:Int)≤s) then 10 else 0
def Jmv (c:Cab) (s t:Int):Int:=Jh t 1 ((c.1.getD s.toNat (0,0)).2-1)
def Jxe:Con:={args:=[aC,aI],ress:=[I],owns:=[],pre:=fun(c,_)=>[c.1.length≤1000000],spec:=fun(c,s,_)=>(Jc8 c s,())}
theorem J7k [Sx.Dr] (c:Cab) (s:Int):wpF Tryz.prog W22.g (na ()) Tryz.f54 Jxe (c,s,()):=by
 refine(by kernel_rfl:(Z55 c→(bif bif decide (s<0) then true else decide (Z1 c≤s) then 10 else 0)=Jc8 c s)=_).mp ?_
 delta Z1 Z13 Z55 Ln
 intro _
 unfold Jc8
 cases decide (s<0)<;>rfl
theorem J80 [Sx.Dr]:Ok Tryz.prog 54 Jxe:=Jn mixed W22.ok (by kernel_rfl) (by kernel_rfl) na fun xx=>J7k xx.1 xx.2.1
abbrev W23 [Sx.Dr]:=W22.add J80
def Jxj:Con:={args:=[aC,aI,aI],ress:=[I],owns:=[],pre:=fun(c,s,_)=>[Uk c=0,0≤s∧s<c.1.length],spec:=fun(c,s,t,_)=>(Jmv c s t,())}
def Z76 (a:Cab) (b:Int):=(Gt a.1 b (0,0)).2
theorem J7j [Sx.Dr] (c:Cab) (s t:Int):wpF Tryz.prog W23.g (na ()) Tryz.f55 Jxj (c,s,t,()):=by
 refine(by kernel_rfl:(Uk c=0→Bd s (Z1 c)→T2 (Bd s (Z1 c)) (Iw (Z76 c s-1))∧Jh t 1 (Z76 c s-1)=Jmv c s t)=_).mp ?_
 delta Z1 Z76 Iw Bd T2 Ln Gt
 intro h hs
 have hv:Y7 c:=Xl h
 have b:=hv.2.2.1 _ (Jp (d:=(0,0)) (l:=c.1) (k:=s.toNat) (by omega))
 exact⟨by omega,rfl⟩
theorem J8z [Sx.Dr]:Ok Tryz.prog 55 Jxj:=Jn mixed W23.ok (by kernel_rfl) (by kernel_rfl) na fun xx=>J7j xx.1 xx.2.1 xx.2.2.1
abbrev W24 [Sx.Dr]:=W23.add J8z
theorem Jnr {x:Int}:Ja [x]=x:=by unfold Ja;split<;>simp_all [Ja]
def Ym (c:Cab) (f:Flt):Int:=
 if Uk c=0 then if Jc8 c f.1=0 then Ja [Jmv c f.1 f.2.1,Jh f.2.2.1 0 100000,Jh f.2.2.2 (-1024) 1024,if f.2.2.2=0 then 6 else 0] else 10 else Uk c
theorem H1 {c:Cab} {s:Int}:Jc8 c s=0↔0≤s∧s<c.1.length:=by
 unfold Jc8
 by_cases h1:s<0
 ·simp[h1]<;>omega
 ·by_cases h2:(c.1.length:Int)≤s
  ·simp[h2]<;>omega
  ·simp[h1,h2]<;>omega
theorem Jkm (c:Cab) (s:Int):Jc8 c s=0∨Jc8 c s=10:=by
 unfold Jc8
 cases(decide (s<0)||decide ((c.1.length:Int)≤s))<;>simp
theorem Jh9 {n:Int} (e:Int):(bif n==0 then e else 0)=if n=0 then e else 0:=by
 by_cases h:n=0
 ·simp[h]
 ·have:(n==0)=false:=by simpa using h
  rw[this,if_neg h];rfl
def J63:Con:={args:=[aC,aF],ress:=[I],owns:=[],pre:=fun(c,_)=>[c.1.length≤1000000,c.2.1.length≤1000000],spec:=fun(c,f,_)=>(Ym c f,())}
def J5s (a:Cab) (b:Flt):=Ja [Z54 a,Jc8 (Z33 a) b.1]
theorem J7t [Sx.Dr] (c:Cab) (f:Flt):wpF Tryz.prog W24.g (na ()) Tryz.f22 J63 (c,f,()):=by
 refine(by kernel_rfl:(Z55 c→Z26 c→(Z53 c∧Z28 c∧Z53 c∧2≤1000000)∧Br (J5s c f !=0) (J5s c f=Ym c f) ((Z87 c∧Bd f.1 (Ln c.1)∧4≤1000000)∧Ja [Jmv (Z33 c) f.1 f.2.1,Jh f.2.2.1 0 100000,Jh f.2.2.2 (-1024) 1024,bif f.2.2.2==0 then 6 else 0]=Ym c f))=_).mp ?_
 delta Z13 Z26 Z28 Z33 Z53 Z54 Z55 Z87 J5s Br Bd Ln E2
 intro h1 h2
 have e1:Ja [Uk c,Jc8 c f.1]=if Uk c=0 then Jc8 c f.1 else Uk c:=by
  rw[Ky];split
  ·exact Jnr
  ·rfl
 refine⟨⟨h1,h2,h1,by omega⟩,fun h=> ?_,fun h=> ?_⟩
 ·have h:¬Ja [Uk c,Jc8 c f.1]=0:=Vs.1 h
  show Ja [Uk c,Jc8 c f.1]=_
  rw[e1] at h⊢
  unfold Ym
  by_cases hc:Uk c=0
  ·rw[if_pos hc] at h
   rw[if_pos hc,if_pos hc,if_neg h]
   exact(Jkm c f.1).resolve_left h
  ·rw[if_neg hc,if_neg hc]
 ·have h:Ja [Uk c,Jc8 c f.1]=0:=Ut.1 h
  rw[e1] at h
  have hc:Uk c=0:=by
   by_cases hc:Uk c=0
   ·exact hc
   ·rw[if_neg hc] at h;exact absurd h hc
  rw[if_pos hc] at h
  refine⟨⟨hc,H1.1 h,by omega⟩, ?_⟩
  unfold Ym
  rw[if_pos hc,if_pos h,Jh9]
theorem J9p [Sx.Dr]:Ok Tryz.prog 22 J63:=Jn mixed W24.ok (by kernel_rfl) (by kernel_rfl) na fun xx=>J7t xx.1 xx.2.1
abbrev W25 [Sx.Dr]:=W24.add J9p
def Jxo:Con:={args:=[aCR,aF],ress:=[I],owns:=[],pre:=fun(c,_)=>[c.1.length≤1000000,c.2.1.length≤1000000],spec:=fun(c,f,_)=>(Ym c f,())}
def Z80 (a:Cab) (b:Flt):=(Gt a.1 b.1 (0,0)).2
def J3n (a:Flt) (b:Cab):=Ja [Jh a.2.1 1 (Z80 b a-1),Jh a.2.2.1 0 100000,Jh a.2.2.2 (-1024) 1024]
theorem J7v [Sx.Dr] (c:Cab) (f:Flt):wpF Tryz.prog W25.g (na ()) Tryz.f18 Jxo (c,f,()):=by
 refine(by kernel_rfl:(Z55 c→Z26 c→Js3 c∧Br (J0j c) (Z54 c=Ym c f) (Br (bif decide (f.1<0) then true else decide (Z1 c≤f.1)) (10=Ym c f) (T2 (Bd f.1 (Z1 c)) (Iw (Z80 c f-1)∧3≤1000000)∧Br (J3n f c !=0) (J3n f c=Ym c f) ((bif f.2.2.2==0 then 6 else 0)=Ym c f))))=_).mp ?_
 delta Z1 Z13 Z26 Z28 Z33 Z53 Z54 Z55 Z80 Js3 J0j J3n Br Iw Bd T2 Ln Gt E2
 intro h1 h2
 refine⟨⟨h1,h2⟩,fun h=> ?_,fun h=> ?_⟩
 ·have h:¬Uk c=0:=Vs.1 h
  unfold Ym;rw[if_neg h]
 have hc:Uk c=0:=Ut.1 h
 unfold Ym
 rw[if_pos hc]
 have e:(bif decide (f.1<0) then true else decide ((c.1.length:Int)≤f.1))=true↔Jc8 c f.1≠0:=by
  unfold Jc8
  cases decide (f.1<0)<;>cases decide ((c.1.length:Int)≤f.1)<;>simp
 refine⟨fun h=> ?_,fun h=> ?_⟩
 ·rw[if_neg (e.1 h)]
 have hs:Jc8 c f.1=0:=by
  by_cases hs:Jc8 c f.1=0
  ·exact hs
  ·have:=e.2 hs;rw[h] at this;cases this
 have hr:=H1.1 hs
 have hv:Y7 c:=Xl hc
 have b:=hv.2.2.1 _ (Jp (d:=(0,0)) (l:=c.1) (k:=f.1.toNat) (by omega))
 rw[if_pos hs]
 have e4:Ja [Jmv c f.1 f.2.1,Jh f.2.2.1 0 100000,Jh f.2.2.2 (-1024) 1024,if f.2.2.2=0 then 6 else 0]=if Ja [Jmv c f.1 f.2.1,Jh f.2.2.1 0 100000,Jh f.2.2.2 (-1024) 1024]=0 then(if f.2.2.2=0 then 6 else 0) else Ja [Jmv c f.1 f.2.1,Jh f.2.2.1 0 100000,Jh f.2.2.2 (-1024) 1024]:=by
  generalize Jmv c f.1 f.2.1=p
  generalize Jh f.2.2.1 0 100000=q
  generalize Jh f.2.2.2 (-1024) 1024=r
  generalize(if f.2.2.2=0 then(6:Int) else 0)=s
  simp only[Ja]
  repeat' split
  all_goals first|rfl|omega
 rw[e4]
 refine⟨⟨hr,hr,by omega,by omega⟩,fun h=> ?_,fun h=> ?_⟩
 ·have h:¬Ja [Jmv c f.1 f.2.1,Jh f.2.2.1 0 100000,Jh f.2.2.2 (-1024) 1024]=0:=Vs.1 h
  rw[if_neg h];rfl
 ·have h:Ja [Jmv c f.1 f.2.1,Jh f.2.2.1 0 100000,Jh f.2.2.2 (-1024) 1024]=0:=Ut.1 h
  rw[if_pos h,Jh9]
theorem J9t [Sx.Dr]:Ok Tryz.prog 18 Jxo:=Jn mixed W25.ok (by kernel_rfl) (by kernel_rfl) na fun xx=>J7v xx.1 xx.2.1
abbrev W26 [Sx.Dr]:=W25.add J9t
def Jlg (c:Cab) (f:Flt) (w:Int):Int:=Ja [Ym c f,Jh w 0 1000]
def Yj (c:Cab) (f:Flt):Prop:=Y7 c∧(0≤f.1∧f.1<c.1.length)∧(1≤f.2.1∧f.2.1<(c.1.getD f.1.toNat (0,0)).2)∧(0≤f.2.2.1∧f.2.2.1≤100000)∧(-1024≤f.2.2.2∧f.2.2.2≤1024)∧f.2.2.2≠0
theorem Lk {c:Cab} {f:Flt} (h:Ym c f=0):Uk c=0∧Yj c f:=by
 unfold Ym at h
 split at h
 ·rename_i hc
  split at h
  ·rename_i hs
   have hz:=J4 h
   simp only[List.mem_cons,List.not_mem_nil,or_false,forall_eq_or_imp,forall_eq] at hz
   obtain⟨a1,a2,a3,a4⟩:=hz
   have b1:=Jg.1 a1
   have b2:=Jg.1 a2
   have b3:=Jg.1 a3
   have b4:f.2.2.2≠0:=fun e=>by rw[if_pos e] at a4;cases a4
   exact⟨hc,Xl hc,H1.1 hs,⟨b1.1,by omega⟩,b2,b3,b4⟩
  ·cases h
 ·rename_i hc;exact absurd h hc
def Yh (x:Int×Int):Int:=Ja [Jh x.1 0 999999999,Jh x.2 0 999999999,bif decide (x.2<x.1) then 11 else 0]
def Jsj:Con:={args:=[aP],ress:=[I],owns:=[],pre:=fun _=>[],spec:=fun(x,_)=>(Yh x,())}
theorem J7o [Sx.Dr] (x:Int×Int):wpF Tryz.prog W26.g (na ()) Tryz.f30 Jsj (x,()):=by
 refine(by kernel_rfl:(3≤1000000∧Ja [Jh x.1 0 999999999,Jh x.2 0 999999999,bif decide (x.2<x.1) then 11 else 0]=Yh x)=_).mp ?_
 exact⟨by omega,rfl⟩
theorem J9h [Sx.Dr]:Ok Tryz.prog 30 Jsj:=Jn mixed W26.ok (by kernel_rfl) (by kernel_rfl) na fun xx=>J7o xx.1
abbrev W27 [Sx.Dr]:=W26.add J9h
abbrev sRR:Sch:= .prod sI (.prod sI (.prod sI sI))
def Jiz (c:Cab) (a b:Int×Int):Int:=max 0 ((Kv c.1).2+a.1-b.2)
def D7 (c:Cab) (a b:Int×Int):Int:=min (2*(Kv c.1).2) ((Kv c.1).2+a.2-b.1)
abbrev RR:Type:=Int×Int×Int×Int
def rr (x y:Int×Int):RR:=(x.1,x.2,y.1,y.2)
def J1l (c:Cab) (a b:Int×Int):RR:=if D7 c a b<Jiz c a b then(0,0,0,0) else rr (Je 2 c.1 0 (Jiz c a b)) (Je 2 c.1 0 (D7 c a b))
def Jt1 (c:Cab) (a b:Int×Int):Int:=if D7 c a b<Jiz c a b then 7 else 0
def Jk1 (c:Cab) (a b:Int×Int):Int:=if Ja [Uk c,Yh a,Yh b]=0 then Jt1 c a b else Ja [Uk c,Yh a,Yh b]
def Ji1 (c:Cab) (a b:Int×Int):RR:=if Ja [Uk c,Yh a,Yh b]=0 then J1l c a b else(0,0,0,0)
theorem Jly {x:Int×Int} (h:Yh x=0):0≤x.1∧x.1≤x.2∧x.2≤999999999:=by
 have hz:=J4 h
 simp only[List.mem_cons,List.not_mem_nil,or_false,forall_eq_or_imp,forall_eq] at hz
 obtain⟨a1,a2,a3⟩:=hz
 have b1:=Jg.1 a1
 have b2:=Jg.1 a2
 have b3:¬x.2<x.1:=fun e=>by simp[e] at a3
 omega
def Joc:Con:={args:=[aC,aP,aP],ress:=[(true,sRR),I],owns:=[],pre:=fun(c,_)=>[c.1.length≤1000000,c.2.1.length≤1000000],spec:=fun(c,a,b,_)=>(Ji1 c a b,Jk1 c a b,())}
theorem Jwm {c:Cab} {a b:Int×Int} (h:Ja [Uk c,Yh a,Yh b]=0):Uk c=0∧(1≤(Kv c.1).2∧(Kv c.1).2≤384)∧(0≤a.1∧a.1≤a.2∧a.2≤999999999)∧0≤b.1∧b.1≤b.2∧b.2≤999999999:=by
 have hz:=J4 h
 simp only[List.mem_cons,List.not_mem_nil,or_false,forall_eq_or_imp,forall_eq] at hz
 obtain⟨a1,a2,a3⟩:=hz
 obtain⟨v1,v2,v3,_⟩:=Xl a1
 have b1:=Vc v3
 exact⟨a1,by omega,Jly a2,Jly a3⟩
def Z92 (a:Cab) (b c:Int×Int):=max 0 ((Kv a.1).2+b.1-c.2)
def Jyo (a:Cab) (b c:Int×Int):=min (2*(Kv a.1).2) ((Kv a.1).2+b.2-c.1)
def J0k (a:Cab):=Z53 a∧Z28 a∧3≤1000000
def J5p (a:Cab) (b c:Int×Int):=Ja [Z54 a,Yh (E2 b),Yh (E2 c)]
theorem J7y [Sx.Dr] (c:Cab) (a b:Int×Int):wpF Tryz.prog W27.g (na ()) Tryz.f12 Joc (c,a,b,()):=by
 refine(by kernel_rfl:(Z55 c→Z26 c→J0k c∧Br (J5p c a b !=0) ((0,0,0,0)=Ji1 c a b∧J5p c a b=Jk1 c a b) (Z87 c∧(Iw ((Kv c.1).2+a.1)∧Iw ((Kv c.1).2+a.1-b.2)∧Iw (2*(Kv c.1).2)∧Iw ((Kv c.1).2+a.2)∧Iw ((Kv c.1).2+a.2-b.1))∧Br (decide (Jyo c a b<Z92 c a b)) ((0,0,0,0)=Ji1 c a b∧7=Jk1 c a b) ((Z87 c∧(Z20≤Z92 c a b∧Z92 c a b≤1000000000000)∧Z87 c∧Z20≤Jyo c a b∧Jyo c a b≤1000000000000)∧((Je 2 c.1 0 (Z92 c a b)).1,(Je 2 c.1 0 (Z92 c a b)).2,E2 (Je 2 c.1 0 (Jyo c a b)))=Ji1 c a b∧0=Jk1 c a b)))=_).mp ?_
 delta Z13 Z20 Z26 Z28 Z33 Z53 Z54 Z55 Z87 Z92 Jyo J0k J5p Br Iw E2
 intro h1 h2
 unfold Ji1 Jk1
 refine⟨⟨h1,h2,by omega⟩,fun h=> ?_,fun h=> ?_⟩
 ·have h:¬Ja [Uk c,Yh a,Yh b]=0:=Vs.1 h
  rw[if_neg h,if_neg h];exact⟨rfl,rfl⟩
 ·have h:Ja [Uk c,Yh a,Yh b]=0:=Ut.1 h
  obtain⟨hc,b1,b2,b3⟩:=Jwm h
  rw[if_pos h,if_pos h]
  have b1:1≤(Kv c.1).2∧(Kv c.1).2≤384:=b1
  unfold J1l Jt1 Jiz D7
  generalize(Kv c.1).2=L at b1⊢
  refine⟨hc,by omega,fun h'=> ?_,fun h'=> ?_⟩
  ·have h':=of_decide_eq_true h'
   rw[if_pos h',if_pos h'];exact⟨rfl,rfl⟩
  ·have h':=of_decide_eq_false h'
   rw[if_neg h',if_neg h']
   exact⟨⟨hc,by omega,hc,by omega,by omega⟩,rfl,rfl⟩
theorem J9z [Sx.Dr]:Ok Tryz.prog 12 Joc:=Jn mixed W27.ok (by kernel_rfl) (by kernel_rfl) na fun xx=>J7y xx.1 xx.2.1 xx.2.2.1
abbrev W28 [Sx.Dr]:=W27.add J9z
abbrev Stp:Type:=Int×Int×Bool×Int×Int
abbrev Jbp:Sch:= .prod sI (.prod sI (.prod .bool (.prod sI sI)))
abbrev aW:AK:= .val true Jbp
abbrev Kaf:Bool×Sch:=(true,Jbp)
def K6 (w:Stp) (r:Bool):Int×Int:=bif r then(w.2.1+1,w.2.1) else(w.2.1-1,w.2.1-1)
def Jss:Con:={args:=[aW,aB],ress:=[I,I],owns:=[],pre:=fun(w,_)=>[-1000≤w.2.1∧w.2.1≤1000],spec:=fun(w,r,_)=>((K6 w r).1,(K6 w r).2,())}
def Z17:=(-1000)
def J04 (a:Stp):=Z17≤a.2.1∧a.2.1≤1000
theorem J07 [Sx.Dr] (w:Stp) (r:Bool):wpF Tryz.prog W28.g (na ()) Tryz.f103 Jss (w,r,()):=by
 refine(by kernel_rfl:(J04 w→Br r (Iw (w.2.1+1)∧w.2.1+1=(K6 w r).1∧w.2.1=(K6 w r).2) (Tw (Iw (w.2.1-1))∧w.2.1-1=(K6 w r).1∧w.2.1-1=(K6 w r).2))=_).mp ?_
 delta Z17 J04 Br Iw Tw
 intro h
 unfold K6
 refine⟨fun e=> ?_,fun e=> ?_⟩<;>(subst e;exact⟨by omega,rfl,rfl⟩)
theorem J1i [Sx.Dr]:Ok Tryz.prog 103 Jss:=Jn mixed W28.ok (by kernel_rfl) (by kernel_rfl) na fun xx=>J07 xx.1 xx.2.1
abbrev W29 [Sx.Dr]:=W28.add J1i
def hgt (w:Stp) (k:Int):Int:=(w.2.2.2.2*k).tdiv 8
def Kq (c:Cab) (w:Stp) (r:Bool) (k:Int):List Stp:=
 if hgt w k=0∨(K6 w r).2<0∨(c.1.length:Int)≤(K6 w r).2 then[] else[(w.1+(c.1.getD (K6 w r).2.toNat (0,0)).2,(K6 w r).1,r,w.2.2.2.1+1,hgt w k)]
def wvB (w:Stp):Prop:=(0≤w.1∧w.1≤1000000)∧(0≤w.2.1∧w.2.1≤6)∧(0≤w.2.2.2.1∧w.2.2.2.1≤6)∧-17179869184≤w.2.2.2.2∧w.2.2.2.2≤17179869184
def Jxd:Con:={args:=[aC,aW,aB,aI],ress:=[(false, .list 126 Jbp)],owns:=[true],pre:=fun(c,w,_,k,_)=>[Uk c=0,wvB w,-16≤k∧k≤16],spec:=fun(c,w,r,k,_)=>(Kq c w r k,())}
theorem Jau {w:Stp} {k:Int} (h:wvB w) (hk: -16≤k∧k≤16):(-274877906944≤w.2.2.2.2*k∧w.2.2.2.2*k≤274877906944)∧-34359738368≤hgt w k∧hgt w k≤34359738368:=by
 obtain⟨_,_,_,h1,h2⟩:=h
 have a1:w.2.2.2.2*k≤274877906944:=by
  rcases Int.le_total 0 k with h|h
  ·have:=Int.mul_le_mul h2 hk.2 h (by omega);omega
  ·have:=Int.mul_le_mul_of_nonpos_right h1 h;omega
 have a2: -274877906944≤w.2.2.2.2*k:=by
  rcases Int.le_total 0 k with h|h
  ·have:=Int.mul_le_mul_of_nonneg_right h1 h;omega
  ·have:=Int.mul_le_mul_of_nonpos_right h2 h;omega
 refine⟨⟨a2,a1⟩, ?_⟩
 unfold hgt
 generalize w.2.2.2.2*k=x at a1 a2
 rcases Int.le_total 0 x with h|h
 ·rw[Int.tdiv_eq_ediv_of_nonneg h];omega
 ·have e:x.tdiv 8= -((-x).tdiv 8):=by rw[Int.neg_tdiv,Int.neg_neg]
  rw[e,Int.tdiv_eq_ediv_of_nonneg (by omega)];omega
def Z7 (a:Stp):=Iw (a.2.2.2.1+1)
def Z18:=(-16)
def Z30:=(8:Int)=0→False
def Z63 (a:Stp):=(a.1,a.2.1,a.2.2.1,E2 a.2.2.2)
def Z95:List (Int×Int×Bool×Int×Int):=[]
def Z97 (a:Stp) (b:Bool):=(K6 (Z63 a) b).2
def J5o (a:Stp) (b:Cab) (c:Bool):=a.1+(Gt b.1 (Z97 a c) (0,0)).2
theorem J7c [Sx.Dr] (c:Cab) (w:Stp) (r:Bool) (k:Int):wpF Tryz.prog W29.g (na ()) Tryz.f84 Jxd (c,w,r,k,()):=by
 refine(by kernel_rfl:(Uk c=0→wvB w→Z18≤k∧k≤16→J04 w∧(Iw (w.2.2.2.2*k)∧Z30∧Iw (Int.tdiv (w.2.2.2.2*k) 8))∧Br (bif bif Int.tdiv (w.2.2.2.2*k) (8:Int)==0 then true else decide (Z97 w r<0) then true else decide (Z1 c≤Z97 w r)) (Z95=Kq c w r k) (T2 (Bd (Z97 w r) (Z1 c)) (Iw (J5o w c r)∧Z7 w)∧(J5o w c r,(K6 (Z63 w) r).1,r,w.2.2.2.1+1,Int.tdiv (w.2.2.2.2*k) 8)::Z95=Kq c w r k))=_).mp ?_
 delta Z1 Z7 Z17 Z18 Z30 Z63 Z95 Z97 J04 J5o Br Iw Bd T2 Ln Gt E2
 intro h hw hk
 have hv:Y7 c:=Xl h
 obtain⟨⟨m1,m2⟩,n1,n2⟩:=Jau hw hk
 obtain⟨q1,q2,q3,_⟩:=hw
 unfold Kq hgt at*
 generalize(w.2.2.2.2*k).tdiv 8=H at*
 generalize K6 w r=A at*
 refine⟨by omega,⟨by omega,by omega,by omega⟩,fun h1=> ?_,fun h1=> ?_⟩
 ·have h2:H=0∨A.2<0∨(c.1.length:Int)≤A.2:=by simpa[or_assoc] using h1
  rw[if_pos h2]
 ·have h2:¬(H=0∨A.2<0∨(c.1.length:Int)≤A.2):=by simpa[or_assoc,and_assoc] using h1
  rw[if_neg h2]
  have b:=hv.2.2.1 _ (Jp (d:=(0,0)) (l:=c.1) (k:=A.2.toNat) (by omega))
  exact⟨⟨by omega,by omega,by omega,by omega⟩,rfl⟩
theorem J8c [Sx.Dr]:Ok Tryz.prog 84 Jxd:=Jn mixed W29.ok (by kernel_rfl) (by kernel_rfl) na fun xx=>J7c xx.1 xx.2.1 xx.2.2.1 xx.2.2.2.1
abbrev W30 [Sx.Dr]:=W29.add J8c
def Juc (_:Nat→Option Res) (n:Nat) (args:List SV):Option Out:=match args with
 |[.v false [.val (.slice none 0 0)], .v false [.int .i64 k]]=>some ⟨[0≤k∧k≤1000000], .one (.sl n),[.own 126 Jbp []],[]⟩
 |_=>none
def J11:Con:={args:=[],ress:=[],owns:=[],pre:=fun _=>[False],spec:=fun _=>(),prim:=some Juc}
theorem Jub [Sx.Dr]:Js8 Tryz.prog 104 Juc:=by
 intro N B w0 al τ σ a w ρ M R n d rs args out C hd hrs hop hpre hfresh
 unfold Juc at hop
 split at hop
 ·rename_i k
  cases hop
  have hk:0≤k∧k≤1000000:=hpre
  have hn:¬al n:=fun h=>hfresh n h ⟨Nat.le_refl _,by simp⟩
  obtain⟨m,rfl⟩:=Int.eq_ofNat_of_zero_le hk.1
  have hm:m≤1000000:=by omega
  rcases Nat.eq_zero_or_pos m with h0|h0
  ·subst h0
   refine⟨_,Tryz.grow203_none w,fun e w' hp=> ?_⟩
   obtain⟨rfl,rfl⟩:=hp
   have hne:∀id,al id→id≠n:=fun id h e=>hn (e▸h)
   have en:J9 ρ n [Value.slice none 0 0] n= .slice none 0 0:=Ko (i:=0) rfl
   have eo:∀id,al id→J9 ρ n [Value.slice none 0 0] id=ρ id:=fun id h=>Kc (by have:=hne id h;simp;omega)
   refine⟨_,J9 ρ n [.slice none 0 0],M,rfl, ?_⟩
   refine C.step hd (fun id h=>by have:=hne id h;simp;omega) (fun id h=>Kc (by simpa using h)) (by show _=Sx.valOf false [J9 ρ n _ n];rw[en];rfl) (fun id hid=> ?_) (Sx.Below.refl _ _) (Nat.le_refl _) (fun _ h=>h) (fun b h=>C.old b (.inl h)) (fun _ _=>rfl) ?_ ?_ ?_ ?_
   ·have:id=n:=by simpa[SV.ids,Jy,SC.ids] using hid
    exact .inr ⟨by omega,by simp;omega⟩
   ·intro r x _ _ hx ho b hb
    exact⟨rfl,(C.notM hx ho hb).1⟩
   ·rintro r x hx (h|h)
    ·have er:r=n:=by simp at h;omega
     subst er
     rw[Vp h] at hx
     simp at hx
     subst hx
     refine⟨⟨[],rfl,⟨by simp, .inl ⟨en,rfl⟩⟩,fun g hg=>by rw[en] at hg;cases hg⟩, .inr h,fun id hid=>by simp[Res.ids] at hid⟩
    ·exact absurd rfl h
   ·intro id h
    have er:id=n:=by simp at h;omega
    subst er
    rw[en];rfl
   ·rintro r r' x1 x2 hne' h1 h2 o1 o2 (h|h) b hb1 hb2
    ·have er:r=n:=by simp at h;omega
     subst er
     rw[en] at hb1;cases hb1
    ·exact absurd rfl h
  ·refine⟨_,Tryz.grow203 m w h0 hm,fun e w' hp=> ?_⟩
   obtain⟨cap,cur,rfl,rfl,hcur,hcap⟩:=hp
   have C0:Jj Tryz.prog N B w0 al τ σ a w.drew ρ M R:=C.world (w':=w.drew) rfl ⟨rfl,rfl,rfl,Nat.le_refl _,fun _ _=>rfl,fun _=>Nat.le_succ _⟩
   obtain⟨ρ',hC⟩:=C0.allocRes (n:=n) (d:=d) (x:= .own 126 Jbp []) (v:= .sl n) (u:= .slice (some ⟨w.heap.size,0,none⟩) 0 cap) hd hn (.cells cur 126) rfl rfl (fun ρ' h=>h) (fun id h=>by simpa[SC.ids] using h) (fun id h=>by simp[Res.ids] at h) (fun ρ' h5 _=>by
    refine⟨[],rfl,⟨by simp, .inr ⟨w.heap.size,cap,cur,h5,C.base,heap_alloc_new w.drew _,Nat.zero_le _,hcap,hcur,by simp⟩⟩,fun g hg=> ?_⟩
    rw[h5] at hg;cases hg
    exact⟨fun h=>Nat.lt_irrefl _ (C.old w.heap.size (.inl h)),fun h=>Nat.lt_irrefl _ (C.old w.heap.size (.inr h))⟩)
   exact⟨_,ρ',M,rfl,hC⟩
 ·cases hop
theorem J1h [Sx.Dr]:Ok Tryz.prog 104 J11:=⟨⟨Tryz.f104,by kernel_rfl,by kernel_rfl,by kernel_rfl⟩,fun z hz=>(by cases hz),fun F hF=>(by cases hF;exact Jub),fun _ x M R w vs _ _ hpre _=>False.elim hpre⟩
abbrev W31 [Sx.Dr]:=W30.add J1h
theorem V8 {α:Type} {l:List α} {k:Nat} {d:α} (h:k<l.length):l.drop k=l.getD k d::l.drop (k+1):=by
 rw[List.drop_eq_getElem_cons h]
 simp[List.getD_eq_getElem?_getD,h]
def Jb1 (ll:List (List Stp)):Prop:=ll.length≤100∧∀l∈ll,l.length≤100
def Juu:Con:={args:=[.val false (.list 143 (.list 126 Jbp))],ress:=[(false, .list 126 Jbp)],owns:=[true],pre:=fun(ll,_)=>[Jb1 ll],spec:=fun(ll,_)=>(ll.flatten,())}
abbrev Jow (ll:List (List Stp)):Nat→Option Ann:=fun id=>
 if id=0 then some {X:=Nat,σ:=fun k=>⟨5,[(0, .one (.sl 0)),(3, .one (.int .i64 (ll.take k).flatten.length)),(9, .one (.sl 0)),(10, .one (.int .i64 ll.length)),(11, .one (.int .i64 k))],[(0, .imm 143 (.list 126 Jbp) ll)]⟩,inv:=fun k=>k≤ll.length,mu:=fun k=>ll.length-k}
 else if id=2 then some {X:=Nat,σ:=fun k=>⟨5,[(0, .one (.sl 0)),(6, .one (.sl 4)),(25, .one (.sl 0)),(26, .one (.int .i64 ll.length)),(27, .one (.int .i64 k))],[(0, .imm 143 (.list 126 Jbp) ll),(4, .own 126 Jbp (ll.take k).flatten)]⟩,inv:=fun k=>k≤ll.length,mu:=fun k=>ll.length-k}
 else none
theorem Jgf {ll:List (List Stp)} {k:Nat} (h:k<ll.length):(ll.take (k+1)).flatten=(ll.take k).flatten++ll.getD k []:=by
 rw[←Kn (d:=[]) h];simp
theorem Jd1 {ll:List (List Stp)} (h:Jb1 ll) {k:Nat}:(ll.take k).flatten.length≤100*ll.length:=by
 have key:∀l:List (List Stp),(∀x∈l,x.length≤100)→l.flatten.length≤100*l.length:=by
  intro l
  induction l with
  |nil=>simp
  |cons x r ih=>
   intro hx
   have h1:=hx x (by simp)
   have h2:=ih fun y hy=>hx y (by simp[hy])
   simp only[List.flatten_cons,List.length_append,List.length_cons];omega
 have h1:=key (ll.take k) fun x hx=>h.2 x (List.mem_of_mem_take hx)
 have:(ll.take k).length≤ll.length:=by simp;omega
 omega
def Z44 (a:Nat) (b:List (List Stp)):=List.flatten (List.take a b)
def Z67 (a:Nat) (b:List (List Stp)):=Ln (Z44 a b)
def J50 (a:Nat) (b:List (List Stp)) (c:Nat):=a≤List.length b∧List.length b-a<List.length b-c
def Jz2 (a:List (List Stp)) (b:Nat):=List.getD a b Z95
def Jzn (a:Nat) (b:List (List Stp)):=Z67 a b+Ln (Jz2 b a)
def J2t (a:Nat) (b:List (List Stp)):=Z2 a∧∃(y:Nat),(Jzn a b=Z67 y b∧Si (Ln b) (Z29 a y∧b=b))∧J50 y b a
theorem J8b [Sx.Dr]:Ok Tryz.prog 85 Juu:=okW W31 Tryz.f85 (fun xx=>Jow xx.1) fun xx=>by
 obtain⟨(ll:List (List Stp)),_⟩:=xx
 refine(by kernel_rfl:(Jb1 ll→∃(x:Nat),(0=Z67 x ll∧Si (Ln ll) (0=Nc x∧ll=ll))∧x≤List.length ll∧∀(x:Nat),x≤List.length ll→Br (decide (Nc x<Ln ll)) (Tw (Bd (Nc x) (Ln ll))∧Iw (Jzn x ll)∧Br (decide (Jzn x ll<0)) (False∧J2t x ll) (J2t x ll)) ((0≤Z67 x ll∧Z67 x ll≤1000000)∧∃(x:Nat),Si (Ln ll) (0=Nc x∧Sf ll (Z95=Z44 x ll))∧x≤List.length ll∧∀(x:Nat),x≤List.length ll→Br (decide (Nc x<Ln ll)) (Tw (Bd (Nc x) (Ln ll))∧(List.length (Z44 x ll)+List.length (Jz2 ll x))*40≤140737488355328∧Z2 x∧∃(y:Nat),Si (Ln ll) (Z29 x y∧Sf ll (Z44 x ll++Jz2 ll x=Z44 y ll))∧J50 y ll x) (Z44 x ll=List.flatten ll)))=_).mp ?_
 delta Z2 Z29 Z44 Z67 Z95 J50 Jz2 Jzn J2t Br Iw Bd Tw Sf Si Ln Nc
 intro h
 have hl:=h.1
 have gl:∀k,k<ll.length→(ll.getD k []).length≤100:=fun k hk=>h.2 _ (Jp hk)
 refine⟨(0:Nat),⟨by simp,rfl,rfl,rfl⟩,Nat.zero_le _,fun(k:Nat) hk=>⟨fun h1=> ?_,fun h1=> ?_⟩⟩
 ·have hlt:k<ll.length:=by simpa using h1
  have h2:=Jd1 h (k:=k)
  have h3:=gl k hlt
  refine⟨by omega,by omega,fun h4=> ?_,fun h4=>⟨by omega,(k+1:Nat),⟨?_,rfl,by simp,rfl⟩,by omega,by omega⟩⟩
  ·have h4:=of_decide_eq_true h4
   omega
  ·rw[Jgf hlt,List.length_append];simp
 ·have h2:=Jd1 h (k:=k)
  refine⟨by omega,(0:Nat),⟨rfl,rfl,rfl,by simp⟩,Nat.zero_le _,fun(j:Nat) hj=>⟨fun h1=> ?_,fun h1=> ?_⟩⟩
  ·have hlt:j<ll.length:=by simpa using h1
   have h2:=Jd1 h (k:=j)
   have h3:=gl j hlt
   exact⟨by omega,by omega,by omega,(j+1:Nat),⟨rfl,by simp,rfl,(Jgf hlt).symm⟩,by omega,by omega⟩
  ·have hlt:¬j<ll.length:=by simpa using h1
   rw[List.take_of_length_le (by omega)]
abbrev W32 [Sx.Dr]:=W31.add J8b
def Fm (c:Cab) (w:Stp):Int:=bif w.2.2.1 then c.2.1.getD (w.2.1-1).toNat 0 else 0-c.2.1.getD (w.2.1-1).toNat 0
def Jk (c:Cab) (w:Stp):List Stp:=
 if w.2.2.2.1=6 then[] else if w.2.1=0 then Kq c w true c.2.2.1 else if w.2.1=c.1.length then Kq c w false c.2.2.2 else
 Kq c w w.2.2.1 (8+Fm c w)++Kq c w (!w.2.2.1) (Fm c w)
def wvC (c:Cab) (w:Stp):Prop:=wvB w∧w.2.1≤c.1.length
def Jsr:Con:={args:=[aC,aW],ress:=[(false, .list 126 Jbp)],owns:=[true],pre:=fun(c,w,_)=>[Uk c=0,wvC c w],spec:=fun(c,w,_)=>(Jk c w,())}
theorem Zb (c:Cab) (w:Stp) (r:Bool) (k:Int):(Kq c w r k).length≤1:=by
 unfold Kq;split<;>simp
theorem Jb2 (c:Cab) (w:Stp) (r r':Bool) (k k':Int):Jb1 [Kq c w r k,Kq c w r' k']:=by
 refine⟨by simp,fun l hl=> ?_⟩
 have h1:=Zb c w r k
 have h2:=Zb c w r' k'
 simp only[List.mem_cons,List.not_mem_nil,or_false] at hl
 rcases hl with rfl|rfl<;>omega
theorem Jdv {c:Cab} {w:Stp} (hv:Y7 c) (hw:wvC c w) (h0:¬w.2.1=0) (h1:¬w.2.1=c.1.length):(0≤w.2.1-1∧w.2.1-1<c.2.1.length)∧-8≤c.2.1.getD (w.2.1-1).toNat 0∧c.2.1.getD (w.2.1-1).toNat 0≤8:=by
 obtain⟨⟨_,hb,_⟩,hn⟩:=hw
 obtain⟨_,_,_,v4,v5,_⟩:=hv
 have b:0≤w.2.1-1∧w.2.1-1<c.2.1.length:=by omega
 exact⟨b,v5 _ (Jp (by omega))⟩
def Z56 (a:Cab) (b:Stp):=Gt a.2.1 (b.2.1-1) 0
def Z82 (a:Stp):=wvB (Z63 a)
def Z90 (a:Cab) (b:Stp):=0-Z56 a b
def Z91 (a:Cab) (b:Stp):=8+Z56 a b
def J6m:List (List (Int×Int×Bool×Int×Int)):=[]
def Js5 (a:Cab) (b:Stp):=8+Z90 a b
def J4k (a:Cab) (b:Stp):=Kq (Z33 a) (Z63 b) b.2.2.1 (Z91 a b)
def J4b (a:Cab) (b:Stp):=Kq (Z33 a) (Z63 b) b.2.2.1 (Js5 a b)
def J3l (a:Cab) (b:Stp):=Kq (Z33 a) (Z63 b) (!b.2.2.1) (Z56 a b)::J6m
def J3g (a:Cab) (b:Stp):=Kq (Z33 a) (Z63 b) (!b.2.2.1) (Z90 a b)::J6m
theorem J7f [Sx.Dr] (c:Cab) (w:Stp):wpF Tryz.prog W32.g (na ()) Tryz.f74 Jsr (c,w,()):=by
 refine(by kernel_rfl:(Uk c=0→wvC c w→Br (w.2.2.2.1==6) (Z95=Jk c w) (Br (w.2.1==0) ((Z87 c∧Z82 w∧Z18≤c.2.2.1∧c.2.2.1≤16)∧Kq (Z33 c) (Z63 w) true c.2.2.1=Jk c w) (Br (w.2.1==Z1 c) ((Z87 c∧Z82 w∧Z18≤c.2.2.2∧c.2.2.2≤16)∧Kq (Z33 c) (Z63 w) false c.2.2.2=Jk c w) ((Iw (w.2.1-1)∧Tw (Bd (w.2.1-1) (Ln c.2.1)))∧Br (!w.2.2.1) (Iw (Z90 c w)∧(Iw (Js5 c w)∧Z87 c∧Z82 w∧(Z18≤Js5 c w∧Js5 c w≤16)∧Z87 c∧Z82 w∧(Z18≤Z90 c w∧Z90 c w≤16)∧Jb1 (J4b c w::J3g c w))∧J4b c w++List.flatten (J3g c w)=Jk c w) ((Iw (Z91 c w)∧Z87 c∧Z82 w∧(Z18≤Z91 c w∧Z91 c w≤16)∧Z87 c∧Z82 w∧(Z18≤Z56 c w∧Z56 c w≤16)∧Jb1 (J4k c w::J3l c w))∧J4k c w++List.flatten (J3l c w)=Jk c w)))))=_).mp ?_
 delta Z1 Z18 Z33 Z54 Z56 Z63 Z82 Z87 Z90 Z91 Z95 J6m Js5 J4k J4b J3l J3g Br Iw Bd Tw Ln Gt E2
 intro h hw
 have hv:Y7 c:=Xl h
 have hb:=hw.1
 obtain⟨_,_,_,v4,v5,v6,v7⟩:=id hv
 unfold Jk
 refine⟨fun e=> ?_,fun e=>⟨fun e1=> ?_,fun e1=>⟨fun e2=> ?_,fun e2=> ?_⟩⟩⟩
 ·rw[if_pos (by simpa using e)]
 ·rw[if_neg (by simpa using e),if_pos (by simpa using e1)]
  exact⟨⟨h,hb,by omega,by omega⟩,rfl⟩
 ·rw[if_neg (by simpa using e),if_neg (by simpa using e1),if_pos (by simpa using e2)]
  exact⟨⟨h,hb,by omega,by omega⟩,rfl⟩
 ·rw[if_neg (by simpa using e),if_neg (by simpa using e1),if_neg (by simpa using e2)]
  obtain⟨j1,j2⟩:=Jdv hv hw (by simpa using e1) (by simpa using e2)
  refine⟨⟨by omega,j1,j1⟩,fun e3=> ?_,fun e3=> ?_⟩
  ·have e3:w.2.2.1=false:=by simpa using e3
   have ef:Fm c w=0-c.2.1.getD (w.2.1-1).toNat 0:=by unfold Fm;rw[e3];rfl
   rw[ef]
   refine⟨by omega,⟨by omega,h,hb,by omega,h,hb,by omega,Jb2 _ _ _ _ _ _⟩, ?_⟩
   simp only[List.flatten_cons,List.flatten_nil,List.append_nil]
  ·have e3:w.2.2.1=true:=by simpa using e3
   have ef:Fm c w=c.2.1.getD (w.2.1-1).toNat 0:=by unfold Fm;rw[e3];rfl
   rw[ef]
   refine⟨⟨by omega,h,hb,by omega,h,hb,by omega,Jb2 _ _ _ _ _ _⟩, ?_⟩
   simp only[List.flatten_cons,List.flatten_nil,List.append_nil]
theorem J8k [Sx.Dr]:Ok Tryz.prog 74 Jsr:=Jn mixed W32.ok (by kernel_rfl) (by kernel_rfl) na fun xx=>J7f xx.1 xx.2.1
abbrev W33 [Sx.Dr]:=W32.add J8k
def Yn (c:Cab) (t b:Int) (r:Bool) (hp ht:Int):Stp:=bif r then(t+(c.1.getD b.toNat (0,0)).2,b+1,true,hp,ht) else(t+(c.1.getD (b-1).toNat (0,0)).2,b-1,false,hp,ht)
def Zq (c:Cab) (b:Int) (r:Bool):Prop:=bif r then 0≤b∧b<c.1.length else 1≤b∧b≤c.1.length
def Jsi:Con:={args:=[aCR,aI,aI,aB,aI,aI],ress:=[Kaf],owns:=[],pre:=fun(c,t,b,r,hp,ht,_)=>[Uk c=0,0≤t∧t≤1000000,Zq c b r],spec:=fun(c,t,b,r,hp,ht,_)=>(Yn c t b r hp ht,())}
theorem J7a [Sx.Dr] (c:Cab) (t b:Int) (r:Bool) (hp ht:Int):wpF Tryz.prog W33.g (na ()) Tryz.f99 Jsi (c,t,b,r,hp,ht,()):=by
 refine(by kernel_rfl:(Uk c=0→0≤t∧t≤1000000→Zq c b r→Br r (T2 (Bd b (Z1 c)) (Iw (t+Z76 c b)∧Iw (b+1))∧(t+Z76 c b,b+1,true,hp,ht)=Yn c t b r hp ht) ((Iw (b-1)∧T2 (Bd (b-1) (Z1 c)) (Iw (t+(Gt c.1 (b-1) (0,0)).2)∧Iw (b-1)))∧(t+(Gt c.1 (b-1) (0,0)).2,b-1,false,hp,ht)=Yn c t b r hp ht))=_).mp ?_
 delta Z1 Z76 Br Iw Bd T2 Ln Gt
 intro h h1 h2
 have hv:Y7 c:=Xl h
 obtain⟨_,v2,v3,_⟩:=id hv
 unfold Yn
 refine⟨fun e=> ?_,fun e=> ?_⟩
 ·subst e
  have h2:0≤b∧b<c.1.length:=h2
  have q:=v3 _ (Jp (d:=(0,0)) (l:=c.1) (k:=b.toNat) (by omega))
  exact⟨⟨h2,h2,by omega,by omega⟩,rfl⟩
 ·subst e
  have h2:1≤b∧b≤c.1.length:=h2
  have q:=v3 _ (Jp (d:=(0,0)) (l:=c.1) (k:=(b-1).toNat) (by omega))
  exact⟨⟨by omega,by omega,by omega,by omega,by omega⟩,rfl⟩
theorem J77 [Sx.Dr]:Ok Tryz.prog 99 Jsi:=Jn mixed W33.ok (by kernel_rfl) (by kernel_rfl) na fun xx=>J7a xx.1 xx.2.1 xx.2.2.1 xx.2.2.2.1 xx.2.2.2.2.1 xx.2.2.2.2.2.1
abbrev W34 [Sx.Dr]:=W33.add J77
def Ue (a b:Stp):Bool:=if a.1≠b.1 then decide (a.1<b.1) else if a.2.1≠b.2.1 then decide (a.2.1<b.2.1) else if a.2.2.1≠b.2.2.1 then b.2.2.1 else if a.2.2.2.1≠b.2.2.2.1 then decide (a.2.2.2.1<b.2.2.2.1) else decide (a.2.2.2.2<b.2.2.2.2)
def Jof:Con:={args:=[aW,aW],ress:=[Bo],owns:=[],pre:=fun _=>[],spec:=fun(a,b,_)=>(Ue a b,())}
theorem J7b [Sx.Dr] (a b:Stp):wpF Tryz.prog W34.g (na ()) Tryz.f98 Jof (a,b,()):=by
 refine(by kernel_rfl:(Br (a.1 !=b.1) (decide (a.1<b.1)=Ue a b) (Br (a.2.1 !=b.2.1) (decide (a.2.1<b.2.1)=Ue a b) (Br (!a.2.2.1==b.2.2.1) (b.2.2.1=Ue a b) (Br (a.2.2.2.1 !=b.2.2.2.1) (decide (a.2.2.2.1<b.2.2.2.1)=Ue a b) (decide (a.2.2.2.2<b.2.2.2.2)=Ue a b)))))=_).mp ?_
 delta Br
 unfold Ue
 refine⟨fun e=> ?_,fun e=>⟨fun e1=> ?_,fun e1=>⟨fun e2=> ?_,fun e2=>⟨fun e3=> ?_,fun e3=> ?_⟩⟩⟩⟩
 ·rw[if_pos (by simpa using e)]
 ·rw[if_neg (by simpa using e),if_pos (by simpa using e1)]
 ·rw[if_neg (by simpa using e),if_neg (by simpa using e1),if_pos (by simpa using e2)]
 ·rw[if_neg (by simpa using e),if_neg (by simpa using e1),if_neg (by simpa using e2),if_pos (by simpa using e3)]
 ·rw[if_neg (by simpa using e),if_neg (by simpa using e1),if_neg (by simpa using e2),if_neg (by simpa using e3)]
theorem J78 [Sx.Dr]:Ok Tryz.prog 98 Jof:=Jn mixed W34.ok (by kernel_rfl) (by kernel_rfl) na fun xx=>J7b xx.1 xx.2.1
abbrev W35 [Sx.Dr]:=W34.add J78
def Jg2 (x:Stp):List Stp→List Stp
 |[]=>[x]
 |y::r=>if Ue x y then x::y::r else y::Jg2 x r
def atS (x:Stp):List Stp→Nat
 |[]=>0
 |y::r=>if Ue x y then 0 else atS x r+1
theorem Jhr (x:Stp):∀l:List Stp,Jg2 x l=l.take (atS x l)++x::l.drop (atS x l)
 |[]=>rfl
 |y::r=>by
  simp only[Jg2,atS]
  split
  ·simp
  ·rw[Jhr x r];simp
theorem Jj2 (x:Stp):∀l:List Stp,atS x l≤l.length
 |[]=>Nat.le_refl _
 |y::r=>by
  have:=Jj2 x r
  simp only[atS];split<;>simp;omega
theorem Jol (x:Stp):∀(l:List Stp) (k:Nat),k≤atS x l→((k<l.length∧Ue x (l.getD k (0,0,false,0,0))=false)↔k<atS x l)
 |[],k,h=>by simp[atS]
 |y::r,0,_=>by
  simp only[atS,List.getD_cons_zero]
  split<;>simp_all
 | y :: r, k + 1, h => by
  simp only[atS] at h⊢
  split at h
  ·omega
  ·rename_i hb
   rw[if_neg hb]
   have:=Jol x r k (by omega)
   simp only[List.getD_cons_succ,List.length_cons,Nat.add_lt_add_iff_right]
   exact this
def Jod:Con:={args:=[.val false (.list 140 Jbp),aW],ress:=[(false, .list 140 Jbp)],owns:=[true],pre:=fun(l,_)=>[l.length≤100000],spec:=fun(l,x,_)=>(Jg2 x l,())}
abbrev Jsz (l:List Stp) (x:Stp):Ann:={X:=Nat,σ:=fun k=>⟨5,[(0, .one (.sl 0)),(3, .one (.ptr 1 0)),(5, .one (.int .i64 k))],[(0, .imm 140 Jbp l),(1, .box 140 [.int .i64 x.1, .int .i64 x.2.1, .bool x.2.2.1, .int .i64 x.2.2.2.1, .int .i64 x.2.2.2.2])]⟩,inv:=fun k=>k≤atS x l,mu:=fun k=>l.length-k}
def Z72:=((0:Int),(0:Int),false,(0:Int),(0:Int))
def J6o (a:List Stp):=List.length a
def J5y (a:List Stp) (b:Stp):=Sf a (Si b.1 (Si b.2.1 (Sf b.2.2.1 (Si b.2.2.2.1 (b.2.2.2.2=b.2.2.2.2)))))
def J5q (a:List Stp) (b:Nat):=List.getD a b Z72
def J5n (a:List Stp) (b:Nat):=(J5q a b).2
def J5k (a:List Stp) (b:Nat):=(J5n a b).2
def J49 (a:Nat) (b:List Stp):=List.length (List.take a b)
def J33 (a:Nat) (b:List Stp) (c:Stp):=List.take a b++Z63 c::Z95
def J3s (a:Nat) (b:List Stp):=List.drop a (List.take (J6o b) b)
theorem J7e [Sx.Dr] (l:List Stp) (x:Stp):wpF Tryz.prog W35.g (Yl (Jsz l x)) Tryz.f81 Jod (l,x,()):=by
 refine(by kernel_rfl:(J6o l≤100000→∃(x_1:Nat),(0=Nc x_1∧J5y l x)∧x_1≤atS x l∧∀(x_2:Nat),x_2≤atS x l→Tw (decide (Nc x_2<Ln l)=true→Bd (Nc x_2) (Ln l))∧Br (bif decide (Nc x_2<Ln l) then !Ue (Z63 x) ((J5q l x_2).1,(J5n l x_2).1,(J5k l x_2).1,E2 (J5k l x_2).2) else false) (Z2 x_2∧∃(y:Nat),(Z29 x_2 y∧J5y l x)∧y≤atS x l∧List.length l-y<List.length l-x_2) ((((0:Int)≤0∧0≤Nc x_2∧Nc x_2≤Ln l)∧J49 x_2 l*40≤140737488355328)∧(J49 x_2 l+1)*40≤140737488355328∧((0≤Nc x_2∧Nc x_2≤Ln l∧Ln l≤Ln l)∧(List.length (J33 x_2 l x)+List.length (J3s x_2 l))*40≤140737488355328)∧J33 x_2 l x++J3s x_2 l=Jg2 x l))=_).mp ?_
 delta Z2 Z29 Z63 Z72 Z95 J6o J5y J5q J5n J5k J49 J33 J3s Br Iw Bd Tw Sf Si Ln Nc E2
 intro h
 refine⟨(0:Nat),⟨rfl,rfl,rfl,rfl,rfl,rfl,rfl⟩,Nat.zero_le _,fun(k:Nat) hk=>⟨⟨fun e=>by have:=of_decide_eq_true e;omega,fun e=>by have:=of_decide_eq_true e;omega⟩,fun h1=> ?_,fun h1=> ?_⟩⟩
 ·have h1:(bif decide ((k:Int)<l.length) then !Ue x (l.getD k (0,0,false,0,0)) else false)=true:=h1
  have hlt:k<atS x l:=(Jol x l k hk).1 (by
   cases h2:decide ((k:Int)<l.length) with
   |false=>rw[h2] at h1;cases h1
   |true=>rw[h2] at h1;have:=of_decide_eq_true h2;exact⟨by omega,by simpa using h1⟩)
  have:=Jj2 x l
  exact⟨by omega,(k+1:Nat),⟨by simp,rfl,rfl,rfl,rfl,rfl,rfl⟩,hlt,by omega⟩
 ·have h1:(bif decide ((k:Int)<l.length) then !Ue x (l.getD k (0,0,false,0,0)) else false)=false:=h1
  have hge:¬k<atS x l:=fun h=>by
   obtain⟨q1,q2⟩:=(Jol x l k hk).2 h
   rw[q2,decide_eq_true (by omega)] at h1
   cases h1
  have hle:=Jj2 x l
  have hk:k=atS x l:=by omega
  have e1:(l.take k).length=k:=by simp;omega
  refine⟨⟨by omega,by omega⟩,by omega,⟨by omega, ?_⟩, ?_⟩
  ·simp only[List.length_append,List.length_drop,List.length_take,List.length_singleton];omega
  ·rw[Jhr x l,←hk,List.take_length,List.append_assoc];rfl
theorem J8f [Sx.Dr]:Ok Tryz.prog 81 Jod:=Jn mixed W35.ok (by kernel_rfl) (by kernel_rfl) (fun xx=>Yl (Jsz xx.1 xx.2.1)) fun xx=>J7e xx.1 xx.2.1
abbrev W36 [Sx.Dr]:=W35.add J8f
def J0 (c:Cab) (w:Stp):List Stp:=if w.2.1=0 then[Yn c w.1 0 true (w.2.2.2.1+1) (hgt w c.2.2.1)] else if w.2.1=c.1.length then[Yn c w.1 w.2.1 false (w.2.2.2.1+1) (hgt w c.2.2.2)] else
 [Yn c w.1 w.2.1 w.2.2.1 (w.2.2.2.1+1) (hgt w (8+Fm c w)),Yn c w.1 w.2.1 (!w.2.2.1) (w.2.2.2.1+1) (hgt w (Fm c w))]
def nzS (l:List Stp):List Stp:=l.filter fun x=>x.2.2.2.2 !=0
def Jso:Con:={args:=[aCR,aW],ress:=[(false, .list 140 Jbp)],owns:=[true],pre:=fun(c,w,_)=>[Uk c=0,wvC c w],spec:=fun(c,w,_)=>(Jk c w,())}
abbrev Jot (c:Cab) (w:Stp):Ann:={X:=Nat,σ:=fun k=>⟨9,[(5, .one (.sl 4)),(7, .one (.sl 5)),(8, .one (.int .i64 k))],[(4, .own 140 Jbp (J0 c w)),(5, .own 140 Jbp (nzS ((J0 c w).take k)))]⟩,inv:=fun k=>k≤(J0 c w).length∧w.2.2.2.1≠6,mu:=fun k=>(J0 c w).length-k}
theorem Jqd {l:List Stp} {k:Nat} (h:k<l.length):nzS (l.take (k+1))=if(l.getD k (0,0,false,0,0)).2.2.2.2=0 then nzS (l.take k) else nzS (l.take k)++[l.getD k (0,0,false,0,0)]:=by
 rw[←Kn (d:=(0,0,false,0,0)) h]
 unfold nzS
 rw[List.filter_append]
 split<;>simp_all
theorem Jtq (l:List Stp) (k:Nat):(nzS (l.take k)).length≤l.length:=by
 have h1:=List.length_filter_le (fun x:Stp=>x.2.2.2.2 !=0) (l.take k)
 have h2:(l.take k).length≤l.length:=by simp;omega
 unfold nzS;omega
theorem Jm1 (c:Cab) (w:Stp):(J0 c w).length≤2:=by
 unfold J0;repeat' split
 all_goals simp
theorem Hx {c:Cab} {w:Stp} {r:Bool} {k:Int} (h:Zq c w.2.1 r):Kq c w r k=nzS [Yn c w.1 w.2.1 r (w.2.2.2.1+1) (hgt w k)]:=by
 unfold Kq nzS Yn K6
 cases r
 ·have h:1≤w.2.1∧w.2.1≤c.1.length:=h
  by_cases h0:hgt w k=0
  ·rw[if_pos (.inl h0)];simp[h0]
  ·rw[if_neg]
   ·simp[h0]
   ·simp only[cond_false];omega
 ·have h:0≤w.2.1∧w.2.1<c.1.length:=h
  by_cases h0:hgt w k=0
  ·rw[if_pos (.inl h0)];simp[h0]
  ·rw[if_neg]
   ·simp[h0]
   ·simp only[cond_true];omega
theorem Vt {c:Cab} {w:Stp} (hw:wvC c w) (h0:¬w.2.1=0) (h1:¬w.2.1=c.1.length) (r:Bool):Zq c w.2.1 r:=by
 obtain⟨⟨_,hb,_⟩,hn⟩:=hw
 cases r
 ·exact(show 1≤w.2.1∧w.2.1≤c.1.length by omega)
 ·exact(show 0≤w.2.1∧w.2.1<c.1.length by omega)
theorem Jkt {c:Cab} {w:Stp} (hv:Y7 c) (hw:wvC c w) (h6:¬w.2.2.2.1=6):nzS (J0 c w)=Jk c w:=by
 unfold J0 Jk
 rw[if_neg h6]
 split
 ·rename_i h0
  rw[Hx (show Zq c w.2.1 true from(show 0≤w.2.1∧w.2.1<c.1.length by have:=hv.1;omega)),h0]
 ·rename_i h0
  split
  ·rename_i h1
   rw[Hx (show Zq c w.2.1 false from(show 1≤w.2.1∧w.2.1≤c.1.length by have:=hv.1;omega))]
  ·rename_i h1
   rw[Hx (Vt hw h0 h1 _),Hx (Vt hw h0 h1 _)]
   unfold nzS
   rw[←List.filter_append];rfl
def Z32 (a:Nat) (b:Cab) (c:Stp):=nzS (List.take a (J0 b c))
def Z39 (a:Stp):=0≤a.1∧a.1≤1000000
def Z93 (a:Stp) (b:Cab):=a.2.2.2.2*Z56 b a
def J0y (a:Nat) (b:Cab) (c:Stp):=a≤List.length (J0 b c)∧(c.2.2.2.1=6→False)
def J6d (a:Stp) (b:Cab):=a.2.2.2.2*Js5 b a
def J6c (a:Stp) (b:Cab):=Int.tdiv (a.2.2.2.2*Z91 b a) 8
def J6b (a:Stp) (b:Cab):=Int.tdiv (a.2.2.2.2*Z90 b a) 8
def J52 (a:Nat) (b:Cab) (c:Stp):=List.length (Z32 a b c)
def J5z (a:Stp) (b:Cab):=Int.tdiv (J6d a b) 8
def Jyk (a:Nat) (b:Cab) (c:Stp):=J52 a b c=0
def J5h (a:Cab) (b:Stp):=Yn (Z33 a) b.1 b.2.1 false (b.2.2.2.1+1) (Int.tdiv (b.2.2.2.2*a.2.2.2) 8)
def J5g (a:Cab) (b:Stp):=(J5h a b).2
def J5f (a:Cab) (b:Stp):=Yn (Z33 a) b.1 0 true (b.2.2.2.1+1) (Int.tdiv (b.2.2.2.2*a.2.2.1) 8)
def J5e (a:Cab) (b:Stp):=(J5f a b).2
def J5d (a:Cab) (b:Stp):=(J5g a b).2
def J5b (a:Cab) (b:Stp) (c:Nat):=List.getD (J0 a b) c Z72
def J5a (a:Cab) (b:Stp):=(J5e a b).2
def J48 (a:Cab) (b:Stp) (c:Nat):=(J5b a b c).2
def J46 (a:Cab) (b:Stp) (c:Nat):=(J48 a b c).2
def J43 (a:Cab) (b:Stp) (c:Nat):=(J46 a b c).2
def J4p (a:Nat) (b:Cab) (c:Stp) (d:Nat):=J0y a b c∧List.length (J0 b c)-a<List.length (J0 b c)-d
def J4e (a:Cab) (b:Stp):=Yn (Z33 a) b.1 b.2.1 (!b.2.2.1) (b.2.2.2.1+1) (Int.tdiv (Z93 b a) 8)
def J4d (a:Cab) (b:Stp):=(J4e a b).2
def J38 (a:Cab) (b:Stp):=(J4d a b).2
def J37 (a:Cab) (b:Stp):=Yn (Z33 a) b.1 b.2.1 b.2.2.1 (b.2.2.2.1+1) (J6c b a)
def J35 (a:Cab) (b:Stp):=(J37 a b).2
def J34 (a:Cab) (b:Stp):=(J35 a b).2
def J32 (a:Cab) (b:Stp):=Yn (Z33 a) b.1 b.2.1 (!b.2.2.1) (b.2.2.2.1+1) (J6b b a)
def J31 (a:Cab) (b:Stp):=(J32 a b).2
def J30 (a:Cab) (b:Stp):=(J31 a b).2
def J3y (a:Cab) (b:Stp):=Z87 a∧Z39 b∧Zq (Z33 a) b.2.1 b.2.2.1∧40≤140737488355328
def J3x (a:Cab) (b:Stp):=Yn (Z33 a) b.1 b.2.1 b.2.2.1 (b.2.2.2.1+1) (J5z b a)
def J3v (a:Cab) (b:Stp):=(J3x a b).2
def J3t (a:Cab) (b:Stp):=(J3v a b).2
def J3r (a:Cab) (b:Stp):=Z87 a∧Z39 b∧Zq (Z33 a) b.2.1 !b.2.2.1∧80≤140737488355328
def Jx6 (a:Nat) (b:Cab) (c:Stp):=J0y a b c∧∀(x:Nat),J0y x b c→Br (decide (Nc x<Ln (J0 b c))) (Tw (Bd (Nc x) (Ln (J0 b c)))∧Br ((J43 b c x).2 !=0) (T2 (Bd (Nc x) (Ln (J0 b c))) ((J52 x b c+1)*40≤140737488355328)∧Z2 x∧∃(y:Nat),(Z29 x y∧Sf (J0 b c) (Z32 x b c++((J5b b c x).1,(J48 b c x).1,(J46 b c x).1,E2 (J43 b c x))::Z95=Z32 y b c))∧J4p y b c x) (Z2 x∧∃(y:Nat),(Z29 x y∧Sf (J0 b c) (Z32 x b c=Z32 y b c))∧J4p y b c x)) (Z32 x b c=Jk b c)
theorem J7d [Sx.Dr] (c:Cab) (w:Stp):wpF Tryz.prog W36.g (Yl (Jot c w)) Tryz.f82 Jso (c,w,()):=by
 refine(by kernel_rfl:(Uk c=0→wvC c w→Br (w.2.2.2.1==6) (Z95=Jk c w) (Br (w.2.1==0) ((Z7 w∧Iw (w.2.2.2.2*c.2.2.1)∧Z30∧Iw (Int.tdiv (w.2.2.2.2*c.2.2.1) 8)∧Z87 c∧Z39 w∧Zq (Z33 c) 0 true∧40≤140737488355328)∧∃(x:Nat),(0=Nc x∧((J5f c w).1,(J5e c w).1,(J5a c w).1,E2 (J5a c w).2)::Z95=J0 c w∧Jyk x c w)∧Jx6 x c w) (Br (w.2.1==Z1 c) ((Z7 w∧Iw (w.2.2.2.2*c.2.2.2)∧Z30∧Iw (Int.tdiv (w.2.2.2.2*c.2.2.2) 8)∧Z87 c∧Z39 w∧Zq (Z33 c) w.2.1 false∧40≤140737488355328)∧∃(x:Nat),(0=Nc x∧((J5h c w).1,(J5g c w).1,(J5d c w).1,E2 (J5d c w).2)::Z95=J0 c w∧Jyk x c w)∧Jx6 x c w) ((Iw (w.2.1-1)∧Tw (Bd (w.2.1-1) (Ln c.2.1)))∧Br (!w.2.2.1) (Iw (Z90 c w)∧(Z7 w∧Iw (Js5 c w)∧Iw (J6d w c)∧Z30∧Iw (J5z w c)∧J3y c w)∧(Z7 w∧Iw (w.2.2.2.2*Z90 c w)∧Z30∧Iw (J6b w c)∧J3r c w)∧∃(x:Nat),(0=Nc x∧((J3x c w).1,(J3v c w).1,(J3t c w).1,E2 (J3t c w).2)::((J32 c w).1,(J31 c w).1,(J30 c w).1,E2 (J30 c w).2)::Z95=J0 c w∧Jyk x c w)∧Jx6 x c w) ((Z7 w∧Iw (Z91 c w)∧Iw (w.2.2.2.2*Z91 c w)∧Z30∧Iw (J6c w c)∧J3y c w)∧(Z7 w∧Iw (Z93 w c)∧Z30∧Iw (Int.tdiv (Z93 w c) 8)∧J3r c w)∧∃(x:Nat),(0=Nc x∧((J37 c w).1,(J35 c w).1,(J34 c w).1,E2 (J34 c w).2)::((J4e c w).1,(J4d c w).1,(J38 c w).1,E2 (J38 c w).2)::Z95=J0 c w∧Jyk x c w)∧Jx6 x c w)))))=_).mp ?_
 delta Z1 Z2 Z7 Z29 Z30 Z32 Z33 Z39 Z54 Z56 Z72 Z87 Z90 Z91 Z93 Z95 Js5 J0y J6d J6c J6b J52 J5z Jyk J5h J5g J5f J5e J5d J5b J5a J48 J46 J43 J4p J4e J4d J38 J37 J35 J34 J32 J31 J30 J3y J3x J3v J3t J3r Jx6 Br Iw Bd T2 Tw Sf Ln Nc Gt E2
 intro h hw
 have hv:Y7 c:=Xl h
 obtain⟨v1,v2,v3,v4,v5,v6,v7⟩:=id hv
 obtain⟨hb,hn⟩:=id hw
 have hA:=Jm1 c w
 have b0:=Jau (k:=c.2.2.1) hb (by omega)
 have b1:=Jau (k:=c.2.2.2) hb (by omega)
 have hh:=hb.2.2.1
 have ht:=hb.1
 have loop:w.2.2.2.1≠6→∀(x:Nat),x≤(J0 c w).length∧(w.2.2.2.1=6→False)→
   (decide ((x:Int)<(J0 c w).length)=true→((0≤(x:Int)∧(x:Int)<(J0 c w).length)∧0≤(x:Int)∧(x:Int)<(J0 c w).length)∧
    ((((J0 c w).getD x (0,0,false,0,0)).2.2.2.2 !=0)=true→((0≤(x:Int)∧(x:Int)<(J0 c w).length)∧(0≤(x:Int)∧(x:Int)<(J0 c w).length)∧((nzS (List.take x (J0 c w))).length+1)*40≤140737488355328)∧
     (-9223372036854775808≤(x:Int)+1∧(x:Int)+1≤9223372036854775807)∧∃y:Nat,((x:Int)+1=y∧J0 c w=J0 c w∧nzS (List.take x (J0 c w))++[(J0 c w).getD x (0,0,false,0,0)]=nzS (List.take y (J0 c w)))∧(y≤(J0 c w).length∧(w.2.2.2.1=6→False))∧(J0 c w).length-y<(J0 c w).length-x)∧
    ((((J0 c w).getD x (0,0,false,0,0)).2.2.2.2 !=0)=false→(-9223372036854775808≤(x:Int)+1∧(x:Int)+1≤9223372036854775807)∧∃y:Nat,((x:Int)+1=y∧J0 c w=J0 c w∧nzS (List.take x (J0 c w))=nzS (List.take y (J0 c w)))∧(y≤(J0 c w).length∧(w.2.2.2.1=6→False))∧(J0 c w).length-y<(J0 c w).length-x))∧
   (decide ((x:Int)<(J0 c w).length)=false→nzS (List.take x (J0 c w))=Jk c w):=by
  intro h6 k hk
  refine⟨fun h1=> ?_,fun h1=> ?_⟩
  ·have hlt:k<(J0 c w).length:=by simpa using h1
   have e:=Jqd hlt
   have hz:=Jtq (J0 c w) k
   refine⟨by omega,fun h2=>⟨by omega,by omega,k+1,⟨by simp,rfl, ?_⟩,⟨by omega,h6⟩,by omega⟩,fun h2=>⟨by omega,k+1,⟨by simp,rfl, ?_⟩,⟨by omega,h6⟩,by omega⟩⟩
   ·rw[e,if_neg (by simpa using h2)]
   ·rw[e,if_pos (by simpa using h2)]
  ·have hge:¬k<(J0 c w).length:=by simpa using h1
   rw[List.take_of_length_le (by omega),Jkt hv hw h6]
 have c6:w.2.2.2.1=6→Jk c w=[]:=fun e=>by unfold Jk;rw[if_pos e]
 refine⟨fun e=>(c6 (by simpa using e)).symm,fun e=> ?_⟩
 have h6:w.2.2.2.1≠6:=by simpa using e
 replace loop:=loop h6
 have z0:(nzS (List.take 0 (J0 c w))).length=0:=rfl
 refine⟨fun e1=> ?_,fun e1=>⟨fun e2=> ?_,fun e2=> ?_⟩⟩
 ·have e1:w.2.1=0:=by simpa using e1
  have eA:J0 c w=[Yn c w.1 0 true (w.2.2.2.1+1) (hgt w c.2.2.1)]:=by unfold J0;rw[if_pos e1]
  refine⟨⟨by omega,by omega,by omega,by unfold hgt at b0;omega,h,ht,(show 0≤(0:Int)∧(0:Int)<c.1.length by omega),by omega⟩,(0:Nat),⟨rfl,eA.symm,z0⟩,⟨Nat.zero_le _,h6⟩,loop⟩
 ·have e1:¬w.2.1=0:=by simpa using e1
  have e2:w.2.1=c.1.length:=by simpa using e2
  have eA:J0 c w=[Yn c w.1 w.2.1 false (w.2.2.2.1+1) (hgt w c.2.2.2)]:=by unfold J0;rw[if_neg e1,if_pos e2]
  refine⟨⟨by omega,by omega,by omega,by unfold hgt at b1;omega,h,ht,(show 1≤w.2.1∧w.2.1≤c.1.length by omega),by omega⟩,(0:Nat),⟨rfl,eA.symm,z0⟩,⟨Nat.zero_le _,h6⟩,loop⟩
 ·have e1:¬w.2.1=0:=by simpa using e1
  have e2:¬w.2.1=c.1.length:=by simpa using e2
  obtain⟨j1,j2⟩:=Jdv hv hw e1 e2
  have eA:J0 c w=[Yn c w.1 w.2.1 w.2.2.1 (w.2.2.2.1+1) (hgt w (8+Fm c w)),Yn c w.1 w.2.1 (!w.2.2.1) (w.2.2.2.1+1) (hgt w (Fm c w))]:=by unfold J0;rw[if_neg e1,if_neg e2]
  refine⟨⟨by omega,j1,j1⟩,fun e3=> ?_,fun e3=> ?_⟩
  ·have e3:w.2.2.1=false:=by simpa using e3
   have ef:Fm c w=0-c.2.1.getD (w.2.1-1).toNat 0:=by unfold Fm;rw[e3];rfl
   rw[ef] at eA
   have b2:=Jau (k:=8+(0-c.2.1.getD (w.2.1-1).toNat 0)) hb (by omega)
   have b3:=Jau (k:=0-c.2.1.getD (w.2.1-1).toNat 0) hb (by omega)
   unfold hgt at b2 b3
   exact⟨by omega,⟨by omega,by omega,by omega,by omega,by omega,h,ht,Vt hw e1 e2 _,by omega⟩,⟨by omega,by omega,by omega,by omega,h,ht,Vt hw e1 e2 _,by omega⟩,(0:Nat),⟨rfl,eA.symm,z0⟩,⟨Nat.zero_le _,h6⟩,loop⟩
  ·have e3:w.2.2.1=true:=by simpa using e3
   have ef:Fm c w=c.2.1.getD (w.2.1-1).toNat 0:=by unfold Fm;rw[e3];rfl
   rw[ef] at eA
   have b2:=Jau (k:=8+(c.2.1.getD (w.2.1-1).toNat 0)) hb (by omega)
   have b3:=Jau (k:=c.2.1.getD (w.2.1-1).toNat 0) hb (by omega)
   unfold hgt at b2 b3
   exact⟨⟨by omega,by omega,by omega,by omega,by omega,h,ht,Vt hw e1 e2 _,by omega⟩,⟨by omega,by omega,by omega,by omega,h,ht,Vt hw e1 e2 _,by omega⟩,(0:Nat),⟨rfl,eA.symm,z0⟩,⟨Nat.zero_le _,h6⟩,loop⟩
theorem J8e [Sx.Dr]:Ok Tryz.prog 82 Jso:=Jn mixed W36.ok (by kernel_rfl) (by kernel_rfl) (fun xx=>Yl (Jot xx.1 xx.2.1)) fun xx=>J7d xx.1 xx.2.1
abbrev W37 [Sx.Dr]:=W36.add J8e
def wt (w:Stp):Nat:=3^(7-w.2.2.2.1.toNat)
def wtL:List Stp→Nat
 |[]=>0
 |w::r=>wt w+wtL r
theorem Xr (w:Stp):0<wt w:=Nat.pow_pos (by omega)
theorem Km (l r:List Stp):wtL (l++r)=wtL l+wtL r:=by
 induction l with
 |nil=>simp[wtL]
 |cons x l ih=>simp only[List.cons_append,wtL,ih];omega
theorem Hz {c:Cab} {w x:Stp} {r:Bool} {k:Int} (h:x∈Kq c w r k):x.2.2.2.1=w.2.2.2.1+1:=by
 unfold Kq at h
 split at h
 ·simp at h
 ·simp only[List.mem_singleton] at h;rw[h]
theorem Jc6 {c:Cab} {w:Stp} {r:Bool} {k:Int} (h0:0≤w.2.2.2.1):wtL (Kq c w r k)≤3^(6-w.2.2.2.1.toNat):=by
 unfold Kq
 split
 ·exact Nat.zero_le _
 ·simp only[wtL,wt,Nat.add_zero]
  rw[show(w.2.2.2.1+1).toNat=w.2.2.2.1.toNat+1 by omega,show 7-(w.2.2.2.1.toNat+1)=6-w.2.2.2.1.toNat by omega]
  exact Nat.le_refl _
theorem Zj {c:Cab} {w:Stp} (h0:0≤w.2.2.2.1∧w.2.2.2.1≤6):wtL (Jk c w)<wt w:=by
 unfold Jk
 split
 ·exact Xr w
 ·rename_i h6
  have e:wt w=3^(6-w.2.2.2.1.toNat)*3:=by
   unfold wt
   rw[←Nat.pow_succ,show 7-w.2.2.2.1.toNat=(6-w.2.2.2.1.toNat).succ by omega]
  have hp:0<3^(6-w.2.2.2.1.toNat):=Nat.pow_pos (by omega)
  repeat' split
  ·have:=Jc6 (c:=c) (r:=true) (k:=c.2.2.1) h0.1;omega
  ·have:=Jc6 (c:=c) (r:=false) (k:=c.2.2.2) h0.1;omega
  ·rw[Km]
   have h1:=Jc6 (c:=c) (r:=w.2.2.1) (k:=8+Fm c w) h0.1
   have h2:=Jc6 (c:=c) (r:= !w.2.2.1) (k:=Fm c w) h0.1
   omega
def bfs (c:Cab) (last:Int):Nat→List Stp→List Stp
 |0,_=>[]
 |_+1,[]=>[]
 |n+1,w::r=>if last<w.1 then bfs c last n r else w::bfs c last n (r++Jk c w)
def hbN (h:Nat):Int:=268435456*2^h
def wvH (c:Cab) (w:Stp):Prop:=(0≤w.2.2.2.1∧w.2.2.2.1≤6)∧(0≤w.2.1∧w.2.1≤c.1.length)∧(0≤w.1∧w.1≤100064+64*w.2.2.2.1)∧-hbN w.2.2.2.1.toNat≤w.2.2.2.2∧w.2.2.2.2≤hbN w.2.2.2.1.toNat
theorem Jjb:∀{h:Nat},h≤6→hbN h≤17179869184:=by
 intro h hh
 have:∀k,k<7→hbN k≤17179869184:=by decide
 exact this h (by omega)
theorem Jll {c:Cab} {w:Stp} (hv:Y7 c) (h:wvH c w):wvC c w:=by
 obtain⟨h1,h2,h3,h4,h5⟩:=h
 have:=Jjb (h:=w.2.2.2.1.toNat) (by omega)
 have:=hv.2.1
 exact⟨⟨by omega,by omega,h1,by omega,by omega⟩,h2.2⟩
theorem Jua {w:Stp} {k B:Int} (hk: -16≤k∧k≤16) (h: -B≤w.2.2.2.2∧w.2.2.2.2≤B): -(2*B)≤hgt w k∧hgt w k≤2*B:=by
 have hB:0≤B:=by omega
 have a1:w.2.2.2.2*k≤16*B:=by
  rcases Int.le_total 0 k with hk0|hk0
  ·have:=Int.mul_le_mul h.2 hk.2 hk0 hB;omega
  ·have q:=Int.mul_le_mul_of_nonpos_right h.1 hk0
   have q2:B* -k≤B*16:=Int.mul_le_mul_of_nonneg_left (by omega) hB
   rw[Int.neg_mul] at q;rw[Int.mul_neg] at q2;omega
 have a2: -(16*B)≤w.2.2.2.2*k:=by
  rcases Int.le_total 0 k with hk0|hk0
  ·have q:=Int.mul_le_mul_of_nonneg_right h.1 hk0
   have q2:B*k≤B*16:=Int.mul_le_mul_of_nonneg_left hk.2 hB
   rw[Int.neg_mul] at q;omega
  ·have q:=Int.mul_le_mul_of_nonpos_right h.2 hk0
   have q2:B* -k≤B*16:=Int.mul_le_mul_of_nonneg_left (by omega) hB
   rw[Int.mul_neg] at q2;omega
 unfold hgt
 generalize w.2.2.2.2*k=x at a1 a2
 rcases Int.le_total 0 x with hx|hx
 ·rw[Int.tdiv_eq_ediv_of_nonneg hx];omega
 ·have e:x.tdiv 8= -((-x).tdiv 8):=by rw[Int.neg_tdiv,Int.neg_neg]
  rw[e,Int.tdiv_eq_ediv_of_nonneg (by omega)];omega
theorem Jih {c:Cab} {w x:Stp} {r:Bool} {k:Int} (hv:Y7 c) (hw:wvH c w) (h6:¬w.2.2.2.1=6) (hk: -16≤k∧k≤16) (h:x∈Kq c w r k):wvH c x:=by
 unfold Kq at h
 split at h
 ·simp at h
 ·rename_i hn
  simp only[List.mem_singleton] at h
  obtain⟨h1,h2,h3,h4⟩:=hw
  have b:=hv.2.2.1 _ (Jp (d:=(0,0)) (l:=c.1) (k:=(K6 w r).2.toNat) (by omega))
  have g:=Jua hk h4
  have e:hbN (w.2.2.2.1+1).toNat=2*hbN w.2.2.2.1.toNat:=by
   rw[show(w.2.2.2.1+1).toNat=w.2.2.2.1.toNat+1 by omega]
   unfold hbN;rw[Int.pow_succ];omega
  have hb:0≤(K6 w r).1∧(K6 w r).1≤c.1.length:=by
   unfold K6 at hn⊢
   cases r
   ·simp only[cond_false] at hn⊢;omega
   ·simp only[cond_true] at hn⊢;omega
  rw[h]
  unfold wvH
  dsimp only
  refine⟨by omega,hb,by omega, ?_⟩
  rw[e];exact g
theorem Dm {c:Cab} {w x:Stp} (hv:Y7 c) (hw:wvH c w) (h:x∈Jk c w):wvH c x:=by
 obtain⟨_,_,_,_,_,v6,v7⟩:=id hv
 unfold Jk at h
 split at h
 ·simp at h
 ·rename_i h6
  split at h
  ·exact Jih hv hw h6 (by omega) h
  ·rename_i h0
   split at h
   ·exact Jih hv hw h6 (by omega) h
   ·rename_i h1
    have j:=Jdv hv (Jll hv hw) h0 h1
    have fb: -8≤Fm c w∧Fm c w≤8:=by
     unfold Fm
     cases w.2.2.1<;>simp only[cond_true,cond_false]<;>omega
    rcases List.mem_append.1 h with h|h
    ·exact Jih hv hw h6 (by omega) h
    ·exact Jih hv hw h6 (by omega) h
theorem Fo {c:Cab} {last:Int} (hv:Y7 c):∀{n m:Nat} {l:List Stp},(∀w∈l,wvH c w)→wtL l≤n→wtL l≤m→bfs c last n l=bfs c last m l
 |0,0,_,_,_,_=>rfl
 |0,m+1,[],_,_,_=>rfl
 |0,_+1,w::r,_,h,_=>by have:=Xr w;simp only[wtL] at h;omega
 |n+1,0,[],_,_,_=>rfl
 |_+1,0,w::r,_,_,h=>by have:=Xr w;simp only[wtL] at h;omega
 |n+1,m+1,[],_,_,_=>rfl
 | n + 1, m + 1, w :: r, hl, h1, h2 => by
  have hp:=Xr w
  have hw:=hl w (by simp)
  have hc:=Zj (c:=c) hw.1
  simp only[wtL] at h1 h2
  simp only[bfs]
  split
  ·exact Fo hv (fun x hx=>hl x (by simp[hx])) (by omega) (by omega)
  ·refine congrArg _ (Fo hv (fun x hx=> ?_) (by rw[Km];omega) (by rw[Km];omega))
   rcases List.mem_append.1 hx with hx|hx
   ·exact hl x (by simp[hx])
   ·exact Dm hv hw hx
def Jg1 (c:Cab) (last:Int) (l:List Stp):List Stp:=bfs c last (wtL l) l
theorem Jfb {c:Cab} {last:Int} {w:Stp} {r:List Stp} (hv:Y7 c) (hl:∀x∈w::r,wvH c x):Jg1 c last (w::r)=if last<w.1 then Jg1 c last r else w::Jg1 c last (r++Jk c w):=by
 have hp:=Xr w
 have hw:=hl w (by simp)
 have hc:=Zj (c:=c) hw.1
 have hr:∀x∈r,wvH c x:=fun x hx=>hl x (by simp[hx])
 have hrc:∀x∈r++Jk c w,wvH c x:=fun x hx=>by
  rcases List.mem_append.1 hx with hx|hx
  ·exact hr x hx
  ·exact Dm hv hw hx
 have e:Jg1 c last (w::r)=bfs c last (wt w+wtL r-1+1) (w::r):=by
  unfold Jg1
  rw[show wt w+wtL r-1+1=wtL (w::r) by simp only[wtL];omega]
 rw[e]
 simp only[bfs]
 unfold Jg1
 split
 ·exact Fo hv hr (by omega) (Nat.le_refl _)
 ·exact congrArg _ (Fo hv hrc (by rw[Km];omega) (Nat.le_refl _))
theorem Jh3 {c:Cab} {last:Int} (hv:Y7 c):∀{n:Nat} {l:List Stp},(∀w∈l,wvH c w)→wtL l≤n→(bfs c last n l).length≤wtL l
 |0,_,_,_=>by simp[bfs]
 |n+1,[],_,_=>by simp[bfs]
 | n + 1, w :: r, hl, h1 => by
  have hp:=Xr w
  have hw:=hl w (by simp)
  have hc:=Zj (c:=c) hw.1
  simp only[wtL] at h1⊢
  simp only[bfs]
  split
  ·have:=Jh3 (last:=last) hv (l:=r) (n:=n) (fun x hx=>hl x (by simp[hx])) (by omega);omega
  ·have:=Jh3 (last:=last) hv (l:=r++Jk c w) (n:=n) (fun x hx=>by
    rcases List.mem_append.1 hx with hx|hx
    ·exact hl x (by simp[hx])
    ·exact Dm hv hw hx) (by rw[Km];omega)
   rw[Km] at this
   simp only[List.length_cons];omega
theorem Juw {c:Cab} {last:Int} (hv:Y7 c):∀{n:Nat} {l:List Stp},(∀w∈l,wvH c w)→∀w∈bfs c last n l,wvH c w∧w.1≤last
 |0,_,_,w,h=>by simp[bfs] at h
 |n+1,[],_,w,h=>by simp[bfs] at h
 | n + 1, w :: r, hl, x, h => by
  simp only[bfs] at h
  split at h
  ·exact Juw hv (fun x hx=>hl x (by simp[hx])) x h
  ·rename_i hlt
   rcases List.mem_cons.1 h with rfl|h
   ·exact⟨hl _ (by simp),by omega⟩
   ·refine Juw hv (fun x hx=> ?_) x h
    rcases List.mem_append.1 hx with hx|hx
    ·exact hl x (by simp[hx])
    ·exact Dm hv (hl w (by simp)) hx
def Ho (c:Cab) (f:Flt):List Stp:=[(f.2.2.1+f.2.1,f.1,false,0,f.2.2.2*262144),(f.2.2.1+((c.1.getD f.1.toNat (0,0)).2-f.2.1),f.1+1,true,0,f.2.2.2*262144)]
theorem Dc {c:Cab} {f:Flt} (h:Yj c f):∀w∈Ho c f,wvH c w:=by
 obtain⟨hv,h1,h2,h3,h4,h5⟩:=h
 have b:=hv.2.2.1 _ (Jp (d:=(0,0)) (l:=c.1) (k:=f.1.toNat) (by omega))
 have e:hbN (0:Int).toNat=268435456:=rfl
 intro w hw
 simp only[Ho,List.mem_cons,List.not_mem_nil,or_false] at hw
 rcases hw with rfl|rfl
 ·unfold wvH
  dsimp only
  refine⟨⟨by omega,by omega⟩,⟨by omega,by omega⟩,⟨by omega,by omega⟩, ?_⟩
  show -hbN (0:Int).toNat≤f.2.2.2*262144∧f.2.2.2*262144≤hbN (0:Int).toNat
  rw[e];omega
 ·unfold wvH
  dsimp only
  refine⟨⟨by omega,by omega⟩,⟨by omega,by omega⟩,⟨by omega,by omega⟩, ?_⟩
  show -hbN (0:Int).toNat≤f.2.2.2*262144∧f.2.2.2*262144≤hbN (0:Int).toNat
  rw[e];omega
theorem Jdw (c:Cab) (f:Flt):wtL (Ho c f)=4374:=rfl
def Kg (c:Cab) (f:Flt) (win:Int):List Stp:=Jg1 c (f.2.2.1+win) (Ho c f)
def X1 (o:List Stp):List Stp→List Stp
 |[]=>o
 |x::r=>X1 (Jg2 x o) r
def Uj (c:Cab) (f:Flt) (win:Int):List Stp:=X1 [] (Kg c f win)
theorem Jqu (x:Stp) (l:List Stp):(Jg2 x l).length=l.length+1:=by
 rw[Jhr];have:=Jj2 x l;simp;omega
theorem Jm9:∀l:List Stp,l.length≤wtL l
 |[]=>Nat.le_refl _
 |x::r=>by
  have h1:=Xr x
  have h2:=Jm9 r
  simp only[wtL,List.length_cons];omega
theorem Jbf (c:Cab) (w:Stp):(Jk c w).length≤2:=by
 unfold Jk
 repeat' split
 ·simp
 ·have:=Zb c w true c.2.2.1;omega
 ·have:=Zb c w false c.2.2.2;omega
 ·have h1:=Zb c w w.2.2.1 (8+Fm c w)
  have h2:=Zb c w (!w.2.2.1) (Fm c w)
  simp only[List.length_append];omega
theorem Jop {c:Cab} {w:Stp} {r:List Stp} (hv:Y7 c) (hl:∀x∈w::r,wvH c x):∀x∈r++Jk c w,wvH c x:=fun x hx=>by
 rcases List.mem_append.1 hx with hx|hx
 ·exact hl x (by simp[hx])
 ·exact Dm hv (hl w (by simp)) hx
def Jxg:Con:={args:=[aCR,aF,aI],ress:=[(false, .list 140 Jbp)],owns:=[true],pre:=fun(c,f,win,_)=>[Ym c f=0,0≤win∧win≤1000],spec:=fun(c,f,win,_)=>(Uj c f win,())}
abbrev Jor (c:Cab) (f:Flt) (win:Int):Ann:={X:=List Stp×List Stp,σ:=fun p=>⟨9,[(3, .one (.ptr 2 0)),(7, .one (.int .i64 (f.2.2.1+win))),(8, .one (.sl 4)),(9, .one (.sl 5))],[(0, .imm 48 sPt c.1),(1, .imm 3 sI c.2.1),(2, .box 26 [.sl 0, .sl 1, .int .i64 c.2.2.1, .int .i64 c.2.2.2]),(4, .ownT 140 Jbp p.1),(5, .own 140 Jbp p.2)]⟩,inv:=fun p=>(∀w∈p.1,wvH c w)∧X1 p.2 (Jg1 c (f.2.2.1+win) p.1)=Uj c f win∧p.2.length+wtL p.1≤4374,mu:=fun p=>wtL p.1}
def Z31 (a:Int):=0≤a∧a≤1000
def J03 (a:Flt) (b:Cab):=a.2.2.1+Z80 b a
def J01 (a:Flt):=(a.2.2.1+a.2.1,a.1,false,(0:Int),a.2.2.2*(262144:Int))
def Jyq (a:List Stp×List Stp):=List.drop 1 a.1
def J0w (a:List (Int×Int×Bool×Int×Int)×List (Int×Int×Bool×Int×Int)) (b:Cab):=∀(w:Stp),w∈a.1→wvH b w
def J0v (a:List Stp×List Stp) (b:Cab):=∀(w:Stp),w∈a.1→wvH b w
def J0u (a:List Stp×List Stp) (b:List (Int×Int×Bool×Int×Int)×List (Int×Int×Bool×Int×Int)):=Jyq a=b.1
def J0a (a:List Stp×List Stp):=List.getD a.1 0 Z72
def Ju7 (a:List Stp×List Stp):=(J0a a).1
def Jz9 (a:List Stp×List Stp):=(J0a a).2
def Jz5 (a:List Stp×List Stp):=(Jz9 a).2
def Jyh (a:List Stp×List Stp):=(Jz9 a).1
def Jz4 (a:List Stp×List Stp):=(Jz5 a).2
def J3q (a:List (Int×Int×Bool×Int×Int)×List (Int×Int×Bool×Int×Int)) (b:Cab) (c:Flt) (d:Int):=J0w a b∧X1 a.2 (Jg1 b (c.2.2.1+d) a.1)=Uj b c d∧List.length a.2+wtL a.1≤4374
def J3i (a:List (Int×Int×Bool×Int×Int)×List (Int×Int×Bool×Int×Int)) (b:Cab) (c:Flt) (d:Int) (e:List Stp×List Stp):=J3q a b c d∧wtL a.1<wtL e.1
def Jx8 (a:List Stp×List Stp):=(Ju7 a,Jyh a,(Jz5 a).1,E2 (Jz4 a))
def Jza (a:Cab) (b:List Stp×List Stp):=wvC (Z33 a) (Jx8 b)
def Jy9 (a:Cab) (b:List Stp×List Stp):=Jk (Z33 a) (Jx8 b)
def Jy6 (a:List Stp×List Stp) (b:Cab) (c:List (Int×Int×Bool×Int×Int)×List (Int×Int×Bool×Int×Int)):=Jyq a++Jy9 b a=c.1
def Jvs (a:List Stp×List Stp) (b:Cab):=(List.length (Jyq a)+List.length (Jy9 b a))*40≤140737488355328
theorem J7g [Sx.Dr] (c:Cab) (f:Flt) (win:Int):wpF Tryz.prog W37.g (Yl (Jor c f win)) Tryz.f70 Jxg (c,f,win,()):=by
 refine(by kernel_rfl:(Ym c f=0→Z31 win→Iw (f.2.2.1+win)∧(Iw (f.2.2.1+f.2.1)∧Iw (f.2.2.2*262144)∧T2 (Bd f.1 (Z1 c)) (Iw (J03 f c)∧Iw (J03 f c-f.2.1)∧Iw (f.1+1)∧Iw (f.2.2.2*262144)))∧∃(x:List (Int×Int×Bool×Int×Int)×List (Int×Int×Bool×Int×Int)),Si (f.2.2.1+win) (c.1=c.1∧c.2.1=c.2.1∧Si c.2.2.1 (Si c.2.2.2 (J01 f::(J03 f c-f.2.1,f.1+1,true,0,f.2.2.2*262144)::Z95=x.1∧List.length x.2=0)))∧J3q x c f win∧∀(x:List Stp×List Stp),J0v x c∧X1 x.2 (Jg1 c (f.2.2.1+win) x.1)=Uj c f win∧List.length x.2+wtL x.1≤4374→Br (decide (0<Ln x.1)) (Tw (Bd 0 (Ln x.1))∧((0:Int)≤1∧1≤Ln x.1)∧Br (decide (Ju7 x≤f.2.2.1+win)) (List.length x.2≤100000∧(Z87 c∧Jza c x∧Jvs x c)∧∃(y:List (Int×Int×Bool×Int×Int)×List (Int×Int×Bool×Int×Int)),Si (f.2.2.1+win) (c.1=c.1∧c.2.1=c.2.1∧Si c.2.2.1 (Si c.2.2.2 (Jy6 x c y∧Jg2 (Jx8 x) x.2=y.2)))∧J3i y c f win x) (∃(y:List (Int×Int×Bool×Int×Int)×List (Int×Int×Bool×Int×Int)),Si (f.2.2.1+win) (c.1=c.1∧c.2.1=c.2.1∧Si c.2.2.1 (Si c.2.2.2 (J0u x y∧x.2=y.2)))∧J3i y c f win x)) (x.2=Uj c f win))=_).mp ?_
 delta Z1 Z31 Z33 Z54 Z72 Z80 Z87 Z95 J03 J01 Jyq J0w J0v J0u J0a Ju7 Jz9 Jz5 Jyh Jz4 J3q J3i Jx8 Jza Jy9 Jy6 Jvs Br Iw Bd T2 Tw Si Ln Gt E2
 intro h hw
 obtain⟨hc,hfv⟩:=Lk h
 have hv:=hfv.1
 obtain⟨_,g1,g2,g3,g4,g5⟩:=id hfv
 have b:=hv.2.2.1 _ (Jp (d:=(0,0)) (l:=c.1) (k:=f.1.toNat) (by omega))
 have hi:=Dc hfv
 have hlen:=hv.2.1
 have e0:[(f.2.2.1+f.2.1,f.1,false,0,f.2.2.2*262144),(f.2.2.1+(c.1.getD f.1.toNat (0,0)).2-f.2.1,f.1+1,true,0,f.2.2.2*262144)]=Ho c f:=by unfold Ho;rw[Int.add_sub_assoc]
 refine⟨by omega,⟨by omega,by omega,g1,g1,by omega,by omega,by omega,by omega⟩,(Ho c f,[]),⟨rfl,rfl,rfl,rfl,rfl,e0,rfl⟩,⟨hi,rfl,by show 0+wtL (Ho c f)≤4374;rw[Jdw];omega⟩,fun p hp=> ?_⟩
 obtain⟨o,out⟩:=p
 obtain⟨p1,p2,p3⟩:=hp
 replace p2:X1 out (Jg1 c (f.2.2.1+win) o)=Uj c f win:=p2
 replace p3:out.length+wtL o≤4374:=p3
 cases o with
 |nil=>exact⟨fun h1=>by simp at h1,fun h1=>p2⟩
 | cons w r =>
  have hw':wvH c w:=p1 w (by simp)
  have hr:=Jfb (last:=f.2.2.1+win) hv p1
  have hc':=Zj (c:=c) hw'.1
  have hp:=Xr w
  have hl1:=Jm9 r
  have hl2:=Jbf c w
  simp only[wtL] at p3
  rw[hr] at p2
  refine⟨fun h1=> ?_,fun h1=>by simp at h1⟩
  have l1:0<((w::r).length:Int):=by simp only[List.length_cons];omega
  refine⟨⟨⟨by omega,l1⟩,by omega,l1⟩,⟨by omega,l1⟩,fun h2=> ?_,fun h2=> ?_⟩
  ·have h2:¬f.2.2.1+win<w.1:=by
    have h2:w.1≤f.2.2.1+win:=of_decide_eq_true h2
    omega
   rw[if_neg h2] at p2
   refine⟨by show out.length≤100000;omega,⟨hc,Jll hv hw', ?_⟩,(r++Jk c w,Jg2 w out),⟨rfl,rfl,rfl,rfl,rfl,rfl,rfl⟩,⟨Jop hv p1,p2, ?_⟩, ?_⟩
   ·show(r.length+(Jk c w).length)*40≤140737488355328
    omega
   ·show(Jg2 w out).length+wtL (r++Jk c w)≤4374
    rw[Jqu,Km];omega
   ·show wtL (r++Jk c w)<wtL (w::r)
    rw[Km];simp only[wtL];omega
  ·have h2:f.2.2.1+win<w.1:=by
    have h2:¬w.1≤f.2.2.1+win:=of_decide_eq_false h2
    omega
   rw[if_pos h2] at p2
   refine⟨(r,out),⟨rfl,rfl,rfl,rfl,rfl,rfl,rfl⟩,⟨fun x hx=>p1 x (by simp[hx]),p2, ?_⟩, ?_⟩
   ·show out.length+wtL r≤4374
    omega
   ·show wtL r<wtL (w::r)
    simp only[wtL];omega
theorem J8n [Sx.Dr]:Ok Tryz.prog 70 Jxg:=Jn mixed W37.ok (by kernel_rfl) (by kernel_rfl) (fun xx=>Yl (Jor xx.1 xx.2.1 xx.2.2.1)) fun xx=>J7g xx.1 xx.2.1 xx.2.2.1
abbrev W38 [Sx.Dr]:=W37.add J8n
def cOr:Con:={args:=[.val false (.list 3 sI)],ress:=[I],owns:=[],pre:=fun(l,_)=>[l.length≤1000000],spec:=fun(l,_)=>(Ja l,())}
abbrev J15 (l:List Int):Ann:={X:=Nat,σ:=fun k=>⟨1,[(3, .one (.int .i64 0)),(6, .one (.sl 0)),(7, .one (.int .i64 l.length)),(8, .one (.int .i64 k))],[(0, .imm 3 sI l)]⟩,inv:=fun k=>k≤l.length∧Ja l=Ja (l.drop k),mu:=fun k=>l.length-k}
theorem J8j [Sx.Dr]:Ok Tryz.prog 77 cOr:=okW W38 Tryz.f77 (fun xx=>Yl (J15 xx.1)) fun xx=>by
 obtain⟨(l:List Int),_⟩:=xx
 refine(by kernel_rfl:(Z12 l→∃(x:Nat),Si 0 (Z77 l x)∧Jo6 x l∧∀(x:Nat),Jo6 x l→Br (Z27 x l) (Z24 x l∧Br (Ju9 l x) (Z4 l x=Ja l) (Z2 x∧∃(y:Nat),Si 0 (Jrl l x y)∧Ju8 y l x)) (0=Ja l))=_).mp ?_
 delta Z2 Z4 Z12 Z24 Z27 Z29 Z77 Jrl Jo6 Ju9 Ju8 Br Iw Bd Tw Si Ln Nc
 intro hb
 refine⟨(0:Nat),⟨rfl,rfl,rfl,rfl⟩,⟨Nat.zero_le _,rfl⟩,fun(k:Nat) hk=>⟨fun h=> ?_,fun h=> ?_⟩⟩
 ·have hlt:k<l.length:=by simpa using h
  have hd:=Xg hlt
  refine⟨by omega,fun h1=> ?_,fun h1=>⟨by omega,(k+1:Nat),⟨rfl,rfl,by simp,rfl⟩,⟨by omega, ?_⟩,by omega⟩⟩
  ·have h2:¬l.getD k 0=0:=by simpa using h1
   rw[hk.2,hd,if_neg h2]
  ·have h2:l.getD k 0=0:=by simpa using h1
   rw[hk.2,hd,if_pos h2]
 ·have hlt:¬k<l.length:=by simpa using h
  have:k=l.length:=by omega
  rw[hk.2,this,List.drop_length];rfl
abbrev W39 [Sx.Dr]:=W38.add J8j
def Kaa:Con:={args:=[aI],ress:=[Bo],owns:=[],pre:=fun _=>[],spec:=fun _=>(false,())}
theorem J8a [Sx.Dr]:Ok Tryz.prog 96 Kaa:=okW W39 Tryz.f96 na fun xx=>by
 obtain⟨(x:Int),_⟩:=xx
 refine(by kernel_rfl:((x !=x)=false)=_).mp ?_
 simp
abbrev W40 [Sx.Dr]:=W39.add J8a
def Jn3 (x y:Int):Int:=if x<y then -1 else if y<x then 1 else 0
def J13:Con:={args:=[aI,aI],ress:=[I],owns:=[],pre:=fun _=>[],spec:=fun(x,y,_)=>(Jn3 x y,())}
def Z16:=(-1)
theorem J8i [Sx.Dr]:Ok Tryz.prog 78 J13:=okW W40 Tryz.f78 na fun xx=>by
 obtain⟨(x:Int),(y:Int),_⟩:=xx
 refine(by kernel_rfl:(Br false (Br false (0=Jn3 x y) (Z16=Jn3 x y)) (Br false (1=Jn3 x y) (Br (decide (x<y)) (Z16=Jn3 x y) (Br (decide (y<x)) (1=Jn3 x y) (0=Jn3 x y)))))=_).mp ?_
 delta Z16 Br
 unfold Jn3
 refine⟨fun h=>(by cases h),fun _=>⟨fun h=>(by cases h),fun _=>⟨fun h=> ?_,fun h=>⟨fun h1=> ?_,fun h1=> ?_⟩⟩⟩⟩
 ·rw[if_pos (of_decide_eq_true h)]
 ·rw[if_neg (of_decide_eq_false h),if_pos (of_decide_eq_true h1)]
 ·rw[if_neg (of_decide_eq_false h),if_neg (of_decide_eq_false h1)]
abbrev W41 [Sx.Dr]:=W40.add J8i
def J1y:Con:={args:=[aS],ress:=[Bo],owns:=[],pre:=fun _=>[],spec:=fun _=>(false,())}
theorem J79 [Sx.Dr]:Ok Tryz.prog 97 J1y:=okW W41 Tryz.f97 na fun xx=>by
 obtain⟨(x:ByteArray),_⟩:=xx
 refine(by kernel_rfl:((!Lb x x)=false)=_).mp ?_
 delta Lb
 simp
abbrev W42 [Sx.Dr]:=W41.add J79
def bLt (x y:ByteArray):Bool:=Op.bytesLess x.toList y.toList
def cmpB (x y:ByteArray):Int:=if bLt x y=true then -1 else if x.toList=y.toList then 0 else 1
def J12:Con:={args:=[aS,aS],ress:=[I],owns:=[],pre:=fun _=>[],spec:=fun(x,y,_)=>(cmpB x y,())}
theorem J8h [Sx.Dr]:Ok Tryz.prog 79 J12:=okW W42 Tryz.f79 na fun xx=>by
 obtain⟨(x:ByteArray),(y:ByteArray),_⟩:=xx
 refine(by kernel_rfl:(Br false (Br false (0=cmpB x y) (Z16=cmpB x y)) (Br false (1=cmpB x y) (Br (Op.bytesLess (ByteArray.toList x) (ByteArray.toList y)) (Z16=cmpB x y) (Br (!(Op.bytesLess (ByteArray.toList x) (ByteArray.toList y)||Lb x y)) (1=cmpB x y) (0=cmpB x y)))))=_).mp ?_
 delta Z16 Br Lb
 unfold cmpB bLt
 refine⟨fun h=>(by cases h),fun _=>⟨fun h=>(by cases h),fun _=>⟨fun h=> ?_,fun h=>⟨fun h1=> ?_,fun h1=> ?_⟩⟩⟩⟩
 ·rw[if_pos h]
 ·rw[if_neg (by simp[h]),if_neg]
  simpa[h] using h1
 ·rw[if_neg (by simp[h]),if_pos]
  simpa[h] using h1
abbrev W43 [Sx.Dr]:=W42.add J8h
def nb (b:Bool):Int:=bif b then 1 else 0
def ltP (a b:Stp):Prop:=a.1<b.1∨a.1=b.1∧(a.2.1<b.2.1∨a.2.1=b.2.1∧(nb a.2.2.1<nb b.2.2.1∨nb a.2.2.1=nb b.2.2.1∧(a.2.2.2.1<b.2.2.2.1∨a.2.2.2.1=b.2.2.2.1∧a.2.2.2.2<b.2.2.2.2)))
theorem Jkx (a:Stp):¬ltP a a:=by unfold ltP;omega
theorem Jfz {a b c:Stp} (h:ltP a b) (h':ltP b c):ltP a c:=by unfold ltP at*;omega
theorem Jco (a b:Stp):Ue a b=true↔ltP a b:=by
 unfold Ue ltP
 by_cases h1:a.1=b.1
 ·rw [if_neg (by simpa using h1)]
  by_cases h2:a.2.1=b.2.1
  ·rw[if_neg (by simpa using h2)]
   by_cases h3:a.2.2.1=b.2.2.1
   ·rw[if_neg (by simpa using h3),h3]
    by_cases h4:a.2.2.2.1=b.2.2.2.1
    ·rw[if_neg (by simpa using h4),decide_eq_true_iff];omega
    ·rw[if_pos (by simpa using h4),decide_eq_true_iff];omega
   ·rw[if_pos (by simpa using h3)]
    have key:(b.2.2.1=true↔nb a.2.2.1<nb b.2.2.1)∧nb a.2.2.1≠nb b.2.2.1:=by
     revert h3
     cases a.2.2.1<;>cases b.2.2.1<;>simp[nb]
    rw[key.1]
    have:=key.2
    omega
  ·rw[if_pos (by simpa using h2),decide_eq_true_iff];omega
 ·rw[if_pos (by simpa using h1),decide_eq_true_iff];omega
abbrev Jtd (l:List Stp):Prop:=l.Pairwise fun a b=>¬ltP b a
theorem Jap (x:Stp):∀l,(Jg2 x l).Perm (x::l)
 |[]=> .refl _
 |y::r=>by
  simp only[Jg2]
  split
  ·exact .refl _
  ·exact((Jap x r).cons y).trans (.swap x y r)
theorem Jao {x:Stp}:∀{l:List Stp},Jtd l→Jtd (Jg2 x l)
 |[],_=>by simp[Jg2]
 | y :: r, h => by
  replace h:=List.pairwise_cons.1 h
  simp only[Jg2]
  split
  ·rename_i hb
   have hb:=(Jco x y).1 hb
   refine List.pairwise_cons.2 ⟨fun z hz=> ?_,List.pairwise_cons.2 h⟩
   rcases List.mem_cons.1 hz with rfl|hz
   ·exact fun q=>Jkx _ (Jfz hb q)
   ·exact fun q=>h.1 z hz (Jfz q hb)
  ·rename_i hb
   have hb:¬ltP x y:=fun q=>hb ((Jco x y).2 q)
   refine List.pairwise_cons.2 ⟨fun z hz=> ?_,Jao h.2⟩
   rcases List.mem_cons.1 ((Jap x r).mem_iff.1 hz) with rfl|hz
   ·exact hb
   ·exact h.1 z hz
theorem Hn:∀(l o:List Stp),(X1 o l).Perm (o++l)
 |[],o=>by simp[X1]
 |x::r,o=>by
  simp only[X1]
  refine(Hn r (Jg2 x o)).trans ?_
  refine((Jap x o).append_right r).trans ?_
  exact List.perm_middle.symm
theorem Lg:∀(l:List Stp) {o:List Stp},Jtd o→Jtd (X1 o l)
 |[],_,h=>h
 |_::r,_,h=>Lg r (Jao h)
def Jpw (l:List Stp):List Stp:=X1 [] l
theorem Jlp {c:Cab} {f:Flt} {win:Int} (h:Jlg c f win=0):Ym c f=0∧0≤win∧win≤1000:=by
 have h:=J4 (show Ja [Ym c f,Jh win 0 1000]=0 from h)
 simp only[List.mem_cons,List.not_mem_nil,or_false,forall_eq_or_imp,forall_eq] at h
 exact⟨h.1,Jg.1 h.2⟩
abbrev Arr:Type:=Int×ByteArray×Int
abbrev U6:Sch:= .prod sI (.prod .str sI)
abbrev aA:AK:= .val true U6
theorem Vb:∀x:List UInt8,Op.bytesLess x x=false
 |[]=>rfl
 |a::x=>by simp[Op.bytesLess,Vb x]
theorem Jj0:∀{x y z:List UInt8},Op.bytesLess x y=true→Op.bytesLess y z=true→Op.bytesLess x z=true
 |_,[],_,h,_=>by cases ‹List UInt8› <;>simp[Op.bytesLess] at h
 |_,_::_,[],_,h=>by simp[Op.bytesLess] at h
 |[],_::_,_::_,_,_=>rfl
 | a :: x, b :: y, c :: z, h, h' => by
  simp only[Op.bytesLess,Bool.or_eq_true,decide_eq_true_eq,Bool.and_eq_true,beq_iff_eq] at h h'⊢
  rcases h with h|⟨rfl,h⟩
  ·rcases h' with h'|⟨rfl,h'⟩
   ·exact .inl (UInt8.lt_trans h h')
   ·exact .inl h
  ·rcases h' with h'|⟨rfl,h'⟩
   ·exact .inl h'
   ·exact .inr ⟨rfl,Jj0 h h'⟩
theorem Jst:∀{x y:List UInt8},Op.bytesLess x y=false→Op.bytesLess y x=false→x=y
 |[],[],_,_=>rfl
 |[],_::_,h,_=>by simp[Op.bytesLess] at h
 |_::_,[],_,h=>by simp[Op.bytesLess] at h
 |a::x,b::y,h,h'=>by
  simp only[Op.bytesLess,Bool.or_eq_false_iff,decide_eq_false_iff_not,Bool.and_eq_false_iff,beq_eq_false_iff_ne] at h h'
  have e:a=b:=UInt8.le_antisymm (UInt8.not_lt.1 h'.1) (UInt8.not_lt.1 h.1)
  subst e
  rw[Jst (h.2.resolve_left fun q=>q rfl) (h'.2.resolve_left fun q=>q rfl)]
theorem Jj1 {x y:ByteArray} (h:x.toList=y.toList):x=y:=by
 rw[Lib.toList_data,Lib.toList_data] at h
 exact ByteArray.ext (Array.ext' h)
def ltA (a b:Arr):Prop:=a.1<b.1∨a.1=b.1∧bLt a.2.1 b.2.1=true
def Jjv (a b:Arr):Int:=Ja [Jn3 a.1 b.1,cmpB a.2.1 b.2.1]
theorem Yu (a:Arr):¬ltA a a:=by
 rintro(h|⟨_,h⟩)
 ·omega
 ·unfold bLt at h;rw[Vb] at h;cases h
theorem Xz {a b c:Arr} (h:ltA a b) (h':ltA b c):ltA a c:=by
 rcases h with h|⟨e,h⟩<;>rcases h' with h'|⟨e',h'⟩
 ·exact .inl (by omega)
 ·exact .inl (by omega)
 ·exact .inl (by omega)
 ·exact .inr ⟨by omega,Jj0 h h'⟩
theorem Jah {a b:Arr} (h:¬ltA b a) (hk:¬(a.1=b.1∧a.2.1=b.2.1)):ltA a b:=by
 unfold ltA at*
 by_cases e:a.1=b.1
 ·refine .inr ⟨e, ?_⟩
  have h1:bLt b.2.1 a.2.1=false:=by
   cases hb:bLt b.2.1 a.2.1 with
   |false=>rfl
   |true=>exact absurd (.inr ⟨e.symm,hb⟩) h
  cases hb:bLt a.2.1 b.2.1 with
  |true=>rfl
  |false=>exact absurd ⟨e,Jj1 (Jst hb h1)⟩ hk
 ·exact .inl (by omega)
theorem Jky {a b c:Arr} (h:¬ltA a b) (h':¬ltA b c):¬ltA a c:=by
 intro q
 by_cases e:b.1=a.1∧b.2.1=a.2.1
 ·refine h' ?_
  unfold ltA at q⊢
  rw[e.1,e.2];exact q
 ·exact h' (Xz (Jah h e) q)
theorem Jun (x y:ByteArray):cmpB x y<0↔bLt x y=true:=by
 unfold cmpB
 split
 ·rename_i h;simp[h]
 ·rename_i h
  split<;>simp[h]
theorem Jeb (a b:Arr):Jjv a b<0↔ltA a b:=by
 unfold Jjv ltA
 simp only[Ja,Jn3]
 rw[←Jun]
 generalize cmpB a.2.1 b.2.1=q
 repeat' split
 all_goals omega
theorem Jdq (a b:Arr):Proofs.ltOf Jjv a b=true↔ltA a b:=by
 unfold Proofs.ltOf;rw[decide_eq_true_iff,Jeb]
theorem Jag {a b:Arr}:Proofs.ltOf Jjv a b=false↔¬ltA a b:=by
 rw[←Jdq,Bool.not_eq_true]
theorem J70:Sort.SWO (Proofs.ltOf Jjv) where
 irrefl x:=Jag.2 (Yu x)
 trans x y z h1 h2:=(Jdq x z).2 (Xz ((Jdq x y).1 h1) ((Jdq y z).1 h2))
 ntrans x y z h1 h2:=Jag.2 (Jky (Jag.1 h1) (Jag.1 h2))
def Jxr:Con:={args:=[aA,aA],ress:=[I],owns:=[],pre:=fun _=>[],spec:=fun(a,b,_)=>(Jjv a b,())}
theorem J7h [Sx.Dr] (a b:Arr):wpF Tryz.prog W43.g (na ()) Tryz.f64 Jxr (a,b,()):=by
 refine(by kernel_rfl:(2≤1000000∧Ja [Jn3 a.1 b.1,cmpB a.2.1 b.2.1]=Jjv a b)=_).mp ?_
 exact⟨by omega,rfl⟩
theorem J6u [Sx.Dr]:Ok Tryz.prog 64 Jxr:=Jn mixed W43.ok (by kernel_rfl) (by kernel_rfl) na fun xx=>J7h xx.1 xx.2.1
abbrev W44 [Sx.Dr]:=W43.add J6u
abbrev Je1 (l:List Arr):Prop:=l.Pairwise ltA
abbrev Jhq (l:List Arr):Prop:=l.Pairwise fun a b=>¬(a.1=b.1∧a.2.1=b.2.1)
def Jt7 (x:Arr):List Arr→List Arr
 |[]=>[x]
 |y::r=>if Jjv x y<0 then x::y::r else y::Jt7 x r
def sortA:List Arr→List Arr
 |[]=>[]
 |x::r=>Jt7 x (sortA r)
theorem Jar (x:Arr):∀l,(Jt7 x l).Perm (x::l)
 |[]=> .refl _
 |y::r=>by
  simp only[Jt7]
  split
  ·exact .refl _
  ·exact((Jar x r).cons y).trans (.swap x y r)
theorem Kw:∀l,(sortA l).Perm l
 |[]=> .refl _
 |x::r=>(Jar x _).trans ((Kw r).cons x)
theorem Jaq {x:Arr}:∀{l:List Arr},Je1 l→(∀y∈l,¬(x.1=y.1∧x.2.1=y.2.1))→Je1 (Jt7 x l)
 |[],_,_=>by simp[Jt7]
 | y :: r, h, hne => by
  replace h:=List.pairwise_cons.1 h
  simp only[Jt7]
  split
  ·rename_i hlt
   have hlt:=(Jeb x y).1 hlt
   refine List.pairwise_cons.2 ⟨fun z hz=> ?_,List.pairwise_cons.2 h⟩
   rcases List.mem_cons.1 hz with rfl|hz
   ·exact hlt
   ·exact Xz hlt (h.1 z hz)
  ·rename_i hlt
   have hlt:¬ltA x y:=fun q=>hlt ((Jeb x y).2 q)
   refine List.pairwise_cons.2 ⟨fun z hz=> ?_,Jaq h.2 fun z hz=>hne z (by simp[hz])⟩
   rcases List.mem_cons.1 ((Jar x r).mem_iff.1 hz) with rfl|hz
   ·exact Jah hlt fun q=>hne y (by simp) ⟨q.1.symm,q.2.symm⟩
   ·exact h.1 z hz
theorem Uh:∀{l:List Arr},Jhq l→Je1 (sortA l)
 |[],_=>by simp[sortA]
 |x::r,h=>by
  replace h:=List.pairwise_cons.1 h
  exact Jaq (Uh h.2) fun y hy=>h.1 y ((Kw r).mem_iff.1 hy)
theorem Xb:∀{l l':List Arr},l.Perm l'→Je1 l→Je1 l'→l=l'
 |[],l',h,_,_=>by simpa using h
 |x::r,[],h,_,_=>by simp at h
 | x :: r, y :: r', h, h1, h2 => by
  by_cases e:x=y
  ·subst e
   rw[Xb h.cons_inv (List.pairwise_cons.1 h1).2 (List.pairwise_cons.1 h2).2]
  ·have m1:x∈r':=by
    have:=h.mem_iff.1 (show x∈x::r by simp)
    rcases List.mem_cons.1 this with q|q
    ·exact absurd q e
    ·exact q
   have m2:y∈r:=by
    have:=h.mem_iff.2 (show y∈y::r' by simp)
    rcases List.mem_cons.1 this with q|q
    ·exact absurd q.symm e
    ·exact q
   exact absurd (Xz ((List.pairwise_cons.1 h1).1 y m2) ((List.pairwise_cons.1 h2).1 x m1)) (Yu _)
theorem Db {l l':List Arr} (h:l.Perm l') (hn:Jhq l):Jhq l':=(List.Perm.pairwise_iff (R:=fun a b:Arr=>¬(a.1=b.1∧a.2.1=b.2.1)) (fun q e=>q ⟨e.1.symm,e.2.symm⟩) h).1 hn
theorem Jc2 {l:List Arr} (hn:Jhq l) (h:l.Pairwise fun a b=>¬ltA b a):Je1 l:=
 List.Pairwise.imp (fun{a b} q=>Jah q.2 q.1) (List.Pairwise.and hn h)
def Jla (x:Arr):List Value:=[.int .i64 x.1, .string x.2.1, .int .i64 x.2.2]
theorem Jd8 (M:Nat→Prop) (w:World) (x:Arr) (cs:List Value):Rep M w U6 x cs↔cs=Jla x:=by
 constructor
 ·rintro⟨a,b,rfl,ha,c,d,rfl,hc,hd⟩
  have ha:a=[.int .i64 x.1]:=ha
  have hc:c=[.string x.2.1]:=hc
  have hd:d=[.int .i64 x.2.2]:=hd
  subst ha;subst hc;subst hd;rfl
 ·rintro rfl
  exact⟨_,_,rfl,rfl,_,_,rfl,rfl,rfl⟩
instance:Inhabited (Sch.T U6):=⟨(0,⟨#[]⟩,0)⟩
theorem Jn2 [Sx.Dr] (w:World) (x y:Arr) (hG:Sx.Good Tryz.prog w):Calls Tryz.prog 64 #[.agg (Jla x).toArray, .agg (Jla y).toArray] w fun e w'=>e= .returned (.int .i64 (Jjv x y))∧RowKit.Below w.heap.size w w'∧w.drawn≤w'.drawn:=by
 have h:=(@J6u .on).2.2.2 rfl (x,y,()) (fun _=>False) (fun _=>False) w [.agg (Jla x).toArray, .agg (Jla y).toArray] (fun b hb=>by rcases hb with hb|hb<;>exact hb.elim) hG.on trivial ⟨_,_,rfl,⟨Jla x,rfl,(Jd8 _ _ _ _).2 rfl⟩,_,_,rfl,⟨Jla y,rfl,(Jd8 _ _ _ _).2 rfl⟩,rfl⟩
 refine h.mono ?_
 rintro e w' ⟨M',vs,rfl,hb,_,_,hr⟩
 obtain⟨v,vs',rfl,⟨cs,rfl,hc⟩,hr⟩:=hr
 have hc:cs=[.int .i64 (Jjv x y)]:=hc
 have hr:vs'=[]:=hr
 subst hc;subst hr
 exact⟨rfl,@Sx.Below.kit .on _ _ _ hb,hb.dr⟩
theorem Jte (g cap:Nat) (d:Array Arr) (w:World) (hH:Sort.HoldsK Jla 3 w g 0 d) (hg:g<w.heap.size) (hd:d.size<4611686018427387904) (hc:Proofs.CmpLays Tryz.prog 64 #[] Jla 3 Jjv g 0 d.size w):
  Calls Tryz.prog 63 #[.slice (some ⟨g,0,none⟩) d.size cap, .func (.func 64) #[] #[]] w fun e w'=>e= .returned (.tuple #[])∧∃d' n os,Sort.PermIn 0 d.size d d'∧Sort.SortedIn (Proofs.ltOf Jjv) 0 d.size d'∧w'=Proofs.sortWorldK Jla 3 w g 0 n d' os:=by
 have eg:∀args w,(callFunc 64 args).run Tryz.prog w= .ok (.enter 64 args) w:=Proofs.enters_of Tryz.func64 (by kernel_rfl) rfl
 exact Proofs.AnyQ.slices_SortFunc Proofs.Tryz.sortA 3 Tryz.isAgg128 Tryz.sizeOf128 Jla (fun _=>rfl) (fun x v hv=>by simp[Jla] at hv;rcases hv with rfl|rfl|rfl<;>rfl) Jjv J70 64 #[] g 0 cap d w eg hc hH hg hd
theorem Je4 (w:World):Calls Tryz.prog 63 #[.slice none 0 0, .func (.func 64) #[] #[]] w fun e w'=>e= .returned (.tuple #[])∧w'=w:=
 Proofs.AnyF.slices_SortFunc_none Proofs.Tryz.sortA none 0 _ w
abbrev J1b (l:List Arr):Prop:=Jhq l∧l.length≤1000000
theorem Jki [Sx.Dr]:Jo8 Tryz.prog 63 {T:=128,s:=U6,g:=64,pre:=J1b,f:=sortA}:=
 Jpv (s:=U6) (T:=128) (k:=3) Jla (fun _=>rfl) rfl Jd8 Jjv _ _ Jte Je4 Jn2
  (fun xs ys hx hp hs=>Xb (hp.trans (show List.Perm xs (sortA xs) from(Kw xs).symm)) (Jc2 (Db (List.Perm.symm hp) hx.1) (hs.imp fun h=>Jag.1 h)) (Uh hx.1))
  (fun xs h=>h.2)
def Jxc:Con:={args:=[],ress:=[],owns:=[],pre:=fun _=>[False],spec:=fun _=>(),srt:=some {T:=128,s:=U6,g:=64,pre:=J1b,f:=sortA}}
theorem J8s [Sx.Dr]:Ok Tryz.prog 63 Jxc:=⟨⟨Tryz.f63,by kernel_rfl,by kernel_rfl,by kernel_rfl⟩,fun z hz=>(by cases hz;exact Jki),fun F hF=>(by cases hF),fun h=>by cases h⟩
abbrev W45 [Sx.Dr]:=W44.add J8s
set_option pp.deepTerms true
set_option pp.maxSteps 1000000
set_option maxHeartbeats 20000000
abbrev AM:Type:=List (Arr×Int)
def Jo2 (m:AM) (k:Arr) (h:Int):AM:=Kd U6 k ((Jt U6 k m).getD 0+h) m
def Jf3 (c:Cab) (m:AM) (w:Stp):AM:=if w.2.1=0 then Jo2 m (w.1,sA,0) w.2.2.2.2 else if w.2.1=c.1.length then Jo2 m (w.1,sB,0) w.2.2.2.2 else m
def Kl (c:Cab) (l:List Stp):AM:=l.foldl (Jf3 c) []
def Jko (p:Arr×Int):Arr:=(p.1.1,p.1.2.1,p.2)
def K2 (c:Cab) (f:Flt) (win:Int):List Arr:=sortA ((Kl c (Kg c f win)).map Jko)
def Jkl (m:AM) (seen:List Nat):List Arr:=seen.map fun p=>Jko (m.getD p ((0,⟨#[]⟩,0),0))
def J66:Con:={args:=[aC,aF,aI],ress:=[(false, .list 128 U6)],owns:=[],pre:=fun(c,f,win,_)=>[Jlg c f win=0],spec:=fun(c,f,win,_)=>(K2 c f win,())}
abbrev Jx5 (c:Cab) (f:Flt) (win:Int):Ann:={X:=List Stp×List Stp,σ:=fun p=>⟨14,[(0, .one (.fv 11)),(2, .one (.ptr 7 0)),(3, .one (.ptr 9 0)),(7, .one (.sl 13))],[(0, .imm 59 sPt c.1),(1, .imm 3 sI c.2.1),(2, .box 41 [.sl 0, .sl 1, .int .i64 c.2.2.1, .int .i64 c.2.2.2]),(4, .mp 128 true false U6 sI (Kl c p.2)),(5, .box 119 [.sl 4]),(7, .box 41 [.sl 0, .sl 1, .int .i64 c.2.2.1, .int .i64 c.2.2.2]),(9, .box 3 [.int .i64 (f.2.2.1+win)]),(11, .yld .ready),(12, .sus [(3, .one (.ptr 2 0)),(7, .one (.ptr 5 0))]),(13, .ownT 126 Jbp p.1)]⟩,inv:=fun p=>(∀w∈p.1,wvH c w)∧(∀w∈p.2,wvH c w)∧Yj c f∧(0≤win∧win≤1000)∧p.2++Jg1 c (f.2.2.1+win) p.1=Kg c f win∧p.2.length+wtL p.1≤4374,mu:=fun p=>wtL p.1}
abbrev Js2 (m:AM):Nat→Option Ann:=fun i=>if i=3 then some {X:=List Nat,σ:=fun seen=>⟨3,[(9, .one (.sl 2)),(56, .one (.sl 1))],[(1, .mpi 0 128 true false U6 sI m seen),(0, .mp 128 true false U6 sI m),(2, .own 128 U6 (Jkl m seen))]⟩,inv:=fun seen=>seen.Nodup∧(∀p∈seen,p<m.length),mu:=fun seen=>m.length-seen.length} else none
theorem Xe {k k':Arr}:Xp U6 k k'=true↔k=k':=by
 constructor
 ·intro h
  simp only[Xp,Bool.and_eq_true,beq_iff_eq] at h
  exact Prod.ext h.1 (Prod.ext (Jj1 h.2.1) h.2.2)
 ·rintro rfl
  simp[Xp]
theorem Jak (k:Arr):Xp U6 k k=true:=Xe.2 rfl
theorem L6 (k:Arr) (u:Int):∀m:AM,Jt U6 k (Kd U6 k u m)=some u
 |[]=>by simp only[Kd,Jt,Jak,if_true]
 | x :: r => by
  simp only[Kd]
  split
  ·simp only[Jt,Jak,if_true]
  ·rename_i h
   simp only[Jt]
   rw[if_neg h,L6 k u r]
theorem Jac (k:Arr) (m:AM):SV.v false [SC.int .i64 ((Jt U6 k (Kd U6 k ((Jt U6 k m).getD 0) m)).getD 0)]=SV.v false [SC.int .i64 ((Jt U6 k m).getD 0)]:=by
 rw[L6];rfl
theorem L5 (k:Arr) (u v:Int):∀m:AM,Hi v (Kd U6 k u m) (Xd U6 k m)=Kd U6 k v m
 |[]=>rfl
 |x::r=>by
  simp only[Kd,Xd]
  split
  ·rfl
  ·simp only[Hi];rw[L5 k u v r]
theorem Jab (k:Arr) (u:Int):∀m:AM,Xd U6 k m<(Kd U6 k u m).length
 |[]=>by simp[Xd,Kd]
 |x::r=>by
  have:=Jab k u r
  simp only[Kd,Xd]
  split
  ·simp
  ·simp only[List.length_cons];omega
theorem Jcb (k:Arr) (u:Int):∀m:AM,(Kd U6 k u m).length≤m.length+1
 |[]=>by simp[Kd]
 |x::r=>by
  have:=Jcb k u r
  simp only[Kd]
  split
  ·simp
  ·simp only[List.length_cons];omega
theorem Zf {k:Arr} {u:Int} {p:Arr×Int}:∀{m:AM},p∈Kd U6 k u m→p=(k,u)∨p∈m
 |[],h=>by simpa[Kd] using h
 | x :: r, h => by
  simp only[Kd] at h
  split at h
  ·rcases List.mem_cons.1 h with h|h
   ·exact .inl h
   ·exact .inr (by simp[h])
  ·rcases List.mem_cons.1 h with h|h
   ·exact .inr (by simp[h])
   ·rcases Zf h with h|h
    ·exact .inl h
    ·exact .inr (by simp[h])
theorem L7 {k:Arr}:∀{m:AM} {v:Int},Jt U6 k m=some v→(k,v)∈m
 |[],v,h=>by simp[Jt] at h
 | x :: r, v, h => by
  simp only[Jt] at h
  split at h
  ·rename_i e
   cases h
   rw[Xe.1 e];exact List.mem_cons_self
  ·exact List.mem_cons_of_mem _ (L7 h)
theorem Jaa {k:Arr} {u:Int}:∀{m:AM},(m.Pairwise fun a b=>a.1≠b.1)→(Kd U6 k u m).Pairwise fun a b=>a.1≠b.1
 |[],_=>by simp[Kd]
 | x :: r, h => by
  replace h:=List.pairwise_cons.1 h
  simp only[Kd]
  split
  ·rename_i e
   have e:=Xe.1 e
   refine List.pairwise_cons.2 ⟨fun p hp=> ?_,h.2⟩
   rw[e];exact h.1 p hp
  ·rename_i e
   refine List.pairwise_cons.2 ⟨fun p hp=> ?_,Jaa h.2⟩
   rcases Zf hp with rfl|hp
   ·exact fun q=>e (Xe.2 q.symm)
   ·exact h.1 p hp
def okM (m:AM) (n:Nat):Prop:=m.length≤n∧(∀p∈m,-(17179869184*(n:Int))≤p.2∧p.2≤17179869184*n)∧(m.Pairwise fun a b=>a.1≠b.1)∧∀p∈m,p.1.2.2=0
theorem Jnn {m:AM} {n:Nat} (h:okM m n) (k:Arr): -(17179869184*(n:Int))≤(Jt U6 k m).getD 0∧(Jt U6 k m).getD 0≤17179869184*n:=by
 cases e:Jt U6 k m with
 |none=>simp only[Option.getD_none];omega
 |some v=>exact h.2.1 _ (L7 e)
theorem Jo1 {m:AM} {n:Nat} (h:okM m n) {k:Arr} (hk:k.2.2=0) {v:Int} (hv: -17179869184≤v∧v≤17179869184):okM (Jo2 m k v) (n+1):=by
 have hg:=Jnn h k
 obtain⟨h1,h2,h3,h4⟩:=h
 unfold Jo2
 refine⟨?_,fun p hp=> ?_,Jaa h3,fun p hp=> ?_⟩
 ·have:=Jcb k ((Jt U6 k m).getD 0+v) m;omega
 ·rcases Zf hp with rfl|hp
  ·simp only;omega
  ·have:=h2 p hp;omega
 ·rcases Zf hp with rfl|hp
  ·exact hk
  ·exact h4 p hp
theorem Jqb {m:AM} {n:Nat} (h:okM m n):okM m (n+1):=by
 obtain⟨h1,h2,h3,h4⟩:=h
 exact⟨by omega,fun p hp=>by have:=h2 p hp;omega,h3,h4⟩
theorem Jt9 {c:Cab} {m:AM} {n:Nat} (h:okM m n) {w:Stp} (hw: -17179869184≤w.2.2.2.2∧w.2.2.2.2≤17179869184):okM (Jf3 c m w) (n+1):=by
 unfold Jf3
 repeat' split
 ·exact Jo1 h rfl hw
 ·exact Jo1 h rfl hw
 ·exact Jqb h
theorem Za (c:Cab) (l:List Stp) (w:Stp):Kl c (l++[w])=Jf3 c (Kl c l) w:=by
 unfold Kl;rw[List.foldl_append];rfl
theorem Jnq {c:Cab}:∀{l:List Stp} {m:AM} {n:Nat},okM m n→(∀w∈l,-17179869184≤w.2.2.2.2∧w.2.2.2.2≤17179869184)→okM (l.foldl (Jf3 c) m) (n+l.length)
 |[],_,_,h,_=>h
 |w::r,m,n,h,hl=>by
  have:=Jnq (c:=c) (l:=r) (Jt9 (c:=c) h (hl w (by simp))) fun x hx=>hl x (by simp[hx])
  rw[show n+1+r.length=n+(w::r).length by simp only[List.length_cons];omega] at this
  exact this
theorem Hw {c:Cab} {l:List Stp} (h:∀w∈l,wvH c w):okM (Kl c l) l.length:=by
 have:=Jnq (c:=c) (l:=l) (m:=[]) (n:=0) ⟨Nat.le_refl _,fun p hp=>by simp at hp, .nil,fun p hp=>by simp at hp⟩ fun w hw=>by
  obtain⟨a1,_,_,a4,a5⟩:=h w hw
  have:=Jjb (h:=w.2.2.2.1.toNat) (by omega)
  omega
 rwa[Nat.zero_add] at this
theorem Jhd {m:AM} {n:Nat} (h:okM m n):Jhq (m.map Jko):=by
 obtain⟨_,_,h3,h4⟩:=h
 rw[Jhq,List.pairwise_map]
 refine List.Pairwise.imp_of_mem (fun{a b} ha hb q e=>q ?_) h3
 have e1:=h4 a ha
 have e2:=h4 b hb
 exact Prod.ext e.1 (Prod.ext e.2 (by rw[e1,e2]))
theorem La:∀(n:Nat) {l:List Nat},l.Nodup→(∀p∈l,p<n)→l.length≤n
 |0,[],_,_=>Nat.le_refl _
 |0,p::_,_,h=>by have:=h p (by simp);omega
 | n + 1, l, hn, h => by
  by_cases hm:n∈l
  ·have ih:=La n (hn.erase n) fun p hp=>by
    have:=(hn.mem_erase_iff).1 hp
    have h2:=h p this.2
    have:=this.1
    omega
   rw[List.length_erase_of_mem hm] at ih
   omega
  ·have ih:=La n hn fun p hp=>by
    have h2:=h p hp
    have:p≠n:=by rintro rfl;exact hm hp
    omega
   omega
theorem Jkk {m:AM} {seen:List Nat} (h1:seen.Nodup) (h2:∀p∈seen,p<m.length) (h3:∀p,p<m.length→p∈seen):(Jkl m seen).Perm (m.map Jko):=by
 have hp:seen.Perm (List.range m.length):=(List.perm_ext_iff_of_nodup h1 List.nodup_range).2 fun p=>⟨fun h=>List.mem_range.2 (h2 p h),fun h=>h3 p (List.mem_range.1 h)⟩
 have e:m.map Jko=(List.range m.length).map fun p=>Jko (m.getD p ((0,⟨#[]⟩,0),0)):=by
  apply List.ext_getElem?
  intro j
  rw[List.getElem?_map,List.getElem?_map]
  by_cases hj:j<m.length
  ·rw[List.getElem?_range hj,List.getElem?_eq_getElem hj];simp[List.getD_eq_getElem?_getD,hj]
  ·rw[List.getElem?_eq_none (by omega),List.getElem?_eq_none (by simp;omega)];rfl
 rw[e]
 exact hp.map _
def Z0:=((0:Int),B0,(0:Int))
def Z9 (a:Cab) (b:Flt) (c:Int):=Kl a (Kg a b c)
def Z41 (a:Cab) (b:Flt) (c:Int) (d:List Nat):=Jkl (Z9 a b c) d
def Z46:List (Int×ByteArray×Int):=[]
def Z52:=Sch.prod (Sch.int IntKind.i64) (Sch.prod Sch.str (Sch.int IntKind.i64))
def Z70 (a:List Nat) (b:Nat):=b∈a
def Z99 (a:Cab) (b:Flt):=Z80 a b-b.2.1
def Jym (a:Cab) (b:Flt) (c:Int):=List.length (Z9 a b c)
def J0n (a:Cab) (b:Flt) (c:Int) (d:List Nat):=List.length (Z41 a b c d)=0
def J5i (a:Cab) (b:Flt) (c:Int) (d:List Nat):=(List.length (Z41 a b c d)+1)*32≤140737488355328
def J44 (a:List Stp×List Stp):=(Jz4 a).2
def J41 (a:Cab) (b:Flt) (c:Int) (d:List Nat):=J1b (Z41 a b c d)∧Sf true (sortA (Z41 a b c d)=K2 a b c)
def J4s (a:Cab) (b:Flt) (c:Int) (d:List Nat):=List.getD (Z9 a b c) (List.getLastD d 0) (Z0,0)
def Jzw (a:List Nat) (b:Cab) (c:Flt) (d:Int):=List.Nodup a∧∀(p:Nat),Z70 a p→p<List.length (Z9 b c d)
def J4q (a:Cab) (b:Flt) (c:Int) (d:List Nat):=(J4s a b c d).1
def J4i (a:Cab) (b:Flt) (c:Int) (d:List Nat) (e:Nat):=List.getD (Z9 a b c) (List.getLastD (d++[e]) 0) (Z0,0)
def J4h (a:Cab) (b:Flt) (c:Int) (d:List Nat) (e:Nat):=(J4i a b c d e).1
def Jyb (a:List Stp×List Stp):=(Ju7 a,Z50,(0:Int))
def Jya (a:List Stp×List Stp):=(Ju7 a,Z49,(0:Int))
def J3d (a:List Stp×List Stp) (b:Cab):=Xd Z52 (Jya a) (Kl b a.2)
def J3c (a:List Stp×List Stp) (b:Cab):=Xd Z52 (Jyb a) (Kl b a.2)
def Jzl (a:List Stp×List Stp) (b:Cab):=Option.getD (Jt Z52 (Jyb a) (Kl b a.2)) 0
def Jzk (a:List Stp×List Stp) (b:Cab):=Option.getD (Jt Z52 (Jya a) (Kl b a.2)) 0
def J27 (a:List Nat) (b:Cab) (c:Flt) (d:Int) (e:List Nat):=Jzw a b c d∧List.length (Z9 b c d)-List.length a<List.length (Z9 b c d)-List.length e
def J26 (a:List (Int×Int×Bool×Int×Int)×List (Int×Int×Bool×Int×Int)) (b:Cab) (c:Flt) (d:Int):=J0w a b∧(∀(w:Stp),w∈a.2→wvH b w)∧Yj b c∧Z31 d∧a.2++Jg1 b (c.2.2.1+d) a.1=Kg b c d∧List.length a.2+wtL a.1≤4374
def Jx9 (a:List (Int×Int×Bool×Int×Int)×List (Int×Int×Bool×Int×Int)) (b:Cab) (c:Flt) (d:Int) (e:List Stp×List Stp):=J26 a b c d∧wtL a.1<wtL e.1
def J22 (a:List Stp×List Stp) (b:Cab):=Jzk a b+J44 a
def J21 (a:List Stp×List Stp) (b:Cab):=Jzl a b+J44 a
def Jzc (a:List Stp×List Stp) (b:Cab):=Kd Z52 (Jya a) (Jzk a b) (Kl b a.2)
def Jzb (a:List Stp×List Stp) (b:Cab):=Kd Z52 (Jyb a) (Jzl a b) (Kl b a.2)
def Jy7 (a:Cab) (b:List Stp×List Stp):=Z87 a∧Jza a b
def Jy5 (a:Cab) (b:Flt) (c:Int) (d:List Stp×List Stp) (e:List (Int×Int×Bool×Int×Int)×List (Int×Int×Bool×Int×Int)):=Si a.2.2.1 (Si a.2.2.2 (Si (b.2.2.1+c) (Jy6 d a e)))
def J2f (a:List Stp×List Stp) (b:Cab):=Hi (J21 a b) (Jzb a b) (J3c a b)
def J2e (a:List Stp×List Stp) (b:Cab):=Hi (J22 a b) (Jzc a b) (J3d a b)
def J2d (a:List Stp×List Stp) (b:Cab) (c:Flt) (d:Int):=J2e a b=Z9 b c d
def J2c (a:List Stp×List Stp) (b:Cab) (c:Flt) (d:Int):=J2f a b=Z9 b c d
def Jy3 (a:List Nat) (b:Cab) (c:Flt) (d:Int):=Jzw a b c d∧∀(x:List Nat),Jzw x b c d→Sf (Z9 b c d) ((∀(p:Nat),p<Jym b c d→(Z70 x p→False)→Br true (Sf (Z9 b c d) ((x++[p]=[]→False)∧List.getLastD (x++[p]) 0<Jym b c d)∧J5i b c d x∧∃(y:List Nat),Sf (Z9 b c d) (x++[p]=y∧Sf (Z9 b c d) (Z41 b c d x++((J4h b c d x p).1,(J4h b c d x p).2.1,(J4i b c d x p).2)::Z46=Z41 b c d y))∧J27 y b c d x) (J41 b c d x))∧((∀(p:Nat),p<Jym b c d→Z70 x p)→Br false (Sf (Z9 b c d) ((x=[]→False)∧List.getLastD x 0<Jym b c d)∧J5i b c d x∧∃(y:List Nat),Sf (Z9 b c d) (x=y∧Sf (Z9 b c d) (Z41 b c d x++((J4q b c d x).1,(J4q b c d x).2.1,(J4s b c d x).2)::Z46=Z41 b c d y))∧J27 y b c d x) (J41 b c d x)))
def J19 (a:Cab) (b:List Stp×List Stp) (c:Flt) (d:Int):=∃(x:List Nat),(Kl a b.2=Z9 a c d∧[]=x∧Kl a b.2=Z9 a c d∧J0n a c d x)∧Jy3 x a c d
theorem J7n [Sx.Dr] (c:Cab) (f:Flt) (win:Int):wpFG Tryz.prog W45.g (Js2 (Kl c (Kg c f win))) (fun g id=>if g=73 then some (Jx5 c f win) else none) (Sx.look ([(62,Tryz.f62),(73,Tryz.f73)]:List (Nat×Func))) Tryz.f31 J66 (c,f,win,()):=by
 refine(by kernel_rfl:(Jlg c f win=0→((∀(k k':Int×ByteArray×Int),some (k.1==k'.1&&(Lb k.2.1 k'.2.1&&(k.2.2==k'.2.2&&true)))=some (match decide (k.1=k'.1) with|false=>false|true=>match List.beq (ByteArray.toList k.2.1) (ByteArray.toList k'.2.1) with|false=>false|true=>decide (k.2.2=k'.2.2)))∧∀(k:Int×ByteArray×Int),true=true)∧Iw (f.2.2.1+win)∧Iw (f.2.2.2*262144)∧T2 (Bd f.1 (Z1 c)) (Iw (Z99 c f))∧(Iw (f.2.2.1+f.2.1)∧Iw (f.2.2.1+Z99 c f)∧Iw (f.1+1))∧∃(x:List (Int×Int×Bool×Int×Int)×List (Int×Int×Bool×Int×Int)),(c.1=c.1∧c.2.1=c.2.1∧Si c.2.2.1 (Si c.2.2.2 ([]=Kl c x.2∧Si c.2.2.1 (Si c.2.2.2 (Si (f.2.2.1+win) (J01 f::(f.2.2.1+Z99 c f,f.1+1,true,0,f.2.2.2*262144)::Z95=x.1))))))∧J26 x c f win∧∀(x:List Stp×List Stp),J0v x c∧(∀(w:Stp),w∈x.2→wvH c w)∧Yj c f∧Z31 win∧x.2++Jg1 c (f.2.2.1+win) x.1=Kg c f win∧List.length x.2+wtL x.1≤4374→Br (decide (0<Ln x.1)) (Tw (Bd 0 (Ln x.1))∧((0:Int)≤1∧1≤Ln x.1)∧Br (decide (f.2.2.1+win<Ju7 x)) (∃(y:List (Int×Int×Bool×Int×Int)×List (Int×Int×Bool×Int×Int)),(c.1=c.1∧c.2.1=c.2.1∧Si c.2.2.1 (Si c.2.2.2 (Kl c x.2=Kl c y.2∧Si c.2.2.1 (Si c.2.2.2 (Si (f.2.2.1+win) (J0u x y))))))∧Jx9 y c f win x) (Br (Jyh x==0) ((SV.v false [SC.int IntKind.i64 (Option.getD (Jt Z52 (Jya x) (Jzc x c)) 0)]=SV.v false [SC.int IntKind.i64 (Jzk x c)]∧Iw (J22 x c)∧Bd (Nc (J3d x c)) (Ln (Jzc x c)))∧Br false (∃(x_1:List Nat),(J2d x c f win∧[]=x_1∧J2d x c f win∧J0n c f win x_1)∧Jy3 x_1 c f win) (Jy7 c x∧Jvs x c∧∃(y:List (Int×Int×Bool×Int×Int)×List (Int×Int×Bool×Int×Int)),(c.1=c.1∧c.2.1=c.2.1∧Si c.2.2.1 (Si c.2.2.2 (J2e x c=Kl c y.2∧Jy5 c f win x y)))∧Jx9 y c f win x)) (Br (Jyh x==Z1 c) ((SV.v false [SC.int IntKind.i64 (Option.getD (Jt Z52 (Jyb x) (Jzb x c)) 0)]=SV.v false [SC.int IntKind.i64 (Jzl x c)]∧Iw (J21 x c)∧Bd (Nc (J3c x c)) (Ln (Jzb x c)))∧Br false (∃(x_1:List Nat),(J2c x c f win∧[]=x_1∧J2c x c f win∧J0n c f win x_1)∧Jy3 x_1 c f win) (Jy7 c x∧Jvs x c∧∃(y:List (Int×Int×Bool×Int×Int)×List (Int×Int×Bool×Int×Int)),(c.1=c.1∧c.2.1=c.2.1∧Si c.2.2.1 (Si c.2.2.2 (J2f x c=Kl c y.2∧Jy5 c f win x y)))∧Jx9 y c f win x)) (Br false (J19 c x f win) (Jy7 c x∧Jvs x c∧∃(y:List (Int×Int×Bool×Int×Int)×List (Int×Int×Bool×Int×Int)),(c.1=c.1∧c.2.1=c.2.1∧Si c.2.2.1 (Si c.2.2.2 (Kl c x.2=Kl c y.2∧Jy5 c f win x y)))∧Jx9 y c f win x))))) (J19 c x f win))=_).mp ?_
 delta Z0 Z1 Z9 Z31 Z33 Z41 Z46 Z49 Z50 Z52 Z54 Z70 Z72 Z80 Z87 Z95 Z99 J01 Jyq J0w J0v J0u Jym J0n J5i J0a Ju7 Jz9 Jz5 Jyh Jz4 J44 J41 J4s Jzw J4q J4i J4h Jyb Jya J3d J3c Jzl Jzk J27 J26 Jx9 J22 J21 Jzc Jzb Jx8 Jza Jy9 Jy7 Jy6 Jy5 Jvs J2f J2e J2d J2c Jy3 J19 Br Iw Bd T2 Tw Sf Si Ln Nc Gt B0 Lb E2
 intro h1
 obtain⟨ef,hw⟩:=Jlp h1
 obtain⟨hc,hfv⟩:=Lk ef
 have hv:=hfv.1
 obtain⟨_,g1,g2,g3,g4,g5⟩:=id hfv
 have b:=hv.2.2.1 _ (Jp (d:=(0,0)) (l:=c.1) (k:=f.1.toNat) (by omega))
 have hi:=Dc hfv
 have hlen:=hv.2.1
 refine⟨⟨fun k k'=>(by simp only[Bool.and_true];rfl),fun _=>rfl⟩,by omega,by omega,⟨g1,g1,by omega⟩,⟨by omega,by omega,by omega⟩,(Ho c f,[]),⟨rfl,rfl,rfl,rfl,rfl,rfl,rfl,rfl,rfl⟩,⟨hi,fun w hw=>(by simp at hw),hfv,hw,rfl,by show 0+wtL (Ho c f)≤4374;rw[Jdw];omega⟩,fun p hp=> ?_⟩
 obtain⟨o,out⟩:=p
 obtain⟨p1,p0,_,_,p2,p3⟩:=hp
 replace p2:out++Jg1 c (f.2.2.1+win) o=Kg c f win:=p2
 replace p3:out.length+wtL o≤4374:=p3
 replace p0:∀w∈out,wvH c w:=p0
 have hm:=Hw p0
 cases o with
 | nil =>
  refine⟨fun h1=>by simp at h1,fun h1=> ?_⟩
  have p2:out=Kg c f win:=by rw[←p2];exact(List.append_nil out).symm
  have hm:okM (Kl c (Kg c f win)) out.length:=by rw[←p2];exact hm
  have p3:out.length≤4374:=by omega
  have eA:K2 c f win=sortA ((Kl c (Kg c f win)).map Jko):=rfl
  refine⟨[],⟨by rw[←p2],rfl,by rw[←p2],rfl⟩,⟨List.nodup_nil,fun p hp=>by simp at hp⟩, ?_⟩
  rw[eA]
  generalize Kl c (Kg c f win)=m at hm⊢
  intro seen hs
  have hls:=La m.length hs.1 hs.2
  have hlm:=hm.1
  have hl2:(Jkl m seen).length=seen.length:=by simp[Jkl]
  refine⟨rfl,fun p hp hps=>⟨fun _=> ?_,fun h=>(by cases h)⟩,fun hall=>⟨fun h=>(by cases h),fun _=> ?_⟩⟩
  ·have hl:(seen++[p]).getLastD 0=p:=by simp[List.getLastD_eq_getLast?]
   have hn:(seen++[p]).Nodup:=List.nodup_append.2 ⟨hs.1,by simp,fun x hx y hy=>by
    have:y=p:=by simpa using hy
    subst this
    rintro rfl
    exact hps hx⟩
   have ha:∀q∈seen++[p],q<m.length:=fun q hq=>by
    rcases List.mem_append.1 hq with hq|hq
    ·exact hs.2 q hq
    ·have:q=p:=by simpa using hq
     subst this;exact hp
   have hlen2:=La _ hn ha
   rw[List.length_append] at hlen2
   have hlen2:seen.length+1≤m.length:=hlen2
   rw[hl,hl2]
   refine⟨⟨rfl,by simp,hp⟩,by omega,seen++[p],⟨rfl,rfl,rfl, ?_⟩,⟨hn,ha⟩,by rw[List.length_append];simp;omega⟩
   simp only[Jkl,List.map_append,List.map_cons,List.map_nil]
   rfl
  ·have hp:=Jkk hs.1 hs.2 hall
   have hk:=Jhd hm
   refine⟨⟨Db hp.symm hk,by omega⟩,rfl, ?_⟩
   exact Xb ((Kw _).trans (hp.trans (Kw _).symm)) (Uh (Db hp.symm hk)) (Uh hk)
 | cons w r =>
  have hw':wvH c w:=p1 w (by simp)
  have hr:=Jfb (last:=f.2.2.1+win) hv p1
  have hc':=Zj (c:=c) hw'.1
  have hp:=Xr w
  have hl1:=Jm9 r
  have hl2:=Jbf c w
  simp only[wtL] at p3
  rw[hr] at p2
  refine⟨fun h1=> ?_,fun h1=>by simp at h1⟩
  have l1:0<((w::r).length:Int):=by simp only[List.length_cons];omega
  refine⟨⟨⟨by omega,l1⟩,by omega,l1⟩,⟨by omega,l1⟩,fun h2=> ?_,fun h2=> ?_⟩
  ·have h2:f.2.2.1+win<w.1:=of_decide_eq_true h2
   rw[if_pos h2] at p2
   refine⟨(r,out),⟨rfl,rfl,rfl,rfl,rfl,rfl,rfl,rfl,rfl⟩,⟨fun x hx=>p1 x (by simp[hx]),p0,hfv,hw,p2, ?_⟩, ?_⟩
   ·show out.length+wtL r≤4374
    omega
   ·show wtL r<wtL (w::r)
    simp only[wtL];omega
  ·have h2:¬f.2.2.1+win<w.1:=of_decide_eq_false h2
   rw[if_neg h2] at p2
   have f1:(r.length+(Jk c w).length)*40≤140737488355328:=by omega
   have f2:(out++[w])++Jg1 c (f.2.2.1+win) (r++Jk c w)=Kg c f win:=by rw[List.append_assoc];exact p2
   have f3:(out++[w]).length+wtL (r++Jk c w)≤4374:=by rw[Km,List.length_append,List.length_singleton];omega
   have f4:wtL (r++Jk c w)<wtL (w::r):=by rw[Km];simp only[wtL];omega
   have f5:∀x∈out++[w],wvH c x:=fun x hx=>by
    rcases List.mem_append.1 hx with hx|hx
    ·exact p0 x hx
    ·simp only[List.mem_singleton] at hx;rw[hx];exact hw'
   have hB: -17179869184≤w.2.2.2.2∧w.2.2.2.2≤17179869184:=by
    obtain⟨a1,_,_,a4,a5⟩:=hw'
    have:=Jjb (h:=w.2.2.2.1.toNat) (by omega)
    omega
   refine⟨fun e0=> ?_,fun e0=>⟨fun e1=> ?_,fun e1=> ?_⟩⟩
   ·have e0:w.2.1=0:=eq_of_beq e0
    have hg:=Jnn hm (w.1,sA,0)
    refine⟨⟨?_, ?_,Int.natCast_nonneg _,Int.ofNat_lt.2 (Jab (w.1,sA,0) _ _)⟩,fun h=>(by cases h),fun _=>⟨⟨hc,Jll hv hw'⟩,f1,(r++Jk c w,out++[w]),⟨rfl,rfl,rfl,rfl, ?_,rfl,rfl,rfl,rfl⟩,⟨Jop hv p1,f5,hfv,hw,f2,f3⟩,f4⟩⟩
    ·exact Jac (w.1,sA,0) _
    ·show -9223372036854775808≤(Jt U6 (w.1,sA,0) (Kl c out)).getD 0+w.2.2.2.2∧(Jt U6 (w.1,sA,0) (Kl c out)).getD 0+w.2.2.2.2≤9223372036854775807
     omega
    ·rw[Za]
     unfold Jf3 Jo2
     rw[if_pos e0]
     exact L5 (w.1,sA,0) _ _ _
   ·have e0:¬w.2.1=0:=by
     have e0:(w.2.1==0)=false:=e0
     simpa using e0
    have e1:w.2.1=c.1.length:=eq_of_beq e1
    have hg:=Jnn hm (w.1,sB,0)
    refine⟨⟨?_, ?_,Int.natCast_nonneg _,Int.ofNat_lt.2 (Jab (w.1,sB,0) _ _)⟩,fun h=>(by cases h),fun _=>⟨⟨hc,Jll hv hw'⟩,f1,(r++Jk c w,out++[w]),⟨rfl,rfl,rfl,rfl, ?_,rfl,rfl,rfl,rfl⟩,⟨Jop hv p1,f5,hfv,hw,f2,f3⟩,f4⟩⟩
    ·exact Jac (w.1,sB,0) _
    ·show -9223372036854775808≤(Jt U6 (w.1,sB,0) (Kl c out)).getD 0+w.2.2.2.2∧(Jt U6 (w.1,sB,0) (Kl c out)).getD 0+w.2.2.2.2≤9223372036854775807
     omega
    ·rw[Za]
     unfold Jf3 Jo2
     rw[if_neg e0,if_pos e1]
     exact L5 (w.1,sB,0) _ _ _
   ·have e0:¬w.2.1=0:=by
     have e0:(w.2.1==0)=false:=e0
     simpa using e0
    have e1:¬w.2.1=c.1.length:=by
     have e1:(w.2.1==(c.1.length:Int))=false:=e1
     simpa using e1
    refine⟨fun h=>(by cases h),fun _=>⟨⟨hc,Jll hv hw'⟩,f1,(r++Jk c w,out++[w]),⟨rfl,rfl,rfl,rfl, ?_,rfl,rfl,rfl,rfl⟩,⟨Jop hv p1,f5,hfv,hw,f2,f3⟩,f4⟩⟩
    rw[Za]
    unfold Jf3
    rw[if_neg e0,if_neg e1]
theorem J9g [Sx.Dr]:Ok Tryz.prog 31 J66:=F6 mixed W45.ok (by kernel_rfl) (by kernel_rfl) (Jaj (l:=([(62,Tryz.f62),(73,Tryz.f73)]:List (Nat×Func))) (List.forall_mem_cons.2 ⟨by kernel_rfl,List.forall_mem_cons.2 ⟨by kernel_rfl,by simp⟩⟩)) (fun xx=>Js2 (Kl xx.1 (Kg xx.1 xx.2.1 xx.2.2.1))) (fun xx=>fun g id=>if g=73 then some (Jx5 xx.1 xx.2.1 xx.2.2.1) else none) fun xx=>J7n xx.1 xx.2.1 xx.2.2.1
abbrev W46 [Sx.Dr]:=W45.add J9g
def Hs (w:Stp):ByteArray:=if w.2.1=0 then sA else sB
def Ul (o:List Arr):Arr:=o.getD (o.length-1) (0,⟨#[]⟩,0)
def Yo (n:Int) (o:List Arr) (w:Stp):List Arr:=
 if w.2.1≠0∧w.2.1≠n then o else if o≠[]∧(Ul o).1=w.1∧(Ul o).2.1=Hs w then o.set (o.length-1) (w.1,Hs w,(Ul o).2.2+w.2.2.2.2) else o++[(w.1,Hs w,w.2.2.2.2)]
def Fh (c:Cab) (l:List Stp):List Arr:=l.foldl (Yo c.1.length) []
abbrev dA:Arr:=(0,⟨⟨[]⟩⟩,0)
theorem Jdt {o:List Arr} (h:o≠[]):o.getD ((o.length:Int)-1).toNat dA=Ul o:=by
 unfold Ul
 have:0<o.length:=List.length_pos_iff.2 h
 rw[show((o.length:Int)-1).toNat=o.length-1 by omega]
theorem Jum {o:List Arr} {t:Int} {e:ByteArray}:(bif (bif decide (0≤(o.length:Int)-1) then((o.getD ((o.length:Int)-1).toNat dA).1==t) else false) then((o.getD ((o.length:Int)-1).toNat dA).2.1.toList==e.toList) else false)=true↔o≠[]∧(Ul o).1=t∧(Ul o).2.1=e:=by
 by_cases h:o=[]
 ·subst h;simp
 ·have hp:0<o.length:=List.length_pos_iff.2 h
  rw[decide_eq_true (by omega:0≤(o.length:Int)-1),Jdt h]
  simp only[cond_true]
  cases h1:((Ul o).1==t) with
  |false=>simp at h1⊢;intro _ q;exact absurd q h1
  |true=>
   have h1:=eq_of_beq h1
   simp only[cond_true,beq_iff_eq]
   exact⟨fun q=>⟨h,h1,Jj1 q⟩,fun q=>by rw[q.2.2]⟩
theorem Jsg {o:List Arr} {t:Int} {e:ByteArray}:(bif (bif decide (0≤(o.length:Int)-1) then((o.getD ((o.length:Int)-1).toNat dA).1==t) else false) then((o.getD ((o.length:Int)-1).toNat dA).2.1.toList==e.toList) else false)=false↔¬(o≠[]∧(Ul o).1=t∧(Ul o).2.1=e):=by
 rw[←Jum (o:=o) (t:=t) (e:=e),Bool.not_eq_true]
theorem Fl {o:List Arr} (h:o≠[]):Ul o∈o:=by
 unfold Ul
 have:0<o.length:=List.length_pos_iff.2 h
 exact Jp (by omega)
def okR (o:List Arr) (n:Nat):Prop:=o.length≤n∧∀a∈o,-(17179869184*(n:Int))≤a.2.2∧a.2.2≤17179869184*n
theorem Jpp {m:Int} {o:List Arr} {n:Nat} (h:okR o n) {w:Stp} (hw: -17179869184≤w.2.2.2.2∧w.2.2.2.2≤17179869184):okR (Yo m o w) (n+1):=by
 obtain⟨h1,h2⟩:=h
 unfold Yo
 split
 ·exact⟨by omega,fun a ha=>by have:=h2 a ha;omega⟩
 ·split
  ·rename_i hc
   have hb:=h2 _ (Fl hc.1)
   refine⟨by simp;omega,fun a ha=> ?_⟩
   rcases List.mem_or_eq_of_mem_set ha with ha|rfl
   ·have:=h2 a ha;omega
   ·simp only;omega
  ·refine⟨by simp;omega,fun a ha=> ?_⟩
   rcases List.mem_append.1 ha with ha|ha
   ·have:=h2 a ha;omega
   ·simp only[List.mem_singleton] at ha;subst ha;simp only;omega
theorem Jjj {m:Int}:∀{l:List Stp} {o:List Arr} {n:Nat},okR o n→(∀w∈l,-17179869184≤w.2.2.2.2∧w.2.2.2.2≤17179869184)→okR (l.foldl (Yo m) o) (n+l.length)
 |[],_,_,h,_=>h
 |w::r,o,n,h,hl=>by
  have:=Jjj (m:=m) (l:=r) (Jpp (m:=m) h (hl w (by simp))) fun x hx=>hl x (by simp[hx])
  rw[show n+1+r.length=n+(w::r).length by simp only[List.length_cons];omega] at this
  exact this
theorem Jlk {c:Cab} {w:Stp} (h:wvH c w): -17179869184≤w.2.2.2.2∧w.2.2.2.2≤17179869184:=by
 obtain⟨a1,_,_,a4,a5⟩:=h
 have:=Jjb (h:=w.2.2.2.1.toNat) (by omega)
 omega
theorem Jtj {c:Cab} {l:List Stp} (h:∀w∈l,wvH c w):okR (Fh c l) l.length:=by
 have:=Jjj (m:=c.1.length) (l:=l) (o:=[]) (n:=0) ⟨Nat.le_refl _,fun p hp=>by simp at hp⟩ fun w hw=>Jlk (h w hw)
 rwa[Nat.zero_add] at this
theorem Jfi (c:Cab) (l:List Stp) (w:Stp):Fh c (l++[w])=Yo c.1.length (Fh c l) w:=by
 unfold Fh;rw[List.foldl_append];rfl
theorem Ha {c:Cab} {f:Flt} {win:Int} (h:Yj c f):(∀w∈Kg c f win,wvH c w∧w.1≤f.2.2.1+win)∧(Kg c f win).length≤4374:=
 ⟨Juw h.1 (Dc h),by have:=Jh3 (last:=f.2.2.1+win) h.1 (Dc h) (Nat.le_refl _);rw[Jdw] at this;exact this⟩
theorem Jwc {c:Cab} {f:Flt} {win:Int} (h:Yj c f):(∀w∈Uj c f win,wvH c w∧w.1≤f.2.2.1+win)∧(Uj c f win).length≤4374:=by
 have hp:(Uj c f win).Perm (Kg c f win):=Hn (Kg c f win) []
 have hw:=Ha (win:=win) h
 exact⟨fun w hm=>hw.1 w (hp.mem_iff.1 hm),by rw[hp.length_eq];exact hw.2⟩
def Jrc:Con:={args:=[aCR,aF,aI],ress:=[(false, .list 141 U6)],owns:=[],pre:=fun(c,f,win,_)=>[Jlg c f win=0],spec:=fun(c,f,win,_)=>(Fh c (Uj c f win),())}
abbrev Js1 (c:Cab) (f:Flt) (win:Int):Ann:={X:=Nat,σ:=fun k=>⟨6,[(3, .one (.ptr 2 0)),(7, .one (.sl 4)),(8, .one (.sl 5)),(9, .one (.int .i64 k))],[(0, .imm 48 sPt c.1),(1, .imm 3 sI c.2.1),(2, .box 26 [.sl 0, .sl 1, .int .i64 c.2.2.1, .int .i64 c.2.2.2]),(4, .own 141 U6 (Fh c ((Uj c f win).take k))),(5, .own 140 Jbp (Uj c f win))]⟩,inv:=fun k=>k≤(Uj c f win).length,mu:=fun k=>(Uj c f win).length-k}
def Z35 (a:Flt):=(a.1,a.2.1,E2 a.2.2)
def Z45 (a:Nat) (b:Cab) (c:Flt) (d:Int):=Bd (Nc a) (Ln (Uj b c d))
def Z47 (a:Cab) (b:Nat) (c:Flt) (d:Int):=Fh a (List.take b (Uj a c d))
def Jve (a:Cab) (b:Nat) (c:Flt) (d:Int):=Ln (Z47 a b c d)-1
def Js4 (a:Cab) (b:Flt):=Ym (Z33 a) (Z35 b)
def J0s (a:Cab) (b:Nat) (c:Flt) (d:Int):=decide (0≤Jve a b c d)
def Jyj (a:Nat) (b:Cab) (c:Flt) (d:Int) (e:Nat):=a≤List.length (Uj b c d)∧List.length (Uj b c d)-a<List.length (Uj b c d)-e
def Jyi (a:Cab) (b:Nat) (c:Flt) (d:Int):=Bd (Jve a b c d) (Ln (Z47 a b c d))
def J47 (a:Cab) (b:Flt) (c:Int) (d:Nat):=List.getD (Uj a b c) d Z72
def J45 (a:Cab) (b:Flt) (c:Int) (d:Nat):=(J47 a b c d).2
def Jz3 (a:Cab) (b:Flt) (c:Int) (d:Nat):=(J47 a b c d).1
def J42 (a:Cab) (b:Flt) (c:Int) (d:Nat):=(J45 a b c d).1
def Jz1 (a:Cab) (b:Flt) (c:Int) (d:Nat):=(J45 a b c d).2.2.2
def J4x (a:Cab) (b:Nat) (c:Flt) (d:Int):=Gt (Z47 a b c d) (Jve a b c d) Z0
def J4w (a:Cab) (b:Nat) (c:Flt) (d:Int):=(J4x a b c d).1
def J4v (a:Cab) (b:Nat) (c:Flt) (d:Int):=(J4x a b c d).2
def Jzx (a:Cab) (b:Nat) (c:Flt) (d:Int):=(J4v a b c d).1
def Jzs (a:Cab) (b:Flt) (c:Int) (d:Nat):=J42 a b c d !=0
def J3m (a:Nat) (b:Cab) (c:Flt) (d:Int):=T2 (Z45 a b c d) (T2 (Z45 a b c d) ((List.length (Z47 b a c d)+1)*32≤140737488355328))
def J3b (a:Cab) (b:Nat) (c:Flt) (d:Int):=(J4v a b c d).2+Jz1 a c d b
def J28 (a:Nat) (b:Cab) (c:Flt) (d:Int):=T2 (Z45 a b c d) (Tw (Jzs b c d a=true→Z45 a b c d))
def Jzh (a:Cab) (b:Nat) (c:Flt) (d:Int):=bif J0s a b c d then J4w a b c d==Jz3 a c d b else false
def J24 (a:Nat) (b:Cab) (c:Flt) (d:Int):=Z2 a∧∃(y:Nat),(Z29 a y∧b.1=b.1∧b.2.1=b.2.1∧Si b.2.2.1 (Si b.2.2.2 (Z47 b a c d=Z47 b y c d∧Uj b c d=Uj b c d)))∧Jyj y b c d a
def J20 (a:Cab) (b:Flt) (c:Int) (d:Nat):=bif Jzs a b c d then J42 a b c d !=Z1 a else false
def J2j (a:Cab) (b:Nat) (c:Flt) (d:Int):=T2 (J0s a b c d=true→Jyi a b c d) (T2 (J0s a b c d=true→Z45 b a c d) (Tw (Jzh a b c d=true→Jyi a b c d)))
def J2a (a:Cab) (b:Nat) (c:Flt) (d:Int):=T2 (Jyi a b c d) (T2 (Z45 b a c d) (Iw (J3b a b c d)∧Tw (Jyi a b c d)))∧Z2 b∧∃(y:Nat),(Z29 b y∧a.1=a.1∧a.2.1=a.2.1∧Si a.2.2.1 (Si a.2.2.2 (List.set (Z47 a b c d) (Int.toNat (Jve a b c d)) (J4w a b c d,Jzx a b c d,J3b a b c d)=Z47 a y c d∧Uj a c d=Uj a c d)))∧Jyj y a c d b
theorem J7l [Sx.Dr] (c:Cab) (f:Flt) (win:Int):wpF Tryz.prog W46.g (Yl (Js1 c f win)) Tryz.f49 Jrc (c,f,win,()):=by
 refine(by kernel_rfl:(Jlg c f win=0→(Js4 c f=0∧Z31 win)∧∃(x:Nat),(0=Nc x∧c.1=c.1∧c.2.1=c.2.1∧Si c.2.2.1 (Si c.2.2.2 (List.length (Z47 c x f win)=0∧Uj (Z33 c) (Z35 f) win=Uj c f win)))∧x≤List.length (Uj c f win)∧∀(x:Nat),x≤List.length (Uj c f win)→Br (decide (Nc x<Ln (Uj c f win))) (Tw (Z45 x c f win)∧Br (Jzs c f win x) (J28 x c f win∧Br (J20 c f win x) (J24 x c f win) (Iw (Jve c x f win)∧J2j c x f win∧Br (bif Jzh c x f win then Lb (Jzx c x f win) Z50 else false) (J2a c x f win) (J3m x c f win∧Z2 x∧∃(y:Nat),(Z29 x y∧c.1=c.1∧c.2.1=c.2.1∧Si c.2.2.1 (Si c.2.2.2 (Z47 c x f win++(Jz3 c f win x,Z50,Jz1 c f win x)::Z46=Z47 c y f win∧Uj c f win=Uj c f win)))∧Jyj y c f win x))) (J28 x c f win∧Br (J20 c f win x) (J24 x c f win) (Iw (Jve c x f win)∧J2j c x f win∧Br (bif Jzh c x f win then Lb (Jzx c x f win) Z49 else false) (J2a c x f win) (J3m x c f win∧Z2 x∧∃(y:Nat),(Z29 x y∧c.1=c.1∧c.2.1=c.2.1∧Si c.2.2.1 (Si c.2.2.2 (Z47 c x f win++(Jz3 c f win x,Z49,Jz1 c f win x)::Z46=Z47 c y f win∧Uj c f win=Uj c f win)))∧Jyj y c f win x)))) (Z47 c x f win=Fh c (Uj c f win)))=_).mp ?_
 delta Z0 Z1 Z2 Z29 Z31 Z33 Z35 Z45 Z46 Z47 Z49 Z50 Z72 Jve Js4 J0s Jyj Jyi J47 J45 Jz3 J42 Jz1 J4x J4w J4v Jzx Jzs J3m J3b J28 Jzh J24 J20 J2j J2a Br Iw Bd T2 Tw Si Ln Nc Gt B0 Lb E2
 intro h1
 obtain⟨ef,hw⟩:=Jlp h1
 obtain⟨hc,hfv⟩:=Lk ef
 obtain⟨hH,hL⟩:=Jwc (win:=win) hfv
 refine⟨⟨ef,hw⟩,(0:Nat),⟨rfl,rfl,rfl,rfl,rfl,rfl,rfl⟩,Nat.zero_le _,fun(k:Nat) hk=>⟨fun e=> ?_,fun e=> ?_⟩⟩
 ·have hlt:k<(Uj c f win).length:=by simpa using e
  have hs:Fh c ((Uj c f win).take (k+1))=Yo c.1.length (Fh c ((Uj c f win).take k)) ((Uj c f win).getD k (0,0,false,0,0)):=by
   rw[←Kn (d:=(0,0,false,0,0)) hlt,Jfi]
  have ho:=Jtj (c:=c) (l:=(Uj c f win).take k) fun w hw=>(hH w (List.mem_of_mem_take hw)).1
  have hww:=Jlk (hH _ (Jp (d:=(0,0,false,0,0)) hlt)).1
  have hkl:((Uj c f win).take k).length≤4374:=by simp;omega
  generalize((Uj c f win).take k).length=n at ho hkl
  generalize Fh c ((Uj c f win).take k)=o at*
  generalize(Uj c f win).getD k (0,0,false,0,0)=w at*
  obtain⟨o1,o2⟩:=ho
  have kk:(0≤(k:Int)∧(k:Int)<(Uj c f win).length):=by omega
  have nx:∀o',Yo c.1.length o w=o'→∃y:Nat,((k:Int)+1=y∧c.1=c.1∧c.2.1=c.2.1∧c.2.2.1=c.2.2.1∧c.2.2.2=c.2.2.2∧o'=Fh c ((Uj c f win).take y)∧Uj c f win=Uj c f win)∧y≤(Uj c f win).length∧(Uj c f win).length-y<(Uj c f win).length-k:=fun o' ho'=>
   ⟨k+1,⟨by simp,rfl,rfl,rfl,rfl,by rw[hs,ho'],rfl⟩,by omega,by omega⟩
  have lo:o≠[]→0≤(o.length:Int)-1∧(o.length:Int)-1<o.length:=fun h=>by
   have:0<o.length:=List.length_pos_iff.2 h
   omega
  have ld:decide (0≤(o.length:Int)-1)=true→0≤(o.length:Int)-1∧(o.length:Int)-1<o.length:=fun h=>by
   have:=of_decide_eq_true h;omega
  have lb:∀b:Bool,(bif decide (0≤(o.length:Int)-1) then b else false)=true→0≤(o.length:Int)-1∧(o.length:Int)-1<o.length:=fun b h=>by
   cases hd:decide (0≤(o.length:Int)-1) with
   |false=>rw[hd] at h;cases h
   |true=>exact ld hd
  have hb:∀h:o≠[],-9223372036854775808≤(o.getD ((o.length:Int)-1).toNat dA).2.2+w.2.2.2.2∧(o.getD ((o.length:Int)-1).toNat dA).2.2+w.2.2.2.2≤9223372036854775807:=fun h=>by
   rw[Jdt h]
   have:=o2 _ (Fl h);omega
  have body:∀e:ByteArray,Hs w=e→¬(w.2.1≠0∧w.2.1≠c.1.length)→_:=fun e he hn=>And.intro
   (fun h:o≠[]∧(Ul o).1=w.1∧(Ul o).2.1=e=>(show Yo c.1.length o w=o.set ((o.length:Int)-1).toNat ((o.getD ((o.length:Int)-1).toNat dA).1,(o.getD ((o.length:Int)-1).toNat dA).2.1,(o.getD ((o.length:Int)-1).toNat dA).2.2+w.2.2.2.2) by
    unfold Yo
    have:0<o.length:=List.length_pos_iff.2 h.1
    rw[if_neg hn,he,if_pos h,Jdt h.1,h.2.1,h.2.2,show((o.length:Int)-1).toNat=o.length-1 by omega]))
   (fun h:¬(o≠[]∧(Ul o).1=w.1∧(Ul o).2.1=e)=>(show Yo c.1.length o w=o++[(w.1,e,w.2.2.2.2)] by
    unfold Yo
    rw[if_neg hn,he,if_neg h]))
  refine⟨⟨kk,kk⟩,fun e0=>⟨⟨kk,kk,fun _=>kk,fun _=>kk⟩,fun e1=> ?_,fun e1=> ?_⟩,fun e0=>⟨⟨kk,kk,fun _=>kk,fun _=>kk⟩,fun e1=> ?_,fun e1=> ?_⟩⟩
  ·have e0:w.2.1≠0:=bne_iff_ne.1 e0
   rw[bne_iff_ne.2 e0] at e1
   have e1:w.2.1≠c.1.length:=bne_iff_ne.1 e1
   exact⟨by omega,nx o (by unfold Yo;rw[if_pos ⟨e0,e1⟩])⟩
  ·have e0:w.2.1≠0:=bne_iff_ne.1 e0
   rw[bne_iff_ne.2 e0] at e1
   have e1:w.2.1=c.1.length:=bne_eq_false_iff_eq.1 e1
   have hB:=body sB (by unfold Hs;rw[if_neg e0]) (fun q=>q.2 e1)
   refine⟨by omega,⟨ld,ld,fun _=>kk,fun _=>kk,lb _,lb _⟩,fun h=> ?_,fun h=> ?_⟩
   ·have h:=Jum.1 h
    exact⟨⟨lo h.1,lo h.1,kk,kk,hb h.1,lo h.1,lo h.1⟩,by omega,nx _ (hB.1 h)⟩
   ·have h:=Jsg.1 h
    exact⟨⟨kk,kk,kk,kk,by omega⟩,by omega,nx _ (hB.2 h)⟩
  ·have e0:w.2.1=0:=bne_eq_false_iff_eq.1 e0
   rw[bne_eq_false_iff_eq.2 e0] at e1
   cases e1
  ·have e0:w.2.1=0:=bne_eq_false_iff_eq.1 e0
   have hB:=body sA (by unfold Hs;rw[if_pos e0]) (fun q=>q.1 e0)
   refine⟨by omega,⟨ld,ld,fun _=>kk,fun _=>kk,lb _,lb _⟩,fun h=> ?_,fun h=> ?_⟩
   ·have h:=Jum.1 h
    exact⟨⟨lo h.1,lo h.1,kk,kk,hb h.1,lo h.1,lo h.1⟩,by omega,nx _ (hB.1 h)⟩
   ·have h:=Jsg.1 h
    exact⟨⟨kk,kk,kk,kk,by omega⟩,by omega,nx _ (hB.2 h)⟩
 ·have hge:¬k<(Uj c f win).length:=by simpa using e
  rw[List.take_of_length_le (by omega)]
theorem J1f [Sx.Dr]:Ok Tryz.prog 49 Jrc:=Jn mixed W46.ok (by kernel_rfl) (by kernel_rfl) (fun xx=>Yl (Js1 xx.1 xx.2.1 xx.2.2.1)) fun xx=>J7l xx.1 xx.2.1 xx.2.2.1
abbrev W47 [Sx.Dr]:=W46.add J1f
def Vj (c:Cab):Bool:=decide (c.1.length≤7)&&decide (c.2.1.length≤8)
def Jsk:Con:={args:=[aCR],ress:=[Bo],owns:=[],pre:=fun _=>[],spec:=fun(c,_)=>(Vj c,())}
theorem J7w [Sx.Dr] (c:Cab):wpF Tryz.prog W47.g (na ()) Tryz.f17 Jsk (c,()):=by
 refine(by kernel_rfl:((bif decide (Z1 c≤7) then decide (Ln c.2.1≤8) else false)=Vj c)=_).mp ?_
 delta Z1 Ln
 unfold Vj
 rw[show decide (c.1.length≤7)=decide ((c.1.length:Int)≤7) from decide_eq_decide.2 (by omega),show decide (c.2.1.length≤8)=decide ((c.2.1.length:Int)≤8) from decide_eq_decide.2 (by omega)]
 cases decide ((c.1.length:Int)≤7)<;>rfl
theorem J9u [Sx.Dr]:Ok Tryz.prog 17 Jsk:=Jn mixed W47.ok (by kernel_rfl) (by kernel_rfl) na fun xx=>J7w xx.1
abbrev W48 [Sx.Dr]:=W47.add J9u
def J62:Con:={args:=[aCR],ress:=[(true,J1a 59)],owns:=[],pre:=fun(c,_)=>[c.1.length≤1000000,c.2.1.length≤1000000],spec:=fun(c,_)=>(c,())}
abbrev zC:List SC:=[.val (.slice none 0 0), .val (.slice none 0 0), .int .i64 0, .int .i64 0]
abbrev Jsx (T U A B:TypeId) (c:Cab):Ann:={X:=Nat,σ:=fun k=>⟨8,[(2, .one (.ptr 3 0)),(3, .one (.ptr 6 0)),(14, .one (.sl 0)),(15, .one (.int .i64 c.1.length)),(16, .one (.int .i64 k))],[(0, .imm T sPt c.1),(3, .box B zC),(5, .own 3 sI c.2.1),(6, .box B [.sl 7, .sl 5, .int .i64 c.2.2.1, .int .i64 c.2.2.2]),(7, .own U sPt (c.1.take k))]⟩,inv:=fun k=>k≤c.1.length,mu:=fun k=>c.1.length-k}
abbrev Ju0 (T:TypeId) (s:Sch) (a b:List s.T) (J:Nat→Prop):Ann:={X:=Nat,σ:=fun k=>⟨2,[(0, .one (.sl 0)),(1, .one (.sl 1)),(5, .one (.int .i64 k))],[(0, .imm T s a),(1, .imm T s b)]⟩,inv:=fun k=>k≤a.length∧a.length=b.length∧J k,mu:=fun k=>a.length-k}
def feq (x y:Nat):Bool:=FloatKind.f32.format.order x y==some .eq
def He:List Nat→List Nat→Bool
 |[],[]=>true
 |x::a,y::b=>feq x y&&He a b
 |_,_=>false
abbrev sFl:Sch:= .flt .f32
theorem Jfa:∀{a b:List Nat},He a b=true→a.length=b.length
 |[],[],_=>rfl
 |[],_::_,h=>by cases h
 |_::_,[],h=>by cases h
 |x::a,y::b,h=>by
  simp only[He,Bool.and_eq_true] at h
  simp only[List.length_cons,Jfa h.2]
def Jmc (a b:List Nat) (k:Nat):Prop:=He a b=He (a.drop k) (b.drop k)
def Jxf:Con:={args:=[.val false (.list 45 sFl), .val false (.list 45 sFl)],ress:=[Bo],owns:=[],pre:=fun(a,b,_)=>[a.length≤1000000],spec:=fun(a,b,_)=>(He a b,())}
def Z3 (a:List Nat) (b:Nat):=List.getD a b 0
def Z10 (a:List Nat):=List.length a≤1000000
def Z71 (a:List Nat) (b c:Nat):=List.length a-b<List.length a-c
def J0t (a:Nat) (b c:List Nat):=a≤List.length b∧List.length b=List.length c∧Jmc b c a
theorem J9v [Sx.Dr]:Ok Tryz.prog 16 Jxf:=okW W48 Tryz.f16 (fun xx=>Yl (Ju0 45 sFl xx.1 xx.2.1 (Jmc xx.1 xx.2.1))) fun xx=>by
 obtain⟨(a:List Nat),(b:List Nat),_⟩:=xx
 refine(by kernel_rfl:(Z10 a→Br (Ln a !=Ln b) (false=He a b) (∃(x:Nat),(0=Nc x∧Sf a (b=b))∧J0t x a b∧∀(x:Nat),J0t x a b→Br (decide (Nc x<Ln a)) (T2 (Bd (Nc x) (Ln a)) (Tw (Bd (Nc x) (Ln b)))∧Br (Ieee.Format.order (Ieee.Format.mk 8 23) (Z3 a x) (Z3 b x) !=some Ordering.eq) (false=He a b) (Z2 x∧∃(y:Nat),(Z29 x y∧Sf a (b=b))∧J0t y a b∧Z71 a y x)) (true=He a b)))=_).mp ?_
 delta Z2 Z3 Z10 Z29 Z71 J0t Br Iw Bd T2 Tw Sf Ln Nc
 intro hb
 refine⟨fun h=> ?_,fun h=> ?_⟩
 ·cases e:He a b with
  |false=>rfl
  |true=>have:=Jfa e;rw[this] at h;simp at h
 ·have hlen:a.length=b.length:=by
   have:(a.length:Int)=b.length:=by simpa using h
   omega
  refine⟨(0:Nat),⟨rfl,rfl,rfl⟩,⟨Nat.zero_le _,hlen,rfl⟩,fun(k:Nat) hk=>⟨fun h=> ?_,fun h=> ?_⟩⟩
  ·have hlt:k<a.length:=by simpa using h
   have hj:He a b=(feq (a.getD k 0) (b.getD k 0)&&He (a.drop (k+1)) (b.drop (k+1))):=by
    have:=hk.2.2
    unfold Jmc at this
    rw[this,V8 (d:=0) hlt,V8 (l:=b) (k:=k) (d:=0) (by omega)]
    rfl
   refine⟨⟨by omega,by omega,by omega,by omega⟩,fun h1=> ?_,fun h1=>⟨by omega,(k+1:Nat),⟨by simp,rfl,rfl⟩,⟨by omega,hlen, ?_⟩,by omega⟩⟩
   ·have h1:feq (a.getD k 0) (b.getD k 0)=false:=by
     unfold feq
     have h1:=bne_iff_ne.1 h1
     rw[beq_eq_false_iff_ne];exact h1
    rw[hj,h1];rfl
   ·have h1:feq (a.getD k 0) (b.getD k 0)=true:=by
     unfold feq
     have h1:=bne_eq_false_iff_eq.1 h1
     rw[beq_iff_eq];exact h1
    unfold Jmc
    rw[hj,h1];rfl
  ·have hlt:¬k<a.length:=by simpa using h
   have h2:=hk.2.2
   unfold Jmc at h2
   rw[h2,List.drop_of_length_le (by omega),List.drop_of_length_le (by omega)]
   rfl
abbrev W49 [Sx.Dr]:=W48.add J9v
def largeS (n:Int):Bool:=decide (16384<n)||decide (n< -16384)
def Jxn:Con:={args:=[aI],ress:=[Bo],owns:=[],pre:=fun _=>[],spec:=fun(n,_)=>(largeS n,())}
theorem J83 [Sx.Dr]:Ok Tryz.prog 51 Jxn:=okW W49 Tryz.f51 na fun xx=>by
 obtain⟨(n:Int),_⟩:=xx
 refine(by kernel_rfl:((bif decide (16384<n) then true else decide (n<(-16384)))=largeS n)=_).mp ?_
 unfold largeS
 cases decide (16384<n)<;>rfl
abbrev W50 [Sx.Dr]:=W49.add J83
open Ieee in
theorem Fz (neg:Bool) {rung:Nat} (h:rung≤single.infRung):∀s t,single.read (single.word neg rung)≠ .nan s t:=by
 have e1:single.infRung=2139095040:=by decide
 have e2:single.signWeight=2147483648:=by decide
 have e3:single.binade=8388608:=by decide
 have e4:single.word neg rung %single.signWeight=rung:=by
  unfold Format.word
  rw[e2]
  rw[e1] at h
  cases neg
  ·rw[if_neg (by decide)];omega
  ·rw[if_pos rfl];omega
 intro s t
 unfold Format.read
 simp only[e4]
 rw[e1,e3]
 rw[e1] at h
 by_cases h1:rung<8388608
 ·rw[if_pos h1];exact fun q=>by cases q
 ·rw[if_neg h1]
  by_cases h2:rung<2139095040
  ·rw[if_pos h2];exact fun q=>by cases q
  ·rw[if_neg h2,if_pos (by omega)];exact fun q=>by cases q
open Ieee in
theorem Jfk (neg:Bool) (mag:Nat) (place:Int):∀s t,single.read (single.nearest neg mag place)≠ .nan s t:=by
 unfold Format.nearest
 split
 ·exact Fz neg (Nat.zero_le _)
 ·exact Fz neg (Nat.min_le_right _ _)
open Ieee in
theorem Jkr {d:Datum} (h:∀s t,d≠ .nan s t):d.order d=some .eq:=by
 cases d with
 |nan s t=>exact absurd rfl (h s t)
 |infinity s=>simp[Datum.order]
 |number s m i=>simp[Datum.order]
open Ieee in
theorem Jmr {d:Datum} (h:∀s t,d≠ .nan s t) (n:Nat) (s:Bool) (m:Nat) (i:Int) (hm:m≠0):∃e,d.quotient n (.number s m i)=some e∧∀s t,e≠ .nan s t:=by
 cases d with
 |nan s t=>exact absurd rfl (h s t)
 |infinity s=>exact⟨_,rfl,fun _ _ q=>by cases q⟩
 |number s m i=>
  simp only[Datum.quotient]
  rw[if_neg hm]
  exact⟨_,rfl,fun _ _ q=>by cases q⟩
def Yc (n:Int):Nat:=(FloatKind.f32.format.div (FloatKind.f32.nearest n) 1098907648).getD 0
open Ieee in
theorem Jc3 (n:Int):(FloatKind.f32.format.div (FloatKind.f32.nearest n) 1098907648).isSome=true∧feq (Yc n) (Yc n)=true:=by
 have e16:single.read 1098907648= .number false 8388608 (-19):=by kernel_rfl
 have h:=Jfk (decide (n<0)) n.natAbs 0
 obtain⟨e,he,hn⟩:=Jmr h 25 false 8388608 (-19) (by decide)
 have hd:FloatKind.f32.format.div (FloatKind.f32.nearest n) 1098907648=some (single.write e):=by
  show((single.read (single.nearest (decide (n<0)) n.natAbs 0)).quotient (single.fractionBits+2) (single.read 1098907648)).map single.write=_
  rw[e16]
  have:single.fractionBits+2=25:=rfl
  rw[this,he];rfl
 refine⟨by rw[hd];rfl, ?_⟩
 have hs:Yc n=single.write e:=by unfold Yc;rw[hd];rfl
 unfold feq
 rw[beq_iff_eq,hs]
 refine Jkr ?_
 cases e with
 |nan s t=>exact absurd rfl (hn s t)
 |infinity s=>exact Fz s (Nat.le_refl _)
 |number s m i=>exact Jfk s m i
def J98:Con:={args:=[aI],ress:=[(false,sFl)],owns:=[],pre:=fun _=>[],spec:=fun(n,_)=>(Yc n,())}
theorem J82 [Sx.Dr]:Ok Tryz.prog 52 J98:=okW W50 Tryz.f52 na fun xx=>by
 obtain⟨(n:Int),_⟩:=xx
 refine(by kernel_rfl:(Option.isSome (Ieee.Format.div (Ieee.Format.mk 8 23) (FloatKind.nearest FloatKind.f32 n) 1098907648)=true∧Option.getD (Ieee.Format.div (Ieee.Format.mk 8 23) (FloatKind.nearest FloatKind.f32 n) 1098907648) 0=Yc n)=_).mp ?_
 exact⟨(Jc3 n).1,rfl⟩
abbrev W51 [Sx.Dr]:=W50.add J82
def Jf0 (e:ByteArray) (a:Arr):Bool:=a.2.1.toList==e.toList
def Jk9 (e:ByteArray) (l:List Arr):Option Arr:=l.find? (Jf0 e)
def isA (e:ByteArray):Bool:=e.toList==sA.toList
def isB (e:ByteArray):Bool:=e.toList==sB.toList
theorem Jdk (e:ByteArray) (h:isB e=true):isA e=false:=by
 have h:e.toList=sB.toList:=eq_of_beq h
 unfold isA;rw[h,Lib.toList_data,Lib.toList_data];rfl
def Vo (e:ByteArray) (s:Int) (i:Nat) (r:Int) (p:Int×Int):Int×Int:=
 bif (bif isB e then decide (s≤(i:Int)) else false) then(p.1*(8+r),p.2*8) else bif (bif isA e then decide ((i:Int)<s) else false) then(p.1*(8-r),p.2*8) else p
def Uw (e:ByteArray) (s:Int):Nat→List Int→Int×Int→Int×Int
 |_,[],p=>p
 |i,r::l,p=>Uw e s (i+1) l (Vo e s i r p)
def Jw (c:Cab) (s:Int) (e:ByteArray):Int×Int:=Uw e s 0 c.2.1 (1,1)
theorem Jq2 {e:ByteArray} {s:Int} {l:List Int} {k:Nat} {p:Int×Int} (h:k<l.length):Uw e s k (l.drop k) p=Uw e s (k+1) (l.drop (k+1)) (Vo e s k (l.getD k 0) p):=by
 rw[V8 (d:=(0:Int)) h];rfl
def D8 (k:Nat) (p:Int×Int):Prop:=(0≤p.1∧p.1≤16^k)∧∃j,j≤k∧p.2=8^j
theorem Di {k i:Nat} {e:ByteArray} {s r:Int} {p:Int×Int} (h:D8 k p) (hr: -8≤r∧r≤8):D8 (k+1) (Vo e s i r p):=by
 obtain⟨⟨h1,h2⟩,j,hj,h3⟩:=h
 have hp:(16:Int)^(k+1)=16^k*16:=Int.pow_succ ..
 have h0:(0:Int)≤16^k:=Int.le_trans h1 h2
 have key:∀q:Int,0≤q∧q≤16→D8 (k+1) (p.1*q,p.2*8):=fun q hq=>by
  refine⟨⟨Int.mul_nonneg h1 hq.1, ?_⟩,j+1,by omega, ?_⟩
  ·rw[hp];exact Int.mul_le_mul h2 hq.2 hq.1 h0
  ·show p.2*8=_
   rw[h3,Int.pow_succ]
 unfold Vo
 cases(bif isB e then decide (s≤(i:Int)) else false) with
 |true=>exact key (8+r) (by omega)
 | false =>
  cases(bif isA e then decide ((i:Int)<s) else false) with
  |true=>exact key (8-r) (by omega)
  |false=>
   refine⟨⟨h1, ?_⟩,j,by omega,h3⟩
   show p.1≤_
   rw[hp];omega
theorem J1c {k:Nat} (h:k≤5):(16:Int)^k≤1048576:=by
 have:∀j,j<6→(16:Int)^j≤1048576:=by decide
 exact this k (by omega)
theorem J75 {k:Nat} (h:k≤5):1≤(8:Int)^k∧(8:Int)^k≤32768:=by
 have:∀j,j<6→1≤(8:Int)^j∧(8:Int)^j≤32768:=by decide
 exact this k (by omega)
theorem Jjo {k:Nat} {p:Int×Int} (h:D8 k p) (hk:k≤5):(0≤p.1∧p.1≤1048576)∧1≤p.2∧p.2≤32768:=by
 obtain⟨⟨h1,h2⟩,j,hj,h3⟩:=h
 have:=J1c hk
 have:=J75 (k:=j) (by omega)
 rw[h3];omega
def Jxq:Con:={args:=[aC,aI,aS],ress:=[I,I],owns:=[],pre:=fun(c,s,_)=>[Uk c=0,-1000≤s∧s≤1000],spec:=fun(c,s,e,_)=>((Jw c s e).1,(Jw c s e).2,())}
abbrev Jov (c:Cab) (s:Int) (e:ByteArray):Ann:={X:=Nat×Int×Int,σ:=fun p=>⟨3,[(1, .one (.int .i64 s)),(2, .one (.str e)),(8, .one (.int .i64 p.2.1)),(9, .one (.int .i64 p.2.2)),(13, .one (.sl 1)),(14, .one (.int .i64 c.2.1.length)),(15, .one (.int .i64 p.1))],[(1, .imm 3 sI c.2.1)]⟩,inv:=fun p=>p.1≤c.2.1.length∧D8 p.1 p.2∧Jw c s e=Uw e s p.1 (c.2.1.drop p.1) p.2,mu:=fun p=>c.2.1.length-p.1}
def Z25 (a:Cab) (b:Nat×Int×Int):=List.getD a.2.1 b.1 0
def J5t (a b:Nat×Int×Int) (c:Cab):=a.2.2*8=b.2.2∧Si (Ln c.2.1) (Nc a.1+1=Nc b.1∧c.2.1=c.2.1)
def J0b (a:Nat×Int×Int) (b:Cab) (c:Int) (d:Bt):=a.1≤List.length b.2.1∧D8 a.1 a.2∧Jw b c d=Uw d c a.1 (List.drop a.1 b.2.1) a.2
def Jzt (a:Nat×Int×Int) (b:Cab) (c:Int) (d:Bt) (e:Nat×Int×Int):=J0b a b c d∧List.length b.2.1-a.1<List.length b.2.1-e.1
theorem J7s [Sx.Dr] (c:Cab) (s:Int) (e:ByteArray):wpF Tryz.prog W51.g (Yl (Jov c s e)) Tryz.f24 Jxq (c,s,e,()):=by
 refine(by kernel_rfl:(Uk c=0→Z17≤s∧s≤1000→∃(x:Nat×Int×Int),Si s (Sf e (1=x.2.1∧1=x.2.2∧Si (Ln c.2.1) (0=Nc x.1∧c.2.1=c.2.1)))∧J0b x c s e∧∀(x:Nat×Int×Int),J0b x c s e→Br (decide (Nc x.1<Ln c.2.1)) (Tw (Bd (Nc x.1) (Ln c.2.1))∧Br (bif Z64 e then decide (s≤Nc x.1) else false) ((Iw (8+Z25 c x)∧Iw (x.2.1*(8+Z25 c x))∧Iw (x.2.2*8))∧Iw (Nc x.1+1)∧∃(y:Nat×Int×Int),Si s (Sf e (x.2.1*(8+Z25 c x)=y.2.1∧J5t x y c))∧Jzt y c s e x) (Br (bif Z65 e then decide (Nc x.1<s) else false) ((Iw (8-Z25 c x)∧Iw (x.2.1*(8-Z25 c x))∧Iw (x.2.2*8))∧Iw (Nc x.1+1)∧∃(y:Nat×Int×Int),Si s (Sf e (x.2.1*(8-Z25 c x)=y.2.1∧J5t x y c))∧Jzt y c s e x) (Iw (Nc x.1+1)∧∃(y:Nat×Int×Int),Si s (Sf e (x.2.1=y.2.1∧x.2.2=y.2.2∧Si (Ln c.2.1) (Nc x.1+1=Nc y.1∧c.2.1=c.2.1)))∧Jzt y c s e x))) (x.2.1=(Jw c s e).1∧x.2.2=(Jw c s e).2))=_).mp ?_
 delta Z17 Z25 Z49 Z50 Z64 Z65 J5t J0b Jzt Br Iw Bd Tw Sf Si Ln Nc Lb
 intro h hs
 have hv:Y7 c:=Xl h
 obtain⟨v1,v2,v3,v4,v5,_⟩:=id hv
 refine⟨((0:Nat),(1:Int),(1:Int)),⟨rfl,rfl,rfl,rfl,rfl,rfl,rfl⟩,⟨Nat.zero_le _,⟨⟨by decide,by decide⟩,0,Nat.le_refl _,rfl⟩,rfl⟩,fun p hp=> ?_⟩
 obtain⟨k,n,d⟩:=p
 obtain⟨i1,i2,i3⟩:=hp
 replace i1:k≤c.2.1.length:=i1
 replace i2:D8 k (n,d):=i2
 replace i3:Jw c s e=Uw e s k (c.2.1.drop k) (n,d):=i3
 refine⟨fun e1=> ?_,fun e1=> ?_⟩
 ·have hlt:k<c.2.1.length:=by
   have e1:(k:Int)<c.2.1.length:=of_decide_eq_true e1
   omega
  have hr:=v5 _ (Jp (d:=(0:Int)) hlt)
  have hd:=Jq2 (e:=e) (s:=s) (p:=(n,d)) hlt
  have ho:=Di (i:=k) (e:=e) (s:=s) i2 hr
  have hb:=Jjo ho (by omega)
  rw[hd] at i3
  have kk:0≤(k:Int)∧(k:Int)<c.2.1.length:=by omega
  have kb: -9223372036854775808≤(k:Int)+1∧(k:Int)+1≤9223372036854775807:=by omega
  dsimp only
  refine⟨⟨kk,kk⟩,fun c1=> ?_,fun c1=>⟨fun c2=> ?_,fun c2=> ?_⟩⟩
  ·have c1:(bif isB e then decide (s≤(k:Int)) else false)=true:=c1
   have es:Vo e s k (c.2.1.getD k 0) (n,d)=(n*(8+c.2.1.getD k 0),d*8):=by unfold Vo;rw[c1];rfl
   rw[es] at ho hb i3
   dsimp only at hb
   exact⟨⟨by omega,⟨by omega,by omega⟩,by omega,by omega⟩,kb,(k+1,n*(8+c.2.1.getD k 0),d*8),⟨rfl,rfl,rfl,rfl,rfl,by simp,rfl⟩,⟨hlt,ho,i3⟩,by show c.2.1.length-(k+1)<c.2.1.length-k;omega⟩
  ·have c1:(bif isB e then decide (s≤(k:Int)) else false)=false:=c1
   have c2:(bif isA e then decide ((k:Int)<s) else false)=true:=c2
   have es:Vo e s k (c.2.1.getD k 0) (n,d)=(n*(8-c.2.1.getD k 0),d*8):=by unfold Vo;rw[c1,c2];rfl
   rw[es] at ho hb i3
   dsimp only at hb
   exact⟨⟨by omega,⟨by omega,by omega⟩,by omega,by omega⟩,kb,(k+1,n*(8-c.2.1.getD k 0),d*8),⟨rfl,rfl,rfl,rfl,rfl,by simp,rfl⟩,⟨hlt,ho,i3⟩,by show c.2.1.length-(k+1)<c.2.1.length-k;omega⟩
  ·have c1:(bif isB e then decide (s≤(k:Int)) else false)=false:=c1
   have c2:(bif isA e then decide ((k:Int)<s) else false)=false:=c2
   have es:Vo e s k (c.2.1.getD k 0) (n,d)=(n,d):=by unfold Vo;rw[c1,c2];rfl
   rw[es] at ho i3
   exact⟨kb,(k+1,n,d),⟨rfl,rfl,rfl,rfl,rfl,by simp,rfl⟩,⟨hlt,ho,i3⟩,by show c.2.1.length-(k+1)<c.2.1.length-k;omega⟩
 ·have hge:¬k<c.2.1.length:=by
   have e1:¬(k:Int)<c.2.1.length:=of_decide_eq_false e1
   omega
  rw[i3,List.drop_of_length_le (by omega)]
  exact⟨rfl,rfl⟩
theorem J9n [Sx.Dr]:Ok Tryz.prog 24 Jxq:=Jn mixed W51.ok (by kernel_rfl) (by kernel_rfl) (fun xx=>Yl (Jov xx.1 xx.2.1 xx.2.2.1)) fun xx=>J7s xx.1 xx.2.1 xx.2.2.1
abbrev W52 [Sx.Dr]:=W51.add J9n
theorem Jjp {e:ByteArray} {s:Int}:∀{l:List Int} {i k:Nat} {p:Int×Int},D8 k p→(∀r∈l,-8≤r∧r≤8)→D8 (k+l.length) (Uw e s i l p)
 |[],_,_,_,h,_=>h
 |r::l,i,k,p,h,hl=>by
  have:=Jjp (e:=e) (s:=s) (l:=l) (i:=i+1) (Di (i:=i) (e:=e) (s:=s) h (hl r (by simp))) fun x hx=>hl x (by simp[hx])
  rw[show k+1+l.length=k+(r::l).length by simp only[List.length_cons];omega] at this
  exact this
theorem Jd4 {c:Cab} {s:Int} {e:ByteArray} (hv:Y7 c):D8 c.2.1.length (Jw c s e):=by
 have:=Jjp (e:=e) (s:=s) (l:=c.2.1) (i:=0) (k:=0) (p:=(1,1)) ⟨⟨by decide,by decide⟩,0,Nat.le_refl _,rfl⟩ hv.2.2.2.2.1
 rwa[Nat.zero_add] at this
theorem Jjn {c:Cab} {s:Int} {e:ByteArray} (hv:Y7 c):(0≤(Jw c s e).1∧(Jw c s e).1≤1048576)∧1≤(Jw c s e).2∧(Jw c s e).2≤32768:=
 Jjo (Jd4 hv) (by have:=hv.2.1;have:=hv.2.2.2.1;omega)
def Ya (q:Nat→Bool):Nat→List (Int×Int)→Int→Int
 |_,[],a=>a
 |i,x::r,a=>Ya q (i+1) r (bif q i then a+x.2 else a)
theorem Je9 (q:Nat→Bool) (x:Int×Int):∀(l:List (Int×Int)) (i:Nat) (a:Int),Ya q i (l++[x]) a=bif q (i+l.length) then Ya q i l a+x.2 else Ya q i l a
 |[],i,a=>by simp[Ya]
 |y::r,i,a=>by
  simp only[List.cons_append,Ya,List.length_cons]
  rw[Je9 q x r,show i+1+r.length=i+(r.length+1) by omega]
theorem H0 (q:Nat→Bool):∀(l:List (Int×Int)) (i:Nat) (a b:Int),Ya q i l (a+b)=Ya q i l a+b
 |[],_,_,_=>rfl
 | x :: r, i, a, b => by
  simp only[Ya]
  cases q i
  ·simp only[cond_false];exact H0 q r (i+1) a b
  ·simp only[cond_true]
   rw[show a+b+x.2=(a+x.2)+b by omega];exact H0 q r (i+1) _ b
theorem Yq {q q':Nat→Bool} (h:∀i,q i=q' i) (l:List (Int×Int)) (i:Nat) (a:Int):Ya q i l a=Ya q' i l a:=by
 rw[show q=q' from funext h]
theorem Jmb {q:Nat→Bool}:∀{l:List (Int×Int)} {i:Nat} {a:Int},(∀x∈l,1≤x.1∧x.1≤100000∧1≤x.2∧x.2≤64)→a≤Ya q i l a∧Ya q i l a≤a+64*l.length
 |[],_,_,_=>by simp[Ya]
 |x::r,i,a,h=>by
  have hx:=h x (by simp)
  have ih:=Jmb (q:=q) (l:=r) (i:=i+1) (a:=bif q i then a+x.2 else a) fun y hy=>h y (by simp[hy])
  simp only[Ya,List.length_cons]
  cases hq:q i
  ·rw[hq] at ih;simp only[cond_false] at ih⊢;omega
  ·rw[hq] at ih;simp only[cond_true] at ih⊢;omega
theorem Jb3 {s:Int}:∀(l:List (Int×Int)) (i:Nat) (a:Int),(i:Int)≤s→s<i+l.length→Ya (fun k=>decide (s≤(k:Int))) i l a=Ya (fun k=>decide (s<(k:Int))) i l a+(l.getD (s-i).toNat (0,0)).2
 |[],i,a,h1,h2=>by simp at h2;omega
 | x :: r, i, a, h1, h2 => by
  simp only[Ya]
  simp only[List.length_cons] at h2
  rw[decide_eq_false (by omega:¬s<(i:Int))]
  simp only[cond_false]
  by_cases e:(i:Int)=s
  ·rw[decide_eq_true (by omega:s≤(i:Int)),show(s-(i:Int)).toNat=0 by omega]
   simp only[cond_true,List.getD_cons_zero]
   rw[H0]
   have:∀(l:List (Int×Int)) (j:Nat) (a:Int),s<(j:Int)→Ya (fun k=>decide (s≤(k:Int))) j l a=Ya (fun k=>decide (s<(k:Int))) j l a:=by
    intro l
    induction l with
    |nil=>intro j a _;rfl
    |cons y t ih=>
     intro j a hj
     simp only[Ya]
     rw[decide_eq_true (by omega:s≤(j:Int)),decide_eq_true hj]
     exact ih (j+1) _ (by omega)
   rw[this r (i+1) a (by omega)]
  ·rw[decide_eq_false (by omega:¬s≤(i:Int))]
   simp only[cond_false]
   rw[Jb3 r (i+1) a (by omega) (by omega),show(s-(i:Int)).toNat=(s-((i+1:Nat):Int)).toNat+1 by omega,List.getD_cons_succ]
def qP (e:ByteArray) (s:Int) (i:Nat):Bool:=bif (bif isB e then decide (s≤(i:Int)) else false) then true else(bif isA e then decide ((i:Int)<s) else false)
def qR (e:ByteArray) (s:Int) (i:Nat):Bool:=bif (bif isA e then decide ((i:Int)<s) else false) then true else(bif isB e then decide (s<(i:Int)) else false)
def Jpn (c:Cab) (f:Flt) (e:ByteArray):Int:=bif isA e then Ya (qP e f.1) 0 c.1 (f.2.2.1-f.2.1)+2*f.2.1 else Ya (qP e f.1) 0 c.1 (f.2.2.1-f.2.1)
def Jkf (c:Cab) (f:Flt) (e:ByteArray):Int:=Ya (qR e f.1) 0 c.1 (bif isB e then f.2.2.1+(c.1.getD f.1.toNat (0,0)).2-f.2.1 else f.2.2.1+f.2.1)
theorem Jw0 {e:ByteArray} (h:Jhx e=0):(isA e=true∧isB e=false)∨(isA e=false∧isB e=true):=by
 unfold Jhx at h
 cases ha:isA e with
 |true=>
  cases hb:isB e with
  |true=>have:=Jdk e hb;rw[ha] at this;cases this
  |false=>exact .inl ⟨rfl,rfl⟩
 | false =>
  cases hb:isB e with
  |true=>exact .inr ⟨rfl,rfl⟩
  |false=>
   have ha:(e.toList==sA.toList)=false:=ha
   have hb:(e.toList==sB.toList)=false:=hb
   rw[ha,hb] at h
   cases h
theorem Jtc {c:Cab} {f:Flt} {e:ByteArray} (hs:0≤f.1∧f.1<c.1.length) (he:Jhx e=0):Jpn c f e=Jkf c f e:=by
 unfold Jpn Jkf
 rcases Jw0 he with⟨ha,hb⟩|⟨ha,hb⟩
 ·rw[ha,hb]
  simp only[cond_true,cond_false]
  rw[←H0,show f.2.2.1-f.2.1+2*f.2.1=f.2.2.1+f.2.1 by omega]
  refine Yq (fun i=> ?_) _ _ _
  unfold qP qR;rw[ha,hb]
  cases decide ((i:Int)<f.1)<;>rfl
 ·rw[ha,hb]
  simp only[cond_true,cond_false]
  have e1:Ya (qP e f.1) 0 c.1 (f.2.2.1-f.2.1)=Ya (fun k=>decide (f.1≤(k:Int))) 0 c.1 (f.2.2.1-f.2.1):=Yq (fun i=>by unfold qP;rw[ha,hb];cases decide (f.1≤(i:Int))<;>rfl) _ _ _
  have e2:∀a,Ya (qR e f.1) 0 c.1 a=Ya (fun k=>decide (f.1<(k:Int))) 0 c.1 a:=fun a=>Yq (fun i=>by unfold qR;rw[ha,hb];rfl) _ _ _
  rw[e1,e2,Jb3 c.1 0 _ (by omega) (by omega),show f.2.2.1+(c.1.getD f.1.toNat (0,0)).2-f.2.1=(f.2.2.1-f.2.1)+(c.1.getD f.1.toNat (0,0)).2 by omega,H0,show(f.1-((0:Nat):Int)).toNat=f.1.toNat by omega]
theorem Jav {H n d:Int} {j:Nat} (hj:j≤5) (hd:d=8^j):H*(262144:Int).tdiv d*n=(H*262144*n).tdiv d:=by
 have key:∀q:Int,0<d→262144=d*q→H*(262144:Int).tdiv d*n=(H*262144*n).tdiv d:=fun q hd hq=>by
  rw[hq,Int.mul_tdiv_cancel_left _ (by omega),show H*(d*q)*n=d*(H*q*n) by rw[Int.mul_left_comm H d q,Int.mul_assoc d],Int.mul_tdiv_cancel_left _ (by omega)]
 have:j=0∨j=1∨j=2∨j=3∨j=4∨j=5:=by omega
 rcases this with rfl|rfl|rfl|rfl|rfl|rfl
 ·exact key 262144 (by rw[hd];decide) (by rw[hd];decide)
 ·exact key 32768 (by rw[hd];decide) (by rw[hd];decide)
 ·exact key 4096 (by rw[hd];decide) (by rw[hd];decide)
 ·exact key 512 (by rw[hd];decide) (by rw[hd];decide)
 ·exact key 64 (by rw[hd];decide) (by rw[hd];decide)
 ·exact key 8 (by rw[hd];decide) (by rw[hd];decide)
def Jaw (c:Cab) (f:Flt) (e:ByteArray):Int:=(f.2.2.2*262144*(Jw c f.1 e).1).tdiv (Jw c f.1 e).2
def Jpf (c:Cab) (f:Flt) (e:ByteArray):Int:=Ja [Ym c f,Jhx e]
def Jw1 (c:Cab) (f:Flt) (e:ByteArray):Int×Int:=if(Jw c f.1 e).1=0 then(0,0) else(Jkf c f e,Jaw c f e)
def Jnx (c:Cab) (f:Flt) (e:ByteArray):Int:=if(Jw c f.1 e).1=0 then 7 else 0
def Jlb (c:Cab) (f:Flt) (e:ByteArray):Int×Int:=if Jpf c f e=0 then Jw1 c f e else(0,0)
def Dl (c:Cab) (f:Flt) (e:ByteArray):Int:=if Jpf c f e=0 then Jnx c f e else Jpf c f e
theorem Jny {c:Cab} {f:Flt} {e:ByteArray} (h:Jpf c f e=0):Ym c f=0∧Jhx e=0:=by
 have hz:=J4 (show Ja [Ym c f,Jhx e]=0 from h)
 simp only[List.mem_cons,List.not_mem_nil,or_false,forall_eq_or_imp,forall_eq] at hz
 exact hz
theorem Jp0 {q:Nat→Bool} {l:List (Int×Int)} {k:Nat} {a:Int} (h:k<l.length):Ya q 0 (l.take (k+1)) a=bif q k then Ya q 0 (l.take k) a+(l.getD k (0,0)).2 else Ya q 0 (l.take k) a:=by
 rw[←Kn (d:=(0,0)) h,Je9,Nat.zero_add,List.length_take,Nat.min_eq_left (by omega)]
theorem Jrv {c:Cab} {q:Nat→Bool} {k:Nat} {a:Int} (hv:Y7 c) (ha: -100000≤a∧a≤200000): -100000≤Ya q 0 (c.1.take k) a∧Ya q 0 (c.1.take k) a≤200384:=by
 have h:=Jmb (q:=q) (l:=c.1.take k) (i:=0) (a:=a) fun x hx=>hv.2.2.1 x (List.mem_of_mem_take hx)
 have h2:(c.1.take k).length≤c.1.length:=by simp;omega
 have h3:=hv.2.1
 omega
theorem Jwv {c:Cab} {s H:Int} {e:ByteArray} (hv:Y7 c) (hH: -1024≤H∧H≤1024):((Jw c s e).2=0→False)∧(-9223372036854775808≤(262144:Int).tdiv (Jw c s e).2∧(262144:Int).tdiv (Jw c s e).2≤9223372036854775807)∧(-9223372036854775808≤H*(262144:Int).tdiv (Jw c s e).2∧H*(262144:Int).tdiv (Jw c s e).2≤9223372036854775807)∧-9223372036854775808≤H*(262144:Int).tdiv (Jw c s e).2*(Jw c s e).1∧H*(262144:Int).tdiv (Jw c s e).2*(Jw c s e).1≤9223372036854775807:=by
 have hb:=Jjn (s:=s) (e:=e) hv
 have t:=Hd (a:=262144) (g:=(Jw c s e).2) (B:=262144) ⟨by decide,by decide⟩
 have m1:=Ld (A:=1024) (B:=262144) hH t
 have m2:=Ld (A:=1024*262144) (B:=1048576) m1 (b:=(Jw c s e).1) ⟨by omega,hb.1.2⟩
 exact⟨by omega,by omega,by omega,by omega⟩
def Joe:Con:={args:=[aC,aF,aS],ress:=[Pr,I],owns:=[],pre:=fun(c,_)=>[c.1.length≤1000000,c.2.1.length≤1000000],spec:=fun(c,f,e,_)=>(Jlb c f e,Dl c f e,())}
abbrev Js0 (c:Cab) (f:Flt) (e:ByteArray):Ann:={X:=Nat,σ:=fun k=>⟨5,[(2, .one (.str e)),(4, .one (.ptr 3 0)),(6, .one (.ptr 4 0)),(9, .one (.int .i64 (Jw c f.1 e).1)),(10, .one (.int .i64 (Jw c f.1 e).2)),(11, .one (.int .i64 (Ya (qP e f.1) 0 (c.1.take k) (f.2.2.1-f.2.1)))),(42, .one (.sl 0)),(43, .one (.int .i64 c.1.length)),(44, .one (.int .i64 k))],[(0, .imm 59 sPt c.1),(3, .box 43 [.int .i64 f.1, .int .i64 f.2.1, .int .i64 f.2.2.1, .int .i64 f.2.2.2]),(4, .box 24 [.int .i64 0, .int .i64 0])]⟩,inv:=fun k=>k≤c.1.length∧Jpf c f e=0∧(Jw c f.1 e).1≠0,mu:=fun k=>c.1.length-k}
def J00 (a:Flt) (b:Cab) (c:Bt):=a.2.2.2*Int.tdiv 262144 (Jw b a.1 c).2*(Jw b a.1 c).1
def Jrk (a:Bt) (b:Flt) (c:Nat) (d:Cab):=Ya (qP a b.1) 0 (Z21 c d) (b.2.2.1-b.2.1)
def J59 (a:Cab) (b:Flt):=a.1=a.1∧Si b.1 (Si b.2.1 (Si b.2.2.1 (Si b.2.2.2 Z6)))
def J5u (a:Cab) (b:Flt) (c:Bt):=Ja [Js4 a b,Jhx c]
def J0c (a:Nat) (b:Cab) (c:Flt) (d:Bt):=Z37 a b∧Jpf b c d=0∧((Jw b c.1 d).1=0→False)
def J4z (a:Bt) (b:Flt) (c:Nat) (d:Cab):=Jrk a b c d+Z79 d c
def J4j (a:Cab) (b c:Nat) (d:Flt):=Si (Z1 a) (Z29 b c∧J59 a d)
def J3p (a:Nat) (b:Cab) (c:Flt) (d:Bt) (e:Nat):=J0c a b c d∧Jvb b a e
def J3h (a:Cab) (b:Flt) (c:Bt):=((Jw a b.1 c).2=0→False)∧Iw (Int.tdiv 262144 (Jw a b.1 c).2)∧Iw (b.2.2.2*Int.tdiv 262144 (Jw a b.1 c).2)∧Iw (J00 b a c)
def J2k (a:Bt) (b:Flt) (c:Nat) (d:Cab):=Iw (J4z a b c d)∧Z2 c∧∃(y:Nat),Sf a (Si (Jw d b.1 a).1 (Si (Jw d b.1 a).2 (J4z a b c d=Jrk a b y d∧J4j d c y b)))∧J3p y d b a c
theorem wp7 [Sx.Dr] (c:Cab) (f:Flt) (e:ByteArray):wpF Tryz.prog W52.g (Yl (Js0 c f e)) Tryz.f7 Joe (c,f,e,()):=by
 refine(by kernel_rfl:(Z55 c→Z26 c→(Z53 c∧Z28 c∧2≤1000000)∧Br (J5u c f e !=0) ((0,0)=Jlb c f e∧J5u c f e=Dl c f e) ((Z87 c∧Z17≤f.1∧f.1≤1000)∧Br ((Jw (Z33 c) f.1 e).1==0) ((0,0)=Jlb c f e∧7=Dl c f e) (Iw (f.2.2.1-f.2.1)∧∃(x:Nat),Sf e ((Jw (Z33 c) f.1 e).1=(Jw c f.1 e).1∧(Jw (Z33 c) f.1 e).2=(Jw c f.1 e).2∧f.2.2.1-f.2.1=Jrk e f x c∧Si (Z1 c) (0=Nc x∧J59 c f))∧J0c x c f e∧∀(x:Nat),J0c x c f e→Br (Z58 x c) (Tw (Z48 x c)∧Br (bif Z64 e then decide (f.1≤Nc x) else false) (J2k e f x c) (Br (bif Z65 e then decide (Nc x<f.1) else false) (J2k e f x c) (Z2 x∧∃(y:Nat),Sf e (Si (Jw c f.1 e).1 (Si (Jw c f.1 e).2 (Jrk e f x c=Jrk e f y c∧J4j c x y f)))∧J3p y c f e x))) (Br (Z65 e) ((Iw (2*f.2.1)∧Iw (Jrk e f x c+2*f.2.1))∧J3h c f e∧(Jrk e f x c+2*f.2.1,J00 f c e)=Jlb c f e∧0=Dl c f e) (J3h c f e∧(Jrk e f x c,J00 f c e)=Jlb c f e∧0=Dl c f e)))))=_).mp ?_
 delta Z1 Z2 Z6 Z13 Z17 Z21 Z26 Z28 Z29 Z33 Z35 Z37 Z48 Z49 Z50 Z53 Z54 Z55 Z58 Z64 Z65 Z75 Z79 Z87 J00 Jvb Jrk Js4 J59 J5u J0c J4z J4j J3p J3h J2k Br Iw Bd Tw Sf Si Ln Nc Lb E2
 intro h1 h2
 refine⟨⟨h1,h2,by omega⟩,fun h=> ?_,fun h=> ?_⟩
 ·have h:¬Jpf c f e=0:=bne_iff_ne.1 h
  unfold Jlb Dl;rw[if_neg h,if_neg h];exact⟨rfl,rfl⟩
 have h:Jpf c f e=0:=bne_eq_false_iff_eq.1 h
 obtain⟨hf,he⟩:=Jny h
 obtain⟨hc,hfv⟩:=Lk hf
 have hv:=hfv.1
 obtain⟨_,g1,g2,g3,g4,g5⟩:=id hfv
 have hlen:=hv.2.1
 have b:=hv.2.2.1 _ (Jp (d:=(0,0)) (l:=c.1) (k:=f.1.toNat) (by omega))
 have eF:Jlb c f e=Jw1 c f e:=if_pos h
 have eE:Dl c f e=Jnx c f e:=if_pos h
 refine⟨⟨hc,by omega⟩,fun e1=> ?_,fun e1=> ?_⟩
 ·have e1:(Jw c f.1 e).1=0:=eq_of_beq e1
  rw[eF,eE];unfold Jw1 Jnx;rw[if_pos e1,if_pos e1];exact⟨rfl,rfl⟩
 have e1:¬(Jw c f.1 e).1=0:=by
  have e1:((Jw c f.1 e).1==0)=false:=e1
  simpa using e1
 refine⟨by omega,(0:Nat),⟨rfl,rfl,rfl,rfl,rfl,rfl,rfl,rfl,rfl,rfl,rfl,rfl,rfl⟩,⟨Nat.zero_le _,h,e1⟩,fun(k:Nat) hk=>⟨fun hlt=> ?_,fun hge=> ?_⟩⟩
 ·have hlt:k<c.1.length:=by simpa using hlt
  have st:=Jp0 (q:=qP e f.1) (a:=f.2.2.1-f.2.1) hlt
  have sb:=Jrv (q:=qP e f.1) (k:=k) (a:=f.2.2.1-f.2.1) hv (by omega)
  have xb:=hv.2.2.1 _ (Jp (d:=(0,0)) hlt)
  refine⟨⟨by omega,by omega⟩,fun c1=> ?_,fun c1=>⟨fun c2=> ?_,fun c2=> ?_⟩⟩
  ·have c1:(bif isB e then decide (f.1≤(k:Int)) else false)=true:=c1
   have q:qP e f.1 k=true:=by unfold qP;rw[c1];rfl
   rw[q] at st
   exact⟨by omega,by omega,(k+1:Nat),⟨rfl,rfl,rfl,st.symm,rfl,by simp,rfl,rfl,rfl,rfl,rfl,rfl,rfl⟩,⟨hlt,h,e1⟩,by omega⟩
  ·have c1:(bif isB e then decide (f.1≤(k:Int)) else false)=false:=c1
   have c2:(bif isA e then decide ((k:Int)<f.1) else false)=true:=c2
   have q:qP e f.1 k=true:=by unfold qP;rw[c1,c2];rfl
   rw[q] at st
   exact⟨by omega,by omega,(k+1:Nat),⟨rfl,rfl,rfl,st.symm,rfl,by simp,rfl,rfl,rfl,rfl,rfl,rfl,rfl⟩,⟨hlt,h,e1⟩,by omega⟩
  ·have c1:(bif isB e then decide (f.1≤(k:Int)) else false)=false:=c1
   have c2:(bif isA e then decide ((k:Int)<f.1) else false)=false:=c2
   have q:qP e f.1 k=false:=by unfold qP;rw[c1,c2];rfl
   rw[q] at st
   exact⟨by omega,(k+1:Nat),⟨rfl,rfl,rfl,st.symm,rfl,by simp,rfl,rfl,rfl,rfl,rfl,rfl,rfl⟩,⟨hlt,h,e1⟩,by omega⟩
 ·have hge:¬k<c.1.length:=by simpa using hge
  have sb:=Jrv (q:=qP e f.1) (k:=k) (a:=f.2.2.1-f.2.1) hv (by omega)
  have hB:=Jwv (c:=c) (s:=f.1) (e:=e) hv g4
  obtain⟨_,j,hj,hd⟩:=Jd4 (s:=f.1) (e:=e) hv
  have hh:f.2.2.2*(262144:Int).tdiv (Jw c f.1 e).2*(Jw c f.1 e).1=Jaw c f e:=Jav (by have:=hv.2.2.2.1;omega) hd
  have ht:=Jtc (c:=c) (f:=f) (e:=e) g1 he
  have eG:Jw1 c f e=(Jkf c f e,Jaw c f e):=if_neg e1
  have eGE:Jnx c f e=0:=if_neg e1
  have et:c.1.take k=c.1:=List.take_of_length_le (by omega)
  refine⟨fun ha=> ?_,fun ha=> ?_⟩
  ·have ha:isA e=true:=ha
   refine⟨⟨by omega,by omega⟩,hB, ?_,by rw[eE,eGE]⟩
   rw[eF,eG,←hh,←ht,et]
   unfold Jpn;rw[ha];rfl
  ·have ha:isA e=false:=ha
   refine⟨hB, ?_,by rw[eE,eGE]⟩
   rw[eF,eG,←hh,←ht,et]
   unfold Jpn;rw[ha];rfl
theorem ok7 [Sx.Dr]:Ok Tryz.prog 7 Joe:=Jn mixed W52.ok (by kernel_rfl) (by kernel_rfl) (fun xx=>Yl (Js0 xx.1 xx.2.1 xx.2.2.1)) fun xx=>wp7 xx.1 xx.2.1 xx.2.2.1
abbrev W53 [Sx.Dr]:=W52.add ok7
def Jpd (c:Cab) (e:ByteArray) (k:Nat):Int:=(262144:Int).tdiv (Jw c k e).2*(Jw c k e).1
theorem Jp6 {k i:Nat} {e:ByteArray} {s r:Int} {p:Int×Int} (h:D8 k p) (hp:p.1≤2^k*p.2) (hd:1≤p.2) (hr: -8≤r∧r≤8):(Vo e s i r p).1≤2^(k+1)*(Vo e s i r p).2∧1≤(Vo e s i r p).2:=by
 obtain⟨⟨h1,_⟩,_⟩:=h
 rw[Int.pow_succ]
 have h2:(0:Int)≤2^k:=Int.le_of_lt (Int.pow_pos (by decide))
 generalize(2:Int)^k=y at hp h2⊢
 have key:∀q:Int,0≤q∧q≤16→p.1*q≤y*2*(p.2*8)∧1≤p.2*8:=fun q hq=>by
  have a1:p.1*q≤p.1*16:=Int.mul_le_mul_of_nonneg_left hq.2 h1
  have a2:y*2*(p.2*8)=y*p.2*16:=by rw[Int.mul_assoc,show 2*(p.2*8)=p.2*16 by omega,←Int.mul_assoc]
  rw[a2];omega
 have same:p.1≤y*2*p.2∧1≤p.2:=by
  have a2:y*2*p.2=y*p.2*2:=by rw[Int.mul_assoc,Int.mul_comm 2,←Int.mul_assoc]
  have a3:0≤y*p.2:=Int.mul_nonneg h2 (by omega)
  rw[a2];omega
 unfold Vo
 cases(bif isB e then decide (s≤(i:Int)) else false) with
 |true=>exact key (8+r) (by omega)
 |false=>
  cases(bif isA e then decide ((i:Int)<s) else false) with
  |true=>exact key (8-r) (by omega)
  |false=>exact same
theorem Jrx {e:ByteArray} {s:Int}:∀{l:List Int} {i k:Nat} {p:Int×Int},D8 k p→p.1≤2^k*p.2→1≤p.2→(∀r∈l,-8≤r∧r≤8)→(Uw e s i l p).1≤2^(k+l.length)*(Uw e s i l p).2
 |[],_,_,_,_,h,_,_=>h
 |r::l,i,k,p,h,hp,hd,hl=>by
  have hr:=hl r (by simp)
  have st:=Jp6 (i:=i) (e:=e) (s:=s) h hp hd hr
  have:=Jrx (e:=e) (s:=s) (l:=l) (i:=i+1) (Di (i:=i) (e:=e) (s:=s) h hr) st.1 st.2 fun x hx=>hl x (by simp[hx])
  rw[show k+1+l.length=k+(r::l).length by simp only[List.length_cons];omega] at this
  exact this
theorem J76 {k:Nat} (h:k≤5):(2:Int)^k≤32:=by
 have:∀j,j<6→(2:Int)^j≤32:=by decide
 exact this k (by omega)
theorem Jtp {c:Cab} {e:ByteArray} {k:Nat} (hv:Y7 c):0≤Jpd c e k∧Jpd c e k≤8388608:=by
 have hb:=Jjn (s:=k) (e:=e) hv
 have hr:(Jw c k e).1≤2^(0+c.2.1.length)*(Jw c k e).2:=Jrx (p:=(1,1)) ⟨⟨by decide,by decide⟩,0,Nat.le_refl _,rfl⟩ (by decide) (by decide) hv.2.2.2.2.1
 have hl:0+c.2.1.length≤5:=by have:=hv.2.1;have:=hv.2.2.2.1;omega
 have h2:=J76 hl
 have a1:(2:Int)^(0+c.2.1.length)*(Jw c k e).2≤32*(Jw c k e).2:=Int.mul_le_mul_of_nonneg_right h2 (by omega)
 obtain⟨_,j,hj,hd⟩:=Jd4 (s:=k) (e:=e) hv
 have hu:=Jav (H:=1) (n:=(Jw c k e).1) (d:=(Jw c k e).2) (j:=j) (by have:=hv.2.1;have:=hv.2.2.2.1;omega) hd
 rw[Int.one_mul,Int.one_mul] at hu
 have e1:Jpd c e k=(262144*(Jw c k e).1).tdiv (Jw c k e).2:=hu
 rw[e1,Int.tdiv_eq_ediv_of_nonneg (by omega)]
 refine⟨Int.ediv_nonneg (by omega) (by omega), ?_⟩
 exact Int.ediv_le_of_le_mul (by omega) (by omega)
def Jvp (l:List Arr):Prop:=∀a∈l,-80000000000000≤a.2.2∧a.2.2≤80000000000000
def Jft (e:ByteArray) (t:Int) (a:Arr):Bool:=bif Jf0 e a then decide (a.1≤t) else false
def Vy (e:ByteArray) (t:Int):List Arr→Int→Int
 |[],n=>n
 |a::r,n=>Vy e t r (bif Jft e t a then n+a.2.2 else n)
def Zl (l:List Arr) (e:ByteArray) (t:Int):Int:=Vy e t l 0
theorem Jid {e:ByteArray} {t n:Int} {l:List Arr} {k:Nat} (h:k<l.length):Vy e t (l.drop k) n=Vy e t (l.drop (k+1)) (bif Jft e t (l.getD k dA) then n+(l.getD k dA).2.2 else n):=by
 rw[V8 (d:=dA) h];rfl
abbrev Jxx (T:TypeId) (a b i:Tmp) (l:List Arr) (e:ByteArray) (t:Int):Ann:={X:=Nat×Int,σ:=fun p=>⟨1,[(1, .one (.str e)),(2, .one (.int .i64 t)),(7, .one (.int .i64 p.2)),(a, .one (.sl 0)),(b, .one (.int .i64 l.length)),(i, .one (.int .i64 p.1))],[(0, .imm T U6 l)]⟩,inv:=fun p=>p.1≤l.length∧(-(80000000000000*(p.1:Int))≤p.2∧p.2≤80000000000000*p.1)∧Zl l e t=Vy e t (l.drop p.1) p.2,mu:=fun p=>l.length-p.1}
def Jxb (T:TypeId):Con:={args:=[.val false (.list T U6),aS,aI],ress:=[I],owns:=[],pre:=fun(l,_)=>[l.length≤100000,Jvp l],spec:=fun(l,e,t,_)=>(Zl l e t,())}
def Z69 (a b:Nat×Int) (c:List Arr):=Nc a.1+1=Nc b.1∧c=c
def Jyp (a:List Arr) (b:Nat×Int):=(List.getD a b.1 Z0).2
def Jyl (a:Nat×Int) (b:List Arr):=a.2+(Jyp b a).2
def J0o (a:Nat×Int) (b:List Arr):=Iw (Jyl a b)
def Ju5 (a:Nat×Int) (b:List Arr) (c:Bt) (d:Int):=a.1≤List.length b∧(-(80000000000000*Nc a.1)≤a.2∧a.2≤80000000000000*Nc a.1)∧Zl b c d=Vy c d (List.drop a.1 b) a.2
def Jzr (a:List Arr) (b:Nat×Int) (c:Bt) (d:Int):=bif Lb (Jyp a b).1 c then decide ((List.getD a b.1 Z0).1≤d) else false
def Jvt (a:Nat×Int) (b:List Arr) (c:Bt) (d:Int) (e:Nat×Int):=Ju5 a b c d∧List.length b-a.1<List.length b-e.1
theorem J9e [Sx.Dr]:Ok Tryz.prog 33 (Jxb 128):=okW W53 Tryz.f33 (fun xx=>Yl (Jxx 128 10 11 12 xx.1 xx.2.1 xx.2.2.1)) fun xx=>by
 obtain⟨(l:List Arr),(e:ByteArray),(t:Int),_⟩:=xx
 refine(by kernel_rfl:(List.length l≤100000→Jvp l→∃(x:Nat×Int),Sf e (Si t (0=x.2∧Si (Ln l) (0=Nc x.1∧l=l)))∧Ju5 x l e t∧∀(x:Nat×Int),Ju5 x l e t→Br (decide (Nc x.1<Ln l)) (Tw (Bd (Nc x.1) (Ln l))∧Br (Jzr l x e t) (J0o x l∧Iw (Nc x.1+1)∧∃(y:Nat×Int),Sf e (Si t (Jyl x l=y.2∧Si (Ln l) (Z69 x y l)))∧Jvt y l e t x) (Iw (Nc x.1+1)∧∃(y:Nat×Int),Sf e (Si t (x.2=y.2∧Si (Ln l) (Z69 x y l)))∧Jvt y l e t x)) (x.2=Zl l e t))=_).mp ?_
 delta Z0 Z69 Jyp Jyl J0o Ju5 Jzr Jvt Br Iw Bd Tw Sf Si Ln Nc B0 Lb
 intro h1 h2
 refine⟨((0:Nat),(0:Int)),⟨rfl,rfl,rfl,rfl,rfl,rfl⟩,⟨Nat.zero_le _,⟨by decide,by decide⟩,rfl⟩,fun p hp=> ?_⟩
 obtain⟨k,n⟩:=p
 obtain⟨i1,i2,i3⟩:=hp
 replace i1:k≤l.length:=i1
 replace i2: -(80000000000000*(k:Int))≤n∧n≤80000000000000*k:=i2
 replace i3:Zl l e t=Vy e t (l.drop k) n:=i3
 refine⟨fun h=> ?_,fun h=> ?_⟩
 ·have hlt:k<l.length:=by
   have h:(k:Int)<l.length:=of_decide_eq_true h
   omega
  have hd:=Jid (e:=e) (t:=t) (n:=n) hlt
  have hb:=h2 _ (Jp (d:=dA) hlt)
  have kk:0≤(k:Int)∧(k:Int)<l.length:=by omega
  rw[hd] at i3
  refine⟨⟨kk,kk⟩,fun q=> ?_,fun q=> ?_⟩
  ·have q:Jft e t (l.getD k dA)=true:=q
   rw[q] at i3
   have b1: -9223372036854775808≤n+(l.getD k dA).2.2∧n+(l.getD k dA).2.2≤9223372036854775807:=by omega
   have b2: -(80000000000000*((k+1:Nat):Int))≤n+(l.getD k dA).2.2∧n+(l.getD k dA).2.2≤80000000000000*((k+1:Nat):Int):=by omega
   exact⟨b1,by show -9223372036854775808≤(k:Int)+1∧(k:Int)+1≤9223372036854775807;omega,(k+1,n+(l.getD k dA).2.2),⟨rfl,rfl,rfl,rfl,by simp,rfl⟩,⟨hlt,b2,i3⟩,by show l.length-(k+1)<l.length-k;omega⟩
  ·have q:Jft e t (l.getD k dA)=false:=q
   rw[q] at i3
   have b2: -(80000000000000*((k+1:Nat):Int))≤n∧n≤80000000000000*((k+1:Nat):Int):=by omega
   exact⟨by show -9223372036854775808≤(k:Int)+1∧(k:Int)+1≤9223372036854775807;omega,(k+1,n),⟨rfl,rfl,rfl,rfl,by simp,rfl⟩,⟨hlt,b2,i3⟩,by show l.length-(k+1)<l.length-k;omega⟩
 ·have hge:¬k<l.length:=by
   have h:¬(k:Int)<l.length:=of_decide_eq_false h
   omega
  rw[i3,List.drop_of_length_le (by omega)]
  rfl
abbrev W54 [Sx.Dr]:=W53.add J9e
abbrev Juz (l:List Arr) (e:ByteArray) (t:Int):Ann:={X:=Nat×Int,σ:=fun p=>⟨1,[(0, .one (.sl 0)),(1, .one (.str e)),(2, .one (.int .i64 t)),(7, .one (.int .i64 p.2)),(8, .one (.int .i64 p.1))],[(0, .imm 141 U6 l)]⟩,inv:=fun p=>p.1≤l.length∧(-(80000000000000*(p.1:Int))≤p.2∧p.2≤80000000000000*p.1)∧Zl l e t=Vy e t (l.drop p.1) p.2,mu:=fun p=>l.length-p.1}
theorem J84 [Sx.Dr]:Ok Tryz.prog 50 (Jxb 141):=okW W54 Tryz.f50 (fun xx=>Yl (Juz xx.1 xx.2.1 xx.2.2.1)) fun xx=>by
 obtain⟨(l:List Arr),(e:ByteArray),(t:Int),_⟩:=xx
 refine(by kernel_rfl:(List.length l≤100000→Jvp l→∃(x:Nat×Int),Sf e (Si t (0=x.2∧0=Nc x.1∧l=l))∧Ju5 x l e t∧∀(x:Nat×Int),Ju5 x l e t→Br (decide (Nc x.1<Ln l)) (T2 (Bd (Nc x.1) (Ln l)) (Tw (Lb (Jyp l x).1 e=true→Bd (Nc x.1) (Ln l)))∧Br (Jzr l x e t) (T2 (Bd (Nc x.1) (Ln l)) (J0o x l)∧Iw (Nc x.1+1)∧∃(y:Nat×Int),Sf e (Si t (Jyl x l=y.2∧Z69 x y l))∧Jvt y l e t x) (Iw (Nc x.1+1)∧∃(y:Nat×Int),Sf e (Si t (x.2=y.2∧Z69 x y l))∧Jvt y l e t x)) (x.2=Zl l e t))=_).mp ?_
 delta Z0 Z69 Jyp Jyl J0o Ju5 Jzr Jvt Br Iw Bd T2 Tw Sf Si Ln Nc B0 Lb
 intro h1 h2
 refine⟨((0:Nat),(0:Int)),⟨rfl,rfl,rfl,rfl,rfl⟩,⟨Nat.zero_le _,⟨by decide,by decide⟩,rfl⟩,fun p hp=> ?_⟩
 obtain⟨k,n⟩:=p
 obtain⟨i1,i2,i3⟩:=hp
 replace i1:k≤l.length:=i1
 replace i2: -(80000000000000*(k:Int))≤n∧n≤80000000000000*k:=i2
 replace i3:Zl l e t=Vy e t (l.drop k) n:=i3
 refine⟨fun h=> ?_,fun h=> ?_⟩
 ·have hlt:k<l.length:=by
   have h:(k:Int)<l.length:=of_decide_eq_true h
   omega
  have hd:=Jid (e:=e) (t:=t) (n:=n) hlt
  have hb:=h2 _ (Jp (d:=dA) hlt)
  have kk:0≤(k:Int)∧(k:Int)<l.length:=by omega
  rw[hd] at i3
  refine⟨⟨kk,kk,fun _=>kk,fun _=>kk⟩,fun q=> ?_,fun q=> ?_⟩
  ·have q:Jft e t (l.getD k dA)=true:=q
   rw[q] at i3
   have b1: -9223372036854775808≤n+(l.getD k dA).2.2∧n+(l.getD k dA).2.2≤9223372036854775807:=by omega
   have b2: -(80000000000000*((k+1:Nat):Int))≤n+(l.getD k dA).2.2∧n+(l.getD k dA).2.2≤80000000000000*((k+1:Nat):Int):=by omega
   exact⟨⟨kk,kk,b1⟩,by show -9223372036854775808≤(k:Int)+1∧(k:Int)+1≤9223372036854775807;omega,(k+1,n+(l.getD k dA).2.2),⟨rfl,rfl,rfl,by simp,rfl⟩,⟨hlt,b2,i3⟩,by show l.length-(k+1)<l.length-k;omega⟩
  ·have q:Jft e t (l.getD k dA)=false:=q
   rw[q] at i3
   have b2: -(80000000000000*((k+1:Nat):Int))≤n∧n≤80000000000000*((k+1:Nat):Int):=by omega
   exact⟨by show -9223372036854775808≤(k:Int)+1∧(k:Int)+1≤9223372036854775807;omega,(k+1,n),⟨rfl,rfl,rfl,by simp,rfl⟩,⟨hlt,b2,i3⟩,by show l.length-(k+1)<l.length-k;omega⟩
 ·have hge:¬k<l.length:=by
   have h:¬(k:Int)<l.length:=of_decide_eq_false h
   omega
  rw[i3,List.drop_of_length_le (by omega)]
  rfl
abbrev W55 [Sx.Dr]:=W54.add J84
abbrev Key:Type:=Int×ByteArray
def Jf4 (n:Int) (k:Key) (w:Stp):Prop:=(w.2.1=0∨w.2.1=n)∧w.1=k.1∧Hs w=k.2
instance (n:Int) (k:Key) (w:Stp):Decidable (Jf4 n k w):=inferInstanceAs (Decidable ((w.2.1=0∨w.2.1=n)∧w.1=k.1∧Hs w=k.2))
def Lu (n:Int) (k:Key):List Stp→Int
 |[]=>0
 |w::r=>(if Jf4 n k w then w.2.2.2.2 else 0)+Lu n k r
def Lj (n:Int) (k:Key) (l:List Stp):Prop:=∃w∈l,Jf4 n k w
theorem U2 (n:Int) (k:Key) (l r:List Stp):Lu n k (l++r)=Lu n k l+Lu n k r:=by
 induction l with
 |nil=>simp[Lu]
 |cons w l ih=>simp only[List.cons_append,Lu,ih];omega
theorem Fe (n:Int) (k:Key) (w:Stp):Lu n k [w]=if Jf4 n k w then w.2.2.2.2 else 0:=by simp[Lu]
theorem Jex {n:Int} {k:Key} {l r:List Stp} (h:l.Perm r):Lu n k l=Lu n k r:=by
 induction h with
 |nil=>rfl
 |cons x _ ih=>simp only[Lu,ih]
 |swap x y l=>simp only[Lu];omega
 |trans _ _ h1 h2=>rw[h1,h2]
theorem Jf5 {n:Int} {k:Key} {l r:List Stp} (h:l.Perm r):Lj n k l↔Lj n k r:=
 ⟨fun⟨w,hw,hk⟩=>⟨w,h.mem_iff.1 hw,hk⟩,fun⟨w,hw,hk⟩=>⟨w,h.mem_iff.2 hw,hk⟩⟩
theorem Vx {n:Int} {k:Key}:∀{l:List Stp},¬Lj n k l→Lu n k l=0
 |[],_=>rfl
 |w::r,h=>by
  simp only[Lu]
  rw[if_neg fun q=>h ⟨w,by simp,q⟩,Vx fun⟨x,hx,hk⟩=>h ⟨x,by simp[hx],hk⟩];rfl
theorem Lh {n:Int} {k:Key} {l:List Stp} {w:Stp}:Lj n k (l++[w])↔Lj n k l∨Jf4 n k w:=by
 constructor
 ·rintro⟨x,hx,hk⟩
  rcases List.mem_append.1 hx with hx|hx
  ·exact .inl ⟨x,hx,hk⟩
  ·rw[List.mem_singleton.1 hx] at hk;exact .inr hk
 ·rintro(⟨x,hx,hk⟩|hk)
  ·exact⟨x,by simp[hx],hk⟩
  ·exact⟨w,by simp,hk⟩
theorem Jif {α:Type} {Q:List α→Prop} (h0:Q []) (h1:∀l x,Q l→Q (l++[x])) (l:List α):Q l:=by
 have:∀r:List α,Q r.reverse:=fun r=>by
  induction r with
  |nil=>exact h0
  |cons x r ih=>rw[List.reverse_cons];exact h1 _ _ ih
 simpa using this l.reverse
theorem Jfw {k k':Arr} (hk:k≠k') (u:Int):∀m:AM,Jt U6 k' (Kd U6 k u m)=Jt U6 k' m
 |[]=>by
  simp only[Kd,Jt]
  rw[if_neg fun h=>hk (Xe.1 h).symm]
 | x :: r => by
  simp only[Kd]
  split
  ·rename_i h
   have e:=Xe.1 h
   simp only[Jt]
   rw[if_neg fun h=>hk (Xe.1 h).symm,if_neg fun h=>hk (by rw[e];exact(Xe.1 h).symm)]
  ·rename_i h
   simp only[Jt]
   rw[Jfw hk u r]
theorem Jl0 (c:Cab) (l:List Stp):∀(k:Arr) (v:Int),k.2.2=0→(Jt U6 k (Kl c l)=some v↔Lj c.1.length (k.1,k.2.1) l∧v=Lu c.1.length (k.1,k.2.1) l):=by
 refine Jif (Q:=fun l=>∀(k:Arr) (v:Int),k.2.2=0→(Jt U6 k (Kl c l)=some v↔Lj c.1.length (k.1,k.2.1) l∧v=Lu c.1.length (k.1,k.2.1) l)) ?_ ?_ l
 ·intro k v _
  exact⟨fun h=>by simp[Kl,Jt] at h,fun⟨⟨w,hw,_⟩,_⟩=>by simp at hw⟩
 ·intro l w ih k v hk
  rw[Za,Lh,U2,Fe]
  have key:∀e:ByteArray,Hs w=e→(w.2.1=0∨w.2.1=c.1.length)→Jf3 c (Kl c l) w=Jo2 (Kl c l) (w.1,e,0) w.2.2.2.2→(Jt U6 k (Jf3 c (Kl c l) w)=some v↔(Lj c.1.length (k.1,k.2.1) l∨Jf4 c.1.length (k.1,k.2.1) w)∧v=Lu c.1.length (k.1,k.2.1) l+if Jf4 c.1.length (k.1,k.2.1) w then w.2.2.2.2 else 0):=by
   intro e he hh hm
   rw[hm]
   unfold Jo2
   by_cases hq:Jf4 c.1.length (k.1,k.2.1) w
   ·have ek:(w.1,e,0)=k:=by
     obtain⟨_,h1,h2⟩:=hq
     exact Prod.ext h1 (Prod.ext (he.symm.trans h2) hk.symm)
    rw[ek,L6,if_pos hq]
    cases hg:Jt U6 k (Kl c l) with
    | none =>
     have:¬Lj c.1.length (k.1,k.2.1) l:=fun q=>by
      have:=(ih k _ hk).2 ⟨q,rfl⟩
      rw[hg] at this;cases this
     rw[Vx this]
     simp only[Option.getD_none,Option.some.injEq]
     exact⟨fun h=>⟨.inr hq,h.symm⟩,fun h=>h.2.symm⟩
    |some u=>
     have:=(ih k u hk).1 hg
     rw[←this.2]
     simp only[Option.getD_some,Option.some.injEq]
     exact⟨fun h=>⟨.inr hq,h.symm⟩,fun h=>h.2.symm⟩
   ·rw[Jfw (fun q=>hq ⟨hh,by rw[←q],by rw[←q];exact he⟩),if_neg hq,ih k v hk,Int.add_zero]
    exact⟨fun h=>⟨.inl h.1,h.2⟩,fun h=>⟨h.1.resolve_right hq,h.2⟩⟩
  by_cases h0:w.2.1=0
  ·exact key sA (by unfold Hs;rw[if_pos h0]) (.inl h0) (by unfold Jf3;rw[if_pos h0])
  ·by_cases h1:w.2.1=c.1.length
   ·exact key sB (by unfold Hs;rw[if_neg h0]) (.inr h1) (by unfold Jf3;rw[if_neg h0,if_pos h1])
   ·have hq:¬Jf4 c.1.length (k.1,k.2.1) w:=fun q=>q.1.elim h0 h1
    rw[if_neg hq,Int.add_zero]
    unfold Jf3
    rw[if_neg h0,if_neg h1,ih k v hk]
    exact⟨fun h=>⟨.inl h.1,h.2⟩,fun h=>⟨h.1.resolve_right hq,h.2⟩⟩
theorem Jcc {k:Arr} {v:Int}:∀{m:AM},(m.Pairwise fun a b=>a.1≠b.1)→(k,v)∈m→Jt U6 k m=some v
 |[],_,h=>by simp at h
 | x :: r, hp, h => by
  replace hp:=List.pairwise_cons.1 hp
  simp only[Jt]
  rcases List.mem_cons.1 h with h|h
  ·subst h;rw[if_pos (Jak _)]
  ·rw[if_neg fun q=>hp.1 _ h (Xe.1 q).symm]
   exact Jcc hp.2 h
theorem Jev {c:Cab} {l:List Stp} (h:∀w∈l,wvH c w) (a:Arr):a∈(Kl c l).map Jko↔Lj c.1.length (a.1,a.2.1) l∧a.2.2=Lu c.1.length (a.1,a.2.1) l:=by
 have ho:=Hw h
 rw[←Jl0 c l (a.1,a.2.1,0) a.2.2 rfl]
 constructor
 ·intro hm
  obtain⟨p,hp,rfl⟩:=List.mem_map.1 hm
  have h0:=ho.2.2.2 p hp
  have:(Jko p).1=p.1.1∧(Jko p).2.1=p.1.2.1∧(Jko p).2.2=p.2:=⟨rfl,rfl,rfl⟩
  rw[this.1,this.2.1,this.2.2]
  have e:(p.1.1,p.1.2.1,(0:Int))=p.1:=Prod.ext rfl (Prod.ext rfl h0.symm)
  rw[e]
  exact Jcc ho.2.2.1 hp
 ·intro hg
  exact List.mem_map.2 ⟨_,L7 hg,rfl⟩
theorem Je0 {o:List Arr} {x:Arr} (h:Je1 o) (hx:∀a∈o,ltA a x):Je1 (o++[x]):=by
 refine List.pairwise_append.2 ⟨h,by simp,fun a ha b hb=> ?_⟩
 rw[List.mem_singleton.1 hb];exact hx a ha
theorem Jb0 {o:List Arr} (h:o≠[]):o=o.take (o.length-1)++[Ul o]:=by
 have hp:0<o.length:=List.length_pos_iff.2 h
 unfold Ul
 rw[Kn (by omega),show o.length-1+1=o.length by omega,List.take_length]
theorem Jwr {x w:Stp} (hx:0≤x.2.1) (h:¬ltP w x) (u v:Int):¬ltA (w.1,Hs w,u) (x.1,Hs x,v):=by
 rintro(q|⟨q1,q2⟩)
 ·exact h (.inl q)
 ·have q1:w.1=x.1:=q1
  have q2:bLt (Hs w) (Hs x)=true:=q2
  unfold Hs at q2
  by_cases hw0:w.2.1=0
  ·by_cases hx0:x.2.1=0
   ·rw[if_pos hw0,if_pos hx0] at q2
    unfold bLt at q2;rw[Vb] at q2;cases q2
   ·exact h (.inr ⟨q1, .inl (by omega)⟩)
  ·rw[if_neg hw0] at q2
   split at q2
   ·revert q2;unfold bLt;rw[Lib.toList_data,Lib.toList_data];decide
   ·unfold bLt at q2;rw[Vb] at q2;cases q2
theorem Jmo {c:Cab} (l:List Stp):(∀w∈l,0≤w.2.1)→Jtd l→Je1 (Fh c l)∧∀a:Arr,a∈Fh c l↔Lj c.1.length (a.1,a.2.1) l∧a.2.2=Lu c.1.length (a.1,a.2.1) l:=by
 refine Jif (Q:=fun l=>(∀w∈l,0≤w.2.1)→Jtd l→Je1 (Fh c l)∧∀a:Arr,a∈Fh c l↔Lj c.1.length (a.1,a.2.1) l∧a.2.2=Lu c.1.length (a.1,a.2.1) l) ?_ ?_ l
 ·intro _ _
  exact⟨by simp[Fh,Je1],fun a=>⟨fun h=>by simp[Fh] at h,fun⟨⟨w,hw,_⟩,_⟩=>by simp at hw⟩⟩
 ·intro l w ih h0 hs
  replace hs:=List.pairwise_append.1 hs
  obtain⟨i1,i2⟩:=ih (fun x hx=>h0 x (by simp[hx])) hs.1
  have hw:∀x∈l,¬ltP w x:=fun x hx=>hs.2.2 x hx w (by simp)
  rw[Jfi]
  unfold Yo
  by_cases hh:w.2.1≠0∧w.2.1≠c.1.length
  ·rw[if_pos hh]
   refine⟨i1,fun a=> ?_⟩
   have hq:¬Jf4 c.1.length (a.1,a.2.1) w:=fun q=>q.1.elim hh.1 hh.2
   rw[Lh,U2,Fe,if_neg hq,Int.add_zero,i2]
   exact⟨fun h=>⟨.inl h.1,h.2⟩,fun h=>⟨h.1.resolve_right hq,h.2⟩⟩
  ·rw [if_neg hh]
   have hh:w.2.1=0∨w.2.1=c.1.length:=by
    by_cases q:w.2.1=0
    ·exact .inl q
    ·by_cases q':w.2.1=c.1.length
     ·exact .inr q'
     ·exact absurd ⟨q,q'⟩ hh
   have hself:∀k:Key,Jf4 c.1.length k w↔k=(w.1,Hs w):=fun k=>⟨fun q=>(Prod.ext q.2.1 q.2.2).symm,fun q=>by rw[q];exact⟨hh,rfl,rfl⟩⟩
   have hle:∀a∈Fh c l,¬ltA (w.1,Hs w,0) a:=fun a ha=>by
    obtain⟨⟨x,hx,hk⟩,_⟩:=(i2 a).1 ha
    have:=Jwr (h0 x (by simp[hx])) (hw x hx) 0 a.2.2
    have e:(x.1,Hs x,a.2.2)=a:=Prod.ext hk.2.1 (Prod.ext hk.2.2 rfl)
    rwa[e] at this
   generalize Fh c l=o at*
   by_cases hc:o≠[]∧(Ul o).1=w.1∧(Ul o).2.1=Hs w
   ·rw [if_pos hc]
    have eo:=Jb0 hc.1
    have hp:0<o.length:=List.length_pos_iff.2 hc.1
    have es:o.set (o.length-1) (w.1,Hs w,(Ul o).2.2+w.2.2.2.2)=o.take (o.length-1)++[(w.1,Hs w,(Ul o).2.2+w.2.2.2.2)]:=by
     rw[List.set_eq_take_append_cons_drop,if_pos (by omega),List.drop_of_length_le (by omega)]
    rw[es]
    have hlast:Ul o∈o:=Fl hc.1
    have hl:=(i2 (Ul o)).1 hlast
    rw[eo] at i1
    replace i1:=List.pairwise_append.1 i1
    have hlt:∀a∈o.take (o.length-1),ltA a (Ul o):=fun a ha=>i1.2.2 a ha _ (by simp)
    have ltk:∀a,ltA a (Ul o)→∀v,ltA a (w.1,Hs w,v):=fun a q v=>by
     unfold ltA at q⊢;rw[hc.2.1,hc.2.2] at q;exact q
    refine⟨Je0 i1.1 fun a ha=>ltk a (hlt a ha) _,fun a=> ?_⟩
    rw[Lh,U2,Fe]
    by_cases hq:Jf4 c.1.length (a.1,a.2.1) w
    ·have hk:=(hself _).1 hq
     have k1:a.1=w.1:=congrArg Prod.fst hk
     have k2:a.2.1=Hs w:=congrArg Prod.snd hk
     rw[if_pos hq,k1,k2]
     rw[hc.2.1,hc.2.2] at hl
     rw[←hl.2]
     constructor
     ·intro ha
      rcases List.mem_append.1 ha with ha|ha
      ·exfalso
       have:=ltk a (hlt a ha) 0
       unfold ltA at this
       rw[k1,k2] at this
       rcases this with q|⟨_,q⟩
       ·exact absurd q (Int.lt_irrefl _)
       ·unfold bLt at q;rw[Vb] at q;cases q
      ·rw[List.mem_singleton.1 ha]
       exact⟨.inl hl.1,rfl⟩
     ·rintro⟨_,h2⟩
      refine List.mem_append.2 (.inr (List.mem_singleton.2 ?_))
      exact Prod.ext k1 (Prod.ext k2 h2)
    ·rw[if_neg hq,Int.add_zero]
     have hi:=i2 a
     constructor
     ·intro ha
      rcases List.mem_append.1 ha with ha|ha
      ·have:=hi.1 (List.mem_of_mem_take ha)
       exact⟨.inl this.1,this.2⟩
      ·rw[List.mem_singleton.1 ha] at hq
       exact absurd ((hself _).2 rfl) hq
     ·rintro⟨h1,h2⟩
      have:=hi.2 ⟨h1.resolve_right hq,h2⟩
      rw[eo] at this
      rcases List.mem_append.1 this with ha|ha
      ·exact List.mem_append.2 (.inl ha)
      ·rw[List.mem_singleton.1 ha] at hq
       exact absurd ((hself _).2 (Prod.ext hc.2.1 hc.2.2)) hq
   ·rw [if_neg hc]
    have hlt:∀a∈o,ltA a (w.1,Hs w,w.2.2.2.2):=by
     intro a ha
     refine Jah (hle a ha) fun q=> ?_
     have q1:a.1=w.1:=q.1
     have q2:a.2.1=Hs w:=q.2
     have hne:o≠[]:=fun e=>by rw[e] at ha;simp at ha
     have hl:=hle _ (Fl hne)
     refine hc ⟨hne, ?_⟩
     by_cases hkk:(Ul o).1=w.1∧(Ul o).2.1=Hs w
     ·exact hkk
     ·exfalso
      have h3:ltA (Ul o) (w.1,Hs w,0):=Jah hl hkk
      rw[Jb0 hne] at ha i1
      replace i1:=List.pairwise_append.1 i1
      have h4:¬ltA (Ul o) a:=by
       rcases List.mem_append.1 ha with ha|ha
       ·exact fun q=>Yu _ (Xz q (i1.2.2 a ha _ (by simp)))
       ·rw[List.mem_singleton.1 ha];exact Yu _
      refine h4 ?_
      unfold ltA at h3⊢
      rw[q1,q2];exact h3
    refine⟨Je0 i1 fun a ha=>hlt a ha,fun a=> ?_⟩
    rw[Lh,U2,Fe]
    by_cases hq:Jf4 c.1.length (a.1,a.2.1) w
    ·have hk:=(hself _).1 hq
     have k1:a.1=w.1:=congrArg Prod.fst hk
     have k2:a.2.1=Hs w:=congrArg Prod.snd hk
     have hno:¬Lj c.1.length (a.1,a.2.1) l:=fun q=>by
      have hm:=(i2 (a.1,a.2.1,Lu c.1.length (a.1,a.2.1) l)).2 ⟨q,rfl⟩
      have:=hlt _ hm
      unfold ltA at this
      dsimp only at this
      rw[k1,k2] at this
      rcases this with q|⟨_,q⟩
      ·exact absurd q (Int.lt_irrefl _)
      ·unfold bLt at q;rw[Vb] at q;cases q
     rw[if_pos hq,Vx hno,Int.zero_add]
     constructor
     ·intro ha
      rcases List.mem_append.1 ha with ha|ha
      ·exact absurd ((i2 a).1 ha).1 hno
      ·have:=List.mem_singleton.1 ha
       exact⟨.inr hq,by rw[this]⟩
     ·rintro⟨_,h2⟩
      exact List.mem_append.2 (.inr (List.mem_singleton.2 (Prod.ext k1 (Prod.ext k2 h2))))
    ·rw[if_neg hq,Int.add_zero]
     constructor
     ·intro ha
      rcases List.mem_append.1 ha with ha|ha
      ·have:=(i2 a).1 ha
       exact⟨.inl this.1,this.2⟩
      ·rw[List.mem_singleton.1 ha] at hq
       exact absurd ((hself _).2 rfl) hq
     ·rintro⟨h1,h2⟩
      exact List.mem_append.2 (.inl ((i2 a).2 ⟨h1.resolve_right hq,h2⟩))
theorem Jby {l:List Arr} (h:Je1 l):l.Nodup:=List.Pairwise.imp (fun{a b} q e=>by subst e;exact Yu _ q) h
theorem Jpu {l l':List Arr} (h:Je1 l) (h':Je1 l') (he:∀a,a∈l↔a∈l'):l=l':=
 Xb ((List.perm_ext_iff_of_nodup (Jby h) (Jby h')).2 he) h h'
theorem Jkj (l:List Stp):(Jpw l).Perm l:=Hn l []
theorem Je3 (l:List Stp):Jtd (Jpw l):=Lg l .nil
theorem Jtk {c:Cab} {l:List Stp} (h:∀w∈l,wvH c w):Fh c (Jpw l)=sortA ((Kl c l).map Jko):=by
 have hp:=Jkj l
 obtain⟨r1,r2⟩:=Jmo (c:=c) (Jpw l) (fun w hw=>(h w (hp.mem_iff.1 hw)).2.1.1) (Je3 l)
 refine Jpu r1 (Uh (Jhd (Hw h))) fun a=> ?_
 rw[r2,(Kw _).mem_iff,Jev h,Jf5 hp,Jex hp]
theorem Jux {c:Cab} {f:Flt} {win:Int} (h:Yj c f):Fh c (Uj c f win)=K2 c f win:=Jtk fun w hw=>((Ha h).1 w hw).1
theorem Jbl {c:Cab} {f:Flt} {win:Int} (h:Yj c f):Je1 (K2 c f win):=Uh (Jhd (Hw fun w hw=>((Ha h).1 w hw).1))
theorem Jek {c:Cab} {f:Flt} {win:Int} (h:Yj c f) (a:Arr):a∈K2 c f win↔Lj c.1.length (a.1,a.2.1) (Kg c f win)∧a.2.2=Lu c.1.length (a.1,a.2.1) (Kg c f win):=by
 rw[←Jev fun w hw=>((Ha h).1 w hw).1]
 exact(Kw _).mem_iff
theorem Jon {c:Cab} {f:Flt} {win:Int} (h:Yj c f):Jvp (K2 c f win)∧(K2 c f win).length≤4374:=by
 have hH:∀w∈Kg c f win,wvH c w:=fun w hw=>((Ha h).1 w hw).1
 have hL:=(Ha (win:=win) h).2
 have ho:=Hw hH
 refine⟨fun a ha=> ?_, ?_⟩
 ·obtain⟨p,hp,rfl⟩:=List.mem_map.1 ((Kw _).mem_iff.1 ha)
  have:=ho.2.1 p hp
  show -80000000000000≤p.2∧p.2≤80000000000000
  omega
 ·unfold K2
  rw[(Kw _).length_eq,List.length_map]
  have:=ho.1;omega
def tree (c:Cab) (last:Int):Nat→Stp→List Stp
 |0,_=>[]
 |n+1,w=>if last<w.1 then[] else w::(Jk c w).flatMap (tree c last n)
theorem Jgs {c:Cab} {w x:Stp} (h:x∈Jk c w):x.2.2.2.1=w.2.2.2.1+1∧w.2.2.2.1≠6:=by
 unfold Jk at h
 split at h
 ·simp at h
 ·rename_i h6
  refine⟨?_,h6⟩
  split at h
  ·exact Hz h
  ·split at h
   ·exact Hz h
   ·rcases List.mem_append.1 h with h|h
    ·exact Hz h
    ·exact Hz h
theorem Zw {α β:Type} {l:List α} {f g:α→List β} (h:∀x∈l,f x=g x):l.flatMap f=l.flatMap g:=by
 induction l with
 |nil=>rfl
 |cons x l ih=>rw[List.flatMap_cons,List.flatMap_cons,h x (by simp),ih fun y hy=>h y (by simp[hy])]
theorem Jer {c:Cab} {last:Int}:∀{n m:Nat} {w:Stp},(0≤w.2.2.2.1∧w.2.2.2.1≤6)→(7:Int)≤n+w.2.2.2.1→(7:Int)≤m+w.2.2.2.1→tree c last n w=tree c last m w
 |0,_,_,h,h1,_=>by omega
 |_+1,0,_,h,_,h2=>by omega
 | n + 1, m + 1, w, h, h1, h2 => by
  simp only[tree]
  split
  ·rfl
  ·refine congrArg _ (Zw fun x hx=> ?_)
   have:=Jgs hx
   exact Jer (by omega) (by omega) (by omega)
theorem Jei {c:Cab} {last:Int} (hv:Y7 c):∀{n:Nat} {l:List Stp},(∀w∈l,wvH c w)→wtL l≤n→(bfs c last n l).Perm (l.flatMap (tree c last 7))
 |0,[],_,_=>by simp[bfs]
 |0,w::r,_,h=>by have:=Xr w;simp only[wtL] at h;omega
 |n+1,[],_,_=>by simp[bfs]
 | n + 1, w :: r, hl, h1 => by
  have hp:=Xr w
  have hw:=hl w (by simp)
  have hc:=Zj (c:=c) hw.1
  simp only[wtL] at h1
  simp only[bfs,List.flatMap_cons]
  have e:tree c last 7 w=if last<w.1 then[] else w::(Jk c w).flatMap (tree c last 6):=rfl
  rw[e]
  split
  ·exact Jei hv (fun x hx=>hl x (by simp[hx])) (by omega)
  ·have ih:=Jei (last:=last) hv (l:=r++Jk c w) (n:=n) (fun x hx=>Jop hv hl x hx) (by rw[Km];omega)
   rw[List.flatMap_append] at ih
   have e2:(Jk c w).flatMap (tree c last 7)=(Jk c w).flatMap (tree c last 6):=Zw fun x hx=>by
    have h3:=Jgs hx
    have h4:=(Dm hv hw hx).1
    have:=hw.1
    exact Jer h4 (by omega) (by omega)
   rw[e2] at ih
   exact(ih.trans List.perm_append_comm).cons w
theorem X9 {c:Cab} {f:Flt} {win:Int} (h:Yj c f):(Kg c f win).Perm ((Ho c f).flatMap (tree c (f.2.2.1+win) 7)):=Jei h.1 (Dc h) (Nat.le_refl _)
theorem Jcv {c:Cab} {last:Int}:∀(n:Nat) (w:Stp),(tree c last n w).length+1≤2^n
 |0,_=>by simp[tree]
 | n + 1, w => by
  simp only[tree]
  have hp:0<2^n:=Nat.pow_pos (by omega)
  rw[Nat.pow_succ]
  split
  ·simp;omega
  ·have key:∀l:List Stp,(l.flatMap (tree c last n)).length+l.length≤l.length*2^n:=by
    intro l
    induction l with
    |nil=>simp
    |cons x l ih=>
     have:=Jcv (c:=c) (last:=last) n x
     rw[List.flatMap_cons,List.length_append,List.length_cons,Nat.add_mul,Nat.one_mul];omega
   have h1:=key (Jk c w)
   have h2:=Jbf c w
   have h3:(Jk c w).length*2^n≤(Jk c w).length*2^n+(2-(Jk c w).length)*(2^n-1):=Nat.le_add_right _ _
   simp only[List.length_cons]
   have:(Jk c w).length=0∨(Jk c w).length=1∨(Jk c w).length=2:=by omega
   rcases this with e|e|e<;>rw[e] at h1<;>omega
theorem Jlr {c:Cab} {f:Flt} {win:Int} (h:Yj c f):(Kg c f win).length≤254:=by
 rw[(X9 h).length_eq]
 simp only[Ho,List.flatMap_cons,List.flatMap_nil,List.append_nil,List.length_append]
 have h1:=Jcv (c:=c) (last:=f.2.2.1+win) 7 (f.2.2.1+f.2.1,f.1,false,0,f.2.2.2*262144)
 have h2:=Jcv (c:=c) (last:=f.2.2.1+win) 7 (f.2.2.1+((c.1.getD f.1.toNat (0,0)).2-f.2.1),f.1+1,true,0,f.2.2.2*262144)
 omega
def sg (d:Bool):Int:=bif d then 1 else -1
def Zo (c:Cab) (b:Int):Int:=(Kv (c.1.take b.toNat)).2
theorem Xc {c:Cab} {b:Int} (h0:0≤b) (h1:b<c.1.length):Zo c (b+1)=Zo c b+(c.1.getD b.toNat (0,0)).2:=by
 unfold Zo
 rw[show(b+1).toNat=b.toNat+1 by omega,Fr (by omega)]
theorem Ze (c:Cab):Zo c 0=0:=rfl
theorem H5 (c:Cab):Zo c c.1.length=(Kv c.1).2:=by
 unfold Zo
 rw[Int.toNat_natCast,List.take_length]
theorem Hy {c:Cab} {w x:Stp} {r:Bool} {k:Int} (hv:Y7 c) (h:x∈Kq c w r k):(x.2.2.1=r∧x.2.1=w.2.1+sg r∧x.2.2.2.2=hgt w k∧hgt w k≠0)∧(0≤x.2.1∧x.2.1≤c.1.length)∧∃δ,(1≤δ∧δ≤64)∧x.1=w.1+δ∧Zo c x.2.1=Zo c w.2.1+sg r*δ:=by
 unfold Kq at h
 split at h
 ·simp at h
 rename_i hn
 simp only[List.mem_singleton] at h
 have b:=hv.2.2.1 _ (Jp (d:=(0,0)) (l:=c.1) (k:=(K6 w r).2.toNat) (by omega))
 subst h
 unfold K6 at hn b⊢
 cases r
 ·simp only[cond_false] at hn b⊢
  refine⟨⟨trivial,by unfold sg;simp only[cond_false];omega,trivial,fun e=>hn (.inl e)⟩,by omega,_,⟨b.2.2.1,b.2.2.2⟩,rfl, ?_⟩
  have:=Xc (c:=c) (b:=w.2.1-1) (by omega) (by omega)
  rw[show w.2.1-1+1=w.2.1 by omega] at this
  unfold sg;simp only[cond_false];omega
 ·simp only[cond_true] at hn b⊢
  refine⟨⟨trivial,by unfold sg;simp only[cond_true],trivial,fun e=>hn (.inl e)⟩,by omega,_,⟨b.2.2.1,b.2.2.2⟩,rfl, ?_⟩
  have:=Xc (c:=c) (b:=w.2.1) (by omega) (by omega)
  unfold sg;simp only[cond_true];omega
theorem Jck {c:Cab} {w x:Stp} (h:x∈Jk c w):∃r k,x∈Kq c w r k:=by
 unfold Jk at h
 split at h
 ·simp at h
 ·split at h
  ·exact⟨_,_,h⟩
  ·split at h
   ·exact⟨_,_,h⟩
   ·rcases List.mem_append.1 h with h|h
    ·exact⟨_,_,h⟩
    ·exact⟨_,_,h⟩
def slk (T p:Int) (c:Cab) (d:Bool) (w:Stp):Int:=w.1-T-sg d*(Zo c w.2.1-p)
theorem Ff {T p:Int} {c:Cab} {w x:Stp} {d r:Bool} {k:Int} (hv:Y7 c) (h:x∈Kq c w r k):slk T p c d w≤slk T p c d x∧(r=d→slk T p c d x=slk T p c d w)∧(r≠d→slk T p c d w<slk T p c d x):=by
 obtain⟨_,_,δ,hd,e1,e2⟩:=Hy hv h
 unfold slk
 rw[e1,e2]
 generalize Zo c w.2.1=q
 cases d<;>cases r<;>simp only[sg,cond_true,cond_false,ne_eq,not_true_eq_false,not_false_eq_true,reduceCtorEq,forall_const,false_implies,and_true,true_and]<;>omega
theorem Jn6 {T p:Int} {c:Cab} {w x:Stp} {d:Bool} (hv:Y7 c) (h:x∈Jk c w):slk T p c d w≤slk T p c d x:=by
 obtain⟨r,k,h⟩:=Jck h
 exact(Ff hv h).1
theorem Jcu {T p:Int} {c:Cab} {last:Int} {d:Bool} (hv:Y7 c):∀{n:Nat} {w x:Stp},x∈tree c last n w→slk T p c d w≤slk T p c d x
 |0,_,_,h=>by simp[tree] at h
 | n + 1, w, x, h => by
  simp only[tree] at h
  split at h
  ·simp at h
  ·rcases List.mem_cons.1 h with rfl|h
   ·omega
   ·obtain⟨y,hy,h⟩:=List.mem_flatMap.1 h
    have h1:=Jn6 (T:=T) (p:=p) (d:=d) hv hy
    have h2:=Jcu (T:=T) (p:=p) (d:=d) hv h
    omega
def Ja9 (c:Cab) (d:Bool):Int:=bif d then c.1.length else 0
def Vd (d:Bool):ByteArray:=bif d then sB else sA
def Vn (T p:Int) (c:Cab) (d:Bool):Int:=T+sg d*(Zo c (Ja9 c d)-p)
theorem sAB:sA≠sB:=by
 intro h
 have:=congrArg (fun x=>x.data.toList) h
 revert this;decide
theorem Jhu {c:Cab} {d:Bool} {t:Int} {x:Stp} (hv:Y7 c) (h:Jf4 c.1.length (t,Vd d) x):x.2.1=Ja9 c d∧x.1=t:=by
 obtain⟨h1,h2,h3⟩:=h
 refine⟨?_,h2⟩
 have hn:=hv.1
 unfold Hs at h3
 unfold Vd at h3
 unfold Ja9
 cases d
 ·simp only[cond_false] at h3⊢
  by_cases e:x.2.1=0
  ·exact e
  ·rw[if_neg e] at h3;exact absurd h3.symm sAB
 ·simp only[cond_true] at h3⊢
  by_cases e:x.2.1=0
  ·rw[if_pos e] at h3;exact absurd h3 sAB
  ·exact h1.resolve_left e
theorem Jui {c:Cab} {d:Bool} {x:Stp} (hv:Y7 c) (h:x.2.1=Ja9 c d):Jf4 c.1.length (x.1,Vd d) x:=by
 have hn:=hv.1
 refine⟨?_,rfl, ?_⟩
 ·unfold Ja9 at h
  cases d
  ·exact .inl h
  ·exact .inr h
 ·unfold Ja9 at h;unfold Hs Vd
  cases d
  ·simp only[cond_false] at h⊢;rw[if_pos h]
  ·simp only[cond_true] at h⊢;rw[if_neg (by omega)]
theorem Jht {T p:Int} {c:Cab} {d:Bool} {x:Stp} (h:x.2.1=Ja9 c d):x.1=Vn T p c d+slk T p c d x:=by
 unfold slk Vn;rw[h];omega
theorem Lf {T p:Int} {c:Cab} {d:Bool} {last:Int} {n:Nat} {w:Stp} (hv:Y7 c) (h:0<slk T p c d w):¬Lj c.1.length (Vn T p c d,Vd d) (tree c last n w):=by
 rintro⟨x,hx,hk⟩
 obtain⟨h1,h2⟩:=Jhu hv hk
 have h3:=Jcu (T:=T) (p:=p) (d:=d) hv hx
 have h4:=Jht (T:=T) (p:=p) h1
 omega
def Jbi (c:Cab) (d:Bool):Nat→Int→Int→Int
 |0,_,h=>h
 |m+1,b,h=>Jbi c d m (b+sg d) ((h*(8+sg d*c.2.1.getD (b-1).toNat 0)).tdiv 8)
theorem Jcl (c:Cab) (d:Bool):∀(m:Nat) (b:Int),Jbi c d m b 0=0
 |0,_=>rfl
 |m+1,b=>by simp only[Jbi];rw[Int.zero_mul];exact Jcl c d m _
theorem Jnu (c:Cab) (w:Stp):Fm c w=sg w.2.2.1*c.2.1.getD (w.2.1-1).toNat 0:=by
 unfold Fm sg
 cases w.2.2.1
 ·simp only[cond_false];omega
 ·simp only[cond_true];omega
theorem Jf7 {n:Int} {k:Key} {l:List Stp} {w:Stp}:Lj n k (w::l)↔Jf4 n k w∨Lj n k l:=by
 constructor
 ·rintro⟨x,hx,hk⟩
  rcases List.mem_cons.1 hx with rfl|hx
  ·exact .inl hk
  ·exact .inr ⟨x,hx,hk⟩
 ·rintro(hk|⟨x,hx,hk⟩)
  ·exact⟨w,by simp,hk⟩
  ·exact⟨x,by simp[hx],hk⟩
theorem Jay {n:Int} {k:Key} {l r:List Stp}:Lj n k (l++r)↔Lj n k l∨Lj n k r:=by
 constructor
 ·rintro⟨x,hx,hk⟩
  rcases List.mem_append.1 hx with hx|hx
  ·exact .inl ⟨x,hx,hk⟩
  ·exact .inr ⟨x,hx,hk⟩
 ·rintro(⟨x,hx,hk⟩|⟨x,hx,hk⟩)
  ·exact⟨x,by simp[hx],hk⟩
  ·exact⟨x,by simp[hx],hk⟩
theorem Jf6 {n:Int} {k:Key} {l:List Stp} {g:Stp→List Stp} (h:∀x∈l,¬Lj n k (g x)):¬Lj n k (l.flatMap g):=by
 rintro⟨y,hy,hk⟩
 obtain⟨x,hx,hy⟩:=List.mem_flatMap.1 hy
 exact h x hx ⟨y,hy,hk⟩
theorem Jbc {T p last:Int} {c:Cab} {d:Bool} (hv:Y7 c):∀(m n:Nat) (w:Stp),m<n→w.2.2.1=d→w.2.1+sg d*m=Ja9 c d→(bif d then 1≤w.2.1 else w.2.1<c.1.length)→(0≤w.2.1∧w.2.1≤c.1.length)→(0≤w.2.2.2.1∧w.2.2.2.1+m≤6)→slk T p c d w=0→Vn T p c d≤last→w.2.2.2.2≠0→
  (Lj c.1.length (Vn T p c d,Vd d) (tree c last n w)↔Jbi c d m w.2.1 w.2.2.2.2≠0)∧Lu c.1.length (Vn T p c d,Vd d) (tree c last n w)=Jbi c d m w.2.1 w.2.2.2.2
 |_,0,_,hn,_,_,_,_,_,_,_,_=>by omega
 | 0, n + 1, w, _, hr, he, hs, hb, hh, h0, hl, hz => by
  have he:w.2.1=Ja9 c d:=by
   have:=he
   rw[show((0:Nat):Int)=0 from rfl,Int.mul_zero] at this;omega
  have ht:=Jht (T:=T) (p:=p) he
  rw[h0,Int.add_zero] at ht
  have hit:=Jui hv he
  rw[ht] at hit
  simp only[tree,Jbi]
  rw[if_neg (by omega)]
  have hno : ¬ Lj c.1.length (Vn T p c d, Vd d) ((Jk c w).flatMap (tree c last n)) := by
   refine Jf6 fun x hx=>Lf hv ?_
   have hx:∃k,x∈Kq c w (!d) k:=by
    unfold Jk at hx
    split at hx
    ·simp at hx
    ·split at hx
     ·rename_i e
      cases d
      ·exact⟨_,hx⟩
      ·exfalso
       have hs:(1:Int)≤w.2.1:=hs
       omega
     ·rename_i e
      split at hx
      ·rename_i e2
       cases d
       ·exfalso;exact e he
       ·exact⟨_,hx⟩
      ·rename_i e2
       exfalso
       cases d
       ·exact e he
       ·exact e2 he
   obtain⟨k,hx⟩:=hx
   have:=(Ff (T:=T) (p:=p) (d:=d) hv hx).2.2 (by cases d<;>decide)
   omega
  rw[Jf7,Lu,if_pos hit,Vx hno,Int.add_zero]
  exact⟨⟨fun _=>hz,fun _=> .inl hit⟩,rfl⟩
 | m + 1, n + 1, w, hn, hr, he, hs, hb, hh, h0, hl, hz => by
  have hne:w.2.1≠0∧w.2.1≠c.1.length:=by
   unfold Ja9 at he;unfold sg at he
   cases d
   ·simp only[cond_false] at he hs
    have hs:w.2.1<c.1.length:=hs
    omega
   ·simp only[cond_true] at he hs
    have hs:1≤w.2.1:=hs
    omega
  have hnot:¬Jf4 c.1.length (Vn T p c d,Vd d) w:=fun q=>q.1.elim hne.1 hne.2
  have hlt:¬last<w.1:=by
   have h1:w.1≤Vn T p c d:=by
    have hmono:∀(k:Nat) (b:Int),0≤b→b+k≤c.1.length→Zo c b≤Zo c (b+k):=by
     intro k
     induction k with
     |zero=>intro b _ _;rw[show b+((0:Nat):Int)=b by omega];omega
     |succ k ih=>
      intro b h1 h2
      have:=ih b h1 (by omega)
      have h3:=Xc (c:=c) (b:=b+k) (by omega) (by omega)
      have b3:=hv.2.2.1 _ (Jp (d:=(0,0)) (l:=c.1) (k:=(b+k).toNat) (by omega))
      rw[show b+((k+1:Nat):Int)=b+k+1 by omega];omega
    unfold slk at h0
    unfold Vn
    cases d
    ·unfold Ja9 sg at*
     simp only[cond_false] at*
     have:=hmono (m+1) 0 (by omega) (by omega)
     rw[show(0:Int)+((m+1:Nat):Int)=w.2.1 by omega] at this
     omega
    ·unfold Ja9 sg at*
     simp only[cond_true] at*
     have:=hmono (m+1) w.2.1 (by omega) (by omega)
     rw[show w.2.1+((m+1:Nat):Int)=c.1.length by omega] at this
     omega
   omega
  simp only[tree,Jbi]
  rw[if_neg hlt]
  have ec:Jk c w=Kq c w d (8+sg d*c.2.1.getD (w.2.1-1).toNat 0)++Kq c w (!d) (sg d*c.2.1.getD (w.2.1-1).toNat 0):=by
   unfold Jk
   rw[if_neg (by omega),if_neg hne.1,if_neg hne.2,Jnu,hr]
  rw[ec,List.flatMap_append]
  have hno:¬Lj c.1.length (Vn T p c d,Vd d) ((Kq c w (!d) (sg d*c.2.1.getD (w.2.1-1).toNat 0)).flatMap (tree c last n)):=by
   refine Jf6 fun x hx=>Lf hv ?_
   have:=(Ff (T:=T) (p:=p) (d:=d) hv hx).2.2 (by cases d<;>decide)
   omega
  rw[Jf7,Jay,Lu,if_neg hnot,U2,Vx hno,Int.zero_add,Int.add_zero]
  have hor:∀q r:Prop,¬q→¬r→∀s:Prop,((q∨s∨r)↔s):=fun q r h1 h2 s=>⟨fun h=>h.elim (absurd · h1) (·.elim id (absurd · h2)),fun h=> .inr (.inl h)⟩
  rw[hor _ _ hnot hno]
  have hH:(w.2.2.2.2*(8+sg d*c.2.1.getD (w.2.1-1).toNat 0)).tdiv 8=hgt w (8+sg d*c.2.1.getD (w.2.1-1).toNat 0):=rfl
  rw[hH]
  by_cases hz2:hgt w (8+sg d*c.2.1.getD (w.2.1-1).toNat 0)=0
  ·have es:Kq c w d (8+sg d*c.2.1.getD (w.2.1-1).toNat 0)=[]:=by unfold Kq;rw[if_pos (.inl hz2)]
   rw[es,hz2,Jcl]
   exact⟨⟨fun⟨x,hx,_⟩=>by simp at hx,fun h=>absurd rfl h⟩,rfl⟩
  ·have es:∃x,Kq c w d (8+sg d*c.2.1.getD (w.2.1-1).toNat 0)=[x]:=by
    unfold Kq
    rw[if_neg]
    ·exact⟨_,rfl⟩
    ·unfold K6
     cases d
     ·simp only[cond_false];omega
     ·simp only[cond_true];omega
   obtain⟨x,es⟩:=es
   have hx:x∈Kq c w d (8+sg d*c.2.1.getD (w.2.1-1).toNat 0):=by rw[es];simp
   obtain⟨⟨x1,x2,x3,_⟩,x4,_⟩:=Hy hv hx
   have x5:=Hz hx
   have x6:=(Ff (T:=T) (p:=p) (d:=d) hv hx).2.1 rfl
   have ih:=Jbc (T:=T) (p:=p) (last:=last) (d:=d) hv m n x (by omega) x1 (by
    rw[x2]
    have:sg d*((m+1:Nat):Int)=sg d*m+sg d:=by rw[Int.natCast_succ,Int.mul_add,Int.mul_one]
    omega) (by
    rw[x2]
    cases d
    ·show w.2.1+sg false<c.1.length
     unfold sg;simp only[cond_false]
     have hs:w.2.1<c.1.length:=hs
     omega
    ·show 1≤w.2.1+sg true
     unfold sg;simp only[cond_true]
     have hs:1≤w.2.1:=hs
     omega) x4 (by omega) (by omega) hl (by rw[x3];exact hz2)
   rw[es,List.flatMap_cons,List.flatMap_nil,List.append_nil,←x2,←x3]
   exact ih
def Jnv (c:Cab) (d:Bool) (b:Int):Int:=8+sg d*c.2.1.getD (b-1).toNat 0
def L3 (c:Cab) (d:Bool):Nat→Int→Int
 |0,_=>1
 |m+1,b=>Jnv c d b*L3 c d m (b+sg d)
theorem Jbh (c:Cab) (d:Bool):∀(m:Nat) (b h:Int),Jbi c d m b (h*8^m)=h*L3 c d m b
 |0,_,h=>by simp[Jbi,L3]
 | m + 1, b, h => by
  simp only[Jbi,L3]
  have e:(h*8^(m+1)*(8+sg d*c.2.1.getD (b-1).toNat 0)).tdiv 8=h*Jnv c d b*8^m:=by
   have:h*8^(m+1)*(8+sg d*c.2.1.getD (b-1).toNat 0)=8*(h*Jnv c d b*8^m):=by
    unfold Jnv;rw[Int.pow_succ];grind
   rw[this,Int.mul_tdiv_cancel_left _ (by decide)]
  rw[e,Jbh c d m,Int.mul_assoc]
theorem Jb9 {c:Cab} {d:Bool}:∀{m:Nat} {b:Int},L3 c d m b=0→∃i:Nat,i<m∧Jnv c d (b+sg d*i)=0
 |0,_,h=>by simp[L3] at h
 | m + 1, b, h => by
  simp only[L3] at h
  rcases Int.mul_eq_zero.1 h with h|h
  ·exact⟨0,by omega,by rw[show b+sg d*((0:Nat):Int)=b by simp];exact h⟩
  ·obtain⟨i,hi,h⟩:=Jb9 h
   refine⟨i+1,by omega, ?_⟩
   rw[show b+sg d*((i+1:Nat):Int)=b+sg d+sg d*i by rw[Int.natCast_succ,Int.mul_add,Int.mul_one];omega]
   exact h
def Jpe (d:Bool) (j:Int) (w:Stp):Prop:=1≤sg d*(j-w.2.1)∨(w.2.1=j∧w.2.2.1=d)
theorem Jkv {c:Cab} {d:Bool} {j:Int} {w x:Stp} (hv:Y7 c) (hj:1≤j∧j<c.1.length) (hz:Jnv c d j=0) (hw:Jpe d j w) (h:x∈Jk c w):Jpe d j x:=by
 have far:∀r k,x∈Kq c w r k→1≤sg d*(j-w.2.1)→Jpe d j x:=fun r k hx hn=>by
  obtain⟨⟨x1,x2,_⟩,_⟩:=Hy hv hx
  unfold Jpe
  rw[x1,x2]
  cases d<;>cases r<;>simp only[sg,cond_true,cond_false,reduceCtorEq,and_false,or_false,and_true] at* <;>omega
 rcases hw with hw|⟨h1,h2⟩
 ·obtain⟨r,k,hx⟩:=Jck h
  exact far r k hx hw
 ·unfold Jk at h
  split at h
  ·simp at h
  ·rw[if_neg (by omega),if_neg (by omega)] at h
   rcases List.mem_append.1 h with h|h
   ·exfalso
    have:=(Hy hv h).1.2.2.2
    refine this ?_
    have e:8+Fm c w=0:=by
     rw[Jnu,h1,h2];exact hz
    unfold hgt
    rw[e,Int.mul_zero];rfl
   ·obtain⟨⟨x1,x2,_⟩,_⟩:=Hy hv h
    unfold Jpe
    rw[x1,x2,h2,h1]
    cases d<;>simp only[sg,cond_true,cond_false,Bool.not_true,Bool.not_false,reduceCtorEq,and_false,or_false]<;>omega
theorem Jfv {c:Cab} {last:Int} {d:Bool} {j:Int} (hv:Y7 c) (hj:1≤j∧j<c.1.length) (hz:Jnv c d j=0):∀{n:Nat} {w x:Stp},Jpe d j w→x∈tree c last n w→Jpe d j x
 |0,_,_,_,h=>by simp[tree] at h
 | n + 1, w, x, hw, h => by
  simp only[tree] at h
  split at h
  ·simp at h
  ·rcases List.mem_cons.1 h with rfl|h
   ·exact hw
   ·obtain⟨y,hy,h⟩:=List.mem_flatMap.1 h
    exact Jfv hv hj hz (Jkv hv hj hz hw hy) h
def Jd (c:Cab) (f:Flt):Int:=Zo c f.1+f.2.1
def tkD (c:Cab) (f:Flt) (d:Bool):Int:=Vn f.2.2.1 (Jd c f) c d
def stD (f:Flt) (d:Bool):Int:=bif d then f.1+1 else f.1
def mD (c:Cab) (f:Flt) (d:Bool):Nat:=bif d then c.1.length-(f.1.toNat+1) else f.1.toNat
def prD (c:Cab) (f:Flt) (d:Bool):Int:=L3 c d (mD c f d) (stD f d)
def htD (c:Cab) (f:Flt) (d:Bool):Int:=Jbi c d (mD c f d) (stD f d) (f.2.2.2*262144)
def wD (c:Cab) (f:Flt) (d:Bool):Stp:=bif d then(f.2.2.1+((c.1.getD f.1.toNat (0,0)).2-f.2.1),f.1+1,true,0,f.2.2.2*262144) else(f.2.2.1+f.2.1,f.1,false,0,f.2.2.2*262144)
theorem Jqn {c:Cab} {f:Flt} {d:Bool} (h:Yj c f):mD c f d≤5:=by
 obtain⟨⟨_,v2,_⟩,g1,_⟩:=h
 unfold mD
 cases d
 ·simp only[cond_false];omega
 ·simp only[cond_true];omega
theorem Jiq {m:Nat} (h:m≤5):(262144:Int).tdiv (8^m)*8^m=262144∧1≤(262144:Int).tdiv (8^m):=by
 have:∀m,m<6→(262144:Int).tdiv (8^m)*8^m=262144∧1≤(262144:Int).tdiv (8^m):=by decide
 exact this m (by omega)
theorem Jni {c:Cab} {f:Flt} {d:Bool} (h:Yj c f):htD c f d=f.2.2.2*(262144:Int).tdiv (8^mD c f d)*prD c f d:=by
 unfold htD prD
 rw[←Jbh,Int.mul_assoc,(Jiq (Jqn h)).1]
theorem Jja {c:Cab} {f:Flt} {d:Bool} (h:Yj c f):htD c f d=0↔prD c f d=0:=by
 rw[Jni h]
 have h1:=(Jiq (Jqn (d:=d) h)).2
 have h2:=h.2.2.2.2.2
 constructor
 ·intro e
  rcases Int.mul_eq_zero.1 e with e|e
  ·rcases Int.mul_eq_zero.1 e with e|e
   ·exact absurd e h2
   ·omega
  ·exact e
 ·intro e;rw[e,Int.mul_zero]
theorem Xt {c:Cab} {f:Flt} {d:Bool} (h:Yj c f):f.2.2.1+1≤tkD c f d∧tkD c f d≤f.2.2.1+384:=by
 obtain⟨hv,g1,g2,_⟩:=h
 have b:=Vc hv.2.2.1
 have b1:=Vc (Jet hv.2.2.1 (f.1.toNat+1))
 have b0:=Vc (Jet hv.2.2.1 f.1.toNat)
 have e1:=Fr (l:=c.1) (k:=f.1.toNat) (by omega)
 have hd:∃r,(Kv c.1).2=(Kv (c.1.take (f.1.toNat+1))).2+r∧0≤r:=by
  refine⟨(Kv (c.1.drop (f.1.toNat+1))).2, ?_, ?_⟩
  ·have:∀l r:List (Int×Int),(Kv (l++r)).2=(Kv l).2+(Kv r).2:=fun l r=>by
    induction l with
    |nil=>simp[Kv]
    |cons x l ih=>simp only[List.cons_append,Kv,ih];omega
   rw[←this,List.take_append_drop]
  ·have:=Vc (l:=c.1.drop (f.1.toNat+1)) fun x hx=>hv.2.2.1 x (List.mem_of_mem_drop hx)
   omega
 obtain⟨r,hr,hr0⟩:=hd
 have e2:(Kv (c.1.take (f.1.toNat+1))).2=(Kv (c.1.take f.1.toNat)).2+(c.1.getD f.1.toNat (0,0)).2:=by rw[e1]
 have hl:=hv.2.1
 unfold tkD Vn Jd
 cases d
 ·unfold Ja9 sg;simp only[cond_false];rw[Ze]
  unfold Zo;omega
 ·unfold Ja9 sg;simp only[cond_true];rw[H5]
  unfold Zo;omega
theorem Jhz {c:Cab} {f:Flt} {d:Bool} {win:Int} (h:Yj c f) (hw:384≤win):
  (Lj c.1.length (tkD c f d,Vd d) (Kg c f win)↔htD c f d≠0)∧Lu c.1.length (tkD c f d,Vd d) (Kg c f win)=htD c f d:=by
 have hp:=X9 (win:=win) h
 rw[Jf5 hp,Jex hp]
 have hi:=Dc h
 have hv:=h.1
 obtain⟨_,g1,g2,g3,g4,g5⟩:=id h
 have ht:=Xt (d:=d) h
 have ei:Ho c f=[wD c f false,wD c f true]:=rfl
 rw[ei,List.flatMap_cons,List.flatMap_cons,List.flatMap_nil,List.append_nil,Jay,U2]
 have hz:f.2.2.2*262144≠0:=by omega
 have ps:=Xc (c:=c) (b:=f.1) (by omega) (by omega)
 have s0:slk f.2.2.1 (Jd c f) c false (wD c f false)=0:=by
  unfold slk Jd wD sg;simp only[cond_false];omega
 have s1:slk f.2.2.1 (Jd c f) c true (wD c f true)=0:=by
  unfold slk Jd wD sg;simp only[cond_true];rw[ps];omega
 have s2:0<slk f.2.2.1 (Jd c f) c true (wD c f false):=by
  unfold slk Jd wD sg;simp only[cond_true,cond_false];omega
 have s3:0<slk f.2.2.1 (Jd c f) c false (wD c f true):=by
  unfold slk Jd wD sg;simp only[cond_true,cond_false];rw[ps];omega
 have hm:=Jqn (d:=d) h
 have hs:(wD c f d).2.2.1=d∧(wD c f d).2.1=stD f d∧(wD c f d).2.2.2.2=f.2.2.2*262144∧(wD c f d).2.2.2.1=0:=by
  cases d<;>exact⟨rfl,rfl,rfl,rfl⟩
 have hsl:slk f.2.2.1 (Jd c f) c d (wD c f d)=0:=by cases d<;>assumption
 have key:=Jbc (T:=f.2.2.1) (p:=Jd c f) (last:=f.2.2.1+win) (d:=d) hv (mD c f d) 7 (wD c f d) (by omega) hs.1 (by
  rw[hs.2.1]
  unfold stD mD Ja9 sg
  cases d
  ·simp only[cond_false];omega
  ·simp only[cond_true];omega) (by
  rw[hs.2.1]
  unfold stD
  cases d
  ·show f.1<_;omega
  ·show 1≤f.1+1;omega) (by
  rw[hs.2.1]
  unfold stD
  cases d
  ·simp only[cond_false];omega
  ·simp only[cond_true];omega) (by rw[hs.2.2.2];omega) hsl (by unfold tkD at ht;omega) (by rw[hs.2.2.1];exact hz)
 rw[hs.2.1,hs.2.2.1] at key
 have kk:∀q:Prop,¬q→∀s:Prop,((q∨s)↔s)∧((s∨q)↔s):=fun q h1 s=>⟨⟨fun h=>h.elim (absurd · h1) id, .inr⟩,⟨fun h=>h.elim id (absurd · h1), .inl⟩⟩
 cases d
 ·have no:=Lf (last:=f.2.2.1+win) (n:=7) hv s3
  show(_∨Lj c.1.length (Vn f.2.2.1 (Jd c f) c false,Vd false) (tree c (f.2.2.1+win) 7 (wD c f true))↔_)∧_+Lu c.1.length (Vn f.2.2.1 (Jd c f) c false,Vd false) (tree c (f.2.2.1+win) 7 (wD c f true))=_
  rw[(kk _ no _).2,Vx no,Int.add_zero]
  exact key
 ·have no:=Lf (last:=f.2.2.1+win) (n:=7) hv s2
  show(Lj c.1.length (Vn f.2.2.1 (Jd c f) c true,Vd true) (tree c (f.2.2.1+win) 7 (wD c f false))∨_↔_)∧Lu c.1.length (Vn f.2.2.1 (Jd c f) c true,Vd true) (tree c (f.2.2.1+win) 7 (wD c f false))+_=_
  rw[(kk _ no _).1,Vx no,Int.zero_add]
  exact key
theorem Jlq {c:Cab} {f:Flt} {d:Bool} {win:Int} (h:Yj c f) {x:Stp} (hx:x∈Kg c f win):0≤slk f.2.2.1 (Jd c f) c d x:=by
 have hx:=(X9 h).mem_iff.1 hx
 obtain⟨y,hy,hx⟩:=List.mem_flatMap.1 hx
 have h1:=Jcu (T:=f.2.2.1) (p:=Jd c f) (d:=d) h.1 hx
 obtain⟨hv,g1,g2,_⟩:=h
 have ps:=Xc (c:=c) (b:=f.1) (by omega) (by omega)
 have:0≤slk f.2.2.1 (Jd c f) c d y:=by
  simp only[Ho,List.mem_cons,List.not_mem_nil,or_false] at hy
  rcases hy with rfl|rfl
  ·unfold slk Jd sg
   cases d<;>simp only[cond_true,cond_false]<;>omega
  ·unfold slk Jd sg
   dsimp only
   rw[ps]
   cases d<;>simp only[cond_true,cond_false]<;>omega
 omega
theorem Jke {c:Cab} {f:Flt} {d:Bool} {win:Int} (h:Yj c f) (hz:htD c f d=0) (t:Int):¬Lj c.1.length (t,Vd d) (Kg c f win):=by
 obtain⟨i,hi,hf⟩:=Jb9 ((Jja h).1 hz)
 obtain⟨hv,g1,g2,_⟩:=id h
 have hj:1≤stD f d+sg d*i∧stD f d+sg d*i<c.1.length:=by
  unfold mD at hi
  unfold stD sg
  cases d
  ·simp only[cond_false] at hi⊢;omega
  ·simp only[cond_true] at hi⊢;omega
 rintro⟨x,hx,hk⟩
 have hx:=(X9 h).mem_iff.1 hx
 obtain⟨y,hy,hx⟩:=List.mem_flatMap.1 hx
 have hn:Jpe d (stD f d+sg d*i) y:=by
  simp only[Ho,List.mem_cons,List.not_mem_nil,or_false] at hy
  unfold Jpe
  unfold stD sg at hj⊢
  rcases hy with rfl|rfl
  ·cases d
   ·simp only[cond_false] at hj⊢
    rcases Nat.eq_zero_or_pos i with h0|h0
    ·exact .inr ⟨by omega,trivial⟩
    ·exact .inl (by omega)
   ·simp only[cond_true] at hj⊢;omega
  ·cases d
   ·simp only[cond_false] at hj⊢;omega
   ·simp only[cond_true] at hj⊢
    rcases Nat.eq_zero_or_pos i with h0|h0
    ·exact .inr ⟨by omega,trivial⟩
    ·exact .inl (by omega)
 have hn:=Jfv hv hj hf hn hx
 obtain⟨h1,_⟩:=Jhu hv hk
 unfold Jpe at hn
 rw[h1] at hn
 unfold Ja9 stD sg at*
 cases d
 ·simp only[cond_false] at*;omega
 ·simp only[cond_true] at*;omega
theorem Yy {e:ByteArray} {a:Arr}:Jf0 e a=true↔a.2.1=e:=by
 unfold Jf0
 rw[beq_iff_eq]
 exact⟨Jj1,fun h=>by rw[h]⟩
theorem Jk8 {l:List Arr} {e:ByteArray} {a:Arr} (hs:Je1 l) (ha:a∈l) (he:a.2.1=e) (hm:∀b∈l,b.2.1=e→a.1≤b.1):Jk9 e l=some a:=by
 unfold Jk9
 cases hf:l.find? (Jf0 e) with
 |none=>
  have:=List.find?_eq_none.1 hf a ha
  exact absurd (Yy.2 he) this
 | some b =>
  obtain⟨hb,as1,as2,hl,has⟩:=List.find?_eq_some_iff_append.1 hf
  have hb:=Yy.1 hb
  have hbl:b∈l:=List.mem_of_find?_eq_some hf
  rw[hl] at ha hs
  rcases List.mem_append.1 ha with ha|ha
  ·have:=has a ha
   rw[Yy.2 he] at this;cases this
  ·rcases List.mem_cons.1 ha with rfl|ha
   ·rfl
   ·have h1:=(List.pairwise_cons.1 (List.pairwise_append.1 hs).2.1).1 a ha
    have h2:=hm b hbl hb
    exfalso
    rcases h1 with h1|⟨_,h1⟩
    ·omega
    ·rw[hb,he] at h1
     unfold bLt at h1;rw[Vb] at h1;cases h1
theorem Jq1 {c:Cab} {f:Flt} {d:Bool} {win:Int} (h:Yj c f) (hw:384≤win):Jk9 (Vd d) (K2 c f win)=if htD c f d=0 then none else some (tkD c f d,Vd d,htD c f d):=by
 have hd:=Jhz (d:=d) h hw
 split
 ·rename_i hz
  unfold Jk9
  rw[List.find?_eq_none]
  intro a ha q
  have q:=Yy.1 q
  have:=((Jek h a).1 ha).1
  rw[q] at this
  exact Jke h hz _ this
 ·rename_i hz
  refine Jk8 (Jbl h) ((Jek h _).2 ⟨hd.1.2 hz,hd.2.symm⟩) rfl fun b hb he=> ?_
  obtain⟨x,hx,hk⟩:=((Jek h b).1 hb).1
  rw[he] at hk
  obtain⟨h1,h2⟩:=Jhu h.1 hk
  have h3:=Jht (T:=f.2.2.1) (p:=Jd c f) h1
  have h4:=Jlq (d:=d) h hx
  show tkD c f d≤b.1
  unfold tkD;omega
theorem Ji7:isA sA=true:=by unfold isA;simp
theorem Jf1:isB sB=true:=by unfold isB;simp
theorem Ji6:isB sA=false:=by
 cases h:isB sA with
 |false=>rfl
 |true=>have:=Jdk sA h;rw[Ji7] at this;cases this
theorem Jr6:isA sB=false:=Jdk sB Jf1
theorem Jcj (e:ByteArray) (s:Int):∀(l:List Int) (i:Nat) (r:Int) (p:Int×Int),Uw e s i (l++[r]) p=Vo e s (i+l.length) r (Uw e s i l p)
 |[],i,r,p=>rfl
 |x::l,i,r,p=>by
  simp only[List.cons_append,Uw,List.length_cons]
  rw[Jcj e s l (i+1) r,show i+1+l.length=i+(l.length+1) by omega]
theorem X2 (e:ByteArray) (s:Int):∀(l r:List Int) (i:Nat) (p:Int×Int),Uw e s i (l++r) p=Uw e s (i+l.length) r (Uw e s i l p)
 |[],r,i,p=>rfl
 |x::l,r,i,p=>by
  simp only[List.cons_append,Uw,List.length_cons]
  rw[X2 e s l r (i+1),show i+1+l.length=i+(l.length+1) by omega]
theorem Jps {s r:Int} {i:Nat} {p:Int×Int} (h:(i:Int)<s):Vo sA s i r p=(p.1*(8-r),p.2*8):=by
 unfold Vo;rw[Ji6,Ji7,decide_eq_true h];rfl
theorem Jpt {s r:Int} {i:Nat} {p:Int×Int} (h:s≤(i:Int)):Vo sA s i r p=p:=by
 unfold Vo;rw[Ji6,Ji7,decide_eq_false (by omega:¬(i:Int)<s)];rfl
theorem Jpq {s r:Int} {i:Nat} {p:Int×Int} (h:(i:Int)<s):Vo sB s i r p=p:=by
 unfold Vo;rw[Jf1,Jr6,decide_eq_false (by omega)];rfl
theorem Jpr {s r:Int} {i:Nat} {p:Int×Int} (h:s≤(i:Int)):Vo sB s i r p=(p.1*(8+r),p.2*8):=by
 unfold Vo;rw[Jf1,decide_eq_true h];rfl
theorem Jsc {s:Int}:∀(l:List Int) (i:Nat) (p:Int×Int),s≤(i:Int)→Uw sA s i l p=p
 |[],_,_,_=>rfl
 |x::l,i,p,h=>by simp only[Uw];rw[Jpt h];exact Jsc l (i+1) p (by omega)
theorem Jsb {s:Int}:∀(l:List Int) (i:Nat) (p:Int×Int),(i:Int)+l.length≤s→Uw sB s i l p=p
 |[],_,_,_=>rfl
 |x::l,i,p,h=>by
  simp only[List.length_cons] at h
  simp only[Uw];rw[Jpq (by omega)];exact Jsb l (i+1) p (by omega)
theorem Jjd {c:Cab} {s:Int}:∀k:Nat,(k:Int)≤s→k≤c.2.1.length→Uw sA s 0 (c.2.1.take k) (1,1)=(L3 c false k k,8^k)
 |0,_,_=>rfl
 | k + 1, h1, h2 => by
  rw[←Kn (d:=(0:Int)) (by omega),Jcj,Jjd k (by omega) (by omega),Nat.zero_add,List.length_take,Nat.min_eq_left (by omega),Jps (by omega)]
  simp only[L3]
  have e1:Jnv c false ((k+1:Nat):Int)=8-c.2.1.getD k 0:=by
   unfold Jnv sg
   simp only[cond_false]
   rw[show(((k+1:Nat):Int)-1).toNat=k by omega];omega
  have e2:((k+1:Nat):Int)+sg false=(k:Int):=by unfold sg;simp only[cond_false];omega
  rw[e1,e2,Int.mul_comm,Int.pow_succ]
theorem Jjc {c:Cab} {s:Int}:∀(m k:Nat) (p:Int×Int),k+m=c.2.1.length→s≤(k:Int)→Uw sB s k (c.2.1.drop k) p=(p.1*L3 c true m (k+1),p.2*8^m)
 |0,k,p,h,_=>by rw[List.drop_of_length_le (by omega)];simp[Uw,L3]
 | m + 1, k, p, h, hs => by
  rw[V8 (d:=(0:Int)) (by omega)]
  simp only[Uw]
  rw[Jpr hs,Jjc m (k+1) _ (by omega) (by omega)]
  simp only[L3]
  have e1:Jnv c true ((k:Int)+1)=8+c.2.1.getD k 0:=by
   unfold Jnv sg
   simp only[cond_true]
   rw[show((k:Int)+1-1).toNat=k by omega,Int.one_mul]
  have e2:(k:Int)+1+sg true=((k+1:Nat):Int)+1:=by unfold sg;simp only[cond_true];omega
  rw[e1,e2,Int.mul_assoc,Int.mul_assoc,Int.pow_succ,Int.mul_comm 8]
theorem Ja8 {c:Cab} {f:Flt} {d:Bool} (h:Yj c f):Jw c f.1 (Vd d)=(prD c f d,8^mD c f d):=by
 obtain⟨hv,g1,g2,_⟩:=h
 have hj:=hv.2.2.2.1
 unfold Jw prD mD stD Vd
 cases d
 ·simp only[cond_false]
  rw[←List.take_append_drop f.1.toNat c.2.1,X2,Jsc _ _ _ (by rw[List.length_take,Nat.min_eq_left (by omega)];omega),Jjd _ (by omega) (by omega),show((f.1.toNat:Nat):Int)=f.1 by omega]
 ·simp only[cond_true]
  rw[←List.take_append_drop f.1.toNat c.2.1,X2,Jsb (c.2.1.take f.1.toNat) 0 _ (by rw[List.length_take,Nat.min_eq_left (by omega)];omega),List.length_take,Nat.min_eq_left (by omega),Nat.zero_add,Jjc (c.1.length-(f.1.toNat+1)) _ _ (by omega) (by omega),show((f.1.toNat:Nat):Int)=f.1 by omega,Int.one_mul,Int.one_mul]
theorem Jqw {c:Cab} {f:Flt} {d:Bool} (h:Yj c f):Jaw c f (Vd d)=htD c f d:=by
 unfold Jaw
 rw[Ja8 h,Jni h]
 exact(Jav (j:=mD c f d) (Jqn h) rfl).symm
theorem J6s {s:Int}:∀(l:List (Int×Int)) (i:Nat) (a:Int),(i:Int)≤s→s≤i+l.length→Ya (fun k=>decide ((k:Int)<s)) i l a=a+(Kv (l.take (s-i).toNat)).2
 |[],i,a,_,_=>by simp[Ya,Kv]
 | x :: r, i, a, h1, h2 => by
  simp only[List.length_cons] at h2
  simp only[Ya]
  by_cases e:(i:Int)<s
  ·rw[decide_eq_true e,cond_true,J6s r (i+1) _ (by omega) (by omega),show(s-(i:Int)).toNat=(s-((i+1:Nat):Int)).toNat+1 by omega,List.take_succ_cons]
   simp only[Kv];omega
  ·have:∀(l:List (Int×Int)) (j:Nat) (a:Int),s≤(j:Int)→Ya (fun k=>decide ((k:Int)<s)) j l a=a:=by
    intro l
    induction l with
    |nil=>intro j a _;rfl
    |cons y t ih=>intro j a hj;simp only[Ya];rw[decide_eq_false (by omega),cond_false];exact ih (j+1) a (by omega)
   rw[decide_eq_false e,cond_false,this r (i+1) a (by omega),show(s-(i:Int)).toNat=0 by omega]
   simp[Kv]
theorem J6r {s:Int}:∀(l:List (Int×Int)) (i:Nat) (a:Int),(i:Int)≤s+1→s+1≤i+l.length→Ya (fun k=>decide (s<(k:Int))) i l a=a+(Kv l).2-(Kv (l.take (s+1-i).toNat)).2
 |[],i,a,_,_=>by simp[Ya,Kv]
 | x :: r, i, a, h1, h2 => by
  simp only[List.length_cons] at h2
  simp only[Ya]
  by_cases e:s<(i:Int)
  ·have:∀(l:List (Int×Int)) (j:Nat) (a:Int),s<(j:Int)→Ya (fun k=>decide (s<(k:Int))) j l a=a+(Kv l).2:=by
    intro l
    induction l with
    |nil=>intro j a _;simp[Ya,Kv]
    |cons y t ih=>intro j a hj;simp only[Ya,Kv];rw[decide_eq_true hj,cond_true,ih (j+1) _ (by omega)];omega
   rw[decide_eq_true e,cond_true,this r (i+1) _ (by omega),show(s+1-(i:Int)).toNat=0 by omega]
   simp only[Kv,List.take_zero];omega
  ·rw[decide_eq_false e,cond_false,J6r r (i+1) _ (by omega) (by omega),show(s+1-(i:Int)).toNat=(s+1-((i+1:Nat):Int)).toNat+1 by omega,List.take_succ_cons]
   simp only[Kv];omega
theorem Jv8 {c:Cab} {f:Flt} {d:Bool} (h:Yj c f):Jkf c f (Vd d)=tkD c f d:=by
 obtain⟨hv,g1,g2,_⟩:=h
 have ps:=Xc (c:=c) (b:=f.1) (by omega) (by omega)
 unfold Jkf tkD Vn Jd Vd Ja9 sg
 cases d
 ·simp only[cond_false]
  rw[Ji6,cond_false,Yq (q':=fun k=>decide ((k:Int)<f.1)) (fun i=>by unfold qR;rw[Ji7,Ji6];cases decide ((i:Int)<f.1)<;>rfl),J6s _ _ _ (by omega) (by omega),Ze,show(f.1-((0:Nat):Int)).toNat=f.1.toNat by omega]
  unfold Zo;omega
 ·simp only[cond_true]
  rw[Jf1,cond_true,Yq (q':=fun k=>decide (f.1<(k:Int))) (fun i=>by unfold qR;rw[Jr6,Jf1];rfl),J6r _ _ _ (by omega) (by omega),H5,show(f.1+1-((0:Nat):Int)).toNat=(f.1+1).toNat by omega]
  have:Zo c (f.1+1)=(Kv (c.1.take (f.1+1).toNat)).2:=rfl
  rw[←this,ps];omega
theorem Jjq (d:Bool):Jhx (Vd d)=0:=by
 unfold Jhx Vd
 cases d
 ·simp only[cond_false];simp
 ·simp only[cond_true];simp
def leF (x y:Int×Int):Prop:=x.1*y.2≤y.1*x.2
theorem Uo {n d:Int} (h:0<d):(Jr n d).1*d=n*(Jr n d).2∧0<(Jr n d).2:=by
 have hg:=Ye (n:=n) h
 obtain⟨a,ha⟩:Y0 n d∣n:=Int.gcd_dvd_left n d
 obtain⟨b,hb⟩:Y0 n d∣d:=Int.gcd_dvd_right n d
 have e1:n.tdiv (Y0 n d)=a:=by
  have:=Int.mul_tdiv_cancel_left a (by omega:Y0 n d≠0)
  rw[←ha] at this;exact this
 have e2:d.tdiv (Y0 n d)=b:=by
  have:=Int.mul_tdiv_cancel_left b (by omega:Y0 n d≠0)
  rw[←hb] at this;exact this
 refine⟨?_,Jes h⟩
 show n.tdiv (Y0 n d)*d=n*d.tdiv (Y0 n d)
 rw[e1,e2]
 generalize Y0 n d=g at ha hb
 rw[ha,hb];grind
theorem Jiy {a b c d:Int} (hb:0<b) (hd:0<d) (h:a*d≤c*b):leF (Jr a b) (Jr c d):=by
 obtain⟨h1,h2⟩:=Uo (n:=a) hb
 obtain⟨h3,h4⟩:=Uo (n:=c) hd
 unfold leF
 generalize(Jr a b).1=p at*
 generalize(Jr a b).2=q at*
 generalize(Jr c d).1=r at*
 generalize(Jr c d).2=s at*
 have hbd:0<b*d:=Int.mul_pos hb hd
 have hqs:0≤q*s:=Int.le_of_lt (Int.mul_pos h2 h4)
 have e1:p*s*(b*d)=a*d*(q*s):=by grind
 have e2:r*q*(b*d)=c*b*(q*s):=by grind
 have:=Int.mul_le_mul_of_nonneg_right h hqs
 rw[←e1,←e2] at this
 exact Int.le_of_mul_le_mul_right this hbd
theorem Jn1 {p q s:Int} (h:Int.gcd p q=1) (hd:q∣p*s):q∣s:=by
 have h1:=Int.natAbs_dvd_natAbs.2 hd
 rw[Int.natAbs_mul] at h1
 have h2:Nat.Coprime q.natAbs p.natAbs:=by
  show Nat.gcd q.natAbs p.natAbs=1
  rw[Nat.gcd_comm];exact h
 exact Int.natAbs_dvd_natAbs.1 (h2.dvd_of_dvd_mul_left h1)
theorem Jwl {a b c d:Int} (hb:0<b) (hd:0<d) (h:a*d=c*b):Jr a b=Jr c d:=by
 have hg1:=Ye (n:=a) hb
 have hg2:=Ye (n:=c) hd
 -- both are in lowest terms
 have key:∀{n d:Int},0<d→Int.gcd (Jr n d).1 (Jr n d).2=1:=by
  intro n d h
  have hg:=Ye (n:=n) h
  have hp:0<Int.gcd n d:=by unfold Y0 at hg;omega
  have e1:n.tdiv (Y0 n d)=n/Y0 n d:=Int.tdiv_eq_ediv_of_dvd (Int.gcd_dvd_left n d)
  have e2:d.tdiv (Y0 n d)=d/Y0 n d:=Int.tdiv_eq_ediv_of_dvd (Int.gcd_dvd_right n d)
  show Int.gcd (n.tdiv (Y0 n d)) (d.tdiv (Y0 n d))=1
  rw[e1,e2]
  exact Int.gcd_ediv_gcd_ediv_gcd hp
 obtain⟨h1,h2⟩:=Uo (n:=a) hb
 obtain⟨h3,h4⟩:=Uo (n:=c) hd
 have k1:=key (n:=a) hb
 have k2:=key (n:=c) hd
 have hx:(Jr a b).1*(Jr c d).2=(Jr c d).1*(Jr a b).2:=by
  generalize(Jr a b).1=p at*
  generalize(Jr a b).2=q at*
  generalize(Jr c d).1=r at*
  generalize(Jr c d).2=s at*
  have hbd:b*d≠0:=by have:=Int.mul_pos hb hd;omega
  have e1:p*s*(b*d)=a*d*(q*s):=by grind
  have e2:r*q*(b*d)=c*b*(q*s):=by grind
  rw[h,←e2] at e1
  exact Int.eq_of_mul_eq_mul_right hbd e1
 generalize Jr a b=x at*
 generalize Jr c d=y at*
 obtain⟨p,q⟩:=x
 obtain⟨r,s⟩:=y
 dsimp only at*
 -- q divides s, s divides q
 have d1:q∣s:=by
  have:q∣p*s:=⟨r,by rw[hx,Int.mul_comm]⟩
  exact Jn1 k1 this
 have d2:s∣q:=by
  have:s∣r*q:=⟨p,by rw[←hx,Int.mul_comm]⟩
  exact Jn1 k2 this
 have e:q=s:=Int.dvd_antisymm (Int.le_of_lt h2) (Int.le_of_lt h4) d1 d2
 subst e
 have:p=r:=Int.eq_of_mul_eq_mul_right (by omega) hx
 rw[this]
abbrev okL (l:List (Int×Int)):Prop:=∀x∈l,1≤x.1∧x.1≤100000∧1≤x.2∧x.2≤64
theorem L8 (a:Int):Jr a 1=(a,1):=Jcf a
theorem Jis {l:List (Int×Int)}:∀{a n:Int},okL l→0≤n→leF (a,1) (Je 2 l a n):=by
 induction l with
 |nil=>intro a n _ _;simp only[Je];rw[L8];unfold leF;omega
 | cons s r ih =>
  intro a n h hn
  have hs:=h s (by simp)
  simp only[Je]
  split
  ·rw[←L8 a]
   refine Jiy (by decide) (by omega) ?_
   have:0≤s.1*n:=Int.mul_nonneg (by omega) hn
   rw[Int.mul_one,Int.mul_assoc];omega
  ·have:=ih (a:=a+s.1) (n:=n-s.2*2) (fun x hx=>h x (by simp[hx])) (by omega)
   unfold leF at this⊢
   dsimp only at this⊢
   have hp:0≤(Je 2 r (a+s.1) (n-s.2*2)).2:=by
    rcases Int.lt_or_le (Je 2 r (a+s.1) (n-s.2*2)).2 0 with q|q
    ·exfalso
     have hpos:∀(l:List (Int×Int)) (a n:Int),okL l→0<(Je 2 l a n).2:=by
      intro l
      induction l with
      |nil=>intro a n _;simp only[Je];exact(Uo (by decide)).2
      |cons s r ih=>
       intro a n h
       have hs:=h s (by simp)
       simp only[Je]
       split
       ·exact(Uo (by omega)).2
       ·exact ih _ _ fun x hx=>h x (by simp[hx])
     have:=hpos r (a+s.1) (n-s.2*2) fun x hx=>h x (by simp[hx])
     omega
    ·exact q
   have:a*(Je 2 r (a+s.1) (n-s.2*2)).2≤(a+s.1)*(Je 2 r (a+s.1) (n-s.2*2)).2:=Int.mul_le_mul_of_nonneg_right (by omega) hp
   omega
theorem Jfn:∀(l:List (Int×Int)) (a n:Int),okL l→0<(Je 2 l a n).2:=by
 intro l
 induction l with
 |nil=>intro a n _;simp only[Je];exact(Uo (by decide)).2
 |cons s r ih=>
  intro a n h
  have hs:=h s (by simp)
  simp only[Je]
  split
  ·exact(Uo (by omega)).2
  ·exact ih _ _ fun x hx=>h x (by simp[hx])
theorem Jne {x y z:Int×Int} (hx:0<x.2) (hy:0<y.2) (hz:0<z.2) (h:leF x y) (h':leF y z):leF x z:=by
 unfold leF at*
 have h1:=Int.mul_le_mul_of_nonneg_right h (Int.le_of_lt hz)
 have h2:=Int.mul_le_mul_of_nonneg_right h' (Int.le_of_lt hx)
 have e1:x.1*y.2*z.2=x.1*z.2*y.2:=by grind
 have e2:y.1*x.2*z.2=y.1*z.2*x.2:=by grind
 have e3:z.1*y.2*x.2=z.1*x.2*y.2:=by grind
 rw[e1,e2] at h1
 rw[e3] at h2
 exact Int.le_of_mul_le_mul_right (Int.le_trans h1 h2) hy
theorem L4:∀{l:List (Int×Int)} {a m n:Int},okL l→0≤m→m≤n→leF (Je 2 l a m) (Je 2 l a n)
 |[],a,m,n,_,_,_=>by simp only[Je];unfold leF;omega
 | s :: r, a, m, n, h, h0, hmn => by
  have hs:=h s (by simp)
  have hr:okL r:=fun x hx=>h x (by simp[hx])
  simp only[Je]
  by_cases h1:m≤s.2*2
  ·rw[if_pos h1]
   by_cases h2:n≤s.2*2
   ·rw[if_pos h2]
    refine Jiy (by omega) (by omega) ?_
    refine Int.mul_le_mul_of_nonneg_right ?_ (by omega)
    have:=Int.mul_le_mul_of_nonneg_left hmn (by omega:0≤s.1)
    omega
   ·rw[if_neg h2]
    refine Jne (y:=(a+s.1,1)) (Uo (by omega)).2 (Int.zero_lt_one) (Jfn _ _ _ hr) ?_ (Jis hr (by omega))
    rw[←L8 (a+s.1)]
    refine Jiy (by omega) (by decide) ?_
    have:=Int.mul_le_mul_of_nonneg_left h1 (by omega:0≤s.1)
    rw[Int.mul_one,Int.add_mul,Int.mul_assoc a];omega
  ·rw[if_neg h1,if_neg (by omega)]
   exact L4 hr (by omega) (by omega)
theorem Jqo {a b B:Int} (hb:0<b) (h:b≤B):(Jr (2*a) (2*b)).2≤B:=by
 have e:Jr (2*a) (2*b)=Jr a b:=Jwl (by omega) hb (by grind)
 rw[e]
 have hg:=Ye (n:=a) hb
 have:=Hd (a:=b) (g:=Y0 a b) (B:=b) ⟨by omega,by omega⟩
 show b.tdiv (Y0 a b)≤B
 omega
theorem Jtx {a b:Int} (hb:0<b):(Jr a b).2≤b:=by
 have hg:=Ye (n:=a) hb
 have:=Hd (a:=b) (g:=Y0 a b) (B:=b) ⟨by omega,by omega⟩
 show b.tdiv (Y0 a b)≤b
 omega
theorem Jir:∀{l:List (Int×Int)} {a n:Int},okL l→0≤n→leF (Je 2 l a n) (a+(Kv l).1,1)
 |[],a,n,_,_=>by simp only[Je,Kv];rw[L8];unfold leF;omega
 | s :: r, a, n, h, hn => by
  have hs:=h s (by simp)
  have hr:okL r:=fun x hx=>h x (by simp[hx])
  have b:=Vc hr
  simp only[Je,Kv]
  split
  ·rename_i h1
   rw[←L8 (a+(s.1+(Kv r).1))]
   refine Jiy (by omega) (by decide) ?_
   have e1:=Int.mul_le_mul_of_nonneg_left h1 (by omega:0≤s.1)
   have e2:0≤(Kv r).1*(s.2*2):=Int.mul_nonneg (by omega) (by omega)
   rw[Int.mul_one,Int.add_mul,Int.add_mul,Int.mul_assoc a];omega
  ·have:=Jir (l:=r) (a:=a+s.1) (n:=n-s.2*2) hr (by omega)
   rw[Int.add_assoc] at this
   exact this
theorem Jfo:∀{l:List (Int×Int)} {a n:Int},okL l→(Je 2 l a n).2≤128∧(∀k,n=2*k→(Je 2 l a n).2≤64)
 |[],a,n,_=>by
  simp only[Je];rw[L8]
  exact⟨by show(1:Int)≤128;decide,fun _ _=>by show(1:Int)≤64;decide⟩
 | s :: r, a, n, h => by
  have hs:=h s (by simp)
  have hr:okL r:=fun x hx=>h x (by simp[hx])
  simp only[Je]
  split
  ·refine⟨?_,fun k hk=> ?_⟩
   ·have:=Jtx (a:=a*s.2*2+s.1*n) (b:=s.2*2) (by omega);omega
   ·have:=Jqo (a:=a*s.2+s.1*k) (b:=s.2) (B:=64) (by omega) (by omega)
    rw[show a*s.2*2+s.1*n=2*(a*s.2+s.1*k) by rw[hk];grind,Int.mul_comm s.2 2]
    exact this
  ·obtain⟨h1,h2⟩:=Jfo (l:=r) (a:=a+s.1) (n:=n-s.2*2) hr
   exact⟨h1,fun k hk=>h2 (k-s.2) (by omega)⟩
theorem F1 {l:List (Int×Int)} {n:Int} (h:okL l) (hl:l.length≤6) (hn:0≤n):1≤(Je 2 l 0 n).2∧(Je 2 l 0 n).2≤128∧0≤(Je 2 l 0 n).1∧(Je 2 l 0 n).1≤600000*(Je 2 l 0 n).2∧(∀k,n=2*k→(Je 2 l 0 n).2≤64):=by
 have h1:=Jfn l 0 n h
 have h2:=Jis (a:=0) h hn
 have h3:=Jir (a:=0) h hn
 have h4:=Jfo (a:=0) (n:=n) h
 have b:=Vc h
 unfold leF at h2 h3
 dsimp only at h2 h3
 have:(Kv l).1*(Je 2 l 0 n).2≤600000*(Je 2 l 0 n).2:=Int.mul_le_mul_of_nonneg_right (by omega) (by omega)
 rw[Int.zero_add] at h3
 exact⟨by omega,h4.1,by omega,by omega,h4.2⟩
theorem Jm7 {c:Cab} {f:Flt} (h:Yj c f) (a b:Int×Int) (ha:a.1≤tkD c f false∧tkD c f false≤a.2) (hb:b.1≤tkD c f true∧tkD c f true≤b.2):0≤Jiz c a b∧Jiz c a b≤2*Jd c f∧2*Jd c f≤D7 c a b:=by
 have h1:tkD c f false=f.2.2.1+Jd c f:=by
  unfold tkD Vn Ja9 sg;simp only[cond_false];rw[Ze];omega
 have h2:tkD c f true=f.2.2.1+(Kv c.1).2-Jd c f:=by
  unfold tkD Vn Ja9 sg;simp only[cond_true];rw[H5];omega
 have t1:=Xt (d:=false) h
 have t2:=Xt (d:=true) h
 unfold Jiz D7
 omega
theorem Ji0 {c:Cab} {f:Flt} (h:Yj c f):Jiz c (tkD c f false,tkD c f false) (tkD c f true,tkD c f true)=2*Jd c f∧D7 c (tkD c f false,tkD c f false) (tkD c f true,tkD c f true)=2*Jd c f:=by
 have h1:tkD c f false=f.2.2.1+Jd c f:=by
  unfold tkD Vn Ja9 sg;simp only[cond_false];rw[Ze];omega
 have h2:tkD c f true=f.2.2.1+(Kv c.1).2-Jd c f:=by
  unfold tkD Vn Ja9 sg;simp only[cond_true];rw[H5];omega
 have t1:=Xt (d:=false) h
 have t2:=Xt (d:=true) h
 unfold Jiz D7
 dsimp only
 omega
theorem Zg:∀{l:List Int},(∀x∈l,x=0)→Ja l=0
 |[],_=>rfl
 |x::l,h=>by
  rw[Ky,if_pos (h x (by simp))]
  exact Zg fun y hy=>h y (by simp[hy])
theorem Jw9 {c:Cab} (h:Y7 c):Uk c=0:=by
 obtain⟨v1,v2,v3,v4,v5,v6,v7⟩:=h
 unfold Uk
 rw[if_neg (by omega),if_neg (by omega),if_neg (by omega)]
 refine Zg fun x hx=> ?_
 simp only[List.mem_cons,List.not_mem_nil,or_false] at hx
 rcases hx with rfl|rfl|rfl|rfl
 ·refine Zg fun y hy=> ?_
  obtain⟨s,hs,rfl⟩:=List.mem_map.1 hy
  have:=v3 s hs
  unfold Jc7
  rw[Jg.2 ⟨this.1,this.2.1⟩,Jg.2 ⟨this.2.2.1,this.2.2.2⟩];rfl
 ·rfl
 ·refine Zg fun y hy=> ?_
  obtain⟨s,hs,rfl⟩:=List.mem_map.1 hy
  exact Jg.2 (v5 s hs)
 ·unfold Jgj
  rw[Jg.2 v6,Jg.2 v7];rfl
theorem Jgd {c:Cab} {f:Flt} (h:Yj c f):Ym c f=0:=by
 obtain⟨hv,g1,g2,g3,g4,g5⟩:=h
 unfold Ym
 rw[if_pos (Jw9 hv),if_pos (H1.2 g1),if_neg g5]
 unfold Jmv
 rw[Jg.2 ⟨g2.1,by omega⟩,Jg.2 g3,Jg.2 g4];rfl
theorem Jlo {c:Cab} {f:Flt} {win:Int} (h:Yj c f) (hw:0≤win∧win≤1000):Jlg c f win=0:=by
 unfold Jlg
 rw[Jgd h,Jg.2 hw];rfl
theorem Jr9 {c:Cab} {f:Flt} {d:Bool} (h:Yj c f):htD c f d=f.2.2.2*Jpd c (Vd d) f.1.toNat:=by
 have e:((f.1.toNat:Nat):Int)=f.1:=by have:=h.2.1;omega
 rw[Jni h]
 unfold Jpd
 rw[e,Ja8 h,Int.mul_assoc]
def Jxt:Con:={args:=[aCR,aF,aI],ress:=[(false, .list 141 U6)],owns:=[],pre:=fun(c,f,win,_)=>[Jlg c f win=0],spec:=fun(c,f,win,_)=>(K2 c f win,())}
theorem J1g [Sx.Dr]:Ok Tryz.prog 49 Jxt:=by
 refine⟨J1f.1,fun z hz=>(by cases hz),fun F hF=>(by cases hF),fun _ x M R w vs hM hg hpre hargs=> ?_⟩
 have h:=J1f.2.2.2 rfl x M R w vs hM hg hpre hargs
 obtain⟨c,f,win,u⟩:=x
 have hw:Jlg c f win=0:=hpre
 have e:Fh c (Uj c f win)=K2 c f win:=Jux (Lk (Jlp hw).1).2
 have h':Calls Tryz.prog 49 vs.toArray w (Jle M w Jrc.ress Jrc.owns (Fh c (Uj c f win),())):=h
 rw[e] at h'
 exact h'
abbrev W56 [Sx.Dr]:=W55.add J1g
def Jo4 (n:Int):Int:=max n (0-n)
def Jlh:List Arr→Int
 |[]=>0
 |a::r=>Jo4 a.2.2+Jlh r
def Jkb:AM→Int
 |[]=>0
 |p::r=>Jo4 p.2+Jkb r
theorem Jem (k:Arr) (h:Int):∀m:AM,Jkb (Jo2 m k h)≤Jkb m+Jo4 h
 |[]=>by
  have:Jo2 [] k h=[(k,0+h)]:=rfl
  rw[this];simp only[Jkb];unfold Jo4;omega
 | x :: r => by
  have ih:=Jem k h r
  unfold Jo2 at ih⊢
  simp only[Jt,Kd]
  by_cases e:Xp U6 k x.1=true
  ·rw[if_pos e,if_pos e]
   simp only[Jkb,Option.getD_some];unfold Jo4;omega
  ·rw[if_neg e,if_neg e]
   simp only[Jkb];omega
theorem Jrj {c:Cab} {m:AM} {w:Stp} (h: -17179869184≤w.2.2.2.2∧w.2.2.2.2≤17179869184):Jkb (Jf3 c m w)≤Jkb m+17179869184:=by
 unfold Jf3
 have hb:Jo4 w.2.2.2.2≤17179869184:=by unfold Jo4;omega
 repeat' split
 ·have:=Jem (w.1,sA,0) w.2.2.2.2 m;omega
 ·have:=Jem (w.1,sB,0) w.2.2.2.2 m;omega
 ·omega
theorem Jgz {c:Cab}:∀{l:List Stp} {m:AM},(∀w∈l,wvH c w)→Jkb (l.foldl (Jf3 c) m)≤Jkb m+17179869184*l.length
 |[],m,_=>by simp
 |w::r,m,h=>by
  have h1:=Jrj (c:=c) (m:=m) (Jlk (h w (by simp)))
  have h2:=Jgz (c:=c) (l:=r) (m:=Jf3 c m w) fun x hx=>h x (by simp[hx])
  simp only[List.foldl_cons,List.length_cons];omega
theorem Jkc:∀m:AM,Jlh (m.map Jko)=Jkb m
 |[]=>rfl
 |p::r=>by
  simp only[List.map_cons,Jlh,Jkb,Jkc r];rfl
theorem Jo5 {l r:List Arr} (h:l.Perm r):Jlh l=Jlh r:=by
 induction h with
 |nil=>rfl
 |cons x _ ih=>simp only[Jlh,ih]
 |swap x y l=>simp only[Jlh];omega
 |trans _ _ h1 h2=>rw[h1,h2]
theorem Jey {e:ByteArray} {t:Int}:∀{l:List Arr} {n:Int},n-Jlh l≤Vy e t l n∧Vy e t l n≤n+Jlh l
 |[],n=>by simp[Vy,Jlh]
 |a::r,n=>by
  have ih:=Jey (e:=e) (t:=t) (l:=r) (n:=bif Jft e t a then n+a.2.2 else n)
  have h0:0≤Jo4 a.2.2∧a.2.2≤Jo4 a.2.2∧-Jo4 a.2.2≤a.2.2:=by unfold Jo4;omega
  simp only[Vy,Jlh]
  cases hq:Jft e t a
  ·rw[hq] at ih;simp only[cond_false] at ih⊢;omega
  ·rw[hq] at ih;simp only[cond_true] at ih⊢;omega
theorem Jl1 {c:Cab} {f:Flt} {win:Int} (h:Yj c f) (e:ByteArray) (t:Int): -4363686772736≤Zl (K2 c f win) e t∧Zl (K2 c f win) e t≤4363686772736:=by
 have h1:=Jey (e:=e) (t:=t) (l:=K2 c f win) (n:=0)
 have h2:Jlh (K2 c f win)=Jkb (Kl c (Kg c f win)):=(Jo5 (Kw _)).trans (Jkc _)
 have h3:=Jgz (c:=c) (m:=[]) fun w hw=>((Ha (win:=win) h).1 w hw).1
 have h3:Jkb (Kl c (Kg c f win))≤0+17179869184*(Kg c f win).length:=h3
 have h4:=Jlr (win:=win) h
 unfold Zl
 omega
def rcE (c:Cab) (f:Flt) (e:ByteArray) (w:Int):Int:=Ja [Ym c f,Jhx e,Jh w 0 1000]
def rcS (l:List Arr) (e:ByteArray) (t:Int):Int:=Vk (16*Zl l e t) 262144
def rcA (l:List Arr) (e:ByteArray) (t:Int):Nat→List Nat
 |0=>[]
 |k+1=>rcA l e t k++[Yc (rcS l e (t+k))]
def Uv (l:List Arr) (e:ByteArray) (t:Int):Nat→Bool
 |0=>false
 |k+1=>Uv l e t k||largeS (rcS l e (t+k))
def rcG (l:List Arr) (e:ByteArray) (t w:Int):List Nat:=if Uv l e t (w+1).toNat=true then[] else rcA l e t (w+1).toNat
def Jde (l:List Arr) (e:ByteArray) (t w:Int):Int:=if Uv l e t (w+1).toNat=true then 4 else 0
def rcF (c:Cab) (f:Flt) (e:ByteArray) (w:Int):List Nat:=if rcE c f e w=0 then rcG (K2 c f w) e f.2.2.1 w else[]
def Jpc (c:Cab) (f:Flt) (e:ByteArray) (w:Int):Int:=if rcE c f e w=0 then Jde (K2 c f w) e f.2.2.1 w else rcE c f e w
theorem Jdf {c:Cab} {f:Flt} {e:ByteArray} {w:Int} (h:rcE c f e w=0):Yj c f∧Jlg c f w=0∧0≤w∧w≤1000:=by
 have hz:=J4 (show Ja [Ym c f,Jhx e,Jh w 0 1000]=0 from h)
 simp only[List.mem_cons,List.not_mem_nil,or_false,forall_eq_or_imp,forall_eq] at hz
 have b:=Jg.1 hz.2.2
 have hf:=(Lk hz.1).2
 exact⟨hf,Jlo hf b,b⟩
theorem Yi (l:List Arr) (e:ByteArray) (t:Int):∀k,(rcA l e t k).length=k
 |0=>rfl
 |k+1=>by simp only[rcA,List.length_append,List.length_singleton,Yi l e t k]
theorem L2 {l:List Arr} {e:ByteArray} {t:Int} {k:Nat}:∀{m:Nat},k≤m→Uv l e t k=true→Uv l e t m=true
  | 0, h, hb => by have : k = 0 := by omega
                   subst this;exact hb
  | m + 1, h, hb => by
    by_cases e':k=m+1
    ·rw[←e'];exact hb
    · simp only [Uv]
      rw[L2 (m:=m) (by omega) hb];rfl
theorem Ji5 (n:Int):(bif decide (16384<n) then true else decide (n< -16384))=largeS n:=by
 unfold largeS;cases decide (16384<n)<;>rfl
def J61:Con:={args:=[aC,aF,aS,aI],ress:=[(false, .list 45 sFl),I],owns:=[],pre:=fun(c,_)=>[c.1.length≤1000000,c.2.1.length≤1000000],spec:=fun(c,f,e,w,_)=>(rcF c f e w,Jpc c f e w,())}
abbrev Jsw (c:Cab) (f:Flt) (e:ByteArray) (w:Int):Ann:={X:=Nat,σ:=fun k=>⟨7,[(2, .one (.str e)),(5, .one (.ptr 3 0)),(11, .one (.sl 5)),(12, .one (.sl 6)),(35, .one (.int .i64 (w+1))),(36, .one (.int .i64 k))],[(3, .box 43 [.int .i64 f.1, .int .i64 f.2.1, .int .i64 f.2.2.1, .int .i64 f.2.2.2]),(5, .imm 128 U6 (K2 c f w)),(6, .own 45 sFl (rcA (K2 c f w) e f.2.2.1 k))]⟩,inv:=fun k=>rcE c f e w=0∧(k:Int)≤w+1∧Uv (K2 c f w) e f.2.2.1 k=false,mu:=fun k=>(w+1).toNat-k}
def Z34 (a:Cab) (b:Flt) (c:Int) (d:Bt) (e:Nat):=rcA (K2 a b c) d b.2.2.1 e
def Z62:=(0:Int)<262144∧(262144:Int)≤100000000
def Z96 (a:Cab) (b:Flt) (c:Int) (d:Bt) (e:Nat):=16*Zl (K2 a b c) d (b.2.2.1+Nc e)
def Jv3 (a:Int) (b c:Nat):=Int.toNat (a+1)-b<Int.toNat (a+1)-c
def Jyn (a:Cab) (b:Flt) (c:Int) (d:Bt) (e:Nat):=Vk (Z96 a b c d e) 262144
def Jv0 (a:Nat) (b:Int) (c:Cab) (d:Flt) (e:Bt):=Nc a≤b+1∧Uv (K2 c d b) e d.2.2.1 a=false
def J0l (a:Cab) (b:Flt) (c:Int):=K2 (Z33 a) (Z35 b) c=K2 a b c
def J0e (a:Cab) (b:Flt) (c:Bt) (d:Int) (e:Nat):=rcE a b c d=0∧Jv0 e d a b c
def J4u (a:Cab) (b:Flt) (c:Bt) (d:Int):=Ja [Js4 a b,Jhx c,Jh d 0 1000]
theorem J7x [Sx.Dr] (c:Cab) (f:Flt) (e:ByteArray) (w:Int):wpF Tryz.prog W56.g (Yl (Jsw c f e w)) Tryz.f13 J61 (c,f,e,w,()):=by
 refine(by kernel_rfl:(Z55 c→Z26 c→J0k c∧Br (J4u c f e w !=0) ([]=rcF c f e w∧J4u c f e w=Jpc c f e w) (Jlg (Z33 c) (Z35 f) w=0∧(Iw (w+1)∧((0:Int)≤0∧(0:Int)≤1000000)∧0≤w+1∧w+(1:Int)≤1000000)∧Iw (w+1)∧∃(x:Nat),Sf e (Si (w+1) (0=Nc x∧Si f.1 (Si f.2.1 (Si f.2.2.1 (Si f.2.2.2 (J0l c f w∧[]=Z34 c f w e x))))))∧J0e c f e w x∧∀(x:Nat),J0e c f e w x→Br (decide (Nc x<w+1)) ((Iw (f.2.2.1+Nc x)∧List.length (K2 c f w)≤100000∧Jvp (K2 c f w)∧Iw (Z96 c f w e x)∧(Z15≤Z96 c f w e x∧Z96 c f w e x≤400000000000000)∧Z62)∧Br (bif decide (16384<Jyn c f w e x) then true else decide (Jyn c f w e x<(-16384))) ([]=rcF c f e w∧4=Jpc c f e w) ((Option.isSome (Ieee.Format.div (FloatKind.format FloatKind.f32) (FloatKind.nearest FloatKind.f32 (Jyn c f w e x)) 1098907648)=true∧(List.length (Z34 c f w e x)+1)*4≤140737488355328)∧Z2 x∧∃(y:Nat),Sf e (Si (w+1) (Z29 x y∧Si f.1 (Si f.2.1 (Si f.2.2.1 (Si f.2.2.2 (Sf (K2 c f w) (Z34 c f w e x++[Option.getD (Ieee.Format.div (FloatKind.format FloatKind.f32) (FloatKind.nearest FloatKind.f32 (Jyn c f w e x)) 1098907648) 0]=Z34 c f w e y)))))))∧J0e c f e w y∧Jv3 w y x)) (Z34 c f w e x=rcF c f e w∧0=Jpc c f e w)))=_).mp ?_
 delta Z2 Z13 Z15 Z26 Z28 Z29 Z33 Z34 Z35 Z53 Z55 Z62 Z96 Jv3 Jyn Js4 Jv0 J0l J0k J0e J4u Br Iw Sf Si Nc E2
 intro h1 h2
 refine⟨⟨h1,h2,by omega⟩,fun h=> ?_,fun h=> ?_⟩
 ·have h:¬rcE c f e w=0:=bne_iff_ne.1 h
  unfold rcF Jpc;rw[if_neg h,if_neg h];exact⟨rfl,rfl⟩
 have h:rcE c f e w=0:=bne_eq_false_iff_eq.1 h
 obtain⟨hf,hw,b⟩:=Jdf h
 obtain⟨hB,hL⟩:=Jon (win:=w) hf
 have g3:=hf.2.2.2.1
 have eF:rcF c f e w=rcG (K2 c f w) e f.2.2.1 w:=if_pos h
 have eE:Jpc c f e w=Jde (K2 c f w) e f.2.2.1 w:=if_pos h
 rw[eF,eE]
 refine⟨hw,by omega,by omega,(0:Nat),⟨rfl,rfl,rfl,rfl,rfl,rfl,rfl,rfl,rfl⟩,⟨h,by show(0:Int)≤w+1;omega,rfl⟩,fun(k:Nat) hk=>⟨fun q=> ?_,fun q=> ?_⟩⟩
 ·have q:(k:Int)<w+1:=of_decide_eq_true q
  have hs:=Jl1 (win:=w) hf e (f.2.2.1+k)
  refine⟨⟨by omega,by omega,hB,by omega,by omega,by omega⟩,fun q1=> ?_,fun q1=> ?_⟩
  ·rw[Ji5] at q1
   have hb:Uv (K2 c f w) e f.2.2.1 (k+1)=true:=by
    simp only[Uv]
    rw[show largeS (rcS (K2 c f w) e (f.2.2.1+k))=true from q1,Bool.or_true]
   have hb:=L2 (m:=(w+1).toNat) (by omega) hb
   unfold rcG Jde
   rw[if_pos hb,if_pos hb];exact⟨rfl,rfl⟩
  ·rw[Ji5] at q1
   have hb:Uv (K2 c f w) e f.2.2.1 (k+1)=false:=by
    simp only[Uv]
    rw[show largeS (rcS (K2 c f w) e (f.2.2.1+k))=false from q1,hk.2.2];rfl
   exact⟨⟨(Jc3 _).1,by rw[Yi];omega⟩,by omega,(k+1:Nat),⟨rfl,rfl,by simp,rfl,rfl,rfl,rfl,rfl,rfl⟩,⟨h,by omega,hb⟩,by omega⟩
 ·have q:¬(k:Int)<w+1:=of_decide_eq_false q
  have ek:(w+1).toNat=k:=by omega
  unfold rcG Jde
  rw[ek,hk.2.2,if_neg (by decide),if_neg (by decide)];exact⟨rfl,rfl⟩
theorem J9y [Sx.Dr]:Ok Tryz.prog 13 J61:=Jn mixed W56.ok (by kernel_rfl) (by kernel_rfl) (fun xx=>Yl (Jsw xx.1 xx.2.1 xx.2.2.1 xx.2.2.2.1)) fun xx=>J7x xx.1 xx.2.1 xx.2.2.1 xx.2.2.2.1
abbrev W57 [Sx.Dr]:=W56.add J9y
def Jxh:Con:={args:=[aCR,aF,aS,aI],ress:=[(false, .list 45 sFl),I],owns:=[],pre:=fun(c,f,e,w,_)=>[rcE c f e w=0],spec:=fun(c,f,e,w,_)=>(rcG (K2 c f w) e f.2.2.1 w,Jde (K2 c f w) e f.2.2.1 w,())}
abbrev Jos (c:Cab) (f:Flt) (e:ByteArray) (w:Int):Ann:={X:=Nat,σ:=fun k=>⟨6,[(2, .one (.str e)),(3, .one (.int .i64 w)),(5, .one (.ptr 3 0)),(10, .one (.sl 4)),(11, .one (.sl 5)),(12, .one (.int .i64 (f.2.2.1+k)))],[(3, .box 28 [.int .i64 f.1, .int .i64 f.2.1, .int .i64 f.2.2.1, .int .i64 f.2.2.2]),(4, .imm 141 U6 (K2 c f w)),(5, .own 45 sFl (rcA (K2 c f w) e f.2.2.1 k))]⟩,inv:=fun k=>(k:Int)≤w+1∧Uv (K2 c f w) e f.2.2.1 k=false,mu:=fun k=>(w+1).toNat-k}
def Z94 (a:Cab) (b:Flt) (c:Int) (d:Bt) (e:Nat):=Zl (K2 a b c) d (b.2.2.1+Nc e)*16
theorem J7u [Sx.Dr] (c:Cab) (f:Flt) (e:ByteArray) (w:Int):wpF Tryz.prog W57.g (Yl (Jos c f e w)) Tryz.f19 Jxh (c,f,e,w,()):=by
 refine(by kernel_rfl:(rcE c f e w=0→Jlg (Z33 c) (Z35 f) w=0∧∃(x:Nat),Sf e (Si w (f.2.2.1=f.2.2.1+Nc x∧Si f.1 (Si f.2.1 (Si f.2.2.1 (Si f.2.2.2 (J0l c f w∧List.length (Z34 c f w e x)=0))))))∧Jv0 x w c f e∧∀(x:Nat),Jv0 x w c f e→Iw (f.2.2.1+w)∧Br (decide (f.2.2.1+Nc x≤f.2.2.1+w)) ((List.length (K2 c f w)≤100000∧Jvp (K2 c f w)∧Iw (Z94 c f w e x)∧(Z15≤Z94 c f w e x∧Z94 c f w e x≤400000000000000)∧Z62)∧Br (largeS (Vk (Z94 c f w e x) 262144)) ([]=rcG (K2 c f w) e f.2.2.1 w∧4=Jde (K2 c f w) e f.2.2.1 w) ((List.length (Z34 c f w e x)+1)*4≤140737488355328∧Iw (f.2.2.1+Nc x+1)∧∃(y:Nat),Sf e (Si w (f.2.2.1+Nc x+1=f.2.2.1+Nc y∧Si f.1 (Si f.2.1 (Si f.2.2.1 (Si f.2.2.2 (Sf (K2 c f w) (Z34 c f w e x++[Yc (Vk (Z94 c f w e x) 262144)]=Z34 c f w e y)))))))∧Jv0 y w c f e∧Jv3 w y x)) (Z34 c f w e x=rcG (K2 c f w) e f.2.2.1 w∧0=Jde (K2 c f w) e f.2.2.1 w))=_).mp ?_
 delta Z15 Z33 Z34 Z35 Z62 Z94 Jv3 Jv0 J0l Br Iw Sf Si Nc E2
 intro h
 obtain⟨hf,hw,b⟩:=Jdf h
 obtain⟨hB,hL⟩:=Jon (win:=w) hf
 have g3:=hf.2.2.2.1
 refine⟨hw,(0:Nat),⟨rfl,rfl,by omega,rfl,rfl,rfl,rfl,rfl,rfl⟩,⟨by show(0:Int)≤w+1;omega,rfl⟩,fun(k:Nat) hk=>⟨by omega,fun q=> ?_,fun q=> ?_⟩⟩
 ·have q:f.2.2.1+(k:Int)≤f.2.2.1+w:=of_decide_eq_true q
  have hs:=Jl1 (win:=w) hf e (f.2.2.1+k)
  rw[Int.mul_comm _ 16]
  refine⟨⟨by omega,hB,by omega,by omega,by omega⟩,fun q1=> ?_,fun q1=> ?_⟩
  ·have hb:Uv (K2 c f w) e f.2.2.1 (k+1)=true:=by
    simp only[Uv]
    rw[show largeS (rcS (K2 c f w) e (f.2.2.1+k))=true from q1,Bool.or_true]
   have hb:=L2 (m:=(w+1).toNat) (by omega) hb
   unfold rcG Jde
   rw[if_pos hb,if_pos hb];exact⟨rfl,rfl⟩
  ·have hb:Uv (K2 c f w) e f.2.2.1 (k+1)=false:=by
    simp only[Uv]
    rw[show largeS (rcS (K2 c f w) e (f.2.2.1+k))=false from q1,hk.2];rfl
   exact⟨by rw[Yi];omega,by omega,(k+1:Nat),⟨rfl,rfl,by omega,rfl,rfl,rfl,rfl,rfl,rfl⟩,⟨by omega,hb⟩,by omega⟩
 ·have q:¬f.2.2.1+(k:Int)≤f.2.2.1+w:=of_decide_eq_false q
  have ek:(w+1).toNat=k:=by omega
  unfold rcG Jde
  rw[ek,hk.2,if_neg (by decide),if_neg (by decide)];exact⟨rfl,rfl⟩
theorem J9s [Sx.Dr]:Ok Tryz.prog 19 Jxh:=Jn mixed W57.ok (by kernel_rfl) (by kernel_rfl) (fun xx=>Yl (Jos xx.1 xx.2.1 xx.2.2.1 xx.2.2.2.1)) fun xx=>J7u xx.1 xx.2.1 xx.2.2.1 xx.2.2.2.1
abbrev W58 [Sx.Dr]:=W57.add J9s
end Go.Proofs.YtkhdpgadionfnaaGreat
namespace Go.Proofs.YtkhdpgadionfnaaGreat
instance drOff:Sx.Dr:=Sx.Dr.off
open Go.Sx
set_option maxHeartbeats 20000000
theorem Jww {c:Cab} {f:Flt} (d:Bool) (h:Yj c f): -8589934592≤htD c f d∧htD c f d≤8589934592:=by
 rw[Jr9 h]
 have a:=Jtp (e:=Vd d) (k:=f.1.toNat) h.1
 have b:=h.2.2.2.2.1
 have m:=Ld (A:=1024) (B:=8388608) b (b:=Jpd c (Vd d) f.1.toNat) ⟨by omega,a.2⟩
 omega
theorem Jvl {c:Cab} {f:Flt} (h:Yj c f):tkD c f false=f.2.2.1+Jd c f∧tkD c f true=f.2.2.1+(Kv c.1).2-Jd c f∧(1≤Jd c f∧Jd c f≤384)∧(1≤(Kv c.1).2-Jd c f∧(Kv c.1).2-Jd c f≤384)∧Zs c (Jd c f)=0∧J8 c (Jd c f)=Je 2 c.1 0 (2*Jd c f):=by
 have h1:tkD c f false=f.2.2.1+Jd c f:=by
  unfold tkD Vn Ja9 sg;simp only[cond_false];rw[Ze];omega
 have h2:tkD c f true=f.2.2.1+(Kv c.1).2-Jd c f:=by
  unfold tkD Vn Ja9 sg;simp only[cond_true];rw[H5];omega
 have b1:=Xt (d:=false) h
 have b2:=Xt (d:=true) h
 have e:Zs c (Jd c f)=0:=by
  unfold Zs;rw[if_pos (Lk (Jgd h)).1];exact Jg.2 (by omega)
 refine⟨h1,h2,by omega,by omega,e, ?_⟩
 unfold J8;rw[if_pos e]
theorem Jrt {x:Int×Int} (h:0≤x.1∧x.1≤x.2∧x.2≤999999999):Yh x=0:=by
 unfold Yh
 rw[Jg.2 (by omega),Jg.2 (by omega),decide_eq_false (by omega)];rfl
theorem Jwn {c:Cab} {f:Flt} (h:Yj c f) {a b:Int×Int} (ha:0≤a.1∧a.1≤tkD c f false∧tkD c f false≤a.2∧a.2≤999999999) (hb:0≤b.1∧b.1≤tkD c f true∧tkD c f true≤b.2∧b.2≤999999999):Jk1 c a b=0∧Ji1 c a b=rr (Je 2 c.1 0 (Jiz c a b)) (Je 2 c.1 0 (D7 c a b))∧0≤Jiz c a b∧Jiz c a b≤2*Jd c f∧2*Jd c f≤D7 c a b:=by
 have l:=Jm7 h a b (by omega) (by omega)
 have z:Ja [Uk c,Yh a,Yh b]=0:=by rw[(Lk (Jgd h)).1,Jrt (by omega),Jrt (by omega)];rfl
 refine⟨?_, ?_,l⟩
 ·unfold Jk1 Jt1;rw[if_pos z,if_neg (by omega)]
 ·unfold Ji1 J1l;rw[if_pos z,if_neg (by omega)]
def J1e (p:RR) (q:Int×Int):Prop:=(1≤p.2.1∧p.2.1≤128∧0≤p.1∧p.1≤128000000)∧(1≤p.2.2.2∧p.2.2.2≤128∧0≤p.2.2.1∧p.2.2.1≤128000000)∧p.1*q.2≤q.1*p.2.1∧q.1*p.2.2.2≤p.2.2.1*q.2
theorem J1d {c:Cab} {f:Flt} (h:Yj c f):1≤(J8 c (Jd c f)).2∧(J8 c (Jd c f)).2≤64∧0≤(J8 c (Jd c f)).1∧(J8 c (Jd c f)).1≤64000000:=by
 obtain⟨_,_,p1,_,_,p3⟩:=Jvl h
 rw[p3]
 obtain⟨b1,b2,b3,b4,b5⟩:=F1 (n:=2*Jd c f) h.1.2.2.1 h.1.2.1 (by omega)
 have b6:=b5 _ rfl
 omega
theorem Jtz {c:Cab} {f:Flt} (h:Yj c f) {a b:Int×Int} (ha:0≤a.1∧a.1≤tkD c f false∧tkD c f false≤a.2∧a.2≤999999999) (hb:0≤b.1∧b.1≤tkD c f true∧tkD c f true≤b.2∧b.2≤999999999):Jk1 c a b=0∧J1e (Ji1 c a b) (J8 c (Jd c f)):=by
 obtain⟨h1,h2,h3,h4,h5⟩:=Jwn h ha hb
 obtain⟨_,_,p1,_,_,p3⟩:=Jvl h
 refine⟨h1, ?_⟩
 rw[h2,p3]
 obtain⟨b1,b2,b3,b4,_⟩:=F1 (n:=Jiz c a b) h.1.2.2.1 h.1.2.1 h3
 obtain⟨c1,c2,c3,c4,_⟩:=F1 (n:=D7 c a b) h.1.2.2.1 h.1.2.1 (by omega)
 exact⟨⟨b1,b2,b3,by show(Je 2 c.1 0 (Jiz c a b)).1≤128000000;omega⟩,⟨c1,c2,c3,by show(Je 2 c.1 0 (D7 c a b)).1≤128000000;omega⟩,L4 h.1.2.2.1 h3 h4,L4 h.1.2.2.1 (by omega) h5⟩
theorem Jt0 {c:Cab} {f:Flt} (h:Yj c f):Jk1 c (tkD c f false,tkD c f false) (tkD c f true,tkD c f true)=0∧Ji1 c (tkD c f false,tkD c f false) (tkD c f true,tkD c f true)=rr (J8 c (Jd c f)) (J8 c (Jd c f)):=by
 obtain⟨p1,p2,p3,p4,_,p6⟩:=Jvl h
 have ht:=h.2.2.2.1
 obtain⟨h1,h2,_⟩:=Jwn h (a:=(tkD c f false,tkD c f false)) (b:=(tkD c f true,tkD c f true)) ⟨by dsimp only;omega,Int.le_refl _,Int.le_refl _,by dsimp only;omega⟩ ⟨by dsimp only;omega,Int.le_refl _,Int.le_refl _,by dsimp only;omega⟩
 refine⟨h1, ?_⟩
 rw[h2,(Ji0 h).1,(Ji0 h).2,p6]
abbrev mx (n:Int):Int:=max n (0-n)
abbrev I64 (n:Int):Prop:= -9223372036854775808≤n∧n≤9223372036854775807
theorem Jwf {p:RR} {q:Int×Int} (h:J1e p q) (hq:1≤q.2∧q.2≤64∧0≤q.1∧q.1≤64000000):I64 (p.1*q.2)∧I64 (q.1*p.2.1)∧I64 (p.2.2.1*q.2)∧I64 (q.1*p.2.2.2):=by
 obtain⟨h1,h2,_⟩:=h
 have m1:=Ld (A:=128000000) (B:=64) (a:=p.1) (b:=q.2) ⟨by omega,by omega⟩ ⟨by omega,by omega⟩
 have m2:=Ld (A:=64000000) (B:=128) (a:=q.1) (b:=p.2.1) ⟨by omega,by omega⟩ ⟨by omega,by omega⟩
 have m3:=Ld (A:=128000000) (B:=64) (a:=p.2.2.1) (b:=q.2) ⟨by omega,by omega⟩ ⟨by omega,by omega⟩
 have m4:=Ld (A:=64000000) (B:=128) (a:=q.1) (b:=p.2.2.2) ⟨by omega,by omega⟩ ⟨by omega,by omega⟩
 simp only[I64];omega
section
open Ieee
theorem Jai {n k:Nat} (h1:2^k≤n) (h2:n<2^(k+1)):n.log2=k:=(Nat.log2_eq_iff (by have:=Nat.two_pow_pos k;omega)).2 ⟨h1,h2⟩
theorem Jd9 (way:Toward) (s:Bool) {K d:Nat} (h:d≤(K*2^d).log2+2):way.cut s (K*2^d) d=K:=by
 have hd:=Nat.two_pow_pos d
 have h0:(2^d==0)=false:=beq_eq_false_iff_ne.2 (by omega)
 unfold Toward.cut
 dsimp only
 rw[Nat.min_eq_left h,Nat.one_shiftLeft,Nat.mul_div_cancel _ hd,Nat.mul_mod_left]
 cases way<;>simp[h0]
theorem F9 (f:Format) (s:Bool) {K d q:Nat} {p:Int} (h1:2^f.fractionBits≤K) (h2:K<2^(f.fractionBits+1)) (hq:p+d=f.leastPlace+q) (hr:q*f.binade+K≤f.infRung):f.nearest s (K*2^d) p=f.word s (q*f.binade+K):=by
 have hK:0<K:=Nat.lt_of_lt_of_le (Nat.two_pow_pos _) h1
 have hd:=Nat.two_pow_pos d
 have hl:(K*2^d).log2=f.fractionBits+d:=by
  refine Jai (by rw[Nat.pow_add];exact Nat.mul_le_mul_right _ h1) ?_
  rw[show f.fractionBits+d+1=f.fractionBits+1+d by omega,Nat.pow_add]
  exact Nat.mul_lt_mul_of_pos_right h2 hd
 unfold Format.nearest
 rw[if_neg (Nat.ne_of_gt (Nat.mul_pos hK hd)),hl]
 have e1:max (p+((f.fractionBits+d:Nat):Int)-f.fractionBits) f.leastPlace=f.leastPlace+q:=by omega
 simp only[e1]
 have e2:(p-(f.leastPlace+q)).toNat=0:=by omega
 have e3:(f.leastPlace+q-p).toNat=d:=by omega
 have e4:(f.leastPlace+q-f.leastPlace).toNat=q:=by omega
 rw[e2,e3,e4]
 have ec:Toward.even.cut s ((K*2^d)<<<0) d=K:=by
  rw[Nat.shiftLeft_zero];exact Jd9 _ s (by rw[hl];omega)
 rw[ec,Nat.min_eq_left hr]
theorem Jhm (f:Format) (s:Bool) {M c q:Nat} {p:Int} (h1:2^f.fractionBits≤M*2^c) (h2:M*2^c<2^(f.fractionBits+1)) (hc:c≤f.fractionBits) (hq:p-c=f.leastPlace+q) (hr:q*f.binade+M*2^c≤f.infRung):f.nearest s M p=f.word s (q*f.binade+M*2^c):=by
 have hc0:=Nat.two_pow_pos c
 have hM:0<M:=by
  rcases Nat.eq_zero_or_pos M with e|e
  ·rw[e,Nat.zero_mul] at h1;have:=Nat.two_pow_pos f.fractionBits;omega
  ·exact e
 have hl:M.log2=f.fractionBits-c:=by
  refine Jai ?_ ?_
  ·refine Nat.le_of_mul_le_mul_right ?_ hc0
   rw[←Nat.pow_add,Nat.sub_add_cancel hc];exact h1
  ·refine Nat.lt_of_mul_lt_mul_right (a:=2^c) ?_
   rw[←Nat.pow_add,show f.fractionBits-c+1+c=f.fractionBits+1 by omega];exact h2
 unfold Format.nearest
 rw[if_neg (by omega),hl]
 have e1:max (p+((f.fractionBits-c:Nat):Int)-f.fractionBits) f.leastPlace=f.leastPlace+q:=by omega
 simp only[e1]
 have e2:(p-(f.leastPlace+q)).toNat=c:=by omega
 have e3:(f.leastPlace+q-p).toNat=0:=by omega
 have e4:(f.leastPlace+q-f.leastPlace).toNat=q:=by omega
 rw[e2,e3,e4,Nat.shiftLeft_eq]
 have ec:Toward.even.cut s (M*2^c) 0=M*2^c:=by
  have:=Jd9 .even s (K:=M*2^c) (d:=0) (by omega)
  rwa[Nat.pow_zero,Nat.mul_one] at this
 rw[ec,Nat.min_eq_left hr]
theorem Jry (s:Bool) {K q:Nat} (h1:8388608≤K) (h2:K<16777216) (hr:q*8388608+K<2139095040):single.read (single.word s (q*8388608+K))= .number s K (-149+q):=by
 have e1:single.infRung=2139095040:=by decide
 have e2:single.signWeight=2147483648:=by decide
 have e3:single.binade=8388608:=by decide
 have e0:single.leastPlace= -149:=by decide
 unfold Format.read Format.word
 rw[e1,e2,e3,e0]
 have a1:((if s=true then 2147483648+(q*8388608+K) else q*8388608+K)/2147483648 %2==1)=s:=by
  cases s
  ·rw[if_neg (by decide),beq_eq_false_iff_ne];omega
  ·rw[if_pos rfl,beq_iff_eq];omega
 have a2:(if s=true then 2147483648+(q*8388608+K) else q*8388608+K) %2147483648=q*8388608+K:=by
  cases s
  ·rw[if_neg (by decide)];omega
  ·rw[if_pos rfl];omega
 simp only[a1,a2]
 rw[if_neg (by omega),if_pos hr]
 congr 1
 ·omega
 ·omega
theorem Jmp (s:Bool) {K q:Nat} (h1:4503599627370496≤K) (h2:K<9007199254740992) (hr:q*4503599627370496+K<9218868437227405312):double.read (double.word s (q*4503599627370496+K))= .number s K (-1074+q):=by
 have e1:double.infRung=9218868437227405312:=by decide
 have e2:double.signWeight=9223372036854775808:=by decide
 have e3:double.binade=4503599627370496:=by decide
 have e0:double.leastPlace= -1074:=by decide
 unfold Format.read Format.word
 rw[e1,e2,e3,e0]
 have a1:((if s=true then 9223372036854775808+(q*4503599627370496+K) else q*4503599627370496+K)/9223372036854775808 %2==1)=s:=by
  cases s
  ·rw[if_neg (by decide),beq_eq_false_iff_ne];omega
  ·rw[if_pos rfl,beq_iff_eq];omega
 have a2:(if s=true then 9223372036854775808+(q*4503599627370496+K) else q*4503599627370496+K) %9223372036854775808=q*4503599627370496+K:=by
  cases s
  ·rw[if_neg (by decide)];omega
  ·rw[if_pos rfl];omega
 simp only[a1,a2]
 rw[if_neg (by omega),if_pos hr]
 congr 1
 ·omega
 ·omega
end
section
open Ieee
theorem Jw2 {m:Nat} (h0:0<m) (h1:m≤16384):∃c,9≤c∧c≤23∧8388608≤m*2^c∧m*2^c<16777216:=by
 have hl:=Nat.log2_self_le (n:=m) (by omega)
 have hu:=Nat.lt_log2_self (n:=m)
 have h14:m.log2≤14:=by
  have:m.log2<15:=(Nat.log2_lt (by omega)).2 (by omega)
  omega
 refine⟨23-m.log2,by omega,by omega, ?_, ?_⟩
 ·have:=Nat.mul_le_mul_right (2^(23-m.log2)) hl
  rwa[←Nat.pow_add,show m.log2+(23-m.log2)=23 by omega] at this
 ·have:=Nat.mul_lt_mul_of_pos_right hu (Nat.two_pow_pos (23-m.log2))
  rwa[←Nat.pow_add,show m.log2+1+(23-m.log2)=24 by omega] at this
structure IsS (n:Int) (s:Bool) (m c:Nat):Prop where
 neg:s=decide (n<0)
 mag:m=n.natAbs
 lo:9≤c
 hi:c≤23
 k1:8388608≤m*2^c
 k2:m*2^c<16777216
 le:m≤16384
theorem isS {n:Int} (h0:n≠0) (h: -16384≤n∧n≤16384):∃c,IsS n (decide (n<0)) n.natAbs c:=by
 obtain⟨c,h1,h2,h3,h4⟩:=Jw2 (m:=n.natAbs) (by omega) (by omega)
 exact⟨c,⟨rfl,rfl,h1,h2,h3,h4,by omega⟩⟩
variable {n:Int} {s:Bool} {m c:Nat}
theorem Jix (h:IsS n s m c):FloatKind.f32.nearest n=single.word s ((149-c)*8388608+m*2^c):=by
 have e3:single.binade=8388608:=by decide
 have h1:=h.lo;have h2:=h.hi;have k1:=h.k1;have k2:=h.k2
 have:=Jhm single s (M:=m) (c:=c) (q:=149-c) (p:=0) k1 k2 h2 (by show(0:Int)-c= -149+((149-c:Nat):Int);omega) (by rw[e3];show _≤2139095040;omega)
 rw[e3] at this
 rw[←this,h.neg,h.mag];rfl
theorem Jio (h:IsS n s m c):FloatKind.f32.decode (FloatKind.f32.nearest n)= .number s (m*2^c) (-c):=by
 have h1:=h.lo;have h2:=h.hi;have k1:=h.k1;have k2:=h.k2
 rw[Jix h]
 show single.read _=_
 rw[Jry s k1 k2 (by omega)]
 congr 1;omega
theorem Jpx (h:IsS n s m c):FloatKind.f32.format.div (FloatKind.f32.nearest n) 1098907648=some (single.word s ((145-c)*8388608+m*2^c)):=by
 have h1:=h.lo;have h2:=h.hi;have k1:=h.k1;have k2:=h.k2
 have e3:single.binade=8388608:=by decide
 have e16:single.read 1098907648= .number false 8388608 (-19):=by kernel_rfl
 have hd:=Jio h
 show((single.read (FloatKind.f32.nearest n)).quotient (single.fractionBits+2) (single.read 1098907648)).map single.write=_
 rw[show single.read (FloatKind.f32.nearest n)=_ from hd,e16]
 have el:(m*2^c).log2=23:=Jai k1 k2
 have e8:(8388608:Nat).log2=23:=by decide
 have ef:single.fractionBits+2=25:=rfl
 simp only[Datum.quotient,el,e8,ef]
 rw[if_neg (by decide)]
 have q1:(m*2^c)<<<(25+23-23)=m*2^c*4*8388608:=by rw[Nat.shiftLeft_eq];omega
 rw[q1,Nat.mul_div_cancel _ (by decide),Nat.mul_mod_left]
 show some (single.nearest (s^^false) (2*(m*2^c*4)+0) (-(c:Int)- -19-((25+23-23:Nat):Int)-1))=_
 have:=F9 single s (K:=m*2^c) (d:=3) (q:=145-c) (p:= -(c:Int)-7) k1 k2 (by show -(c:Int)-7+3= -149+((145-c:Nat):Int);omega) (by rw[e3];show _≤2139095040;omega)
 rw[e3] at this
 rw[←this,Bool.xor_false,show 2*(m*2^c*4)+0=m*2^c*2^3 by omega,show -(c:Int)- -19-((25+23-23:Nat):Int)-1= -(c:Int)-7 by omega]
theorem Jl8 (h:IsS n s m c):Yc n=single.word s ((145-c)*8388608+m*2^c):=by unfold Yc;rw[Jpx h];rfl
theorem Jdd (h:IsS n s m c):FloatKind.f32.decode (Yc n)= .number s (m*2^c) (-4-c):=by
 have h1:=h.lo;have h2:=h.hi;have k1:=h.k1;have k2:=h.k2
 rw[Jl8 h]
 show single.read _=_
 rw[Jry s k1 k2 (by omega)]
 congr 1;omega
theorem Jma (s:Bool) (a u:Nat): -((a*2^u:Nat):Int)≤signed s a u∧signed s a u≤((a*2^u:Nat):Int):=by
 unfold signed
 rw[Nat.shiftLeft_eq]
 cases s
 ·rw[if_neg (by decide)];omega
 ·rw[if_pos rfl];omega
theorem F4 {s t:Bool} {a b:Nat} {i j:Int} (hij:i≤j) (h:a≤b*2^(j-i).toNat):(t=false→Datum.order (.number s a i) (.number t b j)≠some .gt)∧(t=true→Datum.order (.number s a i) (.number t b j)≠some .lt):=by
 have e:min i j=i:=by omega
 have ha:=Jma s a 0
 rw[Nat.pow_zero,Nat.mul_one] at ha
 simp only[Datum.order,e]
 rw[show(i-i).toNat=0 by omega]
 refine⟨fun ht q=> ?_,fun ht q=> ?_⟩
 ·subst ht
  have q:=Int.compare_eq_gt.1 (Option.some.inj q)
  have eb:signed false b (j-i).toNat=((b*2^(j-i).toNat:Nat):Int):=by unfold signed;rw[if_neg (by decide),Nat.shiftLeft_eq]
  rw[eb] at q
  omega
 ·subst ht
  have q:=Int.compare_eq_lt.1 (Option.some.inj q)
  have eb:signed true b (j-i).toNat= -((b*2^(j-i).toNat:Nat):Int):=by unfold signed;rw[if_pos rfl,Nat.shiftLeft_eq]
  rw[eb] at q
  omega
end
section
open Ieee
variable {n:Int} {s:Bool} {m c:Nat}
theorem Jwo (h:IsS n s m c):m*2^c≤8388608*2^(c-9):=by
 have h1:=h.lo
 have e:8388608*2^(c-9)=16384*2^c:=by
  have:2^c=2^(c-9)*2^9:=by rw[←Nat.pow_add,Nat.sub_add_cancel h1]
  rw[this];omega
 rw[e];exact Nat.mul_le_mul_right _ h.le
structure Fa (n:Int):Prop where
 sub:FloatKind.f32.format.sub (Yc n) (Yc n)=some 0
 low:FloatKind.f32.format.order (Yc n) (Op.negFloat .f32 (FloatKind.f32.nearest 1024))≠some .lt
 high:FloatKind.f32.format.order (Yc n) (FloatKind.f32.nearest 1024)≠some .gt
 mul:FloatKind.f32.format.mul 1098907648 (Yc n)=some (FloatKind.f32.nearest n)
 int:Ll .f32 (FloatKind.f32.nearest n)=some n
 self:FloatKind.f32.format.order (FloatKind.f32.nearest n) (FloatKind.f32.nearest n)=some .eq
 range:Yc n<4294967296
 minus:Yc n≠2147483648
 zero:FloatKind.f32.format.order (Yc n) 0=some .eq↔n=0
theorem Jnw:Fa 0:=⟨by kernel_rfl,by decide,by decide,by kernel_rfl,by kernel_rfl,by kernel_rfl,by decide,by decide,⟨fun _=>rfl,fun _=>by kernel_rfl⟩⟩
theorem J1s (h:IsS n s m c) (h0:n≠0):Fa n:=by
 have h1:=h.lo;have h2:=h.hi;have k1:=h.k1;have k2:=h.k2
 have e3:single.binade=8388608:=by decide
 have hx:=Jdd h
 have hi:=Jio h
 have l14:=Jwo h
 have e16:single.read 1098907648= .number false 8388608 (-19):=by kernel_rfl
 have eN:FloatKind.f32.decode (Op.negFloat .f32 (FloatKind.f32.nearest 1024))= .number true 8388608 (-13):=by kernel_rfl
 have eP:FloatKind.f32.decode (FloatKind.f32.nearest 1024)= .number false 8388608 (-13):=by kernel_rfl
 have ob:∀t,(t=false→Datum.order (.number s (m*2^c) (-4-c)) (.number t 8388608 (-13))≠some .gt)∧(t=true→Datum.order (.number s (m*2^c) (-4-c)) (.number t 8388608 (-13))≠some .lt):=fun t=>
  F4 (by omega) (by rw[show(-13-(-4-(c:Int))).toNat=c-9 by omega];exact l14)
 refine⟨?_, ?_, ?_, ?_, ?_, ?_, ?_, ?_,⟨fun q=> ?_,fun q=>absurd q h0⟩⟩
 ·show((FloatKind.f32.decode (Yc n)).sum (FloatKind.f32.decode (Yc n)).opposite).map single.write=_
  rw[hx]
  simp only[Datum.opposite,Datum.sum]
  have e:signed s (m*2^c) (-4-(c:Int)-min (-4-(c:Int)) (-4-(c:Int))).toNat+signed (!s) (m*2^c) (-4-(c:Int)-min (-4-(c:Int)) (-4-(c:Int))).toNat=0:=by
   unfold signed;cases s<;>simp<;>omega
  simp only[e,if_true,Int.natAbs_zero]
  have:(s&& !s)=false:=by cases s<;>rfl
  rw[this]
  show some (single.nearest false 0 _)=some 0
  unfold Format.nearest
  rw[if_pos rfl];rfl
 ·show(FloatKind.f32.decode (Yc n)).order (FloatKind.f32.decode _)≠_
  rw[hx,eN];exact(ob true).2 rfl
 ·show(FloatKind.f32.decode (Yc n)).order (FloatKind.f32.decode _)≠_
  rw[hx,eP];exact(ob false).1 rfl
 ·show((single.read 1098907648).product (FloatKind.f32.decode (Yc n))).map single.write=_
  rw[hx,e16,Jix h]
  show some (single.nearest (false^^s) (8388608*(m*2^c)) (-19+(-4-(c:Int))))=_
  have:=F9 single s (K:=m*2^c) (d:=23) (q:=149-c) (p:= -23-(c:Int)) k1 k2 (by show -23-(c:Int)+23= -149+((149-c:Nat):Int);omega) (by rw[e3];show _≤2139095040;omega)
  rw[e3] at this
  rw[←this,Bool.false_xor,show 8388608*(m*2^c)=m*2^c*2^23 by omega,show -19+(-4-(c:Int))= -23-(c:Int) by omega]
 ·show(FloatKind.f32.decode (FloatKind.f32.nearest n)).toInt .zero=_
  rw[hi]
  simp only[Datum.toInt,Datum.integral]
  rw[show(-(c:Int)).toNat=0 by omega,show(-(-(c:Int))).toNat=c by omega,Nat.shiftLeft_zero,Jd9 _ s (by rw[Jai (k:=23) k1 k2];omega)]
  rw[h.neg,h.mag]
  unfold signed
  rw[Nat.shiftLeft_zero]
  by_cases q:n<0
  ·rw[decide_eq_true q,if_pos rfl];congr 1;omega
  ·rw[decide_eq_false q,if_neg (by decide)];congr 1;omega
 ·show(FloatKind.f32.decode (FloatKind.f32.nearest n)).order (FloatKind.f32.decode (FloatKind.f32.nearest n))=_
  rw[hi];simp[Datum.order]
 ·rw[Jl8 h]
  have e2:single.signWeight=2147483648:=by decide
  unfold Format.word
  rw[e2]
  split<;>omega
 ·rw[Jl8 h]
  have e2:single.signWeight=2147483648:=by decide
  unfold Format.word
  rw[e2]
  split<;>omega
 ·exfalso
  have q:(FloatKind.f32.decode (Yc n)).order (FloatKind.f32.decode 0)=some .eq:=q
  have ez:FloatKind.f32.decode 0= .number false 0 (-149):=by kernel_rfl
  rw[hx,ez] at q
  have q:=Int.compare_eq_eq.1 (Option.some.inj q)
  unfold signed at q
  rw[Nat.shiftLeft_eq,Nat.shiftLeft_eq] at q
  have:=Nat.mul_pos (show 0<m*2^c by omega) (Nat.two_pow_pos (-4-(c:Int)-min (-4-(c:Int)) (-149)).toNat)
  cases s
  ·rw[if_neg (by decide),if_neg (by decide)] at q;omega
  ·rw[if_pos rfl,if_neg (by decide)] at q;omega
theorem fa {n:Int} (h: -16384≤n∧n≤16384):Fa n:=by
 by_cases h0:n=0
 ·subst h0;exact Jnw
 ·obtain⟨c,hc⟩:=isS h0 h
  exact J1s hc h0
end
section
open Ieee
variable {n:Int} {s:Bool} {m c:Nat}
theorem Jri (s:Bool) {r:Nat} (h:r<9223372036854775808):(bits .andNot .u64 ((double.word s r:Nat):Int) 9223372036854775808).toNat=r:=by
 have e2:double.signWeight=9223372036854775808:=by decide
 have hw:double.word s r<18446744073709551616∧double.word s r %9223372036854775808=r:=by
  unfold Format.word
  rw[e2]
  split<;>omega
 have e:(bits .andNot .u64 ((double.word s r:Nat):Int) 9223372036854775808)=IntKind.u64.wrap (((BitVec.ofInt 64 ((double.word s r:Nat):Int))&&& ~~~(BitVec.ofInt 64 9223372036854775808)).toNat:Nat):=rfl
 rw[e,BitVec.toNat_and,show(~~~(BitVec.ofInt 64 9223372036854775808)).toNat=2^63-1 by decide,Nat.and_two_pow_sub_one_eq_mod]
 have e4:(BitVec.ofInt 64 ((double.word s r:Nat):Int)).toNat=double.word s r:=by
  rw[BitVec.ofInt_natCast,BitVec.toNat_ofNat,Nat.mod_eq_of_lt hw.1]
 rw[e4,show(2:Nat)^63=9223372036854775808 by decide,hw.2]
 have:IntKind.u64.wrap ((r:Nat):Int)=(r:Int):=by
  unfold IntKind.wrap
  simp only[IntKind.signed,IntKind.bits,Bool.false_and,Bool.false_eq_true,if_false]
  omega
 rw[this];rfl
theorem Jrq (h:IsS n s m c):Uu .f32 (Yc n)=double.word s ((1041-c)*4503599627370496+m*2^c*2^29):=by
 have h1:=h.lo;have h2:=h.hi;have k1:=h.k1;have k2:=h.k2
 have e3:double.binade=4503599627370496:=by decide
 unfold Uu
 rw[Jdd h]
 have:=Jhm double s (M:=m*2^c) (c:=29) (q:=1041-c) (p:= -4-(c:Int)) (by show 4503599627370496≤_;omega) (by show _<9007199254740992;omega) (by decide) (by show -4-(c:Int)-29= -1074+((1041-c:Nat):Int);omega) (by rw[e3];show _≤9218868437227405312;omega)
 rw[e3] at this
 rw[←this];rfl
theorem Jwe (h:IsS n s m c):FloatKind.f64.decode (Uu .f32 (Yc n))= .number s (m*2^c*2^29) (-33-c):=by
 have h1:=h.lo;have h2:=h.hi;have k1:=h.k1;have k2:=h.k2
 rw[Jrq h]
 show double.read _=_
 rw[Jmp s (by omega) (by omega) (by omega)]
 congr 1;omega
theorem Jkp (c:Nat) (m:Nat):m*2^c*2^29=m*2^(c+29):=by rw[Nat.pow_add,Nat.mul_assoc]
theorem Jr2 (h:IsS n s m c):FloatKind.f64.nearest n=double.word s ((1045-c)*4503599627370496+m*2^c*2^29):=by
 have h1:=h.lo;have h2:=h.hi;have k1:=h.k1;have k2:=h.k2
 have e3:double.binade=4503599627370496:=by decide
 have:=Jhm double s (M:=m) (c:=c+29) (q:=1045-c) (p:=0) (by rw[←Jkp];show 4503599627370496≤_;omega) (by rw[←Jkp];show _<9007199254740992;omega) (by show c+29≤52;omega) (by show(0:Int)-((c+29:Nat):Int)= -1074+((1045-c:Nat):Int);omega) (by rw[e3,←Jkp];show _≤9218868437227405312;omega)
 rw[e3,←Jkp] at this
 rw[←this,h.neg,h.mag];rfl
theorem Jtl (h:IsS n s m c):FloatKind.f64.decode (FloatKind.f64.nearest n)= .number s (m*2^c*2^29) (-29-c):=by
 have h1:=h.lo;have h2:=h.hi;have k1:=h.k1;have k2:=h.k2
 rw[Jr2 h]
 show double.read _=_
 rw[Jmp s (by omega) (by omega) (by omega)]
 congr 1;omega
structure Fb (n:Int):Prop where
 n32:Jal .f32 (Yc n)=true
 n64:Jal .f64 (Uu .f32 (Yc n))=true
 self:FloatKind.f64.format.order (Uu .f32 (Yc n)) (Uu .f32 (Yc n))=some .eq
 abs:FloatKind.f64.format.order (bits .andNot .u64 ((Uu .f32 (Yc n):Nat):Int) 9223372036854775808).toNat 9218868437227405311≠some .gt
 low:FloatKind.f64.format.order (Uu .f32 (Yc n)) (FloatKind.f64.nearest (-1024))≠some .lt
 high:FloatKind.f64.format.order (Uu .f32 (Yc n)) (FloatKind.f64.nearest 1024)≠some .gt
 mul:FloatKind.f64.format.mul 4625196817309499392 (Uu .f32 (Yc n))=some (FloatKind.f64.nearest n)
 nan:∀s t,FloatKind.f64.decode (FloatKind.f64.nearest n)≠ .nan s t
 floor:FloatKind.f64.encode ((FloatKind.f64.decode (FloatKind.f64.nearest n)).integral .down)=FloatKind.f64.nearest n
 eq:FloatKind.f64.format.order (FloatKind.f64.nearest n) (FloatKind.f64.nearest n)=some .eq
theorem Juf:Fb 0:=⟨by kernel_rfl,by kernel_rfl,by kernel_rfl,by decide,by decide,by decide,by kernel_rfl,fun s t h=>(by rw[show FloatKind.f64.decode (FloatKind.f64.nearest 0)= .number false 0 (-1074) by kernel_rfl] at h;cases h),by kernel_rfl,by kernel_rfl⟩
theorem J1r (h:IsS n s m c):Fb n:=by
 have h1:=h.lo;have h2:=h.hi;have k1:=h.k1;have k2:=h.k2
 have e3:double.binade=4503599627370496:=by decide
 have hx:=Jdd h
 have hy:=Jwe h
 have hn:=Jtl h
 have l14:=Jwo h
 have e16:double.read 4625196817309499392= .number false 4503599627370496 (-48):=by kernel_rfl
 have eN:FloatKind.f64.decode (FloatKind.f64.nearest (-1024))= .number true 4503599627370496 (-42):=by kernel_rfl
 have eP:FloatKind.f64.decode (FloatKind.f64.nearest 1024)= .number false 4503599627370496 (-42):=by kernel_rfl
 have eM:FloatKind.f64.decode 9218868437227405311= .number false 9007199254740991 971:=by kernel_rfl
 have ob:∀t,(t=false→Datum.order (.number s (m*2^c*2^29) (-33-c)) (.number t 4503599627370496 (-42))≠some .gt)∧(t=true→Datum.order (.number s (m*2^c*2^29) (-33-c)) (.number t 4503599627370496 (-42))≠some .lt):=fun t=>
  F4 (by omega) (by rw[show(-42-(-33-(c:Int))).toNat=c-9 by omega];have:=Nat.mul_le_mul_right (2^29) l14;omega)
 refine⟨?_, ?_, ?_, ?_, ?_, ?_, ?_, ?_, ?_, ?_⟩
 ·unfold Jal;rw[hx]
 ·unfold Jal;rw[hy]
 ·show(FloatKind.f64.decode _).order (FloatKind.f64.decode _)=_
  rw[hy];simp[Datum.order]
 ·rw[Jrq h,Jri s (by omega)]
  have hr:=Jmp false (K:=m*2^c*2^29) (q:=1041-c) (by omega) (by omega) (by omega)
  have ew:double.word false ((1041-c)*4503599627370496+m*2^c*2^29)=(1041-c)*4503599627370496+m*2^c*2^29:=rfl
  rw[ew] at hr
  show(double.read _).order (FloatKind.f64.decode _)≠_
  rw[hr,eM]
  refine(F4 (by omega) ?_).1 rfl
  have:=Nat.le_mul_of_pos_right 9007199254740991 (Nat.two_pow_pos (971-(-1074+((1041-c:Nat):Int))).toNat)
  omega
 ·show(FloatKind.f64.decode _).order (FloatKind.f64.decode _)≠_
  rw[hy,eN];exact(ob true).2 rfl
 ·show(FloatKind.f64.decode _).order (FloatKind.f64.decode _)≠_
  rw[hy,eP];exact(ob false).1 rfl
 ·show((double.read 4625196817309499392).product (FloatKind.f64.decode _)).map double.write=_
  rw[hy,e16,Jr2 h]
  show some (double.nearest (false^^s) (4503599627370496*(m*2^c*2^29)) (-48+(-33-(c:Int))))=_
  have:=F9 double s (K:=m*2^c*2^29) (d:=52) (q:=1045-c) (p:= -81-(c:Int)) (by show 4503599627370496≤_;omega) (by show _<9007199254740992;omega) (by show -81-(c:Int)+52= -1074+((1045-c:Nat):Int);omega) (by rw[e3];show _≤9218868437227405312;omega)
  rw[e3] at this
  rw[←this,Bool.false_xor,show 4503599627370496*(m*2^c*2^29)=m*2^c*2^29*2^52 by omega,show -48+(-33-(c:Int))= -81-(c:Int) by omega]
 ·intro s' t q;rw[hn] at q;cases q
 ·rw[hn]
  simp only[Datum.integral]
  rw[show(-29-(c:Int)).toNat=0 by omega,show(-(-29-(c:Int))).toNat=c+29 by omega,Nat.shiftLeft_zero,Jkp,Jd9 _ s (by rw[←Jkp,Jai (k:=52) (by omega) (by omega)];omega)]
  rw[h.neg,h.mag];rfl
 ·show(FloatKind.f64.decode _).order (FloatKind.f64.decode _)=_
  rw[hn];simp[Datum.order]
theorem fb {n:Int} (h: -16384≤n∧n≤16384):Fb n:=by
 by_cases h0:n=0
 ·subst h0;exact Juf
 ·obtain⟨c,hc⟩:=isS h0 h
  exact J1r hc
end
end Go.Proofs.YtkhdpgadionfnaaGreat

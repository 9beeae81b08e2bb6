/- Contracts of the functions that the law reaches: part of the proof. -/
import Derived.Test.YtcibbcfiemeoiaaGreatDoorFB
set_option linter.unusedSimpArgs false
set_option linter.unusedVariables false
set_option maxRecDepth 20000
namespace Go.Proofs.YtcibbcfiemeoiaaGreatDoor
open Go.Sx
set_option maxHeartbeats 20000000
def Jsp:List Say:=[(⟨⟨[115,116,97,116,105,111,110,32,97,32,48,32,49,48]⟩⟩,⟨⟨[100,111,110,101,32,49]⟩⟩,0),(⟨⟨[115,116,97,116,105,111,110,32,98,32,48,32,56]⟩⟩,⟨⟨[100,111,110,101,32,50]⟩⟩,0),(⟨⟨[112,114,105,99,101,32,97,32,48,32,53]⟩⟩,⟨⟨[100,111,110,101,32,51]⟩⟩,0),(⟨⟨[111,114,100,101,114,32,111,49,32,97,32,98,32,49,32,50,32,53,32,54]⟩⟩,⟨⟨[100,111,110,101,32,52]⟩⟩,0),(⟨⟨[111,114,100,101,114,32,111,50,32,98,32,97,32,49,32,50,32,53,32,51]⟩⟩,⟨⟨[]⟩⟩,4),(⟨⟨[111,117,116,97,103,101,32,121,32,98,32,49,32,51,32,52,32,53]⟩⟩,⟨⟨[]⟩⟩,24),(⟨⟨[111,117,116,97,103,101,32,120,32,98,32,49,32,53,32,55,32,48]⟩⟩,⟨⟨[100,111,110,101,32,53]⟩⟩,0),(⟨⟨[112,101,114,109,105,116,32,112,32,120,32,53]⟩⟩,⟨⟨[100,111,110,101,32,54]⟩⟩,0),(⟨⟨[109,105,115,115,105,110,103]⟩⟩,⟨⟨[111,49,32,50,32,111,49,32,51,32,111,49,32,52]⟩⟩,0),(⟨⟨[111,117,116,97,103,101,115]⟩⟩,⟨⟨[120]⟩⟩,0),(⟨⟨[116,114,105,112,32,111,49,32,53]⟩⟩,⟨⟨[]⟩⟩,23),(⟨⟨[109,101,116,101,114,32,111,49,32,53,32,50,32,54,32,54]⟩⟩,⟨⟨[100,111,110,101,32,55]⟩⟩,0),(⟨⟨[109,101,116,101,114,32,111,49,32,53,32,51,32,54,32,53]⟩⟩,⟨⟨[100,111,110,101,32,56]⟩⟩,0),(⟨⟨[115,101,116,116,108,101,32,53,32,53]⟩⟩,⟨⟨[]⟩⟩,32),(⟨⟨[109,101,116,101,114,32,111,49,32,53,32,52,32,52,32,51]⟩⟩,⟨⟨[100,111,110,101,32,57]⟩⟩,0),(⟨⟨[109,105,115,115,105,110,103]⟩⟩,⟨⟨[110,111,110,101]⟩⟩,0),(⟨⟨[115,101,116,116,108,101,32,53,32,54]⟩⟩,⟨⟨[]⟩⟩,14),(⟨⟨[115,101,116,116,108,101,32,53,32,53]⟩⟩,⟨⟨[100,111,110,101,32,49,48]⟩⟩,0),(⟨⟨[117,110,100,111]⟩⟩,⟨⟨[]⟩⟩,21),(⟨⟨[98,105,108,108,32,111,49]⟩⟩,⟨⟨[51,32,49,54,32,49,52,32,55,48,32,49,50]⟩⟩,0),(⟨⟨[98,97,108,97,110,99,101,32,98]⟩⟩,⟨⟨[45,53,56]⟩⟩,0),(⟨⟨[114,97,116,101,32,97]⟩⟩,⟨⟨[53]⟩⟩,0),(⟨⟨[114,101,115,116,111,114,101,32,120,32,54]⟩⟩,⟨⟨[]⟩⟩,32),(⟨⟨[112,101,114,109,105,116,115]⟩⟩,⟨⟨[112]⟩⟩,0),(⟨⟨[114,101,116,117,114,110,32,112,32,54]⟩⟩,⟨⟨[100,111,110,101,32,49,49]⟩⟩,0),(⟨⟨[114,101,115,116,111,114,101,32,120,32,54]⟩⟩,⟨⟨[100,111,110,101,32,49,50]⟩⟩,0),(⟨⟨[115,101,116,116,108,101,32,56,32,56]⟩⟩,⟨⟨[100,111,110,101,32,49,51]⟩⟩,0),(⟨⟨[115,101,116,116,108,101,100]⟩⟩,⟨⟨[56]⟩⟩,0)]
def Jaa:List Ev:=[(1,⟨⟨[115,116,97,116,105,111,110]⟩⟩,[⟨⟨[97]⟩⟩],[0,10],⟨⟨[]⟩⟩),(2,⟨⟨[115,116,97,116,105,111,110]⟩⟩,[⟨⟨[98]⟩⟩],[0,8],⟨⟨[]⟩⟩),(3,⟨⟨[112,114,105,99,101]⟩⟩,[⟨⟨[97]⟩⟩],[0,5],⟨⟨[]⟩⟩),(4,⟨⟨[111,114,100,101,114]⟩⟩,[⟨⟨[111,49]⟩⟩,⟨⟨[97]⟩⟩,⟨⟨[98]⟩⟩],[1,2,5,6],⟨⟨[]⟩⟩),(5,⟨⟨[111,117,116,97,103,101]⟩⟩,[⟨⟨[120]⟩⟩,⟨⟨[98]⟩⟩],[1,5,7,0],⟨⟨[]⟩⟩),(6,⟨⟨[112,101,114,109,105,116]⟩⟩,[⟨⟨[112]⟩⟩,⟨⟨[120]⟩⟩],[5],⟨⟨[]⟩⟩),(7,⟨⟨[109,101,116,101,114]⟩⟩,[⟨⟨[111,49]⟩⟩],[5,2,6,6],⟨⟨[]⟩⟩),(8,⟨⟨[109,101,116,101,114]⟩⟩,[⟨⟨[111,49]⟩⟩],[5,3,6,5],⟨⟨[]⟩⟩),(9,⟨⟨[109,101,116,101,114]⟩⟩,[⟨⟨[111,49]⟩⟩],[5,4,4,3],⟨⟨[]⟩⟩),(10,⟨⟨[115,101,116,116,108,101]⟩⟩,[],[5,5],⟨⟨[]⟩⟩),(11,⟨⟨[114,101,116,117,114,110]⟩⟩,[⟨⟨[112]⟩⟩],[6],⟨⟨[]⟩⟩),(12,⟨⟨[114,101,115,116,111,114,101]⟩⟩,[⟨⟨[120]⟩⟩],[6],⟨⟨[]⟩⟩),(13,⟨⟨[115,101,116,116,108,101]⟩⟩,[],[8,8],⟨⟨[]⟩⟩)]
def K6q:List Ev:=(Jeh Vn Jsp).1.2.1
def K6p:List Reg:=(Jeh Vn Jsp).1.2.2
theorem Jyx:Jeh Vn Jsp=((Jaa,K6q,K6p),true):=by kernel_rfl
def Ubh:Zh:={T? :=some 212,s:=Jjf,args:=[.val false (.list 147 Kr7)],ress:=[Bo],pre:=fun h (l,_)=>[h=Vn,l=Jsp],spec:=fun _ _=>(true,()),post:=fun _ _=>(Jaa,K6q,K6p)}
theorem Jvp:Jsp.length≤1000000∧∀x∈Jsp,x.1.size≤1000000:=by
 refine⟨by decide,fun x hx=> ?_⟩
 have:(Jsp.all fun x=>decide (x.1.size≤1000000))=true:=by kernel_rfl
 exact of_decide_eq_true (List.all_eq_true.1 this x hx)
theorem J2b {f:FuncId} {c:Zh} {p:c.s.T→ATup c.args→List Prop} {sp:c.s.T→ATup c.args→Tup c.ress} {q:c.s.T→ATup c.args→c.s.T} (h1:OkO Tryz.prog f c) (h:∀x y,Us (p x y)→Us (c.pre x y)∧sp x y=c.spec x y∧q x y=c.post x y):OkO Tryz.prog f {c with pre:=p,spec:=sp,post:=q}:=
 ⟨h1.1,fun x y M R B w b T cells vals vs hB hMR hg hw hBb hMb hRb hT ho hv hpre ha=>by
  obtain⟨hp,e1,e2⟩:=h x y hpre
  have H:=h1.2 x y M R B w b T cells vals vs hB hMR hg hw hBb hMb hRb hT ho hv hp ha
  dsimp only
  rw[e1,e2]
  exact H⟩
theorem Ksb:OkO Tryz.prog 66 Kdr:=Uk mixed Krc.ok (by kernel_rfl) (by kernel_rfl) (U0 (l:=([]:List (Nat×Func))) (by simp)) (fun xx yy=>Zg (Jy3 (xx.1,xx.2.1,xx.2.2) yy.1)) (fun xx yy=>fun _=>na ()) fun T xx yy hT=>by obtain rfl:=hT _ rfl;exact K6i xx.1 xx.2.1 xx.2.2 yy.1
theorem Kse:Ok Tryz.prog 66 (Zh.con Ubh):=Zk (J2b (c:=Kdr) Ksb fun x y hp=>by
 obtain⟨rfl,e⟩:=hp
 obtain⟨l,_⟩:=y
 have e:l=Jsp:=e
 subst e
 exact⟨⟨Yv,J79,Jvp.1,Jvp.2⟩,by rw[show Kdr.spec Vn (Jsp,())=((Jeh Vn Jsp).2,()) from rfl,Jyx],by rw[show Kdr.post Vn (Jsp,())=(Jeh Vn Jsp).1 from rfl,Jyx]⟩)
abbrev K6c:=Ub4.add Kse
theorem Jq0:Jaa.length=13:=by kernel_rfl
theorem Jot:∀e∈Jaa,Fp e:=fun e he=>by
 have:(Jaa.all fun e=>decide (e.2.2.1.length≤1000000)&&decide (e.2.2.2.1.length≤1000000)&&e.2.2.1.all fun s=>decide (s.size≤1000000))=true:=by kernel_rfl
 have h:=List.all_eq_true.1 this e he
 simp only[Bool.and_eq_true] at h
 exact⟨of_decide_eq_true h.1.1,of_decide_eq_true h.1.2,fun s hs=>of_decide_eq_true (List.all_eq_true.1 h.2 s hs)⟩
theorem J8d:∀e∈Jaa,Jc e=0:=fun e he=>by
 have:(Jaa.all fun e=>Jc e==0)=true:=by kernel_rfl
 exact eq_of_beq (List.all_eq_true.1 this e he)
theorem Jou (n:Nat):lOk (Jaa.take n):=⟨by have:=Jq0;rw[List.length_take];omega,fun e he=>Jot e (List.mem_of_mem_take he)⟩
def J5v:Con:={args:=[],ress:=[Bo],owns:=[],pre:=fun _=>[],spec:=fun _=>(true,())}
def Z82:=Sf true (false=true)
def Krb:=[(32:UInt8),(56:UInt8)]
def J6u:=[(32:UInt8),(53:UInt8)]
def Kra:=[(32:UInt8),(51:UInt8)]
def Kfp:=[(32:UInt8),(54:UInt8)]
def Kq7:=ByteArray.mk (Array.mk [97])
def Klf:=ByteArray.mk (Array.mk [98])
def K6b:=32::53::Kfp
def K14:=ByteArray.mk (Array.mk (115::101::116::116::108::101::32::53::J6u))
def K1o:=ByteArray.mk (Array.mk (114::101::115::116::111::114::101::32::120::Kfp))
def K01:=Jg4 (List.take 6 Jaa) Kq7 3+Jg4 (List.take 6 Jaa) Klf 5
def Ky5:=K01+Jm4 Jaa Kq7 Klf
def Ky0:=Ky5+Jg9 Jaa 4
def Kyx:=Ky0+(Jcm Jaa).2
def Kx8:=Kyx+avE (List.take 10 Jaa) Klf
def Kxy:=Kx8+avE Jaa Klf
theorem K87:wpFG Tryz.prog K6c.g (na ()) (fun _=>na ()) (Sx.look ([(65,Tryz.f65)]:List (Nat×Func))) Tryz.f14 J5v ():=by
 refine(by kernel_rfl:((([],[],[])=Vn∧[(ByteArray.mk (Array.mk [115,116,97,116,105,111,110,32,97,32,48,32,49,48]),ByteArray.mk (Array.mk [100,111,110,101,32,49]),0),(ByteArray.mk (Array.mk (115::116::97::116::105::111::110::32::98::32::48::Krb)),ByteArray.mk (Array.mk [100,111,110,101,32,50]),0),(ByteArray.mk (Array.mk (112::114::105::99::101::32::97::32::48::J6u)),ByteArray.mk (Array.mk (100::111::110::101::Kra)),0),(ByteArray.mk (Array.mk (111::114::100::101::114::32::111::49::32::97::32::98::32::49::32::50::K6b)),ByteArray.mk (Array.mk [100,111,110,101,32,52]),0),(ByteArray.mk (Array.mk (111::114::100::101::114::32::111::50::32::98::32::97::32::49::32::50::32::53::Kra)),B0,4),(ByteArray.mk (Array.mk (111::117::116::97::103::101::32::121::32::98::32::49::32::51::32::52::J6u)),B0,24),(ByteArray.mk (Array.mk [111,117,116,97,103,101,32,120,32,98,32,49,32,53,32,55,32,48]),ByteArray.mk (Array.mk (100::111::110::101::J6u)),0),(ByteArray.mk (Array.mk (112::101::114::109::105::116::32::112::32::120::J6u)),ByteArray.mk (Array.mk (100::111::110::101::Kfp)),0),(Uw,ByteArray.mk (Array.mk [111,49,32,50,32,111,49,32,51,32,111,49,32,52]),0),(U5,ByteArray.mk (Array.mk [120]),0),(ByteArray.mk (Array.mk (116::114::105::112::32::111::49::J6u)),B0,23),(ByteArray.mk (Array.mk (109::101::116::101::114::32::111::49::32::53::32::50::32::54::Kfp)),ByteArray.mk (Array.mk [100,111,110,101,32,55]),0),(ByteArray.mk (Array.mk (109::101::116::101::114::32::111::49::32::53::32::51::32::54::J6u)),ByteArray.mk (Array.mk (100::111::110::101::Krb)),0),(K14,B0,32),(ByteArray.mk (Array.mk (109::101::116::101::114::32::111::49::32::53::32::52::32::52::Kra)),ByteArray.mk (Array.mk [100,111,110,101,32,57]),0),(Uw,Jnc,0),(ByteArray.mk (Array.mk (115::101::116::116::108::101::K6b)),B0,14),(K14,ByteArray.mk (Array.mk [100,111,110,101,32,49,48]),0),(Jl,B0,21),(ByteArray.mk (Array.mk [98,105,108,108,32,111,49]),ByteArray.mk (Array.mk [51,32,49,54,32,49,52,32,55,48,32,49,50]),0),(ByteArray.mk (Array.mk [98,97,108,97,110,99,101,32,98]),ByteArray.mk (Array.mk [45,53,56]),0),(ByteArray.mk (Array.mk [114,97,116,101,32,97]),ByteArray.mk (Array.mk [53]),0),(K1o,B0,32),(U4,ByteArray.mk (Array.mk [112]),0),(ByteArray.mk (Array.mk (114::101::116::117::114::110::32::112::Kfp)),ByteArray.mk (Array.mk [100,111,110,101,32,49,49]),0),(K1o,ByteArray.mk (Array.mk [100,111,110,101,32,49,50]),0),(ByteArray.mk (Array.mk (115::101::116::116::108::101::32::56::Krb)),ByteArray.mk (Array.mk [100,111,110,101,32,49,51]),0),(U3,ByteArray.mk (Array.mk [56]),0)]=Jsp)∧Br false Z82 ((13≤1000∧∀(e:Ev),e∈Jaa→Fp e)∧Br false Z82 (T2 (((0:Int)≤0∧(0:Int)≤6∧(6:Int)≤13)∧lOk (List.take 6 Jaa)) (lOk Jaa∧T2 (lOk Jaa) ((((0:Int)≤0∧(0:Int)≤10∧(10:Int)≤13)∧lOk (List.take 10 Jaa))∧T2 (lOk Jaa) ((13≤1000∧∀(e:Ev),e∈Jaa→Dk e)∧(325:Int)≤9223372036854775807∧(Iw K01∧Iw Ky5∧Iw Ky0∧Iw Kyx∧Iw Kx8∧Iw Kxy∧Iw (Kxy+Vl Jaa Kq7)∧(true=true→2≤1000000))∧Tw (true=true)))))))=_).mp ?_
 delta Z82 Krb J6u Kra Kfp Kq7 Klf K6b Jnc K14 K1o K01 Ky5 Ky0 Kyx Kx8 Kxy Br Iw T2 Tw Sf B0 Uw U5 U4 U3 Jl
 have ok:lOk Jaa:=⟨by rw[Jq0];decide,Jot⟩
 have z1:Jg4 (List.take 6 Jaa) {data:={toList:=[97]}} 3=0:=by kernel_rfl
 have z2:Jg4 (List.take 6 Jaa) {data:={toList:=[98]}} 5=0:=by kernel_rfl
 have z3:Jm4 Jaa {data:={toList:=[97]}} {data:={toList:=[98]}}=0:=by kernel_rfl
 have z4:Jg9 Jaa 4=0:=by kernel_rfl
 have z5:(Jcm Jaa).2=0:=by kernel_rfl
 have z6:avE (List.take 10 Jaa) {data:={toList:=[98]}}=0:=by kernel_rfl
 have z7:avE Jaa {data:={toList:=[98]}}=0:=by kernel_rfl
 have z8:Vl Jaa {data:={toList:=[97]}}=0:=by kernel_rfl
 rw[z1,z2,z3,z4,z5,z6,z7,z8]
 exact⟨⟨rfl,rfl⟩,fun h=>(nomatch h),fun _=>⟨⟨by decide,Jot⟩,fun h=>(nomatch h),fun _=>⟨⟨by omega,Jou 6⟩,⟨by omega,Jou 6⟩,ok,ok,ok,⟨by omega,Jou 10⟩,ok,ok,⟨by decide,fun e he=>J88 (J8d e he)⟩,by decide,⟨by decide,by decide,by decide,by decide,by decide,by decide,by decide,fun _=>by decide⟩,rfl,rfl⟩⟩⟩
theorem Uas:Ok Tryz.prog 14 J5v:=Jfb mixed K6c.ok (by kernel_rfl) (by kernel_rfl) (U0 (l:=([(65,Tryz.f65)]:List (Nat×Func))) (List.forall_mem_cons.2 ⟨by kernel_rfl,by simp⟩)) (fun xx=>na ()) (fun xx=>fun _=>na ()) fun xx=>K87
abbrev K7g:=K6c.add Uas
def eqL {α:Type} (p:α→α→Bool):List α→List α→Bool
 |[],[]=>true
 |x::l,y::r=>bif p x y then eqL p l r else false
 |_,_=>false
theorem Jqz {α:Type} {p:α→α→Bool}:∀{l r:List α},l.length≠r.length→eqL p l r=false
 |[],[],h=>absurd rfl h
 |[],_::_,_=>rfl
 |_::_,[],_=>rfl
 |x::l,y::r,h=>by
  unfold eqL
  rw[Jqz (fun e=>h (by rw[List.length_cons,List.length_cons,e]))]
  cases p x y<;>rfl
theorem Jec {α:Type} {p:α→α→Bool} (h:∀x,p x x=true):∀l:List α,eqL p l l=true
 |[]=>rfl
 |x::l=>by unfold eqL;rw[h x,cond_true];exact Jec h l
def Jao (a b:ByteArray):Bool:= !(a.toList !=b.toList)
def Jan (a b:Int):Bool:= !(a !=b)
abbrev Jpb (T:TypeId) (s:Sch) (p:s.T→s.T→Bool) (xs ys:List s.T):Ann:={X:=Nat,σ:=fun k=>⟨2,[(0, .one (.sl 0)),(1, .one (.sl 1)),(5, .one (.int .i64 k))],[(0, .imm T s xs),(1, .imm T s ys)]⟩,inv:=fun k=>k≤xs.length∧xs.length=ys.length∧eqL p (xs.drop k) (ys.drop k)=eqL p xs ys,mu:=fun k=>xs.length-k}
def Kg4 (T:TypeId) (s:Sch) (p:s.T→s.T→Bool):Con:={args:=[.val false (.list T s), .val false (.list T s)],ress:=[Bo],owns:=[],pre:=fun(xs,_)=>[xs.length≤1000000],spec:=fun(xs,ys,_)=>(eqL p xs ys,())}
def Kg0:Con:=Kg4 9 .str Jao
def Km6 (a:Nat) (b c:Ls):=a≤List.length b∧List.length b=List.length c∧eqL Jao (List.drop a b) (List.drop a c)=eqL Jao b c
theorem K9l:Ok Tryz.prog 89 Kg0:=okW K7g Tryz.f89 (fun xx=>Zg (Jpb 9 .str Jao xx.1 xx.2.1)) fun xx=>by
 obtain⟨(xs:List ByteArray),(ys:List ByteArray),_⟩:=xx
 refine(by kernel_rfl:(Fu xs→Br (Ln xs !=Ln ys) (false=eqL Jao xs ys) (∃(x:Nat),(0=Nc x∧Sf xs (ys=ys))∧Km6 x xs ys∧∀(x:Nat),Km6 x xs ys→Br (decide (Nc x<Ln xs)) (T2 (Z92 x xs) (Tw (Z92 x ys))∧Br (!Lb (Z19 xs x) (Z19 ys x)) (false=eqL Jao xs ys) (Z21 x∧∃(y:Nat),(V4 x y∧Sf xs (ys=ys))∧Km6 y xs ys∧Ke3 xs y x)) (true=eqL Jao xs ys)))=_).mp ?_
 delta Z19 Z21 Z92 V4 Fu Ke3 Km6 Br Iw Bd T2 Tw Sf Ln Nc B0 Lb
 intro hl
 refine⟨fun h=> ?_,fun h=>⟨(0:Nat),by simp,⟨Nat.zero_le _, ?_,rfl⟩,fun(k:Nat) hk=>⟨fun h1=> ?_,fun h1=> ?_⟩⟩⟩
 ·have h:((xs.length:Int) !=ys.length)=true:=h
  exact(Jqz (by have:=bne_iff_ne.1 h;omega)).symm
 ·have h:((xs.length:Int) !=ys.length)=false:=h
  have:=bne_eq_false_iff_eq.1 h
  omega
 ·obtain⟨k1,k2,k3⟩:=hk
  have hlt:k<xs.length:=by simpa using h1
  rw[Jn (l:=xs) (d:=Jb) hlt,Jn (l:=ys) (d:=Jb) (by omega),eqL] at k3
  refine⟨by omega,fun h2=> ?_,fun h2=> ?_⟩
  ·have h2:Jao (xs.getD k Jb) (ys.getD k Jb)=false:=by unfold Jao;rw[show((xs.getD k Jb).toList !=(ys.getD k Jb).toList)=true from h2];rfl
   rw[h2] at k3;exact k3
  ·have h2:Jao (xs.getD k Jb) (ys.getD k Jb)=true:=by unfold Jao;rw[show((xs.getD k Jb).toList !=(ys.getD k Jb).toList)=false from h2];rfl
   rw[h2] at k3
   exact⟨by omega,(k+1:Nat),by simp,⟨by omega,k2,k3⟩,by omega⟩
 ·obtain⟨k1,k2,k3⟩:=hk
  have hlt:¬k<xs.length:=by simpa using h1
  rw[List.drop_eq_nil_of_le (by omega),List.drop_eq_nil_of_le (by omega)] at k3
  exact k3
abbrev K7f:=K7g.add K9l
def Kg2:Con:=Kg4 3 sI Jan
def Kny (a:Nat) (b c:Li):=a≤List.length b∧List.length b=List.length c∧eqL Jan (List.drop a b) (List.drop a c)=eqL Jan b c
theorem K9k:Ok Tryz.prog 90 Kg2:=okW K7f Tryz.f90 (fun xx=>Zg (Jpb 3 sI Jan xx.1 xx.2.1)) fun xx=>by
 obtain⟨(xs:List Int),(ys:List Int),_⟩:=xx
 refine(by kernel_rfl:(Z57 xs→Br (Ln xs !=Ln ys) (false=eqL Jan xs ys) (∃(x:Nat),(0=Nc x∧Sf xs (ys=ys))∧Kny x xs ys∧∀(x:Nat),Kny x xs ys→Br (decide (Nc x<Ln xs)) (T2 (Bd (Nc x) (Ln xs)) (Z89 x ys)∧Br (Z16 xs x !=Z16 ys x) (false=eqL Jan xs ys) (Z21 x∧∃(y:Nat),(V4 x y∧Sf xs (ys=ys))∧Kny y xs ys∧J01 xs y x)) (true=eqL Jan xs ys)))=_).mp ?_
 delta Z16 Z21 Z57 Z89 V4 J01 Kny Br Iw Bd T2 Tw Sf Ln Nc
 intro hl
 refine⟨fun h=> ?_,fun h=>⟨(0:Nat),by simp,⟨Nat.zero_le _, ?_,rfl⟩,fun(k:Nat) hk=>⟨fun h1=> ?_,fun h1=> ?_⟩⟩⟩
 ·have h:((xs.length:Int) !=ys.length)=true:=h
  exact(Jqz (by have:=bne_iff_ne.1 h;omega)).symm
 ·have h:((xs.length:Int) !=ys.length)=false:=h
  have:=bne_eq_false_iff_eq.1 h
  omega
 ·obtain⟨k1,k2,k3⟩:=hk
  have hlt:k<xs.length:=by simpa using h1
  rw[Jn (l:=xs) (d:=(0:Int)) hlt,Jn (l:=ys) (d:=(0:Int)) (by omega),eqL] at k3
  refine⟨by omega,fun h2=> ?_,fun h2=> ?_⟩
  ·have h2:Jan (xs.getD k 0) (ys.getD k 0)=false:=by unfold Jan;rw[show(xs.getD k 0 !=ys.getD k 0)=true from h2];rfl
   rw[h2] at k3;exact k3
  ·have h2:Jan (xs.getD k 0) (ys.getD k 0)=true:=by unfold Jan;rw[show(xs.getD k 0 !=ys.getD k 0)=false from h2];rfl
   rw[h2] at k3
   exact⟨by omega,(k+1:Nat),by simp,⟨by omega,k2,k3⟩,by omega⟩
 ·obtain⟨k1,k2,k3⟩:=hk
  have hlt:¬k<xs.length:=by simpa using h1
  rw[List.drop_eq_nil_of_le (by omega),List.drop_eq_nil_of_le (by omega)] at k3
  exact k3
abbrev K7e:=K7f.add K9k
def J20 (a b:Ev):Bool:=bif bif bif bif a.1 !=b.1 then true else !(a.2.1.toList==b.2.1.toList) then true else !eqL Jao a.2.2.1 b.2.2.1 then true else !eqL Jan a.2.2.2.1 b.2.2.2.1 then true else !(a.2.2.2.2.toList==b.2.2.2.2.toList)
def Hv (a b:Ev):Bool:= !J20 a b
theorem Jss (a:ByteArray):Jao a a=true:=by unfold Jao;simp
theorem Jsr (a:Int):Jan a a=true:=by unfold Jan;simp
def Kg3:Con:={args:=[.val false (.list 67 sEv), .val false (.list 67 sEv)],ress:=[Bo],owns:=[],pre:=fun(xs,_)=>[xs.length≤1000000,∀x∈xs,x.2.2.1.length≤1000000∧x.2.2.2.1.length≤1000000],spec:=fun(xs,ys,_)=>(eqL Hv xs ys,())}
def Kk0 (a:List Ev) (b:Nat):=(Jzc a b).2
def Kn7 (a:Nat) (b c:List Ev):=a≤List.length b∧List.length b=List.length c∧eqL Hv (List.drop a b) (List.drop a c)=eqL Hv b c
def Kz6 (a:List Ev) (b:Nat) (c:List Ev):=Kal a b !=Kal c b
def Kz0 (a:List Ev) (b:Nat) (c:List Ev):=Kz6 a b c=false
def Kye (a:List Ev) (b:Nat) (c:List Ev):=bif Kz6 a b c then true else !Lb (J30 a b) (J30 c b)
def Kma (a:List Ev) (b:Nat) (c:List Ev):=Kye a b c=false
def Kde (a:List Ev) (b:Nat) (c:List Ev):=bif Kye a b c then true else !eqL Jao (Jzd a b).1 (Jzd c b).1
def J4t (a:List Ev) (b:Nat) (c:List Ev):=Kde a b c=false
def Kc2 (a:List Ev) (b:Nat) (c:List Ev):=bif Kde a b c then true else !eqL Jan (Jzc a b).1 (Jzc c b).1
def Kc1 (a:List Ev) (b:Nat) (c:List Ev):=Kc2 a b c=false
theorem Uam:Ok Tryz.prog 24 Kg3:=okW K7e Tryz.f24 (fun xx=>Zg (Jpb 67 sEv Hv xx.1 xx.2.1)) fun xx=>by
 obtain⟨(xs:List Ev),(ys:List Ev),_⟩:=xx
 refine(by kernel_rfl:(Z38 xs→Kn3 xs→Br (Ln xs !=Ln ys) (false=eqL Hv xs ys) (∃(x:Nat),(0=Nc x∧Sf xs (ys=ys))∧Kn7 x xs ys∧∀(x:Nat),Kn7 x xs ys→Br (Z93 x xs) (T2 (Z14 x xs) (T2 (Z14 x ys) (T2 (Kz0 xs x ys→Z14 x xs) (T2 (Kz0 xs x ys→Z14 x ys) (T2 (Kma xs x ys→Z14 x xs) (T2 (Kma xs x ys→Z14 x ys) ((Kma xs x ys→List.length (Jzd xs x).1≤1000000)∧T2 (J4t xs x ys→Z14 x xs) (T2 (J4t xs x ys→Z14 x ys) ((J4t xs x ys→List.length (Jzc xs x).1≤1000000)∧T2 (Kc1 xs x ys→Z14 x xs) (Tw (Kc1 xs x ys→Z14 x ys))))))))))∧Br (bif Kc2 xs x ys then true else !Lb (Kk0 xs x) (Kk0 ys x)) (false=eqL Hv xs ys) (Z21 x∧∃(y:Nat),(V4 x y∧Sf xs (ys=ys))∧Kn7 y xs ys∧List.length xs-y<List.length xs-x)) (true=eqL Hv xs ys)))=_).mp ?_
 delta Z14 Z21 Z38 Z93 V4 J03 Fe J59 Kal Jzd J30 Jzc Kk0 Kad Kn7 Kn3 Kz6 Kz0 Kye Kma Kde J4t Kc2 Kc1 Br Iw Bd T2 Tw Sf Ln Nc B0 Lb
 intro hl hs
 refine⟨fun h=> ?_,fun h=>⟨(0:Nat),by simp,⟨Nat.zero_le _, ?_,rfl⟩,fun(k:Nat) hk=>⟨fun h1=> ?_,fun h1=> ?_⟩⟩⟩
 ·have h:((xs.length:Int) !=ys.length)=true:=h
  exact(Jqz (by have:=bne_iff_ne.1 h;omega)).symm
 ·have h:((xs.length:Int) !=ys.length)=false:=h
  have:=bne_eq_false_iff_eq.1 h
  omega
 ·obtain⟨k1,k2,k3⟩:=hk
  have hlt:k<xs.length:=by simpa using h1
  rw[Jn (l:=xs) (d:=ev0) hlt,Jn (l:=ys) (d:=ev0) (by omega),eqL] at k3
  have hz:((0:Int),({data:={toList:=[]}}:ByteArray),([]:List ByteArray),([]:List Int),({data:={toList:=[]}}:ByteArray))=ev0:=rfl
  have hx:((0:Int)≤(k:Int)∧(k:Int)<(xs.length:Int))=True:=eq_true (by omega)
  have hy:((0:Int)≤(k:Int)∧(k:Int)<(ys.length:Int))=True:=eq_true (by omega)
  have ha:=hs _ (Je (d:=ev0) hlt)
  simp only[hz,hx,hy,implies_true,true_and,and_true]
  generalize xs.getD k ev0=a at ha k3⊢
  generalize ys.getD k ev0=b at k3⊢
  refine⟨⟨fun _=>ha.1,fun _=>ha.2⟩,fun h2=> ?_,fun h2=> ?_⟩
  ·have h2:Hv a b=false:=by unfold Hv;rw[show J20 a b=true from h2];rfl
   rw[h2] at k3;exact k3
  ·have h2:Hv a b=true:=by unfold Hv;rw[show J20 a b=false from h2];rfl
   rw[h2] at k3
   exact⟨by omega,(k+1:Nat),by omega,⟨by omega,k2,k3⟩,by omega⟩
 ·obtain⟨k1,k2,k3⟩:=hk
  have hlt:¬k<xs.length:=by simpa using h1
  rw[List.drop_eq_nil_of_le (by omega),List.drop_eq_nil_of_le (by omega)] at k3
  exact k3
abbrev K7d:=K7e.add Uam
def Jh8 (e:Ev):Bool:=bif bif bif decide (40<(e.2.1.size:Int)) then true else decide (6<(e.2.2.1.length:Int)) then true else decide (8<(e.2.2.2.1.length:Int)) then true else decide (200<(e.2.2.2.2.size:Int))
def X8 (e:Ev):Bool:=bif Jh8 e then false else e.2.2.1.all fun s=> !decide (40<(s.size:Int))
def Xh (l:List Ev) (n:Int):Bool:=bif decide (n<(l.length:Int)) then false else l.all X8
def Kgz:Con:={args:=[.val false (.list 67 sEv),aI],ress:=[Bo],owns:=[],pre:=fun(_,n,_)=>[n≤1000000],spec:=fun(l,n,_)=>(Xh l n,())}
abbrev J3n (l:List Ev) (n:Int):Nat→Option Ann:=fun id=>if id=0 then some {X:=Nat,σ:=fun k=>⟨1,[(0, .one (.sl 0)),(5, .one (.int .i64 k))],[(0, .imm 67 sEv l)]⟩,inv:=fun k=>k≤l.length∧(l.drop k).all X8=l.all X8,mu:=fun k=>l.length-k}
 else if id=2 then some {X:=Nat×Nat,σ:=fun(k,j)=>⟨1,[(0, .one (.sl 0)),(5, .one (.int .i64 k)),(6, .one (.int .i64 j))],[(0, .imm 67 sEv l)]⟩,inv:=fun(k,j)=>k<l.length∧j≤(l.getD k ev0).2.2.1.length∧(l.getD k ev0).2.2.1.length≤6∧(bif (((l.getD k ev0).2.2.1.drop j).all fun s=> !decide (40<(s.size:Int))) then(l.drop (k+1)).all X8 else false)=l.all X8,mu:=fun(k,j)=>(l.getD k ev0).2.2.1.length-j,rel:=some fun x0 x=>x0.1=x.1} else none
def Z36 (a:Nat×Nat):=Iw (Nc a.2+1)
def Jup (a b:Nat×Nat):=Nc a.2+1=Nc b.2
def Kld (a:List Ev) (b:Nat×Nat):=List.length (List.getD a b.1 ev0).2.2.1
def Kqd (a:Nat) (b:List Ev):=a≤List.length b∧List.all (List.drop a b) X8=List.all b X8
def K5g (a:List Ev) (b:Nat×Nat):=Ln (List.getD a b.1 Fe).2.2.1
def K4n (a:List Ev) (b:Nat):=decide (40<Nc (ByteArray.size (J30 a b)))
def Kzd (a:List Ev) (b:Nat):=bif K4n a b then true else decide (6<Ln (Jzd a b).1)
def Kyi (a:List Ev) (b:Nat):=bif Kzd a b then true else decide (8<Ln (Jzc a b).1)
def Kyg (a:Nat×Nat) (b:List Ev):=a.1<List.length b∧a.2≤Kld b a∧Kld b a≤6∧(bif List.all (List.drop a.2 (List.getD b a.1 ev0).2.2.1) fun(s:ByteArray)=> !decide (40<Nc (ByteArray.size s)) then List.all (List.drop (a.1+1) b) X8 else false)=List.all b X8
def Kya (a:Nat×Nat) (b:List Ev) (c:Nat×Nat):=Kyg a b∧c.1=a.1
theorem Uat:Ok Tryz.prog 13 Kgz:=okW K7d Tryz.f13 (fun xx=>J3n xx.1 xx.2.1) fun xx=>by
 obtain⟨(l:List Ev),(n:Int),_⟩:=xx
 refine(by kernel_rfl:(n≤1000000→Br (decide (n<Ln l)) (false=Xh l n) (∃(x:Nat),(0=Nc x∧l=l)∧Kqd x l∧∀(x:Nat),Kqd x l→Br (Z93 x l) (T2 (Z14 x l) (T2 (K4n l x=false→Z14 x l) (T2 (Kzd l x=false→Z14 x l) (Tw (Kyi l x=false→Z14 x l))))∧Br (bif Kyi l x then true else decide (200<Nc (ByteArray.size (Kk0 l x)))) (false=Xh l n) (∃(x0:Nat×Nat),(Nc x=Nc x0.1∧0=Nc x0.2∧l=l)∧(Kyg x0 l∧x0.1=x0.1)∧∀(x_1:Nat×Nat),Kya x_1 l x0→Tw (Bd (Nc x_1.1) (Ln l))∧Br (decide (Nc x_1.2<K5g l x_1)) (T2 (Bd (Nc x_1.1) (Ln l)) (Tw (Bd (Nc x_1.2) (K5g l x_1)))∧Br (decide (40<Nc (ByteArray.size (List.getD (List.getD l x_1.1 Fe).2.2.1 x_1.2 B0)))) (false=Xh l n) (Z36 x_1∧∃(y:Nat×Nat),(Nc x_1.1=Nc y.1∧Jup x_1 y∧l=l)∧Kya y l x0∧Kld l y-y.2<Kld l x_1-x_1.2)) (Iw (Nc x_1.1+1)∧∃(y:Nat),(Nc x_1.1+1=Nc y∧l=l)∧Kqd y l∧List.length l-y<List.length l-x))) (true=Xh l n)))=_).mp ?_
 delta Z14 Z36 Z93 Jup Kld Fe J59 Jzd J30 Jzc Kk0 Kqd K5g K4n Kzd Kyi Kyg Kya Br Iw Bd T2 Tw Ln Nc B0
 intro hn
 refine⟨fun h=> ?_,fun h=>⟨(0:Nat),by simp,⟨Nat.zero_le _,rfl⟩,fun(k:Nat) hk=>⟨fun h1=> ?_,fun h1=> ?_⟩⟩⟩
 ·unfold Xh;rw[h];rfl
 ·have hsh:Xh l n=l.all X8:=by unfold Xh;rw[h];rfl
  obtain⟨k1,k2⟩:=hk
  have hlt:k<l.length:=by simpa using h1
  have hn2:(l.length:Int)≤n:=by have:=of_decide_eq_false h;omega
  rw[Jn (d:=ev0) hlt,List.all_cons] at k2
  have hz:((0:Int),({data:={toList:=[]}}:ByteArray),([]:List ByteArray),([]:List Int),({data:={toList:=[]}}:ByteArray))=ev0:=rfl
  have hx:((0:Int)≤(k:Int)∧(k:Int)<(l.length:Int))=True:=eq_true (by omega)
  simp only[hz,hx,implies_true,true_and,and_true]
  refine⟨fun h2=> ?_,fun h2=> ?_⟩
  ·have h2:X8 (l.getD k ev0)=false:=by unfold X8;rw[show Jh8 (l.getD k ev0)=true from h2];rfl
   rw[h2] at k2
   rw[hsh,←k2];rfl
  ·have h2:Jh8 (l.getD k ev0)=false:=h2
   have h6:(l.getD k ev0).2.2.1.length≤6:=by
    unfold Jh8 at h2
    cases hc:decide (6<((l.getD k ev0).2.2.1.length:Int)) with
    |false=>have:=of_decide_eq_false hc;omega
    |true=>rw[hc] at h2;simp at h2
   have hand:∀u v:Bool,(bif u then v else false)=(u&&v):=by decide
   have hsb:X8 (l.getD k ev0)=(l.getD k ev0).2.2.1.all fun s=> !decide (40<(s.size:Int)):=by unfold X8;rw[h2];rfl
   refine⟨(k,(0:Nat)),by simp,⟨hlt,Nat.zero_le _,h6,by rw[hand];rw[hsb] at k2;exact k2⟩,fun(x:Nat×Nat) hx=> ?_⟩
   obtain⟨k',j⟩:=x
   obtain⟨⟨j1,j2,j3,j4⟩,j5⟩:=hx
   have j5:k=k':=j5
   subst j5
   dsimp only at j1 j2 j3 j4⊢
   refine⟨by omega,fun h3=> ?_,fun h3=> ?_⟩
   ·have hj:j<(l.getD k ev0).2.2.1.length:=Int.ofNat_lt.1 (of_decide_eq_true h3)
    rw[Jn (d:=Jb) hj,List.all_cons] at j4
    refine⟨⟨by omega,by omega, ?_, ?_⟩,fun h4=> ?_,fun h4=>⟨?_,(k,j+1),⟨rfl,by simp⟩,⟨⟨hlt,by dsimp only;omega,j3, ?_⟩,rfl⟩, ?_⟩⟩
    ·exact⟨by omega,Int.ofNat_lt.2 hj⟩
    ·exact⟨by omega,Int.ofNat_lt.2 hj⟩
    ·have h4:decide (40<(((l.getD k ev0).2.2.1.getD j Jb).size:Int))=true:=h4
     rw[h4] at j4
     rw[hsh,←j4];rfl
    ·omega
    ·have h4:decide (40<(((l.getD k ev0).2.2.1.getD j Jb).size:Int))=false:=h4
     rw[h4] at j4
     exact j4
    ·dsimp only;omega
   ·have hj:¬j<(l.getD k ev0).2.2.1.length:=fun q=>of_decide_eq_false h3 (Int.ofNat_lt.2 q)
    rw[List.drop_eq_nil_of_le (by omega)] at j4
    exact⟨by omega,(k+1:Nat),by simp,⟨by omega,j4⟩,by omega⟩
 ·have hsh:Xh l n=l.all X8:=by unfold Xh;rw[h];rfl
  obtain⟨k1,k2⟩:=hk
  have hlt:¬k<l.length:=by simpa using h1
  rw[List.drop_eq_nil_of_le (by omega)] at k2
  rw[hsh,←k2];rfl
abbrev Ub3:=K7d.add Uat
theorem J2r {k:ByteArray} (h:Y2 k=false):(Hj k).2.2=false:=by
 have hne:∀w:ByteArray,Y2 w=true→(k.toList==w.toList)=false:=fun w hw=>by
  cases hc:k.toList==w.toList with
  |false=>rfl
  |true=>
   have:=Ye hc
   subst this
   rw[hw] at h;cases h
 unfold Hj
 rw[hne Jv (by kernel_rfl),hne Uc (by kernel_rfl),hne Kf (by kernel_rfl),hne K2 (by kernel_rfl),hne Vj (by kernel_rfl),hne Jp (by kernel_rfl),hne Jr (by kernel_rfl),hne Kb (by kernel_rfl),hne Ka (by kernel_rfl),hne Jh (by kernel_rfl),hne Jl (by kernel_rfl)]
 rfl
theorem Joq {k:ByteArray} (h:Y2 k=true):(Hj k).2.2=true∧(Hj k).1.size=(Jk k).1.length∧(Hj k).2.1=(Jk k).2.1:=by
 rcases Uo h with h|h|h|h|h|h|h|h|h|h|h<;>subst h
 all_goals exact⟨by kernel_rfl,by kernel_rfl,by kernel_rfl⟩
def Km (k:ByteArray):ByteArray×Int×Bool:=Hj k
def Khs:Con:={args:=[aS],ress:=[(true,Kfy)],owns:=[],pre:=fun _=>[],spec:=fun(k,_)=>(Km k,())}
theorem Kgc:Ok Tryz.prog 110 Khs:=Kgd
abbrev K7c:=Ub3.add Kgc
def ckN (ns:List ByteArray):Int:=Jf (ns.map fun s=>bif Y1 s then 0 else 8)
def ckV (vs:List Int):Int:=Jf (vs.map fun n=>Kt n 0 999999999)
theorem J2z (t:ByteArray):(t.toList==Jb.toList)= !decide (0<t.size):=by
 cases h:t.toList==Jb.toList with
 |true=>have:=Ye h;subst this;rfl
 | false =>
  have:0<t.size:=Nat.pos_of_ne_zero fun h0=>by
   have e:t.data.toList=[]:=List.eq_nil_of_length_eq_zero h0
   rw[Lib.toList_data,Lib.toList_data,e] at h
   exact nomatch (show true=false from h)
  rw[decide_eq_true this];rfl
theorem Y4 (x:Int) (l:List Int):Jf (x::l)=if x=0 then Jf l else x:=rfl
def Kh7:Con:={args:=[aEv],ress:=[I],owns:=[],pre:=fun(e,_)=>[e.2.2.1.length≤1000000,e.2.2.2.1.length≤1000000,∀s∈e.2.2.1,s.size≤1000000],spec:=fun(e,_)=>(Jc e,())}
abbrev Kxe (n:Int) (k:ByteArray) (ns:List ByteArray) (vs:List Int) (t:ByteArray):Nat→Option Ann:=fun id=>if id=0 then some {X:=Nat,σ:=fun i=>⟨4,[(1, .one (.ptr 2 0)),(3, .one (.ptr 3 0)),(4, .one (.int .i64 i))],[(2, .box 67 [.int .i64 n, .str k, .sl 0, .sl 1, .str t]),(3, .box 208 [.str (Km k).1, .int .i64 (Km k).2.1, .bool (Km k).2.2]),(0, .imm 9 .str ns),(1, .imm 3 sI vs)]⟩,inv:=fun i=>i≤ns.length∧ckN (ns.drop i)=ckN ns,mu:=fun i=>ns.length-i}
 else if id=2 then some {X:=Nat,σ:=fun i=>⟨4,[(1, .one (.ptr 2 0)),(3, .one (.ptr 3 0)),(5, .one (.int .i64 i))],[(2, .box 67 [.int .i64 n, .str k, .sl 0, .sl 1, .str t]),(3, .box 208 [.str (Km k).1, .int .i64 (Km k).2.1, .bool (Km k).2.2]),(0, .imm 9 .str ns),(1, .imm 3 sI vs)]⟩,inv:=fun i=>i≤vs.length∧ckV (vs.drop i)=ckV vs,mu:=fun i=>vs.length-i}
 else none
def Z8 (a:Bt):=Nc (ByteArray.size (Km a).1)
def Kqz (a:Nat) (b:Li):=a≤List.length b∧ckV (List.drop a b)=ckV b
def Kqp (a:Nat) (b:Ls):=a≤List.length b∧ckN (List.drop a b)=ckN b
def K1g (a:Int) (b c:Bt) (d:Ls) (e:Li):=Si a (Sf b (Sf c (Sf (Km b).1 (Si (Km b).2.1 (Sf (Km b).2.2 (Sf d (e=e)))))))
def K0o (a:Nat) (b:Int) (c d:Bt) (e:Ls) (f:Li):=0=Nc a∧K1g b c d e f
def Kz7 (a b:Nat) (c:Int) (d e:Bt) (f:Ls) (g:Li):=V4 a b∧K1g c d e f g
theorem Uag:Ok Tryz.prog 36 Kh7:=okW K7c Tryz.f36 (fun xx=>Kxe xx.1.1 xx.1.2.1 xx.1.2.2.1 xx.1.2.2.2.1 xx.1.2.2.2.2) fun xx=>by
 obtain⟨⟨(n:Int),(k:ByteArray),(ns:List ByteArray),(vs:List Int),(t:ByteArray)⟩,_⟩:=xx
 refine(by kernel_rfl:(Fu ns→Z57 vs→Jgk ns→Br (X6 n 1 1000) (3=Z66 n k ns vs t) (Br (!(Km k).2.2) (13=Z66 n k ns vs t) (Br (bif Ln ns !=Z8 k then true else Ln vs !=(Km k).2.1) (2=Z66 n k ns vs t) (∃(x:Nat),K0o x n k t ns vs∧Kqp x ns∧∀(x:Nat),Kqp x ns→Br (decide (Nc x<Z8 k)) (T2 (Z92 x ns) (ByteArray.size (Z19 ns x)≤1000000)∧Br (!Y1 (Z19 ns x)) (8=Z66 n k ns vs t) (Z21 x∧∃(y:Nat),Kz7 x y n k t ns vs∧Kqp y ns∧Ke3 ns y x)) (∃(x:Nat),K0o x n k t ns vs∧Kqz x vs∧∀(x:Nat),Kqz x vs→Br (decide (Nc x<(Km k).2.1)) (Z89 x vs∧Br (X6 (Z16 vs x) 0 999999999) (3=Z66 n k ns vs t) (Z21 x∧∃(y:Nat),Kz7 x y n k t ns vs∧Kqz y vs∧J01 vs y x)) (Br (!Lb t B0) (1=Z66 n k ns vs t) (0=Z66 n k ns vs t)))))))=_).mp ?_
 delta Z8 Z16 Z19 Z21 Z57 Z66 Z89 Z92 V4 Fu J01 Ke3 Kqz Jgl Kqp Jgk K1g K0o Kz7 Br Iw Bd T2 Tw Sf Si Ln Nc B0 Lb
 intro h1 h2 h3
 have hE1:Kt n 1 1000=bif X6 n 1 1000 then 3 else 0:=rfl
 have hQ:Km k=Hj k:=rfl
 refine⟨fun h=> ?_,fun h=>⟨fun h4=> ?_,fun h4=> ?_⟩⟩
 ·have e:Kt n 1 1000=3:=by rw[hE1,h];rfl
  unfold Jc
  rw[if_pos (by dsimp only;rw[e];decide),e]
 ·have e:Kt n 1 1000=0:=by rw[hE1,h];rfl
  have hk:Y2 k=false:=by
   cases hk:Y2 k with
   |false=>rfl
   |true=>
    have:=(Joq hk).1
    have h4:(!(Hj k).2.2)=true:=h4
    rw[this] at h4;cases h4
  unfold Jc
  rw[if_neg (by dsimp only;rw[e];decide)]
  dsimp only
  rw[hk];rfl
 have e:Kt n 1 1000=0:=by rw[hE1,h];rfl
 have hk:Y2 k=true:=by
  cases hk:Y2 k with
  |true=>rfl
  |false=>
   have:=J2r hk
   have h4:(!(Hj k).2.2)=false:=h4
   rw[this] at h4;cases h4
 obtain⟨f1,f2,f3⟩:=Joq hk
 rw[←hQ] at f1 f2 f3
 have hc:Jc (n,k,ns,vs,t)=if ns.length=(Jk k).1.length∧(vs.length:Int)=(Jk k).2.1 then Jf [ckN ns,ckV vs,bif decide (0<t.size) then 1 else 0] else 2:=by
  unfold Jc
  rw[if_neg (by dsimp only;rw[e];decide)]
  dsimp only
  rw[hk,cond_true];rfl
 refine⟨fun h5=> ?_,fun h5=> ?_⟩
 ·rw[hc,if_neg fun q=> ?_]
  have a1:((ns.length:Int) !=((Km k).1.size:Int))=false:=bne_eq_false_iff_eq.2 (by rw[f2];exact congrArg _ q.1)
  have a2:((vs.length:Int) !=(Km k).2.1)=false:=bne_eq_false_iff_eq.2 (by rw[f3];exact q.2)
  have h5:(bif (ns.length:Int) !=((Km k).1.size:Int) then true else(vs.length:Int) !=(Km k).2.1)=true:=h5
  rw[a1,a2] at h5;cases h5
 have h5:(bif (ns.length:Int) !=((Km k).1.size:Int) then true else(vs.length:Int) !=(Km k).2.1)=false:=h5
 have a:=bn1 h5
 have a1:(ns.length:Int)=((Km k).1.size:Int):=bne_eq_false_iff_eq.1 a.1
 have a2:(vs.length:Int)=(Km k).2.1:=bne_eq_false_iff_eq.1 a.2
 rw[if_pos ⟨by rw[f2] at a1;omega,by rw[a2,f3]⟩] at hc
 refine⟨(0:Nat),by simp,⟨Nat.zero_le _,rfl⟩,fun(i:Nat) hi=>⟨fun h6=> ?_,fun h6=> ?_⟩⟩
 ·have h6:(i:Int)<((Km k).1.size:Int):=of_decide_eq_true h6
  have hlt:i<ns.length:=by omega
  have hN:ckN (ns.drop i)=if(bif Y1 (ns.getD i Jb) then(0:Int) else 8)=0 then ckN (ns.drop (i+1)) else bif Y1 (ns.getD i Jb) then 0 else 8:=by
   rw[Jn (d:=Jb) hlt]
   exact Y4 _ _
  refine⟨⟨by omega,by omega,h3 _ (Je hlt)⟩,fun h7=> ?_,fun h7=>⟨by omega,(i+1:Nat),by simp,⟨by omega, ?_⟩,by omega⟩⟩
  ·have h7:(!Y1 (ns.getD i Jb))=true:=h7
   have h7:Y1 (ns.getD i Jb)=false:=by simpa using h7
   rw[h7] at hN
   have:ckN ns=8:=by rw[←hi.2,hN];rfl
   rw[hc,Y4,this];rfl
  ·have h7:(!Y1 (ns.getD i Jb))=false:=h7
   have h7:Y1 (ns.getD i Jb)=true:=by simpa using h7
   rw[h7] at hN
   rw[←hi.2,hN];rfl
 ·have h6:¬(i:Int)<((Km k).1.size:Int):=of_decide_eq_false h6
  have hN:ckN ns=0:=by rw[←hi.2,List.drop_eq_nil_of_le (by omega)];rfl
  refine⟨(0:Nat),by simp,⟨Nat.zero_le _,rfl⟩,fun(j:Nat) hj=>⟨fun h8=> ?_,fun h8=> ?_⟩⟩
  ·have h8:(j:Int)<(Km k).2.1:=of_decide_eq_true h8
   have hlt:j<vs.length:=by omega
   have hV:ckV (vs.drop j)=if Kt (vs.getD j 0) 0 999999999=0 then ckV (vs.drop (j+1)) else Kt (vs.getD j 0) 0 999999999:=by
    rw[Jn (d:=(0:Int)) hlt]
    exact Y4 _ _
   have hW:Kt (vs.getD j 0) 0 999999999=bif X6 (vs.getD j 0) 0 999999999 then 3 else 0:=rfl
   refine⟨by omega,fun h7=> ?_,fun h7=>⟨by omega,(j+1:Nat),by simp,⟨by omega, ?_⟩,by omega⟩⟩
   ·rw[hW,h7] at hV
    have:ckV vs=3:=by rw[←hj.2,hV];rfl
    rw[hc,Y4,hN,if_pos rfl,Y4,this];rfl
   ·rw[hW,h7] at hV
    rw[←hj.2,hV];rfl
  ·have h8:¬(j:Int)<(Km k).2.1:=of_decide_eq_false h8
   have hV:ckV vs=0:=by rw[←hj.2,List.drop_eq_nil_of_le (by omega)];rfl
   have hz:(t.toList==({data:={toList:=[]}}:ByteArray).toList)= !decide (0<t.size):=J2z t
   rw[hz,hc,Y4,hN,if_pos rfl,Y4,hV,if_pos rfl]
   cases decide (0<t.size)
   ·exact⟨fun h=>(nomatch h),fun _=>rfl⟩
   ·exact⟨fun _=>rfl,fun h=>(nomatch h)⟩
abbrev Ub2:=K7c.add Uag
abbrev Ub1:=Ub2
abbrev Ub0:=Ub1
abbrev Ubz:=Ub0
abbrev Uby:=Ubz
abbrev Ubx:=Uby
abbrev K7b:=Ubx
def Ji8 (c:Int):Int:=bif c==115 then 0 else bif c==111 then 1 else bif c==120 then 2 else 3
def Jlq (b:UInt8):Int×Bool:=bif decide ((97:Int)≤(b.toNat:Int)) then(Ji8 b.toNat,true) else(Ji8 (b.toNat+97-65),false)
theorem J5w (r:Reg) (c:Int) (s:ByteArray):Vt r (Ji8 c) s=decide (0≤atS r c s):=by
 unfold atS Ji8
 cases h1:c==115 with
 |true=>rfl
 | false =>
  cases h2:c==111 with
  |true=>rfl
  |false=>
   cases h3:c==120 with
   |true=>rfl
   |false=>rfl
theorem Jtj {k:ByteArray} (h:Y2 k=true):(Jk k).1=(Km k).1.data.toList.map Jlq∧((Jk k).1.drop 1).all (fun x=>x.2)=true:=by
 rcases Uo h with h|h|h|h|h|h|h|h|h|h|h<;>subst h
 all_goals exact⟨by kernel_rfl,by kernel_rfl⟩
theorem Jep {r:Reg} {ns:List ByteArray}:∀{l:List (Int×Bool)} {i:Nat},l.all (fun x=>x.2)=true→Kl r ns l i=false
 |[],_,_=>rfl
 |(w,b)::l,i,h=>by
  rw[List.all_cons,Bool.and_eq_true] at h
  have hb:b=true:=h.1
  subst hb
  unfold Kl
  exact Jep h.2
def Ju (r:Reg) (k:ByteArray) (ns:List ByteArray):Int:=bif J6 r ns (Jk k).1 0 then 10 else bif Kl r ns (Jk k).1 0 then 9 else 0
def Khc:Con:={args:=[Zc,aEv],ress:=[I],owns:=[],pre:=fun(r,e,_)=>[Jo r,Y2 e.2.1=true,e.2.2.1.length=(Jk e.2.1).1.length],spec:=fun(r,e,_)=>(Ju r e.2.1 e.2.2.1,())}
abbrev Kiq (tk st:Int) (S:List Sta) (O:List Ord) (M:List Met) (X:List Out) (Q:List Per) (n:Int) (k:ByteArray) (ns:List ByteArray) (vs:List Int) (tx:ByteArray):Ann:={X:=Nat,σ:=fun i=>⟨9,[(2, .one (.ptr 7 0)),(3, .one (.ptr 8 0)),(5, .one (.str (Km k).1)),(6, .one (.int .i64 i))],[(0, .imm 114 X5 S),(1, .imm 119 Ym O),(2, .imm 121 X9 M),(3, .imm 123 Yh X),(4, .imm 125 Y8 Q),(5, .imm 9 .str ns),(6, .imm 3 sI vs),(7, .box 37 [.int .i64 tk, .int .i64 st, .sl 0, .sl 1, .sl 2, .sl 3, .sl 4]),(8, .box 67 [.int .i64 n, .str k, .sl 5, .sl 6, .str tx])]⟩,inv:=fun i=>i≤(Km k).1.size∧J6 (tk,st,S,O,M,X,Q) ns ((Jk k).1.drop i) i=J6 (tk,st,S,O,M,X,Q) ns (Jk k).1 0,mu:=fun i=>(Km k).1.size-i}
def K5y (a:Bt):=Nc (UInt8.toNat (List.getD (Km a).1.data.toList 0 0))
def K48 (a:Bt) (b:Nat):=decide (97≤Nc (UInt8.toNat (List.getD (Km a).1.data.toList b 0)))
def Kpc (a:Bt) (b:Nat):=K48 a b=true
def K06 (a:Bt):=bif decide (0<Z8 a) then decide (K5y a<97) else false
def Km7 (a:Bt):=K06 a=true
def Km5 (a:Nat) (b:Bt) (c d:Int) (e:List Sta) (f:List Ord) (g:List Met) (h:List Out) (i:List Per) (j:Ls):=a≤ByteArray.size (Km b).1∧J6 (Z67 c d e f g h i) j (List.drop a (Jk b).1) a=J6 (Z67 c d e f g h i) j (Jk b).1 0
theorem Ks5:Ok Tryz.prog 224 Khc:=okW K7b Tryz.f224 (fun xx=>Zg (Kiq xx.1.1 xx.1.2.1 xx.1.2.2.1 xx.1.2.2.2.1 xx.1.2.2.2.2.1 xx.1.2.2.2.2.2.1 xx.1.2.2.2.2.2.2 xx.2.1.1 xx.2.1.2.1 xx.2.1.2.2.1 xx.2.1.2.2.2.1 xx.2.1.2.2.2.2)) fun xx=>by
 obtain⟨⟨(tk:Int),(st:Int),(S:List Sta),(O:List Ord),(M:List Met),(X:List Out),(Q:List Per)⟩,⟨(n:Int),(k:ByteArray),(ns:List ByteArray),(vs:List Int),(tx:ByteArray)⟩,_⟩:=xx
 refine(by kernel_rfl:(J0 tk st S O M X Q→Y2 k=true→List.length ns=List.length (Jk k).1→∃(x:Nat),Sf (Km k).1 (0=Nc x∧Sf S (Sf O (Sf M (Sf X (Sf Q (Sf ns (Sf vs (Si tk (Si st (Si n (Sf k (tx=tx))))))))))))∧Km5 x k tk st S O M X Q ns∧∀(x:Nat),Km5 x k tk st S O M X Q ns→Br (decide (Nc x<Z8 k)) ((Bd (Nc x) (Z8 k)∧(Kpc k x→Bd (Nc x) (Z8 k))∧T2 (Kpc k x→Z92 x ns) (Kpc k x→J0 tk st S O M X Q))∧Br (bif K48 k x then decide (atS (Z67 tk st S O M X Q) (Nc (UInt8.toNat (List.getD (Km k).1.data.toList x 0))) (Z19 ns x)<0) else false) (10=Ju (Z67 tk st S O M X Q) k ns) (Z21 x∧∃(y:Nat),Sf (Km k).1 (V4 x y∧Sf S (Sf O (Sf M (Sf X (Sf Q (Sf ns (Sf vs (Si tk (Si st (Si n (Sf k (tx=tx))))))))))))∧Km5 y k tk st S O M X Q ns∧ByteArray.size (Km k).1-y<ByteArray.size (Km k).1-x)) (((decide (0<Z8 k)=true→Bd 0 (Z8 k))∧(Km7 k→Bd 0 (Z8 k))∧T2 (Km7 k→Yj ns) (Km7 k→J0 tk st S O M X Q))∧Br (bif K06 k then decide (0≤atS (Z67 tk st S O M X Q) (IntKind.wrap IntKind.u8 (IntKind.wrap IntKind.u8 (K5y k+97)-65)) (U8 ns)) else false) (9=Ju (Z67 tk st S O M X Q) k ns) (0=Ju (Z67 tk st S O M X Q) k ns)))=_).mp ?_
 delta Z8 Z19 Z21 Z67 Z92 V4 U8 Yj J0 K5y K48 Kpc K06 Km7 Km5 Br Iw Bd T2 Sf Si Ln Nc B0
 intro hr hk hn
 obtain⟨f1,f2,f3⟩:=Joq hk
 have f2:(Km k).1.size=(Jk k).1.length:=f2
 obtain⟨fr,fk⟩:=Jtj hk
 have hB:=Jfk k
 have hfl:(Km k).1.data.toList.length=(Km k).1.size:=rfl
 have hb0:∀i,i<(Km k).1.size→(Jk k).1.getD i (0,false)=Jlq ((Km k).1.data.toList.getD i 0):=fun i hi=>by
  rw[fr,List.getD_eq_getElem?_getD,List.getElem?_map,List.getD_eq_getElem?_getD]
  rw[List.getElem?_eq_getElem (by omega)];rfl
 refine⟨(0:Nat),by simp,⟨Nat.zero_le _,rfl⟩,fun(i:Nat) hi=>⟨fun h1=> ?_,fun h1=> ?_⟩⟩
 ·have hlt:i<(Km k).1.size:=by simpa using h1
  have h0:=hi.2
  rw[Jn (d:=((0:Int),false)) (by omega),hb0 i hlt] at h0
  have hu:J6 (tk,st,S,O,M,X,Q) ns (Jlq ((Km k).1.data.toList.getD i 0)::(Jk k).1.drop (i+1)) i=bif (bif decide (97≤(((Km k).1.data.toList.getD i 0).toNat:Int)) then decide (atS (tk,st,S,O,M,X,Q) (((Km k).1.data.toList.getD i 0).toNat:Int) (ns.getD i Jb)<0) else false) then true else J6 (tk,st,S,O,M,X,Q) ns ((Jk k).1.drop (i+1)) (i+1):=by
   unfold Jlq
   cases hc:decide ((97:Int)≤(((Km k).1.data.toList.getD i 0).toNat:Int)) with
   |false=>rfl
   | true =>
    rw[cond_true,J6,J5w,cond_true]
    have:(!decide (0≤atS (tk,st,S,O,M,X,Q) (((Km k).1.data.toList.getD i 0).toNat:Int) (ns.getD i Jb)))=decide (atS (tk,st,S,O,M,X,Q) (((Km k).1.data.toList.getD i 0).toNat:Int) (ns.getD i Jb)<0):=by
     rw[Bool.eq_iff_iff];simp
    rw[this];rfl
  rw[hu] at h0
  refine⟨⟨by omega,fun _=>by omega,fun _=>by omega,fun _=>by omega,fun _=>hr⟩,fun h2=> ?_,fun h2=>⟨by omega,(i+1:Nat),by simp,⟨by omega, ?_⟩,by omega⟩⟩
  ·rw[show(bif decide (97≤(((Km k).1.data.toList.getD i 0).toNat:Int)) then decide (atS (tk,st,S,O,M,X,Q) (((Km k).1.data.toList.getD i 0).toNat:Int) (ns.getD i Jb)<0) else false)=true from h2,cond_true] at h0
   unfold Ju;rw[←h0];rfl
  ·rw[show(bif decide (97≤(((Km k).1.data.toList.getD i 0).toNat:Int)) then decide (atS (tk,st,S,O,M,X,Q) (((Km k).1.data.toList.getD i 0).toNat:Int) (ns.getD i Jb)<0) else false)=false from h2,cond_false] at h0
   exact h0
 ·have hlt:¬i<(Km k).1.size:=by simpa using h1
  have h0:=hi.2
  rw[List.drop_eq_nil_of_le (by omega)] at h0
  have hu0:J6 (tk,st,S,O,M,X,Q) ns (Jk k).1 0=false:=h0.symm
  have hN:Ju (tk,st,S,O,M,X,Q) k ns=bif Kl (tk,st,S,O,M,X,Q) ns (Jk k).1 0 then 9 else 0:=by unfold Ju;rw[hu0];rfl
  have g0:∀{p:Prop},(bif decide ((0:Int)<((Km k).1.size:Int)) then decide ((((Km k).1.data.toList.getD 0 0).toNat:Int)<97) else false)=true→(Km k).1.size≠0:=fun{p} h=>by
   intro q
   rw[q] at h
   cases h
  have hz:∀{b:Bool},(bif decide ((0:Int)<((Km k).1.size:Int)) then b else false)=true→0<(Km k).1.size:=fun{b} h=>by
   by_cases q:0<(Km k).1.size
   ·exact q
   ·rw[decide_eq_false (show ¬(0:Int)<((Km k).1.size:Int) by omega)] at h;cases h
  have key:(bif bif decide ((0:Int)<((Km k).1.size:Int)) then decide ((((Km k).1.data.toList.getD 0 0).toNat:Int)<97) else false then decide (0≤atS (tk,st,S,O,M,X,Q) (IntKind.u8.wrap (IntKind.u8.wrap ((((Km k).1.data.toList.getD 0 0).toNat:Int)+97)-65)) (ns.getD 0 Jb)) else false)=Kl (tk,st,S,O,M,X,Q) ns (Jk k).1 0:=by
   by_cases q:0<(Km k).1.size
   ·rw[decide_eq_true (show(0:Int)<((Km k).1.size:Int) by omega),cond_true]
    have hc:=Jn (l:=(Jk k).1) (k:=0) (d:=((0:Int),false)) (by omega)
    rw[List.drop_zero,hb0 0 q] at hc
    rw[hc]
    unfold Jlq
    by_cases q1:(97:Int)≤(((Km k).1.data.toList.getD 0 0).toNat:Int)
    ·rw[decide_eq_true q1,decide_eq_false (show ¬(((Km k).1.data.toList.getD 0 0).toNat:Int)<97 by omega)]
     exact(Jep fk).symm
    ·rw[decide_eq_false q1,decide_eq_true (show(((Km k).1.data.toList.getD 0 0).toNat:Int)<97 by omega)]
     rw[cond_true,cond_false,Kl,J5w,Jep fk,J61 (n:=(((Km k).1.data.toList.getD 0 0).toNat:Int)+97) (by omega) (by omega),J61 (n:=(((Km k).1.data.toList.getD 0 0).toNat:Int)+97-65) (by omega) (by omega)]
     show _=bif _ then true else false
     cases decide (0≤atS (tk,st,S,O,M,X,Q) ((((Km k).1.data.toList.getD 0 0).toNat:Int)+97-65) (ns.getD 0 Jb))<;>rfl
   ·rw[decide_eq_false (show ¬(0:Int)<((Km k).1.size:Int) by omega)]
    have:(Jk k).1=[]:=List.eq_nil_of_length_eq_zero (by omega)
    rw[this];rfl
  refine⟨⟨fun h=>⟨by decide,of_decide_eq_true h⟩,fun h=>⟨by decide,by have:=hz h;omega⟩,fun h=>⟨by decide,by have:=hz h;omega⟩,fun h=>⟨by decide,by have:=hz h;omega⟩,fun _=>hr⟩,fun h2=> ?_,fun h2=> ?_⟩
  ·rw[hN,show Kl (tk,st,S,O,M,X,Q) ns (Jk k).1 0=true from key.symm.trans h2];rfl
  ·rw[hN,show Kl (tk,st,S,O,M,X,Q) ns (Jk k).1 0=false from key.symm.trans h2];rfl
abbrev K7a:=K7b.add Ks5
def Yp (Q:List Per) (s:ByteArray):Bool:=decide ((0:Int)<((Zo Q).filter fun p=>p.2.1.toList==s.toList).length)
theorem Joo (x:Per) (Q:List Per) (s:ByteArray):Yp (x::Q) s=bif (bif x.2.1.toList==s.toList then x.2.2 else false) then true else Yp Q s:=by
 unfold Yp Zo
 rw[List.filter_cons]
 cases h1:x.2.2 with
 |false=>
  rw[if_neg (by simp)]
  cases(x.2.1.toList==s.toList)<;>rfl
 | true =>
  rw[if_pos rfl,List.filter_cons]
  cases h2:(x.2.1.toList==s.toList) with
  |false=>rfl
  |true=>
   rw[if_pos rfl]
   exact decide_eq_true (by simp only[List.length_cons];omega)
def Khq:Con:={args:=[Zc,aS],ress:=[Bo],owns:=[],pre:=fun((_,_,_,_,_,_,Q),_)=>[Q.length≤1000000],spec:=fun((_,_,_,_,_,_,Q),s,_)=>(Yp Q s,())}
abbrev Kip (tk st:Int) (S:List Sta) (O:List Ord) (M:List Met) (X:List Out) (Q:List Per) (s:ByteArray):Ann:={X:=Nat,σ:=fun k=>⟨6,[(1, .one (.str s)),(2, .one (.ptr 5 0)),(5, .one (.int .i64 k))],[(0, .imm 114 X5 S),(1, .imm 119 Ym O),(2, .imm 121 X9 M),(3, .imm 123 Yh X),(4, .imm 125 Y8 Q),(5, .box 37 [.int .i64 tk, .int .i64 st, .sl 0, .sl 1, .sl 2, .sl 3, .sl 4])]⟩,inv:=fun k=>k≤Q.length∧Yp Q s=Yp (Q.drop k) s,mu:=fun k=>Q.length-k}
def Kfn (a:List Per) (b:Nat):=(Jzi a b).1
def Kqo (a:Nat) (b:List Per) (c:Bt):=a≤List.length b∧Yp b c=Yp (List.drop a b) c
theorem Ksh:Ok Tryz.prog 269 Khq:=okW K7a Tryz.f269 (fun xx=>Zg (Kip xx.1.1 xx.1.2.1 xx.1.2.2.1 xx.1.2.2.2.1 xx.1.2.2.2.2.1 xx.1.2.2.2.2.2.1 xx.1.2.2.2.2.2.2 xx.2.1)) fun xx=>by
 obtain⟨⟨(tk:Int),(st:Int),(S:List Sta),(O:List Ord),(M:List Met),(X:List Out),(Q:List Per)⟩,(s:ByteArray),_⟩:=xx
 refine(by kernel_rfl:(Z47 Q→∃(x:Nat),J0t s x S O M X Q tk st∧Kqo x Q s∧∀(x:Nat),Kqo x Q s→Br (Z99 x Q) (T2 (Bd (Nc x) (Ln Q)) (Tw (Lb (Kfn Q x) s=true→Bd (Nc x) (Ln Q)))∧Br (bif Lb (Kfn Q x) s then(Jzi Q x).2 else false) (true=Yp Q s) (Z21 x∧∃(y:Nat),J0s s x y S O M X Q tk st∧Kqo y Q s∧Jzh Q y x)) (false=Yp Q s))=_).mp ?_
 delta Z21 Z47 Z99 V4 Jzi Kfn Jzh Kqo Jrp J0t J0s Br Iw Bd T2 Tw Sf Si Ln Nc B0 Lb
 intro hb
 refine⟨(0:Nat),by simp,⟨Nat.zero_le _,rfl⟩,fun(k:Nat) hk=>⟨fun h=> ?_,fun h=> ?_⟩⟩
 ·have hlt:k<Q.length:=by simpa using h
  have hd:=Jn (d:=Fi) hlt
  have h0:=hk.2
  rw[hd,Joo] at h0
  refine⟨⟨by omega,by omega,fun _=>by omega,fun _=>by omega⟩,fun h1=> ?_,fun h1=>⟨by omega,(k+1:Nat),by simp,⟨by omega, ?_⟩,by omega⟩⟩
  ·rw[h0,show(bif (Q.getD k Fi).snd.fst.toList==s.toList then(Q.getD k Fi).snd.snd else false)=true from h1];rfl
  ·rw[h0,show(bif (Q.getD k Fi).snd.fst.toList==s.toList then(Q.getD k Fi).snd.snd else false)=false from h1];rfl
 ·have hlt:¬k<Q.length:=by simpa using h
  have:k=Q.length:=by omega
  rw[hk.2,this,List.drop_length];rfl
abbrev K69:=K7a.add Ksh
def Kid (t a b:Int):Bool:=bif (bif decide (a<t) then true else decide (b≤a)) then true else decide (48<b-a)
def J3a:Con:={args:=[aI, .val true Ld],ress:=[Bo],owns:=[],pre:=fun(_,s,_)=>[0≤s.1∧s.1≤999999999,0≤s.2∧s.2≤999999999],spec:=fun(t,s,_)=>(Kid t s.1 s.2,())}
theorem Ksi:Ok Tryz.prog 268 J3a:=okW K69 Tryz.f268 na fun xx=>by
 obtain⟨(t:Int),⟨(a:Int),(b:Int)⟩,_⟩:=xx
 refine(by kernel_rfl:(Kfo a→Kfo b→((bif decide (a<t) then true else decide (b≤a))=false→Iw (b-a))∧(bif bif decide (a<t) then true else decide (b≤a) then true else decide (48<b-a))=Kid t a b)=_).mp ?_
 delta Kfo Iw
 intro h1 h2
 exact⟨fun _=>by omega,rfl⟩
abbrev Jub:=K69.add Ksi
def Jb9 (X:List Out):Prop:=(X.map fun x=>x.1).Nodup
theorem Jxa:∀{l:List Out} {k:Nat} {x:Out},(l.map fun x=>x.1).Nodup→x∈l→∃i,K0 (fun y:Out=>y.1.toList==x.1.toList) l k=((k+i:Nat):Int)∧i<l.length∧l.getD i Hp=x
 |[],_,_,_,h=>by cases h
 | y :: l, k, x, hn, h => by
  rw[List.map_cons,List.nodup_cons] at hn
  unfold K0
  by_cases q:(y.1.toList==x.1.toList)=true
  ·have q1:=Ye q
   rw[if_pos q]
   rcases List.mem_cons.1 h with h|h
   ·exact⟨0,rfl,by simp,h.symm⟩
   ·exact absurd (q1▸List.mem_map_of_mem (f:=fun z:Out=>z.1) h) hn.1
  ·rw[if_neg q]
   rcases List.mem_cons.1 h with h|h
   ·subst h;exact absurd (beq_self_eq_true _) q
   ·obtain⟨i,h1,h2,h3⟩:=Jxa (k:=k+1) hn.2 h
    exact⟨i+1,by rw[h1];congr 1;omega,by simp;omega,h3⟩
theorem J65 {X:List Out} (h:Jb9 X) {x:Out} (hx:x∈X):Y0 X x.1=x:=by
 obtain⟨i,h1,_,h3⟩:=Jxa (k:=0) h hx
 unfold Y0 Jw
 rw[h1,Nat.zero_add,Int.toNat_natCast]
 exact h3
theorem Jqo {α:Type} {p:α→Bool}:∀{l:List α} {k:Nat},K0 p l k<0→∀x∈l,p x=false
 |[],_,_,x,hx=>by cases hx
 | y :: l, k, h, x, hx => by
  unfold K0 at h
  by_cases q:p y=true
  ·rw[if_pos q] at h;omega
  ·rw[if_neg q] at h
   rcases List.mem_cons.1 hx with hx|hx
   ·subst hx;simpa using q
   ·exact Jqo h x hx
theorem Jsj {X:List Out} {x:Out} (h:Jb9 X) (hn:Jw X x.1<0):Jb9 (X++[x]):=by
 unfold Jb9 at h⊢
 rw[List.map_append,List.nodup_append]
 refine⟨h,by simp,fun a ha b hb=> ?_⟩
 obtain⟨y,hy,rfl⟩:=List.mem_map.1 ha
 have hb:b=x.1:=by simpa using hb
 subst hb
 intro e
 have:=Jqo hn y hy
 rw[e,beq_self_eq_true] at this
 cases this
theorem J64 {X:List Out} {s:ByteArray} {v:Int} (h:Jb9 X) (hf:0≤Jw X s):Jb9 (Lc X s v):=by
 unfold Jb9 Lc at*
 have hl:=Up (l:=X) (s:=s)
 rw[List.map_set]
 have:(X.map fun x=>x.1).set (Jw X s).toNat (Y0 X s).1=X.map fun x=>x.1:=by
  apply List.ext_getElem?
  intro i
  rw[List.getElem?_set]
  by_cases q:(Jw X s).toNat=i
  ·rw[if_pos q]
   subst q
   rw[if_pos (by rw[List.length_map];omega),List.getElem?_map]
   unfold Y0
   rw[List.getD_eq_getElem?_getD,List.getElem?_eq_getElem (by omega)]
   rfl
  ·rw[if_neg q]
 rw[this]
 exact h
def Uq (r:Reg) (e:Ev):Int:=if decide (e.2.2.2.1.getD 0 0<r.1)=true then 22 else if Ju r e.2.1 e.2.2.1≠0 then Ju r e.2.1 e.2.2.1 else ckS r e
def Xa (r:Reg) (e:Ev):Reg:=if decide (e.2.2.2.1.getD 0 0<r.1)=true then r else if Ju r e.2.1 e.2.2.1≠0 then r else if ckS r e≠0 then(e.2.2.2.1.getD 0 0,r.2) else Jd r e
def Df:Con:={args:=[Zc,aEv],ress:=[(true,Jhq),I],owns:=[],pre:=fun(r,e,_)=>[Jo r,Jb9 r.2.2.2.2.2.1,r.2.2.2.2.1.length<10000,Jc e=0,(e.2.1.toList==Jl.toList)=false],spec:=fun(r,e,_)=>(Xa r e,Uq r e,())}
abbrev Kgt:Ann:={X:=Unit,σ:=fun _=>⟨0,[],[]⟩,inv:=fun _=>True,mu:=fun _=>0,un:=7777}
abbrev Dg:Nat→Option Ann:=fun id=>if id=1000034 then some Kgt else none
abbrev Zf (o:Option Ann):FuncId→Nat→Option Ann:=fun f id=>if f=226∨f=227 then(if id=1000073∨id=1000147∨id=1000195∨id=1000233∨id=1000052∨id=1000077∨id=1000097∨id=1000198 then some Kgt else if id=1∨id=3 then o else none) else none
theorem Js7 {r:Reg} {k:ByteArray} {ns:List ByteArray} (h:Ju r k ns=0):J6 r ns (Jk k).1 0=false∧Kl r ns (Jk k).1 0=false:=by
 unfold Ju at h
 cases h1:J6 r ns (Jk k).1 0 with
 |true=>rw[h1] at h;cases h
 |false=>
  rw[h1,cond_false] at h
  cases h2:Kl r ns (Jk k).1 0 with
  |true=>rw[h2] at h;cases h
  |false=>exact⟨rfl,rfl⟩
theorem Jrl {r:Reg} {e:Ev} (h:decide (e.2.2.2.1.getD 0 0<r.1)=true):Xa r e=r∧Uq r e=22:=by unfold Xa Uq;rw[if_pos h,if_pos h];exact⟨rfl,rfl⟩
theorem Jm2 {r:Reg} {e:Ev} (h:decide (e.2.2.2.1.getD 0 0<r.1)=false) (h2:Ju r e.2.1 e.2.2.1≠0):Xa r e=r∧Uq r e=Ju r e.2.1 e.2.2.1:=by
 have a:¬decide (e.2.2.2.1.getD 0 0<r.1)=true:=by rw[h];simp
 unfold Xa Uq
 constructor
 ·rw[if_neg a,if_pos h2]
 ·rw[if_neg a,if_pos h2]
theorem Kit {r:Reg} {e:Ev} {c:Int} (h:decide (e.2.2.2.1.getD 0 0<r.1)=false) (h2:Ju r e.2.1 e.2.2.1=0) (h3:ckS r e=c) (h4:c≠0):Xa r e=(e.2.2.2.1.getD 0 0,r.2)∧Uq r e=c:=by
 have a:¬decide (e.2.2.2.1.getD 0 0<r.1)=true:=by rw[h];simp
 have b:¬Ju r e.2.1 e.2.2.1≠0:=by rw[h2];simp
 have d:ckS r e≠0:=by rw[h3];exact h4
 unfold Xa Uq
 rw[if_neg a,if_neg a,if_neg b,if_neg b,if_pos d]
 exact⟨rfl,h3⟩
theorem Kir {r:Reg} {e:Ev} (h:decide (e.2.2.2.1.getD 0 0<r.1)=false) (h2:Ju r e.2.1 e.2.2.1=0) (h3:ckS r e=0):Xa r e=Jd r e∧Uq r e=0:=by
 have a:¬decide (e.2.2.2.1.getD 0 0<r.1)=true:=by rw[h];simp
 have b:¬Ju r e.2.1 e.2.2.1≠0:=by rw[h2];simp
 have d:¬ckS r e≠0:=by rw[h3];simp
 unfold Xa Uq
 rw[if_neg a,if_neg a,if_neg b,if_neg b,if_neg d]
 exact⟨rfl,h3⟩
theorem H1 (n lo hi:Int):Kt n lo hi=bif X6 n lo hi then 3 else 0:=rfl
theorem Kiu {r:Reg} {e:Ev} (h:decide (e.2.2.2.1.getD 0 0<r.1)=false) (h2:(Ju r e.2.1 e.2.2.1 !=0)=false):Uq r e=ckS r e:=by
 have h2:Ju r e.2.1 e.2.2.1=0:=by simpa using h2
 unfold Uq
 rw[if_neg (by rw[h];simp),if_neg (by rw[h2];simp)]
theorem Kxg {r:Reg} {e:Ev} (h:decide (e.2.2.2.1.getD 0 0<r.1)=false) (h2:(Ju r e.2.1 e.2.2.1 !=0)=false) (h3:ckS r e≠0):Xa r e=(e.2.2.2.1.getD 0 0,r.2):=by
 have h2:Ju r e.2.1 e.2.2.1=0:=by simpa using h2
 exact(Kit h h2 rfl h3).1
theorem Kxh {r:Reg} {e:Ev} (h:decide (e.2.2.2.1.getD 0 0<r.1)=false) (h2:(Ju r e.2.1 e.2.2.1 !=0)=false) (h3:ckS r e=0):Xa r e=Jd r e:=by
 have h2:Ju r e.2.1 e.2.2.1=0:=by simpa using h2
 exact(Kir h h2 h3).1
theorem Jol {α:Type} {p:α→Bool} {d:α}:∀{l:List α} {k:Nat},0≤K0 p l k→∃i,K0 p l k=((k+i:Nat):Int)∧p (l.getD i d)=true
 |[],k,h=>by unfold K0 at h;exact absurd h (by decide)
 | x :: l, k, h => by
  unfold K0 at h⊢
  by_cases q:p x=true
  ·rw[if_pos q];exact⟨0,rfl,q⟩
  ·rw[if_neg q] at h⊢
   obtain⟨i,h1,h2⟩:=Jol (d:=d) h
   exact⟨i+1,by rw[h1];congr 1;omega,h2⟩
theorem Jlz {X:List Out} {s:ByteArray} (h:0≤Jw X s):(Y0 X s).1=s:=by
 unfold Jw at h
 obtain⟨i,h1,h2⟩:=Jol (d:=Hp) h
 have:Y0 X s=X.getD i Hp:=by unfold Y0 Jw;rw[h1,Nat.zero_add];rfl
 rw[this]
 exact Ye h2
theorem Kvp {M:List Met} {s:ByteArray} {h:Int}:decide (0≤K3 M s h)=(Dp M s h).2:=by
 unfold Dp
 by_cases q:0≤K3 M s h
 ·rw[if_pos q,decide_eq_true q]
 ·rw[if_neg q,decide_eq_false q]
theorem Jrh {f:Int→Bool} {a:Int} {k n:Nat} (h:k<n):Jnb f (a+(k:Int)) (n-k)=bif f (a+(k:Int)) then true else Jnb f (a+((k+1:Nat):Int)) (n-(k+1)):=by
 have hj:n-k=(n-(k+1))+1:=by omega
 rw[hj,Jnb]
 have:a+(k:Int)+1=a+((k+1:Nat):Int):=by push_cast;omega
 rw[this]
theorem Jrj {f:Int→Bool} {a:Int} {k n:Nat} (h:n≤k):Jnb f a (n-k)=false:=by
 have hj:n-k=0:=by omega
 rw[hj];rfl
theorem Uaw (a b p:Int):decide (min a b<p)=bif decide (a<p) then true else decide (b<p):=by
 by_cases h:a<p
 ·rw[decide_eq_true h];exact decide_eq_true (by omega)
 ·rw[decide_eq_false h,cond_false]
  by_cases h2:b<p
  ·rw[decide_eq_true h2];exact decide_eq_true (by omega)
  ·rw[decide_eq_false h2];exact decide_eq_false (by omega)
theorem Kvu {α:Type} {l:List α} {p:α→Bool}:decide ((0:Int)<(l.filter p).length)=l.any p:=by
 induction l with
 |nil=>rfl
 |cons x l ih=>
  rw[List.filter_cons,List.any_cons]
  cases h:p x with
  |true=>rw[if_pos rfl,Bool.true_or];exact decide_eq_true (by rw[List.length_cons];omega)
  |false=>rw[if_neg (by simp),Bool.false_or];exact ih
theorem J74 {X:List Out} {Q:List Per} {u:Int} (hu:Jb9 X) (hp:∀p∈Q,0≤Jw X p.2.1):decide ((0:Int)<((Zo Q).filter fun p=>decide ((Y0 X p.2.1).2.2.1.2≤u)).length)=X.any fun x=>decide (x.2.2.1.2≤u)&&Yp Q x.1:=by
 rw[Kvu,Bool.eq_iff_iff,List.any_eq_true,List.any_eq_true]
 constructor
 ·rintro⟨p,h1,h2⟩
  have hq:=Jl0 h1
  have h3:=hp p hq
  refine⟨Y0 X p.2.1,Jjo h3, ?_⟩
  rw[h2,Bool.true_and]
  unfold Yp
  rw[Kvu,List.any_eq_true]
  exact⟨p,h1,by rw[Jlz h3,beq_self_eq_true]⟩
 ·rintro⟨x,h1,h2⟩
  rw[Bool.and_eq_true] at h2
  obtain⟨h2,h3⟩:=h2
  unfold Yp at h3
  rw[Kvu,List.any_eq_true] at h3
  obtain⟨p,h4,h5⟩:=h3
  have h6:p.2.1=x.1:=Ye h5
  exact⟨p,h4,by rw[h6,J65 hu h1];exact h2⟩
theorem Za {X:List Ord} {s:ByteArray} (h:0≤Kg X s):(Vy X s).1=s:=by
 unfold Kg at h
 obtain⟨i,h1,h2⟩:=Jol (d:=Ki) h
 have:Vy X s=X.getD i Ki:=by unfold Vy Kg;rw[h1,Nat.zero_add];rfl
 rw[this]
 exact Ye h2
section
variable {r:Reg} {e:Ev}
theorem lfT (h:decide (e.2.2.2.1.getD 0 0<r.1)=true):True∧r=Xa r e∧22=Uq r e:=⟨trivial,(Jrl h).1.symm,(Jrl h).2.symm⟩
theorem lfN (h:decide (e.2.2.2.1.getD 0 0<r.1)=false) (h2:(Ju r e.2.1 e.2.2.1 !=0)=true):True∧r=Xa r e∧Ju r e.2.1 e.2.2.1=Uq r e:=⟨trivial,(Jm2 h (bne_iff_ne.mp h2)).1.symm,(Jm2 h (bne_iff_ne.mp h2)).2.symm⟩
theorem lfA {c:Int} {R:Reg} (h:decide (e.2.2.2.1.getD 0 0<r.1)=false) (h2:(Ju r e.2.1 e.2.2.1 !=0)=false) (h3:ckS r e=c) (h4:(c≠0∧(e.2.2.2.1.getD 0 0,r.2)=R)∨(c=0∧Jd r e=R)):True∧R=Xa r e∧c=Uq r e:=by
 rcases h4 with⟨h4,rfl⟩|⟨rfl,rfl⟩
 ·exact⟨trivial,(Kxg h h2 (by rw[h3];exact h4)).symm,((Kiu h h2).trans h3).symm⟩
 ·exact⟨trivial,(Kxh h h2 h3).symm,((Kiu h h2).trans h3).symm⟩
theorem J0k (hr:Jo r) (hc:Jc e=0):e.2.2.1.length=(Jk e.2.1).1.length∧(e.2.2.2.1.length:Int)=(Jk e.2.1).2.1∧r.2.2.1.length≤6∧r.2.2.2.1.length≤32∧r.2.2.2.2.2.1.length≤16∧r.2.2.2.2.2.2.length≤16∧∀i,i<e.2.2.2.1.length→(0≤e.2.2.2.1.getD i 0∧e.2.2.2.1.getD i 0≤999999999):=
 have hE:=Ko hc
 ⟨hE.nn,hE.nv,hr.nS,hr.nO,hr.nX,hr.nQ,fun _ hi=>hE.val _ (Je hi)⟩
theorem fcN {k ns} (a:(Ju r k ns !=0)=false):J6 r ns (Jk k).1 0=false:=(Js7 (by simpa using a)).1
end
theorem Ubo (a b:Bool):(a&&b)=bif a then b else false:=by cases a<;>rfl
theorem rcb:({data:={toList:=[]}}:ByteArray)=Jb:=congrArg (fun x=>x) rfl
theorem rcS (S s):List.getD S (J1 S s).toNat (Jb,0,0)=Hu S s:=congrArg (fun x=>x) rfl
theorem rcO (O s):List.getD O (Kg O s).toNat (Jb,Jb,Jb,(0,0),0,0,0)=Vy O s:=congrArg (fun x=>x) rfl
theorem rcX (X s):List.getD X (Jw X s).toNat (Jb,Jb,(0,0),0)=Y0 X s:=congrArg (fun x=>x) rfl
theorem rcQ (Q s):List.getD Q (Uj Q s).toNat (Jb,Jb,false)=Jbd Q s:=congrArg (fun x=>x) rfl
def Z51 (a:List Met):=List.length a<10000
def Jio (a:Li) (b:Int):=decide (Z98 a<b)
def Jin (a:List Met):=(0+List.length a)*40≤140737488355328
def Jim (a:List Sta):=(0+List.length a)*32≤140737488355328
def Jil (a:List Per):=(0+List.length a)*40≤140737488355328
def Jik (a:List Out):=(0+List.length a)*56≤140737488355328
def Jij (a:List Ord):=(0+List.length a)*88≤140737488355328
def Jdw (a:Li) (b:Int) (c:List Sta) (d:List Ord) (e:List Met) (f:List Out) (g:List Per):=(Z98 a,b,c,d,e,f,g)
def Juk (a b:Int) (c:List Sta) (d:List Ord) (e:List Met) (f:List Out) (g:List Per) (h:Ls):=J0 a b c d e f g∧Sf true (List.length h=1)
variable (T:TypeId) (E C:List Ev) (G:List Reg) (tk st:Int) (S:List Sta) (O:List Ord) (M:List Met) (X:List Out) (Q:List Per) (n:Int) (ns:List ByteArray) (vs:List Int) (tx:ByteArray)
theorem Jit:wpFG Tryz.prog Jub.g Dg (Zf (none)) (Sx.look ([(225,Tryz.f225),(226,Tryz.f226),(227,Tryz.f227)]:List (Nat×Func))) Tryz.f132 Df ((tk,st,S,O,M,X,Q),(n,Jv,ns,vs,tx),()):=by
 refine(by kernel_rfl:(J0 tk st S O M X Q→Jb9 X→Z51 M→Jc (Z29 n ns vs tx)=0→Lb Jv Jl=false→K7 vs∧Br (Jio vs tk) (Sf true (Z67 tk st S O M X Q=Xa (Z67 tk st S O M X Q) (Z29 n ns vs tx)∧22=Uq (Z67 tk st S O M X Q) (Z29 n ns vs tx))) (Juk tk st S O M X Q ns∧Br (Ju (Z67 tk st S O M X Q) Jv ns !=0) (Sf true (Z67 tk st S O M X Q=Xa (Z67 tk st S O M X Q) (Z29 n ns vs tx)∧Ju (Z67 tk st S O M X Q) Jv ns=Uq (Z67 tk st S O M X Q) (Z29 n ns vs tx))) (Jim S∧Jij O∧Jin M∧Jik X∧Jil Q∧Z96 vs∧Br (X6 (Zx vs) 1 1000) (K7 vs∧Sf true (Jdw vs st S O M X Q=Xa (Z67 tk st S O M X Q) (Z29 n ns vs tx)∧3=Uq (Z67 tk st S O M X Q) (Z29 n ns vs tx))) (Br (decide (6≤Ln ([]++S))) (K7 vs∧Sf true (Jdw vs st S O M X Q=Xa (Z67 tk st S O M X Q) (Z29 n ns vs tx)∧5=Uq (Z67 tk st S O M X Q) (Z29 n ns vs tx))) (Kou ns vs S∧K7 vs∧Sf true ((Z98 vs,st,Kpp S ns vs,O,M,X,Q)=Xa (Z67 tk st S O M X Q) (Z29 n ns vs tx)∧0=Uq (Z67 tk st S O M X Q) (Z29 n ns vs tx)))))))=_).mp ?_
 delta Z25 Z29 Z33 Z51 Z67 Z96 Z98 Zx U8 Yj K7 J0 Jio Jin Jim Jil Jik Jij Jdw Juk Kpp Kou Br Bd T2 Tw Sf Ln B0 Lb Jv Jl
 intro hr hu hm hc _
 obtain⟨hn,hv,nS,nO,nX,nQ,hx⟩:=J0k hr hc
 simp only[Kc,List.length_cons,List.length_nil] at hn hv nS nO nX nQ hx
 have cE:ckS (tk,st,S,O,M,X,Q) (n,Jv,ns,vs,tx)=Jmt S vs:=by simp only[ckS,Kc]
 have sE:Jd (tk,st,S,O,M,X,Q) (n,Jv,ns,vs,tx)=(vs.getD 0 0,(Jbo (tk,st,S,O,M,X,Q) (n,Jv,ns,vs,tx)).2):=by simp only[Jd,doS,Kc]
 simp only[List.nil_append,rcb,rcS,rcO,rcX,rcQ,Prod.eta]
 repeat' first|exact lfT ‹_›|exact lfN ‹_› ‹_›|exact lfA ‹_› ‹_› (cE.trans (by clear cE sE hx hc;simp only[Jmt,Jf,H1,List.nil_append, *,cond_true,cond_false,reduceIte,decide_true,decide_false,Bool.not_true,Bool.not_false,Int.reduceEq,Int.reduceNe,ne_eq,not_false_eq_true,not_true_eq_false];first|done|rfl|decide)) (by first|exact .inl ⟨by decide,rfl⟩|exact .inl ⟨bne_iff_ne.mp ‹_›,rfl⟩|exact .inr ⟨rfl,sE.trans (by first|rfl|simp only[Jbo,List.nil_append])⟩)|apply And.intro|intro _
 all_goals first|omega|trivial|assumption
def K43 (a:List Sta) (b:Ls):=Gt ([]++a) (J6r a b) Z7
theorem Jni:wpFG Tryz.prog Jub.g Dg (Zf (none)) (Sx.look ([(225,Tryz.f225),(226,Tryz.f226),(227,Tryz.f227)]:List (Nat×Func))) Tryz.f132 Df ((tk,st,S,O,M,X,Q),(n,Uc,ns,vs,tx),()):=by
 refine(by kernel_rfl:(J0 tk st S O M X Q→Jb9 X→Z51 M→Jc (Z12 n ns vs tx)=0→Lb Uc Jl=false→K7 vs∧Br (Jio vs tk) (Sf true (Z67 tk st S O M X Q=Xa (Z67 tk st S O M X Q) (Z12 n ns vs tx)∧22=Uq (Z67 tk st S O M X Q) (Z12 n ns vs tx))) (Juk tk st S O M X Q ns∧Br (Ju (Z67 tk st S O M X Q) Uc ns !=0) (Sf true (Z67 tk st S O M X Q=Xa (Z67 tk st S O M X Q) (Z12 n ns vs tx)∧Ju (Z67 tk st S O M X Q) Uc ns=Uq (Z67 tk st S O M X Q) (Z12 n ns vs tx))) (Jim S∧Jij O∧Jin M∧Jik X∧Jil Q∧Z96 vs∧Br (decide (1000<Zx vs)) (K7 vs∧Sf true (Jdw vs st S O M X Q=Xa (Z67 tk st S O M X Q) (Z12 n ns vs tx)∧3=Uq (Z67 tk st S O M X Q) (Z12 n ns vs tx))) (T2 (Yj ns) (Z44 S∧T2 (Z33 vs) (Tw (Bd (J6r S ns) (Ln ([]++S)))))∧K7 vs∧Sf true ((Z98 vs,st,List.set ([]++S) (Int.toNat (J6r S ns)) ((K43 S ns).1,(K43 S ns).2.1,Zx vs),O,M,X,Q)=Xa (Z67 tk st S O M X Q) (Z12 n ns vs tx)∧0=Uq (Z67 tk st S O M X Q) (Z12 n ns vs tx))))))=_).mp ?_
 delta Z7 Z12 Z25 Z33 Z44 Z51 Z67 Z96 Z98 Zx U8 Yj K7 J0 J6r Jio Jin Jim Jil Jik Jij Jdw Juk K43 Br Bd T2 Tw Sf Ln Gt B0 Lb Uc Jl
 intro hr hu hm hc _
 obtain⟨hn,hv,nS,nO,nX,nQ,hx⟩:=J0k hr hc
 simp only[K8,List.length_cons,List.length_nil] at hn hv nS nO nX nQ hx
 have cE:ckS (tk,st,S,O,M,X,Q) (n,Uc,ns,vs,tx)=Jo1 vs:=by simp only[ckS,K8]
 have sE:Jd (tk,st,S,O,M,X,Q) (n,Uc,ns,vs,tx)=(vs.getD 0 0,(Jac (tk,st,S,O,M,X,Q) (n,Uc,ns,vs,tx)).2):=by simp only[Jd,doS,K8]
 have hp:decide (vs.getD 1 0<0)=false:=decide_eq_false (by have:=hx 1 (by omega);omega)
 have hF:(Ju (tk,st,S,O,M,X,Q) Uc ns !=0)=false→(0≤J1 S (ns.getD 0 Jb)∧J1 S (ns.getD 0 Jb)<S.length):=fun a=>by
  have z:=fcN a
  rw[K8] at z
  obtain⟨k0,z⟩:=Jj z
  exact⟨Jtg (k0 rfl),Uh⟩
 simp only[List.nil_append,rcb,rcS,rcO,rcX,rcQ,Prod.eta]
 repeat' first|exact lfT ‹_›|exact lfN ‹_› ‹_›|exact lfA ‹_› ‹_› (cE.trans (by clear cE sE hF hx hc;simp only[Jo1,Kt,Bool.false_or,H1,List.nil_append, *,cond_true,cond_false,reduceIte,decide_true,decide_false,Bool.not_true,Bool.not_false,Int.reduceEq,Int.reduceNe,ne_eq,not_false_eq_true,not_true_eq_false];first|done|rfl|decide)) (by first|exact .inl ⟨by decide,rfl⟩|exact .inl ⟨bne_iff_ne.mp ‹_›,rfl⟩|exact .inr ⟨rfl,sE.trans (by first|rfl|simp only[Jac,List.nil_append]|simp only[Jac,Za (hF ‹_›).1])⟩)|apply And.intro|intro _
 all_goals first|omega|trivial|assumption|(have:=hF ‹_›;omega)
abbrev Jih (tk st:Int) (S:List Sta) (O:List Ord) (M:List Met) (X:List Out) (Q:List Per) (n:Int) (ns:List ByteArray) (vs:List Int) (tx:ByteArray):Ann:={X:=Nat,σ:=fun k=>⟨30,[(2, .one (.ptr 25 0)),(3, .one (.ptr 26 0)),(4, .one (.ptr 27 0)),(6, .one (.sl 6)),(7, .one (.ptr 28 0)),(8, .one (.int .i64 (vs.getD 1 0+k)))],[(5, .imm 9 .str ns),(6, .imm 3 sI vs),(8, .box 67 [.int .i64 n, .str Kf, .sl 5, .sl 6, .str tx]),(9, .box 37 Jpt),(23, .box 37 [.int .i64 tk, .int .i64 st, .sl 14, .sl 16, .sl 18, .sl 20, .sl 22]),(24, .sus [(3, .one (.ptr 8 0)),(4, .one (.ptr 9 0)),(7, .one (.ptr 23 0))]),(25, .box 37 [.int .i64 tk, .int .i64 st, .sl 14, .sl 16, .sl 18, .sl 20, .sl 22]),(26, .box 67 [.int .i64 n, .str Kf, .sl 5, .sl 6, .str tx]),(27, .box 37 Jpt),(28, .box 117 [.int .i64 (vs.getD 1 0), .int .i64 (vs.getD 2 0)]),(14, .own 114 X5 S),(16, .own 119 Ym O),(18, .own 121 X9 M),(20, .own 123 Yh X),(22, .own 125 Y8 Q)]⟩,inv:=fun k=>k≤(vs.getD 2 0-vs.getD 1 0).toNat∧Jti S O X (n,Kf,ns,vs,tx)=Jnb (fun h=>decide (min (Vx S O X (ns.getD 1 Jb) h) (Vx S O X (ns.getD 2 Jb) h)<vs.getD 3 0)) (vs.getD 1 0+k) ((vs.getD 2 0-vs.getD 1 0).toNat-k),mu:=fun k=>(vs.getD 2 0-vs.getD 1 0).toNat-k}
def Jun (a:Li) (b:Nat):=Zx a+Nc b
def Kk9 (a:Li) (b:Nat):=Jun a b+1
def Kqj (a:Li):=Int.toNat (Jm6 a-Zx a)
def Kqg (a:Li) (b:Nat):=Zx a=Jun a b
def Kqc (a:Nat) (b:Li):=a≤Kqj b
def Keo (a:Li) (b:Nat):=Kqj a-b
def Kp1 (a:Li) (b:Nat):=decide (Jun a b<Jm6 a)
def Ko9 (a:Li) (b c:Nat):=Kk9 a b=Jun a c
def Ko7 (a:Li):=Kid (Z98 a) (Zx a) (Jm6 a)
def Kd9 (a:Li) (b:Int) (c:List Sta) (d:List Ord) (e:List Met) (f:List Out) (g:List Per) (h i:Int) (j:Ls) (k:Bt):=Jdw a b c d e f g=Xa (Z67 h b c d e f g) (Z13 i j a k)
def Kjx (a:List Sta) (b:List Ord) (c:List Out) (d:Ls) (e:Li) (f:Nat):=decide (Vx a b c (Lv d) (Jun e f)<Z97 e)=false
def Knc (a:Li) (b c:Nat):=Keo a b<Keo a c
def Kmq (a:Li):=T2 (Z25 a) ((0≤Zx a∧Zx a≤999999999)∧0≤Jm6 a∧Jm6 a≤999999999)
def Kl6 (a:Nat) (b:Li) (c:List Sta) (d:List Ord) (e:List Out) (f:Int) (g:Ls) (h:Bt):=Kqc a b∧Jti c d e (Z13 f g b h)=Jnb (fun(h:Int)=>decide (min (Vx c d e (Jks g) h) (Vx c d e (Kay g) h)<Z97 b)) (Jun b a) (Keo b a)
def Kl5 (a:Bt) (b:Li) (c:List Sta) (d:List Ord) (e:List Met) (f:List Out) (g:List Per):=Sf a (Si 0 (Si 0 (Sf J7 (Sf J7 (Sf J7 (Sf J7 (Sf J7 (Si (Zx b) (Si (Jm6 b) (Sf c (Sf d (Sf e (Sf f (g=g))))))))))))))
def Kbv (a:Ls) (b:Li) (c:Int) (d:Bt) (e f:Int) (g:List Sta) (h:List Ord) (i:List Met) (j:List Out) (k:List Per):=Sf a (Sf b (Si c (Sf Kf (Sf d (Si 0 (Si 0 (Sf J7 (Sf J7 (Sf J7 (Sf J7 (Sf J7 (Si e (Si f (Si e (Si f (Si c (Sf Kf (Kl5 d b g h i j k))))))))))))))))))
theorem Jnj:wpFG Tryz.prog Jub.g Dg (Zf (some (Jih tk st S O M X Q n ns vs tx))) (Sx.look ([(225,Tryz.f225),(226,Tryz.f226),(227,Tryz.f227)]:List (Nat×Func))) Tryz.f132 Df ((tk,st,S,O,M,X,Q),(n,Kf,ns,vs,tx),()):=by
 refine(by kernel_rfl:(J0 tk st S O M X Q→Jb9 X→Z51 M→Jc (Z13 n ns vs tx)=0→Lb Kf Jl=false→K7 vs∧Br (Jio vs tk) (Sf true (Z67 tk st S O M X Q=Xa (Z67 tk st S O M X Q) (Z13 n ns vs tx)∧22=Uq (Z67 tk st S O M X Q) (Z13 n ns vs tx))) ((J0 tk st S O M X Q∧Sf true (Juq ns))∧Br (Ju (Z67 tk st S O M X Q) Kf ns !=0) (Sf true (Z67 tk st S O M X Q=Xa (Z67 tk st S O M X Q) (Z13 n ns vs tx)∧Ju (Z67 tk st S O M X Q) Kf ns=Uq (Z67 tk st S O M X Q) (Z13 n ns vs tx))) (Jim S∧Jij O∧Jin M∧Jik X∧Jil Q∧Kew vs∧T2 (Jem ns) (Tw (J6v ns))∧Br (Kqr ns) (K7 vs∧Sf true (Kd9 vs st S O M X Q tk n ns tx∧24=Uq (Z67 tk st S O M X Q) (Z13 n ns vs tx))) (Kmq vs∧Br (Ko7 vs) (K7 vs∧Sf true (Kd9 vs st S O M X Q tk n ns tx∧14=Uq (Z67 tk st S O M X Q) (Z13 n ns vs tx))) (J1a vs∧Br (X6 (Z97 vs) 1 1000) (K7 vs∧Sf true (Kd9 vs st S O M X Q tk n ns tx∧3=Uq (Z67 tk st S O M X Q) (Z13 n ns vs tx))) (∃(x:Nat),(Kqg vs x∧Kbv ns vs n tx tk st S O M X Q)∧Kl6 x vs S O X n ns tx∧∀(x:Nat),Kl6 x vs S O X n ns tx→Br (Kp1 vs x) (T2 (Jem ns) (J0 tk st S O M X Q∧J6c S ns∧T2 (Z26 vs) (T2 (Kjx S O X ns vs x→J6v ns) ((Kjx S O X ns vs x→J0 tk st S O M X Q)∧(Kjx S O X ns vs x→0≤J1 S (Jpl ns))∧Tw (Kjx S O X ns vs x→Z26 vs))))∧Br (bif decide (Vx S O X (Lv ns) (Jun vs x)<Z97 vs) then true else decide (Vx S O X (Jpl ns) (Jun vs x)<Z97 vs)) (K7 vs∧Sf true (Kd9 vs st S O M X Q tk n ns tx∧4=Uq (Z67 tk st S O M X Q) (Z13 n ns vs tx))) (Iw (Kk9 vs x)∧∃(y:Nat),(Ko9 vs x y∧Kbv ns vs n tx tk st S O M X Q)∧Kl6 y vs S O X n ns tx∧Knc vs y x)) (Br (decide (32≤Ln O)) (K7 vs∧Sf true (Kd9 vs st S O M X Q tk n ns tx∧5=Uq (Z67 tk st S O M X Q) (Z13 n ns vs tx))) (T2 (Yj ns) (T2 (Jem ns) (T2 (J6v ns) (T2 (Z26 vs) (T2 (Jem ns) (Z44 S∧T2 (Bd (J04 S ns) (Ln S)) ((List.length O+1)*88≤140737488355328))))))∧K7 vs∧Sf true ((Z98 vs,st,S,O++[(U8 ns,Lv ns,Jpl ns,Ket vs,Z97 vs,(Gt S (J04 S ns) Z7).2.2,Z71)],M,X,Q)=Xa (Z67 tk st S O M X Q) (Z13 n ns vs tx)∧0=Uq (Z67 tk st S O M X Q) (Z13 n ns vs tx))))))))))=_).mp ?_
 delta Z7 Z13 Z25 Z26 Z31 Z33 Z44 Z51 Z67 Z71 Z97 Z98 Lv J6v Zx Jpl Jm6 J1a U8 Jem Yj K7 Kay Juq Jks J0 J7 J04 Jun Jio Jin Jim Jil Jik Jij J6c Kk9 Jdw Kew Ket Kqr Kqj Kqg Kqc Keo Kp1 Ko9 Ko7 Kd9 Kjx Knc Kmq Kl6 Kl5 Kbv Br Iw Bd T2 Tw Sf Si Ln Nc Gt B0 Lb Kf Jl
 intro hr hu hm hc _
 obtain⟨hn,hv,nS,nO,nX,nQ,hx⟩:=J0k hr hc
 simp only[Kp,List.length_cons,List.length_nil] at hn hv nS nO nX nQ hx
 have cE:ckS (tk,st,S,O,M,X,Q) (n,Kf,ns,vs,tx)=Jbw S O X (n,Kf,ns,vs,tx):=by simp only[ckS,Kp]
 have sE:Jd (tk,st,S,O,M,X,Q) (n,Kf,ns,vs,tx)=(vs.getD 0 0,(Jag (tk,st,S,O,M,X,Q) (n,Kf,ns,vs,tx)).2):=by simp only[Jd,doS,Kp]
 have hF:(Ju (tk,st,S,O,M,X,Q) Kf ns !=0)=false→(0≤J1 S (ns.getD 1 Jb)∧J1 S (ns.getD 1 Jb)<S.length)∧(0≤J1 S (ns.getD 2 Jb)∧J1 S (ns.getD 2 Jb)<S.length):=fun a=>by
  have z:=fcN a
  rw[Kp] at z
  obtain⟨k0,z⟩:=Jj z
  obtain⟨k1,z⟩:=Jj z
  obtain⟨k2,z⟩:=Jj z
  exact⟨⟨Jtg (k1 rfl),Uh⟩,⟨Jtg (k2 rfl),Uh⟩⟩
 have v1:=hx 1 (by omega)
 have v2:=hx 2 (by omega)
 have v3:=hx 3 (by omega)
 have pE:Hb (n,Kf,ns,vs,tx)=bif Kid (vs.getD 0 0) (vs.getD 1 0) (vs.getD 2 0) then 14 else 0:=rfl
 simp only[List.nil_append,rcb,rcS,rcO,rcX,rcQ,Prod.eta]
 repeat' first|exact lfT ‹_›|exact lfN ‹_› ‹_›|exact lfA ‹_› ‹_› (cE.trans (by clear cE sE hF hx hc;simp only[Jbw,Jgc,Jf,H1,List.nil_append, *,cond_true,cond_false,reduceIte,decide_true,decide_false,Bool.not_true,Bool.not_false,Int.reduceEq,Int.reduceNe,ne_eq,not_false_eq_true,not_true_eq_false];first|done|rfl|decide)) (by first|exact .inl ⟨by decide,rfl⟩|exact .inl ⟨bne_iff_ne.mp ‹_›,rfl⟩|exact .inr ⟨rfl,sE.trans (by first|rfl|(simp only[Jag,List.nil_append];done)|simp only[Jag,Za (hF ‹_›).1])⟩)|(refine⟨(0:Nat),by(repeat' first|exact rfl|exact⟨⟩|apply And.intro|omega|dsimp only;omega),⟨Nat.zero_le _,by simp[Xr,Vp,Jti]⟩,fun(k:Nat) hk=>⟨fun h1=> ?_,fun h1=> ?_⟩⟩;obtain⟨k1,k2⟩:=hk;replace h1:=of_decide_eq_true h1;rw[Jrh (by omega)] at k2;rw[Uaw] at k2;rotate_left;obtain⟨k1,k2⟩:=hk;replace h1:=of_decide_eq_false h1;rw[Jrj (by omega)] at k2)|(refine⟨(k+1:Nat),by(repeat' first|exact rfl|exact⟨⟩|apply And.intro|omega|dsimp only;omega),⟨by omega, ?_⟩,by omega⟩;rw[k2,show(bif decide (Vx S O X (ns.getD 1 Jb) (vs.getD 1 0+k)<vs.getD 3 0) then true else decide (Vx S O X (ns.getD 2 Jb) (vs.getD 1 0+k)<vs.getD 3 0))=false from ‹_›];rfl)|apply And.intro|intro _
 all_goals first|omega|trivial|assumption|(have:=hF ‹_›;omega)
def Kkz (a:List Ord) (b:Ls):=Bd (Jrz a b) (Ln ([]++a))
def Kqe (a:List Ord) (b:Ls):=Tw (Kkz a b)
def Kd8 (a:Li) (b:Int) (c:List Sta) (d:List Ord) (e:List Met) (f:List Out) (g:List Per) (h i:Int) (j:Ls) (k:Bt):=Jdw a b c d e f g=Xa (Z67 h b c d e f g) (Z10 i j a k)
def Kn8 (a:List Ord) (b:Ls):=Gt ([]++a) (Jrz a b) Jdo
def Kd6 (a:List Ord) (b:Ls):=(Kn8 a b).1
def Kn5 (a:List Ord) (b:Ls):=(Kn8 a b).2
def Kn2 (a:List Ord) (b:Ls):=(Kn5 a b).2
def Kn1 (a:List Ord) (b:Ls):=(Kn5 a b).1
def Knx (a:List Ord) (b:Ls):=(Kn2 a b).2
def Knw (a:List Ord) (b:Ls):=(Kn2 a b).1
def Knv (a:List Ord) (b:Ls):=(Knx a b).1
def Knu (a:List Ord) (b:Ls):=(Knx a b).2
def Kjw (a:List Ord) (b:Ls):=(Knu a b).1
def Kjv (a:List Ord) (b:Ls):=(Knu a b).2
def Kns (a:List Ord) (b:Ls):=(Kjv a b).2
def Kjo (a:List Ord) (b:Ls):=E2 (Knv a b)
def Kz5 (a:List Ord) (b:Ls) (c:Li):=decide (Kjw a b<Jm6 c)
def Kzw (a:List Ord) (b:Ls) (c:Li):=Kz5 a b c=false
theorem Jnk:wpFG Tryz.prog Jub.g Dg (Zf (none)) (Sx.look ([(225,Tryz.f225),(226,Tryz.f226),(227,Tryz.f227)]:List (Nat×Func))) Tryz.f132 Df ((tk,st,S,O,M,X,Q),(n,K2,ns,vs,tx),()):=by
 refine(by kernel_rfl:(J0 tk st S O M X Q→Jb9 X→Z51 M→Jc (Z10 n ns vs tx)=0→Lb K2 Jl=false→K7 vs∧Br (Jio vs tk) (Sf true (Z67 tk st S O M X Q=Xa (Z67 tk st S O M X Q) (Z10 n ns vs tx)∧22=Uq (Z67 tk st S O M X Q) (Z10 n ns vs tx))) (Juk tk st S O M X Q ns∧Br (Ju (Z67 tk st S O M X Q) K2 ns !=0) (Sf true (Z67 tk st S O M X Q=Xa (Z67 tk st S O M X Q) (Z10 n ns vs tx)∧Ju (Z67 tk st S O M X Q) K2 ns=Uq (Z67 tk st S O M X Q) (Z10 n ns vs tx))) (Jim S∧Jij O∧Jin M∧Jik X∧Jil Q∧T2 (Yj ns) (Z50 O∧Kqe O ns)∧T2 (Z33 vs) (K7 vs)∧Br (Kqh vs) (K7 vs∧Sf true (Kd8 vs st S O M X Q tk n ns tx∧11=Uq (Z67 tk st S O M X Q) (Z10 n ns vs tx))) (Z96 vs∧Br (!Kv (Kjo O ns) (Zx vs)) (K7 vs∧Sf true (Kd8 vs st S O M X Q tk n ns tx∧14=Uq (Z67 tk st S O M X Q) (Z10 n ns vs tx))) (T2 (Z33 vs) (Z71≤Kns O ns)∧Br (!J2 (Kd6 O ns,Kn1 O ns,Knw O ns,Kjo O ns,Kjw O ns,E2 (Kjv O ns)) (Zx vs)) (K7 vs∧Sf true (Kd8 vs st S O M X Q tk n ns tx∧23=Uq (Z67 tk st S O M X Q) (Z10 n ns vs tx))) (T2 (Z33 vs) (J0 tk st S O M X Q)∧Br (Dp M (Kd6 O ns) (Zx vs)).2 (K7 vs∧Sf true (Kd8 vs st S O M X Q tk n ns tx∧9=Uq (Z67 tk st S O M X Q) (Z10 n ns vs tx))) (T2 (Z31 vs) (T2 (Kzw O ns vs→Z26 vs) (Tw (Kzw O ns vs→Z31 vs)))∧Br (bif Kz5 O ns vs then true else Kqi vs) (K7 vs∧Sf true (Kd8 vs st S O M X Q tk n ns tx∧3=Uq (Z67 tk st S O M X Q) (Z10 n ns vs tx))) (Knr vs M∧K7 vs∧Sf true ((Z98 vs,st,S,O,M++[(Kd6 O ns,Kpe vs)],X,Q)=Xa (Z67 tk st S O M X Q) (Z10 n ns vs tx)∧0=Uq (Z67 tk st S O M X Q) (Z10 n ns vs tx))))))))))=_).mp ?_
 delta Z10 Z25 Z26 Z31 Z33 Z50 Z51 Z67 Z71 Z75 Z96 Z97 Z98 Zx Jm6 U8 Yj K7 J0 Jrz Jio Jin Jim Jil Jik Jij Jdw Jdo Kkz Kqi Kqh Kqe Juk Kpe Kd8 Kn8 Kd6 Kn5 Kn2 Kn1 Knx Knw Knv Knu Kjw Kjv Kns Knr Kjo Kz5 Kzw Br Bd T2 Tw Sf Ln Gt B0 Lb E2 K2 Jl
 intro hr hu hm hc _
 obtain⟨hn,hv,nS,nO,nX,nQ,hx⟩:=J0k hr hc
 simp only[Kq,List.length_cons,List.length_nil] at hn hv nS nO nX nQ hx
 have cE:ckS (tk,st,S,O,M,X,Q) (n,K2,ns,vs,tx)=Jkl O M ns vs:=by simp only[ckS,Kq]
 have sE:Jd (tk,st,S,O,M,X,Q) (n,K2,ns,vs,tx)=(vs.getD 0 0,(Jah (tk,st,S,O,M,X,Q) (n,K2,ns,vs,tx)).2):=by simp only[Jd,doS,Kq]
 have hF:(Ju (tk,st,S,O,M,X,Q) K2 ns !=0)=false→(0≤Kg O (ns.getD 0 Jb)∧Kg O (ns.getD 0 Jb)<O.length):=fun a=>by
  have z:=fcN a
  rw[Kq] at z
  obtain⟨k0,z⟩:=Jj z
  exact⟨Jxf (k0 rfl),Uy⟩
 have hP:(Ju (tk,st,S,O,M,X,Q) K2 ns !=0)=false→-1≤(Vy O (ns.getD 0 Jb)).2.2.2.2.2.2:=fun a=>(hr.ord _ (D1 (hF a).1)).trip.1
 simp only[List.nil_append,rcb,rcS,rcO,rcX,rcQ,Prod.eta]
 repeat' first|exact lfT ‹_›|exact lfN ‹_› ‹_›|exact lfA ‹_› ‹_› (cE.trans (by have hp:=hP ‹_›;clear cE sE hF hP hx hc;simp only[Jkl,Kvp,Jf,H1,List.nil_append, *,cond_true,cond_false,reduceIte,decide_true,decide_false,Bool.not_true,Bool.not_false,Int.reduceEq,Int.reduceNe,ne_eq,not_false_eq_true,not_true_eq_false];first|done|rfl|decide)) (by first|exact .inl ⟨by decide,rfl⟩|exact .inl ⟨bne_iff_ne.mp ‹_›,rfl⟩|exact .inr ⟨rfl,sE.trans (by first|rfl|(simp only[Jah,List.nil_append];done)|simp only[Jah,Za (hF ‹_›).1])⟩)|apply And.intro|intro _
 all_goals first|omega|trivial|assumption|exact hP ‹_›|(have:=hF ‹_›;omega)
def K0x (a:List Ord) (b:Ls):=decide (0≤Kns a b)
def K0g (a:List Ord) (b:Ls):=K0x a b=false
theorem Jsc:wpFG Tryz.prog Jub.g Dg (Zf (none)) (Sx.look ([(225,Tryz.f225),(226,Tryz.f226),(227,Tryz.f227)]:List (Nat×Func))) Tryz.f132 Df ((tk,st,S,O,M,X,Q),(n,Vj,ns,vs,tx),()):=by
 refine(by kernel_rfl:(J0 tk st S O M X Q→Jb9 X→Z51 M→Jc (Z1 n ns vs tx)=0→Lb Vj Jl=false→K7 vs∧Br (Jio vs tk) (Sf true (Z67 tk st S O M X Q=Xa (Z67 tk st S O M X Q) (Z1 n ns vs tx)∧22=Uq (Z67 tk st S O M X Q) (Z1 n ns vs tx))) (Juk tk st S O M X Q ns∧Br (Ju (Z67 tk st S O M X Q) Vj ns !=0) (Sf true (Z67 tk st S O M X Q=Xa (Z67 tk st S O M X Q) (Z1 n ns vs tx)∧Ju (Z67 tk st S O M X Q) Vj ns=Uq (Z67 tk st S O M X Q) (Z1 n ns vs tx))) (Jim S∧Jij O∧Jin M∧Jik X∧Jil Q∧T2 (Yj ns) (Z50 O)∧T2 (Kkz O ns) (T2 (K0g O ns→Kkz O ns) (Tw (K0g O ns→Z25 vs)))∧Br (bif K0x O ns then true else decide ((Knv O ns).2≤Z98 vs)) (K7 vs∧Sf true (Jdw vs st S O M X Q=Xa (Z67 tk st S O M X Q) (Z1 n ns vs tx)∧23=Uq (Z67 tk st S O M X Q) (Z1 n ns vs tx))) (T2 (Z25 vs) (Kqe O ns)∧K7 vs∧Sf true ((Z98 vs,st,S,List.set ([]++O) (Int.toNat (Jrz O ns)) (Kd6 O ns,Kn1 O ns,Knw O ns,Kjo O ns,Kjw O ns,(Kjv O ns).1,Z98 vs),M,X,Q)=Xa (Z67 tk st S O M X Q) (Z1 n ns vs tx)∧0=Uq (Z67 tk st S O M X Q) (Z1 n ns vs tx))))))=_).mp ?_
 delta Z1 Z25 Z50 Z51 Z67 Z75 Z98 U8 Yj K7 J0 Jrz Jio Jin Jim Jil Jik Jij Jdw Jdo Kkz Kqe Juk Kn8 Kd6 Kn5 Kn2 Kn1 Knx Knw Knv Knu Kjw Kjv Kns Kjo K0x K0g Br Bd T2 Tw Sf Ln Gt B0 Lb E2 Vj Jl
 intro hr hu hm hc _
 obtain⟨hn,hv,nS,nO,nX,nQ,hx⟩:=J0k hr hc
 simp only[Uf,List.length_cons,List.length_nil] at hn hv nS nO nX nQ hx
 have cE:ckS (tk,st,S,O,M,X,Q) (n,Vj,ns,vs,tx)=Jbs O ns vs:=by simp only[ckS,Uf]
 have sE:Jd (tk,st,S,O,M,X,Q) (n,Vj,ns,vs,tx)=(vs.getD 0 0,(Jab (tk,st,S,O,M,X,Q) (n,Vj,ns,vs,tx)).2):=by simp only[Jd,doS,Uf]
 have hF:(Ju (tk,st,S,O,M,X,Q) Vj ns !=0)=false→(0≤Kg O (ns.getD 0 Jb)∧Kg O (ns.getD 0 Jb)<O.length):=fun a=>by
  have z:=fcN a
  rw[Uf] at z
  obtain⟨k0,z⟩:=Jj z
  exact⟨Jxf (k0 rfl),Uy⟩
 have hP:(Ju (tk,st,S,O,M,X,Q) Vj ns !=0)=false→((Vy O (ns.getD 0 Jb)).2.2.2.2.2.2 != -1)=decide (0≤(Vy O (ns.getD 0 Jb)).2.2.2.2.2.2):=fun a=>by
  have h: -1≤(Vy O (ns.getD 0 Jb)).2.2.2.2.2.2:=(hr.ord _ (D1 (hF a).1)).trip.1
  by_cases q:0≤(Vy O (ns.getD 0 Jb)).2.2.2.2.2.2
  ·rw[decide_eq_true q];exact bne_iff_ne.mpr (by omega)
  ·rw[decide_eq_false q];exact bne_eq_false_iff_eq.mpr (by omega)
 simp only[List.nil_append,rcb,rcS,rcO,rcX,rcQ,Prod.eta]
 repeat' first|exact lfT ‹_›|exact lfN ‹_› ‹_›|exact lfA ‹_› ‹_› (cE.trans (by have hp:=hP ‹_›;clear cE sE hF hP hx hc;simp only[Jbs,H1,List.nil_append, *,cond_true,cond_false,reduceIte,decide_true,decide_false,Bool.not_true,Bool.not_false,Int.reduceEq,Int.reduceNe,ne_eq,not_false_eq_true,not_true_eq_false];first|done|rfl|decide)) (by first|exact .inl ⟨by decide,rfl⟩|exact .inl ⟨bne_iff_ne.mp ‹_›,rfl⟩|exact .inr ⟨rfl,sE.trans (by first|rfl|simp only[Jab,List.nil_append]|simp only[Jab,Za (hF ‹_›).1])⟩)|apply And.intro|intro _
 all_goals first|omega|trivial|assumption|exact hP ‹_›|(have:=hF ‹_›;omega)
abbrev Jgg (tk st:Int) (S:List Sta) (O:List Ord) (M:List Met) (X:List Out) (Q:List Per) (n:Int) (ns:List ByteArray) (vs:List Int) (tx:ByteArray):Ann:={X:=Nat,σ:=fun k=>⟨30,[(2, .one (.ptr 25 0)),(3, .one (.ptr 26 0)),(4, .one (.ptr 27 0)),(6, .one (.sl 6)),(7, .one (.ptr 28 0)),(8, .one (.int .i64 (vs.getD 1 0+k)))],[(5, .imm 9 .str ns),(6, .imm 3 sI vs),(8, .box 67 [.int .i64 n, .str Jp, .sl 5, .sl 6, .str tx]),(9, .box 37 Jpt),(23, .box 37 [.int .i64 tk, .int .i64 st, .sl 14, .sl 16, .sl 18, .sl 20, .sl 22]),(24, .sus [(3, .one (.ptr 8 0)),(4, .one (.ptr 9 0)),(7, .one (.ptr 23 0))]),(25, .box 37 [.int .i64 tk, .int .i64 st, .sl 14, .sl 16, .sl 18, .sl 20, .sl 22]),(26, .box 67 [.int .i64 n, .str Jp, .sl 5, .sl 6, .str tx]),(27, .box 37 Jpt),(28, .box 117 [.int .i64 (vs.getD 1 0), .int .i64 (vs.getD 2 0)]),(14, .own 114 X5 S),(16, .own 119 Ym O),(18, .own 121 X9 M),(20, .own 123 Yh X),(22, .own 125 Y8 Q)]⟩,inv:=fun k=>k≤(vs.getD 2 0-vs.getD 1 0).toNat∧Xr (Vp (n,Jp,ns,vs,tx)) (fun h=>decide (vs.getD 3 0<Ul O (ns.getD 1 Jb) h))=Jnb (fun h=>decide (vs.getD 3 0<Ul O (ns.getD 1 Jb) h)) (vs.getD 1 0+k) ((vs.getD 2 0-vs.getD 1 0).toNat-k),mu:=fun k=>(vs.getD 2 0-vs.getD 1 0).toNat-k}
def Kka (a:Li) (b:Int) (c:List Sta) (d:List Ord) (e:List Met) (f:List Out) (g:List Per) (h i:Int) (j:Ls) (k:Bt):=Jdw a b c d e f g=Xa (Z67 h b c d e f g) (Z20 i j a k)
def Kl4 (a:Nat) (b:Li) (c:Int) (d:Ls) (e:Bt) (f:List Ord):=Kqc a b∧(Xr (Vp (Z20 c d b e)) fun(h:Int)=>decide (Z97 b<Ul f (Jks d) h))=Jnb (fun(h:Int)=>decide (Z97 b<Ul f (Jks d) h)) (Jun b a) (Keo b a)
def Kbu (a:Ls) (b:Li) (c:Int) (d:Bt) (e f:Int) (g:List Sta) (h:List Ord) (i:List Met) (j:List Out) (k:List Per):=Sf a (Sf b (Si c (Sf Jp (Sf d (Si 0 (Si 0 (Sf J7 (Sf J7 (Sf J7 (Sf J7 (Sf J7 (Si e (Si f (Si e (Si f (Si c (Sf Jp (Kl5 d b g h i j k))))))))))))))))))
theorem Jk5:wpFG Tryz.prog Jub.g Dg (Zf (some (Jgg tk st S O M X Q n ns vs tx))) (Sx.look ([(225,Tryz.f225),(226,Tryz.f226),(227,Tryz.f227)]:List (Nat×Func))) Tryz.f132 Df ((tk,st,S,O,M,X,Q),(n,Jp,ns,vs,tx),()):=by
 refine(by kernel_rfl:(J0 tk st S O M X Q→Jb9 X→Z51 M→Jc (Z20 n ns vs tx)=0→Lb Jp Jl=false→K7 vs∧Br (Jio vs tk) (Sf true (Z67 tk st S O M X Q=Xa (Z67 tk st S O M X Q) (Z20 n ns vs tx)∧22=Uq (Z67 tk st S O M X Q) (Z20 n ns vs tx))) ((J0 tk st S O M X Q∧Sf true (Jr5 ns))∧Br (Ju (Z67 tk st S O M X Q) Jp ns !=0) (Sf true (Z67 tk st S O M X Q=Xa (Z67 tk st S O M X Q) (Z20 n ns vs tx)∧Ju (Z67 tk st S O M X Q) Jp ns=Uq (Z67 tk st S O M X Q) (Z20 n ns vs tx))) (Jim S∧Jij O∧Jin M∧Jik X∧Jil Q∧Kew vs∧Kmq vs∧Br (Ko7 vs) (K7 vs∧Sf true (Kka vs st S O M X Q tk n ns tx∧14=Uq (Z67 tk st S O M X Q) (Z20 n ns vs tx))) (T2 (Z26 vs) (T2 (Jem ns) (Z44 S∧Tw (Bd (J04 S ns) (Ln ([]++S)))))∧Br (decide ((Gt ([]++S) (J04 S ns) Z7).2.1≤Z97 vs)) (K7 vs∧Sf true (Kka vs st S O M X Q tk n ns tx∧3=Uq (Z67 tk st S O M X Q) (Z20 n ns vs tx))) (∃(x:Nat),(Kqg vs x∧Kbu ns vs n tx tk st S O M X Q)∧Kl4 x vs n ns tx O∧∀(x:Nat),Kl4 x vs n ns tx O→Br (Kp1 vs x) (T2 (Jem ns) (J0 tk st S O M X Q∧J1a vs)∧Br (decide (Z97 vs<Ul O (Lv ns) (Jun vs x))) (K7 vs∧Sf true (Kka vs st S O M X Q tk n ns tx∧24=Uq (Z67 tk st S O M X Q) (Z20 n ns vs tx))) (Iw (Kk9 vs x)∧∃(y:Nat),(Ko9 vs x y∧Kbu ns vs n tx tk st S O M X Q)∧Kl4 y vs n ns tx O∧Knc vs y x)) (Br (decide (16≤Ln X)) (K7 vs∧Sf true (Kka vs st S O M X Q tk n ns tx∧5=Uq (Z67 tk st S O M X Q) (Z20 n ns vs tx))) (T2 (Yj ns) (T2 (Jem ns) (Kp8 vs X))∧K7 vs∧Sf true ((Z98 vs,st,S,O,M,X++[(U8 ns,Lv ns,Ket vs,Z97 vs)],Q)=Xa (Z67 tk st S O M X Q) (Z20 n ns vs tx)∧0=Uq (Z67 tk st S O M X Q) (Z20 n ns vs tx)))))))))=_).mp ?_
 delta Z7 Z20 Z25 Z26 Z31 Z33 Z44 Z51 Z67 Z97 Z98 Lv Zx Jm6 J1a U8 Jem Yj K7 Jr5 Jks J0 J7 J04 Jun Jio Jin Jim Jil Jik Jij Kk9 Jdw Kew Ket Kqj Kqg Kqc Keo Kp8 Kp1 Ko9 Ko7 Kka Knc Kmq Kl5 Kl4 Kbu Br Iw Bd T2 Tw Sf Si Ln Nc Gt B0 Lb Jp Jl
 intro hr hu hm hc _
 obtain⟨hn,hv,nS,nO,nX,nQ,hx⟩:=J0k hr hc
 simp only[Jy,List.length_cons,List.length_nil] at hn hv nS nO nX nQ hx
 have cE:ckS (tk,st,S,O,M,X,Q) (n,Jp,ns,vs,tx)=Jbv S O X (n,Jp,ns,vs,tx):=by simp only[ckS,Jy]
 have sE:Jd (tk,st,S,O,M,X,Q) (n,Jp,ns,vs,tx)=(vs.getD 0 0,(Jae (tk,st,S,O,M,X,Q) (n,Jp,ns,vs,tx)).2):=by simp only[Jd,doS,Jy]
 have hF:(Ju (tk,st,S,O,M,X,Q) Jp ns !=0)=false→(0≤J1 S (ns.getD 1 Jb)∧J1 S (ns.getD 1 Jb)<S.length):=fun a=>by
  have z:=fcN a
  rw[Jy] at z
  obtain⟨k0,z⟩:=Jj z
  obtain⟨k1,z⟩:=Jj z
  exact⟨Jtg (k1 rfl),Uh⟩
 have v1:=hx 1 (by omega)
 have v2:=hx 2 (by omega)
 have v3:=hx 3 (by omega)
 have pE:Hb (n,Jp,ns,vs,tx)=bif Kid (vs.getD 0 0) (vs.getD 1 0) (vs.getD 2 0) then 14 else 0:=rfl
 simp only[List.nil_append,rcb,rcS,rcO,rcX,rcQ,Prod.eta]
 repeat' first|exact lfT ‹_›|exact lfN ‹_› ‹_›|exact lfA ‹_› ‹_› (cE.trans (by clear cE sE hF hx hc;simp only[Jbv,Jdh,Jf,H1,List.nil_append, *,cond_true,cond_false,reduceIte,decide_true,decide_false,Bool.not_true,Bool.not_false,Int.reduceEq,Int.reduceNe,ne_eq,not_false_eq_true,not_true_eq_false];first|done|rfl|decide)) (by first|exact .inl ⟨by decide,rfl⟩|exact .inl ⟨bne_iff_ne.mp ‹_›,rfl⟩|exact .inr ⟨rfl,sE.trans (by first|rfl|(simp only[Jae,List.nil_append];done)|simp only[Jae,Za (hF ‹_›).1])⟩)|(refine⟨(0:Nat),by(repeat' first|exact rfl|exact⟨⟩|apply And.intro|omega|dsimp only;omega),⟨Nat.zero_le _,by simp[Xr,Vp,Jti]⟩,fun(k:Nat) hk=>⟨fun h1=> ?_,fun h1=> ?_⟩⟩;obtain⟨k1,k2⟩:=hk;replace h1:=of_decide_eq_true h1;rw[Jrh (by omega)] at k2;skip;rotate_left;obtain⟨k1,k2⟩:=hk;replace h1:=of_decide_eq_false h1;rw[Jrj (by omega)] at k2)|(refine⟨(k+1:Nat),by(repeat' first|exact rfl|exact⟨⟩|apply And.intro|omega|dsimp only;omega),⟨by omega, ?_⟩,by omega⟩;rw[k2,show decide (vs.getD 3 0<Ul O (ns.getD 1 Jb) (vs.getD 1 0+k))=false from ‹_›];rfl)|apply And.intro|intro _
 all_goals first|omega|trivial|assumption|(have:=hF ‹_›;omega)
def K35 (a:List Out) (b:Ls):=Gt ([]++a) (Juo a b) Jc1
def K3w (a:List Out) (b:Ls) (c:Li):=T2 (Bd (Juo a b) (Ln ([]++a))) (K7 c)
def K3s (a:List Out) (b:Ls):=(K35 a b).2
def K3o (a:List Out) (b:Ls):=(K3s a b).2
def K3k (a:List Out) (b:Ls):=(K3o a b).1
def K3h (a:List Out) (b:Ls):=(K3k a b).1
theorem Jiu:wpFG Tryz.prog Jub.g Dg (Zf (none)) (Sx.look ([(225,Tryz.f225),(226,Tryz.f226),(227,Tryz.f227)]:List (Nat×Func))) Tryz.f132 Df ((tk,st,S,O,M,X,Q),(n,Jr,ns,vs,tx),()):=by
 refine(by kernel_rfl:(J0 tk st S O M X Q→Jb9 X→Z51 M→Jc (Z30 n ns vs tx)=0→Lb Jr Jl=false→K7 vs∧Br (Jio vs tk) (Sf true (Z67 tk st S O M X Q=Xa (Z67 tk st S O M X Q) (Z30 n ns vs tx)∧22=Uq (Z67 tk st S O M X Q) (Z30 n ns vs tx))) (Juk tk st S O M X Q ns∧Br (Ju (Z67 tk st S O M X Q) Jr ns !=0) (Sf true (Z67 tk st S O M X Q=Xa (Z67 tk st S O M X Q) (Z30 n ns vs tx)∧Ju (Z67 tk st S O M X Q) Jr ns=Uq (Z67 tk st S O M X Q) (Z30 n ns vs tx))) (Jim S∧Jij O∧Jin M∧Jik X∧Jil Q∧T2 (Yj ns) (Z48 X)∧K3w X ns vs∧Br (decide (Z98 vs≤K3h X ns)) (K7 vs∧Sf true (Jdw vs st S O M X Q=Xa (Z67 tk st S O M X Q) (Z30 n ns vs tx)∧21=Uq (Z67 tk st S O M X Q) (Z30 n ns vs tx))) (K3w X ns vs∧Br (decide ((K3k X ns).2≤Z98 vs)) (K7 vs∧Sf true (Jdw vs st S O M X Q=Xa (Z67 tk st S O M X Q) (Z30 n ns vs tx)∧23=Uq (Z67 tk st S O M X Q) (Z30 n ns vs tx))) (T2 (Yj ns) (Z47 Q)∧Br (Yp Q (U8 ns)) (K7 vs∧Sf true (Jdw vs st S O M X Q=Xa (Z67 tk st S O M X Q) (Z30 n ns vs tx)∧32=Uq (Z67 tk st S O M X Q) (Z30 n ns vs tx))) (T2 (Z25 vs) (Tw (Bd (Juo X ns) (Ln ([]++X))))∧K7 vs∧Sf true ((Z98 vs,st,S,O,M,List.set ([]++X) (Int.toNat (Juo X ns)) ((K35 X ns).1,(K3s X ns).1,(K3h X ns,Z98 vs),(K3o X ns).2),Q)=Xa (Z67 tk st S O M X Q) (Z30 n ns vs tx)∧0=Uq (Z67 tk st S O M X Q) (Z30 n ns vs tx))))))))=_).mp ?_
 delta Z25 Z30 Z47 Z48 Z51 Z67 Z98 U8 Yj K7 J0 Jc1 Juo Jio Jin Jim Jil Jik Jij Jdw Juk K35 K3w K3s K3o K3k K3h Br Bd T2 Tw Sf Ln Gt B0 Lb Jr Jl
 intro hr hu hm hc _
 obtain⟨hn,hv,nS,nO,nX,nQ,hx⟩:=J0k hr hc
 simp only[Js,List.length_cons,List.length_nil] at hn hv nS nO nX nQ hx
 have cE:ckS (tk,st,S,O,M,X,Q) (n,Jr,ns,vs,tx)=Jbt X Q ns vs:=by simp only[ckS,Js]
 have sE:Jd (tk,st,S,O,M,X,Q) (n,Jr,ns,vs,tx)=(vs.getD 0 0,(Jad (tk,st,S,O,M,X,Q) (n,Jr,ns,vs,tx)).2):=by simp only[Jd,doS,Js]
 have hF:(Ju (tk,st,S,O,M,X,Q) Jr ns !=0)=false→(0≤Jw X (ns.getD 0 Jb)∧Jw X (ns.getD 0 Jb)<X.length):=fun a=>by
  have z:=fcN a
  rw[Js] at z
  obtain⟨k0,z⟩:=Jj z
  exact⟨J0l (k0 rfl),Up⟩
 have hP:(Ju (tk,st,S,O,M,X,Q) Jr ns !=0)=false→decide ((0:Int)<((Zo Q).filter fun p=>p.2.1.toList==(Y0 X (ns.getD 0 Jb)).1.toList).length)=Yp Q (ns.getD 0 Jb):=fun a=>by rw[Jlz (hF a).1];rfl
 simp only[List.nil_append,rcb,rcS,rcO,rcX,rcQ,Prod.eta]
 repeat' first|exact lfT ‹_›|exact lfN ‹_› ‹_›|exact lfA ‹_› ‹_› (cE.trans (by have hp:=hP ‹_›;clear cE sE hF hP hx hc;simp only[Jbt,Jf,H1,List.nil_append, *,cond_true,cond_false,reduceIte,decide_true,decide_false,Bool.not_true,Bool.not_false,Int.reduceEq,Int.reduceNe,ne_eq,not_false_eq_true,not_true_eq_false];first|done|rfl|decide)) (by first|exact .inl ⟨by decide,rfl⟩|exact .inl ⟨bne_iff_ne.mp ‹_›,rfl⟩|exact .inr ⟨rfl,sE.trans (by first|rfl|simp only[Jad,List.nil_append]|simp only[Jad,Za (hF ‹_›).1])⟩)|apply And.intro|intro _
 all_goals first|omega|trivial|assumption|exact hP ‹_›|(have:=hF ‹_›;omega)
theorem Jk4:wpFG Tryz.prog Jub.g Dg (Zf (none)) (Sx.look ([(225,Tryz.f225),(226,Tryz.f226),(227,Tryz.f227)]:List (Nat×Func))) Tryz.f132 Df ((tk,st,S,O,M,X,Q),(n,Kb,ns,vs,tx),()):=by
 refine(by kernel_rfl:(J0 tk st S O M X Q→Jb9 X→Z51 M→Jc (Z17 n ns vs tx)=0→Lb Kb Jl=false→K7 vs∧Br (Jio vs tk) (Sf true (Z67 tk st S O M X Q=Xa (Z67 tk st S O M X Q) (Z17 n ns vs tx)∧22=Uq (Z67 tk st S O M X Q) (Z17 n ns vs tx))) ((J0 tk st S O M X Q∧Sf true (Jr5 ns))∧Br (Ju (Z67 tk st S O M X Q) Kb ns !=0) (Sf true (Z67 tk st S O M X Q=Xa (Z67 tk st S O M X Q) (Z17 n ns vs tx)∧Ju (Z67 tk st S O M X Q) Kb ns=Uq (Z67 tk st S O M X Q) (Z17 n ns vs tx))) (Jim S∧Jij O∧Jin M∧Jik X∧Jil Q∧T2 (Jem ns) (Z48 X∧T2 (Bd (Jw X (Lv ns)) (Ln ([]++X))) (K7 vs))∧Br (!Kv (E2 (Gt ([]++X) (Jw X (Lv ns)) Jc1).2.2.1) (Z98 vs)) (K7 vs∧Sf true (Jdw vs st S O M X Q=Xa (Z67 tk st S O M X Q) (Z17 n ns vs tx)∧22=Uq (Z67 tk st S O M X Q) (Z17 n ns vs tx))) (Br (decide (16≤Ln ([]++Q))) (K7 vs∧Sf true (Jdw vs st S O M X Q=Xa (Z67 tk st S O M X Q) (Z17 n ns vs tx)∧5=Uq (Z67 tk st S O M X Q) (Z17 n ns vs tx))) (Koi ns Q∧K7 vs∧Sf true ((Z98 vs,st,S,O,M,Kpm X Q ns)=Xa (Z67 tk st S O M X Q) (Z17 n ns vs tx)∧0=Uq (Z67 tk st S O M X Q) (Z17 n ns vs tx)))))))=_).mp ?_
 delta Z17 Z25 Z48 Z51 Z67 Z98 Lv U8 Jem Yj K7 Jr5 J0 Jc1 Jio Jin Jim Jil Jik Jij Jdw Kpm Koi Br Bd T2 Tw Sf Ln Gt B0 Lb E2 Kb Jl
 intro hr hu hm hc _
 obtain⟨hn,hv,nS,nO,nX,nQ,hx⟩:=J0k hr hc
 simp only[J5,List.length_cons,List.length_nil] at hn hv nS nO nX nQ hx
 have cE:ckS (tk,st,S,O,M,X,Q) (n,Kb,ns,vs,tx)=Jbu X Q ns vs:=by simp only[ckS,J5]
 have sE:Jd (tk,st,S,O,M,X,Q) (n,Kb,ns,vs,tx)=(vs.getD 0 0,(Jaf (tk,st,S,O,M,X,Q) (n,Kb,ns,vs,tx)).2):=by simp only[Jd,doS,J5]
 have hF:(Ju (tk,st,S,O,M,X,Q) Kb ns !=0)=false→(0≤Jw X (ns.getD 1 Jb)∧Jw X (ns.getD 1 Jb)<X.length):=fun a=>by
  have z:=fcN a
  rw[J5] at z
  obtain⟨k0,z⟩:=Jj z
  obtain⟨k1,z⟩:=Jj z
  exact⟨J0l (k1 rfl),Up⟩
 simp only[List.nil_append,rcb,rcS,rcO,rcX,rcQ,Prod.eta]
 repeat' first|exact lfT ‹_›|exact lfN ‹_› ‹_›|exact lfA ‹_› ‹_› (cE.trans (by clear cE sE hF hx hc;simp only[Jbu,Jf,H1,List.nil_append, *,cond_true,cond_false,reduceIte,decide_true,decide_false,Bool.not_true,Bool.not_false,Int.reduceEq,Int.reduceNe,ne_eq,not_false_eq_true,not_true_eq_false];first|done|rfl|decide)) (by first|exact .inl ⟨by decide,rfl⟩|exact .inl ⟨bne_iff_ne.mp ‹_›,rfl⟩|exact .inr ⟨rfl,sE.trans (by first|rfl|simp only[Jaf,List.nil_append]|simp only[Jaf,Za (hF ‹_›).1])⟩)|apply And.intro|intro _
 all_goals first|omega|trivial|assumption|(have:=hF ‹_›;omega)
def K5u (a:List Per) (b:Ls):=Tw (Bd (Jtz a b) (Ln ([]++a)))
def K5i (a:List Per) (b:Ls):=Gt ([]++a) (Jtz a b) (B0,B0,false)
def K5h (a:List Per) (b:Ls):=(K5i a b).2
theorem Jk3:wpFG Tryz.prog Jub.g Dg (Zf (none)) (Sx.look ([(225,Tryz.f225),(226,Tryz.f226),(227,Tryz.f227)]:List (Nat×Func))) Tryz.f132 Df ((tk,st,S,O,M,X,Q),(n,Ka,ns,vs,tx),()):=by
 refine(by kernel_rfl:(J0 tk st S O M X Q→Jb9 X→Z51 M→Jc (Z18 n ns vs tx)=0→Lb Ka Jl=false→K7 vs∧Br (Jio vs tk) (Sf true (Z67 tk st S O M X Q=Xa (Z67 tk st S O M X Q) (Z18 n ns vs tx)∧22=Uq (Z67 tk st S O M X Q) (Z18 n ns vs tx))) (Juk tk st S O M X Q ns∧Br (Ju (Z67 tk st S O M X Q) Ka ns !=0) (Sf true (Z67 tk st S O M X Q=Xa (Z67 tk st S O M X Q) (Z18 n ns vs tx)∧Ju (Z67 tk st S O M X Q) Ka ns=Uq (Z67 tk st S O M X Q) (Z18 n ns vs tx))) (Jim S∧Jij O∧Jin M∧Jik X∧Jil Q∧T2 (Yj ns) (Z47 Q)∧K5u Q ns∧Br (!(K5h Q ns).2) (K7 vs∧Sf true (Jdw vs st S O M X Q=Xa (Z67 tk st S O M X Q) (Z18 n ns vs tx)∧23=Uq (Z67 tk st S O M X Q) (Z18 n ns vs tx))) (K5u Q ns∧K7 vs∧Sf true ((Z98 vs,st,S,O,M,X,List.set ([]++Q) (Int.toNat (Jtz Q ns)) ((K5i Q ns).1,(K5h Q ns).1,false))=Xa (Z67 tk st S O M X Q) (Z18 n ns vs tx)∧0=Uq (Z67 tk st S O M X Q) (Z18 n ns vs tx))))))=_).mp ?_
 delta Z18 Z25 Z47 Z51 Z67 Z98 U8 Yj K7 J0 Jtz Jio Jin Jim Jil Jik Jij Jdw K5u K5i K5h Juk Br Bd T2 Tw Sf Ln Gt B0 Lb Ka Jl
 intro hr hu hm hc _
 obtain⟨hn,hv,nS,nO,nX,nQ,hx⟩:=J0k hr hc
 simp only[J4,List.length_cons,List.length_nil] at hn hv nS nO nX nQ hx
 have cE:ckS (tk,st,S,O,M,X,Q) (n,Ka,ns,vs,tx)=Jmu Q ns:=by simp only[ckS,J4]
 have sE:Jd (tk,st,S,O,M,X,Q) (n,Ka,ns,vs,tx)=(vs.getD 0 0,(Jhc (tk,st,S,O,M,X,Q) (n,Ka,ns,vs,tx)).2):=by simp only[Jd,doS,J4]
 have hF:(Ju (tk,st,S,O,M,X,Q) Ka ns !=0)=false→(0≤Uj Q (ns.getD 0 Jb)∧Uj Q (ns.getD 0 Jb)<Q.length):=fun a=>by
  have z:=fcN a
  rw[J4] at z
  obtain⟨k0,z⟩:=Jj z
  exact⟨Kgl (k0 rfl),Ux⟩
 simp only[List.nil_append,rcb,rcS,rcO,rcX,rcQ,Prod.eta]
 repeat' first|exact lfT ‹_›|exact lfN ‹_› ‹_›|exact lfA ‹_› ‹_› (cE.trans (by clear cE sE hF hx hc;simp only[Jmu,H1,List.nil_append, *,cond_true,cond_false,reduceIte,decide_true,decide_false,Bool.not_true,Bool.not_false,Int.reduceEq,Int.reduceNe,ne_eq,not_false_eq_true,not_true_eq_false];first|done|rfl|decide)) (by first|exact .inl ⟨by decide,rfl⟩|exact .inl ⟨bne_iff_ne.mp ‹_›,rfl⟩|exact .inr ⟨rfl,sE.trans (by first|rfl|simp only[Jhc,List.nil_append]|simp only[Jhc,Za (hF ‹_›).1])⟩)|apply And.intro|intro _
 all_goals first|omega|trivial|assumption|(have:=hF ‹_›;omega)
abbrev Jgf (tk st:Int) (S:List Sta) (O:List Ord) (M:List Met) (X:List Out) (Q:List Per) (n:Int) (ns:List ByteArray) (vs:List Int) (tx:ByteArray):Ann:={X:=Nat,σ:=fun k=>⟨30,[(2, .one (.ptr 25 0)),(3, .one (.ptr 26 0)),(4, .one (.ptr 27 0)),(6, .one (.sl 6)),(11, .one (.int .i64 k))],[(5, .imm 9 .str ns),(6, .imm 3 sI vs),(8, .box 67 [.int .i64 n, .str Jh, .sl 5, .sl 6, .str tx]),(9, .box 37 Jpt),(23, .box 37 [.int .i64 tk, .int .i64 st, .sl 14, .sl 16, .sl 18, .sl 20, .sl 22]),(24, .sus [(3, .one (.ptr 8 0)),(4, .one (.ptr 9 0)),(7, .one (.ptr 23 0))]),(25, .box 37 [.int .i64 tk, .int .i64 st, .sl 14, .sl 16, .sl 18, .sl 20, .sl 22]),(26, .box 67 [.int .i64 n, .str Jh, .sl 5, .sl 6, .str tx]),(27, .box 37 Jpt),(14, .imm 114 X5 S),(16, .imm 119 Ym O),(18, .imm 121 X9 M),(20, .imm 123 Yh X),(22, .imm 125 Y8 Q)]⟩,inv:=fun k=>k≤X.length∧(X.any fun x=>decide (x.2.2.1.2≤vs.getD 1 0)&&Yp Q x.1)=((X.drop k).any fun x=>decide (x.2.2.1.2≤vs.getD 1 0)&&Yp Q x.1),mu:=fun k=>X.length-k}
def Kk4 (a:List Out) (b:Nat):=(Jzg a b).2
def K39 (a:List Out) (b:Nat) (c:Li):=decide (Kk4 a b≤Zx c)
def K3i (a:List Out) (b:Nat) (c:Li):=K39 a b c=true
def Kmm (a:Nat) (b:List Out) (c:Li) (d:List Per):=a≤List.length b∧(List.any b fun(x:Out)=>decide (x.2.2.1.2≤Zx c)&&Yp d x.1)=List.any (List.drop a b) fun(x:Out)=>decide (x.2.2.1.2≤Zx c)&&Yp d x.1
def Ky6 (a:Li) (b:Int) (c:List Sta) (d:List Ord) (e:List Met) (f:List Out) (g:List Per) (h i:Int) (j:Ls) (k:Bt):=K7 a∧Sf true (Jdw a b c d e f g=Xa (Z67 h b c d e f g) (Z22 i j a k)∧32=Uq (Z67 h b c d e f g) (Z22 i j a k))
def Kc0 (a:Ls) (b:Li) (c:Int) (d:Bt) (e f:Int) (g:List Sta) (h:List Ord) (i:List Met) (j:List Out) (k:List Per):=Sf a (Sf b (Si c (Sf Jh (Sf d (Si 0 (Si 0 (Sf J7 (Sf J7 (Sf J7 (Sf J7 (Sf J7 (Si e (Si f (Si e (Si f (Si c (Sf Jh (Sf d (Si 0 (Si 0 (Sf J7 (Sf J7 (Sf J7 (Sf J7 (Sf J7 (Sf g (Sf h (Sf i (Sf j (k=k))))))))))))))))))))))))))))))
theorem Jk2:wpFG Tryz.prog Jub.g Dg (Zf (some (Jgf tk st S O M X Q n ns vs tx))) (Sx.look ([(225,Tryz.f225),(226,Tryz.f226),(227,Tryz.f227)]:List (Nat×Func))) Tryz.f132 Df ((tk,st,S,O,M,X,Q),(n,Jh,ns,vs,tx),()):=by
 refine(by kernel_rfl:(J0 tk st S O M X Q→Jb9 X→Z51 M→Jc (Z22 n ns vs tx)=0→Lb Jh Jl=false→K7 vs∧Br (Jio vs tk) (Sf true (Z67 tk st S O M X Q=Xa (Z67 tk st S O M X Q) (Z22 n ns vs tx)∧22=Uq (Z67 tk st S O M X Q) (Z22 n ns vs tx))) ((J0 tk st S O M X Q∧Sf true (List.length ns=0))∧Br (Ju (Z67 tk st S O M X Q) Jh ns !=0) (Sf true (Z67 tk st S O M X Q=Xa (Z67 tk st S O M X Q) (Z22 n ns vs tx)∧Ju (Z67 tk st S O M X Q) Jh ns=Uq (Z67 tk st S O M X Q) (Z22 n ns vs tx))) (Jim S∧Jij O∧Jin M∧Jik X∧Jil Q∧T2 (Z33 vs) (T2 (Klc vs st=false→Z33 vs) (Kpo vs st))∧Br (Kn4 vs st) (K7 vs∧Sf true (Jdw vs st S O M X Q=Xa (Z67 tk st S O M X Q) (Z22 n ns vs tx)∧14=Uq (Z67 tk st S O M X Q) (Z22 n ns vs tx))) (T2 (Z33 vs) (J0 tk st S O M X Q)∧Br (decide (0<Ln (K4 M (Zx vs) O))) (Ky6 vs st S O M X Q tk n ns tx) (∃(x:Nat),(0=Nc x∧Kc0 ns vs n tx tk st S O M X Q)∧Kmm x X vs Q∧∀(x:Nat),Kmm x X vs Q→Br (Jnd x X) (T2 (Bd (Nc x) (Ln X)) (T2 (Z33 vs) (T2 (K3i X x vs→Bd (Nc x) (Ln X)) (K3i X x vs→Z47 Q)))∧Br (bif K39 X x vs then Yp Q (Jtv X x) else false) (Ky6 vs st S O M X Q tk n ns tx) (Z21 x∧∃(y:Nat),(V4 x y∧Kc0 ns vs n tx tk st S O M X Q)∧Kmm y X vs Q∧Jum X y x)) (Z96 vs∧K7 vs∧Sf true ((Z98 vs,Zx vs,S,O,M,X,Q)=Xa (Z67 tk st S O M X Q) (Z22 n ns vs tx)∧0=Uq (Z67 tk st S O M X Q) (Z22 n ns vs tx))))))))=_).mp ?_
 delta Z21 Z22 Z25 Z33 Z47 Z51 Z67 Z96 Z98 V4 Zx Jnd K7 J0 J7 Jc1 Jio Klc Jum Jin Jim Jil Jik Jij Jdw Jtv J0x Jzg Kk4 Kpo K39 K3i Kn4 Kmm Ky6 Kc0 Br Iw Bd T2 Tw Sf Si Ln Nc B0 Lb Jh Jl
 intro hr hu hm hc _
 obtain⟨hn,hv,nS,nO,nX,nQ,hx⟩:=J0k hr hc
 simp only[K6,List.length_cons,List.length_nil] at hn hv nS nO nX nQ hx
 have cE:ckS (tk,st,S,O,M,X,Q) (n,Jh,ns,vs,tx)=De st O M X Q vs:=by simp only[ckS,K6]
 have sE:Jd (tk,st,S,O,M,X,Q) (n,Jh,ns,vs,tx)=(vs.getD 0 0,(Jbn (tk,st,S,O,M,X,Q) (n,Jh,ns,vs,tx)).2):=by simp only[Jd,doS,K6]
 have lE:=J74 (Q:=Q) (u:=vs.getD 1 0) hu hr.per
 have v1:=hx 1 (by omega)
 simp only[List.nil_append,rcb,rcS,rcO,rcX,rcQ,Prod.eta]
 repeat' first|exact lfT ‹_›|exact lfN ‹_› ‹_›|exact lfA ‹_› ‹_› (cE.trans (by clear cE sE hx hc;simp only[De,Bool.true_or,Bool.false_or,H1,List.nil_append, *,cond_true,cond_false,reduceIte,decide_true,decide_false,Bool.not_true,Bool.not_false,Int.reduceEq,Int.reduceNe,ne_eq,not_false_eq_true,not_true_eq_false];first|done|rfl|decide)) (by first|exact .inl ⟨by decide,rfl⟩|exact .inl ⟨bne_iff_ne.mp ‹_›,rfl⟩|exact .inr ⟨rfl,sE.trans (by first|rfl|simp only[Jbn,List.nil_append])⟩)|(refine⟨(0:Nat),by(repeat' first|exact rfl|exact⟨⟩|apply And.intro|omega|dsimp only;omega),⟨Nat.zero_le _,rfl⟩,fun(k:Nat) hk=>⟨fun h1=> ?_,fun h1=> ?_⟩⟩;obtain⟨k1,k2⟩:=hk;replace h1:=of_decide_eq_true h1;rw[Jn (d:=(Jb,Jb,(0,0),0)) (by omega),List.any_cons] at k2;rw[Ubo] at k2;rotate_left;obtain⟨k1,k2⟩:=hk;replace h1:=of_decide_eq_false h1;rw[List.drop_eq_nil_of_le (by omega),List.any_nil] at k2)|(refine⟨(k+1:Nat),by(repeat' first|exact rfl|exact⟨⟩|apply And.intro|omega|dsimp only;omega),⟨by omega, ?_⟩,by omega⟩;rw[k2,show(bif decide ((X.getD k (Jb,Jb,(0,0),0)).2.2.1.2≤vs.getD 1 0) then Yp Q (X.getD k (Jb,Jb,(0,0),0)).1 else false)=false from ‹_›];rfl)|apply And.intro|intro _
 all_goals first|omega|trivial|assumption
def Jue (k:ByteArray):Nat:=if k=Jp then 1 else if k=Kf then 2 else if k=Jh then 3 else 0
def Jyy (tk st:Int) (S:List Sta) (O:List Ord) (M:List Met) (X:List Out) (Q:List Per) (n:Int) (ns:List ByteArray) (vs:List Int) (tx:ByteArray):Nat→Option Ann
 |1=>some (Jgg tk st S O M X Q n ns vs tx)
 |2=>some (Jih tk st S O M X Q n ns vs tx)
 |3=>some (Jgf tk st S O M X Q n ns vs tx)
 |_=>none
def Jyz:ATup [Zc,aEv]→Option Ann
 |((tk,st,S,O,M,X,Q),(n,k,ns,vs,tx),())=>Jyy tk st S O M X Q n ns vs tx (Jue k)
theorem J1l {Γ:Gam} {ann:Nat→Option Ann} {annF:FuncId→Nat→Option Ann} {lib:FuncId→Option Func} {fn:Func} {c:Con} {x:ATup c.args} (hb:fn.body.isSome=true) (h:Us (c.pre x)→wpFG Tryz.prog Γ ann annF lib fn c x):wpFG Tryz.prog Γ ann annF lib fn c x:=by
 unfold wpFG at h⊢
 cases hc:fn.body with
 |none=>rw[hc] at hb;cases hb
 |some code=>
  rw[hc] at h
  exact Jbi h
theorem F4 {tk st:Int} {S:List Sta} {O:List Ord} {M:List Met} {X:List Out} {Q:List Per} {n:Int} {k:ByteArray} {ns:List ByteArray} {vs:List Int} {tx:ByteArray} {i:Nat} (h:Jue k=i):Jyz ((tk,st,S,O,M,X,Q),(n,k,ns,vs,tx),())=Jyy tk st S O M X Q n ns vs tx i:=by rw[←h];rfl
theorem Krz:∀x:ATup [Zc,aEv],wpFG Tryz.prog Jub.g Dg (Zf (Jyz x)) (Sx.look ([(225,Tryz.f225),(226,Tryz.f226),(227,Tryz.f227)]:List (Nat×Func))) Tryz.f132 Df x
 | ((tk, st, S, O, M, X, Q), (n, k, ns, vs, tx), ()) => by
  refine J1l (by kernel_rfl) fun hp=> ?_
  have hc:Jc (n,k,ns,vs,tx)=0:=hp.2.2.2.1
  rcases Uo (Ko hc).kind with h|h|h|h|h|h|h|h|h|h|h<;>dsimp only at h<;>subst h
  ·have h4:(Jl.toList==Jl.toList)=false:=hp.2.2.2.2
   rw[show(Jl.toList==Jl.toList)=true from by kernel_rfl] at h4
   cases h4
  ·rw[F4 (show Jue Jv=0 from by kernel_rfl)];exact Jit tk st S O M X Q n ns vs tx
  ·rw[F4 (show Jue Uc=0 from by kernel_rfl)];exact Jni tk st S O M X Q n ns vs tx
  ·rw[F4 (show Jue Kf=2 from by kernel_rfl)];exact Jnj tk st S O M X Q n ns vs tx
  ·rw[F4 (show Jue K2=0 from by kernel_rfl)];exact Jnk tk st S O M X Q n ns vs tx
  ·rw[F4 (show Jue Vj=0 from by kernel_rfl)];exact Jsc tk st S O M X Q n ns vs tx
  ·rw[F4 (show Jue Jp=1 from by kernel_rfl)];exact Jk5 tk st S O M X Q n ns vs tx
  ·rw[F4 (show Jue Jr=0 from by kernel_rfl)];exact Jiu tk st S O M X Q n ns vs tx
  ·rw[F4 (show Jue Kb=0 from by kernel_rfl)];exact Jk4 tk st S O M X Q n ns vs tx
  ·rw[F4 (show Jue Ka=0 from by kernel_rfl)];exact Jk3 tk st S O M X Q n ns vs tx
  ·rw[F4 (show Jue Jh=3 from by kernel_rfl)];exact Jk2 tk st S O M X Q n ns vs tx
theorem Ku3:Ok Tryz.prog 132 Df:=Jfb mixed Jub.ok (by kernel_rfl) (by kernel_rfl) (U0 (l:=([(225,Tryz.f225),(226,Tryz.f226),(227,Tryz.f227)]:List (Nat×Func))) (List.forall_mem_cons.2 ⟨by kernel_rfl,List.forall_mem_cons.2 ⟨by kernel_rfl,List.forall_mem_cons.2 ⟨by kernel_rfl,by simp⟩⟩⟩)) (fun _=>Dg) (fun xx=>Zf (Jyz xx)) fun xx=>Krz xx
abbrev K68:=Jub.add Ku3
theorem Jpg {h:Kh} {e:Ev} (h1:e.1=(h.1.length:Int)+1) (h2:(e.2.1.toList==Jl.toList)=false):Lt h e=Uq (J8 h.2.2) e:=by
 unfold Lt Uq Ju
 rw[bne_eq_false_iff_eq.2 h1,h2]
 dsimp only[cond_false]
 cases h3:decide (e.2.2.2.1.getD 0 0<(J8 h.2.2).1) with
 |true=>rw[if_pos rfl];rfl
 | false =>
  rw[if_neg (by simp)]
  cases h4:J6 (J8 h.2.2) e.2.2.1 (Jk e.2.1).1 0 with
  |true=>rw[if_pos (by simp)];rfl
  |false=>
   cases h5:Kl (J8 h.2.2) e.2.2.1 (Jk e.2.1).1 0 with
   |true=>rw[if_pos (by simp)];rfl
   |false=>rw[if_neg (by simp)];rfl
theorem J3u {r:Reg} {e:Ev} (h:Uq r e=0):Xa r e=Jd r e:=by
 unfold Uq at h
 unfold Xa
 by_cases a:decide (e.2.2.2.1.getD 0 0<r.1)=true
 ·rw[if_pos a] at h;exact absurd h (by decide)
 rw[if_neg a] at h⊢
 by_cases b:Ju r e.2.1 e.2.2.1≠0
 ·rw[if_pos b] at h;exact absurd h b
 rw[if_neg b] at h⊢
 rw[if_neg (by rw[h];simp)]
def Jm8 (h:Kh):Prop:=∀r∈h.2.2,Jb9 r.2.2.2.2.2.1
theorem Jjr {h:Kh} (hu:Jm8 h):Jb9 (J8 h.2.2).2.2.2.2.2.1:=by
 unfold J8
 by_cases h0:0<h.2.2.length
 ·exact hu _ (Je (by omega))
 ·have:h.2.2=[]:=List.eq_nil_of_length_eq_zero (by omega)
  rw[this];exact List.nodup_nil
theorem J1p {r:Reg} {e:Ev} (hu:Jb9 r.2.2.2.2.2.1) (hk:Y2 e.2.1=true) (h1:J6 r e.2.2.1 (Jk e.2.1).1 0=false) (h2:Kl r e.2.2.1 (Jk e.2.1).1 0=false):Jb9 (Jd r e).2.2.2.2.2.1:=by
 obtain⟨tk,st,S,O,M,X,Q⟩:=r
 obtain⟨n,k,ns,vs,tx⟩:=e
 have hu:Jb9 X:=hu
 dsimp only at hk h1 h2
 rcases Uo hk with h|h|h|h|h|h|h|h|h|h|h<;>subst h
 ·simp only[Jd,doS,D3];exact hu
 ·simp only[Jd,doS,Kc];exact hu
 ·simp only[Jd,doS,K8];exact hu
 ·simp only[Jd,doS,Kp];exact hu
 ·simp only[Jd,doS,Kq];exact hu
 ·simp only[Jd,doS,Uf];exact hu
 ·rw[Jy] at h2
  unfold Kl at h2
  have h3:Vt (tk,st,S,O,M,X,Q) 2 (ns.getD 0 Jb)=false:=by
   cases q:Vt (tk,st,S,O,M,X,Q) 2 (ns.getD 0 Jb) with
   |false=>rfl
   |true=>rw[q] at h2;cases h2
  rw[Jcr] at h3
  have h3:=of_decide_eq_false h3
  simp only[Jd,doS,Jy]
  exact Jsj hu (by dsimp only at h3⊢;omega)
 ·rw[Js] at h1
  have h3:=J0l ((Jj h1).1 rfl)
  simp only[Jd,doS,Js]
  exact J64 hu h3
 ·simp only[Jd,doS,J5];exact hu
 ·simp only[Jd,doS,J4];exact hu
 ·simp only[Jd,doS,K6];exact hu
theorem Jy7 {h:Kh} {e:Ev} (hk:(e.2.1.toList==Jl.toList)=false) (ha:Lt h e=0):J6 (J8 h.2.2) e.2.2.1 (Jk e.2.1).1 0=false∧Kl (J8 h.2.2) e.2.2.1 (Jk e.2.1).1 0=false:=by
 obtain⟨n,k,ns,vs,tx⟩:=e
 have:=Fd ((Y5 (h:=h) (n:=n) (k:=k) (ns:=ns) (vs:=vs) (tx:=tx) hk).symm.trans ha)
 exact⟨this.2.2.1,this.2.2.2.1⟩
theorem Jpf {h:Kh} {e:Ev} (hu:Jm8 h) (ha:Kx h e=0):Jm8 (X1 h e):=by
 obtain⟨hc,hacc⟩:=add_zero ha
 intro r hr
 unfold X1 at hr
 cases hk:e.2.1.toList==Jl.toList with
 |true=>
  rw[hk,cond_true] at hr
  exact hu r (List.mem_of_mem_take hr)
 | false =>
  rw[hk,cond_false] at hr
  rcases V3 hr with hr|hr
  ·exact hu r hr
  ·subst hr
   have:=Jy7 hk hacc
   exact J1p (Jjr hu) (Ko hc).kind this.1 this.2
def Jq1 (l:List Ev):List Ev:=if(Ja l).2.2=0 then(Ja l).1.2.1 else[]
def Ua0:Con:={args:=[.val false (.list 67 sEv)],ress:=[(false, .list 67 sEv),(true,Jhq),I,I],owns:=[],pre:=fun(l,_)=>[lOk l],spec:=fun(l,_)=>(Jq1 l,Jg l,(Ja l).2.1,(Ja l).2.2,())}
abbrev Kig (l:List Ev):Ann:={X:=Kh×Nat,σ:=fun(h,i)=>⟨4,[(0, .one (.sl 0)),(3, .one (.ptr 1 0)),(6, .one (.sl 2)),(7, .one (.sl 3)),(8, .one (.int .i64 i))],[(0, .imm 67 sEv l),(1, .box 37 Jpt),(2, .own 67 sEv h.2.1),(3, .own 37 Jhq (Xd::h.2.2))]⟩,inv:=fun(h,i)=>Yk h∧Jm8 h∧h.1.length=i∧i≤l.length∧l.length≤1000∧Xc h (l.drop i)=Ja l,mu:=fun(_,i)=>l.length-i}
theorem Jfr:Jm8 Vn:=fun _ h=>(by cases h)
theorem Uau {C:List Ev} {G:List Reg} (h:G.length=C.length):(Xd::G).getD C.length Xd=J8 G:=by
 unfold J8
 rw[←h]
 cases G with
 |nil=>rfl
 |cons a G=>rfl
theorem Kfz {h:Kh} {e:Ev} {l l':List Ev} {v:Int} (hr:Xc h (e::l')=Ja l) (ha:Kx h e=v) (hv:v≠0):[]=Jq1 l∧Xd=Jg l∧(h.1.length:Int)+1=(Ja l).2.1∧v=(Ja l).2.2:=by
 unfold Xc at hr
 rw[if_neg (by rw[ha];exact hv),ha] at hr
 refine⟨?_, ?_,by rw[←hr],by rw[←hr]⟩
 ·unfold Jq1;rw[←hr,if_neg (by exact hv)]
 ·unfold Jg;rw[←hr,if_neg (by exact hv)]
theorem Jvr {h:Kh} {e:Ev} {l l':List Ev} (hr:Xc h (e::l')=Ja l) (ha:Kx h e=0):Xc (X1 h e) l'=Ja l:=by
 unfold Xc at hr
 rwa[if_pos ha] at hr
theorem Kiv {E C:List Ev} {G:List Reg} {e:Ev} {k:Nat} (hk:E.length=k):Kx (E,C,G) e=bif (bif Jc e==0 then e.1 !=(k:Int)+1 else false) then 11 else bif (bif Jc e==0 then e.2.1.toList==Jl.toList else false) then(bif (C.length:Int)==0 then 12 else bif (C.getD (C.length-1) ev0).2.1.toList==Jh.toList then 21 else 0) else bif Jc e==0 then Uq (J8 G) e else Jc e:=by
 subst hk
 unfold Kx
 by_cases hc:Jc e=0
 ·rw[if_neg (by rw[hc];simp),hc,show((0:Int)==0)=true from rfl,cond_true,cond_true,cond_true]
  cases h1:e.1 !=(E.length:Int)+1 with
  |true=>unfold Lt;rw[h1];rfl
  |false=>
   cases h2:e.2.1.toList==Jl.toList with
   |true=>unfold Lt;rw[h1,h2];rfl
   |false=>rw[cond_false,cond_false];exact Jpg (h:=(E,C,G)) (bne_eq_false_iff_eq.1 h1) h2
 ·rw[if_pos hc,beq_false_of_ne hc,cond_false,cond_false,cond_false];rfl
def Z70 (a:Kh×Nat):=Ln a.1.2.1-1
def K5l (a:List Ev) (b:Kh×Nat):=Lb (J57 a b).1 Jl
def K5a:=[V0]
def K13 (a:Kh×Nat):=List.getD (Xd::a.1.2.2) (List.length a.1.2.1) V0
def K1z (a:Kh×Nat):=(K13 a).2
def K1x (a:Kh×Nat):=(K1z a).2
def K1v (a:Kh×Nat):=(0+List.length (Xd::a.1.2.2))*136≤140737488355328∧(List.length (Xd::a.1.2.2)+1)*136≤140737488355328
def K1u (a:Kh×Nat):=(K1x a).2
def Kn9 (a:Kh×Nat):=(K1u a).2
def K1p (a:Kh×Nat):=(Kn9 a).2
def K1e (a:Kh×Nat) (b:List Ev):=(0+List.length a.1.2.1)*88≤140737488355328∧T2 (Z27 a b) ((List.length a.1.2.1+1)*88≤140737488355328)
def K03 (a:(List Ev×List Ev×List Reg)×Nat) (b:List Ev):=Yk a.1∧Jm8 a.1∧J94 a b
def Kmr (a:(List Ev×List Ev×List Reg)×Nat) (b:List Ev) (c:Kh×Nat):=K03 a b∧List.length b-a.2<List.length b-c.2
def Ki0 (a:List Ev) (b:Kh×Nat):=Jc (Jui a b)
def Kiy (a:List Ev) (b:Kh×Nat):=Ki0 a b==0
def Kyh (a:List Ev) (b:Kh×Nat):=Kiy a b=true
def Kyf (a:Kh×Nat) (b:List Ev) (c:(List Ev×List Ev×List Reg)×Nat):=a.1.2.1++[Jui b a]=c.1.2.1
def Kx5 (a:List Ev) (b:Kh×Nat):=Kyh a b→Z27 b a
def Jzq (a:Kh×Nat):=((K13 a).1,(K1z a).1,(K1x a).1,(K1u a).1,(Kn9 a).1,E2 (K1p a))
def Kbq (a:Kh×Nat) (b:List Ev):=Xa (Jzq a) (Jui b a)
def Kbp (a:Kh×Nat) (b:List Ev):=Uq (Jzq a) (Jui b a)
def Kbo (a:Kh×Nat) (b:List Ev):=(Kbq a b).2
def Kbn (a:Kh×Nat) (b:List Ev):=(Kbo a b).2
def Kbm (a:Kh×Nat) (b:List Ev):=(Kbn a b).2
def Kbl (a:Kh×Nat) (b:List Ev):=(Kbm a b).2
def Jzn (a:Kh×Nat) (b:List Ev):=K1e a b∧K1v a∧Z34 a∧∃(y:(List Ev×List Ev×List Reg)×Nat),(Jr3 a y∧Sf b (Si 0 (Si 0 (Sf J7 (Sf J7 (Sf J7 (Sf J7 (Sf J7 (Kyf a b y∧Xd::(a.1.2.2++K5a)=Xd::y.1.2.2)))))))))∧Kmr y b a
def Jzk (a:Kh×Nat) (b:List Ev):=T2 (Bd (Ln a.1.2.1) (Ln (Xd::a.1.2.2))) (T2 (Z27 a b) (Jo (Jzq a)∧Jb9 (K1p a).1∧List.length (Kn9 a).1<10000∧Ki0 b a=0∧K5l b a=false))∧Br (Kbp a b !=0) (Z34 a∧[]=Jq1 b∧Jph b∧J6s a b∧Kbp a b=(Ja b).2.2) (K1e a b∧K1v a∧Z34 a∧∃(y:(List Ev×List Ev×List Reg)×Nat),(Jr3 a y∧Sf b (Si 0 (Si 0 (Sf J7 (Sf J7 (Sf J7 (Sf J7 (Sf J7 (Kyf a b y∧Xd::(a.1.2.2++[((Kbq a b).1,(Kbo a b).1,(Kbn a b).1,(Kbm a b).1,(Kbl a b).1,E2 (Kbl a b).2)])=Xd::y.1.2.2)))))))))∧Kmr y b a)
def Kaz (a:Kh×Nat) (b:List Ev):=Br (Ln a.1.2.1==0) (Br false (Jzk a b) (Br true (Z34 a∧[]=Jq1 b∧Jph b∧J6s a b∧12=(Ja b).2.2) (Jzn a b))) ((Iw (Z70 a)∧Tw (Bd (Z70 a) (Ln a.1.2.1)))∧Br (Lb (Gt a.1.2.1 (Z70 a) Fe).2.1 Jh) (Br false (Jzk a b) (Br true (Z34 a∧[]=Jq1 b∧Jph b∧J6s a b∧21=(Ja b).2.2) (Jzn a b))) ((Iw (Z70 a)∧(0≤Z70 a∧Z70 a≤Ln a.1.2.1)∧0≤Ln a.1.2.1∧Ln a.1.2.1≤Ln (Xd::a.1.2.2))∧Z34 a∧∃(y:(List Ev×List Ev×List Reg)×Nat),(Jr3 a y∧Sf b (Si 0 (Si 0 (Sf J7 (Sf J7 (Sf J7 (Sf J7 (Sf J7 (List.take (Int.toNat (Z70 a)) a.1.2.1=y.1.2.1∧List.take (List.length a.1.2.1) (Xd::a.1.2.2)=Xd::y.1.2.2)))))))))∧Kmr y b a))
theorem K9p:Ok Tryz.prog 82 Ua0:=okW K68 Tryz.f82 (fun xx=>Zg (Kig xx.1)) fun xx=>by
 obtain⟨(l:List Ev),_⟩:=xx
 refine(by kernel_rfl:(lOk l→Br (J1c l) ([]=Jq1 l∧Kng l) (∃(x:(List Ev×List Ev×List Reg)×Nat),(0=Nc x.2∧Sf l (Si 0 (Si 0 (Sf J7 (Sf J7 (Sf J7 (Sf J7 (Sf J7 (List.length x.1.2.1=0∧K5a=Xd::x.1.2.2)))))))))∧K03 x l∧∀(x:Kh×Nat),Yk x.1∧Jm8 x.1∧J93 x l→Br (J08 x l) (T2 (Z27 x l) (List.length (J0w l x).1≤1000000∧List.length (J0w l x).2.1≤1000000∧∀(s:ByteArray),s∈(J0w l x).1→ByteArray.size s≤1000000)∧T2 (Kx5 l x) (Kyh l x→Z34 x)∧Br (bif Kiy l x then(J58 l x).1 !=Nc x.2+1 else false) (Tw (false=true→Z27 x l)∧Br false (Kaz x l) (Br false (Jzk x l) (Br true (Z34 x∧[]=Jq1 l∧Jph l∧J6s x l∧11=(Ja l).2.2) (Jzn x l)))) (Tw (Kx5 l x)∧Br (bif Kiy l x then K5l l x else false) (Kaz x l) (Br (Kiy l x) (Jzk x l) (Br (Ki0 l x !=0) (Z34 x∧[]=Jq1 l∧Jph l∧J6s x l∧Ki0 l x=(Ja l).2.2) (Jzn x l))))) (Tw (Bd (Ln x.1.2.1) (Ln (Xd::x.1.2.2)))∧x.1.2.1=Jq1 l∧Jzq x=Jg l∧Kk7 l)))=_).mp ?_
 delta Z27 Z34 Z70 J1c J08 Jr3 J7 J6s Fe Kk7 J58 J57 J0w Dq V0 K5l K5a Jph K13 K1z K1x J94 J93 K1v K1u Kn9 K1p K1e Kng K03 Kmr Jui Ki0 Kiy Kyh Kyf Kx5 Jzq Kbq Kbp Kbo Kbn Kbm Kbl Jzn Jzk Kaz Br Iw Bd T2 Tw Sf Si Ln Nc Gt B0 Lb E2 Jh Jl
 intro hl
 have hbn:({data:={toList:=[]}}:ByteArray)=Jb:=rfl
 have hev:((0:Int),Jb,([]:List ByteArray),([]:List Int),Jb)=ev0:=rfl
 have hrg:((0:Int),(0:Int),([]:List Sta),([]:List Ord),([]:List Met),([]:List Out),([]:List Per))=Xd:=rfl
 have hun:({data:={toList:=[117,110,100,111]}}:ByteArray)=Jl:=rfl
 have hse:({data:={toList:=[115,101,116,116,108,101]}}:ByteArray)=Jh:=rfl
 simp only[hbn,hev,hrg,hun,hse,Prod.eta,Bool.false_eq_true,Bool.true_eq_false,false_implies,true_implies,true_and,and_true]
 refine⟨fun h=> ?_,fun h=>⟨(([],[],[]),(0:Nat)),by(repeat' first|exact rfl|exact⟨⟩|apply And.intro|omega|dsimp only;omega), ?_,fun(x:Kh×Nat) hk=> ?_⟩⟩
 ·have e:Ja l=(Vn,0,5):=by unfold Ja;rw[if_pos (by have:=of_decide_eq_true h;omega)]
  refine⟨?_, ?_,by rw[e],by rw[e]⟩
  ·unfold Jq1;rw[e];rfl
  ·unfold Jg;rw[e];rfl
 ·have hn:l.length≤1000:=by have:=of_decide_eq_false h;omega
  exact⟨Yv,Jfr,rfl,Nat.zero_le _,hn,by unfold Ja;rw[if_neg (by omega)];rfl⟩
 ·obtain⟨⟨E,C,G⟩,k⟩:=x
  obtain⟨hI,hU,hk1,hk2,hk3,hk4⟩:=hk
  dsimp only at hI hU hk1 hk2 hk3 hk4⊢
  have hG:G.length=C.length:=hI.ok.nG
  have hC:C.length≤E.length:=hI.ok.nC
  have hN:=Uau hG
  have hR:Jo (J8 G):=Db hI.ok
  have hUx:Jb9 (J8 G).2.2.2.2.2.1:=Jjr (h:=(E,C,G)) hU
  have hM:(J8 G).2.2.2.2.1.length≤E.length:=Jwp hI
  simp only[hN]
  refine⟨fun hlt=> ?_,fun hge=> ?_⟩
  ·have hlt:(k:Int)<l.length:=of_decide_eq_true hlt
   have hz:=hl.2 _ (Je (d:=ev0) (show k<l.length by omega))
   rw[Jn (d:=ev0) (by omega)] at hk4
   generalize l.getD k ev0=e at*
   have hA:=Kiv (C:=C) (G:=G) (e:=e) hk1
   have hT:((C.length:Int)-1).toNat=C.length-1:=by omega
   rw[hT]
   have hi64:(-9223372036854775808≤(k:Int)+1∧(k:Int)+1≤9223372036854775807):=⟨by omega,by omega⟩
   have hkk:(0≤(k:Int)∧(k:Int)<l.length):=⟨by omega,hlt⟩
   have no:∀v,Kx (E,C,G) e=v→v≠0→[]=Jq1 l∧Xd=Jg l∧(k:Int)+1=(Ja l).2.1∧v=(Ja l).2.2:=fun v p q=>by
    have:=Kfz hk4 p q
    dsimp only at this
    rwa[hk1] at this
   have len1:((Xd::G).length:Int)=G.length+1:=by simp
   have len2:(Xd::G).length=G.length+1:=by simp
   refine⟨⟨hkk,hkk,hz⟩,⟨fun _=>hkk,fun _=>hkk,fun _=>hi64⟩,fun a=>⟨hi64,no 11 (by rw[hA,a];rfl) (by decide)⟩,fun a=>⟨⟨fun _=>hkk,fun _=>hkk⟩,fun b=>⟨fun c=>⟨hi64,no 12 (by rw[hA,a,b,c];rfl) (by decide)⟩,fun c=> ?_⟩,fun b=>⟨fun c=> ?_,fun c=> ?_⟩⟩⟩
   ·have c0:(C.length:Int)≠0:=by simpa using c
    refine⟨⟨⟨by omega,by omega⟩,⟨by omega,by omega⟩,by omega,by omega⟩,fun d=>⟨hi64,no 21 (by rw[hA,a,b,c,d];rfl) (by decide)⟩,fun d=> ?_⟩
    have ha:Kx (E,C,G) e=0:=by rw[hA,a,b,c,d];rfl
    have hu:(e.2.1.toList==Jl.toList)=true:=by
     cases q:Jc e==0 with
     |true=>rw[q] at b;exact b
     |false=>rw[q] at b;cases b
    have eH:X1 (E,C,G) e=(E++[e],C.take (C.length-1),G.take (C.length-1)):=by unfold X1;rw[hu,cond_true]
    refine⟨⟨⟨by omega,by omega⟩,⟨by omega,by omega⟩,by omega,by omega⟩,hi64,(X1 (E,C,G) e,k+1),⟨by push_cast;rfl,by rw[eH], ?_⟩,⟨Jaj hI (by show E.length<1000;omega) ha,Jpf hU ha,by rw[Xm];show E.length+1=k+1;omega,by show k+1≤l.length;omega,hk3,Jvr hk4 ha⟩,by show l.length-(k+1)<_;omega⟩
    rw[eH]
    have q:C.length=(C.length-1)+1:=by omega
    show List.take C.length (Xd::G)=Xd::G.take (C.length-1)
    conv=>lhs;rw[q]
    rfl
   ·have c0:Jc e=0:=by simpa using c
    have hu:(e.2.1.toList==Jl.toList)=false:=by rw[c] at b;exact b
    have hA2:Kx (E,C,G) e=Uq (J8 G) e:=by rw[hA,a,b,c];rfl
    refine⟨⟨⟨by omega,by omega⟩,⟨by omega,by omega⟩,hkk,hkk,hR,hUx,Nat.lt_of_le_of_lt hM (by omega),c0,hu⟩,fun d=>⟨hi64,no _ hA2 (bne_iff_ne.1 d)⟩,fun d=> ?_⟩
    have d0:Uq (J8 G) e=0:=bne_eq_false_iff_eq.1 d
    have ha:=hA2.trans d0
    have eH:X1 (E,C,G) e=(E++[e],C++[e],G++[Jd (J8 G) e]):=by unfold X1;rw[hu,cond_false]
    refine⟨⟨by omega,hkk,hkk,by omega⟩,⟨by omega,by omega⟩,hi64,(X1 (E,C,G) e,k+1),⟨by push_cast;rfl,by rw[eH],by rw[eH,J3u d0]⟩,⟨Jaj hI (by show E.length<1000;omega) ha,Jpf hU ha,by rw[Xm];show E.length+1=k+1;omega,by show k+1≤l.length;omega,hk3,Jvr hk4 ha⟩,by show l.length-(k+1)<_;omega⟩
   ·have c0:Jc e≠0:=by simpa using c
    exact⟨fun d=>⟨hi64,no _ (by rw[hA,a,b,c];rfl) c0⟩,fun d=>absurd (bne_eq_false_iff_eq.1 d) c0⟩
  ·have hge:=of_decide_eq_false hge
   have:k=l.length:=by omega
   rw[this,List.drop_length,Xc] at hk4
   have eR:Jg l=J8 G:=by unfold Jg;rw[←hk4];rfl
   have eC:Jq1 l=C:=by unfold Jq1;rw[←hk4];rfl
   have len1:((Xd::G).length:Int)=G.length+1:=by simp
   exact⟨⟨⟨by omega,by omega⟩,by omega,by omega⟩,eC.symm,eR.symm,by rw[←hk4],by rw[←hk4]⟩
abbrev K67:=K68.add K9p
theorem Jvo {e:Ev} (h:X8 e=true):e.2.1.size≤40∧e.2.2.1.length≤6∧e.2.2.2.1.length≤8∧e.2.2.2.2.size≤200∧∀s∈e.2.2.1,s.size≤40:=by
 unfold X8 at h
 cases q:Jh8 e with
 |true=>rw[q] at h;cases h
 |false=>
  rw[q,cond_false] at h
  unfold Jh8 at q
  have q1:=bn1 q
  have q2:=bn1 q1.1
  have q3:=bn1 q2.1
  have a1:=of_decide_eq_false q1.2
  have a2:=of_decide_eq_false q2.2
  have a3:=of_decide_eq_false q3.2
  have a4:=of_decide_eq_false q3.1
  refine⟨by omega,by omega,by omega,by omega,fun s hs=> ?_⟩
  have:=List.all_eq_true.1 h s hs
  have:decide (40<(s.size:Int))=false:=by simpa using this
  have:=of_decide_eq_false this
  omega
theorem Jew {l:List Ev} {n:Int} (hn:n≤1000) (h:Xh l n=true):lOk l∧(l.length:Int)≤n:=by
 unfold Xh at h
 cases q:decide (n<(l.length:Int)) with
 |true=>rw[q] at h;cases h
 |false=>
  rw[q,cond_false] at h
  have q:=of_decide_eq_false q
  refine⟨⟨by omega,fun e he=> ?_⟩,by omega⟩
  have b:=Jvo (List.all_eq_true.1 h e he)
  exact⟨by omega,by omega,fun s hs=>by have:=b.2.2.2.2 s hs;omega⟩
def Kg6:Con:={args:=[.val false (.list 67 sEv)],ress:=[(true,Jhq),I,I],owns:=[],pre:=fun(l,_)=>[lOk l],spec:=fun(l,_)=>(Jg l,(Ja l).2.1,(Ja l).2.2,())}
theorem Uap:Ok Tryz.prog 17 Kg6:=okW K67 Tryz.f17 na fun xx=>by
 obtain⟨(l:List Ev),_⟩:=xx
 refine(by kernel_rfl:(lOk l→lOk l∧Jza l=Jg l∧Si (Ja l).2.1 ((Ja l).2.2=(Ja l).2.2))=_).mp ?_
 delta Jza Si E2
 intro hl
 exact⟨hl,rfl,rfl,rfl⟩
abbrev K66:=K67.add Uap
def J0p (l:List Ev) (n:Int):Bool:=bif Xh l n then(Ja l).2.2==0 else false
def Kw1:Con:={args:=[.val false (.list 67 sEv),aI],ress:=[Bo],owns:=[],pre:=fun(_,n,_)=>[n≤1000],spec:=fun(l,n,_)=>(J0p l n,())}
theorem Uaa:Ok Tryz.prog 53 Kw1:=okW K66 Tryz.f53 na fun xx=>by
 obtain⟨(l:List Ev),(n:Int),_⟩:=xx
 refine(by kernel_rfl:(n≤1000→n≤1000000∧Br (!Xh l n) (false=J0p l n) (lOk l∧((Ja l).2.2==0)=J0p l n))=_).mp ?_
 delta Br
 intro hn
 refine⟨by omega,fun h=> ?_,fun h=> ?_⟩
 ·have h:Xh l n=false:=by simpa using h
  unfold J0p;rw[h];rfl
 ·have h:Xh l n=true:=by simpa using h
  refine⟨(Jew hn h).1, ?_⟩
  unfold J0p;rw[h];rfl
abbrev Ubw:=K66.add Uaa
abbrev Ubv:=Ubw
abbrev Ubu:=Ubv
abbrev Ubt:=Ubu
abbrev Ubs:=Ubt
abbrev K65:=Ubs
abbrev Kw5 (tk st:Int) (S:List Sta) (O:List Ord) (M:List Met) (X:List Out) (Q:List Per):Nat→Option Ann:=fun id=>if id=0 then some {X:=Nat,σ:=fun k=>⟨9,[(1, .one (.ptr 5 0)),(2, .one (.ptr 6 0)),(3, .one (.ptr 7 0)),(20, .one (.sl 0)),(21, .one (.int .i64 S.length)),(22, .one (.int .i64 k))],[(0, .imm 127 X5 S),(1, .imm 130 Ym O),(2, .imm 155 X9 M),(3, .imm 188 Yh X),(4, .imm 235 Y8 Q),(5, .box 105 [.int .i64 tk, .int .i64 st, .sl 0, .sl 1, .sl 2, .sl 3, .sl 4]),(6, .box 37 Jpt),(7, .box 37 [.int .i64 tk, .int .i64 st, .sl 8, .val (.slice none 0 0), .val (.slice none 0 0), .val (.slice none 0 0), .val (.slice none 0 0)]),(8, .own 114 X5 (S.take k))]⟩,inv:=fun k=>k≤S.length,mu:=fun k=>S.length-k} else if id=2 then some {X:=Nat,σ:=fun k=>⟨10,[(1, .one (.ptr 5 0)),(2, .one (.ptr 6 0)),(3, .one (.ptr 7 0)),(34, .one (.sl 1)),(35, .one (.int .i64 O.length)),(36, .one (.int .i64 k))],[(0, .imm 127 X5 S),(1, .imm 130 Ym O),(2, .imm 155 X9 M),(3, .imm 188 Yh X),(4, .imm 235 Y8 Q),(5, .box 105 [.int .i64 tk, .int .i64 st, .sl 0, .sl 1, .sl 2, .sl 3, .sl 4]),(6, .box 37 Jpt),(7, .box 37 [.int .i64 tk, .int .i64 st, .sl 8, .sl 9, .val (.slice none 0 0), .val (.slice none 0 0), .val (.slice none 0 0)]),(8, .own 114 X5 S),(9, .own 119 Ym (O.take k))]⟩,inv:=fun k=>k≤O.length,mu:=fun k=>O.length-k} else if id=4 then some {X:=Nat,σ:=fun k=>⟨11,[(1, .one (.ptr 5 0)),(2, .one (.ptr 6 0)),(3, .one (.ptr 7 0)),(48, .one (.sl 2)),(49, .one (.int .i64 M.length)),(50, .one (.int .i64 k))],[(0, .imm 127 X5 S),(1, .imm 130 Ym O),(2, .imm 155 X9 M),(3, .imm 188 Yh X),(4, .imm 235 Y8 Q),(5, .box 105 [.int .i64 tk, .int .i64 st, .sl 0, .sl 1, .sl 2, .sl 3, .sl 4]),(6, .box 37 Jpt),(7, .box 37 [.int .i64 tk, .int .i64 st, .sl 8, .sl 9, .sl 10, .val (.slice none 0 0), .val (.slice none 0 0)]),(8, .own 114 X5 S),(9, .own 119 Ym O),(10, .own 121 X9 (M.take k))]⟩,inv:=fun k=>k≤M.length,mu:=fun k=>M.length-k} else if id=6 then some {X:=Nat,σ:=fun k=>⟨12,[(1, .one (.ptr 5 0)),(2, .one (.ptr 6 0)),(3, .one (.ptr 7 0)),(62, .one (.sl 3)),(63, .one (.int .i64 X.length)),(64, .one (.int .i64 k))],[(0, .imm 127 X5 S),(1, .imm 130 Ym O),(2, .imm 155 X9 M),(3, .imm 188 Yh X),(4, .imm 235 Y8 Q),(5, .box 105 [.int .i64 tk, .int .i64 st, .sl 0, .sl 1, .sl 2, .sl 3, .sl 4]),(6, .box 37 Jpt),(7, .box 37 [.int .i64 tk, .int .i64 st, .sl 8, .sl 9, .sl 10, .sl 11, .val (.slice none 0 0)]),(8, .own 114 X5 S),(9, .own 119 Ym O),(10, .own 121 X9 M),(11, .own 123 Yh (X.take k))]⟩,inv:=fun k=>k≤X.length,mu:=fun k=>X.length-k} else if id=8 then some {X:=Nat,σ:=fun k=>⟨13,[(1, .one (.ptr 5 0)),(2, .one (.ptr 6 0)),(3, .one (.ptr 7 0)),(76, .one (.sl 4)),(77, .one (.int .i64 Q.length)),(78, .one (.int .i64 k))],[(0, .imm 127 X5 S),(1, .imm 130 Ym O),(2, .imm 155 X9 M),(3, .imm 188 Yh X),(4, .imm 235 Y8 Q),(5, .box 105 [.int .i64 tk, .int .i64 st, .sl 0, .sl 1, .sl 2, .sl 3, .sl 4]),(6, .box 37 Jpt),(7, .box 37 [.int .i64 tk, .int .i64 st, .sl 8, .sl 9, .sl 10, .sl 11, .sl 12]),(8, .own 114 X5 S),(9, .own 119 Ym O),(10, .own 121 X9 M),(11, .own 123 Yh X),(12, .own 125 Y8 (Q.take k))]⟩,inv:=fun k=>k≤Q.length,mu:=fun k=>Q.length-k} else none
def Kv9:Con:={args:=[Jb6],ress:=[(true,Jhq)],owns:=[],pre:=fun((_,_,S,O,M,X,Q),_)=>[S.length≤1000000,O.length≤1000000,M.length≤1000000,X.length≤1000000,Q.length≤1000000],spec:=fun(r,_)=>(r,())}
theorem K97:Ok Tryz.prog 56 Kv9:=okW K65 Tryz.f56 (fun xx=>Kw5 xx.1.1 xx.1.2.1 xx.1.2.2.1 xx.1.2.2.2.1 xx.1.2.2.2.2.1 xx.1.2.2.2.2.2.1 xx.1.2.2.2.2.2.2) fun xx=>by
 obtain⟨⟨(tk:Int),(st:Int),(S:List Sta),(O:List Ord),(M:List Met),(X:List Out),(Q:List Per)⟩,_⟩:=xx
 refine(by kernel_rfl:(Z44 S→Z50 O→Z54 M→Z48 X→Z47 Q→∃(x:Nat),Si (Ln S) (0=Nc x∧Sf S (Sf O (Sf M (Sf X (Sf Q (Si tk (Si st (Si 0 (Si 0 (Sf J7 (Sf J7 (Sf J7 (Sf J7 (Sf J7 (Si tk (Si st (Sf J7 (Sf J7 (Sf J7 (Sf J7 (List.length (List.take x S)=0)))))))))))))))))))))∧x≤List.length S∧∀(x:Nat),x≤List.length S→Br (decide (Nc x<Ln S)) (Tw (Bd (Nc x) (Ln S))∧(List.length (List.take x S)+1)*32≤140737488355328∧Z21 x∧∃(y:Nat),Si (Ln S) (V4 x y∧Sf S (Sf O (Sf M (Sf X (Sf Q (Si tk (Si st (Si 0 (Si 0 (Sf J7 (Sf J7 (Sf J7 (Sf J7 (Sf J7 (Si tk (Si st (Sf J7 (Sf J7 (Sf J7 (Sf J7 (List.take x S++[Ko8 S x]=List.take y S)))))))))))))))))))))∧y≤List.length S∧J6m S y x) (∃(x_1:Nat),Si (Ln O) (0=Nc x_1∧Sf S (Sf O (Sf M (Sf X (Sf Q (Si tk (Si st (Si 0 (Si 0 (Sf J7 (Sf J7 (Sf J7 (Sf J7 (Sf J7 (Si tk (Si st (Sf J7 (Sf J7 (Sf J7 (List.take x S=S∧List.length (List.take x_1 O)=0))))))))))))))))))))∧x_1≤List.length O∧∀(x:Nat),x≤List.length O→Br (J1b x O) (Tw (Bd (Nc x) (Ln O))∧(List.length (List.take x O)+1)*88≤140737488355328∧Z21 x∧∃(y:Nat),Si (Ln O) (V4 x y∧Sf S (Sf O (Sf M (Sf X (Sf Q (Si tk (Si st (Si 0 (Si 0 (Sf J7 (Sf J7 (Sf J7 (Sf J7 (Sf J7 (Si tk (Si st (Sf J7 (Sf J7 (Sf J7 (Sf S (List.take x O++[Jz7 O x]=List.take y O)))))))))))))))))))))∧Ker y O x) (∃(x_2:Nat),Si (Ln M) (0=Nc x_2∧Sf S (Sf O (Sf M (Sf X (Sf Q (Si tk (Si st (Si 0 (Si 0 (Sf J7 (Sf J7 (Sf J7 (Sf J7 (Sf J7 (Si tk (Si st (Sf J7 (Sf J7 (Sf S (List.take x O=O∧List.length (List.take x_2 M)=0))))))))))))))))))))∧x_2≤List.length M∧∀(x:Nat),x≤List.length M→Br (decide (Nc x<Ln M)) (Tw (Bd (Nc x) (Ln M))∧(List.length (List.take x M)+1)*40≤140737488355328∧Z21 x∧∃(y:Nat),Si (Ln M) (V4 x y∧Sf S (Sf O (Sf M (Sf X (Sf Q (Si tk (Si st (Si 0 (Si 0 (Sf J7 (Sf J7 (Sf J7 (Sf J7 (Sf J7 (Si tk (Si st (Sf J7 (Sf J7 (Sf S (Sf O (List.take x M++[Kd0 M x]=List.take y M)))))))))))))))))))))∧y≤List.length M∧J6l M y x) (∃(x_3:Nat),Si (Ln X) (0=Nc x_3∧Sf S (Sf O (Sf M (Sf X (Sf Q (Si tk (Si st (Si 0 (Si 0 (Sf J7 (Sf J7 (Sf J7 (Sf J7 (Sf J7 (Si tk (Si st (Sf J7 (Sf S (Sf O (List.take x M=M∧List.length (List.take x_3 X)=0))))))))))))))))))))∧x_3≤List.length X∧∀(x:Nat),x≤List.length X→Br (Jnd x X) (Z84 x X∧(List.length (List.take x X)+1)*56≤140737488355328∧Z21 x∧∃(y:Nat),Si (Ln X) (V4 x y∧Sf S (Sf O (Sf M (Sf X (Sf Q (Si tk (Si st (Si 0 (Si 0 (Sf J7 (Sf J7 (Sf J7 (Sf J7 (Sf J7 (Si tk (Si st (Sf J7 (Sf S (Sf O (Sf M (List.take x X++Kmh X x=List.take y X)))))))))))))))))))))∧Jzb y X x) (∃(x_4:Nat),Si (Ln Q) (0=Nc x_4∧Sf S (Sf O (Sf M (Sf X (Sf Q (Si tk (Si st (Si 0 (Si 0 (Sf J7 (Sf J7 (Sf J7 (Sf J7 (Sf J7 (Si tk (Si st (Sf S (Sf O (Sf M (List.take x X=X∧List.length (List.take x_4 Q)=0))))))))))))))))))))∧x_4≤List.length Q∧∀(x:Nat),x≤List.length Q→Br (Z99 x Q) (Z86 x Q∧(List.length (List.take x Q)+1)*40≤140737488355328∧Z21 x∧∃(y:Nat),Si (Ln Q) (V4 x y∧Sf S (Sf O (Sf M (Sf X (Sf Q (Si tk (Si st (Si 0 (Si 0 (Sf J7 (Sf J7 (Sf J7 (Sf J7 (Sf J7 (Si tk (Si st (Sf S (Sf O (Sf M (Sf X (List.take x Q++Ko5 Q x=List.take y Q)))))))))))))))))))))∧J3z y Q x) ((tk,st,S,O,M,X,List.take x Q)=Z67 tk st S O M X Q))))))=_).mp ?_
 delta Z7 Z21 Z44 Z47 Z48 Z50 Z54 Z67 Z75 Z84 Z86 Z99 V4 J1b Jnd Jzi Jr4 J06 J7 Jc1 J6q J6p J6m Jzh Jum J6l Kaq J6d J6b J36 Jtv J0x J33 J31 Jzg Jdo Jzb Ker J3z Kac Kem J3y Kek Kaa Kej J99 Kei J98 J97 Keh J96 Ko8 Ko5 Kd0 J9z Kmh Jz7 Br Iw Bd Tw Sf Si Ln Nc B0 E2
 intro hS hO hM hX hQ
 refine⟨(0:Nat),by simp,Nat.zero_le _,fun(k:Nat) hk=>⟨fun h=> ?_,fun h=> ?_⟩⟩
 ·have hlt:k<S.length:=by simpa using h
  refine⟨⟨⟨by omega,by omega⟩,by omega,by omega⟩,by rw[List.length_take];omega,⟨by omega,by omega⟩,(k+1:Nat), ?_,by omega,by omega⟩
  repeat' first|exact rfl|apply And.intro|exact Ke (d:=(Jb,0,0)) hlt|(push_cast;rfl)
 rw[List.take_of_length_le (by have:¬k<S.length:=(by simpa using h);omega)]
 clear h hk k
 refine⟨(0:Nat),by simp,Nat.zero_le _,fun(k:Nat) hk=>⟨fun h=> ?_,fun h=> ?_⟩⟩
 ·have hlt:k<O.length:=by simpa using h
  refine⟨⟨⟨by omega,by omega⟩,by omega,by omega⟩,by rw[List.length_take];omega,⟨by omega,by omega⟩,(k+1:Nat), ?_,by omega,by omega⟩
  repeat' first|exact rfl|apply And.intro|exact Ke (d:=(Jb,Jb,Jb,(0,0),0,0,0)) hlt|(push_cast;rfl)
 rw[List.take_of_length_le (by have:¬k<O.length:=(by simpa using h);omega)]
 clear h hk k
 refine⟨(0:Nat),by simp,Nat.zero_le _,fun(k:Nat) hk=>⟨fun h=> ?_,fun h=> ?_⟩⟩
 ·have hlt:k<M.length:=by simpa using h
  refine⟨⟨⟨by omega,by omega⟩,by omega,by omega⟩,by rw[List.length_take];omega,⟨by omega,by omega⟩,(k+1:Nat), ?_,by omega,by omega⟩
  repeat' first|exact rfl|apply And.intro|exact Ke (d:=(Jb,0,0,0)) hlt|(push_cast;rfl)
 rw[List.take_of_length_le (by have:¬k<M.length:=(by simpa using h);omega)]
 clear h hk k
 refine⟨(0:Nat),by simp,Nat.zero_le _,fun(k:Nat) hk=>⟨fun h=> ?_,fun h=> ?_⟩⟩
 ·have hlt:k<X.length:=by simpa using h
  refine⟨⟨⟨by omega,by omega⟩,by omega,by omega⟩,by rw[List.length_take];omega,⟨by omega,by omega⟩,(k+1:Nat), ?_,by omega,by omega⟩
  repeat' first|exact rfl|apply And.intro|exact Ke (d:=(Jb,Jb,(0,0),0)) hlt|(push_cast;rfl)
 rw[List.take_of_length_le (by have:¬k<X.length:=(by simpa using h);omega)]
 clear h hk k
 refine⟨(0:Nat),by simp,Nat.zero_le _,fun(k:Nat) hk=>⟨fun h=> ?_,fun h=> ?_⟩⟩
 ·have hlt:k<Q.length:=by simpa using h
  refine⟨⟨⟨by omega,by omega⟩,by omega,by omega⟩,by rw[List.length_take];omega,⟨by omega,by omega⟩,(k+1:Nat), ?_,by omega,by omega⟩
  repeat' first|exact rfl|apply And.intro|exact Ke (d:=(Jb,Jb,false)) hlt|(push_cast;rfl)
 rw[List.take_of_length_le (by have:¬k<Q.length:=(by simpa using h);omega)]
abbrev K64:=K65.add K97
abbrev Kw4 (tk st:Int) (S:List Sta) (O:List Ord) (M:List Met) (X:List Out) (Q:List Per) (tk2 st2:Int) (S2:List Sta) (O2:List Ord) (M2:List Met) (X2:List Out) (Q2:List Per):Nat→Option Ann:=fun id=>if id=0 then some {X:=Nat,σ:=fun k=>⟨12,[(2, .one (.ptr 10 0)),(3, .one (.ptr 11 0)),(5, .one (.int .i64 k))],[(0, .imm 114 X5 S),(1, .imm 119 Ym O),(2, .imm 121 X9 M),(3, .imm 123 Yh X),(4, .imm 125 Y8 Q),(5, .imm 114 X5 S2),(6, .imm 119 Ym O2),(7, .imm 121 X9 M2),(8, .imm 123 Yh X2),(9, .imm 125 Y8 Q2),(10, .box 37 [.int .i64 tk, .int .i64 st, .sl 0, .sl 1, .sl 2, .sl 3, .sl 4]),(11, .box 37 [.int .i64 tk2, .int .i64 st2, .sl 5, .sl 6, .sl 7, .sl 8, .sl 9])]⟩,inv:=fun k=>k≤S.length,mu:=fun k=>S.length-k} else if id=2 then some {X:=Nat,σ:=fun k=>⟨12,[(2, .one (.ptr 10 0)),(3, .one (.ptr 11 0)),(6, .one (.int .i64 k))],[(0, .imm 114 X5 S),(1, .imm 119 Ym O),(2, .imm 121 X9 M),(3, .imm 123 Yh X),(4, .imm 125 Y8 Q),(5, .imm 114 X5 S2),(6, .imm 119 Ym O2),(7, .imm 121 X9 M2),(8, .imm 123 Yh X2),(9, .imm 125 Y8 Q2),(10, .box 37 [.int .i64 tk, .int .i64 st, .sl 0, .sl 1, .sl 2, .sl 3, .sl 4]),(11, .box 37 [.int .i64 tk2, .int .i64 st2, .sl 5, .sl 6, .sl 7, .sl 8, .sl 9])]⟩,inv:=fun k=>k≤O.length,mu:=fun k=>O.length-k} else if id=4 then some {X:=Nat,σ:=fun k=>⟨12,[(2, .one (.ptr 10 0)),(3, .one (.ptr 11 0)),(7, .one (.int .i64 k))],[(0, .imm 114 X5 S),(1, .imm 119 Ym O),(2, .imm 121 X9 M),(3, .imm 123 Yh X),(4, .imm 125 Y8 Q),(5, .imm 114 X5 S2),(6, .imm 119 Ym O2),(7, .imm 121 X9 M2),(8, .imm 123 Yh X2),(9, .imm 125 Y8 Q2),(10, .box 37 [.int .i64 tk, .int .i64 st, .sl 0, .sl 1, .sl 2, .sl 3, .sl 4]),(11, .box 37 [.int .i64 tk2, .int .i64 st2, .sl 5, .sl 6, .sl 7, .sl 8, .sl 9])]⟩,inv:=fun k=>k≤M.length,mu:=fun k=>M.length-k} else if id=6 then some {X:=Nat,σ:=fun k=>⟨12,[(2, .one (.ptr 10 0)),(3, .one (.ptr 11 0)),(8, .one (.int .i64 k))],[(0, .imm 114 X5 S),(1, .imm 119 Ym O),(2, .imm 121 X9 M),(3, .imm 123 Yh X),(4, .imm 125 Y8 Q),(5, .imm 114 X5 S2),(6, .imm 119 Ym O2),(7, .imm 121 X9 M2),(8, .imm 123 Yh X2),(9, .imm 125 Y8 Q2),(10, .box 37 [.int .i64 tk, .int .i64 st, .sl 0, .sl 1, .sl 2, .sl 3, .sl 4]),(11, .box 37 [.int .i64 tk2, .int .i64 st2, .sl 5, .sl 6, .sl 7, .sl 8, .sl 9])]⟩,inv:=fun k=>k≤X.length,mu:=fun k=>X.length-k} else if id=8 then some {X:=Nat,σ:=fun k=>⟨12,[(2, .one (.ptr 10 0)),(3, .one (.ptr 11 0)),(9, .one (.int .i64 k))],[(0, .imm 114 X5 S),(1, .imm 119 Ym O),(2, .imm 121 X9 M),(3, .imm 123 Yh X),(4, .imm 125 Y8 Q),(5, .imm 114 X5 S2),(6, .imm 119 Ym O2),(7, .imm 121 X9 M2),(8, .imm 123 Yh X2),(9, .imm 125 Y8 Q2),(10, .box 37 [.int .i64 tk, .int .i64 st, .sl 0, .sl 1, .sl 2, .sl 3, .sl 4]),(11, .box 37 [.int .i64 tk2, .int .i64 st2, .sl 5, .sl 6, .sl 7, .sl 8, .sl 9])]⟩,inv:=fun k=>k≤Q.length,mu:=fun k=>Q.length-k} else none
def Kg1:Con:={args:=[Zc,Zc],ress:=[Bo],owns:=[],pre:=fun(a,b,_)=>[a=b,a.2.2.1.length≤1000000,a.2.2.2.1.length≤1000000,a.2.2.2.2.1.length≤1000000,a.2.2.2.2.2.1.length≤1000000,a.2.2.2.2.2.2.length≤1000000],spec:=fun _=>(true,())}
def K49 (a:List Ord) (b:Nat):=(J98 a b).1
def K47 (a:List Ord) (b:Nat):=(J98 a b).2
def K42 (a:List Ord) (b:Nat):=(J97 a b).1
def K41 (a:List Ord) (b:Nat):=(J97 a b).2
def Kdw (a:Nat) (b:List Sta) (c:List Ord) (d:List Met) (e:List Out) (f:List Per) (g:List Sta) (h:List Ord) (i:List Met) (j:List Out) (k:List Per) (l m n o:Int):=0=Nc a∧Sf b (Sf c (Sf d (Sf e (Sf f (Sf g (Sf h (Sf i (Sf j (Sf k (Si l (Si m (Si n (o=o)))))))))))))
def Kdv (a b:Nat) (c:List Sta) (d:List Ord) (e:List Met) (f:List Out) (g:List Per) (h:List Sta) (i:List Ord) (j:List Met) (k:List Out) (l:List Per) (m n o p:Int):=V4 a b∧Sf c (Sf d (Sf e (Sf f (Sf g (Sf h (Sf i (Sf j (Sf k (Sf l (Si m (Si n (Si o (p=p)))))))))))))
theorem K98:Ok Tryz.prog 55 Kg1:=okW K64 Tryz.f55 (fun xx=>Kw4 xx.1.1 xx.1.2.1 xx.1.2.2.1 xx.1.2.2.2.1 xx.1.2.2.2.2.1 xx.1.2.2.2.2.2.1 xx.1.2.2.2.2.2.2 xx.2.1.1 xx.2.1.2.1 xx.2.1.2.2.1 xx.2.1.2.2.2.1 xx.2.1.2.2.2.2.1 xx.2.1.2.2.2.2.2.1 xx.2.1.2.2.2.2.2.2) fun xx=>by
 obtain⟨⟨(tk:Int),(st:Int),(S:List Sta),(O:List Ord),(M:List Met),(X:List Out),(Q:List Per)⟩,⟨(tk2:Int),(st2:Int),(S2:List Sta),(O2:List Ord),(M2:List Met),(X2:List Out),(Q2:List Per)⟩,_⟩:=xx
 refine(by kernel_rfl:(Z67 tk st S O M X Q=Z67 tk2 st2 S2 O2 M2 X2 Q2→Z44 S→Z50 O→Z54 M→Z48 X→Z47 Q→Br (bif bif bif bif bif bif tk !=tk2 then true else st !=st2 then true else Ln S !=Ln S2 then true else Ln O !=Ln O2 then true else Ln M !=Ln M2 then true else Ln X !=Ln X2 then true else Ln Q !=Ln Q2) (false=true) (∃(x:Nat),Kdw x S O M X Q S2 O2 M2 X2 Q2 tk st tk2 st2∧x≤List.length S∧∀(x:Nat),x≤List.length S→Br (decide (Nc x<Ln S)) (T2 (Bd (Nc x) (Ln S)) (Tw (Bd (Nc x) (Ln S2)))∧Br (!(Lb (J6q S x) (J6q S2 x)&&((J6p S x).1==(J6p S2 x).1&&((J6p S x).2==(J6p S2 x).2&&true)))) (false=true) (Z21 x∧∃(y:Nat),Kdv x y S O M X Q S2 O2 M2 X2 Q2 tk st tk2 st2∧y≤List.length S∧J6m S y x)) (∃(x:Nat),Kdw x S O M X Q S2 O2 M2 X2 Q2 tk st tk2 st2∧x≤List.length O∧∀(x:Nat),x≤List.length O→Br (J1b x O) (T2 (Bd (Nc x) (Ln O)) (Tw (Bd (Nc x) (Ln O2)))∧Br (!(Lb (J3y O x) (J3y O2 x)&&(Lb (Kaa O x) (Kaa O2 x)&&(Lb (J99 O x) (J99 O2 x)&&(K49 O x==K49 O2 x&&(K47 O x==K47 O2 x&&true)&&(J96 O x==J96 O2 x&&(K42 O x==K42 O2 x&&(K41 O x==K41 O2 x&&true)))))))) (false=true) (Z21 x∧∃(y:Nat),Kdv x y S O M X Q S2 O2 M2 X2 Q2 tk st tk2 st2∧Ker y O x)) (∃(x:Nat),Kdw x S O M X Q S2 O2 M2 X2 Q2 tk st tk2 st2∧x≤List.length M∧∀(x:Nat),x≤List.length M→Br (decide (Nc x<Ln M)) (T2 (Bd (Nc x) (Ln M)) (Tw (Bd (Nc x) (Ln M2)))∧Br (!(Lb (J6d M x) (J6d M2 x)&&(J6b M x==J6b M2 x&&((J36 M x).1==(J36 M2 x).1&&((J36 M x).2==(J36 M2 x).2&&true))))) (false=true) (Z21 x∧∃(y:Nat),Kdv x y S O M X Q S2 O2 M2 X2 Q2 tk st tk2 st2∧y≤List.length M∧J6l M y x)) (∃(x:Nat),Kdw x S O M X Q S2 O2 M2 X2 Q2 tk st tk2 st2∧x≤List.length X∧∀(x:Nat),x≤List.length X→Br (Jnd x X) (T2 (Bd (Nc x) (Ln X)) (Z84 x X2)∧Br (!(Lb (Jtv X x) (Jtv X2 x)&&(Lb (J33 X x) (J33 X2 x)&&((Jzg X x).1==(Jzg X2 x).1&&(Kk4 X x==Kk4 X2 x&&true)&&(J31 X x==J31 X2 x&&true))))) (false=true) (Z21 x∧∃(y:Nat),Kdv x y S O M X Q S2 O2 M2 X2 Q2 tk st tk2 st2∧Jzb y X x)) (∃(x:Nat),Kdw x S O M X Q S2 O2 M2 X2 Q2 tk st tk2 st2∧x≤List.length Q∧∀(x:Nat),x≤List.length Q→Br (Z99 x Q) (T2 (Bd (Nc x) (Ln Q)) (Z86 x Q2)∧Br (!(Lb (J06 Q x) (J06 Q2 x)&&(Lb (Kfn Q x) (Kfn Q2 x)&&((Jzi Q x).2==(Jzi Q2 x).2&&true)))) (false=true) (Z21 x∧∃(y:Nat),Kdv x y S O M X Q S2 O2 M2 X2 Q2 tk st tk2 st2∧J3z y Q x)) (true=true)))))))=_).mp ?_
 delta Z7 Z21 Z44 Z47 Z48 Z50 Z54 Z67 Z75 Z84 Z86 Z99 V4 J1b Jnd Jzi Jr4 J06 Kfn Jc1 J6q J6p J6m Jzh Jum J6l Kaq J6d J6b J36 Jtv J0x J33 J31 Jzg Kk4 Jdo Jzb Ker J3z Kac Kem J3y Kek Kaa Kej J99 Kei J98 K49 J97 K47 J96 K42 K41 Kdw Kdv Br Iw Bd T2 Tw Sf Si Ln Nc B0 Lb
 intro h hS hO hM hX hQ
 cases h
 refine⟨fun h=>absurd h (by simp),fun _=> ?_⟩
 refine⟨(0:Nat),by simp,Nat.zero_le _,fun(k:Nat) hk=>⟨fun h=> ?_,fun _=> ?_⟩⟩
 ·have h:k<S.length:=by simpa using h
  refine⟨?_,fun h2=>absurd h2 (by simp),fun _=>⟨?_,(k+1:Nat),by simp,by omega,by omega⟩⟩<;>(repeat' first|exact rfl|exact⟨⟩|apply And.intro|omega|dsimp only;omega)
 refine⟨(0:Nat),by simp,Nat.zero_le _,fun(k:Nat) hk=>⟨fun h=> ?_,fun _=> ?_⟩⟩
 ·have h:k<O.length:=by simpa using h
  refine⟨?_,fun h2=>absurd h2 (by simp),fun _=>⟨?_,(k+1:Nat),by simp,by omega,by omega⟩⟩<;>(repeat' first|exact rfl|exact⟨⟩|apply And.intro|omega|dsimp only;omega)
 refine⟨(0:Nat),by simp,Nat.zero_le _,fun(k:Nat) hk=>⟨fun h=> ?_,fun _=> ?_⟩⟩
 ·have h:k<M.length:=by simpa using h
  refine⟨?_,fun h2=>absurd h2 (by simp),fun _=>⟨?_,(k+1:Nat),by simp,by omega,by omega⟩⟩<;>(repeat' first|exact rfl|exact⟨⟩|apply And.intro|omega|dsimp only;omega)
 refine⟨(0:Nat),by simp,Nat.zero_le _,fun(k:Nat) hk=>⟨fun h=> ?_,fun _=> ?_⟩⟩
 ·have h:k<X.length:=by simpa using h
  refine⟨?_,fun h2=>absurd h2 (by simp),fun _=>⟨?_,(k+1:Nat),by simp,by omega,by omega⟩⟩<;>(repeat' first|exact rfl|exact⟨⟩|apply And.intro|omega|dsimp only;omega)
 refine⟨(0:Nat),by simp,Nat.zero_le _,fun(k:Nat) hk=>⟨fun h=> ?_,fun _=> ?_⟩⟩
 ·have h:k<Q.length:=by simpa using h
  refine⟨?_,fun h2=>absurd h2 (by simp),fun _=>⟨?_,(k+1:Nat),by simp,by omega,by omega⟩⟩<;>(repeat' first|exact rfl|exact⟨⟩|apply And.intro|omega|dsimp only;omega)
 rfl
abbrev K63:=K64.add K98
theorem Jhv {Pr:Kh→Prop} (h0:Pr Vn) (hs:∀h e,Yk h→h.1.length<1000→Pr h→Kx h e=0→Pr (X1 h e)) (l:List Ev):Pr (Ja l).1:=by
 have go:∀(l:List Ev) (h:Kh),Yk h→Pr h→h.1.length+l.length≤1000→Pr (Xc h l).1:=by
  intro l
  induction l with
  |nil=>intro h _ hp _;exact hp
  | cons e l ih =>
   intro h hi hp hl
   unfold Xc
   simp only[List.length_cons] at hl
   by_cases ha:Kx h e=0
   ·rw[if_pos ha]
    exact ih _ (Jaj hi (by omega) ha) (hs h e hi (by omega) hp ha) (by rw[Xm];omega)
   ·rw[if_neg ha];exact hp
 unfold Ja
 by_cases h:1000<l.length
 ·rw[if_pos h];exact h0
 ·rw[if_neg h];exact go l _ Yv h0 (by show 0+l.length≤1000;omega)
theorem Jp5 {l:List Ev}:Jm8 (Ja l).1:=Jhv Jfr (fun _ _ _ _ hp ha=>Jpf hp ha) l
def Jku (C:List Ev) (G:List Reg) (k:Nat):Prop:=Jc (C.getD k ev0)=0∧((C.getD k ev0).2.1.toList==Jl.toList)=false∧Uq (J8 (G.take k)) (C.getD k ev0)=0∧G.getD k Xd=Jd (J8 (G.take k)) (C.getD k ev0)
def Kdk (h:Kh):Prop:=∀k,k<h.2.2.length→Jku h.2.1 h.2.2 k
theorem Jsl {α:Type} {l:List α} {m k:Nat} (h:k≤m):(l.take m).take k=l.take k:=by rw[List.take_take,Nat.min_eq_left h]
theorem Kxj {h:Kh} {e:Ev} (hi:Yk h) (hC:Kdk h) (ha:Kx h e=0):Kdk (X1 h e):=by
 obtain⟨hc,hacc⟩:=add_zero ha
 have n3:=hi.ok.nG
 obtain⟨E,C,G⟩:=h
 dsimp only at n3
 cases hk:e.2.1.toList==Jl.toList with
 |true=>
  unfold X1
  rw[hk,cond_true]
  intro k h3
  simp only[List.length_take] at h3
  dsimp only
  have:=hC k (by dsimp only;omega)
  unfold Jku at this⊢
  rw[D4 (by omega),D4 (by omega),Jsl (by omega)]
  exact this
 | false =>
  have hE:e.1=(E.length:Int)+1:=by
   obtain⟨n,k,ns,vs,tx⟩:=e
   exact(Fd ((Y5 (h:=(E,C,G)) (n:=n) (k:=k) (ns:=ns) (vs:=vs) (tx:=tx) hk).symm.trans hacc)).1
  have hA:Uq (J8 G) e=0:=(Jpg (h:=(E,C,G)) hE hk).symm.trans hacc
  unfold X1
  rw[hk,cond_false]
  intro k h3
  simp only[List.length_append,List.length_singleton] at h3
  dsimp only
  unfold Jku
  by_cases hkn:k<G.length
  ·have:=hC k hkn
   unfold Jku at this
   rw[Jbl hkn,Jbl (by omega),List.take_append_of_le_length (by omega)]
   exact this
  ·have ek:k=G.length:=by omega
   rw[ek,Ll,List.take_left']
   ·rw[n3,Ll]
    exact⟨hc,hk,hA,rfl⟩
   ·rfl
theorem J12 {l:List Ev}:Kdk (Ja l).1:=Jhv (fun _ h=>(by cases h)) (fun _ _ hi _ hp ha=>Kxj hi hp ha) l
theorem Vm {e:Ev} {l:List Ev} {h:Kh}:Xc h (e::l)=if Kx h e=0 then Xc (X1 h e) l else(h,h.1.length+1,Kx h e):=rfl
theorem Jd7:∀{l m:List Ev} {h:Kh},(Xc h l).2.2=0→Xc h (l++m)=Xc (Xc h l).1 m
 |[],_,_,_=>rfl
 | e :: l, m, h, h0 => by
  rw[List.cons_append]
  by_cases ha:Kx h e=0
  ·simp only[Vm,if_pos ha] at h0⊢
   exact Jd7 h0
  ·rw[Vm,if_neg ha] at h0;exact absurd h0 ha
theorem Jn3 {l:List Ev} {e:Ev} (h:(Ja l).2.2=0) (hl:l.length<1000):(Ja (l++[e])).2.2=Kx (Ja l).1 e:=by
 have e1:Ja l=Xc Vn l:=by unfold Ja;rw[if_neg (by omega)]
 have e2:Ja (l++[e])=Xc Vn (l++[e]):=by unfold Ja;rw[if_neg (by rw[List.length_append,List.length_singleton];omega)]
 rw[e1] at h⊢
 rw[e2,Jd7 h,Vm]
 by_cases ha:Kx (Xc Vn l).1 e=0
 ·rw[if_pos ha];exact ha.symm
 ·rw[if_neg ha]
theorem J9v {l:List Ev} {e:Ev} (h:(Ja l).2.2=0) (hc:Jc e=0) (hl:l.length<1000):(Ja (l++[e])).2.2=Ja0 l e:=by
 have h0:Jii l e=0:=by
  unfold Jii
  rw[h,hc,decide_eq_false (by omega)]
  rfl
 rw[Jn3 h hl]
 unfold Ja0
 rw[if_pos h0]
 unfold Kx
 rw[if_neg (by rw[hc];simp)]
theorem Jj3 {l:List Ev} {e:Ev} (hl:lOk l) (hz:Fp e) (h:l.length<1000):lOk (l++[e]):=by
 refine⟨by rw[List.length_append,List.length_singleton];omega,fun x hx=> ?_⟩
 rcases V3 hx with hx|hx
 ·exact hl.2 x hx
 ·subst hx;exact hz
def Kh9:Con:={args:=[.val false (.list 67 sEv),aEv],ress:=[I],owns:=[],pre:=fun(l,e,_)=>[lOk l,Fp e],spec:=fun(l,e,_)=>(Ja0 l e,())}
def Kky (a:List Ev):=(Ja a).2.2 !=0
def Kys (a:List Ev) (b:Int) (c:Bt) (d:Ls) (e:Li) (f:Bt):=Br (decide (1000≤Ln a)) (5=Ja0 a (b,c,d,e,f)) (((0+List.length a)*88≤140737488355328∧Jb8 a∧lOk (Jpj a b c d e f))∧(Ja (Jpj a b c d e f)).2.2=Ja0 a (b,c,d,e,f))
theorem K95:Ok Tryz.prog 58 Kh9:=okW K63 Tryz.f58 na fun xx=>by
 obtain⟨(l:List Ev),⟨(n:Int),(k:ByteArray),(ns:List ByteArray),(vs:List Int),(tx:ByteArray)⟩,_⟩:=xx
 refine(by kernel_rfl:(lOk l→Fp (n,k,ns,vs,tx)→lOk l∧Br ((Ja l).2.2==0) (Jdm ns vs∧Br (Z66 n k ns vs tx !=0) (Z66 n k ns vs tx=Ja0 l (n,k,ns,vs,tx)) (Kys l n k ns vs tx)) (Br (Kky l) ((Ja l).2.2=Ja0 l (n,k,ns,vs,tx)) (Kys l n k ns vs tx)))=_).mp ?_
 delta Z57 Z66 Fu Jpj Jb8 Jgl Kky Jgk Jdm Kys Br Ln
 intro hl hz
 have no:∀v,Jii l (n,k,ns,vs,tx)=v→v≠0→v=Ja0 l (n,k,ns,vs,tx):=fun v h h2=>by
  unfold Ja0
  rw[if_neg (by rw[h];exact h2),h]
 refine⟨hl,fun h=>⟨hz,fun h2=> ?_,fun h2=>⟨fun h3=> ?_,fun h3=> ?_⟩⟩,fun h=>⟨fun h2=> ?_,fun h2=>absurd (bne_eq_false_iff_eq.1 h2) (by simpa using h)⟩⟩
 ·have h2:=bne_iff_ne.1 h2
  refine no _ ?_ h2
  unfold Jii
  rw[show(Ja l).2.2=0 by simpa using h,Jf,if_pos rfl,Jf,if_neg h2]
 ·refine no _ ?_ (by decide)
  unfold Jii
  rw[show(Ja l).2.2=0 by simpa using h,bne_eq_false_iff_eq.1 h2,h3]
  rfl
 ·have h3:=of_decide_eq_false h3
  exact⟨⟨by omega,by omega,Jj3 hl hz (by omega)⟩,J9v (by simpa using h) (bne_eq_false_iff_eq.1 h2) (by omega)⟩
 ·have h2:=bne_iff_ne.1 h2
  refine no _ ?_ h2
  unfold Jii
  rw[Jf,if_neg h2]
abbrev Ubr:=K63.add K95
theorem Jqc {G:List Reg} {k:Nat} (h:k<G.length):J8 (G.take (k+1))=G.getD k Xd:=by
 unfold J8
 have:(G.take (k+1)).length=k+1:=by rw[List.length_take];omega
 rw[this,Nat.add_sub_cancel,D4 (by omega)]
theorem Kis {r:Reg} {e:Ev} (h:Uq r e=0):r.1≤e.2.2.2.1.getD 0 0:=by
 unfold Uq at h
 cases q:decide (e.2.2.2.1.getD 0 0<r.1) with
 |true=>rw[q] at h;cases h
 |false=>have:=of_decide_eq_false q;omega
structure Ucv (h:Kh) (k:Nat):Prop where
 ok:Jo (J8 (h.2.2.take k))
 uni:Jb9 (J8 (h.2.2.take k)).2.2.2.2.2.1
 met:(J8 (h.2.2.take k)).2.2.2.2.1.length<10000
theorem Ksa {l:List Ev} {k:Nat} (hk:k≤(Ja l).1.2.2.length):Ucv (Ja l).1 k:=by
 have hi:=Hf (l:=l)
 cases k with
 |zero=>exact⟨Db Yv.ok,Jjr Jfr,show(0:Nat)<10000 by decide⟩
 |succ k=>
  have hm:=Je (d:=Xd) (show k<(Ja l).1.2.2.length by omega)
  have e:=Jqc (G:=(Ja l).1.2.2) (k:=k) (by omega)
  have h1:=hi.met _ hm
  have h2:=hi.ok.nE
  exact⟨e▸hi.ok.reg _ hm,e▸Jp5 _ hm,by rw[e];omega⟩
abbrev K62:=Ubr
theorem L2 {α:Type} {p:α→Bool}:∀{L:List α} {k:Nat} {d:α},(L.find? p=none∧K0 p L k= -1)∨(∃(i:Nat) (x:α),L.find? p=some x∧K0 p L k=(k:Int)+(i:Int)∧i<L.length∧L.getD i d=x)
 |[],k,d=> .inl ⟨rfl,rfl⟩
 | a :: L, k, d => by
  cases h:p a with
  |true=>exact .inr ⟨0,a,by rw[List.find?_cons_of_pos (by exact h)],by rw[K0,if_pos h];simp,by simp,rfl⟩
  |false=>
   rw[List.find?_cons_of_neg (by rw[h];simp),K0,if_neg (by rw[h];simp)]
   rcases L2 (p:=p) (L:=L) (k:=k+1) (d:=d) with h1|⟨i,x,h1,h2,h3,h4⟩
   ·exact .inl h1
   ·exact .inr ⟨i+1,x,h1,by rw[h2];push_cast;omega,by simp only[List.length_cons];omega,h4⟩
theorem Jbj {α:Type} {p:α→Bool} {L:List α} {d:α} (h:0≤K0 p L 0):L.find? p=some (L.getD (K0 p L 0).toNat d):=by
 rcases L2 (p:=p) (L:=L) (k:=0) (d:=d) with⟨_,h2⟩|⟨i,x,h1,h2,h3,h4⟩
 ·omega
 ·rw[h1,h2,show(((0:Nat):Int)+(i:Int)).toNat=i by omega,h4]
theorem Jd4 {α:Type} {p:α→Bool} {L:List α} {d x:α} (h:L.find? p=some x):0≤K0 p L 0∧L.getD (K0 p L 0).toNat d=x:=by
 rcases L2 (p:=p) (L:=L) (k:=0) (d:=d) with⟨h1,h2⟩|⟨i,y,h1,h2,h3,h4⟩
 ·rw[h1] at h;cases h
 ·rw[h] at h1;cases h1
  exact⟨by omega,by rw[h2,show(((0:Nat):Int)+(i:Int)).toNat=i by omega,h4]⟩
theorem Fj {α:Type} {p:α→Bool} {L:List α}:K0 p L 0<0↔L.find? p=none:=by
 cases L with
 |nil=>exact⟨fun _=>rfl,fun _=>by show(-1:Int)<0;omega⟩
 |cons a L=>
  rcases L2 (p:=p) (L:=a::L) (k:=0) (d:=a) with⟨h1,h2⟩|⟨i,y,h1,h2,h3,h4⟩
  ·exact⟨fun _=>h1,fun _=>by omega⟩
  ·exact⟨fun h=>by omega,fun h=>by rw[h1] at h;cases h⟩
theorem Jaw {α:Type} {p f:α→Bool} {x:α}:∀{L:List α},L.find? p=some x→f x=true→(L.filter f).find? p=some x
 |[],h,_=>by cases h
 | a :: L, h, hf => by
  by_cases q:p a=true
  ·rw[List.find?_cons_of_pos q] at h
   cases h
   rw[List.filter_cons_of_pos hf,List.find?_cons_of_pos q]
  ·rw[List.find?_cons_of_neg q] at h
   by_cases r:f a=true
   ·rw[List.filter_cons_of_pos r,List.find?_cons_of_neg q];exact Jaw h hf
   ·rw[List.filter_cons_of_neg r];exact Jaw h hf
theorem Joc {α:Type} {p f:α→Bool} {L:List α} (h:L.find? p=none):(L.filter f).find? p=none:=by
 rw[List.find?_eq_none] at h⊢
 exact fun x hx=>h x (List.mem_filter.1 hx).1
theorem Fl {α:Type} {p f:α→Bool} {L:List α} (h:K0 p L 0<0):K0 p (L.filter f) 0<0:=Fj.2 (Joc (Fj.1 h))
theorem X7 {α:Type} {p f:α→Bool} {L:List α} {d:α} (h:0≤K0 p L 0) (hf:f (L.getD (K0 p L 0).toNat d)=true):0≤K0 p (L.filter f) 0∧(L.filter f).getD (K0 p (L.filter f) 0).toNat d=L.getD (K0 p L 0).toNat d:=Jd4 (Jaw (Jbj h) hf)
theorem Jib {α:Type} {p:α→Bool}:∀{L:List α} {k:Nat},0≤K0 p L 0→K0 p L k=k+K0 p L 0:=by
 intro L k h
 cases L with
 |nil=>exact absurd h (by show ¬(0:Int)≤-1;omega)
 | cons a L =>
  rcases L2 (p:=p) (L:=a::L) (k:=0) (d:=a) with⟨h1,h2⟩|⟨i,y,h1,h2,h3,h4⟩
  ·omega
  ·rcases L2 (p:=p) (L:=a::L) (k:=k) (d:=a) with⟨g1,g2⟩|⟨j,z,g1,g2,g3,g4⟩
   ·rw[g1] at h1;cases h1
   ·clear h1 g1 h4 g4 h3 g3
    have go:∀(L:List α) (k m:Nat),K0 p L k-k=K0 p L m-m∨(K0 p L k= -1∧K0 p L m= -1):=by
     intro L
     induction L with
     |nil=>intro k m;exact .inr ⟨rfl,rfl⟩
     | cons a L ih =>
      intro k m
      simp only[K0]
      by_cases q:p a=true
      ·rw[if_pos q,if_pos q];exact .inl (by omega)
      ·rw[if_neg q,if_neg q]
       rcases ih (k+1) (m+1) with r|r
       ·exact .inl (by push_cast at r;omega)
       ·exact .inr r
    rcases go (a::L) k 0 with r|r<;>omega
theorem Fh {α:Type} {p f:α→Bool} {y d:α} (hy:f y=true):∀{L:List α},0≤K0 p L 0→f (L.getD (K0 p L 0).toNat d)=true→(L.set (K0 p L 0).toNat y).filter f=(L.filter f).set (K0 p (L.filter f) 0).toNat y
 |[],h,_=>absurd h (by show ¬(0:Int)≤-1;omega)
 | a :: L, h, hf => by
  by_cases q:p a=true
  ·have e:K0 p (a::L) 0=0:=by rw[K0,if_pos q];rfl
   rw[e] at hf⊢
   have hf:f a=true:=hf
   rw[List.filter_cons_of_pos hf]
   have e2:K0 p (a::L.filter f) 0=0:=by rw[K0,if_pos q];rfl
   rw[e2]
   show(y::L).filter f=y::L.filter f
   rw[List.filter_cons_of_pos hy]
  ·have e1:∀l:List α,K0 p (a::l) 0=K0 p l 1:=fun l=>by rw[K0,if_neg q]
   have h0:0≤K0 p L 0:=by
    by_cases z:0≤K0 p L 0
    ·exact z
    ·rw[e1] at h
     have:=Fj.1 (show K0 p L 0<0 by omega)
     rcases L2 (p:=p) (L:=L) (k:=1) (d:=d) with⟨g1,g2⟩|⟨j,x,g1,g2,g3,g4⟩
     ·omega
     ·rw[this] at g1;cases g1
   have e2:(K0 p (a::L) 0).toNat=(K0 p L 0).toNat+1:=by rw[e1,Jib h0];push_cast;omega
   rw[e2] at hf⊢
   have hf:f (L.getD (K0 p L 0).toNat d)=true:=hf
   have ih:=Fh (p:=p) hy h0 hf
   rw[List.set_cons_succ]
   by_cases r:f a=true
   ·have k:=(X7 (p:=p) h0 hf).1
    rw[List.filter_cons_of_pos r,List.filter_cons_of_pos r,ih,show(K0 p (a::L.filter f) 0).toNat=(K0 p (L.filter f) 0).toNat+1 by rw[e1,Jib k];push_cast;omega,List.set_cons_succ]
   ·rw[List.filter_cons_of_neg r,List.filter_cons_of_neg r,ih]
theorem Jd5 {α:Type} {f:α→Bool} {y d:α} (hy:f y=false):∀{L:List α} {i:Nat},i<L.length→f (L.getD i d)=false→(L.set i y).filter f=L.filter f
 |[],_,h,_=>by cases h
 |a::L,0,_,hf=>by
  have hf:f a=false:=hf
  show(y::L).filter f=_
  rw[List.filter_cons_of_neg (by rw[hy];simp),List.filter_cons_of_neg (by rw[hf];simp)]
 |a::L,i+1,h,hf=>by
  have ih:=Jd5 (f:=f) hy (L:=L) (i:=i) (by simpa using h) hf
  rw[List.set_cons_succ]
  by_cases r:f a=true
  ·rw[List.filter_cons_of_pos r,List.filter_cons_of_pos r,ih]
  ·rw[List.filter_cons_of_neg r,List.filter_cons_of_neg r,ih]
theorem Jbf {α β:Type} {k:α→β} {y d:α}:∀{L:List α} {i:Nat},k y=k (L.getD i d)→(L.set i y).map k=L.map k
 |[],_,_=>rfl
 |a::L,0,h=>by
  have h:k y=k a:=h
  show(y::L).map k=_
  rw[List.map_cons,List.map_cons,h]
 |a::L,i+1,h=>by
  rw[List.set_cons_succ,List.map_cons,List.map_cons,Jbf (L:=L) (i:=i) (d:=d) h]
theorem J2t {α β:Type} {k:α→β} {p':β→Bool} {L L':List α} {a:List β} {x:α} (h:L'.map k=L.map k++a) (hx:L.find? (fun y=>p' (k y))=some x):∃x',L'.find? (fun y=>p' (k y))=some x'∧k x'=k x:=by
 have h1:(L.map k).find? p'=some (k x):=by
  rw[List.find?_map,show(p'∘k)=fun y=>p' (k y) from rfl,hx];rfl
 have h2:(L'.map k).find? p'=some (k x):=by rw[h,List.find?_append,h1];rfl
 rw[List.find?_map,show(p'∘k)=fun y=>p' (k y) from rfl] at h2
 cases q:L'.find? (fun y=>p' (k y)) with
 |none=>rw[q] at h2;cases h2
 |some x'=>rw[q] at h2;exact⟨x',rfl,Option.some.inj h2⟩
theorem Jom {α β:Type} {k:α→β} {p':β→Bool} {L L':List α} {a:List β} {d:α} (h:L'.map k=L.map k++a) (hx:0≤K0 (fun y=>p' (k y)) L 0):0≤K0 (fun y=>p' (k y)) L' 0∧k (L'.getD (K0 (fun y=>p' (k y)) L' 0).toNat d)=k (L.getD (K0 (fun y=>p' (k y)) L 0).toNat d):=by
 obtain⟨x',h1,h2⟩:=J2t h (Jbj (d:=d) hx)
 have:=Jd4 (d:=d) h1
 exact⟨this.1,by rw[this.2,h2]⟩
def kO (x:Ord):ByteArray×ByteArray×ByteArray:=(x.1,x.2.1,x.2.2.1)
def kX (x:Out):ByteArray×ByteArray:=(x.1,x.2.1)
def kQ (x:Per):ByteArray×ByteArray:=(x.1,x.2.1)
structure Ext (r R:Reg):Prop where
 o:∃a,R.2.2.2.1.map kO=r.2.2.2.1.map kO++a
 x:∃a,R.2.2.2.2.2.1.map kX=r.2.2.2.2.2.1.map kX++a
 q:∃a,R.2.2.2.2.2.2.map kQ=r.2.2.2.2.2.2.map kQ++a
theorem Ext.same (r:Reg):Ext r r:=⟨⟨[],(List.append_nil _).symm⟩,⟨[],(List.append_nil _).symm⟩,⟨[],(List.append_nil _).symm⟩⟩
theorem Ext.trans {r s t:Reg} (h:Ext r s) (g:Ext s t):Ext r t:=by
 obtain⟨⟨a,ha⟩,⟨b,hb⟩,⟨c,hc⟩⟩:=h
 obtain⟨⟨a',ha'⟩,⟨b',hb'⟩,⟨c',hc'⟩⟩:=g
 exact⟨⟨a++a',by rw[ha',ha,List.append_assoc]⟩,⟨b++b',by rw[hb',hb,List.append_assoc]⟩,⟨c++c',by rw[hc',hc,List.append_assoc]⟩⟩
theorem Jeb (r:Reg) (e:Ev):Ext r (Jd r e):=by
 obtain⟨tk,st,S,O,M,X,Q⟩:=r
 obtain⟨n,k,ns,vs,tx⟩:=e
 have hO:∃a,O.map kO=O.map kO++a:=⟨[],(List.append_nil _).symm⟩
 have hX:∃a,X.map kX=X.map kX++a:=⟨[],(List.append_nil _).symm⟩
 have hQ:∃a,Q.map kQ=Q.map kQ++a:=⟨[],(List.append_nil _).symm⟩
 unfold Jd doS
 split
 ·exact⟨hO,hX,hQ⟩
 ·exact⟨hO,hX,hQ⟩
 ·exact⟨⟨_,List.map_append ..⟩,hX,hQ⟩
 ·exact⟨hO,hX,hQ⟩
 ·refine⟨⟨[], ?_⟩,hX,hQ⟩
  rw[List.append_nil]
  exact Jbf (d:=Ki) rfl
 ·exact⟨hO,⟨_,List.map_append ..⟩,hQ⟩
 ·refine⟨hO,⟨[], ?_⟩,hQ⟩
  rw[List.append_nil]
  exact Jbf (d:=Hp) rfl
 ·exact⟨hO,hX,⟨_,List.map_append ..⟩⟩
 ·refine⟨hO,hX,⟨[], ?_⟩⟩
  rw[List.append_nil]
  exact Jbf (d:=Fi) rfl
 ·exact⟨hO,hX,hQ⟩
 ·exact⟨hO,hX,hQ⟩
theorem Joa {r R:Reg} {n:ByteArray} (h:Ext r R) (hf:0≤Kg r.2.2.2.1 n):0≤Kg R.2.2.2.1 n∧kO (Vy R.2.2.2.1 n)=kO (Vy r.2.2.2.1 n):=by
 obtain⟨a,ha⟩:=h.o
 exact Jom (k:=kO) (p':=fun y=>y.1.toList==n.toList) (d:=Ki) ha hf
theorem Jjp {r R:Reg} {n:ByteArray} (h:Ext r R) (hf:0≤Jw r.2.2.2.2.2.1 n):0≤Jw R.2.2.2.2.2.1 n∧kX (Y0 R.2.2.2.2.2.1 n)=kX (Y0 r.2.2.2.2.2.1 n):=by
 obtain⟨a,ha⟩:=h.x
 exact Jom (k:=kX) (p':=fun y=>y.1.toList==n.toList) (d:=Hp) ha hf
theorem Jwi {r R:Reg} {n:ByteArray} (h:Ext r R) (hf:0≤Uj r.2.2.2.2.2.2 n):0≤Uj R.2.2.2.2.2.2 n∧kQ (Jbd R.2.2.2.2.2.2 n)=kQ (Jbd r.2.2.2.2.2.2 n):=by
 obtain⟨a,ha⟩:=h.q
 exact Jom (k:=kQ) (p':=fun y=>y.1.toList==n.toList) (d:=Fi) ha hf
theorem Jgj {x y:Ord} {s:ByteArray} (h:kO x=kO y):Ur x s=Ur y s:=by
 unfold kO at h
 simp only[Prod.mk.injEq] at h
 unfold Ur
 rw[h.2.1,h.2.2]
theorem Kix {r R:Reg} {e:Ev} {s:ByteArray} (hr:Jo r) (h:Ext r R) (ha:Jd1 r e):abS R e s=abS r e s:=by
 have h1:=ha.ord
 have h2:=ha.out
 have h3:=ha.per
 unfold abS
 split<;>rename_i q
 ·rfl
 ·exact Jgj (Joa h (h1 q).2).2
 ·have:=(Jjp h (h2 q).2).2
  unfold kX at this
  simp only[Prod.mk.injEq] at this
  unfold abX
  rw[this.2]
 ·have hp:=(Jwi h (h3 q).2).2
  unfold kQ at hp
  simp only[Prod.mk.injEq] at hp
  have hx:=(Jjp h (hr.per _ (Jjl (h3 q).2))).2
  unfold kX at hx
  simp only[Prod.mk.injEq] at hx
  unfold abP
  rw[hp.2,hx.2]
 ·rfl
def aX (s:ByteArray) (x:Out):Bool:=x.2.1.toList==s.toList
def aM (O:List Ord) (s:ByteArray) (m:Met):Bool:=Ur (Vy O m.1) s
def aQ (X:List Out) (s:ByteArray) (p:Per):Bool:=aX s (Y0 X p.2.1)
abbrev fO (O:List Ord) (s:ByteArray):List Ord:=O.filter fun x=>Ur x s
abbrev fX (X:List Out) (s:ByteArray):List Out:=X.filter (aX s)
abbrev fM (O:List Ord) (M:List Met) (s:ByteArray):List Met:=M.filter (aM O s)
abbrev fQ (X:List Out) (Q:List Per) (s:ByteArray):List Per:=Q.filter (aQ X s)
def Vo (s:ByteArray) (t:Int) (r:Reg):Reg:=(t,0,r.2.2.1,fO r.2.2.2.1 s,fM r.2.2.2.1 r.2.2.2.2.1 s,fX r.2.2.2.2.2.1 s,fQ r.2.2.2.2.2.1 r.2.2.2.2.2.2 s)
def J6y (s:ByteArray) (r q:Reg):Prop:=∃t,t≤r.1∧q=Vo s t r
def J1e (r:Reg):Prop:=∀m∈r.2.2.2.2.1,0≤Kg r.2.2.2.1 m.1
theorem Jjz {S:List Sta} {f:Ord→Bool} {s:ByteArray} {h:Int}:∀{O:List Ord},(∀x∈O,F1 S x)→Ul (O.filter f) s h≤Ul O s h
 |[],_=>Int.le_refl _
 | x :: l, hO => by
  have ih:=Jjz (f:=f) (s:=s) (h:=h) (O:=l) fun y hy=>hO y (List.mem_cons_of_mem _ hy)
  have hp:=(hO x (List.mem_cons_self ..)).pow
  by_cases q:f x=true
  ·rw[List.filter_cons_of_pos q,Ul,Ul];omega
  ·rw[List.filter_cons_of_neg q,Ul]
   cases(bif Ur x s then J2 x h else false)<;>simp only[cond_true,cond_false]<;>omega
theorem Jq7 {s:ByteArray} {h:Int}:∀{X:List Out} {n m:Int},n≤m→Jbx X s h n≤Jbx X s h m
 |[],_,_,hn=>hn
 |x::l,n,m,hn=>by
  unfold Jbx
  refine Jq7 ?_
  cases Jwl x s h<;>simp only[cond_true,cond_false]<;>omega
theorem Jo2 {f:Out→Bool} {s:ByteArray} {h:Int}:∀{X:List Out} {n:Int},Jbx X s h n≤Jbx (X.filter f) s h n
 |[],_=>Int.le_refl _
 | x :: l, n => by
  by_cases q:f x=true
  ·rw[List.filter_cons_of_pos q,Jbx,Jbx];exact Jo2
  ·rw[List.filter_cons_of_neg q,Jbx]
   refine Int.le_trans (Jq7 (m:=n) ?_) Jo2
   cases Jwl x s h<;>simp only[cond_true,cond_false]<;>omega
theorem Jp3 {S:List Sta} {O:List Ord} {X:List Out} {f:Ord→Bool} {g:Out→Bool} {s:ByteArray} {h:Int} (hO:∀x∈O,F1 S x):Vx S O X s h≤Vx S (O.filter f) (X.filter g) s h:=by
 have h1:=Jjz (f:=f) (s:=s) (h:=h) hO
 have h2:=Jo2 (f:=g) (s:=s) (h:=h) (X:=X) (n:=(Hu S s).2.1)
 unfold Vx
 omega
theorem Jri {f g:Int→Bool} (h:∀x,f x=true→g x=true):∀{n:Nat} {a:Int},Jnb g a n=false→Jnb f a n=false
 |0,_,_=>rfl
 | n + 1, a, hg => by
  unfold Jnb at hg⊢
  obtain⟨h1,h2⟩:=bn1 hg
  have:f a=false:=by
   cases q:f a with
   |false=>rfl
   |true=>rw[h a q] at h1;cases h1
  rw[this,cond_false]
  exact Jri h h2
theorem Jie {f g:Int→Bool} {s:Int×Int} (h:∀x,f x=true→g x=true) (hg:Xr s g=false):Xr s f=false:=Jri h hg
theorem Vv {r:Reg} {e:Ev} (h:Uq r e=0):r.1≤e.2.2.2.1.getD 0 0∧J6 r e.2.2.1 (Jk e.2.1).1 0=false∧Kl r e.2.2.1 (Jk e.2.1).1 0=false∧ckS r e=0:=by
 have h0:=Kis h
 unfold Uq at h
 rw[if_neg (by rw[decide_eq_true_eq];omega)] at h
 by_cases b:Ju r e.2.1 e.2.2.1≠0
 ·rw[if_pos b] at h;exact absurd h b
 rw[if_neg b] at h
 have b:Ju r e.2.1 e.2.2.1=0:=by simpa using b
 unfold Ju at b
 cases q1:J6 r e.2.2.1 (Jk e.2.1).1 0 with
 |true=>rw[q1] at b;cases b
 |false=>
  cases q2:Kl r e.2.2.1 (Jk e.2.1).1 0 with
  |true=>rw[q1,q2] at b;cases b
  |false=>exact⟨h0,rfl,rfl,h⟩
theorem Jb5 {r:Reg} {e:Ev} (h0:r.1≤e.2.2.2.1.getD 0 0) (h1:J6 r e.2.2.1 (Jk e.2.1).1 0=false) (h2:Kl r e.2.2.1 (Jk e.2.1).1 0=false) (h3:ckS r e=0):Uq r e=0:=by
 unfold Uq Ju
 rw[if_neg (by rw[decide_eq_true_eq];omega),h1,h2]
 exact h3
theorem Jyv {α:Type} {p:α→Bool} {L a:List α} {d:α} (h:0≤K0 p L 0):(L++a).getD (K0 p (L++a) 0).toNat d=L.getD (K0 p L 0).toNat d:=by
 have:(L++a).find? p=some (L.getD (K0 p L 0).toNat d):=by rw[List.find?_append,Jbj (d:=d) h];rfl
 exact(Jd4 this).2
theorem Joe {α:Type} {p:α→Bool} {L:List α} {y d:α} (h:K0 p L 0<0) (hy:p y=true):(L++[y]).getD (K0 p (L++[y]) 0).toNat d=y:=by
 have:(L++[y]).find? p=some y:=by rw[List.find?_append,Fj.1 h,List.find?_cons_of_pos hy];rfl
 exact(Jd4 this).2
theorem Hx {α:Type} {f:α→Bool} {L:List α} {y:α} (h:f y=true):(L++[y]).filter f=L.filter f++[y]:=by rw[List.filter_append,List.filter_cons_of_pos h];rfl
theorem Jdf {α:Type} {f:α→Bool} {L:List α} {y:α} (h:f y=false):(L++[y]).filter f=L.filter f:=by rw[List.filter_append,List.filter_cons_of_neg (by rw[h];simp)];simp
theorem J5n {α:Type} {f g:α→Bool} {L:List α} (h:∀x∈L,f x=g x):L.filter f=L.filter g:=List.filter_congr h
theorem Ja3 {r:Reg} {ns:List ByteArray} {w:Int} {l:List (Int×Bool)} {i:Nat} (h:Kl r ns ((w,false)::l) i=false):Vt r w (ns.getD i Jb)=false:=by
 unfold Kl at h
 cases q:Vt r w (ns.getD i Jb) with
 |false=>rfl
 |true=>rw[q] at h;cases h
theorem Jqq {r:Reg} {n:ByteArray}:(Vt r 1 n=false→Kg r.2.2.2.1 n<0)∧(Vt r 2 n=false→Jw r.2.2.2.2.2.1 n<0)∧(Vt r 3 n=false→Uj r.2.2.2.2.2.2 n<0):=by
 rw[Jdv,Jcr,Jdu]
 refine⟨fun h=> ?_,fun h=> ?_,fun h=> ?_⟩<;>(have:=of_decide_eq_false h;omega)
theorem Jww {O O':List Ord} {M:List Met} {s:ByteArray} (h:∀m∈M,kO (Vy O' m.1)=kO (Vy O m.1)):fM O' M s=fM O M s:=J5n fun m hm=>Jgj (h m hm)
theorem Jwh {X X':List Out} {Q:List Per} {s:ByteArray} (h:∀p∈Q,kX (Y0 X' p.2.1)=kX (Y0 X p.2.1)):fQ X' Q s=fQ X Q s:=J5n fun p hp=>by
 have:=h p hp
 unfold kX at this
 simp only[Prod.mk.injEq] at this
 unfold aQ aX
 rw[this.2]
theorem J2g {f:Met→Bool} {M:List Met} {n:ByteArray} {h:Int} (hm:decide (0≤K3 M n h)=false):decide (0≤K3 (M.filter f) n h)=false:=by
 have h1:=of_decide_eq_false hm
 have:K3 (M.filter f) n h<0:=Fl (p:=fun x:Met=>bif x.1.toList==n.toList then x.2.1==h else false) (show _<0 by unfold K3 at h1;omega)
 exact decide_eq_false (by omega)
theorem L3 {a:Int} {l:List Int} (h:Jf (a::l)=0):a=0∧Jf l=0:=⟨Kw.1 h a (List.mem_cons_self ..),Kw.2 fun x hx=>Kw.1 h x (List.mem_cons_of_mem _ hx)⟩
theorem Lm {a:Int} {l:List Int} (h:a=0) (g:Jf l=0):Jf (a::l)=0:=Kw.2 fun x hx=>by
 rcases List.mem_cons.1 hx with rfl|hx
 ·exact h
 ·exact Kw.1 g x hx
theorem Jyk {c:Bool} {v:Int} (h:(bif c then v else 0)=0) (hv:v≠0):c=false:=by
 cases c with
 |false=>rfl
 |true=>exact absurd h hv
theorem Joh {α:Type} {f:α→Bool} {L:List α} {v:Int} {c:Nat} (h:(bif decide ((c:Int)≤L.length) then v else 0)=0) (hv:v≠0):(bif decide ((c:Int)≤(L.filter f).length) then v else 0)=0:=by
 have h1:=of_decide_eq_false (Jyk h hv)
 have:=List.length_filter_le f L
 rw[decide_eq_false (by omega)];rfl
section
variable {s:ByteArray} {t tk st:Int} {S:List Sta} {O:List Ord} {M:List Met} {X:List Out} {Q:List Per} {n:Int} {ns:List ByteArray} {vs:List Int} {tx:ByteArray}
def Ff (s:ByteArray) (t:Int) (r:Reg) (e:Ev):Prop:=(abS (Jd r e) e s=true→Uq (Vo s t r) e=0∧J6y s (Jd r e) (Jd (Vo s t r) e))∧(abS (Jd r e) e s=false→J6y s (Jd r e) (Vo s t r))
theorem Js2 (ht:t≤tk) (ha:Uq (tk,st,S,O,M,X,Q) (n,Jv,ns,vs,tx)=0):Ff s t (tk,st,S,O,M,X,Q) (n,Jv,ns,vs,tx):=by
 obtain⟨h0,h1,h2,h3⟩:=Vv ha
 have h0:tk≤vs.getD 0 0:=h0
 refine⟨fun _=>⟨Jb5 (by show t≤_;dsimp only;omega) ?_ ?_ ?_,vs.getD 0 0, ?_, ?_⟩,fun q=> ?_⟩
 ·simp only[Kc] at h1⊢;exact h1
 ·simp only[Kc] at h2⊢;exact h2
 ·simp only[ckS,Kc] at h3⊢;exact h3
 ·simp only[Jd,doS,Kc];exact Int.le_refl _
 ·simp only[Jd,doS,Kc];rfl
 ·simp only[abS,Kc] at q;cases q
theorem J15 (ht:t≤tk) (ha:Uq (tk,st,S,O,M,X,Q) (n,Uc,ns,vs,tx)=0):Ff s t (tk,st,S,O,M,X,Q) (n,Uc,ns,vs,tx):=by
 obtain⟨h0,h1,h2,h3⟩:=Vv ha
 have h0:tk≤vs.getD 0 0:=h0
 refine⟨fun _=>⟨Jb5 (by show t≤_;dsimp only;omega) ?_ ?_ ?_,vs.getD 0 0, ?_, ?_⟩,fun q=> ?_⟩
 ·simp only[K8] at h1⊢;exact h1
 ·simp only[K8] at h2⊢;exact h2
 ·simp only[ckS,K8] at h3⊢;exact h3
 ·simp only[Jd,doS,K8];exact Int.le_refl _
 ·simp only[Jd,doS,K8];rfl
 ·simp only[abS,K8] at q;cases q
theorem Jwd (ht:t≤tk) (ha:Uq (tk,st,S,O,M,X,Q) (n,Jh,ns,vs,tx)=0):Ff s t (tk,st,S,O,M,X,Q) (n,Jh,ns,vs,tx):=by
 obtain⟨h0,_,_,_⟩:=Vv ha
 have h0:tk≤vs.getD 0 0:=h0
 refine⟨fun q=> ?_,fun _=>⟨t, ?_, ?_⟩⟩
 ·simp only[abS,K6] at q;cases q
 ·show t≤vs.getD 0 0;omega
 ·simp only[Jd,doS,K6];rfl
theorem J16 (hr:Jo (tk,st,S,O,M,X,Q)) (hM:J1e (tk,st,S,O,M,X,Q)) (ht:t≤tk) (ha:Uq (tk,st,S,O,M,X,Q) (n,Kf,ns,vs,tx)=0):Ff s t (tk,st,S,O,M,X,Q) (n,Kf,ns,vs,tx):=by
 obtain⟨h0,h1,h2,h3⟩:=Vv ha
 have h0:tk≤vs.getD 0 0:=h0
 simp only[Kp] at h1 h2
 simp only[ckS,Kp] at h3
 have f0:Kg O (ns.getD 0 Jb)<0:=Jqq.1 (Ja3 h2)
 have hO:∀x∈O,F1 S x:=hr.ord
 obtain⟨o,ho⟩:∃o:Ord,o=(ns.getD 0 Jb,ns.getD 1 Jb,ns.getD 2 Jb,Vp (n,Kf,ns,vs,tx),vs.getD 3 0,(Hu S (ns.getD 1 Jb)).2.2,-1):=⟨_,rfl⟩
 have e1:Jd (tk,st,S,O,M,X,Q) (n,Kf,ns,vs,tx)=(vs.getD 0 0,st,S,O++[o],M,X,Q):=by simp only[Jd,doS,Kp,ho];rfl
 have e2:Jd (Vo s t (tk,st,S,O,M,X,Q)) (n,Kf,ns,vs,tx)=(vs.getD 0 0,0,S,fO O s++[o],fM O M s,fX X s,fQ X Q s):=by simp only[Jd,doS,Kp,ho];rfl
 have eo:Vy (O++[o]) (ns.getD 0 Jb)=o:=Joe (p:=fun x:Ord=>x.1.toList==(ns.getD 0 Jb).toList) f0 (by rw[ho];exact Xi _)
 have ab:abS (vs.getD 0 0,st,S,O++[o],M,X,Q) (n,Kf,ns,vs,tx) s=Ur o s:=by
  simp only[abS,Kp]
  unfold abO
  rw[eo]
 have em:fM (O++[o]) M s=fM O M s:=Jww fun m hm=>by rw[show Vy (O++[o]) m.1=Vy O m.1 from Jyv (p:=fun x:Ord=>x.1.toList==m.1.toList) (hM m hm)]
 unfold Ff
 rw[e1,e2,ab]
 refine⟨fun hb=>⟨Jb5 (by show t≤_;dsimp only;omega) ?_ ?_ ?_,vs.getD 0 0,Int.le_refl _, ?_⟩,fun hb=>⟨t, ?_, ?_⟩⟩
 ·simp only[Kp];exact h1
 ·simp only[Kp,Kl]
  have:Vt (Vo s t (tk,st,S,O,M,X,Q)) 1 (ns.getD 0 Jb)=false:=by
   rw[Jdv]
   have:Kg (fO O s) (ns.getD 0 Jb)<0:=Fl f0
   exact decide_eq_false (by show ¬0≤Kg (fO O s) _;omega)
  rw[this];rfl
 ·simp only[ckS,Kp]
  unfold Jbw at h3⊢
  by_cases c:Jgc (n,Kf,ns,vs,tx)≠0
  ·rw[if_pos c] at h3;exact absurd h3 c
  rw[if_neg c] at h3⊢
  obtain⟨g1,g2⟩:=Yq h3
  refine Lm ?_ (Lm (Joh (L:=O) g2 (by decide)) rfl)
  have g1:=Jyk g1 (by decide)
  rw[show Jti (Vo s t (tk,st,S,O,M,X,Q)).2.2.1 (Vo s t (tk,st,S,O,M,X,Q)).2.2.2.1 (Vo s t (tk,st,S,O,M,X,Q)).2.2.2.2.2.1 (n,Kf,ns,vs,tx)=false from ?_]
  ·rfl
  refine Jie (fun x hx=> ?_) g1
  have hx:=of_decide_eq_true hx
  have a1:Vx S O X (ns.getD 1 Jb) x≤Vx S (fO O s) (fX X s) (ns.getD 1 Jb) x:=Jp3 hO
  have a2:Vx S O X (ns.getD 2 Jb) x≤Vx S (fO O s) (fX X s) (ns.getD 2 Jb) x:=Jp3 hO
  refine decide_eq_true ?_
  have hx:min (Vx S (fO O s) (fX X s) (ns.getD 1 Jb) x) (Vx S (fO O s) (fX X s) (ns.getD 2 Jb) x)<vs.getD 3 0:=hx
  show min (Vx S O X (ns.getD 1 Jb) x) (Vx S O X (ns.getD 2 Jb) x)<vs.getD 3 0
  omega
 ·unfold Vo
  dsimp only
  rw[em,show fO (O++[o]) s=fO O s++[o] from Hx (f:=fun x=>Ur x s) hb]
 ·show t≤vs.getD 0 0;omega
 ·unfold Vo
  dsimp only
  rw[em,show fO (O++[o]) s=fO O s from Jdf (f:=fun x=>Ur x s) hb]
theorem J17 (ht:t≤tk) (ha:Uq (tk,st,S,O,M,X,Q) (n,K2,ns,vs,tx)=0):Ff s t (tk,st,S,O,M,X,Q) (n,K2,ns,vs,tx):=by
 obtain⟨h0,h1,h2,h3⟩:=Vv ha
 have h0:tk≤vs.getD 0 0:=h0
 simp only[Kq] at h1 h2
 simp only[ckS,Kq] at h3
 have f0:0≤Kg O (ns.getD 0 Jb):=Jxf ((Jj h1).1 rfl)
 obtain⟨m,hm⟩:∃m:Met,m=(ns.getD 0 Jb,vs.getD 1 0,vs.getD 2 0,vs.getD 3 0):=⟨_,rfl⟩
 have e1:Jd (tk,st,S,O,M,X,Q) (n,K2,ns,vs,tx)=(vs.getD 0 0,st,S,O,M++[m],X,Q):=by simp only[Jd,doS,Kq,hm];rfl
 have e2:Jd (Vo s t (tk,st,S,O,M,X,Q)) (n,K2,ns,vs,tx)=(vs.getD 0 0,0,S,fO O s,fM O M s++[m],fX X s,fQ X Q s):=by simp only[Jd,doS,Kq,hm];rfl
 have ab:abS (vs.getD 0 0,st,S,O,M++[m],X,Q) (n,K2,ns,vs,tx) s=aM O s m:=by
  simp only[abS,Kq,hm];rfl
 unfold Ff
 rw[e1,e2,ab]
 refine⟨fun hb=> ?_,fun hb=>⟨t, ?_, ?_⟩⟩
 ·have hb':Ur (Vy O (ns.getD 0 Jb)) s=true:=by rw[hm] at hb;exact hb
  have k:0≤Kg (fO O s) (ns.getD 0 Jb)∧Vy (fO O s) (ns.getD 0 Jb)=Vy O (ns.getD 0 Jb):=X7 (p:=fun x:Ord=>x.1.toList==(ns.getD 0 Jb).toList) (f:=fun x=>Ur x s) (d:=Ki) f0 hb'
  refine⟨Jb5 (by show t≤_;dsimp only;omega) ?_ ?_ ?_,vs.getD 0 0,Int.le_refl _, ?_⟩
  ·simp only[Kq,J6]
   rw[show Vt (Vo s t (tk,st,S,O,M,X,Q)) 1 (ns.getD 0 Jb)=true from decide_eq_true k.1];rfl
  ·simp only[Kq];rfl
  ·simp only[ckS,Kq]
   unfold Jkl at h3⊢
   show Jf [_,bif !Kv (Vy (fO O s) (ns.getD 0 Jb)).2.2.2.1 (vs.getD 1 0) then 14 else 0,bif !J2 (Vy (fO O s) (ns.getD 0 Jb)) (vs.getD 1 0) then 23 else 0,bif decide (0≤K3 (fM O M s) (Vy (fO O s) (ns.getD 0 Jb)).1 (vs.getD 1 0)) then 9 else 0,_]=0
   rw[k.2]
   obtain⟨g1,h3⟩:=L3 h3
   obtain⟨g2,h3⟩:=L3 h3
   obtain⟨g3,h3⟩:=L3 h3
   obtain⟨g4,h3⟩:=L3 h3
   refine Lm g1 (Lm g2 (Lm g3 (Lm ?_ ?_)))
   ·rw[J2g (Jyk g4 (by decide))];rfl
   ·show Jf [bif (bif decide ((Vy (fO O s) (ns.getD 0 Jb)).2.2.2.2.1<vs.getD 2 0) then true else decide (vs.getD 2 0<vs.getD 3 0)) then 3 else 0]=0
    rw[k.2];exact h3
  ·unfold Vo
   dsimp only
   rw[show fM O (M++[m]) s=fM O M s++[m] from Hx (f:=aM O s) hb]
 ·show t≤vs.getD 0 0;omega
 ·unfold Vo
  dsimp only
  rw[show fM O (M++[m]) s=fM O M s from Jdf (f:=aM O s) hb]
theorem J7n (hM:J1e (tk,st,S,O,M,X,Q)) (ht:t≤tk) (ha:Uq (tk,st,S,O,M,X,Q) (n,Vj,ns,vs,tx)=0):Ff s t (tk,st,S,O,M,X,Q) (n,Vj,ns,vs,tx):=by
 obtain⟨h0,h1,h2,h3⟩:=Vv ha
 have h0:tk≤vs.getD 0 0:=h0
 simp only[Uf] at h1 h2
 simp only[ckS,Uf] at h3
 have f0:0≤Kg O (ns.getD 0 Jb):=Jxf ((Jj h1).1 rfl)
 have e1:Jd (tk,st,S,O,M,X,Q) (n,Vj,ns,vs,tx)=(vs.getD 0 0,st,S,Vq O (ns.getD 0 Jb) (vs.getD 0 0),M,X,Q):=by simp only[Jd,doS,Uf];rfl
 have e2:Jd (Vo s t (tk,st,S,O,M,X,Q)) (n,Vj,ns,vs,tx)=(vs.getD 0 0,0,S,Vq (fO O s) (ns.getD 0 Jb) (vs.getD 0 0),fM O M s,fX X s,fQ X Q s):=by simp only[Jd,doS,Uf];rfl
 have hx:Ext (tk,st,S,O,M,X,Q) (vs.getD 0 0,st,S,Vq O (ns.getD 0 Jb) (vs.getD 0 0),M,X,Q):=e1▸Jeb _ _
 have ab:abS (vs.getD 0 0,st,S,Vq O (ns.getD 0 Jb) (vs.getD 0 0),M,X,Q) (n,Vj,ns,vs,tx) s=Ur (Vy O (ns.getD 0 Jb)) s:=by
  simp only[abS,Uf]
  exact Jgj (Joa hx f0).2
 have em:fM (Vq O (ns.getD 0 Jb) (vs.getD 0 0)) M s=fM O M s:=Jww fun m hm=>(Joa hx (hM m hm)).2
 have hl:(Kg O (ns.getD 0 Jb)).toNat<O.length:=by have:=Uy (l:=O) (s:=ns.getD 0 Jb);omega
 unfold Ff
 rw[e1,e2,ab]
 refine⟨fun hb=> ?_,fun hb=>⟨t, ?_, ?_⟩⟩
 ·have k:0≤Kg (fO O s) (ns.getD 0 Jb)∧Vy (fO O s) (ns.getD 0 Jb)=Vy O (ns.getD 0 Jb):=X7 (p:=fun x:Ord=>x.1.toList==(ns.getD 0 Jb).toList) (f:=fun x=>Ur x s) (d:=Ki) f0 hb
  refine⟨Jb5 (by show t≤_;dsimp only;omega) ?_ ?_ ?_,vs.getD 0 0,Int.le_refl _, ?_⟩
  ·simp only[Uf,J6]
   rw[show Vt (Vo s t (tk,st,S,O,M,X,Q)) 1 (ns.getD 0 Jb)=true from decide_eq_true k.1];rfl
  ·simp only[Uf];rfl
  ·simp only[ckS,Uf]
   unfold Jbs at h3⊢
   show(bif (bif (Vy (fO O s) (ns.getD 0 Jb)).2.2.2.2.2.2 != -1 then true else decide ((Vy (fO O s) (ns.getD 0 Jb)).2.2.2.1.2≤vs.getD 0 0)) then 23 else 0)=0
   rw[k.2];exact h3
  ·unfold Vo
   dsimp only
   rw[em]
   have:fO (Vq O (ns.getD 0 Jb) (vs.getD 0 0)) s=Vq (fO O s) (ns.getD 0 Jb) (vs.getD 0 0):=by
    unfold Vq
    rw[k.2]
    exact Fh (p:=fun x:Ord=>x.1.toList==(ns.getD 0 Jb).toList) (f:=fun x=>Ur x s) (d:=Ki) (by exact hb) f0 hb
   rw[this]
 ·show t≤vs.getD 0 0;omega
 ·unfold Vo
  dsimp only
  rw[em]
  have:fO (Vq O (ns.getD 0 Jb) (vs.getD 0 0)) s=fO O s:=Jd5 (f:=fun x=>Ur x s) (d:=Ki) (by exact hb) hl hb
  rw[this]
theorem Jwg (hr:Jo (tk,st,S,O,M,X,Q)) (ht:t≤tk) (ha:Uq (tk,st,S,O,M,X,Q) (n,Jp,ns,vs,tx)=0):Ff s t (tk,st,S,O,M,X,Q) (n,Jp,ns,vs,tx):=by
 obtain⟨h0,h1,h2,h3⟩:=Vv ha
 have h0:tk≤vs.getD 0 0:=h0
 simp only[Jy] at h1 h2
 simp only[ckS,Jy] at h3
 have f0:Jw X (ns.getD 0 Jb)<0:=Jqq.2.1 (Ja3 h2)
 have hO:∀x∈O,F1 S x:=hr.ord
 obtain⟨o,ho⟩:∃o:Out,o=(ns.getD 0 Jb,ns.getD 1 Jb,Vp (n,Jp,ns,vs,tx),vs.getD 3 0):=⟨_,rfl⟩
 have e1:Jd (tk,st,S,O,M,X,Q) (n,Jp,ns,vs,tx)=(vs.getD 0 0,st,S,O,M,X++[o],Q):=by simp only[Jd,doS,Jy,ho];rfl
 have e2:Jd (Vo s t (tk,st,S,O,M,X,Q)) (n,Jp,ns,vs,tx)=(vs.getD 0 0,0,S,fO O s,fM O M s,fX X s++[o],fQ X Q s):=by simp only[Jd,doS,Jy,ho];rfl
 have eo:Y0 (X++[o]) (ns.getD 0 Jb)=o:=Joe (p:=fun x:Out=>x.1.toList==(ns.getD 0 Jb).toList) f0 (by rw[ho];exact Xi _)
 have ab:abS (vs.getD 0 0,st,S,O,M,X++[o],Q) (n,Jp,ns,vs,tx) s=aX s o:=by
  simp only[abS,Jy]
  unfold abX aX
  rw[eo]
 have eq:fQ (X++[o]) Q s=fQ X Q s:=Jwh fun p hp=>by rw[show Y0 (X++[o]) p.2.1=Y0 X p.2.1 from Jyv (p:=fun x:Out=>x.1.toList==p.2.1.toList) (hr.per p hp)]
 unfold Ff
 rw[e1,e2,ab]
 refine⟨fun hb=>⟨Jb5 (by show t≤_;dsimp only;omega) ?_ ?_ ?_,vs.getD 0 0,Int.le_refl _, ?_⟩,fun hb=>⟨t, ?_, ?_⟩⟩
 ·simp only[Jy];exact h1
 ·simp only[Jy,Kl]
  have:Vt (Vo s t (tk,st,S,O,M,X,Q)) 2 (ns.getD 0 Jb)=false:=by
   rw[Jcr]
   have:Jw (fX X s) (ns.getD 0 Jb)<0:=Fl f0
   exact decide_eq_false (by show ¬0≤Jw (fX X s) _;omega)
  rw[this];rfl
 ·simp only[ckS,Jy]
  unfold Jbv at h3⊢
  show(if Jdh S (n,Jp,ns,vs,tx)≠0 then _ else _)=0
  by_cases c:Jdh S (n,Jp,ns,vs,tx)≠0
  ·rw[if_pos c] at h3;exact absurd h3 c
  rw[if_neg c] at h3⊢
  obtain⟨g1,g2⟩:=Yq h3
  refine Lm ?_ (Lm (Joh (L:=X) g2 (by decide)) rfl)
  have g1:=Jyk g1 (by decide)
  suffices hc:Xr (Vp (n,Jp,ns,vs,tx)) (fun h=>decide (vs.getD 3 0<Ul (fO O s) (ns.getD 1 Jb) h))=false by
   show(bif Xr (Vp (n,Jp,ns,vs,tx)) (fun h=>decide (vs.getD 3 0<Ul (fO O s) (ns.getD 1 Jb) h)) then(24:Int) else 0)=0
   rw[hc];rfl
  refine Jie (fun x hx=> ?_) g1
  have hx:=of_decide_eq_true hx
  have a1:Ul (fO O s) (ns.getD 1 Jb) x≤Ul O (ns.getD 1 Jb) x:=Jjz hO
  exact decide_eq_true (by show vs.getD 3 0<Ul O (ns.getD 1 Jb) x;omega)
 ·unfold Vo
  dsimp only
  rw[eq,show fX (X++[o]) s=fX X s++[o] from Hx (f:=aX s) hb]
 ·show t≤vs.getD 0 0;omega
 ·unfold Vo
  dsimp only
  rw[eq,show fX (X++[o]) s=fX X s from Jdf (f:=aX s) hb]
theorem J2a {f:Per→Bool} {g:Per→Bool} {Q:List Per} {v:Int} (h:(bif decide ((0:Int)<((Zo Q).filter g).length) then v else 0)=0) (hv:v≠0):(bif decide ((0:Int)<((Zo (Q.filter f)).filter g).length) then v else 0)=0:=by
 have h1:=of_decide_eq_false (Jyk h hv)
 have:((Zo (Q.filter f)).filter g).length≤((Zo Q).filter g).length:=by
  unfold Zo
  exact List.Sublist.length_le ((List.filter_sublist.filter _).filter _)
 rw[decide_eq_false (by omega)];rfl
theorem Js3 (hr:Jo (tk,st,S,O,M,X,Q)) (ht:t≤tk) (ha:Uq (tk,st,S,O,M,X,Q) (n,Jr,ns,vs,tx)=0):Ff s t (tk,st,S,O,M,X,Q) (n,Jr,ns,vs,tx):=by
 obtain⟨h0,h1,h2,h3⟩:=Vv ha
 have h0:tk≤vs.getD 0 0:=h0
 simp only[Js] at h1 h2
 simp only[ckS,Js] at h3
 have f0:0≤Jw X (ns.getD 0 Jb):=J0l ((Jj h1).1 rfl)
 have e1:Jd (tk,st,S,O,M,X,Q) (n,Jr,ns,vs,tx)=(vs.getD 0 0,st,S,O,M,Lc X (ns.getD 0 Jb) (vs.getD 0 0),Q):=by simp only[Jd,doS,Js];rfl
 have e2:Jd (Vo s t (tk,st,S,O,M,X,Q)) (n,Jr,ns,vs,tx)=(vs.getD 0 0,0,S,fO O s,fM O M s,Lc (fX X s) (ns.getD 0 Jb) (vs.getD 0 0),fQ X Q s):=by simp only[Jd,doS,Js];rfl
 have hx:Ext (tk,st,S,O,M,X,Q) (vs.getD 0 0,st,S,O,M,Lc X (ns.getD 0 Jb) (vs.getD 0 0),Q):=e1▸Jeb _ _
 have ab:abS (vs.getD 0 0,st,S,O,M,Lc X (ns.getD 0 Jb) (vs.getD 0 0),Q) (n,Jr,ns,vs,tx) s=aX s (Y0 X (ns.getD 0 Jb)):=by
  simp only[abS,Js]
  have:=(Jjp hx f0).2
  unfold kX at this
  simp only[Prod.mk.injEq] at this
  unfold abX aX
  rw[this.2]
 have eq:fQ (Lc X (ns.getD 0 Jb) (vs.getD 0 0)) Q s=fQ X Q s:=Jwh fun p hp=>(Jjp hx (hr.per p hp)).2
 have hl:(Jw X (ns.getD 0 Jb)).toNat<X.length:=by have:=Up (l:=X) (s:=ns.getD 0 Jb);omega
 unfold Ff
 rw[e1,e2,ab]
 refine⟨fun hb=> ?_,fun hb=>⟨t, ?_, ?_⟩⟩
 ·have k:0≤Jw (fX X s) (ns.getD 0 Jb)∧Y0 (fX X s) (ns.getD 0 Jb)=Y0 X (ns.getD 0 Jb):=X7 (p:=fun x:Out=>x.1.toList==(ns.getD 0 Jb).toList) (f:=aX s) (d:=Hp) f0 hb
  refine⟨Jb5 (by show t≤_;dsimp only;omega) ?_ ?_ ?_,vs.getD 0 0,Int.le_refl _, ?_⟩
  ·simp only[Js,J6]
   rw[show Vt (Vo s t (tk,st,S,O,M,X,Q)) 2 (ns.getD 0 Jb)=true from decide_eq_true k.1];rfl
  ·simp only[Js];rfl
  ·simp only[ckS,Js]
   unfold Jbt at h3⊢
   show Jf [bif decide (vs.getD 0 0≤(Y0 (fX X s) (ns.getD 0 Jb)).2.2.1.1) then 21 else 0,bif decide ((Y0 (fX X s) (ns.getD 0 Jb)).2.2.1.2≤vs.getD 0 0) then 23 else 0,bif decide ((0:Int)<((Zo (fQ X Q s)).filter fun p=>p.2.1.toList==(Y0 (fX X s) (ns.getD 0 Jb)).1.toList).length) then 32 else 0]=0
   rw[k.2]
   obtain⟨g1,h3⟩:=L3 h3
   obtain⟨g2,h3⟩:=L3 h3
   obtain⟨g3,_⟩:=L3 h3
   exact Lm g1 (Lm g2 (Lm (J2a g3 (by decide)) rfl))
  ·unfold Vo
   dsimp only
   rw[eq]
   have:fX (Lc X (ns.getD 0 Jb) (vs.getD 0 0)) s=Lc (fX X s) (ns.getD 0 Jb) (vs.getD 0 0):=by
    unfold Lc
    rw[k.2]
    exact Fh (p:=fun x:Out=>x.1.toList==(ns.getD 0 Jb).toList) (f:=aX s) (d:=Hp) (by exact hb) f0 hb
   rw[this]
 ·show t≤vs.getD 0 0;omega
 ·unfold Vo
  dsimp only
  rw[eq]
  have:fX (Lc X (ns.getD 0 Jb) (vs.getD 0 0)) s=fX X s:=Jd5 (f:=aX s) (d:=Hp) (by exact hb) hl hb
  rw[this]
theorem Jwf (ht:t≤tk) (ha:Uq (tk,st,S,O,M,X,Q) (n,Kb,ns,vs,tx)=0):Ff s t (tk,st,S,O,M,X,Q) (n,Kb,ns,vs,tx):=by
 obtain⟨h0,h1,h2,h3⟩:=Vv ha
 have h0:tk≤vs.getD 0 0:=h0
 simp only[J5] at h1 h2
 simp only[ckS,J5] at h3
 have f0:Uj Q (ns.getD 0 Jb)<0:=Jqq.2.2 (Ja3 h2)
 have f1:0≤Jw X (ns.getD 1 Jb):=J0l ((Jj (Jj h1).2).1 rfl)
 obtain⟨o,ho⟩:∃o:Per,o=(ns.getD 0 Jb,ns.getD 1 Jb,true):=⟨_,rfl⟩
 have e1:Jd (tk,st,S,O,M,X,Q) (n,Kb,ns,vs,tx)=(vs.getD 0 0,st,S,O,M,X,Q++[o]):=by simp only[Jd,doS,J5,ho];rfl
 have e2:Jd (Vo s t (tk,st,S,O,M,X,Q)) (n,Kb,ns,vs,tx)=(vs.getD 0 0,0,S,fO O s,fM O M s,fX X s,fQ X Q s++[o]):=by simp only[Jd,doS,J5,ho];rfl
 have eo:Jbd (Q++[o]) (ns.getD 0 Jb)=o:=Joe (p:=fun x:Per=>x.1.toList==(ns.getD 0 Jb).toList) f0 (by rw[ho];exact Xi _)
 have ab:abS (vs.getD 0 0,st,S,O,M,X,Q++[o]) (n,Kb,ns,vs,tx) s=aQ X s o:=by
  simp only[abS,J5]
  unfold abP
  rw[eo];rfl
 unfold Ff
 rw[e1,e2,ab]
 refine⟨fun hb=> ?_,fun hb=>⟨t, ?_, ?_⟩⟩
 ·have hb':aX s (Y0 X (ns.getD 1 Jb))=true:=by rw[ho] at hb;exact hb
  have k:0≤Jw (fX X s) (ns.getD 1 Jb)∧Y0 (fX X s) (ns.getD 1 Jb)=Y0 X (ns.getD 1 Jb):=X7 (p:=fun x:Out=>x.1.toList==(ns.getD 1 Jb).toList) (f:=aX s) (d:=Hp) f1 hb'
  refine⟨Jb5 (by show t≤_;dsimp only;omega) ?_ ?_ ?_,vs.getD 0 0,Int.le_refl _, ?_⟩
  ·simp only[J5,J6]
   rw[show Vt (Vo s t (tk,st,S,O,M,X,Q)) 2 (ns.getD (0+1) Jb)=true from decide_eq_true k.1];rfl
  ·simp only[J5,Kl]
   have:Vt (Vo s t (tk,st,S,O,M,X,Q)) 3 (ns.getD 0 Jb)=false:=by
    rw[Jdu]
    have:Uj (fQ X Q s) (ns.getD 0 Jb)<0:=Fl f0
    exact decide_eq_false (by show ¬0≤Uj (fQ X Q s) _;omega)
   rw[this];rfl
  ·simp only[ckS,J5]
   unfold Jbu at h3⊢
   show Jf [bif !Kv (Y0 (fX X s) (ns.getD 1 Jb)).2.2.1 (vs.getD 0 0) then 22 else 0,_]=0
   rw[k.2]
   obtain⟨g1,g2⟩:=Yq h3
   exact Lm g1 (Lm (Joh (L:=Q) g2 (by decide)) rfl)
  ·unfold Vo
   dsimp only
   rw[show fQ X (Q++[o]) s=fQ X Q s++[o] from Hx (f:=aQ X s) hb]
 ·show t≤vs.getD 0 0;omega
 ·unfold Vo
  dsimp only
  rw[show fQ X (Q++[o]) s=fQ X Q s from Jdf (f:=aQ X s) hb]
theorem Jwe (ht:t≤tk) (ha:Uq (tk,st,S,O,M,X,Q) (n,Ka,ns,vs,tx)=0):Ff s t (tk,st,S,O,M,X,Q) (n,Ka,ns,vs,tx):=by
 obtain⟨h0,h1,h2,h3⟩:=Vv ha
 have h0:tk≤vs.getD 0 0:=h0
 simp only[J4] at h1 h2
 simp only[ckS,J4] at h3
 have f0:0≤Uj Q (ns.getD 0 Jb):=Kgl ((Jj h1).1 rfl)
 have e1:Jd (tk,st,S,O,M,X,Q) (n,Ka,ns,vs,tx)=(vs.getD 0 0,st,S,O,M,X,Yy Q (ns.getD 0 Jb)):=by simp only[Jd,doS,J4];rfl
 have e2:Jd (Vo s t (tk,st,S,O,M,X,Q)) (n,Ka,ns,vs,tx)=(vs.getD 0 0,0,S,fO O s,fM O M s,fX X s,Yy (fQ X Q s) (ns.getD 0 Jb)):=by simp only[Jd,doS,J4];rfl
 have hx:Ext (tk,st,S,O,M,X,Q) (vs.getD 0 0,st,S,O,M,X,Yy Q (ns.getD 0 Jb)):=e1▸Jeb _ _
 have ab:abS (vs.getD 0 0,st,S,O,M,X,Yy Q (ns.getD 0 Jb)) (n,Ka,ns,vs,tx) s=aQ X s (Jbd Q (ns.getD 0 Jb)):=by
  simp only[abS,J4]
  have:=(Jwi hx f0).2
  unfold kQ at this
  simp only[Prod.mk.injEq] at this
  unfold abP aQ aX
  rw[this.2]
 have hl:(Uj Q (ns.getD 0 Jb)).toNat<Q.length:=by have:=Ux (l:=Q) (s:=ns.getD 0 Jb);omega
 unfold Ff
 rw[e1,e2,ab]
 refine⟨fun hb=> ?_,fun hb=>⟨t, ?_, ?_⟩⟩
 ·have k:0≤Uj (fQ X Q s) (ns.getD 0 Jb)∧Jbd (fQ X Q s) (ns.getD 0 Jb)=Jbd Q (ns.getD 0 Jb):=X7 (p:=fun x:Per=>x.1.toList==(ns.getD 0 Jb).toList) (f:=aQ X s) (d:=Fi) f0 hb
  refine⟨Jb5 (by show t≤_;dsimp only;omega) ?_ ?_ ?_,vs.getD 0 0,Int.le_refl _, ?_⟩
  ·simp only[J4,J6]
   rw[show Vt (Vo s t (tk,st,S,O,M,X,Q)) 3 (ns.getD 0 Jb)=true from decide_eq_true k.1];rfl
  ·simp only[J4];rfl
  ·simp only[ckS,J4]
   unfold Jmu at h3⊢
   show(bif !(Jbd (fQ X Q s) (ns.getD 0 Jb)).2.2 then 23 else 0)=0
   rw[k.2];exact h3
  ·unfold Vo
   dsimp only
   have:fQ X (Yy Q (ns.getD 0 Jb)) s=Yy (fQ X Q s) (ns.getD 0 Jb):=by
    unfold Yy
    rw[k.2]
    exact Fh (p:=fun x:Per=>x.1.toList==(ns.getD 0 Jb).toList) (f:=aQ X s) (d:=Fi) (by exact hb) f0 hb
   rw[this]
 ·show t≤vs.getD 0 0;omega
 ·unfold Vo
  dsimp only
  have:fQ X (Yy Q (ns.getD 0 Jb)) s=fQ X Q s:=Jd5 (f:=aQ X s) (d:=Fi) (by exact hb) hl hb
  rw[this]
end
theorem Jwb {s:ByteArray} {r q:Reg} {e:Ev} (hr:Jo r) (hM:J1e r) (hp:J6y s r q) (hc:Jc e=0) (hk:(e.2.1.toList==Jl.toList)=false) (ha:Uq r e=0):(abS (Jd r e) e s=true→Uq q e=0∧J6y s (Jd r e) (Jd q e))∧(abS (Jd r e) e s=false→J6y s (Jd r e) q):=by
 obtain⟨t,ht,rfl⟩:=hp
 have hkd:=(Ko hc).kind
 obtain⟨tk,st,S,O,M,X,Q⟩:=r
 obtain⟨n,k,ns,vs,tx⟩:=e
 dsimp only at hkd hk ht
 rcases Uo hkd with h|h|h|h|h|h|h|h|h|h|h<;>subst h
 ·rw[Xi] at hk;cases hk
 ·exact Js2 ht ha
 ·exact J15 ht ha
 ·exact J16 hr hM ht ha
 ·exact J17 ht ha
 ·exact J7n hM ht ha
 ·exact Jwg hr ht ha
 ·exact Js3 hr ht ha
 ·exact Jwf ht ha
 ·exact Jwe ht ha
 ·exact Jwd ht ha
theorem Jqp {l:List Ev} (h:(Ja l).2.2=0):(Ja l).1.1=l:=by
 have ad:∀{h:Kh} {e:Ev},(X1 h e).1=h.1++[e]:=by intro h e;unfold X1;cases e.2.1.toList==Jl.toList<;>rfl
 have go:∀(l:List Ev) (h:Kh),(Xc h l).2.2=0→(Xc h l).1.1=h.1++l:=by
  intro l
  induction l with
  |nil=>intro h _;exact(List.append_nil _).symm
  | cons e l ih =>
   intro h h0
   by_cases ha:Kx h e=0
   ·rw[Vm,if_pos ha] at h0⊢
    rw[ih _ h0,ad,List.append_assoc];rfl
   ·rw[Vm,if_neg ha] at h0;exact absurd h0 ha
 unfold Ja at h⊢
 by_cases q:1000<l.length
 ·rw[if_pos q] at h;exact absurd h (by decide)
 ·rw[if_neg q] at h⊢
  exact go l _ h
theorem Jvv:∀{l:List Ev} {h:Kh},(Xc h l).2.2=0→∀e∈l,Jc e=0
 |[],_,_,_,he=>by cases he
 | e :: l, h, h0, x, hx => by
  rw[Vm] at h0
  by_cases ha:Kx h e=0
  ·rw[if_pos ha] at h0
   rcases List.mem_cons.1 hx with hx|hx
   ·rw[hx];exact(add_zero ha).1
   ·exact Jvv h0 x hx
  ·rw[if_neg ha] at h0;exact absurd h0 ha
theorem Jl8 {r:Reg} {e:Ev} (hM:J1e r) (hc:Jc e=0) (hk:(e.2.1.toList==Jl.toList)=false) (ha:Uq r e=0):J1e (Jd r e):=by
 obtain⟨h0,h1,h2,h3⟩:=Vv ha
 have hkd:=(Ko hc).kind
 obtain⟨tk,st,S,O,M,X,Q⟩:=r
 obtain⟨n,k,ns,vs,tx⟩:=e
 have hM:∀m∈M,0≤Kg O m.1:=hM
 dsimp only at hkd hk h1
 clear h0 h2 h3 ha hc
 unfold J1e
 rcases Uo hkd with h|h|h|h|h|h|h|h|h|h|h<;>subst h
 ·rw[Xi] at hk;cases hk
 ·simp only[Jd,doS,Kc];exact hM
 ·simp only[Jd,doS,K8];exact hM
 ·simp only[Jd,doS,Kp];exact fun m hm=>Jmm (hM m hm)
 ·simp only[Kq] at h1
  have f0:0≤Kg O (ns.getD 0 Jb):=Jxf ((Jj h1).1 rfl)
  simp only[Jd,doS,Kq]
  intro m hm
  rcases V3 hm with hm|hm
  ·exact hM m hm
  ·rw[hm];exact f0
 ·simp only[Jd,doS,Uf]
  intro m hm
  show 0≤Kg (Vq _ _ _) _
  rw[Fo];exact hM m hm
 ·simp only[Jd,doS,Jy];exact hM
 ·simp only[Jd,doS,Js];exact hM
 ·simp only[Jd,doS,J5];exact hM
 ·simp only[Jd,doS,J4];exact hM
 ·simp only[Jd,doS,K6];exact hM
def Kdg (O:List Ord):Prop:=(O.map fun x=>x.1).Nodup
theorem Ju2 {r:Reg} {e:Ev} (hu:Kdg r.2.2.2.1) (hc:Jc e=0) (hk:(e.2.1.toList==Jl.toList)=false) (ha:Uq r e=0):Kdg (Jd r e).2.2.2.1:=by
 obtain⟨h0,h1,h2,h3⟩:=Vv ha
 have hkd:=(Ko hc).kind
 obtain⟨tk,st,S,O,M,X,Q⟩:=r
 obtain⟨n,k,ns,vs,tx⟩:=e
 have hu:Kdg O:=hu
 dsimp only at hkd hk h2
 clear h0 h1 h3 ha hc
 rcases Uo hkd with h|h|h|h|h|h|h|h|h|h|h<;>subst h
 ·rw[Xi] at hk;cases hk
 ·simp only[Jd,doS,Kc];exact hu
 ·simp only[Jd,doS,K8];exact hu
 ·simp only[Kp] at h2
  have f0:Kg O (ns.getD 0 Jb)<0:=Jqq.1 (Ja3 h2)
  have f1:=Fj.1 f0
  rw[List.find?_eq_none] at f1
  simp only[Jd,doS,Kp]
  show((O++[_]).map fun x:Ord=>x.1).Nodup
  rw[List.map_append,List.nodup_append]
  refine⟨hu,by simp,fun a ha b hb hab=> ?_⟩
  obtain⟨x,hx,rfl⟩:=List.mem_map.1 ha
  obtain⟨y,hy,rfl⟩:=List.mem_map.1 hb
  rw[List.mem_singleton.1 hy] at hab
  refine f1 x hx ?_
  show(x.1.toList==(ns.getD 0 Jb).toList)=true
  rw[hab];exact Xi _
 ·simp only[Jd,doS,Kq];exact hu
 ·simp only[Jd,doS,Uf]
  show((Vq _ _ _).map fun x:Ord=>x.1).Nodup
  rw[show(Vq O (ns.getD 0 Jb) (vs.getD 0 0)).map (fun x:Ord=>x.1)=O.map fun x=>x.1 from Jbf (d:=Ki) rfl]
  exact hu
 ·simp only[Jd,doS,Jy];exact hu
 ·simp only[Jd,doS,Js];exact hu
 ·simp only[Jd,doS,J5];exact hu
 ·simp only[Jd,doS,J4];exact hu
 ·simp only[Jd,doS,K6];exact hu
def Juc:Reg→List Ev→Reg→Prop
 |r,[],R=>r=R
 |r,e::C,R=>(Jo r∧Jo (Jd r e)∧Jd1 (Jd r e) e∧Jc e=0∧(e.2.1.toList==Jl.toList)=false∧Uq r e=0)∧Juc (Jd r e) C R
theorem Jmw:∀{C:List Ev} {r R:Reg},Juc r C R→Ext r R
 |[],r,R,h=>by
  have h:r=R:=h
  rw[h];exact Ext.same R
 |e::C,r,R,h=>(Jeb r e).trans (Jmw h.2)
theorem Jmv:∀{C:List Ev} {r R:Reg},Juc r C R→J1e r→Kdg r.2.2.2.1→J1e R∧Kdg R.2.2.2.1
 |[],r,R,h,h1,h2=>by
  have h:r=R:=h
  rw[←h];exact⟨h1,h2⟩
 |e::C,r,R,h,h1,h2=>by
  obtain⟨⟨_,_,_,c1,c2,c3⟩,h⟩:=h
  exact Jmv h (Jl8 h1 c1 c2 c3) (Ju2 h2 c1 c2 c3)
theorem Jq6 {l:List Ev}:∀(m k:Nat),k+m=(Ja l).1.2.1.length→Juc (J8 ((Ja l).1.2.2.take k)) ((Ja l).1.2.1.drop k) (J8 (Ja l).1.2.2)
 |0,k,h=>by
  have hG:=(Hf (l:=l)).ok.nG
  rw[List.drop_eq_nil_of_le (by omega),List.take_of_length_le (by omega)];rfl
 |m+1,k,h=>by
  have hG:=(Hf (l:=l)).ok.nG
  obtain⟨c1,c2,c3,c4⟩:=J12 (l:=l) k (by omega)
  have hn:=Jqc (G:=(Ja l).1.2.2) (k:=k) (by omega)
  have hab:=Jji (l:=l) k k (by omega) (Nat.le_refl _) (by omega)
  rw[Jn (d:=ev0) (by omega)]
  have ih:=Jq6 (l:=l) m (k+1) (by omega)
  rw[hn,c4] at ih
  rw[c4] at hab
  refine⟨⟨(Ksa (l:=l) (k:=k) (by omega)).ok, ?_,hab,c1,c2,c3⟩,ih⟩
  rw[←c4]
  exact Hf.ok.reg _ (Je (by omega))
theorem Jmx {l:List Ev} (h:(Ja l).2.2=0):Juc Xd (Ja l).1.2.1 (Jg l):=by
 have:=Jq6 (l:=l) (Ja l).1.2.1.length 0 (Nat.zero_add _)
 unfold Jg
 rw[if_pos h]
 exact this
theorem J9u {q:Reg} {e:Ev} {n:Int}:Uq q (n,e.2)=Uq q e:=by obtain⟨_,_,_,_,_⟩:=e;rfl
theorem J1q {q:Reg} {e:Ev} {n:Int}:Jd q (n,e.2)=Jd q e:=by
 obtain⟨_,_,_,_,_⟩:=e
 unfold Jd doS
 dsimp only
 split<;>rfl
theorem J8h {e:Ev} {n:Int} (h:Jc e=0) (h1:1≤n) (h2:n≤1000):Jc (n,e.2)=0:=by
 have hw:=Vg.2 ⟨(Ko h).num.1,(Ko h).num.2⟩
 unfold Jc at h⊢
 rw[if_neg (by rw[hw];simp)] at h
 rw[if_neg (by rw[Vg.2 ⟨h1,h2⟩];simp)]
 exact h
theorem Jer {s:ByteArray}:∀{C:List Ev} {r R:Reg} {h:Kh},Juc r C R→J1e r→J6y s r (J8 h.2.2)→h.1.length+C.length≤1000→(Xc h (Um (C.filter fun e=>abS R e s) h.1.length)).2.2=0∧(Xc h (Um (C.filter fun e=>abS R e s) h.1.length)).1.2.1=h.2.1++Um (C.filter fun e=>abS R e s) h.1.length∧J6y s R (J8 (Xc h (Um (C.filter fun e=>abS R e s) h.1.length)).1.2.2)
 |[],r,R,h,hc,_,hp,_=>by
  have hc:r=R:=hc
  rw[←hc]
  exact⟨rfl,(List.append_nil _).symm,hp⟩
 | e :: C, r, R, h, hc, hM, hp, hl => by
  obtain⟨⟨c1,c2,c3,c4,c5,c6⟩,hc⟩:=hc
  have hM':=Jl8 hM c4 c5 c6
  obtain⟨p1,p2⟩:=Jwb c1 hM hp c4 c5 c6
  have hab:abS R e s=abS (Jd r e) e s:=Kix c2 (Jmw hc) c3
  simp only[List.length_cons] at hl
  cases q:abS (Jd r e) e s with
  |false=>
   rw[List.filter_cons_of_neg (by rw[hab,q];simp)]
   exact Jer hc hM' (p2 q) (by omega)
  | true =>
   rw[List.filter_cons_of_pos (by rw[hab,q])]
   obtain⟨a1,a2⟩:=p1 q
   rw[show Um (e::C.filter fun e=>abS R e s) h.1.length=((h.1.length:Int)+1,e.2)::Um (C.filter fun e=>abS R e s) (h.1.length+1) from rfl]
   have ha:Kx h ((h.1.length:Int)+1,e.2)=0:=by
    unfold Kx
    rw[if_neg (by rw[J8h c4 (by omega) (by omega)];simp),Jpg (e:=((h.1.length:Int)+1,e.2)) rfl c5,J9u]
    exact a1
   obtain⟨E,D,G⟩:=h
   have eH:X1 (E,D,G) ((E.length:Int)+1,e.2)=(E++[((E.length:Int)+1,e.2)],D++[((E.length:Int)+1,e.2)],G++[Jd (J8 G) e]):=by
    unfold X1
    dsimp only
    rw[c5,cond_false,J1q]
   have hn:J8 (G++[Jd (J8 G) e])=Jd (J8 G) e:=by
    unfold J8
    rw[List.length_append,List.length_singleton,Nat.add_sub_cancel,Ll]
   have ih:=Jer (h:=X1 (E,D,G) ((E.length:Int)+1,e.2)) hc hM' (by rw[eH];show J6y s _ (J8 (G++_));rw[hn];exact a2) (by rw[Xm];dsimp only at hl⊢;omega)
   rw[Xm] at ih
   dsimp only at ih ha⊢
   rw[Vm,if_pos ha]
   refine⟨ih.1, ?_,ih.2.2⟩
   show(Xc _ _).1.2.1=D++(_::_)
   rw[ih.2.1,eH]
   show(D++[_])++_=_
   rw[List.append_assoc];rfl
theorem Jhz:∀{l:List Ev} {i:Nat},∀y∈Um l i,∃e∈l,y.2=e.2
 |[],_,y,h=>by cases h
 | e :: l, i, y, h => by
  unfold Um at h
  rcases List.mem_cons.1 h with h|h
  ·exact⟨e,List.mem_cons_self ..,by rw[h]⟩
  ·obtain⟨e',h1,h2⟩:=Jhz y h
   exact⟨e',List.mem_cons_of_mem _ h1,h2⟩
theorem Jhx:∀{l:List Ev} {i:Nat},Um (Um l i) i=Um l i
 |[],_=>rfl
 |e::l,i=>by
  show _::Um (Um l (i+1)) (i+1)=_
  rw[Jhx];rfl
theorem Jhy:∀{l:List Ev} {i k:Nat},k<l.length→((Um l i).getD k ev0).1=(i:Int)+k+1
 |[],_,_,h=>by cases h
 |e::l,i,0,_=>by show(i:Int)+1=_;omega
 |e::l,i,k+1,h=>by
  show((Um l (i+1)).getD k ev0).1=_
  rw[Jhy (by simpa using h)]
  push_cast;omega
theorem Jvs:∀{a b:List Ev} {h:Kh},(Xc h (a++b)).2.2=0→(Xc h a).2.2=0
 |[],_,_,_=>rfl
 |e::a,b,h,h0=>by
  rw[List.cons_append,Vm] at h0
  rw[Vm]
  by_cases ha:Kx h e=0
  ·rw[if_pos ha] at h0⊢;exact Jvs h0
  ·rw[if_neg ha] at h0;exact absurd h0 ha
theorem J9w {R:Reg} {e:Ev} {s:ByteArray} {t:Int} (hr:Jo R) (ha:Jd1 R e) (hb:abS R e s=true):abS (Vo s t R) e s=true:=by
 have h1:=ha.ord
 have h2:=ha.out
 have h3:=ha.per
 unfold abS at hb⊢
 split<;>rename_i q<;>simp only[q] at hb
 ·rfl
 ·have:=(X7 (p:=fun x:Ord=>x.1.toList==(e.2.2.1.getD 0 Jb).toList) (f:=fun x=>Ur x s) (d:=Ki) (h1 q).2 hb).2
  show Ur ((fO R.2.2.2.1 s).getD _ Ki) s=true
  exact(congrArg (fun x=>Ur x s) this).trans hb
 ·have:=(X7 (p:=fun x:Out=>x.1.toList==(e.2.2.1.getD 0 Jb).toList) (f:=aX s) (d:=Hp) (h2 q).2 hb).2
  show aX s ((fX R.2.2.2.2.2.1 s).getD _ Hp)=true
  exact(congrArg (fun x=>aX s x) this).trans hb
 ·have hx:=hr.per _ (Jjl (h3 q).2)
  have k1:Jbd (fQ R.2.2.2.2.2.1 R.2.2.2.2.2.2 s) (e.2.2.1.getD 0 Jb)=Jbd R.2.2.2.2.2.2 (e.2.2.1.getD 0 Jb):=(X7 (p:=fun x:Per=>x.1.toList==(e.2.2.1.getD 0 Jb).toList) (f:=aQ R.2.2.2.2.2.1 s) (d:=Fi) (h3 q).2 hb).2
  have k2:Y0 (fX R.2.2.2.2.2.1 s) (Jbd R.2.2.2.2.2.2 (e.2.2.1.getD 0 Jb)).2.1=Y0 R.2.2.2.2.2.1 (Jbd R.2.2.2.2.2.2 (e.2.2.1.getD 0 Jb)).2.1:=(X7 (p:=fun x:Out=>x.1.toList==(Jbd R.2.2.2.2.2.2 (e.2.2.1.getD 0 Jb)).2.1.toList) (f:=aX s) (d:=Hp) hx hb).2
  show aX s (Y0 (fX R.2.2.2.2.2.1 s) (Jbd (fQ R.2.2.2.2.2.1 R.2.2.2.2.2.2 s) _).2.1)=true
  rw[k1,k2];exact hb
 ·cases hb
theorem J5x {R:Reg} {y e:Ev} {s:ByteArray} (h:y.2=e.2):abS R y s=abS R e s:=by
 unfold abS
 rw[h]
structure Klp (l:List Ev) (s:ByteArray):Prop where
 err:Vl l s=0
 len:(Jx l s).length≤l.length
 num:∀k,k<(Jx l s).length→((Jx l s).getD k ev0).1=(k:Int)+1
 kind:∀y∈Jx l s,(y.2.1.toList==Jl.toList)=false∧(y.2.1.toList==Jh.toList)=false∧Jc y=0
 acc:∀k,k<(Jx l s).length→Ja0 ((Jx l s).take k) ((Jx l s).getD k ev0)=0
 run:(Ja (Jx l s)).2.2=0
 two:Jx (Jx l s) s=Jx l s∧Vl (Jx l s) s=0
 reg:∃t,Jg (Jx l s)=Vo s t (Jg l)
theorem Jli {l:List Ev} {s:ByteArray} (h0:(Ja l).2.2=0) (hs:Vt (Jg l) 0 s=true):Vl l s=0:=by
 unfold Vl
 rw[h0,hs];rfl
theorem Jnu {l:List Ev} {s:ByteArray} (h0:(Ja l).2.2=0) (hs:Vt (Jg l) 0 s=true):Klp l s:=by
 have hE:=Jli h0 hs
 have hT:Jx l s=Um ((Ja l).1.2.1.filter fun e=>abS (Jg l) e s) 0:=by unfold Jx V1;rw[if_pos hE]
 have hi:=Hf (l:=l)
 have hev:(Ja l).1.1.length≤1000:=hi.ok.nE
 have hC:(Ja l).1.2.1.length≤1000:=by have:=hi.ok.nC;omega
 have hch:=Jmx h0
 have hreg:Jg l=J8 (Ja l).1.2.2:=by unfold Jg;rw[if_pos h0]
 have hnow:Jo (Jg l):=D0
 have hab:∀e∈(Ja l).1.2.1,Jd1 (Jg l) e:=fun e he=>hreg▸J5f hi Jji he
 obtain⟨r1,r2,t,_,r3⟩:=Jer (s:=s) (h:=Vn) hch (fun m hm=>by cases hm) ⟨0,Int.le_refl _,rfl⟩ (by show 0+_≤_;omega)
 have hz:Vn.1.length=0:=rfl
 rw[hz,←hT] at r1 r2 r3
 have hlen:(Jx l s).length≤(Ja l).1.2.1.length:=by rw[hT,Zt];exact List.length_filter_le _ _
 have hrep:Ja (Jx l s)=Xc Vn (Jx l s):=by unfold Ja;rw[if_neg (by omega)]
 have r2:(Xc Vn (Jx l s)).1.2.1=Jx l s:=r2
 have hrun:(Ja (Jx l s)).2.2=0:=by rw[hrep];exact r1
 have hrg:Jg (Jx l s)=Vo s t (Jg l):=by
  have:Jg (Jx l s)=J8 (Ja (Jx l s)).1.2.2:=by unfold Jg;rw[if_pos hrun]
  rw[this,hrep];exact r3
 have hmem:∀y∈Jx l s,∃e∈(Ja l).1.2.1,y.2=e.2∧abS (Jg l) e s=true:=fun y hy=>by
  rw[hT] at hy
  obtain⟨e,he,h⟩:=Jhz y hy
  have:=List.mem_filter.1 he
  exact⟨e,this.1,h,by simpa using this.2⟩
 have hln:(Jx l s).length≤l.length:=by
  have h1:=hi.ok.nC
  have h2:(Ja l).1.1.length=l.length:=by rw[Jqp h0]
  omega
 have hnum:∀k,k<(Jx l s).length→((Jx l s).getD k ev0).1=(k:Int)+1:=fun k hk=>by
  rw[hT] at hk⊢
  rw[Zt] at hk
  rw[Jhy hk];simp
 have hchk:∀y∈Jx l s,Jc y=0:=fun y hy=>Jvv r1 y hy
 refine⟨hE,hln,hnum,fun y hy=> ?_,fun k hk=> ?_,hrun, ?_,t,hrg⟩
 ·obtain⟨e,he,h1,h2⟩:=hmem y hy
  rw[←J5x h1] at h2
  refine⟨?_, ?_,hchk y hy⟩
  ·cases q:y.2.1.toList==Jl.toList with
   |false=>rfl
   |true=>
    unfold abS at h2
    rw[Ye q,D3] at h2;cases h2
  ·cases q:y.2.1.toList==Jh.toList with
   |false=>rfl
   |true=>
    unfold abS at h2
    rw[Ye q,K6] at h2;cases h2
 ·have e1:Jx l s=(Jx l s).take k++(Jx l s).getD k ev0::(Jx l s).drop (k+1):=by rw[←Jn (d:=ev0) hk,List.take_append_drop]
  have q0:=r1
  rw[e1] at q0
  have q1:=Jvs q0
  rw[Jd7 q1,Vm] at q0
  have q2:Kx (Xc Vn ((Jx l s).take k)).1 ((Jx l s).getD k ev0)=0:=by
   by_cases a:Kx (Xc Vn ((Jx l s).take k)).1 ((Jx l s).getD k ev0)=0
   ·exact a
   ·rw[if_neg a] at q0;exact absurd q0 a
  have hrk:Ja ((Jx l s).take k)=Xc Vn ((Jx l s).take k):=by unfold Ja;rw[if_neg (by rw[List.length_take];omega)]
  obtain⟨b1,b2⟩:=add_zero q2
  unfold Ja0 Jii
  rw[hrk,q1,b1,decide_eq_false (by rw[List.length_take];omega)]
  exact b2
 ·have hE2:Vl (Jx l s) s=0:=Jli hrun (by rw[hrg];exact hs)
  refine⟨?_,hE2⟩
  have hL:V1 (Jx l s) s=Jx l s:=by
   unfold V1
   rw[hrep,r2,hrg]
   refine List.filter_eq_self.2 fun y hy=> ?_
   obtain⟨e,he,h1,h2⟩:=hmem y hy
   rw[J5x h1]
   exact J9w hnow (hab e he) h2
  unfold Jx
  rw[if_pos (show Vl (if Vl l s=0 then Um (V1 l s) 0 else[]) s=0 from hE2),if_pos hE]
  have hL:V1 (if Vl l s=0 then Um (V1 l s) 0 else[]) s=_:=hL
  rw[if_pos hE] at hL
  rw[hL]
  unfold Jx
  rw[if_pos hE]
  exact Jhx
theorem Jle {l:List Ev} {e:Ev} (h0:(Ja l).2.2=0) (hl:l.length≤900) (ha:Ja0 l e=0) (hk:(e.2.1.toList==Jl.toList)=false):
  ((e.2.1.toList==Jh.toList)=true→(Ja (l++[e]++[((l.length:Int)+2,Jl,[],[],Jb)])).2.2=21∧(Ja (l++[e]++[((l.length:Int)+2,Jl,[],[],Jb)])).2.1=(l.length:Int)+2)∧
  ((e.2.1.toList==Jh.toList)=false→(Ja (l++[e]++[((l.length:Int)+2,Jl,[],[],Jb)])).2.2=0∧Jg (l++[e]++[((l.length:Int)+2,Jl,[],[],Jb)])=Jg l):=by
 have hac:Jii l e=0:=by
  by_cases q:Jii l e=0
  ·exact q
  ·unfold Ja0 at ha;rw[if_neg q] at ha;exact absurd ha q
 have hacc:Lt (Ja l).1 e=0:=by unfold Ja0 at ha;rw[if_pos hac] at ha;exact ha
 have hck:Jc e=0:=by
  unfold Jii at hac
  exact(L5 hac).2.1
 have hadd:Kx (Ja l).1 e=0:=by unfold Kx;rw[if_neg (by rw[hck];simp)];exact hacc
 have hi:=Hf (l:=l)
 have hev:=Jqp h0
 have hr:Ja l=Xc Vn l:=by unfold Ja;rw[if_neg (by omega)]
 have hreg:Jg l=J8 (Ja l).1.2.2:=by unfold Jg;rw[if_pos h0]
 have n3:=hi.ok.nG
 have hR:Ja (l++[e]++[((l.length:Int)+2,Jl,[],[],Jb)])=Xc (X1 (Ja l).1 e) [((l.length:Int)+2,Jl,[],[],Jb)]:=by
  have e1:Ja (l++[e]++[((l.length:Int)+2,Jl,[],[],Jb)])=Xc Vn (l++[e]++[((l.length:Int)+2,Jl,[],[],Jb)]):=by unfold Ja;rw[if_neg (by simp only[List.length_append,List.length_singleton];omega)]
  rw[e1,List.append_assoc,Jd7 (by rw[←hr];exact h0),←hr,List.cons_append,Vm,if_pos hadd];rfl
 generalize(Ja l).1=g at*
 obtain⟨E,C,G⟩:=g
 dsimp only at hev n3 hreg
 subst hev
 have eH:X1 (E,C,G) e=(E++[e],C++[e],G++[Jd (J8 G) e]):=by unfold X1;rw[hk,cond_false]
 rw[eH] at hR
 have hc2:Jc ((E.length:Int)+2,Jl,[],[],Jb)=0:=by
  unfold Jc
  dsimp only
  rw[if_neg (by rw[Vg.2 ⟨by omega,by omega⟩];simp),show Y2 Jl=true from by kernel_rfl,cond_true,D3]
  rfl
 have hA:Kx (E++[e],C++[e],G++[Jd (J8 G) e]) ((E.length:Int)+2,Jl,[],[],Jb)=bif e.2.1.toList==Jh.toList then 21 else 0:=by
  unfold Kx
  rw[if_neg (by rw[hc2];simp)]
  unfold Lt
  dsimp only
  rw[show((E.length:Int)+2 !=((E++[e]).length:Int)+1)=false from by rw[List.length_append,List.length_singleton];simp;omega,cond_false,Xi,cond_true]
  rw[show(((C++[e]).length:Int)==0)=false from by rw[List.length_append,List.length_singleton];simp;omega,cond_false,List.length_append,List.length_singleton,Nat.add_sub_cancel,Ll]
 refine⟨fun hs=> ?_,fun hs=> ?_⟩
 ·rw[hs,cond_true] at hA
  rw[hR,Vm,if_neg (by rw[hA];decide),hA]
  refine⟨rfl, ?_⟩
  show((E++[e]).length:Int)+1=_
  rw[List.length_append,List.length_singleton];push_cast;omega
 ·rw[hs,cond_false] at hA
  have hR2:Ja (E++[e]++[((E.length:Int)+2,Jl,[],[],Jb)])=(X1 (E++[e],C++[e],G++[Jd (J8 G) e]) ((E.length:Int)+2,Jl,[],[],Jb),0,0):=by
   rw[hR,Vm,if_pos hA];rfl
  have e3:(Ja (E++[e]++[((E.length:Int)+2,Jl,[],[],Jb)])).2.2=0:=by rw[hR2]
  refine⟨e3, ?_⟩
  unfold Jg
  rw[if_pos e3,hR2,if_pos h0]
  unfold X1
  dsimp only
  rw[Xi,cond_true]
  show J8 ((G++[_]).take ((C++[e]).length-1))=_
  rw[List.length_append,List.length_singleton,Nat.add_sub_cancel,List.take_left' (by omega)]
  have:Jg E=J8 G:=hreg
  unfold Jg at this
  rw[if_pos h0] at this
  exact this.symm
def Jck (l:List ByteArray):List (ByteArray×Bool):=l.foldl (fun m n=>Zp .str n true m) []
theorem Jce {a b:ByteArray}:L1 .str a b=true↔a=b:=⟨fun h=>Ye h,fun h=>by rw[h];exact Xi b⟩
theorem Jop {n k:ByteArray} {v:Bool}:∀{m:List (ByteArray×Bool)},Ue .str n (Zp .str k v m)=if n=k then some v else Ue .str n m
 |[]=>by
  unfold Zp Ue Ue
  by_cases h:n=k
  ·rw[if_pos (Jce.2 h),if_pos h]
  ·rw[if_neg (fun q=>h (Jce.1 q)),if_neg h]
 | x :: m => by
  have ih:=Jop (n:=n) (k:=k) (v:=v) (m:=m)
  unfold Zp
  by_cases q:L1 .str k x.1=true
  ·rw[if_pos q]
   have q':=Jce.1 q
   unfold Ue
   by_cases h:n=k
   ·rw[if_pos (Jce.2 h),if_pos h]
   ·rw[if_neg (fun q=>h (Jce.1 q)),if_neg h,if_neg (fun r=>h ((Jce.1 r).trans q'.symm))]
  ·rw[if_neg q]
   unfold Ue
   by_cases r:L1 .str n x.1=true
   ·rw[if_pos r,if_pos r,if_neg (fun h=>q (by rw[←h];exact r))]
   ·rw[if_neg r,if_neg r,ih]
theorem Jqg {n:ByteArray} {l:List ByteArray}:(Ue .str n (Jck l)).getD false=true↔n∈l:=by
 have go:∀(l:List ByteArray) (m:List (ByteArray×Bool)),(∀k,Ue .str k m≠some false)→((Ue .str n (l.foldl (fun m n=>Zp .str n true m) m)).getD false=true↔n∈l∨(Ue .str n m).getD false=true):=by
  intro l
  induction l with
  |nil=>intro m _;simp
  | cons a l ih =>
   intro m hm
   rw[List.foldl_cons,ih]
   ·rw[Jop,List.mem_cons]
    by_cases h:n=a
    ·rw[if_pos h];simp[h]
    ·rw[if_neg h];simp[h]
   ·intro k
    rw[Jop]
    by_cases h:k=a
    ·rw[if_pos h];simp
    ·rw[if_neg h];exact hm k
 have:=go l [] (fun k=>by simp[Ue])
 unfold Jck
 rw[this]
 simp[Ue]
theorem Jl7 {l:List ByteArray} {n:ByteArray}:Jck (l++[n])=Zp .str n true (Jck l):=by
 unfold Jck
 rw[List.foldl_append];rfl
theorem Jws {α β:Type} {f:α→β}:∀{l:List α},(l.map f).Nodup→∀{x y:α},x∈l→y∈l→f x=f y→x=y
 |[],_,_,_,h,_,_=>by cases h
 |a::l,h,x,y,hx,hy,e=>by
  rw[List.map_cons,List.nodup_cons] at h
  rcases List.mem_cons.1 hx with hx|hx<;>rcases List.mem_cons.1 hy with hy|hy
  ·rw[hx,hy]
  ·exact absurd (List.mem_map.2 ⟨y,hy,by rw[←e,hx]⟩) h.1
  ·exact absurd (List.mem_map.2 ⟨x,hx,by rw[e,hy]⟩) h.1
  ·exact Jws h.2 hx hy e
theorem J5c {O:List Ord} {n:ByteArray} (h:0≤Kg O n):(Vy O n).1=n:=by
 have:=List.find?_some (Jbj (p:=fun x:Ord=>x.1.toList==n.toList) (d:=Ki) h)
 exact Ye this
theorem J5b {X:List Out} {n:ByteArray} (h:0≤Jw X n):(Y0 X n).1=n:=by
 have:=List.find?_some (Jbj (p:=fun x:Out=>x.1.toList==n.toList) (d:=Hp) h)
 exact Ye this
theorem J7x {O:List Ord} {n s:ByteArray} (hu:Kdg O) (hf:0≤Kg O n):(Ue .str n (Jck ((fO O s).map fun x=>x.1))).getD false=Ur (Vy O n) s:=by
 have:(Ue .str n (Jck ((fO O s).map fun x=>x.1))).getD false=true↔Ur (Vy O n) s=true:=by
  rw[Jqg]
  constructor
  ·intro h
   obtain⟨x,hx,e⟩:=List.mem_map.1 h
   obtain⟨h1,h2⟩:=List.mem_filter.1 hx
   have:Vy O n=x:=Jws hu (D1 hf) h1 (by rw[J5c hf];exact e.symm)
   rw[this];simpa using h2
  ·intro h
   exact List.mem_map.2 ⟨Vy O n,List.mem_filter.2 ⟨D1 hf,by simpa using h⟩,J5c hf⟩
 exact Bool.eq_iff_iff.2 this
theorem Jxw {X:List Out} {n s:ByteArray} (hu:Jb9 X) (hf:0≤Jw X n):(Ue .str n (Jck ((fX X s).map fun x=>x.1))).getD false=aX s (Y0 X n):=by
 have:(Ue .str n (Jck ((fX X s).map fun x=>x.1))).getD false=true↔aX s (Y0 X n)=true:=by
  rw[Jqg]
  constructor
  ·intro h
   obtain⟨x,hx,e⟩:=List.mem_map.1 h
   obtain⟨h1,h2⟩:=List.mem_filter.1 hx
   have:Y0 X n=x:=Jws hu (Jjo hf) h1 (by rw[J5b hf];exact e.symm)
   rw[this];exact h2
  ·intro h
   exact List.mem_map.2 ⟨Y0 X n,List.mem_filter.2 ⟨Jjo hf,h⟩,J5b hf⟩
 exact Bool.eq_iff_iff.2 this
end Go.Proofs.YtcibbcfiemeoiaaGreatDoor

/- The law walked: part of the proof. -/
import Derived.Test.YtcibbcfiemeoiaaGreatDoorFC
set_option linter.unusedSimpArgs false
set_option linter.unusedVariables false
set_option maxRecDepth 20000
namespace Go.Proofs.YtcibbcfiemeoiaaGreatDoor
open Go.Sx
set_option maxHeartbeats 20000000
abbrev Udw:=K72
abbrev Udv:=Udw.add K8i
abbrev Udu:=Udv.add K8g
abbrev Udt:=Udu.add K8e
abbrev Uds:=Udt.add K8f
abbrev Udr:=Uds.add K8h
abbrev Udq:=Udr.add Uck
abbrev J8w (lg:ByteArray) (l:List ByteArray):Ann:={X:=J9×Nat,σ:=fun(h,k)=>⟨9,[(5, .one (.ptr 5 0)),(14, .one (.sl 3)),(15, .one (.int .i64 (Jc lg).1.length)),(16, .one (.int .i64 k))],[(0, .imm 9 .str l),(1, .imm 67 sEv (Jc lg).1),(2, .sus [(5, .one (.sl 1)),(7, .one (.int .i64 (Jc lg).2.2)),(1, .one (.sl 0))]),(3, .imm 67 sEv (Jc lg).1),(4, .sus []),(5, .box 167 [.sl 6, .sl 7, .sl 8]),(6, .own 67 sEv h.1),(7, .own 67 sEv h.2.1),(8, .own 105 Jkq h.2.2)]⟩,inv:=fun(h,k)=>Vs h∧h.1.length=k∧k≤(Jc lg).1.length∧(Jc lg).1.length≤1000∧Zm h ((Jc lg).1.drop k)=Ja (Jc lg).1,mu:=fun(_,k)=>(Jc lg).1.length-k}
abbrev Kj3 (l:List ByteArray):Ann:={X:=J9×Nat,σ:=fun(h,k)=>⟨10,[(5, .one (.sl 1)),(8, .one (.ptr 9 0)),(69, .one (.sl 0)),(70, .one (.int .i64 l.length)),(71, .one (.int .i64 k))],[(0, .imm 9 .str l),(1, .imm 67 sEv h.1),(9, .box 212 [.sl 6, .sl 7, .sl 8]),(6, .own 67 sEv h.1),(7, .own 67 sEv h.2.1),(8, .own 105 Jkq h.2.2)]⟩,inv:=fun(h,k)=>k≤l.length∧Vs h∧Zk h∧Ja h.1=(h,0,0),mu:=fun(_,k)=>l.length-k,frz:=[5]}
abbrev Kzq (lg:ByteArray) (l:List ByteArray):Ann:={X:=Unit,σ:=fun _=>⟨10,[(1, .one (.sl 0)),(5, .one (.sl 1)),(8, .one (.ptr 9 0)),(9, .one (.int .i64 0))],[(0, .imm 9 .str l),(1, .imm 67 sEv (Jc lg).1),(9, .box 212 [.sl 6, .sl 7, .sl 8]),(6, .own 67 sEv (Ja (Jc lg).1).1.1),(7, .own 67 sEv (Ja (Jc lg).1).1.2.1),(8, .own 105 Jkq (Ja (Jc lg).1).1.2.2)]⟩,inv:=fun _=>(Ja (Jc lg).1).2.2=0∧l.length≤8,mu:=fun _=>0,un:=7779}
theorem J04 {h:J9} {s:ByteArray} (hi:Vs h) (hr:Ja h.1=(h,0,0)):((doF h s).1.1.length=h.1.length→(doF h s).1=h)∧((doF h s).1.1.length≠h.1.length→(doF h s).1.1=h.1++[evD h (doW s)]∧Ja (doF h s).1.1=((doF h s).1,0,0)∧h.1.length<1000):=by
 have ad:∀{h:J9} {e:Ev},(Ho h e).1=h.1++[e]:=by intro h e;unfold Ho;cases e.2.1.toList==J1.toList<;>rfl
 rcases Kib h s with c|⟨_,_,_,c4,c5,c6⟩
 ·exact⟨fun _=>c,fun q=>absurd (by rw[c]) q⟩
 have hE:h.1.length<1000:=by
  cases hc:decide (1000≤(h.1.length:Int)) with
  |false=>have:=of_decide_eq_false hc;omega
  |true=>
   rw[do2,hc] at c4
   cases hx:(Um (doW s)).2<;>rw[hx] at c4<;>exact nomatch c4
 rw[c6]
 refine⟨fun q=> ?_,fun _=>⟨ad, ?_,hE⟩⟩
 ·dsimp only at q
  rw[Xy] at q;omega
 ·dsimp only
  have e0:Zm Y7 h.1=(h,0,0):=by
   have:=hr
   unfold Ja at this
   rw[if_neg (by omega)] at this
   exact this
  rw[ad]
  unfold Ja
  rw[if_neg (by rw[List.length_append,List.length_singleton];omega),Jjk (by rw[e0]),e0,Xz,if_pos c5]
  rfl
theorem K8y {x y:Int} (h:(x !=y)=false):x=y:=by simpa using h
theorem J7t (l:List Ev) (s:ByteArray):(doR l s).2.2=(doF (Ja l).1 s).2:=by unfold doR;split<;>rfl
theorem Jpw {l:List Ev} (h:(Ja l).2.2=0):Ja l=((Ja l).1,0,0)∧∀e∈l,Jd e=0:=by
 have go:∀(l:List Ev) (h:J9),(Zm h l).2.2=0→Zm h l=((Zm h l).1,0,0)∧∀e∈l,Jd e=0:=by
  intro l
  induction l with
  |nil=>intro h _;exact⟨rfl,fun _ q=>(by cases q)⟩
  | cons e l ih =>
   intro h h0
   by_cases ha:K3 h e=0
   ·rw[Xz,if_pos ha] at h0⊢
    exact⟨(ih _ h0).1,List.forall_mem_cons.2 ⟨(add_zero ha).1,(ih _ h0).2⟩⟩
   ·rw[Xz,if_neg ha] at h0;exact absurd h0 ha
 unfold Ja at h⊢
 by_cases q:1000<l.length
 ·rw[if_pos q] at h;exact absurd h (by decide)
 ·rw[if_neg q] at h⊢
  exact go l _ h
theorem J5f {e:Ev} (h:Jd e=0):Jbn e:=by
 have hE:=K1 h
 have hk:=Dx e.2.1
 have h1:=hE.nn
 have h2:=hE.nv
 refine⟨by omega,by omega,fun s hs=> ?_⟩
 exact Nat.le_trans (Jjt (hE.name s hs)) (by decide)
theorem Jlg (e:Ev):Ht e e=true:=by
 unfold Ht J18
 rw[Jeb Jr6,Jeb Jr5]
 simp
def Ky9:Con:={args:=[aS, .val false (.list 9 .str)],ress:=[Bo],owns:=[],pre:=fun _=>[],spec:=fun _=>(true,())}
def Z1 (a:Bt):=Ln (Jc a).1
def Z14 (a:Bt):=Ja (Jc a).1
def Z40 (a:Bt):=List.length (Jc a).1
def Z43 (a:Ls) (b:J9×Nat):=List.getD a b.2 B0
def Z63 (a:Bt):=(Z14 a).1.2
def Z70 (a:Bt):=(Ja (Jc a).1).2.2
def Z71 (a:Bt):=(Jc a).2.2==28
def Z73 (a:Bt):=(Jc a).2.2==0
def Khb (a:Bt):=(Jc a).1=(Jc a).1
def Kg8 (a:J9×Nat) (b:Ls):=doR a.1.1 (Z43 b a)
def Kg3 (a:J9×Nat) (b:Ls):=(Kg8 a b).1
def Knh (a:J9×Nat):=List.map (fun(x:Ev)=>Jtq x) a.1.1
def Kte:=Br true (Tw (true=true)) Z90
def Ktd:=Br false (Tw (true=true)) Z90
def Kmt (a:J9×Nat) (b:Ls):=doF (Jm1 a) (Z43 b a)
def Ksn (a:J9×Nat):=∀(e:Ev),e∈a.1.1→Xb e
def Ksm (a:J9×Nat) (b:Ls):=(Kmt a b).2
def J9o (a:Bt):=(Jc a).2.2 !=0
def Kmp (a:Bt) (b:Ls):=(Z14 a).2.2=0∧List.length b≤8
def Ksl (a:J9×Nat) (b:Ls):=(Kmt a b).1.2
def K7c (a:Bt) (b:J9×Nat):=List.getD (Jc a).1 b.2 Di
def K67 (a:Bt) (b:J9×Nat):=(K7c a b).2
def K63 (a:Bt) (b:J9×Nat):=(K67 a b).2
def Kfv (a:Bt):=Z70 a !=0
def Js9 (a:Bt) (b:Ls):Prop:=∃(y:Unit),False∧Kmp a b
def Kq5 (a:(List Ev×List Ev×List Reg)×Nat) (b:Ls):=a.2≤List.length b∧Vs a.1∧Zk a.1∧Ja a.1.1=(a.1,0,0)
def Kqi:=Br true Kte Ktd
def Kqf:=Br false Kte Ktd
def Kpe (a:(List Ev×List Ev×List Reg)×Nat) (b:Ls) (c:J9×Nat):=Kq5 a b∧List.length b-a.2<List.length b-c.2
def K1c (a:(List Ev×List Ev×List Reg)×Nat) (b:Bt):=Vs a.1∧List.length a.1.1=a.2∧a.2≤Z40 b∧Z40 b≤1000∧Zm a.1 (List.drop a.2 (Jc b).1)=Z14 b
def Koh:=Br true Kqi Kqf
def Kog (a:J9×Nat) (b:Ls) (c:(List Ev×List Ev×List Reg)×Nat):=(Kmt a b).1.1=c.1.1∧(Ksl a b).1=c.1.2.1∧(Ksl a b).2=c.1.2.2
def Kof:=Br false Kqi Kqf
def Kn7 (a:Ls) (b:Bt) (c:J9×Nat):Prop:=∃(y:Unit),Si (0:Int) (Sf a (Khb b∧c.1.1=(Z14 b).1.1∧c.1.2.1=(Z63 b).1∧c.1.2.2=(Z63 b).2))∧Kmp b a
def J39 (a:Bt) (b:J9×Nat):=((K7c a b).1,(K67 a b).1,(K63 a b).1,E2 (K63 a b).2)
def Kdl (a:J9×Nat) (b:Bt):=Vi (Jm1 a) (J39 b a)
def Jzc (a:J9×Nat) (b:Bt):=K3 (Jm1 a) (J39 b a)
def Kdk (a:J9×Nat) (b:Bt):=(Kdl a b).2
def Kc9 (a:J9×Nat) (b:Bt):=Jzc a b !=0
def Dj (a:Bt) (b:Ls):Prop:=∀(y:Unit),Kmp a b→∃(x:(List Ev×List Ev×List Reg)×Nat),Si (Ln b) ((0:Int)=Nc x.2∧Sf b ((Jc a).1=x.1.1∧(Z14 a).1.1=x.1.1∧(Z63 a).1=x.1.2.1∧(Z63 a).2=x.1.2.2))∧Kq5 x b∧∀(x:J9×Nat),x.2≤List.length b∧Vs x.1∧Zk x.1∧Ja x.1.1=(x.1,(0:Int),(0:Int))→Br (decide (Nc x.2<Ln b)) (Tw (Bd (Nc x.2) (Ln b))∧Br (bif decide ((300:Int)<Nc (ByteArray.size (Z43 b x))) then Nc (ByteArray.size (Z43 b x)) !=(4097:Int) else false) (Tw (true=true)) ((lOk x.1.1∧(Ja x.1.1).2.2=(0:Int)∧Zk (Ja x.1.1).1∧ByteArray.size (Z43 b x)≤(1000000:Nat))∧(Vs (Jm1 x)∧Zk (Jm1 x)∧ByteArray.size (Z43 b x)≤(1000000:Nat))∧Br (bif (Ksm x b).2 !=(Kg8 x b).2.2.2 then true else !Lb (Ksm x b).1 (Kg8 x b).2.2.1) Z90 (Br (Kg8 x b).2.1 ((((0:Nat)+List.length x.1.1)*(88:Nat)≤(140737488355328:Nat)∧(List.length x.1.1+(1:Nat))*(88:Nat)≤(140737488355328:Nat))∧Z50 x∧∃(y:(List Ev×List Ev×List Reg)×Nat),Si (Ln b) (Jpb x y∧Sf b (x.1.1++[((Kg3 x b).1,(Kg3 x b).2.1,(Kg3 x b).2.2.1,E2 (Kg3 x b).2.2.2)]=y.1.1∧Kog x b y))∧Kpe y b x) (Z50 x∧∃(y:(List Ev×List Ev×List Reg)×Nat),Si (Ln b) (Jpb x y∧Sf b (x.1.1=y.1.1∧Kog x b y))∧Kpe y b x)))) ((List.length x.1.1≤(1000000:Nat)∧∀(x_1:Ev),x_1∈x.1.1→J24 x_1)∧(List.length (List.map (fun(x:Ev)=>x) x.1.1)≤(1000000:Nat)∧∀(x_1:Ev),x_1∈List.map (fun(x:Ev)=>x) x.1.1→J24 x_1)∧Br (eqL Ht (List.map (fun(x:Ev)=>x) x.1.1) x.1.1) ((List.length x.1.1≤(1000000:Nat)∧Ksn x∧List.length (Knh x)≤(1000000:Nat)∧List.length (Lib.join (List.map (fun(x:ByteArray)=>Z11 x) (Knh x)) [])≤(140737488355328:Nat))∧(List.length x.1.1≤(1001:Nat)∧Ksn x)∧Br (Lb (Uj (Knh x) B0) (Jie x.1.1)) Koh Kof) (Br false Koh Kof))
def Kan (a:Bt) (b:Ls):=lOk (Jc a).1∧Br (Kfv a) (Sf true ((bif bif true then 0==Z70 a else false then true else false)=true)) (Js9 a b)∧Dj a b
def Kam (a:Bt) (b:Ls):=lOk (Jc a).1∧Br (Kfv a) (Sf true ((bif bif true then 5==Z70 a else false then true else false)=true)) (Js9 a b)∧Dj a b
def Kal (a:Bt) (b:Ls):=lOk (Jc a).1∧Br (Kfv a) (Sf true ((bif bif true then(Jc a).2.2==Z70 a else false then true else false)=true)) (Js9 a b)∧Dj a b
def Kai (a:Bt) (b:Ls) (c:J9×Nat):=lOk (Jc a).1∧Br (Kfv a) Z90 (Kn7 b a c)∧Dj a b
def Kaf (a:Bt) (b:J9×Nat) (c:Ls):=lOk (Jc a).1∧Br (Kfv a) (Sf true ((bif bif true then Jzc b a==Z70 a else false then true else false)=true)) (Js9 a c)∧Dj a c
theorem Ucy (lg:ByteArray) (l:List ByteArray):Dj lg l:=by
 delta Z11 Z14 Z43 Z50 Z63 Z90 Jpb Kg8 Kg3 Jm1 Knh Kte Ktd Kmt Ksn Ksm Kmp J24 Ksl Kq5 Kqi Kqf Kpe Koh Kog Kof Dj Br Iw Bd Tw Sf Si Ln Nc B0 Lb E2
 intro _ ⟨h0,h8⟩
 have hh:=Jwe h0
 have hN0:Zk (Ja (Jc lg).1).1:=Jr9 (fun _ h=>(by cases h)) (fun _ _ _ _ hp ha=>Kkn hp ha) _
 refine⟨((Ja (Jc lg).1).1,(0:Nat)),⟨rfl,rfl,rfl,hh.symm,rfl,rfl,rfl⟩,⟨Nat.zero_le _,Jll,hN0,by dsimp only;rw[hh];exact(Jpw h0).1⟩,fun x hx=> ?_⟩
 obtain⟨⟨E,C,G⟩,k⟩:=x
 obtain⟨hk,hi,hN,hr⟩:=hx
 dsimp only at hk hi hN hr⊢
 have hb:∀e∈E,Jd e=0:=(Jpw (by rw[hr])).2
 have h1:(Ja E).1=(E,C,G):=by rw[hr]
 have hE:E.length≤1000:=hi.ok.nE
 have hl:lOk E:=⟨by omega,fun e he=>J5f (hb e he)⟩
 refine⟨fun hlt=> ?_,fun _=> ?_⟩
 ·have hlt:(k:Int)<l.length:=of_decide_eq_true hlt
  generalize l.getD k _=s
  refine⟨⟨⟨by omega,hlt⟩,by omega,hlt⟩,fun _=>⟨rfl,rfl⟩,fun hs=> ?_⟩
  have hz:s.size≤1000000:=by
   cases q:decide ((300:Int)<(s.size:Int)) with
   |false=>have:=of_decide_eq_false q;omega
   |true=>
    rw[q,cond_true] at hs
    have:(s.size:Int)=4097:=by simpa using hs
    omega
  have hd:=Kh9 (l:=s) hi hN
  have ha:=J7t E s
  rw[h1] at ha
  have hst:=J04 (s:=s) hi hr
  refine⟨⟨hl,by rw[hr],by rw[h1];exact hN,hz⟩,⟨hi,hN,hz⟩,fun hb=> ?_,fun _=>⟨fun hy=> ?_,fun hy=> ?_⟩⟩
  ·rw[ha] at hb
   simp at hb
  ·have hy':(doF (E,C,G) s).1.1.length≠E.length:=fun q=>by
    unfold doR at hy;rw[h1,if_pos q] at hy;cases hy
   obtain⟨e1,e2,e3⟩:=hst.2 hy'
   have e4:(doR E s).1=evD (E,C,G) (doW s):=by unfold doR;rw[h1,if_neg hy']
   refine⟨⟨by omega,by omega⟩,⟨by omega,by omega⟩,((doF (E,C,G) s).1,k+1),⟨rfl,by simp,rfl, ?_,rfl,rfl,rfl⟩,⟨by dsimp only;omega,hd.1,hd.2,e2⟩,by dsimp only;omega⟩
   rw[e4];exact e1.symm
  ·have hy':(doF (E,C,G) s).1.1.length=E.length:=by
    by_cases q:(doF (E,C,G) s).1.1.length=E.length
    ·exact q
    ·unfold doR at hy;rw[h1,if_neg q] at hy;cases hy
   have e1:=hst.1 hy'
   rw[e1]
   exact⟨⟨by omega,by omega⟩,((E,C,G),k+1),⟨rfl,by simp,rfl,rfl,rfl,rfl,rfl⟩,⟨by dsimp only;omega,hi,hN,hr⟩,by dsimp only;omega⟩
 ·have hB:∀e∈E,Xb e:=fun e he=>Jxq (hb e he)
  have hS:=Jl7 hB (by omega)
  have hsz:E.length≤1000000∧∀x∈E,x.2.2.1.length≤1000000∧x.2.2.2.1.length≤1000000:=⟨by omega,fun x hx=>by have:=hB x hx;have h1:=this.nn;have h2:=this.nv;omega⟩
  have hq:((Uj (E.map fun(x:Sch.T sEv)=>Jtq x) (ByteArray.mk (Array.mk []))).toList==(Jie E).toList)=true:=beq_iff_eq.2 rfl
  rw[List.map_id' E,Jeb Jlg,hq]
  exact⟨hsz,hsz,fun _=>⟨⟨by omega,hB,by rw[List.length_map];omega,Nat.le_trans hS (by decide)⟩,⟨by omega,hB⟩,by simp,by simp⟩,by simp⟩
theorem ok6:Ok Tryz.prog 6 Ky9:=J1g Udq Tryz.f6 (U6 (l:=([(38,Tryz.f38),(74,Tryz.f74),(40,Tryz.f40),(41,Tryz.f41),(42,Tryz.f42)]:List (Nat×Func))) (List.forall_mem_cons.2 ⟨by kernel_rfl,List.forall_mem_cons.2 ⟨by kernel_rfl,List.forall_mem_cons.2 ⟨by kernel_rfl,List.forall_mem_cons.2 ⟨by kernel_rfl,List.forall_mem_cons.2 ⟨by kernel_rfl,by simp⟩⟩⟩⟩⟩)) (fun xx=>fun id=>if id=0 then some (Kj3 xx.2.1) else if id=2000052 then some (Kzq xx.1 xx.2.1) else if id=1000068 then some J19 else none) (fun xx=>fun f id=>if f=74 then some (J8w xx.1 xx.2.1) else if(f=40∧id=1000017)∨((f=41∨f=42)∧id=1000004) then some J19 else none) fun xx=>by
 obtain⟨(lg:ByteArray),(l:List ByteArray),_⟩:=xx
 refine(by kernel_rfl:(Br (bif decide (1500<Nc (ByteArray.size lg)) then true else decide (8<Ln l)) (Tw (true=true)) (Br (bif J9o lg then(Jc lg).2.2 !=28 else false) (Br (Z71 lg) (Br true (Kal lg l) (Br false (Sf true ((bif bif true then Z73 lg else false then true else false)=true)) (Js9 lg l)∧Dj lg l)) (Br (Z73 lg) (Kal lg l) (Br (J9o lg) (Sf true ((bif bif true then(Jc lg).2.2==(Jc lg).2.2 else false then true else false)=true)) (Js9 lg l)∧Dj lg l))) (Br (decide (1000<Z1 lg)) (Br true (Br (Z71 lg) (Br true (Kam lg l) (Br false Z90 (Js9 lg l)∧Dj lg l)) (Br (Z73 lg) (Kam lg l) (Br (J9o lg) (Sf true ((bif bif true then 5==(Jc lg).2.2 else false then true else false)=true)) (Js9 lg l)∧Dj lg l))) False) (∃(x:(List Ev×List Ev×List Reg)×Nat),Si (Z1 lg) (0=Nc x.2∧Sf l (Khb lg∧Si (Jc lg).2.2 (Khb lg∧Kfk x)))∧K1c x lg∧∀(x:J9×Nat),Vs x.1∧List.length x.1.1=x.2∧x.2≤Z40 lg∧Z40 lg≤1000∧Zm x.1 (List.drop x.2 (Jc lg).1)=Z14 lg→Br (decide (Nc x.2<Z1 lg)) (Tw (Bd (Nc x.2) (Z1 lg))∧(J93 x∧List.length x.1.1<1000∧Jbn (J39 lg x))∧Br (Kc9 x lg) (Z50 x∧Br (Kc9 x lg) (Br (Z71 lg) (Br true (Kaf lg x l) (Br false (Sf true ((bif bif true then Jzc x lg==0 else false then true else false)=true)) (Js9 lg l)∧Dj lg l)) (Br (Z73 lg) (Kaf lg x l) (Br (J9o lg) (Sf true ((bif bif true then Jzc x lg==(Jc lg).2.2 else false then true else false)=true)) (Js9 lg l)∧Dj lg l))) False) (Z50 x∧∃(y:(List Ev×List Ev×List Reg)×Nat),Si (Z1 lg) (Jpb x y∧Sf l (Khb lg∧Si (Jc lg).2.2 (Khb lg∧(Kdl x lg).1=y.1.1∧(Kdk x lg).1=y.1.2.1∧(Kdk x lg).2=y.1.2.2)))∧K1c y lg∧Z40 lg-y.2<Z40 lg-x.2)) (Br false (Br (Z71 lg) (Br true (Kan lg l) (Br false (Tw (true=true)) (Js9 lg l)∧Dj lg l)) (Br (Z73 lg) (Kan lg l) (Br (J9o lg) (Sf true ((bif bif true then 0==(Jc lg).2.2 else false then true else false)=true)) (Js9 lg l)∧Dj lg l))) (Br (Z71 lg) (Br true (Kai lg l x) (Br false Z90 (Kn7 l lg x)∧Dj lg l)) (Br (Z73 lg) (Kai lg l x) (Br (J9o lg) Z90 (Kn7 l lg x)∧Dj lg l))))))))=_).mp ?_
 delta Z1 Z11 Z14 Z40 Z43 Z50 Z63 Z70 Z71 Z73 Z90 Khb Jpb Kg8 Kg3 Jm1 Knh Di J93 Kte Ktd Kmt Ksn Ksm J9o Kmp J24 Ksl K7c K67 K63 Kfv Kfk Js9 Kq5 Kqi Kqf Kpe K1c Koh Kog Kof Kn7 J39 Kdl Jzc Kdk Kc9 Kan Kam Kal Kai Kaf Br Iw Bd Tw Sf Si Ln Nc B0 Lb E2
 rw[eq_true (Ucy lg l)]
 have hl:lOk (Jc lg).1:=⟨by have:=Je4 lg;omega,fun e he=>J5f (Jn8 lg e he)⟩
 have hlen:=Je4 lg
 generalize Jc lg=r at hl hlen⊢
 obtain⟨L,a,e⟩:=r
 dsimp only at hl hlen⊢
 refine⟨fun _=>⟨rfl,rfl⟩,fun h8=> ?_⟩
 have h8:l.length≤8:=by
  cases q:decide (8<(l.length:Int)) with
  |false=>have:=of_decide_eq_false q;omega
  |true=>rw[q] at h8;cases q:decide (1500<(lg.size:Int))<;>rw[q] at h8<;>cases h8
 have hd:decide (1000<(L.length:Int))=false:=decide_eq_false (by omega)
 have hc:e=0∨e=28∨((e !=0)=true∧(e==0)=false∧(e==28)=false∧(e !=28)=true):=by
  by_cases h0:e=0
  ·exact .inl h0
  by_cases h1:e=28
  ·exact .inr (.inl h1)
  exact .inr (.inr (by simp[h0,h1]))
 rcases hc with rfl|rfl|⟨c1,c2,c3,c4⟩
 rotate_left 2
 ·simp only[c1,c2,c3,c4,hd,cond_true,cond_false,true_implies,false_implies,reduceCtorEq,true_and,and_true,and_self,implies_true,BEq.rfl]
 all_goals simp only[hd,h8,show((0:Int) !=0)=false from rfl,show((0:Int)==28)=false from rfl,show((0:Int)==0)=true from rfl,show((28:Int) !=0)=true from rfl,show((28:Int) !=28)=false from rfl,show((28:Int)==28)=true from rfl,cond_true,cond_false,true_implies,false_implies,reduceCtorEq,true_and,and_true,and_self,implies_true,BEq.rfl,false_and,exists_false,exists_const]
 all_goals have e0:Ja L=Zm Y7 L:=by unfold Ja;rw[if_neg (by omega)]
 all_goals refine⟨(Y7,(0:Nat)),⟨rfl,rfl,rfl,rfl⟩,⟨Xx,rfl,Nat.zero_le _,hlen,e0.symm⟩,fun(x:J9×Nat) hx=>⟨fun h1=> ?_,fun h1=> ?_⟩⟩
 iterate 2
  ·obtain⟨g,k⟩:=x
   obtain⟨hi,hk,hk2,-,hrun⟩:=hx
   dsimp only at hi hk hk2 hrun h1
   have hlt:k<L.length:=by simpa using h1
   rw[Jq (d:=ev0) hlt,Zm] at hrun
   have hz:=hl.2 _ (Je (d:=ev0) hlt)
   refine⟨⟨by dsimp only;omega,by dsimp only;omega⟩,⟨hi.ok,by show g.1.length<1000;omega,hz⟩,fun h3=> ?_,fun h3=> ?_⟩
   ·have h3:K3 g (L.getD k ev0)≠0:=bne_iff_ne.1 h3
    rw[if_neg h3] at hrun
    have q:(Ja L).2.2=K3 g (L.getD k ev0):=by rw[←hrun]
    refine⟨⟨by dsimp only;omega,by dsimp only;omega⟩,fun _=>⟨hl,fun _=> ?_,fun h4=> ?_⟩,fun h4=> ?_⟩
    ·rw[q]
     show(bif K3 g (L.getD k ev0)==K3 g (L.getD k ev0) then true else false)=true
     rw[BEq.rfl]
     rfl
    ·rw[q] at h4
     exact h3 (by simpa using h4)
    ·exact h3 (K8y h4)
   ·have h2:K3 g (L.getD k ev0)=0:=K8y h3
    have eP:Vi g (L.getD k ev0)=Ho g (L.getD k ev0):=by unfold Vi;rw[if_pos h2]
    rw[if_pos h2] at hrun
    refine⟨⟨by dsimp only;omega,by dsimp only;omega⟩,(Ho g (L.getD k ev0),k+1),⟨by simp, ?_, ?_, ?_⟩,⟨Jb0 hi (by omega) h2,by dsimp only;rw[Xy,hk],by dsimp only;omega,hlen,hrun⟩,by dsimp only;omega⟩
    ·show(Vi g (L.getD k ev0)).1=_;rw[eP]
    ·show(Vi g (L.getD k ev0)).2.1=_;rw[eP]
    ·show(Vi g (L.getD k ev0)).2.2=_;rw[eP]
  ·obtain⟨g,k⟩:=x
   obtain⟨hi,hk,hk2,-,hrun⟩:=hx
   dsimp only at hi hk hk2 hrun h1
   have hlt:¬k<L.length:=by simpa using h1
   have:k=L.length:=by omega
   rw[this,List.drop_length,Zm] at hrun
   rw[←hrun]
   exact⟨hl,fun h=>(by cases h),fun _=>⟨⟨rfl,rfl,rfl⟩,rfl⟩⟩
end Go.Proofs.YtcibbcfiemeoiaaGreatDoor

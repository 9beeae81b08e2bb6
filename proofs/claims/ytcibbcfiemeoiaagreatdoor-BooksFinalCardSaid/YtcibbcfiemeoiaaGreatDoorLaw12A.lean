/- The law walked: part of the proof. -/
import Derived.Test.YtcibbcfiemeoiaaGreatDoorFC
set_option linter.unusedSimpArgs false
set_option linter.unusedVariables false
set_option maxRecDepth 20000
namespace Go.Proofs.YtcibbcfiemeoiaaGreatDoor
open Go.Sx
set_option maxHeartbeats 20000000
theorem Jxh {l:List Ev} (h:J1k l 20=true):lOk l∧l.length≤20∧(Jb l).2.2=0:=by
 unfold J1k at h
 cases q:Xm l 20 with
 |false=>rw[q] at h;cases h
 |true=>
  rw[q,cond_true] at h
  obtain⟨h1,h2⟩:=Jkz (by decide) q
  exact⟨h1,by omega,by simpa using h⟩
abbrev Kc9 (l:List Ev):Ann:={X:=Nat,σ:=fun k=>⟨8,[(0, .one (.sl 0)),(3, .one (.ptr 6 0)),(6, .one (.sl 7)),(54, .one (.sl 0)),(55, .one (.int .i64 l.length)),(56, .one (.int .i64 k))],(0, .imm 67 sEv l)::imR (Ji l) 1++[(6,bxR (Ji l) 1),(7, .imm 129 Jiu (V4 l).1)]⟩,inv:=fun k=>k≤l.length,mu:=fun k=>l.length-k}
theorem Jp5 {l:List Ev} (h:(Jb l).2.2=0):V4 l=(Xh l,0):=by
 unfold V4
 rw[if_pos (by unfold opE;rw[if_pos h];rfl)]
theorem H9 {l:List Ev}:(Xh l).length=(Ji l).2.2.2.1.length:=List.length_map ..
theorem Jui {l:List Ev} {i:Nat} (hp:J8w l i):Jau (l.take (i+1)) (Ji (l.take (i+1))).2.1=([],0):=by
 have hr:=Zj (l:=l.take (i+1))
 have h1:=hr.st
 have h2:=hr.tk
 unfold Jau
 rw[if_pos,hp.miss,if_neg (by simp)]
 unfold Jrv opE
 rw[if_pos hp.err,Va.2 ⟨by omega,by omega⟩]
 rfl
theorem Jvf {l:List Ev} {h:Int} (h0:(Jb l).2.2=0) (h1:0≤h) (h2:h<(Ji l).2.1):Dj l h=0∧D5 l h=Jdb (Ji l).2.2.2.2.1 h (Ji l).2.2.2.1 (0,0,0):=by
 have hr:=Zj (l:=l)
 have h3:=hr.st
 have h4:=hr.tk
 have e:Dj l h=0:=by
  unfold Dj opE
  rw[if_pos h0,Va.2 ⟨by omega,by omega⟩,decide_eq_false (by omega)]
  rfl
 refine⟨e, ?_⟩
 unfold D5
 rw[if_pos e]
theorem Juj {l:List Ev} {i:Nat} {h:Int} (hp:J8w l i) (h0:(Jb l).2.2=0) (h1:0≤h) (h2:h<(Ji (l.take (i+1))).2.1):Dj (l.take (i+1)) h=0∧Dj l h=0∧D5 l h=D5 (l.take (i+1)) h:=by
 obtain⟨a1,a2⟩:=Jvf hp.err h1 h2
 obtain⟨b1,b2⟩:=Jvf h0 h1 (Int.lt_of_lt_of_le h2 hp.fin.st)
 exact⟨a1,b1,by rw[a2,b2];exact J0i Zj hp.fin h2 _⟩
theorem Jz7 {l:List Ev} {k:Nat} (h:lOk l):lOk (l.take k):=⟨by rw[List.length_take];have:=h.1;omega,fun e he=>h.2 e (List.mem_of_mem_take he)⟩
theorem J4g {n:Int}:Jb5 (n,Jp,[],[],Ja):=⟨Nat.zero_le _,Nat.zero_le _,fun _ h=>(by cases h)⟩
abbrev K15 (l:List Ev) (i:Nat):List (Nat×Res):=(0, .imm 67 sEv l)::imR (Ji l) 1++[(6,bxR (Ji l) 1),(7, .imm 129 Jiu (V4 l).1),(11, .imm 67 sEv (l.take (i+1)))]++imR (Ji (l.take (i+1))) 12++[(17,bxR (Ji (l.take (i+1))) 12)]
abbrev Kdc (l:List Ev):Ann:={X:=Nat×Nat,σ:=fun(i,j)=>⟨20,[(0, .one (.sl 0)),(3, .one (.ptr 6 0)),(6, .one (.sl 7)),(54, .one (.sl 0)),(55, .one (.int .i64 l.length)),(56, .one (.int .i64 i)),(10, .one (.sl 11)),(11, .one (.ptr 17 0)),(14, .one (.sl 18)),(139, .one (.sl 13)),(140, .one (.int .i64 (Ji (l.take (i+1))).2.2.2.1.length)),(141, .one (.int .i64 j))],K15 l i++[(18, .imm 129 Jiu (V4 (l.take (i+1))).1)]⟩,inv:=fun(i,j)=>j≤(Ji (l.take (i+1))).2.2.2.1.length,mu:=fun(i,j)=>(Ji (l.take (i+1))).2.2.2.1.length-j,rel:=some fun x y=>x.1=y.1}
abbrev Jby (l:List Ev) (i:Nat):Int:=max 0 ((Ji (l.take (i+1))).2.1-20)
abbrev Kdd (l:List Ev):Ann:={X:=Nat×Nat,σ:=fun(i,j)=>⟨18,[(0, .one (.sl 0)),(3, .one (.ptr 6 0)),(6, .one (.sl 7)),(54, .one (.sl 0)),(55, .one (.int .i64 l.length)),(56, .one (.int .i64 i)),(10, .one (.sl 11)),(11, .one (.ptr 17 0)),(20, .one (.int .i64 (Jby l i+j)))],K15 l i⟩,inv:=fun(i,j)=>j≤((Ji (l.take (i+1))).2.1-Jby l i).toNat,mu:=fun(i,j)=>((Ji (l.take (i+1))).2.1-Jby l i).toNat-j,rel:=some fun x y=>x.1=y.1}
def Kca:Con:={args:=[.val false (.list 67 sEv)],ress:=[Bo],owns:=[],pre:=fun _=>[],spec:=fun _=>(true,())}
def Z46 (a:List Ev) (b:Nat×Nat):=Jby a b.1+Nc b.2
def Z68 (a:List Ev):=(V4 a).1=(V4 a).1
def Z72 (a:Nat×Nat) (b:List Ev):=List.take (a.1+1) b
def Kas (a:Nat×Nat) (b:List Ev):=(Ji (Z72 a b)).1
def J1w (a:Nat×Nat) (b:List Ev):=(Ji (Z72 a b)).2.2
def Kgs (a:Nat×Nat) (b:List Ev):=(V4 (Z72 a b)).1
def Jyx (a:Nat×Nat) (b:List Ev):=(Ji (Z72 a b)).2.1
def J1v (a:Nat) (b:List Ev):=List.take (Int.toNat (Nc a+1)) b
def Kgq (a:Nat×Nat) (b:List Ev):=(J1w a b).2.1
def Kgp (a:Nat×Nat) (b:List Ev):=(J1w a b).2.2
def J7k (a:Nat×Nat) (b:List Ev):=(Kgp a b).2
def Kml (a:Nat) (b:List Ev):=lOk (J1v a b)
def Kmk (a:Nat) (b:List Ev):=V4 (J1v a b)
def Kmj (a:Nat) (b:List Ev):=(Ji (J1v a b)).2
def Kgk (a:Nat) (b:List Ev):=(Kmj a b).1
def Kmh (a:Nat) (b:List Ev):=(Kmj a b).2.2
def Kaa (a:Nat×Nat) (b:List Ev):=Ln (Kgq a b)
def Kmg (a:Nat) (b:List Ev):=(Kmh a b).2
def Kmf (a:Nat×Nat) (b:List Ev):=List.length (Ji (List.take (a.1+1) b)).2.2.2.1
def K1r (a:Nat):Int×ByteArray×List ByteArray×List Int×ByteArray:=(Nc a+(2:Int),Jp,[],[],B0)
def Kmb (a:Nat) (b:List Ev):=Ln (Kmh a b).1
def Kma (a:Nat×Nat) (b:List Ev):=a.2≤Kmf a b
def Kl9 (a:Nat×Nat) (b:List Ev):=D5 (Z72 a b) (Z46 b a)
def Kl6 (a:Nat×Nat) (b:List Ev):=Int.toNat ((Ji (List.take (a.1+1) b)).2.1-Jby b a.1)
def Klr (a:Nat×Nat) (b:List Ev):=a.2≤Kl6 a b
def K02 (a:Nat×Nat) (b:List Ev) (c:Nat×Nat):=(J1w a b).2.1=Kgq c b
def K0u (a:Nat×Nat) (b:List Ev) (c:Nat×Nat):=(Kgp a b).1=(Kgp c b).1
def K0p (a:Nat×Nat) (b:List Ev) (c:Nat×Nat):=(J7k a b).2=(J7k c b).2
def K0n (a:Nat×Nat) (b:List Ev) (c:Nat×Nat):=(J7k a b).1=(J7k c b).1
def K0j (a:List Ev) (b:Nat×Nat):=List.getD (Ji a).2.2.2.1 b.2 Jde
def K0f (a:Nat) (b:List Ev):=Jau (J1v a b) (Kgk a b)
def K0a (a:List Ev) (b:Nat×Nat):=(K0j a b).2.2.2
def Kz6 (a:List Ev) (b:Nat×Nat):=(K0a a b).1
def Kx3 (a:Nat×Nat) (b:List Ev):=List.getD (Kgq a b) a.2 Jde
def Kxs (a:Nat×Nat) (b:List Ev):=(Kx3 a b).2.2.2
def Kxq (a:Nat×Nat) (b:List Ev):=(Kxs a b).1
def Kxn (a:Nat×Nat) (b:List Ev):=(Kxq a b).2
def Kxh (a:List Ev) (b:Nat×Nat):=List.getD (V4 a).1 b.2 Kgg
def Kxe (a:List Ev) (b:Nat×Nat):=(Kxh a b).2
def Kxc (a:List Ev) (b:Nat×Nat):=(Kxe a b).2
def Kxb (a:List Ev) (b:Nat×Nat):=(Kxc a b).2
def Kxa (a:List Ev) (b:Nat×Nat):=(Kxb a b).2
def Kwh (a:Nat×Nat) (b:List Ev):=List.getD (Kgs a b) a.2 Kgg
def Kwe (a:Nat×Nat) (b:List Ev):=(Kwh a b).2
def Kv7 (a:Nat×Nat) (b:List Ev):=(Kwe a b).2
def Kv6 (a:Nat×Nat) (b:List Ev):=(Kv7 a b).2
def Kv4 (a:Nat×Nat) (b:List Ev):=(Kv6 a b).2
def Kv2 (a:Nat×Nat) (b:List Ev):=decide (Kxn a b≤Jyx a b)
def Kvt (a:Nat×Nat) (b:List Ev):=Kv2 a b=true
def Ku7 (a:List Ev) (b:Nat×Nat):= !Lb (K0j a b).1 (Kx3 b a).1
def Ku6 (a:Nat) (b:List Ev):=bif (Jb (J1v a b)).2.2 !=0 then true else(Kmk a b).2 !=0
def Kuw (a:List Ev):=Sf a (Jxr a∧Jxq a∧Jxp a∧Jxn a∧Jxo a∧Si (Ji a).1 (Si (Ji a).2.1 (Z68 a)))
def Ktg (a:List Ev) (b:Nat×Nat):=bif Ku7 a b then true else !((Kz6 a b).1==(Kxq b a).1&&((Kz6 a b).2==Kxn b a&&true))
def J8h (a:List Ev) (b c:Nat×Nat):=Sf a (Jxr a∧Jxq a∧Jxp a∧Jxn a∧Jxo a∧Si (Ji a).1 (Si (Ji a).2.1 (Z68 a∧Z72 b a=Z72 c a∧(J1w b a).1=(J1w c a).1∧K02 b a c∧K0u b a c∧K0n b a c∧K0p b a c∧Kas b a=Kas c a∧Jyx b a=Jyx c a)))
theorem ok12:Ok Tryz.prog 12 Kca:=okW K6w Tryz.f12 (fun xx=>fun id=>if id=0 then some (Kc9 xx.1) else if id=2 then some (Kdc xx.1) else if id=4 then some (Kdd xx.1) else none) fun xx=>by
 obtain⟨(l:List Ev),_⟩:=xx
 refine(by kernel_rfl:((20:Int)≤1000∧Br (!J1k l 20) (true=true) (T2 (lOk l) (Br (bif bif (Jb l).2.2 !=0 then true else(V4 l).2 !=0 then true else Ln (V4 l).1 !=Z24 l) (false=true) (∃(x:Nat),Si (Ln l) (0=Nc x∧Sf l (Jxr l∧Jxq l∧Jxp l∧Jxn l∧Jxo l∧(Ji l).1=(Ji l).1∧(Ji l).2.1=(Ji l).2.1∧Z68 l))∧x≤List.length l∧∀(x:Nat),x≤List.length l→Br (Z78 x l) (Tw (Z8 x l)∧Br (!Lb (J3p l x) Jd) (Z19 x∧∃(y:Nat),Si (Ln l) (Z95 x y∧Kuw l)∧Jyp y l x) ((Z19 x∧(0:Int)≤0∧0≤Nc x+1∧Nc x+1≤Ln l)∧T2 (Kml x l) (Tw (Ku6 x l=false→Bd 1 (Kli l x))∧Br (bif bif bif bif Ku6 x l then true else Kgk x l !=List.getD (J1o l x).1 1 0 then true else decide ((Ji l).2.1<Kgk x l) then true else Ln (Kmk x l).1 !=Kmb x l then true else decide (Z24 l<Kmb x l)) (false=true) ((Iw (Nc x+2)∧Kml x l∧Jb5 (K1r x))∧Br (Jsf (J1v x l) (K1r x) !=21) (false=true) (Kml x l∧Br (bif (K0f x l).2 !=0 then true else decide (0<Ln (K0f x l).1)) (false=true) (∃(x0:Nat×Nat),Si (Ln l) (Nc x=Nc x0.1∧Kmb x l=Kaa x0 l∧0=Nc x0.2∧Sf l (Jxr l∧Jxq l∧Jxp l∧Jxn l∧Jxo l∧Si (Ji l).1 (Si (Ji l).2.1 (Z68 l∧J1v x l=Z72 x0 l∧(Kmj x l).2.1=(J1w x0 l).1∧(Kmh x l).1=Kgq x0 l∧(Kmg x l).1=(Kgp x0 l).1∧(Kmg x l).2.1=(J7k x0 l).1∧(Kmg x l).2.2=(J7k x0 l).2∧(Ji (J1v x l)).1=Kas x0 l∧Kgk x l=Jyx x0 l∧(Kmk x l).1=Kgs x0 l))))∧(Kma x0 l∧x0.1=x0.1)∧∀(x_1:Nat×Nat),Kma x_1 l∧x0.1=x_1.1→Br (decide (Nc x_1.2<Kaa x_1 l)) (Tw (Bd (Nc x_1.2) (Kaa x_1 l))∧T2 (Bd (Nc x_1.2) (Z24 l)) (T2 (Ku7 l x_1=false→Bd (Nc x_1.2) (Z24 l)) (Tw (Ktg l x_1=false→Bd (Nc x_1.2) (Z24 l))))∧Br (bif Ktg l x_1 then true else(K0a l x_1).2.2.1 !=(Kxs x_1 l).2.2.1) (false=true) (T2 (Kvt x_1 l→Bd (Nc x_1.2) (Ln (Kgs x_1 l))) (Tw (Kvt x_1 l→Bd (Nc x_1.2) (Ln (V4 l).1)))∧Br (bif Kv2 x_1 l then !(Lb (Kwh x_1 l).1 (Kxh l x_1).1&&((Kwe x_1 l).1==(Kxe l x_1).1&&((Kv7 x_1 l).1==(Kxc l x_1).1&&((Kv6 x_1 l).1==(Kxb l x_1).1&&((Kv4 x_1 l).1==(Kxa l x_1).1&&((Kv4 x_1 l).2==(Kxa l x_1).2&&true)))))) else false) (false=true) (Iw (Nc x_1.2+1)∧∃(y:Nat×Nat),Si (Ln l) (Nc x_1.1=Nc y.1∧Kaa x_1 l=Kaa y l∧Nc x_1.2+1=Nc y.2∧Sf l (Jxr l∧Jxq l∧Jxp l∧Jxn l∧Jxo l∧Si (Ji l).1 (Si (Ji l).2.1 (Z68 l∧Z72 x_1 l=Z72 y l∧(J1w x_1 l).1=(J1w y l).1∧K02 x_1 l y∧K0u x_1 l y∧K0n x_1 l y∧K0p x_1 l y∧Kas x_1 l=Kas y l∧Jyx x_1 l=Jyx y l∧(V4 (Z72 x_1 l)).1=Kgs y l))))∧(Kma y l∧x0.1=y.1)∧Kmf y l-y.2<Kmf x_1 l-x_1.2))) (Iw (Jyx x_1 l-20)∧∃(x0:Nat×Nat),Si (Ln l) (Nc x_1.1=Nc x0.1∧max 0 (Jyx x_1 l-20)=Z46 l x0∧J8h l x_1 x0)∧(Klr x0 l∧x0.1=x0.1)∧∀(x_2:Nat×Nat),Klr x_2 l∧x0.1=x_2.1→Br (decide (Z46 l x_2<Jyx x_2 l)) (lOk (Z72 x_2 l)∧lOk l∧Br (bif bif Dj (Z72 x_2 l) (Z46 l x_2) !=0 then true else Dj l (Z46 l x_2) !=0 then true else !((Kl9 x_2 l).1==(D5 l (Z46 l x_2)).1&&((Kl9 x_2 l).2.1==(D5 l (Z46 l x_2)).2.1&&((Kl9 x_2 l).2.2==(D5 l (Z46 l x_2)).2.2&&true)))) (false=true) (Iw (Z46 l x_2+1)∧∃(y:Nat×Nat),Si (Ln l) (Nc x_2.1=Nc y.1∧Z46 l x_2+1=Z46 l y∧J8h l x_2 y)∧(Klr y l∧x0.1=y.1)∧Kl6 y l-y.2<Kl6 x_2 l-x_2.2)) (Iw (Nc x_2.1+1)∧∃(y:Nat),Si (Ln l) (Nc x_2.1+1=Nc y∧Kuw l)∧Jyp y l x)))))))) (true=true)))))=_).mp ?_
 delta Z8 Z19 Z24 Z46 Z68 Z72 Z73 Z78 Z95 Jxr Jxq Kas J1w Jxp Kgs Jyx J1v Kgq Jxo Kgp Jxn J7k Kml D9 Kmk Kmj Kgk Kmh Kaa Kmg Kgg Kmf K1r Kmb Kma J3s Kl9 Kl6 Jde J3q J3p J1o Jyp Klr Kli K02 K0u K0p K0n K0j K0f K0a Kz6 Kx3 Kxs Kxq Kxn Kxh Kxe Kxc Kxb Kxa Kwh Kwe Kv7 Kv6 Kv4 Kv2 Kvt Ku7 Ku6 Kuw Ktg J8h Br Iw Bd T2 Tw Sf Si Ln Nc B0 Lb Jd Jp
 refine⟨by decide,fun _=>rfl,fun h=> ?_⟩
 have hb:J1k l 20=true:=by simpa using h
 obtain⟨hl,hlen,h0⟩:=Jxh hb
 have hbl:=Jp5 h0
 refine⟨hl,hl,fun h=> ?_,fun _=> ?_⟩
 ·rw[h0,hbl] at h
  simp[H9] at h
 refine⟨(0:Nat),by(repeat' first|exact rfl|exact⟨⟩|apply And.intro|omega|dsimp only;omega),Nat.zero_le _,fun(k:Nat) hk=>⟨fun h1=> ?_,fun _=>rfl⟩⟩
 have hlt:k<l.length:=by simpa using h1
 refine⟨by(repeat' first|exact rfl|exact⟨⟩|apply And.intro|omega|dsimp only;omega),fun _=>⟨by(repeat' first|exact rfl|exact⟨⟩|apply And.intro|omega|dsimp only;omega),(k+1:Nat),by(repeat' first|exact rfl|exact⟨⟩|apply And.intro|omega|dsimp only;omega),by omega,by omega⟩,fun h2=> ?_⟩
 have h2:(!((l.getD k ev0).2.1.toList==Jd.toList))=false:=h2
 have hp:=J4x h0 (by omega) hlt (by simpa using h2)
 have hpl:lOk (l.take (k+1)):=Jz7 hl
 have hbp:=Jp5 hp.err
 have hrp:=Zj (l:=l.take (k+1))
 have st1:=hrp.st
 have st2:=hrp.tk
 have nO:=hrp.nO
 have hfl:=hp.fin.len
 have hfs:=hp.fin.st
 have hev:((0:Int),({data:={toList:=[]}}:ByteArray),([]:List ByteArray),([]:List Int),({data:={toList:=[]}}:ByteArray))=ev0:=rfl
 simp only[show((k:Int)+1).toNat=k+1 from rfl,hev]
 have h22:=hp.two
 refine⟨⟨by(repeat' first|exact rfl|exact⟨⟩|apply And.intro|omega|dsimp only;omega),by omega,by omega,by omega⟩,hpl,hpl,⟨fun _=>by omega,fun _=>by omega⟩,fun h=> ?_,fun _=>⟨⟨by(repeat' first|exact rfl|exact⟨⟩|apply And.intro|omega|dsimp only;omega),hpl,J4g⟩,fun h=> ?_,fun _=>⟨hpl,fun h=> ?_,fun _=> ?_⟩⟩⟩
 ·rw[hp.err,hbp,hp.st,decide_eq_false (show ¬(Ji l).2.1<(l.getD k ev0).2.2.2.1.getD 1 0 by rw[←hp.st];omega),decide_eq_false (show ¬((Ji l).2.2.2.1.length:Int)<((Ji (l.take (k+1))).2.2.2.1.length:Int) by omega)] at h
  simp[H9] at h
 ·have h:(Jsf (l.take (k+1)) ((k:Int)+2,Jp,[],[],Ja) !=21)=true:=h
  rw[hp.undo] at h;cases h
 ·rw[Jui hp] at h;cases h
 refine⟨(k,(0:Nat)),by(repeat' first|exact rfl|exact⟨⟩|apply And.intro|omega|dsimp only;omega),⟨Nat.zero_le _,by trivial⟩,fun(x:Nat×Nat) hx=> ?_⟩
 obtain⟨i,j⟩:=x
 have hi:k=i:=hx.2
 subst hi
 have hj:j≤(Ji (l.take (k+1))).2.2.2.1.length:=hx.1
 refine⟨fun h3=> ?_,fun _=> ?_⟩
 ·have h3:j<(Ji (l.take (k+1))).2.2.2.1.length:=by simpa using h3
  obtain⟨⟨o1,o2,o3,o4⟩,_⟩:=hp.fin.old j h3
  have hor:(({data:={toList:=[]}}:ByteArray),({data:={toList:=[]}}:ByteArray),({data:={toList:=[]}}:ByteArray),((0:Int),(0:Int)),(0:Int),(0:Int),(0:Int))=J6:=rfl
  simp only[hor]
  refine⟨by(repeat' first|exact rfl|exact⟨⟩|apply And.intro|omega|dsimp only;omega),⟨by(repeat' first|exact rfl|exact⟨⟩|apply And.intro|omega|dsimp only;omega),by(repeat' first|exact rfl|exact⟨⟩|apply And.intro|omega|dsimp only;omega),fun _=>by(repeat' first|exact rfl|exact⟨⟩|apply And.intro|omega|dsimp only;omega),fun _=>by(repeat' first|exact rfl|exact⟨⟩|apply And.intro|omega|dsimp only;omega),fun _=>by(repeat' first|exact rfl|exact⟨⟩|apply And.intro|omega|dsimp only;omega),fun _=>by(repeat' first|exact rfl|exact⟨⟩|apply And.intro|omega|dsimp only;omega)⟩,fun h=> ?_,fun _=>⟨⟨fun _=> ?_,fun _=> ?_,fun _=> ?_,fun _=> ?_⟩,fun h=> ?_,fun _=>⟨by(repeat' first|exact rfl|exact⟨⟩|apply And.intro|omega|dsimp only;omega),(k,j+1),by(repeat' first|exact rfl|exact⟨⟩|apply And.intro|omega|dsimp only;omega),⟨h3,rfl⟩,by show(Ji (l.take (k+1))).2.2.2.1.length-(j+1)<(Ji (l.take (k+1))).2.2.2.1.length-j;omega⟩⟩⟩
  ·rw[o1,o2,o4] at h;simp at h
  ·rw[hbp];dsimp only;rw[H9];omega
  ·rw[hbp];dsimp only;rw[H9];omega
  ·rw[hbl];dsimp only;rw[H9];omega
  ·rw[hbl];dsimp only;rw[H9];omega
  ·cases q:decide (((Ji (l.take (k+1))).2.2.2.1.getD j J6).2.2.2.1.2≤(Ji (l.take (k+1))).2.1) with
   |false=>rw[q] at h;cases h
   |true=>
    have hfb:=J0j hrp hp.fin h3 (of_decide_eq_true q)
    rw[q,hbl,hbp] at h
    unfold Xh at h
    dsimp only at h
    rw[Jjn (d:=J6) h3,Jjn (d:=J6) (by omega),hfb] at h
    simp at h
 ·refine⟨by(repeat' first|exact rfl|exact⟨⟩|apply And.intro|omega|dsimp only;omega),(k,(0:Nat)),by(repeat' first|exact rfl|exact⟨⟩|apply And.intro|exact(Int.add_zero _).symm|omega|dsimp only;omega),⟨Nat.zero_le _,by trivial⟩,fun(x:Nat×Nat) hx=> ?_⟩
  obtain⟨i,m⟩:=x
  have hi:k=i:=hx.2
  subst hi
  have hm:m≤((Ji (l.take (k+1))).2.1-Jby l k).toNat:=hx.1
  refine⟨fun h4=> ?_,fun _=>⟨by(repeat' first|exact rfl|exact⟨⟩|apply And.intro|omega|dsimp only;omega),(k+1:Nat),by(repeat' first|exact rfl|exact⟨⟩|apply And.intro|omega|dsimp only;omega),by omega,by omega⟩⟩
  have h4:Jby l k+(m:Int)<(Ji (l.take (k+1))).2.1:=of_decide_eq_true h4
  have hh0:0≤Jby l k:=by unfold Jby;omega
  obtain⟨e1,e2,e3⟩:=Juj hp h0 (show 0≤Jby l k+(m:Int) by omega) h4
  refine⟨hpl,hl,fun h=> ?_,fun _=>⟨by(repeat' first|exact rfl|exact⟨⟩|apply And.intro|omega|dsimp only;omega),(k,m+1), ?_,⟨by show m+1≤((Ji (l.take (k+1))).2.1-Jby l k).toNat;omega,rfl⟩,by show((Ji (l.take (k+1))).2.1-Jby l k).toNat-(m+1)<((Ji (l.take (k+1))).2.1-Jby l k).toNat-m;omega⟩⟩
  ·rw[e1,e2,e3] at h;simp at h
  ·repeat' first|exact rfl|exact⟨⟩|apply And.intro|omega|dsimp only;omega
end Go.Proofs.YtcibbcfiemeoiaaGreatDoor

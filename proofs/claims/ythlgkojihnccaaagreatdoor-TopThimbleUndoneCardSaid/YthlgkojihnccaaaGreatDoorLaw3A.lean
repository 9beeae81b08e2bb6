/- The law walked: part of the proof. -/
import Derived.Test.YthlgkojihnccaaaGreatDoorFC
set_option linter.unusedSimpArgs false
set_option linter.unusedVariables false
set_option maxRecDepth 20000
namespace Go.Proofs.YthlgkojihnccaaaGreatDoor
open Go.Sx
set_option maxHeartbeats 20000000
abbrev imR (r:Reg) (n:Nat):List (Nat×Res):=[(n, .imm 98 Xc r.2.2.1),(n+1, .imm 102 Yn r.2.2.2.1),(n+2, .imm 104 Xx r.2.2.2.2.1),(n+3, .imm 106 Xi r.2.2.2.2.2.1),(n+4, .imm 108 Yv r.2.2.2.2.2.2)]
abbrev bxR (r:Reg) (n:Nat):Res:= .box 31 [.int .i64 r.1, .int .i64 r.2.1, .sl n, .sl (n+1), .sl (n+2), .sl (n+3), .sl (n+4)]
abbrev Ya (l:List Ev):List Ev:=H3 l (cnt l).length
abbrev Ki2 (l:List Ev) (t:Int):Ann:={X:=Nat,σ:=fun k=>⟨9,[(0, .one (.sl 0)),(1, .one (.int .u8 t)),(6, .one (.ptr 2 0)),(9, .one (.sl 8)),(43, .one (.sl 1)),(44, .one (.int .i64 (L5 l).length)),(45, .one (.int .i64 k))],(0, .imm 37 sEv l)::(1, .imm 37 sEv (L5 l))::(2,bxR (Ui l) 3)::imR (Ui l) 3++[(8, .own 37 sEv (H3 l k))]⟩,inv:=fun k=>k≤(L5 l).length,mu:=fun k=>(L5 l).length-k}
abbrev Ki1 (l:List Ev) (t:Int):Ann:={X:=Nat,σ:=fun k=>⟨9,[(0, .one (.sl 0)),(1, .one (.int .u8 t)),(6, .one (.ptr 2 0)),(9, .one (.sl 8)),(12, .one (.str (Jio (Ya l) k))),(67, .one (.sl 8)),(68, .one (.int .i64 (Ya l).length)),(69, .one (.int .i64 k))],(0, .imm 37 sEv l)::(2,bxR (Ui l) 3)::imR (Ui l) 3++[(8, .imm 37 sEv (Ya l))]⟩,inv:=fun k=>k≤(Ya l).length,mu:=fun k=>(Ya l).length-k,frz:=[9]}
theorem Jzc {e:Ev} (h:Ja e=0):e.2.2.2.2=Jd:=by
 have:=(J2 h).txt
 cases q:e.2.2.2.2 with
 |mk d=>
  rw[q] at this
  exact congrArg ByteArray.mk (Array.eq_empty_of_size_eq_zero this)
theorem Jic (e:Ev):Zg e e=true:=by
 unfold Zg Jwl
 rw[Jb3 Joh,Jb3 Jog]
 simp
theorem J0y {l:List Ev} {t:Int}:Js (Yl l t):=by
 have go:∀(G:List Reg) (o:Reg),(∀r∈G,Js r)→Js o→Js (Jd2 G t o):=by
  intro G
  induction G with
  |nil=>intro o _ h;exact h
  |cons r G ih=>
   intro o h1 h2
   refine ih _ (fun x hx=>h1 x (List.mem_cons_of_mem _ hx)) ?_
   cases decide (r.1≤t)
   ·exact h2
   ·exact h1 r (List.mem_cons_self ..)
 have h0:Js Vq:=De V0.ok
 unfold Yl
 split
 ·exact go _ _ Xz.ok.reg h0
 ·exact h0
def Kxp:Con:={args:=[.val false (.list 37 sEv), .val false (.int .u8)],ress:=[Bo],owns:=[],pre:=fun(_,t,_)=>[0≤t∧t<256],spec:=fun _=>(true,())}
def Z3 (a:List Ev):=(Ui (Ya a)).2.2.2.2
def Z24 (a:List Ev) (b:Int):=(Yl (Ya a) b).2.2.2
def J9h (a:List Ev):=(Ui a).2.2.1=(Ui a).2.2.1
def J9b (a:List Ev):=(Ui a).2.2.2.1=(Ui a).2.2.2.1
def J88 (a:List Ev):=(Ui a).2.2.2.2.1=(Ui a).2.2.2.2.1
def J2f (a:List Ev) (b:Nat):=Jb (Jc (Jio (Ya a) b)).1
def J87 (a:List Ev):=(Ui a).2.2.2.2.2.1=(Ui a).2.2.2.2.2.1
def J86 (a:List Ev):=(Ui a).2.2.2.2.2.2=(Ui a).2.2.2.2.2.2
def Kel (a:List Ev) (b:Nat):=List.getD (Ya a) b H2
def Kef (a:List Ev) (b:Nat):=(List.getD (L5 a) b H2).2.2
def Ksq (a:List Ev):=(Jb a).2.2 !=0
def J8n (a:List Ev) (b:Nat):=(Kel a b).2.2
def Ksp (a:List Ev) (b:Nat):=(J8n a b).2
def Kso (a:List Ev) (b:Nat):=(Kef a b).2
def Kar (a:List Ev) (b:Nat):=((Kel a b).1,(Kel a b).2.1,(J8n a b).1,E2 (Ksp a b))
def Km3 (a:List Ev) (b:Nat):=Jpa (Jio (Ya a) b) (Kar a b)
def Kmx (a:List Ev) (b:Int):=bif bif bif bif bif Ksq a then true else(Jb (Ya a)).2.2 !=0 then true else Yo a b !=0 then true else Yo (Ya a) b !=0 then true else false then true else false
def J1n (a:List Ev) (b:Int):=Kmx a b=false
def Kmp (a:List Ev) (b:Int):=bif Kmx a b then true else false
def J1m (a:List Ev) (b:Int):=Kmp a b=false
def Kmm (a:List Ev) (b:Int):=bif Kmp a b then true else false
def Kml (a:List Ev) (b:Int):=J1n a b→List.length (Ui a).2.2.1≤1000000
def Jpp (a:List Ev) (b:Int):=Kmm a b=false
def Kmk (a:List Ev) (b:Int):=J1n a b→List.length (Ui a).2.2.2.1≤1000000
def Kmj (a:List Ev) (b:Int):=J1n a b→List.length (Ui a).2.2.2.2.1≤1000000
def Kmh (a:List Ev) (b:Int):=J1n a b→List.length (Ui a).2.2.2.2.2.1≤1000000
def Kmg (a:List Ev) (b:Int):=J1n a b→List.length (Ui a).2.2.2.2.2.2≤1000000
def Kmb (a:List Ev) (b:Int):=J1m a b→List.length (Ui (Ya a)).2.2.1≤1000000
def Kma (a:List Ev) (b:Int):=J1m a b→List.length (Ui (Ya a)).2.2.2.1≤1000000
def Kl9 (a:List Ev) (b:Int):=J1m a b→List.length (Z3 a).1≤1000000
def Kl8 (a:List Ev) (b:Int):=J1m a b→List.length (Z3 a).2.1≤1000000
def Kl7 (a:List Ev) (b:Int):=J1m a b→List.length (Z3 a).2.2≤1000000
def Kl6 (a:List Ev) (b:Int):=Jpp a b→List.length (Yl a b).2.2.1≤1000000
def Kl5 (a:List Ev) (b:Int):=Jpp a b→List.length (Yl a b).2.2.2.1≤1000000
def Kl4 (a:List Ev) (b:Int):=Jpp a b→List.length (Yl a b).2.2.2.2.1≤1000000
def Kl3 (a:List Ev) (b:Int):=Jpp a b→List.length (Yl a b).2.2.2.2.2.1≤1000000
def Kl2 (a:List Ev) (b:Int):=Jpp a b→List.length (Yl a b).2.2.2.2.2.2≤1000000
theorem ok3:Ok Tryz.prog 3 Kxp:=okW Kyd Tryz.f3 (fun xx=>fun id=>if id=0 then some (Ki2 xx.1 xx.2.1) else if id=2 then some (Ki1 xx.1 xx.2.1) else none) fun xx=>by
 obtain⟨(l:List Ev),(t:Int),_⟩:=xx
 refine(by kernel_rfl:(Bd t 256→(20:Int)≤1000000∧Br (!Zf l 20) (true=true) (lOk l∧Br (Ksq l) (true=true) (∃(x:Nat),Si t (Si (Ln (L5 l)) (0=Nc x∧Sf l (Sf (L5 l) ((Ui l).1=(Ui l).1∧(Ui l).2.1=(Ui l).2.1∧J9h l∧J9b l∧J88 l∧J87 l∧J86 l∧List.length (H3 l x)=0))))∧x≤List.length (L5 l)∧∀(x:Nat),x≤List.length (L5 l)→Br (decide (Nc x<Ln (L5 l))) (Tw (Bd (Nc x) (Ln (L5 l)))∧(Z25 x∧(0+List.length (Kef l x).1)*16≤140737488355328∧(0+List.length (Kso l x).1)*8≤140737488355328∧(List.length (H3 l x)+1)*88≤140737488355328)∧Z25 x∧∃(y:Nat),Si t (Si (Ln (L5 l)) (Z93 x y∧Sf l (Sf (L5 l) (Si (Ui l).1 (Si (Ui l).2.1 (J9h l∧J9b l∧J88 l∧J87 l∧J86 l∧H3 l x++[(Nc x+1,(List.getD (L5 l) x H2).2.1,(Kef l x).1,(Kso l x).1,B0)]=H3 l y))))))∧y≤List.length (L5 l)∧List.length (L5 l)-y<List.length (L5 l)-x) (∃(x_1:Nat),Si t (B0=Jio (Ya l) x_1∧Ln (H3 l x)=Ln (Ya l)∧0=Nc x_1∧Sf l (Si (Ui l).1 (Si (Ui l).2.1 (J9h l∧J9b l∧J88 l∧J87 l∧J86 l∧H3 l x=Ya l))))∧x_1≤List.length (Ya l)∧∀(x:Nat),x≤List.length (Ya l)→Br (decide (Nc x<Ln (Ya l))) (Tw (Bd (Nc x) (Ln (Ya l)))∧(((0:Int)≤0∧0≤Nc x∧Nc x≤Ln (Ya l))∧lOk (List.take x (Ya l))∧F2 (Kar l x))∧Br (Jd8 (List.take x (Ya l)) (Kar l x) !=0) (false=true) ((ByteArray.size (Jio (Ya l) x)≤1000000000∧List.length (J8n l x).1≤1000000∧List.length (Ksp l x).1≤1000000∧∀(s:ByteArray),s∈(J8n l x).1→ByteArray.size s≤1000000)∧Br ((Km3 l x).2 !=0) (false=true) (Z25 x∧∃(y:Nat),Si t ((Km3 l x).1=Jio (Ya l) y∧Si (Ln (Ya l)) (Z93 x y∧Sf l (Si (Ui l).1 (Si (Ui l).2.1 (J9h l∧J9b l∧J88 l∧J87 l∧J86 l∧Ya l=Ya l)))))∧y≤List.length (Ya l)∧List.length (Ya l)-y<List.length (Ya l)-x))) (lOk l∧lOk (Ya l)∧(Iw t∧lOk l)∧(Iw t∧lOk (Ya l))∧(((Jc (Jio (Ya l) x)).2.2=0∨(Jc (Jio (Ya l) x)).2.2=28)∧(J2f l x).2.2=0)∧(Kml l t∧Kmk l t∧Kmj l t∧Kmh l t∧Kmg l t∧(J1n l t→J1s l=J1s l)∧Kml l t∧Kmk l t∧Kmj l t∧Kmh l t∧Kmg l t∧Kmb l t∧Kma l t∧Kl9 l t∧Kl8 l t∧Kl7 l t∧(J1m l t→((Ui (Ya l)).1,(Ui (Ya l)).2.1,(Ui (Ya l)).2.2.1,(Ui (Ya l)).2.2.2.1,(Z3 l).1,E2 (Z3 l).2)=J1s l)∧Kmb l t∧Kma l t∧Kl9 l t∧Kl8 l t∧Kl7 l t∧Kl6 l t∧Kl5 l t∧Kl4 l t∧Kl3 l t∧Kl2 l t∧(Jpp l t→List.length (Yl (Ya l) t).2.2.1≤1000000)∧(Jpp l t→List.length (Z24 l t).1≤1000000)∧(Jpp l t→List.length (Z24 l t).2.1≤1000000)∧(Jpp l t→List.length (Z24 l t).2.2.1≤1000000)∧(Jpp l t→List.length (Z24 l t).2.2.2≤1000000)∧(Jpp l t→((Yl l t).1,(Yl l t).2.1,(Yl l t).2.2.1,(Yl l t).2.2.2.1,(Yl l t).2.2.2.2.1,E2 (Yl l t).2.2.2.2.2)=((Yl (Ya l) t).1,(Yl (Ya l) t).2.1,(Yl (Ya l) t).2.2.1,(Z24 l t).1,(Z24 l t).2.1,E2 (Z24 l t).2.2))∧Kl6 l t∧Kl5 l t∧Kl4 l t∧Kl3 l t∧Kl2 l t)∧Br (bif Kmm l t then true else false) (false=true) ((List.length (J2f l x).1.1≤1000∧(∀(e:Ev),e∈(J2f l x).1.1→F2 e)∧List.length (J2f l x).1.1≤1000000∧∀(x_2:Ev),x_2∈(J2f l x).1.1→J8k x_2)∧(bif eqL Zg (J2f l x).1.1 (Ya l) then true else false)=true))))))=_).mp ?_
 delta Z3 Z24 Z25 Z93 J9h J9b J88 J2f J87 J86 H2 Kel Kef Ksq J8n Ksp Kso J8k J1s Kar Km3 Kmx J1n Kmp J1m Kmm Kml Jpp Kmk Kmj Kmh Kmg Kmb Kma Kl9 Kl8 Kl7 Kl6 Kl5 Kl4 Kl3 Kl2 Br Iw Bd Tw Sf Si Ln Nc B0 E2
 intro ht
 refine⟨by decide,fun _=>rfl,fun h=> ?_⟩
 have hs:Zf l 20=true:=by simpa using h
 obtain⟨hl,hlen⟩:=Jqt (by decide) hs
 refine⟨hl,fun _=>rfl,fun h0=> ?_⟩
 have h0:(Jb l).2.2=0:=bne_eq_false_iff_eq.1 h0
 have hc:L5 l=cnt l:=by unfold L5;rw[if_pos h0]
 have hev:((0:Int),({data:={toList:=[]}}:ByteArray),([]:List ByteArray),([]:List Int),({data:={toList:=[]}}:ByteArray))=ev0:=rfl
 have hi:Yb (Jb l).1:=Xz
 have j:Jou l:=⟨h0,by omega⟩
 have hE:(Jb l).1.1=l:=by rw[j.all.1,Jqz j.all.2];rfl
 have nC:(cnt l).length≤(Jb l).1.1.length:=hi.ok.nC
 have nG:(rgs l).length=(cnt l).length:=hi.ok.nG
 rw[hE] at nC
 have hul:∀k,k≤(cnt l).length→(H3 l k).length=k:=fun k hk=>by rw[Lo,List.length_take];omega
 have hL:(Ya l).length=(cnt l).length:=hul _ (Nat.le_refl _)
 have hrep:=Jqc (l:=l) (by omega) (Nat.le_refl (cnt l).length)
 have jL:Jou (Ya l):=⟨by rw[hrep],by omega⟩
 have hlL:lOk (Ya l):=⟨by omega,fun e he=>Jo5 (jL.ck e he)⟩
 obtain⟨r1,r2⟩:=Jza h0 (show l.length≤1000 by omega)
 simp only[hev,hc]
 refine⟨(0:Nat),by(repeat' first|exact rfl|exact⟨⟩|apply And.intro|omega|dsimp only;omega),Nat.zero_le _,fun(x:Nat) hx=>⟨fun h1=> ?_,fun h1=> ?_⟩⟩
 ·have hlt:x<(cnt l).length:=Int.ofNat_lt.1 (of_decide_eq_true h1)
  obtain⟨c1,_,_,_⟩:=Jmc (l:=l) x (show x<(rgs l).length by omega)
  have c1:Ja ((cnt l).getD x ev0)=0:=c1
  have hz:=Jo5 c1
  have hu:=hul x hx
  have e:H3 l x++[((x:Int)+1,((cnt l).getD x ev0).2.1,((cnt l).getD x ev0).2.2.1,((cnt l).getD x ev0).2.2.2.1,({data:={toList:=[]}}:ByteArray))]=H3 l (x+1):=by
   rw[Jbv hlt]
   have:=Jzc c1
   show _++[_]=_++[_]
   rw[show((cnt l).getD x ev0).2=(((cnt l).getD x ev0).2.1,((cnt l).getD x ev0).2.2.1,((cnt l).getD x ev0).2.2.2.1,((cnt l).getD x ev0).2.2.2.2) from rfl,this]
   rfl
  have z1:=hz.1
  have z2:=hz.2.1
  refine⟨by omega,⟨by omega,by show(0+((cnt l).getD x ev0).2.2.1.length)*16≤_;omega,by show(0+((cnt l).getD x ev0).2.2.2.1.length)*8≤_;omega,by omega⟩,by omega,(x+1:Nat), ?_,by omega,by omega⟩
  repeat' first|exact e|exact rfl|exact trivial|apply And.intro|omega
 have hk:x=(cnt l).length:=by have:=of_decide_eq_false h1;omega
 subst hk
 refine⟨(0:Nat),by(repeat' first|exact rfl|exact⟨⟩|apply And.intro|omega|dsimp only;omega),Nat.zero_le _,fun(x:Nat) hx=>⟨fun h1=> ?_,fun h1=> ?_⟩⟩
 ·have hlt:x<(Ya l).length:=Int.ofNat_lt.1 (of_decide_eq_true h1)
  have hck:=jL.ck _ (Je (d:=ev0) hlt)
  have hz:=Jo5 hck
  have happ:=jL.app hlt
  have hsz:=jL.size x
  have hacc:Jd8 ((Ya l).take x) ((Ya l).getD x ev0)=0:=by
   have a0:Jpn ((Ya l).take x) ((Ya l).getD x ev0)=0:=by
    unfold Jpn
    rw[hck,show(Jb ((Ya l).take x)).2.2=0 by rw[(jL.run x).1];exact(jL.run x).2,decide_eq_false (by rw[List.length_take];omega)]
    rfl
   unfold Jd8
   rw[if_pos a0]
   exact(add_zero (jL.step hlt).1).2
  simp only[Prod.eta,hacc,happ]
  refine⟨by omega,⟨by omega,⟨by rw[List.length_take];omega,fun e he=>hlL.2 e (List.mem_of_mem_take he)⟩,hz⟩,fun h=>(by cases h),fun _=>⟨⟨by omega,hz⟩,fun h=>(by cases h),fun _=>⟨by omega,(x+1:Nat), ?_,by omega,by omega⟩⟩⟩
  repeat' first|exact rfl|exact⟨⟩|apply And.intro|omega|dsimp only;omega
 have hk:x=(Ya l).length:=by have:=of_decide_eq_false h1;omega
 subst hk
 have hrc:=jL.rcv (Ya l).length
 rw[List.take_length] at hrc
 have hw:Jp t 0 999999999=0:=Ko.2 (by omega)
 have a1:Yo l t=0:=by unfold Yo;rw[h0,hw];rfl
 have a2:Yo (Ya l) t=0:=by rw[(r2 t).1,a1]
 have e3:(Jb (Ya l)).2.2=0:=jL.err
 have e4:(Jb (Ya l)).1.1=Ya l:=by rw[hrep]
 have hr:=Jkm (l:=l)
 have ha:Js (Yl l t):=J0y
 have le:∀{n k:Nat},n≤k→k≤1000000→n≤1000000:=fun h1 h2=>Nat.le_trans h1 h2
 have b1:=le hr.nS (by decide)
 have b2:=le hr.nO (by decide)
 have b3:=le hr.nM (by decide)
 have b4:=le hr.nX (by decide)
 have b5:=le hr.nQ (by decide)
 have d1:=le ha.nS (by decide)
 have d2:=le ha.nO (by decide)
 have d3:=le ha.nM (by decide)
 have d4:=le ha.nX (by decide)
 have d5:=le ha.nQ (by decide)
 rw[r1,(r2 t).2]
 simp only[hrc,h0,a1,a2,e3,e4,show((0:Int) !=0)=false from rfl,cond_false,true_implies,Jb3 Jic,cond_true,reduceCtorEq,false_implies,true_or,and_true,true_and]
 have hx:∀x∈Ya l,x.2.2.1.length≤1000000∧x.2.2.2.1.length≤1000000:=fun x hx=>⟨(Jo5 (jL.ck x hx)).1,(Jo5 (jL.ck x hx)).2.1⟩
 repeat' first|exact b1|exact b2|exact b3|exact b4|exact b5|exact d1|exact d2|exact d3|exact d4|exact d5|exact hl|exact hlL|exact hx|exact hlL.2|omega|apply And.intro
end Go.Proofs.YthlgkojihnccaaaGreatDoor

/- Contracts of the functions that the law reaches: part of the proof. -/
import Derived.Test.YtcibbcfiemeoiaaGreatDoorFA
import Derived.Shelf.Strconv.ErrVarAll
import Derived.Lib.ItoaLen
import Derived.Lib.ItoaMem
set_option linter.unusedSimpArgs false
set_option linter.unusedVariables false
set_option maxRecDepth 20000
namespace Go.Proofs.YtcibbcfiemeoiaaGreatDoor
open Go.Sx
set_option maxHeartbeats 20000000
def cOp1:Con:={args:=[aS, .ref 105 sReg],ress:=[I],owns:=[],pre:=fun(_,r,_)=>[RegOk r],spec:=fun(s,r,_)=>(bif !hasS r 0 s then 10 else 0,())}
theorem ok139:Ok Tryz.prog 139 cOp1:=okW W94 Tryz.f139 na fun xx=>by
 obtain⟨(s:ByteArray),⟨(tk:Int),(st:Int),(S:List Sta),(O:List Ord),(M:List Met),(X:List Out),(Q:List Per)⟩,_⟩:=xx
 refine(by kernel_rfl:(Z119 tk st S O M X Q→Z119 tk st S O M X Q∧(bif !hasS (tk,st,S,O,M,X,Q) (0:Int) s then(10:Int) else(0:Int))=bif !hasS (tk,st,S,O,M,X,Q) (0:Int) s then(10:Int) else(0:Int))=_).mp ?_
 delta Z119
 intro hr
 exact⟨hr,rfl⟩
abbrev W95:=W94.add ok139
def opE (l:List Ev) (ns:List ByteArray):Int:=if(replayS l).2.2=0 then firstS (ns.map fun s=>bif !hasS (regP l) 0 s then 10 else 0) else(replayS l).2.2
def cOpen:Con:={args:=[.val false (.list 67 sEv), .val false (.list 9 .str)],ress:=[(true,sReg),I],owns:=[],pre:=fun(l,ns,_)=>[lOk l,ns.length≤1000000],spec:=fun(l,ns,_)=>(regP l,opE l ns,())}
abbrev annRep2 (l:List Ev) (ns:List ByteArray):Ann:={X:=Hist×Nat,σ:=fun(h,k)=>⟨9,[(5, .one (.ptr 4 0)),(14, .one (.sl 0)),(15, .one (.int .i64 l.length)),(16, .one (.int .i64 k))],[(0, .imm 67 sEv l),(1, .imm 9 .str ns),(2, .box 105 zReg),(3, .sus [(1, .one (.sl 1)),(4, .one (.ptr 2 0))]),(4, .box 167 [.sl 6, .sl 7, .sl 8]),(6, .own 67 sEv h.1),(7, .own 67 sEv h.2.1),(8, .own 105 sReg h.2.2)]⟩,inv:=fun(h,k)=>HistI h∧h.1.length=k∧k≤l.length∧l.length≤1000∧runS h (l.drop k)=replayS l,mu:=fun(_,k)=>l.length-k}
def Z29 (a:Hist×Nat):=Iw (Nc a.2+1)
def Z121:=Value.slice none 0 0
def Z142 (a:Hist×Nat):=(a.1.1,E2 a.1.2)
def Z184 (a:Hist×Nat):=HistOk (Z142 a)
def Z264 (a:List Ev) (b:Hist×Nat):=(List.getD a b.2 Z181).2
def Z365 (a:List Ev):=Z306=regP a
def Z390 (a:(List Ev×List Ev×List Reg)×Nat):=List.length a.1.1=0∧List.length a.1.2.1=0∧List.length a.1.2.2=0
def Z395 (a:Bt):= !hasS Z306 0 a
def Z519 (a:Hist×Nat):=Gt a.1.2.2 (Ln a.1.2.2-1) Z306
def Z526 (a:Hist×Nat):=(Z519 a).2
def Z532 (a:Hist×Nat):=(Z526 a).2
def Z538 (a:Hist×Nat):=(Z532 a).2
def Z541 (a:Hist×Nat):=(Z538 a).2
def Z556 (a:(List Ev×List Ev×List Reg)×Nat) (b:List Ev):=HistI a.1∧List.length a.1.1=a.2∧a.2≤List.length b∧List.length b≤1000∧runS a.1 (List.drop a.2 b)=replayS b
def Z557 (a:Hist×Nat) (b:List Ev):=HistI a.1∧List.length a.1.1=a.2∧a.2≤List.length b∧List.length b≤1000∧runS a.1 (List.drop a.2 b)=replayS b
def Z653 (a:Ls):=List.map (fun(x:ByteArray)=>match Z395 x with|true=>(10:Int)|false=>(0:Int)) a
def Z670 (a:(List Ev×List Ev×List Reg)×Nat) (b:List Ev) (c:Hist×Nat):=Z556 a b∧List.length b-a.2<List.length b-c.2
def Z739 (a:List Ev) (b:Hist×Nat):=((List.getD a b.2 Z181).1,(Z264 a b).1,(Z264 a b).2.1,E2 (Z264 a b).2.2)
def Z770 (a:Hist×Nat) (b:List Ev):=addE (Z142 a) (Z739 b a)
def Z771 (a:Hist×Nat) (b:List Ev):=addP (Z142 a) (Z739 b a)
def Z772 (a:Hist×Nat) (b:List Ev):=(Z771 a b).2
def Z784 (a:Hist×Nat) (b:List Ev):=Z184 a∧List.length a.1.1<1000∧evSz (Z739 b a)
def Z787 (a:Hist×Nat) (b:List Ev):=Z770 a b !=0
def Z887 (a:Hist×Nat):=((Z519 a).1,(Z526 a).1,(Z532 a).1,(Z538 a).1,(Z541 a).1,E2 (Z541 a).2)
def Z902 (a:Hist×Nat) (b:Ls):=List.map (fun(x:ByteArray)=>match !hasS (Z887 a) (0:Int) x with|true=>(10:Int)|false=>(0:Int)) b
def Z908 (a:Hist×Nat) (b:List Ev) (c:(List Ev×List Ev×List Reg)×Nat):=(Z771 a b).1=c.1.1∧(Z772 a b).1=c.1.2.1∧(Z772 a b).2=c.1.2.2
theorem ok68:Ok Tryz.prog 68 cOpen:=okWG W95 Tryz.f68 (lib_ok (l:=([(74,Tryz.f74),(75,Tryz.f75)]:List (Nat×Func))) (List.forall_mem_cons.2 ⟨by kernel_rfl,List.forall_mem_cons.2 ⟨by kernel_rfl,by simp⟩⟩)) (fun xx=>na ()) (fun xx=>fun f id=>if f=74 then some (annRep2 xx.1 xx.2.1) else none) fun xx=>by
 obtain⟨(l:List Ev),(ns:List ByteArray),_⟩:=xx
 refine(by kernel_rfl:(lOk l→Z102 ns→Br (decide (1000<Ln l)) (Br true (Sf true (Z365 l∧5=opE l ns)) False) (∃(x:(List Ev×List Ev×List Reg)×Nat),Si (Ln l) (0=Nc x.2∧Sf l (Sf ns (Si 0 (Si 0 (Sf Z121 (Sf Z121 (Sf Z121 (Sf Z121 (Sf Z121 (Z390 x))))))))))∧Z556 x l∧∀(x:Hist×Nat),Z557 x l→Br (decide (Nc x.2<Ln l)) (Tw (Bd (Nc x.2) (Ln l))∧Z784 x l∧Br (Z787 x l) (Z29 x∧Br (Z787 x l) (Sf true (Z365 l∧Z770 x l=opE l ns)) False) (Z29 x∧∃(y:(List Ev×List Ev×List Reg)×Nat),Si (Ln l) (Nc x.2+1=Nc y.2∧Sf l (Sf ns (Si 0 (Si 0 (Sf Z121 (Sf Z121 (Sf Z121 (Sf Z121 (Sf Z121 (Z908 x l y))))))))))∧Z670 y l x)) (Br false (Sf true (Z365 l∧0=opE l ns)) (Br (decide (0<Ln x.1.2.2)) ((Iw (Ln x.1.2.2-1)∧Tw (Bd (Ln x.1.2.2-1) (Ln x.1.2.2)))∧(Z102 ns∧(∀(x_1:ByteArray),Z241 ns x_1→RegOk (Z887 x))∧List.length (Z902 x ns)≤1000000)∧Sf true (Z887 x=regP l∧firstS (Z902 x ns)=opE l ns)) ((Z102 ns∧(∀(x:ByteArray),Z241 ns x→Z336)∧List.length (Z653 ns)≤1000000)∧Sf true (Z365 l∧firstS (Z653 ns)=opE l ns))))))=_).mp ?_
 delta Z29 Z102 Z121 Z142 Z181 Z184 Z241 Z264 Z274 Z306 Z336 Z365 Z390 Z395 Z519 Z526 Z532 Z538 Z541 Z556 Z557 Z653 Z670 Z739 Z770 Z771 Z772 Z784 Z787 Z887 Z902 Z908 Br Iw Bd Tw Sf Si Ln Nc Gt B0 E2
 intro hl hns
 refine⟨fun h=> ?_,fun h=> ?_⟩
 ·have e:replayS l=(hist0,0,5):=by unfold replayS;rw[if_pos (by have:=of_decide_eq_true h;omega)]
  refine⟨fun _=>⟨rfl, ?_, ?_⟩,fun h=>by cases h⟩
  ·unfold regP;rw[e];rfl
  ·unfold opE;rw[e];rfl
 have hn:l.length≤1000:=by have:=of_decide_eq_false h;omega
 have e0:replayS l=runS hist0 l:=by unfold replayS;rw[if_neg (by omega)]
 refine⟨(hist0,(0:Nat)),⟨rfl,rfl,rfl,rfl,rfl,rfl,rfl,rfl,rfl,rfl,rfl,rfl,rfl,rfl⟩,⟨hist0_ok,rfl,Nat.zero_le _,hn,e0.symm⟩,fun(x:Hist×Nat) hx=>⟨fun h1=> ?_,fun h1=> ?_⟩⟩
 ·obtain⟨g,k⟩:=x
  obtain⟨hi,hk,hk2,_,hrun⟩:=hx
  dsimp only at hi hk hk2 hrun
  have hlt:k<l.length:=by simpa using h1
  rw[drop_cons (d:=ev0) hlt,runS] at hrun
  have hz:=hl.2 _ (getD_mem (d:=ev0) hlt)
  refine⟨⟨⟨by dsimp only;omega,by dsimp only;omega⟩,by dsimp only;omega,by dsimp only;omega⟩,⟨hi.ok,by show g.1.length<1000;omega,hz⟩,fun h2=>⟨by dsimp only;omega,fun h3=> ?_,fun h3=> ?_⟩,fun h2=>⟨by dsimp only;omega,(addH g (l.getD k ev0),k+1), ?_,⟨?_, ?_,by dsimp only;omega,hn, ?_⟩,by dsimp only;omega⟩⟩
  ·have h2:addE g (l.getD k ev0)≠0:=bne_iff_ne.1 h2
   rw[if_neg h2] at hrun
   refine⟨rfl, ?_, ?_⟩
   ·unfold regP;rw[←hrun];dsimp only;rw[if_neg h2];rfl
   ·unfold opE;rw[←hrun];dsimp only;rw[if_neg h2];rfl
  ·have h2:addE g (l.getD k ev0)≠0:=bne_iff_ne.1 h2
   exact absurd (bne_eq_false_iff_eq.1 h3) h2
  ·have h2:addE g (l.getD k ev0)=0:=bne_eq_false_iff_eq.1 h2
   have eP:addP g (l.getD k ev0)=addH g (l.getD k ev0):=by unfold addP;rw[if_pos h2]
   refine⟨rfl,by simp,rfl,rfl,rfl,rfl,rfl,rfl,rfl,rfl,rfl, ?_, ?_, ?_⟩
   ·show(addP g (l.getD k ev0)).1=_;rw[eP]
   ·show(addP g (l.getD k ev0)).2.1=_;rw[eP]
   ·show(addP g (l.getD k ev0)).2.2=_;rw[eP]
  ·exact add_ok hi (by omega) (bne_eq_false_iff_eq.1 h2)
  ·show(addH g (l.getD k ev0)).1.length=k+1
   rw[addH_len,hk]
  ·have h2:addE g (l.getD k ev0)=0:=bne_eq_false_iff_eq.1 h2
   rw[if_pos h2] at hrun
   exact hrun
 ·obtain⟨g,k⟩:=x
  obtain⟨hi,hk,hk2,_,hrun⟩:=hx
  dsimp only at hi hk hk2 hrun
  have hlt:¬k<l.length:=by simpa using h1
  have:k=l.length:=by omega
  rw[this,List.drop_length,runS] at hrun
  have eR:regP l=nowS g.2.2:=by unfold regP;rw[←hrun];rfl
  have hR:=now_ok hi.ok
  have hGl:((g.2.2.length:Int)-1).toNat=g.2.2.length-1:=by omega
  have hb:g.2.2.length≤1000:=by have:=hi.ok.nG;have:=hi.ok.nC;have:=hi.ok.nE;omega
  have eO:opE l ns=firstS (ns.map fun s=>bif !hasS (nowS g.2.2) 0 s then 10 else 0):=by unfold opE;rw[←hrun,eR];rfl
  refine⟨fun f=>(by cases f),fun _=>⟨fun h2=> ?_,fun h2=> ?_⟩⟩
  ·have h2:(0:Int)<g.2.2.length:=of_decide_eq_true h2
   dsimp only
   rw[hGl]
   exact⟨⟨⟨by omega,by omega⟩,⟨by omega,by omega⟩,by omega,by omega⟩,⟨hns,fun _ _=>hR,by rw[List.length_map];exact hns⟩,rfl,eR.symm,eO.symm⟩
  ·have e1:=now_nil h2
   rw[e1] at eR eO hR
   exact⟨⟨hns,fun _ _=>hR,by rw[List.length_map];exact hns⟩,rfl,eR.symm,eO.symm⟩
abbrev W96:=W95.add ok68
theorem runS_ok:∀{l:List Ev} {h:Hist},HistI h→h.1.length+l.length≤1000→HistI (runS h l).1
 |[],_,hi,_=>hi
 | e :: l, h, hi, hl => by
  unfold runS
  simp only[List.length_cons] at hl
  by_cases ha:addE h e=0
  ·rw[if_pos ha]
   exact runS_ok (add_ok hi (by omega) ha) (by rw[addH_len];omega)
  ·rw[if_neg ha];exact hi
theorem replay_ok {l:List Ev}:HistI (replayS l).1:=by
 unfold replayS
 by_cases h:1000<l.length
 ·rw[if_pos h];exact hist0_ok
 ·rw[if_neg h];exact runS_ok hist0_ok (by show 0+l.length≤1000;omega)
theorem regP_ok {l:List Ev}:RegOk (regP l):=by
 unfold regP
 by_cases h:(replayS l).2.2=0
 ·rw[if_pos h];exact now_ok replay_ok.ok
 ·rw[if_neg h];exact now_ok hist0_ok.ok
def roomE (l:List Ev) (s:ByteArray) (h:Int):Int:=firstS [opE l [s],withinS h 0 999999999]
def roomP (l:List Ev) (s:ByteArray) (h:Int):Int:=if roomE l s h=0 then roomS (regP l).2.2.1 (regP l).2.2.2.1 (regP l).2.2.2.2.2.1 s h else 0
def cRoom25:Con:={args:=[.val false (.list 67 sEv),aS,aI],ress:=[I,I],owns:=[],pre:=fun(l,_)=>[lOk l],spec:=fun(l,s,h,_)=>(roomP l s h,roomE l s h,())}
theorem op_sta {l:List Ev} {s:ByteArray} (h:opE l [s]=0):0≤findS (regP l).2.2.1 s:=by
 unfold opE at h
 by_cases h0:(replayS l).2.2=0
 ·rw[if_pos h0] at h
  have h1:=firstS_zero.1 h _ (List.mem_map_of_mem (List.mem_cons_self ..))
  have h2:=bif_zero (by decide) h1
  exact has0 (by simpa using h2)
 ·rw[if_neg h0] at h;exact absurd h h0
def Z546 (a:List Ev):=RegOk ((regP a).1,(regP a).2.1,(regP a).2.2.1,(regP a).2.2.2.1,(regP a).2.2.2.2.1,E2 (regP a).2.2.2.2.2)
theorem ok25:Ok Tryz.prog 25 cRoom25:=okW W96 Tryz.f25 na fun xx=>by
 obtain⟨(l:List Ev),(s:ByteArray),(h:Int),_⟩:=xx
 refine(by kernel_rfl:(lOk l→(lOk l∧1≤1000000)∧2≤1000000∧Br (firstS [opE l [s],Z61 h] !=0) (0=roomP l s h∧firstS [opE l [s],Z61 h]=roomE l s h) ((Z546 l∧0≤findS (regP l).2.2.1 s)∧roomS (regP l).2.2.1 (regP l).2.2.2.1 (regP l).2.2.2.2.2.1 s h=roomP l s h∧0=roomE l s h))=_).mp ?_
 delta Z61 Z546 Br E2
 intro hl
 refine⟨⟨hl,by decide⟩,by decide,fun e=> ?_,fun e=> ?_⟩
 ·have e:roomE l s h≠0:=bne_iff_ne.1 e
  exact⟨by unfold roomP;rw[if_neg e],rfl⟩
 ·have e:roomE l s h=0:=bne_eq_false_iff_eq.1 e
  exact⟨⟨regP_ok,op_sta (first_two e).1⟩,by unfold roomP;rw[if_pos e],e.symm⟩
abbrev W97:=W96.add ok25
abbrev W98:=W97
abbrev W99:=W98
abbrev W100:=W99
abbrev Bill:=ByteArray×Int×Int×Int×Int×Int
abbrev sBill:Sch:= .prod .str (.prod sI (.prod sI (.prod sI (.prod sI sI))))
abbrev Acc4:=Int×Int×Int×Int
def metS (M:List Met) (s:ByteArray) (h:Int):Met:=M.getD (meterS M s h).toNat met0
def billH (st:Int) (M:List Met) (x:Ord):Int→Nat→Acc4→Acc4
 |_,0,a=>a
 |h,n+1,(c,s,g,f)=>billH st M x (h+1) n (bif countsB x h&&decide (h<st) then(c+1,s+(metS M x.1 h).2.2.1,g+(metS M x.1 h).2.2.2,f+3*(x.2.2.2.2.1-(metS M x.1 h).2.2.2)) else(c,s,g,f))
def bill4 (st:Int) (M:List Met) (x:Ord):Acc4:=billH st M x x.2.2.2.1.1 (spanN x) (0,0,0,0)
def billS (st:Int) (M:List Met) (x:Ord):Bill:=(x.1,(bill4 st M x).1,(bill4 st M x).2.1,(bill4 st M x).2.2.1,(bill4 st M x).2.2.1*x.2.2.2.2.2.1,(bill4 st M x).2.2.2)
def cBill:Con:={args:=[aReg, .val true sOrd],ress:=[(true,sBill)],owns:=[],pre:=fun(r,x,_)=>[RegOk r,x∈r.2.2.2.1],spec:=fun((_,st,_,_,M,_),x,_)=>(billS st M x,())}
abbrev annBill (tk st:Int) (S:List Sta) (O:List Ord) (M:List Met) (X:List Out) (Q:List Per) (x:Ord):Ann:={X:=Nat×Acc4,σ:=fun(j,c,s,g,f)=>⟨14,[(0, .one (.fv 12)),(1, .one (.ptr 10 0)),(3, .one (.int .i64 (x.2.2.2.1.1+j)))],[(0, .imm 127 sSta S),(1, .imm 130 sOrd O),(2, .imm 155 sMet M),(3, .imm 188 sOut X),(4, .imm 235 sPer Q),(5, .box 105 [.int .i64 tk, .int .i64 st, .sl 0, .sl 1, .sl 2, .sl 3, .sl 4]),(6, .box 130 (bxO x)),(7, .box 129 [.str bnil, .int .i64 0, .int .i64 0, .int .i64 0, .int .i64 0, .int .i64 0]),(8, .box 129 [.str x.1, .int .i64 c, .int .i64 s, .int .i64 g, .int .i64 0, .int .i64 f]),(10, .box 130 (bxO x)),(12, .yld .ready),(13, .sus [(2, .one (.ptr 5 0)),(3, .one (.ptr 6 0)),(4, .one (.ptr 7 0)),(5, .one (.ptr 8 0))])]⟩,inv:=fun(j,c,s,g,f)=>j≤spanN x∧(0≤c∧c≤j)∧(0≤s∧s≤1000*j)∧(0≤g∧g≤1000*j)∧(-3000*j≤f∧f≤3000*j)∧billH st M x (x.2.2.2.1.1+j) (spanN x-j) (c,s,g,f)=bill4 st M x,mu:=fun(j,_)=>spanN x-j}
def Z163 (a:Int) (b:Nat):=0≤a∧a≤1000*Nc b
def Z307 (a:List Met) (b:Bt) (c:Int) (d:Nat×Acc4):=(Gt a (meterS a b (c+Nc d.1)) Z110).2.2
def Z339 (a:Int) (b:List Met) (c:Bt) (d:Int) (e:Nat×Acc4):=a-(Z307 b c d e).2
def Z364 (a:Nat×Acc4) (b:List Met) (c:Bt) (d:Int):=a.2.2.1+(Z307 b c d a).1
def Z370 (a:Nat×Acc4) (b:List Met) (c:Bt) (d:Int):=a.2.2.2.1+(Z307 b c d a).2
def Z429 (a:Nat×Acc4) (b:Int) (c:List Met) (d:Bt) (e:Int):=a.2.2.2.2+3*Z339 b c d e a
def Z790 (a:Nat) (b c d:Bt) (e f g h i j k l m n:Int) (o:List Met):=a≤spanN (b,c,d,(e,f),g,h,i)∧(0≤j∧j≤Nc a)∧Z163 k a∧Z163 l a∧((-3000)*Nc a≤m∧m≤3000*Nc a)∧billH n o (b,c,d,(e,f),g,h,i) (e+Nc a) (spanN (b,c,d,(e,f),g,h,i)-a) (j,k,l,m)=bill4 n o (b,c,d,(e,f),g,h,i)
def Z797 (a:Nat×Int×Int×Int×Int) (b c d:Bt) (e f g h i j:Int) (k:List Met):=match a with|(j_1,c_1,s,g_1,f_1)=>Z790 j_1 b c d e f g h i c_1 s g_1 f_1 j k
def Z809 (a:Nat×Int×Int×Int×Int) (b c d:Bt) (e f g h i j:Int) (k:List Met) (l:Nat×Acc4):=Z797 a b c d e f g h i j k∧spanN (b,c,d,(e,f),g,h,i)-a.1<spanN (b,c,d,(e,f),g,h,i)-l.1
def Z916 (a:Nat×Acc4) (b:Int) (c:Bt) (d:Int) (e:List Met) (f g:Bt) (h i j k:Int) (l:List Sta) (m:List Ord) (n:List Out) (o:List Per) (p:Int):=Br false (Iw (a.2.2.2.1*b)∧Sf true ((c,a.2.1,a.2.2.1,a.2.2.2.1,a.2.2.2.1*b,a.2.2.2.2)=billS d e (c,f,g,(h,i),j,b,k))) (Iw (h+Nc a.1+1)∧∃(y:Nat×Int×Int×Int×Int),(h+Nc a.1+1=h+Nc y.1∧Sf l (Sf m (Sf e (Sf n (Sf o (Si p (Si d (Sf c (Sf f (Sf g (Si h (Si i (Si j (Si b (Si k (Sf bnil (Si 0 (Si 0 (Si 0 (Si 0 (Si 0 (Sf c (a.2.1=y.2.1∧a.2.2.1=y.2.2.1∧a.2.2.2.1=y.2.2.2.1∧Si 0 (a.2.2.2.2=y.2.2.2.2∧Sf c (Sf f (Sf g (Si h (Si i (Si j (Si b (k=k)))))))))))))))))))))))))))))))∧Z809 y c f g h i j b k d e a)
theorem ok126:Ok Tryz.prog 126 cBill:=okWG W100 Tryz.f126 (lib_ok (l:=([(178,Tryz.f178),(247,Tryz.f247)]:List (Nat×Func))) (List.forall_mem_cons.2 ⟨by kernel_rfl,List.forall_mem_cons.2 ⟨by kernel_rfl,by simp⟩⟩)) (fun xx=>na ()) (fun xx=>fun f' id=>if f'=247 then some (annBill xx.1.1 xx.1.2.1 xx.1.2.2.1 xx.1.2.2.2.1 xx.1.2.2.2.2.1 xx.1.2.2.2.2.2.1 xx.1.2.2.2.2.2.2 (xx.2.1.1,xx.2.1.2.1,xx.2.1.2.2.1,(xx.2.1.2.2.2.1.1,xx.2.1.2.2.2.1.2),xx.2.1.2.2.2.2.1,xx.2.1.2.2.2.2.2.1,xx.2.1.2.2.2.2.2.2)) else none) fun xx=>by
 obtain⟨⟨(tk:Int),(st:Int),(S:List Sta),(O:List Ord),(M:List Met),(X:List Out),(Q:List Per)⟩,⟨(n:ByteArray),(f:ByteArray),(t:ByteArray),⟨(a:Int),(b:Int)⟩,(p:Int),(c:Int),(r:Int)⟩,_⟩:=xx
 refine(by kernel_rfl:(Z119 tk st S O M X Q→(n,f,t,(a,b),p,c,r)∈O→∃(x:Nat×Int×Int×Int×Int),(a=a+Nc x.1∧Sf S (Sf O (Sf M (Sf X (Sf Q (Si tk (Si st (Sf n (Sf f (Sf t (Si a (Si b (Si p (Si c (Si r (B0=bnil∧Si 0 (Si 0 (Si 0 (Si 0 (Si 0 (Sf n (0=x.2.1∧0=x.2.2.1∧0=x.2.2.2.1∧Si 0 (0=x.2.2.2.2∧Sf n (Sf f (Sf t (Si a (Si b (Si p (Si c (r=r))))))))))))))))))))))))))))))∧Z797 x n f t a b p c r st M∧∀(x:Nat×Acc4),(match x with|(j,c_1,s,g,f_1)=>Z790 j n f t a b p c r c_1 s g f_1 st M)→Br (decide (a+Nc x.1<b)) (Br (countsB (n,f,t,(a,b),p,c,r) (a+Nc x.1)) (Br (decide (a+Nc x.1<st)) ((Z119 tk st S O M X Q∧Tw (Bd (meterS M n (a+Nc x.1)) (Ln M)))∧Iw (x.2.1+1)∧Iw (Z364 x M n a)∧Iw (Z370 x M n a)∧(Iw (Z339 p M n a x)∧Iw (3*Z339 p M n a x)∧Iw (Z429 x p M n a))∧Br false (Iw (Z370 x M n a*c)∧Sf true ((n,x.2.1+1,Z364 x M n a,Z370 x M n a,Z370 x M n a*c,Z429 x p M n a)=billS st M (n,f,t,(a,b),p,c,r))) (Iw (a+Nc x.1+1)∧∃(y:Nat×Int×Int×Int×Int),(a+Nc x.1+1=a+Nc y.1∧Sf S (Sf O (Sf M (Sf X (Sf Q (Si tk (Si st (Sf n (Sf f (Sf t (Si a (Si b (Si p (Si c (Si r (Sf bnil (Si 0 (Si 0 (Si 0 (Si 0 (Si 0 (Sf n (x.2.1+1=y.2.1∧Z364 x M n a=y.2.2.1∧Z370 x M n a=y.2.2.2.1∧Si 0 (Z429 x p M n a=y.2.2.2.2∧Sf n (Sf f (Sf t (Si a (Si b (Si p (Si c (r=r)))))))))))))))))))))))))))))))∧Z809 y n f t a b p c r st M x)) (Z916 x c n st M f t a b p r S O X Q tk)) (Z916 x c n st M f t a b p r S O X Q tk)) (Iw (x.2.2.2.1*c)∧Sf true ((n,x.2.1,x.2.2.1,x.2.2.2.1,x.2.2.2.1*c,x.2.2.2.2)=billS st M (n,f,t,(a,b),p,c,r))))=_).mp ?_
 delta Z60 Z110 Z119 Z163 Z307 Z339 Z364 Z370 Z429 Z790 Z797 Z809 Z916 Br Iw Bd Tw Sf Si Ln Nc Gt B0
 intro hr hx
 have hO:=hr.ord _ hx
 have hD:=hr.done _ hx
 have b0:=hO.span.lo
 have b1:=hO.span.mid
 have b2:=hO.span.hi
 have b3:=hO.span.len
 have bp:=hO.pow
 have bc:=hO.pri
 have hn:spanN (n,f,t,(a,b),p,c,r)≤48∧(spanN (n,f,t,(a,b),p,c,r):Int)=b-a:=by
  dsimp only at b1 b3
  unfold spanN
  constructor<;>dsimp only<;>omega
 dsimp only at b0 b1 b2 b3 bp bc hD
 refine⟨((0:Nat),(0,0,0,0)),by(repeat' first|exact rfl|apply And.intro|exact(Int.add_zero _).symm|exact Int.add_assoc _ _ _|omega|(dsimp only;push_cast;omega)),⟨Nat.zero_le _,by omega,by omega,by omega,by omega, ?_⟩,fun(y:Nat×Acc4) hy=>⟨fun h1=> ?_,fun h1=> ?_⟩⟩
 ·unfold bill4
  rw[Nat.sub_zero]
  simp only[Int.natCast_zero,Int.add_zero]
 ·obtain⟨j,c1,s1,g1,f1⟩:=y
  obtain⟨k1,k2,k3,k4,k5,k6⟩:=hy
  have h1:a+(j:Int)<b:=of_decide_eq_true h1
  have hj:spanN (n,f,t,(a,b),p,c,r)-j=(spanN (n,f,t,(a,b),p,c,r)-(j+1))+1:=by omega
  rw[hj,billH] at k6
  have hc:a+(j:Int)+1=a+((j+1:Nat):Int):=by omega
  have hB: -9223372036854775808≤a+(j:Int)+1∧a+(j:Int)+1≤9223372036854775807:=by omega
  refine⟨fun h2=>⟨fun h3=> ?_,fun h3=>⟨fun h=>(by cases h),fun _=>⟨hB,(j+1,c1,s1,g1,f1),by(repeat' first|exact rfl|apply And.intro|exact(Int.add_zero _).symm|exact Int.add_assoc _ _ _|omega|(dsimp only;push_cast;omega)),⟨by(first|omega|(dsimp only;omega)|(simp only[];omega)),by(first|omega|(dsimp only;omega)|(simp only[];omega)),by(first|omega|(dsimp only;omega)|(simp only[];omega)),by(first|omega|(dsimp only;omega)|(simp only[];omega)),by(first|omega|(dsimp only;omega)|(simp only[];omega)), ?_⟩,by(first|omega|(dsimp only;omega)|(simp only[];omega))⟩⟩⟩,fun h2=>⟨fun h=>(by cases h),fun _=>⟨hB,(j+1,c1,s1,g1,f1),by(repeat' first|exact rfl|apply And.intro|exact(Int.add_zero _).symm|exact Int.add_assoc _ _ _|omega|(dsimp only;push_cast;omega)),⟨by(first|omega|(dsimp only;omega)|(simp only[];omega)),by(first|omega|(dsimp only;omega)|(simp only[];omega)),by(first|omega|(dsimp only;omega)|(simp only[];omega)),by(first|omega|(dsimp only;omega)|(simp only[];omega)),by(first|omega|(dsimp only;omega)|(simp only[];omega)), ?_⟩,by(first|omega|(dsimp only;omega)|(simp only[];omega))⟩⟩⟩
  ·have h3':a+(j:Int)<st:=of_decide_eq_true h3
   have hm:0≤meterS M n (a+(j:Int)):=hD _ h2 h3'
   have hl:=meterS_lt (l:=M) (s:=n) (h:=a+(j:Int))
   have hM:MetOk (metS M n (a+(j:Int))):=hr.met _ (getD_mem (show _<M.length by omega))
   have m1:=hM.sent
   have m2:=hM.got
   have e:M.getD (meterS M n (a+(j:Int))).toNat (bnil,0,0,0)=metS M n (a+(j:Int)):=rfl
   simp only[]
   rw[show(({data:={toList:=[]}}:ByteArray),(0:Int),(0:Int),(0:Int))=(bnil,0,0,0) from rfl,e]
   rw[h2,h3,Bool.true_and,cond_true] at k6
   refine⟨⟨hr,⟨hm,hl⟩,hm,hl⟩,by omega,by omega,by omega,⟨by omega,by omega,by omega⟩,fun h=>(by cases h),fun _=>⟨hB,(j+1,c1+1,s1+(metS M n (a+(j:Int))).2.2.1,g1+(metS M n (a+(j:Int))).2.2.2,f1+3*(p-(metS M n (a+(j:Int))).2.2.2)),by(repeat' first|exact rfl|apply And.intro|exact(Int.add_zero _).symm|exact Int.add_assoc _ _ _|omega|(dsimp only;push_cast;omega)),⟨by(first|omega|(dsimp only;omega)|(simp only[];omega)),by(first|omega|(dsimp only;omega)|(simp only[];omega)),by(first|omega|(dsimp only;omega)|(simp only[];omega)),by(first|omega|(dsimp only;omega)|(simp only[];omega)),by(first|omega|(dsimp only;omega)|(simp only[];omega)), ?_⟩,by(first|omega|(dsimp only;omega)|(simp only[];omega))⟩⟩
   rw[hc] at k6
   exact k6
  ·rw[h3,Bool.and_false,cond_false,hc] at k6
   exact k6
  ·rw[show countsB (n,f,t,(a,b),p,c,r) (a+(j:Int))=false from h2,Bool.false_and,cond_false,hc] at k6
   exact k6
 ·obtain⟨j,c1,s1,g1,f1⟩:=y
  obtain⟨k1,k2,k3,k4,k5,k6⟩:=hy
  have h1:¬a+(j:Int)<b:=of_decide_eq_false h1
  have hj:spanN (n,f,t,(a,b),p,c,r)-j=0:=by omega
  rw[hj,billH] at k6
  have q1:0≤g1*c:=Int.mul_nonneg k4.1 bc.1
  have q2:g1*c≤48000*1000:=Int.mul_le_mul (by omega) bc.2 bc.1 (by decide)
  refine⟨⟨by(first|omega|(dsimp only;omega)|(simp only[];omega)),by(first|omega|(dsimp only;omega)|(simp only[];omega))⟩,rfl, ?_⟩
  unfold billS
  rw[←k6]
abbrev W101:=W100.add ok126
def bd4 (k:Int) (a:Acc4):Prop:=(0≤a.1∧a.1≤k)∧(0≤a.2.1∧a.2.1≤1000*k)∧(0≤a.2.2.1∧a.2.2.1≤a.2.1)∧-3000*k≤a.2.2.2∧a.2.2.2≤3000*k
theorem billH_bd {st:Int} {M:List Met} {x:Ord} (hp:1≤x.2.2.2.2.1∧x.2.2.2.2.1≤1000) (hM:∀m∈M,MetOk m) (hd:∀h,countsB x h=true→h<st→0≤meterS M x.1 h):∀(n:Nat) (h:Int) (a:Acc4) (k:Int),bd4 k a→bd4 (k+n) (billH st M x h n a)
 |0,_,_,k,ha=>by unfold billH;rw[show k+((0:Nat):Int)=k by omega];exact ha
 | n + 1, h, (c, s, g, f), k, ha => by
  unfold billH
  rw[show k+((n+1:Nat):Int)=(k+1)+n by omega]
  apply billH_bd hp hM hd n
  unfold bd4 at ha⊢
  dsimp only at ha
  cases hb:countsB x h&&decide (h<st) with
  |false=>simp only[cond_false];omega
  |true=>
   have h1:=Bool.and_eq_true_iff.1 hb
   have hm:0≤meterS M x.1 h:=hd h h1.1 (of_decide_eq_true h1.2)
   have hl:=meterS_lt (l:=M) (s:=x.1) (h:=h)
   have hk:MetOk (metS M x.1 h):=hM _ (getD_mem (show _<M.length by omega))
   have m1:=hk.sent
   have m2:=hk.got
   simp only[cond_true]
   omega
theorem spanN_le {S:List Sta} {x:Ord} (h:OrdOk S x):spanN x≤48:=by
 have:=h.span.len
 have:=h.span.mid
 unfold spanN
 omega
structure BillOk (b:Bill):Prop where
 hours:0≤b.2.1∧b.2.1≤48
 sent:0≤b.2.2.1∧b.2.2.1≤48000
 got:0≤b.2.2.2.1∧b.2.2.2.1≤b.2.2.1
 money:0≤b.2.2.2.2.1∧b.2.2.2.2.1≤48000000
 fine: -144000≤b.2.2.2.2.2∧b.2.2.2.2.2≤144000
theorem billS_ok {tk st:Int} {S:List Sta} {O:List Ord} {M:List Met} {X:List Out} {Q:List Per} {x:Ord} (hr:RegOk (tk,st,S,O,M,X,Q)) (hx:x∈O):BillOk (billS st M x):=by
 have hO:=hr.ord _ hx
 have hs:=spanN_le hO
 have h:=billH_bd hO.pow hr.met (hr.done _ hx) (spanN x) x.2.2.2.1.1 (0,0,0,0) 0 (by unfold bd4;simp)
 have bc:=hO.pri
 unfold bd4 at h
 have h:(0≤(bill4 st M x).1∧(bill4 st M x).1≤0+(spanN x:Int))∧(0≤(bill4 st M x).2.1∧(bill4 st M x).2.1≤1000*(0+(spanN x:Int)))∧(0≤(bill4 st M x).2.2.1∧(bill4 st M x).2.2.1≤(bill4 st M x).2.1)∧-3000*(0+(spanN x:Int))≤(bill4 st M x).2.2.2∧(bill4 st M x).2.2.2≤3000*(0+(spanN x:Int)):=h
 have q1:0≤(bill4 st M x).2.2.1*x.2.2.2.2.2.1:=Int.mul_nonneg h.2.2.1.1 bc.1
 have q2:(bill4 st M x).2.2.1*x.2.2.2.2.2.1≤48000*1000:=Int.mul_le_mul (by omega) bc.2 bc.1 (by decide)
 exact⟨by unfold billS;(first|omega|(dsimp only;omega)|(simp only[];omega)),by unfold billS;(first|omega|(dsimp only;omega)|(simp only[];omega)),by unfold billS;(first|omega|(dsimp only;omega)|(simp only[];omega)),by unfold billS;(first|omega|(dsimp only;omega)|(simp only[];omega)),by unfold billS;(first|omega|(dsimp only;omega)|(simp only[];omega))⟩
def eqEnds (x:Ord) (a b:ByteArray):Bool:=x.2.1.toList==a.toList&&(x.2.2.1.toList==b.toList&&true)
def accD (st:Int) (M:List Met) (a b:ByteArray) (x:Ord) (n:Int):Int:=(bif eqEnds x b a then(bif eqEnds x a b then n+((billS st M x).2.2.2.2.1-(billS st M x).2.2.2.2.2) else n)-((billS st M x).2.2.2.2.1-(billS st M x).2.2.2.2.2) else(bif eqEnds x a b then n+((billS st M x).2.2.2.2.1-(billS st M x).2.2.2.2.2) else n))
def accL (st:Int) (M:List Met) (a b:ByteArray):List Ord→Int→Int
 |[],n=>n
 |x::l,n=>accL st M a b l (accD st M a b x n)
def accS2 (st:Int) (O:List Ord) (M:List Met) (a b:ByteArray):Int:=accL st M a b O 0
def cAccount:Con:={args:=[aReg,aS,aS],ress:=[I],owns:=[],pre:=fun(r,_)=>[RegOk r],spec:=fun((_,st,_,O,M,_),a,b,_)=>(accS2 st O M a b,())}
abbrev annAcc (tk st:Int) (S:List Sta) (O:List Ord) (M:List Met) (X:List Out) (Q:List Per) (a b:ByteArray):Ann:={X:=Nat×Int,σ:=fun(k,n)=>⟨6,[(1, .one (.str a)),(2, .one (.str b)),(3, .one (.ptr 5 0)),(7, .one (.int .i64 n)),(13, .one (.sl 1)),(14, .one (.int .i64 O.length)),(15, .one (.int .i64 k))],[(0, .imm 127 sSta S),(1, .imm 130 sOrd O),(2, .imm 155 sMet M),(3, .imm 188 sOut X),(4, .imm 235 sPer Q),(5, .box 105 [.int .i64 tk, .int .i64 st, .sl 0, .sl 1, .sl 2, .sl 3, .sl 4])]⟩,inv:=fun(k,n)=>k≤O.length∧(-100000000*k≤n∧n≤100000000*k)∧accL st M a b (O.drop k) n=accS2 st O M a b,mu:=fun(k,_)=>O.length-k}
def Z612 (a:List Ord) (b c:Nat×Int) (d:List Sta) (e:List Met) (f:List Out) (g:List Per) (h i:Int):=Si (Ln a) (Z584 b c d a e f g h i)
def Z645 (a:Nat×Int) (b:List Ord) (c:Int) (d:List Met) (e f:Bt):=a.1≤List.length b∧((-100000000)*Nc a.1≤a.2∧a.2≤100000000*Nc a.1)∧accL c d e f (List.drop a.1 b) a.2=accS2 c b d e f
def Z686 (a:List Ord) (b:Nat×Int) (c d:Bt):=Lb (Z338 a b) c&&(Lb (Z348 a b) d&&true)
def Z700 (a:Nat×Int) (b:List Ord) (c:Int) (d:List Met) (e f:Bt) (g:Nat×Int):=Z645 a b c d e f∧List.length b-a.1<List.length b-g.1
def Z810 (a:Int) (b:List Met) (c:List Ord) (d:Nat×Int):=(billS a b (Z802 c d)).2.2.2.2
def Z909 (a:Int) (b:List Met) (c:List Ord) (d:Nat×Int):=(Z810 a b c d).1-(Z810 a b c d).2
def Z910 (a:Int) (b:List Met) (c:List Ord) (d:Nat×Int):=Iw (Z909 a b c d)
def Z911 (a:Nat×Int) (b:Int) (c:List Met) (d:List Ord):=a.2-Z909 b c d a
def Z912 (a:Nat×Int) (b:Int) (c:List Met) (d:List Ord):=a.2+Z909 b c d a
def Z927 (a:Nat×Int) (b:Int) (c:List Met) (d:List Ord):=Z912 a b c d-Z909 b c d a
theorem ok127:Ok Tryz.prog 127 cAccount:=okW W101 Tryz.f127 (fun xx=>ann0 (annAcc xx.1.1 xx.1.2.1 xx.1.2.2.1 xx.1.2.2.2.1 xx.1.2.2.2.2.1 xx.1.2.2.2.2.2.1 xx.1.2.2.2.2.2.2 xx.2.1 xx.2.2.1)) fun xx=>by
 obtain⟨⟨(tk:Int),(st:Int),(S:List Sta),(O:List Ord),(M:List Met),(X:List Out),(Q:List Per)⟩,(a:ByteArray),(b:ByteArray),_⟩:=xx
 refine(by kernel_rfl:(Z119 tk st S O M X Q→∃(x:Nat×Int),Sf a (Sf b (0=x.2∧Si (Ln O) (Z547 x S O M X Q tk st)))∧Z645 x O st M a b∧∀(x:Nat×Int),Z645 x O st M a b→Br (decide (Nc x.1<Ln O)) (Tw (Bd (Nc x.1) (Ln O))∧(Z119 tk st S O M X Q∧Z802 O x∈O)∧Br (Z686 O x a b) ((Z910 st M O x∧Iw (Z912 x st M O))∧Br (Z686 O x b a) ((Z910 st M O x∧Iw (Z927 x st M O))∧Z35 x∧∃(y:Nat×Int),Sf a (Sf b (Z927 x st M O=y.2∧Z612 O x y S M X Q tk st))∧Z700 y O st M a b x) (Z35 x∧∃(y:Nat×Int),Sf a (Sf b (Z912 x st M O=y.2∧Z612 O x y S M X Q tk st))∧Z700 y O st M a b x)) (Br (Z686 O x b a) ((Z910 st M O x∧Iw (Z911 x st M O))∧Z35 x∧∃(y:Nat×Int),Sf a (Sf b (Z911 x st M O=y.2∧Z612 O x y S M X Q tk st))∧Z700 y O st M a b x) (Z35 x∧∃(y:Nat×Int),Sf a (Sf b (x.2=y.2∧Z612 O x y S M X Q tk st))∧Z700 y O st M a b x))) (x.2=accS2 st O M a b))=_).mp ?_
 delta Z35 Z60 Z111 Z119 Z254 Z328 Z331 Z338 Z341 Z348 Z350 Z355 Z362 Z547 Z584 Z612 Z645 Z686 Z700 Z802 Z810 Z909 Z910 Z911 Z912 Z927 Br Iw Bd Tw Sf Si Ln Nc B0 Lb E2
 intro hr
 have nO:O.length≤32:=hr.nO
 refine⟨((0:Nat),(0:Int)),by(repeat' first|exact rfl|apply And.intro|exact(Int.add_zero _).symm|exact Int.add_assoc _ _ _|omega|(dsimp only;push_cast;omega)),⟨Nat.zero_le _,by omega,rfl⟩,fun(x:Nat×Int) hk=>⟨fun h1=> ?_,fun h1=> ?_⟩⟩
 ·obtain⟨k,n⟩:=x
  have hlt:k<O.length:=by simpa using h1
  have hx:=getD_mem (d:=ord0) hlt
  have hb:=billS_ok hr hx
  obtain⟨k1,k2,k3⟩:=hk
  rw[drop_cons (d:=ord0) hlt,accL] at k3
  have m1:=hb.money
  have m2:=hb.fine
  have hz:((({data:={toList:=[]}}:ByteArray),({data:={toList:=[]}}:ByteArray),({data:={toList:=[]}}:ByteArray),((0:Int),(0:Int)),(0:Int),(0:Int),(0:Int)):Ord)=ord0:=rfl
  dsimp only at k1 k2 k3
  simp only[hz,Prod.eta]
  generalize O.getD k ord0=y at*
  have k3:accL st M a b (List.drop (k+1) O) (bif eqEnds y b a then(bif eqEnds y a b then n+((billS st M y).2.2.2.2.1-(billS st M y).2.2.2.2.2) else n)-((billS st M y).2.2.2.2.1-(billS st M y).2.2.2.2.2) else(bif eqEnds y a b then n+((billS st M y).2.2.2.2.1-(billS st M y).2.2.2.2.2) else n))=accS2 st O M a b:=k3
  refine⟨⟨⟨by omega,by omega⟩,by omega,by omega⟩,⟨hr,hx⟩,fun h2=>⟨⟨⟨by omega,by omega⟩,by omega,by omega⟩,fun h3=>⟨⟨⟨by omega,by omega⟩,by omega,by omega⟩,⟨⟨by omega,by omega⟩,(k+1,n+((billS st M y).2.2.2.2.1-(billS st M y).2.2.2.2.2)-((billS st M y).2.2.2.2.1-(billS st M y).2.2.2.2.2)),by(repeat' first|exact rfl|exact trivial|apply And.intro|exact(Int.add_zero _).symm|exact Int.add_assoc _ _ _|omega|(dsimp only;push_cast;omega)),⟨by(first|omega|(dsimp only;omega)|(simp only[];omega)),by(first|omega|(dsimp only;omega)|(simp only[];omega)), ?_⟩,by(first|omega|(dsimp only;omega)|(simp only[];omega))⟩⟩,fun h3=>⟨⟨by omega,by omega⟩,(k+1,n+((billS st M y).2.2.2.2.1-(billS st M y).2.2.2.2.2)),by(repeat' first|exact rfl|exact trivial|apply And.intro|exact(Int.add_zero _).symm|exact Int.add_assoc _ _ _|omega|(dsimp only;push_cast;omega)),⟨by(first|omega|(dsimp only;omega)|(simp only[];omega)),by(first|omega|(dsimp only;omega)|(simp only[];omega)), ?_⟩,by(first|omega|(dsimp only;omega)|(simp only[];omega))⟩⟩,fun h2=>⟨fun h3=>⟨⟨⟨by omega,by omega⟩,by omega,by omega⟩,⟨⟨by omega,by omega⟩,(k+1,n-((billS st M y).2.2.2.2.1-(billS st M y).2.2.2.2.2)),by(repeat' first|exact rfl|exact trivial|apply And.intro|exact(Int.add_zero _).symm|exact Int.add_assoc _ _ _|omega|(dsimp only;push_cast;omega)),⟨by(first|omega|(dsimp only;omega)|(simp only[];omega)),by(first|omega|(dsimp only;omega)|(simp only[];omega)), ?_⟩,by(first|omega|(dsimp only;omega)|(simp only[];omega))⟩⟩,fun h3=>⟨⟨by omega,by omega⟩,(k+1,n),by(repeat' first|exact rfl|exact trivial|apply And.intro|exact(Int.add_zero _).symm|exact Int.add_assoc _ _ _|omega|(dsimp only;push_cast;omega)),⟨by(first|omega|(dsimp only;omega)|(simp only[];omega)),by(first|omega|(dsimp only;omega)|(simp only[];omega)), ?_⟩,by(first|omega|(dsimp only;omega)|(simp only[];omega))⟩⟩⟩
  all_goals (have h2:eqEnds y a b=_:=h2;have h3:eqEnds y b a=_:=h3;rw[h2,h3] at k3;exact k3)
 ·obtain⟨k,n⟩:=x
  have hlt:¬k<O.length:=by simpa using h1
  obtain⟨k1,k2,k3⟩:=hk
  have:k=O.length:=by omega
  rw[this,List.drop_length,accL] at k3
  exact k3
abbrev W102:=W101.add ok127
theorem accL_bd {tk st:Int} {S:List Sta} {O:List Ord} {M:List Met} {X:List Out} {Q:List Per} {a b:ByteArray} (hr:RegOk (tk,st,S,O,M,X,Q)):∀(l:List Ord) (n:Int),(∀x∈l,x∈O)→n-100000000*l.length≤accL st M a b l n∧accL st M a b l n≤n+100000000*l.length
 |[],n,_=>by simp[accL]
 | x :: l, n, h => by
  have hb:=billS_ok hr (h x (List.mem_cons_self ..))
  have ih:=accL_bd (a:=a) (b:=b) hr l (accD st M a b x n) fun y hy=>h y (List.mem_cons_of_mem _ hy)
  have m1:=hb.money
  have m2:=hb.fine
  have hd:n-100000000≤accD st M a b x n∧accD st M a b x n≤n+100000000:=by
   unfold accD
   cases eqEnds x a b<;>cases eqEnds x b a<;>simp only[cond_true,cond_false]<;>omega
  simp only[List.length_cons]
  unfold accL
  omega
theorem accS2_bd {tk st:Int} {S:List Sta} {O:List Ord} {M:List Met} {X:List Out} {Q:List Per} {a b:ByteArray} (hr:RegOk (tk,st,S,O,M,X,Q)): -3200000000≤accS2 st O M a b∧accS2 st O M a b≤3200000000:=by
 have h:=accL_bd (a:=a) (b:=b) hr O 0 fun _ h=>h
 have nO:O.length≤32:=hr.nO
 unfold accS2
 omega
def balL (st:Int) (O:List Ord) (M:List Met) (s:ByteArray):List Sta→Int→Int
 |[],n=>n
 |x::l,n=>balL st O M s l (bif x.1.toList !=s.toList then n+accS2 st O M s x.1 else n)
def balS (st:Int) (S:List Sta) (O:List Ord) (M:List Met) (s:ByteArray):Int:=balL st O M s S 0
def cBalance:Con:={args:=[aReg,aS],ress:=[I],owns:=[],pre:=fun(r,_)=>[RegOk r],spec:=fun((_,st,S,O,M,_),s,_)=>(balS st S O M s,())}
abbrev annBal (tk st:Int) (S:List Sta) (O:List Ord) (M:List Met) (X:List Out) (Q:List Per) (s:ByteArray):Ann:={X:=Nat×Int,σ:=fun(k,n)=>⟨6,[(1, .one (.str s)),(2, .one (.ptr 5 0)),(5, .one (.int .i64 n)),(9, .one (.sl 0)),(10, .one (.int .i64 S.length)),(11, .one (.int .i64 k))],[(0, .imm 127 sSta S),(1, .imm 130 sOrd O),(2, .imm 155 sMet M),(3, .imm 188 sOut X),(4, .imm 235 sPer Q),(5, .box 105 [.int .i64 tk, .int .i64 st, .sl 0, .sl 1, .sl 2, .sl 3, .sl 4])]⟩,inv:=fun(k,n)=>k≤S.length∧(-3200000000*k≤n∧n≤3200000000*k)∧balL st O M s (S.drop k) n=balS st S O M s,mu:=fun(k,_)=>S.length-k}
def Z164 (a:List Sta) (b:Nat×Int):=(List.getD a b.1 Z9).1
def Z643 (a:Nat×Int) (b:List Sta) (c:Int) (d:List Ord) (e:List Met) (f:Bt):=a.1≤List.length b∧((-3200000000)*Nc a.1≤a.2∧a.2≤3200000000*Nc a.1)∧balL c d e f (List.drop a.1 b) a.2=balS c b d e f
def Z698 (a:Nat×Int) (b:List Sta) (c:Int) (d:List Ord) (e:List Met) (f:Bt) (g:Nat×Int):=Z643 a b c d e f∧List.length b-a.1<List.length b-g.1
theorem ok128:Ok Tryz.prog 128 cBalance:=okW W102 Tryz.f128 (fun xx=>ann0 (annBal xx.1.1 xx.1.2.1 xx.1.2.2.1 xx.1.2.2.2.1 xx.1.2.2.2.2.1 xx.1.2.2.2.2.2.1 xx.1.2.2.2.2.2.2 xx.2.1)) fun xx=>by
 obtain⟨⟨(tk:Int),(st:Int),(S:List Sta),(O:List Ord),(M:List Met),(X:List Out),(Q:List Per)⟩,(s:ByteArray),_⟩:=xx
 refine(by kernel_rfl:(Z119 tk st S O M X Q→∃(x:Nat×Int),Sf s (0=x.2∧Si (Ln S) (Z547 x S O M X Q tk st))∧Z643 x S st O M s∧∀(x:Nat×Int),Z643 x S st O M s→Br (decide (Nc x.1<Ln S)) (Tw (Bd (Nc x.1) (Ln S))∧Br (!Lb (Z164 S x) s) ((Z119 tk st S O M X Q∧Iw (x.2+accS2 st O M s (Z164 S x)))∧Z35 x∧∃(y:Nat×Int),Sf s (x.2+accS2 st O M s (Z164 S x)=y.2∧Si (Ln S) (Z584 x y S O M X Q tk st))∧Z698 y S st O M s x) (Z35 x∧∃(y:Nat×Int),Sf s (x.2=y.2∧Si (Ln S) (Z584 x y S O M X Q tk st))∧Z698 y S st O M s x)) (x.2=balS st S O M s))=_).mp ?_
 delta Z9 Z35 Z111 Z119 Z164 Z547 Z584 Z643 Z698 Br Iw Bd Tw Sf Si Ln Nc B0 Lb
 intro hr
 have nS:S.length≤6:=hr.nS
 refine⟨((0:Nat),(0:Int)),by(repeat' first|exact rfl|exact trivial|apply And.intro|exact(Int.add_zero _).symm|exact Int.add_assoc _ _ _|omega|(dsimp only;push_cast;omega)),⟨Nat.zero_le _,by omega,rfl⟩,fun(x:Nat×Int) hk=>⟨fun h1=> ?_,fun h1=> ?_⟩⟩
 ·obtain⟨k,n⟩:=x
  have hlt:k<S.length:=by simpa using h1
  obtain⟨k1,k2,k3⟩:=hk
  rw[drop_cons (d:=sta0) hlt,balL] at k3
  have hz:((({data:={toList:=[]}}:ByteArray),(0:Int),(0:Int)):Sta)=sta0:=rfl
  dsimp only at k1 k2 k3
  simp only[hz,Prod.eta]
  generalize S.getD k sta0=y at*
  have hb:=accS2_bd (a:=s) (b:=y.1) hr
  refine⟨⟨⟨by omega,by omega⟩,by omega,by omega⟩,fun h2=>⟨⟨hr,by omega,by omega⟩,⟨by omega,by omega⟩,(k+1,n+accS2 st O M s y.1),by(repeat' first|exact rfl|exact trivial|apply And.intro|exact(Int.add_zero _).symm|exact Int.add_assoc _ _ _|omega|(dsimp only;push_cast;omega)),⟨by(first|omega|(dsimp only;omega)|(simp only[];omega)),by(first|omega|(dsimp only;omega)|(simp only[];omega)), ?_⟩,by(first|omega|(dsimp only;omega)|(simp only[];omega))⟩,fun h2=>⟨⟨by omega,by omega⟩,(k+1,n),by(repeat' first|exact rfl|exact trivial|apply And.intro|exact(Int.add_zero _).symm|exact Int.add_assoc _ _ _|omega|(dsimp only;push_cast;omega)),⟨by(first|omega|(dsimp only;omega)|(simp only[];omega)),by(first|omega|(dsimp only;omega)|(simp only[];omega)), ?_⟩,by(first|omega|(dsimp only;omega)|(simp only[];omega))⟩⟩
  all_goals (have h2:(y.1.toList !=s.toList)=_:=h2;rw[h2] at k3;exact k3)
 ·obtain⟨k,n⟩:=x
  have hlt:¬k<S.length:=by simpa using h1
  obtain⟨k1,k2,k3⟩:=hk
  have:k=S.length:=by omega
  rw[this,List.drop_length,balL] at k3
  exact k3
abbrev W103:=W102.add ok128
def lowS (num den:Int):Int×Int:=(num.tdiv (Nat.gcd num.toNat den.toNat:Nat),den.tdiv (Nat.gcd num.toNat den.toNat:Nat))
def cLow:Con:={args:=[aI,aI],ress:=[(true,sSpan)],owns:=[],pre:=fun(a,b,_)=>[0≤a∧a≤1000000000000,1≤b∧b≤1000000000000],spec:=fun(a,b,_)=>(lowS a b,())}
abbrev annLow (num den:Int):Ann:={X:=Int×Int,σ:=fun(a,b)=>⟨1,[(0, .one (.int .i64 num)),(1, .one (.int .i64 den)),(4, .one (.ptr 0 0)),(5, .one (.int .i64 a)),(6, .one (.int .i64 b))],[(0, .box 54 [.int .i64 0, .int .i64 0])]⟩,inv:=fun(a,b)=>(0≤a∧a≤1000000000000)∧(0≤b∧b≤1000000000000)∧(a=0→b≠0)∧Nat.gcd a.toNat b.toNat=Nat.gcd num.toNat den.toNat,mu:=fun(_,b)=>b.toNat}
def Z668 (a:Int×Int) (b c:Int):=(0≤a.1∧a.1≤1000000000000)∧(0≤a.2∧a.2≤1000000000000)∧(a.1=0→a.2=0→False)∧Nat.gcd (Int.toNat a.1) (Int.toNat a.2)=Nat.gcd (Int.toNat b) (Int.toNat c)
theorem ok99:Ok Tryz.prog 99 cLow:=okW W103 Tryz.f99 (fun xx=>ann0 (annLow xx.1 xx.2.1)) fun xx=>by
 obtain⟨(num:Int),(den:Int),_⟩:=xx
 refine(by kernel_rfl:(0≤num∧num≤1000000000000→1≤den∧den≤1000000000000→∃(x:Int×Int),Si num (Si den (num=x.1∧den=x.2∧Tw ((0:Int)=0)))∧Z668 x num den∧∀(x:Int×Int),Z668 x num den→Br (x.2 !=0) ((x.2=0→False)∧∃(y:Int×Int),Si num (Si den (x.2=y.1∧Int.tmod x.1 x.2=y.2∧Tw ((0:Int)=0)))∧Z668 y num den∧Int.toNat y.2<Int.toNat x.2) (((x.1=0→False)∧Iw (Int.tdiv num x.1)∧(x.1=0→False)∧Iw (Int.tdiv den x.1))∧(Int.tdiv num x.1,Int.tdiv den x.1)=lowS num den))=_).mp ?_
 delta Z668 Br Iw Tw Si
 intro h1' h2
 refine⟨(num,den),by(repeat' first|exact rfl|exact trivial|apply And.intro|exact(Int.add_zero _).symm|exact Int.add_assoc _ _ _|omega|(dsimp only;push_cast;omega)),⟨h1',by(first|omega|(dsimp only;omega)|(simp only[];omega)),by(first|omega|(dsimp only;omega)|(simp only[];omega)),rfl⟩,fun(x:Int×Int) hk=>⟨fun h1=> ?_,fun h1=> ?_⟩⟩
 ·obtain⟨a,b⟩:=x
  obtain⟨k1,k2,k3,k4⟩:=hk
  dsimp only at k1 k2 k3 k4 h1
  have hb:b≠0:=bne_iff_ne.1 h1
  obtain⟨A,rfl⟩:=Int.eq_ofNat_of_zero_le k1.1
  obtain⟨B,rfl⟩:=Int.eq_ofNat_of_zero_le k2.1
  have hB:0<B:=by omega
  have hm:=Nat.mod_lt A hB
  have e:((A:Int).tmod (B:Int))=((A %B:Nat):Int):=(Int.ofNat_tmod A B).symm
  refine⟨hb,((B:Int),((A %B:Nat):Int)),⟨rfl,rfl,rfl,e,rfl,rfl⟩,⟨by(first|omega|(dsimp only;omega)|(simp only[];omega)),by(first|omega|(dsimp only;omega)|(simp only[];omega)),fun h=>(by dsimp only at h;omega), ?_⟩, ?_⟩
  ·rw[←k4]
   simp only[Int.toNat_natCast]
   rw[Nat.gcd_comm A B,Nat.gcd_rec B A,Nat.gcd_comm]
  ·simp only[Int.toNat_natCast]
   exact hm
 ·obtain⟨a,b⟩:=x
  obtain⟨k1,k2,k3,k4⟩:=hk
  dsimp only at k1 k2 k3 k4 h1
  have hb:b=0:=by simpa using h1
  subst hb
  have ha:a≠0:=fun h=>k3 h rfl
  have hg:(Nat.gcd num.toNat den.toNat:Int)=a:=by rw[←k4];simp;omega
  have d1:0≤num.tdiv a:=Int.tdiv_nonneg h1'.1 k1.1
  have d2:num.tdiv a≤num:=Int.tdiv_le_self _ h1'.1
  have d3:0≤den.tdiv a:=Int.tdiv_nonneg (by omega) k1.1
  have d4:den.tdiv a≤den:=Int.tdiv_le_self _ (by omega)
  refine⟨⟨ha,⟨by(first|omega|(dsimp only;omega)|(simp only[];omega)),by(first|omega|(dsimp only;omega)|(simp only[];omega))⟩,ha,by(first|omega|(dsimp only;omega)|(simp only[];omega)),by(first|omega|(dsimp only;omega)|(simp only[];omega))⟩, ?_⟩
  unfold lowS
  rw[hg]
abbrev W104:=W103.add ok99
abbrev sForm:Sch:= .prod .str (.prod sI .bool)
abbrev Frm:=ByteArray×Int×Bool
def formS (k:ByteArray):Frm:=
 bif k.toList==wStation.toList then(⟨⟨[83]⟩⟩,2,true) else
 bif k.toList==wPrice.toList then(⟨⟨[115]⟩⟩,2,true) else
 bif k.toList==wOrder.toList then(⟨⟨[79,115,115]⟩⟩,4,true) else
 bif k.toList==wMeter.toList then(⟨⟨[111]⟩⟩,4,true) else
 bif k.toList==wTrip.toList then(⟨⟨[111]⟩⟩,1,true) else
 bif k.toList==wOutage.toList then(⟨⟨[88,115]⟩⟩,4,true) else
 bif k.toList==wRestore.toList then(⟨⟨[120]⟩⟩,1,true) else
 bif k.toList==wPermit.toList then(⟨⟨[80,120]⟩⟩,1,true) else
 bif k.toList==wReturn.toList then(⟨⟨[112]⟩⟩,1,true) else
 bif k.toList==wSettle.toList then(⟨⟨[]⟩⟩,2,true) else
 bif k.toList==wUndo.toList then(⟨⟨[]⟩⟩,0,true) else
 (bnil,0,false)
def cForm:Con:={args:=[aS],ress:=[(true,sForm)],owns:=[],pre:=fun _=>[],spec:=fun(k,_)=>(formS k,())}
theorem ok110:Ok Tryz.prog 110 cForm:=okW W104 Tryz.f110 na fun xx=>by
 obtain⟨(k:ByteArray),_⟩:=xx
 refine(by kernel_rfl:(Br (Lb k wStation) ((ByteArray.mk (Array.mk [83]),2,true)=formS k) (Br (Lb k wPrice) ((ByteArray.mk (Array.mk [115]),2,true)=formS k) (Br (Lb k wOrder) ((ByteArray.mk (Array.mk [79,115,115]),4,true)=formS k) (Br (Lb k wMeter) ((ByteArray.mk (Array.mk [111]),4,true)=formS k) (Br (Lb k wTrip) ((ByteArray.mk (Array.mk [111]),1,true)=formS k) (Br (Lb k wOutage) ((ByteArray.mk (Array.mk [88,115]),4,true)=formS k) (Br (Lb k wRestore) ((ByteArray.mk (Array.mk [120]),1,true)=formS k) (Br (Lb k wPermit) ((ByteArray.mk (Array.mk [80,120]),1,true)=formS k) (Br (Lb k wReturn) ((ByteArray.mk (Array.mk [112]),1,true)=formS k) (Br (Lb k wSettle) ((B0,2,true)=formS k) (Br (Lb k wUndo) ((B0,0,true)=formS k) ((B0,0,false)=formS k))))))))))))=_).mp ?_
 delta Br B0 Lb wMeter wOrder wOutage wPermit wPrice wRestore wReturn wSettle wStation wTrip wUndo
 unfold formS
 repeat' first|(refine⟨fun h=> ?_,fun h=> ?_⟩)|(rw[h];clear h)
 all_goals rfl
abbrev W105:=W104.add ok110
abbrev W106:=W105
abbrev W107:=W106
abbrev W108:=W107
abbrev W109:=W108
abbrev W110:=W109
abbrev W111:=W110
abbrev W112:=W111
abbrev W113:=W112
abbrev W114:=W113
abbrev W115:=W114
abbrev W116:=W115
abbrev W117:=W116
abbrev W118:=W117
abbrev W119:=W118
abbrev W120:=W119
abbrev W121:=W120
abbrev W122:=W121
def bill0:Bill:=(bnil,0,0,0,0,0)
abbrev W123:=W122
theorem getD_map {α β:Type} {f:α→β} {d:α} {d':β}:∀{l:List α} {k:Nat},k<l.length→(l.map f).getD k d'=f (l.getD k d)
 |[],_,h=>by cases h
 |x::l,0,_=>rfl
 |x::l,k+1,h=>by
  rw[List.map_cons,List.getD_cons_succ,List.getD_cons_succ]
  exact getD_map (by simpa using h)
abbrev W124:=W123
abbrev W125:=W124
abbrev sH3:Sch:= .prod sI (.prod sI sI)
abbrev H3:=Int×Int×Int
def hourD (M:List Met) (h:Int) (x:Ord) (a:H3):H3:=bif countsB x h then(a.1+(metS M x.1 h).2.2.1,a.2.1+(metS M x.1 h).2.2.2,a.2.2+((metS M x.1 h).2.2.2*x.2.2.2.2.2.1-3*(x.2.2.2.2.1-(metS M x.1 h).2.2.2))) else a
def hourL (M:List Met) (h:Int):List Ord→H3→H3
 |[],a=>a
 |x::l,a=>hourL M h l (hourD M h x a)
abbrev W126:=W125
def sumB:List Bill→Int×Int→Int×Int
 |[],a=>a
 |b::l,(s,g)=>sumB l (s+b.2.2.1,g+b.2.2.2.1)
def lossR (st:Int) (O:List Ord) (M:List Met):(Int×Int)×Int:=if(sumB (O.map (billS st M)) (0,0)).1=0 then((0,0),6) else(lowS ((sumB (O.map (billS st M)) (0,0)).1-(sumB (O.map (billS st M)) (0,0)).2) (sumB (O.map (billS st M)) (0,0)).1,0)
abbrev W127:=W126
def hourE (l:List Ev) (h:Int):Int:=firstS [opE l [],withinS h 0 999999999,bif decide ((regP l).2.1≤h) then 22 else 0]
def hourP (l:List Ev) (h:Int):H3:=if hourE l h=0 then hourL (regP l).2.2.2.2.1 h (regP l).2.2.2.1 (0,0,0) else(0,0,0)
def cHour15:Con:={args:=[.val false (.list 67 sEv),aI],ress:=[(true,sH3),I],owns:=[],pre:=fun(l,_)=>[lOk l],spec:=fun(l,h,_)=>(hourP l h,hourE l h,())}
abbrev imR (r:Reg) (i:Nat):List (Nat×Res):=[(i, .imm 127 sSta r.2.2.1),(i+1, .imm 130 sOrd r.2.2.2.1),(i+2, .imm 155 sMet r.2.2.2.2.1),(i+3, .imm 188 sOut r.2.2.2.2.2.1),(i+4, .imm 235 sPer r.2.2.2.2.2.2)]
abbrev bxR (r:Reg) (i:Nat):Res:= .box 105 [.int .i64 r.1, .int .i64 r.2.1, .sl i, .sl (i+1), .sl (i+2), .sl (i+3), .sl (i+4)]
abbrev annHour (l:List Ev) (h:Int):Ann:={X:=Nat×H3,σ:=fun(k,a,b,c)=>⟨9,[(1, .one (.int .i64 h)),(4, .one (.ptr 1 0)),(6, .one (.ptr 7 0)),(9, .one (.ptr 8 0)),(33, .one (.sl 3)),(34, .one (.int .i64 (regP l).2.2.2.1.length)),(35, .one (.int .i64 k))],(1, .box 25 [.int .i64 0, .int .i64 0, .int .i64 0])::(7,bxR (regP l) 2)::(8, .box 25 [.int .i64 a, .int .i64 b, .int .i64 c])::imR (regP l) 2⟩,inv:=fun(k,a,b,c)=>hourE l h=0∧k≤(regP l).2.2.2.1.length∧(0≤a∧a≤1000*k)∧(0≤b∧b≤1000*k)∧(-2000000*k≤c∧c≤2000000*k)∧hourL (regP l).2.2.2.2.1 h ((regP l).2.2.2.1.drop k) (a,b,c)=hourP l h,mu:=fun(k,_)=>(regP l).2.2.2.1.length-k}
theorem first_3 {a b c:Int} (h:firstS [a,b,c]=0):a=0∧b=0∧c=0:=by
 have h:=firstS_zero.1 h
 exact⟨h a (by simp),h b (by simp),h c (by simp)⟩
def Z25 (a:List Ev):=Ln (regP a).2.2.2.1
def Z120 (a:List Ev):=(regP a).2.2.2.1=(regP a).2.2.2.1
def Z135 (a:List Ev):=(regP a).2.2.2.2.1=(regP a).2.2.2.2.1
def Z159 (a:List Ev):=(regP a).2.2.2.2.2.1=(regP a).2.2.2.2.2.1
def Z160 (a:List Ev):=(regP a).2.2.2.2.2.2=(regP a).2.2.2.2.2.2
def Z376 (a:List Ev) (b:Nat×H3):=List.getD (regP a).2.2.2.1 b.1 Z254
def Z381 (a:List Ev) (b:Nat×H3):=(Z376 a b).1
def Z383 (a:List Ev) (b:Nat×H3):=(Z376 a b).2
def Z388 (a:List Ev) (b:Nat×H3):=(Z383 a b).2
def Z393 (a:List Ev) (b:Nat×H3):=(Z388 a b).2
def Z399 (a:List Ev) (b:Nat×H3):=(Z393 a b).2
def Z404 (a:List Ev) (b:Nat×H3):=(Z399 a b).2
def Z405 (a:List Ev) (b:Nat×H3):=(Z399 a b).1
def Z530 (a:List Ev) (b:Nat×H3) (c:Int):=meterS (regP a).2.2.2.2.1 (Z381 a b) c
def Z534 (a:List Ev) (b:Int):=firstS [opE a [],Z61 b,bif decide ((regP a).2.1≤b) then 22 else 0]
def Z666 (a:List Ev) (b:Nat×H3) (c:Int):=(Gt (regP a).2.2.2.2.1 (Z530 a b c) Z110).2.2
def Z669 (a:List Ev) (b:Nat×H3) (c:Int):=(Z666 a b c).2
def Z676 (a:Nat×H3) (b:List Ev) (c:Int):=a.2.1+(Z666 b a c).1
def Z682 (a:Nat×H3) (b:List Ev) (c:Int):=a.2.2.1+Z669 b a c
def Z685 (a:List Ev):=(regP a).2.2.1=(regP a).2.2.1∧Z120 a∧Z135 a∧Z159 a∧Z160 a
def Z737 (a:List Ev) (b:Nat×H3) (c:Int):=Z405 a b-Z669 a b c
def Z738 (a:List Ev) (b:Nat×H3) (c:Int):=Z669 a b c*(Z404 a b).1
def Z751 (a:List Ev) (b:Nat×H3) (c:Int):=3*Z737 a b c
def Z759 (a:List Ev) (b:Int) (c:Nat) (d e f:Int):=hourE a b=0∧c≤List.length (regP a).2.2.2.1∧Z163 d c∧Z163 e c∧((-2000000)*Nc c≤f∧f≤2000000*Nc c)∧hourL (regP a).2.2.2.2.1 b (List.drop c (regP a).2.2.2.1) (d,e,f)=hourP a b
def Z778 (a:Nat×Int×Int×Int) (b:List Ev) (c:Int):=match a with|(k,a,b_1,c_1)=>Z759 b c k a b_1 c_1
def Z793 (a:Nat×Int×Int×Int) (b:List Ev) (c:Int) (d:Nat×H3):=Z778 a b c∧List.length (regP b).2.2.2.1-a.1<List.length (regP b).2.2.2.1-d.1
def Z812 (a:List Ev) (b:Nat×H3) (c:Int):=Z738 a b c-Z751 a b c
def Z813 (a:Nat×H3) (b:List Ev) (c:Int):=a.2.2.2+Z812 b a c
theorem ok15:Ok Tryz.prog 15 cHour15:=okW W127 Tryz.f15 (fun xx=>ann0 (annHour xx.1 xx.2.1)) fun xx=>by
 obtain⟨(l:List Ev),(h:Int),_⟩:=xx
 refine(by kernel_rfl:(lOk l→(lOk l∧0≤1000000)∧3≤1000000∧Br (Z534 l h !=0) (Z60=hourP l h∧Z534 l h=hourE l h) (∃(x:Nat×Int×Int×Int),Si h (Z25 l=Z25 l∧0=Nc x.1∧Si 0 (Si 0 (Si 0 ((regP l).1=(regP l).1∧(regP l).2.1=(regP l).2.1∧0=x.2.1∧0=x.2.2.1∧0=x.2.2.2∧Z685 l))))∧Z778 x l h∧∀(x:Nat×H3),(match x with|(k,a,b,c)=>Z759 l h k a b c)→Br (decide (Nc x.1<Z25 l)) (Tw (Bd (Nc x.1) (Z25 l))∧Br (countsB (Z381 l x,(Z383 l x).1,(Z388 l x).1,E2 (Z393 l x).1,Z405 l x,E2 (Z404 l x)) h) ((Z546 l∧Tw (Bd (Z530 l x h) (Ln (regP l).2.2.2.2.1)))∧Iw (Z676 x l h)∧Iw (Z682 x l h)∧(Iw (Z738 l x h)∧Iw (Z737 l x h)∧Iw (Z751 l x h)∧Iw (Z812 l x h)∧Iw (Z813 x l h))∧Iw (Nc x.1+1)∧∃(y:Nat×Int×Int×Int),Si h (Si (Z25 l) (Nc x.1+1=Nc y.1∧Si 0 (Si 0 (Si 0 (Si (regP l).1 (Si (regP l).2.1 (Z676 x l h=y.2.1∧Z682 x l h=y.2.2.1∧Z813 x l h=y.2.2.2∧Z685 l)))))))∧Z793 y l h x) (Iw (Nc x.1+1)∧∃(y:Nat×Int×Int×Int),Si h (Si (Z25 l) (Nc x.1+1=Nc y.1∧Si 0 (Si 0 (Si 0 (Si (regP l).1 (Si (regP l).2.1 (x.2.1=y.2.1∧x.2.2.1=y.2.2.1∧x.2.2.2=y.2.2.2∧Z685 l)))))))∧Z793 y l h x)) ((x.2.1,E2 x.2.2)=hourP l h∧0=hourE l h)))=_).mp ?_
 delta Z25 Z60 Z61 Z110 Z120 Z135 Z159 Z160 Z163 Z254 Z376 Z381 Z383 Z388 Z393 Z399 Z404 Z405 Z530 Z534 Z546 Z666 Z669 Z676 Z682 Z685 Z737 Z738 Z751 Z759 Z778 Z793 Z812 Z813 Br Iw Bd Tw Si Ln Nc Gt B0 E2
 intro hl
 refine⟨⟨hl,by decide⟩,by decide,fun e=> ?_,fun e=> ?_⟩
 ·have e:hourE l h≠0:=bne_iff_ne.1 e
  exact⟨by unfold hourP;rw[if_neg e],rfl⟩
 ·have e0:hourE l h=0:=bne_eq_false_iff_eq.1 e
  clear e
  have hr:=regP_ok (l:=l)
  have nO:=hr.nO
  have hst:h<(regP l).2.1:=by
   have:=(first_3 e0).2.2
   by_cases q:(regP l).2.1≤h
   ·rw[decide_eq_true q] at this;cases this
   ·omega
  refine⟨((0:Nat),0,0,0),by(repeat' first|exact rfl|exact trivial|apply And.intro|exact(Int.add_zero _).symm|exact Int.add_assoc _ _ _|omega|(dsimp only;push_cast;omega)),⟨e0,Nat.zero_le _,by omega,by omega,by omega,by unfold hourP;rw[if_pos e0];rfl⟩,fun(x:Nat×H3) hk=>⟨fun h1=> ?_,fun h1=> ?_⟩⟩
  ·obtain⟨k,a,b,c⟩:=x
   have hlt:k<(regP l).2.2.2.1.length:=by simpa using h1
   obtain⟨_,k1,k2,k3,k4,k5⟩:=hk
   generalize regP l=r at*
   obtain⟨tk,st,S,O,M,X,Q⟩:=r
   have hlt:k<O.length:=hlt
   have hst:h<st:=hst
   have nO:O.length≤32:=nO
   have hx:=getD_mem (d:=ord0) hlt
   have k5:hourL M h (O.drop k) (a,b,c)=hourP l h:=k5
   rw[drop_cons (d:=ord0) hlt,hourL] at k5
   have hz:((({data:={toList:=[]}}:ByteArray),({data:={toList:=[]}}:ByteArray),({data:={toList:=[]}}:ByteArray),((0:Int),(0:Int)),(0:Int),(0:Int),(0:Int)):Ord)=ord0:=rfl
   have hzm:((({data:={toList:=[]}}:ByteArray),(0:Int),(0:Int),(0:Int)):Met)=met0:=rfl
   simp only[hz,hzm,Prod.eta]
   have hO:OrdOk S (O.getD k ord0):=hr.ord _ hx
   have hd:∀h,countsB (O.getD k ord0) h=true→h<st→0≤meterS M (O.getD k ord0).1 h:=hr.done _ hx
   generalize O.getD k ord0=y at*
   unfold hourD at k5
   have bp:=hO.pow
   have bc:=hO.pri
   have em:M.getD (meterS M y.1 h).toNat met0=metS M y.1 h:=rfl
   simp only[em]
   refine⟨by(repeat' first|apply And.intro|omega),fun hq=> ?_,fun hq=> ?_⟩
   ·rw[hq,cond_true] at k5
    have hm:=hd _ hq hst
    have hl:=meterS_lt (l:=M) (s:=y.1) (h:=h)
    have hM:MetOk (metS M y.1 h):=hr.met _ (getD_mem (show _<M.length by omega))
    have m1:=hM.sent
    have m2:=hM.got
    have q1:0≤(metS M y.1 h).2.2.2*y.2.2.2.2.2.1:=Int.mul_nonneg m2.1 bc.1
    have q2:(metS M y.1 h).2.2.2*y.2.2.2.2.2.1≤1000*1000:=Int.mul_le_mul (by omega) bc.2 bc.1 (by decide)
    exact⟨⟨hr,by(repeat' first|apply And.intro|omega),by(repeat' first|apply And.intro|omega)⟩,by(repeat' first|apply And.intro|omega),by(repeat' first|apply And.intro|omega),by(repeat' first|apply And.intro|omega),by(repeat' first|apply And.intro|omega),(k+1,a+(metS M y.1 h).2.2.1,b+(metS M y.1 h).2.2.2,c+((metS M y.1 h).2.2.2*y.2.2.2.2.2.1-3*(y.2.2.2.2.1-(metS M y.1 h).2.2.2))),by(repeat' first|exact rfl|exact trivial|apply And.intro|exact(Int.add_zero _).symm|exact Int.add_assoc _ _ _|omega|(dsimp only;push_cast;omega)),⟨e0,by(first|omega|(dsimp only;omega)|(simp only[];omega)),by(first|omega|(dsimp only;omega)|(simp only[];omega)),by(first|omega|(dsimp only;omega)|(simp only[];omega)),by(first|omega|(dsimp only;omega)|(simp only[];omega)),k5⟩,by(first|omega|(dsimp only;omega)|(simp only[];omega))⟩
   ·rw[hq,cond_false] at k5
    exact⟨by(repeat' first|apply And.intro|omega),(k+1,a,b,c),by(repeat' first|exact rfl|exact trivial|apply And.intro|exact(Int.add_zero _).symm|exact Int.add_assoc _ _ _|omega|(dsimp only;push_cast;omega)),⟨e0,by(first|omega|(dsimp only;omega)|(simp only[];omega)),by(first|omega|(dsimp only;omega)|(simp only[];omega)),by(first|omega|(dsimp only;omega)|(simp only[];omega)),by(first|omega|(dsimp only;omega)|(simp only[];omega)),k5⟩,by(first|omega|(dsimp only;omega)|(simp only[];omega))⟩
  ·obtain⟨k,a,b,c⟩:=x
   have hlt:¬k<(regP l).2.2.2.1.length:=by simpa using h1
   obtain⟨_,k1,k2,k3,k4,k5⟩:=hk
   have:k=(regP l).2.2.2.1.length:=by omega
   rw[this,List.drop_length,hourL] at k5
   exact⟨k5,e0.symm⟩
abbrev W128:=W127.add ok15
def cAb (pre:Reg→Ev→List Prop) (f:Reg→Ev→ByteArray→Bool):Con:={args:=[aReg,aEv,aS],ress:=[Bo],owns:=[],pre:=fun(r,e,_)=>pre r e,spec:=fun(r,e,s,_)=>(f r e s,())}
def cAbAll:Con:=cAb (fun _ _=>[]) (fun _ _ _=>true)
theorem ok150:Ok Tryz.prog 150 cAbAll:=okW W128 Tryz.f150 na fun xx=>by
 obtain⟨⟨(tk:Int),(st:Int),(S:List Sta),(O:List Ord),(M:List Met),(X:List Out),(Q:List Per)⟩,⟨(n:Int),(k:ByteArray),(ns:List ByteArray),(vs:List Int),(tx:ByteArray)⟩,(s:ByteArray),_⟩:=xx
 refine(by kernel_rfl:(true=true)=_).mp ?_
 rfl
abbrev W129:=W128.add ok150
def abO (O:List Ord) (ns:List ByteArray) (s:ByteArray):Bool:=aboutB (ordS O (ns.getD 0 bnil)) s
def cAbO:Con:={args:=[aReg,aEv,aS],ress:=[Bo],owns:=[],pre:=fun(r,e,_)=>[RegOk r,1≤e.2.2.1.length,0≤findO r.2.2.2.1 (e.2.2.1.getD 0 bnil)],spec:=fun((tk,st,S,O,M,X,Q),(n,k,ns,vs,tx),s,_)=>(abO O ns s,())}
theorem ok156:Ok Tryz.prog 156 cAbO:=okW W129 Tryz.f156 na fun xx=>by
 obtain⟨⟨(tk:Int),(st:Int),(S:List Sta),(O:List Ord),(M:List Met),(X:List Out),(Q:List Per)⟩,⟨(n:Int),(k:ByteArray),(ns:List ByteArray),(vs:List Int),(tx:ByteArray)⟩,(s:ByteArray),_⟩:=xx
 refine(by kernel_rfl:(Z119 tk st S O M X Q→Z105 ns→Z205 O ns→Z499 ns O∧aboutB (Z744 O ns) s=abO O ns s)=_).mp ?_
 delta Z51 Z79 Z85 Z104 Z105 Z119 Z141 Z147 Z165 Z179 Z180 Z205 Z499 Z744 Bd T2 Ln B0 E2
 intro hr h1 h2
 have nO:O.length≤32:=hr.nO
 repeat' first|assumption|exact rfl|trivial|omega|exact findS_lt|exact findO_lt|exact findX_lt|exact findP_lt|apply And.intro|intro _
abbrev W130:=W129.add ok156
def abX (X:List Out) (ns:List ByteArray) (s:ByteArray):Bool:=(outS X (ns.getD 0 bnil)).2.1.toList==s.toList
def cAbX:Con:={args:=[aReg,aEv,aS],ress:=[Bo],owns:=[],pre:=fun(r,e,_)=>[RegOk r,1≤e.2.2.1.length,0≤findX r.2.2.2.2.2.1 (e.2.2.1.getD 0 bnil)],spec:=fun((tk,st,S,O,M,X,Q),(n,k,ns,vs,tx),s,_)=>(abX X ns s,())}
theorem ok163:Ok Tryz.prog 163 cAbX:=okW W130 Tryz.f163 na fun xx=>by
 obtain⟨⟨(tk:Int),(st:Int),(S:List Sta),(O:List Ord),(M:List Met),(X:List Out),(Q:List Per)⟩,⟨(n:Int),(k:ByteArray),(ns:List ByteArray),(vs:List Int),(tx:ByteArray)⟩,(s:ByteArray),_⟩:=xx
 refine(by kernel_rfl:(Z119 tk st S O M X Q→Z105 ns→Z209 X ns→Z493 ns X∧Lb (Z140 X ns).2.1 s=abX X ns s)=_).mp ?_
 delta Z50 Z79 Z85 Z104 Z105 Z119 Z140 Z143 Z209 Z493 Bd T2 Ln B0 Lb
 intro hr h1 h2
 have nX:X.length≤16:=hr.nX
 repeat' first|assumption|exact rfl|trivial|omega|exact findS_lt|exact findO_lt|exact findX_lt|exact findP_lt|apply And.intro|intro _
abbrev W131:=W130.add ok163
def abP (X:List Out) (Q:List Per) (ns:List ByteArray) (s:ByteArray):Bool:=(outS X (perS Q (ns.getD 0 bnil)).2.1).2.1.toList==s.toList
def cAbP:Con:={args:=[aReg,aEv,aS],ress:=[Bo],owns:=[],pre:=fun(r,e,_)=>[RegOk r,1≤e.2.2.1.length,0≤findP r.2.2.2.2.2.2 (e.2.2.1.getD 0 bnil)],spec:=fun((tk,st,S,O,M,X,Q),(n,k,ns,vs,tx),s,_)=>(abP X Q ns s,())}
theorem perS_mem {Q:List Per} {s:ByteArray} (h:0≤findP Q s):perS Q s∈Q:=by
 have:=findP_lt (l:=Q) (s:=s)
 exact getD_mem (by omega)
theorem ok168:Ok Tryz.prog 168 cAbP:=okW W131 Tryz.f168 na fun xx=>by
 obtain⟨⟨(tk:Int),(st:Int),(S:List Sta),(O:List Ord),(M:List Met),(X:List Out),(Q:List Per)⟩,⟨(n:Int),(k:ByteArray),(ns:List ByteArray),(vs:List Int),(tx:ByteArray)⟩,(s:ByteArray),_⟩:=xx
 refine(by kernel_rfl:(Z119 tk st S O M X Q→Z105 ns→Z207 Q ns→T2 (Z79 ns) (Z41 Q∧0≤Z144 Q ns∧Z50 X∧0≤findX X (perS Q (Z85 ns)).2.1)∧Lb (outS X (perS Q (Z85 ns)).2.1).2.1 s=abP X Q ns s)=_).mp ?_
 delta Z41 Z50 Z79 Z85 Z104 Z105 Z119 Z144 Z207 Bd T2 Ln B0 Lb
 intro hr h1 h2
 have nX:X.length≤16:=hr.nX
 have nQ:Q.length≤16:=hr.nQ
 have h3:0≤findX X (perS Q (ns.getD 0 bnil)).2.1:=hr.per _ (perS_mem h2)
 repeat' first|assumption|exact rfl|trivial|omega|exact findS_lt|exact findO_lt|exact findX_lt|exact findP_lt|apply And.intro|intro _
abbrev W132:=W131.add ok168
def abS (r:Reg) (e:Ev) (s:ByteArray):Bool:=match(kindD e.2.1).2.2.2.2 with
 |some 150=>true
 |some 156=>abO r.2.2.2.1 e.2.2.1 s
 |some 163=>abX r.2.2.2.2.2.1 e.2.2.1 s
 |some 168=>abP r.2.2.2.2.2.1 r.2.2.2.2.2.2 e.2.2.1 s
 |_=>false
structure AbOk (r:Reg) (e:Ev):Prop where
 kind:kindK e.2.1=true
 ord:(kindD e.2.1).2.2.2.2=some 156→1≤e.2.2.1.length∧0≤findO r.2.2.2.1 (e.2.2.1.getD 0 bnil)
 out:(kindD e.2.1).2.2.2.2=some 163→1≤e.2.2.1.length∧0≤findX r.2.2.2.2.2.1 (e.2.2.1.getD 0 bnil)
 per:(kindD e.2.1).2.2.2.2=some 168→1≤e.2.2.1.length∧0≤findP r.2.2.2.2.2.2 (e.2.2.1.getD 0 bnil)
def cStory1:Con:={args:=[aEv, .ref 105 sReg, .ref 9 .str],ress:=[Bo],owns:=[],pre:=fun(e,r,_)=>[RegOk r,AbOk r e],spec:=fun(e,r,s,_)=>(abS r e s,())}
def Z38:=false=true→False
theorem wp79_Undo (n:Int) (ns:List ByteArray) (vs:List Int) (tx:ByteArray) (tk st:Int) (S:List Sta) (O:List Ord) (M:List Met) (X:List Out) (Q:List Per) (s:ByteArray):wpF Tryz.prog W132.g (na ()) Tryz.f79 cStory1 ((n,wUndo,ns,vs,tx),(tk,st,S,O,M,X,Q),s,()):=by
 refine(by kernel_rfl:(Z119 tk st S O M X Q→AbOk (tk,st,S,O,M,X,Q) (Z6 n ns vs tx)→Z38∧false=abS (tk,st,S,O,M,X,Q) (Z6 n ns vs tx) s)=_).mp ?_
 delta Z6 Z38 Z119 wUndo
 intro hr ha
 have e:abS (tk,st,S,O,M,X,Q) (n,wUndo,ns,vs,tx) s=false:=by unfold abS;rw[show(kindD wUndo).2.2.2.2=_ from congrArg (fun x=>x.2.2.2.2) kd_undo];all_goals rfl
 rw[e]
 repeat' first|exact hr|exact h.1|exact h.2|exact rfl|apply And.intro|intro _
 all_goals first|trivial|assumption|contradiction
theorem wp79_Station (n:Int) (ns:List ByteArray) (vs:List Int) (tx:ByteArray) (tk st:Int) (S:List Sta) (O:List Ord) (M:List Met) (X:List Out) (Q:List Per) (s:ByteArray):wpF Tryz.prog W132.g (na ()) Tryz.f79 cStory1 ((n,wStation,ns,vs,tx),(tk,st,S,O,M,X,Q),s,()):=by
 refine(by kernel_rfl:(Z119 tk st S O M X Q→AbOk (tk,st,S,O,M,X,Q) (Z27 n ns vs tx)→true=abS (tk,st,S,O,M,X,Q) (Z27 n ns vs tx) s)=_).mp ?_
 delta Z27 Z119 wStation
 intro hr ha
 have e:abS (tk,st,S,O,M,X,Q) (n,wStation,ns,vs,tx) s=true:=by unfold abS;rw[show(kindD wStation).2.2.2.2=_ from congrArg (fun x=>x.2.2.2.2) kd_station];all_goals rfl
 rw[e]
 repeat' first|exact hr|exact h.1|exact h.2|exact rfl|apply And.intro|intro _
 all_goals first|trivial|assumption|contradiction
theorem wp79_Price (n:Int) (ns:List ByteArray) (vs:List Int) (tx:ByteArray) (tk st:Int) (S:List Sta) (O:List Ord) (M:List Met) (X:List Out) (Q:List Per) (s:ByteArray):wpF Tryz.prog W132.g (na ()) Tryz.f79 cStory1 ((n,wPrice,ns,vs,tx),(tk,st,S,O,M,X,Q),s,()):=by
 refine(by kernel_rfl:(Z119 tk st S O M X Q→AbOk (tk,st,S,O,M,X,Q) (Z12 n ns vs tx)→true=abS (tk,st,S,O,M,X,Q) (Z12 n ns vs tx) s)=_).mp ?_
 delta Z12 Z119 wPrice
 intro hr ha
 have e:abS (tk,st,S,O,M,X,Q) (n,wPrice,ns,vs,tx) s=true:=by unfold abS;rw[show(kindD wPrice).2.2.2.2=_ from congrArg (fun x=>x.2.2.2.2) kd_price];all_goals rfl
 rw[e]
 repeat' first|exact hr|exact h.1|exact h.2|exact rfl|apply And.intro|intro _
 all_goals first|trivial|assumption|contradiction
def Z201 (a:Ls):=true=true→Z105 a
def Z661 (a b:Int) (c:List Sta) (d:List Ord) (e:List Met) (f:List Out) (g:List Per) (h:Ls):=(true=true→Z119 a b c d e f g)∧Z201 h∧(true=true→Z205 d h)
theorem wp79_Order (n:Int) (ns:List ByteArray) (vs:List Int) (tx:ByteArray) (tk st:Int) (S:List Sta) (O:List Ord) (M:List Met) (X:List Out) (Q:List Per) (s:ByteArray):wpF Tryz.prog W132.g (na ()) Tryz.f79 cStory1 ((n,wOrder,ns,vs,tx),(tk,st,S,O,M,X,Q),s,()):=by
 refine(by kernel_rfl:(Z119 tk st S O M X Q→AbOk (tk,st,S,O,M,X,Q) (Z8 n ns vs tx)→Z661 tk st S O M X Q ns∧(bif true then abO O ns s else false)=abS (tk,st,S,O,M,X,Q) (Z8 n ns vs tx) s)=_).mp ?_
 delta Z8 Z104 Z105 Z119 Z201 Z205 Z661 wOrder
 intro hr ha
 have e:abS (tk,st,S,O,M,X,Q) (n,wOrder,ns,vs,tx) s=abO O ns s:=by unfold abS;rw[show(kindD wOrder).2.2.2.2=_ from congrArg (fun x=>x.2.2.2.2) kd_order];all_goals rfl
 have h:=ha.ord (congrArg (fun x=>x.2.2.2.2) kd_order)
 rw[e]
 repeat' first|exact hr|exact h.1|exact h.2|exact rfl|apply And.intro|intro _
 all_goals first|trivial|assumption|contradiction
theorem wp79_Meter (n:Int) (ns:List ByteArray) (vs:List Int) (tx:ByteArray) (tk st:Int) (S:List Sta) (O:List Ord) (M:List Met) (X:List Out) (Q:List Per) (s:ByteArray):wpF Tryz.prog W132.g (na ()) Tryz.f79 cStory1 ((n,wMeter,ns,vs,tx),(tk,st,S,O,M,X,Q),s,()):=by
 refine(by kernel_rfl:(Z119 tk st S O M X Q→AbOk (tk,st,S,O,M,X,Q) (Z11 n ns vs tx)→Z661 tk st S O M X Q ns∧(bif true then abO O ns s else false)=abS (tk,st,S,O,M,X,Q) (Z11 n ns vs tx) s)=_).mp ?_
 delta Z11 Z104 Z105 Z119 Z201 Z205 Z661 wMeter
 intro hr ha
 have e:abS (tk,st,S,O,M,X,Q) (n,wMeter,ns,vs,tx) s=abO O ns s:=by unfold abS;rw[show(kindD wMeter).2.2.2.2=_ from congrArg (fun x=>x.2.2.2.2) kd_meter];all_goals rfl
 have h:=ha.ord (congrArg (fun x=>x.2.2.2.2) kd_meter)
 rw[e]
 repeat' first|exact hr|exact h.1|exact h.2|exact rfl|apply And.intro|intro _
 all_goals first|trivial|assumption|contradiction
theorem wp79_Trip (n:Int) (ns:List ByteArray) (vs:List Int) (tx:ByteArray) (tk st:Int) (S:List Sta) (O:List Ord) (M:List Met) (X:List Out) (Q:List Per) (s:ByteArray):wpF Tryz.prog W132.g (na ()) Tryz.f79 cStory1 ((n,wTrip,ns,vs,tx),(tk,st,S,O,M,X,Q),s,()):=by
 refine(by kernel_rfl:(Z119 tk st S O M X Q→AbOk (tk,st,S,O,M,X,Q) (Z4 n ns vs tx)→Z661 tk st S O M X Q ns∧(bif true then abO O ns s else false)=abS (tk,st,S,O,M,X,Q) (Z4 n ns vs tx) s)=_).mp ?_
 delta Z4 Z104 Z105 Z119 Z201 Z205 Z661 wTrip
 intro hr ha
 have e:abS (tk,st,S,O,M,X,Q) (n,wTrip,ns,vs,tx) s=abO O ns s:=by unfold abS;rw[show(kindD wTrip).2.2.2.2=_ from congrArg (fun x=>x.2.2.2.2) kd_trip];all_goals rfl
 have h:=ha.ord (congrArg (fun x=>x.2.2.2.2) kd_trip)
 rw[e]
 repeat' first|exact hr|exact h.1|exact h.2|exact rfl|apply And.intro|intro _
 all_goals first|trivial|assumption|contradiction
def Z664 (a b:Int) (c:List Sta) (d:List Ord) (e:List Met) (f:List Out) (g:List Per) (h:Ls):=(true=true→Z119 a b c d e f g)∧Z201 h∧(true=true→Z209 f h)
theorem wp79_Outage (n:Int) (ns:List ByteArray) (vs:List Int) (tx:ByteArray) (tk st:Int) (S:List Sta) (O:List Ord) (M:List Met) (X:List Out) (Q:List Per) (s:ByteArray):wpF Tryz.prog W132.g (na ()) Tryz.f79 cStory1 ((n,wOutage,ns,vs,tx),(tk,st,S,O,M,X,Q),s,()):=by
 refine(by kernel_rfl:(Z119 tk st S O M X Q→AbOk (tk,st,S,O,M,X,Q) (Z15 n ns vs tx)→Z664 tk st S O M X Q ns∧(bif true then abX X ns s else false)=abS (tk,st,S,O,M,X,Q) (Z15 n ns vs tx) s)=_).mp ?_
 delta Z15 Z104 Z105 Z119 Z201 Z209 Z664 wOutage
 intro hr ha
 have e:abS (tk,st,S,O,M,X,Q) (n,wOutage,ns,vs,tx) s=abX X ns s:=by unfold abS;rw[show(kindD wOutage).2.2.2.2=_ from congrArg (fun x=>x.2.2.2.2) kd_outage];all_goals rfl
 have h:=ha.out (congrArg (fun x=>x.2.2.2.2) kd_outage)
 rw[e]
 repeat' first|exact hr|exact h.1|exact h.2|exact rfl|apply And.intro|intro _
 all_goals first|trivial|assumption|contradiction
theorem wp79_Restore (n:Int) (ns:List ByteArray) (vs:List Int) (tx:ByteArray) (tk st:Int) (S:List Sta) (O:List Ord) (M:List Met) (X:List Out) (Q:List Per) (s:ByteArray):wpF Tryz.prog W132.g (na ()) Tryz.f79 cStory1 ((n,wRestore,ns,vs,tx),(tk,st,S,O,M,X,Q),s,()):=by
 refine(by kernel_rfl:(Z119 tk st S O M X Q→AbOk (tk,st,S,O,M,X,Q) (Z28 n ns vs tx)→Z664 tk st S O M X Q ns∧(bif true then abX X ns s else false)=abS (tk,st,S,O,M,X,Q) (Z28 n ns vs tx) s)=_).mp ?_
 delta Z28 Z104 Z105 Z119 Z201 Z209 Z664 wRestore
 intro hr ha
 have e:abS (tk,st,S,O,M,X,Q) (n,wRestore,ns,vs,tx) s=abX X ns s:=by unfold abS;rw[show(kindD wRestore).2.2.2.2=_ from congrArg (fun x=>x.2.2.2.2) kd_restore];all_goals rfl
 have h:=ha.out (congrArg (fun x=>x.2.2.2.2) kd_restore)
 rw[e]
 repeat' first|exact hr|exact h.1|exact h.2|exact rfl|apply And.intro|intro _
 all_goals first|trivial|assumption|contradiction
def Z660 (a b:Int) (c:List Sta) (d:List Ord) (e:List Met) (f:List Out) (g:List Per) (h:Ls):=(true=true→Z119 a b c d e f g)∧Z201 h∧(true=true→Z207 g h)
theorem wp79_Permit (n:Int) (ns:List ByteArray) (vs:List Int) (tx:ByteArray) (tk st:Int) (S:List Sta) (O:List Ord) (M:List Met) (X:List Out) (Q:List Per) (s:ByteArray):wpF Tryz.prog W132.g (na ()) Tryz.f79 cStory1 ((n,wPermit,ns,vs,tx),(tk,st,S,O,M,X,Q),s,()):=by
 refine(by kernel_rfl:(Z119 tk st S O M X Q→AbOk (tk,st,S,O,M,X,Q) (Z17 n ns vs tx)→Z660 tk st S O M X Q ns∧(bif true then abP X Q ns s else false)=abS (tk,st,S,O,M,X,Q) (Z17 n ns vs tx) s)=_).mp ?_
 delta Z17 Z104 Z105 Z119 Z201 Z207 Z660 wPermit
 intro hr ha
 have e:abS (tk,st,S,O,M,X,Q) (n,wPermit,ns,vs,tx) s=abP X Q ns s:=by unfold abS;rw[show(kindD wPermit).2.2.2.2=_ from congrArg (fun x=>x.2.2.2.2) kd_permit];all_goals rfl
 have h:=ha.per (congrArg (fun x=>x.2.2.2.2) kd_permit)
 rw[e]
 repeat' first|exact hr|exact h.1|exact h.2|exact rfl|apply And.intro|intro _
 all_goals first|trivial|assumption|contradiction
theorem wp79_Return (n:Int) (ns:List ByteArray) (vs:List Int) (tx:ByteArray) (tk st:Int) (S:List Sta) (O:List Ord) (M:List Met) (X:List Out) (Q:List Per) (s:ByteArray):wpF Tryz.prog W132.g (na ()) Tryz.f79 cStory1 ((n,wReturn,ns,vs,tx),(tk,st,S,O,M,X,Q),s,()):=by
 refine(by kernel_rfl:(Z119 tk st S O M X Q→AbOk (tk,st,S,O,M,X,Q) (Z19 n ns vs tx)→Z660 tk st S O M X Q ns∧(bif true then abP X Q ns s else false)=abS (tk,st,S,O,M,X,Q) (Z19 n ns vs tx) s)=_).mp ?_
 delta Z19 Z104 Z105 Z119 Z201 Z207 Z660 wReturn
 intro hr ha
 have e:abS (tk,st,S,O,M,X,Q) (n,wReturn,ns,vs,tx) s=abP X Q ns s:=by unfold abS;rw[show(kindD wReturn).2.2.2.2=_ from congrArg (fun x=>x.2.2.2.2) kd_return];all_goals rfl
 have h:=ha.per (congrArg (fun x=>x.2.2.2.2) kd_return)
 rw[e]
 repeat' first|exact hr|exact h.1|exact h.2|exact rfl|apply And.intro|intro _
 all_goals first|trivial|assumption|contradiction
theorem wp79_Settle (n:Int) (ns:List ByteArray) (vs:List Int) (tx:ByteArray) (tk st:Int) (S:List Sta) (O:List Ord) (M:List Met) (X:List Out) (Q:List Per) (s:ByteArray):wpF Tryz.prog W132.g (na ()) Tryz.f79 cStory1 ((n,wSettle,ns,vs,tx),(tk,st,S,O,M,X,Q),s,()):=by
 refine(by kernel_rfl:(Z119 tk st S O M X Q→AbOk (tk,st,S,O,M,X,Q) (Z21 n ns vs tx)→Z38∧false=abS (tk,st,S,O,M,X,Q) (Z21 n ns vs tx) s)=_).mp ?_
 delta Z21 Z38 Z119 wSettle
 intro hr ha
 have e:abS (tk,st,S,O,M,X,Q) (n,wSettle,ns,vs,tx) s=false:=by unfold abS;rw[show(kindD wSettle).2.2.2.2=_ from congrArg (fun x=>x.2.2.2.2) kd_settle];all_goals rfl
 rw[e]
 repeat' first|exact hr|exact h.1|exact h.2|exact rfl|apply And.intro|intro _
 all_goals first|trivial|assumption|contradiction
theorem wpF_pre [Sx.Dr] {Γ:Gam} {ann:Nat→Option Ann} {fn:Func} {c:Con} {x:ATup c.args} (hb:fn.body.isSome=true) (h:conj (c.pre x)→wpF Tryz.prog Γ ann fn c x):wpF Tryz.prog Γ ann fn c x:=by
 unfold wpF at h⊢
 cases hc:fn.body with
 |none=>rw[hc] at hb;cases hb
 |some code=>
  rw[hc] at h
  exact imps_conj h
theorem wp79:∀x:ATup [aEv, .ref 105 sReg, .ref 9 .str],wpF Tryz.prog W132.g (na ()) Tryz.f79 cStory1 x
 |((n,k,ns,vs,tx),(tk,st,S,O,M,X,Q),s,())=>by
  refine wpF_pre (by kernel_rfl) fun hp=> ?_
  have ha:AbOk (tk,st,S,O,M,X,Q) (n,k,ns,vs,tx):=hp.2
  rcases kind_cases ha.kind with h|h|h|h|h|h|h|h|h|h|h<;>dsimp only at h<;>subst h
  ·exact wp79_Undo n ns vs tx tk st S O M X Q s
  ·exact wp79_Station n ns vs tx tk st S O M X Q s
  ·exact wp79_Price n ns vs tx tk st S O M X Q s
  ·exact wp79_Order n ns vs tx tk st S O M X Q s
  ·exact wp79_Meter n ns vs tx tk st S O M X Q s
  ·exact wp79_Trip n ns vs tx tk st S O M X Q s
  ·exact wp79_Outage n ns vs tx tk st S O M X Q s
  ·exact wp79_Restore n ns vs tx tk st S O M X Q s
  ·exact wp79_Permit n ns vs tx tk st S O M X Q s
  ·exact wp79_Return n ns vs tx tk st S O M X Q s
  ·exact wp79_Settle n ns vs tx tk st S O M X Q s
theorem ok79:Ok Tryz.prog 79 cStory1:=ok_of_wp mixed W132.ok (by kernel_rfl) (by kernel_rfl) na fun xx=>wp79 xx
abbrev W133:=W132.add ok79
theorem idxS_snoc {α:Type} {p:α→Bool} {y:α} (h:p y=true):∀{l:List α} {k:Nat},0≤idxS p (l++[y]) k
 |[],k=>by
  show 0≤idxS p [y] k
  unfold idxS;rw[if_pos h];omega
 |x::l,k=>by
  show 0≤idxS p (x::(l++[y])) k
  unfold idxS
  split
  ·omega
  ·exact idxS_snoc h
structure Names (r r':Reg):Prop where
 o:∀s,0≤findO r.2.2.2.1 s→0≤findO r'.2.2.2.1 s
 x:∀s,0≤findX r.2.2.2.2.2.1 s→0≤findX r'.2.2.2.2.2.1 s
 q:∀s,0≤findP r.2.2.2.2.2.2 s→0≤findP r'.2.2.2.2.2.2 s
theorem findO_app {O:List Ord} {y:Ord} {s:ByteArray} (h:0≤findO O s):0≤findO (O++[y]) s:=by unfold findO at h⊢;rw[idxS_append h];exact h
theorem findX_app {O:List Out} {y:Out} {s:ByteArray} (h:0≤findX O s):0≤findX (O++[y]) s:=by unfold findX at h⊢;rw[idxS_append h];exact h
theorem findP_app {O:List Per} {y:Per} {s:ByteArray} (h:0≤findP O s):0≤findP (O++[y]) s:=by unfold findP at h⊢;rw[idxS_append h];exact h
theorem findO_trip {O:List Ord} {a s:ByteArray} {v:Int}:findO (setTrip O a v) s=findO O s:=by
 unfold findO setTrip
 exact idxS_set fun x hx=>by
  have e:ordS O a=x:=getD_of hx
  rw[e]
theorem findX_to {O:List Out} {a s:ByteArray} {v:Int}:findX (setTo O a v) s=findX O s:=by
 unfold findX setTo
 exact idxS_set fun x hx=>by
  have e:outS O a=x:=getD_of hx
  rw[e]
theorem findP_shut {O:List Per} {a s:ByteArray}:findP (setShut O a) s=findP O s:=by
 unfold findP setShut
 exact idxS_set fun x hx=>by
  have e:perS O a=x:=getD_of hx
  rw[e]
theorem step_names (r:Reg) (e:Ev):Names r (stepS r e):=by
 obtain⟨tk,st,S,O,M,X,Q⟩:=r
 obtain⟨n,k,ns,vs,tx⟩:=e
 unfold stepS doS
 split
 all_goals refine⟨fun s h=> ?_,fun s h=> ?_,fun s h=> ?_⟩
 all_goals first|exact h|(show 0≤findO (setTrip _ _ _) _;rw[findO_trip];exact h)|(show 0≤findX (setTo _ _ _) _;rw[findX_to];exact h)|(show 0≤findP (setShut _ _) _;rw[findP_shut];exact h)|exact findO_app h|exact findX_app h|exact findP_app h|exact findO_trip (O:=O)▸h|exact findX_to (O:=X)▸h|exact findP_shut (O:=Q)▸h
theorem AbOk.mono {r r':Reg} {e:Ev} (h:AbOk r e) (hn:Names r r'):AbOk r' e:=
 ⟨h.kind,fun q=>⟨(h.ord q).1,hn.o _ (h.ord q).2⟩,fun q=>⟨(h.out q).1,hn.x _ (h.out q).2⟩,fun q=>⟨(h.per q).1,hn.q _ (h.per q).2⟩⟩
theorem self_eq (s:ByteArray):(s.toList==s.toList)=true:=beq_self_eq_true _
theorem step_ab {h:Hist} {e:Ev} (hc:checkE e=0) (ha:accS h e=0) (hk:(e.2.1.toList==wUndo.toList)=false):AbOk (stepS (nowS h.2.2) e) e:=by
 obtain⟨n,k,ns,vs,tx⟩:=e
 have hE:=checkE_zero hc
 rw[accS_eq hk] at ha
 obtain⟨z1,z2,z3,z4,z5⟩:=accK_zero ha
 generalize nowS h.2.2=r at*
 obtain⟨tk,st,S,O,M,X,Q⟩:=r
 have hn:=hE.nn
 clear ha z4 z5
 have hkd:=kind_cases hE.kind
 dsimp only at hn hkd hk z3
 rcases hkd with h|h|h|h|h|h|h|h|h|h|h<;>subst h
 ·exact⟨hE.kind,fun q=>absurd q (by rw[kd_undo];decide),fun q=>absurd q (by rw[kd_undo];decide),fun q=>absurd q (by rw[kd_undo];decide)⟩
 ·exact⟨hE.kind,fun q=>absurd q (by rw[kd_station];decide),fun q=>absurd q (by rw[kd_station];decide),fun q=>absurd q (by rw[kd_station];decide)⟩
 ·exact⟨hE.kind,fun q=>absurd q (by rw[kd_price];decide),fun q=>absurd q (by rw[kd_price];decide),fun q=>absurd q (by rw[kd_price];decide)⟩
 ·simp only[kd_order,List.length_cons,List.length_nil] at hn z3
  refine⟨hE.kind,fun _=>⟨by dsimp only;omega, ?_⟩,fun q=>absurd q (by rw[kd_order];decide),fun q=>absurd q (by rw[kd_order];decide)⟩
  unfold stepS doS
  simp only[kd_order]
  exact idxS_snoc (p:=fun x:Ord=>x.1.toList==(ns.getD 0 bnil).toList) (l:=O) (self_eq _)
 ·simp only[kd_meter,List.length_cons,List.length_nil] at hn z3
  refine⟨hE.kind,fun _=>⟨by dsimp only;omega, ?_⟩,fun q=>absurd q (by rw[kd_meter];decide),fun q=>absurd q (by rw[kd_meter];decide)⟩
  unfold stepS doS
  simp only[kd_meter]
  exact has1 ((unk_cons z3).1 rfl)
 ·simp only[kd_trip,List.length_cons,List.length_nil] at hn z3
  refine⟨hE.kind,fun _=>⟨by dsimp only;omega, ?_⟩,fun q=>absurd q (by rw[kd_trip];decide),fun q=>absurd q (by rw[kd_trip];decide)⟩
  unfold stepS doS
  simp only[kd_trip]
  exact by show 0≤findO (setTrip _ _ _) _;rw[findO_trip];exact has1 ((unk_cons z3).1 rfl)
 ·simp only[kd_outage,List.length_cons,List.length_nil] at hn z3
  refine⟨hE.kind,fun q=>absurd q (by rw[kd_outage];decide),fun _=>⟨by dsimp only;omega, ?_⟩,fun q=>absurd q (by rw[kd_outage];decide)⟩
  unfold stepS doS
  simp only[kd_outage]
  exact idxS_snoc (p:=fun x:Out=>x.1.toList==(ns.getD 0 bnil).toList) (l:=X) (self_eq _)
 ·simp only[kd_restore,List.length_cons,List.length_nil] at hn z3
  refine⟨hE.kind,fun q=>absurd q (by rw[kd_restore];decide),fun _=>⟨by dsimp only;omega, ?_⟩,fun q=>absurd q (by rw[kd_restore];decide)⟩
  unfold stepS doS
  simp only[kd_restore]
  exact by show 0≤findX (setTo _ _ _) _;rw[findX_to];exact has2 ((unk_cons z3).1 rfl)
 ·simp only[kd_permit,List.length_cons,List.length_nil] at hn z3
  refine⟨hE.kind,fun q=>absurd q (by rw[kd_permit];decide),fun q=>absurd q (by rw[kd_permit];decide),fun _=>⟨by dsimp only;omega, ?_⟩⟩
  unfold stepS doS
  simp only[kd_permit]
  exact idxS_snoc (p:=fun x:Per=>x.1.toList==(ns.getD 0 bnil).toList) (l:=Q) (self_eq _)
 ·simp only[kd_return,List.length_cons,List.length_nil] at hn z3
  refine⟨hE.kind,fun q=>absurd q (by rw[kd_return];decide),fun q=>absurd q (by rw[kd_return];decide),fun _=>⟨by dsimp only;omega, ?_⟩⟩
  unfold stepS doS
  simp only[kd_return]
  exact by show 0≤findP (setShut _ _) _;rw[findP_shut];exact has3 ((unk_cons z3).1 rfl)
 ·exact⟨hE.kind,fun q=>absurd q (by rw[kd_settle];decide),fun q=>absurd q (by rw[kd_settle];decide),fun q=>absurd q (by rw[kd_settle];decide)⟩
def HistA (h:Hist):Prop:=∀j k,j<h.2.1.length→j≤k→k<h.2.2.length→AbOk (h.2.2.getD k reg0) (h.2.1.getD j ev0)
theorem getD_take {α:Type} {l:List α} {m k:Nat} {d:α} (h:k<m):(l.take m).getD k d=l.getD k d:=by
 rw[List.getD_eq_getElem?_getD,List.getD_eq_getElem?_getD,List.getElem?_take_of_lt h]
theorem getD_app {α:Type} {l m:List α} {k:Nat} {d:α} (h:k<l.length):(l++m).getD k d=l.getD k d:=by
 rw[List.getD_eq_getElem?_getD,List.getD_eq_getElem?_getD,List.getElem?_append_left h]
theorem getD_snoc {α:Type} {l:List α} {y d:α}:(l++[y]).getD l.length d=y:=by
 rw[List.getD_eq_getElem?_getD,List.getElem?_append_right (Nat.le_refl _),Nat.sub_self];rfl
theorem add_A {h:Hist} {e:Ev} (hi:HistI h) (hA:HistA h) (ha:addE h e=0):HistA (addH h e):=by
 obtain⟨hc,hacc⟩:=add_zero ha
 have n3:=hi.ok.nG
 have hlast:∀e'∈[e],(e.2.1.toList==wUndo.toList)=false→AbOk (stepS (nowS h.2.2) e) e:=fun _ _ hk=>step_ab hc hacc hk
 obtain⟨E,C,G⟩:=h
 dsimp only at n3
 cases hk:e.2.1.toList==wUndo.toList with
 |true=>
  unfold addH
  rw[hk,cond_true]
  intro j k h1 h2 h3
  simp only[List.length_take] at h1 h3
  dsimp only
  rw[getD_take (by omega),getD_take (by omega)]
  exact hA j k (by dsimp only;omega) h2 (by dsimp only;omega)
 | false =>
  unfold addH
  rw[hk,cond_false]
  intro j k h1 h2 h3
  simp only[List.length_append,List.length_singleton] at h1 h3
  dsimp only
  by_cases hkn:k<G.length
  ·rw[getD_app hkn,getD_app (by omega)]
   exact hA j k (by dsimp only;omega) h2 (by dsimp only;omega)
  ·have ek:k=G.length:=by omega
   rw[ek,getD_snoc]
   by_cases hj:j<C.length
   ·rw[getD_app hj]
    have:=hA j (G.length-1) hj (by omega) (by dsimp only;omega)
    exact this.mono (step_names (nowS G) e)
   ·have ej:j=C.length:=by omega
    rw[ej,getD_snoc]
    exact hlast e (List.mem_singleton.2 rfl) hk
theorem runS_A:∀{l:List Ev} {h:Hist},HistI h→HistA h→h.1.length+l.length≤1000→HistA (runS h l).1
 |[],_,_,hA,_=>hA
 | e :: l, h, hi, hA, hl => by
  unfold runS
  simp only[List.length_cons] at hl
  by_cases ha:addE h e=0
  ·rw[if_pos ha]
   exact runS_A (add_ok hi (by omega) ha) (add_A hi hA ha) (by rw[addH_len];omega)
  ·rw[if_neg ha];exact hA
theorem hist0_A:HistA hist0:=fun j k h1 _ _=>by cases h1
theorem replay_A {l:List Ev}:HistA (replayS l).1:=by
 unfold replayS
 by_cases h:1000<l.length
 ·rw[if_pos h];exact hist0_A
 ·rw[if_neg h];exact runS_A hist0_ok hist0_A (by show 0+l.length≤1000;omega)
theorem now_ab {h:Hist} (hi:HistI h) (hA:HistA h) {e:Ev} (he:e∈h.2.1):AbOk (nowS h.2.2) e:=by
 obtain⟨j,hj,rfl⟩:=List.mem_iff_getElem.1 he
 have n3:=hi.ok.nG
 have:=hA j (h.2.2.length-1) hj (by omega) (by omega)
 rw[List.getD_eq_getElem?_getD (l:=h.2.1),List.getElem?_eq_getElem hj] at this
 exact this
def joinS (xs:List ByteArray) (sep:ByteArray):ByteArray:=⟨(Lib.join (xs.map (·.data.toList)) sep.data.toList).toArray⟩
def cJoin:Con:={args:=[.val false (.list 9 .str),aS],ress:=[tS],owns:=[],pre:=fun(xs,sep,_)=>[xs.length≤1000000,(Lib.join (xs.map (·.data.toList)) sep.data.toList).length≤140737488355328],spec:=fun(xs,sep,_)=>(joinS xs sep,())}
def itoaS (n:Int):ByteArray:=⟨(Lib.itoa n).toArray⟩
def cItoa:Con:={args:=[aI],ress:=[tS],owns:=[],pre:=fun(n,_)=>[-9223372036854775808≤n∧n≤9223372036854775807],spec:=fun(n,_)=>(itoaS n,())}
theorem below_gd (w:World) (q:Nat) (os:Array Obj):RowKit.Below w.heap.size w (Sort.grow (w.drewN q) os):=
 ⟨rfl,rfl,rfl,by first|(simp[Sort.grow];done)|(simp[Sort.grow];omega),fun i hi=>by
  show((w.drewN q).heap++os)[i]? =_
  rw[Array.getElem?_append_left (by show i<w.heap.size;omega)]
  rfl⟩
theorem ok122:Ok Tryz.prog 122 cItoa:=by
 refine⟨⟨Tryz.f122,by kernel_rfl,by kernel_rfl,by kernel_rfl⟩,fun z hz=>(by cases hz),fun F hF=>(by cases hF),fun _ x M R w vs hM hg hpre hargs=> ?_⟩
 obtain⟨n,u⟩:=x
 obtain⟨v,vs',rfl,ha,hr⟩:=hargs
 have hr:vs'=[]:=hr
 subst hr
 obtain⟨cs,rfl,hc⟩:=ha
 have hc:cs=[.int .i64 n]:=hc
 subst hc
 have hpre: -9223372036854775808≤n∧n≤9223372036854775807:=hpre
 refine(Tryz.strconv_Itoa n hpre.1 hpre.2 w (hg w (Sx.Below.refl _ _)).1).mono ?_
 rintro e w' ⟨rfl,k,os,rfl⟩
 exact⟨M,[.string (itoaS n)],rfl, .ofK (below_gd w k os),fun _ h=>h,fun b h=> .inl h,_,[],rfl,⟨_,rfl,rfl⟩,rfl⟩
theorem ok123:Ok Tryz.prog 123 cJoin:=by
 refine⟨⟨Tryz.f123,by kernel_rfl,by kernel_rfl,by kernel_rfl⟩,fun z hz=>(by cases hz),fun F hF=>(by cases hF),fun _ x M R w vs hM hg hpre hargs=> ?_⟩
 obtain⟨xs,sep,u⟩:=x
 obtain⟨v,vs',rfl,ha,v2,vs2,rfl,hb,hr⟩:=hargs
 have hr:vs2=[]:=hr
 subst hr
 obtain⟨cs,rfl,hc⟩:=ha
 obtain⟨cs2,rfl,hc2⟩:=hb
 have hc2:cs2=[.string sep]:=hc2
 subst hc2
 obtain⟨v,flat,rfl,f1,f2⟩:=hc
 obtain⟨p1,p2⟩:=hpre
 have hflat:=repL_strs f1
 have fin:∀(e:Ending) (w':World),e= .returned (.string (joinS xs sep))→RowKit.Below w.heap.size w w'→Post M w [tS] [] (joinS xs sep,()) e w':=fun e w' he hb=>
  ⟨M,[.string (joinS xs sep)],he, .ofK hb,fun _ h=>h,fun b h=> .inl h,_,[],rfl,⟨_,rfl,rfl⟩,rfl⟩
 rcases f2 with⟨rfl|⟨ad,cap,rfl⟩,h0⟩|⟨b,off,cap,rfl,hcap,hk,hm⟩
 ·have:xs=[]:=List.eq_nil_of_length_eq_zero h0
  subst this
  refine(Tryz.strings_Join_none none 0 sep w).mono ?_
  rintro e w' ⟨rfl,rfl⟩
  exact fin _ _ rfl (RowKit.Below.refl _ _)
 ·have:xs=[]:=List.eq_nil_of_length_eq_zero h0
  subst this
  refine(Tryz.strings_Join_none (some ad) cap sep w).mono ?_
  rintro e w' ⟨rfl,rfl⟩
  exact fin _ _ rfl (RowKit.Below.refl _ _)
 ·cases hx:xs with
  |nil=>
   subst hx
   refine(Tryz.strings_Join_none (some ⟨b,off,none⟩) cap sep w).mono ?_
   rintro e w' ⟨rfl,rfl⟩
   exact fin _ _ rfl (RowKit.Below.refl _ _)
  |cons x0 r=>
   rw[←hx]
   have hne:flat≠[]:=by rw[hflat,hx];simp
   refine(Tryz.strings_Join b off cap xs sep w (fun j x hj=>hk j _ (by rw[hflat,List.getElem?_map,hj];rfl)) (hM b (.inl (hm hne))) (by omega) hcap p2).mono ?_
   rintro e w' ⟨rfl,hb⟩
   exact fin _ _ rfl hb
abbrev W134:=W133.add ok123
abbrev W135:=W134.add ok122
def wordsS (s p:ByteArray):List ByteArray:=Lib.splitB p 0 (Lib.countB s p) s
def cWords:Con:={args:=[aS,aS],ress:=[(false, .list 9 .str)],owns:=[true],pre:=fun(s,p,_)=>[s.size≤1000000,1≤p.size],spec:=fun(s,p,_)=>(wordsS s p,())}
theorem repL_strs' {M:Nat→Prop} {w:World}:∀{xs:List ByteArray},RepL (Rep M w .str) xs (xs.map Value.string)
 |[]=>rfl
 |x::xs=>⟨[.string x],xs.map Value.string,rfl,rfl,repL_strs'⟩
theorem ok61:Ok Tryz.prog 61 cWords:=by
 refine⟨⟨Tryz.f61,by kernel_rfl,by kernel_rfl,by kernel_rfl⟩,fun z hz=>(by cases hz),fun F hF=>(by cases hF),fun _ x M R w vs hM hg hpre hargs=> ?_⟩
 obtain⟨s,p,u⟩:=x
 obtain⟨v1,vs1,rfl,ha1,v2,vs2,rfl,ha2,hr⟩:=hargs
 have hr:vs2=[]:=hr
 subst hr
 obtain⟨cs1,rfl,hc1⟩:=ha1
 obtain⟨cs2,rfl,hc2⟩:=ha2
 have hc1:cs1=[.string s]:=hc1
 have hc2:cs2=[.string p]:=hc2
 subst hc1;subst hc2
 have hpre:s.size≤1000000∧1≤p.size:=hpre
 refine(Tryz.strings_Split_shaped s p w ((hg w (.refl _ _)).2 rfl).1 (by omega) hpre.2).mono ?_
 rintro e w' ⟨rfl,rfl⟩
 have hlen:(wordsS s p).length=Lib.countB s p+1:=Lib.splitB_all p hpre.2 0 _ s rfl
 have hle:=Lib.countB_le p hpre.2 s.size s (Nat.le_refl _)
 refine⟨M,[_],rfl, .ofK ⟨rfl,rfl,rfl,by show w.heap.size≤(w.heap.push _).size;simp,fun i hi=> ?_⟩,fun _ h=>h,fun b h=> .inl h,_,[],rfl,⟨(wordsS s p).map Value.string,repL_strs',⟨by simp[Sch.size,cWords], .inr ⟨w.heap.size,Lib.countB s p+1,_,by rw[show(cWords.spec (s,p,u)).1=wordsS s p from rfl,hlen],Nat.le_refl _,heap_alloc_new w _,by rw[show(cWords.spec (s,p,u)).1=wordsS s p from rfl,hlen];exact Nat.le_refl _, ?_, ?_, ?_⟩⟩, ?_⟩,rfl⟩
 ·show(w.heap.push _)[i]? =_
  rw[Array.getElem?_push]
  split
  ·omega
  ·rfl
 ·show _≤9223372036854775807
  have:s.size≤1000000:=hpre.1
  omega
 ·show(List.map Value.string (wordsS s p)).toArray.size=_
  simp[Sch.size,hlen]
 ·show(List.map Value.string (wordsS s p)).take ((wordsS s p).length*1)=_
  rw[List.take_of_length_le (by simp)]
 ·intro g hgb hM'
  have:w.heap.size=g:=Option.some.inj hgb
  have:=hM g (.inl hM')
  omega
abbrev W136:=W135.add ok61
def cAtoi:Con:={args:=[],ress:=[],owns:=[],pre:=fun _=>[False],spec:=fun _=>(),prim:=some atoP}
theorem call260 (s:ByteArray) (w:World) (hs:s.size≤1000000) (hg:Sx.Good Tryz.prog w):Calls Tryz.prog 260 #[.string s] w fun e w'=>∃u,e= .returned (.tuple #[.int .i64 (atoN s),u])∧IfcOk (atoE s) u∧Sx.Below w.heap.size w w':=by
 have hw:=(hg w (.refl _ _)).2 rfl
 cases h:Lib.atoiAll s.data.toList
 ·rename_i v
  have e1:atoN s=v:=by unfold atoN;rw[h]
  have e2:atoE s=false:=by unfold atoE;rw[h]
  rw[e1,e2]
  refine Calls.mono (Any.strconv_Atoi_ok Tryz.laysAtoi s (by omega) v h w) ?_
  rintro e w' ⟨rfl,rfl|⟨t,rfl⟩⟩
  ·exact⟨_,rfl,rfl, .refl _ _⟩
  ·exact⟨_,rfl,rfl, .ofK (Lib.bytesWorld_below w _ t)⟩
 ·have e1:atoN s=0:=by unfold atoN;rw[h]
  have e2:atoE s=true:=by unfold atoE;rw[h]
  rw[e1,e2]
  obtain⟨tp,pe,hv⟩:=hw.2.1
  refine Calls.mono (Any.strconv_Atoi_syntax_var Tryz.laysAtoi s (by omega) h tp pe w hv) ?_
  rintro e w' ⟨N,rfl,_,_,hb⟩
  exact⟨_,rfl,⟨_,_,rfl⟩, .ofK hb⟩
 ·have e1:atoN s=Lib.atoiSat s.data.toList:=by unfold atoN;rw[h]
  have e2:atoE s=true:=by unfold atoE;rw[h]
  rw[e1,e2]
  obtain⟨tp,pe,hv⟩:=hw.2.2
  refine Calls.mono (Any.strconv_Atoi_range_var Tryz.laysAtoi s (by omega) h tp pe w hv) ?_
  rintro e w' ⟨N,rfl,_,_,hb⟩
  exact⟨_,rfl,⟨_,_,rfl⟩, .ofK hb⟩
theorem ok260:Ok Tryz.prog 260 cAtoi:=⟨⟨Tryz.f260,by kernel_rfl,by kernel_rfl,by kernel_rfl⟩,fun z hz=>(by cases hz),fun F hF=>(by cases hF;exact atoP_ok fun s w hs hg=>call260 s w hs hg),fun _ x M R w vs _ _ hpre _=>False.elim hpre⟩
abbrev W137:=W136.add ok260
def cutS (s p:ByteArray):ByteArray×ByteArray×Bool:=(⟨(Lib.cut s.data.toList p.data.toList).1.toArray⟩,⟨(Lib.cut s.data.toList p.data.toList).2.1.toArray⟩,(Lib.cut s.data.toList p.data.toList).2.2)
def cCut:Con:={args:=[aS,aS],ress:=[tS,tS,Bo],owns:=[],pre:=fun(s,_)=>[s.size≤1000000],spec:=fun(s,p,_)=>((cutS s p).1,(cutS s p).2.1,(cutS s p).2.2,())}
theorem below_dr (w:World) (q:Nat):RowKit.Below w.heap.size w (w.drewN q):=⟨rfl,rfl,rfl,Nat.le_refl _,fun i _=>rfl⟩
theorem ok107:Ok Tryz.prog 107 cCut:=by
 refine⟨⟨Tryz.f107,by kernel_rfl,by kernel_rfl,by kernel_rfl⟩,fun z hz=>(by cases hz),fun F hF=>(by cases hF),fun _ x M R w vs hM hg hpre hargs=> ?_⟩
 obtain⟨s,p,u⟩:=x
 obtain⟨v1,vs1,rfl,ha1,v2,vs2,rfl,ha2,hr⟩:=hargs
 have hr:vs2=[]:=hr
 subst hr
 obtain⟨cs1,rfl,hc1⟩:=ha1
 obtain⟨cs2,rfl,hc2⟩:=ha2
 have hc1:cs1=[.string s]:=hc1
 have hc2:cs2=[.string p]:=hc2
 subst hc1;subst hc2
 have hpre:s.size≤1000000:=hpre
 refine(Tryz.strings_Cut_shaped s p w ((hg w (.refl _ _)).2 rfl).1 (by omega)).mono ?_
 rintro e w' ⟨rfl,n,rfl⟩
 exact⟨M,[.string (cutS s p).1, .string (cutS s p).2.1, .bool (cutS s p).2.2],rfl, .ofK (below_dr w n),fun _ h=>h,fun b h=> .inl h,_,_,rfl,⟨_,rfl,rfl⟩,_,_,rfl,⟨_,rfl,rfl⟩,_,[],rfl,⟨_,rfl,rfl⟩,rfl⟩
abbrev W138:=W137.add ok107
def repS (s:ByteArray) (n:Int):ByteArray:=⟨(Lib.repeatL s.data.toList n.toNat).toArray⟩
def cRep:Con:={args:=[aS,aI],ress:=[tS],owns:=[],pre:=fun(s,n,_)=>[s.size≤1000000,0≤n∧n≤1000000],spec:=fun(s,n,_)=>(repS s n,())}
theorem ok258:Ok Tryz.prog 258 cRep:=by
 refine⟨⟨Tryz.f258,by kernel_rfl,by kernel_rfl,by kernel_rfl⟩,fun z hz=>(by cases hz),fun F hF=>(by cases hF),fun _ x M R w vs hM hg hpre hargs=> ?_⟩
 obtain⟨s,n,u⟩:=x
 obtain⟨v1,vs1,rfl,ha1,v2,vs2,rfl,ha2,hr⟩:=hargs
 have hr:vs2=[]:=hr
 subst hr
 obtain⟨cs1,rfl,hc1⟩:=ha1
 obtain⟨cs2,rfl,hc2⟩:=ha2
 have hc1:cs1=[.string s]:=hc1
 have hc2:cs2=[.int .i64 n]:=hc2
 subst hc1;subst hc2
 obtain⟨p1,p2,p3⟩:=hpre
 have p1:s.size≤1000000:=p1
 have p2:0≤n:=p2
 have p3:n≤1000000:=p3
 obtain⟨c,rfl⟩:=Int.eq_ofNat_of_zero_le p2
 have p3:(c:Int)≤1000000:=p3
 have hm:s.size*c≤1000000*1000000:=Nat.mul_le_mul p1 (by omega)
 refine(Tryz.strings_Repeat s c w (by omega) (by omega)).mono ?_
 rintro e w' ⟨rfl,hb⟩
 exact⟨M,[.string (repS s c)],rfl, .ofK hb,fun _ h=>h,fun b h=> .inl h,_,[],rfl,⟨_,rfl,rfl⟩,rfl⟩
abbrev W139:=W138.add ok258
abbrev tI:Bool×Sch:=(false, .int .i64)
abbrev tB:Bool×Sch:=(false, .bool)
abbrev tStr:Bool×Sch:=(false, .str)
abbrev tSs:Bool×Sch:=(false, .list 9 .str)
abbrev taI:AK:= .val false (.int .i64)
abbrev taU:AK:= .val false (.int .u8)
abbrev taS:AK:= .val false .str
theorem wrap8 {n:Int} (h0:0≤n) (h1:n<256):IntKind.u8.wrap n=n:=by
 simp[IntKind.wrap,IntKind.signed,IntKind.bits]
 omega
def isDig (c:Int):Bool:=decide (48≤c)&&decide (c≤57)
theorem isDig_not (c:Int):(bif decide (c<48) then true else decide (57<c))= !isDig c:=by
 unfold isDig
 have e1:decide (c<48)= !decide ((48:Int)≤c):=by rw[Bool.eq_iff_iff];simp
 have e2:decide ((57:Int)<c)= !decide (c≤57):=by rw[Bool.eq_iff_iff];simp
 rw[e1,e2]
 cases decide ((48:Int)≤c)<;>cases decide (c≤57)<;>rfl
def digFrom:List UInt8→Int→Int×Bool
 |[],n=>(n,true)
 |c::r,n=>if isDig c.toNat=true then digFrom r (10*n+(c.toNat-48)) else(0,false)
def digBad (s:ByteArray):Bool:=decide (s.size=0)||decide (9<s.size)||(decide (1<s.size)&&decide (byteAt s 0=48))
def digitsF (s:ByteArray):Int×Bool:=if digBad s=true then(0,false) else digFrom s.data.toList 0
def cDigits:Con:={args:=[taS],ress:=[tI,tB],owns:=[],pre:=fun(s,_)=>[s.size≤1000000],spec:=fun(s,_)=>((digitsF s).1,(digitsF s).2,())}
abbrev annDig (s:ByteArray):Ann:={X:=Int×Int,σ:=fun p=>⟨0,[(0, .one (.str s)),(4, .one (.int .i64 p.1)),(5, .one (.int .i64 p.2))],[]⟩,inv:=fun p=>digBad s=false∧s.size≤9∧0≤p.2∧p.2≤s.size∧0≤p.1∧p.1<10^p.2.toNat∧digFrom (s.data.toList.drop p.2.toNat) p.1=digFrom s.data.toList 0,mu:=fun p=>s.size-p.2.toNat}
theorem digFrom_drop {l:List UInt8} {i:Nat} (h:i<l.length) (n:Int):digFrom (l.drop i) n=if isDig (l.getD i 0).toNat=true then digFrom (l.drop (i+1)) (10*n+((l.getD i 0).toNat-48)) else(0,false):=by
 rw[List.drop_eq_getElem_cons h]
 simp[digFrom,List.getD_eq_getElem?_getD,h]
theorem bad_guard (s:ByteArray):(bif bif ((s.size:Int)==0) then true else decide (9<(s.size:Int)) then true else bif decide (1<(s.size:Int)) then(((s.data.toList.getD 0 0).toNat:Int)==48) else false)=digBad s:=by
 have e1:((s.size:Int)==0)=decide (s.size=0):=by rw[Bool.eq_iff_iff];simp
 have e2:decide (9<(s.size:Int))=decide (9<s.size):=by rw[decide_eq_decide];omega
 have e3:decide (1<(s.size:Int))=decide (1<s.size):=by rw[decide_eq_decide];omega
 have e4:(((s.data.toList.getD 0 0).toNat:Int)==48)=decide (byteAt s 0=48):=by rw[Bool.eq_iff_iff];simp[byteAt]
 have k:∀a b c d:Bool,(bif bif a then true else b then true else bif c then d else false)=(a||b||(c&&d)):=by decide
 rw[e1,e2,e3,e4,k];rfl
theorem dig_rng {c:Nat} (h:isDig c=true):48≤c∧c≤57:=by
 unfold isDig at h
 simp only[Bool.and_eq_true,decide_eq_true_eq] at h
 omega
def Z200 (a:Bt):=0=(digitsF a).1∧false=(digitsF a).2
def Z235 (a:Bt) (b:Int×Int):=Nc (UInt8.toNat (Gt (Z10 a) b.2 0))
def Z303 (a:Bt):=bif Nc (ByteArray.size a)==0 then true else decide (9<Nc (ByteArray.size a))
def Z314 (a:Bt) (b:Int×Int):=decide (Z235 a b<48)
def Z327 (a:Bt) (b:Int×Int):=IntKind.wrap IntKind.u8 (Z235 a b-48)
def Z398 (a:Int×Int) (b:Bt):=10*a.1+Z327 b a
def Z539 (a:Bt):=bif decide (1<Nc (ByteArray.size a)) then Z268 a==48 else false
def Z755 (a:Bt) (b:Int×Int):=digBad a=false∧ByteArray.size a≤9∧0≤b.2∧b.2≤Nc (ByteArray.size a)∧0≤b.1∧b.1<10^Int.toNat b.2∧digFrom (List.drop (Int.toNat b.2) (Z10 a)) b.1=digFrom (Z10 a) 0
theorem ok189 : Ok Tryz.prog 189 cDigits := okW W139 Tryz.f189 (fun xx => ann0 (annDig xx.1)) fun xx => by
  obtain⟨(s:ByteArray),_⟩:=xx
  refine(by kernel_rfl:(ByteArray.size s≤1000000→(Z303 s=false∧decide (1<Nc (ByteArray.size s))=true→Bd 0 (Nc (ByteArray.size s)))∧Br (bif Z303 s then true else Z539 s) (Z200 s) (∃(x:Int×Int),Sf s (0=x.1∧0=x.2)∧Z755 s x∧∀(x:Int×Int),Z755 s x→Br (decide (x.2<Nc (ByteArray.size s))) ((Bd x.2 (Nc (ByteArray.size s))∧(Z314 s x=false→Bd x.2 (Nc (ByteArray.size s))))∧Br (bif Z314 s x then true else decide (57<Z235 s x)) (Z200 s) ((Iw (10*x.1)∧Bd x.2 (Nc (ByteArray.size s))∧Iw (Z327 s x)∧Iw (Z398 x s))∧Iw (x.2+1)∧∃(y:Int×Int),Sf s (Z398 x s=y.1∧x.2+1=y.2)∧Z755 s y∧ByteArray.size s-Int.toNat y.2<ByteArray.size s-Int.toNat x.2)) (x.1=(digitsF s).1∧true=(digitsF s).2)))=_).mp ?_
  delta Z10 Z200 Z235 Z268 Z303 Z314 Z327 Z398 Z539 Z755 Br Iw Bd Sf Nc Gt
  intro hs
  rw[bad_guard]
  simp only[isDig_not]
  refine⟨fun h=>⟨by omega,by have h:=h.2;simp at h;omega⟩,fun h=> ?_,fun h=> ?_⟩
  ·unfold digitsF;rw[if_pos h];exact⟨rfl,rfl⟩
  · have ed : digitsF s = digFrom s.data.toList 0 := by unfold digitsF; rw [h]; rfl
    have h9:s.size≤9:=by
      unfold digBad at h
      simp only[Bool.or_eq_false_iff,decide_eq_false_iff_not] at h
      omega
    refine⟨(0,0),by simp,⟨h,h9,Int.le_refl _,by omega,Int.le_refl _,by decide,rfl⟩, ?_⟩
    rintro⟨n,i⟩ ⟨_,_,hi0,hi1,hn0,hn1,hd⟩
    dsimp only at hi0 hi1 hn0 hn1 hd⊢
    obtain⟨j,rfl⟩:=Int.eq_ofNat_of_zero_le hi0
    have hl:s.data.toList.length=s.size:=by simp
    simp only[Int.ofNat_eq_natCast,Int.toNat_natCast] at*
    refine⟨fun hlt=> ?_,fun hlt=> ?_⟩
    · have hlt : j < s.size := by simpa using hlt
      have hdr:=digFrom_drop (l:=s.data.toList) (i:=j) (by omega) n
      refine⟨⟨by omega,fun _=>by omega⟩,fun hb=> ?_,fun hb=> ?_⟩
      · have hb : isDig (s.data.toList.getD j 0).toNat = false := by simpa using hb
        rw[ed,←hd,hdr,hb];exact⟨rfl,rfl⟩
      · have hb : isDig (s.data.toList.getD j 0).toNat = true := by simpa using hb
        have hr:=dig_rng hb
        have hp:n<10^9:=Int.lt_of_lt_of_le hn1 (by
          have:=Nat.pow_le_pow_right (n:=10) (by decide) (show j≤9 by omega)
          have e:((10:Int)^j)=((10^j:Nat):Int):=by simp
          rw[e];exact_mod_cast this)
        have hw:IntKind.u8.wrap (((s.data.toList.getD j 0).toNat:Int)-48)=(s.data.toList.getD j 0).toNat-48:=wrap8 (by omega) (by omega)
        rw[hw]
        refine⟨by omega,by omega,(10*n+(((s.data.toList.getD j 0).toNat:Int)-48),((j+1:Nat):Int)),(by simp),⟨h,h9,by dsimp only;omega,by dsimp only;omega,by dsimp only;omega, ?_, ?_⟩,by simp;omega⟩
        ·simp only[Int.toNat_natCast,Int.pow_succ];omega
        · simp only [Int.toNat_natCast]
          rw[←hd,hdr,if_pos hb]
    · have hj : j = s.size := by have : ¬ ((j : Int) < s.size) := by simpa using hlt
                                 omega
      have:digFrom (s.data.toList.drop j) n=(n,true):=by rw[List.drop_eq_nil_of_le (by omega)];rfl
      rw[ed,←hd,this];exact⟨rfl,rfl⟩
abbrev W140:=W139.add ok189
theorem digFrom_rng:∀{l:List UInt8} {n:Int},0≤n→0≤(digFrom l n).1∧(digFrom l n).1<(n+1)*10^l.length
 |[],n,h=>⟨h,by simp[digFrom];omega⟩
 | c :: r, n, h => by
  unfold digFrom
  split
  ·rename_i hc
   have hr:=dig_rng hc
   have ih:=digFrom_rng (l:=r) (n:=10*n+(c.toNat-48)) (by omega)
   refine⟨ih.1,Int.lt_of_lt_of_le ih.2 ?_⟩
   rw[List.length_cons,Int.pow_succ,Int.mul_comm (10^r.length),←Int.mul_assoc]
   exact Int.mul_le_mul_of_nonneg_right (by omega) (Int.pow_nonneg (by decide))
  ·refine⟨Int.le_refl _,Int.mul_pos (by omega) (Int.pow_pos (by decide))⟩
theorem digitsF_rng (s:ByteArray):0≤(digitsF s).1∧(digitsF s).1<1000000000:=by
 unfold digitsF
 split
 ·exact⟨Int.le_refl _,by decide⟩
 ·rename_i h
  have h:digBad s=false:=by simpa using h
  have h9:s.size≤9:=by
   unfold digBad at h
   simp only[Bool.or_eq_false_iff,decide_eq_false_iff_not] at h
   omega
  have:=digFrom_rng (l:=s.data.toList) (n:=0) (Int.le_refl _)
  refine⟨this.1,Int.lt_of_lt_of_le this.2 ?_⟩
  have hp:=Nat.pow_le_pow_right (n:=10) (by decide) h9
  have hl:s.data.toList.length=s.size:=by simp
  rw[hl,Int.zero_add,Int.one_mul]
  have e:((10:Int)^s.size)=((10^s.size:Nat):Int):=by simp
  rw[e]
  have h2:((10^s.size:Nat):Int)≤((10^9:Nat):Int):=Int.ofNat_le.2 hp
  have h3:((10^9:Nat):Int)=1000000000:=by decide
  omega
def splB (c:UInt8):List UInt8→List (List UInt8)
 |[]=>[[]]
 |x::r=>if x=c then[]::splB c r else match splB c r with
  |[]=>[[x]]
  |h::t=>(x::h)::t
def bs (l:List UInt8):ByteArray:=⟨l.toArray⟩
def splitF (s:ByteArray) (c:Int):List ByteArray:=(splB (UInt8.ofNat c.toNat) s.data.toList).map bs
def glue (o:List ByteArray):List (List UInt8)→List ByteArray
 |[]=>o
 |h::t=>o.dropLast++bs ((o.getLastD ByteArray.empty).data.toList++h)::t.map bs
theorem splB_ne (c:UInt8):∀l,splB c l≠[]
 |[]=>by simp[splB]
 |x::r=>by
  unfold splB
  split
  ·simp
  ·split<;>simp
theorem splB_cons (c x:UInt8) (r:List UInt8):splB c (x::r)=if x=c then[]::splB c r else match splB c r with
  |[]=>[[x]]
  |h::t=>(x::h)::t:=rfl
theorem glue_new (d:List ByteArray) (a:ByteArray) (t:List (List UInt8)) (ht:t≠[]):glue (d++[a]++[bs []]) t=glue (d++[a]) ([]::t):=by
 cases t with
 |nil=>exact absurd rfl ht
 |cons h t=>
  simp only[glue,List.dropLast_concat,List.getLastD_concat]
  simp[bs]
theorem glue_more (d:List ByteArray) (a:ByteArray) (x:UInt8) (h:List UInt8) (t:List (List UInt8)):glue (d++[bs (a.data.toList++[x])]) (h::t)=glue (d++[a]) ((x::h)::t):=by
 simp only[glue,List.dropLast_concat,List.getLastD_concat]
 simp[bs]
theorem glue_end (d:List ByteArray) (a:ByteArray):glue (d++[a]) [[]]=d++[a]:=by
 simp only[glue,List.dropLast_concat,List.getLastD_concat]
 simp[bs]
theorem extract_one {s:ByteArray} {j:Nat} (h:j<s.size):(s.extract j (j+1)).data.toList=[s.data.toList.getD j 0]:=by
 have hl:j<s.data.toList.length:=by simpa using h
 rw[ByteArray.data_extract,Array.toList_extract,List.extract_eq_take_drop,List.drop_eq_getElem_cons hl,List.getD_eq_getElem?_getD,List.getElem?_eq_getElem hl]
 simp
def cSplitR:Con:={args:=[taS,taU],ress:=[tSs],owns:=[],pre:=fun(s,c,_)=>[s.size≤1000000,0≤c,c<256],spec:=fun(s,c,_)=>(splitF s c,())}
abbrev annSplitR (s:ByteArray) (c:Int):Ann:={X:=List ByteArray×Int,σ:=fun p=>⟨1,[(0, .one (.str s)),(1, .one (.int .u8 c)),(5, .one (.sl 0)),(6, .one (.int .i64 p.2))],[(0, .own 9 .str p.1)]⟩,inv:=fun p=>p.1≠[]∧p.1.length≤p.2.toNat+1∧(∀a∈p.1,a.size≤p.2.toNat)∧0≤p.2∧p.2≤s.size∧glue p.1 (splB (UInt8.ofNat c.toNat) (s.data.toList.drop p.2.toNat))=splitF s c,mu:=fun p=>s.size-p.2.toNat}
def Z95 (a:Ls×Int):=Ln a.1-1
def Z769 (a:Ls×Int) (b:Bt) (c:Int):=(a.1=[]→False)∧List.length a.1≤Int.toNat a.2+1∧(∀(a_1:ByteArray),a_1∈a.1→ByteArray.size a_1≤Int.toNat a.2)∧0≤a.2∧a.2≤Nc (ByteArray.size b)∧glue a.1 (splB (UInt8.ofNat (Int.toNat c)) (List.drop (Int.toNat a.2) (Z10 b)))=splitF b c
def Z786 (a:Ls×Int) (b:Bt) (c:Int) (d:Ls×Int):=Z769 a b c∧ByteArray.size b-Int.toNat a.2<ByteArray.size b-Int.toNat d.2
theorem ok114 : Ok Tryz.prog 114 cSplitR := okW W140 Tryz.f114 (fun xx => ann0 (annSplitR xx.1 xx.2.1)) fun xx => by
  obtain⟨(s:ByteArray),(c:Int),_⟩:=xx
  refine(by kernel_rfl:(ByteArray.size s≤1000000→0≤c→c<256→∃(x:List ByteArray×Int),Sf s (Si c (0=x.2∧[B0]=x.1))∧Z769 x s c∧∀(x:List ByteArray×Int),Z769 x s c→Br (decide (x.2<Nc (ByteArray.size s))) (Bd x.2 (Nc (ByteArray.size s))∧Br (Nc (UInt8.toNat (Gt (Z10 s) x.2 0))==c) ((List.length x.1+1)*16≤140737488355328∧Iw (x.2+1)∧∃(y:List ByteArray×Int),Sf s (Si c (x.2+1=y.2∧x.1++[B0]=y.1))∧Z786 y s c x) (T2 (Iw (Z95 x)) (T2 (Bd (Z95 x) (Ln x.1)) (Iw (x.2+1)∧(0≤x.2∧x.2≤x.2+1∧x.2+1≤Nc (ByteArray.size s))∧Nc (ByteArray.size (Gt x.1 (Z95 x) B0)+ByteArray.size (ByteArray.extract s (Int.toNat x.2) (Int.toNat (x.2+1))))≤9223372036854775807∧Tw (Bd (Z95 x) (Ln x.1))))∧Iw (x.2+1)∧∃(y:List ByteArray×Int),Sf s (Si c (x.2+1=y.2∧List.set x.1 (Int.toNat (Z95 x)) (ByteArray.mk (Array.mk ((Gt x.1 (Z95 x) B0).data.toList++(ByteArray.extract s (Int.toNat x.2) (Int.toNat (x.2+1))).data.toList)))=y.1))∧Z786 y s c x)) (x.1=splitF s c))=_).mp ?_
  delta Z10 Z95 Z769 Z786 Br Iw Bd T2 Tw Sf Si Ln Nc Gt B0
  intro hs hc0 hc1
  have hl:s.data.toList.length=s.size:=by simp
  refine ⟨([bs []], 0), ⟨rfl, rfl, rfl, rfl⟩, ⟨by simp, by simp, fun a ha => by have : a = bs [] := by simpa using ha
                                                                                rw[this];exact Nat.le_refl _,Int.le_refl _,by omega, ?_⟩, ?_⟩
  · have := splB_ne (UInt8.ofNat c.toNat) s.data.toList
    unfold splitF
    cases h:splB (UInt8.ofNat c.toNat) s.data.toList with
    |nil=>exact absurd h this
    |cons x r=>simp only[Int.toNat_zero,List.drop_zero,h];simp[glue,bs]
  · rintro ⟨o, i⟩ ⟨ho, hlen, hsz, hi0, hi1, hg⟩
    dsimp only at ho hlen hsz hi0 hi1 hg⊢
    obtain⟨j,rfl⟩:=Int.eq_ofNat_of_zero_le hi0
    obtain⟨d,a,rfl⟩:∃d a,o=d++[a]:=by
      rcases List.eq_nil_or_concat o with h|⟨d,a,h⟩
      ·exact absurd h ho
      ·exact⟨d,a,by simpa using h⟩
    refine⟨fun hlt=> ?_,fun hlt=> ?_⟩
    · have hlt : j < s.size := by simpa using hlt
      have hd:s.data.toList.drop j=s.data.toList.getD j 0::s.data.toList.drop (j+1):=by
        rw[List.drop_eq_getElem_cons (by omega),List.getD_eq_getElem?_getD,List.getElem?_eq_getElem (by omega)];rfl
      simp only[Int.toNat_natCast] at hlen hsz hg⊢
      rw[hd] at hg
      have hex:=extract_one hlt
      generalize hx:s.data.toList.getD j 0=x at*
      have hlen2:d.length+1≤j+1:=by simpa using hlen
      have ha:a.size≤j:=hsz a (by simp)
      refine⟨by omega,fun hb=> ?_,fun hb=> ?_⟩
      · have hb : (x.toNat : Int) = c := by simpa using hb
        have hxc:x=UInt8.ofNat c.toNat:=by rw[←hb];simp
        rw[show splB (UInt8.ofNat c.toNat) (x::s.data.toList.drop (j+1))=[]::splB (UInt8.ofNat c.toNat) (s.data.toList.drop (j+1)) by rw[splB_cons,if_pos hxc]] at hg
        refine⟨by simp;omega,by omega,(d++[a]++[bs []],((j+1:Nat):Int)),⟨trivial,trivial,by simp,rfl⟩,⟨by simp,by simp;omega,fun b hb=> ?_,by dsimp only;omega,by dsimp only;omega, ?_⟩,by simp;omega⟩
        · simp only [Int.toNat_natCast]
          rcases List.mem_append.1 hb with hb|hb
          ·exact Nat.le_succ_of_le (hsz b hb)
          · have : b = bs [] := by simpa using hb
            rw[this];exact Nat.zero_le _
        · simp only [Int.toNat_natCast]
          rw[glue_new _ _ _ (splB_ne _ _)];exact hg
      · have hb : ¬ (x.toNat : Int) = c := by simpa using hb
        have hxc:¬x=UInt8.ofNat c.toNat:=by
          rintro rfl
          apply hb
          rw[UInt8.toNat_ofNat_of_lt' (by show c.toNat<256;omega)]
          omega
        obtain⟨h,t,ht⟩:∃h t,splB (UInt8.ofNat c.toNat) (s.data.toList.drop (j+1))=h::t:=by
          cases h0:splB (UInt8.ofNat c.toNat) (s.data.toList.drop (j+1)) with
          |nil=>exact absurd h0 (splB_ne _ _)
          |cons h t=>exact⟨h,t,rfl⟩
        rw[show splB (UInt8.ofNat c.toNat) (x::s.data.toList.drop (j+1))=(x::h)::t by rw[splB_cons,if_neg hxc,ht]] at hg
        have ej:((j:Int)+1).toNat=j+1:=by omega
        have el:((((d++[a]).length:Nat):Int)-1).toNat=d.length:=by simp
        have ep:(d++[a]).getD d.length (⟨⟨[]⟩⟩:ByteArray)=a:=by simp[List.getD_eq_getElem?_getD]
        have es:∀v,(d++[a]).set d.length v=d++[v]:=fun v=>by simp
        have ex:(s.extract j (j+1)).size=1:=by rw[ByteArray.size_extract];omega
        have elen:(d++[a]).length=d.length+1:=by simp
        rw[ej,el,ep,es,hex,ex]
        refine⟨⟨by omega,by omega,by omega,by omega,by omega,by omega,by omega,by omega,by omega⟩,by omega,(d++[bs (a.data.toList++[x])],((j+1:Nat):Int)),⟨trivial,trivial,by simp,rfl⟩,⟨by simp,by simp;omega,fun b hb=> ?_,by dsimp only;omega,by dsimp only;omega, ?_⟩,by simp;omega⟩
        · simp only [Int.toNat_natCast]
          rcases List.mem_append.1 hb with hb|hb
          ·exact Nat.le_succ_of_le (hsz b (by simp[hb]))
          · have : b = bs (a.data.toList ++ [x]) := by simpa using hb
            rw[this]
            have:a.data.toList.length=a.size:=by simp
            show(a.data.toList++[x]).toArray.size≤j+1
            simp;omega
        · simp only [Int.toNat_natCast]
          rw[ht,glue_more];exact hg
    · have hj : j = s.size := by have : ¬ ((j : Int) < s.size) := by simpa using hlt
                                 omega
      simp only[Int.toNat_natCast] at hg
      rw[List.drop_eq_nil_of_le (by omega)] at hg
      rw[←hg,splB,glue_end]
abbrev W141:=W140.add ok114
def textS (n:Int):ByteArray:=⟨(Lib.itoa n).toArray⟩
def cText (k:Nat):Con:={args:=[taI],ress:=[tStr],owns:=[],pre:=fun(n,_)=>[k≤18,-(10^k:Int)<n,n<10^(k+1)],spec:=fun(n,_)=>(textS n,())}
def Z535 (a:Int):=(Iw (48+a)∧0<1)∧ByteArray.mk (Array.mk [UInt8.ofNat (Int.toNat (IntKind.wrap IntKind.u8 (48+a)))])=textS a
def Z75 (a:Int):=0-Int.tmod a 10
def Z98:=(10:Int)=0→False
def Z345 (a:Nat):=(10:Int)^(a+(1:Nat))
def Z378 (a:Nat):= -10^a
def Z426 (a:Int) (b:Nat):=Int.tdiv a 10<Z345 b
def Z480 (a:Nat) (b:Int):=Z378 a<Int.tdiv b 10
theorem ts_mk {l:List UInt8} {n:Int} (h:l=Lib.itoa n):(⟨⟨l⟩⟩:ByteArray)=textS n:=by subst h;rfl
theorem ts_pos (u:Nat):(textS (u:Int)).data.toList=Lib.decDigits u:=by unfold textS;rw[Lib.itoa_nonneg]
theorem ts_neg (u:Nat) (h:1≤u):(textS (-(u:Int))).data.toList=45::Lib.decDigits u:=by unfold textS;rw[Lib.itoa_neg u h]
theorem ts_size (n:Int) (h0: -9223372036854775808≤n) (h1:n≤9223372036854775807):(textS n).size≤21:=by
 have:=Lib.itoa_length_le n h0 h1
 show(Lib.itoa n).toArray.size≤21
 simpa using this
theorem dec_big {u:Nat} (h:¬u<10):Lib.decDigits u=Lib.decDigits (u/10)++[UInt8.ofNat (48+u %10)]:=by rw[Lib.decDigits,dif_neg h]
theorem ts_one {x:Nat} (h:x<10):UInt8.ofNat (IntKind.u8.wrap (48+(x:Int))).toNat=UInt8.ofNat (48+x):=by
 rw[wrap8 (by omega) (by omega)]
 congr 1
theorem pos_small (n:Int) (h0:¬n<0) (h1:n<10):(⟨⟨[UInt8.ofNat (IntKind.u8.wrap (48+n)).toNat]⟩⟩:ByteArray)=textS n:=by
 obtain⟨u,rfl⟩:=Int.eq_ofNat_of_zero_le (by omega:0≤n)
 refine ts_mk ?_
 have e:Lib.itoa (u:Int)=Lib.decDigits u:=Lib.itoa_nonneg u
 have hu:u<10:=by omega
 rw[e,Lib.decDigits_one hu]
 exact congrArg (·::[]) (ts_one hu)
theorem wp1540 (n:Int):wpF Tryz.prog W141.g (na ()) Tryz.f194 (cText 0) (n,()):=by
 refine(by kernel_rfl:(0≤18→-10^0<n→n<10^1→Br (decide (n<0)) (Br (decide ((-10)<n)) (STUCK 3 2) (STUCK 4 2)) (Br (decide (n<10)) (Z535 n) (STUCK 7 2)))=_).mp ?_
 delta Z535 Br Iw
 intro _ h0 h1
 have e0:(10:Int)^0=1:=rfl
 have e1:(10:Int)^1=10:=rfl
 rw[e0] at h0
 rw[e1] at h1
 refine⟨fun h=>absurd (of_decide_eq_true h) (by omega),fun h=>⟨fun h2=>⟨⟨by omega,by decide⟩,pos_small n (of_decide_eq_false h) (of_decide_eq_true h2)⟩,fun h2=>absurd (of_decide_eq_false h2) (by omega)⟩⟩
theorem wp1541 (k:Nat) (n:Int):wpF Tryz.prog ((194,cText k)::W141.g) (na ()) Tryz.f194 (cText (k+1)) (n,()):=by
 refine(by kernel_rfl:(k+1≤18→-Z345 k<n→n<10^(k+1+1)→Br (decide (n<0)) (Br (decide ((-10)<n)) ((Iw (0-n)∧k≤18∧Z378 k<0-n∧0-n<Z345 k∧Nc (1+ByteArray.size (textS (0-n)))≤9223372036854775807)∧ByteArray.mk (Array.mk (45::([]++(textS (0-n)).data.toList)))=textS n) ((Z98∧Iw (Int.tdiv n 10)∧k≤18∧Z480 k n∧Z426 n k∧Z98∧Iw (Z75 n)∧k≤18∧Z378 k<Z75 n∧Z75 n<Z345 k∧Nc (ByteArray.size (textS (Int.tdiv n 10))+ByteArray.size (textS (Z75 n)))≤9223372036854775807)∧ByteArray.mk (Array.mk ((textS (Int.tdiv n 10)).data.toList++(textS (Z75 n)).data.toList))=textS n)) (Br (decide (n<10)) (Z535 n) ((Z98∧Iw (Int.tdiv n 10)∧k≤18∧Z480 k n∧Z426 n k∧Z98∧Iw (48+Int.tmod n 10)∧0<1∧Nc (ByteArray.size (textS (Int.tdiv n 10))+1)≤9223372036854775807)∧ByteArray.mk (Array.mk ((textS (Int.tdiv n 10)).data.toList++[UInt8.ofNat (Int.toNat (IntKind.wrap IntKind.u8 (48+Int.tmod n 10)))]))=textS n)))=_).mp ?_
 delta Z75 Z98 Z345 Z378 Z426 Z480 Z535 Br Iw Nc
 intro hk h0 h1
 have hp0:(0:Int)<10^k:=Int.pow_pos (by decide)
 have hp1:(1:Int)≤10^k:=by omega
 have hp2:(10:Int)^k≤100000000000000000:=by
  have h:=Nat.pow_le_pow_right (n:=10) (by decide) (show k≤17 by omega)
  have h2:((10^k:Nat):Int)≤((10^17:Nat):Int):=Int.ofNat_le.2 h
  have h3:((10^17:Nat):Int)=100000000000000000:=by decide
  have e:((10:Int)^k)=((10^k:Nat):Int):=by simp
  omega
 have e1:(10:Int)^(k+1)=10^k*10:=Int.pow_succ ..
 have e2:(10:Int)^(k+1+1)=10^k*10*10:=by rw[Int.pow_succ,e1]
 rw[e1] at h0
 rw[e2] at h1
 rw[e1]
 generalize(10:Int)^k=p at*
 refine⟨fun h=>⟨fun h2=> ?_,fun h2=> ?_⟩,fun h=>⟨fun h2=>⟨⟨by have:=of_decide_eq_true h2;have:=of_decide_eq_false h;omega,by decide⟩,pos_small n (of_decide_eq_false h) (of_decide_eq_true h2)⟩,fun h2=> ?_⟩⟩
 ·have h:=of_decide_eq_true h
  have h2:=of_decide_eq_true h2
  obtain⟨u,hu⟩:=Int.eq_ofNat_of_zero_le (by omega:0≤0-n)
  have hn:n= -(u:Int):=by omega
  have hs:=ts_size (0-n) (by omega) (by omega)
  refine⟨⟨by omega,by omega,by omega,by omega,by omega⟩,ts_mk ?_⟩
  rw[hu,ts_pos,hn,Lib.itoa_neg u (by omega)];rfl
 ·have h:=of_decide_eq_true h
  have h2:=of_decide_eq_false h2
  obtain⟨u,hu⟩:=Int.eq_ofNat_of_zero_le (by omega:0≤0-n)
  have hn:n= -(u:Int):=by omega
  have ed:n.tdiv 10= -((u/10:Nat):Int):=by rw[hn,Int.neg_tdiv];rfl
  have em:n.tmod 10= -((u %10:Nat):Int):=by rw[hn,Int.neg_tmod];rfl
  have em2:0-n.tmod 10=((u %10:Nat):Int):=by rw[em];omega
  rw[em2,ed]
  have hs1:=ts_size (-((u/10:Nat):Int)) (by omega) (by omega)
  have hs2:=ts_size ((u %10:Nat):Int) (by omega) (by omega)
  refine⟨⟨by omega,by omega,by omega,by omega,by omega,by omega,by omega,by omega,by omega,by omega,by omega⟩,ts_mk ?_⟩
  rw[ts_neg _ (by omega),ts_pos,hn,Lib.itoa_neg u (by omega),dec_big (u:=u) (by omega),Lib.decDigits_one (i:=u %10) (by omega)];rfl
 ·have h:=of_decide_eq_false h
  have h2:=of_decide_eq_false h2
  obtain⟨u,hu⟩:=Int.eq_ofNat_of_zero_le (by omega:0≤n)
  subst hu
  have ed:(u:Int).tdiv 10=((u/10:Nat):Int):=rfl
  have em:(u:Int).tmod 10=((u %10:Nat):Int):=rfl
  rw[em,ed]
  have hs1:=ts_size ((u/10:Nat):Int) (by omega) (by omega)
  refine⟨⟨by omega,by omega,by omega,by omega,by omega,by omega,by omega,by decide,by omega⟩,ts_mk ?_⟩
  rw[ts_pos,Lib.itoa_nonneg,dec_big (u:=u) (by omega),ts_one (by omega)]
theorem okText:∀k,Ok Tryz.prog 194 (cText k)
 |0=>ok_of_wp mixed W141.ok (by kernel_rfl) (by kernel_rfl) na fun xx=>wp1540 xx.1
 |k+1=>ok_of_wp mixed (.cons (okText k) W141.ok) (by kernel_rfl) rfl na fun xx=>wp1541 k xx.1
theorem ok194:Ok Tryz.prog 194 (cText 17):=okText 17
abbrev W142:=W141.add ok194
def allDig:List UInt8→Bool
 |[]=>true
 |b::r=>isDig (b.toNat:Int)&&allDig r
def decB (s:ByteArray):Bool:=allDig s.data.toList&&decide (0<s.size)
def cDec:Con:={args:=[aS],ress:=[Bo],owns:=[],pre:=fun(s,_)=>[s.size≤1000000],spec:=fun(s,_)=>(decB s,())}
abbrev annDec (s:ByteArray):Ann:={X:=Nat,σ:=fun k=>⟨1,[(0, .one (.str s)),(6, .one (.sl 0))],[(0, .siter s k)]⟩,inv:=fun k=>k≤s.size∧allDig s.data.toList=allDig (s.data.toList.drop k),mu:=fun k=>s.size-k}
theorem isDig_high {c:Int} (h:128≤c):isDig c=false:=by
 unfold isDig
 rw[decide_eq_false (show ¬c≤57 by omega),Bool.and_false]
def Z396 (a:Nat) (b:Bt):=a≤ByteArray.size b∧allDig (Z10 b)=allDig (List.drop a (Z10 b))
def Z551 (a:Nat) (b:Bt) (c:Nat):=Z396 a b∧ByteArray.size b-a<ByteArray.size b-c
theorem ok186:Ok Tryz.prog 186 cDec:=okWG W142 Tryz.f186 (lib_ok (l:=([]:List (Nat×Func))) (by simp)) (fun xx=>ann0 (annDec xx.1)) (fun xx=>fun _=>na ()) fun xx=>by
 obtain⟨(s:ByteArray),_⟩:=xx
 refine(by kernel_rfl:(ByteArray.size s≤1000000→∃(x:Nat),Sf s (Sf s (0=x))∧Z396 x s∧∀(x:Nat),Z396 x s→(x<ByteArray.size s→Br true (Br (Z329 s x) (Sf true (false=decB s)) (∃(y:Nat),Sf s (Sf s (x+runeW s x=y))∧Z551 y s x)) (Sf true ((!Lb s B0)=decB s)))∧((x<ByteArray.size s→False)→Br false False (Sf true ((!Lb s B0)=decB s))))=_).mp ?_
 delta Z10 Z329 Z396 Z551 Br Sf B0 Lb
 intro hb
 refine⟨(0:Nat),⟨rfl,rfl,rfl⟩,⟨Nat.zero_le _,by simp⟩,fun(k:Nat) hk=>⟨fun h=>⟨fun _=>⟨fun h1=>⟨rfl, ?_⟩,fun h1=> ?_⟩,fun h=>(by cases h)⟩,fun h=> ?_⟩⟩
 ·rw[isDig_not] at h1
  have h2:isDig (runeAt s k)=false:=by simpa using h1
  unfold decB
  have h3:allDig s.data.toList=false:=by
   rw[hk.2,bytes_drop h,allDig]
   by_cases ha:(s[k]'h).toNat<128
   ·rw[←(rune_low h ha).1,h2];rfl
   ·rw[isDig_high (by omega)];rfl
  rw[h3];rfl
 ·rw[isDig_not] at h1
  have h2:isDig (runeAt s k)=true:=by simpa using h1
  by_cases ha:(s[k]'h).toNat<128
  ·obtain⟨r1,r2⟩:=rune_low h ha
   refine⟨(k+1:Nat),⟨rfl,rfl,by rw[r2]⟩,⟨by omega, ?_⟩,by omega⟩
   rw[hk.2,bytes_drop h,allDig,←r1,h2]
   rfl
  ·have:=rune_high h (by omega)
   rw[isDig_high this] at h2
   cases h2
 ·have e:k=s.size:=Nat.le_antisymm hk.1 (Nat.le_of_not_lt h)
  refine⟨fun h=>(by cases h),fun _=>⟨rfl, ?_⟩⟩
  rw[e,List.drop_eq_nil_of_le (by simp)] at hk
  unfold decB
  rw[hk.2,ne_empty]
  rfl
abbrev W143:=W142.add ok186
def dig7 (s:ByteArray):Bool:=allDig s.data.toList&&decide (s.size=7)
def cDig7:Con:={args:=[aS],ress:=[Bo],owns:=[],pre:=fun(s,_)=>[s.size≤1000000],spec:=fun(s,_)=>(dig7 s,())}
abbrev annDig7 (s:ByteArray):Ann:={X:=Nat,σ:=fun k=>⟨0,[(0, .one (.str s)),(3, .one (.int .i64 k))],[]⟩,inv:=fun k=>k≤s.size∧allDig s.data.toList=allDig (s.data.toList.drop k),mu:=fun k=>s.size-k}
def Z313 (a:Bt) (b:Nat):=decide (Z231 a b<48)
theorem ok188:Ok Tryz.prog 188 cDig7:=okW W143 Tryz.f188 (fun xx=>ann0 (annDig7 xx.1)) fun xx=>by
 obtain⟨(s:ByteArray),_⟩:=xx
 refine(by kernel_rfl:(ByteArray.size s≤1000000→∃(x:Nat),Sf s (0=Nc x)∧Z396 x s∧∀(x:Nat),Z396 x s→Br (decide (Nc x<Nc (ByteArray.size s))) ((Bd (Nc x) (Nc (ByteArray.size s))∧(Z313 s x=false→Bd (Nc x) (Nc (ByteArray.size s))))∧Br (bif Z313 s x then true else decide (57<Z231 s x)) (false=dig7 s) (Z16 x∧∃(y:Nat),Sf s (Z94 x y)∧Z551 y s x)) ((Nc (ByteArray.size s)==7)=dig7 s))=_).mp ?_
 delta Z10 Z16 Z94 Z231 Z313 Z396 Z551 Br Iw Bd Sf Nc
 intro hb
 simp only[isDig_not]
 refine⟨(0:Nat),by simp,⟨Nat.zero_le _,by simp⟩,fun(k:Nat) hk=>⟨fun h=> ?_,fun h=> ?_⟩⟩
 ·have hlt:k<s.size:=by simpa using h
  obtain⟨k1,k2⟩:=hk
  rw[bytes_get hlt,allDig] at k2
  refine⟨⟨by omega,fun _=>by omega⟩,fun h1=> ?_,fun h1=>⟨by omega,(k+1:Nat),by(repeat' first|exact rfl|exact trivial|apply And.intro|exact(Int.add_zero _).symm|exact Int.add_assoc _ _ _|omega|(dsimp only;push_cast;omega)),⟨by omega, ?_⟩,by omega⟩⟩
  ·have h1:isDig ((s.data.toList.getD k 0).toNat:Int)=false:=by simpa using h1
   unfold dig7
   rw[k2,h1];rfl
  ·have h1:isDig ((s.data.toList.getD k 0).toNat:Int)=true:=by simpa using h1
   rw[k2,h1];rfl
 ·have hlt:¬k<s.size:=by simpa using h
  obtain⟨k1,k2⟩:=hk
  have e:k=s.size:=by omega
  rw[e,List.drop_eq_nil_of_le (by simp)] at k2
  unfold dig7
  rw[k2]
  show((s.size:Int)==7)=decide (s.size=7)
  rw[Bool.eq_iff_iff];simp;omega
abbrev W144:=W143.add ok188
theorem bs_data (a:ByteArray):bs a.data.toList=a:=rfl
theorem splitK_splB (c:UInt8):∀l:List UInt8,Lib.splitK [c] 0 (l.count c) l=splB c l
 |[]=>rfl
 | x :: r => by
  have ih:=splitK_splB c r
  by_cases h:x=c
  ·subst h
   rw[splB_cons,if_pos rfl,List.count_cons_self]
   have e:Lib.index (x::r) [x]=0:=by simp[Lib.index,List.isPrefixOf]
   rw[Lib.splitK,e,←ih]
   rfl
  ·rw[splB_cons,if_neg h,List.count_cons_of_ne h,←ih]
   have hp:[c].isPrefixOf (x::r)=false:=by
    have:¬c=x:=fun e=>h e.symm
    simp[List.isPrefixOf,this]
   cases hk:r.count c with
   |zero=>rfl
   | succ k =>
    have hi:Lib.index (x::r) [c]=if Lib.index r [c]== -1 then -1 else Lib.index r [c]+1:=by rw[Lib.index,hp];rfl
    by_cases h1:Lib.index r [c]= -1
    ·have e2:Lib.index (x::r) [c]= -1:=by rw[hi,h1];rfl
     simp only[Lib.splitK,e2,h1]
     rfl
    ·have hg:=Lib.index_ge r [c]
     have e2:Lib.index (x::r) [c]=Lib.index r [c]+1:=by rw[hi,if_neg (by simpa using h1)]
     obtain⟨i,hi⟩:=Int.eq_ofNat_of_zero_le (by omega:0≤Lib.index r [c])
     rw[hi] at e2
     have n1:¬((i:Int)== -1)=true:=by simp
     have n2:¬(((i:Int)+1)== -1)=true:=by simp;omega
     simp only[Lib.splitK,e2,hi]
     rw[if_neg n1,if_neg n2]
     have t1:((i:Int)+1).toNat=i+1:=by omega
     have t2:((i:Int)).toNat=i:=by omega
     simp only[t1,t2,Nat.add_zero,List.take_succ_cons,List.length_cons,List.length_nil]
     rfl
theorem words_split (s:ByteArray) (c:UInt8):wordsS s ⟨#[c]⟩=(splB c s.data.toList).map bs:=by
 have h:=Lib.splitB_data ⟨#[c]⟩ 0 (Lib.countB s ⟨#[c]⟩) s
 have hc:Lib.countB s ⟨#[c]⟩=s.data.toList.count c:=Lib.count_one c s.data.toList
 rw[hc] at h
 have h2:(wordsS s ⟨#[c]⟩).map (·.data.toList)=splB c s.data.toList:=by
  rw[←splitK_splB]
  unfold wordsS
  rw[hc];exact h
 rw[←h2,List.map_map]
 exact(List.map_id' _).symm
theorem splB_len (c:UInt8):∀(l w:List UInt8),w∈splB c l→w.length≤l.length
 |[],w,h=>by
  have:w=[]:=by simpa[splB] using h
  rw[this];exact Nat.le_refl _
 | x :: r, w, h => by
  rw[splB_cons] at h
  split at h
  ·rcases List.mem_cons.1 h with h|h
   ·rw[h];exact Nat.zero_le _
   ·exact Nat.le_succ_of_le (splB_len c r w h)
  ·split at h
   ·rename_i e;exact absurd e (splB_ne c r)
   ·rename_i hh t e
    rcases List.mem_cons.1 h with h|h
    ·rw[h]
     exact Nat.succ_le_succ (splB_len c r hh (by rw[e];simp))
    ·exact Nat.le_succ_of_le (splB_len c r w (by rw[e];simp[h]))
theorem bs_size (l:List UInt8):(bs l).size=l.length:=by show l.toArray.size=_;simp
theorem ext_take (r:ByteArray) (i:Nat):r.extract 0 i=bs (r.data.toList.take i):=by
 rw[←bs_data (r.extract 0 i),Lib.extract_data];simp
theorem ext_drop (r:ByteArray) (i:Nat):r.extract i r.size=bs (r.data.toList.drop i):=by
 rw[←bs_data (r.extract i r.size),Lib.extract_data,List.take_of_length_le (by simp)]
theorem szl (X:List UInt8):(⟨⟨X⟩⟩:ByteArray).size=X.length:=rfl
theorem splB_cnt (c:UInt8):∀l:List UInt8,(splB c l).length≤l.length+1
 |[]=>Nat.le_refl _
 | x :: r => by
  have ih:=splB_cnt c r
  rw[splB_cons]
  split
  ·simp;omega
  ·split
   ·simp
   ·rename_i e;rw[e] at ih;simp at ih⊢;omega
theorem digFrom_snoc (c:UInt8):∀(l:List UInt8) (n:Int),digFrom (l++[c]) n=if(digFrom l n).2=true∧isDig c.toNat=true then(10*(digFrom l n).1+(c.toNat-48),true) else(0,false)
 |[],n=>by
  show(if isDig c.toNat=true then _ else _)=_
  by_cases h:isDig c.toNat=true
  ·rw[if_pos h,if_pos ⟨rfl,h⟩];rfl
  ·rw[if_neg h,if_neg (fun q=>h q.2)]
 |x::l,n=>by
  have ih:=digFrom_snoc c l (10*n+(x.toNat-48))
  show(if isDig x.toNat=true then digFrom (l++[c]) (10*n+(x.toNat-48)) else(0,false))=_
  have e:digFrom (x::l) n=if isDig x.toNat=true then digFrom l (10*n+(x.toNat-48)) else(0,false):=rfl
  rw[e]
  by_cases h:isDig x.toNat=true
  ·rw[if_pos h,if_pos h,ih]
  ·rw[if_neg h,if_neg h,if_neg (fun q=>by cases q.1)]
theorem dec_snoc (u:Nat):10≤u→Lib.decDigits u=Lib.decDigits (u/10)++[UInt8.ofNat (48+u %10)]:=fun h=>dec_big (by omega)
theorem dig_ofNat {x:Nat} (h:x<10):(UInt8.ofNat (48+x)).toNat=48+x:=UInt8.toNat_ofNat_of_lt' (by show 48+x<256;omega)
theorem isDig_ofNat {x:Nat} (h:x<10):isDig (UInt8.ofNat (48+x)).toNat=true:=by
 rw[dig_ofNat h];unfold isDig;simp;omega
theorem digFrom_dec (u:Nat):digFrom (Lib.decDigits u) 0=((u:Int),true):=by
 induction u using Nat.strongRecOn with
 | ind u ih =>
  by_cases h:u<10
  ·rw[Lib.decDigits_one h]
   show(if isDig (UInt8.ofNat (48+u)).toNat=true then _ else _)=_
   rw[if_pos (isDig_ofNat h),dig_ofNat h]
   show((_:Int),true)=_
   congr 1;omega
  ·have hd:u %10<10:=Nat.mod_lt _ (by decide)
   rw[dec_snoc u (by omega),digFrom_snoc,ih (u/10) (by omega),if_pos ⟨rfl,isDig_ofNat hd⟩,dig_ofNat hd]
   congr 1;dsimp only;omega
theorem dec_head (u:Nat):∃c r,Lib.decDigits u=c::r∧isDig c.toNat=true∧(1≤u→c.toNat≠48):=by
 induction u using Nat.strongRecOn with
 | ind u ih =>
  by_cases h:u<10
  ·refine⟨_,_,Lib.decDigits_one h,isDig_ofNat h,fun h1=> ?_⟩
   rw[dig_ofNat h];omega
  ·obtain⟨c,r,e,h1,h2⟩:=ih (u/10) (by omega)
   exact⟨c,r++[UInt8.ofNat (48+u %10)],by rw[dec_snoc u (by omega),e];rfl,h1,fun _=>h2 (by omega)⟩
theorem dec_len_pos (u:Nat):1≤(Lib.decDigits u).length:=by
 obtain⟨c,r,e,_⟩:=dec_head u
 rw[e];simp
theorem dec_len:∀(k u:Nat),((Lib.decDigits u).length≤k+1↔u<10^(k+1))
 | 0, u => by
  by_cases h:u<10
  ·rw[Lib.decDigits_one h];simp;omega
  ·have h2:=dec_len_pos (u/10)
   rw[dec_snoc u (by omega),List.length_append]
   simp only[List.length_cons,List.length_nil]
   constructor
   ·intro q;omega
   ·intro q;simp at q;omega
 | k + 1, u => by
  by_cases h:u<10
  ·rw[Lib.decDigits_one h]
   have:10≤10^(k+1+1):=by
    rw[Nat.pow_succ]
    have:=Nat.pos_of_ne_zero (n:=10^(k+1)) (by simp)
    omega
   simp;omega
  ·have ih:=dec_len k (u/10)
   rw[dec_snoc u (by omega),List.length_append]
   simp only[List.length_cons,List.length_nil]
   rw[Nat.pow_succ]
   constructor
   ·intro q
    have:=ih.1 (by omega)
    omega
   ·intro q
    have:=ih.2 (by omega)
    omega
theorem canon:∀(k:Nat) (l:List UInt8),l.length=k+1→(digFrom l 0).2=true→(1<l.length→∀c,l.head? =some c→c.toNat≠48)→l=Lib.decDigits (digFrom l 0).1.toNat
 | 0, l, hl, hd, _ => by
  match l,hl with
  | [c], _ =>
   have e:digFrom [c] 0=if isDig c.toNat=true then((10*0+(c.toNat-48):Int),true) else(0,false):=rfl
   by_cases h:isDig c.toNat=true
   ·rw[e,if_pos h]
    have hr:=dig_rng h
    have:((10*0+((c.toNat:Int)-48))).toNat=c.toNat-48:=by omega
    dsimp only
    rw[this,Lib.decDigits_one (by omega),show 48+(c.toNat-48)=c.toNat by omega,UInt8.ofNat_toNat]
   ·rw[e,if_neg h] at hd;cases hd
 | k + 1, l, hl, hd, h0 => by
  obtain⟨i,c,rfl⟩:∃i c,l=i++[c]:=by
   rcases List.eq_nil_or_concat l with h|⟨i,c,h⟩
   ·rw[h] at hl;simp at hl
   ·exact⟨i,c,by simpa using h⟩
  have hil:i.length=k+1:=by simpa using hl
  have hs:=digFrom_snoc c i 0
  by_cases hc:(digFrom i 0).2=true∧isDig c.toNat=true
  ·rw[if_pos hc] at hs
   have hh:∀d,i.head? =some d→d.toNat≠48:=fun d hd=>h0 (by simp;omega) d (by
    cases i with
    |nil=>cases hd
    |cons a b=>exact hd)
   have ih:=canon k i hil hc.1 fun _=>hh
   have hr:=dig_rng hc.2
   have hn:=(digFrom_rng (l:=i) (n:=0) (Int.le_refl _)).1
   obtain⟨m,hm⟩:=Int.eq_ofNat_of_zero_le hn
   rw[hm] at ih hs
   simp only[Int.toNat_natCast] at ih
   have hm1:1≤m:=by
    rcases Nat.eq_zero_or_pos m with h|h
    ·subst h
     rw[ih,Lib.decDigits_one (by decide)] at hh
     exact absurd rfl (hh 48 rfl)
    ·exact h
   rw[hs]
   have e:(10*(m:Int)+((c.toNat:Int)-48)).toNat=10*m+(c.toNat-48):=by omega
   dsimp only
   rw[e,dec_snoc _ (by omega),show(10*m+(c.toNat-48))/10=m by omega,show 48+(10*m+(c.toNat-48)) %10=c.toNat by omega,UInt8.ofNat_toNat,←ih]
  ·rw[hs,if_neg hc] at hd;cases hd
theorem parse_step {c:UInt8} {r:List UInt8} {n:Nat} (h:48≤c.toNat∧c.toNat≤57) (h1:¬1844674407370955162≤n) (h2:¬18446744073709551616≤n*10+(c.toNat-48)):Lib.parseUint10 n (c::r)=Lib.parseUint10 (n*10+(c.toNat-48)) r:=by
 simp only[Lib.parseUint10]
 rw[if_pos h,if_neg h1,if_neg h2]
theorem digFrom_cons (c:UInt8) (r:List UInt8) (n:Int):digFrom (c::r) n=if isDig c.toNat=true then digFrom r (10*n+(c.toNat-48)) else(0,false):=rfl
theorem parse_dig (l:List UInt8):∀(n:Nat),(digFrom l n).2=true→(digFrom l n).1<1000000000000000000→Lib.parseUint10 n l= .ok (digFrom l n).1.toNat∧(n:Int)≤(digFrom l n).1:=by
 induction l with
 |nil=>exact fun n _ _=>⟨rfl,Int.le_refl _⟩
 | cons c r ih =>
  intro n h1 h2
  by_cases h:isDig c.toNat=true
  ·rw[digFrom_cons,if_pos h] at h1 h2⊢
   have hr:=dig_rng h
   have en:(10*(n:Int)+((c.toNat:Int)-48))=((n*10+(c.toNat-48):Nat):Int):=by omega
   rw[en] at h1 h2⊢
   obtain⟨a1,a2⟩:=ih _ h1 h2
   have h3:n<1000000000000000000:=by omega
   refine⟨?_,by omega⟩
   rw[parse_step hr (by omega) (by omega)]
   exact a1
  ·rw[digFrom_cons,if_neg h] at h1;cases h1
theorem mag_dec {u:Nat} (h:u<1000000000):Lib.parseMag (Lib.decDigits u)= .ok u:=by
 obtain⟨c,r,e,_⟩:=dec_head u
 unfold Lib.parseMag
 rw[if_neg (by rw[e];simp)]
 have hd:=digFrom_dec u
 have:=(parse_dig (Lib.decDigits u) 0 (by show(digFrom _ 0).2=true;rw[hd]) (by show(digFrom _ 0).1<_;rw[hd];dsimp only;omega)).1
 rw[this]
 show Lib.NumEnd.ok (digFrom _ 0).1.toNat=_
 rw[hd];rfl
theorem atoi_itoa {v:Int} (h0: -1000000000<v) (h1:v<1000000000):Lib.atoiAll (Lib.itoa v)= .ok v:=by
 rcases(by omega:v<0∨0≤v) with hv|hv
 ·obtain⟨u,hu⟩:=Int.eq_ofNat_of_zero_le (by omega:0≤-v)
  have hn:v= -(u:Int):=by omega
  subst hn
  rw[Lib.itoa_neg u (by omega)]
  have hm:=mag_dec (u:=u) (by omega)
  have e45:(45:UInt8).toNat=45:=rfl
  simp only[Lib.atoiAll,e45]
  rw[if_pos (Or.inr trivial),hm]
  dsimp only
  rw[if_neg (by omega),if_neg (by omega),if_pos trivial]
 ·obtain⟨u,rfl⟩:=Int.eq_ofNat_of_zero_le hv
  have e:Lib.itoa (u:Int)=Lib.decDigits u:=Lib.itoa_nonneg u
  rw[e]
  have hm:=mag_dec (u:=u) (by omega)
  obtain⟨c,r,e,h3,h4⟩:=dec_head u
  have hr:=dig_rng h3
  rw[e] at hm⊢
  simp only[Lib.atoiAll]
  rw[if_neg (by omega),hm]
  dsimp only
  rw[if_neg (by omega),if_neg (by omega),if_neg (by omega)]
theorem digits_inv {s:ByteArray} (h:(digitsF s).2=true):∃u:Nat,u<1000000000∧s.data.toList=Lib.decDigits u∧(digitsF s).1=u:=by
 have hr:=digitsF_rng s
 obtain⟨u,hu⟩:=Int.eq_ofNat_of_zero_le hr.1
 by_cases hb:digBad s=true
 ·unfold digitsF at h;rw[if_pos hb] at h;cases h
 ·have ed:digitsF s=digFrom s.data.toList 0:=by unfold digitsF;rw[if_neg hb]
  have hb:digBad s=false:=by simpa using hb
  unfold digBad at hb
  simp only[Bool.or_eq_false_iff,decide_eq_false_iff_not,Bool.and_eq_false_iff] at hb
  obtain⟨⟨b1,b2⟩,b3⟩:=hb
  have hl:s.data.toList.length=s.size:=by simp
  have:=canon (s.size-1) s.data.toList (by omega) (by rw[←ed];exact h) (fun hl2 c hc=>by
   rcases b3 with b3|b3
   ·omega
   ·intro q
    apply b3
    have:byteAt s 0=c.toNat:=by
     unfold byteAt
     rw[List.getD_eq_getElem?_getD]
     have e0:s.data.toList[(0:Int).toNat]? =some c:=by rw[←hc];simp[List.head?_eq_getElem?]
     rw[e0];rfl
    rw[this,q];rfl)
  rw[←ed,hu] at this
  exact⟨u,by omega,this,hu⟩
theorem allDig_from:∀{l:List UInt8} {n:Int},allDig l=true→(digFrom l n).2=true
 |[],_,_=>rfl
 |c::r,n,h=>by
  rw[allDig,Bool.and_eq_true] at h
  rw[digFrom,if_pos h.1]
  exact allDig_from h.2
theorem from_allDig:∀{l:List UInt8} {n:Int},(digFrom l n).2=true→allDig l=true
 |[],_,_=>rfl
 | c :: r, n, h => by
  rw[digFrom] at h
  by_cases q:isDig c.toNat=true
  ·rw[if_pos q] at h
   rw[allDig,q,from_allDig h];rfl
  ·rw[if_neg q] at h;cases h
theorem digFrom_bad:∀{l:List UInt8} {n:Int},(digFrom l n).2=false→digFrom l n=(0,false)
 |[],_,h=>by cases h
 |c::r,n,h=>by
  rw[digFrom] at h⊢
  by_cases q:isDig c.toNat=true
  ·rw[if_pos q] at h⊢;exact digFrom_bad h
  ·rw[if_neg q]
theorem int_guard (s:ByteArray):(bif bif !decB s then true else decide (9<(s.size:Int)) then true else bif decide (1<(s.size:Int)) then(((s.data.toList.getD 0 0).toNat:Int)==48) else false)= !(digitsF s).2:=by
 have hb:=bad_guard s
 have hl:s.data.toList.length=s.size:=by simp
 unfold decB
 cases ha:allDig s.data.toList with
 | false =>
  have e:(digitsF s).2=false:=by
   unfold digitsF
   split
   ·rfl
   ·cases h:(digFrom s.data.toList 0).2 with
    |false=>rfl
    |true=>rw[from_allDig h] at ha;cases ha
  rw[e];rfl
 | true =>
  have e:(digitsF s).2= !digBad s:=by
   unfold digitsF
   cases hd:digBad s with
   |true=>rfl
   |false=>exact allDig_from ha
  rw[e,←hb]
  have e1:decide (0<s.size)= !((s.size:Int)==0):=by
   by_cases q:s.size=0
   ·rw[q];rfl
   ·rw[decide_eq_true (by omega),beq_eq_false_iff_ne.2 (by omega)];rfl
  rw[e1]
  cases((s.size:Int)==0)<;>simp
theorem ato_digits {s:ByteArray} (h:(digitsF s).2=true):atoN s=(digitsF s).1:=by
 obtain⟨u,h1,h2,h3⟩:=digits_inv h
 have e:Lib.itoa (u:Int)=Lib.decDigits u:=Lib.itoa_nonneg u
 have:=atoi_itoa (v:=(u:Int)) (by omega) (by omega)
 unfold atoN
 rw[h2,←e,this,h3]
def Z261 (a:Bt):=bif !decB a then true else decide (9<Nc (ByteArray.size a))
theorem ok187:Ok Tryz.prog 187 cDigits:=okW W144 Tryz.f187 na fun xx=>by
 obtain⟨(s:ByteArray),_⟩:=xx
 refine(by kernel_rfl:(ByteArray.size s≤1000000→(ByteArray.size s≤1000000∧(Z261 s=false∧decide (1<Nc (ByteArray.size s))=true→Bd 0 (Nc (ByteArray.size s))))∧Br (bif Z261 s then true else Z539 s) (Z200 s) (ByteArray.size s≤1000000∧atoN s=(digitsF s).1∧true=(digitsF s).2))=_).mp ?_
 delta Z10 Z200 Z261 Z268 Z539 Br Bd Nc
 intro hs
 rw[int_guard]
 refine⟨⟨hs,fun h=>⟨Int.le_refl _,by have:=of_decide_eq_true h.2;omega⟩⟩,fun h=> ?_,fun h=> ?_⟩
 ·have h:(digitsF s).2=false:=by simpa using h
  have e:digitsF s=(0,false):=by
   unfold digitsF at h⊢
   split
   ·rfl
   ·rename_i q
    rw[if_neg q] at h
    exact digFrom_bad h
  rw[e];exact⟨rfl,rfl⟩
 ·have h:(digitsF s).2=true:=by simpa using h
  exact⟨hs,ato_digits h,h.symm⟩
abbrev W145:=W144.add ok187
def sumL:List UInt8→Int→Int
 |[],x=>x
 |b::r,x=>sumL r ((341*x+(b.toNat:Int)).tmod 9999721)
def sumN (s:ByteArray):Int:=sumL s.data.toList 1
def padL (l:List UInt8):List UInt8:=List.replicate (7-l.length) 48++l
def sumS (s:ByteArray):ByteArray:=bs (padL (Lib.itoa (sumN s)))
theorem sumL_bd:∀{l:List UInt8} {x:Int},0≤x∧x<9999721→0≤sumL l x∧sumL l x<9999721
 |[],_,h=>h
 |b::r,x,h=>by
  unfold sumL
  have hb:(0:Int)≤b.toNat:=by omega
  exact sumL_bd ⟨Int.tmod_nonneg _ (by omega),Int.tmod_lt_of_pos _ (by decide)⟩
theorem sumN_bd (s:ByteArray):0≤sumN s∧sumN s<9999721:=sumL_bd ⟨by decide,by decide⟩
theorem sumN_len (s:ByteArray):1≤(Lib.itoa (sumN s)).length∧(Lib.itoa (sumN s)).length≤7:=by
  obtain⟨h0,h1⟩:=sumN_bd s
  obtain⟨u,hu⟩:=Int.eq_ofNat_of_zero_le h0
  rw[hu] at h1⊢
  rw[show Lib.itoa (u:Int)=Lib.decDigits u from Lib.itoa_nonneg u]
  exact ⟨dec_len_pos u, (dec_len 6 u).2 (by have : u < 9999721 := by omega
                                            omega)⟩
theorem rep0 (n:Nat):Lib.repeatL [48] n=List.replicate n 48:=by
 induction n with
 |zero=>rfl
 |succ n ih=>rw[List.replicate_succ,←ih];rfl
def cSum:Con:={args:=[aS],ress:=[tS],owns:=[],pre:=fun(s,_)=>[s.size≤1000000],spec:=fun(s,_)=>(sumS s,())}
abbrev annSum (s:ByteArray):Ann:={X:=Nat×Int,σ:=fun(k,x)=>⟨0,[(0, .one (.str s)),(3, .one (.int .i64 x)),(7, .one (.int .i64 s.size)),(8, .one (.int .i64 k))],[]⟩,inv:=fun(k,x)=>k≤s.size∧(0≤x∧x<9999721)∧sumL (s.data.toList.drop k) x=sumN s,mu:=fun(k,_)=>s.size-k}
theorem byte_lt (s:ByteArray) (k:Nat):(s.data.toList.getD k 0).toNat<256:=(s.data.toList.getD k 0).toNat_lt
def Z118 (a:Nat×Int):=7-Nc (ByteArray.size (itoaS a.2))
def Z312 (a:Nat×Int):=repS (ByteArray.mk (Array.mk [48])) (Z118 a)
def Z318 (a:Nat×Int) (b:Bt):=341*a.2+Nc (UInt8.toNat (List.getD (Z10 b) a.1 0))
def Z406 (a:Nat×Int) (b:Bt) (c:Nat×Int):=Int.tmod (Z318 a b) 9999721=c.2
def Z410 (a:Nat×Int) (b:Bt):=a.1≤ByteArray.size b∧Bd a.2 9999721∧sumL (List.drop a.1 (Z10 b)) a.2=sumN b
def Z583 (a:Nat×Int) (b:Bt) (c:Nat×Int):=Z410 a b∧ByteArray.size b-a.1<ByteArray.size b-c.1
def Z714 (a:Nat×Int) (b:Bt):=Iw (341*a.2)∧Bd (Nc a.1) (Nc (ByteArray.size b))∧Iw (Nc (UInt8.toNat (List.getD (Z10 b) a.1 0)))∧Iw (Z318 a b)∧((9999721:Int)=0→False)
theorem ok184:Ok Tryz.prog 184 cSum:=okW W145 Tryz.f184 (fun xx=>ann0 (annSum xx.1)) fun xx=>by
 obtain⟨(s:ByteArray),_⟩:=xx
 refine(by kernel_rfl:(ByteArray.size s≤1000000→∃(x:Nat×Int),Sf s (1=x.2∧Si (Nc (ByteArray.size s)) (0=Nc x.1))∧Z410 x s∧∀(x:Nat×Int),Z410 x s→Br (decide (Nc x.1<Nc (ByteArray.size s))) (Z714 x s∧Z35 x∧∃(y:Nat×Int),Sf s (Z406 x s y∧Si (Nc (ByteArray.size s)) (Z111 x y))∧Z583 y s x) (Iw x.2∧(Iw (Z118 x)∧1≤1000000∧(0≤Z118 x∧Z118 x≤1000000)∧Nc (ByteArray.size (Z312 x)+ByteArray.size (itoaS x.2))≤9223372036854775807)∧ByteArray.mk (Array.mk ((Z312 x).data.toList++(itoaS x.2).data.toList))=sumS s))=_).mp ?_
 delta Z10 Z35 Z111 Z118 Z312 Z318 Z406 Z410 Z583 Z714 Br Iw Bd Sf Si Nc
 intro hs
 refine⟨((0:Nat),(1:Int)),by(repeat' first|exact rfl|exact trivial|apply And.intro|exact(Int.add_zero _).symm|exact Int.add_assoc _ _ _|omega|(dsimp only;push_cast;omega)),⟨Nat.zero_le _,by(first|omega|(dsimp only;omega)|(simp only[];omega)),rfl⟩,fun(y:Nat×Int) hk=>⟨fun h=> ?_,fun h=> ?_⟩⟩
 ·obtain⟨k,x⟩:=y
  have hlt:k<s.size:=by simpa using h
  obtain⟨k1,k2,k3⟩:=hk
  dsimp only at k1 k2
  rw[bytes_get hlt,sumL] at k3
  have hb:=byte_lt s k
  refine⟨by(repeat' first|apply And.intro|(first|omega|(dsimp only;omega)|(simp only[];omega))),by(repeat' first|apply And.intro|(first|omega|(dsimp only;omega)|(simp only[];omega))),(k+1,_),⟨rfl,rfl,rfl, ?_⟩,⟨by(first|omega|(dsimp only;omega)|(simp only[];omega)), ?_,k3⟩,by(first|omega|(dsimp only;omega)|(simp only[];omega))⟩
  ·dsimp only;push_cast;rfl
  ·exact⟨Int.tmod_nonneg _ (by(first|omega|(dsimp only;omega)|(simp only[];omega))),Int.tmod_lt_of_pos _ (by decide)⟩
 ·obtain⟨k,x⟩:=y
  have hlt:¬k<s.size:=by simpa using h
  obtain⟨k1,k2,k3⟩:=hk
  have e:k=s.size:=by omega
  rw[e,List.drop_eq_nil_of_le (by simp),sumL] at k3
  have k3:x=sumN s:=k3
  have hl:=sumN_len s
  dsimp only
  rw[k3]
  have hz:(itoaS (sumN s)).size=(Lib.itoa (sumN s)).length:=rfl
  rw[hz]
  have hr:repS {data:={toList:=[48]}} (7-((Lib.itoa (sumN s)).length:Int))=bs (List.replicate (7-(Lib.itoa (sumN s)).length) 48):=by
   unfold repS
   rw[show(7-((Lib.itoa (sumN s)).length:Int)).toNat=7-(Lib.itoa (sumN s)).length by omega]
   exact congrArg bs (rep0 _)
  have hb:=sumN_bd s
  rw[hr,bs_size,List.length_replicate]
  exact⟨by(repeat' first|apply And.intro|(first|omega|(dsimp only;omega)|(simp only[];omega))),⟨by(repeat' first|apply And.intro|(first|omega|(dsimp only;omega)|(simp only[];omega))),by decide,by(repeat' first|apply And.intro|(first|omega|(dsimp only;omega)|(simp only[];omega))),by omega⟩,rfl⟩
abbrev W146:=W145.add ok184
def bodyL (e:Ev):List ByteArray:=itoaS e.1::e.2.1::(e.2.2.1++e.2.2.2.1.map itoaS)
def bodyS (e:Ev):ByteArray:=joinS (bodyL e) ⟨⟨[32]⟩⟩
def cItoaM:Con:={args:=[.val false (.list 3 sI), .fn [I] tS],ress:=[(false, .list 9 .str)],owns:=[true],pre:=fun(l,(q,_),_)=>[l.length≤1000000,∀x∈l,conj (q (x,()))],spec:=fun(l,(_,f),_)=>(l.map fun x=>f (x,()),())}
def Z215 (a:Int×Unit→Bt) (b:Nat) (c:Li):=List.map (fun(x:Int)=>a (x,PUnit.unit)) (List.take b c)
theorem ok199:Ok Tryz.prog 199 cItoaM:=okW W146 Tryz.f199 (fun xx=>ann0 (annMap 3 9 sI xx.1 tS false xx.2.1.1 xx.2.1.2)) fun xx=>by
 obtain⟨(l:List Int),⟨(q:Int×Unit→List Prop),(f:Int×Unit→ByteArray)⟩,_⟩:=xx
 refine(by kernel_rfl:(Z53 l→Z323 l q→∃(x:Nat),Si (Ln l) (0=Nc x∧Sf l ((fun(x:Int×PUnit)=>q x)=q∧(fun(x:Int×PUnit)=>f x)=f∧List.length (Z215 f x l)=0))∧x≤List.length l∧∀(x:Nat),x≤List.length l→Br (Z82 x l) (Z72 x l∧(conj (q (Z14 l x,PUnit.unit))∧(List.length (Z215 f x l)+1)*16≤140737488355328)∧Z16 x∧∃(y:Nat),Si (Ln l) (Z94 x y∧Sf l ((fun(x:Int×PUnit)=>q x)=q∧(fun(x:Int×PUnit)=>f x)=f∧Z215 f x l++[f (Z14 l x,PUnit.unit)]=Z215 f y l))∧Z285 y l x) (Z215 f x l=List.map (fun(x:Int)=>f (x,PUnit.unit)) l))=_).mp ?_
 delta Z14 Z16 Z53 Z72 Z82 Z94 Z174 Z176 Z215 Z285 Z323 Br Iw Bd Tw Sf Si Ln Nc
 intro hb hq
 refine⟨(0:Nat),⟨rfl,rfl,rfl,rfl,rfl,by simp⟩,Nat.zero_le _,fun(k:Nat) hk=>⟨fun h=> ?_,fun h=> ?_⟩⟩
 ·have hlt:k<l.length:=by simpa using h
  refine⟨by omega,⟨hq (l.getD k 0) (getD_mem hlt),by simp only[List.length_map,List.length_take];omega⟩,by omega,(k+1:Nat),⟨rfl,by simp,rfl,rfl,rfl, ?_⟩,by omega,by omega⟩
  rw[←take_snoc (d:=0) hlt,List.map_append];rfl
 ·have hlt:¬k<l.length:=by simpa using h
  rw[List.take_of_length_le (by omega)]
abbrev W147:=W146.add ok199
structure BodyOk (e:Ev):Prop where
 num: -999999999≤e.1∧e.1≤999999999
 nn:e.2.2.1.length≤1000
 nv:e.2.2.2.1.length≤1000
 val:∀v∈e.2.2.2.1,-999999999≤v∧v≤999999999
 siz:((bodyL e).map fun s=>s.size+1).sum≤1000000
theorem join_len {sep:List UInt8} (hs:sep.length=1):∀{l:List (List UInt8)},(Lib.join l sep).length≤(l.map fun x=>x.length+1).sum
 |[]=>by simp[Lib.join,List.intercalate]
 |[x]=>by simp[Lib.join,List.intercalate,List.intersperse]
 |x::y::r=>by
  have ih:=join_len hs (l:=y::r)
  have e:Lib.join (x::y::r) sep=x++sep++Lib.join (y::r) sep:=by simp[Lib.join,List.intercalate,List.intersperse]
  rw[e]
  simp only[List.length_append,List.map_cons,List.sum_cons] at ih⊢
  omega
theorem bodyS_size {e:Ev} (h:BodyOk e):(Lib.join ((bodyL e).map (·.data.toList)) [32]).length≤1000000:=by
 refine Nat.le_trans (join_len (sep:=[32]) rfl) (Nat.le_trans (Nat.le_of_eq ?_) h.siz)
 rw[List.map_map]
 congr 1
def cBody:Con:={args:=[aEv],ress:=[tS],owns:=[],pre:=fun(e,_)=>[BodyOk e],spec:=fun(e,_)=>(bodyS e,())}
def Z123:=ByteArray.mk (Array.mk [32])
def Z252 (a:Ls) (b:Li):=[]++a++List.map (fun(x:Int)=>itoaS x) b
theorem ok183:Ok Tryz.prog 183 cBody:=okW W147 Tryz.f183 na fun xx=>by
 obtain⟨⟨(n:Int),(k:ByteArray),(ns:List ByteArray),(vs:List Int),(tx:ByteArray)⟩,_⟩:=xx
 refine(by kernel_rfl:(BodyOk (n,k,ns,vs,tx)→(Iw n∧(2+List.length ns)*16≤140737488355328)∧(Z53 vs∧(∀(x:Int),Z174 vs x→Iw x)∧(List.length (itoaS n::k::([]++ns))+List.length (List.map (fun(x:Int)=>itoaS x) vs))*16≤140737488355328∧List.length (itoaS n::k::Z252 ns vs)≤1000000∧List.length (Lib.join ((itoaS n).data.1::k.data.1::List.map (fun(x:ByteArray)=>Z10 x) (Z252 ns vs)) [32])≤140737488355328)∧joinS (itoaS n::k::Z252 ns vs) Z123=bodyS (n,k,ns,vs,tx))=_).mp ?_
 delta Z10 Z53 Z123 Z174 Z252 Iw
 intro h
 have h1: -999999999≤n∧n≤999999999:=h.num
 have h2:ns.length≤1000:=h.nn
 have h3:vs.length≤1000:=h.nv
 have hs:=bodyS_size h
 simp only[List.nil_append,List.length_cons,List.length_append,List.length_map]
 exact⟨by(repeat' first|apply And.intro|(first|omega|(dsimp only;omega)|(simp only[];omega))),⟨by omega,fun x hx=>by have:=h.val x hx;omega,by omega,by omega,Nat.le_trans hs (by decide)⟩,rfl⟩
abbrev W148:=W147.add ok183
theorem sumS_size (s:ByteArray):(sumS s).size=7:=by
 have h:=sumN_len s
 unfold sumS padL
 rw[bs_size,List.length_append,List.length_replicate]
 omega
theorem bodyS_le {e:Ev} (h:BodyOk e):(bodyS e).size≤1000000:=bodyS_size h
def recS (e:Ev):ByteArray:=bs ((bodyS e).data.toList++[35]++(sumS (bodyS e)).data.toList++[10])
def cRec:Con:={args:=[aEv],ress:=[tS],owns:=[],pre:=fun(e,_)=>[BodyOk e],spec:=fun(e,_)=>(recS e,())}
def Z622 (a:Int) (b:Bt) (c:Ls) (d:Li) (e:Bt):=Array.mk ((Array.mk ((bodyS (a,b,c,d,e)).data.toList++[35])).toList++(sumS (bodyS (a,b,c,d,e))).data.toList)
theorem ok106:Ok Tryz.prog 106 cRec:=okW W148 Tryz.f106 na fun xx=>by
 obtain⟨⟨(n:Int),(k:ByteArray),(ns:List ByteArray),(vs:List Int),(tx:ByteArray)⟩,_⟩:=xx
 refine(by kernel_rfl:(BodyOk (n,k,ns,vs,tx)→BodyOk (n,k,ns,vs,tx)∧(Nc (ByteArray.size (bodyS (n,k,ns,vs,tx))+1)≤9223372036854775807∧ByteArray.size (bodyS (n,k,ns,vs,tx))≤1000000∧Nc (ByteArray.size (ByteArray.mk (Array.mk ((bodyS (n,k,ns,vs,tx)).data.toList++[35])))+ByteArray.size (sumS (bodyS (n,k,ns,vs,tx))))≤9223372036854775807∧Nc (ByteArray.size (ByteArray.mk (Z622 n k ns vs tx))+1)≤9223372036854775807)∧ByteArray.mk (Array.mk ((Z622 n k ns vs tx).toList++[10]))=recS (n,k,ns,vs,tx))=_).mp ?_
 delta Z622 Nc
 intro h
 have h1:=bodyS_le h
 have h2:=sumS_size (bodyS (n,k,ns,vs,tx))
 have h3:(bs ((bodyS (n,k,ns,vs,tx)).data.toList++[35])).size=(bodyS (n,k,ns,vs,tx)).size+1:=by rw[bs_size,List.length_append];simp
 have h4:(bs ((bodyS (n,k,ns,vs,tx)).data.toList++[35]++(sumS (bodyS (n,k,ns,vs,tx))).data.toList)).size=(bodyS (n,k,ns,vs,tx)).size+8:=by rw[bs_size,List.length_append,List.length_append];simp[h2]
 refine⟨h,⟨by omega,h1, ?_, ?_⟩,rfl⟩
 ·show((bs ((bodyS (n,k,ns,vs,tx)).data.toList++[35])).size+(sumS (bodyS (n,k,ns,vs,tx))).size:Nat)≤(9223372036854775807:Int)
  omega
 ·show((bs ((bodyS (n,k,ns,vs,tx)).data.toList++[35]++(sumS (bodyS (n,k,ns,vs,tx))).data.toList)).size+1:Nat)≤(9223372036854775807:Int)
  omega
abbrev W149:=W148.add ok106
abbrev W150:=W149.add ok80
abbrev Tk:=List ByteArray×Bool
def takeW:Tk→ByteArray×Tk
 |([],_)=>(bnil,[],true)
 |(w::l,b)=>bif w.toList==bnil.toList then(bnil,[],true) else(w,l,b)
def emptyB (t:Tk):Bool:=bif (t.1.length:Int)==0 then true else(t.1.getD 0 bnil).toList==bnil.toList
theorem takeW_eq:∀(t:Tk),takeW t=bif emptyB t then(bnil,[],true) else(t.1.getD 0 bnil,t.1.drop 1,t.2)
 |([],_)=>rfl
 | (w :: l, b) => by
  have e:emptyB (w::l,b)=(w.toList==bnil.toList):=by
   unfold emptyB
   rw[beq_eq_false_iff_ne.2 (show(((w::l,b):Tk).1.length:Int)≠0 by simp;omega)];rfl
  rw[e]
  show(bif w.toList==bnil.toList then(bnil,[],true) else(w,l,b))=_
  cases w.toList==bnil.toList<;>rfl
theorem empty_lt {t:Tk} (h:emptyB t=false):0<t.1.length:=by
 unfold emptyB at h
 by_cases q:t.1.length=0
 ·rw[q] at h;cases h
 ·omega
def takeN (t:Tk):Int×Tk:=((digitsF (takeW t).1).1,(takeW t).2.1,bif (takeW t).2.2 then true else !(digitsF (takeW t).1).2)
def takeNs:Nat→Tk→List ByteArray→List ByteArray×Tk
 |0,t,o=>(o,t)
 |n+1,t,o=>takeNs n (takeW t).2 (o++[(takeW t).1])
def takeVs:Nat→Tk→List Int→List Int×Tk
 |0,t,o=>(o,t)
 |n+1,t,o=>takeVs n (takeN t).2 (o++[(takeN t).1])
def evz:Ev:=(0,bnil,[],[],bnil)
theorem kind_bd (k:ByteArray):(kindD k).1.length≤3∧0≤(kindD k).2.1∧(kindD k).2.1≤4:=by
 cases h:kindK k with
 | false =>
  have e:kindD k=([],0,none,none,none):=by
   unfold kindK at h
   unfold kindD
   cases hm:mpGet .str k kindsL with
   |none=>rfl
   |some v=>rw[hm] at h;cases h
  rw[e];decide
 |true=>
  rcases kind_cases h with h|h|h|h|h|h|h|h|h|h|h<;>subst h
  all_goals first|(rw[kd_undo];decide)|(rw[kd_station];decide)|(rw[kd_price];decide)|(rw[kd_order];decide)|(rw[kd_meter];decide)|(rw[kd_trip];decide)|(rw[kd_outage];decide)|(rw[kd_restore];decide)|(rw[kd_permit];decide)|(rw[kd_return];decide)|(rw[kd_settle];decide)
def readNs (ws:List ByteArray):List ByteArray×Tk:=takeNs (kindD (takeW (ws,false)).1).1.length (takeW (ws,false)).2 []
def readVs (ws:List ByteArray):List Int×Tk:=takeVs (kindD (takeW (ws,false)).1).2.1.toNat (readNs ws).2 []
def readS (ws:List ByteArray):Ev×Bool:=bif kindK (takeW (ws,false)).1 then((0,(takeW (ws,false)).1,(readNs ws).1,(readVs ws).1,bnil),bif !(readVs ws).2.2 then((readVs ws).2.1.length:Int)==0 else false) else(evz,false)
def cRead:Con:={args:=[.val false (.list 9 .str)],ress:=[(true,sEv),Bo],owns:=[],pre:=fun(ws,_)=>[ws.length≤1000000,∀w∈ws,w.size≤1000000],spec:=fun(ws,_)=>((readS ws).1,(readS ws).2,())}
abbrev annRead (ws:List ByteArray):Nat→Option Ann:=fun id=>if id=0 then some {X:=Nat×Tk×List ByteArray,σ:=fun(i,(rem,b),o)=>⟨9,[(2, .one (.ptr 1 0)),(4, .one (.ptr 2 0)),(5, .one (.fv 3)),(6, .one (.fv 4)),(7, .one (.ptr 5 0)),(8, .one (.ptr 7 0)),(34, .one (.int .i64 (kindD (takeW (ws,false)).1).1.length)),(35, .one (.int .i64 i))],[(1, .box 67 [.int .i64 0, .str bnil, .val (.slice none 0 0), .val (.slice none 0 0), .str bnil]),(2, .box 279 [.sl 0, .bool b]),(3, .clo 210 [.one (.ptr 2 0)] []),(4, .clo 211 [.one (.ptr 2 0)] []),(5, .box 67 [.int .i64 0, .str (takeW (ws,false)).1, .sl 6, .val (.slice none 0 0), .str bnil]),(7, .box 173 [.sl 8, .int .i64 (kindD (takeW (ws,false)).1).2.1, .fno (kindD (takeW (ws,false)).1).2.2.1, .fno (kindD (takeW (ws,false)).1).2.2.2.1, .fno (kindD (takeW (ws,false)).1).2.2.2.2]),(6, .own 9 .str o),(8, .imm 251 sRole (kindD (takeW (ws,false)).1).1),(0, .imm 9 .str rem)]⟩,inv:=fun(i,t,o)=>i≤(kindD (takeW (ws,false)).1).1.length∧t.1.length≤1000000∧(∀w∈t.1,w.size≤1000000)∧o.length=i∧takeNs ((kindD (takeW (ws,false)).1).1.length-i) t o=readNs ws,mu:=fun(i,_)=>(kindD (takeW (ws,false)).1).1.length-i}
 else if id=2 then some {X:=Nat×Tk×List Int,σ:=fun(i,(rem,b),o)=>⟨10,[(2, .one (.ptr 1 0)),(4, .one (.ptr 2 0)),(6, .one (.fv 4)),(7, .one (.ptr 5 0)),(47, .one (.int .i64 (kindD (takeW (ws,false)).1).2.1)),(48, .one (.int .i64 i))],[(1, .box 67 [.int .i64 0, .str bnil, .val (.slice none 0 0), .val (.slice none 0 0), .str bnil]),(2, .box 279 [.sl 0, .bool b]),(4, .clo 211 [.one (.ptr 2 0)] []),(5, .box 67 [.int .i64 0, .str (takeW (ws,false)).1, .sl 6, .sl 9, .str bnil]),(6, .own 9 .str (readNs ws).1),(9, .own 3 sI o),(0, .imm 9 .str rem)]⟩,inv:=fun(i,t,o)=>i≤(kindD (takeW (ws,false)).1).2.1.toNat∧t.1.length≤1000000∧(∀w∈t.1,w.size≤1000000)∧o.length=i∧takeVs ((kindD (takeW (ws,false)).1).2.1.toNat-i) t o=readVs ws,mu:=fun(i,_)=>(kindD (takeW (ws,false)).1).2.1.toNat-i}
 else none
def Z62 (a:Ls):=(kindD (takeW (a,false)).1).2
def Z63 (a:Ls):=(kindD (takeW (a,false)).1).1
def Z83 (a:Ls):=(Z62 a).1
def Z108 (a:Ls):=(Z62 a).2.1
def Z109 (a:Ls):=(Z62 a).2.2.2
def Z112 (a:Ls):=(Z62 a).2.2.1
def Z117 (a:Nat×Tk×Li):=List.getD a.2.1.1 0 B0
def Z128 (a:Ls):=Int.toNat (Z83 a)
def Z196 (a:Ls):=Ln (Z63 a)
def Z204 (a:Ls):=List.length (Z63 a)
def Z230 (a:Nat×Tk×Ls):=(List.length a.2.2+1)*16≤140737488355328
def Z236 (a:Ls):=(kindD (takeW (a,false)).1).1=Z63 a
def Z401 (a:Ls):=Sf true (Z181=(readS a).1∧false=(readS a).2)
def Z553 (a:Ls):=mpGet Sch.str (Z85 a) kindsL
def Z746 (a:Ls):=Option.getD (Z553 a) Z283
def Z750 (a:Nat×(Ls×Bool)×Li) (b:Ls):=a.1≤Z128 b∧List.length a.2.1.1≤1000000∧(∀(w:ByteArray),w∈a.2.1.1→ByteArray.size w≤1000000)∧List.length a.2.2=a.1∧takeVs (Z128 b-a.1) a.2.1 a.2.2=readVs b
def Z752 (a:Ls):=(Z746 a).2
def Z753 (a:Ls):=(Z752 a).2
def Z756 (a:Ls):=(Z753 a).2
def Z766 (a:Nat×(Ls×Bool)×Ls) (b:Ls):=a.1≤Z204 b∧List.length a.2.1.1≤1000000∧(∀(w:ByteArray),w∈a.2.1.1→ByteArray.size w≤1000000)∧List.length a.2.2=a.1∧takeNs (Z204 b-a.1) a.2.1 a.2.2=readNs b
def Z788 (a:Nat×(Ls×Bool)×Li) (b:Ls) (c:Nat×Tk×Li):=Z750 a b∧Z128 b-a.1<Z128 b-c.1
def Z796 (a:Nat×(Ls×Bool)×Ls) (b:Ls) (c:Nat×Tk×Ls):=Z766 a b∧Z204 b-a.1<Z204 b-c.1
def Z938 (a:Nat×(Ls×Bool)×Ls) (b:Ls):=Z766 a b∧∀(x:Nat×Tk×List ByteArray),x.1≤Z204 b∧List.length x.2.1.1≤1000000∧(∀(w:ByteArray),w∈x.2.1.1→ByteArray.size w≤1000000)∧List.length x.2.2=x.1∧takeNs (Z204 b-x.1) x.2.1 x.2.2=readNs b→Br (decide (Nc x.1<Z196 b)) (Tw ((Ln x.2.1.1==0)=false→Bd 0 (Ln x.2.1.1))∧Br (bif Ln x.2.1.1==0 then true else Lb (List.getD x.2.1.1 0 B0) B0) (Z230 x∧Iw (Nc x.1+1)∧∃(y:Nat×(List ByteArray×Bool)×List ByteArray),Si (Z196 b) (Nc x.1+1=Nc y.1∧Si 0 (Sf bnil (Sf Z121 (Sf Z121 (Sf bnil (true=y.2.1.2∧Si 0 (Sf (takeW (b,false)).1 (Sf Z121 (Sf bnil (Si (Z83 b) (Sf (Z108 b) (Sf (Z112 b) (Sf (Z109 b) (x.2.2++[B0]=y.2.2∧Z236 b∧List.length y.2.1.1=0))))))))))))))∧Z796 y b x) (Tw (Bd 0 (Ln x.2.1.1))∧((0:Int)≤1∧1≤Ln x.2.1.1∧Ln x.2.1.1≤Ln x.2.1.1)∧Z230 x∧Iw (Nc x.1+1)∧∃(y:Nat×(List ByteArray×Bool)×List ByteArray),Si (Z196 b) (Nc x.1+1=Nc y.1∧Si 0 (Sf bnil (Sf Z121 (Sf Z121 (Sf bnil (x.2.1.2=y.2.1.2∧Si 0 (Sf (takeW (b,false)).1 (Sf Z121 (Sf bnil (Si (Z83 b) (Sf (Z108 b) (Sf (Z112 b) (Sf (Z109 b) (x.2.2++[List.getD x.2.1.1 0 B0]=y.2.2∧Z236 b∧List.drop 1 (List.take (List.length x.2.1.1) x.2.1.1)=y.2.1.1))))))))))))))∧Z796 y b x)) (∃(x_1:Nat×(List ByteArray×Bool)×List Int),Si (Z83 b) (0=Nc x_1.1∧Si 0 (Sf bnil (Sf Z121 (Sf Z121 (Sf bnil (x.2.1.2=x_1.2.1.2∧Si 0 (Sf (takeW (b,false)).1 (Sf bnil (x.2.2=(readNs b).1∧List.length x_1.2.2=0∧x.2.1.1=x_1.2.1.1)))))))))∧Z750 x_1 b∧∀(x:Nat×Tk×List Int),x.1≤Z128 b∧List.length x.2.1.1≤1000000∧(∀(w:ByteArray),w∈x.2.1.1→ByteArray.size w≤1000000)∧List.length x.2.2=x.1∧takeVs (Z128 b-x.1) x.2.1 x.2.2=readVs b→Br (decide (Nc x.1<Z83 b)) (Tw ((Ln x.2.1.1==0)=false→Bd 0 (Ln x.2.1.1))∧Br (bif Ln x.2.1.1==0 then true else Lb (Z117 x) B0) (0≤1000000∧(List.length x.2.2+1)*8≤140737488355328∧Iw (Nc x.1+1)∧∃(y:Nat×(List ByteArray×Bool)×List Int),Si (Z83 b) (Nc x.1+1=Nc y.1∧Si 0 (Sf bnil (Sf Z121 (Sf Z121 (Sf bnil (true=y.2.1.2∧Si 0 (Sf (takeW (b,false)).1 (Sf bnil ((readNs b).1=(readNs b).1∧x.2.2++[(digitsF B0).1]=y.2.2∧List.length y.2.1.1=0)))))))))∧Z788 y b x) (Tw (Bd 0 (Ln x.2.1.1))∧((0:Int)≤1∧1≤Ln x.2.1.1∧Ln x.2.1.1≤Ln x.2.1.1)∧ByteArray.size (Z117 x)≤1000000∧(List.length x.2.2+1)*8≤140737488355328∧Iw (Nc x.1+1)∧∃(y:Nat×(List ByteArray×Bool)×List Int),Si (Z83 b) (Nc x.1+1=Nc y.1∧Si 0 (Sf bnil (Sf Z121 (Sf Z121 (Sf bnil ((bif x.2.1.2 then true else !(digitsF (Z117 x)).2)=y.2.1.2∧Si 0 (Sf (takeW (b,false)).1 (Sf bnil ((readNs b).1=(readNs b).1∧x.2.2++[(digitsF (Z117 x)).1]=y.2.2∧List.drop 1 (List.take (List.length x.2.1.1) x.2.1.1)=y.2.1.1)))))))))∧Z788 y b x)) (Sf true ((0,(takeW (b,false)).1,(readNs b).1,x.2.2,bnil)=(readS b).1∧(bif !x.2.1.2 then Ln x.2.1.1==0 else false)=(readS b).2)))
theorem ok120:Ok Tryz.prog 120 cRead:=okWG W150 Tryz.f120 (lib_ok (l:=([(210,Tryz.f210),(211,Tryz.f211)]:List (Nat×Func))) (List.forall_mem_cons.2 ⟨by kernel_rfl,List.forall_mem_cons.2 ⟨by kernel_rfl,by simp⟩⟩)) (fun xx=>annRead xx.1) (fun xx=>fun _=>na ()) fun xx=>by
 obtain⟨(ws:List ByteArray),_⟩:=xx
 refine(by kernel_rfl:(Z102 ws→Z402 ws→Tw ((Ln ws==0)=false→Z79 ws)∧Br (bif Ln ws==0 then true else Lb (Z85 ws) B0) (Br true (Z401 ws) (∃(x:Nat×(List ByteArray×Bool)×List ByteArray),(0=Z196 ws∧0=Nc x.1∧Si 0 (B0=bnil∧Sf Z121 (Sf Z121 (B0=bnil∧true=x.2.1.2∧Si 0 (B0=(takeW (ws,false)).1∧Sf Z121 (B0=bnil∧0=Z83 ws∧none=Z108 ws∧none=Z112 ws∧none=Z109 ws∧List.length x.2.2=0∧[]=Z63 ws∧List.length x.2.1.1=0))))))∧Z938 x ws)) (Tw (Z79 ws)∧((0:Int)≤1∧1≤Ln ws∧Ln ws≤Ln ws)∧Br (!Option.isSome (Z553 ws)) (Z401 ws) (∃(x:Nat×(List ByteArray×Bool)×List ByteArray),(Ln (Z746 ws).1=Z196 ws∧0=Nc x.1∧Si 0 (B0=bnil∧Sf Z121 (Sf Z121 (B0=bnil∧false=x.2.1.2∧Si 0 (Z85 ws=(takeW (ws,false)).1∧Sf Z121 (B0=bnil∧(Z752 ws).1=Z83 ws∧(Z753 ws).1=Z108 ws∧(Z756 ws).1=Z112 ws∧(Z756 ws).2=Z109 ws∧List.length x.2.2=0∧(Z746 ws).1=Z63 ws∧List.drop 1 (List.take (List.length ws) ws)=x.2.1.1))))))∧Z938 x ws)))=_).mp ?_
 delta Z62 Z63 Z79 Z83 Z85 Z102 Z108 Z109 Z112 Z117 Z121 Z128 Z181 Z196 Z204 Z230 Z236 Z241 Z283 Z401 Z402 Z553 Z746 Z750 Z752 Z753 Z756 Z766 Z788 Z796 Z938 Br Iw Bd Tw Sf Si Ln Nc B0 Lb
 intro h1 h2
 have hk0:kindK bnil=false:=by kernel_rfl
 have hB:=kind_bd (ws.getD 0 bnil)
 have hsz:∀k,k<ws.length→(ws.getD k bnil).size≤1000000:=fun k hk=>h2 _ (getD_mem hk)
 refine⟨⟨fun h=> ?_,fun h=> ?_⟩,fun hc=>⟨fun _=>⟨rfl, ?_⟩,fun h=>(by cases h)⟩,fun hc=> ?_⟩
 ·have:=beq_eq_false_iff_ne.1 h;omega
 ·have:=beq_eq_false_iff_ne.1 h;omega
 ·have e:takeW (ws,false)=(bnil,[],true):=by rw[takeW_eq,show emptyB (ws,false)=true from hc];rfl
  have e2:readS ws=(evz,false):=by unfold readS;rw[e,hk0];rfl
  rw[e2];exact⟨rfl,rfl⟩
 ·have hc':emptyB (ws,false)=false:=hc
  have e:takeW (ws,false)=(ws.getD 0 bnil,ws.drop 1,false):=by rw[takeW_eq,hc'];rfl
  have hl:0<ws.length:=empty_lt hc'
  have eD:(mpGet Sch.str (ws.getD 0 ({data:={toList:=[]}}:ByteArray)) kindsL).getD ([],0,none,none,none)=kindD (ws.getD 0 bnil):=rfl
  have eK:(mpGet Sch.str (ws.getD 0 ({data:={toList:=[]}}:ByteArray)) kindsL).isSome=kindK (ws.getD 0 bnil):=rfl
  simp only[e,eD,eK]
  refine⟨by(repeat' first|apply And.intro|(first|omega|(dsimp only;omega)|(simp only[];omega))),by(repeat' first|apply And.intro|(first|omega|(dsimp only;omega)|(simp only[];omega))),fun hk=>⟨trivial, ?_⟩,fun hk=>⟨((0:Nat),(ws.drop 1,false),[]), ?_,⟨Nat.zero_le _,by simp only[List.length_drop];omega,fun w hw=>h2 w (List.mem_of_mem_drop hw),rfl,by unfold readNs;rw[e];rfl⟩,fun(x:Nat×Tk×List ByteArray) hx=>⟨fun hlt=> ?_,fun hlt=> ?_⟩⟩⟩
  ·have hk:kindK (ws.getD 0 bnil)=false:=by simpa using hk
   have e2:readS ws=(evz,false):=by unfold readS;rw[e,hk];rfl
   rw[e2];exact⟨rfl,rfl⟩
  ·rw[List.take_length]
   repeat' first|exact rfl|exact trivial|apply And.intro|exact(Int.add_zero _).symm|exact Int.add_assoc _ _ _|omega|(dsimp only;push_cast;omega)
  ·obtain⟨i,⟨rem,b⟩,o⟩:=x
   obtain⟨i1,i2,i3,i4,i5⟩:=hx
   have hlt:i<(kindD (ws.getD 0 bnil)).1.length:=by simpa using hlt
   dsimp only at i1 i2 i3 i4 i5
   have hn:(kindD (ws.getD 0 bnil)).1.length-i=((kindD (ws.getD 0 bnil)).1.length-(i+1))+1:=by omega
   rw[hn,takeNs,takeW_eq] at i5
   refine⟨⟨fun h=> ?_,fun h=> ?_⟩,fun h=> ?_,fun h=> ?_⟩
   ·have:=beq_eq_false_iff_ne.1 h;(first|omega|(dsimp only;omega)|(simp only[];omega))
   ·have:=beq_eq_false_iff_ne.1 h;(first|omega|(dsimp only;omega)|(simp only[];omega))
   ·have h:emptyB (rem,b)=true:=h
    rw[h,cond_true] at i5
    refine⟨by(first|omega|(dsimp only;omega)|(simp only[];omega)),by(repeat' first|apply And.intro|(first|omega|(dsimp only;omega)|(simp only[];omega))),(i+1,([],true),o++[bnil]), ?_,⟨by(first|omega|(dsimp only;omega)|(simp only[];omega)),by simp,fun w hw=>(by cases hw),by simp[i4],i5⟩,by(first|omega|(dsimp only;omega)|(simp only[];omega))⟩
    repeat' first|exact rfl|exact trivial|apply And.intro|exact(Int.add_zero _).symm|exact Int.add_assoc _ _ _|omega|(dsimp only;push_cast;omega)
   ·have h:emptyB (rem,b)=false:=h
    have hr:0<rem.length:=empty_lt h
    rw[h,cond_false] at i5
    refine⟨by(repeat' first|apply And.intro|(first|omega|(dsimp only;omega)|(simp only[];omega))),by(repeat' first|apply And.intro|(first|omega|(dsimp only;omega)|(simp only[];omega))),by(first|omega|(dsimp only;omega)|(simp only[];omega)),by(repeat' first|apply And.intro|(first|omega|(dsimp only;omega)|(simp only[];omega))),(i+1,(rem.drop 1,b),o++[rem.getD 0 bnil]), ?_,⟨by(first|omega|(dsimp only;omega)|(simp only[];omega)),by simp only[List.length_drop];omega,fun w hw=>i3 w (List.mem_of_mem_drop hw),by simp[i4],i5⟩,by(first|omega|(dsimp only;omega)|(simp only[];omega))⟩
    dsimp only
    rw[List.take_length]
    repeat' first|exact rfl|exact trivial|apply And.intro|exact(Int.add_zero _).symm|exact Int.add_assoc _ _ _|omega|(dsimp only;push_cast;omega)
  ·obtain⟨i,⟨rem,b⟩,o⟩:=x
   obtain⟨i1,i2,i3,i4,i5⟩:=hx
   have hlt:¬i<(kindD (ws.getD 0 bnil)).1.length:=by simpa using hlt
   dsimp only at i1 i2 i3 i4 i5
   have hn:(kindD (ws.getD 0 bnil)).1.length-i=0:=by omega
   rw[hn,takeNs] at i5
   have eN:(readNs ws).1=o:=by rw[←i5]
   have eT:(readNs ws).2=(rem,b):=by rw[←i5]
   simp only[eN]
   refine⟨((0:Nat),(rem,b),[]), ?_,⟨Nat.zero_le _,i2,i3,rfl,by unfold readVs;rw[e,eT];rfl⟩,fun(x:Nat×Tk×List Int) hx=>⟨fun hlt=> ?_,fun hlt=> ?_⟩⟩
   ·repeat' first|exact rfl|exact trivial|apply And.intro|exact(Int.add_zero _).symm|exact Int.add_assoc _ _ _|omega|(dsimp only;push_cast;omega)
   ·obtain⟨j,⟨rem,b⟩,o2⟩:=x
    obtain⟨j1,j2,j3,j4,j5⟩:=hx
    have hlt:(j:Int)<(kindD (ws.getD 0 bnil)).2.1:=of_decide_eq_true hlt
    dsimp only at j1 j2 j3 j4 j5
    have hn:(kindD (ws.getD 0 bnil)).2.1.toNat-j=((kindD (ws.getD 0 bnil)).2.1.toNat-(j+1))+1:=by omega
    rw[hn,takeVs,takeN,takeW_eq] at j5
    refine⟨⟨fun h=> ?_,fun h=> ?_⟩,fun h=> ?_,fun h=> ?_⟩
    ·have:=beq_eq_false_iff_ne.1 h;(first|omega|(dsimp only;omega)|(simp only[];omega))
    ·have:=beq_eq_false_iff_ne.1 h;(first|omega|(dsimp only;omega)|(simp only[];omega))
    ·have h:emptyB (rem,b)=true:=h
     rw[h,cond_true] at j5
     refine⟨by decide,by(first|omega|(dsimp only;omega)|(simp only[];omega)),by(repeat' first|apply And.intro|(first|omega|(dsimp only;omega)|(simp only[];omega))),(j+1,([],true),o2++[(digitsF bnil).1]), ?_,⟨by(first|omega|(dsimp only;omega)|(simp only[];omega)),by simp,fun w hw=>(by cases hw),by simp[j4],j5⟩,by(first|omega|(dsimp only;omega)|(simp only[];omega))⟩
     repeat' first|exact rfl|exact trivial|apply And.intro|exact(Int.add_zero _).symm|exact Int.add_assoc _ _ _|omega|(dsimp only;push_cast;omega)
    ·have h:emptyB (rem,b)=false:=h
     have hr:0<rem.length:=empty_lt h
     rw[h,cond_false] at j5
     refine⟨by(repeat' first|apply And.intro|(first|omega|(dsimp only;omega)|(simp only[];omega))),by(repeat' first|apply And.intro|(first|omega|(dsimp only;omega)|(simp only[];omega))),j3 _ (getD_mem hr),by(first|omega|(dsimp only;omega)|(simp only[];omega)),by(repeat' first|apply And.intro|(first|omega|(dsimp only;omega)|(simp only[];omega))),(j+1,(rem.drop 1,bif b then true else !(digitsF (rem.getD 0 bnil)).2),o2++[(digitsF (rem.getD 0 bnil)).1]), ?_,⟨by(first|omega|(dsimp only;omega)|(simp only[];omega)),by simp only[List.length_drop];omega,fun w hw=>j3 w (List.mem_of_mem_drop hw),by simp[j4],j5⟩,by(first|omega|(dsimp only;omega)|(simp only[];omega))⟩
     dsimp only
     rw[List.take_length]
     repeat' first|exact rfl|exact trivial|apply And.intro|exact(Int.add_zero _).symm|exact Int.add_assoc _ _ _|omega|(dsimp only;push_cast;omega)
   ·obtain⟨j,⟨rem2,b2⟩,o2⟩:=x
    obtain⟨j1,j2,j3,j4,j5⟩:=hx
    have hlt:¬(j:Int)<(kindD (ws.getD 0 bnil)).2.1:=of_decide_eq_false hlt
    dsimp only at j1 j2 j3 j4 j5
    have hn:(kindD (ws.getD 0 bnil)).2.1.toNat-j=0:=by omega
    rw[hn,takeVs] at j5
    have hk:kindK (ws.getD 0 bnil)=true:=by simpa using hk
    have e2:readS ws=((0,ws.getD 0 bnil,o,o2,bnil),bif !b2 then((rem2.length:Int)==0) else false):=by
     unfold readS
     rw[e,hk,cond_true,eN,←j5]
    rw[e2];exact⟨trivial,rfl,rfl⟩
abbrev W151:=W150.add ok120
def cutA (c:UInt8):List UInt8→List UInt8
 |[]=>[]
 |b::r=>if b=c then[] else b::cutA c r
def cutZ (c:UInt8):List UInt8→List UInt8
 |[]=>[]
 |b::r=>if b=c then r else cutZ c r
def cutF (c:UInt8):List UInt8→Bool
 |[]=>false
 |b::r=>if b=c then true else cutF c r
theorem lib_cut (c:UInt8):∀l:List UInt8,Lib.cut l [c]=(cutA c l,cutZ c l,cutF c l)
 |[]=>rfl
 | b :: r => by
  have ih:=lib_cut c r
  have hg:=Lib.index_ge r [c]
  by_cases h:b=c
  ·subst h
   have e:Lib.index (b::r) [b]=0:=by simp[Lib.index,List.isPrefixOf]
   unfold Lib.cut cutA cutZ cutF
   rw[e,if_pos rfl,if_pos rfl,if_pos rfl]
   rfl
  ·have hp:[c].isPrefixOf (b::r)=false:=by
    have:¬c=b:=fun e=>h e.symm
    simp[List.isPrefixOf,this]
   have hi:Lib.index (b::r) [c]=if Lib.index r [c]== -1 then -1 else Lib.index r [c]+1:=by rw[Lib.index,hp];rfl
   unfold cutA cutZ cutF
   rw[if_neg h,if_neg h,if_neg h]
   unfold Lib.cut at ih⊢
   by_cases h1:Lib.index r [c]= -1
   ·have e2:Lib.index (b::r) [c]= -1:=by rw[hi,h1];rfl
    rw[h1,if_neg (by decide)] at ih
    rw[e2,if_neg (by decide)]
    simp only[Prod.mk.injEq] at ih⊢
    exact⟨by rw[←ih.1],ih.2⟩
   ·obtain⟨i,hj⟩:=Int.eq_ofNat_of_zero_le (by omega:0≤Lib.index r [c])
    have e2:Lib.index (b::r) [c]=((i+1:Nat):Int):=by rw[hi,if_neg (by simpa using h1),hj];rfl
    rw[hj,if_pos (by omega)] at ih
    rw[e2,if_pos (by omega)]
    simp only[Prod.mk.injEq,Int.toNat_natCast,List.length_singleton] at ih⊢
    exact⟨by rw[List.take_succ_cons,ih.1],by rw[←ih.2.1];rfl,ih.2.2⟩
theorem cutA_len (c:UInt8):∀l:List UInt8,(cutA c l).length≤l.length
 |[]=>Nat.le_refl _
 |b::r=>by
  have:=cutA_len c r
  unfold cutA
  split<;>simp only[List.length_cons,List.length_nil]<;>omega
theorem cutZ_len (c:UInt8):∀l:List UInt8,(cutZ c l).length≤l.length
 |[]=>Nat.le_refl _
 |b::r=>by
  have:=cutZ_len c r
  unfold cutZ
  split<;>simp only[List.length_cons]<;>omega
theorem cut_one (s:ByteArray) (c:UInt8):cutS s ⟨⟨[c]⟩⟩=(bs (cutA c s.data.toList),bs (cutZ c s.data.toList),cutF c s.data.toList):=by
 unfold cutS
 rw[show((⟨⟨[c]⟩⟩:ByteArray).data.toList)=[c] from rfl,lib_cut]
 rfl
theorem splitF_words (s:ByteArray):wordsS s ⟨⟨[32]⟩⟩=splitF s 32:=words_split s 32
def bodyX (s:ByteArray):ByteArray:=bs (s.data.toList.take (s.size-8))
def tailX (s:ByteArray):ByteArray:=bs (s.data.toList.drop (s.size-7))
def headX (b:ByteArray):ByteArray:=bs (cutA 32 b.data.toList)
def restX (b:ByteArray):ByteArray:=bs (cutZ 32 b.data.toList)
def evX (b:ByteArray):Ev:=((digitsF (headX b)).1,(readS (splitF (restX b) 32)).1.2)
def okX (b:ByteArray):Bool:=bif bif !(digitsF (headX b)).2 then true else !(readS (splitF (restX b) 32)).2 then true else checkE (evX b) !=0
def shapeX (s:ByteArray):Bool:=bif bif decide ((s.size:Int)-7-1<0) then true else((s.data.toList.getD (s.size-8) 0).toNat:Int) !=35 then true else !decB (tailX s)
def entry0 (s:ByteArray):Ev×Int:=bif shapeX s then(evz,25) else bif !((sumS (bodyX s)).toList==(tailX s).toList) then(evz,27) else bif okX (bodyX s) then(evz,25) else(evX (bodyX s),0)
def entryS (s:ByteArray) (k:Int):Ev×Int:=if(entry0 s).2=0 then((entry0 s).1,bif (entry0 s).1.1 !=k then 11 else 0) else entry0 s
def cEntry:Con:={args:=[aS,aI],ress:=[(true,sEv),I],owns:=[],pre:=fun(s,_)=>[s.size≤1000000],spec:=fun(s,k,_)=>((entryS s k).1,(entryS s k).2,())}
theorem takeW_sub (t:Tk):((takeW t).1=bnil∨(takeW t).1∈t.1)∧∀w∈(takeW t).2.1,w∈t.1:=by
 rw[takeW_eq]
 cases h:emptyB t with
 |true=>exact⟨.inl rfl,fun w hw=>by cases hw⟩
 |false=>exact⟨.inr (getD_mem (empty_lt h)),fun w hw=>List.mem_of_mem_drop hw⟩
theorem takeNs_len:∀(n:Nat) (t:Tk) (o:List ByteArray),(takeNs n t o).1.length=o.length+n
 |0,_,_=>rfl
 |n+1,t,o=>by
  rw[takeNs,takeNs_len n]
  simp only[List.length_append,List.length_singleton]
  omega
theorem takeNs_mem:∀(n:Nat) (t:Tk) (o:List ByteArray),∀s∈(takeNs n t o).1,s∈o∨s=bnil∨s∈t.1
 |0,_,_,s,h=> .inl h
 | n + 1, t, o, s, h => by
  have hs:=takeW_sub t
  rw[takeNs] at h
  rcases takeNs_mem n _ _ s h with h|h|h
  ·rcases List.mem_append.1 h with h|h
   ·exact .inl h
   ·rw[List.mem_singleton.1 h]
    exact .inr hs.1
  ·exact .inr (.inl h)
  ·exact .inr (.inr (hs.2 _ h))
theorem takeVs_len:∀(n:Nat) (t:Tk) (o:List Int),(takeVs n t o).1.length=o.length+n
 |0,_,_=>rfl
 |n+1,t,o=>by
  rw[takeVs,takeVs_len n]
  simp only[List.length_append,List.length_singleton]
  omega
theorem readS_sz {ws:List ByteArray} (hw:∀w∈ws,w.size≤1000000):(readS ws).1.2.2.1.length≤3∧(readS ws).1.2.2.2.1.length≤4∧∀s∈(readS ws).1.2.2.1,s.size≤1000000:=by
 have hB:=kind_bd (takeW (ws,false)).1
 have hs:=takeW_sub (ws,false)
 unfold readS
 cases kindK (takeW (ws,false)).1 with
 |false=>exact⟨Nat.zero_le _,Nat.zero_le _,fun s h=>by cases h⟩
 | true =>
  simp only[cond_true]
  refine⟨?_, ?_,fun s h=> ?_⟩
  ·unfold readNs;rw[takeNs_len];simp;omega
  ·unfold readVs;rw[takeVs_len];simp;omega
  ·rcases takeNs_mem _ _ _ s h with h|h|h
   ·cases h
   ·rw[h];decide
   ·exact hw _ (hs.2 _ h)
theorem entryS_bad {s:ByteArray} {k:Int} {x:Ev×Int} (h:entry0 s=x) (hx:x.2≠0):entryS s k=x:=by
 unfold entryS;rw[h,if_neg hx]
def Z132 (a:Bt):=Nc (ByteArray.size a)-(7:Int)-1
def Z193 (a:Bt):=Z132 a+1
def Z220 (a:Bt):=decide (Z132 a<0)
def Z267 (a:Bt):=ByteArray.extract a 0 (Int.toNat (Z132 a))
def Z311 (a:Bt):=ByteArray.extract a (Int.toNat (Z193 a)) (ByteArray.size a)
def Z335 (a:Bt):=ByteArray.size (Z267 a)≤1000000
def Z380 (a:Bt) (b:Int):=Z181=(entryS a b).1∧25=(entryS a b).2
def Z428 (a:Bt):=cutS (Z267 a) Z123
def Z436 (a:Bt):=(Z428 a).1
def Z451 (a:Bt):=(Z428 a).2.1
def Z510 (a:Bt):=digitsF (Z436 a)
def Z514 (a:Bt):=(Z510 a).1
def Z544 (a:Bt):=(0:Int)≤0∧0≤Z132 a∧Z132 a≤Nc (ByteArray.size a)
def Z602 (a:Bt):=wordsS (Z451 a) Z123
def Z621 (a:Bt):=readS (Z602 a)
def Z624 (a:Bt):=0≤Z193 a∧Z193 a≤Nc (ByteArray.size a)∧Nc (ByteArray.size a)≤Nc (ByteArray.size a)
def Z626 (a:Bt):=(Z621 a).1.2
def Z629 (a:Bt):=(Z626 a).2
def Z646 (a:Bt):=(Z629 a).2
def Z701 (a:Bt):=bif Z220 a then true else Nc (UInt8.toNat (Gt (Z10 a) (Z132 a) 0)) !=35
def Z709 (a:Bt):=Z701 a=false
def Z757 (a:Bt):=bif !(Z510 a).2 then true else !(Z621 a).2
def Z760 (a:Bt):=Z757 a=false
def Z815 (a:Bt):=(Z514 a,(Z626 a).1,(Z629 a).1,E2 (Z646 a))
theorem ok108:Ok Tryz.prog 108 cEntry:=okW W151 Tryz.f108 na fun xx=>by
 obtain⟨(s:ByteArray),(k:Int),_⟩:=xx
 refine(by kernel_rfl:(ByteArray.size s≤1000000→(Iw (Nc (ByteArray.size s)-7)∧Iw (Z132 s))∧((Z220 s=false→Bd (Z132 s) (Nc (ByteArray.size s)))∧(Z709 s→Iw (Z193 s))∧(Z709 s→Z624 s)∧(Z709 s→ByteArray.size (Z311 s)≤1000000))∧Br (bif Z701 s then true else !decB (Z311 s)) (Z380 s k) ((Z544 s∧Z335 s∧Iw (Z193 s)∧Z624 s)∧Br (!Lb (sumS (Z267 s)) (Z311 s)) (Z181=(entryS s k).1∧27=(entryS s k).2) ((Z544 s∧Z335 s)∧ByteArray.size (Z436 s)≤1000000∧(ByteArray.size (Z451 s)≤1000000∧1≤1∧List.length (Z602 s)≤1000000∧∀(w:ByteArray),w∈Z602 s→ByteArray.size w≤1000000)∧((Z760 s→List.length (Z629 s).1≤1000000)∧(Z760 s→List.length (Z646 s).1≤1000000)∧(Z760 s→∀(s_1:ByteArray),s_1∈(Z629 s).1→ByteArray.size s_1≤1000000))∧Br (bif Z757 s then true else checkE (Z815 s) !=0) (Z380 s k) (Z815 s=(entryS s k).1∧(bif Z514 s !=k then 11 else 0)=(entryS s k).2))))=_).mp ?_
 delta Z10 Z123 Z132 Z181 Z193 Z220 Z267 Z311 Z335 Z380 Z428 Z436 Z451 Z510 Z514 Z544 Z602 Z621 Z624 Z626 Z629 Z646 Z701 Z709 Z757 Z760 Z815 Br Iw Bd Nc Gt B0 Lb E2
 intro hs
 have hl:s.data.toList.length=s.size:=by simp
 by_cases hq:s.size<8
 ·have hd:decide ((s.size:Int)-7-1<0)=true:=decide_eq_true (by omega)
  have h0:entry0 s=(evz,25):=by unfold entry0 shapeX;rw[hd];rfl
  rw[entryS_bad h0 (by decide)]
  simp only[hd,cond_true]
  exact⟨by(repeat' first|apply And.intro|(first|omega|(dsimp only;omega)|(simp only[];omega))),⟨⟨fun h=>(by cases h),fun h=>(by cases h),fun h=>(by cases h),fun h=>(by cases h)⟩,fun _=>by(repeat' first|exact rfl|exact trivial|apply And.intro|exact(Int.add_zero _).symm|exact Int.add_assoc _ _ _|omega|(dsimp only;push_cast;omega)),fun h=>(by cases h)⟩⟩
 ·have e1:((s.size:Int)-7-1).toNat=s.size-8:=by omega
  have e2:((s.size:Int)-7-1+1).toNat=s.size-7:=by omega
  have e3:s.extract 0 (s.size-8)=bodyX s:=ext_take s _
  have e4:s.extract (s.size-7) s.size=tailX s:=ext_drop s _
  have hbl:(bodyX s).data.toList.length=s.size-8:=by unfold bodyX;simp[bs]
  have hbs:(bodyX s).size=s.size-8:=by unfold bodyX;rw[bs_size];simp
  have hts:(tailX s).size≤1000000:=by unfold tailX;rw[bs_size];simp;omega
  have hd:decide ((s.size:Int)-7-1<0)=false:=decide_eq_false (by omega)
  simp only[e1,e2,e3,e4,cut_one,splitF_words]
  have hsh:shapeX s=bif bif decide ((s.size:Int)-7-1<0) then true else((s.data.toList.getD (s.size-8) 0).toNat:Int) !=35 then true else !decB (tailX s):=rfl
  rw[←hsh]
  have hA:(bs (cutA 32 (bodyX s).data.toList)).size≤1000000:=by rw[bs_size];have:=cutA_len 32 (bodyX s).data.toList;omega
  have hZ:(bs (cutZ 32 (bodyX s).data.toList)).size≤1000000:=by rw[bs_size];have:=cutZ_len 32 (bodyX s).data.toList;omega
  have hW:∀w∈splitF (bs (cutZ 32 (bodyX s).data.toList)) 32,w.size≤1000000:=by
   intro w hw
   obtain⟨v,hv,rfl⟩:=List.mem_map.1 hw
   have:=splB_len _ _ _ hv
   have h3:=cutZ_len 32 (bodyX s).data.toList
   have h4:(bs (cutZ 32 (bodyX s).data.toList)).data.toList.length=(cutZ 32 (bodyX s).data.toList).length:=rfl
   rw[bs_size]
   omega
  refine⟨by(repeat' first|apply And.intro|(first|omega|(dsimp only;omega)|(simp only[];omega))),⟨fun _=>by(repeat' first|apply And.intro|(first|omega|(dsimp only;omega)|(simp only[];omega))),fun _=>by(repeat' first|apply And.intro|(first|omega|(dsimp only;omega)|(simp only[];omega))),fun _=>by(repeat' first|apply And.intro|(first|omega|(dsimp only;omega)|(simp only[];omega))),fun _=>hts⟩,fun h=> ?_,fun h=>⟨⟨by(repeat' first|apply And.intro|(first|omega|(dsimp only;omega)|(simp only[];omega))),by omega,by(repeat' first|apply And.intro|(first|omega|(dsimp only;omega)|(simp only[];omega))),by(repeat' first|apply And.intro|(first|omega|(dsimp only;omega)|(simp only[];omega)))⟩,fun h2=> ?_,fun h2=>⟨⟨by(repeat' first|apply And.intro|(first|omega|(dsimp only;omega)|(simp only[];omega))),by omega⟩,hA,⟨hZ,by decide, ?_, ?_⟩, ?_⟩⟩⟩
  ·have h0:entry0 s=(evz,25):=by unfold entry0;rw[h];rfl
   rw[entryS_bad h0 (by decide)];exact⟨rfl,rfl⟩
  ·have h0:entry0 s=(evz,27):=by unfold entry0;rw[h,h2];rfl
   rw[entryS_bad h0 (by decide)];exact⟨rfl,rfl⟩
  ·unfold splitF
   rw[List.length_map]
   have:=splB_cnt (UInt8.ofNat (32:Int).toNat) (bs (cutZ 32 (bodyX s).data.toList)).data.toList
   have h3:=cutZ_len 32 (bodyX s).data.toList
   have h4:(bs (cutZ 32 (bodyX s).data.toList)).data.toList.length=(cutZ 32 (bodyX s).data.toList).length:=rfl
   omega
  ·exact hW
  ·have hr:=readS_sz (ws:=splitF (bs (cutZ 32 (bodyX s).data.toList)) 32) hW
   refine⟨⟨fun _=>Nat.le_trans hr.1 (by decide),fun _=>Nat.le_trans hr.2.1 (by decide),fun _=>hr.2.2⟩,fun h3=> ?_,fun h3=> ?_⟩
   ·have h3:okX (bodyX s)=true:=h3
    have h0:entry0 s=(evz,25):=by unfold entry0;rw[h,h2,h3];rfl
    rw[entryS_bad h0 (by decide)];exact⟨rfl,rfl⟩
   ·have h3:okX (bodyX s)=false:=h3
    have h0:entry0 s=(evX (bodyX s),0):=by unfold entry0;rw[h,h2,h3];rfl
    have h4:entryS s k=(evX (bodyX s),bif (evX (bodyX s)).1 !=k then 11 else 0):=by unfold entryS;rw[h0];rfl
    rw[h4]
    exact⟨rfl,rfl⟩
abbrev W152:=W151.add ok108
def recL:Nat→List UInt8→Int→List Ev→List Ev×Int×Int
 |0,_,at_,o=>(o,at_,0)
 |f+1,l,at_,o=>
  if l=[] then(o,at_,0) else
  if cutF 10 l=false then(o,at_,28) else
  if(entryS (bs (cutA 10 l)) (o.length+1)).2≠0 then(o,at_,(entryS (bs (cutA 10 l)) (o.length+1)).2) else
  recL f (cutZ 10 l) (at_+((cutA 10 l).length+1)) (o++[(entryS (bs (cutA 10 l)) (o.length+1)).1])
def recoverS (s:ByteArray):List Ev×Int×Int:=if 1000000<s.size then([],0,26) else recL s.size s.data.toList 0 []
def cRecover:Con:={args:=[aS],ress:=[(false, .list 67 sEv),I,I],owns:=[],pre:=fun _=>[],spec:=fun(s,_)=>((recoverS s).1,(recoverS s).2.1,(recoverS s).2.2,())}
abbrev annRec (s:ByteArray):Ann:={X:=Nat×List Ev,σ:=fun(k,o)=>⟨1,[(0, .one (.str s)),(5, .one (.sl 0)),(6, .one (.int .i64 k))],[(0, .own 67 sEv o)]⟩,inv:=fun(k,o)=>k≤s.size∧s.size≤1000000∧o.length≤1000∧∃f,s.size-k≤f∧recL f (s.data.toList.drop k) k o=recoverS s,mu:=fun(k,_)=>s.size-k}
theorem cut_app (c:UInt8):∀{l:List UInt8},cutF c l=true→l=cutA c l++c::cutZ c l
 |[],h=>by cases h
 | b :: r, h => by
  unfold cutF at h
  unfold cutA cutZ
  by_cases q:b=c
  ·rw[if_pos q,if_pos q,q];rfl
  ·rw[if_neg q] at h
   rw[if_neg q,if_neg q,List.cons_append,←cut_app c h]
theorem entry_num {s:ByteArray} {k:Int} (h:(entryS s k).2=0):checkE (entryS s k).1=0∧(entryS s k).1.1=k:=by
 have h0:(entry0 s).2=0:=by
  unfold entryS at h
  by_cases q:(entry0 s).2=0
  ·exact q
  ·rw[if_neg q] at h;exact h
 have e:entryS s k=((entry0 s).1,bif (entry0 s).1.1 !=k then 11 else 0):=by unfold entryS;rw[if_pos h0]
 rw[e] at h⊢
 refine⟨?_, ?_⟩
 ·unfold entry0 at h0⊢
  cases h1:shapeX s with
  |true=>rw[h1] at h0;cases h0
  | false =>
   rw[h1,cond_false] at h0
   rw[cond_false]
   cases h2: !((sumS (bodyX s)).toList==(tailX s).toList) with
   |true=>rw[h2] at h0;cases h0
   | false =>
    rw[h2,cond_false] at h0
    rw[cond_false]
    cases h3:okX (bodyX s) with
    |true=>rw[h3] at h0;cases h0
    | false =>
     rw[cond_false]
     unfold okX at h3
     cases h4:(bif !(digitsF (headX (bodyX s))).2 then true else !(readS (splitF (restX (bodyX s)) 32)).2) with
     |true=>rw[h4] at h3;cases h3
     |false=>
      rw[h4,cond_false] at h3
      exact bne_eq_false_iff_eq.1 h3
 ·have h:(bif (entry0 s).1.1 !=k then(11:Int) else 0)=0:=h
  cases h5:((entry0 s).1.1 !=k) with
  |true=>rw[h5] at h;cases h
  |false=>exact bne_eq_false_iff_eq.1 h5
def Z279 (a:Bt) (b:Nat×List Ev):=cutS (ByteArray.extract a b.1 (ByteArray.size a)) (ByteArray.mk (Array.mk [10]))
def Z309 (a:Bt) (b:Nat×List Ev):=ByteArray.size (Z279 a b).1
def Z357 (a:Bt):=[]=(recoverS a).1∧0=(recoverS a).2.1∧26=(recoverS a).2.2
def Z375 (a:Bt) (b:Nat×List Ev):=Nc (Z309 a b)+1
def Z403 (a:Bt) (b:Nat×List Ev):=entryS (Z279 a b).1 (Ln b.2+1)
def Z413 (a:Bt) (b:Nat×List Ev):=(Z403 a b).2
def Z414 (a:Bt) (b:Nat×List Ev):=(Z403 a b).1
def Z421 (a:Nat×List Ev) (b:Bt):=Nc a.1+Z375 b a
def Z422 (a:Bt) (b:Nat×List Ev):=(Z414 a b).2
def Z427 (a:Bt) (b:Nat×List Ev):=(Z422 a b).2
def Z678 (a:Nat×List Ev) (b:Bt):=a.1≤ByteArray.size b∧ByteArray.size b≤1000000∧List.length a.2≤1000∧∃(f:Nat),ByteArray.size b-a.1≤f∧recL f (List.drop a.1 (Z10 b)) (Nc a.1) a.2=recoverS b
theorem ok34:Ok Tryz.prog 34 cRecover:=okW W152 Tryz.f34 (fun xx=>ann0 (annRec xx.1)) fun xx=>by
 obtain⟨(s:ByteArray),_⟩:=xx
 refine(by kernel_rfl:(Br (decide (1000000<Nc (ByteArray.size s))) (Z357 s) (∃(x:Nat×List Ev),Sf s (0=Nc x.1∧List.length x.2=0)∧Z678 x s∧∀(x:Nat×List Ev),Z678 x s→Br (decide (Nc x.1<Nc (ByteArray.size s))) (((0≤Nc x.1∧Nc x.1≤Nc (ByteArray.size s)∧Nc (ByteArray.size s)≤Nc (ByteArray.size s))∧ByteArray.size (ByteArray.extract s x.1 (ByteArray.size s))≤1000000)∧Br (!(Z279 s x).2.2) (x.2=(recoverS s).1∧Nc x.1=(recoverS s).2.1∧28=(recoverS s).2.2) ((Iw (Ln x.2+1)∧Z309 s x≤1000000)∧Br (Z413 s x !=0) (x.2=(recoverS s).1∧Nc x.1=(recoverS s).2.1∧Z413 s x=(recoverS s).2.2) ((List.length x.2+1)*88≤140737488355328∧(Iw (Z375 s x)∧Iw (Z421 x s))∧∃(y:Nat×List Ev),Sf s (Z421 x s=Nc y.1∧x.2++[((Z414 s x).1,(Z422 s x).1,(Z427 s x).1,E2 (Z427 s x).2)]=y.2)∧Z678 y s∧ByteArray.size s-y.1<ByteArray.size s-x.1))) (x.2=(recoverS s).1∧Nc x.1=(recoverS s).2.1∧0=(recoverS s).2.2)))=_).mp ?_
 delta Z10 Z279 Z309 Z357 Z375 Z403 Z413 Z414 Z421 Z422 Z427 Z678 Br Iw Sf Ln Nc E2
 refine⟨fun h=> ?_,fun h=> ?_⟩
 ·have h:1000000<s.size:=by have:=of_decide_eq_true h;omega
  unfold recoverS;rw[if_pos h];exact⟨rfl,rfl,rfl⟩
 have hs:¬1000000<s.size:=by have:=of_decide_eq_false h;omega
 have hl:s.data.toList.length=s.size:=by simp
 refine⟨((0:Nat),[]),by(repeat' first|exact rfl|exact trivial|apply And.intro|exact(Int.add_zero _).symm|exact Int.add_assoc _ _ _|omega|(dsimp only;push_cast;omega)),⟨Nat.zero_le _,by(first|omega|(dsimp only;omega)|(simp only[];omega)),Nat.zero_le _,⟨s.size,by omega,by unfold recoverS;rw[if_neg hs];rfl⟩⟩,fun(x:Nat×List Ev) hx=>⟨fun hlt=> ?_,fun hlt=> ?_⟩⟩
 ·obtain⟨k,o⟩:=x
  obtain⟨k1,k2,k3,f,kf,k4⟩:=hx
  have hlt:k<s.size:=by simpa using hlt
  dsimp only at k1 k3
  dsimp only at kf
  have hf:f=(f-1)+1:=by omega
  have hne:s.data.toList.drop k≠[]:=by
   intro h
   have:=congrArg List.length h
   rw[List.length_drop,hl] at this
   simp at this;omega
  rw[hf,recL,if_neg hne] at k4
  have e0:s.extract k s.size=bs (s.data.toList.drop k):=ext_drop s k
  have e1:((k:Int)).toNat=k:=Int.toNat_natCast k
  simp only[e1,e0,cut_one]
  have k4:(if cutF 10 (s.data.toList.drop k)=false then(o,(k:Int),(28:Int)) else if(entryS (bs (cutA 10 (s.data.toList.drop k))) (o.length+1)).2≠0 then(o,(k:Int),(entryS (bs (cutA 10 (s.data.toList.drop k))) (o.length+1)).2) else recL (f-1) (cutZ 10 (s.data.toList.drop k)) (k+((cutA 10 (s.data.toList.drop k)).length+1)) (o++[(entryS (bs (cutA 10 (s.data.toList.drop k))) (o.length+1)).1]))=recoverS s:=k4
  have hA:=cutA_len 10 (s.data.toList.drop k)
  rw[List.length_drop,hl] at hA
  have hbd:∀l,(bs l).data.toList=l:=fun l=>rfl
  simp only[hbd,bs_size,List.length_drop,hl]
  refine⟨by(repeat' first|apply And.intro|(first|omega|(dsimp only;omega)|(simp only[];omega))),fun h=> ?_,fun h=>⟨⟨by(repeat' first|apply And.intro|(first|omega|(dsimp only;omega)|(simp only[];omega))),by omega⟩,fun h2=> ?_,fun h2=> ?_⟩⟩
  ·have h:cutF 10 (s.data.toList.drop k)=false:=by simpa using h
   rw[if_pos h] at k4
   rw[←k4];exact⟨rfl,rfl,rfl⟩
  ·have h:cutF 10 (s.data.toList.drop k)=true:=by simpa using h
   have h2:(entryS (bs (cutA 10 (s.data.toList.drop k))) (o.length+1)).2≠0:=bne_iff_ne.1 h2
   rw[if_neg (by rw[h];decide),if_pos h2] at k4
   rw[←k4];exact⟨rfl,rfl,rfl⟩
  ·have h:cutF 10 (s.data.toList.drop k)=true:=by simpa using h
   have h2:(entryS (bs (cutA 10 (s.data.toList.drop k))) (o.length+1)).2=0:=bne_eq_false_iff_eq.1 h2
   rw[if_neg (by rw[h];decide),if_neg (by rw[h2];simp)] at k4
   have hc:=cut_app 10 h
   have hlc:=congrArg List.length hc
   rw[List.length_drop,hl,List.length_append,List.length_cons] at hlc
   have hd:s.data.toList.drop (k+((cutA 10 (s.data.toList.drop k)).length+1))=cutZ 10 (s.data.toList.drop k):=by
    rw[←List.drop_drop]
    have:=congrArg (List.drop ((cutA 10 (s.data.toList.drop k)).length+1)) hc
    rw[this,show(cutA 10 (s.data.toList.drop k)).length+1=(cutA 10 (s.data.toList.drop k)).length+1 from rfl]
    simp[List.drop_append]
   have hn:=(entry_num h2)
   have hnum:=within_zero.1 (show withinS (entryS (bs (cutA 10 (s.data.toList.drop k))) (o.length+1)).1.1 1 1000=0 by
    have:=(checkE_zero hn.1).num
    exact within_zero.2 this)
   rw[hn.2] at hnum
   refine⟨by omega,by(repeat' first|apply And.intro|(first|omega|(dsimp only;omega)|(simp only[];omega))),(k+((cutA 10 (s.data.toList.drop k)).length+1),o++[(entryS (bs (cutA 10 (s.data.toList.drop k))) (o.length+1)).1]),by(repeat' first|exact rfl|exact trivial|apply And.intro|exact(Int.add_zero _).symm|exact Int.add_assoc _ _ _|omega|(dsimp only;push_cast;omega)),⟨by(first|omega|(dsimp only;omega)|(simp only[];omega)),k2,by simp only[List.length_append,List.length_singleton];omega,f-1,by(first|omega|(dsimp only;omega)|(simp only[];omega)), ?_⟩,by(first|omega|(dsimp only;omega)|(simp only[];omega))⟩
   dsimp only
   rw[hd]
   exact k4
 ·obtain⟨k,o⟩:=x
  obtain⟨k1,k2,k3,f,kf,k4⟩:=hx
  have hlt:¬k<s.size:=by simpa using hlt
  dsimp only at k1 k3
  have e:s.data.toList.drop k=[]:=List.drop_eq_nil_of_le (by omega)
  have k4:recL f (s.data.toList.drop k) k o=recoverS s:=k4
  rw[e] at k4
  have k5:(o,(k:Int),(0:Int))=recoverS s:=by
   rw[←k4]
   cases f<;>rfl
  rw[←k5]
  exact⟨rfl,rfl,rfl⟩
abbrev W153:=W152.add ok34
theorem itoaS_le (n:Int) (h0: -9223372036854775808≤n) (h1:n≤9223372036854775807):(itoaS n).size≤40:=by
 have:=Lib.itoa_length_le n h0 h1
 have e:(itoaS n).size=(Lib.itoa n).length:=rfl
 omega
theorem sum_le {l:List Nat} {b:Nat} (h:∀x∈l,x≤b):l.sum≤b*l.length:=by
 induction l with
 |nil=>simp
 |cons x l ih=>
  have h1:=h x (List.mem_cons_self ..)
  have h2:=ih fun y hy=>h y (List.mem_cons_of_mem _ hy)
  rw[List.sum_cons,List.length_cons,Nat.mul_succ]
  omega
theorem nameB_le {s:ByteArray} (h:nameB s=true):s.size≤24:=by
 unfold nameB at h
 simp only[Bool.and_eq_true,decide_eq_true_eq] at h
 omega
theorem kind_sz {k:ByteArray} (h:kindK k=true):k.size≤7:=by
 rcases kind_cases h with h|h|h|h|h|h|h|h|h|h|h<;>subst h<;>decide
theorem body_ok {e:Ev} (h:checkE e=0):BodyOk e:=by
 have hE:=checkE_zero h
 have hk:=kind_bd e.2.1
 have h1:=hE.num
 have h2:=hE.nn
 have h3:=hE.nv
 have h4:=kind_sz hE.kind
 refine⟨by omega,by omega,by omega,fun v hv=>by have:=hE.val v hv;omega, ?_⟩
 refine Nat.le_trans (sum_le (b:=41) fun x hx=> ?_) ?_
 ·obtain⟨s,hs,rfl⟩:=List.mem_map.1 hx
  rcases List.mem_cons.1 hs with rfl|hs
  ·have:=itoaS_le e.1 (by omega) (by omega);omega
  rcases List.mem_cons.1 hs with rfl|hs
  ·omega
  rcases List.mem_append.1 hs with hs|hs
  ·have:=nameB_le (hE.name s hs);omega
  ·obtain⟨v,hv,rfl⟩:=List.mem_map.1 hs
   have:=hE.val v hv
   have:=itoaS_le v (by omega) (by omega);omega
 ·unfold bodyL
  simp only[List.length_map,List.length_cons,List.length_append]
  omega
theorem recS_size {e:Ev} (h:BodyOk e):(recS e).size=(bodyS e).size+9:=by
 have h2:=sumS_size (bodyS e)
 unfold recS
 rw[bs_size]
 simp[h2]
def appE (log:ByteArray) (e:Ev):Int:=firstS [(recoverS log).2.2,checkE e,bif e.1 !=((recoverS log).1.length:Int)+1 then 11 else 0]
def appP (log:ByteArray) (e:Ev):ByteArray×Int:=if appE log e≠0 then(bnil,appE log e) else if 1000000<log.size+(recS e).size then(bnil,26) else(bs (log.data.toList++(recS e).data.toList),0)
def cAppend:Con:={args:=[aS,aEv],ress:=[tS,I],owns:=[],pre:=fun(s,e,_)=>[s.size≤1000000000,e.2.2.1.length≤1000000,e.2.2.2.1.length≤1000000,∀s∈e.2.2.1,s.size≤1000000],spec:=fun(s,e,_)=>((appP s e).1,(appP s e).2,())}
theorem recL_len:∀(f:Nat) (l:List UInt8) (a:Int) (o:List Ev),o.length≤1000→(recL f l a o).1.length≤1000
 |0,_,_,_,h=>h
 | f + 1, l, a, o, h => by
  unfold recL
  split
  ·exact h
  split
  ·exact h
  split
  ·exact h
  ·rename_i q
   have q:(entryS (bs (cutA 10 l)) (o.length+1)).2=0:=Decidable.of_not_not q
   have hn:=entry_num q
   have hnum:=(checkE_zero hn.1).num
   rw[hn.2] at hnum
   exact recL_len f _ _ _ (by simp only[List.length_append,List.length_singleton];omega)
theorem recover_len (s:ByteArray):(recoverS s).1.length≤1000:=by
 unfold recoverS
 split
 ·exact Nat.zero_le _
 ·exact recL_len _ _ _ _ (Nat.zero_le _)
def Z652 (a:Bt) (b:Int) (c:Bt) (d:Ls) (e:Li) (f:Bt):=firstS [(recoverS a).2.2,Z57 b c d e f,bif b !=Ln (recoverS a).1+1 then 11 else 0]
def Z710 (a:Ls) (b:Li) (c:Bt):=Z102 a∧Z53 b∧Z402 a∧Iw (Ln (recoverS c).1+1)∧3≤1000000
theorem ok33:Ok Tryz.prog 33 cAppend:=okW W153 Tryz.f33 na fun xx=>by
 obtain⟨(s:ByteArray),⟨(n:Int),(k:ByteArray),(ns:List ByteArray),(vs:List Int),(tx:ByteArray)⟩,_⟩:=xx
 refine(by kernel_rfl:(ByteArray.size s≤1000000000→Z102 ns→Z53 vs→Z402 ns→Z710 ns vs s∧Br (Z652 s n k ns vs tx !=0) (B0=(appP s (n,k,ns,vs,tx)).1∧Z652 s n k ns vs tx=(appP s (n,k,ns,vs,tx)).2) ((BodyOk (n,k,ns,vs,tx)∧Nc (ByteArray.size s+ByteArray.size (recS (n,k,ns,vs,tx)))≤9223372036854775807)∧Br (decide (1000000<Nc (ByteArray.size (ByteArray.mk (Array.mk (Z10 s++(recS (n,k,ns,vs,tx)).data.toList)))))) (B0=(appP s (n,k,ns,vs,tx)).1∧26=(appP s (n,k,ns,vs,tx)).2) (ByteArray.mk (Array.mk (Z10 s++(recS (n,k,ns,vs,tx)).data.toList))=(appP s (n,k,ns,vs,tx)).1∧0=(appP s (n,k,ns,vs,tx)).2)))=_).mp ?_
 delta Z10 Z53 Z57 Z102 Z241 Z402 Z652 Z710 Br Iw Ln Nc B0
 intro hs h1 h2 h3
 have hl:=recover_len s
 have hz:(⟨⟨s.data.toList++(recS (n,k,ns,vs,tx)).data.toList⟩⟩:ByteArray).size=s.size+(recS (n,k,ns,vs,tx)).size:=by
  show(bs _).size=_
  rw[bs_size,List.length_append];simp
 rw[hz]
 refine⟨⟨h1,h2,h3,by(repeat' first|apply And.intro|(first|omega|(dsimp only;omega)|(simp only[];omega))),by decide⟩,fun h=> ?_,fun h=> ?_⟩
 ·have h:appE s (n,k,ns,vs,tx)≠0:=bne_iff_ne.1 h
  unfold appP;rw[if_pos h];exact⟨rfl,rfl⟩
 ·have h:appE s (n,k,ns,vs,tx)=0:=bne_eq_false_iff_eq.1 h
  have hz0:∀{l:List Int},firstS l=0→∀x∈l,x=0:=fun h=>firstS_zero.1 h
  have hc:checkE (n,k,ns,vs,tx)=0:=hz0 h _ (by simp)
  have hb:=body_ok hc
  have hr:=recS_size hb
  have hb2:=bodyS_le hb
  unfold appP
  rw[if_neg (by rw[h];simp)]
  refine⟨⟨hb,by omega⟩,fun h2=> ?_,fun h2=> ?_⟩
  ·have h2:1000000<s.size+(recS (n,k,ns,vs,tx)).size:=by have:=of_decide_eq_true h2;omega
   rw[if_pos h2];exact⟨rfl,rfl⟩
  ·have h2:¬1000000<s.size+(recS (n,k,ns,vs,tx)).size:=by have:=of_decide_eq_false h2;omega
   rw[if_neg h2];exact⟨rfl,rfl⟩
abbrev W154:=W153.add ok33
def cLogM:Con:={args:=[.val false (.list 67 sEv), .fn [(true,sEv)] tS],ress:=[(false, .list 9 .str)],owns:=[true],pre:=fun(l,(q,_),_)=>[l.length≤1000000,∀x∈l,conj (q (x,()))],spec:=fun(l,(_,f),_)=>(l.map fun x=>f (x,()),())}
def Z13 (a:Nat) (b:List Ev):=Bd (Nc a) (Ln b)
def Z37 (a:List Ev):=List.length a≤1000000
def Z69 (a:Nat) (b:List Ev):=decide (Nc a<Ln b)
def Z167 (a:List Ev) (b:Ev):=b∈a
def Z206 (a:Ev×Unit→Bt) (b:Nat) (c:List Ev):=List.map (fun(x:Ev)=>a (x,PUnit.unit)) (List.take b c)
def Z246 (a:List Ev) (b:Nat):=List.getD a b Z181
def Z255 (a:List Ev) (b:Nat):=(Z246 a b).1
def Z262 (a:List Ev) (b:Nat):=(Z246 a b).2.2
def Z265 (a:List Ev) (b:Nat):=(Z246 a b).2.1
def Z272 (a:Nat) (b:List Ev) (c:Nat):=a≤List.length b∧List.length b-a<List.length b-c
def Z273 (a:List Ev) (b:Nat):=(Z262 a b).2
def Z310 (a:List Ev) (b:Ev×Unit→List Prop):=∀(x:Ev),Z167 a x→conj (b (x,PUnit.unit))
def Z735 (a:List Ev) (b:Nat):=(Z255 a b,Z265 a b,(Z262 a b).1,E2 (Z273 a b))
def Z740 (a:List Ev) (b:Nat):=(Z735 a b,PUnit.unit)
def Z754 (a:Ev×Unit→List Prop) (b:List Ev) (c:Nat):=conj (a (Z740 b c))
theorem ok124:Ok Tryz.prog 124 cLogM:=okW W154 Tryz.f124 (fun xx=>ann0 (annMap 67 9 sEv xx.1 tS true xx.2.1.1 xx.2.1.2)) fun xx=>by
 obtain⟨(l:List Ev),⟨(q:Ev×Unit→List Prop),(f:Ev×Unit→ByteArray)⟩,_⟩:=xx
 refine(by kernel_rfl:(Z37 l→Z310 l q→∃(x:Nat),Si (Ln l) (0=Nc x∧Sf l ((fun(x:Ev×PUnit)=>q x)=q∧(fun(x:Ev×PUnit)=>f x)=f∧List.length (Z206 f x l)=0))∧x≤List.length l∧∀(x:Nat),x≤List.length l→Br (Z69 x l) (Tw (Z13 x l)∧(Z754 q l x∧(List.length (Z206 f x l)+1)*16≤140737488355328)∧Z16 x∧∃(y:Nat),Si (Ln l) (Z94 x y∧Sf l ((fun(x:Ev×PUnit)=>q x)=q∧(fun(x:Ev×PUnit)=>f x)=f∧Z206 f x l++[f (Z740 l x)]=Z206 f y l))∧Z272 y l x) (Z206 f x l=List.map (fun(x:Ev)=>f (x,PUnit.unit)) l))=_).mp ?_
 delta Z13 Z16 Z37 Z69 Z94 Z167 Z181 Z206 Z246 Z255 Z262 Z265 Z272 Z273 Z310 Z735 Z740 Z754 Br Iw Bd Tw Sf Si Ln Nc B0 E2
 intro hb hq
 refine⟨(0:Nat),⟨rfl,rfl,rfl,rfl,rfl,by simp⟩,Nat.zero_le _,fun(k:Nat) hk=>⟨fun h=> ?_,fun h=> ?_⟩⟩
 ·have hlt:k<l.length:=by simpa using h
  refine⟨by omega,⟨hq (l.getD k evz) (getD_mem hlt),by simp only[List.length_map,List.length_take];omega⟩,by omega,(k+1:Nat),⟨rfl,by simp,rfl,rfl,rfl, ?_⟩,by omega,by omega⟩
  rw[←take_snoc (d:=evz) hlt,List.map_append];rfl
 ·have hlt:¬k<l.length:=by simpa using h
  rw[List.take_of_length_le (by omega)]
abbrev W155:=W154.add ok124
def cQ (pre:Reg→ByteArray→List Prop) (f:Reg→ByteArray→List ByteArray):Con:={args:=[aReg,aS],ress:=[(false, .list 9 .str)],owns:=[true],pre:=fun(r,s,_)=>pre r s,spec:=fun(r,s,_)=>(f r s,())}
theorem balL_bd {tk st:Int} {S:List Sta} {O:List Ord} {M:List Met} {X:List Out} {Q:List Per} {s:ByteArray} (hr:RegOk (tk,st,S,O,M,X,Q)):∀(l:List Sta) (n:Int),n-3200000000*l.length≤balL st O M s l n∧balL st O M s l n≤n+3200000000*l.length
 |[],n=>by simp[balL]
 | x :: l, n => by
  have hb:=accS2_bd (a:=s) (b:=x.1) hr
  have ih:=balL_bd (s:=s) hr l (bif x.1.toList !=s.toList then n+accS2 st O M s x.1 else n)
  have hd:n-3200000000≤(bif x.1.toList !=s.toList then n+accS2 st O M s x.1 else n)∧(bif x.1.toList !=s.toList then n+accS2 st O M s x.1 else n)≤n+3200000000:=by
   cases x.1.toList !=s.toList<;>simp only[cond_true,cond_false]<;>omega
  simp only[List.length_cons]
  unfold balL
  omega
theorem balS_bd {tk st:Int} {S:List Sta} {O:List Ord} {M:List Met} {X:List Out} {Q:List Per} {s:ByteArray} (hr:RegOk (tk,st,S,O,M,X,Q)): -19200000000≤balS st S O M s∧balS st S O M s≤19200000000:=by
 have h:=balL_bd (s:=s) hr S 0
 have nS:S.length≤6:=hr.nS
 unfold balS
 omega
def qBal:Reg→ByteArray→List ByteArray:=fun(_,st,S,O,M,_) s=>[itoaS (balS st S O M s)]
def cQBal:Con:=cQ (fun r _=>[RegOk r]) qBal
theorem ok195:Ok Tryz.prog 195 cQBal:=okW W155 Tryz.f195 na fun xx=>by
 obtain⟨⟨(tk:Int),(st:Int),(S:List Sta),(O:List Ord),(M:List Met),(X:List Out),(Q:List Per)⟩,(s:ByteArray),_⟩:=xx
 refine(by kernel_rfl:(Z119 tk st S O M X Q→(Z119 tk st S O M X Q∧Iw (balS st S O M s))∧[itoaS (balS st S O M s)]=qBal (tk,st,S,O,M,X,Q) s)=_).mp ?_
 delta Z119 Iw
 intro hr
 have hb:=balS_bd (s:=s) hr
 exact⟨⟨hr,by omega,by omega⟩,rfl⟩
abbrev W156:=W155.add ok195
def qRate:Reg→ByteArray→List ByteArray:=fun(_,_,S,_) s=>[itoaS (staS S s).2.2]
def cQRate:Con:=cQ (fun r s=>[RegOk r,0≤findS r.2.2.1 s]) qRate
theorem ok196:Ok Tryz.prog 196 cQRate:=okW W156 Tryz.f196 na fun xx=>by
 obtain⟨⟨(tk:Int),(st:Int),(S:List Sta),(O:List Ord),(M:List Met),(X:List Out),(Q:List Per)⟩,(s:ByteArray),_⟩:=xx
 refine(by kernel_rfl:(Z119 tk st S O M X Q→Z20 S s→(Z43 S∧Z20 S s∧Iw (staS S s).2.2)∧[itoaS (staS S s).2.2]=qRate (tk,st,S,O,M,X,Q) s)=_).mp ?_
 delta Z20 Z43 Z119 Iw
 intro hr h
 have nS:S.length≤6:=hr.nS
 have hs:0≤(staS S s).2.2∧(staS S s).2.2≤1000:=(staS_ok hr.sta h).pri
 exact⟨⟨by omega,h,by omega,by omega⟩,rfl⟩
abbrev W157:=W156.add ok196
def qBill:Reg→ByteArray→List ByteArray:=fun(_,st,_,O,M,_) s=>[itoaS (billS st M (ordS O s)).2.1,itoaS (billS st M (ordS O s)).2.2.1,itoaS (billS st M (ordS O s)).2.2.2.1,itoaS (billS st M (ordS O s)).2.2.2.2.1,itoaS (billS st M (ordS O s)).2.2.2.2.2]
def cQBill:Con:=cQ (fun r s=>[RegOk r,0≤findO r.2.2.2.1 s]) qBill
def Z552 (a:List Ord) (b:Bt):=((ordS a b).1,(ordS a b).2.1,(ordS a b).2.2.1,E2 (ordS a b).2.2.2.1,(ordS a b).2.2.2.2.1,E2 (ordS a b).2.2.2.2.2)
def Z592 (a:Int) (b:List Met) (c:List Ord) (d:Bt):=(billS a b (Z552 c d)).2
def Z596 (a:Int) (b:List Met) (c:List Ord) (d:Bt):=(Z592 a b c d).1
def Z597 (a:Int) (b:List Met) (c:List Ord) (d:Bt):=(Z592 a b c d).2
def Z600 (a:Int) (b:List Met) (c:List Ord) (d:Bt):=(Z597 a b c d).1
def Z601 (a:Int) (b:List Met) (c:List Ord) (d:Bt):=(Z597 a b c d).2
def Z605 (a:Int) (b:List Met) (c:List Ord) (d:Bt):=(Z601 a b c d).1
def Z606 (a:Int) (b:List Met) (c:List Ord) (d:Bt):=(Z601 a b c d).2
def Z608 (a:Int) (b:List Met) (c:List Ord) (d:Bt):=(Z606 a b c d).2
def Z609 (a:Int) (b:List Met) (c:List Ord) (d:Bt):=(Z606 a b c d).1
theorem ok197:Ok Tryz.prog 197 cQBill:=okW W157 Tryz.f197 na fun xx=>by
 obtain⟨⟨(tk:Int),(st:Int),(S:List Sta),(O:List Ord),(M:List Met),(X:List Out),(Q:List Per)⟩,(s:ByteArray),_⟩:=xx
 refine(by kernel_rfl:(Z119 tk st S O M X Q→0≤findO O s→(Z51 O∧0≤findO O s∧Z119 tk st S O M X Q∧Z552 O s∈O)∧(5≤1000000∧∀(x:Int),x∈[Z596 st M O s,Z600 st M O s,Z605 st M O s,Z609 st M O s,Z608 st M O s]→Iw x)∧[itoaS (Z596 st M O s),itoaS (Z600 st M O s),itoaS (Z605 st M O s),itoaS (Z609 st M O s),itoaS (Z608 st M O s)]=qBill (tk,st,S,O,M,X,Q) s)=_).mp ?_
 delta Z51 Z119 Z552 Z592 Z596 Z597 Z600 Z601 Z605 Z606 Z608 Z609 Iw E2
 intro hr h
 have nO:O.length≤32:=hr.nO
 have hm:=ord_mem h
 have hb:=billS_ok hr hm
 simp only[Prod.eta]
 refine⟨⟨by omega,h,hr,hm⟩,⟨by decide,fun x hx=> ?_⟩,rfl⟩
 have b1:=hb.hours
 have b2:=hb.sent
 have b3:=hb.got
 have b4:=hb.money
 have b5:=hb.fine
 simp only[List.mem_cons,List.not_mem_nil,or_false] at hx
 rcases hx with rfl|rfl|rfl|rfl|rfl<;>omega
abbrev W158:=W157.add ok197
def missT:List Gap→List ByteArray→List ByteArray
 |[],o=>o
 |g::l,o=>missT l (bif decide ((o.length:Int)<512) then o++[g.1,itoaS g.2] else o)
def qMiss:Reg→ByteArray→List ByteArray:=fun(tk,_,_,O,M,_) _=>missT (missS M tk O) []
def cQMiss:Con:=cQ (fun r _=>[RegOk r]) qMiss
abbrev annQMiss (L:List Gap):Ann:={X:=Nat×List ByteArray,σ:=fun(k,o)=>⟨2,[(5, .one (.sl 1)),(11, .one (.sl 0)),(12, .one (.int .i64 L.length)),(13, .one (.int .i64 k))],[(0, .own 200 sGap L),(1, .own 9 .str o)]⟩,inv:=fun(k,o)=>k≤L.length∧o.length≤600∧missT (L.drop k) o=missT L [],mu:=fun(k,_)=>L.length-k}
theorem missH_len {M:List Met} {u:Int} {x:Ord}:∀(n:Nat) (h:Int),(missH M u x h n).length≤n
 |0,_=>Nat.le_refl _
 |n+1,h=>by
  have:=missH_len (M:=M) (u:=u) (x:=x) n (h+1)
  unfold missH
  rw[List.length_append]
  cases countsB x h&&(decide (h<u)&&decide (meterS M x.1 h<0))<;>simp only[cond_true,cond_false,List.length_singleton,List.length_nil]<;>omega
theorem missS_len {S:List Sta} {M:List Met} {u:Int}:∀{O:List Ord},(∀x∈O,OrdOk S x)→(missS M u O).length≤48*O.length
 |[],_=>Nat.le_refl _
 |x::l,h=>by
  have h1:=missS_len (M:=M) (u:=u) (O:=l) fun y hy=>h y (List.mem_cons_of_mem _ hy)
  have h2:=missH_len (M:=M) (u:=u) (x:=x) (x.2.2.2.1.2-x.2.2.2.1.1).toNat x.2.2.2.1.1
  have h3:=spanN_le (h x (List.mem_cons_self ..))
  unfold spanN at h3
  unfold missS missO
  rw[List.length_append,List.length_cons]
  omega
theorem missH_hr {M:List Met} {u:Int} {x:Ord}:∀(n:Nat) (h:Int),∀g∈missH M u x h n,h≤g.2∧g.2<h+n
 |0,_,g,hg=>by cases hg
 | n + 1, h, g, hg => by
  unfold missH at hg
  rcases List.mem_append.1 hg with hg|hg
  ·cases hb:countsB x h&&(decide (h<u)&&decide (meterS M x.1 h<0)) with
   |false=>rw[hb] at hg;cases hg
   |true=>
    rw[hb,cond_true] at hg
    rw[List.mem_singleton.1 hg]
    constructor<;>dsimp only<;>omega
  ·have:=missH_hr n (h+1) g hg
   omega
theorem missS_hr {S:List Sta} {M:List Met} {u:Int}:∀{O:List Ord},(∀x∈O,OrdOk S x)→∀g∈missS M u O,0≤g.2∧g.2≤999999999
 |[],_,g,hg=>by cases hg
 | x :: l, h, g, hg => by
  unfold missS at hg
  rcases List.mem_append.1 hg with hg|hg
  ·have hs:=(h x (List.mem_cons_self ..)).span
   have h1:=hs.lo
   have h2:=hs.mid
   have h3:=hs.hi
   have:=missH_hr _ _ g hg
   omega
  ·exact missS_hr (fun y hy=>h y (List.mem_cons_of_mem _ hy)) g hg
def Z604 (a:Nat×Ls) (b:List Met) (c:Int) (d:List Ord):=a.1≤List.length (missS b c d)∧List.length a.2≤600∧missT (List.drop a.1 (missS b c d)) a.2=missT (missS b c d) []
def Z711 (a:Nat×Ls) (b:List Met) (c:Int) (d:List Ord) (e:Nat×Ls):=Z604 a b c d∧List.length (missS b c d)-a.1<List.length (missS b c d)-e.1
theorem ok200:Ok Tryz.prog 200 cQMiss:=okW W158 Tryz.f200 (fun xx=>ann0 (annQMiss (missS xx.1.2.2.2.2.1 xx.1.1 xx.1.2.2.2.1))) fun xx=>by
 obtain⟨⟨(tk:Int),(st:Int),(S:List Sta),(O:List Ord),(M:List Met),(X:List Out),(Q:List Per)⟩,(s:ByteArray),_⟩:=xx
 refine(by kernel_rfl:(Z119 tk st S O M X Q→Z119 tk st S O M X Q∧∃(x:Nat×List ByteArray),Si (Ln (missS M tk O)) (0=Nc x.1∧Sf (missS M tk O) (List.length x.2=0))∧Z604 x M tk O∧∀(x:Nat×List ByteArray),Z604 x M tk O→Br (decide (Nc x.1<Ln (missS M tk O))) (Tw (Bd (Nc x.1) (Ln (missS M tk O)))∧Br (decide (Ln x.2<512)) ((Iw (List.getD (missS M tk O) x.1 (B0,0)).2∧(List.length x.2+2)*16≤140737488355328)∧Iw (Nc x.1+1)∧∃(y:Nat×List ByteArray),Si (Ln (missS M tk O)) (Nc x.1+1=Nc y.1∧Sf (missS M tk O) (x.2++[(List.getD (missS M tk O) x.1 (B0,0)).1,itoaS (List.getD (missS M tk O) x.1 (B0,0)).2]=y.2))∧Z711 y M tk O x) (Iw (Nc x.1+1)∧∃(y:Nat×List ByteArray),Si (Ln (missS M tk O)) (Nc x.1+1=Nc y.1∧Sf (missS M tk O) (x.2=y.2))∧Z711 y M tk O x)) (x.2=qMiss (tk,st,S,O,M,X,Q) s))=_).mp ?_
 delta Z119 Z604 Z711 Br Iw Bd Tw Sf Si Ln Nc B0
 intro hr
 have nO:O.length≤32:=hr.nO
 have hL:(missS M tk O).length≤48*O.length:=missS_len hr.ord
 have hG:∀g∈missS M tk O,0≤g.2∧g.2≤999999999:=missS_hr hr.ord
 have hq:qMiss (tk,st,S,O,M,X,Q) s=missT (missS M tk O) []:=rfl
 rw[hq]
 refine⟨hr,((0:Nat),[]),by(repeat' first|exact rfl|exact trivial|apply And.intro|exact(Int.add_zero _).symm|exact Int.add_assoc _ _ _|omega|(dsimp only;push_cast;omega)),⟨Nat.zero_le _,Nat.zero_le _,rfl⟩,fun(x:Nat×List ByteArray) hx=>⟨fun hlt=> ?_,fun hlt=> ?_⟩⟩
 ·obtain⟨k,o⟩:=x
  obtain⟨k1,k2,k3⟩:=hx
  have hlt:k<(missS M tk O).length:=by simpa using hlt
  have hg:=hG _ (getD_mem (d:=(bnil,0)) hlt)
  dsimp only at k1 k2 k3
  rw[drop_cons (d:=((bnil,0):Gap)) hlt,missT] at k3
  have hz:((({data:={toList:=[]}}:ByteArray),(0:Int)):Gap)=(bnil,0):=rfl
  simp only[hz]
  refine⟨by(repeat' first|apply And.intro|(first|omega|(dsimp only;omega)|(simp only[];omega))),fun h=>⟨⟨by(repeat' first|apply And.intro|(first|omega|(dsimp only;omega)|(simp only[];omega))),by(first|omega|(dsimp only;omega)|(simp only[];omega))⟩,by(repeat' first|apply And.intro|(first|omega|(dsimp only;omega)|(simp only[];omega))),(k+1,o++[((missS M tk O).getD k (bnil,0)).1,itoaS ((missS M tk O).getD k (bnil,0)).2]),by(repeat' first|exact rfl|exact trivial|apply And.intro|exact(Int.add_zero _).symm|exact Int.add_assoc _ _ _|omega|(dsimp only;push_cast;omega)),⟨by(first|omega|(dsimp only;omega)|(simp only[];omega)), ?_, ?_⟩,by(first|omega|(dsimp only;omega)|(simp only[];omega))⟩,fun h=>⟨by(repeat' first|apply And.intro|(first|omega|(dsimp only;omega)|(simp only[];omega))),(k+1,o),by(repeat' first|exact rfl|exact trivial|apply And.intro|exact(Int.add_zero _).symm|exact Int.add_assoc _ _ _|omega|(dsimp only;push_cast;omega)),⟨by(first|omega|(dsimp only;omega)|(simp only[];omega)),k2, ?_⟩,by(first|omega|(dsimp only;omega)|(simp only[];omega))⟩⟩
  ·have h:=of_decide_eq_true h
   simp only[List.length_append,List.length_cons,List.length_nil]
   omega
  all_goals (rw[h] at k3;exact k3)
 ·obtain⟨k,o⟩:=x
  obtain⟨k1,k2,k3⟩:=hx
  have hlt:¬k<(missS M tk O).length:=by simpa using hlt
  have e:k=(missS M tk O).length:=by dsimp only at k1;omega
  rw[e,List.drop_length,missT] at k3
  exact k3
abbrev W159:=W158.add ok200
def cQIn:Con:={args:=[.val true sOut, .ref 105 sReg],ress:=[Bo],owns:=[],pre:=fun _=>[],spec:=fun(x,(tk,_),_)=>(insideB x.2.2.1 tk,())}
theorem ok203:Ok Tryz.prog 203 cQIn:=okW W159 Tryz.f203 na fun xx=>by
 obtain⟨⟨(n:ByteArray),(f:ByteArray),⟨(a:Int),(b:Int)⟩,(p:Int)⟩,⟨(tk:Int),(st:Int),(S:List Sta),(O:List Ord),(M:List Met),(X:List Out),(Q:List Per)⟩,_⟩:=xx
 refine(by kernel_rfl:(insideB (a,b) tk=insideB (a,b) tk)=_).mp ?_
 rfl
abbrev W160:=W159.add ok203
def cKeptX:Con:={args:=[.val false (.list 188 sOut), .fn [(true,sOut)] Bo],ress:=[(false, .list 188 sOut)],owns:=[true],pre:=fun(l,(q,_),_)=>[l.length≤1000000,∀x∈l,conj (q (x,()))],spec:=fun(l,(_,f),_)=>(l.filter fun x=>f (x,()),())}
def Z190 (a:Out×Unit→Bool) (b:Nat) (c:List Out):=List.filter (fun(x:Out)=>a (x,PUnit.unit)) (List.take b c)
def Z286 (a:Nat) (b:List Out) (c:Nat):=a≤List.length b∧List.length b-a<List.length b-c
theorem ok94:Ok Tryz.prog 94 cKeptX:=okW W160 Tryz.f94 (fun xx=>ann0 (annKept 188 188 sOut xx.1 true xx.2.1.1 xx.2.1.2)) fun xx=>by
 obtain⟨(l:List Out),⟨(q:Out×Unit→List Prop),(f:Out×Unit→Bool)⟩,_⟩:=xx
 refine(by kernel_rfl:(Z50 l→Z325 l q→∃(x:Nat),Si (Ln l) (0=Nc x∧Sf l ((fun(x:Out×PUnit)=>q x)=q∧(fun(x:Out×PUnit)=>f x)=f∧List.length (Z190 f x l)=0))∧x≤List.length l∧∀(x:Nat),x≤List.length l→Br (decide (Nc x<Ln l)) (Tw (Bd (Nc x) (Ln l))∧Z728 q l x∧Br (Z722 f l x) ((List.length (Z190 f x l)+1)*56≤140737488355328∧Z16 x∧∃(y:Nat),Si (Ln l) (Z94 x y∧Sf l ((fun(x:Out×PUnit)=>q x)=q∧(fun(x:Out×PUnit)=>f x)=f∧Z190 f x l++[Z715 l x]=Z190 f y l))∧Z286 y l x) (Z16 x∧∃(y:Nat),Si (Ln l) (Z94 x y∧Sf l ((fun(x:Out×PUnit)=>q x)=q∧(fun(x:Out×PUnit)=>f x)=f∧Z190 f x l=Z190 f y l))∧Z286 y l x)) (Z190 f x l=List.filter (fun(x:Out)=>f (x,PUnit.unit)) l))=_).mp ?_
 delta Z16 Z50 Z94 Z134 Z190 Z219 Z286 Z325 Z715 Z720 Z722 Z728 Br Iw Bd Tw Sf Si Ln Nc B0 E2
 intro hb hq
 refine⟨(0:Nat),⟨rfl,rfl,rfl,rfl,rfl,by simp⟩,Nat.zero_le _,fun(k:Nat) hk=>⟨fun h=> ?_,fun h=> ?_⟩⟩
 ·have hlt:k<l.length:=by simpa using h
  have hf:=filter_le (p:=fun x=>f (x,())) hk
  have ht:=take_snoc (d:=out0) hlt
  refine⟨by omega,hq (l.getD k out0) (getD_mem hlt),fun h1=> ?_,fun h1=> ?_⟩
  ·have h1:f (l.getD k out0,())=true:=h1
   refine⟨by show((List.filter (fun x=>f (x,())) (List.take k l)).length+1)*56≤_;omega,by omega,(k+1:Nat),⟨rfl,by simp,rfl,rfl,rfl, ?_⟩,by omega,by omega⟩
   rw[←ht,List.filter_append,List.filter_cons,if_pos h1];rfl
  ·have h1:f (l.getD k out0,())=false:=h1
   refine⟨by omega,(k+1:Nat),⟨rfl,by simp,rfl,rfl,rfl, ?_⟩,by omega,by omega⟩
   rw[←ht,List.filter_append,List.filter_cons,if_neg (by rw[h1];decide)];simp
 ·have hlt:¬k<l.length:=by simpa using h
  rw[List.take_of_length_le (by omega)]
abbrev W161:=W160.add ok94
def cMapXS:Con:={args:=[.val false (.list 188 sOut), .fn [(true,sOut)] tS],ress:=[(false, .list 9 .str)],owns:=[true],pre:=fun(l,(q,_),_)=>[l.length≤1000000,∀x∈l,conj (q (x,()))],spec:=fun(l,(_,f),_)=>(l.map fun x=>f (x,()),())}
def Z217 (a:Out×Unit→Bt) (b:Nat) (c:List Out):=List.map (fun(x:Out)=>a (x,PUnit.unit)) (List.take b c)
theorem ok202:Ok Tryz.prog 202 cMapXS:=okW W161 Tryz.f202 (fun xx=>ann0 (annMap 188 9 sOut xx.1 tS true xx.2.1.1 xx.2.1.2)) fun xx=>by
 obtain⟨(l:List Out),⟨(q:Out×Unit→List Prop),(f:Out×Unit→ByteArray)⟩,_⟩:=xx
 refine(by kernel_rfl:(Z50 l→Z325 l q→∃(x:Nat),Si (Ln l) (0=Nc x∧Sf l ((fun(x:Out×PUnit)=>q x)=q∧(fun(x:Out×PUnit)=>f x)=f∧List.length (Z217 f x l)=0))∧x≤List.length l∧∀(x:Nat),x≤List.length l→Br (decide (Nc x<Ln l)) (Tw (Bd (Nc x) (Ln l))∧(Z728 q l x∧(List.length (Z217 f x l)+1)*16≤140737488355328)∧Z16 x∧∃(y:Nat),Si (Ln l) (Z94 x y∧Sf l ((fun(x:Out×PUnit)=>q x)=q∧(fun(x:Out×PUnit)=>f x)=f∧Z217 f x l++[f (Z720 l x)]=Z217 f y l))∧Z286 y l x) (Z217 f x l=List.map (fun(x:Out)=>f (x,PUnit.unit)) l))=_).mp ?_
 delta Z16 Z50 Z94 Z134 Z217 Z219 Z286 Z325 Z715 Z720 Z728 Br Iw Bd Tw Sf Si Ln Nc B0 E2
 intro hb hq
 refine⟨(0:Nat),⟨rfl,rfl,rfl,rfl,rfl,by simp⟩,Nat.zero_le _,fun(k:Nat) hk=>⟨fun h=> ?_,fun h=> ?_⟩⟩
 ·have hlt:k<l.length:=by simpa using h
  refine⟨by omega,⟨hq (l.getD k out0) (getD_mem hlt),by simp only[List.length_map,List.length_take];omega⟩,by omega,(k+1:Nat),⟨rfl,by simp,rfl,rfl,rfl, ?_⟩,by omega,by omega⟩
  rw[←take_snoc (d:=out0) hlt,List.map_append];rfl
 ·have hlt:¬k<l.length:=by simpa using h
  rw[List.take_of_length_le (by omega)]
abbrev W162:=W161.add ok202
def cMapPS:Con:={args:=[.val false (.list 235 sPer), .fn [(true,sPer)] tS],ress:=[(false, .list 9 .str)],owns:=[true],pre:=fun(l,(q,_),_)=>[l.length≤1000000,∀x∈l,conj (q (x,()))],spec:=fun(l,(_,f),_)=>(l.map fun x=>f (x,()),())}
def Z214 (a:Per×Unit→Bt) (b:Nat) (c:List Per):=List.map (fun(x:Per)=>a (x,PUnit.unit)) (List.take b c)
theorem ok206:Ok Tryz.prog 206 cMapPS:=okW W162 Tryz.f206 (fun xx=>ann0 (annMap 235 9 sPer xx.1 tS true xx.2.1.1 xx.2.1.2)) fun xx=>by
 obtain⟨(l:List Per),⟨(q:Per×Unit→List Prop),(f:Per×Unit→ByteArray)⟩,_⟩:=xx
 refine(by kernel_rfl:(Z41 l→Z321 l q→∃(x:Nat),Si (Ln l) (0=Nc x∧Sf l ((fun(x:Per×PUnit)=>q x)=q∧(fun(x:Per×PUnit)=>f x)=f∧List.length (Z214 f x l)=0))∧x≤List.length l∧∀(x:Nat),x≤List.length l→Br (decide (Nc x<Ln l)) (Tw (Bd (Nc x) (Ln l))∧(Z420 q l x∧(List.length (Z214 f x l)+1)*16≤140737488355328)∧Z16 x∧∃(y:Nat),Si (Ln l) (Z94 x y∧Sf l ((fun(x:Per×PUnit)=>q x)=q∧(fun(x:Per×PUnit)=>f x)=f∧Z214 f x l++[f (Z377 l x)]=Z214 f y l))∧Z282 y l x) (Z214 f x l=List.map (fun(x:Per)=>f (x,PUnit.unit)) l))=_).mp ?_
 delta Z16 Z41 Z94 Z214 Z282 Z321 Z353 Z377 Z420 Br Iw Bd Tw Sf Si Ln Nc B0 E2
 intro hb hq
 refine⟨(0:Nat),⟨rfl,rfl,rfl,rfl,rfl,by simp⟩,Nat.zero_le _,fun(k:Nat) hk=>⟨fun h=> ?_,fun h=> ?_⟩⟩
 ·have hlt:k<l.length:=by simpa using h
  refine⟨by omega,⟨hq (l.getD k per0) (getD_mem hlt),by simp only[List.length_map,List.length_take];omega⟩,by omega,(k+1:Nat),⟨rfl,by simp,rfl,rfl,rfl, ?_⟩,by omega,by omega⟩
  rw[←take_snoc (d:=per0) hlt,List.map_append];rfl
 ·have hlt:¬k<l.length:=by simpa using h
  rw[List.take_of_length_le (by omega)]
abbrev W163:=W162.add ok206
def qOut:Reg→ByteArray→List ByteArray:=fun(tk,_,_,_,_,X,_) _=>(X.filter fun x=>insideB x.2.2.1 tk).map fun x=>x.1
def cQOut:Con:=cQ (fun r _=>[RegOk r]) qOut
theorem ok201:Ok Tryz.prog 201 cQOut:=okW W163 Tryz.f201 na fun xx=>by
 obtain⟨⟨(tk:Int),(st:Int),(S:List Sta),(O:List Ord),(M:List Met),(X:List Out),(Q:List Per)⟩,(s:ByteArray),_⟩:=xx
 refine(by kernel_rfl:(Z119 tk st S O M X Q→(Z50 X∧Z271 X∧List.length (List.filter (fun(x:Out)=>insideB x.2.2.1 tk) X)≤1000000∧∀(x:Out),x∈List.filter (fun(x:Out)=>insideB x.2.2.1 tk) X→True)∧List.map (fun(x:Out)=>x.1) (List.filter (fun(x:Out)=>insideB x.2.2.1 tk) X)=qOut (tk,st,S,O,M,X,Q) s)=_).mp ?_
 delta Z50 Z119 Z271
 intro hr
 have nX:X.length≤16:=hr.nX
 have:=List.length_filter_le (fun x:Out=>insideB x.2.2.1 tk) X
 exact⟨⟨by omega,fun _ _=>trivial,Nat.le_trans this (by omega),fun _ _=>trivial⟩,rfl⟩
abbrev W164:=W163.add ok201
def qPer:Reg→ByteArray→List ByteArray:=fun(_,_,_,_,_,_,Q) _=>(openS Q).map fun x=>x.1
def cQPer:Con:=cQ (fun r _=>[RegOk r]) qPer
theorem ok205:Ok Tryz.prog 205 cQPer:=okW W164 Tryz.f205 na fun xx=>by
 obtain⟨⟨(tk:Int),(st:Int),(S:List Sta),(O:List Ord),(M:List Met),(X:List Out),(Q:List Per)⟩,(s:ByteArray),_⟩:=xx
 refine(by kernel_rfl:(Z119 tk st S O M X Q→Z586 tk st S O M X Q∧List.map (fun(x:Per)=>x.1) (openS Q)=qPer (tk,st,S,O,M,X,Q) s)=_).mp ?_
 delta Z119 Z586
 intro hr
 have nQ:Q.length≤16:=hr.nQ
 have:=openS_le (Q:=Q)
 exact⟨⟨hr,by omega,fun _ _=>trivial⟩,rfl⟩
abbrev W165:=W164.add ok205
def qSett:Reg→ByteArray→List ByteArray:=fun(_,st,_) _=>[itoaS st]
def cQSett:Con:=cQ (fun r _=>[RegOk r]) qSett
theorem ok209:Ok Tryz.prog 209 cQSett:=okW W165 Tryz.f209 na fun xx=>by
 obtain⟨⟨(tk:Int),(st:Int),(S:List Sta),(O:List Ord),(M:List Met),(X:List Out),(Q:List Per)⟩,(s:ByteArray),_⟩:=xx
 refine(by kernel_rfl:(Z119 tk st S O M X Q→Iw st∧[itoaS st]=qSett (tk,st,S,O,M,X,Q) s)=_).mp ?_
 delta Z119 Iw
 intro hr
 have h1:0≤st∧st≤tk:=hr.st
 have h2:0≤tk∧tk≤999999999:=hr.tk
 exact⟨⟨by omega,by omega⟩,rfl⟩
abbrev W166:=W165.add ok209
end Go.Proofs.YtcibbcfiemeoiaaGreatDoor
namespace Go.Proofs.Tryz
open Go.Proofs.YtcibbcfiemeoiaaGreatDoor
def questU:List (ByteArray×Bool×Int×Option Nat):=[(⟨⟨[98,97,108,97,110,99,101]⟩⟩,true,0,some 195),(⟨⟨[114,97,116,101]⟩⟩,true,0,some 196),(⟨⟨[98,105,108,108]⟩⟩,true,1,some 197),(⟨⟨[109,105,115,115,105,110,103]⟩⟩,false,1,some 200),(⟨⟨[111,117,116,97,103,101,115]⟩⟩,false,2,some 201),(⟨⟨[112,101,114,109,105,116,115]⟩⟩,false,3,some 205),(⟨⟨[115,101,116,116,108,101,100]⟩⟩,false,0,some 209)]
end Go.Proofs.Tryz
namespace Go.Proofs.YtcibbcfiemeoiaaGreatDoor
open Go.Sx
abbrev wBalance:ByteArray:=⟨⟨[98,97,108,97,110,99,101]⟩⟩
abbrev wRate:ByteArray:=⟨⟨[114,97,116,101]⟩⟩
abbrev wBill:ByteArray:=⟨⟨[98,105,108,108]⟩⟩
abbrev wMissing:ByteArray:=⟨⟨[109,105,115,115,105,110,103]⟩⟩
abbrev wOutages:ByteArray:=⟨⟨[111,117,116,97,103,101,115]⟩⟩
abbrev wPermits:ByteArray:=⟨⟨[112,101,114,109,105,116,115]⟩⟩
abbrev wSettled:ByteArray:=⟨⟨[115,101,116,116,108,101,100]⟩⟩
structure NmR (r:Reg):Prop where
 o:∀x∈r.2.2.2.1,x.1.size≤24
 x:∀x∈r.2.2.2.2.2.1,x.1.size≤24
 q:∀x∈r.2.2.2.2.2.2,x.1.size≤24
def HistN (h:Hist):Prop:=∀r∈h.2.2,NmR r
theorem name_at {e:Ev} (h:checkE e=0) (i:Nat):(e.2.2.1.getD i bnil).size≤24:=by
 by_cases hi:i<e.2.2.1.length
 ·exact nameB_le ((checkE_zero h).name _ (getD_mem hi))
 ·rw[List.getD_eq_getElem?_getD,List.getElem?_eq_none (by omega)]
  decide
theorem getD_all {α:Type} {p:α→Prop} {l:List α} {d:α} (h:∀x∈l,p x) (hd:p d) (i:Nat):p (l.getD i d):=by
 by_cases hi:i<l.length
 ·exact h _ (getD_mem hi)
 ·rw[List.getD_eq_getElem?_getD,List.getElem?_eq_none (by omega)]
  exact hd
theorem step_nm {r:Reg} {e:Ev} (hr:NmR r) (hc:checkE e=0):NmR (stepS r e):=by
 have hn:=name_at hc
 obtain⟨tk,st,S,O,M,X,Q⟩:=r
 obtain⟨n,k,ns,vs,tx⟩:=e
 have ho:∀x∈O,x.1.size≤24:=hr.o
 have hx:∀x∈X,x.1.size≤24:=hr.x
 have hq:∀x∈Q,x.1.size≤24:=hr.q
 have hO:∀s,(ordS O s).1.size≤24:=fun s=>getD_all (p:=fun x:Ord=>x.1.size≤24) ho (by decide) _
 have hX:∀s,(outS X s).1.size≤24:=fun s=>getD_all (p:=fun x:Out=>x.1.size≤24) hx (by decide) _
 have hQ:∀s,(perS Q s).1.size≤24:=fun s=>getD_all (p:=fun x:Per=>x.1.size≤24) hq (by decide) _
 unfold stepS doS
 split
 all_goals refine⟨fun y hy=> ?_,fun y hy=> ?_,fun y hy=> ?_⟩
 all_goals first|exact ho y hy|exact hx y hy|exact hq y hy|(rcases mem_snoc hy with h|h;(first|exact ho y h|exact hx y h|exact hq y h);rw[h];exact hn 0)|(rcases mem_set hy with h|h;rw[h];(first|exact hO _|exact hX _|exact hQ _);(first|exact ho y h|exact hx y h|exact hq y h))
theorem add_N {h:Hist} {e:Ev} (hN:HistN h) (ha:addE h e=0):HistN (addH h e):=by
 obtain⟨hc,hacc⟩:=add_zero ha
 obtain⟨E,C,G⟩:=h
 have h0:NmR (nowS G):=by
  unfold nowS
  exact getD_all (p:=NmR) hN ⟨fun x h=>(by cases h),fun x h=>(by cases h),fun x h=>(by cases h)⟩ _
 cases hk:e.2.1.toList==wUndo.toList with
 |true=>
  unfold addH
  rw[hk,cond_true]
  exact fun r hr=>hN r (List.mem_of_mem_take hr)
 |false=>
  unfold addH
  rw[hk,cond_false]
  intro r hr
  rcases mem_snoc hr with hr|rfl
  ·exact hN r hr
  ·exact step_nm h0 hc
theorem now_nm {h:Hist} (hN:HistN h):NmR (nowS h.2.2):=by
 unfold nowS
 exact getD_all (p:=NmR) hN ⟨fun x h=>(by cases h),fun x h=>(by cases h),fun x h=>(by cases h)⟩ _
theorem hist0_N:HistN hist0:=fun r h=>by cases h
abbrev sQst:Sch:= .prod .bool (.prod sI .fnc)
abbrev Qst:=Bool×Int×Option Nat
def questL:List (ByteArray×Qst):=Tryz.questU
def cQuest:ConM:={kT:=9,gk:=false,gv:=true,ks:= .str,vs:=sQst,l:=questL}
theorem wp118:wpFM Tryz.prog W166.g (na ()) (fun _=>na ()) (Sx.look ([]:List (Nat×Func))) Tryz.f118 cQuest:=by
 refine(by kernel_rfl:(Z651∧Sf true ([(wBalance,true,0,some 195),(wRate,true,0,some 196),(wBill,true,1,some 197),(wMissing,false,1,some 200),(wOutages,false,2,some 201),(wPermits,false,3,some 205),(wSettled,false,0,some 209)]=questL))=_).mp ?_
 delta Z651 Sf Lb wBalance wBill wMissing wOutages wPermits wRate wSettled
 exact⟨⟨fun _ _=>rfl,fun _=>rfl⟩,rfl,rfl⟩
theorem ok118:Ok Tryz.prog 118 (ConM.con cQuest):=ok_map (ok_of_wpM mixed W166.ok (by kernel_rfl) (by kernel_rfl) (lib_ok (l:=([]:List (Nat×Func))) (by simp)) (na ()) (fun _=>na ()) wp118)
abbrev W167:=W166.add ok118
def cQuestU:ConM:={kT:=9,gk:=false,gv:=true,ks:= .str,vs:=sQst,l:=Tryz.questU}
theorem ok118U:Ok Tryz.prog 118 (ConM.con cQuestU):=ok118
abbrev W168:=W167.add ok118U
def questD (k:ByteArray):Qst:=(mpGet .str k questL).getD (false,0,none)
def questK (k:ByteArray):Bool:=(mpGet .str k questL).isSome
def none4:ByteArray:=⟨⟨[110,111,110,101]⟩⟩
def ansG (l:List ByteArray):ByteArray:=bif (l.length:Int)==0 then none4 else joinS l ⟨⟨[32]⟩⟩
def askG (named:Bool) (what:Int) (f:Reg→ByteArray→List ByteArray) (r:Reg) (ws:List ByteArray):ByteArray×Int:=
 bif named then(bif (ws.length:Int)==2 then(bif (ws.getD 1 bnil).toList==bnil.toList then(bnil,25) else bif !hasS r what (ws.getD 1 bnil) then(bnil,10) else(ansG (f r (ws.getD 1 bnil)),0)) else(bnil,25))
 else bif (ws.length:Int) !=1 then(bnil,25) else(ansG (f r bnil),0)
def askF (r:Reg) (ws:List ByteArray):ByteArray×Int:=match(questD (ws.getD 0 bnil)).2.2 with
 |some 195=>askG true 0 qBal r ws
 |some 196=>askG true 0 qRate r ws
 |some 197=>askG true 1 qBill r ws
 |some 200=>askG false 1 qMiss r ws
 |some 201=>askG false 2 qOut r ws
 |some 205=>askG false 3 qPer r ws
 |some 209=>askG false 0 qSett r ws
 |_=>(bnil,0)
structure AskOk (h:Hist) (ws:List ByteArray):Prop where
 hist:HistOk h
 nm:HistN h
 len:1≤ws.length
 key:questK (ws.getD 0 bnil)=true
 max:ws.length≤1000000
 siz:∀w∈ws,w.size≤1000000
def cAsk:ConO:={T? :=none,s:=sHist,args:=[.val false (.list 9 .str)],ress:=[tS,I],pre:=fun h (ws,_)=>[AskOk h ws],spec:=fun h (ws,_)=>((askF (nowS h.2.2) ws).1,(askF (nowS h.2.2) ws).2,()),post:=fun h _=>h}
def SmL (l:List ByteArray):Prop:=l.length≤2000∧∀w∈l,w.size≤40
theorem sm_join {l:List ByteArray} (h:SmL l):l.length≤1000000∧(Lib.join (l.map fun x=>x.data.toList) [32]).length≤140737488355328:=by
 refine⟨by have:=h.1;omega,Nat.le_trans (join_len rfl) ?_⟩
 have:∀l:List ByteArray,(∀w∈l,w.size≤40)→((l.map fun x=>x.data.toList).map fun x=>x.length+1).sum≤41*l.length:=by
  intro l
  induction l with
  |nil=>intro _;simp
  |cons x r ih=>
   intro h
   have h1:=ih fun w hw=>h w (List.mem_cons_of_mem _ hw)
   have h2:x.data.toList.length≤40:=h x (List.mem_cons_self ..)
   simp only[List.map_cons,List.sum_cons,List.length_cons]
   omega
 have h1:=this l h.2
 have h2:=h.1
 omega
theorem sm_itoa {l:List Int} (h:l.length≤2000) (hb:∀n∈l,-9223372036854775808≤n∧n≤9223372036854775807):SmL (l.map itoaS):=by
 refine⟨by simpa using h,fun w hw=> ?_⟩
 obtain⟨n,hn,rfl⟩:=List.mem_map.1 hw
 exact itoaS_le n (hb n hn).1 (hb n hn).2
theorem sm_Bal {r:Reg} (hr:RegOk r) (s:ByteArray):SmL (qBal r s):=by
 obtain⟨tk,st,S,O,M,X,Q⟩:=r
 have hb:=balS_bd (s:=s) hr
 exact sm_itoa (l:=[balS st S O M s]) (by simp) fun n hn=>by rw[List.mem_singleton.1 hn];omega
theorem sm_Rate {r:Reg} (hr:RegOk r) {s:ByteArray} (h:0≤findS r.2.2.1 s):SmL (qRate r s):=by
 obtain⟨tk,st,S,O,M,X,Q⟩:=r
 have hs:0≤(staS S s).2.2∧(staS S s).2.2≤1000:=(staS_ok hr.sta h).pri
 exact sm_itoa (l:=[(staS S s).2.2]) (by simp) fun n hn=>by rw[List.mem_singleton.1 hn];omega
theorem sm_Bill {r:Reg} (hr:RegOk r) {s:ByteArray} (h:0≤findO r.2.2.2.1 s):SmL (qBill r s):=by
 obtain⟨tk,st,S,O,M,X,Q⟩:=r
 have hb:=billS_ok hr (ord_mem h)
 have b1:=hb.hours
 have b2:=hb.sent
 have b3:=hb.got
 have b4:=hb.money
 have b5:=hb.fine
 refine sm_itoa (l:=[(billS st M (ordS O s)).2.1,(billS st M (ordS O s)).2.2.1,(billS st M (ordS O s)).2.2.2.1,(billS st M (ordS O s)).2.2.2.2.1,(billS st M (ordS O s)).2.2.2.2.2]) (by simp) fun n hn=> ?_
 simp only[List.mem_cons,List.not_mem_nil,or_false] at hn
 rcases hn with rfl|rfl|rfl|rfl|rfl<;>omega
theorem missT_sm:∀{l:List Gap} {o:List ByteArray},(∀g∈l,g.1.size≤40∧0≤g.2∧g.2≤999999999)→o.length≤514→(∀w∈o,w.size≤40)→SmL (missT l o)
 |[],o,_,h1,h2=>⟨by unfold missT;omega,h2⟩
 | g :: l, o, h, h1, h2 => by
  unfold missT
  have hg:=h g (List.mem_cons_self ..)
  have h':∀x∈l,x.1.size≤40∧0≤x.2∧x.2≤999999999:=fun x hx=>h x (List.mem_cons_of_mem _ hx)
  cases hd:decide ((o.length:Int)<512) with
  |false=>exact missT_sm h' h1 h2
  |true=>
   have hd:=of_decide_eq_true hd
   rw[cond_true]
   refine missT_sm h' (by rw[List.length_append,List.length_cons,List.length_cons,List.length_nil];omega) fun w hw=> ?_
   simp only[List.mem_append,List.mem_cons,List.not_mem_nil,or_false] at hw
   rcases hw with hw|rfl|rfl
   ·exact h2 w hw
   ·exact hg.1
   ·exact itoaS_le _ (by omega) (by omega)
theorem missH_nm {M:List Met} {u:Int} {x:Ord}:∀(n:Nat) (h:Int),∀g∈missH M u x h n,g.1=x.1
 |0,_,g,hg=>by cases hg
 | n + 1, h, g, hg => by
  unfold missH at hg
  rcases List.mem_append.1 hg with hg|hg
  ·cases hb:countsB x h&&(decide (h<u)&&decide (meterS M x.1 h<0)) with
   |false=>rw[hb] at hg;cases hg
   |true=>
    rw[hb,cond_true] at hg
    rw[List.mem_singleton.1 hg]
  ·exact missH_nm n (h+1) g hg
theorem missS_nm {M:List Met} {u:Int}:∀{O:List Ord},(∀x∈O,x.1.size≤24)→∀g∈missS M u O,g.1.size≤24
 |[],_,g,hg=>by cases hg
 | x :: l, h, g, hg => by
  unfold missS at hg
  rcases List.mem_append.1 hg with hg|hg
  ·rw[missH_nm _ _ g hg]
   exact h x (List.mem_cons_self ..)
  ·exact missS_nm (fun y hy=>h y (List.mem_cons_of_mem _ hy)) g hg
theorem sm_Miss {r:Reg} (hr:RegOk r) (hN:NmR r) (s:ByteArray):SmL (qMiss r s):=by
 obtain⟨tk,st,S,O,M,X,Q⟩:=r
 refine missT_sm (fun g hg=>⟨?_,missS_hr hr.ord g hg⟩) (by decide) fun w hw=>by cases hw
 have:=missS_nm hN.o g hg
 omega
theorem sm_Out {r:Reg} (hr:RegOk r) (hN:NmR r) (s:ByteArray):SmL (qOut r s):=by
 obtain⟨tk,st,S,O,M,X,Q⟩:=r
 have nX:X.length≤16:=hr.nX
 have:=List.length_filter_le (fun x:Out=>insideB x.2.2.1 tk) X
 refine⟨by unfold qOut;rw[List.length_map];omega,fun w hw=> ?_⟩
 obtain⟨x,hx,rfl⟩:=List.mem_map.1 hw
 have:=hN.x x (List.mem_filter.1 hx).1
 omega
theorem sm_Per {r:Reg} (hr:RegOk r) (hN:NmR r) (s:ByteArray):SmL (qPer r s):=by
 obtain⟨tk,st,S,O,M,X,Q⟩:=r
 have nQ:Q.length≤16:=hr.nQ
 have:=openS_le (Q:=Q)
 refine⟨by unfold qPer;rw[List.length_map];omega,fun w hw=> ?_⟩
 obtain⟨x,hx,rfl⟩:=List.mem_map.1 hw
 have:=hN.q x (List.mem_filter.1 hx).1
 omega
theorem sm_Sett {r:Reg} (hr:RegOk r) (s:ByteArray):SmL (qSett r s):=by
 obtain⟨tk,st,S,O,M,X,Q⟩:=r
 have h1:0≤st∧st≤tk:=hr.st
 have h2:0≤tk∧tk≤999999999:=hr.tk
 exact sm_itoa (l:=[st]) (by simp) fun n hn=>by rw[List.mem_singleton.1 hn];omega
theorem now_or (G:List Reg):(decide (0<(G.length:Int))=true∧nowS G=G.getD ((G.length:Int)-1).toNat reg0)∨(decide (0<(G.length:Int))=false∧nowS G=reg0):=by
 cases h:decide (0<(G.length:Int)) with
 |true=>exact .inl ⟨rfl,by unfold nowS;congr 1;omega⟩
 |false=>exact .inr ⟨rfl,now_nil h⟩
theorem qd_Balance:questD wBalance=(true,0,some 195):=by kernel_rfl
theorem ask_Balance (r:Reg) (ws:List ByteArray):askF r (wBalance::ws)=askG true 0 qBal r (wBalance::ws):=by
 have:(wBalance::ws).getD 0 bnil=wBalance:=rfl
 unfold askF
 rw[this,qd_Balance]
 rfl
def Z70 (a:List Reg) (b:Ls):=(askF (nowS a) (wBalance::b)).1
def Z129 (a:Ls):=Ln (wBalance::a)==2
def Z153 (a:List Reg) (b:Ls):=0=(askF (nowS a) (wBalance::b)).2
def Z171:=1≤1000000∧1≤140737488355328
def Z173 (a:Ls):= !Lb (Z85 a) B0
def Z256:=ByteArray.mk (Array.mk [110,111,110,101])
def Z461 (a:Ls):=qBal Z306 (Z85 a)
def Z634 (a:TypeId) (b c:List Ev) (d:List Reg) (e:Ls):=Sf true (Sf a (Sf (b,c,d) (B0=Z70 d e∧10=(askF (nowS d) (wBalance::e)).2)))
def Z640 (a:TypeId) (b c:List Ev) (d:List Reg) (e:Ls):=Sf true (Sf a (Sf (b,c,d) (B0=Z70 d e∧25=(askF (nowS d) (wBalance::e)).2)))
def Z707 (a:TypeId) (b c:List Ev) (d:List Reg) (e:Ls):=Sf true (Sf a (Sf (b,c,d) (Z256=Z70 d e∧Z153 d e)))
def Z824 (a:List Reg):=qBal (Z820 a) B0
def Z858 (a:List Reg) (b:Ls):=qBal (Z820 a) (Z85 b)
def Z886 (a:List Reg):=bif true then !hasS (Z820 a) 0 B0 else false
theorem wp119_Balance (T:TypeId) (E C:List Ev) (G:List Reg) (ws:List ByteArray):wpFO Tryz.prog W168.g (na ()) (fun _=>na ()) (Sx.look ([(75,Tryz.f75)]:List (Nat×Func))) Tryz.f119 cAsk T (E,C,G) (wBalance::ws,()):=by
 refine(by kernel_rfl:(AskOk (E,C,G) (wBalance::ws)→Tw (Bd 0 (Ln (wBalance::ws)))∧Br (bif true then Z129 ws else false) (Tw (Bd 1 (Ln (wBalance::ws)))∧Br (bif !true==bif Z129 ws then Z173 ws else false then true else false) (Z640 T E C G ws) (Br (Z97 G) (Z308 G∧Z829 G∧Br (Z893 G ws) (Z634 T E C G ws) (Z821 G∧Br (Ln (Z858 G ws)==0) (Z707 T E C G ws) ((List.length (Z858 G ws)≤1000000∧List.length (Lib.join (List.map (fun(x:ByteArray)=>Z10 x) (Z858 G ws)) [32])≤140737488355328)∧Sf true (Sf T (Sf (E,C,G) (joinS (Z858 G ws) Z123=Z70 G ws∧Z153 G ws)))))) (Z408∧Br (Z588 ws) (Z634 T E C G ws) (Z336∧Br (Ln (Z461 ws)==0) (Z707 T E C G ws) ((List.length (Z461 ws)≤1000000∧List.length (Lib.join (List.map (fun(x:ByteArray)=>Z10 x) (Z461 ws)) [32])≤140737488355328)∧Sf true (Sf T (Sf (E,C,G) (joinS (Z461 ws) Z123=Z70 G ws∧Z153 G ws)))))))) (Br (bif !true==bif Z129 ws then false else false then true else false) (Z640 T E C G ws) (Br (Z97 G) (Z308 G∧Z829 G∧Br (Z886 G) (Z634 T E C G ws) (Z821 G∧Br (Ln (Z824 G)==0) (Z707 T E C G ws) ((List.length (Z824 G)≤1000000∧List.length (Lib.join (List.map (fun(x:ByteArray)=>Z10 x) (Z824 G)) [32])≤140737488355328)∧Sf true (Sf T (Sf (E,C,G) (joinS (Z824 G) Z123=Z70 G ws∧Z153 G ws)))))) (Z408∧Br true (Z634 T E C G ws) (Z336∧Br false (Z707 T E C G ws) (Z171∧Sf true (Sf T (Sf (E,C,G) (joinS (qBal Z306 B0) Z123=Z70 G ws∧Z153 G ws)))))))))=_).mp ?_
 delta Z10 Z70 Z85 Z97 Z123 Z129 Z153 Z171 Z173 Z256 Z274 Z306 Z308 Z336 Z408 Z447 Z457 Z458 Z461 Z481 Z486 Z497 Z502 Z512 Z522 Z588 Z634 Z640 Z707 Z814 Z820 Z821 Z824 Z829 Z858 Z882 Z886 Z893 Br Iw Bd Tw Sf Ln Gt B0 Lb E2 wBalance
 intro ha
 obtain⟨hh,hn,-,-,hmax,hsz⟩:=ha
 have hr:RegOk (nowS G):=now_ok hh
 have hN:NmR (nowS G):=now_nm hn
 have hG:G.length≤1000:=by have:=hh.nE;have:=hh.nC;have:=hh.nG;dsimp only at*;omega
 rw[ask_Balance]
 have hbn:({data:={toList:=[]}}:ByteArray)=bnil:=rfl
 have hl:((wBalance::ws).length:Int)=(ws.length:Int)+1:=by simp
 have ha1:(wBalance::ws).getD 1 bnil=ws.getD 0 bnil:=rfl
 have hz:((0:Int),(0:Int),([]:List Sta),([]:List Ord),([]:List Met),([]:List Out),([]:List Per))=reg0:=rfl
 simp only[hbn,hz,hl,Prod.eta,askG,ha1]
 rcases now_or G with⟨hd,e0⟩|⟨hd,e0⟩
 ·rw[e0] at hr hN⊢
  have hp:=of_decide_eq_true hd
  rw[hd]
  generalize G.getD ((G.length:Int)-1).toNat reg0=r at hr hN⊢
  cases h2:(ws.length:Int)+1==2
  all_goals cases h3:(ws.getD 0 bnil).toList==bnil.toList
  all_goals cases h4:hasS r 0 (ws.getD 0 bnil)
  all_goals cases h5:(((qBal r (ws.getD 0 bnil)).length:Int)==0)
  all_goals simp only[h2,h3,h4,h5,bne,ansG,Bool.not_true,Bool.not_false,cond_true,cond_false,BEq.rfl,Bool.true_beq,Bool.false_beq,reduceCtorEq,false_implies,forall_const,true_and,and_true,and_self]
  all_goals repeat' apply And.intro
  all_goals first|omega|(have:=eq_of_beq h2;omega)|exact hr|exact(sm_join (sm_Bal hr _)).1|exact(sm_join (sm_Bal hr _)).2|rfl|(have:=h4;simpa[hasS] using this)|skip
 ·rw[e0] at hr hN⊢
  rw[hd]
  cases h2:(ws.length:Int)+1==2
  all_goals cases h3:(ws.getD 0 bnil).toList==bnil.toList
  all_goals cases h4:hasS reg0 0 (ws.getD 0 bnil)
  all_goals cases h5:(((qBal reg0 (ws.getD 0 bnil)).length:Int)==0)
  all_goals simp only[h2,h3,h4,h5,bne,ansG,Bool.not_true,Bool.not_false,cond_true,cond_false,BEq.rfl,Bool.true_beq,Bool.false_beq,reduceCtorEq,false_implies,forall_const,true_and,and_true,and_self]
  all_goals repeat' apply And.intro
  all_goals first|omega|(have:=eq_of_beq h2;omega)|exact hr|exact(sm_join (sm_Bal hr _)).1|exact(sm_join (sm_Bal hr _)).2|rfl|(have:=h4;simpa[hasS,reg0] using this)|exact nomatch (show true=false from h5)|exact nomatch (show false=true from h5)
theorem qd_Rate:questD wRate=(true,0,some 196):=by kernel_rfl
theorem ask_Rate (r:Reg) (ws:List ByteArray):askF r (wRate::ws)=askG true 0 qRate r (wRate::ws):=by
 have:(wRate::ws).getD 0 bnil=wRate:=rfl
 unfold askF
 rw[this,qd_Rate]
 rfl
def Z52 (a:List Reg) (b:Ls):=(askF (nowS a) (wRate::b)).1
def Z115 (a:Ls):=Ln (wRate::a)==2
def Z133 (a:List Reg) (b:Ls):=0=(askF (nowS a) (wRate::b)).2
def Z477 (a:Ls):=qRate Z306 (Z85 a)
def Z617 (a:TypeId) (b c:List Ev) (d:List Reg) (e:Ls):=Sf true (Sf a (Sf (b,c,d) (B0=Z52 d e∧25=(askF (nowS d) (wRate::e)).2)))
def Z620 (a:TypeId) (b c:List Ev) (d:List Reg) (e:Ls):=Sf true (Sf a (Sf (b,c,d) (B0=Z52 d e∧10=(askF (nowS d) (wRate::e)).2)))
def Z703 (a:TypeId) (b c:List Ev) (d:List Reg) (e:Ls):=Sf true (Sf a (Sf (b,c,d) (Z256=Z52 d e∧Z133 d e)))
def Z826 (a:List Reg):=qRate (Z820 a) B0
def Z865 (a:List Reg) (b:Ls):=qRate (Z820 a) (Z85 b)
theorem wp119_Rate (T:TypeId) (E C:List Ev) (G:List Reg) (ws:List ByteArray):wpFO Tryz.prog W168.g (na ()) (fun _=>na ()) (Sx.look ([(75,Tryz.f75)]:List (Nat×Func))) Tryz.f119 cAsk T (E,C,G) (wRate::ws,()):=by
 refine(by kernel_rfl:(AskOk (E,C,G) (wRate::ws)→Tw (Bd 0 (Ln (wRate::ws)))∧Br (bif true then Z115 ws else false) (Tw (Bd 1 (Ln (wRate::ws)))∧Br (bif !true==bif Z115 ws then Z173 ws else false then true else false) (Z617 T E C G ws) (Br (Z97 G) (Z308 G∧Z829 G∧Br (Z893 G ws) (Z620 T E C G ws) ((Z821 G∧0≤findS (Z486 G).1 (Z85 ws))∧Br (Ln (Z865 G ws)==0) (Z703 T E C G ws) ((List.length (Z865 G ws)≤1000000∧List.length (Lib.join (List.map (fun(x:ByteArray)=>Z10 x) (Z865 G ws)) [32])≤140737488355328)∧Sf true (Sf T (Sf (E,C,G) (joinS (Z865 G ws) Z123=Z52 G ws∧Z133 G ws)))))) (Z408∧Br (Z588 ws) (Z620 T E C G ws) ((Z336∧0≤findS [] (Z85 ws))∧Br (Ln (Z477 ws)==0) (Z703 T E C G ws) ((List.length (Z477 ws)≤1000000∧List.length (Lib.join (List.map (fun(x:ByteArray)=>Z10 x) (Z477 ws)) [32])≤140737488355328)∧Sf true (Sf T (Sf (E,C,G) (joinS (Z477 ws) Z123=Z52 G ws∧Z133 G ws)))))))) (Br (bif !true==bif Z115 ws then false else false then true else false) (Z617 T E C G ws) (Br (Z97 G) (Z308 G∧Z829 G∧Br (Z886 G) (Z620 T E C G ws) ((Z821 G∧0≤findS (Z486 G).1 B0)∧Br (Ln (Z826 G)==0) (Z703 T E C G ws) ((List.length (Z826 G)≤1000000∧List.length (Lib.join (List.map (fun(x:ByteArray)=>Z10 x) (Z826 G)) [32])≤140737488355328)∧Sf true (Sf T (Sf (E,C,G) (joinS (Z826 G) Z123=Z52 G ws∧Z133 G ws)))))) (Z408∧Br true (Z620 T E C G ws) ((Z336∧0≤findS [] B0)∧Br false (Z703 T E C G ws) (Z171∧Sf true (Sf T (Sf (E,C,G) (joinS (qRate Z306 B0) Z123=Z52 G ws∧Z133 G ws)))))))))=_).mp ?_
 delta Z10 Z52 Z85 Z97 Z115 Z123 Z133 Z171 Z173 Z256 Z274 Z306 Z308 Z336 Z408 Z447 Z457 Z458 Z477 Z481 Z486 Z497 Z502 Z512 Z522 Z588 Z617 Z620 Z703 Z814 Z820 Z821 Z826 Z829 Z865 Z882 Z886 Z893 Br Iw Bd Tw Sf Ln Gt B0 Lb E2 wRate
 intro ha
 obtain⟨hh,hn,-,-,hmax,hsz⟩:=ha
 have hr:RegOk (nowS G):=now_ok hh
 have hN:NmR (nowS G):=now_nm hn
 have hG:G.length≤1000:=by have:=hh.nE;have:=hh.nC;have:=hh.nG;dsimp only at*;omega
 rw[ask_Rate]
 have hbn:({data:={toList:=[]}}:ByteArray)=bnil:=rfl
 have hl:((wRate::ws).length:Int)=(ws.length:Int)+1:=by simp
 have ha1:(wRate::ws).getD 1 bnil=ws.getD 0 bnil:=rfl
 have hz:((0:Int),(0:Int),([]:List Sta),([]:List Ord),([]:List Met),([]:List Out),([]:List Per))=reg0:=rfl
 simp only[hbn,hz,hl,Prod.eta,askG,ha1]
 rcases now_or G with⟨hd,e0⟩|⟨hd,e0⟩
 ·rw[e0] at hr hN⊢
  have hp:=of_decide_eq_true hd
  rw[hd]
  generalize G.getD ((G.length:Int)-1).toNat reg0=r at hr hN⊢
  cases h2:(ws.length:Int)+1==2
  all_goals cases h3:(ws.getD 0 bnil).toList==bnil.toList
  all_goals cases h4:hasS r 0 (ws.getD 0 bnil)
  all_goals cases h5:(((qRate r (ws.getD 0 bnil)).length:Int)==0)
  all_goals simp only[h2,h3,h4,h5,bne,ansG,Bool.not_true,Bool.not_false,cond_true,cond_false,BEq.rfl,Bool.true_beq,Bool.false_beq,reduceCtorEq,false_implies,forall_const,true_and,and_true,and_self]
  all_goals repeat' apply And.intro
  all_goals first|omega|(have:=eq_of_beq h2;omega)|exact hr|exact(sm_join (sm_Rate hr (by have:=h4;simpa[hasS,reg0] using this))).1|exact(sm_join (sm_Rate hr (by have:=h4;simpa[hasS,reg0] using this))).2|rfl|(have:=h4;simpa[hasS] using this)|skip
 ·rw[e0] at hr hN⊢
  rw[hd]
  cases h2:(ws.length:Int)+1==2
  all_goals cases h3:(ws.getD 0 bnil).toList==bnil.toList
  all_goals cases h4:hasS reg0 0 (ws.getD 0 bnil)
  all_goals cases h5:(((qRate reg0 (ws.getD 0 bnil)).length:Int)==0)
  all_goals simp only[h2,h3,h4,h5,bne,ansG,Bool.not_true,Bool.not_false,cond_true,cond_false,BEq.rfl,Bool.true_beq,Bool.false_beq,reduceCtorEq,false_implies,forall_const,true_and,and_true,and_self]
  all_goals repeat' apply And.intro
  all_goals first|omega|(have:=eq_of_beq h2;omega)|exact hr|exact(sm_join (sm_Rate hr (by have:=h4;simpa[hasS,reg0] using this))).1|exact(sm_join (sm_Rate hr (by have:=h4;simpa[hasS,reg0] using this))).2|rfl|(have:=h4;simpa[hasS,reg0] using this)|exact nomatch (show true=false from h5)|exact nomatch (show false=true from h5)
theorem qd_Bill:questD wBill=(true,1,some 197):=by kernel_rfl
theorem ask_Bill (r:Reg) (ws:List ByteArray):askF r (wBill::ws)=askG true 1 qBill r (wBill::ws):=by
 have:(wBill::ws).getD 0 bnil=wBill:=rfl
 unfold askF
 rw[this,qd_Bill]
 rfl
def Z40 (a:List Reg) (b:Ls):=(askF (nowS a) (wBill::b)).1
def Z116 (a:Ls):=Ln (wBill::a)==2
def Z137 (a:List Reg) (b:Ls):=0=(askF (nowS a) (wBill::b)).2
def Z470 (a:Ls):=qBill Z306 (Z85 a)
def Z618 (a:TypeId) (b c:List Ev) (d:List Reg) (e:Ls):=Sf true (Sf a (Sf (b,c,d) (B0=Z40 d e∧25=(askF (nowS d) (wBill::e)).2)))
def Z619 (a:TypeId) (b c:List Ev) (d:List Reg) (e:Ls):=Sf true (Sf a (Sf (b,c,d) (B0=Z40 d e∧10=(askF (nowS d) (wBill::e)).2)))
def Z702 (a:TypeId) (b c:List Ev) (d:List Reg) (e:Ls):=Sf true (Sf a (Sf (b,c,d) (Z256=Z40 d e∧Z137 d e)))
def Z828 (a:List Reg):=qBill (Z820 a) B0
def Z861 (a:List Reg) (b:Ls):=qBill (Z820 a) (Z85 b)
theorem wp119_Bill (T:TypeId) (E C:List Ev) (G:List Reg) (ws:List ByteArray):wpFO Tryz.prog W168.g (na ()) (fun _=>na ()) (Sx.look ([(75,Tryz.f75)]:List (Nat×Func))) Tryz.f119 cAsk T (E,C,G) (wBill::ws,()):=by
 refine(by kernel_rfl:(AskOk (E,C,G) (wBill::ws)→Tw (Bd 0 (Ln (wBill::ws)))∧Br (bif true then Z116 ws else false) (Tw (Bd 1 (Ln (wBill::ws)))∧Br (bif !true==bif Z116 ws then Z173 ws else false then true else false) (Z618 T E C G ws) (Br (Z97 G) (Z308 G∧Z829 G∧Br (Z892 G ws) (Z619 T E C G ws) ((Z821 G∧0≤findO (Z497 G).1 (Z85 ws))∧Br (Ln (Z861 G ws)==0) (Z702 T E C G ws) ((List.length (Z861 G ws)≤1000000∧List.length (Lib.join (List.map (fun(x:ByteArray)=>Z10 x) (Z861 G ws)) [32])≤140737488355328)∧Sf true (Sf T (Sf (E,C,G) (joinS (Z861 G ws) Z123=Z40 G ws∧Z137 G ws)))))) (Z408∧Br (Z589 ws) (Z619 T E C G ws) ((Z336∧0≤findO [] (Z85 ws))∧Br (Ln (Z470 ws)==0) (Z702 T E C G ws) ((List.length (Z470 ws)≤1000000∧List.length (Lib.join (List.map (fun(x:ByteArray)=>Z10 x) (Z470 ws)) [32])≤140737488355328)∧Sf true (Sf T (Sf (E,C,G) (joinS (Z470 ws) Z123=Z40 G ws∧Z137 G ws)))))))) (Br (bif !true==bif Z116 ws then false else false then true else false) (Z618 T E C G ws) (Br (Z97 G) (Z308 G∧Z829 G∧Br (bif true then !hasS (Z820 G) 1 B0 else false) (Z619 T E C G ws) ((Z821 G∧0≤findO (Z497 G).1 B0)∧Br (Ln (Z828 G)==0) (Z702 T E C G ws) ((List.length (Z828 G)≤1000000∧List.length (Lib.join (List.map (fun(x:ByteArray)=>Z10 x) (Z828 G)) [32])≤140737488355328)∧Sf true (Sf T (Sf (E,C,G) (joinS (Z828 G) Z123=Z40 G ws∧Z137 G ws)))))) (Z408∧Br true (Z619 T E C G ws) ((Z336∧0≤findO [] B0)∧Br false (Z702 T E C G ws) ((5≤1000000∧9≤140737488355328)∧Sf true (Sf T (Sf (E,C,G) (joinS (qBill Z306 B0) Z123=Z40 G ws∧Z137 G ws)))))))))=_).mp ?_
 delta Z10 Z40 Z85 Z97 Z116 Z123 Z137 Z173 Z256 Z274 Z306 Z308 Z336 Z408 Z447 Z457 Z458 Z470 Z481 Z486 Z497 Z502 Z512 Z518 Z589 Z618 Z619 Z702 Z814 Z820 Z821 Z828 Z829 Z861 Z881 Z892 Br Iw Bd Tw Sf Ln Gt B0 Lb E2 wBill
 intro ha
 obtain⟨hh,hn,-,-,hmax,hsz⟩:=ha
 have hr:RegOk (nowS G):=now_ok hh
 have hN:NmR (nowS G):=now_nm hn
 have hG:G.length≤1000:=by have:=hh.nE;have:=hh.nC;have:=hh.nG;dsimp only at*;omega
 rw[ask_Bill]
 have hbn:({data:={toList:=[]}}:ByteArray)=bnil:=rfl
 have hl:((wBill::ws).length:Int)=(ws.length:Int)+1:=by simp
 have ha1:(wBill::ws).getD 1 bnil=ws.getD 0 bnil:=rfl
 have hz:((0:Int),(0:Int),([]:List Sta),([]:List Ord),([]:List Met),([]:List Out),([]:List Per))=reg0:=rfl
 simp only[hbn,hz,hl,Prod.eta,askG,ha1]
 rcases now_or G with⟨hd,e0⟩|⟨hd,e0⟩
 ·rw[e0] at hr hN⊢
  have hp:=of_decide_eq_true hd
  rw[hd]
  generalize G.getD ((G.length:Int)-1).toNat reg0=r at hr hN⊢
  cases h2:(ws.length:Int)+1==2
  all_goals cases h3:(ws.getD 0 bnil).toList==bnil.toList
  all_goals cases h4:hasS r 1 (ws.getD 0 bnil)
  all_goals cases h5:(((qBill r (ws.getD 0 bnil)).length:Int)==0)
  all_goals simp only[h2,h3,h4,h5,bne,ansG,Bool.not_true,Bool.not_false,cond_true,cond_false,BEq.rfl,Bool.true_beq,Bool.false_beq,reduceCtorEq,false_implies,forall_const,true_and,and_true,and_self]
  all_goals repeat' apply And.intro
  all_goals first|omega|(have:=eq_of_beq h2;omega)|exact hr|exact(sm_join (sm_Bill hr (by have:=h4;simpa[hasS,reg0] using this))).1|exact(sm_join (sm_Bill hr (by have:=h4;simpa[hasS,reg0] using this))).2|rfl|(have:=h4;simpa[hasS] using this)|skip
 ·rw[e0] at hr hN⊢
  rw[hd]
  cases h2:(ws.length:Int)+1==2
  all_goals cases h3:(ws.getD 0 bnil).toList==bnil.toList
  all_goals cases h4:hasS reg0 1 (ws.getD 0 bnil)
  all_goals cases h5:(((qBill reg0 (ws.getD 0 bnil)).length:Int)==0)
  all_goals simp only[h2,h3,h4,h5,bne,ansG,Bool.not_true,Bool.not_false,cond_true,cond_false,BEq.rfl,Bool.true_beq,Bool.false_beq,reduceCtorEq,false_implies,forall_const,true_and,and_true,and_self]
  all_goals repeat' apply And.intro
  all_goals first|omega|(have:=eq_of_beq h2;omega)|exact hr|exact(sm_join (sm_Bill hr (by have:=h4;simpa[hasS,reg0] using this))).1|exact(sm_join (sm_Bill hr (by have:=h4;simpa[hasS,reg0] using this))).2|rfl|(have:=h4;simpa[hasS,reg0] using this)|exact nomatch (show true=false from h5)|exact nomatch (show false=true from h5)
theorem qd_Missing:questD wMissing=(false,1,some 200):=by kernel_rfl
theorem ask_Missing (r:Reg) (ws:List ByteArray):askF r (wMissing::ws)=askG false 1 qMiss r (wMissing::ws):=by
 have:(wMissing::ws).getD 0 bnil=wMissing:=rfl
 unfold askF
 rw[this,qd_Missing]
 rfl
def Z32 (a:Ls):=Ln (wMissing::a)
def Z77 (a:List Reg) (b:Ls):=(askF (nowS a) (wMissing::b)).1
def Z154 (a:List Reg) (b:Ls):=0=(askF (nowS a) (wMissing::b)).2
def Z170:=0≤1000000∧0≤140737488355328
def Z418 (a:Ls):=bif true then Z32 a !=1 else false
def Z469 (a:Ls):=qMiss Z306 (Z85 a)
def Z631 (a:TypeId) (b c:List Ev) (d:List Reg) (e:Ls):=Sf true (Sf a (Sf (b,c,d) (B0=Z77 d e∧10=(askF (nowS d) (wMissing::e)).2)))
def Z639 (a:TypeId) (b c:List Ev) (d:List Reg) (e:Ls):=Sf true (Sf a (Sf (b,c,d) (B0=Z77 d e∧25=(askF (nowS d) (wMissing::e)).2)))
def Z705 (a:TypeId) (b c:List Ev) (d:List Reg) (e:Ls):=Sf true (Sf a (Sf (b,c,d) (Z256=Z77 d e∧Z154 d e)))
def Z825 (a:List Reg):=qMiss (Z820 a) B0
def Z866 (a:List Reg) (b:Ls):=qMiss (Z820 a) (Z85 b)
theorem wp119_Missing (T:TypeId) (E C:List Ev) (G:List Reg) (ws:List ByteArray):wpFO Tryz.prog W168.g (na ()) (fun _=>na ()) (Sx.look ([(75,Tryz.f75)]:List (Nat×Func))) Tryz.f119 cAsk T (E,C,G) (wMissing::ws,()):=by
 refine(by kernel_rfl:(AskOk (E,C,G) (wMissing::ws)→Tw (Bd 0 (Z32 ws))∧Br false (Tw (Bd 1 (Z32 ws))∧Br (bif !false==bif Z32 ws==2 then Z173 ws else false then true else Z418 ws) (Z639 T E C G ws) (Br (Z97 G) (Z308 G∧Z830 G∧Br false (Z631 T E C G ws) (Z821 G∧Br (Ln (Z866 G ws)==0) (Z705 T E C G ws) ((List.length (Z866 G ws)≤1000000∧List.length (Lib.join (List.map (fun(x:ByteArray)=>Z10 x) (Z866 G ws)) [32])≤140737488355328)∧Sf true (Sf T (Sf (E,C,G) (joinS (Z866 G ws) Z123=Z77 G ws∧Z154 G ws)))))) (Z411∧Br false (Z631 T E C G ws) (Z336∧Br (Ln (Z469 ws)==0) (Z705 T E C G ws) ((List.length (Z469 ws)≤1000000∧List.length (Lib.join (List.map (fun(x:ByteArray)=>Z10 x) (Z469 ws)) [32])≤140737488355328)∧Sf true (Sf T (Sf (E,C,G) (joinS (Z469 ws) Z123=Z77 G ws∧Z154 G ws)))))))) (Br (bif !false==bif Z32 ws==2 then false else false then true else Z418 ws) (Z639 T E C G ws) (Br (Z97 G) (Z308 G∧Z830 G∧Br false (Z631 T E C G ws) (Z821 G∧Br (Ln (Z825 G)==0) (Z705 T E C G ws) ((List.length (Z825 G)≤1000000∧List.length (Lib.join (List.map (fun(x:ByteArray)=>Z10 x) (Z825 G)) [32])≤140737488355328)∧Sf true (Sf T (Sf (E,C,G) (joinS (Z825 G) Z123=Z77 G ws∧Z154 G ws)))))) (Z411∧Br false (Z631 T E C G ws) (Z336∧Br true (Z705 T E C G ws) (Z170∧Sf true (Sf T (Sf (E,C,G) (joinS (qMiss Z306 B0) Z123=Z77 G ws∧Z154 G ws)))))))))=_).mp ?_
 delta Z10 Z32 Z77 Z85 Z97 Z123 Z154 Z170 Z173 Z256 Z274 Z306 Z308 Z336 Z411 Z418 Z447 Z457 Z458 Z469 Z481 Z486 Z497 Z502 Z512 Z631 Z639 Z705 Z814 Z820 Z821 Z825 Z830 Z866 Br Iw Bd Tw Sf Ln Gt B0 Lb E2 wMissing
 intro ha
 obtain⟨hh,hn,-,-,hmax,hsz⟩:=ha
 have hr:RegOk (nowS G):=now_ok hh
 have hN:NmR (nowS G):=now_nm hn
 have hG:G.length≤1000:=by have:=hh.nE;have:=hh.nC;have:=hh.nG;dsimp only at*;omega
 rw[ask_Missing]
 have hbn:({data:={toList:=[]}}:ByteArray)=bnil:=rfl
 have hl:((wMissing::ws).length:Int)=(ws.length:Int)+1:=by simp
 have ha1:(wMissing::ws).getD 1 bnil=ws.getD 0 bnil:=rfl
 have hz:((0:Int),(0:Int),([]:List Sta),([]:List Ord),([]:List Met),([]:List Out),([]:List Per))=reg0:=rfl
 simp only[hbn,hz,hl,Prod.eta,askG,ha1]
 rcases now_or G with⟨hd,e0⟩|⟨hd,e0⟩
 ·rw[e0] at hr hN⊢
  have hp:=of_decide_eq_true hd
  rw[hd]
  generalize G.getD ((G.length:Int)-1).toNat reg0=r at hr hN⊢
  cases h2:(ws.length:Int)+1==1
  all_goals cases h6:(ws.length:Int)+1==2
  all_goals cases h3:(ws.getD 0 bnil).toList==bnil.toList
  all_goals cases h5:(((qMiss r bnil).length:Int)==0)
  all_goals simp only[h2,h3,h5,h6,bne,ansG,Bool.not_true,Bool.not_false,cond_true,cond_false,BEq.rfl,Bool.true_beq,Bool.false_beq,reduceCtorEq,false_implies,forall_const,true_and,and_true,and_self]
  all_goals repeat' apply And.intro
  all_goals first|omega|(have:=eq_of_beq h2;omega)|exact hr|exact(sm_join (sm_Miss hr hN _)).1|exact(sm_join (sm_Miss hr hN _)).2|rfl|(have:=h4;simpa[hasS] using this)|skip
 ·rw[e0] at hr hN⊢
  rw[hd]
  cases h2:(ws.length:Int)+1==1
  all_goals cases h6:(ws.length:Int)+1==2
  all_goals cases h3:(ws.getD 0 bnil).toList==bnil.toList
  all_goals cases h5:(((qMiss reg0 bnil).length:Int)==0)
  all_goals simp only[h2,h3,h5,h6,bne,ansG,Bool.not_true,Bool.not_false,cond_true,cond_false,BEq.rfl,Bool.true_beq,Bool.false_beq,reduceCtorEq,false_implies,forall_const,true_and,and_true,and_self]
  all_goals repeat' apply And.intro
  all_goals first|omega|(have:=eq_of_beq h2;omega)|exact hr|exact(sm_join (sm_Miss hr hN _)).1|exact(sm_join (sm_Miss hr hN _)).2|rfl|(have:=h4;simpa[hasS,reg0] using this)|exact nomatch (show true=false from h5)|exact nomatch (show false=true from h5)
theorem qd_Outages:questD wOutages=(false,2,some 201):=by kernel_rfl
theorem ask_Outages (r:Reg) (ws:List ByteArray):askF r (wOutages::ws)=askG false 2 qOut r (wOutages::ws):=by
 have:(wOutages::ws).getD 0 bnil=wOutages:=rfl
 unfold askF
 rw[this,qd_Outages]
 rfl
def Z34 (a:Ls):=Ln (wOutages::a)
def Z73 (a:List Reg) (b:Ls):=(askF (nowS a) (wOutages::b)).1
def Z156 (a:List Reg) (b:Ls):=0=(askF (nowS a) (wOutages::b)).2
def Z416 (a:Ls):=bif true then Z34 a !=1 else false
def Z459 (a:Ls):=qOut Z306 (Z85 a)
def Z636 (a:TypeId) (b c:List Ev) (d:List Reg) (e:Ls):=Sf true (Sf a (Sf (b,c,d) (B0=Z73 d e∧10=(askF (nowS d) (wOutages::e)).2)))
def Z641 (a:TypeId) (b c:List Ev) (d:List Reg) (e:Ls):=Sf true (Sf a (Sf (b,c,d) (B0=Z73 d e∧25=(askF (nowS d) (wOutages::e)).2)))
def Z706 (a:TypeId) (b c:List Ev) (d:List Reg) (e:Ls):=Sf true (Sf a (Sf (b,c,d) (Z256=Z73 d e∧Z156 d e)))
def Z823 (a:List Reg):=qOut (Z820 a) B0
def Z852 (a:List Reg) (b:Ls):=qOut (Z820 a) (Z85 b)
theorem wp119_Outages (T:TypeId) (E C:List Ev) (G:List Reg) (ws:List ByteArray):wpFO Tryz.prog W168.g (na ()) (fun _=>na ()) (Sx.look ([(75,Tryz.f75)]:List (Nat×Func))) Tryz.f119 cAsk T (E,C,G) (wOutages::ws,()):=by
 refine(by kernel_rfl:(AskOk (E,C,G) (wOutages::ws)→Tw (Bd 0 (Z34 ws))∧Br false (Tw (Bd 1 (Z34 ws))∧Br (bif !false==bif Z34 ws==2 then Z173 ws else false then true else Z416 ws) (Z641 T E C G ws) (Br (Z97 G) (Z308 G∧Z830 G∧Br false (Z636 T E C G ws) (Z821 G∧Br (Ln (Z852 G ws)==0) (Z706 T E C G ws) ((List.length (Z852 G ws)≤1000000∧List.length (Lib.join (List.map (fun(x:ByteArray)=>Z10 x) (Z852 G ws)) [32])≤140737488355328)∧Sf true (Sf T (Sf (E,C,G) (joinS (Z852 G ws) Z123=Z73 G ws∧Z156 G ws)))))) (Z411∧Br false (Z636 T E C G ws) (Z336∧Br (Ln (Z459 ws)==0) (Z706 T E C G ws) ((List.length (Z459 ws)≤1000000∧List.length (Lib.join (List.map (fun(x:ByteArray)=>Z10 x) (Z459 ws)) [32])≤140737488355328)∧Sf true (Sf T (Sf (E,C,G) (joinS (Z459 ws) Z123=Z73 G ws∧Z156 G ws)))))))) (Br (bif !false==bif Z34 ws==2 then false else false then true else Z416 ws) (Z641 T E C G ws) (Br (Z97 G) (Z308 G∧Z830 G∧Br false (Z636 T E C G ws) (Z821 G∧Br (Ln (Z823 G)==0) (Z706 T E C G ws) ((List.length (Z823 G)≤1000000∧List.length (Lib.join (List.map (fun(x:ByteArray)=>Z10 x) (Z823 G)) [32])≤140737488355328)∧Sf true (Sf T (Sf (E,C,G) (joinS (Z823 G) Z123=Z73 G ws∧Z156 G ws)))))) (Z411∧Br false (Z636 T E C G ws) (Z336∧Br true (Z706 T E C G ws) (Z170∧Sf true (Sf T (Sf (E,C,G) (joinS (qOut Z306 B0) Z123=Z73 G ws∧Z156 G ws)))))))))=_).mp ?_
 delta Z10 Z34 Z73 Z85 Z97 Z123 Z156 Z170 Z173 Z256 Z274 Z306 Z308 Z336 Z411 Z416 Z447 Z457 Z458 Z459 Z481 Z486 Z497 Z502 Z512 Z636 Z641 Z706 Z814 Z820 Z821 Z823 Z830 Z852 Br Iw Bd Tw Sf Ln Gt B0 Lb E2 wOutages
 intro ha
 obtain⟨hh,hn,-,-,hmax,hsz⟩:=ha
 have hr:RegOk (nowS G):=now_ok hh
 have hN:NmR (nowS G):=now_nm hn
 have hG:G.length≤1000:=by have:=hh.nE;have:=hh.nC;have:=hh.nG;dsimp only at*;omega
 rw[ask_Outages]
 have hbn:({data:={toList:=[]}}:ByteArray)=bnil:=rfl
 have hl:((wOutages::ws).length:Int)=(ws.length:Int)+1:=by simp
 have ha1:(wOutages::ws).getD 1 bnil=ws.getD 0 bnil:=rfl
 have hz:((0:Int),(0:Int),([]:List Sta),([]:List Ord),([]:List Met),([]:List Out),([]:List Per))=reg0:=rfl
 simp only[hbn,hz,hl,Prod.eta,askG,ha1]
 rcases now_or G with⟨hd,e0⟩|⟨hd,e0⟩
 ·rw[e0] at hr hN⊢
  have hp:=of_decide_eq_true hd
  rw[hd]
  generalize G.getD ((G.length:Int)-1).toNat reg0=r at hr hN⊢
  cases h2:(ws.length:Int)+1==1
  all_goals cases h6:(ws.length:Int)+1==2
  all_goals cases h3:(ws.getD 0 bnil).toList==bnil.toList
  all_goals cases h5:(((qOut r bnil).length:Int)==0)
  all_goals simp only[h2,h3,h5,h6,bne,ansG,Bool.not_true,Bool.not_false,cond_true,cond_false,BEq.rfl,Bool.true_beq,Bool.false_beq,reduceCtorEq,false_implies,forall_const,true_and,and_true,and_self]
  all_goals repeat' apply And.intro
  all_goals first|omega|(have:=eq_of_beq h2;omega)|exact hr|exact(sm_join (sm_Out hr hN _)).1|exact(sm_join (sm_Out hr hN _)).2|rfl|(have:=h4;simpa[hasS] using this)|skip
 ·rw[e0] at hr hN⊢
  rw[hd]
  cases h2:(ws.length:Int)+1==1
  all_goals cases h6:(ws.length:Int)+1==2
  all_goals cases h3:(ws.getD 0 bnil).toList==bnil.toList
  all_goals cases h5:(((qOut reg0 bnil).length:Int)==0)
  all_goals simp only[h2,h3,h5,h6,bne,ansG,Bool.not_true,Bool.not_false,cond_true,cond_false,BEq.rfl,Bool.true_beq,Bool.false_beq,reduceCtorEq,false_implies,forall_const,true_and,and_true,and_self]
  all_goals repeat' apply And.intro
  all_goals first|omega|(have:=eq_of_beq h2;omega)|exact hr|exact(sm_join (sm_Out hr hN _)).1|exact(sm_join (sm_Out hr hN _)).2|rfl|(have:=h4;simpa[hasS,reg0] using this)|exact nomatch (show true=false from h5)|exact nomatch (show false=true from h5)
theorem qd_Permits:questD wPermits=(false,3,some 205):=by kernel_rfl
theorem ask_Permits (r:Reg) (ws:List ByteArray):askF r (wPermits::ws)=askG false 3 qPer r (wPermits::ws):=by
 have:(wPermits::ws).getD 0 bnil=wPermits:=rfl
 unfold askF
 rw[this,qd_Permits]
 rfl
def Z31 (a:Ls):=Ln (wPermits::a)
def Z76 (a:List Reg) (b:Ls):=(askF (nowS a) (wPermits::b)).1
def Z150 (a:List Reg) (b:Ls):=0=(askF (nowS a) (wPermits::b)).2
def Z419 (a:Ls):=bif true then Z31 a !=1 else false
def Z464 (a:Ls):=qPer Z306 (Z85 a)
def Z637 (a:TypeId) (b c:List Ev) (d:List Reg) (e:Ls):=Sf true (Sf a (Sf (b,c,d) (B0=Z76 d e∧25=(askF (nowS d) (wPermits::e)).2)))
def Z642 (a:TypeId) (b c:List Ev) (d:List Reg) (e:Ls):=Sf true (Sf a (Sf (b,c,d) (B0=Z76 d e∧10=(askF (nowS d) (wPermits::e)).2)))
def Z708 (a:TypeId) (b c:List Ev) (d:List Reg) (e:Ls):=Sf true (Sf a (Sf (b,c,d) (Z256=Z76 d e∧Z150 d e)))
def Z822 (a:List Reg):=qPer (Z820 a) B0
def Z854 (a:List Reg) (b:Ls):=qPer (Z820 a) (Z85 b)
theorem wp119_Permits (T:TypeId) (E C:List Ev) (G:List Reg) (ws:List ByteArray):wpFO Tryz.prog W168.g (na ()) (fun _=>na ()) (Sx.look ([(75,Tryz.f75)]:List (Nat×Func))) Tryz.f119 cAsk T (E,C,G) (wPermits::ws,()):=by
 refine(by kernel_rfl:(AskOk (E,C,G) (wPermits::ws)→Tw (Bd 0 (Z31 ws))∧Br false (Tw (Bd 1 (Z31 ws))∧Br (bif !false==bif Z31 ws==2 then Z173 ws else false then true else Z419 ws) (Z637 T E C G ws) (Br (Z97 G) (Z308 G∧Z830 G∧Br false (Z642 T E C G ws) (Z821 G∧Br (Ln (Z854 G ws)==0) (Z708 T E C G ws) ((List.length (Z854 G ws)≤1000000∧List.length (Lib.join (List.map (fun(x:ByteArray)=>Z10 x) (Z854 G ws)) [32])≤140737488355328)∧Sf true (Sf T (Sf (E,C,G) (joinS (Z854 G ws) Z123=Z76 G ws∧Z150 G ws)))))) (Z411∧Br false (Z642 T E C G ws) (Z336∧Br (Ln (Z464 ws)==0) (Z708 T E C G ws) ((List.length (Z464 ws)≤1000000∧List.length (Lib.join (List.map (fun(x:ByteArray)=>Z10 x) (Z464 ws)) [32])≤140737488355328)∧Sf true (Sf T (Sf (E,C,G) (joinS (Z464 ws) Z123=Z76 G ws∧Z150 G ws)))))))) (Br (bif !false==bif Z31 ws==2 then false else false then true else Z419 ws) (Z637 T E C G ws) (Br (Z97 G) (Z308 G∧Z830 G∧Br false (Z642 T E C G ws) (Z821 G∧Br (Ln (Z822 G)==0) (Z708 T E C G ws) ((List.length (Z822 G)≤1000000∧List.length (Lib.join (List.map (fun(x:ByteArray)=>Z10 x) (Z822 G)) [32])≤140737488355328)∧Sf true (Sf T (Sf (E,C,G) (joinS (Z822 G) Z123=Z76 G ws∧Z150 G ws)))))) (Z411∧Br false (Z642 T E C G ws) (Z336∧Br true (Z708 T E C G ws) (Z170∧Sf true (Sf T (Sf (E,C,G) (joinS (qPer Z306 B0) Z123=Z76 G ws∧Z150 G ws)))))))))=_).mp ?_
 delta Z10 Z31 Z76 Z85 Z97 Z123 Z150 Z170 Z173 Z256 Z274 Z306 Z308 Z336 Z411 Z419 Z447 Z457 Z458 Z464 Z481 Z486 Z497 Z502 Z512 Z637 Z642 Z708 Z814 Z820 Z821 Z822 Z830 Z854 Br Iw Bd Tw Sf Ln Gt B0 Lb E2 wPermits
 intro ha
 obtain⟨hh,hn,-,-,hmax,hsz⟩:=ha
 have hr:RegOk (nowS G):=now_ok hh
 have hN:NmR (nowS G):=now_nm hn
 have hG:G.length≤1000:=by have:=hh.nE;have:=hh.nC;have:=hh.nG;dsimp only at*;omega
 rw[ask_Permits]
 have hbn:({data:={toList:=[]}}:ByteArray)=bnil:=rfl
 have hl:((wPermits::ws).length:Int)=(ws.length:Int)+1:=by simp
 have ha1:(wPermits::ws).getD 1 bnil=ws.getD 0 bnil:=rfl
 have hz:((0:Int),(0:Int),([]:List Sta),([]:List Ord),([]:List Met),([]:List Out),([]:List Per))=reg0:=rfl
 simp only[hbn,hz,hl,Prod.eta,askG,ha1]
 rcases now_or G with⟨hd,e0⟩|⟨hd,e0⟩
 ·rw[e0] at hr hN⊢
  have hp:=of_decide_eq_true hd
  rw[hd]
  generalize G.getD ((G.length:Int)-1).toNat reg0=r at hr hN⊢
  cases h2:(ws.length:Int)+1==1
  all_goals cases h6:(ws.length:Int)+1==2
  all_goals cases h3:(ws.getD 0 bnil).toList==bnil.toList
  all_goals cases h5:(((qPer r bnil).length:Int)==0)
  all_goals simp only[h2,h3,h5,h6,bne,ansG,Bool.not_true,Bool.not_false,cond_true,cond_false,BEq.rfl,Bool.true_beq,Bool.false_beq,reduceCtorEq,false_implies,forall_const,true_and,and_true,and_self]
  all_goals repeat' apply And.intro
  all_goals first|omega|(have:=eq_of_beq h2;omega)|exact hr|exact(sm_join (sm_Per hr hN _)).1|exact(sm_join (sm_Per hr hN _)).2|rfl|(have:=h4;simpa[hasS] using this)|skip
 ·rw[e0] at hr hN⊢
  rw[hd]
  cases h2:(ws.length:Int)+1==1
  all_goals cases h6:(ws.length:Int)+1==2
  all_goals cases h3:(ws.getD 0 bnil).toList==bnil.toList
  all_goals cases h5:(((qPer reg0 bnil).length:Int)==0)
  all_goals simp only[h2,h3,h5,h6,bne,ansG,Bool.not_true,Bool.not_false,cond_true,cond_false,BEq.rfl,Bool.true_beq,Bool.false_beq,reduceCtorEq,false_implies,forall_const,true_and,and_true,and_self]
  all_goals repeat' apply And.intro
  all_goals first|omega|(have:=eq_of_beq h2;omega)|exact hr|exact(sm_join (sm_Per hr hN _)).1|exact(sm_join (sm_Per hr hN _)).2|rfl|(have:=h4;simpa[hasS,reg0] using this)|exact nomatch (show true=false from h5)|exact nomatch (show false=true from h5)
theorem qd_Settled:questD wSettled=(false,0,some 209):=by kernel_rfl
theorem ask_Settled (r:Reg) (ws:List ByteArray):askF r (wSettled::ws)=askG false 0 qSett r (wSettled::ws):=by
 have:(wSettled::ws).getD 0 bnil=wSettled:=rfl
 unfold askF
 rw[this,qd_Settled]
 rfl
def Z36 (a:Ls):=Ln (wSettled::a)
def Z71 (a:List Reg) (b:Ls):=(askF (nowS a) (wSettled::b)).1
def Z152 (a:List Reg) (b:Ls):=0=(askF (nowS a) (wSettled::b)).2
def Z415 (a:Ls):=bif true then Z36 a !=1 else false
def Z472 (a:Ls):=qSett Z306 (Z85 a)
def Z635 (a:TypeId) (b c:List Ev) (d:List Reg) (e:Ls):=Sf true (Sf a (Sf (b,c,d) (B0=Z71 d e∧10=(askF (nowS d) (wSettled::e)).2)))
def Z638 (a:TypeId) (b c:List Ev) (d:List Reg) (e:Ls):=Sf true (Sf a (Sf (b,c,d) (B0=Z71 d e∧25=(askF (nowS d) (wSettled::e)).2)))
def Z704 (a:TypeId) (b c:List Ev) (d:List Reg) (e:Ls):=Sf true (Sf a (Sf (b,c,d) (Z256=Z71 d e∧Z152 d e)))
def Z827 (a:List Reg):=qSett (Z820 a) B0
def Z867 (a:List Reg) (b:Ls):=qSett (Z820 a) (Z85 b)
theorem wp119_Settled (T:TypeId) (E C:List Ev) (G:List Reg) (ws:List ByteArray):wpFO Tryz.prog W168.g (na ()) (fun _=>na ()) (Sx.look ([(75,Tryz.f75)]:List (Nat×Func))) Tryz.f119 cAsk T (E,C,G) (wSettled::ws,()):=by
 refine(by kernel_rfl:(AskOk (E,C,G) (wSettled::ws)→Tw (Bd 0 (Z36 ws))∧Br false (Tw (Bd 1 (Z36 ws))∧Br (bif !false==bif Z36 ws==2 then Z173 ws else false then true else Z415 ws) (Z638 T E C G ws) (Br (Z97 G) (Z308 G∧Z830 G∧Br false (Z635 T E C G ws) (Z821 G∧Br (Ln (Z867 G ws)==0) (Z704 T E C G ws) ((List.length (Z867 G ws)≤1000000∧List.length (Lib.join (List.map (fun(x:ByteArray)=>Z10 x) (Z867 G ws)) [32])≤140737488355328)∧Sf true (Sf T (Sf (E,C,G) (joinS (Z867 G ws) Z123=Z71 G ws∧Z152 G ws)))))) (Z411∧Br false (Z635 T E C G ws) (Z336∧Br (Ln (Z472 ws)==0) (Z704 T E C G ws) ((List.length (Z472 ws)≤1000000∧List.length (Lib.join (List.map (fun(x:ByteArray)=>Z10 x) (Z472 ws)) [32])≤140737488355328)∧Sf true (Sf T (Sf (E,C,G) (joinS (Z472 ws) Z123=Z71 G ws∧Z152 G ws)))))))) (Br (bif !false==bif Z36 ws==2 then false else false then true else Z415 ws) (Z638 T E C G ws) (Br (Z97 G) (Z308 G∧Z830 G∧Br false (Z635 T E C G ws) (Z821 G∧Br (Ln (Z827 G)==0) (Z704 T E C G ws) ((List.length (Z827 G)≤1000000∧List.length (Lib.join (List.map (fun(x:ByteArray)=>Z10 x) (Z827 G)) [32])≤140737488355328)∧Sf true (Sf T (Sf (E,C,G) (joinS (Z827 G) Z123=Z71 G ws∧Z152 G ws)))))) (Z411∧Br false (Z635 T E C G ws) (Z336∧Br false (Z704 T E C G ws) (Z171∧Sf true (Sf T (Sf (E,C,G) (joinS (qSett Z306 B0) Z123=Z71 G ws∧Z152 G ws)))))))))=_).mp ?_
 delta Z10 Z36 Z71 Z85 Z97 Z123 Z152 Z171 Z173 Z256 Z274 Z306 Z308 Z336 Z411 Z415 Z447 Z457 Z458 Z472 Z481 Z486 Z497 Z502 Z512 Z635 Z638 Z704 Z814 Z820 Z821 Z827 Z830 Z867 Br Iw Bd Tw Sf Ln Gt B0 Lb E2 wSettled
 intro ha
 obtain⟨hh,hn,-,-,hmax,hsz⟩:=ha
 have hr:RegOk (nowS G):=now_ok hh
 have hN:NmR (nowS G):=now_nm hn
 have hG:G.length≤1000:=by have:=hh.nE;have:=hh.nC;have:=hh.nG;dsimp only at*;omega
 rw[ask_Settled]
 have hbn:({data:={toList:=[]}}:ByteArray)=bnil:=rfl
 have hl:((wSettled::ws).length:Int)=(ws.length:Int)+1:=by simp
 have ha1:(wSettled::ws).getD 1 bnil=ws.getD 0 bnil:=rfl
 have hz:((0:Int),(0:Int),([]:List Sta),([]:List Ord),([]:List Met),([]:List Out),([]:List Per))=reg0:=rfl
 simp only[hbn,hz,hl,Prod.eta,askG,ha1]
 rcases now_or G with⟨hd,e0⟩|⟨hd,e0⟩
 ·rw[e0] at hr hN⊢
  have hp:=of_decide_eq_true hd
  rw[hd]
  generalize G.getD ((G.length:Int)-1).toNat reg0=r at hr hN⊢
  cases h2:(ws.length:Int)+1==1
  all_goals cases h6:(ws.length:Int)+1==2
  all_goals cases h3:(ws.getD 0 bnil).toList==bnil.toList
  all_goals cases h5:(((qSett r bnil).length:Int)==0)
  all_goals simp only[h2,h3,h5,h6,bne,ansG,Bool.not_true,Bool.not_false,cond_true,cond_false,BEq.rfl,Bool.true_beq,Bool.false_beq,reduceCtorEq,false_implies,forall_const,true_and,and_true,and_self]
  all_goals repeat' apply And.intro
  all_goals first|omega|(have:=eq_of_beq h2;omega)|exact hr|exact(sm_join (sm_Sett hr _)).1|exact(sm_join (sm_Sett hr _)).2|rfl|(have:=h4;simpa[hasS] using this)|skip
 ·rw[e0] at hr hN⊢
  rw[hd]
  cases h2:(ws.length:Int)+1==1
  all_goals cases h6:(ws.length:Int)+1==2
  all_goals cases h3:(ws.getD 0 bnil).toList==bnil.toList
  all_goals cases h5:(((qSett reg0 bnil).length:Int)==0)
  all_goals simp only[h2,h3,h5,h6,bne,ansG,Bool.not_true,Bool.not_false,cond_true,cond_false,BEq.rfl,Bool.true_beq,Bool.false_beq,reduceCtorEq,false_implies,forall_const,true_and,and_true,and_self]
  all_goals repeat' apply And.intro
  all_goals first|omega|(have:=eq_of_beq h2;omega)|exact hr|exact(sm_join (sm_Sett hr _)).1|exact(sm_join (sm_Sett hr _)).2|rfl|(have:=h4;simpa[hasS,reg0] using this)|exact nomatch (show true=false from h5)|exact nomatch (show false=true from h5)
theorem quest_cases {k:ByteArray} (h:questK k=true):k=wBalance∨k=wRate∨k=wBill∨k=wMissing∨k=wOutages∨k=wPermits∨k=wSettled:=by
 obtain⟨x,hx,hk⟩:=mpGet_mem h
 have hk:=key_str hk
 unfold questL Tryz.questU at hx
 subst hk
 simp only[List.mem_cons,List.not_mem_nil,or_false] at hx
 rcases hx with rfl|rfl|rfl|rfl|rfl|rfl|rfl
 all_goals simp
theorem wp119 (T:TypeId):∀(x:Hist) (y:ATup [.val false (.list 9 .str)]),wpFO Tryz.prog W168.g (na ()) (fun _=>na ()) (Sx.look ([(75,Tryz.f75)]:List (Nat×Func))) Tryz.f119 cAsk T x y
 | (E, C, G), (l, ()) => by
  refine wpFO_pre (by kernel_rfl) fun hp=> ?_
  have hl:1≤l.length:=AskOk.len hp
  have hk:questK (l.getD 0 bnil)=true:=AskOk.key hp
  obtain⟨w,ws,rfl⟩:∃w ws,l=w::ws:=by
   cases l with
   |nil=>exact absurd hl (by decide)
   |cons w ws=>exact⟨w,ws,rfl⟩
  have hk:questK w=true:=hk
  rcases quest_cases hk with rfl|rfl|rfl|rfl|rfl|rfl|rfl
  ·exact wp119_Balance T E C G ws
  ·exact wp119_Rate T E C G ws
  ·exact wp119_Bill T E C G ws
  ·exact wp119_Missing T E C G ws
  ·exact wp119_Outages T E C G ws
  ·exact wp119_Permits T E C G ws
  ·exact wp119_Settled T E C G ws
theorem ok119:Ok Tryz.prog 119 (ConO.con cAsk):=ok_obj (ok_of_wpO mixed W168.ok (by kernel_rfl) (by kernel_rfl) (lib_ok (l:=([(75,Tryz.f75)]:List (Nat×Func))) (List.forall_mem_cons.2 ⟨by kernel_rfl,by simp⟩)) (fun _ _=>na ()) (fun _ _=>fun _=>na ()) fun T xx yy _=>wp119 T xx yy)
abbrev W169:=W168.add ok119
abbrev W170:=W169.add ok118
def doW (line:ByteArray):List ByteArray:=wordsS line ⟨⟨[32]⟩⟩
def do1 (line:ByteArray):Int:=firstS [bif decide (4096<(line.size:Int)) then 26 else 0,bif line.toList==bnil.toList then 25 else 0]
def do2 (h:Hist) (ws:List ByteArray):Int:=firstS [bif !(readS ws).2 then 25 else 0,bif decide (1000≤(h.1.length:Int)) then 5 else 0]
def evD (h:Hist) (ws:List ByteArray):Ev:=((h.1.length:Int)+1,(readS ws).1.2)
def doneS (n:Int):ByteArray:=bs ([100,111,110,101,32]++(itoaS n).data.toList)
def doF (h:Hist) (line:ByteArray):Hist×ByteArray×Int:=
 if do1 line≠0 then(h,bnil,do1 line) else
 if questK ((doW line).getD 0 bnil)=true then(h,askF (nowS h.2.2) (doW line)) else
 if kindK ((doW line).getD 0 bnil)=false then(h,bnil,13) else
 if do2 h (doW line)≠0 then(h,bnil,do2 h (doW line)) else
 if addE h (evD h (doW line))≠0 then(h,bnil,addE h (evD h (doW line))) else
 (addH h (evD h (doW line)),doneS ((h.1.length:Int)+1),0)
def cDo:ConO:={T? :=some 212,s:=sHist,args:=[aS],ress:=[tS,I],pre:=fun h (l,_)=>[HistI h,HistN h,l.size≤1000000],spec:=fun h (l,_)=>((doF h l).2.1,(doF h l).2.2,()),post:=fun h (l,_)=>(doF h l).1}
theorem doW_sz {l:ByteArray} (h:l.size≤1000000) (h4:l.size≤4096):1≤(doW l).length∧(doW l).length≤1000000∧∀w∈doW l,w.size≤1000000:=by
 have e:doW l=(splB 32 l.data.toList).map bs:=words_split l 32
 have h1:=splB_cnt 32 l.data.toList
 have hl:l.data.toList.length=l.size:=rfl
 rw[e]
 refine⟨?_,by rw[List.length_map];omega,fun w hw=> ?_⟩
 ·rw[List.length_map]
  have:∀l:List UInt8,1≤(splB 32 l).length:=by
   intro l
   induction l with
   |nil=>decide
   |cons c r ih=>unfold splB;split<;>(try split)<;>simp only[List.length_cons,List.length_nil]<;>omega
  exact this _
 ·obtain⟨v,hv,rfl⟩:=List.mem_map.1 hw
  have:=splB_len _ _ v hv
  rw[bs_size];omega
def Z185 (a:Bt):=wordsS a Z123
def Z228 (a:Bt):=(readS (Z185 a)).1.2
def Z237 (a:Bt):=(Z228 a).2
def Z302 (a:Bt):=List.getD (Z185 a) 0 B0
def Z319 (a:Bt):=Tw (Bd 0 (Ln (Z185 a)))
def Z516 (a:Bt):=firstS [bif decide (4096<Nc (ByteArray.size a)) then 26 else 0,bif Lb a B0 then 25 else 0]
def Z633 (a:Bt) (b:List Ev):=firstS [bif !(readS (Z185 a)).2 then 25 else 0,bif decide (1000≤Ln b) then 5 else 0]
def Z712 (a:List Ev) (b:Bt):=(Z2 a,(Z228 b).1,(Z237 b).1,E2 (Z237 b).2)
def Z717 (a b:List Ev) (c:List Reg) (d:Bt):=addE (a,b,c) (Z712 a d)
def Z718 (a b:List Ev) (c:List Reg) (d:Bt):=addP (a,b,c) (Z712 a d)
def Z808 (a b:List Ev) (c:List Reg) (d:Bt):=((Z718 a b c d).1,E2 (Z718 a b c d).2)=(doF (a,b,c) d).1
theorem wp40 (E C:List Ev) (G:List Reg) (line:ByteArray):wpFO Tryz.prog W170.g (na ()) (fun _=>na ()) (Sx.look ([]:List (Nat×Func))) Tryz.f40 cDo 212 (E,C,G) (line,()):=by
 refine(by kernel_rfl:(HistI (E,C,G)→HistN (E,C,G)→ByteArray.size line≤1000000→Br false (Sf true (Sf 212 ((E,C,G)=(doF (E,C,G) line).1∧B0=(doF (E,C,G) line).2.1∧22=(doF (E,C,G) line).2.2))) (2≤1000000∧Br (Z516 line !=0) (Sf true (Sf 212 ((E,C,G)=(doF (E,C,G) line).1∧B0=(doF (E,C,G) line).2.1∧Z516 line=(doF (E,C,G) line).2.2))) ((ByteArray.size line≤1000000∧1≤1)∧Z319 line∧Br (Option.isSome (mpGet Sch.str (Z302 line) questL)) (AskOk (E,C,G) (Z185 line)∧Sf true (Sf 212 ((E,C,G)=(doF (E,C,G) line).1∧(askF (nowS G) (Z185 line)).1=(doF (E,C,G) line).2.1∧(askF (nowS G) (Z185 line)).2=(doF (E,C,G) line).2.2))) (Z319 line∧Br (!Option.isSome (mpGet Sch.str (Z302 line) kindsL)) (Sf true (Sf 212 ((E,C,G)=(doF (E,C,G) line).1∧B0=(doF (E,C,G) line).2.1∧13=(doF (E,C,G) line).2.2))) ((List.length (Z185 line)≤1000000∧∀(w:ByteArray),w∈Z185 line→ByteArray.size w≤1000000)∧2≤1000000∧Br (Z633 line E !=0) (Sf true (Sf 212 ((E,C,G)=(doF (E,C,G) line).1∧B0=(doF (E,C,G) line).2.1∧Z633 line E=(doF (E,C,G) line).2.2))) (Z58 E∧(HistOk (E,C,G)∧Z30 E∧evSz (Z712 E line))∧Br (Z717 E C G line !=0) (Sf true (Sf 212 (Z808 E C G line∧B0=(doF (E,C,G) line).2.1∧Z717 E C G line=(doF (E,C,G) line).2.2))) ((Z58 E∧Nc (5+ByteArray.size (itoaS (Z2 E)))≤9223372036854775807)∧Sf true (Sf 212 (Z808 E C G line∧ByteArray.mk (Array.mk (100::111::110::101::32::([]++(itoaS (Z2 E)).data.toList)))=(doF (E,C,G) line).2.1∧0=(doF (E,C,G) line).2.2)))))))))=_).mp ?_
 delta Z2 Z30 Z58 Z123 Z185 Z228 Z237 Z302 Z319 Z516 Z633 Z712 Z717 Z718 Z808 Br Iw Bd Tw Sf Ln Nc B0 Lb E2
 intro hi hn hsz
 have hbn:({data:={toList:=[]}}:ByteArray)=bnil:=rfl
 have hW:wordsS line {data:={toList:=[32]}}=doW line:=rfl
 have hd1:firstS [bif decide (4096<(line.size:Int)) then 26 else 0,bif line.toList==bnil.toList then 25 else 0]=do1 line:=rfl
 have hd2:firstS [bif !(readS (doW line)).2 then 25 else 0,bif decide (1000≤(E.length:Int)) then 5 else 0]=do2 (E,C,G) (doW line):=rfl
 have hq:(mpGet Sch.str ((doW line).getD 0 bnil) questL).isSome=questK ((doW line).getD 0 bnil):=rfl
 have hk:(mpGet Sch.str ((doW line).getD 0 bnil) kindsL).isSome=kindK ((doW line).getD 0 bnil):=rfl
 have he:((E.length:Int)+1,(readS (doW line)).1.2)=evD (E,C,G) (doW line):=rfl
 simp only[hbn,hW,Prod.eta,hd1,hd2,hq,hk,he]
 have nE:E.length≤1000:=hi.ok.nE
 refine⟨fun h=>(nomatch h),fun _=>⟨by decide,fun h1=> ?_,fun h1=> ?_⟩⟩
 ·have e:doF (E,C,G) line=((E,C,G),bnil,do1 line):=by unfold doF;rw[if_pos (bne_iff_ne.1 h1)]
  rw[e];exact⟨trivial,trivial,rfl,rfl,rfl⟩
 have e1:do1 line=0:=bne_eq_false_iff_eq.1 h1
 have h4:line.size≤4096:=by
  cases hc:decide (4096<(line.size:Int)) with
  |false=>have:=of_decide_eq_false hc;omega
  |true=>rw[do1,hc] at e1;exact nomatch (show(26:Int)=0 from e1)
 obtain⟨w1,w2,w3⟩:=doW_sz hsz h4
 refine⟨⟨hsz,Nat.le_refl _⟩,by(repeat' first|apply And.intro|(first|omega|(dsimp only;omega)|(simp only[];omega))),fun h2=> ?_,fun h2=>⟨by(repeat' first|apply And.intro|(first|omega|(dsimp only;omega)|(simp only[];omega))),fun h3=> ?_,fun h3=> ?_⟩⟩
 ·have e:doF (E,C,G) line=((E,C,G),askF (nowS G) (doW line)):=by unfold doF;rw[if_neg (by rw[e1];decide),if_pos h2]
  rw[e];exact⟨⟨hi.ok,hn,w1,h2,w2,w3⟩,trivial,trivial,rfl,rfl,rfl⟩
 ·have h3:kindK ((doW line).getD 0 bnil)=false:=by simpa using h3
  have e:doF (E,C,G) line=((E,C,G),bnil,13):=by unfold doF;rw[if_neg (by rw[e1];decide),if_neg (by rw[h2];decide),if_pos h3]
  rw[e];exact⟨trivial,trivial,rfl,rfl,rfl⟩
 have h3:kindK ((doW line).getD 0 bnil)=true:=by simpa using h3
 refine⟨⟨w2,w3⟩,by decide,fun h5=> ?_,fun h5=> ?_⟩
 ·have e:doF (E,C,G) line=((E,C,G),bnil,do2 (E,C,G) (doW line)):=by unfold doF;rw[if_neg (by rw[e1];decide),if_neg (by rw[h2];decide),if_neg (by rw[h3];decide),if_pos (bne_iff_ne.1 h5)]
  rw[e];exact⟨trivial,trivial,rfl,rfl,rfl⟩
 have e5:do2 (E,C,G) (doW line)=0:=bne_eq_false_iff_eq.1 h5
 have hE:E.length<1000:=by
  cases hc:decide (1000≤(E.length:Int)) with
  |false=>have:=of_decide_eq_false hc;omega
  |true=>
   rw[do2] at e5
   have hc:decide (1000≤(((E,C,G):Hist).1.length:Int))=true:=hc
   rw[hc] at e5
   cases hx:(readS (doW line)).2<;>rw[hx] at e5<;>exact nomatch e5
 have hz:=readS_sz w3
 have hsz2:evSz (evD (E,C,G) (doW line)):=⟨Nat.le_trans hz.1 (by decide),Nat.le_trans hz.2.1 (by decide),hz.2.2⟩
 refine⟨by(repeat' first|apply And.intro|(first|omega|(dsimp only;omega)|(simp only[];omega))),⟨hi.ok,hE,hsz2⟩,fun h6=> ?_,fun h6=> ?_⟩
 ·have n6:=bne_iff_ne.1 h6
  have e:doF (E,C,G) line=((E,C,G),bnil,addE (E,C,G) (evD (E,C,G) (doW line))):=by unfold doF;rw[if_neg (by rw[e1];decide),if_neg (by rw[h2];decide),if_neg (by rw[h3];decide),if_neg (by rw[e5];decide),if_pos n6]
  have ea:addP (E,C,G) (evD (E,C,G) (doW line))=(E,C,G):=by unfold addP;rw[if_neg n6]
  rw[e,ea];exact⟨trivial,trivial,rfl,rfl,rfl⟩
 ·have e6:addE (E,C,G) (evD (E,C,G) (doW line))=0:=bne_eq_false_iff_eq.1 h6
  have e:doF (E,C,G) line=(addH (E,C,G) (evD (E,C,G) (doW line)),doneS ((E.length:Int)+1),0):=by unfold doF;rw[if_neg (by rw[e1];decide),if_neg (by rw[h2];decide),if_neg (by rw[h3];decide),if_neg (by rw[e5];decide),if_neg (by rw[e6];decide)]
  have ea:addP (E,C,G) (evD (E,C,G) (doW line))=addH (E,C,G) (evD (E,C,G) (doW line)):=by unfold addP;rw[if_pos e6]
  have hi:=itoaS_le ((E.length:Int)+1) (by omega) (by omega)
  rw[e,ea];exact⟨⟨by(repeat' first|apply And.intro|(first|omega|(dsimp only;omega)|(simp only[];omega))),by omega⟩,trivial,trivial,rfl,rfl,rfl⟩
theorem ok40:Ok Tryz.prog 40 (ConO.con cDo):=ok_obj (ok_of_wpO mixed W170.ok (by kernel_rfl) (by kernel_rfl) (lib_ok (l:=([]:List (Nat×Func))) (by simp)) (fun xx yy=>na ()) (fun xx yy=>fun _=>na ()) fun T xx yy hT=>by obtain rfl:=hT _ rfl;exact wp40 xx.1 xx.2.1 xx.2.2 yy.1)
abbrev W171:=W170.add ok40
theorem do_ok {h:Hist} {l:ByteArray} (hi:HistI h) (hn:HistN h):HistI (doF h l).1∧HistN (doF h l).1:=by
 unfold doF
 split
 ·exact⟨hi,hn⟩
 split
 ·exact⟨hi,hn⟩
 split
 ·exact⟨hi,hn⟩
 split
 ·exact⟨hi,hn⟩
 split
 ·exact⟨hi,hn⟩
 rename_i h5 h6
 have e5:do2 h (doW l)=0:=Decidable.of_not_not h5
 have hE:h.1.length<1000:=by
  cases hc:decide (1000≤(h.1.length:Int)) with
  |false=>have:=of_decide_eq_false hc;omega
  |true=>
   rw[do2,hc] at e5
   cases hx:(readS (doW l)).2<;>rw[hx] at e5<;>exact nomatch e5
 exact⟨add_ok hi hE (Decidable.of_not_not h6),add_N hn (Decidable.of_not_not h6)⟩
abbrev sSay:Sch:= .prod .str (.prod .str sI)
abbrev Say:=ByteArray×ByteArray×Int
def say0:Say:=(bnil,bnil,0)
def sayB (r:ByteArray×Int) (x:Say):Bool:=bif r.1.toList !=x.2.1.toList then true else r.2 !=x.2.2
def ansS:Hist→List Say→Hist×Bool
 |h,[]=>(h,true)
 |h,x::l=>bif sayB (doF h x.1).2 x then((doF h x.1).1,false) else ansS (doF h x.1).1 l
def cAns:ConO:={T? :=some 212,s:=sHist,args:=[.val false (.list 147 sSay)],ress:=[Bo],pre:=fun h (l,_)=>[HistI h,HistN h,l.length≤1000000,∀x∈l,x.1.size≤1000000],spec:=fun h (l,_)=>((ansS h l).2,()),post:=fun h (l,_)=>(ansS h l).1}
abbrev annAns (h0:Hist) (l:List Say):Ann:={X:=Hist×Nat,σ:=fun(h,k)=>⟨6,[(0, .one (.ptr 1 0)),(11, .one (.sl 5)),(12, .one (.int .i64 l.length)),(13, .one (.int .i64 k))],[(0, .sus [(0, .one (.ptr 1 0))]),(1, .box 212 [.sl 2, .sl 3, .sl 4]),(2, .own 67 sEv h.1),(3, .own 67 sEv h.2.1),(4, .own 105 sReg h.2.2),(5, .imm 147 sSay l)]⟩,inv:=fun(h,k)=>HistI h∧HistN h∧k≤l.length∧ansS h (l.drop k)=ansS h0 l,mu:=fun(_,k)=>l.length-k}
def Z276 (a:List Say) (b:Hist×Nat):=List.getD a b.2 (B0,B0,0)
def Z468 (a:Hist×Nat) (b:List Say):=doF (Z142 a) (Z276 b a).1
def Z491 (a:Hist×Nat) (b:List Say):=(Z468 a b).2
def Z500 (a:Hist×Nat) (b:List Say):=(Z468 a b).1.2
theorem wp66 (E C:List Ev) (G:List Reg) (l:List Say):wpFO Tryz.prog W171.g (ann0 (annAns (E,C,G) l)) (fun _=>na ()) (Sx.look ([]:List (Nat×Func))) Tryz.f66 cAns 212 (E,C,G) (l,()):=by
 refine(by kernel_rfl:(HistI (E,C,G)→HistN (E,C,G)→List.length l≤1000000→(∀(x:ByteArray×ByteArray×Int),x∈l→ByteArray.size x.1≤1000000)→Br false (Sf true (Sf 212 ((E,C,G)=(ansS (E,C,G) l).1∧false=(ansS (E,C,G) l).2))) (∃(x:(List Ev×List Ev×List Reg)×Nat),Si (Ln l) (0=Nc x.2∧E=x.1.1∧C=x.1.2.1∧G=x.1.2.2∧l=l)∧(HistI x.1∧HistN x.1∧x.2≤List.length l∧ansS x.1 (List.drop x.2 l)=ansS (E,C,G) l)∧∀(x:Hist×Nat),HistI x.1∧HistN x.1∧x.2≤List.length l∧ansS x.1 (List.drop x.2 l)=ansS (E,C,G) l→Br (decide (Nc x.2<Ln l)) (Tw (Bd (Nc x.2) (Ln l))∧(HistI (Z142 x)∧HistN (Z142 x)∧ByteArray.size (Z276 l x).1≤1000000)∧Br (bif !Lb (Z491 x l).1 (Z276 l x).2.1 then true else(Z491 x l).2 !=(Z276 l x).2.2) (Sf true (Sf 212 (((Z468 x l).1.1,E2 (Z500 x l))=(ansS (E,C,G) l).1∧false=(ansS (E,C,G) l).2))) (Z29 x∧∃(y:(List Ev×List Ev×List Reg)×Nat),Si (Ln l) (Nc x.2+1=Nc y.2∧(Z468 x l).1.1=y.1.1∧(Z500 x l).1=y.1.2.1∧(Z500 x l).2=y.1.2.2∧l=l)∧(HistI y.1∧HistN y.1∧y.2≤List.length l∧ansS y.1 (List.drop y.2 l)=ansS (E,C,G) l)∧List.length l-y.2<List.length l-x.2)) (Sf true (Sf 212 (Z142 x=(ansS (E,C,G) l).1∧true=(ansS (E,C,G) l).2)))))=_).mp ?_
 delta Z29 Z142 Z276 Z468 Z491 Z500 Br Iw Bd Tw Sf Si Ln Nc B0 Lb E2
 intro hi hn hl hsz
 refine⟨fun h=>(nomatch h),fun _=>⟨((E,C,G),(0:Nat)),by(repeat' first|exact rfl|exact trivial|apply And.intro|exact(Int.add_zero _).symm|exact Int.add_assoc _ _ _|omega|(dsimp only;push_cast;omega)),⟨hi,hn,Nat.zero_le _,rfl⟩,fun(x:Hist×Nat) hx=>⟨fun hlt=> ?_,fun hlt=> ?_⟩⟩⟩
 ·obtain⟨h,k⟩:=x
  obtain⟨k1,k2,k3,k4⟩:=hx
  have hlt:k<l.length:=by simpa using hlt
  dsimp only at k1 k2 k3 k4
  have hz:(({data:={toList:=[]}}:ByteArray),({data:={toList:=[]}}:ByteArray),(0:Int))=say0:=rfl
  simp only[hz,Prod.eta]
  rw[drop_cons (d:=say0) hlt,ansS] at k4
  have hd:=do_ok (l:=(l.getD k say0).1) k1 k2
  refine⟨by(repeat' first|apply And.intro|(first|omega|(dsimp only;omega)|(simp only[];omega))),⟨k1,k2,hsz _ (getD_mem hlt)⟩,fun h1=> ?_,fun h1=> ?_⟩
  ·have e:sayB (doF h (l.getD k say0).1).2 (l.getD k say0)=true:=h1
   rw[e,cond_true] at k4
   rw[←k4]
   exact⟨trivial,trivial,rfl,rfl⟩
  ·have e:sayB (doF h (l.getD k say0).1).2 (l.getD k say0)=false:=h1
   rw[e,cond_false] at k4
   exact⟨by(repeat' first|apply And.intro|(first|omega|(dsimp only;omega)|(simp only[];omega))),((doF h (l.getD k say0).1).1,k+1),by(repeat' first|exact rfl|exact trivial|apply And.intro|exact(Int.add_zero _).symm|exact Int.add_assoc _ _ _|omega|(dsimp only;push_cast;omega)),⟨hd.1,hd.2,by(first|omega|(dsimp only;omega)|(simp only[];omega)),k4⟩,by(first|omega|(dsimp only;omega)|(simp only[];omega))⟩
 ·obtain⟨h,k⟩:=x
  obtain⟨k1,k2,k3,k4⟩:=hx
  have hlt:¬k<l.length:=by simpa using hlt
  have e:k=l.length:=by dsimp only at k3;omega
  rw[e,List.drop_length,ansS] at k4
  rw[←k4]
  exact⟨rfl,rfl,rfl,rfl⟩
theorem ok66:Ok Tryz.prog 66 (ConO.con cAns):=ok_obj (ok_of_wpO mixed W171.ok (by kernel_rfl) (by kernel_rfl) (lib_ok (l:=([]:List (Nat×Func))) (by simp)) (fun xx yy=>ann0 (annAns (xx.1,xx.2.1,xx.2.2) yy.1)) (fun xx yy=>fun _=>na ()) fun T xx yy hT=>by obtain rfl:=hT _ rfl;exact wp66 xx.1 xx.2.1 xx.2.2 yy.1)
abbrev W172:=W171.add ok66
def cMapOB:Con:={args:=[.val false (.list 130 sOrd), .fn [(true,sOrd)] (true,sBill)],ress:=[(false, .list 129 sBill)],owns:=[true],pre:=fun(l,(q,_),_)=>[l.length≤1000000,∀x∈l,conj (q (x,()))],spec:=fun(l,(_,f),_)=>(l.map fun x=>f (x,()),())}
def Z431 (a:Ord×Unit→Bill) (b:Nat) (c:List Ord):=List.map (fun(x:Ord)=>a (x,PUnit.unit)) (List.take b c)
def Z656 (a:Ord×Unit→Bill) (b:Nat) (c:List Ord):=List.length (Z431 a b c)
def Z803 (a:Ord×Unit→Bill) (b:List Ord) (c:Nat):=a (Z801 b c)
def Z804 (a:Ord×Unit→Bill) (b:List Ord) (c:Nat):=(Z803 a b c).2
def Z805 (a:Ord×Unit→Bill) (b:List Ord) (c:Nat):=(Z804 a b c).2
def Z806 (a:Ord×Unit→Bill) (b:List Ord) (c:Nat):=(Z805 a b c).2
theorem ok125:Ok Tryz.prog 125 cMapOB:=okW W172 Tryz.f125 (fun xx=>ann0 (annMap 130 129 sOrd xx.1 (true,sBill) true xx.2.1.1 xx.2.1.2)) fun xx=>by
 obtain⟨(l:List Ord),⟨(q:Ord×Unit→List Prop),(f:Ord×Unit→Bill)⟩,_⟩:=xx
 refine(by kernel_rfl:(Z51 l→Z320 l q→∃(x:Nat),Si (Ln l) (0=Nc x∧Sf l ((fun(x:Ord×PUnit)=>q x)=q∧(fun(x:Ord×PUnit)=>f x)=f∧Z656 f x l=0))∧x≤List.length l∧∀(x:Nat),x≤List.length l→Br (decide (Nc x<Ln l)) (Tw (Bd (Nc x) (Ln l))∧(Z807 q l x∧(Z656 f x l+1)*56≤140737488355328)∧Z16 x∧∃(y:Nat),Si (Ln l) (Z94 x y∧Sf l ((fun(x:Ord×PUnit)=>q x)=q∧(fun(x:Ord×PUnit)=>f x)=f∧Z431 f x l++[((Z803 f l x).1,(Z804 f l x).1,(Z805 f l x).1,(Z806 f l x).1,E2 (Z806 f l x).2)]=Z431 f y l))∧y≤List.length l∧List.length l-y<List.length l-x) (Z431 f x l=List.map (fun(x:Ord)=>f (x,PUnit.unit)) l))=_).mp ?_
 delta Z16 Z51 Z60 Z94 Z254 Z315 Z320 Z322 Z330 Z342 Z346 Z431 Z656 Z801 Z803 Z804 Z805 Z806 Z807 Br Iw Bd Tw Sf Si Ln Nc B0 E2
 intro hb hq
 refine⟨(0:Nat),⟨rfl,rfl,rfl,rfl,rfl,by simp⟩,Nat.zero_le _,fun(k:Nat) hk=>⟨fun h=> ?_,fun h=> ?_⟩⟩
 ·have hlt:k<l.length:=by simpa using h
  refine⟨by omega,⟨hq (l.getD k ord0) (getD_mem hlt),by simp only[List.length_map,List.length_take];omega⟩,by omega,(k+1:Nat),⟨rfl,by simp,rfl,rfl,rfl, ?_⟩,by omega,by omega⟩
  rw[←take_snoc (d:=ord0) hlt,List.map_append];rfl
 ·have hlt:¬k<l.length:=by simpa using h
  rw[List.take_of_length_le (by omega)]
abbrev W173:=W172.add ok125
def billL (l:List Ev):List Bill:=(regP l).2.2.2.1.map (billS (regP l).2.1 (regP l).2.2.2.2.1)
abbrev W174:=W173
def acntE (l:List Ev) (a b:ByteArray):Int:=firstS [opE l [a,b],bif a.toList==b.toList then 24 else 0]
def acntP (l:List Ev) (a b:ByteArray):Int:=if acntE l a b=0 then accS2 (regP l).2.1 (regP l).2.2.2.1 (regP l).2.2.2.2.1 a b else 0
def cAcnt44:Con:={args:=[.val false (.list 67 sEv),aS,aS],ress:=[I,I],owns:=[],pre:=fun(l,_)=>[lOk l],spec:=fun(l,a,b,_)=>(acntP l a b,acntE l a b,())}
def Z359 (a:List Ev) (b c:Bt):=firstS [opE a [b,c],bif Lb b c then 24 else 0]
theorem ok44:Ok Tryz.prog 44 cAcnt44:=okW W174 Tryz.f44 na fun xx=>by
 obtain⟨(l:List Ev),(a:ByteArray),(b:ByteArray),_⟩:=xx
 refine(by kernel_rfl:(lOk l→(lOk l∧2≤1000000)∧2≤1000000∧Br (Z359 l a b !=0) (0=acntP l a b∧Z359 l a b=acntE l a b) (Z546 l∧accS2 (regP l).2.1 (regP l).2.2.2.1 (regP l).2.2.2.2.1 a b=acntP l a b∧0=acntE l a b))=_).mp ?_
 delta Z359 Z546 Br Lb E2
 intro hl
 refine⟨⟨hl,by decide⟩,by decide,fun h=> ?_,fun h=> ?_⟩
 ·have h:acntE l a b≠0:=bne_iff_ne.1 h
  exact⟨by unfold acntP;rw[if_neg h],rfl⟩
 ·have h:acntE l a b=0:=bne_eq_false_iff_eq.1 h
  exact⟨regP_ok,by unfold acntP;rw[if_pos h],h.symm⟩
abbrev W175:=W174.add ok44
abbrev W176:=W175
def lossP (l:List Ev):(Int×Int)×Int:=if opE l []=0 then lossR (regP l).2.1 (regP l).2.2.2.1 (regP l).2.2.2.2.1 else((0,0),opE l [])
def cLoss46:Con:={args:=[.val false (.list 67 sEv)],ress:=[(true,sSpan),I],owns:=[],pre:=fun(l,_)=>[lOk l],spec:=fun(l,_)=>((lossP l).1,(lossP l).2,())}
abbrev annLoss46 (l:List Ev) (B:List Bill):Ann:={X:=Nat×Int×Int,σ:=fun(k,s,g)=>⟨9,[(2, .one (.ptr 1 0)),(6, .one (.int .i64 s)),(7, .one (.int .i64 g)),(23, .one (.sl 8)),(24, .one (.int .i64 B.length)),(25, .one (.int .i64 k))],[(1, .box 54 [.int .i64 0, .int .i64 0]),(8, .own 129 sBill B)]⟩,inv:=fun(k,s,g)=>k≤B.length∧(0≤s∧s≤48000*k)∧(0≤g∧g≤s)∧sumB (B.drop k) (s,g)=sumB B (0,0),mu:=fun(k,_)=>B.length-k}
def Z550 (a:List Ev):=List.map (fun(x:Ord)=>billS (regP a).2.1 (regP a).2.2.2.2.1 x) (regP a).2.2.2.1
def Z560 (a:List Ev) (b:Nat×Int×Int):=(List.getD (billL a) b.1 (B0,0,0,Z60)).2.2
def Z590 (a:Nat×Int×Int) (b:List Ev):=a.2.1+(Z560 b a).1
def Z594 (a:Nat×Int×Int) (b:List Ev):=a.2.2+(Z560 b a).2.1
def Z696 (a:Nat×Int×Int) (b:List Ev):=a.1≤List.length (billL b)∧(0≤a.2.1∧a.2.1≤48000*Nc a.1)∧(0≤a.2.2∧a.2.2≤a.2.1)∧sumB (List.drop a.1 (billL b)) (E2 a.2)=sumB (billL b) (0,0)
theorem ok46:Ok Tryz.prog 46 cLoss46:=okW W176 Tryz.f46 (fun xx=>ann0 (annLoss46 xx.1 (billL xx.1))) fun xx=>by
 obtain⟨(l:List Ev),_⟩:=xx
 refine(by kernel_rfl:(lOk l→(lOk l∧0≤1000000)∧Br (opE l [] !=0) ((0,0)=(lossP l).1∧opE l []=(lossP l).2) ((List.length (regP l).2.2.2.1≤1000000∧∀(x:Ord),x∈(regP l).2.2.2.1→Z546 l∧x∈(regP l).2.2.2.1)∧∃(x:Nat×Int×Int),(0=x.2.1∧0=x.2.2∧Ln (Z550 l)=Ln (billL l)∧0=Nc x.1∧Si 0 (Si 0 (Z550 l=billL l)))∧Z696 x l∧∀(x:Nat×Int×Int),Z696 x l→Br (decide (Nc x.1<Ln (billL l))) (Tw (Bd (Nc x.1) (Ln (billL l)))∧Iw (Z590 x l)∧Iw (Z594 x l)∧Iw (Nc x.1+1)∧∃(y:Nat×Int×Int),(Z590 x l=y.2.1∧Z594 x l=y.2.2∧Si (Ln (billL l)) (Nc x.1+1=Nc y.1∧Si 0 (Si 0 (billL l=billL l))))∧Z696 y l∧List.length (billL l)-y.1<List.length (billL l)-x.1) (Br (x.2.1==0) ((0,0)=(lossP l).1∧6=(lossP l).2) ((Iw (x.2.1-x.2.2)∧(0≤x.2.1-x.2.2∧x.2.1-x.2.2≤1000000000000)∧1≤x.2.1∧x.2.1≤1000000000000)∧E2 (lowS (x.2.1-x.2.2) x.2.1)=(lossP l).1∧0=(lossP l).2))))=_).mp ?_
 delta Z60 Z546 Z550 Z560 Z590 Z594 Z696 Br Iw Bd Tw Si Ln Nc B0 E2
 intro hl
 have hr:=regP_ok (l:=l)
 have nO:(regP l).2.2.2.1.length≤32:=hr.nO
 simp only[Prod.eta]
 refine⟨⟨hl,by decide⟩,fun h=> ?_,fun h=>⟨⟨Nat.le_trans nO (by decide),fun x hx=>⟨hr,hx⟩⟩, ?_⟩⟩
 ·have h:=bne_iff_ne.1 h
  unfold lossP;rw[if_neg h]
  exact⟨rfl,rfl⟩
 have h:opE l []=0:=bne_eq_false_iff_eq.1 h
 have hB:∀b∈billL l,BillOk b:=fun b hb=>by
  obtain⟨x,hx,rfl⟩:=List.mem_map.1 hb
  exact billS_ok hr hx
 have nB:(billL l).length≤32:=by unfold billL;rw[List.length_map];exact nO
 refine⟨((0:Nat),0,0),by(repeat' first|exact rfl|exact trivial|apply And.intro|exact(Int.add_zero _).symm|exact Int.add_assoc _ _ _|omega|(dsimp only;push_cast;omega)),⟨Nat.zero_le _,by(first|omega|(dsimp only;omega)|(simp only[];omega)),by(first|omega|(dsimp only;omega)|(simp only[];omega)),rfl⟩,fun(x:Nat×Int×Int) hk=>⟨fun h1=> ?_,fun h1=> ?_⟩⟩
 ·obtain⟨k,s,g⟩:=x
  have hlt:k<(billL l).length:=by simpa using h1
  have hx:=getD_mem (d:=bill0) hlt
  have hb:=hB _ hx
  obtain⟨k1,k2,k3,k4⟩:=hk
  rw[drop_cons (d:=bill0) hlt,sumB] at k4
  have m1:=hb.sent
  have m2:=hb.got
  have hzb:((({data:={toList:=[]}}:ByteArray),(0:Int),(0:Int),(0:Int),(0:Int),(0:Int)):Bill)=bill0:=rfl
  dsimp only at k1 k2 k3 k4
  simp only[hzb]
  exact⟨by(repeat' first|apply And.intro|omega),by(repeat' first|apply And.intro|omega),by(repeat' first|apply And.intro|omega),by(repeat' first|apply And.intro|omega),(k+1,s+((billL l).getD k bill0).2.2.1,g+((billL l).getD k bill0).2.2.2.1),by(repeat' first|exact rfl|exact trivial|apply And.intro|exact(Int.add_zero _).symm|exact Int.add_assoc _ _ _|omega|(dsimp only;push_cast;omega)),⟨by(first|omega|(dsimp only;omega)|(simp only[];omega)),by(first|omega|(dsimp only;omega)|(simp only[];omega)),by(first|omega|(dsimp only;omega)|(simp only[];omega)),k4⟩,by(first|omega|(dsimp only;omega)|(simp only[];omega))⟩
 ·obtain⟨k,s,g⟩:=x
  have hlt:¬k<(billL l).length:=by simpa using h1
  obtain⟨k1,k2,k3,k4⟩:=hk
  have:k=(billL l).length:=by dsimp only at k1;omega
  rw[this,List.drop_length,sumB] at k4
  have e:lossP l=if s=0 then((0,0),6) else(lowS (s-g) s,0):=by
   unfold lossP lossR
   rw[if_pos h]
   rw[show((regP l).2.2.2.1.map (billS (regP l).2.1 (regP l).2.2.2.2.1))=billL l from rfl,←k4]
  dsimp only at k2 k3
  rw[e]
  refine⟨fun h2=> ?_,fun h2=> ?_⟩
  ·have h2:s=0:=by simpa using h2
   rw[if_pos h2]
   exact⟨rfl,rfl⟩
  ·have h2:s≠0:=by simpa using h2
   rw[if_neg h2]
   refine⟨⟨?_, ?_, ?_⟩,rfl,rfl⟩
   all_goals dsimp only
   all_goals (repeat' first|apply And.intro|omega)
abbrev W177:=W176.add ok46
end Go.Proofs.YtcibbcfiemeoiaaGreatDoor

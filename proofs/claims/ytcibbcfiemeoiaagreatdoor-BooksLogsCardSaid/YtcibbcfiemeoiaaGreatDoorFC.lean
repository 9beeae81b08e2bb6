/- Contracts of the functions that the law reaches: part of the proof. -/
import Derived.Test.YtcibbcfiemeoiaaGreatDoorFB
set_option linter.unusedSimpArgs false
set_option linter.unusedVariables false
set_option maxRecDepth 20000
namespace Go.Proofs.YtcibbcfiemeoiaaGreatDoor
open Go.Sx
set_option maxHeartbeats 20000000
def cNow:Con:={args:=[.ref 167 sHist],ress:=[(true,sReg)],owns:=[],pre:=fun(h,_)=>[HistOk h],spec:=fun(h,_)=>(nowS h.2.2,())}
theorem ok75:Ok Tryz.prog 75 cNow:=okW W177 Tryz.f75 na fun xx=>by
 obtain⟨⟨(E:List Ev),(C:List Ev),(G:List Reg)⟩,_⟩:=xx
 refine(by kernel_rfl:(HistOk (E,C,G)→Br (Z97 G) (Z308 G∧Z820 G=nowS G) (Z306=nowS G))=_).mp ?_
 delta Z97 Z274 Z306 Z308 Z447 Z457 Z458 Z481 Z486 Z497 Z502 Z512 Z814 Z820 Br Iw Bd Tw Ln Gt E2
 intro hh
 have n1:E.length≤1000:=hh.nE
 have n2:C.length≤E.length:=hh.nC
 have n3:G.length=C.length:=hh.nG
 have hG:((G.length:Int)-1).toNat=G.length-1:=by omega
 refine⟨fun h=> ?_,fun h=> ?_⟩
 ·have h:(0:Int)<G.length:=of_decide_eq_true h
  rw[hG]
  exact⟨by(repeat' first|apply And.intro|omega),rfl⟩
 ·exact(now_nil h).symm
abbrev W178:=W177.add ok75
def cKeptE:Con:={args:=[.val false (.list 67 sEv), .fn [(true,sEv)] Bo],ress:=[(false, .list 67 sEv)],owns:=[true],pre:=fun(l,(q,_),_)=>[l.length≤1000000,∀x∈l,conj (q (x,()))],spec:=fun(l,(_,f),_)=>(l.filter fun x=>f (x,()),())}
def Z182 (a:Ev×Unit→Bool) (b:Nat) (c:List Ev):=List.filter (fun(x:Ev)=>a (x,PUnit.unit)) (List.take b c)
theorem ok78:Ok Tryz.prog 78 cKeptE:=okW W178 Tryz.f78 (fun xx=>ann0 (annKept 67 67 sEv xx.1 true xx.2.1.1 xx.2.1.2)) fun xx=>by
 obtain⟨(l:List Ev),⟨(q:Ev×Unit→List Prop),(f:Ev×Unit→Bool)⟩,_⟩:=xx
 refine(by kernel_rfl:(Z37 l→Z310 l q→∃(x:Nat),Si (Ln l) (0=Nc x∧Sf l ((fun(x:Ev×PUnit)=>q x)=q∧(fun(x:Ev×PUnit)=>f x)=f∧List.length (Z182 f x l)=0))∧x≤List.length l∧∀(x:Nat),x≤List.length l→Br (Z69 x l) (Tw (Z13 x l)∧Z754 q l x∧Br (f (Z740 l x)) ((List.length (Z182 f x l)+1)*88≤140737488355328∧Z16 x∧∃(y:Nat),Si (Ln l) (Z94 x y∧Sf l ((fun(x:Ev×PUnit)=>q x)=q∧(fun(x:Ev×PUnit)=>f x)=f∧Z182 f x l++[Z735 l x]=Z182 f y l))∧Z272 y l x) (Z16 x∧∃(y:Nat),Si (Ln l) (Z94 x y∧Sf l ((fun(x:Ev×PUnit)=>q x)=q∧(fun(x:Ev×PUnit)=>f x)=f∧Z182 f x l=Z182 f y l))∧Z272 y l x)) (Z182 f x l=List.filter (fun(x:Ev)=>f (x,PUnit.unit)) l))=_).mp ?_
 delta Z13 Z16 Z37 Z69 Z94 Z167 Z181 Z182 Z246 Z255 Z262 Z265 Z272 Z273 Z310 Z735 Z740 Z754 Br Iw Bd Tw Sf Si Ln Nc B0 E2
 intro hb hq
 refine⟨(0:Nat),⟨rfl,rfl,rfl,rfl,rfl,by simp⟩,Nat.zero_le _,fun(k:Nat) hk=>⟨fun h=> ?_,fun h=> ?_⟩⟩
 ·have hlt:k<l.length:=by simpa using h
  have hf:=filter_le (p:=fun x=>f (x,())) hk
  have ht:=take_snoc (d:=ev0) hlt
  refine⟨by omega,hq (l.getD k ev0) (getD_mem hlt),fun h1=> ?_,fun h1=> ?_⟩
  ·have h1:f (l.getD k ev0,())=true:=h1
   refine⟨by show((List.filter (fun x=>f (x,())) (List.take k l)).length+1)*88≤_;omega,by omega,(k+1:Nat),⟨rfl,by simp,rfl,rfl,rfl, ?_⟩,by omega,by omega⟩
   rw[←ht,List.filter_append,List.filter_cons,if_pos h1];rfl
  ·have h1:f (l.getD k ev0,())=false:=h1
   refine⟨by omega,(k+1:Nat),⟨rfl,by simp,rfl,rfl,rfl, ?_⟩,by omega,by omega⟩
   rw[←ht,List.filter_append,List.filter_cons,if_neg (by rw[h1];decide)];simp
 ·have hlt:¬k<l.length:=by simpa using h
  rw[List.take_of_length_le (by omega)]
abbrev W179:=W178.add ok78
def cMapEE:Con:={args:=[.val false (.list 67 sEv), .fn [(true,sEv)] (true,sEv)],ress:=[(false, .list 67 sEv)],owns:=[true],pre:=fun(l,(q,_),_)=>[l.length≤1000000,∀x∈l,conj (q (x,()))],spec:=fun(l,(_,f),_)=>(l.map fun x=>f (x,()),())}
def Z183 (a:Ev×Unit→Ev) (b:Nat) (c:List Ev):=List.map (fun(x:Ev)=>a (x,PUnit.unit)) (List.take b c)
def Z743 (a:Ev×Unit→Ev) (b:List Ev) (c:Nat):=a (Z740 b c)
def Z745 (a:Ev×Unit→Ev) (b:List Ev) (c:Nat):=(Z743 a b c).2
def Z747 (a:Ev×Unit→Ev) (b:List Ev) (c:Nat):=(Z745 a b c).2
theorem ok77:Ok Tryz.prog 77 cMapEE:=okW W179 Tryz.f77 (fun xx=>ann0 (annMap 67 67 sEv xx.1 (true,sEv) true xx.2.1.1 xx.2.1.2)) fun xx=>by
 obtain⟨(l:List Ev),⟨(q:Ev×Unit→List Prop),(f:Ev×Unit→Ev)⟩,_⟩:=xx
 refine(by kernel_rfl:(Z37 l→Z310 l q→∃(x:Nat),Si (Ln l) (0=Nc x∧Sf l ((fun(x:Ev×PUnit)=>q x)=q∧(fun(x:Ev×PUnit)=>f x)=f∧List.length (Z183 f x l)=0))∧x≤List.length l∧∀(x:Nat),x≤List.length l→Br (Z69 x l) (Tw (Z13 x l)∧(Z754 q l x∧(List.length (Z183 f x l)+1)*88≤140737488355328)∧Z16 x∧∃(y:Nat),Si (Ln l) (Z94 x y∧Sf l ((fun(x:Ev×PUnit)=>q x)=q∧(fun(x:Ev×PUnit)=>f x)=f∧Z183 f x l++[((Z743 f l x).1,(Z745 f l x).1,(Z747 f l x).1,E2 (Z747 f l x).2)]=Z183 f y l))∧Z272 y l x) (Z183 f x l=List.map (fun(x:Ev)=>f (x,PUnit.unit)) l))=_).mp ?_
 delta Z13 Z16 Z37 Z69 Z94 Z167 Z181 Z183 Z246 Z255 Z262 Z265 Z272 Z273 Z310 Z735 Z740 Z743 Z745 Z747 Z754 Br Iw Bd Tw Sf Si Ln Nc B0 E2
 intro hb hq
 refine⟨(0:Nat),⟨rfl,rfl,rfl,rfl,rfl,by simp⟩,Nat.zero_le _,fun(k:Nat) hk=>⟨fun h=> ?_,fun h=> ?_⟩⟩
 ·have hlt:k<l.length:=by simpa using h
  refine⟨by omega,⟨hq (l.getD k ev0) (getD_mem hlt),by simp only[List.length_map,List.length_take];omega⟩,by omega,(k+1:Nat),⟨rfl,by simp,rfl,rfl,rfl, ?_⟩,by omega,by omega⟩
  rw[←take_snoc (d:=ev0) hlt,List.map_append];rfl
 ·have hlt:¬k<l.length:=by simpa using h
  rw[List.take_of_length_le (by omega)]
abbrev W180:=W179.add ok77
def renumS:List Ev→Nat→List Ev
 |[],_=>[]
 |e::l,i=>((i:Int)+1,e.2)::renumS l (i+1)
def storyE (l:List Ev) (s:ByteArray):Int:=firstS [(replayS l).2.2,bif (bif (replayS l).2.2==0 then !hasS (regP l) 0 s else false) then 10 else 0]
def storyL (l:List Ev) (s:ByteArray):List Ev:=(replayS l).1.2.1.filter fun e=>abS (regP l) e s
def storyP (l:List Ev) (s:ByteArray):List Ev:=if storyE l s=0 then renumS (storyL l s) 0 else[]
def cStory:Con:={args:=[.val false (.list 67 sEv),aS],ress:=[(false, .list 67 sEv),I],owns:=[],pre:=fun(l,_)=>[lOk l],spec:=fun(l,s,_)=>(storyP l s,storyE l s,())}
theorem renumS_len:∀(l:List Ev) (i:Nat),(renumS l i).length=l.length
 |[],_=>rfl
 |_::l,i=>by unfold renumS;rw[List.length_cons,List.length_cons,renumS_len l]
theorem renumS_app:∀(a b:List Ev) (i:Nat),renumS (a++b) i=renumS a i++renumS b (i+a.length)
 |[],_,_=>rfl
 |x::a,b,i=>by
  rw[List.cons_append,renumS,renumS,renumS_app a b (i+1),List.cons_append,List.length_cons,show i+1+a.length=i+(a.length+1) by omega]
theorem renum_get {L:List Ev} {k:Nat} (h:k<L.length):(renumS (L.take k) 0++L.drop k).getD k ev0=L.getD k ev0:=by
 have hl:(renumS (L.take k) 0).length=k:=by rw[renumS_len,List.length_take];omega
 rw[drop_cons (d:=ev0) h,List.getD_eq_getElem?_getD,List.getElem?_append_right (by omega),hl,Nat.sub_self]
 rfl
theorem renum_set {L:List Ev} {k:Nat} (h:k<L.length):(renumS (L.take k) 0++L.drop k).set k ((k:Int)+1,(L.getD k ev0).2)=renumS (L.take (k+1)) 0++L.drop (k+1):=by
 have hl:(renumS (L.take k) 0).length=k:=by rw[renumS_len,List.length_take];omega
 rw[drop_cons (d:=ev0) h,List.set_append_right _ _ (by omega),hl,Nat.sub_self,List.set_cons_zero,←take_snoc (d:=ev0) h,renumS_app,List.append_assoc,List.length_take,Nat.min_eq_left (by omega),Nat.zero_add]
 rfl
theorem runS_sub:∀{l:List Ev} {h:Hist},∀e∈(runS h l).1.2.1,e∈h.2.1∨e∈l
 |[],_,e,he=> .inl he
 | x :: l, h, e, he => by
  unfold runS at he
  by_cases ha:addE h x=0
  ·rw[if_pos ha] at he
   rcases runS_sub e he with h1|h1
   ·unfold addH at h1
    cases hk:x.2.1.toList==wUndo.toList with
    |true=>rw[hk,cond_true] at h1;exact .inl (List.mem_of_mem_take h1)
    |false=>
     rw[hk,cond_false] at h1
     rcases mem_snoc h1 with h2|rfl
     ·exact .inl h2
     ·exact .inr (List.mem_cons_self ..)
   ·exact .inr (List.mem_cons_of_mem _ h1)
  ·rw[if_neg ha] at he;exact .inl he
theorem replay_sub {l:List Ev}:∀e∈(replayS l).1.2.1,e∈l:=by
 unfold replayS
 by_cases h:1000<l.length
 ·rw[if_pos h];intro e he;cases he
 ·rw[if_neg h];intro e he;exact(runS_sub e he).elim (fun h=>by cases h) id
abbrev annRep5 (l:List Ev) (s:ByteArray):Ann:={X:=Hist×Nat,σ:=fun(h,k)=>⟨8,[(5, .one (.ptr 3 0)),(14, .one (.sl 0)),(15, .one (.int .i64 l.length)),(16, .one (.int .i64 k))],[(0, .imm 67 sEv l),(1, .box 9 [.str s]),(2, .sus [(3, .one (.ptr 1 0))]),(3, .box 167 [.sl 5, .sl 6, .sl 7]),(5, .own 67 sEv h.1),(6, .own 67 sEv h.2.1),(7, .own 105 sReg h.2.2)]⟩,inv:=fun(h,k)=>HistI h∧h.1.length=k∧k≤l.length∧l.length≤1000∧runS h (l.drop k)=replayS l,mu:=fun(_,k)=>l.length-k}
abbrev annNum (L:List Ev):Ann:={X:=Nat,σ:=fun k=>⟨1,[(11, .one (.sl 0)),(44, .one (.sl 0)),(45, .one (.int .i64 L.length)),(46, .one (.int .i64 k))],[(0, .own 67 sEv (renumS (L.take k) 0++L.drop k))]⟩,inv:=fun k=>k≤L.length,mu:=fun k=>L.length-k}
def Z290 (a:Nat) (b:List Ev) (c:Bt):=renumS (List.take a (storyL b c)) 0++List.drop a (storyL b c)
def Z297 (a:Ev):=List.length a.2.2.1≤1000000∧List.length a.2.2.2.1≤1000000
def Z593 (a:Hist×Nat):=((nowS a.1.2.2).1,(nowS a.1.2.2).2.1,(nowS a.1.2.2).2.2.1,(nowS a.1.2.2).2.2.2.1,(nowS a.1.2.2).2.2.2.2.1,E2 (nowS a.1.2.2).2.2.2.2.2)
def Z615 (a:Hist×Nat):=RegOk (Z593 a)
def Z671 (a:Hist×Nat) (b:Bt):=List.filter (fun(x:Ev)=>abS (Z593 a) x b) a.1.2.1
def Z692 (a:Hist×Nat) (b:Bt):=List.map (fun(x:Ev)=>x) (Z671 a b)
def Z719 (a:Hist×Nat) (b:Bt):=firstS [0,bif bif true then !hasS (Z593 a) 0 b else false then 10 else 0]
def Z776 (a:Hist×Nat) (b:List Ev):=Z770 a b==0
def Z777 (a:Hist×Nat) (b:List Ev):=Z776 a b=true
def Z901 (a:Hist×Nat) (b:List Ev) (c:Bt):=firstS [Z770 a b,bif bif Z776 a b then Z395 c else false then 10 else 0]
theorem ok16:Ok Tryz.prog 16 cStory:=okWG W180 Tryz.f16 (lib_ok (l:=([(74,Tryz.f74)]:List (Nat×Func))) (List.forall_mem_cons.2 ⟨by kernel_rfl,by simp⟩)) (fun xx=>ann0 (annNum (storyL xx.1 xx.2.1))) (fun xx=>fun f id=>if f=74 then some (annRep5 xx.1 xx.2.1) else none) fun xx=>by
 obtain⟨(l:List Ev),(s:ByteArray),_⟩:=xx
 refine(by kernel_rfl:(lOk l→Br (decide (1000<Ln l)) ((Z38∧Z411∧2≤1000000)∧Br true (Sf true ([]=storyP l s∧firstS [5,0]=storyE l s)) (Tw False)) (∃(x:(List Ev×List Ev×List Reg)×Nat),Si (Ln l) (0=Nc x.2∧Sf l (Sf s (Z390 x)))∧Z556 x l∧∀(x:Hist×Nat),Z557 x l→Br (decide (Nc x.2<Ln l)) (Tw (Bd (Nc x.2) (Ln l))∧Z784 x l∧Br (Z787 x l) (Z29 x∧((Z777 x l→False)∧(Z777 x l→Z336)∧2≤1000000)∧Br (Z901 x l s !=0) (Sf true ([]=storyP l s∧Z901 x l s=storyE l s)) (Tw False)) (Z29 x∧∃(y:(List Ev×List Ev×List Reg)×Nat),Si (Ln l) (Nc x.2+1=Nc y.2∧Sf l (Sf s (Z908 x l y)))∧Z670 y l x)) (((true=true→Z184 x)∧(true=true→Z615 x)∧2≤1000000)∧Br (Z719 x s !=0) (Sf true ([]=storyP l s∧Z719 x s=storyE l s)) (Z184 x∧(List.length x.1.2.1≤1000000∧(∀(x_1:Ev),x_1∈x.1.2.1→Z615 x∧AbOk (Z593 x) x_1)∧List.length (Z671 x s)≤1000000∧∀(x_1:Ev),x_1∈Z671 x s→Z297 x_1)∧∃(x_1:Nat),(Ln (Z692 x s)=Ln (storyL l s)∧0=Nc x_1∧Z692 x s=Z290 x_1 l s)∧x_1≤List.length (storyL l s)∧∀(x:Nat),x≤List.length (storyL l s)→Br (decide (Nc x<Ln (storyL l s))) ((Z16 x∧Tw (Bd (Nc x) (Ln (Z290 x l s))))∧Z16 x∧∃(y:Nat),Si (Ln (storyL l s)) (Z94 x y∧List.set (Z290 x l s) x (Nc x+1,(List.getD (Z290 x l s) x Z181).2)=Z290 y l s)∧y≤List.length (storyL l s)∧List.length (storyL l s)-y<List.length (storyL l s)-x) (Sf true (Z290 x l s=storyP l s∧0=storyE l s))))))=_).mp ?_
 delta Z16 Z29 Z38 Z94 Z142 Z181 Z184 Z264 Z274 Z290 Z297 Z306 Z336 Z390 Z395 Z411 Z556 Z557 Z593 Z615 Z670 Z671 Z692 Z719 Z739 Z770 Z771 Z772 Z776 Z777 Z784 Z787 Z901 Z908 Br Iw Bd Tw Sf Si Ln Nc B0 E2
 intro hl
 refine⟨fun h=> ?_,fun h=> ?_⟩
 ·have e:replayS l=(hist0,0,5):=by unfold replayS;rw[if_pos (by have:=of_decide_eq_true h;omega)]
  have eE:storyE l s=5:=by unfold storyE;rw[e];rfl
  refine⟨⟨fun h=>(by cases h),fun h=>(by cases h),by decide⟩,fun _=>⟨rfl, ?_,eE.symm⟩,fun h=>(by cases h)⟩
  unfold storyP;rw[if_neg (by rw[eE];decide)]
 have hn:l.length≤1000:=by have:=of_decide_eq_false h;omega
 have e0:replayS l=runS hist0 l:=by unfold replayS;rw[if_neg (by omega)]
 refine⟨(hist0,(0:Nat)),⟨rfl,rfl,rfl,rfl,rfl,rfl,rfl⟩,⟨hist0_ok,rfl,Nat.zero_le _,hn,e0.symm⟩,fun(x:Hist×Nat) hx=>⟨fun h1=> ?_,fun h1=> ?_⟩⟩
 ·obtain⟨g,k⟩:=x
  obtain⟨hi,hk,hk2,_,hrun⟩:=hx
  dsimp only at hi hk hk2 hrun
  have hlt:k<l.length:=by simpa using h1
  rw[drop_cons (d:=ev0) hlt,runS] at hrun
  have hz:=hl.2 _ (getD_mem (d:=ev0) hlt)
  have hev:(0,({data:={toList:=[]}}:ByteArray),([]:List ByteArray),([]:List Int),({data:={toList:=[]}}:ByteArray))=ev0:=rfl
  simp only[hev,Prod.eta]
  refine⟨by omega,⟨hi.ok,(show g.1.length<1000 by omega),hz⟩,fun h2=> ?_,fun h2=> ?_⟩
  ·have n2:addE g (l.getD k ev0)≠0:=bne_iff_ne.1 h2
   rw[if_neg n2] at hrun
   have b2:(addE g (l.getD k ev0)==0)=false:=beq_eq_false_iff_ne.2 n2
   have eE:storyE l s=addE g (l.getD k ev0):=by
    unfold storyE
    rw[←hrun]
    simp only[b2,cond_false]
    unfold firstS
    rw[if_neg n2]
   simp only[b2,cond_false]
   refine⟨by(repeat' first|apply And.intro|(first|omega|(dsimp only;omega)|(simp only[];omega))),⟨fun h=>(nomatch h),fun h=>(nomatch h),by decide⟩,fun _=>⟨trivial, ?_, ?_⟩,fun h=> ?_⟩
   ·unfold storyP;rw[if_neg (by rw[eE];exact n2)]
   ·rw[eE];unfold firstS;rw[if_neg n2]
   ·have h:=bne_eq_false_iff_eq.1 h
    unfold firstS at h;rw[if_neg n2] at h;exact absurd h n2
  ·have z2:addE g (l.getD k ev0)=0:=bne_eq_false_iff_eq.1 h2
   rw[if_pos z2] at hrun
   have ea:addP g (l.getD k ev0)=addH g (l.getD k ev0):=by unfold addP;rw[if_pos z2]
   rw[ea]
   have hk3:(addH g (l.getD k ev0)).1.length=g.1.length+1:=addH_len
   exact⟨by(repeat' first|apply And.intro|(first|omega|(dsimp only;omega)|(simp only[];omega))),(addH g (l.getD k ev0),k+1),by(repeat' first|exact rfl|exact trivial|apply And.intro|exact(Int.add_zero _).symm|exact Int.add_assoc _ _ _|omega|(dsimp only;push_cast;omega)),⟨add_ok hi (by(first|omega|(dsimp only;omega)|(simp only[];omega))) z2,by(first|omega|(dsimp only;omega)|(simp only[];omega)),by(first|omega|(dsimp only;omega)|(simp only[];omega)),hn,hrun⟩,by(first|omega|(dsimp only;omega)|(simp only[];omega))⟩
 ·obtain⟨g,k⟩:=x
  obtain⟨hi,hk,hk2,_,hrun⟩:=hx
  dsimp only at hi hk hk2 hrun
  have hlt:¬k<l.length:=by simpa using h1
  have:k=l.length:=by omega
  rw[this,List.drop_length,runS] at hrun
  simp only[Prod.eta]
  have eR:regP l=nowS g.2.2:=by unfold regP;rw[←hrun];rfl
  have eE:storyE l s=firstS [0,bif bif true then !hasS (nowS g.2.2) 0 s else false then 10 else 0]:=by
   unfold storyE;rw[←hrun,eR];rfl
  have eL:storyL l s=g.2.1.filter fun e=>abS (nowS g.2.2) e s:=by unfold storyL;rw[←hrun,eR]
  rw[←eE]
  have hA:HistA g:=by have:=replay_A (l:=l);rw[←hrun] at this;exact this
  have nE:g.1.length≤1000:=hi.ok.nE
  have nC:g.2.1.length≤g.1.length:=hi.ok.nC
  have hsub:∀e∈g.2.1,e∈l:=by have:=replay_sub (l:=l);rw[←hrun] at this;exact this
  have hfl:=List.length_filter_le (fun e=>abS (nowS g.2.2) e s) g.2.1
  have hL:(storyL l s).length≤1000:=by rw[eL];omega
  refine⟨⟨fun _=>hi.ok,fun _=>now_ok hi.ok,by decide⟩,fun h2=>⟨trivial, ?_,rfl⟩,fun h2=>⟨hi.ok,⟨Nat.le_trans nC (by omega),fun x hx=>⟨now_ok hi.ok,now_ab hi hA hx⟩,Nat.le_trans hfl (by omega),fun x hx=> ?_⟩,(0:Nat),⟨?_,rfl, ?_⟩,Nat.zero_le _,fun(k:Nat) hk=>⟨fun h3=> ?_,fun h3=> ?_⟩⟩⟩
  ·unfold storyP;rw[if_neg (bne_iff_ne.1 h2)]
  ·have:=hl.2 x (hsub x (List.mem_filter.1 hx).1)
   exact⟨this.1,this.2.1⟩
  ·rw[eL,List.map_id']
  ·rw[eL,List.map_id'];rfl
  ·have hlt:k<(storyL l s).length:=by simpa using h3
   have hev:(0,({data:={toList:=[]}}:ByteArray),([]:List ByteArray),([]:List Int),({data:={toList:=[]}}:ByteArray))=ev0:=rfl
   rw[hev,renum_get hlt]
   refine⟨⟨by omega, ?_⟩,by omega,(k+1:Nat),⟨trivial,by simp,renum_set hlt⟩,by omega,by omega⟩
   rw[List.length_append,renumS_len,List.length_take,List.length_drop]
   omega
  ·have hlt:¬k<(storyL l s).length:=by simpa using h3
   have:k=(storyL l s).length:=by omega
   have z:storyE l s=0:=bne_eq_false_iff_eq.1 h2
   refine⟨trivial, ?_,z.symm⟩
   unfold storyP
   rw[if_pos z,this,List.take_length,List.drop_length,List.append_nil]
abbrev W181:=W180.add ok16
namespace Cmp
open Go.Sx
set_option maxHeartbeats 20000000
def cCmpS:Con:={args:=[.val true sSpan, .val true sSpan],ress:=[I],owns:=[],pre:=fun(x,y,_)=>[-1000000000≤x.1∧x.1≤1000000000,-1000000000≤y.1∧y.1≤1000000000],spec:=fun(x,y,_)=>(x.1-y.1,())}
theorem ok98 [Sx.Dr]:Ok Tryz.prog 98 cCmpS:=okW W82 Tryz.f98 na fun xx=>by
 obtain⟨⟨(a:Int),(b:Int)⟩,⟨(c:Int),(d:Int)⟩,_⟩:=xx
 refine(by kernel_rfl:((-1000000000)≤a∧a≤1000000000→(-1000000000)≤c∧c≤1000000000→Iw (a-c)∧a-c=a-c)=_).mp ?_
 delta Iw
 intro h1 h2
 exact⟨by omega,rfl⟩
abbrev W83 [Sx.Dr]:=W82.add ok98
end Cmp
set_option maxHeartbeats 20000000
abbrev Spn:=Int×Int
def SpnB:={x:Spn// -1000000000≤x.1∧x.1≤1000000000}
instance:Inhabited SpnB:=⟨⟨(0,0),by decide,by decide⟩⟩
def encS (x:SpnB):List Value:=[.int .i64 x.1.1, .int .i64 x.1.2]
def cmpS (x y:SpnB):Int:=x.1.1-y.1.1
theorem ltOfS_F {a b:SpnB}:Proofs.ltOf cmpS a b=false↔b.1.1≤a.1.1:=by
 unfold Proofs.ltOf cmpS
 simp only[decide_eq_false_iff_not]
 omega
theorem ltOfS_T (a b:SpnB):Proofs.ltOf cmpS a b=true↔a.1.1<b.1.1:=by
 unfold Proofs.ltOf cmpS
 simp only[decide_eq_true_iff]
 omega
theorem swoS:Sort.SWO (Proofs.ltOf cmpS) where
 irrefl x:=ltOfS_F.2 (Int.le_refl _)
 trans x y z h1 h2:=(ltOfS_T x z).2 (Int.lt_trans ((ltOfS_T x y).1 h1) ((ltOfS_T y z).1 h2))
 ntrans x y z h1 h2:=ltOfS_F.2 (Int.le_trans (ltOfS_F.1 h2) (ltOfS_F.1 h1))
theorem encS_rep (M:Nat→Prop) (w:World) (x:SpnB) (cs:List Value):Rep M w sSpan x.1 cs↔cs=encS x:=by
 constructor
 ·rintro⟨a,b,rfl,ha,hb⟩
  have ha:a=[.int .i64 x.1.1]:=ha
  have hb:b=[.int .i64 x.1.2]:=hb
  subst ha;subst hb;rfl
 ·rintro rfl
  exact⟨_,_,rfl,rfl,rfl⟩
theorem cmp_callS (w:World) (x y:SpnB) (hG:Sx.Good Tryz.prog w):Calls Tryz.prog 98 #[.agg (encS x).toArray, .agg (encS y).toArray] w fun e w'=>e= .returned (.int .i64 (cmpS x y))∧RowKit.Below w.heap.size w w'∧w.drawn≤w'.drawn:=by
 have h:=(@Cmp.ok98 .on).2.2.2 rfl (x.1,y.1,()) (fun _=>False) (fun _=>False) w [.agg (encS x).toArray, .agg (encS y).toArray] (fun b hb=>by rcases hb with hb|hb<;>exact hb.elim) hG.on ⟨x.2,y.2⟩ ⟨_,_,rfl,⟨encS x,rfl,(encS_rep _ _ _ _).2 rfl⟩,_,_,rfl,⟨encS y,rfl,(encS_rep _ _ _ _).2 rfl⟩,rfl⟩
 refine h.mono ?_
 rintro e w' ⟨M',vs,rfl,hb,_,_,hr⟩
 obtain⟨v,vs',rfl,⟨cs,rfl,hc⟩,hr⟩:=hr
 have hc:cs=[.int .i64 (cmpS x y)]:=hc
 have hr:vs'=[]:=hr
 subst hc;subst hr
 exact⟨rfl,@Sx.Below.kit .on _ _ _ hb,hb.dr⟩
theorem isAgg117 (w:World):(isAgg 117).run Tryz.prog w= .ok true w:=by kernel_rfl
theorem sizeOf117 (w:World):(Go.sizeOf 117).run Tryz.prog w= .ok 2 w:=by kernel_rfl
theorem sort97 (g cap:Nat) (d:Array SpnB) (w:World) (hH:Sort.HoldsK encS 2 w g 0 d) (hg:g<w.heap.size) (hd:d.size<4611686018427387904) (hc:Proofs.CmpLays Tryz.prog 98 #[] encS 2 cmpS g 0 d.size w):
  Calls Tryz.prog 97 #[.slice (some ⟨g,0,none⟩) d.size cap, .func (.func 98) #[] #[]] w fun e w'=>e= .returned (.tuple #[])∧∃d' n os,Sort.PermIn 0 d.size d d'∧Sort.SortedIn (Proofs.ltOf cmpS) 0 d.size d'∧w'=Proofs.sortWorldK encS 2 w g 0 n d' os:=by
 have eg:∀args w,(callFunc 98 args).run Tryz.prog w= .ok (.enter 98 args) w:=Proofs.enters_of Tryz.func98 (by kernel_rfl) rfl
 exact Proofs.AnyQ.slices_SortFunc Proofs.Tryz.sortS 2 isAgg117 sizeOf117 encS (fun _=>rfl) (fun x v hv=>by simp[encS] at hv;rcases hv with rfl|rfl<;>rfl) cmpS swoS 98 #[] g 0 cap d w eg hc hH hg hd
theorem sort97_none (w:World):Calls Tryz.prog 97 #[.slice none 0 0, .func (.func 98) #[] #[]] w fun e w'=>e= .returned (.tuple #[])∧w'=w:=
 Proofs.AnyF.slices_SortFunc_none Proofs.Tryz.sortS none 0 _ w
def preS (l:List Spn):Prop:=(∀x∈l,-1000000000≤x.1∧x.1≤1000000000)∧l.length≤1000000
def relS (xs ys:List Spn):Prop:=ys.Perm xs∧ys.Pairwise fun a b=>a.1≤b.1
theorem lift_sub {p:Spn→Prop}:∀l:List Spn,(∀x∈l,p x)→∃zs:List {x:Spn//p x},l=zs.map Subtype.val
 |[],_=>⟨[],rfl⟩
 |x::l,h=>by
  obtain⟨zs,e⟩:=lift_sub l fun y hy=>h y (List.mem_cons_of_mem _ hy)
  exact⟨⟨x,h x (List.mem_cons_self ..)⟩::zs,by rw[List.map_cons,←e]⟩
theorem sort_ok97:SortOk Tryz.prog 97 {T:=117,s:=sSpan,g:=98,pre:=preS,f:=id,rel:=some relS}:=
 sort_rel (s:=sSpan) (T:=117) (β:=SpnB) (k:=2) Subtype.val encS (fun _=>rfl) rfl encS_rep cmpS preS id relS sort97 sort97_none cmp_callS
  (fun xs h=>lift_sub xs h.1)
  (fun xs ys hp hs=>⟨hp.map _,List.pairwise_map.2 (hs.imp fun h=>ltOfS_F.1 h)⟩)
  (fun xs h=>h.2)
def cSortS:Con:={args:=[],ress:=[],owns:=[],pre:=fun _=>[False],spec:=fun _=>(),srt:=some {T:=117,s:=sSpan,g:=98,pre:=preS,f:=id,rel:=some relS}}
theorem ok97:Ok Tryz.prog 97 cSortS:=⟨⟨Tryz.f97,by kernel_rfl,by kernel_rfl,by kernel_rfl⟩,fun z hz=>(by cases hz;exact sort_ok97),fun F hF=>(by cases hF),fun h=>by cases h⟩
abbrev W182:=W181.add ok97
def cMapXSp:Con:={args:=[.val false (.list 188 sOut), .fn [(true,sOut)] (true,sSpan)],ress:=[(false, .list 117 sSpan)],owns:=[true],pre:=fun(l,(q,_),_)=>[l.length≤1000000,∀x∈l,conj (q (x,()))],spec:=fun(l,(_,f),_)=>(l.map fun x=>f (x,()),())}
def Z245 (a:Out×Unit→Spn) (b:Nat) (c:List Out):=List.map (fun(x:Out)=>a (x,PUnit.unit)) (List.take b c)
theorem ok93:Ok Tryz.prog 93 cMapXSp:=okW W182 Tryz.f93 (fun xx=>ann0 (annMap 188 117 sOut xx.1 (true,sSpan) true xx.2.1.1 xx.2.1.2)) fun xx=>by
 obtain⟨(l:List Out),⟨(q:Out×Unit→List Prop),(f:Out×Unit→Spn)⟩,_⟩:=xx
 refine(by kernel_rfl:(Z50 l→Z325 l q→∃(x:Nat),Si (Ln l) (0=Nc x∧Sf l ((fun(x:Out×PUnit)=>q x)=q∧(fun(x:Out×PUnit)=>f x)=f∧List.length (Z245 f x l)=0))∧x≤List.length l∧∀(x:Nat),x≤List.length l→Br (decide (Nc x<Ln l)) (Tw (Bd (Nc x) (Ln l))∧(Z728 q l x∧(List.length (Z245 f x l)+1)*16≤140737488355328)∧Z16 x∧∃(y:Nat),Si (Ln l) (Z94 x y∧Sf l ((fun(x:Out×PUnit)=>q x)=q∧(fun(x:Out×PUnit)=>f x)=f∧Z245 f x l++[E2 (f (Z720 l x))]=Z245 f y l))∧Z286 y l x) (Z245 f x l=List.map (fun(x:Out)=>f (x,PUnit.unit)) l))=_).mp ?_
 delta Z16 Z50 Z94 Z134 Z219 Z245 Z286 Z325 Z715 Z720 Z728 Br Iw Bd Tw Sf Si Ln Nc B0 E2
 intro hb hq
 refine⟨(0:Nat),⟨rfl,rfl,rfl,rfl,rfl,by simp⟩,Nat.zero_le _,fun(k:Nat) hk=>⟨fun h=> ?_,fun h=> ?_⟩⟩
 ·have hlt:k<l.length:=by simpa using h
  refine⟨by omega,⟨hq (l.getD k out0) (getD_mem hlt),by simp only[List.length_map,List.length_take];omega⟩,by omega,(k+1:Nat),⟨rfl,by simp,rfl,rfl,rfl, ?_⟩,by omega,by omega⟩
  rw[←take_snoc (d:=out0) hlt,List.map_append];rfl
 ·have hlt:¬k<l.length:=by simpa using h
  rw[List.take_of_length_le (by omega)]
abbrev W183:=W182.add ok93
def cAv1:Con:={args:=[.val true sOut, .ref 9 .str],ress:=[Bo],owns:=[],pre:=fun _=>[],spec:=fun(x,s,_)=>(x.2.1.toList==s.toList,())}
theorem ok95:Ok Tryz.prog 95 cAv1:=okW W183 Tryz.f95 na fun xx=>by
 obtain⟨⟨(n:ByteArray),(f:ByteArray),⟨(a:Int),(b:Int)⟩,(p:Int)⟩,(s:ByteArray),_⟩:=xx
 refine(by kernel_rfl:(Lb f s=Lb f s)=_).mp ?_
 delta Lb
 rfl
abbrev W184:=W183.add ok95
def cAv2:Con:={args:=[.val true sOut],ress:=[(true,sSpan)],owns:=[],pre:=fun _=>[],spec:=fun(x,_)=>(x.2.2.1,())}
theorem ok96:Ok Tryz.prog 96 cAv2:=okW W184 Tryz.f96 na fun xx=>by
 obtain⟨⟨(n:ByteArray),(f:ByteArray),⟨(a:Int),(b:Int)⟩,(p:Int)⟩,_⟩:=xx
 refine(by kernel_rfl:((a,b)=(a,b))=_).mp ?_
 rfl
abbrev W185:=W184.add ok96
set_option maxHeartbeats 20000000
def avL (st:Int):List Spn→Int×Int→Int×Int
 |[],a=>a
 |s::l,(n,last)=>avL st l (n-max 0 (min s.2 st-max s.1 last),max last (min s.2 st))
theorem av_swap {st:Int} {a b:Spn} {l:List Spn} {p:Int×Int} (h:a.1=b.1):avL st (a::b::l) p=avL st (b::a::l) p:=by
 obtain⟨n,last⟩:=p
 simp only[avL]
 congr 1
 refine Prod.ext ?_ ?_<;>dsimp only<;>omega
theorem av_front {st:Int} {x:Spn} {bs:List Spn}:∀{us:List Spn} {p:Int×Int},(∀y∈us,y.1=x.1)→avL st (us++x::bs) p=avL st (x::(us++bs)) p
 |[],_,_=>rfl
 | y :: us, (n, last), h => by
  have h1:=av_front (st:=st) (x:=x) (bs:=bs) (us:=us) (p:=(n-max 0 (min y.2 st-max y.1 last),max last (min y.2 st))) fun z hz=>h z (List.mem_cons_of_mem _ hz)
  have e:avL st (y::(us++x::bs)) (n,last)=avL st (y::x::(us++bs)) (n,last):=by
   simp only[avL] at h1⊢
   exact h1
  rw[List.cons_append,e,av_swap (h y (List.mem_cons_self ..)),List.cons_append]
theorem av_perm {st:Int}:∀{xs ys:List Spn} {p:Int×Int},ys.Perm xs→(xs.Pairwise fun a b=>a.1≤b.1)→(ys.Pairwise fun a b=>a.1≤b.1)→avL st ys p=avL st xs p
 |[],ys,p,h,_,_=>by rw[List.Perm.eq_nil h]
 | x :: xs, ys, (n, last), h, h1, h2 => by
  have hx:x∈ys:=h.mem_iff.2 (List.mem_cons_self ..)
  obtain⟨us,bs,rfl⟩:=List.append_of_mem hx
  have h1:=List.pairwise_cons.1 h1
  have h2':=List.pairwise_append.1 h2
  have hk:∀y∈us,y.1=x.1:=fun y hy=>by
   have a1:=h2'.2.2 y hy x (List.mem_cons_self ..)
   have:y∈x::xs:=h.mem_iff.1 (List.mem_append_left _ hy)
   rcases List.mem_cons.1 this with rfl|hm
   ·rfl
   ·have:=h1.1 y hm
    omega
  rw[av_front hk]
  have hp:(us++bs).Perm xs:=((List.perm_middle (a:=x) (l₁:=us) (l₂:=bs)).symm.trans h).cons_inv
  have hs:(us++bs).Pairwise fun a b=>a.1≤b.1:=List.Pairwise.sublist (List.Sublist.append (List.Sublist.refl _) (List.sublist_cons_self ..)) h2
  show avL st (us++bs) _=avL st xs _
  exact av_perm hp h1.2 hs
def insP (x:Spn):List Spn→List Spn
 |[]=>[x]
 |y::r=>if x.1≤y.1 then x::y::r else y::insP x r
def sortP:List Spn→List Spn
 |[]=>[]
 |x::r=>insP x (sortP r)
theorem insP_perm (x:Spn):∀l,(insP x l).Perm (x::l)
 |[]=> .refl _
 |y::r=>by
  simp only[insP]
  split
  ·exact .refl _
  ·exact((insP_perm x r).cons y).trans (.swap x y r)
theorem sortP_perm:∀l,(sortP l).Perm l
 |[]=> .refl _
 |x::r=>(insP_perm x _).trans ((sortP_perm r).cons x)
theorem insP_sorted {x:Spn}:∀{l:List Spn},(l.Pairwise fun a b=>a.1≤b.1)→(insP x l).Pairwise fun a b=>a.1≤b.1
 |[],_=>by simp[insP]
 | y :: r, h => by
  have h0:=List.pairwise_cons.1 h
  simp only[insP]
  split
  ·rename_i hlt
   refine List.pairwise_cons.2 ⟨fun z hz=> ?_,h⟩
   rcases List.mem_cons.1 hz with rfl|hz
   ·exact hlt
   ·exact Int.le_trans hlt (h0.1 z hz)
  ·rename_i hlt
   refine List.pairwise_cons.2 ⟨fun z hz=> ?_,insP_sorted h0.2⟩
   rcases List.mem_cons.1 ((insP_perm x r).mem_iff.1 hz) with rfl|hz
   ·omega
   ·exact h0.1 z hz
theorem sortP_sorted:∀{l:List Spn},(sortP l).Pairwise fun a b=>a.1≤b.1
 |[]=> .nil
 |x::r=>insP_sorted sortP_sorted
def outSp (X:List Out) (s:ByteArray):List Spn:=(X.filter fun x=>x.2.1.toList==s.toList).map fun x=>x.2.2.1
def avN (st:Int) (X:List Out) (s:ByteArray):Int:=(avL st (sortP (outSp X s)) (st,0)).1
def avE (l:List Ev) (s:ByteArray):Int:=firstS [opE l [s],bif (regP l).2.1==0 then 6 else 0]
def avP (l:List Ev) (s:ByteArray):Int×Int:=if avE l s=0 then lowS (avN (regP l).2.1 (regP l).2.2.2.2.2.1 s) (regP l).2.1 else(0,0)
def cAv27:Con:={args:=[.val false (.list 67 sEv),aS],ress:=[(true,sSpan),I],owns:=[],pre:=fun(l,_)=>[lOk l],spec:=fun(l,s,_)=>(avP l s,avE l s,())}
abbrev annAv (l:List Ev) (s:ByteArray):Ann:={X:=Nat×Int×Int×List Spn,σ:=fun(k,n,last,ys)=>⟨14,[(4, .one (.ptr 2 0)),(6, .one (.ptr 9 0)),(9, .one (.int .i64 n)),(11, .one (.int .i64 last)),(43, .one (.sl 13)),(44, .one (.int .i64 ys.length)),(45, .one (.int .i64 k))],[(2, .box 54 [.int .i64 0, .int .i64 0]),(9, .box 105 [.int .i64 (regP l).1, .int .i64 (regP l).2.1, .sl 4, .sl 5, .sl 6, .sl 7, .sl 8]),(4, .imm 127 sSta (regP l).2.2.1),(5, .imm 130 sOrd (regP l).2.2.2.1),(6, .imm 155 sMet (regP l).2.2.2.2.1),(7, .imm 188 sOut (regP l).2.2.2.2.2.1),(8, .imm 235 sPer (regP l).2.2.2.2.2.2),(13, .own 117 sSpan ys)]⟩,inv:=fun(k,n,last,ys)=>k≤ys.length∧relS (outSp (regP l).2.2.2.2.2.1 s) ys∧(0≤last∧last≤(regP l).2.1)∧((regP l).2.1-last≤n∧n≤(regP l).2.1)∧avL (regP l).2.1 (ys.drop k) (n,last)=avL (regP l).2.1 ys ((regP l).2.1,0),mu:=fun(k,_,_,ys)=>ys.length-k}
def Z334 (a:Nat×Int×Int×List Spn) (b:List Ev):=min (List.getD a.2.2.2 a.1 (0,0)).2 (regP b).2.1
def Z394 (a:List Ev) (b:Bt):=firstS [opE a [b],bif (regP a).2.1==0 then 6 else 0]
def Z509 (a:Bt) (b:List Ev):=List.filter (fun(x:Out)=>List.beq (ByteArray.toList x.2.1) (ByteArray.toList a)) (regP b).2.2.2.2.2.1
def Z607 (a:Bt) (b:List Ev):=List.map (fun(x:Out)=>x.2.2.1) (Z509 a b)
def Z623 (a:Nat×Int×Int×List Spn) (b:List Ev):=Z334 a b-max (List.getD a.2.2.2 a.1 (0,0)).1 a.2.2.1
def Z684 (a:Nat×Int×Int×List Spn) (b:List Ev):=a.2.1-max 0 (Z623 a b)
def Z736 (a:Nat×Int×Int×List (Int×Int)) (b:List Ev) (c:Bt):=a.1≤List.length a.2.2.2∧relS (outSp (regP b).2.2.2.2.2.1 c) a.2.2.2∧(0≤a.2.2.1∧a.2.2.1≤(regP b).2.1)∧((regP b).2.1-a.2.2.1≤a.2.1∧a.2.1≤(regP b).2.1)∧avL (regP b).2.1 (List.drop a.1 a.2.2.2) (a.2.1,a.2.2.1)=avL (regP b).2.1 a.2.2.2 ((regP b).2.1,0)
theorem ok27:Ok Tryz.prog 27 cAv27:=okWG W185 Tryz.f27 (lib_ok (l:=([]:List (Nat×Func))) (by simp)) (fun xx=>ann0 (annAv xx.1 xx.2.1)) (fun xx=>fun _=>na ()) fun xx=>by
 obtain⟨(l:List Ev),(s:ByteArray),_⟩:=xx
 refine(by kernel_rfl:(lOk l→(lOk l∧1≤1000000)∧2≤1000000∧Br (Z394 l s !=0) (Sf true ((0,0)=avP l s∧Z394 l s=avE l s)) ((List.length (regP l).2.2.2.2.2.1≤1000000∧(∀(x:Out),x∈(regP l).2.2.2.2.2.1→True)∧List.length (Z509 s l)≤1000000∧∀(x:Out),x∈Z509 s l→True)∧preS (Z607 s l)∧∀(ys:List (Int×Int)),relS (Z607 s l) ys→∃(x:Nat×Int×Int×List (Int×Int)),((regP l).2.1=x.2.1∧0=x.2.2.1∧Ln ys=Ln x.2.2.2∧0=Nc x.1∧Si 0 (Si 0 ((regP l).1=(regP l).1∧(regP l).2.1=(regP l).2.1∧(regP l).2.2.1=(regP l).2.2.1∧Z120 l∧Z135 l∧Z159 l∧Z160 l∧ys=x.2.2.2)))∧Z736 x l s∧∀(x:Nat×Int×Int×List Spn),x.1≤List.length x.2.2.2∧relS (outSp (regP l).2.2.2.2.2.1 s) x.2.2.2∧(0≤x.2.2.1∧x.2.2.1≤(regP l).2.1)∧((regP l).2.1-x.2.2.1≤x.2.1∧x.2.1≤(regP l).2.1)∧avL (regP l).2.1 (List.drop x.1 x.2.2.2) (x.2.1,x.2.2.1)=avL (regP l).2.1 x.2.2.2 ((regP l).2.1,0)→Br (decide (Nc x.1<Ln x.2.2.2)) (Tw (Bd (Nc x.1) (Ln x.2.2.2))∧(Iw (Z623 x l)∧Iw (Z684 x l))∧Iw (Nc x.1+1)∧∃(y:Nat×Int×Int×List (Int×Int)),(Z684 x l=y.2.1∧max x.2.2.1 (Z334 x l)=y.2.2.1∧Ln x.2.2.2=Ln y.2.2.2∧Nc x.1+1=Nc y.1∧Si 0 (Si 0 (Si (regP l).1 (Si (regP l).2.1 ((regP l).2.2.1=(regP l).2.2.1∧Z120 l∧Z135 l∧Z159 l∧Z160 l∧x.2.2.2=y.2.2.2)))))∧Z736 y l s∧List.length y.2.2.2-y.1<List.length x.2.2.2-x.1) (((0≤x.2.1∧x.2.1≤1000000000000)∧1≤(regP l).2.1∧(regP l).2.1≤1000000000000)∧Sf true (E2 (lowS x.2.1 (regP l).2.1)=avP l s∧0=avE l s))))=_).mp ?_
 delta Z120 Z135 Z159 Z160 Z334 Z394 Z509 Z607 Z623 Z684 Z736 Br Iw Bd Tw Sf Si Ln Nc E2
 intro hl
 have hr:=regP_ok (l:=l)
 have hz:outSp (regP l).2.2.2.2.2.1 s=List.map (fun x=>x.2.2.1) (List.filter (fun x=>x.2.1.toList.beq s.toList) (regP l).2.2.2.2.2.1):=rfl
 rw[←hz]
 have nX:(regP l).2.2.2.2.2.1.length≤16:=hr.nX
 have hX:∀x∈outSp (regP l).2.2.2.2.2.1 s,SpanOk x:=fun x hx=>by
  obtain⟨y,hy,rfl⟩:=List.mem_map.1 hx
  exact(hr.out y (List.mem_filter.1 hy).1).span
 have hlen:(outSp (regP l).2.2.2.2.2.1 s).length≤16:=by
  unfold outSp
  rw[List.length_map]
  exact Nat.le_trans (List.length_filter_le _ _) nX
 have hst:=hr.st
 have htk:=hr.tk
 refine⟨⟨hl,by decide⟩,by decide,fun h=> ?_,fun h=>⟨⟨Nat.le_trans nX (by decide),fun _ _=>trivial,Nat.le_trans (List.length_filter_le _ _) (Nat.le_trans nX (by decide)),fun _ _=>trivial⟩,⟨fun x hx=> ?_,by omega⟩,fun ys hy=>⟨((0:Nat),(regP l).2.1,0,ys),by(repeat' first|exact rfl|exact trivial|apply And.intro|exact(Int.add_zero _).symm|exact Int.add_assoc _ _ _|omega|(dsimp only;push_cast;omega)),⟨Nat.zero_le _,hy,by(first|omega|(dsimp only;omega)|(simp only[];omega)),by(first|omega|(dsimp only;omega)|(simp only[];omega)),rfl⟩,fun(x:Nat×Int×Int×List Spn) hk=>⟨fun h1=> ?_,fun h1=> ?_⟩⟩⟩⟩
 ·have h:avE l s≠0:=bne_iff_ne.1 h
  refine⟨rfl, ?_,rfl⟩
  unfold avP;rw[if_neg h]
 ·have:=hX x hx
  have h1:=this.lo
  have h2:=this.mid
  have h3:=this.hi
  omega
 ·obtain⟨k,n,last,ys⟩:=x
  obtain⟨k1,k2,k3,k4,k5⟩:=hk
  have hlt:k<ys.length:=by simpa using h1
  have hx:=hX _ (k2.1.mem_iff.1 (getD_mem (d:=((0:Int),(0:Int))) hlt))
  have x1:=hx.lo
  have x2:=hx.mid
  have x3:=hx.hi
  dsimp only at k1 k2 k3 k4 k5
  rw[drop_cons (d:=((0:Int),(0:Int))) hlt,avL] at k5
  have hln:ys.length≤16:=by rw[k2.1.length_eq];exact hlen
  dsimp only
  generalize ys.getD k (0,0)=y at x1 x2 x3 k5⊢
  obtain⟨a,b⟩:=y
  dsimp only at x1 x2 x3 k5⊢
  refine⟨by omega,by omega,by omega,(k+1,n-max 0 (min b (regP l).2.1-max a last),max last (min b (regP l).2.1),ys),by(repeat' first|exact rfl|exact trivial|apply And.intro|exact(Int.add_zero _).symm|exact Int.add_assoc _ _ _|omega|(dsimp only;push_cast;omega)),⟨by(first|omega|(dsimp only;omega)|(simp only[];omega)),k2,by(first|omega|(dsimp only;omega)|(simp only[];omega)),by(first|omega|(dsimp only;omega)|(simp only[];omega)),k5⟩,by(first|omega|(dsimp only;omega)|(simp only[];omega))⟩
 ·obtain⟨k,n,last,ys⟩:=x
  obtain⟨k1,k2,k3,k4,k5⟩:=hk
  have hlt:¬k<ys.length:=by simpa using h1
  dsimp only at k1 k2 k3 k4 k5
  have e:k=ys.length:=by omega
  rw[e,List.drop_length,avL] at k5
  have h:avE l s=0:=bne_eq_false_iff_eq.1 h
  have hs:(regP l).2.1≠0:=fun h0=>by
   have:=(first_two h).2
   rw[h0] at this
   exact absurd this (by decide)
  have e2:avN (regP l).2.1 (regP l).2.2.2.2.2.1 s=n:=by
   unfold avN
   rw[av_perm (k2.1.trans (sortP_perm _).symm) sortP_sorted k2.2] at k5
   rw[←k5]
  refine⟨⟨by(first|omega|(dsimp only;omega)|(simp only[];omega)),by omega⟩,rfl, ?_,h.symm⟩
  unfold avP
  rw[if_pos h,e2]
abbrev W186:=W185.add ok27
set_option maxHeartbeats 20000000
def cText117:Con:={args:=[aI],ress:=[tS],owns:=[],pre:=fun(n,_)=>[-(10^17:Int)<n,n<10^18],spec:=fun(n,_)=>(textS n,())}
def Z317:=10^18
def Z347 (a:Int):=a<Z317
def Z397:= -10^17
def Z423 (a:Int):=Z397<a
theorem ok117:Ok Tryz.prog 117 cText117:=okW W186 Tryz.f117 na fun xx=>by
 obtain⟨(n:Int),_⟩:=xx
 refine(by kernel_rfl:(Z423 n→Z347 n→(17≤18∧Z423 n∧Z347 n)∧textS n=textS n)=_).mp ?_
 delta Z317 Z347 Z397 Z423
 intro h1 h2
 exact⟨⟨by decide,h1,h2⟩,rfl⟩
abbrev W187:=W186.add ok117
def padN (s:ByteArray) (j:Nat):ByteArray:=bs (List.replicate j 48++Lib.itoa (sumN s))
abbrev annSum67 (s:ByteArray):Nat→Option Ann:=fun id=>if id=0 then some {X:=Nat×Int,σ:=fun(k,x)=>⟨0,[(0, .one (.str s)),(3, .one (.int .i64 x)),(4, .one (.int .i64 k))],[]⟩,inv:=fun(k,x)=>k≤s.size∧(0≤x∧x<9999721)∧sumL (s.data.toList.drop k) x=sumN s,mu:=fun(k,_)=>s.size-k}
 else if id=2 then some {X:=Nat,σ:=fun j=>⟨0,[(5, .one (.str (padN s j)))],[]⟩,inv:=fun j=>j+(Lib.itoa (sumN s)).length≤7,mu:=fun j=>7-j} else none
def Z186 (a:Nat) (b:Bt):=a+List.length (Lib.itoa (sumN b))≤7
theorem ok67:Ok Tryz.prog 67 cSum:=okW W187 Tryz.f67 (fun xx=>annSum67 xx.1) fun xx=>by
 obtain⟨(s:ByteArray),_⟩:=xx
 refine(by kernel_rfl:(ByteArray.size s≤1000000→∃(x:Nat×Int),Sf s (1=x.2∧0=Nc x.1)∧Z410 x s∧∀(x:Nat×Int),Z410 x s→Br (decide (Nc x.1<Nc (ByteArray.size s))) (Z714 x s∧Z35 x∧∃(y:Nat×Int),Sf s (Z406 x s y∧Z111 x y)∧Z583 y s x) ((Z397<x.2∧x.2<Z317)∧∃(x_1:Nat),textS x.2=padN s x_1∧Z186 x_1 s∧∀(x:Nat),Z186 x s→Br (decide (Nc (ByteArray.size (padN s x))<7)) (Nc (1+ByteArray.size (padN s x))≤9223372036854775807∧∃(y:Nat),ByteArray.mk (Array.mk (48::([]++(padN s x).data.toList)))=padN s y∧Z186 y s∧7-y<7-x) (padN s x=sumS s)))=_).mp ?_
 delta Z10 Z35 Z111 Z186 Z317 Z318 Z397 Z406 Z410 Z583 Z714 Br Iw Bd Sf Nc
 intro hs
 refine⟨((0:Nat),(1:Int)),by(repeat' first|exact rfl|exact trivial|apply And.intro|exact(Int.add_zero _).symm|exact Int.add_assoc _ _ _|omega|(dsimp only;push_cast;omega)),⟨Nat.zero_le _,by(first|omega|(dsimp only;omega)|(simp only[];omega)),rfl⟩,fun(y:Nat×Int) hk=>⟨fun h=> ?_,fun h=> ?_⟩⟩
 ·obtain⟨k,x⟩:=y
  have hlt:k<s.size:=by simpa using h
  obtain⟨k1,k2,k3⟩:=hk
  dsimp only at k1 k2
  rw[bytes_get hlt,sumL] at k3
  have hb:=byte_lt s k
  refine⟨by(repeat' first|apply And.intro|(first|omega|(dsimp only;omega)|(simp only[];omega))),by(repeat' first|apply And.intro|(first|omega|(dsimp only;omega)|(simp only[];omega))),(k+1,(341*x+((s.data.toList.getD k 0).toNat:Int)).tmod 9999721),by(repeat' first|exact rfl|exact trivial|apply And.intro|exact(Int.add_zero _).symm|exact Int.add_assoc _ _ _|omega|(dsimp only;push_cast;omega)),⟨by(first|omega|(dsimp only;omega)|(simp only[];omega)),⟨Int.tmod_nonneg _ (by omega),Int.tmod_lt_of_pos _ (by decide)⟩,k3⟩,by(first|omega|(dsimp only;omega)|(simp only[];omega))⟩
 ·obtain⟨k,x⟩:=y
  have hlt:¬k<s.size:=by simpa using h
  obtain⟨k1,k2,k3⟩:=hk
  have e:k=s.size:=by omega
  rw[e,List.drop_eq_nil_of_le (by simp),sumL] at k3
  have k3:x=sumN s:=k3
  have hl:=sumN_len s
  dsimp only
  rw[k3]
  have hb:=sumN_bd s
  have hsz:∀j,(padN s j).size=j+(Lib.itoa (sumN s)).length:=fun j=>by
   unfold padN
   rw[bs_size,List.length_append,List.length_replicate]
  refine⟨⟨by omega,by omega⟩,(0:Nat),rfl,by omega,fun(j:Nat) hj=>⟨fun h=> ?_,fun h=> ?_⟩⟩
  ·have h:((padN s j).size:Int)<7:=of_decide_eq_true h
   have hz:=hsz j
   refine⟨by omega,j+1,rfl,by omega,by omega⟩
  ·have h:¬((padN s j).size:Int)<7:=of_decide_eq_false h
   have hz:=hsz j
   have:j=7-(Lib.itoa (sumN s)).length:=by omega
   rw[this];rfl
abbrev W188:=W187.add ok67
set_option maxHeartbeats 20000000
theorem join0_len:∀{l:List (List UInt8)} {b:Nat},(∀x∈l,x.length≤b)→(Lib.join l []).length≤b*l.length
 |[],_,_=>by simp[Lib.join,List.intercalate]
 |[x],b,h=>by
  have:=h x (List.mem_cons_self ..)
  simpa[Lib.join,List.intercalate,List.intersperse] using this
 |x::y::r,b,h=>by
  have ih:=join0_len (l:=y::r) fun z hz=>h z (List.mem_cons_of_mem _ hz)
  have hx:=h x (List.mem_cons_self ..)
  have e:Lib.join (x::y::r) []=x++Lib.join (y::r) []:=by simp[Lib.join,List.intercalate,List.intersperse]
  rw[e,List.length_append,List.length_cons,Nat.mul_add]
  omega
def cEvents:Con:={args:=[.ref 212 sHist],ress:=[(false, .list 67 sEv)],owns:=[],pre:=fun(h,_)=>[h.1.length≤1000,∀e∈h.1,evSz e],spec:=fun(h,_)=>(h.1,())}
def Z545 (a:List Ev):=∀(x:Ev),Z167 a x→Z297 x
theorem ok41:Ok Tryz.prog 41 cEvents:=okW W188 Tryz.f41 na fun xx=>by
 obtain⟨⟨(E:List Ev),(C:List Ev),(G:List Reg)⟩,_⟩:=xx
 refine(by kernel_rfl:(List.length E≤1000→(∀(e:Ev),Z167 E e→evSz e)→Br false ([]=E) ((Z37 E∧Z545 E)∧List.map (fun(x:Ev)=>x) E=E))=_).mp ?_
 delta Z37 Z167 Z297 Z545 Br
 intro h1 h2
 refine⟨fun h=>(nomatch h),fun _=>⟨⟨by omega,fun x hx=>⟨(h2 x hx).1,(h2 x hx).2.1⟩⟩,List.map_id' _⟩⟩
abbrev W189:=W188.add ok41
def logS (l:List Ev):ByteArray:=joinS (l.map recS) bnil
def cLog:Con:={args:=[.ref 212 sHist],ress:=[tS],owns:=[],pre:=fun(h,_)=>[h.1.length≤1000,∀e∈h.1,BodyOk e],spec:=fun(h,_)=>(logS h.1,())}
def Z125 (a:List Ev):=List.map (fun(x:Ev)=>recS x) a
def Z278 (a:List Ev):=∀(e:Ev),Z167 a e→BodyOk e
theorem ok42:Ok Tryz.prog 42 cLog:=okW W189 Tryz.f42 na fun xx=>by
 obtain⟨⟨(E:List Ev),(C:List Ev),(G:List Reg)⟩,_⟩:=xx
 refine(by kernel_rfl:(List.length E≤1000→Z278 E→Br false (B0=logS E) ((Z37 E∧Z278 E∧List.length (Z125 E)≤1000000∧List.length (Lib.join (List.map (fun(x:ByteArray)=>Z10 x) (Z125 E)) [])≤140737488355328)∧joinS (Z125 E) B0=logS E))=_).mp ?_
 delta Z10 Z37 Z125 Z167 Z278 Br B0
 intro h1 h2
 refine⟨fun h=>(nomatch h),fun _=>⟨⟨by omega,h2,by rw[List.length_map];omega, ?_⟩,rfl⟩⟩
 refine Nat.le_trans (join0_len (b:=2000000) fun z hz=> ?_) ?_
 ·rw[List.map_map] at hz
  obtain⟨e,he,rfl⟩:=List.mem_map.1 hz
  have:=recS_size (h2 e he)
  have:=bodyS_le (h2 e he)
  show(recS e).size≤2000000
  omega
 ·rw[List.length_map,List.length_map];omega
abbrev W190:=W189.add ok42
set_option maxHeartbeats 20000000
def sayL:List Say:=[(⟨⟨[115,116,97,116,105,111,110,32,97,32,48,32,49,48]⟩⟩,⟨⟨[100,111,110,101,32,49]⟩⟩,0),(⟨⟨[115,116,97,116,105,111,110,32,98,32,48,32,56]⟩⟩,⟨⟨[100,111,110,101,32,50]⟩⟩,0),(⟨⟨[112,114,105,99,101,32,97,32,48,32,53]⟩⟩,⟨⟨[100,111,110,101,32,51]⟩⟩,0),(⟨⟨[111,114,100,101,114,32,111,49,32,97,32,98,32,49,32,50,32,53,32,54]⟩⟩,⟨⟨[100,111,110,101,32,52]⟩⟩,0),(⟨⟨[111,114,100,101,114,32,111,50,32,98,32,97,32,49,32,50,32,53,32,51]⟩⟩,⟨⟨[]⟩⟩,4),(⟨⟨[111,117,116,97,103,101,32,121,32,98,32,49,32,51,32,52,32,53]⟩⟩,⟨⟨[]⟩⟩,24),(⟨⟨[111,117,116,97,103,101,32,120,32,98,32,49,32,53,32,55,32,48]⟩⟩,⟨⟨[100,111,110,101,32,53]⟩⟩,0),(⟨⟨[112,101,114,109,105,116,32,112,32,120,32,53]⟩⟩,⟨⟨[100,111,110,101,32,54]⟩⟩,0),(⟨⟨[109,105,115,115,105,110,103]⟩⟩,⟨⟨[111,49,32,50,32,111,49,32,51,32,111,49,32,52]⟩⟩,0),(⟨⟨[111,117,116,97,103,101,115]⟩⟩,⟨⟨[120]⟩⟩,0),(⟨⟨[116,114,105,112,32,111,49,32,53]⟩⟩,⟨⟨[]⟩⟩,23),(⟨⟨[109,101,116,101,114,32,111,49,32,53,32,50,32,54,32,54]⟩⟩,⟨⟨[100,111,110,101,32,55]⟩⟩,0),(⟨⟨[109,101,116,101,114,32,111,49,32,53,32,51,32,54,32,53]⟩⟩,⟨⟨[100,111,110,101,32,56]⟩⟩,0),(⟨⟨[115,101,116,116,108,101,32,53,32,53]⟩⟩,⟨⟨[]⟩⟩,32),(⟨⟨[109,101,116,101,114,32,111,49,32,53,32,52,32,52,32,51]⟩⟩,⟨⟨[100,111,110,101,32,57]⟩⟩,0),(⟨⟨[109,105,115,115,105,110,103]⟩⟩,⟨⟨[110,111,110,101]⟩⟩,0),(⟨⟨[115,101,116,116,108,101,32,53,32,54]⟩⟩,⟨⟨[]⟩⟩,14),(⟨⟨[115,101,116,116,108,101,32,53,32,53]⟩⟩,⟨⟨[100,111,110,101,32,49,48]⟩⟩,0),(⟨⟨[117,110,100,111]⟩⟩,⟨⟨[]⟩⟩,21),(⟨⟨[98,105,108,108,32,111,49]⟩⟩,⟨⟨[51,32,49,54,32,49,52,32,55,48,32,49,50]⟩⟩,0),(⟨⟨[98,97,108,97,110,99,101,32,98]⟩⟩,⟨⟨[45,53,56]⟩⟩,0),(⟨⟨[114,97,116,101,32,97]⟩⟩,⟨⟨[53]⟩⟩,0),(⟨⟨[114,101,115,116,111,114,101,32,120,32,54]⟩⟩,⟨⟨[]⟩⟩,32),(⟨⟨[112,101,114,109,105,116,115]⟩⟩,⟨⟨[112]⟩⟩,0),(⟨⟨[114,101,116,117,114,110,32,112,32,54]⟩⟩,⟨⟨[100,111,110,101,32,49,49]⟩⟩,0),(⟨⟨[114,101,115,116,111,114,101,32,120,32,54]⟩⟩,⟨⟨[100,111,110,101,32,49,50]⟩⟩,0),(⟨⟨[115,101,116,116,108,101,32,56,32,56]⟩⟩,⟨⟨[100,111,110,101,32,49,51]⟩⟩,0),(⟨⟨[115,101,116,116,108,101,100]⟩⟩,⟨⟨[56]⟩⟩,0)]
def endE:List Ev:=[(1,⟨⟨[115,116,97,116,105,111,110]⟩⟩,[⟨⟨[97]⟩⟩],[0,10],⟨⟨[]⟩⟩),(2,⟨⟨[115,116,97,116,105,111,110]⟩⟩,[⟨⟨[98]⟩⟩],[0,8],⟨⟨[]⟩⟩),(3,⟨⟨[112,114,105,99,101]⟩⟩,[⟨⟨[97]⟩⟩],[0,5],⟨⟨[]⟩⟩),(4,⟨⟨[111,114,100,101,114]⟩⟩,[⟨⟨[111,49]⟩⟩,⟨⟨[97]⟩⟩,⟨⟨[98]⟩⟩],[1,2,5,6],⟨⟨[]⟩⟩),(5,⟨⟨[111,117,116,97,103,101]⟩⟩,[⟨⟨[120]⟩⟩,⟨⟨[98]⟩⟩],[1,5,7,0],⟨⟨[]⟩⟩),(6,⟨⟨[112,101,114,109,105,116]⟩⟩,[⟨⟨[112]⟩⟩,⟨⟨[120]⟩⟩],[5],⟨⟨[]⟩⟩),(7,⟨⟨[109,101,116,101,114]⟩⟩,[⟨⟨[111,49]⟩⟩],[5,2,6,6],⟨⟨[]⟩⟩),(8,⟨⟨[109,101,116,101,114]⟩⟩,[⟨⟨[111,49]⟩⟩],[5,3,6,5],⟨⟨[]⟩⟩),(9,⟨⟨[109,101,116,101,114]⟩⟩,[⟨⟨[111,49]⟩⟩],[5,4,4,3],⟨⟨[]⟩⟩),(10,⟨⟨[115,101,116,116,108,101]⟩⟩,[],[5,5],⟨⟨[]⟩⟩),(11,⟨⟨[114,101,116,117,114,110]⟩⟩,[⟨⟨[112]⟩⟩],[6],⟨⟨[]⟩⟩),(12,⟨⟨[114,101,115,116,111,114,101]⟩⟩,[⟨⟨[120]⟩⟩],[6],⟨⟨[]⟩⟩),(13,⟨⟨[115,101,116,116,108,101]⟩⟩,[],[8,8],⟨⟨[]⟩⟩)]
def endC:List Ev:=(ansS hist0 sayL).1.2.1
def endG:List Reg:=(ansS hist0 sayL).1.2.2
theorem ans_end:ansS hist0 sayL=((endE,endC,endG),true):=by kernel_rfl
def cAwk:ConO:={T? :=some 212,s:=sHist,args:=[.val false (.list 147 sSay)],ress:=[Bo],pre:=fun h (l,_)=>[h=hist0,l=sayL],spec:=fun _ _=>(true,()),post:=fun _ _=>(endE,endC,endG)}
theorem sayL_sz:sayL.length≤1000000∧∀x∈sayL,x.1.size≤1000000:=by
 refine⟨by decide,fun x hx=> ?_⟩
 have:(sayL.all fun x=>decide (x.1.size≤1000000))=true:=by kernel_rfl
 exact of_decide_eq_true (List.all_eq_true.1 this x hx)
theorem okO_weak {f:FuncId} {c:ConO} {p:c.s.T→ATup c.args→List Prop} {sp:c.s.T→ATup c.args→Tup c.ress} {q:c.s.T→ATup c.args→c.s.T} (h1:OkO Tryz.prog f c) (h:∀x y,conj (p x y)→conj (c.pre x y)∧sp x y=c.spec x y∧q x y=c.post x y):OkO Tryz.prog f {c with pre:=p,spec:=sp,post:=q}:=
 ⟨h1.1,fun x y M R B w b T cells vals vs hB hMR hg hw hBb hMb hRb hT ho hv hpre ha=>by
  obtain⟨hp,e1,e2⟩:=h x y hpre
  have H:=h1.2 x y M R B w b T cells vals vs hB hMR hg hw hBb hMb hRb hT ho hv hp ha
  dsimp only
  rw[e1,e2]
  exact H⟩
theorem okO66:OkO Tryz.prog 66 cAns:=ok_of_wpO mixed W171.ok (by kernel_rfl) (by kernel_rfl) (lib_ok (l:=([]:List (Nat×Func))) (by simp)) (fun xx yy=>ann0 (annAns (xx.1,xx.2.1,xx.2.2) yy.1)) (fun xx yy=>fun _=>na ()) fun T xx yy hT=>by obtain rfl:=hT _ rfl;exact wp66 xx.1 xx.2.1 xx.2.2 yy.1
theorem ok66w:Ok Tryz.prog 66 (ConO.con cAwk):=ok_obj (okO_weak (c:=cAns) okO66 fun x y hp=>by
 obtain⟨rfl,e⟩:=hp
 obtain⟨l,_⟩:=y
 have e:l=sayL:=e
 subst e
 exact⟨⟨hist0_ok,hist0_N,sayL_sz.1,sayL_sz.2⟩,by rw[show cAns.spec hist0 (sayL,())=((ansS hist0 sayL).2,()) from rfl,ans_end],by rw[show cAns.post hist0 (sayL,())=(ansS hist0 sayL).1 from rfl,ans_end]⟩)
abbrev W191:=W190.add ok66w
theorem endE_len:endE.length=13:=by kernel_rfl
theorem endE_sz:∀e∈endE,evSz e:=fun e he=>by
 have:(endE.all fun e=>decide (e.2.2.1.length≤1000000)&&decide (e.2.2.2.1.length≤1000000)&&e.2.2.1.all fun s=>decide (s.size≤1000000))=true:=by kernel_rfl
 have h:=List.all_eq_true.1 this e he
 simp only[Bool.and_eq_true] at h
 exact⟨of_decide_eq_true h.1.1,of_decide_eq_true h.1.2,fun s hs=>of_decide_eq_true (List.all_eq_true.1 h.2 s hs)⟩
theorem endE_ck:∀e∈endE,checkE e=0:=fun e he=>by
 have:(endE.all fun e=>checkE e==0)=true:=by kernel_rfl
 exact eq_of_beq (List.all_eq_true.1 this e he)
theorem endE_ok (n:Nat):lOk (endE.take n):=⟨by have:=endE_len;rw[List.length_take];omega,fun e he=>endE_sz e (List.mem_of_mem_take he)⟩
def cAwake:Con:={args:=[],ress:=[Bo],owns:=[],pre:=fun _=>[],spec:=fun _=>(true,())}
def Z78:=[(32:UInt8),(56:UInt8)]
def Z87:=[(32:UInt8),(51:UInt8)]
def Z90:=[(32:UInt8),(53:UInt8)]
def Z92:=[(32:UInt8),(54:UInt8)]
def Z122:=ByteArray.mk (Array.mk [97])
def Z127:=ByteArray.mk (Array.mk [98])
def Z187:=32::53::Z92
def Z508:=ByteArray.mk (Array.mk (115::101::116::116::108::101::32::53::Z90))
def Z540:=ByteArray.mk (Array.mk (114::101::115::116::111::114::101::32::120::Z92))
def Z599:=roomE (List.take 6 endE) Z122 3+roomE (List.take 6 endE) Z127 5
def Z713:=Z599+acntE endE Z122 Z127
def Z729:=Z713+hourE endE 4
def Z734:=Z729+(lossP endE).2
def Z775:=Z734+avE (List.take 10 endE) Z127
def Z789:=Z775+avE endE Z127
theorem wp14:wpFG Tryz.prog W191.g (na ()) (fun _=>na ()) (Sx.look ([(65,Tryz.f65)]:List (Nat×Func))) Tryz.f14 cAwake ():=by
 refine(by kernel_rfl:((([],[],[])=hist0∧[(ByteArray.mk (Array.mk [115,116,97,116,105,111,110,32,97,32,48,32,49,48]),ByteArray.mk (Array.mk [100,111,110,101,32,49]),0),(ByteArray.mk (Array.mk (115::116::97::116::105::111::110::32::98::32::48::Z78)),ByteArray.mk (Array.mk [100,111,110,101,32,50]),0),(ByteArray.mk (Array.mk (112::114::105::99::101::32::97::32::48::Z90)),ByteArray.mk (Array.mk (100::111::110::101::Z87)),0),(ByteArray.mk (Array.mk (111::114::100::101::114::32::111::49::32::97::32::98::32::49::32::50::Z187)),ByteArray.mk (Array.mk [100,111,110,101,32,52]),0),(ByteArray.mk (Array.mk (111::114::100::101::114::32::111::50::32::98::32::97::32::49::32::50::32::53::Z87)),B0,4),(ByteArray.mk (Array.mk (111::117::116::97::103::101::32::121::32::98::32::49::32::51::32::52::Z90)),B0,24),(ByteArray.mk (Array.mk [111,117,116,97,103,101,32,120,32,98,32,49,32,53,32,55,32,48]),ByteArray.mk (Array.mk (100::111::110::101::Z90)),0),(ByteArray.mk (Array.mk (112::101::114::109::105::116::32::112::32::120::Z90)),ByteArray.mk (Array.mk (100::111::110::101::Z92)),0),(wMissing,ByteArray.mk (Array.mk [111,49,32,50,32,111,49,32,51,32,111,49,32,52]),0),(wOutages,ByteArray.mk (Array.mk [120]),0),(ByteArray.mk (Array.mk (116::114::105::112::32::111::49::Z90)),B0,23),(ByteArray.mk (Array.mk (109::101::116::101::114::32::111::49::32::53::32::50::32::54::Z92)),ByteArray.mk (Array.mk [100,111,110,101,32,55]),0),(ByteArray.mk (Array.mk (109::101::116::101::114::32::111::49::32::53::32::51::32::54::Z90)),ByteArray.mk (Array.mk (100::111::110::101::Z78)),0),(Z508,B0,32),(ByteArray.mk (Array.mk (109::101::116::101::114::32::111::49::32::53::32::52::32::52::Z87)),ByteArray.mk (Array.mk [100,111,110,101,32,57]),0),(wMissing,Z256,0),(ByteArray.mk (Array.mk (115::101::116::116::108::101::Z187)),B0,14),(Z508,ByteArray.mk (Array.mk [100,111,110,101,32,49,48]),0),(wUndo,B0,21),(ByteArray.mk (Array.mk [98,105,108,108,32,111,49]),ByteArray.mk (Array.mk [51,32,49,54,32,49,52,32,55,48,32,49,50]),0),(ByteArray.mk (Array.mk [98,97,108,97,110,99,101,32,98]),ByteArray.mk (Array.mk [45,53,56]),0),(ByteArray.mk (Array.mk [114,97,116,101,32,97]),ByteArray.mk (Array.mk [53]),0),(Z540,B0,32),(wPermits,ByteArray.mk (Array.mk [112]),0),(ByteArray.mk (Array.mk (114::101::116::117::114::110::32::112::Z92)),ByteArray.mk (Array.mk [100,111,110,101,32,49,49]),0),(Z540,ByteArray.mk (Array.mk [100,111,110,101,32,49,50]),0),(ByteArray.mk (Array.mk (115::101::116::116::108::101::32::56::Z78)),ByteArray.mk (Array.mk [100,111,110,101,32,49,51]),0),(wSettled,ByteArray.mk (Array.mk [56]),0)]=sayL)∧Br false (Sf true (false=true)) ((13≤1000∧∀(e:Ev),e∈endE→evSz e)∧Br false (Sf true (false=true)) (T2 (((0:Int)≤0∧(0:Int)≤6∧(6:Int)≤13)∧lOk (List.take 6 endE)) (lOk endE∧T2 (lOk endE) ((((0:Int)≤0∧(0:Int)≤10∧(10:Int)≤13)∧lOk (List.take 10 endE))∧T2 (lOk endE) ((13≤1000∧∀(e:Ev),e∈endE→BodyOk e)∧(325:Int)≤9223372036854775807∧(Iw Z599∧Iw Z713∧Iw Z729∧Iw Z734∧Iw Z775∧Iw Z789∧Iw (Z789+storyE endE Z122)∧(true=true→2≤1000000))∧Tw (true=true)))))))=_).mp ?_
 delta Z78 Z87 Z90 Z92 Z122 Z127 Z187 Z256 Z508 Z540 Z599 Z713 Z729 Z734 Z775 Z789 Br Iw T2 Tw Sf B0 wMissing wOutages wPermits wSettled wUndo
 have ok:lOk endE:=⟨by rw[endE_len];decide,endE_sz⟩
 have z1:roomE (List.take 6 endE) {data:={toList:=[97]}} 3=0:=by kernel_rfl
 have z2:roomE (List.take 6 endE) {data:={toList:=[98]}} 5=0:=by kernel_rfl
 have z3:acntE endE {data:={toList:=[97]}} {data:={toList:=[98]}}=0:=by kernel_rfl
 have z4:hourE endE 4=0:=by kernel_rfl
 have z5:(lossP endE).2=0:=by kernel_rfl
 have z6:avE (List.take 10 endE) {data:={toList:=[98]}}=0:=by kernel_rfl
 have z7:avE endE {data:={toList:=[98]}}=0:=by kernel_rfl
 have z8:storyE endE {data:={toList:=[97]}}=0:=by kernel_rfl
 rw[z1,z2,z3,z4,z5,z6,z7,z8]
 exact⟨⟨rfl,rfl⟩,fun h=>(nomatch h),fun _=>⟨⟨by decide,endE_sz⟩,fun h=>(nomatch h),fun _=>⟨⟨by omega,endE_ok 6⟩,⟨by omega,endE_ok 6⟩,ok,ok,ok,⟨by omega,endE_ok 10⟩,ok,ok,⟨by decide,fun e he=>body_ok (endE_ck e he)⟩,by decide,⟨by decide,by decide,by decide,by decide,by decide,by decide,by decide,fun _=>by decide⟩,rfl,rfl⟩⟩⟩
theorem ok14:Ok Tryz.prog 14 cAwake:=ok_of_wpG mixed W191.ok (by kernel_rfl) (by kernel_rfl) (lib_ok (l:=([(65,Tryz.f65)]:List (Nat×Func))) (List.forall_mem_cons.2 ⟨by kernel_rfl,by simp⟩)) (fun xx=>na ()) (fun xx=>fun _=>na ()) fun xx=>wp14
abbrev W192:=W191.add ok14
set_option maxHeartbeats 20000000
def eqL {α:Type} (p:α→α→Bool):List α→List α→Bool
 |[],[]=>true
 |x::l,y::r=>bif p x y then eqL p l r else false
 |_,_=>false
theorem eqL_ne {α:Type} {p:α→α→Bool}:∀{l r:List α},l.length≠r.length→eqL p l r=false
 |[],[],h=>absurd rfl h
 |[],_::_,_=>rfl
 |_::_,[],_=>rfl
 |x::l,y::r,h=>by
  unfold eqL
  rw[eqL_ne (fun e=>h (by rw[List.length_cons,List.length_cons,e]))]
  cases p x y<;>rfl
theorem eqL_refl {α:Type} {p:α→α→Bool} (h:∀x,p x x=true):∀l:List α,eqL p l l=true
 |[]=>rfl
 |x::l=>by unfold eqL;rw[h x,cond_true];exact eqL_refl h l
def sameB (a b:ByteArray):Bool:= !(a.toList !=b.toList)
def sameI (a b:Int):Bool:= !(a !=b)
abbrev annSame (T:TypeId) (s:Sch) (p:s.T→s.T→Bool) (xs ys:List s.T):Ann:={X:=Nat,σ:=fun k=>⟨2,[(0, .one (.sl 0)),(1, .one (.sl 1)),(5, .one (.int .i64 k))],[(0, .imm T s xs),(1, .imm T s ys)]⟩,inv:=fun k=>k≤xs.length∧xs.length=ys.length∧eqL p (xs.drop k) (ys.drop k)=eqL p xs ys,mu:=fun k=>xs.length-k}
def cSame (T:TypeId) (s:Sch) (p:s.T→s.T→Bool):Con:={args:=[.val false (.list T s), .val false (.list T s)],ress:=[Bo],owns:=[],pre:=fun(xs,_)=>[xs.length≤1000000],spec:=fun(xs,ys,_)=>(eqL p xs ys,())}
def cSameW:Con:=cSame 9 .str sameB
def Z627 (a:Nat) (b c:Ls):=Z33 a b∧List.length b=List.length c∧eqL sameB (List.drop a b) (List.drop a c)=eqL sameB b c
theorem ok89:Ok Tryz.prog 89 cSameW:=okW W192 Tryz.f89 (fun xx=>ann0 (annSame 9 .str sameB xx.1 xx.2.1)) fun xx=>by
 obtain⟨(xs:List ByteArray),(ys:List ByteArray),_⟩:=xx
 refine(by kernel_rfl:(Z102 xs→Br (Ln xs !=Ln ys) (false=eqL sameB xs ys) (∃(x:Nat),(0=Nc x∧Sf xs (ys=ys))∧Z627 x xs ys∧∀(x:Nat),Z627 x xs ys→Br (decide (Nc x<Ln xs)) (T2 (Z68 x xs) (Tw (Z68 x ys))∧Br (!Lb (Z18 xs x) (Z18 ys x)) (false=eqL sameB xs ys) (Z16 x∧∃(y:Nat),(Z94 x y∧Sf xs (ys=ys))∧Z627 y xs ys∧Z216 xs y x)) (true=eqL sameB xs ys)))=_).mp ?_
 delta Z16 Z18 Z33 Z68 Z94 Z102 Z216 Z627 Br Iw Bd T2 Tw Sf Ln Nc B0 Lb
 intro hl
 refine⟨fun h=> ?_,fun h=>⟨(0:Nat),by(repeat' first|exact rfl|exact trivial|apply And.intro|exact(Int.add_zero _).symm|exact Int.add_assoc _ _ _|omega|(dsimp only;push_cast;omega)),⟨Nat.zero_le _, ?_,rfl⟩,fun(k:Nat) hk=>⟨fun h1=> ?_,fun h1=> ?_⟩⟩⟩
 ·have h:((xs.length:Int) !=ys.length)=true:=h
  exact(eqL_ne (by have:=bne_iff_ne.1 h;omega)).symm
 ·have h:((xs.length:Int) !=ys.length)=false:=h
  have:=bne_eq_false_iff_eq.1 h
  omega
 ·obtain⟨k1,k2,k3⟩:=hk
  have hlt:k<xs.length:=by simpa using h1
  rw[drop_cons (l:=xs) (d:=bnil) hlt,drop_cons (l:=ys) (d:=bnil) (by omega),eqL] at k3
  refine⟨by(repeat' first|apply And.intro|(first|omega|(dsimp only;omega)|(simp only[];omega))),fun h2=> ?_,fun h2=> ?_⟩
  ·have h2:sameB (xs.getD k bnil) (ys.getD k bnil)=false:=by unfold sameB;rw[show((xs.getD k bnil).toList !=(ys.getD k bnil).toList)=true from h2];rfl
   rw[h2] at k3;exact k3
  ·have h2:sameB (xs.getD k bnil) (ys.getD k bnil)=true:=by unfold sameB;rw[show((xs.getD k bnil).toList !=(ys.getD k bnil).toList)=false from h2];rfl
   rw[h2] at k3
   exact⟨by(repeat' first|apply And.intro|(first|omega|(dsimp only;omega)|(simp only[];omega))),(k+1:Nat),by(repeat' first|exact rfl|exact trivial|apply And.intro|exact(Int.add_zero _).symm|exact Int.add_assoc _ _ _|omega|(dsimp only;push_cast;omega)),⟨by omega,k2,k3⟩,by omega⟩
 ·obtain⟨k1,k2,k3⟩:=hk
  have hlt:¬k<xs.length:=by simpa using h1
  rw[List.drop_eq_nil_of_le (by omega),List.drop_eq_nil_of_le (by omega)] at k3
  exact k3
abbrev W193:=W192.add ok89
def cSameN:Con:=cSame 3 sI sameI
def Z548 (a:Nat) (b c:Li):=a≤List.length b∧List.length b=List.length c∧eqL sameI (List.drop a b) (List.drop a c)=eqL sameI b c
theorem ok90:Ok Tryz.prog 90 cSameN:=okW W193 Tryz.f90 (fun xx=>ann0 (annSame 3 sI sameI xx.1 xx.2.1)) fun xx=>by
 obtain⟨(xs:List Int),(ys:List Int),_⟩:=xx
 refine(by kernel_rfl:(Z53 xs→Br (Ln xs !=Ln ys) (false=eqL sameI xs ys) (∃(x:Nat),(0=Nc x∧Sf xs (ys=ys))∧Z548 x xs ys∧∀(x:Nat),Z548 x xs ys→Br (Z82 x xs) (T2 (Bd (Nc x) (Ln xs)) (Z72 x ys)∧Br (Z14 xs x !=Z14 ys x) (false=eqL sameI xs ys) (Z16 x∧∃(y:Nat),(Z94 x y∧Sf xs (ys=ys))∧Z548 y xs ys∧Z176 xs y x)) (true=eqL sameI xs ys)))=_).mp ?_
 delta Z14 Z16 Z53 Z72 Z82 Z94 Z176 Z548 Br Iw Bd T2 Tw Sf Ln Nc
 intro hl
 refine⟨fun h=> ?_,fun h=>⟨(0:Nat),by(repeat' first|exact rfl|exact trivial|apply And.intro|exact(Int.add_zero _).symm|exact Int.add_assoc _ _ _|omega|(dsimp only;push_cast;omega)),⟨Nat.zero_le _, ?_,rfl⟩,fun(k:Nat) hk=>⟨fun h1=> ?_,fun h1=> ?_⟩⟩⟩
 ·have h:((xs.length:Int) !=ys.length)=true:=h
  exact(eqL_ne (by have:=bne_iff_ne.1 h;omega)).symm
 ·have h:((xs.length:Int) !=ys.length)=false:=h
  have:=bne_eq_false_iff_eq.1 h
  omega
 ·obtain⟨k1,k2,k3⟩:=hk
  have hlt:k<xs.length:=by simpa using h1
  rw[drop_cons (l:=xs) (d:=(0:Int)) hlt,drop_cons (l:=ys) (d:=(0:Int)) (by omega),eqL] at k3
  refine⟨by(repeat' first|apply And.intro|(first|omega|(dsimp only;omega)|(simp only[];omega))),fun h2=> ?_,fun h2=> ?_⟩
  ·have h2:sameI (xs.getD k 0) (ys.getD k 0)=false:=by unfold sameI;rw[show(xs.getD k 0 !=ys.getD k 0)=true from h2];rfl
   rw[h2] at k3;exact k3
  ·have h2:sameI (xs.getD k 0) (ys.getD k 0)=true:=by unfold sameI;rw[show(xs.getD k 0 !=ys.getD k 0)=false from h2];rfl
   rw[h2] at k3
   exact⟨by(repeat' first|apply And.intro|(first|omega|(dsimp only;omega)|(simp only[];omega))),(k+1:Nat),by(repeat' first|exact rfl|exact trivial|apply And.intro|exact(Int.add_zero _).symm|exact Int.add_assoc _ _ _|omega|(dsimp only;push_cast;omega)),⟨by omega,k2,k3⟩,by omega⟩
 ·obtain⟨k1,k2,k3⟩:=hk
  have hlt:¬k<xs.length:=by simpa using h1
  rw[List.drop_eq_nil_of_le (by omega),List.drop_eq_nil_of_le (by omega)] at k3
  exact k3
abbrev W194:=W193.add ok90
set_option maxHeartbeats 20000000
def difEv (a b:Ev):Bool:=bif bif bif bif a.1 !=b.1 then true else !(a.2.1.toList==b.2.1.toList) then true else !eqL sameB a.2.2.1 b.2.2.1 then true else !eqL sameI a.2.2.2.1 b.2.2.2.1 then true else !(a.2.2.2.2.toList==b.2.2.2.2.toList)
def sameEv (a b:Ev):Bool:= !difEv a b
theorem sameB_refl (a:ByteArray):sameB a a=true:=by unfold sameB;simp
theorem sameI_refl (a:Int):sameI a a=true:=by unfold sameI;simp
def cSameE:Con:={args:=[.val false (.list 67 sEv), .val false (.list 67 sEv)],ress:=[Bo],owns:=[],pre:=fun(xs,_)=>[xs.length≤1000000,∀x∈xs,x.2.2.1.length≤1000000∧x.2.2.2.1.length≤1000000],spec:=fun(xs,ys,_)=>(eqL sameEv xs ys,())}
def Z281 (a:List Ev) (b:Nat):=(Z273 a b).2
def Z542 (a:Nat) (b c:List Ev):=a≤List.length b∧List.length b=List.length c∧eqL sameEv (List.drop a b) (List.drop a c)=eqL sameEv b c
def Z650 (a:List Ev) (b:Nat) (c:List Ev):=Z255 a b !=Z255 c b
def Z663 (a:List Ev) (b:Nat) (c:List Ev):=Z650 a b c=false
def Z764 (a:List Ev) (b:Nat) (c:List Ev):=bif Z650 a b c then true else !Lb (Z265 a b) (Z265 c b)
def Z767 (a:List Ev) (b:Nat) (c:List Ev):=Z764 a b c=false
def Z799 (a:List Ev) (b:Nat) (c:List Ev):=bif Z764 a b c then true else !eqL sameB (Z262 a b).1 (Z262 c b).1
def Z800 (a:List Ev) (b:Nat) (c:List Ev):=Z799 a b c=false
def Z817 (a:List Ev) (b:Nat) (c:List Ev):=bif Z799 a b c then true else !eqL sameI (Z273 a b).1 (Z273 c b).1
def Z818 (a:List Ev) (b:Nat) (c:List Ev):=Z817 a b c=false
theorem ok24:Ok Tryz.prog 24 cSameE:=okW W194 Tryz.f24 (fun xx=>ann0 (annSame 67 sEv sameEv xx.1 xx.2.1)) fun xx=>by
 obtain⟨(xs:List Ev),(ys:List Ev),_⟩:=xx
 refine(by kernel_rfl:(Z37 xs→Z545 xs→Br (Ln xs !=Ln ys) (false=eqL sameEv xs ys) (∃(x:Nat),(0=Nc x∧Sf xs (ys=ys))∧Z542 x xs ys∧∀(x:Nat),Z542 x xs ys→Br (Z69 x xs) (T2 (Z13 x xs) (T2 (Z13 x ys) (T2 (Z663 xs x ys→Z13 x xs) (T2 (Z663 xs x ys→Z13 x ys) (T2 (Z767 xs x ys→Z13 x xs) (T2 (Z767 xs x ys→Z13 x ys) ((Z767 xs x ys→List.length (Z262 xs x).1≤1000000)∧T2 (Z800 xs x ys→Z13 x xs) (T2 (Z800 xs x ys→Z13 x ys) ((Z800 xs x ys→List.length (Z273 xs x).1≤1000000)∧T2 (Z818 xs x ys→Z13 x xs) (Tw (Z818 xs x ys→Z13 x ys))))))))))∧Br (bif Z817 xs x ys then true else !Lb (Z281 xs x) (Z281 ys x)) (false=eqL sameEv xs ys) (Z16 x∧∃(y:Nat),(Z94 x y∧Sf xs (ys=ys))∧Z542 y xs ys∧List.length xs-y<List.length xs-x)) (true=eqL sameEv xs ys)))=_).mp ?_
 delta Z13 Z16 Z37 Z69 Z94 Z167 Z181 Z246 Z255 Z262 Z265 Z273 Z281 Z297 Z542 Z545 Z650 Z663 Z764 Z767 Z799 Z800 Z817 Z818 Br Iw Bd T2 Tw Sf Ln Nc B0 Lb
 intro hl hs
 refine⟨fun h=> ?_,fun h=>⟨(0:Nat),by(repeat' first|exact rfl|exact trivial|apply And.intro|exact(Int.add_zero _).symm|exact Int.add_assoc _ _ _|omega|(dsimp only;push_cast;omega)),⟨Nat.zero_le _, ?_,rfl⟩,fun(k:Nat) hk=>⟨fun h1=> ?_,fun h1=> ?_⟩⟩⟩
 ·have h:((xs.length:Int) !=ys.length)=true:=h
  exact(eqL_ne (by have:=bne_iff_ne.1 h;omega)).symm
 ·have h:((xs.length:Int) !=ys.length)=false:=h
  have:=bne_eq_false_iff_eq.1 h
  omega
 ·obtain⟨k1,k2,k3⟩:=hk
  have hlt:k<xs.length:=by simpa using h1
  rw[drop_cons (l:=xs) (d:=ev0) hlt,drop_cons (l:=ys) (d:=ev0) (by omega),eqL] at k3
  have hz:((0:Int),({data:={toList:=[]}}:ByteArray),([]:List ByteArray),([]:List Int),({data:={toList:=[]}}:ByteArray))=ev0:=rfl
  have hx:((0:Int)≤(k:Int)∧(k:Int)<(xs.length:Int))=True:=eq_true (by omega)
  have hy:((0:Int)≤(k:Int)∧(k:Int)<(ys.length:Int))=True:=eq_true (by omega)
  have ha:=hs _ (getD_mem (d:=ev0) hlt)
  simp only[hz,hx,hy,implies_true,true_and,and_true]
  generalize xs.getD k ev0=a at ha k3⊢
  generalize ys.getD k ev0=b at k3⊢
  refine⟨⟨fun _=>ha.1,fun _=>ha.2⟩,fun h2=> ?_,fun h2=> ?_⟩
  ·have h2:sameEv a b=false:=by unfold sameEv;rw[show difEv a b=true from h2];rfl
   rw[h2] at k3;exact k3
  ·have h2:sameEv a b=true:=by unfold sameEv;rw[show difEv a b=false from h2];rfl
   rw[h2] at k3
   exact⟨by omega,(k+1:Nat),by omega,⟨by omega,k2,k3⟩,by omega⟩
 ·obtain⟨k1,k2,k3⟩:=hk
  have hlt:¬k<xs.length:=by simpa using h1
  rw[List.drop_eq_nil_of_le (by omega),List.drop_eq_nil_of_le (by omega)] at k3
  exact k3
abbrev W195:=W194.add ok24
def longEv (e:Ev):Bool:=bif bif bif decide (40<(e.2.1.size:Int)) then true else decide (6<(e.2.2.1.length:Int)) then true else decide (8<(e.2.2.2.1.length:Int)) then true else decide (200<(e.2.2.2.2.size:Int))
def shortB (e:Ev):Bool:=bif longEv e then false else e.2.2.1.all fun s=> !decide (40<(s.size:Int))
def shortE (l:List Ev) (n:Int):Bool:=bif decide (n<(l.length:Int)) then false else l.all shortB
def cShort:Con:={args:=[.val false (.list 67 sEv),aI],ress:=[Bo],owns:=[],pre:=fun(_,n,_)=>[n≤1000000],spec:=fun(l,n,_)=>(shortE l n,())}
abbrev annShort (l:List Ev) (n:Int):Nat→Option Ann:=fun id=>if id=0 then some {X:=Nat,σ:=fun k=>⟨1,[(0, .one (.sl 0)),(5, .one (.int .i64 k))],[(0, .imm 67 sEv l)]⟩,inv:=fun k=>k≤l.length∧(l.drop k).all shortB=l.all shortB,mu:=fun k=>l.length-k}
 else if id=2 then some {X:=Nat×Nat,σ:=fun(k,j)=>⟨1,[(0, .one (.sl 0)),(5, .one (.int .i64 k)),(6, .one (.int .i64 j))],[(0, .imm 67 sEv l)]⟩,inv:=fun(k,j)=>k<l.length∧j≤(l.getD k ev0).2.2.1.length∧(l.getD k ev0).2.2.1.length≤6∧(bif (((l.getD k ev0).2.2.1.drop j).all fun s=> !decide (40<(s.size:Int))) then(l.drop (k+1)).all shortB else false)=l.all shortB,mu:=fun(k,j)=>(l.getD k ev0).2.2.1.length-j,rel:=some fun x0 x=>x0.1=x.1} else none
def Z172 (a:List Ev) (b:Nat×Nat):=List.length (List.getD a b.1 ev0).2.2.1
def Z304 (a:Nat) (b:List Ev):=a≤List.length b∧List.all (List.drop a b) shortB=List.all b shortB
def Z332 (a:List Ev) (b:Nat×Nat):=Ln (List.getD a b.1 Z181).2.2.1
def Z385 (a:List Ev) (b:Nat):=decide (40<Nc (ByteArray.size (Z265 a b)))
def Z693 (a:List Ev) (b:Nat):=bif Z385 a b then true else decide (6<Ln (Z262 a b).1)
def Z762 (a:List Ev) (b:Nat):=bif Z693 a b then true else decide (8<Ln (Z273 a b).1)
def Z763 (a:Nat×Nat) (b:List Ev):=a.1<List.length b∧a.2≤Z172 b a∧Z172 b a≤6∧(bif List.all (List.drop a.2 (List.getD b a.1 ev0).2.2.1) fun(s:ByteArray)=> !decide (40<Nc (ByteArray.size s)) then List.all (List.drop (a.1+1) b) shortB else false)=List.all b shortB
def Z768 (a:Nat×Nat) (b:List Ev) (c:Nat×Nat):=Z763 a b∧c.1=a.1
theorem ok13:Ok Tryz.prog 13 cShort:=okW W195 Tryz.f13 (fun xx=>annShort xx.1 xx.2.1) fun xx=>by
 obtain⟨(l:List Ev),(n:Int),_⟩:=xx
 refine(by kernel_rfl:(n≤1000000→Br (decide (n<Ln l)) (false=shortE l n) (∃(x:Nat),(0=Nc x∧l=l)∧Z304 x l∧∀(x:Nat),Z304 x l→Br (Z69 x l) (T2 (Z13 x l) (T2 (Z385 l x=false→Z13 x l) (T2 (Z693 l x=false→Z13 x l) (Tw (Z762 l x=false→Z13 x l))))∧Br (bif Z762 l x then true else decide (200<Nc (ByteArray.size (Z281 l x)))) (false=shortE l n) (∃(x0:Nat×Nat),(Nc x=Nc x0.1∧0=Nc x0.2∧l=l)∧(Z763 x0 l∧x0.1=x0.1)∧∀(x_1:Nat×Nat),Z768 x_1 l x0→Tw (Bd (Nc x_1.1) (Ln l))∧Br (decide (Nc x_1.2<Z332 l x_1)) (T2 (Bd (Nc x_1.1) (Ln l)) (Tw (Bd (Nc x_1.2) (Z332 l x_1)))∧Br (decide (40<Nc (ByteArray.size (List.getD (List.getD l x_1.1 Z181).2.2.1 x_1.2 B0)))) (false=shortE l n) (Iw (Nc x_1.2+1)∧∃(y:Nat×Nat),(Nc x_1.1=Nc y.1∧Nc x_1.2+1=Nc y.2∧l=l)∧Z768 y l x0∧Z172 l y-y.2<Z172 l x_1-x_1.2)) (Iw (Nc x_1.1+1)∧∃(y:Nat),(Nc x_1.1+1=Nc y∧l=l)∧Z304 y l∧List.length l-y<List.length l-x))) (true=shortE l n)))=_).mp ?_
 delta Z13 Z69 Z172 Z181 Z246 Z262 Z265 Z273 Z281 Z304 Z332 Z385 Z693 Z762 Z763 Z768 Br Iw Bd T2 Tw Ln Nc B0
 intro hn
 refine⟨fun h=> ?_,fun h=>⟨(0:Nat),by(repeat' first|exact rfl|exact trivial|apply And.intro|exact(Int.add_zero _).symm|exact Int.add_assoc _ _ _|omega|(dsimp only;push_cast;omega)),⟨Nat.zero_le _,rfl⟩,fun(k:Nat) hk=>⟨fun h1=> ?_,fun h1=> ?_⟩⟩⟩
 ·unfold shortE;rw[h];rfl
 ·have hsh:shortE l n=l.all shortB:=by unfold shortE;rw[h];rfl
  obtain⟨k1,k2⟩:=hk
  have hlt:k<l.length:=by simpa using h1
  have hn2:(l.length:Int)≤n:=by have:=of_decide_eq_false h;omega
  rw[drop_cons (d:=ev0) hlt,List.all_cons] at k2
  have hz:((0:Int),({data:={toList:=[]}}:ByteArray),([]:List ByteArray),([]:List Int),({data:={toList:=[]}}:ByteArray))=ev0:=rfl
  have hx:((0:Int)≤(k:Int)∧(k:Int)<(l.length:Int))=True:=eq_true (by omega)
  simp only[hz,hx,implies_true,true_and,and_true]
  refine⟨fun h2=> ?_,fun h2=> ?_⟩
  ·have h2:shortB (l.getD k ev0)=false:=by unfold shortB;rw[show longEv (l.getD k ev0)=true from h2];rfl
   rw[h2] at k2
   rw[hsh,←k2];rfl
  ·have h2:longEv (l.getD k ev0)=false:=h2
   have h6:(l.getD k ev0).2.2.1.length≤6:=by
    unfold longEv at h2
    cases hc:decide (6<((l.getD k ev0).2.2.1.length:Int)) with
    |false=>have:=of_decide_eq_false hc;omega
    |true=>rw[hc] at h2;simp at h2
   have hand:∀u v:Bool,(bif u then v else false)=(u&&v):=by decide
   have hsb:shortB (l.getD k ev0)=(l.getD k ev0).2.2.1.all fun s=> !decide (40<(s.size:Int)):=by unfold shortB;rw[h2];rfl
   refine⟨(k,(0:Nat)),by(repeat' first|exact rfl|exact trivial|apply And.intro|exact(Int.add_zero _).symm|exact Int.add_assoc _ _ _|omega|(dsimp only;push_cast;omega)),⟨hlt,Nat.zero_le _,h6,by rw[hand];rw[hsb] at k2;exact k2⟩,fun(x:Nat×Nat) hx=> ?_⟩
   obtain⟨k',j⟩:=x
   obtain⟨⟨j1,j2,j3,j4⟩,j5⟩:=hx
   have j5:k=k':=j5
   subst j5
   dsimp only at j1 j2 j3 j4⊢
   refine⟨by omega,fun h3=> ?_,fun h3=> ?_⟩
   ·have hj:j<(l.getD k ev0).2.2.1.length:=Int.ofNat_lt.1 (of_decide_eq_true h3)
    rw[drop_cons (d:=bnil) hj,List.all_cons] at j4
    refine⟨⟨by omega,by omega, ?_, ?_⟩,fun h4=> ?_,fun h4=>⟨?_,(k,j+1),⟨rfl,by simp⟩,⟨⟨hlt,by dsimp only;omega,j3, ?_⟩,rfl⟩, ?_⟩⟩
    ·exact⟨by omega,Int.ofNat_lt.2 hj⟩
    ·exact⟨by omega,Int.ofNat_lt.2 hj⟩
    ·have h4:decide (40<(((l.getD k ev0).2.2.1.getD j bnil).size:Int))=true:=h4
     rw[h4] at j4
     rw[hsh,←j4];rfl
    ·omega
    ·have h4:decide (40<(((l.getD k ev0).2.2.1.getD j bnil).size:Int))=false:=h4
     rw[h4] at j4
     exact j4
    ·dsimp only;omega
   ·have hj:¬j<(l.getD k ev0).2.2.1.length:=fun q=>of_decide_eq_false h3 (Int.ofNat_lt.2 q)
    rw[List.drop_eq_nil_of_le (by omega)] at j4
    exact⟨by omega,(k+1:Nat),by simp,⟨by omega,j4⟩,by omega⟩
 ·have hsh:shortE l n=l.all shortB:=by unfold shortE;rw[h];rfl
  obtain⟨k1,k2⟩:=hk
  have hlt:¬k<l.length:=by simpa using h1
  rw[List.drop_eq_nil_of_le (by omega)] at k2
  rw[hsh,←k2];rfl
abbrev W196:=W195.add ok13
set_option maxHeartbeats 20000000
theorem form_off {k:ByteArray} (h:kindK k=false):(formS k).2.2=false:=by
 have hne:∀w:ByteArray,kindK w=true→(k.toList==w.toList)=false:=fun w hw=>by
  cases hc:k.toList==w.toList with
  |false=>rfl
  |true=>
   have:=bytes_eq hc
   subst this
   rw[hw] at h;cases h
 unfold formS
 rw[hne wStation (by kernel_rfl),hne wPrice (by kernel_rfl),hne wOrder (by kernel_rfl),hne wMeter (by kernel_rfl),hne wTrip (by kernel_rfl),hne wOutage (by kernel_rfl),hne wRestore (by kernel_rfl),hne wPermit (by kernel_rfl),hne wReturn (by kernel_rfl),hne wSettle (by kernel_rfl),hne wUndo (by kernel_rfl)]
 rfl
theorem form_on {k:ByteArray} (h:kindK k=true):(formS k).2.2=true∧(formS k).1.size=(kindD k).1.length∧(formS k).2.1=(kindD k).2.1:=by
 rcases kind_cases h with h|h|h|h|h|h|h|h|h|h|h<;>subst h
 all_goals exact⟨by kernel_rfl,by kernel_rfl,by kernel_rfl⟩
def formQ (k:ByteArray):ByteArray×Int×Bool:=formS k
def cFormQ:Con:={args:=[aS],ress:=[(true,sForm)],owns:=[],pre:=fun _=>[],spec:=fun(k,_)=>(formQ k,())}
theorem ok110q:Ok Tryz.prog 110 cFormQ:=ok110
abbrev W197:=W196.add ok110q
def ckN (ns:List ByteArray):Int:=firstS (ns.map fun s=>bif nameB s then 0 else 8)
def ckV (vs:List Int):Int:=firstS (vs.map fun n=>withinS n 0 999999999)
theorem emp_size (t:ByteArray):(t.toList==bnil.toList)= !decide (0<t.size):=by
 cases h:t.toList==bnil.toList with
 |true=>have:=bytes_eq h;subst this;rfl
 | false =>
  have:0<t.size:=Nat.pos_of_ne_zero fun h0=>by
   have e:t.data.toList=[]:=List.eq_nil_of_length_eq_zero h0
   rw[Lib.toList_data,Lib.toList_data,e] at h
   exact nomatch (show true=false from h)
  rw[decide_eq_true this];rfl
theorem firstS_cons (x:Int) (l:List Int):firstS (x::l)=if x=0 then firstS l else x:=rfl
def cChk36:Con:={args:=[aEv],ress:=[I],owns:=[],pre:=fun(e,_)=>[e.2.2.1.length≤1000000,e.2.2.2.1.length≤1000000,∀s∈e.2.2.1,s.size≤1000000],spec:=fun(e,_)=>(checkE e,())}
abbrev ann36 (n:Int) (k:ByteArray) (ns:List ByteArray) (vs:List Int) (t:ByteArray):Nat→Option Ann:=fun id=>if id=0 then some {X:=Nat,σ:=fun i=>⟨4,[(1, .one (.ptr 2 0)),(3, .one (.ptr 3 0)),(4, .one (.int .i64 i))],[(2, .box 67 [.int .i64 n, .str k, .sl 0, .sl 1, .str t]),(3, .box 208 [.str (formQ k).1, .int .i64 (formQ k).2.1, .bool (formQ k).2.2]),(0, .imm 9 .str ns),(1, .imm 3 sI vs)]⟩,inv:=fun i=>i≤ns.length∧ckN (ns.drop i)=ckN ns,mu:=fun i=>ns.length-i}
 else if id=2 then some {X:=Nat,σ:=fun i=>⟨4,[(1, .one (.ptr 2 0)),(3, .one (.ptr 3 0)),(5, .one (.int .i64 i))],[(2, .box 67 [.int .i64 n, .str k, .sl 0, .sl 1, .str t]),(3, .box 208 [.str (formQ k).1, .int .i64 (formQ k).2.1, .bool (formQ k).2.2]),(0, .imm 9 .str ns),(1, .imm 3 sI vs)]⟩,inv:=fun i=>i≤vs.length∧ckV (vs.drop i)=ckV vs,mu:=fun i=>vs.length-i}
 else none
def Z226 (a:Nat) (b:Li):=a≤List.length b∧ckV (List.drop a b)=ckV b
def Z275 (a:Nat) (b:Ls):=Z33 a b∧ckN (List.drop a b)=ckN b
def Z554 (a:Int) (b c:Bt) (d:Ls) (e:Li):=Si a (Sf b (Sf c (Sf (formQ b).1 (Si (formQ b).2.1 (Sf (formQ b).2.2 (Sf d (e=e)))))))
def Z616 (a:Nat) (b:Int) (c d:Bt) (e:Ls) (f:Li):=0=Nc a∧Z554 b c d e f
def Z649 (a b:Nat) (c:Int) (d e:Bt) (f:Ls) (g:Li):=Z94 a b∧Z554 c d e f g
theorem ok36:Ok Tryz.prog 36 cChk36:=okW W197 Tryz.f36 (fun xx=>ann36 xx.1.1 xx.1.2.1 xx.1.2.2.1 xx.1.2.2.2.1 xx.1.2.2.2.2) fun xx=>by
 obtain⟨⟨(n:Int),(k:ByteArray),(ns:List ByteArray),(vs:List Int),(t:ByteArray)⟩,_⟩:=xx
 refine(by kernel_rfl:(Z102 ns→Z53 vs→Z402 ns→Br (outsideB n 1 1000) (3=Z57 n k ns vs t) (Br (!(formQ k).2.2) (13=Z57 n k ns vs t) (Br (bif Ln ns !=Nc (ByteArray.size (formQ k).1) then true else Ln vs !=(formQ k).2.1) (2=Z57 n k ns vs t) (∃(x:Nat),Z616 x n k t ns vs∧Z275 x ns∧∀(x:Nat),Z275 x ns→Br (decide (Nc x<Nc (ByteArray.size (formQ k).1))) (T2 (Z68 x ns) (ByteArray.size (Z18 ns x)≤1000000)∧Br (!nameB (Z18 ns x)) (8=Z57 n k ns vs t) (Z16 x∧∃(y:Nat),Z649 x y n k t ns vs∧Z275 y ns∧Z216 ns y x)) (∃(x:Nat),Z616 x n k t ns vs∧Z226 x vs∧∀(x:Nat),Z226 x vs→Br (decide (Nc x<(formQ k).2.1)) (Z72 x vs∧Br (outsideB (Z14 vs x) 0 999999999) (3=Z57 n k ns vs t) (Z16 x∧∃(y:Nat),Z649 x y n k t ns vs∧Z226 y vs∧Z176 vs y x)) (Br (!Lb t B0) (1=Z57 n k ns vs t) (0=Z57 n k ns vs t)))))))=_).mp ?_
 delta Z14 Z16 Z18 Z33 Z53 Z57 Z68 Z72 Z94 Z102 Z176 Z216 Z226 Z241 Z275 Z402 Z554 Z616 Z649 Br Iw Bd T2 Tw Sf Si Ln Nc B0 Lb
 intro h1 h2 h3
 have hE1:withinS n 1 1000=bif outsideB n 1 1000 then 3 else 0:=rfl
 have hQ:formQ k=formS k:=rfl
 refine⟨fun h=> ?_,fun h=>⟨fun h4=> ?_,fun h4=> ?_⟩⟩
 ·have e:withinS n 1 1000=3:=by rw[hE1,h];rfl
  unfold checkE
  rw[if_pos (by dsimp only;rw[e];decide),e]
 ·have e:withinS n 1 1000=0:=by rw[hE1,h];rfl
  have hk:kindK k=false:=by
   cases hk:kindK k with
   |false=>rfl
   |true=>
    have:=(form_on hk).1
    have h4:(!(formS k).2.2)=true:=h4
    rw[this] at h4;cases h4
  unfold checkE
  rw[if_neg (by dsimp only;rw[e];decide)]
  dsimp only
  rw[hk];rfl
 have e:withinS n 1 1000=0:=by rw[hE1,h];rfl
 have hk:kindK k=true:=by
  cases hk:kindK k with
  |true=>rfl
  |false=>
   have:=form_off hk
   have h4:(!(formS k).2.2)=false:=h4
   rw[this] at h4;cases h4
 obtain⟨f1,f2,f3⟩:=form_on hk
 rw[←hQ] at f1 f2 f3
 have hc:checkE (n,k,ns,vs,t)=if ns.length=(kindD k).1.length∧(vs.length:Int)=(kindD k).2.1 then firstS [ckN ns,ckV vs,bif decide (0<t.size) then 1 else 0] else 2:=by
  unfold checkE
  rw[if_neg (by dsimp only;rw[e];decide)]
  dsimp only
  rw[hk,cond_true];rfl
 refine⟨fun h5=> ?_,fun h5=> ?_⟩
 ·rw[hc,if_neg fun q=> ?_]
  have a1:((ns.length:Int) !=((formQ k).1.size:Int))=false:=bne_eq_false_iff_eq.2 (by rw[f2];exact congrArg _ q.1)
  have a2:((vs.length:Int) !=(formQ k).2.1)=false:=bne_eq_false_iff_eq.2 (by rw[f3];exact q.2)
  have h5:(bif (ns.length:Int) !=((formQ k).1.size:Int) then true else(vs.length:Int) !=(formQ k).2.1)=true:=h5
  rw[a1,a2] at h5;cases h5
 have h5:(bif (ns.length:Int) !=((formQ k).1.size:Int) then true else(vs.length:Int) !=(formQ k).2.1)=false:=h5
 have a:=bn1 h5
 have a1:(ns.length:Int)=((formQ k).1.size:Int):=bne_eq_false_iff_eq.1 a.1
 have a2:(vs.length:Int)=(formQ k).2.1:=bne_eq_false_iff_eq.1 a.2
 rw[if_pos ⟨by rw[f2] at a1;omega,by rw[a2,f3]⟩] at hc
 refine⟨(0:Nat),by(repeat' first|exact rfl|exact trivial|apply And.intro|exact(Int.add_zero _).symm|exact Int.add_assoc _ _ _|omega|(dsimp only;push_cast;omega)),⟨Nat.zero_le _,rfl⟩,fun(i:Nat) hi=>⟨fun h6=> ?_,fun h6=> ?_⟩⟩
 ·have h6:(i:Int)<((formQ k).1.size:Int):=of_decide_eq_true h6
  have hlt:i<ns.length:=by omega
  have hN:ckN (ns.drop i)=if(bif nameB (ns.getD i bnil) then(0:Int) else 8)=0 then ckN (ns.drop (i+1)) else bif nameB (ns.getD i bnil) then 0 else 8:=by
   rw[drop_cons (d:=bnil) hlt]
   exact firstS_cons _ _
  refine⟨⟨by omega,by omega,h3 _ (getD_mem hlt)⟩,fun h7=> ?_,fun h7=>⟨by omega,(i+1:Nat),by(repeat' first|exact rfl|exact trivial|apply And.intro|exact(Int.add_zero _).symm|exact Int.add_assoc _ _ _|omega|(dsimp only;push_cast;omega)),⟨by omega, ?_⟩,by omega⟩⟩
  ·have h7:(!nameB (ns.getD i bnil))=true:=h7
   have h7:nameB (ns.getD i bnil)=false:=by simpa using h7
   rw[h7] at hN
   have:ckN ns=8:=by rw[←hi.2,hN];rfl
   rw[hc,firstS_cons,this];rfl
  ·have h7:(!nameB (ns.getD i bnil))=false:=h7
   have h7:nameB (ns.getD i bnil)=true:=by simpa using h7
   rw[h7] at hN
   rw[←hi.2,hN];rfl
 ·have h6:¬(i:Int)<((formQ k).1.size:Int):=of_decide_eq_false h6
  have hN:ckN ns=0:=by rw[←hi.2,List.drop_eq_nil_of_le (by omega)];rfl
  refine⟨(0:Nat),by(repeat' first|exact rfl|exact trivial|apply And.intro|exact(Int.add_zero _).symm|exact Int.add_assoc _ _ _|omega|(dsimp only;push_cast;omega)),⟨Nat.zero_le _,rfl⟩,fun(j:Nat) hj=>⟨fun h8=> ?_,fun h8=> ?_⟩⟩
  ·have h8:(j:Int)<(formQ k).2.1:=of_decide_eq_true h8
   have hlt:j<vs.length:=by omega
   have hV:ckV (vs.drop j)=if withinS (vs.getD j 0) 0 999999999=0 then ckV (vs.drop (j+1)) else withinS (vs.getD j 0) 0 999999999:=by
    rw[drop_cons (d:=(0:Int)) hlt]
    exact firstS_cons _ _
   have hW:withinS (vs.getD j 0) 0 999999999=bif outsideB (vs.getD j 0) 0 999999999 then 3 else 0:=rfl
   refine⟨by omega,fun h7=> ?_,fun h7=>⟨by omega,(j+1:Nat),by(repeat' first|exact rfl|exact trivial|apply And.intro|exact(Int.add_zero _).symm|exact Int.add_assoc _ _ _|omega|(dsimp only;push_cast;omega)),⟨by omega, ?_⟩,by omega⟩⟩
   ·rw[hW,h7] at hV
    have:ckV vs=3:=by rw[←hj.2,hV];rfl
    rw[hc,firstS_cons,hN,if_pos rfl,firstS_cons,this];rfl
   ·rw[hW,h7] at hV
    rw[←hj.2,hV];rfl
  ·have h8:¬(j:Int)<(formQ k).2.1:=of_decide_eq_false h8
   have hV:ckV vs=0:=by rw[←hj.2,List.drop_eq_nil_of_le (by omega)];rfl
   have hz:(t.toList==({data:={toList:=[]}}:ByteArray).toList)= !decide (0<t.size):=emp_size t
   rw[hz,hc,firstS_cons,hN,if_pos rfl,firstS_cons,hV,if_pos rfl]
   cases decide (0<t.size)
   ·exact⟨fun h=>(nomatch h),fun _=>rfl⟩
   ·exact⟨fun _=>rfl,fun h=>(nomatch h)⟩
abbrev W198:=W197.add ok36
set_option maxHeartbeats 20000000
def preB (e:Ev) (m:Nat):ByteArray:=joinS ((bodyL e).take m) ⟨⟨[32]⟩⟩
theorem join_snoc {sep x:List UInt8}:∀{xs:List (List UInt8)},xs≠[]→Lib.join (xs++[x]) sep=Lib.join xs sep++sep++x
 |[],h=>absurd rfl h
 |[a],_=>by simp[Lib.join,List.intercalate,List.intersperse]
 |a::b::r,_=>by
  have ih:=join_snoc (sep:=sep) (x:=x) (xs:=b::r) (by simp)
  have e1:Lib.join (a::b::(r++[x])) sep=a++sep++Lib.join (b::(r++[x])) sep:=by simp[Lib.join,List.intercalate,List.intersperse]
  have e2:Lib.join (a::b::r) sep=a++sep++Lib.join (b::r) sep:=by simp[Lib.join,List.intercalate,List.intersperse]
  rw[List.cons_append,List.cons_append,e1,e2]
  rw[List.cons_append] at ih
  rw[ih]
  simp only[List.append_assoc]
theorem sum_take {l:List Nat}:∀{m:Nat},(l.take m).sum≤l.sum:=by
 induction l with
 |nil=>intro m;simp
 |cons x l ih=>
  intro m
  cases m with
  |zero=>simp
  |succ m=>rw[List.take_succ_cons,List.sum_cons,List.sum_cons];have:=ih (m:=m);omega
theorem preB_size {e:Ev} (h:BodyOk e) (m:Nat):(preB e m).size≤1000000:=by
 unfold preB joinS
 show(Lib.join (((bodyL e).take m).map (·.data.toList)) [32]).toArray.size≤_
 rw[List.size_toArray]
 refine Nat.le_trans (join_len (sep:=[32]) rfl) (Nat.le_trans ?_ h.siz)
 rw[List.map_map]
 have:(((bodyL e).take m).map ((fun x=>x.length+1)∘fun x:ByteArray=>x.data.toList))=((bodyL e).map fun s=>s.size+1).take m:=by rw[List.map_take];rfl
 rw[this]
 exact sum_take
theorem preB_succ {e:Ev} {m:Nat} (h:m<(bodyL e).length) (h0:0<m):preB e (m+1)=bs ((preB e m).data.toList++[32]++((bodyL e).getD m bnil).data.toList):=by
 have ht:(bodyL e).take (m+1)=(bodyL e).take m++[(bodyL e).getD m bnil]:=(take_snoc (d:=bnil) h).symm
 unfold preB joinS
 rw[ht,List.map_append,List.map_cons,List.map_nil,join_snoc ?_]
 ·simp[bs]
 ·intro q
  have:=congrArg List.length q
  rw[List.length_map,List.length_take,List.length_nil] at this
  omega
theorem bodyL_n {n:Int} {k:ByteArray} {ns:List ByteArray} {vs:List Int} {t:ByteArray} {i:Nat} (h:i<ns.length):(bodyL (n,k,ns,vs,t)).getD (i+2) bnil=ns.getD i bnil:=by
 show(ns++vs.map itoaS).getD i bnil=_
 rw[List.getD_eq_getElem?_getD,List.getElem?_append_left h,←List.getD_eq_getElem?_getD]
theorem bodyL_v {n:Int} {k:ByteArray} {ns:List ByteArray} {vs:List Int} {t:ByteArray} {i:Nat} (h:i<vs.length):(bodyL (n,k,ns,vs,t)).getD (ns.length+i+2) bnil=itoaS (vs.getD i 0):=by
 show(ns++vs.map itoaS).getD (ns.length+i) bnil=_
 rw[List.getD_eq_getElem?_getD,List.getElem?_append_right (by omega),Nat.add_sub_cancel_left,←List.getD_eq_getElem?_getD,getD_map h]
theorem bodyL_len {n:Int} {k:ByteArray} {ns:List ByteArray} {vs:List Int} {t:ByteArray}:(bodyL (n,k,ns,vs,t)).length=ns.length+vs.length+2:=by
 show(ns++vs.map itoaS).length+2=_
 rw[List.length_append,List.length_map]
abbrev ann112 (n:Int) (k:ByteArray) (ns:List ByteArray) (vs:List Int) (t:ByteArray):Nat→Option Ann:=fun id=>if id=0 then some {X:=Nat,σ:=fun i=>⟨3,[(1, .one (.ptr 2 0)),(3, .one (.str (preB (n,k,ns,vs,t) (i+2)))),(4, .one (.int .i64 i))],[(2, .box 67 [.int .i64 n, .str k, .sl 0, .sl 1, .str t]),(0, .imm 9 .str ns),(1, .imm 3 sI vs)]⟩,inv:=fun i=>i≤ns.length,mu:=fun i=>ns.length-i}
 else if id=2 then some {X:=Nat,σ:=fun i=>⟨3,[(1, .one (.ptr 2 0)),(3, .one (.str (preB (n,k,ns,vs,t) (ns.length+i+2)))),(5, .one (.int .i64 i))],[(2, .box 67 [.int .i64 n, .str k, .sl 0, .sl 1, .str t]),(0, .imm 9 .str ns),(1, .imm 3 sI vs)]⟩,inv:=fun i=>i≤vs.length,mu:=fun i=>vs.length-i}
 else none
def Z253 (a:Int) (b:Bt) (c:Ls) (d:Li) (e:Bt) (f:Nat):=preB (a,b,c,d,e) (List.length c+f+2)
def Z270 (a:Int):=Array.mk ((textS a).data.toList++[32])
def Z293 (a:Int) (b c:Bt) (d:Ls) (e:Li):=Si a (Sf b (Sf c (Sf d (e=e))))
theorem ok112:Ok Tryz.prog 112 cBody:=okW W198 Tryz.f112 (fun xx=>ann112 xx.1.1 xx.1.2.1 xx.1.2.2.1 xx.1.2.2.2.1 xx.1.2.2.2.2) fun xx=>by
 obtain⟨⟨(n:Int),(k:ByteArray),(ns:List ByteArray),(vs:List Int),(t:ByteArray)⟩,_⟩:=xx
 refine(by kernel_rfl:(BodyOk (n,k,ns,vs,t)→(Z423 n∧Z347 n∧Nc (ByteArray.size (textS n)+1)≤9223372036854775807∧Nc (ByteArray.size (ByteArray.mk (Z270 n))+ByteArray.size k)≤9223372036854775807)∧∃(x:Nat),(ByteArray.mk (Array.mk ((Z270 n).toList++Z10 k))=preB (n,k,ns,vs,t) (x+2)∧0=Nc x∧Z293 n k t ns vs)∧Z33 x ns∧∀(x:Nat),Z33 x ns→Br (decide (Nc x<Ln ns)) ((Nc (ByteArray.size (preB (n,k,ns,vs,t) (x+2))+1)≤9223372036854775807∧T2 (Z68 x ns) (Nc (ByteArray.size (ByteArray.mk (Array.mk ((preB (n,k,ns,vs,t) (x+2)).data.toList++[32])))+ByteArray.size (Z18 ns x))≤9223372036854775807))∧Z16 x∧∃(y:Nat),(ByteArray.mk (Array.mk ((Array.mk ((preB (n,k,ns,vs,t) (x+2)).data.toList++[32])).toList++(Z18 ns x).data.toList))=preB (n,k,ns,vs,t) (y+2)∧Z94 x y∧Z293 n k t ns vs)∧Z33 y ns∧Z216 ns y x) (∃(x_1:Nat),(preB (n,k,ns,vs,t) (x+2)=Z253 n k ns vs t x_1∧0=Nc x_1∧Z293 n k t ns vs)∧x_1≤List.length vs∧∀(x:Nat),x≤List.length vs→Br (Z82 x vs) ((Nc (ByteArray.size (Z253 n k ns vs t x)+1)≤9223372036854775807∧T2 (Bd (Nc x) (Ln vs)) (Z397<Z14 vs x∧Z14 vs x<Z317∧Nc (ByteArray.size (ByteArray.mk (Array.mk ((Z253 n k ns vs t x).data.toList++[32])))+ByteArray.size (textS (Z14 vs x)))≤9223372036854775807))∧Z16 x∧∃(y:Nat),(ByteArray.mk (Array.mk ((Array.mk ((Z253 n k ns vs t x).data.toList++[32])).toList++(textS (Z14 vs x)).data.toList))=Z253 n k ns vs t y∧Z94 x y∧Z293 n k t ns vs)∧Z285 y vs x) (Z253 n k ns vs t x=bodyS (n,k,ns,vs,t))))=_).mp ?_
 delta Z10 Z14 Z16 Z18 Z33 Z68 Z82 Z94 Z176 Z216 Z253 Z270 Z285 Z293 Z317 Z347 Z397 Z423 Br Iw Bd T2 Sf Si Ln Nc B0
 intro h
 have hs:=preB_size h
 have hn: -999999999≤n∧n≤999999999:=h.num
 have hval:∀v∈vs,-999999999≤v∧v≤999999999:=h.val
 have hnn:ns.length≤1000:=h.nn
 have hnv:vs.length≤1000:=h.nv
 have hL:(bodyL (n,k,ns,vs,t)).length=ns.length+vs.length+2:=bodyL_len
 have p1:preB (n,k,ns,vs,t) 1=textS n:=by
  show(⟨(Lib.join [(itoaS n).data.toList] [32]).toArray⟩:ByteArray)=_
  rw[show Lib.join [(itoaS n).data.toList] [32]=(itoaS n).data.toList by simp[Lib.join,List.intercalate,List.intersperse]]
  rfl
 have p2:=preB_succ (e:=(n,k,ns,vs,t)) (m:=1) (by omega) (by omega)
 rw[p1,show(bodyL (n,k,ns,vs,t)).getD 1 bnil=k from rfl] at p2
 have t1:=ts_size n (by omega) (by omega)
 have hk:k.size≤1000000:=by
  have:=hs 2
  rw[p2,bs_size,List.length_append] at this
  have e:k.data.toList.length=k.size:=rfl
  omega
 have zs:∀(s:ByteArray),(⟨⟨s.data.toList++[32]⟩⟩:ByteArray).size=s.size+1:=fun s=>by
  rw[szl,List.length_append];rfl
 refine⟨⟨by omega,by omega,by omega,by rw[zs];omega⟩,(0:Nat),⟨p2.symm,rfl,rfl,rfl,rfl,rfl,rfl⟩,Nat.zero_le _,fun(i:Nat) hi=>⟨fun h1=> ?_,fun h1=> ?_⟩⟩
 ·have hlt:i<ns.length:=by simpa using h1
  have q:=preB_succ (e:=(n,k,ns,vs,t)) (m:=i+2) (by omega) (by omega)
  rw[bodyL_n hlt] at q
  have q1:=hs (i+2)
  have q2:(ns.getD i bnil).size≤1000000:=by
   have:=hs (i+2+1)
   rw[q,bs_size,List.length_append] at this
   have e:(ns.getD i bnil).data.toList.length=(ns.getD i bnil).size:=rfl
   omega
  have q2:(ns.getD i {data:={toList:=[]}}).size≤1000000:=q2
  exact⟨⟨by omega,by omega,by omega,by rw[zs];omega⟩,by omega,(i+1:Nat),⟨q.symm,rfl,rfl,rfl,rfl,rfl,rfl⟩,by omega,by omega⟩
 ·have hlt:¬i<ns.length:=by simpa using h1
  have e:i=ns.length:=by omega
  subst e
  refine⟨(0:Nat),⟨rfl,rfl,rfl,rfl,rfl,rfl,rfl⟩,Nat.zero_le _,fun(j:Nat) hj=>⟨fun h2=> ?_,fun h2=> ?_⟩⟩
  ·have hlt:j<vs.length:=by simpa using h2
   have q:=preB_succ (e:=(n,k,ns,vs,t)) (m:=ns.length+j+2) (by omega) (by omega)
   rw[bodyL_v hlt] at q
   have q1:=hs (ns.length+j+2)
   have hv:=hval _ (getD_mem (d:=(0:Int)) hlt)
   have t2:=ts_size (vs.getD j 0) (by omega) (by omega)
   exact⟨⟨by omega,by omega,by omega,by omega,by omega,by rw[zs];omega⟩,by omega,(j+1:Nat),⟨q.symm,rfl,rfl,rfl,rfl,rfl,rfl⟩,by omega,by omega⟩
  ·have hlt:¬j<vs.length:=by simpa using h2
   unfold preB bodyS
   rw[List.take_of_length_le (by omega)]
abbrev W199:=W198.add ok112
set_option maxHeartbeats 20000000
theorem join0_snoc {x:List UInt8}:∀{xs:List (List UInt8)},Lib.join (xs++[x]) []=Lib.join xs []++x
 |[]=>by simp[Lib.join,List.intercalate,List.intersperse]
 |a::r=>by rw[join_snoc (by simp)];simp
theorem logS_snoc {l:List Ev} {k:Nat} (h:k<l.length):logS (l.take (k+1))=bs ((logS (l.take k)).data.toList++(recS (l.getD k ev0)).data.toList):=by
 unfold logS joinS
 rw[←take_snoc (d:=ev0) h,List.map_append,List.map_append,List.map_cons,List.map_nil,List.map_cons,List.map_nil]
 have:bnil.data.toList=[]:=rfl
 rw[this,join0_snoc]
 simp[bs]
theorem logS_size {l:List Ev} (hb:∀e∈l,BodyOk e) (hl:l.length≤1001):(logS l).size≤2002000000:=by
 show(Lib.join _ _).toArray.size≤_
 rw[List.size_toArray]
 refine Nat.le_trans (join0_len (b:=2000000) fun z hz=> ?_) ?_
 ·rw[List.map_map] at hz
  obtain⟨e,he,rfl⟩:=List.mem_map.1 hz
  have:=recS_size (hb e he)
  have:=bodyS_le (hb e he)
  show(recS e).size≤2000000
  omega
 ·rw[List.length_map,List.length_map];omega
def cLog37:Con:={args:=[.val false (.list 67 sEv)],ress:=[tS],owns:=[],pre:=fun(l,_)=>[l.length≤1001,∀e∈l,BodyOk e],spec:=fun(l,_)=>(logS l,())}
abbrev ann37 (l:List Ev):Ann:={X:=Nat,σ:=fun i=>⟨1,[(0, .one (.sl 0)),(3, .one (.str (logS (l.take i)))),(4, .one (.int .i64 i))],[(0, .imm 67 sEv l)]⟩,inv:=fun i=>i≤l.length,mu:=fun i=>l.length-i}
def Z741 (a:List Ev) (b:Nat):=bodyS (Z735 a b)
def Z742 (a:List Ev) (b:Nat):=BodyOk (Z735 a b)
def Z748 (a:List Ev) (b:Nat):=ByteArray.size (Z741 a b)
def Z749 (a:List Ev) (b:Nat):=sumS (Z741 a b)
def Z780 (a:Nat) (b:List Ev):=Array.mk ((logS (List.take a b)).data.toList++(Z741 b a).data.toList)
def Z792 (a:Nat) (b:List Ev):=Array.mk ((Z780 a b).toList++[35])
def Z879 (a:Nat) (b:List Ev):=Array.mk ((Z792 a b).toList++(Z749 b a).data.toList)
theorem ok37:Ok Tryz.prog 37 cLog37:=okW W199 Tryz.f37 (fun xx=>ann0 (ann37 xx.1)) fun xx=>by
 obtain⟨(l:List Ev),_⟩:=xx
 refine(by kernel_rfl:(List.length l≤1001→Z278 l→∃(x:Nat),(B0=logS (List.take x l)∧0=Nc x∧l=l)∧x≤List.length l∧∀(x:Nat),x≤List.length l→Br (Z69 x l) (T2 (Z13 x l) (Z742 l x∧Nc (ByteArray.size (logS (List.take x l))+Z748 l x)≤9223372036854775807∧Nc (ByteArray.size (ByteArray.mk (Z780 x l))+1)≤9223372036854775807∧T2 (Z13 x l) (Z742 l x∧Z748 l x≤1000000∧Nc (ByteArray.size (ByteArray.mk (Z792 x l))+ByteArray.size (Z749 l x))≤9223372036854775807∧Nc (ByteArray.size (ByteArray.mk (Z879 x l))+1)≤9223372036854775807))∧Z16 x∧∃(y:Nat),(ByteArray.mk (Array.mk ((Z879 x l).toList++[10]))=logS (List.take y l)∧Z94 x y∧l=l)∧Z272 y l x) (logS (List.take x l)=logS l))=_).mp ?_
 delta Z13 Z16 Z69 Z94 Z167 Z181 Z246 Z255 Z262 Z265 Z272 Z273 Z278 Z735 Z741 Z742 Z748 Z749 Z780 Z792 Z879 Br Iw Bd T2 Ln Nc B0 E2
 intro hl hb
 have hz:((0:Int),({data:={toList:=[]}}:ByteArray),([]:List ByteArray),([]:List Int),({data:={toList:=[]}}:ByteArray))=ev0:=rfl
 simp only[hz,Prod.eta]
 refine⟨(0:Nat),⟨rfl,rfl,trivial⟩,Nat.zero_le _,fun(i:Nat) hi=>⟨fun h1=> ?_,fun h1=> ?_⟩⟩
 ·have hlt:i<l.length:=by simpa using h1
  have he:=hb _ (getD_mem (d:=ev0) hlt)
  have q:=logS_snoc hlt
  have s1:(logS (l.take i)).size≤2002000000:=logS_size (fun e he=>hb e (List.mem_of_mem_take he)) (by rw[List.length_take];omega)
  have s2:=bodyS_le he
  have s3:=sumS_size (bodyS (l.getD i ev0))
  have e1:(logS (l.take i)).data.toList.length=(logS (l.take i)).size:=rfl
  have e2:(bodyS (l.getD i ev0)).data.toList.length=(bodyS (l.getD i ev0)).size:=rfl
  have e3:(sumS (bodyS (l.getD i ev0))).data.toList.length=(sumS (bodyS (l.getD i ev0))).size:=rfl
  refine⟨⟨by omega,by omega,he,by omega, ?_,by omega,by omega,he,s2, ?_, ?_⟩,by omega,(i+1:Nat),⟨?_,rfl,trivial⟩,by omega,by omega⟩
  ·rw[szl,List.length_append,e1,e2];omega
  ·rw[szl,List.length_append,List.length_append,e1,e2,s3,List.length_singleton];omega
  ·rw[szl,List.length_append,List.length_append,List.length_append,e1,e2,e3,s3,List.length_singleton];omega
  ·rw[q]
   unfold recS
   show bs _=bs _
   congr 1
   rw[show(bs ((bodyS (l.getD i ev0)).data.toList++[35]++(sumS (bodyS (l.getD i ev0))).data.toList++[10])).data.toList=(bodyS (l.getD i ev0)).data.toList++[35]++(sumS (bodyS (l.getD i ev0))).data.toList++[10] from rfl]
   simp only[List.append_assoc]
 ·have hlt:¬i<l.length:=by simpa using h1
  rw[List.take_of_length_le (by omega)]
abbrev W200:=W199.add ok37
set_option maxHeartbeats 20000000
abbrev W201:=W200
set_option maxHeartbeats 20000000
def emB (w:ByteArray):Bool:=w.toList==bnil.toList
def dgB (w:ByteArray):Bool:=(digitsF w).2
def dgN (w:ByteArray):Int:=(digitsF w).1
theorem takeW_good {w:ByteArray} {l:List ByteArray} {b:Bool} (h:emB w=false):takeW (w::l,b)=(w,l,b):=by
 show(bif emB w then _ else _)=_
 rw[h];rfl
theorem takeW_bad {w:ByteArray} {l:List ByteArray} {b:Bool} (h:emB w=true):takeW (w::l,b)=(bnil,[],true):=by
 show(bif emB w then _ else _)=_
 rw[h];rfl
theorem takeW_true (l:List ByteArray):(takeW (l,true)).2.2=true:=by
 cases l with
 |nil=>rfl
 |cons w l=>
  cases h:emB w with
  |true=>rw[takeW_bad h]
  |false=>rw[takeW_good h]
theorem takeNs_wrong:∀(n:Nat) (o:List ByteArray),(takeNs n ([],true) o).2=([],true)
 |0,_=>rfl
 |n+1,o=>takeNs_wrong n _
theorem takeVs_wrong:∀(n:Nat) (l:List ByteArray) (o:List Int),(takeVs n (l,true) o).2.2=true
 |0,_,_=>rfl
 | n + 1, l, o => by
  have e:(takeN (l,true)).2=((takeN (l,true)).2.1,true):=by
   unfold takeN
   rw[takeW_true];rfl
  rw[takeVs,e]
  exact takeVs_wrong n _ _
theorem takeNs_good:∀(n:Nat) (l:List ByteArray) (b:Bool) (o:List ByteArray),n≤l.length→(∀w∈l.take n,emB w=false)→takeNs n (l,b) o=(o++l.take n,l.drop n,b)
 |0,_,_,_,_,_=>by simp[takeNs]
 |n+1,[],_,_,h,_=>by simp at h
 |n+1,w::l,b,o,h,hw=>by
  rw[takeNs,takeW_good (hw w (by simp))]
  have:=takeNs_good n l b (o++[w]) (by simpa using h) fun v hv=>hw v (by simp[hv])
  rw[this];simp
theorem takeNs_bad:∀(n:Nat) (l:List ByteArray) (b:Bool) (o:List ByteArray),¬(n≤l.length∧∀w∈l.take n,emB w=false)→(takeNs n (l,b) o).2=([],true)
 |0,_,_,_,h=>absurd ⟨Nat.zero_le _,by simp⟩ h
 |n+1,[],_,o,_=>takeNs_wrong n _
 | n + 1, w :: l, b, o, h => by
  rw[takeNs]
  cases hw:emB w with
  |true=>rw[takeW_bad hw];exact takeNs_wrong n _
  |false=>
   rw[takeW_good hw]
   refine takeNs_bad n l b _ fun q=>h ⟨by simpa using q.1,fun v hv=> ?_⟩
   rw[List.take_succ_cons] at hv
   rcases List.mem_cons.1 hv with rfl|hv
   ·exact hw
   ·exact q.2 v hv
theorem dig_ne {w:ByteArray} (h:dgB w=true):emB w=false:=by
 cases q:emB w with
 |false=>rfl
 |true=>
  have:=bytes_eq q
  subst this
  exact absurd h (by decide+kernel)
theorem takeN_good {w:ByteArray} {l:List ByteArray} (h:dgB w=true):takeN (w::l,false)=(dgN w,l,false):=by
 unfold takeN
 rw[takeW_good (dig_ne h)]
 show(_,_,bif false then true else !dgB w)=_
 rw[h];rfl
theorem takeN_bad {w:ByteArray} {l:List ByteArray} (h:dgB w=false):(takeN (w::l,false)).2.2=true:=by
 unfold takeN
 cases q:emB w with
 |true=>rw[takeW_bad q];rfl
 |false=>
  rw[takeW_good q]
  show(bif false then true else !dgB w)=_
  rw[h];rfl
theorem takeVs_good:∀(n:Nat) (l:List ByteArray) (o:List Int),n≤l.length→(∀w∈l.take n,dgB w=true)→takeVs n (l,false) o=(o++(l.take n).map dgN,l.drop n,false)
 |0,_,_,_,_=>by simp[takeVs]
 |n+1,[],_,h,_=>by simp at h
 |n+1,w::l,o,h,hw=>by
  rw[takeVs,takeN_good (hw w (by simp))]
  have:=takeVs_good n l (o++[dgN w]) (by simpa using h) fun v hv=>hw v (by simp[hv])
  rw[this];simp
theorem takeVs_bad:∀(n:Nat) (l:List ByteArray) (o:List Int),¬(n≤l.length∧∀w∈l.take n,dgB w=true)→(takeVs n (l,false) o).2.2=true
 |0,_,_,h=>absurd ⟨Nat.zero_le _,by simp⟩ h
 |n+1,[],o,_=>takeVs_wrong n _ _
 | n + 1, w :: l, o, h => by
  rw[takeVs]
  cases hw:dgB w with
  |false=>
   have e:(takeN (w::l,false)).2=((takeN (w::l,false)).2.1,true):=Prod.ext rfl (takeN_bad hw)
   rw[e];exact takeVs_wrong n _ _
  |true=>
   rw[takeN_good hw]
   refine takeVs_bad n l _ fun q=>h ⟨by simpa using q.1,fun v hv=> ?_⟩
   rw[List.take_succ_cons] at hv
   rcases List.mem_cons.1 hv with rfl|hv
   ·exact hw
   ·exact q.2 v hv
theorem kind_em {k:ByteArray} (h:kindK k=true):emB k=false:=by
 cases q:emB k with
 |false=>rfl
 |true=>
  have:=bytes_eq q
  subst this
  exact absurd h (by rw[show kindK bnil=false by kernel_rfl];simp)
def nrK (k:ByteArray):Nat:=(kindD k).1.length
def nvK (k:ByteArray):Nat:=(kindD k).2.1.toNat
def wellW (w0:ByteArray) (l:List ByteArray):Prop:=l.length=nrK w0+nvK w0∧(∀w∈l.take (nrK w0),emB w=false)∧∀w∈l.drop (nrK w0),dgB w=true
theorem read_cons {w0:ByteArray} (hk:kindK w0=true) (l:List ByteArray):readS (w0::l)=((0,w0,(takeNs (nrK w0) (l,false) []).1,(takeVs (nvK w0) (takeNs (nrK w0) (l,false) []).2 []).1,bnil),bif !(takeVs (nvK w0) (takeNs (nrK w0) (l,false) []).2 []).2.2 then((takeVs (nvK w0) (takeNs (nrK w0) (l,false) []).2 []).2.1.length:Int)==0 else false):=by
 have e:takeW (w0::l,false)=(w0,l,false):=takeW_good (kind_em hk)
 unfold readS readVs readNs
 rw[e,hk];rfl
theorem read_good {w0:ByteArray} (hk:kindK w0=true) {l:List ByteArray} (h:wellW w0 l):readS (w0::l)=((0,w0,l.take (nrK w0),(l.drop (nrK w0)).map dgN,bnil),true):=by
 obtain⟨h1,h2,h3⟩:=h
 have e1:takeNs (nrK w0) (l,false) []=(l.take (nrK w0),l.drop (nrK w0),false):=by
  rw[takeNs_good _ _ _ _ (by omega) h2];rfl
 have e2:takeVs (nvK w0) (l.drop (nrK w0),false) []=((l.drop (nrK w0)).map dgN,[],false):=by
  have e3:(l.drop (nrK w0)).drop (nvK w0)=[]:=List.drop_eq_nil_of_le (by rw[List.length_drop];omega)
  rw[takeVs_good _ _ _ (by rw[List.length_drop];omega) (fun w hw=>h3 w (List.mem_of_mem_take hw)),List.take_of_length_le (by rw[List.length_drop];omega),e3];rfl
 rw[read_cons hk,e1,e2];rfl
theorem read_bad {w0:ByteArray} (hk:kindK w0=true) {l:List ByteArray} (h:¬wellW w0 l):(readS (w0::l)).2=false:=by
 rw[read_cons hk]
 show(bif !_ then _ else _)=_
 by_cases q1:nrK w0≤l.length∧∀w∈l.take (nrK w0),emB w=false
 ·rw[takeNs_good _ _ _ _ q1.1 q1.2]
  by_cases q2:nvK w0≤(l.drop (nrK w0)).length∧∀w∈(l.drop (nrK w0)).take (nvK w0),dgB w=true
  ·rw[takeVs_good _ _ _ q2.1 q2.2]
   have q3:=q2.1
   rw[List.length_drop] at q3
   show((((l.drop (nrK w0)).drop (nvK w0)).length:Int)==0)=false
   rw[List.length_drop,List.length_drop]
   refine beq_eq_false_iff_ne.2 fun q4=>h ⟨by have:=q1.1;omega,q1.2,fun w hw=>q2.2 w ?_⟩
   rw[List.take_of_length_le (by rw[List.length_drop];omega)]
   exact hw
  ·rw[takeVs_bad _ _ _ q2];rfl
 ·rw[show takeNs (nrK w0) (l,false) []=((takeNs (nrK w0) (l,false) []).1,[],true) from Prod.ext rfl (takeNs_bad _ _ _ _ q1)]
  dsimp only
  rw[takeVs_wrong];rfl
theorem read_none {w0:ByteArray} (hk:kindK w0=false) (l:List ByteArray):readS (w0::l)=(evz,false):=by
 unfold readS
 have:kindK (takeW (w0::l,false)).1=false:=by
  cases q:emB w0 with
  |true=>rw[takeW_bad q];kernel_rfl
  |false=>rw[takeW_good q];exact hk
 rw[this];rfl
theorem form_bd (k:ByteArray):(formQ k).1.size≤3∧0≤(formQ k).2.1∧(formQ k).2.1≤4:=by
 cases h:kindK k with
 |true=>
  obtain⟨h1,h2,h3⟩:=form_on h
  have:=kind_bd k
  show(formS k).1.size≤3∧0≤(formS k).2.1∧(formS k).2.1≤4
  omega
 | false =>
  have hne:∀w:ByteArray,kindK w=true→(k.toList==w.toList)=false:=fun w hw=>by
   cases hc:k.toList==w.toList with
   |false=>rfl
   |true=>
    have:=bytes_eq hc
    subst this
    rw[hw] at h;cases h
  unfold formQ formS
  rw[hne wStation (by kernel_rfl),hne wPrice (by kernel_rfl),hne wOrder (by kernel_rfl),hne wMeter (by kernel_rfl),hne wTrip (by kernel_rfl),hne wOutage (by kernel_rfl),hne wRestore (by kernel_rfl),hne wPermit (by kernel_rfl),hne wReturn (by kernel_rfl),hne wSettle (by kernel_rfl),hne wUndo (by kernel_rfl)]
  decide
theorem well_word {w0:ByteArray} {l:List ByteArray} (h:wellW w0 l) {j:Nat} (hj:j<l.length):(j<nrK w0→emB (l.getD j bnil)=false)∧(nrK w0≤j→dgB (l.getD j bnil)=true)∧emB (l.getD j bnil)=false:=by
 obtain⟨h1,h2,h3⟩:=h
 have a:j<nrK w0→emB (l.getD j bnil)=false:=fun q=>h2 _ (by
  have:(l.take (nrK w0)).getD j bnil=l.getD j bnil:=by rw[List.getD_eq_getElem?_getD,List.getElem?_take_of_lt q,←List.getD_eq_getElem?_getD]
  rw[←this]
  exact getD_mem (by rw[List.length_take];omega))
 have b:nrK w0≤j→dgB (l.getD j bnil)=true:=fun q=>h3 _ (by
  have:(l.drop (nrK w0)).getD (j-nrK w0) bnil=l.getD j bnil:=by rw[List.getD_eq_getElem?_getD,List.getElem?_drop,show nrK w0+(j-nrK w0)=j by omega,←List.getD_eq_getElem?_getD]
  rw[←this]
  exact getD_mem (by rw[List.length_drop];omega))
 refine⟨a,b, ?_⟩
 by_cases q:j<nrK w0
 ·exact a q
 ·exact dig_ne (b (by omega))
theorem take_next {α:Type} {d:α} {l:List α} {i:Nat} (h1:1≤i) (h:i-1<l.length):l.take (i-1)++[l.getD (i-1) d]=l.take (i+1-1):=by
 rw[take_snoc h,show i-1+1=i+1-1 by omega]
def parsedS (s:ByteArray):Ev×Bool:=bif (readS (splitF s 32)).2 then readS (splitF s 32) else(evz,false)
def cParsed:Con:={args:=[aS],ress:=[(true,sEv),Bo],owns:=[],pre:=fun(s,_)=>[s.size≤1000000],spec:=fun(s,_)=>((parsedS s).1,(parsedS s).2,())}
abbrev annPar (ws:List ByteArray):Ann:={X:=Nat,σ:=fun i=>⟨6,[(2, .one (.ptr 0 0)),(4, .one (.sl 1)),(5, .one (.ptr 2 0)),(6, .one (.int .i64 (1+((formQ (ws.getD 0 bnil)).1.size:Int)+(formQ (ws.getD 0 bnil)).2.1))),(7, .one (.ptr 3 0)),(8, .one (.int .i64 i))],[(0, .box 67 [.int .i64 0, .str bnil, .val (.slice none 0 0), .val (.slice none 0 0), .str bnil]),(2, .box 208 [.str (formQ (ws.getD 0 bnil)).1, .int .i64 (formQ (ws.getD 0 bnil)).2.1, .bool (formQ (ws.getD 0 bnil)).2.2]),(3, .box 67 [.int .i64 0, .str (ws.getD 0 bnil), .sl 4, .sl 5, .str bnil]),(1, .imm 9 .str ws),(4, .own 9 .str (((ws.drop 1).take (nrK (ws.getD 0 bnil))).take (i-1))),(5, .own 3 sI (((ws.drop (1+nrK (ws.getD 0 bnil))).map dgN).take (i-1-nrK (ws.getD 0 bnil))))]⟩,inv:=fun i=>1≤i∧i≤ws.length∧(∀w∈((ws.drop 1).take (nrK (ws.getD 0 bnil))).take (i-1),emB w=false)∧∀w∈(ws.drop (1+nrK (ws.getD 0 bnil))).take (i-1-nrK (ws.getD 0 bnil)),dgB w=true,mu:=fun i=>ws.length-i}
def Z113 (a:Bt):=Ln (splitF a 32)
def Z126 (a:Bt):=List.length (splitF a 32)
def Z148 (a:Bt) (b:Nat):=List.getD (splitF a 32) b B0
def Z177 (a:Nat) (b:Bt):=Bd (Nc a) (Z113 b)
def Z191 (a:Bt):=List.getD (splitF a 32) 0 bnil
def Z211 (a:Bt):=formQ (List.getD (splitF a 32) 0 B0)
def Z212 (a:Bt):=nrK (Z191 a)
def Z222 (a:Bt):=(Z211 a).2.1
def Z223 (a:Bt):=(formQ (Z191 a)).1
def Z224 (a:Bt):=(formQ (Z191 a)).2
def Z227 (a:Bt):=(Z211 a).2.2
def Z233 (a:Bt):=(Z224 a).2
def Z234 (a:Bt):=(Z224 a).1
def Z287 (a:Bt):=Nc (ByteArray.size (Z223 a))
def Z289 (a:Nat) (b:Bt):=a-1-Z212 b
def Z316 (a:Bt):=1+Nc (ByteArray.size (Z211 a).1)
def Z361 (a:Bt):=Z181=(parsedS a).1∧false=(parsedS a).2
def Z400 (a:Bt):=List.drop (1+Z212 a) (splitF a 32)
def Z555 (a:Bt):=Z316 a+Z222 a
def Z579 (a:Nat) (b:Bt):=List.take (a-1) (List.take (Z212 b) (List.drop 1 (splitF b 32)))
def Z580 (a:Bt):=1+Z287 a+Z234 a
def Z614 (a:Nat) (b:Bt):=List.length (Z579 a b)
def Z687 (a:Nat) (b:Bt):=List.take (Z289 a b) (List.map dgN (Z400 b))
def Z697 (a:Nat) (b:Bt):=List.length (Z687 a b)
def Z811 (a:Nat) (b:Bt):=1≤a∧a≤Z126 b∧(∀(w:ByteArray),w∈Z579 a b→emB w=false)∧∀(w:ByteArray),w∈List.take (Z289 a b) (Z400 b)→dgB w=true
def Z816 (a:Nat) (b:Bt) (c:Nat):=Z811 a b∧Z126 b-a<Z126 b-c
theorem ok116:Ok Tryz.prog 116 cParsed:=okW W201 Tryz.f116 (fun xx=>ann0 (annPar (splitF xx.1 32))) fun xx=>by
 obtain⟨(s:ByteArray),_⟩:=xx
 refine(by kernel_rfl:(ByteArray.size s≤1000000→(ByteArray.size s≤1000000∧Bd 32 256)∧Tw (Bd 0 (Z113 s))∧(Iw (Z316 s)∧Iw (Z555 s))∧Br (bif !Z227 s then true else Z113 s !=Z555 s) (Z361 s) (Tw (Bd 0 (Z113 s))∧∃(x:Nat),(Z555 s=Z580 s∧1=Nc x∧Si 0 (B0=bnil∧Sf Z121 (Sf Z121 (B0=bnil∧(Z211 s).1=Z223 s∧Z222 s=Z234 s∧Z227 s=Z233 s∧Si 0 (List.getD (splitF s 32) 0 B0=Z191 s∧B0=bnil∧Sf (splitF s 32) (Z614 x s=0∧Z697 x s=0))))))∧Z811 x s∧∀(x:Nat),Z811 x s→Br (decide (Nc x<Z580 s)) (Tw (Z177 x s)∧Br (Lb (Z148 s x) B0) (Z361 s) (Br (decide (Nc x≤Z287 s)) (T2 (Z177 x s) ((Z614 x s+1)*16≤140737488355328)∧Z16 x∧∃(y:Nat),Si (Z580 s) (Z94 x y∧Si 0 (Sf bnil (Sf Z121 (Sf Z121 (Sf bnil (Sf (Z223 s) (Si (Z234 s) (Sf (Z233 s) (Si 0 (Sf (Z191 s) (Sf bnil (Sf (splitF s 32) (Z579 x s++[Z148 s x]=Z579 y s∧Z687 x s=Z687 y s)))))))))))))∧Z816 y s x) (T2 (Z177 x s) (ByteArray.size (Z148 s x)≤1000000)∧Br (!(digitsF (Z148 s x)).2) (Z361 s) ((Z697 x s+1)*8≤140737488355328∧Z16 x∧∃(y:Nat),Si (Z580 s) (Z94 x y∧Si 0 (Sf bnil (Sf Z121 (Sf Z121 (Sf bnil (Sf (Z223 s) (Si (Z234 s) (Sf (Z233 s) (Si 0 (Sf (Z191 s) (Sf bnil (Sf (splitF s 32) (Z579 x s=Z579 y s∧Z687 x s++[(digitsF (Z148 s x)).1]=Z687 y s)))))))))))))∧Z816 y s x)))) ((0,Z191 s,Z579 x s,Z687 x s,bnil)=(parsedS s).1∧true=(parsedS s).2)))=_).mp ?_
 delta Z16 Z94 Z113 Z121 Z126 Z148 Z177 Z181 Z191 Z211 Z212 Z222 Z223 Z224 Z227 Z233 Z234 Z287 Z289 Z316 Z361 Z400 Z555 Z579 Z580 Z614 Z687 Z697 Z811 Z816 Br Iw Bd T2 Tw Sf Si Ln Nc B0 Lb
 intro hs
 have hsz:∀w∈splitF s 32,w.size≤1000000:=by
  intro w hw
  obtain⟨v,hv,rfl⟩:=List.mem_map.1 hw
  have:=splB_len _ _ _ hv
  have h4:s.data.toList.length=s.size:=rfl
  rw[bs_size]
  omega
 have hcnt:(splitF s 32).length≤1000001:=by
  unfold splitF
  rw[List.length_map]
  have:=splB_cnt (UInt8.ofNat (32:Int).toNat) s.data.toList
  have h4:s.data.toList.length=s.size:=rfl
  omega
 have hne:splitF s 32≠[]:=fun q=>splB_ne _ _ (List.map_eq_nil_iff.1 q)
 have eP:parsedS s=bif (readS (splitF s 32)).2 then readS (splitF s 32) else(evz,false):=rfl
 generalize splitF s 32=ws at hsz hcnt hne eP⊢
 cases ws with
 |nil=>exact absurd rfl hne
 | cons w0 l =>
  have hd:(w0::l).drop (1+nrK w0)=l.drop (nrK w0):=by rw[Nat.add_comm];rfl
  have hg:(w0::l).getD 0 ({data:={toList:=[]}}:ByteArray)=w0:=rfl
  have hg2:(w0::l).getD 0 bnil=w0:=rfl
  have hd1:(w0::l).drop 1=l:=rfl
  have hF:=form_bd w0
  simp only[hg,hg2,hd,hd1]
  have hbad:¬(kindK w0=true∧wellW w0 l)→parsedS s=(evz,false):=fun q=>by
   rw[eP]
   cases hk:kindK w0 with
   |false=>rw[read_none hk];rfl
   |true=>rw[read_bad hk fun hw=>q ⟨hk,hw⟩];rfl
  have hres:∀{p:Prop},parsedS s=(evz,false)→(((0:Int),({data:={toList:=[]}}:ByteArray),([]:List ByteArray),([]:List Int),({data:={toList:=[]}}:ByteArray))=(parsedS s).fst∧false=(parsedS s).snd):=fun q=>by rw[q];exact⟨rfl,rfl⟩
  have hl0:(w0::l).length=l.length+1:=rfl
  simp only[hl0] at hcnt⊢
  refine⟨⟨hs,by decide,by decide⟩,by(repeat' first|apply And.intro|(first|omega|(dsimp only;omega)|(simp only[];omega))),by(repeat' first|apply And.intro|(first|omega|(dsimp only;omega)|(simp only[];omega))),fun h=>hres (p:=True) (hbad fun q=> ?_),fun h=> ?_⟩
  ·obtain⟨f1,f2,f3⟩:=form_on q.1
   have f1:(formQ w0).2.2=true:=f1
   have f2:(formQ w0).1.size=nrK w0:=f2
   have f3:(formQ w0).2.1=(kindD w0).2.1:=f3
   rw[f1] at h
   have h:(((l.length+1:Nat):Int) !=1+((formQ w0).1.size:Int)+(formQ w0).2.1)=true:=h
   have h:=bne_iff_ne.1 h
   have:=q.2.1
   have hB:=kind_bd w0
   have hv:nvK w0=(kindD w0).2.1.toNat:=rfl
   omega
  have hb:=bn1 h
  have hkn:(formQ w0).2.2=true:=by simpa using hb.1
  have hk:kindK w0=true:=by
   cases hk:kindK w0 with
   |true=>rfl
   |false=>exact absurd hkn (by rw[show(formQ w0).2.2=false from form_off hk];simp)
  have hln:((l.length+1:Nat):Int)=1+((formQ w0).1.size:Int)+(formQ w0).2.1:=bne_eq_false_iff_eq.1 hb.2
  have f2:(formQ w0).1.size=nrK w0:=(form_on hk).2.1
  have f3:(formQ w0).2.1=(kindD w0).2.1:=(form_on hk).2.2
  have hB:=kind_bd w0
  have hv:nvK w0=(kindD w0).2.1.toNat:=rfl
  have hlen:l.length=nrK w0+nvK w0:=by omega
  have hM:(l.take (nrK w0)).length=nrK w0:=by rw[List.length_take];omega
  have hV:((l.drop (nrK w0)).map dgN).length=nvK w0:=by rw[List.length_map,List.length_drop];omega
  have hgx:∀x,1≤x→(w0::l).getD x bnil=l.getD (x-1) bnil:=fun x hx=>by
   obtain⟨y,rfl⟩:∃y,x=y+1:=⟨x-1,by omega⟩
   rfl
  refine⟨by(repeat' first|apply And.intro|(first|omega|(dsimp only;omega)|(simp only[];omega))),(1:Nat),by(repeat' first|exact rfl|exact trivial|apply And.intro)<;>simp,⟨Nat.le_refl _,by omega,by simp,by simp⟩,fun(x:Nat) hx=>⟨fun hlt=> ?_,fun hlt=> ?_⟩⟩
  ·obtain⟨i1,i2,i3,i4⟩:=hx
   have hlt:(x:Int)<1+((formQ w0).1.size:Int)+(formQ w0).2.1:=of_decide_eq_true hlt
   have hxl:x-1<l.length:=by omega
   have hgb:(w0::l).getD x ({data:={toList:=[]}}:ByteArray)=l.getD (x-1) bnil:=hgx x i1
   have hzx:(l.getD (x-1) bnil).size≤1000000:=hsz _ (List.mem_cons_of_mem _ (getD_mem hxl))
   simp only[hgb]
   refine⟨by(repeat' first|apply And.intro|(first|omega|(dsimp only;omega)|(simp only[];omega))),fun h2=>hres (p:=True) (hbad fun q=> ?_),fun h2=>⟨fun h3=> ?_,fun h3=> ?_⟩⟩
   ·have h2:emB (l.getD (x-1) bnil)=true:=h2
    rw[(well_word q.2 hxl).2.2] at h2;cases h2
   ·have h2:emB (l.getD (x-1) bnil)=false:=h2
    have h3:(x:Int)≤((formQ w0).1.size:Int):=of_decide_eq_true h3
    have hx1:x-1<(l.take (nrK w0)).length:=by omega
    have hgt:(l.take (nrK w0)).getD (x-1) bnil=l.getD (x-1) bnil:=by rw[List.getD_eq_getElem?_getD,List.getElem?_take_of_lt (by omega),←List.getD_eq_getElem?_getD]
    have ht:=take_next (d:=bnil) i1 hx1
    rw[hgt] at ht
    have hz:x-1-nrK w0=0:=by omega
    have hz2:x+1-1-nrK w0=0:=by omega
    refine⟨⟨by(repeat' first|apply And.intro|(first|omega|(dsimp only;omega)|(simp only[];omega))),by(repeat' first|apply And.intro|(first|omega|(dsimp only;omega)|(simp only[];omega))),by rw[List.length_take];omega⟩,by(repeat' first|apply And.intro|(first|omega|(dsimp only;omega)|(simp only[];omega))),(x+1:Nat),by(repeat' first|exact rfl|exact trivial|exact ht|apply And.intro)<;>first|(push_cast;rfl)|(rw[hz,hz2]),⟨by omega,by omega,fun w hw=> ?_,by rw[hz2];simp⟩,by omega⟩
    rw[←ht] at hw
    rcases List.mem_append.1 hw with hw|hw
    ·exact i3 w hw
    ·rw[List.mem_singleton.1 hw];exact h2
   ·have h3:¬(x:Int)≤((formQ w0).1.size:Int):=of_decide_eq_false h3
    refine⟨⟨by(repeat' first|apply And.intro|(first|omega|(dsimp only;omega)|(simp only[];omega))),by(repeat' first|apply And.intro|(first|omega|(dsimp only;omega)|(simp only[];omega))),hzx⟩,fun h4=>hres (p:=True) (hbad fun q=> ?_),fun h4=> ?_⟩
    ·have h4:(!dgB (l.getD (x-1) bnil))=true:=h4
     rw[(well_word q.2 hxl).2.1 (by omega)] at h4;cases h4
    ·have h4:(!dgB (l.getD (x-1) bnil))=false:=h4
     have h4:dgB (l.getD (x-1) bnil)=true:=by simpa using h4
     have hj:x-1-nrK w0<(l.drop (nrK w0)).length:=by rw[List.length_drop];omega
     have hgd:(l.drop (nrK w0)).getD (x-1-nrK w0) bnil=l.getD (x-1) bnil:=by rw[List.getD_eq_getElem?_getD,List.getElem?_drop,show nrK w0+(x-1-nrK w0)=x-1 by omega,←List.getD_eq_getElem?_getD]
     have ht:(l.drop (nrK w0)).take (x-1-nrK w0)++[l.getD (x-1) bnil]=(l.drop (nrK w0)).take (x+1-1-nrK w0):=by
      rw[←hgd,take_snoc hj,show x-1-nrK w0+1=x+1-1-nrK w0 by omega]
     have hN:(l.take (nrK w0)).take (x-1)=(l.take (nrK w0)).take (x+1-1):=(show(l.take (nrK w0)).take (x-1)=l.take (nrK w0) from List.take_of_length_le (by omega)).trans (show(l.take (nrK w0)).take (x+1-1)=l.take (nrK w0) from List.take_of_length_le (by omega)).symm
     have hW:((l.drop (nrK w0)).map dgN).take (x-1-nrK w0)++[(digitsF (l.getD (x-1) bnil)).1]=((l.drop (nrK w0)).map dgN).take (x+1-1-nrK w0):=by
      rw[←List.map_take,←List.map_take,←ht,List.map_append];rfl
     refine⟨by rw[List.length_take];omega,by(repeat' first|apply And.intro|(first|omega|(dsimp only;omega)|(simp only[];omega))),(x+1:Nat),by(repeat' first|exact rfl|exact trivial|exact hN|exact hW|apply And.intro)<;>(push_cast;rfl),⟨by omega,by omega,by rw[←hN];exact i3,fun w hw=> ?_⟩,by omega⟩
     rw[←ht] at hw
     rcases List.mem_append.1 hw with hw|hw
     ·exact i4 w hw
     ·rw[List.mem_singleton.1 hw];exact h4
  ·obtain⟨i1,i2,i3,i4⟩:=hx
   have hlt:¬(x:Int)<1+((formQ w0).1.size:Int)+(formQ w0).2.1:=of_decide_eq_false hlt
   have hxe:x=l.length+1:=by omega
   subst hxe
   have hN:(l.take (nrK w0)).take (l.length+1-1)=l.take (nrK w0):=List.take_of_length_le (by omega)
   have hV2:(l.drop (nrK w0)).take (l.length+1-1-nrK w0)=l.drop (nrK w0):=List.take_of_length_le (by rw[List.length_drop];omega)
   have hV3:((l.drop (nrK w0)).map dgN).take (l.length+1-1-nrK w0)=(l.drop (nrK w0)).map dgN:=by rw[←List.map_take,hV2]
   rw[hN] at i3
   rw[hV2] at i4
   have hw:wellW w0 l:=⟨hlen,i3,i4⟩
   have hg:parsedS s=((0,w0,l.take (nrK w0),(l.drop (nrK w0)).map dgN,bnil),true):=by rw[eP,read_good hk hw];rfl
   rw[hN,hV3,hg]
   exact⟨rfl,rfl⟩
abbrev W202:=W201.add ok116
set_option maxHeartbeats 20000000
theorem cut_at {c:UInt8}:∀{l:List UInt8} {k:Nat},c∉l.take k→k<l.length→l.getD k 0=c→cutF c l=true∧cutA c l=l.take k∧cutZ c l=l.drop (k+1)
 |[],_,_,h,_=>by simp at h
 |b::r,0,_,_,h=>by
  have h:b=c:=h
  unfold cutF cutA cutZ
  rw[if_pos h,if_pos h,if_pos h]
  exact⟨rfl,rfl,rfl⟩
 |b::r,k+1,h,hl,hg=>by
  rw[List.take_succ_cons,List.mem_cons,not_or] at h
  have ih:=cut_at (l:=r) (k:=k) h.2 (by simpa using hl) (by simpa using hg)
  have hb:¬b=c:=fun q=>h.1 q.symm
  unfold cutF cutA cutZ
  rw[if_neg hb,if_neg hb,if_neg hb,ih.1,ih.2.1,ih.2.2]
  exact⟨rfl,rfl,rfl⟩
theorem cut_no {c:UInt8}:∀{l:List UInt8},c∉l→cutF c l=false
 |[],_=>rfl
 |b::r,h=>by
  rw[List.mem_cons,not_or] at h
  unfold cutF
  rw[if_neg fun q=>h.1 q.symm]
  exact cut_no h.2
theorem splB_cut (c:UInt8):∀l:List UInt8,splB c l=if cutF c l=true then cutA c l::splB c (cutZ c l) else[l]
 |[]=>rfl
 | b :: r => by
  have ih:=splB_cut c r
  rw[splB_cons]
  unfold cutF cutA cutZ
  by_cases h:b=c
  ·rw[if_pos h,if_pos h,if_pos h,if_pos h,if_pos rfl]
  ·rw[if_neg h,if_neg h,if_neg h,if_neg h,ih]
   by_cases q:cutF c r=true
   ·rw[if_pos q,if_pos q]
   ·rw[if_neg q,if_neg q]
theorem cutZ_no {c:UInt8}:∀{l:List UInt8},cutF c l=false→cutZ c l=[]
 |[],_=>rfl
 |x::r,h=>by
  unfold cutF at h
  unfold cutZ
  by_cases e:x=c
  ·rw[if_pos e] at h;cases h
  ·rw[if_neg e] at h;rw[if_neg e];exact cutZ_no h
theorem drop_cut {c:UInt8} {l:List UInt8} (h:cutF c l=true):l.drop ((cutA c l).length+1)=cutZ c l:=by
 have hc:=cut_app c h
 have:=congrArg (List.drop ((cutA c l).length+1)) hc
 rw[this]
 simp[List.drop_append]
theorem ok_nocut {b:ByteArray} (h:cutF 32 b.data.toList=false):okX b=true:=by
 have e:restX b=bs []:=by unfold restX;rw[cutZ_no h]
 have e2:(readS (splitF (restX b) 32)).2=false:=by
  rw[e]
  show(readS [bs []]).2=false
  rw[read_none (w0:=bs []) (by kernel_rfl)]
 unfold okX
 rw[e2]
 cases(digitsF (headX b)).2<;>rfl
theorem dig7_dec {t:ByteArray} (h:t.size=7):dig7 t=decB t:=by
 unfold dig7 decB
 rw[h]
 simp
def cRecord:Con:={args:=[aS],ress:=[(true,sEv),I],owns:=[],pre:=fun(s,_)=>[s.size≤1000000],spec:=fun(s,_)=>((entry0 s).1,(entry0 s).2,())}
def Z39 (a:Bt):=Nc (ByteArray.size a)-8
def Z130 (a:Bt):=Z39 a+1
def Z208 (a:Bt):=ByteArray.extract a 0 (Int.toNat (Z39 a))
def Z238 (a:Bt):=ByteArray.size (Z208 a)
def Z251 (a:Bt):=Z181=(entry0 a).1
def Z263 (a:Bt):=Nc (Z238 a)
def Z269 (a:Bt):=ByteArray.extract a (Int.toNat (Z130 a)) (ByteArray.size a)
def Z288 (a:Bt):=splitF (Z208 a) 32
def Z292 (a:Bt):=Z238 a≤1000000
def Z340 (a:Bt):=Ln (Z288 a)
def Z367 (a:Bt):=Z251 a∧25=(entry0 a).2
def Z387 (a:Bt):=List.getD (Z288 a) 0 B0
def Z389 (a:Bt):=Bd 0 (Z340 a)
def Z412 (a:Bt):=ByteArray.size (Z387 a)
def Z424 (a:Bt):=digitsF (Z387 a)
def Z515 (a:Bt):=Nc (Z412 a)+1
def Z573 (a:Bt):=0≤Z130 a∧Z130 a≤Nc (ByteArray.size a)∧Nc (ByteArray.size a)≤Nc (ByteArray.size a)
def Z680 (a:Bt):=bif decide (Z39 a<0) then true else Nc (UInt8.toNat (Gt (Z10 a) (Z39 a) 0)) !=35
def Z688 (a:Bt):=Z680 a=false
def Z716 (a:Bt):=ByteArray.extract (Z208 a) (Int.toNat (Z515 a)) (Z238 a)
def Z721 (a:Bt):=parsedS (Z716 a)
def Z723 (a:Bt):=(Z721 a).1.2
def Z724 (a:Bt):=(Z723 a).2
def Z725 (a:Bt):=(Z724 a).2
def Z727 (a:Bt):= !(Z721 a).2
def Z732 (a:Bt):=Z727 a=false
def Z903 (a:Bt):=((Z424 a).1,(Z723 a).1,(Z724 a).1,E2 (Z725 a))
theorem ok109:Ok Tryz.prog 109 cRecord:=okW W202 Tryz.f109 na fun xx=>by
 obtain⟨(s:ByteArray),_⟩:=xx
 refine(by kernel_rfl:(ByteArray.size s≤1000000→Iw (Z39 s)∧((decide (Z39 s<0)=false→Bd (Z39 s) (Nc (ByteArray.size s)))∧(Z688 s→Iw (Z130 s))∧(Z688 s→Z573 s)∧(Z688 s→ByteArray.size (Z269 s)≤1000000))∧Br (bif Z680 s then true else !dig7 (Z269 s)) (Z367 s) (((0:Int)≤0∧0≤Z39 s∧Z39 s≤Nc (ByteArray.size s))∧(Iw (Z130 s)∧Z573 s∧Z292 s)∧Br (!Lb (Z269 s) (sumS (Z208 s))) (Z251 s∧27=(entry0 s).2) ((Z292 s∧Bd 32 256)∧T2 (Z389 s) (Z412 s≤1000000)∧Br (bif !(Z424 s).2 then true else decide (Z340 s<2)) (Z367 s) (T2 (Z389 s) (Iw (Z515 s)∧(0≤Z515 s∧Z515 s≤Z263 s∧Z263 s≤Z263 s)∧ByteArray.size (Z716 s)≤1000000)∧((Z732 s→List.length (Z724 s).1≤1000000)∧(Z732 s→List.length (Z725 s).1≤1000000)∧(Z732 s→∀(s_1:ByteArray),s_1∈(Z724 s).1→ByteArray.size s_1≤1000000))∧Br (bif Z727 s then true else checkE (Z903 s) !=0) (Z367 s) (Z903 s=(entry0 s).1∧0=(entry0 s).2)))))=_).mp ?_
 delta Z10 Z39 Z130 Z181 Z208 Z238 Z251 Z263 Z269 Z288 Z292 Z340 Z367 Z387 Z389 Z412 Z424 Z515 Z573 Z680 Z688 Z716 Z721 Z723 Z724 Z725 Z727 Z732 Z903 Br Iw Bd T2 Ln Nc Gt B0 Lb E2
 intro hs
 by_cases h8:s.size<8
 ·have hd:decide ((s.size:Int)-8<0)=true:=decide_eq_true (by omega)
  have hd2:decide ((s.size:Int)-7-1<0)=true:=decide_eq_true (by omega)
  simp only[hd,cond_true]
  have h0:entry0 s=(evz,25):=by
   have:shapeX s=true:=by unfold shapeX;rw[hd2];rfl
   unfold entry0;rw[this];rfl
  rw[h0]
  exact⟨by(repeat' first|apply And.intro|(first|omega|(dsimp only;omega)|(simp only[];omega))),⟨fun h=>(nomatch h),fun h=>(nomatch h),fun h=>(nomatch h),fun h=>(nomatch h)⟩,fun _=>⟨rfl,rfl⟩,fun h=>(nomatch h)⟩
 ·have e1:((s.size:Int)-8).toNat=s.size-8:=by omega
  have e2:((s.size:Int)-8+1).toNat=s.size-7:=by omega
  have e3:s.extract 0 (s.size-8)=bodyX s:=ext_take s _
  have e4:s.extract (s.size-7) s.size=tailX s:=ext_drop s _
  have hts:(tailX s).size=7:=by unfold tailX;rw[bs_size];simp;omega
  have hbs:(bodyX s).size=s.size-8:=by unfold bodyX;rw[bs_size];simp
  have hd:decide ((s.size:Int)-8<0)=false:=decide_eq_false (by omega)
  have hd2:decide ((s.size:Int)-7-1<0)=false:=decide_eq_false (by omega)
  have hsh:(bif bif decide ((s.size:Int)-8<0) then true else((s.data.toList.getD (s.size-8) 0).toNat:Int) !=35 then true else !dig7 (tailX s))=shapeX s:=by
   unfold shapeX
   rw[dig7_dec hts,hd,hd2]
  simp only[e1,e2,e3,e4,hsh]
  have hrs:∀{x:Ev×Int},entry0 s=x→x.1=(entry0 s).fst∧x.2=(entry0 s).snd:=fun q=>by rw[q];exact⟨rfl,rfl⟩
  have hbl:(bodyX s).data.toList.length=(bodyX s).size:=rfl
  refine⟨by(repeat' first|apply And.intro|(first|omega|(dsimp only;omega)|(simp only[];omega))),⟨fun _=>by(repeat' first|apply And.intro|(first|omega|(dsimp only;omega)|(simp only[];omega))),fun _=>by(repeat' first|apply And.intro|(first|omega|(dsimp only;omega)|(simp only[];omega))),fun _=>by(repeat' first|apply And.intro|(first|omega|(dsimp only;omega)|(simp only[];omega))),fun _=>by omega⟩,fun h=>hrs (x:=(evz,25)) ?_,fun h=>⟨by(repeat' first|apply And.intro|(first|omega|(dsimp only;omega)|(simp only[];omega))),⟨by(repeat' first|apply And.intro|(first|omega|(dsimp only;omega)|(simp only[];omega))),by(repeat' first|apply And.intro|(first|omega|(dsimp only;omega)|(simp only[];omega))),by omega⟩,fun h2=>hrs (x:=(evz,27)) ?_,fun h2=> ?_⟩⟩
  ·unfold entry0;rw[h];rfl
  ·have:(!((sumS (bodyX s)).toList==(tailX s).toList))=true:=by rw[←h2];congr 1;exact Bool.beq_comm
   unfold entry0;rw[h,this];rfl
  have h2:(!((sumS (bodyX s)).toList==(tailX s).toList))=false:=by rw[←h2];congr 1;exact Bool.beq_comm
  have h0:entry0 s=bif okX (bodyX s) then(evz,25) else(evX (bodyX s),0):=by unfold entry0;rw[h,h2];rfl
  have hbad:okX (bodyX s)=true→entry0 s=(evz,25):=fun q=>by rw[h0,q];rfl
  have hsp:splitF (bodyX s) 32=(splB 32 (bodyX s).data.toList).map bs:=rfl
  rw[splB_cut] at hsp
  have hA:=cutA_len 32 (bodyX s).data.toList
  cases hc:cutF 32 (bodyX s).data.toList with
  |false=>
   rw[hc,if_neg (by simp)] at hsp
   have hsp:splitF (bodyX s) 32=[bodyX s]:=hsp
   simp only[hsp]
   have hl:decide ((([bodyX s]:List ByteArray).length:Int)<2)=true:=decide_eq_true (by simp)
   have hg:([bodyX s]:List ByteArray).getD 0 ({data:={toList:=[]}}:ByteArray)=bodyX s:=rfl
   rw[hl]
   refine⟨⟨by omega,by decide,by decide⟩,⟨⟨by decide,by simp⟩,⟨by decide,by simp⟩,by rw[hg];omega⟩,fun _=>hrs (x:=(evz,25)) (hbad (ok_nocut hc)),fun h3=> ?_⟩
   cases q:(!(digitsF (([bodyX s]:List ByteArray).getD 0 ({data:={toList:=[]}}:ByteArray))).snd)<;>rw[q] at h3<;>cases h3
  | true =>
   rw[hc,if_pos rfl,List.map_cons] at hsp
   have hsp:splitF (bodyX s) 32=headX (bodyX s)::splitF (restX (bodyX s)) 32:=hsp
   have hln:1≤(splitF (restX (bodyX s)) 32).length:=Nat.pos_of_ne_zero fun q=>splB_ne _ _ (List.map_eq_nil_iff.1 (List.eq_nil_of_length_eq_zero q))
   have hg:(headX (bodyX s)::splitF (restX (bodyX s)) 32).getD 0 ({data:={toList:=[]}}:ByteArray)=headX (bodyX s):=rfl
   have hl:decide (((headX (bodyX s)::splitF (restX (bodyX s)) 32).length:Int)<2)=false:=decide_eq_false (by simp only[List.length_cons];omega)
   have hcl:=congrArg List.length (cut_app 32 hc)
   rw[List.length_append,List.length_cons] at hcl
   have hH:(headX (bodyX s)).size=(cutA 32 (bodyX s).data.toList).length:=bs_size _
   have hr:(bodyX s).extract (((headX (bodyX s)).size:Int)+1).toNat (bodyX s).size=restX (bodyX s):=by
    rw[show(((headX (bodyX s)).size:Int)+1).toNat=(cutA 32 (bodyX s).data.toList).length+1 by omega,ext_drop,drop_cut hc]
    rfl
   have hrz:(restX (bodyX s)).size≤1000000:=by unfold restX;rw[bs_size];have:=cutZ_len 32 (bodyX s).data.toList;omega
   simp only[hsp,hg,hl,hr]
   have hW:∀w∈splitF (restX (bodyX s)) 32,w.size≤1000000:=by
    intro w hw
    obtain⟨v,hv,rfl⟩:=List.mem_map.1 hw
    have:=splB_len _ _ _ hv
    have h4:(restX (bodyX s)).data.toList.length=(restX (bodyX s)).size:=rfl
    rw[bs_size]
    omega
   have hz:=readS_sz hW
   have eP:parsedS (restX (bodyX s))=bif (readS (splitF (restX (bodyX s)) 32)).2 then readS (splitF (restX (bodyX s)) 32) else(evz,false):=rfl
   refine⟨⟨by omega,by decide,by decide⟩,⟨⟨by decide,by simp only[List.length_cons];omega⟩,⟨by decide,by simp only[List.length_cons];omega⟩,by omega⟩,fun h3=>hrs (x:=(evz,25)) (hbad ?_),fun h3=> ?_⟩
   ·have h3:(digitsF (headX (bodyX s))).2=false:=by
     cases q:(digitsF (headX (bodyX s))).2 with
     |false=>rfl
     |true=>rw[q] at h3;cases h3
    unfold okX;rw[h3];rfl
   have h3:(digitsF (headX (bodyX s))).2=true:=by
    cases q:(digitsF (headX (bodyX s))).2 with
    |true=>rfl
    |false=>rw[q] at h3;cases h3
   cases hp:(readS (splitF (restX (bodyX s)) 32)).2 with
   |false=>
    rw[hp] at eP
    have eP:parsedS (restX (bodyX s))=(evz,false):=eP
    have hok:okX (bodyX s)=true:=by unfold okX;rw[h3,hp];rfl
    rw[eP]
    exact⟨⟨⟨by decide,by simp only[List.length_cons];omega⟩,⟨by decide,by simp only[List.length_cons];omega⟩,by(repeat' first|apply And.intro|(first|omega|(dsimp only;omega)|(simp only[];omega))),by(repeat' first|apply And.intro|(first|omega|(dsimp only;omega)|(simp only[];omega))),hrz⟩,⟨fun h=>(nomatch h),fun h=>(nomatch h),fun h=>(nomatch h)⟩,fun _=>hrs (x:=(evz,25)) (hbad hok),fun h=>(nomatch h)⟩
   | true =>
    rw[hp] at eP
    have eP:parsedS (restX (bodyX s))=readS (splitF (restX (bodyX s)) 32):=eP
    rw[eP,hp]
    have hok:okX (bodyX s)=(checkE (evX (bodyX s)) !=0):=by unfold okX;rw[h3,hp];rfl
    refine⟨⟨⟨by decide,by simp only[List.length_cons];omega⟩,⟨by decide,by simp only[List.length_cons];omega⟩,by(repeat' first|apply And.intro|(first|omega|(dsimp only;omega)|(simp only[];omega))),by(repeat' first|apply And.intro|(first|omega|(dsimp only;omega)|(simp only[];omega))),hrz⟩,⟨fun _=>Nat.le_trans hz.1 (by decide),fun _=>Nat.le_trans hz.2.1 (by decide),fun _=>hz.2.2⟩,fun h4=>hrs (x:=(evz,25)) (hbad ?_),fun h4=>hrs (x:=(evX (bodyX s),0)) ?_⟩
    ·rw[hok];exact h4
    ·have h4:okX (bodyX s)=false:=by rw[hok];exact h4
     rw[h0,h4];rfl
abbrev W203:=W202.add ok109
theorem ext_mid (s:ByteArray) (a i:Nat):s.extract a i=bs ((s.data.toList.drop a).take (i-a)):=by
 cases s with
 |mk d=>
  show ByteArray.mk _=ByteArray.mk _
  congr 1
  apply Array.toList_inj.1
  simp
theorem ne10 {c:UInt8}:(((c.toNat:Int) !=10)=true↔c≠10)∧(((c.toNat:Int) !=10)=false↔c=10):=by
 have h:((c.toNat:Int)=10)↔c=10:=by
  constructor
  ·intro h
   apply UInt8.toNat_inj.1
   show c.toNat=10
   omega
  ·intro h;rw[h];rfl
 constructor
 ·rw[bne_iff_ne,ne_eq,h]
 ·rw[bne_eq_false_iff_eq,h]
def cRecover35:Con:={args:=[aS],ress:=[(false, .list 67 sEv),I,I],owns:=[],pre:=fun _=>[],spec:=fun(s,_)=>((recoverS s).1,(recoverS s).2.1,(recoverS s).2.2,())}
abbrev ann35 (s:ByteArray):Ann:={X:=Nat×Nat×List Ev,σ:=fun(a,i,o)=>⟨1,[(0, .one (.str s)),(5, .one (.sl 0)),(6, .one (.int .i64 a)),(7, .one (.int .i64 i))],[(0, .own 67 sEv o)]⟩,inv:=fun(a,i,o)=>a≤i∧i≤s.size∧s.size≤1000000∧o.length≤1000∧(10:UInt8)∉(s.data.toList.drop a).take (i-a)∧∃f,s.size-a≤f∧recL f (s.data.toList.drop a) a o=recoverS s,mu:=fun(_,i,_)=>s.size-i}
def Z1 (a:Nat×Nat×List Ev):=Nc a.2.1+1
def Z80 (a:Bt) (b:Nat×Nat×List Ev):=entry0 (ByteArray.extract a b.1 b.2.1)
def Z101 (a:Bt) (b:Nat×Nat×List Ev):=(Z80 a b).1
def Z774 (a:Nat×Nat×List Ev) (b:Bt):=a.1≤a.2.1∧a.2.1≤ByteArray.size b∧ByteArray.size b≤1000000∧List.length a.2.2≤1000∧(10∈List.take (a.2.1-a.1) (List.drop a.1 (Z10 b))→False)∧∃(f:Nat),ByteArray.size b-a.1≤f∧recL f (List.drop a.1 (Z10 b)) (Nc a.1) a.2.2=recoverS b
def Z785 (a:Nat×Nat×List Ev) (b:Bt) (c:Nat×Nat×List Ev):=Z774 a b∧ByteArray.size b-a.2.1<ByteArray.size b-c.2.1
def Z896 (a:Nat×Nat×List Ev) (b:Bt):=(List.length a.2.2+1)*88≤140737488355328∧T2 (Iw (Z1 a)) (∃(y:Nat×Nat×List Ev),Sf b (Z1 a=Nc y.1∧Z1 a=Nc y.2.1∧a.2.2++[((Z101 b a).1,(Z101 b a).2.1,(Z101 b a).2.2.1,E2 (Z101 b a).2.2.2)]=y.2.2)∧Z785 y b a)
theorem ok35:Ok Tryz.prog 35 cRecover35:=okW W203 Tryz.f35 (fun xx=>ann0 (ann35 xx.1)) fun xx=>by
 obtain⟨(s:ByteArray),_⟩:=xx
 refine(by kernel_rfl:(Br (decide (1000000<Nc (ByteArray.size s))) (Z357 s) (∃(x:Nat×Nat×List Ev),Sf s (0=Nc x.1∧0=Nc x.2.1∧List.length x.2.2=0)∧Z774 x s∧∀(x:Nat×Nat×List Ev),Z774 x s→Br (decide (Nc x.2.1<Nc (ByteArray.size s))) (Bd (Nc x.2.1) (Nc (ByteArray.size s))∧Br (Nc (UInt8.toNat (List.getD (Z10 s) x.2.1 0)) !=10) (Iw (Z1 x)∧∃(y:Nat×Nat×List Ev),Sf s (Nc x.1=Nc y.1∧Z1 x=Nc y.2.1∧x.2.2=y.2.2)∧Z785 y s x) (((0≤Nc x.1∧Nc x.1≤Nc x.2.1∧Nc x.2.1≤Nc (ByteArray.size s))∧ByteArray.size (ByteArray.extract s x.1 x.2.1)≤1000000)∧(((Z80 s x).2==0)=true→Iw (Ln x.2.2+1))∧Br (bif (Z80 s x).2==0 then(Z101 s x).1 !=Ln x.2.2+1 else false) (Br true (x.2.2=(recoverS s).1∧Nc x.1=(recoverS s).2.1∧11=(recoverS s).2.2) (Z896 x s)) (Br ((Z80 s x).2 !=0) (x.2.2=(recoverS s).1∧Nc x.1=(recoverS s).2.1∧(Z80 s x).2=(recoverS s).2.2) (Z896 x s)))) (Br (decide (Nc x.1<Nc (ByteArray.size s))) (x.2.2=(recoverS s).1∧Nc x.1=(recoverS s).2.1∧28=(recoverS s).2.2) (x.2.2=(recoverS s).1∧Nc x.1=(recoverS s).2.1∧0=(recoverS s).2.2))))=_).mp ?_
 delta Z1 Z10 Z80 Z101 Z357 Z774 Z785 Z896 Br Iw Bd T2 Sf Ln Nc E2
 refine⟨fun h=> ?_,fun h=> ?_⟩
 ·have h:1000000<s.size:=by have:=of_decide_eq_true h;omega
  unfold recoverS;rw[if_pos h];exact⟨rfl,rfl,rfl⟩
 have hs:¬1000000<s.size:=by have:=of_decide_eq_false h;omega
 have hl:s.data.toList.length=s.size:=by simp
 have hres:∀{x:List Ev×Int×Int},x=recoverS s→x.1=(recoverS s).fst∧x.2.1=(recoverS s).snd.fst∧x.2.2=(recoverS s).snd.snd:=fun q=>by rw[←q];exact⟨rfl,rfl,rfl⟩
 refine⟨((0:Nat),(0:Nat),[]),by(repeat' first|exact rfl|exact trivial|apply And.intro|exact(Int.add_zero _).symm|exact Int.add_assoc _ _ _|omega|(dsimp only;push_cast;omega)),⟨Nat.le_refl _,Nat.zero_le _,by omega,Nat.zero_le _,by simp,⟨s.size,by omega,by unfold recoverS;rw[if_neg hs];rfl⟩⟩,fun(x:Nat×Nat×List Ev) hx=>⟨fun hlt=> ?_,fun hlt=> ?_⟩⟩
 ·obtain⟨a,i,o⟩:=x
  obtain⟨k1,k2,k3,k4,k5,f,kf,k6⟩:=hx
  dsimp only at k1 k2 k4 k5 kf
  have k6:recL f (s.data.toList.drop a) a o=recoverS s:=k6
  have hlt:i<s.size:=by simpa using hlt
  dsimp only
  have hLl:(s.data.toList.drop a).length=s.size-a:=by rw[List.length_drop,hl]
  have hLg:(s.data.toList.drop a).getD (i-a) 0=s.data.toList.getD i 0:=by rw[List.getD_eq_getElem?_getD,List.getElem?_drop,show a+(i-a)=i by omega,←List.getD_eq_getElem?_getD]
  refine⟨by(repeat' first|apply And.intro|(first|omega|(dsimp only;omega)|(simp only[];omega))),fun h2=>⟨by(repeat' first|apply And.intro|(first|omega|(dsimp only;omega)|(simp only[];omega))),(a,i+1,o),by(repeat' first|exact rfl|exact trivial|apply And.intro|exact(Int.add_zero _).symm|exact Int.add_assoc _ _ _|omega|(dsimp only;push_cast;omega)),⟨by(first|omega|(dsimp only;omega)|(simp only[];omega)),by(first|omega|(dsimp only;omega)|(simp only[];omega)),k3,k4, ?_,f,kf,k6⟩,by(first|omega|(dsimp only;omega)|(simp only[];omega))⟩,fun h2=> ?_⟩
  ·have h2:s.data.toList.getD i 0≠10:=ne10.1.1 h2
   dsimp only
   rw[show i+1-a=(i-a)+1 by omega,←take_snoc (d:=(0:UInt8)) (by omega),hLg]
   intro hm
   rcases List.mem_append.1 hm with hm|hm
   ·exact k5 hm
   ·exact h2 (List.mem_singleton.1 hm).symm
  have h2:s.data.toList.getD i 0=10:=ne10.2.1 h2
  obtain⟨c1,c2,c3⟩:=cut_at (c:=10) (l:=s.data.toList.drop a) (k:=i-a) k5 (by omega) (hLg.trans h2)
  have hf:f=(f-1)+1:=by omega
  have hne:s.data.toList.drop a≠[]:=by
   intro h
   have:=congrArg List.length h
   rw[hLl] at this
   simp at this;omega
  rw[hf,recL,if_neg hne,c1,if_neg (by simp)] at k6
  have hx:s.extract a i=bs (cutA 10 (s.data.toList.drop a)):=by rw[ext_mid,c2]
  have hbz:(bs (cutA 10 (s.data.toList.drop a))).size=i-a:=by rw[bs_size,c2,List.length_take];omega
  rw[hx]
  have hcZ:cutZ 10 (s.data.toList.drop a)=s.data.toList.drop (i+1):=by rw[c3,List.drop_drop,show a+(i-a+1)=i+1 by omega]
  have hcA:(cutA 10 (s.data.toList.drop a)).length=i-a:=by rw[c2,List.length_take];omega
  generalize hB:bs (cutA 10 (s.data.toList.drop a))=B at hbz k6⊢
  refine⟨⟨by(repeat' first|apply And.intro|(first|omega|(dsimp only;omega)|(simp only[];omega))),by omega⟩,fun _=>by(repeat' first|apply And.intro|(first|omega|(dsimp only;omega)|(simp only[];omega))),fun h3=>⟨fun _=>hres (x:=(o,(a:Int),11)) ?_,fun h=>(nomatch h)⟩,fun h3=>⟨fun h4=>hres (x:=(o,(a:Int),(entry0 B).2)) ?_,fun h4=> ?_⟩⟩
  ·cases q:((entry0 B).2==0) with
   |false=>rw[q] at h3;cases h3
   |true=>
    rw[q] at h3
    have q:(entry0 B).2=0:=by simpa using q
    have h3:((entry0 B).1.1 !=(o.length:Int)+1)=true:=h3
    have e:(entryS B (o.length+1)).2=11:=by unfold entryS;rw[if_pos q,h3];rfl
    rw[if_pos (by rw[e];decide),e] at k6
    exact k6
  ·have h4:(entry0 B).2≠0:=bne_iff_ne.1 h4
   have e:entryS B (o.length+1)=entry0 B:=by unfold entryS;rw[if_neg h4]
   rw[e,if_pos h4] at k6
   exact k6
  ·have h4:(entry0 B).2=0:=bne_eq_false_iff_eq.1 h4
   have q:((entry0 B).2==0)=true:=by rw[h4];rfl
   rw[q] at h3
   have h3:((entry0 B).1.1 !=(o.length:Int)+1)=false:=h3
   have e:entryS B (o.length+1)=((entry0 B).1,0):=by unfold entryS;rw[if_pos h4,h3];rfl
   have hn:=entry_num (s:=B) (k:=o.length+1) (by rw[e])
   have hnum:=(checkE_zero hn.1).num
   rw[hn.2] at hnum
   rw[e,if_neg (by simp)] at k6
   refine⟨by omega,by(repeat' first|apply And.intro|(first|omega|(dsimp only;omega)|(simp only[];omega))),by(repeat' first|apply And.intro|(first|omega|(dsimp only;omega)|(simp only[];omega))),(i+1,i+1,o++[(entry0 B).1]),by(repeat' first|exact rfl|exact trivial|apply And.intro|exact(Int.add_zero _).symm|exact Int.add_assoc _ _ _|omega|(dsimp only;push_cast;omega)),⟨by(first|omega|(dsimp only;omega)|(simp only[];omega)),by(first|omega|(dsimp only;omega)|(simp only[];omega)),k3,by simp only[List.length_append,List.length_singleton];omega,by simp,f-1,by(first|omega|(dsimp only;omega)|(simp only[];omega)), ?_⟩,by(first|omega|(dsimp only;omega)|(simp only[];omega))⟩
   dsimp only
   rw[←hcZ,←k6]
   congr 1
   rw[hcA]
   push_cast
   omega
 ·obtain⟨a,i,o⟩:=x
  obtain⟨k1,k2,k3,k4,k5,f,kf,k6⟩:=hx
  dsimp only at k1 k2 k4 k5 kf
  have k6:recL f (s.data.toList.drop a) a o=recoverS s:=k6
  have hlt:¬i<s.size:=by simpa using hlt
  have hi:i=s.size:=by omega
  dsimp only
  have hLl:(s.data.toList.drop a).length=s.size-a:=by rw[List.length_drop,hl]
  rw[hi,List.take_of_length_le (by omega)] at k5
  refine⟨fun h2=>hres (x:=(o,(a:Int),28)) ?_,fun h2=>hres (x:=(o,(a:Int),0)) ?_⟩
  ·have h2:a<s.size:=by simpa using h2
   have hne:s.data.toList.drop a≠[]:=by
    intro h
    have:=congrArg List.length h
    rw[hLl] at this
    simp at this;omega
   rw[show f=(f-1)+1 by omega,recL,if_neg hne,if_pos (cut_no k5)] at k6
   exact k6
  ·have h2:¬a<s.size:=by simpa using h2
   have e:s.data.toList.drop a=[]:=List.drop_eq_nil_of_le (by omega)
   rw[e] at k6
   rw[←k6]
   cases f<;>rfl
abbrev W204:=W203.add ok35
set_option maxHeartbeats 20000000
theorem join_cons {a sep:List UInt8} {xs:List (List UInt8)} (h:xs≠[]):Lib.join (a::xs) sep=a++sep++Lib.join xs sep:=by
 cases xs with
 |nil=>exact absurd rfl h
 |cons x r=>simp[Lib.join,List.intercalate,List.intersperse]
theorem join_one {a sep:List UInt8}:Lib.join [a] sep=a:=by simp[Lib.join,List.intercalate,List.intersperse]
theorem join_spl (c:UInt8):∀l:List UInt8,Lib.join (splB c l) [c]=l
 |[]=>join_one
 | b :: r => by
  have ih:=join_spl c r
  rw[splB_cons]
  by_cases h:b=c
  ·rw[if_pos h,join_cons (splB_ne c r),ih,h];rfl
  ·rw[if_neg h]
   cases q:splB c r with
   |nil=>exact absurd q (splB_ne c r)
   | cons x t =>
    rw[q] at ih
    dsimp only
    cases t with
    |nil=>rw[join_one] at ih⊢;rw[ih]
    |cons y t=>
     rw[join_cons (by simp)] at ih⊢
     rw[←ih];simp
theorem itoa_dig {w:ByteArray} (h:dgB w=true):itoaS (dgN w)=w:=by
 obtain⟨u,_,h2,h3⟩:=digits_inv h
 unfold dgN
 rw[h3]
 show bs (Lib.itoa (u:Int))=w
 rw[Lib.itoa_nonneg,←h2]
 rfl
theorem itoa_map {l:List ByteArray} (h:∀w∈l,dgB w=true):(l.map dgN).map itoaS=l:=by
 rw[List.map_map]
 refine(List.map_congr_left fun w hw=> ?_).trans (List.map_id l)
 exact itoa_dig (h w hw)
theorem map_bs (l:List (List UInt8)):(l.map bs).map (fun x=>x.data.toList)=l:=by
 rw[List.map_map]
 exact(List.map_congr_left fun w _=>rfl).trans (List.map_id l)
theorem body_back {b:ByteArray} (h:okX b=false):bodyS (evX b)=b:=by
 unfold okX at h
 cases h4:(bif !(digitsF (headX b)).2 then true else !(readS (splitF (restX b) 32)).2) with
 |true=>rw[h4] at h;cases h
 | false =>
  have hb:=bn1 h4
  have hd:dgB (headX b)=true:=show(digitsF (headX b)).2=true by simpa using hb.1
  have hr:(readS (splitF (restX b) 32)).2=true:=by simpa using hb.2
  have hsp:splitF (restX b) 32=(splB 32 (cutZ 32 b.data.toList)).map bs:=rfl
  cases q:splB 32 (cutZ 32 b.data.toList) with
  |nil=>exact absurd q (splB_ne _ _)
  | cons w0 l =>
   rw[q,List.map_cons] at hsp
   rw[hsp] at hr
   have hk:kindK (bs w0)=true:=by
    cases hk:kindK (bs w0) with
    |true=>rfl
    |false=>rw[read_none hk] at hr;cases hr
   have hw:wellW (bs w0) (l.map bs):=by
    by_cases hw:wellW (bs w0) (l.map bs)
    ·exact hw
    ·rw[read_bad hk hw] at hr;cases hr
   have hcut:cutF 32 b.data.toList=true:=by
    cases hc:cutF 32 b.data.toList with
    |true=>rfl
    | false =>
     have hz:∀l:List UInt8,cutF 32 l=false→cutZ 32 l=[]:=by
      intro l
      induction l with
      |nil=>intro _;rfl
      |cons x r ih=>
       intro hx
       unfold cutF at hx
       unfold cutZ
       by_cases e:x=32
       ·rw[if_pos e] at hx;cases hx
       ·rw[if_neg e] at hx;rw[if_neg e];exact ih hx
     rw[hz _ hc] at q
     have:w0=[]:=(List.cons.inj (show[[]]=w0::l from q)).1.symm
     subst this
     exact absurd hk (by rw[show kindK (bs [])=false by kernel_rfl];simp)
   have e1:evX b=(dgN (headX b),bs w0,(l.map bs).take (nrK (bs w0)),((l.map bs).drop (nrK (bs w0))).map dgN,bnil):=by
    unfold evX
    rw[hsp,read_good hk hw];rfl
   rw[e1]
   unfold bodyS bodyL joinS
   dsimp only
   rw[itoa_dig hd,itoa_map hw.2.2,List.take_append_drop]
   have e2:(headX b::bs w0::l.map bs).map (fun x=>x.data.toList)=cutA 32 b.data.toList::splB 32 (cutZ 32 b.data.toList):=by
    rw[q,List.map_cons,List.map_cons,map_bs];rfl
   rw[e2,join_cons (splB_ne _ _)]
   show bs (_++_++Lib.join _ [32])=_
   rw[join_spl,List.append_assoc]
   show bs (cutA 32 b.data.toList++(32::cutZ 32 b.data.toList))=b
   rw[←cut_app 32 hcut]
   rfl
theorem entry_rec {s:ByteArray} {e:Ev} (h:entry0 s=(e,0)):recS e=bs (s.data.toList++[10]):=by
 unfold entry0 at h
 cases h1:shapeX s with
 |true=>rw[h1] at h;cases h
 | false =>
  rw[h1,cond_false] at h
  cases h2: !((sumS (bodyX s)).toList==(tailX s).toList) with
  |true=>rw[h2] at h;cases h
  | false =>
   rw[h2,cond_false] at h
   have h2:sumS (bodyX s)=tailX s:=bytes_eq (by simpa using h2)
   cases h3:okX (bodyX s) with
   |true=>rw[h3] at h;cases h
   | false =>
    rw[h3,cond_false] at h
    have h4:evX (bodyX s)=e:=(Prod.mk.inj h).1
    rw[←h4]
    unfold recS
    rw[body_back h3,h2]
    congr 1
    have hl:s.data.toList.length=s.size:=by simp
    unfold shapeX at h1
    have h5:=bn1 h1
    have h6:=bn1 h5.1
    have h7:¬((s.size:Int)-7-1<0):=of_decide_eq_false h6.1
    have h8:((s.data.toList.getD (s.size-8) 0).toNat:Int)=35:=bne_eq_false_iff_eq.1 h6.2
    have h9:s.data.toList.getD (s.size-8) 0=35:=by
     apply UInt8.toNat_inj.1
     show(s.data.toList.getD (s.size-8) 0).toNat=35
     omega
    show s.data.toList.take (s.size-8)++[35]++s.data.toList.drop (s.size-7)++[10]=_
    congr 1
    have hd:=drop_cons (l:=s.data.toList) (k:=s.size-8) (d:=(0:UInt8)) (by omega)
    rw[show s.size-8+1=s.size-7 by omega,h9] at hd
    rw[List.append_assoc]
    show s.data.toList.take (s.size-8)++(35::s.data.toList.drop (s.size-7))=_
    rw[←hd,List.take_append_drop]
theorem log_snoc (o:List Ev) (e:Ev):(logS (o++[e])).data.toList=(logS o).data.toList++(recS e).data.toList:=by
 have:=logS_snoc (l:=o++[e]) (k:=o.length) (by simp)
 rw[List.take_of_length_le (by simp),List.take_left] at this
 rw[this]
 show _++_=_
 rw[List.getD_eq_getElem?_getD,List.getElem?_append_right (by omega),Nat.sub_self]
 rfl
theorem rec_log:∀(f:Nat) (l:List UInt8) (a:Int) (o:List Ev),l.length≤f→(recL f l a o).2.2=0→(logS (recL f l a o).1).data.toList=(logS o).data.toList++l
 |0,l,a,o,hf,_=>by
  have:l=[]:=List.eq_nil_of_length_eq_zero (by omega)
  subst this
  simp[recL]
 | f + 1, l, a, o, hf, h => by
  unfold recL at h⊢
  by_cases h1:l=[]
  ·rw[if_pos h1,h1];simp
  rw[if_neg h1] at h⊢
  by_cases h2:cutF 10 l=false
  ·rw[if_pos h2] at h;exact absurd (show(28:Int)=0 from h) (by decide)
  rw[if_neg h2] at h⊢
  by_cases h3:(entryS (bs (cutA 10 l)) (o.length+1)).2≠0
  ·rw[if_pos h3] at h;exact absurd h h3
  rw[if_neg h3] at h⊢
  have h2:cutF 10 l=true:=by simpa using h2
  have h3:(entryS (bs (cutA 10 l)) (o.length+1)).2=0:=Decidable.of_not_not h3
  have hc:=cut_app 10 h2
  have hl:=congrArg List.length hc
  rw[List.length_append,List.length_cons] at hl
  rw[rec_log f _ _ _ (by omega) h,log_snoc]
  have h0:(entry0 (bs (cutA 10 l))).2=0:=by
   unfold entryS at h3
   by_cases q:(entry0 (bs (cutA 10 l))).2=0
   ·exact q
   ·rw[if_neg q] at h3;exact h3
  have e:(entryS (bs (cutA 10 l)) (o.length+1)).1=(entry0 (bs (cutA 10 l))).1:=by unfold entryS;rw[if_pos h0]
  have e2:recS (entry0 (bs (cutA 10 l))).1=bs (cutA 10 l++[10]):=entry_rec (Prod.ext rfl h0)
  rw[e,e2]
  show(logS o).data.toList++(cutA 10 l++[10])++cutZ 10 l=_
  rw[List.append_assoc,List.append_assoc]
  congr 1
  exact hc.symm
theorem recover_log {s:ByteArray} (h:(recoverS s).2.2=0):logS (recoverS s).1=s:=by
 unfold recoverS at h⊢
 by_cases q:1000000<s.size
 ·rw[if_pos q] at h;exact absurd h (by decide)
 ·rw[if_neg q] at h⊢
  have:=rec_log _ _ _ _ (by simp) h
  have e:(logS []).data.toList=[]:=rfl
  rw[e,List.nil_append] at this
  cases hs:logS (recL s.size s.data.toList 0 []).1 with
  |mk d=>
   rw[hs] at this
   cases s with
   |mk d2=>exact congrArg ByteArray.mk (Array.toList_inj.1 this)
theorem recL_chk:∀(f:Nat) (l:List UInt8) (a:Int) (o:List Ev),(∀e∈o,checkE e=0)→∀e∈(recL f l a o).1,checkE e=0
 |0,_,_,_,h=>h
 | f + 1, l, a, o, h => by
  unfold recL
  split
  ·exact h
  split
  ·exact h
  split
  ·exact h
  ·rename_i q
   have hn:=entry_num (Decidable.of_not_not q)
   exact recL_chk f _ _ _ fun e he=>(List.mem_append.1 he).elim (h e) fun he=>by rw[List.mem_singleton.1 he];exact hn.1
theorem recover_chk (s:ByteArray):∀e∈(recoverS s).1,checkE e=0:=by
 unfold recoverS
 split
 ·intro e he;cases he
 ·exact recL_chk _ _ _ _ fun e he=>nomatch he
theorem body_small {e:Ev} (h:checkE e=0):(bodyS e).size≤400:=by
 have hE:=checkE_zero h
 have hk:=kind_bd e.2.1
 have h1:=hE.num
 have h2:=hE.nn
 have h3:=hE.nv
 have h4:=kind_sz hE.kind
 show(Lib.join ((bodyL e).map (·.data.toList)) [32]).toArray.size≤_
 rw[List.size_toArray]
 refine Nat.le_trans (join_len (sep:=[32]) rfl) ?_
 rw[List.map_map]
 refine Nat.le_trans (sum_le (b:=41) fun x hx=> ?_) ?_
 ·obtain⟨s,hs,rfl⟩:=List.mem_map.1 hx
  have hz:s.data.toList.length=s.size:=rfl
  show s.data.toList.length+1≤41
  rw[hz]
  rcases List.mem_cons.1 hs with rfl|hs
  ·have:=itoaS_le e.1 (by omega) (by omega);omega
  rcases List.mem_cons.1 hs with rfl|hs
  ·omega
  rcases List.mem_append.1 hs with hs|hs
  ·have:=nameB_le (hE.name s hs);omega
  ·obtain⟨v,hv,rfl⟩:=List.mem_map.1 hs
   have:=hE.val v hv
   have:=itoaS_le v (by omega) (by omega);omega
 ·unfold bodyL
  simp only[List.length_map,List.length_cons,List.length_append]
  omega
theorem app_log {log:ByteArray} {e:Ev} (hl:log.size≤1500):appP log e=(if appE log e=0 then logS ((recoverS log).1++[e]) else bnil,appE log e):=by
 unfold appP
 by_cases h:appE log e=0
 ·rw[if_neg (by rw[h];simp),if_pos h]
  have hz:=firstS_zero.1 h
  have hc:checkE e=0:=hz _ (by simp)
  have hr:(recoverS log).2.2=0:=hz _ (by simp)
  have hs:=recS_size (body_ok hc)
  have hb:=body_small hc
  rw[if_neg (by omega),h]
  congr 1
  have q:=log_snoc (recoverS log).1 e
  rw[recover_log hr] at q
  rw[←q]
  rfl
 ·rw[if_pos h,if_neg h]
end Go.Proofs.YtcibbcfiemeoiaaGreatDoor

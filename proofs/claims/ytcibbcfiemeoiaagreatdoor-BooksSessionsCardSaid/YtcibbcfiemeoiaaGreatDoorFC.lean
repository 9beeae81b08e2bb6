/- Contracts of the functions that the law reaches: part of the proof. -/
import Derived.Test.YtcibbcfiemeoiaaGreatDoorFB
set_option linter.unusedSimpArgs false
set_option linter.unusedVariables false
set_option maxRecDepth 20000
namespace Go.Proofs.YtcibbcfiemeoiaaGreatDoor
open Go.Sx
set_option maxHeartbeats 20000000
def Uc8:Con:={args:=[.ref 167 Jjh],ress:=[(true,Jkq)],owns:=[],pre:=fun(h,_)=>[Kp h],spec:=fun(h,_)=>(Ko h.2.2,())}
theorem Ub1:Ok Tryz.prog 75 Uc8:=okW K9q Tryz.f75 na fun xx=>by
 obtain⟨⟨(E:List Ev),(C:List Ev),(G:List Reg)⟩,_⟩:=xx
 refine(by kernel_rfl:(Kp (E,C,G)→Br (Yc G) (Yb G∧Kx G=Ko G) (Vz=Ko G))=_).mp ?_
 delta Yc Do Vz Yb Fl Jaw Fk F4 H5 H4 Dn Hk Ym Kx Br Iw Bd Tw Ln Gt E2
 intro hh
 have n1:E.length≤1000:=hh.nE
 have n2:C.length≤E.length:=hh.nC
 have n3:G.length=C.length:=hh.nG
 have hG:((G.length:Int)-1).toNat=G.length-1:=by omega
 refine⟨fun h=> ?_,fun h=> ?_⟩
 ·have h:(0:Int)<G.length:=of_decide_eq_true h
  rw[hG]
  exact⟨by omega,rfl⟩
 ·exact(Kw h).symm
abbrev K9p:=K9q.add Ub1
def Ki7:Con:={args:=[.val false (.list 67 sEv), .fn [(true,sEv)] Bo],ress:=[(false, .list 67 sEv)],owns:=[true],pre:=fun(l,(q,_),_)=>[l.length≤1000000,∀x∈l,Up (q (x,()))],spec:=fun(l,(_,f),_)=>(l.filter fun x=>f (x,()),())}
def J57 (a:Ev×Unit→Bool) (b:Nat) (c:List Ev):=List.filter (fun(x:Ev)=>a (x,PUnit.unit)) (List.take b c)
theorem Uby:Ok Tryz.prog 78 Ki7:=okW K9p Tryz.f78 (fun xx=>Y4 (Jo5 67 67 sEv xx.1 true xx.2.1.1 xx.2.1.2)) fun xx=>by
 obtain⟨(l:List Ev),⟨(q:Ev×Unit→List Prop),(f:Ev×Unit→Bool)⟩,_⟩:=xx
 refine(by kernel_rfl:(Z38 l→Kf0 l q→∃(x:Nat),Si (Ln l) (0=Nc x∧Sf l ((fun(x:Ev×PUnit)=>q x)=q∧(fun(x:Ev×PUnit)=>f x)=f∧List.length (J57 f x l)=0))∧x≤List.length l∧∀(x:Nat),x≤List.length l→Br (Z97 x l) (Tw (Z9 x l)∧Jtl q l x∧Br (f (Jpf l x)) ((List.length (J57 f x l)+1)*88≤140737488355328∧Z20 x∧∃(y:Nat),Si (Ln l) (Vm x y∧Sf l ((fun(x:Ev×PUnit)=>q x)=q∧(fun(x:Ev×PUnit)=>f x)=f∧J57 f x l++[Jm4 l x]=J57 f y l))∧J25 y l x) (Z20 x∧∃(y:Nat),Si (Ln l) (Vm x y∧Sf l ((fun(x:Ev×PUnit)=>q x)=q∧(fun(x:Ev×PUnit)=>f x)=f∧J57 f x l=J57 f y l))∧J25 y l x)) (J57 f x l=List.filter (fun(x:Ev)=>f (x,PUnit.unit)) l))=_).mp ?_
 delta Z9 Z20 Z38 Z97 Vm Jyj Di J57 J5z J5y J5x Jz2 J25 Jye Kf0 Jm4 Jpf Jtl Br Iw Bd Tw Sf Si Ln Nc B0 E2
 intro hb hq
 refine⟨(0:Nat),⟨rfl,rfl,rfl,rfl,rfl,by simp⟩,Nat.zero_le _,fun(k:Nat) hk=>⟨fun h=> ?_,fun h=> ?_⟩⟩
 ·have hlt:k<l.length:=by simpa using h
  have hf:=Jf3 (p:=fun x=>f (x,())) hk
  have ht:=Km (d:=ev0) hlt
  refine⟨by omega,hq (l.getD k ev0) (Je hlt),fun h1=> ?_,fun h1=> ?_⟩
  ·have h1:f (l.getD k ev0,())=true:=h1
   refine⟨by show((List.filter (fun x=>f (x,())) (List.take k l)).length+1)*88≤_;omega,by omega,(k+1:Nat),⟨rfl,by simp,rfl,rfl,rfl, ?_⟩,by omega,by omega⟩
   rw[←ht,List.filter_append,List.filter_cons,if_pos h1];rfl
  ·have h1:f (l.getD k ev0,())=false:=h1
   refine⟨by omega,(k+1:Nat),⟨rfl,by simp,rfl,rfl,rfl, ?_⟩,by omega,by omega⟩
   rw[←ht,List.filter_append,List.filter_cons,if_neg (by rw[h1];decide)];simp
 ·have hlt:¬k<l.length:=by simpa using h
  rw[List.take_of_length_le (by omega)]
abbrev K9o:=K9p.add Uby
def Ki3:Con:={args:=[.val false (.list 67 sEv), .fn [(true,sEv)] (true,sEv)],ress:=[(false, .list 67 sEv)],owns:=[true],pre:=fun(l,(q,_),_)=>[l.length≤1000000,∀x∈l,Up (q (x,()))],spec:=fun(l,(_,f),_)=>(l.map fun x=>f (x,()),())}
def Kgp (a:Ev×Unit→Ev) (b:Nat) (c:List Ev):=List.map (fun(x:Ev)=>a (x,PUnit.unit)) (List.take b c)
def Kei (a:Ev×Unit→Ev) (b:List Ev) (c:Nat):=a (Jpf b c)
def Kef (a:Ev×Unit→Ev) (b:List Ev) (c:Nat):=(Kei a b c).2
def Ked (a:Ev×Unit→Ev) (b:List Ev) (c:Nat):=(Kef a b c).2
theorem Ubz:Ok Tryz.prog 77 Ki3:=okW K9o Tryz.f77 (fun xx=>Y4 (Jbz 67 67 sEv xx.1 (true,sEv) true xx.2.1.1 xx.2.1.2)) fun xx=>by
 obtain⟨(l:List Ev),⟨(q:Ev×Unit→List Prop),(f:Ev×Unit→Ev)⟩,_⟩:=xx
 refine(by kernel_rfl:(Z38 l→Kf0 l q→∃(x:Nat),Si (Ln l) (0=Nc x∧Sf l ((fun(x:Ev×PUnit)=>q x)=q∧(fun(x:Ev×PUnit)=>f x)=f∧List.length (Kgp f x l)=0))∧x≤List.length l∧∀(x:Nat),x≤List.length l→Br (Z97 x l) (Tw (Z9 x l)∧(Jtl q l x∧(List.length (Kgp f x l)+1)*88≤140737488355328)∧Z20 x∧∃(y:Nat),Si (Ln l) (Vm x y∧Sf l ((fun(x:Ev×PUnit)=>q x)=q∧(fun(x:Ev×PUnit)=>f x)=f∧Kgp f x l++[((Kei f l x).1,(Kef f l x).1,(Ked f l x).1,E2 (Ked f l x).2)]=Kgp f y l))∧J25 y l x) (Kgp f x l=List.map (fun(x:Ev)=>f (x,PUnit.unit)) l))=_).mp ?_
 delta Z9 Z20 Z38 Z97 Vm Jyj Di Kgp J5z J5y J5x Jz2 J25 Jye Kf0 Jm4 Jpf Kei Kef Ked Jtl Br Iw Bd Tw Sf Si Ln Nc B0 E2
 intro hb hq
 refine⟨(0:Nat),⟨rfl,rfl,rfl,rfl,rfl,by simp⟩,Nat.zero_le _,fun(k:Nat) hk=>⟨fun h=> ?_,fun h=> ?_⟩⟩
 ·have hlt:k<l.length:=by simpa using h
  refine⟨by omega,⟨hq (l.getD k ev0) (Je hlt),by simp only[List.length_map,List.length_take];omega⟩,by omega,(k+1:Nat),⟨rfl,by simp,rfl,rfl,rfl, ?_⟩,by omega,by omega⟩
  rw[←Km (d:=ev0) hlt,List.map_append];rfl
 ·have hlt:¬k<l.length:=by simpa using h
  rw[List.take_of_length_le (by omega)]
abbrev K9n:=K9o.add Ubz
def Zb:List Ev→Nat→List Ev
 |[],_=>[]
 |e::l,i=>((i:Int)+1,e.2)::Zb l (i+1)
def Zs (l:List Ev) (s:ByteArray):Int:=Jg [(Ja l).2.2,bif (bif (Ja l).2.2==0 then !Ye (J7 l) 0 s else false) then 10 else 0]
def Xi (l:List Ev) (s:ByteArray):List Ev:=(Ja l).1.2.1.filter fun e=>abS (J7 l) e s
def Ja5 (l:List Ev) (s:ByteArray):List Ev:=if Zs l s=0 then Zb (Xi l s) 0 else[]
def Kih:Con:={args:=[.val false (.list 67 sEv),aS],ress:=[(false, .list 67 sEv),I],owns:=[],pre:=fun(l,_)=>[lOk l],spec:=fun(l,s,_)=>(Ja5 l s,Zs l s,())}
theorem D5:∀(l:List Ev) (i:Nat),(Zb l i).length=l.length
 |[],_=>rfl
 |_::l,i=>by unfold Zb;rw[List.length_cons,List.length_cons,D5 l]
theorem Jh4:∀(a b:List Ev) (i:Nat),Zb (a++b) i=Zb a i++Zb b (i+a.length)
 |[],_,_=>rfl
 |x::a,b,i=>by
  rw[List.cons_append,Zb,Zb,Jh4 a b (i+1),List.cons_append,List.length_cons,show i+1+a.length=i+(a.length+1) by omega]
theorem Jvd {L:List Ev} {k:Nat} (h:k<L.length):(Zb (L.take k) 0++L.drop k).getD k ev0=L.getD k ev0:=by
 have hl:(Zb (L.take k) 0).length=k:=by rw[D5,List.length_take];omega
 rw[Jq (d:=ev0) h,List.getD_eq_getElem?_getD,List.getElem?_append_right (by omega),hl,Nat.sub_self]
 rfl
theorem Jvc {L:List Ev} {k:Nat} (h:k<L.length):(Zb (L.take k) 0++L.drop k).set k ((k:Int)+1,(L.getD k ev0).2)=Zb (L.take (k+1)) 0++L.drop (k+1):=by
 have hl:(Zb (L.take k) 0).length=k:=by rw[D5,List.length_take];omega
 rw[Jq (d:=ev0) h,List.set_append_right _ _ (by omega),hl,Nat.sub_self,List.set_cons_zero,←Km (d:=ev0) h,Jh4,List.append_assoc,List.length_take,Nat.min_eq_left (by omega),Nat.zero_add]
 rfl
theorem Jpt:∀{l:List Ev} {h:J9},∀e∈(Zm h l).1.2.1,e∈h.2.1∨e∈l
 |[],_,e,he=> .inl he
 | x :: l, h, e, he => by
  unfold Zm at he
  by_cases ha:K3 h x=0
  ·rw[if_pos ha] at he
   rcases Jpt e he with h1|h1
   ·unfold Ho at h1
    cases hk:x.2.1.toList==J1.toList with
    |true=>rw[hk,cond_true] at h1;exact .inl (List.mem_of_mem_take h1)
    |false=>
     rw[hk,cond_false] at h1
     rcases V9 h1 with h2|rfl
     ·exact .inl h2
     ·exact .inr (List.mem_cons_self ..)
   ·exact .inr (List.mem_cons_of_mem _ h1)
  ·rw[if_neg ha] at he;exact .inl he
theorem Jr8 {l:List Ev}:∀e∈(Ja l).1.2.1,e∈l:=by
 unfold Ja
 by_cases h:1000<l.length
 ·rw[if_pos h];intro e he;cases he
 ·rw[if_neg h];intro e he;exact(Jpt e he).elim (fun h=>by cases h) id
abbrev J8x (l:List Ev) (s:ByteArray):Ann:={X:=J9×Nat,σ:=fun(h,k)=>⟨8,[(5, .one (.ptr 3 0)),(14, .one (.sl 0)),(15, .one (.int .i64 l.length)),(16, .one (.int .i64 k))],[(0, .imm 67 sEv l),(1, .box 9 [.str s]),(2, .sus [(3, .one (.ptr 1 0))]),(3, .box 167 [.sl 5, .sl 6, .sl 7]),(5, .own 67 sEv h.1),(6, .own 67 sEv h.2.1),(7, .own 105 Jkq h.2.2)]⟩,inv:=fun(h,k)=>Vs h∧h.1.length=k∧k≤l.length∧l.length≤1000∧Zm h (l.drop k)=Ja l,mu:=fun(_,k)=>l.length-k}
abbrev Kj7 (L:List Ev):Ann:={X:=Nat,σ:=fun k=>⟨1,[(11, .one (.sl 0)),(44, .one (.sl 0)),(45, .one (.int .i64 L.length)),(46, .one (.int .i64 k))],[(0, .own 67 sEv (Zb (L.take k) 0++L.drop k))]⟩,inv:=fun k=>k≤L.length,mu:=fun k=>L.length-k}
def J9q (a:Nat) (b:List Ev) (c:Bt):=Zb (List.take a (Xi b c)) 0++List.drop a (Xi b c)
def J24 (a:Ev):=List.length a.2.2.1≤1000000∧List.length a.2.2.2.1≤1000000
def Klb (a:J9×Nat):=((Ko a.1.2.2).1,(Ko a.1.2.2).2.1,(Ko a.1.2.2).2.2.1,(Ko a.1.2.2).2.2.2.1,(Ko a.1.2.2).2.2.2.2.1,E2 (Ko a.1.2.2).2.2.2.2.2)
def K17 (a:J9×Nat):=Jn (Klb a)
def Ko2 (a:J9×Nat) (b:Bt):=List.filter (fun(x:Ev)=>abS (Klb a) x b) a.1.2.1
def K0u (a:J9×Nat) (b:Bt):=List.map (fun(x:Ev)=>x) (Ko2 a b)
def K0g (a:J9×Nat) (b:Bt):=Jg [0,bif bif true then !Ye (Klb a) 0 b else false then 10 else 0]
def Kdt (a:J9×Nat) (b:List Ev):=Jtk a b==0
def Kdr (a:J9×Nat) (b:List Ev):=Kdt a b=true
def Kbe (a:J9×Nat) (b:List Ev) (c:Bt):=Jg [Jtk a b,bif bif Kdt a b then Kq9 c else false then 10 else 0]
theorem Uct:Ok Tryz.prog 16 Kih:=J1g K9n Tryz.f16 (U6 (l:=([(74,Tryz.f74)]:List (Nat×Func))) (List.forall_mem_cons.2 ⟨by kernel_rfl,by simp⟩)) (fun xx=>Y4 (Kj7 (Xi xx.1 xx.2.1))) (fun xx=>fun f id=>if f=74 then some (J8x xx.1 xx.2.1) else none) fun xx=>by
 obtain⟨(l:List Ev),(s:ByteArray),_⟩:=xx
 refine(by kernel_rfl:(lOk l→Br (decide (1000<Ln l)) ((Z41∧Jb2∧2≤1000000)∧Br true (Sf true ([]=Ja5 l s∧Jg [5,0]=Zs l s)) (Tw False)) (∃(x:(List Ev×List Ev×List Reg)×Nat),Si (Ln l) (0=Nc x.2∧Sf l (Sf s (Kfk x)))∧Klk x l∧∀(x:J9×Nat),Kpu x l→Br (decide (Nc x.2<Ln l)) (Tw (Z34 x l)∧J35 x l∧Br (Jzb x l) (Z50 x∧((Kdr x l→False)∧(Kdr x l→Y1)∧2≤1000000)∧Br (Kbe x l s !=0) (Sf true ([]=Ja5 l s∧Kbe x l s=Zs l s)) (Tw False)) (Z50 x∧∃(y:(List Ev×List Ev×List Reg)×Nat),Si (Ln l) (Jpb x y∧Sf l (Sf s (J3m x l y)))∧Ko3 y l x)) (((true=true→J93 x)∧(true=true→K17 x)∧2≤1000000)∧Br (K0g x s !=0) (Sf true ([]=Ja5 l s∧K0g x s=Zs l s)) (J93 x∧(List.length x.1.2.1≤1000000∧(∀(x_1:Ev),x_1∈x.1.2.1→K17 x∧Jhn (Klb x) x_1)∧List.length (Ko2 x s)≤1000000∧∀(x_1:Ev),x_1∈Ko2 x s→J24 x_1)∧∃(x_1:Nat),(Ln (K0u x s)=Ln (Xi l s)∧0=Nc x_1∧K0u x s=J9q x_1 l s)∧x_1≤List.length (Xi l s)∧∀(x:Nat),x≤List.length (Xi l s)→Br (decide (Nc x<Ln (Xi l s))) ((Z20 x∧Tw (Bd (Nc x) (Ln (J9q x l s))))∧Z20 x∧∃(y:Nat),Si (Ln (Xi l s)) (Vm x y∧List.set (J9q x l s) x (Nc x+1,(List.getD (J9q x l s) x Di).2)=J9q y l s)∧y≤List.length (Xi l s)∧List.length (Xi l s)-y<List.length (Xi l s)-x) (Sf true (J9q x l s=Ja5 l s∧0=Zs l s))))))=_).mp ?_
 delta Z20 Z34 Z41 Z50 Vm Jpb Jm1 Di J93 Kf6 Kf5 J5w Do J9q J24 Vz Y1 Kfk Kq9 Jb2 Klr Klq Kpu Klk Klb K17 Ko3 Ko2 K0u K0g Jhl Jtk J4a J38 Kdt Kdr J35 Jzb Kbe J3m Br Iw Bd Tw Sf Si Ln Nc B0 E2
 intro hl
 refine⟨fun h=> ?_,fun h=> ?_⟩
 ·have e:Ja l=(Y7,0,5):=by unfold Ja;rw[if_pos (by have:=of_decide_eq_true h;omega)]
  have eE:Zs l s=5:=by unfold Zs;rw[e];rfl
  refine⟨⟨fun h=>(by cases h),fun h=>(by cases h),by decide⟩,fun _=>⟨rfl, ?_,eE.symm⟩,fun h=>(by cases h)⟩
  unfold Ja5;rw[if_neg (by rw[eE];decide)]
 have hn:l.length≤1000:=by have:=of_decide_eq_false h;omega
 have e0:Ja l=Zm Y7 l:=by unfold Ja;rw[if_neg (by omega)]
 refine⟨(Y7,(0:Nat)),⟨rfl,rfl,rfl,rfl,rfl,rfl,rfl⟩,⟨Xx,rfl,Nat.zero_le _,hn,e0.symm⟩,fun(x:J9×Nat) hx=>⟨fun h1=> ?_,fun h1=> ?_⟩⟩
 ·obtain⟨g,k⟩:=x
  obtain⟨hi,hk,hk2,_,hrun⟩:=hx
  dsimp only at hi hk hk2 hrun
  have hlt:k<l.length:=by simpa using h1
  rw[Jq (d:=ev0) hlt,Zm] at hrun
  have hz:=hl.2 _ (Je (d:=ev0) hlt)
  have hev:(0,({data:={toList:=[]}}:ByteArray),([]:List ByteArray),([]:List Int),({data:={toList:=[]}}:ByteArray))=ev0:=rfl
  simp only[hev,Prod.eta]
  refine⟨by omega,⟨hi.ok,(show g.1.length<1000 by omega),hz⟩,fun h2=> ?_,fun h2=> ?_⟩
  ·have n2:K3 g (l.getD k ev0)≠0:=bne_iff_ne.1 h2
   rw[if_neg n2] at hrun
   have b2:(K3 g (l.getD k ev0)==0)=false:=beq_eq_false_iff_ne.2 n2
   have eE:Zs l s=K3 g (l.getD k ev0):=by
    unfold Zs
    rw[←hrun]
    simp only[b2,cond_false]
    unfold Jg
    rw[if_neg n2]
   simp only[b2,cond_false]
   refine⟨by omega,⟨fun h=>(nomatch h),fun h=>(nomatch h),by decide⟩,fun _=>⟨trivial, ?_, ?_⟩,fun h=> ?_⟩
   ·unfold Ja5;rw[if_neg (by rw[eE];exact n2)]
   ·rw[eE];unfold Jg;rw[if_neg n2]
   ·have h:=bne_eq_false_iff_eq.1 h
    unfold Jg at h;rw[if_neg n2] at h;exact absurd h n2
  ·have z2:K3 g (l.getD k ev0)=0:=bne_eq_false_iff_eq.1 h2
   rw[if_pos z2] at hrun
   have ea:Vi g (l.getD k ev0)=Ho g (l.getD k ev0):=by unfold Vi;rw[if_pos z2]
   rw[ea]
   have hk3:(Ho g (l.getD k ev0)).1.length=g.1.length+1:=Xy
   exact⟨by omega,(Ho g (l.getD k ev0),k+1),by simp,⟨Jb0 hi (by(first|omega|dsimp only;omega)) z2,by(first|omega|dsimp only;omega),by(first|omega|dsimp only;omega),hn,hrun⟩,by(first|omega|dsimp only;omega)⟩
 ·obtain⟨g,k⟩:=x
  obtain⟨hi,hk,hk2,_,hrun⟩:=hx
  dsimp only at hi hk hk2 hrun
  have hlt:¬k<l.length:=by simpa using h1
  have:k=l.length:=by omega
  rw[this,List.drop_length,Zm] at hrun
  simp only[Prod.eta]
  have eR:J7 l=Ko g.2.2:=by unfold J7;rw[←hrun];rfl
  have eE:Zs l s=Jg [0,bif bif true then !Ye (Ko g.2.2) 0 s else false then 10 else 0]:=by
   unfold Zs;rw[←hrun,eR];rfl
  have eL:Xi l s=g.2.1.filter fun e=>abS (Ko g.2.2) e s:=by unfold Xi;rw[←hrun,eR]
  rw[←eE]
  have hA:Jm6 g:=by have:=J08 (l:=l);rw[←hrun] at this;exact this
  have nE:g.1.length≤1000:=hi.ok.nE
  have nC:g.2.1.length≤g.1.length:=hi.ok.nC
  have hsub:∀e∈g.2.1,e∈l:=by have:=Jr8 (l:=l);rw[←hrun] at this;exact this
  have hfl:=List.length_filter_le (fun e=>abS (Ko g.2.2) e s) g.2.1
  have hL:(Xi l s).length≤1000:=by rw[eL];omega
  refine⟨⟨fun _=>hi.ok,fun _=>Fq hi.ok,by decide⟩,fun h2=>⟨trivial, ?_,rfl⟩,fun h2=>⟨hi.ok,⟨Nat.le_trans nC (by omega),fun x hx=>⟨Fq hi.ok,Kh3 hi hA hx⟩,Nat.le_trans hfl (by omega),fun x hx=> ?_⟩,(0:Nat),⟨?_,rfl, ?_⟩,Nat.zero_le _,fun(k:Nat) hk=>⟨fun h3=> ?_,fun h3=> ?_⟩⟩⟩
  ·unfold Ja5;rw[if_neg (bne_iff_ne.1 h2)]
  ·have:=hl.2 x (hsub x (List.mem_filter.1 hx).1)
   exact⟨this.1,this.2.1⟩
  ·rw[eL,List.map_id']
  ·rw[eL,List.map_id'];rfl
  ·have hlt:k<(Xi l s).length:=by simpa using h3
   have hev:(0,({data:={toList:=[]}}:ByteArray),([]:List ByteArray),([]:List Int),({data:={toList:=[]}}:ByteArray))=ev0:=rfl
   rw[hev,Jvd hlt]
   refine⟨⟨by omega, ?_⟩,by omega,(k+1:Nat),⟨trivial,by simp,Jvc hlt⟩,by omega,by omega⟩
   rw[List.length_append,D5,List.length_take,List.length_drop]
   omega
  ·have hlt:¬k<(Xi l s).length:=by simpa using h3
   have:k=(Xi l s).length:=by omega
   have z:Zs l s=0:=bne_eq_false_iff_eq.1 h2
   refine⟨trivial, ?_,z.symm⟩
   unfold Ja5
   rw[if_pos z,this,List.take_length,List.drop_length,List.append_nil]
abbrev Ueb:=K9n.add Uct
namespace Cmp
open Go.Sx
set_option maxHeartbeats 20000000
def Kzf:Con:={args:=[.val true La, .val true La],ress:=[I],owns:=[],pre:=fun(x,y,_)=>[-1000000000≤x.1∧x.1≤1000000000,-1000000000≤y.1∧y.1≤1000000000],spec:=fun(x,y,_)=>(x.1-y.1,())}
theorem ok98 [Sx.Dr]:Ok Tryz.prog 98 Kzf:=okW W82 Tryz.f98 na fun xx=>by
 obtain⟨⟨(a:Int),(b:Int)⟩,⟨(c:Int),(d:Int)⟩,_⟩:=xx
 refine(by kernel_rfl:((-1000000000)≤a∧a≤1000000000→(-1000000000)≤c∧c≤1000000000→Iw (a-c)∧a-c=a-c)=_).mp ?_
 delta Iw
 intro h1 h2
 exact⟨by omega,rfl⟩
abbrev W83 [Sx.Dr]:=W82.add ok98
end Cmp
set_option maxHeartbeats 20000000
abbrev Spn:=Int×Int
def J4j:={x:Spn// -1000000000≤x.1∧x.1≤1000000000}
instance:Inhabited J4j:=⟨⟨(0,0),by decide,by decide⟩⟩
def Js0 (x:J4j):List Value:=[.int .i64 x.1.1, .int .i64 x.1.2]
def Jw2 (x y:J4j):Int:=x.1.1-y.1.1
theorem Jfj {a b:J4j}:Proofs.ltOf Jw2 a b=false↔b.1.1≤a.1.1:=by
 unfold Proofs.ltOf Jw2
 simp only[decide_eq_false_iff_not]
 omega
theorem Jof (a b:J4j):Proofs.ltOf Jw2 a b=true↔a.1.1<b.1.1:=by
 unfold Proofs.ltOf Jw2
 simp only[decide_eq_true_iff]
 omega
theorem Ubf:Sort.SWO (Proofs.ltOf Jw2) where
 irrefl x:=Jfj.2 (Int.le_refl _)
 trans x y z h1 h2:=(Jof x z).2 (Int.lt_trans ((Jof x y).1 h1) ((Jof y z).1 h2))
 ntrans x y z h1 h2:=Jfj.2 (Int.le_trans (Jfj.1 h2) (Jfj.1 h1))
theorem Jke (M:Nat→Prop) (w:World) (x:J4j) (cs:List Value):Rep M w La x.1 cs↔cs=Js0 x:=by
 constructor
 ·rintro⟨a,b,rfl,ha,hb⟩
  have ha:a=[.int .i64 x.1.1]:=ha
  have hb:b=[.int .i64 x.1.2]:=hb
  subst ha;subst hb;rfl
 ·rintro rfl
  exact⟨_,_,rfl,rfl,rfl⟩
theorem Jw1 (w:World) (x y:J4j) (hG:Sx.Good Tryz.prog w):Calls Tryz.prog 98 #[.agg (Js0 x).toArray, .agg (Js0 y).toArray] w fun e w'=>e= .returned (.int .i64 (Jw2 x y))∧RowKit.Below w.heap.size w w'∧w.drawn≤w'.drawn:=by
 have h:=(@Cmp.ok98 .on).2.2.2 rfl (x.1,y.1,()) (fun _=>False) (fun _=>False) w [.agg (Js0 x).toArray, .agg (Js0 y).toArray] (fun b hb=>by rcases hb with hb|hb<;>exact hb.elim) hG.on ⟨x.2,y.2⟩ ⟨_,_,rfl,⟨Js0 x,rfl,(Jke _ _ _ _).2 rfl⟩,_,_,rfl,⟨Js0 y,rfl,(Jke _ _ _ _).2 rfl⟩,rfl⟩
 refine h.mono ?_
 rintro e w' ⟨M',vs,rfl,hb,_,_,hr⟩
 obtain⟨v,vs',rfl,⟨cs,rfl,hc⟩,hr⟩:=hr
 have hc:cs=[.int .i64 (Jw2 x y)]:=hc
 have hr:vs'=[]:=hr
 subst hc;subst hr
 exact⟨rfl,@Sx.Below.kit .on _ _ _ hb,hb.dr⟩
theorem J1t (w:World):(isAgg 117).run Tryz.prog w= .ok true w:=by kernel_rfl
theorem Juz (w:World):(Go.sizeOf 117).run Tryz.prog w= .ok 2 w:=by kernel_rfl
theorem Khm (g cap:Nat) (d:Array J4j) (w:World) (hH:Sort.HoldsK Js0 2 w g 0 d) (hg:g<w.heap.size) (hd:d.size<4611686018427387904) (hc:Proofs.CmpLays Tryz.prog 98 #[] Js0 2 Jw2 g 0 d.size w):
  Calls Tryz.prog 97 #[.slice (some ⟨g,0,none⟩) d.size cap, .func (.func 98) #[] #[]] w fun e w'=>e= .returned (.tuple #[])∧∃d' n os,Sort.PermIn 0 d.size d d'∧Sort.SortedIn (Proofs.ltOf Jw2) 0 d.size d'∧w'=Proofs.sortWorldK Js0 2 w g 0 n d' os:=by
 have eg:∀args w,(callFunc 98 args).run Tryz.prog w= .ok (.enter 98 args) w:=Proofs.enters_of Tryz.func98 (by kernel_rfl) rfl
 exact Proofs.AnyQ.slices_SortFunc Proofs.Tryz.sortS 2 J1t Juz Js0 (fun _=>rfl) (fun x v hv=>by simp[Js0] at hv;rcases hv with rfl|rfl<;>rfl) Jw2 Ubf 98 #[] g 0 cap d w eg hc hH hg hd
theorem Jnu (w:World):Calls Tryz.prog 97 #[.slice none 0 0, .func (.func 98) #[] #[]] w fun e w'=>e= .returned (.tuple #[])∧w'=w:=
 Proofs.AnyF.slices_SortFunc_none Proofs.Tryz.sortS none 0 _ w
def Kn1 (l:List Spn):Prop:=(∀x∈l,-1000000000≤x.1∧x.1≤1000000000)∧l.length≤1000000
def J6v (xs ys:List Spn):Prop:=ys.Perm xs∧ys.Pairwise fun a b=>a.1≤b.1
theorem Jp8 {p:Spn→Prop}:∀l:List Spn,(∀x∈l,p x)→∃zs:List {x:Spn//p x},l=zs.map Subtype.val
 |[],_=>⟨[],rfl⟩
 |x::l,h=>by
  obtain⟨zs,e⟩:=Jp8 l fun y hy=>h y (List.mem_cons_of_mem _ hy)
  exact⟨⟨x,h x (List.mem_cons_self ..)⟩::zs,by rw[List.map_cons,←e]⟩
theorem Juu:Jzj Tryz.prog 97 {T:=117,s:=La,g:=98,pre:=Kn1,f:=id,rel:=some J6v}:=
 J0z (s:=La) (T:=117) (β:=J4j) (k:=2) Subtype.val Js0 (fun _=>rfl) rfl Jke Jw2 Kn1 id J6v Khm Jnu Jw1
  (fun xs h=>Jp8 xs h.1)
  (fun xs ys hp hs=>⟨hp.map _,List.pairwise_map.2 (hs.imp fun h=>Jfj.1 h)⟩)
  (fun xs h=>h.2)
def Kii:Con:={args:=[],ress:=[],owns:=[],pre:=fun _=>[False],spec:=fun _=>(),srt:=some {T:=117,s:=La,g:=98,pre:=Kn1,f:=id,rel:=some J6v}}
theorem Ubj:Ok Tryz.prog 97 Kii:=⟨⟨Tryz.f97,by kernel_rfl,by kernel_rfl,by kernel_rfl⟩,fun z hz=>(by cases hz;exact Juu),fun F hF=>(by cases hF),fun h=>by cases h⟩
abbrev K9m:=Ueb.add Ubj
def J75:Con:={args:=[.val false (.list 188 X4), .fn [(true,X4)] (true,La)],ress:=[(false, .list 117 La)],owns:=[true],pre:=fun(l,(q,_),_)=>[l.length≤1000000,∀x∈l,Up (q (x,()))],spec:=fun(l,(_,f),_)=>(l.map fun x=>f (x,()),())}
def Kgb (a:Out×Unit→Spn) (b:Nat) (c:List Out):=List.map (fun(x:Out)=>a (x,PUnit.unit)) (List.take b c)
theorem Ubn:Ok Tryz.prog 93 J75:=okW K9m Tryz.f93 (fun xx=>Y4 (Jbz 188 117 X4 xx.1 (true,La) true xx.2.1.1 xx.2.1.2)) fun xx=>by
 obtain⟨(l:List Out),⟨(q:Out×Unit→List Prop),(f:Out×Unit→Spn)⟩,_⟩:=xx
 refine(by kernel_rfl:(Z55 l→J5u l q→∃(x:Nat),Si (Ln l) (0=Nc x∧Sf l ((fun(x:Out×PUnit)=>q x)=q∧(fun(x:Out×PUnit)=>f x)=f∧List.length (Kgb f x l)=0))∧x≤List.length l∧∀(x:Nat),x≤List.length l→Br (Jrk x l) (Z93 x l∧(J5o q l x∧(List.length (Kgb f x l)+1)*16≤140737488355328)∧Z20 x∧∃(y:Nat),Si (Ln l) (Vm x y∧Sf l ((fun(x:Out×PUnit)=>q x)=q∧(fun(x:Out×PUnit)=>f x)=f∧Kgb f x l++[E2 (f (J5p l x))]=Kgb f y l))∧Jz1 y l x) (Kgb f x l=List.map (fun(x:Out)=>f (x,PUnit.unit)) l))=_).mp ?_
 delta Z20 Z55 Z93 Jrk Vm Jgp Jyi Jz4 Jyh J26 Kgb Jz1 J9p J5u Ke1 J5p J5o Br Iw Bd Tw Sf Si Ln Nc B0 E2
 intro hb hq
 refine⟨(0:Nat),⟨rfl,rfl,rfl,rfl,rfl,by simp⟩,Nat.zero_le _,fun(k:Nat) hk=>⟨fun h=> ?_,fun h=> ?_⟩⟩
 ·have hlt:k<l.length:=by simpa using h
  refine⟨by omega,⟨hq (l.getD k Fi) (Je hlt),by simp only[List.length_map,List.length_take];omega⟩,by omega,(k+1:Nat),⟨rfl,by simp,rfl,rfl,rfl, ?_⟩,by omega,by omega⟩
  rw[←Km (d:=Fi) hlt,List.map_append];rfl
 ·have hlt:¬k<l.length:=by simpa using h
  rw[List.take_of_length_le (by omega)]
abbrev K9l:=K9m.add Ubn
def Udk:Con:={args:=[.val true X4, .ref 9 .str],ress:=[Bo],owns:=[],pre:=fun _=>[],spec:=fun(x,s,_)=>(x.2.1.toList==s.toList,())}
theorem Ubl:Ok Tryz.prog 95 Udk:=okW K9l Tryz.f95 na fun xx=>by
 obtain⟨⟨(n:ByteArray),(f:ByteArray),⟨(a:Int),(b:Int)⟩,(p:Int)⟩,(s:ByteArray),_⟩:=xx
 refine(by kernel_rfl:(Lb f s=Lb f s)=_).mp ?_
 delta Lb
 rfl
abbrev K9k:=K9l.add Ubl
def Udj:Con:={args:=[.val true X4],ress:=[(true,La)],owns:=[],pre:=fun _=>[],spec:=fun(x,_)=>(x.2.2.1,())}
theorem Ubk:Ok Tryz.prog 96 Udj:=okW K9k Tryz.f96 na fun xx=>by
 obtain⟨⟨(n:ByteArray),(f:ByteArray),⟨(a:Int),(b:Int)⟩,(p:Int)⟩,_⟩:=xx
 refine(by kernel_rfl:((a,b)=(a,b))=_).mp ?_
 rfl
abbrev K9j:=K9k.add Ubk
def avL (st:Int):List Spn→Int×Int→Int×Int
 |[],a=>a
 |s::l,(n,last)=>avL st l (n-max 0 (min s.2 st-max s.1 last),max last (min s.2 st))
theorem J8s {st:Int} {a b:Spn} {l:List Spn} {p:Int×Int} (h:a.1=b.1):avL st (a::b::l) p=avL st (b::a::l) p:=by
 obtain⟨n,last⟩:=p
 simp only[avL]
 congr 1
 refine Prod.ext ?_ ?_<;>dsimp only<;>omega
theorem Jqw {st:Int} {x:Spn} {bs:List Spn}:∀{us:List Spn} {p:Int×Int},(∀y∈us,y.1=x.1)→avL st (us++x::bs) p=avL st (x::(us++bs)) p
 |[],_,_=>rfl
 | y :: us, (n, last), h => by
  have h1:=Jqw (st:=st) (x:=x) (bs:=bs) (us:=us) (p:=(n-max 0 (min y.2 st-max y.1 last),max last (min y.2 st))) fun z hz=>h z (List.mem_cons_of_mem _ hz)
  have e:avL st (y::(us++x::bs)) (n,last)=avL st (y::x::(us++bs)) (n,last):=by
   simp only[avL] at h1⊢
   exact h1
  rw[List.cons_append,e,J8s (h y (List.mem_cons_self ..)),List.cons_append]
theorem Jxu {st:Int}:∀{xs ys:List Spn} {p:Int×Int},ys.Perm xs→(xs.Pairwise fun a b=>a.1≤b.1)→(ys.Pairwise fun a b=>a.1≤b.1)→avL st ys p=avL st xs p
 |[],ys,p,h,_,_=>by rw[List.Perm.eq_nil h]
 | x :: xs, ys, (n, last), h, h1, h2 => by
  have hx:x∈ys:=h.mem_iff.2 (List.mem_cons_self ..)
  obtain⟨us,bs,rfl⟩:=List.append_of_mem hx
  have h1:=List.pairwise_cons.1 h1
  have h2':=List.pairwise_append.1 h2
  have hk:∀y∈us,y.1=x.1:=fun y hy=>by
   have a1:=h2'.2.2 y hy x (List.mem_cons_self ..)
   have:y∈x::xs:=h.mem_iff.1 (List.mem_append_left _ hy)
   rcases List.mem_cons.1 this with rfl|hm
   ·rfl
   ·have:=h1.1 y hm
    omega
  rw[Jqw hk]
  have hp:(us++bs).Perm xs:=((List.perm_middle (a:=x) (l₁:=us) (l₂:=bs)).symm.trans h).cons_inv
  have hs:(us++bs).Pairwise fun a b=>a.1≤b.1:=List.Pairwise.sublist (List.Sublist.append (List.Sublist.refl _) (List.sublist_cons_self ..)) h2
  show avL st (us++bs) _=avL st xs _
  exact Jxu hp h1.2 hs
def J7i (x:Spn):List Spn→List Spn
 |[]=>[x]
 |y::r=>if x.1≤y.1 then x::y::r else y::J7i x r
def J00:List Spn→List Spn
 |[]=>[]
 |x::r=>J7i x (J00 r)
theorem Jfp (x:Spn):∀l,(J7i x l).Perm (x::l)
 |[]=> .refl _
 |y::r=>by
  simp only[J7i]
  split
  ·exact .refl _
  ·exact((Jfp x r).cons y).trans (.swap x y r)
theorem Jhx:∀l,(J00 l).Perm l
 |[]=> .refl _
 |x::r=>(Jfp x _).trans ((Jhx r).cons x)
theorem Jfo {x:Spn}:∀{l:List Spn},(l.Pairwise fun a b=>a.1≤b.1)→(J7i x l).Pairwise fun a b=>a.1≤b.1
 |[],_=>by simp[J7i]
 | y :: r, h => by
  have h0:=List.pairwise_cons.1 h
  simp only[J7i]
  split
  ·rename_i hlt
   refine List.pairwise_cons.2 ⟨fun z hz=> ?_,h⟩
   rcases List.mem_cons.1 hz with rfl|hz
   ·exact hlt
   ·exact Int.le_trans hlt (h0.1 z hz)
  ·rename_i hlt
   refine List.pairwise_cons.2 ⟨fun z hz=> ?_,Jfo h0.2⟩
   rcases List.mem_cons.1 ((Jfp x r).mem_iff.1 hz) with rfl|hz
   ·omega
   ·exact h0.1 z hz
theorem Jc7:∀{l:List Spn},(J00 l).Pairwise fun a b=>a.1≤b.1
 |[]=> .nil
 |x::r=>Jfo Jc7
def Jlw (X:List Out) (s:ByteArray):List Spn:=(X.filter fun x=>x.2.1.toList==s.toList).map fun x=>x.2.2.1
def avN (st:Int) (X:List Out) (s:ByteArray):Int:=(avL st (J00 (Jlw X s)) (st,0)).1
def avE (l:List Ev) (s:ByteArray):Int:=Jg [opE l [s],bif (J7 l).2.1==0 then 6 else 0]
def avP (l:List Ev) (s:ByteArray):Int×Int:=if avE l s=0 then J44 (avN (J7 l).2.1 (J7 l).2.2.2.2.2.1 s) (J7 l).2.1 else(0,0)
def Kzj:Con:={args:=[.val false (.list 67 sEv),aS],ress:=[(true,La),I],owns:=[],pre:=fun(l,_)=>[lOk l],spec:=fun(l,s,_)=>(avP l s,avE l s,())}
abbrev Kzr (l:List Ev) (s:ByteArray):Ann:={X:=Nat×Int×Int×List Spn,σ:=fun(k,n,last,ys)=>⟨14,[(4, .one (.ptr 2 0)),(6, .one (.ptr 9 0)),(9, .one (.int .i64 n)),(11, .one (.int .i64 last)),(43, .one (.sl 13)),(44, .one (.int .i64 ys.length)),(45, .one (.int .i64 k))],[(2, .box 54 [.int .i64 0, .int .i64 0]),(9, .box 105 [.int .i64 (J7 l).1, .int .i64 (J7 l).2.1, .sl 4, .sl 5, .sl 6, .sl 7, .sl 8]),(4, .imm 127 De (J7 l).2.2.1),(5, .imm 130 Hj (J7 l).2.2.2.1),(6, .imm 155 Dm (J7 l).2.2.2.2.1),(7, .imm 188 X4 (J7 l).2.2.2.2.2.1),(8, .imm 235 Zl (J7 l).2.2.2.2.2.2),(13, .own 117 La ys)]⟩,inv:=fun(k,n,last,ys)=>k≤ys.length∧J6v (Jlw (J7 l).2.2.2.2.2.1 s) ys∧(0≤last∧last≤(J7 l).2.1)∧((J7 l).2.1-last≤n∧n≤(J7 l).2.1)∧avL (J7 l).2.1 (ys.drop k) (n,last)=avL (J7 l).2.1 ys ((J7 l).2.1,0),mu:=fun(k,_,_,ys)=>ys.length-k}
def K6w (a:Nat×Int×Int×List Spn) (b:List Ev):=min (List.getD a.2.2.2 a.1 (0,0)).2 (J7 b).2.1
def K5z (a:List Ev) (b:Bt):=Jg [opE a [b],bif (J7 a).2.1==0 then 6 else 0]
def Kqp (a:Bt) (b:List Ev):=List.filter (fun(x:Out)=>List.beq (ByteArray.toList x.2.1) (ByteArray.toList a)) (J7 b).2.2.2.2.2.1
def K2c (a:Bt) (b:List Ev):=List.map (fun(x:Out)=>x.2.2.1) (Kqp a b)
def K1z (a:Nat×Int×Int×List Spn) (b:List Ev):=K6w a b-max (List.getD a.2.2.2 a.1 (0,0)).1 a.2.2.1
def K00 (a:Nat×Int×Int×List Spn) (b:List Ev):=a.2.1-max 0 (K1z a b)
def Ken (a:Nat×Int×Int×List (Int×Int)) (b:List Ev) (c:Bt):=a.1≤List.length a.2.2.2∧J6v (Jlw (J7 b).2.2.2.2.2.1 c) a.2.2.2∧(0≤a.2.2.1∧a.2.2.1≤(J7 b).2.1)∧((J7 b).2.1-a.2.2.1≤a.2.1∧a.2.1≤(J7 b).2.1)∧avL (J7 b).2.1 (List.drop a.1 a.2.2.2) (a.2.1,a.2.2.1)=avL (J7 b).2.1 a.2.2.2 ((J7 b).2.1,0)
theorem Ucp:Ok Tryz.prog 27 Kzj:=J1g K9j Tryz.f27 (U6 (l:=([]:List (Nat×Func))) (by simp)) (fun xx=>Y4 (Kzr xx.1 xx.2.1)) (fun xx=>fun _=>na ()) fun xx=>by
 obtain⟨(l:List Ev),(s:ByteArray),_⟩:=xx
 refine(by kernel_rfl:(lOk l→(lOk l∧1≤1000000)∧2≤1000000∧Br (K5z l s !=0) (Sf true ((0,0)=avP l s∧K5z l s=avE l s)) ((List.length (J7 l).2.2.2.2.2.1≤1000000∧(∀(x:Out),x∈(J7 l).2.2.2.2.2.1→True)∧List.length (Kqp s l)≤1000000∧∀(x:Out),x∈Kqp s l→True)∧Kn1 (K2c s l)∧∀(ys:List (Int×Int)),J6v (K2c s l) ys→∃(x:Nat×Int×Int×List (Int×Int)),((J7 l).2.1=x.2.1∧0=x.2.2.1∧Ln ys=Ln x.2.2.2∧0=Nc x.1∧Si 0 (Si 0 ((J7 l).1=(J7 l).1∧(J7 l).2.1=(J7 l).2.1∧(J7 l).2.2.1=(J7 l).2.2.1∧Knl l∧Kni l∧Kng l∧Knf l∧ys=x.2.2.2)))∧Ken x l s∧∀(x:Nat×Int×Int×List Spn),x.1≤List.length x.2.2.2∧J6v (Jlw (J7 l).2.2.2.2.2.1 s) x.2.2.2∧(0≤x.2.2.1∧x.2.2.1≤(J7 l).2.1)∧((J7 l).2.1-x.2.2.1≤x.2.1∧x.2.1≤(J7 l).2.1)∧avL (J7 l).2.1 (List.drop x.1 x.2.2.2) (x.2.1,x.2.2.1)=avL (J7 l).2.1 x.2.2.2 ((J7 l).2.1,0)→Br (decide (Nc x.1<Ln x.2.2.2)) (Tw (Bd (Nc x.1) (Ln x.2.2.2))∧(Iw (K1z x l)∧Iw (K00 x l))∧Iw (Nc x.1+1)∧∃(y:Nat×Int×Int×List (Int×Int)),(K00 x l=y.2.1∧max x.2.2.1 (K6w x l)=y.2.2.1∧Ln x.2.2.2=Ln y.2.2.2∧Nc x.1+1=Nc y.1∧Si 0 (Si 0 (Si (J7 l).1 (Si (J7 l).2.1 ((J7 l).2.2.1=(J7 l).2.2.1∧Knl l∧Kni l∧Kng l∧Knf l∧x.2.2.2=y.2.2.2)))))∧Ken y l s∧List.length y.2.2.2-y.1<List.length x.2.2.2-x.1) (((0≤x.2.1∧x.2.1≤1000000000000)∧1≤(J7 l).2.1∧(J7 l).2.1≤1000000000000)∧Sf true (E2 (J44 x.2.1 (J7 l).2.1)=avP l s∧0=avE l s))))=_).mp ?_
 delta Knl Kni Kng Knf K6w K5z Kqp K2c K1z K00 Ken Br Iw Bd Tw Sf Si Ln Nc E2
 intro hl
 have hr:=Jcd (l:=l)
 have hz:Jlw (J7 l).2.2.2.2.2.1 s=List.map (fun x=>x.2.2.1) (List.filter (fun x=>x.2.1.toList.beq s.toList) (J7 l).2.2.2.2.2.1):=rfl
 rw[←hz]
 have nX:(J7 l).2.2.2.2.2.1.length≤16:=hr.nX
 have hX:∀x∈Jlw (J7 l).2.2.2.2.2.1 s,Jm5 x:=fun x hx=>by
  obtain⟨y,hy,rfl⟩:=List.mem_map.1 hx
  exact(hr.out y (List.mem_filter.1 hy).1).span
 have hlen:(Jlw (J7 l).2.2.2.2.2.1 s).length≤16:=by
  unfold Jlw
  rw[List.length_map]
  exact Nat.le_trans (List.length_filter_le _ _) nX
 have hst:=hr.st
 have htk:=hr.tk
 refine⟨⟨hl,by decide⟩,by decide,fun h=> ?_,fun h=>⟨⟨Nat.le_trans nX (by decide),fun _ _=>trivial,Nat.le_trans (List.length_filter_le _ _) (Nat.le_trans nX (by decide)),fun _ _=>trivial⟩,⟨fun x hx=> ?_,by omega⟩,fun ys hy=>⟨((0:Nat),(J7 l).2.1,0,ys),by simp,⟨Nat.zero_le _,hy,by(first|omega|dsimp only;omega),by(first|omega|dsimp only;omega),rfl⟩,fun(x:Nat×Int×Int×List Spn) hk=>⟨fun h1=> ?_,fun h1=> ?_⟩⟩⟩⟩
 ·have h:avE l s≠0:=bne_iff_ne.1 h
  refine⟨rfl, ?_,rfl⟩
  unfold avP;rw[if_neg h]
 ·have:=hX x hx
  have h1:=this.lo
  have h2:=this.mid
  have h3:=this.hi
  omega
 ·obtain⟨k,n,last,ys⟩:=x
  obtain⟨k1,k2,k3,k4,k5⟩:=hk
  have hlt:k<ys.length:=by simpa using h1
  have hx:=hX _ (k2.1.mem_iff.1 (Je (d:=((0:Int),(0:Int))) hlt))
  have x1:=hx.lo
  have x2:=hx.mid
  have x3:=hx.hi
  dsimp only at k1 k2 k3 k4 k5
  rw[Jq (d:=((0:Int),(0:Int))) hlt,avL] at k5
  have hln:ys.length≤16:=by rw[k2.1.length_eq];exact hlen
  dsimp only
  generalize ys.getD k (0,0)=y at x1 x2 x3 k5⊢
  obtain⟨a,b⟩:=y
  dsimp only at x1 x2 x3 k5⊢
  refine⟨by omega,by omega,by omega,(k+1,n-max 0 (min b (J7 l).2.1-max a last),max last (min b (J7 l).2.1),ys),by simp,⟨by(first|omega|dsimp only;omega),k2,by(first|omega|dsimp only;omega),by(first|omega|dsimp only;omega),k5⟩,by(first|omega|dsimp only;omega)⟩
 ·obtain⟨k,n,last,ys⟩:=x
  obtain⟨k1,k2,k3,k4,k5⟩:=hk
  have hlt:¬k<ys.length:=by simpa using h1
  dsimp only at k1 k2 k3 k4 k5
  have e:k=ys.length:=by omega
  rw[e,List.drop_length,avL] at k5
  have h:avE l s=0:=bne_eq_false_iff_eq.1 h
  have hs:(J7 l).2.1≠0:=fun h0=>by
   have:=(He h).2
   rw[h0] at this
   exact absurd this (by decide)
  have e2:avN (J7 l).2.1 (J7 l).2.2.2.2.2.1 s=n:=by
   unfold avN
   rw[Jxu (k2.1.trans (Jhx _).symm) Jc7 k2.2] at k5
   rw[←k5]
  refine⟨⟨by(first|omega|dsimp only;omega),by omega⟩,rfl, ?_,h.symm⟩
  unfold avP
  rw[if_pos h,e2]
abbrev K9i:=K9j.add Ucp
def J2d:Con:={args:=[aI],ress:=[tS],owns:=[],pre:=fun(n,_)=>[-(10^17:Int)<n,n<10^18],spec:=fun(n,_)=>(Vd n,())}
def Jm0:=10^18
def Kfq (a:Int):=a<Jm0
def Jmz:= -10^17
def Kfh (a:Int):=Jmz<a
def Ko1 (a:Int):=Kfh a∧Kfq a
theorem Kx1:Ok Tryz.prog 117 J2d:=okW K9i Tryz.f117 na fun xx=>by
 obtain⟨(n:Int),_⟩:=xx
 refine(by kernel_rfl:(Kfh n→Kfq n→(17≤18∧Ko1 n)∧Vd n=Vd n)=_).mp ?_
 delta Jm0 Kfq Jmz Kfh Ko1
 intro h1 h2
 exact⟨⟨by decide,h1,h2⟩,rfl⟩
abbrev K9h:=K9i.add Kx1
def Jvm (s:ByteArray) (j:Nat):ByteArray:=bs (List.replicate j 48++Lib.itoa (Jg2 s))
abbrev J2q (s:ByteArray):Nat→Option Ann:=fun id=>if id=0 then some {X:=Nat×Int,σ:=fun(k,x)=>⟨0,[(0, .one (.str s)),(3, .one (.int .i64 x)),(4, .one (.int .i64 k))],[]⟩,inv:=fun(k,x)=>k≤s.size∧(0≤x∧x<9999721)∧Jto (s.data.toList.drop k) x=Jg2 s,mu:=fun(k,_)=>s.size-k}
 else if id=2 then some {X:=Nat,σ:=fun j=>⟨0,[(5, .one (.str (Jvm s j)))],[]⟩,inv:=fun j=>j+(Lib.itoa (Jg2 s)).length≤7,mu:=fun j=>7-j} else none
def Ktj (a:Nat) (b:Bt):=a+List.length (Lib.itoa (Jg2 b))≤7
theorem Ub8:Ok Tryz.prog 67 K8p:=okW K9h Tryz.f67 (fun xx=>J2q xx.1) fun xx=>by
 obtain⟨(s:ByteArray),_⟩:=xx
 refine(by kernel_rfl:(ByteArray.size s≤1000000→∃(x:Nat×Int),Sf s (1=x.2∧0=Nc x.1)∧J9l x s∧∀(x:Nat×Int),J9l x s→Br (decide (Nc x.1<Nc (ByteArray.size s))) (Kok x s∧Z46 x∧∃(y:Nat×Int),Sf s (Kq7 x s y∧Jnb x y)∧Kpl y s x) ((Jmz<x.2∧x.2<Jm0)∧∃(x_1:Nat),Vd x.2=Jvm s x_1∧Ktj x_1 s∧∀(x:Nat),Ktj x s→Br (decide (Nc (ByteArray.size (Jvm s x))<7)) (Nc (1+ByteArray.size (Jvm s x))≤9223372036854775807∧∃(y:Nat),ByteArray.mk (Array.mk (48::([]++(Jvm s x).data.toList)))=Jvm s y∧Ktj y s∧7-y<7-x) (Jvm s x=Jgr s)))=_).mp ?_
 delta Z11 Z46 Jnb Ktj Jm0 Kse Jmz Kq7 J9l Kpl Kok Br Iw Bd Sf Nc
 intro hs
 refine⟨((0:Nat),(1:Int)),by simp,⟨Nat.zero_le _,by(first|omega|dsimp only;omega),rfl⟩,fun(y:Nat×Int) hk=>⟨fun h=> ?_,fun h=> ?_⟩⟩
 ·obtain⟨k,x⟩:=y
  have hlt:k<s.size:=by simpa using h
  obtain⟨k1,k2,k3⟩:=hk
  dsimp only at k1 k2
  rw[Lm hlt,Jto] at k3
  have hb:=Jxl s k
  refine⟨by(dsimp only;omega),by(dsimp only;omega),(k+1,(341*x+((s.data.toList.getD k 0).toNat:Int)).tmod 9999721),by simp,⟨by(first|omega|dsimp only;omega),⟨Int.tmod_nonneg _ (by omega),Int.tmod_lt_of_pos _ (by decide)⟩,k3⟩,by(first|omega|dsimp only;omega)⟩
 ·obtain⟨k,x⟩:=y
  have hlt:¬k<s.size:=by simpa using h
  obtain⟨k1,k2,k3⟩:=hk
  have e:k=s.size:=by omega
  rw[e,List.drop_eq_nil_of_le (by simp),Jto] at k3
  have k3:x=Jg2 s:=k3
  have hl:=Jjd s
  dsimp only
  rw[k3]
  have hb:=Jnq s
  have hsz:∀j,(Jvm s j).size=j+(Lib.itoa (Jg2 s)).length:=fun j=>by
   unfold Jvm
   rw[Va,List.length_append,List.length_replicate]
  refine⟨⟨by omega,by omega⟩,(0:Nat),rfl,by omega,fun(j:Nat) hj=>⟨fun h=> ?_,fun h=> ?_⟩⟩
  ·have h:((Jvm s j).size:Int)<7:=of_decide_eq_true h
   have hz:=hsz j
   refine⟨by omega,j+1,rfl,by omega,by omega⟩
  ·have h:¬((Jvm s j).size:Int)<7:=of_decide_eq_false h
   have hz:=hsz j
   have:j=7-(Lib.itoa (Jg2 s)).length:=by omega
   rw[this];rfl
abbrev K72:=K9h.add Ub8
theorem Jfl:∀{l:List (List UInt8)} {b:Nat},(∀x∈l,x.length≤b)→(Lib.join l []).length≤b*l.length
 |[],_,_=>by simp[Lib.join,List.intercalate]
 |[x],b,h=>by
  have:=h x (List.mem_cons_self ..)
  simpa[Lib.join,List.intercalate,List.intersperse] using this
 |x::y::r,b,h=>by
  have ih:=Jfl (l:=y::r) fun z hz=>h z (List.mem_cons_of_mem _ hz)
  have hx:=h x (List.mem_cons_self ..)
  have e:Lib.join (x::y::r) []=x++Lib.join (y::r) []:=by simp[Lib.join,List.intercalate,List.intersperse]
  rw[e,List.length_append,List.length_cons,Nat.mul_add]
  omega
def J8f:Con:={args:=[.ref 212 Jjh],ress:=[(false, .list 67 sEv)],owns:=[],pre:=fun(h,_)=>[h.1.length≤1000,∀e∈h.1,Jbn e],spec:=fun(h,_)=>(h.1,())}
def Kp8 (a:List Ev):=∀(x:Ev),Jyj a x→J24 x
theorem Uci:Ok Tryz.prog 41 J8f:=okW K72 Tryz.f41 na fun xx=>by
 obtain⟨⟨(E:List Ev),(C:List Ev),(G:List Reg)⟩,_⟩:=xx
 refine(by kernel_rfl:(List.length E≤1000→(∀(e:Ev),Jyj E e→Jbn e)→Br false ([]=E) ((Z38 E∧Kp8 E)∧List.map (fun(x:Ev)=>x) E=E))=_).mp ?_
 delta Z38 Jyj J24 Kp8 Br
 intro h1 h2
 refine⟨fun h=>(nomatch h),fun _=>⟨⟨by omega,fun x hx=>⟨(h2 x hx).1,(h2 x hx).2.1⟩⟩,List.map_id' _⟩⟩
abbrev K9g:=K72.add Uci
def Jie (l:List Ev):ByteArray:=Uj (l.map Jtq) Jb
def Uda:Con:={args:=[.ref 212 Jjh],ress:=[tS],owns:=[],pre:=fun(h,_)=>[h.1.length≤1000,∀e∈h.1,Xb e],spec:=fun(h,_)=>(Jie h.1,())}
def Kts (a:List Ev):=List.map (fun(x:Ev)=>Jtq x) a
def Kmv (a:List Ev):=∀(e:Ev),Jyj a e→Xb e
theorem Uch:Ok Tryz.prog 42 Uda:=okW K9g Tryz.f42 na fun xx=>by
 obtain⟨⟨(E:List Ev),(C:List Ev),(G:List Reg)⟩,_⟩:=xx
 refine(by kernel_rfl:(List.length E≤1000→Kmv E→Br false (B0=Jie E) ((Z38 E∧Kmv E∧List.length (Kts E)≤1000000∧List.length (Lib.join (List.map (fun(x:ByteArray)=>Z11 x) (Kts E)) [])≤140737488355328)∧Uj (Kts E) B0=Jie E))=_).mp ?_
 delta Z11 Z38 Kts Jyj Kmv Br B0
 intro h1 h2
 refine⟨fun h=>(nomatch h),fun _=>⟨⟨by omega,h2,by rw[List.length_map];omega, ?_⟩,rfl⟩⟩
 refine Nat.le_trans (Jfl (b:=2000000) fun z hz=> ?_) ?_
 ·rw[List.map_map] at hz
  obtain⟨e,he,rfl⟩:=List.mem_map.1 hz
  have:=Jlo (h2 e he)
  have:=Jeg (h2 e he)
  show(Jtq e).size≤2000000
  omega
 ·rw[List.length_map,List.length_map];omega
abbrev Uea:=K9g.add Uch
def Jr3:List Say:=[(⟨⟨[115,116,97,116,105,111,110,32,97,32,48,32,49,48]⟩⟩,⟨⟨[100,111,110,101,32,49]⟩⟩,0),(⟨⟨[115,116,97,116,105,111,110,32,98,32,48,32,56]⟩⟩,⟨⟨[100,111,110,101,32,50]⟩⟩,0),(⟨⟨[112,114,105,99,101,32,97,32,48,32,53]⟩⟩,⟨⟨[100,111,110,101,32,51]⟩⟩,0),(⟨⟨[111,114,100,101,114,32,111,49,32,97,32,98,32,49,32,50,32,53,32,54]⟩⟩,⟨⟨[100,111,110,101,32,52]⟩⟩,0),(⟨⟨[111,114,100,101,114,32,111,50,32,98,32,97,32,49,32,50,32,53,32,51]⟩⟩,⟨⟨[]⟩⟩,4),(⟨⟨[111,117,116,97,103,101,32,121,32,98,32,49,32,51,32,52,32,53]⟩⟩,⟨⟨[]⟩⟩,24),(⟨⟨[111,117,116,97,103,101,32,120,32,98,32,49,32,53,32,55,32,48]⟩⟩,⟨⟨[100,111,110,101,32,53]⟩⟩,0),(⟨⟨[112,101,114,109,105,116,32,112,32,120,32,53]⟩⟩,⟨⟨[100,111,110,101,32,54]⟩⟩,0),(⟨⟨[109,105,115,115,105,110,103]⟩⟩,⟨⟨[111,49,32,50,32,111,49,32,51,32,111,49,32,52]⟩⟩,0),(⟨⟨[111,117,116,97,103,101,115]⟩⟩,⟨⟨[120]⟩⟩,0),(⟨⟨[116,114,105,112,32,111,49,32,53]⟩⟩,⟨⟨[]⟩⟩,23),(⟨⟨[109,101,116,101,114,32,111,49,32,53,32,50,32,54,32,54]⟩⟩,⟨⟨[100,111,110,101,32,55]⟩⟩,0),(⟨⟨[109,101,116,101,114,32,111,49,32,53,32,51,32,54,32,53]⟩⟩,⟨⟨[100,111,110,101,32,56]⟩⟩,0),(⟨⟨[115,101,116,116,108,101,32,53,32,53]⟩⟩,⟨⟨[]⟩⟩,32),(⟨⟨[109,101,116,101,114,32,111,49,32,53,32,52,32,52,32,51]⟩⟩,⟨⟨[100,111,110,101,32,57]⟩⟩,0),(⟨⟨[109,105,115,115,105,110,103]⟩⟩,⟨⟨[110,111,110,101]⟩⟩,0),(⟨⟨[115,101,116,116,108,101,32,53,32,54]⟩⟩,⟨⟨[]⟩⟩,14),(⟨⟨[115,101,116,116,108,101,32,53,32,53]⟩⟩,⟨⟨[100,111,110,101,32,49,48]⟩⟩,0),(⟨⟨[117,110,100,111]⟩⟩,⟨⟨[]⟩⟩,21),(⟨⟨[98,105,108,108,32,111,49]⟩⟩,⟨⟨[51,32,49,54,32,49,52,32,55,48,32,49,50]⟩⟩,0),(⟨⟨[98,97,108,97,110,99,101,32,98]⟩⟩,⟨⟨[45,53,56]⟩⟩,0),(⟨⟨[114,97,116,101,32,97]⟩⟩,⟨⟨[53]⟩⟩,0),(⟨⟨[114,101,115,116,111,114,101,32,120,32,54]⟩⟩,⟨⟨[]⟩⟩,32),(⟨⟨[112,101,114,109,105,116,115]⟩⟩,⟨⟨[112]⟩⟩,0),(⟨⟨[114,101,116,117,114,110,32,112,32,54]⟩⟩,⟨⟨[100,111,110,101,32,49,49]⟩⟩,0),(⟨⟨[114,101,115,116,111,114,101,32,120,32,54]⟩⟩,⟨⟨[100,111,110,101,32,49,50]⟩⟩,0),(⟨⟨[115,101,116,116,108,101,32,56,32,56]⟩⟩,⟨⟨[100,111,110,101,32,49,51]⟩⟩,0),(⟨⟨[115,101,116,116,108,101,100]⟩⟩,⟨⟨[56]⟩⟩,0)]
def Fu:List Ev:=[(1,⟨⟨[115,116,97,116,105,111,110]⟩⟩,[⟨⟨[97]⟩⟩],[0,10],⟨⟨[]⟩⟩),(2,⟨⟨[115,116,97,116,105,111,110]⟩⟩,[⟨⟨[98]⟩⟩],[0,8],⟨⟨[]⟩⟩),(3,⟨⟨[112,114,105,99,101]⟩⟩,[⟨⟨[97]⟩⟩],[0,5],⟨⟨[]⟩⟩),(4,⟨⟨[111,114,100,101,114]⟩⟩,[⟨⟨[111,49]⟩⟩,⟨⟨[97]⟩⟩,⟨⟨[98]⟩⟩],[1,2,5,6],⟨⟨[]⟩⟩),(5,⟨⟨[111,117,116,97,103,101]⟩⟩,[⟨⟨[120]⟩⟩,⟨⟨[98]⟩⟩],[1,5,7,0],⟨⟨[]⟩⟩),(6,⟨⟨[112,101,114,109,105,116]⟩⟩,[⟨⟨[112]⟩⟩,⟨⟨[120]⟩⟩],[5],⟨⟨[]⟩⟩),(7,⟨⟨[109,101,116,101,114]⟩⟩,[⟨⟨[111,49]⟩⟩],[5,2,6,6],⟨⟨[]⟩⟩),(8,⟨⟨[109,101,116,101,114]⟩⟩,[⟨⟨[111,49]⟩⟩],[5,3,6,5],⟨⟨[]⟩⟩),(9,⟨⟨[109,101,116,101,114]⟩⟩,[⟨⟨[111,49]⟩⟩],[5,4,4,3],⟨⟨[]⟩⟩),(10,⟨⟨[115,101,116,116,108,101]⟩⟩,[],[5,5],⟨⟨[]⟩⟩),(11,⟨⟨[114,101,116,117,114,110]⟩⟩,[⟨⟨[112]⟩⟩],[6],⟨⟨[]⟩⟩),(12,⟨⟨[114,101,115,116,111,114,101]⟩⟩,[⟨⟨[120]⟩⟩],[6],⟨⟨[]⟩⟩),(13,⟨⟨[115,101,116,116,108,101]⟩⟩,[],[8,8],⟨⟨[]⟩⟩)]
def K8m:List Ev:=(Jeh Y7 Jr3).1.2.1
def K8l:List Reg:=(Jeh Y7 Jr3).1.2.2
theorem Jx0:Jeh Y7 Jr3=((Fu,K8m,K8l),true):=by kernel_rfl
def Udi:X9:={T? :=some 212,s:=Jjh,args:=[.val false (.list 147 Kus)],ress:=[Bo],pre:=fun h (l,_)=>[h=Y7,l=Jr3],spec:=fun _ _=>(true,()),post:=fun _ _=>(Fu,K8m,K8l)}
theorem Ju0:Jr3.length≤1000000∧∀x∈Jr3,x.1.size≤1000000:=by
 refine⟨by decide,fun x hx=> ?_⟩
 have:(Jr3.all fun x=>decide (x.1.size≤1000000))=true:=by kernel_rfl
 exact of_decide_eq_true (List.all_eq_true.1 this x hx)
theorem J1h {f:FuncId} {c:X9} {p:c.s.T→ATup c.args→List Prop} {sp:c.s.T→ATup c.args→Tup c.ress} {q:c.s.T→ATup c.args→c.s.T} (h1:OkO Tryz.prog f c) (h:∀x y,Up (p x y)→Up (c.pre x y)∧sp x y=c.spec x y∧q x y=c.post x y):OkO Tryz.prog f {c with pre:=p,spec:=sp,post:=q}:=
 ⟨h1.1,fun x y M R B w b T cells vals vs hB hMR hg hw hBb hMb hRb hT ho hv hpre ha=>by
  obtain⟨hp,e1,e2⟩:=h x y hpre
  have H:=h1.2 x y M R B w b T cells vals vs hB hMR hg hw hBb hMb hRb hT ho hv hp ha
  dsimp only
  rw[e1,e2]
  exact H⟩
theorem Kuv:OkO Tryz.prog 66 Ke0:=Ul mixed Kty.ok (by kernel_rfl) (by kernel_rfl) (U6 (l:=([]:List (Nat×Func))) (by simp)) (fun xx yy=>Y4 (Jx7 (xx.1,xx.2.1,xx.2.2) yy.1)) (fun xx yy=>fun _=>na ()) fun T xx yy hT=>by obtain rfl:=hT _ rfl;exact K78 xx.1 xx.2.1 xx.2.2 yy.1
theorem Kuy:Ok Tryz.prog 66 (X9.con Udi):=Zd (J1h (c:=Ke0) Kuv fun x y hp=>by
 obtain⟨rfl,e⟩:=hp
 obtain⟨l,_⟩:=y
 have e:l=Jr3:=e
 subst e
 exact⟨⟨Xx,J7k,Ju0.1,Ju0.2⟩,by rw[show Ke0.spec Y7 (Jr3,())=((Jeh Y7 Jr3).2,()) from rfl,Jx0],by rw[show Ke0.post Y7 (Jr3,())=(Jeh Y7 Jr3).1 from rfl,Jx0]⟩)
abbrev K71:=Uea.add Kuy
theorem Jqm:Fu.length=13:=by kernel_rfl
theorem Jop:∀e∈Fu,Jbn e:=fun e he=>by
 have:(Fu.all fun e=>decide (e.2.2.1.length≤1000000)&&decide (e.2.2.2.1.length≤1000000)&&e.2.2.1.all fun s=>decide (s.size≤1000000))=true:=by kernel_rfl
 have h:=List.all_eq_true.1 this e he
 simp only[Bool.and_eq_true] at h
 exact⟨of_decide_eq_true h.1.1,of_decide_eq_true h.1.2,fun s hs=>of_decide_eq_true (List.all_eq_true.1 h.2 s hs)⟩
theorem J7p:∀e∈Fu,Jd e=0:=fun e he=>by
 have:(Fu.all fun e=>Jd e==0)=true:=by kernel_rfl
 exact eq_of_beq (List.all_eq_true.1 this e he)
theorem Joq (n:Nat):lOk (Fu.take n):=⟨by have:=Jqm;rw[List.length_take];omega,fun e he=>Jop e (List.mem_of_mem_take he)⟩
def J5l:Con:={args:=[],ress:=[Bo],owns:=[],pre:=fun _=>[],spec:=fun _=>(true,())}
def Z90:=Sf true (false=true)
def J6e:=[(32:UInt8),(53:UInt8)]
def Ktx:=[(32:UInt8),(56:UInt8)]
def Khf:=[(32:UInt8),(54:UInt8)]
def Ktw:=[(32:UInt8),(51:UInt8)]
def Knk:=ByteArray.mk (Array.mk [98])
def Ktt:=ByteArray.mk (Array.mk [97])
def K70:=32::53::Khf
def K3m:=ByteArray.mk (Array.mk (115::101::116::116::108::101::32::53::J6e))
def K23:=ByteArray.mk (Array.mk (114::101::115::116::111::114::101::32::120::Khf))
def K2i:=Jg5 (List.take 6 Fu) Ktt 3+Jg5 (List.take 6 Fu) Knk 5
def K0l:=K2i+Jmy Fu Ktt Knk
def Kz8:=K0l+Jha Fu 4
def Kz0:=Kz8+(Jcg Fu).2
def Kdu:=Kz0+avE (List.take 10 Fu) Knk
def Kdg:=Kdu+avE Fu Knk
theorem Ubd:wpFG Tryz.prog K71.g (na ()) (fun _=>na ()) (Sx.look ([(65,Tryz.f65)]:List (Nat×Func))) Tryz.f14 J5l ():=by
 refine(by kernel_rfl:((([],[],[])=Y7∧[(ByteArray.mk (Array.mk [115,116,97,116,105,111,110,32,97,32,48,32,49,48]),ByteArray.mk (Array.mk [100,111,110,101,32,49]),0),(ByteArray.mk (Array.mk (115::116::97::116::105::111::110::32::98::32::48::Ktx)),ByteArray.mk (Array.mk [100,111,110,101,32,50]),0),(ByteArray.mk (Array.mk (112::114::105::99::101::32::97::32::48::J6e)),ByteArray.mk (Array.mk (100::111::110::101::Ktw)),0),(ByteArray.mk (Array.mk (111::114::100::101::114::32::111::49::32::97::32::98::32::49::32::50::K70)),ByteArray.mk (Array.mk [100,111,110,101,32,52]),0),(ByteArray.mk (Array.mk (111::114::100::101::114::32::111::50::32::98::32::97::32::49::32::50::32::53::Ktw)),B0,4),(ByteArray.mk (Array.mk (111::117::116::97::103::101::32::121::32::98::32::49::32::51::32::52::J6e)),B0,24),(ByteArray.mk (Array.mk [111,117,116,97,103,101,32,120,32,98,32,49,32,53,32,55,32,48]),ByteArray.mk (Array.mk (100::111::110::101::J6e)),0),(ByteArray.mk (Array.mk (112::101::114::109::105::116::32::112::32::120::J6e)),ByteArray.mk (Array.mk (100::111::110::101::Khf)),0),(Ke,ByteArray.mk (Array.mk [111,49,32,50,32,111,49,32,51,32,111,49,32,52]),0),(Kl,ByteArray.mk (Array.mk [120]),0),(ByteArray.mk (Array.mk (116::114::105::112::32::111::49::J6e)),B0,23),(ByteArray.mk (Array.mk (109::101::116::101::114::32::111::49::32::53::32::50::32::54::Khf)),ByteArray.mk (Array.mk [100,111,110,101,32,55]),0),(ByteArray.mk (Array.mk (109::101::116::101::114::32::111::49::32::53::32::51::32::54::J6e)),ByteArray.mk (Array.mk (100::111::110::101::Ktx)),0),(K3m,B0,32),(ByteArray.mk (Array.mk (109::101::116::101::114::32::111::49::32::53::32::52::32::52::Ktw)),ByteArray.mk (Array.mk [100,111,110,101,32,57]),0),(Ke,Jkt,0),(ByteArray.mk (Array.mk (115::101::116::116::108::101::K70)),B0,14),(K3m,ByteArray.mk (Array.mk [100,111,110,101,32,49,48]),0),(J1,B0,21),(ByteArray.mk (Array.mk [98,105,108,108,32,111,49]),ByteArray.mk (Array.mk [51,32,49,54,32,49,52,32,55,48,32,49,50]),0),(ByteArray.mk (Array.mk [98,97,108,97,110,99,101,32,98]),ByteArray.mk (Array.mk [45,53,56]),0),(ByteArray.mk (Array.mk [114,97,116,101,32,97]),ByteArray.mk (Array.mk [53]),0),(K23,B0,32),(Kk,ByteArray.mk (Array.mk [112]),0),(ByteArray.mk (Array.mk (114::101::116::117::114::110::32::112::Khf)),ByteArray.mk (Array.mk [100,111,110,101,32,49,49]),0),(K23,ByteArray.mk (Array.mk [100,111,110,101,32,49,50]),0),(ByteArray.mk (Array.mk (115::101::116::116::108::101::32::56::Ktx)),ByteArray.mk (Array.mk [100,111,110,101,32,49,51]),0),(Kj,ByteArray.mk (Array.mk [56]),0)]=Jr3)∧Br false Z90 ((13≤1000∧∀(e:Ev),e∈Fu→Jbn e)∧Br false Z90 (T2 (((0:Int)≤0∧(0:Int)≤6∧(6:Int)≤13)∧lOk (List.take 6 Fu)) (lOk Fu∧T2 (lOk Fu) ((((0:Int)≤0∧(0:Int)≤10∧(10:Int)≤13)∧lOk (List.take 10 Fu))∧T2 (lOk Fu) ((13≤1000∧∀(e:Ev),e∈Fu→Xb e)∧(325:Int)≤9223372036854775807∧(Iw K2i∧Iw K0l∧Iw Kz8∧Iw Kz0∧Iw Kdu∧Iw Kdg∧Iw (Kdg+Zs Fu Ktt)∧(true=true→2≤1000000))∧Tw (true=true)))))))=_).mp ?_
 delta Z90 J6e Ktx Khf Ktw Knk Ktt K70 Jkt K3m K23 K2i K0l Kz8 Kz0 Kdu Kdg Br Iw T2 Tw Sf B0 Ke Kl Kk Kj J1
 have ok:lOk Fu:=⟨by rw[Jqm];decide,Jop⟩
 have z1:Jg5 (List.take 6 Fu) {data:={toList:=[97]}} 3=0:=by kernel_rfl
 have z2:Jg5 (List.take 6 Fu) {data:={toList:=[98]}} 5=0:=by kernel_rfl
 have z3:Jmy Fu {data:={toList:=[97]}} {data:={toList:=[98]}}=0:=by kernel_rfl
 have z4:Jha Fu 4=0:=by kernel_rfl
 have z5:(Jcg Fu).2=0:=by kernel_rfl
 have z6:avE (List.take 10 Fu) {data:={toList:=[98]}}=0:=by kernel_rfl
 have z7:avE Fu {data:={toList:=[98]}}=0:=by kernel_rfl
 have z8:Zs Fu {data:={toList:=[97]}}=0:=by kernel_rfl
 rw[z1,z2,z3,z4,z5,z6,z7,z8]
 exact⟨⟨rfl,rfl⟩,fun h=>(nomatch h),fun _=>⟨⟨by decide,Jop⟩,fun h=>(nomatch h),fun _=>⟨⟨by omega,Joq 6⟩,⟨by omega,Joq 6⟩,ok,ok,ok,⟨by omega,Joq 10⟩,ok,ok,⟨by decide,fun e he=>Jxq (J7p e he)⟩,by decide,⟨by decide,by decide,by decide,by decide,by decide,by decide,by decide,fun _=>by decide⟩,rfl,rfl⟩⟩⟩
theorem K8i:Ok Tryz.prog 14 J5l:=Jfd mixed K71.ok (by kernel_rfl) (by kernel_rfl) (U6 (l:=([(65,Tryz.f65)]:List (Nat×Func))) (List.forall_mem_cons.2 ⟨by kernel_rfl,by simp⟩)) (fun xx=>na ()) (fun xx=>fun _=>na ()) fun xx=>Ubd
abbrev K9f:=K71.add K8i
def eqL {α:Type} (p:α→α→Bool):List α→List α→Bool
 |[],[]=>true
 |x::l,y::r=>bif p x y then eqL p l r else false
 |_,_=>false
theorem Jql {α:Type} {p:α→α→Bool}:∀{l r:List α},l.length≠r.length→eqL p l r=false
 |[],[],h=>absurd rfl h
 |[],_::_,_=>rfl
 |_::_,[],_=>rfl
 |x::l,y::r,h=>by
  unfold eqL
  rw[Jql (fun e=>h (by rw[List.length_cons,List.length_cons,e]))]
  cases p x y<;>rfl
theorem Jeb {α:Type} {p:α→α→Bool} (h:∀x,p x x=true):∀l:List α,eqL p l l=true
 |[]=>rfl
 |x::l=>by unfold eqL;rw[h x,cond_true];exact Jeb h l
def Jag (a b:ByteArray):Bool:= !(a.toList !=b.toList)
def Jaf (a b:Int):Bool:= !(a !=b)
abbrev Jo4 (T:TypeId) (s:Sch) (p:s.T→s.T→Bool) (xs ys:List s.T):Ann:={X:=Nat,σ:=fun k=>⟨2,[(0, .one (.sl 0)),(1, .one (.sl 1)),(5, .one (.int .i64 k))],[(0, .imm T s xs),(1, .imm T s ys)]⟩,inv:=fun k=>k≤xs.length∧xs.length=ys.length∧eqL p (xs.drop k) (ys.drop k)=eqL p xs ys,mu:=fun k=>xs.length-k}
def Kin (T:TypeId) (s:Sch) (p:s.T→s.T→Bool):Con:={args:=[.val false (.list T s), .val false (.list T s)],ress:=[Bo],owns:=[],pre:=fun(xs,_)=>[xs.length≤1000000],spec:=fun(xs,ys,_)=>(eqL p xs ys,())}
def Kik:Con:=Kin 9 .str Jag
def Kpd (a:Nat) (b c:Ls):=Z39 a b∧List.length b=List.length c∧eqL Jag (List.drop a b) (List.drop a c)=eqL Jag b c
theorem Ubr:Ok Tryz.prog 89 Kik:=okW K9f Tryz.f89 (fun xx=>Y4 (Jo4 9 .str Jag xx.1 xx.2.1)) fun xx=>by
 obtain⟨(xs:List ByteArray),(ys:List ByteArray),_⟩:=xx
 refine(by kernel_rfl:(F5 xs→Br (Ln xs !=Ln ys) (false=eqL Jag xs ys) (∃(x:Nat),(0=Nc x∧Sf xs (ys=ys))∧Kpd x xs ys∧∀(x:Nat),Kpd x xs ys→Br (J6a x xs) (T2 (Z94 x xs) (Tw (Z94 x ys))∧Br (!Lb (Z27 xs x) (Z27 ys x)) (false=eqL Jag xs ys) (Z20 x∧∃(y:Nat),(Vm x y∧Sf xs (ys=ys))∧Kpd y xs ys∧Jz3 xs y x)) (true=eqL Jag xs ys)))=_).mp ?_
 delta Z20 Z27 Z39 Z94 Vm F5 J6a Jz3 Kpd Br Iw Bd T2 Tw Sf Ln Nc B0 Lb
 intro hl
 refine⟨fun h=> ?_,fun h=>⟨(0:Nat),by simp,⟨Nat.zero_le _, ?_,rfl⟩,fun(k:Nat) hk=>⟨fun h1=> ?_,fun h1=> ?_⟩⟩⟩
 ·have h:((xs.length:Int) !=ys.length)=true:=h
  exact(Jql (by have:=bne_iff_ne.1 h;omega)).symm
 ·have h:((xs.length:Int) !=ys.length)=false:=h
  have:=bne_eq_false_iff_eq.1 h
  omega
 ·obtain⟨k1,k2,k3⟩:=hk
  have hlt:k<xs.length:=by simpa using h1
  rw[Jq (l:=xs) (d:=Jb) hlt,Jq (l:=ys) (d:=Jb) (by omega),eqL] at k3
  refine⟨by omega,fun h2=> ?_,fun h2=> ?_⟩
  ·have h2:Jag (xs.getD k Jb) (ys.getD k Jb)=false:=by unfold Jag;rw[show((xs.getD k Jb).toList !=(ys.getD k Jb).toList)=true from h2];rfl
   rw[h2] at k3;exact k3
  ·have h2:Jag (xs.getD k Jb) (ys.getD k Jb)=true:=by unfold Jag;rw[show((xs.getD k Jb).toList !=(ys.getD k Jb).toList)=false from h2];rfl
   rw[h2] at k3
   exact⟨by omega,(k+1:Nat),by simp,⟨by omega,k2,k3⟩,by omega⟩
 ·obtain⟨k1,k2,k3⟩:=hk
  have hlt:¬k<xs.length:=by simpa using h1
  rw[List.drop_eq_nil_of_le (by omega),List.drop_eq_nil_of_le (by omega)] at k3
  exact k3
abbrev K9e:=K9f.add Ubr
def Kil:Con:=Kin 3 sI Jaf
def Kp5 (a:Nat) (b c:Li):=a≤List.length b∧List.length b=List.length c∧eqL Jaf (List.drop a b) (List.drop a c)=eqL Jaf b c
theorem Ubq:Ok Tryz.prog 90 Kil:=okW K9e Tryz.f90 (fun xx=>Y4 (Jo4 3 sI Jaf xx.1 xx.2.1)) fun xx=>by
 obtain⟨(xs:List Int),(ys:List Int),_⟩:=xx
 refine(by kernel_rfl:(Z61 xs→Br (Ln xs !=Ln ys) (false=eqL Jaf xs ys) (∃(x:Nat),(0=Nc x∧Sf xs (ys=ys))∧Kp5 x xs ys∧∀(x:Nat),Kp5 x xs ys→Br (J0f x xs) (T2 (Bd (Nc x) (Ln xs)) (Z91 x ys)∧Br (Z17 xs x !=Z17 ys x) (false=eqL Jaf xs ys) (Z20 x∧∃(y:Nat),(Vm x y∧Sf xs (ys=ys))∧Kp5 y xs ys∧Jz9 xs y x)) (true=eqL Jaf xs ys)))=_).mp ?_
 delta Z17 Z20 Z61 Z91 Vm J0f Jz9 Kp5 Br Iw Bd T2 Tw Sf Ln Nc
 intro hl
 refine⟨fun h=> ?_,fun h=>⟨(0:Nat),by simp,⟨Nat.zero_le _, ?_,rfl⟩,fun(k:Nat) hk=>⟨fun h1=> ?_,fun h1=> ?_⟩⟩⟩
 ·have h:((xs.length:Int) !=ys.length)=true:=h
  exact(Jql (by have:=bne_iff_ne.1 h;omega)).symm
 ·have h:((xs.length:Int) !=ys.length)=false:=h
  have:=bne_eq_false_iff_eq.1 h
  omega
 ·obtain⟨k1,k2,k3⟩:=hk
  have hlt:k<xs.length:=by simpa using h1
  rw[Jq (l:=xs) (d:=(0:Int)) hlt,Jq (l:=ys) (d:=(0:Int)) (by omega),eqL] at k3
  refine⟨by omega,fun h2=> ?_,fun h2=> ?_⟩
  ·have h2:Jaf (xs.getD k 0) (ys.getD k 0)=false:=by unfold Jaf;rw[show(xs.getD k 0 !=ys.getD k 0)=true from h2];rfl
   rw[h2] at k3;exact k3
  ·have h2:Jaf (xs.getD k 0) (ys.getD k 0)=true:=by unfold Jaf;rw[show(xs.getD k 0 !=ys.getD k 0)=false from h2];rfl
   rw[h2] at k3
   exact⟨by omega,(k+1:Nat),by simp,⟨by omega,k2,k3⟩,by omega⟩
 ·obtain⟨k1,k2,k3⟩:=hk
  have hlt:¬k<xs.length:=by simpa using h1
  rw[List.drop_eq_nil_of_le (by omega),List.drop_eq_nil_of_le (by omega)] at k3
  exact k3
abbrev K9d:=K9e.add Ubq
def J18 (a b:Ev):Bool:=bif bif bif bif a.1 !=b.1 then true else !(a.2.1.toList==b.2.1.toList) then true else !eqL Jag a.2.2.1 b.2.2.1 then true else !eqL Jaf a.2.2.2.1 b.2.2.2.1 then true else !(a.2.2.2.2.toList==b.2.2.2.2.toList)
def Ht (a b:Ev):Bool:= !J18 a b
theorem Jr6 (a:ByteArray):Jag a a=true:=by unfold Jag;simp
theorem Jr5 (a:Int):Jaf a a=true:=by unfold Jaf;simp
def Kim:Con:={args:=[.val false (.list 67 sEv), .val false (.list 67 sEv)],ress:=[Bo],owns:=[],pre:=fun(xs,_)=>[xs.length≤1000000,∀x∈xs,x.2.2.1.length≤1000000∧x.2.2.2.1.length≤1000000],spec:=fun(xs,ys,_)=>(eqL Ht xs ys,())}
def Kqd (a:Nat) (b c:List Ev):=a≤List.length b∧List.length b=List.length c∧eqL Ht (List.drop a b) (List.drop a c)=eqL Ht b c
def K1n (a:List Ev) (b:Nat) (c:List Ev):=J5y a b !=J5y c b
def K1h (a:List Ev) (b:Nat) (c:List Ev):=K1n a b c=false
def Kdz (a:List Ev) (b:Nat) (c:List Ev):=bif K1n a b c then true else !Lb (J5x a b) (J5x c b)
def J4c (a:List Ev) (b:Nat) (c:List Ev):=Kdz a b c=false
def Kc4 (a:List Ev) (b:Nat) (c:List Ev):=bif Kdz a b c then true else !eqL Jag (Jz2 a b).1 (Jz2 c b).1
def J3z (a:List Ev) (b:Nat) (c:List Ev):=Kc4 a b c=false
def Kcq (a:List Ev) (b:Nat) (c:List Ev):=bif Kc4 a b c then true else !eqL Jaf (Jye a b).1 (Jye c b).1
def Kco (a:List Ev) (b:Nat) (c:List Ev):=Kcq a b c=false
theorem K8g:Ok Tryz.prog 24 Kim:=okW K9d Tryz.f24 (fun xx=>Y4 (Jo4 67 sEv Ht xx.1 xx.2.1)) fun xx=>by
 obtain⟨(xs:List Ev),(ys:List Ev),_⟩:=xx
 refine(by kernel_rfl:(Z38 xs→Kp8 xs→Br (Ln xs !=Ln ys) (false=eqL Ht xs ys) (∃(x:Nat),(0=Nc x∧Sf xs (ys=ys))∧Kqd x xs ys∧∀(x:Nat),Kqd x xs ys→Br (Z97 x xs) (T2 (Z9 x xs) (T2 (Z9 x ys) (T2 (K1h xs x ys→Z9 x xs) (T2 (K1h xs x ys→Z9 x ys) (T2 (J4c xs x ys→Z9 x xs) (T2 (J4c xs x ys→Z9 x ys) ((J4c xs x ys→List.length (Jz2 xs x).1≤1000000)∧T2 (J3z xs x ys→Z9 x xs) (T2 (J3z xs x ys→Z9 x ys) ((J3z xs x ys→List.length (Jye xs x).1≤1000000)∧T2 (Kco xs x ys→Z9 x xs) (Tw (Kco xs x ys→Z9 x ys))))))))))∧Br (bif Kcq xs x ys then true else !Lb (Jye xs x).2 (Jye ys x).2) (false=eqL Ht xs ys) (Z20 x∧∃(y:Nat),(Vm x y∧Sf xs (ys=ys))∧Kqd y xs ys∧List.length xs-y<List.length xs-x)) (true=eqL Ht xs ys)))=_).mp ?_
 delta Z9 Z20 Z38 Z97 Vm Jyj Di J5z J5y J5x Jz2 Jye J24 Kqd Kp8 K1n K1h Kdz J4c Kc4 J3z Kcq Kco Br Iw Bd T2 Tw Sf Ln Nc B0 Lb
 intro hl hs
 refine⟨fun h=> ?_,fun h=>⟨(0:Nat),by simp,⟨Nat.zero_le _, ?_,rfl⟩,fun(k:Nat) hk=>⟨fun h1=> ?_,fun h1=> ?_⟩⟩⟩
 ·have h:((xs.length:Int) !=ys.length)=true:=h
  exact(Jql (by have:=bne_iff_ne.1 h;omega)).symm
 ·have h:((xs.length:Int) !=ys.length)=false:=h
  have:=bne_eq_false_iff_eq.1 h
  omega
 ·obtain⟨k1,k2,k3⟩:=hk
  have hlt:k<xs.length:=by simpa using h1
  rw[Jq (l:=xs) (d:=ev0) hlt,Jq (l:=ys) (d:=ev0) (by omega),eqL] at k3
  have hz:((0:Int),({data:={toList:=[]}}:ByteArray),([]:List ByteArray),([]:List Int),({data:={toList:=[]}}:ByteArray))=ev0:=rfl
  have hx:((0:Int)≤(k:Int)∧(k:Int)<(xs.length:Int))=True:=eq_true (by omega)
  have hy:((0:Int)≤(k:Int)∧(k:Int)<(ys.length:Int))=True:=eq_true (by omega)
  have ha:=hs _ (Je (d:=ev0) hlt)
  simp only[hz,hx,hy,implies_true,true_and,and_true]
  generalize xs.getD k ev0=a at ha k3⊢
  generalize ys.getD k ev0=b at k3⊢
  refine⟨⟨fun _=>ha.1,fun _=>ha.2⟩,fun h2=> ?_,fun h2=> ?_⟩
  ·have h2:Ht a b=false:=by unfold Ht;rw[show J18 a b=true from h2];rfl
   rw[h2] at k3;exact k3
  ·have h2:Ht a b=true:=by unfold Ht;rw[show J18 a b=false from h2];rfl
   rw[h2] at k3
   exact⟨by omega,(k+1:Nat),by omega,⟨by omega,k2,k3⟩,by omega⟩
 ·obtain⟨k1,k2,k3⟩:=hk
  have hlt:¬k<xs.length:=by simpa using h1
  rw[List.drop_eq_nil_of_le (by omega),List.drop_eq_nil_of_le (by omega)] at k3
  exact k3
abbrev Ud9:=K9d.add K8g
abbrev Ud8:=Ud9
theorem Jj7 {k:ByteArray} (h:Uo k=false):(Yu k).2.2=false:=by
 have hne:∀w:ByteArray,Uo w=true→(k.toList==w.toList)=false:=fun w hw=>by
  cases hc:k.toList==w.toList with
  |false=>rfl
  |true=>
   have:=Y9 hc
   subst this
   rw[hw] at h;cases h
 unfold Yu
 rw[hne Jy (by kernel_rfl),hne Ue (by kernel_rfl),hne Ku (by kernel_rfl),hne Uc (by kernel_rfl),hne Vq (by kernel_rfl),hne Jz (by kernel_rfl),hne Jv (by kernel_rfl),hne Kh (by kernel_rfl),hne Kg (by kernel_rfl),hne Ji (by kernel_rfl),hne J1 (by kernel_rfl)]
 rfl
theorem Dy {k:ByteArray} (h:Uo k=true):(Yu k).2.2=true∧(Yu k).1.size=(Jh k).1.length∧(Yu k).2.1=(Jh k).2.1:=by
 rcases Vl h with h|h|h|h|h|h|h|h|h|h|h<;>subst h
 all_goals exact⟨by kernel_rfl,by kernel_rfl,by kernel_rfl⟩
def Jp (k:ByteArray):ByteArray×Int×Bool:=Yu k
def Kjc:Con:={args:=[aS],ress:=[(true,Kho)],owns:=[],pre:=fun _=>[],spec:=fun(k,_)=>(Jp k,())}
theorem Kh1:Ok Tryz.prog 110 Kjc:=Kh2
abbrev K9c:=Ud8.add Kh1
def ckN (ns:List ByteArray):Int:=Jg (ns.map fun s=>bif Ys s then 0 else 8)
def ckV (vs:List Int):Int:=Jg (vs.map fun n=>Kr n 0 999999999)
theorem J14 (t:ByteArray):(t.toList==Jb.toList)= !decide (0<t.size):=by
 cases h:t.toList==Jb.toList with
 |true=>have:=Y9 h;subst this;rfl
 | false =>
  have:0<t.size:=Nat.pos_of_ne_zero fun h0=>by
   have e:t.data.toList=[]:=List.eq_nil_of_length_eq_zero h0
   rw[Lib.toList_data,Lib.toList_data,e] at h
   exact nomatch (show true=false from h)
  rw[decide_eq_true this];rfl
theorem Yv (x:Int) (l:List Int):Jg (x::l)=if x=0 then Jg l else x:=rfl
def Kjr:Con:={args:=[aEv],ress:=[I],owns:=[],pre:=fun(e,_)=>[e.2.2.1.length≤1000000,e.2.2.2.1.length≤1000000,∀s∈e.2.2.1,s.size≤1000000],spec:=fun(e,_)=>(Jd e,())}
abbrev Kzt (n:Int) (k:ByteArray) (ns:List ByteArray) (vs:List Int) (t:ByteArray):Nat→Option Ann:=fun id=>if id=0 then some {X:=Nat,σ:=fun i=>⟨4,[(1, .one (.ptr 2 0)),(3, .one (.ptr 3 0)),(4, .one (.int .i64 i))],[(2, .box 67 [.int .i64 n, .str k, .sl 0, .sl 1, .str t]),(3, .box 208 [.str (Jp k).1, .int .i64 (Jp k).2.1, .bool (Jp k).2.2]),(0, .imm 9 .str ns),(1, .imm 3 sI vs)]⟩,inv:=fun i=>i≤ns.length∧ckN (ns.drop i)=ckN ns,mu:=fun i=>ns.length-i}
 else if id=2 then some {X:=Nat,σ:=fun i=>⟨4,[(1, .one (.ptr 2 0)),(3, .one (.ptr 3 0)),(5, .one (.int .i64 i))],[(2, .box 67 [.int .i64 n, .str k, .sl 0, .sl 1, .str t]),(3, .box 208 [.str (Jp k).1, .int .i64 (Jp k).2.1, .bool (Jp k).2.2]),(0, .imm 9 .str ns),(1, .imm 3 sI vs)]⟩,inv:=fun i=>i≤vs.length∧ckV (vs.drop i)=ckV vs,mu:=fun i=>vs.length-i}
 else none
def Z10 (a:Bt):=Nc (ByteArray.size (Jp a).1)
def Ktf (a:Nat) (b:Li):=a≤List.length b∧ckV (List.drop a b)=ckV b
def Ksw (a:Nat) (b:Ls):=Z39 a b∧ckN (List.drop a b)=ckN b
def K2w (a:Int) (b c:Bt) (d:Ls) (e:Li):=Si a (Sf b (Sf c (Sf (Jp b).1 (Si (Jp b).2.1 (Sf (Jp b).2.2 (Sf d (e=e)))))))
def K14 (a:Nat) (b:Int) (c d:Bt) (e:Ls) (f:Li):=0=Nc a∧K2w b c d e f
def K1o (a b:Nat) (c:Int) (d e:Bt) (f:Ls) (g:Li):=Vm a b∧K2w c d e f g
theorem Ucl:Ok Tryz.prog 36 Kjr:=okW K9c Tryz.f36 (fun xx=>Kzt xx.1.1 xx.1.2.1 xx.1.2.2.1 xx.1.2.2.2.1 xx.1.2.2.2.2) fun xx=>by
 obtain⟨⟨(n:Int),(k:ByteArray),(ns:List ByteArray),(vs:List Int),(t:ByteArray)⟩,_⟩:=xx
 refine(by kernel_rfl:(F5 ns→Z61 vs→Jhi ns→Br (Xw n 1 1000) (3=Z75 n k ns vs t) (Br (!(Jp k).2.2) (13=Z75 n k ns vs t) (Br (bif Ln ns !=Z10 k then true else Ln vs !=(Jp k).2.1) (2=Z75 n k ns vs t) (∃(x:Nat),K14 x n k t ns vs∧Ksw x ns∧∀(x:Nat),Ksw x ns→Br (decide (Nc x<Z10 k)) (T2 (Z94 x ns) (ByteArray.size (Z27 ns x)≤1000000)∧Br (!Ys (Z27 ns x)) (8=Z75 n k ns vs t) (Z20 x∧∃(y:Nat),K1o x y n k t ns vs∧Ksw y ns∧Jz3 ns y x)) (∃(x:Nat),K14 x n k t ns vs∧Ktf x vs∧∀(x:Nat),Ktf x vs→Br (decide (Nc x<(Jp k).2.1)) (Z91 x vs∧Br (Xw (Z17 vs x) 0 999999999) (3=Z75 n k ns vs t) (Z20 x∧∃(y:Nat),K1o x y n k t ns vs∧Ktf y vs∧Jz9 vs y x)) (Br (!Lb t B0) (1=Z75 n k ns vs t) (0=Z75 n k ns vs t)))))))=_).mp ?_
 delta Z10 Z17 Z20 Z27 Z39 Z61 Z75 Z91 Z94 Vm F5 Jz9 Jz3 Ktf Jgz Ksw Jhi K2w K14 K1o Br Iw Bd T2 Tw Sf Si Ln Nc B0 Lb
 intro h1 h2 h3
 have hE1:Kr n 1 1000=bif Xw n 1 1000 then 3 else 0:=rfl
 have hQ:Jp k=Yu k:=rfl
 refine⟨fun h=> ?_,fun h=>⟨fun h4=> ?_,fun h4=> ?_⟩⟩
 ·have e:Kr n 1 1000=3:=by rw[hE1,h];rfl
  unfold Jd
  rw[if_pos (by dsimp only;rw[e];decide),e]
 ·have e:Kr n 1 1000=0:=by rw[hE1,h];rfl
  have hk:Uo k=false:=by
   cases hk:Uo k with
   |false=>rfl
   |true=>
    have:=(Dy hk).1
    have h4:(!(Yu k).2.2)=true:=h4
    rw[this] at h4;cases h4
  unfold Jd
  rw[if_neg (by dsimp only;rw[e];decide)]
  dsimp only
  rw[hk];rfl
 have e:Kr n 1 1000=0:=by rw[hE1,h];rfl
 have hk:Uo k=true:=by
  cases hk:Uo k with
  |true=>rfl
  |false=>
   have:=Jj7 hk
   have h4:(!(Yu k).2.2)=false:=h4
   rw[this] at h4;cases h4
 obtain⟨f1,f2,f3⟩:=Dy hk
 rw[←hQ] at f1 f2 f3
 have hc:Jd (n,k,ns,vs,t)=if ns.length=(Jh k).1.length∧(vs.length:Int)=(Jh k).2.1 then Jg [ckN ns,ckV vs,bif decide (0<t.size) then 1 else 0] else 2:=by
  unfold Jd
  rw[if_neg (by dsimp only;rw[e];decide)]
  dsimp only
  rw[hk,cond_true];rfl
 refine⟨fun h5=> ?_,fun h5=> ?_⟩
 ·rw[hc,if_neg fun q=> ?_]
  have a1:((ns.length:Int) !=((Jp k).1.size:Int))=false:=bne_eq_false_iff_eq.2 (by rw[f2];exact congrArg _ q.1)
  have a2:((vs.length:Int) !=(Jp k).2.1)=false:=bne_eq_false_iff_eq.2 (by rw[f3];exact q.2)
  have h5:(bif (ns.length:Int) !=((Jp k).1.size:Int) then true else(vs.length:Int) !=(Jp k).2.1)=true:=h5
  rw[a1,a2] at h5;cases h5
 have h5:(bif (ns.length:Int) !=((Jp k).1.size:Int) then true else(vs.length:Int) !=(Jp k).2.1)=false:=h5
 have a:=bn1 h5
 have a1:(ns.length:Int)=((Jp k).1.size:Int):=bne_eq_false_iff_eq.1 a.1
 have a2:(vs.length:Int)=(Jp k).2.1:=bne_eq_false_iff_eq.1 a.2
 rw[if_pos ⟨by rw[f2] at a1;omega,by rw[a2,f3]⟩] at hc
 refine⟨(0:Nat),by simp,⟨Nat.zero_le _,rfl⟩,fun(i:Nat) hi=>⟨fun h6=> ?_,fun h6=> ?_⟩⟩
 ·have h6:(i:Int)<((Jp k).1.size:Int):=of_decide_eq_true h6
  have hlt:i<ns.length:=by omega
  have hN:ckN (ns.drop i)=if(bif Ys (ns.getD i Jb) then(0:Int) else 8)=0 then ckN (ns.drop (i+1)) else bif Ys (ns.getD i Jb) then 0 else 8:=by
   rw[Jq (d:=Jb) hlt]
   exact Yv _ _
  refine⟨⟨by omega,by omega,h3 _ (Je hlt)⟩,fun h7=> ?_,fun h7=>⟨by omega,(i+1:Nat),by simp,⟨by omega, ?_⟩,by omega⟩⟩
  ·have h7:(!Ys (ns.getD i Jb))=true:=h7
   have h7:Ys (ns.getD i Jb)=false:=by simpa using h7
   rw[h7] at hN
   have:ckN ns=8:=by rw[←hi.2,hN];rfl
   rw[hc,Yv,this];rfl
  ·have h7:(!Ys (ns.getD i Jb))=false:=h7
   have h7:Ys (ns.getD i Jb)=true:=by simpa using h7
   rw[h7] at hN
   rw[←hi.2,hN];rfl
 ·have h6:¬(i:Int)<((Jp k).1.size:Int):=of_decide_eq_false h6
  have hN:ckN ns=0:=by rw[←hi.2,List.drop_eq_nil_of_le (by omega)];rfl
  refine⟨(0:Nat),by simp,⟨Nat.zero_le _,rfl⟩,fun(j:Nat) hj=>⟨fun h8=> ?_,fun h8=> ?_⟩⟩
  ·have h8:(j:Int)<(Jp k).2.1:=of_decide_eq_true h8
   have hlt:j<vs.length:=by omega
   have hV:ckV (vs.drop j)=if Kr (vs.getD j 0) 0 999999999=0 then ckV (vs.drop (j+1)) else Kr (vs.getD j 0) 0 999999999:=by
    rw[Jq (d:=(0:Int)) hlt]
    exact Yv _ _
   have hW:Kr (vs.getD j 0) 0 999999999=bif Xw (vs.getD j 0) 0 999999999 then 3 else 0:=rfl
   refine⟨by omega,fun h7=> ?_,fun h7=>⟨by omega,(j+1:Nat),by simp,⟨by omega, ?_⟩,by omega⟩⟩
   ·rw[hW,h7] at hV
    have:ckV vs=3:=by rw[←hj.2,hV];rfl
    rw[hc,Yv,hN,if_pos rfl,Yv,this];rfl
   ·rw[hW,h7] at hV
    rw[←hj.2,hV];rfl
  ·have h8:¬(j:Int)<(Jp k).2.1:=of_decide_eq_false h8
   have hV:ckV vs=0:=by rw[←hj.2,List.drop_eq_nil_of_le (by omega)];rfl
   have hz:(t.toList==({data:={toList:=[]}}:ByteArray).toList)= !decide (0<t.size):=J14 t
   rw[hz,hc,Yv,hN,if_pos rfl,Yv,hV,if_pos rfl]
   cases decide (0<t.size)
   ·exact⟨fun h=>(nomatch h),fun _=>rfl⟩
   ·exact⟨fun _=>rfl,fun h=>(nomatch h)⟩
abbrev K9b:=K9c.add Ucl
def Jm8 (e:Ev) (m:Nat):ByteArray:=Uj ((Dh e).take m) ⟨⟨[32]⟩⟩
theorem Jbg {sep x:List UInt8}:∀{xs:List (List UInt8)},xs≠[]→Lib.join (xs++[x]) sep=Lib.join xs sep++sep++x
 |[],h=>absurd rfl h
 |[a],_=>by simp[Lib.join,List.intercalate,List.intersperse]
 |a::b::r,_=>by
  have ih:=Jbg (sep:=sep) (x:=x) (xs:=b::r) (by simp)
  have e1:Lib.join (a::b::(r++[x])) sep=a++sep++Lib.join (b::(r++[x])) sep:=by simp[Lib.join,List.intercalate,List.intersperse]
  have e2:Lib.join (a::b::r) sep=a++sep++Lib.join (b::r) sep:=by simp[Lib.join,List.intercalate,List.intersperse]
  rw[List.cons_append,List.cons_append,e1,e2]
  rw[List.cons_append] at ih
  rw[ih]
  simp only[List.append_assoc]
theorem J0t {l:List Nat}:∀{m:Nat},(l.take m).sum≤l.sum:=by
 induction l with
 |nil=>intro m;simp
 |cons x l ih=>
  intro m
  cases m with
  |zero=>simp
  |succ m=>rw[List.take_succ_cons,List.sum_cons,List.sum_cons];have:=ih (m:=m);omega
theorem Jvj {e:Ev} (h:Xb e) (m:Nat):(Jm8 e m).size≤1000000:=by
 unfold Jm8 Uj
 show(Lib.join (((Dh e).take m).map (·.data.toList)) [32]).toArray.size≤_
 rw[List.size_toArray]
 refine Nat.le_trans (Jbh (sep:=[32]) rfl) (Nat.le_trans ?_ h.siz)
 rw[List.map_map]
 have:(((Dh e).take m).map ((fun x=>x.length+1)∘fun x:ByteArray=>x.data.toList))=((Dh e).map fun s=>s.size+1).take m:=by rw[List.map_take];rfl
 rw[this]
 exact J0t
theorem Je8 {e:Ev} {m:Nat} (h:m<(Dh e).length) (h0:0<m):Jm8 e (m+1)=bs ((Jm8 e m).data.toList++[32]++((Dh e).getD m Jb).data.toList):=by
 have ht:(Dh e).take (m+1)=(Dh e).take m++[(Dh e).getD m Jb]:=(Km (d:=Jb) h).symm
 unfold Jm8 Uj
 rw[ht,List.map_append,List.map_cons,List.map_nil,Jbg ?_]
 ·simp[bs]
 ·intro q
  have:=congrArg List.length q
  rw[List.length_map,List.length_take,List.length_nil] at this
  omega
theorem J8p {n:Int} {k:ByteArray} {ns:List ByteArray} {vs:List Int} {t:ByteArray} {i:Nat} (h:i<ns.length):(Dh (n,k,ns,vs,t)).getD (i+2) Jb=ns.getD i Jb:=by
 show(ns++vs.map Ux).getD i Jb=_
 rw[List.getD_eq_getElem?_getD,List.getElem?_append_left h,←List.getD_eq_getElem?_getD]
theorem J8o {n:Int} {k:ByteArray} {ns:List ByteArray} {vs:List Int} {t:ByteArray} {i:Nat} (h:i<vs.length):(Dh (n,k,ns,vs,t)).getD (ns.length+i+2) Jb=Ux (vs.getD i 0):=by
 show(ns++vs.map Ux).getD (ns.length+i) Jb=_
 rw[List.getD_eq_getElem?_getD,List.getElem?_append_right (by omega),Nat.add_sub_cancel_left,←List.getD_eq_getElem?_getD,Jd9 h]
theorem Jxr {n:Int} {k:ByteArray} {ns:List ByteArray} {vs:List Int} {t:ByteArray}:(Dh (n,k,ns,vs,t)).length=ns.length+vs.length+2:=by
 show(ns++vs.map Ux).length+2=_
 rw[List.length_append,List.length_map]
abbrev Kki (n:Int) (k:ByteArray) (ns:List ByteArray) (vs:List Int) (t:ByteArray):Nat→Option Ann:=fun id=>if id=0 then some {X:=Nat,σ:=fun i=>⟨3,[(1, .one (.ptr 2 0)),(3, .one (.str (Jm8 (n,k,ns,vs,t) (i+2)))),(4, .one (.int .i64 i))],[(2, .box 67 [.int .i64 n, .str k, .sl 0, .sl 1, .str t]),(0, .imm 9 .str ns),(1, .imm 3 sI vs)]⟩,inv:=fun i=>i≤ns.length,mu:=fun i=>ns.length-i}
 else if id=2 then some {X:=Nat,σ:=fun i=>⟨3,[(1, .one (.ptr 2 0)),(3, .one (.str (Jm8 (n,k,ns,vs,t) (ns.length+i+2)))),(5, .one (.int .i64 i))],[(2, .box 67 [.int .i64 n, .str k, .sl 0, .sl 1, .str t]),(0, .imm 9 .str ns),(1, .imm 3 sI vs)]⟩,inv:=fun i=>i≤vs.length,mu:=fun i=>vs.length-i}
 else none
def J9w (a:Int) (b:Bt) (c:Ls) (d:Li) (e:Bt) (f:Nat):=Jm8 (a,b,c,d,e) (List.length c+f+2)
def K7m (a:Int):=Array.mk ((Vd a).data.toList++[32])
def Kmr (a:Int) (b c:Bt) (d:Ls) (e:Li):=Si a (Sf b (Sf c (Sf d (e=e))))
theorem Kx6:Ok Tryz.prog 112 Kjs:=okW K9b Tryz.f112 (fun xx=>Kki xx.1.1 xx.1.2.1 xx.1.2.2.1 xx.1.2.2.2.1 xx.1.2.2.2.2) fun xx=>by
 obtain⟨⟨(n:Int),(k:ByteArray),(ns:List ByteArray),(vs:List Int),(t:ByteArray)⟩,_⟩:=xx
 refine(by kernel_rfl:(Xb (n,k,ns,vs,t)→(Kfh n∧Kfq n∧Nc (ByteArray.size (Vd n)+1)≤9223372036854775807∧Nc (ByteArray.size (ByteArray.mk (K7m n))+ByteArray.size k)≤9223372036854775807)∧∃(x:Nat),(ByteArray.mk (Array.mk ((K7m n).toList++Z11 k))=Jm8 (n,k,ns,vs,t) (x+2)∧0=Nc x∧Kmr n k t ns vs)∧Z39 x ns∧∀(x:Nat),Z39 x ns→Br (J6a x ns) ((Nc (ByteArray.size (Jm8 (n,k,ns,vs,t) (x+2))+1)≤9223372036854775807∧T2 (Z94 x ns) (Nc (ByteArray.size (ByteArray.mk (Array.mk ((Jm8 (n,k,ns,vs,t) (x+2)).data.toList++[32])))+ByteArray.size (Z27 ns x))≤9223372036854775807))∧Z20 x∧∃(y:Nat),(ByteArray.mk (Array.mk ((Array.mk ((Jm8 (n,k,ns,vs,t) (x+2)).data.toList++[32])).toList++(Z27 ns x).data.toList))=Jm8 (n,k,ns,vs,t) (y+2)∧Vm x y∧Kmr n k t ns vs)∧Z39 y ns∧Jz3 ns y x) (∃(x_1:Nat),(Jm8 (n,k,ns,vs,t) (x+2)=J9w n k ns vs t x_1∧0=Nc x_1∧Kmr n k t ns vs)∧x_1≤List.length vs∧∀(x:Nat),x≤List.length vs→Br (J0f x vs) ((Nc (ByteArray.size (J9w n k ns vs t x)+1)≤9223372036854775807∧T2 (Bd (Nc x) (Ln vs)) (Jmz<Z17 vs x∧Z17 vs x<Jm0∧Nc (ByteArray.size (ByteArray.mk (Array.mk ((J9w n k ns vs t x).data.toList++[32])))+ByteArray.size (Vd (Z17 vs x)))≤9223372036854775807))∧Z20 x∧∃(y:Nat),(ByteArray.mk (Array.mk ((Array.mk ((J9w n k ns vs t x).data.toList++[32])).toList++(Vd (Z17 vs x)).data.toList))=J9w n k ns vs t y∧Vm x y∧Kmr n k t ns vs)∧Kf3 y vs x) (J9w n k ns vs t x=V7 (n,k,ns,vs,t))))=_).mp ?_
 delta Z11 Z17 Z20 Z27 Z39 Z94 Vm J0f J6a Jz9 Jz3 J9w K7m Kf3 Kmr Jm0 Kfq Jmz Kfh Br Iw Bd T2 Sf Si Ln Nc B0
 intro h
 have hs:=Jvj h
 have hn: -999999999≤n∧n≤999999999:=h.num
 have hval:∀v∈vs,-999999999≤v∧v≤999999999:=h.val
 have hnn:ns.length≤1000:=h.nn
 have hnv:vs.length≤1000:=h.nv
 have hL:(Dh (n,k,ns,vs,t)).length=ns.length+vs.length+2:=Jxr
 have p1:Jm8 (n,k,ns,vs,t) 1=Vd n:=by
  show(⟨(Lib.join [(Ux n).data.toList] [32]).toArray⟩:ByteArray)=_
  rw[show Lib.join [(Ux n).data.toList] [32]=(Ux n).data.toList by simp[Lib.join,List.intercalate,List.intersperse]]
  rfl
 have p2:=Je8 (e:=(n,k,ns,vs,t)) (m:=1) (by omega) (by omega)
 rw[p1,show(Dh (n,k,ns,vs,t)).getD 1 Jb=k from rfl] at p2
 have t1:=F9 n (by omega) (by omega)
 have hk:k.size≤1000000:=by
  have:=hs 2
  rw[p2,Va,List.length_append] at this
  have e:k.data.toList.length=k.size:=rfl
  omega
 have zs:∀(s:ByteArray),(⟨⟨s.data.toList++[32]⟩⟩:ByteArray).size=s.size+1:=fun s=>by
  rw[szl,List.length_append];rfl
 refine⟨⟨by omega,by omega,by omega,by rw[zs];omega⟩,(0:Nat),⟨p2.symm,rfl,rfl,rfl,rfl,rfl,rfl⟩,Nat.zero_le _,fun(i:Nat) hi=>⟨fun h1=> ?_,fun h1=> ?_⟩⟩
 ·have hlt:i<ns.length:=by simpa using h1
  have q:=Je8 (e:=(n,k,ns,vs,t)) (m:=i+2) (by omega) (by omega)
  rw[J8p hlt] at q
  have q1:=hs (i+2)
  have q2:(ns.getD i Jb).size≤1000000:=by
   have:=hs (i+2+1)
   rw[q,Va,List.length_append] at this
   have e:(ns.getD i Jb).data.toList.length=(ns.getD i Jb).size:=rfl
   omega
  have q2:(ns.getD i {data:={toList:=[]}}).size≤1000000:=q2
  exact⟨⟨by omega,by omega,by omega,by rw[zs];omega⟩,by omega,(i+1:Nat),⟨q.symm,rfl,rfl,rfl,rfl,rfl,rfl⟩,by omega,by omega⟩
 ·have hlt:¬i<ns.length:=by simpa using h1
  have e:i=ns.length:=by omega
  subst e
  refine⟨(0:Nat),⟨rfl,rfl,rfl,rfl,rfl,rfl,rfl⟩,Nat.zero_le _,fun(j:Nat) hj=>⟨fun h2=> ?_,fun h2=> ?_⟩⟩
  ·have hlt:j<vs.length:=by simpa using h2
   have q:=Je8 (e:=(n,k,ns,vs,t)) (m:=ns.length+j+2) (by omega) (by omega)
   rw[J8o hlt] at q
   have q1:=hs (ns.length+j+2)
   have hv:=hval _ (Je (d:=(0:Int)) hlt)
   have t2:=F9 (vs.getD j 0) (by omega) (by omega)
   exact⟨⟨by omega,by omega,by omega,by omega,by omega,by rw[zs];omega⟩,by omega,(j+1:Nat),⟨q.symm,rfl,rfl,rfl,rfl,rfl,rfl⟩,by omega,by omega⟩
  ·have hlt:¬j<vs.length:=by simpa using h2
   unfold Jm8 V7
   rw[List.take_of_length_le (by omega)]
abbrev K9a:=K9b.add Kx6
theorem Jst {x:List UInt8}:∀{xs:List (List UInt8)},Lib.join (xs++[x]) []=Lib.join xs []++x
 |[]=>by simp[Lib.join,List.intercalate,List.intersperse]
 |a::r=>by rw[Jbg (by simp)];simp
theorem Jvz {l:List Ev} {k:Nat} (h:k<l.length):Jie (l.take (k+1))=bs ((Jie (l.take k)).data.toList++(Jtq (l.getD k ev0)).data.toList):=by
 unfold Jie Uj
 rw[←Km (d:=ev0) h,List.map_append,List.map_append,List.map_cons,List.map_nil,List.map_cons,List.map_nil]
 have:Jb.data.toList=[]:=rfl
 rw[this,Jst]
 simp[bs]
theorem Jl7 {l:List Ev} (hb:∀e∈l,Xb e) (hl:l.length≤1001):(Jie l).size≤2002000000:=by
 show(Lib.join _ _).toArray.size≤_
 rw[List.size_toArray]
 refine Nat.le_trans (Jfl (b:=2000000) fun z hz=> ?_) ?_
 ·rw[List.map_map] at hz
  obtain⟨e,he,rfl⟩:=List.mem_map.1 hz
  have:=Jlo (hb e he)
  have:=Jeg (hb e he)
  show(Jtq e).size≤2000000
  omega
 ·rw[List.length_map,List.length_map];omega
def Ki4:Con:={args:=[.val false (.list 67 sEv)],ress:=[tS],owns:=[],pre:=fun(l,_)=>[l.length≤1001,∀e∈l,Xb e],spec:=fun(l,_)=>(Jie l,())}
abbrev Kzs (l:List Ev):Ann:={X:=Nat,σ:=fun i=>⟨1,[(0, .one (.sl 0)),(3, .one (.str (Jie (l.take i)))),(4, .one (.int .i64 i))],[(0, .imm 67 sEv l)]⟩,inv:=fun i=>i≤l.length,mu:=fun i=>l.length-i}
def J4i (a:List Ev) (b:Nat):=V7 (Jm4 a b)
def Kel (a:List Ev) (b:Nat):=Xb (Jm4 a b)
def Kee (a:List Ev) (b:Nat):=ByteArray.size (J4i a b)
def Kec (a:List Ev) (b:Nat):=Jgr (J4i a b)
def Kdo (a:Nat) (b:List Ev):=Array.mk ((Jie (List.take a b)).data.toList++(J4i b a).data.toList)
def Kdb (a:Nat) (b:List Ev):=Array.mk ((Kdo a b).toList++[35])
def Kbi (a:Nat) (b:List Ev):=Array.mk ((Kdb a b).toList++(Kec b a).data.toList)
theorem K8e:Ok Tryz.prog 37 Ki4:=okW K9a Tryz.f37 (fun xx=>Y4 (Kzs xx.1)) fun xx=>by
 obtain⟨(l:List Ev),_⟩:=xx
 refine(by kernel_rfl:(List.length l≤1001→Kmv l→∃(x:Nat),(B0=Jie (List.take x l)∧0=Nc x∧l=l)∧x≤List.length l∧∀(x:Nat),x≤List.length l→Br (Z97 x l) (T2 (Z9 x l) (Kel l x∧Nc (ByteArray.size (Jie (List.take x l))+Kee l x)≤9223372036854775807∧Nc (ByteArray.size (ByteArray.mk (Kdo x l))+1)≤9223372036854775807∧T2 (Z9 x l) (Kel l x∧Kee l x≤1000000∧Nc (ByteArray.size (ByteArray.mk (Kdb x l))+ByteArray.size (Kec l x))≤9223372036854775807∧Nc (ByteArray.size (ByteArray.mk (Kbi x l))+1)≤9223372036854775807))∧Z20 x∧∃(y:Nat),(ByteArray.mk (Array.mk ((Kbi x l).toList++[10]))=Jie (List.take y l)∧Vm x y∧l=l)∧J25 y l x) (Jie (List.take x l)=Jie l))=_).mp ?_
 delta Z9 Z20 Z97 Vm Jyj Di J5z J5y J5x Jz2 J25 Jye Kmv Jm4 J4i Kel Kee Kec Kdo Kdb Kbi Br Iw Bd T2 Ln Nc B0 E2
 intro hl hb
 have hz:((0:Int),({data:={toList:=[]}}:ByteArray),([]:List ByteArray),([]:List Int),({data:={toList:=[]}}:ByteArray))=ev0:=rfl
 simp only[hz,Prod.eta]
 refine⟨(0:Nat),⟨rfl,rfl,trivial⟩,Nat.zero_le _,fun(i:Nat) hi=>⟨fun h1=> ?_,fun h1=> ?_⟩⟩
 ·have hlt:i<l.length:=by simpa using h1
  have he:=hb _ (Je (d:=ev0) hlt)
  have q:=Jvz hlt
  have s1:(Jie (l.take i)).size≤2002000000:=Jl7 (fun e he=>hb e (List.mem_of_mem_take he)) (by rw[List.length_take];omega)
  have s2:=Jeg he
  have s3:=Jes (V7 (l.getD i ev0))
  have e1:(Jie (l.take i)).data.toList.length=(Jie (l.take i)).size:=rfl
  have e2:(V7 (l.getD i ev0)).data.toList.length=(V7 (l.getD i ev0)).size:=rfl
  have e3:(Jgr (V7 (l.getD i ev0))).data.toList.length=(Jgr (V7 (l.getD i ev0))).size:=rfl
  refine⟨⟨by omega,by omega,he,by omega, ?_,by omega,by omega,he,s2, ?_, ?_⟩,by omega,(i+1:Nat),⟨?_,rfl,trivial⟩,by omega,by omega⟩
  ·rw[szl,List.length_append,e1,e2];omega
  ·rw[szl,List.length_append,List.length_append,e1,e2,s3,List.length_singleton];omega
  ·rw[szl,List.length_append,List.length_append,List.length_append,e1,e2,e3,s3,List.length_singleton];omega
  ·rw[q]
   unfold Jtq
   show bs _=bs _
   congr 1
   rw[show(bs ((V7 (l.getD i ev0)).data.toList++[35]++(Jgr (V7 (l.getD i ev0))).data.toList++[10])).data.toList=(V7 (l.getD i ev0)).data.toList++[35]++(Jgr (V7 (l.getD i ev0))).data.toList++[10] from rfl]
   simp only[List.append_assoc]
 ·have hlt:¬i<l.length:=by simpa using h1
  rw[List.take_of_length_le (by omega)]
abbrev Ud7:=K9a.add K8e
abbrev K89:=Ud7
def emB (w:ByteArray):Bool:=w.toList==Jb.toList
def dgB (w:ByteArray):Bool:=(Jl w).2
def dgN (w:ByteArray):Int:=(Jl w).1
theorem Xn {w:ByteArray} {l:List ByteArray} {b:Bool} (h:emB w=false):Uq (w::l,b)=(w,l,b):=by
 show(bif emB w then _ else _)=_
 rw[h];rfl
theorem Ja3 {w:ByteArray} {l:List ByteArray} {b:Bool} (h:emB w=true):Uq (w::l,b)=(Jb,[],true):=by
 show(bif emB w then _ else _)=_
 rw[h];rfl
theorem Jrz (l:List ByteArray):(Uq (l,true)).2.2=true:=by
 cases l with
 |nil=>rfl
 |cons w l=>
  cases h:emB w with
  |true=>rw[Ja3 h]
  |false=>rw[Xn h]
theorem Dp:∀(n:Nat) (o:List ByteArray),(Vx n ([],true) o).2=([],true)
 |0,_=>rfl
 |n+1,o=>Dp n _
theorem Hs:∀(n:Nat) (l:List ByteArray) (o:List Int),(Yx n (l,true) o).2.2=true
 |0,_,_=>rfl
 | n + 1, l, o => by
  have e:(Jdq (l,true)).2=((Jdq (l,true)).2.1,true):=by
   unfold Jdq
   rw[Jrz];rfl
  rw[Yx,e]
  exact Hs n _ _
theorem Jab:∀(n:Nat) (l:List ByteArray) (b:Bool) (o:List ByteArray),n≤l.length→(∀w∈l.take n,emB w=false)→Vx n (l,b) o=(o++l.take n,l.drop n,b)
 |0,_,_,_,_,_=>by simp[Vx]
 |n+1,[],_,_,h,_=>by simp at h
 |n+1,w::l,b,o,h,hw=>by
  rw[Vx,Xn (hw w (by simp))]
  have:=Jab n l b (o++[w]) (by simpa using h) fun v hv=>hw v (by simp[hv])
  rw[this];simp
theorem Jhu:∀(n:Nat) (l:List ByteArray) (b:Bool) (o:List ByteArray),¬(n≤l.length∧∀w∈l.take n,emB w=false)→(Vx n (l,b) o).2=([],true)
 |0,_,_,_,h=>absurd ⟨Nat.zero_le _,by simp⟩ h
 |n+1,[],_,o,_=>Dp n _
 | n + 1, w :: l, b, o, h => by
  rw[Vx]
  cases hw:emB w with
  |true=>rw[Ja3 hw];exact Dp n _
  |false=>
   rw[Xn hw]
   refine Jhu n l b _ fun q=>h ⟨by simpa using q.1,fun v hv=> ?_⟩
   rw[List.take_succ_cons] at hv
   rcases List.mem_cons.1 hv with rfl|hv
   ·exact hw
   ·exact q.2 v hv
theorem J5b {w:ByteArray} (h:dgB w=true):emB w=false:=by
 cases q:emB w with
 |false=>rfl
 |true=>
  have:=Y9 q
  subst this
  exact absurd h (by decide+kernel)
theorem Jhv {w:ByteArray} {l:List ByteArray} (h:dgB w=true):Jdq (w::l,false)=(dgN w,l,false):=by
 unfold Jdq
 rw[Xn (J5b h)]
 show(_,_,bif false then true else !dgB w)=_
 rw[h];rfl
theorem Juh {w:ByteArray} {l:List ByteArray} (h:dgB w=false):(Jdq (w::l,false)).2.2=true:=by
 unfold Jdq
 cases q:emB w with
 |true=>rw[Ja3 q];rfl
 |false=>
  rw[Xn q]
  show(bif false then true else !dgB w)=_
  rw[h];rfl
theorem Jaa:∀(n:Nat) (l:List ByteArray) (o:List Int),n≤l.length→(∀w∈l.take n,dgB w=true)→Yx n (l,false) o=(o++(l.take n).map dgN,l.drop n,false)
 |0,_,_,_,_=>by simp[Yx]
 |n+1,[],_,h,_=>by simp at h
 |n+1,w::l,o,h,hw=>by
  rw[Yx,Jhv (hw w (by simp))]
  have:=Jaa n l (o++[dgN w]) (by simpa using h) fun v hv=>hw v (by simp[hv])
  rw[this];simp
theorem Jhr:∀(n:Nat) (l:List ByteArray) (o:List Int),¬(n≤l.length∧∀w∈l.take n,dgB w=true)→(Yx n (l,false) o).2.2=true
 |0,_,_,h=>absurd ⟨Nat.zero_le _,by simp⟩ h
 |n+1,[],o,_=>Hs n _ _
 | n + 1, w :: l, o, h => by
  rw[Yx]
  cases hw:dgB w with
  |false=>
   have e:(Jdq (w::l,false)).2=((Jdq (w::l,false)).2.1,true):=Prod.ext rfl (Juh hw)
   rw[e];exact Hs n _ _
  |true=>
   rw[Jhv hw]
   refine Jhr n l _ fun q=>h ⟨by simpa using q.1,fun v hv=> ?_⟩
   rw[List.take_succ_cons] at hv
   rcases List.mem_cons.1 hv with rfl|hv
   ·exact hw
   ·exact q.2 v hv
theorem J7h {k:ByteArray} (h:Uo k=true):emB k=false:=by
 cases q:emB k with
 |false=>rfl
 |true=>
  have:=Y9 q
  subst this
  exact absurd h (by rw[show Uo Jb=false by kernel_rfl];simp)
def nrK (k:ByteArray):Nat:=(Jh k).1.length
def nvK (k:ByteArray):Nat:=(Jh k).2.1.toNat
def Jub (w0:ByteArray) (l:List ByteArray):Prop:=l.length=nrK w0+nvK w0∧(∀w∈l.take (nrK w0),emB w=false)∧∀w∈l.drop (nrK w0),dgB w=true
theorem Jlr {w0:ByteArray} (hk:Uo w0=true) (l:List ByteArray):Um (w0::l)=((0,w0,(Vx (nrK w0) (l,false) []).1,(Yx (nvK w0) (Vx (nrK w0) (l,false) []).2 []).1,Jb),bif !(Yx (nvK w0) (Vx (nrK w0) (l,false) []).2 []).2.2 then((Yx (nvK w0) (Vx (nrK w0) (l,false) []).2 []).2.1.length:Int)==0 else false):=by
 have e:Uq (w0::l,false)=(w0,l,false):=Xn (J7h hk)
 unfold Um Jbb X1
 rw[e,hk];rfl
theorem Jvg {w0:ByteArray} (hk:Uo w0=true) {l:List ByteArray} (h:Jub w0 l):Um (w0::l)=((0,w0,l.take (nrK w0),(l.drop (nrK w0)).map dgN,Jb),true):=by
 obtain⟨h1,h2,h3⟩:=h
 have e1:Vx (nrK w0) (l,false) []=(l.take (nrK w0),l.drop (nrK w0),false):=by
  rw[Jab _ _ _ _ (by omega) h2];rfl
 have e2:Yx (nvK w0) (l.drop (nrK w0),false) []=((l.drop (nrK w0)).map dgN,[],false):=by
  have e3:(l.drop (nrK w0)).drop (nvK w0)=[]:=List.drop_eq_nil_of_le (by rw[List.length_drop];omega)
  rw[Jaa _ _ _ (by rw[List.length_drop];omega) (fun w hw=>h3 w (List.mem_of_mem_take hw)),List.take_of_length_le (by rw[List.length_drop];omega),e3];rfl
 rw[Jlr hk,e1,e2];rfl
theorem J09 {w0:ByteArray} (hk:Uo w0=true) {l:List ByteArray} (h:¬Jub w0 l):(Um (w0::l)).2=false:=by
 rw[Jlr hk]
 show(bif !_ then _ else _)=_
 by_cases q1:nrK w0≤l.length∧∀w∈l.take (nrK w0),emB w=false
 ·rw[Jab _ _ _ _ q1.1 q1.2]
  by_cases q2:nvK w0≤(l.drop (nrK w0)).length∧∀w∈(l.drop (nrK w0)).take (nvK w0),dgB w=true
  ·rw[Jaa _ _ _ q2.1 q2.2]
   have q3:=q2.1
   rw[List.length_drop] at q3
   show((((l.drop (nrK w0)).drop (nvK w0)).length:Int)==0)=false
   rw[List.length_drop,List.length_drop]
   refine beq_eq_false_iff_ne.2 fun q4=>h ⟨by have:=q1.1;omega,q1.2,fun w hw=>q2.2 w ?_⟩
   rw[List.take_of_length_le (by rw[List.length_drop];omega)]
   exact hw
  ·rw[Jhr _ _ _ q2];rfl
 ·rw[show Vx (nrK w0) (l,false) []=((Vx (nrK w0) (l,false) []).1,[],true) from Prod.ext rfl (Jhu _ _ _ _ q1)]
  dsimp only
  rw[Hs];rfl
theorem Jlq {w0:ByteArray} (hk:Uo w0=false) (l:List ByteArray):Um (w0::l)=(evz,false):=by
 unfold Um
 have:Uo (Uq (w0::l,false)).1=false:=by
  cases q:emB w0 with
  |true=>rw[Ja3 q];kernel_rfl
  |false=>rw[Xn q];exact hk
 rw[this];rfl
theorem J7l (k:ByteArray):(Jp k).1.size≤3∧0≤(Jp k).2.1∧(Jp k).2.1≤4:=by
 cases h:Uo k with
 |true=>
  obtain⟨h1,h2,h3⟩:=Dy h
  have:=Dx k
  show(Yu k).1.size≤3∧0≤(Yu k).2.1∧(Yu k).2.1≤4
  omega
 | false =>
  have hne:∀w:ByteArray,Uo w=true→(k.toList==w.toList)=false:=fun w hw=>by
   cases hc:k.toList==w.toList with
   |false=>rfl
   |true=>
    have:=Y9 hc
    subst this
    rw[hw] at h;cases h
  unfold Jp Yu
  rw[hne Jy (by kernel_rfl),hne Ue (by kernel_rfl),hne Ku (by kernel_rfl),hne Uc (by kernel_rfl),hne Vq (by kernel_rfl),hne Jz (by kernel_rfl),hne Jv (by kernel_rfl),hne Kh (by kernel_rfl),hne Kg (by kernel_rfl),hne Ji (by kernel_rfl),hne J1 (by kernel_rfl)]
  decide
theorem Jk8 {w0:ByteArray} {l:List ByteArray} (h:Jub w0 l) {j:Nat} (hj:j<l.length):(j<nrK w0→emB (l.getD j Jb)=false)∧(nrK w0≤j→dgB (l.getD j Jb)=true)∧emB (l.getD j Jb)=false:=by
 obtain⟨h1,h2,h3⟩:=h
 have a:j<nrK w0→emB (l.getD j Jb)=false:=fun q=>h2 _ (by
  have:(l.take (nrK w0)).getD j Jb=l.getD j Jb:=by rw[List.getD_eq_getElem?_getD,List.getElem?_take_of_lt q,←List.getD_eq_getElem?_getD]
  rw[←this]
  exact Je (by rw[List.length_take];omega))
 have b:nrK w0≤j→dgB (l.getD j Jb)=true:=fun q=>h3 _ (by
  have:(l.drop (nrK w0)).getD (j-nrK w0) Jb=l.getD j Jb:=by rw[List.getD_eq_getElem?_getD,List.getElem?_drop,show nrK w0+(j-nrK w0)=j by omega,←List.getD_eq_getElem?_getD]
  rw[←this]
  exact Je (by rw[List.length_drop];omega))
 refine⟨a,b, ?_⟩
 by_cases q:j<nrK w0
 ·exact a q
 ·exact J5b (b (by omega))
theorem Jug {α:Type} {d:α} {l:List α} {i:Nat} (h1:1≤i) (h:i-1<l.length):l.take (i-1)++[l.getD (i-1) d]=l.take (i+1-1):=by
 rw[Km h,show i-1+1=i+1-1 by omega]
def U9 (s:ByteArray):Ev×Bool:=bif (Um (Jj s 32)).2 then Um (Jj s 32) else(evz,false)
def J73:Con:={args:=[aS],ress:=[(true,sEv),Bo],owns:=[],pre:=fun(s,_)=>[s.size≤1000000],spec:=fun(s,_)=>((U9 s).1,(U9 s).2,())}
abbrev Kj6 (ws:List ByteArray):Ann:={X:=Nat,σ:=fun i=>⟨6,[(2, .one (.ptr 0 0)),(4, .one (.sl 1)),(5, .one (.ptr 2 0)),(6, .one (.int .i64 (1+((Jp (ws.getD 0 Jb)).1.size:Int)+(Jp (ws.getD 0 Jb)).2.1))),(7, .one (.ptr 3 0)),(8, .one (.int .i64 i))],[(0, .box 67 [.int .i64 0, .str Jb, .val (.slice none 0 0), .val (.slice none 0 0), .str Jb]),(2, .box 208 [.str (Jp (ws.getD 0 Jb)).1, .int .i64 (Jp (ws.getD 0 Jb)).2.1, .bool (Jp (ws.getD 0 Jb)).2.2]),(3, .box 67 [.int .i64 0, .str (ws.getD 0 Jb), .sl 4, .sl 5, .str Jb]),(1, .imm 9 .str ws),(4, .own 9 .str (((ws.drop 1).take (nrK (ws.getD 0 Jb))).take (i-1))),(5, .own 3 sI (((ws.drop (1+nrK (ws.getD 0 Jb))).map dgN).take (i-1-nrK (ws.getD 0 Jb))))]⟩,inv:=fun i=>1≤i∧i≤ws.length∧(∀w∈((ws.drop 1).take (nrK (ws.getD 0 Jb))).take (i-1),emB w=false)∧∀w∈(ws.drop (1+nrK (ws.getD 0 Jb))).take (i-1-nrK (ws.getD 0 Jb)),dgB w=true,mu:=fun i=>ws.length-i}
def Jyk (a:Bt):=Ln (Jj a 32)
def Ktr (a:Bt):=List.length (Jj a 32)
def Kgz (a:Bt) (b:Nat):=List.getD (Jj a 32) b B0
def Ktm (a:Nat) (b:Bt):=Bd (Nc a) (Jyk b)
def Jq7 (a:Bt):=List.getD (Jj a 32) 0 B0
def J56 (a:Bt):=List.getD (Jj a 32) 0 Jb
def J51 (a:Bt):=Tw (Bd 0 (Jyk a))
def Km4 (a:Bt):=Jp (Jq7 a)
def Kti (a:Bt):=nrK (J56 a)
def Km3 (a:Bt):=(Jp (J56 a)).1
def K7x (a:Bt):=(Km4 a).2.1
def K7w (a:Bt):=(Jp (J56 a)).2
def K7v (a:Bt):=(Km4 a).2.2
def Ktc (a:Bt):=(K7w a).2
def Km2 (a:Bt):=(K7w a).1
def K7k (a:Bt):=Nc (ByteArray.size (Km3 a))
def K7i (a:Nat) (b:Bt):=a-1-Kti b
def K61 (a:Bt):=1+Nc (ByteArray.size (Km4 a).1)
def Krs (a:Bt):=Di=(U9 a).1∧false=(U9 a).2
def K5w (a:Bt):=List.drop (1+Kti a) (Jj a 32)
def Kpv (a:Bt):=K61 a+K7x a
def Klf (a:Bt):=1+K7k a+Km2 a
def J5q (a:Nat) (b:Bt):=List.take (a-1) (List.take (Kti b) (List.drop 1 (Jj b 32)))
def K16 (a:Nat) (b:Bt):=List.length (J5q a b)
def J9f (a:Nat) (b:Bt):=List.take (K7i a b) (List.map dgN (K5w b))
def K0t (a:Nat) (b:Bt):=List.length (J9f a b)
def J3w (a:Nat) (b:Bt):=1≤a∧a≤Ktr b∧(∀(w:ByteArray),w∈J5q a b→emB w=false)∧∀(w:ByteArray),w∈List.take (K7i a b) (K5w b)→dgB w=true
def Kcr (a:Nat) (b:Bt) (c:Nat):=J3w a b∧Ktr b-a<Ktr b-c
theorem Kx2:Ok Tryz.prog 116 J73:=okW K89 Tryz.f116 (fun xx=>Y4 (Kj6 (Jj xx.1 32))) fun xx=>by
 obtain⟨(s:ByteArray),_⟩:=xx
 refine(by kernel_rfl:(ByteArray.size s≤1000000→(ByteArray.size s≤1000000∧Bd 32 256)∧J51 s∧(Iw (K61 s)∧Iw (Kpv s))∧Br (bif !K7v s then true else Jyk s !=Kpv s) (Krs s) (J51 s∧∃(x:Nat),(Kpv s=Klf s∧1=Nc x∧Si 0 (B0=Jb∧Sf Vh (Sf Vh (B0=Jb∧(Km4 s).1=Km3 s∧K7x s=Km2 s∧K7v s=Ktc s∧Si 0 (Jq7 s=J56 s∧B0=Jb∧Sf (Jj s 32) (K16 x s=0∧K0t x s=0))))))∧J3w x s∧∀(x:Nat),J3w x s→Br (decide (Nc x<Klf s)) (Tw (Ktm x s)∧Br (Lb (Kgz s x) B0) (Krs s) (Br (decide (Nc x≤K7k s)) (T2 (Ktm x s) ((K16 x s+1)*16≤140737488355328)∧Z20 x∧∃(y:Nat),Si (Klf s) (Vm x y∧Si 0 (Sf Jb (Sf Vh (Sf Vh (Sf Jb (Sf (Km3 s) (Si (Km2 s) (Sf (Ktc s) (Si 0 (Sf (J56 s) (Sf Jb (Sf (Jj s 32) (J5q x s++[Kgz s x]=J5q y s∧J9f x s=J9f y s)))))))))))))∧Kcr y s x) (T2 (Ktm x s) (ByteArray.size (Kgz s x)≤1000000)∧Br (!(Jl (Kgz s x)).2) (Krs s) ((K0t x s+1)*8≤140737488355328∧Z20 x∧∃(y:Nat),Si (Klf s) (Vm x y∧Si 0 (Sf Jb (Sf Vh (Sf Vh (Sf Jb (Sf (Km3 s) (Si (Km2 s) (Sf (Ktc s) (Si 0 (Sf (J56 s) (Sf Jb (Sf (Jj s 32) (J5q x s=J5q y s∧J9f x s++[(Jl (Kgz s x)).1]=J9f y s)))))))))))))∧Kcr y s x)))) ((0,J56 s,J5q x s,J9f x s,Jb)=(U9 s).1∧true=(U9 s).2)))=_).mp ?_
 delta Z20 Vm Jyk Vh Ktr Kgz Ktm Di Jq7 J56 J51 Km4 Kti Km3 K7x K7w K7v Ktc Km2 K7k K7i K61 Krs K5w Kpv Klf J5q K16 J9f K0t J3w Kcr Br Iw Bd T2 Tw Sf Si Ln Nc B0 Lb
 intro hs
 have hsz:∀w∈Jj s 32,w.size≤1000000:=by
  intro w hw
  obtain⟨v,hv,rfl⟩:=List.mem_map.1 hw
  have:=Lu _ _ _ hv
  have h4:s.data.toList.length=s.size:=rfl
  rw[Va]
  omega
 have hcnt:(Jj s 32).length≤1000001:=by
  unfold Jj
  rw[List.length_map]
  have:=Ja6 (UInt8.ofNat (32:Int).toNat) s.data.toList
  have h4:s.data.toList.length=s.size:=rfl
  omega
 have hne:Jj s 32≠[]:=fun q=>Jac _ _ (List.map_eq_nil_iff.1 q)
 have eP:U9 s=bif (Um (Jj s 32)).2 then Um (Jj s 32) else(evz,false):=rfl
 generalize Jj s 32=ws at hsz hcnt hne eP⊢
 cases ws with
 |nil=>exact absurd rfl hne
 | cons w0 l =>
  have hd:(w0::l).drop (1+nrK w0)=l.drop (nrK w0):=by rw[Nat.add_comm];rfl
  have hg:(w0::l).getD 0 ({data:={toList:=[]}}:ByteArray)=w0:=rfl
  have hg2:(w0::l).getD 0 Jb=w0:=rfl
  have hd1:(w0::l).drop 1=l:=rfl
  have hF:=J7l w0
  simp only[hg,hg2,hd,hd1]
  have hbad:¬(Uo w0=true∧Jub w0 l)→U9 s=(evz,false):=fun q=>by
   rw[eP]
   cases hk:Uo w0 with
   |false=>rw[Jlq hk];rfl
   |true=>rw[J09 hk fun hw=>q ⟨hk,hw⟩];rfl
  have hres:∀{p:Prop},U9 s=(evz,false)→(((0:Int),({data:={toList:=[]}}:ByteArray),([]:List ByteArray),([]:List Int),({data:={toList:=[]}}:ByteArray))=(U9 s).fst∧false=(U9 s).snd):=fun q=>by rw[q];exact⟨rfl,rfl⟩
  have hl0:(w0::l).length=l.length+1:=rfl
  simp only[hl0] at hcnt⊢
  refine⟨⟨hs,by decide,by decide⟩,by omega,by omega,fun h=>hres (p:=True) (hbad fun q=> ?_),fun h=> ?_⟩
  ·obtain⟨f1,f2,f3⟩:=Dy q.1
   have f1:(Jp w0).2.2=true:=f1
   have f2:(Jp w0).1.size=nrK w0:=f2
   have f3:(Jp w0).2.1=(Jh w0).2.1:=f3
   rw[f1] at h
   have h:(((l.length+1:Nat):Int) !=1+((Jp w0).1.size:Int)+(Jp w0).2.1)=true:=h
   have h:=bne_iff_ne.1 h
   have:=q.2.1
   have hB:=Dx w0
   have hv:nvK w0=(Jh w0).2.1.toNat:=rfl
   omega
  have hb:=bn1 h
  have hkn:(Jp w0).2.2=true:=by simpa using hb.1
  have hk:Uo w0=true:=by
   cases hk:Uo w0 with
   |true=>rfl
   |false=>exact absurd hkn (by rw[show(Jp w0).2.2=false from Jj7 hk];simp)
  have hln:((l.length+1:Nat):Int)=1+((Jp w0).1.size:Int)+(Jp w0).2.1:=bne_eq_false_iff_eq.1 hb.2
  have f2:(Jp w0).1.size=nrK w0:=(Dy hk).2.1
  have f3:(Jp w0).2.1=(Jh w0).2.1:=(Dy hk).2.2
  have hB:=Dx w0
  have hv:nvK w0=(Jh w0).2.1.toNat:=rfl
  have hlen:l.length=nrK w0+nvK w0:=by omega
  have hM:(l.take (nrK w0)).length=nrK w0:=by rw[List.length_take];omega
  have hV:((l.drop (nrK w0)).map dgN).length=nvK w0:=by rw[List.length_map,List.length_drop];omega
  have hgx:∀x,1≤x→(w0::l).getD x Jb=l.getD (x-1) Jb:=fun x hx=>by
   obtain⟨y,rfl⟩:∃y,x=y+1:=⟨x-1,by omega⟩
   rfl
  refine⟨by omega,(1:Nat),by(repeat' first|exact rfl|exact trivial|apply And.intro)<;>simp,⟨Nat.le_refl _,by omega,by simp,by simp⟩,fun(x:Nat) hx=>⟨fun hlt=> ?_,fun hlt=> ?_⟩⟩
  ·obtain⟨i1,i2,i3,i4⟩:=hx
   have hlt:(x:Int)<1+((Jp w0).1.size:Int)+(Jp w0).2.1:=of_decide_eq_true hlt
   have hxl:x-1<l.length:=by omega
   have hgb:(w0::l).getD x ({data:={toList:=[]}}:ByteArray)=l.getD (x-1) Jb:=hgx x i1
   have hzx:(l.getD (x-1) Jb).size≤1000000:=hsz _ (List.mem_cons_of_mem _ (Je hxl))
   simp only[hgb]
   refine⟨by omega,fun h2=>hres (p:=True) (hbad fun q=> ?_),fun h2=>⟨fun h3=> ?_,fun h3=> ?_⟩⟩
   ·have h2:emB (l.getD (x-1) Jb)=true:=h2
    rw[(Jk8 q.2 hxl).2.2] at h2;cases h2
   ·have h2:emB (l.getD (x-1) Jb)=false:=h2
    have h3:(x:Int)≤((Jp w0).1.size:Int):=of_decide_eq_true h3
    have hx1:x-1<(l.take (nrK w0)).length:=by omega
    have hgt:(l.take (nrK w0)).getD (x-1) Jb=l.getD (x-1) Jb:=by rw[List.getD_eq_getElem?_getD,List.getElem?_take_of_lt (by omega),←List.getD_eq_getElem?_getD]
    have ht:=Jug (d:=Jb) i1 hx1
    rw[hgt] at ht
    have hz:x-1-nrK w0=0:=by omega
    have hz2:x+1-1-nrK w0=0:=by omega
    refine⟨⟨by omega,by omega,by rw[List.length_take];omega⟩,by omega,(x+1:Nat),by(repeat' first|exact rfl|exact trivial|exact ht|apply And.intro)<;>first|(push_cast;rfl)|(rw[hz,hz2]),⟨by omega,by omega,fun w hw=> ?_,by rw[hz2];simp⟩,by omega⟩
    rw[←ht] at hw
    rcases List.mem_append.1 hw with hw|hw
    ·exact i3 w hw
    ·rw[List.mem_singleton.1 hw];exact h2
   ·have h3:¬(x:Int)≤((Jp w0).1.size:Int):=of_decide_eq_false h3
    refine⟨⟨by omega,by omega,hzx⟩,fun h4=>hres (p:=True) (hbad fun q=> ?_),fun h4=> ?_⟩
    ·have h4:(!dgB (l.getD (x-1) Jb))=true:=h4
     rw[(Jk8 q.2 hxl).2.1 (by omega)] at h4;cases h4
    ·have h4:(!dgB (l.getD (x-1) Jb))=false:=h4
     have h4:dgB (l.getD (x-1) Jb)=true:=by simpa using h4
     have hj:x-1-nrK w0<(l.drop (nrK w0)).length:=by rw[List.length_drop];omega
     have hgd:(l.drop (nrK w0)).getD (x-1-nrK w0) Jb=l.getD (x-1) Jb:=by rw[List.getD_eq_getElem?_getD,List.getElem?_drop,show nrK w0+(x-1-nrK w0)=x-1 by omega,←List.getD_eq_getElem?_getD]
     have ht:(l.drop (nrK w0)).take (x-1-nrK w0)++[l.getD (x-1) Jb]=(l.drop (nrK w0)).take (x+1-1-nrK w0):=by
      rw[←hgd,Km hj,show x-1-nrK w0+1=x+1-1-nrK w0 by omega]
     have hN:(l.take (nrK w0)).take (x-1)=(l.take (nrK w0)).take (x+1-1):=(show(l.take (nrK w0)).take (x-1)=l.take (nrK w0) from List.take_of_length_le (by omega)).trans (show(l.take (nrK w0)).take (x+1-1)=l.take (nrK w0) from List.take_of_length_le (by omega)).symm
     have hW:((l.drop (nrK w0)).map dgN).take (x-1-nrK w0)++[(Jl (l.getD (x-1) Jb)).1]=((l.drop (nrK w0)).map dgN).take (x+1-1-nrK w0):=by
      rw[←List.map_take,←List.map_take,←ht,List.map_append];rfl
     refine⟨by rw[List.length_take];omega,by omega,(x+1:Nat),by(repeat' first|exact rfl|exact trivial|exact hN|exact hW|apply And.intro)<;>(push_cast;rfl),⟨by omega,by omega,by rw[←hN];exact i3,fun w hw=> ?_⟩,by omega⟩
     rw[←ht] at hw
     rcases List.mem_append.1 hw with hw|hw
     ·exact i4 w hw
     ·rw[List.mem_singleton.1 hw];exact h4
  ·obtain⟨i1,i2,i3,i4⟩:=hx
   have hlt:¬(x:Int)<1+((Jp w0).1.size:Int)+(Jp w0).2.1:=of_decide_eq_false hlt
   have hxe:x=l.length+1:=by omega
   subst hxe
   have hN:(l.take (nrK w0)).take (l.length+1-1)=l.take (nrK w0):=List.take_of_length_le (by omega)
   have hV2:(l.drop (nrK w0)).take (l.length+1-1-nrK w0)=l.drop (nrK w0):=List.take_of_length_le (by rw[List.length_drop];omega)
   have hV3:((l.drop (nrK w0)).map dgN).take (l.length+1-1-nrK w0)=(l.drop (nrK w0)).map dgN:=by rw[←List.map_take,hV2]
   rw[hN] at i3
   rw[hV2] at i4
   have hw:Jub w0 l:=⟨hlen,i3,i4⟩
   have hg:U9 s=((0,w0,l.take (nrK w0),(l.drop (nrK w0)).map dgN,Jb),true):=by rw[eP,Jvg hk hw];rfl
   rw[hN,hV3,hg]
   exact⟨rfl,rfl⟩
abbrev K88:=K89.add Kx2
theorem J5e {c:UInt8}:∀{l:List UInt8} {k:Nat},c∉l.take k→k<l.length→l.getD k 0=c→Jdu c l=true∧H2 c l=l.take k∧Jay c l=l.drop (k+1)
 |[],_,_,h,_=>by simp at h
 |b::r,0,_,_,h=>by
  have h:b=c:=h
  unfold Jdu H2 Jay
  rw[if_pos h,if_pos h,if_pos h]
  exact⟨rfl,rfl,rfl⟩
 |b::r,k+1,h,hl,hg=>by
  rw[List.take_succ_cons,List.mem_cons,not_or] at h
  have ih:=J5e (l:=r) (k:=k) h.2 (by simpa using hl) (by simpa using hg)
  have hb:¬b=c:=fun q=>h.1 q.symm
  unfold Jdu H2 Jay
  rw[if_neg hb,if_neg hb,if_neg hb,ih.1,ih.2.1,ih.2.2]
  exact⟨rfl,rfl,rfl⟩
theorem J5d {c:UInt8}:∀{l:List UInt8},c∉l→Jdu c l=false
 |[],_=>rfl
 |b::r,h=>by
  rw[List.mem_cons,not_or] at h
  unfold Jdu
  rw[if_neg fun q=>h.1 q.symm]
  exact J5d h.2
theorem Jpo (c:UInt8):∀l:List UInt8,Jax c l=if Jdu c l=true then H2 c l::Jax c (Jay c l) else[l]
 |[]=>rfl
 | b :: r => by
  have ih:=Jpo c r
  rw[Zt]
  unfold Jdu H2 Jay
  by_cases h:b=c
  ·rw[if_pos h,if_pos h,if_pos h,if_pos h,if_pos rfl]
  ·rw[if_neg h,if_neg h,if_neg h,if_neg h,ih]
   by_cases q:Jdu c r=true
   ·rw[if_pos q,if_pos q]
   ·rw[if_neg q,if_neg q]
theorem Jwz {c:UInt8}:∀{l:List UInt8},Jdu c l=false→Jay c l=[]
 |[],_=>rfl
 |x::r,h=>by
  unfold Jdu at h
  unfold Jay
  by_cases e:x=c
  ·rw[if_pos e] at h;cases h
  ·rw[if_neg e] at h;rw[if_neg e];exact Jwz h
theorem J15 {c:UInt8} {l:List UInt8} (h:Jdu c l=true):l.drop ((H2 c l).length+1)=Jay c l:=by
 have hc:=Jkg c h
 have:=congrArg (List.drop ((H2 c l).length+1)) hc
 rw[this]
 simp[List.drop_append]
theorem J1f {b:ByteArray} (h:Jdu 32 b.data.toList=false):okX b=true:=by
 have e:Zy b=bs []:=by unfold Zy;rw[Jwz h]
 have e2:(Um (Jj (Zy b) 32)).2=false:=by
  rw[e]
  show(Um [bs []]).2=false
  rw[Jlq (w0:=bs []) (by kernel_rfl)]
 unfold okX
 rw[e2]
 cases(Jl (Jap b)).2<;>rfl
theorem J16 {t:ByteArray} (h:t.size=7):J17 t=Jqn t:=by
 unfold J17 Jqn
 rw[h]
 simp
def J71:Con:={args:=[aS],ress:=[(true,sEv),I],owns:=[],pre:=fun(s,_)=>[s.size≤1000000],spec:=fun(s,_)=>((Kd s).1,(Kd s).2,())}
def Z42 (a:Bt):=Nc (ByteArray.size a)-8
def Kg7 (a:Bt):=Z42 a+1
def Km5 (a:Bt):=ByteArray.extract a 0 (Int.toNat (Z42 a))
def Ks9 (a:Bt):=ByteArray.size (Km5 a)
def K7p (a:Bt):=Di=(Kd a).1
def Ks0 (a:Bt):=Nc (Ks9 a)
def Ksy (a:Bt):=ByteArray.extract a (Int.toNat (Kg7 a)) (ByteArray.size a)
def K7j (a:Bt):=Jj (Km5 a) 32
def K7h (a:Bt):=Ks9 a≤1000000
def K6t (a:Bt):=Ln (K7j a)
def Kro (a:Bt):=K7p a∧25=(Kd a).2
def K54 (a:Bt):=List.getD (K7j a) 0 B0
def K52 (a:Bt):=Bd 0 (K6t a)
def K5l (a:Bt):=ByteArray.size (K54 a)
def K48 (a:Bt):=Jl (K54 a)
def Klw (a:Bt):=Nc (K5l a)+1
def K2t (a:Bt):=0≤Kg7 a∧Kg7 a≤Nc (ByteArray.size a)∧Nc (ByteArray.size a)≤Nc (ByteArray.size a)
def K04 (a:Bt):=bif decide (Z42 a<0) then true else Nc (UInt8.toNat (Gt (Z11 a) (Z42 a) 0)) !=35
def Kot (a:Bt):=K04 a=false
def K0k (a:Bt):=ByteArray.extract (Km5 a) (Int.toNat (Klw a)) (Ks9 a)
def K0f (a:Bt):=U9 (K0k a)
def K0d (a:Bt):=(K0f a).1.2
def Kkp (a:Bt):=(K0d a).2
def K0b (a:Bt):=(Kkp a).2
def K0a (a:Bt):= !(K0f a).2
def Kn8 (a:Bt):=K0a a=false
def Kbb (a:Bt):=((K48 a).1,(K0d a).1,(Kkp a).1,E2 (K0b a))
theorem Kx8:Ok Tryz.prog 109 J71:=okW K88 Tryz.f109 na fun xx=>by
 obtain⟨(s:ByteArray),_⟩:=xx
 refine(by kernel_rfl:(ByteArray.size s≤1000000→Iw (Z42 s)∧((decide (Z42 s<0)=false→Bd (Z42 s) (Nc (ByteArray.size s)))∧(Kot s→Iw (Kg7 s))∧(Kot s→K2t s)∧(Kot s→ByteArray.size (Ksy s)≤1000000))∧Br (bif K04 s then true else !J17 (Ksy s)) (Kro s) (((0:Int)≤0∧0≤Z42 s∧Z42 s≤Nc (ByteArray.size s))∧(Iw (Kg7 s)∧K2t s∧K7h s)∧Br (!Lb (Ksy s) (Jgr (Km5 s))) (K7p s∧27=(Kd s).2) ((K7h s∧Bd 32 256)∧T2 (K52 s) (K5l s≤1000000)∧Br (bif !(K48 s).2 then true else decide (K6t s<2)) (Kro s) (T2 (K52 s) (Iw (Klw s)∧(0≤Klw s∧Klw s≤Ks0 s∧Ks0 s≤Ks0 s)∧ByteArray.size (K0k s)≤1000000)∧((Kn8 s→List.length (Kkp s).1≤1000000)∧(Kn8 s→List.length (K0b s).1≤1000000)∧(Kn8 s→∀(s_1:ByteArray),s_1∈(Kkp s).1→ByteArray.size s_1≤1000000))∧Br (bif K0a s then true else Jd (Kbb s) !=0) (Kro s) (Kbb s=(Kd s).1∧0=(Kd s).2)))))=_).mp ?_
 delta Z11 Z42 Kg7 Di Km5 Ks9 K7p Ks0 Ksy K7j K7h K6t Kro K54 K52 K5l K48 Klw K2t K04 Kot K0k K0f K0d Kkp K0b K0a Kn8 Kbb Br Iw Bd T2 Ln Nc Gt B0 Lb E2
 intro hs
 by_cases h8:s.size<8
 ·have hd:decide ((s.size:Int)-8<0)=true:=decide_eq_true (by omega)
  have hd2:decide ((s.size:Int)-7-1<0)=true:=decide_eq_true (by omega)
  simp only[hd,cond_true]
  have h0:Kd s=(evz,25):=by
   have:Jc8 s=true:=by unfold Jc8;rw[hd2];rfl
   unfold Kd;rw[this];rfl
  rw[h0]
  exact⟨by omega,⟨fun h=>(nomatch h),fun h=>(nomatch h),fun h=>(nomatch h),fun h=>(nomatch h)⟩,fun _=>⟨rfl,rfl⟩,fun h=>(nomatch h)⟩
 ·have e1:((s.size:Int)-8).toNat=s.size-8:=by omega
  have e2:((s.size:Int)-8+1).toNat=s.size-7:=by omega
  have e3:s.extract 0 (s.size-8)=J5 s:=Jqk s _
  have e4:s.extract (s.size-7) s.size=Jb8 s:=Jea s _
  have hts:(Jb8 s).size=7:=by unfold Jb8;rw[Va];simp;omega
  have hbs:(J5 s).size=s.size-8:=by unfold J5;rw[Va];simp
  have hd:decide ((s.size:Int)-8<0)=false:=decide_eq_false (by omega)
  have hd2:decide ((s.size:Int)-7-1<0)=false:=decide_eq_false (by omega)
  have hsh:(bif bif decide ((s.size:Int)-8<0) then true else((s.data.toList.getD (s.size-8) 0).toNat:Int) !=35 then true else !J17 (Jb8 s))=Jc8 s:=by
   unfold Jc8
   rw[J16 hts,hd,hd2]
  simp only[e1,e2,e3,e4,hsh]
  have hrs:∀{x:Ev×Int},Kd s=x→x.1=(Kd s).fst∧x.2=(Kd s).snd:=fun q=>by rw[q];exact⟨rfl,rfl⟩
  have hbl:(J5 s).data.toList.length=(J5 s).size:=rfl
  refine⟨by omega,⟨fun _=>by omega,fun _=>by omega,fun _=>by omega,fun _=>by omega⟩,fun h=>hrs (x:=(evz,25)) ?_,fun h=>⟨by omega,⟨by omega,by omega,by omega⟩,fun h2=>hrs (x:=(evz,27)) ?_,fun h2=> ?_⟩⟩
  ·unfold Kd;rw[h];rfl
  ·have:(!((Jgr (J5 s)).toList==(Jb8 s).toList))=true:=by rw[←h2];congr 1;exact Bool.beq_comm
   unfold Kd;rw[h,this];rfl
  have h2:(!((Jgr (J5 s)).toList==(Jb8 s).toList))=false:=by rw[←h2];congr 1;exact Bool.beq_comm
  have h0:Kd s=bif okX (J5 s) then(evz,25) else(evX (J5 s),0):=by unfold Kd;rw[h,h2];rfl
  have hbad:okX (J5 s)=true→Kd s=(evz,25):=fun q=>by rw[h0,q];rfl
  have hsp:Jj (J5 s) 32=(Jax 32 (J5 s).data.toList).map bs:=rfl
  rw[Jpo] at hsp
  have hA:=Jef 32 (J5 s).data.toList
  cases hc:Jdu 32 (J5 s).data.toList with
  |false=>
   rw[hc,if_neg (by simp)] at hsp
   have hsp:Jj (J5 s) 32=[J5 s]:=hsp
   simp only[hsp]
   have hl:decide ((([J5 s]:List ByteArray).length:Int)<2)=true:=decide_eq_true (by simp)
   have hg:([J5 s]:List ByteArray).getD 0 ({data:={toList:=[]}}:ByteArray)=J5 s:=rfl
   rw[hl]
   refine⟨⟨by omega,by decide,by decide⟩,⟨⟨by decide,by simp⟩,⟨by decide,by simp⟩,by rw[hg];omega⟩,fun _=>hrs (x:=(evz,25)) (hbad (J1f hc)),fun h3=> ?_⟩
   cases q:(!(Jl (([J5 s]:List ByteArray).getD 0 ({data:={toList:=[]}}:ByteArray))).snd)<;>rw[q] at h3<;>cases h3
  | true =>
   rw[hc,if_pos rfl,List.map_cons] at hsp
   have hsp:Jj (J5 s) 32=Jap (J5 s)::Jj (Zy (J5 s)) 32:=hsp
   have hln:1≤(Jj (Zy (J5 s)) 32).length:=Nat.pos_of_ne_zero fun q=>Jac _ _ (List.map_eq_nil_iff.1 (List.eq_nil_of_length_eq_zero q))
   have hg:(Jap (J5 s)::Jj (Zy (J5 s)) 32).getD 0 ({data:={toList:=[]}}:ByteArray)=Jap (J5 s):=rfl
   have hl:decide (((Jap (J5 s)::Jj (Zy (J5 s)) 32).length:Int)<2)=false:=decide_eq_false (by simp only[List.length_cons];omega)
   have hcl:=congrArg List.length (Jkg 32 hc)
   rw[List.length_append,List.length_cons] at hcl
   have hH:(Jap (J5 s)).size=(H2 32 (J5 s).data.toList).length:=Va _
   have hr:(J5 s).extract (((Jap (J5 s)).size:Int)+1).toNat (J5 s).size=Zy (J5 s):=by
    rw[show(((Jap (J5 s)).size:Int)+1).toNat=(H2 32 (J5 s).data.toList).length+1 by omega,Jea,J15 hc]
    rfl
   have hrz:(Zy (J5 s)).size≤1000000:=by unfold Zy;rw[Va];have:=Jbt 32 (J5 s).data.toList;omega
   simp only[hsp,hg,hl,hr]
   have hW:∀w∈Jj (Zy (J5 s)) 32,w.size≤1000000:=by
    intro w hw
    obtain⟨v,hv,rfl⟩:=List.mem_map.1 hw
    have:=Lu _ _ _ hv
    have h4:(Zy (J5 s)).data.toList.length=(Zy (J5 s)).size:=rfl
    rw[Va]
    omega
   have hz:=Jd3 hW
   have eP:U9 (Zy (J5 s))=bif (Um (Jj (Zy (J5 s)) 32)).2 then Um (Jj (Zy (J5 s)) 32) else(evz,false):=rfl
   refine⟨⟨by omega,by decide,by decide⟩,⟨⟨by decide,by simp only[List.length_cons];omega⟩,⟨by decide,by simp only[List.length_cons];omega⟩,by omega⟩,fun h3=>hrs (x:=(evz,25)) (hbad ?_),fun h3=> ?_⟩
   ·have h3:(Jl (Jap (J5 s))).2=false:=by
     cases q:(Jl (Jap (J5 s))).2 with
     |false=>rfl
     |true=>rw[q] at h3;cases h3
    unfold okX;rw[h3];rfl
   have h3:(Jl (Jap (J5 s))).2=true:=by
    cases q:(Jl (Jap (J5 s))).2 with
    |true=>rfl
    |false=>rw[q] at h3;cases h3
   cases hp:(Um (Jj (Zy (J5 s)) 32)).2 with
   |false=>
    rw[hp] at eP
    have eP:U9 (Zy (J5 s))=(evz,false):=eP
    have hok:okX (J5 s)=true:=by unfold okX;rw[h3,hp];rfl
    rw[eP]
    exact⟨⟨⟨by decide,by simp only[List.length_cons];omega⟩,⟨by decide,by simp only[List.length_cons];omega⟩,by omega,by omega,hrz⟩,⟨fun h=>(nomatch h),fun h=>(nomatch h),fun h=>(nomatch h)⟩,fun _=>hrs (x:=(evz,25)) (hbad hok),fun h=>(nomatch h)⟩
   | true =>
    rw[hp] at eP
    have eP:U9 (Zy (J5 s))=Um (Jj (Zy (J5 s)) 32):=eP
    rw[eP,hp]
    have hok:okX (J5 s)=(Jd (evX (J5 s)) !=0):=by unfold okX;rw[h3,hp];rfl
    refine⟨⟨⟨by decide,by simp only[List.length_cons];omega⟩,⟨by decide,by simp only[List.length_cons];omega⟩,by omega,by omega,hrz⟩,⟨fun _=>Nat.le_trans hz.1 (by decide),fun _=>Nat.le_trans hz.2.1 (by decide),fun _=>hz.2.2⟩,fun h4=>hrs (x:=(evz,25)) (hbad ?_),fun h4=>hrs (x:=(evX (J5 s),0)) ?_⟩
    ·rw[hok];exact h4
    ·have h4:okX (J5 s)=false:=by rw[hok];exact h4
     rw[h0,h4];rfl
abbrev K87:=K88.add Kx8
theorem J7o (s:ByteArray) (a i:Nat):s.extract a i=bs ((s.data.toList.drop a).take (i-a)):=by
 cases s with
 |mk d=>
  show ByteArray.mk _=ByteArray.mk _
  congr 1
  apply Array.toList_inj.1
  simp
theorem K8k {c:UInt8}:(((c.toNat:Int) !=10)=true↔c≠10)∧(((c.toNat:Int) !=10)=false↔c=10):=by
 have h:((c.toNat:Int)=10)↔c=10:=by
  constructor
  ·intro h
   apply UInt8.toNat_inj.1
   show c.toNat=10
   omega
  ·intro h;rw[h];rfl
 constructor
 ·rw[bne_iff_ne,ne_eq,h]
 ·rw[bne_eq_false_iff_eq,h]
def Js3:Con:={args:=[aS],ress:=[(false, .list 67 sEv),I,I],owns:=[],pre:=fun _=>[],spec:=fun(s,_)=>((Jc s).1,(Jc s).2.1,(Jc s).2.2,())}
abbrev Kzu (s:ByteArray):Ann:={X:=Nat×Nat×List Ev,σ:=fun(a,i,o)=>⟨1,[(0, .one (.str s)),(5, .one (.sl 0)),(6, .one (.int .i64 a)),(7, .one (.int .i64 i))],[(0, .own 67 sEv o)]⟩,inv:=fun(a,i,o)=>a≤i∧i≤s.size∧s.size≤1000000∧o.length≤1000∧(10:UInt8)∉(s.data.toList.drop a).take (i-a)∧∃f,s.size-a≤f∧Jlp f (s.data.toList.drop a) a o=Jc s,mu:=fun(_,i,_)=>s.size-i}
def Z0 (a:Nat×Nat×List Ev):=Nc a.2.1+1
def Khe (a:Bt) (b:Nat×Nat×List Ev):=Kd (ByteArray.extract a b.1 b.2.1)
def Kha (a:Bt) (b:Nat×Nat×List Ev):=(Khe a b).1
def J37 (a:Nat×Nat×List Ev) (b:Bt):=a.1≤a.2.1∧a.2.1≤ByteArray.size b∧ByteArray.size b≤1000000∧List.length a.2.2≤1000∧(10∈List.take (a.2.1-a.1) (List.drop a.1 (Z11 b))→False)∧∃(f:Nat),ByteArray.size b-a.1≤f∧Jlp f (List.drop a.1 (Z11 b)) (Nc a.1) a.2.2=Jc b
def Kdj (a:Nat×Nat×List Ev) (b:Bt) (c:Nat×Nat×List Ev):=J37 a b∧ByteArray.size b-a.2.1<ByteArray.size b-c.2.1
def Kbh (a:Nat×Nat×List Ev) (b:Bt):=(List.length a.2.2+1)*88≤140737488355328∧T2 (Iw (Z0 a)) (∃(y:Nat×Nat×List Ev),Sf b (Z0 a=Nc y.1∧Z0 a=Nc y.2.1∧a.2.2++[((Kha b a).1,(Kha b a).2.1,(Kha b a).2.2.1,E2 (Kha b a).2.2.2)]=y.2.2)∧Kdj y b a)
theorem K8f:Ok Tryz.prog 35 Js3:=okW K87 Tryz.f35 (fun xx=>Y4 (Kzu xx.1)) fun xx=>by
 obtain⟨(s:ByteArray),_⟩:=xx
 refine(by kernel_rfl:(Br (decide (1000000<Nc (ByteArray.size s))) (Kru s) (∃(x:Nat×Nat×List Ev),Sf s (0=Nc x.1∧0=Nc x.2.1∧List.length x.2.2=0)∧J37 x s∧∀(x:Nat×Nat×List Ev),J37 x s→Br (decide (Nc x.2.1<Nc (ByteArray.size s))) (Bd (Nc x.2.1) (Nc (ByteArray.size s))∧Br (Nc (UInt8.toNat (List.getD (Z11 s) x.2.1 0)) !=10) (Iw (Z0 x)∧∃(y:Nat×Nat×List Ev),Sf s (Nc x.1=Nc y.1∧Z0 x=Nc y.2.1∧x.2.2=y.2.2)∧Kdj y s x) (((0≤Nc x.1∧Nc x.1≤Nc x.2.1∧Nc x.2.1≤Nc (ByteArray.size s))∧ByteArray.size (ByteArray.extract s x.1 x.2.1)≤1000000)∧(((Khe s x).2==0)=true→Iw (Ln x.2.2+1))∧Br (bif (Khe s x).2==0 then(Kha s x).1 !=Ln x.2.2+1 else false) (Br true (x.2.2=(Jc s).1∧Nc x.1=(Jc s).2.1∧11=(Jc s).2.2) (Kbh x s)) (Br ((Khe s x).2 !=0) (x.2.2=(Jc s).1∧Nc x.1=(Jc s).2.1∧(Khe s x).2=(Jc s).2.2) (Kbh x s)))) (Br (decide (Nc x.1<Nc (ByteArray.size s))) (x.2.2=(Jc s).1∧Nc x.1=(Jc s).2.1∧28=(Jc s).2.2) (x.2.2=(Jc s).1∧Nc x.1=(Jc s).2.1∧0=(Jc s).2.2))))=_).mp ?_
 delta Z0 Z11 Khe Kha Kru J37 Kdj Kbh Br Iw Bd T2 Sf Ln Nc E2
 refine⟨fun h=> ?_,fun h=> ?_⟩
 ·have h:1000000<s.size:=by have:=of_decide_eq_true h;omega
  unfold Jc;rw[if_pos h];exact⟨rfl,rfl,rfl⟩
 have hs:¬1000000<s.size:=by have:=of_decide_eq_false h;omega
 have hl:s.data.toList.length=s.size:=by simp
 have hres:∀{x:List Ev×Int×Int},x=Jc s→x.1=(Jc s).fst∧x.2.1=(Jc s).snd.fst∧x.2.2=(Jc s).snd.snd:=fun q=>by rw[←q];exact⟨rfl,rfl,rfl⟩
 refine⟨((0:Nat),(0:Nat),[]),by simp,⟨Nat.le_refl _,Nat.zero_le _,by omega,Nat.zero_le _,by simp,⟨s.size,by omega,by unfold Jc;rw[if_neg hs];rfl⟩⟩,fun(x:Nat×Nat×List Ev) hx=>⟨fun hlt=> ?_,fun hlt=> ?_⟩⟩
 ·obtain⟨a,i,o⟩:=x
  obtain⟨k1,k2,k3,k4,k5,f,kf,k6⟩:=hx
  dsimp only at k1 k2 k4 k5 kf
  have k6:Jlp f (s.data.toList.drop a) a o=Jc s:=k6
  have hlt:i<s.size:=by simpa using hlt
  dsimp only
  have hLl:(s.data.toList.drop a).length=s.size-a:=by rw[List.length_drop,hl]
  have hLg:(s.data.toList.drop a).getD (i-a) 0=s.data.toList.getD i 0:=by rw[List.getD_eq_getElem?_getD,List.getElem?_drop,show a+(i-a)=i by omega,←List.getD_eq_getElem?_getD]
  refine⟨by omega,fun h2=>⟨by omega,(a,i+1,o),by simp,⟨by(first|omega|dsimp only;omega),by(first|omega|dsimp only;omega),k3,k4, ?_,f,kf,k6⟩,by(first|omega|dsimp only;omega)⟩,fun h2=> ?_⟩
  ·have h2:s.data.toList.getD i 0≠10:=K8k.1.1 h2
   dsimp only
   rw[show i+1-a=(i-a)+1 by omega,←Km (d:=(0:UInt8)) (by omega),hLg]
   intro hm
   rcases List.mem_append.1 hm with hm|hm
   ·exact k5 hm
   ·exact h2 (List.mem_singleton.1 hm).symm
  have h2:s.data.toList.getD i 0=10:=K8k.2.1 h2
  obtain⟨c1,c2,c3⟩:=J5e (c:=10) (l:=s.data.toList.drop a) (k:=i-a) k5 (by omega) (hLg.trans h2)
  have hf:f=(f-1)+1:=by omega
  have hne:s.data.toList.drop a≠[]:=by
   intro h
   have:=congrArg List.length h
   rw[hLl] at this
   simp at this;omega
  rw[hf,Jlp,if_neg hne,c1,if_neg (by simp)] at k6
  have hx:s.extract a i=bs (H2 10 (s.data.toList.drop a)):=by rw[J7o,c2]
  have hbz:(bs (H2 10 (s.data.toList.drop a))).size=i-a:=by rw[Va,c2,List.length_take];omega
  rw[hx]
  have hcZ:Jay 10 (s.data.toList.drop a)=s.data.toList.drop (i+1):=by rw[c3,List.drop_drop,show a+(i-a+1)=i+1 by omega]
  have hcA:(H2 10 (s.data.toList.drop a)).length=i-a:=by rw[c2,List.length_take];omega
  generalize hB:bs (H2 10 (s.data.toList.drop a))=B at hbz k6⊢
  refine⟨⟨by omega,by omega⟩,fun _=>by omega,fun h3=>⟨fun _=>hres (x:=(o,(a:Int),11)) ?_,fun h=>(nomatch h)⟩,fun h3=>⟨fun h4=>hres (x:=(o,(a:Int),(Kd B).2)) ?_,fun h4=> ?_⟩⟩
  ·cases q:((Kd B).2==0) with
   |false=>rw[q] at h3;cases h3
   |true=>
    rw[q] at h3
    have q:(Kd B).2=0:=by simpa using q
    have h3:((Kd B).1.1 !=(o.length:Int)+1)=true:=h3
    have e:(Uk B (o.length+1)).2=11:=by unfold Uk;rw[if_pos q,h3];rfl
    rw[if_pos (by rw[e];decide),e] at k6
    exact k6
  ·have h4:(Kd B).2≠0:=bne_iff_ne.1 h4
   have e:Uk B (o.length+1)=Kd B:=by unfold Uk;rw[if_neg h4]
   rw[e,if_pos h4] at k6
   exact k6
  ·have h4:(Kd B).2=0:=bne_eq_false_iff_eq.1 h4
   have q:((Kd B).2==0)=true:=by rw[h4];rfl
   rw[q] at h3
   have h3:((Kd B).1.1 !=(o.length:Int)+1)=false:=h3
   have e:Uk B (o.length+1)=((Kd B).1,0):=by unfold Uk;rw[if_pos h4,h3];rfl
   have hn:=Jbo (s:=B) (k:=o.length+1) (by rw[e])
   have hnum:=(K1 hn.1).num
   rw[hn.2] at hnum
   rw[e,if_neg (by simp)] at k6
   refine⟨by omega,by omega,by omega,(i+1,i+1,o++[(Kd B).1]),by simp,⟨by(first|omega|dsimp only;omega),by(first|omega|dsimp only;omega),k3,by simp only[List.length_append,List.length_singleton];omega,by simp,f-1,by(first|omega|dsimp only;omega), ?_⟩,by(first|omega|dsimp only;omega)⟩
   dsimp only
   rw[←hcZ,←k6]
   congr 1
   rw[hcA]
   push_cast
   omega
 ·obtain⟨a,i,o⟩:=x
  obtain⟨k1,k2,k3,k4,k5,f,kf,k6⟩:=hx
  dsimp only at k1 k2 k4 k5 kf
  have k6:Jlp f (s.data.toList.drop a) a o=Jc s:=k6
  have hlt:¬i<s.size:=by simpa using hlt
  have hi:i=s.size:=by omega
  dsimp only
  have hLl:(s.data.toList.drop a).length=s.size-a:=by rw[List.length_drop,hl]
  rw[hi,List.take_of_length_le (by omega)] at k5
  refine⟨fun h2=>hres (x:=(o,(a:Int),28)) ?_,fun h2=>hres (x:=(o,(a:Int),0)) ?_⟩
  ·have h2:a<s.size:=by simpa using h2
   have hne:s.data.toList.drop a≠[]:=by
    intro h
    have:=congrArg List.length h
    rw[hLl] at this
    simp at this;omega
   rw[show f=(f-1)+1 by omega,Jlp,if_neg hne,if_pos (J5d k5)] at k6
   exact k6
  ·have h2:¬a<s.size:=by simpa using h2
   have e:s.data.toList.drop a=[]:=List.drop_eq_nil_of_le (by omega)
   rw[e] at k6
   rw[←k6]
   cases f<;>rfl
abbrev K86:=K87.add K8f
def Jjc (c:Int):Int:=bif c==115 then 0 else bif c==111 then 1 else bif c==120 then 2 else 3
def Jlj (b:UInt8):Int×Bool:=bif decide ((97:Int)≤(b.toNat:Int)) then(Jjc b.toNat,true) else(Jjc (b.toNat+97-65),false)
theorem J5m (r:Reg) (c:Int) (s:ByteArray):Ye r (Jjc c) s=decide (0≤atS r c s):=by
 unfold atS Jjc
 cases h1:c==115 with
 |true=>rfl
 | false =>
  cases h2:c==111 with
  |true=>rfl
  |false=>
   cases h3:c==120 with
   |true=>rfl
   |false=>rfl
theorem Jsz {k:ByteArray} (h:Uo k=true):(Jh k).1=(Jp k).1.data.toList.map Jlj∧((Jh k).1.drop 1).all (fun x=>x.2)=true:=by
 rcases Vl h with h|h|h|h|h|h|h|h|h|h|h<;>subst h
 all_goals exact⟨by kernel_rfl,by kernel_rfl⟩
theorem Jeq {r:Reg} {ns:List ByteArray}:∀{l:List (Int×Bool)} {i:Nat},l.all (fun x=>x.2)=true→K5 r ns l i=false
 |[],_,_=>rfl
 |(w,b)::l,i,h=>by
  rw[List.all_cons,Bool.and_eq_true] at h
  have hb:b=true:=h.1
  subst hb
  unfold K5
  exact Jeq h.2
def Jx (r:Reg) (k:ByteArray) (ns:List ByteArray):Int:=bif Ks r ns (Jh k).1 0 then 10 else bif K5 r ns (Jh k).1 0 then 9 else 0
def Kiv:Con:={args:=[Y0,aEv],ress:=[I],owns:=[],pre:=fun(r,e,_)=>[Jn r,Uo e.2.1=true,e.2.2.1.length=(Jh e.2.1).1.length],spec:=fun(r,e,_)=>(Jx r e.2.1 e.2.2.1,())}
abbrev Kkh (tk st:Int) (S:List Sta) (O:List Ord) (M:List Met) (X:List Out) (Q:List Per) (n:Int) (k:ByteArray) (ns:List ByteArray) (vs:List Int) (tx:ByteArray):Ann:={X:=Nat,σ:=fun i=>⟨9,[(2, .one (.ptr 7 0)),(3, .one (.ptr 8 0)),(5, .one (.str (Jp k).1)),(6, .one (.int .i64 i))],[(0, .imm 114 De S),(1, .imm 119 Hj O),(2, .imm 121 Dm M),(3, .imm 123 X4 X),(4, .imm 125 Zl Q),(5, .imm 9 .str ns),(6, .imm 3 sI vs),(7, .box 37 [.int .i64 tk, .int .i64 st, .sl 0, .sl 1, .sl 2, .sl 3, .sl 4]),(8, .box 67 [.int .i64 n, .str k, .sl 5, .sl 6, .str tx])]⟩,inv:=fun i=>i≤(Jp k).1.size∧Ks (tk,st,S,O,M,X,Q) ns ((Jh k).1.drop i) i=Ks (tk,st,S,O,M,X,Q) ns (Jh k).1 0,mu:=fun i=>(Jp k).1.size-i}
def K7f (a:Bt):=Nc (UInt8.toNat (List.getD (Jp a).1.data.toList 0 0))
def K6p (a:Bt) (b:Nat):=decide (97≤Nc (UInt8.toNat (List.getD (Jp a).1.data.toList b 0)))
def Krh (a:Bt) (b:Nat):=K6p a b=true
def K2o (a:Bt):=bif decide (0<Z10 a) then decide (K7f a<97) else false
def Kpf (a:Bt):=K2o a=true
def Kpc (a:Nat) (b:Bt) (c d:Int) (e:List Sta) (f:List Ord) (g:List Met) (h:List Out) (i:List Per) (j:Ls):=a≤ByteArray.size (Jp b).1∧Ks (Z72 c d e f g h i) j (List.drop a (Jh b).1) a=Ks (Z72 c d e f g h i) j (Jh b).1 0
theorem Kvp:Ok Tryz.prog 224 Kiv:=okW K86 Tryz.f224 (fun xx=>Y4 (Kkh xx.1.1 xx.1.2.1 xx.1.2.2.1 xx.1.2.2.2.1 xx.1.2.2.2.2.1 xx.1.2.2.2.2.2.1 xx.1.2.2.2.2.2.2 xx.2.1.1 xx.2.1.2.1 xx.2.1.2.2.1 xx.2.1.2.2.2.1 xx.2.1.2.2.2.2)) fun xx=>by
 obtain⟨⟨(tk:Int),(st:Int),(S:List Sta),(O:List Ord),(M:List Met),(X:List Out),(Q:List Per)⟩,⟨(n:Int),(k:ByteArray),(ns:List ByteArray),(vs:List Int),(tx:ByteArray)⟩,_⟩:=xx
 refine(by kernel_rfl:(Ju tk st S O M X Q→Uo k=true→List.length ns=List.length (Jh k).1→∃(x:Nat),Sf (Jp k).1 (0=Nc x∧Sf S (Sf O (Sf M (Sf X (Sf Q (Sf ns (Sf vs (Si tk (Si st (Si n (Sf k (tx=tx))))))))))))∧Kpc x k tk st S O M X Q ns∧∀(x:Nat),Kpc x k tk st S O M X Q ns→Br (decide (Nc x<Z10 k)) ((Bd (Nc x) (Z10 k)∧(Krh k x→Bd (Nc x) (Z10 k))∧T2 (Krh k x→Z94 x ns) (Krh k x→Ju tk st S O M X Q))∧Br (bif K6p k x then decide (atS (Z72 tk st S O M X Q) (Nc (UInt8.toNat (List.getD (Jp k).1.data.toList x 0))) (Z27 ns x)<0) else false) (10=Jx (Z72 tk st S O M X Q) k ns) (Z20 x∧∃(y:Nat),Sf (Jp k).1 (Vm x y∧Sf S (Sf O (Sf M (Sf X (Sf Q (Sf ns (Sf vs (Si tk (Si st (Si n (Sf k (tx=tx))))))))))))∧Kpc y k tk st S O M X Q ns∧ByteArray.size (Jp k).1-y<ByteArray.size (Jp k).1-x)) (((decide (0<Z10 k)=true→Bd 0 (Z10 k))∧(Kpf k→Bd 0 (Z10 k))∧T2 (Kpf k→Yd ns) (Kpf k→Ju tk st S O M X Q))∧Br (bif K2o k then decide (0≤atS (Z72 tk st S O M X Q) (IntKind.wrap IntKind.u8 (IntKind.wrap IntKind.u8 (K7f k+97)-65)) (Uz ns)) else false) (9=Jx (Z72 tk st S O M X Q) k ns) (0=Jx (Z72 tk st S O M X Q) k ns)))=_).mp ?_
 delta Z10 Z20 Z27 Z72 Z94 Yd Vm Uz Ju K7f K6p Krh K2o Kpf Kpc Br Iw Bd T2 Sf Si Ln Nc B0
 intro hr hk hn
 obtain⟨f1,f2,f3⟩:=Dy hk
 have f2:(Jp k).1.size=(Jh k).1.length:=f2
 obtain⟨fr,fk⟩:=Jsz hk
 have hB:=Dx k
 have hfl:(Jp k).1.data.toList.length=(Jp k).1.size:=rfl
 have hb0:∀i,i<(Jp k).1.size→(Jh k).1.getD i (0,false)=Jlj ((Jp k).1.data.toList.getD i 0):=fun i hi=>by
  rw[fr,List.getD_eq_getElem?_getD,List.getElem?_map,List.getD_eq_getElem?_getD]
  rw[List.getElem?_eq_getElem (by omega)];rfl
 refine⟨(0:Nat),by simp,⟨Nat.zero_le _,rfl⟩,fun(i:Nat) hi=>⟨fun h1=> ?_,fun h1=> ?_⟩⟩
 ·have hlt:i<(Jp k).1.size:=by simpa using h1
  have h0:=hi.2
  rw[Jq (d:=((0:Int),false)) (by omega),hb0 i hlt] at h0
  have hu:Ks (tk,st,S,O,M,X,Q) ns (Jlj ((Jp k).1.data.toList.getD i 0)::(Jh k).1.drop (i+1)) i=bif (bif decide (97≤(((Jp k).1.data.toList.getD i 0).toNat:Int)) then decide (atS (tk,st,S,O,M,X,Q) (((Jp k).1.data.toList.getD i 0).toNat:Int) (ns.getD i Jb)<0) else false) then true else Ks (tk,st,S,O,M,X,Q) ns ((Jh k).1.drop (i+1)) (i+1):=by
   unfold Jlj
   cases hc:decide ((97:Int)≤(((Jp k).1.data.toList.getD i 0).toNat:Int)) with
   |false=>rfl
   | true =>
    rw[cond_true,Ks,J5m,cond_true]
    have:(!decide (0≤atS (tk,st,S,O,M,X,Q) (((Jp k).1.data.toList.getD i 0).toNat:Int) (ns.getD i Jb)))=decide (atS (tk,st,S,O,M,X,Q) (((Jp k).1.data.toList.getD i 0).toNat:Int) (ns.getD i Jb)<0):=by
     rw[Bool.eq_iff_iff];simp
    rw[this];rfl
  rw[hu] at h0
  refine⟨⟨by omega,fun _=>by omega,fun _=>by omega,fun _=>by omega,fun _=>hr⟩,fun h2=> ?_,fun h2=>⟨by omega,(i+1:Nat),by simp,⟨by omega, ?_⟩,by omega⟩⟩
  ·rw[show(bif decide (97≤(((Jp k).1.data.toList.getD i 0).toNat:Int)) then decide (atS (tk,st,S,O,M,X,Q) (((Jp k).1.data.toList.getD i 0).toNat:Int) (ns.getD i Jb)<0) else false)=true from h2,cond_true] at h0
   unfold Jx;rw[←h0];rfl
  ·rw[show(bif decide (97≤(((Jp k).1.data.toList.getD i 0).toNat:Int)) then decide (atS (tk,st,S,O,M,X,Q) (((Jp k).1.data.toList.getD i 0).toNat:Int) (ns.getD i Jb)<0) else false)=false from h2,cond_false] at h0
   exact h0
 ·have hlt:¬i<(Jp k).1.size:=by simpa using h1
  have h0:=hi.2
  rw[List.drop_eq_nil_of_le (by omega)] at h0
  have hu0:Ks (tk,st,S,O,M,X,Q) ns (Jh k).1 0=false:=h0.symm
  have hN:Jx (tk,st,S,O,M,X,Q) k ns=bif K5 (tk,st,S,O,M,X,Q) ns (Jh k).1 0 then 9 else 0:=by unfold Jx;rw[hu0];rfl
  have g0:∀{p:Prop},(bif decide ((0:Int)<((Jp k).1.size:Int)) then decide ((((Jp k).1.data.toList.getD 0 0).toNat:Int)<97) else false)=true→(Jp k).1.size≠0:=fun{p} h=>by
   intro q
   rw[q] at h
   cases h
  have hz:∀{b:Bool},(bif decide ((0:Int)<((Jp k).1.size:Int)) then b else false)=true→0<(Jp k).1.size:=fun{b} h=>by
   by_cases q:0<(Jp k).1.size
   ·exact q
   ·rw[decide_eq_false (show ¬(0:Int)<((Jp k).1.size:Int) by omega)] at h;cases h
  have key:(bif bif decide ((0:Int)<((Jp k).1.size:Int)) then decide ((((Jp k).1.data.toList.getD 0 0).toNat:Int)<97) else false then decide (0≤atS (tk,st,S,O,M,X,Q) (IntKind.u8.wrap (IntKind.u8.wrap ((((Jp k).1.data.toList.getD 0 0).toNat:Int)+97)-65)) (ns.getD 0 Jb)) else false)=K5 (tk,st,S,O,M,X,Q) ns (Jh k).1 0:=by
   by_cases q:0<(Jp k).1.size
   ·rw[decide_eq_true (show(0:Int)<((Jp k).1.size:Int) by omega),cond_true]
    have hc:=Jq (l:=(Jh k).1) (k:=0) (d:=((0:Int),false)) (by omega)
    rw[List.drop_zero,hb0 0 q] at hc
    rw[hc]
    unfold Jlj
    by_cases q1:(97:Int)≤(((Jp k).1.data.toList.getD 0 0).toNat:Int)
    ·rw[decide_eq_true q1,decide_eq_false (show ¬(((Jp k).1.data.toList.getD 0 0).toNat:Int)<97 by omega)]
     exact(Jeq fk).symm
    ·rw[decide_eq_false q1,decide_eq_true (show(((Jp k).1.data.toList.getD 0 0).toNat:Int)<97 by omega)]
     rw[cond_true,cond_false,K5,J5m,Jeq fk,J0o (n:=(((Jp k).1.data.toList.getD 0 0).toNat:Int)+97) (by omega) (by omega),J0o (n:=(((Jp k).1.data.toList.getD 0 0).toNat:Int)+97-65) (by omega) (by omega)]
     show _=bif _ then true else false
     cases decide (0≤atS (tk,st,S,O,M,X,Q) ((((Jp k).1.data.toList.getD 0 0).toNat:Int)+97-65) (ns.getD 0 Jb))<;>rfl
   ·rw[decide_eq_false (show ¬(0:Int)<((Jp k).1.size:Int) by omega)]
    have:(Jh k).1=[]:=List.eq_nil_of_length_eq_zero (by omega)
    rw[this];rfl
  refine⟨⟨fun h=>⟨by decide,of_decide_eq_true h⟩,fun h=>⟨by decide,by have:=hz h;omega⟩,fun h=>⟨by decide,by have:=hz h;omega⟩,fun h=>⟨by decide,by have:=hz h;omega⟩,fun _=>hr⟩,fun h2=> ?_,fun h2=> ?_⟩
  ·rw[hN,show K5 (tk,st,S,O,M,X,Q) ns (Jh k).1 0=true from key.symm.trans h2];rfl
  ·rw[hN,show K5 (tk,st,S,O,M,X,Q) ns (Jh k).1 0=false from key.symm.trans h2];rfl
abbrev K85:=K86.add Kvp
def Yj (Q:List Per) (s:ByteArray):Bool:=decide ((0:Int)<((Ha Q).filter fun p=>p.2.1.toList==s.toList).length)
theorem Jol (x:Per) (Q:List Per) (s:ByteArray):Yj (x::Q) s=bif (bif x.2.1.toList==s.toList then x.2.2 else false) then true else Yj Q s:=by
 unfold Yj Ha
 rw[List.filter_cons]
 cases h1:x.2.2 with
 |false=>
  rw[if_neg (by simp)]
  cases(x.2.1.toList==s.toList)<;>rfl
 | true =>
  rw[if_pos rfl,List.filter_cons]
  cases h2:(x.2.1.toList==s.toList) with
  |false=>rfl
  |true=>
   rw[if_pos rfl]
   exact decide_eq_true (by simp only[List.length_cons];omega)
def Kja:Con:={args:=[Y0,aS],ress:=[Bo],owns:=[],pre:=fun((_,_,_,_,_,_,Q),_)=>[Q.length≤1000000],spec:=fun((_,_,_,_,_,_,Q),s,_)=>(Yj Q s,())}
abbrev Kkg (tk st:Int) (S:List Sta) (O:List Ord) (M:List Met) (X:List Out) (Q:List Per) (s:ByteArray):Ann:={X:=Nat,σ:=fun k=>⟨6,[(1, .one (.str s)),(2, .one (.ptr 5 0)),(5, .one (.int .i64 k))],[(0, .imm 114 De S),(1, .imm 119 Hj O),(2, .imm 121 Dm M),(3, .imm 123 X4 X),(4, .imm 125 Zl Q),(5, .box 37 [.int .i64 tk, .int .i64 st, .sl 0, .sl 1, .sl 2, .sl 3, .sl 4])]⟩,inv:=fun k=>k≤Q.length∧Yj Q s=Yj (Q.drop k) s,mu:=fun k=>Q.length-k}
def Ksv (a:Nat) (b:List Per) (c:Bt):=a≤List.length b∧Yj b c=Yj (List.drop a b) c
theorem Ku1:Ok Tryz.prog 269 Kja:=okW K85 Tryz.f269 (fun xx=>Y4 (Kkg xx.1.1 xx.1.2.1 xx.1.2.2.1 xx.1.2.2.2.1 xx.1.2.2.2.2.1 xx.1.2.2.2.2.2.1 xx.1.2.2.2.2.2.2 xx.2.1)) fun xx=>by
 obtain⟨⟨(tk:Int),(st:Int),(S:List Sta),(O:List Ord),(M:List Met),(X:List Out),(Q:List Per)⟩,(s:ByteArray),_⟩:=xx
 refine(by kernel_rfl:(Z54 Q→∃(x:Nat),Jzx s x S O M X Q tk st∧Ksv x Q s∧∀(x:Nat),Ksv x Q s→Br (Jt2 x Q) (T2 (Z23 x Q) (Tw (Lb (J0d Q x).1 s=true→Z23 x Q))∧Br (bif Lb (J0d Q x).1 s then(J0d Q x).2 else false) (true=Yj Q s) (Z20 x∧∃(y:Nat),Jzw s x y S O M X Q tk st∧Ksv y Q s∧Jz8 Q y x)) (false=Yj Q s))=_).mp ?_
 delta Z20 Z23 Z54 Vm Jt2 J0d Jz8 Ksv Jo9 Jzx Jzw Br Iw Bd T2 Tw Sf Si Ln Nc B0 Lb
 intro hb
 refine⟨(0:Nat),by simp,⟨Nat.zero_le _,rfl⟩,fun(k:Nat) hk=>⟨fun h=> ?_,fun h=> ?_⟩⟩
 ·have hlt:k<Q.length:=by simpa using h
  have hd:=Jq (d:=Jd5) hlt
  have h0:=hk.2
  rw[hd,Jol] at h0
  refine⟨⟨by omega,by omega,fun _=>by omega,fun _=>by omega⟩,fun h1=> ?_,fun h1=>⟨by omega,(k+1:Nat),by simp,⟨by omega, ?_⟩,by omega⟩⟩
  ·rw[h0,show(bif (Q.getD k Jd5).snd.fst.toList==s.toList then(Q.getD k Jd5).snd.snd else false)=true from h1];rfl
  ·rw[h0,show(bif (Q.getD k Jd5).snd.fst.toList==s.toList then(Q.getD k Jd5).snd.snd else false)=false from h1];rfl
 ·have hlt:¬k<Q.length:=by simpa using h
  have:k=Q.length:=by omega
  rw[hk.2,this,List.drop_length];rfl
abbrev K84:=K85.add Ku1
def Kj0 (t a b:Int):Bool:=bif (bif decide (a<t) then true else decide (b≤a)) then true else decide (48<b-a)
def J2j:Con:={args:=[aI, .val true La],ress:=[Bo],owns:=[],pre:=fun(_,s,_)=>[0≤s.1∧s.1≤999999999,0≤s.2∧s.2≤999999999],spec:=fun(t,s,_)=>(Kj0 t s.1 s.2,())}
theorem Ku2:Ok Tryz.prog 268 J2j:=okW K84 Tryz.f268 na fun xx=>by
 obtain⟨(t:Int),⟨(a:Int),(b:Int)⟩,_⟩:=xx
 refine(by kernel_rfl:(Khc a→Khc b→((bif decide (a<t) then true else decide (b≤a))=false→Iw (b-a))∧(bif bif decide (a<t) then true else decide (b≤a) then true else decide (48<b-a))=Kj0 t a b)=_).mp ?_
 delta Khc Iw
 intro h1 h2
 exact⟨fun _=>by omega,rfl⟩
abbrev Jtm:=K84.add Ku2
def Jc1 (X:List Out):Prop:=(X.map fun x=>x.1).Nodup
theorem Jwc:∀{l:List Out} {k:Nat} {x:Out},(l.map fun x=>x.1).Nodup→x∈l→∃i,Vt (fun y:Out=>y.1.toList==x.1.toList) l k=((k+i:Nat):Int)∧i<l.length∧l.getD i Fi=x
 |[],_,_,_,h=>by cases h
 | y :: l, k, x, hn, h => by
  rw[List.map_cons,List.nodup_cons] at hn
  unfold Vt
  by_cases q:(y.1.toList==x.1.toList)=true
  ·have q1:=Y9 q
   rw[if_pos q]
   rcases List.mem_cons.1 h with h|h
   ·exact⟨0,rfl,by simp,h.symm⟩
   ·exact absurd (q1▸List.mem_map_of_mem (f:=fun z:Out=>z.1) h) hn.1
  ·rw[if_neg q]
   rcases List.mem_cons.1 h with h|h
   ·subst h;exact absurd (beq_self_eq_true _) q
   ·obtain⟨i,h1,h2,h3⟩:=Jwc (k:=k+1) hn.2 h
    exact⟨i+1,by rw[h1];congr 1;omega,by simp;omega,h3⟩
theorem J6n {X:List Out} (h:Jc1 X) {x:Out} (hx:x∈X):Df X x.1=x:=by
 obtain⟨i,h1,_,h3⟩:=Jwc (k:=0) h hx
 unfold Df Kc
 rw[h1,Nat.zero_add,Int.toNat_natCast]
 exact h3
theorem Jqc {α:Type} {p:α→Bool}:∀{l:List α} {k:Nat},Vt p l k<0→∀x∈l,p x=false
 |[],_,_,x,hx=>by cases hx
 | y :: l, k, h, x, hx => by
  unfold Vt at h
  by_cases q:p y=true
  ·rw[if_pos q] at h;omega
  ·rw[if_neg q] at h
   rcases List.mem_cons.1 hx with hx|hx
   ·subst hx;simpa using q
   ·exact Jqc h x hx
theorem Jrx {X:List Out} {x:Out} (h:Jc1 X) (hn:Kc X x.1<0):Jc1 (X++[x]):=by
 unfold Jc1 at h⊢
 rw[List.map_append,List.nodup_append]
 refine⟨h,by simp,fun a ha b hb=> ?_⟩
 obtain⟨y,hy,rfl⟩:=List.mem_map.1 ha
 have hb:b=x.1:=by simpa using hb
 subst hb
 intro e
 have:=Jqc hn y hy
 rw[e,beq_self_eq_true] at this
 cases this
theorem J6m {X:List Out} {s:ByteArray} {v:Int} (h:Jc1 X) (hf:0≤Kc X s):Jc1 (Jex X s v):=by
 unfold Jc1 Jex at*
 have hl:=Us (l:=X) (s:=s)
 rw[List.map_set]
 have:(X.map fun x=>x.1).set (Kc X s).toNat (Df X s).1=X.map fun x=>x.1:=by
  apply List.ext_getElem?
  intro i
  rw[List.getElem?_set]
  by_cases q:(Kc X s).toNat=i
  ·rw[if_pos q]
   subst q
   rw[if_pos (by rw[List.length_map];omega),List.getElem?_map]
   unfold Df
   rw[List.getD_eq_getElem?_getD,List.getElem?_eq_getElem (by omega)]
   rfl
  ·rw[if_neg q]
 rw[this]
 exact h
def Vp (r:Reg) (e:Ev):Int:=if decide (e.2.2.2.1.getD 0 0<r.1)=true then 22 else if Jx r e.2.1 e.2.2.1≠0 then Jx r e.2.1 e.2.2.1 else ckS r e
def Yz (r:Reg) (e:Ev):Reg:=if decide (e.2.2.2.1.getD 0 0<r.1)=true then r else if Jx r e.2.1 e.2.2.1≠0 then r else if ckS r e≠0 then(e.2.2.2.1.getD 0 0,r.2) else Jw r e
def L7:Con:={args:=[Y0,aEv],ress:=[(true,Jlh),I],owns:=[],pre:=fun(r,e,_)=>[Jn r,Jc1 r.2.2.2.2.2.1,r.2.2.2.2.1.length<10000,Jd e=0,(e.2.1.toList==J1.toList)=false],spec:=fun(r,e,_)=>(Yz r e,Vp r e,())}
abbrev J19:Ann:={X:=Unit,σ:=fun _=>⟨0,[],[]⟩,inv:=fun _=>True,mu:=fun _=>0,un:=7777}
abbrev L8:Nat→Option Ann:=fun id=>if id=1000034 then some J19 else none
abbrev X8 (o:Option Ann):FuncId→Nat→Option Ann:=fun f id=>if f=226∨f=227 then(if id=1000073∨id=1000147∨id=1000195∨id=1000233∨id=1000052∨id=1000077∨id=1000097∨id=1000198 then some J19 else if id=1∨id=3 then o else none) else none
theorem Jsm {r:Reg} {k:ByteArray} {ns:List ByteArray} (h:Jx r k ns=0):Ks r ns (Jh k).1 0=false∧K5 r ns (Jh k).1 0=false:=by
 unfold Jx at h
 cases h1:Ks r ns (Jh k).1 0 with
 |true=>rw[h1] at h;cases h
 |false=>
  rw[h1,cond_false] at h
  cases h2:K5 r ns (Jh k).1 0 with
  |true=>rw[h2] at h;cases h
  |false=>exact⟨rfl,rfl⟩
theorem Jq5 {r:Reg} {e:Ev} (h:decide (e.2.2.2.1.getD 0 0<r.1)=true):Yz r e=r∧Vp r e=22:=by unfold Yz Vp;rw[if_pos h,if_pos h];exact⟨rfl,rfl⟩
theorem Jmw {r:Reg} {e:Ev} (h:decide (e.2.2.2.1.getD 0 0<r.1)=false) (h2:Jx r e.2.1 e.2.2.1≠0):Yz r e=r∧Vp r e=Jx r e.2.1 e.2.2.1:=by
 have a:¬decide (e.2.2.2.1.getD 0 0<r.1)=true:=by rw[h];simp
 unfold Yz Vp
 constructor
 ·rw[if_neg a,if_pos h2]
 ·rw[if_neg a,if_pos h2]
theorem Kkk {r:Reg} {e:Ev} {c:Int} (h:decide (e.2.2.2.1.getD 0 0<r.1)=false) (h2:Jx r e.2.1 e.2.2.1=0) (h3:ckS r e=c) (h4:c≠0):Yz r e=(e.2.2.2.1.getD 0 0,r.2)∧Vp r e=c:=by
 have a:¬decide (e.2.2.2.1.getD 0 0<r.1)=true:=by rw[h];simp
 have b:¬Jx r e.2.1 e.2.2.1≠0:=by rw[h2];simp
 have d:ckS r e≠0:=by rw[h3];exact h4
 unfold Yz Vp
 rw[if_neg a,if_neg a,if_neg b,if_neg b,if_pos d]
 exact⟨rfl,h3⟩
theorem Kkj {r:Reg} {e:Ev} (h:decide (e.2.2.2.1.getD 0 0<r.1)=false) (h2:Jx r e.2.1 e.2.2.1=0) (h3:ckS r e=0):Yz r e=Jw r e∧Vp r e=0:=by
 have a:¬decide (e.2.2.2.1.getD 0 0<r.1)=true:=by rw[h];simp
 have b:¬Jx r e.2.1 e.2.2.1≠0:=by rw[h2];simp
 have d:¬ckS r e≠0:=by rw[h3];simp
 unfold Yz Vp
 rw[if_neg a,if_neg a,if_neg b,if_neg b,if_neg d]
 exact⟨rfl,h3⟩
theorem Hy (n lo hi:Int):Kr n lo hi=bif Xw n lo hi then 3 else 0:=rfl
theorem Kkl {r:Reg} {e:Ev} (h:decide (e.2.2.2.1.getD 0 0<r.1)=false) (h2:(Jx r e.2.1 e.2.2.1 !=0)=false):Vp r e=ckS r e:=by
 have h2:Jx r e.2.1 e.2.2.1=0:=by simpa using h2
 unfold Vp
 rw[if_neg (by rw[h];simp),if_neg (by rw[h2];simp)]
theorem Kzw {r:Reg} {e:Ev} (h:decide (e.2.2.2.1.getD 0 0<r.1)=false) (h2:(Jx r e.2.1 e.2.2.1 !=0)=false) (h3:ckS r e≠0):Yz r e=(e.2.2.2.1.getD 0 0,r.2):=by
 have h2:Jx r e.2.1 e.2.2.1=0:=by simpa using h2
 exact(Kkk h h2 rfl h3).1
theorem Kzx {r:Reg} {e:Ev} (h:decide (e.2.2.2.1.getD 0 0<r.1)=false) (h2:(Jx r e.2.1 e.2.2.1 !=0)=false) (h3:ckS r e=0):Yz r e=Jw r e:=by
 have h2:Jx r e.2.1 e.2.2.1=0:=by simpa using h2
 exact(Kkj h h2 h3).1
theorem Joj {α:Type} {p:α→Bool} {d:α}:∀{l:List α} {k:Nat},0≤Vt p l k→∃i,Vt p l k=((k+i:Nat):Int)∧p (l.getD i d)=true
 |[],k,h=>by unfold Vt at h;exact absurd h (by decide)
 | x :: l, k, h => by
  unfold Vt at h⊢
  by_cases q:p x=true
  ·rw[if_pos q];exact⟨0,rfl,q⟩
  ·rw[if_neg q] at h⊢
   obtain⟨i,h1,h2⟩:=Joj (d:=d) h
   exact⟨i+1,by rw[h1];congr 1;omega,h2⟩
theorem Jlx {X:List Out} {s:ByteArray} (h:0≤Kc X s):(Df X s).1=s:=by
 unfold Kc at h
 obtain⟨i,h1,h2⟩:=Joj (d:=Fi) h
 have:Df X s=X.getD i Fi:=by unfold Df Kc;rw[h1,Nat.zero_add];rfl
 rw[this]
 exact Y9 h2
theorem Kyi {M:List Met} {s:ByteArray} {h:Int}:decide (0≤K6 M s h)=(X7 M s h).2:=by
 unfold X7
 by_cases q:0≤K6 M s h
 ·rw[if_pos q,decide_eq_true q]
 ·rw[if_neg q,decide_eq_false q]
theorem Jq2 {f:Int→Bool} {a:Int} {k n:Nat} (h:k<n):Js7 f (a+(k:Int)) (n-k)=bif f (a+(k:Int)) then true else Js7 f (a+((k+1:Nat):Int)) (n-(k+1)):=by
 have hj:n-k=(n-(k+1))+1:=by omega
 rw[hj,Js7]
 have:a+(k:Int)+1=a+((k+1:Nat):Int):=by push_cast;omega
 rw[this]
theorem Jq3 {f:Int→Bool} {a:Int} {k n:Nat} (h:n≤k):Js7 f a (n-k)=false:=by
 have hj:n-k=0:=by omega
 rw[hj];rfl
theorem Ucx (a b p:Int):decide (min a b<p)=bif decide (a<p) then true else decide (b<p):=by
 by_cases h:a<p
 ·rw[decide_eq_true h];exact decide_eq_true (by omega)
 ·rw[decide_eq_false h,cond_false]
  by_cases h2:b<p
  ·rw[decide_eq_true h2];exact decide_eq_true (by omega)
  ·rw[decide_eq_false h2];exact decide_eq_false (by omega)
theorem Kyn {α:Type} {l:List α} {p:α→Bool}:decide ((0:Int)<(l.filter p).length)=l.any p:=by
 induction l with
 |nil=>rfl
 |cons x l ih=>
  rw[List.filter_cons,List.any_cons]
  cases h:p x with
  |true=>rw[if_pos rfl,Bool.true_or];exact decide_eq_true (by rw[List.length_cons];omega)
  |false=>rw[if_neg (by simp),Bool.false_or];exact ih
theorem J7e {X:List Out} {Q:List Per} {u:Int} (hu:Jc1 X) (hp:∀p∈Q,0≤Kc X p.2.1):decide ((0:Int)<((Ha Q).filter fun p=>decide ((Df X p.2.1).2.2.1.2≤u)).length)=X.any fun x=>decide (x.2.2.1.2≤u)&&Yj Q x.1:=by
 rw[Kyn,Bool.eq_iff_iff,List.any_eq_true,List.any_eq_true]
 constructor
 ·rintro⟨p,h1,h2⟩
  have hq:=Jly h1
  have h3:=hp p hq
  refine⟨Df X p.2.1,Jvn h3, ?_⟩
  rw[h2,Bool.true_and]
  unfold Yj
  rw[Kyn,List.any_eq_true]
  exact⟨p,h1,by rw[Jlx h3,beq_self_eq_true]⟩
 ·rintro⟨x,h1,h2⟩
  rw[Bool.and_eq_true] at h2
  obtain⟨h2,h3⟩:=h2
  unfold Yj at h3
  rw[Kyn,List.any_eq_true] at h3
  obtain⟨p,h4,h5⟩:=h3
  have h6:p.2.1=x.1:=Y9 h5
  exact⟨p,h4,by rw[h6,J6n hu h1];exact h2⟩
theorem X2 {X:List Ord} {s:ByteArray} (h:0≤K0 X s):(Xj X s).1=s:=by
 unfold K0 at h
 obtain⟨i,h1,h2⟩:=Joj (d:=Jo) h
 have:Xj X s=X.getD i Jo:=by unfold Xj K0;rw[h1,Nat.zero_add];rfl
 rw[this]
 exact Y9 h2
section
variable {r:Reg} {e:Ev}
theorem lfT (h:decide (e.2.2.2.1.getD 0 0<r.1)=true):True∧r=Yz r e∧22=Vp r e:=⟨trivial,(Jq5 h).1.symm,(Jq5 h).2.symm⟩
theorem lfN (h:decide (e.2.2.2.1.getD 0 0<r.1)=false) (h2:(Jx r e.2.1 e.2.2.1 !=0)=true):True∧r=Yz r e∧Jx r e.2.1 e.2.2.1=Vp r e:=⟨trivial,(Jmw h (bne_iff_ne.mp h2)).1.symm,(Jmw h (bne_iff_ne.mp h2)).2.symm⟩
theorem lfA {c:Int} {R:Reg} (h:decide (e.2.2.2.1.getD 0 0<r.1)=false) (h2:(Jx r e.2.1 e.2.2.1 !=0)=false) (h3:ckS r e=c) (h4:(c≠0∧(e.2.2.2.1.getD 0 0,r.2)=R)∨(c=0∧Jw r e=R)):True∧R=Yz r e∧c=Vp r e:=by
 rcases h4 with⟨h4,rfl⟩|⟨rfl,rfl⟩
 ·exact⟨trivial,(Kzw h h2 (by rw[h3];exact h4)).symm,((Kkl h h2).trans h3).symm⟩
 ·exact⟨trivial,(Kzx h h2 h3).symm,((Kkl h h2).trans h3).symm⟩
theorem Jzr (hr:Jn r) (hc:Jd e=0):e.2.2.1.length=(Jh e.2.1).1.length∧(e.2.2.2.1.length:Int)=(Jh e.2.1).2.1∧r.2.2.1.length≤6∧r.2.2.2.1.length≤32∧r.2.2.2.2.2.1.length≤16∧r.2.2.2.2.2.2.length≤16∧∀i,i<e.2.2.2.1.length→(0≤e.2.2.2.1.getD i 0∧e.2.2.2.1.getD i 0≤999999999):=
 have hE:=K1 hc
 ⟨hE.nn,hE.nv,hr.nS,hr.nO,hr.nX,hr.nQ,fun _ hi=>hE.val _ (Je hi)⟩
theorem fcN {k ns} (a:(Jx r k ns !=0)=false):Ks r ns (Jh k).1 0=false:=(Jsm (by simpa using a)).1
end
theorem Udo (a b:Bool):(a&&b)=bif a then b else false:=by cases a<;>rfl
theorem rcb:({data:={toList:=[]}}:ByteArray)=Jb:=congrArg (fun x=>x) rfl
theorem rcS (S s):List.getD S (J6 S s).toNat (Jb,0,0)=Hm S s:=congrArg (fun x=>x) rfl
theorem rcO (O s):List.getD O (K0 O s).toNat (Jb,Jb,Jb,(0,0),0,0,0)=Xj O s:=congrArg (fun x=>x) rfl
theorem rcX (X s):List.getD X (Kc X s).toNat (Jb,Jb,(0,0),0)=Df X s:=congrArg (fun x=>x) rfl
theorem rcQ (Q s):List.getD Q (U5 Q s).toNat (Jb,Jb,false)=Jm9 Q s:=congrArg (fun x=>x) rfl
set_option maxHeartbeats 20000000
def Z57 (a:List Met):=List.length a<10000
def Jit (a:Li) (b:Int):=decide (U8 a<b)
def Jis (a:List Met):=(0+List.length a)*40≤140737488355328
def Jir (a:List Out):=(0+List.length a)*56≤140737488355328
def Jiq (a:List Per):=(0+List.length a)*40≤140737488355328
def Jip (a:List Sta):=(0+List.length a)*32≤140737488355328
def Jio (a:List Ord):=(0+List.length a)*88≤140737488355328
def Jdw (a:Li) (b:Int) (c:List Sta) (d:List Ord) (e:List Met) (f:List Out) (g:List Per):=(U8 a,b,c,d,e,f,g)
def Jtw (a b:Int) (c:List Sta) (d:List Ord) (e:List Met) (f:List Out) (g:List Per) (h:Ls):=Ju a b c d e f g∧Sf true (List.length h=1)
variable (T:TypeId) (E C:List Ev) (G:List Reg) (tk st:Int) (S:List Sta) (O:List Ord) (M:List Met) (X:List Out) (Q:List Per) (n:Int) (ns:List ByteArray) (vs:List Int) (tx:ByteArray)
theorem Jiy:wpFG Tryz.prog Jtm.g L8 (X8 (none)) (Sx.look ([(225,Tryz.f225),(226,Tryz.f226),(227,Tryz.f227)]:List (Nat×Func))) Tryz.f132 L7 ((tk,st,S,O,M,X,Q),(n,Jy,ns,vs,tx),()):=by
 refine(by kernel_rfl:(Ju tk st S O M X Q→Jc1 X→Z57 M→Jd (Z37 n ns vs tx)=0→Lb Jy J1=false→K4 vs∧Br (Jit vs tk) (Sf true (Z72 tk st S O M X Q=Yz (Z72 tk st S O M X Q) (Z37 n ns vs tx)∧22=Vp (Z72 tk st S O M X Q) (Z37 n ns vs tx))) (Jtw tk st S O M X Q ns∧Br (Jx (Z72 tk st S O M X Q) Jy ns !=0) (Sf true (Z72 tk st S O M X Q=Yz (Z72 tk st S O M X Q) (Z37 n ns vs tx)∧Jx (Z72 tk st S O M X Q) Jy ns=Vp (Z72 tk st S O M X Q) (Z37 n ns vs tx))) (Jip S∧Jio O∧Jis M∧Jir X∧Jiq Q∧Jrj vs∧Br (Xw (Zo vs) 1 1000) (K4 vs∧Sf true (Jdw vs st S O M X Q=Yz (Z72 tk st S O M X Q) (Z37 n ns vs tx)∧3=Vp (Z72 tk st S O M X Q) (Z37 n ns vs tx))) (Br (decide (6≤Ln ([]++S))) (K4 vs∧Sf true (Jdw vs st S O M X Q=Yz (Z72 tk st S O M X Q) (Z37 n ns vs tx)∧5=Vp (Z72 tk st S O M X Q) (Z37 n ns vs tx))) (Kqz ns vs S∧K4 vs∧Sf true ((U8 vs,st,Krw S ns vs,O,M,X,Q)=Yz (Z72 tk st S O M X Q) (Z37 n ns vs tx)∧0=Vp (Z72 tk st S O M X Q) (Z37 n ns vs tx)))))))=_).mp ?_
 delta Z30 Z35 Z37 Z57 Z72 Yd K4 Uz Jrj Zo U8 Ju Jit Jis Jir Jiq Jip Jio Jdw Jtw Krw Kqz Br Bd T2 Tw Sf Ln B0 Lb Jy J1
 intro hr hu hm hc _
 obtain⟨hn,hv,nS,nO,nX,nQ,hx⟩:=Jzr hr hc
 simp only[Ui,List.length_cons,List.length_nil] at hn hv nS nO nX nQ hx
 have cE:ckS (tk,st,S,O,M,X,Q) (n,Jy,ns,vs,tx)=Jmp S vs:=by simp only[ckS,Ui]
 have sE:Jw (tk,st,S,O,M,X,Q) (n,Jy,ns,vs,tx)=(vs.getD 0 0,(Jbq (tk,st,S,O,M,X,Q) (n,Jy,ns,vs,tx)).2):=by simp only[Jw,doS,Ui]
 simp only[List.nil_append,rcb,rcS,rcO,rcX,rcQ,Prod.eta]
 repeat' first|exact lfT ‹_›|exact lfN ‹_› ‹_›|exact lfA ‹_› ‹_› (cE.trans (by clear cE sE hx hc;simp only[Jmp,Jg,Hy,List.nil_append, *,cond_true,cond_false,reduceIte,decide_true,decide_false,Bool.not_true,Bool.not_false,Int.reduceEq,Int.reduceNe,ne_eq,not_false_eq_true,not_true_eq_false];first|done|rfl|decide)) (by first|exact .inl ⟨by decide,rfl⟩|exact .inl ⟨bne_iff_ne.mp ‹_›,rfl⟩|exact .inr ⟨rfl,sE.trans (by first|rfl|simp only[Jbq,List.nil_append])⟩)|apply And.intro|intro _
 all_goals first|omega|trivial|assumption
def K6k (a:List Sta) (b:Ls):=Gt ([]++a) (J59 a b) Z12
theorem Jng:wpFG Tryz.prog Jtm.g L8 (X8 (none)) (Sx.look ([(225,Tryz.f225),(226,Tryz.f226),(227,Tryz.f227)]:List (Nat×Func))) Tryz.f132 L7 ((tk,st,S,O,M,X,Q),(n,Ue,ns,vs,tx),()):=by
 refine(by kernel_rfl:(Ju tk st S O M X Q→Jc1 X→Z57 M→Jd (Z16 n ns vs tx)=0→Lb Ue J1=false→K4 vs∧Br (Jit vs tk) (Sf true (Z72 tk st S O M X Q=Yz (Z72 tk st S O M X Q) (Z16 n ns vs tx)∧22=Vp (Z72 tk st S O M X Q) (Z16 n ns vs tx))) (Jtw tk st S O M X Q ns∧Br (Jx (Z72 tk st S O M X Q) Ue ns !=0) (Sf true (Z72 tk st S O M X Q=Yz (Z72 tk st S O M X Q) (Z16 n ns vs tx)∧Jx (Z72 tk st S O M X Q) Ue ns=Vp (Z72 tk st S O M X Q) (Z16 n ns vs tx))) (Jip S∧Jio O∧Jis M∧Jir X∧Jiq Q∧Jrj vs∧Br (decide (1000<Zo vs)) (K4 vs∧Sf true (Jdw vs st S O M X Q=Yz (Z72 tk st S O M X Q) (Z16 n ns vs tx)∧3=Vp (Z72 tk st S O M X Q) (Z16 n ns vs tx))) (T2 (Yd ns) (Z62 S∧T2 (Z35 vs) (Tw (Bd (J59 S ns) (Ln ([]++S)))))∧K4 vs∧Sf true ((U8 vs,st,List.set ([]++S) (Int.toNat (J59 S ns)) ((K6k S ns).1,(K6k S ns).2.1,Zo vs),O,M,X,Q)=Yz (Z72 tk st S O M X Q) (Z16 n ns vs tx)∧0=Vp (Z72 tk st S O M X Q) (Z16 n ns vs tx))))))=_).mp ?_
 delta Z12 Z16 Z30 Z35 Z57 Z62 Z72 Yd K4 Uz Jrj Zo U8 Ju J59 Jit Jis Jir Jiq Jip Jio Jdw Jtw K6k Br Bd T2 Tw Sf Ln Gt B0 Lb Ue J1
 intro hr hu hm hc _
 obtain⟨hn,hv,nS,nO,nX,nQ,hx⟩:=Jzr hr hc
 simp only[Vj,List.length_cons,List.length_nil] at hn hv nS nO nX nQ hx
 have cE:ckS (tk,st,S,O,M,X,Q) (n,Ue,ns,vs,tx)=Joy vs:=by simp only[ckS,Vj]
 have sE:Jw (tk,st,S,O,M,X,Q) (n,Ue,ns,vs,tx)=(vs.getD 0 0,(Fw (tk,st,S,O,M,X,Q) (n,Ue,ns,vs,tx)).2):=by simp only[Jw,doS,Vj]
 have hp:decide (vs.getD 1 0<0)=false:=decide_eq_false (by have:=hx 1 (by omega);omega)
 have hF:(Jx (tk,st,S,O,M,X,Q) Ue ns !=0)=false→(0≤J6 S (ns.getD 0 Jb)∧J6 S (ns.getD 0 Jb)<S.length):=fun a=>by
  have z:=fcN a
  rw[Vj] at z
  obtain⟨k0,z⟩:=Jm z
  exact⟨Jsx (k0 rfl),K8⟩
 simp only[List.nil_append,rcb,rcS,rcO,rcX,rcQ,Prod.eta]
 repeat' first|exact lfT ‹_›|exact lfN ‹_› ‹_›|exact lfA ‹_› ‹_› (cE.trans (by clear cE sE hF hx hc;simp only[Joy,Kr,Bool.false_or,Hy,List.nil_append, *,cond_true,cond_false,reduceIte,decide_true,decide_false,Bool.not_true,Bool.not_false,Int.reduceEq,Int.reduceNe,ne_eq,not_false_eq_true,not_true_eq_false];first|done|rfl|decide)) (by first|exact .inl ⟨by decide,rfl⟩|exact .inl ⟨bne_iff_ne.mp ‹_›,rfl⟩|exact .inr ⟨rfl,sE.trans (by first|rfl|simp only[Fw,List.nil_append]|simp only[Fw,X2 (hF ‹_›).1])⟩)|apply And.intro|intro _
 all_goals first|omega|trivial|assumption|(have:=hF ‹_›;omega)
abbrev Jin (tk st:Int) (S:List Sta) (O:List Ord) (M:List Met) (X:List Out) (Q:List Per) (n:Int) (ns:List ByteArray) (vs:List Int) (tx:ByteArray):Ann:={X:=Nat,σ:=fun k=>⟨30,[(2, .one (.ptr 25 0)),(3, .one (.ptr 26 0)),(4, .one (.ptr 27 0)),(6, .one (.sl 6)),(7, .one (.ptr 28 0)),(8, .one (.int .i64 (vs.getD 1 0+k)))],[(5, .imm 9 .str ns),(6, .imm 3 sI vs),(8, .box 67 [.int .i64 n, .str Ku, .sl 5, .sl 6, .str tx]),(9, .box 37 J4m),(23, .box 37 [.int .i64 tk, .int .i64 st, .sl 14, .sl 16, .sl 18, .sl 20, .sl 22]),(24, .sus [(3, .one (.ptr 8 0)),(4, .one (.ptr 9 0)),(7, .one (.ptr 23 0))]),(25, .box 37 [.int .i64 tk, .int .i64 st, .sl 14, .sl 16, .sl 18, .sl 20, .sl 22]),(26, .box 67 [.int .i64 n, .str Ku, .sl 5, .sl 6, .str tx]),(27, .box 37 J4m),(28, .box 117 [.int .i64 (vs.getD 1 0), .int .i64 (vs.getD 2 0)]),(14, .own 114 De S),(16, .own 119 Hj O),(18, .own 121 Dm M),(20, .own 123 X4 X),(22, .own 125 Zl Q)]⟩,inv:=fun k=>k≤(vs.getD 2 0-vs.getD 1 0).toNat∧Jwm S O X (n,Ku,ns,vs,tx)=Js7 (fun h=>decide (min (X0 S O X (ns.getD 1 Jb) h) (X0 S O X (ns.getD 2 Jb) h)<vs.getD 3 0)) (vs.getD 1 0+k) ((vs.getD 2 0-vs.getD 1 0).toNat-k),mu:=fun k=>(vs.getD 2 0-vs.getD 1 0).toNat-k}
def Jty (a:Li) (b:Nat):=Zo a+Nc b
def Km6 (a:Li) (b:Nat):=Jty a b+1
def Kso (a:Li):=Int.toNat (Jm2 a-Zo a)
def Ksj (a:Li) (b:Nat):=Zo a=Jty a b
def Kf1 (a:Li) (b:Nat):=Kso a-b
def Ksh (a:Nat) (b:Li):=a≤Kso b
def Kr8 (a:Li) (b:Nat):=decide (Jty a b<Jm2 a)
def Krg (a:Li) (b c:Nat):=Km6 a b=Jty a c
def Kre (a:Li):=Kj0 (U8 a) (Zo a) (Jm2 a)
def Kff (a:Li) (b:Int) (c:List Sta) (d:List Ord) (e:List Met) (f:List Out) (g:List Per) (h i:Int) (j:Ls) (k:Bt):=Jdw a b c d e f g=Yz (Z72 h b c d e f g) (Z15 i j a k)
def Kln (a:List Sta) (b:List Ord) (c:List Out) (d:Ls) (e:Li) (f:Nat):=decide (X0 a b c (Lp d) (Jty e f)<Jb4 e)=false
def Kpi (a:Li) (b c:Nat):=Kf1 a b<Kf1 a c
def Kou (a:Li):=T2 (Z30 a) ((0≤Zo a∧Zo a≤999999999)∧0≤Jm2 a∧Jm2 a≤999999999)
def J34 (a:Nat) (b:Li) (c:List Sta) (d:List Ord) (e:List Out) (f:Int) (g:Ls) (h:Bt):=Ksh a b∧Jwm c d e (Z15 f g b h)=Js7 (fun(h:Int)=>decide (min (X0 c d e (Jko g) h) (X0 c d e (J99 g) h)<Jb4 b)) (Jty b a) (Kf1 b a)
def J33 (a:Bt) (b:Li) (c:List Sta) (d:List Ord) (e:List Met) (f:List Out) (g:List Per):=Sf a (Si 0 (Si 0 (Sf Vh (Sf Vh (Sf Vh (Sf Vh (Sf Vh (Si (Zo b) (Si (Jm2 b) (Sf c (Sf d (Sf e (Sf f (g=g))))))))))))))
def Kbg (a:Ls) (b:Li) (c:Int) (d:Bt) (e f:Int) (g:List Sta) (h:List Ord) (i:List Met) (j:List Out) (k:List Per):=Sf a (Sf b (Si c (Sf Ku (Sf d (Si 0 (Si 0 (Sf Vh (Sf Vh (Sf Vh (Sf Vh (Sf Vh (Si e (Si f (Si e (Si f (Si c (Sf Ku (J33 d b g h i j k))))))))))))))))))
theorem Jnh:wpFG Tryz.prog Jtm.g L8 (X8 (some (Jin tk st S O M X Q n ns vs tx))) (Sx.look ([(225,Tryz.f225),(226,Tryz.f226),(227,Tryz.f227)]:List (Nat×Func))) Tryz.f132 L7 ((tk,st,S,O,M,X,Q),(n,Ku,ns,vs,tx),()):=by
 refine(by kernel_rfl:(Ju tk st S O M X Q→Jc1 X→Z57 M→Jd (Z15 n ns vs tx)=0→Lb Ku J1=false→K4 vs∧Br (Jit vs tk) (Sf true (Z72 tk st S O M X Q=Yz (Z72 tk st S O M X Q) (Z15 n ns vs tx)∧22=Vp (Z72 tk st S O M X Q) (Z15 n ns vs tx))) ((Ju tk st S O M X Q∧Sf true (Jt1 ns))∧Br (Jx (Z72 tk st S O M X Q) Ku ns !=0) (Sf true (Z72 tk st S O M X Q=Yz (Z72 tk st S O M X Q) (Z15 n ns vs tx)∧Jx (Z72 tk st S O M X Q) Ku ns=Vp (Z72 tk st S O M X Q) (Z15 n ns vs tx))) (Jip S∧Jio O∧Jis M∧Jir X∧Jiq Q∧Kgc vs∧T2 (Jeo ns) (Tw (J6d ns))∧Br (Ks1 ns) (K4 vs∧Sf true (Kff vs st S O M X Q tk n ns tx∧24=Vp (Z72 tk st S O M X Q) (Z15 n ns vs tx))) (Kou vs∧Br (Kre vs) (K4 vs∧Sf true (Kff vs st S O M X Q tk n ns tx∧14=Vp (Z72 tk st S O M X Q) (Z15 n ns vs tx))) (J0h vs∧Br (Xw (Jb4 vs) 1 1000) (K4 vs∧Sf true (Kff vs st S O M X Q tk n ns tx∧3=Vp (Z72 tk st S O M X Q) (Z15 n ns vs tx))) (∃(x:Nat),(Ksj vs x∧Kbg ns vs n tx tk st S O M X Q)∧J34 x vs S O X n ns tx∧∀(x:Nat),J34 x vs S O X n ns tx→Br (Kr8 vs x) (T2 (Jeo ns) (Ju tk st S O M X Q∧J52 S ns∧T2 (Z29 vs) (T2 (Kln S O X ns vs x→J6d ns) ((Kln S O X ns vs x→Ju tk st S O M X Q)∧(Kln S O X ns vs x→0≤J6 S (Jpe ns))∧Tw (Kln S O X ns vs x→Z29 vs))))∧Br (bif decide (X0 S O X (Lp ns) (Jty vs x)<Jb4 vs) then true else decide (X0 S O X (Jpe ns) (Jty vs x)<Jb4 vs)) (K4 vs∧Sf true (Kff vs st S O M X Q tk n ns tx∧4=Vp (Z72 tk st S O M X Q) (Z15 n ns vs tx))) (Iw (Km6 vs x)∧∃(y:Nat),(Krg vs x y∧Kbg ns vs n tx tk st S O M X Q)∧J34 y vs S O X n ns tx∧Kpi vs y x)) (Br (decide (32≤Ln O)) (K4 vs∧Sf true (Kff vs st S O M X Q tk n ns tx∧5=Vp (Z72 tk st S O M X Q) (Z15 n ns vs tx))) (T2 (Yd ns) (T2 (Jeo ns) (T2 (J6d ns) (T2 (Z29 vs) (T2 (Jeo ns) (Z62 S∧T2 (Bd (J0b S ns) (Ln S)) ((List.length O+1)*88≤140737488355328))))))∧K4 vs∧Sf true ((U8 vs,st,S,O++[(Uz ns,Lp ns,Jpe ns,Kf8 vs,Jb4 vs,(Gt S (J0b S ns) Z12).2.2,Z79)],M,X,Q)=Yz (Z72 tk st S O M X Q) (Z15 n ns vs tx)∧0=Vp (Z72 tk st S O M X Q) (Z15 n ns vs tx))))))))))=_).mp ?_
 delta Z12 Z15 Z29 Z30 Z35 Z36 Z57 Z62 Z72 Z79 Yd J0h Jpe J6d K4 Uz Jeo Zo Lp Jm2 U8 Jb4 J99 Jt1 Jko Ju Vh J0b Jty Jit Jis Jir Jiq Jip Jio J52 Km6 Jdw Kgc Kf8 Ks1 Kso Ksj Kf1 Ksh Kr8 Krg Kre Kff Kln Kpi Kou J34 J33 Kbg Br Iw Bd T2 Tw Sf Si Ln Nc Gt B0 Lb Ku J1
 intro hr hu hm hc _
 obtain⟨hn,hv,nS,nO,nX,nQ,hx⟩:=Jzr hr hc
 simp only[U1,List.length_cons,List.length_nil] at hn hv nS nO nX nQ hx
 have cE:ckS (tk,st,S,O,M,X,Q) (n,Ku,ns,vs,tx)=Jct S O X (n,Ku,ns,vs,tx):=by simp only[ckS,U1]
 have sE:Jw (tk,st,S,O,M,X,Q) (n,Ku,ns,vs,tx)=(vs.getD 0 0,(F0 (tk,st,S,O,M,X,Q) (n,Ku,ns,vs,tx)).2):=by simp only[Jw,doS,U1]
 have hF:(Jx (tk,st,S,O,M,X,Q) Ku ns !=0)=false→(0≤J6 S (ns.getD 1 Jb)∧J6 S (ns.getD 1 Jb)<S.length)∧(0≤J6 S (ns.getD 2 Jb)∧J6 S (ns.getD 2 Jb)<S.length):=fun a=>by
  have z:=fcN a
  rw[U1] at z
  obtain⟨k0,z⟩:=Jm z
  obtain⟨k1,z⟩:=Jm z
  obtain⟨k2,z⟩:=Jm z
  exact⟨⟨Jsx (k1 rfl),K8⟩,⟨Jsx (k2 rfl),K8⟩⟩
 have v1:=hx 1 (by omega)
 have v2:=hx 2 (by omega)
 have v3:=hx 3 (by omega)
 have pE:Zu (n,Ku,ns,vs,tx)=bif Kj0 (vs.getD 0 0) (vs.getD 1 0) (vs.getD 2 0) then 14 else 0:=rfl
 simp only[List.nil_append,rcb,rcS,rcO,rcX,rcQ,Prod.eta]
 repeat' first|exact lfT ‹_›|exact lfN ‹_› ‹_›|exact lfA ‹_› ‹_› (cE.trans (by clear cE sE hF hx hc;simp only[Jct,Jik,Jg,Hy,List.nil_append, *,cond_true,cond_false,reduceIte,decide_true,decide_false,Bool.not_true,Bool.not_false,Int.reduceEq,Int.reduceNe,ne_eq,not_false_eq_true,not_true_eq_false];first|done|rfl|decide)) (by first|exact .inl ⟨by decide,rfl⟩|exact .inl ⟨bne_iff_ne.mp ‹_›,rfl⟩|exact .inr ⟨rfl,sE.trans (by first|rfl|(simp only[F0,List.nil_append];done)|simp only[F0,X2 (hF ‹_›).1])⟩)|(refine⟨(0:Nat),by(repeat' first|exact rfl|exact⟨⟩|apply And.intro|omega|dsimp only;omega),⟨Nat.zero_le _,by simp[Hw,V0,Jwm]⟩,fun(k:Nat) hk=>⟨fun h1=> ?_,fun h1=> ?_⟩⟩;obtain⟨k1,k2⟩:=hk;replace h1:=of_decide_eq_true h1;rw[Jq2 (by omega)] at k2;rw[Ucx] at k2;rotate_left;obtain⟨k1,k2⟩:=hk;replace h1:=of_decide_eq_false h1;rw[Jq3 (by omega)] at k2)|(refine⟨(k+1:Nat),by(repeat' first|exact rfl|exact⟨⟩|apply And.intro|omega|dsimp only;omega),⟨by omega, ?_⟩,by omega⟩;rw[k2,show(bif decide (X0 S O X (ns.getD 1 Jb) (vs.getD 1 0+k)<vs.getD 3 0) then true else decide (X0 S O X (ns.getD 2 Jb) (vs.getD 1 0+k)<vs.getD 3 0))=false from ‹_›];rfl)|apply And.intro|intro _
 all_goals first|omega|trivial|assumption|(have:=hF ‹_›;omega)
def Kmu (a:List Ord) (b:Ls):=Bd (Jrg a b) (Ln ([]++a))
def Ksi (a:List Ord) (b:Ls):=Tw (Kmu a b)
def Kfe (a:Li) (b:Int) (c:List Sta) (d:List Ord) (e:List Met) (f:List Out) (g:List Per) (h i:Int) (j:Ls) (k:Bt):=Jdw a b c d e f g=Yz (Z72 h b c d e f g) (Z13 i j a k)
def Kqc (a:List Ord) (b:Ls):=Gt ([]++a) (Jrg a b) Jem
def Kqa (a:List Ord) (b:Ls):=(Kqc a b).2
def Kfc (a:List Ord) (b:Ls):=(Kqc a b).1
def Kp7 (a:List Ord) (b:Ls):=(Kqa a b).2
def Kp6 (a:List Ord) (b:Ls):=(Kqa a b).1
def Kp2 (a:List Ord) (b:Ls):=(Kp7 a b).2
def Kp1 (a:List Ord) (b:Ls):=(Kp7 a b).1
def Kp0 (a:List Ord) (b:Ls):=(Kp2 a b).2
def Kpz (a:List Ord) (b:Ls):=(Kp2 a b).1
def Klm (a:List Ord) (b:Ls):=(Kp0 a b).2
def Kll (a:List Ord) (b:Ls):=(Kp0 a b).1
def Kpw (a:List Ord) (b:Ls):=(Klm a b).2
def Klc (a:List Ord) (b:Ls):=E2 (Kpz a b)
def K1m (a:List Ord) (b:Ls) (c:Li):=decide (Kll a b<Jm2 c)
def K1d (a:List Ord) (b:Ls) (c:Li):=K1m a b c=false
theorem Jni:wpFG Tryz.prog Jtm.g L8 (X8 (none)) (Sx.look ([(225,Tryz.f225),(226,Tryz.f226),(227,Tryz.f227)]:List (Nat×Func))) Tryz.f132 L7 ((tk,st,S,O,M,X,Q),(n,Uc,ns,vs,tx),()):=by
 refine(by kernel_rfl:(Ju tk st S O M X Q→Jc1 X→Z57 M→Jd (Z13 n ns vs tx)=0→Lb Uc J1=false→K4 vs∧Br (Jit vs tk) (Sf true (Z72 tk st S O M X Q=Yz (Z72 tk st S O M X Q) (Z13 n ns vs tx)∧22=Vp (Z72 tk st S O M X Q) (Z13 n ns vs tx))) (Jtw tk st S O M X Q ns∧Br (Jx (Z72 tk st S O M X Q) Uc ns !=0) (Sf true (Z72 tk st S O M X Q=Yz (Z72 tk st S O M X Q) (Z13 n ns vs tx)∧Jx (Z72 tk st S O M X Q) Uc ns=Vp (Z72 tk st S O M X Q) (Z13 n ns vs tx))) (Jip S∧Jio O∧Jis M∧Jir X∧Jiq Q∧T2 (Yd ns) (Z64 O∧Ksi O ns)∧T2 (Z35 vs) (K4 vs)∧Br (Ksq vs) (K4 vs∧Sf true (Kfe vs st S O M X Q tk n ns tx∧11=Vp (Z72 tk st S O M X Q) (Z13 n ns vs tx))) (Jrj vs∧Br (!Ki (Klc O ns) (Zo vs)) (K4 vs∧Sf true (Kfe vs st S O M X Q tk n ns tx∧14=Vp (Z72 tk st S O M X Q) (Z13 n ns vs tx))) (T2 (Z35 vs) (Z79≤Kpw O ns)∧Br (!Jr (Kfc O ns,Kp6 O ns,Kp1 O ns,Klc O ns,Kll O ns,E2 (Klm O ns)) (Zo vs)) (K4 vs∧Sf true (Kfe vs st S O M X Q tk n ns tx∧23=Vp (Z72 tk st S O M X Q) (Z13 n ns vs tx))) (T2 (Z35 vs) (Ju tk st S O M X Q)∧Br (X7 M (Kfc O ns) (Zo vs)).2 (K4 vs∧Sf true (Kfe vs st S O M X Q tk n ns tx∧9=Vp (Z72 tk st S O M X Q) (Z13 n ns vs tx))) (T2 (Z36 vs) (T2 (K1d O ns vs→Z29 vs) (Tw (K1d O ns vs→Z36 vs)))∧Br (bif K1m O ns vs then true else Ksp vs) (K4 vs∧Sf true (Kfe vs st S O M X Q tk n ns tx∧3=Vp (Z72 tk st S O M X Q) (Z13 n ns vs tx))) (Kpt vs M∧K4 vs∧Sf true ((U8 vs,st,S,O,M++[(Kfc O ns,Krl vs)],X,Q)=Yz (Z72 tk st S O M X Q) (Z13 n ns vs tx)∧0=Vp (Z72 tk st S O M X Q) (Z13 n ns vs tx))))))))))=_).mp ?_
 delta Z13 Z29 Z30 Z35 Z36 Z57 Z64 Z72 Z79 Z83 Yd K4 Uz Jrj Zo Jm2 U8 Jb4 Ju Jrg Jit Jis Jir Jiq Jip Jio Jdw Jem Kmu Ksq Ksp Ksi Jtw Krl Kfe Kqc Kqa Kfc Kp7 Kp6 Kp2 Kp1 Kp0 Kpz Klm Kll Kpw Kpt Klc K1m K1d Br Bd T2 Tw Sf Ln Gt B0 Lb E2 Uc J1
 intro hr hu hm hc _
 obtain⟨hn,hv,nS,nO,nX,nQ,hx⟩:=Jzr hr hc
 simp only[U2,List.length_cons,List.length_nil] at hn hv nS nO nX nQ hx
 have cE:ckS (tk,st,S,O,M,X,Q) (n,Uc,ns,vs,tx)=Jmq O M ns vs:=by simp only[ckS,U2]
 have sE:Jw (tk,st,S,O,M,X,Q) (n,Uc,ns,vs,tx)=(vs.getD 0 0,(F1 (tk,st,S,O,M,X,Q) (n,Uc,ns,vs,tx)).2):=by simp only[Jw,doS,U2]
 have hF:(Jx (tk,st,S,O,M,X,Q) Uc ns !=0)=false→(0≤K0 O (ns.getD 0 Jb)∧K0 O (ns.getD 0 Jb)<O.length):=fun a=>by
  have z:=fcN a
  rw[U2] at z
  obtain⟨k0,z⟩:=Jm z
  exact⟨J48 (k0 rfl),Ut⟩
 have hP:(Jx (tk,st,S,O,M,X,Q) Uc ns !=0)=false→-1≤(Xj O (ns.getD 0 Jb)).2.2.2.2.2.2:=fun a=>(hr.ord _ (Jaj (hF a).1)).trip.1
 simp only[List.nil_append,rcb,rcS,rcO,rcX,rcQ,Prod.eta]
 repeat' first|exact lfT ‹_›|exact lfN ‹_› ‹_›|exact lfA ‹_› ‹_› (cE.trans (by have hp:=hP ‹_›;clear cE sE hF hP hx hc;simp only[Jmq,Kyi,Jg,Hy,List.nil_append, *,cond_true,cond_false,reduceIte,decide_true,decide_false,Bool.not_true,Bool.not_false,Int.reduceEq,Int.reduceNe,ne_eq,not_false_eq_true,not_true_eq_false];first|done|rfl|decide)) (by first|exact .inl ⟨by decide,rfl⟩|exact .inl ⟨bne_iff_ne.mp ‹_›,rfl⟩|exact .inr ⟨rfl,sE.trans (by first|rfl|(simp only[F1,List.nil_append];done)|simp only[F1,X2 (hF ‹_›).1])⟩)|apply And.intro|intro _
 all_goals first|omega|trivial|assumption|exact hP ‹_›|(have:=hF ‹_›;omega)
def K2d (a:List Ord) (b:Ls):=decide (0≤Kpw a b)
def K1x (a:List Ord) (b:Ls):=K2d a b=false
theorem Jrq:wpFG Tryz.prog Jtm.g L8 (X8 (none)) (Sx.look ([(225,Tryz.f225),(226,Tryz.f226),(227,Tryz.f227)]:List (Nat×Func))) Tryz.f132 L7 ((tk,st,S,O,M,X,Q),(n,Vq,ns,vs,tx),()):=by
 refine(by kernel_rfl:(Ju tk st S O M X Q→Jc1 X→Z57 M→Jd (Z7 n ns vs tx)=0→Lb Vq J1=false→K4 vs∧Br (Jit vs tk) (Sf true (Z72 tk st S O M X Q=Yz (Z72 tk st S O M X Q) (Z7 n ns vs tx)∧22=Vp (Z72 tk st S O M X Q) (Z7 n ns vs tx))) (Jtw tk st S O M X Q ns∧Br (Jx (Z72 tk st S O M X Q) Vq ns !=0) (Sf true (Z72 tk st S O M X Q=Yz (Z72 tk st S O M X Q) (Z7 n ns vs tx)∧Jx (Z72 tk st S O M X Q) Vq ns=Vp (Z72 tk st S O M X Q) (Z7 n ns vs tx))) (Jip S∧Jio O∧Jis M∧Jir X∧Jiq Q∧T2 (Yd ns) (Z64 O)∧T2 (Kmu O ns) (T2 (K1x O ns→Kmu O ns) (Tw (K1x O ns→Z30 vs)))∧Br (bif K2d O ns then true else decide ((Kpz O ns).2≤U8 vs)) (K4 vs∧Sf true (Jdw vs st S O M X Q=Yz (Z72 tk st S O M X Q) (Z7 n ns vs tx)∧23=Vp (Z72 tk st S O M X Q) (Z7 n ns vs tx))) (T2 (Z30 vs) (Ksi O ns)∧K4 vs∧Sf true ((U8 vs,st,S,List.set ([]++O) (Int.toNat (Jrg O ns)) (Kfc O ns,Kp6 O ns,Kp1 O ns,Klc O ns,Kll O ns,(Klm O ns).1,U8 vs),M,X,Q)=Yz (Z72 tk st S O M X Q) (Z7 n ns vs tx)∧0=Vp (Z72 tk st S O M X Q) (Z7 n ns vs tx))))))=_).mp ?_
 delta Z7 Z30 Z57 Z64 Z72 Z83 Yd K4 Uz U8 Ju Jrg Jit Jis Jir Jiq Jip Jio Jdw Jem Kmu Ksi Jtw Kqc Kqa Kfc Kp7 Kp6 Kp2 Kp1 Kp0 Kpz Klm Kll Kpw Klc K2d K1x Br Bd T2 Tw Sf Ln Gt B0 Lb E2 Vq J1
 intro hr hu hm hc _
 obtain⟨hn,hv,nS,nO,nX,nQ,hx⟩:=Jzr hr hc
 simp only[Vw,List.length_cons,List.length_nil] at hn hv nS nO nX nQ hx
 have cE:ckS (tk,st,S,O,M,X,Q) (n,Vq,ns,vs,tx)=Jdh O ns vs:=by simp only[ckS,Vw]
 have sE:Jw (tk,st,S,O,M,X,Q) (n,Vq,ns,vs,tx)=(vs.getD 0 0,(Fv (tk,st,S,O,M,X,Q) (n,Vq,ns,vs,tx)).2):=by simp only[Jw,doS,Vw]
 have hF:(Jx (tk,st,S,O,M,X,Q) Vq ns !=0)=false→(0≤K0 O (ns.getD 0 Jb)∧K0 O (ns.getD 0 Jb)<O.length):=fun a=>by
  have z:=fcN a
  rw[Vw] at z
  obtain⟨k0,z⟩:=Jm z
  exact⟨J48 (k0 rfl),Ut⟩
 have hP:(Jx (tk,st,S,O,M,X,Q) Vq ns !=0)=false→((Xj O (ns.getD 0 Jb)).2.2.2.2.2.2 != -1)=decide (0≤(Xj O (ns.getD 0 Jb)).2.2.2.2.2.2):=fun a=>by
  have h: -1≤(Xj O (ns.getD 0 Jb)).2.2.2.2.2.2:=(hr.ord _ (Jaj (hF a).1)).trip.1
  by_cases q:0≤(Xj O (ns.getD 0 Jb)).2.2.2.2.2.2
  ·rw[decide_eq_true q];exact bne_iff_ne.mpr (by omega)
  ·rw[decide_eq_false q];exact bne_eq_false_iff_eq.mpr (by omega)
 simp only[List.nil_append,rcb,rcS,rcO,rcX,rcQ,Prod.eta]
 repeat' first|exact lfT ‹_›|exact lfN ‹_› ‹_›|exact lfA ‹_› ‹_› (cE.trans (by have hp:=hP ‹_›;clear cE sE hF hP hx hc;simp only[Jdh,Hy,List.nil_append, *,cond_true,cond_false,reduceIte,decide_true,decide_false,Bool.not_true,Bool.not_false,Int.reduceEq,Int.reduceNe,ne_eq,not_false_eq_true,not_true_eq_false];first|done|rfl|decide)) (by first|exact .inl ⟨by decide,rfl⟩|exact .inl ⟨bne_iff_ne.mp ‹_›,rfl⟩|exact .inr ⟨rfl,sE.trans (by first|rfl|simp only[Fv,List.nil_append]|simp only[Fv,X2 (hF ‹_›).1])⟩)|apply And.intro|intro _
 all_goals first|omega|trivial|assumption|exact hP ‹_›|(have:=hF ‹_›;omega)
abbrev Jgm (tk st:Int) (S:List Sta) (O:List Ord) (M:List Met) (X:List Out) (Q:List Per) (n:Int) (ns:List ByteArray) (vs:List Int) (tx:ByteArray):Ann:={X:=Nat,σ:=fun k=>⟨30,[(2, .one (.ptr 25 0)),(3, .one (.ptr 26 0)),(4, .one (.ptr 27 0)),(6, .one (.sl 6)),(7, .one (.ptr 28 0)),(8, .one (.int .i64 (vs.getD 1 0+k)))],[(5, .imm 9 .str ns),(6, .imm 3 sI vs),(8, .box 67 [.int .i64 n, .str Jz, .sl 5, .sl 6, .str tx]),(9, .box 37 J4m),(23, .box 37 [.int .i64 tk, .int .i64 st, .sl 14, .sl 16, .sl 18, .sl 20, .sl 22]),(24, .sus [(3, .one (.ptr 8 0)),(4, .one (.ptr 9 0)),(7, .one (.ptr 23 0))]),(25, .box 37 [.int .i64 tk, .int .i64 st, .sl 14, .sl 16, .sl 18, .sl 20, .sl 22]),(26, .box 67 [.int .i64 n, .str Jz, .sl 5, .sl 6, .str tx]),(27, .box 37 J4m),(28, .box 117 [.int .i64 (vs.getD 1 0), .int .i64 (vs.getD 2 0)]),(14, .own 114 De S),(16, .own 119 Hj O),(18, .own 121 Dm M),(20, .own 123 X4 X),(22, .own 125 Zl Q)]⟩,inv:=fun k=>k≤(vs.getD 2 0-vs.getD 1 0).toNat∧Hw (V0 (n,Jz,ns,vs,tx)) (fun h=>decide (vs.getD 3 0<Vf O (ns.getD 1 Jb) h))=Js7 (fun h=>decide (vs.getD 3 0<Vf O (ns.getD 1 Jb) h)) (vs.getD 1 0+k) ((vs.getD 2 0-vs.getD 1 0).toNat-k),mu:=fun k=>(vs.getD 2 0-vs.getD 1 0).toNat-k}
def Kly (a:Li) (b:Int) (c:List Sta) (d:List Ord) (e:List Met) (f:List Out) (g:List Per) (h i:Int) (j:Ls) (k:Bt):=Jdw a b c d e f g=Yz (Z72 h b c d e f g) (Z21 i j a k)
def J32 (a:Nat) (b:Li) (c:Int) (d:Ls) (e:Bt) (f:List Ord):=Ksh a b∧(Hw (V0 (Z21 c d b e)) fun(h:Int)=>decide (Jb4 b<Vf f (Jko d) h))=Js7 (fun(h:Int)=>decide (Jb4 b<Vf f (Jko d) h)) (Jty b a) (Kf1 b a)
def Kbf (a:Ls) (b:Li) (c:Int) (d:Bt) (e f:Int) (g:List Sta) (h:List Ord) (i:List Met) (j:List Out) (k:List Per):=Sf a (Sf b (Si c (Sf Jz (Sf d (Si 0 (Si 0 (Sf Vh (Sf Vh (Sf Vh (Sf Vh (Sf Vh (Si e (Si f (Si e (Si f (Si c (Sf Jz (J33 d b g h i j k))))))))))))))))))
theorem Jkz:wpFG Tryz.prog Jtm.g L8 (X8 (some (Jgm tk st S O M X Q n ns vs tx))) (Sx.look ([(225,Tryz.f225),(226,Tryz.f226),(227,Tryz.f227)]:List (Nat×Func))) Tryz.f132 L7 ((tk,st,S,O,M,X,Q),(n,Jz,ns,vs,tx),()):=by
 refine(by kernel_rfl:(Ju tk st S O M X Q→Jc1 X→Z57 M→Jd (Z21 n ns vs tx)=0→Lb Jz J1=false→K4 vs∧Br (Jit vs tk) (Sf true (Z72 tk st S O M X Q=Yz (Z72 tk st S O M X Q) (Z21 n ns vs tx)∧22=Vp (Z72 tk st S O M X Q) (Z21 n ns vs tx))) ((Ju tk st S O M X Q∧Sf true (Jri ns))∧Br (Jx (Z72 tk st S O M X Q) Jz ns !=0) (Sf true (Z72 tk st S O M X Q=Yz (Z72 tk st S O M X Q) (Z21 n ns vs tx)∧Jx (Z72 tk st S O M X Q) Jz ns=Vp (Z72 tk st S O M X Q) (Z21 n ns vs tx))) (Jip S∧Jio O∧Jis M∧Jir X∧Jiq Q∧Kgc vs∧Kou vs∧Br (Kre vs) (K4 vs∧Sf true (Kly vs st S O M X Q tk n ns tx∧14=Vp (Z72 tk st S O M X Q) (Z21 n ns vs tx))) (T2 (Z29 vs) (T2 (Jeo ns) (Z62 S∧Tw (Bd (J0b S ns) (Ln ([]++S)))))∧Br (decide ((Gt ([]++S) (J0b S ns) Z12).2.1≤Jb4 vs)) (K4 vs∧Sf true (Kly vs st S O M X Q tk n ns tx∧3=Vp (Z72 tk st S O M X Q) (Z21 n ns vs tx))) (∃(x:Nat),(Ksj vs x∧Kbf ns vs n tx tk st S O M X Q)∧J32 x vs n ns tx O∧∀(x:Nat),J32 x vs n ns tx O→Br (Kr8 vs x) (T2 (Jeo ns) (Ju tk st S O M X Q∧J0h vs)∧Br (decide (Jb4 vs<Vf O (Lp ns) (Jty vs x))) (K4 vs∧Sf true (Kly vs st S O M X Q tk n ns tx∧24=Vp (Z72 tk st S O M X Q) (Z21 n ns vs tx))) (Iw (Km6 vs x)∧∃(y:Nat),(Krg vs x y∧Kbf ns vs n tx tk st S O M X Q)∧J32 y vs n ns tx O∧Kpi vs y x)) (Br (decide (16≤Ln X)) (K4 vs∧Sf true (Kly vs st S O M X Q tk n ns tx∧5=Vp (Z72 tk st S O M X Q) (Z21 n ns vs tx))) (T2 (Yd ns) (T2 (Jeo ns) (Ksd vs X))∧K4 vs∧Sf true ((U8 vs,st,S,O,M,X++[(Uz ns,Lp ns,Kf8 vs,Jb4 vs)],Q)=Yz (Z72 tk st S O M X Q) (Z21 n ns vs tx)∧0=Vp (Z72 tk st S O M X Q) (Z21 n ns vs tx)))))))))=_).mp ?_
 delta Z12 Z21 Z29 Z30 Z35 Z36 Z57 Z62 Z72 Yd J0h K4 Uz Jeo Zo Lp Jm2 U8 Jb4 Jri Jko Ju Vh J0b Jty Jit Jis Jir Jiq Jip Jio Km6 Jdw Kgc Kf8 Kso Ksj Kf1 Ksh Ksd Kr8 Krg Kre Kly Kpi Kou J33 J32 Kbf Br Iw Bd T2 Tw Sf Si Ln Nc Gt B0 Lb Jz J1
 intro hr hu hm hc _
 obtain⟨hn,hv,nS,nO,nX,nQ,hx⟩:=Jzr hr hc
 simp only[K7,List.length_cons,List.length_nil] at hn hv nS nO nX nQ hx
 have cE:ckS (tk,st,S,O,M,X,Q) (n,Jz,ns,vs,tx)=Jcs S O X (n,Jz,ns,vs,tx):=by simp only[ckS,K7]
 have sE:Jw (tk,st,S,O,M,X,Q) (n,Jz,ns,vs,tx)=(vs.getD 0 0,(Fy (tk,st,S,O,M,X,Q) (n,Jz,ns,vs,tx)).2):=by simp only[Jw,doS,K7]
 have hF:(Jx (tk,st,S,O,M,X,Q) Jz ns !=0)=false→(0≤J6 S (ns.getD 1 Jb)∧J6 S (ns.getD 1 Jb)<S.length):=fun a=>by
  have z:=fcN a
  rw[K7] at z
  obtain⟨k0,z⟩:=Jm z
  obtain⟨k1,z⟩:=Jm z
  exact⟨Jsx (k1 rfl),K8⟩
 have v1:=hx 1 (by omega)
 have v2:=hx 2 (by omega)
 have v3:=hx 3 (by omega)
 have pE:Zu (n,Jz,ns,vs,tx)=bif Kj0 (vs.getD 0 0) (vs.getD 1 0) (vs.getD 2 0) then 14 else 0:=rfl
 simp only[List.nil_append,rcb,rcS,rcO,rcX,rcQ,Prod.eta]
 repeat' first|exact lfT ‹_›|exact lfN ‹_› ‹_›|exact lfA ‹_› ‹_› (cE.trans (by clear cE sE hF hx hc;simp only[Jcs,Jij,Jg,Hy,List.nil_append, *,cond_true,cond_false,reduceIte,decide_true,decide_false,Bool.not_true,Bool.not_false,Int.reduceEq,Int.reduceNe,ne_eq,not_false_eq_true,not_true_eq_false];first|done|rfl|decide)) (by first|exact .inl ⟨by decide,rfl⟩|exact .inl ⟨bne_iff_ne.mp ‹_›,rfl⟩|exact .inr ⟨rfl,sE.trans (by first|rfl|(simp only[Fy,List.nil_append];done)|simp only[Fy,X2 (hF ‹_›).1])⟩)|(refine⟨(0:Nat),by(repeat' first|exact rfl|exact⟨⟩|apply And.intro|omega|dsimp only;omega),⟨Nat.zero_le _,by simp[Hw,V0,Jwm]⟩,fun(k:Nat) hk=>⟨fun h1=> ?_,fun h1=> ?_⟩⟩;obtain⟨k1,k2⟩:=hk;replace h1:=of_decide_eq_true h1;rw[Jq2 (by omega)] at k2;skip;rotate_left;obtain⟨k1,k2⟩:=hk;replace h1:=of_decide_eq_false h1;rw[Jq3 (by omega)] at k2)|(refine⟨(k+1:Nat),by(repeat' first|exact rfl|exact⟨⟩|apply And.intro|omega|dsimp only;omega),⟨by omega, ?_⟩,by omega⟩;rw[k2,show decide (vs.getD 3 0<Vf O (ns.getD 1 Jb) (vs.getD 1 0+k))=false from ‹_›];rfl)|apply And.intro|intro _
 all_goals first|omega|trivial|assumption|(have:=hF ‹_›;omega)
def K5o (a:List Out) (b:Ls):=Gt ([]++a) (Jtz a b) Jgp
def K5f (a:List Out) (b:Ls):=(K5o a b).2
def K5d (a:List Out) (b:Ls) (c:Li):=T2 (Bd (Jtz a b) (Ln ([]++a))) (K4 c)
def K47 (a:List Out) (b:Ls):=(K5f a b).2
def K44 (a:List Out) (b:Ls):=(K47 a b).1
def K4y (a:List Out) (b:Ls):=(K44 a b).1
theorem Jiz:wpFG Tryz.prog Jtm.g L8 (X8 (none)) (Sx.look ([(225,Tryz.f225),(226,Tryz.f226),(227,Tryz.f227)]:List (Nat×Func))) Tryz.f132 L7 ((tk,st,S,O,M,X,Q),(n,Jv,ns,vs,tx),()):=by
 refine(by kernel_rfl:(Ju tk st S O M X Q→Jc1 X→Z57 M→Jd (Z33 n ns vs tx)=0→Lb Jv J1=false→K4 vs∧Br (Jit vs tk) (Sf true (Z72 tk st S O M X Q=Yz (Z72 tk st S O M X Q) (Z33 n ns vs tx)∧22=Vp (Z72 tk st S O M X Q) (Z33 n ns vs tx))) (Jtw tk st S O M X Q ns∧Br (Jx (Z72 tk st S O M X Q) Jv ns !=0) (Sf true (Z72 tk st S O M X Q=Yz (Z72 tk st S O M X Q) (Z33 n ns vs tx)∧Jx (Z72 tk st S O M X Q) Jv ns=Vp (Z72 tk st S O M X Q) (Z33 n ns vs tx))) (Jip S∧Jio O∧Jis M∧Jir X∧Jiq Q∧T2 (Yd ns) (Z55 X)∧K5d X ns vs∧Br (decide (U8 vs≤K4y X ns)) (K4 vs∧Sf true (Jdw vs st S O M X Q=Yz (Z72 tk st S O M X Q) (Z33 n ns vs tx)∧21=Vp (Z72 tk st S O M X Q) (Z33 n ns vs tx))) (K5d X ns vs∧Br (decide ((K44 X ns).2≤U8 vs)) (K4 vs∧Sf true (Jdw vs st S O M X Q=Yz (Z72 tk st S O M X Q) (Z33 n ns vs tx)∧23=Vp (Z72 tk st S O M X Q) (Z33 n ns vs tx))) (T2 (Yd ns) (Z54 Q)∧Br (Yj Q (Uz ns)) (K4 vs∧Sf true (Jdw vs st S O M X Q=Yz (Z72 tk st S O M X Q) (Z33 n ns vs tx)∧32=Vp (Z72 tk st S O M X Q) (Z33 n ns vs tx))) (T2 (Z30 vs) (Tw (Bd (Jtz X ns) (Ln ([]++X))))∧K4 vs∧Sf true ((U8 vs,st,S,O,M,List.set ([]++X) (Int.toNat (Jtz X ns)) ((K5o X ns).1,(K5f X ns).1,(K4y X ns,U8 vs),(K47 X ns).2),Q)=Yz (Z72 tk st S O M X Q) (Z33 n ns vs tx)∧0=Vp (Z72 tk st S O M X Q) (Z33 n ns vs tx))))))))=_).mp ?_
 delta Z30 Z33 Z54 Z55 Z57 Z72 Yd K4 Uz U8 Ju Jgp Jtz Jit Jis Jir Jiq Jip Jio Jdw Jtw K5o K5f K5d K47 K44 K4y Br Bd T2 Tw Sf Ln Gt B0 Lb Jv J1
 intro hr hu hm hc _
 obtain⟨hn,hv,nS,nO,nX,nQ,hx⟩:=Jzr hr hc
 simp only[Kt,List.length_cons,List.length_nil] at hn hv nS nO nX nQ hx
 have cE:ckS (tk,st,S,O,M,X,Q) (n,Jv,ns,vs,tx)=Jdi X Q ns vs:=by simp only[ckS,Kt]
 have sE:Jw (tk,st,S,O,M,X,Q) (n,Jv,ns,vs,tx)=(vs.getD 0 0,(Fx (tk,st,S,O,M,X,Q) (n,Jv,ns,vs,tx)).2):=by simp only[Jw,doS,Kt]
 have hF:(Jx (tk,st,S,O,M,X,Q) Jv ns !=0)=false→(0≤Kc X (ns.getD 0 Jb)∧Kc X (ns.getD 0 Jb)<X.length):=fun a=>by
  have z:=fcN a
  rw[Kt] at z
  obtain⟨k0,z⟩:=Jm z
  exact⟨J47 (k0 rfl),Us⟩
 have hP:(Jx (tk,st,S,O,M,X,Q) Jv ns !=0)=false→decide ((0:Int)<((Ha Q).filter fun p=>p.2.1.toList==(Df X (ns.getD 0 Jb)).1.toList).length)=Yj Q (ns.getD 0 Jb):=fun a=>by rw[Jlx (hF a).1];rfl
 simp only[List.nil_append,rcb,rcS,rcO,rcX,rcQ,Prod.eta]
 repeat' first|exact lfT ‹_›|exact lfN ‹_› ‹_›|exact lfA ‹_› ‹_› (cE.trans (by have hp:=hP ‹_›;clear cE sE hF hP hx hc;simp only[Jdi,Jg,Hy,List.nil_append, *,cond_true,cond_false,reduceIte,decide_true,decide_false,Bool.not_true,Bool.not_false,Int.reduceEq,Int.reduceNe,ne_eq,not_false_eq_true,not_true_eq_false];first|done|rfl|decide)) (by first|exact .inl ⟨by decide,rfl⟩|exact .inl ⟨bne_iff_ne.mp ‹_›,rfl⟩|exact .inr ⟨rfl,sE.trans (by first|rfl|simp only[Fx,List.nil_append]|simp only[Fx,X2 (hF ‹_›).1])⟩)|apply And.intro|intro _
 all_goals first|omega|trivial|assumption|exact hP ‹_›|(have:=hF ‹_›;omega)
theorem Jky:wpFG Tryz.prog Jtm.g L8 (X8 (none)) (Sx.look ([(225,Tryz.f225),(226,Tryz.f226),(227,Tryz.f227)]:List (Nat×Func))) Tryz.f132 L7 ((tk,st,S,O,M,X,Q),(n,Kh,ns,vs,tx),()):=by
 refine(by kernel_rfl:(Ju tk st S O M X Q→Jc1 X→Z57 M→Jd (Z25 n ns vs tx)=0→Lb Kh J1=false→K4 vs∧Br (Jit vs tk) (Sf true (Z72 tk st S O M X Q=Yz (Z72 tk st S O M X Q) (Z25 n ns vs tx)∧22=Vp (Z72 tk st S O M X Q) (Z25 n ns vs tx))) ((Ju tk st S O M X Q∧Sf true (Jri ns))∧Br (Jx (Z72 tk st S O M X Q) Kh ns !=0) (Sf true (Z72 tk st S O M X Q=Yz (Z72 tk st S O M X Q) (Z25 n ns vs tx)∧Jx (Z72 tk st S O M X Q) Kh ns=Vp (Z72 tk st S O M X Q) (Z25 n ns vs tx))) (Jip S∧Jio O∧Jis M∧Jir X∧Jiq Q∧T2 (Jeo ns) (Z55 X∧T2 (Bd (Kc X (Lp ns)) (Ln ([]++X))) (K4 vs))∧Br (!Ki (E2 (Gt ([]++X) (Kc X (Lp ns)) Jgp).2.2.1) (U8 vs)) (K4 vs∧Sf true (Jdw vs st S O M X Q=Yz (Z72 tk st S O M X Q) (Z25 n ns vs tx)∧22=Vp (Z72 tk st S O M X Q) (Z25 n ns vs tx))) (Br (decide (16≤Ln ([]++Q))) (K4 vs∧Sf true (Jdw vs st S O M X Q=Yz (Z72 tk st S O M X Q) (Z25 n ns vs tx)∧5=Vp (Z72 tk st S O M X Q) (Z25 n ns vs tx))) (Kqo ns Q∧K4 vs∧Sf true ((U8 vs,st,S,O,M,Krq X Q ns)=Yz (Z72 tk st S O M X Q) (Z25 n ns vs tx)∧0=Vp (Z72 tk st S O M X Q) (Z25 n ns vs tx)))))))=_).mp ?_
 delta Z25 Z30 Z55 Z57 Z72 Yd K4 Uz Jeo Lp U8 Jri Ju Jgp Jit Jis Jir Jiq Jip Jio Jdw Krq Kqo Br Bd T2 Tw Sf Ln Gt B0 Lb E2 Kh J1
 intro hr hu hm hc _
 obtain⟨hn,hv,nS,nO,nX,nQ,hx⟩:=Jzr hr hc
 simp only[Ug,List.length_cons,List.length_nil] at hn hv nS nO nX nQ hx
 have cE:ckS (tk,st,S,O,M,X,Q) (n,Kh,ns,vs,tx)=Jdj X Q ns vs:=by simp only[ckS,Ug]
 have sE:Jw (tk,st,S,O,M,X,Q) (n,Kh,ns,vs,tx)=(vs.getD 0 0,(Fz (tk,st,S,O,M,X,Q) (n,Kh,ns,vs,tx)).2):=by simp only[Jw,doS,Ug]
 have hF:(Jx (tk,st,S,O,M,X,Q) Kh ns !=0)=false→(0≤Kc X (ns.getD 1 Jb)∧Kc X (ns.getD 1 Jb)<X.length):=fun a=>by
  have z:=fcN a
  rw[Ug] at z
  obtain⟨k0,z⟩:=Jm z
  obtain⟨k1,z⟩:=Jm z
  exact⟨J47 (k1 rfl),Us⟩
 simp only[List.nil_append,rcb,rcS,rcO,rcX,rcQ,Prod.eta]
 repeat' first|exact lfT ‹_›|exact lfN ‹_› ‹_›|exact lfA ‹_› ‹_› (cE.trans (by clear cE sE hF hx hc;simp only[Jdj,Jg,Hy,List.nil_append, *,cond_true,cond_false,reduceIte,decide_true,decide_false,Bool.not_true,Bool.not_false,Int.reduceEq,Int.reduceNe,ne_eq,not_false_eq_true,not_true_eq_false];first|done|rfl|decide)) (by first|exact .inl ⟨by decide,rfl⟩|exact .inl ⟨bne_iff_ne.mp ‹_›,rfl⟩|exact .inr ⟨rfl,sE.trans (by first|rfl|simp only[Fz,List.nil_append]|simp only[Fz,X2 (hF ‹_›).1])⟩)|apply And.intro|intro _
 all_goals first|omega|trivial|assumption|(have:=hF ‹_›;omega)
def K7d (a:List Per) (b:Ls):=Tw (Bd (Jtc a b) (Ln ([]++a)))
def K6z (a:List Per) (b:Ls):=Gt ([]++a) (Jtc a b) (B0,B0,false)
def K6x (a:List Per) (b:Ls):=(K6z a b).2
theorem Jkx:wpFG Tryz.prog Jtm.g L8 (X8 (none)) (Sx.look ([(225,Tryz.f225),(226,Tryz.f226),(227,Tryz.f227)]:List (Nat×Func))) Tryz.f132 L7 ((tk,st,S,O,M,X,Q),(n,Kg,ns,vs,tx),()):=by
 refine(by kernel_rfl:(Ju tk st S O M X Q→Jc1 X→Z57 M→Jd (Z18 n ns vs tx)=0→Lb Kg J1=false→K4 vs∧Br (Jit vs tk) (Sf true (Z72 tk st S O M X Q=Yz (Z72 tk st S O M X Q) (Z18 n ns vs tx)∧22=Vp (Z72 tk st S O M X Q) (Z18 n ns vs tx))) (Jtw tk st S O M X Q ns∧Br (Jx (Z72 tk st S O M X Q) Kg ns !=0) (Sf true (Z72 tk st S O M X Q=Yz (Z72 tk st S O M X Q) (Z18 n ns vs tx)∧Jx (Z72 tk st S O M X Q) Kg ns=Vp (Z72 tk st S O M X Q) (Z18 n ns vs tx))) (Jip S∧Jio O∧Jis M∧Jir X∧Jiq Q∧T2 (Yd ns) (Z54 Q)∧K7d Q ns∧Br (!(K6x Q ns).2) (K4 vs∧Sf true (Jdw vs st S O M X Q=Yz (Z72 tk st S O M X Q) (Z18 n ns vs tx)∧23=Vp (Z72 tk st S O M X Q) (Z18 n ns vs tx))) (K7d Q ns∧K4 vs∧Sf true ((U8 vs,st,S,O,M,X,List.set ([]++Q) (Int.toNat (Jtc Q ns)) ((K6z Q ns).1,(K6x Q ns).1,false))=Yz (Z72 tk st S O M X Q) (Z18 n ns vs tx)∧0=Vp (Z72 tk st S O M X Q) (Z18 n ns vs tx))))))=_).mp ?_
 delta Z18 Z30 Z54 Z57 Z72 Yd K4 Uz U8 Ju Jtc Jit Jis Jir Jiq Jip Jio Jdw K7d K6z K6x Jtw Br Bd T2 Tw Sf Ln Gt B0 Lb Kg J1
 intro hr hu hm hc _
 obtain⟨hn,hv,nS,nO,nX,nQ,hx⟩:=Jzr hr hc
 simp only[Uf,List.length_cons,List.length_nil] at hn hv nS nO nX nQ hx
 have cE:ckS (tk,st,S,O,M,X,Q) (n,Kg,ns,vs,tx)=Jox Q ns:=by simp only[ckS,Uf]
 have sE:Jw (tk,st,S,O,M,X,Q) (n,Kg,ns,vs,tx)=(vs.getD 0 0,(Jhf (tk,st,S,O,M,X,Q) (n,Kg,ns,vs,tx)).2):=by simp only[Jw,doS,Uf]
 have hF:(Jx (tk,st,S,O,M,X,Q) Kg ns !=0)=false→(0≤U5 Q (ns.getD 0 Jb)∧U5 Q (ns.getD 0 Jb)<Q.length):=fun a=>by
  have z:=fcN a
  rw[Uf] at z
  obtain⟨k0,z⟩:=Jm z
  exact⟨Kn4 (k0 rfl),U4⟩
 simp only[List.nil_append,rcb,rcS,rcO,rcX,rcQ,Prod.eta]
 repeat' first|exact lfT ‹_›|exact lfN ‹_› ‹_›|exact lfA ‹_› ‹_› (cE.trans (by clear cE sE hF hx hc;simp only[Jox,Hy,List.nil_append, *,cond_true,cond_false,reduceIte,decide_true,decide_false,Bool.not_true,Bool.not_false,Int.reduceEq,Int.reduceNe,ne_eq,not_false_eq_true,not_true_eq_false];first|done|rfl|decide)) (by first|exact .inl ⟨by decide,rfl⟩|exact .inl ⟨bne_iff_ne.mp ‹_›,rfl⟩|exact .inr ⟨rfl,sE.trans (by first|rfl|simp only[Jhf,List.nil_append]|simp only[Jhf,X2 (hF ‹_›).1])⟩)|apply And.intro|intro _
 all_goals first|omega|trivial|assumption|(have:=hF ‹_›;omega)
abbrev Jgl (tk st:Int) (S:List Sta) (O:List Ord) (M:List Met) (X:List Out) (Q:List Per) (n:Int) (ns:List ByteArray) (vs:List Int) (tx:ByteArray):Ann:={X:=Nat,σ:=fun k=>⟨30,[(2, .one (.ptr 25 0)),(3, .one (.ptr 26 0)),(4, .one (.ptr 27 0)),(6, .one (.sl 6)),(11, .one (.int .i64 k))],[(5, .imm 9 .str ns),(6, .imm 3 sI vs),(8, .box 67 [.int .i64 n, .str Ji, .sl 5, .sl 6, .str tx]),(9, .box 37 J4m),(23, .box 37 [.int .i64 tk, .int .i64 st, .sl 14, .sl 16, .sl 18, .sl 20, .sl 22]),(24, .sus [(3, .one (.ptr 8 0)),(4, .one (.ptr 9 0)),(7, .one (.ptr 23 0))]),(25, .box 37 [.int .i64 tk, .int .i64 st, .sl 14, .sl 16, .sl 18, .sl 20, .sl 22]),(26, .box 67 [.int .i64 n, .str Ji, .sl 5, .sl 6, .str tx]),(27, .box 37 J4m),(14, .imm 114 De S),(16, .imm 119 Hj O),(18, .imm 121 Dm M),(20, .imm 123 X4 X),(22, .imm 125 Zl Q)]⟩,inv:=fun k=>k≤X.length∧(X.any fun x=>decide (x.2.2.1.2≤vs.getD 1 0)&&Yj Q x.1)=((X.drop k).any fun x=>decide (x.2.2.1.2≤vs.getD 1 0)&&Yj Q x.1),mu:=fun k=>X.length-k}
def K5s (a:List Out) (b:Nat) (c:Li):=decide ((J26 a b).1.2≤Zo c)
def K4z (a:List Out) (b:Nat) (c:Li):=K5s a b c=true
def Kop (a:Nat) (b:List Out) (c:Li) (d:List Per):=a≤List.length b∧(List.any b fun(x:Out)=>decide (x.2.2.1.2≤Zo c)&&Yj d x.1)=List.any (List.drop a b) fun(x:Out)=>decide (x.2.2.1.2≤Zo c)&&Yj d x.1
def K0m (a:Li) (b:Int) (c:List Sta) (d:List Ord) (e:List Met) (f:List Out) (g:List Per) (h i:Int) (j:Ls) (k:Bt):=K4 a∧Sf true (Jdw a b c d e f g=Yz (Z72 h b c d e f g) (Z19 i j a k)∧32=Vp (Z72 h b c d e f g) (Z19 i j a k))
def Kcn (a:Ls) (b:Li) (c:Int) (d:Bt) (e f:Int) (g:List Sta) (h:List Ord) (i:List Met) (j:List Out) (k:List Per):=Sf a (Sf b (Si c (Sf Ji (Sf d (Si 0 (Si 0 (Sf Vh (Sf Vh (Sf Vh (Sf Vh (Sf Vh (Si e (Si f (Si e (Si f (Si c (Sf Ji (Sf d (Si 0 (Si 0 (Sf Vh (Sf Vh (Sf Vh (Sf Vh (Sf Vh (Sf g (Sf h (Sf i (Sf j (k=k))))))))))))))))))))))))))))))
theorem Jkw:wpFG Tryz.prog Jtm.g L8 (X8 (some (Jgl tk st S O M X Q n ns vs tx))) (Sx.look ([(225,Tryz.f225),(226,Tryz.f226),(227,Tryz.f227)]:List (Nat×Func))) Tryz.f132 L7 ((tk,st,S,O,M,X,Q),(n,Ji,ns,vs,tx),()):=by
 refine(by kernel_rfl:(Ju tk st S O M X Q→Jc1 X→Z57 M→Jd (Z19 n ns vs tx)=0→Lb Ji J1=false→K4 vs∧Br (Jit vs tk) (Sf true (Z72 tk st S O M X Q=Yz (Z72 tk st S O M X Q) (Z19 n ns vs tx)∧22=Vp (Z72 tk st S O M X Q) (Z19 n ns vs tx))) ((Ju tk st S O M X Q∧Sf true (List.length ns=0))∧Br (Jx (Z72 tk st S O M X Q) Ji ns !=0) (Sf true (Z72 tk st S O M X Q=Yz (Z72 tk st S O M X Q) (Z19 n ns vs tx)∧Jx (Z72 tk st S O M X Q) Ji ns=Vp (Z72 tk st S O M X Q) (Z19 n ns vs tx))) (Jip S∧Jio O∧Jis M∧Jir X∧Jiq Q∧T2 (Z35 vs) (T2 (Knd vs st=false→Z35 vs) (Krv vs st))∧Br (Kp9 vs st) (K4 vs∧Sf true (Jdw vs st S O M X Q=Yz (Z72 tk st S O M X Q) (Z19 n ns vs tx)∧14=Vp (Z72 tk st S O M X Q) (Z19 n ns vs tx))) (T2 (Z35 vs) (Ju tk st S O M X Q)∧Br (decide (0<Ln (J4 M (Zo vs) O))) (K0m vs st S O M X Q tk n ns tx) (∃(x:Nat),(0=Nc x∧Kcn ns vs n tx tk st S O M X Q)∧Kop x X vs Q∧∀(x:Nat),Kop x X vs Q→Br (Jrk x X) (T2 (Bd (Nc x) (Ln X)) (T2 (Z35 vs) (T2 (K4z X x vs→Bd (Nc x) (Ln X)) (K4z X x vs→Z54 Q)))∧Br (bif K5s X x vs then Yj Q (Jyh X x) else false) (K0m vs st S O M X Q tk n ns tx) (Z20 x∧∃(y:Nat),(Vm x y∧Kcn ns vs n tx tk st S O M X Q)∧Kop y X vs Q∧Jyi X y x)) (Jrj vs∧K4 vs∧Sf true ((U8 vs,Zo vs,S,O,M,X,Q)=Yz (Z72 tk st S O M X Q) (Z19 n ns vs tx)∧0=Vp (Z72 tk st S O M X Q) (Z19 n ns vs tx))))))))=_).mp ?_
 delta Z19 Z20 Z30 Z35 Z54 Z57 Z72 Jrk K4 Vm Jrj Zo U8 Ju Vh Jgp Knd Jit Jyi Jis Jir Jiq Jip Jio Jz4 Jdw Jyh J26 Krv K5s K4z Kp9 Kop K0m Kcn Br Iw Bd T2 Tw Sf Si Ln Nc B0 Lb Ji J1
 intro hr hu hm hc _
 obtain⟨hn,hv,nS,nO,nX,nQ,hx⟩:=Jzr hr hc
 simp only[Uw,List.length_cons,List.length_nil] at hn hv nS nO nX nQ hx
 have cE:ckS (tk,st,S,O,M,X,Q) (n,Ji,ns,vs,tx)=L6 st O M X Q vs:=by simp only[ckS,Uw]
 have sE:Jw (tk,st,S,O,M,X,Q) (n,Ji,ns,vs,tx)=(vs.getD 0 0,(Jbp (tk,st,S,O,M,X,Q) (n,Ji,ns,vs,tx)).2):=by simp only[Jw,doS,Uw]
 have lE:=J7e (Q:=Q) (u:=vs.getD 1 0) hu hr.per
 have v1:=hx 1 (by omega)
 simp only[List.nil_append,rcb,rcS,rcO,rcX,rcQ,Prod.eta]
 repeat' first|exact lfT ‹_›|exact lfN ‹_› ‹_›|exact lfA ‹_› ‹_› (cE.trans (by clear cE sE hx hc;simp only[L6,Bool.true_or,Bool.false_or,Hy,List.nil_append, *,cond_true,cond_false,reduceIte,decide_true,decide_false,Bool.not_true,Bool.not_false,Int.reduceEq,Int.reduceNe,ne_eq,not_false_eq_true,not_true_eq_false];first|done|rfl|decide)) (by first|exact .inl ⟨by decide,rfl⟩|exact .inl ⟨bne_iff_ne.mp ‹_›,rfl⟩|exact .inr ⟨rfl,sE.trans (by first|rfl|simp only[Jbp,List.nil_append])⟩)|(refine⟨(0:Nat),by(repeat' first|exact rfl|exact⟨⟩|apply And.intro|omega|dsimp only;omega),⟨Nat.zero_le _,rfl⟩,fun(k:Nat) hk=>⟨fun h1=> ?_,fun h1=> ?_⟩⟩;obtain⟨k1,k2⟩:=hk;replace h1:=of_decide_eq_true h1;rw[Jq (d:=(Jb,Jb,(0,0),0)) (by omega),List.any_cons] at k2;rw[Udo] at k2;rotate_left;obtain⟨k1,k2⟩:=hk;replace h1:=of_decide_eq_false h1;rw[List.drop_eq_nil_of_le (by omega),List.any_nil] at k2)|(refine⟨(k+1:Nat),by(repeat' first|exact rfl|exact⟨⟩|apply And.intro|omega|dsimp only;omega),⟨by omega, ?_⟩,by omega⟩;rw[k2,show(bif decide ((X.getD k (Jb,Jb,(0,0),0)).2.2.1.2≤vs.getD 1 0) then Yj Q (X.getD k (Jb,Jb,(0,0),0)).1 else false)=false from ‹_›];rfl)|apply And.intro|intro _
 all_goals first|omega|trivial|assumption
def Jtp (k:ByteArray):Nat:=if k=Jz then 1 else if k=Ku then 2 else if k=Ji then 3 else 0
def Jx2 (tk st:Int) (S:List Sta) (O:List Ord) (M:List Met) (X:List Out) (Q:List Per) (n:Int) (ns:List ByteArray) (vs:List Int) (tx:ByteArray):Nat→Option Ann
 |1=>some (Jgm tk st S O M X Q n ns vs tx)
 |2=>some (Jin tk st S O M X Q n ns vs tx)
 |3=>some (Jgl tk st S O M X Q n ns vs tx)
 |_=>none
def Jx3:ATup [Y0,aEv]→Option Ann
 |((tk,st,S,O,M,X,Q),(n,k,ns,vs,tx),())=>Jx2 tk st S O M X Q n ns vs tx (Jtp k)
theorem J0q {Γ:Gam} {ann:Nat→Option Ann} {annF:FuncId→Nat→Option Ann} {lib:FuncId→Option Func} {fn:Func} {c:Con} {x:ATup c.args} (hb:fn.body.isSome=true) (h:Up (c.pre x)→wpFG Tryz.prog Γ ann annF lib fn c x):wpFG Tryz.prog Γ ann annF lib fn c x:=by
 unfold wpFG at h⊢
 cases hc:fn.body with
 |none=>rw[hc] at hb;cases hb
 |some code=>
  rw[hc] at h
  exact Jbk h
theorem Fo {tk st:Int} {S:List Sta} {O:List Ord} {M:List Met} {X:List Out} {Q:List Per} {n:Int} {k:ByteArray} {ns:List ByteArray} {vs:List Int} {tx:ByteArray} {i:Nat} (h:Jtp k=i):Jx3 ((tk,st,S,O,M,X,Q),(n,k,ns,vs,tx),())=Jx2 tk st S O M X Q n ns vs tx i:=by rw[←h];rfl
theorem Kul:∀x:ATup [Y0,aEv],wpFG Tryz.prog Jtm.g L8 (X8 (Jx3 x)) (Sx.look ([(225,Tryz.f225),(226,Tryz.f226),(227,Tryz.f227)]:List (Nat×Func))) Tryz.f132 L7 x
 | ((tk, st, S, O, M, X, Q), (n, k, ns, vs, tx), ()) => by
  refine J0q (by kernel_rfl) fun hp=> ?_
  have hc:Jd (n,k,ns,vs,tx)=0:=hp.2.2.2.1
  rcases Vl (K1 hc).kind with h|h|h|h|h|h|h|h|h|h|h<;>dsimp only at h<;>subst h
  ·have h4:(J1.toList==J1.toList)=false:=hp.2.2.2.2
   rw[show(J1.toList==J1.toList)=true from by kernel_rfl] at h4
   cases h4
  ·rw[Fo (show Jtp Jy=0 from by kernel_rfl)];exact Jiy tk st S O M X Q n ns vs tx
  ·rw[Fo (show Jtp Ue=0 from by kernel_rfl)];exact Jng tk st S O M X Q n ns vs tx
  ·rw[Fo (show Jtp Ku=2 from by kernel_rfl)];exact Jnh tk st S O M X Q n ns vs tx
  ·rw[Fo (show Jtp Uc=0 from by kernel_rfl)];exact Jni tk st S O M X Q n ns vs tx
  ·rw[Fo (show Jtp Vq=0 from by kernel_rfl)];exact Jrq tk st S O M X Q n ns vs tx
  ·rw[Fo (show Jtp Jz=1 from by kernel_rfl)];exact Jkz tk st S O M X Q n ns vs tx
  ·rw[Fo (show Jtp Jv=0 from by kernel_rfl)];exact Jiz tk st S O M X Q n ns vs tx
  ·rw[Fo (show Jtp Kh=0 from by kernel_rfl)];exact Jky tk st S O M X Q n ns vs tx
  ·rw[Fo (show Jtp Kg=0 from by kernel_rfl)];exact Jkx tk st S O M X Q n ns vs tx
  ·rw[Fo (show Jtp Ji=3 from by kernel_rfl)];exact Jkw tk st S O M X Q n ns vs tx
theorem Kxq:Ok Tryz.prog 132 L7:=Jfd mixed Jtm.ok (by kernel_rfl) (by kernel_rfl) (U6 (l:=([(225,Tryz.f225),(226,Tryz.f226),(227,Tryz.f227)]:List (Nat×Func))) (List.forall_mem_cons.2 ⟨by kernel_rfl,List.forall_mem_cons.2 ⟨by kernel_rfl,List.forall_mem_cons.2 ⟨by kernel_rfl,by simp⟩⟩⟩)) (fun _=>L8) (fun xx=>X8 (Jx3 xx)) fun xx=>Kul xx
abbrev K83:=Jtm.add Kxq
theorem J9d {h:J9} {e:Ev} (h1:e.1=(h.1.length:Int)+1) (h2:(e.2.1.toList==J1.toList)=false):L9 h e=Vp (Ko h.2.2) e:=by
 unfold L9 Vp Jx
 rw[bne_eq_false_iff_eq.2 h1,h2]
 dsimp only[cond_false]
 cases h3:decide (e.2.2.2.1.getD 0 0<(Ko h.2.2).1) with
 |true=>rw[if_pos rfl];rfl
 | false =>
  rw[if_neg (by simp)]
  cases h4:Ks (Ko h.2.2) e.2.2.1 (Jh e.2.1).1 0 with
  |true=>rw[if_pos (by simp)];rfl
  |false=>
   cases h5:K5 (Ko h.2.2) e.2.2.1 (Jh e.2.1).1 0 with
   |true=>rw[if_pos (by simp)];rfl
   |false=>rw[if_neg (by simp)];rfl
theorem J20 {r:Reg} {e:Ev} (h:Vp r e=0):Yz r e=Jw r e:=by
 unfold Vp at h
 unfold Yz
 by_cases a:decide (e.2.2.2.1.getD 0 0<r.1)=true
 ·rw[if_pos a] at h;exact absurd h (by decide)
 rw[if_neg a] at h⊢
 by_cases b:Jx r e.2.1 e.2.2.1≠0
 ·rw[if_pos b] at h;exact absurd h b
 rw[if_neg b] at h⊢
 rw[if_neg (by rw[h];simp)]
def Jpk (h:J9):Prop:=∀r∈h.2.2,Jc1 r.2.2.2.2.2.1
theorem Jvq {h:J9} (hu:Jpk h):Jc1 (Ko h.2.2).2.2.2.2.2.1:=by
 unfold Ko
 by_cases h0:0<h.2.2.length
 ·exact hu _ (Je (by omega))
 ·have:h.2.2=[]:=List.eq_nil_of_length_eq_zero (by omega)
  rw[this];exact List.nodup_nil
theorem J0u {r:Reg} {e:Ev} (hu:Jc1 r.2.2.2.2.2.1) (hk:Uo e.2.1=true) (h1:Ks r e.2.2.1 (Jh e.2.1).1 0=false) (h2:K5 r e.2.2.1 (Jh e.2.1).1 0=false):Jc1 (Jw r e).2.2.2.2.2.1:=by
 obtain⟨tk,st,S,O,M,X,Q⟩:=r
 obtain⟨n,k,ns,vs,tx⟩:=e
 have hu:Jc1 X:=hu
 dsimp only at hk h1 h2
 rcases Vl hk with h|h|h|h|h|h|h|h|h|h|h<;>subst h
 ·simp only[Jw,doS,Jci];exact hu
 ·simp only[Jw,doS,Ui];exact hu
 ·simp only[Jw,doS,Vj];exact hu
 ·simp only[Jw,doS,U1];exact hu
 ·simp only[Jw,doS,U2];exact hu
 ·simp only[Jw,doS,Vw];exact hu
 ·rw[K7] at h2
  unfold K5 at h2
  have h3:Ye (tk,st,S,O,M,X,Q) 2 (ns.getD 0 Jb)=false:=by
   cases q:Ye (tk,st,S,O,M,X,Q) 2 (ns.getD 0 Jb) with
   |false=>rfl
   |true=>rw[q] at h2;cases h2
  rw[Jft] at h3
  have h3:=of_decide_eq_false h3
  simp only[Jw,doS,K7]
  exact Jrx hu (by dsimp only at h3⊢;omega)
 ·rw[Kt] at h1
  have h3:=J47 ((Jm h1).1 rfl)
  simp only[Jw,doS,Kt]
  exact J6m hu h3
 ·simp only[Jw,doS,Ug];exact hu
 ·simp only[Jw,doS,Uf];exact hu
 ·simp only[Jw,doS,Uw];exact hu
theorem Jyc {h:J9} {e:Ev} (hk:(e.2.1.toList==J1.toList)=false) (ha:L9 h e=0):Ks (Ko h.2.2) e.2.2.1 (Jh e.2.1).1 0=false∧K5 (Ko h.2.2) e.2.2.1 (Jh e.2.1).1 0=false:=by
 obtain⟨n,k,ns,vs,tx⟩:=e
 have:=Jb1 ((Xa (h:=h) (n:=n) (k:=k) (ns:=ns) (vs:=vs) (tx:=tx) hk).symm.trans ha)
 exact⟨this.2.2.1,this.2.2.2.1⟩
theorem Jx9 {h:J9} {e:Ev} (hu:Jpk h) (ha:K3 h e=0):Jpk (Ho h e):=by
 obtain⟨hc,hacc⟩:=add_zero ha
 intro r hr
 unfold Ho at hr
 cases hk:e.2.1.toList==J1.toList with
 |true=>
  rw[hk,cond_true] at hr
  exact hu r (List.mem_of_mem_take hr)
 | false =>
  rw[hk,cond_false] at hr
  rcases V9 hr with hr|hr
  ·exact hu r hr
  ·subst hr
   have:=Jyc hk hacc
   exact J0u (Jvq hu) (K1 hc).kind this.1 this.2
def Jqo (l:List Ev):List Ev:=if(Ja l).2.2=0 then(Ja l).1.2.1 else[]
def Uc1:Con:={args:=[.val false (.list 67 sEv)],ress:=[(false, .list 67 sEv),(true,Jlh),I,I],owns:=[],pre:=fun(l,_)=>[lOk l],spec:=fun(l,_)=>(Jqo l,J7 l,(Ja l).2.1,(Ja l).2.2,())}
abbrev Kj4 (l:List Ev):Ann:={X:=J9×Nat,σ:=fun(h,i)=>⟨4,[(0, .one (.sl 0)),(3, .one (.ptr 1 0)),(6, .one (.sl 2)),(7, .one (.sl 3)),(8, .one (.int .i64 i))],[(0, .imm 67 sEv l),(1, .box 37 J4m),(2, .own 67 sEv h.2.1),(3, .own 37 Jlh (Xg::h.2.2))]⟩,inv:=fun(h,i)=>Vs h∧Jpk h∧h.1.length=i∧i≤l.length∧l.length≤1000∧Zm h (l.drop i)=Ja l,mu:=fun(_,i)=>l.length-i}
theorem Jwf:Jpk Y7:=fun _ h=>(by cases h)
theorem Ucv {C:List Ev} {G:List Reg} (h:G.length=C.length):(Xg::G).getD C.length Xg=Ko G:=by
 unfold Ko
 rw[←h]
 cases G with
 |nil=>rfl
 |cons a G=>rfl
theorem Khp {h:J9} {e:Ev} {l l':List Ev} {v:Int} (hr:Zm h (e::l')=Ja l) (ha:K3 h e=v) (hv:v≠0):[]=Jqo l∧Xg=J7 l∧(h.1.length:Int)+1=(Ja l).2.1∧v=(Ja l).2.2:=by
 unfold Zm at hr
 rw[if_neg (by rw[ha];exact hv),ha] at hr
 refine⟨?_, ?_,by rw[←hr],by rw[←hr]⟩
 ·unfold Jqo;rw[←hr,if_neg (by exact hv)]
 ·unfold J7;rw[←hr,if_neg (by exact hv)]
theorem Ju1 {h:J9} {e:Ev} {l l':List Ev} (hr:Zm h (e::l')=Ja l) (ha:K3 h e=0):Zm (Ho h e) l'=Ja l:=by
 unfold Zm at hr
 rwa[if_pos ha] at hr
theorem Kkm {E C:List Ev} {G:List Reg} {e:Ev} {k:Nat} (hk:E.length=k):K3 (E,C,G) e=bif (bif Jd e==0 then e.1 !=(k:Int)+1 else false) then 11 else bif (bif Jd e==0 then e.2.1.toList==J1.toList else false) then(bif (C.length:Int)==0 then 12 else bif (C.getD (C.length-1) ev0).2.1.toList==Ji.toList then 21 else 0) else bif Jd e==0 then Vp (Ko G) e else Jd e:=by
 subst hk
 unfold K3
 by_cases hc:Jd e=0
 ·rw[if_neg (by rw[hc];simp),hc,show((0:Int)==0)=true from rfl,cond_true,cond_true,cond_true]
  cases h1:e.1 !=(E.length:Int)+1 with
  |true=>unfold L9;rw[h1];rfl
  |false=>
   cases h2:e.2.1.toList==J1.toList with
   |true=>unfold L9;rw[h1,h2];rfl
   |false=>rw[cond_false,cond_false];exact J9d (h:=(E,C,G)) (bne_eq_false_iff_eq.1 h1) h2
 ·rw[if_pos hc,beq_false_of_ne hc,cond_false,cond_false,cond_false];rfl
def Z78 (a:J9×Nat):=Ln a.1.2.1-1
def Kg2 (a:J9×Nat) (b:List Ev):=Nc a.2+1=(Ja b).2.1
def K66 (a:List Ev) (b:J9×Nat):=Lb (Kf5 a b).1 J1
def K6q:=[Vz]
def K3k (a:J9×Nat):=List.getD (Xg::a.1.2.2) (List.length a.1.2.1) Vz
def K3g (a:J9×Nat):=(K3k a).2
def K3d (a:J9×Nat):=(K3g a).2
def K3a (a:J9×Nat):=(K3d a).2
def K29 (a:J9×Nat):=(0+List.length (Xg::a.1.2.2))*136≤140737488355328∧(List.length (Xg::a.1.2.2)+1)*136≤140737488355328
def Kqg (a:J9×Nat):=(K3a a).2
def K22 (a:J9×Nat):=(Kqg a).2
def K2u (a:J9×Nat) (b:List Ev):=(0+List.length a.1.2.1)*88≤140737488355328∧T2 (Z34 a b) ((List.length a.1.2.1+1)*88≤140737488355328)
def K2j (a:(List Ev×List Ev×List Reg)×Nat) (b:List Ev):=Vs a.1∧Jpk a.1∧Klr a b
def Kov (a:(List Ev×List Ev×List Reg)×Nat) (b:List Ev) (c:J9×Nat):=K2j a b∧List.length b-a.2<List.length b-c.2
def Jzg (a:List Ev) (b:J9×Nat):=Jd (Jhl a b)
def Jze (a:List Ev) (b:J9×Nat):=Jzg a b==0
def Kd2 (a:List Ev) (b:J9×Nat):=Jze a b=true
def Kd0 (a:J9×Nat) (b:List Ev) (c:(List Ev×List Ev×List Reg)×Nat):=a.1.2.1++[Jhl b a]=c.1.2.1
def Kds (a:List Ev) (b:J9×Nat):=Kd2 a b→Z34 b a
def Jyt (a:J9×Nat):=((K3k a).1,(K3g a).1,(K3d a).1,(K3a a).1,(Kqg a).1,E2 (K22 a))
def Ka9 (a:J9×Nat) (b:List Ev):=Yz (Jyt a) (Jhl b a)
def Ka8 (a:J9×Nat) (b:List Ev):=Vp (Jyt a) (Jhl b a)
def Ka7 (a:J9×Nat) (b:List Ev):=(Ka9 a b).2
def Ka6 (a:J9×Nat) (b:List Ev):=(Ka7 a b).2
def Ka5 (a:J9×Nat) (b:List Ev):=(Ka6 a b).2
def Ka4 (a:J9×Nat) (b:List Ev):=(Ka5 a b).2
def Jyr (a:J9×Nat) (b:List Ev):=K2u a b∧K29 a∧Z50 a∧∃(y:(List Ev×List Ev×List Reg)×Nat),(Jpb a y∧Sf b (Si 0 (Si 0 (Sf Vh (Sf Vh (Sf Vh (Sf Vh (Sf Vh (Kd0 a b y∧Xg::(a.1.2.2++K6q)=Xg::y.1.2.2)))))))))∧Kov y b a
def Jyo (a:J9×Nat) (b:List Ev):=T2 (Bd (Ln a.1.2.1) (Ln (Xg::a.1.2.2))) (T2 (Z34 a b) (Jn (Jyt a)∧Jc1 (K22 a).1∧List.length (Kqg a).1<10000∧Jzg b a=0∧K66 b a=false))∧Br (Ka8 a b !=0) (Z50 a∧[]=Jqo b∧Jtv b∧Kg2 a b∧Ka8 a b=(Ja b).2.2) (K2u a b∧K29 a∧Z50 a∧∃(y:(List Ev×List Ev×List Reg)×Nat),(Jpb a y∧Sf b (Si 0 (Si 0 (Sf Vh (Sf Vh (Sf Vh (Sf Vh (Sf Vh (Kd0 a b y∧Xg::(a.1.2.2++[((Ka9 a b).1,(Ka7 a b).1,(Ka6 a b).1,(Ka5 a b).1,(Ka4 a b).1,E2 (Ka4 a b).2)])=Xg::y.1.2.2)))))))))∧Kov y b a)
def Kaa (a:J9×Nat) (b:List Ev):=Br (Ln a.1.2.1==0) (Br false (Jyo a b) (Br true (Z50 a∧[]=Jqo b∧Jtv b∧Kg2 a b∧12=(Ja b).2.2) (Jyr a b))) ((Iw (Z78 a)∧Tw (Bd (Z78 a) (Ln a.1.2.1)))∧Br (Lb (Gt a.1.2.1 (Z78 a) Di).2.1 Ji) (Br false (Jyo a b) (Br true (Z50 a∧[]=Jqo b∧Jtv b∧Kg2 a b∧21=(Ja b).2.2) (Jyr a b))) ((Iw (Z78 a)∧(0≤Z78 a∧Z78 a≤Ln a.1.2.1)∧0≤Ln a.1.2.1∧Ln a.1.2.1≤Ln (Xg::a.1.2.2))∧Z50 a∧∃(y:(List Ev×List Ev×List Reg)×Nat),(Jpb a y∧Sf b (Si 0 (Si 0 (Sf Vh (Sf Vh (Sf Vh (Sf Vh (Sf Vh (List.take (Int.toNat (Z78 a)) a.1.2.1=y.1.2.1∧List.take (List.length a.1.2.1) (Xg::a.1.2.2)=Xg::y.1.2.2)))))))))∧Kov y b a))
theorem Ubw:Ok Tryz.prog 82 Uc1:=okW K83 Tryz.f82 (fun xx=>Y4 (Kj4 xx.1)) fun xx=>by
 obtain⟨(l:List Ev),_⟩:=xx
 refine(by kernel_rfl:(lOk l→Br (decide (1000<Ln l)) ([]=Jqo l∧Jtv l∧0=(Ja l).2.1∧5=(Ja l).2.2) (∃(x:(List Ev×List Ev×List Reg)×Nat),(0=Nc x.2∧Sf l (Si 0 (Si 0 (Sf Vh (Sf Vh (Sf Vh (Sf Vh (Sf Vh (List.length x.1.2.1=0∧K6q=Xg::x.1.2.2)))))))))∧K2j x l∧∀(x:J9×Nat),Vs x.1∧Jpk x.1∧Klq x l→Br (decide (Nc x.2<Ln l)) (T2 (Z34 x l) (List.length (J5w l x).1≤1000000∧List.length (J5w l x).2.1≤1000000∧∀(s:ByteArray),s∈(J5w l x).1→ByteArray.size s≤1000000)∧T2 (Kds l x) (Kd2 l x→Z50 x)∧Br (bif Jze l x then(Kf6 l x).1 !=Nc x.2+1 else false) (Tw (false=true→Z34 x l)∧Br false (Kaa x l) (Br false (Jyo x l) (Br true (Z50 x∧[]=Jqo l∧Jtv l∧Kg2 x l∧11=(Ja l).2.2) (Jyr x l)))) (Tw (Kds l x)∧Br (bif Jze l x then K66 l x else false) (Kaa x l) (Br (Jze l x) (Jyo x l) (Br (Jzg l x !=0) (Z50 x∧[]=Jqo l∧Jtv l∧Kg2 x l∧Jzg l x=(Ja l).2.2) (Jyr x l))))) (Tw (Bd (Ln x.1.2.1) (Ln (Xg::x.1.2.2)))∧x.1.2.1=Jqo l∧Jyt x=J7 l∧0=(Ja l).2.1∧0=(Ja l).2.2)))=_).mp ?_
 delta Z34 Z50 Z78 Jpb Vh Kg2 Di Kf6 Kf5 J5w Do Vz K66 K6q Jtv K3k K3g K3d Klr Klq K3a K29 Kqg K22 K2u K2j Kov Jhl Jzg Jze Kd2 Kd0 Kds Jyt Ka9 Ka8 Ka7 Ka6 Ka5 Ka4 Jyr Jyo Kaa Br Iw Bd T2 Tw Sf Si Ln Nc Gt B0 Lb E2 Ji J1
 intro hl
 have hbn:({data:={toList:=[]}}:ByteArray)=Jb:=rfl
 have hev:((0:Int),Jb,([]:List ByteArray),([]:List Int),Jb)=ev0:=rfl
 have hrg:((0:Int),(0:Int),([]:List Sta),([]:List Ord),([]:List Met),([]:List Out),([]:List Per))=Xg:=rfl
 have hun:({data:={toList:=[117,110,100,111]}}:ByteArray)=J1:=rfl
 have hse:({data:={toList:=[115,101,116,116,108,101]}}:ByteArray)=Ji:=rfl
 simp only[hbn,hev,hrg,hun,hse,Prod.eta,Bool.false_eq_true,Bool.true_eq_false,false_implies,true_implies,true_and,and_true]
 refine⟨fun h=> ?_,fun h=>⟨(([],[],[]),(0:Nat)),by(repeat' first|exact rfl|exact⟨⟩|apply And.intro|omega|dsimp only;omega), ?_,fun(x:J9×Nat) hk=> ?_⟩⟩
 ·have e:Ja l=(Y7,0,5):=by unfold Ja;rw[if_pos (by have:=of_decide_eq_true h;omega)]
  refine⟨?_, ?_,by rw[e],by rw[e]⟩
  ·unfold Jqo;rw[e];rfl
  ·unfold J7;rw[e];rfl
 ·have hn:l.length≤1000:=by have:=of_decide_eq_false h;omega
  exact⟨Xx,Jwf,rfl,Nat.zero_le _,hn,by unfold Ja;rw[if_neg (by omega)];rfl⟩
 ·obtain⟨⟨E,C,G⟩,k⟩:=x
  obtain⟨hI,hU,hk1,hk2,hk3,hk4⟩:=hk
  dsimp only at hI hU hk1 hk2 hk3 hk4⊢
  have hG:G.length=C.length:=hI.ok.nG
  have hC:C.length≤E.length:=hI.ok.nC
  have hN:=Ucv hG
  have hR:Jn (Ko G):=Fq hI.ok
  have hUx:Jc1 (Ko G).2.2.2.2.2.1:=Jvq (h:=(E,C,G)) hU
  have hM:(Ko G).2.2.2.2.1.length≤E.length:=Jvr hI
  simp only[hN]
  refine⟨fun hlt=> ?_,fun hge=> ?_⟩
  ·have hlt:(k:Int)<l.length:=of_decide_eq_true hlt
   have hz:=hl.2 _ (Je (d:=ev0) (show k<l.length by omega))
   rw[Jq (d:=ev0) (by omega)] at hk4
   generalize l.getD k ev0=e at*
   have hA:=Kkm (C:=C) (G:=G) (e:=e) hk1
   have hT:((C.length:Int)-1).toNat=C.length-1:=by omega
   rw[hT]
   have hi64:(-9223372036854775808≤(k:Int)+1∧(k:Int)+1≤9223372036854775807):=⟨by omega,by omega⟩
   have hkk:(0≤(k:Int)∧(k:Int)<l.length):=⟨by omega,hlt⟩
   have no:∀v,K3 (E,C,G) e=v→v≠0→[]=Jqo l∧Xg=J7 l∧(k:Int)+1=(Ja l).2.1∧v=(Ja l).2.2:=fun v p q=>by
    have:=Khp hk4 p q
    dsimp only at this
    rwa[hk1] at this
   have len1:((Xg::G).length:Int)=G.length+1:=by simp
   have len2:(Xg::G).length=G.length+1:=by simp
   refine⟨⟨hkk,hkk,hz⟩,⟨fun _=>hkk,fun _=>hkk,fun _=>hi64⟩,fun a=>⟨hi64,no 11 (by rw[hA,a];rfl) (by decide)⟩,fun a=>⟨⟨fun _=>hkk,fun _=>hkk⟩,fun b=>⟨fun c=>⟨hi64,no 12 (by rw[hA,a,b,c];rfl) (by decide)⟩,fun c=> ?_⟩,fun b=>⟨fun c=> ?_,fun c=> ?_⟩⟩⟩
   ·have c0:(C.length:Int)≠0:=by simpa using c
    refine⟨⟨⟨by omega,by omega⟩,⟨by omega,by omega⟩,by omega,by omega⟩,fun d=>⟨hi64,no 21 (by rw[hA,a,b,c,d];rfl) (by decide)⟩,fun d=> ?_⟩
    have ha:K3 (E,C,G) e=0:=by rw[hA,a,b,c,d];rfl
    have hu:(e.2.1.toList==J1.toList)=true:=by
     cases q:Jd e==0 with
     |true=>rw[q] at b;exact b
     |false=>rw[q] at b;cases b
    have eH:Ho (E,C,G) e=(E++[e],C.take (C.length-1),G.take (C.length-1)):=by unfold Ho;rw[hu,cond_true]
    refine⟨⟨⟨by omega,by omega⟩,⟨by omega,by omega⟩,by omega,by omega⟩,hi64,(Ho (E,C,G) e,k+1),⟨by push_cast;rfl,by rw[eH], ?_⟩,⟨Jb0 hI (by show E.length<1000;omega) ha,Jx9 hU ha,by rw[Xy];show E.length+1=k+1;omega,by show k+1≤l.length;omega,hk3,Ju1 hk4 ha⟩,by show l.length-(k+1)<_;omega⟩
    rw[eH]
    have q:C.length=(C.length-1)+1:=by omega
    show List.take C.length (Xg::G)=Xg::G.take (C.length-1)
    conv=>lhs;rw[q]
    rfl
   ·have c0:Jd e=0:=by simpa using c
    have hu:(e.2.1.toList==J1.toList)=false:=by rw[c] at b;exact b
    have hA2:K3 (E,C,G) e=Vp (Ko G) e:=by rw[hA,a,b,c];rfl
    refine⟨⟨⟨by omega,by omega⟩,⟨by omega,by omega⟩,hkk,hkk,hR,hUx,Nat.lt_of_le_of_lt hM (by omega),c0,hu⟩,fun d=>⟨hi64,no _ hA2 (bne_iff_ne.1 d)⟩,fun d=> ?_⟩
    have d0:Vp (Ko G) e=0:=bne_eq_false_iff_eq.1 d
    have ha:=hA2.trans d0
    have eH:Ho (E,C,G) e=(E++[e],C++[e],G++[Jw (Ko G) e]):=by unfold Ho;rw[hu,cond_false]
    refine⟨⟨by omega,hkk,hkk,by omega⟩,⟨by omega,by omega⟩,hi64,(Ho (E,C,G) e,k+1),⟨by push_cast;rfl,by rw[eH],by rw[eH,J20 d0]⟩,⟨Jb0 hI (by show E.length<1000;omega) ha,Jx9 hU ha,by rw[Xy];show E.length+1=k+1;omega,by show k+1≤l.length;omega,hk3,Ju1 hk4 ha⟩,by show l.length-(k+1)<_;omega⟩
   ·have c0:Jd e≠0:=by simpa using c
    exact⟨fun d=>⟨hi64,no _ (by rw[hA,a,b,c];rfl) c0⟩,fun d=>absurd (bne_eq_false_iff_eq.1 d) c0⟩
  ·have hge:=of_decide_eq_false hge
   have:k=l.length:=by omega
   rw[this,List.drop_length,Zm] at hk4
   have eR:J7 l=Ko G:=by unfold J7;rw[←hk4];rfl
   have eC:Jqo l=C:=by unfold Jqo;rw[←hk4];rfl
   have len1:((Xg::G).length:Int)=G.length+1:=by simp
   exact⟨⟨⟨by omega,by omega⟩,by omega,by omega⟩,eC.symm,eR.symm,by rw[←hk4],by rw[←hk4]⟩
abbrev K82:=K83.add Ubw
def Kip:Con:={args:=[.val false (.list 67 sEv)],ress:=[(true,Jlh),I,I],owns:=[],pre:=fun(l,_)=>[lOk l],spec:=fun(l,_)=>(J7 l,(Ja l).2.1,(Ja l).2.2,())}
theorem K8h:Ok Tryz.prog 17 Kip:=okW K82 Tryz.f17 na fun xx=>by
 obtain⟨(l:List Ev),_⟩:=xx
 refine(by kernel_rfl:(lOk l→lOk l∧Jzz l=J7 l∧Si (Ja l).2.1 ((Ja l).2.2=(Ja l).2.2))=_).mp ?_
 delta Jzz Si E2
 intro hl
 exact⟨hl,rfl,rfl,rfl⟩
abbrev Ud6:=K82.add K8h
abbrev Ud5:=Ud6
abbrev Ud4:=Ud5
abbrev Ud3:=Ud4
abbrev Ud2:=Ud3
abbrev Ud1:=Ud2
abbrev Ud0:=Ud1
abbrev Udz:=Ud0
abbrev K81:=Udz
theorem Jr9 {Pr:J9→Prop} (h0:Pr Y7) (hs:∀h e,Vs h→h.1.length<1000→Pr h→K3 h e=0→Pr (Ho h e)) (l:List Ev):Pr (Ja l).1:=by
 have go:∀(l:List Ev) (h:J9),Vs h→Pr h→h.1.length+l.length≤1000→Pr (Zm h l).1:=by
  intro l
  induction l with
  |nil=>intro h _ hp _;exact hp
  | cons e l ih =>
   intro h hi hp hl
   unfold Zm
   simp only[List.length_cons] at hl
   by_cases ha:K3 h e=0
   ·rw[if_pos ha]
    exact ih _ (Jb0 hi (by omega) ha) (hs h e hi (by omega) hp ha) (by rw[Xy];omega)
   ·rw[if_neg ha];exact hp
 unfold Ja
 by_cases h:1000<l.length
 ·rw[if_pos h];exact h0
 ·rw[if_neg h];exact go l _ Xx h0 (by show 0+l.length≤1000;omega)
theorem Xz {e:Ev} {l:List Ev} {h:J9}:Zm h (e::l)=if K3 h e=0 then Zm (Ho h e) l else(h,h.1.length+1,K3 h e):=rfl
theorem Jjk:∀{l m:List Ev} {h:J9},(Zm h l).2.2=0→Zm h (l++m)=Zm (Zm h l).1 m
 |[],_,_,_=>rfl
 | e :: l, m, h, h0 => by
  rw[List.cons_append]
  by_cases ha:K3 h e=0
  ·simp only[Xz,if_pos ha] at h0⊢
   exact Jjk h0
  ·rw[Xz,if_neg ha] at h0;exact absurd h0 ha
theorem Jn4 {l:List Ev} {e:Ev} (h:(Ja l).2.2=0) (hl:l.length<1000):(Ja (l++[e])).2.2=K3 (Ja l).1 e:=by
 have e1:Ja l=Zm Y7 l:=by unfold Ja;rw[if_neg (by omega)]
 have e2:Ja (l++[e])=Zm Y7 (l++[e]):=by unfold Ja;rw[if_neg (by rw[List.length_append,List.length_singleton];omega)]
 rw[e1] at h⊢
 rw[e2,Jjk h,Xz]
 by_cases ha:K3 (Zm Y7 l).1 e=0
 ·rw[if_pos ha];exact ha.symm
 ·rw[if_neg ha]
theorem J9c {l:List Ev} {e:Ev} (h:(Ja l).2.2=0) (hc:Jd e=0) (hl:l.length<1000):(Ja (l++[e])).2.2=Jts l e:=by
 have h0:Jzu l e=0:=by
  unfold Jzu
  rw[h,hc,decide_eq_false (by omega)]
  rfl
 rw[Jn4 h hl]
 unfold Jts
 rw[if_pos h0]
 unfold K3
 rw[if_neg (by rw[hc];simp)]
theorem J1r {l:List Ev} {e:Ev} (hl:lOk l) (hz:Jbn e) (h:l.length<1000):lOk (l++[e]):=by
 refine⟨by rw[List.length_append,List.length_singleton];omega,fun x hx=> ?_⟩
 rcases V9 hx with hx|hx
 ·exact hl.2 x hx
 ·subst hx;exact hz
def Kjw:Con:={args:=[.val false (.list 67 sEv),aEv],ress:=[I],owns:=[],pre:=fun(l,e,_)=>[lOk l,Jbn e],spec:=fun(l,e,_)=>(Jts l e,())}
def Keg (a:List Ev) (b:Int) (c:Bt) (d:Ls) (e:Li) (f:Bt):=Br (decide (1000≤Ln a)) (5=Jts a (b,c,d,e,f)) (((0+List.length a)*88≤140737488355328∧Jc0 a∧lOk (a++[(b,c,d,e,f)]))∧(Ja (a++[(b,c,d,e,f)])).2.2=Jts a (b,c,d,e,f))
theorem Ucb:Ok Tryz.prog 58 Kjw:=okW K81 Tryz.f58 na fun xx=>by
 obtain⟨(l:List Ev),⟨(n:Int),(k:ByteArray),(ns:List ByteArray),(vs:List Int),(tx:ByteArray)⟩,_⟩:=xx
 refine(by kernel_rfl:(lOk l→Jbn (n,k,ns,vs,tx)→lOk l∧Br ((Ja l).2.2==0) (Jdo ns vs∧Br (Z75 n k ns vs tx !=0) (Z75 n k ns vs tx=Jts l (n,k,ns,vs,tx)) (Keg l n k ns vs tx)) (Br ((Ja l).2.2 !=0) ((Ja l).2.2=Jts l (n,k,ns,vs,tx)) (Keg l n k ns vs tx)))=_).mp ?_
 delta Z61 Z75 F5 Jc0 Jgz Jhi Jdo Keg Br Ln
 intro hl hz
 have no:∀v,Jzu l (n,k,ns,vs,tx)=v→v≠0→v=Jts l (n,k,ns,vs,tx):=fun v h h2=>by
  unfold Jts
  rw[if_neg (by rw[h];exact h2),h]
 refine⟨hl,fun h=>⟨hz,fun h2=> ?_,fun h2=>⟨fun h3=> ?_,fun h3=> ?_⟩⟩,fun h=>⟨fun h2=> ?_,fun h2=>absurd (bne_eq_false_iff_eq.1 h2) (by simpa using h)⟩⟩
 ·have h2:=bne_iff_ne.1 h2
  refine no _ ?_ h2
  unfold Jzu
  rw[show(Ja l).2.2=0 by simpa using h,Jg,if_pos rfl,Jg,if_neg h2]
 ·refine no _ ?_ (by decide)
  unfold Jzu
  rw[show(Ja l).2.2=0 by simpa using h,bne_eq_false_iff_eq.1 h2,h3]
  rfl
 ·have h3:=of_decide_eq_false h3
  exact⟨⟨by omega,by omega,J1r hl hz (by omega)⟩,J9c (by simpa using h) (bne_eq_false_iff_eq.1 h2) (by omega)⟩
 ·have h2:=bne_iff_ne.1 h2
  refine no _ ?_ h2
  unfold Jzu
  rw[Jg,if_neg h2]
abbrev Udy:=K81.add Ucb
structure Uet (h:J9) (k:Nat):Prop where
 ok:Jn (Ko (h.2.2.take k))
 uni:Jc1 (Ko (h.2.2.take k)).2.2.2.2.2.1
 met:(Ko (h.2.2.take k)).2.2.2.2.1.length<10000
abbrev K80:=Udy
abbrev w32:ByteArray:=⟨⟨[32]⟩⟩
theorem Kyo (x:ByteArray):Uj [x] w32=x:=by
 cases x with
 |mk d=>simp[Uj,Lib.join,List.intercalate,List.intersperse]
theorem Jss {l:List ByteArray} {x:ByteArray} (h:l≠[]):Uj (l++[x]) w32=bs ((Uj l w32).data.toList++[32]++x.data.toList):=by
 unfold Uj
 rw[List.map_append,List.map_cons,List.map_nil,Jbg (by simpa using h)]
 simp[bs]
theorem J6s {l:List ByteArray} (h:SmL l) (k:Nat):SmL (l.take k):=⟨by rw[List.length_take];have:=h.1;omega,fun w hw=>h.2 w (List.mem_of_mem_take hw)⟩
theorem J6t {l:List ByteArray} (h:SmL l):(Uj l w32).size≤82000:=by
 have go:∀l:List ByteArray,(∀w∈l,w.size≤40)→((l.map fun x=>x.data.toList).map fun x=>x.length+1).sum≤41*l.length:=by
  intro l
  induction l with
  |nil=>intro _;simp
  |cons x r ih=>
   intro h
   have h1:=ih fun w hw=>h w (List.mem_cons_of_mem _ hw)
   have h2:x.data.toList.length≤40:=h x (List.mem_cons_self ..)
   simp only[List.map_cons,List.sum_cons,List.length_cons]
   omega
 have h1:=go l h.2
 have h2:=h.1
 show(Lib.join (l.map fun x=>x.data.toList) [32]).toArray.size≤_
 rw[List.size_toArray]
 exact Nat.le_trans (Jbh rfl) (by omega)
def J78:Con:={args:=[.val false (.list 9 .str)],ress:=[tS],owns:=[],pre:=fun(l,_)=>[SmL l],spec:=fun(l,_)=>(Jgk l,())}
abbrev Kj9 (l:List ByteArray):Ann:={X:=Nat,σ:=fun k=>⟨1,[(0, .one (.sl 0)),(3, .one (.str (Uj (l.take k) w32))),(4, .one (.int .i64 k))],[(0, .imm 9 .str l)]⟩,inv:=fun k=>1≤k∧k≤l.length,mu:=fun k=>l.length-k}
def Kg9 (a:Nat) (b:Ls):=Uj (List.take a b) w32
def Kto (a:Nat) (b:Ls):=1≤a∧Z39 a b
def K6m (a:Nat) (b:Ls):=Array.mk ((Kg9 a b).data.toList++[32])
theorem Kv6:Ok Tryz.prog 193 J78:=okW K80 Tryz.f193 (fun xx=>Y4 (Kj9 xx.1)) fun xx=>by
 obtain⟨(l:List ByteArray),_⟩:=xx
 refine(by kernel_rfl:(SmL l→Br (Ln l==0) (Jkt=Jgk l) (Tw (Yd l)∧∃(x:Nat),(Uz l=Kg9 x l∧1=Nc x∧l=l)∧Kto x l∧∀(x:Nat),Kto x l→Br (J6a x l) ((Nc (ByteArray.size (Kg9 x l)+1)≤9223372036854775807∧T2 (Z94 x l) (Nc (ByteArray.size (ByteArray.mk (K6m x l))+ByteArray.size (Z27 l x))≤9223372036854775807))∧Z20 x∧∃(y:Nat),(ByteArray.mk (Array.mk ((K6m x l).toList++(Z27 l x).data.toList))=Kg9 y l∧Vm x y∧l=l)∧Kto y l∧Jz3 l y x) (Kg9 x l=Jgk l)))=_).mp ?_
 delta Z20 Z27 Z39 Z94 Yd Vm Uz Kg9 J6a Kto Jz3 Jkt K6m Br Iw Bd T2 Tw Ln Nc B0
 intro h
 have hz:=h.1
 have szs:=fun k=>J6t (J6s h k)
 have hbn:({data:={toList:=[]}}:ByteArray)=Jb:=rfl
 refine⟨fun h1=>by unfold Jgk;rw[h1];rfl,fun h1=> ?_⟩
 have h0:l.length≠0:=fun q=>by rw[q] at h1;cases h1
 refine⟨by(repeat' first|apply And.intro|(first|omega|dsimp only;omega)),(1:Nat),⟨?_,rfl,rfl⟩,⟨Nat.le_refl _,by omega⟩,fun(x:Nat) hx=>⟨fun h2=> ?_,fun h2=> ?_⟩⟩
 ·cases l with
  |nil=>exact absurd rfl h0
  |cons a r=>exact(Kyo a).symm
 ·have hlt:x<l.length:=by simpa using h2
  have e:Uj (l.take (x+1)) w32=bs ((Uj (l.take x) w32).data.toList++[32]++(l.getD x Jb).data.toList):=by
   rw[←Km (d:=Jb) hlt]
   exact Jss fun q=>by
    have:=congrArg List.length q
    rw[List.length_take,List.length_nil] at this
    omega
  have h3:=szs x
  have h4:(l.getD x Jb).size≤40:=h.2 _ (Je hlt)
  have h5:(⟨⟨(Uj (l.take x) w32).data.toList++[32]⟩⟩:ByteArray).size=(Uj (l.take x) w32).size+1:=by rw[szl,List.length_append];rfl
  simp only[hbn]
  exact⟨by(repeat' first|apply And.intro|(first|omega|dsimp only;omega)),by omega,(x+1:Nat),⟨e.symm,by push_cast;rfl,trivial⟩,by omega,by omega⟩
 ·have hlt:¬x<l.length:=by simpa using h2
  rw[List.take_of_length_le (by omega)]
  unfold Jgk
  rw[h1];rfl
abbrev K8z:=K80.add Kv6
def J5n (r:Reg) (s:ByteArray):ByteArray×Int:=if Zc ((Jj s 32).getD 0 Jb)=true then Zf r (Jj s 32) else(Jb,13)
def J8l:Con:={args:=[Y0,aS],ress:=[tS,I],owns:=[],pre:=fun(r,s,_)=>[Jn r,NmR r,s.size≤4096],spec:=fun(r,s,_)=>((J5n r s).1,(J5n r s).2,())}
abbrev rsA (tk st:Int) (S:List Sta) (O:List Ord) (M:List Met) (X:List Out) (Q:List Per):List (Nat×Res):=[(0, .imm 114 De S),(1, .imm 119 Hj O),(2, .imm 121 Dm M),(3, .imm 123 X4 X),(4, .imm 125 Zl Q),(5, .box 37 [.int .i64 tk, .int .i64 st, .sl 0, .sl 1, .sl 2, .sl 3, .sl 4])]
abbrev Kke (tk st:Int) (S:List Sta) (O:List Ord) (M:List Met) (X:List Out) (Q:List Per):Nat→Option Ann:=fun id=>
 if id=2 then some {X:=Nat×List ByteArray,σ:=fun(k,o)=>⟨9,[(2, .one (.ptr 5 0)),(9, .one (.sl 8)),(10, .one (.sl 7)),(11, .one (.int .i64 k))],rsA tk st S O M X Q++[(7, .own 198 J4v (J4 M tk O)),(8, .own 9 .str o)]⟩,inv:=fun(k,o)=>k≤(J4 M tk O).length∧o.length=2*k∧k≤256∧Hz ((J4 M tk O).drop k) o=Hz (J4 M tk O) [],mu:=fun(k,_)=>(J4 M tk O).length-k}
 else if id=4 then some {X:=Nat,σ:=fun k=>⟨8,[(2, .one (.ptr 5 0)),(9, .one (.sl 7)),(12, .one (.int .i64 k))],rsA tk st S O M X Q++[(7, .own 9 .str (((X.take k).filter fun x=>Ki x.2.2.1 tk).map fun x=>x.1))]⟩,inv:=fun k=>k≤X.length,mu:=fun k=>X.length-k}
 else if id=6 then some {X:=Nat,σ:=fun k=>⟨8,[(2, .one (.ptr 5 0)),(9, .one (.sl 7)),(13, .one (.int .i64 k))],rsA tk st S O M X Q++[(7, .own 9 .str ((Ha (Q.take k)).map fun x=>x.1))]⟩,inv:=fun k=>k≤Q.length,mu:=fun k=>Q.length-k}
 else none
theorem Jsa {w:ByteArray} (h:Zc w=false):(w.toList==Ke.toList)=false∧(w.toList==Kl.toList)=false∧(w.toList==Kk.toList)=false∧(w.toList==Kj.toList)=false∧(w.toList==Kq.toList)=false∧(w.toList==Xe.toList)=false∧(w.toList==Xf.toList)=false:=by
 have go:∀{k:ByteArray},Zc k=true→(w.toList==k.toList)=false:=fun{k} hk=>by
  cases q:w.toList==k.toList with
  |false=>rfl
  |true=>rw[Y9 q,hk] at h;cases h
 exact⟨go (by kernel_rfl),go (by kernel_rfl),go (by kernel_rfl),go (by kernel_rfl),go (by kernel_rfl),go (by kernel_rfl),go (by kernel_rfl)⟩
theorem Jia:∀{l:List Gap} {o:List ByteArray},512≤o.length→Hz l o=o
 |[],_,_=>rfl
 |g::l,o,h=>by
  unfold Hz
  rw[decide_eq_false (by omega),cond_false]
  exact Jia h
theorem Kys:(Ke.toList==Jb.toList)=false∧(Kl.toList==Jb.toList)=false∧(Kk.toList==Jb.toList)=false∧(Kj.toList==Jb.toList)=false:=by
 refine⟨?_, ?_, ?_, ?_⟩<;>kernel_rfl
theorem Kyl:(∀a∈[Ke,Kl,Kk,Kj,Kq,Xe,Xf],(a.toList==a.toList)=true)∧((Kl.toList==Ke.toList)=false∧(Kk.toList==Ke.toList)=false∧(Kk.toList==Kl.toList)=false∧(Kj.toList==Ke.toList)=false∧(Kj.toList==Kl.toList)=false∧(Kj.toList==Kk.toList)=false)∧((Kq.toList==Ke.toList)=false∧(Kq.toList==Kl.toList)=false∧(Kq.toList==Kk.toList)=false∧(Kq.toList==Kj.toList)=false)∧((Xe.toList==Ke.toList)=false∧(Xe.toList==Kl.toList)=false∧(Xe.toList==Kk.toList)=false∧(Xe.toList==Kj.toList)=false∧(Xe.toList==Kq.toList)=false)∧(Xf.toList==Ke.toList)=false∧(Xf.toList==Kl.toList)=false∧(Xf.toList==Kk.toList)=false∧(Xf.toList==Kj.toList)=false∧(Xf.toList==Kq.toList)=false∧(Xf.toList==Xe.toList)=false:=by
 refine⟨fun a _=>Zw a,⟨?_, ?_, ?_, ?_, ?_, ?_⟩,⟨?_, ?_, ?_, ?_⟩,⟨?_, ?_, ?_, ?_, ?_⟩, ?_, ?_, ?_, ?_, ?_, ?_⟩<;>kernel_rfl
theorem Jcw {w:Int} {q:Reg→ByteArray→List ByteArray} {r:Reg} {x:ByteArray} {l:List ByteArray} {R:ByteArray×Int} (h:R=Jdv true w q r (x::l)):
  ((bif (l.length:Int)+1 !=2 then true else(l.getD 0 Jb).toList==Jb.toList)=true→Jb=R.1∧25=R.2)∧
  ((bif (l.length:Int)+1 !=2 then true else(l.getD 0 Jb).toList==Jb.toList)=false→(l.length:Int)+1=2∧(Ye r w (l.getD 0 Jb)=false→Jb=R.1∧10=R.2)∧(Ye r w (l.getD 0 Jb)=true→R=(Jgk (q r (l.getD 0 Jb)),0))):=by
 unfold Jdv at h
 rw[cond_true,show((x::l).length:Int)=(l.length:Int)+1 by simp,show(x::l).getD 1 Jb=l.getD 0 Jb from rfl] at h
 cases c1:((l.length:Int)+1==2) with
 |false=>
  rw[c1,cond_false] at h
  rw[show((l.length:Int)+1 !=2)=true by simp only[bne,c1];rfl]
  exact⟨fun _=>by rw[h];exact⟨rfl,rfl⟩,fun h=>by cases h⟩
 | true =>
  rw[c1,cond_true] at h
  rw[show((l.length:Int)+1 !=2)=false by simp only[bne,c1];rfl,cond_false]
  cases c2:(l.getD 0 Jb).toList==Jb.toList with
  |true=>
   rw[c2,cond_true] at h
   exact⟨fun _=>by rw[h];exact⟨rfl,rfl⟩,fun h=>by cases h⟩
  |false=>
   rw[c2,cond_false] at h
   refine⟨fun h=>(by cases h),fun _=>⟨eq_of_beq c1,fun c3=> ?_,fun c3=> ?_⟩⟩
   ·rw[c3] at h;rw[h];exact⟨rfl,rfl⟩
   ·rw[c3] at h;exact h
theorem Fe {w:Int} {q:Reg→ByteArray→List ByteArray} {r:Reg} {x:ByteArray} {l:List ByteArray} {R:ByteArray×Int} (h:R=Jdv false w q r (x::l)):
  ((bif (l.length:Int)+1 !=1 then true else false)=true→Jb=R.1∧25=R.2)∧((bif (l.length:Int)+1 !=1 then true else false)=false→(l.length:Int)+1=1∧R=(Jgk (q r Jb),0)):=by
 unfold Jdv at h
 rw[cond_false,show((x::l).length:Int)=(l.length:Int)+1 by simp] at h
 cases c1:((l.length:Int)+1 !=1) with
 |true=>rw[c1] at h;exact⟨fun _=>by rw[h];exact⟨rfl,rfl⟩,fun h=>by cases h⟩
 |false=>rw[c1] at h;exact⟨fun h=>(by cases h),fun _=>⟨bne_eq_false_iff_eq.1 c1,h⟩⟩
theorem Jic {n:Int}:(decide (n<0)=true→decide (0≤n)=false)∧(decide (n<0)=false→0≤n):=
 ⟨fun h=>decide_eq_false (by have:=of_decide_eq_true h;omega),fun h=>by have:=of_decide_eq_false h;omega⟩
theorem Ja1 {n:Int} (h0: -19200000000≤n) (h1:n≤19200000000): -(10^17:Int)<n∧n<10^18:=⟨Int.lt_of_lt_of_le (by decide) h0,Int.lt_of_le_of_lt h1 (by decide)⟩
def Jhj (a b:Int) (c:List Sta) (d:List Ord) (e:List Met) (f:List Out) (g:List Per) (h:Bt):=J5n (Z72 a b c d e f g) h
def Kgq (a:Bt):=Bd 1 (Jyk a)
def J3a (a:Bt):=List.getD (Jj a 32) 1 B0
def J28 (a:Nat) (b:List Per):=List.map (fun(x:Per)=>x.1) (Ha (List.take a b))
def K7y (a:Bt):=Lb (Jq7 a) Xe
def Kta (a:Bt):=Lb (Jq7 a) Kl
def K7s (a:Bt):=Lb (Jq7 a) Kj
def Ks8 (a:Bt):=Lb (Jq7 a) Kk
def Ks7 (a:Bt):=Lb (Jq7 a) Kq
def Ks6 (a:Bt):=Lb (Jq7 a) Ke
def Kmy (a:Int) (b:List Sta) (c:List Ord) (d:List Met) (e:Bt):=Jo2 a b c d (J3a e)
def K7l (a:Bt):=true=true→Kgq a
def J5t (a:Int) (b:Nat) (c:List Out):=List.map (fun(x:Out)=>x.1) (List.filter (fun(x:Out)=>Ki x.2.2.1 a) (List.take b c))
def K6i (a:Bt):=Jyk a !=1
def K6g (a:Bt):=Jyk a !=2
def Krj (a:List Sta) (b:Bt):=(Gt a (J6 a (J3a b)) Z12).2.2
def Krd (a b:Int) (c:List Sta) (d:List Ord) (e:List Met) (f:List Out) (g:List Per) (h:Bt):=B0=(Jhj a b c d e f g h).1∧25=(Jhj a b c d e f g h).2
def Krc (a b:Int) (c:List Sta) (d:List Ord) (e:List Met) (f:List Out) (g:List Per) (h:Bt):=B0=(Jhj a b c d e f g h).1∧10=(Jhj a b c d e f g h).2
def K50 (a:Bt):=K6i a=false
def K5y (a:Bt):=K6g a=false
def K5t (a:Int) (b:Nat) (c:List Out):=List.length (J5t a b c)
def K3o (a:List Sta) (b:Bt):=[Vd (Krj a b)]
def K15 (a:Bt):=bif K6g a then true else Lb (J3a a) B0
def Ko8 (a:Nat×Ls) (b:List Met) (c:Int) (d:List Ord):=a.1≤List.length (J4 b c d)∧List.length a.2=2*a.1∧a.1≤256∧Hz (List.drop a.1 (J4 b c d)) a.2=Hz (J4 b c d) []
def Kz9 (a:Int) (b:List Met) (c:List Ord) (d:Bt):=(Gt (J23 a b c) (K0 c (J3a d)) Kgk).2
def Kz7 (a:Int) (b:List Met) (c:List Ord) (d:Bt):=(Kz9 a b c d).2
def Kod (a:Int) (b:List Met) (c:List Ord) (d:Bt):=(Kz9 a b c d).1
def Kz6 (a:Int) (b:List Met) (c:List Ord) (d:Bt):=(Kz7 a b c d).2
def Koc (a:Int) (b:List Met) (c:List Ord) (d:Bt):=(Kz7 a b c d).1
def Kob (a:Int) (b:List Met) (c:List Ord) (d:Bt):=(Kz6 a b c d).1
def Kz4 (a:Int) (b:List Met) (c:List Ord) (d:Bt):=(Kz6 a b c d).2
def Koa (a:Int) (b:List Met) (c:List Ord) (d:Bt):=(Kz4 a b c d).1
def Kn9 (a:Int) (b:List Met) (c:List Ord) (d:Bt):=(Kz4 a b c d).2
def Kek (a:Bt):=(K5y a→Iw ((2:Int)-1))∧Tw (K5y a→Bd ((2:Int)-1) (Jyk a))
def Kaw (a:Int) (b:List Met) (c:List Ord) (d:Bt):=[Vd (Kod a b c d),Vd (Koc a b c d),Vd (Kob a b c d),Vd (Koa a b c d),Vd (Kn9 a b c d)]
def J3d (a:Bt) (b c:Int) (d:List Sta) (e:List Ord) (f:List Met) (g:List Out) (h:List Per):=J51 a∧Br (Ks6 a) (Ju b c d e f g h∧∃(x:Nat×List ByteArray),(0=Nc x.1∧Sf d (Sf e (Sf f (Sf g (Sf h (Si b (Si c (Sf (J4 f b e) (List.length x.2=0)))))))))∧Ko8 x f b e∧∀(x:Nat×List ByteArray),Ko8 x f b e→Br (bif decide (Nc x.1<Ln (J4 f b e)) then decide (Nc x.1<256) else false) (T2 (Bd (Nc x.1) (Ln (J4 f b e))) (T2 (Bd (Nc x.1) (Ln (J4 f b e))) (Jmz<J9x f b e x∧J9x f b e x<Jm0∧Ktg x))∧Iw (Nc x.1+1)∧∃(y:Nat×List ByteArray),(Nc x.1+1=Nc y.1∧Sf d (Sf e (Sf f (Sf g (Sf h (Si b (Si c (Sf (J4 f b e) (x.2++[(List.getD (J4 f b e) x.1 (B0,0)).1,Vd (J9x f b e x)]=y.2)))))))))∧Ko8 y f b e∧List.length (J4 f b e)-y.1<List.length (J4 f b e)-x.1) (SmL x.2∧Jgk x.2=(Jhj b c d e f g h a).1∧0=(Jhj b c d e f g h a).2)) (Br (Kta a) (∃(x:Nat),(0=Nc x∧Sf d (Sf e (Sf f (Sf g (Sf h (Si b (Si c (K5t b x g=0))))))))∧x≤List.length g∧∀(x:Nat),x≤List.length g→Br (Jrk x g) (Z93 x g∧Br (Ki (J9p g x) b) (T2 (Bd (Nc x) (Ln g)) ((K5t b x g+1)*16≤140737488355328)∧Z20 x∧∃(y:Nat),(Vm x y∧Sf d (Sf e (Sf f (Sf g (Sf h (Si b (Si c (J5t b x g++[Jyh g x]=J5t b y g))))))))∧Jz1 y g x) (Z20 x∧∃(y:Nat),(Vm x y∧Sf d (Sf e (Sf f (Sf g (Sf h (Si b (Si c (J5t b x g=J5t b y g))))))))∧Jz1 y g x)) (SmL (J5t b x g)∧Jgk (J5t b x g)=(Jhj b c d e f g h a).1∧0=(Jhj b c d e f g h a).2)) (Br (Ks8 a) (∃(x:Nat),(0=Nc x∧Sf d (Sf e (Sf f (Sf g (Sf h (Si b (Si c (List.length (J28 x h)=0))))))))∧x≤List.length h∧∀(x:Nat),x≤List.length h→Br (Jt2 x h) (Tw (Z23 x h)∧Br (J0d h x).2 (T2 (Z23 x h) ((List.length (J28 x h)+1)*16≤140737488355328)∧Z20 x∧∃(y:Nat),(Vm x y∧Sf d (Sf e (Sf f (Sf g (Sf h (Si b (Si c (J28 x h++[(List.getD h x (B0,B0,false)).1]=J28 y h))))))))∧J5v y h x) (Z20 x∧∃(y:Nat),(Vm x y∧Sf d (Sf e (Sf f (Sf g (Sf h (Si b (Si c (J28 x h=J28 y h))))))))∧J5v y h x)) (SmL (J28 x h)∧Jgk (J28 x h)=(Jhj b c d e f g h a).1∧0=(Jhj b c d e f g h a).2)) (Br (K7s a) (Ko1 c∧SmL [Vd c]∧Jgk [Vd c]=(Jhj b c d e f g h a).1∧0=(Jhj b c d e f g h a).2) (Br (Ks7 a) (T2 (Kgq a) (Ju b c d e f g h∧Jmz<Kmy c d e f a∧Kmy c d e f a<Jm0)∧SmL [Vd (Kmy c d e f a)]∧Jgk [Vd (Kmy c d e f a)]=(Jhj b c d e f g h a).1∧0=(Jhj b c d e f g h a).2) (Br (K7y a) (T2 (Kgq a) (Z62 d∧T2 (Bd (J6 d (J3a a)) (Ln d)) (Jmz<Krj d a∧Krj d a<Jm0))∧SmL (K3o d a)∧Jgk (K3o d a)=(Jhj b c d e f g h a).1∧0=(Jhj b c d e f g h a).2) ((Ju b c d e f g h∧T2 (Kgq a) (Z64 e∧Tw (Bd (K0 e (J3a a)) (Kla c f e))))∧(Jmz<Kod c f e a∧Kod c f e a<Jm0∧Jmz<Koc c f e a∧Koc c f e a<Jm0∧Jmz<Kob c f e a∧Kob c f e a<Jm0∧Jmz<Koa c f e a∧Koa c f e a<Jm0∧Jmz<Kn9 c f e a∧Kn9 c f e a<Jm0)∧SmL (Kaw c f e a)∧Jgk (Kaw c f e a)=(Jhj b c d e f g h a).1∧0=(Jhj b c d e f g h a).2))))))
def Jym (a:Bt) (b c:Int) (d:List Sta) (e:List Ord) (f:List Met) (g:List Out) (h:List Per):=((K50 a→Iw ((1:Int)-1))∧Tw (K50 a→Bd ((1:Int)-1) (Jyk a)))∧Br (bif K6i a then true else Lb (Jq7 a) B0) (Krd b c d e f g h a) (T2 (false=true→Kgq a) (false=true→Ju b c d e f g h)∧Br false (Krc b c d e f g h a) (J3d a b c d e f g h))
def Kac (a:Bt) (b c:Int) (d:List Sta) (e:List Ord) (f:List Met) (g:List Out) (h:List Per):=Kek a∧Br (K15 a) (Krd b c d e f g h a) (T2 (K7l a) (true=true→Ju b c d e f g h)∧Br (bif true then decide (atS (Z72 b c d e f g h) 115 (J3a a)<0) else false) (Krc b c d e f g h a) (J3d a b c d e f g h))
def Kab (a:Bt) (b c:Int) (d:List Sta) (e:List Ord) (f:List Met) (g:List Out) (h:List Per):=Br (Lb (Jq7 a) Xf) (Kek a∧Br (K15 a) (Krd b c d e f g h a) (T2 (K7l a) (true=true→Ju b c d e f g h)∧Br (bif true then decide (atS (Z72 b c d e f g h) 111 (J3a a)<0) else false) (Krc b c d e f g h a) (J3d a b c d e f g h))) (B0=(Jhj b c d e f g h a).1∧13=(Jhj b c d e f g h a).2)
def Jyl (a:Bt) (b c:Int) (d:List Sta) (e:List Ord) (f:List Met) (g:List Out) (h:List Per):=Br (Ks7 a) (Br (Ks7 a) (Kac a b c d e f g h) (Kab a b c d e f g h)) (Br (K7y a) (Kac a b c d e f g h) (Kab a b c d e f g h))
theorem Kx3:Ok Tryz.prog 115 J8l:=okW K8z Tryz.f115 (fun xx=>Kke xx.1.1 xx.1.2.1 xx.1.2.2.1 xx.1.2.2.2.1 xx.1.2.2.2.2.1 xx.1.2.2.2.2.2.1 xx.1.2.2.2.2.2.2) fun xx=>by
 obtain⟨⟨(tk:Int),(st:Int),(S:List Sta),(O:List Ord),(M:List Met),(X:List Out),(Q:List Per)⟩,(s:ByteArray),_⟩:=xx
 refine(by kernel_rfl:(Ju tk st S O M X Q→NmR (Z72 tk st S O M X Q)→ByteArray.size s≤4096→(ByteArray.size s≤1000000∧Bd 32 256)∧J51 s∧Br (Ks6 s) (Br (Ks6 s) (Jym s tk st S O M X Q) (Jyl s tk st S O M X Q)) (Br (Kta s) (Br (Kta s) (Jym s tk st S O M X Q) (Jyl s tk st S O M X Q)) (Br (Ks8 s) (Br (Ks8 s) (Jym s tk st S O M X Q) (Jyl s tk st S O M X Q)) (Br (K7s s) (Jym s tk st S O M X Q) (Jyl s tk st S O M X Q)))))=_).mp ?_
 delta Z12 Z20 Z23 Z62 Z64 Z72 Z83 Z93 Jrk Vm Jt2 Jyk J0d Ju Jhj Jgp Jyi Jz8 Jq7 Kgq J3a J51 J28 Kgk Jz4 Jyh Ktg J26 K7y Kta K7s Ks8 Ks7 Ks6 J9x Kmy K7l J5v Jz1 J9p Jm0 J5t Kfq J23 K6i K6g Krj Krd Krc K50 K5y Jmz K5t Kfh K3o Kla K15 Ko8 Ko1 Kz9 Kz7 Kod Kz6 Koc Kob Kz4 Koa Kn9 Kek Kaw J3d Jym Kac Kab Jyl Br Iw Bd T2 Tw Sf Si Ln Nc Gt B0 Lb E2 Kq Xf Ke Kl Kk Xe Kj
 intro hr hn hs
 have hbn:({data:={toList:=[]}}:ByteArray)=Jb:=rfl
 have eA:J5n (tk,st,S,O,M,X,Q) s=if Zc ((Jj s 32).getD 0 Jb)=true then Zf (tk,st,S,O,M,X,Q) (Jj s 32) else(Jb,13):=rfl
 have hne:Jj s 32≠[]:=fun q=>Jac _ _ (List.map_eq_nil_iff.1 q)
 have hcnt:(Jj s 32).length≤4097:=by
  unfold Jj
  rw[List.length_map]
  have:=Ja6 (UInt8.ofNat (32:Int).toNat) s.data.toList
  have h4:s.data.toList.length=s.size:=rfl
  omega
 generalize J5n (tk,st,S,O,M,X,Q) s=R at eA⊢
 generalize Jj s 32=ws at*
 cases ws with
 |nil=>exact absurd rfl hne
 | cons w l =>
  have hg0:(w::l).getD 0 Jb=w:=rfl
  have hg1:(w::l).getD 1 Jb=l.getD 0 Jb:=rfl
  have hl:((w::l).length:Int)=(l.length:Int)+1:=by simp
  simp only[hbn,hg0,hg1,hl] at eA⊢
  rw[List.length_cons] at hcnt
  refine⟨⟨by omega,by decide,by decide⟩,by(repeat' first|apply And.intro|(first|omega|dsimp only;omega)), ?_⟩
  obtain⟨q0,⟨q1,q2,q3,q4,q5,q6⟩,⟨q7,q8,q9,q10⟩,⟨q11,q12,q13,q14,q15⟩,q16,q17,q18,q19,q20,q21⟩:=Kyl
  obtain⟨z1,z2,z3,z4⟩:=Kys
  cases hq:Zc w with
  |false=>
   obtain⟨a1,a2,a3,a4,a5,a6,a7⟩:=Jsa hq
   simp only[a1,a2,a3,a4,a5,a6,a7,reduceCtorEq,false_implies,true_and,forall_const]
   rw[eA,hq]
   exact⟨rfl,rfl⟩
  | true =>
   rw[hq,if_pos rfl] at eA
   rcases Jai hq with rfl|rfl|rfl|rfl|rfl|rfl|rfl
   ·rw[Jgi] at eA
    simp only[Zw,q7,q8,q9,q10,reduceCtorEq,false_implies,true_and,and_true,forall_const]
    obtain⟨n1,n2⟩:=Jcw eA
    refine⟨⟨fun _=>by omega,fun h=> ?_,fun h=> ?_⟩,n1,fun h=> ?_⟩
    ·have:=bne_eq_false_iff_eq.1 h;omega
    ·have:=bne_eq_false_iff_eq.1 h;omega
    obtain⟨e2,n3,n4⟩:=n2 h
    refine⟨⟨by omega,by omega,hr⟩,fun h2=>n3 (Jic.1 h2),fun h2=> ?_⟩
    have hf:=Jic.2 h2
    have eR:=n4 (decide_eq_true hf)
    rw[eR]
    have hb:=Jo1 (s:=l.getD 0 Jb) hr
    have ht:=Ja1 hb.1 hb.2
    exact⟨by omega,⟨by omega,by omega,hr,ht.1,ht.2⟩,Juy hr _,rfl,rfl⟩
   ·rw[Jqx] at eA
    simp only[Zw,q11,q12,q13,q14,q15,reduceCtorEq,false_implies,true_and,and_true,forall_const]
    obtain⟨n1,n2⟩:=Jcw eA
    refine⟨⟨fun _=>by omega,fun h=> ?_,fun h=> ?_⟩,n1,fun h=> ?_⟩
    ·have:=bne_eq_false_iff_eq.1 h;omega
    ·have:=bne_eq_false_iff_eq.1 h;omega
    obtain⟨e2,n3,n4⟩:=n2 h
    refine⟨⟨by omega,by omega,hr⟩,fun h2=>n3 (Jic.1 h2),fun h2=> ?_⟩
    have hf:=Jic.2 h2
    have eR:=n4 (decide_eq_true hf)
    rw[eR]
    have hf:0≤J6 S (l.getD 0 Jb):=hf
    have nS:S.length≤6:=hr.nS
    have hlt:=K8 (l:=S) (s:=l.getD 0 Jb)
    have hp:0≤(Hm S (l.getD 0 Jb)).2.2∧(Hm S (l.getD 0 Jb)).2.2≤1000:=(Jet hr.sta hf).pri
    have ht:=Ja1 (n:=(Hm S (l.getD 0 Jb)).2.2) (by omega) (by omega)
    exact⟨by omega,⟨by omega,by omega,by omega,⟨hf,hlt⟩,⟨hf,hlt⟩,ht.1,ht.2⟩,Jnw hr hf,rfl,rfl⟩
   ·rw[Jqy] at eA
    simp only[Zw,q16,q17,q18,q19,q20,q21,reduceCtorEq,false_implies,true_and,and_true,forall_const]
    obtain⟨n1,n2⟩:=Jcw eA
    refine⟨⟨fun _=>by omega,fun h=> ?_,fun h=> ?_⟩,n1,fun h=> ?_⟩
    ·have:=bne_eq_false_iff_eq.1 h;omega
    ·have:=bne_eq_false_iff_eq.1 h;omega
    obtain⟨e2,n3,n4⟩:=n2 h
    refine⟨⟨by omega,by omega,hr⟩,fun h2=>n3 (Jic.1 h2),fun h2=> ?_⟩
    have hf:=Jic.2 h2
    have eR:=n4 (decide_eq_true hf)
    rw[eR]
    have hf:0≤K0 O (l.getD 0 Jb):=hf
    have nO:O.length≤32:=hr.nO
    have hlt:=Ut (l:=O) (s:=l.getD 0 Jb)
    have hb:=L0 hr (Jaj hf)
    have b1:=hb.hours
    have b2:=hb.sent
    have b3:=hb.got
    have b4:=hb.money
    have b5:=hb.fine
    have eB:(O.map (J0 st M)).getD (K0 O (l.getD 0 Jb)).toNat (Jb,0,0,0,0,0)=J0 st M (Xj O (l.getD 0 Jb)):=Jd9 (by omega)
    rw[eB,List.length_map]
    have t1:=Ja1 (n:=(J0 st M (Xj O (l.getD 0 Jb))).2.1) (by omega) (by omega)
    have t2:=Ja1 (n:=(J0 st M (Xj O (l.getD 0 Jb))).2.2.1) (by omega) (by omega)
    have t3:=Ja1 (n:=(J0 st M (Xj O (l.getD 0 Jb))).2.2.2.1) (by omega) (by omega)
    have t4:=Ja1 (n:=(J0 st M (Xj O (l.getD 0 Jb))).2.2.2.2.1) (by omega) (by omega)
    have t5:=Ja1 (n:=(J0 st M (Xj O (l.getD 0 Jb))).2.2.2.2.2) (by omega) (by omega)
    exact⟨by omega,⟨hr,by omega,by omega,by omega,⟨hf,hlt⟩,hf,hlt⟩,⟨t1.1,t1.2,t2.1,t2.2,t3.1,t3.2,t4.1,t4.2,t5.1,t5.2⟩,Jny hr hf,rfl,rfl⟩
   ·rw [Jgh] at eA
    simp only[Zw,z1,reduceCtorEq,false_implies,true_and,and_true,forall_const]
    obtain⟨n1,n2⟩:=Fe eA
    refine⟨⟨fun _=>by omega,fun h=> ?_,fun h=> ?_⟩,n1,fun h=> ?_⟩
    ·have:=bne_eq_false_iff_eq.1 h;omega
    ·have:=bne_eq_false_iff_eq.1 h;omega
    obtain⟨e2,eR⟩:=n2 h
    rw[eR]
    have nO:O.length≤32:=hr.nO
    have hL:(J4 M tk O).length≤48*O.length:=Jfi hr.ord
    have hG:∀g∈J4 M tk O,0≤g.2∧g.2≤999999999:=Jd8 hr.ord
    have hq:Jds (tk,st,S,O,M,X,Q) Jb=Hz (J4 M tk O) []:=rfl
    have hsm:=Jnx hr hn Jb
    rw[hq] at hsm⊢
    refine⟨by omega,hr,((0:Nat),[]),⟨rfl,rfl⟩,⟨Nat.zero_le _,rfl,Nat.zero_le _,rfl⟩,fun(y:Nat×List ByteArray) hy=> ?_⟩
    obtain⟨k,o⟩:=y
    obtain⟨y1,y2,y3,y4⟩:=hy
    dsimp only at y1 y2 y3 y4⊢
    refine⟨fun h4=> ?_,fun h4=> ?_⟩
    ·obtain⟨h5,h6⟩:k<(J4 M tk O).length∧k<256:=by
      cases c1:decide ((k:Int)<((J4 M tk O).length:Int)) with
      |false=>rw[c1] at h4;cases h4
      |true=>
       rw[c1,cond_true] at h4
       have:=of_decide_eq_true c1
       have:=of_decide_eq_true h4
       omega
     have hg:=hG _ (Je (d:=(Jb,0)) h5)
     rw[Jq (d:=((Jb,0):Gap)) h5,Hz,decide_eq_true (by omega),cond_true] at y4
     have ht:=Ja1 (n:=((J4 M tk O).getD k (Jb,0)).2) (by omega) (by omega)
     exact⟨⟨by omega,by omega,by omega,by omega,ht.1,ht.2,by omega⟩,by omega,(k+1,o++[((J4 M tk O).getD k (Jb,0)).1,Ux ((J4 M tk O).getD k (Jb,0)).2]),⟨by push_cast;rfl,rfl⟩,⟨h5,by rw[List.length_append];dsimp only[List.length_cons,List.length_nil];omega,h6,y4⟩,by dsimp only;omega⟩
    ·have y5:Hz ((J4 M tk O).drop k) o=o:=by
      by_cases c1:k<(J4 M tk O).length
      ·rw[decide_eq_true (by omega),cond_true] at h4
       have:=of_decide_eq_false h4
       exact Jia (by omega)
      ·rw[List.drop_eq_nil_of_le (by omega)];rfl
     rw[y5] at y4
     rw[y4]
     exact⟨hsm,rfl,rfl⟩
   ·rw[Jgg] at eA
    simp only[Zw,q1,z2,reduceCtorEq,false_implies,true_and,and_true,forall_const]
    obtain⟨n1,n2⟩:=Fe eA
    refine⟨⟨fun _=>by omega,fun h=> ?_,fun h=> ?_⟩,n1,fun h=> ?_⟩
    ·have:=bne_eq_false_iff_eq.1 h;omega
    ·have:=bne_eq_false_iff_eq.1 h;omega
    obtain⟨e2,eR⟩:=n2 h
    rw[eR]
    have nX:X.length≤16:=hr.nX
    have hsm:=Jux hr hn Jb
    have hox:(Jb,Jb,((0:Int),(0:Int)),(0:Int))=Fi:=rfl
    have hz:∀k,((X.take k).filter fun x=>Ki x.2.2.1 tk).length≤16:=fun k=>Nat.le_trans (List.length_filter_le _ _) (by rw[List.length_take];omega)
    simp only[List.length_map,hox,Prod.eta]
    refine⟨by omega,(0:Nat),⟨rfl,rfl⟩,Nat.zero_le _,fun(k:Nat) hk=>⟨fun h4=> ?_,fun h4=> ?_⟩⟩
    ·have h5:k<X.length:=by simpa using h4
     have z:=hz k
     refine⟨by omega,fun h6=>⟨by omega,by omega,(k+1:Nat),⟨by push_cast;rfl, ?_⟩,h5,by omega⟩,fun h6=>⟨by omega,(k+1:Nat),⟨by push_cast;rfl, ?_⟩,h5,by omega⟩⟩
     ·rw[←Km (d:=Fi) h5,List.filter_append,show[X.getD k Fi].filter (fun x=>Ki x.2.2.1 tk)=[X.getD k Fi] from List.filter_cons_of_pos (p:=fun x:Out=>Ki x.2.2.1 tk) h6,List.map_append];rfl
     ·rw[←Km (d:=Fi) h5,List.filter_append,List.filter_cons_of_neg (by rw[h6];simp)];simp
    ·have h5:¬k<X.length:=by simpa using h4
     rw[List.take_of_length_le (by omega)]
     exact⟨hsm,by first|trivial|rfl,by first|trivial|rfl⟩
   ·rw[Jgf] at eA
    simp only[Zw,q2,q3,z3,reduceCtorEq,false_implies,true_and,and_true,forall_const]
    obtain⟨n1,n2⟩:=Fe eA
    refine⟨⟨fun _=>by omega,fun h=> ?_,fun h=> ?_⟩,n1,fun h=> ?_⟩
    ·have:=bne_eq_false_iff_eq.1 h;omega
    ·have:=bne_eq_false_iff_eq.1 h;omega
    obtain⟨e2,eR⟩:=n2 h
    rw[eR]
    have nQ:Q.length≤16:=hr.nQ
    have hsm:=Juw hr hn Jb
    have hox:(Jb,Jb,false)=Jd5:=rfl
    have hz:∀k,(Ha (Q.take k)).length≤16:=fun k=>Nat.le_trans (List.length_filter_le _ _) (by rw[List.length_take];omega)
    simp only[List.length_map,hox]
    refine⟨by omega,(0:Nat),⟨rfl,rfl⟩,Nat.zero_le _,fun(k:Nat) hk=>⟨fun h4=> ?_,fun h4=> ?_⟩⟩
    ·have h5:k<Q.length:=by simpa using h4
     have z:=hz k
     refine⟨by omega,fun h6=>⟨by omega,by omega,(k+1:Nat),⟨by push_cast;rfl, ?_⟩,h5,by omega⟩,fun h6=>⟨by omega,(k+1:Nat),⟨by push_cast;rfl, ?_⟩,h5,by omega⟩⟩
     ·unfold Ha
      rw[←Km (d:=Jd5) h5,List.filter_append,show[Q.getD k Jd5].filter (fun x=>x.2.2)=[Q.getD k Jd5] from List.filter_cons_of_pos (p:=fun x:Per=>x.2.2) h6,List.map_append];rfl
     ·unfold Ha
      rw[←Km (d:=Jd5) h5,List.filter_append,List.filter_cons_of_neg (by rw[h6];simp)];simp
    ·have h5:¬k<Q.length:=by simpa using h4
     rw[List.take_of_length_le (by omega)]
     exact⟨hsm,by first|trivial|rfl,by first|trivial|rfl⟩
   ·rw[Jge] at eA
    simp only[Zw,q4,q5,q6,z4,reduceCtorEq,false_implies,true_and,and_true,forall_const]
    obtain⟨n1,n2⟩:=Fe eA
    refine⟨⟨fun _=>by omega,fun h=> ?_,fun h=> ?_⟩,n1,fun h=> ?_⟩
    ·have:=bne_eq_false_iff_eq.1 h;omega
    ·have:=bne_eq_false_iff_eq.1 h;omega
    obtain⟨e2,eR⟩:=n2 h
    rw[eR]
    have h1:0≤st∧st≤tk:=hr.st
    have h2:0≤tk∧tk≤999999999:=hr.tk
    exact⟨by omega,Ja1 (by omega) (by omega),Jnv hr Jb,rfl,rfl⟩
abbrev Udx:=K8z.add Kx3
theorem Jsb {k:ByteArray} (h:Zc k=true):Uo k=false:=by
 rcases Jai h with h|h|h|h|h|h|h<;>rw[h]<;>kernel_rfl
theorem Jwe {l:List Ev} (h:(Ja l).2.2=0):(Ja l).1.1=l:=by
 have ad:∀{h:J9} {e:Ev},(Ho h e).1=h.1++[e]:=by intro h e;unfold Ho;cases e.2.1.toList==J1.toList<;>rfl
 have go:∀{l:List Ev} {h:J9},(Zm h l).2.2=0→(Zm h l).1.1=h.1++l:=by
  intro l
  induction l with
  |nil=>intro h _;exact(List.append_nil _).symm
  | cons e l ih =>
   intro h h0
   by_cases ha:K3 h e=0
   ·rw[Xz,if_pos ha] at h0⊢
    rw[ih h0,ad,List.append_assoc];rfl
   ·rw[Xz,if_neg ha] at h0;exact absurd h0 ha
 unfold Ja at h⊢
 by_cases q:1000<l.length
 ·rw[if_pos q] at h;exact absurd h (by decide)
 ·rw[if_neg q] at h⊢
  exact go h
def doR (l:List Ev) (s:ByteArray):Ev×Bool×ByteArray×Int:=if(doF (Ja l).1 s).1.1.length=(Ja l).1.1.length then(evz,false,(doF (Ja l).1 s).2) else(evD (Ja l).1 (doW s),true,(doF (Ja l).1 s).2)
def Kzd:Con:={args:=[.val false (.list 67 sEv),aS],ress:=[(true,sEv),Bo,tS,I],owns:=[],pre:=fun(l,s,_)=>[lOk l,(Ja l).2.2=0,Zk (Ja l).1,s.size≤1000000],spec:=fun(l,s,_)=>((doR l s).1,(doR l s).2.1,(doR l s).2.2.1,(doR l s).2.2.2,())}
theorem Kib (h:J9) (s:ByteArray):(doF h s).1=h∨(do1 s=0∧Zc ((doW s).getD 0 Jb)=false∧Uo ((doW s).getD 0 Jb)=true∧do2 h (doW s)=0∧K3 h (evD h (doW s))=0∧doF h s=(Ho h (evD h (doW s)),Jwu ((h.1.length:Int)+1),0)):=by
 unfold doF
 by_cases c1:do1 s≠0
 ·rw[if_pos c1];exact .inl rfl
 rw[if_neg c1]
 cases c2:Zc ((doW s).getD 0 Jb) with
 |true=>rw[if_pos rfl];exact .inl rfl
 | false =>
  rw[if_neg (by simp)]
  cases c3:Uo ((doW s).getD 0 Jb) with
  |false=>rw[if_pos rfl];exact .inl rfl
  |true=>
   rw[if_neg (by simp)]
   by_cases c4:do2 h (doW s)≠0
   ·rw[if_pos c4];exact .inl rfl
   rw[if_neg c4]
   by_cases c5:K3 h (evD h (doW s))≠0
   ·rw[if_pos c5];exact .inl rfl
   rw[if_neg c5]
   exact .inr ⟨Decidable.of_not_not c1,rfl,rfl,Decidable.of_not_not c4,Decidable.of_not_not c5,rfl⟩
theorem Kia {l:List Ev} {s:ByteArray} (h:(doF (Ja l).1 s).1=(Ja l).1):doR l s=(evz,false,(doF (Ja l).1 s).2):=by
 unfold doR
 rw[if_pos (by rw[h])]
theorem J7s {l:List Ev} {s:ByteArray} {e:Ev} (h:(doF (Ja l).1 s).1=Ho (Ja l).1 e):doR l s=(evD (Ja l).1 (doW s),true,(doF (Ja l).1 s).2):=by
 unfold doR
 rw[if_neg (by rw[h,Xy];omega)]
theorem J9e {l:List Ev} {e:Ev} (h0:(Ja l).2.2=0) (hl:l.length<1000):Jts l e=K3 (Ja l).1 e:=by
 have a0:Jzu l e=Jd e:=by
  unfold Jzu
  rw[h0,decide_eq_false (by omega)]
  by_cases c:Jd e=0
  ·rw[c];rfl
  ·unfold Jg Jg;rw[if_pos rfl,if_neg c]
 unfold Jts K3
 rw[a0]
 by_cases c:Jd e=0
 ·rw[if_pos c,if_neg (by rw[c];simp)]
 ·rw[if_neg c,if_pos c]
def Kf7 (a:List Ev) (b:Bt):=Di=(doR a b).1
def Kq3 (a:List Ev) (b:Bt):=(Z5 a,(U9 b).1.2.1,(U9 b).1.2.2.1,E2 (U9 b).1.2.2.2)
def K3y (a:List Ev) (b:Bt):=Jts a (Kq3 a b)
def K20 (a:List Ev) (b:Bt):=J5n (Jzz a) b
def K2r (a:List Ev) (b:Bt):=Kf7 a b∧false=(doR a b).2.1∧B0=(doR a b).2.2.1∧25=(doR a b).2.2.2
theorem Uck:Ok Tryz.prog 39 Kzd:=okW Udx Tryz.f39 na fun xx=>by
 obtain⟨(l:List Ev),(s:ByteArray),_⟩:=xx
 refine(by kernel_rfl:(lOk l→(Ja l).2.2=0→Zk (Ja l).1→ByteArray.size s≤1000000→Br (decide (4096<Nc (ByteArray.size s))) (Kf7 l s∧false=(doR l s).2.1∧B0=(doR l s).2.2.1∧26=(doR l s).2.2.2) (Br (Lb s B0) (K2r l s) (lOk l∧(ByteArray.size s≤1000000∧(0:Int)≤32∧(32:Int)<256∧J51 s)∧Br (!(Yu (Jq7 s)).2.2) ((Jzy l∧NmR (Jzz l)∧ByteArray.size s≤4096)∧Kf7 l s∧false=(doR l s).2.1∧(K20 l s).1=(doR l s).2.2.1∧(K20 l s).2=(doR l s).2.2.2) (ByteArray.size s≤1000000∧Br (!(U9 s).2) (K2r l s) (Br (decide (1000≤Ln l)) (Kf7 l s∧false=(doR l s).2.1∧B0=(doR l s).2.2.1∧5=(doR l s).2.2.2) (Z76 l∧(lOk l∧Jbn (Kq3 l s))∧Br (K3y l s !=0) (Kf7 l s∧false=(doR l s).2.1∧B0=(doR l s).2.2.1∧K3y l s=(doR l s).2.2.2) ((Jmz<Z5 l∧Z5 l<Jm0∧Nc (5+ByteArray.size (Vd (Z5 l)))≤9223372036854775807)∧Kq3 l s=(doR l s).1∧true=(doR l s).2.1∧ByteArray.mk (Array.mk (100::111::110::101::32::([]++(Vd (Z5 l)).data.toList)))=(doR l s).2.2.1∧0=(doR l s).2.2.2)))))))=_).mp ?_
 delta Z5 Z76 Jyk Di Jq7 J51 Kf7 Jm0 Jmz Kq3 K3y Jzz Jzy K20 K2r Br Iw Bd Tw Ln Nc B0 Lb E2
 intro hl h0 hN hs
 have hbn:({data:={toList:=[]}}:ByteArray)=Jb:=rfl
 have hz:((0:Int),Jb,([]:List ByteArray),([]:List Int),Jb)=evz:=rfl
 have hE:(Ja l).1.1=l:=Jwe h0
 have hreg:J7 l=Ko (Ja l).1.2.2:=by unfold J7;rw[if_pos h0]
 have hws:doW s=Jj s 32:=F6 s 32
 have ht:∀n:Int,({data:={toList:=100::111::110::101::32::([]++(Vd n).data.toList)}}:ByteArray)=Jwu n:=fun _=>rfl
 simp only[hbn,hz,ht,Prod.eta]
 have no:∀(v:ByteArray×Int),doF (Ja l).1 s=((Ja l).1,v)→evz=(doR l s).1∧false=(doR l s).2.1∧v.1=(doR l s).2.2.1∧v.2=(doR l s).2.2.2:=fun v hv=>by
  rw[Kia (by rw[hv]),hv];exact⟨rfl,rfl,rfl,rfl⟩
 have n1:∀v,do1 s=v→v≠0→evz=(doR l s).1∧false=(doR l s).2.1∧Jb=(doR l s).2.2.1∧v=(doR l s).2.2.2:=fun v hv h=>no (Jb,v) (by unfold doF;rw[if_pos (by rw[hv];exact h),hv])
 refine⟨fun c1=>n1 26 (by unfold do1;rw[c1];rfl) (by decide),fun c1=>⟨fun c2=>n1 25 (by unfold do1;rw[c1,c2];rfl) (by decide),fun c2=> ?_⟩⟩
 have d0:¬do1 s≠0:=fun h=>h (by unfold do1;rw[c1,c2];rfl)
 have h4:s.size≤4096:=by have:=of_decide_eq_false c1;omega
 obtain⟨w1,w2,w3⟩:=J5a hs h4
 rw[hws] at w1 w2 w3
 refine⟨hl,⟨hs,by decide,by decide,by omega,by omega,by omega⟩,fun c3=> ?_,fun c3=> ?_⟩
 ·have hk:Uo ((Jj s 32).getD 0 Jb)=false:=by
   cases q:Uo ((Jj s 32).getD 0 Jb) with
   |false=>rfl
   |true=>rw[(Dy q).1] at c3;cases c3
  refine⟨⟨Jcd,hreg▸J40 hN,h4⟩,no (J5n (J7 l) s) ?_⟩
  unfold doF J5n
  rw[if_neg d0,hws]
  cases q:Zc ((Jj s 32).getD 0 Jb) with
  |true=>rw[if_pos rfl,if_pos rfl,hreg]
  |false=>rw[if_neg (show ¬(false=true) by simp),if_pos hk,if_neg (show ¬(false=true) by simp)]
 have hk:Uo ((Jj s 32).getD 0 Jb)=true:=by
  cases q:Uo ((Jj s 32).getD 0 Jb) with
  |true=>rfl
  |false=>rw[Jj7 q] at c3;cases c3
 have hq:¬Zc ((Jj s 32).getD 0 Jb)=true:=fun q=>by rw[Jsb q] at hk;cases hk
 have hk':¬Uo ((Jj s 32).getD 0 Jb)=false:=by rw[hk];simp
 have eP:U9 s=bif (Um (Jj s 32)).2 then Um (Jj s 32) else(evz,false):=rfl
 have n2:∀v,do2 (Ja l).1 (Jj s 32)=v→v≠0→evz=(doR l s).1∧false=(doR l s).2.1∧Jb=(doR l s).2.2.1∧v=(doR l s).2.2.2:=fun v hv h=>no (Jb,v) (by unfold doF;rw[if_neg d0,hws,if_neg hq,if_neg hk',if_pos (by rw[hv];exact h),hv])
 refine⟨hs,fun c4=>n2 25 ?_ (by decide),fun c4=> ?_⟩
 ·cases q:(Um (Jj s 32)).2 with
  |false=>unfold do2;rw[q];rfl
  |true=>rw[eP,q,cond_true,q] at c4;cases c4
 have hr:(Um (Jj s 32)).2=true:=by
  cases q:(Um (Jj s 32)).2 with
  |true=>rfl
  |false=>rw[eP,q] at c4;cases c4
 have eP:U9 s=Um (Jj s 32):=by rw[eP,hr];rfl
 rw[eP]
 refine⟨fun c5=>n2 5 (by unfold do2;rw[hr,hE,c5];rfl) (by decide),fun c5=> ?_⟩
 have h5:l.length<1000:=by have:=of_decide_eq_false c5;omega
 have d2:¬do2 (Ja l).1 (Jj s 32)≠0:=fun h=>h (by unfold do2;rw[hr,hE,c5];rfl)
 have eE:((l.length:Int)+1,(Um (Jj s 32)).1.2)=evD (Ja l).1 (Jj s 32):=by unfold evD;rw[hE]
 rw[eE,J9e h0 h5]
 have hsz:=Jd3 w3
 refine⟨by omega,⟨hl,Nat.le_trans hsz.1 (by decide),Nat.le_trans hsz.2.1 (by decide),hsz.2.2⟩,fun c6=> ?_,fun c6=> ?_⟩
 ·exact no (Jb,K3 (Ja l).1 (evD (Ja l).1 (Jj s 32))) (by unfold doF;rw[if_neg d0,hws,if_neg hq,if_neg hk',if_neg d2,if_pos (bne_iff_ne.1 c6)])
 ·have h6:¬K3 (Ja l).1 (evD (Ja l).1 (Jj s 32))≠0:=fun h=>h (bne_eq_false_iff_eq.1 c6)
  have hF:doF (Ja l).1 s=(Ho (Ja l).1 (evD (Ja l).1 (Jj s 32)),Jwu ((l.length:Int)+1),0):=by unfold doF;rw[if_neg d0,hws,if_neg hq,if_neg hk',if_neg d2,if_neg h6,hE]
  have hts:=F9 ((l.length:Int)+1) (by omega) (by omega)
  rw[J7s (e:=evD (Ja l).1 (Jj s 32)) (by rw[hF]),hF,hws]
  exact⟨⟨by omega,by omega,by omega⟩,rfl,rfl,rfl,rfl⟩
theorem Jp0:∀(f:Nat) (l:List UInt8) (a:Int) (o:List Ev),(∀e∈o,Jd e=0)→∀e∈(Jlp f l a o).1,Jd e=0
 |0,_,_,_,h=>h
 | f + 1, l, a, o, h => by
  unfold Jlp
  split
  ·exact h
  split
  ·exact h
  split
  ·exact h
  ·rename_i q
   have hn:=Jbo (Decidable.of_not_not q)
   exact Jp0 f _ _ _ fun e he=>(List.mem_append.1 he).elim (h e) fun he=>by rw[List.mem_singleton.1 he];exact hn.1
theorem Jn8 (s:ByteArray):∀e∈(Jc s).1,Jd e=0:=by
 unfold Jc
 split
 ·intro e he;cases he
 ·exact Jp0 _ _ _ _ fun e he=>nomatch he
end Go.Proofs.YtcibbcfiemeoiaaGreatDoor

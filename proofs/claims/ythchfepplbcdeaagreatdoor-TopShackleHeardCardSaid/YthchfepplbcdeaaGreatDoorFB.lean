/- Contracts of the functions that the law reaches: part of the proof. -/
import Derived.Test.YthchfepplbcdeaaGreatDoorFA
import Derived.Lib.ItoaLen
set_option linter.unusedSimpArgs false
set_option linter.unusedVariables false
set_option maxRecDepth 20000
namespace Go.Proofs.YthchfepplbcdeaaGreatDoor
open Go.Sx
set_option maxHeartbeats 20000000
abbrev Key:Type:=Int×ByteArray
def Jk2 (n:Int) (k:Key) (w:Stp):Prop:=(w.2.1=0∨w.2.1=n)∧w.1=k.1∧Jrj w=k.2
instance (n:Int) (k:Key) (w:Stp):Decidable (Jk2 n k w):=inferInstanceAs (Decidable ((w.2.1=0∨w.2.1=n)∧w.1=k.1∧Jrj w=k.2))
def Hl (n:Int) (k:Key):List Stp→Int
 |[]=>0
 |w::r=>(if Jk2 n k w then w.2.2.2.2 else 0)+Hl n k r
def D2 (n:Int) (k:Key) (l:List Stp):Prop:=∃w∈l,Jk2 n k w
theorem Zt (n:Int) (k:Key) (l r:List Stp):Hl n k (l++r)=Hl n k l+Hl n k r:=by
 induction l with
 |nil=>simp[Hl]
 |cons w l ih=>simp only[List.cons_append,Hl,ih];omega
theorem Jp5 (n:Int) (k:Key) (w:Stp):Hl n k [w]=if Jk2 n k w then w.2.2.2.2 else 0:=by simp[Hl]
theorem Jl9 {n:Int} {k:Key} {l r:List Stp} (h:l.Perm r):Hl n k l=Hl n k r:=by
 induction h with
 |nil=>rfl
 |cons x _ ih=>simp only[Hl,ih]
 |swap x y l=>simp only[Hl];omega
 |trans _ _ h1 h2=>rw[h1,h2]
theorem Jnu {n:Int} {k:Key} {l r:List Stp} (h:l.Perm r):D2 n k l↔D2 n k r:=
 ⟨fun⟨w,hw,hk⟩=>⟨w,h.mem_iff.1 hw,hk⟩,fun⟨w,hw,hk⟩=>⟨w,h.mem_iff.2 hw,hk⟩⟩
theorem Yk {n:Int} {k:Key}:∀{l:List Stp},¬D2 n k l→Hl n k l=0
 |[],_=>rfl
 |w::r,h=>by
  simp only[Hl]
  rw[if_neg fun q=>h ⟨w,by simp,q⟩,Yk fun⟨x,hx,hk⟩=>h ⟨x,by simp[hx],hk⟩];rfl
theorem Jnt {n:Int} {k:Key} {l:List Stp} {w:Stp}:D2 n k (l++[w])↔D2 n k l∨Jk2 n k w:=by
 constructor
 ·rintro⟨x,hx,hk⟩
  rcases List.mem_append.1 hx with hx|hx
  ·exact .inl ⟨x,hx,hk⟩
  ·rw[List.mem_singleton.1 hx] at hk;exact .inr hk
 ·rintro(⟨x,hx,hk⟩|hk)
  ·exact⟨x,by simp[hx],hk⟩
  ·exact⟨w,by simp,hk⟩
theorem Jqe {α:Type} {Q:List α→Prop} (h0:Q []) (h1:∀l x,Q l→Q (l++[x])) (l:List α):Q l:=by
 have:∀r:List α,Q r.reverse:=fun r=>by
  induction r with
  |nil=>exact h0
  |cons x r ih=>rw[List.reverse_cons];exact h1 _ _ ih
 simpa using this l.reverse
theorem Jfq {k k':Arr} (hk:k≠k') (u:Int):∀m:AM,Jv K9 k' (Kj K9 k u m)=Jv K9 k' m
 |[]=>by
  simp only[Kj,Jv]
  rw[if_neg fun h=>hk (Y2.1 h).symm]
 | x :: r => by
  simp only[Kj]
  split
  ·rename_i h
   have e:=Y2.1 h
   simp only[Jv]
   rw[if_neg fun h=>hk (Y2.1 h).symm,if_neg fun h=>hk (by rw[e];exact(Y2.1 h).symm)]
  ·rename_i h
   simp only[Jv]
   rw[Jfq hk u r]
theorem Jl7 (c:Cab) (l:List Stp):∀(k:Arr) (v:Int),k.2.2=0→(Jv K9 k (Kq c l)=some v↔D2 c.1.length (k.1,k.2.1) l∧v=Hl c.1.length (k.1,k.2.1) l):=by
 refine Jqe (Q:=fun l=>∀(k:Arr) (v:Int),k.2.2=0→(Jv K9 k (Kq c l)=some v↔D2 c.1.length (k.1,k.2.1) l∧v=Hl c.1.length (k.1,k.2.1) l)) ?_ ?_ l
 ·intro k v _
  exact⟨fun h=>by simp[Kq,Jv] at h,fun⟨⟨w,hw,_⟩,_⟩=>by simp at hw⟩
 ·intro l w ih k v hk
  rw[X1,Jnt,Zt,Jp5]
  have key:∀e:ByteArray,Jrj w=e→(w.2.1=0∨w.2.1=c.1.length)→Jk1 c (Kq c l) w=Jtz (Kq c l) (w.1,e,0) w.2.2.2.2→(Jv K9 k (Jk1 c (Kq c l) w)=some v↔(D2 c.1.length (k.1,k.2.1) l∨Jk2 c.1.length (k.1,k.2.1) w)∧v=Hl c.1.length (k.1,k.2.1) l+if Jk2 c.1.length (k.1,k.2.1) w then w.2.2.2.2 else 0):=by
   intro e he hh hm
   rw[hm]
   unfold Jtz
   by_cases hq:Jk2 c.1.length (k.1,k.2.1) w
   ·have ek:(w.1,e,0)=k:=by
     obtain⟨_,h1,h2⟩:=hq
     exact Prod.ext h1 (Prod.ext (he.symm.trans h2) hk.symm)
    rw[ek,L4,if_pos hq]
    cases hg:Jv K9 k (Kq c l) with
    | none =>
     have:¬D2 c.1.length (k.1,k.2.1) l:=fun q=>by
      have:=(ih k _ hk).2 ⟨q,rfl⟩
      rw[hg] at this;cases this
     rw[Yk this]
     simp only[Option.getD_none,Option.some.injEq]
     exact⟨fun h=>⟨.inr hq,h.symm⟩,fun h=>h.2.symm⟩
    |some u=>
     have:=(ih k u hk).1 hg
     rw[←this.2]
     simp only[Option.getD_some,Option.some.injEq]
     exact⟨fun h=>⟨.inr hq,h.symm⟩,fun h=>h.2.symm⟩
   ·rw[Jfq (fun q=>hq ⟨hh,by rw[←q],by rw[←q];exact he⟩),if_neg hq,ih k v hk,Int.add_zero]
    exact⟨fun h=>⟨.inl h.1,h.2⟩,fun h=>⟨h.1.resolve_right hq,h.2⟩⟩
  by_cases h0:w.2.1=0
  ·exact key sA (by unfold Jrj;rw[if_pos h0]) (.inl h0) (by unfold Jk1;rw[if_pos h0])
  ·by_cases h1:w.2.1=c.1.length
   ·exact key sB (by unfold Jrj;rw[if_neg h0]) (.inr h1) (by unfold Jk1;rw[if_neg h0,if_pos h1])
   ·have hq:¬Jk2 c.1.length (k.1,k.2.1) w:=fun q=>q.1.elim h0 h1
    rw[if_neg hq,Int.add_zero]
    unfold Jk1
    rw[if_neg h0,if_neg h1,ih k v hk]
    exact⟨fun h=>⟨.inl h.1,h.2⟩,fun h=>⟨h.1.resolve_right hq,h.2⟩⟩
theorem Jce {k:Arr} {v:Int}:∀{m:AM},(m.Pairwise fun a b=>a.1≠b.1)→(k,v)∈m→Jv K9 k m=some v
 |[],_,h=>by simp at h
 | x :: r, hp, h => by
  replace hp:=List.pairwise_cons.1 hp
  simp only[Jv]
  rcases List.mem_cons.1 h with h|h
  ·subst h;rw[if_pos (Jam _)]
  ·rw[if_neg fun q=>hp.1 _ h (Y2.1 q).symm]
   exact Jce hp.2 h
theorem Jl5 {c:Cab} {l:List Stp} (h:∀w∈l,wvH c w) (a:Arr):a∈(Kq c l).map Jms↔D2 c.1.length (a.1,a.2.1) l∧a.2.2=Hl c.1.length (a.1,a.2.1) l:=by
 have ho:=Fg h
 rw[←Jl7 c l (a.1,a.2.1,0) a.2.2 rfl]
 constructor
 ·intro hm
  obtain⟨p,hp,rfl⟩:=List.mem_map.1 hm
  have h0:=ho.2.2.2 p hp
  have:(Jms p).1=p.1.1∧(Jms p).2.1=p.1.2.1∧(Jms p).2.2=p.2:=⟨rfl,rfl,rfl⟩
  rw[this.1,this.2.1,this.2.2]
  have e:(p.1.1,p.1.2.1,(0:Int))=p.1:=Prod.ext rfl (Prod.ext rfl h0.symm)
  rw[e]
  exact Jce ho.2.2.1 hp
 ·intro hg
  exact List.mem_map.2 ⟨_,L5 hg,rfl⟩
theorem Jbk {c:Cab} {f:Flt} {win:Int} (h:Yw c f):Jqc (Va c f win):=U7 (Jmr (Fg fun w hw=>((Ft h).1 w hw).1))
theorem Le {c:Cab} {f:Flt} {win:Int} (h:Yw c f) (a:Arr):a∈Va c f win↔D2 c.1.length (a.1,a.2.1) (Kr c f win)∧a.2.2=Hl c.1.length (a.1,a.2.1) (Kr c f win):=by
 rw[←Jl5 fun w hw=>((Ft h).1 w hw).1]
 exact(U2 _).mem_iff
def tree (c:Cab) (last:Int):Nat→Stp→List Stp
 |0,_=>[]
 |n+1,w=>if last<w.1 then[] else w::(Js c w).flatMap (tree c last n)
theorem Jgh {c:Cab} {w x:Stp} (h:x∈Js c w):x.2.2.2.1=w.2.2.2.1+1∧w.2.2.2.1≠6:=by
 unfold Js at h
 split at h
 ·simp at h
 ·rename_i h6
  refine⟨?_,h6⟩
  split at h
  ·exact Ho h
  ·split at h
   ·exact Ho h
   ·rcases List.mem_append.1 h with h|h
    ·exact Ho h
    ·exact Ho h
theorem Zk {α β:Type} {l:List α} {f g:α→List β} (h:∀x∈l,f x=g x):l.flatMap f=l.flatMap g:=by
 induction l with
 |nil=>rfl
 |cons x l ih=>rw[List.flatMap_cons,List.flatMap_cons,h x (by simp),ih fun y hy=>h y (by simp[hy])]
theorem Jet {c:Cab} {last:Int}:∀{n m:Nat} {w:Stp},(0≤w.2.2.2.1∧w.2.2.2.1≤6)→(7:Int)≤n+w.2.2.2.1→(7:Int)≤m+w.2.2.2.1→tree c last n w=tree c last m w
 |0,_,_,h,h1,_=>by omega
 |_+1,0,_,h,_,h2=>by omega
 | n + 1, m + 1, w, h, h1, h2 => by
  simp only[tree]
  split
  ·rfl
  ·refine congrArg _ (Zk fun x hx=> ?_)
   have:=Jgh hx
   exact Jet (by omega) (by omega) (by omega)
theorem Jeg {c:Cab} {last:Int} (hv:Yb c):∀{n:Nat} {l:List Stp},(∀w∈l,wvH c w)→wtL l≤n→(bfs c last n l).Perm (l.flatMap (tree c last 7))
 |0,[],_,_=>by simp[bfs]
 |0,w::r,_,h=>by have:=Zd w;simp only[wtL] at h;omega
 |n+1,[],_,_=>by simp[bfs]
 | n + 1, w :: r, hl, h1 => by
  have hp:=Zd w
  have hw:=hl w (by simp)
  have hc:=H9 (c:=c) hw.1
  simp only[wtL] at h1
  simp only[bfs,List.flatMap_cons]
  have e:tree c last 7 w=if last<w.1 then[] else w::(Js c w).flatMap (tree c last 6):=rfl
  rw[e]
  split
  ·exact Jeg hv (fun x hx=>hl x (by simp[hx])) (by omega)
  ·have ih:=Jeg (last:=last) hv (l:=r++Js c w) (n:=n) (fun x hx=>Jrw hv hl x hx) (by rw[K3];omega)
   rw[List.flatMap_append] at ih
   have e2:(Js c w).flatMap (tree c last 7)=(Js c w).flatMap (tree c last 6):=Zk fun x hx=>by
    have h3:=Jgh hx
    have h4:=(Dj hv hw hx).1
    have:=hw.1
    exact Jet h4 (by omega) (by omega)
   rw[e2] at ih
   exact(ih.trans List.perm_append_comm).cons w
theorem X0 {c:Cab} {f:Flt} {win:Int} (h:Yw c f):(Kr c f win).Perm ((Jax c f).flatMap (tree c (f.2.2.1+win) 7)):=Jeg h.1 (Jaw h) (Nat.le_refl _)
theorem Jc4 {c:Cab} {last:Int}:∀(n:Nat) (w:Stp),(tree c last n w).length+1≤2^n
 |0,_=>by simp[tree]
 | n + 1, w => by
  simp only[tree]
  have hp:0<2^n:=Nat.pow_pos (by omega)
  rw[Nat.pow_succ]
  split
  ·simp;omega
  ·have key:∀l:List Stp,(l.flatMap (tree c last n)).length+l.length≤l.length*2^n:=by
    intro l
    induction l with
    |nil=>simp
    |cons x l ih=>
     have:=Jc4 (c:=c) (last:=last) n x
     rw[List.flatMap_cons,List.length_append,List.length_cons,Nat.add_mul,Nat.one_mul];omega
   have h1:=key (Js c w)
   have h2:=Jgg c w
   have h3:(Js c w).length*2^n≤(Js c w).length*2^n+(2-(Js c w).length)*(2^n-1):=Nat.le_add_right _ _
   simp only[List.length_cons]
   have:(Js c w).length=0∨(Js c w).length=1∨(Js c w).length=2:=by omega
   rcases this with e|e|e<;>rw[e] at h1<;>omega
theorem Jer {c:Cab} {f:Flt} {win:Int} (h:Yw c f):(Kr c f win).length≤254:=by
 rw[(X0 h).length_eq]
 simp only[Jax,List.flatMap_cons,List.flatMap_nil,List.append_nil,List.length_append]
 have h1:=Jc4 (c:=c) (last:=f.2.2.1+win) 7 (f.2.2.1+f.2.1,f.1,false,0,f.2.2.2*262144)
 have h2:=Jc4 (c:=c) (last:=f.2.2.1+win) 7 (f.2.2.1+((c.1.getD f.1.toNat (0,0)).2-f.2.1),f.1+1,true,0,f.2.2.2*262144)
 omega
theorem Jl6 (c:Cab) (l:List Stp) (h:∀w∈l,wvH c w):(Kq c l).length≤l.length:=(Fg h).1
theorem Jjy {c:Cab} {f:Flt} {win:Int} (h:Yw c f):(Va c f win).length≤254:=by
 unfold Va
 rw[(U2 _).length_eq,List.length_map]
 have:=Jl6 c (Kr c f win) fun w hw=>((Ft h).1 w hw).1
 have:=Jer (win:=win) h
 omega
def sg (d:Bool):Int:=bif d then 1 else -1
def Vg (c:Cab) (b:Int):Int:=(Ks (c.1.take b.toNat)).2
theorem V8 {c:Cab} {b:Int} (h0:0≤b) (h1:b<c.1.length):Vg c (b+1)=Vg c b+(c.1.getD b.toNat (0,0)).2:=by
 unfold Vg
 rw[show(b+1).toNat=b.toNat+1 by omega,Fx (by omega)]
theorem Hv (c:Cab):Vg c 0=0:=rfl
theorem Fk (c:Cab):Vg c c.1.length=(Ks c.1).2:=by
 unfold Vg
 rw[Int.toNat_natCast,List.take_length]
theorem Hn {c:Cab} {w x:Stp} {r:Bool} {k:Int} (hv:Yb c) (h:x∈Kv c w r k):(x.2.2.1=r∧x.2.1=w.2.1+sg r∧x.2.2.2.2=hgt w k∧hgt w k≠0)∧(0≤x.2.1∧x.2.1≤c.1.length)∧∃δ,(1≤δ∧δ≤64)∧x.1=w.1+δ∧Vg c x.2.1=Vg c w.2.1+sg r*δ:=by
 unfold Kv at h
 split at h
 ·simp at h
 rename_i hn
 simp only[List.mem_singleton] at h
 have b:=hv.2.2.1 _ (Jj (d:=(0,0)) (l:=c.1) (k:=(Ud w r).2.toNat) (by omega))
 subst h
 unfold Ud at hn b⊢
 cases r
 ·simp only[cond_false] at hn b⊢
  refine⟨⟨trivial,by unfold sg;simp only[cond_false];omega,trivial,fun e=>hn (.inl e)⟩,by omega,_,⟨b.2.2.1,b.2.2.2⟩,rfl, ?_⟩
  have:=V8 (c:=c) (b:=w.2.1-1) (by omega) (by omega)
  rw[show w.2.1-1+1=w.2.1 by omega] at this
  unfold sg;simp only[cond_false];omega
 ·simp only[cond_true] at hn b⊢
  refine⟨⟨trivial,by unfold sg;simp only[cond_true],trivial,fun e=>hn (.inl e)⟩,by omega,_,⟨b.2.2.1,b.2.2.2⟩,rfl, ?_⟩
  have:=V8 (c:=c) (b:=w.2.1) (by omega) (by omega)
  unfold sg;simp only[cond_true];omega
theorem Jcr {c:Cab} {w x:Stp} (h:x∈Js c w):∃r k,x∈Kv c w r k:=by
 unfold Js at h
 split at h
 ·simp at h
 ·split at h
  ·exact⟨_,_,h⟩
  ·split at h
   ·exact⟨_,_,h⟩
   ·rcases List.mem_append.1 h with h|h
    ·exact⟨_,_,h⟩
    ·exact⟨_,_,h⟩
def slk (T p:Int) (c:Cab) (d:Bool) (w:Stp):Int:=w.1-T-sg d*(Vg c w.2.1-p)
theorem Fh {T p:Int} {c:Cab} {w x:Stp} {d r:Bool} {k:Int} (hv:Yb c) (h:x∈Kv c w r k):slk T p c d w≤slk T p c d x∧(r=d→slk T p c d x=slk T p c d w)∧(r≠d→slk T p c d w<slk T p c d x):=by
 obtain⟨_,_,δ,hd,e1,e2⟩:=Hn hv h
 unfold slk
 rw[e1,e2]
 generalize Vg c w.2.1=q
 cases d<;>cases r<;>simp only[sg,cond_true,cond_false,ne_eq,not_true_eq_false,not_false_eq_true,reduceCtorEq,forall_const,false_implies,and_true,true_and]<;>omega
theorem Jof {T p:Int} {c:Cab} {w x:Stp} {d:Bool} (hv:Yb c) (h:x∈Js c w):slk T p c d w≤slk T p c d x:=by
 obtain⟨r,k,h⟩:=Jcr h
 exact(Fh hv h).1
theorem Jc3 {T p:Int} {c:Cab} {last:Int} {d:Bool} (hv:Yb c):∀{n:Nat} {w x:Stp},x∈tree c last n w→slk T p c d w≤slk T p c d x
 |0,_,_,h=>by simp[tree] at h
 | n + 1, w, x, h => by
  simp only[tree] at h
  split at h
  ·simp at h
  ·rcases List.mem_cons.1 h with rfl|h
   ·omega
   ·obtain⟨y,hy,h⟩:=List.mem_flatMap.1 h
    have h1:=Jof (T:=T) (p:=p) (d:=d) hv hy
    have h2:=Jc3 (T:=T) (p:=p) (d:=d) hv h
    omega
def Jbo (c:Cab) (d:Bool):Int:=bif d then c.1.length else 0
def Yi (d:Bool):ByteArray:=bif d then sB else sA
def Vt (T p:Int) (c:Cab) (d:Bool):Int:=T+sg d*(Vg c (Jbo c d)-p)
theorem sAB:sA≠sB:=by
 intro h
 have:=congrArg (fun x=>x.data.toList) h
 revert this;decide
theorem Jhp {c:Cab} {d:Bool} {t:Int} {x:Stp} (hv:Yb c) (h:Jk2 c.1.length (t,Yi d) x):x.2.1=Jbo c d∧x.1=t:=by
 obtain⟨h1,h2,h3⟩:=h
 refine⟨?_,h2⟩
 have hn:=hv.1
 unfold Jrj at h3
 unfold Yi at h3
 unfold Jbo
 cases d
 ·simp only[cond_false] at h3⊢
  by_cases e:x.2.1=0
  ·exact e
  ·rw[if_neg e] at h3;exact absurd h3.symm sAB
 ·simp only[cond_true] at h3⊢
  by_cases e:x.2.1=0
  ·rw[if_pos e] at h3;exact absurd h3 sAB
  ·exact h1.resolve_left e
theorem Jvj {c:Cab} {d:Bool} {x:Stp} (hv:Yb c) (h:x.2.1=Jbo c d):Jk2 c.1.length (x.1,Yi d) x:=by
 have hn:=hv.1
 refine⟨?_,rfl, ?_⟩
 ·unfold Jbo at h
  cases d
  ·exact .inl h
  ·exact .inr h
 ·unfold Jbo at h;unfold Jrj Yi
  cases d
  ·simp only[cond_false] at h⊢;rw[if_pos h]
  ·simp only[cond_true] at h⊢;rw[if_neg (by omega)]
theorem Jho {T p:Int} {c:Cab} {d:Bool} {x:Stp} (h:x.2.1=Jbo c d):x.1=Vt T p c d+slk T p c d x:=by
 unfold slk Vt;rw[h];omega
theorem H3 {T p:Int} {c:Cab} {d:Bool} {last:Int} {n:Nat} {w:Stp} (hv:Yb c) (h:0<slk T p c d w):¬D2 c.1.length (Vt T p c d,Yi d) (tree c last n w):=by
 rintro⟨x,hx,hk⟩
 obtain⟨h1,h2⟩:=Jhp hv hk
 have h3:=Jc3 (T:=T) (p:=p) (d:=d) hv hx
 have h4:=Jho (T:=T) (p:=p) h1
 omega
def Jbj (c:Cab) (d:Bool):Nat→Int→Int→Int
 |0,_,h=>h
 |m+1,b,h=>Jbj c d m (b+sg d) ((h*(8+sg d*c.2.1.getD (b-1).toNat 0)).tdiv 8)
theorem Jcs (c:Cab) (d:Bool):∀(m:Nat) (b:Int),Jbj c d m b 0=0
 |0,_=>rfl
 |m+1,b=>by simp only[Jbj];rw[Int.zero_mul];exact Jcs c d m _
theorem Jn6 (c:Cab) (w:Stp):Jgr c w=sg w.2.2.1*c.2.1.getD (w.2.1-1).toNat 0:=by
 unfold Jgr sg
 cases w.2.2.1
 ·simp only[cond_false];omega
 ·simp only[cond_true];omega
theorem Jfx {n:Int} {k:Key} {l:List Stp} {w:Stp}:D2 n k (w::l)↔Jk2 n k w∨D2 n k l:=by
 constructor
 ·rintro⟨x,hx,hk⟩
  rcases List.mem_cons.1 hx with rfl|hx
  ·exact .inl hk
  ·exact .inr ⟨x,hx,hk⟩
 ·rintro(hk|⟨x,hx,hk⟩)
  ·exact⟨w,by simp,hk⟩
  ·exact⟨x,by simp[hx],hk⟩
theorem Ja1 {n:Int} {k:Key} {l r:List Stp}:D2 n k (l++r)↔D2 n k l∨D2 n k r:=by
 constructor
 ·rintro⟨x,hx,hk⟩
  rcases List.mem_append.1 hx with hx|hx
  ·exact .inl ⟨x,hx,hk⟩
  ·exact .inr ⟨x,hx,hk⟩
 ·rintro(⟨x,hx,hk⟩|⟨x,hx,hk⟩)
  ·exact⟨x,by simp[hx],hk⟩
  ·exact⟨x,by simp[hx],hk⟩
theorem Jfw {n:Int} {k:Key} {l:List Stp} {g:Stp→List Stp} (h:∀x∈l,¬D2 n k (g x)):¬D2 n k (l.flatMap g):=by
 rintro⟨y,hy,hk⟩
 obtain⟨x,hx,hy⟩:=List.mem_flatMap.1 hy
 exact h x hx ⟨y,hy,hk⟩
theorem Jbd {T p last:Int} {c:Cab} {d:Bool} (hv:Yb c):∀(m n:Nat) (w:Stp),m<n→w.2.2.1=d→w.2.1+sg d*m=Jbo c d→(bif d then 1≤w.2.1 else w.2.1<c.1.length)→(0≤w.2.1∧w.2.1≤c.1.length)→(0≤w.2.2.2.1∧w.2.2.2.1+m≤6)→slk T p c d w=0→Vt T p c d≤last→w.2.2.2.2≠0→
  (D2 c.1.length (Vt T p c d,Yi d) (tree c last n w)↔Jbj c d m w.2.1 w.2.2.2.2≠0)∧Hl c.1.length (Vt T p c d,Yi d) (tree c last n w)=Jbj c d m w.2.1 w.2.2.2.2
 |_,0,_,hn,_,_,_,_,_,_,_,_=>by omega
 | 0, n + 1, w, _, hr, he, hs, hb, hh, h0, hl, hz => by
  have he:w.2.1=Jbo c d:=by
   have:=he
   rw[show((0:Nat):Int)=0 from rfl,Int.mul_zero] at this;omega
  have ht:=Jho (T:=T) (p:=p) he
  rw[h0,Int.add_zero] at ht
  have hit:=Jvj hv he
  rw[ht] at hit
  simp only[tree,Jbj]
  rw[if_neg (by omega)]
  have hno : ¬ D2 c.1.length (Vt T p c d, Yi d) ((Js c w).flatMap (tree c last n)) := by
   refine Jfw fun x hx=>H3 hv ?_
   have hx:∃k,x∈Kv c w (!d) k:=by
    unfold Js at hx
    split at hx
    ·simp at hx
    ·split at hx
     ·rename_i e
      cases d
      ·exact⟨_,hx⟩
      ·exfalso
       have hs:(1:Int)≤w.2.1:=hs
       omega
     ·rename_i e
      split at hx
      ·rename_i e2
       cases d
       ·exfalso;exact e he
       ·exact⟨_,hx⟩
      ·rename_i e2
       exfalso
       cases d
       ·exact e he
       ·exact e2 he
   obtain⟨k,hx⟩:=hx
   have:=(Fh (T:=T) (p:=p) (d:=d) hv hx).2.2 (by cases d<;>decide)
   omega
  rw[Jfx,Hl,if_pos hit,Yk hno,Int.add_zero]
  exact⟨⟨fun _=>hz,fun _=> .inl hit⟩,rfl⟩
 | m + 1, n + 1, w, hn, hr, he, hs, hb, hh, h0, hl, hz => by
  have hne:w.2.1≠0∧w.2.1≠c.1.length:=by
   unfold Jbo at he;unfold sg at he
   cases d
   ·simp only[cond_false] at he hs
    have hs:w.2.1<c.1.length:=hs
    omega
   ·simp only[cond_true] at he hs
    have hs:1≤w.2.1:=hs
    omega
  have hnot:¬Jk2 c.1.length (Vt T p c d,Yi d) w:=fun q=>q.1.elim hne.1 hne.2
  have hlt:¬last<w.1:=by
   have h1:w.1≤Vt T p c d:=by
    have hmono:∀(k:Nat) (b:Int),0≤b→b+k≤c.1.length→Vg c b≤Vg c (b+k):=by
     intro k
     induction k with
     |zero=>intro b _ _;rw[show b+((0:Nat):Int)=b by omega];omega
     |succ k ih=>
      intro b h1 h2
      have:=ih b h1 (by omega)
      have h3:=V8 (c:=c) (b:=b+k) (by omega) (by omega)
      have b3:=hv.2.2.1 _ (Jj (d:=(0,0)) (l:=c.1) (k:=(b+k).toNat) (by omega))
      rw[show b+((k+1:Nat):Int)=b+k+1 by omega];omega
    unfold slk at h0
    unfold Vt
    cases d
    ·unfold Jbo sg at*
     simp only[cond_false] at*
     have:=hmono (m+1) 0 (by omega) (by omega)
     rw[show(0:Int)+((m+1:Nat):Int)=w.2.1 by omega] at this
     omega
    ·unfold Jbo sg at*
     simp only[cond_true] at*
     have:=hmono (m+1) w.2.1 (by omega) (by omega)
     rw[show w.2.1+((m+1:Nat):Int)=c.1.length by omega] at this
     omega
   omega
  simp only[tree,Jbj]
  rw[if_neg hlt]
  have ec:Js c w=Kv c w d (8+sg d*c.2.1.getD (w.2.1-1).toNat 0)++Kv c w (!d) (sg d*c.2.1.getD (w.2.1-1).toNat 0):=by
   unfold Js
   rw[if_neg (by omega),if_neg hne.1,if_neg hne.2,Jn6,hr]
  rw[ec,List.flatMap_append]
  have hno:¬D2 c.1.length (Vt T p c d,Yi d) ((Kv c w (!d) (sg d*c.2.1.getD (w.2.1-1).toNat 0)).flatMap (tree c last n)):=by
   refine Jfw fun x hx=>H3 hv ?_
   have:=(Fh (T:=T) (p:=p) (d:=d) hv hx).2.2 (by cases d<;>decide)
   omega
  rw[Jfx,Ja1,Hl,if_neg hnot,Zt,Yk hno,Int.zero_add,Int.add_zero]
  have hor:∀q r:Prop,¬q→¬r→∀s:Prop,((q∨s∨r)↔s):=fun q r h1 h2 s=>⟨fun h=>h.elim (absurd · h1) (·.elim id (absurd · h2)),fun h=> .inr (.inl h)⟩
  rw[hor _ _ hnot hno]
  have hH:(w.2.2.2.2*(8+sg d*c.2.1.getD (w.2.1-1).toNat 0)).tdiv 8=hgt w (8+sg d*c.2.1.getD (w.2.1-1).toNat 0):=rfl
  rw[hH]
  by_cases hz2:hgt w (8+sg d*c.2.1.getD (w.2.1-1).toNat 0)=0
  ·have es:Kv c w d (8+sg d*c.2.1.getD (w.2.1-1).toNat 0)=[]:=by unfold Kv;rw[if_pos (.inl hz2)]
   rw[es,hz2,Jcs]
   exact⟨⟨fun⟨x,hx,_⟩=>by simp at hx,fun h=>absurd rfl h⟩,rfl⟩
  ·have es:∃x,Kv c w d (8+sg d*c.2.1.getD (w.2.1-1).toNat 0)=[x]:=by
    unfold Kv
    rw[if_neg]
    ·exact⟨_,rfl⟩
    ·unfold Ud
     cases d
     ·simp only[cond_false];omega
     ·simp only[cond_true];omega
   obtain⟨x,es⟩:=es
   have hx:x∈Kv c w d (8+sg d*c.2.1.getD (w.2.1-1).toNat 0):=by rw[es];simp
   obtain⟨⟨x1,x2,x3,_⟩,x4,_⟩:=Hn hv hx
   have x5:=Ho hx
   have x6:=(Fh (T:=T) (p:=p) (d:=d) hv hx).2.1 rfl
   have ih:=Jbd (T:=T) (p:=p) (last:=last) (d:=d) hv m n x (by omega) x1 (by
    rw[x2]
    have:sg d*((m+1:Nat):Int)=sg d*m+sg d:=by rw[Int.natCast_succ,Int.mul_add,Int.mul_one]
    omega) (by
    rw[x2]
    cases d
    ·show w.2.1+sg false<c.1.length
     unfold sg;simp only[cond_false]
     have hs:w.2.1<c.1.length:=hs
     omega
    ·show 1≤w.2.1+sg true
     unfold sg;simp only[cond_true]
     have hs:1≤w.2.1:=hs
     omega) x4 (by omega) (by omega) hl (by rw[x3];exact hz2)
   rw[es,List.flatMap_cons,List.flatMap_nil,List.append_nil,←x2,←x3]
   exact ih
def Jn7 (c:Cab) (d:Bool) (b:Int):Int:=8+sg d*c.2.1.getD (b-1).toNat 0
def Ly (c:Cab) (d:Bool):Nat→Int→Int
 |0,_=>1
 |m+1,b=>Jn7 c d b*Ly c d m (b+sg d)
theorem Jbi (c:Cab) (d:Bool):∀(m:Nat) (b h:Int),Jbj c d m b (h*8^m)=h*Ly c d m b
 |0,_,h=>by simp[Jbj,Ly]
 | m + 1, b, h => by
  simp only[Jbj,Ly]
  have e:(h*8^(m+1)*(8+sg d*c.2.1.getD (b-1).toNat 0)).tdiv 8=h*Jn7 c d b*8^m:=by
   have:h*8^(m+1)*(8+sg d*c.2.1.getD (b-1).toNat 0)=8*(h*Jn7 c d b*8^m):=by
    unfold Jn7;rw[Int.pow_succ];grind
   rw[this,Int.mul_tdiv_cancel_left _ (by decide)]
  rw[e,Jbi c d m,Int.mul_assoc]
theorem Jcb {c:Cab} {d:Bool}:∀{m:Nat} {b:Int},Ly c d m b=0→∃i:Nat,i<m∧Jn7 c d (b+sg d*i)=0
 |0,_,h=>by simp[Ly] at h
 | m + 1, b, h => by
  simp only[Ly] at h
  rcases Int.mul_eq_zero.1 h with h|h
  ·exact⟨0,by omega,by rw[show b+sg d*((0:Nat):Int)=b by simp];exact h⟩
  ·obtain⟨i,hi,h⟩:=Jcb h
   refine⟨i+1,by omega, ?_⟩
   rw[show b+sg d*((i+1:Nat):Int)=b+sg d+sg d*i by rw[Int.natCast_succ,Int.mul_add,Int.mul_one];omega]
   exact h
def Jpk (d:Bool) (j:Int) (w:Stp):Prop:=1≤sg d*(j-w.2.1)∨(w.2.1=j∧w.2.2.1=d)
theorem Jkq {c:Cab} {d:Bool} {j:Int} {w x:Stp} (hv:Yb c) (hj:1≤j∧j<c.1.length) (hz:Jn7 c d j=0) (hw:Jpk d j w) (h:x∈Js c w):Jpk d j x:=by
 have far:∀r k,x∈Kv c w r k→1≤sg d*(j-w.2.1)→Jpk d j x:=fun r k hx hn=>by
  obtain⟨⟨x1,x2,_⟩,_⟩:=Hn hv hx
  unfold Jpk
  rw[x1,x2]
  cases d<;>cases r<;>simp only[sg,cond_true,cond_false,reduceCtorEq,and_false,or_false,and_true] at* <;>omega
 rcases hw with hw|⟨h1,h2⟩
 ·obtain⟨r,k,hx⟩:=Jcr h
  exact far r k hx hw
 ·unfold Js at h
  split at h
  ·simp at h
  ·rw[if_neg (by omega),if_neg (by omega)] at h
   rcases List.mem_append.1 h with h|h
   ·exfalso
    have:=(Hn hv h).1.2.2.2
    refine this ?_
    have e:8+Jgr c w=0:=by
     rw[Jn6,h1,h2];exact hz
    unfold hgt
    rw[e,Int.mul_zero];rfl
   ·obtain⟨⟨x1,x2,_⟩,_⟩:=Hn hv h
    unfold Jpk
    rw[x1,x2,h2,h1]
    cases d<;>simp only[sg,cond_true,cond_false,Bool.not_true,Bool.not_false,reduceCtorEq,and_false,or_false]<;>omega
theorem Jfp {c:Cab} {last:Int} {d:Bool} {j:Int} (hv:Yb c) (hj:1≤j∧j<c.1.length) (hz:Jn7 c d j=0):∀{n:Nat} {w x:Stp},Jpk d j w→x∈tree c last n w→Jpk d j x
 |0,_,_,_,h=>by simp[tree] at h
 | n + 1, w, x, hw, h => by
  simp only[tree] at h
  split at h
  ·simp at h
  ·rcases List.mem_cons.1 h with rfl|h
   ·exact hw
   ·obtain⟨y,hy,h⟩:=List.mem_flatMap.1 h
    exact Jfp hv hj hz (Jkq hv hj hz hw hy) h
def Jm (c:Cab) (f:Flt):Int:=Vg c f.1+f.2.1
def tkD (c:Cab) (f:Flt) (d:Bool):Int:=Vt f.2.2.1 (Jm c f) c d
def stD (f:Flt) (d:Bool):Int:=bif d then f.1+1 else f.1
def mD (c:Cab) (f:Flt) (d:Bool):Nat:=bif d then c.1.length-(f.1.toNat+1) else f.1.toNat
def prD (c:Cab) (f:Flt) (d:Bool):Int:=Ly c d (mD c f d) (stD f d)
def htD (c:Cab) (f:Flt) (d:Bool):Int:=Jbj c d (mD c f d) (stD f d) (f.2.2.2*262144)
def wD (c:Cab) (f:Flt) (d:Bool):Stp:=bif d then(f.2.2.1+((c.1.getD f.1.toNat (0,0)).2-f.2.1),f.1+1,true,0,f.2.2.2*262144) else(f.2.2.1+f.2.1,f.1,false,0,f.2.2.2*262144)
theorem Juv {c:Cab} {f:Flt} {d:Bool} (h:Yw c f):mD c f d≤5:=by
 obtain⟨⟨_,v2,_⟩,g1,_⟩:=h
 unfold mD
 cases d
 ·simp only[cond_false];omega
 ·simp only[cond_true];omega
theorem Jil {m:Nat} (h:m≤5):(262144:Int).tdiv (8^m)*8^m=262144∧1≤(262144:Int).tdiv (8^m):=by
 have:∀m,m<6→(262144:Int).tdiv (8^m)*8^m=262144∧1≤(262144:Int).tdiv (8^m):=by decide
 exact this m (by omega)
theorem Js4 {c:Cab} {f:Flt} {d:Bool} (h:Yw c f):htD c f d=f.2.2.2*(262144:Int).tdiv (8^mD c f d)*prD c f d:=by
 unfold htD prD
 rw[←Jbi,Int.mul_assoc,(Jil (Juv h)).1]
theorem Jra {c:Cab} {f:Flt} {d:Bool} (h:Yw c f):htD c f d=0↔prD c f d=0:=by
 rw[Js4 h]
 have h1:=(Jil (Juv (d:=d) h)).2
 have h2:=h.2.2.2.2.2
 constructor
 ·intro e
  rcases Int.mul_eq_zero.1 e with e|e
  ·rcases Int.mul_eq_zero.1 e with e|e
   ·exact absurd e h2
   ·omega
  ·exact e
 ·intro e;rw[e,Int.mul_zero]
theorem Vs {c:Cab} {f:Flt} {d:Bool} (h:Yw c f):f.2.2.1+1≤tkD c f d∧tkD c f d≤f.2.2.1+384:=by
 obtain⟨hv,g1,g2,_⟩:=h
 have b:=Uk hv.2.2.1
 have b1:=Uk (Jew hv.2.2.1 (f.1.toNat+1))
 have b0:=Uk (Jew hv.2.2.1 f.1.toNat)
 have e1:=Fx (l:=c.1) (k:=f.1.toNat) (by omega)
 have hd:∃r,(Ks c.1).2=(Ks (c.1.take (f.1.toNat+1))).2+r∧0≤r:=by
  refine⟨(Ks (c.1.drop (f.1.toNat+1))).2, ?_, ?_⟩
  ·have:∀l r:List (Int×Int),(Ks (l++r)).2=(Ks l).2+(Ks r).2:=fun l r=>by
    induction l with
    |nil=>simp[Ks]
    |cons x l ih=>simp only[List.cons_append,Ks,ih];omega
   rw[←this,List.take_append_drop]
  ·have:=Uk (l:=c.1.drop (f.1.toNat+1)) fun x hx=>hv.2.2.1 x (List.mem_of_mem_drop hx)
   omega
 obtain⟨r,hr,hr0⟩:=hd
 have e2:(Ks (c.1.take (f.1.toNat+1))).2=(Ks (c.1.take f.1.toNat)).2+(c.1.getD f.1.toNat (0,0)).2:=by rw[e1]
 have hl:=hv.2.1
 unfold tkD Vt Jm
 cases d
 ·unfold Jbo sg;simp only[cond_false];rw[Hv]
  unfold Vg;omega
 ·unfold Jbo sg;simp only[cond_true];rw[Fk]
  unfold Vg;omega
theorem Jhu {c:Cab} {f:Flt} {d:Bool} {win:Int} (h:Yw c f) (hw:384≤win):
  (D2 c.1.length (tkD c f d,Yi d) (Kr c f win)↔htD c f d≠0)∧Hl c.1.length (tkD c f d,Yi d) (Kr c f win)=htD c f d:=by
 have hp:=X0 (win:=win) h
 rw[Jnu hp,Jl9 hp]
 have hi:=Jaw h
 have hv:=h.1
 obtain⟨_,g1,g2,g3,g4,g5⟩:=id h
 have ht:=Vs (d:=d) h
 have ei:Jax c f=[wD c f false,wD c f true]:=rfl
 rw[ei,List.flatMap_cons,List.flatMap_cons,List.flatMap_nil,List.append_nil,Ja1,Zt]
 have hz:f.2.2.2*262144≠0:=by omega
 have ps:=V8 (c:=c) (b:=f.1) (by omega) (by omega)
 have s0:slk f.2.2.1 (Jm c f) c false (wD c f false)=0:=by
  unfold slk Jm wD sg;simp only[cond_false];omega
 have s1:slk f.2.2.1 (Jm c f) c true (wD c f true)=0:=by
  unfold slk Jm wD sg;simp only[cond_true];rw[ps];omega
 have s2:0<slk f.2.2.1 (Jm c f) c true (wD c f false):=by
  unfold slk Jm wD sg;simp only[cond_true,cond_false];omega
 have s3:0<slk f.2.2.1 (Jm c f) c false (wD c f true):=by
  unfold slk Jm wD sg;simp only[cond_true,cond_false];rw[ps];omega
 have hm:=Juv (d:=d) h
 have hs:(wD c f d).2.2.1=d∧(wD c f d).2.1=stD f d∧(wD c f d).2.2.2.2=f.2.2.2*262144∧(wD c f d).2.2.2.1=0:=by
  cases d<;>exact⟨rfl,rfl,rfl,rfl⟩
 have hsl:slk f.2.2.1 (Jm c f) c d (wD c f d)=0:=by cases d<;>assumption
 have key:=Jbd (T:=f.2.2.1) (p:=Jm c f) (last:=f.2.2.1+win) (d:=d) hv (mD c f d) 7 (wD c f d) (by omega) hs.1 (by
  rw[hs.2.1]
  unfold stD mD Jbo sg
  cases d
  ·simp only[cond_false];omega
  ·simp only[cond_true];omega) (by
  rw[hs.2.1]
  unfold stD
  cases d
  ·show f.1<_;omega
  ·show 1≤f.1+1;omega) (by
  rw[hs.2.1]
  unfold stD
  cases d
  ·simp only[cond_false];omega
  ·simp only[cond_true];omega) (by rw[hs.2.2.2];omega) hsl (by unfold tkD at ht;omega) (by rw[hs.2.2.1];exact hz)
 rw[hs.2.1,hs.2.2.1] at key
 have kk:∀q:Prop,¬q→∀s:Prop,((q∨s)↔s)∧((s∨q)↔s):=fun q h1 s=>⟨⟨fun h=>h.elim (absurd · h1) id, .inr⟩,⟨fun h=>h.elim id (absurd · h1), .inl⟩⟩
 cases d
 ·have no:=H3 (last:=f.2.2.1+win) (n:=7) hv s3
  show(_∨D2 c.1.length (Vt f.2.2.1 (Jm c f) c false,Yi false) (tree c (f.2.2.1+win) 7 (wD c f true))↔_)∧_+Hl c.1.length (Vt f.2.2.1 (Jm c f) c false,Yi false) (tree c (f.2.2.1+win) 7 (wD c f true))=_
  rw[(kk _ no _).2,Yk no,Int.add_zero]
  exact key
 ·have no:=H3 (last:=f.2.2.1+win) (n:=7) hv s2
  show(D2 c.1.length (Vt f.2.2.1 (Jm c f) c true,Yi true) (tree c (f.2.2.1+win) 7 (wD c f false))∨_↔_)∧Hl c.1.length (Vt f.2.2.1 (Jm c f) c true,Yi true) (tree c (f.2.2.1+win) 7 (wD c f false))+_=_
  rw[(kk _ no _).1,Yk no,Int.zero_add]
  exact key
theorem Jln {c:Cab} {f:Flt} {d:Bool} {win:Int} (h:Yw c f) {x:Stp} (hx:x∈Kr c f win):0≤slk f.2.2.1 (Jm c f) c d x:=by
 have hx:=(X0 h).mem_iff.1 hx
 obtain⟨y,hy,hx⟩:=List.mem_flatMap.1 hx
 have h1:=Jc3 (T:=f.2.2.1) (p:=Jm c f) (d:=d) h.1 hx
 obtain⟨hv,g1,g2,_⟩:=h
 have ps:=V8 (c:=c) (b:=f.1) (by omega) (by omega)
 have:0≤slk f.2.2.1 (Jm c f) c d y:=by
  simp only[Jax,List.mem_cons,List.not_mem_nil,or_false] at hy
  rcases hy with rfl|rfl
  ·unfold slk Jm sg
   cases d<;>simp only[cond_true,cond_false]<;>omega
  ·unfold slk Jm sg
   dsimp only
   rw[ps]
   cases d<;>simp only[cond_true,cond_false]<;>omega
 omega
theorem Jj9 {c:Cab} {f:Flt} {d:Bool} {win:Int} (h:Yw c f) (hz:htD c f d=0) (t:Int):¬D2 c.1.length (t,Yi d) (Kr c f win):=by
 obtain⟨i,hi,hf⟩:=Jcb ((Jra h).1 hz)
 obtain⟨hv,g1,g2,_⟩:=id h
 have hj:1≤stD f d+sg d*i∧stD f d+sg d*i<c.1.length:=by
  unfold mD at hi
  unfold stD sg
  cases d
  ·simp only[cond_false] at hi⊢;omega
  ·simp only[cond_true] at hi⊢;omega
 rintro⟨x,hx,hk⟩
 have hx:=(X0 h).mem_iff.1 hx
 obtain⟨y,hy,hx⟩:=List.mem_flatMap.1 hx
 have hn:Jpk d (stD f d+sg d*i) y:=by
  simp only[Jax,List.mem_cons,List.not_mem_nil,or_false] at hy
  unfold Jpk
  unfold stD sg at hj⊢
  rcases hy with rfl|rfl
  ·cases d
   ·simp only[cond_false] at hj⊢
    rcases Nat.eq_zero_or_pos i with h0|h0
    ·exact .inr ⟨by omega,trivial⟩
    ·exact .inl (by omega)
   ·simp only[cond_true] at hj⊢;omega
  ·cases d
   ·simp only[cond_false] at hj⊢;omega
   ·simp only[cond_true] at hj⊢
    rcases Nat.eq_zero_or_pos i with h0|h0
    ·exact .inr ⟨by omega,trivial⟩
    ·exact .inl (by omega)
 have hn:=Jfp hv hj hf hn hx
 obtain⟨h1,_⟩:=Jhp hv hk
 unfold Jpk at hn
 rw[h1] at hn
 unfold Jbo stD sg at*
 cases d
 ·simp only[cond_false] at*;omega
 ·simp only[cond_true] at*;omega
theorem H5 {e:ByteArray} {a:Arr}:Zc e a=true↔a.2.1=e:=by
 unfold Zc
 rw[beq_iff_eq]
 exact⟨Jov,fun h=>by rw[h]⟩
theorem Jk6 {l:List Arr} {e:ByteArray} {a:Arr} (hs:Jqc l) (ha:a∈l) (he:a.2.1=e) (hm:∀b∈l,b.2.1=e→a.1≤b.1):V6 e l=some a:=by
 unfold V6
 cases hf:l.find? (Zc e) with
 |none=>
  have:=List.find?_eq_none.1 hf a ha
  exact absurd (H5.2 he) this
 | some b =>
  obtain⟨hb,as1,as2,hl,has⟩:=List.find?_eq_some_iff_append.1 hf
  have hb:=H5.1 hb
  have hbl:b∈l:=List.mem_of_find?_eq_some hf
  rw[hl] at ha hs
  rcases List.mem_append.1 ha with ha|ha
  ·have:=has a ha
   rw[H5.2 he] at this;cases this
  ·rcases List.mem_cons.1 ha with rfl|ha
   ·rfl
   ·have h1:=(List.pairwise_cons.1 (List.pairwise_append.1 hs).2.1).1 a ha
    have h2:=hm b hbl hb
    exfalso
    rcases h1 with h1|⟨_,h1⟩
    ·omega
    ·rw[hb,he] at h1
     unfold bLt at h1;rw[Lc] at h1;cases h1
theorem Fn {c:Cab} {f:Flt} {d:Bool} {win:Int} (h:Yw c f) (hw:384≤win):V6 (Yi d) (Va c f win)=if htD c f d=0 then none else some (tkD c f d,Yi d,htD c f d):=by
 have hd:=Jhu (d:=d) h hw
 split
 ·rename_i hz
  unfold V6
  rw[List.find?_eq_none]
  intro a ha q
  have q:=H5.1 q
  have:=((Le h a).1 ha).1
  rw[q] at this
  exact Jj9 h hz _ this
 ·rename_i hz
  refine Jk6 (Jbk h) ((Le h _).2 ⟨hd.1.2 hz,hd.2.symm⟩) rfl fun b hb he=> ?_
  obtain⟨x,hx,hk⟩:=((Le h b).1 hb).1
  rw[he] at hk
  obtain⟨h1,h2⟩:=Jhp h.1 hk
  have h3:=Jho (T:=f.2.2.1) (p:=Jm c f) h1
  have h4:=Jln (d:=d) h hx
  show tkD c f d≤b.1
  unfold tkD;omega
theorem Jnp:isA sA=true:=by unfold isA;simp
theorem Jno:isB sB=true:=by unfold isB;simp
theorem Js0:isB sA=false:=by
 cases h:isB sA with
 |false=>rfl
 |true=>have:=Jdn sA h;rw[Jnp] at this;cases this
theorem Jym:isA sB=false:=Jdn sB Jno
theorem Jcp (e:ByteArray) (s:Int):∀(l:List Int) (i:Nat) (r:Int) (p:Int×Int),Vh e s i (l++[r]) p=Vv e s (i+l.length) r (Vh e s i l p)
 |[],i,r,p=>rfl
 |x::l,i,r,p=>by
  simp only[List.cons_append,Vh,List.length_cons]
  rw[Jcp e s l (i+1) r,show i+1+l.length=i+(l.length+1) by omega]
theorem Xt (e:ByteArray) (s:Int):∀(l r:List Int) (i:Nat) (p:Int×Int),Vh e s i (l++r) p=Vh e s (i+l.length) r (Vh e s i l p)
 |[],r,i,p=>rfl
 |x::l,r,i,p=>by
  simp only[List.cons_append,Vh,List.length_cons]
  rw[Xt e s l r (i+1),show i+1+l.length=i+(l.length+1) by omega]
theorem Jqa {s r:Int} {i:Nat} {p:Int×Int} (h:(i:Int)<s):Vv sA s i r p=(p.1*(8-r),p.2*8):=by
 unfold Vv;rw[Js0,Jnp,decide_eq_true h];rfl
theorem Jqb {s r:Int} {i:Nat} {p:Int×Int} (h:s≤(i:Int)):Vv sA s i r p=p:=by
 unfold Vv;rw[Js0,Jnp,decide_eq_false (by omega:¬(i:Int)<s)];rfl
theorem Jp8 {s r:Int} {i:Nat} {p:Int×Int} (h:(i:Int)<s):Vv sB s i r p=p:=by
 unfold Vv;rw[Jno,Jym,decide_eq_false (by omega)];rfl
theorem Jp9 {s r:Int} {i:Nat} {p:Int×Int} (h:s≤(i:Int)):Vv sB s i r p=(p.1*(8+r),p.2*8):=by
 unfold Vv;rw[Jno,decide_eq_true h];rfl
theorem Js6 {s:Int}:∀(l:List Int) (i:Nat) (p:Int×Int),s≤(i:Int)→Vh sA s i l p=p
 |[],_,_,_=>rfl
 |x::l,i,p,h=>by simp only[Vh];rw[Jqb h];exact Js6 l (i+1) p (by omega)
theorem Js5 {s:Int}:∀(l:List Int) (i:Nat) (p:Int×Int),(i:Int)+l.length≤s→Vh sB s i l p=p
 |[],_,_,_=>rfl
 |x::l,i,p,h=>by
  simp only[List.length_cons] at h
  simp only[Vh];rw[Jp8 (by omega)];exact Js5 l (i+1) p (by omega)
theorem Ji4 {c:Cab} {s:Int}:∀k:Nat,(k:Int)≤s→k≤c.2.1.length→Vh sA s 0 (c.2.1.take k) (1,1)=(Ly c false k k,8^k)
 |0,_,_=>rfl
 | k + 1, h1, h2 => by
  rw[←Jy (d:=(0:Int)) (by omega),Jcp,Ji4 k (by omega) (by omega),Nat.zero_add,List.length_take,Nat.min_eq_left (by omega),Jqa (by omega)]
  simp only[Ly]
  have e1:Jn7 c false ((k+1:Nat):Int)=8-c.2.1.getD k 0:=by
   unfold Jn7 sg
   simp only[cond_false]
   rw[show(((k+1:Nat):Int)-1).toNat=k by omega];omega
  have e2:((k+1:Nat):Int)+sg false=(k:Int):=by unfold sg;simp only[cond_false];omega
  rw[e1,e2,Int.mul_comm,Int.pow_succ]
theorem Ji3 {c:Cab} {s:Int}:∀(m k:Nat) (p:Int×Int),k+m=c.2.1.length→s≤(k:Int)→Vh sB s k (c.2.1.drop k) p=(p.1*Ly c true m (k+1),p.2*8^m)
 |0,k,p,h,_=>by rw[List.drop_of_length_le (by omega)];simp[Vh,Ly]
 | m + 1, k, p, h, hs => by
  rw[V4 (d:=(0:Int)) (by omega)]
  simp only[Vh]
  rw[Jp9 hs,Ji3 m (k+1) _ (by omega) (by omega)]
  simp only[Ly]
  have e1:Jn7 c true ((k:Int)+1)=8+c.2.1.getD k 0:=by
   unfold Jn7 sg
   simp only[cond_true]
   rw[show((k:Int)+1-1).toNat=k by omega,Int.one_mul]
  have e2:(k:Int)+1+sg true=((k+1:Nat):Int)+1:=by unfold sg;simp only[cond_true];omega
  rw[e1,e2,Int.mul_assoc,Int.mul_assoc,Int.pow_succ,Int.mul_comm 8]
theorem Jn5 {c:Cab} {f:Flt} {d:Bool} (h:Yw c f):Jw c f.1 (Yi d)=(prD c f d,8^mD c f d):=by
 obtain⟨hv,g1,g2,_⟩:=h
 have hj:=hv.2.2.2.1
 unfold Jw prD mD stD Yi
 cases d
 ·simp only[cond_false]
  rw[←List.take_append_drop f.1.toNat c.2.1,Xt,Js6 _ _ _ (by rw[List.length_take,Nat.min_eq_left (by omega)];omega),Ji4 _ (by omega) (by omega),show((f.1.toNat:Nat):Int)=f.1 by omega]
 ·simp only[cond_true]
  rw[←List.take_append_drop f.1.toNat c.2.1,Xt,Js5 (c.2.1.take f.1.toNat) 0 _ (by rw[List.length_take,Nat.min_eq_left (by omega)];omega),List.length_take,Nat.min_eq_left (by omega),Nat.zero_add,Ji3 (c.1.length-(f.1.toNat+1)) _ _ (by omega) (by omega),show((f.1.toNat:Nat):Int)=f.1 by omega,Int.one_mul,Int.one_mul]
theorem Jvi {c:Cab} {f:Flt} {win:Int} {a:Arr} (ha:a∈Va c f win) (h:Yw c f):∃d,a.2.1=Yi d:=by
 obtain⟨⟨x,_,hk⟩,_⟩:=(Le h a).1 ha
 have e:Jrj x=a.2.1:=hk.2.2
 rw[←e]
 unfold Jrj Yi
 by_cases h0:x.2.1=0
 ·exact⟨false,by rw[if_pos h0];rfl⟩
 ·exact⟨true,by rw[if_neg h0];rfl⟩
theorem Jrt {c:Cab} {f:Flt} {win:Int} (h:Yw c f) {a:Arr} (ha:a∈Va c f win):(0≤a.1∧a.1≤100448)∧a.1≤f.2.2.1+win∧-4363686772736≤a.2.2∧a.2.2≤4363686772736:=by
 obtain⟨⟨x,hx,hk⟩,hs⟩:=(Le h a).1 ha
 have hH:=(Ft h).1 x hx
 have e:x.1=a.1:=hk.2.1
 have b3:=hH.1.2.2.1
 have b0:=hH.1.1
 have hb:∀l:List Stp,(∀w∈l,wvH c w)→-(17179869184*(l.length:Int))≤Hl c.1.length (a.1,a.2.1) l∧Hl c.1.length (a.1,a.2.1) l≤17179869184*l.length:=by
  intro l
  induction l with
  |nil=>intro _;simp[Hl]
  |cons w r ih=>
   intro hl
   have h1:=ih fun x hx=>hl x (by simp[hx])
   have h2:=Jxz (hl w (by simp))
   simp only[Hl,List.length_cons]
   split<;>omega
 have hl:=Jer (win:=win) h
 have:=hb (Kr c f win) fun w hw=>((Ft h).1 w hw).1
 rw[←hs] at this
 omega
theorem Jjo:∀{l:List Arr} {p:Option Arr},Jqc l→(∀b,p=some b→∀a∈l,ltA b a)→(∀a∈l,(0≤a.1∧a.1≤999999999)∧D4 a.2.1=0∧-17592186044416≤a.2.2∧a.2.2≤17592186044416)→H8 p l=0
 |[],_,_,_,_=>by cases ‹Option Arr› <;>rfl
 | a :: r, p, hs, hp, ha => by
  replace hs:=List.pairwise_cons.1 hs
  have h1:=ha a (by simp)
  have hl : Jky p a = false := by
   cases p with
   |none=>rfl
   | some b =>
    have:=hp b rfl a (by simp)
    show decide (Lk a b≤0)=false
    refine decide_eq_false fun q=> ?_
    have n1:¬ltA a b:=fun q=>L6 _ (Xp this q)
    rw[←Fp] at n1
    have e:Lk a b=0:=by omega
    unfold Lk at e
    have hz:=Ji e
    simp only[List.mem_cons,List.not_mem_nil,or_false,forall_eq_or_imp,forall_eq] at hz
    obtain⟨z1,z2⟩:=hz
    rcases this with q|⟨q1,q2⟩
    ·unfold Jen at z1
     rw[if_neg (by omega),if_pos q] at z1
     omega
    ·unfold cmpB at z2
     split at z2
     ·omega
     ·split at z2
      ·rename_i e
       unfold bLt at q2;rw[e,Lc] at q2;cases q2
      ·omega
  have e:Jld p a=0:=by
   unfold Jld
   rw[hl,Jc.2 h1.1,h1.2.1,Jc.2 h1.2.2]
   rfl
  simp only[H8]
  rw[if_pos e]
  exact Jjo hs.2 (fun b hb x hx=>by cases hb;exact hs.1 x hx) fun x hx=>ha x (by simp[hx])
theorem Jjh (d:Bool):D4 (Yi d)=0:=by
 unfold D4 Yi
 cases d
 ·simp only[cond_false];simp
 ·simp only[cond_true];simp
theorem Jox {c:Cab} {f:Flt} {win:Int} (h:Yw c f):Lf (Va c f win)=0:=by
 have hl:=Jjy (win:=win) h
 unfold Lf
 rw[if_neg (by omega)]
 refine Jjo (Jbk h) (fun b hb=>by cases hb) fun a ha=> ?_
 have:=Jrt h ha
 obtain⟨d,hd⟩:=Jvi ha h
 exact⟨by omega,by rw[hd];exact Jjh d,by omega⟩
def leF (x y:Int×Int):Prop:=x.1*y.2≤y.1*x.2
theorem Kw {n d:Int} (h:0<d):(Jn n d).1*d=n*(Jn n d).2∧0<(Jn n d).2:=by
 have hg:=Vn (n:=n) h
 obtain⟨a,ha⟩:Ur n d∣n:=Int.gcd_dvd_left n d
 obtain⟨b,hb⟩:Ur n d∣d:=Int.gcd_dvd_right n d
 have e1:n.tdiv (Ur n d)=a:=by
  have:=Int.mul_tdiv_cancel_left a (by omega:Ur n d≠0)
  rw[←ha] at this;exact this
 have e2:d.tdiv (Ur n d)=b:=by
  have:=Int.mul_tdiv_cancel_left b (by omega:Ur n d≠0)
  rw[←hb] at this;exact this
 refine⟨?_,Jev h⟩
 show n.tdiv (Ur n d)*d=n*d.tdiv (Ur n d)
 rw[e1,e2]
 generalize Ur n d=g at ha hb
 rw[ha,hb];grind
theorem Jft {a b c d:Int} (hb:0<b) (hd:0<d) (h:a*d≤c*b):leF (Jn a b) (Jn c d):=by
 obtain⟨h1,h2⟩:=Kw (n:=a) hb
 obtain⟨h3,h4⟩:=Kw (n:=c) hd
 unfold leF
 generalize(Jn a b).1=p at*
 generalize(Jn a b).2=q at*
 generalize(Jn c d).1=r at*
 generalize(Jn c d).2=s at*
 have hbd:0<b*d:=Int.mul_pos hb hd
 have hqs:0≤q*s:=Int.le_of_lt (Int.mul_pos h2 h4)
 have e1:p*s*(b*d)=a*d*(q*s):=by grind
 have e2:r*q*(b*d)=c*b*(q*s):=by grind
 have:=Int.mul_le_mul_of_nonneg_right h hqs
 rw[←e1,←e2] at this
 exact Int.le_of_mul_le_mul_right this hbd
theorem Job {p q s:Int} (h:Int.gcd p q=1) (hd:q∣p*s):q∣s:=by
 have h1:=Int.natAbs_dvd_natAbs.2 hd
 rw[Int.natAbs_mul] at h1
 have h2:Nat.Coprime q.natAbs p.natAbs:=by
  show Nat.gcd q.natAbs p.natAbs=1
  rw[Nat.gcd_comm];exact h
 exact Int.natAbs_dvd_natAbs.1 (h2.dvd_of_dvd_mul_left h1)
theorem Jyg {a b c d:Int} (hb:0<b) (hd:0<d) (h:a*d=c*b):Jn a b=Jn c d:=by
 have hg1:=Vn (n:=a) hb
 have hg2:=Vn (n:=c) hd
 -- both are in lowest terms
 have key:∀{n d:Int},0<d→Int.gcd (Jn n d).1 (Jn n d).2=1:=by
  intro n d h
  have hg:=Vn (n:=n) h
  have hp:0<Int.gcd n d:=by unfold Ur at hg;omega
  have e1:n.tdiv (Ur n d)=n/Ur n d:=Int.tdiv_eq_ediv_of_dvd (Int.gcd_dvd_left n d)
  have e2:d.tdiv (Ur n d)=d/Ur n d:=Int.tdiv_eq_ediv_of_dvd (Int.gcd_dvd_right n d)
  show Int.gcd (n.tdiv (Ur n d)) (d.tdiv (Ur n d))=1
  rw[e1,e2]
  exact Int.gcd_ediv_gcd_ediv_gcd hp
 obtain⟨h1,h2⟩:=Kw (n:=a) hb
 obtain⟨h3,h4⟩:=Kw (n:=c) hd
 have k1:=key (n:=a) hb
 have k2:=key (n:=c) hd
 have hx:(Jn a b).1*(Jn c d).2=(Jn c d).1*(Jn a b).2:=by
  generalize(Jn a b).1=p at*
  generalize(Jn a b).2=q at*
  generalize(Jn c d).1=r at*
  generalize(Jn c d).2=s at*
  have hbd:b*d≠0:=by have:=Int.mul_pos hb hd;omega
  have e1:p*s*(b*d)=a*d*(q*s):=by grind
  have e2:r*q*(b*d)=c*b*(q*s):=by grind
  rw[h,←e2] at e1
  exact Int.eq_of_mul_eq_mul_right hbd e1
 generalize Jn a b=x at*
 generalize Jn c d=y at*
 obtain⟨p,q⟩:=x
 obtain⟨r,s⟩:=y
 dsimp only at*
 -- q divides s, s divides q
 have d1:q∣s:=by
  have:q∣p*s:=⟨r,by rw[hx,Int.mul_comm]⟩
  exact Job k1 this
 have d2:s∣q:=by
  have:s∣r*q:=⟨p,by rw[←hx,Int.mul_comm]⟩
  exact Job k2 this
 have e:q=s:=Int.dvd_antisymm (Int.le_of_lt h2) (Int.le_of_lt h4) d1 d2
 subst e
 have:p=r:=Int.eq_of_mul_eq_mul_right (by omega) hx
 rw[this]
abbrev okL (l:List (Int×Int)):Prop:=∀x∈l,1≤x.1∧x.1≤100000∧1≤x.2∧x.2≤64
theorem Xq (a:Int):Jn a 1=(a,1):=Jch a
theorem Jdj {l:List (Int×Int)}:∀{a n:Int},okL l→0≤n→leF (a,1) (Jf 2 l a n):=by
 induction l with
 |nil=>intro a n _ _;simp only[Jf];rw[Xq];unfold leF;omega
 | cons s r ih =>
  intro a n h hn
  have hs:=h s (by simp)
  simp only[Jf]
  split
  ·rw[←Xq a]
   refine Jft (by decide) (by omega) ?_
   have:0≤s.1*n:=Int.mul_nonneg (by omega) hn
   rw[Int.mul_one,Int.mul_assoc];omega
  ·have:=ih (a:=a+s.1) (n:=n-s.2*2) (fun x hx=>h x (by simp[hx])) (by omega)
   unfold leF at this⊢
   dsimp only at this⊢
   have hp:0≤(Jf 2 r (a+s.1) (n-s.2*2)).2:=by
    rcases Int.lt_or_le (Jf 2 r (a+s.1) (n-s.2*2)).2 0 with q|q
    ·exfalso
     have hpos:∀(l:List (Int×Int)) (a n:Int),okL l→0<(Jf 2 l a n).2:=by
      intro l
      induction l with
      |nil=>intro a n _;simp only[Jf];exact(Kw (by decide)).2
      |cons s r ih=>
       intro a n h
       have hs:=h s (by simp)
       simp only[Jf]
       split
       ·exact(Kw (by omega)).2
       ·exact ih _ _ fun x hx=>h x (by simp[hx])
     have:=hpos r (a+s.1) (n-s.2*2) fun x hx=>h x (by simp[hx])
     omega
    ·exact q
   have:a*(Jf 2 r (a+s.1) (n-s.2*2)).2≤(a+s.1)*(Jf 2 r (a+s.1) (n-s.2*2)).2:=Int.mul_le_mul_of_nonneg_right (by omega) hp
   omega
theorem Hw:∀(l:List (Int×Int)) (a n:Int),okL l→0<(Jf 2 l a n).2:=by
 intro l
 induction l with
 |nil=>intro a n _;simp only[Jf];exact(Kw (by decide)).2
 |cons s r ih=>
  intro a n h
  have hs:=h s (by simp)
  simp only[Jf]
  split
  ·exact(Kw (by omega)).2
  ·exact ih _ _ fun x hx=>h x (by simp[hx])
theorem Jnh {x y z:Int×Int} (hx:0<x.2) (hy:0<y.2) (hz:0<z.2) (h:leF x y) (h':leF y z):leF x z:=by
 unfold leF at*
 have h1:=Int.mul_le_mul_of_nonneg_right h (Int.le_of_lt hz)
 have h2:=Int.mul_le_mul_of_nonneg_right h' (Int.le_of_lt hx)
 have e1:x.1*y.2*z.2=x.1*z.2*y.2:=by grind
 have e2:y.1*x.2*z.2=y.1*z.2*x.2:=by grind
 have e3:z.1*y.2*x.2=z.1*x.2*y.2:=by grind
 rw[e1,e2] at h1
 rw[e3] at h2
 exact Int.le_of_mul_le_mul_right (Int.le_trans h1 h2) hy
theorem Lz:∀{l:List (Int×Int)} {a m n:Int},okL l→0≤m→m≤n→leF (Jf 2 l a m) (Jf 2 l a n)
 |[],a,m,n,_,_,_=>by simp only[Jf];unfold leF;omega
 | s :: r, a, m, n, h, h0, hmn => by
  have hs:=h s (by simp)
  have hr:okL r:=fun x hx=>h x (by simp[hx])
  simp only[Jf]
  by_cases h1:m≤s.2*2
  ·rw[if_pos h1]
   by_cases h2:n≤s.2*2
   ·rw[if_pos h2]
    refine Jft (by omega) (by omega) ?_
    refine Int.mul_le_mul_of_nonneg_right ?_ (by omega)
    have:=Int.mul_le_mul_of_nonneg_left hmn (by omega:0≤s.1)
    omega
   ·rw[if_neg h2]
    refine Jnh (y:=(a+s.1,1)) (Kw (by omega)).2 (Int.zero_lt_one) (Hw _ _ _ hr) ?_ (Jdj hr (by omega))
    rw[←Xq (a+s.1)]
    refine Jft (by omega) (by decide) ?_
    have:=Int.mul_le_mul_of_nonneg_left h1 (by omega:0≤s.1)
    rw[Int.mul_one,Int.add_mul,Int.mul_assoc a];omega
  ·rw[if_neg h1,if_neg (by omega)]
   exact Lz hr (by omega) (by omega)
theorem Jq1 {a b B:Int} (hb:0<b) (h:b≤B):(Jn (2*a) (2*b)).2≤B:=by
 have e:Jn (2*a) (2*b)=Jn a b:=Jyg (by omega) hb (by grind)
 rw[e]
 have hg:=Vn (n:=a) hb
 have:=Lp (a:=b) (g:=Ur a b) (B:=b) ⟨by omega,by omega⟩
 show b.tdiv (Ur a b)≤B
 omega
theorem Juw {a b:Int} (hb:0<b):(Jn a b).2≤b:=by
 have hg:=Vn (n:=a) hb
 have:=Lp (a:=b) (g:=Ur a b) (B:=b) ⟨by omega,by omega⟩
 show b.tdiv (Ur a b)≤b
 omega
theorem Jin:∀{l:List (Int×Int)} {a n:Int},okL l→0≤n→leF (Jf 2 l a n) (a+(Ks l).1,1)
 |[],a,n,_,_=>by simp only[Jf,Ks];rw[Xq];unfold leF;omega
 | s :: r, a, n, h, hn => by
  have hs:=h s (by simp)
  have hr:okL r:=fun x hx=>h x (by simp[hx])
  have b:=Uk hr
  simp only[Jf,Ks]
  split
  ·rename_i h1
   rw[←Xq (a+(s.1+(Ks r).1))]
   refine Jft (by omega) (by decide) ?_
   have e1:=Int.mul_le_mul_of_nonneg_left h1 (by omega:0≤s.1)
   have e2:0≤(Ks r).1*(s.2*2):=Int.mul_nonneg (by omega) (by omega)
   rw[Int.mul_one,Int.add_mul,Int.add_mul,Int.mul_assoc a];omega
  ·have:=Jin (l:=r) (a:=a+s.1) (n:=n-s.2*2) hr (by omega)
   rw[Int.add_assoc] at this
   exact this
theorem Jfk:∀{l:List (Int×Int)} {a n:Int},okL l→(Jf 2 l a n).2≤128∧(∀k,n=2*k→(Jf 2 l a n).2≤64)
 |[],a,n,_=>by
  simp only[Jf];rw[Xq]
  exact⟨by show(1:Int)≤128;decide,fun _ _=>by show(1:Int)≤64;decide⟩
 | s :: r, a, n, h => by
  have hs:=h s (by simp)
  have hr:okL r:=fun x hx=>h x (by simp[hx])
  simp only[Jf]
  split
  ·refine⟨?_,fun k hk=> ?_⟩
   ·have:=Juw (a:=a*s.2*2+s.1*n) (b:=s.2*2) (by omega);omega
   ·have:=Jq1 (a:=a*s.2+s.1*k) (b:=s.2) (B:=64) (by omega) (by omega)
    rw[show a*s.2*2+s.1*n=2*(a*s.2+s.1*k) by rw[hk];grind,Int.mul_comm s.2 2]
    exact this
  ·obtain⟨h1,h2⟩:=Jfk (l:=r) (a:=a+s.1) (n:=n-s.2*2) hr
   exact⟨h1,fun k hk=>h2 (k-s.2) (by omega)⟩
theorem Xn {l:List (Int×Int)} {n:Int} (h:okL l) (hl:l.length≤6) (hn:0≤n):1≤(Jf 2 l 0 n).2∧(Jf 2 l 0 n).2≤128∧0≤(Jf 2 l 0 n).1∧(Jf 2 l 0 n).1≤600000*(Jf 2 l 0 n).2∧(∀k,n=2*k→(Jf 2 l 0 n).2≤64):=by
 have h1:=Hw l 0 n h
 have h2:=Jdj (a:=0) h hn
 have h3:=Jin (a:=0) h hn
 have h4:=Jfk (a:=0) (n:=n) h
 have b:=Uk h
 unfold leF at h2 h3
 dsimp only at h2 h3
 have:(Ks l).1*(Jf 2 l 0 n).2≤600000*(Jf 2 l 0 n).2:=Int.mul_le_mul_of_nonneg_right (by omega) (by omega)
 rw[Int.zero_add] at h3
 exact⟨by omega,h4.1,by omega,by omega,h4.2⟩
theorem Jnc {c:Cab} {f:Flt} (h:Yw c f) (a b:Int×Int) (ha:a.1≤tkD c f false∧tkD c f false≤a.2) (hb:b.1≤tkD c f true∧tkD c f true≤b.2):0≤Jir c a b∧Jir c a b≤2*Jm c f∧2*Jm c f≤Fa c a b:=by
 have h1:tkD c f false=f.2.2.1+Jm c f:=by
  unfold tkD Vt Jbo sg;simp only[cond_false];rw[Hv];omega
 have h2:tkD c f true=f.2.2.1+(Ks c.1).2-Jm c f:=by
  unfold tkD Vt Jbo sg;simp only[cond_true];rw[Fk];omega
 have t1:=Vs (d:=false) h
 have t2:=Vs (d:=true) h
 unfold Jir Fa
 omega
theorem Jis {c:Cab} {f:Flt} (h:Yw c f):Jir c (tkD c f false,tkD c f false) (tkD c f true,tkD c f true)=2*Jm c f∧Fa c (tkD c f false,tkD c f false) (tkD c f true,tkD c f true)=2*Jm c f:=by
 have h1:tkD c f false=f.2.2.1+Jm c f:=by
  unfold tkD Vt Jbo sg;simp only[cond_false];rw[Hv];omega
 have h2:tkD c f true=f.2.2.1+(Ks c.1).2-Jm c f:=by
  unfold tkD Vt Jbo sg;simp only[cond_true];rw[Fk];omega
 have t1:=Vs (d:=false) h
 have t2:=Vs (d:=true) h
 unfold Jir Fa
 dsimp only
 omega
theorem X6:∀{l:List Int},(∀x∈l,x=0)→Ja l=0
 |[],_=>rfl
 |x::l,h=>by
  rw[K0,if_pos (h x (by simp))]
  exact X6 fun y hy=>h y (by simp[hy])
theorem Jy0 {c:Cab} (h:Yb c):Uc c=0:=by
 obtain⟨v1,v2,v3,v4,v5,v6,v7⟩:=h
 unfold Uc
 rw[if_neg (by omega),if_neg (by omega),if_neg (by omega)]
 refine X6 fun x hx=> ?_
 simp only[List.mem_cons,List.not_mem_nil,or_false] at hx
 rcases hx with rfl|rfl|rfl|rfl
 ·refine X6 fun y hy=> ?_
  obtain⟨s,hs,rfl⟩:=List.mem_map.1 hy
  have:=v3 s hs
  unfold Jdc
  rw[Jc.2 ⟨this.1,this.2.1⟩,Jc.2 ⟨this.2.2.1,this.2.2.2⟩];rfl
 ·rfl
 ·refine X6 fun y hy=> ?_
  obtain⟨s,hs,rfl⟩:=List.mem_map.1 hy
  exact Jc.2 (v5 s hs)
 ·unfold Jf8
  rw[Jc.2 v6,Jc.2 v7];rfl
theorem Jcl {c:Cab} {f:Flt} (h:Yw c f):Lj c f=0:=by
 obtain⟨hv,g1,g2,g3,g4,g5⟩:=h
 unfold Lj
 rw[if_pos (Jy0 hv),if_pos (Hr.2 g1),if_neg g5]
 unfold Jm2
 rw[Jc.2 ⟨g2.1,by omega⟩,Jc.2 g3,Jc.2 g4];rfl
theorem Jlm {c:Cab} {f:Flt} {win:Int} (h:Yw c f) (hw:0≤win∧win≤1000):Jgn c f win=0:=by
 unfold Jgn
 rw[Jcl h,Jc.2 hw];rfl
theorem Jgy (l r:List (Int×Int)):Ks (l++r)=((Ks l).1+(Ks r).1,(Ks l).2+(Ks r).2):=by
 induction l with
 |nil=>simp[Ks]
 |cons x l ih=>simp only[List.cons_append,Ks,ih];ext<;>simp only<;>omega
theorem Jsh {c:Cab} {z:Zon} {A:Int}:∀{n k:Nat},k<n→(z.1.1≤(k:Int)∧(k:Int)<z.1.2)→(thN c z A n).2≤z.2.1*Du c z.2.2.2 k
 |0,_,h,_=>by omega
 | n + 1, k, h, hz => by
  simp only[thN,Hj]
  by_cases e:k=n
  ·subst e
   rw[if_pos hz]
   show min _ _≤_
   omega
  ·have ih:=Jsh (c:=c) (z:=z) (A:=A) (n:=n) (k:=k) (by omega) hz
   split
   ·show min _ _≤_
    omega
   ·exact ih
theorem Jlz {c:Cab} {z:Zon} {A:Int}:∀{n k:Nat},k<n→¬(z.1.1≤(k:Int)∧(k:Int)<z.1.2)→z.2.2.1*Du c z.2.2.2 k+1≤(thN c z A n).1
 |0,_,h,_=>by omega
 | n + 1, k, h, hz => by
  simp only[thN,Hj]
  by_cases e:k=n
  ·subst e
   rw[if_neg hz]
   show _≤max _ _
   omega
  ·have ih:=Jlz (c:=c) (z:=z) (A:=A) (n:=n) (k:=k) (by omega) hz
   split
   ·exact ih
   ·show _≤max _ _
    omega
theorem Jgx {c:Cab} {z:Zon} {A:Int}:∀n:Nat,1≤(thN c z A n).1∧(thN c z A n).2≤A
 |0=>⟨Int.le_refl _,Int.le_refl _⟩
 | n + 1 => by
  have ih:=Jgx (c:=c) (z:=z) (A:=A) n
  simp only[thN,Hj]
  split
  ·refine⟨ih.1, ?_⟩
   show min _ _≤_
   omega
  ·refine⟨?_,ih.2⟩
   show _≤max _ _
   omega
theorem Jyp {c:Cab} {f:Flt} {d:Bool} (h:Yw c f):htD c f d=f.2.2.2*Du c (Yi d) f.1.toNat:=by
 have e:((f.1.toNat:Nat):Int)=f.1:=by have:=h.2.1;omega
 rw[Js4 h]
 unfold Du
 rw[e,Jn5 h,Int.mul_assoc]
theorem Fs {c:Cab} {f:Flt} {z:Zon} {d:Bool} {win t:Int} (h:Yw c f) (hw:384≤win) (hz:Yj z c.1.length=0) (he:z.2.2.2=Yi d) (ht:(thG c z).1≤t∧t≤(thG c z).2):
  ((z.1.1≤f.1∧f.1<z.1.2)→z.2.1≤max f.2.2.2 (0-f.2.2.2)→Jc2 (Va c f win) z.2.2.2 t=true)∧
  (¬(z.1.1≤f.1∧f.1<z.1.2)→max f.2.2.2 (0-f.2.2.2)≤z.2.2.1→Jc2 (Va c f win) z.2.2.2 t=false):=by
 have ef:((f.1.toNat:Nat):Int)=f.1:=by have:=h.2.1;omega
 have hl:f.1.toNat<c.1.length:=by have:=h.2.1;omega
 have hlo:=Jgx (c:=c) (z:=z) (A:=1099511627776) c.1.length
 have ho:=Jhc (e:=Yi d) (k:=f.1.toNat) h.1
 have hZ:=Lm hz
 have hone:=Jyp (d:=d) h
 have hfa:=Fn (d:=d) (win:=win) h hw
 have ea:max (htD c f d) (0-htD c f d)=max f.2.2.2 (0-f.2.2.2)*Du c (Yi d) f.1.toNat:=by
  rw[hone]
  rcases Int.le_total 0 f.2.2.2 with q|q
  ·have:=Int.mul_nonneg q ho.1
   rw[show max f.2.2.2 (0-f.2.2.2)=f.2.2.2 by omega];omega
  ·have:=Int.mul_nonneg (by omega:0≤0-f.2.2.2) ho.1
   have e2:(0-f.2.2.2)*Du c (Yi d) f.1.toNat=0-f.2.2.2*Du c (Yi d) f.1.toNat:=by rw[Int.sub_mul,Int.zero_mul]
   rw[show max f.2.2.2 (0-f.2.2.2)=0-f.2.2.2 by omega];omega
 constructor
 ·intro hin hge
  have hi:=Jsh (c:=c) (z:=z) (A:=1099511627776) hl (by rw[ef];exact hin)
  rw[he] at hi
  have hi:(thG c z).2≤z.2.1*Du c (Yi d) f.1.toNat:=hi
  have hlo:1≤(thG c z).1:=hlo.1
  have m:=Int.mul_le_mul_of_nonneg_right hge ho.1
  have hne:¬htD c f d=0:=fun e=>by
   rw[e] at ea
   have:max (0:Int) (0-0)=0:=by decide
   omega
  unfold Jc2
  rw[he,hfa,if_neg hne]
  show decide (t≤max (htD c f d) (0-htD c f d))=true
  rw[decide_eq_true_iff,ea];omega
 ·intro hout hle
  have hi:=Jlz (c:=c) (z:=z) (A:=1099511627776) hl (by rw[ef];exact hout)
  rw[he] at hi
  have hi:z.2.2.1*Du c (Yi d) f.1.toNat+1≤(thG c z).1:=hi
  have m:=Int.mul_le_mul_of_nonneg_right hle ho.1
  unfold Jc2
  rw[he,hfa]
  split
  ·rfl
  ·show decide (t≤max (htD c f d) (0-htD c f d))=false
   rw[decide_eq_false_iff_not,ea];omega
end Go.Proofs.YthchfepplbcdeaaGreatDoor
namespace Go.Proofs.YthchfepplbcdeaaGreatDoor
instance drOff:Sx.Dr:=Sx.Dr.off
open Go.Sx
set_option maxHeartbeats 20000000
theorem Jmf {c:Cab} (h:(bif false then true else !Hm c)=false):c.1.length≤7∧c.2.1.length≤8:=by
 have h:Hm c=true:=by simpa using h
 unfold Hm at h
 simpa using h
theorem bnT {b c:Bool}:(bif b then true else c)=false↔b=false∧c=false:=by cases b<;>simp
theorem J5x {c:Cab} {f:Flt} (h:Yw c f):tkD c f false=f.2.2.1+Jm c f∧tkD c f true=f.2.2.1+(Ks c.1).2-Jm c f∧(1≤Jm c f∧Jm c f≤384)∧(1≤(Ks c.1).2-Jm c f∧(Ks c.1).2-Jm c f≤384)∧Uu c (Jm c f)=0∧J0 c (Jm c f)=Jf 2 c.1 0 (2*Jm c f):=by
 have h1:tkD c f false=f.2.2.1+Jm c f:=by
  unfold tkD Vt Jbo sg;simp only[cond_false];rw[Hv];omega
 have h2:tkD c f true=f.2.2.1+(Ks c.1).2-Jm c f:=by
  unfold tkD Vt Jbo sg;simp only[cond_true];rw[Fk];omega
 have b1:=Vs (d:=false) h
 have b2:=Vs (d:=true) h
 have e:Uu c (Jm c f)=0:=by
  unfold Uu;rw[if_pos (D3 (Jcl h)).1];exact Jc.2 (by omega)
 refine⟨h1,h2,by omega,by omega,e, ?_⟩
 unfold J0;rw[if_pos e]
theorem Jsf {x:Int×Int} (h:0≤x.1∧x.1≤x.2∧x.2≤999999999):Yf x=0:=by
 unfold Yf
 rw[Jc.2 (by omega),Jc.2 (by omega),decide_eq_false (by omega)];rfl
theorem Ju0 {c:Cab} {f:Flt} (h:Yw c f) {a b:Int×Int} (ha:0≤a.1∧a.1≤tkD c f false∧tkD c f false≤a.2∧a.2≤999999999) (hb:0≤b.1∧b.1≤tkD c f true∧tkD c f true≤b.2∧b.2≤999999999):Jle c a b=0∧Jkw c a b=rr (Jf 2 c.1 0 (Jir c a b)) (Jf 2 c.1 0 (Fa c a b))∧0≤Jir c a b∧Jir c a b≤2*Jm c f∧2*Jm c f≤Fa c a b:=by
 have l:=Jnc h a b (by omega) (by omega)
 have z:Ja [Uc c,Yf a,Yf b]=0:=by rw[(D3 (Jcl h)).1,Jsf (by omega),Jsf (by omega)];rfl
 refine⟨?_, ?_,l⟩
 ·unfold Jle Ju1;rw[if_pos z,if_neg (by omega)]
 ·unfold Jkw J7q;rw[if_pos z,if_neg (by omega)]
def Kfp (p:RR) (q:Int×Int):Prop:=(1≤p.2.1∧p.2.1≤128∧0≤p.1∧p.1≤128000000)∧(1≤p.2.2.2∧p.2.2.2≤128∧0≤p.2.2.1∧p.2.2.1≤128000000)∧p.1*q.2≤q.1*p.2.1∧q.1*p.2.2.2≤p.2.2.1*q.2
theorem J5w {c:Cab} {f:Flt} (h:Yw c f):1≤(J0 c (Jm c f)).2∧(J0 c (Jm c f)).2≤64∧0≤(J0 c (Jm c f)).1∧(J0 c (Jm c f)).1≤64000000:=by
 obtain⟨_,_,p1,_,_,p3⟩:=J5x h
 rw[p3]
 obtain⟨b1,b2,b3,b4,b5⟩:=Xn (n:=2*Jm c f) h.1.2.2.1 h.1.2.1 (by omega)
 have b6:=b5 _ rfl
 omega
theorem Juy {c:Cab} {f:Flt} (h:Yw c f) {a b:Int×Int} (ha:0≤a.1∧a.1≤tkD c f false∧tkD c f false≤a.2∧a.2≤999999999) (hb:0≤b.1∧b.1≤tkD c f true∧tkD c f true≤b.2∧b.2≤999999999):Jle c a b=0∧Kfp (Jkw c a b) (J0 c (Jm c f)):=by
 obtain⟨h1,h2,h3,h4,h5⟩:=Ju0 h ha hb
 obtain⟨_,_,p1,_,_,p3⟩:=J5x h
 refine⟨h1, ?_⟩
 rw[h2,p3]
 obtain⟨b1,b2,b3,b4,_⟩:=Xn (n:=Jir c a b) h.1.2.2.1 h.1.2.1 h3
 obtain⟨c1,c2,c3,c4,_⟩:=Xn (n:=Fa c a b) h.1.2.2.1 h.1.2.1 (by omega)
 exact⟨⟨b1,b2,b3,by show(Jf 2 c.1 0 (Jir c a b)).1≤128000000;omega⟩,⟨c1,c2,c3,by show(Jf 2 c.1 0 (Fa c a b)).1≤128000000;omega⟩,Lz h.1.2.2.1 h3 h4,Lz h.1.2.2.1 (by omega) h5⟩
theorem Juz {c:Cab} {f:Flt} (h:Yw c f):Jle c (tkD c f false,tkD c f false) (tkD c f true,tkD c f true)=0∧Jkw c (tkD c f false,tkD c f false) (tkD c f true,tkD c f true)=rr (J0 c (Jm c f)) (J0 c (Jm c f)):=by
 obtain⟨p1,p2,p3,p4,_,p6⟩:=J5x h
 have ht:=h.2.2.2.1
 obtain⟨h1,h2,_⟩:=Ju0 h (a:=(tkD c f false,tkD c f false)) (b:=(tkD c f true,tkD c f true)) ⟨by dsimp only;omega,Int.le_refl _,Int.le_refl _,by dsimp only;omega⟩ ⟨by dsimp only;omega,Int.le_refl _,Int.le_refl _,by dsimp only;omega⟩
 refine⟨h1, ?_⟩
 rw[h2,(Jis h).1,(Jis h).2,p6]
abbrev mx (n:Int):Int:=max n (0-n)
theorem Jyb {p:RR} {q:Int×Int} (h:Kfp p q) (hq:1≤q.2∧q.2≤64∧0≤q.1∧q.1≤64000000):I64 (p.1*q.2)∧I64 (q.1*p.2.1)∧I64 (p.2.2.1*q.2)∧I64 (q.1*p.2.2.2):=by
 obtain⟨h1,h2,_⟩:=h
 have m1:=H1 (A:=128000000) (B:=64) (a:=p.1) (b:=q.2) ⟨by omega,by omega⟩ ⟨by omega,by omega⟩
 have m2:=H1 (A:=64000000) (B:=128) (a:=q.1) (b:=p.2.1) ⟨by omega,by omega⟩ ⟨by omega,by omega⟩
 have m3:=H1 (A:=128000000) (B:=64) (a:=p.2.2.1) (b:=q.2) ⟨by omega,by omega⟩ ⟨by omega,by omega⟩
 have m4:=H1 (A:=64000000) (B:=128) (a:=q.1) (b:=p.2.2.2) ⟨by omega,by omega⟩ ⟨by omega,by omega⟩
 simp only[I64];omega
set_option pp.deepTerms true
set_option pp.maxSteps 1000000
def ydE (y:Yd):Int:=Ja [Ja [bif (y.1.length:Int)==0 then 12 else 0,J9 (fun x:Sec=>x.1) (fun _=>0) 8 y.1],J9 (fun x:Sw=>x.1) (swE y) 8 y.2.1,J9 (fun x:Pm=>x.1) (knE y) 8 y.2.2,bif !Jez y then 22 else 0]
theorem Jbg {α:Type} {nm:α→ByteArray} {ck:α→Int}:∀{l:List α} {seen:List ByteArray},Ub nm ck seen l=0→∀x∈l,ck x=0
 |[],_,_,x,hx=>by cases hx
 | a :: r, seen, h, x, hx => by
  simp only[Ub] at h
  split at h
  ·rename_i e
   have e2:ck a=0:=by
    simp only[Ja] at e
    split at e
    ·split at e
     ·rename_i q;exact q
     ·exact e
    ·rename_i q;exact absurd e q
   rcases List.mem_cons.1 hx with rfl|hx
   ·exact e2
   ·exact Jbg h x hx
  ·rename_i e;exact absurd h e
theorem Uj {α:Type} {nm:α→ByteArray} {ck:α→Int} {l:List α} (h:J9 nm ck 8 l=0):l.length≤8∧∀x∈l,ck x=0:=by
 unfold J9 at h
 by_cases q:(8:Int)<l.length
 ·rw[decide_eq_true q] at h;cases h
 ·rw[decide_eq_false q] at h
  exact⟨by omega,Jbg h⟩
def smN {α:Type} (nm:α→ByteArray) (l:List α):Prop:=l.length≤1000000∧∀x∈l,(nm x).size≤1000000
def Jph (y:Yd):Prop:=smN (fun x:Sec=>x.1) y.1∧smN (fun x:Sw=>x.1) y.2.1∧smN (fun x:Pm=>x.1) y.2.2
def Kfz:Con:={args:=[aYd],ress:=[I],owns:=[],pre:=fun(y,_)=>[Jph y],spec:=fun(y,_)=>(ydE y,())}
def Kdy (a:Yd) (b:Bt×Bool):=b∈a.1
def Kbh (a:Yd):=∀(x:ByteArray×Bool),Kdy a x→True
def Kax (a:Yd):=Ja [bif Z27 a==0 then 12 else 0,J9 (fun(x:ByteArray×Bool)=>x.1) (fun(x:ByteArray×Bool)=>0) 8 a.1]
def Kao (a:Yd):=J9 (fun(x:ByteArray×Int)=>x.1) (fun(x:ByteArray×Int)=>knE (Vb a) x) 8 a.2.2
def J97 (a:Yd):=J9 (fun(x:ByteArray×ByteArray×Int×Int×Bool)=>x.1) (fun(x:ByteArray×ByteArray×Int×Int×Bool)=>swE (Vb a) x) 8 a.2.1
def J2e (a:Yd):=∀(x:ByteArray×ByteArray×Int×Int×Bool),Jwc a x→True
def J13 (a:Yd):=Zo a∧Z42 a≤8∧J0b a
theorem Kg9 (y:Yd):wpF Tryz.prog Kfa.g (na ()) Tryz.f78 Kfz (y,()):=by
 refine(by kernel_rfl:(Jph y→(Z87 y∧Kbh y∧(∀(x:ByteArray×Bool),Kdy y x→ByteArray.size x.1≤1000000)∧Kbh y∧2≤1000000)∧Br (Kax y !=0) (Kax y=ydE y) ((Jpn y∧J2e y∧(∀(x:ByteArray×ByteArray×Int×Int×Bool),Jwc y x→ByteArray.size x.1≤1000000)∧∀(x:ByteArray×ByteArray×Int×Int×Bool),Jwc y x→Z87 y)∧Br (J97 y !=0) (J97 y=ydE y) ((Z88 y∧(∀(x:ByteArray×Int),Jr2 y x→True)∧(∀(x:ByteArray×Int),Jr2 y x→ByteArray.size x.1≤1000000)∧∀(x:ByteArray×Int),Jr2 y x→Z87 y)∧Br (Kao y !=0) (Kao y=ydE y) (J13 y∧(bif !Jez (Vb y) then 22 else 0)=ydE y))))=_).mp ?_
 delta Z27 Z42 Z87 Z88 Jt6 Jpn Jr2 Kdy Vb Zo Jxh Kbh Kax Kao Jwc J97 J0b J2e J13 Br Ln E2
 rintro⟨⟨a1,a2⟩,⟨b1,b2⟩,c1,c2⟩
 have fs:∀a b c d:Int,Ja [a,b,c,d]=if a=0 then(if b=0 then(if c=0 then d else c) else b) else a:=fun a b c d=>by
  by_cases ha:a=0<;>by_cases hb:b=0<;>by_cases hc:c=0<;>by_cases hd:d=0<;>simp[Ja,ha,hb,hc,hd]
 refine⟨⟨a1,fun _ _=>trivial,a2,fun _ _=>trivial,by decide⟩,fun h=> ?_,fun h=>⟨⟨b1,fun _ _=>trivial,b2,fun _ _=>a1⟩,fun k=> ?_,fun k=>⟨⟨c1,fun _ _=>trivial,c2,fun _ _=>a1⟩,fun m=> ?_,fun m=> ?_⟩⟩⟩
 ·unfold ydE;rw[fs,if_neg (Kh.1 h)]
 ·have h:=Jz.1 h
  unfold ydE;rw[fs,if_pos h]
  exact(if_neg (Kh.1 k)).symm
 ·have h:=Jz.1 h
  have k:=Jz.1 k
  unfold ydE;rw[fs,if_pos h]
  exact((if_pos k).trans (if_neg (Kh.1 m))).symm
 ·have h:=Jz.1 h
  have k:=Jz.1 k
  have m:=Jz.1 m
  have q1:J9 (fun x:Sec=>x.1) (fun _=>0) 8 y.1=0:=by
   simp only[Ja] at h
   split at h
   ·split at h
    ·rename_i q;exact q
    ·exact h
   ·rename_i q;exact absurd h q
  have k1:=Uj k
  have m1:=Uj m
  have n1:=Uj q1
  refine⟨⟨⟨⟨n1.1,k1.1⟩,k1.2⟩,m1.1,fun x hx=> ?_⟩, ?_⟩
  ·have:=m1.2 x hx
   unfold knE at this
   cases e:Uq y x.2 with
   |true=>rfl
   |false=>
    have this:(bif !Uq y x.2 then(10:Int) else 0)=0:=this
    rw[e] at this;cases this
  ·unfold ydE;rw[fs,if_pos h]
   exact((if_pos k).trans (if_pos m)).symm
theorem Kim:Ok Tryz.prog 78 Kfz:=Je mixed Kfa.ok (by kernel_rfl) (by kernel_rfl) na fun xx=>Kg9 xx.1
abbrev Kk4:=Kfa.add Kim
theorem L1:∀{s:Sch} {M:Nat→Prop} {w:World} {x:s.T} {cs:List Value},s.hasList=false→Rep M w s x cs→∀u∈cs,u.oneCell'=true
 | .int _,_,_,_,_,_,h,u,hu=>by rw[show _=[_] from h] at hu;rw[List.mem_singleton.1 hu];rfl
 | .bool,_,_,_,_,_,h,u,hu=>by rw[show _=[_] from h] at hu;rw[List.mem_singleton.1 hu];rfl
 | .str,_,_,_,_,_,h,u,hu=>by rw[show _=[_] from h] at hu;rw[List.mem_singleton.1 hu];rfl
 | .flt _,_,_,_,_,_,h,u,hu=>by rw[show _=[_] from h] at hu;rw[List.mem_singleton.1 hu];rfl
 | .fnc,_,_,_,_,hl,_,_,_=>by cases hl
 | .prod a b,_,_,_,_,hl,⟨c1,c2,e,h1,h2⟩,u,hu=>by
  simp only[Sch.hasList,Bool.or_eq_false_iff] at hl
  rw[e] at hu
  rcases List.mem_append.1 hu with hu|hu
  ·exact L1 hl.1 h1 u hu
  ·exact L1 hl.2 h2 u hu
 | .list _ _,_,_,_,_,hl,_,_,_=>by cases hl
theorem Jae {s:Sch} {M:Nat→Prop} {w:World} (hs:s.hasList=false):∀{xs:List s.T} {cs:List Value},Kz (Rep M w s) xs cs→∀u∈cs,u.oneCell'=true
 |[],_,h,u,hu=>by rw[show _=[] from h] at hu;cases hu
 |x::xs,_,⟨c1,c2,e,h1,h2⟩,u,hu=>by
  rw[e] at hu
  rcases List.mem_append.1 hu with hu|hu
  ·exact L1 hs h1 u hu
  ·exact Jae hs h2 u hu
def Jct (T:TypeId) (s:Sch):Con:={args:=[.val false (.list T s)],ress:=[(false, .list T s)],owns:=[true],pre:=fun(l,_)=>[l.length≤1000000],spec:=fun(l,_)=>(l,())}
theorem Jjl {f:FuncId} {T:TypeId} {s:Sch} (hs:s.hasList=false) (hz:s.size=2) (hE:Sx.Enters Tryz.prog f)
  (h0:∀w,Calls Tryz.prog f #[.slice none 0 0] w fun e w'=>e= .returned (.slice none 0 0)∧w'=w)
  (h1:∀(ad:Addr) (c:Nat) (w:World),Calls Tryz.prog f #[.slice (some ad) 0 c] w fun e w'=>∃v',e= .returned v'∧w'.ownsRow w.heap.size T 2 v' 0 []∧v'≠ .slice none 0 0∧RowKit.Below w.heap.size w w')
  (h2:∀(b off n c:Nat) (news:List Value) (w:World),news.length=n*2→n≤maxLen→n*24≤140737488355328→(∀j u,news[j]? =some u→w.cell? ⟨b,off+j,none⟩=some u)→(∀u∈news,u.oneCell'=true)→Calls Tryz.prog f #[.slice (some ⟨b,off,none⟩) n c] w fun e w'=>∃v',e= .returned v'∧w'.ownsRow w.heap.size T 2 v' n news∧v'≠ .slice none 0 0∧RowKit.Below w.heap.size w w'):
  Ok Tryz.prog f (Jct T s):=by
 refine⟨hE,fun z hz=>(by cases hz),fun F hF=>(by cases hF),fun _ x M R w vs hM hg hpre hargs=> ?_⟩
 obtain⟨l,u⟩:=x
 obtain⟨v1,vs1,rfl,⟨cs,rfl,hr⟩,hn⟩:=hargs
 have hn:vs1=[]:=hn
 subst hn
 obtain⟨v,flat,rfl,g1,g2⟩:=hr
 have hl:l.length≤1000000:=hpre
 have hlen:=Kz.length g1
 have fin:∀(v':Value) (w':World),w'.ownsRow w.heap.size T 2 v' l.length flat→RowKit.Below w.heap.size w w'→Jj7 M w (Jct T s).ress (Jct T s).owns ((Jct T s).spec (l,u)) (.returned v') w':=by
  intro v' w' ho hb
  refine⟨M,[v'],rfl, .ofK hb,fun _ h=>h,fun b h=> .inl h,_,[],rfl,⟨flat,g1.imp fun _ _ h=>Vo hs h,by rw[hz];exact ho,fun g hg' hMg=> ?_⟩,rfl⟩
  rcases ho.2 with⟨rfl,_⟩|⟨g',cap,cur,rfl,hbg,_⟩
  ·cases hg'
  ·have:g'=g:=Option.some.inj hg'
   have:=hM g (.inl hMg)
   omega
 rcases g2 with⟨rfl|⟨ad,cap,rfl⟩,h00⟩|⟨b,off,cap,rfl,hcap,hk,hm⟩
 ·have:l=[]:=List.eq_nil_of_length_eq_zero h00
  subst this
  have hf:flat=[]:=List.eq_nil_of_length_eq_zero (by simpa using hlen)
  subst hf
  refine(h0 w).mono ?_
  rintro e w' ⟨rfl,rfl⟩
  exact fin _ _ ⟨rfl, .inl ⟨rfl,rfl⟩⟩ (RowKit.Below.refl _ _)
 ·have:l=[]:=List.eq_nil_of_length_eq_zero h00
  subst this
  have hf:flat=[]:=List.eq_nil_of_length_eq_zero (by simpa using hlen)
  subst hf
  refine(h1 ad cap w).mono ?_
  rintro e w' ⟨v',rfl,ho,_,hb⟩
  exact fin _ _ ho hb
 ·refine(h2 b off l.length cap flat w (by rw[hlen,hz]) (by show l.length≤9223372036854775807;omega) (by omega) (fun j u hj=>hk j u hj) (Jae hs g1)).mono ?_
  rintro e w' ⟨v',rfl,ho,_,hb⟩
  exact fin _ _ ho hb
theorem J6l:Ok Tryz.prog 154 (Jct 135 Jig):=Jjl rfl rfl ⟨Tryz.f154,by kernel_rfl,by kernel_rfl,by kernel_rfl⟩ Tryz.clone154_nil Tryz.clone154_zero Tryz.clone154
theorem J6k:Ok Tryz.prog 155 (Jct 206 sPm):=Jjl rfl rfl ⟨Tryz.f155,by kernel_rfl,by kernel_rfl,by kernel_rfl⟩ Tryz.clone155_nil Tryz.clone155_zero Tryz.clone155
abbrev Kk3:=Kk4.add J6l
abbrev Ke9:=Kk3.add J6k
def Kfw (x:Sw):Sw:=(x.1,x.2.1,x.2.2.1,x.2.2.2.1, !x.2.2.2.2)
def mvS (y:Yd) (i:Int):Yd:=(y.1,y.2.1.set i.toNat (Kfw (y.2.1.getD i.toNat dSw)),y.2.2)
def cMv:Con:={args:=[aYd,aI],ress:=[(true,sYd)],owns:=[],pre:=fun(y,i,_)=>[y.1.length≤1000000,y.2.1.length≤1000000,y.2.2.length≤1000000,0≤i∧i<y.2.1.length],spec:=fun(y,i,_)=>(mvS y i,())}
def Jwp (a:Yd):=Ln a.2.1
def J04 (a:Yd):=Ln a.2.1
def J4f (a:Yd):=List.length a.2.1
def J0z (a:Int) (b:Yd):=Bd a (J04 b)
def J0y (a:Int) (b:Yd):=Bd a (Jwp b)
def Kee (a:Yd):=Jwp a≤1000000
def J35 (a:Yd):=J4f a≤1000000
def Kdi (a:Yd) (b:Int):=Gt a.2.1 b Z49
def Kdd (a:Yd) (b:Int):=(Kdi a b).2
def Kc7 (a:Yd) (b:Int):=(Kdd a b).2
def Kc0 (a:Yd) (b:Int):=(Kc7 a b).2
theorem Kg7 (y:Yd) (i:Int):wpFG Tryz.prog Ke9.g (na ()) (fun _=>na ()) (Sx.look ([(118,Tryz.f118)]:List (Nat×Func))) Tryz.f81 cMv (y,i,()):=by
 refine(by kernel_rfl:(Z81 y→J35 y→Z43 y≤1000000→J0y i y→((0≤Jwp y∧Kee y)∧Jwp y≤Jwp y∧Kee y)∧Jt6 y=List.length (List.replicate (J4f y) Z49)∧(Z87 y∧Z88 y)∧T2 (J0z i y) (Tw (J0z i y))∧Sf true ((y.1,List.set y.2.1 (Int.toNat i) ((Kdi y i).1,(Kdd y i).1,(Kc7 y i).1,(Kc0 y i).1, !(Kc0 y i).2),y.2.2)=mvS y i))=_).mp ?_
 delta Z42 Z43 Z49 Z81 Z87 Z88 Jwp J04 J4f Jt6 J0z J0y Kee J35 Kdi Kdd Kc7 Kc0 Bd T2 Tw Sf Ln Gt B0
 exact fun h1 h2 h3 h4=>⟨⟨by omega,by omega,by omega⟩,by simp,⟨h1,h3⟩,⟨h4,h4,h4,h4⟩,rfl,rfl⟩
theorem Kij:Ok Tryz.prog 81 cMv:=Vz mixed Ke9.ok (by kernel_rfl) (by kernel_rfl) (H2 (l:=([(118,Tryz.f118)]:List (Nat×Func))) (List.forall_mem_cons.2 ⟨by kernel_rfl,by simp⟩)) (fun xx=>na ()) (fun xx=>fun _=>na ()) fun xx=>Kg7 xx.1 xx.2.1
abbrev Kgm:=Ke9.add Kij
def Kkv:Con:={args:=[.val false (.list 3 sI), .val false (.list 3 sI)],ress:=[Bo],owns:=[],pre:=fun(l,m,_)=>[l.length≤1000000,m.length≤1000000],spec:=fun(l,m,_)=>(l==m,())}
abbrev Jz0 (l m:List Int):Ann:={X:=Nat,σ:=fun k=>⟨2,[(0, .one (.sl 0)),(1, .one (.sl 1)),(12, .one (.int .i64 l.length)),(13, .one (.int .i64 k))],[(0, .imm 3 sI l),(1, .imm 3 sI m)]⟩,inv:=fun k=>k≤l.length∧l.length=m.length∧l.take k=m.take k,mu:=fun k=>l.length-k}
theorem J66:Ok Tryz.prog 120 Kkv:=okW Kgm Tryz.f120 (fun xx=>Vi (Jz0 xx.1 xx.2.1)) fun xx=>by
 obtain⟨(l:List Int),(m:List Int),_⟩:=xx
 refine(by kernel_rfl:(Z12 l→Z12 m→Br (J4g l m) (false=(l==m)) (∃(x:Nat),Si (Ln l) (0=Nc x∧Sf l (m=m))∧Jwh x l m∧∀(x:Nat),Jwh x l m→Br (Z28 x l) (T2 (Bd (Nc x) (Ln l)) (Z22 x m)∧Br (J3y l x m) (false=(l==m)) (Z1 x∧∃(y:Nat),Si (Ln l) (Z25 x y∧Sf l (m=m))∧J2v y l m x)) (true=(l==m))))=_).mp ?_
 delta Z1 Z3 Z12 Z22 Z25 Z28 Z86 J4g Jwh J3y J2v Br Iw Bd T2 Tw Sf Si Ln Nc
 intro h1 h2
 refine⟨fun h=> ?_,fun h=>⟨(0:Nat),⟨rfl,rfl,rfl,rfl⟩,⟨Nat.zero_le _,by have:=bne_eq_false_iff_eq.1 h;omega,rfl⟩,fun(k:Nat) hk=>⟨fun e=> ?_,fun e=> ?_⟩⟩⟩
 ·have h:=bne_iff_ne.1 h
  exact(beq_eq_false_iff_ne.2 fun q=>h (by rw[q])).symm
 ·obtain⟨k1,k2,k3⟩:=hk
  have hlt:k<l.length:=by simpa using e
  have hlm:k<m.length:=by omega
  refine⟨⟨by omega,by omega,by omega,by omega⟩,fun h=> ?_,fun h=>⟨by omega,(k+1:Nat),⟨rfl,by simp,rfl,rfl⟩,⟨by omega,k2, ?_⟩,by omega⟩⟩
  ·have h:=bne_iff_ne.1 h
   exact(beq_eq_false_iff_ne.2 fun q=>h (by rw[q])).symm
  ·have h:=bne_eq_false_iff_eq.1 h
   rw[←Jy (d:=0) hlt,←Jy (d:=0) hlm,k3,h]
 ·obtain⟨k1,k2,k3⟩:=hk
  have hge:¬k<l.length:=by simpa using e
  rw[List.take_of_length_le (by omega),List.take_of_length_le (by omega)] at k3
  rw[k3];simp
abbrev Ke8:=Kgm.add J66
def Jm0 (y:Yd):Prop:=y.2.2.length≤8∧∀x∈y.2.2,Uq y x.2=true
def Jx7:ByteArray:=⟨#[108,111,97,100]⟩
def Jsm:ByteArray:=⟨#[115,104,111,114,116]⟩
def Jso:ByteArray:=⟨#[97,112,97,114,116]⟩
def Jmk:ByteArray:=⟨#[112,101,114,109,105,116]⟩
def ldB (b a:Yd) (x:Sw):Bool:=bif x.2.1.toList==Jw3.toList then !(Vu (enB b) b.1.length==Vu (enB a) a.1.length) else false
def apB (a:Yd) (x:Sw):Bool:=bif (bif x.2.1.toList==Jkl.toList then !x.2.2.2.2 else false) then !Jul a x.2.2.1 else false
def cLk (f:Yd→Yd→Sw→Bool):Con:={args:=[aYd,aYd, .val true sSw],ress:=[Bo],owns:=[],pre:=fun(b,a,x,_)=>[Xf b,Xf a,Jm0 a,Uq a x.2.2.1=true],spec:=fun(b,a,x,_)=>(f b a x,())}
def J3c (a:Sw):=J0p a=true
def J2p (a:Yd):=Vu (fun(i:Int)=>J0n a i) (List.length a.1)
def Kaq (a:Sw) (b:Yd):=J3c a→Z87 b
def J9k (a:Sw) (b:Yd):=J3c a→List.length (J2p b)≤1000000
def J88 (a:Sw) (b:Yd):=J3c a→J15 b
theorem J5e (b a:Yd) (x:Sw):wpF Tryz.prog Ke8.g (na ()) Tryz.f119 (cLk ldB) (b,a,x,()):=by
 refine(by kernel_rfl:(Xf b→Xf a→Jm0 a→Uq a x.2.2.1=true→(Kaq x b∧J88 x b∧Kaq x a∧J88 x a∧J9k x b∧J9k x a)∧(bif J0p x then !J2p b==J2p a else false)=ldB b a x)=_).mp ?_
 delta Z87 J0t Vb J0p Zo J0n J3c Jek J2p Kaq J0c J9k J15 J88 Lb E2
 intro hb ha _ _
 have l1:=Fw (fun i=>enB b i) b.1.length
 have l2:=Fw (fun i=>enB a i) a.1.length
 have b1:=hb.1.1
 have a1:=ha.1.1
 exact⟨⟨fun _=>Nat.le_trans b1 (by decide),fun _ _ hi=>⟨hb,hi⟩,fun _=>Nat.le_trans a1 (by decide),fun _ _ hi=>⟨ha,hi⟩,fun _=>Nat.le_trans l1 (by omega),fun _=>Nat.le_trans l2 (by omega)⟩,rfl⟩
theorem J67:Ok Tryz.prog 119 (cLk ldB):=Je mixed Ke8.ok (by kernel_rfl) (by kernel_rfl) na fun xx=>J5e xx.1 xx.2.1 xx.2.2.1
abbrev Ke7:=Ke8.add J67
theorem J5b (b a:Yd) (x:Sw):wpF Tryz.prog Ke7.g (na ()) Tryz.f123 (cLk (fun _ a _=>V7 a)) (b,a,x,()):=by
 refine(by kernel_rfl:(Xf b→Xf a→Jm0 a→Uq a x.2.2.1=true→Zo a∧J3i a=V7 a)=_).mp ?_
 delta Vb Zo J3i E2
 exact fun _ h _ _=>⟨h,rfl⟩
theorem J63:Ok Tryz.prog 123 (cLk (fun _ a _=>V7 a)):=Je mixed Ke7.ok (by kernel_rfl) (by kernel_rfl) na fun xx=>J5b xx.1 xx.2.1 xx.2.2.1
abbrev Ke6:=Ke7.add J63
def Kcg (a:Sw):=bif Jwj a then !a.2.2.2.2 else false
def Kb0 (a:Sw):=Kcg a=true
theorem J49 (b a:Yd) (x:Sw):wpF Tryz.prog Ke6.g (na ()) Tryz.f125 (cLk (fun _ a x=>apB a x)) (b,a,x,()):=by
 refine(by kernel_rfl:(Xf b→Xf a→Jm0 a→Uq a x.2.2.1=true→((Kb0 x→Zo a)∧(Kb0 x→J3a a x=true))∧(bif Kcg x then !Jul (Vb a) x.2.2.1 else false)=apB a x)=_).mp ?_
 delta Jt5 Jwj Vb Zo Kcg J3a Kb0 Lb E2
 exact fun _ h _ h3=>⟨⟨fun _=>h,fun _=>h3⟩,rfl⟩
theorem J61:Ok Tryz.prog 125 (cLk (fun _ a x=>apB a x)):=Je mixed Ke6.ok (by kernel_rfl) (by kernel_rfl) na fun xx=>J49 xx.1 xx.2.1 xx.2.2.1
abbrev Ke5:=Ke6.add J61
theorem J47 (b a:Yd) (x:Sw):wpF Tryz.prog Ke5.g (na ()) Tryz.f127 (cLk (fun _ a _=>L0 a)) (b,a,x,()):=by
 refine(by kernel_rfl:(Xf b→Xf a→Jm0 a→Uq a x.2.2.1=true→J13 a∧J3m a=L0 a)=_).mp ?_
 delta Z42 Jr2 Vb Zo J3m Jxh J0b J13 E2
 exact fun _ h h2 _=>⟨⟨h,h2.1,h2.2⟩,rfl⟩
theorem J6z:Ok Tryz.prog 127 (cLk (fun _ a _=>L0 a)):=Je mixed Ke5.ok (by kernel_rfl) (by kernel_rfl) na fun xx=>J47 xx.1 xx.2.1 xx.2.2.1
abbrev Ke4:=Ke5.add J6z
theorem Jp4 {y:Yd} {x:Sw} (h:swE y x=0):Uq y x.2.2.1=true:=by
 unfold swE at h
 cases hk:D9 x.2.1 with
 |false=>rw[hk] at h;cases h
 | true =>
  rw[hk] at h
  cases a:Uq y x.2.2.1 with
  |true=>rfl
  |false=>
   cases hx:(x.2.1.toList==Jkl.toList) with
   |true=>rw[hx,a] at h;cases h
   |false=>rw[hx,a] at h;cases h
theorem Jyf {y:Yd} {i:Int} (h:Xf y) (hi:0≤i∧i<y.2.1.length):Xf (mvS y i):=by
 refine⟨⟨h.1.1, ?_⟩,fun x hx=> ?_⟩
 ·show(y.2.1.set _ _).length≤8
  rw[List.length_set];exact h.1.2
 ·have hx:x∈y.2.1.set i.toNat (Kfw (y.2.1.getD i.toNat dSw)):=hx
  rcases List.mem_or_eq_of_mem_set hx with hx|rfl
  ·exact h.2 x hx
  ·have hk:i.toNat<y.2.1.length:=by omega
   have e:swE y (y.2.1.getD i.toNat dSw)=0:=h.2 _ (Jj (d:=dSw) hk)
   exact e
def Jem (y:Yd) (i:Int):ByteArray:=
 bif ldB y (mvS y i) (y.2.1.getD i.toNat dSw) then Jx7 else bif V7 (mvS y i) then Jsm else bif apB (mvS y i) (y.2.1.getD i.toNat dSw) then Jso else bif L0 (mvS y i) then Jmk else eB
def Jy3:Con:={args:=[aYd,aI],ress:=[tS],owns:=[],pre:=fun(y,i,_)=>[Xf y,Jm0 y,0≤i∧i<y.2.1.length],spec:=fun(y,i,_)=>(Jem y i,())}
abbrev Jtr:Nat→Option Ann:=fun i=>if i=0 then some {X:=Unit,σ:=fun _=>⟨0,[],[]⟩,inv:=fun _=>True,mu:=fun _=>0,un:=5} else none
def Z41 (a:Yd) (b:Int):=Sf true (B0=Jem a b)
def Kdg (a:Yd) (b:Int):=Gt a.2.1 b Z49
def Kdc (a:Yd) (b:Int):=(Kdg a b).2
def Kc6 (a:Yd) (b:Int):=(Kdc a b).2
def Kc2 (a:Yd) (b:Int):=(Kc6 a b).1
def Kcp (a:Yd) (b:Int):=mvS (Vb a) b
def Jt1 (a:Yd) (b:Int):=((Kcp a b).1,E2 (Kcp a b).2)
def J9b (a:Yd) (b:Int):=((Kdg a b).1,(Kdc a b).1,Kc2 a b,E2 (Kc6 a b).2)
def Jz5 (a:Int) (b:Yd):=T2 (J0y a b) (Zo b∧Xf (Jt1 b a)∧Jm0 (Jt1 b a)∧Uq (Jt1 b a) (Kc2 b a)=true)
theorem Khg (y:Yd) (i:Int):wpFG Tryz.prog Ke4.g (Jtr) (fun _=>na ()) (Sx.look ([(82,Tryz.f82)]:List (Nat×Func))) Tryz.f56 Jy3 (y,i,()):=by
 refine(by kernel_rfl:(Xf y→Jm0 y→J0y i y→(Z87 y∧Jpn y∧Z88 y∧J0z i y)∧Br true (Jz5 i y∧Br (ldB (Vb y) (Jt1 y i) (J9b y i)) (Sf true (ByteArray.mk (Array.mk [108,111,97,100])=Jem y i)) (Z5∧Br true (Jz5 i y∧Br (V7 (Jt1 y i)) (Sf true (ByteArray.mk (Array.mk [115,104,111,114,116])=Jem y i)) (Z55∧Br true (Jz5 i y∧Br (apB (Jt1 y i) (J9b y i)) (Sf true (ByteArray.mk (Array.mk [97,112,97,114,116])=Jem y i)) (Z96∧Br true (Jz5 i y∧Br (L0 (Jt1 y i)) (Sf true (ByteArray.mk (Array.mk [112,101,114,109,105,116])=Jem y i)) (Iw (Z78+1)∧Br false False (Z41 y i))) (Z41 y i))) (Z41 y i))) (Z41 y i))) (Z41 y i))=_).mp ?_
 delta Z5 Z41 Z42 Z49 Z55 Z78 Z87 Z88 Z96 Jwp J04 Jt6 J0z J0y Jpn Vb Kdg Kdc Kc6 Kc2 Zo Kcp Jt1 J9b Jz5 Br Iw Bd T2 Sf Ln Gt B0 E2
 intro hy hm hi
 have hM:=Jyf hy hi
 have hP:Jm0 (mvS y i):=hm
 have hA:Uq (mvS y i) (y.2.1.getD i.toNat dSw).2.2.1=true:=Jp4 (hy.2 _ (Jj (d:=dSw) (show i.toNat<y.2.1.length by omega)))
 have l1:y.1.length≤1000000:=Nat.le_trans hy.1.1 (by decide)
 have l2:y.2.1.length≤1000000:=Nat.le_trans hy.1.2 (by decide)
 have l3:y.2.2.length≤1000000:=Nat.le_trans hm.1 (by decide)
 have w1:ldB y (mvS y i) (y.2.1.getD i.toNat dSw)=true→Jx7=Jem y i:=fun a=>by unfold Jem;rw[a];rfl
 have w2:ldB y (mvS y i) (y.2.1.getD i.toNat dSw)=false→V7 (mvS y i)=true→Jsm=Jem y i:=fun a b=>by unfold Jem;rw[a,b];rfl
 have w3:ldB y (mvS y i) (y.2.1.getD i.toNat dSw)=false→V7 (mvS y i)=false→apB (mvS y i) (y.2.1.getD i.toNat dSw)=true→Jso=Jem y i:=fun a b c=>by unfold Jem;rw[a,b,c];rfl
 have w4:ldB y (mvS y i) (y.2.1.getD i.toNat dSw)=false→V7 (mvS y i)=false→apB (mvS y i) (y.2.1.getD i.toNat dSw)=false→L0 (mvS y i)=true→Jmk=Jem y i:=fun a b c d=>by unfold Jem;rw[a,b,c,d];rfl
 have w5:ldB y (mvS y i) (y.2.1.getD i.toNat dSw)=false→V7 (mvS y i)=false→apB (mvS y i) (y.2.1.getD i.toNat dSw)=false→L0 (mvS y i)=false→eB=Jem y i:=fun a b c d=>by unfold Jem;rw[a,b,c,d];rfl
 repeat' first|exact hi|exact hy|exact hM|exact hP|exact hA|exact l1|exact l2|exact l3|refine And.intro ?_ ?_|refine fun _=> ?_
 all_goals first
  |decide
  |exact absurd (by assumption:false=true) Bool.false_ne_true
  |exact absurd (by assumption:true=false) (fun h=>Bool.noConfusion h)
  |rfl
  |exact w1 (by assumption)
  |exact w2 (by assumption) (by assumption)
  |exact w3 (by assumption) (by assumption) (by assumption)
  |exact w4 (by assumption) (by assumption) (by assumption) (by assumption)
  |exact w5 (by assumption) (by assumption) (by assumption) (by assumption)
theorem Ki7:Ok Tryz.prog 56 Jy3:=Vz mixed Ke4.ok (by kernel_rfl) (by kernel_rfl) (H2 (l:=([(82,Tryz.f82)]:List (Nat×Func))) (List.forall_mem_cons.2 ⟨by kernel_rfl,by simp⟩)) (fun xx=>Jtr) (fun xx=>fun _=>na ()) fun xx=>Khg xx.1 xx.2.1
abbrev Ke3:=Ke4.add Ki7
theorem J5f (x:Sw) (n:ByteArray):wpF Tryz.prog Ke3.g (na ()) Tryz.f117 ({args:=[.val true sSw, .ref 9 .str],ress:=[Bo],owns:=[],pre:=fun _=>[],spec:=fun(x,n,_)=>(x.1.toList==n.toList,())}) (x,n,()):=by
 refine(by kernel_rfl:(Lb x.1 n=Lb x.1 n)=_).mp ?_
 delta Lb
 first|rfl|exact⟨trivial,rfl⟩
theorem J68:Ok Tryz.prog 117 ({args:=[.val true sSw, .ref 9 .str],ress:=[Bo],owns:=[],pre:=fun _=>[],spec:=fun(x,n,_)=>(x.1.toList==n.toList,())}):=Je mixed Ke3.ok (by kernel_rfl) (by kernel_rfl) na fun xx=>J5f xx.1 xx.2.1
abbrev Ke2:=Ke3.add J68
def Jtq (y:Yd) (n:ByteArray):Int:=ixG (fun x:Sw=>x.1.toList==n.toList) y.2.1 0
def Kgf:Con:={args:=[aYd,aS],ress:=[I],owns:=[],pre:=fun(y,_)=>[y.2.1.length≤1000000],spec:=fun(y,n,_)=>(Jtq y n,())}
theorem Kg8 (y:Yd) (n:ByteArray):wpF Tryz.prog Ke2.g (na ()) Tryz.f79 Kgf (y,n,()):=by
 refine(by kernel_rfl:(J35 y→(Jpn y∧J2e y)∧ixG (fun(x:ByteArray×ByteArray×Int×Int×Bool)=>List.beq (ByteArray.toList x.1) (ByteArray.toList n)) y.2.1 0=Jtq y n)=_).mp ?_
 delta J4f Jt6 J35 Jpn Jwc J2e
 exact fun h=>⟨⟨h,fun _ _=>trivial⟩,rfl⟩
theorem Kil:Ok Tryz.prog 79 Kgf:=Je mixed Ke2.ok (by kernel_rfl) (by kernel_rfl) na fun xx=>Kg8 xx.1 xx.2.1
abbrev Ke1:=Ke2.add Kil
def fnE (y:Yd) (n:ByteArray):Int:=if ydE y=0 then(bif decide (Jtq y n<0) then 10 else 0) else ydE y
def fnI (y:Yd) (n:ByteArray):Int:=if ydE y=0 then Jtq y n else 0
def Jzl:Con:={args:=[aYd,aS],ress:=[I,I],owns:=[],pre:=fun(y,_)=>[Jph y],spec:=fun(y,n,_)=>(fnI y n,fnE y n,())}
def Kcz (a:Yd):=ydE (Vb a)
def J3n (a:Yd):=Jph (Vb a)
def Kch (a:Yd) (b:Bt):=Jtq (Vb a) b
theorem Khh (y:Yd) (n:ByteArray):wpF Tryz.prog Ke1.g (na ()) Tryz.f55 Jzl (y,n,()):=by
 refine(by kernel_rfl:(Jph y→J3n y∧Br (Kcz y !=0) (0=fnI y n∧Kcz y=fnE y n) (Jpn y∧Kch y n=fnI y n∧(bif decide (Kch y n<0) then 10 else 0)=fnE y n))=_).mp ?_
 delta Jt6 Jpn Vb Kcz J3n Kch Br E2
 intro h
 refine⟨h,fun k=> ?_,fun k=> ?_⟩
 ·have k:¬ydE y=0:=Kh.1 k
  unfold fnI fnE;rw[if_neg k,if_neg k];exact⟨rfl,rfl⟩
 ·have k:ydE y=0:=Jz.1 k
  unfold fnI fnE;rw[if_pos k,if_pos k];exact⟨h.2.1.1,rfl,rfl⟩
theorem Ki8:Ok Tryz.prog 55 Jzl:=Je mixed Ke1.ok (by kernel_rfl) (by kernel_rfl) na fun xx=>Khh xx.1 xx.2.1
abbrev Ke0:=Ke1.add Ki8
theorem Jsy {α:Type} (f:α→Bool):∀(l:List α) (k:Int),0≤k→ixG f l k<k+(l.length:Int)∨ixG f l k<0
 |[],k,_=> .inr (by show(-1:Int)<0;decide)
 | x :: r, k, hk => by
  simp only[ixG,List.length_cons]
  split
  ·exact .inl (by omega)
  ·rcases Jsy f r (k+1) (by omega) with h|h
   ·exact .inl (by omega)
   ·exact .inr h
theorem Jpx {y:Yd} (h:ydE y=0):Xf y∧Jm0 y:=by
 have hz:=Ji (show Ja [_,_,_,_]=0 from h)
 simp only[List.mem_cons,List.not_mem_nil,or_false,forall_eq_or_imp,forall_eq] at hz
 obtain⟨h1,h2,h3,_⟩:=hz
 have hz:=Ji (show Ja [_,_]=0 from h1)
 simp only[List.mem_cons,List.not_mem_nil,or_false,forall_eq_or_imp,forall_eq] at hz
 have k0:=Uj hz.2
 have k1:=Uj h2
 have k2:=Uj h3
 refine⟨⟨⟨k0.1,k1.1⟩,k1.2⟩,k2.1,fun x hx=> ?_⟩
 have:=k2.2 x hx
 unfold knE at this
 cases e:Uq y x.2 with
 |true=>rfl
 |false=>rw[e] at this;cases this
def Jx1 (y:Yd) (n:ByteArray):ByteArray:=if fnE y n=0 then Jem y (fnI y n) else eB
def Kf1:Con:={args:=[aYd,aS],ress:=[tS,I],owns:=[],pre:=fun(y,_)=>[Jph y],spec:=fun(y,n,_)=>(Jx1 y n,fnE y n,())}
def Kcm (a:Yd) (b:Bt):=fnE (Vb a) b
def Kcl (a:Yd) (b:Bt):=fnI (Vb a) b
theorem Kht (y:Yd) (n:ByteArray):wpF Tryz.prog Ke0.g (na ()) Tryz.f25 Kf1 (y,n,()):=by
 refine(by kernel_rfl:(Jph y→J3n y∧Br (Kcm y n !=0) (B0=Jx1 y n∧Kcm y n=fnE y n) ((Zo y∧Jm0 (Vb y)∧Bd (Kcl y n) (J04 y))∧Jem (Vb y) (Kcl y n)=Jx1 y n∧0=fnE y n))=_).mp ?_
 delta J04 Vb J3n Zo Kcm Kcl Br Bd Ln B0 E2
 intro h
 refine⟨h,fun k=> ?_,fun k=> ?_⟩
 ·have k:¬fnE y n=0:=Kh.1 k
  unfold Jx1;rw[if_neg k];exact⟨rfl,rfl⟩
 ·have k:fnE y n=0:=Jz.1 k
  have kk:=k
  unfold fnE at kk
  split at kk
  ·rename_i e
   have e2:¬Jtq y n<0:=fun q=>by rw[decide_eq_true q] at kk;cases kk
   have ei:fnI y n=Jtq y n:=by unfold fnI;rw[if_pos e]
   obtain⟨z1,z2⟩:=Jpx e
   have lt:=Jsy (fun x:Sw=>x.1.toList==n.toList) y.2.1 0 (Int.le_refl 0)
   refine⟨⟨z1,z2, ?_, ?_⟩, ?_,k.symm⟩
   ·show 0≤fnI y n
    rw[ei];omega
   ·show fnI y n<(y.2.1.length:Int)
    rw[ei]
    rcases lt with lt|lt
    ·have lt:Jtq y n<0+(y.2.1.length:Int):=lt
     omega
    ·exact absurd lt e2
   ·unfold Jx1;rw[if_pos k]
  ·rename_i e;exact absurd kk e
theorem Kj2:Ok Tryz.prog 25 Kf1:=Je mixed Ke0.ok (by kernel_rfl) (by kernel_rfl) na fun xx=>Kht xx.1 xx.2.1
abbrev Kk2:=Ke0.add Kj2
def Jbu (xs:List ByteArray) (sep:ByteArray):ByteArray:=⟨(Lib.join (xs.map (·.data.toList)) sep.data.toList).toArray⟩
def J74:Con:={args:=[.val false (.list 9 .str),aS],ress:=[tS],owns:=[],pre:=fun(xs,sep,_)=>[xs.length≤1000000,(Lib.join (xs.map (·.data.toList)) sep.data.toList).length≤140737488355328],spec:=fun(xs,sep,_)=>(Jbu xs sep,())}
def Jan (n:Int):ByteArray:=⟨(Lib.itoa n).toArray⟩
def J76:Con:={args:=[aI],ress:=[tS],owns:=[],pre:=fun(n,_)=>[-9223372036854775808≤n∧n≤9223372036854775807],spec:=fun(n,_)=>(Jan n,())}
theorem Jrr (w:World) (q:Nat) (os:Array Obj):RowKit.Below w.heap.size w (Sort.grow (w.drewN q) os):=
 ⟨rfl,rfl,rfl,by first|(simp[Sort.grow];done)|(simp[Sort.grow];omega),fun i hi=>by
  show((w.drewN q).heap++os)[i]? =_
  rw[Array.getElem?_append_left (by show i<w.heap.size;omega)]
  rfl⟩
theorem J7n:Ok Tryz.prog 102 J76:=by
 refine⟨⟨Tryz.f102,by kernel_rfl,by kernel_rfl,by kernel_rfl⟩,fun z hz=>(by cases hz),fun F hF=>(by cases hF),fun _ x M R w vs hM hg hpre hargs=> ?_⟩
 obtain⟨n,u⟩:=x
 obtain⟨v,vs',rfl,ha,hr⟩:=hargs
 have hr:vs'=[]:=hr
 subst hr
 obtain⟨cs,rfl,hc⟩:=ha
 have hc:cs=[.int .i64 n]:=hc
 subst hc
 have hpre: -9223372036854775808≤n∧n≤9223372036854775807:=hpre
 refine(Tryz.strconv_Itoa n hpre.1 hpre.2 w (hg w (Sx.Below.refl _ _)).1).mono ?_
 rintro e w' ⟨rfl,k,os,rfl⟩
 exact⟨M,[.string (Jan n)],rfl, .ofK (Jrr w k os),fun _ h=>h,fun b h=> .inl h,_,[],rfl,⟨_,rfl,rfl⟩,rfl⟩
theorem Jfb {M:Nat→Prop} {w:World}:∀{xs:List ByteArray} {flat:List Value},Kz (Rep M w .str) xs flat→flat=xs.map Value.string
 |[],_,h=>h
 |x::xs,flat,⟨c1,c2,e,h1,h2⟩=>by
  have h1:c1=[.string x]:=h1
  rw[e,h1,Jfb h2];rfl
theorem Kiy:Ok Tryz.prog 67 J74:=by
 refine⟨⟨Tryz.f67,by kernel_rfl,by kernel_rfl,by kernel_rfl⟩,fun z hz=>(by cases hz),fun F hF=>(by cases hF),fun _ x M R w vs hM hg hpre hargs=> ?_⟩
 obtain⟨xs,sep,u⟩:=x
 obtain⟨v,vs',rfl,ha,v2,vs2,rfl,hb,hr⟩:=hargs
 have hr:vs2=[]:=hr
 subst hr
 obtain⟨cs,rfl,hc⟩:=ha
 obtain⟨cs2,rfl,hc2⟩:=hb
 have hc2:cs2=[.string sep]:=hc2
 subst hc2
 obtain⟨v,flat,rfl,f1,f2⟩:=hc
 obtain⟨p1,p2⟩:=hpre
 have hflat:=Jfb f1
 have fin:∀(e:Ending) (w':World),e= .returned (.string (Jbu xs sep))→RowKit.Below w.heap.size w w'→Jj7 M w [tS] [] (Jbu xs sep,()) e w':=fun e w' he hb=>
  ⟨M,[.string (Jbu xs sep)],he, .ofK hb,fun _ h=>h,fun b h=> .inl h,_,[],rfl,⟨_,rfl,rfl⟩,rfl⟩
 rcases f2 with⟨rfl|⟨ad,cap,rfl⟩,h0⟩|⟨b,off,cap,rfl,hcap,hk,hm⟩
 ·have:xs=[]:=List.eq_nil_of_length_eq_zero h0
  subst this
  refine(Tryz.strings_Join_none none 0 sep w).mono ?_
  rintro e w' ⟨rfl,rfl⟩
  exact fin _ _ rfl (RowKit.Below.refl _ _)
 ·have:xs=[]:=List.eq_nil_of_length_eq_zero h0
  subst this
  refine(Tryz.strings_Join_none (some ad) cap sep w).mono ?_
  rintro e w' ⟨rfl,rfl⟩
  exact fin _ _ rfl (RowKit.Below.refl _ _)
 ·cases hx:xs with
  |nil=>
   subst hx
   refine(Tryz.strings_Join_none (some ⟨b,off,none⟩) cap sep w).mono ?_
   rintro e w' ⟨rfl,rfl⟩
   exact fin _ _ rfl (RowKit.Below.refl _ _)
  |cons x0 r=>
   rw[←hx]
   have hne:flat≠[]:=by rw[hflat,hx];simp
   refine(Tryz.strings_Join b off cap xs sep w (fun j x hj=>hk j _ (by rw[hflat,List.getElem?_map,hj];rfl)) (hM b (.inl (hm hne))) (by omega) hcap p2).mono ?_
   rintro e w' ⟨rfl,hb⟩
   exact fin _ _ rfl hb
abbrev Kk1:=Kk2.add Kiy
abbrev Kez:=Kk1.add J7n
theorem Jnk {sep:List UInt8} (hs:sep.length=1):∀{l:List (List UInt8)},(∀x∈l,x.length≤40)→(Lib.join l sep).length≤41*l.length
 |[],_=>by simp[Lib.join,List.intercalate]
 |[x],h=>by
  have:=h x (by simp)
  simp[Lib.join,List.intercalate,List.intersperse]
  omega
 |x::y::r,h=>by
  have ih:=Jnk hs (l:=y::r) fun z hz=>h z (by simp[List.mem_cons.1 hz])
  have hx:=h x (by simp)
  have e:Lib.join (x::y::r) sep=x++sep++Lib.join (y::r) sep:=by simp[Lib.join,List.intercalate,List.intersperse]
  rw[e]
  simp only[List.length_append,List.length_cons] at ih⊢
  omega
theorem Jck {xs:List ByteArray} (hx:∀x∈xs,x.size≤40):(Lib.join (xs.map (·.data.toList)) [32]).length≤41*xs.length:=by
 have:=Jnk (sep:=[32]) rfl (l:=xs.map (·.data.toList)) fun x hx'=>by
  obtain⟨y,hy,rfl⟩:=List.mem_map.1 hx'
  exact hx y hy
 rw[List.length_map] at this
 exact this
theorem Jf4:∀{l:List (List UInt8)},(∀x∈l,x.length≤300)→l.flatten.length≤300*l.length
 |[],_=>by simp
 |x::r,h=>by
  have ih:=Jf4 (l:=r) fun y hy=>h y (by simp[hy])
  have hx:=h x (by simp)
  simp only[List.flatten_cons,List.length_append,List.length_cons]
  omega
theorem Jnl {l:List (List UInt8)} (h:∀x∈l,x.length≤300):(Lib.join l []).length≤300*l.length:=by
 have:∀l:List (List UInt8),Lib.join l []=l.flatten:=fun l=>by
  induction l with
  |nil=>rfl
  | cons x r ih =>
   cases r with
   |nil=>simp[Lib.join,List.intercalate]
   |cons y r=>
    have:Lib.join (x::y::r) []=x++Lib.join (y::r) []:=by simp[Lib.join,List.intercalate,List.intersperse]
    rw[this,ih];rfl
 rw[this]
 exact Jf4 h
theorem Jkz (n:Int) (h0: -9223372036854775808≤n) (h1:n≤9223372036854775807):(Jan n).size≤40:=by
 have:=Lib.itoa_length_le n h0 h1
 have e:(Jan n).size=(Lib.itoa n).length:=rfl
 omega
theorem Jug {t:Tg} (h:tgE t=0):∀x∈t.1::t.2.1::tgV t,-32768≤x∧x≤65535:=by
 have k:=Ji (show Ja [_,_]=0 from h)
 have k1:=Ji (show Ja [_,_]=0 from k _ (List.mem_cons_self ..))
 have k2:=Ji (k _ (List.mem_cons_of_mem _ (List.mem_cons_self ..)))
 intro x hx
 rcases List.mem_cons.1 hx with rfl|hx
 ·have:=Jc.1 (k1 _ (List.mem_cons_self ..));omega
 rcases List.mem_cons.1 hx with rfl|hx
 ·have:=Jc.1 (k1 _ (List.mem_cons_of_mem _ (List.mem_cons_self ..)));omega
 ·have:=Jc.1 (k2 (hwE x) (List.mem_map_of_mem hx));omega
def Jzi:Con:={args:=[.val true sTg],ress:=[(false, .list 3 sI)],owns:=[true],pre:=fun _=>[],spec:=fun(t,_)=>(t.1::t.2.1::tgV t,())}
theorem J5o (t:Tg):wpF Tryz.prog Kez.g (na ()) Tryz.f101 Jzi (t,()):=by
 refine(by kernel_rfl:(48≤140737488355328∧[t.1,t.2.1,t.2.2.1,t.2.2.2.1,t.2.2.2.2.1,t.2.2.2.2.2]=t.1::t.2.1::tgV t)=_).mp ?_
 exact⟨by decide,rfl⟩
theorem J7o:Ok Tryz.prog 101 Jzi:=Je mixed Kez.ok (by kernel_rfl) (by kernel_rfl) na fun xx=>J5o xx.1
abbrev Kgl:=Kez.add J7o
def Jze:Con:={args:=[.val false (.list 3 sI), .fn [I] tS],ress:=[(false, .list 9 .str)],owns:=[true],pre:=fun(l,(q,_),_)=>[l.length≤1000000,∀x∈l,Kf (q (x,()))],spec:=fun(l,(_,f),_)=>(l.map fun x=>f (x,()),())}
def Jxu (a:Int×Unit→Bt) (b:Nat) (c:Li):=List.map (fun(x:Int)=>a (x,PUnit.unit)) (List.take b c)
theorem J7p:Ok Tryz.prog 100 Jze:=okW Kgl Tryz.f100 (fun xx=>Vi (Zn 3 9 sI xx.1 tS false xx.2.1.1 xx.2.1.2)) fun xx=>by
 obtain⟨(l:List Int),⟨(q:Int×Unit→List Prop),(f:Int×Unit→ByteArray)⟩,_⟩:=xx
 refine(by kernel_rfl:(Z12 l→Jpo l q→∃(x:Nat),Si (Ln l) (0=Nc x∧Sf l ((fun(x:Int×PUnit)=>q x)=q∧(fun(x:Int×PUnit)=>f x)=f∧List.length (Jxu f x l)=0))∧x≤List.length l∧∀(x:Nat),x≤List.length l→Br (Z28 x l) (Z22 x l∧(Kf (q (Z34 l x))∧(List.length (Jxu f x l)+1)*16≤140737488355328)∧Z1 x∧∃(y:Nat),Si (Ln l) (Z25 x y∧Sf l ((fun(x:Int×PUnit)=>q x)=q∧(fun(x:Int×PUnit)=>f x)=f∧Jxu f x l++[f (Z34 l x)]=Jxu f y l))∧y≤List.length l∧Z86 l y x) (Jxu f x l=List.map (fun(x:Int)=>f (x,PUnit.unit)) l))=_).mp ?_
 delta Z1 Z3 Z12 Z22 Z25 Z28 Z34 Z85 Z86 Jxu Jpo Br Iw Bd Tw Sf Si Ln Nc
 intro hb hq
 refine⟨(0:Nat),⟨rfl,rfl,rfl,rfl,rfl,by simp⟩,Nat.zero_le _,fun(k:Nat) hk=>⟨fun h=> ?_,fun h=> ?_⟩⟩
 ·have hlt:k<l.length:=by simpa using h
  refine⟨by omega,⟨hq (l.getD k (0:Int)) (Jj hlt),by simp only[List.length_map,List.length_take];omega⟩,by omega,(k+1:Nat),⟨rfl,by simp,rfl,rfl,rfl, ?_⟩,by omega,by omega⟩
  rw[←Jy (d:=(0:Int)) hlt,List.map_append];rfl
 ·have hlt:¬k<l.length:=by simpa using h
  rw[List.take_of_length_le (by omega)]
abbrev Kex:=Kgl.add J7p
def D0 (t:Tg):ByteArray:=Jbu (⟨#[116,101,108,101,103,114,97,109]⟩::(t.1::t.2.1::tgV t).map Jan) ⟨#[32]⟩++⟨#[10]⟩
def Jhi (t:Tg):List ByteArray:=⟨#[116,101,108,101,103,114,97,109]⟩::(t.1::t.2.1::tgV t).map Jan
theorem Jcj {t:Tg} (h:tgE t=0):∀x∈Jhi t,x.size≤40:=by
 intro x hx
 rcases List.mem_cons.1 hx with rfl|hx
 ·decide
 ·obtain⟨n,hn,rfl⟩:=List.mem_map.1 hx
  have:=Jug h n hn
  exact Jkz n (by omega) (by omega)
theorem Jhj {t:Tg} (h:tgE t=0):(D0 t).size≤300:=by
 have e:=Jck (Jcj h)
 have e1:(D0 t).size=(Lib.join ((Jhi t).map (·.data.toList)) [32]).length+1:=by
  unfold D0
  rw[ByteArray.size_append];rfl
 have e2:(Jhi t).length=7:=rfl
 omega
def Joo:Con:={args:=[.val true sTg],ress:=[tS],owns:=[],pre:=fun(t,_)=>[tgE t=0],spec:=fun(t,_)=>(D0 t,())}
def Kes (a:Tg):=tgV (a.1,a.2.1,a.2.2.1,a.2.2.2.1,E2 a.2.2.2.2)
def Kel (a:Tg):=a.1::a.2.1::Kes a
def Kdw (a:Tg):=List.map (fun(x:Int)=>Jan x) (Kes a)
def Kb3 (a:Tg):=Jan a.1::Jan a.2.1::Kdw a
def J95 (a:Tg):=ByteArray.mk (Array.mk [116,101,108,101,103,114,97,109])::Kb3 a
def J9r (a:Tg):=Jbu (J95 a) (ByteArray.mk (Array.mk [32]))
theorem Khd (t:Tg):wpF Tryz.prog Kex.g (na ()) Tryz.f69 Joo (t,()):=by
 refine(by kernel_rfl:(tgE t=0→(List.length (Kel t)≤1000000∧(∀(x:Int),x∈Kel t→Iw x)∧(1+List.length (Kb3 t))*16≤140737488355328∧List.length (J95 t)≤1000000∧List.length (116::101::108::101::103::114::97::109::32::([]++List.flatten ((Jan t.1).data.1::[32]::List.intersperse [32] ((Jan t.2.1).data.1::List.map (fun(x:ByteArray)=>x.data.toList) (Kdw t)))))≤140737488355328∧Nc (ByteArray.size (J9r t)+1)≤9223372036854775807)∧ByteArray.mk (Array.mk ((J9r t).data.toList++[10]))=D0 t)=_).mp ?_
 delta Kes Kel Kdw Kb3 J95 J9r Iw Nc E2
 intro h
 have hb:=Jug h
 have e:=Jck (Jcj h)
 have e1:(Jbu (Jhi t) ⟨⟨[32]⟩⟩).size=(Lib.join ((Jhi t).map (·.data.toList)) [32]).length:=rfl
 have e2:(Jhi t).length=7:=rfl
 have e3:(Jbu (Jhi t) ⟨⟨[32]⟩⟩).size+1≤1000:=by omega
 refine⟨⟨(by decide:6≤1000000),fun x hx=>by have:=hb x hx;omega,(by decide:(1+6)*16≤140737488355328),(by decide:7≤1000000),Nat.le_trans e (by rw[e2];decide),Int.le_trans (Int.ofNat_le.2 e3) (by decide)⟩,rfl⟩
theorem Kiw:Ok Tryz.prog 69 Joo:=Je mixed Kex.ok (by kernel_rfl) (by kernel_rfl) na fun xx=>Khd xx.1
abbrev Kgk:=Kex.add Kiw
def Jza:Con:={args:=[.val false (.list 61 sTg), .fn [(true,sTg)] tS],ress:=[(false, .list 9 .str)],owns:=[true],pre:=fun(l,(q,_),_)=>[l.length≤1000000,∀x∈l,Kf (q (x,()))],spec:=fun(l,(_,f),_)=>(l.map fun x=>f (x,()),())}
def J0i (a:Tg×Unit→Bt) (b:Nat) (c:List Tg):=List.map (fun(x:Int×Int×Int×Int×Int×Int)=>a (x,PUnit.unit)) (List.take b c)
def Kak (a:Tg×Unit→Bt) (b:Nat) (c:List Tg):=List.length (J0i a b c)
theorem Kix:Ok Tryz.prog 68 Jza:=okW Kgk Tryz.f68 (fun xx=>Vi (Zn 61 9 sTg xx.1 tS true xx.2.1.1 xx.2.1.2)) fun xx=>by
 obtain⟨(l:List Tg),⟨(q:Tg×Unit→List Prop),(f:Tg×Unit→ByteArray)⟩,_⟩:=xx
 refine(by kernel_rfl:(Jj6 l→J2d l q→∃(x:Nat),Si (Ln l) (0=Nc x∧Sf l ((fun(x:(Int×Int×Int×Int×Int×Int)×PUnit)=>q x)=q∧(fun(x:(Int×Int×Int×Int×Int×Int)×PUnit)=>f x)=f∧Kak f x l=0))∧Jwl x l∧∀(x:Nat),Jwl x l→Br (decide (Nc x<Ln l)) (Tw (Bd (Nc x) (Ln l))∧(J1x q l x∧(Kak f x l+1)*16≤140737488355328)∧Z1 x∧∃(y:Nat),Si (Ln l) (Z25 x y∧Sf l ((fun(x:(Int×Int×Int×Int×Int×Int)×PUnit)=>q x)=q∧(fun(x:(Int×Int×Int×Int×Int×Int)×PUnit)=>f x)=f∧J0i f x l++[f (Jz7 l x)]=J0i f y l))∧J2k y l x) (J0i f x l=List.map (fun(x:Int×Int×Int×Int×Int×Int)=>f (x,PUnit.unit)) l))=_).mp ?_
 delta Z1 Z18 Z25 Z62 J08 Jt7 J4b Jwl Jj6 J24 J22 J21 J2y J0i Kak Jwd J2k J2d Jz7 J1x Br Iw Bd Tw Sf Si Ln Nc E2
 intro hb hq
 refine⟨(0:Nat),⟨rfl,rfl,rfl,rfl,rfl,by simp⟩,Nat.zero_le _,fun(k:Nat) hk=>⟨fun h=> ?_,fun h=> ?_⟩⟩
 ·have hlt:k<l.length:=by simpa using h
  refine⟨by omega,⟨hq (l.getD k (0,0,0,0,0,0)) (Jj hlt),by simp only[List.length_map,List.length_take];omega⟩,by omega,(k+1:Nat),⟨rfl,by simp,rfl,rfl,rfl, ?_⟩,by omega,by omega⟩
  rw[←Jy (d:=(0,0,0,0,0,0)) hlt,List.map_append];rfl
 ·have hlt:¬k<l.length:=by simpa using h
  rw[List.take_of_length_le (by omega)]
abbrev Kgj:=Kgk.add Kix
def Kfo (l:List Tg):ByteArray:=Jbu (l.map D0) ⟨⟨[]⟩⟩
theorem Jsi {l:List Tg} (h:Jb0 l=0):l.length≤1024∧∀t∈l,tgE t=0:=by
 unfold Jb0 at h
 cases hd:decide (1024<(l.length:Int)) with
 |true=>rw[hd] at h;cases h
 |false=>
  rw[hd] at h
  have k:=of_decide_eq_false hd
  exact⟨by omega,fun t ht=>Ji (show Ja (l.map tgE)=0 from h) _ (List.mem_map_of_mem ht)⟩
def Kkr:Con:={args:=[.val false (.list 61 sTg)],ress:=[tS,I],owns:=[],pre:=fun(l,_)=>[l.length≤1000000],spec:=fun(l,_)=>(if Jb0 l=0 then Kfo l else⟨⟨[]⟩⟩,Jb0 l,())}
def Kec (a:List Tg):=if Jb0 a=0 then Kfo a else B0
def J33 (a:List Tg):=List.map (fun(x:Int×Int×Int×Int×Int×Int)=>D0 x) a
theorem Kjn:Ok Tryz.prog 40 Kkr:=okW Kgj Tryz.f40 na fun xx=>by
 obtain⟨(l:List Tg),_⟩:=xx
 refine(by kernel_rfl:(Jj6 l→Jj6 l∧Br (Jb0 l !=0) (B0=Kec l∧Jb0 l=Jb0 l) ((Jj6 l∧(∀(x:Int×Int×Int×Int×Int×Int),Jwd l x→tgE x=0)∧List.length (J33 l)≤1000000∧List.length (Lib.join (List.map (fun(x:ByteArray)=>x.data.toList) (J33 l)) [])≤140737488355328)∧Jbu (J33 l) B0=Kec l∧0=Jb0 l))=_).mp ?_
 delta Jt7 Jj6 Kec J33 Jwd Br B0
 intro hl
 refine⟨hl,fun k=> ?_,fun k=> ?_⟩
 ·have k:¬Jb0 l=0:=bne_iff_ne.1 k
  rw[if_neg k];exact⟨rfl,rfl⟩
 ·have k:Jb0 l=0:=bne_eq_false_iff_eq.1 k
  obtain⟨h1,h2⟩:=Jsi k
  rw[if_pos k]
  refine⟨⟨hl,h2,by simpa using hl, ?_⟩,rfl,k.symm⟩
  have:=Jnl (l:=(l.map D0).map (·.data.toList)) fun x hx=>by
   obtain⟨y,hy,rfl⟩:=List.mem_map.1 hx
   obtain⟨t,ht,rfl⟩:=List.mem_map.1 hy
   exact Jhj (h2 t ht)
  rw[List.length_map,List.length_map] at this
  exact Nat.le_trans this (by omega)
abbrev Kgi:=Kgj.add Kjn
def Ja2 (t:Tg):Bool:=t.2.2.1==bits .and .i64 t.2.2.1 4095&&(t.2.2.2.1==0&&(t.2.2.2.2.1==0&&(t.2.2.2.2.2==0&&true)))
def Xc (fr c:Int):Int:=fr+((c-fr).tmod 65536+65536).tmod 65536
def Up (s:Int):Int→List Tg→List Pu→List Pu×Int
 |_,[],acc=>(acc,0)
 |fr,t::r,acc=>if t.1=s then(if Ja2 t=true then(if 100000<Xc fr t.2.1 then([],4) else Up s (Xc fr t.2.1+1) r (acc++[(Xc fr t.2.1,t.2.2.1)])) else([],1)) else Up s fr r acc
def Jfd (l:List Tg) (s st:Int):Int:=Ja [Jb0 l,Jb s 0 255,Jb st 0 100000]
def Jpj (l:List Tg) (s st:Int):List Pu×Int:=if(Up s st l []).2=0 then(if 256<(Up s st l []).1.length then([],5) else Up s st l []) else([],(Up s st l []).2)
def Jgq (l:List Tg) (s st:Int):Log:=if Jfd l s st=0 then(if(Jpj l s st).2=0 then(s,(Jpj l s st).1) else(0,[])) else(0,[])
def Jfe (l:List Tg) (s st:Int):Int:=if Jfd l s st=0 then(Jpj l s st).2 else Jfd l s st
theorem Jse (a:Int): -65536<a.tmod 65536∧a.tmod 65536<65536:=by
 rcases Int.le_total 0 a with h|h
 ·have:=Int.tmod_nonneg 65536 h
  have:=Int.tmod_lt_of_pos a (show(0:Int)<65536 by decide)
  omega
 ·have e:a.tmod 65536= -((-a).tmod 65536):=by rw[Int.neg_tmod,Int.neg_neg]
  have:=Int.tmod_nonneg 65536 (show 0≤-a by omega)
  have:=Int.tmod_lt_of_pos (-a) (show(0:Int)<65536 by decide)
  omega
theorem Jx2 (a:Int):0≤(a.tmod 65536+65536).tmod 65536∧(a.tmod 65536+65536).tmod 65536<65536:=by
 have h:=Jse a
 have:=Int.tmod_nonneg 65536 (show 0≤a.tmod 65536+65536 by omega)
 have:=Int.tmod_lt_of_pos (a.tmod 65536+65536) (show(0:Int)<65536 by decide)
 omega
theorem Kh8 {l:List Tg} {s st:Int} (h:Jfd l s st=0):Jb0 l=0∧0≤st∧st≤100000:=by
 have k:=Ji (show Ja [_,_,_]=0 from h)
 exact⟨k _ (List.mem_cons_self ..),Jc.1 (k _ (List.mem_cons_of_mem _ (List.mem_cons_of_mem _ (List.mem_cons_self ..))))⟩
def Kkq:Con:={args:=[.val false (.list 61 sTg),aI,aI],ress:=[(true,Jw2),I],owns:=[],pre:=fun(l,_,_,_)=>[l.length≤1000000],spec:=fun(l,s,st,_)=>(Jgq l s st,Jfe l s st,())}
abbrev Jzx (l:List Tg) (s st:Int):Ann:={X:=Nat×Int×List Pu,σ:=fun p=>⟨5,[(1, .one (.int .i64 s)),(6, .one (.ptr 1 0)),(11, .one (.ptr 3 0)),(12, .one (.int .i64 p.2.1)),(35, .one (.sl 0)),(36, .one (.int .i64 l.length)),(37, .one (.int .i64 p.1))],[(0, .imm 61 sTg l),(1, .box 58 [.int .i64 0, .val (.slice none 0 0)]),(3, .box 58 [.int .i64 s, .sl 4]),(4, .own 55 sPu p.2.2)]⟩,inv:=fun p=>p.1≤l.length∧p.2.2.length≤p.1∧(0≤p.2.1∧p.2.1≤100001)∧Up s st l []=Up s p.2.1 (l.drop p.1) p.2.2,mu:=fun p=>l.length-p.1}
def Z99 (a:List Tg) (b c:Int):=(0,[])=Jgq a b c
def Kd5 (a:List Tg) (b c:Int):=Ja [Jb0 a,Jb b 0 255,Jb c 0 100000]
def Kbq (a:List Tg) (b:Nat×Int×List Pu):=List.getD a b.1 J08
def Kbo (a:List Tg) (b:Nat×Int×List Pu):=(Kbq a b).2
def Kbk (a:List Tg) (b:Nat×Int×List Pu):=(Kbo a b).2
def J2x (a:List Tg) (b:Nat×Int×List Pu):=(Kbk a b).1
def Kbg (a:List Tg) (b:Nat×Int×List Pu):=(Kbk a b).2
def Kbd (a:List Tg) (b:Nat×Int×List Pu):=(Kbg a b).2
def Ka6 (a:List Tg) (b:Nat×Int×List Pu):=(Kbo a b).1-b.2.1
def Kaw (a:Nat×Int×List (Int×Int)) (b:List Tg) (c d:Int):=a.1≤List.length b∧List.length a.2.2≤a.1∧(0≤a.2.1∧a.2.1≤100001)∧Up c d b []=Up c a.2.1 (List.drop a.1 b) a.2.2
def Kas (a:List Tg) (b:Nat×Int×List Pu):=Int.tmod (Ka6 a b) (65536:Int)+65536
def J0d (a:Nat×Int×List Pu) (b:List Tg):=a.2.1+Int.tmod (Kas b a) 65536
def Kad (a:Nat×Int×List Pu) (b:List Tg):=J0d a b+1
def J99 (a:Nat×Int×List (Int×Int)) (b:List Tg) (c d:Int) (e:Nat×Int×List Pu):=Kaw a b c d∧List.length b-a.1<List.length b-e.1
theorem Kke:Ok Tryz.prog 13 Kkq:=okW Kgi Tryz.f13 (fun xx=>Vi (Jzx xx.1 xx.2.1 xx.2.2.1)) fun xx=>by
 obtain⟨(l:List Tg),(s:Int),(st:Int),_⟩:=xx
 refine(by kernel_rfl:(Jj6 l→Jj6 l∧3≤1000000∧Br (Kd5 l s st !=0) (Z99 l s st∧Kd5 l s st=Jfe l s st) (∃(x:Nat×Int×List (Int×Int)),Si s (st=x.2.1∧Si (Ln l) (0=Nc x.1∧Sf l (Si 0 (Sf Z50 (Si s (List.length x.2.2=0))))))∧Kaw x l s st∧∀(x:Nat×Int×List Pu),x.1≤List.length l∧List.length x.2.2≤x.1∧(0≤x.2.1∧x.2.1≤100001)∧Up s st l []=Up s x.2.1 (List.drop x.1 l) x.2.2→Br (decide (Nc x.1<Ln l)) (Tw (Bd (Nc x.1) (Ln l))∧Br ((Kbq l x).1 !=s) (Iw (Nc x.1+1)∧∃(y:Nat×Int×List (Int×Int)),Si s (x.2.1=y.2.1∧Si (Ln l) (Nc x.1+1=Nc y.1∧Sf l (Si 0 (Sf Z50 (Si s (x.2.2=y.2.2))))))∧J99 y l s st x) (Br (!(J2x l x==bits BinOp.and IntKind.i64 (J2x l x) 4095&&((Kbg l x).1==0&&((Kbd l x).1==0&&((Kbd l x).2==0&&true))))) (Z99 l s st∧1=Jfe l s st) ((Iw (Ka6 l x)∧Z35∧Iw (Kas l x)∧Z35∧Iw (J0d x l))∧Br (decide (100000<J0d x l)) (Z99 l s st∧4=Jfe l s st) ((List.length x.2.2+1)*16≤140737488355328∧Iw (Kad x l)∧Iw (Nc x.1+1)∧∃(y:Nat×Int×List (Int×Int)),Si s (Kad x l=y.2.1∧Si (Ln l) (Nc x.1+1=Nc y.1∧Sf l (Si 0 (Sf Z50 (Si s (x.2.2++[(J0d x l,J2x l x)]=y.2.2))))))∧J99 y l s st x)))) (Br (decide (256<Ln x.2.2)) (Z99 l s st∧5=Jfe l s st) ((s,x.2.2)=Jgq l s st∧0=Jfe l s st))))=_).mp ?_
 delta Z18 Z35 Z50 Z62 Z99 J08 Jt7 Jj6 Kd5 Kbq Kbo Kbk J2x Kbg Kbd Ka6 Kaw Kas J0d Kad J99 Br Iw Bd Tw Sf Si Ln Nc
 intro hl
 refine⟨hl,by decide,fun q=> ?_,fun q=> ?_⟩
 ·have q:¬Jfd l s st=0:=bne_iff_ne.1 q
  unfold Jgq Jfe;rw[if_neg q,if_neg q];exact⟨rfl,rfl⟩
 have q:Jfd l s st=0:=bne_eq_false_iff_eq.1 q
 obtain⟨z1,z3⟩:=Kh8 q
 have bT:=(Jsi z1).2
 have bad:∀{e:Int},Jpj l s st=([],e)→e≠0→((0,[]):Log)=Jgq l s st∧e=Jfe l s st:=fun{e} g he=>by
  unfold Jgq Jfe;rw[if_pos q,if_pos q,g,if_neg (show ¬(([],e):List Pu×Int).2=0 from he)];exact⟨rfl,rfl⟩
 have badG:∀{e:Int},Up s st l []=([],e)→e≠0→((0,[]):Log)=Jgq l s st∧e=Jfe l s st:=fun{e} h0 he=>by
  refine bad ?_ he
  unfold Jpj;rw[h0,if_neg (show ¬(([],e):List Pu×Int).2=0 from he)]
 refine⟨(0,st,[]),⟨rfl,rfl,rfl,rfl,rfl,rfl,rfl,rfl,rfl⟩,⟨Nat.zero_le _,Nat.le_refl _,⟨by show 0≤st;omega,by show st≤100001;omega⟩,rfl⟩,fun x hx=> ?_⟩
 obtain⟨k,fr,acc⟩:=x
 obtain⟨k1,k2,k3,k4⟩:=hx
 dsimp only at k1 k2 k3 k4⊢
 refine⟨fun h=> ?_,fun h=> ?_⟩
 ·have hlt:k<l.length:=by simpa using h
  have ht:=bT _ (Jj (d:=((0,0,0,0,0,0):Tg)) hlt)
  rw[Jcq (d:=((0,0,0,0,0,0):Tg)) hlt] at k4
  obtain⟨t,et⟩:∃t,l.getD k ((0,0,0,0,0,0):Tg)=t:=⟨_,rfl⟩
  rw[et] at ht k4⊢
  have b1:=Jug ht t.2.1 (List.mem_cons_of_mem _ (List.mem_cons_self ..))
  have m1:=Jse (t.2.1-fr)
  have m2:=Jx2 (t.2.1-fr)
  rw[Up] at k4
  refine⟨⟨by omega,by omega⟩,fun p=>⟨by omega,(k+1,fr,acc),⟨rfl,rfl,rfl,by simp,rfl,rfl,rfl,rfl,rfl⟩,⟨by show k+1≤_;omega,by show acc.length≤k+1;omega,k3, ?_⟩,by show l.length-(k+1)<l.length-k;omega⟩,fun p=>⟨fun p2=> ?_,fun p2=>⟨⟨by omega,by omega,by omega,by omega,by omega⟩,fun p3=> ?_,fun p3=> ?_⟩⟩⟩
  ·have p:¬t.1=s:=bne_iff_ne.1 p
   rw[if_neg p] at k4;exact k4
  ·have p:t.1=s:=bne_eq_false_iff_eq.1 p
   have p2:(!Ja2 t)=true:=p2
   have p2:¬Ja2 t=true:=by simpa using p2
   rw[if_pos p,if_neg p2] at k4
   exact badG k4 (by decide)
  ·have p:t.1=s:=bne_eq_false_iff_eq.1 p
   have p2:(!Ja2 t)=false:=p2
   have p2:Ja2 t=true:=by simpa using p2
   have p3:100000<Xc fr t.2.1:=of_decide_eq_true p3
   rw[if_pos p,if_pos p2,if_pos p3] at k4
   exact badG k4 (by decide)
  ·have p:t.1=s:=bne_eq_false_iff_eq.1 p
   have p2:(!Ja2 t)=false:=p2
   have p2:Ja2 t=true:=by simpa using p2
   have p3:¬100000<Xc fr t.2.1:=of_decide_eq_false p3
   have e3:Xc fr t.2.1=fr+((t.2.1-fr).tmod 65536+65536).tmod 65536:=rfl
   rw[if_pos p,if_pos p2,if_neg p3] at k4
   rw[←e3]
   refine⟨by omega,by omega,by omega,(k+1,Xc fr t.2.1+1,acc++[(Xc fr t.2.1,t.2.2.1)]),⟨rfl,rfl,rfl,by simp,rfl,rfl,rfl,rfl,rfl⟩,⟨by show k+1≤_;omega,by show(acc++[_]).length≤k+1;rw[List.length_append];show acc.length+1≤k+1;omega,⟨by show 0≤Xc fr t.2.1+1;omega,by show Xc fr t.2.1+1≤100001;omega⟩,k4⟩,by show l.length-(k+1)<l.length-k;omega⟩
 ·have hge:¬k<l.length:=by simpa using h
  rw[List.drop_of_length_le (by omega),Up] at k4
  refine⟨fun p=> ?_,fun p=> ?_⟩
  ·have p:=of_decide_eq_true p
   refine bad ?_ (by decide)
   unfold Jpj;rw[k4,if_pos (show((acc,0):List Pu×Int).2=0 from rfl),if_pos (show 256<acc.length by omega)]
  ·have p:=of_decide_eq_false p
   have g:Jpj l s st=(acc,0):=by unfold Jpj;rw[k4,if_pos (show((acc,0):List Pu×Int).2=0 from rfl),if_neg (show ¬256<acc.length by omega)]
   unfold Jgq Jfe;rw[if_pos q,if_pos q,g,if_pos (show((acc,0):List Pu×Int).2=0 from rfl)];exact⟨rfl,rfl⟩
abbrev Kew:=Kgi.add Kke
theorem Jeu {st t:Int} (h0:0≤st) (h1:st≤t) (h2:t<st+65536):Xc st (t.tmod 65536)=t:=by
 unfold Xc
 have e1:t.tmod 65536=t %65536:=Int.tmod_eq_emod_of_nonneg (by omega)
 rw[e1]
 have b0:0≤t %65536∧t %65536<65536:=by omega
 obtain⟨a,ha⟩:∃a,t %65536=a:=⟨_,rfl⟩
 rw[ha] at b0⊢
 have c1: -65536<(a-st).tmod 65536:=by
  rcases Int.le_total 0 (a-st) with h|h
  ·have:=Int.tmod_nonneg 65536 h;omega
  ·have e:(a-st).tmod 65536= -((st-a).tmod 65536):=by rw[←Int.neg_tmod];congr 1;omega
   have:=Int.tmod_lt_of_pos (st-a) (show(0:Int)<65536 by decide)
   omega
 have c2:∃k,(a-st).tmod 65536=a-st-65536*k:=⟨(a-st).tdiv 65536,by rw[Int.tmod_def]⟩
 obtain⟨k,hk⟩:=c2
 have e2:((a-st).tmod 65536+65536).tmod 65536=((a-st).tmod 65536+65536) %65536:=Int.tmod_eq_emod_of_nonneg (by omega)
 rw[e2,hk]
 omega
def Y3:Tg:=(9,7,-1,0,0,0)
def Uz (i t:Int):Tg:=(i,t.tmod 65536,1,0,0,0)
theorem Jja (i c:Int):Ja2 (i,c,1,0,0,0)=true:=by
 have e:bits .and .i64 1 4095=1:=by kernel_rfl
 unfold Ja2
 show((1:Int)==bits .and .i64 1 4095&&_)=true
 rw[e];rfl
theorem Jl0 {i t:Int} (hi:0≤i∧i≤255) (ht:0≤t):tgE (Uz i t)=0:=by
 have e1:t.tmod 65536=t %65536:=Int.tmod_eq_emod_of_nonneg ht
 unfold tgE Uz
 have a:Jb i 0 255=0:=Jc.2 hi
 have b:Jb (t.tmod 65536) 0 65535=0:=Jc.2 (by omega)
 have c:([1,0,0,0]:List Int).map hwE=[0,0,0,0]:=by kernel_rfl
 show Ja [Ja [Jb i 0 255,Jb (t.tmod 65536) 0 65535],Ja (([1,0,0,0]:List Int).map hwE)]=0
 rw[a,b,c];rfl
theorem Jsr {st t0 t1:Int} (h0:0≤st) (h1:st≤t0∧t0≤st+1000) (h2:st≤t1∧t1≤st+1000) (h3:st≤90000) {i t:Int} (hi:i=0∧t=t0∨i=1∧t=t1):Jfe [Y3,Uz 0 t0,Y3,Uz 1 t1] i st=0∧Jgq [Y3,Uz 0 t0,Y3,Uz 1 t1] i st=(i,[(t,1)]):=by
 have ej:tgE Y3=0:=by kernel_rfl
 have e0:tgE (Uz 0 t0)=0:=Jl0 (by omega) (by omega)
 have e1:tgE (Uz 1 t1)=0:=Jl0 (by omega) (by omega)
 have et:Jb0 [Y3,Uz 0 t0,Y3,Uz 1 t1]=0:=by
  show Ja [tgE Y3,tgE (Uz 0 t0),tgE Y3,tgE (Uz 1 t1)]=0
  rw[ej,e0,e1];rfl
 have a:Jb i 0 255=0:=Jc.2 (by omega)
 have b:Jb st 0 100000=0:=Jc.2 (by omega)
 have ee:Jfd [Y3,Uz 0 t0,Y3,Uz 1 t1] i st=0:=by unfold Jfd;rw[et,a,b];rfl
 have g:Up i st [Y3,Uz 0 t0,Y3,Uz 1 t1] []=([(t,1)],0):=by
  have n9:¬Y3.1=i:=by show ¬(9:Int)=i;omega
  rcases hi with⟨rfl,rfl⟩|⟨rfl,rfl⟩
  ·have tb:=Jeu h0 h1.1 (by omega)
   rw[Up,if_neg n9,Up,if_pos (show(Uz 0 t).1=0 from rfl),if_pos (show Ja2 (Uz 0 t)=true from Jja _ _)]
   show(if 100000<Xc st (t.tmod 65536) then([],4) else Up 0 (Xc st (t.tmod 65536)+1) [Y3,Uz 1 t1] ([]++[(Xc st (t.tmod 65536),1)]))=([(t,1)],0)
   rw[tb,if_neg (by omega),Up,if_neg n9,Up,if_neg (by show ¬(1:Int)=0;decide),Up];rfl
  ·have tb:=Jeu h0 h2.1 (by omega)
   rw[Up,if_neg n9,Up,if_neg (by show ¬(0:Int)=1;decide),Up,if_neg n9,Up,if_pos (show(Uz 1 t).1=1 from rfl),if_pos (show Ja2 (Uz 1 t)=true from Jja _ _)]
   show(if 100000<Xc st (t.tmod 65536) then([],4) else Up 1 (Xc st (t.tmod 65536)+1) [] ([]++[(Xc st (t.tmod 65536),1)]))=([(t,1)],0)
   rw[tb,if_neg (by omega),Up];rfl
 have gg:Jpj [Y3,Uz 0 t0,Y3,Uz 1 t1] i st=([(t,1)],0):=by
  unfold Jpj;rw[g,if_pos (show(([(t,1)],0):List Pu×Int).2=0 from rfl),if_neg (by show ¬256<1;decide)]
 constructor
 ·unfold Jfe;rw[if_pos ee,gg]
 ·unfold Jgq;rw[if_pos ee,gg,if_pos (show(([(t,1)],0):List Pu×Int).2=0 from rfl)]
theorem Jl1 {i t:Int} (hi:0≤i∧i≤255) (ht:0≤t∧t≤100000):Jdv (i,[(t,1)])=0:=by
 have a:Jb i 0 255=0:=Jc.2 hi
 have b:Jb t 0 100000=0:=Jc.2 ht
 have c:Jb 1 0 4095=0:=Jc.2 (by omega)
 have d:puE (-1) (t,1)=0:=by
  unfold puE
  show Ja [Jb t 0 100000,Jb 1 0 4095,bif decide (t≤-1) then 11 else 0]=0
  rw[b,c,decide_eq_false (by omega)];rfl
 have e:Jgu [(t,1)]=0:=by
  unfold Jgu
  show(if puE (-1) (t,1)=0 then Jbq t [] else puE (-1) (t,1))=0
  rw[if_pos d];rfl
 unfold Jdv
 show Ja [Jb i 0 255,Jgu [(t,1)]]=0
 rw[a,e];rfl
def ltF (x y:Int×Int):Prop:=x.1*y.2<y.1*x.2
theorem Jnb {n d:Int} (h:0<d):Ur (Jn n d).1 (Jn n d).2=1:=by
 have hg:=Vn (n:=n) h
 have hp:0<Int.gcd n d:=by unfold Ur at hg;omega
 have e1:n.tdiv (Ur n d)=n/Ur n d:=Int.tdiv_eq_ediv_of_dvd (Int.gcd_dvd_left n d)
 have e2:d.tdiv (Ur n d)=d/Ur n d:=Int.tdiv_eq_ediv_of_dvd (Int.gcd_dvd_right n d)
 show((Int.gcd (n.tdiv (Ur n d)) (d.tdiv (Ur n d)):Nat):Int)=1
 rw[e1,e2]
 have:=Int.gcd_ediv_gcd_ediv_gcd hp
 exact congrArg Nat.cast this
theorem Jsv {a b c d:Int} (hb:0<b) (hd:0<d) (h:a*d<c*b):ltF (Jn a b) (Jn c d):=by
 obtain⟨h1,h2⟩:=Kw (n:=a) hb
 obtain⟨h3,h4⟩:=Kw (n:=c) hd
 unfold ltF
 generalize(Jn a b).1=p at*
 generalize(Jn a b).2=q at*
 generalize(Jn c d).1=r at*
 generalize(Jn c d).2=s at*
 have hbd:0<b*d:=Int.mul_pos hb hd
 have hqs:0<q*s:=Int.mul_pos h2 h4
 have e1:p*s*(b*d)=a*d*(q*s):=by grind
 have e2:r*q*(b*d)=c*b*(q*s):=by grind
 have:=Int.mul_lt_mul_of_pos_right h hqs
 rw[←e1,←e2] at this
 exact Int.lt_of_mul_lt_mul_right this (Int.le_of_lt hbd)
theorem Jyj {x y z:Int×Int} (hx:0<x.2) (hy:0<y.2) (hz:0<z.2) (h:leF x y) (h':ltF y z):ltF x z:=by
 unfold leF ltF at*
 have h1:=Int.mul_le_mul_of_nonneg_right h (Int.le_of_lt hz)
 have h2:=Int.mul_lt_mul_of_pos_right h' hx
 have e1:x.1*y.2*z.2=x.1*z.2*y.2:=by grind
 have e2:y.1*x.2*z.2=y.1*z.2*x.2:=by grind
 have e3:z.1*y.2*x.2=z.1*x.2*y.2:=by grind
 rw[e1,e2] at h1
 rw[e3] at h2
 exact Int.lt_of_mul_lt_mul_right (Int.lt_of_le_of_lt h1 h2) (Int.le_of_lt hy)
theorem Jqp {l:List (Int×Int)} {a n:Int} (h:okL l) (hl:l≠[]) (hn:0<n):ltF (a,1) (Jf 2 l a n):=by
 match l,hl with
 | s :: r, _ =>
  have hs:=h s (by simp)
  have hr:okL r:=fun x hx=>h x (by simp[hx])
  simp only[Jf]
  by_cases h1:n≤s.2*2
  ·rw[if_pos h1,←Xq a]
   refine Jsv (by decide) (by omega) ?_
   have:=Int.mul_pos (show 0<s.1 by omega) hn
   rw[Int.mul_one,Int.mul_assoc a];omega
  ·rw[if_neg h1]
   have g:=Jdj (a:=a+s.1) hr (show 0≤n-s.2*2 by omega)
   have p:=Hw r (a+s.1) (n-s.2*2) hr
   generalize Jf 2 r (a+s.1) (n-s.2*2)=x at*
   unfold leF at g
   unfold ltF
   dsimp only at g⊢
   have:=Int.mul_lt_mul_of_pos_right (show a<a+s.1 by omega) p
   omega
theorem Jdi:∀{l:List (Int×Int)} {a m n:Int},okL l→0≤m→m<n→n≤2*(Ks l).2→ltF (Jf 2 l a m) (Jf 2 l a n)
 |[],a,m,n,_,h0,h1,h2=>by have h2:n≤2*0:=h2;omega
 | s :: r, a, m, n, h, h0, hmn, hx => by
  have hs:=h s (by simp)
  have hr:okL r:=fun x hx=>h x (by simp[hx])
  have hx:n≤2*(s.2+(Ks r).2):=hx
  simp only[Jf]
  by_cases h1:m≤s.2*2
  ·rw[if_pos h1]
   by_cases h2:n≤s.2*2
   ·rw[if_pos h2]
    refine Jsv (by omega) (by omega) ?_
    refine Int.mul_lt_mul_of_pos_right ?_ (by omega)
    have:=Int.mul_lt_mul_of_pos_left hmn (show 0<s.1 by omega)
    omega
   ·rw[if_neg h2]
    have hne:r≠[]:=fun e=>by
     subst e
     have hx:n≤2*(s.2+0):=hx
     omega
    refine Jyj (y:=(a+s.1,1)) (Kw (by omega)).2 (Int.zero_lt_one) (Hw _ _ _ hr) ?_ (Jqp hr hne (by omega))
    rw[←Xq (a+s.1)]
    refine Jft (by omega) (by decide) ?_
    have:=Int.mul_le_mul_of_nonneg_left h1 (by omega:0≤s.1)
    rw[Int.mul_one,Int.add_mul,Int.mul_assoc a];omega
  ·rw[if_neg h1,if_neg (by omega)]
   exact Jdi hr (by omega) (by omega) (by omega)
theorem Jfj:∀{l:List (Int×Int)} {a n:Int},okL l→Ur (Jf 2 l a n).1 (Jf 2 l a n).2=1
 |[],a,n,_=>by simp only[Jf];exact Jnb (by decide)
 |s::r,a,n,h=>by
  have hs:=h s (by simp)
  have hr:okL r:=fun x hx=>h x (by simp[hx])
  simp only[Jf]
  split
  ·exact Jnb (by omega)
  ·exact Jfj hr
theorem Jya {x:Int×Int} (h1:0≤x.1∧x.1≤999999999) (h2:1≤x.2∧x.2≤999999999) (h3:Ur x.1 x.2=1):Jff x=0:=by
 unfold Jff
 rw[Jc.2 (show -999999999≤x.1∧x.1≤999999999 by omega),Jc.2 h2,h3];rfl
theorem F7 {c:Cab} {n:Int} (h:Yb c) (hn:0≤n):Jff (Jf 2 c.1 0 n)=0:=by
 obtain⟨b1,b2,b3,b4,_⟩:=Xn (n:=n) h.2.2.1 h.2.1 hn
 exact Jya (by omega) (by omega) (Jfj h.2.2.1)
theorem Jtb {a b:Int×Int} (h:ltF a b):Jgs a b= -1:=by
 unfold ltF at h
 unfold Jgs
 rw[decide_eq_false (by omega),decide_eq_true h];rfl
theorem Jtc {a b:Int×Int} (h:leF a b):Jgs a b≤0:=by
 unfold leF at h
 unfold Jgs
 rw[decide_eq_false (by omega)]
 cases decide (a.1*b.2<b.1*a.2)<;>decide
theorem prI {a b:Int} (ha:0≤a∧a≤76800000) (hb:1≤b∧b≤128): -9223372036854775808≤a*b∧a*b≤9223372036854775807:=by
 have:=H1 (A:=76800000) (B:=128) (a:=a) (b:=b) (by omega) (by omega)
 omega
theorem Jcc {c:Cab} (h:Yb c) (j:Nat):0≤Vg c (j:Int)∧Vg c (j:Int)≤(Ks c.1).2∧(Ks c.1).2≤384:=by
 have a:=Uk (Jew h.2.2.1 j)
 have b:=Uk (l:=c.1.drop j) fun x hx=>h.2.2.1 x (List.mem_of_mem_drop hx)
 have d:=Uk h.2.2.1
 have e:=Jgy (c.1.take j) (c.1.drop j)
 rw[List.take_append_drop] at e
 have e2:(Ks c.1).2=(Ks (c.1.take j)).2+(Ks (c.1.drop j)).2:=by rw[e]
 have hl:=h.2.1
 unfold Vg
 rw[Int.toNat_natCast]
 omega
def plV (x:Int×Int):Prop:=(0≤x.1∧x.1≤76800000)∧1≤x.2∧x.2≤128
theorem plF {c:Cab} {t:Int} (h:Yb c) (hc:Uc c=0) (ht:0≤t∧t≤(Ks c.1).2):Uu c t=0∧J0 c t=Jf 2 c.1 0 (2*t)∧Jff (J0 c t)=0∧plV (J0 c t):=by
 have e:Uu c t=0:=by unfold Uu;rw[if_pos hc];exact Jc.2 ht
 have g:J0 c t=Jf 2 c.1 0 (2*t):=by unfold J0;rw[if_pos e]
 obtain⟨b1,b2,b3,b4,_⟩:=Xn (n:=2*t) h.2.2.1 h.2.1 (by omega)
 refine⟨e,g, ?_, ?_⟩
 ·rw[g];exact F7 h (by omega)
 ·rw[g];exact⟨⟨b3,by omega⟩,b1,b2⟩
theorem Jim {c:Cab} {f:Flt} (h:Yw c f):(Uu c (Vg c f.1+f.2.1)=0∧Uu c (Vg c f.1)=0∧Uu c (Vg c f.1+(c.1.getD f.1.toNat (0,0)).2)=0)∧(Jff (J0 c (Vg c f.1+f.2.1))=0∧Jff (J0 c (Vg c f.1))=0∧Jff (J0 c (Vg c f.1+(c.1.getD f.1.toNat (0,0)).2))=0)∧(Jgs (J0 c (Vg c f.1)) (J0 c (Vg c f.1+f.2.1))= -1∧Jgs (J0 c (Vg c f.1+f.2.1)) (J0 c (Vg c f.1+(c.1.getD f.1.toNat (0,0)).2))= -1)∧plV (J0 c (Vg c f.1+f.2.1))∧plV (J0 c (Vg c f.1))∧plV (J0 c (Vg c f.1+(c.1.getD f.1.toNat (0,0)).2)):=by
 have hc:Uc c=0:=(D3 (Jcl h)).1
 have hv:=h.1
 have hs:=h.2.1
 have ho:=h.2.2.1
 have a:=Jcc hv f.1.toNat
 have b:=Jcc hv (f.1.toNat+1)
 have ef:((f.1.toNat:Nat):Int)=f.1:=by omega
 have ef1:((f.1.toNat+1:Nat):Int)=f.1+1:=by omega
 rw[ef] at a
 rw[ef1,V8 (by omega) hs.2] at b
 obtain⟨p1,p2,p3,p4⟩:=plF (t:=Vg c f.1+f.2.1) hv hc (by omega)
 obtain⟨q1,q2,q3,q4⟩:=plF (t:=Vg c f.1) hv hc (by omega)
 obtain⟨r1,r2,r3,r4⟩:=plF (t:=Vg c f.1+(c.1.getD f.1.toNat (0,0)).2) hv hc (by omega)
 refine⟨⟨p1,q1,r1⟩,⟨p3,q3,r3⟩,⟨Jtb ?_,Jtb ?_⟩,p4,q4,r4⟩
 ·rw[p2,q2];exact Jdi hv.2.2.1 (by omega) (by omega) (by omega)
 ·rw[p2,r2];exact Jdi hv.2.2.1 (by omega) (by omega) (by omega)
theorem Jye {c:Cab} {f:Flt} (h:Yw c f) {u v:Int} (hu:0≤u∧u≤9) (hv:0≤v∧v≤9) {N:RR} (hN:Jkw c (max 0 (tkD c f false-u),tkD c f false+u) (max 0 (tkD c f true-v),tkD c f true+v)=N):Jle c (max 0 (tkD c f false-u),tkD c f false+u) (max 0 (tkD c f true-v),tkD c f true+v)=0∧(Jff (N.1,N.2.1)=0∧Jff (N.2.2.1,N.2.2.2)=0)∧(Jgs (N.1,N.2.1) (J0 c (Jm c f))≤0∧Jgs (J0 c (Jm c f)) (N.2.2.1,N.2.2.2)≤0)∧I64 (N.1*(J0 c (Jm c f)).2)∧I64 ((J0 c (Jm c f)).1*N.2.1)∧I64 (N.2.2.1*(J0 c (Jm c f)).2)∧I64 ((J0 c (Jm c f)).1*N.2.2.2):=by
 subst hN
 have bA:=Vs (d:=false) h
 have bB:=Vs (d:=true) h
 have ht:=h.2.2.2.1
 have ha:0≤(max 0 (tkD c f false-u),tkD c f false+u).1∧(max 0 (tkD c f false-u),tkD c f false+u).1≤tkD c f false∧tkD c f false≤(max 0 (tkD c f false-u),tkD c f false+u).2∧(max 0 (tkD c f false-u),tkD c f false+u).2≤999999999:=⟨by dsimp only;omega,by dsimp only;omega,by dsimp only;omega,by dsimp only;omega⟩
 have hb:0≤(max 0 (tkD c f true-v),tkD c f true+v).1∧(max 0 (tkD c f true-v),tkD c f true+v).1≤tkD c f true∧tkD c f true≤(max 0 (tkD c f true-v),tkD c f true+v).2∧(max 0 (tkD c f true-v),tkD c f true+v).2≤999999999:=⟨by dsimp only;omega,by dsimp only;omega,by dsimp only;omega,by dsimp only;omega⟩
 obtain⟨h1,h2⟩:=Juy h ha hb
 obtain⟨_,g2,g3,g4,g5⟩:=Ju0 h ha hb
 have pb:=Jyb h2 (J5w h)
 have e:=h2.2.2
 refine⟨h1,⟨?_, ?_⟩,⟨Jtc e.1,Jtc e.2⟩,pb⟩
 ·rw[g2];exact F7 h.1 g3
 ·rw[g2];exact F7 h.1 (by omega)
theorem Jys {c:Cab} {f:Flt} (h:Yw c f) (d:Bool):K6 (Va c f 500) (Yi d)=7∨K6 (Va c f 500) (Yi d)=0∧Uv (Va c f 500) (Yi d)=(tkD c f d,Yi d,htD c f d):=by
 have z3:Jco (Va c f 500) (Yi d)=0:=by unfold Jco;simp[Ja,Jox h,Jjh]
 by_cases hh:htD c f d=0
 ·left;unfold K6;rw[if_pos z3,Fn h (by decide),if_pos hh];rfl
 ·right
  refine⟨?_, ?_⟩
  ·unfold K6;rw[if_pos z3,Fn h (by decide),if_neg hh];rfl
  ·unfold Uv;rw[if_pos z3,Fn h (by decide),if_neg hh];rfl
theorem Jlx {c:Cab} {z:Zon} (hc:Uc c=0) (h:Jgo c z=0):Yj z c.1.length=0∧thF c z=thG c z∧(thG c z).1≤(thG c z).2:=by
 unfold Jgo at h
 by_cases h0:thE c z=0
 ·rw[if_pos h0] at h
  have hz:Yj z c.1.length=0:=by
   have k:=Ji (show Ja [Uc c,Yj z c.1.length]=0 from h0)
   exact k _ (List.mem_cons_of_mem _ (List.mem_cons_self ..))
  by_cases q:(thG c z).2<(thG c z).1
  ·rw[if_pos q] at h;cases h
  ·refine⟨hz, ?_,by omega⟩
   unfold thF;rw[if_pos h0,if_neg q]
 ·rw[if_neg h0] at h;exact absurd h h0
theorem Jgv {c:Cab} {f:Flt} {z:Zon} {t:Int} (h:Yw c f) (hz:Yj z c.1.length=0) (ht:(thG c z).1≤t∧t≤(thG c z).2):Ye (Va c f 500) z t=0∧Yy (Va c f 500) z t=Jc2 (Va c f 500) z.2.2.2 t:=by
 have hZ:=Lm hz
 have hlo:=Jgx (c:=c) (z:=z) (A:=1099511627776) c.1.length
 have hlo:1≤(thG c z).1∧(thG c z).2≤1099511627776:=hlo
 have hl:=h.1.2.1
 have z6:Yj z 6=0:=by
  unfold Yj
  rw[if_neg (by omega),Jc.2 hZ.2.1,Jc.2 hZ.2.2.1,hZ.2.2.2];rfl
 have t0:Jw1 t=0:=Jc.2 (by omega)
 have e:Ye (Va c f 500) z t=0:=by unfold Ye;simp[Ja,Jox h,z6,t0]
 refine⟨e, ?_⟩
 unfold Yy;rw[if_pos e]
theorem Ju9 {c:Cab} {f:Flt} {z:Zon} {d:Bool} (h:Yw c f) (he:z.2.2.2=Yi d) (h1:z.1.1≤f.1∧f.1<z.1.2) (h2:z.2.1≤mx f.2.2.2) (ht:Jgo c z=0):Ye (Va c f 500) z (thF c z).1=0∧Ye (Va c f 500) z (thF c z).2=0∧Yy (Va c f 500) z (thF c z).1=true∧Yy (Va c f 500) z (thF c z).2=true:=by
 obtain⟨hz,eT,hlh⟩:=Jlx (D3 (Jcl h)).1 ht
 rw[eT]
 obtain⟨a1,a2⟩:=Jgv (t:=(thG c z).1) h hz ⟨Int.le_refl _,hlh⟩
 obtain⟨b1,b2⟩:=Jgv (t:=(thG c z).2) h hz ⟨hlh,Int.le_refl _⟩
 have g1:=(Fs (win:=500) (t:=(thG c z).1) h (by decide) hz he ⟨Int.le_refl _,hlh⟩).1 h1 h2
 have g2:=(Fs (win:=500) (t:=(thG c z).2) h (by decide) hz he ⟨hlh,Int.le_refl _⟩).1 h1 h2
 exact⟨a1,b1,a2.trans g1,b2.trans g2⟩
theorem Jqq {c:Cab} {f:Flt} {z:Zon} {d:Bool} (h:Yw c f) (he:z.2.2.2=Yi d) (h1:¬(z.1.1≤f.1∧f.1<z.1.2)) (h2:mx f.2.2.2≤z.2.2.1) (ht:Jgo c z=0):Ye (Va c f 500) z (thF c z).1=0∧Yy (Va c f 500) z (thF c z).1=false:=by
 obtain⟨hz,eT,hlh⟩:=Jlx (D3 (Jcl h)).1 ht
 rw[eT]
 obtain⟨a1,a2⟩:=Jgv (t:=(thG c z).1) h hz ⟨Int.le_refl _,hlh⟩
 exact⟨a1,a2.trans ((Fs (win:=500) (t:=(thG c z).1) h (by decide) hz he ⟨Int.le_refl _,hlh⟩).2 h1 h2)⟩
theorem Jqr {s r l:Int} (h1:0≤s∧s<l) (h2:2≤l) (hr:0≤r):(0≤(s+1+r.tmod (l-1)).tmod l∧(s+1+r.tmod (l-1)).tmod l<l)∧(s+1+r.tmod (l-1)).tmod l≠s:=by
 have a:=Int.tmod_nonneg (l-1) hr
 have b:=Int.tmod_lt_of_pos r (show 0<l-1 by omega)
 obtain⟨m,hm⟩:∃m,r.tmod (l-1)=m:=⟨_,rfl⟩
 rw[hm] at a b⊢
 have c1:=Int.tmod_nonneg l (show 0≤s+1+m by omega)
 have c2:=Int.tmod_lt_of_pos (s+1+m) (show 0<l by omega)
 refine⟨⟨c1,c2⟩, ?_⟩
 have e:(s+1+m).tmod l=(s+1+m) %l:=Int.tmod_eq_emod_of_nonneg (by omega)
 rw[e]
 rcases Int.lt_or_le (s+1+m) l with q|q
 ·rw[Int.emod_eq_of_lt (by omega) q];omega
 ·have:(s+1+m) %l=s+1+m-l:=by
   rw[←Int.sub_emod_right,Int.emod_eq_of_lt (by omega) (by omega)]
  rw[this];omega
set_option pp.maxSteps 10000000
theorem wp8 (c:Cab):wpF Tryz.prog Kew.g (Vi (Jtu 68 91 26 39 c)) Tryz.f8 Kf8 (c,()):=by
 refine(by kernel_rfl:(Z64 c→Z30 c→(0+List.length c.2.1)*8≤140737488355328∧∃(x:Nat),Si (Z4 c) (0=Nc x∧c.1=c.1∧Sf Z50 (Sf Z50 (Si 0 (Si 0 (c.2.1=c.2.1∧Si c.2.2.1 (Si c.2.2.2 (List.length (Z16 x c)=0)))))))∧Z40 x c∧∀(x:Nat),Z40 x c→Br (Z72 x c) (Tw (Z56 x c)∧(List.length (Z16 x c)+1)*16≤140737488355328∧Z1 x∧∃(y:Nat),Si (Z4 c) (Z25 x y∧c.1=c.1∧Sf Z50 (Sf Z50 (Si 0 (Si 0 (c.2.1=c.2.1∧Si c.2.2.1 (Si c.2.2.2 (Z16 x c++[E2 (Z89 c x)]=Z16 y c)))))))∧J3u y c x) ((Z16 x c,c.2.1,E2 c.2.2)=c))=_).mp ?_
 delta Z1 Z4 Z13 Z16 Z25 Z30 Z40 Z50 Z56 Z64 Z72 Z89 Jr6 J3u Br Iw Bd Tw Sf Si Ln Nc E2
 intro h1 h2
 refine⟨by show(0+c.2.1.length)*8≤140737488355328;omega,(0:Nat),⟨rfl,rfl,rfl,rfl,rfl,rfl,rfl,rfl,rfl,rfl,by simp⟩,Nat.zero_le _,fun(k:Nat) hk=>⟨fun h=> ?_,fun h=> ?_⟩⟩
 ·have hlt:k<c.1.length:=by simpa using h
  have hl:(c.1.take k).length≤c.1.length:=by simp;omega
  exact⟨⟨by omega,by omega⟩,by omega,by omega,(k+1:Nat),⟨rfl,by simp,rfl,rfl,rfl,rfl,rfl,rfl,rfl,rfl,Jy (d:=(0,0)) hlt⟩,by omega,by omega⟩
 ·have hge:¬k<c.1.length:=by simpa using h
  rw[List.take_of_length_le (by omega)]
theorem ok8:Ok Tryz.prog 8 Kf8:=Je mixed Kew.ok (by kernel_rfl) (by kernel_rfl) (fun xx=>Vi (Jtu 68 91 26 39 xx.1)) fun xx=>wp8 xx.1
abbrev Kev:=Kew.add ok8
def Jy4:Con:={args:=[],ress:=[Bo],owns:=[],pre:=fun _=>[],spec:=fun _=>(true,())}
def Kd3 (a:Nat):=Jh8 [(102,5),(103,0),(104,0)] a
theorem wp6:wpF Tryz.prog Kev.g (na ()) Tryz.f6 Jy4 ():=by
 refine(by kernel_rfl:(T2 (1≤1000000∧0≤1000000) (T2 (((0:Int)≤1∧(1:Int)≤8)∧((0:Int)≤0∧(0:Int)≤8)∧Jph ((Jlj 1 0).1,E2 (Jlj 1 0).2)) ((3≤1000000∧∀(i:Nat),i<2→Kd3 i=0∨Kd3 i=5)∧(true=true→1≤1000000)∧true=true)))=_).mp ?_
 delta Kd3 T2 E2
 have sm:Jph (Jlj 1 0):=by
  unfold Jph smN
  exact of_decide_eq_true (by kernel_rfl)
 refine⟨⟨by decide,by decide⟩,⟨by decide,by decide⟩,⟨⟨by decide,by decide⟩,⟨by decide,by decide⟩,sm⟩,⟨⟨by decide,by decide⟩,⟨by decide,by decide⟩,sm⟩,⟨by decide,fun i hi=> ?_⟩,fun _=>by decide,rfl⟩
 match i,hi with
 |0,_=>exact .inr (by kernel_rfl)
 |1,_=>exact .inl (by kernel_rfl)
theorem ok6:Ok Tryz.prog 6 Jy4:=Je mixed Kev.ok (by kernel_rfl) (by kernel_rfl) na fun xx=>wp6
abbrev Kk0:=Kev.add ok6
end Go.Proofs.YthchfepplbcdeaaGreatDoor

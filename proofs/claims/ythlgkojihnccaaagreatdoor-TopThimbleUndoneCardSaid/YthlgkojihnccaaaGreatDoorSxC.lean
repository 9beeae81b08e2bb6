/- A symbolic executor over the model and its soundness: part of the proof. -/
import Derived.Test.YthlgkojihnccaaaGreatDoorSxB
import Derived.OpenShut
import Derived.Carry
import Derived.Handed
import Derived.ProofKit
import Derived.LaidMore
import Derived.Shelf.Strconv.AtoiAll
set_option linter.unusedSimpArgs false
set_option linter.unusedVariables false
namespace Go.Sx
open Go.RowKit
structure Zc where
 T? :Option TypeId
 s:Sch
 args:List AK
 ress:List (Bool×Sch)
 pre:s.T→ATup args→List Prop
 spec:s.T→ATup args→Tup ress
 post:s.T→ATup args→s.T
def Jvu (rs:Nat→Option Res):Sch→List SC→Bool
 | .prod a b,cs=>Jvu rs a (cs.take a.size)&&Jvu rs b (cs.drop a.size)
 | .list T _, cs => match cs with
  |[.sl i]=>match rs i with
   |some (.own T' _ _)=>Nat.beq T' T
   |_=>false
  |[.val (.slice none 0 0)]=>true
  |_=>false
 |_,_=>true
def Ke3 (M R:Nat→Prop) (B:Nat) (w:World) (y:Res) (v:Value):Prop:=
 v.oneCell'=true∧∃T s xs flat,y= .own T s xs∧Yc (Rep M w s) xs flat∧w.ownsRow B T s.size v (xs:List s.T).length flat∧∀g,v.ownBlock=some g→¬M g∧¬R g
def J9l (u u':Value):Prop:=∀b,blk u=some b→blk u'≠some b
structure Jhq (M R:Nat→Prop) (B:Nat) (w:World) (s:Sch) (x:s.T) (cells vals:List Value):Prop where
 len:vals.length=(Jt (enc s x) 0).2.length
 cells:∀(n:Nat) (ρ':Env),(∀(i:Nat) (u:Value),vals[i]? =some u→ρ' (n+i)=u)→cells=(Jt (enc s x) n).1.map (SC.den ρ')
 own:∀(i:Nat) (y:Res),((Jt (enc s x) 0).2.map Xa)[i]? =some y→∃v,vals[i]? =some v∧Ke3 M R B w y v
 apart:vals.Pairwise J9l
theorem X5:∀(a b:List SC) (n:Nat),Jt (a++b) n=((Jt a n).1++(Jt b (n+(Jt a n).2.length)).1,(Jt a n).2++(Jt b (n+(Jt a n).2.length)).2)
 |[],b,n=>by simp[Jt]
 | c :: a, b, n => by
  have ih:=X5 a b
  cases c with
  |lst T s xs=>
   simp only[List.cons_append,Jt,ih,List.length_cons]
   rw[show n+1+(Jt a (n+1)).2.length=n+((Jt a (n+1)).2.length+1) by omega]
  |_=>simp only[List.cons_append,Jt,ih]
theorem Yh:∀(cs:List SC) (n m:Nat),(Jt cs n).2=(Jt cs m).2
 |[],_,_=>rfl
 |c::cs,n,m=>by
  cases c with
  |lst T s xs=>simp only[Jt];rw[Yh cs (n+1) (m+1)]
  |_=>simp only[Jt];exact Yh cs n m
theorem Fq:∀{s:Sch} {x:s.T} (n:Nat),∀id∈Kl (Jt (enc s x) n).1,n≤id∧id<n+(Jt (enc s x) n).2.length
 | .int _,_,_,id,h=>by simp[enc,Jt,Kl,SC.ids] at h
 | .bool,_,_,id,h=>by simp[enc,Jt,Kl,SC.ids] at h
 | .str,_,_,id,h=>by simp[enc,Jt,Kl,SC.ids] at h
 | .flt _,_,_,id,h=>by simp[enc,Jt,Kl,SC.ids] at h
 | .fnc,_,_,id,h=>by simp[enc,Jt,Kl,SC.ids] at h
 | .list _ _,_,_,id,h=>by
  simp[enc,Jt,Kl,SC.ids] at h
  simp only[enc,Jt,List.length_cons,List.length_nil]
  omega
 | .prod a b,x,n,id,h=>by
  simp only[enc,X5] at h⊢
  rw[Kl,List.flatMap_append] at h
  rw[List.length_append]
  rcases List.mem_append.1 h with h|h
  ·have:=Fq n id h;omega
  ·have:=Fq (n+(Jt (enc a x.1) n).2.length) id h;omega
theorem Js3 {M:Nat→Prop} {w:World} {B:Nat} {T:TypeId} {s s':Sch} (h:s'=s) {xs:List s'.T} {v:Value} {flat:List Value} (h1:Yc (Rep M w s') xs flat) (h2:w.ownsRow B T s'.size v xs.length flat):
  Yc (Rep M w s) (Jao h xs) flat∧w.ownsRow B T s.size v (Jao h xs).length flat:=by
 subst h
 exact⟨h1,h2⟩
theorem Fn [Dr] {P : Program} {ρ : Env} {M R : Nat → Prop} {B : Nat} {w : World} {rs : Nat → Option Res} (hres : ∀ i T s xs, rs i = some (.own T s xs) → Vv P ρ M R B w i (.own T s xs))
  (hap:∀i j x y,i≠j→rs i=some x→rs j=some y→x.owning=true→y.owning=true→∀b,blk (ρ i)=some b→blk (ρ j)≠some b):
  ∀{s:Sch} {cs:List SC} {x:s.T},dec rs s cs=some x→Jvu rs s cs=true→(Kl cs).Nodup→
   ∃vals,Jhq M R B w s x (cs.map (SC.den ρ)) vals∧∀v∈vals,v= .slice none 0 0∨∃i T s xs,i∈Kl cs∧rs i=some (.own T s xs)∧v=ρ i
 | .int k, cs, x, h, _, _ => by
  replace h:Jdy k cs=some x:=h
  unfold Jdy at h
  split at h
  ·split at h
   ·rename_i e;subst e;cases h
    exact⟨[],⟨rfl,fun n ρ' _=>rfl,fun i y hy=>by simp[enc,Jt] at hy, .nil⟩,fun v hv=>by simp at hv⟩
   ·cases h
  ·cases h
 | .bool, cs, x, h, _, _ => by
  replace h:D9 cs=some x:=h
  unfold D9 at h
  split at h
  ·cases h
   exact⟨[],⟨rfl,fun n ρ' _=>rfl,fun i y hy=>by simp[enc,Jt] at hy, .nil⟩,fun v hv=>by simp at hv⟩
  ·cases h
 | .str, cs, x, h, _, _ => by
  replace h:Jdw cs=some x:=h
  unfold Jdw at h
  split at h
  ·cases h
   exact⟨[],⟨rfl,fun n ρ' _=>rfl,fun i y hy=>by simp[enc,Jt] at hy, .nil⟩,fun v hv=>by simp at hv⟩
  ·cases h
 | .flt k, cs, x, h, _, _ => by
  replace h:Jdz k cs=some x:=h
  unfold Jdz at h
  split at h
  ·split at h
   ·rename_i e;subst e;cases h
    exact⟨[],⟨rfl,fun n ρ' _=>rfl,fun i y hy=>by simp[enc,Jt] at hy, .nil⟩,fun v hv=>by simp at hv⟩
   ·cases h
  ·cases h
 | .fnc,cs,x,h,_,_=>by
  replace h:Jsu cs=some x:=h
  unfold Jsu at h
  split at h
  ·cases h;exact⟨[],⟨rfl,fun n ρ' _=>rfl,fun i y hy=>by simp[enc,Jt] at hy, .nil⟩,fun v hv=>by simp at hv⟩
  ·cases h;exact⟨[],⟨rfl,fun n ρ' _=>rfl,fun i y hy=>by simp[enc,Jt] at hy, .nil⟩,fun v hv=>by simp at hv⟩
  ·cases h;exact⟨[],⟨rfl,fun n ρ' _=>rfl,fun i y hy=>by simp[enc,Jt] at hy, .nil⟩,fun v hv=>by simp at hv⟩
  ·cases h
 | .prod a b, cs, x, h, ho, hn => by
  simp only[dec] at h
  simp only[Jvu,Bool.and_eq_true] at ho
  have hsplit:Kl cs=Kl (cs.take a.size)++Kl (cs.drop a.size):=by
   rw[Kl,Kl,Kl,←List.flatMap_append,List.take_append_drop]
  rw[hsplit,List.nodup_append] at hn
  split at h
  ·rename_i y z ha hb
   cases h
   obtain⟨va,A,A'⟩:=Fn hres hap ha ho.1 hn.1
   obtain⟨vb,Bb,B'⟩:=Fn hres hap hb ho.2 hn.2.1
   refine⟨va++vb,⟨?_,fun n ρ' hρ=> ?_,fun i u hu=> ?_, ?_⟩,fun v hv=> ?_⟩
   ·simp only[enc,X5,List.length_append,A.len,Bb.len]
    rw[Yh (enc b z) (0+(Jt (enc a y) 0).2.length) 0]
   ·simp only[enc,X5,List.map_append]
    rw[←A.cells n ρ' fun i u hu=>hρ i u (by rw[List.getElem?_append_left (List.getElem?_eq_some_iff.1 hu).1];exact hu),
     ←Bb.cells (n+(Jt (enc a y) n).2.length) ρ' fun i u hu=>by
      have:=hρ (va.length+i) u (by rw[List.getElem?_append_right (Nat.le_add_right _ _)];simpa using hu)
      rw[A.len,Yh _ 0 n] at this
      rwa[Nat.add_assoc],
     ←List.map_append,List.take_append_drop]
   ·simp only[enc,X5,List.map_append] at hu
    rw[Yh (enc b z) (0+(Jt (enc a y) 0).2.length) 0] at hu
    have hlen:((Jt (enc a y) 0).2.map Xa).length=va.length:=by rw[List.length_map,A.len]
    by_cases hi:i<va.length
    ·rw[List.getElem?_append_left (by omega)] at hu
     obtain⟨v,h1,h2⟩:=A.own i u hu
     exact⟨v,by rw[List.getElem?_append_left hi];exact h1,h2⟩
    ·rw[List.getElem?_append_right (by omega),hlen] at hu
     obtain⟨v,h1,h2⟩:=Bb.own _ u hu
     exact⟨v,by rw[List.getElem?_append_right (by omega)];exact h1,h2⟩
   ·refine List.pairwise_append.2 ⟨A.apart,Bb.apart,fun u hu u' hu' g hg hg'=> ?_⟩
    rcases A' u hu with rfl|⟨i,T,s,xs,i1,i2,rfl⟩
    ·cases hg
    ·rcases B' u' hu' with rfl|⟨j,T',s',xs',j1,j2,rfl⟩
     ·cases hg'
     ·exact hap i j _ _ (fun e=>hn.2.2 i i1 j j1 e) i2 j2 rfl rfl g hg hg'
   ·rcases List.mem_append.1 hv with hv|hv
    ·rcases A' v hv with h|⟨i,T,s,xs,i1,i2⟩
     ·exact .inl h
     ·exact .inr ⟨i,T,s,xs,by rw[hsplit];exact List.mem_append_left _ i1,i2⟩
    ·rcases B' v hv with h|⟨i,T,s,xs,i1,i2⟩
     ·exact .inl h
     ·exact .inr ⟨i,T,s,xs,by rw[hsplit];exact List.mem_append_right _ i1,i2⟩
  ·cases h
 | .list T s, cs, x, h, ho, hnd => by
  clear hnd
  replace h:Zn rs s cs=some x:=h
  unfold Zn at h
  split at h
  ·rename_i i
   cases hy:rs i with
   |none=>rw[hy] at h;cases h
   | some y =>
    rw[hy] at h
    cases y with
    |imm T' s' xs=>simp[Jvu,hy] at ho
    | own T' s' xs =>
     simp only[H7] at h
     split at h
     ·rename_i e;cases h
      have hr:=hres i _ _ _ hy
      obtain⟨flat,h3,h4,h5⟩:=hr
      have hT:T'=T:=by simpa[Jvu,hy,Nat.beq_eq] using ho
      subst hT
      obtain⟨h6,h7⟩:=Js3 e h3 h4
      refine⟨[ρ i],⟨rfl,fun n ρ' hρ=> ?_,fun j u hu=> ?_,List.pairwise_singleton _ _⟩,fun v hv=> ?_⟩
      ·have:=hρ 0 _ rfl
       simp only[Nat.add_zero] at this
       simp[enc,Jt,SC.den,this]
      ·cases j with
       |zero=>
        have:Res.own T' s (Jao e xs)=u:=by simpa[enc,Jt,Xa] using hu
        subst this
        refine⟨ρ i,rfl, ?_,T',s,_,flat,rfl,h6,h7,h5⟩
        rcases h4.2 with⟨h,_⟩|⟨g,cap,cur,h,_⟩<;>rw[h]<;>rfl
       |succ j=>simp[enc,Jt] at hu
      ·refine .inr ⟨i,T',s',xs,by simp[Kl,SC.ids],hy,by simpa using hv⟩
     ·cases h
    |_=>cases h
  ·cases h
   refine⟨[.slice none 0 0],⟨rfl,fun n ρ' hρ=> ?_,fun j u hu=> ?_,List.pairwise_singleton _ _⟩,fun v hv=> .inl (by simpa using hv)⟩
   ·have:=hρ 0 _ rfl
    simp only[Nat.add_zero] at this
    simp[enc,Jt,SC.den,this]
   ·cases j with
    |zero=>
     have:Res.own T s []=u:=by simpa[enc,Jt,Xa] using hu
     subst this
     exact⟨.slice none 0 0,rfl,rfl,T,s,[],[],rfl,rfl,⟨by simp, .inl ⟨rfl,rfl⟩⟩,fun g hg=>by cases hg⟩
    |succ j=>simp[enc,Jt] at hu
  ·cases h
def Hx (b:Nat) (vals:List Value) (g:Nat):Prop:=g=b∨∃u∈vals,blk u=some g
def OkO [Dr] (P:Program) (f:FuncId) (c:Zc):Prop:=
 He P f∧∀(x:c.s.T) (y:ATup c.args) (M R:Nat→Prop) (B:Nat) (w:World) (b T:Nat) (cells vals vs:List Value),B≤w.heap.size→(∀g,M g∨R g→g<w.heap.size)→(∀w',Below B w w'→Tab P w')→
  w.heap[b]? =some (.cells cells.toArray T (0,0))→B≤b→¬M b→¬R b→(∀T0,c.T? =some T0→T=T0)→Jhq M R B w c.s x cells vals→(∀u∈vals,blk u≠some b)→K6 (c.pre x y)→V9 P M R w c.args y vs→
  Calls P f (.pointer (some ⟨b,0,none⟩)::vs).toArray w fun e w'=>∃M' cells' vals' us,e= .returned (Joi us)∧Hd M' w' 0 c.ress [] (c.spec x y) us∧Below B w w'∧(∀g,M g→M' g)∧(∀g,M' g→g<w'.heap.size)∧
   (∀g,M' g→M g∨(B≤g∧(Hx b vals g∨w.heap.size≤g)))∧(∀g,g<w.heap.size→¬Hx b vals g→w'.heap[g]? =w.heap[g]?)∧(∀g,M g→w'.heap[g]? =w.heap[g]?)∧
   w'.heap[b]? =some (.cells cells'.toArray T (0,0))∧¬M' b∧Jhq M' R B w' c.s (c.post x y) cells' vals'∧(∀u∈vals',blk u≠some b)∧(∀g,Hx b vals' g→Hx b vals g∨w.heap.size≤g)
def Ja9 (c:Zc) (T:TypeId) (x:c.s.T) (y:ATup c.args):St:=
 let o:=Jt (enc c.s x) 2
 let a:=Uc c.args y (2+o.2.length)
 ⟨2+o.2.length+a.2.length,Jks (.one (.ptr 1 0)::a.1) 0,Jks (.sus [(0, .one (.ptr 1 0))]:: .box T o.1::(o.2.map Xa++a.2)) 0⟩
def Kfr (P:Program) (fn:Func) (c:Zc) (T:TypeId) (x:c.s.T) (y:ATup c.args) (s:St):Prop:=
 match V1 P s fn.results.toList,look s.rs 0 with
 | some vs, some (.sus [(0, .v false [.ptr i 0])]) => match look s.rs i, Zs (look s.rs) c.ress vs with
  |some (.box T' cs),some r=>match dec (look s.rs) c.s cs with
   |some x'=>if Jvu (look s.rs) c.s cs=true∧Zj (Kl cs)=true then K6 ((T'=T)::(x'=c.post x y)::Joa c.ress r (c.spec x y)) else False
   |none=>False
  |_,_=>False
 |_,_=>False
def Jxo (fn:Func) (c:Zc):Bool:=match fn.body with
 |some code=>Vi fn.ntmps code&&Nat.ble (c.args.length+1) fn.ntmps&& !(fn.name== "runtime.NumGoroutine")&& !(hasList c.ress)
 |none=>false
@[irreducible] def wpFO (P:Program) (Γ:Gam) (ann:Nat→Option Ann) (annF:FuncId→Nat→Option Ann) (lib:FuncId→Option Func) (fn:Func) (c:Zc) (T:TypeId) (x:c.s.T) (y:ATup c.args):Prop:=
 match fn.body with
 |some code=>Jxz (c.pre x y)<|wpG P Γ ann (ilS P Γ annF lib 5) code none (itS P Γ annF (ilS P Γ annF lib 5) lib) (Ja9 c T x y) fun e s=>match e with
  | .exit _=>False
  |_=>(s.rs.all fun p=>p.2.soft)=true∧Kfr P fn c T x y s
 |none=>False
theorem Jk7 {rs rs':Nat→Option Res}:∀{s:Sch} {cs:List SC},s.hasList=false→dec rs s cs=dec rs' s cs
 | .int _,_,_=>rfl
 | .bool,_,_=>rfl
 | .str,_,_=>rfl
 | .flt _,_,_=>rfl
 | .fnc,_,_=>rfl
 | .list _ _,_,h=>by cases h
 | .prod a b,cs,h=>by
  simp only[Sch.hasList,Bool.or_eq_false_iff] at h
  simp only[dec]
  rw[Jk7 (rs':=rs') h.1,Jk7 (rs':=rs') (s:=b) h.2]
theorem Jfb [Dr] (P:Program) {rs:Nat→Option Res} {ρ:Env} {M:Nat→Prop} {w:World}:∀{ps:List (Bool×Sch)} {vs:List SV} {y:Tup ps},Zs rs ps vs=some y→hasList ps=false→Hd M w 0 ps [] y (vs.map (SV.den ρ))
 |[],[],_,_,_=>rfl
 |[],_::_,_,h,_=>by simp[Zs] at h
 |_::_,[],_,h,_=>by simp[Zs] at h
 | p :: r, v :: vs, y, h, hl => by
  simp only[hasList,List.any_cons,Bool.or_eq_false_iff] at hl
  cases v with
  |tup _=>simp[Zs] at h
  | v g cs =>
   simp only[Zs] at h
   split at h
   ·rename_i e
    subst e
    split at h
    ·rename_i x z hx hz
     cases h
     refine⟨_,_,rfl,⟨cs.map (SC.den ρ),rfl, ?_⟩,Jfb P hz hl.2⟩
     rw[Jk7 (rs':=fun _=>none) hl.1] at hx
     exact Hc (P:=P) (M:=M) (R:=M) (B:=0) (fun _ h=>h) hx (fun i y h=>by cases h) (fun i T s' xs g _ h=>by cases h)
    ·cases h
   ·cases h
theorem Jsa [Dr] {P:Program} {c:Zc} {x:c.s.T} {y:ATup c.args} {M R:Nat→Prop} {B:Nat} {w:World} {b T:Nat} {cells vals vs:List Value} {N:Nat} (hB:B≤w.heap.size) (hM:∀g,M g∨R g→g<w.heap.size) (hgood:∀w',Below B w w'→Tab P w')
  (hb:w.heap[b]? =some (.cells cells.toArray T (0,0))) (hBb:B≤b) (hMb:¬M b) (hRb:¬R b) (ho:Jhq M R B w c.s x cells vals) (hv:∀u∈vals,blk u≠some b) (h:V9 P M R w c.args y vs) (hN:c.args.length+1≤N):
  Vm P N B ⟨w,M,fun id=>if id=0 then some (.vals fun _=> .pointer (some ⟨b,0,none⟩)) else none,true⟩ R (Ja9 c T x y) {tmps:=(Value.pointer (some ⟨b,0,none⟩)::vs).toArray++Array.replicate (N-(Value.pointer (some ⟨b,0,none⟩)::vs).toArray.size) undef,defers:=[]} w:=by
 obtain⟨L,hL⟩:∃L,L=(Jt (enc c.s x) 2).2.length:=⟨_,rfl⟩
 have hvl:vals.length=L:=by rw[ho.len,hL,Yh _ 0 2]
 obtain⟨av,a1,a2,a3,a4,a5⟩:=D3 (2+L) h
 obtain⟨all,hall⟩:∃all:List Value,all= .bool true:: .pointer (some ⟨b,0,none⟩)::(vals++av):=⟨_,rfl⟩
 let ρ:Env:=fun id=>all.getD id undef
 have hρ:∀(i:Nat) (u:Value),all[i]? =some u→ρ i=u:=fun i u hu=>by
  show all.getD i undef=u
  rw[List.getD_eq_getElem?_getD,hu];rfl
 have hρv:∀(i:Nat) (u:Value),vals[i]? =some u→ρ (2+i)=u:=fun i u hu=>hρ _ u (by
  rw[hall,Nat.add_comm 2 i]
  simp only[List.getElem?_cons_succ]
  rw[List.getElem?_append_left (List.getElem?_eq_some_iff.1 hu).1];exact hu)
 have hρa:∀(i:Nat) (u:Value),av[i]? =some u→ρ (2+L+i)=u:=fun i u hu=>hρ _ u (by
  rw[hall,show 2+L+i=L+i+1+1 by omega]
  simp only[List.getElem?_cons_succ]
  rw[List.getElem?_append_right (by omega),hvl,Nat.add_sub_cancel_left];exact hu)
 have h0:ρ 0= .bool true:=hρ 0 _ (by rw[hall];rfl)
 have h1:ρ 1= .pointer (some ⟨b,0,none⟩):=hρ 1 _ (by rw[hall];rfl)
 obtain⟨e1,e2⟩:=a5 ρ hρa
 have ecells:=ho.cells 2 ρ hρv
 have hlen:=Hn h
 have hsl:(Ja9 c T x y).sl=Jks (.one (.ptr 1 0)::(Uc c.args y (2+L)).1) 0:=by rw[hL];rfl
 have hrs:(Ja9 c T x y).rs=Jks (.sus [(0, .one (.ptr 1 0))]:: .box T (Jt (enc c.s x) 2).1::((Jt (enc c.s x) 2).2.map Xa++(Uc c.args y (2+L)).2)) 0:=by rw[hL];rfl
 have hnx:(Ja9 c T x y).nx=2+L+(Uc c.args y (2+L)).2.length:=by rw[hL];rfl
 have hres:∀{r z},look (Ja9 c T x y).rs r=some z→(r=0∧z= .sus [(0, .one (.ptr 1 0))])∨(r=1∧z= .box T (Jt (enc c.s x) 2).1)∨(∃i,r=2+i∧i<L∧((Jt (enc c.s x) 2).2.map Xa)[i]? =some z)∨∃i,r=2+L+i∧(Uc c.args y (2+L)).2[i]? =some z:=by
  intro r z hz
  rw[hrs,U9,if_pos (Nat.zero_le _),Nat.sub_zero] at hz
  match r,hz with
  |0,hz=>left;exact⟨rfl,by simpa using hz.symm⟩
  |1,hz=>right;left;exact⟨rfl,by simpa using hz.symm⟩
  | r + 2, hz =>
   right;right
   simp only[List.getElem?_cons_succ] at hz
   by_cases hlt:r<L
   ·rw[List.getElem?_append_left (by rw[List.length_map,←hL];exact hlt)] at hz
    exact .inl ⟨r,by omega,hlt,hz⟩
   ·rw[List.getElem?_append_right (by rw[List.length_map,←hL];omega),List.length_map,←hL] at hz
    exact .inr ⟨r-L,by omega,hz⟩
 have hown:∀(i:Nat) (z:Res),((Jt (enc c.s x) 2).2.map Xa)[i]? =some z→∃v,vals[i]? =some v∧Ke3 M R B w z v:=fun i z hz=>ho.own i z (by rw[Yh _ 0 2];exact hz)
 refine⟨ρ,M,fun id=>id<(Ja9 c T x y).nx,fun id h=>h,⟨?_,⟨fun d hd=>by simp at hd, .nil⟩,fun _=>rfl,fun _ _=>rfl,fun _ _=>rfl,Below.refl _ _,hB, ?_, ?_, ?_, ?_, ?_,hM, ?_,fun b=>⟨fun h=> .inl h,fun h=>h⟩,hgood⟩⟩
 ·simp;omega
 ·intro t sv ht
  rw[hsl,U9,if_pos (Nat.zero_le _),Nat.sub_zero] at ht
  have:(Value.pointer (some ⟨b,0,none⟩)::vs)[t]? =some (sv.den ρ):=by
   have e0:(SV.one (.ptr 1 0)).den ρ= .pointer (some ⟨b,0,none⟩):=by simp[SV.den,Ji,SC.den,h1]
   rw[←e0,←e1,←List.map_cons,List.getElem?_map,ht];rfl
  have hlt:t<(Value.pointer (some ⟨b,0,none⟩)::vs).length:=(List.getElem?_eq_some_iff.1 this).1
  simp only[Array.getD_eq_getD_getElem?,Array.getElem?_append,List.size_toArray,hlt,if_true,List.getElem?_toArray,this,Option.getD_some]
 ·intro t sv ht id hid
  rw[hsl,U9,if_pos (Nat.zero_le _),Nat.sub_zero] at ht
  rw[hnx]
  rcases List.mem_cons.1 (List.mem_of_getElem? ht) with rfl|hm
  ·simp only[SV.ids,Kl,SC.ids,List.flatMap_cons,List.flatMap_nil,List.append_nil,List.mem_singleton] at hid
   omega
  ·have:=a3 sv hm id hid;omega
 ·intro r z hz
  rcases hres hz with⟨rfl,rfl⟩|⟨rfl,rfl⟩|⟨i,rfl,hi,hz2⟩|⟨i,rfl,hz2⟩
  ·refine⟨fun _=> .pointer (some ⟨b,0,none⟩),rfl,fun p hp=> ?_⟩
   have:p=(0, .one (.ptr 1 0)):=by simpa using hp
   subst this
   simp[SV.den,Ji,SC.den,h1]
  ·refine Vv.a ?_
   refine⟨b,h1, ?_,hMb,hRb,hBb⟩
   rw[hb,ecells]
  ·obtain⟨v,v1,_,T',s',xs,flat,rfl,v4,v5,v6⟩:=hown i z hz2
   refine Vv.a ?_
   rw[←hρv i v v1] at v5 v6
   exact⟨flat,v4,v5,v6⟩
  ·exact(e2 i z B hz2).a
 ·intro r z hz
  rw[hnx]
  rcases hres hz with⟨rfl,rfl⟩|⟨rfl,rfl⟩|⟨i,rfl,hi,hz2⟩|⟨i,rfl,hz2⟩
  ·refine⟨by omega,fun id hid=> ?_⟩
   simp only[Res.ids,SV.ids,Kl,SC.ids,List.flatMap_cons,List.flatMap_nil,List.append_nil,List.mem_singleton] at hid
   omega
  ·refine⟨by omega,fun id hid=> ?_⟩
   have:=Fq 2 id hid
   rw[←hL] at this
   omega
  ·obtain⟨v,_,_,T',s',xs,flat,rfl,_⟩:=hown i z hz2
   exact⟨by omega,fun id hid=>by simp[Res.ids] at hid⟩
  ·have hlt:=(List.getElem?_eq_some_iff.1 hz2).1
   exact⟨by omega,fun id hid=>by rw[(a4 z (List.mem_of_getElem? hz2)).2] at hid;simp at hid⟩
 ·intro r r' z z' hne hz hz' hoz hoz' g hg hg'
  have get:∀{r z},look (Ja9 c T x y).rs r=some z→z.owning=true→∀g,blk (ρ r)=some g→(r=1∧g=b)∨∃i v,r=2+i∧vals[i]? =some v∧blk v=some g:=by
   intro r z hz hoz g hg
   rcases hres hz with⟨rfl,rfl⟩|⟨rfl,rfl⟩|⟨i,rfl,hi,hz2⟩|⟨i,rfl,hz2⟩
   ·cases hoz
   ·rw[h1] at hg;cases hg;exact .inl ⟨rfl,rfl⟩
   ·obtain⟨v,v1,_⟩:=hown i z hz2
    rw[hρv i v v1] at hg
    exact .inr ⟨i,v,rfl,v1,hg⟩
   ·rw[(a4 z (List.mem_of_getElem? hz2)).1] at hoz;cases hoz
  rcases get hz hoz g hg with⟨r1,g1⟩|⟨i,v,r1,v1,v2⟩<;>rcases get hz' hoz' g hg' with⟨r2,g2⟩|⟨j,u,r2,u1,u2⟩
  ·exact hne (r1.trans r2.symm)
  ·exact hv u (List.mem_of_getElem? u1) (g1▸u2)
  ·exact hv v (List.mem_of_getElem? v1) (g2▸v2)
  ·have hij:i≠j:=fun e=>hne (by rw[r1,r2,e])
   have hp:=List.pairwise_iff_getElem.1 ho.apart
   obtain⟨l1,e1⟩:=List.getElem?_eq_some_iff.1 v1
   obtain⟨l2,e2⟩:=List.getElem?_eq_some_iff.1 u1
   rcases Nat.lt_or_gt_of_ne hij with hlt|hlt
   ·exact hp i j l1 l2 hlt g (by rw[e1];exact v2) (by rw[e2];exact u2)
   ·exact hp j i l2 l1 hlt g (by rw[e2];exact u2) (by rw[e1];exact v2)
 ·intro i hi
  rw[hnx] at hi
  match i,hi with
  |0,_=>rw[h0];rfl
  |1,_=>rw[h1];rfl
  | i + 2, hi =>
   by_cases hlt:i<L
   ·have hz:i<((Jt (enc c.s x) 2).2.map Xa).length:=by rw[List.length_map,←hL];exact hlt
    obtain⟨v,v1,v2,_⟩:=hown i _ (List.getElem?_eq_getElem hz)
    have:=hρv i v v1
    rw[Nat.add_comm] at this
    rw[this];exact v2
   ·have hlt':i-L<av.length:=by rw[a1];omega
    have:=hρa (i-L) _ (List.getElem?_eq_getElem hlt')
    rw[show 2+L+(i-L)=i+2 by omega] at this
    rw[this]
    exact a2 _ (List.getElem_mem hlt')
theorem Ua [Dr] {P:Program} {Γ:Gam} {f:FuncId} {fn:Func} {c:Zc} {lib:FuncId→Option Func} (hm:P.follows .mixedOrders=true) (hΓ:V6 P Γ) (hf:P.funcs[f]? =some fn) (hs:Jxo fn c=true)
  (hl:∀f fn,lib f=some fn→P.funcs[f]? =some fn) (ann:c.s.T→ATup c.args→Nat→Option Ann) (annF:c.s.T→ATup c.args→FuncId→Nat→Option Ann) (h:∀(T:TypeId) (x:c.s.T) (y:ATup c.args),(∀T0,c.T? =some T0→T=T0)→wpFO P Γ (ann x y) (annF x y) lib fn c T x y):OkO P f c:=by
 unfold Jxo at hs
 cases hb:fn.body with
 |none=>rw[hb] at hs;cases hs
 | some code =>
  rw[hb] at hs
  simp only[Bool.and_eq_true,Bool.not_eq_true',Nat.ble_eq] at hs
  obtain⟨⟨⟨hd,hN⟩,hname⟩,hnl⟩:=hs
  refine⟨⟨fn,hf,by rw[hb];rfl,hname⟩,fun x y M R B w b T cells vals vs hB hMR hgood hbw hBb hMb hRb hT ho hv hpre hargs=> ?_⟩
  have hx:=h T x y hT
  unfold wpFO at hx
  rw[hb] at hx
  have hw:=Jb2 hx hpre
  obtain⟨R0,hR0⟩:∃R0:Nat→Prop,R0=fun g=>g<w.heap.size∧¬Hx b vals g:=⟨_,rfl⟩
  have hOb:∀(i:Nat) (z:Res),((Jt (enc c.s x) 0).2.map Xa)[i]? =some z→∀v:Value,vals[i]? =some v→∀g,blk v=some g→¬M g∧¬R g∧B≤g:=by
   intro i z hz v hv' g hg
   obtain⟨v',v1,_,T',s',xs,flat,rfl,v4,v5,v6⟩:=ho.own i z hz
   rw[hv'] at v1;cases v1
   rcases v5.2 with⟨e,_⟩|⟨g',cap,cur,e,hBg,_⟩
   ·rw[e] at hg;cases hg
   ·rw[e] at hg;cases hg
    have:=v6 g' (by rw[e];rfl)
    exact⟨this.1,this.2,hBg⟩
  have hOv:∀u∈vals,∀g,blk u=some g→¬M g∧¬R g∧B≤g:=by
   intro u hu g hg
   obtain⟨i,hi⟩:=List.getElem?_of_mem hu
   have hlt:i<((Jt (enc c.s x) 0).2.map Xa).length:=by rw[List.length_map,←ho.len];exact(List.getElem?_eq_some_iff.1 hi).1
   exact hOb i _ (List.getElem?_eq_getElem hlt) u hi g hg
  have hRR:∀g,R g→R0 g:=fun g hg=>by
   rw[hR0]
   refine⟨hMR g (.inr hg), ?_⟩
   rintro(rfl|⟨u,hu,hgu⟩)
   ·exact hRb hg
   ·exact(hOv u hu g hgu).2.1 hg
  have ho0:Jhq M R0 B w c.s x cells vals:=⟨ho.len,ho.cells,fun i z hz=>by
   obtain⟨v,v1,v2,T',s',xs,flat,rfl,v4,v5,v6⟩:=ho.own i z hz
   refine⟨v,v1,v2,T',s',xs,flat,rfl,v4,v5,fun g hg=>⟨(v6 g hg).1,fun h=> ?_⟩⟩
   rw[hR0] at h
   exact h.2 (.inr ⟨v,List.mem_of_getElem? v1,Jl hg⟩),ho.apart⟩
  have hRb0:¬R0 b:=fun h=>by rw[hR0] at h;exact h.2 (.inl rfl)
  have hM0:∀g,M g∨R0 g→g<w.heap.size:=fun g hg=>hg.elim (fun h=>hMR g (.inl h)) fun h=>by rw[hR0] at h;exact h.1
  refine Yz.1 (callsIn_of_wp_marks (F:=FR none) (n:=0) hf hb trivial (Vn (rd:=none) (N:=fn.ntmps) (B:=B) (w0:=⟨w,M,fun id=>if id=0 then some (.vals fun _=> .pointer (some ⟨b,0,none⟩)) else none,true⟩) (R:=R0) hm hΓ (Jba hm hΓ hl 5) code hd ⟨fun _=>rfl,fun y hy=>by cases hy⟩ (.inr ⟨rfl,rfl,Ji2 hm hΓ (Jba hm hΓ hl 5) hl⟩) hw (fun e st' a' w' he hs'=> ?_) _ w
   (Jsa hB hM0 hgood hbw hBb hMb hRb0 ho0 hv (hargs.keep (fun _ h=>h) hRR fun _ _=>rfl) hN)))
  have key:((st'.rs.all fun p=>p.2.soft)=true∧Kfr P fn c T x y st')→LeavesInM (FR none) 0 P fn a'.tmps (fun e w'=>∃M' cells' vals' us,e= .returned (Joi us)∧Hd M' w' 0 c.ress [] (c.spec x y) us∧Below B w w'∧(∀g,M g→M' g)∧(∀g,M' g→g<w'.heap.size)∧
   (∀g,M' g→M g∨(B≤g∧(Hx b vals g∨w.heap.size≤g)))∧(∀g,g<w.heap.size→¬Hx b vals g→w'.heap[g]? =w.heap[g]?)∧(∀g,M g→w'.heap[g]? =w.heap[g]?)∧
   w'.heap[b]? =some (.cells cells'.toArray T (0,0))∧¬M' b∧Jhq M' R B w' c.s (c.post x y) cells' vals'∧(∀u∈vals',blk u≠some b)∧(∀g,Hx b vals' g→Hx b vals g∨w.heap.size≤g)) a'.defers .returning w':=by
   rintro⟨hsoft,hr⟩
   obtain⟨ρ,M',al,_,C⟩:=hs'
   obtain⟨w2,M2,C2,hleave⟩:=X0 C (fun r x hx=>List.all_eq_true.1 hsoft _ (Jx hx)) (fun g hg=>hMR g (.inl hg))
   refine hleave fn _ ?_
   unfold Kfr at hr
   split at hr
   case h_2=>exact hr.elim
   rename_i rv i hrv hsus
   split at hr
   case h_2=>exact hr.elim
   rename_i T' cs r hbox hy
   split at hr
   case h_2=>exact hr.elim
   rename_i x' hx'
   split at hr
   case isFalse=>exact hr.elim
   rename_i hob
   obtain⟨hT',hpost,hspec⟩:T'=T∧x'=c.post x y∧K6 (Joa c.ress r (c.spec x y)):=by
    have h1:=(X9 _ _).1 hr
    have h2:=(X9 _ _).1 h1.2
    exact⟨h1.1,h2.1,h2.2⟩
   have e:=Jbw hspec
   subst e;subst hT';subst hpost
   obtain⟨bb,k1,k2,k3,k4,k5⟩:=C2.res i _ hbox
   obtain⟨TT,t1,t2⟩:=C2.resA 0 _ hsus
   have t1':some (Jug.vals fun _=>Value.pointer (some ⟨b,0,none⟩))=some (Jug.vals TT):=t1
   cases t1'
   have hptr:=t2 (0, .v false [.ptr i 0]) (by simp)
   have e1:(SV.v false [SC.ptr i 0]).den ρ= .pointer (some ⟨bb,0,none⟩):=by simp[SV.den,Ji,SC.den,k1]
   rw[e1] at hptr
   replace hptr:Value.pointer (some ⟨b,0,none⟩)=Value.pointer (some ⟨bb,0,none⟩):=hptr
   obtain rfl:b=bb:=by cases hptr;rfl
   obtain⟨vals',O,hvals⟩:=Fn (P:=P) (ρ:=ρ) (M:=M2) (R:=R0) (B:=B) (w:=w2) (rs:=look st'.rs) (fun i T s xs h=>C2.res i _ h) (fun i j x y hne h h'=>C2.apart i j x y hne h h') hx' hob.1 (X8 hob.2)
   have hress:=Jfb P (M:=M2) (w:=w2) (ρ:=ρ) hy hnl
   have hown:∀v∈vals',∀g,blk v=some g→(B≤g∧¬R0 g)∧g≠b:=fun v hv' g hg=>by
    rcases hvals v hv' with rfl|⟨j,T,s,xs,j1,j2,rfl⟩
    ·cases hg
    ·have:=C2.notM j2 rfl hg
     refine⟨⟨this.2.2.1,this.2.1⟩,fun e=> ?_⟩
     have hne:j≠i:=by rintro rfl;rw[hbox] at j2;cases j2
     exact C2.apart j i _ _ hne j2 hbox rfl rfl g hg (by rw[k1,e];rfl)
   refine⟨_,Yw C2 hrv,M2,cs.map (SC.den ρ),vals',_,rfl,hress,C2.below,fun g hg=>(C2.up g).2 hg,fun g hg=>C2.old g (.inl hg),fun g hg=> ?_,fun g hg hn=>C2.stayR g (by rw[hR0];exact⟨hg,hn⟩),fun g hg=>C2.stay g hg,k2,k3,⟨O.len,O.cells,fun i z hz=> ?_,O.apart⟩,fun u hu hg=>(hown u hu _ hg).2 rfl, ?_⟩
   ·rcases(C2.up g).1 hg with h|⟨h1,h2⟩
    ·exact .inl h
    ·refine .inr ⟨h1, ?_⟩
     rw[hR0] at h2
     by_cases hlt:g<w.heap.size
     ·exact .inl (Classical.not_not.1 fun hn=>h2 ⟨hlt,hn⟩)
     ·exact .inr (Nat.le_of_not_lt hlt)
   ·obtain⟨v,v1,v2,T',s',xs,flat,rfl,v4,v5,v6⟩:=O.own i z hz
    exact⟨v,v1,v2,T',s',xs,flat,rfl,v4,v5,fun g hg=>⟨(v6 g hg).1,fun h=>(v6 g hg).2 (hRR g h)⟩⟩
   ·rintro g (rfl|⟨u,hu,hg⟩)
    ·exact .inl (.inl rfl)
    ·have h2:=(hown u hu g hg).1.2
     rw[hR0] at h2
     by_cases hlt:g<w.heap.size
     ·exact .inl (Classical.not_not.1 fun hn=>h2 ⟨hlt,hn⟩)
     ·exact .inr (Nat.le_of_not_lt hlt)
  cases e with
  |normal=>exact key he
  |exit i=>exact he.elim
  |ret=>exact key he
def Jsf (rs:Nat→Option Res) (id:Nat):Option Res:=match rs id with
 |some (.box _ _)=>none
 |x=>x
def okT (T? :Option TypeId) (T:TypeId):Bool:=match T? with
 |some T0=>Nat.beq T T0
 |none=>true
def Khv (c : Zc) (rs : Nat → Option Res) (n : Nat) (args : List SV) : Option Out := match args with
 | .v false [.ptr i 0] :: l => match rs i with
  | some (.box T cs) => match dec rs c.s cs, Jbj (Jsf rs) c.args l with
   | some x, some y =>
    if(Jvu rs c.s cs&&Zj (Kl cs)&& !(hasList c.ress)&&okT c.T? T&&l.all (fun v=>v.ids.all fun id=> !((Kl cs).contains id)&& !(Nat.beq id i)))=true then
     let r:=Jt (enc c.s (c.post x y)) n
     some ⟨c.pre x y,L0 (Jk (J4 c.ress (c.spec x y)) [] n).1,r.2.map Xa,((i,some (.box T r.1))::(Kl cs).map fun j=>(j,none))++V7 rs [] l⟩
    else none
   |_,_=>none
  |_=>none
 |_=>none
def Zc.con (c:Zc):Con:={args:=[],ress:=[],owns:=[],pre:=fun _=>[False],spec:=fun _=>(),prim:=some (Khv c)}
theorem Ji0 {α:Type}:∀(l l':List (Nat×α)) (i:Nat),look (l++l') i=match look l i with|some x=>some x|none=>look l' i
 |[],_,_=>rfl
 |(j,v)::l,l',i=>by
  simp only[List.cons_append,look]
  by_cases e:j=i
  ·simp[e]
  ·rw[if_neg e,if_neg e];exact Ji0 l l' i
theorem Jiz:∀{l:List Nat} {i:Nat},look (l.map fun j=>(j,(none:Option Res))) i=if i∈l then some none else none
 |[],_=>rfl
 | j :: l, i => by
  simp only[List.map_cons,look]
  by_cases e:j=i
  ·subst e;simp
  ·rw[if_neg e,Jiz]
   have:i≠j:=fun h=>e h.symm
   simp[this]
theorem Lq {rs:Nat→Option Res}:∀{cs:List SC} {i:Nat} {y:Option Res},(i,y)∈freeze rs cs→i∈Kl cs
 |[],_,_,h=>by simp[Sx.freeze] at h
 | c :: r, i, y, h => by
  cases c with
  | sl j =>
   simp only[Sx.freeze] at h
   simp only[Kl,List.flatMap_cons,SC.ids,List.mem_append,List.mem_singleton]
   split at h
   ·rcases List.mem_cons.1 h with h|h
    ·cases h;exact .inl rfl
    ·exact .inr (Lq h)
   ·exact .inr (Lq h)
  |_=>
   simp only[Kl,List.flatMap_cons,List.mem_append]
   exact .inr (Lq (cs:=r) h)
theorem Jfk:∀(vs:List SV),Df [] vs=vs
 |[]=>rfl
 |_::_=>rfl
theorem Joj {rs:Nat→Option Res} {l:List SV} {i:Nat} (h:look (V7 rs [] l) i≠none):∃v∈l,i∈v.ids:=by
 obtain⟨y,hy⟩:=Option.ne_none_iff_exists'.1 h
 obtain⟨v,hv,hm⟩:=List.mem_flatMap.1 (Jx hy)
 rw[Jfk] at hv
 cases v with
 |tup _=>simp at hm
 |v g cs=>exact⟨_,hv,Lq hm⟩
theorem Jol [Dr] {P:Program} {f:FuncId} {c:Zc} (hO:OkO P f c):Jjq P f (Khv c):=by
 intro N B w0 al τ σ a w ρ M R n d rs args out C hd hrs hop hpre hfresh
 obtain⟨_,hO⟩:=hO
 unfold Khv at hop
 split at hop
 case h_2=>cases hop
 rename_i i l
 split at hop
 case h_2=>cases hop
 rename_i T cs hbox
 split at hop
 case h_2=>cases hop
 rename_i x y hx hy
 split at hop
 case isFalse=>cases hop
 rename_i hc
 cases hop
 simp only[Bool.and_eq_true,Bool.not_eq_true',List.all_eq_true] at hc
 obtain⟨⟨⟨⟨hob,hdist⟩,hnl⟩,hT⟩,hids⟩:=hc
 have hidl:∀v∈l,∀id∈v.ids,id∉Kl cs∧id≠i:=fun v hv id hid=>by
  have:=hids v hv id hid
  refine⟨fun h=> ?_,fun e=> ?_⟩
  ·have h1:=this.1
   simp[h] at h1
  ·have h2:=this.2
   rw[e] at h2
   simp at h2
 simp only[List.length_map] at hfresh
 have hσi:σ i=some (.box T cs):=hrs _ _ hbox
 obtain⟨b,b1,b2,b3,b4,b5⟩:=C.res i _ hσi
 have hUok:∀j y,look (V7 rs [] l) j=some y→∃T s xs,σ j=some (.own T s xs)∧y=some (.imm T s xs):=fun j y h=>by
  obtain⟨T,s,xs,h1,h2⟩:=Jcq h
  exact⟨T,s,xs,hrs _ _ h1,h2⟩
 have hUno:∀j,j∈Kl cs∨j=i→look (V7 rs [] l) j=none:=fun j hj=>by
  cases h:look (V7 rs [] l) j with
  |none=>rfl
  |some z=>
   obtain⟨v,hv,hid⟩:=Joj (by rw[h];simp:look (V7 rs [] l) j≠none)
   have:=hidl v hv j hid
   exact absurd hj (fun h=>h.elim this.1 this.2)
 have C1:=C.freeze n hUok
 obtain⟨M1,hM1⟩:∃M1:Nat→Prop,M1=fun b=>M b∨∃i y T s xs,look (V7 rs [] l) i=some y∧σ i=some (.own T s xs)∧(ρ i).ownBlock=some b:=⟨_,rfl⟩
 rw[←hM1] at C1
 have hσ1:∀j,j∈Kl cs∨j=i→K9 σ n [] (V7 rs [] l) j=σ j:=fun j hj=>by
  unfold K9
  rw[if_neg (by simp<;>omega),hUno j hj]
 have hσ1i:=(hσ1 i (.inr rfl)).trans hσi
 obtain⟨vals,O,hvals⟩:=Fn (P:=P) (ρ:=ρ) (M:=M) (R:=R) (B:=B) (w:=w) (rs:=rs) (fun i T s xs h=>C.res i _ (hrs _ _ h)) (fun i j x y hne h h'=>C.apart i j x y hne (hrs _ _ h) (hrs _ _ h')) hx hob (X8 hdist)
 have hvj:∀v∈vals,∀g,blk v=some g→∃j T s xs,j∈Kl cs∧σ j=some (.own T s xs)∧K9 σ n [] (V7 rs [] l) j=some (.own T s xs)∧blk (ρ j)=some g:=fun v hv g hg=>by
  rcases hvals v hv with rfl|⟨j,T,s,xs,j1,j2,rfl⟩
  ·cases hg
  ·exact⟨j,T,s,xs,j1,hrs _ _ j2,(hσ1 j (.inl j1)).trans (hrs _ _ j2),hg⟩
 have hvM:∀v∈vals,∀g,blk v=some g→¬M1 g∧¬R g∧B≤g∧g<w.heap.size∧g≠b:=fun v hv g hg=>by
  obtain⟨j,T',s,xs,_,j2,j3,j4⟩:=hvj v hv g hg
  have h1:=C1.notM j3 rfl j4
  refine⟨h1.1,h1.2.1,h1.2.2.1,h1.2.2.2,fun e=> ?_⟩
  have hne:j≠i:=by rintro rfl;rw[hσi] at j2;cases j2
  exact C.apart j i _ _ hne j2 hσi rfl rfl g j4 (by rw[b1,e];rfl)
 have hMM:∀g,M g→M1 g:=fun g h=>by rw[hM1];exact .inl h
 have O1:Jhq M1 R B w c.s x (cs.map (SC.den ρ)) vals:=⟨O.len,O.cells,fun k z hz=>by
  obtain⟨v,v1,v2,T',s',xs,flat,rfl,v4,v5,v6⟩:=O.own k z hz
  exact⟨v,v1,v2,T',s',xs,flat,rfl,v4.imp fun _ _ h=>h.keep fun b hb=>⟨hMM b hb,rfl⟩,v5,fun g hg=>⟨(hvM v (List.mem_of_getElem? v1) g (Jl hg)).1,(v6 g hg).2⟩⟩,O.apart⟩
 obtain⟨bb,c1,c2,c3,c4,c5⟩:=C1.res i _ hσ1i
 obtain rfl:b=bb:=by rw[b1] at c1;cases c1;rfl
 have V:Jua P ρ B M R w (Jsf rs) M1 R (fun i=>∀T s xs,rs i=some (.own T s xs)→(look (V7 rs [] l) i).isSome=true):=by
  have hh:∀j z,Jsf rs j=some z→rs j=some z∧∀T cs,z≠ .box T cs:=fun j z h=>by
   unfold Jsf at h
   split at h
   ·cases h
   ·rename_i hnb
    exact⟨h,fun T cs e=>hnb T cs (by rw[h,e])⟩
  refine⟨fun j z h=>C.res j z (hrs _ _ (hh j z h).1),hMM,fun _ h=>h,fun j T s xs g hF hr hg=> ?_,fun j T cs b hr hb=>((hh j _ hr).2 T cs rfl).elim,C1.old⟩
  have hr':=(hh j _ hr).1
  obtain⟨z,hz⟩:=Option.isSome_iff_exists.1 (hF T s xs hr')
  rw[hM1]
  exact .inr ⟨j,z,T,s,xs,hz,hrs _ _ hr',hg⟩
 have hargs:V9 P M1 R w c.args y (l.map (SV.den ρ)):=Jd3 V hy fun v hv=>by
  cases v with
  |tup _=>trivial
  | v g cs' =>
   refine⟨fun j hj T s xs hr=> ?_,fun j off T cs'' hj hr=> ?_⟩
   ·refine K3 (f:=fun v:SV=>match v with
     | .v _ cs=>freeze rs cs
     |_=>[]) (b:= .v g cs') (by rw[Jfk];exact hv) ?_
    exact Vc hj hr
   ·unfold Jsf at hr
    split at hr
    ·cases hr
    ·rename_i hnb
     exact(hnb T cs'' hr).elim
 have hcalls:=hO x y M1 R B w b T (cs.map (SC.den ρ)) vals (l.map (SV.den ρ)) C.base C1.old (fun w' h=>C.good w' (C.below.trans h)) b2 b5 c3 b4 (fun T0 h0=>by
  unfold okT at hT
  rw[h0] at hT
  simpa[Nat.beq_eq] using hT) O1 (fun u hu hb=>(hvM u hu b hb).2.2.2.2 rfl) hpre hargs
 have e0:(SV.v false [SC.ptr i 0]).den ρ= .pointer (some ⟨b,0,none⟩):=by simp[SV.den,Ji,SC.den,b1]
 refine⟨_,(by rw[List.map_cons,e0];exact hcalls), ?_⟩
 ·rintro e w' ⟨M',cells',vals',us,rfl,hress,hbel,hsub,hlt,hup,hfr,hstay,hb',hMb',O',hvb',hblk'⟩
  obtain⟨vs0,r1,r2,_,r4,_⟩:=Jgg (n:=n) hress (by cases c.ress<;>rfl)
  have hnil:=F6 (c.spec x y) [] n hnl
  rw[hnil] at r1 r4
  have hv0:vs0=[]:=List.eq_nil_of_length_eq_zero r1
  subst hv0
  have e1:=r2 (J6 ρ n vals') (fun i u hu=>by simp at hu)
  have hlen:vals'.length=(Jt (enc c.s (c.post x y)) n).2.length:=by rw[O'.len,Yh _ 0 n]
  have hnO:∀g,Hx b vals g→¬R g∧B≤g∧g<w.heap.size:=by
   rintro g (rfl|⟨u,hu,hg⟩)
   ·exact⟨b4,b5,(Array.getElem?_eq_some_iff.1 b2).1⟩
   ·exact⟨(hvM u hu g hg).2.1,(hvM u hu g hg).2.2.1,(hvM u hu g hg).2.2.2.1⟩
  have hother:∀r z,r≠i→r∉Kl cs→K9 σ n [] (V7 rs [] l) r=some z→z.owning=true→∀g,blk (ρ r)=some g→¬Hx b vals g∧g<w.heap.size∧¬M1 g:=by
   intro r z hri hrc hz hoz g hg
   have h1:=C1.notM hz hoz hg
   refine⟨?_,h1.2.2.2,h1.1⟩
   rintro(rfl|⟨u,hu,hgu⟩)
   ·exact C1.apart r i _ _ hri hz hσ1i hoz rfl g hg (by rw[b1];rfl)
   ·obtain⟨j,T',s,xs,j1,_,j3,j4⟩:=hvj u hu g hgu
    exact C1.apart r j _ _ (fun e=>hrc (e▸j1)) hz j3 hoz rfl g hg j4
  have hupd2:∀r,look ((i,some (Res.box T (Jt (enc c.s (c.post x y)) n).1))::(Kl cs).map fun j=>(j,(none:Option Res))) r=if r=i then some (some (Res.box T (Jt (enc c.s (c.post x y)) n).1)) else if r∈Kl cs then some none else none:=fun r=>by
   simp only[look]
   by_cases e:i=r
   ·rw[if_pos e,if_pos e.symm]
   ·rw[if_neg e,if_neg (fun h=>e h.symm),Jiz]
  have hnewv:∀r,n≤r∧r<n+(Jt (enc c.s (c.post x y)) n).2.length→∀z,((Jt (enc c.s (c.post x y)) n).2.map Xa)[r-n]? =some z→∃v,vals'[r-n]? =some v∧J6 ρ n vals' r=v∧Ke3 M' R B w' z v:=fun r hr z hz=>by
   rw[Yh _ n 0] at hz
   obtain⟨v,v1,v2⟩:=O'.own _ z hz
   have:=Kr (ρ:=ρ) (n:=n) v1
   rw[show n+(r-n)=r by omega] at this
   exact⟨v,v1,this,v2⟩
  have hal1:∀id,al id→J6 ρ n vals' id=ρ id:=fun id h=>Kg (by rw[hlen];exact hfresh id h)
  have hii:al i:=(C.resIds i _ hσi).1
  have key:=C1.step (d:=d) (n:=n) (news:=(Jt (enc c.s (c.post x y)) n).2.map Xa) (upd:=(i,some (.box T (Jt (enc c.s (c.post x y)) n).1))::(Kl cs).map fun j=>(j,none)) (v:=L0 (Jk (J4 c.ress (c.spec x y)) [] n).1) (u:=Joi us) (ρ':=J6 ρ n vals') (w':=w') (M':=M')
   hd (fun id h=>by rw[List.length_map];exact hfresh id h) (fun id h=>Kg (by rw[hlen];simpa using h)) (by rw[Jcs,←e1]) (fun id hid=>by
    obtain⟨p,hp,hid⟩:=Jcr hid
    have:=r4 p hp id hid
    simp at this;omega) hbel hbel.size hsub hlt (fun g hg=>by
     rcases hg with hg|hg
     ·exact hstay g hg
     ·exact hfr g (C.old g (.inr hg)) fun h=>(hnO g h).1 hg)
   (fun r z _ hlk hz hoz g hg=>by
    rw[hupd2] at hlk
    have hri:r≠i:=fun e=>by rw[if_pos e] at hlk;cases hlk
    have hrc:r∉Kl cs:=fun e=>by rw[if_neg hri,if_pos e] at hlk;cases hlk
    obtain⟨h1,h2,h3⟩:=hother r z hri hrc hz hoz g hg
    refine⟨hfr g h2 h1,fun h=> ?_⟩
    rcases hup g h with h|⟨_,h|h⟩
    ·exact h3 h
    ·exact h1 h
    ·omega)
   ?_ ?_ ?_ (fun g hg=>by
    rcases hup g hg with h|⟨h1,h|h⟩
    ·exact .inl h
    ·exact .inr ⟨h1,(hnO g h).1⟩
    ·refine .inr ⟨h1,fun hR=> ?_⟩
     have:=C.old g (.inr hR);omega)
  ·refine⟨_,J6 ρ n vals',M',rfl, ?_⟩
   have e:K9 (K9 σ n [] (V7 rs [] l)) n ((Jt (enc c.s (c.post x y)) n).2.map Xa) ((i,some (.box T (Jt (enc c.s (c.post x y)) n).1))::(Kl cs).map fun j=>(j,none))=K9 σ n ((Jt (enc c.s (c.post x y)) n).2.map Xa) (((i,some (.box T (Jt (enc c.s (c.post x y)) n).1))::(Kl cs).map fun j=>(j,none))++V7 rs [] l):=by
    funext id
    unfold K9
    split
    ·rfl
    ·rw[Ji0]
     cases look ((i,some (Res.box T (Jt (enc c.s (c.post x y)) n).1))::(Kl cs).map fun j=>(j,(none:Option Res))) id with
     |some z=>rfl
     |none=>simp only;rw[if_neg (by simp<;>omega)]
   rw[e] at key
   exact key
  ·rintro r z hz (h|h)
   ·rw[U5 h] at hz
    rw[List.length_map] at h
    obtain⟨v,v1,v2,v3,T',s',xs,flat,rfl,v4,v5,v6⟩:=hnewv r h z hz
    refine⟨⟨flat,v4,by rw[v2];exact v5,fun g hg=>v6 g (by rw[v2] at hg;exact hg)⟩, .inr (by rw[List.length_map];exact h),fun id hid=>by simp[Res.ids] at hid⟩
   ·rw[hupd2] at h
    by_cases hri:r=i
    ·subst hri
     have hnn:=hfresh r hii
     unfold K9 at hz
     rw[if_neg (by rw[List.length_map];exact hnn),hupd2,if_pos rfl] at hz
     cases hz
     refine⟨⟨b,(hal1 r hii).trans b1, ?_,hMb',b4,b5⟩, .inl hii,fun id hid=> .inr ?_⟩
     ·rw[hb',O'.cells n (J6 ρ n vals') fun i u hu=>Kr hu]
     ·rw[List.length_map]
      exact Fq n id hid
    ·rw[if_neg hri] at h
     by_cases hrc:r∈Kl cs
     ·have hnn:=hfresh r ((C.resIds i _ hσi).2 r hrc)
      unfold K9 at hz
      rw[if_neg (by rw[List.length_map];exact hnn),hupd2,if_neg hri,if_pos hrc] at hz
      cases hz
     ·rw[if_neg hrc] at h;exact(h rfl).elim
  ·intro id h
   rw[List.length_map] at h
   have hlt':id-n<((Jt (enc c.s (c.post x y)) n).2.map Xa).length:=by rw[List.length_map];omega
   obtain⟨v,v1,v2,v3,_⟩:=hnewv id h _ (List.getElem?_eq_getElem hlt')
   rw[v2];exact v3
  ·-- apart
   have get:∀{r z},K9 (K9 σ n [] (V7 rs [] l)) n ((Jt (enc c.s (c.post x y)) n).2.map Xa) ((i,some (.box T (Jt (enc c.s (c.post x y)) n).1))::(Kl cs).map fun j=>(j,none)) r=some z→z.owning=true→∀g,blk (J6 ρ n vals' r)=some g→
     (∃k v,r=n+k∧vals'[k]? =some v∧blk v=some g)∨(r=i∧g=b)∨(r≠i∧K9 σ n [] (V7 rs [] l) r=some z∧blk (ρ r)=some g∧¬Hx b vals g∧g<w.heap.size):=by
    intro r z hz hoz g hg
    by_cases h:n≤r∧r<n+(Jt (enc c.s (c.post x y)) n).2.length
    ·rw[U5 (by rw[List.length_map];exact h)] at hz
     obtain⟨v,v1,v2,_⟩:=hnewv r h z hz
     rw[v2] at hg
     exact .inl ⟨r-n,v,by omega,v1,hg⟩
    ·unfold K9 at hz
     rw[if_neg (by rw[List.length_map];exact h),hupd2] at hz
     by_cases hri:r=i
     ·rw[hri,hal1 i hii,b1] at hg
      cases hg
      exact .inr (.inl ⟨hri,rfl⟩)
     ·rw[if_neg hri] at hz
      by_cases hrc:r∈Kl cs
      ·rw[if_pos hrc] at hz;cases hz
      ·rw[if_neg hrc] at hz
       have hz':K9 σ n [] (V7 rs [] l) r=some z:=hz
       rw[hal1 r (C1.resIds r z hz').1] at hg
       have:=hother r z hri hrc hz' hoz g hg
       exact .inr (.inr ⟨hri,hz',hg,this.1,this.2.1⟩)
   intro r r' z z' hne hz hz' hoz hoz' _ g hg hg'
   rcases get hz hoz g hg with⟨k,v,k1,k2,k3⟩|⟨k1,k2⟩|⟨k1,k2,k3,k4,k5⟩<;>rcases get hz' hoz' g hg' with⟨m,u,m1,m2,m3⟩|⟨m1,m2⟩|⟨m1,m2,m3,m4,m5⟩
   ·have hkm:k≠m:=fun e=>hne (by rw[k1,m1,e])
    have hp:=List.pairwise_iff_getElem.1 O'.apart
    obtain⟨l1,e1⟩:=List.getElem?_eq_some_iff.1 k2
    obtain⟨l2,e2⟩:=List.getElem?_eq_some_iff.1 m2
    rcases Nat.lt_or_gt_of_ne hkm with hlt|hlt
    ·exact hp k m l1 l2 hlt g (by rw[e1];exact k3) (by rw[e2];exact m3)
    ·exact hp m k l2 l1 hlt g (by rw[e2];exact m3) (by rw[e1];exact k3)
   ·exact hvb' v (List.mem_of_getElem? k2) (m2▸k3)
   ·rcases hblk' g (.inr ⟨v,List.mem_of_getElem? k2,k3⟩) with h|h
    ·exact m4 h
    ·omega
   ·exact hvb' u (List.mem_of_getElem? m2) (k2▸m3)
   ·exact hne (k1.trans m1.symm)
   ·exact m4 (.inl k2)
   ·rcases hblk' g (.inr ⟨u,List.mem_of_getElem? m2,m3⟩) with h|h
    ·exact k4 h
    ·omega
   ·exact k4 (.inl m2)
   ·exact C1.apart r r' z z' hne k2 m2 hoz hoz' g k3 m3
theorem Zh [Dr] {P:Program} {f:FuncId} {c:Zc} (hO:OkO P f c):Ok P f c.con:=
 ⟨hO.1,fun z h=>(by cases h),fun F h=>(by cases h;exact Jol hO),fun _ x M R w vs _ _ h=>(h:False).elim⟩
structure Jpj where
 kT:TypeId
 gk:Bool
 gv:Bool
 ks:Sch
 vs:Sch
 l:List (ks.T×vs.T)
def OkM [Dr] (P:Program) (f:FuncId) (c:Jpj):Prop:=
 He P f∧∀(M R:Nat→Prop) (w:World),(∀b,M b∨R b→b<w.heap.size)→Good P w→
  Calls P f #[] w fun e w'=>∃M' u,e= .returned u∧Below w.heap.size w w'∧(∀b,M b→M' b)∧(∀b,M' b→M b∨(w.heap.size≤b∧b<w'.heap.size))∧
   Jez P c.kT c.gk c.gv c.ks c.vs∧∃b es,u= .map (some b)∧w'.heap[b]? =some (.map es c.l.length)∧Kt M' w' c.gk c.gv c.ks c.vs c.l 0 es.toList∧¬M' b∧w.heap.size≤b
def Kft (P:Program) (fn:Func) (c:Jpj) (s:St):Prop:=
 match V1 P s fn.results.toList with
 |some [.v false [.sl i]]=>match look s.rs i with
  |some (.mp kT gk gv ks vs l)=>if h:(ks=c.ks∧vs=c.vs)∧kT=c.kT∧gk=c.gk∧gv=c.gv then J49 h.1.1 h.1.2 l=c.l else False
  |_=>False
 |_=>False
@[irreducible] def wpFM (P:Program) (Γ:Gam) (ann:Nat→Option Ann) (annF:FuncId→Nat→Option Ann) (lib:FuncId→Option Func) (fn:Func) (c:Jpj):Prop:=
 match fn.body with
 |some code=>wpG P Γ ann (ilS P Γ annF lib 5) code none (itS P Γ annF (ilS P Γ annF lib 5) lib) ⟨0,[],[]⟩ fun e s=>match e with
  | .exit _=>False
  |_=>(s.rs.all fun p=>p.2.soft)=true∧Kft P fn c s
 |none=>False
def Jxq (fn:Func):Bool:=match fn.body with
 |some code=>Vi fn.ntmps code&& !(fn.name== "runtime.NumGoroutine")
 |none=>false
theorem Jrj [Dr] {P:Program} {Γ:Gam} {f:FuncId} {fn:Func} {c:Jpj} {lib:FuncId→Option Func} (hm:P.follows .mixedOrders=true) (hΓ:V6 P Γ) (hf:P.funcs[f]? =some fn) (hs:Jxq fn=true)
  (hl:∀f fn,lib f=some fn→P.funcs[f]? =some fn) (ann:Nat→Option Ann) (annF:FuncId→Nat→Option Ann) (h:wpFM P Γ ann annF lib fn c):OkM P f c:=by
 unfold Jxq at hs
 cases hb:fn.body with
 |none=>rw[hb] at hs;cases hs
 | some code =>
  rw[hb] at hs
  simp only[Bool.and_eq_true,Bool.not_eq_true'] at hs
  obtain⟨hd,hname⟩:=hs
  refine⟨⟨fn,hf,by rw[hb];rfl,hname⟩,fun M R w hMR hgood=> ?_⟩
  unfold wpFM at h
  rw[hb] at h
  refine Yz.1 (callsIn_of_wp_marks (F:=FR none) (n:=0) hf hb trivial (Vn (rd:=none) (N:=fn.ntmps) (B:=w.heap.size) (w0:=⟨w,M,fun _=>none,true⟩) (R:=R) hm hΓ (Jba hm hΓ hl 5) code hd ⟨fun _=>rfl,fun y hy=>by cases hy⟩ (.inr ⟨rfl,rfl,Ji2 hm hΓ (Jba hm hΓ hl 5) hl⟩) h (fun e st' a' w' he hs'=> ?_) _ w
   ⟨fun _=>undef,M,fun _=>False,fun id h=>h.elim,⟨by simp,⟨fun d hd=>by simp at hd, .nil⟩,fun _=>rfl,fun _ _=>rfl,fun _ _=>rfl,Below.refl _ _,Nat.le_refl _,fun t v ht=>(by cases ht),fun t v ht=>(by cases ht),fun r x hx=>(by cases hx),fun r x hx=>(by cases hx),fun r r' x x' _ hx=>(by cases hx),hMR,fun i h=>h.elim,fun b=>⟨fun h=> .inl h,fun h=>h⟩,hgood⟩⟩))
  have key:((st'.rs.all fun p=>p.2.soft)=true∧Kft P fn c st')→LeavesInM (FR none) 0 P fn a'.tmps (fun e w'=>∃M' u,e= .returned u∧Below w.heap.size w w'∧(∀b,M b→M' b)∧(∀b,M' b→M b∨(w.heap.size≤b∧b<w'.heap.size))∧
   Jez P c.kT c.gk c.gv c.ks c.vs∧∃b es,u= .map (some b)∧w'.heap[b]? =some (.map es c.l.length)∧Kt M' w' c.gk c.gv c.ks c.vs c.l 0 es.toList∧¬M' b∧w.heap.size≤b) a'.defers .returning w':=by
   rintro⟨hsoft,hr⟩
   obtain⟨ρ,M',al,_,C⟩:=hs'
   obtain⟨w2,M2,C2,hleave⟩:=X0 C (fun r x hx=>List.all_eq_true.1 hsoft _ (Jx hx)) (fun g hg=>hMR g (.inl hg))
   refine hleave fn _ ?_
   unfold Kft at hr
   split at hr
   case h_2=>exact hr.elim
   rename_i i hrv
   split at hr
   case h_2=>exact hr.elim
   rename_i kT gk gv ks vs l hi
   split at hr
   case isFalse=>exact hr.elim
   rename_i hc
   obtain⟨ckT,cgk,cgv,cks,cvs,cl⟩:=c
   obtain⟨⟨e1,e2⟩,e3,e4,e5⟩:=hc
   dsimp only at e1 e2 e3 e4 e5
   subst e1;subst e2;subst e3;subst e4;subst e5
   have hr:l=cl:=hr
   subst hr
   obtain⟨h0,b,es,h1,h2,h3,h4,h5,h6⟩:=C2.res i _ hi
   refine⟨_,Yw C2 hrv,M2,_,rfl,C2.below,fun g hg=>(C2.up g).2 hg,fun g hg=> ?_,h0,b,es, ?_,h2,h3,h4,h6⟩
   ·rcases(C2.up g).1 hg with h|h
    ·exact .inl h
    ·exact .inr ⟨h.1,C2.old g (.inl hg)⟩
   ·show(SC.sl i).den ρ=_
    exact h1
  cases e with
  |normal=>exact key he
  |exit i=>exact he.elim
  |ret=>exact key he
def Khz (c:Jpj) (_:Nat→Option Res) (n:Nat) (args:List SV):Option Out:=match args with
 |[]=>some ⟨[], .one (.sl n),[.mp c.kT c.gk c.gv c.ks c.vs c.l],[]⟩
 |_=>none
def Jpj.con (c:Jpj):Con:={args:=[],ress:=[],owns:=[],pre:=fun _=>[False],spec:=fun _=>(),prim:=some (Khz c)}
theorem Jon [Dr] {P:Program} {f:FuncId} {c:Jpj} (hO:OkM P f c):Jjq P f (Khz c):=by
 intro N B w0 al τ σ a w ρ M R n d rs args out C hd hrs hop hpre hfresh
 obtain⟨_,hO⟩:=hO
 unfold Khz at hop
 split at hop
 case h_2=>cases hop
 cases hop
 refine⟨_,hO M R w C.old C.goodNow, ?_⟩
 rintro e w' ⟨M',u,rfl,hb,m1,m2,h0,b,es,rfl,h2,h3,h4,h6⟩
 have hold:∀b,b<w.heap.size→w'.heap[b]? =w.heap[b]? :=fun b h=>hb.block b h
 have en:J6 ρ n [Value.map (some b)] n= .map (some b):=Kr (i:=0) rfl
 have hRb:¬R b:=fun h=>by have:=C.old b (.inr h);omega
 refine⟨_,J6 ρ n [.map (some b)],M',rfl, ?_⟩
 refine C.step hd (fun id h=>hfresh id h) (fun id h=>Kg (by simpa using h)) (by show _=Ji false [J6 ρ n [Value.map (some b)] n];rw[en];rfl) (fun id hid=> ?_) (hb.mono C.base) hb.size m1 (fun g hg=> ?_) (fun g hg=>hold g (C.old g hg)) ?_ ?_ ?_ ?_ (fun g hg=>(m2 g hg).imp id fun h=>⟨Nat.le_trans C.base h.1,fun hR=>by have:=C.old g (.inr hR);omega⟩)
 ·have:id=n:=by simpa[SV.ids,Kl,SC.ids] using hid
  exact .inr ⟨by omega,by simp;omega⟩
 ·rcases m2 g hg with h|h
  ·exact Nat.lt_of_lt_of_le (C.old g (.inl h)) hb.size
  ·exact h.2
 ·intro r x _ _ hx ho g hg
  obtain⟨h5,_,_,h6'⟩:=C.notM hx ho hg
  refine⟨hold g h6',fun h=> ?_⟩
  rcases m2 g h with h|h
  ·exact h5 h
  ·omega
 ·rintro r x hx (h|h)
  ·have er:r=n:=by simp at h;omega
   subst er
   rw[U5 h] at hx
   simp at hx
   subst hx
   exact⟨⟨h0,b,es,en,h2,h3,h4,hRb,Nat.le_trans C.base h6⟩, .inr h,fun id hid=>by simp[Res.ids] at hid⟩
  ·exact absurd rfl h
 ·intro id h
  have er:id=n:=by simp at h;omega
  subst er
  rw[en];rfl
 ·rintro r r' x x' hne hx hx' ho ho' (h|h) g hg hg'
  ·have er:r=n:=by simp at h;omega
   subst er
   rw[en] at hg
   cases hg
   unfold K9 at hx'
   rw[if_neg (by simp;omega)] at hx'
   simp only[look] at hx'
   rw[Kg (by simp;omega)] at hg'
   have:=(C.notM hx' ho' hg').2.2.2
   omega
  ·exact absurd rfl h
theorem J4u [Dr] {P:Program} {f:FuncId} {c:Jpj} (hO:OkM P f c):Ok P f c.con:=
 ⟨hO.1,fun z h=>(by cases h),fun F h=>(by cases h;exact Jon hO),fun _ x M R w vs _ _ h=>(h:False).elim⟩
end Go.Sx
namespace Go.Sx
open Go.RowKit
structure Juf where
 T:TypeId
 s:Sch
 pre:ByteArray→List Prop
 post:ByteArray→s.T
def OkN [Dr] (P:Program) (f:FuncId) (c:Juf):Prop:=
 He P f∧∀(x:ByteArray) (M R:Nat→Prop) (w:World),(∀b,M b∨R b→b<w.heap.size)→Good P w→K6 (c.pre x)→
  Calls P f #[.string x] w fun e w'=>∃M' b cells vals,e= .returned (Joi [.pointer (some ⟨b,0,none⟩), .int .i64 0])∧Below w.heap.size w w'∧(∀g,M g→M' g)∧(∀g,M' g→M g∨(w.heap.size≤g∧g<w'.heap.size))∧
   w'.heap[b]? =some (.cells cells.toArray c.T (0,0))∧¬M' b∧w.heap.size≤b∧Jhq M' R w.heap.size w' c.s (c.post x) cells vals∧(∀u∈vals,blk u≠some b)
def J40 (x:ByteArray):St:=⟨0,[(0, .one (.str x))],[]⟩
def Kfs (P:Program) (fn:Func) (c:Juf) (x:ByteArray) (s:St):Prop:=
 match V1 P s fn.results.toList with
 | some [.v false [.ptr i 0], .v false [.int .i64 e]] => match look s.rs i with
  |some (.box T' cs)=>match dec (look s.rs) c.s cs with
   |some x'=>if Jvu (look s.rs) c.s cs=true∧Zj (Kl cs)=true then K6 [T'=c.T,e=0,x'=c.post x] else False
   |none=>False
  |_=>False
 |_=>False
@[irreducible] def wpFN (P:Program) (Γ:Gam) (ann:Nat→Option Ann) (annF:FuncId→Nat→Option Ann) (lib:FuncId→Option Func) (fn:Func) (c:Juf) (x:ByteArray):Prop:=
 match fn.body with
 |some code=>Jxz (c.pre x)<|wpG P Γ ann (ilS P Γ annF lib 5) code none (itS P Γ annF (ilS P Γ annF lib 5) lib) (J40 x) fun e s=>match e with
  | .exit _=>False
  |_=>(s.rs.all fun p=>p.2.soft)=true∧Kfs P fn c x s
 |none=>False
def Jxp (fn:Func):Bool:=match fn.body with
 |some code=>Vi fn.ntmps code&&Nat.ble 1 fn.ntmps&& !(fn.name== "runtime.NumGoroutine")
 |none=>false
def Ktq:Con:={args:=[.val false .str],ress:=[],owns:=[],pre:=fun _=>[],spec:=fun _=>()}
theorem Jri [Dr] {P:Program} {Γ:Gam} {f:FuncId} {fn:Func} {c:Juf} {lib:FuncId→Option Func} (hm:P.follows .mixedOrders=true) (hΓ:V6 P Γ) (hf:P.funcs[f]? =some fn) (hs:Jxp fn=true)
  (hl:∀f fn,lib f=some fn→P.funcs[f]? =some fn) (ann:ByteArray→Nat→Option Ann) (annF:ByteArray→FuncId→Nat→Option Ann) (h:∀x,wpFN P Γ (ann x) (annF x) lib fn c x):OkN P f c:=by
 unfold Jxp at hs
 cases hb:fn.body with
 |none=>rw[hb] at hs;cases hs
 | some code =>
  rw[hb] at hs
  simp only[Bool.and_eq_true,Bool.not_eq_true',Nat.ble_eq] at hs
  obtain⟨⟨hd,hN⟩,hname⟩:=hs
  refine⟨⟨fn,hf,by rw[hb];rfl,hname⟩,fun x M R w hMR hgood hpre=> ?_⟩
  have hx:=h x
  unfold wpFN at hx
  rw[hb] at hx
  have hw:=Jb2 hx hpre
  have hargs:V9 P M R w Ktq.args (x,()) [.string x]:=⟨.string x,[],rfl,⟨[.string x],rfl,rfl⟩,rfl⟩
  refine Yz.1 (callsIn_of_wp_marks (F:=FR none) (n:=0) hf hb trivial (Vn (rd:=none) (N:=fn.ntmps) (B:=w.heap.size) (w0:=⟨w,M,fun _=>none,true⟩) (R:=R) hm hΓ (Jba hm hΓ hl 5) code hd ⟨fun _=>rfl,fun y hy=>by cases hy⟩ (.inr ⟨rfl,rfl,Ji2 hm hΓ (Jba hm hΓ hl 5) hl⟩) hw (fun e st' a' w' he hs'=> ?_) _ w (Jg2 (c:=Ktq) true hargs hMR hN hgood)))
  have key:((st'.rs.all fun p=>p.2.soft)=true∧Kfs P fn c x st')→LeavesInM (FR none) 0 P fn a'.tmps (fun e w'=>∃M' b cells vals,e= .returned (Joi [.pointer (some ⟨b,0,none⟩), .int .i64 0])∧Below w.heap.size w w'∧(∀g,M g→M' g)∧(∀g,M' g→M g∨(w.heap.size≤g∧g<w'.heap.size))∧
   w'.heap[b]? =some (.cells cells.toArray c.T (0,0))∧¬M' b∧w.heap.size≤b∧Jhq M' R w.heap.size w' c.s (c.post x) cells vals∧(∀u∈vals,blk u≠some b)) a'.defers .returning w':=by
   rintro⟨hsoft,hr⟩
   obtain⟨ρ,M',al,_,C⟩:=hs'
   obtain⟨w2,M2,C2,hleave⟩:=X0 C (fun r x hx=>List.all_eq_true.1 hsoft _ (Jx hx)) (fun g hg=>hMR g (.inl hg))
   refine hleave fn _ ?_
   unfold Kfs at hr
   split at hr
   case h_2=>exact hr.elim
   rename_i i e hrv
   split at hr
   case h_2=>exact hr.elim
   rename_i T' cs hbox
   split at hr
   case h_2=>exact hr.elim
   rename_i x' hx'
   split at hr
   case isFalse=>exact hr.elim
   rename_i hob
   obtain⟨hT',he0,hpost⟩:T'=c.T∧e=0∧x'=c.post x:=hr
   subst hT';subst he0;subst hpost
   obtain⟨bb,k1,k2,k3,k4,k5⟩:=C2.res i _ hbox
   obtain⟨vals',O,hvals⟩:=Fn (P:=P) (ρ:=ρ) (M:=M2) (R:=R) (B:=w.heap.size) (w:=w2) (rs:=look st'.rs) (fun i T s xs h=>C2.res i _ h) (fun i j x y hne h h'=>C2.apart i j x y hne h h') hx' hob.1 (X8 hob.2)
   refine⟨_,Yw C2 hrv,M2,bb,cs.map (SC.den ρ),vals', ?_,C2.below,fun g hg=>(C2.up g).2 hg,fun g hg=> ?_,k2,k3,k5,O,fun u hu hg=> ?_⟩
   ·show Ending.returned (Joi [Ji false [SC.den ρ (.ptr i 0)], .int .i64 0])=_
    rw[show SC.den ρ (.ptr i 0)= .pointer (some ⟨bb,0,none⟩) by simp[SC.den,k1]]
    rfl
   ·rcases(C2.up g).1 hg with h|h
    ·exact .inl h
    ·exact .inr ⟨h.1,C2.old g (.inl hg)⟩
   ·rcases hvals u hu with rfl|⟨j,T,s,xs,j1,j2,rfl⟩
    ·cases hg
    ·have hne:j≠i:=by rintro rfl;rw[hbox] at j2;cases j2
     exact C2.apart j i _ _ hne j2 hbox rfl rfl bb hg (by rw[k1];rfl)
  cases e with
  |normal=>exact key he
  |exit i=>exact he.elim
  |ret=>exact key he
def Khw (c:Juf) (_:Nat→Option Res) (n:Nat) (args:List SV):Option Out:=match args with
 |[.v false [.str x]]=>some ⟨c.pre x, .tup [(false,[.ptr n 0]),(false,[.int .i64 0])], .box c.T (Jt (enc c.s (c.post x)) (n+1)).1::(Jt (enc c.s (c.post x)) (n+1)).2.map Xa,[]⟩
 |_=>none
def Juf.con (c:Juf):Con:={args:=[],ress:=[],owns:=[],pre:=fun _=>[False],spec:=fun _=>(),prim:=some (Khw c)}
theorem Jom [Dr] {P:Program} {f:FuncId} {c:Juf} (hO:OkN P f c):Jjq P f (Khw c):=by
 intro N B w0 al τ σ a w ρ M R n d rs args out C hd hrs hop hpre hfresh
 obtain⟨_,hO⟩:=hO
 unfold Khw at hop
 split at hop
 case h_2=>cases hop
 rename_i x
 cases hop
 refine⟨_,hO x M R w C.old C.goodNow hpre, ?_⟩
 rintro e w' ⟨M',b,cells,vals,rfl,hb,m1,m2,hcell,hMb,hbB,O,hvb⟩
 have hlen:vals.length=(Jt (enc c.s (c.post x)) (n+1)).2.length:=by rw[O.len,Yh _ 0 (n+1)]
 simp only[List.length_cons,List.length_map] at hfresh
 have hold:∀b,b<w.heap.size→w'.heap[b]? =w.heap[b]? :=fun b h=>hb.block b h
 obtain⟨all,hall⟩:∃all:List Value,all= .pointer (some ⟨b,0,none⟩)::vals:=⟨_,rfl⟩
 have alen:all.length=(Jt (enc c.s (c.post x)) (n+1)).2.length+1:=by rw[hall,List.length_cons,hlen]
 have e0:J6 ρ n all n= .pointer (some ⟨b,0,none⟩):=Kr (i:=0) (by rw[hall];rfl)
 have ev:∀(i:Nat) (u:Value),vals[i]? =some u→J6 ρ n all (n+1+i)=u:=fun i u hu=>by
  rw[show n+1+i=n+(i+1) by omega]
  exact Kr (by rw[hall];simpa using hu)
 have hRn:∀g,w.heap.size≤g→¬R g:=fun g hg h=>by have:=C.old g (.inr h);omega
 have hown:∀(i:Nat) (z:Res),((Jt (enc c.s (c.post x)) (n+1)).2.map Xa)[i]? =some z→∃v,vals[i]? =some v∧Ke3 M' R w.heap.size w' z v:=fun i z hz=>by
  rw[Yh _ (n+1) 0] at hz
  exact O.own i z hz
 have hvB:∀v∈vals,∀g,blk v=some g→w.heap.size≤g:=fun v hv g hg=>by
  obtain⟨i,hi⟩:=List.getElem?_of_mem hv
  have hlt:i<((Jt (enc c.s (c.post x)) (n+1)).2.map Xa).length:=by rw[List.length_map,←hlen];exact(List.getElem?_eq_some_iff.1 hi).1
  obtain⟨v',v1,v2,T',s',xs,flat,_,v4,v5,v6⟩:=hown i _ (List.getElem?_eq_getElem hlt)
  rw[hi] at v1;cases v1
  rcases v5.2 with⟨e,_⟩|⟨g',cap,cur,e,hBg,_⟩
  ·rw[e] at hg;cases hg
  ·rw[e] at hg;cases hg;exact hBg
 refine⟨_,J6 ρ n all,M',rfl, ?_⟩
 refine C.step hd (fun id h=>by simpa using hfresh id h) (fun id h=>Kg (by rw[alen];simpa using h)) (by show _=Value.tuple #[Ji false [J6 ρ n all n|>fun v=>SC.den (J6 ρ n all) (.ptr n 0)], .int .i64 0];rw[show SC.den (J6 ρ n all) (.ptr n 0)= .pointer (some ⟨b,0,none⟩) by simp[SC.den,e0]];rfl) (fun id hid=> ?_) (hb.mono C.base) hb.size m1 (fun g hg=> ?_) (fun g hg=>hold g (C.old g hg)) ?_ ?_ ?_ ?_ (fun g hg=>(m2 g hg).imp id fun h=>⟨Nat.le_trans C.base h.1,hRn g h.1⟩)
 ·have:id=n:=by simpa[SV.ids,Kl,SC.ids] using hid
  exact .inr ⟨by omega,by simp;omega⟩
 ·rcases m2 g hg with h|h
  ·exact Nat.lt_of_lt_of_le (C.old g (.inl h)) hb.size
  ·exact h.2
 ·intro r x _ _ hx ho g hg
  obtain⟨h5,_,_,h6'⟩:=C.notM hx ho hg
  refine⟨hold g h6',fun h=> ?_⟩
  rcases m2 g h with h|h
  ·exact h5 h
  ·omega
 ·rintro r z hz (h|h)
  ·rw[U5 h] at hz
   simp only[List.length_cons,List.length_map] at h
   refine⟨?_, .inr (by simp only[List.length_cons,List.length_map];exact h),fun id hid=> ?_⟩
   ·by_cases hr:r=n
    ·subst hr
     rw[Nat.sub_self] at hz
     cases hz
     refine⟨b,e0, ?_,hMb,hRn b hbB,Nat.le_trans C.base hbB⟩
     rw[hcell,O.cells (r+1) (J6 ρ r all) ev]
    ·obtain⟨k,rfl⟩:∃k,r=n+1+k:=⟨r-(n+1),by omega⟩
     rw[show n+1+k-n=k+1 by omega,List.getElem?_cons_succ] at hz
     obtain⟨v,v1,v2,T',s',xs,flat,rfl,v4,v5,v6⟩:=hown k z hz
     have hv:=ev k v v1
     refine⟨flat,v4, ?_,fun g hg=> ?_⟩
     ·rw[hv];exact⟨v5.1,v5.2.imp id fun⟨g,cap,cur,e,h,r⟩=>⟨g,cap,cur,e,Nat.le_trans C.base h,r⟩⟩
     ·rw[hv] at hg;exact v6 g hg
   ·by_cases hr:r=n
    ·subst hr
     rw[Nat.sub_self] at hz
     cases hz
     have:=Fq (r+1) id hid
     exact .inr ⟨by omega,by simp only[List.length_cons,List.length_map];omega⟩
    ·obtain⟨k,rfl⟩:∃k,r=n+1+k:=⟨r-(n+1),by omega⟩
     rw[show n+1+k-n=k+1 by omega,List.getElem?_cons_succ] at hz
     obtain⟨v,_,_,T',s',xs,flat,rfl,_⟩:=hown k z hz
     simp[Res.ids] at hid
  ·exact absurd rfl h
 ·intro id h
  simp only[List.length_cons,List.length_map] at h
  by_cases hr:id=n
  ·rw[hr,e0];rfl
  ·obtain⟨k,rfl⟩:∃k,id=n+1+k:=⟨id-(n+1),by omega⟩
   have hlt:k<((Jt (enc c.s (c.post x)) (n+1)).2.map Xa).length:=by rw[List.length_map];omega
   obtain⟨v,v1,v2,_⟩:=hown k _ (List.getElem?_eq_getElem hlt)
   rw[ev k v v1];exact v2
 ·have get:∀{r},n≤r∧r<n+((Jt (enc c.s (c.post x)) (n+1)).2.length+1)→∀g,blk (J6 ρ n all r)=some g→w.heap.size≤g∧((r=n∧g=b)∨∃k v,r=n+1+k∧vals[k]? =some v∧blk v=some g):=by
   intro r h g hg
   by_cases hr:r=n
   ·rw[hr,e0] at hg
    cases hg
    exact⟨hbB, .inl ⟨hr,rfl⟩⟩
   ·obtain⟨k,rfl⟩:∃k,r=n+1+k:=⟨r-(n+1),by omega⟩
    have hlt:k<vals.length:=by omega
    have hk:=List.getElem?_eq_getElem hlt
    rw[ev k _ hk] at hg
    exact⟨hvB _ (List.getElem_mem hlt) g hg, .inr ⟨k,_,rfl,hk,hg⟩⟩
  rintro r r' z z' hne hz hz' ho ho' (h|h) g hg hg'
  ·simp only[List.length_cons,List.length_map] at h
   obtain⟨hge,h1⟩:=get h g hg
   by_cases h':n≤r'∧r'<n+((Jt (enc c.s (c.post x)) (n+1)).2.length+1)
   ·obtain⟨_,h2⟩:=get h' g hg'
    rcases h1 with⟨k1,k2⟩|⟨k,v,k1,k2,k3⟩<;>rcases h2 with⟨m1,m2⟩|⟨m,u,m1,m2,m3⟩
    ·exact hne (k1.trans m1.symm)
    ·exact hvb u (List.mem_of_getElem? m2) (k2▸m3)
    ·exact hvb v (List.mem_of_getElem? k2) (m2▸k3)
    ·have hkm:k≠m:=fun e=>hne (by rw[k1,m1,e])
     have hp:=List.pairwise_iff_getElem.1 O.apart
     obtain⟨l1,e1⟩:=List.getElem?_eq_some_iff.1 k2
     obtain⟨l2,e2⟩:=List.getElem?_eq_some_iff.1 m2
     rcases Nat.lt_or_gt_of_ne hkm with hlt|hlt
     ·exact hp k m l1 l2 hlt g (by rw[e1];exact k3) (by rw[e2];exact m3)
     ·exact hp m k l2 l1 hlt g (by rw[e2];exact m3) (by rw[e1];exact k3)
   ·unfold K9 at hz'
    rw[if_neg (by simpa using h')] at hz'
    simp only[look] at hz'
    rw[Kg (by rw[alen];exact h')] at hg'
    have:=(C.notM hz' ho' hg').2.2.2
    omega
  ·exact absurd rfl h
theorem J4t [Dr] {P:Program} {f:FuncId} {c:Juf} (hO:OkN P f c):Ok P f c.con:=
 ⟨hO.1,fun z h=>(by cases h),fun F h=>(by cases h;exact Jom hO),fun _ x M R w vs _ _ h=>(h:False).elim⟩
end Go.Sx
namespace Go.Sx
def Br (c:Bool) (p q:Prop):Prop:=(c=true→p)∧(c=false→q)
def Iw (x:Int):Prop:= -9223372036854775808≤x∧x≤9223372036854775807
def Bd (i n:Int):Prop:=0≤i∧i<n
def T2 (p r:Prop):Prop:=p∧p∧r
def Tw (p:Prop):Prop:=p∧p
def Sf {α:Sort _} (a:α) (r:Prop):Prop:=a=a∧r
def Si (a:Int) (r:Prop):Prop:=a=a∧r
def Ln {α:Type} (l:List α):Int:=(l.length:Int)
def Nc (n:Nat):Int:=(n:Int)
def Gt {α:Type} (l:List α) (i:Int) (d:α):α:=l.getD i.toNat d
def B0:ByteArray:=ByteArray.mk (Array.mk [])
def Lb (a b:ByteArray):Bool:=ByteArray.toList a==ByteArray.toList b
def E2 {α β:Type} (x:α×β):α×β:=(x.1,x.2)
abbrev Bt:=ByteArray
abbrev Ls:=List ByteArray
abbrev Li:=List Int
structure GW [Dr] (P:Program) where
 g:Gam
 ok:V6 P g
abbrev GW.add [Dr] {P:Program} (W:GW P) {f:FuncId} {c:Con} (h:Ok P f c):GW P:=⟨(f,c)::W.g, .cons h W.ok⟩
end Go.Sx
namespace Go.Sx
open Go.RowKit Go.ChangeShapes
def Wf:(s:Sch)→s.T→Prop
 | .int k,n=>(Lit.int k n).wf=true
 | .bool,_=>True
 | .str,b=>b.size≤maxLen
 | .flt _,_=>True
 | .fnc,_=>True
 | .prod a b,x=>Wf a x.1∧Wf b x.2
 | .list _ s,xs=>xs.length≤maxLen∧∀x∈xs,Wf s x
def Jjb (P:Program) (fit:TypeId→Sch→Bool):List (Nat×TypeId)→Nat→Sch→Bool
 |[],_,_=>false
 |[p],off,s=>Nat.beq p.1 off&&fit p.2 s&&Nat.beq (P.cellsOf p.2) s.size
 |p::ps,off, .prod a b=>Nat.beq p.1 off&&fit p.2 a&&Nat.beq (P.cellsOf p.2) a.size&&Jjb P fit ps (off+a.size) b
 |_,_,_=>false
def Jz5 (P:Program):Nat→TypeId→Sch→Bool
 |0,_,_=>false
 |n+1,T,s=>match P.underlying T with
  |some .bool=>match s with| .bool=>true|_=>false
  |some (.int k)=>match s with| .int k'=>decide (k=k')|_=>false
  |some .string=>match s with| .str=>true|_=>false
  |some (.slice e)=>match s with| .list e' s'=>Nat.beq e e'&&Jz5 P n e s'&&Nat.beq (P.cellsOf e) s'.size|_=>false
  |some (.struct fs)=>Nat.beq (P.cellsOf T) s.size&&Jjb P (Jz5 P n) (fs.toList.map fun f=>(f.offset,f.type)) 0 s
  |some (.array k e)=>Nat.beq (P.cellsOf T) s.size&&Jjb P (Jz5 P n) ((List.range k).map fun i=>(i*P.cellsOf e,e)) 0 s
  |_=>false
theorem Jz9 {w:World} {b off:Nat} {u:Value} (h:w.cell? ⟨b,off,none⟩=some u):b<w.heap.size:=by
 unfold World.cell? at h
 split at h
 ·rename_i hb
  exact(Array.getElem?_eq_some_iff.1 hb).1
 ·cases h
theorem Sch.size_pos:∀s:Sch,0<s.size
 | .prod a b=>by have:=Sch.size_pos a;simp only[Sch.size];omega
 | .int _=>Nat.one_pos
 | .bool=>Nat.one_pos
 | .str=>Nat.one_pos
 | .flt _=>Nat.one_pos
 | .fnc=>Nat.one_pos
 | .list _ _=>Nat.one_pos
section
variable {H:Type} {enc:TypeId×Value→H} {P:Program} {w:World} {spare:Nat→Bool} {held:Bool}
theorem Jdn {fit:TypeId→Sch→Bool} {fuel:Nat} (ih:∀(T:TypeId) (s:Sch) (cs:List Value) (x:DataW H×List MemPlace),fit T s=true→DataW.trod enc P w 0 spare held fuel T cs=some x→∃y:s.T,Rep (·<w.heap.size) w s y cs∧Wf s y):
  ∀(ps:List (Nat×TypeId)) (off:Nat) (s:Sch) (cs:List Value),Jjb P fit ps off s=true→cs.length=off+s.size→(∀p∈ps,∃x,DataW.trod enc P w 0 spare held fuel p.2 ((cs.drop p.1).take (P.cellsOf p.2))=some x)→
   ∃y:s.T,Rep (·<w.heap.size) w s y (cs.drop off)∧Wf s y
 |[],_,_,_,h,_,_=>by simp[Jjb] at h
 |[p],off,s,cs,h,hl,ht=>by
  simp only[Jjb,Bool.and_eq_true,Nat.beq_eq] at h
  obtain⟨⟨h1,h2⟩,h3⟩:=h
  obtain⟨x,hx⟩:=ht p (by simp)
  rw[h1,h3,List.take_of_length_le (by rw[List.length_drop];omega)] at hx
  exact ih _ _ _ _ h2 hx
 | p :: q :: ps, off, s, cs, h, hl, ht => by
  cases s with
  |prod a b=>
   simp only[Jjb,Bool.and_eq_true,Nat.beq_eq] at h
   obtain⟨⟨⟨h1,h2⟩,h3⟩,h4⟩:=h
   obtain⟨x,hx⟩:=ht p (by simp)
   rw[h1,h3] at hx
   obtain⟨y1,r1,w1⟩:=ih _ _ _ _ h2 hx
   obtain⟨y2,r2,w2⟩:=Jdn ih (q::ps) (off+a.size) b cs h4 (by rw[hl];simp only[Sch.size];omega) (fun p' hp'=>ht p' (by simp[hp']))
   refine⟨(y1,y2),⟨_,_, ?_,r1,r2⟩,w1,w2⟩
   rw[←List.drop_drop,List.take_append_drop]
  |_=>simp[Jjb] at h
theorem Js1 {base:Nat} {a:Addr} {n:Nat} {cs:List Value} (h:w.cells? base a n=some cs):cs.length=n∧∀i,i<n→w.cell? (a.add i)=cs[i]? :=by
 unfold World.cells? at h
 split at h
 ·exact⟨by simpa using mapM_some_length h,fun i hi=>mapM_some_get h i i (by simp[hi])⟩
 ·cases h
theorem Jjp (a:Addr) (i j:Nat):(a.add i).add j=a.add (i+j):=by
 unfold Addr.add
 by_cases hi:i=0
 ·simp[hi]
 ·by_cases hj:j=0
  ·simp[hi,hj]
  ·have:¬i+j=0:=by omega
   simp[hi,hj,Nat.add_assoc]
theorem Jjf {e:TypeId} {s:Sch} {a:Addr} {f:List Value→Option (DataW H×List MemPlace)} (hs:P.cellsOf e=s.size)
  (ih:∀(cs:List Value) (x:DataW H×List MemPlace),f cs=some x→∃y:s.T,Rep (·<w.heap.size) w s y cs∧Wf s y):
  ∀(len i0:Nat),(∀i,i<len→∃x,(w.cells? 0 (a.add ((i0+i)*s.size)) s.size).bind f=some x)→
   ∃(ys:List s.T) (flat:List Value),Yc (Rep (·<w.heap.size) w s) ys flat∧ys.length=len∧(∀y∈ys,Wf s y)∧∀k u,flat[k]? =some u→w.cell? (a.add (i0*s.size+k))=some u
 |0,_,_=>⟨[],[],rfl,rfl,by simp,by simp⟩
 | len + 1, i0, h => by
  obtain⟨x,hx⟩:=h 0 (by omega)
  rw[Nat.add_zero] at hx
  obtain⟨cs,hc,hf⟩:=Option.bind_eq_some_iff.1 hx
  obtain⟨y,r1,w1⟩:=ih _ _ hf
  obtain⟨cl,cg⟩:=Js1 hc
  obtain⟨ys,flat,r2,l2,w2,g2⟩:=Jjf hs ih len (i0+1) (fun i hi=>by
   have:=h (i+1) (by omega)
   rwa[show i0+(i+1)=i0+1+i by omega] at this)
  refine⟨y::ys,cs++flat,⟨cs,flat,rfl,r1,r2⟩,by simp[l2], ?_,fun k u hk=> ?_⟩
  ·intro z hz
   rcases List.mem_cons.1 hz with rfl|hz
   ·exact w1
   ·exact w2 z hz
  ·rcases Nat.lt_or_ge k cs.length with hlt|hge
   ·rw[List.getElem?_append_left hlt] at hk
    have:=cg k (by omega)
    rw[Jjp] at this
    rw[this,hk]
   ·rw[List.getElem?_append_right hge] at hk
    have:=g2 _ _ hk
    rw[cl] at this hge
    rwa[Nat.succ_mul,show i0*s.size+s.size+(k-s.size)=i0*s.size+k by omega] at this
theorem Jbx:∀(n fuel:Nat) (T:TypeId) (s:Sch) (cs:List Value) (x:DataW H×List MemPlace),Jz5 P n T s=true→DataW.trod enc P w 0 spare held fuel T cs=some x→∃y:s.T,Rep (·<w.heap.size) w s y cs∧Wf s y
 |0,_,_,_,_,_,h,_=>by simp[Jz5] at h
 | n + 1, fuel, T, s, cs, x, h, ht => by
  unfold Jz5 at h
  split at h
  ·rename_i hu
   cases s<;>simp at h
   obtain⟨b,rfl,_⟩:=DataW.trod_bool hu ht
   exact⟨b,rfl,trivial⟩
  ·rename_i k hu
   cases s<;>simp at h
   subst h
   obtain⟨b,rfl,_,hw⟩:=DataW.trod_int hu ht
   exact⟨b,rfl,hw⟩
  ·rename_i hu
   cases s<;>simp at h
   obtain⟨b,rfl,_,hw⟩:=DataW.trod_string hu ht
   exact⟨b,rfl,hw⟩
  ·rename_i e hu
   cases s<;>simp at h
   rename_i e' s'
   obtain⟨⟨rfl,h2⟩,h3⟩:=h
   rcases DataW.trod_slice hu ht with⟨rfl,_⟩|⟨a,len,cap,elems,rest,m,rfl,rfl,_,_,hlc,hcm,hel,hg,_,_⟩
   ·exact⟨[],⟨_,[],rfl,rfl, .inl ⟨.inl rfl,rfl⟩⟩,by simp[Wf]⟩
   ·rw [h3] at hg
    obtain⟨ys,flat,r,l,wf,g⟩:=Jjf (w:=w) (a:=a) h3 (fun cs x hx=>Jbx n m e s' cs x h2 hx) len 0 (fun i hi=>by
     rw[Nat.zero_add,hg i hi]
     exact⟨_,List.getElem?_eq_getElem (by omega)⟩)
    refine⟨ys,⟨_,flat,rfl,r, ?_⟩,⟨by omega,wf⟩⟩
    cases flat with
    | nil =>
     have h0:=Yc.length r
     have hp:=Sch.size_pos s'
     have:ys.length=0:=by
      rcases Nat.eq_zero_or_pos ys.length with h|h
      ·exact h
      ·have:=Nat.mul_pos h hp
       rw[←h0] at this
       simp at this
     refine .inl ⟨.inr ⟨a,cap, ?_⟩,this⟩
     rw[←l,this]
    | cons u fl =>
     obtain⟨b,off,spot⟩:=a
     have h0:=g 0 u rfl
     have hspot:spot=none:=by simpa[Addr.add] using World.cell?_spot h0
     subst hspot
     refine .inr ⟨b,off,cap,by rw[l],by omega,fun k u' hu'=> ?_,fun _=> ?_⟩
     ·have:=g k u' hu'
      rwa[Nat.zero_mul,Nat.zero_add,Go.WideShapes.add_plain] at this
     ·have h1:w.cell? ⟨b,off,none⟩=some u:=by simpa[Addr.add] using h0
      exact Jz9 h1
  ·rename_i fs hu
   simp only[Bool.and_eq_true,Nat.beq_eq] at h
   obtain⟨xs,m,rfl,_,hl,hn,hg⟩:=DataW.trod_struct hu ht
   have:=Jdn (fun T s cs x=>Jbx n m T s cs x) _ 0 s cs h.2 (by omega) (fun p hp=>by
    obtain⟨f,hf,rfl⟩:=List.mem_map.1 hp
    obtain⟨i,hi⟩:=List.getElem?_of_mem hf
    have:=hg i f (by simpa using hi)
    rw[this]
    have hlt:i<xs.length:=by rw[hn];have:=(List.getElem?_eq_some_iff.1 hi).1;simpa using this
    exact⟨_,List.getElem?_eq_getElem hlt⟩)
   simpa using this
  ·rename_i k e hu
   simp only[Bool.and_eq_true,Nat.beq_eq] at h
   obtain⟨xs,m,rfl,_,hl,hn,hg⟩:=DataW.trod_array hu ht
   have:=Jdn (fun T s cs x=>Jbx n m T s cs x) _ 0 s cs h.2 (by omega) (fun p hp=>by
    obtain⟨i,hi,rfl⟩:=List.mem_map.1 hp
    have:=hg i (by simpa using hi)
    simp only at this⊢
    rw[this]
    have hlt:i<xs.length:=by rw[hn];simpa using hi
    exact⟨_,List.getElem?_eq_getElem hlt⟩)
   simpa using this
  ·cases h
end
def D4 (P:Program):List TypeId→List AK→Bool
 |[],[]=>true
 |t::ts, .val g s::ks=>Jz5 P 20 t s&&(match Ug P t with|some g'=>g'==g|none=>false)&&D4 P ts ks
 |_,_=>false
def WfA:(ks:List AK)→ATup ks→Prop
 |[],_=>True
 | .val _ s::ks,x=>Wf s x.1∧WfA ks x.2
 |_::ks,x=>WfA ks x.2
theorem Jit {P:Program} {w:World} {r:Reach} {base:Nat} {t:TypeId} {v:Value} {g:Bool} (h:Value.okWide P w r base t v) (hg:Ug P t=some g):v=Ji g v.cells.toList:=by
 unfold Ug at hg
 unfold Value.okWide at h
 split at hg
 ·rename_i fs hu
  cases hg
  rw[hu] at h
  obtain⟨cs,rfl,_⟩:=h
  rfl
 ·rename_i k e hu
  cases hg
  rw[hu] at h
  obtain⟨cs,rfl,_⟩:=h
  rfl
 ·rename_i d hn1 hn2 hu
  cases hg
  have hna:∀cs,v≠ .agg cs:=by
   rintro cs rfl
   split at h
   ·rename_i fs hu'
    exact hn1 fs (Option.some.inj (hu.symm.trans hu'))
   ·rename_i k e hu'
    exact hn2 k e (Option.some.inj (hu.symm.trans hu'))
   ·unfold Cell.okWide at h
    split at h<;>simp_all [Cell.ok]
  cases v<;>first|rfl|exact absurd rfl (hna _)
 ·cases hg
section
variable {H:Type} {enc:TypeId×Value→H} {P:Program} {w:World} {spare:Nat→Bool} {held:Bool} {r:Reach} {base:Nat}
theorem Hg:∀{ts:List TypeId} {vs:List Value} {ds:List (DataW H)} {ps:List MemPlace},DataW.TrodAll enc P w 0 spare held ts vs ds ps→ds.length=ts.length
 |[],_,_,_,h=>by obtain⟨_,rfl,_⟩:=trodAll_nil h;rfl
 |t::ts,_,_,_,h=>by
  obtain⟨v,vs',d,ds',p,q,rfl,rfl,rfl,hd,hr⟩:=trodAll_cons h
  simp[Hg hr]
theorem Jne [Dr] {R:Nat→Prop}:∀{ts:List TypeId} {ks:List AK} {vs:List Value} {ds:List (DataW H)} {ps:List MemPlace},D4 P ts ks=true→DataW.TrodAll enc P w 0 spare held ts vs ds ps→
  (∀(j:Nat) t v,ts[j]? =some t→vs[j]? =some v→Value.okWide P w r base t v)→∃x:ATup ks,V9 P (·<w.heap.size) R w ks x vs∧WfA ks x
 |[],[],vs,ds,ps,_,h,_=>by
  obtain⟨rfl,_,_⟩:=trodAll_nil h
  exact⟨(),rfl,trivial⟩
 |[],_::_,_,_,_,hf,_,_=>by simp[D4] at hf
 | t :: ts, k :: ks, vs, ds, ps, hf, h, hv => by
  obtain⟨v,vs',d,ds',p,q,rfl,rfl,rfl,hd,hr⟩:=trodAll_cons h
  cases k with
  | val g s =>
   simp only[D4,Bool.and_eq_true] at hf
   obtain⟨⟨f1,f2⟩,f3⟩:=hf
   obtain⟨fuel,hd⟩:=hd
   obtain⟨y,r1,w1⟩:=Jbx 20 fuel t s _ _ f1 hd
   obtain⟨x,a1,a2⟩:=Jne (R:=R) f3 hr (fun j t' v' h1 h2=>hv (j+1) t' v' h1 h2)
   have hg:Ug P t=some g:=by
    split at f2
    ·rename_i g' e
     rw[e,eq_of_beq f2]
    ·cases f2
   exact⟨(y,x),⟨v,vs',rfl,⟨_,Jit (hv 0 t v rfl rfl) hg,r1⟩,a1⟩,w1,a2⟩
  |_=>simp[D4] at hf
 |_::_,[],_,_,_,hf,_,_=>by simp[D4] at hf
theorem Fd [Dr] (hl:laidOutB P=true) {W W':World} (hb:Below W.heap.size W W') {sp:Nat→Bool}:∀{ts:List TypeId} {vs:List Value} {ds:List (DataW H)} {ps:List MemPlace},
  (ts.all fun t=>P.readableRec t&&decide (t<P.types.size))=true→DataW.TrodAll enc P W 0 (fun _=>true) true ts vs ds ps→(∀x∈ps,x.block<W.heap.size)→(∀x∈ps,sp x.block=true)→DataW.TrodAll enc P W' 0 sp true ts vs ds ps
 |[],vs,ds,ps,_,h,_,_=>by
  obtain⟨rfl,rfl,rfl⟩:=trodAll_nil h
  exact trodAll_mk0
 | t :: ts, vs, ds, ps, ht, h, hlt, hsp => by
  obtain⟨v,vs',d,ds',p,q,rfl,rfl,rfl,hd,hr⟩:=trodAll_cons h
  simp only[List.all_cons,Bool.and_eq_true,decide_eq_true_eq] at ht
  exact trodAll_cons_mk (WideElems.Trod_stays hl ht.1.1 ht.1.2 hd (fun x hx=>hb.kit.same (hlt x (by simp[hx]))) (fun x hx=>hsp x (by simp[hx])))
   (Fd hl hb ht.2 hr (fun x hx=>hlt x (by simp[hx])) fun x hx=>hsp x (by simp[hx]))
end
theorem Fw [Dr] {W W':World} (hb:Below W.heap.size W W') (may:MemPlace→Prop):W.keptBut W' may:=by
 refine⟨hb.os,hb.output,fun i hi=> ?_⟩
 rw[hb.block i hi]
 cases h:W.heap[i]? with
 |none=>exact rfl
 |some o=>cases o<;>simp
theorem Jqe [Dr] {P:Program} {w w':World} {name:String} {k:IntKind} {zs:List Int} (h:Lib.TabIs P w name k zs) (hb:Below w.heap.size w w'):Lib.TabIs P w' name k zs:=by
 unfold Lib.TabIs World.var? at*
 cases hg:P.globalNamed name with
 |none=>rw[hg] at h;cases h
 | some g =>
  rw[hg] at h
  simp only[Option.bind_some] at h⊢
  have hlt:g<w.heap.size:=by
   rcases Nat.lt_or_ge g w.heap.size with hlt|hge
   ·exact hlt
   ·rw[Array.getElem?_eq_none hge] at h
    cases h
  rw[hb.block g hlt]
  exact h
theorem Jdf [Dr] {P:Program} {w w':World} {name:String} (h:IfaceVar P name w) (hb:Below w.heap.size w w'):IfaceVar P name w':=by
 obtain⟨tp,pe,h⟩:=h
 refine⟨tp,pe, ?_⟩
 unfold World.var? at*
 cases hg:P.globalNamed name with
 |none=>rw[hg] at h;cases h
 | some g =>
  rw[hg] at h
  simp only[Option.bind_some] at h⊢
  have hlt:g<w.heap.size:=by
   rcases Nat.lt_or_ge g w.heap.size with hlt|hge
   ·exact hlt
   ·rw[Array.getElem?_eq_none hge] at h
    cases h
  rw[hb.block g hlt]
  exact h
theorem law_calls [Dr] {P:Program} {H:Type} {enc:TypeId×Value→H} {f:FuncId} {fn:Func} {s:ChangeSpec} {ks:List AK} {pre:ATup ks→List Prop} {tb:TypeId}
  (hok:Ok P f {args:=ks,ress:=[(false, .bool)],owns:=[],pre:=pre,spec:=fun _=>(true,())}) (hpre:∀x,WfA ks x→K6 (pre x))
  (hl:laidOutB P=true) (hfit:D4 P fn.params.toList ks=true) (hpt:(fn.params.toList.all fun t=>P.readableRec t&&decide (t<P.types.size))=true) (hrt:fn.resultTypes= #[tb]) (hub:P.underlying tb=some .bool)
  (hvars:s.vars=[]) (hs:∀ds:List (DataW H),ds.length=fn.params.toList.length→s.fn H ds={results:=[.lit (.bool true)],args:=ds})
  {W:World} {base:Nat} {args:Array Value} {ds gs:List (DataW H)} {before:List MemPlace} (htab:Tab P W)
  (hval:∀(j:Nat) t v,fn.params[j]? =some t→args[j]? =some v→Value.okWide P W .any base t v) (hW:DataW.Whole enc P fn.params.toList s.vars false W args.toList ds gs before):
  Calls P f args W fun e W'=>∃v,e= .returned v∧s.post enc P fn false true false false W args v W':=by
 have hW0:=hW
 have hlt:∀p∈before,p.block<W.heap.size:=fun p hp=>hW.lt p hp
 obtain⟨p,q,hA,hV,rfl,_,_⟩:=hW
 rw[hvars] at hV
 obtain⟨rfl,rfl⟩:=trodVars_none hV
 obtain⟨x,hx,hwf⟩:=Jne (R:=fun _=>False) hfit hA (fun j t v h1 h2=>hval j t v (by simpa using h1) (by simpa using h2))
 have hg:Good P W:=fun w' hb=>⟨Jqe htab.1 hb,fun e=>⟨(htab.2 e).1.keptBut (Fw hb fun _=>False) fun _ h=>h.elim,Jdf (htab.2 e).2.1 hb,Jdf (htab.2 e).2.2 hb⟩⟩
 have hc:=hok.2.2.2 rfl x (·<W.heap.size) (fun _=>False) W args.toList (fun b hb=>hb.elim id False.elim) hg (hpre x hwf) hx
 rw[Array.toArray_toList] at hc
 refine hc.mono ?_
 rintro e W' ⟨M',vs,rfl,hb,_,_,hr⟩
 obtain⟨v,vs',rfl,⟨cs,rfl,hcs⟩,hr⟩:=hr
 have hr:vs'=[]:=hr
 have hcs:cs=[.bool true]:=hcs
 subst hr;subst hcs
 refine⟨_,rfl,ds,[],_,[],p,[],hW0, ?_, ?_, ?_,Fw hb _,fun h=>by cases h⟩
 ·rw[List.append_nil,hs ds (Hg hA),hrt]
  exact trodAll_mk1 (shut_bool hub _)
 ·rw[List.append_nil,hs ds (Hg hA)]
  exact Fd hl hb hpt hA (fun x hx=>hlt x (by simp[hx])) (fun x hx=>decide_eq_true (hlt x (by simp[hx])))
 ·rw[List.append_nil,hs ds (Hg hA),hvars]
  exact rfl
end Go.Sx
namespace Go.Sx
open Go.RowKit
def Jpm (s:ByteArray):Int:=match Lib.atoiAll s.data.toList with
 | .ok v=>v
 | .range=>Lib.atoiSat s.data.toList
 |_=>0
def Jtr (s:ByteArray):Bool:=match Lib.atoiAll s.data.toList with
 | .ok _=>false
 |_=>true
def Ki0 (_:Nat→Option Res) (n:Nat) (args:List SV):Option Out:=match args with
 |[.v false [.str s]]=>some ⟨[s.size≤1000000], .tup [(false,[.int .i64 (Jpm s)]),(false,[.fv n])],[.ifc (Jtr s)],[]⟩
 |_=>none
theorem J0x [Dr] {P:Program} {f:FuncId}
  (H:∀(s:ByteArray) (w:World),s.size≤1000000→Good P w→Calls P f #[.string s] w fun e w'=>∃u,e= .returned (.tuple #[.int .i64 (Jpm s),u])∧Jhr (Jtr s) u∧Below w.heap.size w w'):Jjq P f Ki0:=by
 intro N B w0 al τ σ a w ρ M R n d rs args out C hd hrs hop hpre hfresh
 unfold Ki0 at hop
 split at hop
 ·rename_i s
  cases hop
  have h:=H s w hpre C.goodNow
  refine⟨_,h, ?_⟩
  rintro e w' ⟨u,rfl,g1,hb⟩
  have hold:∀b,b<w.heap.size→w'.heap[b]? =w.heap[b]? :=fun b h=>hb.block b h
  have e0:J6 ρ n [u] n=u:=Kr (i:=0) rfl
  have hn:∀id,n≤id∧id<n+[Res.ifc (Jtr s)].length→id=n:=fun id h=>by simp at h;omega
  refine⟨_,J6 ρ n [u],M,rfl,C.step hd hfresh (fun id h=>Kg (by simpa using h)) (by simp[SV.den,Jx3,Ji,SC.den,e0]) (fun id hid=> ?_) (hb.mono C.base) hb.size (fun _ h=>h) (fun b h=>Nat.lt_of_lt_of_le (C.old b (.inl h)) hb.size) (fun b h=>hold b (C.old b h)) ?_ ?_ ?_ ?_⟩
  ·simp[SV.ids,Kl,SC.ids] at hid
   subst hid
   exact .inr ⟨Nat.le_refl _,by simp⟩
  ·intro r x _ _ hx ho b hb'
   obtain⟨h5,_,_,h6⟩:=C.notM hx ho hb'
   exact⟨hold b h6,h5⟩
  ·rintro r x hx (h|h)
   ·obtain rfl:=hn r h
    rw[U5 h] at hx
    simp at hx
    subst hx
    refine⟨?_, .inr h,fun id hid=>by simp[Res.ids] at hid⟩
    show Jhr _ (J6 ρ r [u] r)
    rw[e0];exact g1
   ·exact absurd rfl h
  ·intro id h
   obtain rfl:=hn id h
   rw[e0]
   revert g1
   cases Jtr s with
   |false=>intro g1;have g1:u= .nilIface:=g1;subst g1;rfl
   |true=>rintro⟨T,y,rfl⟩;rfl
  ·rintro r r' x x' _ hx _ ho _ (h|h)
   ·obtain rfl:=hn r h
    rw[U5 h] at hx
    simp at hx
    subst hx
    cases ho
   ·exact absurd rfl h
 ·cases hop
end Go.Sx

/- A symbolic executor over the model and its soundness: part of the proof. -/
import Derived.Test.YtcibbcfiemeoiaaGreatDoorSxB
import Derived.OpenShut
import Derived.Carry
import Derived.Handed
import Derived.ProofKit
import Derived.LaidMore
import Derived.Shelf.SlSortCmp.WholeK
import Derived.Shelf.Strconv.AtoiAll
set_option linter.unusedSimpArgs false
set_option linter.unusedVariables false
namespace Go.Sx
open Go.RowKit
structure X9 where
 T? :Option TypeId
 s:Sch
 args:List AK
 ress:List (Bool×Sch)
 pre:s.T→ATup args→List Prop
 spec:s.T→ATup args→Tup ress
 post:s.T→ATup args→s.T
def J1d (rs:Nat→Option Res):Sch→List SC→Bool
 | .prod a b,cs=>J1d rs a (cs.take a.size)&&J1d rs b (cs.drop a.size)
 | .list T _, cs => match cs with
  |[.sl i]=>match rs i with
   |some (.own T' _ _)=>Nat.beq T' T
   |_=>false
  |[.val (.slice none 0 0)]=>true
  |_=>false
 |_,_=>true
def K75 (M R:Nat→Prop) (B:Nat) (w:World) (y:Res) (v:Value):Prop:=
 v.oneCell'=true∧∃T s xs flat,y= .own T s xs∧Y2 (Rep M w s) xs flat∧w.ownsRow B T s.size v (xs:List s.T).length flat∧∀g,v.ownBlock=some g→¬M g∧¬R g
def Knx (u u':Value):Prop:=∀b,blk u=some b→blk u'≠some b
structure Jpj (M R:Nat→Prop) (B:Nat) (w:World) (s:Sch) (x:s.T) (cells vals:List Value):Prop where
 len:vals.length=(J8 (enc s x) 0).2.length
 cells:∀(n:Nat) (ρ':Env),(∀(i:Nat) (u:Value),vals[i]? =some u→ρ' (n+i)=u)→cells=(J8 (enc s x) n).1.map (SC.den ρ')
 own:∀(i:Nat) (y:Res),((J8 (enc s x) 0).2.map Hl)[i]? =some y→∃v,vals[i]? =some v∧K75 M R B w y v
 apart:vals.Pairwise Knx
theorem Hd:∀(a b:List SC) (n:Nat),J8 (a++b) n=((J8 a n).1++(J8 b (n+(J8 a n).2.length)).1,(J8 a n).2++(J8 b (n+(J8 a n).2.length)).2)
 |[],b,n=>by simp[J8]
 | c :: a, b, n => by
  have ih:=Hd a b
  cases c with
  |lst T s xs=>
   simp only[List.cons_append,J8,ih,List.length_cons]
   rw[show n+1+(J8 a (n+1)).2.length=n+((J8 a (n+1)).2.length+1) by omega]
  |_=>simp only[List.cons_append,J8,ih]
theorem Zh:∀(cs:List SC) (n m:Nat),(J8 cs n).2=(J8 cs m).2
 |[],_,_=>rfl
 |c::cs,n,m=>by
  cases c with
  |lst T s xs=>simp only[J8];rw[Zh cs (n+1) (m+1)]
  |_=>simp only[J8];exact Zh cs n m
theorem Jec:∀{s:Sch} {x:s.T} (n:Nat),∀id∈Ky (J8 (enc s x) n).1,n≤id∧id<n+(J8 (enc s x) n).2.length
 | .int _,_,_,id,h=>by simp[enc,J8,Ky,SC.ids] at h
 | .bool,_,_,id,h=>by simp[enc,J8,Ky,SC.ids] at h
 | .str,_,_,id,h=>by simp[enc,J8,Ky,SC.ids] at h
 | .flt _,_,_,id,h=>by simp[enc,J8,Ky,SC.ids] at h
 | .fnc,_,_,id,h=>by simp[enc,J8,Ky,SC.ids] at h
 | .list _ _,_,_,id,h=>by
  simp[enc,J8,Ky,SC.ids] at h
  simp only[enc,J8,List.length_cons,List.length_nil]
  omega
 | .prod a b,x,n,id,h=>by
  simp only[enc,Hd] at h⊢
  rw[Ky,List.flatMap_append] at h
  rw[List.length_append]
  rcases List.mem_append.1 h with h|h
  ·have:=Jec n id h;omega
  ·have:=Jec (n+(J8 (enc a x.1) n).2.length) id h;omega
theorem Jw6 {M:Nat→Prop} {w:World} {B:Nat} {T:TypeId} {s s':Sch} (h:s'=s) {xs:List s'.T} {v:Value} {flat:List Value} (h1:Y2 (Rep M w s') xs flat) (h2:w.ownsRow B T s'.size v xs.length flat):
  Y2 (Rep M w s) (Jav h xs) flat∧w.ownsRow B T s.size v (Jav h xs).length flat:=by
 subst h
 exact⟨h1,h2⟩
theorem Jd7 [Dr] {P : Program} {ρ : Env} {M R : Nat → Prop} {B : Nat} {w : World} {rs : Nat → Option Res} (hres : ∀ i T s xs, rs i = some (.own T s xs) → Yn P ρ M R B w i (.own T s xs))
  (hap:∀i j x y,i≠j→rs i=some x→rs j=some y→x.owning=true→y.owning=true→∀b,blk (ρ i)=some b→blk (ρ j)≠some b):
  ∀{s:Sch} {cs:List SC} {x:s.T},dec rs s cs=some x→J1d rs s cs=true→(Ky cs).Nodup→
   ∃vals,Jpj M R B w s x (cs.map (SC.den ρ)) vals∧∀v∈vals,v= .slice none 0 0∨∃i T s xs,i∈Ky cs∧rs i=some (.own T s xs)∧v=ρ i
 | .int k, cs, x, h, _, _ => by
  replace h:Jgb k cs=some x:=h
  unfold Jgb at h
  split at h
  ·split at h
   ·rename_i e;subst e;cases h
    exact⟨[],⟨rfl,fun n ρ' _=>rfl,fun i y hy=>by simp[enc,J8] at hy, .nil⟩,fun v hv=>by simp at hv⟩
   ·cases h
  ·cases h
 | .bool, cs, x, h, _, _ => by
  replace h:Jau cs=some x:=h
  unfold Jau at h
  split at h
  ·cases h
   exact⟨[],⟨rfl,fun n ρ' _=>rfl,fun i y hy=>by simp[enc,J8] at hy, .nil⟩,fun v hv=>by simp at hv⟩
  ·cases h
 | .str, cs, x, h, _, _ => by
  replace h:Jf9 cs=some x:=h
  unfold Jf9 at h
  split at h
  ·cases h
   exact⟨[],⟨rfl,fun n ρ' _=>rfl,fun i y hy=>by simp[enc,J8] at hy, .nil⟩,fun v hv=>by simp at hv⟩
  ·cases h
 | .flt k, cs, x, h, _, _ => by
  replace h:Jgc k cs=some x:=h
  unfold Jgc at h
  split at h
  ·split at h
   ·rename_i e;subst e;cases h
    exact⟨[],⟨rfl,fun n ρ' _=>rfl,fun i y hy=>by simp[enc,J8] at hy, .nil⟩,fun v hv=>by simp at hv⟩
   ·cases h
  ·cases h
 | .fnc,cs,x,h,_,_=>by
  replace h:Jwx cs=some x:=h
  unfold Jwx at h
  split at h
  ·cases h;exact⟨[],⟨rfl,fun n ρ' _=>rfl,fun i y hy=>by simp[enc,J8] at hy, .nil⟩,fun v hv=>by simp at hv⟩
  ·cases h;exact⟨[],⟨rfl,fun n ρ' _=>rfl,fun i y hy=>by simp[enc,J8] at hy, .nil⟩,fun v hv=>by simp at hv⟩
  ·cases h;exact⟨[],⟨rfl,fun n ρ' _=>rfl,fun i y hy=>by simp[enc,J8] at hy, .nil⟩,fun v hv=>by simp at hv⟩
  ·cases h
 | .prod a b, cs, x, h, ho, hn => by
  simp only[dec] at h
  simp only[J1d,Bool.and_eq_true] at ho
  have hsplit:Ky cs=Ky (cs.take a.size)++Ky (cs.drop a.size):=by
   rw[Ky,Ky,Ky,←List.flatMap_append,List.take_append_drop]
  rw[hsplit,List.nodup_append] at hn
  split at h
  ·rename_i y z ha hb
   cases h
   obtain⟨va,A,A'⟩:=Jd7 hres hap ha ho.1 hn.1
   obtain⟨vb,Bb,B'⟩:=Jd7 hres hap hb ho.2 hn.2.1
   refine⟨va++vb,⟨?_,fun n ρ' hρ=> ?_,fun i u hu=> ?_, ?_⟩,fun v hv=> ?_⟩
   ·simp only[enc,Hd,List.length_append,A.len,Bb.len]
    rw[Zh (enc b z) (0+(J8 (enc a y) 0).2.length) 0]
   ·simp only[enc,Hd,List.map_append]
    rw[←A.cells n ρ' fun i u hu=>hρ i u (by rw[List.getElem?_append_left (List.getElem?_eq_some_iff.1 hu).1];exact hu),
     ←Bb.cells (n+(J8 (enc a y) n).2.length) ρ' fun i u hu=>by
      have:=hρ (va.length+i) u (by rw[List.getElem?_append_right (Nat.le_add_right _ _)];simpa using hu)
      rw[A.len,Zh _ 0 n] at this
      rwa[Nat.add_assoc],
     ←List.map_append,List.take_append_drop]
   ·simp only[enc,Hd,List.map_append] at hu
    rw[Zh (enc b z) (0+(J8 (enc a y) 0).2.length) 0] at hu
    have hlen:((J8 (enc a y) 0).2.map Hl).length=va.length:=by rw[List.length_map,A.len]
    by_cases hi:i<va.length
    ·rw[List.getElem?_append_left (by omega)] at hu
     obtain⟨v,h1,h2⟩:=A.own i u hu
     exact⟨v,by rw[List.getElem?_append_left hi];exact h1,h2⟩
    ·rw[List.getElem?_append_right (by omega),hlen] at hu
     obtain⟨v,h1,h2⟩:=Bb.own _ u hu
     exact⟨v,by rw[List.getElem?_append_right (by omega)];exact h1,h2⟩
   ·refine List.pairwise_append.2 ⟨A.apart,Bb.apart,fun u hu u' hu' g hg hg'=> ?_⟩
    rcases A' u hu with rfl|⟨i,T,s,xs,i1,i2,rfl⟩
    ·cases hg
    ·rcases B' u' hu' with rfl|⟨j,T',s',xs',j1,j2,rfl⟩
     ·cases hg'
     ·exact hap i j _ _ (fun e=>hn.2.2 i i1 j j1 e) i2 j2 rfl rfl g hg hg'
   ·rcases List.mem_append.1 hv with hv|hv
    ·rcases A' v hv with h|⟨i,T,s,xs,i1,i2⟩
     ·exact .inl h
     ·exact .inr ⟨i,T,s,xs,by rw[hsplit];exact List.mem_append_left _ i1,i2⟩
    ·rcases B' v hv with h|⟨i,T,s,xs,i1,i2⟩
     ·exact .inl h
     ·exact .inr ⟨i,T,s,xs,by rw[hsplit];exact List.mem_append_right _ i1,i2⟩
  ·cases h
 | .list T s, cs, x, h, ho, hnd => by
  clear hnd
  replace h:H0 rs s cs=some x:=h
  unfold H0 at h
  split at h
  ·rename_i i
   cases hy:rs i with
   |none=>rw[hy] at h;cases h
   | some y =>
    rw[hy] at h
    cases y with
    |imm T' s' xs=>simp[J1d,hy] at ho
    | own T' s' xs =>
     simp only[Du] at h
     split at h
     ·rename_i e;cases h
      have hr:=hres i _ _ _ hy
      obtain⟨flat,h3,h4,h5⟩:=hr
      have hT:T'=T:=by simpa[J1d,hy,Nat.beq_eq] using ho
      subst hT
      obtain⟨h6,h7⟩:=Jw6 e h3 h4
      refine⟨[ρ i],⟨rfl,fun n ρ' hρ=> ?_,fun j u hu=> ?_,List.pairwise_singleton _ _⟩,fun v hv=> ?_⟩
      ·have:=hρ 0 _ rfl
       simp only[Nat.add_zero] at this
       simp[enc,J8,SC.den,this]
      ·cases j with
       |zero=>
        have:Res.own T' s (Jav e xs)=u:=by simpa[enc,J8,Hl] using hu
        subst this
        refine⟨ρ i,rfl, ?_,T',s,_,flat,rfl,h6,h7,h5⟩
        rcases h4.2 with⟨h,_⟩|⟨g,cap,cur,h,_⟩<;>rw[h]<;>rfl
       |succ j=>simp[enc,J8] at hu
      ·refine .inr ⟨i,T',s',xs,by simp[Ky,SC.ids],hy,by simpa using hv⟩
     ·cases h
    |_=>cases h
  ·cases h
   refine⟨[.slice none 0 0],⟨rfl,fun n ρ' hρ=> ?_,fun j u hu=> ?_,List.pairwise_singleton _ _⟩,fun v hv=> .inl (by simpa using hv)⟩
   ·have:=hρ 0 _ rfl
    simp only[Nat.add_zero] at this
    simp[enc,J8,SC.den,this]
   ·cases j with
    |zero=>
     have:Res.own T s []=u:=by simpa[enc,J8,Hl] using hu
     subst this
     exact⟨.slice none 0 0,rfl,rfl,T,s,[],[],rfl,rfl,⟨by simp, .inl ⟨rfl,rfl⟩⟩,fun g hg=>by cases hg⟩
    |succ j=>simp[enc,J8] at hu
  ·cases h
def Db (b:Nat) (vals:List Value) (g:Nat):Prop:=g=b∨∃u∈vals,blk u=some g
def OkO [Dr] (P:Program) (f:FuncId) (c:X9):Prop:=
 Dc P f∧∀(x:c.s.T) (y:ATup c.args) (M R:Nat→Prop) (B:Nat) (w:World) (b T:Nat) (cells vals vs:List Value),B≤w.heap.size→(∀g,M g∨R g→g<w.heap.size)→(∀w',Below B w w'→Tab P w')→
  w.heap[b]? =some (.cells cells.toArray T (0,0))→B≤b→¬M b→¬R b→(∀T0,c.T? =some T0→T=T0)→Jpj M R B w c.s x cells vals→(∀u∈vals,blk u≠some b)→Up (c.pre x y)→Xc P M R w c.args y vs→
  Calls P f (.pointer (some ⟨b,0,none⟩)::vs).toArray w fun e w'=>∃M' cells' vals' us,e= .returned (Jzp us)∧Lo M' w' 0 c.ress [] (c.spec x y) us∧Below B w w'∧(∀g,M g→M' g)∧(∀g,M' g→g<w'.heap.size)∧
   (∀g,M' g→M g∨(B≤g∧(Db b vals g∨w.heap.size≤g)))∧(∀g,g<w.heap.size→¬Db b vals g→w'.heap[g]? =w.heap[g]?)∧(∀g,M g→w'.heap[g]? =w.heap[g]?)∧
   w'.heap[b]? =some (.cells cells'.toArray T (0,0))∧¬M' b∧Jpj M' R B w' c.s (c.post x y) cells' vals'∧(∀u∈vals',blk u≠some b)∧(∀g,Db b vals' g→Db b vals g∨w.heap.size≤g)
def Jdf (c:X9) (T:TypeId) (x:c.s.T) (y:ATup c.args):St:=
 let o:=J8 (enc c.s x) 2
 let a:=U3 c.args y (2+o.2.length)
 ⟨2+o.2.length+a.2.length,Joc (.one (.ptr 1 0)::a.1) 0,Joc (.sus [(0, .one (.ptr 1 0))]:: .box T o.1::(o.2.map Hl++a.2)) 0⟩
def Kut (P:Program) (fn:Func) (c:X9) (T:TypeId) (x:c.s.T) (y:ATup c.args) (s:St):Prop:=
 match Yr P s fn.results.toList,look s.rs 0 with
 | some vs, some (.sus [(0, .v false [.ptr i 0])]) => match look s.rs i, H8 (look s.rs) c.ress vs with
  |some (.box T' cs),some r=>match dec (look s.rs) c.s cs with
   |some x'=>if J1d (look s.rs) c.s cs=true∧Hv (Ky cs)=true then Up ((T'=T)::(x'=c.post x y)::Jry c.ress r (c.spec x y)) else False
   |none=>False
  |_,_=>False
 |_,_=>False
def J4q (fn:Func) (c:X9):Bool:=match fn.body with
 |some code=>Yl fn.ntmps code&&Nat.ble (c.args.length+1) fn.ntmps&& !(fn.name== "runtime.NumGoroutine")&& !(hasList c.ress)
 |none=>false
@[irreducible] def wpFO (P:Program) (Γ:Gam) (ann:Nat→Option Ann) (annF:FuncId→Nat→Option Ann) (lib:FuncId→Option Func) (fn:Func) (c:X9) (T:TypeId) (x:c.s.T) (y:ATup c.args):Prop:=
 match fn.body with
 |some code=>J45 (c.pre x y)<|wpG P Γ ann (ilS P Γ annF lib 5) code none (itS P Γ annF (ilS P Γ annF lib 5) lib) (Jdf c T x y) fun e s=>match e with
  | .exit _=>False
  |_=>(s.rs.all fun p=>p.2.soft)=true∧Kut P fn c T x y s
 |none=>False
theorem Jov {rs rs':Nat→Option Res}:∀{s:Sch} {cs:List SC},s.hasList=false→dec rs s cs=dec rs' s cs
 | .int _,_,_=>rfl
 | .bool,_,_=>rfl
 | .str,_,_=>rfl
 | .flt _,_,_=>rfl
 | .fnc,_,_=>rfl
 | .list _ _,_,h=>by cases h
 | .prod a b,cs,h=>by
  simp only[Sch.hasList,Bool.or_eq_false_iff] at h
  simp only[dec]
  rw[Jov (rs':=rs') h.1,Jov (rs':=rs') (s:=b) h.2]
theorem Jh0 [Dr] (P:Program) {rs:Nat→Option Res} {ρ:Env} {M:Nat→Prop} {w:World}:∀{ps:List (Bool×Sch)} {vs:List SV} {y:Tup ps},H8 rs ps vs=some y→hasList ps=false→Lo M w 0 ps [] y (vs.map (SV.den ρ))
 |[],[],_,_,_=>rfl
 |[],_::_,_,h,_=>by simp[H8] at h
 |_::_,[],_,h,_=>by simp[H8] at h
 | p :: r, v :: vs, y, h, hl => by
  simp only[hasList,List.any_cons,Bool.or_eq_false_iff] at hl
  cases v with
  |tup _=>simp[H8] at h
  | v g cs =>
   simp only[H8] at h
   split at h
   ·rename_i e
    subst e
    split at h
    ·rename_i x z hx hz
     cases h
     refine⟨_,_,rfl,⟨cs.map (SC.den ρ),rfl, ?_⟩,Jh0 P hz hl.2⟩
     rw[Jov (rs':=fun _=>none) hl.1] at hx
     exact Ll (P:=P) (M:=M) (R:=M) (B:=0) (fun _ h=>h) hx (fun i y h=>by cases h) (fun i T s' xs g _ h=>by cases h)
    ·cases h
   ·cases h
theorem Jwa [Dr] {P:Program} {c:X9} {x:c.s.T} {y:ATup c.args} {M R:Nat→Prop} {B:Nat} {w:World} {b T:Nat} {cells vals vs:List Value} {N:Nat} (hB:B≤w.heap.size) (hM:∀g,M g∨R g→g<w.heap.size) (hgood:∀w',Below B w w'→Tab P w')
  (hb:w.heap[b]? =some (.cells cells.toArray T (0,0))) (hBb:B≤b) (hMb:¬M b) (hRb:¬R b) (ho:Jpj M R B w c.s x cells vals) (hv:∀u∈vals,blk u≠some b) (h:Xc P M R w c.args y vs) (hN:c.args.length+1≤N):
  Yf P N B ⟨w,M,fun id=>if id=0 then some (.vals fun _=> .pointer (some ⟨b,0,none⟩)) else none,true⟩ R (Jdf c T x y) {tmps:=(Value.pointer (some ⟨b,0,none⟩)::vs).toArray++Array.replicate (N-(Value.pointer (some ⟨b,0,none⟩)::vs).toArray.size) undef,defers:=[]} w:=by
 obtain⟨L,hL⟩:∃L,L=(J8 (enc c.s x) 2).2.length:=⟨_,rfl⟩
 have hvl:vals.length=L:=by rw[ho.len,hL,Zh _ 0 2]
 obtain⟨av,a1,a2,a3,a4,a5⟩:=Jao (2+L) h
 obtain⟨all,hall⟩:∃all:List Value,all= .bool true:: .pointer (some ⟨b,0,none⟩)::(vals++av):=⟨_,rfl⟩
 let ρ:Env:=fun id=>all.getD id undef
 have hρ:∀(i:Nat) (u:Value),all[i]? =some u→ρ i=u:=fun i u hu=>by
  show all.getD i undef=u
  rw[List.getD_eq_getElem?_getD,hu];rfl
 have hρv:∀(i:Nat) (u:Value),vals[i]? =some u→ρ (2+i)=u:=fun i u hu=>hρ _ u (by
  rw[hall,Nat.add_comm 2 i]
  simp only[List.getElem?_cons_succ]
  rw[List.getElem?_append_left (List.getElem?_eq_some_iff.1 hu).1];exact hu)
 have hρa:∀(i:Nat) (u:Value),av[i]? =some u→ρ (2+L+i)=u:=fun i u hu=>hρ _ u (by
  rw[hall,show 2+L+i=L+i+1+1 by omega]
  simp only[List.getElem?_cons_succ]
  rw[List.getElem?_append_right (by omega),hvl,Nat.add_sub_cancel_left];exact hu)
 have h0:ρ 0= .bool true:=hρ 0 _ (by rw[hall];rfl)
 have h1:ρ 1= .pointer (some ⟨b,0,none⟩):=hρ 1 _ (by rw[hall];rfl)
 obtain⟨e1,e2⟩:=a5 ρ hρa
 have ecells:=ho.cells 2 ρ hρv
 have hlen:=L1 h
 have hsl:(Jdf c T x y).sl=Joc (.one (.ptr 1 0)::(U3 c.args y (2+L)).1) 0:=by rw[hL];rfl
 have hrs:(Jdf c T x y).rs=Joc (.sus [(0, .one (.ptr 1 0))]:: .box T (J8 (enc c.s x) 2).1::((J8 (enc c.s x) 2).2.map Hl++(U3 c.args y (2+L)).2)) 0:=by rw[hL];rfl
 have hnx:(Jdf c T x y).nx=2+L+(U3 c.args y (2+L)).2.length:=by rw[hL];rfl
 have hres:∀{r z},look (Jdf c T x y).rs r=some z→(r=0∧z= .sus [(0, .one (.ptr 1 0))])∨(r=1∧z= .box T (J8 (enc c.s x) 2).1)∨(∃i,r=2+i∧i<L∧((J8 (enc c.s x) 2).2.map Hl)[i]? =some z)∨∃i,r=2+L+i∧(U3 c.args y (2+L)).2[i]? =some z:=by
  intro r z hz
  rw[hrs,V2,if_pos (Nat.zero_le _),Nat.sub_zero] at hz
  match r,hz with
  |0,hz=>left;exact⟨rfl,by simpa using hz.symm⟩
  |1,hz=>right;left;exact⟨rfl,by simpa using hz.symm⟩
  | r + 2, hz =>
   right;right
   simp only[List.getElem?_cons_succ] at hz
   by_cases hlt:r<L
   ·rw[List.getElem?_append_left (by rw[List.length_map,←hL];exact hlt)] at hz
    exact .inl ⟨r,by omega,hlt,hz⟩
   ·rw[List.getElem?_append_right (by rw[List.length_map,←hL];omega),List.length_map,←hL] at hz
    exact .inr ⟨r-L,by omega,hz⟩
 have hown:∀(i:Nat) (z:Res),((J8 (enc c.s x) 2).2.map Hl)[i]? =some z→∃v,vals[i]? =some v∧K75 M R B w z v:=fun i z hz=>ho.own i z (by rw[Zh _ 0 2];exact hz)
 refine⟨ρ,M,fun id=>id<(Jdf c T x y).nx,fun id h=>h,⟨?_,⟨fun d hd=>by simp at hd, .nil⟩,fun _=>rfl,fun _ _=>rfl,fun _ _=>rfl,Below.refl _ _,hB, ?_, ?_, ?_, ?_, ?_,hM, ?_,fun b=>⟨fun h=> .inl h,fun h=>h⟩,hgood⟩⟩
 ·simp;omega
 ·intro t sv ht
  rw[hsl,V2,if_pos (Nat.zero_le _),Nat.sub_zero] at ht
  have:(Value.pointer (some ⟨b,0,none⟩)::vs)[t]? =some (sv.den ρ):=by
   have e0:(SV.one (.ptr 1 0)).den ρ= .pointer (some ⟨b,0,none⟩):=by simp[SV.den,Jk,SC.den,h1]
   rw[←e0,←e1,←List.map_cons,List.getElem?_map,ht];rfl
  have hlt:t<(Value.pointer (some ⟨b,0,none⟩)::vs).length:=(List.getElem?_eq_some_iff.1 this).1
  simp only[Array.getD_eq_getD_getElem?,Array.getElem?_append,List.size_toArray,hlt,if_true,List.getElem?_toArray,this,Option.getD_some]
 ·intro t sv ht id hid
  rw[hsl,V2,if_pos (Nat.zero_le _),Nat.sub_zero] at ht
  rw[hnx]
  rcases List.mem_cons.1 (List.mem_of_getElem? ht) with rfl|hm
  ·simp only[SV.ids,Ky,SC.ids,List.flatMap_cons,List.flatMap_nil,List.append_nil,List.mem_singleton] at hid
   omega
  ·have:=a3 sv hm id hid;omega
 ·intro r z hz
  rcases hres hz with⟨rfl,rfl⟩|⟨rfl,rfl⟩|⟨i,rfl,hi,hz2⟩|⟨i,rfl,hz2⟩
  ·refine⟨fun _=> .pointer (some ⟨b,0,none⟩),rfl,fun p hp=> ?_⟩
   have:p=(0, .one (.ptr 1 0)):=by simpa using hp
   subst this
   simp[SV.den,Jk,SC.den,h1]
  ·refine Yn.a ?_
   refine⟨b,h1, ?_,hMb,hRb,hBb⟩
   rw[hb,ecells]
  ·obtain⟨v,v1,_,T',s',xs,flat,rfl,v4,v5,v6⟩:=hown i z hz2
   refine Yn.a ?_
   rw[←hρv i v v1] at v5 v6
   exact⟨flat,v4,v5,v6⟩
  ·exact(e2 i z B hz2).a
 ·intro r z hz
  rw[hnx]
  rcases hres hz with⟨rfl,rfl⟩|⟨rfl,rfl⟩|⟨i,rfl,hi,hz2⟩|⟨i,rfl,hz2⟩
  ·refine⟨by omega,fun id hid=> ?_⟩
   simp only[Res.ids,SV.ids,Ky,SC.ids,List.flatMap_cons,List.flatMap_nil,List.append_nil,List.mem_singleton] at hid
   omega
  ·refine⟨by omega,fun id hid=> ?_⟩
   have:=Jec 2 id hid
   rw[←hL] at this
   omega
  ·obtain⟨v,_,_,T',s',xs,flat,rfl,_⟩:=hown i z hz2
   exact⟨by omega,fun id hid=>by simp[Res.ids] at hid⟩
  ·have hlt:=(List.getElem?_eq_some_iff.1 hz2).1
   exact⟨by omega,fun id hid=>by rw[(a4 z (List.mem_of_getElem? hz2)).2] at hid;simp at hid⟩
 ·intro r r' z z' hne hz hz' hoz hoz' g hg hg'
  have get:∀{r z},look (Jdf c T x y).rs r=some z→z.owning=true→∀g,blk (ρ r)=some g→(r=1∧g=b)∨∃i v,r=2+i∧vals[i]? =some v∧blk v=some g:=by
   intro r z hz hoz g hg
   rcases hres hz with⟨rfl,rfl⟩|⟨rfl,rfl⟩|⟨i,rfl,hi,hz2⟩|⟨i,rfl,hz2⟩
   ·cases hoz
   ·rw[h1] at hg;cases hg;exact .inl ⟨rfl,rfl⟩
   ·obtain⟨v,v1,_⟩:=hown i z hz2
    rw[hρv i v v1] at hg
    exact .inr ⟨i,v,rfl,v1,hg⟩
   ·rw[(a4 z (List.mem_of_getElem? hz2)).1] at hoz;cases hoz
  rcases get hz hoz g hg with⟨r1,g1⟩|⟨i,v,r1,v1,v2⟩<;>rcases get hz' hoz' g hg' with⟨r2,g2⟩|⟨j,u,r2,u1,u2⟩
  ·exact hne (r1.trans r2.symm)
  ·exact hv u (List.mem_of_getElem? u1) (g1▸u2)
  ·exact hv v (List.mem_of_getElem? v1) (g2▸v2)
  ·have hij:i≠j:=fun e=>hne (by rw[r1,r2,e])
   have hp:=List.pairwise_iff_getElem.1 ho.apart
   obtain⟨l1,e1⟩:=List.getElem?_eq_some_iff.1 v1
   obtain⟨l2,e2⟩:=List.getElem?_eq_some_iff.1 u1
   rcases Nat.lt_or_gt_of_ne hij with hlt|hlt
   ·exact hp i j l1 l2 hlt g (by rw[e1];exact v2) (by rw[e2];exact u2)
   ·exact hp j i l2 l1 hlt g (by rw[e2];exact u2) (by rw[e1];exact v2)
 ·intro i hi
  rw[hnx] at hi
  match i,hi with
  |0,_=>rw[h0];rfl
  |1,_=>rw[h1];rfl
  | i + 2, hi =>
   by_cases hlt:i<L
   ·have hz:i<((J8 (enc c.s x) 2).2.map Hl).length:=by rw[List.length_map,←hL];exact hlt
    obtain⟨v,v1,v2,_⟩:=hown i _ (List.getElem?_eq_getElem hz)
    have:=hρv i v v1
    rw[Nat.add_comm] at this
    rw[this];exact v2
   ·have hlt':i-L<av.length:=by rw[a1];omega
    have:=hρa (i-L) _ (List.getElem?_eq_getElem hlt')
    rw[show 2+L+(i-L)=i+2 by omega] at this
    rw[this]
    exact a2 _ (List.getElem_mem hlt')
theorem Ul [Dr] {P:Program} {Γ:Gam} {f:FuncId} {fn:Func} {c:X9} {lib:FuncId→Option Func} (hm:P.follows .mixedOrders=true) (hΓ:Y3 P Γ) (hf:P.funcs[f]? =some fn) (hs:J4q fn c=true)
  (hl:∀f fn,lib f=some fn→P.funcs[f]? =some fn) (ann:c.s.T→ATup c.args→Nat→Option Ann) (annF:c.s.T→ATup c.args→FuncId→Nat→Option Ann) (h:∀(T:TypeId) (x:c.s.T) (y:ATup c.args),(∀T0,c.T? =some T0→T=T0)→wpFO P Γ (ann x y) (annF x y) lib fn c T x y):OkO P f c:=by
 unfold J4q at hs
 cases hb:fn.body with
 |none=>rw[hb] at hs;cases hs
 | some code =>
  rw[hb] at hs
  simp only[Bool.and_eq_true,Bool.not_eq_true',Nat.ble_eq] at hs
  obtain⟨⟨⟨hd,hN⟩,hname⟩,hnl⟩:=hs
  refine⟨⟨fn,hf,by rw[hb];rfl,hname⟩,fun x y M R B w b T cells vals vs hB hMR hgood hbw hBb hMb hRb hT ho hv hpre hargs=> ?_⟩
  have hx:=h T x y hT
  unfold wpFO at hx
  rw[hb] at hx
  have hw:=Jj3 hx hpre
  obtain⟨R0,hR0⟩:∃R0:Nat→Prop,R0=fun g=>g<w.heap.size∧¬Db b vals g:=⟨_,rfl⟩
  have hOb:∀(i:Nat) (z:Res),((J8 (enc c.s x) 0).2.map Hl)[i]? =some z→∀v:Value,vals[i]? =some v→∀g,blk v=some g→¬M g∧¬R g∧B≤g:=by
   intro i z hz v hv' g hg
   obtain⟨v',v1,_,T',s',xs,flat,rfl,v4,v5,v6⟩:=ho.own i z hz
   rw[hv'] at v1;cases v1
   rcases v5.2 with⟨e,_⟩|⟨g',cap,cur,e,hBg,_⟩
   ·rw[e] at hg;cases hg
   ·rw[e] at hg;cases hg
    have:=v6 g' (by rw[e];rfl)
    exact⟨this.1,this.2,hBg⟩
  have hOv:∀u∈vals,∀g,blk u=some g→¬M g∧¬R g∧B≤g:=by
   intro u hu g hg
   obtain⟨i,hi⟩:=List.getElem?_of_mem hu
   have hlt:i<((J8 (enc c.s x) 0).2.map Hl).length:=by rw[List.length_map,←ho.len];exact(List.getElem?_eq_some_iff.1 hi).1
   exact hOb i _ (List.getElem?_eq_getElem hlt) u hi g hg
  have hRR:∀g,R g→R0 g:=fun g hg=>by
   rw[hR0]
   refine⟨hMR g (.inr hg), ?_⟩
   rintro(rfl|⟨u,hu,hgu⟩)
   ·exact hRb hg
   ·exact(hOv u hu g hgu).2.1 hg
  have ho0:Jpj M R0 B w c.s x cells vals:=⟨ho.len,ho.cells,fun i z hz=>by
   obtain⟨v,v1,v2,T',s',xs,flat,rfl,v4,v5,v6⟩:=ho.own i z hz
   refine⟨v,v1,v2,T',s',xs,flat,rfl,v4,v5,fun g hg=>⟨(v6 g hg).1,fun h=> ?_⟩⟩
   rw[hR0] at h
   exact h.2 (.inr ⟨v,List.mem_of_getElem? v1,Jt hg⟩),ho.apart⟩
  have hRb0:¬R0 b:=fun h=>by rw[hR0] at h;exact h.2 (.inl rfl)
  have hM0:∀g,M g∨R0 g→g<w.heap.size:=fun g hg=>hg.elim (fun h=>hMR g (.inl h)) fun h=>by rw[hR0] at h;exact h.1
  refine Zn.1 (callsIn_of_wp_marks (F:=FR none) (n:=0) hf hb trivial (Yw (rd:=none) (N:=fn.ntmps) (B:=B) (w0:=⟨w,M,fun id=>if id=0 then some (.vals fun _=> .pointer (some ⟨b,0,none⟩)) else none,true⟩) (R:=R0) hm hΓ (Jig hm hΓ hl 5) code hd ⟨fun _=>rfl,fun y hy=>by cases hy⟩ (.inr ⟨rfl,rfl,Jqa hm hΓ (Jig hm hΓ hl 5) hl⟩) hw (fun e st' a' w' he hs'=> ?_) _ w
   (Jwa hB hM0 hgood hbw hBb hMb hRb0 ho0 hv (hargs.keep (fun _ h=>h) hRR fun _ _=>rfl) hN)))
  have key:((st'.rs.all fun p=>p.2.soft)=true∧Kut P fn c T x y st')→LeavesInM (FR none) 0 P fn a'.tmps (fun e w'=>∃M' cells' vals' us,e= .returned (Jzp us)∧Lo M' w' 0 c.ress [] (c.spec x y) us∧Below B w w'∧(∀g,M g→M' g)∧(∀g,M' g→g<w'.heap.size)∧
   (∀g,M' g→M g∨(B≤g∧(Db b vals g∨w.heap.size≤g)))∧(∀g,g<w.heap.size→¬Db b vals g→w'.heap[g]? =w.heap[g]?)∧(∀g,M g→w'.heap[g]? =w.heap[g]?)∧
   w'.heap[b]? =some (.cells cells'.toArray T (0,0))∧¬M' b∧Jpj M' R B w' c.s (c.post x y) cells' vals'∧(∀u∈vals',blk u≠some b)∧(∀g,Db b vals' g→Db b vals g∨w.heap.size≤g)) a'.defers .returning w':=by
   rintro⟨hsoft,hr⟩
   obtain⟨ρ,M',al,_,C⟩:=hs'
   obtain⟨w2,M2,C2,hleave⟩:=Lw C (fun r x hx=>List.all_eq_true.1 hsoft _ (Ka hx)) (fun g hg=>hMR g (.inl hg))
   refine hleave fn _ ?_
   unfold Kut at hr
   split at hr
   case h_2=>exact hr.elim
   rename_i rv i hrv hsus
   split at hr
   case h_2=>exact hr.elim
   rename_i T' cs r hbox hy
   split at hr
   case h_2=>exact hr.elim
   rename_i x' hx'
   split at hr
   case isFalse=>exact hr.elim
   rename_i hob
   obtain⟨hT',hpost,hspec⟩:T'=T∧x'=c.post x y∧Up (Jry c.ress r (c.spec x y)):=by
    have h1:=(Hg _ _).1 hr
    have h2:=(Hg _ _).1 h1.2
    exact⟨h1.1,h2.1,h2.2⟩
   have e:=Jd0 hspec
   subst e;subst hT';subst hpost
   obtain⟨bb,k1,k2,k3,k4,k5⟩:=C2.res i _ hbox
   obtain⟨TT,t1,t2⟩:=C2.resA 0 _ hsus
   have t1':some (Jzo.vals fun _=>Value.pointer (some ⟨b,0,none⟩))=some (Jzo.vals TT):=t1
   cases t1'
   have hptr:=t2 (0, .v false [.ptr i 0]) (by simp)
   have e1:(SV.v false [SC.ptr i 0]).den ρ= .pointer (some ⟨bb,0,none⟩):=by simp[SV.den,Jk,SC.den,k1]
   rw[e1] at hptr
   replace hptr:Value.pointer (some ⟨b,0,none⟩)=Value.pointer (some ⟨bb,0,none⟩):=hptr
   obtain rfl:b=bb:=by cases hptr;rfl
   obtain⟨vals',O,hvals⟩:=Jd7 (P:=P) (ρ:=ρ) (M:=M2) (R:=R0) (B:=B) (w:=w2) (rs:=look st'.rs) (fun i T s xs h=>C2.res i _ h) (fun i j x y hne h h'=>C2.apart i j x y hne h h') hx' hob.1 (Lz hob.2)
   have hress:=Jh0 P (M:=M2) (w:=w2) (ρ:=ρ) hy hnl
   have hown:∀v∈vals',∀g,blk v=some g→(B≤g∧¬R0 g)∧g≠b:=fun v hv' g hg=>by
    rcases hvals v hv' with rfl|⟨j,T,s,xs,j1,j2,rfl⟩
    ·cases hg
    ·have:=C2.notM j2 rfl hg
     refine⟨⟨this.2.2.1,this.2.1⟩,fun e=> ?_⟩
     have hne:j≠i:=by rintro rfl;rw[hbox] at j2;cases j2
     exact C2.apart j i _ _ hne j2 hbox rfl rfl g hg (by rw[k1,e];rfl)
   refine⟨_,Zx C2 hrv,M2,cs.map (SC.den ρ),vals',_,rfl,hress,C2.below,fun g hg=>(C2.up g).2 hg,fun g hg=>C2.old g (.inl hg),fun g hg=> ?_,fun g hg hn=>C2.stayR g (by rw[hR0];exact⟨hg,hn⟩),fun g hg=>C2.stay g hg,k2,k3,⟨O.len,O.cells,fun i z hz=> ?_,O.apart⟩,fun u hu hg=>(hown u hu _ hg).2 rfl, ?_⟩
   ·rcases(C2.up g).1 hg with h|⟨h1,h2⟩
    ·exact .inl h
    ·refine .inr ⟨h1, ?_⟩
     rw[hR0] at h2
     by_cases hlt:g<w.heap.size
     ·exact .inl (Classical.not_not.1 fun hn=>h2 ⟨hlt,hn⟩)
     ·exact .inr (Nat.le_of_not_lt hlt)
   ·obtain⟨v,v1,v2,T',s',xs,flat,rfl,v4,v5,v6⟩:=O.own i z hz
    exact⟨v,v1,v2,T',s',xs,flat,rfl,v4,v5,fun g hg=>⟨(v6 g hg).1,fun h=>(v6 g hg).2 (hRR g h)⟩⟩
   ·rintro g (rfl|⟨u,hu,hg⟩)
    ·exact .inl (.inl rfl)
    ·have h2:=(hown u hu g hg).1.2
     rw[hR0] at h2
     by_cases hlt:g<w.heap.size
     ·exact .inl (Classical.not_not.1 fun hn=>h2 ⟨hlt,hn⟩)
     ·exact .inr (Nat.le_of_not_lt hlt)
  cases e with
  |normal=>exact key he
  |exit i=>exact he.elim
  |ret=>exact key he
def Jwh (rs:Nat→Option Res) (id:Nat):Option Res:=match rs id with
 |some (.box _ _)=>none
 |x=>x
def okT (T? :Option TypeId) (T:TypeId):Bool:=match T? with
 |some T0=>Nat.beq T T0
 |none=>true
def Kyg (c : X9) (rs : Nat → Option Res) (n : Nat) (args : List SV) : Option Out := match args with
 | .v false [.ptr i 0] :: l => match rs i with
  | some (.box T cs) => match dec rs c.s cs, Jdn (Jwh rs) c.args l with
   | some x, some y =>
    if(J1d rs c.s cs&&Hv (Ky cs)&& !(hasList c.ress)&&okT c.T? T&&l.all (fun v=>v.ids.all fun id=> !((Ky cs).contains id)&& !(Nat.beq id i)))=true then
     let r:=J8 (enc c.s (c.post x y)) n
     some ⟨c.pre x y,Fg (Js (Kf c.ress (c.spec x y)) [] n).1,r.2.map Hl,((i,some (.box T r.1))::(Ky cs).map fun j=>(j,none))++Yy rs [] l⟩
    else none
   |_,_=>none
  |_=>none
 |_=>none
def X9.con (c:X9):Con:={args:=[],ress:=[],owns:=[],pre:=fun _=>[False],spec:=fun _=>(),prim:=some (Kyg c)}
theorem Jl6 {α:Type}:∀(l l':List (Nat×α)) (i:Nat),look (l++l') i=match look l i with|some x=>some x|none=>look l' i
 |[],_,_=>rfl
 |(j,v)::l,l',i=>by
  simp only[List.cons_append,look]
  by_cases e:j=i
  ·simp[e]
  ·rw[if_neg e,if_neg e];exact Jl6 l l' i
theorem Jl5:∀{l:List Nat} {i:Nat},look (l.map fun j=>(j,(none:Option Res))) i=if i∈l then some none else none
 |[],_=>rfl
 | j :: l, i => by
  simp only[List.map_cons,look]
  by_cases e:j=i
  ·subst e;simp
  ·rw[if_neg e,Jl5]
   have:i≠j:=fun h=>e h.symm
   simp[this]
theorem D8 {rs:Nat→Option Res}:∀{cs:List SC} {i:Nat} {y:Option Res},(i,y)∈freeze rs cs→i∈Ky cs
 |[],_,_,h=>by simp[Sx.freeze] at h
 | c :: r, i, y, h => by
  cases c with
  | sl j =>
   simp only[Sx.freeze] at h
   simp only[Ky,List.flatMap_cons,SC.ids,List.mem_append,List.mem_singleton]
   split at h
   ·rcases List.mem_cons.1 h with h|h
    ·cases h;exact .inl rfl
    ·exact .inr (D8 h)
   ·exact .inr (D8 h)
  |_=>
   simp only[Ky,List.flatMap_cons,List.mem_append]
   exact .inr (D8 (cs:=r) h)
theorem Jh8:∀(vs:List SV),Fr [] vs=vs
 |[]=>rfl
 |_::_=>rfl
theorem Jr7 {rs:Nat→Option Res} {l:List SV} {i:Nat} (h:look (Yy rs [] l) i≠none):∃v∈l,i∈v.ids:=by
 obtain⟨y,hy⟩:=Option.ne_none_iff_exists'.1 h
 obtain⟨v,hv,hm⟩:=List.mem_flatMap.1 (Ka hy)
 rw[Jh8] at hv
 cases v with
 |tup _=>simp at hm
 |v g cs=>exact⟨_,hv,D8 hm⟩
theorem Jsh [Dr] {P:Program} {f:FuncId} {c:X9} (hO:OkO P f c):Jrm P f (Kyg c):=by
 intro N B w0 al τ σ a w ρ M R n d rs args out C hd hrs hop hpre hfresh
 obtain⟨_,hO⟩:=hO
 unfold Kyg at hop
 split at hop
 case h_2=>cases hop
 rename_i i l
 split at hop
 case h_2=>cases hop
 rename_i T cs hbox
 split at hop
 case h_2=>cases hop
 rename_i x y hx hy
 split at hop
 case isFalse=>cases hop
 rename_i hc
 cases hop
 simp only[Bool.and_eq_true,Bool.not_eq_true',List.all_eq_true] at hc
 obtain⟨⟨⟨⟨hob,hdist⟩,hnl⟩,hT⟩,hids⟩:=hc
 have hidl:∀v∈l,∀id∈v.ids,id∉Ky cs∧id≠i:=fun v hv id hid=>by
  have:=hids v hv id hid
  refine⟨fun h=> ?_,fun e=> ?_⟩
  ·have h1:=this.1
   simp[h] at h1
  ·have h2:=this.2
   rw[e] at h2
   simp at h2
 simp only[List.length_map] at hfresh
 have hσi:σ i=some (.box T cs):=hrs _ _ hbox
 obtain⟨b,b1,b2,b3,b4,b5⟩:=C.res i _ hσi
 have hUok:∀j y,look (Yy rs [] l) j=some y→∃T s xs,σ j=some (.own T s xs)∧y=some (.imm T s xs):=fun j y h=>by
  obtain⟨T,s,xs,h1,h2⟩:=Jez h
  exact⟨T,s,xs,hrs _ _ h1,h2⟩
 have hUno:∀j,j∈Ky cs∨j=i→look (Yy rs [] l) j=none:=fun j hj=>by
  cases h:look (Yy rs [] l) j with
  |none=>rfl
  |some z=>
   obtain⟨v,hv,hid⟩:=Jr7 (by rw[h];simp:look (Yy rs [] l) j≠none)
   have:=hidl v hv j hid
   exact absurd hj (fun h=>h.elim this.1 this.2)
 have C1:=C.freeze n hUok
 obtain⟨M1,hM1⟩:∃M1:Nat→Prop,M1=fun b=>M b∨∃i y T s xs,look (Yy rs [] l) i=some y∧σ i=some (.own T s xs)∧(ρ i).ownBlock=some b:=⟨_,rfl⟩
 rw[←hM1] at C1
 have hσ1:∀j,j∈Ky cs∨j=i→U0 σ n [] (Yy rs [] l) j=σ j:=fun j hj=>by
  unfold U0
  rw[if_neg (by simp<;>omega),hUno j hj]
 have hσ1i:=(hσ1 i (.inr rfl)).trans hσi
 obtain⟨vals,O,hvals⟩:=Jd7 (P:=P) (ρ:=ρ) (M:=M) (R:=R) (B:=B) (w:=w) (rs:=rs) (fun i T s xs h=>C.res i _ (hrs _ _ h)) (fun i j x y hne h h'=>C.apart i j x y hne (hrs _ _ h) (hrs _ _ h')) hx hob (Lz hdist)
 have hvj:∀v∈vals,∀g,blk v=some g→∃j T s xs,j∈Ky cs∧σ j=some (.own T s xs)∧U0 σ n [] (Yy rs [] l) j=some (.own T s xs)∧blk (ρ j)=some g:=fun v hv g hg=>by
  rcases hvals v hv with rfl|⟨j,T,s,xs,j1,j2,rfl⟩
  ·cases hg
  ·exact⟨j,T,s,xs,j1,hrs _ _ j2,(hσ1 j (.inl j1)).trans (hrs _ _ j2),hg⟩
 have hvM:∀v∈vals,∀g,blk v=some g→¬M1 g∧¬R g∧B≤g∧g<w.heap.size∧g≠b:=fun v hv g hg=>by
  obtain⟨j,T',s,xs,_,j2,j3,j4⟩:=hvj v hv g hg
  have h1:=C1.notM j3 rfl j4
  refine⟨h1.1,h1.2.1,h1.2.2.1,h1.2.2.2,fun e=> ?_⟩
  have hne:j≠i:=by rintro rfl;rw[hσi] at j2;cases j2
  exact C.apart j i _ _ hne j2 hσi rfl rfl g j4 (by rw[b1,e];rfl)
 have hMM:∀g,M g→M1 g:=fun g h=>by rw[hM1];exact .inl h
 have O1:Jpj M1 R B w c.s x (cs.map (SC.den ρ)) vals:=⟨O.len,O.cells,fun k z hz=>by
  obtain⟨v,v1,v2,T',s',xs,flat,rfl,v4,v5,v6⟩:=O.own k z hz
  exact⟨v,v1,v2,T',s',xs,flat,rfl,v4.imp fun _ _ h=>h.keep fun b hb=>⟨hMM b hb,rfl⟩,v5,fun g hg=>⟨(hvM v (List.mem_of_getElem? v1) g (Jt hg)).1,(v6 g hg).2⟩⟩,O.apart⟩
 obtain⟨bb,c1,c2,c3,c4,c5⟩:=C1.res i _ hσ1i
 obtain rfl:b=bb:=by rw[b1] at c1;cases c1;rfl
 have V:Jzh P ρ B M R w (Jwh rs) M1 R (fun i=>∀T s xs,rs i=some (.own T s xs)→(look (Yy rs [] l) i).isSome=true):=by
  have hh:∀j z,Jwh rs j=some z→rs j=some z∧∀T cs,z≠ .box T cs:=fun j z h=>by
   unfold Jwh at h
   split at h
   ·cases h
   ·rename_i hnb
    exact⟨h,fun T cs e=>hnb T cs (by rw[h,e])⟩
  refine⟨fun j z h=>C.res j z (hrs _ _ (hh j z h).1),hMM,fun _ h=>h,fun j T s xs g hF hr hg=> ?_,fun j T cs b hr hb=>((hh j _ hr).2 T cs rfl).elim,C1.old⟩
  have hr':=(hh j _ hr).1
  obtain⟨z,hz⟩:=Option.isSome_iff_exists.1 (hF T s xs hr')
  rw[hM1]
  exact .inr ⟨j,z,T,s,xs,hz,hrs _ _ hr',hg⟩
 have hargs:Xc P M1 R w c.args y (l.map (SV.den ρ)):=Jgj V hy fun v hv=>by
  cases v with
  |tup _=>trivial
  | v g cs' =>
   refine⟨fun j hj T s xs hr=> ?_,fun j off T cs'' hj hr=> ?_⟩
   ·refine Uu (f:=fun v:SV=>match v with
     | .v _ cs=>freeze rs cs
     |_=>[]) (b:= .v g cs') (by rw[Jh8];exact hv) ?_
    exact V3 hj hr
   ·unfold Jwh at hr
    split at hr
    ·cases hr
    ·rename_i hnb
     exact(hnb T cs'' hr).elim
 have hcalls:=hO x y M1 R B w b T (cs.map (SC.den ρ)) vals (l.map (SV.den ρ)) C.base C1.old (fun w' h=>C.good w' (C.below.trans h)) b2 b5 c3 b4 (fun T0 h0=>by
  unfold okT at hT
  rw[h0] at hT
  simpa[Nat.beq_eq] using hT) O1 (fun u hu hb=>(hvM u hu b hb).2.2.2.2 rfl) hpre hargs
 have e0:(SV.v false [SC.ptr i 0]).den ρ= .pointer (some ⟨b,0,none⟩):=by simp[SV.den,Jk,SC.den,b1]
 refine⟨_,(by rw[List.map_cons,e0];exact hcalls), ?_⟩
 ·rintro e w' ⟨M',cells',vals',us,rfl,hress,hbel,hsub,hlt,hup,hfr,hstay,hb',hMb',O',hvb',hblk'⟩
  obtain⟨vs0,r1,r2,_,r4,_⟩:=Jjl (n:=n) hress (by cases c.ress<;>rfl)
  have hnil:=Jb7 (c.spec x y) [] n hnl
  rw[hnil] at r1 r4
  have hv0:vs0=[]:=List.eq_nil_of_length_eq_zero r1
  subst hv0
  have e1:=r2 (K2 ρ n vals') (fun i u hu=>by simp at hu)
  have hlen:vals'.length=(J8 (enc c.s (c.post x y)) n).2.length:=by rw[O'.len,Zh _ 0 n]
  have hnO:∀g,Db b vals g→¬R g∧B≤g∧g<w.heap.size:=by
   rintro g (rfl|⟨u,hu,hg⟩)
   ·exact⟨b4,b5,(Array.getElem?_eq_some_iff.1 b2).1⟩
   ·exact⟨(hvM u hu g hg).2.1,(hvM u hu g hg).2.2.1,(hvM u hu g hg).2.2.2.1⟩
  have hother:∀r z,r≠i→r∉Ky cs→U0 σ n [] (Yy rs [] l) r=some z→z.owning=true→∀g,blk (ρ r)=some g→¬Db b vals g∧g<w.heap.size∧¬M1 g:=by
   intro r z hri hrc hz hoz g hg
   have h1:=C1.notM hz hoz hg
   refine⟨?_,h1.2.2.2,h1.1⟩
   rintro(rfl|⟨u,hu,hgu⟩)
   ·exact C1.apart r i _ _ hri hz hσ1i hoz rfl g hg (by rw[b1];rfl)
   ·obtain⟨j,T',s,xs,j1,_,j3,j4⟩:=hvj u hu g hgu
    exact C1.apart r j _ _ (fun e=>hrc (e▸j1)) hz j3 hoz rfl g hg j4
  have hupd2:∀r,look ((i,some (Res.box T (J8 (enc c.s (c.post x y)) n).1))::(Ky cs).map fun j=>(j,(none:Option Res))) r=if r=i then some (some (Res.box T (J8 (enc c.s (c.post x y)) n).1)) else if r∈Ky cs then some none else none:=fun r=>by
   simp only[look]
   by_cases e:i=r
   ·rw[if_pos e,if_pos e.symm]
   ·rw[if_neg e,if_neg (fun h=>e h.symm),Jl5]
  have hnewv:∀r,n≤r∧r<n+(J8 (enc c.s (c.post x y)) n).2.length→∀z,((J8 (enc c.s (c.post x y)) n).2.map Hl)[r-n]? =some z→∃v,vals'[r-n]? =some v∧K2 ρ n vals' r=v∧K75 M' R B w' z v:=fun r hr z hz=>by
   rw[Zh _ n 0] at hz
   obtain⟨v,v1,v2⟩:=O'.own _ z hz
   have:=Un (ρ:=ρ) (n:=n) v1
   rw[show n+(r-n)=r by omega] at this
   exact⟨v,v1,this,v2⟩
  have hal1:∀id,al id→K2 ρ n vals' id=ρ id:=fun id h=>Ua (by rw[hlen];exact hfresh id h)
  have hii:al i:=(C.resIds i _ hσi).1
  have key:=C1.step (d:=d) (n:=n) (news:=(J8 (enc c.s (c.post x y)) n).2.map Hl) (upd:=(i,some (.box T (J8 (enc c.s (c.post x y)) n).1))::(Ky cs).map fun j=>(j,none)) (v:=Fg (Js (Kf c.ress (c.spec x y)) [] n).1) (u:=Jzp us) (ρ':=K2 ρ n vals') (w':=w') (M':=M')
   hd (fun id h=>by rw[List.length_map];exact hfresh id h) (fun id h=>Ua (by rw[hlen];simpa using h)) (by rw[Je1,←e1]) (fun id hid=>by
    obtain⟨p,hp,hid⟩:=Je0 hid
    have:=r4 p hp id hid
    simp at this;omega) hbel hbel.size hsub hlt (fun g hg=>by
     rcases hg with hg|hg
     ·exact hstay g hg
     ·exact hfr g (C.old g (.inr hg)) fun h=>(hnO g h).1 hg)
   (fun r z _ hlk hz hoz g hg=>by
    rw[hupd2] at hlk
    have hri:r≠i:=fun e=>by rw[if_pos e] at hlk;cases hlk
    have hrc:r∉Ky cs:=fun e=>by rw[if_neg hri,if_pos e] at hlk;cases hlk
    obtain⟨h1,h2,h3⟩:=hother r z hri hrc hz hoz g hg
    refine⟨hfr g h2 h1,fun h=> ?_⟩
    rcases hup g h with h|⟨_,h|h⟩
    ·exact h3 h
    ·exact h1 h
    ·omega)
   ?_ ?_ ?_ (fun g hg=>by
    rcases hup g hg with h|⟨h1,h|h⟩
    ·exact .inl h
    ·exact .inr ⟨h1,(hnO g h).1⟩
    ·refine .inr ⟨h1,fun hR=> ?_⟩
     have:=C.old g (.inr hR);omega)
  ·refine⟨_,K2 ρ n vals',M',rfl, ?_⟩
   have e:U0 (U0 σ n [] (Yy rs [] l)) n ((J8 (enc c.s (c.post x y)) n).2.map Hl) ((i,some (.box T (J8 (enc c.s (c.post x y)) n).1))::(Ky cs).map fun j=>(j,none))=U0 σ n ((J8 (enc c.s (c.post x y)) n).2.map Hl) (((i,some (.box T (J8 (enc c.s (c.post x y)) n).1))::(Ky cs).map fun j=>(j,none))++Yy rs [] l):=by
    funext id
    unfold U0
    split
    ·rfl
    ·rw[Jl6]
     cases look ((i,some (Res.box T (J8 (enc c.s (c.post x y)) n).1))::(Ky cs).map fun j=>(j,(none:Option Res))) id with
     |some z=>rfl
     |none=>simp only;rw[if_neg (by simp<;>omega)]
   rw[e] at key
   exact key
  ·rintro r z hz (h|h)
   ·rw[V8 h] at hz
    rw[List.length_map] at h
    obtain⟨v,v1,v2,v3,T',s',xs,flat,rfl,v4,v5,v6⟩:=hnewv r h z hz
    refine⟨⟨flat,v4,by rw[v2];exact v5,fun g hg=>v6 g (by rw[v2] at hg;exact hg)⟩, .inr (by rw[List.length_map];exact h),fun id hid=>by simp[Res.ids] at hid⟩
   ·rw[hupd2] at h
    by_cases hri:r=i
    ·subst hri
     have hnn:=hfresh r hii
     unfold U0 at hz
     rw[if_neg (by rw[List.length_map];exact hnn),hupd2,if_pos rfl] at hz
     cases hz
     refine⟨⟨b,(hal1 r hii).trans b1, ?_,hMb',b4,b5⟩, .inl hii,fun id hid=> .inr ?_⟩
     ·rw[hb',O'.cells n (K2 ρ n vals') fun i u hu=>Un hu]
     ·rw[List.length_map]
      exact Jec n id hid
    ·rw[if_neg hri] at h
     by_cases hrc:r∈Ky cs
     ·have hnn:=hfresh r ((C.resIds i _ hσi).2 r hrc)
      unfold U0 at hz
      rw[if_neg (by rw[List.length_map];exact hnn),hupd2,if_neg hri,if_pos hrc] at hz
      cases hz
     ·rw[if_neg hrc] at h;exact(h rfl).elim
  ·intro id h
   rw[List.length_map] at h
   have hlt':id-n<((J8 (enc c.s (c.post x y)) n).2.map Hl).length:=by rw[List.length_map];omega
   obtain⟨v,v1,v2,v3,_⟩:=hnewv id h _ (List.getElem?_eq_getElem hlt')
   rw[v2];exact v3
  ·-- apart
   have get:∀{r z},U0 (U0 σ n [] (Yy rs [] l)) n ((J8 (enc c.s (c.post x y)) n).2.map Hl) ((i,some (.box T (J8 (enc c.s (c.post x y)) n).1))::(Ky cs).map fun j=>(j,none)) r=some z→z.owning=true→∀g,blk (K2 ρ n vals' r)=some g→
     (∃k v,r=n+k∧vals'[k]? =some v∧blk v=some g)∨(r=i∧g=b)∨(r≠i∧U0 σ n [] (Yy rs [] l) r=some z∧blk (ρ r)=some g∧¬Db b vals g∧g<w.heap.size):=by
    intro r z hz hoz g hg
    by_cases h:n≤r∧r<n+(J8 (enc c.s (c.post x y)) n).2.length
    ·rw[V8 (by rw[List.length_map];exact h)] at hz
     obtain⟨v,v1,v2,_⟩:=hnewv r h z hz
     rw[v2] at hg
     exact .inl ⟨r-n,v,by omega,v1,hg⟩
    ·unfold U0 at hz
     rw[if_neg (by rw[List.length_map];exact h),hupd2] at hz
     by_cases hri:r=i
     ·rw[hri,hal1 i hii,b1] at hg
      cases hg
      exact .inr (.inl ⟨hri,rfl⟩)
     ·rw[if_neg hri] at hz
      by_cases hrc:r∈Ky cs
      ·rw[if_pos hrc] at hz;cases hz
      ·rw[if_neg hrc] at hz
       have hz':U0 σ n [] (Yy rs [] l) r=some z:=hz
       rw[hal1 r (C1.resIds r z hz').1] at hg
       have:=hother r z hri hrc hz' hoz g hg
       exact .inr (.inr ⟨hri,hz',hg,this.1,this.2.1⟩)
   intro r r' z z' hne hz hz' hoz hoz' _ g hg hg'
   rcases get hz hoz g hg with⟨k,v,k1,k2,k3⟩|⟨k1,k2⟩|⟨k1,k2,k3,k4,k5⟩<;>rcases get hz' hoz' g hg' with⟨m,u,m1,m2,m3⟩|⟨m1,m2⟩|⟨m1,m2,m3,m4,m5⟩
   ·have hkm:k≠m:=fun e=>hne (by rw[k1,m1,e])
    have hp:=List.pairwise_iff_getElem.1 O'.apart
    obtain⟨l1,e1⟩:=List.getElem?_eq_some_iff.1 k2
    obtain⟨l2,e2⟩:=List.getElem?_eq_some_iff.1 m2
    rcases Nat.lt_or_gt_of_ne hkm with hlt|hlt
    ·exact hp k m l1 l2 hlt g (by rw[e1];exact k3) (by rw[e2];exact m3)
    ·exact hp m k l2 l1 hlt g (by rw[e2];exact m3) (by rw[e1];exact k3)
   ·exact hvb' v (List.mem_of_getElem? k2) (m2▸k3)
   ·rcases hblk' g (.inr ⟨v,List.mem_of_getElem? k2,k3⟩) with h|h
    ·exact m4 h
    ·omega
   ·exact hvb' u (List.mem_of_getElem? m2) (k2▸m3)
   ·exact hne (k1.trans m1.symm)
   ·exact m4 (.inl k2)
   ·rcases hblk' g (.inr ⟨u,List.mem_of_getElem? m2,m3⟩) with h|h
    ·exact k4 h
    ·omega
   ·exact k4 (.inl m2)
   ·exact C1.apart r r' z z' hne k2 m2 hoz hoz' g k3 m3
theorem Zd [Dr] {P:Program} {f:FuncId} {c:X9} (hO:OkO P f c):Ok P f c.con:=
 ⟨hO.1,fun z h=>(by cases h),fun F h=>(by cases h;exact Jsh hO),fun _ x M R w vs _ _ h=>(h:False).elim⟩
structure Jm7 where
 kT:TypeId
 gk:Bool
 gv:Bool
 ks:Sch
 vs:Sch
 l:List (ks.T×vs.T)
def OkM [Dr] (P:Program) (f:FuncId) (c:Jm7):Prop:=
 Dc P f∧∀(M R:Nat→Prop) (w:World),(∀b,M b∨R b→b<w.heap.size)→Good P w→
  Calls P f #[] w fun e w'=>∃M' u,e= .returned u∧Below w.heap.size w w'∧(∀b,M b→M' b)∧(∀b,M' b→M b∨(w.heap.size≤b∧b<w'.heap.size))∧
   Jhm P c.kT c.gk c.gv c.ks c.vs∧∃b es,u= .map (some b)∧w'.heap[b]? =some (.map es c.l.length)∧Ud M' w' c.gk c.gv c.ks c.vs c.l 0 es.toList∧¬M' b∧w.heap.size≤b
def Kuu (P:Program) (fn:Func) (c:Jm7) (s:St):Prop:=
 match Yr P s fn.results.toList with
 |some [.v false [.sl i]]=>match look s.rs i with
  |some (.mp kT gk gv ks vs l)=>if h:(ks=c.ks∧vs=c.vs)∧kT=c.kT∧gk=c.gk∧gv=c.gv then Kif h.1.1 h.1.2 l=c.l else False
  |_=>False
 |_=>False
@[irreducible] def wpFM (P:Program) (Γ:Gam) (ann:Nat→Option Ann) (annF:FuncId→Nat→Option Ann) (lib:FuncId→Option Func) (fn:Func) (c:Jm7):Prop:=
 match fn.body with
 |some code=>wpG P Γ ann (ilS P Γ annF lib 5) code none (itS P Γ annF (ilS P Γ annF lib 5) lib) ⟨0,[],[]⟩ fun e s=>match e with
  | .exit _=>False
  |_=>(s.rs.all fun p=>p.2.soft)=true∧Kuu P fn c s
 |none=>False
def J4r (fn:Func):Bool:=match fn.body with
 |some code=>Yl fn.ntmps code&& !(fn.name== "runtime.NumGoroutine")
 |none=>false
theorem Jlz [Dr] {P:Program} {Γ:Gam} {f:FuncId} {fn:Func} {c:Jm7} {lib:FuncId→Option Func} (hm:P.follows .mixedOrders=true) (hΓ:Y3 P Γ) (hf:P.funcs[f]? =some fn) (hs:J4r fn=true)
  (hl:∀f fn,lib f=some fn→P.funcs[f]? =some fn) (ann:Nat→Option Ann) (annF:FuncId→Nat→Option Ann) (h:wpFM P Γ ann annF lib fn c):OkM P f c:=by
 unfold J4r at hs
 cases hb:fn.body with
 |none=>rw[hb] at hs;cases hs
 | some code =>
  rw[hb] at hs
  simp only[Bool.and_eq_true,Bool.not_eq_true'] at hs
  obtain⟨hd,hname⟩:=hs
  refine⟨⟨fn,hf,by rw[hb];rfl,hname⟩,fun M R w hMR hgood=> ?_⟩
  unfold wpFM at h
  rw[hb] at h
  refine Zn.1 (callsIn_of_wp_marks (F:=FR none) (n:=0) hf hb trivial (Yw (rd:=none) (N:=fn.ntmps) (B:=w.heap.size) (w0:=⟨w,M,fun _=>none,true⟩) (R:=R) hm hΓ (Jig hm hΓ hl 5) code hd ⟨fun _=>rfl,fun y hy=>by cases hy⟩ (.inr ⟨rfl,rfl,Jqa hm hΓ (Jig hm hΓ hl 5) hl⟩) h (fun e st' a' w' he hs'=> ?_) _ w
   ⟨fun _=>undef,M,fun _=>False,fun id h=>h.elim,⟨by simp,⟨fun d hd=>by simp at hd, .nil⟩,fun _=>rfl,fun _ _=>rfl,fun _ _=>rfl,Below.refl _ _,Nat.le_refl _,fun t v ht=>(by cases ht),fun t v ht=>(by cases ht),fun r x hx=>(by cases hx),fun r x hx=>(by cases hx),fun r r' x x' _ hx=>(by cases hx),hMR,fun i h=>h.elim,fun b=>⟨fun h=> .inl h,fun h=>h⟩,hgood⟩⟩))
  have key:((st'.rs.all fun p=>p.2.soft)=true∧Kuu P fn c st')→LeavesInM (FR none) 0 P fn a'.tmps (fun e w'=>∃M' u,e= .returned u∧Below w.heap.size w w'∧(∀b,M b→M' b)∧(∀b,M' b→M b∨(w.heap.size≤b∧b<w'.heap.size))∧
   Jhm P c.kT c.gk c.gv c.ks c.vs∧∃b es,u= .map (some b)∧w'.heap[b]? =some (.map es c.l.length)∧Ud M' w' c.gk c.gv c.ks c.vs c.l 0 es.toList∧¬M' b∧w.heap.size≤b) a'.defers .returning w':=by
   rintro⟨hsoft,hr⟩
   obtain⟨ρ,M',al,_,C⟩:=hs'
   obtain⟨w2,M2,C2,hleave⟩:=Lw C (fun r x hx=>List.all_eq_true.1 hsoft _ (Ka hx)) (fun g hg=>hMR g (.inl hg))
   refine hleave fn _ ?_
   unfold Kuu at hr
   split at hr
   case h_2=>exact hr.elim
   rename_i i hrv
   split at hr
   case h_2=>exact hr.elim
   rename_i kT gk gv ks vs l hi
   split at hr
   case isFalse=>exact hr.elim
   rename_i hc
   obtain⟨ckT,cgk,cgv,cks,cvs,cl⟩:=c
   obtain⟨⟨e1,e2⟩,e3,e4,e5⟩:=hc
   dsimp only at e1 e2 e3 e4 e5
   subst e1;subst e2;subst e3;subst e4;subst e5
   have hr:l=cl:=hr
   subst hr
   obtain⟨h0,b,es,h1,h2,h3,h4,h5,h6⟩:=C2.res i _ hi
   refine⟨_,Zx C2 hrv,M2,_,rfl,C2.below,fun g hg=>(C2.up g).2 hg,fun g hg=> ?_,h0,b,es, ?_,h2,h3,h4,h6⟩
   ·rcases(C2.up g).1 hg with h|h
    ·exact .inl h
    ·exact .inr ⟨h.1,C2.old g (.inl hg)⟩
   ·show(SC.sl i).den ρ=_
    exact h1
  cases e with
  |normal=>exact key he
  |exit i=>exact he.elim
  |ret=>exact key he
def Kyk (c:Jm7) (_:Nat→Option Res) (n:Nat) (args:List SV):Option Out:=match args with
 |[]=>some ⟨[], .one (.sl n),[.mp c.kT c.gk c.gv c.ks c.vs c.l],[]⟩
 |_=>none
def Jm7.con (c:Jm7):Con:={args:=[],ress:=[],owns:=[],pre:=fun _=>[False],spec:=fun _=>(),prim:=some (Kyk c)}
theorem Jsi [Dr] {P:Program} {f:FuncId} {c:Jm7} (hO:OkM P f c):Jrm P f (Kyk c):=by
 intro N B w0 al τ σ a w ρ M R n d rs args out C hd hrs hop hpre hfresh
 obtain⟨_,hO⟩:=hO
 unfold Kyk at hop
 split at hop
 case h_2=>cases hop
 cases hop
 refine⟨_,hO M R w C.old C.goodNow, ?_⟩
 rintro e w' ⟨M',u,rfl,hb,m1,m2,h0,b,es,rfl,h2,h3,h4,h6⟩
 have hold:∀b,b<w.heap.size→w'.heap[b]? =w.heap[b]? :=fun b h=>hb.block b h
 have en:K2 ρ n [Value.map (some b)] n= .map (some b):=Un (i:=0) rfl
 have hRb:¬R b:=fun h=>by have:=C.old b (.inr h);omega
 refine⟨_,K2 ρ n [.map (some b)],M',rfl, ?_⟩
 refine C.step hd (fun id h=>hfresh id h) (fun id h=>Ua (by simpa using h)) (by show _=Jk false [K2 ρ n [Value.map (some b)] n];rw[en];rfl) (fun id hid=> ?_) (hb.mono C.base) hb.size m1 (fun g hg=> ?_) (fun g hg=>hold g (C.old g hg)) ?_ ?_ ?_ ?_ (fun g hg=>(m2 g hg).imp id fun h=>⟨Nat.le_trans C.base h.1,fun hR=>by have:=C.old g (.inr hR);omega⟩)
 ·have:id=n:=by simpa[SV.ids,Ky,SC.ids] using hid
  exact .inr ⟨by omega,by simp;omega⟩
 ·rcases m2 g hg with h|h
  ·exact Nat.lt_of_lt_of_le (C.old g (.inl h)) hb.size
  ·exact h.2
 ·intro r x _ _ hx ho g hg
  obtain⟨h5,_,_,h6'⟩:=C.notM hx ho hg
  refine⟨hold g h6',fun h=> ?_⟩
  rcases m2 g h with h|h
  ·exact h5 h
  ·omega
 ·rintro r x hx (h|h)
  ·have er:r=n:=by simp at h;omega
   subst er
   rw[V8 h] at hx
   simp at hx
   subst hx
   exact⟨⟨h0,b,es,en,h2,h3,h4,hRb,Nat.le_trans C.base h6⟩, .inr h,fun id hid=>by simp[Res.ids] at hid⟩
  ·exact absurd rfl h
 ·intro id h
  have er:id=n:=by simp at h;omega
  subst er
  rw[en];rfl
 ·rintro r r' x x' hne hx hx' ho ho' (h|h) g hg hg'
  ·have er:r=n:=by simp at h;omega
   subst er
   rw[en] at hg
   cases hg
   unfold U0 at hx'
   rw[if_neg (by simp;omega)] at hx'
   simp only[look] at hx'
   rw[Ua (by simp;omega)] at hg'
   have:=(C.notM hx' ho' hg').2.2.2
   omega
  ·exact absurd rfl h
theorem J4y [Dr] {P:Program} {f:FuncId} {c:Jm7} (hO:OkM P f c):Ok P f c.con:=
 ⟨hO.1,fun z h=>(by cases h),fun F h=>(by cases h;exact Jsi hO),fun _ x M R w vs _ _ h=>(h:False).elim⟩
end Go.Sx
namespace Go.Sx
open Go.RowKit
structure Knw where
 T:TypeId
 s:Sch
 pre:ByteArray→List Prop
 post:ByteArray→s.T
def Kh7 (x:ByteArray):St:=⟨0,[(0, .one (.str x))],[]⟩
def Ubg (P:Program) (fn:Func) (c:Knw) (x:ByteArray) (s:St):Prop:=
 match Yr P s fn.results.toList with
 | some [.v false [.ptr i 0], .v false [.int .i64 e]] => match look s.rs i with
  |some (.box T' cs)=>match dec (look s.rs) c.s cs with
   |some x'=>if J1d (look s.rs) c.s cs=true∧Hv (Ky cs)=true then Up [T'=c.T,e=0,x'=c.post x] else False
   |none=>False
  |_=>False
 |_=>False
@[irreducible] def wpFN (P:Program) (Γ:Gam) (ann:Nat→Option Ann) (annF:FuncId→Nat→Option Ann) (lib:FuncId→Option Func) (fn:Func) (c:Knw) (x:ByteArray):Prop:=
 match fn.body with
 |some code=>J45 (c.pre x)<|wpG P Γ ann (ilS P Γ annF lib 5) code none (itS P Γ annF (ilS P Γ annF lib 5) lib) (Kh7 x) fun e s=>match e with
  | .exit _=>False
  |_=>(s.rs.all fun p=>p.2.soft)=true∧Ubg P fn c x s
 |none=>False
def Ucw (c:Knw) (_:Nat→Option Res) (n:Nat) (args:List SV):Option Out:=match args with
 |[.v false [.str x]]=>some ⟨c.pre x, .tup [(false,[.ptr n 0]),(false,[.int .i64 0])], .box c.T (J8 (enc c.s (c.post x)) (n+1)).1::(J8 (enc c.s (c.post x)) (n+1)).2.map Hl,[]⟩
 |_=>none
def Knw.con (c:Knw):Con:={args:=[],ress:=[],owns:=[],pre:=fun _=>[False],spec:=fun _=>(),prim:=some (Ucw c)}
end Go.Sx
namespace Go.Sx
def Br (c:Bool) (p q:Prop):Prop:=(c=true→p)∧(c=false→q)
def Iw (x:Int):Prop:= -9223372036854775808≤x∧x≤9223372036854775807
def Bd (i n:Int):Prop:=0≤i∧i<n
def T2 (p r:Prop):Prop:=p∧p∧r
def Tw (p:Prop):Prop:=p∧p
def Sf {α:Sort _} (a:α) (r:Prop):Prop:=a=a∧r
def Si (a:Int) (r:Prop):Prop:=a=a∧r
def Ln {α:Type} (l:List α):Int:=(l.length:Int)
def Nc (n:Nat):Int:=(n:Int)
def Gt {α:Type} (l:List α) (i:Int) (d:α):α:=l.getD i.toNat d
def B0:ByteArray:=ByteArray.mk (Array.mk [])
def Lb (a b:ByteArray):Bool:=ByteArray.toList a==ByteArray.toList b
def E2 {α β:Type} (x:α×β):α×β:=(x.1,x.2)
abbrev Bt:=ByteArray
abbrev Ls:=List ByteArray
abbrev Li:=List Int
structure GW [Dr] (P:Program) where
 g:Gam
 ok:Y3 P g
abbrev GW.add [Dr] {P:Program} (W:GW P) {f:FuncId} {c:Con} (h:Ok P f c):GW P:=⟨(f,c)::W.g, .cons h W.ok⟩
end Go.Sx
namespace Go.Sx
open Go.RowKit Go.ChangeShapes
def Wf:(s:Sch)→s.T→Prop
 | .int k,n=>(Lit.int k n).wf=true
 | .bool,_=>True
 | .str,b=>b.size≤maxLen
 | .flt _,_=>True
 | .fnc,_=>True
 | .prod a b,x=>Wf a x.1∧Wf b x.2
 | .list _ s,xs=>xs.length≤maxLen∧∀x∈xs,Wf s x
def Jmh (P:Program) (fit:TypeId→Sch→Bool):List (Nat×TypeId)→Nat→Sch→Bool
 |[],_,_=>false
 |[p],off,s=>Nat.beq p.1 off&&fit p.2 s&&Nat.beq (P.cellsOf p.2) s.size
 |p::ps,off, .prod a b=>Nat.beq p.1 off&&fit p.2 a&&Nat.beq (P.cellsOf p.2) a.size&&Jmh P fit ps (off+a.size) b
 |_,_,_=>false
def J7m (P:Program):Nat→TypeId→Sch→Bool
 |0,_,_=>false
 |n+1,T,s=>match P.underlying T with
  |some .bool=>match s with| .bool=>true|_=>false
  |some (.int k)=>match s with| .int k'=>decide (k=k')|_=>false
  |some .string=>match s with| .str=>true|_=>false
  |some (.slice e)=>match s with| .list e' s'=>Nat.beq e e'&&J7m P n e s'&&Nat.beq (P.cellsOf e) s'.size|_=>false
  |some (.struct fs)=>Nat.beq (P.cellsOf T) s.size&&Jmh P (J7m P n) (fs.toList.map fun f=>(f.offset,f.type)) 0 s
  |some (.array k e)=>Nat.beq (P.cellsOf T) s.size&&Jmh P (J7m P n) ((List.range k).map fun i=>(i*P.cellsOf e,e)) 0 s
  |_=>false
theorem J7v {w:World} {b off:Nat} {u:Value} (h:w.cell? ⟨b,off,none⟩=some u):b<w.heap.size:=by
 unfold World.cell? at h
 split at h
 ·rename_i hb
  exact(Array.getElem?_eq_some_iff.1 hb).1
 ·cases h
theorem Sch.size_pos:∀s:Sch,0<s.size
 | .prod a b=>by have:=Sch.size_pos a;simp only[Sch.size];omega
 | .int _=>Nat.one_pos
 | .bool=>Nat.one_pos
 | .str=>Nat.one_pos
 | .flt _=>Nat.one_pos
 | .fnc=>Nat.one_pos
 | .list _ _=>Nat.one_pos
section
variable {H:Type} {enc:TypeId×Value→H} {P:Program} {w:World} {spare:Nat→Bool} {held:Bool}
theorem Jf0 {fit:TypeId→Sch→Bool} {fuel:Nat} (ih:∀(T:TypeId) (s:Sch) (cs:List Value) (x:DataW H×List MemPlace),fit T s=true→DataW.trod enc P w 0 spare held fuel T cs=some x→∃y:s.T,Rep (·<w.heap.size) w s y cs∧Wf s y):
  ∀(ps:List (Nat×TypeId)) (off:Nat) (s:Sch) (cs:List Value),Jmh P fit ps off s=true→cs.length=off+s.size→(∀p∈ps,∃x,DataW.trod enc P w 0 spare held fuel p.2 ((cs.drop p.1).take (P.cellsOf p.2))=some x)→
   ∃y:s.T,Rep (·<w.heap.size) w s y (cs.drop off)∧Wf s y
 |[],_,_,_,h,_,_=>by simp[Jmh] at h
 |[p],off,s,cs,h,hl,ht=>by
  simp only[Jmh,Bool.and_eq_true,Nat.beq_eq] at h
  obtain⟨⟨h1,h2⟩,h3⟩:=h
  obtain⟨x,hx⟩:=ht p (by simp)
  rw[h1,h3,List.take_of_length_le (by rw[List.length_drop];omega)] at hx
  exact ih _ _ _ _ h2 hx
 | p :: q :: ps, off, s, cs, h, hl, ht => by
  cases s with
  |prod a b=>
   simp only[Jmh,Bool.and_eq_true,Nat.beq_eq] at h
   obtain⟨⟨⟨h1,h2⟩,h3⟩,h4⟩:=h
   obtain⟨x,hx⟩:=ht p (by simp)
   rw[h1,h3] at hx
   obtain⟨y1,r1,w1⟩:=ih _ _ _ _ h2 hx
   obtain⟨y2,r2,w2⟩:=Jf0 ih (q::ps) (off+a.size) b cs h4 (by rw[hl];simp only[Sch.size];omega) (fun p' hp'=>ht p' (by simp[hp']))
   refine⟨(y1,y2),⟨_,_, ?_,r1,r2⟩,w1,w2⟩
   rw[←List.drop_drop,List.take_append_drop]
  |_=>simp[Jmh] at h
theorem Jw5 {base:Nat} {a:Addr} {n:Nat} {cs:List Value} (h:w.cells? base a n=some cs):cs.length=n∧∀i,i<n→w.cell? (a.add i)=cs[i]? :=by
 unfold World.cells? at h
 split at h
 ·exact⟨by simpa using mapM_some_length h,fun i hi=>mapM_some_get h i i (by simp[hi])⟩
 ·cases h
theorem Jmx (a:Addr) (i j:Nat):(a.add i).add j=a.add (i+j):=by
 unfold Addr.add
 by_cases hi:i=0
 ·simp[hi]
 ·by_cases hj:j=0
  ·simp[hi,hj]
  ·have:¬i+j=0:=by omega
   simp[hi,hj,Nat.add_assoc]
theorem Jmm {e:TypeId} {s:Sch} {a:Addr} {f:List Value→Option (DataW H×List MemPlace)} (hs:P.cellsOf e=s.size)
  (ih:∀(cs:List Value) (x:DataW H×List MemPlace),f cs=some x→∃y:s.T,Rep (·<w.heap.size) w s y cs∧Wf s y):
  ∀(len i0:Nat),(∀i,i<len→∃x,(w.cells? 0 (a.add ((i0+i)*s.size)) s.size).bind f=some x)→
   ∃(ys:List s.T) (flat:List Value),Y2 (Rep (·<w.heap.size) w s) ys flat∧ys.length=len∧(∀y∈ys,Wf s y)∧∀k u,flat[k]? =some u→w.cell? (a.add (i0*s.size+k))=some u
 |0,_,_=>⟨[],[],rfl,rfl,by simp,by simp⟩
 | len + 1, i0, h => by
  obtain⟨x,hx⟩:=h 0 (by omega)
  rw[Nat.add_zero] at hx
  obtain⟨cs,hc,hf⟩:=Option.bind_eq_some_iff.1 hx
  obtain⟨y,r1,w1⟩:=ih _ _ hf
  obtain⟨cl,cg⟩:=Jw5 hc
  obtain⟨ys,flat,r2,l2,w2,g2⟩:=Jmm hs ih len (i0+1) (fun i hi=>by
   have:=h (i+1) (by omega)
   rwa[show i0+(i+1)=i0+1+i by omega] at this)
  refine⟨y::ys,cs++flat,⟨cs,flat,rfl,r1,r2⟩,by simp[l2], ?_,fun k u hk=> ?_⟩
  ·intro z hz
   rcases List.mem_cons.1 hz with rfl|hz
   ·exact w1
   ·exact w2 z hz
  ·rcases Nat.lt_or_ge k cs.length with hlt|hge
   ·rw[List.getElem?_append_left hlt] at hk
    have:=cg k (by omega)
    rw[Jmx] at this
    rw[this,hk]
   ·rw[List.getElem?_append_right hge] at hk
    have:=g2 _ _ hk
    rw[cl] at this hge
    rwa[Nat.succ_mul,show i0*s.size+s.size+(k-s.size)=i0*s.size+k by omega] at this
theorem Jd1:∀(n fuel:Nat) (T:TypeId) (s:Sch) (cs:List Value) (x:DataW H×List MemPlace),J7m P n T s=true→DataW.trod enc P w 0 spare held fuel T cs=some x→∃y:s.T,Rep (·<w.heap.size) w s y cs∧Wf s y
 |0,_,_,_,_,_,h,_=>by simp[J7m] at h
 | n + 1, fuel, T, s, cs, x, h, ht => by
  unfold J7m at h
  split at h
  ·rename_i hu
   cases s<;>simp at h
   obtain⟨b,rfl,_⟩:=DataW.trod_bool hu ht
   exact⟨b,rfl,trivial⟩
  ·rename_i k hu
   cases s<;>simp at h
   subst h
   obtain⟨b,rfl,_,hw⟩:=DataW.trod_int hu ht
   exact⟨b,rfl,hw⟩
  ·rename_i hu
   cases s<;>simp at h
   obtain⟨b,rfl,_,hw⟩:=DataW.trod_string hu ht
   exact⟨b,rfl,hw⟩
  ·rename_i e hu
   cases s<;>simp at h
   rename_i e' s'
   obtain⟨⟨rfl,h2⟩,h3⟩:=h
   rcases DataW.trod_slice hu ht with⟨rfl,_⟩|⟨a,len,cap,elems,rest,m,rfl,rfl,_,_,hlc,hcm,hel,hg,_,_⟩
   ·exact⟨[],⟨_,[],rfl,rfl, .inl ⟨.inl rfl,rfl⟩⟩,by simp[Wf]⟩
   ·rw [h3] at hg
    obtain⟨ys,flat,r,l,wf,g⟩:=Jmm (w:=w) (a:=a) h3 (fun cs x hx=>Jd1 n m e s' cs x h2 hx) len 0 (fun i hi=>by
     rw[Nat.zero_add,hg i hi]
     exact⟨_,List.getElem?_eq_getElem (by omega)⟩)
    refine⟨ys,⟨_,flat,rfl,r, ?_⟩,⟨by omega,wf⟩⟩
    cases flat with
    | nil =>
     have h0:=Y2.length r
     have hp:=Sch.size_pos s'
     have:ys.length=0:=by
      rcases Nat.eq_zero_or_pos ys.length with h|h
      ·exact h
      ·have:=Nat.mul_pos h hp
       rw[←h0] at this
       simp at this
     refine .inl ⟨.inr ⟨a,cap, ?_⟩,this⟩
     rw[←l,this]
    | cons u fl =>
     obtain⟨b,off,spot⟩:=a
     have h0:=g 0 u rfl
     have hspot:spot=none:=by simpa[Addr.add] using World.cell?_spot h0
     subst hspot
     refine .inr ⟨b,off,cap,by rw[l],by omega,fun k u' hu'=> ?_,fun _=> ?_⟩
     ·have:=g k u' hu'
      rwa[Nat.zero_mul,Nat.zero_add,Go.WideShapes.add_plain] at this
     ·have h1:w.cell? ⟨b,off,none⟩=some u:=by simpa[Addr.add] using h0
      exact J7v h1
  ·rename_i fs hu
   simp only[Bool.and_eq_true,Nat.beq_eq] at h
   obtain⟨xs,m,rfl,_,hl,hn,hg⟩:=DataW.trod_struct hu ht
   have:=Jf0 (fun T s cs x=>Jd1 n m T s cs x) _ 0 s cs h.2 (by omega) (fun p hp=>by
    obtain⟨f,hf,rfl⟩:=List.mem_map.1 hp
    obtain⟨i,hi⟩:=List.getElem?_of_mem hf
    have:=hg i f (by simpa using hi)
    rw[this]
    have hlt:i<xs.length:=by rw[hn];have:=(List.getElem?_eq_some_iff.1 hi).1;simpa using this
    exact⟨_,List.getElem?_eq_getElem hlt⟩)
   simpa using this
  ·rename_i k e hu
   simp only[Bool.and_eq_true,Nat.beq_eq] at h
   obtain⟨xs,m,rfl,_,hl,hn,hg⟩:=DataW.trod_array hu ht
   have:=Jf0 (fun T s cs x=>Jd1 n m T s cs x) _ 0 s cs h.2 (by omega) (fun p hp=>by
    obtain⟨i,hi,rfl⟩:=List.mem_map.1 hp
    have:=hg i (by simpa using hi)
    simp only at this⊢
    rw[this]
    have hlt:i<xs.length:=by rw[hn];simpa using hi
    exact⟨_,List.getElem?_eq_getElem hlt⟩)
   simpa using this
  ·cases h
end
def Jar (P:Program):List TypeId→List AK→Bool
 |[],[]=>true
 |t::ts, .val g s::ks=>J7m P 20 t s&&(match U7 P t with|some g'=>g'==g|none=>false)&&Jar P ts ks
 |_,_=>false
def WfA:(ks:List AK)→ATup ks→Prop
 |[],_=>True
 | .val _ s::ks,x=>Wf s x.1∧WfA ks x.2
 |_::ks,x=>WfA ks x.2
theorem Jl0 {P:Program} {w:World} {r:Reach} {base:Nat} {t:TypeId} {v:Value} {g:Bool} (h:Value.okWide P w r base t v) (hg:U7 P t=some g):v=Jk g v.cells.toList:=by
 unfold U7 at hg
 unfold Value.okWide at h
 split at hg
 ·rename_i fs hu
  cases hg
  rw[hu] at h
  obtain⟨cs,rfl,_⟩:=h
  rfl
 ·rename_i k e hu
  cases hg
  rw[hu] at h
  obtain⟨cs,rfl,_⟩:=h
  rfl
 ·rename_i d hn1 hn2 hu
  cases hg
  have hna:∀cs,v≠ .agg cs:=by
   rintro cs rfl
   split at h
   ·rename_i fs hu'
    exact hn1 fs (Option.some.inj (hu.symm.trans hu'))
   ·rename_i k e hu'
    exact hn2 k e (Option.some.inj (hu.symm.trans hu'))
   ·unfold Cell.okWide at h
    split at h<;>simp_all [Cell.ok]
  cases v<;>first|rfl|exact absurd rfl (hna _)
 ·cases hg
section
variable {H:Type} {enc:TypeId×Value→H} {P:Program} {w:World} {spare:Nat→Bool} {held:Bool} {r:Reach} {base:Nat}
theorem Lr:∀{ts:List TypeId} {vs:List Value} {ds:List (DataW H)} {ps:List MemPlace},DataW.TrodAll enc P w 0 spare held ts vs ds ps→ds.length=ts.length
 |[],_,_,_,h=>by obtain⟨_,rfl,_⟩:=trodAll_nil h;rfl
 |t::ts,_,_,_,h=>by
  obtain⟨v,vs',d,ds',p,q,rfl,rfl,rfl,hd,hr⟩:=trodAll_cons h
  simp[Lr hr]
theorem Jqz [Dr] {R:Nat→Prop}:∀{ts:List TypeId} {ks:List AK} {vs:List Value} {ds:List (DataW H)} {ps:List MemPlace},Jar P ts ks=true→DataW.TrodAll enc P w 0 spare held ts vs ds ps→
  (∀(j:Nat) t v,ts[j]? =some t→vs[j]? =some v→Value.okWide P w r base t v)→∃x:ATup ks,Xc P (·<w.heap.size) R w ks x vs∧WfA ks x
 |[],[],vs,ds,ps,_,h,_=>by
  obtain⟨rfl,_,_⟩:=trodAll_nil h
  exact⟨(),rfl,trivial⟩
 |[],_::_,_,_,_,hf,_,_=>by simp[Jar] at hf
 | t :: ts, k :: ks, vs, ds, ps, hf, h, hv => by
  obtain⟨v,vs',d,ds',p,q,rfl,rfl,rfl,hd,hr⟩:=trodAll_cons h
  cases k with
  | val g s =>
   simp only[Jar,Bool.and_eq_true] at hf
   obtain⟨⟨f1,f2⟩,f3⟩:=hf
   obtain⟨fuel,hd⟩:=hd
   obtain⟨y,r1,w1⟩:=Jd1 20 fuel t s _ _ f1 hd
   obtain⟨x,a1,a2⟩:=Jqz (R:=R) f3 hr (fun j t' v' h1 h2=>hv (j+1) t' v' h1 h2)
   have hg:U7 P t=some g:=by
    split at f2
    ·rename_i g' e
     rw[e,eq_of_beq f2]
    ·cases f2
   exact⟨(y,x),⟨v,vs',rfl,⟨_,Jl0 (hv 0 t v rfl rfl) hg,r1⟩,a1⟩,w1,a2⟩
  |_=>simp[Jar] at hf
 |_::_,[],_,_,_,hf,_,_=>by simp[Jar] at hf
theorem Ja0 [Dr] (hl:laidOutB P=true) {W W':World} (hb:Below W.heap.size W W') {sp:Nat→Bool}:∀{ts:List TypeId} {vs:List Value} {ds:List (DataW H)} {ps:List MemPlace},
  (ts.all fun t=>P.readableRec t&&decide (t<P.types.size))=true→DataW.TrodAll enc P W 0 (fun _=>true) true ts vs ds ps→(∀x∈ps,x.block<W.heap.size)→(∀x∈ps,sp x.block=true)→DataW.TrodAll enc P W' 0 sp true ts vs ds ps
 |[],vs,ds,ps,_,h,_,_=>by
  obtain⟨rfl,rfl,rfl⟩:=trodAll_nil h
  exact trodAll_mk0
 | t :: ts, vs, ds, ps, ht, h, hlt, hsp => by
  obtain⟨v,vs',d,ds',p,q,rfl,rfl,rfl,hd,hr⟩:=trodAll_cons h
  simp only[List.all_cons,Bool.and_eq_true,decide_eq_true_eq] at ht
  exact trodAll_cons_mk (WideElems.Trod_stays hl ht.1.1 ht.1.2 hd (fun x hx=>hb.kit.same (hlt x (by simp[hx]))) (fun x hx=>hsp x (by simp[hx])))
   (Ja0 hl hb ht.2 hr (fun x hx=>hlt x (by simp[hx])) fun x hx=>hsp x (by simp[hx]))
end
theorem Jbw [Dr] {W W':World} (hb:Below W.heap.size W W') (may:MemPlace→Prop):W.keptBut W' may:=by
 refine⟨hb.os,hb.output,fun i hi=> ?_⟩
 rw[hb.block i hi]
 cases h:W.heap[i]? with
 |none=>exact rfl
 |some o=>cases o<;>simp
theorem Jui [Dr] {P:Program} {w w':World} {name:String} {k:IntKind} {zs:List Int} (h:Lib.TabIs P w name k zs) (hb:Below w.heap.size w w'):Lib.TabIs P w' name k zs:=by
 unfold Lib.TabIs World.var? at*
 cases hg:P.globalNamed name with
 |none=>rw[hg] at h;cases h
 | some g =>
  rw[hg] at h
  simp only[Option.bind_some] at h⊢
  have hlt:g<w.heap.size:=by
   rcases Nat.lt_or_ge g w.heap.size with hlt|hge
   ·exact hlt
   ·rw[Array.getElem?_eq_none hge] at h
    cases h
  rw[hb.block g hlt]
  exact h
theorem Jfr [Dr] {P:Program} {w w':World} {name:String} (h:IfaceVar P name w) (hb:Below w.heap.size w w'):IfaceVar P name w':=by
 obtain⟨tp,pe,h⟩:=h
 refine⟨tp,pe, ?_⟩
 unfold World.var? at*
 cases hg:P.globalNamed name with
 |none=>rw[hg] at h;cases h
 | some g =>
  rw[hg] at h
  simp only[Option.bind_some] at h⊢
  have hlt:g<w.heap.size:=by
   rcases Nat.lt_or_ge g w.heap.size with hlt|hge
   ·exact hlt
   ·rw[Array.getElem?_eq_none hge] at h
    cases h
  rw[hb.block g hlt]
  exact h
theorem law_calls [Dr] {P:Program} {H:Type} {enc:TypeId×Value→H} {f:FuncId} {fn:Func} {s:ChangeSpec} {ks:List AK} {pre:ATup ks→List Prop} {tb:TypeId}
  (hok:Ok P f {args:=ks,ress:=[(false, .bool)],owns:=[],pre:=pre,spec:=fun _=>(true,())}) (hpre:∀x,WfA ks x→Up (pre x))
  (hl:laidOutB P=true) (hfit:Jar P fn.params.toList ks=true) (hpt:(fn.params.toList.all fun t=>P.readableRec t&&decide (t<P.types.size))=true) (hrt:fn.resultTypes= #[tb]) (hub:P.underlying tb=some .bool)
  (hvars:s.vars=[]) (hs:∀ds:List (DataW H),ds.length=fn.params.toList.length→s.fn H ds={results:=[.lit (.bool true)],args:=ds})
  {W:World} {base:Nat} {args:Array Value} {ds gs:List (DataW H)} {before:List MemPlace} (htab:Tab P W)
  (hval:∀(j:Nat) t v,fn.params[j]? =some t→args[j]? =some v→Value.okWide P W .any base t v) (hW:DataW.Whole enc P fn.params.toList s.vars false W args.toList ds gs before):
  Calls P f args W fun e W'=>∃v,e= .returned v∧s.post enc P fn false true false false W args v W':=by
 have hW0:=hW
 have hlt:∀p∈before,p.block<W.heap.size:=fun p hp=>hW.lt p hp
 obtain⟨p,q,hA,hV,rfl,_,_⟩:=hW
 rw[hvars] at hV
 obtain⟨rfl,rfl⟩:=trodVars_none hV
 obtain⟨x,hx,hwf⟩:=Jqz (R:=fun _=>False) hfit hA (fun j t v h1 h2=>hval j t v (by simpa using h1) (by simpa using h2))
 have hg:Good P W:=fun w' hb=>⟨Jui htab.1 hb,fun e=>⟨(htab.2 e).1.keptBut (Jbw hb fun _=>False) fun _ h=>h.elim,Jfr (htab.2 e).2.1 hb,Jfr (htab.2 e).2.2 hb⟩⟩
 have hc:=hok.2.2.2 rfl x (·<W.heap.size) (fun _=>False) W args.toList (fun b hb=>hb.elim id False.elim) hg (hpre x hwf) hx
 rw[Array.toArray_toList] at hc
 refine hc.mono ?_
 rintro e W' ⟨M',vs,rfl,hb,_,_,hr⟩
 obtain⟨v,vs',rfl,⟨cs,rfl,hcs⟩,hr⟩:=hr
 have hr:vs'=[]:=hr
 have hcs:cs=[.bool true]:=hcs
 subst hr;subst hcs
 refine⟨_,rfl,ds,[],_,[],p,[],hW0, ?_, ?_, ?_,Jbw hb _,fun h=>by cases h⟩
 ·rw[List.append_nil,hs ds (Lr hA),hrt]
  exact trodAll_mk1 (shut_bool hub _)
 ·rw[List.append_nil,hs ds (Lr hA)]
  exact Ja0 hl hb hpt hA (fun x hx=>hlt x (by simp[hx])) (fun x hx=>decide_eq_true (hlt x (by simp[hx])))
 ·rw[List.append_nil,hs ds (Lr hA),hvars]
  exact rfl
end Go.Sx
namespace Go.Sx
open Go.RowKit Go.Proofs
section
variable {α:Type} {enc:α→List Value} {k:Nat}
theorem Jqi (hk:∀x,(enc x).length=k) (d:α):∀(xs:List α) (j:Nat),j<xs.length*k→(xs.flatMap enc)[j]? =(enc (xs.getD (j/k) d))[j %k]?
 |[],j,h=>by simp at h
 | x :: xs, j, h => by
  rw[List.flatMap_cons]
  by_cases hj:j<k
  ·rw[List.getElem?_append_left (by rw[hk];exact hj),Nat.div_eq_of_lt hj,Nat.mod_eq_of_lt hj];rfl
  ·have h0:0<k:=by
    rcases Nat.eq_zero_or_pos k with e|e
    ·rw[e,Nat.mul_zero] at h;omega
    ·exact e
   have h':j-k<xs.length*k:=by
    rw[List.length_cons,Nat.succ_mul] at h;omega
   rw[List.getElem?_append_right (by rw[hk];omega),hk,Jqi hk d xs (j-k) h',Nat.div_eq_sub_div h0 (by omega:k≤j),Nat.mod_eq_sub_mod (by omega:j≥k),List.getD_cons_succ]
theorem Jaq (hk:∀x,(enc x).length=k):∀xs:List α,(xs.flatMap enc).length=xs.length*k
 |[]=>by simp
 |x::xs=>by rw[List.flatMap_cons,List.length_append,hk,Jaq hk xs,List.length_cons,Nat.succ_mul,Nat.add_comm]
theorem Jih [Inhabited α] (hk:∀x,(enc x).length=k) (d:Array α):(Sort.flatK enc k d).toList=d.toList.flatMap enc:=by
 apply List.ext_getElem?
 intro j
 by_cases hj:j<d.size*k
 ·rw[Jqi hk default d.toList j (by simpa using hj)]
  have h0:0<k:=by
   rcases Nat.eq_zero_or_pos k with e|e
   ·rw[e,Nat.mul_zero] at hj;omega
   ·exact e
  have h1:(Sort.flatK enc k d)[j]! =(enc d[j/k]!)[j %k]! :=Sort.get_flatK _ _ _ _ hj
  have hs:j<(Sort.flatK enc k d).size:=by simpa using hj
  rw[Array.getElem?_toList,Array.getElem?_eq_getElem hs]
  rw[getElem!_pos (Sort.flatK enc k d) j hs] at h1
  rw[h1]
  have e:d[j/k]! =d.toList.getD (j/k) default:=by
   have:j/k<d.size:=Nat.div_lt_of_lt_mul (by rw[Nat.mul_comm];exact hj)
   rw[getElem!_pos d (j/k) this,List.getD_eq_getElem?_getD,Array.getElem?_toList,Array.getElem?_eq_getElem this]
   rfl
  rw[e]
  have h2:j %k<(enc (d.toList.getD (j/k) default)).length:=by rw[hk];exact Nat.mod_lt _ h0
  rw[getElem!_pos (enc (d.toList.getD (j/k) default)) (j %k) h2,List.getElem?_eq_getElem h2]
 ·rw[List.getElem?_eq_none (by simp;omega),List.getElem?_eq_none (by rw[Jaq hk];simp;omega)]
end
theorem Jmg {s:Sch} {β:Type} {val:β→s.T} {enc:β→List Value} (hrep:∀(M:Nat→Prop) (w:World) (x:β) (cs:List Value),Rep M w s (val x) cs↔cs=enc x) {M:Nat→Prop} {w:World}:∀{xs:List β} {flat:List Value},Y2 (Rep M w s) (xs.map val) flat→flat=xs.flatMap enc
 |[],_,h=>h
 |x::xs,flat,⟨c1,c2,e,h1,h2⟩=>by
  rw[e,(hrep M w x c1).1 h1,Jmg hrep h2];rfl
theorem Jml {s:Sch} {β:Type} {val:β→s.T} {enc:β→List Value} (hrep:∀(M:Nat→Prop) (w:World) (x:β) (cs:List Value),Rep M w s (val x) cs↔cs=enc x) {M:Nat→Prop} {w:World}:∀{xs:List β},Y2 (Rep M w s) (xs.map val) (xs.flatMap enc)
 |[]=>rfl
 |x::xs=>⟨enc x,xs.flatMap enc,rfl,(hrep M w x _).2 rfl,Jml hrep⟩
theorem Good.on [Dr] {P:Program} {w:World} (h:Good P w): @Good .on P w:=fun w' hb=>⟨(h w' hb.any).1,fun e=>Bool.noConfusion e⟩
theorem J0z [Dr] {P:Program} {fid gid:FuncId} {T:TypeId} {s:Sch} {β:Type} [Inhabited β] (val:β→s.T) {k:Nat} (enc:β→List Value) (hk:∀x,(enc x).length=k) (hks:s.size=k)
  (hrep:∀(M:Nat→Prop) (w:World) (x:β) (cs:List Value),Rep M w s (val x) cs↔cs=enc x) (cf:β→β→Int) (pre:List s.T→Prop) (f:List s.T→List s.T) (r:List s.T→List s.T→Prop)
  (hcall:∀(g cap:Nat) (d:Array β) (w:World),Sort.HoldsK enc k w g 0 d→g<w.heap.size→d.size<4611686018427387904→CmpLays P gid #[] enc k cf g 0 d.size w→
   Calls P fid #[.slice (some ⟨g,0,none⟩) d.size cap, .func (.func gid) #[] #[]] w fun e w'=>e= .returned (.tuple #[])∧∃d' n os,Sort.PermIn 0 d.size d d'∧Sort.SortedIn (ltOf cf) 0 d.size d'∧w'=sortWorldK enc k w g 0 n d' os)
  (hnone:∀w,Calls P fid #[.slice none 0 0, .func (.func gid) #[] #[]] w fun e w'=>e= .returned (.tuple #[])∧w'=w)
  (hcmp:∀(w:World) (x y:β),Good P w→Calls P gid #[.agg (enc x).toArray, .agg (enc y).toArray] w fun e w'=>e= .returned (.int .i64 (cf x y))∧RowKit.Below w.heap.size w w'∧w.drawn≤w'.drawn)
  (hlift:∀xs,pre xs→∃zs:List β,xs=zs.map val) (hr:∀xs ys:List β,ys.Perm xs→(ys.Pairwise fun a b=>ltOf cf b a=false)→r (xs.map val) (ys.map val)) (hlen:∀xs,pre xs→xs.length≤1000000):
  Jzj P fid {T:=T,s:=s,g:=gid,pre:=pre,f:=f,rel:=some r}:=by
 intro w B v xs0 flat hB hg hrp how hpre
 subst hks
 have hlen:=hlen xs0 hpre
 obtain⟨xs,rfl⟩:=hlift xs0 hpre
 have hflat:=Jmg hrep hrp
 rw[List.length_map] at hlen how
 rcases how.2 with⟨rfl,h0⟩|⟨g,cap,cur,rfl,hbg,hgh,hnc,hcm,hcs,htake⟩
 ·have h0:xs.length=0:=h0
  have:xs=[]:=List.eq_nil_of_length_eq_zero h0
  subst this
  refine(hnone w).mono ?_
  rintro e w' ⟨rfl,rfl⟩
  exact⟨rfl,[],hr [] [] (List.Perm.refl _) .nil,rfl,flat,hrp,how,World.grownBy.refl _ _,Nat.le_refl _⟩
 ·have hlt:=(Array.getElem?_eq_some_iff.1 hgh).1
  have hH:Sort.HoldsK enc s.size w g 0 xs.toArray:=by
   intro j hj
   have hj':j<xs.length*s.size:=by simpa using hj
   have h1:=how.cellAt j hj'
   have h2:=how.frozenAt j
   rw[Nat.zero_add]
   refine⟨?_,h2⟩
   rw[h1,hflat,←Jih hk xs.toArray,Array.getElem?_toList,Array.getElem?_eq_getElem hj,getElem!_pos (Sort.flatK enc s.size xs.toArray) j hj]
   rfl
  have hbw:∀n d' os,Below B w (sortWorldK enc s.size w g 0 n d' os):=fun n d' os=>by
   refine⟨rfl,rfl,rfl, ?_,fun q hq=> ?_, ?_⟩
   ·show w.heap.size≤((w.heap.modify g _)++os).size
    simp
   ·show((w.heap.modify g _)++os)[q]? =_
    have:g≠q:=by omega
    rw[Array.getElem?_append_left (by simp;omega),Array.getElem?_modify,if_neg this]
   ·intro _
    show w.drawn≤w.drawn+n
    omega
  have hcl:CmpLays P gid #[] enc s.size cf g 0 xs.toArray.size w:=by
   intro m os dk hs x y
   have hG:Good P (sortWorldK enc s.size w g 0 m dk os):=fun w2 h2=>hg w2 ((hbw m dk os).trans (h2.mono (Nat.le_trans hB (hbw m dk os).size)))
   refine(hcmp _ x y hG).mono ?_
   rintro e w' ⟨he,hb,hdr⟩
   obtain⟨q,os',e'⟩:=Below.grew hb hdr
   exact⟨he,q,os',e'⟩
  have hc:=hcall g cap xs.toArray w hH hlt (by simp;omega) hcl
  simp only[List.size_toArray] at hc
  refine hc.mono ?_
  rintro e w' ⟨rfl,d',n,os,hp,hs,rfl⟩
  obtain⟨hsz,_,hperm⟩:=hp
  have hsz:d'.size=xs.length:=by simpa using hsz
  have hperm':d'.toList.Perm xs:=by
   have e1:(d'.extract 0 xs.length).toList=d'.toList:=by rw[←hsz];simp
   have e2:(xs.toArray.extract 0 xs.length).toList=xs:=by simp
   rw[e1,e2] at hperm
   exact hperm
  have hsorted:d'.toList.Pairwise fun a b=>ltOf cf b a=false:=by
   rw[List.pairwise_iff_getElem]
   intro i j hi hj hij
   have hi':i<d'.size:=by simpa using hi
   have hj':j<d'.size:=by simpa using hj
   have h1:=hs i j (Nat.zero_le _) hij (by omega)
   rw[getElem!_pos d' i hi',getElem!_pos d' j hj'] at h1
   have e1:d'.toList[i]=d'[i]:=by simp
   have e2:d'.toList[j]=d'[j]:=by simp
   rw[e1,e2];exact h1
  have hl0:d'.toList.length=xs.length:=hperm'.length_eq
  have hK:(Sort.flatK enc s.size d').size=xs.length*s.size:=by simp[hsz]
  have hheap:(sortWorldK enc s.size w g 0 n d' os).heap[g]? =some (.cells (Sort.putCells id 0 (Sort.flatK enc s.size d') cur) T (0,0)):=by
   show((w.heap.modify g (Sort.onCells (Sort.putCells id 0 (Sort.flatK enc s.size d'))))++os)[g]? =_
   rw[Array.getElem?_append_left (by simpa using hlt),Array.getElem?_modify,if_pos rfl,hgh]
   rfl
  have hmul:xs.length*s.size≤cur.size:=by rw[hcs];exact Nat.mul_le_mul_right _ hnc
  have htk:(Sort.putCells id 0 (Sort.flatK enc s.size d') cur).toList.take (xs.length*s.size)=d'.toList.flatMap enc:=by
   rw[←Jih hk]
   apply List.ext_getElem?
   intro j
   rw[List.getElem?_take]
   split
   ·rename_i hj
    have hjc:j<cur.size:=by omega
    rw[Array.getElem?_toList,Array.getElem?_toList]
    simp only[Sort.putCells,Array.getElem?_mapIdx,Array.getElem?_eq_getElem hjc,Option.map_some,Nat.zero_le,true_and,Nat.zero_add,Nat.sub_zero]
    rw[if_pos (by omega),Array.getElem?_eq_getElem (by omega),getElem!_pos (Sort.flatK enc s.size d') j (by omega)]
    rfl
   ·rename_i hj
    rw[List.getElem?_eq_none (by simp[hsz];omega)]
  have hlm:(xs.map val).length=xs.length:=List.length_map _
  rw[hlm]
  refine⟨rfl,d'.toList.map val,hr xs d'.toList hperm' hsorted,by rw[List.length_map];exact hl0,_,Jml hrep,⟨?_, .inr ⟨g,cap,_,rfl,hbg,hheap,hnc,hcm,by simp[Sort.putCells,hcs],htk⟩⟩,⟨rfl,rfl,rfl,(hbw n d' os).size,fun q hq hne=> ?_⟩,by show w.drawn≤w.drawn+n;omega⟩
  ·rw[Jaq hk,hl0]
  ·have hkg:q≠g:=by rintro rfl;exact hne rfl
   show((w.heap.modify g _)++os)[q]? =_
   rw[Array.getElem?_append_left (by simpa using hq),Array.getElem?_modify,if_neg (Ne.symm hkg)]
end Go.Sx
namespace Go.Sx
open Go.RowKit
def Jtr (s:ByteArray):Int:=match Lib.atoiAll s.data.toList with
 | .ok v=>v
 | .range=>Lib.atoiSat s.data.toList
 |_=>0
def Jxw (s:ByteArray):Bool:=match Lib.atoiAll s.data.toList with
 | .ok _=>false
 |_=>true
def Kzp (_:Nat→Option Res) (n:Nat) (args:List SV):Option Out:=match args with
 |[.v false [.str s]]=>some ⟨[s.size≤1000000], .tup [(false,[.int .i64 (Jtr s)]),(false,[.fv n])],[.ifc (Jxw s)],[]⟩
 |_=>none
theorem J8t [Dr] {P:Program} {f:FuncId}
  (H:∀(s:ByteArray) (w:World),s.size≤1000000→Good P w→Calls P f #[.string s] w fun e w'=>∃u,e= .returned (.tuple #[.int .i64 (Jtr s),u])∧Jkp (Jxw s) u∧Below w.heap.size w w'):Jrm P f Kzp:=by
 intro N B w0 al τ σ a w ρ M R n d rs args out C hd hrs hop hpre hfresh
 unfold Kzp at hop
 split at hop
 ·rename_i s
  cases hop
  have h:=H s w hpre C.goodNow
  refine⟨_,h, ?_⟩
  rintro e w' ⟨u,rfl,g1,hb⟩
  have hold:∀b,b<w.heap.size→w'.heap[b]? =w.heap[b]? :=fun b h=>hb.block b h
  have e0:K2 ρ n [u] n=u:=Un (i:=0) rfl
  have hn:∀id,n≤id∧id<n+[Res.ifc (Jxw s)].length→id=n:=fun id h=>by simp at h;omega
  refine⟨_,K2 ρ n [u],M,rfl,C.step hd hfresh (fun id h=>Ua (by simpa using h)) (by simp[SV.den,J5c,Jk,SC.den,e0]) (fun id hid=> ?_) (hb.mono C.base) hb.size (fun _ h=>h) (fun b h=>Nat.lt_of_lt_of_le (C.old b (.inl h)) hb.size) (fun b h=>hold b (C.old b h)) ?_ ?_ ?_ ?_⟩
  ·simp[SV.ids,Ky,SC.ids] at hid
   subst hid
   exact .inr ⟨Nat.le_refl _,by simp⟩
  ·intro r x _ _ hx ho b hb'
   obtain⟨h5,_,_,h6⟩:=C.notM hx ho hb'
   exact⟨hold b h6,h5⟩
  ·rintro r x hx (h|h)
   ·obtain rfl:=hn r h
    rw[V8 h] at hx
    simp at hx
    subst hx
    refine⟨?_, .inr h,fun id hid=>by simp[Res.ids] at hid⟩
    show Jkp _ (K2 ρ r [u] r)
    rw[e0];exact g1
   ·exact absurd rfl h
  ·intro id h
   obtain rfl:=hn id h
   rw[e0]
   revert g1
   cases Jxw s with
   |false=>intro g1;have g1:u= .nilIface:=g1;subst g1;rfl
   |true=>rintro⟨T,y,rfl⟩;rfl
  ·rintro r r' x x' _ hx _ ho _ (h|h)
   ·obtain rfl:=hn r h
    rw[V8 h] at hx
    simp at hx
    subst hx
    cases ho
   ·exact absurd rfl h
 ·cases hop
end Go.Sx

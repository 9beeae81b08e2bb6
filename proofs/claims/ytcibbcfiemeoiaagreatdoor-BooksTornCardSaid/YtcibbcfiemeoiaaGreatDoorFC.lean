/- Contracts of the functions that the law reaches: part of the proof. -/
import Derived.Test.YtcibbcfiemeoiaaGreatDoorFB
set_option linter.unusedSimpArgs false
set_option linter.unusedVariables false
set_option maxRecDepth 20000
namespace Go.Proofs.YtcibbcfiemeoiaaGreatDoor
open Go.Sx
set_option maxHeartbeats 20000000
abbrev Spn:=Int×Int
def J34:={x:Spn// -1000000000≤x.1∧x.1≤1000000000}
instance:Inhabited J34:=⟨⟨(0,0),by decide,by decide⟩⟩
def Jtu (x:J34):List Value:=[.int .i64 x.1.1, .int .i64 x.1.2]
def Jxv (x y:J34):Int:=x.1.1-y.1.1
theorem Jf1 {a b:J34}:Proofs.ltOf Jxv a b=false↔b.1.1≤a.1.1:=by
 unfold Proofs.ltOf Jxv
 simp only[decide_eq_false_iff_not]
 omega
theorem Joz (a b:J34):Proofs.ltOf Jxv a b=true↔a.1.1<b.1.1:=by
 unfold Proofs.ltOf Jxv
 simp only[decide_eq_true_iff]
 omega
theorem K7t:Sort.SWO (Proofs.ltOf Jxv) where
 irrefl x:=Jf1.2 (Int.le_refl _)
 trans x y z h1 h2:=(Joz x z).2 (Int.lt_trans ((Joz x y).1 h1) ((Joz y z).1 h2))
 ntrans x y z h1 h2:=Jf1.2 (Int.le_trans (Jf1.1 h2) (Jf1.1 h1))
theorem Jky (M:Nat→Prop) (w:World) (x:J34) (cs:List Value):Rep M w H6 x.1 cs↔cs=Jtu x:=by
 constructor
 ·rintro⟨a,b,rfl,ha,hb⟩
  have ha:a=[.int .i64 x.1.1]:=ha
  have hb:b=[.int .i64 x.1.2]:=hb
  subst ha;subst hb;rfl
 ·rintro rfl
  exact⟨_,_,rfl,rfl,rfl⟩
theorem Jxu (w:World) (x y:J34) (hG:Sx.Good Tryz.prog w):Calls Tryz.prog 98 #[.agg (Jtu x).toArray, .agg (Jtu y).toArray] w fun e w'=>e= .returned (.int .i64 (Jxv x y))∧RowKit.Below w.heap.size w w'∧w.drawn≤w'.drawn:=by
 have h:=(@Cmp.ok98 .on).2.2.2 rfl (x.1,y.1,()) (fun _=>False) (fun _=>False) w [.agg (Jtu x).toArray, .agg (Jtu y).toArray] (fun b hb=>by rcases hb with hb|hb<;>exact hb.elim) hG.on ⟨x.2,y.2⟩ ⟨_,_,rfl,⟨Jtu x,rfl,(Jky _ _ _ _).2 rfl⟩,_,_,rfl,⟨Jtu y,rfl,(Jky _ _ _ _).2 rfl⟩,rfl⟩
 refine h.mono ?_
 rintro e w' ⟨M',vs,rfl,hb,_,_,hr⟩
 obtain⟨v,vs',rfl,⟨cs,rfl,hc⟩,hr⟩:=hr
 have hc:cs=[.int .i64 (Jxv x y)]:=hc
 have hr:vs'=[]:=hr
 subst hc;subst hr
 exact⟨rfl,@Sx.Below.kit .on _ _ _ hb,hb.dr⟩
theorem J17 (w:World):(isAgg 117).run Tryz.prog w= .ok true w:=by kernel_rfl
theorem Jvm (w:World):(Go.sizeOf 117).run Tryz.prog w= .ok 2 w:=by kernel_rfl
theorem Kdk (g cap:Nat) (d:Array J34) (w:World) (hH:Sort.HoldsK Jtu 2 w g 0 d) (hg:g<w.heap.size) (hd:d.size<4611686018427387904) (hc:Proofs.CmpLays Tryz.prog 98 #[] Jtu 2 Jxv g 0 d.size w):
  Calls Tryz.prog 97 #[.slice (some ⟨g,0,none⟩) d.size cap, .func (.func 98) #[] #[]] w fun e w'=>e= .returned (.tuple #[])∧∃d' n os,Sort.PermIn 0 d.size d d'∧Sort.SortedIn (Proofs.ltOf Jxv) 0 d.size d'∧w'=Proofs.sortWorldK Jtu 2 w g 0 n d' os:=by
 have eg:∀args w,(callFunc 98 args).run Tryz.prog w= .ok (.enter 98 args) w:=Proofs.enters_of Tryz.func98 (by kernel_rfl) rfl
 exact Proofs.AnyQ.slices_SortFunc Proofs.Tryz.sortS 2 J17 Jvm Jtu (fun _=>rfl) (fun x v hv=>by simp[Jtu] at hv;rcases hv with rfl|rfl<;>rfl) Jxv K7t 98 #[] g 0 cap d w eg hc hH hg hd
theorem Jog (w:World):Calls Tryz.prog 97 #[.slice none 0 0, .func (.func 98) #[] #[]] w fun e w'=>e= .returned (.tuple #[])∧w'=w:=
 Proofs.AnyF.slices_SortFunc_none Proofs.Tryz.sortS none 0 _ w
def Kj1 (l:List Spn):Prop:=(∀x∈l,-1000000000≤x.1∧x.1≤1000000000)∧l.length≤1000000
def J6b (xs ys:List Spn):Prop:=ys.Perm xs∧ys.Pairwise fun a b=>a.1≤b.1
theorem Jqz {p:Spn→Prop}:∀l:List Spn,(∀x∈l,p x)→∃zs:List {x:Spn//p x},l=zs.map Subtype.val
 |[],_=>⟨[],rfl⟩
 |x::l,h=>by
  obtain⟨zs,e⟩:=Jqz l fun y hy=>h y (List.mem_cons_of_mem _ hy)
  exact⟨⟨x,h x (List.mem_cons_self ..)⟩::zs,by rw[List.map_cons,←e]⟩
theorem Jvl:Jzz Tryz.prog 97 {T:=117,s:=H6,g:=98,pre:=Kj1,f:=id,rel:=some J6b}:=
 J1f (s:=H6) (T:=117) (β:=J34) (k:=2) Subtype.val Jtu (fun _=>rfl) rfl Jky Jxv Kj1 id J6b Kdk Jog Jxu
  (fun xs h=>Jqz xs h.1)
  (fun xs ys hp hs=>⟨hp.map _,List.pairwise_map.2 (hs.imp fun h=>Jf1.1 h)⟩)
  (fun xs h=>h.2)
def Keo:Con:={args:=[],ress:=[],owns:=[],pre:=fun _=>[False],spec:=fun _=>(),srt:=some {T:=117,s:=H6,g:=98,pre:=Kj1,f:=id,rel:=some J6b}}
theorem K7w:Ok Tryz.prog 97 Keo:=⟨⟨Tryz.f97,by kernel_rfl,by kernel_rfl,by kernel_rfl⟩,fun z hz=>(by cases hz;exact Jvl),fun F hF=>(by cases hF),fun h=>by cases h⟩
abbrev K56:=Uab.add K7w
def J7i:Con:={args:=[.val false (.list 188 Zn), .fn [(true,Zn)] (true,H6)],ress:=[(false, .list 117 H6)],owns:=[true],pre:=fun(l,(q,_),_)=>[l.length≤1000000,∀x∈l,Uk (q (x,()))],spec:=fun(l,(_,f),_)=>(l.map fun x=>f (x,()),())}
def Kci (a:Out×Unit→Spn) (b:Nat) (c:List Out):=List.map (fun(x:Out)=>a (x,PUnit.unit)) (List.take b c)
theorem K70:Ok Tryz.prog 93 J7i:=okW K56 Tryz.f93 (fun xx=>X6 (Jb2 188 117 Zn xx.1 (true,H6) true xx.2.1.1 xx.2.1.2)) fun xx=>by
 obtain⟨(l:List Out),⟨(q:Out×Unit→List Prop),(f:Out×Unit→Spn)⟩,_⟩:=xx
 refine(by kernel_rfl:(Z58 l→J5g l q→∃(x:Nat),Si (Ln l) (0=Nc x∧Sf l ((fun(x:Out×PUnit)=>q x)=q∧(fun(x:Out×PUnit)=>f x)=f∧List.length (Kci f x l)=0))∧x≤List.length l∧∀(x:Nat),x≤List.length l→Br (Z98 x l) (Tw (Z17 x l)∧(J5b q l x∧(List.length (Kci f x l)+1)*16≤140737488355328)∧Z22 x∧∃(y:Nat),Si (Ln l) (V0 x y∧Sf l ((fun(x:Out×PUnit)=>q x)=q∧(fun(x:Out×PUnit)=>f x)=f∧Kci f x l++[E2 (f (J5c l x))]=Kci f y l))∧J81 y l x) (Kci f x l=List.map (fun(x:Out)=>f (x,PUnit.unit)) l))=_).mp ?_
 delta Z17 Z22 Z58 Z98 V0 Jhk J0k J3h J3g J5j Kci J81 J5g Kbo J5c J5b Br Iw Bd Tw Sf Si Ln Nc B0 E2
 intro hb hq
 refine⟨(0:Nat),⟨rfl,rfl,rfl,rfl,rfl,by simp⟩,Nat.zero_le _,fun(k:Nat) hk=>⟨fun h=> ?_,fun h=> ?_⟩⟩
 ·have hlt:k<l.length:=by simpa using h
  refine⟨by omega,⟨hq (l.getD k Jb6) (Jd hlt),by simp only[List.length_map,List.length_take];omega⟩,by omega,(k+1:Nat),⟨rfl,by simp,rfl,rfl,rfl, ?_⟩,by omega,by omega⟩
  rw[←Uu (d:=Jb6) hlt,List.map_append];rfl
 ·have hlt:¬k<l.length:=by simpa using h
  rw[List.take_of_length_le (by omega)]
abbrev K55:=K56.add K70
def K9y:Con:={args:=[.val true Zn, .ref 9 .str],ress:=[Bo],owns:=[],pre:=fun _=>[],spec:=fun(x,s,_)=>(x.2.1.toList==s.toList,())}
theorem K7y:Ok Tryz.prog 95 K9y:=okW K55 Tryz.f95 na fun xx=>by
 obtain⟨⟨(n:ByteArray),(f:ByteArray),⟨(a:Int),(b:Int)⟩,(p:Int)⟩,(s:ByteArray),_⟩:=xx
 refine(by kernel_rfl:(Lb f s=Lb f s)=_).mp ?_
 delta Lb
 rfl
abbrev K54:=K55.add K7y
def K9x:Con:={args:=[.val true Zn],ress:=[(true,H6)],owns:=[],pre:=fun _=>[],spec:=fun(x,_)=>(x.2.2.1,())}
theorem K7x:Ok Tryz.prog 96 K9x:=okW K54 Tryz.f96 na fun xx=>by
 obtain⟨⟨(n:ByteArray),(f:ByteArray),⟨(a:Int),(b:Int)⟩,(p:Int)⟩,_⟩:=xx
 refine(by kernel_rfl:((a,b)=(a,b))=_).mp ?_
 rfl
abbrev K53:=K54.add K7x
def avL (st:Int):List Spn→Int×Int→Int×Int
 |[],a=>a
 |s::l,(n,last)=>avL st l (n-max 0 (min s.2 st-max s.1 last),max last (min s.2 st))
theorem J74 {st:Int} {a b:Spn} {l:List Spn} {p:Int×Int} (h:a.1=b.1):avL st (a::b::l) p=avL st (b::a::l) p:=by
 obtain⟨n,last⟩:=p
 simp only[avL]
 congr 1
 refine Prod.ext ?_ ?_<;>dsimp only<;>omega
theorem Jro {st:Int} {x:Spn} {bs:List Spn}:∀{us:List Spn} {p:Int×Int},(∀y∈us,y.1=x.1)→avL st (us++x::bs) p=avL st (x::(us++bs)) p
 |[],_,_=>rfl
 | y :: us, (n, last), h => by
  have h1:=Jro (st:=st) (x:=x) (bs:=bs) (us:=us) (p:=(n-max 0 (min y.2 st-max y.1 last),max last (min y.2 st))) fun z hz=>h z (List.mem_cons_of_mem _ hz)
  have e:avL st (y::(us++x::bs)) (n,last)=avL st (y::x::(us++bs)) (n,last):=by
   simp only[avL] at h1⊢
   exact h1
  rw[List.cons_append,e,J74 (h y (List.mem_cons_self ..)),List.cons_append]
theorem Jys {st:Int}:∀{xs ys:List Spn} {p:Int×Int},ys.Perm xs→(xs.Pairwise fun a b=>a.1≤b.1)→(ys.Pairwise fun a b=>a.1≤b.1)→avL st ys p=avL st xs p
 |[],ys,p,h,_,_=>by rw[List.Perm.eq_nil h]
 | x :: xs, ys, (n, last), h, h1, h2 => by
  have hx:x∈ys:=h.mem_iff.2 (List.mem_cons_self ..)
  obtain⟨us,bs,rfl⟩:=List.append_of_mem hx
  have h1:=List.pairwise_cons.1 h1
  have h2':=List.pairwise_append.1 h2
  have hk:∀y∈us,y.1=x.1:=fun y hy=>by
   have a1:=h2'.2.2 y hy x (List.mem_cons_self ..)
   have:y∈x::xs:=h.mem_iff.1 (List.mem_append_left _ hy)
   rcases List.mem_cons.1 this with rfl|hm
   ·rfl
   ·have:=h1.1 y hm
    omega
  rw[Jro hk]
  have hp:(us++bs).Perm xs:=((List.perm_middle (a:=x) (l₁:=us) (l₂:=bs)).symm.trans h).cons_inv
  have hs:(us++bs).Pairwise fun a b=>a.1≤b.1:=List.Pairwise.sublist (List.Sublist.append (List.Sublist.refl _) (List.sublist_cons_self ..)) h2
  show avL st (us++bs) _=avL st xs _
  exact Jys hp h1.2 hs
def J62 (x:Spn):List Spn→List Spn
 |[]=>[x]
 |y::r=>if x.1≤y.1 then x::y::r else y::J62 x r
def J1g:List Spn→List Spn
 |[]=>[]
 |x::r=>J62 x (J1g r)
theorem Jf8 (x:Spn):∀l,(J62 x l).Perm (x::l)
 |[]=> .refl _
 |y::r=>by
  simp only[J62]
  split
  ·exact .refl _
  ·exact((Jf8 x r).cons y).trans (.swap x y r)
theorem Jid:∀l,(J1g l).Perm l
 |[]=> .refl _
 |x::r=>(Jf8 x _).trans ((Jid r).cons x)
theorem Jf7 {x:Spn}:∀{l:List Spn},(l.Pairwise fun a b=>a.1≤b.1)→(J62 x l).Pairwise fun a b=>a.1≤b.1
 |[],_=>by simp[J62]
 | y :: r, h => by
  have h0:=List.pairwise_cons.1 h
  simp only[J62]
  split
  ·rename_i hlt
   refine List.pairwise_cons.2 ⟨fun z hz=> ?_,h⟩
   rcases List.mem_cons.1 hz with rfl|hz
   ·exact hlt
   ·exact Int.le_trans hlt (h0.1 z hz)
  ·rename_i hlt
   refine List.pairwise_cons.2 ⟨fun z hz=> ?_,Jf7 h0.2⟩
   rcases List.mem_cons.1 ((Jf8 x r).mem_iff.1 hz) with rfl|hz
   ·omega
   ·exact h0.1 z hz
theorem Jdb:∀{l:List Spn},(J1g l).Pairwise fun a b=>a.1≤b.1
 |[]=> .nil
 |x::r=>Jf7 Jdb
def Jmk (X:List Out) (s:ByteArray):List Spn:=(X.filter fun x=>x.2.1.toList==s.toList).map fun x=>x.2.2.1
def avN (st:Int) (X:List Out) (s:ByteArray):Int:=(avL st (J1g (Jmk X s)) (st,0)).1
def avE (l:List Ev) (s:ByteArray):Int:=Jg [opE l [s],bif (J3 l).2.1==0 then 6 else 0]
def avP (l:List Ev) (s:ByteArray):Int×Int:=if avE l s=0 then J4t (avN (J3 l).2.1 (J3 l).2.2.2.2.2.1 s) (J3 l).2.1 else(0,0)
def Kuy:Con:={args:=[.val false (.list 67 sEv),aS],ress:=[(true,H6),I],owns:=[],pre:=fun(l,_)=>[lOk l],spec:=fun(l,s,_)=>(avP l s,avE l s,())}
abbrev Kvb (l:List Ev) (s:ByteArray):Ann:={X:=Nat×Int×Int×List Spn,σ:=fun(k,n,last,ys)=>⟨14,[(4, .one (.ptr 2 0)),(6, .one (.ptr 9 0)),(9, .one (.int .i64 n)),(11, .one (.int .i64 last)),(43, .one (.sl 13)),(44, .one (.int .i64 ys.length)),(45, .one (.int .i64 k))],[(2, .box 54 [.int .i64 0, .int .i64 0]),(9, .box 105 [.int .i64 (J3 l).1, .int .i64 (J3 l).2.1, .sl 4, .sl 5, .sl 6, .sl 7, .sl 8]),(4, .imm 127 Fw (J3 l).2.2.1),(5, .imm 130 Lo (J3 l).2.2.2.1),(6, .imm 155 Ja4 (J3 l).2.2.2.2.1),(7, .imm 188 Zn (J3 l).2.2.2.2.2.1),(8, .imm 235 Hr (J3 l).2.2.2.2.2.2),(13, .own 117 H6 ys)]⟩,inv:=fun(k,n,last,ys)=>k≤ys.length∧J6b (Jmk (J3 l).2.2.2.2.2.1 s) ys∧(0≤last∧last≤(J3 l).2.1)∧((J3 l).2.1-last≤n∧n≤(J3 l).2.1)∧avL (J3 l).2.1 (ys.drop k) (n,last)=avL (J3 l).2.1 ys ((J3 l).2.1,0),mu:=fun(k,_,_,ys)=>ys.length-k}
def K31 (a:Nat×Int×Int×List Spn) (b:List Ev):=min (List.getD a.2.2.2 a.1 (0,0)).2 (J3 b).2.1
def K29 (a:List Ev) (b:Bt):=Jg [opE a [b],bif (J3 a).2.1==0 then 6 else 0]
def Kmo (a:Bt) (b:List Ev):=List.filter (fun(x:Out)=>List.beq (ByteArray.toList x.2.1) (ByteArray.toList a)) (J3 b).2.2.2.2.2.1
def Kzj (a:Bt) (b:List Ev):=List.map (fun(x:Out)=>x.2.2.1) (Kmo a b)
def Ky8 (a:Nat×Int×Int×List Spn) (b:List Ev):=K31 a b-max (List.getD a.2.2.2 a.1 (0,0)).1 a.2.2.1
def Kx7 (a:Nat×Int×Int×List Spn) (b:List Ev):=a.2.1-max 0 (Ky8 a b)
def Kxk (a:Nat×Int×Int×List (Int×Int)) (b:List Ev) (c:Bt):=a.1≤List.length a.2.2.2∧J6b (Jmk (J3 b).2.2.2.2.2.1 c) a.2.2.2∧(0≤a.2.2.1∧a.2.2.1≤(J3 b).2.1)∧((J3 b).2.1-a.2.2.1≤a.2.1∧a.2.1≤(J3 b).2.1)∧avL (J3 b).2.1 (List.drop a.1 a.2.2.2) (a.2.1,a.2.2.1)=avL (J3 b).2.1 a.2.2.2 ((J3 b).2.1,0)
theorem K80:Ok Tryz.prog 27 Kuy:=J4n K53 Tryz.f27 (U4 (l:=([]:List (Nat×Func))) (by simp)) (fun xx=>X6 (Kvb xx.1 xx.2.1)) (fun xx=>fun _=>na ()) fun xx=>by
 obtain⟨(l:List Ev),(s:ByteArray),_⟩:=xx
 refine(by kernel_rfl:(lOk l→(lOk l∧1≤1000000)∧2≤1000000∧Br (K29 l s !=0) (Sf true ((0,0)=avP l s∧K29 l s=avE l s)) ((List.length (J3 l).2.2.2.2.2.1≤1000000∧(∀(x:Out),x∈(J3 l).2.2.2.2.2.1→True)∧List.length (Kmo s l)≤1000000∧∀(x:Out),x∈Kmo s l→True)∧Kj1 (Kzj s l)∧∀(ys:List (Int×Int)),J6b (Kzj s l) ys→∃(x:Nat×Int×Int×List (Int×Int)),((J3 l).2.1=x.2.1∧0=x.2.2.1∧Ln ys=Ln x.2.2.2∧0=Nc x.1∧Si 0 (Si 0 ((J3 l).1=(J3 l).1∧(J3 l).2.1=(J3 l).2.1∧(J3 l).2.2.1=(J3 l).2.2.1∧Kjk l∧Kjh l∧Kjg l∧Kjf l∧ys=x.2.2.2)))∧Kxk x l s∧∀(x:Nat×Int×Int×List Spn),x.1≤List.length x.2.2.2∧J6b (Jmk (J3 l).2.2.2.2.2.1 s) x.2.2.2∧(0≤x.2.2.1∧x.2.2.1≤(J3 l).2.1)∧((J3 l).2.1-x.2.2.1≤x.2.1∧x.2.1≤(J3 l).2.1)∧avL (J3 l).2.1 (List.drop x.1 x.2.2.2) (x.2.1,x.2.2.1)=avL (J3 l).2.1 x.2.2.2 ((J3 l).2.1,0)→Br (decide (Nc x.1<Ln x.2.2.2)) (Tw (Bd (Nc x.1) (Ln x.2.2.2))∧(Iw (Ky8 x l)∧Iw (Kx7 x l))∧Iw (Nc x.1+1)∧∃(y:Nat×Int×Int×List (Int×Int)),(Kx7 x l=y.2.1∧max x.2.2.1 (K31 x l)=y.2.2.1∧Ln x.2.2.2=Ln y.2.2.2∧Nc x.1+1=Nc y.1∧Si 0 (Si 0 (Si (J3 l).1 (Si (J3 l).2.1 ((J3 l).2.2.1=(J3 l).2.2.1∧Kjk l∧Kjh l∧Kjg l∧Kjf l∧x.2.2.2=y.2.2.2)))))∧Kxk y l s∧List.length y.2.2.2-y.1<List.length x.2.2.2-x.1) (((0≤x.2.1∧x.2.1≤1000000000000)∧1≤(J3 l).2.1∧(J3 l).2.1≤1000000000000)∧Sf true (E2 (J4t x.2.1 (J3 l).2.1)=avP l s∧0=avE l s))))=_).mp ?_
 delta Kjk Kjh Kjg Kjf K31 K29 Kmo Kzj Ky8 Kx7 Kxk Br Iw Bd Tw Sf Si Ln Nc E2
 intro hl
 have hr:=Jff (l:=l)
 have hz:Jmk (J3 l).2.2.2.2.2.1 s=List.map (fun x=>x.2.2.1) (List.filter (fun x=>x.2.1.toList.beq s.toList) (J3 l).2.2.2.2.2.1):=rfl
 rw[←hz]
 have nX:(J3 l).2.2.2.2.2.1.length≤16:=hr.nX
 have hX:∀x∈Jmk (J3 l).2.2.2.2.2.1 s,Jnr x:=fun x hx=>by
  obtain⟨y,hy,rfl⟩:=List.mem_map.1 hx
  exact(hr.out y (List.mem_filter.1 hy).1).span
 have hlen:(Jmk (J3 l).2.2.2.2.2.1 s).length≤16:=by
  unfold Jmk
  rw[List.length_map]
  exact Nat.le_trans (List.length_filter_le _ _) nX
 have hst:=hr.st
 have htk:=hr.tk
 refine⟨⟨hl,by decide⟩,by decide,fun h=> ?_,fun h=>⟨⟨Nat.le_trans nX (by decide),fun _ _=>trivial,Nat.le_trans (List.length_filter_le _ _) (Nat.le_trans nX (by decide)),fun _ _=>trivial⟩,⟨fun x hx=> ?_,by omega⟩,fun ys hy=>⟨((0:Nat),(J3 l).2.1,0,ys),by(repeat' first|exact rfl|exact⟨⟩|apply And.intro|omega|dsimp only;omega),⟨Nat.zero_le _,hy,by(first|omega|dsimp only;omega),by(first|omega|dsimp only;omega),rfl⟩,fun(x:Nat×Int×Int×List Spn) hk=>⟨fun h1=> ?_,fun h1=> ?_⟩⟩⟩⟩
 ·have h:avE l s≠0:=bne_iff_ne.1 h
  refine⟨rfl, ?_,rfl⟩
  unfold avP;rw[if_neg h]
 ·have:=hX x hx
  have h1:=this.lo
  have h2:=this.mid
  have h3:=this.hi
  omega
 ·obtain⟨k,n,last,ys⟩:=x
  obtain⟨k1,k2,k3,k4,k5⟩:=hk
  have hlt:k<ys.length:=by simpa using h1
  have hx:=hX _ (k2.1.mem_iff.1 (Jd (d:=((0:Int),(0:Int))) hlt))
  have x1:=hx.lo
  have x2:=hx.mid
  have x3:=hx.hi
  dsimp only at k1 k2 k3 k4 k5
  rw[Jk (d:=((0:Int),(0:Int))) hlt,avL] at k5
  have hln:ys.length≤16:=by rw[k2.1.length_eq];exact hlen
  dsimp only
  generalize ys.getD k (0,0)=y at x1 x2 x3 k5⊢
  obtain⟨a,b⟩:=y
  dsimp only at x1 x2 x3 k5⊢
  refine⟨by omega,by omega,by omega,(k+1,n-max 0 (min b (J3 l).2.1-max a last),max last (min b (J3 l).2.1),ys),by(repeat' first|exact rfl|exact⟨⟩|apply And.intro|omega|dsimp only;omega),⟨by(first|omega|dsimp only;omega),k2,by(first|omega|dsimp only;omega),by(first|omega|dsimp only;omega),k5⟩,by(first|omega|dsimp only;omega)⟩
 ·obtain⟨k,n,last,ys⟩:=x
  obtain⟨k1,k2,k3,k4,k5⟩:=hk
  have hlt:¬k<ys.length:=by simpa using h1
  dsimp only at k1 k2 k3 k4 k5
  have e:k=ys.length:=by omega
  rw[e,List.drop_length,avL] at k5
  have h:avE l s=0:=bne_eq_false_iff_eq.1 h
  have hs:(J3 l).2.1≠0:=fun h0=>by
   have:=(Zw h).2
   rw[h0] at this
   exact absurd this (by decide)
  have e2:avN (J3 l).2.1 (J3 l).2.2.2.2.2.1 s=n:=by
   unfold avN
   rw[Jys (k2.1.trans (Jid _).symm) Jdb k2.2] at k5
   rw[←k5]
  refine⟨⟨by(first|omega|dsimp only;omega),by omega⟩,rfl, ?_,h.symm⟩
  unfold avP
  rw[if_pos h,e2]
abbrev K52:=K53.add K80
def J2m:Con:={args:=[aI],ress:=[tS],owns:=[],pre:=fun(n,_)=>[-(10^17:Int)<n,n<10^18],spec:=fun(n,_)=>(Vj n,())}
def J8y:=10^18
def J8x (a:Int):=a<J8y
def J8w:= -10^17
def J8u (a:Int):=J8w<a
theorem Ktp:Ok Tryz.prog 117 J2m:=okW K52 Tryz.f117 na fun xx=>by
 obtain⟨(n:Int),_⟩:=xx
 refine(by kernel_rfl:(J8u n→J8x n→(17≤18∧J8u n∧J8x n)∧Vj n=Vj n)=_).mp ?_
 delta J8y J8x J8w J8u
 intro h1 h2
 exact⟨⟨by decide,h1,h2⟩,rfl⟩
abbrev K51:=K52.add Ktp
def Jwc (s:ByteArray) (j:Nat):ByteArray:=bs (List.replicate j 48++Lib.itoa (Jal s))
abbrev J23 (s:ByteArray):Nat→Option Ann:=fun id=>if id=0 then some {X:=Nat×Int,σ:=fun(k,x)=>⟨0,[(0, .one (.str s)),(3, .one (.int .i64 x)),(4, .one (.int .i64 k))],[]⟩,inv:=fun(k,x)=>k≤s.size∧(0≤x∧x<9999721)∧Jg9 (s.data.toList.drop k) x=Jal s,mu:=fun(k,_)=>s.size-k}
 else if id=2 then some {X:=Nat,σ:=fun j=>⟨0,[(5, .one (.str (Jwc s j)))],[]⟩,inv:=fun j=>j+(Lib.itoa (Jal s)).length≤7,mu:=fun j=>7-j} else none
def Kpb (a:Nat) (b:Bt):=a+List.length (Lib.itoa (Jal b))≤7
theorem K8k:Ok Tryz.prog 67 K5d:=okW K51 Tryz.f67 (fun xx=>J23 xx.1) fun xx=>by
 obtain⟨(s:ByteArray),_⟩:=xx
 refine(by kernel_rfl:(ByteArray.size s≤1000000→∃(x:Nat×Int),Sf s (1=x.2∧0=Nc x.1)∧J8v x s∧∀(x:Nat×Int),J8v x s→Br (decide (Nc x.1<Nc (ByteArray.size s))) (Kks x s∧Z38 x∧∃(y:Nat×Int),Sf s (Km4 x s y∧Jt7 x y)∧Klp y s x) ((J8w<x.2∧x.2<J8y)∧∃(x_1:Nat),Vj x.2=Jwc s x_1∧Kpb x_1 s∧∀(x:Nat),Kpb x s→Br (decide (Nc (ByteArray.size (Jwc s x))<7)) (Nc (1+ByteArray.size (Jwc s x))≤9223372036854775807∧∃(y:Nat),ByteArray.mk (Array.mk (48::([]++(Jwc s x).data.toList)))=Jwc s y∧Kpb y s∧7-y<7-x) (Jwc s x=Dj s)))=_).mp ?_
 delta Z14 Z38 Jt7 Kpb Kof J8y J8w Km4 J8v Klp Kks Br Iw Bd Sf Nc
 intro hs
 refine⟨((0:Nat),(1:Int)),by(repeat' first|exact rfl|exact⟨⟩|apply And.intro|omega|dsimp only;omega),⟨Nat.zero_le _,by(first|omega|dsimp only;omega),rfl⟩,fun(y:Nat×Int) hk=>⟨fun h=> ?_,fun h=> ?_⟩⟩
 ·obtain⟨k,x⟩:=y
  have hlt:k<s.size:=by simpa using h
  obtain⟨k1,k2,k3⟩:=hk
  dsimp only at k1 k2
  rw[D2 hlt,Jg9] at k3
  have hb:=Jyf s k
  refine⟨by(repeat' first|apply And.intro|(first|omega|dsimp only;omega)),by(repeat' first|apply And.intro|(first|omega|dsimp only;omega)),(k+1,(341*x+((s.data.toList.getD k 0).toNat:Int)).tmod 9999721),by(repeat' first|exact rfl|exact⟨⟩|apply And.intro|omega|dsimp only;omega),⟨by(first|omega|dsimp only;omega),⟨Int.tmod_nonneg _ (by omega),Int.tmod_lt_of_pos _ (by decide)⟩,k3⟩,by(first|omega|dsimp only;omega)⟩
 ·obtain⟨k,x⟩:=y
  have hlt:¬k<s.size:=by simpa using h
  obtain⟨k1,k2,k3⟩:=hk
  have e:k=s.size:=by omega
  rw[e,List.drop_eq_nil_of_le (by simp),Jg9] at k3
  have k3:x=Jal s:=k3
  have hl:=Jjq s
  dsimp only
  rw[k3]
  have hb:=Je1 s
  have hsz:∀j,(Jwc s j).size=j+(Lib.itoa (Jal s)).length:=fun j=>by
   unfold Jwc
   rw[Kc,List.length_append,List.length_replicate]
  refine⟨⟨by omega,by omega⟩,(0:Nat),rfl,by omega,fun(j:Nat) hj=>⟨fun h=> ?_,fun h=> ?_⟩⟩
  ·have h:((Jwc s j).size:Int)<7:=of_decide_eq_true h
   have hz:=hsz j
   refine⟨by omega,j+1,rfl,by omega,by omega⟩
  ·have h:¬((Jwc s j).size:Int)<7:=of_decide_eq_false h
   have hz:=hsz j
   have:j=7-(Lib.itoa (Jal s)).length:=by omega
   rw[this];rfl
abbrev K50:=K51.add K8k
theorem Jmx:∀{l:List (List UInt8)} {b:Nat},(∀x∈l,x.length≤b)→(Lib.join l []).length≤b*l.length
 |[],_,_=>by simp[Lib.join,List.intercalate]
 |[x],b,h=>by
  have:=h x (List.mem_cons_self ..)
  simpa[Lib.join,List.intercalate,List.intersperse] using this
 |x::y::r,b,h=>by
  have ih:=Jmx (l:=y::r) fun z hz=>h z (List.mem_cons_of_mem _ hz)
  have hx:=h x (List.mem_cons_self ..)
  have e:Lib.join (x::y::r) []=x++Lib.join (y::r) []:=by simp[Lib.join,List.intercalate,List.intersperse]
  rw[e,List.length_append,List.length_cons,Nat.mul_add]
  omega
def J7q:Con:={args:=[.ref 212 Jhn],ress:=[(false, .list 67 sEv)],owns:=[],pre:=fun(h,_)=>[h.1.length≤1000,∀e∈h.1,Jdl e],spec:=fun(h,_)=>(h.1,())}
def Kmb (a:List Ev):=∀(x:Ev),J0o a x→J8z x
theorem K8s:Ok Tryz.prog 41 J7q:=okW K50 Tryz.f41 na fun xx=>by
 obtain⟨⟨(E:List Ev),(C:List Ev),(G:List Reg)⟩,_⟩:=xx
 refine(by kernel_rfl:(List.length E≤1000→(∀(e:Ev),J0o E e→Jdl e)→Br false ([]=E) ((Z45 E∧Kmb E)∧List.map (fun(x:Ev)=>x) E=E))=_).mp ?_
 delta Z45 J0o J8z Kmb Br
 intro h1 h2
 refine⟨fun h=>(nomatch h),fun _=>⟨⟨by omega,fun x hx=>⟨(h2 x hx).1,(h2 x hx).2.1⟩⟩,List.map_id' _⟩⟩
abbrev K5z:=K50.add K8s
def J6u (l:List Ev):ByteArray:=Vi (l.map Jeb) Ja
def K9n:Con:={args:=[.ref 212 Jhn],ress:=[tS],owns:=[],pre:=fun(h,_)=>[h.1.length≤1000,∀e∈h.1,Y2 e],spec:=fun(h,_)=>(J6u h.1,())}
def Kph (a:List Ev):=List.map (fun(x:Ev)=>Jeb x) a
def K4k (a:List Ev):=∀(x:Ev),J0o a x→Y2 x
theorem K8r:Ok Tryz.prog 42 K9n:=okW K5z Tryz.f42 na fun xx=>by
 obtain⟨⟨(E:List Ev),(C:List Ev),(G:List Reg)⟩,_⟩:=xx
 refine(by kernel_rfl:(List.length E≤1000→K4k E→Br false (B0=J6u E) ((Z45 E∧K4k E∧List.length (Kph E)≤1000000∧List.length (Lib.join (List.map (fun(x:ByteArray)=>Z14 x) (Kph E)) [])≤140737488355328)∧Vi (Kph E) B0=J6u E))=_).mp ?_
 delta Z14 Z45 Kph J0o K4k Br B0
 intro h1 h2
 refine⟨fun h=>(nomatch h),fun _=>⟨⟨by omega,h2,by rw[List.length_map];omega, ?_⟩,rfl⟩⟩
 refine Nat.le_trans (Jmx (b:=2000000) fun z hz=> ?_) ?_
 ·rw[List.map_map] at hz
  obtain⟨e,he,rfl⟩:=List.mem_map.1 hz
  have:=Jfi (h2 e he)
  have:=Jen (h2 e he)
  show(Jeb e).size≤2000000
  omega
 ·rw[List.length_map,List.length_map];omega
abbrev Uaa:=K5z.add K8r
def Jsx:List Say:=[(⟨⟨[115,116,97,116,105,111,110,32,97,32,48,32,49,48]⟩⟩,⟨⟨[100,111,110,101,32,49]⟩⟩,0),(⟨⟨[115,116,97,116,105,111,110,32,98,32,48,32,56]⟩⟩,⟨⟨[100,111,110,101,32,50]⟩⟩,0),(⟨⟨[112,114,105,99,101,32,97,32,48,32,53]⟩⟩,⟨⟨[100,111,110,101,32,51]⟩⟩,0),(⟨⟨[111,114,100,101,114,32,111,49,32,97,32,98,32,49,32,50,32,53,32,54]⟩⟩,⟨⟨[100,111,110,101,32,52]⟩⟩,0),(⟨⟨[111,114,100,101,114,32,111,50,32,98,32,97,32,49,32,50,32,53,32,51]⟩⟩,⟨⟨[]⟩⟩,4),(⟨⟨[111,117,116,97,103,101,32,121,32,98,32,49,32,51,32,52,32,53]⟩⟩,⟨⟨[]⟩⟩,24),(⟨⟨[111,117,116,97,103,101,32,120,32,98,32,49,32,53,32,55,32,48]⟩⟩,⟨⟨[100,111,110,101,32,53]⟩⟩,0),(⟨⟨[112,101,114,109,105,116,32,112,32,120,32,53]⟩⟩,⟨⟨[100,111,110,101,32,54]⟩⟩,0),(⟨⟨[109,105,115,115,105,110,103]⟩⟩,⟨⟨[111,49,32,50,32,111,49,32,51,32,111,49,32,52]⟩⟩,0),(⟨⟨[111,117,116,97,103,101,115]⟩⟩,⟨⟨[120]⟩⟩,0),(⟨⟨[116,114,105,112,32,111,49,32,53]⟩⟩,⟨⟨[]⟩⟩,23),(⟨⟨[109,101,116,101,114,32,111,49,32,53,32,50,32,54,32,54]⟩⟩,⟨⟨[100,111,110,101,32,55]⟩⟩,0),(⟨⟨[109,101,116,101,114,32,111,49,32,53,32,51,32,54,32,53]⟩⟩,⟨⟨[100,111,110,101,32,56]⟩⟩,0),(⟨⟨[115,101,116,116,108,101,32,53,32,53]⟩⟩,⟨⟨[]⟩⟩,32),(⟨⟨[109,101,116,101,114,32,111,49,32,53,32,52,32,52,32,51]⟩⟩,⟨⟨[100,111,110,101,32,57]⟩⟩,0),(⟨⟨[109,105,115,115,105,110,103]⟩⟩,⟨⟨[110,111,110,101]⟩⟩,0),(⟨⟨[115,101,116,116,108,101,32,53,32,54]⟩⟩,⟨⟨[]⟩⟩,14),(⟨⟨[115,101,116,116,108,101,32,53,32,53]⟩⟩,⟨⟨[100,111,110,101,32,49,48]⟩⟩,0),(⟨⟨[117,110,100,111]⟩⟩,⟨⟨[]⟩⟩,21),(⟨⟨[98,105,108,108,32,111,49]⟩⟩,⟨⟨[51,32,49,54,32,49,52,32,55,48,32,49,50]⟩⟩,0),(⟨⟨[98,97,108,97,110,99,101,32,98]⟩⟩,⟨⟨[45,53,56]⟩⟩,0),(⟨⟨[114,97,116,101,32,97]⟩⟩,⟨⟨[53]⟩⟩,0),(⟨⟨[114,101,115,116,111,114,101,32,120,32,54]⟩⟩,⟨⟨[]⟩⟩,32),(⟨⟨[112,101,114,109,105,116,115]⟩⟩,⟨⟨[112]⟩⟩,0),(⟨⟨[114,101,116,117,114,110,32,112,32,54]⟩⟩,⟨⟨[100,111,110,101,32,49,49]⟩⟩,0),(⟨⟨[114,101,115,116,111,114,101,32,120,32,54]⟩⟩,⟨⟨[100,111,110,101,32,49,50]⟩⟩,0),(⟨⟨[115,101,116,116,108,101,32,56,32,56]⟩⟩,⟨⟨[100,111,110,101,32,49,51]⟩⟩,0),(⟨⟨[115,101,116,116,108,101,100]⟩⟩,⟨⟨[56]⟩⟩,0)]
def F3:List Ev:=[(1,⟨⟨[115,116,97,116,105,111,110]⟩⟩,[⟨⟨[97]⟩⟩],[0,10],⟨⟨[]⟩⟩),(2,⟨⟨[115,116,97,116,105,111,110]⟩⟩,[⟨⟨[98]⟩⟩],[0,8],⟨⟨[]⟩⟩),(3,⟨⟨[112,114,105,99,101]⟩⟩,[⟨⟨[97]⟩⟩],[0,5],⟨⟨[]⟩⟩),(4,⟨⟨[111,114,100,101,114]⟩⟩,[⟨⟨[111,49]⟩⟩,⟨⟨[97]⟩⟩,⟨⟨[98]⟩⟩],[1,2,5,6],⟨⟨[]⟩⟩),(5,⟨⟨[111,117,116,97,103,101]⟩⟩,[⟨⟨[120]⟩⟩,⟨⟨[98]⟩⟩],[1,5,7,0],⟨⟨[]⟩⟩),(6,⟨⟨[112,101,114,109,105,116]⟩⟩,[⟨⟨[112]⟩⟩,⟨⟨[120]⟩⟩],[5],⟨⟨[]⟩⟩),(7,⟨⟨[109,101,116,101,114]⟩⟩,[⟨⟨[111,49]⟩⟩],[5,2,6,6],⟨⟨[]⟩⟩),(8,⟨⟨[109,101,116,101,114]⟩⟩,[⟨⟨[111,49]⟩⟩],[5,3,6,5],⟨⟨[]⟩⟩),(9,⟨⟨[109,101,116,101,114]⟩⟩,[⟨⟨[111,49]⟩⟩],[5,4,4,3],⟨⟨[]⟩⟩),(10,⟨⟨[115,101,116,116,108,101]⟩⟩,[],[5,5],⟨⟨[]⟩⟩),(11,⟨⟨[114,101,116,117,114,110]⟩⟩,[⟨⟨[112]⟩⟩],[6],⟨⟨[]⟩⟩),(12,⟨⟨[114,101,115,116,111,114,101]⟩⟩,[⟨⟨[120]⟩⟩],[6],⟨⟨[]⟩⟩),(13,⟨⟨[115,101,116,116,108,101]⟩⟩,[],[8,8],⟨⟨[]⟩⟩)]
def K49:List Ev:=(Jeo Xd Jsx).1.2.1
def K48:List Reg:=(Jeo Xd Jsx).1.2.2
theorem Jyy:Jeo Xd Jsx=((F3,K49,K48),true):=by kernel_rfl
def K9w:X7:={T? :=some 212,s:=Jhn,args:=[.val false (.list 147 Kqh)],ress:=[Bo],pre:=fun h (l,_)=>[h=Xd,l=Jsx],spec:=fun _ _=>(true,()),post:=fun _ _=>(F3,K49,K48)}
theorem Jvp:Jsx.length≤1000000∧∀x∈Jsx,x.1.size≤1000000:=by
 refine⟨by decide,fun x hx=> ?_⟩
 have:(Jsx.all fun x=>decide (x.1.size≤1000000))=true:=by kernel_rfl
 exact of_decide_eq_true (List.all_eq_true.1 this x hx)
theorem J1u {f:FuncId} {c:X7} {p:c.s.T→ATup c.args→List Prop} {sp:c.s.T→ATup c.args→Tup c.ress} {q:c.s.T→ATup c.args→c.s.T} (h1:OkO Tryz.prog f c) (h:∀x y,Uk (p x y)→Uk (c.pre x y)∧sp x y=c.spec x y∧q x y=c.post x y):OkO Tryz.prog f {c with pre:=p,spec:=sp,post:=q}:=
 ⟨h1.1,fun x y M R B w b T cells vals vs hB hMR hg hw hBb hMb hRb hT ho hv hpre ha=>by
  obtain⟨hp,e1,e2⟩:=h x y hpre
  have H:=h1.2 x y M R B w b T cells vals vs hB hMR hg hw hBb hMb hRb hT ho hv hp ha
  dsimp only
  rw[e1,e2]
  exact H⟩
theorem Kqm:OkO Tryz.prog 66 Kbk:=Ue mixed Kpl.ok (by kernel_rfl) (by kernel_rfl) (U4 (l:=([]:List (Nat×Func))) (by simp)) (fun xx yy=>X6 (Jy5 (xx.1,xx.2.1,xx.2.2) yy.1)) (fun xx yy=>fun _=>na ()) fun T xx yy hT=>by obtain rfl:=hT _ rfl;exact K42 xx.1 xx.2.1 xx.2.2 yy.1
theorem Kqp:Ok Tryz.prog 66 (X7.con K9w):=Za (J1u (c:=Kbk) Kqm fun x y hp=>by
 obtain⟨rfl,e⟩:=hp
 obtain⟨l,_⟩:=y
 have e:l=Jsx:=e
 subst e
 exact⟨⟨Ze,Jw8,Jvp.1,Jvp.2⟩,by rw[show Kbk.spec Xd (Jsx,())=((Jeo Xd Jsx).2,()) from rfl,Jyy],by rw[show Kbk.post Xd (Jsx,())=(Jeo Xd Jsx).1 from rfl,Jyy]⟩)
abbrev K4x:=Uaa.add Kqp
theorem Jre:F3.length=13:=by kernel_rfl
theorem Jo9:∀e∈F3,Jdl e:=fun e he=>by
 have:(F3.all fun e=>decide (e.2.2.1.length≤1000000)&&decide (e.2.2.2.1.length≤1000000)&&e.2.2.1.all fun s=>decide (s.size≤1000000))=true:=by kernel_rfl
 have h:=List.all_eq_true.1 this e he
 simp only[Bool.and_eq_true] at h
 exact⟨of_decide_eq_true h.1.1,of_decide_eq_true h.1.2,fun s hs=>of_decide_eq_true (List.all_eq_true.1 h.2 s hs)⟩
theorem J66:∀e∈F3,Jb e=0:=fun e he=>by
 have:(F3.all fun e=>Jb e==0)=true:=by kernel_rfl
 exact eq_of_beq (List.all_eq_true.1 this e he)
theorem Jpa (n:Nat):lOk (F3.take n):=⟨by have:=Jre;rw[List.length_take];omega,fun e he=>Jo9 e (List.mem_of_mem_take he)⟩
def J49:Con:={args:=[],ress:=[Bo],owns:=[],pre:=fun _=>[],spec:=fun _=>(true,())}
def Z97:=[(32:UInt8),(56:UInt8)]
def Kde:=[(32:UInt8),(54:UInt8)]
def Kpk:=[(32:UInt8),(51:UInt8)]
def J5v:=[(32:UInt8),(53:UInt8)]
def Kjj:=ByteArray.mk (Array.mk [98])
def Kpg:=ByteArray.mk (Array.mk [97])
def K4v:=32::53::Kde
def Kom:=[(98:UInt8),(105:UInt8),(108:UInt8),(108:UInt8),(32:UInt8),(111:UInt8),(49:UInt8)]
def K0z:=ByteArray.mk (Array.mk (115::101::116::116::108::101::32::53::J5v))
def K0d:=ByteArray.mk (Array.mk (114::101::115::116::111::114::101::32::120::Kde))
def Kzq:=Jhp (List.take 6 F3) Kpg 3+Jhp (List.take 6 F3) Kjj 5
def Kxu:=Kzq+Jno F3 Kpg Kjj
def Kxq:=Kxu+Jhr F3 4
def Kxl:=Kxq+(Jck F3).2
def Kwv:=Kxl+avE (List.take 10 F3) Kjj
def Kwj:=Kwv+avE F3 Kjj
theorem K7r:wpFG Tryz.prog K4x.g (na ()) (fun _=>na ()) (Sx.look ([(65,Tryz.f65)]:List (Nat×Func))) Tryz.f14 J49 ():=by
 refine(by kernel_rfl:((([],[],[])=Xd∧[(ByteArray.mk (Array.mk [115,116,97,116,105,111,110,32,97,32,48,32,49,48]),ByteArray.mk (Array.mk [100,111,110,101,32,49]),0),(ByteArray.mk (Array.mk (115::116::97::116::105::111::110::32::98::32::48::Z97)),ByteArray.mk (Array.mk [100,111,110,101,32,50]),0),(ByteArray.mk (Array.mk (112::114::105::99::101::32::97::32::48::J5v)),ByteArray.mk (Array.mk (100::111::110::101::Kpk)),0),(ByteArray.mk (Array.mk (111::114::100::101::114::32::111::49::32::97::32::98::32::49::32::50::K4v)),ByteArray.mk (Array.mk [100,111,110,101,32,52]),0),(ByteArray.mk (Array.mk (111::114::100::101::114::32::111::50::32::98::32::97::32::49::32::50::32::53::Kpk)),B0,4),(ByteArray.mk (Array.mk (111::117::116::97::103::101::32::121::32::98::32::49::32::51::32::52::J5v)),B0,24),(ByteArray.mk (Array.mk [111,117,116,97,103,101,32,120,32,98,32,49,32,53,32,55,32,48]),ByteArray.mk (Array.mk (100::111::110::101::J5v)),0),(ByteArray.mk (Array.mk (112::101::114::109::105::116::32::112::32::120::J5v)),ByteArray.mk (Array.mk (100::111::110::101::Kde)),0),(Ud,ByteArray.mk (Array.mk [111,49,32,50,32,111,49,32,51,32,111,49,32,52]),0),(Uh,ByteArray.mk (Array.mk [120]),0),(ByteArray.mk (Array.mk (116::114::105::112::32::111::49::J5v)),B0,23),(ByteArray.mk (Array.mk (109::101::116::101::114::32::111::49::32::53::32::50::32::54::Kde)),ByteArray.mk (Array.mk [100,111,110,101,32,55]),0),(ByteArray.mk (Array.mk (109::101::116::101::114::32::111::49::32::53::32::51::32::54::J5v)),ByteArray.mk (Array.mk (100::111::110::101::Z97)),0),(K0z,B0,32),(ByteArray.mk (Array.mk (109::101::116::101::114::32::111::49::32::53::32::52::32::52::Kpk)),ByteArray.mk (Array.mk [100,111,110,101,32,57]),0),(Ud,Jnz,0),(ByteArray.mk (Array.mk (115::101::116::116::108::101::K4v)),B0,14),(K0z,ByteArray.mk (Array.mk [100,111,110,101,32,49,48]),0),(Jy,B0,21),(ByteArray.mk (Array.mk Kom),ByteArray.mk (Array.mk [51,32,49,54,32,49,52,32,55,48,32,49,50]),0),(ByteArray.mk (Array.mk [98,97,108,97,110,99,101,32,98]),ByteArray.mk (Array.mk [45,53,56]),0),(ByteArray.mk (Array.mk [114,97,116,101,32,97]),ByteArray.mk (Array.mk [53]),0),(K0d,B0,32),(Ug,ByteArray.mk (Array.mk [112]),0),(ByteArray.mk (Array.mk (114::101::116::117::114::110::32::112::Kde)),ByteArray.mk (Array.mk [100,111,110,101,32,49,49]),0),(K0d,ByteArray.mk (Array.mk [100,111,110,101,32,49,50]),0),(ByteArray.mk (Array.mk (115::101::116::116::108::101::32::56::Z97)),ByteArray.mk (Array.mk [100,111,110,101,32,49,51]),0),(Uf,ByteArray.mk (Array.mk [56]),0)]=Jsx)∧Br false (Sf true (false=true)) ((13≤1000∧∀(e:Ev),e∈F3→Jdl e)∧Br false (Sf true (false=true)) (T2 (((0:Int)≤0∧(0:Int)≤6∧(6:Int)≤13)∧lOk (List.take 6 F3)) (lOk F3∧T2 (lOk F3) ((((0:Int)≤0∧(0:Int)≤10∧(10:Int)≤13)∧lOk (List.take 10 F3))∧T2 (lOk F3) ((13≤1000∧∀(e:Ev),e∈F3→Y2 e)∧(325:Int)≤9223372036854775807∧(Iw Kzq∧Iw Kxu∧Iw Kxq∧Iw Kxl∧Iw Kwv∧Iw Kwj∧Iw (Kwj+Zk F3 Kpg)∧(true=true→2≤1000000))∧Tw (true=true)))))))=_).mp ?_
 delta Z97 Kde Kpk J5v Kjj Kpg K4v Jnz Kom K0z K0d Kzq Kxu Kxq Kxl Kwv Kwj Br Iw T2 Tw Sf B0 Ud Uh Ug Uf Jy
 have ok:lOk F3:=⟨by rw[Jre];decide,Jo9⟩
 have z1:Jhp (List.take 6 F3) {data:={toList:=[97]}} 3=0:=by kernel_rfl
 have z2:Jhp (List.take 6 F3) {data:={toList:=[98]}} 5=0:=by kernel_rfl
 have z3:Jno F3 {data:={toList:=[97]}} {data:={toList:=[98]}}=0:=by kernel_rfl
 have z4:Jhr F3 4=0:=by kernel_rfl
 have z5:(Jck F3).2=0:=by kernel_rfl
 have z6:avE (List.take 10 F3) {data:={toList:=[98]}}=0:=by kernel_rfl
 have z7:avE F3 {data:={toList:=[98]}}=0:=by kernel_rfl
 have z8:Zk F3 {data:={toList:=[97]}}=0:=by kernel_rfl
 rw[z1,z2,z3,z4,z5,z6,z7,z8]
 exact⟨⟨rfl,rfl⟩,fun h=>(nomatch h),fun _=>⟨⟨by decide,Jo9⟩,fun h=>(nomatch h),fun _=>⟨⟨by omega,Jpa 6⟩,⟨by omega,Jpa 6⟩,ok,ok,ok,⟨by omega,Jpa 10⟩,ok,ok,⟨by decide,fun e he=>Jg0 (J66 e he)⟩,by decide,⟨by decide,by decide,by decide,by decide,by decide,by decide,by decide,fun _=>by decide⟩,rfl,rfl⟩⟩⟩
theorem K88:Ok Tryz.prog 14 J49:=Jft mixed K4x.ok (by kernel_rfl) (by kernel_rfl) (U4 (l:=([(65,Tryz.f65)]:List (Nat×Func))) (List.forall_mem_cons.2 ⟨by kernel_rfl,by simp⟩)) (fun xx=>na ()) (fun xx=>fun _=>na ()) fun xx=>K7r
abbrev K5y:=K4x.add K88
def eqL {α:Type} (p:α→α→Bool):List α→List α→Bool
 |[],[]=>true
 |x::l,y::r=>bif p x y then eqL p l r else false
 |_,_=>false
theorem Jrc {α:Type} {p:α→α→Bool}:∀{l r:List α},l.length≠r.length→eqL p l r=false
 |[],[],h=>absurd rfl h
 |[],_::_,_=>rfl
 |_::_,[],_=>rfl
 |x::l,y::r,h=>by
  unfold eqL
  rw[Jrc (fun e=>h (by rw[List.length_cons,List.length_cons,e]))]
  cases p x y<;>rfl
theorem Jei {α:Type} {p:α→α→Bool} (h:∀x,p x x=true):∀l:List α,eqL p l l=true
 |[]=>rfl
 |x::l=>by unfold eqL;rw[h x,cond_true];exact Jei h l
def Jap (a b:ByteArray):Bool:= !(a.toList !=b.toList)
def Jao (a b:Int):Bool:= !(a !=b)
abbrev Jpr (T:TypeId) (s:Sch) (p:s.T→s.T→Bool) (xs ys:List s.T):Ann:={X:=Nat,σ:=fun k=>⟨2,[(0, .one (.sl 0)),(1, .one (.sl 1)),(5, .one (.int .i64 k))],[(0, .imm T s xs),(1, .imm T s ys)]⟩,inv:=fun k=>k≤xs.length∧xs.length=ys.length∧eqL p (xs.drop k) (ys.drop k)=eqL p xs ys,mu:=fun k=>xs.length-k}
def Ket (T:TypeId) (s:Sch) (p:s.T→s.T→Bool):Con:={args:=[.val false (.list T s), .val false (.list T s)],ress:=[Bo],owns:=[],pre:=fun(xs,_)=>[xs.length≤1000000],spec:=fun(xs,ys,_)=>(eqL p xs ys,())}
def Keq:Con:=Ket 9 .str Jap
def Klh (a:Nat) (b c:Ls):=Z48 a b∧List.length b=List.length c∧eqL Jap (List.drop a b) (List.drop a c)=eqL Jap b c
theorem K74:Ok Tryz.prog 89 Keq:=okW K5y Tryz.f89 (fun xx=>X6 (Jpr 9 .str Jap xx.1 xx.2.1)) fun xx=>by
 obtain⟨(xs:List ByteArray),(ys:List ByteArray),_⟩:=xx
 refine(by kernel_rfl:(Fm xs→Br (Ln xs !=Ln ys) (false=eqL Jap xs ys) (∃(x:Nat),(0=Nc x∧Sf xs (ys=ys))∧Klh x xs ys∧∀(x:Nat),Klh x xs ys→Br (decide (Nc x<Ln xs)) (T2 (Z84 x xs) (Tw (Z84 x ys))∧Br (!Lb (Z18 xs x) (Z18 ys x)) (false=eqL Jap xs ys) (Z22 x∧∃(y:Nat),(V0 x y∧Sf xs (ys=ys))∧Klh y xs ys∧J5l xs y x)) (true=eqL Jap xs ys)))=_).mp ?_
 delta Z18 Z22 Z48 Z84 V0 Fm J5l Klh Br Iw Bd T2 Tw Sf Ln Nc B0 Lb
 intro hl
 refine⟨fun h=> ?_,fun h=>⟨(0:Nat),by(repeat' first|exact rfl|exact⟨⟩|apply And.intro|omega|dsimp only;omega),⟨Nat.zero_le _, ?_,rfl⟩,fun(k:Nat) hk=>⟨fun h1=> ?_,fun h1=> ?_⟩⟩⟩
 ·have h:((xs.length:Int) !=ys.length)=true:=h
  exact(Jrc (by have:=bne_iff_ne.1 h;omega)).symm
 ·have h:((xs.length:Int) !=ys.length)=false:=h
  have:=bne_eq_false_iff_eq.1 h
  omega
 ·obtain⟨k1,k2,k3⟩:=hk
  have hlt:k<xs.length:=by simpa using h1
  rw[Jk (l:=xs) (d:=Ja) hlt,Jk (l:=ys) (d:=Ja) (by omega),eqL] at k3
  refine⟨by(repeat' first|apply And.intro|(first|omega|dsimp only;omega)),fun h2=> ?_,fun h2=> ?_⟩
  ·have h2:Jap (xs.getD k Ja) (ys.getD k Ja)=false:=by unfold Jap;rw[show((xs.getD k Ja).toList !=(ys.getD k Ja).toList)=true from h2];rfl
   rw[h2] at k3;exact k3
  ·have h2:Jap (xs.getD k Ja) (ys.getD k Ja)=true:=by unfold Jap;rw[show((xs.getD k Ja).toList !=(ys.getD k Ja).toList)=false from h2];rfl
   rw[h2] at k3
   exact⟨by(repeat' first|apply And.intro|(first|omega|dsimp only;omega)),(k+1:Nat),by(repeat' first|exact rfl|exact⟨⟩|apply And.intro|omega|dsimp only;omega),⟨by omega,k2,k3⟩,by omega⟩
 ·obtain⟨k1,k2,k3⟩:=hk
  have hlt:¬k<xs.length:=by simpa using h1
  rw[List.drop_eq_nil_of_le (by omega),List.drop_eq_nil_of_le (by omega)] at k3
  exact k3
abbrev K5x:=K5y.add K74
def Ker:Con:=Ket 3 sI Jao
def Kl5 (a:Nat) (b c:Li):=a≤List.length b∧List.length b=List.length c∧eqL Jao (List.drop a b) (List.drop a c)=eqL Jao b c
theorem K73:Ok Tryz.prog 90 Ker:=okW K5x Tryz.f90 (fun xx=>X6 (Jpr 3 sI Jao xx.1 xx.2.1)) fun xx=>by
 obtain⟨(xs:List Int),(ys:List Int),_⟩:=xx
 refine(by kernel_rfl:(Z66 xs→Br (Ln xs !=Ln ys) (false=eqL Jao xs ys) (∃(x:Nat),(0=Nc x∧Sf xs (ys=ys))∧Kl5 x xs ys∧∀(x:Nat),Kl5 x xs ys→Br (Z94 x xs) (T2 (Bd (Nc x) (Ln xs)) (Z90 x ys)∧Br (Z21 xs x !=Z21 ys x) (false=eqL Jao xs ys) (Z22 x∧∃(y:Nat),(V0 x y∧Sf xs (ys=ys))∧Kl5 y xs ys∧J0l xs y x)) (true=eqL Jao xs ys)))=_).mp ?_
 delta Z21 Z22 Z66 Z90 Z94 V0 J0l Kl5 Br Iw Bd T2 Tw Sf Ln Nc
 intro hl
 refine⟨fun h=> ?_,fun h=>⟨(0:Nat),by(repeat' first|exact rfl|exact⟨⟩|apply And.intro|omega|dsimp only;omega),⟨Nat.zero_le _, ?_,rfl⟩,fun(k:Nat) hk=>⟨fun h1=> ?_,fun h1=> ?_⟩⟩⟩
 ·have h:((xs.length:Int) !=ys.length)=true:=h
  exact(Jrc (by have:=bne_iff_ne.1 h;omega)).symm
 ·have h:((xs.length:Int) !=ys.length)=false:=h
  have:=bne_eq_false_iff_eq.1 h
  omega
 ·obtain⟨k1,k2,k3⟩:=hk
  have hlt:k<xs.length:=by simpa using h1
  rw[Jk (l:=xs) (d:=(0:Int)) hlt,Jk (l:=ys) (d:=(0:Int)) (by omega),eqL] at k3
  refine⟨by(repeat' first|apply And.intro|(first|omega|dsimp only;omega)),fun h2=> ?_,fun h2=> ?_⟩
  ·have h2:Jao (xs.getD k 0) (ys.getD k 0)=false:=by unfold Jao;rw[show(xs.getD k 0 !=ys.getD k 0)=true from h2];rfl
   rw[h2] at k3;exact k3
  ·have h2:Jao (xs.getD k 0) (ys.getD k 0)=true:=by unfold Jao;rw[show(xs.getD k 0 !=ys.getD k 0)=false from h2];rfl
   rw[h2] at k3
   exact⟨by(repeat' first|apply And.intro|(first|omega|dsimp only;omega)),(k+1:Nat),by(repeat' first|exact rfl|exact⟨⟩|apply And.intro|omega|dsimp only;omega),⟨by omega,k2,k3⟩,by omega⟩
 ·obtain⟨k1,k2,k3⟩:=hk
  have hlt:¬k<xs.length:=by simpa using h1
  rw[List.drop_eq_nil_of_le (by omega),List.drop_eq_nil_of_le (by omega)] at k3
  exact k3
abbrev K5w:=K5x.add K73
def J2h (a b:Ev):Bool:=bif bif bif bif a.1 !=b.1 then true else !(a.2.1.toList==b.2.1.toList) then true else !eqL Jap a.2.2.1 b.2.2.1 then true else !eqL Jao a.2.2.2.1 b.2.2.2.1 then true else !(a.2.2.2.2.toList==b.2.2.2.2.toList)
def Hi (a b:Ev):Bool:= !J2h a b
theorem Js0 (a:ByteArray):Jap a a=true:=by unfold Jap;simp
theorem Jsz (a:Int):Jao a a=true:=by unfold Jao;simp
def Kes:Con:={args:=[.val false (.list 67 sEv), .val false (.list 67 sEv)],ress:=[Bo],owns:=[],pre:=fun(xs,_)=>[xs.length≤1000000,∀x∈xs,x.2.2.1.length≤1000000∧x.2.2.2.1.length≤1000000],spec:=fun(xs,ys,_)=>(eqL Hi xs ys,())}
def Ki1 (a:List Ev) (b:Nat):=(Juo a b).2
def Knj (a:List Ev) (b:Nat):=List.length (Juo a b).1≤1000000
def Knf (a:List Ev) (b:Nat):=List.length (Jt2 a b).1≤1000000
def Kmf (a:Nat) (b c:List Ev):=a≤List.length b∧List.length b=List.length c∧eqL Hi (List.drop a b) (List.drop a c)=eqL Hi b c
def Kyv (a:List Ev) (b:Nat) (c:List Ev):=J5i a b !=J5i c b
def Kyl (a:List Ev) (b:Nat) (c:List Ev):=Kyv a b c=false
def Kw0 (a:List Ev) (b:Nat) (c:List Ev):=bif Kyv a b c then true else !Lb (J0g a b) (J0g c b)
def Kkk (a:List Ev) (b:Nat) (c:List Ev):=Kw0 a b c=false
def Kv8 (a:List Ev) (b:Nat) (c:List Ev):=bif Kw0 a b c then true else !eqL Jap (Jt2 a b).1 (Jt2 c b).1
def Kka (a:List Ev) (b:Nat) (c:List Ev):=Kv8 a b c=false
def Kvv (a:List Ev) (b:Nat) (c:List Ev):=bif Kv8 a b c then true else !eqL Jao (Juo a b).1 (Juo c b).1
def Kvu (a:List Ev) (b:Nat) (c:List Ev):=Kvv a b c=false
theorem K82:Ok Tryz.prog 24 Kes:=okW K5w Tryz.f24 (fun xx=>X6 (Jpr 67 sEv Hi xx.1 xx.2.1)) fun xx=>by
 obtain⟨(xs:List Ev),(ys:List Ev),_⟩:=xx
 refine(by kernel_rfl:(Z45 xs→Kmb xs→Br (Ln xs !=Ln ys) (false=eqL Hi xs ys) (∃(x:Nat),(0=Nc x∧Sf xs (ys=ys))∧Kmf x xs ys∧∀(x:Nat),Kmf x xs ys→Br (Z92 x xs) (T2 (Z11 x xs) (T2 (Z11 x ys) (T2 (Kyl xs x ys→Z11 x xs) (T2 (Kyl xs x ys→Z11 x ys) (T2 (Kkk xs x ys→Z11 x xs) (T2 (Kkk xs x ys→Z11 x ys) ((Kkk xs x ys→Knf xs x)∧T2 (Kka xs x ys→Z11 x xs) (T2 (Kka xs x ys→Z11 x ys) ((Kka xs x ys→Knj xs x)∧T2 (Kvu xs x ys→Z11 x xs) (Tw (Kvu xs x ys→Z11 x ys))))))))))∧Br (bif Kvv xs x ys then true else !Lb (Ki1 xs x) (Ki1 ys x)) (false=eqL Hi xs ys) (Z22 x∧∃(y:Nat),(V0 x y∧Sf xs (ys=ys))∧Kmf y xs ys∧J0n xs y x)) (true=eqL Hi xs ys)))=_).mp ?_
 delta Z11 Z22 Z45 Z92 V0 J0o J0n D5 J3f J5i J0g Jt2 Juo Ki1 J8z Knj Knf Kmf Kmb Kyv Kyl Kw0 Kkk Kv8 Kka Kvv Kvu Br Iw Bd T2 Tw Sf Ln Nc B0 Lb
 intro hl hs
 refine⟨fun h=> ?_,fun h=>⟨(0:Nat),by(repeat' first|exact rfl|exact⟨⟩|apply And.intro|omega|dsimp only;omega),⟨Nat.zero_le _, ?_,rfl⟩,fun(k:Nat) hk=>⟨fun h1=> ?_,fun h1=> ?_⟩⟩⟩
 ·have h:((xs.length:Int) !=ys.length)=true:=h
  exact(Jrc (by have:=bne_iff_ne.1 h;omega)).symm
 ·have h:((xs.length:Int) !=ys.length)=false:=h
  have:=bne_eq_false_iff_eq.1 h
  omega
 ·obtain⟨k1,k2,k3⟩:=hk
  have hlt:k<xs.length:=by simpa using h1
  rw[Jk (l:=xs) (d:=ev0) hlt,Jk (l:=ys) (d:=ev0) (by omega),eqL] at k3
  have hz:((0:Int),({data:={toList:=[]}}:ByteArray),([]:List ByteArray),([]:List Int),({data:={toList:=[]}}:ByteArray))=ev0:=rfl
  have hx:((0:Int)≤(k:Int)∧(k:Int)<(xs.length:Int))=True:=eq_true (by omega)
  have hy:((0:Int)≤(k:Int)∧(k:Int)<(ys.length:Int))=True:=eq_true (by omega)
  have ha:=hs _ (Jd (d:=ev0) hlt)
  simp only[hz,hx,hy,implies_true,true_and,and_true]
  generalize xs.getD k ev0=a at ha k3⊢
  generalize ys.getD k ev0=b at k3⊢
  refine⟨⟨fun _=>ha.1,fun _=>ha.2⟩,fun h2=> ?_,fun h2=> ?_⟩
  ·have h2:Hi a b=false:=by unfold Hi;rw[show J2h a b=true from h2];rfl
   rw[h2] at k3;exact k3
  ·have h2:Hi a b=true:=by unfold Hi;rw[show J2h a b=false from h2];rfl
   rw[h2] at k3
   exact⟨by omega,(k+1:Nat),by omega,⟨by omega,k2,k3⟩,by omega⟩
 ·obtain⟨k1,k2,k3⟩:=hk
  have hlt:¬k<xs.length:=by simpa using h1
  rw[List.drop_eq_nil_of_le (by omega),List.drop_eq_nil_of_le (by omega)] at k3
  exact k3
abbrev K5v:=K5w.add K82
def Jir (e:Ev):Bool:=bif bif bif decide (40<(e.2.1.size:Int)) then true else decide (6<(e.2.2.1.length:Int)) then true else decide (8<(e.2.2.2.1.length:Int)) then true else decide (200<(e.2.2.2.2.size:Int))
def Xx (e:Ev):Bool:=bif Jir e then false else e.2.2.1.all fun s=> !decide (40<(s.size:Int))
def Xw (l:List Ev) (n:Int):Bool:=bif decide (n<(l.length:Int)) then false else l.all Xx
def Kep:Con:={args:=[.val false (.list 67 sEv),aI],ress:=[Bo],owns:=[],pre:=fun(_,n,_)=>[n≤1000000],spec:=fun(l,n,_)=>(Xw l n,())}
abbrev J24 (l:List Ev) (n:Int):Nat→Option Ann:=fun id=>if id=0 then some {X:=Nat,σ:=fun k=>⟨1,[(0, .one (.sl 0)),(5, .one (.int .i64 k))],[(0, .imm 67 sEv l)]⟩,inv:=fun k=>k≤l.length∧(l.drop k).all Xx=l.all Xx,mu:=fun k=>l.length-k}
 else if id=2 then some {X:=Nat×Nat,σ:=fun(k,j)=>⟨1,[(0, .one (.sl 0)),(5, .one (.int .i64 k)),(6, .one (.int .i64 j))],[(0, .imm 67 sEv l)]⟩,inv:=fun(k,j)=>k<l.length∧j≤(l.getD k ev0).2.2.1.length∧(l.getD k ev0).2.2.1.length≤6∧(bif (((l.getD k ev0).2.2.1.drop j).all fun s=> !decide (40<(s.size:Int))) then(l.drop (k+1)).all Xx else false)=l.all Xx,mu:=fun(k,j)=>(l.getD k ev0).2.2.1.length-j,rel:=some fun x0 x=>x0.1=x.1} else none
def Kjd (a:List Ev) (b:Nat×Nat):=List.length (List.getD a b.1 ev0).2.2.1
def Kol (a:Nat) (b:List Ev):=a≤List.length b∧List.all (List.drop a b) Xx=List.all b Xx
def K34 (a:List Ev) (b:Nat×Nat):=Ln (List.getD a b.1 D5).2.2.1
def K3e (a:List Ev) (b:Nat):=decide (40<Nc (ByteArray.size (J0g a b)))
def Kx0 (a:List Ev) (b:Nat):=bif K3e a b then true else decide (6<Ln (Jt2 a b).1)
def Kw4 (a:List Ev) (b:Nat):=bif Kx0 a b then true else decide (8<Ln (Juo a b).1)
def Kw2 (a:Nat×Nat) (b:List Ev):=a.1<List.length b∧a.2≤Kjd b a∧Kjd b a≤6∧(bif List.all (List.drop a.2 (List.getD b a.1 ev0).2.2.1) fun(s:ByteArray)=> !decide (40<Nc (ByteArray.size s)) then List.all (List.drop (a.1+1) b) Xx else false)=List.all b Xx
def Kwx (a:Nat×Nat) (b:List Ev) (c:Nat×Nat):=Kw2 a b∧c.1=a.1
theorem K89:Ok Tryz.prog 13 Kep:=okW K5v Tryz.f13 (fun xx=>J24 xx.1 xx.2.1) fun xx=>by
 obtain⟨(l:List Ev),(n:Int),_⟩:=xx
 refine(by kernel_rfl:(n≤1000000→Br (decide (n<Ln l)) (false=Xw l n) (∃(x:Nat),(0=Nc x∧l=l)∧Kol x l∧∀(x:Nat),Kol x l→Br (Z92 x l) (T2 (Z11 x l) (T2 (K3e l x=false→Z11 x l) (T2 (Kx0 l x=false→Z11 x l) (Tw (Kw4 l x=false→Z11 x l))))∧Br (bif Kw4 l x then true else decide (200<Nc (ByteArray.size (Ki1 l x)))) (false=Xw l n) (∃(x0:Nat×Nat),(Nc x=Nc x0.1∧0=Nc x0.2∧l=l)∧(Kw2 x0 l∧x0.1=x0.1)∧∀(x_1:Nat×Nat),Kwx x_1 l x0→Tw (Bd (Nc x_1.1) (Ln l))∧Br (decide (Nc x_1.2<K34 l x_1)) (T2 (Bd (Nc x_1.1) (Ln l)) (Tw (Bd (Nc x_1.2) (K34 l x_1)))∧Br (decide (40<Nc (ByteArray.size (List.getD (List.getD l x_1.1 D5).2.2.1 x_1.2 B0)))) (false=Xw l n) (Iw (Nc x_1.2+1)∧∃(y:Nat×Nat),(Nc x_1.1=Nc y.1∧Nc x_1.2+1=Nc y.2∧l=l)∧Kwx y l x0∧Kjd l y-y.2<Kjd l x_1-x_1.2)) (Iw (Nc x_1.1+1)∧∃(y:Nat),(Nc x_1.1+1=Nc y∧l=l)∧Kol y l∧J0n l y x))) (true=Xw l n)))=_).mp ?_
 delta Z11 Z92 Kjd J0n D5 J3f J0g Jt2 Juo Ki1 Kol K34 K3e Kx0 Kw4 Kw2 Kwx Br Iw Bd T2 Tw Ln Nc B0
 intro hn
 refine⟨fun h=> ?_,fun h=>⟨(0:Nat),by(repeat' first|exact rfl|exact⟨⟩|apply And.intro|omega|dsimp only;omega),⟨Nat.zero_le _,rfl⟩,fun(k:Nat) hk=>⟨fun h1=> ?_,fun h1=> ?_⟩⟩⟩
 ·unfold Xw;rw[h];rfl
 ·have hsh:Xw l n=l.all Xx:=by unfold Xw;rw[h];rfl
  obtain⟨k1,k2⟩:=hk
  have hlt:k<l.length:=by simpa using h1
  have hn2:(l.length:Int)≤n:=by have:=of_decide_eq_false h;omega
  rw[Jk (d:=ev0) hlt,List.all_cons] at k2
  have hz:((0:Int),({data:={toList:=[]}}:ByteArray),([]:List ByteArray),([]:List Int),({data:={toList:=[]}}:ByteArray))=ev0:=rfl
  have hx:((0:Int)≤(k:Int)∧(k:Int)<(l.length:Int))=True:=eq_true (by omega)
  simp only[hz,hx,implies_true,true_and,and_true]
  refine⟨fun h2=> ?_,fun h2=> ?_⟩
  ·have h2:Xx (l.getD k ev0)=false:=by unfold Xx;rw[show Jir (l.getD k ev0)=true from h2];rfl
   rw[h2] at k2
   rw[hsh,←k2];rfl
  ·have h2:Jir (l.getD k ev0)=false:=h2
   have h6:(l.getD k ev0).2.2.1.length≤6:=by
    unfold Jir at h2
    cases hc:decide (6<((l.getD k ev0).2.2.1.length:Int)) with
    |false=>have:=of_decide_eq_false hc;omega
    |true=>rw[hc] at h2;simp at h2
   have hand:∀u v:Bool,(bif u then v else false)=(u&&v):=by decide
   have hsb:Xx (l.getD k ev0)=(l.getD k ev0).2.2.1.all fun s=> !decide (40<(s.size:Int)):=by unfold Xx;rw[h2];rfl
   refine⟨(k,(0:Nat)),by(repeat' first|exact rfl|exact⟨⟩|apply And.intro|omega|dsimp only;omega),⟨hlt,Nat.zero_le _,h6,by rw[hand];rw[hsb] at k2;exact k2⟩,fun(x:Nat×Nat) hx=> ?_⟩
   obtain⟨k',j⟩:=x
   obtain⟨⟨j1,j2,j3,j4⟩,j5⟩:=hx
   have j5:k=k':=j5
   subst j5
   dsimp only at j1 j2 j3 j4⊢
   refine⟨by omega,fun h3=> ?_,fun h3=> ?_⟩
   ·have hj:j<(l.getD k ev0).2.2.1.length:=Int.ofNat_lt.1 (of_decide_eq_true h3)
    rw[Jk (d:=Ja) hj,List.all_cons] at j4
    refine⟨⟨by omega,by omega, ?_, ?_⟩,fun h4=> ?_,fun h4=>⟨?_,(k,j+1),⟨rfl,by simp⟩,⟨⟨hlt,by dsimp only;omega,j3, ?_⟩,rfl⟩, ?_⟩⟩
    ·exact⟨by omega,Int.ofNat_lt.2 hj⟩
    ·exact⟨by omega,Int.ofNat_lt.2 hj⟩
    ·have h4:decide (40<(((l.getD k ev0).2.2.1.getD j Ja).size:Int))=true:=h4
     rw[h4] at j4
     rw[hsh,←j4];rfl
    ·omega
    ·have h4:decide (40<(((l.getD k ev0).2.2.1.getD j Ja).size:Int))=false:=h4
     rw[h4] at j4
     exact j4
    ·dsimp only;omega
   ·have hj:¬j<(l.getD k ev0).2.2.1.length:=fun q=>of_decide_eq_false h3 (Int.ofNat_lt.2 q)
    rw[List.drop_eq_nil_of_le (by omega)] at j4
    exact⟨by omega,(k+1:Nat),by simp,⟨by omega,j4⟩,by omega⟩
 ·have hsh:Xw l n=l.all Xx:=by unfold Xw;rw[h];rfl
  obtain⟨k1,k2⟩:=hk
  have hlt:¬k<l.length:=by simpa using h1
  rw[List.drop_eq_nil_of_le (by omega)] at k2
  rw[hsh,←k2];rfl
abbrev K99:=K5v.add K89
theorem J2b {k:ByteArray} (h:U8 k=false):(Zv k).2.2=false:=by
 have hne:∀w:ByteArray,U8 w=true→(k.toList==w.toList)=false:=fun w hw=>by
  cases hc:k.toList==w.toList with
  |false=>rfl
  |true=>
   have:=Yr hc
   subst this
   rw[hw] at h;cases h
 unfold Zv
 rw[hne Jt (by kernel_rfl),hne Uc (by kernel_rfl),hne Kl (by kernel_rfl),hne K5 (by kernel_rfl),hne Vq (by kernel_rfl),hne Ju (by kernel_rfl),hne Jr (by kernel_rfl),hne Kf (by kernel_rfl),hne Ke (by kernel_rfl),hne Jh (by kernel_rfl),hne Jy (by kernel_rfl)]
 rfl
theorem Jo6 {k:ByteArray} (h:U8 k=true):(Zv k).2.2=true∧(Zv k).1.size=(Ji k).1.length∧(Zv k).2.1=(Ji k).2.1:=by
 rcases Ut h with h|h|h|h|h|h|h|h|h|h|h<;>subst h
 all_goals exact⟨by kernel_rfl,by kernel_rfl,by kernel_rfl⟩
def Kb (k:ByteArray):ByteArray×Int×Bool:=Zv k
def Kfi:Con:={args:=[aS],ress:=[(true,Kdm)],owns:=[],pre:=fun _=>[],spec:=fun(k,_)=>(Kb k,())}
theorem Kd3:Ok Tryz.prog 110 Kfi:=Kd4
abbrev K5u:=K99.add Kd3
def ckN (ns:List ByteArray):Int:=Jg (ns.map fun s=>bif Ye s then 0 else 8)
def ckV (vs:List Int):Int:=Jg (vs.map fun n=>Ki n 0 999999999)
theorem Jkz (t:ByteArray):(t.toList==Ja.toList)= !decide (0<t.size):=by
 cases h:t.toList==Ja.toList with
 |true=>have:=Yr h;subst this;rfl
 | false =>
  have:0<t.size:=Nat.pos_of_ne_zero fun h0=>by
   have e:t.data.toList=[]:=List.eq_nil_of_length_eq_zero h0
   rw[Lib.toList_data,Lib.toList_data,e] at h
   exact nomatch (show true=false from h)
  rw[decide_eq_true this];rfl
theorem Yw (x:Int) (l:List Int):Jg (x::l)=if x=0 then Jg l else x:=rfl
def Kfx:Con:={args:=[aEv],ress:=[I],owns:=[],pre:=fun(e,_)=>[e.2.2.1.length≤1000000,e.2.2.2.1.length≤1000000,∀s∈e.2.2.1,s.size≤1000000],spec:=fun(e,_)=>(Jb e,())}
abbrev Kvc (n:Int) (k:ByteArray) (ns:List ByteArray) (vs:List Int) (t:ByteArray):Nat→Option Ann:=fun id=>if id=0 then some {X:=Nat,σ:=fun i=>⟨4,[(1, .one (.ptr 2 0)),(3, .one (.ptr 3 0)),(4, .one (.int .i64 i))],[(2, .box 67 [.int .i64 n, .str k, .sl 0, .sl 1, .str t]),(3, .box 208 [.str (Kb k).1, .int .i64 (Kb k).2.1, .bool (Kb k).2.2]),(0, .imm 9 .str ns),(1, .imm 3 sI vs)]⟩,inv:=fun i=>i≤ns.length∧ckN (ns.drop i)=ckN ns,mu:=fun i=>ns.length-i}
 else if id=2 then some {X:=Nat,σ:=fun i=>⟨4,[(1, .one (.ptr 2 0)),(3, .one (.ptr 3 0)),(5, .one (.int .i64 i))],[(2, .box 67 [.int .i64 n, .str k, .sl 0, .sl 1, .str t]),(3, .box 208 [.str (Kb k).1, .int .i64 (Kb k).2.1, .bool (Kb k).2.2]),(0, .imm 9 .str ns),(1, .imm 3 sI vs)]⟩,inv:=fun i=>i≤vs.length∧ckV (vs.drop i)=ckV vs,mu:=fun i=>vs.length-i}
 else none
def Z15 (a:Bt):=Nc (ByteArray.size (Kb a).1)
def Ko9 (a:Nat) (b:Li):=a≤List.length b∧ckV (List.drop a b)=ckV b
def Koy (a:Nat) (b:Ls):=Z48 a b∧ckN (List.drop a b)=ckN b
def Kz7 (a:Int) (b c:Bt) (d:Ls) (e:Li):=Si a (Sf b (Sf c (Sf (Kb b).1 (Si (Kb b).2.1 (Sf (Kb b).2.2 (Sf d (e=e)))))))
def Kzd (a:Nat) (b:Int) (c d:Bt) (e:Ls) (f:Li):=0=Nc a∧Kz7 b c d e f
def Kyw (a b:Nat) (c:Int) (d e:Bt) (f:Ls) (g:Li):=V0 a b∧Kz7 c d e f g
theorem K8v:Ok Tryz.prog 36 Kfx:=okW K5u Tryz.f36 (fun xx=>Kvc xx.1.1 xx.1.2.1 xx.1.2.2.1 xx.1.2.2.2.1 xx.1.2.2.2.2) fun xx=>by
 obtain⟨⟨(n:Int),(k:ByteArray),(ns:List ByteArray),(vs:List Int),(t:ByteArray)⟩,_⟩:=xx
 refine(by kernel_rfl:(Fm ns→Z66 vs→Jg6 ns→Br (Xu n 1 1000) (3=Z73 n k ns vs t) (Br (!(Kb k).2.2) (13=Z73 n k ns vs t) (Br (bif Ln ns !=Z15 k then true else Ln vs !=(Kb k).2.1) (2=Z73 n k ns vs t) (∃(x:Nat),Kzd x n k t ns vs∧Koy x ns∧∀(x:Nat),Koy x ns→Br (decide (Nc x<Z15 k)) (T2 (Z84 x ns) (ByteArray.size (Z18 ns x)≤1000000)∧Br (!Ye (Z18 ns x)) (8=Z73 n k ns vs t) (Z22 x∧∃(y:Nat),Kyw x y n k t ns vs∧Koy y ns∧J5l ns y x)) (∃(x:Nat),Kzd x n k t ns vs∧Ko9 x vs∧∀(x:Nat),Ko9 x vs→Br (decide (Nc x<(Kb k).2.1)) (Z90 x vs∧Br (Xu (Z21 vs x) 0 999999999) (3=Z73 n k ns vs t) (Z22 x∧∃(y:Nat),Kyw x y n k t ns vs∧Ko9 y vs∧J0l vs y x)) (Br (!Lb t B0) (1=Z73 n k ns vs t) (0=Z73 n k ns vs t)))))))=_).mp ?_
 delta Z15 Z18 Z21 Z22 Z48 Z66 Z73 Z84 Z90 V0 Fm J0l J5l Ko9 Jhi Koy Jg6 Kz7 Kzd Kyw Br Iw Bd T2 Tw Sf Si Ln Nc B0 Lb
 intro h1 h2 h3
 have hE1:Ki n 1 1000=bif Xu n 1 1000 then 3 else 0:=rfl
 have hQ:Kb k=Zv k:=rfl
 refine⟨fun h=> ?_,fun h=>⟨fun h4=> ?_,fun h4=> ?_⟩⟩
 ·have e:Ki n 1 1000=3:=by rw[hE1,h];rfl
  unfold Jb
  rw[if_pos (by dsimp only;rw[e];decide),e]
 ·have e:Ki n 1 1000=0:=by rw[hE1,h];rfl
  have hk:U8 k=false:=by
   cases hk:U8 k with
   |false=>rfl
   |true=>
    have:=(Jo6 hk).1
    have h4:(!(Zv k).2.2)=true:=h4
    rw[this] at h4;cases h4
  unfold Jb
  rw[if_neg (by dsimp only;rw[e];decide)]
  dsimp only
  rw[hk];rfl
 have e:Ki n 1 1000=0:=by rw[hE1,h];rfl
 have hk:U8 k=true:=by
  cases hk:U8 k with
  |true=>rfl
  |false=>
   have:=J2b hk
   have h4:(!(Zv k).2.2)=false:=h4
   rw[this] at h4;cases h4
 obtain⟨f1,f2,f3⟩:=Jo6 hk
 rw[←hQ] at f1 f2 f3
 have hc:Jb (n,k,ns,vs,t)=if ns.length=(Ji k).1.length∧(vs.length:Int)=(Ji k).2.1 then Jg [ckN ns,ckV vs,bif decide (0<t.size) then 1 else 0] else 2:=by
  unfold Jb
  rw[if_neg (by dsimp only;rw[e];decide)]
  dsimp only
  rw[hk,cond_true];rfl
 refine⟨fun h5=> ?_,fun h5=> ?_⟩
 ·rw[hc,if_neg fun q=> ?_]
  have a1:((ns.length:Int) !=((Kb k).1.size:Int))=false:=bne_eq_false_iff_eq.2 (by rw[f2];exact congrArg _ q.1)
  have a2:((vs.length:Int) !=(Kb k).2.1)=false:=bne_eq_false_iff_eq.2 (by rw[f3];exact q.2)
  have h5:(bif (ns.length:Int) !=((Kb k).1.size:Int) then true else(vs.length:Int) !=(Kb k).2.1)=true:=h5
  rw[a1,a2] at h5;cases h5
 have h5:(bif (ns.length:Int) !=((Kb k).1.size:Int) then true else(vs.length:Int) !=(Kb k).2.1)=false:=h5
 have a:=bn1 h5
 have a1:(ns.length:Int)=((Kb k).1.size:Int):=bne_eq_false_iff_eq.1 a.1
 have a2:(vs.length:Int)=(Kb k).2.1:=bne_eq_false_iff_eq.1 a.2
 rw[if_pos ⟨by rw[f2] at a1;omega,by rw[a2,f3]⟩] at hc
 refine⟨(0:Nat),by(repeat' first|exact rfl|exact⟨⟩|apply And.intro|omega|dsimp only;omega),⟨Nat.zero_le _,rfl⟩,fun(i:Nat) hi=>⟨fun h6=> ?_,fun h6=> ?_⟩⟩
 ·have h6:(i:Int)<((Kb k).1.size:Int):=of_decide_eq_true h6
  have hlt:i<ns.length:=by omega
  have hN:ckN (ns.drop i)=if(bif Ye (ns.getD i Ja) then(0:Int) else 8)=0 then ckN (ns.drop (i+1)) else bif Ye (ns.getD i Ja) then 0 else 8:=by
   rw[Jk (d:=Ja) hlt]
   exact Yw _ _
  refine⟨⟨by omega,by omega,h3 _ (Jd hlt)⟩,fun h7=> ?_,fun h7=>⟨by omega,(i+1:Nat),by(repeat' first|exact rfl|exact⟨⟩|apply And.intro|omega|dsimp only;omega),⟨by omega, ?_⟩,by omega⟩⟩
  ·have h7:(!Ye (ns.getD i Ja))=true:=h7
   have h7:Ye (ns.getD i Ja)=false:=by simpa using h7
   rw[h7] at hN
   have:ckN ns=8:=by rw[←hi.2,hN];rfl
   rw[hc,Yw,this];rfl
  ·have h7:(!Ye (ns.getD i Ja))=false:=h7
   have h7:Ye (ns.getD i Ja)=true:=by simpa using h7
   rw[h7] at hN
   rw[←hi.2,hN];rfl
 ·have h6:¬(i:Int)<((Kb k).1.size:Int):=of_decide_eq_false h6
  have hN:ckN ns=0:=by rw[←hi.2,List.drop_eq_nil_of_le (by omega)];rfl
  refine⟨(0:Nat),by(repeat' first|exact rfl|exact⟨⟩|apply And.intro|omega|dsimp only;omega),⟨Nat.zero_le _,rfl⟩,fun(j:Nat) hj=>⟨fun h8=> ?_,fun h8=> ?_⟩⟩
  ·have h8:(j:Int)<(Kb k).2.1:=of_decide_eq_true h8
   have hlt:j<vs.length:=by omega
   have hV:ckV (vs.drop j)=if Ki (vs.getD j 0) 0 999999999=0 then ckV (vs.drop (j+1)) else Ki (vs.getD j 0) 0 999999999:=by
    rw[Jk (d:=(0:Int)) hlt]
    exact Yw _ _
   have hW:Ki (vs.getD j 0) 0 999999999=bif Xu (vs.getD j 0) 0 999999999 then 3 else 0:=rfl
   refine⟨by omega,fun h7=> ?_,fun h7=>⟨by omega,(j+1:Nat),by(repeat' first|exact rfl|exact⟨⟩|apply And.intro|omega|dsimp only;omega),⟨by omega, ?_⟩,by omega⟩⟩
   ·rw[hW,h7] at hV
    have:ckV vs=3:=by rw[←hj.2,hV];rfl
    rw[hc,Yw,hN,if_pos rfl,Yw,this];rfl
   ·rw[hW,h7] at hV
    rw[←hj.2,hV];rfl
  ·have h8:¬(j:Int)<(Kb k).2.1:=of_decide_eq_false h8
   have hV:ckV vs=0:=by rw[←hj.2,List.drop_eq_nil_of_le (by omega)];rfl
   have hz:(t.toList==({data:={toList:=[]}}:ByteArray).toList)= !decide (0<t.size):=Jkz t
   rw[hz,hc,Yw,hN,if_pos rfl,Yw,hV,if_pos rfl]
   cases decide (0<t.size)
   ·exact⟨fun h=>(nomatch h),fun _=>rfl⟩
   ·exact⟨fun _=>rfl,fun h=>(nomatch h)⟩
abbrev K5t:=K5u.add K8v
def Jnv (e:Ev) (m:Nat):ByteArray:=Vi ((Ht e).take m) ⟨⟨[32]⟩⟩
theorem Jmw {sep x:List UInt8}:∀{xs:List (List UInt8)},xs≠[]→Lib.join (xs++[x]) sep=Lib.join xs sep++sep++x
 |[],h=>absurd rfl h
 |[a],_=>by simp[Lib.join,List.intercalate,List.intersperse]
 |a::b::r,_=>by
  have ih:=Jmw (sep:=sep) (x:=x) (xs:=b::r) (by simp)
  have e1:Lib.join (a::b::(r++[x])) sep=a++sep++Lib.join (b::(r++[x])) sep:=by simp[Lib.join,List.intercalate,List.intersperse]
  have e2:Lib.join (a::b::r) sep=a++sep++Lib.join (b::r) sep:=by simp[Lib.join,List.intercalate,List.intersperse]
  rw[List.cons_append,List.cons_append,e1,e2]
  rw[List.cons_append] at ih
  rw[ih]
  simp only[List.append_assoc]
theorem J07 {l:List Nat}:∀{m:Nat},(l.take m).sum≤l.sum:=by
 induction l with
 |nil=>intro m;simp
 |cons x l ih=>
  intro m
  cases m with
  |zero=>simp
  |succ m=>rw[List.take_succ_cons,List.sum_cons,List.sum_cons];have:=ih (m:=m);omega
theorem Jv9 {e:Ev} (h:Y2 e) (m:Nat):(Jnv e m).size≤1000000:=by
 unfold Jnv Vi
 show(Lib.join (((Ht e).take m).map (·.data.toList)) [32]).toArray.size≤_
 rw[List.size_toArray]
 refine Nat.le_trans (Jbp (sep:=[32]) rfl) (Nat.le_trans ?_ h.siz)
 rw[List.map_map]
 have:(((Ht e).take m).map ((fun x=>x.length+1)∘fun x:ByteArray=>x.data.toList))=((Ht e).map fun s=>s.size+1).take m:=by rw[List.map_take];rfl
 rw[this]
 exact J07
theorem Jfp {e:Ev} {m:Nat} (h:m<(Ht e).length) (h0:0<m):Jnv e (m+1)=bs ((Jnv e m).data.toList++[32]++((Ht e).getD m Ja).data.toList):=by
 have ht:(Ht e).take (m+1)=(Ht e).take m++[(Ht e).getD m Ja]:=(Uu (d:=Ja) h).symm
 unfold Jnv Vi
 rw[ht,List.map_append,List.map_cons,List.map_nil,Jmw ?_]
 ·simp[bs]
 ·intro q
  have:=congrArg List.length q
  rw[List.length_map,List.length_take,List.length_nil] at this
  omega
theorem J71 {n:Int} {k:ByteArray} {ns:List ByteArray} {vs:List Int} {t:ByteArray} {i:Nat} (h:i<ns.length):(Ht (n,k,ns,vs,t)).getD (i+2) Ja=ns.getD i Ja:=by
 show(ns++vs.map Ku).getD i Ja=_
 rw[List.getD_eq_getElem?_getD,List.getElem?_append_left h,←List.getD_eq_getElem?_getD]
theorem J70 {n:Int} {k:ByteArray} {ns:List ByteArray} {vs:List Int} {t:ByteArray} {i:Nat} (h:i<vs.length):(Ht (n,k,ns,vs,t)).getD (ns.length+i+2) Ja=Ku (vs.getD i 0):=by
 show(ns++vs.map Ku).getD (ns.length+i) Ja=_
 rw[List.getD_eq_getElem?_getD,List.getElem?_append_right (by omega),Nat.add_sub_cancel_left,←List.getD_eq_getElem?_getD,Jkq h]
theorem Jyl {n:Int} {k:ByteArray} {ns:List ByteArray} {vs:List Int} {t:ByteArray}:(Ht (n,k,ns,vs,t)).length=ns.length+vs.length+2:=by
 show(ns++vs.map Ku).length+2=_
 rw[List.length_append,List.length_map]
abbrev Kgf (n:Int) (k:ByteArray) (ns:List ByteArray) (vs:List Int) (t:ByteArray):Nat→Option Ann:=fun id=>if id=0 then some {X:=Nat,σ:=fun i=>⟨3,[(1, .one (.ptr 2 0)),(3, .one (.str (Jnv (n,k,ns,vs,t) (i+2)))),(4, .one (.int .i64 i))],[(2, .box 67 [.int .i64 n, .str k, .sl 0, .sl 1, .str t]),(0, .imm 9 .str ns),(1, .imm 3 sI vs)]⟩,inv:=fun i=>i≤ns.length,mu:=fun i=>ns.length-i}
 else if id=2 then some {X:=Nat,σ:=fun i=>⟨3,[(1, .one (.ptr 2 0)),(3, .one (.str (Jnv (n,k,ns,vs,t) (ns.length+i+2)))),(5, .one (.int .i64 i))],[(2, .box 67 [.int .i64 n, .str k, .sl 0, .sl 1, .str t]),(0, .imm 9 .str ns),(1, .imm 3 sI vs)]⟩,inv:=fun i=>i≤vs.length,mu:=fun i=>vs.length-i}
 else none
def J87 (a:Int) (b:Bt) (c:Ls) (d:Li) (e:Bt) (f:Nat):=Jnv (a,b,c,d,e) (List.length c+f+2)
def K4l (a:Int):=Array.mk ((Vj a).data.toList++[32])
def Kiw (a:Int) (b c:Bt) (d:Ls) (e:Li):=Si a (Sf b (Sf c (Sf d (e=e))))
theorem Ktq:Ok Tryz.prog 112 Kfy:=okW K5t Tryz.f112 (fun xx=>Kgf xx.1.1 xx.1.2.1 xx.1.2.2.1 xx.1.2.2.2.1 xx.1.2.2.2.2) fun xx=>by
 obtain⟨⟨(n:Int),(k:ByteArray),(ns:List ByteArray),(vs:List Int),(t:ByteArray)⟩,_⟩:=xx
 refine(by kernel_rfl:(Y2 (n,k,ns,vs,t)→(J8u n∧J8x n∧Nc (ByteArray.size (Vj n)+1)≤9223372036854775807∧Nc (ByteArray.size (ByteArray.mk (K4l n))+ByteArray.size k)≤9223372036854775807)∧∃(x:Nat),(ByteArray.mk (Array.mk ((K4l n).toList++Z14 k))=Jnv (n,k,ns,vs,t) (x+2)∧0=Nc x∧Kiw n k t ns vs)∧Z48 x ns∧∀(x:Nat),Z48 x ns→Br (decide (Nc x<Ln ns)) ((Nc (ByteArray.size (Jnv (n,k,ns,vs,t) (x+2))+1)≤9223372036854775807∧T2 (Z84 x ns) (Nc (ByteArray.size (ByteArray.mk (Array.mk ((Jnv (n,k,ns,vs,t) (x+2)).data.toList++[32])))+ByteArray.size (Z18 ns x))≤9223372036854775807))∧Z22 x∧∃(y:Nat),(ByteArray.mk (Array.mk ((Array.mk ((Jnv (n,k,ns,vs,t) (x+2)).data.toList++[32])).toList++(Z18 ns x).data.toList))=Jnv (n,k,ns,vs,t) (y+2)∧V0 x y∧Kiw n k t ns vs)∧Z48 y ns∧J5l ns y x) (∃(x_1:Nat),(Jnv (n,k,ns,vs,t) (x+2)=J87 n k ns vs t x_1∧0=Nc x_1∧Kiw n k t ns vs)∧x_1≤List.length vs∧∀(x:Nat),x≤List.length vs→Br (Z94 x vs) ((Nc (ByteArray.size (J87 n k ns vs t x)+1)≤9223372036854775807∧T2 (Bd (Nc x) (Ln vs)) (J8w<Z21 vs x∧Z21 vs x<J8y∧Nc (ByteArray.size (ByteArray.mk (Array.mk ((J87 n k ns vs t x).data.toList++[32])))+ByteArray.size (Vj (Z21 vs x)))≤9223372036854775807))∧Z22 x∧∃(y:Nat),(ByteArray.mk (Array.mk ((Array.mk ((J87 n k ns vs t x).data.toList++[32])).toList++(Vj (Z21 vs x)).data.toList))=J87 n k ns vs t y∧V0 x y∧Kiw n k t ns vs)∧Kcb y vs x) (J87 n k ns vs t x=Jp (n,k,ns,vs,t))))=_).mp ?_
 delta Z14 Z18 Z21 Z22 Z48 Z84 Z94 V0 J0l J5l J87 K4l Kcb Kiw J8y J8x J8w J8u Br Iw Bd T2 Sf Si Ln Nc B0
 intro h
 have hs:=Jv9 h
 have hn: -999999999≤n∧n≤999999999:=h.num
 have hval:∀v∈vs,-999999999≤v∧v≤999999999:=h.val
 have hnn:ns.length≤1000:=h.nn
 have hnv:vs.length≤1000:=h.nv
 have hL:(Ht (n,k,ns,vs,t)).length=ns.length+vs.length+2:=Jyl
 have p1:Jnv (n,k,ns,vs,t) 1=Vj n:=by
  show(⟨(Lib.join [(Ku n).data.toList] [32]).toArray⟩:ByteArray)=_
  rw[show Lib.join [(Ku n).data.toList] [32]=(Ku n).data.toList by simp[Lib.join,List.intercalate,List.intersperse]]
  rfl
 have p2:=Jfp (e:=(n,k,ns,vs,t)) (m:=1) (by omega) (by omega)
 rw[p1,show(Ht (n,k,ns,vs,t)).getD 1 Ja=k from rfl] at p2
 have t1:=Jai n (by omega) (by omega)
 have hk:k.size≤1000000:=by
  have:=hs 2
  rw[p2,Kc,List.length_append] at this
  have e:k.data.toList.length=k.size:=rfl
  omega
 have zs:∀(s:ByteArray),(⟨⟨s.data.toList++[32]⟩⟩:ByteArray).size=s.size+1:=fun s=>by
  rw[szl,List.length_append];rfl
 refine⟨⟨by omega,by omega,by omega,by rw[zs];omega⟩,(0:Nat),⟨p2.symm,rfl,rfl,rfl,rfl,rfl,rfl⟩,Nat.zero_le _,fun(i:Nat) hi=>⟨fun h1=> ?_,fun h1=> ?_⟩⟩
 ·have hlt:i<ns.length:=by simpa using h1
  have q:=Jfp (e:=(n,k,ns,vs,t)) (m:=i+2) (by omega) (by omega)
  rw[J71 hlt] at q
  have q1:=hs (i+2)
  have q2:(ns.getD i Ja).size≤1000000:=by
   have:=hs (i+2+1)
   rw[q,Kc,List.length_append] at this
   have e:(ns.getD i Ja).data.toList.length=(ns.getD i Ja).size:=rfl
   omega
  have q2:(ns.getD i {data:={toList:=[]}}).size≤1000000:=q2
  exact⟨⟨by omega,by omega,by omega,by rw[zs];omega⟩,by omega,(i+1:Nat),⟨q.symm,rfl,rfl,rfl,rfl,rfl,rfl⟩,by omega,by omega⟩
 ·have hlt:¬i<ns.length:=by simpa using h1
  have e:i=ns.length:=by omega
  subst e
  refine⟨(0:Nat),⟨rfl,rfl,rfl,rfl,rfl,rfl,rfl⟩,Nat.zero_le _,fun(j:Nat) hj=>⟨fun h2=> ?_,fun h2=> ?_⟩⟩
  ·have hlt:j<vs.length:=by simpa using h2
   have q:=Jfp (e:=(n,k,ns,vs,t)) (m:=ns.length+j+2) (by omega) (by omega)
   rw[J70 hlt] at q
   have q1:=hs (ns.length+j+2)
   have hv:=hval _ (Jd (d:=(0:Int)) hlt)
   have t2:=Jai (vs.getD j 0) (by omega) (by omega)
   exact⟨⟨by omega,by omega,by omega,by omega,by omega,by rw[zs];omega⟩,by omega,(j+1:Nat),⟨q.symm,rfl,rfl,rfl,rfl,rfl,rfl⟩,by omega,by omega⟩
  ·have hlt:¬j<vs.length:=by simpa using h2
   unfold Jnv Jp
   rw[List.take_of_length_le (by omega)]
abbrev K98:=K5t.add Ktq
abbrev K5s:=K98
theorem Fl (e:Ev):(Jp e).data.toList=(Vj e.1).data.toList++32::Lib.join ((e.2.1::(e.2.2.1++e.2.2.2.1.map Ku)).map (·.data.toList)) [32]:=by
 show(Lib.join ((Ku e.1::e.2.1::(e.2.2.1++e.2.2.2.1.map Ku)).map (·.data.toList)) [32]).toArray.toList=_
 rw[List.toList_toArray]
 simp[Lib.join,List.intercalate]
 rfl
def Jlf (e:Ev):ByteArray:=bs ((Jp e).data.toList.drop ((Vj e.1).size+1))
def K9u:Con:={args:=[aEv],ress:=[tS],owns:=[],pre:=fun(e,_)=>[Y2 e],spec:=fun(e,_)=>(Jlf e,())}
def Kjq (a:Int):=Nc (ByteArray.size (Vj a))+1
theorem K8n:Ok Tryz.prog 60 K9u:=okW K5s Tryz.f60 na fun xx=>by
 obtain⟨⟨(n:Int),(k:ByteArray),(ns:List ByteArray),(vs:List Int),(t:ByteArray)⟩,_⟩:=xx
 refine(by kernel_rfl:(Y2 (n,k,ns,vs,t)→(Y2 (n,k,ns,vs,t)∧J8u n∧J8x n∧Iw (Kjq n)∧0≤Kjq n∧Kjq n≤Nc (ByteArray.size (Jp (n,k,ns,vs,t)))∧Nc (ByteArray.size (Jp (n,k,ns,vs,t)))≤Nc (ByteArray.size (Jp (n,k,ns,vs,t))))∧ByteArray.extract (Jp (n,k,ns,vs,t)) (Int.toNat (Kjq n)) (ByteArray.size (Jp (n,k,ns,vs,t)))=Jlf (n,k,ns,vs,t))=_).mp ?_
 delta Kjq J8y J8x J8w J8u Iw Nc
 intro h
 have hn: -999999999≤n∧n≤999999999:=h.num
 have hb:=Jen h
 have hs:=congrArg List.length (Fl (n,k,ns,vs,t))
 rw[List.length_append,List.length_cons] at hs
 have e1:(Jp (n,k,ns,vs,t)).data.toList.length=(Jp (n,k,ns,vs,t)).size:=rfl
 have e2:(Vj n).data.toList.length=(Vj n).size:=rfl
 have t1:=Jai n (by omega) (by omega)
 dsimp only at hs
 refine⟨⟨h,by omega,by omega,by omega,by omega,by omega,by omega⟩, ?_⟩
 rw[show((Vj n).size+1:Int).toNat=(Vj n).size+1 by omega,Fd]
 rfl
abbrev K97:=K5s.add K8n
def emB (w:ByteArray):Bool:=w.toList==Ja.toList
def dgB (w:ByteArray):Bool:=(Jz w).2
def dgN (w:ByteArray):Int:=(Jz w).1
theorem Xj {w:ByteArray} {l:List ByteArray} {b:Bool} (h:emB w=false):Ul (w::l,b)=(w,l,b):=by
 show(bif emB w then _ else _)=_
 rw[h];rfl
theorem Jba {w:ByteArray} {l:List ByteArray} {b:Bool} (h:emB w=true):Ul (w::l,b)=(Ja,[],true):=by
 show(bif emB w then _ else _)=_
 rw[h];rfl
theorem Jss (l:List ByteArray):(Ul (l,true)).2.2=true:=by
 cases l with
 |nil=>rfl
 |cons w l=>
  cases h:emB w with
  |true=>rw[Jba h]
  |false=>rw[Xj h]
theorem Dm:∀(n:Nat) (o:List ByteArray),(Vv n ([],true) o).2=([],true)
 |0,_=>rfl
 |n+1,o=>Dm n _
theorem Hh:∀(n:Nat) (l:List ByteArray) (o:List Int),(Yy n (l,true) o).2.2=true
 |0,_,_=>rfl
 | n + 1, l, o => by
  have e:(Jdw (l,true)).2=((Jdw (l,true)).2.1,true):=by
   unfold Jdw
   rw[Jss];rfl
  rw[Yy,e]
  exact Hh n _ _
theorem Jak:∀(n:Nat) (l:List ByteArray) (b:Bool) (o:List ByteArray),n≤l.length→(∀w∈l.take n,emB w=false)→Vv n (l,b) o=(o++l.take n,l.drop n,b)
 |0,_,_,_,_,_=>by simp[Vv]
 |n+1,[],_,_,h,_=>by simp at h
 |n+1,w::l,b,o,h,hw=>by
  rw[Vv,Xj (hw w (by simp))]
  have:=Jak n l b (o++[w]) (by simpa using h) fun v hv=>hw v (by simp[hv])
  rw[this];simp
theorem Jia:∀(n:Nat) (l:List ByteArray) (b:Bool) (o:List ByteArray),¬(n≤l.length∧∀w∈l.take n,emB w=false)→(Vv n (l,b) o).2=([],true)
 |0,_,_,_,h=>absurd ⟨Nat.zero_le _,by simp⟩ h
 |n+1,[],_,o,_=>Dm n _
 | n + 1, w :: l, b, o, h => by
  rw[Vv]
  cases hw:emB w with
  |true=>rw[Jba hw];exact Dm n _
  |false=>
   rw[Xj hw]
   refine Jia n l b _ fun q=>h ⟨by simpa using q.1,fun v hv=> ?_⟩
   rw[List.take_succ_cons] at hv
   rcases List.mem_cons.1 hv with rfl|hv
   ·exact hw
   ·exact q.2 v hv
theorem Kef {w:ByteArray} (h:dgB w=true):emB w=false:=by
 cases q:emB w with
 |false=>rfl
 |true=>
  have:=Yr q
  subst this
  exact absurd h (by decide+kernel)
theorem Jib {w:ByteArray} {l:List ByteArray} (h:dgB w=true):Jdw (w::l,false)=(dgN w,l,false):=by
 unfold Jdw
 rw[Xj (Kef h)]
 show(_,_,bif false then true else !dgB w)=_
 rw[h];rfl
theorem Ju7 {w:ByteArray} {l:List ByteArray} (h:dgB w=false):(Jdw (w::l,false)).2.2=true:=by
 unfold Jdw
 cases q:emB w with
 |true=>rw[Jba q];rfl
 |false=>
  rw[Xj q]
  show(bif false then true else !dgB w)=_
  rw[h];rfl
theorem Jaj:∀(n:Nat) (l:List ByteArray) (o:List Int),n≤l.length→(∀w∈l.take n,dgB w=true)→Yy n (l,false) o=(o++(l.take n).map dgN,l.drop n,false)
 |0,_,_,_,_=>by simp[Yy]
 |n+1,[],_,h,_=>by simp at h
 |n+1,w::l,o,h,hw=>by
  rw[Yy,Jib (hw w (by simp))]
  have:=Jaj n l (o++[dgN w]) (by simpa using h) fun v hv=>hw v (by simp[hv])
  rw[this];simp
theorem Jh7:∀(n:Nat) (l:List ByteArray) (o:List Int),¬(n≤l.length∧∀w∈l.take n,dgB w=true)→(Yy n (l,false) o).2.2=true
 |0,_,_,h=>absurd ⟨Nat.zero_le _,by simp⟩ h
 |n+1,[],o,_=>Hh n _ _
 | n + 1, w :: l, o, h => by
  rw[Yy]
  cases hw:dgB w with
  |false=>
   have e:(Jdw (w::l,false)).2=((Jdw (w::l,false)).2.1,true):=Prod.ext rfl (Ju7 hw)
   rw[e];exact Hh n _ _
  |true=>
   rw[Jib hw]
   refine Jh7 n l _ fun q=>h ⟨by simpa using q.1,fun v hv=> ?_⟩
   rw[List.take_succ_cons] at hv
   rcases List.mem_cons.1 hv with rfl|hv
   ·exact hw
   ·exact q.2 v hv
theorem J60 {k:ByteArray} (h:U8 k=true):emB k=false:=by
 cases q:emB k with
 |false=>rfl
 |true=>
  have:=Yr q
  subst this
  exact absurd h (by rw[show U8 Ja=false by kernel_rfl];simp)
def nrK (k:ByteArray):Nat:=(Ji k).1.length
def nvK (k:ByteArray):Nat:=(Ji k).2.1.toNat
def Jsp (w0:ByteArray) (l:List ByteArray):Prop:=l.length=nrK w0+nvK w0∧(∀w∈l.take (nrK w0),emB w=false)∧∀w∈l.drop (nrK w0),dgB w=true
theorem Jmf {w0:ByteArray} (hk:U8 w0=true) (l:List ByteArray):Vs (w0::l)=((0,w0,(Vv (nrK w0) (l,false) []).1,(Yy (nvK w0) (Vv (nrK w0) (l,false) []).2 []).1,Ja),bif !(Yy (nvK w0) (Vv (nrK w0) (l,false) []).2 []).2.2 then((Yy (nvK w0) (Vv (nrK w0) (l,false) []).2 []).2.1.length:Int)==0 else false):=by
 have e:Ul (w0::l,false)=(w0,l,false):=Xj (J60 hk)
 unfold Vs Jbi Xz
 rw[e,hk];rfl
theorem Jme {w0:ByteArray} (hk:U8 w0=true) {l:List ByteArray} (h:Jsp w0 l):Vs (w0::l)=((0,w0,l.take (nrK w0),(l.drop (nrK w0)).map dgN,Ja),true):=by
 obtain⟨h1,h2,h3⟩:=h
 have e1:Vv (nrK w0) (l,false) []=(l.take (nrK w0),l.drop (nrK w0),false):=by
  rw[Jak _ _ _ _ (by omega) h2];rfl
 have e2:Yy (nvK w0) (l.drop (nrK w0),false) []=((l.drop (nrK w0)).map dgN,[],false):=by
  have e3:(l.drop (nrK w0)).drop (nvK w0)=[]:=List.drop_eq_nil_of_le (by rw[List.length_drop];omega)
  rw[Jaj _ _ _ (by rw[List.length_drop];omega) (fun w hw=>h3 w (List.mem_of_mem_take hw)),List.take_of_length_le (by rw[List.length_drop];omega),e3];rfl
 rw[Jmf hk,e1,e2];rfl
theorem J1n {w0:ByteArray} (hk:U8 w0=true) {l:List ByteArray} (h:¬Jsp w0 l):(Vs (w0::l)).2=false:=by
 rw[Jmf hk]
 show(bif !_ then _ else _)=_
 by_cases q1:nrK w0≤l.length∧∀w∈l.take (nrK w0),emB w=false
 ·rw[Jak _ _ _ _ q1.1 q1.2]
  by_cases q2:nvK w0≤(l.drop (nrK w0)).length∧∀w∈(l.drop (nrK w0)).take (nvK w0),dgB w=true
  ·rw[Jaj _ _ _ q2.1 q2.2]
   have q3:=q2.1
   rw[List.length_drop] at q3
   show((((l.drop (nrK w0)).drop (nvK w0)).length:Int)==0)=false
   rw[List.length_drop,List.length_drop]
   refine beq_eq_false_iff_ne.2 fun q4=>h ⟨by have:=q1.1;omega,q1.2,fun w hw=>q2.2 w ?_⟩
   rw[List.take_of_length_le (by rw[List.length_drop];omega)]
   exact hw
  ·rw[Jh7 _ _ _ q2];rfl
 ·rw[show Vv (nrK w0) (l,false) []=((Vv (nrK w0) (l,false) []).1,[],true) from Prod.ext rfl (Jia _ _ _ _ q1)]
  dsimp only
  rw[Hh];rfl
theorem Jv7 {w0:ByteArray} (hk:U8 w0=false) (l:List ByteArray):Vs (w0::l)=(evz,false):=by
 unfold Vs
 have:U8 (Ul (w0::l,false)).1=false:=by
  cases q:emB w0 with
  |true=>rw[Jba q];kernel_rfl
  |false=>rw[Xj q];exact hk
 rw[this];rfl
abbrev K96:=K97
theorem J42 {c:UInt8}:∀{l:List UInt8} {k:Nat},c∉l.take k→k<l.length→l.getD k 0=c→Jd1 c l=true∧L6 c l=l.take k∧Fj c l=l.drop (k+1)
 |[],_,_,h,_=>by simp at h
 |b::r,0,_,_,h=>by
  have h:b=c:=h
  unfold Jd1 L6 Fj
  rw[if_pos h,if_pos h,if_pos h]
  exact⟨rfl,rfl,rfl⟩
 |b::r,k+1,h,hl,hg=>by
  rw[List.take_succ_cons,List.mem_cons,not_or] at h
  have ih:=J42 (l:=r) (k:=k) h.2 (by simpa using hl) (by simpa using hg)
  have hb:¬b=c:=fun q=>h.1 q.symm
  unfold Jd1 L6 Fj
  rw[if_neg hb,if_neg hb,if_neg hb,ih.1,ih.2.1,ih.2.2]
  exact⟨rfl,rfl,rfl⟩
theorem J41 {c:UInt8}:∀{l:List UInt8},c∉l→Jd1 c l=false
 |[],_=>rfl
 |b::r,h=>by
  rw[List.mem_cons,not_or] at h
  unfold Jd1
  rw[if_neg fun q=>h.1 q.symm]
  exact J41 h.2
abbrev K95:=K96
abbrev K5r:=K95
def Jjp (c:Int):Int:=bif c==115 then 0 else bif c==111 then 1 else bif c==120 then 2 else 3
def Jl8 (b:UInt8):Int×Bool:=bif decide ((97:Int)≤(b.toNat:Int)) then(Jjp b.toNat,true) else(Jjp (b.toNat+97-65),false)
theorem J5a (r:Reg) (c:Int) (s:ByteArray):Vl r (Jjp c) s=decide (0≤atS r c s):=by
 unfold atS Jjp
 cases h1:c==115 with
 |true=>rfl
 | false =>
  cases h2:c==111 with
  |true=>rfl
  |false=>
   cases h3:c==120 with
   |true=>rfl
   |false=>rfl
theorem Jtt {k:ByteArray} (h:U8 k=true):(Ji k).1=(Kb k).1.data.toList.map Jl8∧((Ji k).1.drop 1).all (fun x=>x.2)=true:=by
 rcases Ut h with h|h|h|h|h|h|h|h|h|h|h<;>subst h
 all_goals exact⟨by kernel_rfl,by kernel_rfl⟩
theorem Jey {r:Reg} {ns:List ByteArray}:∀{l:List (Int×Bool)} {i:Nat},l.all (fun x=>x.2)=true→Kv r ns l i=false
 |[],_,_=>rfl
 |(w,b)::l,i,h=>by
  rw[List.all_cons,Bool.and_eq_true] at h
  have hb:b=true:=h.1
  subst hb
  unfold Kv
  exact Jey h.2
def Js (r:Reg) (k:ByteArray) (ns:List ByteArray):Int:=bif Kj r ns (Ji k).1 0 then 10 else bif Kv r ns (Ji k).1 0 then 9 else 0
def Ke1:Con:={args:=[Hc,aEv],ress:=[I],owns:=[],pre:=fun(r,e,_)=>[Jn r,U8 e.2.1=true,e.2.2.1.length=(Ji e.2.1).1.length],spec:=fun(r,e,_)=>(Js r e.2.1 e.2.2.1,())}
abbrev Kge (tk st:Int) (S:List Sta) (O:List Ord) (M:List Met) (X:List Out) (Q:List Per) (n:Int) (k:ByteArray) (ns:List ByteArray) (vs:List Int) (tx:ByteArray):Ann:={X:=Nat,σ:=fun i=>⟨9,[(2, .one (.ptr 7 0)),(3, .one (.ptr 8 0)),(5, .one (.str (Kb k).1)),(6, .one (.int .i64 i))],[(0, .imm 114 Fw S),(1, .imm 119 Lo O),(2, .imm 121 Ja4 M),(3, .imm 123 Zn X),(4, .imm 125 Hr Q),(5, .imm 9 .str ns),(6, .imm 3 sI vs),(7, .box 37 [.int .i64 tk, .int .i64 st, .sl 0, .sl 1, .sl 2, .sl 3, .sl 4]),(8, .box 67 [.int .i64 n, .str k, .sl 5, .sl 6, .str tx])]⟩,inv:=fun i=>i≤(Kb k).1.size∧Kj (tk,st,S,O,M,X,Q) ns ((Ji k).1.drop i) i=Kj (tk,st,S,O,M,X,Q) ns (Ji k).1 0,mu:=fun i=>(Kb k).1.size-i}
def K4h (a:Bt):=Nc (UInt8.toNat (List.getD (Kb a).1.data.toList 0 0))
def K3v (a:Bt) (b:Nat):=decide (97≤Nc (UInt8.toNat (List.getD (Kb a).1.data.toList b 0)))
def Knd (a:Bt) (b:Nat):=K3v a b=true
def Kzt (a:Bt):=bif decide (0<Z15 a) then decide (K4h a<97) else false
def Kli (a:Bt):=Kzt a=true
def Klg (a:Nat) (b:Bt) (c d:Int) (e:List Sta) (f:List Ord) (g:List Met) (h:List Out) (i:List Per) (j:Ls):=a≤ByteArray.size (Kb b).1∧Kj (Z74 c d e f g h i) j (List.drop a (Ji b).1) a=Kj (Z74 c d e f g h i) j (Ji b).1 0
theorem Krg:Ok Tryz.prog 224 Ke1:=okW K5r Tryz.f224 (fun xx=>X6 (Kge xx.1.1 xx.1.2.1 xx.1.2.2.1 xx.1.2.2.2.1 xx.1.2.2.2.2.1 xx.1.2.2.2.2.2.1 xx.1.2.2.2.2.2.2 xx.2.1.1 xx.2.1.2.1 xx.2.1.2.2.1 xx.2.1.2.2.2.1 xx.2.1.2.2.2.2)) fun xx=>by
 obtain⟨⟨(tk:Int),(st:Int),(S:List Sta),(O:List Ord),(M:List Met),(X:List Out),(Q:List Per)⟩,⟨(n:Int),(k:ByteArray),(ns:List ByteArray),(vs:List Int),(tx:ByteArray)⟩,_⟩:=xx
 refine(by kernel_rfl:(Jw tk st S O M X Q→U8 k=true→List.length ns=List.length (Ji k).1→∃(x:Nat),Sf (Kb k).1 (0=Nc x∧Sf S (Sf O (Sf M (Sf X (Sf Q (Sf ns (Sf vs (Si tk (Si st (Si n (Sf k (tx=tx))))))))))))∧Klg x k tk st S O M X Q ns∧∀(x:Nat),Klg x k tk st S O M X Q ns→Br (decide (Nc x<Z15 k)) ((Bd (Nc x) (Z15 k)∧(Knd k x→Bd (Nc x) (Z15 k))∧T2 (Knd k x→Z84 x ns) (Knd k x→Jw tk st S O M X Q))∧Br (bif K3v k x then decide (atS (Z74 tk st S O M X Q) (Nc (UInt8.toNat (List.getD (Kb k).1.data.toList x 0))) (Z18 ns x)<0) else false) (10=Js (Z74 tk st S O M X Q) k ns) (Z22 x∧∃(y:Nat),Sf (Kb k).1 (V0 x y∧Sf S (Sf O (Sf M (Sf X (Sf Q (Sf ns (Sf vs (Si tk (Si st (Si n (Sf k (tx=tx))))))))))))∧Klg y k tk st S O M X Q ns∧ByteArray.size (Kb k).1-y<ByteArray.size (Kb k).1-x)) (((decide (0<Z15 k)=true→Bd 0 (Z15 k))∧(Kli k→Bd 0 (Z15 k))∧T2 (Kli k→Yf ns) (Kli k→Jw tk st S O M X Q))∧Br (bif Kzt k then decide (0≤atS (Z74 tk st S O M X Q) (IntKind.wrap IntKind.u8 (IntKind.wrap IntKind.u8 (K4h k+97)-65)) (U2 ns)) else false) (9=Js (Z74 tk st S O M X Q) k ns) (0=Js (Z74 tk st S O M X Q) k ns)))=_).mp ?_
 delta Z15 Z18 Z22 Z74 Z84 Yf V0 U2 Jw K4h K3v Knd Kzt Kli Klg Br Iw Bd T2 Sf Si Ln Nc B0
 intro hr hk hn
 obtain⟨f1,f2,f3⟩:=Jo6 hk
 have f2:(Kb k).1.size=(Ji k).1.length:=f2
 obtain⟨fr,fk⟩:=Jtt hk
 have hB:=Jco k
 have hfl:(Kb k).1.data.toList.length=(Kb k).1.size:=rfl
 have hb0:∀i,i<(Kb k).1.size→(Ji k).1.getD i (0,false)=Jl8 ((Kb k).1.data.toList.getD i 0):=fun i hi=>by
  rw[fr,List.getD_eq_getElem?_getD,List.getElem?_map,List.getD_eq_getElem?_getD]
  rw[List.getElem?_eq_getElem (by omega)];rfl
 refine⟨(0:Nat),by(repeat' first|exact rfl|exact⟨⟩|apply And.intro|omega|dsimp only;omega),⟨Nat.zero_le _,rfl⟩,fun(i:Nat) hi=>⟨fun h1=> ?_,fun h1=> ?_⟩⟩
 ·have hlt:i<(Kb k).1.size:=by simpa using h1
  have h0:=hi.2
  rw[Jk (d:=((0:Int),false)) (by omega),hb0 i hlt] at h0
  have hu:Kj (tk,st,S,O,M,X,Q) ns (Jl8 ((Kb k).1.data.toList.getD i 0)::(Ji k).1.drop (i+1)) i=bif (bif decide (97≤(((Kb k).1.data.toList.getD i 0).toNat:Int)) then decide (atS (tk,st,S,O,M,X,Q) (((Kb k).1.data.toList.getD i 0).toNat:Int) (ns.getD i Ja)<0) else false) then true else Kj (tk,st,S,O,M,X,Q) ns ((Ji k).1.drop (i+1)) (i+1):=by
   unfold Jl8
   cases hc:decide ((97:Int)≤(((Kb k).1.data.toList.getD i 0).toNat:Int)) with
   |false=>rfl
   | true =>
    rw[cond_true,Kj,J5a,cond_true]
    have:(!decide (0≤atS (tk,st,S,O,M,X,Q) (((Kb k).1.data.toList.getD i 0).toNat:Int) (ns.getD i Ja)))=decide (atS (tk,st,S,O,M,X,Q) (((Kb k).1.data.toList.getD i 0).toNat:Int) (ns.getD i Ja)<0):=by
     rw[Bool.eq_iff_iff];simp
    rw[this];rfl
  rw[hu] at h0
  refine⟨⟨by omega,fun _=>by omega,fun _=>by omega,fun _=>by omega,fun _=>hr⟩,fun h2=> ?_,fun h2=>⟨by omega,(i+1:Nat),by(repeat' first|exact rfl|exact⟨⟩|apply And.intro|omega|dsimp only;omega),⟨by omega, ?_⟩,by omega⟩⟩
  ·rw[show(bif decide (97≤(((Kb k).1.data.toList.getD i 0).toNat:Int)) then decide (atS (tk,st,S,O,M,X,Q) (((Kb k).1.data.toList.getD i 0).toNat:Int) (ns.getD i Ja)<0) else false)=true from h2,cond_true] at h0
   unfold Js;rw[←h0];rfl
  ·rw[show(bif decide (97≤(((Kb k).1.data.toList.getD i 0).toNat:Int)) then decide (atS (tk,st,S,O,M,X,Q) (((Kb k).1.data.toList.getD i 0).toNat:Int) (ns.getD i Ja)<0) else false)=false from h2,cond_false] at h0
   exact h0
 ·have hlt:¬i<(Kb k).1.size:=by simpa using h1
  have h0:=hi.2
  rw[List.drop_eq_nil_of_le (by omega)] at h0
  have hu0:Kj (tk,st,S,O,M,X,Q) ns (Ji k).1 0=false:=h0.symm
  have hN:Js (tk,st,S,O,M,X,Q) k ns=bif Kv (tk,st,S,O,M,X,Q) ns (Ji k).1 0 then 9 else 0:=by unfold Js;rw[hu0];rfl
  have g0:∀{p:Prop},(bif decide ((0:Int)<((Kb k).1.size:Int)) then decide ((((Kb k).1.data.toList.getD 0 0).toNat:Int)<97) else false)=true→(Kb k).1.size≠0:=fun{p} h=>by
   intro q
   rw[q] at h
   cases h
  have hz:∀{b:Bool},(bif decide ((0:Int)<((Kb k).1.size:Int)) then b else false)=true→0<(Kb k).1.size:=fun{b} h=>by
   by_cases q:0<(Kb k).1.size
   ·exact q
   ·rw[decide_eq_false (show ¬(0:Int)<((Kb k).1.size:Int) by omega)] at h;cases h
  have key:(bif bif decide ((0:Int)<((Kb k).1.size:Int)) then decide ((((Kb k).1.data.toList.getD 0 0).toNat:Int)<97) else false then decide (0≤atS (tk,st,S,O,M,X,Q) (IntKind.u8.wrap (IntKind.u8.wrap ((((Kb k).1.data.toList.getD 0 0).toNat:Int)+97)-65)) (ns.getD 0 Ja)) else false)=Kv (tk,st,S,O,M,X,Q) ns (Ji k).1 0:=by
   by_cases q:0<(Kb k).1.size
   ·rw[decide_eq_true (show(0:Int)<((Kb k).1.size:Int) by omega),cond_true]
    have hc:=Jk (l:=(Ji k).1) (k:=0) (d:=((0:Int),false)) (by omega)
    rw[List.drop_zero,hb0 0 q] at hc
    rw[hc]
    unfold Jl8
    by_cases q1:(97:Int)≤(((Kb k).1.data.toList.getD 0 0).toNat:Int)
    ·rw[decide_eq_true q1,decide_eq_false (show ¬(((Kb k).1.data.toList.getD 0 0).toNat:Int)<97 by omega)]
     exact(Jey fk).symm
    ·rw[decide_eq_false q1,decide_eq_true (show(((Kb k).1.data.toList.getD 0 0).toNat:Int)<97 by omega)]
     rw[cond_true,cond_false,Kv,J5a,Jey fk,J02 (n:=(((Kb k).1.data.toList.getD 0 0).toNat:Int)+97) (by omega) (by omega),J02 (n:=(((Kb k).1.data.toList.getD 0 0).toNat:Int)+97-65) (by omega) (by omega)]
     show _=bif _ then true else false
     cases decide (0≤atS (tk,st,S,O,M,X,Q) ((((Kb k).1.data.toList.getD 0 0).toNat:Int)+97-65) (ns.getD 0 Ja))<;>rfl
   ·rw[decide_eq_false (show ¬(0:Int)<((Kb k).1.size:Int) by omega)]
    have:(Ji k).1=[]:=List.eq_nil_of_length_eq_zero (by omega)
    rw[this];rfl
  refine⟨⟨fun h=>⟨by decide,of_decide_eq_true h⟩,fun h=>⟨by decide,by have:=hz h;omega⟩,fun h=>⟨by decide,by have:=hz h;omega⟩,fun h=>⟨by decide,by have:=hz h;omega⟩,fun _=>hr⟩,fun h2=> ?_,fun h2=> ?_⟩
  ·rw[hN,show Kv (tk,st,S,O,M,X,Q) ns (Ji k).1 0=true from key.symm.trans h2];rfl
  ·rw[hN,show Kv (tk,st,S,O,M,X,Q) ns (Ji k).1 0=false from key.symm.trans h2];rfl
abbrev K5q:=K5r.add Krg
def Yl (Q:List Per) (s:ByteArray):Bool:=decide ((0:Int)<((De Q).filter fun p=>p.2.1.toList==s.toList).length)
theorem Jo5 (x:Per) (Q:List Per) (s:ByteArray):Yl (x::Q) s=bif (bif x.2.1.toList==s.toList then x.2.2 else false) then true else Yl Q s:=by
 unfold Yl De
 rw[List.filter_cons]
 cases h1:x.2.2 with
 |false=>
  rw[if_neg (by simp)]
  cases(x.2.1.toList==s.toList)<;>rfl
 | true =>
  rw[if_pos rfl,List.filter_cons]
  cases h2:(x.2.1.toList==s.toList) with
  |false=>rfl
  |true=>
   rw[if_pos rfl]
   exact decide_eq_true (by simp only[List.length_cons];omega)
def Kfg:Con:={args:=[Hc,aS],ress:=[Bo],owns:=[],pre:=fun((_,_,_,_,_,_,Q),_)=>[Q.length≤1000000],spec:=fun((_,_,_,_,_,_,Q),s,_)=>(Yl Q s,())}
abbrev Kgd (tk st:Int) (S:List Sta) (O:List Ord) (M:List Met) (X:List Out) (Q:List Per) (s:ByteArray):Ann:={X:=Nat,σ:=fun k=>⟨6,[(1, .one (.str s)),(2, .one (.ptr 5 0)),(5, .one (.int .i64 k))],[(0, .imm 114 Fw S),(1, .imm 119 Lo O),(2, .imm 121 Ja4 M),(3, .imm 123 Zn X),(4, .imm 125 Hr Q),(5, .box 37 [.int .i64 tk, .int .i64 st, .sl 0, .sl 1, .sl 2, .sl 3, .sl 4])]⟩,inv:=fun k=>k≤Q.length∧Yl Q s=Yl (Q.drop k) s,mu:=fun k=>Q.length-k}
def Kox (a:Nat) (b:List Per) (c:Bt):=a≤List.length b∧Yl b c=Yl (List.drop a b) c
theorem Kqs:Ok Tryz.prog 269 Kfg:=okW K5q Tryz.f269 (fun xx=>X6 (Kgd xx.1.1 xx.1.2.1 xx.1.2.2.1 xx.1.2.2.2.1 xx.1.2.2.2.2.1 xx.1.2.2.2.2.2.1 xx.1.2.2.2.2.2.2 xx.2.1)) fun xx=>by
 obtain⟨⟨(tk:Int),(st:Int),(S:List Sta),(O:List Ord),(M:List Met),(X:List Out),(Q:List Per)⟩,(s:ByteArray),_⟩:=xx
 refine(by kernel_rfl:(Z51 Q→∃(x:Nat),J0d s x S O M X Q tk st∧Kox x Q s∧∀(x:Nat),Kox x Q s→Br (J0t x Q) (T2 (Bd (Nc x) (Ln Q)) (Tw (Lb (J5u Q x).1 s=true→Bd (Nc x) (Ln Q)))∧Br (bif Lb (J5u Q x).1 s then(J5u Q x).2 else false) (true=Yl Q s) (Z22 x∧∃(y:Nat),J0c s x y S O M X Q tk st∧Kox y Q s∧J3k Q y x)) (false=Yl Q s))=_).mp ?_
 delta Z22 Z51 J0t V0 J5u J3k Kox Jrz J0d J0c Br Iw Bd T2 Tw Sf Si Ln Nc B0 Lb
 intro hb
 refine⟨(0:Nat),by(repeat' first|exact rfl|exact⟨⟩|apply And.intro|omega|dsimp only;omega),⟨Nat.zero_le _,rfl⟩,fun(k:Nat) hk=>⟨fun h=> ?_,fun h=> ?_⟩⟩
 ·have hlt:k<Q.length:=by simpa using h
  have hd:=Jk (d:=Jj6) hlt
  have h0:=hk.2
  rw[hd,Jo5] at h0
  refine⟨⟨by omega,by omega,fun _=>by omega,fun _=>by omega⟩,fun h1=> ?_,fun h1=>⟨by omega,(k+1:Nat),by(repeat' first|exact rfl|exact⟨⟩|apply And.intro|omega|dsimp only;omega),⟨by omega, ?_⟩,by omega⟩⟩
  ·rw[h0,show(bif (Q.getD k Jj6).snd.fst.toList==s.toList then(Q.getD k Jj6).snd.snd else false)=true from h1];rfl
  ·rw[h0,show(bif (Q.getD k Jj6).snd.fst.toList==s.toList then(Q.getD k Jj6).snd.snd else false)=false from h1];rfl
 ·have hlt:¬k<Q.length:=by simpa using h
  have:k=Q.length:=by omega
  rw[hk.2,this,List.drop_length];rfl
abbrev K5p:=K5q.add Kqs
def Kf2 (t a b:Int):Bool:=bif (bif decide (a<t) then true else decide (b≤a)) then true else decide (48<b-a)
def J2s:Con:={args:=[aI, .val true H6],ress:=[Bo],owns:=[],pre:=fun(_,s,_)=>[0≤s.1∧s.1≤999999999,0≤s.2∧s.2≤999999999],spec:=fun(t,s,_)=>(Kf2 t s.1 s.2,())}
theorem Kqt:Ok Tryz.prog 268 J2s:=okW K5p Tryz.f268 na fun xx=>by
 obtain⟨(t:Int),⟨(a:Int),(b:Int)⟩,_⟩:=xx
 refine(by kernel_rfl:(Kdd a→Kdd b→((bif decide (a<t) then true else decide (b≤a))=false→Iw (b-a))∧(bif bif decide (a<t) then true else decide (b≤a) then true else decide (48<b-a))=Kf2 t a b)=_).mp ?_
 delta Kdd Iw
 intro h1 h2
 exact⟨fun _=>by omega,rfl⟩
abbrev Juf:=K5p.add Kqt
def Jdv (X:List Out):Prop:=(X.map fun x=>x.1).Nodup
theorem Jw5:∀{l:List Out} {k:Nat} {x:Out},(l.map fun x=>x.1).Nodup→x∈l→∃i,Vp (fun y:Out=>y.1.toList==x.1.toList) l k=((k+i:Nat):Int)∧i<l.length∧l.getD i Jb6=x
 |[],_,_,_,h=>by cases h
 | y :: l, k, x, hn, h => by
  rw[List.map_cons,List.nodup_cons] at hn
  unfold Vp
  by_cases q:(y.1.toList==x.1.toList)=true
  ·have q1:=Yr q
   rw[if_pos q]
   rcases List.mem_cons.1 h with h|h
   ·exact⟨0,rfl,by simp,h.symm⟩
   ·exact absurd (q1▸List.mem_map_of_mem (f:=fun z:Out=>z.1) h) hn.1
  ·rw[if_neg q]
   rcases List.mem_cons.1 h with h|h
   ·subst h;exact absurd (beq_self_eq_true _) q
   ·obtain⟨i,h1,h2,h3⟩:=Jw5 (k:=k+1) hn.2 h
    exact⟨i+1,by rw[h1];congr 1;omega,by simp;omega,h3⟩
theorem J54 {X:List Out} (h:Jdv X) {x:Out} (hx:x∈X):Dd X x.1=x:=by
 obtain⟨i,h1,_,h3⟩:=Jw5 (k:=0) h hx
 unfold Dd J7
 rw[h1,Nat.zero_add,Int.toNat_natCast]
 exact h3
theorem Jq4 {α:Type} {p:α→Bool}:∀{l:List α} {k:Nat},Vp p l k<0→∀x∈l,p x=false
 |[],_,_,x,hx=>by cases hx
 | y :: l, k, h, x, hx => by
  unfold Vp at h
  by_cases q:p y=true
  ·rw[if_pos q] at h;omega
  ·rw[if_neg q] at h
   rcases List.mem_cons.1 hx with hx|hx
   ·subst hx;simpa using q
   ·exact Jq4 h x hx
theorem Jsq {X:List Out} {x:Out} (h:Jdv X) (hn:J7 X x.1<0):Jdv (X++[x]):=by
 unfold Jdv at h⊢
 rw[List.map_append,List.nodup_append]
 refine⟨h,by simp,fun a ha b hb=> ?_⟩
 obtain⟨y,hy,rfl⟩:=List.mem_map.1 ha
 have hb:b=x.1:=by simpa using hb
 subst hb
 intro e
 have:=Jq4 hn y hy
 rw[e,beq_self_eq_true] at this
 cases this
theorem J53 {X:List Out} {s:ByteArray} {v:Int} (h:Jdv X) (hf:0≤J7 X s):Jdv (Je7 X s v):=by
 unfold Jdv Je7 at*
 have hl:=Up (l:=X) (s:=s)
 rw[List.map_set]
 have:(X.map fun x=>x.1).set (J7 X s).toNat (Dd X s).1=X.map fun x=>x.1:=by
  apply List.ext_getElem?
  intro i
  rw[List.getElem?_set]
  by_cases q:(J7 X s).toNat=i
  ·rw[if_pos q]
   subst q
   rw[if_pos (by rw[List.length_map];omega),List.getElem?_map]
   unfold Dd
   rw[List.getD_eq_getElem?_getD,List.getElem?_eq_getElem (by omega)]
   rfl
  ·rw[if_neg q]
 rw[this]
 exact h
def Vn (r:Reg) (e:Ev):Int:=if decide (e.2.2.2.1.getD 0 0<r.1)=true then 22 else if Js r e.2.1 e.2.2.1≠0 then Js r e.2.1 e.2.2.1 else ckS r e
def Y0 (r:Reg) (e:Ev):Reg:=if decide (e.2.2.2.1.getD 0 0<r.1)=true then r else if Js r e.2.1 e.2.2.1≠0 then r else if ckS r e≠0 then(e.2.2.2.1.getD 0 0,r.2) else Jq r e
def L8:Con:={args:=[Hc,aEv],ress:=[(true,Jl6),I],owns:=[],pre:=fun(r,e,_)=>[Jn r,Jdv r.2.2.2.2.2.1,r.2.2.2.2.1.length<10000,Jb e=0,(e.2.1.toList==Jy.toList)=false],spec:=fun(r,e,_)=>(Y0 r e,Vn r e,())}
abbrev Keh:Ann:={X:=Unit,σ:=fun _=>⟨0,[],[]⟩,inv:=fun _=>True,mu:=fun _=>0,un:=7777}
abbrev L9:Nat→Option Ann:=fun id=>if id=1000034 then some Keh else none
abbrev X5 (o:Option Ann):FuncId→Nat→Option Ann:=fun f id=>if f=226∨f=227 then(if id=1000073∨id=1000147∨id=1000195∨id=1000233∨id=1000052∨id=1000077∨id=1000097∨id=1000198 then some Keh else if id=1∨id=3 then o else none) else none
theorem Jtg {r:Reg} {k:ByteArray} {ns:List ByteArray} (h:Js r k ns=0):Kj r ns (Ji k).1 0=false∧Kv r ns (Ji k).1 0=false:=by
 unfold Js at h
 cases h1:Kj r ns (Ji k).1 0 with
 |true=>rw[h1] at h;cases h
 |false=>
  rw[h1,cond_false] at h
  cases h2:Kv r ns (Ji k).1 0 with
  |true=>rw[h2] at h;cases h
  |false=>exact⟨rfl,rfl⟩
theorem Jrv {r:Reg} {e:Ev} (h:decide (e.2.2.2.1.getD 0 0<r.1)=true):Y0 r e=r∧Vn r e=22:=by unfold Y0 Vn;rw[if_pos h,if_pos h];exact⟨rfl,rfl⟩
theorem Jnm {r:Reg} {e:Ev} (h:decide (e.2.2.2.1.getD 0 0<r.1)=false) (h2:Js r e.2.1 e.2.2.1≠0):Y0 r e=r∧Vn r e=Js r e.2.1 e.2.2.1:=by
 have a:¬decide (e.2.2.2.1.getD 0 0<r.1)=true:=by rw[h];simp
 unfold Y0 Vn
 constructor
 ·rw[if_neg a,if_pos h2]
 ·rw[if_neg a,if_pos h2]
theorem Kgh {r:Reg} {e:Ev} {c:Int} (h:decide (e.2.2.2.1.getD 0 0<r.1)=false) (h2:Js r e.2.1 e.2.2.1=0) (h3:ckS r e=c) (h4:c≠0):Y0 r e=(e.2.2.2.1.getD 0 0,r.2)∧Vn r e=c:=by
 have a:¬decide (e.2.2.2.1.getD 0 0<r.1)=true:=by rw[h];simp
 have b:¬Js r e.2.1 e.2.2.1≠0:=by rw[h2];simp
 have d:ckS r e≠0:=by rw[h3];exact h4
 unfold Y0 Vn
 rw[if_neg a,if_neg a,if_neg b,if_neg b,if_pos d]
 exact⟨rfl,h3⟩
theorem Kgg {r:Reg} {e:Ev} (h:decide (e.2.2.2.1.getD 0 0<r.1)=false) (h2:Js r e.2.1 e.2.2.1=0) (h3:ckS r e=0):Y0 r e=Jq r e∧Vn r e=0:=by
 have a:¬decide (e.2.2.2.1.getD 0 0<r.1)=true:=by rw[h];simp
 have b:¬Js r e.2.1 e.2.2.1≠0:=by rw[h2];simp
 have d:¬ckS r e≠0:=by rw[h3];simp
 unfold Y0 Vn
 rw[if_neg a,if_neg a,if_neg b,if_neg b,if_neg d]
 exact⟨rfl,h3⟩
theorem Hq (n lo hi:Int):Ki n lo hi=bif Xu n lo hi then 3 else 0:=rfl
theorem Kgi {r:Reg} {e:Ev} (h:decide (e.2.2.2.1.getD 0 0<r.1)=false) (h2:(Js r e.2.1 e.2.2.1 !=0)=false):Vn r e=ckS r e:=by
 have h2:Js r e.2.1 e.2.2.1=0:=by simpa using h2
 unfold Vn
 rw[if_neg (by rw[h];simp),if_neg (by rw[h2];simp)]
theorem Kve {r:Reg} {e:Ev} (h:decide (e.2.2.2.1.getD 0 0<r.1)=false) (h2:(Js r e.2.1 e.2.2.1 !=0)=false) (h3:ckS r e≠0):Y0 r e=(e.2.2.2.1.getD 0 0,r.2):=by
 have h2:Js r e.2.1 e.2.2.1=0:=by simpa using h2
 exact(Kgh h h2 rfl h3).1
theorem Kvf {r:Reg} {e:Ev} (h:decide (e.2.2.2.1.getD 0 0<r.1)=false) (h2:(Js r e.2.1 e.2.2.1 !=0)=false) (h3:ckS r e=0):Y0 r e=Jq r e:=by
 have h2:Js r e.2.1 e.2.2.1=0:=by simpa using h2
 exact(Kgg h h2 h3).1
theorem Jo3 {α:Type} {p:α→Bool} {d:α}:∀{l:List α} {k:Nat},0≤Vp p l k→∃i,Vp p l k=((k+i:Nat):Int)∧p (l.getD i d)=true
 |[],k,h=>by unfold Vp at h;exact absurd h (by decide)
 | x :: l, k, h => by
  unfold Vp at h⊢
  by_cases q:p x=true
  ·rw[if_pos q];exact⟨0,rfl,q⟩
  ·rw[if_neg q] at h⊢
   obtain⟨i,h1,h2⟩:=Jo3 (d:=d) h
   exact⟨i+1,by rw[h1];congr 1;omega,h2⟩
theorem Jml {X:List Out} {s:ByteArray} (h:0≤J7 X s):(Dd X s).1=s:=by
 unfold J7 at h
 obtain⟨i,h1,h2⟩:=Jo3 (d:=Jb6) h
 have:Dd X s=X.getD i Jb6:=by unfold Dd J7;rw[h1,Nat.zero_add];rfl
 rw[this]
 exact Yr h2
theorem Kt2 {M:List Met} {s:ByteArray} {h:Int}:decide (0≤K6 M s h)=(Dg M s h).2:=by
 unfold Dg
 by_cases q:0≤K6 M s h
 ·rw[if_pos q,decide_eq_true q]
 ·rw[if_neg q,decide_eq_false q]
theorem Jrs {f:Int→Bool} {a:Int} {k n:Nat} (h:k<n):Jt0 f (a+(k:Int)) (n-k)=bif f (a+(k:Int)) then true else Jt0 f (a+((k+1:Nat):Int)) (n-(k+1)):=by
 have hj:n-k=(n-(k+1))+1:=by omega
 rw[hj,Jt0]
 have:a+(k:Int)+1=a+((k+1:Nat):Int):=by push_cast;omega
 rw[this]
theorem Jrt {f:Int→Bool} {a:Int} {k n:Nat} (h:n≤k):Jt0 f a (n-k)=false:=by
 have hj:n-k=0:=by omega
 rw[hj];rfl
theorem K9b (a b p:Int):decide (min a b<p)=bif decide (a<p) then true else decide (b<p):=by
 by_cases h:a<p
 ·rw[decide_eq_true h];exact decide_eq_true (by omega)
 ·rw[decide_eq_false h,cond_false]
  by_cases h2:b<p
  ·rw[decide_eq_true h2];exact decide_eq_true (by omega)
  ·rw[decide_eq_false h2];exact decide_eq_false (by omega)
theorem Kt6 {α:Type} {l:List α} {p:α→Bool}:decide ((0:Int)<(l.filter p).length)=l.any p:=by
 induction l with
 |nil=>rfl
 |cons x l ih=>
  rw[List.filter_cons,List.any_cons]
  cases h:p x with
  |true=>rw[if_pos rfl,Bool.true_or];exact decide_eq_true (by rw[List.length_cons];omega)
  |false=>rw[if_neg (by simp),Bool.false_or];exact ih
theorem J6y {X:List Out} {Q:List Per} {u:Int} (hu:Jdv X) (hp:∀p∈Q,0≤J7 X p.2.1):decide ((0:Int)<((De Q).filter fun p=>decide ((Dd X p.2.1).2.2.1.2≤u)).length)=X.any fun x=>decide (x.2.2.1.2≤u)&&Yl Q x.1:=by
 rw[Kt6,Bool.eq_iff_iff,List.any_eq_true,List.any_eq_true]
 constructor
 ·rintro⟨p,h1,h2⟩
  have hq:=Jmm h1
  have h3:=hp p hq
  refine⟨Dd X p.2.1,Jwd h3, ?_⟩
  rw[h2,Bool.true_and]
  unfold Yl
  rw[Kt6,List.any_eq_true]
  exact⟨p,h1,by rw[Jml h3,beq_self_eq_true]⟩
 ·rintro⟨x,h1,h2⟩
  rw[Bool.and_eq_true] at h2
  obtain⟨h2,h3⟩:=h2
  unfold Yl at h3
  rw[Kt6,List.any_eq_true] at h3
  obtain⟨p,h4,h5⟩:=h3
  have h6:p.2.1=x.1:=Yr h5
  exact⟨p,h4,by rw[h6,J54 hu h1];exact h2⟩
theorem X0 {X:List Ord} {s:ByteArray} (h:0≤Kx X s):(X9 X s).1=s:=by
 unfold Kx at h
 obtain⟨i,h1,h2⟩:=Jo3 (d:=Km) h
 have:X9 X s=X.getD i Km:=by unfold X9 Kx;rw[h1,Nat.zero_add];rfl
 rw[this]
 exact Yr h2
section
variable {r:Reg} {e:Ev}
theorem lfT (h:decide (e.2.2.2.1.getD 0 0<r.1)=true):True∧r=Y0 r e∧22=Vn r e:=⟨trivial,(Jrv h).1.symm,(Jrv h).2.symm⟩
theorem lfN (h:decide (e.2.2.2.1.getD 0 0<r.1)=false) (h2:(Js r e.2.1 e.2.2.1 !=0)=true):True∧r=Y0 r e∧Js r e.2.1 e.2.2.1=Vn r e:=⟨trivial,(Jnm h (bne_iff_ne.mp h2)).1.symm,(Jnm h (bne_iff_ne.mp h2)).2.symm⟩
theorem lfA {c:Int} {R:Reg} (h:decide (e.2.2.2.1.getD 0 0<r.1)=false) (h2:(Js r e.2.1 e.2.2.1 !=0)=false) (h3:ckS r e=c) (h4:(c≠0∧(e.2.2.2.1.getD 0 0,r.2)=R)∨(c=0∧Jq r e=R)):True∧R=Y0 r e∧c=Vn r e:=by
 rcases h4 with⟨h4,rfl⟩|⟨rfl,rfl⟩
 ·exact⟨trivial,(Kve h h2 (by rw[h3];exact h4)).symm,((Kgi h h2).trans h3).symm⟩
 ·exact⟨trivial,(Kvf h h2 h3).symm,((Kgi h h2).trans h3).symm⟩
theorem Jz7 (hr:Jn r) (hc:Jb e=0):e.2.2.1.length=(Ji e.2.1).1.length∧(e.2.2.2.1.length:Int)=(Ji e.2.1).2.1∧r.2.2.1.length≤6∧r.2.2.2.1.length≤32∧r.2.2.2.2.2.1.length≤16∧r.2.2.2.2.2.2.length≤16∧∀i,i<e.2.2.2.1.length→(0≤e.2.2.2.1.getD i 0∧e.2.2.2.1.getD i 0≤999999999):=
 have hE:=J6 hc
 ⟨hE.nn,hE.nv,hr.nS,hr.nO,hr.nX,hr.nQ,fun _ hi=>hE.val _ (Jd hi)⟩
theorem fcN {k ns} (a:(Js r k ns !=0)=false):Kj r ns (Ji k).1 0=false:=(Jtg (by simpa using a)).1
end
theorem K92 (a b:Bool):(a&&b)=bif a then b else false:=by cases a<;>rfl
theorem rcb:({data:={toList:=[]}}:ByteArray)=Ja:=congrArg (fun x=>x) rfl
theorem rcS (S s):List.getD S (J2 S s).toNat (Ja,0,0)=Hw S s:=congrArg (fun x=>x) rfl
theorem rcO (O s):List.getD O (Kx O s).toNat (Ja,Ja,Ja,(0,0),0,0,0)=X9 O s:=congrArg (fun x=>x) rfl
theorem rcX (X s):List.getD X (J7 X s).toNat (Ja,Ja,(0,0),0)=Dd X s:=congrArg (fun x=>x) rfl
theorem rcQ (Q s):List.getD Q (U1 Q s).toNat (Ja,Ja,false)=Jnw Q s:=congrArg (fun x=>x) rfl
def Z62 (a:List Met):=List.length a<10000
def Ji6 (a:Li) (b:Int):=decide (U7 a<b)
def Ji5 (a:List Per):=(0+List.length a)*40≤140737488355328
def Ji4 (a:List Out):=(0+List.length a)*56≤140737488355328
def Ji3 (a:List Sta):=(0+List.length a)*32≤140737488355328
def Ji2 (a:List Ord):=(0+List.length a)*88≤140737488355328
def Ji1 (a:List Met):=(0+List.length a)*40≤140737488355328
def Jd2 (a:Li) (b:Int) (c:List Sta) (d:List Ord) (e:List Met) (f:List Out) (g:List Per):=(U7 a,b,c,d,e,f,g)
def Jun (a b:Int) (c:List Sta) (d:List Ord) (e:List Met) (f:List Out) (g:List Per) (h:Ls):=Jw a b c d e f g∧Sf true (List.length h=1)
variable (T:TypeId) (E C:List Ev) (G:List Reg) (tk st:Int) (S:List Sta) (O:List Ord) (M:List Met) (X:List Out) (Q:List Per) (n:Int) (ns:List ByteArray) (vs:List Int) (tx:ByteArray)
theorem Jjb:wpFG Tryz.prog Juf.g L9 (X5 (none)) (Sx.look ([(225,Tryz.f225),(226,Tryz.f226),(227,Tryz.f227)]:List (Nat×Func))) Tryz.f132 L8 ((tk,st,S,O,M,X,Q),(n,Jt,ns,vs,tx),()):=by
 refine(by kernel_rfl:(Jw tk st S O M X Q→Jdv X→Z62 M→Jb (Z32 n ns vs tx)=0→Lb Jt Jy=false→Kt vs∧Br (Ji6 vs tk) (Sf true (Z74 tk st S O M X Q=Y0 (Z74 tk st S O M X Q) (Z32 n ns vs tx)∧22=Vn (Z74 tk st S O M X Q) (Z32 n ns vs tx))) (Jun tk st S O M X Q ns∧Br (Js (Z74 tk st S O M X Q) Jt ns !=0) (Sf true (Z74 tk st S O M X Q=Y0 (Z74 tk st S O M X Q) (Z32 n ns vs tx)∧Js (Z74 tk st S O M X Q) Jt ns=Vn (Z74 tk st S O M X Q) (Z32 n ns vs tx))) (Ji3 S∧Ji2 O∧Ji1 M∧Ji4 X∧Ji5 Q∧Jsc vs∧Br (Xu (Zh vs) 1 1000) (Kt vs∧Sf true (Jd2 vs st S O M X Q=Y0 (Z74 tk st S O M X Q) (Z32 n ns vs tx)∧3=Vn (Z74 tk st S O M X Q) (Z32 n ns vs tx))) (Br (decide (6≤Ln ([]++S))) (Kt vs∧Sf true (Jd2 vs st S O M X Q=Y0 (Z74 tk st S O M X Q) (Z32 n ns vs tx)∧5=Vn (Z74 tk st S O M X Q) (Z32 n ns vs tx))) (Kmy ns vs S∧Kt vs∧Sf true ((U7 vs,st,Kns S ns vs,O,M,X,Q)=Y0 (Z74 tk st S O M X Q) (Z32 n ns vs tx)∧0=Vn (Z74 tk st S O M X Q) (Z32 n ns vs tx)))))))=_).mp ?_
 delta Z32 Z33 Z36 Z62 Z74 U7 Yf U2 Jsc Zh Kt Jw Ji6 Ji5 Ji4 Ji3 Ji2 Ji1 Jd2 Jun Kns Kmy Br Bd T2 Tw Sf Ln B0 Lb Jt Jy
 intro hr hu hm hc _
 obtain⟨hn,hv,nS,nO,nX,nQ,hx⟩:=Jz7 hr hc
 simp only[Ub,List.length_cons,List.length_nil] at hn hv nS nO nX nQ hx
 have cE:ckS (tk,st,S,O,M,X,Q) (n,Jt,ns,vs,tx)=Jng S vs:=by simp only[ckS,Ub]
 have sE:Jq (tk,st,S,O,M,X,Q) (n,Jt,ns,vs,tx)=(vs.getD 0 0,(Jbv (tk,st,S,O,M,X,Q) (n,Jt,ns,vs,tx)).2):=by simp only[Jq,doS,Ub]
 simp only[List.nil_append,rcb,rcS,rcO,rcX,rcQ,Prod.eta]
 repeat' first|exact lfT ‹_›|exact lfN ‹_› ‹_›|exact lfA ‹_› ‹_› (cE.trans (by clear cE sE hx hc;simp only[Jng,Jg,Hq,List.nil_append, *,cond_true,cond_false,reduceIte,decide_true,decide_false,Bool.not_true,Bool.not_false,Int.reduceEq,Int.reduceNe,ne_eq,not_false_eq_true,not_true_eq_false];first|done|rfl|decide)) (by first|exact .inl ⟨by decide,rfl⟩|exact .inl ⟨bne_iff_ne.mp ‹_›,rfl⟩|exact .inr ⟨rfl,sE.trans (by first|rfl|simp only[Jbv,List.nil_append])⟩)|apply And.intro|intro _
 all_goals first|omega|trivial|assumption
def K3t (a:List Sta) (b:Ls):=Gt ([]++a) (J5s a b) Z13
theorem Jn4:wpFG Tryz.prog Juf.g L9 (X5 (none)) (Sx.look ([(225,Tryz.f225),(226,Tryz.f226),(227,Tryz.f227)]:List (Nat×Func))) Tryz.f132 L8 ((tk,st,S,O,M,X,Q),(n,Uc,ns,vs,tx),()):=by
 refine(by kernel_rfl:(Jw tk st S O M X Q→Jdv X→Z62 M→Jb (Z8 n ns vs tx)=0→Lb Uc Jy=false→Kt vs∧Br (Ji6 vs tk) (Sf true (Z74 tk st S O M X Q=Y0 (Z74 tk st S O M X Q) (Z8 n ns vs tx)∧22=Vn (Z74 tk st S O M X Q) (Z8 n ns vs tx))) (Jun tk st S O M X Q ns∧Br (Js (Z74 tk st S O M X Q) Uc ns !=0) (Sf true (Z74 tk st S O M X Q=Y0 (Z74 tk st S O M X Q) (Z8 n ns vs tx)∧Js (Z74 tk st S O M X Q) Uc ns=Vn (Z74 tk st S O M X Q) (Z8 n ns vs tx))) (Ji3 S∧Ji2 O∧Ji1 M∧Ji4 X∧Ji5 Q∧Jsc vs∧Br (decide (1000<Zh vs)) (Kt vs∧Sf true (Jd2 vs st S O M X Q=Y0 (Z74 tk st S O M X Q) (Z8 n ns vs tx)∧3=Vn (Z74 tk st S O M X Q) (Z8 n ns vs tx))) (T2 (Yf ns) (Z52 S∧T2 (Z33 vs) (Tw (Bd (J5s S ns) (Ln ([]++S)))))∧Kt vs∧Sf true ((U7 vs,st,List.set ([]++S) (Int.toNat (J5s S ns)) ((K3t S ns).1,(K3t S ns).2.1,Zh vs),O,M,X,Q)=Y0 (Z74 tk st S O M X Q) (Z8 n ns vs tx)∧0=Vn (Z74 tk st S O M X Q) (Z8 n ns vs tx))))))=_).mp ?_
 delta Z8 Z13 Z33 Z36 Z52 Z62 Z74 U7 Yf U2 Jsc Zh Kt Jw J5s Ji6 Ji5 Ji4 Ji3 Ji2 Ji1 Jd2 Jun K3t Br Bd T2 Tw Sf Ln Gt B0 Lb Uc Jy
 intro hr hu hm hc _
 obtain⟨hn,hv,nS,nO,nX,nQ,hx⟩:=Jz7 hr hc
 simp only[Vg,List.length_cons,List.length_nil] at hn hv nS nO nX nQ hx
 have cE:ckS (tk,st,S,O,M,X,Q) (n,Uc,ns,vs,tx)=Jpj vs:=by simp only[ckS,Vg]
 have sE:Jq (tk,st,S,O,M,X,Q) (n,Uc,ns,vs,tx)=(vs.getD 0 0,(F5 (tk,st,S,O,M,X,Q) (n,Uc,ns,vs,tx)).2):=by simp only[Jq,doS,Vg]
 have hp:decide (vs.getD 1 0<0)=false:=decide_eq_false (by have:=hx 1 (by omega);omega)
 have hF:(Js (tk,st,S,O,M,X,Q) Uc ns !=0)=false→(0≤J2 S (ns.getD 0 Ja)∧J2 S (ns.getD 0 Ja)<S.length):=fun a=>by
  have z:=fcN a
  rw[Vg] at z
  obtain⟨k0,z⟩:=Jm z
  exact⟨Jtp (k0 rfl),K4⟩
 simp only[List.nil_append,rcb,rcS,rcO,rcX,rcQ,Prod.eta]
 repeat' first|exact lfT ‹_›|exact lfN ‹_› ‹_›|exact lfA ‹_› ‹_› (cE.trans (by clear cE sE hF hx hc;simp only[Jpj,Ki,Bool.false_or,Hq,List.nil_append, *,cond_true,cond_false,reduceIte,decide_true,decide_false,Bool.not_true,Bool.not_false,Int.reduceEq,Int.reduceNe,ne_eq,not_false_eq_true,not_true_eq_false];first|done|rfl|decide)) (by first|exact .inl ⟨by decide,rfl⟩|exact .inl ⟨bne_iff_ne.mp ‹_›,rfl⟩|exact .inr ⟨rfl,sE.trans (by first|rfl|simp only[F5,List.nil_append]|simp only[F5,X0 (hF ‹_›).1])⟩)|apply And.intro|intro _
 all_goals first|omega|trivial|assumption|(have:=hF ‹_›;omega)
abbrev Ji0 (tk st:Int) (S:List Sta) (O:List Ord) (M:List Met) (X:List Out) (Q:List Per) (n:Int) (ns:List ByteArray) (vs:List Int) (tx:ByteArray):Ann:={X:=Nat,σ:=fun k=>⟨30,[(2, .one (.ptr 25 0)),(3, .one (.ptr 26 0)),(4, .one (.ptr 27 0)),(6, .one (.sl 6)),(7, .one (.ptr 28 0)),(8, .one (.int .i64 (vs.getD 1 0+k)))],[(5, .imm 9 .str ns),(6, .imm 3 sI vs),(8, .box 67 [.int .i64 n, .str Kl, .sl 5, .sl 6, .str tx]),(9, .box 37 J38),(23, .box 37 [.int .i64 tk, .int .i64 st, .sl 14, .sl 16, .sl 18, .sl 20, .sl 22]),(24, .sus [(3, .one (.ptr 8 0)),(4, .one (.ptr 9 0)),(7, .one (.ptr 23 0))]),(25, .box 37 [.int .i64 tk, .int .i64 st, .sl 14, .sl 16, .sl 18, .sl 20, .sl 22]),(26, .box 67 [.int .i64 n, .str Kl, .sl 5, .sl 6, .str tx]),(27, .box 37 J38),(28, .box 117 [.int .i64 (vs.getD 1 0), .int .i64 (vs.getD 2 0)]),(14, .own 114 Fw S),(16, .own 119 Lo O),(18, .own 121 Ja4 M),(20, .own 123 Zn X),(22, .own 125 Hr Q)]⟩,inv:=fun k=>k≤(vs.getD 2 0-vs.getD 1 0).toNat∧Jxd S O X (n,Kl,ns,vs,tx)=Jt0 (fun h=>decide (min (Xy S O X (ns.getD 1 Ja) h) (Xy S O X (ns.getD 2 Ja) h)<vs.getD 3 0)) (vs.getD 1 0+k) ((vs.getD 2 0-vs.getD 1 0).toNat-k),mu:=fun k=>(vs.getD 2 0-vs.getD 1 0).toNat-k}
def Juq (a:Li) (b:Nat):=Zh a+Nc b
def Ki7 (a:Li) (b:Nat):=Juq a b+1
def Kor (a:Li):=Int.toNat (Jnp a-Zh a)
def Koo (a:Li) (b:Nat):=Zh a=Juq a b
def Kb9 (a:Li) (b:Nat):=Kor a-b
def Koj (a:Nat) (b:Li):=a≤Kor b
def Kn8 (a:Li) (b:Nat):=decide (Juq a b<Jnp a)
def Knc (a:Li) (b c:Nat):=Ki7 a b=Juq a c
def Kna (a:Li):=Kf2 (U7 a) (Zh a) (Jnp a)
def Kbz (a:Li) (b:Int) (c:List Sta) (d:List Ord) (e:List Met) (f:List Out) (g:List Per) (h i:Int) (j:Ls) (k:Bt):=Jd2 a b c d e f g=Y0 (Z74 h b c d e f g) (Z9 i j a k)
def Khv (a:List Sta) (b:List Ord) (c:List Out) (d:Ls) (e:Li) (f:Nat):=decide (Xy a b c (Lp d) (Juq e f)<Z96 e)=false
def Klk (a:Li) (b c:Nat):=Kb9 a b<Kb9 a c
def Kkz (a:Li):=T2 (Z36 a) ((0≤Zh a∧Zh a≤999999999)∧0≤Jnp a∧Jnp a≤999999999)
def Kke (a:Nat) (b:Li) (c:List Sta) (d:List Ord) (e:List Out) (f:Int) (g:Ls) (h:Bt):=Koj a b∧Jxd c d e (Z9 f g b h)=Jt0 (fun(h:Int)=>decide (min (Xy c d e (Jla g) h) (Xy c d e (J9j g) h)<Z96 b)) (Juq b a) (Kb9 b a)
def Kkd (a:Bt) (b:Li) (c:List Sta) (d:List Ord) (e:List Met) (f:List Out) (g:List Per):=Sf a (Si 0 (Si 0 (Sf Vm (Sf Vm (Sf Vm (Sf Vm (Sf Vm (Si (Zh b) (Si (Jnp b) (Sf c (Sf d (Sf e (Sf f (g=g))))))))))))))
def Kah (a:Ls) (b:Li) (c:Int) (d:Bt) (e f:Int) (g:List Sta) (h:List Ord) (i:List Met) (j:List Out) (k:List Per):=Sf a (Sf b (Si c (Sf Kl (Sf d (Si 0 (Si 0 (Sf Vm (Sf Vm (Sf Vm (Sf Vm (Sf Vm (Si e (Si f (Si e (Si f (Si c (Sf Kl (Kkd d b g h i j k))))))))))))))))))
theorem Jn5:wpFG Tryz.prog Juf.g L9 (X5 (some (Ji0 tk st S O M X Q n ns vs tx))) (Sx.look ([(225,Tryz.f225),(226,Tryz.f226),(227,Tryz.f227)]:List (Nat×Func))) Tryz.f132 L8 ((tk,st,S,O,M,X,Q),(n,Kl,ns,vs,tx),()):=by
 refine(by kernel_rfl:(Jw tk st S O M X Q→Jdv X→Z62 M→Jb (Z9 n ns vs tx)=0→Lb Kl Jy=false→Kt vs∧Br (Ji6 vs tk) (Sf true (Z74 tk st S O M X Q=Y0 (Z74 tk st S O M X Q) (Z9 n ns vs tx)∧22=Vn (Z74 tk st S O M X Q) (Z9 n ns vs tx))) ((Jw tk st S O M X Q∧Sf true (Jut ns))∧Br (Js (Z74 tk st S O M X Q) Kl ns !=0) (Sf true (Z74 tk st S O M X Q=Y0 (Z74 tk st S O M X Q) (Z9 n ns vs tx)∧Js (Z74 tk st S O M X Q) Kl ns=Vn (Z74 tk st S O M X Q) (Z9 n ns vs tx))) (Ji3 S∧Ji2 O∧Ji1 M∧Ji4 X∧Ji5 Q∧Kck vs∧T2 (Z95 ns) (Tw (J5w ns))∧Br (Ko2 ns) (Kt vs∧Sf true (Kbz vs st S O M X Q tk n ns tx∧24=Vn (Z74 tk st S O M X Q) (Z9 n ns vs tx))) (Kkz vs∧Br (Kna vs) (Kt vs∧Sf true (Kbz vs st S O M X Q tk n ns tx∧14=Vn (Z74 tk st S O M X Q) (Z9 n ns vs tx))) (J0u vs∧Br (Xu (Z96 vs) 1 1000) (Kt vs∧Sf true (Kbz vs st S O M X Q tk n ns tx∧3=Vn (Z74 tk st S O M X Q) (Z9 n ns vs tx))) (∃(x:Nat),(Koo vs x∧Kah ns vs n tx tk st S O M X Q)∧Kke x vs S O X n ns tx∧∀(x:Nat),Kke x vs S O X n ns tx→Br (Kn8 vs x) (T2 (Z95 ns) (Jw tk st S O M X Q∧J5n S ns∧T2 (Z27 vs) (T2 (Khv S O X ns vs x→J5w ns) ((Khv S O X ns vs x→Jw tk st S O M X Q)∧(Khv S O X ns vs x→0≤J2 S (Z99 ns))∧Tw (Khv S O X ns vs x→Z27 vs))))∧Br (bif decide (Xy S O X (Lp ns) (Juq vs x)<Z96 vs) then true else decide (Xy S O X (Z99 ns) (Juq vs x)<Z96 vs)) (Kt vs∧Sf true (Kbz vs st S O M X Q tk n ns tx∧4=Vn (Z74 tk st S O M X Q) (Z9 n ns vs tx))) (Iw (Ki7 vs x)∧∃(y:Nat),(Knc vs x y∧Kah ns vs n tx tk st S O M X Q)∧Kke y vs S O X n ns tx∧Klk vs y x)) (Br (decide (32≤Ln O)) (Kt vs∧Sf true (Kbz vs st S O M X Q tk n ns tx∧5=Vn (Z74 tk st S O M X Q) (Z9 n ns vs tx))) (T2 (Yf ns) (T2 (Z95 ns) (T2 (J5w ns) (T2 (Z27 vs) (T2 (Z95 ns) (Z52 S∧T2 (Bd (J0p S ns) (Ln S)) ((List.length O+1)*88≤140737488355328))))))∧Kt vs∧Sf true ((U7 vs,st,S,O++[(U2 ns,Lp ns,Z99 ns,Kcf vs,Z96 vs,(Gt S (J0p S ns) Z13).2.2,Z75)],M,X,Q)=Y0 (Z74 tk st S O M X Q) (Z9 n ns vs tx)∧0=Vn (Z74 tk st S O M X Q) (Z9 n ns vs tx))))))))))=_).mp ?_
 delta Z9 Z13 Z27 Z33 Z34 Z36 Z52 Z62 Z74 Z75 Z95 Z96 Z99 J0u J5w U7 Yf U2 Jnp Zh Kt Lp J9j Jla Jut Jw Vm J0p Juq Ji6 Ji5 Ji4 Ji3 Ji2 Ji1 J5n Ki7 Jd2 Kck Kcf Ko2 Kor Koo Kb9 Koj Kn8 Knc Kna Kbz Khv Klk Kkz Kke Kkd Kah Br Iw Bd T2 Tw Sf Si Ln Nc Gt B0 Lb Kl Jy
 intro hr hu hm hc _
 obtain⟨hn,hv,nS,nO,nX,nQ,hx⟩:=Jz7 hr hc
 simp only[Uw,List.length_cons,List.length_nil] at hn hv nS nO nX nQ hx
 have cE:ckS (tk,st,S,O,M,X,Q) (n,Kl,ns,vs,tx)=Jc0 S O X (n,Kl,ns,vs,tx):=by simp only[ckS,Uw]
 have sE:Jq (tk,st,S,O,M,X,Q) (n,Kl,ns,vs,tx)=(vs.getD 0 0,(F9 (tk,st,S,O,M,X,Q) (n,Kl,ns,vs,tx)).2):=by simp only[Jq,doS,Uw]
 have hF:(Js (tk,st,S,O,M,X,Q) Kl ns !=0)=false→(0≤J2 S (ns.getD 1 Ja)∧J2 S (ns.getD 1 Ja)<S.length)∧(0≤J2 S (ns.getD 2 Ja)∧J2 S (ns.getD 2 Ja)<S.length):=fun a=>by
  have z:=fcN a
  rw[Uw] at z
  obtain⟨k0,z⟩:=Jm z
  obtain⟨k1,z⟩:=Jm z
  obtain⟨k2,z⟩:=Jm z
  exact⟨⟨Jtp (k1 rfl),K4⟩,⟨Jtp (k2 rfl),K4⟩⟩
 have v1:=hx 1 (by omega)
 have v2:=hx 2 (by omega)
 have v3:=hx 3 (by omega)
 have pE:Zl (n,Kl,ns,vs,tx)=bif Kf2 (vs.getD 0 0) (vs.getD 1 0) (vs.getD 2 0) then 14 else 0:=rfl
 simp only[List.nil_append,rcb,rcS,rcO,rcX,rcQ,Prod.eta]
 repeat' first|exact lfT ‹_›|exact lfN ‹_› ‹_›|exact lfA ‹_› ‹_› (cE.trans (by clear cE sE hF hx hc;simp only[Jc0,Jix,Jg,Hq,List.nil_append, *,cond_true,cond_false,reduceIte,decide_true,decide_false,Bool.not_true,Bool.not_false,Int.reduceEq,Int.reduceNe,ne_eq,not_false_eq_true,not_true_eq_false];first|done|rfl|decide)) (by first|exact .inl ⟨by decide,rfl⟩|exact .inl ⟨bne_iff_ne.mp ‹_›,rfl⟩|exact .inr ⟨rfl,sE.trans (by first|rfl|(simp only[F9,List.nil_append];done)|simp only[F9,X0 (hF ‹_›).1])⟩)|(refine⟨(0:Nat),by(repeat' first|exact rfl|exact⟨⟩|apply And.intro|omega|dsimp only;omega),⟨Nat.zero_le _,by simp[Hl,V1,Jxd]⟩,fun(k:Nat) hk=>⟨fun h1=> ?_,fun h1=> ?_⟩⟩;obtain⟨k1,k2⟩:=hk;replace h1:=of_decide_eq_true h1;rw[Jrs (by omega)] at k2;rw[K9b] at k2;rotate_left;obtain⟨k1,k2⟩:=hk;replace h1:=of_decide_eq_false h1;rw[Jrt (by omega)] at k2)|(refine⟨(k+1:Nat),by(repeat' first|exact rfl|exact⟨⟩|apply And.intro|omega|dsimp only;omega),⟨by omega, ?_⟩,by omega⟩;rw[k2,show(bif decide (Xy S O X (ns.getD 1 Ja) (vs.getD 1 0+k)<vs.getD 3 0) then true else decide (Xy S O X (ns.getD 2 Ja) (vs.getD 1 0+k)<vs.getD 3 0))=false from ‹_›];rfl)|apply And.intro|intro _
 all_goals first|omega|trivial|assumption|(have:=hF ‹_›;omega)
def Kiz (a:List Ord) (b:Ls):=Bd (Jr9 a b) (Ln ([]++a))
def Kon (a:List Ord) (b:Ls):=Tw (Kiz a b)
def Kb0 (a:Li) (b:Int) (c:List Sta) (d:List Ord) (e:List Met) (f:List Out) (g:List Per) (h i:Int) (j:Ls) (k:Bt):=Jd2 a b c d e f g=Y0 (Z74 h b c d e f g) (Z10 i j a k)
def Kme (a:List Ord) (b:Ls):=Gt ([]++a) (Jr9 a b) Jhh
def Kbx (a:List Ord) (b:Ls):=(Kme a b).1
def Kmc (a:List Ord) (b:Ls):=(Kme a b).2
def Kl9 (a:List Ord) (b:Ls):=(Kmc a b).1
def Kl8 (a:List Ord) (b:Ls):=(Kmc a b).2
def Kl3 (a:List Ord) (b:Ls):=(Kl8 a b).1
def Kl2 (a:List Ord) (b:Ls):=(Kl8 a b).2
def Kl1 (a:List Ord) (b:Ls):=(Kl2 a b).1
def Kl0 (a:List Ord) (b:Ls):=(Kl2 a b).2
def Khu (a:List Ord) (b:Ls):=(Kl0 a b).2
def Kht (a:List Ord) (b:Ls):=(Kl0 a b).1
def Kly (a:List Ord) (b:Ls):=(Khu a b).2
def Khl (a:List Ord) (b:Ls):=E2 (Kl1 a b)
def Kys (a:List Ord) (b:Ls) (c:Li):=decide (Kht a b<Jnp c)
def Kyj (a:List Ord) (b:Ls) (c:Li):=Kys a b c=false
theorem Jn6:wpFG Tryz.prog Juf.g L9 (X5 (none)) (Sx.look ([(225,Tryz.f225),(226,Tryz.f226),(227,Tryz.f227)]:List (Nat×Func))) Tryz.f132 L8 ((tk,st,S,O,M,X,Q),(n,K5,ns,vs,tx),()):=by
 refine(by kernel_rfl:(Jw tk st S O M X Q→Jdv X→Z62 M→Jb (Z10 n ns vs tx)=0→Lb K5 Jy=false→Kt vs∧Br (Ji6 vs tk) (Sf true (Z74 tk st S O M X Q=Y0 (Z74 tk st S O M X Q) (Z10 n ns vs tx)∧22=Vn (Z74 tk st S O M X Q) (Z10 n ns vs tx))) (Jun tk st S O M X Q ns∧Br (Js (Z74 tk st S O M X Q) K5 ns !=0) (Sf true (Z74 tk st S O M X Q=Y0 (Z74 tk st S O M X Q) (Z10 n ns vs tx)∧Js (Z74 tk st S O M X Q) K5 ns=Vn (Z74 tk st S O M X Q) (Z10 n ns vs tx))) (Ji3 S∧Ji2 O∧Ji1 M∧Ji4 X∧Ji5 Q∧T2 (Yf ns) (Z64 O∧Kon O ns)∧T2 (Z33 vs) (Kt vs)∧Br (Kot vs) (Kt vs∧Sf true (Kb0 vs st S O M X Q tk n ns tx∧11=Vn (Z74 tk st S O M X Q) (Z10 n ns vs tx))) (Jsc vs∧Br (!Ks (Khl O ns) (Zh vs)) (Kt vs∧Sf true (Kb0 vs st S O M X Q tk n ns tx∧14=Vn (Z74 tk st S O M X Q) (Z10 n ns vs tx))) (T2 (Z33 vs) (Z75≤Kly O ns)∧Br (!J4 (Kbx O ns,Kl9 O ns,Kl3 O ns,Khl O ns,Kht O ns,E2 (Khu O ns)) (Zh vs)) (Kt vs∧Sf true (Kb0 vs st S O M X Q tk n ns tx∧23=Vn (Z74 tk st S O M X Q) (Z10 n ns vs tx))) (T2 (Z33 vs) (Jw tk st S O M X Q)∧Br (Dg M (Kbx O ns) (Zh vs)).2 (Kt vs∧Sf true (Kb0 vs st S O M X Q tk n ns tx∧9=Vn (Z74 tk st S O M X Q) (Z10 n ns vs tx))) (T2 (Z34 vs) (T2 (Kyj O ns vs→Z27 vs) (Tw (Kyj O ns vs→Z34 vs)))∧Br (bif Kys O ns vs then true else Kos vs) (Kt vs∧Sf true (Kb0 vs st S O M X Q tk n ns tx∧3=Vn (Z74 tk st S O M X Q) (Z10 n ns vs tx))) (Klw vs M∧Kt vs∧Sf true ((U7 vs,st,S,O,M++[(Kbx O ns,Kni vs)],X,Q)=Y0 (Z74 tk st S O M X Q) (Z10 n ns vs tx)∧0=Vn (Z74 tk st S O M X Q) (Z10 n ns vs tx))))))))))=_).mp ?_
 delta Z10 Z27 Z33 Z34 Z36 Z62 Z64 Z74 Z75 Z79 Z96 U7 Yf U2 Jnp Jsc Zh Kt Jw Jr9 Ji6 Ji5 Ji4 Ji3 Ji2 Ji1 Jd2 Jhh Kiz Kot Kos Kon Jun Kni Kb0 Kme Kbx Kmc Kl9 Kl8 Kl3 Kl2 Kl1 Kl0 Khu Kht Kly Klw Khl Kys Kyj Br Bd T2 Tw Sf Ln Gt B0 Lb E2 K5 Jy
 intro hr hu hm hc _
 obtain⟨hn,hv,nS,nO,nX,nQ,hx⟩:=Jz7 hr hc
 simp only[Ux,List.length_cons,List.length_nil] at hn hv nS nO nX nQ hx
 have cE:ckS (tk,st,S,O,M,X,Q) (n,K5,ns,vs,tx)=Jnh O M ns vs:=by simp only[ckS,Ux]
 have sE:Jq (tk,st,S,O,M,X,Q) (n,K5,ns,vs,tx)=(vs.getD 0 0,(Jaa (tk,st,S,O,M,X,Q) (n,K5,ns,vs,tx)).2):=by simp only[Jq,doS,Ux]
 have hF:(Js (tk,st,S,O,M,X,Q) K5 ns !=0)=false→(0≤Kx O (ns.getD 0 Ja)∧Kx O (ns.getD 0 Ja)<O.length):=fun a=>by
  have z:=fcN a
  rw[Ux] at z
  obtain⟨k0,z⟩:=Jm z
  exact⟨J4y (k0 rfl),U0⟩
 have hP:(Js (tk,st,S,O,M,X,Q) K5 ns !=0)=false→-1≤(X9 O (ns.getD 0 Ja)).2.2.2.2.2.2:=fun a=>(hr.ord _ (Jci (hF a).1)).trip.1
 simp only[List.nil_append,rcb,rcS,rcO,rcX,rcQ,Prod.eta]
 repeat' first|exact lfT ‹_›|exact lfN ‹_› ‹_›|exact lfA ‹_› ‹_› (cE.trans (by have hp:=hP ‹_›;clear cE sE hF hP hx hc;simp only[Jnh,Kt2,Jg,Hq,List.nil_append, *,cond_true,cond_false,reduceIte,decide_true,decide_false,Bool.not_true,Bool.not_false,Int.reduceEq,Int.reduceNe,ne_eq,not_false_eq_true,not_true_eq_false];first|done|rfl|decide)) (by first|exact .inl ⟨by decide,rfl⟩|exact .inl ⟨bne_iff_ne.mp ‹_›,rfl⟩|exact .inr ⟨rfl,sE.trans (by first|rfl|(simp only[Jaa,List.nil_append];done)|simp only[Jaa,X0 (hF ‹_›).1])⟩)|apply And.intro|intro _
 all_goals first|omega|trivial|assumption|exact hP ‹_›|(have:=hF ‹_›;omega)
def Kzk (a:List Ord) (b:Ls):=decide (0≤Kly a b)
def Ky5 (a:List Ord) (b:Ls):=Kzk a b=false
theorem Jsi:wpFG Tryz.prog Juf.g L9 (X5 (none)) (Sx.look ([(225,Tryz.f225),(226,Tryz.f226),(227,Tryz.f227)]:List (Nat×Func))) Tryz.f132 L8 ((tk,st,S,O,M,X,Q),(n,Vq,ns,vs,tx),()):=by
 refine(by kernel_rfl:(Jw tk st S O M X Q→Jdv X→Z62 M→Jb (Z3 n ns vs tx)=0→Lb Vq Jy=false→Kt vs∧Br (Ji6 vs tk) (Sf true (Z74 tk st S O M X Q=Y0 (Z74 tk st S O M X Q) (Z3 n ns vs tx)∧22=Vn (Z74 tk st S O M X Q) (Z3 n ns vs tx))) (Jun tk st S O M X Q ns∧Br (Js (Z74 tk st S O M X Q) Vq ns !=0) (Sf true (Z74 tk st S O M X Q=Y0 (Z74 tk st S O M X Q) (Z3 n ns vs tx)∧Js (Z74 tk st S O M X Q) Vq ns=Vn (Z74 tk st S O M X Q) (Z3 n ns vs tx))) (Ji3 S∧Ji2 O∧Ji1 M∧Ji4 X∧Ji5 Q∧T2 (Yf ns) (Z64 O)∧T2 (Kiz O ns) (T2 (Ky5 O ns→Kiz O ns) (Tw (Ky5 O ns→Z36 vs)))∧Br (bif Kzk O ns then true else decide ((Kl1 O ns).2≤U7 vs)) (Kt vs∧Sf true (Jd2 vs st S O M X Q=Y0 (Z74 tk st S O M X Q) (Z3 n ns vs tx)∧23=Vn (Z74 tk st S O M X Q) (Z3 n ns vs tx))) (T2 (Z36 vs) (Kon O ns)∧Kt vs∧Sf true ((U7 vs,st,S,List.set ([]++O) (Int.toNat (Jr9 O ns)) (Kbx O ns,Kl9 O ns,Kl3 O ns,Khl O ns,Kht O ns,(Khu O ns).1,U7 vs),M,X,Q)=Y0 (Z74 tk st S O M X Q) (Z3 n ns vs tx)∧0=Vn (Z74 tk st S O M X Q) (Z3 n ns vs tx))))))=_).mp ?_
 delta Z3 Z36 Z62 Z64 Z74 Z79 U7 Yf U2 Kt Jw Jr9 Ji6 Ji5 Ji4 Ji3 Ji2 Ji1 Jd2 Jhh Kiz Kon Jun Kme Kbx Kmc Kl9 Kl8 Kl3 Kl2 Kl1 Kl0 Khu Kht Kly Khl Kzk Ky5 Br Bd T2 Tw Sf Ln Gt B0 Lb E2 Vq Jy
 intro hr hu hm hc _
 obtain⟨hn,hv,nS,nO,nX,nQ,hx⟩:=Jz7 hr hc
 simp only[Vu,List.length_cons,List.length_nil] at hn hv nS nO nX nQ hx
 have cE:ckS (tk,st,S,O,M,X,Q) (n,Vq,ns,vs,tx)=Jdm O ns vs:=by simp only[ckS,Vu]
 have sE:Jq (tk,st,S,O,M,X,Q) (n,Vq,ns,vs,tx)=(vs.getD 0 0,(F4 (tk,st,S,O,M,X,Q) (n,Vq,ns,vs,tx)).2):=by simp only[Jq,doS,Vu]
 have hF:(Js (tk,st,S,O,M,X,Q) Vq ns !=0)=false→(0≤Kx O (ns.getD 0 Ja)∧Kx O (ns.getD 0 Ja)<O.length):=fun a=>by
  have z:=fcN a
  rw[Vu] at z
  obtain⟨k0,z⟩:=Jm z
  exact⟨J4y (k0 rfl),U0⟩
 have hP:(Js (tk,st,S,O,M,X,Q) Vq ns !=0)=false→((X9 O (ns.getD 0 Ja)).2.2.2.2.2.2 != -1)=decide (0≤(X9 O (ns.getD 0 Ja)).2.2.2.2.2.2):=fun a=>by
  have h: -1≤(X9 O (ns.getD 0 Ja)).2.2.2.2.2.2:=(hr.ord _ (Jci (hF a).1)).trip.1
  by_cases q:0≤(X9 O (ns.getD 0 Ja)).2.2.2.2.2.2
  ·rw[decide_eq_true q];exact bne_iff_ne.mpr (by omega)
  ·rw[decide_eq_false q];exact bne_eq_false_iff_eq.mpr (by omega)
 simp only[List.nil_append,rcb,rcS,rcO,rcX,rcQ,Prod.eta]
 repeat' first|exact lfT ‹_›|exact lfN ‹_› ‹_›|exact lfA ‹_› ‹_› (cE.trans (by have hp:=hP ‹_›;clear cE sE hF hP hx hc;simp only[Jdm,Hq,List.nil_append, *,cond_true,cond_false,reduceIte,decide_true,decide_false,Bool.not_true,Bool.not_false,Int.reduceEq,Int.reduceNe,ne_eq,not_false_eq_true,not_true_eq_false];first|done|rfl|decide)) (by first|exact .inl ⟨by decide,rfl⟩|exact .inl ⟨bne_iff_ne.mp ‹_›,rfl⟩|exact .inr ⟨rfl,sE.trans (by first|rfl|simp only[F4,List.nil_append]|simp only[F4,X0 (hF ‹_›).1])⟩)|apply And.intro|intro _
 all_goals first|omega|trivial|assumption|exact hP ‹_›|(have:=hF ‹_›;omega)
abbrev Jg3 (tk st:Int) (S:List Sta) (O:List Ord) (M:List Met) (X:List Out) (Q:List Per) (n:Int) (ns:List ByteArray) (vs:List Int) (tx:ByteArray):Ann:={X:=Nat,σ:=fun k=>⟨30,[(2, .one (.ptr 25 0)),(3, .one (.ptr 26 0)),(4, .one (.ptr 27 0)),(6, .one (.sl 6)),(7, .one (.ptr 28 0)),(8, .one (.int .i64 (vs.getD 1 0+k)))],[(5, .imm 9 .str ns),(6, .imm 3 sI vs),(8, .box 67 [.int .i64 n, .str Ju, .sl 5, .sl 6, .str tx]),(9, .box 37 J38),(23, .box 37 [.int .i64 tk, .int .i64 st, .sl 14, .sl 16, .sl 18, .sl 20, .sl 22]),(24, .sus [(3, .one (.ptr 8 0)),(4, .one (.ptr 9 0)),(7, .one (.ptr 23 0))]),(25, .box 37 [.int .i64 tk, .int .i64 st, .sl 14, .sl 16, .sl 18, .sl 20, .sl 22]),(26, .box 67 [.int .i64 n, .str Ju, .sl 5, .sl 6, .str tx]),(27, .box 37 J38),(28, .box 117 [.int .i64 (vs.getD 1 0), .int .i64 (vs.getD 2 0)]),(14, .own 114 Fw S),(16, .own 119 Lo O),(18, .own 121 Ja4 M),(20, .own 123 Zn X),(22, .own 125 Hr Q)]⟩,inv:=fun k=>k≤(vs.getD 2 0-vs.getD 1 0).toNat∧Hl (V1 (n,Ju,ns,vs,tx)) (fun h=>decide (vs.getD 3 0<Vd O (ns.getD 1 Ja) h))=Jt0 (fun h=>decide (vs.getD 3 0<Vd O (ns.getD 1 Ja) h)) (vs.getD 1 0+k) ((vs.getD 2 0-vs.getD 1 0).toNat-k),mu:=fun k=>(vs.getD 2 0-vs.getD 1 0).toNat-k}
def Kh5 (a:Li) (b:Int) (c:List Sta) (d:List Ord) (e:List Met) (f:List Out) (g:List Per) (h i:Int) (j:Ls) (k:Bt):=Jd2 a b c d e f g=Y0 (Z74 h b c d e f g) (Z16 i j a k)
def Kkc (a:Nat) (b:Li) (c:Int) (d:Ls) (e:Bt) (f:List Ord):=Koj a b∧(Hl (V1 (Z16 c d b e)) fun(h:Int)=>decide (Z96 b<Vd f (Jla d) h))=Jt0 (fun(h:Int)=>decide (Z96 b<Vd f (Jla d) h)) (Juq b a) (Kb9 b a)
def Kag (a:Ls) (b:Li) (c:Int) (d:Bt) (e f:Int) (g:List Sta) (h:List Ord) (i:List Met) (j:List Out) (k:List Per):=Sf a (Sf b (Si c (Sf Ju (Sf d (Si 0 (Si 0 (Sf Vm (Sf Vm (Sf Vm (Sf Vm (Sf Vm (Si e (Si f (Si e (Si f (Si c (Sf Ju (Kkd d b g h i j k))))))))))))))))))
theorem Jln:wpFG Tryz.prog Juf.g L9 (X5 (some (Jg3 tk st S O M X Q n ns vs tx))) (Sx.look ([(225,Tryz.f225),(226,Tryz.f226),(227,Tryz.f227)]:List (Nat×Func))) Tryz.f132 L8 ((tk,st,S,O,M,X,Q),(n,Ju,ns,vs,tx),()):=by
 refine(by kernel_rfl:(Jw tk st S O M X Q→Jdv X→Z62 M→Jb (Z16 n ns vs tx)=0→Lb Ju Jy=false→Kt vs∧Br (Ji6 vs tk) (Sf true (Z74 tk st S O M X Q=Y0 (Z74 tk st S O M X Q) (Z16 n ns vs tx)∧22=Vn (Z74 tk st S O M X Q) (Z16 n ns vs tx))) ((Jw tk st S O M X Q∧Sf true (Jsb ns))∧Br (Js (Z74 tk st S O M X Q) Ju ns !=0) (Sf true (Z74 tk st S O M X Q=Y0 (Z74 tk st S O M X Q) (Z16 n ns vs tx)∧Js (Z74 tk st S O M X Q) Ju ns=Vn (Z74 tk st S O M X Q) (Z16 n ns vs tx))) (Ji3 S∧Ji2 O∧Ji1 M∧Ji4 X∧Ji5 Q∧Kck vs∧Kkz vs∧Br (Kna vs) (Kt vs∧Sf true (Kh5 vs st S O M X Q tk n ns tx∧14=Vn (Z74 tk st S O M X Q) (Z16 n ns vs tx))) (T2 (Z27 vs) (T2 (Z95 ns) (Z52 S∧Tw (Bd (J0p S ns) (Ln ([]++S)))))∧Br (decide ((Gt ([]++S) (J0p S ns) Z13).2.1≤Z96 vs)) (Kt vs∧Sf true (Kh5 vs st S O M X Q tk n ns tx∧3=Vn (Z74 tk st S O M X Q) (Z16 n ns vs tx))) (∃(x:Nat),(Koo vs x∧Kag ns vs n tx tk st S O M X Q)∧Kkc x vs n ns tx O∧∀(x:Nat),Kkc x vs n ns tx O→Br (Kn8 vs x) (T2 (Z95 ns) (Jw tk st S O M X Q∧J0u vs)∧Br (decide (Z96 vs<Vd O (Lp ns) (Juq vs x))) (Kt vs∧Sf true (Kh5 vs st S O M X Q tk n ns tx∧24=Vn (Z74 tk st S O M X Q) (Z16 n ns vs tx))) (Iw (Ki7 vs x)∧∃(y:Nat),(Knc vs x y∧Kag ns vs n tx tk st S O M X Q)∧Kkc y vs n ns tx O∧Klk vs y x)) (Br (decide (16≤Ln X)) (Kt vs∧Sf true (Kh5 vs st S O M X Q tk n ns tx∧5=Vn (Z74 tk st S O M X Q) (Z16 n ns vs tx))) (T2 (Yf ns) (T2 (Z95 ns) (Koe vs X))∧Kt vs∧Sf true ((U7 vs,st,S,O,M,X++[(U2 ns,Lp ns,Kcf vs,Z96 vs)],Q)=Y0 (Z74 tk st S O M X Q) (Z16 n ns vs tx)∧0=Vn (Z74 tk st S O M X Q) (Z16 n ns vs tx)))))))))=_).mp ?_
 delta Z13 Z16 Z27 Z33 Z34 Z36 Z52 Z62 Z74 Z95 Z96 J0u U7 Yf U2 Jnp Zh Kt Lp Jsb Jla Jw Vm J0p Juq Ji6 Ji5 Ji4 Ji3 Ji2 Ji1 Ki7 Jd2 Kck Kcf Kor Koo Kb9 Koj Koe Kn8 Knc Kna Kh5 Klk Kkz Kkd Kkc Kag Br Iw Bd T2 Tw Sf Si Ln Nc Gt B0 Lb Ju Jy
 intro hr hu hm hc _
 obtain⟨hn,hv,nS,nO,nX,nQ,hx⟩:=Jz7 hr hc
 simp only[Kw,List.length_cons,List.length_nil] at hn hv nS nO nX nQ hx
 have cE:ckS (tk,st,S,O,M,X,Q) (n,Ju,ns,vs,tx)=Jcz S O X (n,Ju,ns,vs,tx):=by simp only[ckS,Kw]
 have sE:Jq (tk,st,S,O,M,X,Q) (n,Ju,ns,vs,tx)=(vs.getD 0 0,(F7 (tk,st,S,O,M,X,Q) (n,Ju,ns,vs,tx)).2):=by simp only[Jq,doS,Kw]
 have hF:(Js (tk,st,S,O,M,X,Q) Ju ns !=0)=false→(0≤J2 S (ns.getD 1 Ja)∧J2 S (ns.getD 1 Ja)<S.length):=fun a=>by
  have z:=fcN a
  rw[Kw] at z
  obtain⟨k0,z⟩:=Jm z
  obtain⟨k1,z⟩:=Jm z
  exact⟨Jtp (k1 rfl),K4⟩
 have v1:=hx 1 (by omega)
 have v2:=hx 2 (by omega)
 have v3:=hx 3 (by omega)
 have pE:Zl (n,Ju,ns,vs,tx)=bif Kf2 (vs.getD 0 0) (vs.getD 1 0) (vs.getD 2 0) then 14 else 0:=rfl
 simp only[List.nil_append,rcb,rcS,rcO,rcX,rcQ,Prod.eta]
 repeat' first|exact lfT ‹_›|exact lfN ‹_› ‹_›|exact lfA ‹_› ‹_› (cE.trans (by clear cE sE hF hx hc;simp only[Jcz,Jiw,Jg,Hq,List.nil_append, *,cond_true,cond_false,reduceIte,decide_true,decide_false,Bool.not_true,Bool.not_false,Int.reduceEq,Int.reduceNe,ne_eq,not_false_eq_true,not_true_eq_false];first|done|rfl|decide)) (by first|exact .inl ⟨by decide,rfl⟩|exact .inl ⟨bne_iff_ne.mp ‹_›,rfl⟩|exact .inr ⟨rfl,sE.trans (by first|rfl|(simp only[F7,List.nil_append];done)|simp only[F7,X0 (hF ‹_›).1])⟩)|(refine⟨(0:Nat),by(repeat' first|exact rfl|exact⟨⟩|apply And.intro|omega|dsimp only;omega),⟨Nat.zero_le _,by simp[Hl,V1,Jxd]⟩,fun(k:Nat) hk=>⟨fun h1=> ?_,fun h1=> ?_⟩⟩;obtain⟨k1,k2⟩:=hk;replace h1:=of_decide_eq_true h1;rw[Jrs (by omega)] at k2;skip;rotate_left;obtain⟨k1,k2⟩:=hk;replace h1:=of_decide_eq_false h1;rw[Jrt (by omega)] at k2)|(refine⟨(k+1:Nat),by(repeat' first|exact rfl|exact⟨⟩|apply And.intro|omega|dsimp only;omega),⟨by omega, ?_⟩,by omega⟩;rw[k2,show decide (vs.getD 3 0<Vd O (ns.getD 1 Ja) (vs.getD 1 0+k))=false from ‹_›];rfl)|apply And.intro|intro _
 all_goals first|omega|trivial|assumption|(have:=hF ‹_›;omega)
def K21 (a:List Out) (b:Ls):=Gt ([]++a) (Jur a b) Jhk
def K2w (a:List Out) (b:Ls):=(K21 a b).2
def K2v (a:List Out) (b:Ls) (c:Li):=T2 (Bd (Jur a b) (Ln ([]++a))) (Kt c)
def K2n (a:List Out) (b:Ls):=(K2w a b).2
def K2j (a:List Out) (b:Ls):=(K2n a b).1
def K2h (a:List Out) (b:Ls):=(K2j a b).1
theorem Jjc:wpFG Tryz.prog Juf.g L9 (X5 (none)) (Sx.look ([(225,Tryz.f225),(226,Tryz.f226),(227,Tryz.f227)]:List (Nat×Func))) Tryz.f132 L8 ((tk,st,S,O,M,X,Q),(n,Jr,ns,vs,tx),()):=by
 refine(by kernel_rfl:(Jw tk st S O M X Q→Jdv X→Z62 M→Jb (Z29 n ns vs tx)=0→Lb Jr Jy=false→Kt vs∧Br (Ji6 vs tk) (Sf true (Z74 tk st S O M X Q=Y0 (Z74 tk st S O M X Q) (Z29 n ns vs tx)∧22=Vn (Z74 tk st S O M X Q) (Z29 n ns vs tx))) (Jun tk st S O M X Q ns∧Br (Js (Z74 tk st S O M X Q) Jr ns !=0) (Sf true (Z74 tk st S O M X Q=Y0 (Z74 tk st S O M X Q) (Z29 n ns vs tx)∧Js (Z74 tk st S O M X Q) Jr ns=Vn (Z74 tk st S O M X Q) (Z29 n ns vs tx))) (Ji3 S∧Ji2 O∧Ji1 M∧Ji4 X∧Ji5 Q∧T2 (Yf ns) (Z58 X)∧K2v X ns vs∧Br (decide (U7 vs≤K2h X ns)) (Kt vs∧Sf true (Jd2 vs st S O M X Q=Y0 (Z74 tk st S O M X Q) (Z29 n ns vs tx)∧21=Vn (Z74 tk st S O M X Q) (Z29 n ns vs tx))) (K2v X ns vs∧Br (decide ((K2j X ns).2≤U7 vs)) (Kt vs∧Sf true (Jd2 vs st S O M X Q=Y0 (Z74 tk st S O M X Q) (Z29 n ns vs tx)∧23=Vn (Z74 tk st S O M X Q) (Z29 n ns vs tx))) (T2 (Yf ns) (Z51 Q)∧Br (Yl Q (U2 ns)) (Kt vs∧Sf true (Jd2 vs st S O M X Q=Y0 (Z74 tk st S O M X Q) (Z29 n ns vs tx)∧32=Vn (Z74 tk st S O M X Q) (Z29 n ns vs tx))) (T2 (Z36 vs) (Tw (Bd (Jur X ns) (Ln ([]++X))))∧Kt vs∧Sf true ((U7 vs,st,S,O,M,List.set ([]++X) (Int.toNat (Jur X ns)) ((K21 X ns).1,(K2w X ns).1,(K2h X ns,U7 vs),(K2n X ns).2),Q)=Y0 (Z74 tk st S O M X Q) (Z29 n ns vs tx)∧0=Vn (Z74 tk st S O M X Q) (Z29 n ns vs tx))))))))=_).mp ?_
 delta Z29 Z36 Z51 Z58 Z62 Z74 U7 Yf U2 Kt Jw Jhk Jur Ji6 Ji5 Ji4 Ji3 Ji2 Ji1 Jd2 Jun K21 K2w K2v K2n K2j K2h Br Bd T2 Tw Sf Ln Gt B0 Lb Jr Jy
 intro hr hu hm hc _
 obtain⟨hn,hv,nS,nO,nX,nQ,hx⟩:=Jz7 hr hc
 simp only[Kk,List.length_cons,List.length_nil] at hn hv nS nO nX nQ hx
 have cE:ckS (tk,st,S,O,M,X,Q) (n,Jr,ns,vs,tx)=Jdn X Q ns vs:=by simp only[ckS,Kk]
 have sE:Jq (tk,st,S,O,M,X,Q) (n,Jr,ns,vs,tx)=(vs.getD 0 0,(F6 (tk,st,S,O,M,X,Q) (n,Jr,ns,vs,tx)).2):=by simp only[Jq,doS,Kk]
 have hF:(Js (tk,st,S,O,M,X,Q) Jr ns !=0)=false→(0≤J7 X (ns.getD 0 Ja)∧J7 X (ns.getD 0 Ja)<X.length):=fun a=>by
  have z:=fcN a
  rw[Kk] at z
  obtain⟨k0,z⟩:=Jm z
  exact⟨J4x (k0 rfl),Up⟩
 have hP:(Js (tk,st,S,O,M,X,Q) Jr ns !=0)=false→decide ((0:Int)<((De Q).filter fun p=>p.2.1.toList==(Dd X (ns.getD 0 Ja)).1.toList).length)=Yl Q (ns.getD 0 Ja):=fun a=>by rw[Jml (hF a).1];rfl
 simp only[List.nil_append,rcb,rcS,rcO,rcX,rcQ,Prod.eta]
 repeat' first|exact lfT ‹_›|exact lfN ‹_› ‹_›|exact lfA ‹_› ‹_› (cE.trans (by have hp:=hP ‹_›;clear cE sE hF hP hx hc;simp only[Jdn,Jg,Hq,List.nil_append, *,cond_true,cond_false,reduceIte,decide_true,decide_false,Bool.not_true,Bool.not_false,Int.reduceEq,Int.reduceNe,ne_eq,not_false_eq_true,not_true_eq_false];first|done|rfl|decide)) (by first|exact .inl ⟨by decide,rfl⟩|exact .inl ⟨bne_iff_ne.mp ‹_›,rfl⟩|exact .inr ⟨rfl,sE.trans (by first|rfl|simp only[F6,List.nil_append]|simp only[F6,X0 (hF ‹_›).1])⟩)|apply And.intro|intro _
 all_goals first|omega|trivial|assumption|exact hP ‹_›|(have:=hF ‹_›;omega)
theorem Jlm:wpFG Tryz.prog Juf.g L9 (X5 (none)) (Sx.look ([(225,Tryz.f225),(226,Tryz.f226),(227,Tryz.f227)]:List (Nat×Func))) Tryz.f132 L8 ((tk,st,S,O,M,X,Q),(n,Kf,ns,vs,tx),()):=by
 refine(by kernel_rfl:(Jw tk st S O M X Q→Jdv X→Z62 M→Jb (Z24 n ns vs tx)=0→Lb Kf Jy=false→Kt vs∧Br (Ji6 vs tk) (Sf true (Z74 tk st S O M X Q=Y0 (Z74 tk st S O M X Q) (Z24 n ns vs tx)∧22=Vn (Z74 tk st S O M X Q) (Z24 n ns vs tx))) ((Jw tk st S O M X Q∧Sf true (Jsb ns))∧Br (Js (Z74 tk st S O M X Q) Kf ns !=0) (Sf true (Z74 tk st S O M X Q=Y0 (Z74 tk st S O M X Q) (Z24 n ns vs tx)∧Js (Z74 tk st S O M X Q) Kf ns=Vn (Z74 tk st S O M X Q) (Z24 n ns vs tx))) (Ji3 S∧Ji2 O∧Ji1 M∧Ji4 X∧Ji5 Q∧T2 (Z95 ns) (Z58 X∧T2 (Bd (J7 X (Lp ns)) (Ln ([]++X))) (Kt vs))∧Br (!Ks (E2 (Gt ([]++X) (J7 X (Lp ns)) Jhk).2.2.1) (U7 vs)) (Kt vs∧Sf true (Jd2 vs st S O M X Q=Y0 (Z74 tk st S O M X Q) (Z24 n ns vs tx)∧22=Vn (Z74 tk st S O M X Q) (Z24 n ns vs tx))) (Br (decide (16≤Ln ([]++Q))) (Kt vs∧Sf true (Jd2 vs st S O M X Q=Y0 (Z74 tk st S O M X Q) (Z24 n ns vs tx)∧5=Vn (Z74 tk st S O M X Q) (Z24 n ns vs tx))) (Kmn ns Q∧Kt vs∧Sf true ((U7 vs,st,S,O,M,Kno X Q ns)=Y0 (Z74 tk st S O M X Q) (Z24 n ns vs tx)∧0=Vn (Z74 tk st S O M X Q) (Z24 n ns vs tx)))))))=_).mp ?_
 delta Z24 Z36 Z58 Z62 Z74 Z95 U7 Yf U2 Kt Lp Jsb Jw Jhk Ji6 Ji5 Ji4 Ji3 Ji2 Ji1 Jd2 Kno Kmn Br Bd T2 Tw Sf Ln Gt B0 Lb E2 Kf Jy
 intro hr hu hm hc _
 obtain⟨hn,hv,nS,nO,nX,nQ,hx⟩:=Jz7 hr hc
 simp only[K8,List.length_cons,List.length_nil] at hn hv nS nO nX nQ hx
 have cE:ckS (tk,st,S,O,M,X,Q) (n,Kf,ns,vs,tx)=Jdo X Q ns vs:=by simp only[ckS,K8]
 have sE:Jq (tk,st,S,O,M,X,Q) (n,Kf,ns,vs,tx)=(vs.getD 0 0,(F8 (tk,st,S,O,M,X,Q) (n,Kf,ns,vs,tx)).2):=by simp only[Jq,doS,K8]
 have hF:(Js (tk,st,S,O,M,X,Q) Kf ns !=0)=false→(0≤J7 X (ns.getD 1 Ja)∧J7 X (ns.getD 1 Ja)<X.length):=fun a=>by
  have z:=fcN a
  rw[K8] at z
  obtain⟨k0,z⟩:=Jm z
  obtain⟨k1,z⟩:=Jm z
  exact⟨J4x (k1 rfl),Up⟩
 simp only[List.nil_append,rcb,rcS,rcO,rcX,rcQ,Prod.eta]
 repeat' first|exact lfT ‹_›|exact lfN ‹_› ‹_›|exact lfA ‹_› ‹_› (cE.trans (by clear cE sE hF hx hc;simp only[Jdo,Jg,Hq,List.nil_append, *,cond_true,cond_false,reduceIte,decide_true,decide_false,Bool.not_true,Bool.not_false,Int.reduceEq,Int.reduceNe,ne_eq,not_false_eq_true,not_true_eq_false];first|done|rfl|decide)) (by first|exact .inl ⟨by decide,rfl⟩|exact .inl ⟨bne_iff_ne.mp ‹_›,rfl⟩|exact .inr ⟨rfl,sE.trans (by first|rfl|simp only[F8,List.nil_append]|simp only[F8,X0 (hF ‹_›).1])⟩)|apply And.intro|intro _
 all_goals first|omega|trivial|assumption|(have:=hF ‹_›;omega)
def K4f (a:List Per) (b:Ls):=Tw (Bd (Jt5 a b) (Ln ([]++a)))
def K35 (a:List Per) (b:Ls):=Gt ([]++a) (Jt5 a b) (B0,B0,false)
def K32 (a:List Per) (b:Ls):=(K35 a b).2
theorem Jll:wpFG Tryz.prog Juf.g L9 (X5 (none)) (Sx.look ([(225,Tryz.f225),(226,Tryz.f226),(227,Tryz.f227)]:List (Nat×Func))) Tryz.f132 L8 ((tk,st,S,O,M,X,Q),(n,Ke,ns,vs,tx),()):=by
 refine(by kernel_rfl:(Jw tk st S O M X Q→Jdv X→Z62 M→Jb (Z26 n ns vs tx)=0→Lb Ke Jy=false→Kt vs∧Br (Ji6 vs tk) (Sf true (Z74 tk st S O M X Q=Y0 (Z74 tk st S O M X Q) (Z26 n ns vs tx)∧22=Vn (Z74 tk st S O M X Q) (Z26 n ns vs tx))) (Jun tk st S O M X Q ns∧Br (Js (Z74 tk st S O M X Q) Ke ns !=0) (Sf true (Z74 tk st S O M X Q=Y0 (Z74 tk st S O M X Q) (Z26 n ns vs tx)∧Js (Z74 tk st S O M X Q) Ke ns=Vn (Z74 tk st S O M X Q) (Z26 n ns vs tx))) (Ji3 S∧Ji2 O∧Ji1 M∧Ji4 X∧Ji5 Q∧T2 (Yf ns) (Z51 Q)∧K4f Q ns∧Br (!(K32 Q ns).2) (Kt vs∧Sf true (Jd2 vs st S O M X Q=Y0 (Z74 tk st S O M X Q) (Z26 n ns vs tx)∧23=Vn (Z74 tk st S O M X Q) (Z26 n ns vs tx))) (K4f Q ns∧Kt vs∧Sf true ((U7 vs,st,S,O,M,X,List.set ([]++Q) (Int.toNat (Jt5 Q ns)) ((K35 Q ns).1,(K32 Q ns).1,false))=Y0 (Z74 tk st S O M X Q) (Z26 n ns vs tx)∧0=Vn (Z74 tk st S O M X Q) (Z26 n ns vs tx))))))=_).mp ?_
 delta Z26 Z36 Z51 Z62 Z74 U7 Yf U2 Kt Jw Jt5 Ji6 Ji5 Ji4 Ji3 Ji2 Ji1 Jd2 K4f K35 K32 Jun Br Bd T2 Tw Sf Ln Gt B0 Lb Ke Jy
 intro hr hu hm hc _
 obtain⟨hn,hv,nS,nO,nX,nQ,hx⟩:=Jz7 hr hc
 simp only[K7,List.length_cons,List.length_nil] at hn hv nS nO nX nQ hx
 have cE:ckS (tk,st,S,O,M,X,Q) (n,Ke,ns,vs,tx)=Jpi Q ns:=by simp only[ckS,K7]
 have sE:Jq (tk,st,S,O,M,X,Q) (n,Ke,ns,vs,tx)=(vs.getD 0 0,(Jhx (tk,st,S,O,M,X,Q) (n,Ke,ns,vs,tx)).2):=by simp only[Jq,doS,K7]
 have hF:(Js (tk,st,S,O,M,X,Q) Ke ns !=0)=false→(0≤U1 Q (ns.getD 0 Ja)∧U1 Q (ns.getD 0 Ja)<Q.length):=fun a=>by
  have z:=fcN a
  rw[K7] at z
  obtain⟨k0,z⟩:=Jm z
  exact⟨Kj4 (k0 rfl),Uz⟩
 simp only[List.nil_append,rcb,rcS,rcO,rcX,rcQ,Prod.eta]
 repeat' first|exact lfT ‹_›|exact lfN ‹_› ‹_›|exact lfA ‹_› ‹_› (cE.trans (by clear cE sE hF hx hc;simp only[Jpi,Hq,List.nil_append, *,cond_true,cond_false,reduceIte,decide_true,decide_false,Bool.not_true,Bool.not_false,Int.reduceEq,Int.reduceNe,ne_eq,not_false_eq_true,not_true_eq_false];first|done|rfl|decide)) (by first|exact .inl ⟨by decide,rfl⟩|exact .inl ⟨bne_iff_ne.mp ‹_›,rfl⟩|exact .inr ⟨rfl,sE.trans (by first|rfl|simp only[Jhx,List.nil_append]|simp only[Jhx,X0 (hF ‹_›).1])⟩)|apply And.intro|intro _
 all_goals first|omega|trivial|assumption|(have:=hF ‹_›;omega)
abbrev Jg2 (tk st:Int) (S:List Sta) (O:List Ord) (M:List Met) (X:List Out) (Q:List Per) (n:Int) (ns:List ByteArray) (vs:List Int) (tx:ByteArray):Ann:={X:=Nat,σ:=fun k=>⟨30,[(2, .one (.ptr 25 0)),(3, .one (.ptr 26 0)),(4, .one (.ptr 27 0)),(6, .one (.sl 6)),(11, .one (.int .i64 k))],[(5, .imm 9 .str ns),(6, .imm 3 sI vs),(8, .box 67 [.int .i64 n, .str Jh, .sl 5, .sl 6, .str tx]),(9, .box 37 J38),(23, .box 37 [.int .i64 tk, .int .i64 st, .sl 14, .sl 16, .sl 18, .sl 20, .sl 22]),(24, .sus [(3, .one (.ptr 8 0)),(4, .one (.ptr 9 0)),(7, .one (.ptr 23 0))]),(25, .box 37 [.int .i64 tk, .int .i64 st, .sl 14, .sl 16, .sl 18, .sl 20, .sl 22]),(26, .box 67 [.int .i64 n, .str Jh, .sl 5, .sl 6, .str tx]),(27, .box 37 J38),(14, .imm 114 Fw S),(16, .imm 119 Lo O),(18, .imm 121 Ja4 M),(20, .imm 123 Zn X),(22, .imm 125 Hr Q)]⟩,inv:=fun k=>k≤X.length∧(X.any fun x=>decide (x.2.2.1.2≤vs.getD 1 0)&&Yl Q x.1)=((X.drop k).any fun x=>decide (x.2.2.1.2≤vs.getD 1 0)&&Yl Q x.1),mu:=fun k=>X.length-k}
def K25 (a:List Out) (b:Nat) (c:Li):=decide ((J5j a b).1.2≤Zh c)
def K2d (a:List Out) (b:Nat) (c:Li):=K25 a b c=true
def Kkv (a:Nat) (b:List Out) (c:Li) (d:List Per):=a≤List.length b∧(List.any b fun(x:Out)=>decide (x.2.2.1.2≤Zh c)&&Yl d x.1)=List.any (List.drop a b) fun(x:Out)=>decide (x.2.2.1.2≤Zh c)&&Yl d x.1
def Kxv (a:Li) (b:Int) (c:List Sta) (d:List Ord) (e:List Met) (f:List Out) (g:List Per) (h i:Int) (j:Ls) (k:Bt):=Kt a∧Sf true (Jd2 a b c d e f g=Y0 (Z74 h b c d e f g) (Z23 i j a k)∧32=Vn (Z74 h b c d e f g) (Z23 i j a k))
def Kvt (a:Ls) (b:Li) (c:Int) (d:Bt) (e f:Int) (g:List Sta) (h:List Ord) (i:List Met) (j:List Out) (k:List Per):=Sf a (Sf b (Si c (Sf Jh (Sf d (Si 0 (Si 0 (Sf Vm (Sf Vm (Sf Vm (Sf Vm (Sf Vm (Si e (Si f (Si e (Si f (Si c (Sf Jh (Sf d (Si 0 (Si 0 (Sf Vm (Sf Vm (Sf Vm (Sf Vm (Sf Vm (Sf g (Sf h (Sf i (Sf j (k=k))))))))))))))))))))))))))))))
theorem Jlk:wpFG Tryz.prog Juf.g L9 (X5 (some (Jg2 tk st S O M X Q n ns vs tx))) (Sx.look ([(225,Tryz.f225),(226,Tryz.f226),(227,Tryz.f227)]:List (Nat×Func))) Tryz.f132 L8 ((tk,st,S,O,M,X,Q),(n,Jh,ns,vs,tx),()):=by
 refine(by kernel_rfl:(Jw tk st S O M X Q→Jdv X→Z62 M→Jb (Z23 n ns vs tx)=0→Lb Jh Jy=false→Kt vs∧Br (Ji6 vs tk) (Sf true (Z74 tk st S O M X Q=Y0 (Z74 tk st S O M X Q) (Z23 n ns vs tx)∧22=Vn (Z74 tk st S O M X Q) (Z23 n ns vs tx))) ((Jw tk st S O M X Q∧Sf true (List.length ns=0))∧Br (Js (Z74 tk st S O M X Q) Jh ns !=0) (Sf true (Z74 tk st S O M X Q=Y0 (Z74 tk st S O M X Q) (Z23 n ns vs tx)∧Js (Z74 tk st S O M X Q) Jh ns=Vn (Z74 tk st S O M X Q) (Z23 n ns vs tx))) (Ji3 S∧Ji2 O∧Ji1 M∧Ji4 X∧Ji5 Q∧T2 (Z33 vs) (T2 (Kje vs st=false→Z33 vs) (Knr vs st))∧Br (Kma vs st) (Kt vs∧Sf true (Jd2 vs st S O M X Q=Y0 (Z74 tk st S O M X Q) (Z23 n ns vs tx)∧14=Vn (Z74 tk st S O M X Q) (Z23 n ns vs tx))) (T2 (Z33 vs) (Jw tk st S O M X Q)∧Br (decide (0<Ln (Kr M (Zh vs) O))) (Kxv vs st S O M X Q tk n ns tx) (∃(x:Nat),(0=Nc x∧Kvt ns vs n tx tk st S O M X Q)∧Kkv x X vs Q∧∀(x:Nat),Kkv x X vs Q→Br (Z98 x X) (T2 (Z17 x X) (T2 (Z33 vs) (T2 (K2d X x vs→Z17 x X) (K2d X x vs→Z51 Q)))∧Br (bif K25 X x vs then Yl Q (J3g X x) else false) (Kxv vs st S O M X Q tk n ns tx) (Z22 x∧∃(y:Nat),(V0 x y∧Kvt ns vs n tx tk st S O M X Q)∧Kkv y X vs Q∧J0k X y x)) (Jsc vs∧Kt vs∧Sf true ((U7 vs,Zh vs,S,O,M,X,Q)=Y0 (Z74 tk st S O M X Q) (Z23 n ns vs tx)∧0=Vn (Z74 tk st S O M X Q) (Z23 n ns vs tx))))))))=_).mp ?_
 delta Z17 Z22 Z23 Z33 Z36 Z51 Z62 Z74 Z98 U7 V0 Jsc Zh Kt Jw Vm Jhk Kje Ji6 J0k Ji5 Ji4 Ji3 Ji2 Ji1 J3h Jd2 J3g J5j Knr K25 K2d Kma Kkv Kxv Kvt Br Iw Bd T2 Tw Sf Si Ln Nc B0 Lb Jh Jy
 intro hr hu hm hc _
 obtain⟨hn,hv,nS,nO,nX,nQ,hx⟩:=Jz7 hr hc
 simp only[Uv,List.length_cons,List.length_nil] at hn hv nS nO nX nQ hx
 have cE:ckS (tk,st,S,O,M,X,Q) (n,Jh,ns,vs,tx)=L7 st O M X Q vs:=by simp only[ckS,Uv]
 have sE:Jq (tk,st,S,O,M,X,Q) (n,Jh,ns,vs,tx)=(vs.getD 0 0,(Jbu (tk,st,S,O,M,X,Q) (n,Jh,ns,vs,tx)).2):=by simp only[Jq,doS,Uv]
 have lE:=J6y (Q:=Q) (u:=vs.getD 1 0) hu hr.per
 have v1:=hx 1 (by omega)
 simp only[List.nil_append,rcb,rcS,rcO,rcX,rcQ,Prod.eta]
 repeat' first|exact lfT ‹_›|exact lfN ‹_› ‹_›|exact lfA ‹_› ‹_› (cE.trans (by clear cE sE hx hc;simp only[L7,Bool.true_or,Bool.false_or,Hq,List.nil_append, *,cond_true,cond_false,reduceIte,decide_true,decide_false,Bool.not_true,Bool.not_false,Int.reduceEq,Int.reduceNe,ne_eq,not_false_eq_true,not_true_eq_false];first|done|rfl|decide)) (by first|exact .inl ⟨by decide,rfl⟩|exact .inl ⟨bne_iff_ne.mp ‹_›,rfl⟩|exact .inr ⟨rfl,sE.trans (by first|rfl|simp only[Jbu,List.nil_append])⟩)|(refine⟨(0:Nat),by(repeat' first|exact rfl|exact⟨⟩|apply And.intro|omega|dsimp only;omega),⟨Nat.zero_le _,rfl⟩,fun(k:Nat) hk=>⟨fun h1=> ?_,fun h1=> ?_⟩⟩;obtain⟨k1,k2⟩:=hk;replace h1:=of_decide_eq_true h1;rw[Jk (d:=(Ja,Ja,(0,0),0)) (by omega),List.any_cons] at k2;rw[K92] at k2;rotate_left;obtain⟨k1,k2⟩:=hk;replace h1:=of_decide_eq_false h1;rw[List.drop_eq_nil_of_le (by omega),List.any_nil] at k2)|(refine⟨(k+1:Nat),by(repeat' first|exact rfl|exact⟨⟩|apply And.intro|omega|dsimp only;omega),⟨by omega, ?_⟩,by omega⟩;rw[k2,show(bif decide ((X.getD k (Ja,Ja,(0,0),0)).2.2.1.2≤vs.getD 1 0) then Yl Q (X.getD k (Ja,Ja,(0,0),0)).1 else false)=false from ‹_›];rfl)|apply And.intro|intro _
 all_goals first|omega|trivial|assumption
def Juh (k:ByteArray):Nat:=if k=Ju then 1 else if k=Kl then 2 else if k=Jh then 3 else 0
def Jyz (tk st:Int) (S:List Sta) (O:List Ord) (M:List Met) (X:List Out) (Q:List Per) (n:Int) (ns:List ByteArray) (vs:List Int) (tx:ByteArray):Nat→Option Ann
 |1=>some (Jg3 tk st S O M X Q n ns vs tx)
 |2=>some (Ji0 tk st S O M X Q n ns vs tx)
 |3=>some (Jg2 tk st S O M X Q n ns vs tx)
 |_=>none
def Jy0:ATup [Hc,aEv]→Option Ann
 |((tk,st,S,O,M,X,Q),(n,k,ns,vs,tx),())=>Jyz tk st S O M X Q n ns vs tx (Juh k)
theorem J04 {Γ:Gam} {ann:Nat→Option Ann} {annF:FuncId→Nat→Option Ann} {lib:FuncId→Option Func} {fn:Func} {c:Con} {x:ATup c.args} (hb:fn.body.isSome=true) (h:Uk (c.pre x)→wpFG Tryz.prog Γ ann annF lib fn c x):wpFG Tryz.prog Γ ann annF lib fn c x:=by
 unfold wpFG at h⊢
 cases hc:fn.body with
 |none=>rw[hc] at hb;cases hb
 |some code=>
  rw[hc] at h
  exact Jbq h
theorem Fv {tk st:Int} {S:List Sta} {O:List Ord} {M:List Met} {X:List Out} {Q:List Per} {n:Int} {k:ByteArray} {ns:List ByteArray} {vs:List Int} {tx:ByteArray} {i:Nat} (h:Juh k=i):Jy0 ((tk,st,S,O,M,X,Q),(n,k,ns,vs,tx),())=Jyz tk st S O M X Q n ns vs tx i:=by rw[←h];rfl
theorem Kqa:∀x:ATup [Hc,aEv],wpFG Tryz.prog Juf.g L9 (X5 (Jy0 x)) (Sx.look ([(225,Tryz.f225),(226,Tryz.f226),(227,Tryz.f227)]:List (Nat×Func))) Tryz.f132 L8 x
 | ((tk, st, S, O, M, X, Q), (n, k, ns, vs, tx), ()) => by
  refine J04 (by kernel_rfl) fun hp=> ?_
  have hc:Jb (n,k,ns,vs,tx)=0:=hp.2.2.2.1
  rcases Ut (J6 hc).kind with h|h|h|h|h|h|h|h|h|h|h<;>dsimp only at h<;>subst h
  ·have h4:(Jy.toList==Jy.toList)=false:=hp.2.2.2.2
   rw[show(Jy.toList==Jy.toList)=true from by kernel_rfl] at h4
   cases h4
  ·rw[Fv (show Juh Jt=0 from by kernel_rfl)];exact Jjb tk st S O M X Q n ns vs tx
  ·rw[Fv (show Juh Uc=0 from by kernel_rfl)];exact Jn4 tk st S O M X Q n ns vs tx
  ·rw[Fv (show Juh Kl=2 from by kernel_rfl)];exact Jn5 tk st S O M X Q n ns vs tx
  ·rw[Fv (show Juh K5=0 from by kernel_rfl)];exact Jn6 tk st S O M X Q n ns vs tx
  ·rw[Fv (show Juh Vq=0 from by kernel_rfl)];exact Jsi tk st S O M X Q n ns vs tx
  ·rw[Fv (show Juh Ju=1 from by kernel_rfl)];exact Jln tk st S O M X Q n ns vs tx
  ·rw[Fv (show Juh Jr=0 from by kernel_rfl)];exact Jjc tk st S O M X Q n ns vs tx
  ·rw[Fv (show Juh Kf=0 from by kernel_rfl)];exact Jlm tk st S O M X Q n ns vs tx
  ·rw[Fv (show Juh Ke=0 from by kernel_rfl)];exact Jll tk st S O M X Q n ns vs tx
  ·rw[Fv (show Juh Jh=3 from by kernel_rfl)];exact Jlk tk st S O M X Q n ns vs tx
theorem Kte:Ok Tryz.prog 132 L8:=Jft mixed Juf.ok (by kernel_rfl) (by kernel_rfl) (U4 (l:=([(225,Tryz.f225),(226,Tryz.f226),(227,Tryz.f227)]:List (Nat×Func))) (List.forall_mem_cons.2 ⟨by kernel_rfl,List.forall_mem_cons.2 ⟨by kernel_rfl,List.forall_mem_cons.2 ⟨by kernel_rfl,by simp⟩⟩⟩)) (fun _=>L9) (fun xx=>X5 (Jy0 xx)) fun xx=>Kqa xx
abbrev K5o:=Juf.add Kte
theorem J8n {h:Ka} {e:Ev} (h1:e.1=(h.1.length:Int)+1) (h2:(e.2.1.toList==Jy.toList)=false):L3 h e=Vn (Kh h.2.2) e:=by
 unfold L3 Vn Js
 rw[bne_eq_false_iff_eq.2 h1,h2]
 dsimp only[cond_false]
 cases h3:decide (e.2.2.2.1.getD 0 0<(Kh h.2.2).1) with
 |true=>rw[if_pos rfl];rfl
 | false =>
  rw[if_neg (by simp)]
  cases h4:Kj (Kh h.2.2) e.2.2.1 (Ji e.2.1).1 0 with
  |true=>rw[if_pos (by simp)];rfl
  |false=>
   cases h5:Kv (Kh h.2.2) e.2.2.1 (Ji e.2.1).1 0 with
   |true=>rw[if_pos (by simp)];rfl
   |false=>rw[if_neg (by simp)];rfl
theorem J3b {r:Reg} {e:Ev} (h:Vn r e=0):Y0 r e=Jq r e:=by
 unfold Vn at h
 unfold Y0
 by_cases a:decide (e.2.2.2.1.getD 0 0<r.1)=true
 ·rw[if_pos a] at h;exact absurd h (by decide)
 rw[if_neg a] at h⊢
 by_cases b:Js r e.2.1 e.2.2.1≠0
 ·rw[if_pos b] at h;exact absurd h b
 rw[if_neg b] at h⊢
 rw[if_neg (by rw[h];simp)]
def Jp0 (h:Ka):Prop:=∀r∈h.2.2,Jdv r.2.2.2.2.2.1
theorem Jwh {h:Ka} (hu:Jp0 h):Jdv (Kh h.2.2).2.2.2.2.2.1:=by
 unfold Kh
 by_cases h0:0<h.2.2.length
 ·exact hu _ (Jd (by omega))
 ·have:h.2.2=[]:=List.eq_nil_of_length_eq_zero (by omega)
  rw[this];exact List.nodup_nil
theorem J09 {r:Reg} {e:Ev} (hu:Jdv r.2.2.2.2.2.1) (hk:U8 e.2.1=true) (h1:Kj r e.2.2.1 (Ji e.2.1).1 0=false) (h2:Kv r e.2.2.1 (Ji e.2.1).1 0=false):Jdv (Jq r e).2.2.2.2.2.1:=by
 obtain⟨tk,st,S,O,M,X,Q⟩:=r
 obtain⟨n,k,ns,vs,tx⟩:=e
 have hu:Jdv X:=hu
 dsimp only at hk h1 h2
 rcases Ut hk with h|h|h|h|h|h|h|h|h|h|h<;>subst h
 ·simp only[Jq,doS,Jcp];exact hu
 ·simp only[Jq,doS,Ub];exact hu
 ·simp only[Jq,doS,Vg];exact hu
 ·simp only[Jq,doS,Uw];exact hu
 ·simp only[Jq,doS,Ux];exact hu
 ·simp only[Jq,doS,Vu];exact hu
 ·rw[Kw] at h2
  unfold Kv at h2
  have h3:Vl (tk,st,S,O,M,X,Q) 2 (ns.getD 0 Ja)=false:=by
   cases q:Vl (tk,st,S,O,M,X,Q) 2 (ns.getD 0 Ja) with
   |false=>rfl
   |true=>rw[q] at h2;cases h2
  rw[Jgc] at h3
  have h3:=of_decide_eq_false h3
  simp only[Jq,doS,Kw]
  exact Jsq hu (by dsimp only at h3⊢;omega)
 ·rw[Kk] at h1
  have h3:=J4x ((Jm h1).1 rfl)
  simp only[Jq,doS,Kk]
  exact J53 hu h3
 ·simp only[Jq,doS,K8];exact hu
 ·simp only[Jq,doS,K7];exact hu
 ·simp only[Jq,doS,Uv];exact hu
theorem Jza {h:Ka} {e:Ev} (hk:(e.2.1.toList==Jy.toList)=false) (ha:L3 h e=0):Kj (Kh h.2.2) e.2.2.1 (Ji e.2.1).1 0=false∧Kv (Kh h.2.2) e.2.2.1 (Ji e.2.1).1 0=false:=by
 obtain⟨n,k,ns,vs,tx⟩:=e
 have:=Jb3 ((Xa (h:=h) (n:=n) (k:=k) (ns:=ns) (vs:=vs) (tx:=tx) hk).symm.trans ha)
 exact⟨this.2.2.1,this.2.2.2.1⟩
theorem Jy7 {h:Ka} {e:Ev} (hu:Jp0 h) (ha:K9 h e=0):Jp0 (Ho h e):=by
 obtain⟨hc,hacc⟩:=add_zero ha
 intro r hr
 unfold Ho at hr
 cases hk:e.2.1.toList==Jy.toList with
 |true=>
  rw[hk,cond_true] at hr
  exact hu r (List.mem_of_mem_take hr)
 | false =>
  rw[hk,cond_false] at hr
  rcases Yq hr with hr|hr
  ·exact hu r hr
  ·subst hr
   have:=Jza hk hacc
   exact J09 (Jwh hu) (J6 hc).kind this.1 this.2
def Jrg (l:List Ev):List Ev:=if(Je l).2.2=0 then(Je l).1.2.1 else[]
def K9e:Con:={args:=[.val false (.list 67 sEv)],ress:=[(false, .list 67 sEv),(true,Jl6),I,I],owns:=[],pre:=fun(l,_)=>[lOk l],spec:=fun(l,_)=>(Jrg l,J3 l,(Je l).2.1,(Je l).2.2,())}
abbrev Kf5 (l:List Ev):Ann:={X:=Ka×Nat,σ:=fun(h,i)=>⟨4,[(0, .one (.sl 0)),(3, .one (.ptr 1 0)),(6, .one (.sl 2)),(7, .one (.sl 3)),(8, .one (.int .i64 i))],[(0, .imm 67 sEv l),(1, .box 37 J38),(2, .own 67 sEv h.2.1),(3, .own 37 Jl6 (U3::h.2.2))]⟩,inv:=fun(h,i)=>Yc h∧Jp0 h∧h.1.length=i∧i≤l.length∧l.length≤1000∧Xt h (l.drop i)=Je l,mu:=fun(_,i)=>l.length-i}
theorem Jw7:Jp0 Xd:=fun _ h=>(by cases h)
theorem K9a {C:List Ev} {G:List Reg} (h:G.length=C.length):(U3::G).getD C.length U3=Kh G:=by
 unfold Kh
 rw[←h]
 cases G with
 |nil=>rfl
 |cons a G=>rfl
theorem Kdn {h:Ka} {e:Ev} {l l':List Ev} {v:Int} (hr:Xt h (e::l')=Je l) (ha:K9 h e=v) (hv:v≠0):[]=Jrg l∧U3=J3 l∧(h.1.length:Int)+1=(Je l).2.1∧v=(Je l).2.2:=by
 unfold Xt at hr
 rw[if_neg (by rw[ha];exact hv),ha] at hr
 refine⟨?_, ?_,by rw[←hr],by rw[←hr]⟩
 ·unfold Jrg;rw[←hr,if_neg (by exact hv)]
 ·unfold J3;rw[←hr,if_neg (by exact hv)]
theorem Jvr {h:Ka} {e:Ev} {l l':List Ev} (hr:Xt h (e::l')=Je l) (ha:K9 h e=0):Xt (Ho h e) l'=Je l:=by
 unfold Xt at hr
 rwa[if_pos ha] at hr
theorem Kgj {E C:List Ev} {G:List Reg} {e:Ev} {k:Nat} (hk:E.length=k):K9 (E,C,G) e=bif (bif Jb e==0 then e.1 !=(k:Int)+1 else false) then 11 else bif (bif Jb e==0 then e.2.1.toList==Jy.toList else false) then(bif (C.length:Int)==0 then 12 else bif (C.getD (C.length-1) ev0).2.1.toList==Jh.toList then 21 else 0) else bif Jb e==0 then Vn (Kh G) e else Jb e:=by
 subst hk
 unfold K9
 by_cases hc:Jb e=0
 ·rw[if_neg (by rw[hc];simp),hc,show((0:Int)==0)=true from rfl,cond_true,cond_true,cond_true]
  cases h1:e.1 !=(E.length:Int)+1 with
  |true=>unfold L3;rw[h1];rfl
  |false=>
   cases h2:e.2.1.toList==Jy.toList with
   |true=>unfold L3;rw[h1,h2];rfl
   |false=>rw[cond_false,cond_false];exact J8n (h:=(E,C,G)) (bne_eq_false_iff_eq.1 h1) h2
 ·rw[if_pos hc,beq_false_of_ne hc,cond_false,cond_false,cond_false];rfl
def Z71 (a:Ka×Nat):=Ln a.1.2.1-1
def Kc8 (a:Ka×Nat) (b:List Ev):=Nc a.2+1=(Je b).2.1
def K39 (a:List Ev) (b:Ka×Nat):=Lb (Kcd a b).1 Jy
def K3u:=[Vy]
def K0w (a:Ka×Nat):=List.getD (U3::a.1.2.2) (List.length a.1.2.1) Vy
def K0s (a:Ka×Nat):=(K0w a).2
def K0o (a:Ka×Nat):=(K0s a).2
def K0m (a:Ka×Nat):=(K0o a).2
def K0k (a:Ka×Nat):=(0+List.length (U3::a.1.2.2))*136≤140737488355328∧(List.length (U3::a.1.2.2)+1)*136≤140737488355328
def Kmh (a:Ka×Nat):=(K0m a).2
def K0f (a:Ka×Nat):=(Kmh a).2
def Kz4 (a:Ka×Nat) (b:List Ev):=(0+List.length a.1.2.1)*88≤140737488355328∧T2 (Z30 a b) ((List.length a.1.2.1+1)*88≤140737488355328)
def Kzp (a:(List Ev×List Ev×List Reg)×Nat) (b:List Ev):=Yc a.1∧Jp0 a.1∧Khz a b
def Kk0 (a:(List Ev×List Ev×List Reg)×Nat) (b:List Ev) (c:Ka×Nat):=Kzp a b∧List.length b-a.2<List.length b-c.2
def Kgy (a:List Ev) (b:Ka×Nat):=Jb (J0b a b)
def Kgw (a:List Ev) (b:Ka×Nat):=Kgy a b==0
def Kw3 (a:List Ev) (b:Ka×Nat):=Kgw a b=true
def Kw1 (a:Ka×Nat) (b:List Ev) (c:(List Ev×List Ev×List Reg)×Nat):=a.1.2.1++[J0b b a]=c.1.2.1
def Kwt (a:List Ev) (b:Ka×Nat):=Kw3 a b→Z30 b a
def Jzo (a:Ka×Nat):=((K0w a).1,(K0s a).1,(K0o a).1,(K0m a).1,(Kmh a).1,E2 (K0f a))
def Kac (a:Ka×Nat) (b:List Ev):=Y0 (Jzo a) (J0b b a)
def Kab (a:Ka×Nat) (b:List Ev):=Vn (Jzo a) (J0b b a)
def Kaa (a:Ka×Nat) (b:List Ev):=(Kac a b).2
def J99 (a:Ka×Nat) (b:List Ev):=(Kaa a b).2
def J98 (a:Ka×Nat) (b:List Ev):=(J99 a b).2
def J97 (a:Ka×Nat) (b:List Ev):=(J98 a b).2
def Jzm (a:Ka×Nat) (b:List Ev):=Kz4 a b∧K0k a∧Z37 a∧∃(y:(List Ev×List Ev×List Reg)×Nat),(Jus a y∧Sf b (Si 0 (Si 0 (Sf Vm (Sf Vm (Sf Vm (Sf Vm (Sf Vm (Kw1 a b y∧U3::(a.1.2.2++K3u)=U3::y.1.2.2)))))))))∧Kk0 y b a
def Jzj (a:Ka×Nat) (b:List Ev):=T2 (Bd (Ln a.1.2.1) (Ln (U3::a.1.2.2))) (T2 (Z30 a b) (Jn (Jzo a)∧Jdv (K0f a).1∧List.length (Kmh a).1<10000∧Kgy b a=0∧K39 b a=false))∧Br (Kab a b !=0) (Z37 a∧[]=Jrg b∧Jum b∧Kc8 a b∧Kab a b=(Je b).2.2) (Kz4 a b∧K0k a∧Z37 a∧∃(y:(List Ev×List Ev×List Reg)×Nat),(Jus a y∧Sf b (Si 0 (Si 0 (Sf Vm (Sf Vm (Sf Vm (Sf Vm (Sf Vm (Kw1 a b y∧U3::(a.1.2.2++[((Kac a b).1,(Kaa a b).1,(J99 a b).1,(J98 a b).1,(J97 a b).1,E2 (J97 a b).2)])=U3::y.1.2.2)))))))))∧Kk0 y b a)
def J9k (a:Ka×Nat) (b:List Ev):=Br (Ln a.1.2.1==0) (Br false (Jzj a b) (Br true (Z37 a∧[]=Jrg b∧Jum b∧Kc8 a b∧12=(Je b).2.2) (Jzm a b))) ((Iw (Z71 a)∧Tw (Bd (Z71 a) (Ln a.1.2.1)))∧Br (Lb (Gt a.1.2.1 (Z71 a) D5).2.1 Jh) (Br false (Jzj a b) (Br true (Z37 a∧[]=Jrg b∧Jum b∧Kc8 a b∧21=(Je b).2.2) (Jzm a b))) ((Iw (Z71 a)∧(0≤Z71 a∧Z71 a≤Ln a.1.2.1)∧0≤Ln a.1.2.1∧Ln a.1.2.1≤Ln (U3::a.1.2.2))∧Z37 a∧∃(y:(List Ev×List Ev×List Reg)×Nat),(Jus a y∧Sf b (Si 0 (Si 0 (Sf Vm (Sf Vm (Sf Vm (Sf Vm (Sf Vm (List.take (Int.toNat (Z71 a)) a.1.2.1=y.1.2.1∧List.take (List.length a.1.2.1) (U3::a.1.2.2)=U3::y.1.2.2)))))))))∧Kk0 y b a))
theorem K78:Ok Tryz.prog 82 K9e:=okW K5o Tryz.f82 (fun xx=>X6 (Kf5 xx.1)) fun xx=>by
 obtain⟨(l:List Ev),_⟩:=xx
 refine(by kernel_rfl:(lOk l→Br (decide (1000<Ln l)) ([]=Jrg l∧Jum l∧0=(Je l).2.1∧5=(Je l).2.2) (∃(x:(List Ev×List Ev×List Reg)×Nat),(0=Nc x.2∧Sf l (Si 0 (Si 0 (Sf Vm (Sf Vm (Sf Vm (Sf Vm (Sf Vm (List.length x.1.2.1=0∧K3u=U3::x.1.2.2)))))))))∧Kzp x l∧∀(x:Ka×Nat),Yc x.1∧Jp0 x.1∧Khy x l→Br (decide (Nc x.2<Ln l)) (T2 (Z30 x l) (List.length (J5h l x).1≤1000000∧List.length (J5h l x).2.1≤1000000∧∀(s:ByteArray),s∈(J5h l x).1→ByteArray.size s≤1000000)∧T2 (Kwt l x) (Kw3 l x→Z37 x)∧Br (bif Kgw l x then(Kce l x).1 !=Nc x.2+1 else false) (Tw (false=true→Z30 x l)∧Br false (J9k x l) (Br false (Jzj x l) (Br true (Z37 x∧[]=Jrg l∧Jum l∧Kc8 x l∧11=(Je l).2.2) (Jzm x l)))) (Tw (Kwt l x)∧Br (bif Kgw l x then K39 l x else false) (J9k x l) (Br (Kgw l x) (Jzj x l) (Br (Kgy l x !=0) (Z37 x∧[]=Jrg l∧Jum l∧Kc8 x l∧Kgy l x=(Je l).2.2) (Jzm x l))))) (Tw (Bd (Ln x.1.2.1) (Ln (U3::x.1.2.2)))∧x.1.2.1=Jrg l∧Jzo x=J3 l∧0=(Je l).2.1∧0=(Je l).2.2)))=_).mp ?_
 delta Z30 Z37 Z71 Jus Vm Kc8 D5 Kce Kcd Dl J5h Vy K39 K3u Jum K0w K0s K0o K0m Khz Khy K0k Kmh K0f Kz4 Kzp Kk0 J0b Kgy Kgw Kw3 Kw1 Kwt Jzo Kac Kab Kaa J99 J98 J97 Jzm Jzj J9k Br Iw Bd T2 Tw Sf Si Ln Nc Gt B0 Lb E2 Jh Jy
 intro hl
 have hbn:({data:={toList:=[]}}:ByteArray)=Ja:=rfl
 have hev:((0:Int),Ja,([]:List ByteArray),([]:List Int),Ja)=ev0:=rfl
 have hrg:((0:Int),(0:Int),([]:List Sta),([]:List Ord),([]:List Met),([]:List Out),([]:List Per))=U3:=rfl
 have hun:({data:={toList:=[117,110,100,111]}}:ByteArray)=Jy:=rfl
 have hse:({data:={toList:=[115,101,116,116,108,101]}}:ByteArray)=Jh:=rfl
 simp only[hbn,hev,hrg,hun,hse,Prod.eta,Bool.false_eq_true,Bool.true_eq_false,false_implies,true_implies,true_and,and_true]
 refine⟨fun h=> ?_,fun h=>⟨(([],[],[]),(0:Nat)),by(repeat' first|exact rfl|exact⟨⟩|apply And.intro|omega|dsimp only;omega), ?_,fun(x:Ka×Nat) hk=> ?_⟩⟩
 ·have e:Je l=(Xd,0,5):=by unfold Je;rw[if_pos (by have:=of_decide_eq_true h;omega)]
  refine⟨?_, ?_,by rw[e],by rw[e]⟩
  ·unfold Jrg;rw[e];rfl
  ·unfold J3;rw[e];rfl
 ·have hn:l.length≤1000:=by have:=of_decide_eq_false h;omega
  exact⟨Ze,Jw7,rfl,Nat.zero_le _,hn,by unfold Je;rw[if_neg (by omega)];rfl⟩
 ·obtain⟨⟨E,C,G⟩,k⟩:=x
  obtain⟨hI,hU,hk1,hk2,hk3,hk4⟩:=hk
  dsimp only at hI hU hk1 hk2 hk3 hk4⊢
  have hG:G.length=C.length:=hI.ok.nG
  have hC:C.length≤E.length:=hI.ok.nC
  have hN:=K9a hG
  have hR:Jn (Kh G):=Zb hI.ok
  have hUx:Jdv (Kh G).2.2.2.2.2.1:=Jwh (h:=(E,C,G)) hU
  have hM:(Kh G).2.2.2.2.1.length≤E.length:=Jwi hI
  simp only[hN]
  refine⟨fun hlt=> ?_,fun hge=> ?_⟩
  ·have hlt:(k:Int)<l.length:=of_decide_eq_true hlt
   have hz:=hl.2 _ (Jd (d:=ev0) (show k<l.length by omega))
   rw[Jk (d:=ev0) (by omega)] at hk4
   generalize l.getD k ev0=e at*
   have hA:=Kgj (C:=C) (G:=G) (e:=e) hk1
   have hT:((C.length:Int)-1).toNat=C.length-1:=by omega
   rw[hT]
   have hi64:(-9223372036854775808≤(k:Int)+1∧(k:Int)+1≤9223372036854775807):=⟨by omega,by omega⟩
   have hkk:(0≤(k:Int)∧(k:Int)<l.length):=⟨by omega,hlt⟩
   have no:∀v,K9 (E,C,G) e=v→v≠0→[]=Jrg l∧U3=J3 l∧(k:Int)+1=(Je l).2.1∧v=(Je l).2.2:=fun v p q=>by
    have:=Kdn hk4 p q
    dsimp only at this
    rwa[hk1] at this
   have len1:((U3::G).length:Int)=G.length+1:=by simp
   have len2:(U3::G).length=G.length+1:=by simp
   refine⟨⟨hkk,hkk,hz⟩,⟨fun _=>hkk,fun _=>hkk,fun _=>hi64⟩,fun a=>⟨hi64,no 11 (by rw[hA,a];rfl) (by decide)⟩,fun a=>⟨⟨fun _=>hkk,fun _=>hkk⟩,fun b=>⟨fun c=>⟨hi64,no 12 (by rw[hA,a,b,c];rfl) (by decide)⟩,fun c=> ?_⟩,fun b=>⟨fun c=> ?_,fun c=> ?_⟩⟩⟩
   ·have c0:(C.length:Int)≠0:=by simpa using c
    refine⟨⟨⟨by omega,by omega⟩,⟨by omega,by omega⟩,by omega,by omega⟩,fun d=>⟨hi64,no 21 (by rw[hA,a,b,c,d];rfl) (by decide)⟩,fun d=> ?_⟩
    have ha:K9 (E,C,G) e=0:=by rw[hA,a,b,c,d];rfl
    have hu:(e.2.1.toList==Jy.toList)=true:=by
     cases q:Jb e==0 with
     |true=>rw[q] at b;exact b
     |false=>rw[q] at b;cases b
    have eH:Ho (E,C,G) e=(E++[e],C.take (C.length-1),G.take (C.length-1)):=by unfold Ho;rw[hu,cond_true]
    refine⟨⟨⟨by omega,by omega⟩,⟨by omega,by omega⟩,by omega,by omega⟩,hi64,(Ho (E,C,G) e,k+1),⟨by push_cast;rfl,by rw[eH], ?_⟩,⟨Jdt hI (by show E.length<1000;omega) ha,Jy7 hU ha,by rw[Hn];show E.length+1=k+1;omega,by show k+1≤l.length;omega,hk3,Jvr hk4 ha⟩,by show l.length-(k+1)<_;omega⟩
    rw[eH]
    have q:C.length=(C.length-1)+1:=by omega
    show List.take C.length (U3::G)=U3::G.take (C.length-1)
    conv=>lhs;rw[q]
    rfl
   ·have c0:Jb e=0:=by simpa using c
    have hu:(e.2.1.toList==Jy.toList)=false:=by rw[c] at b;exact b
    have hA2:K9 (E,C,G) e=Vn (Kh G) e:=by rw[hA,a,b,c];rfl
    refine⟨⟨⟨by omega,by omega⟩,⟨by omega,by omega⟩,hkk,hkk,hR,hUx,Nat.lt_of_le_of_lt hM (by omega),c0,hu⟩,fun d=>⟨hi64,no _ hA2 (bne_iff_ne.1 d)⟩,fun d=> ?_⟩
    have d0:Vn (Kh G) e=0:=bne_eq_false_iff_eq.1 d
    have ha:=hA2.trans d0
    have eH:Ho (E,C,G) e=(E++[e],C++[e],G++[Jq (Kh G) e]):=by unfold Ho;rw[hu,cond_false]
    refine⟨⟨by omega,hkk,hkk,by omega⟩,⟨by omega,by omega⟩,hi64,(Ho (E,C,G) e,k+1),⟨by push_cast;rfl,by rw[eH],by rw[eH,J3b d0]⟩,⟨Jdt hI (by show E.length<1000;omega) ha,Jy7 hU ha,by rw[Hn];show E.length+1=k+1;omega,by show k+1≤l.length;omega,hk3,Jvr hk4 ha⟩,by show l.length-(k+1)<_;omega⟩
   ·have c0:Jb e≠0:=by simpa using c
    exact⟨fun d=>⟨hi64,no _ (by rw[hA,a,b,c];rfl) c0⟩,fun d=>absurd (bne_eq_false_iff_eq.1 d) c0⟩
  ·have hge:=of_decide_eq_false hge
   have:k=l.length:=by omega
   rw[this,List.drop_length,Xt] at hk4
   have eR:J3 l=Kh G:=by unfold J3;rw[←hk4];rfl
   have eC:Jrg l=C:=by unfold Jrg;rw[←hk4];rfl
   have len1:((U3::G).length:Int)=G.length+1:=by simp
   exact⟨⟨⟨by omega,by omega⟩,by omega,by omega⟩,eC.symm,eR.symm,by rw[←hk4],by rw[←hk4]⟩
abbrev K5n:=K5o.add K78
theorem Jvn {e:Ev} (h:Xx e=true):e.2.1.size≤40∧e.2.2.1.length≤6∧e.2.2.2.1.length≤8∧e.2.2.2.2.size≤200∧∀s∈e.2.2.1,s.size≤40:=by
 unfold Xx at h
 cases q:Jir e with
 |true=>rw[q] at h;cases h
 |false=>
  rw[q,cond_false] at h
  unfold Jir at q
  have q1:=bn1 q
  have q2:=bn1 q1.1
  have q3:=bn1 q2.1
  have a1:=of_decide_eq_false q1.2
  have a2:=of_decide_eq_false q2.2
  have a3:=of_decide_eq_false q3.2
  have a4:=of_decide_eq_false q3.1
  refine⟨by omega,by omega,by omega,by omega,fun s hs=> ?_⟩
  have:=List.all_eq_true.1 h s hs
  have:decide (40<(s.size:Int))=false:=by simpa using this
  have:=of_decide_eq_false this
  omega
theorem Jl5 {l:List Ev} {n:Int} (hn:n≤1000) (h:Xw l n=true):lOk l∧(l.length:Int)≤n:=by
 unfold Xw at h
 cases q:decide (n<(l.length:Int)) with
 |true=>rw[q] at h;cases h
 |false=>
  rw[q,cond_false] at h
  have q:=of_decide_eq_false q
  refine⟨⟨by omega,fun e he=> ?_⟩,by omega⟩
  have b:=Jvn (List.all_eq_true.1 h e he)
  exact⟨by omega,by omega,fun s hs=>by have:=b.2.2.2.2 s hs;omega⟩
def Kev:Con:={args:=[.val false (.list 67 sEv)],ress:=[(true,Jl6),I,I],owns:=[],pre:=fun(l,_)=>[lOk l],spec:=fun(l,_)=>(J3 l,(Je l).2.1,(Je l).2.2,())}
theorem K85:Ok Tryz.prog 17 Kev:=okW K5n Tryz.f17 na fun xx=>by
 obtain⟨(l:List Ev),_⟩:=xx
 refine(by kernel_rfl:(lOk l→lOk l∧J8t l=J3 l∧Si (Je l).2.1 ((Je l).2.2=(Je l).2.2))=_).mp ?_
 delta J8t Si E2
 intro hl
 exact⟨hl,rfl,rfl,rfl⟩
abbrev K5m:=K5n.add K85
def J3d (l:List Ev) (n:Int):Bool:=bif Xw l n then(Je l).2.2==0 else false
def Ku4:Con:={args:=[.val false (.list 67 sEv),aI],ress:=[Bo],owns:=[],pre:=fun(_,n,_)=>[n≤1000],spec:=fun(l,n,_)=>(J3d l n,())}
theorem K8o:Ok Tryz.prog 53 Ku4:=okW K5m Tryz.f53 na fun xx=>by
 obtain⟨(l:List Ev),(n:Int),_⟩:=xx
 refine(by kernel_rfl:(n≤1000→n≤1000000∧Br (!Xw l n) (false=J3d l n) (lOk l∧((Je l).2.2==0)=J3d l n))=_).mp ?_
 delta Br
 intro hn
 refine⟨by omega,fun h=> ?_,fun h=> ?_⟩
 ·have h:Xw l n=false:=by simpa using h
  unfold J3d;rw[h];rfl
 ·have h:Xw l n=true:=by simpa using h
  refine⟨(Jl5 hn h).1, ?_⟩
  unfold J3d;rw[h];rfl
abbrev K4w:=K5m.add K8o
theorem Le {a sep:List UInt8} {xs:List (List UInt8)} (h:xs≠[]):Lib.join (a::xs) sep=a++sep++Lib.join xs sep:=by
 cases xs with
 |nil=>exact absurd rfl h
 |cons x r=>simp[Lib.join,List.intercalate,List.intersperse]
theorem Jbo {a sep:List UInt8}:Lib.join [a] sep=a:=by simp[Lib.join,List.intercalate,List.intersperse]
theorem Jq2 (c:UInt8):∀l:List UInt8,Lib.join (Ja3 c l) [c]=l
 |[]=>Jbo
 | b :: r => by
  have ih:=Jq2 c r
  rw[Xv]
  by_cases h:b=c
  ·rw[if_pos h,Le (Je5 c r),ih,h];rfl
  ·rw[if_neg h]
   cases q:Ja3 c r with
   |nil=>exact absurd q (Je5 c r)
   | cons x t =>
    rw[q] at ih
    dsimp only
    cases t with
    |nil=>rw[Jbo] at ih⊢;rw[ih]
    |cons y t=>
     rw[Le (by simp)] at ih⊢
     rw[←ih];simp
theorem Jq3 {w:ByteArray} (h:dgB w=true):Ku (dgN w)=w:=by
 obtain⟨u,_,h2,h3⟩:=Jiv h
 unfold dgN
 rw[h3]
 show bs (Lib.itoa (u:Int))=w
 rw[Lib.itoa_nonneg,←h2]
 rfl
theorem J16 {l:List ByteArray} (h:∀w∈l,dgB w=true):(l.map dgN).map Ku=l:=by
 rw[List.map_map]
 refine(List.map_congr_left fun w hw=> ?_).trans (List.map_id l)
 exact Jq3 (h w hw)
theorem Kd6 (l:List (List UInt8)):(l.map bs).map (fun x=>x.data.toList)=l:=by
 rw[List.map_map]
 exact(List.map_congr_left fun w _=>rfl).trans (List.map_id l)
theorem Jyk {b:ByteArray} (h:okX b=false):Jp (evX b)=b:=by
 unfold okX at h
 cases h4:(bif !(Jz (Jhs b)).2 then true else !(Vs (Do (Jma b) 32)).2) with
 |true=>rw[h4] at h;cases h
 | false =>
  have hb:=bn1 h4
  have hd:dgB (Jhs b)=true:=show(Jz (Jhs b)).2=true by simpa using hb.1
  have hr:(Vs (Do (Jma b) 32)).2=true:=by simpa using hb.2
  have hsp:Do (Jma b) 32=(Ja3 32 (Fj 32 b.data.toList)).map bs:=rfl
  cases q:Ja3 32 (Fj 32 b.data.toList) with
  |nil=>exact absurd q (Je5 _ _)
  | cons w0 l =>
   rw[q,List.map_cons] at hsp
   rw[hsp] at hr
   have hk:U8 (bs w0)=true:=by
    cases hk:U8 (bs w0) with
    |true=>rfl
    |false=>rw[Jv7 hk] at hr;cases hr
   have hw:Jsp (bs w0) (l.map bs):=by
    by_cases hw:Jsp (bs w0) (l.map bs)
    ·exact hw
    ·rw[J1n hk hw] at hr;cases hr
   have hcut:Jd1 32 b.data.toList=true:=by
    cases hc:Jd1 32 b.data.toList with
    |true=>rfl
    | false =>
     have hz:∀l:List UInt8,Jd1 32 l=false→Fj 32 l=[]:=by
      intro l
      induction l with
      |nil=>intro _;rfl
      |cons x r ih=>
       intro hx
       unfold Jd1 at hx
       unfold Fj
       by_cases e:x=32
       ·rw[if_pos e] at hx;cases hx
       ·rw[if_neg e] at hx;rw[if_neg e];exact ih hx
     rw[hz _ hc] at q
     have:w0=[]:=(List.cons.inj (show[[]]=w0::l from q)).1.symm
     subst this
     exact absurd hk (by rw[show U8 (bs [])=false by kernel_rfl];simp)
   have e1:evX b=(dgN (Jhs b),bs w0,(l.map bs).take (nrK (bs w0)),((l.map bs).drop (nrK (bs w0))).map dgN,Ja):=by
    unfold evX
    rw[hsp,Jme hk hw];rfl
   rw[e1]
   unfold Jp Ht Vi
   dsimp only
   rw[Jq3 hd,J16 hw.2.2,List.take_append_drop]
   have e2:(Jhs b::bs w0::l.map bs).map (fun x=>x.data.toList)=L6 32 b.data.toList::Ja3 32 (Fj 32 b.data.toList):=by
    rw[q,List.map_cons,List.map_cons,Kd6];rfl
   rw[e2,Le (Je5 _ _)]
   show bs (_++_++Lib.join _ [32])=_
   rw[Jq2,List.append_assoc]
   show bs (L6 32 b.data.toList++(32::Fj 32 b.data.toList))=b
   rw[←Jpg 32 hcut]
   rfl
theorem Jxl {s:ByteArray} {e:Ev} (h:U6 s=(e,0)):Jeb e=bs (s.data.toList++[10]):=by
 unfold U6 at h
 cases h1:Jdc s with
 |true=>rw[h1] at h;cases h
 | false =>
  rw[h1,cond_false] at h
  cases h2: !((Dj (Vz s)).toList==(Je0 s).toList) with
  |true=>rw[h2] at h;cases h
  | false =>
   rw[h2,cond_false] at h
   have h2:Dj (Vz s)=Je0 s:=Yr (by simpa using h2)
   cases h3:okX (Vz s) with
   |true=>rw[h3] at h;cases h
   | false =>
    rw[h3,cond_false] at h
    have h4:evX (Vz s)=e:=(Prod.mk.inj h).1
    rw[←h4]
    unfold Jeb
    rw[Jyk h3,h2]
    congr 1
    have hl:s.data.toList.length=s.size:=by simp
    unfold Jdc at h1
    have h5:=bn1 h1
    have h6:=bn1 h5.1
    have h7:¬((s.size:Int)-7-1<0):=of_decide_eq_false h6.1
    have h8:((s.data.toList.getD (s.size-8) 0).toNat:Int)=35:=bne_eq_false_iff_eq.1 h6.2
    have h9:s.data.toList.getD (s.size-8) 0=35:=by
     apply UInt8.toNat_inj.1
     show(s.data.toList.getD (s.size-8) 0).toNat=35
     omega
    show s.data.toList.take (s.size-8)++[35]++s.data.toList.drop (s.size-7)++[10]=_
    congr 1
    have hd:=Jk (l:=s.data.toList) (k:=s.size-8) (d:=(0:UInt8)) (by omega)
    rw[show s.size-8+1=s.size-7 by omega,h9] at hd
    rw[List.append_assoc]
    show s.data.toList.take (s.size-8)++(35::s.data.toList.drop (s.size-7))=_
    rw[←hd,List.take_append_drop]
theorem Jqp:∀(f:Nat) (l:List UInt8) (a:Int) (o:List Ev),(∀e∈o,Jb e=0)→∀e∈(Jb5 f l a o).1,Jb e=0
 |0,_,_,_,h=>h
 | f + 1, l, a, o, h => by
  unfold Jb5
  split
  ·exact h
  split
  ·exact h
  split
  ·exact h
  ·rename_i q
   have hn:=Jgp (Decidable.of_not_not q)
   exact Jqp f _ _ _ fun e he=>(List.mem_append.1 he).elim (h e) fun he=>by rw[List.mem_singleton.1 he];exact hn.1
theorem Jor (s:ByteArray):∀e∈(Jc s).1,Jb e=0:=by
 unfold Jc
 split
 ·intro e he;cases he
 ·exact Jqp _ _ _ _ fun e he=>nomatch he
theorem Jc2 {e:Ev} (h:Jb e=0):(Jp e).size≤400:=by
 have hE:=J6 h
 have hk:=Jco e.2.1
 have h1:=hE.num
 have h2:=hE.nn
 have h3:=hE.nv
 have h4:=Jwz hE.kind
 show(Lib.join ((Ht e).map (·.data.toList)) [32]).toArray.size≤_
 rw[List.size_toArray]
 refine Nat.le_trans (Jbp (sep:=[32]) rfl) ?_
 rw[List.map_map]
 refine Nat.le_trans (J4c (b:=41) fun x hx=> ?_) ?_
 ·obtain⟨s,hs,rfl⟩:=List.mem_map.1 hx
  have hz:s.data.toList.length=s.size:=rfl
  show s.data.toList.length+1≤41
  rw[hz]
  rcases List.mem_cons.1 hs with rfl|hs
  ·have:=Lw e.1 (by omega) (by omega);omega
  rcases List.mem_cons.1 hs with rfl|hs
  ·omega
  rcases List.mem_append.1 hs with hs|hs
  ·have:=Jef (hE.name s hs);omega
  ·obtain⟨v,hv,rfl⟩:=List.mem_map.1 hs
   have:=hE.val v hv
   have:=Lw v (by omega) (by omega);omega
 ·unfold Ht
  simp only[List.length_map,List.length_cons,List.length_append]
  omega
theorem Kdv {f:Bool} {c:Nat} (h:okB f (c:Int)=true):c≠10∧c≠32:=by
 refine⟨fun e=> ?_,fun e=> ?_⟩
 ·subst e;cases f<;>exact absurd h (by decide)
 ·subst e;cases f<;>exact absurd h (by decide)
theorem J4p:∀{l:List UInt8} {f:Bool},okL f l=true→∀c∈l,c≠10∧c≠32
 |[],_,_,c,hc=>by cases hc
 | b :: l, f, h, c, hc => by
  unfold okL at h
  rw[Bool.and_eq_true] at h
  rcases List.mem_cons.1 hc with hc|hc
  ·subst hc
   have:=Kdv h.1
   exact⟨fun e=>this.1 (by rw[e];rfl),fun e=>this.2 (by rw[e];rfl)⟩
  ·exact J4p h.2 c hc
theorem Jwl {s:ByteArray} (h:Ye s=true):(∀c∈s.data.toList,c≠10∧c≠32)∧emB s=false:=by
 unfold Ye at h
 rw[Bool.and_eq_true,Bool.and_eq_true] at h
 refine⟨J4p h.1, ?_⟩
 unfold emB
 rw[Jkz,h.2.1]
 rfl
theorem J6z {k:ByteArray} (h:U8 k=true):∀c∈k.data.toList,c≠10∧c≠32:=by
 rcases Ut h with h|h|h|h|h|h|h|h|h|h|h<;>subst h<;>decide
theorem Jk0 {v:Int} (h0:0≤v) (h1:v≤999999999):dgB (Ku v)=true∧dgN (Ku v)=v:=by
 obtain⟨u,rfl⟩:∃u:Nat,v=(u:Int):=⟨v.toNat,by omega⟩
 have e:Ku (u:Int)=bs (Lib.decDigits u):=by
  show bs (Lib.itoa (u:Int))=_
  rw[Lib.itoa_nonneg]
 have d:=Jtv (u:=u) (by omega)
 unfold dgB dgN
 rw[e,d]
 exact⟨rfl,rfl⟩
theorem J61 (v:Int):∀c∈(Ku v).data.toList,c≠10∧c≠32:=Jkl v
theorem Jp8 (c:UInt8):∀{ws:List (List UInt8)},ws≠[]→(∀w∈ws,c∉w)→Ja3 c (Lib.join ws [c])=ws
 |[],h,_=>absurd rfl h
 |[w],_,h=>by rw[Jbo,Jlz (h w (List.mem_cons_self ..))]
 |w::x::r,_,h=>by
  rw[Le (by simp),List.append_assoc]
  show Ja3 c (w++c::Lib.join (x::r) [c])=_
  rw[Jp9 _ (h w (List.mem_cons_self ..)),Jp8 c (by simp) fun y hy=>h y (List.mem_cons_of_mem _ hy)]
abbrev Ja7 (e:Ev):List ByteArray:=e.2.2.1++e.2.2.2.1.map Ku
theorem Jp3 {e:Ev} (hc:Jb e=0):Jsp e.2.1 (Ja7 e)∧Vs (e.2.1::Ja7 e)=((0,e.2),true):=by
 have hE:=J6 hc
 have hn:e.2.2.1.length=nrK e.2.1:=hE.nn
 have hv:e.2.2.2.1.length=nvK e.2.1:=by have:=hE.nv;unfold nvK;omega
 have ht:e.2.2.2.2=Ja:=by
  have:=hE.txt
  have h2:=Jkz e.2.2.2.2
  rw[decide_eq_false (by omega)] at h2
  exact Yr h2
 have t1:(Ja7 e).take (nrK e.2.1)=e.2.2.1:=by rw[←hn];exact List.take_left' rfl
 have t2:(Ja7 e).drop (nrK e.2.1)=e.2.2.2.1.map Ku:=by rw[←hn];exact List.drop_left' rfl
 have vm:(e.2.2.2.1.map Ku).map dgN=e.2.2.2.1:=by
  rw[List.map_map]
  refine(List.map_congr_left fun v hv=> ?_).trans (List.map_id _)
  have:=hE.val v hv
  exact(Jk0 this.1 this.2).2
 have hw:Jsp e.2.1 (Ja7 e):=by
  refine⟨?_,fun w hw=> ?_,fun w hw=> ?_⟩
  ·rw[List.length_append,List.length_map,hn,hv]
  ·rw[t1] at hw;exact(Jwl (hE.name w hw)).2
  ·rw[t2] at hw
   obtain⟨v,hv,rfl⟩:=List.mem_map.1 hw
   have:=hE.val v hv
   exact(Jk0 this.1 this.2).1
 refine⟨hw, ?_⟩
 rw[Jme hE.kind hw,t1,t2,vm,←ht]
theorem Jp4 {e:Ev} (hc:Jb e=0):∀w∈e.2.1::Ja7 e,∀c∈w.data.toList,c≠10∧c≠32:=by
 have hE:=J6 hc
 intro w hw
 rcases List.mem_cons.1 hw with hw|hw
 ·subst hw;exact J6z hE.kind
 ·rcases List.mem_append.1 hw with hw|hw
  ·exact(Jwl (hE.name w hw)).1
  ·obtain⟨v,_,rfl⟩:=List.mem_map.1 hw
   exact J61 v
abbrev Ju6 (e:Ev):List UInt8:=Lib.join ((e.2.1::Ja7 e).map (·.data.toList)) [32]
theorem Jcb {e:Ev} (hc:Jb e=0):Do (bs (Ju6 e)) 32=e.2.1::Ja7 e:=by
 have h:=Jp4 hc
 show(Ja3 32 (Ju6 e)).map bs=_
 rw[Jp8 32 (by simp) fun w hw=> ?_]
 ·rw[List.map_map]
  exact(List.map_congr_left fun w _=>rfl).trans (List.map_id _)
 ·obtain⟨x,hx,rfl⟩:=List.mem_map.1 hw
  exact fun hm=>(h x hx 32 hm).2 rfl
theorem J2w {e:Ev} (hc:Jb e=0):Jd1 32 (Jp e).data.toList=true∧L6 32 (Jp e).data.toList=Lib.itoa e.1∧Fj 32 (Jp e).data.toList=Ju6 e:=by
 have hb:=Fl e
 have ht:(Vj e.1).data.toList=Lib.itoa e.1:=rfl
 rw[ht] at hb
 have hni:(32:UInt8)∉Lib.itoa e.1:=fun hm=>(Jkl e.1 32 hm).2 rfl
 have:=J42 (c:=32) (l:=(Jp e).data.toList) (k:=(Lib.itoa e.1).length) (by rw[hb,List.take_left' rfl];exact hni) (by rw[hb,List.length_append,List.length_cons];omega) (by rw[hb,List.getD_eq_getElem?_getD,List.getElem?_append_right (Nat.le_refl _),Nat.sub_self];rfl)
 refine⟨this.1,this.2.1.trans ?_,this.2.2.trans ?_⟩
 ·rw[hb,List.take_left' rfl]
 ·rw[hb,List.drop_append,List.drop_eq_nil_of_le (by omega),show(Lib.itoa e.1).length+1-(Lib.itoa e.1).length=1 by omega];rfl
theorem J6k {e:Ev} (hc:Jb e=0):okX (Jp e)=false∧evX (Jp e)=e:=by
 have hE:=J6 hc
 obtain⟨c1,c2,c3⟩:=J2w hc
 have hh:Jhs (Jp e)=Ku e.1:=by unfold Jhs;rw[c2];rfl
 have hr:Jma (Jp e)=bs (Ju6 e):=by unfold Jma;rw[c3]
 have d:=Jk0 (v:=e.1) (by have:=hE.num;omega) (by have:=hE.num;omega)
 have w:=(Jp3 hc).2
 have ex:evX (Jp e)=e:=by
  unfold evX
  rw[hh,hr,Jcb hc,w]
  show(dgN (Ku e.1),e.2)=e
  rw[d.2]
 refine⟨?_,ex⟩
 unfold okX
 rw[hh,hr,Jcb hc,w,ex,hc]
 show(bif bif !dgB (Ku e.1) then true else !true then true else(0:Int) !=0)=false
 rw[d.1]
 rfl
abbrev K3 (e:Ev):List UInt8:=(Jp e).data.toList++[35]++(Dj (Jp e)).data.toList
theorem Jj4 (e:Ev):(Jeb e).data.toList=K3 e++[10]:=rfl
theorem Jva (s:ByteArray):V8 (Dj s).data.toList=true:=by
 have pad:∀(n:Nat) (l:List UInt8),V8 l=true→V8 (List.replicate n 48++l)=true:=by
  intro n
  induction n with
  |zero=>intro l h;exact h
  |succ n ih=>intro l h;rw[List.replicate_succ,List.cons_append,V8,ih l h];rfl
 have all:∀l:List UInt8,(∀c∈l,Y5 c.toNat=true)→V8 l=true:=by
  intro l
  induction l with
  |nil=>intro _;rfl
  |cons c l ih=>intro h;rw[V8,h c (List.mem_cons_self ..),ih fun x hx=>h x (List.mem_cons_of_mem _ hx)];rfl
 show V8 (J6j (Lib.itoa (Jal s)))=true
 unfold J6j
 refine pad _ _ (all _ fun c hc=> ?_)
 obtain⟨u,hu⟩:∃u:Nat,Jal s=(u:Int):=⟨(Jal s).toNat,by have:=Je1 s;omega⟩
 rw[hu,Lib.itoa_nonneg] at hc
 exact Jxo u c hc
theorem D9 (e:Ev):(bs (K3 e)).size=(Jp e).size+8∧Vz (bs (K3 e))=Jp e∧Je0 (bs (K3 e))=Dj (Jp e)∧(K3 e).getD (Jp e).size 0=35:=by
 have hs:(Dj (Jp e)).data.toList.length=7:=by rw[←Dn (Jp e)];simp
 have hb:(Jp e).data.toList.length=(Jp e).size:=by simp
 have hl:(K3 e).length=(Jp e).size+8:=by
  rw[List.length_append,List.length_append,hs,hb];rfl
 have hz:(bs (K3 e)).size=(Jp e).size+8:=by rw[Kc,hl]
 refine⟨hz, ?_, ?_, ?_⟩
 ·unfold Vz
  rw[hz,Nat.add_sub_cancel]
  show bs ((K3 e).take (Jp e).size)=_
  rw[show K3 e=(Jp e).data.toList++([35]++(Dj (Jp e)).data.toList) from List.append_assoc ..,←hb,List.take_left' rfl]
  rfl
 ·unfold Je0
  rw[hz]
  show bs ((K3 e).drop ((Jp e).size+8-7))=_
  rw[show(Jp e).size+8-7=((Jp e).data.toList++[35]).length by rw[List.length_append,hb];rfl,List.drop_left' rfl]
  rfl
 ·rw[show K3 e=(Jp e).data.toList++([35]++(Dj (Jp e)).data.toList) from List.append_assoc ..,List.getD_eq_getElem?_getD,List.getElem?_append_right (by omega),hb,Nat.sub_self]
  rfl
theorem Jrd {e:Ev} (hc:Jb e=0):U6 (bs (K3 e))=(e,0):=by
 obtain⟨h1,h2,h3,h4⟩:=D9 e
 obtain⟨o1,o2⟩:=J6k hc
 have hd:Jrf (Dj (Jp e))=true:=by
  unfold Jrf
  rw[Jva,Dn];rfl
 have hsh:Jdc (bs (K3 e))=false:=by
  unfold Jdc
  rw[h1,h3,hd]
  show(bif bif decide ((((Jp e).size+8:Nat):Int)-7-1<0) then true else(((K3 e).getD ((Jp e).size+8-8) 0).toNat:Int) !=35 then true else !true)=false
  rw[Nat.add_sub_cancel,h4,decide_eq_false (by omega)]
  rfl
 unfold U6
 rw[hsh,h2,h3,o1,o2]
 simp
theorem Jf3 {e : Ev} (hc : Jb e = 0) : (10 : UInt8) ∉ K3 e := by
 intro hm
 rcases List.mem_append.1 hm with hm|hm
 ·rcases List.mem_append.1 hm with hm | hm
  ·rw [Fl] at hm
   rcases List.mem_append.1 hm with hm|hm
   ·exact(Jkl e.1 10 hm).1 rfl
   ·rcases List.mem_cons.1 hm with hm|hm
    ·exact absurd hm (by decide)
    ·have h:=Jp4 hc
     have jm:∀{ws:List (List UInt8)},(10:UInt8)∈Lib.join ws [32]→∃w∈ws,(10:UInt8)∈w:=by
      intro ws
      induction ws with
      |nil=>intro h;cases h
      | cons w r ih =>
       intro h
       by_cases q:r=[]
       ·subst q;rw[Jbo] at h;exact⟨w,List.mem_cons_self ..,h⟩
       ·rw[Le q] at h
        rcases List.mem_append.1 h with h|h
        ·rcases List.mem_append.1 h with h|h
         ·exact⟨w,List.mem_cons_self ..,h⟩
         ·exact absurd h (by decide)
        ·obtain⟨x,a,b⟩:=ih h
         exact⟨x,List.mem_cons_of_mem _ a,b⟩
     obtain⟨w,hw,h10⟩:=jm hm
     obtain⟨x,hx,rfl⟩:=List.mem_map.1 hw
     exact(h x hx 10 h10).1 rfl
  ·exact absurd hm (by decide)
 ·have:∀l:List UInt8,V8 l=true→(10:UInt8)∉l:=by
   intro l
   induction l with
   |nil=>intro _ h;cases h
   |cons c l ih=>
    intro h hm
    unfold V8 at h
    rw[Bool.and_eq_true] at h
    rcases List.mem_cons.1 hm with hm|hm
    ·subst hm;exact absurd h.1 (by decide)
    ·exact ih h.2 hm
  exact this _ (Jva _) hm
def cat:List Ev→List UInt8
 |[]=>[]
 |e::l=>(K3 e++[10])++cat l
theorem Jgz:∀{a b:List Ev},cat (a++b)=cat a++cat b
 |[],b=>rfl
 |e::a,b=>by rw[List.cons_append,cat,cat,Jgz,←List.append_assoc]
def Jlc:List Ev→Nat→Prop
 |[],_=>True
 |e::l,n=>e.1=(n:Int)+1∧Jlc l (n+1)
theorem Jxs {c:UInt8}:∀{a r:List UInt8},c∉a→Jd1 c (a++c::r)=true∧L6 c (a++c::r)=a∧Fj c (a++c::r)=r
 |[],r,_=>by
  rw[List.nil_append]
  unfold Jd1 L6 Fj
  rw[if_pos rfl,if_pos rfl,if_pos rfl]
  exact⟨rfl,rfl,rfl⟩
 |x::a,r,h=>by
  have hx:x≠c:=fun e=>h (e▸List.mem_cons_self ..)
  obtain⟨h1,h2,h3⟩:=Jxs (r:=r) fun hm=>h (List.mem_cons_of_mem _ hm)
  rw[List.cons_append]
  unfold Jd1 L6 Fj
  rw[if_neg hx,if_neg hx,if_neg hx,h1,h2,h3]
  exact⟨rfl,rfl,rfl⟩
theorem Jnc {e:Ev} {k:Int} (hc:Jb e=0) (hk:e.1=k):Ky (bs (K3 e)) k=(e,0):=by
 unfold Ky
 rw[Jrd hc]
 dsimp only
 rw[if_pos rfl,hk]
 simp
theorem Jbh {f:Nat} {a r:List UInt8} {at_:Int} {o:List Ev} (h:(10:UInt8)∉a):Jb5 (f+1) (a++10::r) at_ o=if(Ky (bs a) (o.length+1)).2≠0 then(o,at_,(Ky (bs a) (o.length+1)).2) else Jb5 f r (at_+(a.length+1)) (o++[(Ky (bs a) (o.length+1)).1]):=by
 obtain⟨h1,h2,h3⟩:=Jxs (r:=r) h
 rw[Jb5,if_neg (by simp),h1,if_neg (by simp),h2,h3]
theorem Jj5:∀(l:List Ev) (f:Nat) (p:List UInt8) (a:Int) (o:List Ev),(∀e∈l,Jb e=0)→Jlc l o.length→(cat l++p).length≤f→∃f',p.length≤f'∧Jb5 f (cat l++p) a o=Jb5 f' p (a+((cat l).length:Int)) (o++l)
 |[],f,p,a,o,_,_,hf=>⟨f,hf,by rw[List.append_nil];show Jb5 f p a o=Jb5 f p (a+0) o;rw[Int.add_zero]⟩
 |e::l,f,p,a,o,hc,hn,hf=>by
  have he:=hc e (List.mem_cons_self ..)
  have hl:(cat (e::l)++p)=K3 e++10::(cat l++p):=by rw[cat,List.append_assoc,List.append_assoc];rfl
  rw[hl] at hf⊢
  have hlen:(K3 e++10::(cat l++p)).length=(K3 e).length+(cat l++p).length+1:=by rw[List.length_append,List.length_cons];omega
  rw[hlen] at hf
  obtain⟨g,rfl⟩:∃g,f=g+1:=⟨f-1,by omega⟩
  rw[Jbh (Jf3 he),Jnc he hn.1]
  dsimp only
  rw[if_neg (by simp)]
  obtain⟨f',h1,h2⟩:=Jj5 l g p (a+(((K3 e).length:Int)+1)) (o++[e]) (fun x hx=>hc x (List.mem_cons_of_mem _ hx)) (by rw[List.length_append];exact hn.2) (by omega)
  refine⟨f',h1, ?_⟩
  rw[h2,List.append_assoc]
  have:(cat (e::l)).length=(K3 e).length+1+(cat l).length:=by rw[cat,List.length_append,List.length_append];rfl
  rw[this]
  show Jb5 f' p _ (o++([e]++l))=Jb5 f' p _ (o++e::l)
  congr 1
  push_cast
  omega
theorem Jv6 {f:Nat} {p:List UInt8} {a:Int} {o:List Ev} (h:(10:UInt8)∉p) (hf:p.length≤f):Jb5 f p a o=(o,a,if p=[] then 0 else 28):=by
 cases f with
 |zero=>
  have:p=[]:=List.eq_nil_of_length_eq_zero (by omega)
  subst this;rfl
 |succ f=>
  rw[Jb5]
  by_cases q:p=[]
  ·rw[if_pos q,if_pos q]
  ·rw[if_neg q,if_neg q,if_pos (J41 h)]
theorem Jfh {l:List Ev} {p:List UInt8} (hc:∀e∈l,Jb e=0) (hn:Jlc l 0) (hp:(10:UInt8)∉p) (hs:(cat l++p).length≤1000000):Jc (bs (cat l++p))=(l,((cat l).length:Int),if p=[] then(0:Int) else 28):=by
 unfold Jc
 rw[if_neg (by rw[Kc];omega),Kc]
 obtain⟨f',h1,h2⟩:=Jj5 l (cat l++p).length p 0 [] hc hn (Nat.le_refl _)
 show Jb5 (cat l++p).length (cat l++p) 0 []=_
 rw[h2,Jv6 hp h1,Int.zero_add]
 rfl
theorem J1a {y y' c:Int} (h0:0≤y∧y<9999721) (h1:0≤y'∧y'<9999721) (hc:0≤c) (h:(341*y+c).tmod 9999721=(341*y'+c).tmod 9999721):y=y':=by
 rw[Int.tmod_eq_emod_of_nonneg (by omega),Int.tmod_eq_emod_of_nonneg (by omega)] at h
 omega
theorem J2v {y b b':Int} (h0:0≤y∧y<9999721) (hb:0≤b∧b<256) (hb':0≤b'∧b'<256) (h:(341*y+b).tmod 9999721=(341*y+b').tmod 9999721):b=b':=by
 rw[Int.tmod_eq_emod_of_nonneg (by omega),Int.tmod_eq_emod_of_nonneg (by omega)] at h
 omega
theorem Je2 {y:Int} {b:UInt8} (h0:0≤y∧y<9999721):0≤(341*y+(b.toNat:Int)).tmod 9999721∧(341*y+(b.toNat:Int)).tmod 9999721<9999721:=⟨Int.tmod_nonneg _ (by omega),Int.tmod_lt_of_pos _ (by decide)⟩
theorem Jp7:∀{l:List UInt8} {y y':Int},(0≤y∧y<9999721)→(0≤y'∧y'<9999721)→Jg9 l y=Jg9 l y'→y=y'
 |[],_,_,_,_,h=>h
 |b::l,y,y',h0,h1,h=>by
  rw[Jg9,Jg9] at h
  exact J1a h0 h1 (by omega) (Jp7 (Je2 h0) (Je2 h1) h)
theorem Jp6:∀{l:List UInt8} {j:Nat} {c:UInt8} {y:Int},(0≤y∧y<9999721)→j<l.length→Jg9 (l.set j c) y=Jg9 l y→l.getD j 0=c
 |[],_,_,_,_,h,_=>by cases h
 |b::l,0,c,y,h0,_,h=>by
  rw[List.set_cons_zero,Jg9,Jg9] at h
  have:=J2v h0 ⟨by omega,by have:=c.toNat_lt;omega⟩ ⟨by omega,by have:=b.toNat_lt;omega⟩ (Jp7 (Je2 h0) (Je2 h0) h)
  show b=c
  exact UInt8.toNat_inj.1 (by omega)
 |b::l,j+1,c,y,h0,hj,h=>by
  rw[List.set_cons_succ,Jg9,Jg9] at h
  exact Jp6 (l:=l) (j:=j) (Je2 h0) (by simpa using hj) h
theorem J6i {u:Nat}:J5 (J6j (Lib.decDigits u)) 0=((u:Int),true):=by
 have pad:∀(n:Nat) (l:List UInt8),J5 (List.replicate n 48++l) 0=J5 l 0:=by
  intro n
  induction n with
  |zero=>intro l;rfl
  |succ n ih=>intro l;rw[List.replicate_succ,List.cons_append,Dy,if_pos (by decide)];exact ih l
 unfold J6j
 rw[pad,Jaz]
theorem J08 {a b:ByteArray} (h:Dj a=Dj b):Jal a=Jal b:=by
 have h:(Dj a).data.toList=(Dj b).data.toList:=by rw[h]
 have e:∀s:ByteArray,J5 (Dj s).data.toList 0=(Jal s,true):=fun s=>by
  obtain⟨u,hu⟩:∃u:Nat,Jal s=(u:Int):=⟨(Jal s).toNat,by have:=Je1 s;omega⟩
  show J5 (J6j (Lib.itoa (Jal s))) 0=_
  rw[hu,Lib.itoa_nonneg,J6i]
 have h1:=e a
 rw[h,e b] at h1
 exact(Prod.mk.inj h1).1.symm
theorem J11 {e e':Ev} {j:Nat} {c:UInt8} (hj:j<(K3 e).length) (h:K3 e'=(K3 e).set j c):(K3 e).getD j 0=c:=by
 have hb:∀x:Ev,(Jp x).data.toList.length=(Jp x).size:=fun x=>by simp
 have hs:∀x:Ev,(Dj (Jp x)).data.toList.length=7:=fun x=>by rw[←Dn (Jp x)];simp
 have hl:∀x:Ev,(K3 x).length=(Jp x).size+8:=fun x=>by rw[List.length_append,List.length_append,hs,hb];rfl
 have hlen:(Jp e').size=(Jp e).size:=by
  have:=congrArg List.length h
  rw[List.length_set,hl,hl] at this
  omega
 have tk:∀x:Ev,(K3 x).take (Jp x).size=(Jp x).data.toList:=fun x=>by
  rw[show K3 x=(Jp x).data.toList++([35]++(Dj (Jp x)).data.toList) from List.append_assoc ..,←hb,List.take_left' rfl]
 have dr:∀x:Ev,(K3 x).drop ((Jp x).size+1)=(Dj (Jp x)).data.toList:=fun x=>by
  rw[show(Jp x).size+1=((Jp x).data.toList++[35]).length by rw[List.length_append,hb];rfl,List.drop_left' rfl]
 have b1:=tk e'
 have d1:=dr e'
 rw[hlen,h] at b1 d1
 have gd:((K3 e).set j c).getD j 0=c:=by rw[List.getD_eq_getElem?_getD,List.getElem?_set,if_pos rfl,if_pos hj];rfl
 by_cases q:j<(Jp e).size
 ·rw[List.drop_set_of_lt (by omega),dr e] at d1
  rw[List.take_set,tk e] at b1
  have hsum:Dj (Jp e)=Dj (Jp e'):=by
   have:bs (Dj (Jp e)).data.toList=bs (Dj (Jp e')).data.toList:=by rw[d1]
   exact this
  have hN:=J08 hsum
  unfold Jal at hN
  rw[←b1] at hN
  have:=Jp6 (l:=(Jp e).data.toList) (j:=j) (c:=c) (y:=1) ⟨by decide,by decide⟩ (by rw[hb];exact q) hN.symm
  rw[←this,←tk e,Jgd q]
 ·by_cases q2:j=(Jp e).size
  ·have h4:=(D9 e').2.2.2
   have h5:=(D9 e).2.2.2
   rw[hlen,h,←q2,gd] at h4
   rw[q2,h5,h4]
  ·rw[List.take_set_of_le (by omega),tk e] at b1
   have he:Jp e'=Jp e:=by
    have:bs (Jp e').data.toList=bs (Jp e).data.toList:=by rw[b1]
    exact this
   have:K3 e'=K3 e:=by rw[show K3 e'=(Jp e').data.toList++[35]++(Dj (Jp e')).data.toList from rfl,he]
   rw[this] at h
   rw[h,gd]
theorem Kej {e:Ev} (h:Jb e=0):Jdl e:=by
 have hE:=J6 h
 have hk:=Jco e.2.1
 have h1:=hE.nn
 have h2:=hE.nv
 refine⟨by omega,by omega,fun s hs=> ?_⟩
 exact Nat.le_trans (Jef (hE.name s hs)) (by decide)
theorem J6d (s:ByteArray):lOk (Jc s).1:=⟨by have:=Jaq s;omega,fun e he=>Kej (Jor s e he)⟩
def J45:Jz5:={T:=212,s:=Jhn,pre:=fun s=>[(Jc s).2.2=0∨(Jc s).2.2=28,(Je (Jc s).1).2.2=0],post:=fun s=>(Je (Jc s).1).1}
abbrev Jy1 (l:List Ev):Ann:={X:=Ka×Nat,σ:=fun(h,k)=>⟨6,[(5, .one (.ptr 2 0)),(14, .one (.sl 0)),(15, .one (.int .i64 l.length)),(16, .one (.int .i64 k))],[(0, .imm 67 sEv l),(1, .sus []),(2, .box 167 [.sl 3, .sl 4, .sl 5]),(3, .own 67 sEv h.1),(4, .own 67 sEv h.2.1),(5, .own 105 Jle h.2.2)]⟩,inv:=fun(h,k)=>Yc h∧h.1.length=k∧k≤l.length∧l.length≤1000∧Xt h (l.drop k)=Je l,mu:=fun(_,k)=>l.length-k}
def Z46 (a:Bt):=List.length (Jc a).1
def K4d (a:Bt) (b:Ka×Nat):=List.getD (Jc a).1 b.2 D5
def K4b (a:Bt) (b:Ka×Nat):=(K4d a b).2
def K38 (a:Bt) (b:Ka×Nat):=(K4b a b).2
def Kyi (a:(List Ev×List Ev×List Reg)×Nat) (b:Bt):=Yc a.1∧List.length a.1.1=a.2∧a.2≤Z46 b∧Z46 b≤1000∧Xt a.1 (List.drop a.2 (Jc b).1)=Je (Jc b).1
def Kki (a:Bt) (b:Ka×Nat):=((K4d a b).1,(K4b a b).1,(K38 a b).1,E2 (K38 a b).2)
def Kwn (a:Ka×Nat) (b:Bt):=Vf (Jsa a) (Kki b a)
def Kwm (a:Ka×Nat) (b:Bt):=(Kwn a b).2
def Kwe (a:Ka×Nat) (b:Bt):=K9 (Jsa a) (Kki b a) !=0
theorem K7q (s:ByteArray):wpFN Tryz.prog K4w.g (na ()) (fun f id=>if f=74 then some (Jy1 (Jc s).1) else none) (Sx.look ([(74,Tryz.f74)]:List (Nat×Func))) Tryz.f38 J45 s:=by
 refine(by kernel_rfl:((Jc s).2.2=0∨(Jc s).2.2=28→(Je (Jc s).1).2.2=0→Br (bif (Jc s).2.2 !=0 then(Jc s).2.2 !=28 else false) (Sf true False) (Br (decide (1000<Z5 s)) (Br true (Sf true False) False) (∃(x:(List Ev×List Ev×List Reg)×Nat),Si (Z5 s) (0=Nc x.2∧(Jc s).1=(Jc s).1∧Kb4 x)∧Kyi x s∧∀(x:Ka×Nat),Yc x.1∧List.length x.1.1=x.2∧x.2≤Z46 s∧Z46 s≤1000∧Xt x.1 (List.drop x.2 (Jc s).1)=Je (Jc s).1→Br (decide (Nc x.2<Z5 s)) (Tw (Bd (Nc x.2) (Z5 s))∧(J9c x∧List.length x.1.1<1000∧Jdl (Kki s x))∧Br (Kwe x s) (Z37 x∧Br (Kwe x s) (Sf true False) False) (Z37 x∧∃(y:(List Ev×List Ev×List Reg)×Nat),Si (Z5 s) (Jus x y∧(Jc s).1=(Jc s).1∧(Kwn x s).1=y.1.1∧(Kwm x s).1=y.1.2.1∧(Kwm x s).2=y.1.2.2)∧Kyi y s∧Z46 s-y.2<Z46 s-x.2)) (Br false (Sf true False) (Sf true (Sf 212 (Si 0 (Jsa x=(Je (Jc s).1).1))))))))=_).mp ?_
 delta Z5 Z37 Z46 Jus Jsa D5 J9c K4d K4b K38 Kb4 Kyi Kki Kwn Kwm Kwe Br Iw Bd Tw Sf Si Ln Nc B0 E2
 intro h0 hr
 have hl:=J6d s
 have hlen:=Jaq s
 generalize Jc s=r at*
 obtain⟨l,at_,e0⟩:=r
 dsimp only at h0 hr hl hlen⊢
 have e0:Je l=Xt Xd l:=by unfold Je;rw[if_neg (by omega)]
 refine⟨fun h=> ?_,fun _=>⟨fun h=> ?_,fun _=>⟨(Xd,(0:Nat)),by(repeat' first|exact rfl|exact⟨⟩|apply And.intro|omega|dsimp only;omega),⟨Ze,rfl,Nat.zero_le _,hlen,e0.symm⟩,fun(x:Ka×Nat) hx=>⟨fun h1=> ?_,fun h1=> ?_⟩⟩⟩⟩
 ·rcases h0 with h0|h0<;>rw[h0] at h<;>cases h
 ·have:=of_decide_eq_true h;omega
 ·obtain⟨g,k⟩:=x
  obtain⟨hi,hk,hk2,_,hrun⟩:=hx
  dsimp only at hi hk hk2 hrun
  have hlt:k<l.length:=by simpa using h1
  rw[Jk (d:=ev0) hlt,Xt] at hrun
  have hz:=hl.2 _ (Jd (d:=ev0) hlt)
  have h2:K9 g (l.getD k ev0)=0:=by
   by_cases h2:K9 g (l.getD k ev0)=0
   ·exact h2
   ·rw[if_neg h2] at hrun
    rw[←hrun] at hr
    exact hr
  have eP:Vf g (l.getD k ev0)=Ho g (l.getD k ev0):=by unfold Vf;rw[if_pos h2]
  rw[if_pos h2] at hrun
  refine⟨⟨⟨by dsimp only;omega,by dsimp only;omega⟩,by dsimp only;omega,by dsimp only;omega⟩,⟨hi.ok,by show g.1.length<1000;omega,hz⟩,fun h3=>absurd h2 (bne_iff_ne.1 h3),fun _=>⟨by dsimp only;omega,(Ho g (l.getD k ev0),k+1),⟨rfl,by simp,rfl, ?_, ?_, ?_⟩,⟨Jdt hi (by omega) h2, ?_,by dsimp only;omega,hlen,hrun⟩,by dsimp only;omega⟩⟩
  ·show(Vf g (l.getD k ev0)).1=_;rw[eP]
  ·show(Vf g (l.getD k ev0)).2.1=_;rw[eP]
  ·show(Vf g (l.getD k ev0)).2.2=_;rw[eP]
  ·show(Ho g (l.getD k ev0)).1.length=k+1
   rw[Hn,hk]
 ·obtain⟨g,k⟩:=x
  obtain⟨hi,hk,hk2,_,hrun⟩:=hx
  dsimp only at hi hk hk2 hrun
  have hlt:¬k<l.length:=by simpa using h1
  have:k=l.length:=by omega
  rw[this,List.drop_length,Xt] at hrun
  exact⟨fun h=>(by cases h),fun _=>⟨rfl,rfl,rfl,by rw[←hrun]⟩⟩
theorem K8u:Ok Tryz.prog 38 (Jz5.con J45):=Kdu (Jwe mixed K4w.ok (by kernel_rfl) (by kernel_rfl) (U4 (l:=([(74,Tryz.f74)]:List (Nat×Func))) (List.forall_mem_cons.2 ⟨by kernel_rfl,by simp⟩)) (fun s=>na ()) (fun s=>fun f id=>if f=74 then some (Jy1 (Jc s).1) else none) K7q)
abbrev K94:=K4w.add K8u
theorem Jzb {h:Ka} {e:Ev} (ha:L3 h e=0):e.1=(h.1.length:Int)+1:=by
 unfold L3 at ha
 cases q:e.1 !=(h.1.length:Int)+1 with
 |true=>rw[q] at ha;cases ha
 |false=>exact bne_eq_false_iff_eq.1 q
theorem J8m {h:Ka} {e:Ev}:(Ho h e).1=h.1++[e]:=by unfold Ho;cases e.2.1.toList==Jy.toList<;>rfl
theorem Jfa {h:Ka} {e:Ev} {l:List Ev} (h0:(Xt h (e::l)).2.2=0):K9 h e=0∧(Xt (Ho h e) l).2.2=0:=by
 by_cases ha:K9 h e=0
 ·rw[Xt,if_pos ha] at h0;exact⟨ha,h0⟩
 ·rw[Xt,if_neg ha] at h0;exact absurd h0 ha
theorem D7 {h:Ka} {e:Ev} {l:List Ev} (ha:K9 h e=0):Xt h (e::l)=Xt (Ho h e) l:=by rw[Xt,if_pos ha]
theorem Jqi:∀{l:List Ev} {h:Ka} {k:Nat},(Xt h l).2.2=0→k<l.length→K9 (Xt h (l.take k)).1 (l.getD k ev0)=0∧(Xt h (l.take (k+1))).1=Ho (Xt h (l.take k)).1 (l.getD k ev0)
 |[],_,_,_,hk=>by cases hk
 | e :: l, h, k, h0, hk => by
  obtain⟨ha,h0⟩:=Jfa h0
  cases k with
  |zero=>exact⟨ha,by show(Xt h [e]).1=_;rw[D7 ha];rfl⟩
  |succ k=>
   have:=Jqi (k:=k) h0 (by simpa using hk)
   rw[List.take_succ_cons,List.take_succ_cons,D7 ha,D7 ha]
   exact this
theorem Jqh:∀{l:List Ev} {h:Ka} {k:Nat},(Xt h l).2.2=0→(Xt h (l.take k)).2.2=0
 |[],_,k,_=>by rw[List.take_nil];rfl
 |e::l,h,0,_=>rfl
 |e::l,h,k+1,h0=>by
  obtain⟨ha,h0⟩:=Jfa h0
  rw[List.take_succ_cons,D7 ha]
  exact Jqh h0
theorem J4j:∀{l:List Ev} {h:Ka},(Xt h l).2.2=0→(Xt h l).1.1=h.1++l
 |[],h,_=>(List.append_nil _).symm
 |e::l,h,h0=>by
  obtain⟨ha,h0⟩:=Jfa h0
  rw[D7 ha,J4j h0,J8m,List.append_assoc]
  rfl
theorem Joi:∀{l:List Ev} {h:Ka},(Xt h l).2.2=0→Jlc l h.1.length∧∀e∈l,Jb e=0
 |[],_,_=>⟨trivial,fun _ h=>(by cases h)⟩
 |e::l,h,h0=>by
  obtain⟨ha,h0⟩:=Jfa h0
  obtain⟨hc,hacc⟩:=add_zero ha
  obtain⟨h1,h2⟩:=Joi h0
  rw[Hn] at h1
  refine⟨⟨Jzb hacc,h1⟩,fun x hx=> ?_⟩
  rcases List.mem_cons.1 hx with hx|hx
  ·rw[hx];exact hc
  ·exact h2 x hx
theorem Kdo:∀{l:List Ev} {h:Ka},Hu h→(Xt h l).2.2=0→Hu (Xt h l).1
 |[],_,hn,_=>hn
 |e::l,h,hn,h0=>by
  obtain⟨ha,h0⟩:=Jfa h0
  rw[D7 ha]
  exact Kdo (Kgk hn ha) h0
def He (l:List Ev) (k:Nat):Ka:=(Je (l.take k)).1
structure Jou (l:List Ev):Prop where
 err:(Je l).2.2=0
 len:l.length≤20
theorem Jou.run {l:List Ev} (j:Jou l) (k:Nat):Je (l.take k)=Xt Xd (l.take k)∧(Xt Xd (l.take k)).2.2=0:=by
 have hl:=j.len
 have h0:=j.err
 unfold Je at h0⊢
 rw[if_neg (by omega)] at h0
 exact⟨by rw[if_neg (by rw[List.length_take];omega)],Jqh h0⟩
theorem Jou.all {l:List Ev} (j:Jou l):Je l=Xt Xd l∧(Xt Xd l).2.2=0:=by
 have:=j.run l.length
 rwa[List.take_length] at this
theorem Jou.step {l:List Ev} (j:Jou l) {k:Nat} (hk:k<l.length):K9 (He l k) (l.getD k ev0)=0∧He l (k+1)=Ho (He l k) (l.getD k ev0):=by
 unfold He
 rw[(j.run k).1,(j.run (k+1)).1]
 exact Jqi j.all.2 hk
theorem Jou.ev {l:List Ev} (j:Jou l) (k:Nat):(He l k).1=l.take k:=by
 unfold He
 rw[(j.run k).1]
 exact J4j (j.run k).2
theorem Jou.num {l:List Ev} (j:Jou l):Jlc l 0:=(Joi j.all.2).1
theorem Jou.ck {l:List Ev} (j:Jou l):∀e∈l,Jb e=0:=(Joi j.all.2).2
theorem Jou.nm {l:List Ev} (j:Jou l) (k:Nat):Hu (He l k):=by
 unfold He
 rw[(j.run k).1]
 exact Kdo Jw8 (j.run k).2
theorem Jou.ok {l:List Ev} (k:Nat):Yc (He l k):=Jmb
theorem Jee:∀{l:List Ev} {n k:Nat},Jlc l n→Jlc (l.take k) n
 |[],_,_,_=>by rw[List.take_nil];trivial
 |_::_,_,0,_=>trivial
 |e::l,n,k+1,h=>⟨h.1,Jee h.2⟩
theorem Jka:∀{l:List Ev} {n k:Nat},Jlc l n→k<l.length→(l.getD k ev0).1=(n:Int)+k+1
 |[],_,_,_,h=>by cases h
 |e::l,n,0,h,_=>by have:=h.1;show e.1=_;omega
 |e::l,n,k+1,h,hk=>by
  have:=Jka (k:=k) h.2 (by simpa using hk)
  show(l.getD k ev0).1=_
  omega
theorem Jws:∀l:List Ev,(J6u l).data.toList=cat l
 |[]=>rfl
 | e :: l => by
  have ih:=Jws l
  show Lib.join ((Jeb e).data.toList::(l.map Jeb).map (·.data.toList)) []=K3 e++[10]++cat l
  have ih:Lib.join ((l.map Jeb).map (·.data.toList)) []=cat l:=ih
  by_cases q:l=[]
  ·subst q
   show Lib.join [(Jeb e).data.toList] []=_
   rw[Jbo,Jj4,cat,List.append_nil]
  ·rw[Le (by simpa using q),ih,Jj4,List.append_nil]
def Xo (l:List Ev) (k:Nat):ByteArray:=J6u (l.take k)
theorem H8 (l:List Ev) (k:Nat):Xo l k=bs (cat (l.take k)):=by rw[←Jws];rfl
theorem Jqy {e:Ev} (h:Jb e=0):0<(K3 e).length∧(K3 e).length≤408:=by
 have:=Jc2 h
 have hp:=(D9 e).1
 rw[Kc] at hp
 omega
theorem Jx0:∀{l:List Ev},(∀e∈l,Jb e=0)→(cat l).length≤409*l.length
 |[],_=>Nat.le_refl _
 |e::l,h=>by
  have h1:=Jqy (h e (List.mem_cons_self ..))
  have h2:=Jx0 (l:=l) fun x hx=>h x (List.mem_cons_of_mem _ hx)
  rw[cat,List.length_append,List.length_append]
  simp only[List.length_cons,List.length_nil]
  omega
theorem Jou.ckT {l:List Ev} (j:Jou l) (k:Nat):∀e∈l.take k,Jb e=0:=fun e he=>j.ck e (List.mem_of_mem_take he)
theorem Jou.size {l:List Ev} (j:Jou l) (k:Nat):(Xo l k).size≤8180:=by
 have h1:=Jx0 (j.ckT k)
 have h2:=j.len
 rw[List.length_take] at h1
 rw[H8,Kc]
 omega
theorem Jk3 {l:List Ev} {k:Nat} (hk:k<l.length):cat (l.take (k+1))=cat (l.take k)++(K3 (l.getD k ev0)++[10]):=by
 rw[←Uu (d:=ev0) hk,Jgz,cat,cat,List.append_nil]
def Ja5 (l:List Ev) (k:Nat):Int:=((Xo l k).size:Int)
theorem Jcm {l:List Ev} {k:Nat}:Ja5 l k=((cat (l.take k)).length:Int):=by unfold Ja5;rw[H8,Kc]
theorem Jbm {l:List Ev} {k:Nat} (hk:k<l.length):Ja5 l (k+1)=Ja5 l k+((K3 (l.getD k ev0)).length+1):=by
 rw[Jcm,Jcm,Jk3 hk,List.length_append,List.length_append,List.length_singleton]
 push_cast
 omega
theorem Jou.rcv {l:List Ev} (j:Jou l) (k:Nat):Jc (Xo l k)=(l.take k,Ja5 l k,0):=by
 have hs:=j.size k
 rw[H8,Kc] at hs
 have:=Jfh (l:=l.take k) (p:=[]) (j.ckT k) (Jee j.num) (by simp) (by rw[List.append_nil];omega)
 rw[List.append_nil,if_pos rfl] at this
 rw[Jcm,H8,this]
theorem Jou.app {l:List Ev} (j:Jou l) {k:Nat} (hk:k<l.length):Jtz (Xo l k) (l.getD k ev0)=(Xo l (k+1),0):=by
 have hc:=j.ck _ (Jd (d:=ev0) hk)
 have hr:=j.rcv k
 have he:Kbl (Xo l k) (l.getD k ev0)=0:=by
  unfold Kbl
  rw[hr,hc,Jka j.num hk,List.length_take]
  have:min k l.length=k:=by omega
  rw[this]
  simp[Jg]
 unfold Jtz
 have h1:=j.size k
 have h2:=Jfi (Jg0 hc)
 have h3:=Jc2 hc
 rw[if_neg (by rw[he];simp),if_neg (by omega),H8 l (k+1),Jk3 hk,←Jj4,H8]
 rfl
theorem Zr {l:List Ev} {i:Nat}:∀{k:Nat},i≤k→k≤l.length→Ja5 l i≤Ja5 l k
 |0,h,_=>by
  have:i=0:=by omega
  subst this;exact Int.le_refl _
 | k + 1, h, hk => by
  by_cases q:i=k+1
  ·subst q;exact Int.le_refl _
  ·have h1:=Zr (l:=l) (i:=i) (k:=k) (by omega) (by omega)
   have h2:=Jbm (l:=l) (k:=k) (by omega)
   omega
def Lz (l:List Ev) (k:Nat):List Int:=(List.range k).map fun i=>Ja5 l (i+1)
theorem Fg {l:List Ev} {k:Nat}:(Lz l k).length=k:=by unfold Lz;rw[List.length_map,List.length_range]
theorem Jxm {l:List Ev} {k:Nat}:Lz l (k+1)=Lz l k++[Ja5 l (k+1)]:=by unfold Lz;rw[List.range_succ,List.map_append];rfl
theorem Jgq {l:List Ev} {k i:Nat} (h:i<k):(Lz l k).getD i 0=Ja5 l (i+1):=by
 unfold Lz
 rw[Jkq (d:=0) (by rw[List.length_range];exact h),List.getD_eq_getElem?_getD,List.getElem?_range h]
 rfl
def Yi (l:List Ev) (z:Int):Nat→Nat
 |0=>0
 |k+1=>Yi l z k+if Ja5 l (k+1)≤z then 1 else 0
theorem Jd7 {l:List Ev} {z:Int}:∀{k:Nat},k≤l.length→Yi l z k≤k∧∀i,1≤i→i≤k→(Ja5 l i≤z↔i≤Yi l z k)
 |0,_=>⟨Nat.le_refl _,fun i h1 h2=>by omega⟩
 | k + 1, hk => by
  obtain⟨h1,h2⟩:=Jd7 (l:=l) (z:=z) (k:=k) (by omega)
  unfold Yi
  by_cases q:Ja5 l (k+1)≤z
  ·rw[if_pos q]
   have hw:Yi l z k=k:=by
    by_cases hz:k=0
    ·omega
    ·have:=(h2 k (by omega) (Nat.le_refl _)).1 (by have:=Zr (l:=l) (i:=k) (k:=k+1) (by omega) hk;omega)
     omega
   refine⟨by omega,fun i h3 h4=>⟨fun _=>by omega,fun _=> ?_⟩⟩
   have:=Zr (l:=l) (i:=i) (k:=k+1) h4 hk
   omega
  ·rw[if_neg q]
   refine⟨by omega,fun i h3 h4=> ?_⟩
   by_cases hi:i=k+1
   ·subst hi
    exact⟨fun h=>absurd h q,fun h=>by omega⟩
   ·exact h2 i h3 (by omega)
theorem Jf4 {l:List Ev}:Ja5 l 0=0:=rfl
theorem Jou.cut {l:List Ev} (j:Jou l) {z:Int} (h0:0≤z) (h1:z≤Ja5 l l.length):∃a e,Jc ((Xo l l.length).extract 0 z.toNat)=(l.take (Yi l z l.length),a,e)∧(e=0∨e=28):=by
 obtain⟨w1,w2⟩:=Jd7 (l:=l) (z:=z) (Nat.le_refl l.length)
 generalize Yi l z l.length=w at*
 have hw:Ja5 l w≤z:=by
  by_cases q:w=0
  ·rw[q,Jf4];exact h0
  ·exact(w2 w (by omega) w1).2 (Nat.le_refl _)
 have e1:cat l=cat (l.take w)++cat (l.drop w):=by rw[←Jgz,List.take_append_drop]
 rw[Jcm] at hw
 obtain⟨p,hp,hx⟩:∃p,(10:UInt8)∉p∧(cat l).take z.toNat=cat (l.take w)++p:=by
  refine⟨(cat (l.drop w)).take (z.toNat-(cat (l.take w)).length), ?_,by rw[e1,List.take_append,List.take_of_length_le (by omega)]⟩
  by_cases q:w<l.length
  ·have hc:=j.ck _ (Jd (d:=ev0) q)
   rw[Jk (d:=ev0) q,cat,List.append_assoc]
   have h2:¬Ja5 l (w+1)≤z:=fun h=>by
    have:=(w2 (w+1) (by omega) (by omega)).1 h
    omega
   rw[Jbm q,Jcm] at h2
   rw[List.take_append_of_le_length (by omega)]
   exact fun hm=>Jf3 hc (List.mem_of_mem_take hm)
  ·rw[List.drop_eq_nil_of_le (by omega)]
   simp[cat]
 have hs:=j.size l.length
 have hx2:(Xo l l.length).extract 0 z.toNat=bs (cat (l.take w)++p):=by
  rw[Fc,H8,List.take_length]
  show bs ((cat l).take z.toNat)=_
  rw[hx]
 have hlen:(cat (l.take w)++p).length≤1000000:=by
  rw[←hx,List.length_take]
  rw[H8,List.take_length,Kc] at hs
  omega
 rw[hx2,Jfh (j.ckT w) (Jee j.num) hp hlen]
 exact⟨_,_,rfl,by by_cases q:p=[]<;>simp[q]⟩
theorem Jtr {α:Type} {l m:List α} {k:Nat} {d:α} (h:l.length≤k):(l++m).getD k d=m.getD (k-l.length) d:=by
 rw[List.getD_eq_getElem?_getD,List.getD_eq_getElem?_getD,List.getElem?_append_right h]
theorem Jvo:∀{l:List Ev} {k:Nat} {c:UInt8} {f:Nat} {a:Int} {o:List Ev},(∀e∈l,Jb e=0)→Jlc l o.length→k<(cat l).length→(cat l).getD k 0≠10→c≠10→c≠(cat l).getD k 0→(cat l).length≤f→
  (Jb5 f ((cat l).set k c) a o).2.2≠0∧(Jb5 f ((cat l).set k c) a o).2.1<a+((cat l).length:Int)
 |[],_,_,_,_,_,_,_,h,_,_,_,_=>by cases h
 | e :: l, k, c, f, a, o, hc, hn, hk, h10, hc10, hne, hf => by
  have he:=hc e (List.mem_cons_self ..)
  have hl:cat (e::l)=K3 e++10::cat l:=by rw[cat,List.append_assoc];rfl
  have hll:(cat (e::l)).length=(K3 e).length+((cat l).length+1):=by rw[hl,List.length_append,List.length_cons]
  obtain⟨g,rfl⟩:∃g,f=g+1:=⟨f-1,by omega⟩
  rw[hll]
  rw[hll] at hk hf
  rw[hl] at h10 hne⊢
  by_cases q:k<(K3 e).length
  ·rw[Jeh q] at h10 hne
   rw[List.set_append_left _ _ q,Jbh fun hm=>by
    rcases List.mem_or_eq_of_mem_set hm with hm|hm
    ·exact Jf3 he hm
    ·exact hc10 hm.symm]
   have hb:(Ky (bs ((K3 e).set k c)) (o.length+1)).2≠0:=fun h=>by
    have h0:(U6 (bs ((K3 e).set k c))).2=0:=by
     unfold Ky at h
     by_cases q:(U6 (bs ((K3 e).set k c))).2=0
     ·exact q
     ·rw[if_neg q] at h;exact h
    have h2:Jeb (U6 (bs ((K3 e).set k c))).1=bs ((K3 e).set k c++[10]):=Jxl (Prod.ext rfl h0)
    have h3:K3 (U6 (bs ((K3 e).set k c))).1++[10]=(K3 e).set k c++[10]:=by
     have:=congrArg (fun s:ByteArray=>s.data.toList) h2
     exact this
    exact hne (J11 q (List.append_cancel_right h3)).symm
   rw[if_pos hb]
   exact⟨hb,by dsimp only;omega⟩
  ·rw[Jtr (by omega)] at h10 hne
   rw[List.set_append_right _ _ (by omega)]
   by_cases q2:k=(K3 e).length
   ·rw[q2,Nat.sub_self] at h10;exact absurd rfl h10
   ·obtain⟨m,hm⟩:∃m,k-(K3 e).length=m+1:=⟨k-(K3 e).length-1,by omega⟩
    rw[hm] at h10 hne⊢
    rw[List.set_cons_succ,Jbh (Jf3 he),Jnc he hn.1]
    dsimp only
    rw[if_neg (by simp)]
    have h10:(cat l).getD m 0≠10:=h10
    have hne:c≠(cat l).getD m 0:=hne
    have:=Jvo (l:=l) (k:=m) (c:=c) (f:=g) (a:=a+((K3 e).length+1)) (o:=o++[e]) (fun x hx=>hc x (List.mem_cons_of_mem _ hx)) (by rw[List.length_append];exact hn.2) (by omega) h10 hc10 hne (by omega)
    refine⟨this.1,Int.lt_of_lt_of_le this.2 (by push_cast;omega)⟩
theorem Jou.chg {l:List Ev} (j:Jou l) {k:Nat} {c:UInt8} (hk:k<(cat l).length) (h10:(cat l).getD k 0≠10) (hc10:c≠10) (hne:c≠(cat l).getD k 0):(Jc (bs ((cat l).set k c))).2.2≠0∧(Jc (bs ((cat l).set k c))).2.1≠((cat l).length:Int):=by
 have hs:=j.size l.length
 rw[H8,List.take_length,Kc] at hs
 have:=Jvo (f:=(cat l).length) (a:=0) (o:=[]) j.ck j.num hk h10 hc10 hne (Nat.le_refl _)
 unfold Jc
 rw[if_neg (by rw[Kc,List.length_set];omega),Kc,List.length_set]
 exact⟨this.1,fun h=>by have:=this.2;have h:(Jb5 (cat l).length ((cat l).set k c) 0 []).2.1=_:=h;omega⟩
theorem Jou.lost {l:List Ev} (j:Jou l) {r:Nat} (hr:r+1<l.length):(Jc (bs (cat (l.take r)++cat (l.drop (r+1))))).2.2=11:=by
 have hs:=j.size l.length
 rw[H8,List.take_length,Kc] at hs
 have hc:=j.ck _ (Jd (d:=ev0) hr)
 have hle:(cat (l.take r)++cat (l.drop (r+1))).length≤(cat l).length:=by
  have e1:cat l=cat (l.take (r+1))++cat (l.drop (r+1)):=by rw[←Jgz,List.take_append_drop]
  rw[e1,Jk3 (by omega)]
  simp only[List.length_append]
  omega
 unfold Jc
 rw[if_neg (by rw[Kc];omega),Kc]
 obtain⟨f',h1,h2⟩:=Jj5 (l.take r) _ (cat (l.drop (r+1))) 0 [] (j.ckT r) (Jee j.num) (Nat.le_refl _)
 show(Jb5 _ (cat (l.take r)++cat (l.drop (r+1))) 0 []).2.2=11
 rw[h2]
 rw[Jk (d:=ev0) hr,cat,List.append_assoc] at h1⊢
 rw[List.length_append] at h1
 have hp:=(Jqy hc).1
 obtain⟨g,rfl⟩:∃g,f'=g+1:=⟨f'-1,by omega⟩
 show(Jb5 (g+1) (K3 (l.getD (r+1) ev0)++10::cat (l.drop (r+2))) _ ([]++l.take r)).2.2=11
 have hnum:=Jka j.num hr
 have e:Ky (bs (K3 (l.getD (r+1) ev0))) ((([]++l.take r).length:Int)+1)=(l.getD (r+1) ev0,11):=by
  unfold Ky
  rw[Jrd hc]
  dsimp only
  rw[if_pos rfl,hnum,List.nil_append,List.length_take]
  have:min r l.length=r:=by omega
  rw[this,show((0:Nat):Int)+((r+1:Nat):Int)+1 !=(r:Int)+1 from bne_iff_ne.2 (by omega)]
  rfl
 rw[Jbh (Jf3 hc),e]
 dsimp only
 rw[if_pos (by decide)]
theorem J2j (e:Ev):Jlf e=bs (Ju6 e):=by
 unfold Jlf
 congr 1
 have h:=Fl e
 rw[h,List.drop_append,List.drop_eq_nil_of_le (by simp),List.nil_append]
 rw[show(Vj e.1).size+1-(Vj e.1).data.toList.length=1 by simp]
 rfl
theorem Jxw {e:Ev} (hc:Jb e=0):(Jlf e).size≤400:=by
 have:=Jc2 hc
 unfold Jlf
 rw[Kc,List.length_drop]
 have:(Jp e).data.toList.length=(Jp e).size:=by simp
 omega
theorem Ked {h:Ka} {e:Ev} (ha:K9 h e=0) (hl:h.1.length<1000):doF h (Jlf e)=(Ho h e,J68 ((h.1.length:Int)+1),0):=by
 obtain⟨hc,hacc⟩:=add_zero ha
 have hW:doW (Jlf e)=e.2.1::Ja7 e:=by
  have:doW (Jlf e)=(Ja3 32 (Jlf e).data.toList).map bs:=Lq _ 32
  rw[this,J2j,←Jcb hc]
  rfl
 have hk:U8 e.2.1=true:=(J6 hc).kind
 have hne:((Jlf e).toList==Ja.toList)=false:=by
  cases q:(Jlf e).toList==Ja.toList with
  |false=>rfl
  |true=>
   have:=Yr q
   rw[this] at hW
   have h2:doW Ja=[Ja]:=by kernel_rfl
   rw[h2] at hW
   have h3:Ja=e.2.1:=(List.cons.inj hW).1
   rw[←h3] at hk
   exact absurd hk (by rw[show U8 Ja=false by kernel_rfl];decide)
 have h1:do1 (Jlf e)=0:=by
  unfold do1
  have:=Jxw hc
  rw[hne,decide_eq_false (by omega)]
  rfl
 have hq:Fy e.2.1=false:=by
  rcases Ut hk with h|h|h|h|h|h|h|h|h|h|h<;>rw[h]<;>kernel_rfl
 have hr:=(Jp3 hc).2
 have h2:do2 h (doW (Jlf e))=0:=by
  unfold do2
  rw[hW,hr,decide_eq_false (by omega)]
  rfl
 have hev:evD h (doW (Jlf e))=e:=by
  unfold evD
  rw[hW,hr]
  show((h.1.length:Int)+1,e.2)=e
  rw[←Jzb hacc]
 have hq2:¬Fy ((doW (Jlf e)).getD 0 Ja)=true:=by rw[hW];show ¬Fy e.2.1=true;rw[hq];simp
 have hk2:¬U8 ((doW (Jlf e)).getD 0 Ja)=false:=by rw[hW];show ¬U8 e.2.1=false;rw[hk];simp
 unfold doF
 rw[if_neg (by rw[h1];simp),if_neg hq2,if_neg hk2,if_neg (by rw[h2];simp),hev,if_neg (by rw[ha];simp)]
end Go.Proofs.YtcibbcfiemeoiaaGreatDoor

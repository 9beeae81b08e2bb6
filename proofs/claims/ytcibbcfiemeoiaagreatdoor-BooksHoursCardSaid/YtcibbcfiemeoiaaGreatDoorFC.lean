/- Contracts of the functions that the law reaches: part of the proof. -/
import Derived.Test.YtcibbcfiemeoiaaGreatDoorFB
set_option linter.unusedSimpArgs false
set_option linter.unusedVariables false
set_option maxRecDepth 20000
namespace Go.Proofs.YtcibbcfiemeoiaaGreatDoor
open Go.Sx
set_option maxHeartbeats 20000000
abbrev Spn:=Int×Int
def J1u:={x:Spn// -1000000000≤x.1∧x.1≤1000000000}
instance:Inhabited J1u:=⟨⟨(0,0),by decide,by decide⟩⟩
def Jr3 (x:J1u):List Value:=[.int .i64 x.1.1, .int .i64 x.1.2]
def Jvv (x y:J1u):Int:=x.1.1-y.1.1
theorem Je1 {a b:J1u}:Proofs.ltOf Jvv a b=false↔b.1.1≤a.1.1:=by
 unfold Proofs.ltOf Jvv
 simp only[decide_eq_false_iff_not]
 omega
theorem Jnh (a b:J1u):Proofs.ltOf Jvv a b=true↔a.1.1<b.1.1:=by
 unfold Proofs.ltOf Jvv
 simp only[decide_eq_true_iff]
 omega
theorem K39:Sort.SWO (Proofs.ltOf Jvv) where
 irrefl x:=Je1.2 (Int.le_refl _)
 trans x y z h1 h2:=(Jnh x z).2 (Int.lt_trans ((Jnh x y).1 h1) ((Jnh y z).1 h2))
 ntrans x y z h1 h2:=Je1.2 (Int.le_trans (Je1.1 h2) (Je1.1 h1))
theorem Jjs (M:Nat→Prop) (w:World) (x:J1u) (cs:List Value):Rep M w Hv x.1 cs↔cs=Jr3 x:=by
 constructor
 ·rintro⟨a,b,rfl,ha,hb⟩
  have ha:a=[.int .i64 x.1.1]:=ha
  have hb:b=[.int .i64 x.1.2]:=hb
  subst ha;subst hb;rfl
 ·rintro rfl
  exact⟨_,_,rfl,rfl,rfl⟩
theorem Jvu (w:World) (x y:J1u) (hG:Sx.Good Tryz.prog w):Calls Tryz.prog 98 #[.agg (Jr3 x).toArray, .agg (Jr3 y).toArray] w fun e w'=>e= .returned (.int .i64 (Jvv x y))∧RowKit.Below w.heap.size w w'∧w.drawn≤w'.drawn:=by
 have h:=(@Cmp.ok98 .on).2.2.2 rfl (x.1,y.1,()) (fun _=>False) (fun _=>False) w [.agg (Jr3 x).toArray, .agg (Jr3 y).toArray] (fun b hb=>by rcases hb with hb|hb<;>exact hb.elim) hG.on ⟨x.2,y.2⟩ ⟨_,_,rfl,⟨Jr3 x,rfl,(Jjs _ _ _ _).2 rfl⟩,_,_,rfl,⟨Jr3 y,rfl,(Jjs _ _ _ _).2 rfl⟩,rfl⟩
 refine h.mono ?_
 rintro e w' ⟨M',vs,rfl,hb,_,_,hr⟩
 obtain⟨v,vs',rfl,⟨cs,rfl,hc⟩,hr⟩:=hr
 have hc:cs=[.int .i64 (Jvv x y)]:=hc
 have hr:vs'=[]:=hr
 subst hc;subst hr
 exact⟨rfl,@Sx.Below.kit .on _ _ _ hb,hb.dr⟩
theorem Jzq (w:World):(isAgg 117).run Tryz.prog w= .ok true w:=by kernel_rfl
theorem Jtt (w:World):(Go.sizeOf 117).run Tryz.prog w= .ok 2 w:=by kernel_rfl
theorem J92 (g cap:Nat) (d:Array J1u) (w:World) (hH:Sort.HoldsK Jr3 2 w g 0 d) (hg:g<w.heap.size) (hd:d.size<4611686018427387904) (hc:Proofs.CmpLays Tryz.prog 98 #[] Jr3 2 Jvv g 0 d.size w):
  Calls Tryz.prog 97 #[.slice (some ⟨g,0,none⟩) d.size cap, .func (.func 98) #[] #[]] w fun e w'=>e= .returned (.tuple #[])∧∃d' n os,Sort.PermIn 0 d.size d d'∧Sort.SortedIn (Proofs.ltOf Jvv) 0 d.size d'∧w'=Proofs.sortWorldK Jr3 2 w g 0 n d' os:=by
 have eg:∀args w,(callFunc 98 args).run Tryz.prog w= .ok (.enter 98 args) w:=Proofs.enters_of Tryz.func98 (by kernel_rfl) rfl
 exact Proofs.AnyQ.slices_SortFunc Proofs.Tryz.sortS 2 Jzq Jtt Jr3 (fun _=>rfl) (fun x v hv=>by simp[Jr3] at hv;rcases hv with rfl|rfl<;>rfl) Jvv K39 98 #[] g 0 cap d w eg hc hH hg hd
theorem Jm1 (w:World):Calls Tryz.prog 97 #[.slice none 0 0, .func (.func 98) #[] #[]] w fun e w'=>e= .returned (.tuple #[])∧w'=w:=
 Proofs.AnyF.slices_SortFunc_none Proofs.Tryz.sortS none 0 _ w
def Kf7 (l:List Spn):Prop:=(∀x∈l,-1000000000≤x.1∧x.1≤1000000000)∧l.length≤1000000
def J3w (xs ys:List Spn):Prop:=ys.Perm xs∧ys.Pairwise fun a b=>a.1≤b.1
theorem Jpf {p:Spn→Prop}:∀l:List Spn,(∀x∈l,p x)→∃zs:List {x:Spn//p x},l=zs.map Subtype.val
 |[],_=>⟨[],rfl⟩
 |x::l,h=>by
  obtain⟨zs,e⟩:=Jpf l fun y hy=>h y (List.mem_cons_of_mem _ hy)
  exact⟨⟨x,h x (List.mem_cons_self ..)⟩::zs,by rw[List.map_cons,←e]⟩
theorem Jts:Jxs Tryz.prog 97 {T:=117,s:=Hv,g:=98,pre:=Kf7,f:=id,rel:=some J3w}:=
 Jy0 (s:=Hv) (T:=117) (β:=J1u) (k:=2) Subtype.val Jr3 (fun _=>rfl) rfl Jjs Jvv Kf7 id J3w J92 Jm1 Jvu
  (fun xs h=>Jpf xs h.1)
  (fun xs ys hp hs=>⟨hp.map _,List.pairwise_map.2 (hs.imp fun h=>Je1.1 h)⟩)
  (fun xs h=>h.2)
def Kav:Con:={args:=[],ress:=[],owns:=[],pre:=fun _=>[False],spec:=fun _=>(),srt:=some {T:=117,s:=Hv,g:=98,pre:=Kf7,f:=id,rel:=some J3w}}
theorem K4d:Ok Tryz.prog 97 Kav:=⟨⟨Tryz.f97,by kernel_rfl,by kernel_rfl,by kernel_rfl⟩,fun z hz=>(by cases hz;exact Jts),fun F hF=>(by cases hF),fun h=>by cases h⟩
abbrev K2m:=K67.add K4d
def J42:Con:={args:=[.val false (.list 188 X6), .fn [(true,X6)] (true,Hv)],ress:=[(false, .list 117 Hv)],owns:=[true],pre:=fun(l,(q,_),_)=>[l.length≤1000000,∀x∈l,Uq (q (x,()))],spec:=fun(l,(_,f),_)=>(l.map fun x=>f (x,()),())}
def J81 (a:Out×Unit→Spn) (b:Nat) (c:List Out):=List.map (fun(x:Out)=>a (x,PUnit.unit)) (List.take b c)
theorem K4h:Ok Tryz.prog 93 J42:=okW K2m Tryz.f93 (fun xx=>Xr (Jba 188 117 X6 xx.1 (true,Hv) true xx.2.1.1 xx.2.1.2)) fun xx=>by
 obtain⟨(l:List Out),⟨(q:Out×Unit→List Prop),(f:Out×Unit→Spn)⟩,_⟩:=xx
 refine(by kernel_rfl:(Z48 l→J20 l q→∃(x:Nat),Si (Ln l) (0=Nc x∧Sf l ((fun(x:Out×PUnit)=>q x)=q∧(fun(x:Out×PUnit)=>f x)=f∧List.length (J81 f x l)=0))∧x≤List.length l∧∀(x:Nat),x≤List.length l→Br (Z93 x l) (Tw (Z14 x l)∧(J2v q l x∧(List.length (J81 f x l)+1)*16≤140737488355328)∧Z16 x∧∃(y:Nat),Si (Ln l) (Z82 x y∧Sf l ((fun(x:Out×PUnit)=>q x)=q∧(fun(x:Out×PUnit)=>f x)=f∧J81 f x l++[E2 (f (J2w l x))]=J81 f y l))∧J6b y l x) (J81 f x l=List.map (fun(x:Out)=>f (x,PUnit.unit)) l))=_).mp ?_
 delta Z14 Z16 Z48 Z82 Z93 Jdd Jyf J00 J0z J23 J81 J6b J20 J8b J2w J2v Br Iw Bd Tw Sf Si Ln Nc B0 E2
 intro hb hq
 refine⟨(0:Nat),⟨rfl,rfl,rfl,rfl,rfl,by simp⟩,Nat.zero_le _,fun(k:Nat) hk=>⟨fun h=> ?_,fun h=> ?_⟩⟩
 ·have hlt:k<l.length:=by simpa using h
  refine⟨by omega,⟨hq (l.getD k Jbd) (Jc hlt),by simp only[List.length_map,List.length_take];omega⟩,by omega,(k+1:Nat),⟨rfl,by simp,rfl,rfl,rfl, ?_⟩,by omega,by omega⟩
  rw[←U5 (d:=Jbd) hlt,List.map_append];rfl
 ·have hlt:¬k<l.length:=by simpa using h
  rw[List.take_of_length_le (by omega)]
abbrev K2l:=K2m.add K4h
def K6h:Con:={args:=[.val true X6, .ref 9 .str],ress:=[Bo],owns:=[],pre:=fun _=>[],spec:=fun(x,s,_)=>(x.2.1.toList==s.toList,())}
theorem K4f:Ok Tryz.prog 95 K6h:=okW K2l Tryz.f95 na fun xx=>by
 obtain⟨⟨(n:ByteArray),(f:ByteArray),⟨(a:Int),(b:Int)⟩,(p:Int)⟩,(s:ByteArray),_⟩:=xx
 refine(by kernel_rfl:(Lb f s=Lb f s)=_).mp ?_
 delta Lb
 rfl
abbrev K2k:=K2l.add K4f
def K6g:Con:={args:=[.val true X6],ress:=[(true,Hv)],owns:=[],pre:=fun _=>[],spec:=fun(x,_)=>(x.2.2.1,())}
theorem K4e:Ok Tryz.prog 96 K6g:=okW K2k Tryz.f96 na fun xx=>by
 obtain⟨⟨(n:ByteArray),(f:ByteArray),⟨(a:Int),(b:Int)⟩,(p:Int)⟩,_⟩:=xx
 refine(by kernel_rfl:((a,b)=(a,b))=_).mp ?_
 rfl
abbrev K2j:=K2k.add K4e
def avL (st:Int):List Spn→Int×Int→Int×Int
 |[],a=>a
 |s::l,(n,last)=>avL st l (n-max 0 (min s.2 st-max s.1 last),max last (min s.2 st))
theorem J5l {st:Int} {a b:Spn} {l:List Spn} {p:Int×Int} (h:a.1=b.1):avL st (a::b::l) p=avL st (b::a::l) p:=by
 obtain⟨n,last⟩:=p
 simp only[avL]
 congr 1
 refine Prod.ext ?_ ?_<;>dsimp only<;>omega
theorem Jp3 {st:Int} {x:Spn} {bs:List Spn}:∀{us:List Spn} {p:Int×Int},(∀y∈us,y.1=x.1)→avL st (us++x::bs) p=avL st (x::(us++bs)) p
 |[],_,_=>rfl
 | y :: us, (n, last), h => by
  have h1:=Jp3 (st:=st) (x:=x) (bs:=bs) (us:=us) (p:=(n-max 0 (min y.2 st-max y.1 last),max last (min y.2 st))) fun z hz=>h z (List.mem_cons_of_mem _ hz)
  have e:avL st (y::(us++x::bs)) (n,last)=avL st (y::x::(us++bs)) (n,last):=by
   simp only[avL] at h1⊢
   exact h1
  rw[List.cons_append,e,J5l (h y (List.mem_cons_self ..)),List.cons_append]
theorem Jwq {st:Int}:∀{xs ys:List Spn} {p:Int×Int},ys.Perm xs→(xs.Pairwise fun a b=>a.1≤b.1)→(ys.Pairwise fun a b=>a.1≤b.1)→avL st ys p=avL st xs p
 |[],ys,p,h,_,_=>by rw[List.Perm.eq_nil h]
 | x :: xs, ys, (n, last), h, h1, h2 => by
  have hx:x∈ys:=h.mem_iff.2 (List.mem_cons_self ..)
  obtain⟨us,bs,rfl⟩:=List.append_of_mem hx
  have h1:=List.pairwise_cons.1 h1
  have h2':=List.pairwise_append.1 h2
  have hk:∀y∈us,y.1=x.1:=fun y hy=>by
   have a1:=h2'.2.2 y hy x (List.mem_cons_self ..)
   have:y∈x::xs:=h.mem_iff.1 (List.mem_append_left _ hy)
   rcases List.mem_cons.1 this with rfl|hm
   ·rfl
   ·have:=h1.1 y hm
    omega
  rw[Jp3 hk]
  have hp:(us++bs).Perm xs:=((List.perm_middle (a:=x) (l₁:=us) (l₂:=bs)).symm.trans h).cons_inv
  have hs:(us++bs).Pairwise fun a b=>a.1≤b.1:=List.Pairwise.sublist (List.Sublist.append (List.Sublist.refl _) (List.sublist_cons_self ..)) h2
  show avL st (us++bs) _=avL st xs _
  exact Jwq hp h1.2 hs
def J4i (x:Spn):List Spn→List Spn
 |[]=>[x]
 |y::r=>if x.1≤y.1 then x::y::r else y::J4i x r
def Jy1:List Spn→List Spn
 |[]=>[]
 |x::r=>J4i x (Jy1 r)
theorem Je5 (x:Spn):∀l,(J4i x l).Perm (x::l)
 |[]=> .refl _
 |y::r=>by
  simp only[J4i]
  split
  ·exact .refl _
  ·exact((Je5 x r).cons y).trans (.swap x y r)
theorem Jg2:∀l,(Jy1 l).Perm l
 |[]=> .refl _
 |x::r=>(Je5 x _).trans ((Jg2 r).cons x)
theorem Je4 {x:Spn}:∀{l:List Spn},(l.Pairwise fun a b=>a.1≤b.1)→(J4i x l).Pairwise fun a b=>a.1≤b.1
 |[],_=>by simp[J4i]
 | y :: r, h => by
  have h0:=List.pairwise_cons.1 h
  simp only[J4i]
  split
  ·rename_i hlt
   refine List.pairwise_cons.2 ⟨fun z hz=> ?_,h⟩
   rcases List.mem_cons.1 hz with rfl|hz
   ·exact hlt
   ·exact Int.le_trans hlt (h0.1 z hz)
  ·rename_i hlt
   refine List.pairwise_cons.2 ⟨fun z hz=> ?_,Je4 h0.2⟩
   rcases List.mem_cons.1 ((Je5 x r).mem_iff.1 hz) with rfl|hz
   ·omega
   ·exact h0.1 z hz
theorem Jci:∀{l:List Spn},(Jy1 l).Pairwise fun a b=>a.1≤b.1
 |[]=> .nil
 |x::r=>Je4 Jci
def Jk9 (X:List Out) (s:ByteArray):List Spn:=(X.filter fun x=>x.2.1.toList==s.toList).map fun x=>x.2.2.1
def avN (st:Int) (X:List Out) (s:ByteArray):Int:=(avL st (Jy1 (Jk9 X s)) (st,0)).1
def avE (l:List Ev) (s:ByteArray):Int:=Jg [opE l [s],bif (Ji l).2.1==0 then 6 else 0]
def avP (l:List Ev) (s:ByteArray):Int×Int:=if avE l s=0 then J2e (avN (Ji l).2.1 (Ji l).2.2.2.2.2.1 s) (Ji l).2.1 else(0,0)
def Kq0:Con:={args:=[.val false (.list 67 sEv),aS],ress:=[(true,Hv),I],owns:=[],pre:=fun(l,_)=>[lOk l],spec:=fun(l,s,_)=>(avP l s,avE l s,())}
abbrev Kq8 (l:List Ev) (s:ByteArray):Ann:={X:=Nat×Int×Int×List Spn,σ:=fun(k,n,last,ys)=>⟨14,[(4, .one (.ptr 2 0)),(6, .one (.ptr 9 0)),(9, .one (.int .i64 n)),(11, .one (.int .i64 last)),(43, .one (.sl 13)),(44, .one (.int .i64 ys.length)),(45, .one (.int .i64 k))],[(2, .box 54 [.int .i64 0, .int .i64 0]),(9, .box 105 [.int .i64 (Ji l).1, .int .i64 (Ji l).2.1, .sl 4, .sl 5, .sl 6, .sl 7, .sl 8]),(4, .imm 127 Dk (Ji l).2.2.1),(5, .imm 130 Hk (Ji l).2.2.2.1),(6, .imm 155 Dx (Ji l).2.2.2.2.1),(7, .imm 188 X6 (Ji l).2.2.2.2.2.1),(8, .imm 235 Zy (Ji l).2.2.2.2.2.2),(13, .own 117 Hv ys)]⟩,inv:=fun(k,n,last,ys)=>k≤ys.length∧J3w (Jk9 (Ji l).2.2.2.2.2.1 s) ys∧(0≤last∧last≤(Ji l).2.1)∧((Ji l).2.1-last≤n∧n≤(Ji l).2.1)∧avL (Ji l).2.1 (ys.drop k) (n,last)=avL (Ji l).2.1 ys ((Ji l).2.1,0),mu:=fun(k,_,_,ys)=>ys.length-k}
def Kfo (a:List Ev):=List.length (Ji a).2.2.2.2.2.1≤1000000
def K0k (a:Nat×Int×Int×List Spn) (b:List Ev):=min (List.getD a.2.2.2 a.1 (0,0)).2 (Ji b).2.1
def Kzq (a:List Ev) (b:Bt):=Jg [opE a [b],bif (Ji a).2.1==0 then 6 else 0]
def Kit (a:Bt) (b:List Ev):=List.filter (fun(x:Out)=>List.beq (ByteArray.toList x.2.1) (ByteArray.toList a)) (Ji b).2.2.2.2.2.1
def Kv8 (a:Bt) (b:List Ev):=List.map (fun(x:Out)=>x.2.2.1) (Kit a b)
def Kvw (a:Nat×Int×Int×List Spn) (b:List Ev):=K0k a b-max (List.getD a.2.2.2 a.1 (0,0)).1 a.2.2.1
def Ku0 (a:Nat×Int×Int×List Spn) (b:List Ev):=a.2.1-max 0 (Kvw a b)
def Kua (a:Nat×Int×Int×List (Int×Int)) (b:List Ev) (c:Bt):=a.1≤List.length a.2.2.2∧J3w (Jk9 (Ji b).2.2.2.2.2.1 c) a.2.2.2∧(0≤a.2.2.1∧a.2.2.1≤(Ji b).2.1)∧((Ji b).2.1-a.2.2.1≤a.2.1∧a.2.1≤(Ji b).2.1)∧avL (Ji b).2.1 (List.drop a.1 a.2.2.2) (a.2.1,a.2.2.1)=avL (Ji b).2.1 a.2.2.2 ((Ji b).2.1,0)
theorem K5g:Ok Tryz.prog 27 Kq0:=Jzd K2j Tryz.f27 (U1 (l:=([]:List (Nat×Func))) (by simp)) (fun xx=>Xr (Kq8 xx.1 xx.2.1)) (fun xx=>fun _=>na ()) fun xx=>by
 obtain⟨(l:List Ev),(s:ByteArray),_⟩:=xx
 refine(by kernel_rfl:(lOk l→(lOk l∧1≤1000000)∧2≤1000000∧Br (Kzq l s !=0) (Sf true ((0,0)=avP l s∧Kzq l s=avE l s)) ((Kfo l∧(∀(x:Out),x∈(Ji l).2.2.2.2.2.1→True)∧List.length (Kit s l)≤1000000∧∀(x:Out),x∈Kit s l→True)∧Kf7 (Kv8 s l)∧∀(ys:List (Int×Int)),J3w (Kv8 s l) ys→∃(x:Nat×Int×Int×List (Int×Int)),((Ji l).2.1=x.2.1∧0=x.2.2.1∧Ln ys=Ln x.2.2.2∧0=Nc x.1∧Si 0 (Si 0 ((Ji l).1=(Ji l).1∧(Ji l).2.1=(Ji l).2.1∧J1a l∧J09 l∧J07 l∧J05 l∧J06 l∧ys=x.2.2.2)))∧Kua x l s∧∀(x:Nat×Int×Int×List Spn),x.1≤List.length x.2.2.2∧J3w (Jk9 (Ji l).2.2.2.2.2.1 s) x.2.2.2∧(0≤x.2.2.1∧x.2.2.1≤(Ji l).2.1)∧((Ji l).2.1-x.2.2.1≤x.2.1∧x.2.1≤(Ji l).2.1)∧avL (Ji l).2.1 (List.drop x.1 x.2.2.2) (x.2.1,x.2.2.1)=avL (Ji l).2.1 x.2.2.2 ((Ji l).2.1,0)→Br (decide (Nc x.1<Ln x.2.2.2)) (Tw (Bd (Nc x.1) (Ln x.2.2.2))∧(Iw (Kvw x l)∧Iw (Ku0 x l))∧Iw (Nc x.1+1)∧∃(y:Nat×Int×Int×List (Int×Int)),(Ku0 x l=y.2.1∧max x.2.2.1 (K0k x l)=y.2.2.1∧Ln x.2.2.2=Ln y.2.2.2∧Nc x.1+1=Nc y.1∧Si 0 (Si 0 (Si (Ji l).1 (Si (Ji l).2.1 (J1a l∧J09 l∧J07 l∧J05 l∧J06 l∧x.2.2.2=y.2.2.2)))))∧Kua y l s∧List.length y.2.2.2-y.1<List.length x.2.2.2-x.1) (((0≤x.2.1∧x.2.1≤1000000000000)∧1≤(Ji l).2.1∧(Ji l).2.1≤1000000000000)∧Sf true (E2 (J2e x.2.1 (Ji l).2.1)=avP l s∧0=avE l s))))=_).mp ?_
 delta J1a J09 J07 J06 J05 Kfo K0k Kzq Kit Kv8 Kvw Ku0 Kua Br Iw Bd Tw Sf Si Ln Nc E2
 intro hl
 have hr:=Fw (l:=l)
 have hz:Jk9 (Ji l).2.2.2.2.2.1 s=List.map (fun x=>x.2.2.1) (List.filter (fun x=>x.2.1.toList.beq s.toList) (Ji l).2.2.2.2.2.1):=rfl
 rw[←hz]
 have nX:(Ji l).2.2.2.2.2.1.length≤16:=hr.nX
 have hX:∀x∈Jk9 (Ji l).2.2.2.2.2.1 s,Jmd x:=fun x hx=>by
  obtain⟨y,hy,rfl⟩:=List.mem_map.1 hx
  exact(hr.out y (List.mem_filter.1 hy).1).span
 have hlen:(Jk9 (Ji l).2.2.2.2.2.1 s).length≤16:=by
  unfold Jk9
  rw[List.length_map]
  exact Nat.le_trans (List.length_filter_le _ _) nX
 have hst:=hr.st
 have htk:=hr.tk
 refine⟨⟨hl,by decide⟩,by decide,fun h=> ?_,fun h=>⟨⟨Nat.le_trans nX (by decide),fun _ _=>trivial,Nat.le_trans (List.length_filter_le _ _) (Nat.le_trans nX (by decide)),fun _ _=>trivial⟩,⟨fun x hx=> ?_,by omega⟩,fun ys hy=>⟨((0:Nat),(Ji l).2.1,0,ys),by(repeat' first|exact rfl|exact⟨⟩|apply And.intro|omega|dsimp only;omega),⟨Nat.zero_le _,hy,by(first|omega|dsimp only;omega),by(first|omega|dsimp only;omega),rfl⟩,fun(x:Nat×Int×Int×List Spn) hk=>⟨fun h1=> ?_,fun h1=> ?_⟩⟩⟩⟩
 ·have h:avE l s≠0:=bne_iff_ne.1 h
  refine⟨rfl, ?_,rfl⟩
  unfold avP;rw[if_neg h]
 ·have:=hX x hx
  have h1:=this.lo
  have h2:=this.mid
  have h3:=this.hi
  omega
 ·obtain⟨k,n,last,ys⟩:=x
  obtain⟨k1,k2,k3,k4,k5⟩:=hk
  have hlt:k<ys.length:=by simpa using h1
  have hx:=hX _ (k2.1.mem_iff.1 (Jc (d:=((0:Int),(0:Int))) hlt))
  have x1:=hx.lo
  have x2:=hx.mid
  have x3:=hx.hi
  dsimp only at k1 k2 k3 k4 k5
  rw[Jq (d:=((0:Int),(0:Int))) hlt,avL] at k5
  have hln:ys.length≤16:=by rw[k2.1.length_eq];exact hlen
  dsimp only
  generalize ys.getD k (0,0)=y at x1 x2 x3 k5⊢
  obtain⟨a,b⟩:=y
  dsimp only at x1 x2 x3 k5⊢
  refine⟨by omega,by omega,by omega,(k+1,n-max 0 (min b (Ji l).2.1-max a last),max last (min b (Ji l).2.1),ys),by(repeat' first|exact rfl|exact⟨⟩|apply And.intro|omega|dsimp only;omega),⟨by(first|omega|dsimp only;omega),k2,by(first|omega|dsimp only;omega),by(first|omega|dsimp only;omega),k5⟩,by(first|omega|dsimp only;omega)⟩
 ·obtain⟨k,n,last,ys⟩:=x
  obtain⟨k1,k2,k3,k4,k5⟩:=hk
  have hlt:¬k<ys.length:=by simpa using h1
  dsimp only at k1 k2 k3 k4 k5
  have e:k=ys.length:=by omega
  rw[e,List.drop_length,avL] at k5
  have h:avE l s=0:=bne_eq_false_iff_eq.1 h
  have hs:(Ji l).2.1≠0:=fun h0=>by
   have:=(Xp h).2
   rw[h0] at this
   exact absurd this (by decide)
  have e2:avN (Ji l).2.1 (Ji l).2.2.2.2.2.1 s=n:=by
   unfold avN
   rw[Jwq (k2.1.trans (Jg2 _).symm) Jci k2.2] at k5
   rw[←k5]
  refine⟨⟨by(first|omega|dsimp only;omega),by omega⟩,rfl, ?_,h.symm⟩
  unfold avP
  rw[if_pos h,e2]
abbrev K2i:=K2j.add K5g
def Jz7:Con:={args:=[aI],ress:=[tS],owns:=[],pre:=fun(n,_)=>[-(10^17:Int)<n,n<10^18],spec:=fun(n,_)=>(X5 n,())}
def Kko:=10^18
def K0f (a:Int):=a<Kko
def Kje:= -10^17
def Ky7 (a:Int):=Kje<a
theorem Kpp:Ok Tryz.prog 117 Jz7:=okW K2i Tryz.f117 na fun xx=>by
 obtain⟨(n:Int),_⟩:=xx
 refine(by kernel_rfl:(Ky7 n→K0f n→(17≤18∧Ky7 n∧K0f n)∧X5 n=X5 n)=_).mp ?_
 delta Kko K0f Kje Ky7
 intro h1 h2
 exact⟨⟨by decide,h1,h2⟩,rfl⟩
abbrev K2h:=K2i.add Kpp
def Jug (s:ByteArray) (j:Nat):ByteArray:=bs (List.replicate j 48++Lib.itoa (Jgf s))
abbrev J0n (s:ByteArray):Nat→Option Ann:=fun id=>if id=0 then some {X:=Nat×Int,σ:=fun(k,x)=>⟨0,[(0, .one (.str s)),(3, .one (.int .i64 x)),(4, .one (.int .i64 k))],[]⟩,inv:=fun(k,x)=>k≤s.size∧(0≤x∧x<9999721)∧Jsn (s.data.toList.drop k) x=Jgf s,mu:=fun(k,_)=>s.size-k}
 else if id=2 then some {X:=Nat,σ:=fun j=>⟨0,[(5, .one (.str (Jug s j)))],[]⟩,inv:=fun j=>j+(Lib.itoa (Jgf s)).length≤7,mu:=fun j=>7-j} else none
def Klh (a:Nat) (b:Bt):=a+List.length (Lib.itoa (Jgf b))≤7
theorem K44:Ok Tryz.prog 67 K1v:=okW K2h Tryz.f67 (fun xx=>J0n xx.1) fun xx=>by
 obtain⟨(s:ByteArray),_⟩:=xx
 refine(by kernel_rfl:(ByteArray.size s≤1000000→∃(x:Nat×Int),Sf s (1=x.2∧0=Nc x.1)∧J58 x s∧∀(x:Nat×Int),J58 x s→Br (decide (Nc x.1<Nc (ByteArray.size s))) (Kgy x s∧Z37 x∧∃(y:Nat×Int),Sf s (Kjb x s y∧Jsd x y)∧Khv y s x) ((Kje<x.2∧x.2<Kko)∧∃(x_1:Nat),X5 x.2=Jug s x_1∧Klh x_1 s∧∀(x:Nat),Klh x s→Br (decide (Nc (ByteArray.size (Jug s x))<7)) (Nc (1+ByteArray.size (Jug s x))≤9223372036854775807∧∃(y:Nat),ByteArray.mk (Array.mk (48::([]++(Jug s x).data.toList)))=Jug s y∧Klh y s∧7-y<7-x) (Jug s x=Joo s)))=_).mp ?_
 delta Z13 Z37 Jsd Klh Kkp Kko Kje Kjb J58 Khv Kgy Br Iw Bd Sf Nc
 intro hs
 refine⟨((0:Nat),(1:Int)),by(repeat' first|exact rfl|exact⟨⟩|apply And.intro|omega|dsimp only;omega),⟨Nat.zero_le _,by(first|omega|dsimp only;omega),rfl⟩,fun(y:Nat×Int) hk=>⟨fun h=> ?_,fun h=> ?_⟩⟩
 ·obtain⟨k,x⟩:=y
  have hlt:k<s.size:=by simpa using h
  obtain⟨k1,k2,k3⟩:=hk
  dsimp only at k1 k2
  rw[Dg hlt,Jsn] at k3
  have hb:=Jwf s k
  refine⟨by(repeat' first|apply And.intro|(first|omega|dsimp only;omega)),by(repeat' first|apply And.intro|(first|omega|dsimp only;omega)),(k+1,(341*x+((s.data.toList.getD k 0).toNat:Int)).tmod 9999721),by(repeat' first|exact rfl|exact⟨⟩|apply And.intro|omega|dsimp only;omega),⟨by(first|omega|dsimp only;omega),⟨Int.tmod_nonneg _ (by omega),Int.tmod_lt_of_pos _ (by decide)⟩,k3⟩,by(first|omega|dsimp only;omega)⟩
 ·obtain⟨k,x⟩:=y
  have hlt:¬k<s.size:=by simpa using h
  obtain⟨k1,k2,k3⟩:=hk
  have e:k=s.size:=by omega
  rw[e,List.drop_eq_nil_of_le (by simp),Jsn] at k3
  have k3:x=Jgf s:=k3
  have hl:=Jih s
  dsimp only
  rw[k3]
  have hb:=Jmy s
  have hsz:∀j,(Jug s j).size=j+(Lib.itoa (Jgf s)).length:=fun j=>by
   unfold Jug
   rw[Xk,List.length_append,List.length_replicate]
  refine⟨⟨by omega,by omega⟩,(0:Nat),rfl,by omega,fun(j:Nat) hj=>⟨fun h=> ?_,fun h=> ?_⟩⟩
  ·have h:((Jug s j).size:Int)<7:=of_decide_eq_true h
   have hz:=hsz j
   refine⟨by omega,j+1,rfl,by omega,by omega⟩
  ·have h:¬((Jug s j).size:Int)<7:=of_decide_eq_false h
   have hz:=hsz j
   have:j=7-(Lib.itoa (Jgf s)).length:=by omega
   rw[this];rfl
abbrev K2g:=K2h.add K44
theorem Jln:∀{l:List (List UInt8)} {b:Nat},(∀x∈l,x.length≤b)→(Lib.join l []).length≤b*l.length
 |[],_,_=>by simp[Lib.join,List.intercalate]
 |[x],b,h=>by
  have:=h x (List.mem_cons_self ..)
  simpa[Lib.join,List.intercalate,List.intersperse] using this
 |x::y::r,b,h=>by
  have ih:=Jln (l:=y::r) fun z hz=>h z (List.mem_cons_of_mem _ hz)
  have hx:=h x (List.mem_cons_self ..)
  have e:Lib.join (x::y::r) []=x++Lib.join (y::r) []:=by simp[Lib.join,List.intercalate,List.intersperse]
  rw[e,List.length_append,List.length_cons,Nat.mul_add]
  omega
def J5b:Con:={args:=[.ref 212 Jis],ress:=[(false, .list 67 sEv)],owns:=[],pre:=fun(h,_)=>[h.1.length≤1000,∀e∈h.1,Jfm e],spec:=fun(h,_)=>(h.1,())}
def Kig (a:List Ev):=∀(x:Ev),Jyg a x→J59 x
theorem K5a:Ok Tryz.prog 41 J5b:=okW K2g Tryz.f41 na fun xx=>by
 obtain⟨⟨(E:List Ev),(C:List Ev),(G:List Reg)⟩,_⟩:=xx
 refine(by kernel_rfl:(List.length E≤1000→(∀(e:Ev),Jyg E e→Jfm e)→Br false ([]=E) ((Z35 E∧Kig E)∧List.map (fun(x:Ev)=>x) E=E))=_).mp ?_
 delta Z35 Jyg J59 Kig Br
 intro h1 h2
 refine⟨fun h=>(nomatch h),fun _=>⟨⟨by omega,fun x hx=>⟨(h2 x hx).1,(h2 x hx).2.1⟩⟩,List.map_id' _⟩⟩
abbrev K2f:=K2g.add K5a
def Kp3 (l:List Ev):ByteArray:=Vt (l.map J3y) Ja
def K57:Con:={args:=[.ref 212 Jis],ress:=[tS],owns:=[],pre:=fun(h,_)=>[h.1.length≤1000,∀e∈h.1,Lw e],spec:=fun(h,_)=>(Kp3 h.1,())}
def Klm (a:List Ev):=List.map (fun(x:Ev)=>J3y x) a
def K04 (a:List Ev):=∀(x:Ev),Jyg a x→Lw x
theorem K49:Ok Tryz.prog 42 K57:=okW K2f Tryz.f42 na fun xx=>by
 obtain⟨⟨(E:List Ev),(C:List Ev),(G:List Reg)⟩,_⟩:=xx
 refine(by kernel_rfl:(List.length E≤1000→K04 E→Br false (B0=Kp3 E) ((Z35 E∧K04 E∧List.length (Klm E)≤1000000∧List.length (Lib.join (List.map (fun(x:ByteArray)=>Z13 x) (Klm E)) [])≤140737488355328)∧Vt (Klm E) B0=Kp3 E))=_).mp ?_
 delta Z13 Z35 Klm Jyg K04 Br B0
 intro h1 h2
 refine⟨fun h=>(nomatch h),fun _=>⟨⟨by omega,h2,by rw[List.length_map];omega, ?_⟩,rfl⟩⟩
 refine Nat.le_trans (Jln (b:=2000000) fun z hz=> ?_) ?_
 ·rw[List.map_map] at hz
  obtain⟨e,he,rfl⟩:=List.mem_map.1 hz
  have:=Juc (h2 e he)
  have:=Jp1 (h2 e he)
  show(J3y e).size≤2000000
  omega
 ·rw[List.length_map,List.length_map];omega
abbrev K66:=K2f.add K49
def Jrb:List Say:=[(⟨⟨[115,116,97,116,105,111,110,32,97,32,48,32,49,48]⟩⟩,⟨⟨[100,111,110,101,32,49]⟩⟩,0),(⟨⟨[115,116,97,116,105,111,110,32,98,32,48,32,56]⟩⟩,⟨⟨[100,111,110,101,32,50]⟩⟩,0),(⟨⟨[112,114,105,99,101,32,97,32,48,32,53]⟩⟩,⟨⟨[100,111,110,101,32,51]⟩⟩,0),(⟨⟨[111,114,100,101,114,32,111,49,32,97,32,98,32,49,32,50,32,53,32,54]⟩⟩,⟨⟨[100,111,110,101,32,52]⟩⟩,0),(⟨⟨[111,114,100,101,114,32,111,50,32,98,32,97,32,49,32,50,32,53,32,51]⟩⟩,⟨⟨[]⟩⟩,4),(⟨⟨[111,117,116,97,103,101,32,121,32,98,32,49,32,51,32,52,32,53]⟩⟩,⟨⟨[]⟩⟩,24),(⟨⟨[111,117,116,97,103,101,32,120,32,98,32,49,32,53,32,55,32,48]⟩⟩,⟨⟨[100,111,110,101,32,53]⟩⟩,0),(⟨⟨[112,101,114,109,105,116,32,112,32,120,32,53]⟩⟩,⟨⟨[100,111,110,101,32,54]⟩⟩,0),(⟨⟨[109,105,115,115,105,110,103]⟩⟩,⟨⟨[111,49,32,50,32,111,49,32,51,32,111,49,32,52]⟩⟩,0),(⟨⟨[111,117,116,97,103,101,115]⟩⟩,⟨⟨[120]⟩⟩,0),(⟨⟨[116,114,105,112,32,111,49,32,53]⟩⟩,⟨⟨[]⟩⟩,23),(⟨⟨[109,101,116,101,114,32,111,49,32,53,32,50,32,54,32,54]⟩⟩,⟨⟨[100,111,110,101,32,55]⟩⟩,0),(⟨⟨[109,101,116,101,114,32,111,49,32,53,32,51,32,54,32,53]⟩⟩,⟨⟨[100,111,110,101,32,56]⟩⟩,0),(⟨⟨[115,101,116,116,108,101,32,53,32,53]⟩⟩,⟨⟨[]⟩⟩,32),(⟨⟨[109,101,116,101,114,32,111,49,32,53,32,52,32,52,32,51]⟩⟩,⟨⟨[100,111,110,101,32,57]⟩⟩,0),(⟨⟨[109,105,115,115,105,110,103]⟩⟩,⟨⟨[110,111,110,101]⟩⟩,0),(⟨⟨[115,101,116,116,108,101,32,53,32,54]⟩⟩,⟨⟨[]⟩⟩,14),(⟨⟨[115,101,116,116,108,101,32,53,32,53]⟩⟩,⟨⟨[100,111,110,101,32,49,48]⟩⟩,0),(⟨⟨[117,110,100,111]⟩⟩,⟨⟨[]⟩⟩,21),(⟨⟨[98,105,108,108,32,111,49]⟩⟩,⟨⟨[51,32,49,54,32,49,52,32,55,48,32,49,50]⟩⟩,0),(⟨⟨[98,97,108,97,110,99,101,32,98]⟩⟩,⟨⟨[45,53,56]⟩⟩,0),(⟨⟨[114,97,116,101,32,97]⟩⟩,⟨⟨[53]⟩⟩,0),(⟨⟨[114,101,115,116,111,114,101,32,120,32,54]⟩⟩,⟨⟨[]⟩⟩,32),(⟨⟨[112,101,114,109,105,116,115]⟩⟩,⟨⟨[112]⟩⟩,0),(⟨⟨[114,101,116,117,114,110,32,112,32,54]⟩⟩,⟨⟨[100,111,110,101,32,49,49]⟩⟩,0),(⟨⟨[114,101,115,116,111,114,101,32,120,32,54]⟩⟩,⟨⟨[100,111,110,101,32,49,50]⟩⟩,0),(⟨⟨[115,101,116,116,108,101,32,56,32,56]⟩⟩,⟨⟨[100,111,110,101,32,49,51]⟩⟩,0),(⟨⟨[115,101,116,116,108,101,100]⟩⟩,⟨⟨[56]⟩⟩,0)]
def Fe:List Ev:=[(1,⟨⟨[115,116,97,116,105,111,110]⟩⟩,[⟨⟨[97]⟩⟩],[0,10],⟨⟨[]⟩⟩),(2,⟨⟨[115,116,97,116,105,111,110]⟩⟩,[⟨⟨[98]⟩⟩],[0,8],⟨⟨[]⟩⟩),(3,⟨⟨[112,114,105,99,101]⟩⟩,[⟨⟨[97]⟩⟩],[0,5],⟨⟨[]⟩⟩),(4,⟨⟨[111,114,100,101,114]⟩⟩,[⟨⟨[111,49]⟩⟩,⟨⟨[97]⟩⟩,⟨⟨[98]⟩⟩],[1,2,5,6],⟨⟨[]⟩⟩),(5,⟨⟨[111,117,116,97,103,101]⟩⟩,[⟨⟨[120]⟩⟩,⟨⟨[98]⟩⟩],[1,5,7,0],⟨⟨[]⟩⟩),(6,⟨⟨[112,101,114,109,105,116]⟩⟩,[⟨⟨[112]⟩⟩,⟨⟨[120]⟩⟩],[5],⟨⟨[]⟩⟩),(7,⟨⟨[109,101,116,101,114]⟩⟩,[⟨⟨[111,49]⟩⟩],[5,2,6,6],⟨⟨[]⟩⟩),(8,⟨⟨[109,101,116,101,114]⟩⟩,[⟨⟨[111,49]⟩⟩],[5,3,6,5],⟨⟨[]⟩⟩),(9,⟨⟨[109,101,116,101,114]⟩⟩,[⟨⟨[111,49]⟩⟩],[5,4,4,3],⟨⟨[]⟩⟩),(10,⟨⟨[115,101,116,116,108,101]⟩⟩,[],[5,5],⟨⟨[]⟩⟩),(11,⟨⟨[114,101,116,117,114,110]⟩⟩,[⟨⟨[112]⟩⟩],[6],⟨⟨[]⟩⟩),(12,⟨⟨[114,101,115,116,111,114,101]⟩⟩,[⟨⟨[120]⟩⟩],[6],⟨⟨[]⟩⟩),(13,⟨⟨[115,101,116,116,108,101]⟩⟩,[],[8,8],⟨⟨[]⟩⟩)]
def K1s:List Ev:=(Jdt Zz Jrb).1.2.1
def K1r:List Reg:=(Jdt Zz Jrb).1.2.2
theorem Jww:Jdt Zz Jrb=((Fe,K1s,K1r),true):=by kernel_rfl
def K6f:Xx:={T? :=some 212,s:=Jis,args:=[.val false (.list 147 Kmj)],ress:=[Bo],pre:=fun h (l,_)=>[h=Zz,l=Jrb],spec:=fun _ _=>(true,()),post:=fun _ _=>(Fe,K1s,K1r)}
theorem Jtw:Jrb.length≤1000000∧∀x∈Jrb,x.1.size≤1000000:=by
 refine⟨by decide,fun x hx=> ?_⟩
 have:(Jrb.all fun x=>decide (x.1.size≤1000000))=true:=by kernel_rfl
 exact of_decide_eq_true (List.all_eq_true.1 this x hx)
theorem Jze {f:FuncId} {c:Xx} {p:c.s.T→ATup c.args→List Prop} {sp:c.s.T→ATup c.args→Tup c.ress} {q:c.s.T→ATup c.args→c.s.T} (h1:OkO Tryz.prog f c) (h:∀x y,Uq (p x y)→Uq (c.pre x y)∧sp x y=c.spec x y∧q x y=c.post x y):OkO Tryz.prog f {c with pre:=p,spec:=sp,post:=q}:=
 ⟨h1.1,fun x y M R B w b T cells vals vs hB hMR hg hw hBb hMb hRb hT ho hv hpre ha=>by
  obtain⟨hp,e1,e2⟩:=h x y hpre
  have H:=h1.2 x y M R B w b T cells vals vs hB hMR hg hw hBb hMb hRb hT ho hv hp ha
  dsimp only
  rw[e1,e2]
  exact H⟩
theorem Kmm:OkO Tryz.prog 66 J77:=Ub mixed Klp.ok (by kernel_rfl) (by kernel_rfl) (U1 (l:=([]:List (Nat×Func))) (by simp)) (fun xx yy=>Xr (Jw4 (xx.1,xx.2.1,xx.2.2) yy.1)) (fun xx yy=>fun _=>na ()) fun T xx yy hT=>by obtain rfl:=hT _ rfl;exact K1j xx.1 xx.2.1 xx.2.2 yy.1
theorem Kmp:Ok Tryz.prog 66 (Xx.con K6f):=X2 (Jze (c:=J77) Kmm fun x y hp=>by
 obtain⟨rfl,e⟩:=hp
 obtain⟨l,_⟩:=y
 have e:l=Jrb:=e
 subst e
 exact⟨⟨Hd,J4m,Jtw.1,Jtw.2⟩,by rw[show J77.spec Zz (Jrb,())=((Jdt Zz Jrb).2,()) from rfl,Jww],by rw[show J77.post Zz (Jrb,())=(Jdt Zz Jrb).1 from rfl,Jww]⟩)
abbrev K1d:=K66.add Kmp
theorem Jpu:Fe.length=13:=by kernel_rfl
theorem Jnq:∀e∈Fe,Jfm e:=fun e he=>by
 have:(Fe.all fun e=>decide (e.2.2.1.length≤1000000)&&decide (e.2.2.2.1.length≤1000000)&&e.2.2.1.all fun s=>decide (s.size≤1000000))=true:=by kernel_rfl
 have h:=List.all_eq_true.1 this e he
 simp only[Bool.and_eq_true] at h
 exact⟨of_decide_eq_true h.1.1,of_decide_eq_true h.1.2,fun s hs=>of_decide_eq_true (List.all_eq_true.1 h.2 s hs)⟩
theorem J4q:∀e∈Fe,Jb e=0:=fun e he=>by
 have:(Fe.all fun e=>Jb e==0)=true:=by kernel_rfl
 exact eq_of_beq (List.all_eq_true.1 this e he)
theorem Jnr (n:Nat):lOk (Fe.take n):=⟨by have:=Jpu;rw[List.length_take];omega,fun e he=>Jnq e (List.mem_of_mem_take he)⟩
def J2r:Con:={args:=[],ress:=[Bo],owns:=[],pre:=fun _=>[],spec:=fun _=>(true,())}
def Z89:=[(32:UInt8),(51:UInt8)]
def Z92:=[(32:UInt8),(54:UInt8)]
def Z99:=[(32:UInt8),(56:UInt8)]
def J3d:=[(32:UInt8),(53:UInt8)]
def Kfs:=ByteArray.mk (Array.mk [98])
def Kll:=ByteArray.mk (Array.mk [97])
def K1c:=32::53::Z92
def Kxj:=ByteArray.mk (Array.mk (115::101::116::116::108::101::32::53::J3d))
def Kw1:=ByteArray.mk (Array.mk (114::101::115::116::111::114::101::32::120::Z92))
def Kwe:=Jgi (List.take 6 Fe) Kll 3+Jgi (List.take 6 Fe) Kfs 5
def Kuk:=Kwe+Jmb Fe Kll Kfs
def Kug:=Kuk+F6 Fe 4
def Kuc:=Kug+(Jbs Fe).2
def Ktn:=Kuc+avE (List.take 10 Fe) Kfs
def Ktd:=Ktn+avE Fe Kfs
theorem K37:wpFG Tryz.prog K1d.g (na ()) (fun _=>na ()) (Sx.look ([(65,Tryz.f65)]:List (Nat×Func))) Tryz.f14 J2r ():=by
 refine(by kernel_rfl:((([],[],[])=Zz∧[(ByteArray.mk (Array.mk [115,116,97,116,105,111,110,32,97,32,48,32,49,48]),ByteArray.mk (Array.mk [100,111,110,101,32,49]),0),(ByteArray.mk (Array.mk (115::116::97::116::105::111::110::32::98::32::48::Z99)),ByteArray.mk (Array.mk [100,111,110,101,32,50]),0),(ByteArray.mk (Array.mk (112::114::105::99::101::32::97::32::48::J3d)),ByteArray.mk (Array.mk (100::111::110::101::Z89)),0),(ByteArray.mk (Array.mk (111::114::100::101::114::32::111::49::32::97::32::98::32::49::32::50::K1c)),ByteArray.mk (Array.mk [100,111,110,101,32,52]),0),(ByteArray.mk (Array.mk (111::114::100::101::114::32::111::50::32::98::32::97::32::49::32::50::32::53::Z89)),B0,4),(ByteArray.mk (Array.mk (111::117::116::97::103::101::32::121::32::98::32::49::32::51::32::52::J3d)),B0,24),(ByteArray.mk (Array.mk [111,117,116,97,103,101,32,120,32,98,32,49,32,53,32,55,32,48]),ByteArray.mk (Array.mk (100::111::110::101::J3d)),0),(ByteArray.mk (Array.mk (112::101::114::109::105::116::32::112::32::120::J3d)),ByteArray.mk (Array.mk (100::111::110::101::Z92)),0),(K9,ByteArray.mk (Array.mk [111,49,32,50,32,111,49,32,51,32,111,49,32,52]),0),(Uf,ByteArray.mk (Array.mk [120]),0),(ByteArray.mk (Array.mk (116::114::105::112::32::111::49::J3d)),B0,23),(ByteArray.mk (Array.mk (109::101::116::101::114::32::111::49::32::53::32::50::32::54::Z92)),ByteArray.mk (Array.mk [100,111,110,101,32,55]),0),(ByteArray.mk (Array.mk (109::101::116::101::114::32::111::49::32::53::32::51::32::54::J3d)),ByteArray.mk (Array.mk (100::111::110::101::Z99)),0),(Kxj,B0,32),(ByteArray.mk (Array.mk (109::101::116::101::114::32::111::49::32::53::32::52::32::52::Z89)),ByteArray.mk (Array.mk [100,111,110,101,32,57]),0),(K9,Jmi,0),(ByteArray.mk (Array.mk (115::101::116::116::108::101::K1c)),B0,14),(Kxj,ByteArray.mk (Array.mk [100,111,110,101,32,49,48]),0),(J0,B0,21),(ByteArray.mk (Array.mk [98,105,108,108,32,111,49]),ByteArray.mk (Array.mk [51,32,49,54,32,49,52,32,55,48,32,49,50]),0),(ByteArray.mk (Array.mk [98,97,108,97,110,99,101,32,98]),ByteArray.mk (Array.mk [45,53,56]),0),(ByteArray.mk (Array.mk [114,97,116,101,32,97]),ByteArray.mk (Array.mk [53]),0),(Kw1,B0,32),(Ue,ByteArray.mk (Array.mk [112]),0),(ByteArray.mk (Array.mk (114::101::116::117::114::110::32::112::Z92)),ByteArray.mk (Array.mk [100,111,110,101,32,49,49]),0),(Kw1,ByteArray.mk (Array.mk [100,111,110,101,32,49,50]),0),(ByteArray.mk (Array.mk (115::101::116::116::108::101::32::56::Z99)),ByteArray.mk (Array.mk [100,111,110,101,32,49,51]),0),(Ud,ByteArray.mk (Array.mk [56]),0)]=Jrb)∧Br false (Sf true (false=true)) ((13≤1000∧∀(e:Ev),e∈Fe→Jfm e)∧Br false (Sf true (false=true)) (T2 (((0:Int)≤0∧(0:Int)≤6∧(6:Int)≤13)∧lOk (List.take 6 Fe)) (lOk Fe∧T2 (lOk Fe) ((((0:Int)≤0∧(0:Int)≤10∧(10:Int)≤13)∧lOk (List.take 10 Fe))∧T2 (lOk Fe) ((13≤1000∧∀(e:Ev),e∈Fe→Lw e)∧(325:Int)≤9223372036854775807∧(Iw Kwe∧Iw Kuk∧Iw Kug∧Iw Kuc∧Iw Ktn∧Iw Ktd∧Iw (Ktd+V6 Fe Kll)∧(true=true→2≤1000000))∧Tw (true=true)))))))=_).mp ?_
 delta Z89 Z92 Z99 J3d Kfs Kll K1c Jmi Kxj Kw1 Kwe Kuk Kug Kuc Ktn Ktd Br Iw T2 Tw Sf B0 K9 Uf Ue Ud J0
 have ok:lOk Fe:=⟨by rw[Jpu];decide,Jnq⟩
 have z1:Jgi (List.take 6 Fe) {data:={toList:=[97]}} 3=0:=by kernel_rfl
 have z2:Jgi (List.take 6 Fe) {data:={toList:=[98]}} 5=0:=by kernel_rfl
 have z3:Jmb Fe {data:={toList:=[97]}} {data:={toList:=[98]}}=0:=by kernel_rfl
 have z4:F6 Fe 4=0:=by kernel_rfl
 have z5:(Jbs Fe).2=0:=by kernel_rfl
 have z6:avE (List.take 10 Fe) {data:={toList:=[98]}}=0:=by kernel_rfl
 have z7:avE Fe {data:={toList:=[98]}}=0:=by kernel_rfl
 have z8:V6 Fe {data:={toList:=[97]}}=0:=by kernel_rfl
 rw[z1,z2,z3,z4,z5,z6,z7,z8]
 exact⟨⟨rfl,rfl⟩,fun h=>(nomatch h),fun _=>⟨⟨by decide,Jnq⟩,fun h=>(nomatch h),fun _=>⟨⟨by omega,Jnr 6⟩,⟨by omega,Jnr 6⟩,ok,ok,ok,⟨by omega,Jnr 10⟩,ok,ok,⟨by decide,fun e he=>J5k (J4q e he)⟩,by decide,⟨by decide,by decide,by decide,by decide,by decide,by decide,by decide,fun _=>by decide⟩,rfl,rfl⟩⟩⟩
theorem K5s:Ok Tryz.prog 14 J2r:=Jes mixed K1d.ok (by kernel_rfl) (by kernel_rfl) (U1 (l:=([(65,Tryz.f65)]:List (Nat×Func))) (List.forall_mem_cons.2 ⟨by kernel_rfl,by simp⟩)) (fun xx=>na ()) (fun xx=>fun _=>na ()) fun xx=>K37
abbrev K2e:=K1d.add K5s
def eqL {α:Type} (p:α→α→Bool):List α→List α→Bool
 |[],[]=>true
 |x::l,y::r=>bif p x y then eqL p l r else false
 |_,_=>false
theorem Jpt {α:Type} {p:α→α→Bool}:∀{l r:List α},l.length≠r.length→eqL p l r=false
 |[],[],h=>absurd rfl h
 |[],_::_,_=>rfl
 |_::_,[],_=>rfl
 |x::l,y::r,h=>by
  unfold eqL
  rw[Jpt (fun e=>h (by rw[List.length_cons,List.length_cons,e]))]
  cases p x y<;>rfl
theorem Jdo {α:Type} {p:α→α→Bool} (h:∀x,p x x=true):∀l:List α,eqL p l l=true
 |[]=>rfl
 |x::l=>by unfold eqL;rw[h x,cond_true];exact Jdo h l
def Fv (a b:ByteArray):Bool:= !(a.toList !=b.toList)
def Fu (a b:Int):Bool:= !(a !=b)
abbrev Jn8 (T:TypeId) (s:Sch) (p:s.T→s.T→Bool) (xs ys:List s.T):Ann:={X:=Nat,σ:=fun k=>⟨2,[(0, .one (.sl 0)),(1, .one (.sl 1)),(5, .one (.int .i64 k))],[(0, .imm T s xs),(1, .imm T s ys)]⟩,inv:=fun k=>k≤xs.length∧xs.length=ys.length∧eqL p (xs.drop k) (ys.drop k)=eqL p xs ys,mu:=fun k=>xs.length-k}
def Ka1 (T:TypeId) (s:Sch) (p:s.T→s.T→Bool):Con:={args:=[.val false (.list T s), .val false (.list T s)],ress:=[Bo],owns:=[],pre:=fun(xs,_)=>[xs.length≤1000000],spec:=fun(xs,ys,_)=>(eqL p xs ys,())}
def Kay:Con:=Ka1 9 .str Fv
def Khn (a:Nat) (b c:Ls):=a≤List.length b∧List.length b=List.length c∧eqL Fv (List.drop a b) (List.drop a c)=eqL Fv b c
theorem K4l:Ok Tryz.prog 89 Kay:=okW K2e Tryz.f89 (fun xx=>Xr (Jn8 9 .str Fv xx.1 xx.2.1)) fun xx=>by
 obtain⟨(xs:List ByteArray),(ys:List ByteArray),_⟩:=xx
 refine(by kernel_rfl:(Jaf xs→Br (Ln xs !=Ln ys) (false=eqL Fv xs ys) (∃(x:Nat),(0=Nc x∧Sf xs (ys=ys))∧Khn x xs ys∧∀(x:Nat),Khn x xs ys→Br (decide (Nc x<Ln xs)) (T2 (Z69 x xs) (Tw (Z69 x ys))∧Br (!Lb (Z15 xs x) (Z15 ys x)) (false=eqL Fv xs ys) (Z16 x∧∃(y:Nat),(Z82 x y∧Sf xs (ys=ys))∧Khn y xs ys∧J88 xs y x)) (true=eqL Fv xs ys)))=_).mp ?_
 delta Z15 Z16 Z69 Z82 Jaf J88 Khn Br Iw Bd T2 Tw Sf Ln Nc B0 Lb
 intro hl
 refine⟨fun h=> ?_,fun h=>⟨(0:Nat),by(repeat' first|exact rfl|exact⟨⟩|apply And.intro|omega|dsimp only;omega),⟨Nat.zero_le _, ?_,rfl⟩,fun(k:Nat) hk=>⟨fun h1=> ?_,fun h1=> ?_⟩⟩⟩
 ·have h:((xs.length:Int) !=ys.length)=true:=h
  exact(Jpt (by have:=bne_iff_ne.1 h;omega)).symm
 ·have h:((xs.length:Int) !=ys.length)=false:=h
  have:=bne_eq_false_iff_eq.1 h
  omega
 ·obtain⟨k1,k2,k3⟩:=hk
  have hlt:k<xs.length:=by simpa using h1
  rw[Jq (l:=xs) (d:=Ja) hlt,Jq (l:=ys) (d:=Ja) (by omega),eqL] at k3
  refine⟨by(repeat' first|apply And.intro|(first|omega|dsimp only;omega)),fun h2=> ?_,fun h2=> ?_⟩
  ·have h2:Fv (xs.getD k Ja) (ys.getD k Ja)=false:=by unfold Fv;rw[show((xs.getD k Ja).toList !=(ys.getD k Ja).toList)=true from h2];rfl
   rw[h2] at k3;exact k3
  ·have h2:Fv (xs.getD k Ja) (ys.getD k Ja)=true:=by unfold Fv;rw[show((xs.getD k Ja).toList !=(ys.getD k Ja).toList)=false from h2];rfl
   rw[h2] at k3
   exact⟨by(repeat' first|apply And.intro|(first|omega|dsimp only;omega)),(k+1:Nat),by(repeat' first|exact rfl|exact⟨⟩|apply And.intro|omega|dsimp only;omega),⟨by omega,k2,k3⟩,by omega⟩
 ·obtain⟨k1,k2,k3⟩:=hk
  have hlt:¬k<xs.length:=by simpa using h1
  rw[List.drop_eq_nil_of_le (by omega),List.drop_eq_nil_of_le (by omega)] at k3
  exact k3
abbrev K2d:=K2e.add K4l
def Kaz:Con:=Ka1 3 sI Fu
def Kic (a:Nat) (b c:Li):=a≤List.length b∧List.length b=List.length c∧eqL Fu (List.drop a b) (List.drop a c)=eqL Fu b c
theorem K4k:Ok Tryz.prog 90 Kaz:=okW K2d Tryz.f90 (fun xx=>Xr (Jn8 3 sI Fu xx.1 xx.2.1)) fun xx=>by
 obtain⟨(xs:List Int),(ys:List Int),_⟩:=xx
 refine(by kernel_rfl:(Z45 xs→Br (Ln xs !=Ln ys) (false=eqL Fu xs ys) (∃(x:Nat),(0=Nc x∧Sf xs (ys=ys))∧Kic x xs ys∧∀(x:Nat),Kic x xs ys→Br (Z90 x xs) (T2 (Bd (Nc x) (Ln xs)) (Z77 x ys)∧Br (Z17 xs x !=Z17 ys x) (false=eqL Fu xs ys) (Z16 x∧∃(y:Nat),(Z82 x y∧Sf xs (ys=ys))∧Kic y xs ys∧Jxh xs y x)) (true=eqL Fu xs ys)))=_).mp ?_
 delta Z16 Z17 Z45 Z77 Z82 Z90 Jxh Kic Br Iw Bd T2 Tw Sf Ln Nc
 intro hl
 refine⟨fun h=> ?_,fun h=>⟨(0:Nat),by(repeat' first|exact rfl|exact⟨⟩|apply And.intro|omega|dsimp only;omega),⟨Nat.zero_le _, ?_,rfl⟩,fun(k:Nat) hk=>⟨fun h1=> ?_,fun h1=> ?_⟩⟩⟩
 ·have h:((xs.length:Int) !=ys.length)=true:=h
  exact(Jpt (by have:=bne_iff_ne.1 h;omega)).symm
 ·have h:((xs.length:Int) !=ys.length)=false:=h
  have:=bne_eq_false_iff_eq.1 h
  omega
 ·obtain⟨k1,k2,k3⟩:=hk
  have hlt:k<xs.length:=by simpa using h1
  rw[Jq (l:=xs) (d:=(0:Int)) hlt,Jq (l:=ys) (d:=(0:Int)) (by omega),eqL] at k3
  refine⟨by(repeat' first|apply And.intro|(first|omega|dsimp only;omega)),fun h2=> ?_,fun h2=> ?_⟩
  ·have h2:Fu (xs.getD k 0) (ys.getD k 0)=false:=by unfold Fu;rw[show(xs.getD k 0 !=ys.getD k 0)=true from h2];rfl
   rw[h2] at k3;exact k3
  ·have h2:Fu (xs.getD k 0) (ys.getD k 0)=true:=by unfold Fu;rw[show(xs.getD k 0 !=ys.getD k 0)=false from h2];rfl
   rw[h2] at k3
   exact⟨by(repeat' first|apply And.intro|(first|omega|dsimp only;omega)),(k+1:Nat),by(repeat' first|exact rfl|exact⟨⟩|apply And.intro|omega|dsimp only;omega),⟨by omega,k2,k3⟩,by omega⟩
 ·obtain⟨k1,k2,k3⟩:=hk
  have hlt:¬k<xs.length:=by simpa using h1
  rw[List.drop_eq_nil_of_le (by omega),List.drop_eq_nil_of_le (by omega)] at k3
  exact k3
abbrev K2c:=K2d.add K4k
def Jz3 (a b:Ev):Bool:=bif bif bif bif a.1 !=b.1 then true else !(a.2.1.toList==b.2.1.toList) then true else !eqL Fv a.2.2.1 b.2.2.1 then true else !eqL Fu a.2.2.2.1 b.2.2.2.1 then true else !(a.2.2.2.2.toList==b.2.2.2.2.toList)
def Y9 (a b:Ev):Bool:= !Jz3 a b
theorem Jre (a:ByteArray):Fv a a=true:=by unfold Fv;simp
theorem Jrd (a:Int):Fu a a=true:=by unfold Fu;simp
def Ka0:Con:={args:=[.val false (.list 67 sEv), .val false (.list 67 sEv)],ress:=[Bo],owns:=[],pre:=fun(xs,_)=>[xs.length≤1000000,∀x∈xs,x.2.2.1.length≤1000000∧x.2.2.2.1.length≤1000000],spec:=fun(xs,ys,_)=>(eqL Y9 xs ys,())}
def Kfd (a:List Ev) (b:Nat):=(Jxd a b).2
def Kij (a:Nat) (b c:List Ev):=a≤List.length b∧List.length b=List.length c∧eqL Y9 (List.drop a b) (List.drop a c)=eqL Y9 b c
def Kvk (a:List Ev) (b:Nat) (c:List Ev):=J6i a b !=J6i c b
def Kvb (a:List Ev) (b:Nat) (c:List Ev):=Kvk a b c=false
def Kts (a:List Ev) (b:Nat) (c:List Ev):=bif Kvk a b c then true else !Lb (J0y a b) (J0y c b)
def Kgq (a:List Ev) (b:Nat) (c:List Ev):=Kts a b c=false
def Ks4 (a:List Ev) (b:Nat) (c:List Ev):=bif Kts a b c then true else !eqL Fv (Jxe a b).1 (Jxe c b).1
def Kgg (a:List Ev) (b:Nat) (c:List Ev):=Ks4 a b c=false
def Ksk (a:List Ev) (b:Nat) (c:List Ev):=bif Ks4 a b c then true else !eqL Fu (Jxd a b).1 (Jxd c b).1
def Ksj (a:List Ev) (b:Nat) (c:List Ev):=Ksk a b c=false
theorem K5i:Ok Tryz.prog 24 Ka0:=okW K2c Tryz.f24 (fun xx=>Xr (Jn8 67 sEv Y9 xx.1 xx.2.1)) fun xx=>by
 obtain⟨(xs:List Ev),(ys:List Ev),_⟩:=xx
 refine(by kernel_rfl:(Z35 xs→Kig xs→Br (Ln xs !=Ln ys) (false=eqL Y9 xs ys) (∃(x:Nat),(0=Nc x∧Sf xs (ys=ys))∧Kij x xs ys∧∀(x:Nat),Kij x xs ys→Br (Z71 x xs) (T2 (Z9 x xs) (T2 (Z9 x ys) (T2 (Kvb xs x ys→Z9 x xs) (T2 (Kvb xs x ys→Z9 x ys) (T2 (Kgq xs x ys→Z9 x xs) (T2 (Kgq xs x ys→Z9 x ys) ((Kgq xs x ys→List.length (Jxe xs x).1≤1000000)∧T2 (Kgg xs x ys→Z9 x xs) (T2 (Kgg xs x ys→Z9 x ys) ((Kgg xs x ys→List.length (Jxd xs x).1≤1000000)∧T2 (Ksj xs x ys→Z9 x xs) (Tw (Ksj xs x ys→Z9 x ys))))))))))∧Br (bif Ksk xs x ys then true else !Lb (Kfd xs x) (Kfd ys x)) (false=eqL Y9 xs ys) (Z16 x∧∃(y:Nat),(Z82 x y∧Sf xs (ys=ys))∧Kij y xs ys∧List.length xs-y<List.length xs-x)) (true=eqL Y9 xs ys)))=_).mp ?_
 delta Z9 Z16 Z35 Z71 Z82 Jyg D4 J22 J6i Jxe J0y Jxd Kfd J59 Kij Kig Kvk Kvb Kts Kgq Ks4 Kgg Ksk Ksj Br Iw Bd T2 Tw Sf Ln Nc B0 Lb
 intro hl hs
 refine⟨fun h=> ?_,fun h=>⟨(0:Nat),by(repeat' first|exact rfl|exact⟨⟩|apply And.intro|omega|dsimp only;omega),⟨Nat.zero_le _, ?_,rfl⟩,fun(k:Nat) hk=>⟨fun h1=> ?_,fun h1=> ?_⟩⟩⟩
 ·have h:((xs.length:Int) !=ys.length)=true:=h
  exact(Jpt (by have:=bne_iff_ne.1 h;omega)).symm
 ·have h:((xs.length:Int) !=ys.length)=false:=h
  have:=bne_eq_false_iff_eq.1 h
  omega
 ·obtain⟨k1,k2,k3⟩:=hk
  have hlt:k<xs.length:=by simpa using h1
  rw[Jq (l:=xs) (d:=ev0) hlt,Jq (l:=ys) (d:=ev0) (by omega),eqL] at k3
  have hz:((0:Int),({data:={toList:=[]}}:ByteArray),([]:List ByteArray),([]:List Int),({data:={toList:=[]}}:ByteArray))=ev0:=rfl
  have hx:((0:Int)≤(k:Int)∧(k:Int)<(xs.length:Int))=True:=eq_true (by omega)
  have hy:((0:Int)≤(k:Int)∧(k:Int)<(ys.length:Int))=True:=eq_true (by omega)
  have ha:=hs _ (Jc (d:=ev0) hlt)
  simp only[hz,hx,hy,implies_true,true_and,and_true]
  generalize xs.getD k ev0=a at ha k3⊢
  generalize ys.getD k ev0=b at k3⊢
  refine⟨⟨fun _=>ha.1,fun _=>ha.2⟩,fun h2=> ?_,fun h2=> ?_⟩
  ·have h2:Y9 a b=false:=by unfold Y9;rw[show Jz3 a b=true from h2];rfl
   rw[h2] at k3;exact k3
  ·have h2:Y9 a b=true:=by unfold Y9;rw[show Jz3 a b=false from h2];rfl
   rw[h2] at k3
   exact⟨by omega,(k+1:Nat),by omega,⟨by omega,k2,k3⟩,by omega⟩
 ·obtain⟨k1,k2,k3⟩:=hk
  have hlt:¬k<xs.length:=by simpa using h1
  rw[List.drop_eq_nil_of_le (by omega),List.drop_eq_nil_of_le (by omega)] at k3
  exact k3
abbrev K2b:=K2c.add K5i
def Jhg (e:Ev):Bool:=bif bif bif decide (40<(e.2.1.size:Int)) then true else decide (6<(e.2.2.1.length:Int)) then true else decide (8<(e.2.2.2.1.length:Int)) then true else decide (200<(e.2.2.2.2.size:Int))
def Xm (e:Ev):Bool:=bif Jhg e then false else e.2.2.1.all fun s=> !decide (40<(s.size:Int))
def Hc (l:List Ev) (n:Int):Bool:=bif decide (n<(l.length:Int)) then false else l.all Xm
def Kaw:Con:={args:=[.val false (.list 67 sEv),aI],ress:=[Bo],owns:=[],pre:=fun(_,n,_)=>[n≤1000000],spec:=fun(l,n,_)=>(Hc l n,())}
abbrev J0o (l:List Ev) (n:Int):Nat→Option Ann:=fun id=>if id=0 then some {X:=Nat,σ:=fun k=>⟨1,[(0, .one (.sl 0)),(5, .one (.int .i64 k))],[(0, .imm 67 sEv l)]⟩,inv:=fun k=>k≤l.length∧(l.drop k).all Xm=l.all Xm,mu:=fun k=>l.length-k}
 else if id=2 then some {X:=Nat×Nat,σ:=fun(k,j)=>⟨1,[(0, .one (.sl 0)),(5, .one (.int .i64 k)),(6, .one (.int .i64 j))],[(0, .imm 67 sEv l)]⟩,inv:=fun(k,j)=>k<l.length∧j≤(l.getD k ev0).2.2.1.length∧(l.getD k ev0).2.2.1.length≤6∧(bif (((l.getD k ev0).2.2.1.drop j).all fun s=> !decide (40<(s.size:Int))) then(l.drop (k+1)).all Xm else false)=l.all Xm,mu:=fun(k,j)=>(l.getD k ev0).2.2.1.length-j,rel:=some fun x0 x=>x0.1=x.1} else none
def Kfp (a:List Ev) (b:Nat×Nat):=List.length (List.getD a b.1 ev0).2.2.1
def Kkt (a:Nat) (b:List Ev):=a≤List.length b∧List.all (List.drop a b) Xm=List.all b Xm
def K0n (a:List Ev) (b:Nat×Nat):=Ln (List.getD a b.1 D4).2.2.1
def Kzs (a:List Ev) (b:Nat):=decide (40<Nc (ByteArray.size (J0y a b)))
def Kur (a:List Ev) (b:Nat):=bif Kzs a b then true else decide (6<Ln (Jxe a b).1)
def Ktx (a:List Ev) (b:Nat):=bif Kur a b then true else decide (8<Ln (Jxd a b).1)
def Ktu (a:Nat×Nat) (b:List Ev):=a.1<List.length b∧a.2≤Kfp b a∧Kfp b a≤6∧(bif List.all (List.drop a.2 (List.getD b a.1 ev0).2.2.1) fun(s:ByteArray)=> !decide (40<Nc (ByteArray.size s)) then List.all (List.drop (a.1+1) b) Xm else false)=List.all b Xm
def Ktp (a:Nat×Nat) (b:List Ev) (c:Nat×Nat):=Ktu a b∧c.1=a.1
theorem K5t:Ok Tryz.prog 13 Kaw:=okW K2b Tryz.f13 (fun xx=>J0o xx.1 xx.2.1) fun xx=>by
 obtain⟨(l:List Ev),(n:Int),_⟩:=xx
 refine(by kernel_rfl:(n≤1000000→Br (decide (n<Ln l)) (false=Hc l n) (∃(x:Nat),(0=Nc x∧l=l)∧Kkt x l∧∀(x:Nat),Kkt x l→Br (Z71 x l) (T2 (Z9 x l) (T2 (Kzs l x=false→Z9 x l) (T2 (Kur l x=false→Z9 x l) (Tw (Ktx l x=false→Z9 x l))))∧Br (bif Ktx l x then true else decide (200<Nc (ByteArray.size (Kfd l x)))) (false=Hc l n) (∃(x0:Nat×Nat),(Nc x=Nc x0.1∧0=Nc x0.2∧l=l)∧(Ktu x0 l∧x0.1=x0.1)∧∀(x_1:Nat×Nat),Ktp x_1 l x0→Tw (Bd (Nc x_1.1) (Ln l))∧Br (decide (Nc x_1.2<K0n l x_1)) (T2 (Bd (Nc x_1.1) (Ln l)) (Tw (Bd (Nc x_1.2) (K0n l x_1)))∧Br (decide (40<Nc (ByteArray.size (List.getD (List.getD l x_1.1 D4).2.2.1 x_1.2 B0)))) (false=Hc l n) (Iw (Nc x_1.2+1)∧∃(y:Nat×Nat),(Nc x_1.1=Nc y.1∧Nc x_1.2+1=Nc y.2∧l=l)∧Ktp y l x0∧Kfp l y-y.2<Kfp l x_1-x_1.2)) (Iw (Nc x_1.1+1)∧∃(y:Nat),(Nc x_1.1+1=Nc y∧l=l)∧Kkt y l∧List.length l-y<List.length l-x))) (true=Hc l n)))=_).mp ?_
 delta Z9 Z71 Kfp D4 J22 Jxe J0y Jxd Kfd Kkt K0n Kzs Kur Ktx Ktu Ktp Br Iw Bd T2 Tw Ln Nc B0
 intro hn
 refine⟨fun h=> ?_,fun h=>⟨(0:Nat),by(repeat' first|exact rfl|exact⟨⟩|apply And.intro|omega|dsimp only;omega),⟨Nat.zero_le _,rfl⟩,fun(k:Nat) hk=>⟨fun h1=> ?_,fun h1=> ?_⟩⟩⟩
 ·unfold Hc;rw[h];rfl
 ·have hsh:Hc l n=l.all Xm:=by unfold Hc;rw[h];rfl
  obtain⟨k1,k2⟩:=hk
  have hlt:k<l.length:=by simpa using h1
  have hn2:(l.length:Int)≤n:=by have:=of_decide_eq_false h;omega
  rw[Jq (d:=ev0) hlt,List.all_cons] at k2
  have hz:((0:Int),({data:={toList:=[]}}:ByteArray),([]:List ByteArray),([]:List Int),({data:={toList:=[]}}:ByteArray))=ev0:=rfl
  have hx:((0:Int)≤(k:Int)∧(k:Int)<(l.length:Int))=True:=eq_true (by omega)
  simp only[hz,hx,implies_true,true_and,and_true]
  refine⟨fun h2=> ?_,fun h2=> ?_⟩
  ·have h2:Xm (l.getD k ev0)=false:=by unfold Xm;rw[show Jhg (l.getD k ev0)=true from h2];rfl
   rw[h2] at k2
   rw[hsh,←k2];rfl
  ·have h2:Jhg (l.getD k ev0)=false:=h2
   have h6:(l.getD k ev0).2.2.1.length≤6:=by
    unfold Jhg at h2
    cases hc:decide (6<((l.getD k ev0).2.2.1.length:Int)) with
    |false=>have:=of_decide_eq_false hc;omega
    |true=>rw[hc] at h2;simp at h2
   have hand:∀u v:Bool,(bif u then v else false)=(u&&v):=by decide
   have hsb:Xm (l.getD k ev0)=(l.getD k ev0).2.2.1.all fun s=> !decide (40<(s.size:Int)):=by unfold Xm;rw[h2];rfl
   refine⟨(k,(0:Nat)),by(repeat' first|exact rfl|exact⟨⟩|apply And.intro|omega|dsimp only;omega),⟨hlt,Nat.zero_le _,h6,by rw[hand];rw[hsb] at k2;exact k2⟩,fun(x:Nat×Nat) hx=> ?_⟩
   obtain⟨k',j⟩:=x
   obtain⟨⟨j1,j2,j3,j4⟩,j5⟩:=hx
   have j5:k=k':=j5
   subst j5
   dsimp only at j1 j2 j3 j4⊢
   refine⟨by omega,fun h3=> ?_,fun h3=> ?_⟩
   ·have hj:j<(l.getD k ev0).2.2.1.length:=Int.ofNat_lt.1 (of_decide_eq_true h3)
    rw[Jq (d:=Ja) hj,List.all_cons] at j4
    refine⟨⟨by omega,by omega, ?_, ?_⟩,fun h4=> ?_,fun h4=>⟨?_,(k,j+1),⟨rfl,by simp⟩,⟨⟨hlt,by dsimp only;omega,j3, ?_⟩,rfl⟩, ?_⟩⟩
    ·exact⟨by omega,Int.ofNat_lt.2 hj⟩
    ·exact⟨by omega,Int.ofNat_lt.2 hj⟩
    ·have h4:decide (40<(((l.getD k ev0).2.2.1.getD j Ja).size:Int))=true:=h4
     rw[h4] at j4
     rw[hsh,←j4];rfl
    ·omega
    ·have h4:decide (40<(((l.getD k ev0).2.2.1.getD j Ja).size:Int))=false:=h4
     rw[h4] at j4
     exact j4
    ·dsimp only;omega
   ·have hj:¬j<(l.getD k ev0).2.2.1.length:=fun q=>of_decide_eq_false h3 (Int.ofNat_lt.2 q)
    rw[List.drop_eq_nil_of_le (by omega)] at j4
    exact⟨by omega,(k+1:Nat),by simp,⟨by omega,j4⟩,by omega⟩
 ·have hsh:Hc l n=l.all Xm:=by unfold Hc;rw[h];rfl
  obtain⟨k1,k2⟩:=hk
  have hlt:¬k<l.length:=by simpa using h1
  rw[List.drop_eq_nil_of_le (by omega)] at k2
  rw[hsh,←k2];rfl
abbrev K65:=K2b.add K5t
theorem Jzv {k:ByteArray} (h:Yw k=false):(Zo k).2.2=false:=by
 have hne:∀w:ByteArray,Yw w=true→(k.toList==w.toList)=false:=fun w hw=>by
  cases hc:k.toList==w.toList with
  |false=>rfl
  |true=>
   have:=Vd hc
   subst this
   rw[hw] at h;cases h
 unfold Zo
 rw[hne Js (by kernel_rfl),hne Kv (by kernel_rfl),hne Ke (by kernel_rfl),hne Kq (by kernel_rfl),hne Vf (by kernel_rfl),hne Jt (by kernel_rfl),hne Jo (by kernel_rfl),hne J6 (by kernel_rfl),hne J5 (by kernel_rfl),hne Jh (by kernel_rfl),hne J0 (by kernel_rfl)]
 rfl
theorem Jnn {k:ByteArray} (h:Yw k=true):(Zo k).2.2=true∧(Zo k).1.size=(Jj k).1.length∧(Zo k).2.1=(Jj k).2.1:=by
 rcases U4 h with h|h|h|h|h|h|h|h|h|h|h<;>subst h
 all_goals exact⟨by kernel_rfl,by kernel_rfl,by kernel_rfl⟩
def Ka (k:ByteArray):ByteArray×Int×Bool:=Zo k
def Kbp:Con:={args:=[aS],ress:=[(true,J94)],owns:=[],pre:=fun _=>[],spec:=fun(k,_)=>(Ka k,())}
theorem Kah:Ok Tryz.prog 110 Kbp:=Kai
abbrev K2a:=K65.add Kah
def ckN (ns:List ByteArray):Int:=Jg (ns.map fun s=>bif Yo s then 0 else 8)
def ckV (vs:List Int):Int:=Jg (vs.map fun n=>Kj n 0 999999999)
theorem Jz2 (t:ByteArray):(t.toList==Ja.toList)= !decide (0<t.size):=by
 cases h:t.toList==Ja.toList with
 |true=>have:=Vd h;subst this;rfl
 | false =>
  have:0<t.size:=Nat.pos_of_ne_zero fun h0=>by
   have e:t.data.toList=[]:=List.eq_nil_of_length_eq_zero h0
   rw[Lib.toList_data,Lib.toList_data,e] at h
   exact nomatch (show true=false from h)
  rw[decide_eq_true this];rfl
theorem Yq (x:Int) (l:List Int):Jg (x::l)=if x=0 then Jg l else x:=rfl
def Kb4:Con:={args:=[aEv],ress:=[I],owns:=[],pre:=fun(e,_)=>[e.2.2.1.length≤1000000,e.2.2.2.1.length≤1000000,∀s∈e.2.2.1,s.size≤1000000],spec:=fun(e,_)=>(Jb e,())}
abbrev Kq9 (n:Int) (k:ByteArray) (ns:List ByteArray) (vs:List Int) (t:ByteArray):Nat→Option Ann:=fun id=>if id=0 then some {X:=Nat,σ:=fun i=>⟨4,[(1, .one (.ptr 2 0)),(3, .one (.ptr 3 0)),(4, .one (.int .i64 i))],[(2, .box 67 [.int .i64 n, .str k, .sl 0, .sl 1, .str t]),(3, .box 208 [.str (Ka k).1, .int .i64 (Ka k).2.1, .bool (Ka k).2.2]),(0, .imm 9 .str ns),(1, .imm 3 sI vs)]⟩,inv:=fun i=>i≤ns.length∧ckN (ns.drop i)=ckN ns,mu:=fun i=>ns.length-i}
 else if id=2 then some {X:=Nat,σ:=fun i=>⟨4,[(1, .one (.ptr 2 0)),(3, .one (.ptr 3 0)),(5, .one (.int .i64 i))],[(2, .box 67 [.int .i64 n, .str k, .sl 0, .sl 1, .str t]),(3, .box 208 [.str (Ka k).1, .int .i64 (Ka k).2.1, .bool (Ka k).2.2]),(0, .imm 9 .str ns),(1, .imm 3 sI vs)]⟩,inv:=fun i=>i≤vs.length∧ckV (vs.drop i)=ckV vs,mu:=fun i=>vs.length-i}
 else none
def Z7 (a:Bt):=Nc (ByteArray.size (Ka a).1)
def Klg (a:Nat) (b:Li):=a≤List.length b∧ckV (List.drop a b)=ckV b
def Kk7 (a:Nat) (b:Ls):=a≤List.length b∧ckN (List.drop a b)=ckN b
def Kws (a:Int) (b c:Bt) (d:Ls) (e:Li):=Si a (Sf b (Sf c (Sf (Ka b).1 (Si (Ka b).2.1 (Sf (Ka b).2.2 (Sf d (e=e)))))))
def Kv2 (a:Nat) (b:Int) (c d:Bt) (e:Ls) (f:Li):=0=Nc a∧Kws b c d e f
def Kvl (a b:Nat) (c:Int) (d e:Bt) (f:Ls) (g:Li):=Z82 a b∧Kws c d e f g
theorem K5c:Ok Tryz.prog 36 Kb4:=okW K2a Tryz.f36 (fun xx=>Kq9 xx.1.1 xx.1.2.1 xx.1.2.2.1 xx.1.2.2.2.1 xx.1.2.2.2.2) fun xx=>by
 obtain⟨⟨(n:Int),(k:ByteArray),(ns:List ByteArray),(vs:List Int),(t:ByteArray)⟩,_⟩:=xx
 refine(by kernel_rfl:(Jaf ns→Z45 vs→Jhq ns→Br (Yi n 1 1000) (3=Jb (n,k,ns,vs,t)) (Br (!(Ka k).2.2) (13=Jb (n,k,ns,vs,t)) (Br (bif Ln ns !=Z7 k then true else Ln vs !=(Ka k).2.1) (2=Jb (n,k,ns,vs,t)) (∃(x:Nat),Kv2 x n k t ns vs∧Kk7 x ns∧∀(x:Nat),Kk7 x ns→Br (decide (Nc x<Z7 k)) (T2 (Z69 x ns) (ByteArray.size (Z15 ns x)≤1000000)∧Br (!Yo (Z15 ns x)) (8=Jb (n,k,ns,vs,t)) (Z16 x∧∃(y:Nat),Kvl x y n k t ns vs∧Kk7 y ns∧J88 ns y x)) (∃(x:Nat),Kv2 x n k t ns vs∧Klg x vs∧∀(x:Nat),Klg x vs→Br (decide (Nc x<(Ka k).2.1)) (Z77 x vs∧Br (Yi (Z17 vs x) 0 999999999) (3=Jb (n,k,ns,vs,t)) (Z16 x∧∃(y:Nat),Kvl x y n k t ns vs∧Klg y vs∧Jxh vs y x)) (Br (!Lb t B0) (1=Jb (n,k,ns,vs,t)) (0=Jb (n,k,ns,vs,t))))))))=_).mp ?_
 delta Z7 Z15 Z16 Z17 Z45 Z69 Z77 Z82 Jaf Jxh J88 Klg Jgu Kk7 Jhq Kws Kv2 Kvl Br Iw Bd T2 Tw Sf Si Ln Nc B0 Lb
 intro h1 h2 h3
 have hE1:Kj n 1 1000=bif Yi n 1 1000 then 3 else 0:=rfl
 have hQ:Ka k=Zo k:=rfl
 refine⟨fun h=> ?_,fun h=>⟨fun h4=> ?_,fun h4=> ?_⟩⟩
 ·have e:Kj n 1 1000=3:=by rw[hE1,h];rfl
  unfold Jb
  rw[if_pos (by dsimp only;rw[e];decide),e]
 ·have e:Kj n 1 1000=0:=by rw[hE1,h];rfl
  have hk:Yw k=false:=by
   cases hk:Yw k with
   |false=>rfl
   |true=>
    have:=(Jnn hk).1
    have h4:(!(Zo k).2.2)=true:=h4
    rw[this] at h4;cases h4
  unfold Jb
  rw[if_neg (by dsimp only;rw[e];decide)]
  dsimp only
  rw[hk];rfl
 have e:Kj n 1 1000=0:=by rw[hE1,h];rfl
 have hk:Yw k=true:=by
  cases hk:Yw k with
  |true=>rfl
  |false=>
   have:=Jzv hk
   have h4:(!(Zo k).2.2)=false:=h4
   rw[this] at h4;cases h4
 obtain⟨f1,f2,f3⟩:=Jnn hk
 rw[←hQ] at f1 f2 f3
 have hc:Jb (n,k,ns,vs,t)=if ns.length=(Jj k).1.length∧(vs.length:Int)=(Jj k).2.1 then Jg [ckN ns,ckV vs,bif decide (0<t.size) then 1 else 0] else 2:=by
  unfold Jb
  rw[if_neg (by dsimp only;rw[e];decide)]
  dsimp only
  rw[hk,cond_true];rfl
 refine⟨fun h5=> ?_,fun h5=> ?_⟩
 ·rw[hc,if_neg fun q=> ?_]
  have a1:((ns.length:Int) !=((Ka k).1.size:Int))=false:=bne_eq_false_iff_eq.2 (by rw[f2];exact congrArg _ q.1)
  have a2:((vs.length:Int) !=(Ka k).2.1)=false:=bne_eq_false_iff_eq.2 (by rw[f3];exact q.2)
  have h5:(bif (ns.length:Int) !=((Ka k).1.size:Int) then true else(vs.length:Int) !=(Ka k).2.1)=true:=h5
  rw[a1,a2] at h5;cases h5
 have h5:(bif (ns.length:Int) !=((Ka k).1.size:Int) then true else(vs.length:Int) !=(Ka k).2.1)=false:=h5
 have a:=bn1 h5
 have a1:(ns.length:Int)=((Ka k).1.size:Int):=bne_eq_false_iff_eq.1 a.1
 have a2:(vs.length:Int)=(Ka k).2.1:=bne_eq_false_iff_eq.1 a.2
 rw[if_pos ⟨by rw[f2] at a1;omega,by rw[a2,f3]⟩] at hc
 refine⟨(0:Nat),by(repeat' first|exact rfl|exact⟨⟩|apply And.intro|omega|dsimp only;omega),⟨Nat.zero_le _,rfl⟩,fun(i:Nat) hi=>⟨fun h6=> ?_,fun h6=> ?_⟩⟩
 ·have h6:(i:Int)<((Ka k).1.size:Int):=of_decide_eq_true h6
  have hlt:i<ns.length:=by omega
  have hN:ckN (ns.drop i)=if(bif Yo (ns.getD i Ja) then(0:Int) else 8)=0 then ckN (ns.drop (i+1)) else bif Yo (ns.getD i Ja) then 0 else 8:=by
   rw[Jq (d:=Ja) hlt]
   exact Yq _ _
  refine⟨⟨by omega,by omega,h3 _ (Jc hlt)⟩,fun h7=> ?_,fun h7=>⟨by omega,(i+1:Nat),by(repeat' first|exact rfl|exact⟨⟩|apply And.intro|omega|dsimp only;omega),⟨by omega, ?_⟩,by omega⟩⟩
  ·have h7:(!Yo (ns.getD i Ja))=true:=h7
   have h7:Yo (ns.getD i Ja)=false:=by simpa using h7
   rw[h7] at hN
   have:ckN ns=8:=by rw[←hi.2,hN];rfl
   rw[hc,Yq,this];rfl
  ·have h7:(!Yo (ns.getD i Ja))=false:=h7
   have h7:Yo (ns.getD i Ja)=true:=by simpa using h7
   rw[h7] at hN
   rw[←hi.2,hN];rfl
 ·have h6:¬(i:Int)<((Ka k).1.size:Int):=of_decide_eq_false h6
  have hN:ckN ns=0:=by rw[←hi.2,List.drop_eq_nil_of_le (by omega)];rfl
  refine⟨(0:Nat),by(repeat' first|exact rfl|exact⟨⟩|apply And.intro|omega|dsimp only;omega),⟨Nat.zero_le _,rfl⟩,fun(j:Nat) hj=>⟨fun h8=> ?_,fun h8=> ?_⟩⟩
  ·have h8:(j:Int)<(Ka k).2.1:=of_decide_eq_true h8
   have hlt:j<vs.length:=by omega
   have hV:ckV (vs.drop j)=if Kj (vs.getD j 0) 0 999999999=0 then ckV (vs.drop (j+1)) else Kj (vs.getD j 0) 0 999999999:=by
    rw[Jq (d:=(0:Int)) hlt]
    exact Yq _ _
   have hW:Kj (vs.getD j 0) 0 999999999=bif Yi (vs.getD j 0) 0 999999999 then 3 else 0:=rfl
   refine⟨by omega,fun h7=> ?_,fun h7=>⟨by omega,(j+1:Nat),by(repeat' first|exact rfl|exact⟨⟩|apply And.intro|omega|dsimp only;omega),⟨by omega, ?_⟩,by omega⟩⟩
   ·rw[hW,h7] at hV
    have:ckV vs=3:=by rw[←hj.2,hV];rfl
    rw[hc,Yq,hN,if_pos rfl,Yq,this];rfl
   ·rw[hW,h7] at hV
    rw[←hj.2,hV];rfl
  ·have h8:¬(j:Int)<(Ka k).2.1:=of_decide_eq_false h8
   have hV:ckV vs=0:=by rw[←hj.2,List.drop_eq_nil_of_le (by omega)];rfl
   have hz:(t.toList==({data:={toList:=[]}}:ByteArray).toList)= !decide (0<t.size):=Jz2 t
   rw[hz,hc,Yq,hN,if_pos rfl,Yq,hV,if_pos rfl]
   cases decide (0<t.size)
   ·exact⟨fun h=>(nomatch h),fun _=>rfl⟩
   ·exact⟨fun _=>rfl,fun h=>(nomatch h)⟩
abbrev K64:=K2a.add K5c
abbrev K63:=K64
abbrev K62:=K63
abbrev K61:=K62
abbrev K60:=K61
abbrev K6z:=K60
abbrev K19:=K6z
def Jig (c:Int):Int:=bif c==115 then 0 else bif c==111 then 1 else bif c==120 then 2 else 3
def Jk0 (b:UInt8):Int×Bool:=bif decide ((97:Int)≤(b.toNat:Int)) then(Jig b.toNat,true) else(Jig (b.toNat+97-65),false)
theorem J2u (r:Reg) (c:Int) (s:ByteArray):Vi r (Jig c) s=decide (0≤atS r c s):=by
 unfold atS Jig
 cases h1:c==115 with
 |true=>rfl
 | false =>
  cases h2:c==111 with
  |true=>rfl
  |false=>
   cases h3:c==120 with
   |true=>rfl
   |false=>rfl
theorem Jr2 {k:ByteArray} (h:Yw k=true):(Jj k).1=(Ka k).1.data.toList.map Jk0∧((Jj k).1.drop 1).all (fun x=>x.2)=true:=by
 rcases U4 h with h|h|h|h|h|h|h|h|h|h|h<;>subst h
 all_goals exact⟨by kernel_rfl,by kernel_rfl⟩
theorem Jd5 {r:Reg} {ns:List ByteArray}:∀{l:List (Int×Bool)} {i:Nat},l.all (fun x=>x.2)=true→Ky r ns l i=false
 |[],_,_=>rfl
 |(w,b)::l,i,h=>by
  rw[List.all_cons,Bool.and_eq_true] at h
  have hb:b=true:=h.1
  subst hb
  unfold Ky
  exact Jd5 h.2
def Jv (r:Reg) (k:ByteArray) (ns:List ByteArray):Int:=bif Kk r ns (Jj k).1 0 then 10 else bif Ky r ns (Jj k).1 0 then 9 else 0
def Ka9:Con:={args:=[Xs,aEv],ress:=[I],owns:=[],pre:=fun(r,e,_)=>[Jl r,Yw e.2.1=true,e.2.2.1.length=(Jj e.2.1).1.length],spec:=fun(r,e,_)=>(Jv r e.2.1 e.2.2.1,())}
abbrev Kck (tk st:Int) (S:List Sta) (O:List Ord) (M:List Met) (X:List Out) (Q:List Per) (n:Int) (k:ByteArray) (ns:List ByteArray) (vs:List Int) (tx:ByteArray):Ann:={X:=Nat,σ:=fun i=>⟨9,[(2, .one (.ptr 7 0)),(3, .one (.ptr 8 0)),(5, .one (.str (Ka k).1)),(6, .one (.int .i64 i))],[(0, .imm 114 Dk S),(1, .imm 119 Hk O),(2, .imm 121 Dx M),(3, .imm 123 X6 X),(4, .imm 125 Zy Q),(5, .imm 9 .str ns),(6, .imm 3 sI vs),(7, .box 37 [.int .i64 tk, .int .i64 st, .sl 0, .sl 1, .sl 2, .sl 3, .sl 4]),(8, .box 67 [.int .i64 n, .str k, .sl 5, .sl 6, .str tx])]⟩,inv:=fun i=>i≤(Ka k).1.size∧Kk (tk,st,S,O,M,X,Q) ns ((Jj k).1.drop i) i=Kk (tk,st,S,O,M,X,Q) ns (Jj k).1 0,mu:=fun i=>(Ka k).1.size-i}
def K0z (a:Bt):=Nc (UInt8.toNat (List.getD (Ka a).1.data.toList 0 0))
def K0a (a:Bt) (b:Nat):=decide (97≤Nc (UInt8.toNat (List.getD (Ka a).1.data.toList b 0)))
def Kjn (a:Bt) (b:Nat):=K0a a b=true
def Kwj (a:Bt):=bif decide (0<Z7 a) then decide (K0z a<97) else false
def Kho (a:Bt):=Kwj a=true
def Khm (a:Nat) (b:Bt) (c d:Int) (e:List Sta) (f:List Ord) (g:List Met) (h:List Out) (i:List Per) (j:Ls):=a≤ByteArray.size (Ka b).1∧Kk (Z63 c d e f g h i) j (List.drop a (Jj b).1) a=Kk (Z63 c d e f g h i) j (Jj b).1 0
theorem Kng:Ok Tryz.prog 224 Ka9:=okW K19 Tryz.f224 (fun xx=>Xr (Kck xx.1.1 xx.1.2.1 xx.1.2.2.1 xx.1.2.2.2.1 xx.1.2.2.2.2.1 xx.1.2.2.2.2.2.1 xx.1.2.2.2.2.2.2 xx.2.1.1 xx.2.1.2.1 xx.2.1.2.2.1 xx.2.1.2.2.2.1 xx.2.1.2.2.2.2)) fun xx=>by
 obtain⟨⟨(tk:Int),(st:Int),(S:List Sta),(O:List Ord),(M:List Met),(X:List Out),(Q:List Per)⟩,⟨(n:Int),(k:ByteArray),(ns:List ByteArray),(vs:List Int),(tx:ByteArray)⟩,_⟩:=xx
 refine(by kernel_rfl:(Jw tk st S O M X Q→Yw k=true→List.length ns=List.length (Jj k).1→∃(x:Nat),Sf (Ka k).1 (0=Nc x∧Sf S (Sf O (Sf M (Sf X (Sf Q (Sf ns (Sf vs (Si tk (Si st (Si n (Sf k (tx=tx))))))))))))∧Khm x k tk st S O M X Q ns∧∀(x:Nat),Khm x k tk st S O M X Q ns→Br (decide (Nc x<Z7 k)) ((Bd (Nc x) (Z7 k)∧(Kjn k x→Bd (Nc x) (Z7 k))∧T2 (Kjn k x→Z69 x ns) (Kjn k x→Jw tk st S O M X Q))∧Br (bif K0a k x then decide (atS (Z63 tk st S O M X Q) (Nc (UInt8.toNat (List.getD (Ka k).1.data.toList x 0))) (Z15 ns x)<0) else false) (10=Jv (Z63 tk st S O M X Q) k ns) (Z16 x∧∃(y:Nat),Sf (Ka k).1 (Z82 x y∧Sf S (Sf O (Sf M (Sf X (Sf Q (Sf ns (Sf vs (Si tk (Si st (Si n (Sf k (tx=tx))))))))))))∧Khm y k tk st S O M X Q ns∧ByteArray.size (Ka k).1-y<ByteArray.size (Ka k).1-x)) (((decide (0<Z7 k)=true→Bd 0 (Z7 k))∧(Kho k→Bd 0 (Z7 k))∧T2 (Kho k→Z84 ns) (Kho k→Jw tk st S O M X Q))∧Br (bif Kwj k then decide (0≤atS (Z63 tk st S O M X Q) (IntKind.wrap IntKind.u8 (IntKind.wrap IntKind.u8 (K0z k+97)-65)) (Z83 ns)) else false) (9=Jv (Z63 tk st S O M X Q) k ns) (0=Jv (Z63 tk st S O M X Q) k ns)))=_).mp ?_
 delta Z7 Z15 Z16 Z63 Z69 Z82 Z83 Z84 Jw K0z K0a Kjn Kwj Kho Khm Br Iw Bd T2 Sf Si Ln Nc B0
 intro hr hk hn
 obtain⟨f1,f2,f3⟩:=Jnn hk
 have f2:(Ka k).1.size=(Jj k).1.length:=f2
 obtain⟨fr,fk⟩:=Jr2 hk
 have hB:=Jjf k
 have hfl:(Ka k).1.data.toList.length=(Ka k).1.size:=rfl
 have hb0:∀i,i<(Ka k).1.size→(Jj k).1.getD i (0,false)=Jk0 ((Ka k).1.data.toList.getD i 0):=fun i hi=>by
  rw[fr,List.getD_eq_getElem?_getD,List.getElem?_map,List.getD_eq_getElem?_getD]
  rw[List.getElem?_eq_getElem (by omega)];rfl
 refine⟨(0:Nat),by(repeat' first|exact rfl|exact⟨⟩|apply And.intro|omega|dsimp only;omega),⟨Nat.zero_le _,rfl⟩,fun(i:Nat) hi=>⟨fun h1=> ?_,fun h1=> ?_⟩⟩
 ·have hlt:i<(Ka k).1.size:=by simpa using h1
  have h0:=hi.2
  rw[Jq (d:=((0:Int),false)) (by omega),hb0 i hlt] at h0
  have hu:Kk (tk,st,S,O,M,X,Q) ns (Jk0 ((Ka k).1.data.toList.getD i 0)::(Jj k).1.drop (i+1)) i=bif (bif decide (97≤(((Ka k).1.data.toList.getD i 0).toNat:Int)) then decide (atS (tk,st,S,O,M,X,Q) (((Ka k).1.data.toList.getD i 0).toNat:Int) (ns.getD i Ja)<0) else false) then true else Kk (tk,st,S,O,M,X,Q) ns ((Jj k).1.drop (i+1)) (i+1):=by
   unfold Jk0
   cases hc:decide ((97:Int)≤(((Ka k).1.data.toList.getD i 0).toNat:Int)) with
   |false=>rfl
   | true =>
    rw[cond_true,Kk,J2u,cond_true]
    have:(!decide (0≤atS (tk,st,S,O,M,X,Q) (((Ka k).1.data.toList.getD i 0).toNat:Int) (ns.getD i Ja)))=decide (atS (tk,st,S,O,M,X,Q) (((Ka k).1.data.toList.getD i 0).toNat:Int) (ns.getD i Ja)<0):=by
     rw[Bool.eq_iff_iff];simp
    rw[this];rfl
  rw[hu] at h0
  refine⟨⟨by omega,fun _=>by omega,fun _=>by omega,fun _=>by omega,fun _=>hr⟩,fun h2=> ?_,fun h2=>⟨by omega,(i+1:Nat),by(repeat' first|exact rfl|exact⟨⟩|apply And.intro|omega|dsimp only;omega),⟨by omega, ?_⟩,by omega⟩⟩
  ·rw[show(bif decide (97≤(((Ka k).1.data.toList.getD i 0).toNat:Int)) then decide (atS (tk,st,S,O,M,X,Q) (((Ka k).1.data.toList.getD i 0).toNat:Int) (ns.getD i Ja)<0) else false)=true from h2,cond_true] at h0
   unfold Jv;rw[←h0];rfl
  ·rw[show(bif decide (97≤(((Ka k).1.data.toList.getD i 0).toNat:Int)) then decide (atS (tk,st,S,O,M,X,Q) (((Ka k).1.data.toList.getD i 0).toNat:Int) (ns.getD i Ja)<0) else false)=false from h2,cond_false] at h0
   exact h0
 ·have hlt:¬i<(Ka k).1.size:=by simpa using h1
  have h0:=hi.2
  rw[List.drop_eq_nil_of_le (by omega)] at h0
  have hu0:Kk (tk,st,S,O,M,X,Q) ns (Jj k).1 0=false:=h0.symm
  have hN:Jv (tk,st,S,O,M,X,Q) k ns=bif Ky (tk,st,S,O,M,X,Q) ns (Jj k).1 0 then 9 else 0:=by unfold Jv;rw[hu0];rfl
  have g0:∀{p:Prop},(bif decide ((0:Int)<((Ka k).1.size:Int)) then decide ((((Ka k).1.data.toList.getD 0 0).toNat:Int)<97) else false)=true→(Ka k).1.size≠0:=fun{p} h=>by
   intro q
   rw[q] at h
   cases h
  have hz:∀{b:Bool},(bif decide ((0:Int)<((Ka k).1.size:Int)) then b else false)=true→0<(Ka k).1.size:=fun{b} h=>by
   by_cases q:0<(Ka k).1.size
   ·exact q
   ·rw[decide_eq_false (show ¬(0:Int)<((Ka k).1.size:Int) by omega)] at h;cases h
  have key:(bif bif decide ((0:Int)<((Ka k).1.size:Int)) then decide ((((Ka k).1.data.toList.getD 0 0).toNat:Int)<97) else false then decide (0≤atS (tk,st,S,O,M,X,Q) (IntKind.u8.wrap (IntKind.u8.wrap ((((Ka k).1.data.toList.getD 0 0).toNat:Int)+97)-65)) (ns.getD 0 Ja)) else false)=Ky (tk,st,S,O,M,X,Q) ns (Jj k).1 0:=by
   by_cases q:0<(Ka k).1.size
   ·rw[decide_eq_true (show(0:Int)<((Ka k).1.size:Int) by omega),cond_true]
    have hc:=Jq (l:=(Jj k).1) (k:=0) (d:=((0:Int),false)) (by omega)
    rw[List.drop_zero,hb0 0 q] at hc
    rw[hc]
    unfold Jk0
    by_cases q1:(97:Int)≤(((Ka k).1.data.toList.getD 0 0).toNat:Int)
    ·rw[decide_eq_true q1,decide_eq_false (show ¬(((Ka k).1.data.toList.getD 0 0).toNat:Int)<97 by omega)]
     exact(Jd5 fk).symm
    ·rw[decide_eq_false q1,decide_eq_true (show(((Ka k).1.data.toList.getD 0 0).toNat:Int)<97 by omega)]
     rw[cond_true,cond_false,Ky,J2u,Jd5 fk,J3i (n:=(((Ka k).1.data.toList.getD 0 0).toNat:Int)+97) (by omega) (by omega),J3i (n:=(((Ka k).1.data.toList.getD 0 0).toNat:Int)+97-65) (by omega) (by omega)]
     show _=bif _ then true else false
     cases decide (0≤atS (tk,st,S,O,M,X,Q) ((((Ka k).1.data.toList.getD 0 0).toNat:Int)+97-65) (ns.getD 0 Ja))<;>rfl
   ·rw[decide_eq_false (show ¬(0:Int)<((Ka k).1.size:Int) by omega)]
    have:(Jj k).1=[]:=List.eq_nil_of_length_eq_zero (by omega)
    rw[this];rfl
  refine⟨⟨fun h=>⟨by decide,of_decide_eq_true h⟩,fun h=>⟨by decide,by have:=hz h;omega⟩,fun h=>⟨by decide,by have:=hz h;omega⟩,fun h=>⟨by decide,by have:=hz h;omega⟩,fun _=>hr⟩,fun h2=> ?_,fun h2=> ?_⟩
  ·rw[hN,show Ky (tk,st,S,O,M,X,Q) ns (Jj k).1 0=true from key.symm.trans h2];rfl
  ·rw[hN,show Ky (tk,st,S,O,M,X,Q) ns (Jj k).1 0=false from key.symm.trans h2];rfl
abbrev K18:=K19.add Kng
def Yd (Q:List Per) (s:ByteArray):Bool:=decide ((0:Int)<((Lz Q).filter fun p=>p.2.1.toList==s.toList).length)
theorem Jnm (x:Per) (Q:List Per) (s:ByteArray):Yd (x::Q) s=bif (bif x.2.1.toList==s.toList then x.2.2 else false) then true else Yd Q s:=by
 unfold Yd Lz
 rw[List.filter_cons]
 cases h1:x.2.2 with
 |false=>
  rw[if_neg (by simp)]
  cases(x.2.1.toList==s.toList)<;>rfl
 | true =>
  rw[if_pos rfl,List.filter_cons]
  cases h2:(x.2.1.toList==s.toList) with
  |false=>rfl
  |true=>
   rw[if_pos rfl]
   exact decide_eq_true (by simp only[List.length_cons];omega)
def Kbn:Con:={args:=[Xs,aS],ress:=[Bo],owns:=[],pre:=fun((_,_,_,_,_,_,Q),_)=>[Q.length≤1000000],spec:=fun((_,_,_,_,_,_,Q),s,_)=>(Yd Q s,())}
abbrev Kcj (tk st:Int) (S:List Sta) (O:List Ord) (M:List Met) (X:List Out) (Q:List Per) (s:ByteArray):Ann:={X:=Nat,σ:=fun k=>⟨6,[(1, .one (.str s)),(2, .one (.ptr 5 0)),(5, .one (.int .i64 k))],[(0, .imm 114 Dk S),(1, .imm 119 Hk O),(2, .imm 121 Dx M),(3, .imm 123 X6 X),(4, .imm 125 Zy Q),(5, .box 37 [.int .i64 tk, .int .i64 st, .sl 0, .sl 1, .sl 2, .sl 3, .sl 4])]⟩,inv:=fun k=>k≤Q.length∧Yd Q s=Yd (Q.drop k) s,mu:=fun k=>Q.length-k}
def Kk6 (a:Nat) (b:List Per) (c:Bt):=a≤List.length b∧Yd b c=Yd (List.drop a b) c
theorem Kms:Ok Tryz.prog 269 Kbn:=okW K18 Tryz.f269 (fun xx=>Xr (Kcj xx.1.1 xx.1.2.1 xx.1.2.2.1 xx.1.2.2.2.1 xx.1.2.2.2.2.1 xx.1.2.2.2.2.2.1 xx.1.2.2.2.2.2.2 xx.2.1)) fun xx=>by
 obtain⟨⟨(tk:Int),(st:Int),(S:List Sta),(O:List Ord),(M:List Met),(X:List Out),(Q:List Per)⟩,(s:ByteArray),_⟩:=xx
 refine(by kernel_rfl:(Z52 Q→∃(x:Nat),Jx7 s x S O M X Q tk st∧Kk6 x Q s∧∀(x:Nat),Kk6 x Q s→Br (Z91 x Q) (T2 (Bd (Nc x) (Ln Q)) (Tw (Lb (J3c Q x).1 s=true→Bd (Nc x) (Ln Q)))∧Br (bif Lb (J3c Q x).1 s then(J3c Q x).2 else false) (true=Yd Q s) (Z16 x∧∃(y:Nat),Jx6 s x y S O M X Q tk st∧Kk6 y Q s∧J03 Q y x)) (false=Yd Q s))=_).mp ?_
 delta Z16 Z52 Z82 Z91 J3c J03 Kk6 Jqe Jx7 Jx6 Br Iw Bd T2 Tw Sf Si Ln Nc B0 Lb
 intro hb
 refine⟨(0:Nat),by(repeat' first|exact rfl|exact⟨⟩|apply And.intro|omega|dsimp only;omega),⟨Nat.zero_le _,rfl⟩,fun(k:Nat) hk=>⟨fun h=> ?_,fun h=> ?_⟩⟩
 ·have hlt:k<Q.length:=by simpa using h
  have hd:=Jq (d:=Jix) hlt
  have h0:=hk.2
  rw[hd,Jnm] at h0
  refine⟨⟨by omega,by omega,fun _=>by omega,fun _=>by omega⟩,fun h1=> ?_,fun h1=>⟨by omega,(k+1:Nat),by(repeat' first|exact rfl|exact⟨⟩|apply And.intro|omega|dsimp only;omega),⟨by omega, ?_⟩,by omega⟩⟩
  ·rw[h0,show(bif (Q.getD k Jix).snd.fst.toList==s.toList then(Q.getD k Jix).snd.snd else false)=true from h1];rfl
  ·rw[h0,show(bif (Q.getD k Jix).snd.fst.toList==s.toList then(Q.getD k Jix).snd.snd else false)=false from h1];rfl
 ·have hlt:¬k<Q.length:=by simpa using h
  have:k=Q.length:=by omega
  rw[hk.2,this,List.drop_length];rfl
abbrev K17:=K18.add Kms
def Kb8 (t a b:Int):Bool:=bif (bif decide (a<t) then true else decide (b≤a)) then true else decide (48<b-a)
def J0d:Con:={args:=[aI, .val true Hv],ress:=[Bo],owns:=[],pre:=fun(_,s,_)=>[0≤s.1∧s.1≤999999999,0≤s.2∧s.2≤999999999],spec:=fun(t,s,_)=>(Kb8 t s.1 s.2,())}
theorem Kmt:Ok Tryz.prog 268 J0d:=okW K17 Tryz.f268 na fun xx=>by
 obtain⟨(t:Int),⟨(a:Int),(b:Int)⟩,_⟩:=xx
 refine(by kernel_rfl:(J9v a→J9v b→((bif decide (a<t) then true else decide (b≤a))=false→Iw (b-a))∧(bif bif decide (a<t) then true else decide (b≤a) then true else decide (48<b-a))=Kb8 t a b)=_).mp ?_
 delta J9v Iw
 intro h1 h2
 exact⟨fun _=>by omega,rfl⟩
abbrev Jsl:=K17.add Kmt
def Jcc (X:List Out):Prop:=(X.map fun x=>x.1).Nodup
theorem Ju7:∀{l:List Out} {k:Nat} {x:Out},(l.map fun x=>x.1).Nodup→x∈l→∃i,Vs (fun y:Out=>y.1.toList==x.1.toList) l k=((k+i:Nat):Int)∧i<l.length∧l.getD i Jbd=x
 |[],_,_,_,h=>by cases h
 | y :: l, k, x, hn, h => by
  rw[List.map_cons,List.nodup_cons] at hn
  unfold Vs
  by_cases q:(y.1.toList==x.1.toList)=true
  ·have q1:=Vd q
   rw[if_pos q]
   rcases List.mem_cons.1 h with h|h
   ·exact⟨0,rfl,by simp,h.symm⟩
   ·exact absurd (q1▸List.mem_map_of_mem (f:=fun z:Out=>z.1) h) hn.1
  ·rw[if_neg q]
   rcases List.mem_cons.1 h with h|h
   ·subst h;exact absurd (beq_self_eq_true _) q
   ·obtain⟨i,h1,h2,h3⟩:=Ju7 (k:=k+1) hn.2 h
    exact⟨i+1,by rw[h1];congr 1;omega,by simp;omega,h3⟩
theorem J3m {X:List Out} (h:Jcc X) {x:Out} (hx:x∈X):Ly X x.1=x:=by
 obtain⟨i,h1,_,h3⟩:=Ju7 (k:=0) h hx
 unfold Ly J7
 rw[h1,Nat.zero_add,Int.toNat_natCast]
 exact h3
theorem Jpk {α:Type} {p:α→Bool}:∀{l:List α} {k:Nat},Vs p l k<0→∀x∈l,p x=false
 |[],_,_,x,hx=>by cases hx
 | y :: l, k, h, x, hx => by
  unfold Vs at h
  by_cases q:p y=true
  ·rw[if_pos q] at h;omega
  ·rw[if_neg q] at h
   rcases List.mem_cons.1 hx with hx|hx
   ·subst hx;simpa using q
   ·exact Jpk h x hx
theorem Jq3 {X:List Out} {x:Out} (h:Jcc X) (hn:J7 X x.1<0):Jcc (X++[x]):=by
 unfold Jcc at h⊢
 rw[List.map_append,List.nodup_append]
 refine⟨h,by simp,fun a ha b hb=> ?_⟩
 obtain⟨y,hy,rfl⟩:=List.mem_map.1 ha
 have hb:b=x.1:=by simpa using hb
 subst hb
 intro e
 have:=Jpk hn y hy
 rw[e,beq_self_eq_true] at this
 cases this
theorem J3l {X:List Out} {s:ByteArray} {v:Int} (h:Jcc X) (hf:0≤J7 X s):Jcc (Jeb X s v):=by
 unfold Jcc Jeb at*
 have hl:=K0 (l:=X) (s:=s)
 rw[List.map_set]
 have:(X.map fun x=>x.1).set (J7 X s).toNat (Ly X s).1=X.map fun x=>x.1:=by
  apply List.ext_getElem?
  intro i
  rw[List.getElem?_set]
  by_cases q:(J7 X s).toNat=i
  ·rw[if_pos q]
   subst q
   rw[if_pos (by rw[List.length_map];omega),List.getElem?_map]
   unfold Ly
   rw[List.getD_eq_getElem?_getD,List.getElem?_eq_getElem (by omega)]
   rfl
  ·rw[if_neg q]
 rw[this]
 exact h
def Vq (r:Reg) (e:Ev):Int:=if decide (e.2.2.2.1.getD 0 0<r.1)=true then 22 else if Jv r e.2.1 e.2.2.1≠0 then Jv r e.2.1 e.2.2.1 else ckS r e
def Yu (r:Reg) (e:Ev):Reg:=if decide (e.2.2.2.1.getD 0 0<r.1)=true then r else if Jv r e.2.1 e.2.2.1≠0 then r else if ckS r e≠0 then(e.2.2.2.1.getD 0 0,r.2) else Ju r e
def Lr:Con:={args:=[Xs,aEv],ress:=[(true,Jkx),I],owns:=[],pre:=fun(r,e,_)=>[Jl r,Jcc r.2.2.2.2.2.1,r.2.2.2.2.1.length<10000,Jb e=0,(e.2.1.toList==J0.toList)=false],spec:=fun(r,e,_)=>(Yu r e,Vq r e,())}
abbrev Kaq:Ann:={X:=Unit,σ:=fun _=>⟨0,[],[]⟩,inv:=fun _=>True,mu:=fun _=>0,un:=7777}
abbrev Lt:Nat→Option Ann:=fun id=>if id=1000034 then some Kaq else none
abbrev Xw (o:Option Ann):FuncId→Nat→Option Ann:=fun f id=>if f=226∨f=227 then(if id=1000073∨id=1000147∨id=1000195∨id=1000233∨id=1000052∨id=1000077∨id=1000097∨id=1000198 then some Kaq else if id=1∨id=3 then o else none) else none
theorem Jrr {r:Reg} {k:ByteArray} {ns:List ByteArray} (h:Jv r k ns=0):Kk r ns (Jj k).1 0=false∧Ky r ns (Jj k).1 0=false:=by
 unfold Jv at h
 cases h1:Kk r ns (Jj k).1 0 with
 |true=>rw[h1] at h;cases h
 |false=>
  rw[h1,cond_false] at h
  cases h2:Ky r ns (Jj k).1 0 with
  |true=>rw[h2] at h;cases h
  |false=>exact⟨rfl,rfl⟩
theorem Jqa {r:Reg} {e:Ev} (h:decide (e.2.2.2.1.getD 0 0<r.1)=true):Yu r e=r∧Vq r e=22:=by unfold Yu Vq;rw[if_pos h,if_pos h];exact⟨rfl,rfl⟩
theorem Jl9 {r:Reg} {e:Ev} (h:decide (e.2.2.2.1.getD 0 0<r.1)=false) (h2:Jv r e.2.1 e.2.2.1≠0):Yu r e=r∧Vq r e=Jv r e.2.1 e.2.2.1:=by
 have a:¬decide (e.2.2.2.1.getD 0 0<r.1)=true:=by rw[h];simp
 unfold Yu Vq
 constructor
 ·rw[if_neg a,if_pos h2]
 ·rw[if_neg a,if_pos h2]
theorem Kcm {r:Reg} {e:Ev} {c:Int} (h:decide (e.2.2.2.1.getD 0 0<r.1)=false) (h2:Jv r e.2.1 e.2.2.1=0) (h3:ckS r e=c) (h4:c≠0):Yu r e=(e.2.2.2.1.getD 0 0,r.2)∧Vq r e=c:=by
 have a:¬decide (e.2.2.2.1.getD 0 0<r.1)=true:=by rw[h];simp
 have b:¬Jv r e.2.1 e.2.2.1≠0:=by rw[h2];simp
 have d:ckS r e≠0:=by rw[h3];exact h4
 unfold Yu Vq
 rw[if_neg a,if_neg a,if_neg b,if_neg b,if_pos d]
 exact⟨rfl,h3⟩
theorem Kcl {r:Reg} {e:Ev} (h:decide (e.2.2.2.1.getD 0 0<r.1)=false) (h2:Jv r e.2.1 e.2.2.1=0) (h3:ckS r e=0):Yu r e=Ju r e∧Vq r e=0:=by
 have a:¬decide (e.2.2.2.1.getD 0 0<r.1)=true:=by rw[h];simp
 have b:¬Jv r e.2.1 e.2.2.1≠0:=by rw[h2];simp
 have d:¬ckS r e≠0:=by rw[h3];simp
 unfold Yu Vq
 rw[if_neg a,if_neg a,if_neg b,if_neg b,if_neg d]
 exact⟨rfl,h3⟩
theorem Zc (n lo hi:Int):Kj n lo hi=bif Yi n lo hi then 3 else 0:=rfl
theorem Kcn {r:Reg} {e:Ev} (h:decide (e.2.2.2.1.getD 0 0<r.1)=false) (h2:(Jv r e.2.1 e.2.2.1 !=0)=false):Vq r e=ckS r e:=by
 have h2:Jv r e.2.1 e.2.2.1=0:=by simpa using h2
 unfold Vq
 rw[if_neg (by rw[h];simp),if_neg (by rw[h2];simp)]
theorem Krb {r:Reg} {e:Ev} (h:decide (e.2.2.2.1.getD 0 0<r.1)=false) (h2:(Jv r e.2.1 e.2.2.1 !=0)=false) (h3:ckS r e≠0):Yu r e=(e.2.2.2.1.getD 0 0,r.2):=by
 have h2:Jv r e.2.1 e.2.2.1=0:=by simpa using h2
 exact(Kcm h h2 rfl h3).1
theorem Krc {r:Reg} {e:Ev} (h:decide (e.2.2.2.1.getD 0 0<r.1)=false) (h2:(Jv r e.2.1 e.2.2.1 !=0)=false) (h3:ckS r e=0):Yu r e=Ju r e:=by
 have h2:Jv r e.2.1 e.2.2.1=0:=by simpa using h2
 exact(Kcl h h2 h3).1
theorem Jnl {α:Type} {p:α→Bool} {d:α}:∀{l:List α} {k:Nat},0≤Vs p l k→∃i,Vs p l k=((k+i:Nat):Int)∧p (l.getD i d)=true
 |[],k,h=>by unfold Vs at h;exact absurd h (by decide)
 | x :: l, k, h => by
  unfold Vs at h⊢
  by_cases q:p x=true
  ·rw[if_pos q];exact⟨0,rfl,q⟩
  ·rw[if_neg q] at h⊢
   obtain⟨i,h1,h2⟩:=Jnl (d:=d) h
   exact⟨i+1,by rw[h1];congr 1;omega,h2⟩
theorem Jla {X:List Out} {s:ByteArray} (h:0≤J7 X s):(Ly X s).1=s:=by
 unfold J7 at h
 obtain⟨i,h1,h2⟩:=Jnl (d:=Jbd) h
 have:Ly X s=X.getD i Jbd:=by unfold Ly J7;rw[h1,Nat.zero_add];rfl
 rw[this]
 exact Vd h2
theorem Kp0 {M:List Met} {s:ByteArray} {h:Int}:decide (0≤Kz M s h)=(Xv M s h).2:=by
 unfold Xv
 by_cases q:0≤Kz M s h
 ·rw[if_pos q,decide_eq_true q]
 ·rw[if_neg q,decide_eq_false q]
theorem Jp7 {f:Int→Bool} {a:Int} {k n:Nat} (h:k<n):Jr8 f (a+(k:Int)) (n-k)=bif f (a+(k:Int)) then true else Jr8 f (a+((k+1:Nat):Int)) (n-(k+1)):=by
 have hj:n-k=(n-(k+1))+1:=by omega
 rw[hj,Jr8]
 have:a+(k:Int)+1=a+((k+1:Nat):Int):=by push_cast;omega
 rw[this]
theorem Jp8 {f:Int→Bool} {a:Int} {k n:Nat} (h:n≤k):Jr8 f a (n-k)=false:=by
 have hj:n-k=0:=by omega
 rw[hj];rfl
theorem K5v (a b p:Int):decide (min a b<p)=bif decide (a<p) then true else decide (b<p):=by
 by_cases h:a<p
 ·rw[decide_eq_true h];exact decide_eq_true (by omega)
 ·rw[decide_eq_false h,cond_false]
  by_cases h2:b<p
  ·rw[decide_eq_true h2];exact decide_eq_true (by omega)
  ·rw[decide_eq_false h2];exact decide_eq_false (by omega)
theorem Kp5 {α:Type} {l:List α} {p:α→Bool}:decide ((0:Int)<(l.filter p).length)=l.any p:=by
 induction l with
 |nil=>rfl
 |cons x l ih=>
  rw[List.filter_cons,List.any_cons]
  cases h:p x with
  |true=>rw[if_pos rfl,Bool.true_or];exact decide_eq_true (by rw[List.length_cons];omega)
  |false=>rw[if_neg (by simp),Bool.false_or];exact ih
theorem J4g {X:List Out} {Q:List Per} {u:Int} (hu:Jcc X) (hp:∀p∈Q,0≤J7 X p.2.1):decide ((0:Int)<((Lz Q).filter fun p=>decide ((Ly X p.2.1).2.2.1.2≤u)).length)=X.any fun x=>decide (x.2.2.1.2≤u)&&Yd Q x.1:=by
 rw[Kp5,Bool.eq_iff_iff,List.any_eq_true,List.any_eq_true]
 constructor
 ·rintro⟨p,h1,h2⟩
  have hq:=Jlb h1
  have h3:=hp p hq
  refine⟨Ly X p.2.1,Juh h3, ?_⟩
  rw[h2,Bool.true_and]
  unfold Yd
  rw[Kp5,List.any_eq_true]
  exact⟨p,h1,by rw[Jla h3,beq_self_eq_true]⟩
 ·rintro⟨x,h1,h2⟩
  rw[Bool.and_eq_true] at h2
  obtain⟨h2,h3⟩:=h2
  unfold Yd at h3
  rw[Kp5,List.any_eq_true] at h3
  obtain⟨p,h4,h5⟩:=h3
  have h6:p.2.1=x.1:=Vd h5
  exact⟨p,h4,by rw[h6,J3m hu h1];exact h2⟩
theorem Xo {X:List Ord} {s:ByteArray} (h:0≤Kw X s):(X1 X s).1=s:=by
 unfold Kw at h
 obtain⟨i,h1,h2⟩:=Jnl (d:=Ki) h
 have:X1 X s=X.getD i Ki:=by unfold X1 Kw;rw[h1,Nat.zero_add];rfl
 rw[this]
 exact Vd h2
section
variable {r:Reg} {e:Ev}
theorem lfT (h:decide (e.2.2.2.1.getD 0 0<r.1)=true):True∧r=Yu r e∧22=Vq r e:=⟨trivial,(Jqa h).1.symm,(Jqa h).2.symm⟩
theorem lfN (h:decide (e.2.2.2.1.getD 0 0<r.1)=false) (h2:(Jv r e.2.1 e.2.2.1 !=0)=true):True∧r=Yu r e∧Jv r e.2.1 e.2.2.1=Vq r e:=⟨trivial,(Jl9 h (bne_iff_ne.mp h2)).1.symm,(Jl9 h (bne_iff_ne.mp h2)).2.symm⟩
theorem lfA {c:Int} {R:Reg} (h:decide (e.2.2.2.1.getD 0 0<r.1)=false) (h2:(Jv r e.2.1 e.2.2.1 !=0)=false) (h3:ckS r e=c) (h4:(c≠0∧(e.2.2.2.1.getD 0 0,r.2)=R)∨(c=0∧Ju r e=R)):True∧R=Yu r e∧c=Vq r e:=by
 rcases h4 with⟨h4,rfl⟩|⟨rfl,rfl⟩
 ·exact⟨trivial,(Krb h h2 (by rw[h3];exact h4)).symm,((Kcn h h2).trans h3).symm⟩
 ·exact⟨trivial,(Krc h h2 h3).symm,((Kcn h h2).trans h3).symm⟩
theorem Jx0 (hr:Jl r) (hc:Jb e=0):e.2.2.1.length=(Jj e.2.1).1.length∧(e.2.2.2.1.length:Int)=(Jj e.2.1).2.1∧r.2.2.1.length≤6∧r.2.2.2.1.length≤32∧r.2.2.2.2.2.1.length≤16∧r.2.2.2.2.2.2.length≤16∧∀i,i<e.2.2.2.1.length→(0≤e.2.2.2.1.getD i 0∧e.2.2.2.1.getD i 0≤999999999):=
 have hE:=Uo hc
 ⟨hE.nn,hE.nv,hr.nS,hr.nO,hr.nX,hr.nQ,fun _ hi=>hE.val _ (Jc hi)⟩
theorem fcN {k ns} (a:(Jv r k ns !=0)=false):Kk r ns (Jj k).1 0=false:=(Jrr (by simpa using a)).1
end
theorem K6m (a b:Bool):(a&&b)=bif a then b else false:=by cases a<;>rfl
theorem rcb:({data:={toList:=[]}}:ByteArray)=Ja:=congrArg (fun x=>x) rfl
theorem rcS (S s):List.getD S (Jy S s).toNat (Ja,0,0)=Hm S s:=congrArg (fun x=>x) rfl
theorem rcO (O s):List.getD O (Kw O s).toNat (Ja,Ja,Ja,(0,0),0,0,0)=X1 O s:=congrArg (fun x=>x) rfl
theorem rcX (X s):List.getD X (J7 X s).toNat (Ja,Ja,(0,0),0)=Ly X s:=congrArg (fun x=>x) rfl
theorem rcQ (Q s):List.getD Q (Uy Q s).toNat (Ja,Ja,false)=Jj5 Q s:=congrArg (fun x=>x) rfl
def Z50 (a:List Met):=List.length a<10000
def Jhw (a:Li) (b:Int):=decide (U2 a<b)
def Jhv (a:List Met):=(0+List.length a)*40≤140737488355328
def Jhu (a:List Sta):=(0+List.length a)*32≤140737488355328
def Jht (a:List Ord):=(0+List.length a)*88≤140737488355328
def Jhs (a:List Per):=(0+List.length a)*40≤140737488355328
def Jhr (a:List Out):=(0+List.length a)*56≤140737488355328
def Jdb (a:Li) (b:Int) (c:List Sta) (d:List Ord) (e:List Met) (f:List Out) (g:List Per):=(U2 a,b,c,d,e,f,g)
def Jsx (a b:Int) (c:List Sta) (d:List Ord) (e:List Met) (f:List Out) (g:List Per) (h:Ls):=Jw a b c d e f g∧Sf true (List.length h=1)
theorem Jh1 (tk st:Int) (S:List Sta) (O:List Ord) (M:List Met) (X:List Out) (Q:List Per) (n:Int) (ns:List ByteArray) (vs:List Int) (tx:ByteArray):wpFG Tryz.prog Jsl.g Lt (Xw (none)) (Sx.look ([(225,Tryz.f225),(226,Tryz.f226),(227,Tryz.f227)]:List (Nat×Func))) Tryz.f132 Lr ((tk,st,S,O,M,X,Q),(n,Js,ns,vs,tx),()):=by
 refine(by kernel_rfl:(Jw tk st S O M X Q→Jcc X→Z50 M→Jb (Z29 n ns vs tx)=0→Lb Js J0=false→Z87 vs∧Br (Jhw vs tk) (Sf true (Z63 tk st S O M X Q=Yu (Z63 tk st S O M X Q) (Z29 n ns vs tx)∧22=Vq (Z63 tk st S O M X Q) (Z29 n ns vs tx))) (Jsx tk st S O M X Q ns∧Br (Jv (Z63 tk st S O M X Q) Js ns !=0) (Sf true (Z63 tk st S O M X Q=Yu (Z63 tk st S O M X Q) (Z29 n ns vs tx)∧Jv (Z63 tk st S O M X Q) Js ns=Vq (Z63 tk st S O M X Q) (Z29 n ns vs tx))) (Jhu S∧Jht O∧Jhv M∧Jhr X∧Jhs Q∧Z98 vs∧Br (Yi (Z88 vs) 1 1000) (Z87 vs∧Sf true (Jdb vs st S O M X Q=Yu (Z63 tk st S O M X Q) (Z29 n ns vs tx)∧3=Vq (Z63 tk st S O M X Q) (Z29 n ns vs tx))) (Br (decide (6≤Ln ([]++S))) (Z87 vs∧Sf true (Jdb vs st S O M X Q=Yu (Z63 tk st S O M X Q) (Z29 n ns vs tx)∧5=Vq (Z63 tk st S O M X Q) (Z29 n ns vs tx))) (Ki4 ns vs S∧Z87 vs∧Sf true ((U2 vs,st,Kj1 S ns vs,O,M,X,Q)=Yu (Z63 tk st S O M X Q) (Z29 n ns vs tx)∧0=Vq (Z63 tk st S O M X Q) (Z29 n ns vs tx)))))))=_).mp ?_
 delta Z24 Z28 Z29 Z50 Z63 Z83 Z84 Z87 Z88 Z98 U2 Jw Jhw Jhv Jhu Jht Jhs Jhr Jdb Jsx Kj1 Ki4 Br Bd T2 Tw Sf Ln B0 Lb Js J0
 intro hr hu hm hc _
 obtain⟨hn,hv,nS,nO,nX,nQ,hx⟩:=Jx0 hr hc
 simp only[K2,List.length_cons,List.length_nil] at hn hv nS nO nX nQ hx
 have cE:ckS (tk,st,S,O,M,X,Q) (n,Js,ns,vs,tx)=Jl4 S vs:=by simp only[ckS,K2]
 have sE:Ju (tk,st,S,O,M,X,Q) (n,Js,ns,vs,tx)=(vs.getD 0 0,(Ja0 (tk,st,S,O,M,X,Q) (n,Js,ns,vs,tx)).2):=by simp only[Ju,doS,K2]
 simp only[List.nil_append,rcb,rcS,rcO,rcX,rcQ,Prod.eta]
 repeat' first|exact lfT ‹_›|exact lfN ‹_› ‹_›|exact lfA ‹_› ‹_› (cE.trans (by clear cE sE hx hc;simp only[Jl4,Jg,Zc,List.nil_append, *,cond_true,cond_false,reduceIte,decide_true,decide_false,Bool.not_true,Bool.not_false,Int.reduceEq,Int.reduceNe,ne_eq,not_false_eq_true,not_true_eq_false];first|done|rfl|decide)) (by first|exact .inl ⟨by decide,rfl⟩|exact .inl ⟨bne_iff_ne.mp ‹_›,rfl⟩|exact .inr ⟨rfl,sE.trans (by first|rfl|simp only[Ja0,List.nil_append])⟩)|apply And.intro|intro _
 all_goals first|omega|trivial|assumption
def Kz8 (a:List Sta) (b:Ls):=Gt ([]++a) (J3a a b) Z8
theorem Jmn (tk st:Int) (S:List Sta) (O:List Ord) (M:List Met) (X:List Out) (Q:List Per) (n:Int) (ns:List ByteArray) (vs:List Int) (tx:ByteArray):wpFG Tryz.prog Jsl.g Lt (Xw (none)) (Sx.look ([(225,Tryz.f225),(226,Tryz.f226),(227,Tryz.f227)]:List (Nat×Func))) Tryz.f132 Lr ((tk,st,S,O,M,X,Q),(n,Kv,ns,vs,tx),()):=by
 refine(by kernel_rfl:(Jw tk st S O M X Q→Jcc X→Z50 M→Jb (Z10 n ns vs tx)=0→Lb Kv J0=false→Z87 vs∧Br (Jhw vs tk) (Sf true (Z63 tk st S O M X Q=Yu (Z63 tk st S O M X Q) (Z10 n ns vs tx)∧22=Vq (Z63 tk st S O M X Q) (Z10 n ns vs tx))) (Jsx tk st S O M X Q ns∧Br (Jv (Z63 tk st S O M X Q) Kv ns !=0) (Sf true (Z63 tk st S O M X Q=Yu (Z63 tk st S O M X Q) (Z10 n ns vs tx)∧Jv (Z63 tk st S O M X Q) Kv ns=Vq (Z63 tk st S O M X Q) (Z10 n ns vs tx))) (Jhu S∧Jht O∧Jhv M∧Jhr X∧Jhs Q∧Z98 vs∧Br (decide (1000<Z88 vs)) (Z87 vs∧Sf true (Jdb vs st S O M X Q=Yu (Z63 tk st S O M X Q) (Z10 n ns vs tx)∧3=Vq (Z63 tk st S O M X Q) (Z10 n ns vs tx))) (T2 (Z84 ns) (Z58 S∧T2 (Z28 vs) (Tw (Bd (J3a S ns) (Ln ([]++S)))))∧Z87 vs∧Sf true ((U2 vs,st,List.set ([]++S) (Int.toNat (J3a S ns)) ((Kz8 S ns).1,(Kz8 S ns).2.1,Z88 vs),O,M,X,Q)=Yu (Z63 tk st S O M X Q) (Z10 n ns vs tx)∧0=Vq (Z63 tk st S O M X Q) (Z10 n ns vs tx))))))=_).mp ?_
 delta Z8 Z10 Z24 Z28 Z50 Z58 Z63 Z83 Z84 Z87 Z88 Z98 U2 Jw J3a Jhw Jhv Jhu Jht Jhs Jhr Jdb Jsx Kz8 Br Bd T2 Tw Sf Ln Gt B0 Lb Kv J0
 intro hr hu hm hc _
 obtain⟨hn,hv,nS,nO,nX,nQ,hx⟩:=Jx0 hr hc
 simp only[U8,List.length_cons,List.length_nil] at hn hv nS nO nX nQ hx
 have cE:ckS (tk,st,S,O,M,X,Q) (n,Kv,ns,vs,tx)=Jn0 vs:=by simp only[ckS,U8]
 have sE:Ju (tk,st,S,O,M,X,Q) (n,Kv,ns,vs,tx)=(vs.getD 0 0,(Fg (tk,st,S,O,M,X,Q) (n,Kv,ns,vs,tx)).2):=by simp only[Ju,doS,U8]
 have hp:decide (vs.getD 1 0<0)=false:=decide_eq_false (by have:=hx 1 (by omega);omega)
 have hF:(Jv (tk,st,S,O,M,X,Q) Kv ns !=0)=false→(0≤Jy S (ns.getD 0 Ja)∧Jy S (ns.getD 0 Ja)<S.length):=fun a=>by
  have z:=fcN a
  rw[U8] at z
  obtain⟨k0,z⟩:=Jn z
  exact⟨Jrz (k0 rfl),K6⟩
 simp only[List.nil_append,rcb,rcS,rcO,rcX,rcQ,Prod.eta]
 repeat' first|exact lfT ‹_›|exact lfN ‹_› ‹_›|exact lfA ‹_› ‹_› (cE.trans (by clear cE sE hF hx hc;simp only[Jn0,Kj,Bool.false_or,Zc,List.nil_append, *,cond_true,cond_false,reduceIte,decide_true,decide_false,Bool.not_true,Bool.not_false,Int.reduceEq,Int.reduceNe,ne_eq,not_false_eq_true,not_true_eq_false];first|done|rfl|decide)) (by first|exact .inl ⟨by decide,rfl⟩|exact .inl ⟨bne_iff_ne.mp ‹_›,rfl⟩|exact .inr ⟨rfl,sE.trans (by first|rfl|simp only[Fg,List.nil_append]|simp only[Fg,Xo (hF ‹_›).1])⟩)|apply And.intro|intro _
 all_goals first|omega|trivial|assumption|(have:=hF ‹_›;omega)
abbrev Jhp (tk st:Int) (S:List Sta) (O:List Ord) (M:List Met) (X:List Out) (Q:List Per) (n:Int) (ns:List ByteArray) (vs:List Int) (tx:ByteArray):Ann:={X:=Nat,σ:=fun k=>⟨30,[(2, .one (.ptr 25 0)),(3, .one (.ptr 26 0)),(4, .one (.ptr 27 0)),(6, .one (.sl 6)),(7, .one (.ptr 28 0)),(8, .one (.int .i64 (vs.getD 1 0+k)))],[(5, .imm 9 .str ns),(6, .imm 3 sI vs),(8, .box 67 [.int .i64 n, .str Ke, .sl 5, .sl 6, .str tx]),(9, .box 37 J1y),(23, .box 37 [.int .i64 tk, .int .i64 st, .sl 14, .sl 16, .sl 18, .sl 20, .sl 22]),(24, .sus [(3, .one (.ptr 8 0)),(4, .one (.ptr 9 0)),(7, .one (.ptr 23 0))]),(25, .box 37 [.int .i64 tk, .int .i64 st, .sl 14, .sl 16, .sl 18, .sl 20, .sl 22]),(26, .box 67 [.int .i64 n, .str Ke, .sl 5, .sl 6, .str tx]),(27, .box 37 J1y),(28, .box 117 [.int .i64 (vs.getD 1 0), .int .i64 (vs.getD 2 0)]),(14, .own 114 Dk S),(16, .own 119 Hk O),(18, .own 121 Dx M),(20, .own 123 X6 X),(22, .own 125 Zy Q)]⟩,inv:=fun k=>k≤(vs.getD 2 0-vs.getD 1 0).toNat∧Jve S O X (n,Ke,ns,vs,tx)=Jr8 (fun h=>decide (min (Xn S O X (ns.getD 1 Ja) h) (Xn S O X (ns.getD 2 Ja) h)<vs.getD 3 0)) (vs.getD 1 0+k) ((vs.getD 2 0-vs.getD 1 0).toNat-k),mu:=fun k=>(vs.getD 2 0-vs.getD 1 0).toNat-k}
def Jsz (a:Li) (b:Nat):=Z88 a+Nc b
def Kfi (a:Li) (b:Nat):=Jsz a b+1
def Kk0 (a:Li):=Int.toNat (Z95 a-Z88 a)
def Kkw (a:Li) (b:Nat):=Z88 a=Jsz a b
def J8v (a:Li) (b:Nat):=Kk0 a-b
def Kkr (a:Nat) (b:Li):=a≤Kk0 b
def Kkg (a:Li) (b:Nat):=decide (Jsz a b<Z95 a)
def Kjm (a:Li):=Kb8 (U2 a) (Z88 a) (Z95 a)
def Kjl (a:Li) (b c:Nat):=Kfi a b=Jsz a c
def J8m (a:Li) (b:Int) (c:List Sta) (d:List Ord) (e:List Met) (f:List Out) (g:List Per) (h i:Int) (j:Ls) (k:Bt):=Jdb a b c d e f g=Yu (Z63 h b c d e f g) (Z12 i j a k)
def Kd8 (a:List Sta) (b:List Ord) (c:List Out) (d:Ls) (e:Li) (f:Nat):=decide (Xn a b c (Z97 d) (Jsz e f)<Z85 e)=false
def Khq (a:Li) (b c:Nat):=J8v a b<J8v a c
def Kg5 (a:Li):=T2 (Z24 a) ((0≤Z88 a∧Z88 a≤999999999)∧0≤Z95 a∧Z95 a≤999999999)
def Kgl (a:Nat) (b:Li) (c:List Sta) (d:List Ord) (e:List Out) (f:Int) (g:Ls) (h:Bt):=Kkr a b∧Jve c d e (Z12 f g b h)=Jr8 (fun(h:Int)=>decide (min (Xn c d e (Jj2 g) h) (Xn c d e (J65 g) h)<Z85 b)) (Jsz b a) (J8v b a)
def Kgk (a:Bt) (b:Li) (c:List Sta) (d:List Ord) (e:List Met) (f:List Out) (g:List Per):=Sf a (Si 0 (Si 0 (Sf Vn (Sf Vn (Sf Vn (Sf Vn (Sf Vn (Si (Z88 b) (Si (Z95 b) (Sf c (Sf d (Sf e (Sf f (g=g))))))))))))))
def J7u (a:Ls) (b:Li) (c:Int) (d:Bt) (e f:Int) (g:List Sta) (h:List Ord) (i:List Met) (j:List Out) (k:List Per):=Sf a (Sf b (Si c (Sf Ke (Sf d (Si 0 (Si 0 (Sf Vn (Sf Vn (Sf Vn (Sf Vn (Sf Vn (Si e (Si f (Si e (Si f (Si c (Sf Ke (Kgk d b g h i j k))))))))))))))))))
theorem Jmo (tk st:Int) (S:List Sta) (O:List Ord) (M:List Met) (X:List Out) (Q:List Per) (n:Int) (ns:List ByteArray) (vs:List Int) (tx:ByteArray):wpFG Tryz.prog Jsl.g Lt (Xw (some (Jhp tk st S O M X Q n ns vs tx))) (Sx.look ([(225,Tryz.f225),(226,Tryz.f226),(227,Tryz.f227)]:List (Nat×Func))) Tryz.f132 Lr ((tk,st,S,O,M,X,Q),(n,Ke,ns,vs,tx),()):=by
 refine(by kernel_rfl:(Jw tk st S O M X Q→Jcc X→Z50 M→Jb (Z12 n ns vs tx)=0→Lb Ke J0=false→Z87 vs∧Br (Jhw vs tk) (Sf true (Z63 tk st S O M X Q=Yu (Z63 tk st S O M X Q) (Z12 n ns vs tx)∧22=Vq (Z63 tk st S O M X Q) (Z12 n ns vs tx))) ((Jw tk st S O M X Q∧Sf true (Js2 ns))∧Br (Jv (Z63 tk st S O M X Q) Ke ns !=0) (Sf true (Z63 tk st S O M X Q=Yu (Z63 tk st S O M X Q) (Z12 n ns vs tx)∧Jv (Z63 tk st S O M X Q) Ke ns=Vq (Z63 tk st S O M X Q) (Z12 n ns vs tx))) (Jhu S∧Jht O∧Jhv M∧Jhr X∧Jhs Q∧J83 vs∧T2 (Z96 ns) (Tw (Z94 ns))∧Br (Klb ns) (Z87 vs∧Sf true (J8m vs st S O M X Q tk n ns tx∧24=Vq (Z63 tk st S O M X Q) (Z12 n ns vs tx))) (Kg5 vs∧Br (Kjm vs) (Z87 vs∧Sf true (J8m vs st S O M X Q tk n ns tx∧14=Vq (Z63 tk st S O M X Q) (Z12 n ns vs tx))) (Jym vs∧Br (Yi (Z85 vs) 1 1000) (Z87 vs∧Sf true (J8m vs st S O M X Q tk n ns tx∧3=Vq (Z63 tk st S O M X Q) (Z12 n ns vs tx))) (∃(x:Nat),(Kkw vs x∧J7u ns vs n tx tk st S O M X Q)∧Kgl x vs S O X n ns tx∧∀(x:Nat),Kgl x vs S O X n ns tx→Br (Kkg vs x) (T2 (Z96 ns) (Jw tk st S O M X Q∧J25 S ns∧T2 (Z23 vs) (T2 (Kd8 S O X ns vs x→Z94 ns) ((Kd8 S O X ns vs x→Jw tk st S O M X Q)∧(Kd8 S O X ns vs x→0≤Jy S (Joe ns))∧Tw (Kd8 S O X ns vs x→Z23 vs))))∧Br (bif decide (Xn S O X (Z97 ns) (Jsz vs x)<Z85 vs) then true else decide (Xn S O X (Joe ns) (Jsz vs x)<Z85 vs)) (Z87 vs∧Sf true (J8m vs st S O M X Q tk n ns tx∧4=Vq (Z63 tk st S O M X Q) (Z12 n ns vs tx))) (Iw (Kfi vs x)∧∃(y:Nat),(Kjl vs x y∧J7u ns vs n tx tk st S O M X Q)∧Kgl y vs S O X n ns tx∧Khq vs y x)) (Br (decide (32≤Ln O)) (Z87 vs∧Sf true (J8m vs st S O M X Q tk n ns tx∧5=Vq (Z63 tk st S O M X Q) (Z12 n ns vs tx))) (T2 (Z84 ns) (T2 (Z96 ns) (T2 (Z94 ns) (T2 (Z23 vs) (T2 (Z96 ns) (Z58 S∧T2 (Bd (Jyh S ns) (Ln S)) ((List.length O+1)*88≤140737488355328))))))∧Z87 vs∧Sf true ((U2 vs,st,S,O++[(Z83 ns,Z97 ns,Joe ns,J80 vs,Z85 vs,(Gt S (Jyh S ns) Z8).2.2,Z64)],M,X,Q)=Yu (Z63 tk st S O M X Q) (Z12 n ns vs tx)∧0=Vq (Z63 tk st S O M X Q) (Z12 n ns vs tx))))))))))=_).mp ?_
 delta Z8 Z12 Z23 Z24 Z28 Z30 Z50 Z58 Z63 Z64 Z83 Z84 Z85 Z87 Z88 Z94 Z95 Z96 Z97 Joe Jym U2 J65 Jj2 Js2 Jw Vn Jyh Jsz Jhw Jhv Jhu Jht Jhs Jhr J25 Kfi Jdb J83 J80 Klb Kk0 Kkw J8v Kkr Kkg Kjm Kjl J8m Kd8 Khq Kg5 Kgl Kgk J7u Br Iw Bd T2 Tw Sf Si Ln Nc Gt B0 Lb Ke J0
 intro hr hu hm hc _
 obtain⟨hn,hv,nS,nO,nX,nQ,hx⟩:=Jx0 hr hc
 simp only[Uj,List.length_cons,List.length_nil] at hn hv nS nO nX nQ hx
 have cE:ckS (tk,st,S,O,M,X,Q) (n,Ke,ns,vs,tx)=Jb6 S O X (n,Ke,ns,vs,tx):=by simp only[ckS,Uj]
 have sE:Ju (tk,st,S,O,M,X,Q) (n,Ke,ns,vs,tx)=(vs.getD 0 0,(Fk (tk,st,S,O,M,X,Q) (n,Ke,ns,vs,tx)).2):=by simp only[Ju,doS,Uj]
 have hF:(Jv (tk,st,S,O,M,X,Q) Ke ns !=0)=false→(0≤Jy S (ns.getD 1 Ja)∧Jy S (ns.getD 1 Ja)<S.length)∧(0≤Jy S (ns.getD 2 Ja)∧Jy S (ns.getD 2 Ja)<S.length):=fun a=>by
  have z:=fcN a
  rw[Uj] at z
  obtain⟨k0,z⟩:=Jn z
  obtain⟨k1,z⟩:=Jn z
  obtain⟨k2,z⟩:=Jn z
  exact⟨⟨Jrz (k1 rfl),K6⟩,⟨Jrz (k2 rfl),K6⟩⟩
 have v1:=hx 1 (by omega)
 have v2:=hx 2 (by omega)
 have v3:=hx 3 (by omega)
 have pE:Ze (n,Ke,ns,vs,tx)=bif Kb8 (vs.getD 0 0) (vs.getD 1 0) (vs.getD 2 0) then 14 else 0:=rfl
 simp only[List.nil_append,rcb,rcS,rcO,rcX,rcQ,Prod.eta]
 repeat' first|exact lfT ‹_›|exact lfN ‹_› ‹_›|exact lfA ‹_› ‹_› (cE.trans (by clear cE sE hF hx hc;simp only[Jb6,Jhm,Jg,Zc,List.nil_append, *,cond_true,cond_false,reduceIte,decide_true,decide_false,Bool.not_true,Bool.not_false,Int.reduceEq,Int.reduceNe,ne_eq,not_false_eq_true,not_true_eq_false];first|done|rfl|decide)) (by first|exact .inl ⟨by decide,rfl⟩|exact .inl ⟨bne_iff_ne.mp ‹_›,rfl⟩|exact .inr ⟨rfl,sE.trans (by first|rfl|(simp only[Fk,List.nil_append];done)|simp only[Fk,Xo (hF ‹_›).1])⟩)|(refine⟨(0:Nat),by(repeat' first|exact rfl|exact⟨⟩|apply And.intro|omega|dsimp only;omega),⟨Nat.zero_le _,by simp[Hg,Vx,Jve]⟩,fun(k:Nat) hk=>⟨fun h1=> ?_,fun h1=> ?_⟩⟩;obtain⟨k1,k2⟩:=hk;replace h1:=of_decide_eq_true h1;rw[Jp7 (by omega)] at k2;rw[K5v] at k2;rotate_left;obtain⟨k1,k2⟩:=hk;replace h1:=of_decide_eq_false h1;rw[Jp8 (by omega)] at k2)|(refine⟨(k+1:Nat),by(repeat' first|exact rfl|exact⟨⟩|apply And.intro|omega|dsimp only;omega),⟨by omega, ?_⟩,by omega⟩;rw[k2,show(bif decide (Xn S O X (ns.getD 1 Ja) (vs.getD 1 0+k)<vs.getD 3 0) then true else decide (Xn S O X (ns.getD 2 Ja) (vs.getD 1 0+k)<vs.getD 3 0))=false from ‹_›];rfl)|apply And.intro|intro _
 all_goals first|omega|trivial|assumption|(have:=hF ‹_›;omega)
def Kfb (a:List Ord) (b:Ls):=Bd (Jqo a b) (Ln ([]++a))
def Kkv (a:List Ord) (b:Ls):=Tw (Kfb a b)
def J8n (a:Li) (b:Int) (c:List Sta) (d:List Ord) (e:List Met) (f:List Out) (g:List Per) (h i:Int) (j:Ls) (k:Bt):=Jdb a b c d e f g=Yu (Z63 h b c d e f g) (Z11 i j a k)
def Kik (a:List Ord) (b:Ls):=Gt ([]++a) (Jqo a b) Jc3
def Kii (a:List Ord) (b:Ls):=(Kik a b).2
def J8k (a:List Ord) (b:Ls):=(Kik a b).1
def Kie (a:List Ord) (b:Ls):=(Kii a b).2
def Kid (a:List Ord) (b:Ls):=(Kii a b).1
def Kh9 (a:List Ord) (b:Ls):=(Kie a b).1
def Kh8 (a:List Ord) (b:Ls):=(Kie a b).2
def Kh7 (a:List Ord) (b:Ls):=(Kh8 a b).1
def Kh6 (a:List Ord) (b:Ls):=(Kh8 a b).2
def Kd7 (a:List Ord) (b:Ls):=(Kh6 a b).1
def Kd6 (a:List Ord) (b:Ls):=(Kh6 a b).2
def Kh4 (a:List Ord) (b:Ls):=(Kd6 a b).2
def Kdy (a:List Ord) (b:Ls):=E2 (Kh7 a b)
def Kvj (a:List Ord) (b:Ls) (c:Li):=decide (Kd7 a b<Z95 c)
def Ku9 (a:List Ord) (b:Ls) (c:Li):=Kvj a b c=false
theorem Jmp (tk st:Int) (S:List Sta) (O:List Ord) (M:List Met) (X:List Out) (Q:List Per) (n:Int) (ns:List ByteArray) (vs:List Int) (tx:ByteArray):wpFG Tryz.prog Jsl.g Lt (Xw (none)) (Sx.look ([(225,Tryz.f225),(226,Tryz.f226),(227,Tryz.f227)]:List (Nat×Func))) Tryz.f132 Lr ((tk,st,S,O,M,X,Q),(n,Kq,ns,vs,tx),()):=by
 refine(by kernel_rfl:(Jw tk st S O M X Q→Jcc X→Z50 M→Jb (Z11 n ns vs tx)=0→Lb Kq J0=false→Z87 vs∧Br (Jhw vs tk) (Sf true (Z63 tk st S O M X Q=Yu (Z63 tk st S O M X Q) (Z11 n ns vs tx)∧22=Vq (Z63 tk st S O M X Q) (Z11 n ns vs tx))) (Jsx tk st S O M X Q ns∧Br (Jv (Z63 tk st S O M X Q) Kq ns !=0) (Sf true (Z63 tk st S O M X Q=Yu (Z63 tk st S O M X Q) (Z11 n ns vs tx)∧Jv (Z63 tk st S O M X Q) Kq ns=Vq (Z63 tk st S O M X Q) (Z11 n ns vs tx))) (Jhu S∧Jht O∧Jhv M∧Jhr X∧Jhs Q∧T2 (Z84 ns) (Z53 O∧Kkv O ns)∧T2 (Z28 vs) (Z87 vs)∧Br (Kk2 vs) (Z87 vs∧Sf true (J8n vs st S O M X Q tk n ns tx∧11=Vq (Z63 tk st S O M X Q) (Z11 n ns vs tx))) (Z98 vs∧Br (!Kp (Kdy O ns) (Z88 vs)) (Z87 vs∧Sf true (J8n vs st S O M X Q tk n ns tx∧14=Vq (Z63 tk st S O M X Q) (Z11 n ns vs tx))) (T2 (Z28 vs) (Z64≤Kh4 O ns)∧Br (!Jr (J8k O ns,Kid O ns,Kh9 O ns,Kdy O ns,Kd7 O ns,E2 (Kd6 O ns)) (Z88 vs)) (Z87 vs∧Sf true (J8n vs st S O M X Q tk n ns tx∧23=Vq (Z63 tk st S O M X Q) (Z11 n ns vs tx))) (T2 (Z28 vs) (Jw tk st S O M X Q)∧Br (Xv M (J8k O ns) (Z88 vs)).2 (Z87 vs∧Sf true (J8n vs st S O M X Q tk n ns tx∧9=Vq (Z63 tk st S O M X Q) (Z11 n ns vs tx))) (T2 (Z30 vs) (T2 (Ku9 O ns vs→Z23 vs) (Tw (Ku9 O ns vs→Z30 vs)))∧Br (bif Kvj O ns vs then true else Kk1 vs) (Z87 vs∧Sf true (J8n vs st S O M X Q tk n ns tx∧3=Vq (Z63 tk st S O M X Q) (Z11 n ns vs tx))) (Kh2 vs M∧Z87 vs∧Sf true ((U2 vs,st,S,O,M++[(J8k O ns,Kjq vs)],X,Q)=Yu (Z63 tk st S O M X Q) (Z11 n ns vs tx)∧0=Vq (Z63 tk st S O M X Q) (Z11 n ns vs tx))))))))))=_).mp ?_
 delta Z11 Z23 Z24 Z28 Z30 Z50 Z53 Z63 Z64 Z65 Z83 Z84 Z85 Z87 Z88 Z95 Z98 U2 Jw Jqo Jhw Jhv Jhu Jht Jhs Jhr Jdb Jc3 Kfb Kk2 Kk1 Kkv Jsx Kjq J8n Kik Kii J8k Kie Kid Kh9 Kh8 Kh7 Kh6 Kd7 Kd6 Kh4 Kh2 Kdy Kvj Ku9 Br Bd T2 Tw Sf Ln Gt B0 Lb E2 Kq J0
 intro hr hu hm hc _
 obtain⟨hn,hv,nS,nO,nX,nQ,hx⟩:=Jx0 hr hc
 simp only[Uk,List.length_cons,List.length_nil] at hn hv nS nO nX nQ hx
 have cE:ckS (tk,st,S,O,M,X,Q) (n,Kq,ns,vs,tx)=Jl5 O M ns vs:=by simp only[ckS,Uk]
 have sE:Ju (tk,st,S,O,M,X,Q) (n,Kq,ns,vs,tx)=(vs.getD 0 0,(Fl (tk,st,S,O,M,X,Q) (n,Kq,ns,vs,tx)).2):=by simp only[Ju,doS,Uk]
 have hF:(Jv (tk,st,S,O,M,X,Q) Kq ns !=0)=false→(0≤Kw O (ns.getD 0 Ja)∧Kw O (ns.getD 0 Ja)<O.length):=fun a=>by
  have z:=fcN a
  rw[Uk] at z
  obtain⟨k0,z⟩:=Jn z
  exact⟨J2i (k0 rfl),Ua⟩
 have hP:(Jv (tk,st,S,O,M,X,Q) Kq ns !=0)=false→-1≤(X1 O (ns.getD 0 Ja)).2.2.2.2.2.2:=fun a=>(hr.ord _ (Jbq (hF a).1)).trip.1
 simp only[List.nil_append,rcb,rcS,rcO,rcX,rcQ,Prod.eta]
 repeat' first|exact lfT ‹_›|exact lfN ‹_› ‹_›|exact lfA ‹_› ‹_› (cE.trans (by have hp:=hP ‹_›;clear cE sE hF hP hx hc;simp only[Jl5,Kp0,Jg,Zc,List.nil_append, *,cond_true,cond_false,reduceIte,decide_true,decide_false,Bool.not_true,Bool.not_false,Int.reduceEq,Int.reduceNe,ne_eq,not_false_eq_true,not_true_eq_false];first|done|rfl|decide)) (by first|exact .inl ⟨by decide,rfl⟩|exact .inl ⟨bne_iff_ne.mp ‹_›,rfl⟩|exact .inr ⟨rfl,sE.trans (by first|rfl|(simp only[Fl,List.nil_append];done)|simp only[Fl,Xo (hF ‹_›).1])⟩)|apply And.intro|intro _
 all_goals first|omega|trivial|assumption|exact hP ‹_›|(have:=hF ‹_›;omega)
def Kwa (a:List Ord) (b:Ls):=decide (0≤Kh4 a b)
def Kvu (a:List Ord) (b:Ls):=Kwa a b=false
theorem Jqw (tk st:Int) (S:List Sta) (O:List Ord) (M:List Met) (X:List Out) (Q:List Per) (n:Int) (ns:List ByteArray) (vs:List Int) (tx:ByteArray):wpFG Tryz.prog Jsl.g Lt (Xw (none)) (Sx.look ([(225,Tryz.f225),(226,Tryz.f226),(227,Tryz.f227)]:List (Nat×Func))) Tryz.f132 Lr ((tk,st,S,O,M,X,Q),(n,Vf,ns,vs,tx),()):=by
 refine(by kernel_rfl:(Jw tk st S O M X Q→Jcc X→Z50 M→Jb (Z5 n ns vs tx)=0→Lb Vf J0=false→Z87 vs∧Br (Jhw vs tk) (Sf true (Z63 tk st S O M X Q=Yu (Z63 tk st S O M X Q) (Z5 n ns vs tx)∧22=Vq (Z63 tk st S O M X Q) (Z5 n ns vs tx))) (Jsx tk st S O M X Q ns∧Br (Jv (Z63 tk st S O M X Q) Vf ns !=0) (Sf true (Z63 tk st S O M X Q=Yu (Z63 tk st S O M X Q) (Z5 n ns vs tx)∧Jv (Z63 tk st S O M X Q) Vf ns=Vq (Z63 tk st S O M X Q) (Z5 n ns vs tx))) (Jhu S∧Jht O∧Jhv M∧Jhr X∧Jhs Q∧T2 (Z84 ns) (Z53 O)∧T2 (Kfb O ns) (T2 (Kvu O ns→Kfb O ns) (Tw (Kvu O ns→Z24 vs)))∧Br (bif Kwa O ns then true else decide ((Kh7 O ns).2≤U2 vs)) (Z87 vs∧Sf true (Jdb vs st S O M X Q=Yu (Z63 tk st S O M X Q) (Z5 n ns vs tx)∧23=Vq (Z63 tk st S O M X Q) (Z5 n ns vs tx))) (T2 (Z24 vs) (Kkv O ns)∧Z87 vs∧Sf true ((U2 vs,st,S,List.set ([]++O) (Int.toNat (Jqo O ns)) (J8k O ns,Kid O ns,Kh9 O ns,Kdy O ns,Kd7 O ns,(Kd6 O ns).1,U2 vs),M,X,Q)=Yu (Z63 tk st S O M X Q) (Z5 n ns vs tx)∧0=Vq (Z63 tk st S O M X Q) (Z5 n ns vs tx))))))=_).mp ?_
 delta Z5 Z24 Z50 Z53 Z63 Z65 Z83 Z84 Z87 U2 Jw Jqo Jhw Jhv Jhu Jht Jhs Jhr Jdb Jc3 Kfb Kkv Jsx Kik Kii J8k Kie Kid Kh9 Kh8 Kh7 Kh6 Kd7 Kd6 Kh4 Kdy Kwa Kvu Br Bd T2 Tw Sf Ln Gt B0 Lb E2 Vf J0
 intro hr hu hm hc _
 obtain⟨hn,hv,nS,nO,nX,nQ,hx⟩:=Jx0 hr hc
 simp only[Vg,List.length_cons,List.length_nil] at hn hv nS nO nX nQ hx
 have cE:ckS (tk,st,S,O,M,X,Q) (n,Vf,ns,vs,tx)=Jcw O ns vs:=by simp only[ckS,Vg]
 have sE:Ju (tk,st,S,O,M,X,Q) (n,Vf,ns,vs,tx)=(vs.getD 0 0,(Ff (tk,st,S,O,M,X,Q) (n,Vf,ns,vs,tx)).2):=by simp only[Ju,doS,Vg]
 have hF:(Jv (tk,st,S,O,M,X,Q) Vf ns !=0)=false→(0≤Kw O (ns.getD 0 Ja)∧Kw O (ns.getD 0 Ja)<O.length):=fun a=>by
  have z:=fcN a
  rw[Vg] at z
  obtain⟨k0,z⟩:=Jn z
  exact⟨J2i (k0 rfl),Ua⟩
 have hP:(Jv (tk,st,S,O,M,X,Q) Vf ns !=0)=false→((X1 O (ns.getD 0 Ja)).2.2.2.2.2.2 != -1)=decide (0≤(X1 O (ns.getD 0 Ja)).2.2.2.2.2.2):=fun a=>by
  have h: -1≤(X1 O (ns.getD 0 Ja)).2.2.2.2.2.2:=(hr.ord _ (Jbq (hF a).1)).trip.1
  by_cases q:0≤(X1 O (ns.getD 0 Ja)).2.2.2.2.2.2
  ·rw[decide_eq_true q];exact bne_iff_ne.mpr (by omega)
  ·rw[decide_eq_false q];exact bne_eq_false_iff_eq.mpr (by omega)
 simp only[List.nil_append,rcb,rcS,rcO,rcX,rcQ,Prod.eta]
 repeat' first|exact lfT ‹_›|exact lfN ‹_› ‹_›|exact lfA ‹_› ‹_› (cE.trans (by have hp:=hP ‹_›;clear cE sE hF hP hx hc;simp only[Jcw,Zc,List.nil_append, *,cond_true,cond_false,reduceIte,decide_true,decide_false,Bool.not_true,Bool.not_false,Int.reduceEq,Int.reduceNe,ne_eq,not_false_eq_true,not_true_eq_false];first|done|rfl|decide)) (by first|exact .inl ⟨by decide,rfl⟩|exact .inl ⟨bne_iff_ne.mp ‹_›,rfl⟩|exact .inr ⟨rfl,sE.trans (by first|rfl|simp only[Ff,List.nil_append]|simp only[Ff,Xo (hF ‹_›).1])⟩)|apply And.intro|intro _
 all_goals first|omega|trivial|assumption|exact hP ‹_›|(have:=hF ‹_›;omega)
abbrev Jfy (tk st:Int) (S:List Sta) (O:List Ord) (M:List Met) (X:List Out) (Q:List Per) (n:Int) (ns:List ByteArray) (vs:List Int) (tx:ByteArray):Ann:={X:=Nat,σ:=fun k=>⟨30,[(2, .one (.ptr 25 0)),(3, .one (.ptr 26 0)),(4, .one (.ptr 27 0)),(6, .one (.sl 6)),(7, .one (.ptr 28 0)),(8, .one (.int .i64 (vs.getD 1 0+k)))],[(5, .imm 9 .str ns),(6, .imm 3 sI vs),(8, .box 67 [.int .i64 n, .str Jt, .sl 5, .sl 6, .str tx]),(9, .box 37 J1y),(23, .box 37 [.int .i64 tk, .int .i64 st, .sl 14, .sl 16, .sl 18, .sl 20, .sl 22]),(24, .sus [(3, .one (.ptr 8 0)),(4, .one (.ptr 9 0)),(7, .one (.ptr 23 0))]),(25, .box 37 [.int .i64 tk, .int .i64 st, .sl 14, .sl 16, .sl 18, .sl 20, .sl 22]),(26, .box 67 [.int .i64 n, .str Jt, .sl 5, .sl 6, .str tx]),(27, .box 37 J1y),(28, .box 117 [.int .i64 (vs.getD 1 0), .int .i64 (vs.getD 2 0)]),(14, .own 114 Dk S),(16, .own 119 Hk O),(18, .own 121 Dx M),(20, .own 123 X6 X),(22, .own 125 Zy Q)]⟩,inv:=fun k=>k≤(vs.getD 2 0-vs.getD 1 0).toNat∧Hg (Vx (n,Jt,ns,vs,tx)) (fun h=>decide (vs.getD 3 0<Vb O (ns.getD 1 Ja) h))=Jr8 (fun h=>decide (vs.getD 3 0<Vb O (ns.getD 1 Ja) h)) (vs.getD 1 0+k) ((vs.getD 2 0-vs.getD 1 0).toNat-k),mu:=fun k=>(vs.getD 2 0-vs.getD 1 0).toNat-k}
def Kek (a:Li) (b:Int) (c:List Sta) (d:List Ord) (e:List Met) (f:List Out) (g:List Per) (h i:Int) (j:Ls) (k:Bt):=Jdb a b c d e f g=Yu (Z63 h b c d e f g) (Z18 i j a k)
def Kgj (a:Nat) (b:Li) (c:Int) (d:Ls) (e:Bt) (f:List Ord):=Kkr a b∧(Hg (Vx (Z18 c d b e)) fun(h:Int)=>decide (Z85 b<Vb f (Jj2 d) h))=Jr8 (fun(h:Int)=>decide (Z85 b<Vb f (Jj2 d) h)) (Jsz b a) (J8v b a)
def J7t (a:Ls) (b:Li) (c:Int) (d:Bt) (e f:Int) (g:List Sta) (h:List Ord) (i:List Met) (j:List Out) (k:List Per):=Sf a (Sf b (Si c (Sf Jt (Sf d (Si 0 (Si 0 (Sf Vn (Sf Vn (Sf Vn (Sf Vn (Sf Vn (Si e (Si f (Si e (Si f (Si c (Sf Jt (Kgk d b g h i j k))))))))))))))))))
theorem Jke (tk st:Int) (S:List Sta) (O:List Ord) (M:List Met) (X:List Out) (Q:List Per) (n:Int) (ns:List ByteArray) (vs:List Int) (tx:ByteArray):wpFG Tryz.prog Jsl.g Lt (Xw (some (Jfy tk st S O M X Q n ns vs tx))) (Sx.look ([(225,Tryz.f225),(226,Tryz.f226),(227,Tryz.f227)]:List (Nat×Func))) Tryz.f132 Lr ((tk,st,S,O,M,X,Q),(n,Jt,ns,vs,tx),()):=by
 refine(by kernel_rfl:(Jw tk st S O M X Q→Jcc X→Z50 M→Jb (Z18 n ns vs tx)=0→Lb Jt J0=false→Z87 vs∧Br (Jhw vs tk) (Sf true (Z63 tk st S O M X Q=Yu (Z63 tk st S O M X Q) (Z18 n ns vs tx)∧22=Vq (Z63 tk st S O M X Q) (Z18 n ns vs tx))) ((Jw tk st S O M X Q∧Sf true (Jqp ns))∧Br (Jv (Z63 tk st S O M X Q) Jt ns !=0) (Sf true (Z63 tk st S O M X Q=Yu (Z63 tk st S O M X Q) (Z18 n ns vs tx)∧Jv (Z63 tk st S O M X Q) Jt ns=Vq (Z63 tk st S O M X Q) (Z18 n ns vs tx))) (Jhu S∧Jht O∧Jhv M∧Jhr X∧Jhs Q∧J83 vs∧Kg5 vs∧Br (Kjm vs) (Z87 vs∧Sf true (Kek vs st S O M X Q tk n ns tx∧14=Vq (Z63 tk st S O M X Q) (Z18 n ns vs tx))) (T2 (Z23 vs) (T2 (Z96 ns) (Z58 S∧Tw (Bd (Jyh S ns) (Ln ([]++S)))))∧Br (decide ((Gt ([]++S) (Jyh S ns) Z8).2.1≤Z85 vs)) (Z87 vs∧Sf true (Kek vs st S O M X Q tk n ns tx∧3=Vq (Z63 tk st S O M X Q) (Z18 n ns vs tx))) (∃(x:Nat),(Kkw vs x∧J7t ns vs n tx tk st S O M X Q)∧Kgj x vs n ns tx O∧∀(x:Nat),Kgj x vs n ns tx O→Br (Kkg vs x) (T2 (Z96 ns) (Jw tk st S O M X Q∧Jym vs)∧Br (decide (Z85 vs<Vb O (Z97 ns) (Jsz vs x))) (Z87 vs∧Sf true (Kek vs st S O M X Q tk n ns tx∧24=Vq (Z63 tk st S O M X Q) (Z18 n ns vs tx))) (Iw (Kfi vs x)∧∃(y:Nat),(Kjl vs x y∧J7t ns vs n tx tk st S O M X Q)∧Kgj y vs n ns tx O∧Khq vs y x)) (Br (decide (16≤Ln X)) (Z87 vs∧Sf true (Kek vs st S O M X Q tk n ns tx∧5=Vq (Z63 tk st S O M X Q) (Z18 n ns vs tx))) (T2 (Z84 ns) (T2 (Z96 ns) (Kkn vs X))∧Z87 vs∧Sf true ((U2 vs,st,S,O,M,X++[(Z83 ns,Z97 ns,J80 vs,Z85 vs)],Q)=Yu (Z63 tk st S O M X Q) (Z18 n ns vs tx)∧0=Vq (Z63 tk st S O M X Q) (Z18 n ns vs tx)))))))))=_).mp ?_
 delta Z8 Z18 Z23 Z24 Z28 Z30 Z50 Z58 Z63 Z83 Z84 Z85 Z87 Z88 Z95 Z96 Z97 Jym U2 Jqp Jj2 Jw Vn Jyh Jsz Jhw Jhv Jhu Jht Jhs Jhr Kfi Jdb J83 J80 Kk0 Kkw J8v Kkr Kkn Kkg Kjm Kjl Kek Khq Kg5 Kgk Kgj J7t Br Iw Bd T2 Tw Sf Si Ln Nc Gt B0 Lb Jt J0
 intro hr hu hm hc _
 obtain⟨hn,hv,nS,nO,nX,nQ,hx⟩:=Jx0 hr hc
 simp only[Km,List.length_cons,List.length_nil] at hn hv nS nO nX nQ hx
 have cE:ckS (tk,st,S,O,M,X,Q) (n,Jt,ns,vs,tx)=Jb5 S O X (n,Jt,ns,vs,tx):=by simp only[ckS,Km]
 have sE:Ju (tk,st,S,O,M,X,Q) (n,Jt,ns,vs,tx)=(vs.getD 0 0,(Fi (tk,st,S,O,M,X,Q) (n,Jt,ns,vs,tx)).2):=by simp only[Ju,doS,Km]
 have hF:(Jv (tk,st,S,O,M,X,Q) Jt ns !=0)=false→(0≤Jy S (ns.getD 1 Ja)∧Jy S (ns.getD 1 Ja)<S.length):=fun a=>by
  have z:=fcN a
  rw[Km] at z
  obtain⟨k0,z⟩:=Jn z
  obtain⟨k1,z⟩:=Jn z
  exact⟨Jrz (k1 rfl),K6⟩
 have v1:=hx 1 (by omega)
 have v2:=hx 2 (by omega)
 have v3:=hx 3 (by omega)
 have pE:Ze (n,Jt,ns,vs,tx)=bif Kb8 (vs.getD 0 0) (vs.getD 1 0) (vs.getD 2 0) then 14 else 0:=rfl
 simp only[List.nil_append,rcb,rcS,rcO,rcX,rcQ,Prod.eta]
 repeat' first|exact lfT ‹_›|exact lfN ‹_› ‹_›|exact lfA ‹_› ‹_› (cE.trans (by clear cE sE hF hx hc;simp only[Jb5,Jhl,Jg,Zc,List.nil_append, *,cond_true,cond_false,reduceIte,decide_true,decide_false,Bool.not_true,Bool.not_false,Int.reduceEq,Int.reduceNe,ne_eq,not_false_eq_true,not_true_eq_false];first|done|rfl|decide)) (by first|exact .inl ⟨by decide,rfl⟩|exact .inl ⟨bne_iff_ne.mp ‹_›,rfl⟩|exact .inr ⟨rfl,sE.trans (by first|rfl|(simp only[Fi,List.nil_append];done)|simp only[Fi,Xo (hF ‹_›).1])⟩)|(refine⟨(0:Nat),by(repeat' first|exact rfl|exact⟨⟩|apply And.intro|omega|dsimp only;omega),⟨Nat.zero_le _,by simp[Hg,Vx,Jve]⟩,fun(k:Nat) hk=>⟨fun h1=> ?_,fun h1=> ?_⟩⟩;obtain⟨k1,k2⟩:=hk;replace h1:=of_decide_eq_true h1;rw[Jp7 (by omega)] at k2;skip;rotate_left;obtain⟨k1,k2⟩:=hk;replace h1:=of_decide_eq_false h1;rw[Jp8 (by omega)] at k2)|(refine⟨(k+1:Nat),by(repeat' first|exact rfl|exact⟨⟩|apply And.intro|omega|dsimp only;omega),⟨by omega, ?_⟩,by omega⟩;rw[k2,show decide (vs.getD 3 0<Vb O (ns.getD 1 Ja) (vs.getD 1 0+k))=false from ‹_›];rfl)|apply And.intro|intro _
 all_goals first|omega|trivial|assumption|(have:=hF ‹_›;omega)
def Kzi (a:List Out) (b:Ls):=Gt ([]++a) (Js0 a b) Jdd
def Kzd (a:List Out) (b:Ls):=(Kzi a b).2
def Kzb (a:List Out) (b:Ls) (c:Li):=T2 (Bd (Js0 a b) (Ln ([]++a))) (Z87 c)
def Ky5 (a:List Out) (b:Ls):=(Kzd a b).2
def Ky0 (a:List Out) (b:Ls):=(Ky5 a b).1
def Kys (a:List Out) (b:Ls):=(Ky0 a b).1
theorem Jh2 (tk st:Int) (S:List Sta) (O:List Ord) (M:List Met) (X:List Out) (Q:List Per) (n:Int) (ns:List ByteArray) (vs:List Int) (tx:ByteArray):wpFG Tryz.prog Jsl.g Lt (Xw (none)) (Sx.look ([(225,Tryz.f225),(226,Tryz.f226),(227,Tryz.f227)]:List (Nat×Func))) Tryz.f132 Lr ((tk,st,S,O,M,X,Q),(n,Jo,ns,vs,tx),()):=by
 refine(by kernel_rfl:(Jw tk st S O M X Q→Jcc X→Z50 M→Jb (Z31 n ns vs tx)=0→Lb Jo J0=false→Z87 vs∧Br (Jhw vs tk) (Sf true (Z63 tk st S O M X Q=Yu (Z63 tk st S O M X Q) (Z31 n ns vs tx)∧22=Vq (Z63 tk st S O M X Q) (Z31 n ns vs tx))) (Jsx tk st S O M X Q ns∧Br (Jv (Z63 tk st S O M X Q) Jo ns !=0) (Sf true (Z63 tk st S O M X Q=Yu (Z63 tk st S O M X Q) (Z31 n ns vs tx)∧Jv (Z63 tk st S O M X Q) Jo ns=Vq (Z63 tk st S O M X Q) (Z31 n ns vs tx))) (Jhu S∧Jht O∧Jhv M∧Jhr X∧Jhs Q∧T2 (Z84 ns) (Z48 X)∧Kzb X ns vs∧Br (decide (U2 vs≤Kys X ns)) (Z87 vs∧Sf true (Jdb vs st S O M X Q=Yu (Z63 tk st S O M X Q) (Z31 n ns vs tx)∧21=Vq (Z63 tk st S O M X Q) (Z31 n ns vs tx))) (Kzb X ns vs∧Br (decide ((Ky0 X ns).2≤U2 vs)) (Z87 vs∧Sf true (Jdb vs st S O M X Q=Yu (Z63 tk st S O M X Q) (Z31 n ns vs tx)∧23=Vq (Z63 tk st S O M X Q) (Z31 n ns vs tx))) (T2 (Z84 ns) (Z52 Q)∧Br (Yd Q (Z83 ns)) (Z87 vs∧Sf true (Jdb vs st S O M X Q=Yu (Z63 tk st S O M X Q) (Z31 n ns vs tx)∧32=Vq (Z63 tk st S O M X Q) (Z31 n ns vs tx))) (T2 (Z24 vs) (Tw (Bd (Js0 X ns) (Ln ([]++X))))∧Z87 vs∧Sf true ((U2 vs,st,S,O,M,List.set ([]++X) (Int.toNat (Js0 X ns)) ((Kzi X ns).1,(Kzd X ns).1,(Kys X ns,U2 vs),(Ky5 X ns).2),Q)=Yu (Z63 tk st S O M X Q) (Z31 n ns vs tx)∧0=Vq (Z63 tk st S O M X Q) (Z31 n ns vs tx))))))))=_).mp ?_
 delta Z24 Z31 Z48 Z50 Z52 Z63 Z83 Z84 Z87 U2 Jw Jdd Js0 Jhw Jhv Jhu Jht Jhs Jhr Jdb Jsx Kzi Kzd Kzb Ky5 Ky0 Kys Br Bd T2 Tw Sf Ln Gt B0 Lb Jo J0
 intro hr hu hm hc _
 obtain⟨hn,hv,nS,nO,nX,nQ,hx⟩:=Jx0 hr hc
 simp only[J8,List.length_cons,List.length_nil] at hn hv nS nO nX nQ hx
 have cE:ckS (tk,st,S,O,M,X,Q) (n,Jo,ns,vs,tx)=Jcx X Q ns vs:=by simp only[ckS,J8]
 have sE:Ju (tk,st,S,O,M,X,Q) (n,Jo,ns,vs,tx)=(vs.getD 0 0,(Fh (tk,st,S,O,M,X,Q) (n,Jo,ns,vs,tx)).2):=by simp only[Ju,doS,J8]
 have hF:(Jv (tk,st,S,O,M,X,Q) Jo ns !=0)=false→(0≤J7 X (ns.getD 0 Ja)∧J7 X (ns.getD 0 Ja)<X.length):=fun a=>by
  have z:=fcN a
  rw[J8] at z
  obtain⟨k0,z⟩:=Jn z
  exact⟨J2h (k0 rfl),K0⟩
 have hP:(Jv (tk,st,S,O,M,X,Q) Jo ns !=0)=false→decide ((0:Int)<((Lz Q).filter fun p=>p.2.1.toList==(Ly X (ns.getD 0 Ja)).1.toList).length)=Yd Q (ns.getD 0 Ja):=fun a=>by rw[Jla (hF a).1];rfl
 simp only[List.nil_append,rcb,rcS,rcO,rcX,rcQ,Prod.eta]
 repeat' first|exact lfT ‹_›|exact lfN ‹_› ‹_›|exact lfA ‹_› ‹_› (cE.trans (by have hp:=hP ‹_›;clear cE sE hF hP hx hc;simp only[Jcx,Jg,Zc,List.nil_append, *,cond_true,cond_false,reduceIte,decide_true,decide_false,Bool.not_true,Bool.not_false,Int.reduceEq,Int.reduceNe,ne_eq,not_false_eq_true,not_true_eq_false];first|done|rfl|decide)) (by first|exact .inl ⟨by decide,rfl⟩|exact .inl ⟨bne_iff_ne.mp ‹_›,rfl⟩|exact .inr ⟨rfl,sE.trans (by first|rfl|simp only[Fh,List.nil_append]|simp only[Fh,Xo (hF ‹_›).1])⟩)|apply And.intro|intro _
 all_goals first|omega|trivial|assumption|exact hP ‹_›|(have:=hF ‹_›;omega)
theorem Jkd (tk st:Int) (S:List Sta) (O:List Ord) (M:List Met) (X:List Out) (Q:List Per) (n:Int) (ns:List ByteArray) (vs:List Int) (tx:ByteArray):wpFG Tryz.prog Jsl.g Lt (Xw (none)) (Sx.look ([(225,Tryz.f225),(226,Tryz.f226),(227,Tryz.f227)]:List (Nat×Func))) Tryz.f132 Lr ((tk,st,S,O,M,X,Q),(n,J6,ns,vs,tx),()):=by
 refine(by kernel_rfl:(Jw tk st S O M X Q→Jcc X→Z50 M→Jb (Z19 n ns vs tx)=0→Lb J6 J0=false→Z87 vs∧Br (Jhw vs tk) (Sf true (Z63 tk st S O M X Q=Yu (Z63 tk st S O M X Q) (Z19 n ns vs tx)∧22=Vq (Z63 tk st S O M X Q) (Z19 n ns vs tx))) ((Jw tk st S O M X Q∧Sf true (Jqp ns))∧Br (Jv (Z63 tk st S O M X Q) J6 ns !=0) (Sf true (Z63 tk st S O M X Q=Yu (Z63 tk st S O M X Q) (Z19 n ns vs tx)∧Jv (Z63 tk st S O M X Q) J6 ns=Vq (Z63 tk st S O M X Q) (Z19 n ns vs tx))) (Jhu S∧Jht O∧Jhv M∧Jhr X∧Jhs Q∧T2 (Z96 ns) (Z48 X∧T2 (Bd (J7 X (Z97 ns)) (Ln ([]++X))) (Z87 vs))∧Br (!Kp (E2 (Gt ([]++X) (J7 X (Z97 ns)) Jdd).2.2.1) (U2 vs)) (Z87 vs∧Sf true (Jdb vs st S O M X Q=Yu (Z63 tk st S O M X Q) (Z19 n ns vs tx)∧22=Vq (Z63 tk st S O M X Q) (Z19 n ns vs tx))) (Br (decide (16≤Ln ([]++Q))) (Z87 vs∧Sf true (Jdb vs st S O M X Q=Yu (Z63 tk st S O M X Q) (Z19 n ns vs tx)∧5=Vq (Z63 tk st S O M X Q) (Z19 n ns vs tx))) (Kir ns Q∧Z87 vs∧Sf true ((U2 vs,st,S,O,M,Kjw X Q ns)=Yu (Z63 tk st S O M X Q) (Z19 n ns vs tx)∧0=Vq (Z63 tk st S O M X Q) (Z19 n ns vs tx)))))))=_).mp ?_
 delta Z19 Z24 Z48 Z50 Z63 Z83 Z84 Z87 Z96 Z97 U2 Jqp Jw Jdd Jhw Jhv Jhu Jht Jhs Jhr Jdb Kjw Kir Br Bd T2 Tw Sf Ln Gt B0 Lb E2 J6 J0
 intro hr hu hm hc _
 obtain⟨hn,hv,nS,nO,nX,nQ,hx⟩:=Jx0 hr hc
 simp only[Ku,List.length_cons,List.length_nil] at hn hv nS nO nX nQ hx
 have cE:ckS (tk,st,S,O,M,X,Q) (n,J6,ns,vs,tx)=Jcy X Q ns vs:=by simp only[ckS,Ku]
 have sE:Ju (tk,st,S,O,M,X,Q) (n,J6,ns,vs,tx)=(vs.getD 0 0,(Fj (tk,st,S,O,M,X,Q) (n,J6,ns,vs,tx)).2):=by simp only[Ju,doS,Ku]
 have hF:(Jv (tk,st,S,O,M,X,Q) J6 ns !=0)=false→(0≤J7 X (ns.getD 1 Ja)∧J7 X (ns.getD 1 Ja)<X.length):=fun a=>by
  have z:=fcN a
  rw[Ku] at z
  obtain⟨k0,z⟩:=Jn z
  obtain⟨k1,z⟩:=Jn z
  exact⟨J2h (k1 rfl),K0⟩
 simp only[List.nil_append,rcb,rcS,rcO,rcX,rcQ,Prod.eta]
 repeat' first|exact lfT ‹_›|exact lfN ‹_› ‹_›|exact lfA ‹_› ‹_› (cE.trans (by clear cE sE hF hx hc;simp only[Jcy,Jg,Zc,List.nil_append, *,cond_true,cond_false,reduceIte,decide_true,decide_false,Bool.not_true,Bool.not_false,Int.reduceEq,Int.reduceNe,ne_eq,not_false_eq_true,not_true_eq_false];first|done|rfl|decide)) (by first|exact .inl ⟨by decide,rfl⟩|exact .inl ⟨bne_iff_ne.mp ‹_›,rfl⟩|exact .inr ⟨rfl,sE.trans (by first|rfl|simp only[Fj,List.nil_append]|simp only[Fj,Xo (hF ‹_›).1])⟩)|apply And.intro|intro _
 all_goals first|omega|trivial|assumption|(have:=hF ‹_›;omega)
def K0w (a:List Per) (b:Ls):=Tw (Bd (Jsb a b) (Ln ([]++a)))
def K0p (a:List Per) (b:Ls):=Gt ([]++a) (Jsb a b) (B0,B0,false)
def K0l (a:List Per) (b:Ls):=(K0p a b).2
theorem Jkc (tk st:Int) (S:List Sta) (O:List Ord) (M:List Met) (X:List Out) (Q:List Per) (n:Int) (ns:List ByteArray) (vs:List Int) (tx:ByteArray):wpFG Tryz.prog Jsl.g Lt (Xw (none)) (Sx.look ([(225,Tryz.f225),(226,Tryz.f226),(227,Tryz.f227)]:List (Nat×Func))) Tryz.f132 Lr ((tk,st,S,O,M,X,Q),(n,J5,ns,vs,tx),()):=by
 refine(by kernel_rfl:(Jw tk st S O M X Q→Jcc X→Z50 M→Jb (Z22 n ns vs tx)=0→Lb J5 J0=false→Z87 vs∧Br (Jhw vs tk) (Sf true (Z63 tk st S O M X Q=Yu (Z63 tk st S O M X Q) (Z22 n ns vs tx)∧22=Vq (Z63 tk st S O M X Q) (Z22 n ns vs tx))) (Jsx tk st S O M X Q ns∧Br (Jv (Z63 tk st S O M X Q) J5 ns !=0) (Sf true (Z63 tk st S O M X Q=Yu (Z63 tk st S O M X Q) (Z22 n ns vs tx)∧Jv (Z63 tk st S O M X Q) J5 ns=Vq (Z63 tk st S O M X Q) (Z22 n ns vs tx))) (Jhu S∧Jht O∧Jhv M∧Jhr X∧Jhs Q∧T2 (Z84 ns) (Z52 Q)∧K0w Q ns∧Br (!(K0l Q ns).2) (Z87 vs∧Sf true (Jdb vs st S O M X Q=Yu (Z63 tk st S O M X Q) (Z22 n ns vs tx)∧23=Vq (Z63 tk st S O M X Q) (Z22 n ns vs tx))) (K0w Q ns∧Z87 vs∧Sf true ((U2 vs,st,S,O,M,X,List.set ([]++Q) (Int.toNat (Jsb Q ns)) ((K0p Q ns).1,(K0l Q ns).1,false))=Yu (Z63 tk st S O M X Q) (Z22 n ns vs tx)∧0=Vq (Z63 tk st S O M X Q) (Z22 n ns vs tx))))))=_).mp ?_
 delta Z22 Z24 Z50 Z52 Z63 Z83 Z84 Z87 U2 Jw Jsb Jhw Jhv Jhu Jht Jhs Jhr Jdb K0w K0p K0l Jsx Br Bd T2 Tw Sf Ln Gt B0 Lb J5 J0
 intro hr hu hm hc _
 obtain⟨hn,hv,nS,nO,nX,nQ,hx⟩:=Jx0 hr hc
 simp only[Kt,List.length_cons,List.length_nil] at hn hv nS nO nX nQ hx
 have cE:ckS (tk,st,S,O,M,X,Q) (n,J5,ns,vs,tx)=Jnz Q ns:=by simp only[ckS,Kt]
 have sE:Ju (tk,st,S,O,M,X,Q) (n,J5,ns,vs,tx)=(vs.getD 0 0,(Jgp (tk,st,S,O,M,X,Q) (n,J5,ns,vs,tx)).2):=by simp only[Ju,doS,Kt]
 have hF:(Jv (tk,st,S,O,M,X,Q) J5 ns !=0)=false→(0≤Uy Q (ns.getD 0 Ja)∧Uy Q (ns.getD 0 Ja)<Q.length):=fun a=>by
  have z:=fcN a
  rw[Kt] at z
  obtain⟨k0,z⟩:=Jn z
  exact⟨Kga (k0 rfl),Ul⟩
 simp only[List.nil_append,rcb,rcS,rcO,rcX,rcQ,Prod.eta]
 repeat' first|exact lfT ‹_›|exact lfN ‹_› ‹_›|exact lfA ‹_› ‹_› (cE.trans (by clear cE sE hF hx hc;simp only[Jnz,Zc,List.nil_append, *,cond_true,cond_false,reduceIte,decide_true,decide_false,Bool.not_true,Bool.not_false,Int.reduceEq,Int.reduceNe,ne_eq,not_false_eq_true,not_true_eq_false];first|done|rfl|decide)) (by first|exact .inl ⟨by decide,rfl⟩|exact .inl ⟨bne_iff_ne.mp ‹_›,rfl⟩|exact .inr ⟨rfl,sE.trans (by first|rfl|simp only[Jgp,List.nil_append]|simp only[Jgp,Xo (hF ‹_›).1])⟩)|apply And.intro|intro _
 all_goals first|omega|trivial|assumption|(have:=hF ‹_›;omega)
abbrev Jfx (tk st:Int) (S:List Sta) (O:List Ord) (M:List Met) (X:List Out) (Q:List Per) (n:Int) (ns:List ByteArray) (vs:List Int) (tx:ByteArray):Ann:={X:=Nat,σ:=fun k=>⟨30,[(2, .one (.ptr 25 0)),(3, .one (.ptr 26 0)),(4, .one (.ptr 27 0)),(6, .one (.sl 6)),(11, .one (.int .i64 k))],[(5, .imm 9 .str ns),(6, .imm 3 sI vs),(8, .box 67 [.int .i64 n, .str Jh, .sl 5, .sl 6, .str tx]),(9, .box 37 J1y),(23, .box 37 [.int .i64 tk, .int .i64 st, .sl 14, .sl 16, .sl 18, .sl 20, .sl 22]),(24, .sus [(3, .one (.ptr 8 0)),(4, .one (.ptr 9 0)),(7, .one (.ptr 23 0))]),(25, .box 37 [.int .i64 tk, .int .i64 st, .sl 14, .sl 16, .sl 18, .sl 20, .sl 22]),(26, .box 67 [.int .i64 n, .str Jh, .sl 5, .sl 6, .str tx]),(27, .box 37 J1y),(14, .imm 114 Dk S),(16, .imm 119 Hk O),(18, .imm 121 Dx M),(20, .imm 123 X6 X),(22, .imm 125 Zy Q)]⟩,inv:=fun k=>k≤X.length∧(X.any fun x=>decide (x.2.2.1.2≤vs.getD 1 0)&&Yd Q x.1)=((X.drop k).any fun x=>decide (x.2.2.1.2≤vs.getD 1 0)&&Yd Q x.1),mu:=fun k=>X.length-k}
def Kzm (a:List Out) (b:Nat) (c:Li):=decide ((J23 a b).1.2≤Z88 c)
def Kyx (a:List Out) (b:Nat) (c:Li):=Kzm a b c=true
def Kg1 (a:Nat) (b:List Out) (c:Li) (d:List Per):=a≤List.length b∧(List.any b fun(x:Out)=>decide (x.2.2.1.2≤Z88 c)&&Yd d x.1)=List.any (List.drop a b) fun(x:Out)=>decide (x.2.2.1.2≤Z88 c)&&Yd d x.1
def Kul (a:Li) (b:Int) (c:List Sta) (d:List Ord) (e:List Met) (f:List Out) (g:List Per) (h i:Int) (j:Ls) (k:Bt):=Z87 a∧Sf true (Jdb a b c d e f g=Yu (Z63 h b c d e f g) (Z20 i j a k)∧32=Vq (Z63 h b c d e f g) (Z20 i j a k))
def Ksi (a:Ls) (b:Li) (c:Int) (d:Bt) (e f:Int) (g:List Sta) (h:List Ord) (i:List Met) (j:List Out) (k:List Per):=Sf a (Sf b (Si c (Sf Jh (Sf d (Si 0 (Si 0 (Sf Vn (Sf Vn (Sf Vn (Sf Vn (Sf Vn (Si e (Si f (Si e (Si f (Si c (Sf Jh (Sf d (Si 0 (Si 0 (Sf Vn (Sf Vn (Sf Vn (Sf Vn (Sf Vn (Sf g (Sf h (Sf i (Sf j (k=k))))))))))))))))))))))))))))))
theorem Jkb (tk st:Int) (S:List Sta) (O:List Ord) (M:List Met) (X:List Out) (Q:List Per) (n:Int) (ns:List ByteArray) (vs:List Int) (tx:ByteArray):wpFG Tryz.prog Jsl.g Lt (Xw (some (Jfx tk st S O M X Q n ns vs tx))) (Sx.look ([(225,Tryz.f225),(226,Tryz.f226),(227,Tryz.f227)]:List (Nat×Func))) Tryz.f132 Lr ((tk,st,S,O,M,X,Q),(n,Jh,ns,vs,tx),()):=by
 refine(by kernel_rfl:(Jw tk st S O M X Q→Jcc X→Z50 M→Jb (Z20 n ns vs tx)=0→Lb Jh J0=false→Z87 vs∧Br (Jhw vs tk) (Sf true (Z63 tk st S O M X Q=Yu (Z63 tk st S O M X Q) (Z20 n ns vs tx)∧22=Vq (Z63 tk st S O M X Q) (Z20 n ns vs tx))) ((Jw tk st S O M X Q∧Sf true (List.length ns=0))∧Br (Jv (Z63 tk st S O M X Q) Jh ns !=0) (Sf true (Z63 tk st S O M X Q=Yu (Z63 tk st S O M X Q) (Z20 n ns vs tx)∧Jv (Z63 tk st S O M X Q) Jh ns=Vq (Z63 tk st S O M X Q) (Z20 n ns vs tx))) (Jhu S∧Jht O∧Jhv M∧Jhr X∧Jhs Q∧T2 (Z28 vs) (T2 (Kfq vs st=false→Z28 vs) (Kj0 vs st))∧Br (Kif vs st) (Z87 vs∧Sf true (Jdb vs st S O M X Q=Yu (Z63 tk st S O M X Q) (Z20 n ns vs tx)∧14=Vq (Z63 tk st S O M X Q) (Z20 n ns vs tx))) (T2 (Z28 vs) (Jw tk st S O M X Q)∧Br (decide (0<Ln (Ko M (Z88 vs) O))) (Kul vs st S O M X Q tk n ns tx) (∃(x:Nat),(0=Nc x∧Ksi ns vs n tx tk st S O M X Q)∧Kg1 x X vs Q∧∀(x:Nat),Kg1 x X vs Q→Br (Z93 x X) (T2 (Z14 x X) (T2 (Z28 vs) (T2 (Kyx X x vs→Z14 x X) (Kyx X x vs→Z52 Q)))∧Br (bif Kzm X x vs then Yd Q (J0z X x) else false) (Kul vs st S O M X Q tk n ns tx) (Z16 x∧∃(y:Nat),(Z82 x y∧Ksi ns vs n tx tk st S O M X Q)∧Kg1 y X vs Q∧Jyf X y x)) (Z98 vs∧Z87 vs∧Sf true ((U2 vs,Z88 vs,S,O,M,X,Q)=Yu (Z63 tk st S O M X Q) (Z20 n ns vs tx)∧0=Vq (Z63 tk st S O M X Q) (Z20 n ns vs tx))))))))=_).mp ?_
 delta Z14 Z16 Z20 Z24 Z28 Z50 Z52 Z63 Z82 Z87 Z88 Z93 Z98 U2 Jw Vn Jdd Kfq Jhw Jyf Jhv Jhu Jht Jhs Jhr J00 Jdb J0z J23 Kj0 Kzm Kyx Kif Kg1 Kul Ksi Br Iw Bd T2 Tw Sf Si Ln Nc B0 Lb Jh J0
 intro hr hu hm hc _
 obtain⟨hn,hv,nS,nO,nX,nQ,hx⟩:=Jx0 hr hc
 simp only[Us,List.length_cons,List.length_nil] at hn hv nS nO nX nQ hx
 have cE:ckS (tk,st,S,O,M,X,Q) (n,Jh,ns,vs,tx)=Lq st O M X Q vs:=by simp only[ckS,Us]
 have sE:Ju (tk,st,S,O,M,X,Q) (n,Jh,ns,vs,tx)=(vs.getD 0 0,(Jaz (tk,st,S,O,M,X,Q) (n,Jh,ns,vs,tx)).2):=by simp only[Ju,doS,Us]
 have lE:=J4g (Q:=Q) (u:=vs.getD 1 0) hu hr.per
 have v1:=hx 1 (by omega)
 simp only[List.nil_append,rcb,rcS,rcO,rcX,rcQ,Prod.eta]
 repeat' first|exact lfT ‹_›|exact lfN ‹_› ‹_›|exact lfA ‹_› ‹_› (cE.trans (by clear cE sE hx hc;simp only[Lq,Bool.true_or,Bool.false_or,Zc,List.nil_append, *,cond_true,cond_false,reduceIte,decide_true,decide_false,Bool.not_true,Bool.not_false,Int.reduceEq,Int.reduceNe,ne_eq,not_false_eq_true,not_true_eq_false];first|done|rfl|decide)) (by first|exact .inl ⟨by decide,rfl⟩|exact .inl ⟨bne_iff_ne.mp ‹_›,rfl⟩|exact .inr ⟨rfl,sE.trans (by first|rfl|simp only[Jaz,List.nil_append])⟩)|(refine⟨(0:Nat),by(repeat' first|exact rfl|exact⟨⟩|apply And.intro|omega|dsimp only;omega),⟨Nat.zero_le _,rfl⟩,fun(k:Nat) hk=>⟨fun h1=> ?_,fun h1=> ?_⟩⟩;obtain⟨k1,k2⟩:=hk;replace h1:=of_decide_eq_true h1;rw[Jq (d:=(Ja,Ja,(0,0),0)) (by omega),List.any_cons] at k2;rw[K6m] at k2;rotate_left;obtain⟨k1,k2⟩:=hk;replace h1:=of_decide_eq_false h1;rw[List.drop_eq_nil_of_le (by omega),List.any_nil] at k2)|(refine⟨(k+1:Nat),by(repeat' first|exact rfl|exact⟨⟩|apply And.intro|omega|dsimp only;omega),⟨by omega, ?_⟩,by omega⟩;rw[k2,show(bif decide ((X.getD k (Ja,Ja,(0,0),0)).2.2.1.2≤vs.getD 1 0) then Yd Q (X.getD k (Ja,Ja,(0,0),0)).1 else false)=false from ‹_›];rfl)|apply And.intro|intro _
 all_goals first|omega|trivial|assumption
def Jsp (k:ByteArray):Nat:=if k=Jt then 1 else if k=Ke then 2 else if k=Jh then 3 else 0
def Jwx (tk st:Int) (S:List Sta) (O:List Ord) (M:List Met) (X:List Out) (Q:List Per) (n:Int) (ns:List ByteArray) (vs:List Int) (tx:ByteArray):Nat→Option Ann
 |1=>some (Jfy tk st S O M X Q n ns vs tx)
 |2=>some (Jhp tk st S O M X Q n ns vs tx)
 |3=>some (Jfx tk st S O M X Q n ns vs tx)
 |_=>none
def Jwy:ATup [Xs,aEv]→Option Ann
 |((tk,st,S,O,M,X,Q),(n,k,ns,vs,tx),())=>Jwx tk st S O M X Q n ns vs tx (Jsp k)
theorem Jys {Γ:Gam} {ann:Nat→Option Ann} {annF:FuncId→Nat→Option Ann} {lib:FuncId→Option Func} {fn:Func} {c:Con} {x:ATup c.args} (hb:fn.body.isSome=true) (h:Uq (c.pre x)→wpFG Tryz.prog Γ ann annF lib fn c x):wpFG Tryz.prog Γ ann annF lib fn c x:=by
 unfold wpFG at h⊢
 cases hc:fn.body with
 |none=>rw[hc] at hb;cases hb
 |some code=>
  rw[hc] at h
  exact Jau h
theorem D7 {tk st:Int} {S:List Sta} {O:List Ord} {M:List Met} {X:List Out} {Q:List Per} {n:Int} {k:ByteArray} {ns:List ByteArray} {vs:List Int} {tx:ByteArray} {i:Nat} (h:Jsp k=i):Jwy ((tk,st,S,O,M,X,Q),(n,k,ns,vs,tx),())=Jwx tk st S O M X Q n ns vs tx i:=by rw[←h];rfl
theorem Kmc:∀x:ATup [Xs,aEv],wpFG Tryz.prog Jsl.g Lt (Xw (Jwy x)) (Sx.look ([(225,Tryz.f225),(226,Tryz.f226),(227,Tryz.f227)]:List (Nat×Func))) Tryz.f132 Lr x
 | ((tk, st, S, O, M, X, Q), (n, k, ns, vs, tx), ()) => by
  refine Jys (by kernel_rfl) fun hp=> ?_
  have hc:Jb (n,k,ns,vs,tx)=0:=hp.2.2.2.1
  rcases U4 (Uo hc).kind with h|h|h|h|h|h|h|h|h|h|h<;>dsimp only at h<;>subst h
  ·have h4:(J0.toList==J0.toList)=false:=hp.2.2.2.2
   rw[show(J0.toList==J0.toList)=true from by kernel_rfl] at h4
   cases h4
  ·rw[D7 (show Jsp Js=0 from by kernel_rfl)];exact Jh1 tk st S O M X Q n ns vs tx
  ·rw[D7 (show Jsp Kv=0 from by kernel_rfl)];exact Jmn tk st S O M X Q n ns vs tx
  ·rw[D7 (show Jsp Ke=2 from by kernel_rfl)];exact Jmo tk st S O M X Q n ns vs tx
  ·rw[D7 (show Jsp Kq=0 from by kernel_rfl)];exact Jmp tk st S O M X Q n ns vs tx
  ·rw[D7 (show Jsp Vf=0 from by kernel_rfl)];exact Jqw tk st S O M X Q n ns vs tx
  ·rw[D7 (show Jsp Jt=1 from by kernel_rfl)];exact Jke tk st S O M X Q n ns vs tx
  ·rw[D7 (show Jsp Jo=0 from by kernel_rfl)];exact Jh2 tk st S O M X Q n ns vs tx
  ·rw[D7 (show Jsp J6=0 from by kernel_rfl)];exact Jkd tk st S O M X Q n ns vs tx
  ·rw[D7 (show Jsp J5=0 from by kernel_rfl)];exact Jkc tk st S O M X Q n ns vs tx
  ·rw[D7 (show Jsp Jh=3 from by kernel_rfl)];exact Jkb tk st S O M X Q n ns vs tx
theorem Kpe:Ok Tryz.prog 132 Lr:=Jes mixed Jsl.ok (by kernel_rfl) (by kernel_rfl) (U1 (l:=([(225,Tryz.f225),(226,Tryz.f226),(227,Tryz.f227)]:List (Nat×Func))) (List.forall_mem_cons.2 ⟨by kernel_rfl,List.forall_mem_cons.2 ⟨by kernel_rfl,List.forall_mem_cons.2 ⟨by kernel_rfl,by simp⟩⟩⟩)) (fun _=>Lt) (fun xx=>Xw (Jwy xx)) fun xx=>Kmc xx
abbrev K16:=Jsl.add Kpe
theorem J53 {h:Kn} {e:Ev} (h1:e.1=(h.1.length:Int)+1) (h2:(e.2.1.toList==J0.toList)=false):L1 h e=Vq (Kd h.2.2) e:=by
 unfold L1 Vq Jv
 rw[bne_eq_false_iff_eq.2 h1,h2]
 dsimp only[cond_false]
 cases h3:decide (e.2.2.2.1.getD 0 0<(Kd h.2.2).1) with
 |true=>rw[if_pos rfl];rfl
 | false =>
  rw[if_neg (by simp)]
  cases h4:Kk (Kd h.2.2) e.2.2.1 (Jj e.2.1).1 0 with
  |true=>rw[if_pos (by simp)];rfl
  |false=>
   cases h5:Ky (Kd h.2.2) e.2.2.1 (Jj e.2.1).1 0 with
   |true=>rw[if_pos (by simp)];rfl
   |false=>rw[if_neg (by simp)];rfl
theorem J0v {r:Reg} {e:Ev} (h:Vq r e=0):Yu r e=Ju r e:=by
 unfold Vq at h
 unfold Yu
 by_cases a:decide (e.2.2.2.1.getD 0 0<r.1)=true
 ·rw[if_pos a] at h;exact absurd h (by decide)
 rw[if_neg a] at h⊢
 by_cases b:Jv r e.2.1 e.2.2.1≠0
 ·rw[if_pos b] at h;exact absurd h b
 rw[if_neg b] at h⊢
 rw[if_neg (by rw[h];simp)]
def Joj (h:Kn):Prop:=∀r∈h.2.2,Jcc r.2.2.2.2.2.1
theorem Juk {h:Kn} (hu:Joj h):Jcc (Kd h.2.2).2.2.2.2.2.1:=by
 unfold Kd
 by_cases h0:0<h.2.2.length
 ·exact hu _ (Jc (by omega))
 ·have:h.2.2=[]:=List.eq_nil_of_length_eq_zero (by omega)
  rw[this];exact List.nodup_nil
theorem Jyw {r:Reg} {e:Ev} (hu:Jcc r.2.2.2.2.2.1) (hk:Yw e.2.1=true) (h1:Kk r e.2.2.1 (Jj e.2.1).1 0=false) (h2:Ky r e.2.2.1 (Jj e.2.1).1 0=false):Jcc (Ju r e).2.2.2.2.2.1:=by
 obtain⟨tk,st,S,O,M,X,Q⟩:=r
 obtain⟨n,k,ns,vs,tx⟩:=e
 have hu:Jcc X:=hu
 dsimp only at hk h1 h2
 rcases U4 hk with h|h|h|h|h|h|h|h|h|h|h<;>subst h
 ·simp only[Ju,doS,F2];exact hu
 ·simp only[Ju,doS,K2];exact hu
 ·simp only[Ju,doS,U8];exact hu
 ·simp only[Ju,doS,Uj];exact hu
 ·simp only[Ju,doS,Uk];exact hu
 ·simp only[Ju,doS,Vg];exact hu
 ·rw[Km] at h2
  unfold Ky at h2
  have h3:Vi (tk,st,S,O,M,X,Q) 2 (ns.getD 0 Ja)=false:=by
   cases q:Vi (tk,st,S,O,M,X,Q) 2 (ns.getD 0 Ja) with
   |false=>rfl
   |true=>rw[q] at h2;cases h2
  rw[Je9] at h3
  have h3:=of_decide_eq_false h3
  simp only[Ju,doS,Km]
  exact Jq3 hu (by dsimp only at h3⊢;omega)
 ·rw[J8] at h1
  have h3:=J2h ((Jn h1).1 rfl)
  simp only[Ju,doS,J8]
  exact J3l hu h3
 ·simp only[Ju,doS,Ku];exact hu
 ·simp only[Ju,doS,Kt];exact hu
 ·simp only[Ju,doS,Us];exact hu
theorem Jw9 {h:Kn} {e:Ev} (hk:(e.2.1.toList==J0.toList)=false) (ha:L1 h e=0):Kk (Kd h.2.2) e.2.2.1 (Jj e.2.1).1 0=false∧Ky (Kd h.2.2) e.2.2.1 (Jj e.2.1).1 0=false:=by
 obtain⟨n,k,ns,vs,tx⟩:=e
 have:=Jbb ((Y1 (h:=h) (n:=n) (k:=k) (ns:=ns) (vs:=vs) (tx:=tx) hk).symm.trans ha)
 exact⟨this.2.2.1,this.2.2.2.1⟩
theorem Jw6 {h:Kn} {e:Ev} (hu:Joj h) (ha:Up h e=0):Joj (Dv h e):=by
 obtain⟨hc,hacc⟩:=add_zero ha
 intro r hr
 unfold Dv at hr
 cases hk:e.2.1.toList==J0.toList with
 |true=>
  rw[hk,cond_true] at hr
  exact hu r (List.mem_of_mem_take hr)
 | false =>
  rw[hk,cond_false] at hr
  rcases Yj hr with hr|hr
  ·exact hu r hr
  ·subst hr
   have:=Jw9 hk hacc
   exact Jyw (Juk hu) (Uo hc).kind this.1 this.2
def Vp (l:List Ev):List Ev:=if(Je l).2.2=0 then(Je l).1.2.1 else[]
def K5y:Con:={args:=[.val false (.list 67 sEv)],ress:=[(false, .list 67 sEv),(true,Jkx),I,I],owns:=[],pre:=fun(l,_)=>[lOk l],spec:=fun(l,_)=>(Vp l,Ji l,(Je l).2.1,(Je l).2.2,())}
abbrev Kcb (l:List Ev):Ann:={X:=Kn×Nat,σ:=fun(h,i)=>⟨4,[(0, .one (.sl 0)),(3, .one (.ptr 1 0)),(6, .one (.sl 2)),(7, .one (.sl 3)),(8, .one (.int .i64 i))],[(0, .imm 67 sEv l),(1, .box 37 J1y),(2, .own 67 sEv h.2.1),(3, .own 37 Jkx (U0::h.2.2))]⟩,inv:=fun(h,i)=>Y7 h∧Joj h∧h.1.length=i∧i≤l.length∧l.length≤1000∧Jc5 h (l.drop i)=Je l,mu:=fun(_,i)=>l.length-i}
theorem Ju9:Joj Zz:=fun _ h=>(by cases h)
theorem K5u {C:List Ev} {G:List Reg} (h:G.length=C.length):(U0::G).getD C.length U0=Kd G:=by
 unfold Kd
 rw[←h]
 cases G with
 |nil=>rfl
 |cons a G=>rfl
theorem J95 {h:Kn} {e:Ev} {l l':List Ev} {v:Int} (hr:Jc5 h (e::l')=Je l) (ha:Up h e=v) (hv:v≠0):[]=Vp l∧U0=Ji l∧(h.1.length:Int)+1=(Je l).2.1∧v=(Je l).2.2:=by
 unfold Jc5 at hr
 rw[if_neg (by rw[ha];exact hv),ha] at hr
 refine⟨?_, ?_,by rw[←hr],by rw[←hr]⟩
 ·unfold Vp;rw[←hr,if_neg (by exact hv)]
 ·unfold Ji;rw[←hr,if_neg (by exact hv)]
theorem Jty {h:Kn} {e:Ev} {l l':List Ev} (hr:Jc5 h (e::l')=Je l) (ha:Up h e=0):Jc5 (Dv h e) l'=Je l:=by
 unfold Jc5 at hr
 rwa[if_pos ha] at hr
theorem Kco {E C:List Ev} {G:List Reg} {e:Ev} {k:Nat} (hk:E.length=k):Up (E,C,G) e=bif (bif Jb e==0 then e.1 !=(k:Int)+1 else false) then 11 else bif (bif Jb e==0 then e.2.1.toList==J0.toList else false) then(bif (C.length:Int)==0 then 12 else bif (C.getD (C.length-1) ev0).2.1.toList==Jh.toList then 21 else 0) else bif Jb e==0 then Vq (Kd G) e else Jb e:=by
 subst hk
 unfold Up
 by_cases hc:Jb e=0
 ·rw[if_neg (by rw[hc];simp),hc,show((0:Int)==0)=true from rfl,cond_true,cond_true,cond_true]
  cases h1:e.1 !=(E.length:Int)+1 with
  |true=>unfold L1;rw[h1];rfl
  |false=>
   cases h2:e.2.1.toList==J0.toList with
   |true=>unfold L1;rw[h1,h2];rfl
   |false=>rw[cond_false,cond_false];exact J53 (h:=(E,C,G)) (bne_eq_false_iff_eq.1 h1) h2
 ·rw[if_pos hc,beq_false_of_ne hc,cond_false,cond_false,cond_false];rfl
def Z61 (a:Kn×Nat):=Ln a.1.2.1-1
def J9q (a:Kn×Nat) (b:List Ev):=Nc a.2+1=(Je b).2.1
def K0s (a:List Ev) (b:Kn×Nat):=Lb (J8x a b).1 J0
def K0b:=[Vw]
def Kxi (a:Kn×Nat):=List.getD (U0::a.1.2.2) (List.length a.1.2.1) Vw
def Kxd (a:Kn×Nat):=(Kxi a).2
def Kxa (a:Kn×Nat):=(Kxd a).2
def Kw8 (a:Kn×Nat):=(0+List.length (U0::a.1.2.2))*136≤140737488355328∧(List.length (U0::a.1.2.2)+1)*136≤140737488355328
def Kw7 (a:Kn×Nat):=(Kxa a).2
def Kil (a:Kn×Nat):=(Kw7 a).2
def Kwz (a:Kn×Nat):=(Kil a).2
def Kwp (a:Kn×Nat) (b:List Ev):=(0+List.length a.1.2.1)*88≤140737488355328∧T2 (Z27 a b) ((List.length a.1.2.1+1)*88≤140737488355328)
def Kwf (a:(List Ev×List Ev×List Reg)×Nat) (b:List Ev):=Y7 a.1∧Joj a.1∧Kec a b
def Kg6 (a:(List Ev×List Ev×List Reg)×Nat) (b:List Ev) (c:Kn×Nat):=Kwf a b∧List.length b-a.2<List.length b-c.2
def Kda (a:List Ev) (b:Kn×Nat):=Jb (Jx5 a b)
def Kc8 (a:List Ev) (b:Kn×Nat):=Kda a b==0
def Ktw (a:List Ev) (b:Kn×Nat):=Kc8 a b=true
def Ktt (a:Kn×Nat) (b:List Ev) (c:(List Ev×List Ev×List Reg)×Nat):=a.1.2.1++[Jx5 b a]=c.1.2.1
def Ktl (a:List Ev) (b:Kn×Nat):=Ktw a b→Z27 b a
def Jxo (a:Kn×Nat):=((Kxi a).1,(Kxd a).1,(Kxa a).1,(Kw7 a).1,(Kil a).1,E2 (Kwz a))
def J7p (a:Kn×Nat) (b:List Ev):=Yu (Jxo a) (Jx5 b a)
def J7o (a:Kn×Nat) (b:List Ev):=Vq (Jxo a) (Jx5 b a)
def J7n (a:Kn×Nat) (b:List Ev):=(J7p a b).2
def J7m (a:Kn×Nat) (b:List Ev):=(J7n a b).2
def J7l (a:Kn×Nat) (b:List Ev):=(J7m a b).2
def J7k (a:Kn×Nat) (b:List Ev):=(J7l a b).2
def Jxm (a:Kn×Nat) (b:List Ev):=Kwp a b∧Kw8 a∧Z33 a∧∃(y:(List Ev×List Ev×List Reg)×Nat),(Jyk a y∧Sf b (Si 0 (Si 0 (Sf Vn (Sf Vn (Sf Vn (Sf Vn (Sf Vn (Ktt a b y∧U0::(a.1.2.2++K0b)=U0::y.1.2.2)))))))))∧Kg6 y b a
def Jxj (a:Kn×Nat) (b:List Ev):=T2 (Bd (Ln a.1.2.1) (Ln (U0::a.1.2.2))) (T2 (Z27 a b) (Jl (Jxo a)∧Jcc (Kwz a).1∧List.length (Kil a).1<10000∧Kda b a=0∧K0s b a=false))∧Br (J7o a b !=0) (Z33 a∧[]=Vp b∧Jsw b∧J9q a b∧J7o a b=(Je b).2.2) (Kwp a b∧Kw8 a∧Z33 a∧∃(y:(List Ev×List Ev×List Reg)×Nat),(Jyk a y∧Sf b (Si 0 (Si 0 (Sf Vn (Sf Vn (Sf Vn (Sf Vn (Sf Vn (Ktt a b y∧U0::(a.1.2.2++[((J7p a b).1,(J7n a b).1,(J7m a b).1,(J7l a b).1,(J7k a b).1,E2 (J7k a b).2)])=U0::y.1.2.2)))))))))∧Kg6 y b a)
def J6t (a:Kn×Nat) (b:List Ev):=Br (Ln a.1.2.1==0) (Br false (Jxj a b) (Br true (Z33 a∧[]=Vp b∧Jsw b∧J9q a b∧12=(Je b).2.2) (Jxm a b))) ((Iw (Z61 a)∧Tw (Bd (Z61 a) (Ln a.1.2.1)))∧Br (Lb (Gt a.1.2.1 (Z61 a) D4).2.1 Jh) (Br false (Jxj a b) (Br true (Z33 a∧[]=Vp b∧Jsw b∧J9q a b∧21=(Je b).2.2) (Jxm a b))) ((Iw (Z61 a)∧(0≤Z61 a∧Z61 a≤Ln a.1.2.1)∧0≤Ln a.1.2.1∧Ln a.1.2.1≤Ln (U0::a.1.2.2))∧Z33 a∧∃(y:(List Ev×List Ev×List Reg)×Nat),(Jyk a y∧Sf b (Si 0 (Si 0 (Sf Vn (Sf Vn (Sf Vn (Sf Vn (Sf Vn (List.take (Int.toNat (Z61 a)) a.1.2.1=y.1.2.1∧List.take (List.length a.1.2.1) (U0::a.1.2.2)=U0::y.1.2.2)))))))))∧Kg6 y b a))
theorem K4s:Ok Tryz.prog 82 K5y:=okW K16 Tryz.f82 (fun xx=>Xr (Kcb xx.1)) fun xx=>by
 obtain⟨(l:List Ev),_⟩:=xx
 refine(by kernel_rfl:(lOk l→Br (decide (1000<Ln l)) ([]=Vp l∧Jsw l∧0=(Je l).2.1∧5=(Je l).2.2) (∃(x:(List Ev×List Ev×List Reg)×Nat),(0=Nc x.2∧Sf l (Si 0 (Si 0 (Sf Vn (Sf Vn (Sf Vn (Sf Vn (Sf Vn (List.length x.1.2.1=0∧K0b=U0::x.1.2.2)))))))))∧Kwf x l∧∀(x:Kn×Nat),Y7 x.1∧Joj x.1∧Keb x l→Br (decide (Nc x.2<Ln l)) (T2 (Z27 x l) (List.length (J21 l x).1≤1000000∧List.length (J21 l x).2.1≤1000000∧∀(s:ByteArray),s∈(J21 l x).1→ByteArray.size s≤1000000)∧T2 (Ktl l x) (Ktw l x→Z33 x)∧Br (bif Kc8 l x then(J8y l x).1 !=Nc x.2+1 else false) (Tw (false=true→Z27 x l)∧Br false (J6t x l) (Br false (Jxj x l) (Br true (Z33 x∧[]=Vp l∧Jsw l∧J9q x l∧11=(Je l).2.2) (Jxm x l)))) (Tw (Ktl l x)∧Br (bif Kc8 l x then K0s l x else false) (J6t x l) (Br (Kc8 l x) (Jxj x l) (Br (Kda l x !=0) (Z33 x∧[]=Vp l∧Jsw l∧J9q x l∧Kda l x=(Je l).2.2) (Jxm x l))))) (Tw (Bd (Ln x.1.2.1) (Ln (U0::x.1.2.2)))∧x.1.2.1=Vp l∧Jxo x=Ji l∧0=(Je l).2.1∧0=(Je l).2.2)))=_).mp ?_
 delta Z27 Z33 Z61 Jyk Vn J9q D4 J8y J8x J21 L5 Vw K0s K0b Jsw Kxi Kxd Kxa Kw8 Kw7 Kec Keb Kil Kwz Kwp Kwf Kg6 Jx5 Kda Kc8 Ktw Ktt Ktl Jxo J7p J7o J7n J7m J7l J7k Jxm Jxj J6t Br Iw Bd T2 Tw Sf Si Ln Nc Gt B0 Lb E2 Jh J0
 intro hl
 have hbn:({data:={toList:=[]}}:ByteArray)=Ja:=rfl
 have hev:((0:Int),Ja,([]:List ByteArray),([]:List Int),Ja)=ev0:=rfl
 have hrg:((0:Int),(0:Int),([]:List Sta),([]:List Ord),([]:List Met),([]:List Out),([]:List Per))=U0:=rfl
 have hun:({data:={toList:=[117,110,100,111]}}:ByteArray)=J0:=rfl
 have hse:({data:={toList:=[115,101,116,116,108,101]}}:ByteArray)=Jh:=rfl
 simp only[hbn,hev,hrg,hun,hse,Prod.eta,Bool.false_eq_true,Bool.true_eq_false,false_implies,true_implies,true_and,and_true]
 refine⟨fun h=> ?_,fun h=>⟨(([],[],[]),(0:Nat)),by(repeat' first|exact rfl|exact⟨⟩|apply And.intro|omega|dsimp only;omega), ?_,fun(x:Kn×Nat) hk=> ?_⟩⟩
 ·have e:Je l=(Zz,0,5):=by unfold Je;rw[if_pos (by have:=of_decide_eq_true h;omega)]
  refine⟨?_, ?_,by rw[e],by rw[e]⟩
  ·unfold Vp;rw[e];rfl
  ·unfold Ji;rw[e];rfl
 ·have hn:l.length≤1000:=by have:=of_decide_eq_false h;omega
  exact⟨Hd,Ju9,rfl,Nat.zero_le _,hn,by unfold Je;rw[if_neg (by omega)];rfl⟩
 ·obtain⟨⟨E,C,G⟩,k⟩:=x
  obtain⟨hI,hU,hk1,hk2,hk3,hk4⟩:=hk
  dsimp only at hI hU hk1 hk2 hk3 hk4⊢
  have hG:G.length=C.length:=hI.ok.nG
  have hC:C.length≤E.length:=hI.ok.nC
  have hN:=K5u hG
  have hR:Jl (Kd G):=X3 hI.ok
  have hUx:Jcc (Kd G).2.2.2.2.2.1:=Juk (h:=(E,C,G)) hU
  have hM:(Kd G).2.2.2.2.1.length≤E.length:=Jul hI
  simp only[hN]
  refine⟨fun hlt=> ?_,fun hge=> ?_⟩
  ·have hlt:(k:Int)<l.length:=of_decide_eq_true hlt
   have hz:=hl.2 _ (Jc (d:=ev0) (show k<l.length by omega))
   rw[Jq (d:=ev0) (by omega)] at hk4
   generalize l.getD k ev0=e at*
   have hA:=Kco (C:=C) (G:=G) (e:=e) hk1
   have hT:((C.length:Int)-1).toNat=C.length-1:=by omega
   rw[hT]
   have hi64:(-9223372036854775808≤(k:Int)+1∧(k:Int)+1≤9223372036854775807):=⟨by omega,by omega⟩
   have hkk:(0≤(k:Int)∧(k:Int)<l.length):=⟨by omega,hlt⟩
   have no:∀v,Up (E,C,G) e=v→v≠0→[]=Vp l∧U0=Ji l∧(k:Int)+1=(Je l).2.1∧v=(Je l).2.2:=fun v p q=>by
    have:=J95 hk4 p q
    dsimp only at this
    rwa[hk1] at this
   have len1:((U0::G).length:Int)=G.length+1:=by simp
   have len2:(U0::G).length=G.length+1:=by simp
   refine⟨⟨hkk,hkk,hz⟩,⟨fun _=>hkk,fun _=>hkk,fun _=>hi64⟩,fun a=>⟨hi64,no 11 (by rw[hA,a];rfl) (by decide)⟩,fun a=>⟨⟨fun _=>hkk,fun _=>hkk⟩,fun b=>⟨fun c=>⟨hi64,no 12 (by rw[hA,a,b,c];rfl) (by decide)⟩,fun c=> ?_⟩,fun b=>⟨fun c=> ?_,fun c=> ?_⟩⟩⟩
   ·have c0:(C.length:Int)≠0:=by simpa using c
    refine⟨⟨⟨by omega,by omega⟩,⟨by omega,by omega⟩,by omega,by omega⟩,fun d=>⟨hi64,no 21 (by rw[hA,a,b,c,d];rfl) (by decide)⟩,fun d=> ?_⟩
    have ha:Up (E,C,G) e=0:=by rw[hA,a,b,c,d];rfl
    have hu:(e.2.1.toList==J0.toList)=true:=by
     cases q:Jb e==0 with
     |true=>rw[q] at b;exact b
     |false=>rw[q] at b;cases b
    have eH:Dv (E,C,G) e=(E++[e],C.take (C.length-1),G.take (C.length-1)):=by unfold Dv;rw[hu,cond_true]
    refine⟨⟨⟨by omega,by omega⟩,⟨by omega,by omega⟩,by omega,by omega⟩,hi64,(Dv (E,C,G) e,k+1),⟨by push_cast;rfl,by rw[eH], ?_⟩,⟨Jf1 hI (by show E.length<1000;omega) ha,Jw6 hU ha,by rw[Du];show E.length+1=k+1;omega,by show k+1≤l.length;omega,hk3,Jty hk4 ha⟩,by show l.length-(k+1)<_;omega⟩
    rw[eH]
    have q:C.length=(C.length-1)+1:=by omega
    show List.take C.length (U0::G)=U0::G.take (C.length-1)
    conv=>lhs;rw[q]
    rfl
   ·have c0:Jb e=0:=by simpa using c
    have hu:(e.2.1.toList==J0.toList)=false:=by rw[c] at b;exact b
    have hA2:Up (E,C,G) e=Vq (Kd G) e:=by rw[hA,a,b,c];rfl
    refine⟨⟨⟨by omega,by omega⟩,⟨by omega,by omega⟩,hkk,hkk,hR,hUx,Nat.lt_of_le_of_lt hM (by omega),c0,hu⟩,fun d=>⟨hi64,no _ hA2 (bne_iff_ne.1 d)⟩,fun d=> ?_⟩
    have d0:Vq (Kd G) e=0:=bne_eq_false_iff_eq.1 d
    have ha:=hA2.trans d0
    have eH:Dv (E,C,G) e=(E++[e],C++[e],G++[Ju (Kd G) e]):=by unfold Dv;rw[hu,cond_false]
    refine⟨⟨by omega,hkk,hkk,by omega⟩,⟨by omega,by omega⟩,hi64,(Dv (E,C,G) e,k+1),⟨by push_cast;rfl,by rw[eH],by rw[eH,J0v d0]⟩,⟨Jf1 hI (by show E.length<1000;omega) ha,Jw6 hU ha,by rw[Du];show E.length+1=k+1;omega,by show k+1≤l.length;omega,hk3,Jty hk4 ha⟩,by show l.length-(k+1)<_;omega⟩
   ·have c0:Jb e≠0:=by simpa using c
    exact⟨fun d=>⟨hi64,no _ (by rw[hA,a,b,c];rfl) c0⟩,fun d=>absurd (bne_eq_false_iff_eq.1 d) c0⟩
  ·have hge:=of_decide_eq_false hge
   have:k=l.length:=by omega
   rw[this,List.drop_length,Jc5] at hk4
   have eR:Ji l=Kd G:=by unfold Ji;rw[←hk4];rfl
   have eC:Vp l=C:=by unfold Vp;rw[←hk4];rfl
   have len1:((U0::G).length:Int)=G.length+1:=by simp
   exact⟨⟨⟨by omega,by omega⟩,by omega,by omega⟩,eC.symm,eR.symm,by rw[←hk4],by rw[←hk4]⟩
abbrev K15:=K16.add K4s
theorem Jtv {e:Ev} (h:Xm e=true):e.2.1.size≤40∧e.2.2.1.length≤6∧e.2.2.2.1.length≤8∧e.2.2.2.2.size≤200∧∀s∈e.2.2.1,s.size≤40:=by
 unfold Xm at h
 cases q:Jhg e with
 |true=>rw[q] at h;cases h
 |false=>
  rw[q,cond_false] at h
  unfold Jhg at q
  have q1:=bn1 q
  have q2:=bn1 q1.1
  have q3:=bn1 q2.1
  have a1:=of_decide_eq_false q1.2
  have a2:=of_decide_eq_false q2.2
  have a3:=of_decide_eq_false q3.2
  have a4:=of_decide_eq_false q3.1
  refine⟨by omega,by omega,by omega,by omega,fun s hs=> ?_⟩
  have:=List.all_eq_true.1 h s hs
  have:decide (40<(s.size:Int))=false:=by simpa using this
  have:=of_decide_eq_false this
  omega
theorem Jtu {l:List Ev} {n:Int} (hn:n≤1000) (h:Hc l n=true):lOk l∧(l.length:Int)≤n:=by
 unfold Hc at h
 cases q:decide (n<(l.length:Int)) with
 |true=>rw[q] at h;cases h
 |false=>
  rw[q,cond_false] at h
  have q:=of_decide_eq_false q
  refine⟨⟨by omega,fun e he=> ?_⟩,by omega⟩
  have b:=Jtv (List.all_eq_true.1 h e he)
  exact⟨by omega,by omega,fun s hs=>by have:=b.2.2.2.2 s hs;omega⟩
def Ka3:Con:={args:=[.val false (.list 67 sEv)],ress:=[(true,Jkx),I,I],owns:=[],pre:=fun(l,_)=>[lOk l],spec:=fun(l,_)=>(Ji l,(Je l).2.1,(Je l).2.2,())}
theorem K5p:Ok Tryz.prog 17 Ka3:=okW K15 Tryz.f17 na fun xx=>by
 obtain⟨(l:List Ev),_⟩:=xx
 refine(by kernel_rfl:(lOk l→lOk l∧J2y l=Ji l∧Si (Je l).2.1 ((Je l).2.2=(Je l).2.2))=_).mp ?_
 delta J2y Si E2
 intro hl
 exact⟨hl,rfl,rfl,rfl⟩
abbrev K6y:=K15.add K5p
abbrev K6x:=K6y
abbrev K6w:=K6x
abbrev K6v:=K6w
abbrev K6u:=K6v
abbrev K14:=K6u
abbrev Kal:Ann:={X:=Unit,σ:=fun _=>⟨0,[],[]⟩,inv:=fun _=>True,mu:=fun _=>0,un:=7778}
def Jrg (l:List Ev) (s:ByteArray):List Ev:=Vr ((Vp l).filter fun e=>abS (Ji l) e s) 0
theorem Jmg {c:Bool} {A B:Prop} (h1:c=true→A) (h2:c=false→B):bif c then A else B:=by
 cases c with
 |true=>exact h1 rfl
 |false=>exact h2 rfl
theorem Kar {l:List Ev} {e:Ev} (he:e∈Vp l):Jge (Ji l) e:=by
 unfold Vp at he
 by_cases h:(Je l).2.2=0
 ·rw[if_pos h] at he
  unfold Ji
  rw[if_pos h]
  exact J2b Jaq Jo2 he
 ·rw[if_neg h] at he;cases he
theorem J4t {l:List Ev}:(Vp l).length≤1000:=by
 have hi:=(Jaq (l:=l)).ok
 have h1:=hi.nC
 have h2:=hi.nE
 unfold Vp
 by_cases h:(Je l).2.2=0
 ·rw[if_pos h];omega
 ·rw[if_neg h];exact Nat.zero_le _
theorem Jq6 {l:List Ev} {s:ByteArray} {o:List Ev} {k:Nat} (hk:k<(Vp l).length) (ho:o=Vr (((Vp l).take k).filter fun e=>abS (Ji l) e s) 0):(abS (Ji l) ((Vp l).getD k ev0) s=true→o++[((o.length:Int)+1,((Vp l).getD k ev0).2)]=Vr (((Vp l).take (k+1)).filter fun e=>abS (Ji l) e s) 0)∧(abS (Ji l) ((Vp l).getD k ev0) s=false→o=Vr (((Vp l).take (k+1)).filter fun e=>abS (Ji l) e s) 0):=by
 rw[←U5 (d:=ev0) hk,List.filter_append]
 constructor
 ·intro h
  rw[List.filter_cons,if_pos h,Jbn,←ho,Nat.zero_add,ho,Xg]
  rfl
 ·intro h
  rw[List.filter_cons,if_neg (by rw[h];simp),List.filter_nil,List.append_nil,←ho]
def Kqc:Con:={args:=[.val false (.list 67 sEv),aS],ress:=[(false, .list 67 sEv)],owns:=[true],pre:=fun(l,_)=>[lOk l],spec:=fun(l,s,_)=>(Jrg l s,())}
abbrev Kq7 (l:List Ev) (s:ByteArray):Ann:={X:=List Ev×Nat,σ:=fun(o,i)=>⟨20,[(1, .one (.str s)),(5, .one (.sl 1)),(6, .one (.ptr 7 0)),(9, .one (.sl 8)),(10, .one (.int .i64 i))],[(7, .box 37 [.int .i64 (Ji l).1, .int .i64 (Ji l).2.1, .sl 2, .sl 3, .sl 4, .sl 5, .sl 6]),(1, .imm 67 sEv (Vp l)),(2, .imm 114 Dk (Ji l).2.2.1),(3, .imm 119 Hk (Ji l).2.2.2.1),(4, .imm 121 Dx (Ji l).2.2.2.2.1),(5, .imm 123 X6 (Ji l).2.2.2.2.2.1),(6, .imm 125 Zy (Ji l).2.2.2.2.2.2),(8, .own 67 sEv o)]⟩,inv:=fun(o,i)=>i≤(Vp l).length∧o=Vr (((Vp l).take i).filter fun e=>abS (Ji l) e s) 0,mu:=fun(_,i)=>(Vp l).length-i}
def K01 (a:List Ev) (b:List Ev×Nat):=(List.getD (Vp a) b.2 D4).2
def Kkz (a:List Ev) (b:List Ev×Nat):=(K01 a b).2
def Jxc (a:List Ev) (b:List Ev×Nat):=(K01 a b).1
def K0x (a:List Ev) (b:List Ev×Nat):=(Kkz a b).1
def Kjc (a:List Ev) (b:List Ev×Nat):=List.getD (K0x a b) 0 B0
def Kja (a:List Ev) (b:List Ev×Nat):=Bd 0 (Ln (K0x a b))
def Ki0 (a:List Ev×Nat) (b:List Ev) (c:Bt):=a.2≤List.length (Vp b)∧a.1=Vr (List.filter (fun(e:Ev)=>abS (Ji b) e c) (List.take a.2 (Vp b))) 0
def Kw4 (a:List Ev) (b:List Ev×Nat):=Kw (Ji a).2.2.2.1 (Kjc a b)
def Kwy (a:List Ev) (b:List Ev×Nat):=Uy (Ji a).2.2.2.2.2.2 (Kjc a b)
def Kwx (a:List Ev) (b:List Ev×Nat):=J7 (Ji a).2.2.2.2.2.1 (Kjc a b)
def Kvf (a:List Ev×Nat) (b:List Ev) (c:Bt) (d:List Ev×Nat):=Ki0 a b c∧List.length (Vp b)-a.2<List.length (Vp b)-d.2
def Kuv (a:List Ev) (b:List Ev×Nat):=J7 (Ji a).2.2.2.2.2.1 (Gt (Ji a).2.2.2.2.2.2 (Kwy a b) (B0,B0,false)).2.1
def Kuq (a:List Ev) (b:List Ev×Nat):=(Gt (Ji a).2.2.2.1 (Kw4 a b) Jc3).2
def Kc4 (a:List Ev×Nat) (b:Bt) (c:List Ev):=Iw (Nc a.2+1)∧∃(y:List Ev×Nat),Sf b (Nc a.2+1=Nc y.2∧Si (Ji c).1 (Si (Ji c).2.1 (Sf (Vp c) (J1a c∧J09 c∧J07 c∧J05 c∧J06 c∧a.1=y.1))))∧Kvf y c b a
def Jse (a:List Ev×Nat) (b:Bt) (c:List Ev):=Iw (Ln a.1+1)∧(List.length a.1+1)*88≤140737488355328∧Iw (Nc a.2+1)∧∃(y:List Ev×Nat),Sf b (Nc a.2+1=Nc y.2∧Si (Ji c).1 (Si (Ji c).2.1 (Sf (Vp c) (J1a c∧J09 c∧J07 c∧J05 c∧J06 c∧a.1++[(Ln a.1+1,Jxc c a,(Kkz c a).1,E2 (Kkz c a).2)]=y.1))))∧Kvf y c b a
def J64 (a:List Ev) (b:List Ev×Nat) (c:Bt):=T2 (Kja a b) (Kfo a∧Tw (Bd (Kwx a b) (Ln (Ji a).2.2.2.2.2.1)))∧bif Lb (Gt (Ji a).2.2.2.2.2.1 (Kwx a b) Jdd).2.1 c then Jse b c a else Kc4 b c a
def J1f (a:List Ev) (b:List Ev×Nat) (c:Bt):=T2 (Kja a b) (List.length (Ji a).2.2.2.1≤1000000∧Tw (Bd (Kw4 a b) (Z25 a)))∧bif bif Lb (Kuq a b).1 c then true else Lb (Kuq a b).2.1 c then Jse b c a else Kc4 b c a
def J61 (a:List Ev) (b:List Ev×Nat) (c:Bt):=T2 (Kja a b) (List.length (Ji a).2.2.2.2.2.2≤1000000∧T2 (Bd (Kwy a b) (Ln (Ji a).2.2.2.2.2.2)) (Kfo a∧Tw (Bd (Kuv a b) (Ln (Ji a).2.2.2.2.2.1))))∧bif Lb (Gt (Ji a).2.2.2.2.2.1 (Kuv a b) Jdd).2.1 c then Jse b c a else Kc4 b c a
theorem K5j:Ok Tryz.prog 23 Kqc:=Jzd K14 Tryz.f23 (U1 (l:=([]:List (Nat×Func))) (by simp)) (fun xx=>fun id=>if id=0 then some (Kq7 xx.1 xx.2.1) else if id=1000033∨id=1000036∨id=1000060∨id=1000076∨id=1000099 then some Kal else none) (fun xx=>fun _=>na ()) fun xx=>by
 obtain⟨(l:List Ev),(s:ByteArray),_⟩:=xx
 refine(by kernel_rfl:(lOk l→lOk l∧∃(x:List Ev×Nat),Sf s (0=Nc x.2∧(Ji l).1=(Ji l).1∧(Ji l).2.1=(Ji l).2.1∧Sf (Vp l) (J1a l∧J09 l∧J07 l∧J05 l∧J06 l∧List.length x.1=0))∧Ki0 x l s∧∀(x:List Ev×Nat),Ki0 x l s→Br (decide (Nc x.2<Ln (Vp l))) (Tw (Bd (Nc x.2) (Ln (Vp l)))∧bif Lb (Jxc l x) Js then Jse x s l else bif Lb (Jxc l x) Kv then Jse x s l else bif Lb (Jxc l x) Ke then J1f l x s else bif Lb (Jxc l x) Kq then J1f l x s else bif Lb (Jxc l x) Vf then J1f l x s else bif Lb (Jxc l x) Jt then J64 l x s else bif Lb (Jxc l x) Jo then J64 l x s else bif Lb (Jxc l x) J6 then J61 l x s else bif Lb (Jxc l x) J5 then J61 l x s else Kc4 x s l) (Sf true (x.1=Jrg l s)))=_).mp ?_
 delta Z25 Z65 J1a J09 J07 Jdd J06 J05 Kfo D4 Jc3 K01 Kkz Jxc K0x Kjc Kja Ki0 Kw4 Kwy Kwx Kvf Kuv Kuq Kc4 Jse J64 J1f J61 Br Iw Bd T2 Tw Sf Si Ln Nc Gt B0 Lb E2 Kq Ke Jt J6 Kv Jo J5 Js Vf
 intro hl
 have hr:=Fw (l:=l)
 have nO:=hr.nO
 have nX:=hr.nX
 have nQ:=hr.nQ
 have hcl:=J4t (l:=l)
 refine⟨hl,([],(0:Nat)),by(repeat' first|exact rfl|exact⟨⟩|apply And.intro|omega|dsimp only;omega),⟨Nat.zero_le _,rfl⟩,fun(x:List Ev×Nat) hx=>⟨fun h1=> ?_,fun h1=>⟨rfl, ?_⟩⟩⟩
 ·obtain⟨o,k⟩:=x
  obtain⟨k1,k2⟩:=hx
  dsimp only at k1 k2
  have hlt:k<(Vp l).length:=by simpa using h1
  have hab:=Kar (Jc (d:=ev0) hlt)
  have hst:=Jq6 (s:=s) hlt k2
  have olen:o.length≤k:=by
   rw[k2,Xg]
   exact Nat.le_trans (List.length_filter_le _ _) (by rw[List.length_take];omega)
  have hev:((0:Int),({data:={toList:=[]}}:ByteArray),([]:List ByteArray),([]:List Int),({data:={toList:=[]}}:ByteArray))=ev0:=rfl
  simp only[hev]
  generalize(Vp l).getD k ev0=e at*
  obtain⟨n,kk,ns,vs,tx⟩:=e
  dsimp only at hab hst⊢
  have h5:=hab.ord
  have h6:=hab.out
  have h7:=hab.per
  have hki:=hab.kind
  dsimp only at h5 h6 h7 hki
  refine⟨by(repeat' first|exact rfl|exact⟨⟩|apply And.intro|omega|dsimp only;omega),Jmg (fun h=> ?_) fun h2=>Jmg (fun h=> ?_) fun h3=>Jmg (fun h=> ?_) fun h4=>Jmg (fun h=> ?_) fun h8=>Jmg (fun h=> ?_) fun h9=>Jmg (fun h=> ?_) fun h10=>Jmg (fun h=> ?_) fun h11=>Jmg (fun h=> ?_) fun h12=>Jmg (fun h=> ?_) fun h13=> ?_⟩
  ·obtain rfl:kk=Js:=Vd h
   have q:abS (Ji l) (n,Js,ns,vs,tx) s=true:=by unfold abS;simp only[K2]
   have hst:=hst.1 q
   exact⟨by(repeat' first|exact rfl|exact⟨⟩|apply And.intro|omega|dsimp only;omega),by omega,by(repeat' first|exact rfl|exact⟨⟩|apply And.intro|omega|dsimp only;omega),(_,k+1),by(repeat' first|exact rfl|exact⟨⟩|apply And.intro|omega|dsimp only;omega),⟨hlt,hst⟩,by show(Vp l).length-(k+1)<(Vp l).length-k;omega⟩
  ·obtain rfl:kk=Kv:=Vd h
   have q:abS (Ji l) (n,Kv,ns,vs,tx) s=true:=by unfold abS;simp only[U8]
   have hst:=hst.1 q
   exact⟨by(repeat' first|exact rfl|exact⟨⟩|apply And.intro|omega|dsimp only;omega),by omega,by(repeat' first|exact rfl|exact⟨⟩|apply And.intro|omega|dsimp only;omega),(_,k+1),by(repeat' first|exact rfl|exact⟨⟩|apply And.intro|omega|dsimp only;omega),⟨hlt,hst⟩,by show(Vp l).length-(k+1)<(Vp l).length-k;omega⟩
  ·obtain rfl:kk=Ke:=Vd h
   have g:=h5 (by rw[Uj])
   have gl:=Ua (l:=(Ji l).2.2.2.1) (s:=ns.getD 0 Ja)
   refine⟨⟨⟨by decide,by omega⟩,⟨by decide,by omega⟩,Nat.le_trans nO (by decide),⟨g.2,gl⟩,g.2,gl⟩,Jmg (fun q=> ?_) fun q=> ?_⟩
   all_goals (have q:abS (Ji l) (n,Ke,ns,vs,tx) s=_:=(by unfold abS;simp only[Uj];exact q))
   ·exact⟨by(repeat' first|exact rfl|exact⟨⟩|apply And.intro|omega|dsimp only;omega),by omega,by(repeat' first|exact rfl|exact⟨⟩|apply And.intro|omega|dsimp only;omega),(_,k+1),by(repeat' first|exact rfl|exact⟨⟩|apply And.intro|omega|dsimp only;omega),⟨hlt,hst.1 q⟩,by show(Vp l).length-(k+1)<(Vp l).length-k;omega⟩
   ·exact⟨by(repeat' first|exact rfl|exact⟨⟩|apply And.intro|omega|dsimp only;omega),(o,k+1),by(repeat' first|exact rfl|exact⟨⟩|apply And.intro|omega|dsimp only;omega),⟨hlt,hst.2 q⟩,by show(Vp l).length-(k+1)<(Vp l).length-k;omega⟩
  ·obtain rfl:kk=Kq:=Vd h
   have g:=h5 (by rw[Uk])
   have gl:=Ua (l:=(Ji l).2.2.2.1) (s:=ns.getD 0 Ja)
   refine⟨⟨⟨by decide,by omega⟩,⟨by decide,by omega⟩,Nat.le_trans nO (by decide),⟨g.2,gl⟩,g.2,gl⟩,Jmg (fun q=> ?_) fun q=> ?_⟩
   all_goals (have q:abS (Ji l) (n,Kq,ns,vs,tx) s=_:=(by unfold abS;simp only[Uk];exact q))
   ·exact⟨by(repeat' first|exact rfl|exact⟨⟩|apply And.intro|omega|dsimp only;omega),by omega,by(repeat' first|exact rfl|exact⟨⟩|apply And.intro|omega|dsimp only;omega),(_,k+1),by(repeat' first|exact rfl|exact⟨⟩|apply And.intro|omega|dsimp only;omega),⟨hlt,hst.1 q⟩,by show(Vp l).length-(k+1)<(Vp l).length-k;omega⟩
   ·exact⟨by(repeat' first|exact rfl|exact⟨⟩|apply And.intro|omega|dsimp only;omega),(o,k+1),by(repeat' first|exact rfl|exact⟨⟩|apply And.intro|omega|dsimp only;omega),⟨hlt,hst.2 q⟩,by show(Vp l).length-(k+1)<(Vp l).length-k;omega⟩
  ·obtain rfl:kk=Vf:=Vd h
   have g:=h5 (by rw[Vg])
   have gl:=Ua (l:=(Ji l).2.2.2.1) (s:=ns.getD 0 Ja)
   refine⟨⟨⟨by decide,by omega⟩,⟨by decide,by omega⟩,Nat.le_trans nO (by decide),⟨g.2,gl⟩,g.2,gl⟩,Jmg (fun q=> ?_) fun q=> ?_⟩
   all_goals (have q:abS (Ji l) (n,Vf,ns,vs,tx) s=_:=(by unfold abS;simp only[Vg];exact q))
   ·exact⟨by(repeat' first|exact rfl|exact⟨⟩|apply And.intro|omega|dsimp only;omega),by omega,by(repeat' first|exact rfl|exact⟨⟩|apply And.intro|omega|dsimp only;omega),(_,k+1),by(repeat' first|exact rfl|exact⟨⟩|apply And.intro|omega|dsimp only;omega),⟨hlt,hst.1 q⟩,by show(Vp l).length-(k+1)<(Vp l).length-k;omega⟩
   ·exact⟨by(repeat' first|exact rfl|exact⟨⟩|apply And.intro|omega|dsimp only;omega),(o,k+1),by(repeat' first|exact rfl|exact⟨⟩|apply And.intro|omega|dsimp only;omega),⟨hlt,hst.2 q⟩,by show(Vp l).length-(k+1)<(Vp l).length-k;omega⟩
  ·obtain rfl:kk=Jt:=Vd h
   have g:=h6 (by rw[Km])
   have gl:=K0 (l:=(Ji l).2.2.2.2.2.1) (s:=ns.getD 0 Ja)
   refine⟨⟨⟨by decide,by omega⟩,⟨by decide,by omega⟩,Nat.le_trans nX (by decide),⟨g.2,gl⟩,g.2,gl⟩,Jmg (fun q=> ?_) fun q=> ?_⟩
   all_goals (have q:abS (Ji l) (n,Jt,ns,vs,tx) s=_:=(by unfold abS;simp only[Km];exact q))
   ·exact⟨by(repeat' first|exact rfl|exact⟨⟩|apply And.intro|omega|dsimp only;omega),by omega,by(repeat' first|exact rfl|exact⟨⟩|apply And.intro|omega|dsimp only;omega),(_,k+1),by(repeat' first|exact rfl|exact⟨⟩|apply And.intro|omega|dsimp only;omega),⟨hlt,hst.1 q⟩,by show(Vp l).length-(k+1)<(Vp l).length-k;omega⟩
   ·exact⟨by(repeat' first|exact rfl|exact⟨⟩|apply And.intro|omega|dsimp only;omega),(o,k+1),by(repeat' first|exact rfl|exact⟨⟩|apply And.intro|omega|dsimp only;omega),⟨hlt,hst.2 q⟩,by show(Vp l).length-(k+1)<(Vp l).length-k;omega⟩
  ·obtain rfl:kk=Jo:=Vd h
   have g:=h6 (by rw[J8])
   have gl:=K0 (l:=(Ji l).2.2.2.2.2.1) (s:=ns.getD 0 Ja)
   refine⟨⟨⟨by decide,by omega⟩,⟨by decide,by omega⟩,Nat.le_trans nX (by decide),⟨g.2,gl⟩,g.2,gl⟩,Jmg (fun q=> ?_) fun q=> ?_⟩
   all_goals (have q:abS (Ji l) (n,Jo,ns,vs,tx) s=_:=(by unfold abS;simp only[J8];exact q))
   ·exact⟨by(repeat' first|exact rfl|exact⟨⟩|apply And.intro|omega|dsimp only;omega),by omega,by(repeat' first|exact rfl|exact⟨⟩|apply And.intro|omega|dsimp only;omega),(_,k+1),by(repeat' first|exact rfl|exact⟨⟩|apply And.intro|omega|dsimp only;omega),⟨hlt,hst.1 q⟩,by show(Vp l).length-(k+1)<(Vp l).length-k;omega⟩
   ·exact⟨by(repeat' first|exact rfl|exact⟨⟩|apply And.intro|omega|dsimp only;omega),(o,k+1),by(repeat' first|exact rfl|exact⟨⟩|apply And.intro|omega|dsimp only;omega),⟨hlt,hst.2 q⟩,by show(Vp l).length-(k+1)<(Vp l).length-k;omega⟩
  ·obtain rfl:kk=J6:=Vd h
   have g:=h7 (by rw[Ku])
   have gl:=Ul (l:=(Ji l).2.2.2.2.2.2) (s:=ns.getD 0 Ja)
   have g2:=hr.per _ (Jiw g.2)
   have gl2:=K0 (l:=(Ji l).2.2.2.2.2.1) (s:=(Jj5 (Ji l).2.2.2.2.2.2 (ns.getD 0 Ja)).2.1)
   refine⟨⟨⟨by decide,by omega⟩,⟨by decide,by omega⟩,Nat.le_trans nQ (by decide),⟨g.2,gl⟩,⟨g.2,gl⟩,Nat.le_trans nX (by decide),⟨g2,gl2⟩,g2,gl2⟩,Jmg (fun q=> ?_) fun q=> ?_⟩
   all_goals (have q:abS (Ji l) (n,J6,ns,vs,tx) s=_:=(by unfold abS;simp only[Ku];exact q))
   ·exact⟨by(repeat' first|exact rfl|exact⟨⟩|apply And.intro|omega|dsimp only;omega),by omega,by(repeat' first|exact rfl|exact⟨⟩|apply And.intro|omega|dsimp only;omega),(_,k+1),by(repeat' first|exact rfl|exact⟨⟩|apply And.intro|omega|dsimp only;omega),⟨hlt,hst.1 q⟩,by show(Vp l).length-(k+1)<(Vp l).length-k;omega⟩
   ·exact⟨by(repeat' first|exact rfl|exact⟨⟩|apply And.intro|omega|dsimp only;omega),(o,k+1),by(repeat' first|exact rfl|exact⟨⟩|apply And.intro|omega|dsimp only;omega),⟨hlt,hst.2 q⟩,by show(Vp l).length-(k+1)<(Vp l).length-k;omega⟩
  ·obtain rfl:kk=J5:=Vd h
   have g:=h7 (by rw[Kt])
   have gl:=Ul (l:=(Ji l).2.2.2.2.2.2) (s:=ns.getD 0 Ja)
   have g2:=hr.per _ (Jiw g.2)
   have gl2:=K0 (l:=(Ji l).2.2.2.2.2.1) (s:=(Jj5 (Ji l).2.2.2.2.2.2 (ns.getD 0 Ja)).2.1)
   refine⟨⟨⟨by decide,by omega⟩,⟨by decide,by omega⟩,Nat.le_trans nQ (by decide),⟨g.2,gl⟩,⟨g.2,gl⟩,Nat.le_trans nX (by decide),⟨g2,gl2⟩,g2,gl2⟩,Jmg (fun q=> ?_) fun q=> ?_⟩
   all_goals (have q:abS (Ji l) (n,J5,ns,vs,tx) s=_:=(by unfold abS;simp only[Kt];exact q))
   ·exact⟨by(repeat' first|exact rfl|exact⟨⟩|apply And.intro|omega|dsimp only;omega),by omega,by(repeat' first|exact rfl|exact⟨⟩|apply And.intro|omega|dsimp only;omega),(_,k+1),by(repeat' first|exact rfl|exact⟨⟩|apply And.intro|omega|dsimp only;omega),⟨hlt,hst.1 q⟩,by show(Vp l).length-(k+1)<(Vp l).length-k;omega⟩
   ·exact⟨by(repeat' first|exact rfl|exact⟨⟩|apply And.intro|omega|dsimp only;omega),(o,k+1),by(repeat' first|exact rfl|exact⟨⟩|apply And.intro|omega|dsimp only;omega),⟨hlt,hst.2 q⟩,by show(Vp l).length-(k+1)<(Vp l).length-k;omega⟩
  ·have q:abS (Ji l) (n,kk,ns,vs,tx) s=false:=by
    have no:∀{w:ByteArray},(w.toList==w.toList)=false→False:=fun a=>by rw[Jir] at a;cases a
    rcases U4 hki with h|h|h|h|h|h|h|h|h|h|h<;>subst h
    all_goals first|exact(no h2).elim|exact(no h3).elim|exact(no h4).elim|exact(no h8).elim|exact(no h9).elim|exact(no h10).elim|exact(no h11).elim|exact(no h12).elim|exact(no h13).elim|(unfold abS;simp only[F2];done)|(unfold abS;simp only[Us])
   exact⟨by(repeat' first|exact rfl|exact⟨⟩|apply And.intro|omega|dsimp only;omega),(o,k+1),by(repeat' first|exact rfl|exact⟨⟩|apply And.intro|omega|dsimp only;omega),⟨hlt,hst.2 q⟩,by show(Vp l).length-(k+1)<(Vp l).length-k;omega⟩
 ·obtain⟨o,k⟩:=x
  obtain⟨k1,k2⟩:=hx
  dsimp only at k1 k2 h1⊢
  have hlt:¬k<(Vp l).length:=by simpa using h1
  rw[k2,List.take_of_length_le (by omega)]
  rfl
abbrev K6t:=K14.add K5j
abbrev K6s:=K6t
abbrev K6r:=K6s
abbrev K6q:=K6r
structure K7w (h:Kn) (k:Nat):Prop where
 ok:Jl (Kd (h.2.2.take k))
 uni:Jcc (Kd (h.2.2.take k)).2.2.2.2.2.1
 met:(Kd (h.2.2.take k)).2.2.2.2.1.length<10000
abbrev K6p:=K6q
abbrev K6o:=K6p
end Go.Proofs.YtcibbcfiemeoiaaGreatDoor

/- Contracts of the functions that the law reaches: part of the proof. -/
import Derived.Test.YtcibbcfiemeoiaaGreatDoorFB
set_option linter.unusedSimpArgs false
set_option linter.unusedVariables false
set_option maxRecDepth 20000
namespace Go.Proofs.YtcibbcfiemeoiaaGreatDoor
open Go.Sx
set_option maxHeartbeats 20000000
abbrev Spn:=Int×Int
def J1p:={x:Spn// -1000000000≤x.1∧x.1≤1000000000}
instance:Inhabited J1p:=⟨⟨(0,0),by decide,by decide⟩⟩
def Jr4 (x:J1p):List Value:=[.int .i64 x.1.1, .int .i64 x.1.2]
def Jvw (x y:J1p):Int:=x.1.1-y.1.1
theorem Jez {a b:J1p}:Proofs.ltOf Jvw a b=false↔b.1.1≤a.1.1:=by
 unfold Proofs.ltOf Jvw
 simp only[decide_eq_false_iff_not]
 omega
theorem Jnh (a b:J1p):Proofs.ltOf Jvw a b=true↔a.1.1<b.1.1:=by
 unfold Proofs.ltOf Jvw
 simp only[decide_eq_true_iff]
 omega
theorem K4c:Sort.SWO (Proofs.ltOf Jvw) where
 irrefl x:=Jez.2 (Int.le_refl _)
 trans x y z h1 h2:=(Jnh x z).2 (Int.lt_trans ((Jnh x y).1 h1) ((Jnh y z).1 h2))
 ntrans x y z h1 h2:=Jez.2 (Int.le_trans (Jez.1 h2) (Jez.1 h1))
theorem Jjr (M:Nat→Prop) (w:World) (x:J1p) (cs:List Value):Rep M w Hi x.1 cs↔cs=Jr4 x:=by
 constructor
 ·rintro⟨a,b,rfl,ha,hb⟩
  have ha:a=[.int .i64 x.1.1]:=ha
  have hb:b=[.int .i64 x.1.2]:=hb
  subst ha;subst hb;rfl
 ·rintro rfl
  exact⟨_,_,rfl,rfl,rfl⟩
theorem Jvv (w:World) (x y:J1p) (hG:Sx.Good Tryz.prog w):Calls Tryz.prog 98 #[.agg (Jr4 x).toArray, .agg (Jr4 y).toArray] w fun e w'=>e= .returned (.int .i64 (Jvw x y))∧RowKit.Below w.heap.size w w'∧w.drawn≤w'.drawn:=by
 have h:=(@Cmp.ok98 .on).2.2.2 rfl (x.1,y.1,()) (fun _=>False) (fun _=>False) w [.agg (Jr4 x).toArray, .agg (Jr4 y).toArray] (fun b hb=>by rcases hb with hb|hb<;>exact hb.elim) hG.on ⟨x.2,y.2⟩ ⟨_,_,rfl,⟨Jr4 x,rfl,(Jjr _ _ _ _).2 rfl⟩,_,_,rfl,⟨Jr4 y,rfl,(Jjr _ _ _ _).2 rfl⟩,rfl⟩
 refine h.mono ?_
 rintro e w' ⟨M',vs,rfl,hb,_,_,hr⟩
 obtain⟨v,vs',rfl,⟨cs,rfl,hc⟩,hr⟩:=hr
 have hc:cs=[.int .i64 (Jvw x y)]:=hc
 have hr:vs'=[]:=hr
 subst hc;subst hr
 exact⟨rfl,@Sx.Below.kit .on _ _ _ hb,hb.dr⟩
theorem Jzs (w:World):(isAgg 117).run Tryz.prog w= .ok true w:=by kernel_rfl
theorem Jtq (w:World):(Go.sizeOf 117).run Tryz.prog w= .ok 2 w:=by kernel_rfl
theorem J97 (g cap:Nat) (d:Array J1p) (w:World) (hH:Sort.HoldsK Jr4 2 w g 0 d) (hg:g<w.heap.size) (hd:d.size<4611686018427387904) (hc:Proofs.CmpLays Tryz.prog 98 #[] Jr4 2 Jvw g 0 d.size w):
  Calls Tryz.prog 97 #[.slice (some ⟨g,0,none⟩) d.size cap, .func (.func 98) #[] #[]] w fun e w'=>e= .returned (.tuple #[])∧∃d' n os,Sort.PermIn 0 d.size d d'∧Sort.SortedIn (Proofs.ltOf Jvw) 0 d.size d'∧w'=Proofs.sortWorldK Jr4 2 w g 0 n d' os:=by
 have eg:∀args w,(callFunc 98 args).run Tryz.prog w= .ok (.enter 98 args) w:=Proofs.enters_of Tryz.func98 (by kernel_rfl) rfl
 exact Proofs.AnyQ.slices_SortFunc Proofs.Tryz.sortS 2 Jzs Jtq Jr4 (fun _=>rfl) (fun x v hv=>by simp[Jr4] at hv;rcases hv with rfl|rfl<;>rfl) Jvw K4c 98 #[] g 0 cap d w eg hc hH hg hd
theorem Jm1 (w:World):Calls Tryz.prog 97 #[.slice none 0 0, .func (.func 98) #[] #[]] w fun e w'=>e= .returned (.tuple #[])∧w'=w:=
 Proofs.AnyF.slices_SortFunc_none Proofs.Tryz.sortS none 0 _ w
def Kgg (l:List Spn):Prop:=(∀x∈l,-1000000000≤x.1∧x.1≤1000000000)∧l.length≤1000000
def J3r (xs ys:List Spn):Prop:=ys.Perm xs∧ys.Pairwise fun a b=>a.1≤b.1
theorem Jpe {p:Spn→Prop}:∀l:List Spn,(∀x∈l,p x)→∃zs:List {x:Spn//p x},l=zs.map Subtype.val
 |[],_=>⟨[],rfl⟩
 |x::l,h=>by
  obtain⟨zs,e⟩:=Jpe l fun y hy=>h y (List.mem_cons_of_mem _ hy)
  exact⟨⟨x,h x (List.mem_cons_self ..)⟩::zs,by rw[List.map_cons,←e]⟩
theorem Jtp:Jxq Tryz.prog 97 {T:=117,s:=Hi,g:=98,pre:=Kgg,f:=id,rel:=some J3r}:=
 Jy0 (s:=Hi) (T:=117) (β:=J1p) (k:=2) Subtype.val Jr4 (fun _=>rfl) rfl Jjr Jvw Kgg id J3r J97 Jm1 Jvv
  (fun xs h=>Jpe xs h.1)
  (fun xs ys hp hs=>⟨hp.map _,List.pairwise_map.2 (hs.imp fun h=>Jez.1 h)⟩)
  (fun xs h=>h.2)
def Ka0:Con:={args:=[],ress:=[],owns:=[],pre:=fun _=>[False],spec:=fun _=>(),srt:=some {T:=117,s:=Hi,g:=98,pre:=Kgg,f:=id,rel:=some J3r}}
theorem K4h:Ok Tryz.prog 97 Ka0:=⟨⟨Tryz.f97,by kernel_rfl,by kernel_rfl,by kernel_rfl⟩,fun z hz=>(by cases hz;exact Jtp),fun F hF=>(by cases hF),fun h=>by cases h⟩
abbrev K2o:=K69.add K4h
def J4x:Con:={args:=[.val false (.list 188 X4), .fn [(true,X4)] (true,Hi)],ress:=[(false, .list 117 Hi)],owns:=[true],pre:=fun(l,(q,_),_)=>[l.length≤1000000,∀x∈l,Ul (q (x,()))],spec:=fun(l,(_,f),_)=>(l.map fun x=>f (x,()),())}
def J83 (a:Out×Unit→Spn) (b:Nat) (c:List Out):=List.map (fun(x:Out)=>a (x,PUnit.unit)) (List.take b c)
theorem K4l:Ok Tryz.prog 93 J4x:=okW K2o Tryz.f93 (fun xx=>Xo (Ja8 188 117 X4 xx.1 (true,Hi) true xx.2.1.1 xx.2.1.2)) fun xx=>by
 obtain⟨(l:List Out),⟨(q:Out×Unit→List Prop),(f:Out×Unit→Spn)⟩,_⟩:=xx
 refine(by kernel_rfl:(Z54 l→J2x l q→∃(x:Nat),Si (Ln l) (0=Nc x∧Sf l ((fun(x:Out×PUnit)=>q x)=q∧(fun(x:Out×PUnit)=>f x)=f∧List.length (J83 f x l)=0))∧x≤List.length l∧∀(x:Nat),x≤List.length l→Br (Js0 x l) (Tw (Z14 x l)∧(J2t q l x∧(List.length (J83 f x l)+1)*16≤140737488355328)∧Z20 x∧∃(y:Nat),Si (Ln l) (V5 x y∧Sf l ((fun(x:Out×PUnit)=>q x)=q∧(fun(x:Out×PUnit)=>f x)=f∧J83 f x l++[E2 (f (J2u l x))]=J83 f y l))∧J6d y l x) (J83 f x l=List.map (fun(x:Out)=>f (x,PUnit.unit)) l))=_).mp ?_
 delta Z14 Z20 Z54 V5 Js0 Jc9 Jyf J01 J00 J20 J83 J6d J2x J8d J2u J2t Br Iw Bd Tw Sf Si Ln Nc B0 E2
 intro hb hq
 refine⟨(0:Nat),⟨rfl,rfl,rfl,rfl,rfl,by simp⟩,Nat.zero_le _,fun(k:Nat) hk=>⟨fun h=> ?_,fun h=> ?_⟩⟩
 ·have hlt:k<l.length:=by simpa using h
  refine⟨by omega,⟨hq (l.getD k V8) (Jc hlt),by simp only[List.length_map,List.length_take];omega⟩,by omega,(k+1:Nat),⟨rfl,by simp,rfl,rfl,rfl, ?_⟩,by omega,by omega⟩
  rw[←U3 (d:=V8) hlt,List.map_append];rfl
 ·have hlt:¬k<l.length:=by simpa using h
  rw[List.take_of_length_le (by omega)]
abbrev K2n:=K2o.add K4l
def K6j:Con:={args:=[.val true X4, .ref 9 .str],ress:=[Bo],owns:=[],pre:=fun _=>[],spec:=fun(x,s,_)=>(x.2.1.toList==s.toList,())}
theorem K4j:Ok Tryz.prog 95 K6j:=okW K2n Tryz.f95 na fun xx=>by
 obtain⟨⟨(n:ByteArray),(f:ByteArray),⟨(a:Int),(b:Int)⟩,(p:Int)⟩,(s:ByteArray),_⟩:=xx
 refine(by kernel_rfl:(Lb f s=Lb f s)=_).mp ?_
 delta Lb
 rfl
abbrev K2m:=K2n.add K4j
def K6i:Con:={args:=[.val true X4],ress:=[(true,Hi)],owns:=[],pre:=fun _=>[],spec:=fun(x,_)=>(x.2.2.1,())}
theorem K4i:Ok Tryz.prog 96 K6i:=okW K2m Tryz.f96 na fun xx=>by
 obtain⟨⟨(n:ByteArray),(f:ByteArray),⟨(a:Int),(b:Int)⟩,(p:Int)⟩,_⟩:=xx
 refine(by kernel_rfl:((a,b)=(a,b))=_).mp ?_
 rfl
abbrev K2l:=K2m.add K4i
def avL (st:Int):List Spn→Int×Int→Int×Int
 |[],a=>a
 |s::l,(n,last)=>avL st l (n-max 0 (min s.2 st-max s.1 last),max last (min s.2 st))
theorem J5g {st:Int} {a b:Spn} {l:List Spn} {p:Int×Int} (h:a.1=b.1):avL st (a::b::l) p=avL st (b::a::l) p:=by
 obtain⟨n,last⟩:=p
 simp only[avL]
 congr 1
 refine Prod.ext ?_ ?_<;>dsimp only<;>omega
theorem Jp3 {st:Int} {x:Spn} {bs:List Spn}:∀{us:List Spn} {p:Int×Int},(∀y∈us,y.1=x.1)→avL st (us++x::bs) p=avL st (x::(us++bs)) p
 |[],_,_=>rfl
 | y :: us, (n, last), h => by
  have h1:=Jp3 (st:=st) (x:=x) (bs:=bs) (us:=us) (p:=(n-max 0 (min y.2 st-max y.1 last),max last (min y.2 st))) fun z hz=>h z (List.mem_cons_of_mem _ hz)
  have e:avL st (y::(us++x::bs)) (n,last)=avL st (y::x::(us++bs)) (n,last):=by
   simp only[avL] at h1⊢
   exact h1
  rw[List.cons_append,e,J5g (h y (List.mem_cons_self ..)),List.cons_append]
theorem Jwq {st:Int}:∀{xs ys:List Spn} {p:Int×Int},ys.Perm xs→(xs.Pairwise fun a b=>a.1≤b.1)→(ys.Pairwise fun a b=>a.1≤b.1)→avL st ys p=avL st xs p
 |[],ys,p,h,_,_=>by rw[List.Perm.eq_nil h]
 | x :: xs, ys, (n, last), h, h1, h2 => by
  have hx:x∈ys:=h.mem_iff.2 (List.mem_cons_self ..)
  obtain⟨us,bs,rfl⟩:=List.append_of_mem hx
  have h1:=List.pairwise_cons.1 h1
  have h2':=List.pairwise_append.1 h2
  have hk:∀y∈us,y.1=x.1:=fun y hy=>by
   have a1:=h2'.2.2 y hy x (List.mem_cons_self ..)
   have:y∈x::xs:=h.mem_iff.1 (List.mem_append_left _ hy)
   rcases List.mem_cons.1 this with rfl|hm
   ·rfl
   ·have:=h1.1 y hm
    omega
  rw[Jp3 hk]
  have hp:(us++bs).Perm xs:=((List.perm_middle (a:=x) (l₁:=us) (l₂:=bs)).symm.trans h).cons_inv
  have hs:(us++bs).Pairwise fun a b=>a.1≤b.1:=List.Pairwise.sublist (List.Sublist.append (List.Sublist.refl _) (List.sublist_cons_self ..)) h2
  show avL st (us++bs) _=avL st xs _
  exact Jwq hp h1.2 hs
def J4e (x:Spn):List Spn→List Spn
 |[]=>[x]
 |y::r=>if x.1≤y.1 then x::y::r else y::J4e x r
def Jrb:List Spn→List Spn
 |[]=>[]
 |x::r=>J4e x (Jrb r)
theorem Je3 (x:Spn):∀l,(J4e x l).Perm (x::l)
 |[]=> .refl _
 |y::r=>by
  simp only[J4e]
  split
  ·exact .refl _
  ·exact((Je3 x r).cons y).trans (.swap x y r)
theorem Jbh:∀l,(Jrb l).Perm l
 |[]=> .refl _
 |x::r=>(Je3 x _).trans ((Jbh r).cons x)
theorem Je2 {x:Spn}:∀{l:List Spn},(l.Pairwise fun a b=>a.1≤b.1)→(J4e x l).Pairwise fun a b=>a.1≤b.1
 |[],_=>by simp[J4e]
 | y :: r, h => by
  have h0:=List.pairwise_cons.1 h
  simp only[J4e]
  split
  ·rename_i hlt
   refine List.pairwise_cons.2 ⟨fun z hz=> ?_,h⟩
   rcases List.mem_cons.1 hz with rfl|hz
   ·exact hlt
   ·exact Int.le_trans hlt (h0.1 z hz)
  ·rename_i hlt
   refine List.pairwise_cons.2 ⟨fun z hz=> ?_,Je2 h0.2⟩
   rcases List.mem_cons.1 ((Je3 x r).mem_iff.1 hz) with rfl|hz
   ·omega
   ·exact h0.1 z hz
theorem Db:∀{l:List Spn},(Jrb l).Pairwise fun a b=>a.1≤b.1
 |[]=> .nil
 |x::r=>Je2 Db
def Hj (X:List Out) (s:ByteArray):List Spn:=(X.filter fun x=>x.2.1.toList==s.toList).map fun x=>x.2.2.1
def avN (st:Int) (X:List Out) (s:ByteArray):Int:=(avL st (Jrb (Hj X s)) (st,0)).1
def avE (l:List Ev) (s:ByteArray):Int:=Jf [opE l [s],bif (Jo l).2.1==0 then 6 else 0]
def avP (l:List Ev) (s:ByteArray):Int×Int:=if avE l s=0 then Jrt (avN (Jo l).2.1 (Jo l).2.2.2.2.2.1 s) (Jo l).2.1 else(0,0)
def Krj:Con:={args:=[.val false (.list 67 sEv),aS],ress:=[(true,Hi),I],owns:=[],pre:=fun(l,_)=>[lOk l],spec:=fun(l,s,_)=>(avP l s,avE l s,())}
abbrev Krr (l:List Ev) (s:ByteArray):Ann:={X:=Nat×Int×Int×List Spn,σ:=fun(k,n,last,ys)=>⟨14,[(4, .one (.ptr 2 0)),(6, .one (.ptr 9 0)),(9, .one (.int .i64 n)),(11, .one (.int .i64 last)),(43, .one (.sl 13)),(44, .one (.int .i64 ys.length)),(45, .one (.int .i64 k))],[(2, .box 54 [.int .i64 0, .int .i64 0]),(9, .box 105 [.int .i64 (Jo l).1, .int .i64 (Jo l).2.1, .sl 4, .sl 5, .sl 6, .sl 7, .sl 8]),(4, .imm 127 Dp (Jo l).2.2.1),(5, .imm 130 Hm (Jo l).2.2.2.1),(6, .imm 155 Fb (Jo l).2.2.2.2.1),(7, .imm 188 X4 (Jo l).2.2.2.2.2.1),(8, .imm 235 Zw (Jo l).2.2.2.2.2.2),(13, .own 117 Hi ys)]⟩,inv:=fun(k,n,last,ys)=>k≤ys.length∧J3r (Hj (Jo l).2.2.2.2.2.1 s) ys∧(0≤last∧last≤(Jo l).2.1)∧((Jo l).2.1-last≤n∧n≤(Jo l).2.1)∧avL (Jo l).2.1 (ys.drop k) (n,last)=avL (Jo l).2.1 ys ((Jo l).2.1,0),mu:=fun(k,_,_,ys)=>ys.length-k}
def K0n (a:Nat×Int×Int×List Spn) (b:List Ev):=min (List.getD a.2.2.2 a.1 (0,0)).2 (Jo b).2.1
def Kzu (a:List Ev) (b:Bt):=Jf [opE a [b],bif (Jo a).2.1==0 then 6 else 0]
def Ki1 (a:Bt) (b:List Ev):=List.filter (fun(x:Out)=>List.beq (ByteArray.toList x.2.1) (ByteArray.toList a)) (Jo b).2.2.2.2.2.1
def Kwi (a:Bt) (b:List Ev):=List.map (fun(x:Out)=>x.2.2.1) (Ki1 a b)
def Kv8 (a:Nat×Int×Int×List Spn) (b:List Ev):=K0n a b-max (List.getD a.2.2.2 a.1 (0,0)).1 a.2.2.1
def Kva (a:Nat×Int×Int×List Spn) (b:List Ev):=a.2.1-max 0 (Kv8 a b)
def Kuq (a:Nat×Int×Int×List (Int×Int)) (b:List Ev) (c:Bt):=a.1≤List.length a.2.2.2∧J3r (Hj (Jo b).2.2.2.2.2.1 c) a.2.2.2∧(0≤a.2.2.1∧a.2.2.1≤(Jo b).2.1)∧((Jo b).2.1-a.2.2.1≤a.2.1∧a.2.1≤(Jo b).2.1)∧avL (Jo b).2.1 (List.drop a.1 a.2.2.2) (a.2.1,a.2.2.1)=avL (Jo b).2.1 a.2.2.2 ((Jo b).2.1,0)
theorem K5k:Ok Tryz.prog 27 Krj:=J16 K2l Tryz.f27 (U6 (l:=([]:List (Nat×Func))) (by simp)) (fun xx=>Xo (Krr xx.1 xx.2.1)) (fun xx=>fun _=>na ()) fun xx=>by
 obtain⟨(l:List Ev),(s:ByteArray),_⟩:=xx
 refine(by kernel_rfl:(lOk l→(lOk l∧1≤1000000)∧2≤1000000∧Br (Kzu l s !=0) (Sf true ((0,0)=avP l s∧Kzu l s=avE l s)) ((List.length (Jo l).2.2.2.2.2.1≤1000000∧(∀(x:Out),x∈(Jo l).2.2.2.2.2.1→True)∧List.length (Ki1 s l)≤1000000∧∀(x:Out),x∈Ki1 s l→True)∧Kgg (Kwi s l)∧∀(ys:List (Int×Int)),J3r (Kwi s l) ys→∃(x:Nat×Int×Int×List (Int×Int)),((Jo l).2.1=x.2.1∧0=x.2.2.1∧Ln ys=Ln x.2.2.2∧0=Nc x.1∧Si 0 (Si 0 ((Jo l).1=(Jo l).1∧(Jo l).2.1=(Jo l).2.1∧(Jo l).2.2.1=(Jo l).2.2.1∧Kf2 l∧Kfz l∧Kfw l∧Kfv l∧ys=x.2.2.2)))∧Kuq x l s∧∀(x:Nat×Int×Int×List Spn),x.1≤List.length x.2.2.2∧J3r (Hj (Jo l).2.2.2.2.2.1 s) x.2.2.2∧(0≤x.2.2.1∧x.2.2.1≤(Jo l).2.1)∧((Jo l).2.1-x.2.2.1≤x.2.1∧x.2.1≤(Jo l).2.1)∧avL (Jo l).2.1 (List.drop x.1 x.2.2.2) (x.2.1,x.2.2.1)=avL (Jo l).2.1 x.2.2.2 ((Jo l).2.1,0)→Br (decide (Nc x.1<Ln x.2.2.2)) (Tw (Bd (Nc x.1) (Ln x.2.2.2))∧(Iw (Kv8 x l)∧Iw (Kva x l))∧Iw (Nc x.1+1)∧∃(y:Nat×Int×Int×List (Int×Int)),(Kva x l=y.2.1∧max x.2.2.1 (K0n x l)=y.2.2.1∧Ln x.2.2.2=Ln y.2.2.2∧Nc x.1+1=Nc y.1∧Si 0 (Si 0 (Si (Jo l).1 (Si (Jo l).2.1 ((Jo l).2.2.1=(Jo l).2.2.1∧Kf2 l∧Kfz l∧Kfw l∧Kfv l∧x.2.2.2=y.2.2.2)))))∧Kuq y l s∧List.length y.2.2.2-y.1<List.length x.2.2.2-x.1) (((0≤x.2.1∧x.2.1≤1000000000000)∧1≤(Jo l).2.1∧(Jo l).2.1≤1000000000000)∧Sf true (E2 (Jrt x.2.1 (Jo l).2.1)=avP l s∧0=avE l s))))=_).mp ?_
 delta Kf2 Kfz Kfw Kfv K0n Kzu Ki1 Kwi Kv8 Kva Kuq Br Iw Bd Tw Sf Si Ln Nc E2
 intro hl
 have hr:=Dg (l:=l)
 have hz:Hj (Jo l).2.2.2.2.2.1 s=List.map (fun x=>x.2.2.1) (List.filter (fun x=>x.2.1.toList.beq s.toList) (Jo l).2.2.2.2.2.1):=rfl
 rw[←hz]
 have nX:(Jo l).2.2.2.2.2.1.length≤16:=hr.nX
 have hX:∀x∈Hj (Jo l).2.2.2.2.2.1 s,Jhy x:=fun x hx=>by
  obtain⟨y,hy,rfl⟩:=List.mem_map.1 hx
  exact(hr.out y (List.mem_filter.1 hy).1).span
 have hlen:(Hj (Jo l).2.2.2.2.2.1 s).length≤16:=by
  unfold Hj
  rw[List.length_map]
  exact Nat.le_trans (List.length_filter_le _ _) nX
 have hst:=hr.st
 have htk:=hr.tk
 refine⟨⟨hl,by decide⟩,by decide,fun h=> ?_,fun h=>⟨⟨Nat.le_trans nX (by decide),fun _ _=>trivial,Nat.le_trans (List.length_filter_le _ _) (Nat.le_trans nX (by decide)),fun _ _=>trivial⟩,⟨fun x hx=> ?_,by omega⟩,fun ys hy=>⟨((0:Nat),(Jo l).2.1,0,ys),by(repeat' first|exact rfl|exact⟨⟩|apply And.intro|omega|dsimp only;omega),⟨Nat.zero_le _,hy,by(first|omega|dsimp only;omega),by(first|omega|dsimp only;omega),rfl⟩,fun(x:Nat×Int×Int×List Spn) hk=>⟨fun h1=> ?_,fun h1=> ?_⟩⟩⟩⟩
 ·have h:avE l s≠0:=bne_iff_ne.1 h
  refine⟨rfl, ?_,rfl⟩
  unfold avP;rw[if_neg h]
 ·have:=hX x hx
  have h1:=this.lo
  have h2:=this.mid
  have h3:=this.hi
  omega
 ·obtain⟨k,n,last,ys⟩:=x
  obtain⟨k1,k2,k3,k4,k5⟩:=hk
  have hlt:k<ys.length:=by simpa using h1
  have hx:=hX _ (k2.1.mem_iff.1 (Jc (d:=((0:Int),(0:Int))) hlt))
  have x1:=hx.lo
  have x2:=hx.mid
  have x3:=hx.hi
  dsimp only at k1 k2 k3 k4 k5
  rw[Js (d:=((0:Int),(0:Int))) hlt,avL] at k5
  have hln:ys.length≤16:=by rw[k2.1.length_eq];exact hlen
  dsimp only
  generalize ys.getD k (0,0)=y at x1 x2 x3 k5⊢
  obtain⟨a,b⟩:=y
  dsimp only at x1 x2 x3 k5⊢
  refine⟨by omega,by omega,by omega,(k+1,n-max 0 (min b (Jo l).2.1-max a last),max last (min b (Jo l).2.1),ys),by(repeat' first|exact rfl|exact⟨⟩|apply And.intro|omega|dsimp only;omega),⟨by(first|omega|dsimp only;omega),k2,by(first|omega|dsimp only;omega),by(first|omega|dsimp only;omega),k5⟩,by(first|omega|dsimp only;omega)⟩
 ·obtain⟨k,n,last,ys⟩:=x
  obtain⟨k1,k2,k3,k4,k5⟩:=hk
  have hlt:¬k<ys.length:=by simpa using h1
  dsimp only at k1 k2 k3 k4 k5
  have e:k=ys.length:=by omega
  rw[e,List.drop_length,avL] at k5
  have h:avE l s=0:=bne_eq_false_iff_eq.1 h
  have hs:(Jo l).2.1≠0:=fun h0=>by
   have:=(Xm h).2
   rw[h0] at this
   exact absurd this (by decide)
  have e2:avN (Jo l).2.1 (Jo l).2.2.2.2.2.1 s=n:=by
   unfold avN
   rw[Jwq (k2.1.trans (Jbh _).symm) Db k2.2] at k5
   rw[←k5]
  refine⟨⟨by(first|omega|dsimp only;omega),by omega⟩,rfl, ?_,h.symm⟩
  unfold avP
  rw[if_pos h,e2]
abbrev K2k:=K2l.add K5k
def Jz7:Con:={args:=[aI],ress:=[tS],owns:=[],pre:=fun(n,_)=>[-(10^17:Int)<n,n<10^18],spec:=fun(n,_)=>(X3 n,())}
def Kkt:=10^18
def K0j (a:Int):=a<Kkt
def Kjk:= -10^17
def Kzb (a:Int):=Kjk<a
theorem Kp2:Ok Tryz.prog 117 Jz7:=okW K2k Tryz.f117 na fun xx=>by
 obtain⟨(n:Int),_⟩:=xx
 refine(by kernel_rfl:(Kzb n→K0j n→(17≤18∧Kzb n∧K0j n)∧X3 n=X3 n)=_).mp ?_
 delta Kkt K0j Kjk Kzb
 intro h1 h2
 exact⟨⟨by decide,h1,h2⟩,rfl⟩
abbrev K2j:=K2k.add Kp2
def Jue (s:ByteArray) (j:Nat):ByteArray:=bs (List.replicate j 48++Lib.itoa (Jgg s))
abbrev J0o (s:ByteArray):Nat→Option Ann:=fun id=>if id=0 then some {X:=Nat×Int,σ:=fun(k,x)=>⟨0,[(0, .one (.str s)),(3, .one (.int .i64 x)),(4, .one (.int .i64 k))],[]⟩,inv:=fun(k,x)=>k≤s.size∧(0≤x∧x<9999721)∧Jsl (s.data.toList.drop k) x=Jgg s,mu:=fun(k,_)=>s.size-k}
 else if id=2 then some {X:=Nat,σ:=fun j=>⟨0,[(5, .one (.str (Jue s j)))],[]⟩,inv:=fun j=>j+(Lib.itoa (Jgg s)).length≤7,mu:=fun j=>7-j} else none
def Kls (a:Nat) (b:Bt):=a+List.length (Lib.itoa (Jgg b))≤7
theorem K45:Ok Tryz.prog 67 K1x:=okW K2j Tryz.f67 (fun xx=>J0o xx.1) fun xx=>by
 obtain⟨(s:ByteArray),_⟩:=xx
 refine(by kernel_rfl:(ByteArray.size s≤1000000→∃(x:Nat×Int),Sf s (1=x.2∧0=Nc x.1)∧J6b x s∧∀(x:Nat×Int),J6b x s→Br (decide (Nc x.1<Nc (ByteArray.size s))) (Kg7 x s∧Z37 x∧∃(y:Nat×Int),Sf s (Kji x s y∧Jse x y)∧Kh4 y s x) ((Kjk<x.2∧x.2<Kkt)∧∃(x_1:Nat),X3 x.2=Jue s x_1∧Kls x_1 s∧∀(x:Nat),Kls x s→Br (decide (Nc (ByteArray.size (Jue s x))<7)) (Nc (1+ByteArray.size (Jue s x))≤9223372036854775807∧∃(y:Nat),ByteArray.mk (Array.mk (48::([]++(Jue s x).data.toList)))=Jue s y∧Kls y s∧7-y<7-x) (Jue s x=Jop s)))=_).mp ?_
 delta Z11 Z37 Jse Kls Kkt Kks Kjk Kji J6b Kh4 Kg7 Br Iw Bd Sf Nc
 intro hs
 refine⟨((0:Nat),(1:Int)),by(repeat' first|exact rfl|exact⟨⟩|apply And.intro|omega|dsimp only;omega),⟨Nat.zero_le _,by(first|omega|dsimp only;omega),rfl⟩,fun(y:Nat×Int) hk=>⟨fun h=> ?_,fun h=> ?_⟩⟩
 ·obtain⟨k,x⟩:=y
  have hlt:k<s.size:=by simpa using h
  obtain⟨k1,k2,k3⟩:=hk
  dsimp only at k1 k2
  rw[Dl hlt,Jsl] at k3
  have hb:=Jwg s k
  refine⟨by(repeat' first|apply And.intro|(first|omega|dsimp only;omega)),by(repeat' first|apply And.intro|(first|omega|dsimp only;omega)),(k+1,(341*x+((s.data.toList.getD k 0).toNat:Int)).tmod 9999721),by(repeat' first|exact rfl|exact⟨⟩|apply And.intro|omega|dsimp only;omega),⟨by(first|omega|dsimp only;omega),⟨Int.tmod_nonneg _ (by omega),Int.tmod_lt_of_pos _ (by decide)⟩,k3⟩,by(first|omega|dsimp only;omega)⟩
 ·obtain⟨k,x⟩:=y
  have hlt:¬k<s.size:=by simpa using h
  obtain⟨k1,k2,k3⟩:=hk
  have e:k=s.size:=by omega
  rw[e,List.drop_eq_nil_of_le (by simp),Jsl] at k3
  have k3:x=Jgg s:=k3
  have hl:=Jij s
  dsimp only
  rw[k3]
  have hb:=Jmy s
  have hsz:∀j,(Jue s j).size=j+(Lib.itoa (Jgg s)).length:=fun j=>by
   unfold Jue
   rw[Xh,List.length_append,List.length_replicate]
  refine⟨⟨by omega,by omega⟩,(0:Nat),rfl,by omega,fun(j:Nat) hj=>⟨fun h=> ?_,fun h=> ?_⟩⟩
  ·have h:((Jue s j).size:Int)<7:=of_decide_eq_true h
   have hz:=hsz j
   refine⟨by omega,j+1,rfl,by omega,by omega⟩
  ·have h:¬((Jue s j).size:Int)<7:=of_decide_eq_false h
   have hz:=hsz j
   have:j=7-(Lib.itoa (Jgg s)).length:=by omega
   rw[this];rfl
abbrev K2i:=K2j.add K45
theorem Jln:∀{l:List (List UInt8)} {b:Nat},(∀x∈l,x.length≤b)→(Lib.join l []).length≤b*l.length
 |[],_,_=>by simp[Lib.join,List.intercalate]
 |[x],b,h=>by
  have:=h x (List.mem_cons_self ..)
  simpa[Lib.join,List.intercalate,List.intersperse] using this
 |x::y::r,b,h=>by
  have ih:=Jln (l:=y::r) fun z hz=>h z (List.mem_cons_of_mem _ hz)
  have hx:=h x (List.mem_cons_self ..)
  have e:Lib.join (x::y::r) []=x++Lib.join (y::r) []:=by simp[Lib.join,List.intercalate,List.intersperse]
  rw[e,List.length_append,List.length_cons,Nat.mul_add]
  omega
def J46:Con:={args:=[.ref 212 Jit],ress:=[(false, .list 67 sEv)],owns:=[],pre:=fun(h,_)=>[h.1.length≤1000,∀e∈h.1,Jfm e],spec:=fun(h,_)=>(h.1,())}
theorem K5b:Ok Tryz.prog 41 J46:=okW K2i Tryz.f41 na fun xx=>by
 obtain⟨⟨(E:List Ev),(C:List Ev),(G:List Reg)⟩,_⟩:=xx
 refine(by kernel_rfl:(List.length E≤1000→(∀(e:Ev),J06 E e→Jfm e)→Br false ([]=E) ((Z39 E∧∀(x:Ev),J06 E x→Kk4 x)∧List.map (fun(x:Ev)=>x) E=E))=_).mp ?_
 delta Z39 J06 Kk4 Br
 intro h1 h2
 refine⟨fun h=>(nomatch h),fun _=>⟨⟨by omega,fun x hx=>⟨(h2 x hx).1,(h2 x hx).2.1⟩⟩,List.map_id' _⟩⟩
abbrev K2h:=K2i.add K5b
def Kqi (l:List Ev):ByteArray:=Vq (l.map J3t) Ja
def K59:Con:={args:=[.ref 212 Jit],ress:=[tS],owns:=[],pre:=fun(h,_)=>[h.1.length≤1000,∀e∈h.1,Lz e],spec:=fun(h,_)=>(Kqi h.1,())}
def Klw (a:List Ev):=List.map (fun(x:Ev)=>J3t x) a
def K06 (a:List Ev):=∀(x:Ev),J06 a x→Lz x
theorem K5a:Ok Tryz.prog 42 K59:=okW K2h Tryz.f42 na fun xx=>by
 obtain⟨⟨(E:List Ev),(C:List Ev),(G:List Reg)⟩,_⟩:=xx
 refine(by kernel_rfl:(List.length E≤1000→K06 E→Br false (B0=Kqi E) ((Z39 E∧K06 E∧List.length (Klw E)≤1000000∧List.length (Lib.join (List.map (fun(x:ByteArray)=>Z11 x) (Klw E)) [])≤140737488355328)∧Vq (Klw E) B0=Kqi E))=_).mp ?_
 delta Z11 Z39 Klw J06 K06 Br B0
 intro h1 h2
 refine⟨fun h=>(nomatch h),fun _=>⟨⟨by omega,h2,by rw[List.length_map];omega, ?_⟩,rfl⟩⟩
 refine Nat.le_trans (Jln (b:=2000000) fun z hz=> ?_) ?_
 ·rw[List.map_map] at hz
  obtain⟨e,he,rfl⟩:=List.mem_map.1 hz
  have:=Jua (h2 e he)
  have:=Jp1 (h2 e he)
  show(J3t e).size≤2000000
  omega
 ·rw[List.length_map,List.length_map];omega
abbrev K68:=K2h.add K5a
def Jrc:List Say:=[(⟨⟨[115,116,97,116,105,111,110,32,97,32,48,32,49,48]⟩⟩,⟨⟨[100,111,110,101,32,49]⟩⟩,0),(⟨⟨[115,116,97,116,105,111,110,32,98,32,48,32,56]⟩⟩,⟨⟨[100,111,110,101,32,50]⟩⟩,0),(⟨⟨[112,114,105,99,101,32,97,32,48,32,53]⟩⟩,⟨⟨[100,111,110,101,32,51]⟩⟩,0),(⟨⟨[111,114,100,101,114,32,111,49,32,97,32,98,32,49,32,50,32,53,32,54]⟩⟩,⟨⟨[100,111,110,101,32,52]⟩⟩,0),(⟨⟨[111,114,100,101,114,32,111,50,32,98,32,97,32,49,32,50,32,53,32,51]⟩⟩,⟨⟨[]⟩⟩,4),(⟨⟨[111,117,116,97,103,101,32,121,32,98,32,49,32,51,32,52,32,53]⟩⟩,⟨⟨[]⟩⟩,24),(⟨⟨[111,117,116,97,103,101,32,120,32,98,32,49,32,53,32,55,32,48]⟩⟩,⟨⟨[100,111,110,101,32,53]⟩⟩,0),(⟨⟨[112,101,114,109,105,116,32,112,32,120,32,53]⟩⟩,⟨⟨[100,111,110,101,32,54]⟩⟩,0),(⟨⟨[109,105,115,115,105,110,103]⟩⟩,⟨⟨[111,49,32,50,32,111,49,32,51,32,111,49,32,52]⟩⟩,0),(⟨⟨[111,117,116,97,103,101,115]⟩⟩,⟨⟨[120]⟩⟩,0),(⟨⟨[116,114,105,112,32,111,49,32,53]⟩⟩,⟨⟨[]⟩⟩,23),(⟨⟨[109,101,116,101,114,32,111,49,32,53,32,50,32,54,32,54]⟩⟩,⟨⟨[100,111,110,101,32,55]⟩⟩,0),(⟨⟨[109,101,116,101,114,32,111,49,32,53,32,51,32,54,32,53]⟩⟩,⟨⟨[100,111,110,101,32,56]⟩⟩,0),(⟨⟨[115,101,116,116,108,101,32,53,32,53]⟩⟩,⟨⟨[]⟩⟩,32),(⟨⟨[109,101,116,101,114,32,111,49,32,53,32,52,32,52,32,51]⟩⟩,⟨⟨[100,111,110,101,32,57]⟩⟩,0),(⟨⟨[109,105,115,115,105,110,103]⟩⟩,⟨⟨[110,111,110,101]⟩⟩,0),(⟨⟨[115,101,116,116,108,101,32,53,32,54]⟩⟩,⟨⟨[]⟩⟩,14),(⟨⟨[115,101,116,116,108,101,32,53,32,53]⟩⟩,⟨⟨[100,111,110,101,32,49,48]⟩⟩,0),(⟨⟨[117,110,100,111]⟩⟩,⟨⟨[]⟩⟩,21),(⟨⟨[98,105,108,108,32,111,49]⟩⟩,⟨⟨[51,32,49,54,32,49,52,32,55,48,32,49,50]⟩⟩,0),(⟨⟨[98,97,108,97,110,99,101,32,98]⟩⟩,⟨⟨[45,53,56]⟩⟩,0),(⟨⟨[114,97,116,101,32,97]⟩⟩,⟨⟨[53]⟩⟩,0),(⟨⟨[114,101,115,116,111,114,101,32,120,32,54]⟩⟩,⟨⟨[]⟩⟩,32),(⟨⟨[112,101,114,109,105,116,115]⟩⟩,⟨⟨[112]⟩⟩,0),(⟨⟨[114,101,116,117,114,110,32,112,32,54]⟩⟩,⟨⟨[100,111,110,101,32,49,49]⟩⟩,0),(⟨⟨[114,101,115,116,111,114,101,32,120,32,54]⟩⟩,⟨⟨[100,111,110,101,32,49,50]⟩⟩,0),(⟨⟨[115,101,116,116,108,101,32,56,32,56]⟩⟩,⟨⟨[100,111,110,101,32,49,51]⟩⟩,0),(⟨⟨[115,101,116,116,108,101,100]⟩⟩,⟨⟨[56]⟩⟩,0)]
def Fi:List Ev:=[(1,⟨⟨[115,116,97,116,105,111,110]⟩⟩,[⟨⟨[97]⟩⟩],[0,10],⟨⟨[]⟩⟩),(2,⟨⟨[115,116,97,116,105,111,110]⟩⟩,[⟨⟨[98]⟩⟩],[0,8],⟨⟨[]⟩⟩),(3,⟨⟨[112,114,105,99,101]⟩⟩,[⟨⟨[97]⟩⟩],[0,5],⟨⟨[]⟩⟩),(4,⟨⟨[111,114,100,101,114]⟩⟩,[⟨⟨[111,49]⟩⟩,⟨⟨[97]⟩⟩,⟨⟨[98]⟩⟩],[1,2,5,6],⟨⟨[]⟩⟩),(5,⟨⟨[111,117,116,97,103,101]⟩⟩,[⟨⟨[120]⟩⟩,⟨⟨[98]⟩⟩],[1,5,7,0],⟨⟨[]⟩⟩),(6,⟨⟨[112,101,114,109,105,116]⟩⟩,[⟨⟨[112]⟩⟩,⟨⟨[120]⟩⟩],[5],⟨⟨[]⟩⟩),(7,⟨⟨[109,101,116,101,114]⟩⟩,[⟨⟨[111,49]⟩⟩],[5,2,6,6],⟨⟨[]⟩⟩),(8,⟨⟨[109,101,116,101,114]⟩⟩,[⟨⟨[111,49]⟩⟩],[5,3,6,5],⟨⟨[]⟩⟩),(9,⟨⟨[109,101,116,101,114]⟩⟩,[⟨⟨[111,49]⟩⟩],[5,4,4,3],⟨⟨[]⟩⟩),(10,⟨⟨[115,101,116,116,108,101]⟩⟩,[],[5,5],⟨⟨[]⟩⟩),(11,⟨⟨[114,101,116,117,114,110]⟩⟩,[⟨⟨[112]⟩⟩],[6],⟨⟨[]⟩⟩),(12,⟨⟨[114,101,115,116,111,114,101]⟩⟩,[⟨⟨[120]⟩⟩],[6],⟨⟨[]⟩⟩),(13,⟨⟨[115,101,116,116,108,101]⟩⟩,[],[8,8],⟨⟨[]⟩⟩)]
def K1u:List Ev:=(Jdp Zx Jrc).1.2.1
def K1t:List Reg:=(Jdp Zx Jrc).1.2.2
theorem Jwx:Jdp Zx Jrc=((Fi,K1u,K1t),true):=by kernel_rfl
def K6h:Xt:={T? :=some 212,s:=Jit,args:=[.val false (.list 147 Kmv)],ress:=[Bo],pre:=fun h (l,_)=>[h=Zx,l=Jrc],spec:=fun _ _=>(true,()),post:=fun _ _=>(Fi,K1u,K1t)}
theorem Jtt:Jrc.length≤1000000∧∀x∈Jrc,x.1.size≤1000000:=by
 refine⟨by decide,fun x hx=> ?_⟩
 have:(Jrc.all fun x=>decide (x.1.size≤1000000))=true:=by kernel_rfl
 exact of_decide_eq_true (List.all_eq_true.1 this x hx)
theorem Jzd {f:FuncId} {c:Xt} {p:c.s.T→ATup c.args→List Prop} {sp:c.s.T→ATup c.args→Tup c.ress} {q:c.s.T→ATup c.args→c.s.T} (h1:OkO Tryz.prog f c) (h:∀x y,Ul (p x y)→Ul (c.pre x y)∧sp x y=c.spec x y∧q x y=c.post x y):OkO Tryz.prog f {c with pre:=p,spec:=sp,post:=q}:=
 ⟨h1.1,fun x y M R B w b T cells vals vs hB hMR hg hw hBb hMb hRb hT ho hv hpre ha=>by
  obtain⟨hp,e1,e2⟩:=h x y hpre
  have H:=h1.2 x y M R B w b T cells vals vs hB hMR hg hw hBb hMb hRb hT ho hv hp ha
  dsimp only
  rw[e1,e2]
  exact H⟩
theorem Kmy:OkO Tryz.prog 66 J78:=K9 mixed Kl1.ok (by kernel_rfl) (by kernel_rfl) (U6 (l:=([]:List (Nat×Func))) (by simp)) (fun xx yy=>Xo (Jw5 (xx.1,xx.2.1,xx.2.2) yy.1)) (fun xx yy=>fun _=>na ()) fun T xx yy hT=>by obtain rfl:=hT _ rfl;exact K1m xx.1 xx.2.1 xx.2.2 yy.1
theorem Km1:Ok Tryz.prog 66 (Xt.con K6h):=Xz (Jzd (c:=J78) Kmy fun x y hp=>by
 obtain⟨rfl,e⟩:=hp
 obtain⟨l,_⟩:=y
 have e:l=Jrc:=e
 subst e
 exact⟨⟨Hb,J4h,Jtt.1,Jtt.2⟩,by rw[show J78.spec Zx (Jrc,())=((Jdp Zx Jrc).2,()) from rfl,Jwx],by rw[show J78.post Zx (Jrc,())=(Jdp Zx Jrc).1 from rfl,Jwx]⟩)
abbrev K1g:=K68.add Km1
theorem Jpt:Fi.length=13:=by kernel_rfl
theorem Jnt:∀e∈Fi,Jfm e:=fun e he=>by
 have:(Fi.all fun e=>decide (e.2.2.1.length≤1000000)&&decide (e.2.2.2.1.length≤1000000)&&e.2.2.1.all fun s=>decide (s.size≤1000000))=true:=by kernel_rfl
 have h:=List.all_eq_true.1 this e he
 simp only[Bool.and_eq_true] at h
 exact⟨of_decide_eq_true h.1.1,of_decide_eq_true h.1.2,fun s hs=>of_decide_eq_true (List.all_eq_true.1 h.2 s hs)⟩
theorem J4l:∀e∈Fi,Jb e=0:=fun e he=>by
 have:(Fi.all fun e=>Jb e==0)=true:=by kernel_rfl
 exact eq_of_beq (List.all_eq_true.1 this e he)
theorem Jnu (n:Nat):lOk (Fi.take n):=⟨by have:=Jpt;rw[List.length_take];omega,fun e he=>Jnt e (List.mem_of_mem_take he)⟩
def J2o:Con:={args:=[],ress:=[Bo],owns:=[],pre:=fun _=>[],spec:=fun _=>(true,())}
def Z88:=[(32:UInt8),(53:UInt8)]
def Z99:=[(32:UInt8),(51:UInt8)]
def J90:=[(32:UInt8),(54:UInt8)]
def Kl0:=[(32:UInt8),(56:UInt8)]
def Klx:=ByteArray.mk (Array.mk [97])
def Kf1:=ByteArray.mk (Array.mk [98])
def K1f:=32::53::J90
def Kxp:=ByteArray.mk (Array.mk (115::101::116::116::108::101::32::53::Z88))
def Kw6:=ByteArray.mk (Array.mk (114::101::115::116::111::114::101::32::120::J90))
def Kwo:=Fy (List.take 6 Fi) Klx 3+Fy (List.take 6 Fi) Kf1 5
def Kuy:=Kwo+Jmc Fi Klx Kf1
def Kuu:=Kuy+Jgm Fi 4
def Kur:=Kuu+(Jbp Fi).2
def Kt4:=Kur+avE (List.take 10 Fi) Kf1
def Ktt:=Kt4+avE Fi Kf1
theorem K4a:wpFG Tryz.prog K1g.g (na ()) (fun _=>na ()) (Sx.look ([(65,Tryz.f65)]:List (Nat×Func))) Tryz.f14 J2o ():=by
 refine(by kernel_rfl:((([],[],[])=Zx∧[(ByteArray.mk (Array.mk [115,116,97,116,105,111,110,32,97,32,48,32,49,48]),ByteArray.mk (Array.mk [100,111,110,101,32,49]),0),(ByteArray.mk (Array.mk (115::116::97::116::105::111::110::32::98::32::48::Kl0)),ByteArray.mk (Array.mk [100,111,110,101,32,50]),0),(ByteArray.mk (Array.mk (112::114::105::99::101::32::97::32::48::Z88)),ByteArray.mk (Array.mk (100::111::110::101::Z99)),0),(ByteArray.mk (Array.mk (111::114::100::101::114::32::111::49::32::97::32::98::32::49::32::50::K1f)),ByteArray.mk (Array.mk [100,111,110,101,32,52]),0),(ByteArray.mk (Array.mk (111::114::100::101::114::32::111::50::32::98::32::97::32::49::32::50::32::53::Z99)),B0,4),(ByteArray.mk (Array.mk (111::117::116::97::103::101::32::121::32::98::32::49::32::51::32::52::Z88)),B0,24),(ByteArray.mk (Array.mk [111,117,116,97,103,101,32,120,32,98,32,49,32,53,32,55,32,48]),ByteArray.mk (Array.mk (100::111::110::101::Z88)),0),(ByteArray.mk (Array.mk (112::101::114::109::105::116::32::112::32::120::Z88)),ByteArray.mk (Array.mk (100::111::110::101::J90)),0),(K8,ByteArray.mk (Array.mk [111,49,32,50,32,111,49,32,51,32,111,49,32,52]),0),(Ud,ByteArray.mk (Array.mk [120]),0),(ByteArray.mk (Array.mk (116::114::105::112::32::111::49::Z88)),B0,23),(ByteArray.mk (Array.mk (109::101::116::101::114::32::111::49::32::53::32::50::32::54::J90)),ByteArray.mk (Array.mk [100,111,110,101,32,55]),0),(ByteArray.mk (Array.mk (109::101::116::101::114::32::111::49::32::53::32::51::32::54::Z88)),ByteArray.mk (Array.mk (100::111::110::101::Kl0)),0),(Kxp,B0,32),(ByteArray.mk (Array.mk (109::101::116::101::114::32::111::49::32::53::32::52::32::52::Z99)),ByteArray.mk (Array.mk [100,111,110,101,32,57]),0),(K8,Jmi,0),(ByteArray.mk (Array.mk (115::101::116::116::108::101::K1f)),B0,14),(Kxp,ByteArray.mk (Array.mk [100,111,110,101,32,49,48]),0),(Jz,B0,21),(ByteArray.mk (Array.mk [98,105,108,108,32,111,49]),ByteArray.mk (Array.mk [51,32,49,54,32,49,52,32,55,48,32,49,50]),0),(ByteArray.mk (Array.mk [98,97,108,97,110,99,101,32,98]),ByteArray.mk (Array.mk [45,53,56]),0),(ByteArray.mk (Array.mk [114,97,116,101,32,97]),ByteArray.mk (Array.mk [53]),0),(Kw6,B0,32),(Uc,ByteArray.mk (Array.mk [112]),0),(ByteArray.mk (Array.mk (114::101::116::117::114::110::32::112::J90)),ByteArray.mk (Array.mk [100,111,110,101,32,49,49]),0),(Kw6,ByteArray.mk (Array.mk [100,111,110,101,32,49,50]),0),(ByteArray.mk (Array.mk (115::101::116::116::108::101::32::56::Kl0)),ByteArray.mk (Array.mk [100,111,110,101,32,49,51]),0),(Ub,ByteArray.mk (Array.mk [56]),0)]=Jrc)∧Br false (Sf true (false=true)) ((13≤1000∧∀(e:Ev),e∈Fi→Jfm e)∧Br false (Sf true (false=true)) (T2 (((0:Int)≤0∧(0:Int)≤6∧(6:Int)≤13)∧lOk (List.take 6 Fi)) (lOk Fi∧T2 (lOk Fi) ((((0:Int)≤0∧(0:Int)≤10∧(10:Int)≤13)∧lOk (List.take 10 Fi))∧T2 (lOk Fi) ((13≤1000∧∀(e:Ev),e∈Fi→Lz e)∧(325:Int)≤9223372036854775807∧(Iw Kwo∧Iw Kuy∧Iw Kuu∧Iw Kur∧Iw Kt4∧Iw Ktt∧Iw (Ktt+Zb Fi Klx)∧(true=true→2≤1000000))∧Tw (true=true)))))))=_).mp ?_
 delta Z88 Z99 J90 Kl0 Klx Kf1 K1f Jmi Kxp Kw6 Kwo Kuy Kuu Kur Kt4 Ktt Br Iw T2 Tw Sf B0 K8 Ud Uc Ub Jz
 have ok:lOk Fi:=⟨by rw[Jpt];decide,Jnt⟩
 have z1:Fy (List.take 6 Fi) {data:={toList:=[97]}} 3=0:=by kernel_rfl
 have z2:Fy (List.take 6 Fi) {data:={toList:=[98]}} 5=0:=by kernel_rfl
 have z3:Jmc Fi {data:={toList:=[97]}} {data:={toList:=[98]}}=0:=by kernel_rfl
 have z4:Jgm Fi 4=0:=by kernel_rfl
 have z5:(Jbp Fi).2=0:=by kernel_rfl
 have z6:avE (List.take 10 Fi) {data:={toList:=[98]}}=0:=by kernel_rfl
 have z7:avE Fi {data:={toList:=[98]}}=0:=by kernel_rfl
 have z8:Zb Fi {data:={toList:=[97]}}=0:=by kernel_rfl
 rw[z1,z2,z3,z4,z5,z6,z7,z8]
 exact⟨⟨rfl,rfl⟩,fun h=>(nomatch h),fun _=>⟨⟨by decide,Jnt⟩,fun h=>(nomatch h),fun _=>⟨⟨by omega,Jnu 6⟩,⟨by omega,Jnu 6⟩,ok,ok,ok,⟨by omega,Jnu 10⟩,ok,ok,⟨by decide,fun e he=>J5f (J4l e he)⟩,by decide,⟨by decide,by decide,by decide,by decide,by decide,by decide,by decide,fun _=>by decide⟩,rfl,rfl⟩⟩⟩
theorem K5u:Ok Tryz.prog 14 J2o:=Jeo mixed K1g.ok (by kernel_rfl) (by kernel_rfl) (U6 (l:=([(65,Tryz.f65)]:List (Nat×Func))) (List.forall_mem_cons.2 ⟨by kernel_rfl,by simp⟩)) (fun xx=>na ()) (fun xx=>fun _=>na ()) fun xx=>K4a
abbrev K67:=K1g.add K5u
def eqL {α:Type} (p:α→α→Bool):List α→List α→Bool
 |[],[]=>true
 |x::l,y::r=>bif p x y then eqL p l r else false
 |_,_=>false
theorem J2g {α:Type} {p:α→α→Bool}:∀{l r:List α},l.length≠r.length→eqL p l r=false
 |[],[],h=>absurd rfl h
 |[],_::_,_=>rfl
 |_::_,[],_=>rfl
 |x::l,y::r,h=>by
  unfold eqL
  rw[J2g (fun e=>h (by rw[List.length_cons,List.length_cons,e]))]
  cases p x y<;>rfl
theorem Jps {α:Type} {p:α→α→Bool} (h:∀x,p x x=true):∀l:List α,eqL p l l=true
 |[]=>rfl
 |x::l=>by unfold eqL;rw[h x,cond_true];exact Jps h l
abbrev J5j (T:TypeId) (s:Sch) (p:s.T→s.T→Bool) (xs ys:List s.T):Ann:={X:=Nat,σ:=fun k=>⟨2,[(0, .one (.sl 0)),(1, .one (.sl 1)),(5, .one (.int .i64 k))],[(0, .imm T s xs),(1, .imm T s ys)]⟩,inv:=fun k=>k≤xs.length∧xs.length=ys.length∧eqL p (xs.drop k) (ys.drop k)=eqL p xs ys,mu:=fun k=>xs.length-k}
def Kqu (T:TypeId) (s:Sch) (p:s.T→s.T→Bool):Con:={args:=[.val false (.list T s), .val false (.list T s)],ress:=[Bo],owns:=[],pre:=fun(xs,_)=>[xs.length≤1000000],spec:=fun(xs,ys,_)=>(eqL p xs ys,())}
abbrev K66:=K67
abbrev K65:=K66
abbrev K2g:=K65
def Jhg (e:Ev):Bool:=bif bif bif decide (40<(e.2.1.size:Int)) then true else decide (6<(e.2.2.1.length:Int)) then true else decide (8<(e.2.2.2.1.length:Int)) then true else decide (200<(e.2.2.2.2.size:Int))
def Xj (e:Ev):Bool:=bif Jhg e then false else e.2.2.1.all fun s=> !decide (40<(s.size:Int))
def Ha (l:List Ev) (n:Int):Bool:=bif decide (n<(l.length:Int)) then false else l.all Xj
def Ka1:Con:={args:=[.val false (.list 67 sEv),aI],ress:=[Bo],owns:=[],pre:=fun(_,n,_)=>[n≤1000000],spec:=fun(l,n,_)=>(Ha l n,())}
abbrev J0p (l:List Ev) (n:Int):Nat→Option Ann:=fun id=>if id=0 then some {X:=Nat,σ:=fun k=>⟨1,[(0, .one (.sl 0)),(5, .one (.int .i64 k))],[(0, .imm 67 sEv l)]⟩,inv:=fun k=>k≤l.length∧(l.drop k).all Xj=l.all Xj,mu:=fun k=>l.length-k}
 else if id=2 then some {X:=Nat×Nat,σ:=fun(k,j)=>⟨1,[(0, .one (.sl 0)),(5, .one (.int .i64 k)),(6, .one (.int .i64 j))],[(0, .imm 67 sEv l)]⟩,inv:=fun(k,j)=>k<l.length∧j≤(l.getD k ev0).2.2.1.length∧(l.getD k ev0).2.2.1.length≤6∧(bif (((l.getD k ev0).2.2.1.drop j).all fun s=> !decide (40<(s.size:Int))) then(l.drop (k+1)).all Xj else false)=l.all Xj,mu:=fun(k,j)=>(l.getD k ev0).2.2.1.length-j,rel:=some fun x0 x=>x0.1=x.1} else none
def Kft (a:List Ev) (b:Nat×Nat):=List.length (List.getD a b.1 ev0).2.2.1
def Kkz (a:Nat) (b:List Ev):=a≤List.length b∧List.all (List.drop a b) Xj=List.all b Xj
def K0p (a:List Ev) (b:Nat×Nat):=Ln (List.getD a b.1 Jad).2.2.1
def Kzz (a:List Ev) (b:Nat):=decide (40<Nc (ByteArray.size (J6n a b).1))
def Ku4 (a:List Ev) (b:Nat):=bif Kzz a b then true else decide (6<Ln (J6i a b).1)
def Kud (a:List Ev) (b:Nat):=bif Ku4 a b then true else decide (8<Ln (J6g a b).1)
def Kub (a:Nat×Nat) (b:List Ev):=a.1<List.length b∧a.2≤Kft b a∧Kft b a≤6∧(bif List.all (List.drop a.2 (List.getD b a.1 ev0).2.2.1) fun(s:ByteArray)=> !decide (40<Nc (ByteArray.size s)) then List.all (List.drop (a.1+1) b) Xj else false)=List.all b Xj
def Kt6 (a:Nat×Nat) (b:List Ev) (c:Nat×Nat):=Kub a b∧c.1=a.1
theorem K5v:Ok Tryz.prog 13 Ka1:=okW K2g Tryz.f13 (fun xx=>J0p xx.1 xx.2.1) fun xx=>by
 obtain⟨(l:List Ev),(n:Int),_⟩:=xx
 refine(by kernel_rfl:(n≤1000000→Br (decide (n<Ln l)) (false=Ha l n) (∃(x:Nat),(0=Nc x∧l=l)∧Kkz x l∧∀(x:Nat),Kkz x l→Br (decide (Nc x<Ln l)) (T2 (Z12 x l) (T2 (Kzz l x=false→Z12 x l) (T2 (Ku4 l x=false→Z12 x l) (Tw (Kud l x=false→Z12 x l))))∧Br (bif Kud l x then true else decide (200<Nc (ByteArray.size (J6g l x).2))) (false=Ha l n) (∃(x0:Nat×Nat),(Nc x=Nc x0.1∧0=Nc x0.2∧l=l)∧(Kub x0 l∧x0.1=x0.1)∧∀(x_1:Nat×Nat),Kt6 x_1 l x0→Tw (Bd (Nc x_1.1) (Ln l))∧Br (decide (Nc x_1.2<K0p l x_1)) (T2 (Bd (Nc x_1.1) (Ln l)) (Tw (Bd (Nc x_1.2) (K0p l x_1)))∧Br (decide (40<Nc (ByteArray.size (List.getD (List.getD l x_1.1 Jad).2.2.1 x_1.2 B0)))) (false=Ha l n) (Iw (Nc x_1.2+1)∧∃(y:Nat×Nat),(Nc x_1.1=Nc y.1∧Nc x_1.2+1=Nc y.2∧l=l)∧Kt6 y l x0∧Kft l y-y.2<Kft l x_1-x_1.2)) (Iw (Nc x_1.1+1)∧∃(y:Nat),(Nc x_1.1+1=Nc y∧l=l)∧Kkz y l∧List.length l-y<List.length l-x))) (true=Ha l n)))=_).mp ?_
 delta Z12 Kft Jad J6n J6i J6g Kkz K0p Kzz Ku4 Kud Kub Kt6 Br Iw Bd T2 Tw Ln Nc B0
 intro hn
 refine⟨fun h=> ?_,fun h=>⟨(0:Nat),by(repeat' first|exact rfl|exact⟨⟩|apply And.intro|omega|dsimp only;omega),⟨Nat.zero_le _,rfl⟩,fun(k:Nat) hk=>⟨fun h1=> ?_,fun h1=> ?_⟩⟩⟩
 ·unfold Ha;rw[h];rfl
 ·have hsh:Ha l n=l.all Xj:=by unfold Ha;rw[h];rfl
  obtain⟨k1,k2⟩:=hk
  have hlt:k<l.length:=by simpa using h1
  have hn2:(l.length:Int)≤n:=by have:=of_decide_eq_false h;omega
  rw[Js (d:=ev0) hlt,List.all_cons] at k2
  have hz:((0:Int),({data:={toList:=[]}}:ByteArray),([]:List ByteArray),([]:List Int),({data:={toList:=[]}}:ByteArray))=ev0:=rfl
  have hx:((0:Int)≤(k:Int)∧(k:Int)<(l.length:Int))=True:=eq_true (by omega)
  simp only[hz,hx,implies_true,true_and,and_true]
  refine⟨fun h2=> ?_,fun h2=> ?_⟩
  ·have h2:Xj (l.getD k ev0)=false:=by unfold Xj;rw[show Jhg (l.getD k ev0)=true from h2];rfl
   rw[h2] at k2
   rw[hsh,←k2];rfl
  ·have h2:Jhg (l.getD k ev0)=false:=h2
   have h6:(l.getD k ev0).2.2.1.length≤6:=by
    unfold Jhg at h2
    cases hc:decide (6<((l.getD k ev0).2.2.1.length:Int)) with
    |false=>have:=of_decide_eq_false hc;omega
    |true=>rw[hc] at h2;simp at h2
   have hand:∀u v:Bool,(bif u then v else false)=(u&&v):=by decide
   have hsb:Xj (l.getD k ev0)=(l.getD k ev0).2.2.1.all fun s=> !decide (40<(s.size:Int)):=by unfold Xj;rw[h2];rfl
   refine⟨(k,(0:Nat)),by(repeat' first|exact rfl|exact⟨⟩|apply And.intro|omega|dsimp only;omega),⟨hlt,Nat.zero_le _,h6,by rw[hand];rw[hsb] at k2;exact k2⟩,fun(x:Nat×Nat) hx=> ?_⟩
   obtain⟨k',j⟩:=x
   obtain⟨⟨j1,j2,j3,j4⟩,j5⟩:=hx
   have j5:k=k':=j5
   subst j5
   dsimp only at j1 j2 j3 j4⊢
   refine⟨by omega,fun h3=> ?_,fun h3=> ?_⟩
   ·have hj:j<(l.getD k ev0).2.2.1.length:=Int.ofNat_lt.1 (of_decide_eq_true h3)
    rw[Js (d:=Ja) hj,List.all_cons] at j4
    refine⟨⟨by omega,by omega, ?_, ?_⟩,fun h4=> ?_,fun h4=>⟨?_,(k,j+1),⟨rfl,by simp⟩,⟨⟨hlt,by dsimp only;omega,j3, ?_⟩,rfl⟩, ?_⟩⟩
    ·exact⟨by omega,Int.ofNat_lt.2 hj⟩
    ·exact⟨by omega,Int.ofNat_lt.2 hj⟩
    ·have h4:decide (40<(((l.getD k ev0).2.2.1.getD j Ja).size:Int))=true:=h4
     rw[h4] at j4
     rw[hsh,←j4];rfl
    ·omega
    ·have h4:decide (40<(((l.getD k ev0).2.2.1.getD j Ja).size:Int))=false:=h4
     rw[h4] at j4
     exact j4
    ·dsimp only;omega
   ·have hj:¬j<(l.getD k ev0).2.2.1.length:=fun q=>of_decide_eq_false h3 (Int.ofNat_lt.2 q)
    rw[List.drop_eq_nil_of_le (by omega)] at j4
    exact⟨by omega,(k+1:Nat),by simp,⟨by omega,j4⟩,by omega⟩
 ·have hsh:Ha l n=l.all Xj:=by unfold Ha;rw[h];rfl
  obtain⟨k1,k2⟩:=hk
  have hlt:¬k<l.length:=by simpa using h1
  rw[List.drop_eq_nil_of_le (by omega)] at k2
  rw[hsh,←k2];rfl
abbrev K64:=K2g.add K5v
theorem Jzw {k:ByteArray} (h:Ys k=false):(Zm k).2.2=false:=by
 have hne:∀w:ByteArray,Ys w=true→(k.toList==w.toList)=false:=fun w hw=>by
  cases hc:k.toList==w.toList with
  |false=>rfl
  |true=>
   have:=Lm hc
   subst this
   rw[hw] at h;cases h
 unfold Zm
 rw[hne Ju (by kernel_rfl),hne K7 (by kernel_rfl),hne Kk (by kernel_rfl),hne K0 (by kernel_rfl),hne Vo (by kernel_rfl),hne Jv (by kernel_rfl),hne Jq (by kernel_rfl),hne Kb (by kernel_rfl),hne Ka (by kernel_rfl),hne Jh (by kernel_rfl),hne Jz (by kernel_rfl)]
 rfl
theorem Jnq {k:ByteArray} (h:Ys k=true):(Zm k).2.2=true∧(Zm k).1.size=(Ji k).1.length∧(Zm k).2.1=(Ji k).2.1:=by
 rcases Vd h with h|h|h|h|h|h|h|h|h|h|h<;>subst h
 all_goals exact⟨by kernel_rfl,by kernel_rfl,by kernel_rfl⟩
def J7 (k:ByteArray):ByteArray×Int×Bool:=Zm k
def Kbq:Con:={args:=[aS],ress:=[(true,J99)],owns:=[],pre:=fun _=>[],spec:=fun(k,_)=>(J7 k,())}
theorem Kal:Ok Tryz.prog 110 Kbq:=Kam
abbrev K2f:=K64.add Kal
def ckN (ns:List ByteArray):Int:=Jf (ns.map fun s=>bif Yk s then 0 else 8)
def ckV (vs:List Int):Int:=Jf (vs.map fun n=>Kf n 0 999999999)
theorem Jz3 (t:ByteArray):(t.toList==Ja.toList)= !decide (0<t.size):=by
 cases h:t.toList==Ja.toList with
 |true=>have:=Lm h;subst this;rfl
 | false =>
  have:0<t.size:=Nat.pos_of_ne_zero fun h0=>by
   have e:t.data.toList=[]:=List.eq_nil_of_length_eq_zero h0
   rw[Lib.toList_data,Lib.toList_data,e] at h
   exact nomatch (show true=false from h)
  rw[decide_eq_true this];rfl
theorem Ym (x:Int) (l:List Int):Jf (x::l)=if x=0 then Jf l else x:=rfl
def Kb5:Con:={args:=[aEv],ress:=[I],owns:=[],pre:=fun(e,_)=>[e.2.2.1.length≤1000000,e.2.2.2.1.length≤1000000,∀s∈e.2.2.1,s.size≤1000000],spec:=fun(e,_)=>(Jb e,())}
abbrev Krs (n:Int) (k:ByteArray) (ns:List ByteArray) (vs:List Int) (t:ByteArray):Nat→Option Ann:=fun id=>if id=0 then some {X:=Nat,σ:=fun i=>⟨4,[(1, .one (.ptr 2 0)),(3, .one (.ptr 3 0)),(4, .one (.int .i64 i))],[(2, .box 67 [.int .i64 n, .str k, .sl 0, .sl 1, .str t]),(3, .box 208 [.str (J7 k).1, .int .i64 (J7 k).2.1, .bool (J7 k).2.2]),(0, .imm 9 .str ns),(1, .imm 3 sI vs)]⟩,inv:=fun i=>i≤ns.length∧ckN (ns.drop i)=ckN ns,mu:=fun i=>ns.length-i}
 else if id=2 then some {X:=Nat,σ:=fun i=>⟨4,[(1, .one (.ptr 2 0)),(3, .one (.ptr 3 0)),(5, .one (.int .i64 i))],[(2, .box 67 [.int .i64 n, .str k, .sl 0, .sl 1, .str t]),(3, .box 208 [.str (J7 k).1, .int .i64 (J7 k).2.1, .bool (J7 k).2.2]),(0, .imm 9 .str ns),(1, .imm 3 sI vs)]⟩,inv:=fun i=>i≤vs.length∧ckV (vs.drop i)=ckV vs,mu:=fun i=>vs.length-i}
 else none
def Z9 (a:Bt):=Nc (ByteArray.size (J7 a).1)
def Klo (a:Nat) (b:Li):=a≤List.length b∧ckV (List.drop a b)=ckV b
def Klc (a:Nat) (b:Ls):=a≤List.length b∧ckN (List.drop a b)=ckN b
def Kw0 (a:Int) (b c:Bt) (d:Ls) (e:Li):=Si a (Sf b (Sf c (Sf (J7 b).1 (Si (J7 b).2.1 (Sf (J7 b).2.2 (Sf d (e=e)))))))
def Kwc (a:Nat) (b:Int) (c d:Bt) (e:Ls) (f:Li):=0=Nc a∧Kw0 b c d e f
def Kvw (a b:Nat) (c:Int) (d e:Bt) (f:Ls) (g:Li):=V5 a b∧Kw0 c d e f g
theorem K5d:Ok Tryz.prog 36 Kb5:=okW K2f Tryz.f36 (fun xx=>Krs xx.1.1 xx.1.2.1 xx.1.2.2.1 xx.1.2.2.2.1 xx.1.2.2.2.2) fun xx=>by
 obtain⟨⟨(n:Int),(k:ByteArray),(ns:List ByteArray),(vs:List Int),(t:ByteArray)⟩,_⟩:=xx
 refine(by kernel_rfl:(Jbb ns→Z47 vs→Jhr ns→Br (V0 n 1 1000) (3=Jb (n,k,ns,vs,t)) (Br (!(J7 k).2.2) (13=Jb (n,k,ns,vs,t)) (Br (bif Ln ns !=Z9 k then true else Ln vs !=(J7 k).2.1) (2=Jb (n,k,ns,vs,t)) (∃(x:Nat),Kwc x n k t ns vs∧Klc x ns∧∀(x:Nat),Klc x ns→Br (decide (Nc x<Z9 k)) (T2 (Bd (Nc x) (Ln ns)) (ByteArray.size (List.getD ns x B0)≤1000000)∧Br (!Yk (List.getD ns x B0)) (8=Jb (n,k,ns,vs,t)) (Z20 x∧∃(y:Nat),Kvw x y n k t ns vs∧Klc y ns∧List.length ns-y<List.length ns-x)) (∃(x:Nat),Kwc x n k t ns vs∧Klo x vs∧∀(x:Nat),Klo x vs→Br (decide (Nc x<(J7 k).2.1)) (Z78 x vs∧Br (V0 (Z15 vs x) 0 999999999) (3=Jb (n,k,ns,vs,t)) (Z20 x∧∃(y:Nat),Kvw x y n k t ns vs∧Klo y vs∧Jxf vs y x)) (Br (!Lb t B0) (1=Jb (n,k,ns,vs,t)) (0=Jb (n,k,ns,vs,t))))))))=_).mp ?_
 delta Z9 Z15 Z20 Z47 Z78 V5 Jbb Jxf Klo Jgv Klc Jhr Kw0 Kwc Kvw Br Iw Bd T2 Tw Sf Si Ln Nc B0 Lb
 intro h1 h2 h3
 have hE1:Kf n 1 1000=bif V0 n 1 1000 then 3 else 0:=rfl
 have hQ:J7 k=Zm k:=rfl
 refine⟨fun h=> ?_,fun h=>⟨fun h4=> ?_,fun h4=> ?_⟩⟩
 ·have e:Kf n 1 1000=3:=by rw[hE1,h];rfl
  unfold Jb
  rw[if_pos (by dsimp only;rw[e];decide),e]
 ·have e:Kf n 1 1000=0:=by rw[hE1,h];rfl
  have hk:Ys k=false:=by
   cases hk:Ys k with
   |false=>rfl
   |true=>
    have:=(Jnq hk).1
    have h4:(!(Zm k).2.2)=true:=h4
    rw[this] at h4;cases h4
  unfold Jb
  rw[if_neg (by dsimp only;rw[e];decide)]
  dsimp only
  rw[hk];rfl
 have e:Kf n 1 1000=0:=by rw[hE1,h];rfl
 have hk:Ys k=true:=by
  cases hk:Ys k with
  |true=>rfl
  |false=>
   have:=Jzw hk
   have h4:(!(Zm k).2.2)=false:=h4
   rw[this] at h4;cases h4
 obtain⟨f1,f2,f3⟩:=Jnq hk
 rw[←hQ] at f1 f2 f3
 have hc:Jb (n,k,ns,vs,t)=if ns.length=(Ji k).1.length∧(vs.length:Int)=(Ji k).2.1 then Jf [ckN ns,ckV vs,bif decide (0<t.size) then 1 else 0] else 2:=by
  unfold Jb
  rw[if_neg (by dsimp only;rw[e];decide)]
  dsimp only
  rw[hk,cond_true];rfl
 refine⟨fun h5=> ?_,fun h5=> ?_⟩
 ·rw[hc,if_neg fun q=> ?_]
  have a1:((ns.length:Int) !=((J7 k).1.size:Int))=false:=bne_eq_false_iff_eq.2 (by rw[f2];exact congrArg _ q.1)
  have a2:((vs.length:Int) !=(J7 k).2.1)=false:=bne_eq_false_iff_eq.2 (by rw[f3];exact q.2)
  have h5:(bif (ns.length:Int) !=((J7 k).1.size:Int) then true else(vs.length:Int) !=(J7 k).2.1)=true:=h5
  rw[a1,a2] at h5;cases h5
 have h5:(bif (ns.length:Int) !=((J7 k).1.size:Int) then true else(vs.length:Int) !=(J7 k).2.1)=false:=h5
 have a:=bn1 h5
 have a1:(ns.length:Int)=((J7 k).1.size:Int):=bne_eq_false_iff_eq.1 a.1
 have a2:(vs.length:Int)=(J7 k).2.1:=bne_eq_false_iff_eq.1 a.2
 rw[if_pos ⟨by rw[f2] at a1;omega,by rw[a2,f3]⟩] at hc
 refine⟨(0:Nat),by(repeat' first|exact rfl|exact⟨⟩|apply And.intro|omega|dsimp only;omega),⟨Nat.zero_le _,rfl⟩,fun(i:Nat) hi=>⟨fun h6=> ?_,fun h6=> ?_⟩⟩
 ·have h6:(i:Int)<((J7 k).1.size:Int):=of_decide_eq_true h6
  have hlt:i<ns.length:=by omega
  have hN:ckN (ns.drop i)=if(bif Yk (ns.getD i Ja) then(0:Int) else 8)=0 then ckN (ns.drop (i+1)) else bif Yk (ns.getD i Ja) then 0 else 8:=by
   rw[Js (d:=Ja) hlt]
   exact Ym _ _
  refine⟨⟨by omega,by omega,h3 _ (Jc hlt)⟩,fun h7=> ?_,fun h7=>⟨by omega,(i+1:Nat),by(repeat' first|exact rfl|exact⟨⟩|apply And.intro|omega|dsimp only;omega),⟨by omega, ?_⟩,by omega⟩⟩
  ·have h7:(!Yk (ns.getD i Ja))=true:=h7
   have h7:Yk (ns.getD i Ja)=false:=by simpa using h7
   rw[h7] at hN
   have:ckN ns=8:=by rw[←hi.2,hN];rfl
   rw[hc,Ym,this];rfl
  ·have h7:(!Yk (ns.getD i Ja))=false:=h7
   have h7:Yk (ns.getD i Ja)=true:=by simpa using h7
   rw[h7] at hN
   rw[←hi.2,hN];rfl
 ·have h6:¬(i:Int)<((J7 k).1.size:Int):=of_decide_eq_false h6
  have hN:ckN ns=0:=by rw[←hi.2,List.drop_eq_nil_of_le (by omega)];rfl
  refine⟨(0:Nat),by(repeat' first|exact rfl|exact⟨⟩|apply And.intro|omega|dsimp only;omega),⟨Nat.zero_le _,rfl⟩,fun(j:Nat) hj=>⟨fun h8=> ?_,fun h8=> ?_⟩⟩
  ·have h8:(j:Int)<(J7 k).2.1:=of_decide_eq_true h8
   have hlt:j<vs.length:=by omega
   have hV:ckV (vs.drop j)=if Kf (vs.getD j 0) 0 999999999=0 then ckV (vs.drop (j+1)) else Kf (vs.getD j 0) 0 999999999:=by
    rw[Js (d:=(0:Int)) hlt]
    exact Ym _ _
   have hW:Kf (vs.getD j 0) 0 999999999=bif V0 (vs.getD j 0) 0 999999999 then 3 else 0:=rfl
   refine⟨by omega,fun h7=> ?_,fun h7=>⟨by omega,(j+1:Nat),by(repeat' first|exact rfl|exact⟨⟩|apply And.intro|omega|dsimp only;omega),⟨by omega, ?_⟩,by omega⟩⟩
   ·rw[hW,h7] at hV
    have:ckV vs=3:=by rw[←hj.2,hV];rfl
    rw[hc,Ym,hN,if_pos rfl,Ym,this];rfl
   ·rw[hW,h7] at hV
    rw[←hj.2,hV];rfl
  ·have h8:¬(j:Int)<(J7 k).2.1:=of_decide_eq_false h8
   have hV:ckV vs=0:=by rw[←hj.2,List.drop_eq_nil_of_le (by omega)];rfl
   have hz:(t.toList==({data:={toList:=[]}}:ByteArray).toList)= !decide (0<t.size):=Jz3 t
   rw[hz,hc,Ym,hN,if_pos rfl,Ym,hV,if_pos rfl]
   cases decide (0<t.size)
   ·exact⟨fun h=>(nomatch h),fun _=>rfl⟩
   ·exact⟨fun _=>rfl,fun h=>(nomatch h)⟩
abbrev K63:=K2f.add K5d
abbrev K62:=K63
abbrev K61:=K62
abbrev K60:=K61
abbrev K6z:=K60
abbrev K6y:=K6z
abbrev K2e:=K6y
def Jii (c:Int):Int:=bif c==115 then 0 else bif c==111 then 1 else bif c==120 then 2 else 3
def Jk2 (b:UInt8):Int×Bool:=bif decide ((97:Int)≤(b.toNat:Int)) then(Jii b.toNat,true) else(Jii (b.toNat+97-65),false)
theorem J2r (r:Reg) (c:Int) (s:ByteArray):Vf r (Jii c) s=decide (0≤atS r c s):=by
 unfold atS Jii
 cases h1:c==115 with
 |true=>rfl
 | false =>
  cases h2:c==111 with
  |true=>rfl
  |false=>
   cases h3:c==120 with
   |true=>rfl
   |false=>rfl
theorem Jr3 {k:ByteArray} (h:Ys k=true):(Ji k).1=(J7 k).1.data.toList.map Jk2∧((Ji k).1.drop 1).all (fun x=>x.2)=true:=by
 rcases Vd h with h|h|h|h|h|h|h|h|h|h|h<;>subst h
 all_goals exact⟨by kernel_rfl,by kernel_rfl⟩
theorem Jd1 {r:Reg} {ns:List ByteArray}:∀{l:List (Int×Bool)} {i:Nat},l.all (fun x=>x.2)=true→Ks r ns l i=false
 |[],_,_=>rfl
 |(w,b)::l,i,h=>by
  rw[List.all_cons,Bool.and_eq_true] at h
  have hb:b=true:=h.1
  subst hb
  unfold Ks
  exact Jd1 h.2
def Jr (r:Reg) (k:ByteArray) (ns:List ByteArray):Int:=bif Ki r ns (Ji k).1 0 then 10 else bif Ks r ns (Ji k).1 0 then 9 else 0
def Kba:Con:={args:=[X2,aEv],ress:=[I],owns:=[],pre:=fun(r,e,_)=>[Jk r,Ys e.2.1=true,e.2.2.1.length=(Ji e.2.1).1.length],spec:=fun(r,e,_)=>(Jr r e.2.1 e.2.2.1,())}
abbrev Kcp (tk st:Int) (S:List Sta) (O:List Ord) (M:List Met) (X:List Out) (Q:List Per) (n:Int) (k:ByteArray) (ns:List ByteArray) (vs:List Int) (tx:ByteArray):Ann:={X:=Nat,σ:=fun i=>⟨9,[(2, .one (.ptr 7 0)),(3, .one (.ptr 8 0)),(5, .one (.str (J7 k).1)),(6, .one (.int .i64 i))],[(0, .imm 114 Dp S),(1, .imm 119 Hm O),(2, .imm 121 Fb M),(3, .imm 123 X4 X),(4, .imm 125 Zw Q),(5, .imm 9 .str ns),(6, .imm 3 sI vs),(7, .box 37 [.int .i64 tk, .int .i64 st, .sl 0, .sl 1, .sl 2, .sl 3, .sl 4]),(8, .box 67 [.int .i64 n, .str k, .sl 5, .sl 6, .str tx])]⟩,inv:=fun i=>i≤(J7 k).1.size∧Ki (tk,st,S,O,M,X,Q) ns ((Ji k).1.drop i) i=Ki (tk,st,S,O,M,X,Q) ns (Ji k).1 0,mu:=fun i=>(J7 k).1.size-i}
def K02 (a:Bt):=Nc (UInt8.toNat (List.getD (J7 a).1.data.toList 0 0))
def K0h (a:Bt) (b:Nat):=decide (97≤Nc (UInt8.toNat (List.getD (J7 a).1.data.toList b 0)))
def Kju (a:Bt) (b:Nat):=K0h a b=true
def Kwu (a:Bt):=bif decide (0<Z9 a) then decide (K02 a<97) else false
def Khx (a:Bt):=Kwu a=true
def Khw (a:Nat) (b:Bt) (c d:Int) (e:List Sta) (f:List Ord) (g:List Met) (h:List Out) (i:List Per) (j:Ls):=a≤ByteArray.size (J7 b).1∧Ki (Z66 c d e f g h i) j (List.drop a (Ji b).1) a=Ki (Z66 c d e f g h i) j (Ji b).1 0
theorem Kns:Ok Tryz.prog 224 Kba:=okW K2e Tryz.f224 (fun xx=>Xo (Kcp xx.1.1 xx.1.2.1 xx.1.2.2.1 xx.1.2.2.2.1 xx.1.2.2.2.2.1 xx.1.2.2.2.2.2.1 xx.1.2.2.2.2.2.2 xx.2.1.1 xx.2.1.2.1 xx.2.1.2.2.1 xx.2.1.2.2.2.1 xx.2.1.2.2.2.2)) fun xx=>by
 obtain⟨⟨(tk:Int),(st:Int),(S:List Sta),(O:List Ord),(M:List Met),(X:List Out),(Q:List Per)⟩,⟨(n:Int),(k:ByteArray),(ns:List ByteArray),(vs:List Int),(tx:ByteArray)⟩,_⟩:=xx
 refine(by kernel_rfl:(Jt tk st S O M X Q→Ys k=true→List.length ns=List.length (Ji k).1→∃(x:Nat),Sf (J7 k).1 (0=Nc x∧Sf S (Sf O (Sf M (Sf X (Sf Q (Sf ns (Sf vs (Si tk (Si st (Si n (Sf k (tx=tx))))))))))))∧Khw x k tk st S O M X Q ns∧∀(x:Nat),Khw x k tk st S O M X Q ns→Br (decide (Nc x<Z9 k)) ((Bd (Nc x) (Z9 k)∧(Kju k x→Bd (Nc x) (Z9 k))∧T2 (Kju k x→Bd (Nc x) (Ln ns)) (Kju k x→Jt tk st S O M X Q))∧Br (bif K0h k x then decide (atS (Z66 tk st S O M X Q) (Nc (UInt8.toNat (List.getD (J7 k).1.data.toList x 0))) (List.getD ns x B0)<0) else false) (10=Jr (Z66 tk st S O M X Q) k ns) (Z20 x∧∃(y:Nat),Sf (J7 k).1 (V5 x y∧Sf S (Sf O (Sf M (Sf X (Sf Q (Sf ns (Sf vs (Si tk (Si st (Si n (Sf k (tx=tx))))))))))))∧Khw y k tk st S O M X Q ns∧ByteArray.size (J7 k).1-y<ByteArray.size (J7 k).1-x)) (((decide (0<Z9 k)=true→Bd 0 (Z9 k))∧(Khx k→Bd 0 (Z9 k))∧T2 (Khx k→Z92 ns) (Khx k→Jt tk st S O M X Q))∧Br (bif Kwu k then decide (0≤atS (Z66 tk st S O M X Q) (IntKind.wrap IntKind.u8 (IntKind.wrap IntKind.u8 (K02 k+97)-65)) (Z87 ns)) else false) (9=Jr (Z66 tk st S O M X Q) k ns) (0=Jr (Z66 tk st S O M X Q) k ns)))=_).mp ?_
 delta Z9 Z20 Z66 Z87 Z92 V5 Jt K02 K0h Kju Kwu Khx Khw Br Iw Bd T2 Sf Si Ln Nc B0
 intro hr hk hn
 obtain⟨f1,f2,f3⟩:=Jnq hk
 have f2:(J7 k).1.size=(Ji k).1.length:=f2
 obtain⟨fr,fk⟩:=Jr3 hk
 have hB:=Jje k
 have hfl:(J7 k).1.data.toList.length=(J7 k).1.size:=rfl
 have hb0:∀i,i<(J7 k).1.size→(Ji k).1.getD i (0,false)=Jk2 ((J7 k).1.data.toList.getD i 0):=fun i hi=>by
  rw[fr,List.getD_eq_getElem?_getD,List.getElem?_map,List.getD_eq_getElem?_getD]
  rw[List.getElem?_eq_getElem (by omega)];rfl
 refine⟨(0:Nat),by(repeat' first|exact rfl|exact⟨⟩|apply And.intro|omega|dsimp only;omega),⟨Nat.zero_le _,rfl⟩,fun(i:Nat) hi=>⟨fun h1=> ?_,fun h1=> ?_⟩⟩
 ·have hlt:i<(J7 k).1.size:=by simpa using h1
  have h0:=hi.2
  rw[Js (d:=((0:Int),false)) (by omega),hb0 i hlt] at h0
  have hu:Ki (tk,st,S,O,M,X,Q) ns (Jk2 ((J7 k).1.data.toList.getD i 0)::(Ji k).1.drop (i+1)) i=bif (bif decide (97≤(((J7 k).1.data.toList.getD i 0).toNat:Int)) then decide (atS (tk,st,S,O,M,X,Q) (((J7 k).1.data.toList.getD i 0).toNat:Int) (ns.getD i Ja)<0) else false) then true else Ki (tk,st,S,O,M,X,Q) ns ((Ji k).1.drop (i+1)) (i+1):=by
   unfold Jk2
   cases hc:decide ((97:Int)≤(((J7 k).1.data.toList.getD i 0).toNat:Int)) with
   |false=>rfl
   | true =>
    rw[cond_true,Ki,J2r,cond_true]
    have:(!decide (0≤atS (tk,st,S,O,M,X,Q) (((J7 k).1.data.toList.getD i 0).toNat:Int) (ns.getD i Ja)))=decide (atS (tk,st,S,O,M,X,Q) (((J7 k).1.data.toList.getD i 0).toNat:Int) (ns.getD i Ja)<0):=by
     rw[Bool.eq_iff_iff];simp
    rw[this];rfl
  rw[hu] at h0
  refine⟨⟨by omega,fun _=>by omega,fun _=>by omega,fun _=>by omega,fun _=>hr⟩,fun h2=> ?_,fun h2=>⟨by omega,(i+1:Nat),by(repeat' first|exact rfl|exact⟨⟩|apply And.intro|omega|dsimp only;omega),⟨by omega, ?_⟩,by omega⟩⟩
  ·rw[show(bif decide (97≤(((J7 k).1.data.toList.getD i 0).toNat:Int)) then decide (atS (tk,st,S,O,M,X,Q) (((J7 k).1.data.toList.getD i 0).toNat:Int) (ns.getD i Ja)<0) else false)=true from h2,cond_true] at h0
   unfold Jr;rw[←h0];rfl
  ·rw[show(bif decide (97≤(((J7 k).1.data.toList.getD i 0).toNat:Int)) then decide (atS (tk,st,S,O,M,X,Q) (((J7 k).1.data.toList.getD i 0).toNat:Int) (ns.getD i Ja)<0) else false)=false from h2,cond_false] at h0
   exact h0
 ·have hlt:¬i<(J7 k).1.size:=by simpa using h1
  have h0:=hi.2
  rw[List.drop_eq_nil_of_le (by omega)] at h0
  have hu0:Ki (tk,st,S,O,M,X,Q) ns (Ji k).1 0=false:=h0.symm
  have hN:Jr (tk,st,S,O,M,X,Q) k ns=bif Ks (tk,st,S,O,M,X,Q) ns (Ji k).1 0 then 9 else 0:=by unfold Jr;rw[hu0];rfl
  have g0:∀{p:Prop},(bif decide ((0:Int)<((J7 k).1.size:Int)) then decide ((((J7 k).1.data.toList.getD 0 0).toNat:Int)<97) else false)=true→(J7 k).1.size≠0:=fun{p} h=>by
   intro q
   rw[q] at h
   cases h
  have hz:∀{b:Bool},(bif decide ((0:Int)<((J7 k).1.size:Int)) then b else false)=true→0<(J7 k).1.size:=fun{b} h=>by
   by_cases q:0<(J7 k).1.size
   ·exact q
   ·rw[decide_eq_false (show ¬(0:Int)<((J7 k).1.size:Int) by omega)] at h;cases h
  have key:(bif bif decide ((0:Int)<((J7 k).1.size:Int)) then decide ((((J7 k).1.data.toList.getD 0 0).toNat:Int)<97) else false then decide (0≤atS (tk,st,S,O,M,X,Q) (IntKind.u8.wrap (IntKind.u8.wrap ((((J7 k).1.data.toList.getD 0 0).toNat:Int)+97)-65)) (ns.getD 0 Ja)) else false)=Ks (tk,st,S,O,M,X,Q) ns (Ji k).1 0:=by
   by_cases q:0<(J7 k).1.size
   ·rw[decide_eq_true (show(0:Int)<((J7 k).1.size:Int) by omega),cond_true]
    have hc:=Js (l:=(Ji k).1) (k:=0) (d:=((0:Int),false)) (by omega)
    rw[List.drop_zero,hb0 0 q] at hc
    rw[hc]
    unfold Jk2
    by_cases q1:(97:Int)≤(((J7 k).1.data.toList.getD 0 0).toNat:Int)
    ·rw[decide_eq_true q1,decide_eq_false (show ¬(((J7 k).1.data.toList.getD 0 0).toNat:Int)<97 by omega)]
     exact(Jd1 fk).symm
    ·rw[decide_eq_false q1,decide_eq_true (show(((J7 k).1.data.toList.getD 0 0).toNat:Int)<97 by omega)]
     rw[cond_true,cond_false,Ks,J2r,Jd1 fk,J3e (n:=(((J7 k).1.data.toList.getD 0 0).toNat:Int)+97) (by omega) (by omega),J3e (n:=(((J7 k).1.data.toList.getD 0 0).toNat:Int)+97-65) (by omega) (by omega)]
     show _=bif _ then true else false
     cases decide (0≤atS (tk,st,S,O,M,X,Q) ((((J7 k).1.data.toList.getD 0 0).toNat:Int)+97-65) (ns.getD 0 Ja))<;>rfl
   ·rw[decide_eq_false (show ¬(0:Int)<((J7 k).1.size:Int) by omega)]
    have:(Ji k).1=[]:=List.eq_nil_of_length_eq_zero (by omega)
    rw[this];rfl
  refine⟨⟨fun h=>⟨by decide,of_decide_eq_true h⟩,fun h=>⟨by decide,by have:=hz h;omega⟩,fun h=>⟨by decide,by have:=hz h;omega⟩,fun h=>⟨by decide,by have:=hz h;omega⟩,fun _=>hr⟩,fun h2=> ?_,fun h2=> ?_⟩
  ·rw[hN,show Ks (tk,st,S,O,M,X,Q) ns (Ji k).1 0=true from key.symm.trans h2];rfl
  ·rw[hN,show Ks (tk,st,S,O,M,X,Q) ns (Ji k).1 0=false from key.symm.trans h2];rfl
abbrev K2d:=K2e.add Kns
def Ya (Q:List Per) (s:ByteArray):Bool:=decide ((0:Int)<((L2 Q).filter fun p=>p.2.1.toList==s.toList).length)
theorem Jnp (x:Per) (Q:List Per) (s:ByteArray):Ya (x::Q) s=bif (bif x.2.1.toList==s.toList then x.2.2 else false) then true else Ya Q s:=by
 unfold Ya L2
 rw[List.filter_cons]
 cases h1:x.2.2 with
 |false=>
  rw[if_neg (by simp)]
  cases(x.2.1.toList==s.toList)<;>rfl
 | true =>
  rw[if_pos rfl,List.filter_cons]
  cases h2:(x.2.1.toList==s.toList) with
  |false=>rfl
  |true=>
   rw[if_pos rfl]
   exact decide_eq_true (by simp only[List.length_cons];omega)
def Kbo:Con:={args:=[X2,aS],ress:=[Bo],owns:=[],pre:=fun((_,_,_,_,_,_,Q),_)=>[Q.length≤1000000],spec:=fun((_,_,_,_,_,_,Q),s,_)=>(Ya Q s,())}
abbrev Kco (tk st:Int) (S:List Sta) (O:List Ord) (M:List Met) (X:List Out) (Q:List Per) (s:ByteArray):Ann:={X:=Nat,σ:=fun k=>⟨6,[(1, .one (.str s)),(2, .one (.ptr 5 0)),(5, .one (.int .i64 k))],[(0, .imm 114 Dp S),(1, .imm 119 Hm O),(2, .imm 121 Fb M),(3, .imm 123 X4 X),(4, .imm 125 Zw Q),(5, .box 37 [.int .i64 tk, .int .i64 st, .sl 0, .sl 1, .sl 2, .sl 3, .sl 4])]⟩,inv:=fun k=>k≤Q.length∧Ya Q s=Ya (Q.drop k) s,mu:=fun k=>Q.length-k}
def Klb (a:Nat) (b:List Per) (c:Bt):=a≤List.length b∧Ya b c=Ya (List.drop a b) c
theorem Km4:Ok Tryz.prog 269 Kbo:=okW K2d Tryz.f269 (fun xx=>Xo (Kco xx.1.1 xx.1.2.1 xx.1.2.2.1 xx.1.2.2.2.1 xx.1.2.2.2.2.1 xx.1.2.2.2.2.2.1 xx.1.2.2.2.2.2.2 xx.2.1)) fun xx=>by
 obtain⟨⟨(tk:Int),(st:Int),(S:List Sta),(O:List Ord),(M:List Met),(X:List Out),(Q:List Per)⟩,(s:ByteArray),_⟩:=xx
 refine(by kernel_rfl:(Z45 Q→∃(x:Nat),Jx8 s x S O M X Q tk st∧Klb x Q s∧∀(x:Nat),Klb x Q s→Br (Z94 x Q) (T2 (Bd (Nc x) (Ln Q)) (Tw (Lb (J28 Q x).1 s=true→Bd (Nc x) (Ln Q)))∧Br (bif Lb (J28 Q x).1 s then(J28 Q x).2 else false) (true=Ya Q s) (Z20 x∧∃(y:Nat),Jx7 s x y S O M X Q tk st∧Klb y Q s∧J04 Q y x)) (false=Ya Q s))=_).mp ?_
 delta Z20 Z45 Z94 V5 J28 J04 Klb Jqf Jx8 Jx7 Br Iw Bd T2 Tw Sf Si Ln Nc B0 Lb
 intro hb
 refine⟨(0:Nat),by(repeat' first|exact rfl|exact⟨⟩|apply And.intro|omega|dsimp only;omega),⟨Nat.zero_le _,rfl⟩,fun(k:Nat) hk=>⟨fun h=> ?_,fun h=> ?_⟩⟩
 ·have hlt:k<Q.length:=by simpa using h
  have hd:=Js (d:=Jix) hlt
  have h0:=hk.2
  rw[hd,Jnp] at h0
  refine⟨⟨by omega,by omega,fun _=>by omega,fun _=>by omega⟩,fun h1=> ?_,fun h1=>⟨by omega,(k+1:Nat),by(repeat' first|exact rfl|exact⟨⟩|apply And.intro|omega|dsimp only;omega),⟨by omega, ?_⟩,by omega⟩⟩
  ·rw[h0,show(bif (Q.getD k Jix).snd.fst.toList==s.toList then(Q.getD k Jix).snd.snd else false)=true from h1];rfl
  ·rw[h0,show(bif (Q.getD k Jix).snd.fst.toList==s.toList then(Q.getD k Jix).snd.snd else false)=false from h1];rfl
 ·have hlt:¬k<Q.length:=by simpa using h
  have:k=Q.length:=by omega
  rw[hk.2,this,List.drop_length];rfl
abbrev K2c:=K2d.add Km4
def Kb9 (t a b:Int):Bool:=bif (bif decide (a<t) then true else decide (b≤a)) then true else decide (48<b-a)
def J0d:Con:={args:=[aI, .val true Hi],ress:=[Bo],owns:=[],pre:=fun(_,s,_)=>[0≤s.1∧s.1≤999999999,0≤s.2∧s.2≤999999999],spec:=fun(t,s,_)=>(Kb9 t s.1 s.2,())}
theorem Km5:Ok Tryz.prog 268 J0d:=okW K2c Tryz.f268 na fun xx=>by
 obtain⟨(t:Int),⟨(a:Int),(b:Int)⟩,_⟩:=xx
 refine(by kernel_rfl:(J9y a→J9y b→((bif decide (a<t) then true else decide (b≤a))=false→Iw (b-a))∧(bif bif decide (a<t) then true else decide (b≤a) then true else decide (48<b-a))=Kb9 t a b)=_).mp ?_
 delta J9y Iw
 intro h1 h2
 exact⟨fun _=>by omega,rfl⟩
abbrev Jsk:=K2c.add Km5
def Jca (X:List Out):Prop:=(X.map fun x=>x.1).Nodup
theorem Ju6:∀{l:List Out} {k:Nat} {x:Out},(l.map fun x=>x.1).Nodup→x∈l→∃i,Vn (fun y:Out=>y.1.toList==x.1.toList) l k=((k+i:Nat):Int)∧i<l.length∧l.getD i V8=x
 |[],_,_,_,h=>by cases h
 | y :: l, k, x, hn, h => by
  rw[List.map_cons,List.nodup_cons] at hn
  unfold Vn
  by_cases q:(y.1.toList==x.1.toList)=true
  ·have q1:=Lm q
   rw[if_pos q]
   rcases List.mem_cons.1 h with h|h
   ·exact⟨0,rfl,by simp,h.symm⟩
   ·exact absurd (q1▸List.mem_map_of_mem (f:=fun z:Out=>z.1) h) hn.1
  ·rw[if_neg q]
   rcases List.mem_cons.1 h with h|h
   ·subst h;exact absurd (beq_self_eq_true _) q
   ·obtain⟨i,h1,h2,h3⟩:=Ju6 (k:=k+1) hn.2 h
    exact⟨i+1,by rw[h1];congr 1;omega,by simp;omega,h3⟩
theorem J3i {X:List Out} (h:Jca X) {x:Out} (hx:x∈X):L1 X x.1=x:=by
 obtain⟨i,h1,_,h3⟩:=Ju6 (k:=0) h hx
 unfold L1 J5
 rw[h1,Nat.zero_add,Int.toNat_natCast]
 exact h3
theorem Jpj {α:Type} {p:α→Bool}:∀{l:List α} {k:Nat},Vn p l k<0→∀x∈l,p x=false
 |[],_,_,x,hx=>by cases hx
 | y :: l, k, h, x, hx => by
  unfold Vn at h
  by_cases q:p y=true
  ·rw[if_pos q] at h;omega
  ·rw[if_neg q] at h
   rcases List.mem_cons.1 hx with hx|hx
   ·subst hx;simpa using q
   ·exact Jpj h x hx
theorem Jq4 {X:List Out} {x:Out} (h:Jca X) (hn:J5 X x.1<0):Jca (X++[x]):=by
 unfold Jca at h⊢
 rw[List.map_append,List.nodup_append]
 refine⟨h,by simp,fun a ha b hb=> ?_⟩
 obtain⟨y,hy,rfl⟩:=List.mem_map.1 ha
 have hb:b=x.1:=by simpa using hb
 subst hb
 intro e
 have:=Jpj hn y hy
 rw[e,beq_self_eq_true] at this
 cases this
theorem J3h {X:List Out} {s:ByteArray} {v:Int} (h:Jca X) (hf:0≤J5 X s):Jca (Jd7 X s v):=by
 unfold Jca Jd7 at*
 have hl:=Uo (l:=X) (s:=s)
 rw[List.map_set]
 have:(X.map fun x=>x.1).set (J5 X s).toNat (L1 X s).1=X.map fun x=>x.1:=by
  apply List.ext_getElem?
  intro i
  rw[List.getElem?_set]
  by_cases q:(J5 X s).toNat=i
  ·rw[if_pos q]
   subst q
   rw[if_pos (by rw[List.length_map];omega),List.getElem?_map]
   unfold L1
   rw[List.getD_eq_getElem?_getD,List.getElem?_eq_getElem (by omega)]
   rfl
  ·rw[if_neg q]
 rw[this]
 exact h
def Vm (r:Reg) (e:Ev):Int:=if decide (e.2.2.2.1.getD 0 0<r.1)=true then 22 else if Jr r e.2.1 e.2.2.1≠0 then Jr r e.2.1 e.2.2.1 else ckS r e
def Yq (r:Reg) (e:Ev):Reg:=if decide (e.2.2.2.1.getD 0 0<r.1)=true then r else if Jr r e.2.1 e.2.2.1≠0 then r else if ckS r e≠0 then(e.2.2.2.1.getD 0 0,r.2) else Jp r e
def Lv:Con:={args:=[X2,aEv],ress:=[(true,Jky),I],owns:=[],pre:=fun(r,e,_)=>[Jk r,Jca r.2.2.2.2.2.1,r.2.2.2.2.1.length<10000,Jb e=0,(e.2.1.toList==Jz.toList)=false],spec:=fun(r,e,_)=>(Yq r e,Vm r e,())}
abbrev Kav:Ann:={X:=Unit,σ:=fun _=>⟨0,[],[]⟩,inv:=fun _=>True,mu:=fun _=>0,un:=7777}
abbrev Lw:Nat→Option Ann:=fun id=>if id=1000034 then some Kav else none
abbrev Xs (o:Option Ann):FuncId→Nat→Option Ann:=fun f id=>if f=226∨f=227 then(if id=1000073∨id=1000147∨id=1000195∨id=1000233∨id=1000052∨id=1000077∨id=1000097∨id=1000198 then some Kav else if id=1∨id=3 then o else none) else none
theorem Jrr {r:Reg} {k:ByteArray} {ns:List ByteArray} (h:Jr r k ns=0):Ki r ns (Ji k).1 0=false∧Ks r ns (Ji k).1 0=false:=by
 unfold Jr at h
 cases h1:Ki r ns (Ji k).1 0 with
 |true=>rw[h1] at h;cases h
 |false=>
  rw[h1,cond_false] at h
  cases h2:Ks r ns (Ji k).1 0 with
  |true=>rw[h2] at h;cases h
  |false=>exact⟨rfl,rfl⟩
theorem Jqb {r:Reg} {e:Ev} (h:decide (e.2.2.2.1.getD 0 0<r.1)=true):Yq r e=r∧Vm r e=22:=by unfold Yq Vm;rw[if_pos h,if_pos h];exact⟨rfl,rfl⟩
theorem Jma {r:Reg} {e:Ev} (h:decide (e.2.2.2.1.getD 0 0<r.1)=false) (h2:Jr r e.2.1 e.2.2.1≠0):Yq r e=r∧Vm r e=Jr r e.2.1 e.2.2.1:=by
 have a:¬decide (e.2.2.2.1.getD 0 0<r.1)=true:=by rw[h];simp
 unfold Yq Vm
 constructor
 ·rw[if_neg a,if_pos h2]
 ·rw[if_neg a,if_pos h2]
theorem Kcr {r:Reg} {e:Ev} {c:Int} (h:decide (e.2.2.2.1.getD 0 0<r.1)=false) (h2:Jr r e.2.1 e.2.2.1=0) (h3:ckS r e=c) (h4:c≠0):Yq r e=(e.2.2.2.1.getD 0 0,r.2)∧Vm r e=c:=by
 have a:¬decide (e.2.2.2.1.getD 0 0<r.1)=true:=by rw[h];simp
 have b:¬Jr r e.2.1 e.2.2.1≠0:=by rw[h2];simp
 have d:ckS r e≠0:=by rw[h3];exact h4
 unfold Yq Vm
 rw[if_neg a,if_neg a,if_neg b,if_neg b,if_pos d]
 exact⟨rfl,h3⟩
theorem Kcq {r:Reg} {e:Ev} (h:decide (e.2.2.2.1.getD 0 0<r.1)=false) (h2:Jr r e.2.1 e.2.2.1=0) (h3:ckS r e=0):Yq r e=Jp r e∧Vm r e=0:=by
 have a:¬decide (e.2.2.2.1.getD 0 0<r.1)=true:=by rw[h];simp
 have b:¬Jr r e.2.1 e.2.2.1≠0:=by rw[h2];simp
 have d:¬ckS r e≠0:=by rw[h3];simp
 unfold Yq Vm
 rw[if_neg a,if_neg a,if_neg b,if_neg b,if_neg d]
 exact⟨rfl,h3⟩
theorem Xp (n lo hi:Int):Kf n lo hi=bif V0 n lo hi then 3 else 0:=rfl
theorem Kcs {r:Reg} {e:Ev} (h:decide (e.2.2.2.1.getD 0 0<r.1)=false) (h2:(Jr r e.2.1 e.2.2.1 !=0)=false):Vm r e=ckS r e:=by
 have h2:Jr r e.2.1 e.2.2.1=0:=by simpa using h2
 unfold Vm
 rw[if_neg (by rw[h];simp),if_neg (by rw[h2];simp)]
theorem Kru {r:Reg} {e:Ev} (h:decide (e.2.2.2.1.getD 0 0<r.1)=false) (h2:(Jr r e.2.1 e.2.2.1 !=0)=false) (h3:ckS r e≠0):Yq r e=(e.2.2.2.1.getD 0 0,r.2):=by
 have h2:Jr r e.2.1 e.2.2.1=0:=by simpa using h2
 exact(Kcr h h2 rfl h3).1
theorem Krv {r:Reg} {e:Ev} (h:decide (e.2.2.2.1.getD 0 0<r.1)=false) (h2:(Jr r e.2.1 e.2.2.1 !=0)=false) (h3:ckS r e=0):Yq r e=Jp r e:=by
 have h2:Jr r e.2.1 e.2.2.1=0:=by simpa using h2
 exact(Kcq h h2 h3).1
theorem Jnl {α:Type} {p:α→Bool} {d:α}:∀{l:List α} {k:Nat},0≤Vn p l k→∃i,Vn p l k=((k+i:Nat):Int)∧p (l.getD i d)=true
 |[],k,h=>by unfold Vn at h;exact absurd h (by decide)
 | x :: l, k, h => by
  unfold Vn at h⊢
  by_cases q:p x=true
  ·rw[if_pos q];exact⟨0,rfl,q⟩
  ·rw[if_neg q] at h⊢
   obtain⟨i,h1,h2⟩:=Jnl (d:=d) h
   exact⟨i+1,by rw[h1];congr 1;omega,h2⟩
theorem Jla {X:List Out} {s:ByteArray} (h:0≤J5 X s):(L1 X s).1=s:=by
 unfold J5 at h
 obtain⟨i,h1,h2⟩:=Jnl (d:=V8) h
 have:L1 X s=X.getD i V8:=by unfold L1 J5;rw[h1,Nat.zero_add];rfl
 rw[this]
 exact Lm h2
theorem Kqf {M:List Met} {s:ByteArray} {h:Int}:decide (0≤K2 M s h)=(L4 M s h).2:=by
 unfold L4
 by_cases q:0≤K2 M s h
 ·rw[if_pos q,decide_eq_true q]
 ·rw[if_neg q,decide_eq_false q]
theorem Jp8 {f:Int→Bool} {a:Int} {k n:Nat} (h:k<n):Jr9 f (a+(k:Int)) (n-k)=bif f (a+(k:Int)) then true else Jr9 f (a+((k+1:Nat):Int)) (n-(k+1)):=by
 have hj:n-k=(n-(k+1))+1:=by omega
 rw[hj,Jr9]
 have:a+(k:Int)+1=a+((k+1:Nat):Int):=by push_cast;omega
 rw[this]
theorem Jp9 {f:Int→Bool} {a:Int} {k n:Nat} (h:n≤k):Jr9 f a (n-k)=false:=by
 have hj:n-k=0:=by omega
 rw[hj];rfl
theorem K5y (a b p:Int):decide (min a b<p)=bif decide (a<p) then true else decide (b<p):=by
 by_cases h:a<p
 ·rw[decide_eq_true h];exact decide_eq_true (by omega)
 ·rw[decide_eq_false h,cond_false]
  by_cases h2:b<p
  ·rw[decide_eq_true h2];exact decide_eq_true (by omega)
  ·rw[decide_eq_false h2];exact decide_eq_false (by omega)
theorem Kqk {α:Type} {l:List α} {p:α→Bool}:decide ((0:Int)<(l.filter p).length)=l.any p:=by
 induction l with
 |nil=>rfl
 |cons x l ih=>
  rw[List.filter_cons,List.any_cons]
  cases h:p x with
  |true=>rw[if_pos rfl,Bool.true_or];exact decide_eq_true (by rw[List.length_cons];omega)
  |false=>rw[if_neg (by simp),Bool.false_or];exact ih
theorem J4c {X:List Out} {Q:List Per} {u:Int} (hu:Jca X) (hp:∀p∈Q,0≤J5 X p.2.1):decide ((0:Int)<((L2 Q).filter fun p=>decide ((L1 X p.2.1).2.2.1.2≤u)).length)=X.any fun x=>decide (x.2.2.1.2≤u)&&Ya Q x.1:=by
 rw[Kqk,Bool.eq_iff_iff,List.any_eq_true,List.any_eq_true]
 constructor
 ·rintro⟨p,h1,h2⟩
  have hq:=Jlb h1
  have h3:=hp p hq
  refine⟨L1 X p.2.1,Juf h3, ?_⟩
  rw[h2,Bool.true_and]
  unfold Ya
  rw[Kqk,List.any_eq_true]
  exact⟨p,h1,by rw[Jla h3,beq_self_eq_true]⟩
 ·rintro⟨x,h1,h2⟩
  rw[Bool.and_eq_true] at h2
  obtain⟨h2,h3⟩:=h2
  unfold Ya at h3
  rw[Kqk,List.any_eq_true] at h3
  obtain⟨p,h4,h5⟩:=h3
  have h6:p.2.1=x.1:=Lm h5
  exact⟨p,h4,by rw[h6,J3i hu h1];exact h2⟩
theorem Xk {X:List Ord} {s:ByteArray} (h:0≤Ku X s):(Xy X s).1=s:=by
 unfold Ku at h
 obtain⟨i,h1,h2⟩:=Jnl (d:=Kl) h
 have:Xy X s=X.getD i Kl:=by unfold Xy Ku;rw[h1,Nat.zero_add];rfl
 rw[this]
 exact Lm h2
section
variable {r:Reg} {e:Ev}
theorem lfT (h:decide (e.2.2.2.1.getD 0 0<r.1)=true):True∧r=Yq r e∧22=Vm r e:=⟨trivial,(Jqb h).1.symm,(Jqb h).2.symm⟩
theorem lfN (h:decide (e.2.2.2.1.getD 0 0<r.1)=false) (h2:(Jr r e.2.1 e.2.2.1 !=0)=true):True∧r=Yq r e∧Jr r e.2.1 e.2.2.1=Vm r e:=⟨trivial,(Jma h (bne_iff_ne.mp h2)).1.symm,(Jma h (bne_iff_ne.mp h2)).2.symm⟩
theorem lfA {c:Int} {R:Reg} (h:decide (e.2.2.2.1.getD 0 0<r.1)=false) (h2:(Jr r e.2.1 e.2.2.1 !=0)=false) (h3:ckS r e=c) (h4:(c≠0∧(e.2.2.2.1.getD 0 0,r.2)=R)∨(c=0∧Jp r e=R)):True∧R=Yq r e∧c=Vm r e:=by
 rcases h4 with⟨h4,rfl⟩|⟨rfl,rfl⟩
 ·exact⟨trivial,(Kru h h2 (by rw[h3];exact h4)).symm,((Kcs h h2).trans h3).symm⟩
 ·exact⟨trivial,(Krv h h2 h3).symm,((Kcs h h2).trans h3).symm⟩
theorem Jxz (hr:Jk r) (hc:Jb e=0):e.2.2.1.length=(Ji e.2.1).1.length∧(e.2.2.2.1.length:Int)=(Ji e.2.1).2.1∧r.2.2.1.length≤6∧r.2.2.2.1.length≤32∧r.2.2.2.2.2.1.length≤16∧r.2.2.2.2.2.2.length≤16∧∀i,i<e.2.2.2.1.length→(0≤e.2.2.2.1.getD i 0∧e.2.2.2.1.getD i 0≤999999999):=
 have hE:=Uj hc
 ⟨hE.nn,hE.nv,hr.nS,hr.nO,hr.nX,hr.nQ,fun _ hi=>hE.val _ (Jc hi)⟩
theorem fcN {k ns} (a:(Jr r k ns !=0)=false):Ki r ns (Ji k).1 0=false:=(Jrr (by simpa using a)).1
end
theorem K6n (a b:Bool):(a&&b)=bif a then b else false:=by cases a<;>rfl
theorem rcb:({data:={toList:=[]}}:ByteArray)=Ja:=congrArg (fun x=>x) rfl
theorem rcS (S s):List.getD S (Jx S s).toNat (Ja,0,0)=Hl S s:=congrArg (fun x=>x) rfl
theorem rcO (O s):List.getD O (Ku O s).toNat (Ja,Ja,Ja,(0,0),0,0,0)=Xy O s:=congrArg (fun x=>x) rfl
theorem rcX (X s):List.getD X (J5 X s).toNat (Ja,Ja,(0,0),0)=L1 X s:=congrArg (fun x=>x) rfl
theorem rcQ (Q s):List.getD Q (Uz Q s).toNat (Ja,Ja,false)=Jmf Q s:=congrArg (fun x=>x) rfl
def Z50 (a:List Met):=List.length a<10000
def Jhx (a:Li) (b:Int):=decide (U1 a<b)
def Jhw (a:List Met):=(0+List.length a)*40≤140737488355328
def Jhv (a:List Per):=(0+List.length a)*40≤140737488355328
def Jhu (a:List Sta):=(0+List.length a)*32≤140737488355328
def Jht (a:List Ord):=(0+List.length a)*88≤140737488355328
def Jhs (a:List Out):=(0+List.length a)*56≤140737488355328
def Jc7 (a:Li) (b:Int) (c:List Sta) (d:List Ord) (e:List Met) (f:List Out) (g:List Per):=(U1 a,b,c,d,e,f,g)
def Jsv (a b:Int) (c:List Sta) (d:List Ord) (e:List Met) (f:List Out) (g:List Per) (h:Ls):=Jt a b c d e f g∧Sf true (List.length h=1)
theorem Jh3 (tk st:Int) (S:List Sta) (O:List Ord) (M:List Met) (X:List Out) (Q:List Per) (n:Int) (ns:List ByteArray) (vs:List Int) (tx:ByteArray):wpFG Tryz.prog Jsk.g Lw (Xs (none)) (Sx.look ([(225,Tryz.f225),(226,Tryz.f226),(227,Tryz.f227)]:List (Nat×Func))) Tryz.f132 Lv ((tk,st,S,O,M,X,Q),(n,Ju,ns,vs,tx),()):=by
 refine(by kernel_rfl:(Jt tk st S O M X Q→Jca X→Z50 M→Jb (Z24 n ns vs tx)=0→Lb Ju Jz=false→Z97 vs∧Br (Jhx vs tk) (Sf true (Z66 tk st S O M X Q=Yq (Z66 tk st S O M X Q) (Z24 n ns vs tx)∧22=Vm (Z66 tk st S O M X Q) (Z24 n ns vs tx))) (Jsv tk st S O M X Q ns∧Br (Jr (Z66 tk st S O M X Q) Ju ns !=0) (Sf true (Z66 tk st S O M X Q=Yq (Z66 tk st S O M X Q) (Z24 n ns vs tx)∧Jr (Z66 tk st S O M X Q) Ju ns=Vm (Z66 tk st S O M X Q) (Z24 n ns vs tx))) (Jhu S∧Jht O∧Jhw M∧Jhs X∧Jhv Q∧Z96 vs∧Br (V0 (Z89 vs) 1 1000) (Z97 vs∧Sf true (Jc7 vs st S O M X Q=Yq (Z66 tk st S O M X Q) (Z24 n ns vs tx)∧3=Vm (Z66 tk st S O M X Q) (Z24 n ns vs tx))) (Br (decide (6≤Ln ([]++S))) (Z97 vs∧Sf true (Jc7 vs st S O M X Q=Yq (Z66 tk st S O M X Q) (Z24 n ns vs tx)∧5=Vm (Z66 tk st S O M X Q) (Z24 n ns vs tx))) (Kjb ns vs S∧Z97 vs∧Sf true ((U1 vs,st,Kj5 S ns vs,O,M,X,Q)=Yq (Z66 tk st S O M X Q) (Z24 n ns vs tx)∧0=Vm (Z66 tk st S O M X Q) (Z24 n ns vs tx)))))))=_).mp ?_
 delta Z24 Z27 Z32 Z50 Z66 Z87 Z89 Z92 Z96 Z97 U1 Jt Jhx Jhw Jhv Jhu Jht Jhs Jc7 Jsv Kj5 Kjb Br Bd T2 Tw Sf Ln B0 Lb Ju Jz
 intro hr hu hm hc _
 obtain⟨hn,hv,nS,nO,nX,nQ,hx⟩:=Jxz hr hc
 simp only[K6,List.length_cons,List.length_nil] at hn hv nS nO nX nQ hx
 have cE:ckS (tk,st,S,O,M,X,Q) (n,Ju,ns,vs,tx)=Jl5 S vs:=by simp only[ckS,K6]
 have sE:Jp (tk,st,S,O,M,X,Q) (n,Ju,ns,vs,tx)=(vs.getD 0 0,(Jay (tk,st,S,O,M,X,Q) (n,Ju,ns,vs,tx)).2):=by simp only[Jp,doS,K6]
 simp only[List.nil_append,rcb,rcS,rcO,rcX,rcQ,Prod.eta]
 repeat' first|exact lfT ‹_›|exact lfN ‹_› ‹_›|exact lfA ‹_› ‹_› (cE.trans (by clear cE sE hx hc;simp only[Jl5,Jf,Xp,List.nil_append, *,cond_true,cond_false,reduceIte,decide_true,decide_false,Bool.not_true,Bool.not_false,Int.reduceEq,Int.reduceNe,ne_eq,not_false_eq_true,not_true_eq_false];first|done|rfl|decide)) (by first|exact .inl ⟨by decide,rfl⟩|exact .inl ⟨bne_iff_ne.mp ‹_›,rfl⟩|exact .inr ⟨rfl,sE.trans (by first|rfl|simp only[Jay,List.nil_append])⟩)|apply And.intro|intro _
 all_goals first|omega|trivial|assumption
def K0e (a:List Sta) (b:Ls):=Gt ([]++a) (J26 a b) Z10
theorem Jmn (tk st:Int) (S:List Sta) (O:List Ord) (M:List Met) (X:List Out) (Q:List Per) (n:Int) (ns:List ByteArray) (vs:List Int) (tx:ByteArray):wpFG Tryz.prog Jsk.g Lw (Xs (none)) (Sx.look ([(225,Tryz.f225),(226,Tryz.f226),(227,Tryz.f227)]:List (Nat×Func))) Tryz.f132 Lv ((tk,st,S,O,M,X,Q),(n,K7,ns,vs,tx),()):=by
 refine(by kernel_rfl:(Jt tk st S O M X Q→Jca X→Z50 M→Jb (Z7 n ns vs tx)=0→Lb K7 Jz=false→Z97 vs∧Br (Jhx vs tk) (Sf true (Z66 tk st S O M X Q=Yq (Z66 tk st S O M X Q) (Z7 n ns vs tx)∧22=Vm (Z66 tk st S O M X Q) (Z7 n ns vs tx))) (Jsv tk st S O M X Q ns∧Br (Jr (Z66 tk st S O M X Q) K7 ns !=0) (Sf true (Z66 tk st S O M X Q=Yq (Z66 tk st S O M X Q) (Z7 n ns vs tx)∧Jr (Z66 tk st S O M X Q) K7 ns=Vm (Z66 tk st S O M X Q) (Z7 n ns vs tx))) (Jhu S∧Jht O∧Jhw M∧Jhs X∧Jhv Q∧Z96 vs∧Br (decide (1000<Z89 vs)) (Z97 vs∧Sf true (Jc7 vs st S O M X Q=Yq (Z66 tk st S O M X Q) (Z7 n ns vs tx)∧3=Vm (Z66 tk st S O M X Q) (Z7 n ns vs tx))) (T2 (Z92 ns) (Z55 S∧T2 (Z32 vs) (Tw (Bd (J26 S ns) (Ln ([]++S)))))∧Z97 vs∧Sf true ((U1 vs,st,List.set ([]++S) (Int.toNat (J26 S ns)) ((K0e S ns).1,(K0e S ns).2.1,Z89 vs),O,M,X,Q)=Yq (Z66 tk st S O M X Q) (Z7 n ns vs tx)∧0=Vm (Z66 tk st S O M X Q) (Z7 n ns vs tx))))))=_).mp ?_
 delta Z7 Z10 Z27 Z32 Z50 Z55 Z66 Z87 Z89 Z92 Z96 Z97 U1 Jt J26 Jhx Jhw Jhv Jhu Jht Jhs Jc7 Jsv K0e Br Bd T2 Tw Sf Ln Gt B0 Lb K7 Jz
 intro hr hu hm hc _
 obtain⟨hn,hv,nS,nO,nX,nQ,hx⟩:=Jxz hr hc
 simp only[Vb,List.length_cons,List.length_nil] at hn hv nS nO nX nQ hx
 have cE:ckS (tk,st,S,O,M,X,Q) (n,K7,ns,vs,tx)=Jn4 vs:=by simp only[ckS,Vb]
 have sE:Jp (tk,st,S,O,M,X,Q) (n,K7,ns,vs,tx)=(vs.getD 0 0,(Fk (tk,st,S,O,M,X,Q) (n,K7,ns,vs,tx)).2):=by simp only[Jp,doS,Vb]
 have hp:decide (vs.getD 1 0<0)=false:=decide_eq_false (by have:=hx 1 (by omega);omega)
 have hF:(Jr (tk,st,S,O,M,X,Q) K7 ns !=0)=false→(0≤Jx S (ns.getD 0 Ja)∧Jx S (ns.getD 0 Ja)<S.length):=fun a=>by
  have z:=fcN a
  rw[Vb] at z
  obtain⟨k0,z⟩:=Jm z
  exact⟨Jr0 (k0 rfl),Kz⟩
 simp only[List.nil_append,rcb,rcS,rcO,rcX,rcQ,Prod.eta]
 repeat' first|exact lfT ‹_›|exact lfN ‹_› ‹_›|exact lfA ‹_› ‹_› (cE.trans (by clear cE sE hF hx hc;simp only[Jn4,Kf,Bool.false_or,Xp,List.nil_append, *,cond_true,cond_false,reduceIte,decide_true,decide_false,Bool.not_true,Bool.not_false,Int.reduceEq,Int.reduceNe,ne_eq,not_false_eq_true,not_true_eq_false];first|done|rfl|decide)) (by first|exact .inl ⟨by decide,rfl⟩|exact .inl ⟨bne_iff_ne.mp ‹_›,rfl⟩|exact .inr ⟨rfl,sE.trans (by first|rfl|simp only[Fk,List.nil_append]|simp only[Fk,Xk (hF ‹_›).1])⟩)|apply And.intro|intro _
 all_goals first|omega|trivial|assumption|(have:=hF ‹_›;omega)
abbrev Jhq (tk st:Int) (S:List Sta) (O:List Ord) (M:List Met) (X:List Out) (Q:List Per) (n:Int) (ns:List ByteArray) (vs:List Int) (tx:ByteArray):Ann:={X:=Nat,σ:=fun k=>⟨30,[(2, .one (.ptr 25 0)),(3, .one (.ptr 26 0)),(4, .one (.ptr 27 0)),(6, .one (.sl 6)),(7, .one (.ptr 28 0)),(8, .one (.int .i64 (vs.getD 1 0+k)))],[(5, .imm 9 .str ns),(6, .imm 3 sI vs),(8, .box 67 [.int .i64 n, .str Kk, .sl 5, .sl 6, .str tx]),(9, .box 37 J1t),(23, .box 37 [.int .i64 tk, .int .i64 st, .sl 14, .sl 16, .sl 18, .sl 20, .sl 22]),(24, .sus [(3, .one (.ptr 8 0)),(4, .one (.ptr 9 0)),(7, .one (.ptr 23 0))]),(25, .box 37 [.int .i64 tk, .int .i64 st, .sl 14, .sl 16, .sl 18, .sl 20, .sl 22]),(26, .box 67 [.int .i64 n, .str Kk, .sl 5, .sl 6, .str tx]),(27, .box 37 J1t),(28, .box 117 [.int .i64 (vs.getD 1 0), .int .i64 (vs.getD 2 0)]),(14, .own 114 Dp S),(16, .own 119 Hm O),(18, .own 121 Fb M),(20, .own 123 X4 X),(22, .own 125 Zw Q)]⟩,inv:=fun k=>k≤(vs.getD 2 0-vs.getD 1 0).toNat∧Jve S O X (n,Kk,ns,vs,tx)=Jr9 (fun h=>decide (min (Xd S O X (ns.getD 1 Ja) h) (Xd S O X (ns.getD 2 Ja) h)<vs.getD 3 0)) (vs.getD 1 0+k) ((vs.getD 2 0-vs.getD 1 0).toNat-k),mu:=fun k=>(vs.getD 2 0-vs.getD 1 0).toNat-k}
def Jsx (a:Li) (b:Nat):=Z89 a+Nc b
def Kfm (a:Li) (b:Nat):=Jsx a b+1
def Kk7 (a:Li):=Int.toNat (Z90 a-Z89 a)
def Kk2 (a:Li) (b:Nat):=Z89 a=Jsx a b
def Kkx (a:Nat) (b:Li):=a≤Kk7 b
def J8x (a:Li) (b:Nat):=Kk7 a-b
def Kkm (a:Li) (b:Nat):=decide (Jsx a b<Z90 a)
def Kjs (a:Li) (b c:Nat):=Kfm a b=Jsx a c
def Kjr (a:Li):=Kb9 (U1 a) (Z89 a) (Z90 a)
def J8p (a:Li) (b:Int) (c:List Sta) (d:List Ord) (e:List Met) (f:List Out) (g:List Per) (h i:Int) (j:Ls) (k:Bt):=Jc7 a b c d e f g=Yq (Z66 h b c d e f g) (Z8 i j a k)
def Kec (a:List Sta) (b:List Ord) (c:List Out) (d:Ls) (e:Li) (f:Nat):=decide (Xd a b c (H9 d) (Jsx e f)<Z85 e)=false
def Khz (a:Li) (b c:Nat):=J8x a b<J8x a c
def Khe (a:Li):=T2 (Z27 a) ((0≤Z89 a∧Z89 a≤999999999)∧0≤Z90 a∧Z90 a≤999999999)
def Kgt (a:Nat) (b:Li) (c:List Sta) (d:List Ord) (e:List Out) (f:Int) (g:Ls) (h:Bt):=Kkx a b∧Jve c d e (Z8 f g b h)=Jr9 (fun(h:Int)=>decide (min (Xd c d e (Jj2 g) h) (Xd c d e (J60 g) h)<Z85 b)) (Jsx b a) (J8x b a)
def Kgs (a:Bt) (b:Li) (c:List Sta) (d:List Ord) (e:List Met) (f:List Out) (g:List Per):=Sf a (Si 0 (Si 0 (Sf Vk (Sf Vk (Sf Vk (Sf Vk (Sf Vk (Si (Z89 b) (Si (Z90 b) (Sf c (Sf d (Sf e (Sf f (g=g))))))))))))))
def J7x (a:Ls) (b:Li) (c:Int) (d:Bt) (e f:Int) (g:List Sta) (h:List Ord) (i:List Met) (j:List Out) (k:List Per):=Sf a (Sf b (Si c (Sf Kk (Sf d (Si 0 (Si 0 (Sf Vk (Sf Vk (Sf Vk (Sf Vk (Sf Vk (Si e (Si f (Si e (Si f (Si c (Sf Kk (Kgs d b g h i j k))))))))))))))))))
theorem Jmo (tk st:Int) (S:List Sta) (O:List Ord) (M:List Met) (X:List Out) (Q:List Per) (n:Int) (ns:List ByteArray) (vs:List Int) (tx:ByteArray):wpFG Tryz.prog Jsk.g Lw (Xs (some (Jhq tk st S O M X Q n ns vs tx))) (Sx.look ([(225,Tryz.f225),(226,Tryz.f226),(227,Tryz.f227)]:List (Nat×Func))) Tryz.f132 Lv ((tk,st,S,O,M,X,Q),(n,Kk,ns,vs,tx),()):=by
 refine(by kernel_rfl:(Jt tk st S O M X Q→Jca X→Z50 M→Jb (Z8 n ns vs tx)=0→Lb Kk Jz=false→Z97 vs∧Br (Jhx vs tk) (Sf true (Z66 tk st S O M X Q=Yq (Z66 tk st S O M X Q) (Z8 n ns vs tx)∧22=Vm (Z66 tk st S O M X Q) (Z8 n ns vs tx))) ((Jt tk st S O M X Q∧Sf true (Jsz ns))∧Br (Jr (Z66 tk st S O M X Q) Kk ns !=0) (Sf true (Z66 tk st S O M X Q=Yq (Z66 tk st S O M X Q) (Z8 n ns vs tx)∧Jr (Z66 tk st S O M X Q) Kk ns=Vm (Z66 tk st S O M X Q) (Z8 n ns vs tx))) (Jhu S∧Jht O∧Jhw M∧Jhs X∧Jhv Q∧J85 vs∧T2 (Z93 ns) (Tw (Z98 ns))∧Br (Klf ns) (Z97 vs∧Sf true (J8p vs st S O M X Q tk n ns tx∧24=Vm (Z66 tk st S O M X Q) (Z8 n ns vs tx))) (Khe vs∧Br (Kjr vs) (Z97 vs∧Sf true (J8p vs st S O M X Q tk n ns tx∧14=Vm (Z66 tk st S O M X Q) (Z8 n ns vs tx))) (Z86 vs∧Br (V0 (Z85 vs) 1 1000) (Z97 vs∧Sf true (J8p vs st S O M X Q tk n ns tx∧3=Vm (Z66 tk st S O M X Q) (Z8 n ns vs tx))) (∃(x:Nat),(Kk2 vs x∧J7x ns vs n tx tk st S O M X Q)∧Kgt x vs S O X n ns tx∧∀(x:Nat),Kgt x vs S O X n ns tx→Br (Kkm vs x) (T2 (Z93 ns) (Jt tk st S O M X Q∧J21 S ns∧T2 (Z31 vs) (T2 (Kec S O X ns vs x→Z98 ns) ((Kec S O X ns vs x→Jt tk st S O M X Q)∧(Kec S O X ns vs x→0≤Jx S (Z91 ns))∧Tw (Kec S O X ns vs x→Z31 vs))))∧Br (bif decide (Xd S O X (H9 ns) (Jsx vs x)<Z85 vs) then true else decide (Xd S O X (Z91 ns) (Jsx vs x)<Z85 vs)) (Z97 vs∧Sf true (J8p vs st S O M X Q tk n ns tx∧4=Vm (Z66 tk st S O M X Q) (Z8 n ns vs tx))) (Iw (Kfm vs x)∧∃(y:Nat),(Kjs vs x y∧J7x ns vs n tx tk st S O M X Q)∧Kgt y vs S O X n ns tx∧Khz vs y x)) (Br (decide (32≤Ln O)) (Z97 vs∧Sf true (J8p vs st S O M X Q tk n ns tx∧5=Vm (Z66 tk st S O M X Q) (Z8 n ns vs tx))) (T2 (Z92 ns) (T2 (Z93 ns) (T2 (Z98 ns) (T2 (Z31 vs) (T2 (Z93 ns) (Z55 S∧T2 (Bd (Jyg S ns) (Ln S)) ((List.length O+1)*88≤140737488355328))))))∧Z97 vs∧Sf true ((U1 vs,st,S,O++[(Z87 ns,H9 ns,Z91 ns,J82 vs,Z85 vs,(Gt S (Jyg S ns) Z10).2.2,Z68)],M,X,Q)=Yq (Z66 tk st S O M X Q) (Z8 n ns vs tx)∧0=Vm (Z66 tk st S O M X Q) (Z8 n ns vs tx))))))))))=_).mp ?_
 delta Z8 Z10 Z25 Z27 Z31 Z32 Z50 Z55 Z66 Z68 Z85 Z86 Z87 Z89 Z90 Z91 Z92 Z93 Z97 Z98 U1 H9 J60 Jj2 Jsz Jt Vk Jyg Jsx Jhx Jhw Jhv Jhu Jht Jhs J21 Kfm Jc7 J85 J82 Klf Kk7 Kk2 Kkx J8x Kkm Kjs Kjr J8p Kec Khz Khe Kgt Kgs J7x Br Iw Bd T2 Tw Sf Si Ln Nc Gt B0 Lb Kk Jz
 intro hr hu hm hc _
 obtain⟨hn,hv,nS,nO,nX,nQ,hx⟩:=Jxz hr hc
 simp only[Uu,List.length_cons,List.length_nil] at hn hv nS nO nX nQ hx
 have cE:ckS (tk,st,S,O,M,X,Q) (n,Kk,ns,vs,tx)=Jb4 S O X (n,Kk,ns,vs,tx):=by simp only[ckS,Uu]
 have sE:Jp (tk,st,S,O,M,X,Q) (n,Kk,ns,vs,tx)=(vs.getD 0 0,(Fo (tk,st,S,O,M,X,Q) (n,Kk,ns,vs,tx)).2):=by simp only[Jp,doS,Uu]
 have hF:(Jr (tk,st,S,O,M,X,Q) Kk ns !=0)=false→(0≤Jx S (ns.getD 1 Ja)∧Jx S (ns.getD 1 Ja)<S.length)∧(0≤Jx S (ns.getD 2 Ja)∧Jx S (ns.getD 2 Ja)<S.length):=fun a=>by
  have z:=fcN a
  rw[Uu] at z
  obtain⟨k0,z⟩:=Jm z
  obtain⟨k1,z⟩:=Jm z
  obtain⟨k2,z⟩:=Jm z
  exact⟨⟨Jr0 (k1 rfl),Kz⟩,⟨Jr0 (k2 rfl),Kz⟩⟩
 have v1:=hx 1 (by omega)
 have v2:=hx 2 (by omega)
 have v3:=hx 3 (by omega)
 have pE:Zc (n,Kk,ns,vs,tx)=bif Kb9 (vs.getD 0 0) (vs.getD 1 0) (vs.getD 2 0) then 14 else 0:=rfl
 simp only[List.nil_append,rcb,rcS,rcO,rcX,rcQ,Prod.eta]
 repeat' first|exact lfT ‹_›|exact lfN ‹_› ‹_›|exact lfA ‹_› ‹_› (cE.trans (by clear cE sE hF hx hc;simp only[Jb4,Jhn,Jf,Xp,List.nil_append, *,cond_true,cond_false,reduceIte,decide_true,decide_false,Bool.not_true,Bool.not_false,Int.reduceEq,Int.reduceNe,ne_eq,not_false_eq_true,not_true_eq_false];first|done|rfl|decide)) (by first|exact .inl ⟨by decide,rfl⟩|exact .inl ⟨bne_iff_ne.mp ‹_›,rfl⟩|exact .inr ⟨rfl,sE.trans (by first|rfl|(simp only[Fo,List.nil_append];done)|simp only[Fo,Xk (hF ‹_›).1])⟩)|(refine⟨(0:Nat),by(repeat' first|exact rfl|exact⟨⟩|apply And.intro|omega|dsimp only;omega),⟨Nat.zero_le _,by simp[He,Vt,Jve]⟩,fun(k:Nat) hk=>⟨fun h1=> ?_,fun h1=> ?_⟩⟩;obtain⟨k1,k2⟩:=hk;replace h1:=of_decide_eq_true h1;rw[Jp8 (by omega)] at k2;rw[K5y] at k2;rotate_left;obtain⟨k1,k2⟩:=hk;replace h1:=of_decide_eq_false h1;rw[Jp9 (by omega)] at k2)|(refine⟨(k+1:Nat),by(repeat' first|exact rfl|exact⟨⟩|apply And.intro|omega|dsimp only;omega),⟨by omega, ?_⟩,by omega⟩;rw[k2,show(bif decide (Xd S O X (ns.getD 1 Ja) (vs.getD 1 0+k)<vs.getD 3 0) then true else decide (Xd S O X (ns.getD 2 Ja) (vs.getD 1 0+k)<vs.getD 3 0))=false from ‹_›];rfl)|apply And.intro|intro _
 all_goals first|omega|trivial|assumption|(have:=hF ‹_›;omega)
def Kfg (a:List Ord) (b:Ls):=Bd (Jqp a b) (Ln ([]++a))
def Kk0 (a:List Ord) (b:Ls):=Tw (Kfg a b)
def J8o (a:Li) (b:Int) (c:List Sta) (d:List Ord) (e:List Met) (f:List Out) (g:List Per) (h i:Int) (j:Ls) (k:Bt):=Jc7 a b c d e f g=Yq (Z66 h b c d e f g) (Z13 i j a k)
def Kis (a:List Ord) (b:Ls):=Gt ([]++a) (Jqp a b) Jgd
def Kir (a:List Ord) (b:Ls):=(Kis a b).2
def J8m (a:List Ord) (b:Ls):=(Kis a b).1
def Kio (a:List Ord) (b:Ls):=(Kir a b).1
def Kin (a:List Ord) (b:Ls):=(Kir a b).2
def Kik (a:List Ord) (b:Ls):=(Kin a b).2
def Kij (a:List Ord) (b:Ls):=(Kin a b).1
def Kii (a:List Ord) (b:Ls):=(Kik a b).2
def Kig (a:List Ord) (b:Ls):=(Kik a b).1
def Keb (a:List Ord) (b:Ls):=(Kii a b).1
def Kea (a:List Ord) (b:Ls):=(Kii a b).2
def Kie (a:List Ord) (b:Ls):=(Kea a b).2
def Kd2 (a:List Ord) (b:Ls):=E2 (Kig a b)
def Kvv (a:List Ord) (b:Ls) (c:Li):=decide (Keb a b<Z90 c)
def Kvm (a:List Ord) (b:Ls) (c:Li):=Kvv a b c=false
theorem Jmp (tk st:Int) (S:List Sta) (O:List Ord) (M:List Met) (X:List Out) (Q:List Per) (n:Int) (ns:List ByteArray) (vs:List Int) (tx:ByteArray):wpFG Tryz.prog Jsk.g Lw (Xs (none)) (Sx.look ([(225,Tryz.f225),(226,Tryz.f226),(227,Tryz.f227)]:List (Nat×Func))) Tryz.f132 Lv ((tk,st,S,O,M,X,Q),(n,K0,ns,vs,tx),()):=by
 refine(by kernel_rfl:(Jt tk st S O M X Q→Jca X→Z50 M→Jb (Z13 n ns vs tx)=0→Lb K0 Jz=false→Z97 vs∧Br (Jhx vs tk) (Sf true (Z66 tk st S O M X Q=Yq (Z66 tk st S O M X Q) (Z13 n ns vs tx)∧22=Vm (Z66 tk st S O M X Q) (Z13 n ns vs tx))) (Jsv tk st S O M X Q ns∧Br (Jr (Z66 tk st S O M X Q) K0 ns !=0) (Sf true (Z66 tk st S O M X Q=Yq (Z66 tk st S O M X Q) (Z13 n ns vs tx)∧Jr (Z66 tk st S O M X Q) K0 ns=Vm (Z66 tk st S O M X Q) (Z13 n ns vs tx))) (Jhu S∧Jht O∧Jhw M∧Jhs X∧Jhv Q∧T2 (Z92 ns) (Z56 O∧Kk0 O ns)∧T2 (Z32 vs) (Z97 vs)∧Br (Kk6 vs) (Z97 vs∧Sf true (J8o vs st S O M X Q tk n ns tx∧11=Vm (Z66 tk st S O M X Q) (Z13 n ns vs tx))) (Z96 vs∧Br (!Ko (Kd2 O ns) (Z89 vs)) (Z97 vs∧Sf true (J8o vs st S O M X Q tk n ns tx∧14=Vm (Z66 tk st S O M X Q) (Z13 n ns vs tx))) (T2 (Z32 vs) (Z68≤Kie O ns)∧Br (!J2 (J8m O ns,Kio O ns,Kij O ns,Kd2 O ns,Keb O ns,E2 (Kea O ns)) (Z89 vs)) (Z97 vs∧Sf true (J8o vs st S O M X Q tk n ns tx∧23=Vm (Z66 tk st S O M X Q) (Z13 n ns vs tx))) (T2 (Z32 vs) (Jt tk st S O M X Q)∧Br (L4 M (J8m O ns) (Z89 vs)).2 (Z97 vs∧Sf true (J8o vs st S O M X Q tk n ns tx∧9=Vm (Z66 tk st S O M X Q) (Z13 n ns vs tx))) (T2 (Z25 vs) (T2 (Kvm O ns vs→Z31 vs) (Tw (Kvm O ns vs→Z25 vs)))∧Br (bif Kvv O ns vs then true else Kk5 vs) (Z97 vs∧Sf true (J8o vs st S O M X Q tk n ns tx∧3=Vm (Z66 tk st S O M X Q) (Z13 n ns vs tx))) (Kic vs M∧Z97 vs∧Sf true ((U1 vs,st,S,O,M++[(J8m O ns,Kjx vs)],X,Q)=Yq (Z66 tk st S O M X Q) (Z13 n ns vs tx)∧0=Vm (Z66 tk st S O M X Q) (Z13 n ns vs tx))))))))))=_).mp ?_
 delta Z13 Z25 Z27 Z31 Z32 Z50 Z56 Z66 Z68 Z70 Z85 Z87 Z89 Z90 Z92 Z96 Z97 U1 Jt Jqp Jhx Jhw Jhv Jhu Jht Jhs Jc7 Jgd Kfg Kk6 Kk5 Kk0 Jsv Kjx J8o Kis Kir J8m Kio Kin Kik Kij Kii Kig Keb Kea Kie Kic Kd2 Kvv Kvm Br Bd T2 Tw Sf Ln Gt B0 Lb E2 K0 Jz
 intro hr hu hm hc _
 obtain⟨hn,hv,nS,nO,nX,nQ,hx⟩:=Jxz hr hc
 simp only[Uv,List.length_cons,List.length_nil] at hn hv nS nO nX nQ hx
 have cE:ckS (tk,st,S,O,M,X,Q) (n,K0,ns,vs,tx)=Jl6 O M ns vs:=by simp only[ckS,Uv]
 have sE:Jp (tk,st,S,O,M,X,Q) (n,K0,ns,vs,tx)=(vs.getD 0 0,(Fp (tk,st,S,O,M,X,Q) (n,K0,ns,vs,tx)).2):=by simp only[Jp,doS,Uv]
 have hF:(Jr (tk,st,S,O,M,X,Q) K0 ns !=0)=false→(0≤Ku O (ns.getD 0 Ja)∧Ku O (ns.getD 0 Ja)<O.length):=fun a=>by
  have z:=fcN a
  rw[Uv] at z
  obtain⟨k0,z⟩:=Jm z
  exact⟨J2e (k0 rfl),Uy⟩
 have hP:(Jr (tk,st,S,O,M,X,Q) K0 ns !=0)=false→-1≤(Xy O (ns.getD 0 Ja)).2.2.2.2.2.2:=fun a=>(hr.ord _ (Jbn (hF a).1)).trip.1
 simp only[List.nil_append,rcb,rcS,rcO,rcX,rcQ,Prod.eta]
 repeat' first|exact lfT ‹_›|exact lfN ‹_› ‹_›|exact lfA ‹_› ‹_› (cE.trans (by have hp:=hP ‹_›;clear cE sE hF hP hx hc;simp only[Jl6,Kqf,Jf,Xp,List.nil_append, *,cond_true,cond_false,reduceIte,decide_true,decide_false,Bool.not_true,Bool.not_false,Int.reduceEq,Int.reduceNe,ne_eq,not_false_eq_true,not_true_eq_false];first|done|rfl|decide)) (by first|exact .inl ⟨by decide,rfl⟩|exact .inl ⟨bne_iff_ne.mp ‹_›,rfl⟩|exact .inr ⟨rfl,sE.trans (by first|rfl|(simp only[Fp,List.nil_append];done)|simp only[Fp,Xk (hF ‹_›).1])⟩)|apply And.intro|intro _
 all_goals first|omega|trivial|assumption|exact hP ‹_›|(have:=hF ‹_›;omega)
def Kwk (a:List Ord) (b:Ls):=decide (0≤Kie a b)
def Kv5 (a:List Ord) (b:Ls):=Kwk a b=false
theorem Jqx (tk st:Int) (S:List Sta) (O:List Ord) (M:List Met) (X:List Out) (Q:List Per) (n:Int) (ns:List ByteArray) (vs:List Int) (tx:ByteArray):wpFG Tryz.prog Jsk.g Lw (Xs (none)) (Sx.look ([(225,Tryz.f225),(226,Tryz.f226),(227,Tryz.f227)]:List (Nat×Func))) Tryz.f132 Lv ((tk,st,S,O,M,X,Q),(n,Vo,ns,vs,tx),()):=by
 refine(by kernel_rfl:(Jt tk st S O M X Q→Jca X→Z50 M→Jb (Z3 n ns vs tx)=0→Lb Vo Jz=false→Z97 vs∧Br (Jhx vs tk) (Sf true (Z66 tk st S O M X Q=Yq (Z66 tk st S O M X Q) (Z3 n ns vs tx)∧22=Vm (Z66 tk st S O M X Q) (Z3 n ns vs tx))) (Jsv tk st S O M X Q ns∧Br (Jr (Z66 tk st S O M X Q) Vo ns !=0) (Sf true (Z66 tk st S O M X Q=Yq (Z66 tk st S O M X Q) (Z3 n ns vs tx)∧Jr (Z66 tk st S O M X Q) Vo ns=Vm (Z66 tk st S O M X Q) (Z3 n ns vs tx))) (Jhu S∧Jht O∧Jhw M∧Jhs X∧Jhv Q∧T2 (Z92 ns) (Z56 O)∧T2 (Kfg O ns) (T2 (Kv5 O ns→Kfg O ns) (Tw (Kv5 O ns→Z27 vs)))∧Br (bif Kwk O ns then true else decide ((Kig O ns).2≤U1 vs)) (Z97 vs∧Sf true (Jc7 vs st S O M X Q=Yq (Z66 tk st S O M X Q) (Z3 n ns vs tx)∧23=Vm (Z66 tk st S O M X Q) (Z3 n ns vs tx))) (T2 (Z27 vs) (Kk0 O ns)∧Z97 vs∧Sf true ((U1 vs,st,S,List.set ([]++O) (Int.toNat (Jqp O ns)) (J8m O ns,Kio O ns,Kij O ns,Kd2 O ns,Keb O ns,(Kea O ns).1,U1 vs),M,X,Q)=Yq (Z66 tk st S O M X Q) (Z3 n ns vs tx)∧0=Vm (Z66 tk st S O M X Q) (Z3 n ns vs tx))))))=_).mp ?_
 delta Z3 Z27 Z50 Z56 Z66 Z70 Z87 Z92 Z97 U1 Jt Jqp Jhx Jhw Jhv Jhu Jht Jhs Jc7 Jgd Kfg Kk0 Jsv Kis Kir J8m Kio Kin Kik Kij Kii Kig Keb Kea Kie Kd2 Kwk Kv5 Br Bd T2 Tw Sf Ln Gt B0 Lb E2 Vo Jz
 intro hr hu hm hc _
 obtain⟨hn,hv,nS,nO,nX,nQ,hx⟩:=Jxz hr hc
 simp only[Vp,List.length_cons,List.length_nil] at hn hv nS nO nX nQ hx
 have cE:ckS (tk,st,S,O,M,X,Q) (n,Vo,ns,vs,tx)=Jcs O ns vs:=by simp only[ckS,Vp]
 have sE:Jp (tk,st,S,O,M,X,Q) (n,Vo,ns,vs,tx)=(vs.getD 0 0,(Fj (tk,st,S,O,M,X,Q) (n,Vo,ns,vs,tx)).2):=by simp only[Jp,doS,Vp]
 have hF:(Jr (tk,st,S,O,M,X,Q) Vo ns !=0)=false→(0≤Ku O (ns.getD 0 Ja)∧Ku O (ns.getD 0 Ja)<O.length):=fun a=>by
  have z:=fcN a
  rw[Vp] at z
  obtain⟨k0,z⟩:=Jm z
  exact⟨J2e (k0 rfl),Uy⟩
 have hP:(Jr (tk,st,S,O,M,X,Q) Vo ns !=0)=false→((Xy O (ns.getD 0 Ja)).2.2.2.2.2.2 != -1)=decide (0≤(Xy O (ns.getD 0 Ja)).2.2.2.2.2.2):=fun a=>by
  have h: -1≤(Xy O (ns.getD 0 Ja)).2.2.2.2.2.2:=(hr.ord _ (Jbn (hF a).1)).trip.1
  by_cases q:0≤(Xy O (ns.getD 0 Ja)).2.2.2.2.2.2
  ·rw[decide_eq_true q];exact bne_iff_ne.mpr (by omega)
  ·rw[decide_eq_false q];exact bne_eq_false_iff_eq.mpr (by omega)
 simp only[List.nil_append,rcb,rcS,rcO,rcX,rcQ,Prod.eta]
 repeat' first|exact lfT ‹_›|exact lfN ‹_› ‹_›|exact lfA ‹_› ‹_› (cE.trans (by have hp:=hP ‹_›;clear cE sE hF hP hx hc;simp only[Jcs,Xp,List.nil_append, *,cond_true,cond_false,reduceIte,decide_true,decide_false,Bool.not_true,Bool.not_false,Int.reduceEq,Int.reduceNe,ne_eq,not_false_eq_true,not_true_eq_false];first|done|rfl|decide)) (by first|exact .inl ⟨by decide,rfl⟩|exact .inl ⟨bne_iff_ne.mp ‹_›,rfl⟩|exact .inr ⟨rfl,sE.trans (by first|rfl|simp only[Fj,List.nil_append]|simp only[Fj,Xk (hF ‹_›).1])⟩)|apply And.intro|intro _
 all_goals first|omega|trivial|assumption|exact hP ‹_›|(have:=hF ‹_›;omega)
abbrev Jfz (tk st:Int) (S:List Sta) (O:List Ord) (M:List Met) (X:List Out) (Q:List Per) (n:Int) (ns:List ByteArray) (vs:List Int) (tx:ByteArray):Ann:={X:=Nat,σ:=fun k=>⟨30,[(2, .one (.ptr 25 0)),(3, .one (.ptr 26 0)),(4, .one (.ptr 27 0)),(6, .one (.sl 6)),(7, .one (.ptr 28 0)),(8, .one (.int .i64 (vs.getD 1 0+k)))],[(5, .imm 9 .str ns),(6, .imm 3 sI vs),(8, .box 67 [.int .i64 n, .str Jv, .sl 5, .sl 6, .str tx]),(9, .box 37 J1t),(23, .box 37 [.int .i64 tk, .int .i64 st, .sl 14, .sl 16, .sl 18, .sl 20, .sl 22]),(24, .sus [(3, .one (.ptr 8 0)),(4, .one (.ptr 9 0)),(7, .one (.ptr 23 0))]),(25, .box 37 [.int .i64 tk, .int .i64 st, .sl 14, .sl 16, .sl 18, .sl 20, .sl 22]),(26, .box 67 [.int .i64 n, .str Jv, .sl 5, .sl 6, .str tx]),(27, .box 37 J1t),(28, .box 117 [.int .i64 (vs.getD 1 0), .int .i64 (vs.getD 2 0)]),(14, .own 114 Dp S),(16, .own 119 Hm O),(18, .own 121 Fb M),(20, .own 123 X4 X),(22, .own 125 Zw Q)]⟩,inv:=fun k=>k≤(vs.getD 2 0-vs.getD 1 0).toNat∧He (Vt (n,Jv,ns,vs,tx)) (fun h=>decide (vs.getD 3 0<U9 O (ns.getD 1 Ja) h))=Jr9 (fun h=>decide (vs.getD 3 0<U9 O (ns.getD 1 Ja) h)) (vs.getD 1 0+k) ((vs.getD 2 0-vs.getD 1 0).toNat-k),mu:=fun k=>(vs.getD 2 0-vs.getD 1 0).toNat-k}
def Ken (a:Li) (b:Int) (c:List Sta) (d:List Ord) (e:List Met) (f:List Out) (g:List Per) (h i:Int) (j:Ls) (k:Bt):=Jc7 a b c d e f g=Yq (Z66 h b c d e f g) (Z19 i j a k)
def Kgr (a:Nat) (b:Li) (c:Int) (d:Ls) (e:Bt) (f:List Ord):=Kkx a b∧(He (Vt (Z19 c d b e)) fun(h:Int)=>decide (Z85 b<U9 f (Jj2 d) h))=Jr9 (fun(h:Int)=>decide (Z85 b<U9 f (Jj2 d) h)) (Jsx b a) (J8x b a)
def J7w (a:Ls) (b:Li) (c:Int) (d:Bt) (e f:Int) (g:List Sta) (h:List Ord) (i:List Met) (j:List Out) (k:List Per):=Sf a (Sf b (Si c (Sf Jv (Sf d (Si 0 (Si 0 (Sf Vk (Sf Vk (Sf Vk (Sf Vk (Sf Vk (Si e (Si f (Si e (Si f (Si c (Sf Jv (Kgs d b g h i j k))))))))))))))))))
theorem Jke (tk st:Int) (S:List Sta) (O:List Ord) (M:List Met) (X:List Out) (Q:List Per) (n:Int) (ns:List ByteArray) (vs:List Int) (tx:ByteArray):wpFG Tryz.prog Jsk.g Lw (Xs (some (Jfz tk st S O M X Q n ns vs tx))) (Sx.look ([(225,Tryz.f225),(226,Tryz.f226),(227,Tryz.f227)]:List (Nat×Func))) Tryz.f132 Lv ((tk,st,S,O,M,X,Q),(n,Jv,ns,vs,tx),()):=by
 refine(by kernel_rfl:(Jt tk st S O M X Q→Jca X→Z50 M→Jb (Z19 n ns vs tx)=0→Lb Jv Jz=false→Z97 vs∧Br (Jhx vs tk) (Sf true (Z66 tk st S O M X Q=Yq (Z66 tk st S O M X Q) (Z19 n ns vs tx)∧22=Vm (Z66 tk st S O M X Q) (Z19 n ns vs tx))) ((Jt tk st S O M X Q∧Sf true (Jqq ns))∧Br (Jr (Z66 tk st S O M X Q) Jv ns !=0) (Sf true (Z66 tk st S O M X Q=Yq (Z66 tk st S O M X Q) (Z19 n ns vs tx)∧Jr (Z66 tk st S O M X Q) Jv ns=Vm (Z66 tk st S O M X Q) (Z19 n ns vs tx))) (Jhu S∧Jht O∧Jhw M∧Jhs X∧Jhv Q∧J85 vs∧Khe vs∧Br (Kjr vs) (Z97 vs∧Sf true (Ken vs st S O M X Q tk n ns tx∧14=Vm (Z66 tk st S O M X Q) (Z19 n ns vs tx))) (T2 (Z31 vs) (T2 (Z93 ns) (Z55 S∧Tw (Bd (Jyg S ns) (Ln ([]++S)))))∧Br (decide ((Gt ([]++S) (Jyg S ns) Z10).2.1≤Z85 vs)) (Z97 vs∧Sf true (Ken vs st S O M X Q tk n ns tx∧3=Vm (Z66 tk st S O M X Q) (Z19 n ns vs tx))) (∃(x:Nat),(Kk2 vs x∧J7w ns vs n tx tk st S O M X Q)∧Kgr x vs n ns tx O∧∀(x:Nat),Kgr x vs n ns tx O→Br (Kkm vs x) (T2 (Z93 ns) (Jt tk st S O M X Q∧Z86 vs)∧Br (decide (Z85 vs<U9 O (H9 ns) (Jsx vs x))) (Z97 vs∧Sf true (Ken vs st S O M X Q tk n ns tx∧24=Vm (Z66 tk st S O M X Q) (Z19 n ns vs tx))) (Iw (Kfm vs x)∧∃(y:Nat),(Kjs vs x y∧J7w ns vs n tx tk st S O M X Q)∧Kgr y vs n ns tx O∧Khz vs y x)) (Br (decide (16≤Ln X)) (Z97 vs∧Sf true (Ken vs st S O M X Q tk n ns tx∧5=Vm (Z66 tk st S O M X Q) (Z19 n ns vs tx))) (T2 (Z92 ns) (T2 (Z93 ns) (Kku vs X))∧Z97 vs∧Sf true ((U1 vs,st,S,O,M,X++[(Z87 ns,H9 ns,J82 vs,Z85 vs)],Q)=Yq (Z66 tk st S O M X Q) (Z19 n ns vs tx)∧0=Vm (Z66 tk st S O M X Q) (Z19 n ns vs tx)))))))))=_).mp ?_
 delta Z10 Z19 Z25 Z27 Z31 Z32 Z50 Z55 Z66 Z85 Z86 Z87 Z89 Z90 Z92 Z93 Z97 U1 H9 Jj2 Jqq Jt Vk Jyg Jsx Jhx Jhw Jhv Jhu Jht Jhs Kfm Jc7 J85 J82 Kk7 Kk2 Kkx J8x Kku Kkm Kjs Kjr Ken Khz Khe Kgs Kgr J7w Br Iw Bd T2 Tw Sf Si Ln Nc Gt B0 Lb Jv Jz
 intro hr hu hm hc _
 obtain⟨hn,hv,nS,nO,nX,nQ,hx⟩:=Jxz hr hc
 simp only[Kt,List.length_cons,List.length_nil] at hn hv nS nO nX nQ hx
 have cE:ckS (tk,st,S,O,M,X,Q) (n,Jv,ns,vs,tx)=Jb3 S O X (n,Jv,ns,vs,tx):=by simp only[ckS,Kt]
 have sE:Jp (tk,st,S,O,M,X,Q) (n,Jv,ns,vs,tx)=(vs.getD 0 0,(Fm (tk,st,S,O,M,X,Q) (n,Jv,ns,vs,tx)).2):=by simp only[Jp,doS,Kt]
 have hF:(Jr (tk,st,S,O,M,X,Q) Jv ns !=0)=false→(0≤Jx S (ns.getD 1 Ja)∧Jx S (ns.getD 1 Ja)<S.length):=fun a=>by
  have z:=fcN a
  rw[Kt] at z
  obtain⟨k0,z⟩:=Jm z
  obtain⟨k1,z⟩:=Jm z
  exact⟨Jr0 (k1 rfl),Kz⟩
 have v1:=hx 1 (by omega)
 have v2:=hx 2 (by omega)
 have v3:=hx 3 (by omega)
 have pE:Zc (n,Jv,ns,vs,tx)=bif Kb9 (vs.getD 0 0) (vs.getD 1 0) (vs.getD 2 0) then 14 else 0:=rfl
 simp only[List.nil_append,rcb,rcS,rcO,rcX,rcQ,Prod.eta]
 repeat' first|exact lfT ‹_›|exact lfN ‹_› ‹_›|exact lfA ‹_› ‹_› (cE.trans (by clear cE sE hF hx hc;simp only[Jb3,Jhm,Jf,Xp,List.nil_append, *,cond_true,cond_false,reduceIte,decide_true,decide_false,Bool.not_true,Bool.not_false,Int.reduceEq,Int.reduceNe,ne_eq,not_false_eq_true,not_true_eq_false];first|done|rfl|decide)) (by first|exact .inl ⟨by decide,rfl⟩|exact .inl ⟨bne_iff_ne.mp ‹_›,rfl⟩|exact .inr ⟨rfl,sE.trans (by first|rfl|(simp only[Fm,List.nil_append];done)|simp only[Fm,Xk (hF ‹_›).1])⟩)|(refine⟨(0:Nat),by(repeat' first|exact rfl|exact⟨⟩|apply And.intro|omega|dsimp only;omega),⟨Nat.zero_le _,by simp[He,Vt,Jve]⟩,fun(k:Nat) hk=>⟨fun h1=> ?_,fun h1=> ?_⟩⟩;obtain⟨k1,k2⟩:=hk;replace h1:=of_decide_eq_true h1;rw[Jp8 (by omega)] at k2;skip;rotate_left;obtain⟨k1,k2⟩:=hk;replace h1:=of_decide_eq_false h1;rw[Jp9 (by omega)] at k2)|(refine⟨(k+1:Nat),by(repeat' first|exact rfl|exact⟨⟩|apply And.intro|omega|dsimp only;omega),⟨by omega, ?_⟩,by omega⟩;rw[k2,show decide (vs.getD 3 0<U9 O (ns.getD 1 Ja) (vs.getD 1 0+k))=false from ‹_›];rfl)|apply And.intro|intro _
 all_goals first|omega|trivial|assumption|(have:=hF ‹_›;omega)
def Kzm (a:List Out) (b:Ls):=Gt ([]++a) (Jsy a b) Jc9
def Kzg (a:List Out) (b:Ls) (c:Li):=T2 (Bd (Jsy a b) (Ln ([]++a))) (Z97 c)
def Kze (a:List Out) (b:Ls):=(Kzm a b).2
def Ky7 (a:List Out) (b:Ls):=(Kze a b).2
def Ky5 (a:List Out) (b:Ls):=(Ky7 a b).1
def Ky0 (a:List Out) (b:Ls):=(Ky5 a b).1
theorem Jh4 (tk st:Int) (S:List Sta) (O:List Ord) (M:List Met) (X:List Out) (Q:List Per) (n:Int) (ns:List ByteArray) (vs:List Int) (tx:ByteArray):wpFG Tryz.prog Jsk.g Lw (Xs (none)) (Sx.look ([(225,Tryz.f225),(226,Tryz.f226),(227,Tryz.f227)]:List (Nat×Func))) Tryz.f132 Lv ((tk,st,S,O,M,X,Q),(n,Jq,ns,vs,tx),()):=by
 refine(by kernel_rfl:(Jt tk st S O M X Q→Jca X→Z50 M→Jb (Z30 n ns vs tx)=0→Lb Jq Jz=false→Z97 vs∧Br (Jhx vs tk) (Sf true (Z66 tk st S O M X Q=Yq (Z66 tk st S O M X Q) (Z30 n ns vs tx)∧22=Vm (Z66 tk st S O M X Q) (Z30 n ns vs tx))) (Jsv tk st S O M X Q ns∧Br (Jr (Z66 tk st S O M X Q) Jq ns !=0) (Sf true (Z66 tk st S O M X Q=Yq (Z66 tk st S O M X Q) (Z30 n ns vs tx)∧Jr (Z66 tk st S O M X Q) Jq ns=Vm (Z66 tk st S O M X Q) (Z30 n ns vs tx))) (Jhu S∧Jht O∧Jhw M∧Jhs X∧Jhv Q∧T2 (Z92 ns) (Z54 X)∧Kzg X ns vs∧Br (decide (U1 vs≤Ky0 X ns)) (Z97 vs∧Sf true (Jc7 vs st S O M X Q=Yq (Z66 tk st S O M X Q) (Z30 n ns vs tx)∧21=Vm (Z66 tk st S O M X Q) (Z30 n ns vs tx))) (Kzg X ns vs∧Br (decide ((Ky5 X ns).2≤U1 vs)) (Z97 vs∧Sf true (Jc7 vs st S O M X Q=Yq (Z66 tk st S O M X Q) (Z30 n ns vs tx)∧23=Vm (Z66 tk st S O M X Q) (Z30 n ns vs tx))) (T2 (Z92 ns) (Z45 Q)∧Br (Ya Q (Z87 ns)) (Z97 vs∧Sf true (Jc7 vs st S O M X Q=Yq (Z66 tk st S O M X Q) (Z30 n ns vs tx)∧32=Vm (Z66 tk st S O M X Q) (Z30 n ns vs tx))) (T2 (Z27 vs) (Tw (Bd (Jsy X ns) (Ln ([]++X))))∧Z97 vs∧Sf true ((U1 vs,st,S,O,M,List.set ([]++X) (Int.toNat (Jsy X ns)) ((Kzm X ns).1,(Kze X ns).1,(Ky0 X ns,U1 vs),(Ky7 X ns).2),Q)=Yq (Z66 tk st S O M X Q) (Z30 n ns vs tx)∧0=Vm (Z66 tk st S O M X Q) (Z30 n ns vs tx))))))))=_).mp ?_
 delta Z27 Z30 Z45 Z50 Z54 Z66 Z87 Z92 Z97 U1 Jt Jc9 Jsy Jhx Jhw Jhv Jhu Jht Jhs Jc7 Jsv Kzm Kzg Kze Ky7 Ky5 Ky0 Br Bd T2 Tw Sf Ln Gt B0 Lb Jq Jz
 intro hr hu hm hc _
 obtain⟨hn,hv,nS,nO,nX,nQ,hx⟩:=Jxz hr hc
 simp only[Kj,List.length_cons,List.length_nil] at hn hv nS nO nX nQ hx
 have cE:ckS (tk,st,S,O,M,X,Q) (n,Jq,ns,vs,tx)=Jct X Q ns vs:=by simp only[ckS,Kj]
 have sE:Jp (tk,st,S,O,M,X,Q) (n,Jq,ns,vs,tx)=(vs.getD 0 0,(Fl (tk,st,S,O,M,X,Q) (n,Jq,ns,vs,tx)).2):=by simp only[Jp,doS,Kj]
 have hF:(Jr (tk,st,S,O,M,X,Q) Jq ns !=0)=false→(0≤J5 X (ns.getD 0 Ja)∧J5 X (ns.getD 0 Ja)<X.length):=fun a=>by
  have z:=fcN a
  rw[Kj] at z
  obtain⟨k0,z⟩:=Jm z
  exact⟨J2d (k0 rfl),Uo⟩
 have hP:(Jr (tk,st,S,O,M,X,Q) Jq ns !=0)=false→decide ((0:Int)<((L2 Q).filter fun p=>p.2.1.toList==(L1 X (ns.getD 0 Ja)).1.toList).length)=Ya Q (ns.getD 0 Ja):=fun a=>by rw[Jla (hF a).1];rfl
 simp only[List.nil_append,rcb,rcS,rcO,rcX,rcQ,Prod.eta]
 repeat' first|exact lfT ‹_›|exact lfN ‹_› ‹_›|exact lfA ‹_› ‹_› (cE.trans (by have hp:=hP ‹_›;clear cE sE hF hP hx hc;simp only[Jct,Jf,Xp,List.nil_append, *,cond_true,cond_false,reduceIte,decide_true,decide_false,Bool.not_true,Bool.not_false,Int.reduceEq,Int.reduceNe,ne_eq,not_false_eq_true,not_true_eq_false];first|done|rfl|decide)) (by first|exact .inl ⟨by decide,rfl⟩|exact .inl ⟨bne_iff_ne.mp ‹_›,rfl⟩|exact .inr ⟨rfl,sE.trans (by first|rfl|simp only[Fl,List.nil_append]|simp only[Fl,Xk (hF ‹_›).1])⟩)|apply And.intro|intro _
 all_goals first|omega|trivial|assumption|exact hP ‹_›|(have:=hF ‹_›;omega)
theorem Jkd (tk st:Int) (S:List Sta) (O:List Ord) (M:List Met) (X:List Out) (Q:List Per) (n:Int) (ns:List ByteArray) (vs:List Int) (tx:ByteArray):wpFG Tryz.prog Jsk.g Lw (Xs (none)) (Sx.look ([(225,Tryz.f225),(226,Tryz.f226),(227,Tryz.f227)]:List (Nat×Func))) Tryz.f132 Lv ((tk,st,S,O,M,X,Q),(n,Kb,ns,vs,tx),()):=by
 refine(by kernel_rfl:(Jt tk st S O M X Q→Jca X→Z50 M→Jb (Z16 n ns vs tx)=0→Lb Kb Jz=false→Z97 vs∧Br (Jhx vs tk) (Sf true (Z66 tk st S O M X Q=Yq (Z66 tk st S O M X Q) (Z16 n ns vs tx)∧22=Vm (Z66 tk st S O M X Q) (Z16 n ns vs tx))) ((Jt tk st S O M X Q∧Sf true (Jqq ns))∧Br (Jr (Z66 tk st S O M X Q) Kb ns !=0) (Sf true (Z66 tk st S O M X Q=Yq (Z66 tk st S O M X Q) (Z16 n ns vs tx)∧Jr (Z66 tk st S O M X Q) Kb ns=Vm (Z66 tk st S O M X Q) (Z16 n ns vs tx))) (Jhu S∧Jht O∧Jhw M∧Jhs X∧Jhv Q∧T2 (Z93 ns) (Z54 X∧T2 (Bd (J5 X (H9 ns)) (Ln ([]++X))) (Z97 vs))∧Br (!Ko (E2 (Gt ([]++X) (J5 X (H9 ns)) Jc9).2.2.1) (U1 vs)) (Z97 vs∧Sf true (Jc7 vs st S O M X Q=Yq (Z66 tk st S O M X Q) (Z16 n ns vs tx)∧22=Vm (Z66 tk st S O M X Q) (Z16 n ns vs tx))) (Br (decide (16≤Ln ([]++Q))) (Z97 vs∧Sf true (Jc7 vs st S O M X Q=Yq (Z66 tk st S O M X Q) (Z16 n ns vs tx)∧5=Vm (Z66 tk st S O M X Q) (Z16 n ns vs tx))) (Kiz ns Q∧Z97 vs∧Sf true ((U1 vs,st,S,O,M,Kj1 X Q ns)=Yq (Z66 tk st S O M X Q) (Z16 n ns vs tx)∧0=Vm (Z66 tk st S O M X Q) (Z16 n ns vs tx)))))))=_).mp ?_
 delta Z16 Z27 Z50 Z54 Z66 Z87 Z92 Z93 Z97 U1 H9 Jqq Jt Jc9 Jhx Jhw Jhv Jhu Jht Jhs Jc7 Kj1 Kiz Br Bd T2 Tw Sf Ln Gt B0 Lb E2 Kb Jz
 intro hr hu hm hc _
 obtain⟨hn,hv,nS,nO,nX,nQ,hx⟩:=Jxz hr hc
 simp only[K4,List.length_cons,List.length_nil] at hn hv nS nO nX nQ hx
 have cE:ckS (tk,st,S,O,M,X,Q) (n,Kb,ns,vs,tx)=Jcu X Q ns vs:=by simp only[ckS,K4]
 have sE:Jp (tk,st,S,O,M,X,Q) (n,Kb,ns,vs,tx)=(vs.getD 0 0,(Fn (tk,st,S,O,M,X,Q) (n,Kb,ns,vs,tx)).2):=by simp only[Jp,doS,K4]
 have hF:(Jr (tk,st,S,O,M,X,Q) Kb ns !=0)=false→(0≤J5 X (ns.getD 1 Ja)∧J5 X (ns.getD 1 Ja)<X.length):=fun a=>by
  have z:=fcN a
  rw[K4] at z
  obtain⟨k0,z⟩:=Jm z
  obtain⟨k1,z⟩:=Jm z
  exact⟨J2d (k1 rfl),Uo⟩
 simp only[List.nil_append,rcb,rcS,rcO,rcX,rcQ,Prod.eta]
 repeat' first|exact lfT ‹_›|exact lfN ‹_› ‹_›|exact lfA ‹_› ‹_› (cE.trans (by clear cE sE hF hx hc;simp only[Jcu,Jf,Xp,List.nil_append, *,cond_true,cond_false,reduceIte,decide_true,decide_false,Bool.not_true,Bool.not_false,Int.reduceEq,Int.reduceNe,ne_eq,not_false_eq_true,not_true_eq_false];first|done|rfl|decide)) (by first|exact .inl ⟨by decide,rfl⟩|exact .inl ⟨bne_iff_ne.mp ‹_›,rfl⟩|exact .inr ⟨rfl,sE.trans (by first|rfl|simp only[Fn,List.nil_append]|simp only[Fn,Xk (hF ‹_›).1])⟩)|apply And.intro|intro _
 all_goals first|omega|trivial|assumption|(have:=hF ‹_›;omega)
def K0z (a:List Per) (b:Ls):=Tw (Bd (Jsd a b) (Ln ([]++a)))
def K0q (a:List Per) (b:Ls):=Gt ([]++a) (Jsd a b) (B0,B0,false)
def K0o (a:List Per) (b:Ls):=(K0q a b).2
theorem Jkc (tk st:Int) (S:List Sta) (O:List Ord) (M:List Met) (X:List Out) (Q:List Per) (n:Int) (ns:List ByteArray) (vs:List Int) (tx:ByteArray):wpFG Tryz.prog Jsk.g Lw (Xs (none)) (Sx.look ([(225,Tryz.f225),(226,Tryz.f226),(227,Tryz.f227)]:List (Nat×Func))) Tryz.f132 Lv ((tk,st,S,O,M,X,Q),(n,Ka,ns,vs,tx),()):=by
 refine(by kernel_rfl:(Jt tk st S O M X Q→Jca X→Z50 M→Jb (Z22 n ns vs tx)=0→Lb Ka Jz=false→Z97 vs∧Br (Jhx vs tk) (Sf true (Z66 tk st S O M X Q=Yq (Z66 tk st S O M X Q) (Z22 n ns vs tx)∧22=Vm (Z66 tk st S O M X Q) (Z22 n ns vs tx))) (Jsv tk st S O M X Q ns∧Br (Jr (Z66 tk st S O M X Q) Ka ns !=0) (Sf true (Z66 tk st S O M X Q=Yq (Z66 tk st S O M X Q) (Z22 n ns vs tx)∧Jr (Z66 tk st S O M X Q) Ka ns=Vm (Z66 tk st S O M X Q) (Z22 n ns vs tx))) (Jhu S∧Jht O∧Jhw M∧Jhs X∧Jhv Q∧T2 (Z92 ns) (Z45 Q)∧K0z Q ns∧Br (!(K0o Q ns).2) (Z97 vs∧Sf true (Jc7 vs st S O M X Q=Yq (Z66 tk st S O M X Q) (Z22 n ns vs tx)∧23=Vm (Z66 tk st S O M X Q) (Z22 n ns vs tx))) (K0z Q ns∧Z97 vs∧Sf true ((U1 vs,st,S,O,M,X,List.set ([]++Q) (Int.toNat (Jsd Q ns)) ((K0q Q ns).1,(K0o Q ns).1,false))=Yq (Z66 tk st S O M X Q) (Z22 n ns vs tx)∧0=Vm (Z66 tk st S O M X Q) (Z22 n ns vs tx))))))=_).mp ?_
 delta Z22 Z27 Z45 Z50 Z66 Z87 Z92 Z97 U1 Jt Jsd Jhx Jhw Jhv Jhu Jht Jhs Jc7 K0z K0q K0o Jsv Br Bd T2 Tw Sf Ln Gt B0 Lb Ka Jz
 intro hr hu hm hc _
 obtain⟨hn,hv,nS,nO,nX,nQ,hx⟩:=Jxz hr hc
 simp only[K3,List.length_cons,List.length_nil] at hn hv nS nO nX nQ hx
 have cE:ckS (tk,st,S,O,M,X,Q) (n,Ka,ns,vs,tx)=Jn3 Q ns:=by simp only[ckS,K3]
 have sE:Jp (tk,st,S,O,M,X,Q) (n,Ka,ns,vs,tx)=(vs.getD 0 0,(Jgq (tk,st,S,O,M,X,Q) (n,Ka,ns,vs,tx)).2):=by simp only[Jp,doS,K3]
 have hF:(Jr (tk,st,S,O,M,X,Q) Ka ns !=0)=false→(0≤Uz Q (ns.getD 0 Ja)∧Uz Q (ns.getD 0 Ja)<Q.length):=fun a=>by
  have z:=fcN a
  rw[K3] at z
  obtain⟨k0,z⟩:=Jm z
  exact⟨Kgj (k0 rfl),Ux⟩
 simp only[List.nil_append,rcb,rcS,rcO,rcX,rcQ,Prod.eta]
 repeat' first|exact lfT ‹_›|exact lfN ‹_› ‹_›|exact lfA ‹_› ‹_› (cE.trans (by clear cE sE hF hx hc;simp only[Jn3,Xp,List.nil_append, *,cond_true,cond_false,reduceIte,decide_true,decide_false,Bool.not_true,Bool.not_false,Int.reduceEq,Int.reduceNe,ne_eq,not_false_eq_true,not_true_eq_false];first|done|rfl|decide)) (by first|exact .inl ⟨by decide,rfl⟩|exact .inl ⟨bne_iff_ne.mp ‹_›,rfl⟩|exact .inr ⟨rfl,sE.trans (by first|rfl|simp only[Jgq,List.nil_append]|simp only[Jgq,Xk (hF ‹_›).1])⟩)|apply And.intro|intro _
 all_goals first|omega|trivial|assumption|(have:=hF ‹_›;omega)
abbrev Jfy (tk st:Int) (S:List Sta) (O:List Ord) (M:List Met) (X:List Out) (Q:List Per) (n:Int) (ns:List ByteArray) (vs:List Int) (tx:ByteArray):Ann:={X:=Nat,σ:=fun k=>⟨30,[(2, .one (.ptr 25 0)),(3, .one (.ptr 26 0)),(4, .one (.ptr 27 0)),(6, .one (.sl 6)),(11, .one (.int .i64 k))],[(5, .imm 9 .str ns),(6, .imm 3 sI vs),(8, .box 67 [.int .i64 n, .str Jh, .sl 5, .sl 6, .str tx]),(9, .box 37 J1t),(23, .box 37 [.int .i64 tk, .int .i64 st, .sl 14, .sl 16, .sl 18, .sl 20, .sl 22]),(24, .sus [(3, .one (.ptr 8 0)),(4, .one (.ptr 9 0)),(7, .one (.ptr 23 0))]),(25, .box 37 [.int .i64 tk, .int .i64 st, .sl 14, .sl 16, .sl 18, .sl 20, .sl 22]),(26, .box 67 [.int .i64 n, .str Jh, .sl 5, .sl 6, .str tx]),(27, .box 37 J1t),(14, .imm 114 Dp S),(16, .imm 119 Hm O),(18, .imm 121 Fb M),(20, .imm 123 X4 X),(22, .imm 125 Zw Q)]⟩,inv:=fun k=>k≤X.length∧(X.any fun x=>decide (x.2.2.1.2≤vs.getD 1 0)&&Ya Q x.1)=((X.drop k).any fun x=>decide (x.2.2.1.2≤vs.getD 1 0)&&Ya Q x.1),mu:=fun k=>X.length-k}
def Kzr (a:List Out) (b:Nat) (c:Li):=decide ((J20 a b).1.2≤Z89 c)
def Kyx (a:List Out) (b:Nat) (c:Li):=Kzr a b c=true
def Kha (a:Nat) (b:List Out) (c:Li) (d:List Per):=a≤List.length b∧(List.any b fun(x:Out)=>decide (x.2.2.1.2≤Z89 c)&&Ya d x.1)=List.any (List.drop a b) fun(x:Out)=>decide (x.2.2.1.2≤Z89 c)&&Ya d x.1
def Kuz (a:Li) (b:Int) (c:List Sta) (d:List Ord) (e:List Met) (f:List Out) (g:List Per) (h i:Int) (j:Ls) (k:Bt):=Z97 a∧Sf true (Jc7 a b c d e f g=Yq (Z66 h b c d e f g) (Z17 i j a k)∧32=Vm (Z66 h b c d e f g) (Z17 i j a k))
def Ks2 (a:Ls) (b:Li) (c:Int) (d:Bt) (e f:Int) (g:List Sta) (h:List Ord) (i:List Met) (j:List Out) (k:List Per):=Sf a (Sf b (Si c (Sf Jh (Sf d (Si 0 (Si 0 (Sf Vk (Sf Vk (Sf Vk (Sf Vk (Sf Vk (Si e (Si f (Si e (Si f (Si c (Sf Jh (Sf d (Si 0 (Si 0 (Sf Vk (Sf Vk (Sf Vk (Sf Vk (Sf Vk (Sf g (Sf h (Sf i (Sf j (k=k))))))))))))))))))))))))))))))
theorem Jkb (tk st:Int) (S:List Sta) (O:List Ord) (M:List Met) (X:List Out) (Q:List Per) (n:Int) (ns:List ByteArray) (vs:List Int) (tx:ByteArray):wpFG Tryz.prog Jsk.g Lw (Xs (some (Jfy tk st S O M X Q n ns vs tx))) (Sx.look ([(225,Tryz.f225),(226,Tryz.f226),(227,Tryz.f227)]:List (Nat×Func))) Tryz.f132 Lv ((tk,st,S,O,M,X,Q),(n,Jh,ns,vs,tx),()):=by
 refine(by kernel_rfl:(Jt tk st S O M X Q→Jca X→Z50 M→Jb (Z17 n ns vs tx)=0→Lb Jh Jz=false→Z97 vs∧Br (Jhx vs tk) (Sf true (Z66 tk st S O M X Q=Yq (Z66 tk st S O M X Q) (Z17 n ns vs tx)∧22=Vm (Z66 tk st S O M X Q) (Z17 n ns vs tx))) ((Jt tk st S O M X Q∧Sf true (List.length ns=0))∧Br (Jr (Z66 tk st S O M X Q) Jh ns !=0) (Sf true (Z66 tk st S O M X Q=Yq (Z66 tk st S O M X Q) (Z17 n ns vs tx)∧Jr (Z66 tk st S O M X Q) Jh ns=Vm (Z66 tk st S O M X Q) (Z17 n ns vs tx))) (Jhu S∧Jht O∧Jhw M∧Jhs X∧Jhv Q∧T2 (Z32 vs) (T2 (Kfs vs st=false→Z32 vs) (Kj6 vs st))∧Br (Kip vs st) (Z97 vs∧Sf true (Jc7 vs st S O M X Q=Yq (Z66 tk st S O M X Q) (Z17 n ns vs tx)∧14=Vm (Z66 tk st S O M X Q) (Z17 n ns vs tx))) (T2 (Z32 vs) (Jt tk st S O M X Q)∧Br (decide (0<Ln (Ke M (Z89 vs) O))) (Kuz vs st S O M X Q tk n ns tx) (∃(x:Nat),(0=Nc x∧Ks2 ns vs n tx tk st S O M X Q)∧Kha x X vs Q∧∀(x:Nat),Kha x X vs Q→Br (Js0 x X) (T2 (Z14 x X) (T2 (Z32 vs) (T2 (Kyx X x vs→Z14 x X) (Kyx X x vs→Z45 Q)))∧Br (bif Kzr X x vs then Ya Q (J00 X x) else false) (Kuz vs st S O M X Q tk n ns tx) (Z20 x∧∃(y:Nat),(V5 x y∧Ks2 ns vs n tx tk st S O M X Q)∧Kha y X vs Q∧Jyf X y x)) (Z96 vs∧Z97 vs∧Sf true ((U1 vs,Z89 vs,S,O,M,X,Q)=Yq (Z66 tk st S O M X Q) (Z17 n ns vs tx)∧0=Vm (Z66 tk st S O M X Q) (Z17 n ns vs tx))))))))=_).mp ?_
 delta Z14 Z17 Z20 Z27 Z32 Z45 Z50 Z66 Z89 Z96 Z97 V5 Js0 U1 Jt Vk Jc9 Kfs Jhx Jyf Jhw Jhv Jhu Jht Jhs J01 Jc7 J00 J20 Kj6 Kzr Kyx Kip Kha Kuz Ks2 Br Iw Bd T2 Tw Sf Si Ln Nc B0 Lb Jh Jz
 intro hr hu hm hc _
 obtain⟨hn,hv,nS,nO,nX,nQ,hx⟩:=Jxz hr hc
 simp only[Us,List.length_cons,List.length_nil] at hn hv nS nO nX nQ hx
 have cE:ckS (tk,st,S,O,M,X,Q) (n,Jh,ns,vs,tx)=Lu st O M X Q vs:=by simp only[ckS,Us]
 have sE:Jp (tk,st,S,O,M,X,Q) (n,Jh,ns,vs,tx)=(vs.getD 0 0,(Jax (tk,st,S,O,M,X,Q) (n,Jh,ns,vs,tx)).2):=by simp only[Jp,doS,Us]
 have lE:=J4c (Q:=Q) (u:=vs.getD 1 0) hu hr.per
 have v1:=hx 1 (by omega)
 simp only[List.nil_append,rcb,rcS,rcO,rcX,rcQ,Prod.eta]
 repeat' first|exact lfT ‹_›|exact lfN ‹_› ‹_›|exact lfA ‹_› ‹_› (cE.trans (by clear cE sE hx hc;simp only[Lu,Bool.true_or,Bool.false_or,Xp,List.nil_append, *,cond_true,cond_false,reduceIte,decide_true,decide_false,Bool.not_true,Bool.not_false,Int.reduceEq,Int.reduceNe,ne_eq,not_false_eq_true,not_true_eq_false];first|done|rfl|decide)) (by first|exact .inl ⟨by decide,rfl⟩|exact .inl ⟨bne_iff_ne.mp ‹_›,rfl⟩|exact .inr ⟨rfl,sE.trans (by first|rfl|simp only[Jax,List.nil_append])⟩)|(refine⟨(0:Nat),by(repeat' first|exact rfl|exact⟨⟩|apply And.intro|omega|dsimp only;omega),⟨Nat.zero_le _,rfl⟩,fun(k:Nat) hk=>⟨fun h1=> ?_,fun h1=> ?_⟩⟩;obtain⟨k1,k2⟩:=hk;replace h1:=of_decide_eq_true h1;rw[Js (d:=(Ja,Ja,(0,0),0)) (by omega),List.any_cons] at k2;rw[K6n] at k2;rotate_left;obtain⟨k1,k2⟩:=hk;replace h1:=of_decide_eq_false h1;rw[List.drop_eq_nil_of_le (by omega),List.any_nil] at k2)|(refine⟨(k+1:Nat),by(repeat' first|exact rfl|exact⟨⟩|apply And.intro|omega|dsimp only;omega),⟨by omega, ?_⟩,by omega⟩;rw[k2,show(bif decide ((X.getD k (Ja,Ja,(0,0),0)).2.2.1.2≤vs.getD 1 0) then Ya Q (X.getD k (Ja,Ja,(0,0),0)).1 else false)=false from ‹_›];rfl)|apply And.intro|intro _
 all_goals first|omega|trivial|assumption
def Jsn (k:ByteArray):Nat:=if k=Jv then 1 else if k=Kk then 2 else if k=Jh then 3 else 0
def Jwy (tk st:Int) (S:List Sta) (O:List Ord) (M:List Met) (X:List Out) (Q:List Per) (n:Int) (ns:List ByteArray) (vs:List Int) (tx:ByteArray):Nat→Option Ann
 |1=>some (Jfz tk st S O M X Q n ns vs tx)
 |2=>some (Jhq tk st S O M X Q n ns vs tx)
 |3=>some (Jfy tk st S O M X Q n ns vs tx)
 |_=>none
def Jwz:ATup [X2,aEv]→Option Ann
 |((tk,st,S,O,M,X,Q),(n,k,ns,vs,tx),())=>Jwy tk st S O M X Q n ns vs tx (Jsn k)
theorem Jyt {Γ:Gam} {ann:Nat→Option Ann} {annF:FuncId→Nat→Option Ann} {lib:FuncId→Option Func} {fn:Func} {c:Con} {x:ATup c.args} (hb:fn.body.isSome=true) (h:Ul (c.pre x)→wpFG Tryz.prog Γ ann annF lib fn c x):wpFG Tryz.prog Γ ann annF lib fn c x:=by
 unfold wpFG at h⊢
 cases hc:fn.body with
 |none=>rw[hc] at hb;cases hb
 |some code=>
  rw[hc] at h
  exact Jas h
theorem Fa {tk st:Int} {S:List Sta} {O:List Ord} {M:List Met} {X:List Out} {Q:List Per} {n:Int} {k:ByteArray} {ns:List ByteArray} {vs:List Int} {tx:ByteArray} {i:Nat} (h:Jsn k=i):Jwz ((tk,st,S,O,M,X,Q),(n,k,ns,vs,tx),())=Jwy tk st S O M X Q n ns vs tx i:=by rw[←h];rfl
theorem Kmo:∀x:ATup [X2,aEv],wpFG Tryz.prog Jsk.g Lw (Xs (Jwz x)) (Sx.look ([(225,Tryz.f225),(226,Tryz.f226),(227,Tryz.f227)]:List (Nat×Func))) Tryz.f132 Lv x
 | ((tk, st, S, O, M, X, Q), (n, k, ns, vs, tx), ()) => by
  refine Jyt (by kernel_rfl) fun hp=> ?_
  have hc:Jb (n,k,ns,vs,tx)=0:=hp.2.2.2.1
  rcases Vd (Uj hc).kind with h|h|h|h|h|h|h|h|h|h|h<;>dsimp only at h<;>subst h
  ·have h4:(Jz.toList==Jz.toList)=false:=hp.2.2.2.2
   rw[show(Jz.toList==Jz.toList)=true from by kernel_rfl] at h4
   cases h4
  ·rw[Fa (show Jsn Ju=0 from by kernel_rfl)];exact Jh3 tk st S O M X Q n ns vs tx
  ·rw[Fa (show Jsn K7=0 from by kernel_rfl)];exact Jmn tk st S O M X Q n ns vs tx
  ·rw[Fa (show Jsn Kk=2 from by kernel_rfl)];exact Jmo tk st S O M X Q n ns vs tx
  ·rw[Fa (show Jsn K0=0 from by kernel_rfl)];exact Jmp tk st S O M X Q n ns vs tx
  ·rw[Fa (show Jsn Vo=0 from by kernel_rfl)];exact Jqx tk st S O M X Q n ns vs tx
  ·rw[Fa (show Jsn Jv=1 from by kernel_rfl)];exact Jke tk st S O M X Q n ns vs tx
  ·rw[Fa (show Jsn Jq=0 from by kernel_rfl)];exact Jh4 tk st S O M X Q n ns vs tx
  ·rw[Fa (show Jsn Kb=0 from by kernel_rfl)];exact Jkd tk st S O M X Q n ns vs tx
  ·rw[Fa (show Jsn Ka=0 from by kernel_rfl)];exact Jkc tk st S O M X Q n ns vs tx
  ·rw[Fa (show Jsn Jh=3 from by kernel_rfl)];exact Jkb tk st S O M X Q n ns vs tx
theorem Kpr:Ok Tryz.prog 132 Lv:=Jeo mixed Jsk.ok (by kernel_rfl) (by kernel_rfl) (U6 (l:=([(225,Tryz.f225),(226,Tryz.f226),(227,Tryz.f227)]:List (Nat×Func))) (List.forall_mem_cons.2 ⟨by kernel_rfl,List.forall_mem_cons.2 ⟨by kernel_rfl,List.forall_mem_cons.2 ⟨by kernel_rfl,by simp⟩⟩⟩)) (fun _=>Lw) (fun xx=>Xs (Jwz xx)) fun xx=>Kmo xx
abbrev K2b:=Jsk.add Kpr
theorem J51 {h:Kn} {e:Ev} (h1:e.1=(h.1.length:Int)+1) (h2:(e.2.1.toList==Jz.toList)=false):L5 h e=Vm (Kc h.2.2) e:=by
 unfold L5 Vm Jr
 rw[bne_eq_false_iff_eq.2 h1,h2]
 dsimp only[cond_false]
 cases h3:decide (e.2.2.2.1.getD 0 0<(Kc h.2.2).1) with
 |true=>rw[if_pos rfl];rfl
 | false =>
  rw[if_neg (by simp)]
  cases h4:Ki (Kc h.2.2) e.2.2.1 (Ji e.2.1).1 0 with
  |true=>rw[if_pos (by simp)];rfl
  |false=>
   cases h5:Ks (Kc h.2.2) e.2.2.1 (Ji e.2.1).1 0 with
   |true=>rw[if_pos (by simp)];rfl
   |false=>rw[if_neg (by simp)];rfl
theorem J0w {r:Reg} {e:Ev} (h:Vm r e=0):Yq r e=Jp r e:=by
 unfold Vm at h
 unfold Yq
 by_cases a:decide (e.2.2.2.1.getD 0 0<r.1)=true
 ·rw[if_pos a] at h;exact absurd h (by decide)
 rw[if_neg a] at h⊢
 by_cases b:Jr r e.2.1 e.2.2.1≠0
 ·rw[if_pos b] at h;exact absurd h b
 rw[if_neg b] at h⊢
 rw[if_neg (by rw[h];simp)]
def Jok (h:Kn):Prop:=∀r∈h.2.2,Jca r.2.2.2.2.2.1
theorem Jui {h:Kn} (hu:Jok h):Jca (Kc h.2.2).2.2.2.2.2.1:=by
 unfold Kc
 by_cases h0:0<h.2.2.length
 ·exact hu _ (Jc (by omega))
 ·have:h.2.2=[]:=List.eq_nil_of_length_eq_zero (by omega)
  rw[this];exact List.nodup_nil
theorem Jyw {r:Reg} {e:Ev} (hu:Jca r.2.2.2.2.2.1) (hk:Ys e.2.1=true) (h1:Ki r e.2.2.1 (Ji e.2.1).1 0=false) (h2:Ks r e.2.2.1 (Ji e.2.1).1 0=false):Jca (Jp r e).2.2.2.2.2.1:=by
 obtain⟨tk,st,S,O,M,X,Q⟩:=r
 obtain⟨n,k,ns,vs,tx⟩:=e
 have hu:Jca X:=hu
 dsimp only at hk h1 h2
 rcases Vd hk with h|h|h|h|h|h|h|h|h|h|h<;>subst h
 ·simp only[Jp,doS,Jbs];exact hu
 ·simp only[Jp,doS,K6];exact hu
 ·simp only[Jp,doS,Vb];exact hu
 ·simp only[Jp,doS,Uu];exact hu
 ·simp only[Jp,doS,Uv];exact hu
 ·simp only[Jp,doS,Vp];exact hu
 ·rw[Kt] at h2
  unfold Ks at h2
  have h3:Vf (tk,st,S,O,M,X,Q) 2 (ns.getD 0 Ja)=false:=by
   cases q:Vf (tk,st,S,O,M,X,Q) 2 (ns.getD 0 Ja) with
   |false=>rfl
   |true=>rw[q] at h2;cases h2
  rw[Je7] at h3
  have h3:=of_decide_eq_false h3
  simp only[Jp,doS,Kt]
  exact Jq4 hu (by dsimp only at h3⊢;omega)
 ·rw[Kj] at h1
  have h3:=J2d ((Jm h1).1 rfl)
  simp only[Jp,doS,Kj]
  exact J3h hu h3
 ·simp only[Jp,doS,K4];exact hu
 ·simp only[Jp,doS,K3];exact hu
 ·simp only[Jp,doS,Us];exact hu
theorem Jxa {h:Kn} {e:Ev} (hk:(e.2.1.toList==Jz.toList)=false) (ha:L5 h e=0):Ki (Kc h.2.2) e.2.2.1 (Ji e.2.1).1 0=false∧Ks (Kc h.2.2) e.2.2.1 (Ji e.2.1).1 0=false:=by
 obtain⟨n,k,ns,vs,tx⟩:=e
 have:=Ja9 ((Yx (h:=h) (n:=n) (k:=k) (ns:=ns) (vs:=vs) (tx:=tx) hk).symm.trans ha)
 exact⟨this.2.2.1,this.2.2.2.1⟩
theorem Jw7 {h:Kn} {e:Ev} (hu:Jok h) (ha:Uk h e=0):Jok (D1 h e):=by
 obtain⟨hc,hacc⟩:=add_zero ha
 intro r hr
 unfold D1 at hr
 cases hk:e.2.1.toList==Jz.toList with
 |true=>
  rw[hk,cond_true] at hr
  exact hu r (List.mem_of_mem_take hr)
 | false =>
  rw[hk,cond_false] at hr
  rcases Yf hr with hr|hr
  ·exact hu r hr
  ·subst hr
   have:=Jxa hk hacc
   exact Jyw (Jui hu) (Uj hc).kind this.1 this.2
def Jpu (l:List Ev):List Ev:=if(Jg l).2.2=0 then(Jg l).1.2.1 else[]
def K51:Con:={args:=[.val false (.list 67 sEv)],ress:=[(false, .list 67 sEv),(true,Jky),I,I],owns:=[],pre:=fun(l,_)=>[lOk l],spec:=fun(l,_)=>(Jpu l,Jo l,(Jg l).2.1,(Jg l).2.2,())}
abbrev Kce (l:List Ev):Ann:={X:=Kn×Nat,σ:=fun(h,i)=>⟨4,[(0, .one (.sl 0)),(3, .one (.ptr 1 0)),(6, .one (.sl 2)),(7, .one (.sl 3)),(8, .one (.int .i64 i))],[(0, .imm 67 sEv l),(1, .box 37 J1t),(2, .own 67 sEv h.2.1),(3, .own 37 Jky (U0::h.2.2))]⟩,inv:=fun(h,i)=>Y3 h∧Jok h∧h.1.length=i∧i≤l.length∧l.length≤1000∧Jc0 h (l.drop i)=Jg l,mu:=fun(_,i)=>l.length-i}
theorem Ju9:Jok Zx:=fun _ h=>(by cases h)
theorem K5w {C:List Ev} {G:List Reg} (h:G.length=C.length):(U0::G).getD C.length U0=Kc G:=by
 unfold Kc
 rw[←h]
 cases G with
 |nil=>rfl
 |cons a G=>rfl
theorem Kaa {h:Kn} {e:Ev} {l l':List Ev} {v:Int} (hr:Jc0 h (e::l')=Jg l) (ha:Uk h e=v) (hv:v≠0):[]=Jpu l∧U0=Jo l∧(h.1.length:Int)+1=(Jg l).2.1∧v=(Jg l).2.2:=by
 unfold Jc0 at hr
 rw[if_neg (by rw[ha];exact hv),ha] at hr
 refine⟨?_, ?_,by rw[←hr],by rw[←hr]⟩
 ·unfold Jpu;rw[←hr,if_neg (by exact hv)]
 ·unfold Jo;rw[←hr,if_neg (by exact hv)]
theorem Jtv {h:Kn} {e:Ev} {l l':List Ev} (hr:Jc0 h (e::l')=Jg l) (ha:Uk h e=0):Jc0 (D1 h e) l'=Jg l:=by
 unfold Jc0 at hr
 rwa[if_pos ha] at hr
theorem Kct {E C:List Ev} {G:List Reg} {e:Ev} {k:Nat} (hk:E.length=k):Uk (E,C,G) e=bif (bif Jb e==0 then e.1 !=(k:Int)+1 else false) then 11 else bif (bif Jb e==0 then e.2.1.toList==Jz.toList else false) then(bif (C.length:Int)==0 then 12 else bif (C.getD (C.length-1) ev0).2.1.toList==Jh.toList then 21 else 0) else bif Jb e==0 then Vm (Kc G) e else Jb e:=by
 subst hk
 unfold Uk
 by_cases hc:Jb e=0
 ·rw[if_neg (by rw[hc];simp),hc,show((0:Int)==0)=true from rfl,cond_true,cond_true,cond_true]
  cases h1:e.1 !=(E.length:Int)+1 with
  |true=>unfold L5;rw[h1];rfl
  |false=>
   cases h2:e.2.1.toList==Jz.toList with
   |true=>unfold L5;rw[h1,h2];rfl
   |false=>rw[cond_false,cond_false];exact J51 (h:=(E,C,G)) (bne_eq_false_iff_eq.1 h1) h2
 ·rw[if_pos hc,beq_false_of_ne hc,cond_false,cond_false,cond_false];rfl
def Z63 (a:Kn×Nat):=Ln a.1.2.1-1
def J9s (a:Kn×Nat) (b:List Ev):=Nc a.2+1=(Jg b).2.1
def K0u (a:List Ev) (b:Kn×Nat):=Lb (J8z a b).1 Jz
def K0g:=[Vs]
def Kxn (a:Kn×Nat):=List.getD (U0::a.1.2.2) (List.length a.1.2.1) Vs
def Kxj (a:Kn×Nat):=(Kxn a).2
def Kxg (a:Kn×Nat):=(Kxj a).2
def Kxd (a:Kn×Nat):=(0+List.length (U0::a.1.2.2))*136≤140737488355328∧(List.length (U0::a.1.2.2)+1)*136≤140737488355328
def Kxc (a:Kn×Nat):=(Kxg a).2
def Kit (a:Kn×Nat):=(Kxc a).2
def Kw7 (a:Kn×Nat):=(Kit a).2
def Kwy (a:Kn×Nat) (b:List Ev):=(0+List.length a.1.2.1)*88≤140737488355328∧T2 (Z29 a b) ((List.length a.1.2.1+1)*88≤140737488355328)
def Kwp (a:(List Ev×List Ev×List Reg)×Nat) (b:List Ev):=Y3 a.1∧Jok a.1∧Kef a b
def Khf (a:(List Ev×List Ev×List Reg)×Nat) (b:List Ev) (c:Kn×Nat):=Kwp a b∧List.length b-a.2<List.length b-c.2
def Kde (a:List Ev) (b:Kn×Nat):=Jb (Jx6 a b)
def Kdc (a:List Ev) (b:Kn×Nat):=Kde a b==0
def Kuc (a:List Ev) (b:Kn×Nat):=Kdc a b=true
def Kua (a:Kn×Nat) (b:List Ev) (c:(List Ev×List Ev×List Reg)×Nat):=a.1.2.1++[Jx6 b a]=c.1.2.1
def Kt2 (a:List Ev) (b:Kn×Nat):=Kuc a b→Z29 b a
def Jxm (a:Kn×Nat):=((Kxn a).1,(Kxj a).1,(Kxg a).1,(Kxc a).1,(Kit a).1,E2 (Kw7 a))
def J7s (a:Kn×Nat) (b:List Ev):=Yq (Jxm a) (Jx6 b a)
def J7r (a:Kn×Nat) (b:List Ev):=Vm (Jxm a) (Jx6 b a)
def J7q (a:Kn×Nat) (b:List Ev):=(J7s a b).2
def J7p (a:Kn×Nat) (b:List Ev):=(J7q a b).2
def J7o (a:Kn×Nat) (b:List Ev):=(J7p a b).2
def J7n (a:Kn×Nat) (b:List Ev):=(J7o a b).2
def Jxk (a:Kn×Nat) (b:List Ev):=Kwy a b∧Kxd a∧Z33 a∧∃(y:(List Ev×List Ev×List Reg)×Nat),(Jyj a y∧Sf b (Si 0 (Si 0 (Sf Vk (Sf Vk (Sf Vk (Sf Vk (Sf Vk (Kua a b y∧U0::(a.1.2.2++K0g)=U0::y.1.2.2)))))))))∧Khf y b a
def Jxh (a:Kn×Nat) (b:List Ev):=T2 (Bd (Ln a.1.2.1) (Ln (U0::a.1.2.2))) (T2 (Z29 a b) (Jk (Jxm a)∧Jca (Kw7 a).1∧List.length (Kit a).1<10000∧Kde b a=0∧K0u b a=false))∧Br (J7r a b !=0) (Z33 a∧[]=Jpu b∧Jsu b∧J9s a b∧J7r a b=(Jg b).2.2) (Kwy a b∧Kxd a∧Z33 a∧∃(y:(List Ev×List Ev×List Reg)×Nat),(Jyj a y∧Sf b (Si 0 (Si 0 (Sf Vk (Sf Vk (Sf Vk (Sf Vk (Sf Vk (Kua a b y∧U0::(a.1.2.2++[((J7s a b).1,(J7q a b).1,(J7p a b).1,(J7o a b).1,(J7n a b).1,E2 (J7n a b).2)])=U0::y.1.2.2)))))))))∧Khf y b a)
def J61 (a:Kn×Nat) (b:List Ev):=Br (Ln a.1.2.1==0) (Br false (Jxh a b) (Br true (Z33 a∧[]=Jpu b∧Jsu b∧J9s a b∧12=(Jg b).2.2) (Jxk a b))) ((Iw (Z63 a)∧Tw (Bd (Z63 a) (Ln a.1.2.1)))∧Br (Lb (Gt a.1.2.1 (Z63 a) Jad).2.1 Jh) (Br false (Jxh a b) (Br true (Z33 a∧[]=Jpu b∧Jsu b∧J9s a b∧21=(Jg b).2.2) (Jxk a b))) ((Iw (Z63 a)∧(0≤Z63 a∧Z63 a≤Ln a.1.2.1)∧0≤Ln a.1.2.1∧Ln a.1.2.1≤Ln (U0::a.1.2.2))∧Z33 a∧∃(y:(List Ev×List Ev×List Reg)×Nat),(Jyj a y∧Sf b (Si 0 (Si 0 (Sf Vk (Sf Vk (Sf Vk (Sf Vk (Sf Vk (List.take (Int.toNat (Z63 a)) a.1.2.1=y.1.2.1∧List.take (List.length a.1.2.1) (U0::a.1.2.2)=U0::y.1.2.2)))))))))∧Khf y b a))
theorem K4t:Ok Tryz.prog 82 K51:=okW K2b Tryz.f82 (fun xx=>Xo (Kce xx.1)) fun xx=>by
 obtain⟨(l:List Ev),_⟩:=xx
 refine(by kernel_rfl:(lOk l→Br (decide (1000<Ln l)) ([]=Jpu l∧Jsu l∧0=(Jg l).2.1∧5=(Jg l).2.2) (∃(x:(List Ev×List Ev×List Reg)×Nat),(0=Nc x.2∧Sf l (Si 0 (Si 0 (Sf Vk (Sf Vk (Sf Vk (Sf Vk (Sf Vk (List.length x.1.2.1=0∧K0g=U0::x.1.2.2)))))))))∧Kwp x l∧∀(x:Kn×Nat),Y3 x.1∧Jok x.1∧Keg x l→Br (decide (Nc x.2<Ln l)) (T2 (Z29 x l) (List.length (J2y l x).1≤1000000∧List.length (J2y l x).2.1≤1000000∧∀(s:ByteArray),s∈(J2y l x).1→ByteArray.size s≤1000000)∧T2 (Kt2 l x) (Kuc l x→Z33 x)∧Br (bif Kdc l x then(J80 l x).1 !=Nc x.2+1 else false) (Tw (false=true→Z29 x l)∧Br false (J61 x l) (Br false (Jxh x l) (Br true (Z33 x∧[]=Jpu l∧Jsu l∧J9s x l∧11=(Jg l).2.2) (Jxk x l)))) (Tw (Kt2 l x)∧Br (bif Kdc l x then K0u l x else false) (J61 x l) (Br (Kdc l x) (Jxh x l) (Br (Kde l x !=0) (Z33 x∧[]=Jpu l∧Jsu l∧J9s x l∧Kde l x=(Jg l).2.2) (Jxk x l))))) (Tw (Bd (Ln x.1.2.1) (Ln (U0::x.1.2.2)))∧x.1.2.1=Jpu l∧Jxm x=Jo l∧0=(Jg l).2.1∧0=(Jg l).2.2)))=_).mp ?_
 delta Z29 Z33 Z63 Jyj Vk J9s Jad J80 J8z J2y L9 Vs K0u K0g Jsu Kxn Kxj Kxg Kxd Keg Kxc Kef Kit Kw7 Kwy Kwp Khf Jx6 Kde Kdc Kuc Kua Kt2 Jxm J7s J7r J7q J7p J7o J7n Jxk Jxh J61 Br Iw Bd T2 Tw Sf Si Ln Nc Gt B0 Lb E2 Jh Jz
 intro hl
 have hbn:({data:={toList:=[]}}:ByteArray)=Ja:=rfl
 have hev:((0:Int),Ja,([]:List ByteArray),([]:List Int),Ja)=ev0:=rfl
 have hrg:((0:Int),(0:Int),([]:List Sta),([]:List Ord),([]:List Met),([]:List Out),([]:List Per))=U0:=rfl
 have hun:({data:={toList:=[117,110,100,111]}}:ByteArray)=Jz:=rfl
 have hse:({data:={toList:=[115,101,116,116,108,101]}}:ByteArray)=Jh:=rfl
 simp only[hbn,hev,hrg,hun,hse,Prod.eta,Bool.false_eq_true,Bool.true_eq_false,false_implies,true_implies,true_and,and_true]
 refine⟨fun h=> ?_,fun h=>⟨(([],[],[]),(0:Nat)),by(repeat' first|exact rfl|exact⟨⟩|apply And.intro|omega|dsimp only;omega), ?_,fun(x:Kn×Nat) hk=> ?_⟩⟩
 ·have e:Jg l=(Zx,0,5):=by unfold Jg;rw[if_pos (by have:=of_decide_eq_true h;omega)]
  refine⟨?_, ?_,by rw[e],by rw[e]⟩
  ·unfold Jpu;rw[e];rfl
  ·unfold Jo;rw[e];rfl
 ·have hn:l.length≤1000:=by have:=of_decide_eq_false h;omega
  exact⟨Hb,Ju9,rfl,Nat.zero_le _,hn,by unfold Jg;rw[if_neg (by omega)];rfl⟩
 ·obtain⟨⟨E,C,G⟩,k⟩:=x
  obtain⟨hI,hU,hk1,hk2,hk3,hk4⟩:=hk
  dsimp only at hI hU hk1 hk2 hk3 hk4⊢
  have hG:G.length=C.length:=hI.ok.nG
  have hC:C.length≤E.length:=hI.ok.nC
  have hN:=K5w hG
  have hR:Jk (Kc G):=X0 hI.ok
  have hUx:Jca (Kc G).2.2.2.2.2.1:=Jui (h:=(E,C,G)) hU
  have hM:(Kc G).2.2.2.2.1.length≤E.length:=Juj hI
  simp only[hN]
  refine⟨fun hlt=> ?_,fun hge=> ?_⟩
  ·have hlt:(k:Int)<l.length:=of_decide_eq_true hlt
   have hz:=hl.2 _ (Jc (d:=ev0) (show k<l.length by omega))
   rw[Js (d:=ev0) (by omega)] at hk4
   generalize l.getD k ev0=e at*
   have hA:=Kct (C:=C) (G:=G) (e:=e) hk1
   have hT:((C.length:Int)-1).toNat=C.length-1:=by omega
   rw[hT]
   have hi64:(-9223372036854775808≤(k:Int)+1∧(k:Int)+1≤9223372036854775807):=⟨by omega,by omega⟩
   have hkk:(0≤(k:Int)∧(k:Int)<l.length):=⟨by omega,hlt⟩
   have no:∀v,Uk (E,C,G) e=v→v≠0→[]=Jpu l∧U0=Jo l∧(k:Int)+1=(Jg l).2.1∧v=(Jg l).2.2:=fun v p q=>by
    have:=Kaa hk4 p q
    dsimp only at this
    rwa[hk1] at this
   have len1:((U0::G).length:Int)=G.length+1:=by simp
   have len2:(U0::G).length=G.length+1:=by simp
   refine⟨⟨hkk,hkk,hz⟩,⟨fun _=>hkk,fun _=>hkk,fun _=>hi64⟩,fun a=>⟨hi64,no 11 (by rw[hA,a];rfl) (by decide)⟩,fun a=>⟨⟨fun _=>hkk,fun _=>hkk⟩,fun b=>⟨fun c=>⟨hi64,no 12 (by rw[hA,a,b,c];rfl) (by decide)⟩,fun c=> ?_⟩,fun b=>⟨fun c=> ?_,fun c=> ?_⟩⟩⟩
   ·have c0:(C.length:Int)≠0:=by simpa using c
    refine⟨⟨⟨by omega,by omega⟩,⟨by omega,by omega⟩,by omega,by omega⟩,fun d=>⟨hi64,no 21 (by rw[hA,a,b,c,d];rfl) (by decide)⟩,fun d=> ?_⟩
    have ha:Uk (E,C,G) e=0:=by rw[hA,a,b,c,d];rfl
    have hu:(e.2.1.toList==Jz.toList)=true:=by
     cases q:Jb e==0 with
     |true=>rw[q] at b;exact b
     |false=>rw[q] at b;cases b
    have eH:D1 (E,C,G) e=(E++[e],C.take (C.length-1),G.take (C.length-1)):=by unfold D1;rw[hu,cond_true]
    refine⟨⟨⟨by omega,by omega⟩,⟨by omega,by omega⟩,by omega,by omega⟩,hi64,(D1 (E,C,G) e,k+1),⟨by push_cast;rfl,by rw[eH], ?_⟩,⟨Jf2 hI (by show E.length<1000;omega) ha,Jw7 hU ha,by rw[D0];show E.length+1=k+1;omega,by show k+1≤l.length;omega,hk3,Jtv hk4 ha⟩,by show l.length-(k+1)<_;omega⟩
    rw[eH]
    have q:C.length=(C.length-1)+1:=by omega
    show List.take C.length (U0::G)=U0::G.take (C.length-1)
    conv=>lhs;rw[q]
    rfl
   ·have c0:Jb e=0:=by simpa using c
    have hu:(e.2.1.toList==Jz.toList)=false:=by rw[c] at b;exact b
    have hA2:Uk (E,C,G) e=Vm (Kc G) e:=by rw[hA,a,b,c];rfl
    refine⟨⟨⟨by omega,by omega⟩,⟨by omega,by omega⟩,hkk,hkk,hR,hUx,Nat.lt_of_le_of_lt hM (by omega),c0,hu⟩,fun d=>⟨hi64,no _ hA2 (bne_iff_ne.1 d)⟩,fun d=> ?_⟩
    have d0:Vm (Kc G) e=0:=bne_eq_false_iff_eq.1 d
    have ha:=hA2.trans d0
    have eH:D1 (E,C,G) e=(E++[e],C++[e],G++[Jp (Kc G) e]):=by unfold D1;rw[hu,cond_false]
    refine⟨⟨by omega,hkk,hkk,by omega⟩,⟨by omega,by omega⟩,hi64,(D1 (E,C,G) e,k+1),⟨by push_cast;rfl,by rw[eH],by rw[eH,J0w d0]⟩,⟨Jf2 hI (by show E.length<1000;omega) ha,Jw7 hU ha,by rw[D0];show E.length+1=k+1;omega,by show k+1≤l.length;omega,hk3,Jtv hk4 ha⟩,by show l.length-(k+1)<_;omega⟩
   ·have c0:Jb e≠0:=by simpa using c
    exact⟨fun d=>⟨hi64,no _ (by rw[hA,a,b,c];rfl) c0⟩,fun d=>absurd (bne_eq_false_iff_eq.1 d) c0⟩
  ·have hge:=of_decide_eq_false hge
   have:k=l.length:=by omega
   rw[this,List.drop_length,Jc0] at hk4
   have eR:Jo l=Kc G:=by unfold Jo;rw[←hk4];rfl
   have eC:Jpu l=C:=by unfold Jpu;rw[←hk4];rfl
   have len1:((U0::G).length:Int)=G.length+1:=by simp
   exact⟨⟨⟨by omega,by omega⟩,by omega,by omega⟩,eC.symm,eR.symm,by rw[←hk4],by rw[←hk4]⟩
abbrev K2a:=K2b.add K4t
theorem Jts {e:Ev} (h:Xj e=true):e.2.1.size≤40∧e.2.2.1.length≤6∧e.2.2.2.1.length≤8∧e.2.2.2.2.size≤200∧∀s∈e.2.2.1,s.size≤40:=by
 unfold Xj at h
 cases q:Jhg e with
 |true=>rw[q] at h;cases h
 |false=>
  rw[q,cond_false] at h
  unfold Jhg at q
  have q1:=bn1 q
  have q2:=bn1 q1.1
  have q3:=bn1 q2.1
  have a1:=of_decide_eq_false q1.2
  have a2:=of_decide_eq_false q2.2
  have a3:=of_decide_eq_false q3.2
  have a4:=of_decide_eq_false q3.1
  refine⟨by omega,by omega,by omega,by omega,fun s hs=> ?_⟩
  have:=List.all_eq_true.1 h s hs
  have:decide (40<(s.size:Int))=false:=by simpa using this
  have:=of_decide_eq_false this
  omega
theorem Jtr {l:List Ev} {n:Int} (hn:n≤1000) (h:Ha l n=true):lOk l∧(l.length:Int)≤n:=by
 unfold Ha at h
 cases q:decide (n<(l.length:Int)) with
 |true=>rw[q] at h;cases h
 |false=>
  rw[q,cond_false] at h
  have q:=of_decide_eq_false q
  refine⟨⟨by omega,fun e he=> ?_⟩,by omega⟩
  have b:=Jts (List.all_eq_true.1 h e he)
  exact⟨by omega,by omega,fun s hs=>by have:=b.2.2.2.2 s hs;omega⟩
def Ka4:Con:={args:=[.val false (.list 67 sEv)],ress:=[(true,Jky),I,I],owns:=[],pre:=fun(l,_)=>[lOk l],spec:=fun(l,_)=>(Jo l,(Jg l).2.1,(Jg l).2.2,())}
theorem K5r:Ok Tryz.prog 17 Ka4:=okW K2a Tryz.f17 na fun xx=>by
 obtain⟨(l:List Ev),_⟩:=xx
 refine(by kernel_rfl:(lOk l→lOk l∧J0z l=Jo l∧Si (Jg l).2.1 ((Jg l).2.2=(Jg l).2.2))=_).mp ?_
 delta J0z Si E2
 intro hl
 exact⟨hl,rfl,rfl,rfl⟩
abbrev K6x:=K2a.add K5r
abbrev K19:=K6x
abbrev J5u (T U:TypeId) (s:Sch) (l:List s.T):Ann:={X:=Nat,σ:=fun k=>⟨2,[(3, .one (.sl 1)),(6, .one (.sl 0)),(7, .one (.int .i64 l.length)),(8, .one (.int .i64 k))],[(0, .imm T s l),(1, .own U s (l.take k))]⟩,inv:=fun k=>k≤l.length,mu:=fun k=>l.length-k}
def Xc (a b:Gap):Bool:=a.1.toList==b.1.toList&&(a.2==b.2&&true)
def Kra:Con:={args:=[.val false (.list 200 Jre)],ress:=[(false, .list 198 Jre)],owns:=[true],pre:=fun(l,_)=>[l.length≤1000000],spec:=fun(l,_)=>(l,())}
def J29 (a:List Gap):=List.length a
def J9z (a:Nat) (b:List Gap):=List.take a b
def J9x (a:List Gap) (b:Nat):=J29 a-b
def J9w (a:Nat) (b:List Gap):=a≤J29 b
def J6v (a:List Gap) (b:Nat):=List.getD a b (B0,0)
theorem K5f:Ok Tryz.prog 32 Kra:=okW K19 Tryz.f32 (fun xx=>Xo (J5u 200 198 Jre xx.1)) fun xx=>by
 obtain⟨(l:List Gap),_⟩:=xx
 refine(by kernel_rfl:(J29 l≤1000000→∃(x:Nat),Si (Ln l) (0=Nc x∧Sf l (List.length (J9z x l)=0))∧J9w x l∧∀(x:Nat),J9w x l→Br (decide (Nc x<Ln l)) (Tw (Bd (Nc x) (Ln l))∧(List.length (J9z x l)+1)*24≤140737488355328∧Z20 x∧∃(y:Nat),Si (Ln l) (V5 x y∧Sf l (J9z x l++E2 (J6v l x)::Z43=J9z y l))∧J9w y l∧J9x l y<J9x l x) (J9z x l=l))=_).mp ?_
 delta Z20 Z43 V5 J29 J9z J9x J9w J6v Br Iw Bd Tw Sf Si Ln Nc B0 E2
 intro hl
 refine⟨(0:Nat),⟨rfl,rfl,rfl,rfl⟩,Nat.zero_le _,fun(k:Nat) hk=>⟨fun h=> ?_,fun h=> ?_⟩⟩
 ·have hlt:k<l.length:=by simpa using h
  refine⟨⟨⟨by omega,by omega⟩,by omega,by omega⟩,by rw[List.length_take];omega,⟨by omega,by omega⟩,(k+1:Nat),⟨rfl,by push_cast;rfl,rfl, ?_⟩,by omega,by omega⟩
  exact U3 (d:=(Ja,0)) hlt
 ·have hlt:¬k<l.length:=by simpa using h
  exact List.take_of_length_le (by omega)
abbrev K18:=K19.add K5f
def Ka2:Con:=Kqu 198 Jre Xc
def Kf0 (a b:List Gap):=eqL Xc a b
def Kg6 (a:Nat) (b c:List Gap):=J9w a b∧J29 b=J29 c∧eqL Xc (List.drop a b) (List.drop a c)=Kf0 b c
theorem K5g:Ok Tryz.prog 31 Ka2:=okW K18 Tryz.f31 (fun xx=>Xo (J5j 198 Jre Xc xx.1 xx.2.1)) fun xx=>by
 obtain⟨(xs:List Gap),(ys:List Gap),_⟩:=xx
 refine(by kernel_rfl:(J29 xs≤1000000→Br (Ln xs !=Ln ys) (false=Kf0 xs ys) (∃(x:Nat),(0=Nc x∧Sf xs (ys=ys))∧Kg6 x xs ys∧∀(x:Nat),Kg6 x xs ys→Br (decide (Nc x<Ln xs)) (T2 (Bd (Nc x) (Ln xs)) (Tw (Bd (Nc x) (Ln ys)))∧Br (!(Lb (J6v xs x).1 (J6v ys x).1&&((J6v xs x).2==(J6v ys x).2&&true))) (false=Kf0 xs ys) (Z20 x∧∃(y:Nat),(V5 x y∧Sf xs (ys=ys))∧Kg6 y xs ys∧J9x xs y<J9x xs x)) (true=Kf0 xs ys)))=_).mp ?_
 delta Z20 V5 J29 J9x J9w Kf0 J6v Kg6 Br Iw Bd T2 Tw Sf Ln Nc B0 Lb
 intro hl
 refine⟨fun h=> ?_,fun h=>⟨(0:Nat),by(repeat' first|exact rfl|exact⟨⟩|apply And.intro|omega|dsimp only;omega),⟨Nat.zero_le _, ?_,rfl⟩,fun(k:Nat) hk=>⟨fun h1=> ?_,fun h1=> ?_⟩⟩⟩
 ·have h:((xs.length:Int) !=ys.length)=true:=h
  exact(J2g (by have:=bne_iff_ne.1 h;omega)).symm
 ·have h:((xs.length:Int) !=ys.length)=false:=h
  have:=bne_eq_false_iff_eq.1 h
  omega
 ·obtain⟨k1,k2,k3⟩:=hk
  have hlt:k<xs.length:=by simpa using h1
  rw[Js (l:=xs) (d:=(Ja,0)) hlt,Js (l:=ys) (d:=(Ja,0)) (by omega),eqL] at k3
  refine⟨by(repeat' first|apply And.intro|(first|omega|dsimp only;omega)),fun h2=> ?_,fun h2=> ?_⟩
  ·have h2:(!Xc (xs.getD k (Ja,0)) (ys.getD k (Ja,0)))=true:=h2
   have h2:Xc (xs.getD k (Ja,0)) (ys.getD k (Ja,0))=false:=by simpa using h2
   rw[h2] at k3;exact k3
  ·have h2:(!Xc (xs.getD k (Ja,0)) (ys.getD k (Ja,0)))=false:=h2
   have h2:Xc (xs.getD k (Ja,0)) (ys.getD k (Ja,0))=true:=by simpa using h2
   rw[h2] at k3
   exact⟨by(repeat' first|apply And.intro|(first|omega|dsimp only;omega)),(k+1:Nat),by(repeat' first|exact rfl|exact⟨⟩|apply And.intro|omega|dsimp only;omega),⟨by omega,k2,k3⟩,by omega⟩
 ·obtain⟨k1,k2,k3⟩:=hk
  have hlt:¬k<xs.length:=by simpa using h1
  rw[List.drop_eq_nil_of_le (by omega),List.drop_eq_nil_of_le (by omega)] at k3
  exact k3
abbrev K6w:=K18.add K5g
abbrev K6v:=K6w
abbrev K6u:=K6v
abbrev K6t:=K6u
abbrev K6s:=K6t
abbrev K6r:=K6s
abbrev K6q:=K6r
structure K7w (h:Kn) (k:Nat):Prop where
 ok:Jk (Kc (h.2.2.take k))
 uni:Jca (Kc (h.2.2.take k)).2.2.2.2.2.1
 met:(Kc (h.2.2.take k)).2.2.2.2.1.length<10000
abbrev K17:=K6q
def cnt (p:Int→Bool) (n:Nat):Nat:=(List.range n).countP fun h:Nat=>p (h:Int)
theorem Lk {p:Int→Bool} {n:Nat}:cnt p (n+1)=cnt p n+(bif p (n:Int) then 1 else 0):=by
 unfold cnt
 rw[List.range_succ,List.countP_append]
 cases h:p (n:Int)<;>simp[h]
theorem H6 {p q:Int→Bool}:∀{n:Nat},(∀h:Int,0≤h→h<n→p h=q h)→cnt p n=cnt q n
 |0,_=>rfl
 |n+1,h=>by rw[Lk,Lk,H6 fun k h0 hk=>h k h0 (by omega),h n (by omega) (by omega)]
theorem Kaw {p:Int→Bool} {n:Nat}:cnt p n≤n:=by
 have:=List.countP_le_length (p:=fun h:Nat=>p (h:Int)) (l:=List.range n)
 rwa[List.length_range] at this
theorem Jvu {p q:Int→Bool}:∀{n:Nat},(∀h:Int,0≤h→h<n→p h=true→q h=false)→cnt (fun h=>p h||q h) n=cnt p n+cnt q n
 |0,_=>rfl
 |n+1,h=>by
  rw[Lk,Lk,Lk,Jvu fun k h0 hk=>h k h0 (by omega)]
  have:=h n (by omega) (by omega)
  cases hp:p (n:Int) with
  |false=>simp only[Bool.false_or,cond_false];omega
  |true=>rw[this hp];simp only[Bool.or_false,cond_true,cond_false];omega
theorem Jn1 {u v:Int} (hu:0≤u):∀{n:Nat},(cnt (fun h=>decide (u≤h)&&decide (h<v)) n:Int)=max 0 (min v n-u)
 |0=>by show(0:Int)=_;omega
 | n + 1 => by
  rw[Lk]
  have:=Jn1 (u:=u) (v:=v) hu (n:=n)
  by_cases h1:u≤(n:Int)
  ·by_cases h2:(n:Int)<v
   ·rw[decide_eq_true h1,decide_eq_true h2];simp only[Bool.and_self,cond_true];push_cast;omega
   ·rw[decide_eq_true h1,decide_eq_false h2];simp only[Bool.and_false,cond_false];push_cast;omega
  ·rw[decide_eq_false h1];simp only[Bool.false_and,cond_false];push_cast;omega
theorem Je9 {o:List Int} {h k:Int}:Jae (o++[h]) k=(Jae o k||h==k):=by
 unfold Jae
 rw[List.any_append];simp
def Js1 (st:Int) (o:List Int):Prop:=(∀h,Jae o h=true→0≤h∧h<st)∧cnt (Jae o) st.toNat=o.length
theorem J2c {st h:Int} {o:List Int} (ho:Js1 st o) (h0:0≤h) (h1:h<st) (hn:Jae o h=false):Js1 st (o++[h]):=by
 refine⟨fun k hk=> ?_, ?_⟩
 ·rw[Je9] at hk
  cases q:Jae o k with
  |true=>exact ho.1 k q
  |false=>
   rw[q,Bool.false_or] at hk
   have:h=k:=by simpa using hk
   omega
 ·have e:cnt (Jae (o++[h])) st.toNat=cnt (fun k=>Jae o k||(decide (h≤k)&&decide (k<h+1))) st.toNat:=H6 fun k _ _=>by
   rw[Je9]
   congr 1
   by_cases q:h=k
   ·subst q;simp;omega
   ·have q1:(h==k)=false:=by simpa using q
    rw[q1]
    symm
    by_cases q2:h≤k
    ·rw[decide_eq_false (show ¬k<h+1 by omega)];simp
    ·rw[decide_eq_false q2];rfl
  rw[e,Jvu fun k _ _ hk=> ?_,ho.2,List.length_append,List.length_singleton]
  ·have:=Jn1 (u:=h) (v:=h+1) h0 (n:=st.toNat)
   omega
  ·cases q:decide (h≤k)&&decide (k<h+1) with
   |false=>rfl
   |true=>
    rw[Bool.and_eq_true] at q
    have a:=of_decide_eq_true q.1
    have b:=of_decide_eq_true q.2
    have:k=h:=by omega
    subst this
    rw[hn] at hk;cases hk
theorem Kqo {st:Int} {o:List Int} (ho:Js1 st o) (h:0≤st):(o.length:Int)≤st:=by
 have:=Kaw (p:=Jae o) (n:=st.toNat)
 rw[ho.2] at this
 omega
theorem Ju8 {st:Int}:Js1 st []:=⟨fun _ h=>(by cases h),by
 have:∀n,cnt (Jae []) n=0:=fun n=>by
  induction n with
  |zero=>rfl
  |succ n ih=>rw[Lk,ih];rfl
 exact this _⟩
def Jx1 (st:Int):Int→Nat→List Int→List Int
 |_,0,o=>o
 |h,n+1,o=>Jx1 st (h+1) n (bif decide (h<st)&& !Jae o h then o++[h] else o)
def Jhj (st:Int) (s:ByteArray):List Out→List Int→List Int
 |[],o=>o
 |x::l,o=>Jhj st s l (bif x.2.1.toList==s.toList then Jx1 st x.2.2.1.1 (x.2.2.1.2-x.2.2.1.1).toNat o else o)
def insS (x:Spn) (h:Int):Bool:=decide (x.1≤h)&&decide (h<x.2)
theorem Jnm {st:Int}:∀{n:Nat} {a:Int} {o:List Int},0≤a→Js1 st o→Js1 st (Jx1 st a n o)∧∀h,Jae (Jx1 st a n o) h=(Jae o h||(insS (a,a+n) h&&decide (h<st)))
 | 0, a, o, _, ho => ⟨ho, fun h => by
  have:insS (a,a+((0:Nat):Int)) h=false:=by
   unfold insS
   by_cases q:a≤h
   ·rw[decide_eq_false (show ¬h<a+((0:Nat):Int) by omega)];simp
   ·rw[decide_eq_false q];rfl
  rw[this];simp[Jx1]⟩
 | n + 1, a, o, ha, ho => by
  unfold Jx1
  cases c:decide (a<st)&& !Jae o a with
  | true =>
   rw[Bool.and_eq_true] at c
   have c1:=of_decide_eq_true c.1
   have c2:Jae o a=false:=by simpa using c.2
   obtain⟨r1,r2⟩:=Jnm (n:=n) (a:=a+1) (by omega) (J2c ho ha c1 c2)
   refine⟨r1,fun h=> ?_⟩
   rw[cond_true,r2,Je9,Bool.or_assoc]
   congr 1
   unfold insS
   by_cases q:a=h
   ·subst q
    rw[decide_eq_true c1,beq_self_eq_true,decide_eq_true (Int.le_refl _),decide_eq_true (show a<a+((n+1:Nat):Int) by omega)];rfl
   ·have q1:(a==h)=false:=by simpa using q
    rw[q1,Bool.false_or]
    congr 1
    by_cases q2:a≤h
    ·rw[decide_eq_true q2,decide_eq_true (show a+1≤h by omega)]
     congr 1;exact decide_eq_decide.2 (by omega)
    ·rw[decide_eq_false q2,decide_eq_false (show ¬a+1≤h by omega)];rfl
  | false =>
   obtain⟨r1,r2⟩:=Jnm (n:=n) (a:=a+1) (by omega) ho
   refine⟨r1,fun h=> ?_⟩
   rw[cond_false,r2]
   unfold insS
   by_cases q:a=h
   ·subst q
    rw[decide_eq_false (show ¬a+1≤a by omega),decide_eq_true (Int.le_refl _),decide_eq_true (show a<a+((n+1:Nat):Int) by omega)]
    cases q1:decide (a<st) with
    |false=>rfl
    |true=>
     rw[q1] at c
     have c2:Jae o a=true:=by simpa using c
     rw[c2];rfl
   ·congr 1
    dsimp only
    congr 1
    by_cases q2:a≤h
    ·rw[decide_eq_true q2,decide_eq_true (show a+1≤h by omega)]
     congr 1;exact decide_eq_decide.2 (by omega)
    ·rw[decide_eq_false q2,decide_eq_false (show ¬a+1≤h by omega)];rfl
theorem Jnn {st:Int} {s:ByteArray} {S:List Sta}:∀{X:List Out} {o:List Int},(∀x∈X,Jj3 S x)→Js1 st o→Js1 st (Jhj st s X o)∧∀h,Jae (Jhj st s X o) h=(Jae o h||((Hj X s).any (fun x=>insS x h)&&decide (h<st)))
 |[],o,_,ho=>⟨ho,fun h=>by simp[Jhj,Hj]⟩
 | x :: X, o, hX, ho => by
  have hx:=(hX x (List.mem_cons_self ..)).span
  have hX':=fun y hy=>hX y (List.mem_cons_of_mem _ hy)
  unfold Jhj
  cases q:x.2.1.toList==s.toList with
  |false=>
   have e:Hj (x::X) s=Hj X s:=by unfold Hj;rw[List.filter_cons,if_neg (by rw[q];simp)]
   rw[cond_false,e]
   exact Jnn hX' ho
  |true=>
   have e:Hj (x::X) s=x.2.2.1::Hj X s:=by unfold Hj;rw[List.filter_cons,if_pos q];rfl
   have h1:=hx.lo
   have h2:=hx.mid
   obtain⟨r1,r2⟩:=Jnm (n:=(x.2.2.1.2-x.2.2.1.1).toNat) h1 ho
   obtain⟨t1,t2⟩:=Jnn hX' r1
   rw[cond_true,e]
   refine⟨t1,fun h=> ?_⟩
   rw[t2,r2,List.any_cons,show x.2.2.1.1+((x.2.2.1.2-x.2.2.1.1).toNat:Int)=x.2.2.1.2 by omega]
   cases Jae o h<;>cases insS x.2.2.1 h<;>cases(Hj X s).any (fun x=>insS x h)<;>cases decide (h<st)<;>rfl
theorem Jwr {st:Int} (h0:0≤st):∀{l:List Spn} {p:Int→Bool} {n last:Int},(l.Pairwise fun a b=>a.1≤b.1)→(∀x∈l,0≤x.1)→0≤last→(∀x∈l,∀h,x.1≤h→h<st→p h=decide (h<last))→(avL st l (n,last)).1=n-((cnt (fun h=>p h||l.any fun x=>insS x h) st.toNat:Int)-cnt p st.toNat)
 |[],p,n,last,_,_,_,_=>by
  have e:cnt (fun h=>p h||([]:List Spn).any fun x=>insS x h) st.toNat=cnt p st.toNat:=H6 fun h _ _=>Bool.or_false _
  rw[e,avL]
  omega
 | s :: l, p, n, last, hs, hl, hla, hp => by
  obtain⟨hs1,hs2⟩:=List.pairwise_cons.1 hs
  have a0:=hl s (List.mem_cons_self ..)
  have e1:cnt (fun h=>p h||insS s h) st.toNat=cnt p st.toNat+cnt (fun h=>decide (max s.1 last≤h)&&decide (h<min s.2 st)) st.toNat:=by
   rw[←Jvu fun h q0 q1 q2=> ?_]
   ·refine H6 fun h q0 q1=> ?_
    have q1:h<st:=by omega
    unfold insS
    by_cases q2:s.1≤h
    ·rw[hp s (List.mem_cons_self ..) h q2 q1,decide_eq_true q2]
     by_cases q3:h<last
     ·rw[decide_eq_true q3];rfl
     ·rw[decide_eq_false q3,decide_eq_true (show max s.1 last≤h by omega)]
      by_cases q4:h<s.2
      ·rw[decide_eq_true q4,decide_eq_true (show h<min s.2 st by omega)]
      ·rw[decide_eq_false q4,decide_eq_false (show ¬h<min s.2 st by omega)]
    ·rw[decide_eq_false q2,decide_eq_false (show ¬max s.1 last≤h by omega)];rfl
   ·have q1:h<st:=by omega
    by_cases q3:max s.1 last≤h
    ·rw[hp s (List.mem_cons_self ..) h (by omega) q1,decide_eq_false (by omega)] at q2;cases q2
    ·rw[decide_eq_false q3];rfl
  have e2:=Jn1 (u:=max s.1 last) (v:=min s.2 st) (by omega) (n:=st.toNat)
  have e3:=Jwr h0 (l:=l) (p:=fun h=>p h||insS s h) (n:=n-max 0 (min s.2 st-max s.1 last)) (last:=max last (min s.2 st)) hs2 (fun x hx=>hl x (List.mem_cons_of_mem _ hx)) (by omega) (fun x hx h q1 q2=>by
   have:=hs1 x hx
   rw[hp s (List.mem_cons_self ..) h (by omega) q2]
   unfold insS
   rw[decide_eq_true (show s.1≤h by omega),Bool.true_and]
   by_cases q3:h<last
   ·rw[decide_eq_true q3,decide_eq_true (show h<max last (min s.2 st) by omega)];rfl
   ·rw[decide_eq_false q3,Bool.false_or];exact decide_eq_decide.2 (by omega))
  rw[avL,e3]
  have e4:cnt (fun h=>(p h||insS s h)||l.any fun x=>insS x h) st.toNat=cnt (fun h=>p h||(s::l).any fun x=>insS x h) st.toNat:=H6 fun h _ _=>by rw[List.any_cons,Bool.or_assoc]
  rw[e4,e1]
  push_cast
  omega
theorem J0n {α:Type} {p:α→Bool} {l r:List α} (h:l.Perm r):l.any p=r.any p:=by
 rw[Bool.eq_iff_iff,List.any_eq_true,List.any_eq_true]
 exact⟨fun⟨x,a,b⟩=>⟨x,h.mem_iff.1 a,b⟩,fun⟨x,a,b⟩=>⟨x,h.mem_iff.2 a,b⟩⟩
theorem Krp {st:Int} {s:ByteArray} {S:List Sta} {X:List Out} (h0:0≤st) (hX:∀x∈X,Jj3 S x):avN st X s=st-((Jhj st s X []).length:Int):=by
 obtain⟨r1,r2⟩:=Jnn (s:=s) hX (Ju8 (st:=st))
 have hp:=Jbh (Hj X s)
 have hl:∀x∈Jrb (Hj X s),0≤x.1:=fun x hx=>by
  have hx:=hp.mem_iff.1 hx
  unfold Hj at hx
  obtain⟨y,h1,rfl⟩:=List.mem_map.1 hx
  exact(hX y (List.mem_filter.1 h1).1).span.lo
 unfold avN
 rw[Jwr h0 (p:=fun _=>false) Db hl (Int.le_refl _) (fun x hx h q _=>(decide_eq_false (by have:=hl x hx;omega)).symm),←r1.2]
 ·have e:cnt (fun h=>false||(Jrb (Hj X s)).any fun x=>insS x h) st.toNat=cnt (Jae (Jhj st s X [])) st.toNat:=H6 fun h _ q=>by
   rw[r2,Bool.false_or,J0n hp,decide_eq_true (show h<st by omega),Bool.and_true]
   rfl
  have e0:cnt (fun _=>false) st.toNat=0:=(Ju8 (st:=st)).2
  rw[e,e0]
  omega
def Jp4 (st:Int) (X:List Out) (s:ByteArray):(Int×Int)×Int:=if st=0 then((0,0),6) else(Jrt (st-((Jhj st s X []).length:Int)) st,0)
def Kri:Con:={args:=[X2,aS],ress:=[(true,Hi),I],owns:=[],pre:=fun(r,_)=>[Jk r],spec:=fun((_,st,_,_,_,X,_),s,_)=>((Jp4 st X s).1,(Jp4 st X s).2,())}
abbrev Kcl (tk st:Int) (S:List Sta) (O:List Ord) (M:List Met) (X:List Out) (Q:List Per) (s:ByteArray):Ann:={X:=Nat×List Int,σ:=fun(i,o)=>⟨8,[(1, .one (.str s)),(2, .one (.ptr 5 0)),(4, .one (.ptr 6 0)),(6, .one (.sl 7)),(7, .one (.int .i64 i))],[(0, .imm 114 Dp S),(1, .imm 119 Hm O),(2, .imm 121 Fb M),(3, .imm 123 X4 X),(4, .imm 125 Zw Q),(5, .box 37 [.int .i64 tk, .int .i64 st, .sl 0, .sl 1, .sl 2, .sl 3, .sl 4]),(6, .box 54 [.int .i64 0, .int .i64 0]),(7, .own 3 sI o)]⟩,inv:=fun(i,o)=>i≤X.length∧Js1 st o∧o.length≤48*i∧Jhj st s (X.drop i) o=Jhj st s X [],mu:=fun(i,_)=>X.length-i}
abbrev Kcm (tk st:Int) (S:List Sta) (O:List Ord) (M:List Met) (X:List Out) (Q:List Per) (s:ByteArray):Ann:={X:=Nat×Nat×List Int,σ:=fun(i,j,o)=>⟨9,[(1, .one (.str s)),(2, .one (.ptr 5 0)),(4, .one (.ptr 6 0)),(6, .one (.sl 7)),(7, .one (.int .i64 i)),(8, .one (.ptr 8 0)),(9, .one (.int .i64 ((X.getD i V8).2.2.1.1+j)))],[(0, .imm 114 Dp S),(1, .imm 119 Hm O),(2, .imm 121 Fb M),(3, .imm 123 X4 X),(4, .imm 125 Zw Q),(5, .box 37 [.int .i64 tk, .int .i64 st, .sl 0, .sl 1, .sl 2, .sl 3, .sl 4]),(6, .box 54 [.int .i64 0, .int .i64 0]),(8, .box 123 [.str (X.getD i V8).1, .str (X.getD i V8).2.1, .int .i64 (X.getD i V8).2.2.1.1, .int .i64 (X.getD i V8).2.2.1.2, .int .i64 (X.getD i V8).2.2.2]),(7, .own 3 sI o)]⟩,inv:=fun(i,j,o)=>i<X.length∧Js1 st o∧o.length≤48*i+j∧j≤((X.getD i V8).2.2.1.2-(X.getD i V8).2.2.1.1).toNat∧(j=0∨((X.getD i V8).2.1.toList==s.toList)=true)∧Jhj st s (X.drop (i+1)) (bif (X.getD i V8).2.1.toList==s.toList then Jx1 st ((X.getD i V8).2.2.1.1+j) (((X.getD i V8).2.2.1.2-(X.getD i V8).2.2.1.1).toNat-j) o else o)=Jhj st s X [],mu:=fun(i,j,_)=>((X.getD i V8).2.2.1.2-(X.getD i V8).2.2.1.1).toNat-j,rel:=some fun x y=>x.1=y.1}
def Z21 (a:List Out) (b:Nat×Nat×Li):=(List.getD a b.1 V8).2
def Z34 (a:List Out) (b:Nat×Nat×Li):=(List.getD a b.1 V8).2.1
def Z35 (a:List Out) (b:Nat×Nat×Li):=(List.getD a b.1 V8).2.2
def Z82 (a:List Out) (b:Nat×Nat×Li):=(Z35 a b).1.1
def Z84 (a:List Out) (b:Nat×Nat×Li):=(Z35 a b).1.2
def J05 (a:List Out) (b:Nat×Nat×Li):=Z82 a b+Nc b.2.1
def Klq (a:List Out) (b:Nat×Nat×Li):=J05 a b+1
def Klp (a:List Out) (b:Nat×Li):=(List.getD a b.1 Jc9).2
def Kll (a:List Out) (b:Nat×Li):=(Klp a b).2.1
def Kkv (a:List Out) (b:Nat×Nat×Li):=Int.toNat ((Z21 a b).2.1.2-(Z21 a b).2.1.1)-b.2.1
def Kzq (a:List Out) (b c:Nat×Nat×Li):=Klq a b=J05 a c
def Kh8 (a:Nat×Li) (b:List Out) (c:Int) (d:Bt):=a.1≤List.length b∧Js1 c a.2∧List.length a.2≤48*a.1∧Jhj c d (List.drop a.1 b) a.2=Jhj c d b []
def Kti (a:Nat×Nat×Li) (b:List Out) (c:Int) (d:Bt):=a.1<List.length b∧Js1 c a.2.2∧List.length a.2.2≤48*a.1+a.2.1∧a.2.1≤Int.toNat ((Z21 b a).2.1.2-(Z21 b a).2.1.1)∧(a.2.1=0∨Lb (Z21 b a).1 d=true)∧Jhj c d (List.drop (a.1+1) b) (bif Lb (Z21 b a).1 d then Jx1 c ((Z21 b a).2.1.1+Nc a.2.1) (Kkv b a) a.2.2 else a.2.2)=Jhj c d b []
def Kth (a:Nat×Nat×Li) (b:List Out) (c:Int) (d:Bt) (e:Nat×Nat×Li):=Kti a b c d∧e.1=a.1
def Ks3 (a:Nat×Nat×Li) (b:List Out) (c:Int) (d:Bt) (e f:Nat×Nat×Li):=Kth a b c d e∧Kkv b a<Kkv b f
theorem K5h:Ok Tryz.prog 30 Kri:=okW K17 Tryz.f30 (fun xx=>fun id=>if id=0 then some (Kcl xx.1.1 xx.1.2.1 xx.1.2.2.1 xx.1.2.2.2.1 xx.1.2.2.2.2.1 xx.1.2.2.2.2.2.1 xx.1.2.2.2.2.2.2 xx.2.1) else if id=2 then some (Kcm xx.1.1 xx.1.2.1 xx.1.2.2.1 xx.1.2.2.2.1 xx.1.2.2.2.2.1 xx.1.2.2.2.2.2.1 xx.1.2.2.2.2.2.2 xx.2.1) else none) fun xx=>by
 obtain⟨⟨(tk:Int),(st:Int),(S:List Sta),(O:List Ord),(M:List Met),(X:List Out),(Q:List Per)⟩,(s:ByteArray),_⟩:=xx
 refine(by kernel_rfl:(Jt tk st S O M X Q→Br (st==0) ((0,0)=(Jp4 st X s).1∧6=(Jp4 st X s).2) (∃(x:Nat×List Int),Sf s (0=Nc x.1∧Sf S (Sf O (Sf M (Sf X (Sf Q (Si tk (Si st (Si 0 (Si 0 (List.length x.2=0))))))))))∧Kh8 x X st s∧∀(x:Nat×List Int),Kh8 x X st s→Br (decide (Nc x.1<Ln X)) (Tw (Bd (Nc x.1) (Ln X))∧∃(x0:Nat×Nat×List Int),Sf s (Nc x.1=Nc x0.1∧(Kll X x).1=J05 X x0∧Sf S (Sf O (Sf M (Sf X (Sf Q (Si tk (Si st (Si 0 (Si 0 ((List.getD X x.1 Jc9).1=(List.getD X x0.1 V8).1∧(Klp X x).1=Z34 X x0∧(Kll X x).1=Z82 X x0∧(Kll X x).2=Z84 X x0∧(Klp X x).2.2=(Z35 X x0).2∧x.2=x0.2.2))))))))))∧(Kti x0 X st s∧x0.1=x0.1)∧∀(x_1:Nat×Nat×List Int),Kth x_1 X st s x0→Br (bif decide (J05 X x_1<Z84 X x_1) then Lb (Z34 X x_1) s else false) ((decide (J05 X x_1<st)=true→List.length x_1.2.2≤1000000)∧Br (bif decide (J05 X x_1<st) then !Jae x_1.2.2 (J05 X x_1) else false) ((List.length x_1.2.2+1)*8≤140737488355328∧Iw (Klq X x_1)∧∃(y:Nat×Nat×List Int),Sf s (Nc x_1.1=Nc y.1∧Kzq X x_1 y∧Sf S (Sf O (Sf M (Sf X (Sf Q (Si tk (Si st (Si 0 (Si 0 ((List.getD X x_1.1 V8).1=(List.getD X y.1 V8).1∧Z34 X x_1=Z34 X y∧Z82 X x_1=Z82 X y∧Z84 X x_1=Z84 X y∧(Z35 X x_1).2=(Z35 X y).2∧x_1.2.2++[J05 X x_1]=y.2.2))))))))))∧Ks3 y X st s x0 x_1) (Iw (Klq X x_1)∧∃(y:Nat×Nat×List Int),Sf s (Nc x_1.1=Nc y.1∧Kzq X x_1 y∧Sf S (Sf O (Sf M (Sf X (Sf Q (Si tk (Si st (Si 0 (Si 0 ((List.getD X x_1.1 V8).1=(List.getD X y.1 V8).1∧Z34 X x_1=Z34 X y∧Z82 X x_1=Z82 X y∧Z84 X x_1=Z84 X y∧(Z35 X x_1).2=(Z35 X y).2∧x_1.2.2=y.2.2))))))))))∧Ks3 y X st s x0 x_1)) (Iw (Nc x_1.1+1)∧∃(y:Nat×List Int),Sf s (Nc x_1.1+1=Nc y.1∧Sf S (Sf O (Sf M (Sf X (Sf Q (Si tk (Si st (Si 0 (Si 0 (x_1.2.2=y.2))))))))))∧Kh8 y X st s∧List.length X-y.1<List.length X-x.1)) ((Iw (st-Ln x.2)∧(0≤st-Ln x.2∧st-Ln x.2≤1000000000000)∧1≤st∧st≤1000000000000)∧E2 (Jrt (st-Ln x.2) st)=(Jp4 st X s).1∧0=(Jp4 st X s).2)))=_).mp ?_
 delta Z21 Z34 Z35 Z66 Z82 Z84 Jt Jc9 J05 Klq Klp Kll Kkv Kzq Kh8 Kti Kth Ks3 Br Iw Bd Tw Sf Si Ln Nc B0 Lb E2
 intro hr
 have nX:X.length≤16:=hr.nX
 have hst:0≤st∧st≤tk:=hr.st
 have htk:0≤tk∧tk≤999999999:=hr.tk
 have hxo:(({data:={toList:=[]}}:ByteArray),({data:={toList:=[]}}:ByteArray),((0:Int),(0:Int)),(0:Int))=V8:=rfl
 simp only[hxo]
 refine⟨fun h=> ?_,fun h=> ?_⟩
 ·have h:st=0:=by simpa using h
  unfold Jp4
  rw[if_pos h]
  exact⟨rfl,rfl⟩
 have h0:st≠0:=by simpa using h
 refine⟨((0:Nat),[]),by(repeat' first|exact rfl|exact⟨⟩|apply And.intro|omega|dsimp only;omega),⟨Nat.zero_le _,Ju8,Nat.zero_le _,rfl⟩,fun(x:Nat×List Int) hx=>⟨fun h1=> ?_,fun h1=> ?_⟩⟩
 ·obtain⟨i,o⟩:=x
  obtain⟨k1,k2,k3,k4⟩:=hx
  dsimp only at k1 k2 k3 k4 h1⊢
  have hlt:i<X.length:=by simpa using h1
  have ho:Jhy (X.getD i V8).2.2.1:=(hr.out _ (Jc (d:=V8) hlt)).span
  have o1:=ho.lo
  have o2:=ho.mid
  have o3:=ho.hi
  have o4:=ho.len
  rw[Js (d:=V8) hlt,Jhj] at k4
  refine⟨by(repeat' first|exact rfl|exact⟨⟩|apply And.intro|omega|dsimp only;omega),(i,(0:Nat),o),by(repeat' first|exact rfl|exact⟨⟩|apply And.intro|omega|dsimp only;omega),⟨⟨hlt,k2,by dsimp only;omega,Nat.zero_le _, .inl rfl, ?_⟩,by trivial⟩,fun(y:Nat×Nat×List Int) hy=>⟨fun h2=> ?_,fun h2=> ?_⟩⟩
  ·dsimp only
   rw[Nat.sub_zero,Int.natCast_zero,Int.add_zero]
   exact k4
  ·obtain⟨i',j,o'⟩:=y
   obtain⟨⟨m1,m2,m3,m4,m5,m6⟩,hi⟩:=hy
   have hi:i=i':=hi
   subst hi
   dsimp only at m1 m2 m3 m4 m5 m6 h2⊢
   rw[Jfw,Bool.and_eq_true] at h2
   have h3:=of_decide_eq_true h2.1
   have hj:((X.getD i V8).2.2.1.2-(X.getD i V8).2.2.1.1).toNat-j=(((X.getD i V8).2.2.1.2-(X.getD i V8).2.2.1.1).toNat-(j+1))+1:=by omega
   have hc:(X.getD i V8).2.2.1.1+(j:Int)+1=(X.getD i V8).2.2.1.1+((j+1:Nat):Int):=by omega
   rw[h2.2,cond_true,hj,Jx1,hc] at m6
   simp only[Jfw]
   refine⟨fun _=>by omega,fun h4=> ?_,fun h4=> ?_⟩
   ·rw[h4,cond_true] at m6
    rw[Bool.and_eq_true] at h4
    have h5:=of_decide_eq_true h4.1
    refine⟨by omega,by(repeat' first|exact rfl|exact⟨⟩|apply And.intro|omega|dsimp only;omega),(i,j+1,o'++[(X.getD i V8).2.2.1.1+(j:Int)]),by(repeat' first|exact rfl|exact⟨⟩|apply And.intro|omega|dsimp only;omega),⟨⟨hlt,J2c m2 (by omega) h5 (by simpa using h4.2),by rw[List.length_append,List.length_singleton];dsimp only;omega,by dsimp only;omega, .inr h2.2, ?_⟩,rfl⟩,by dsimp only;omega⟩
    dsimp only
    rw[h2.2,cond_true]
    exact m6
   ·rw[h4,cond_false] at m6
    refine⟨by(repeat' first|exact rfl|exact⟨⟩|apply And.intro|omega|dsimp only;omega),(i,j+1,o'),by(repeat' first|exact rfl|exact⟨⟩|apply And.intro|omega|dsimp only;omega),⟨⟨hlt,m2,by dsimp only;omega,by dsimp only;omega, .inr h2.2, ?_⟩,rfl⟩,by dsimp only;omega⟩
    dsimp only
    rw[h2.2,cond_true]
    exact m6
  ·obtain⟨i',j,o'⟩:=y
   obtain⟨⟨m1,m2,m3,m4,m5,m6⟩,hi⟩:=hy
   have hi:i=i':=hi
   subst hi
   dsimp only at m1 m2 m3 m4 m5 m6 h2⊢
   have m7:Jhj st s (X.drop (i+1)) o'=Jhj st s X []:=by
    cases q:(X.getD i V8).2.1.toList==s.toList with
    |false=>rw[q,cond_false] at m6;exact m6
    |true=>
     rw[q,Jfw,Bool.and_true] at h2
     have h2:=of_decide_eq_false h2
     have:((X.getD i V8).2.2.1.2-(X.getD i V8).2.2.1.1).toNat-j=0:=by omega
     rw[q,cond_true,this,Jx1] at m6
     exact m6
   exact⟨by(repeat' first|exact rfl|exact⟨⟩|apply And.intro|omega|dsimp only;omega),(i+1,o'),by(repeat' first|exact rfl|exact⟨⟩|apply And.intro|omega|dsimp only;omega),⟨hlt,m2,by dsimp only;omega,m7⟩,by dsimp only;omega⟩
 ·obtain⟨i,o⟩:=x
  obtain⟨k1,k2,k3,k4⟩:=hx
  dsimp only at k1 k2 k3 k4 h1⊢
  have hlt:¬i<X.length:=by simpa using h1
  rw[List.drop_eq_nil_of_le (by omega),Jhj] at k4
  have hle:=Kqo k2 hst.1
  have e:Jp4 st X s=(Jrt (st-(o.length:Int)) st,0):=by unfold Jp4;rw[if_neg h0,k4]
  rw[e]
  exact⟨⟨⟨by omega,by omega⟩,⟨by omega,by omega⟩,by omega,by omega⟩,rfl,rfl⟩
abbrev K6p:=K17.add K5h
end Go.Proofs.YtcibbcfiemeoiaaGreatDoor

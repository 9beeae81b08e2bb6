/- A symbolic executor over the model and its soundness: part of the proof. -/
import Derived.Test.YtdpcaknnhcnkpaaGreatSxA
import Derived.ArgAppend
import Derived.OrdersIn
import Derived.Scope
import Derived.Maps.RangeRun
import Derived.RangeFuncLeaves
import Derived.RangeFuncRecord
import Derived.RangeFuncOwn
set_option linter.unusedSimpArgs false
set_option linter.unusedVariables false
namespace Go.Sx
open Go.RowKit
theorem Jr1 (σ:Nat→Option Res) (n:Nat) (A B:List (Nat×Option Res)):Kg (Kg σ n [] A) n [] B=Kg σ n [] (B++A):=by
 funext id
 have key:∀(B:List (Nat×Option Res)),look (B++A) id=match look B id with|some x=>some x|none=>look A id:=by
  intro B
  induction B with
  |nil=>rfl
  |cons b B ih=>
   obtain⟨i,y⟩:=b
   simp only[List.cons_append,look]
   split
   ·rfl
   ·exact ih
 unfold Kg
 rw[if_neg (by simp<;>omega),if_neg (by simp<;>omega),if_neg (by simp<;>omega),key]
 cases look B id<;>rfl
theorem Jba {M:Nat→Prop} {w:World} (ρ:Env):∀{s:Sch} (x:s.T),s.hasList=false→Rep M w s x ((enc s x).map (SC.den ρ))
 | .int _,_,_=>rfl
 | .bool,_,_=>rfl
 | .str,_,_=>rfl
 | .flt _,_,_=>rfl
 | .fnc,_,h=>by cases h
 | .prod a b,x,h=>by
  simp only[Sch.hasList,Bool.or_eq_false_iff] at h
  exact⟨_,_,List.map_append,Jba ρ x.1 h.1,Jba ρ x.2 h.2⟩
 | .list _ _,_,h=>by cases h
theorem Ji1:∀{s:Sch} (x:s.T),s.hasList=false→Js (enc s x)=[]
 | .int _,_,_=>rfl
 | .bool,_,_=>rfl
 | .str,_,_=>rfl
 | .flt _,_,_=>rfl
 | .fnc,_,h=>by cases h
 | .prod a b,x,h=>by
  simp only[Sch.hasList,Bool.or_eq_false_iff] at h
  show(enc a x.1++enc b x.2).flatMap SC.ids=[]
  rw[List.flatMap_append]
  have h1:=Ji1 x.1 h.1
  have h2:=Ji1 x.2 h.2
  unfold Js at h1 h2
  rw[h1,h2];rfl
 | .list _ _,_,h=>by cases h
section
variable {P:Program} {N B:Nat} {w0:U7} {al:Nat→Prop} {τ:Nat→Option SV} {σ:Nat→Option Res} {a:Act} {w:World} {ρ:Env} {M R:Nat→Prop} {n:Nat} {d:Option Tmp}
theorem Jg6 [Dr] (C:Jn P N B w0 al τ σ a w ρ M R) {o:Oper} (hd:∀t,o.dst=some t→t<N) {T kT:TypeId} (ho:o.op= .makeMap T none) {gk gv:Bool} {ks vs:Sch} (hok:Jcs P kT gk gv ks vs) (hfresh:∀id,al id→¬(n≤id∧id<n+1)) {pre:List Prop}:
  Ug P N B w0 al τ σ a w R n o ⟨pre, .one (.sl n),[.mp kT gk gv ks vs []],[]⟩:=by
 intro K Q hK
 have hn:¬al n:=fun h=>hfresh n h ⟨Nat.le_refl _,by omega⟩
 obtain⟨ρ',hC⟩:=C.allocRes (n:=n) (d:=o.dst) (x:= .mp kT gk gv ks vs []) (v:= .sl n) (u:= .map (some w.heap.size)) hd hn (.map #[] 0) rfl rfl (fun ρ' h=>h) (fun id h=>by simpa[SC.ids] using h) (fun id h=>by simp[Res.ids] at h) (fun ρ' h5 _=>
  ⟨hok,w.heap.size,#[],h5,heap_alloc_new w _,rfl,fun h=>Nat.lt_irrefl _ (C.old w.heap.size (.inl h)),fun h=>Nat.lt_irrefl _ (C.old w.heap.size (.inr h)),C.base⟩)
 refine Ji ?_ (hK _ _ ρ' M hC)
 simp[execOp,ho,Instr.makeMap]
theorem Xz {kT:TypeId} {gk gv:Bool} {ks vs:Sch} (H:Jcs P kT gk gv ks vs) (ρ:Env) (kd:ks.T) {e:Bool} {w:World}:(Instr.checkKey e 10000 kT (valOf gk ((enc ks kd).map (SC.den ρ)))).run P w= .ok () w:=
 Jcm ρ (H.2.2.2.2.2 kd) H.1 (fun e=>by rw[Hy];exact H.2.2.1 e) 10000 (by omega)
theorem Jju {kT:TypeId} {gk gv:Bool} {ks vs:Sch} (H:Jcs P kT gk gv ks vs) (ρ:Env) (kd:ks.T) {w:World}:(Instr.keyThatStays (valOf gk ((enc ks kd).map (SC.den ρ))) (valOf gk ((enc ks kd).map (SC.den ρ)))).run P w= .ok (valOf gk ((enc ks kd).map (SC.den ρ))) w:=by
 have:=Jdc (g:=gk) (Jfp ρ kd H.2.1) (fun e=>by rw[List.length_map,Hy];exact H.2.2.1 e)
 simp[Instr.keyThatStays,this]
theorem Lp {es:Array MapEntry} {q:Nat} {f:MapEntry→MapEntry}:(es.modify q f).toList=es.toList.modify q f:=by
 apply List.ext_getElem?
 intro j
 rw[Array.getElem?_toList,Array.getElem?_modify,List.getElem?_modify,Array.getElem?_toList]
 by_cases h:q=j<;>simp[h]
theorem Fu {f g:MapEntry→MapEntry}:∀{es:List MapEntry} {q:Nat},(∀e,es[q]? =some e→f e=g e)→es.modify q f=es.modify q g
 |[],_,_=>by simp
 |e::es,0,h=>by simp[h e rfl]
 |e::es,q+1,h=>by simp[Fu (es:=es) (q:=q) fun e' h'=>h e' (by simpa using h')]
theorem Je5 {T kT vT:TypeId} {gk gv:Bool} {ks vs:Sch} {l:List (ks.T×vs.T)} {b:Nat} {es:Array MapEntry} {vc:List Value} {vd:vs.T} (hT:P.underlying T=some (.map kT vT)) (H:Jcs P kT gk gv ks vs) (h2:w.heap[b]? =some (.map es l.length)) (h3:Jr M w gk gv ks vs l 0 es.toList) (ρ:Env) (kd:ks.T) (hv:Rep M w vs vd vc) (hvb:¬M b):
  ∃es',(Instr.mapUpdate T (.map (some b)) (valOf gk ((enc ks kd).map (SC.den ρ))) (valOf gv vc)).run P w= .ok () (J7 w b (.map es' (Xo ks kd vd l).length))∧Jr M (J7 w b (.map es' (Xo ks kd vd l).length)) gk gv ks vs (Xo ks kd vd l) 0 es'.toList:=by
 have hkd:Rep M w ks kd ((enc ks kd).map (SC.den ρ)):=Jba ρ kd H.2.1
 have hkeep:∀o:Obj,∀b',M b'→M b'∧(J7 w b o).heap[b']? =w.heap[b']? :=fun o b' hb'=>⟨hb',Uy fun e=>hvb (e▸hb')⟩
 have hfk:=Fd ρ H kd h3
 cases hr:Dt ks kd l es.toList 0 with
 | none =>
  obtain⟨e1,e2,e3⟩:=Hs h3 hr
  rw[hr] at hfk
  refine⟨es.push {key:=valOf gk ((enc ks kd).map (SC.den ρ)),val:=valOf gv vc,born:=l.length}, ?_, ?_⟩
  ·simp only[Instr.mapUpdate,Sem.run_bind,run_underlying hT,Result.andThen_ok,J9 h2 rfl,Xz H,hfk]
   rw[e3]
   simp only[List.length_append,List.length_cons,List.length_nil]
   exact Vd h2 rfl
  ·rw[e3,Array.toList_push]
   have:=Jr.snoc hkd hv h3
   rw[Nat.zero_add] at this
   exact this.keep (hkeep _)
 | some pv =>
  obtain⟨p,v⟩:=pv
  obtain⟨q,x,kc,vc0,e1,e2,e3,e4,e5,e6,e7,e8,e9,e10⟩:=Hr h3 hr
  rw[hr] at hfk
  rw[Nat.zero_add] at e1
  subst e1
  have hkc:=K7 ρ H.2.1 e6
  subst hkc
  have hes:es[p]? =some {key:=valOf gk ((enc ks kd).map (SC.den ρ)),val:=v,born:=0+p}:=by rw[←Array.getElem?_toList];exact e3
  refine⟨es.modify p fun e=>{e with key:=valOf gk ((enc ks kd).map (SC.den ρ)),val:=valOf gv vc}, ?_, ?_⟩
  ·simp only[Instr.mapUpdate,Sem.run_bind,run_underlying hT,Result.andThen_ok,J9 h2 rfl,Xz H,hfk,hes,Option.map_some,Option.getD_some,Jju H]
   rw[e10]
   simp only[List.length_set]
   exact Vd h2 rfl
  ·rw[e10,Lp]
   exact(Jr.put hkd hv h3).keep (hkeep _)
theorem H9 [Dr] (C:Jn P N B w0 al τ σ a w ρ M R) {o:Oper} (hd:∀t,o.dst=some t→t<N) {rs:Nat→Option Res} (hrs:∀id x,rs id=some x→σ id=some x) {T kT vT:TypeId} {m k x:Operand} {i:Nat} {gk gv:Bool} {ks vs:Sch} {l:List (ks.T×vs.T)} {kc vc:List SC} {kd:ks.T} {vd:vs.T} (ho:o.op= .mapUpdate T m k x∨o.op= .insert T m k x)
  (hT:P.underlying T=some (.map kT vT)) (hm:a.eval m=ρ i) (hk:a.eval k=valOf gk (kc.map (SC.den ρ))) (hx:a.eval x=valOf gv (vc.map (SC.den ρ))) (hkd:dec (fun _=>none) ks kc=some kd) (hvd:dec rs vs vc=some vd) (hr:rs i=some (.mp kT gk gv ks vs l)) {pre:List Prop}:
  Ug P N B w0 al τ σ a w R n o ⟨pre,Jt,[],(i,some (.mp kT gk gv ks vs (Xo ks kd vd l)))::freeze rs vc⟩:=by
 have hlk:∀j y,look (Sx.freeze rs vc) j=some y→∃T s xs,σ j=some (.own T s xs)∧y=some (.imm T s xs):=by
  intro j y h
  obtain⟨T,s,xs,h1,h2⟩:=Vo (Jq h)
  exact⟨T,s,xs,hrs _ _ h1,h2⟩
 have C':=C.freeze n hlk
 have hi':Kg σ n [] (Sx.freeze rs vc) i=some (.mp kT gk gv ks vs l):=by
  unfold Kg
  rw[if_neg (by simp<;>omega)]
  cases hl:look (Sx.freeze rs vc) i with
  |none=>exact hrs _ _ hr
  |some y=>
   obtain⟨T,s,xs,h1,_⟩:=hlk i y hl
   rw[hrs _ _ hr] at h1
   cases h1
 obtain⟨H,b,es,h1,h2,h3,h4,h5,h6⟩:=C'.res i _ hi'
 have hkc:=Ff hkd H.2.1
 subst hkc
 have hv:=Xk (P:=P) (ρ:=ρ) (M:=M) (M':=fun b=>M b∨∃i y T s xs,look (Sx.freeze rs vc) i=some y∧σ i=some (.own T s xs)∧(ρ i).ownBlock=some b) (R:=R) (B:=B) (w:=w) (rs:=rs) (fun _ h=> .inl h) hvd (fun i y h=>C.res i y (hrs i y h)) (fun i T s' xs g hi hr hg=>by
  have:=Uu hi hr
  obtain⟨y,hy⟩:=Option.isSome_iff_exists.1 this
  exact .inr ⟨i,y,T,s',xs,hy,hrs _ _ hr,hg⟩)
 obtain⟨es',r1,r2⟩:=Je5 (w:=w) hT H h2 h3 ρ kd hv h4
 have hC:=C'.putObj (n:=n) (d:=o.dst) hd (x':= .mp kT gk gv ks vs (Xo ks kd vd l)) hi' rfl (by rw[h1];rfl) (.map es' (Xo ks kd vd l).length) ⟨H,b,es',h1,Vh (Array.getElem?_eq_some_iff.1 h2).1,r2,h4,h5,h6⟩ (fun id h=>by simp[Res.ids] at h) (v:=Jt) (u:=undef) rfl (fun id hid=>by simp[Jt,SV.ids,Js,SC.ids] at hid)
 rw[Jr1] at hC
 intro K Q hK
 refine Vv ?_ (hK undef _ ρ _ hC)
 rcases ho with ho|ho<;>simp[execOp,ho,hm,hk,hx,h1,r1]
theorem Dv [Dr] (C:Jn P N B w0 al τ σ a w ρ M R) {o:Oper} (hd:∀t,o.dst=some t→t<N) {ress:List (Bool×Sch)} {y:Tup ress} {vs:List Value} (hr:X8 M w w.heap.size ress [] y vs) (hrun:(execOp a.eval o).run P w= .ok (.value (Jrh vs)) w)
  (hfresh:∀id,al id→¬(n≤id∧id<n+(Jg (Jj ress y) [] n).2.length)) {pre:List Prop}:
  Ug P N B w0 al τ σ a w R n o ⟨pre,Xt (Jg (Jj ress y) [] n).1,(Jg (Jj ress y) [] n).2,[]⟩:=by
 have hp:Jjk M w ress [] y (.returned (Jrh vs)) w:=⟨M,vs,rfl,Below.refl _ _,fun _ h=>h,fun _ h=> .inl h,hr⟩
 have hfit:U4 ress []=true:=by cases ress<;>rfl
 obtain⟨u,ρ',M',e1,e2⟩:=C.returned (n:=n) hd hp hfit hfresh
 cases e1
 intro K Q hK
 exact Ji hrun (hK _ _ ρ' M' e2)
theorem Jjo [Dr] {T:TypeId} {g:Bool} {s:Sch} {zd:s.T} (h:Jf7 P T g s=some zd):∃zc,(zeroValue T).run P w= .ok (valOf g zc) w∧Rep M w s zd zc:=by
 unfold Jf7 at h
 split at h
 ·rename_i i hi
  split at h
  ·rename_i z hz
   split at h
   ·rename_i hg
    have hrep:=Xk (P:=P) (ρ:=fun _=>undef) (M:=M) (M':=M) (R:=fun _=>False) (B:=0) (w:=w) (rs:=fun _=>none) (fun _ h=>h) h (fun i y h=>by cases h) (fun i T s' xs g _ h=>by cases h)
    rw[X6] at hrep
    refine⟨z.cells.toList, ?_,hrep⟩
    have e:valOf g z.cells.toList=z:=by
     subst hg
     cases z<;>rfl
    rw[e]
    simp[zeroValue,typeInfo,hi,hz]
   ·cases h
  ·cases h
 ·cases h
theorem Jl9 [Dr] {T kT vT:TypeId} {gk gv:Bool} {ks vs:Sch} {l:List (ks.T×vs.T)} {b:Nat} {es:Array MapEntry} {zd:vs.T} {ok:Bool} (hT:P.underlying T=some (.map kT vT)) (H:Jcs P kT gk gv ks vs) (h2:w.heap[b]? =some (.map es l.length)) (h3:Jr M w gk gv ks vs l 0 es.toList) (ρ:Env) (kd:ks.T) (hz:Jf7 P vT gv vs=some zd):
  ∃vc,Rep M w vs ((K5 ks kd l).getD zd) vc∧(Instr.lookup T (.map (some b)) (valOf gk ((enc ks kd).map (SC.den ρ))) ok).run P w= .ok (if ok then .tuple #[valOf gv vc, .bool (K5 ks kd l).isSome] else valOf gv vc) w:=by
 have hfk:=Fd ρ H kd h3
 cases hr:Dt ks kd l es.toList 0 with
 |none=>
  obtain⟨e1,e2,e3⟩:=Hs h3 hr
  rw[hr] at hfk
  obtain⟨zc,z1,z2⟩:=Jjo (w:=w) (M:=M) hz
  refine⟨zc,by rw[e1];exact z2, ?_⟩
  simp only[Instr.lookup,Sem.run_bind,run_underlying hT,Result.andThen_ok,J9 h2 rfl,Sem.run_pure,Xz H,hfk,z1,e1]
  cases ok<;>rfl
 |some pv=>
  obtain⟨p,v⟩:=pv
  obtain⟨q,x,kc,vc0,e1,e2,e3,e4,e5,e6,e7,e8,e9,e10⟩:=Hr h3 hr
  rw[hr] at hfk
  refine⟨vc0,by rw[e8];exact e7, ?_⟩
  simp only[Instr.lookup,Sem.run_bind,run_underlying hT,Result.andThen_ok,J9 h2 rfl,Sem.run_pure,Xz H,hfk,e8,e4]
  cases ok<;>rfl
theorem Fv [Dr] (C:Jn P N B w0 al τ σ a w ρ M R) {o:Oper} (hd:∀t,o.dst=some t→t<N) {T kT vT:TypeId} {x k:Operand} {i:Nat} {gk gv:Bool} {ks vs:Sch} {l:List (ks.T×vs.T)} {kc:List SC} {kd:ks.T} {zd:vs.T} {ok:Bool} (ho:o.op= .lookup T x k ok)
  (hT:P.underlying T=some (.map kT vT)) (hm:a.eval x=ρ i) (hk:a.eval k=valOf gk (kc.map (SC.den ρ))) (hkd:dec (fun _=>none) ks kc=some kd) (hz:Jf7 P vT gv vs=some zd) (hr:σ i=some (.mp kT gk gv ks vs l)) {pre:List Prop}:
  (ok=true→(∀id,al id→¬(n≤id∧id<n+(Jg (Jj [(gv,vs),(false, .bool)] ((K5 ks kd l).getD zd,(K5 ks kd l).isSome,())) [] n).2.length))→Ug P N B w0 al τ σ a w R n o ⟨pre,Xt (Jg (Jj [(gv,vs),(false, .bool)] ((K5 ks kd l).getD zd,(K5 ks kd l).isSome,())) [] n).1,(Jg (Jj [(gv,vs),(false, .bool)] ((K5 ks kd l).getD zd,(K5 ks kd l).isSome,())) [] n).2,[]⟩)∧
  (ok=false→(∀id,al id→¬(n≤id∧id<n+(Jg (Jj [(gv,vs)] ((K5 ks kd l).getD zd,())) [] n).2.length))→Ug P N B w0 al τ σ a w R n o ⟨pre,Xt (Jg (Jj [(gv,vs)] ((K5 ks kd l).getD zd,())) [] n).1,(Jg (Jj [(gv,vs)] ((K5 ks kd l).getD zd,())) [] n).2,[]⟩):=by
 obtain⟨H,b,es,h1,h2,h3,h4,h5,h6⟩:=C.res i _ hr
 have hkc:=Ff hkd H.2.1
 subst hkc
 obtain⟨vc,v1,v2⟩:=Jl9 (w:=w) (ok:=ok) hT H h2 h3 ρ kd hz
 have hrun:(execOp a.eval o).run P w= .ok (.value (if ok then .tuple #[valOf gv vc, .bool (K5 ks kd l).isSome] else valOf gv vc)) w:=by
  simp only[execOp,ho,hm,hk,h1]
  exact Ki v2
 refine⟨fun e hf=> ?_,fun e hf=> ?_⟩
 ·subst e
  refine Dv C hd (vs:=[valOf gv vc, .bool (K5 ks kd l).isSome]) ?_ hrun hf
  exact⟨_,_,rfl,⟨vc,rfl,v1⟩,_,_,rfl,⟨[.bool _],rfl,rfl⟩,rfl⟩
 ·subst e
  refine Dv C hd (vs:=[valOf gv vc]) ?_ hrun hf
  exact⟨_,_,rfl,⟨vc,rfl,v1⟩,rfl⟩
theorem Jg5 [Dr] {T kT vT:TypeId} {gk gv:Bool} {ks vs:Sch} {l:List (ks.T×vs.T)} {b:Nat} {es:Array MapEntry} {zd:vs.T} (hT:P.underlying T=some (.map kT vT)) (H:Jcs P kT gk gv ks vs) (h2:w.heap[b]? =some (.map es l.length)) (h3:Jr M w gk gv ks vs l 0 es.toList) (ρ:Env) (kd:ks.T) (hz:Jf7 P vT gv vs=some zd) (hvl:vs.hasList=false) (hvb:¬M b):
  ∃es',(Instr.mapEntry T (.map (some b)) (valOf gk ((enc ks kd).map (SC.den ρ)))).run P w= .ok (.tuple #[valOf gv ((enc vs ((K5 ks kd l).getD zd)).map (SC.den ρ)), .int .i64 (Jab ks kd l)]) (J7 w b (.map es' (Xo ks kd ((K5 ks kd l).getD zd) l).length))∧Jr M (J7 w b (.map es' (Xo ks kd ((K5 ks kd l).getD zd) l).length)) gk gv ks vs (Xo ks kd ((K5 ks kd l).getD zd) l) 0 es'.toList:=by
 have hkd:Rep M w ks kd ((enc ks kd).map (SC.den ρ)):=Jba ρ kd H.2.1
 have hkeep:∀o:Obj,∀b',M b'→M b'∧(J7 w b o).heap[b']? =w.heap[b']? :=fun o b' hb'=>⟨hb',Uy fun e=>hvb (e▸hb')⟩
 have hfk:=Fd ρ H kd h3
 cases hr:Dt ks kd l es.toList 0 with
 | none =>
  obtain⟨e1,e2,e3⟩:=Hs h3 hr
  rw[hr] at hfk
  obtain⟨zc,z1,z2⟩:=Jjo (w:=w) (M:=M) hz
  have hzc:=K7 ρ hvl z2
  subst hzc
  refine⟨es.push {key:=valOf gk ((enc ks kd).map (SC.den ρ)),val:=valOf gv ((enc vs zd).map (SC.den ρ)),born:=l.length}, ?_, ?_⟩
  ·simp only[Instr.mapEntry,Sem.run_bind,run_underlying hT,Result.andThen_ok,J9 h2 rfl,Xz H,hfk,z1]
   rw[e3,e1,e2]
   simp only[List.length_append,List.length_cons,List.length_nil]
   rw[Vd h2 rfl]
   rfl
  ·rw[e3,Array.toList_push,e1]
   have:=Jr.snoc hkd z2 h3
   rw[Nat.zero_add] at this
   exact this.keep (hkeep _)
 | some pv =>
  obtain⟨p,v⟩:=pv
  obtain⟨q,x,kc,vc0,e1,e2,e3,e4,e5,e6,e7,e8,e9,e10⟩:=Hr h3 hr
  rw[hr] at hfk
  rw[Nat.zero_add] at e1
  subst e1
  have hkc:=K7 ρ H.2.1 e6
  subst hkc
  have hvc:=K7 ρ hvl e7
  subst hvc
  have hes:es[p]? =some {key:=valOf gk ((enc ks kd).map (SC.den ρ)),val:=v,born:=0+p}:=by rw[←Array.getElem?_toList];exact e3
  refine⟨es.modify p fun e=>{e with key:=valOf gk ((enc ks kd).map (SC.den ρ))}, ?_, ?_⟩
  ·simp only[Instr.mapEntry,Sem.run_bind,run_underlying hT,Result.andThen_ok,J9 h2 rfl,Xz H,hfk,hes,Option.map_some,Option.getD_some,Jju H]
   rw[e10,e8,e9]
   simp only[List.length_set,Option.getD_some,Nat.zero_add]
   rw[Vd h2 rfl,e4]
   rfl
  ·rw[e10,e8,Lp]
   have:=Jr.put (gv:=gv) hkd e7 h3 (q:=p)
   refine Jr.keep (hkeep _) ?_
   rw[Fu (g:=fun e=>{key:=valOf gk ((enc ks kd).map (SC.den ρ)),val:=valOf gv ((enc vs x.2).map (SC.den ρ)),born:=e.born})]
   ·exact this
   ·intro e he
    rw[e3] at he
    cases he
    rw[e4]
theorem Jdg [Dr] (C:Jn P N B w0 al τ σ a w ρ M R) {o:Oper} (hd:∀t,o.dst=some t→t<N) {T kT vT:TypeId} {m k:Operand} {i:Nat} {gk gv:Bool} {ks vs:Sch} {l:List (ks.T×vs.T)} {kc:List SC} {kd:ks.T} {zd:vs.T} (ho:o.op= .mapEntry T m k)
  (hT:P.underlying T=some (.map kT vT)) (hm:a.eval m=ρ i) (hk:a.eval k=valOf gk (kc.map (SC.den ρ))) (hkd:dec (fun _=>none) ks kc=some kd) (hz:Jf7 P vT gv vs=some zd) (hvl:vs.hasList=false) (hr:σ i=some (.mp kT gk gv ks vs l)) {pre:List Prop}:
  Ug P N B w0 al τ σ a w R n o ⟨pre, .tup [(gv,enc vs ((K5 ks kd l).getD zd)),(false,[.int .i64 (Jab ks kd l)])],[],[(i,some (.mp kT gk gv ks vs (Xo ks kd ((K5 ks kd l).getD zd) l)))]⟩:=by
 obtain⟨H,b,es,h1,h2,h3,h4,h5,h6⟩:=C.res i _ hr
 have hkc:=Ff hkd H.2.1
 subst hkc
 obtain⟨es',r1,r2⟩:=Jg5 (w:=w) hT H h2 h3 ρ kd hz hvl h4
 have hids:Js (enc vs ((K5 ks kd l).getD zd))=[]:=Ji1 _ hvl
 have hC:=C.putObj (n:=n) (d:=o.dst) hd (x':= .mp kT gk gv ks vs (Xo ks kd ((K5 ks kd l).getD zd) l)) hr rfl (by rw[h1];rfl) (.map es' (Xo ks kd ((K5 ks kd l).getD zd) l).length) ⟨H,b,es',h1,Vh (Array.getElem?_eq_some_iff.1 h2).1,r2,h4,h5,h6⟩ (fun id h=>by simp[Res.ids] at h) (v:= .tup [(gv,enc vs ((K5 ks kd l).getD zd)),(false,[.int .i64 (Jab ks kd l)])]) (u:= .tuple #[valOf gv ((enc vs ((K5 ks kd l).getD zd)).map (SC.den ρ)), .int .i64 (Jab ks kd l)]) rfl (fun id hid=>by
  have hid:id∈Js (enc vs ((K5 ks kd l).getD zd))++(Js [SC.int .i64 (Jab ks kd l)]++[]):=hid
  rw[hids] at hid
  simp[Js,SC.ids] at hid)
 intro K Q hK
 refine Ji ?_ (hK _ _ ρ _ hC)
 simp only[execOp,ho,hm,hk,h1]
 exact Ki r1
theorem Jr.putv {gk gv:Bool} {ks vs:Sch} {vd:vs.T} {vc:List Value} (hv:Rep M w vs vd vc):∀{l:List (ks.T×vs.T)} {n:Nat} {es:List MapEntry} {q:Nat},Jr M w gk gv ks vs l n es→Jr M w gk gv ks vs (Jbm vd l q) n (es.modify q fun e=>{e with val:=valOf gv vc})
 |[],n,_,q,h=>by
  have h:_=[]:=h
  subst h
  cases q<;>simp[Jbm]<;>rfl
 |x::l,n,_,0,⟨kc',vc',r,e,h1,h2,h3⟩=>by
  subst e
  exact⟨kc',vc,r,rfl,h1,hv,h3⟩
 |x::l,n,_,q+1,⟨kc',vc',r,e,h1,h2,h3⟩=>by
  subst e
  exact⟨kc',vc',_,rfl,h1,h2,Jr.putv hv h3⟩
theorem Ft {α β:Type} {v:β}:∀{l:List (α×β)} {n:Nat},(Jbm v l n).length=l.length
 |[],_=>by simp[Jbm]
 |_::_,0=>by simp[Jbm]
 |_::l,n+1=>by simp[Jbm,Ft (l:=l)]
theorem Jad [Dr] (C:Jn P N B w0 al τ σ a w ρ M R) {o:Oper} (hd:∀t,o.dst=some t→t<N) {T kT:TypeId} {m s x:Operand} {i:Nat} {gk gv:Bool} {ks vs:Sch} {l:List (ks.T×vs.T)} {vc:List SC} {vd:vs.T} {p:Int} (ho:o.op= .entryStore T m s x)
  (hm:a.eval m=ρ i) (hs:a.eval s= .int .i64 p) (hx:a.eval x=valOf gv (vc.map (SC.den ρ))) (hvd:dec (fun _=>none) vs vc=some vd) (hr:σ i=some (.mp kT gk gv ks vs l)) (hp:0≤p∧p<l.length) {pre:List Prop}:
  Ug P N B w0 al τ σ a w R n o ⟨pre,Jt,[],[(i,some (.mp kT gk gv ks vs (Jbm vd l p.toNat)))]⟩:=by
 obtain⟨H,b,es,h1,h2,h3,h4,h5,h6⟩:=C.res i _ hr
 have hv:=Xk (P:=P) (ρ:=ρ) (M:=M) (M':=M) (R:=R) (B:=B) (w:=w) (rs:=fun _=>none) (fun _ h=>h) hvd (fun i y h=>by cases h) (fun i T s' xs g _ h=>by cases h)
 have hkeep:∀o:Obj,∀b',M b'→M b'∧(J7 w b o).heap[b']? =w.heap[b']? :=fun o b' hb'=>⟨hb',Uy fun e=>h4 (e▸hb')⟩
 have hb:=(h3.born (p:=p.toNat) (by omega)).1
 rw[Nat.zero_add,Int.toNat_of_nonneg hp.1] at hb
 have hb':es.findIdx? (fun e=>(e.born:Int)==p)=some p.toNat:=by
  have e:es=es.toList.toArray:=by simp
  rw[e,List.findIdx?_toArray];exact hb
 have hrep:Jr M (J7 w b (.map (es.modify p.toNat fun e=>{e with val:=valOf gv (vc.map (SC.den ρ))}) l.length)) gk gv ks vs (Jbm vd l p.toNat) 0 (es.modify p.toNat fun e=>{e with val:=valOf gv (vc.map (SC.den ρ))}).toList:=by
  rw[Lp]
  exact(Jr.putv hv h3).keep (hkeep _)
 have hC:=C.putObj (n:=n) (d:=o.dst) hd (x':= .mp kT gk gv ks vs (Jbm vd l p.toNat)) hr rfl (by rw[h1];rfl) (.map (es.modify p.toNat fun e=>{e with val:=valOf gv (vc.map (SC.den ρ))}) l.length) ⟨H,b,_,h1,by rw[Ft];exact Vh (Array.getElem?_eq_some_iff.1 h2).1,hrep,h4,h5,h6⟩ (fun id h=>by simp[Res.ids] at h) (v:=Jt) (u:=undef) rfl (fun id hid=>by simp[Jt,SV.ids,Js,SC.ids] at hid)
 intro K Q hK
 refine Vv ?_ (hK undef _ ρ _ hC)
 have r1:(Instr.entryStore T (.map (some b)) (.int .i64 p) (valOf gv (vc.map (SC.den ρ)))).run P w= .ok () (J7 w b (.map (es.modify p.toNat fun e=>{e with val:=valOf gv (vc.map (SC.den ρ))}) l.length)):=by
  simp only[Instr.entryStore,Sem.run_bind,J9 h2 rfl,Result.andThen_ok,asInt,asIntOf,Sem.run_pure,hb']
  exact Vd h2 rfl
 simp[execOp,ho,hm,hs,hx,h1,r1]
theorem Je2 [Dr] (C:Jn P N B w0 al τ σ a w ρ M R) {o:Oper} (hd:∀t,o.dst=some t→t<N) {T kT' vT kT:TypeId} {x:Operand} {i:Nat} {gk gv:Bool} {ks vs:Sch} {l:List (ks.T×vs.T)} (ho:o.op= .range T x)
  (hT:P.underlying T=some (.map kT' vT)) (hx:a.eval x=ρ i) (hr:σ i=some (.mp kT gk gv ks vs l)) (hfresh:∀id,al id→¬(n≤id∧id<n+1)):
  Ug P N B w0 al τ σ a w R n o ⟨[], .one (.sl n),[.mpi i kT gk gv ks vs l []],[]⟩:=by
 obtain⟨H,b,es,h1,h2,h3,h4,h5,h6⟩:=C.res i _ hr
 have hi:=(C.resIds i _ hr).1
 intro K Q hK
 have hn:¬al n:=fun h=>hfresh n h ⟨Nat.le_refl _,by omega⟩
 obtain⟨ρ',hC⟩:=C.allocRes (n:=n) (d:=o.dst) (x:= .mpi i kT gk gv ks vs l []) (v:= .sl n) (u:= .pointer (some ⟨w.heap.size,0,none⟩)) hd hn (.mapIter (some b) l.length #[] l.length) rfl rfl (fun ρ' h=>h) (fun id h=>by simpa[SC.ids] using h) (fun id h=>by
  have:id=i:=by simpa[Res.ids] using h
  subst this;exact hi) (fun ρ' h5 h7=>
  ⟨w.heap.size,b,h5,(h7 i hi).trans h1,heap_alloc_new w _,fun h=>Nat.lt_irrefl _ (C.old w.heap.size (.inl h)),fun h=>Nat.lt_irrefl _ (C.old w.heap.size (.inr h)),C.base⟩)
 refine Ji ?_ (hK _ _ ρ' M hC)
 simp[execOp,ho,hx,h1,Instr.range,run_underlying hT,J9 h2 rfl]
theorem Je3 [Dr] (C:Jn P N B w0 al τ σ a w ρ M R) {o:Oper} (hd:∀t,o.dst=some t→t<N) {x:Operand} {i j:Nat} {kT:TypeId} {gk gv:Bool} {ks vs:Sch} {l:List (ks.T×vs.T)} {seen:List Nat} (ho:o.op= .entry x) (hx:a.eval x=ρ i)
  (hr:σ i=some (.mpi j kT gk gv ks vs l seen)) (hj:σ j=some (.mp kT gk gv ks vs l)) (hne:seen≠[]) (hlt:seen.getLastD 0<l.length) {pre:List Prop}
  (hfresh:∀id,al id→¬(n≤id∧id<n+(Jg (Jj [(gk,ks),(gv,vs)] ((l.getD (seen.getLastD 0) (ks.dflt,vs.dflt)).1,(l.getD (seen.getLastD 0) (ks.dflt,vs.dflt)).2,())) [] n).2.length)):
  Ug P N B w0 al τ σ a w R n o ⟨pre,Xt (Jg (Jj [(gk,ks),(gv,vs)] ((l.getD (seen.getLastD 0) (ks.dflt,vs.dflt)).1,(l.getD (seen.getLastD 0) (ks.dflt,vs.dflt)).2,())) [] n).1,(Jg (Jj [(gk,ks),(gv,vs)] ((l.getD (seen.getLastD 0) (ks.dflt,vs.dflt)).1,(l.getD (seen.getLastD 0) (ks.dflt,vs.dflt)).2,())) [] n).2,[]⟩:=by
 obtain⟨b,m,h1,h2,h3,_⟩:=C.res i _ hr
 obtain⟨H,b',es,g1,g2,g3,_⟩:=C.res j _ hj
 rw[h2] at g1;cases g1
 have hlx:l[seen.getLastD 0]? =some (l.getD (seen.getLastD 0) (ks.dflt,vs.dflt)):=by
  rw[List.getD_eq_getElem?_getD,List.getElem?_eq_getElem hlt];rfl
 generalize l.getD (seen.getLastD 0) (ks.dflt,vs.dflt)=e at*
 obtain⟨kc,vc,q1,q2,q3⟩:=g3.get hlx
 have hback:seen.toArray.back? =some (seen.getLastD 0):=by
  rw[List.back?_toArray]
  cases seen with
  |nil=>exact absurd rfl hne
  |cons c r=>rw[List.getLast?_cons,List.getLastD_cons,List.getLastD_eq_getLast?]
 have hfind:es.find? (fun e=>e.born==seen.getLastD 0)=some {key:=valOf gk kc,val:=valOf gv vc,born:=seen.getLastD 0}:=by
  rw[←Array.find?_toList]
  have:=(g3.born hlt).2
  rw[Nat.zero_add] at this
  rw[this,q1,Nat.zero_add]
 refine Dv C hd (ress:=[(gk,ks),(gv,vs)]) (y:=(e.1,e.2,())) (vs:=[valOf gk kc,valOf gv vc]) ⟨_,_,rfl,⟨kc,rfl,q2⟩,_,_,rfl,⟨vc,rfl,q3⟩,rfl⟩ ?_ hfresh
 simp only[execOp,ho,hx,h1]
 refine Ki ?_
 simp only[Instr.entry,Sem.run_bind,J9 h3 rfl,Result.andThen_ok,hback,J9 g2 rfl,bne_self_eq_false,Bool.false_eq_true,if_false,Sem.run_pure]
 rw[hfind]
 rfl
end
end Go.Sx
namespace Go.Sx
open Go.RowKit
section
variable {P:Program} {N B:Nat} {w0:U7} {al:Nat→Prop} {τ:Nat→Option SV} {σ:Nat→Option Res} {a:Act} {w:World} {ρ:Env} {M R:Nat→Prop} {n:Nat} {d:Option Tmp}
def Jtp (x:Res) (y:Option Res):Prop:=(∃T s xs,x= .own T s xs∧y=some (.imm T s xs))∨∃T cs,x= .box T cs∧y=some (.fbox T cs)
theorem Jtp.owns {x:Res} {y:Option Res} (h:Jtp x y):x.owning=true:=by
 rcases h with⟨T,s,xs,rfl,_⟩|⟨T,cs,rfl,_⟩<;>rfl
theorem Jn.freezeX [Dr] (C:Jn P N B w0 al τ σ a w ρ M R) (n:Nat) {upd:List (Nat×Option Res)} (hu:∀i y,look upd i=some y→∃x,σ i=some x∧Jtp x y):
  Jn P N B w0 al τ (Kg σ n [] upd) a w ρ (fun b=>M b∨∃i y x,look upd i=some y∧σ i=some x∧x.owning=true∧blk (ρ i)=some b) R:=by
 have key:=C.step (d:=none) (n:=n) (news:=[]) (upd:=upd) (v:=Jt) (u:=undef) (ρ':=ρ) (w':=w) (M':=fun b=>M b∨∃i y x,look upd i=some y∧σ i=some x∧x.owning=true∧blk (ρ i)=some b)
  (fun t h=>by cases h) (fun id _ h=>by simp at h;omega) (fun _ _=>rfl) rfl (fun id hid=>by simp[Jt,SV.ids,Js,SC.ids] at hid) (Below.refl _ _) (Nat.le_refl _) (fun _ h=> .inl h) ?_ (fun _ _=>rfl) ?_ ?_ (fun id h=>by simp at h;omega) ?_ (by
   rintro b (h|⟨i,y,x,_,h2,ho,h3⟩)
   ·exact .inl h
   ·exact .inr ⟨(C.notM h2 ho h3).2.2.1,(C.notM h2 ho h3).2.1⟩)
 ·have e1:Yy al n []=al:=by funext id;simp[Yy];intro h1 h2;omega
  have e2:Yx τ none Jt=τ:=by funext t;simp[Yx]
  rw[e1,e2] at key
  exact key
 ·rintro b (h|⟨i,y,x,_,h2,ho,h3⟩)
  ·exact C.old b (.inl h)
  ·exact(C.notM h2 ho h3).2.2.2
 ·intro r x _ hlk hx ho b hb
  refine⟨rfl, ?_⟩
  rintro(h|⟨i,y,x',h1,h2,ho',h3⟩)
  ·exact(C.notM hx ho hb).1 h
  ·have hne:r≠i:=by rintro rfl;rw[hlk] at h1;cases h1
   exact C.apart r i x _ hne hx h2 ho ho' b hb h3
 ·rintro r x hx (h|h)
  ·simp at h;omega
  ·obtain⟨y,hy⟩:=Option.ne_none_iff_exists'.1 h
   obtain⟨x0,h1,hf⟩:=hu r y hy
   have hown:=hf.owns
   unfold Kg at hx
   rw[if_neg (by simp<;>omega),hy] at hx
   simp only at hx
   subst hx
   rcases hf with⟨T,s,xs,rfl,e⟩|⟨T,cs,rfl,e⟩
   ·cases e
    obtain⟨flat,h2,h3,_⟩:=C.res r _ h1
    refine⟨Jex (T':=T) h2 h3 (fun _ h=> .inl h) fun g hg=> .inr ⟨r,_,_,hy,h1,rfl,Jh hg⟩, .inl (C.resIds r _ h1).1,fun id hid=>by simp[Res.ids] at hid⟩
   ·cases e
    obtain⟨b,h2,h3,_⟩:=C.res r _ h1
    refine⟨⟨b,h2,h3, .inr ⟨r,_,_,hy,h1,rfl,by rw[h2];rfl⟩⟩, .inl (C.resIds r _ h1).1,fun id hid=> .inl ((C.resIds r _ h1).2 id hid)⟩
 ·rintro r r' x x' _ hx _ ho _ (h|h)
  ·simp at h;omega
  ·obtain⟨y,hy⟩:=Option.ne_none_iff_exists'.1 h
   obtain⟨x0,h1,hf⟩:=hu r y hy
   unfold Kg at hx
   rw[if_neg (by simp<;>omega),hy] at hx
   simp only at hx
   subst hx
   rcases hf with⟨T,s,xs,rfl,e⟩|⟨T,cs,rfl,e⟩<;>cases e<;>cases ho
theorem Yn {rs:Nat→Option Res}:∀{cs:List SC} {i:Nat} {y:Option Res},(i,y)∈freezeB rs cs→∃x,rs i=some x∧Jtp x y
 |[],_,_,h=>by simp[Sx.freezeB] at h
 | c :: r, i, y, h => by
  cases c with
  | sl j =>
   simp only[Sx.freezeB] at h
   split at h
   ·rename_i T s xs e
    rcases List.mem_cons.1 h with h|h
    ·cases h;exact⟨_,e, .inl ⟨T,s,xs,rfl,rfl⟩⟩
    ·exact Yn h
   ·exact Yn h
  | ptr j off =>
   simp only[Sx.freezeB] at h
   split at h
   ·rename_i T cs e
    rcases List.mem_cons.1 h with h|h
    ·cases h;exact⟨_,e, .inr ⟨T,cs,rfl,rfl⟩⟩
    ·exact Yn h
   ·exact Yn h
  |_=>exact Yn (cs:=r) h
theorem Jpq {s:Sch} (hno:s.hasList=false):∀{k:Nat} {cs:List SC} {xs:List s.T},Jud s k cs=some xs→U6 (Rep M w s) xs (cs.map (SC.den ρ))∧xs.length=k
 | 0, cs, xs, h => by
  simp only[Jud] at h
  split at h
  ·rename_i e
   cases h
   have:cs=[]:=by simpa using e
   subst this
   exact⟨rfl,rfl⟩
  ·cases h
 | k + 1, cs, xs, h => by
  simp only[Jud] at h
  split at h
  ·rename_i x l hx hl
   cases h
   obtain⟨h1,h2⟩:=Jpq hno hl
   have h3:Rep M w s x ((cs.take s.size).map (SC.den ρ)):=by rw[Ff hx hno];exact Jba ρ x hno
   exact⟨⟨_,_,by rw[←List.map_append,List.take_append_drop],h3,h1⟩,by simp[h2]⟩
  ·cases h
theorem Jgc {i b off k:Nat} {e TT:TypeId} {s:Sch} {cs:List SC} {xs:List s.T} (hi:ρ i= .pointer (some ⟨b,0,none⟩)) (hb:w.heap[b]? =some (.cells (cs.map (SC.den ρ)).toArray TT (0,0))) (hM:M b) (hno:s.hasList=false) (hk:0<k) (hl:off+k*s.size≤cs.length) (hxs:Jud s k ((cs.drop off).take (k*s.size))=some xs):
  Rep M w (.list e s) xs [.slice (some ⟨b,off,none⟩) k k]:=by
 obtain⟨h1,h2⟩:=Jpq (M:=M) (w:=w) (ρ:=ρ) hno hxs
 refine⟨_,_,rfl,h1, .inr ⟨b,off,k,by rw[h2],Nat.le_of_eq h2,fun j u hu=> ?_,fun _=>hM⟩⟩
 refine V6 hb ?_
 rw[List.getElem?_map] at hu
 simp only[List.getElem?_map,List.getElem?_take,List.getElem?_drop] at hu⊢
 split at hu
 ·simpa using hu
 ·cases hu
theorem Fo {T e:TypeId} {k sz b off:Nat} (hT:P.underlying T=some (.array k e)) (hs:Ky P e=some sz):(Instr.sliceAt T (.pointer (some ⟨b,off,none⟩)) none none none).run P w= .ok (.slice (some ⟨b,off,none⟩) k k) w:=by
 simp[Instr.sliceAt,Sem.run_bind,run_underlying hT,Instr.sureAddr,Instr.sliceBounds,J4 hs,Addr.add]
theorem H5 [Dr] (C:Jn P N B w0 al τ σ a w ρ M R) {o:Oper} (hd:∀t,o.dst=some t→t<N) {i off k:Nat} {T e TT:TypeId} {x:Operand} {s:Sch} {sz:Nat} {cs:List SC} {xs:List s.T} (ho:o.op= .slice T x none none none) (hx:a.eval x=(SC.ptr i off).den ρ)
  (hT:P.underlying T=some (.array k e)) (hs:Ky P e=some sz) (hc:sz=s.size∧s.hasList=false∧0<k∧off+k*sz≤cs.length) (hxs:Jud s k ((cs.drop off).take (k*sz))=some xs) (hfresh:∀id,al id→¬(n≤id∧id<n+1)):
  (σ i=some (.box TT cs)→Ug P N B w0 al τ σ a w R n o ⟨[], .one (.sl n),[.imm e s xs],[(i,some (.fbox TT cs))]⟩)∧
  (σ i=some (.fbox TT cs)→Ug P N B w0 al τ σ a w R n o ⟨[], .one (.sl n),[.imm e s xs],[]⟩):=by
 obtain⟨rfl,c1,c2,c3⟩:=hc
 refine⟨fun hr=> ?_,fun hr=> ?_⟩
 ·have C':=C.freezeX n (upd:=[(i,some (.fbox TT cs))]) fun j y h=>by
   simp only[look] at h
   split at h
   ·rename_i e;subst e;cases h;exact⟨_,hr, .inr ⟨TT,cs,rfl,rfl⟩⟩
   ·cases h
  have hi':Kg σ n [] [(i,some (.fbox TT cs))] i=some (.fbox TT cs):=by
   unfold Kg
   rw[if_neg (by simp<;>omega)]
   simp[look]
  obtain⟨b,h1,h2,h3⟩:=C'.res i _ hi'
  have hrep:=Jgc (e:=e) (M:=fun b=>M b∨∃j y x,look [(i,some (Res.fbox TT cs))] j=some y∧σ j=some x∧x.owning=true∧blk (ρ j)=some b) h1 h2 h3 c1 c2 c3 hxs
  obtain⟨ρ',hC⟩:=L6 C' (d:=o.dst) hd hrep hfresh
  rw[He] at hC
  intro K Q hK
  refine Ji ?_ (hK _ w ρ' _ hC)
  have hx':a.eval x= .pointer (some ⟨b,off,none⟩):=by rw[hx];simp[SC.den,h1]
  simp only[execOp,ho,hx']
  exact Ki (Fo hT hs)
 ·obtain⟨b,h1,h2,h3⟩:=C.res i _ hr
  have hrep:=Jgc (e:=e) (M:=M) h1 h2 h3 c1 c2 c3 hxs
  obtain⟨ρ',hC⟩:=L6 C (d:=o.dst) hd hrep hfresh
  intro K Q hK
  refine Ji ?_ (hK _ w ρ' _ hC)
  have hx':a.eval x= .pointer (some ⟨b,off,none⟩):=by rw[hx];simp[SC.den,h1]
  simp only[execOp,ho,hx']
  exact Ki (Fo hT hs)
end
end Go.Sx
namespace Go.Sx
open Go.RowKit
section
variable {P:Program} {N B:Nat} {w0:U7} {al:Nat→Prop} {τ:Nat→Option SV} {σ:Nat→Option Res} {a:Act} {w:World} {ρ:Env} {M R:Nat→Prop} {n:Nat} {d:Option Tmp}
theorem Jn.turn [Dr] (C:Jn P N B w0 al τ σ a w ρ M R) (hd:∀t,d=some t→t<N) (hn:¬al n) {j:Nat} {x0 x':Res} (hj:σ j=some x0) (ho0:x0.owning=true) (hids:x'.ids=[]) {u:Value} {w':World} (hune:u.oneCell'=true)
  (hg:w.grownBy w' (ρ j).ownBlock) (hdr:w.drawn≤w'.drawn) (hwh:u.ownBlock=(ρ j).ownBlock∨u.ownBlock=some w.heap.size) (hub:∀b,blk u=some b→u.ownBlock=some b)
  (hres:(∀b,M b∨R b→w'.heap[b]? =w.heap[b]?)→∀ρ':Env,ρ' n=u→Va P ρ' M R B w' n x'):
  Jn P N B w0 (Yy al n [x']) (Yx τ d (.one (.sl n))) (Kg σ n [x'] [(j,none)]) (a.put d u) w' (Jx ρ n [u]) M R:=by
 have hf3:∀g,(ρ j).ownBlock=some g→¬M g∧¬R g∧B≤g:=fun g hg=>by
  have:=C.notM hj ho0 (Jh hg)
  exact⟨this.1,this.2.1,this.2.2.1⟩
 have hMs:∀b,M b∨R b→w'.heap[b]? =w.heap[b]? :=fun b hb=>hg.block b (C.old b hb) fun h=>by
  have:=hf3 b h.symm
  rcases hb with hb|hb
  ·exact this.1 hb
  ·exact this.2.1 hb
 have en:Jx ρ n [u] n=u:=J8 (i:=0) rfl
 have hne:∀id,al id→id≠n:=fun id h e=>hn (e▸h)
 have eo:∀id,al id→Jx ρ n [u] id=ρ id:=fun id h=>Ju (by have:=hne id h;simp;omega)
 have hjn:al j∧j≠n:=⟨(C.resIds j _ hj).1,hne j (C.resIds j _ hj).1⟩
 have hupd:∀r y,look ([(j,none)]:List (Nat×Option Res)) r=some y→j=r∧y=none:=by
  intro r y h
  simp only[look] at h
  split at h
  ·rename_i e;subst e;cases h;exact⟨rfl,rfl⟩
  ·cases h
 have hother:∀r x,look ([(j,none)]:List (Nat×Option Res)) r=none→σ r=some x→x.owning=true→∀b,blk (ρ r)=some b→some b≠(ρ j).ownBlock:=by
  intro r x hlk hx hox b hb h
  have hrj:r≠j:=by rintro rfl;simp[look] at hlk
  exact C.apart r j x _ hrj hx hj hox ho0 b hb (Jh h.symm)
 refine C.step hd (fun id h=>by have:=hne id h;simp;omega) (fun id h=>Ju (by simpa using h)) (by show u=valOf false [Jx ρ n [u] n];rw[en];rfl) ?_ ((Below.refl B w).grown hg hdr C.base fun k hk=>(hf3 k hk).2.2) hg.size (fun _ h=>h)
  (fun b h=>Nat.lt_of_lt_of_le (C.old b (.inl h)) hg.size) hMs ?_ ?_ ?_ ?_
 ·intro id hid
  have:id=n:=by simpa[SV.ids,Js,SC.ids] using hid
  exact .inr ⟨by omega,by simp;omega⟩
 ·intro r x _ hlk hx hox b hb
  obtain⟨h1,_,_,h2⟩:=C.notM hx hox hb
  exact⟨hg.block b h2 (hother r x hlk hx hox b hb),h1⟩
 ·rintro r x hx (h|h)
  ·have er:r=n:=by simp at h;omega
   subst er
   rw[K8 h] at hx
   simp at hx
   subst hx
   exact⟨hres hMs _ en, .inr h,fun id hid=>by rw[hids] at hid;simp at hid⟩
  ·obtain⟨y,hy'⟩:=Option.ne_none_iff_exists'.1 h
   obtain⟨hjr,rfl⟩:=hupd r y hy'
   have:=hjn.2
   unfold Kg at hx
   rw[if_neg (by simp;omega),hy'] at hx
   cases hx
 ·intro id h
  have er:id=n:=by simp at h;omega
  subst er
  rw[en];exact hune
 ·rintro r r' x1 x2 hne' h1 h2 o1 o2 (h|h) b hb1 hb2
  ·have er:r=n:=by simp at h;omega
   subst er
   rw[en] at hb1
   have hb1':=hub b hb1
   unfold Kg at h2
   rw[if_neg (by simp;omega)] at h2
   split at h2
   ·rename_i y hy'
    obtain⟨_,rfl⟩:=hupd r' _ hy'
    cases h2
   ·rename_i hlk
    rw[eo r' (C.resIds r' x2 h2).1] at hb2
    rcases hwh with hwh|hwh
    ·exact hother r' x2 hlk h2 o2 b hb2 (by rw[←hwh,hb1'])
    ·rw[hwh] at hb1';cases hb1'
     have:=(C.notM h2 o2 hb2).2.2.2
     exact Nat.lt_irrefl _ this
  ·obtain⟨y,hy'⟩:=Option.ne_none_iff_exists'.1 h
   obtain⟨hjr,rfl⟩:=hupd r y hy'
   have:=hjn.2
   unfold Kg at h1
   rw[if_neg (by simp;omega),hy'] at h1
   cases h1
theorem Jlv [Dr] (C:Jn P N B w0 al τ σ a w ρ M R) {o:Oper} (hd:∀t,o.dst=some t→t<N) {i:Nat} {T e:TypeId} {x:Operand} {lo:Option Operand} {s:Sch} {xs:List s.T} {l:Nat} (ho:o.op= .slice T x lo none none) (hx:a.eval x=ρ i)
  (hT:P.underlying T=some (.slice e)) (hs:Ky P e=some s.size) (hlo:Jre (lo.map a.eval) l 0) (h1:l≤xs.length) (hr:σ i=some (.ownT e s xs)) (hfresh:∀id,al id→¬(n≤id∧id<n+1)) (pre:List Prop):
  Ug P N B w0 al τ σ a w R n o ⟨pre, .one (.sl n),[.ownT e s (xs.drop l)],[(i,none)]⟩:=by
 obtain⟨flat,f1,f2,f3⟩:=C.res i _ hr
 have hn:¬al n:=fun h=>hfresh n h ⟨Nat.le_refl _,by omega⟩
 have hfl:=f1.length
 obtain⟨u,hrun,hown,hwh,hone,hub⟩:∃u,(Instr.slice T (ρ i) (lo.map a.eval) none none).run P w= .ok u w∧Jl6 w B e s.size u (xs.drop l).length (flat.drop (l*s.size))∧(u.ownBlock=(ρ i).ownBlock∨u.ownBlock=some w.heap.size)∧u.oneCell'=true∧∀b,blk u=some b→u.ownBlock=some b:=by
  rcases f2.2 with⟨h2,h3⟩|⟨g,dd,cap,cur,h2,hb,hg,h3,h4,h5,h6⟩
  ·rw[h3] at h1
   have hl0:l=0:=by omega
   subst hl0
   refine⟨.slice none 0 0, ?_, ?_, ?_,rfl,fun b hb=>by cases hb⟩
   ·rw[h2]
    have:=Yu (w:=w) hT hs none (len:=0) (cap:=0) hlo (.inl ⟨rfl,rfl⟩) (Nat.le_refl _) (Nat.le_refl _) (Nat.le_refl _)
    simpa using this
   ·refine⟨by simp[hfl,h3], .inl ⟨rfl,by simp[h3]⟩⟩
   ·left;rw[h2]
  ·have hsl:=Yu (w:=w) hT hs (some ⟨g,dd,none⟩) (len:=xs.length) (cap:=cap) hlo (.inl ⟨rfl,rfl⟩) h1 (Nat.le_refl _) h3
   have had:(some (⟨g,dd,none⟩:Addr)).map (·.add (l*s.size))=some ⟨g,dd+l*s.size,none⟩:=by simp[Addr.add_lit]
   by_cases hcl:cap=l
   ·rw[if_pos hcl] at hsl
    have hx0:xs.length=l:=by omega
    refine⟨_,by rw[h2];exact hsl,⟨?_, ?_⟩, ?_,rfl,fun b hb=>by cases hb;rfl⟩
    ·rw[List.length_drop,hfl,List.length_drop,Nat.sub_mul]
    ·have hnil:flat.drop (l*s.size)=[]:=List.drop_eq_nil_of_le (by rw[hfl,hx0];exact Nat.le_refl _)
     refine .inr ⟨g,dd,cap-l,cur,by rw[List.length_drop],hb,hg,by rw[List.length_drop];omega,by omega, ?_, ?_⟩
     ·have:(cap-l)*s.size=0:=by rw[hcl,Nat.sub_self,Nat.zero_mul]
      omega
     ·rw[hnil,List.length_drop,hx0,Nat.sub_self,Nat.zero_mul,List.take_zero]
    ·left;rw[h2];rfl
   ·rw[if_neg hcl,had] at hsl
    have hsub:cap*s.size=l*s.size+(cap-l)*s.size:=by rw[←Nat.add_mul];congr 1;omega
    refine⟨_,by rw[h2];exact hsl,⟨?_, ?_⟩, ?_,rfl,fun b hb=>by cases hb;rfl⟩
    ·rw[List.length_drop,hfl,List.length_drop,Nat.sub_mul]
    ·refine .inr ⟨g,dd+l*s.size,cap-l,cur,by rw[List.length_drop],hb,hg,by rw[List.length_drop];omega,by omega,by omega, ?_⟩
     rw[←h6,List.drop_take,List.drop_drop,List.length_drop,Nat.sub_mul]
    ·left;rw[h2];rfl
 intro K Q hK
 refine Ji ?_ (hK u w _ M (C.turn (n:=n) (d:=o.dst) (x':= .ownT e s (xs.drop l)) hd hn hr rfl rfl hone (World.grownBy.refl _ _) (Nat.le_refl _) hwh hub fun _ ρ' hρ'=> ?_))
 ·simp only[execOp,ho,hx]
  refine Ki ?_
  simp only[Instr.sliceAt,Sem.run_bind,run_underlying hT,Result.andThen_ok]
  exact hrun
 ·refine⟨flat.drop (l*s.size),f1.drop (fun _ _ h=>Rep.length h) l,by rw[hρ'];exact hown,fun g hg=> ?_⟩
  rw[hρ'] at hg
  rcases hwh with hwh|hwh
  ·rw[hwh] at hg;exact f3 g hg
  ·rw[hwh] at hg;cases hg
   exact⟨fun h=>Nat.lt_irrefl _ (C.old _ (.inl h)),fun h=>Nat.lt_irrefl _ (C.old _ (.inr h))⟩
theorem Jmf [Dr] (C:Jn P N B w0 al τ σ a w ρ M R) {o:Oper} (hd:∀t,o.dst=some t→t<N) {i:Nat} {T e:TypeId} {x:Operand} {hi:Option Operand} {s:Sch} {xs:List s.T} {m:Nat} (ho:o.op= .slice T x none hi none) (hx:a.eval x=ρ i)
  (hT:P.underlying T=some (.slice e)) (hs:Ky P e=some s.size) (hhi:Jre (hi.map a.eval) m xs.length) (h1:m≤xs.length) (hr:σ i=some (.own e s xs)) (hfresh:∀id,al id→¬(n≤id∧id<n+1)) (pre:List Prop):
  Ug P N B w0 al τ σ a w R n o ⟨pre, .one (.sl n),[.own e s (xs.take m)],[(i,none)]⟩:=by
 obtain⟨flat,f1,f2,f3⟩:=C.res i _ hr
 have hn:¬al n:=fun h=>hfresh n h ⟨Nat.le_refl _,by omega⟩
 have hfl:=f1.length
 have hlen:(xs.take m).length=m:=by rw[List.length_take];omega
 have hsm:m*s.size≤xs.length*s.size:=Nat.mul_le_mul_right _ h1
 obtain⟨u,hrun,hown,hwh,hone,hub⟩:∃u,(Instr.slice T (ρ i) none (hi.map a.eval) none).run P w= .ok u w∧w.ownsRow B e s.size u (xs.take m).length (flat.take (m*s.size))∧(u.ownBlock=(ρ i).ownBlock∨u.ownBlock=some w.heap.size)∧u.oneCell'=true∧∀b,blk u=some b→u.ownBlock=some b:=by
  rw[hlen]
  rcases f2.2 with⟨h2,h3⟩|⟨g,cap,cur,h2,hb,hg,h3,h4,h5,h6⟩
  ·rw[h3] at h1 hhi
   have hl0:m=0:=by omega
   subst hl0
   refine⟨.slice none 0 0, ?_, ?_, ?_,rfl,fun b hb=>by cases hb⟩
   ·rw[h2]
    have:=Yu (w:=w) hT hs none (len:=0) (cap:=0) (lo:=none) (.inl ⟨rfl,rfl⟩) hhi (Nat.le_refl _) (Nat.le_refl _) (Nat.le_refl _)
    simpa using this
   ·exact⟨by simp, .inl ⟨rfl,rfl⟩⟩
   ·left;rw[h2]
  ·have hsl:=Yu (w:=w) hT hs (some ⟨g,0,none⟩) (len:=xs.length) (cap:=cap) (lo:=none) (.inl ⟨rfl,rfl⟩) hhi (Nat.zero_le _) h1 h3
   have had:(if cap=0 then(some (⟨g,0,none⟩:Addr)) else(some (⟨g,0,none⟩:Addr)).map (·.add (0*s.size)))=some ⟨g,0,none⟩:=by
    split<;>simp[Addr.add_lit]
   rw[had,Nat.sub_zero,Nat.sub_zero] at hsl
   refine⟨_,by rw[h2];exact hsl,⟨?_, ?_⟩, ?_,rfl,fun b hb=>by cases hb;rfl⟩
   ·rw[List.length_take,hfl];omega
   ·refine .inr ⟨g,cap,cur,rfl,hb,hg,by omega,h4,h5, ?_⟩
    rw[←h6,List.take_take,Nat.min_eq_left hsm]
   ·left;rw[h2];rfl
 intro K Q hK
 refine Ji ?_ (hK u w _ M (C.turn (n:=n) (d:=o.dst) (x':= .own e s (xs.take m)) hd hn hr rfl rfl hone (World.grownBy.refl _ _) (Nat.le_refl _) hwh hub fun _ ρ' hρ'=> ?_))
 ·simp only[execOp,ho,hx]
  refine Ki ?_
  simp only[Instr.sliceAt,Sem.run_bind,run_underlying hT,Result.andThen_ok]
  exact hrun
 ·refine⟨flat.take (m*s.size),f1.take (fun _ _ h=>Rep.length h) m,by rw[hρ'];exact hown,fun g hg=> ?_⟩
  rw[hρ'] at hg
  rcases hwh with hwh|hwh
  ·rw[hwh] at hg;exact f3 g hg
  ·rw[hwh] at hg;cases hg
   exact⟨fun h=>Nat.lt_irrefl _ (C.old _ (.inl h)),fun h=>Nat.lt_irrefl _ (C.old _ (.inr h))⟩
theorem Jn.appendT [Dr] (C:Jn P N B w0 al τ σ a w ρ M R) (hd:∀t,d=some t→t<N) (hn:¬al n) {rs:Nat→Option Res} (hrs:∀id x,rs id=some x→σ id=some x)
  {t e ty:TypeId} {s:Sch} {i:TypeInfo} {z:Value} {xs ys:List s.T} {cy:List SC} {j:Nat}
  (ht:P.underlying t=some (.slice e)) (hi:P.info? e=some i) (hz:i.zero=some z) (hsz:i.size=s.size) (hzs:z.cells.size=s.size) (h0:0<s.size) (hb0:0<i.bytes)
  (hj:σ j=some (.ownT e s xs)) (hy:Y7 rs s cy=some ys)
  (hroom:(xs.length+ys.length)*i.bytes≤140737488355328):
  ∃u w' ρ',(Builtin.append_ #[t,t] ty #[ρ j,valOf false (cy.map (SC.den ρ))]).run P w= .ok u w'∧
   Jn P N B w0 (Yy al n [.ownT e s (xs++ys)]) (Yx τ d (.one (.sl n))) (Kg σ n [.ownT e s (xs++ys)] [(j,none)]) (a.put d u) w' ρ' M R:=by
 obtain⟨c,rfl,hrow⟩:=Lz C hrs hy
 obtain⟨flat,hf1,hf2,hf3⟩:=C.res j _ hj
 have hmax:xs.length+ys.length≤maxLen:=by
  have:=Nat.le_mul_of_pos_right (xs.length+ys.length) hb0
  unfold maxLen
  omega
 have hfl:=hf1.length
 have key : ∃ u w' flat2, (Builtin.append_ #[t, t] ty #[ρ j, c.den ρ]).run P w = .ok u w' ∧ U6 (Rep M w s) ys flat2 ∧ Jl6 w' B e s.size u (xs.length + ys.length) (flat ++ flat2) ∧ w.grownBy w' (ρ j).ownBlock ∧ (u.ownBlock = (ρ j).ownBlock ∨ u.ownBlock = some w.heap.size) := by
  rcases hrow with⟨h1,rfl⟩|⟨ad,cap2,flat2,h1,h2,h3⟩
  ·-- nothing is appended
   refine⟨ρ j,w,[], ?_,rfl,by simpa using hf2,World.grownBy.refl _ _, .inl rfl⟩
   rw[h1]
   rcases hf2.2 with⟨e1,e2⟩|⟨g,dd,cap,cur,e1,_,_,e2,_⟩
   ·rw[e1]
    simp[Builtin.append_,run_underlying ht,sizeOf,typeInfo,hi,Builtin.lenOf,Builtin.firstCells]
   ·rw[e1]
    simp[Builtin.append_,run_underlying ht,sizeOf,typeInfo,hi,Builtin.lenOf,Builtin.firstCells,e2,storeCells]
  ·have hl:=h2.length
   have h1c:=Jaj h2
   rcases hf2.2 with⟨e1,e2⟩|⟨g,dd,cap,cur,e1,hb,hg,e2,e3,e4,e5⟩
   ·have hown:w.ownsRow B e s.size (ρ j) xs.length flat:=⟨hf2.1, .inl ⟨e1,e2⟩⟩
    obtain⟨u,w',hr,ho,hg,_⟩:=run_append_own (P:=P) w B t ty e i z s.size i.bytes ht hi hz hsz rfl hzs h0 (ρ j) xs.length flat hown ad ys.length cap2 flat2 hl h3 h1c hmax hroom C.base
    exact⟨u,w',flat2,by rw[h1];exact hr,h2,Jew ho,hg,F6 t ty e i z ht hi hz hsz rfl hown hl h3 h1c hmax hroom hr⟩
   ·have hold:∀k u,flat[k]? =some u→w.cell? ((⟨g,dd,none⟩:Addr).add k)=some u:=(Jbg hf2 e1).2
    by_cases hrm:xs.length+ys.length≤cap
    ·-- there is room
     have hmulr:(xs.length+ys.length)*s.size≤cap*s.size:=Nat.mul_le_mul_right _ hrm
     rw[Nat.add_mul] at hmulr
     have hst:=run_storeCells_at P g (dd+xs.length*s.size) e flat2 0 cur w hg (by omega) h1c
     rw[Nat.add_zero] at hst
     have hfc:(Builtin.firstCells i.size ys.length (.slice (some ad) ys.length cap2)).run P w= .ok flat2.toArray w:=by
      have:=run_loadCells_list (P:=P) w ad flat2 h3
      rw[hl] at this
      simpa[Builtin.firstCells,hsz] using this
     have hX:∃X:Array Value,X=(cur.toList.take (dd+xs.length*s.size)++flat2++cur.toList.drop (dd+xs.length*s.size+flat2.length)).toArray:=⟨_,rfl⟩
     obtain⟨X,hX⟩:=hX
     rw[←hX] at hst
     have hXs:X.size=cur.size:=by rw[hX];simp;omega
     refine⟨.slice (some ⟨g,dd,none⟩) (xs.length+ys.length) cap,w.setRow g X,flat2, ?_,h2,⟨?_, .inr ⟨g,dd,cap,X,rfl,hb,setRow_heap w g cur X e (0,0) hg,hrm,e3,by omega, ?_⟩⟩, ?_, .inl (by rw[e1];rfl)⟩
     ·rw[h1,e1]
      rw[hsz] at hfc
      simp[Builtin.append_,run_underlying ht,sizeOf,typeInfo,hi,Builtin.lenOf,hrm,hfc,Addr.add_lit,hsz,hst]
     ·rw[List.length_append,hfl,hl,Nat.add_mul]
     ·rw[hX,List.toList_toArray,Nat.add_mul,←hl]
      have e6:(cur.toList.take (dd+xs.length*s.size)++flat2++cur.toList.drop (dd+xs.length*s.size+flat2.length)).drop dd=flat++flat2++cur.toList.drop (dd+xs.length*s.size+flat2.length):=by
       rw[List.append_assoc,List.drop_append,List.length_take,Nat.min_eq_left (by show _≤cur.size;exact Nat.le_trans (by omega) e4),List.drop_take,show dd+xs.length*s.size-dd=xs.length*s.size by omega,e5,show dd-(dd+xs.length*s.size)=0 by omega,List.drop_zero,List.append_assoc]
      rw[e6,List.take_left' (by rw[List.length_append,hfl])]
     ·rw[e1]
      refine⟨rfl,rfl,rfl,by rw[Yv];exact Nat.le_refl _,fun k _ hk=>setRow_other w g k X fun h=>hk (by rw[h];rfl)⟩
    ·-- there is none
     have hfit:(xs.length+ys.length)*i.bytes≤140737488355328:=hroom
     obtain⟨u,w',hr,ho,hgr⟩:=run_append_arg_grows (P:=P) w t ty e i z s.size i.bytes ht hi hz hsz rfl hzs h0 ⟨g,dd,none⟩ xs.length cap flat hfl hold ad ys.length cap2 flat2 hl h3 (by omega) hmax hfit
     have hgb:u.ownBlock=some w.heap.size:=by
      have hsmall:xs.length+ys.length≤9223372036854775807:=by simp only[maxLen] at hmax;omega
      rw[run_append_grow (P:=P) w t ty e i z ht hi hz ⟨g,dd,none⟩ xs.length cap flat (by rw[hfl,hsz]) hold ad ys.length cap2 flat2 (by rw[hl,hsz]) h3 (by omega) (by omega) (growslice_fits (by omega) hfit)] at hr
      cases hr
      rfl
     refine⟨u,w',flat2,by rw[h1,e1];exact hr,h2, ?_,⟨hgr.os,hgr.tape,hgr.output,hgr.size,fun k hk _=>hgr.block k hk (by simp)⟩, .inr hgb⟩
     have:=Jew ho
     refine⟨this.1, ?_⟩
     rcases this.2 with q|⟨g',d',cap',cur',q1,q2,q3⟩
     ·exact .inl q
     ·exact .inr ⟨g',d',cap',cur',q1,Nat.le_trans C.base q2,q3⟩
 obtain⟨u,w',flat2,hr,hf4,ho,hg,hwh⟩:=key
 have hone:u.oneCell'=true:=by
  rcases ho.2 with⟨h,_⟩|⟨g,dd,cap,cur,h,_⟩<;>rw[h]<;>rfl
 have hub:∀b,blk u=some b→u.ownBlock=some b:=by
  intro b hb
  rcases ho.2 with⟨h,_⟩|⟨g,dd,cap,cur,h,_⟩
  ·rw[h] at hb;cases hb
  ·rw[h] at hb⊢;cases hb;rfl
 refine⟨u,w',_,hr,C.turn (x':= .ownT e s (xs++ys)) hd hn hj rfl rfl hone hg (Jgm hr) hwh hub fun hMs ρ' hρ'=> ?_⟩
 refine⟨flat++flat2,(hf1.append hf4).imp fun _ _ h=>h.keep fun b hb=>⟨hb,hMs b (.inl hb)⟩, ?_,fun g hgb=> ?_⟩
 ·rw[hρ',List.length_append];exact ho
 ·rw[hρ'] at hgb
  rcases hwh with hwh|hwh
  ·rw[hwh] at hgb;exact hf3 g hgb
  ·rw[hwh] at hgb;cases hgb
   exact⟨fun h=>Nat.lt_irrefl _ (C.old _ (.inl h)),fun h=>Nat.lt_irrefl _ (C.old _ (.inr h))⟩
end
end Go.Sx
namespace Go.Sx
open Go.RowKit
section
variable {P:Program} {N B:Nat} {w0:U7} {al:Nat→Prop} {τ:Nat→Option SV} {σ:Nat→Option Res} {a:Act} {w:World} {ρ:Env} {M R:Nat→Prop} {n:Nat}
theorem Jel [Dr] {rs:Nat→Option Res} {M' R':Nat→Prop} {F:Nat→Prop} (V:Jq7 P ρ B M R w rs M' R' F):∀{ps:List (Bool×Sch)} {l:List SV} {y:Tup ps},Xr rs ps l=some y→(∀v∈l,Jto rs F v)→Jq8 M' w ps y (l.map (SV.den ρ))
 |[],[],_,_,_=>rfl
 |[],_::_,_,h,_=>by simp[Xr] at h
 |_::_,[],_,h,_=>by simp[Xr] at h
 | p :: r, v :: vs, y, h, hf => by
  cases v with
  |tup _=>simp[Xr] at h
  | v g cs =>
   simp only[Xr] at h
   split at h
   ·rename_i e;subst e
    split at h
    ·rename_i x z h1 h2
     cases h
     exact⟨cs.map (SC.den ρ),vs.map (SV.den ρ),rfl,Xk (P:=P) (R:=R) (B:=B) V.data h1 V.res fun i T s' xs g hi hr hg=>V.own i T s' xs g ((hf (.v p.1 cs) (by simp)).1 i hi) hr hg,Jel V h2 fun u hu=>hf u (by simp[hu])⟩
    ·cases h
   ·cases h
theorem Jqy [Dr] (C:Jn P N B w0 al τ σ a w ρ M R) {o:Oper} (hd:∀t,o.dst=some t→t<N) {rs:Nat→Option Res} (hrs:∀id x,rs id=some x→σ id=some x) {j:Nat} {ps:List (Bool×Sch)} {r0:Bool×Sch} {pre:Tup ps→List Prop} {h:Tup ps→r0.2.T}
  (hj:rs j=some (.afn ps r0 pre h)) {l:List SV} {y:Tup ps} (hy:Xr rs ps l=some y) (hpre:Kq (pre y))
  (hfresh:∀id,al id→¬(n≤id∧id<n+(Jg (Jj [r0] (h y,())) [] n).2.length))
  (hrun:∀f first caps,ρ j= .func (.func f) first caps→X9 P f→(execOp a.eval o).run P w= .ok (.enter f (first++(l.map (SV.den ρ)).toArray++caps)) w):
  Ug P N B w0 al τ σ a w R n o ⟨[Kq (pre y)],Xt (Jg (Jj [r0] (h y,())) [] n).1,(Jg (Jj [r0] (h y,())) [] n).2,if hasList [r0] then l.flatMap (Fb rs) else[]⟩:=by
 obtain⟨f,first,caps,e,hE,H⟩:=C.res j _ (hrs j _ hj)
 have hr:=hrun f first caps e hE
 have hfit:U4 [r0] []=true:=rfl
 intro K Q hK
 cases hl:hasList [r0] with
 | false =>
  have V:=C.viewAll hrs
  have hc:=H y _ w (l.map (SV.den ρ)) V.data (fun _ _=>rfl) (fun b hb=>V.size b (.inl hb)) C.goodNow hpre (Jel V hy fun v _=>by
   cases v with
   |v g cs=>exact⟨fun _ _=>trivial,fun _ _ _ _ _ _ _ _=>trivial⟩
   |tup vs=>trivial)
  refine Vw hr hc fun e w' hp=> ?_
  obtain⟨u,e1,e2⟩:=C.returned_plain (n:=n) hd hp hfit hl
  refine⟨u,e1,hK u w' ρ M ?_⟩
  simp only[hl]
  exact e2
 | true =>
  have hlk:∀i y,look (l.flatMap (Fb rs)) i=some y→∃T s xs,σ i=some (.own T s xs)∧y=some (.imm T s xs):=by
   intro i y h
   obtain⟨v,_,hy⟩:=List.mem_flatMap.1 (Jq h)
   obtain⟨T,s,xs,h1,h2⟩:=Jkp hy
   exact⟨T,s,xs,hrs _ _ h1,h2⟩
  have V:=C.viewFrz hrs (l.flatMap (Fb rs))
  have C':=C.freeze n hlk
  have hc:=H y _ w (l.map (SV.den ρ)) V.data (fun _ _=>rfl) (fun b hb=>V.size b (.inl hb)) C.goodNow hpre (Jel V hy fun v hv=>(Jko hv).1)
  refine Vw hr hc fun e w' hp=> ?_
  obtain⟨u,ρ',M',e1,e2⟩:=C'.returned (n:=n) hd hp hfit hfresh
  refine⟨u,e1,hK u w' ρ' M' ?_⟩
  simp only[hl]
  rw[He] at e2
  exact e2
theorem Jpl {T i d m:Nat} {U:TypeId} (h:Zk P T i=some (d,U)) (hm:Ky P U=some m) {cs:List SC} (hl:d+m≤cs.length) {v:SV} (hv:shape P U ((cs.drop d).take m)=some v) (ρ:Env) (w:World):
  (Instr.field T (.agg (cs.map (SC.den ρ)).toArray) i).run P w= .ok (v.den ρ) w:=by
 obtain⟨g,hg,rfl,h1⟩:=Yw hv
 unfold Zk at h
 cases hu:P.underlying T with
 |none=>rw[hu] at h;cases h
 | some dd =>
  rw[hu] at h
  cases dd<;>try(cases h;done)
  rename_i fs
  cases hf:fs[i]? with
  |none=>simp[hf] at h
  | some f =>
   simp only[hf] at h
   cases hs:Ky P f.type with
   |none=>simp[hs] at h
   | some k =>
    simp only[hs] at h
    cases k with
    |zero=>cases h
    | succ k =>
     cases h
     rw[hs] at hm;cases hm
     have hlen:((cs.drop f.offset).take (k+1)).length=k+1:=by simp;omega
     cases g with
     |true=>
      simp[Instr.field,Sem.run_bind,run_underlying hu,hf,asAgg,part,X3 hg,J4 hs,SV.den,valOf,List.map_take,List.map_drop]
     |false=>
      have:=h1 rfl
      rw[hlen] at this
      have hk:k=0:=by omega
      subst hk
      have hlt:f.offset<cs.length:=by omega
      have e:(cs.drop f.offset).take (0+1)=[cs[f.offset]]:=by rw[List.drop_eq_getElem_cons hlt];rfl
      have e2:(SV.v false ((cs.drop f.offset).take (0+1))).den ρ=SC.den ρ cs[f.offset]:=by rw[e];rfl
      rw[e2]
      simp[Instr.field,Sem.run_bind,run_underlying hu,hf,asAgg,part,X3 hg,List.getElem?_eq_getElem hlt]
theorem Jfe {T:TypeId} {s:ByteArray} {k:IntKind} {m:Int} (hT:P.underlying T=some .string) (h:0≤m∧m<s.size) (w:World):
  (Instr.index T (.string s) (.int k m)).run P w= .ok (.int .u8 (Jk1 s m)) w:=by
 have hlt:m.toNat<s.size:=by omega
 have e:s[m.toNat]? =some (s[m.toNat]'hlt):=by simp[getElem?_pos,hlt]
 have e2:Jk1 s m=((s[m.toNat]'hlt).toNat:Int):=by
  unfold Jk1
  have h2:m.toNat<s.data.toList.length:=by simpa using hlt
  rw[List.getD_eq_getElem?_getD,List.getElem?_eq_getElem h2]
  rfl
 simp[Instr.index,asIntOf,Sem.run_bind,run_underlying hT,h.1,e,e2,Sem.run_pure]
theorem Jff {T e:TypeId} {sz len:Nat} {k:IntKind} {m:Int} (hT:P.underlying T=some (.array len e)) (hs:Ky P e=some sz) {cs:List SC} (h:0≤m∧m<(len:Int)∧m.toNat*sz+sz≤cs.length) {v:SV} (hv:shape P e ((cs.drop (m.toNat*sz)).take sz)=some v) (ρ:Env) (w:World):
  (Instr.index T (.agg (cs.map (SC.den ρ)).toArray) (.int k m)).run P w= .ok (v.den ρ) w:=by
 obtain⟨g,hg,rfl,h1⟩:=Yw hv
 have hlen:((cs.drop (m.toNat*sz)).take sz).length=sz:=by simp;omega
 cases g with
 |true=>
  simp[Instr.index,asIntOf,Sem.run_bind,run_underlying hT,h.1,h.2.1,part,X3 hg,J4 hs,SV.den,valOf,List.map_take,List.map_drop]
 |false=>
  have hk:=h1 rfl
  rw[hlen] at hk
  subst hk
  have hlt:m.toNat*1<cs.length:=by omega
  have e:(cs.drop (m.toNat*1)).take 1=[cs[m.toNat*1]]:=by rw[List.drop_eq_getElem_cons hlt];rfl
  have e2:(SV.v false ((cs.drop (m.toNat*1)).take 1)).den ρ=SC.den ρ cs[m.toNat*1]:=by rw[e];rfl
  rw[e2]
  have hlt':m.toNat<cs.length:=by omega
  simp[Instr.index,asIntOf,Sem.run_bind,run_underlying hT,h.1,h.2.1,part,X3 hg,J4 hs,List.getElem?_eq_getElem hlt']
theorem Jv2 [Dr] {t ty:TypeId} {x:SV} {m:Int} {rs:Nat→Option Res} (hres:∀i y,rs i=some y→Jxx P ρ M R B w i y) (h:J9m P rs t x=some m) (ts:Array TypeId) (ht:ts[0]? =some t):
  (Builtin.len_ ts ty #[x.den ρ]).run P w= .ok (.int .i64 m) w:=by
 unfold J9m at h
 split at h
 ·rename_i i
  split at h
  ·rename_i e hu
   have key:∀n:Nat,(∃ad cap,ρ i= .slice ad n cap)→(Builtin.len_ ts ty #[(SV.v false [.sl i]).den ρ]).run P w= .ok (.int .i64 n) w:=by
    rintro n ⟨ad,cap,e⟩
    rw[show(SV.v false [.sl i]).den ρ= .slice ad n cap from e]
    simp[Builtin.len_,ht,Sem.run_bind,run_underlying hu,goInt]
   split at h
   ·rename_i T s xs hr
    cases h
    obtain⟨v,flat,h1,_,h3⟩:=hres i _ hr
    cases h1
    rcases h3 with⟨h3|⟨_,_,h3⟩,h4⟩|⟨b,off,cap,h3,_⟩
    ·exact key _ ⟨_,_,by rw[h3,h4]⟩
    ·exact key _ ⟨_,_,by rw[h3,h4]⟩
    ·exact key _ ⟨_,_,h3⟩
   ·rename_i T s xs hr
    cases h
    obtain⟨flat,_,h2,_⟩:=hres i _ hr
    rcases h2.2 with⟨h2,h4⟩|⟨g,cap,cur,h3,_⟩
    ·exact key _ ⟨_,_,by rw[h2,h4]⟩
    ·exact key _ ⟨_,_,h3⟩
   ·rename_i T s xs hr
    cases h
    obtain⟨flat,_,h2,_⟩:=hres i _ hr
    rcases h2.2 with⟨h2,h4⟩|⟨g,dd,cap,cur,h3,_⟩
    ·exact key _ ⟨_,_,by rw[h2,h4]⟩
    ·exact key _ ⟨_,_,h3⟩
   ·cases h
  ·rename_i kT vT hu
   split at h
   ·rename_i kT' gk gv ks vs l hr
    cases h
    obtain⟨_,b,es,h1,h2,h3,_⟩:=hres i _ hr
    have hsz:es.size=l.length:=by have:=h3.length;simpa using this
    rw[show(SV.v false [.sl i]).den ρ= .map (some b) from h1]
    simp[Builtin.len_,ht,Sem.run_bind,run_underlying hu,goInt,J9 h2 rfl,hsz]
   ·cases h
  ·cases h
 ·split at h
  ·rename_i e hu
   cases h
   simp[Builtin.len_,ht,Sem.run_bind,run_underlying hu,SV.den,valOf,SC.den,goInt]
  ·cases h
 ·split at h
  ·rename_i s hu
   cases h
   simp[Builtin.len_,ht,Sem.run_bind,run_underlying hu,SV.den,valOf,SC.den,goInt]
  ·cases h
 ·cases h
theorem Ud {o:Oper} {c:Call} {b:Builtin} (ho:o.op= .call c) (hc:c.callee= .builtin b) {a:Act} {s:Array TypeId→TypeId→Array Value→Sem Value}
  (hb:∀ts ty cs args,builtin b ts ty cs args=(do pure (.value (←s ts ty args)))) {u:Value} {w w':World} (h:(s c.argTypes o.type (c.args.map a.eval)).run P w= .ok u w'):
  (execOp a.eval o).run P w= .ok (.value u) w':=by
 simp[execOp,ho,resolve,hc,invoke,hb,h]
theorem Hx {ev:Operand→Option SV} (hev:∀x sv,ev x=some sv→a.eval x=sv.den ρ∧∀id∈sv.ids,al id) {c:Call} {l:List SV} (h:evL ev c.args.toList=some l):
  c.args.map a.eval=(l.map (SV.den ρ)).toArray∧∀v∈l,∀id∈v.ids,al id:=by
 obtain⟨h1,h2⟩:=Xl hev h
 refine⟨?_,h2⟩
 rw[←h1]
 apply Array.ext'
 simp
theorem Jsk {k k':IntKind} {x y:Int} (w:World) (ts:Array TypeId) (ty:TypeId):(Builtin.max_ ts ty #[.int k x, .int k' y]).run P w= .ok (.int k (max x y)) w:=by
 have:(max x y)=(if x<y then y else x):=by rw[Int.max_def];split<;>split<;>omega
 simp[Builtin.max_,Builtin.max2,this]
theorem Jsi {k k':IntKind} {x y:Int} (w:World) (ts:Array TypeId) (ty:TypeId):(Builtin.min_ ts ty #[.int k x, .int k' y]).run P w= .ok (.int k (min x y)) w:=by
 have:(min x y)=(if y<x then y else x):=by rw[Int.min_def];split<;>split<;>omega
 simp[Builtin.min_,Builtin.min2,this]
theorem Jou {k k' k2:IntKind} {x y z:Int} (w:World) (ts:Array TypeId) (ty:TypeId):(Builtin.max_ ts ty #[.int k x, .int k' y, .int k2 z]).run P w= .ok (.int k (max (max x y) z)) w:=by
 have e:∀x y:Int,(if x<y then y else x)=max x y:=fun x y=>by rw[Int.max_def];split<;>split<;>omega
 simp[Builtin.max_,Builtin.max2,e]
theorem Joq {k k' k2:IntKind} {x y z:Int} (w:World) (ts:Array TypeId) (ty:TypeId):(Builtin.min_ ts ty #[.int k x, .int k' y, .int k2 z]).run P w= .ok (.int k (min (min x y) z)) w:=by
 have e:∀x y:Int,(if y<x then y else x)=min x y:=fun x y=>by rw[Int.min_def];split<;>split<;>omega
 simp[Builtin.min_,Builtin.min2,e]
theorem Jfu [Dr] (C : Jn P N B w0 al τ σ a w ρ M R) {o : Oper} (hd : ∀ t, o.dst = some t → t < N) {rs : Nat → Option Res} (hrs : ∀ id x, rs id = some x → σ id = some x)
  {ev:Operand→Option SV} (hev:∀x sv,ev x=some sv→a.eval x=sv.den ρ∧∀id∈sv.ids,al id) {c:Call} {b:Builtin} (ho:o.op= .call c) (hc:c.callee= .builtin b) {l:List SV} (hl:evL ev c.args.toList=some l) {out:Out}
  (hop:Jfv P rs n b c.argTypes.toList l=some out) (hpre:Kq out.pre) (hfresh:∀id,al id→¬(n≤id∧id<n+out.news.length)):Ug P N B w0 al τ σ a w R n o out:=by
 obtain⟨hargs,hids⟩:=Hx hev hl
 unfold Jfv at hop
 split at hop
 ·rename_i x
  split at hop
  ·rename_i t ts hts
   split at hop
   ·rename_i m hm
    cases hop
    refine Jb C hd rfl rfl (Ud ho hc (s:=Builtin.len_) (fun _ _ _ _=>rfl) ?_) (fun id hid=>by simp[SV.ids,Js,SC.ids] at hid)
    rw[hargs]
    exact Jv2 (fun i y h=>C.res i y (hrs i y h)) hm _ (by rw[←Array.getElem?_toList,hts];rfl)
   ·cases hop
  ·cases hop
 ·rename_i k x k' y
  cases hop
  refine Jb C hd rfl rfl (Ud ho hc (s:=Builtin.max_) (fun _ _ _ _=>rfl) ?_) (fun id hid=>by simp[SV.ids,Js,SC.ids] at hid)
  rw[hargs]
  exact Jsk w _ _
 ·rename_i k x k' y
  cases hop
  refine Jb C hd rfl rfl (Ud ho hc (s:=Builtin.min_) (fun _ _ _ _=>rfl) ?_) (fun id hid=>by simp[SV.ids,Js,SC.ids] at hid)
  rw[hargs]
  exact Jsi w _ _
 ·rename_i k x k' y k2 z
  cases hop
  refine Jb C hd rfl rfl (Ud ho hc (s:=Builtin.max_) (fun _ _ _ _=>rfl) ?_) (fun id hid=>by simp[SV.ids,Js,SC.ids] at hid)
  rw[hargs]
  exact Jou w _ _
 ·rename_i k x k' y k2 z
  cases hop
  refine Jb C hd rfl rfl (Ud ho hc (s:=Builtin.min_) (fun _ _ _ _=>rfl) ?_) (fun id hid=>by simp[SV.ids,Js,SC.ids] at hid)
  rw[hargs]
  exact Joq w _ _
 ·rename_i i y
  split at hop
  ·rename_i t t' hts
   split at hop
   ·rename_i e hu
    split at hop
    ·rename_i e' s xs hr
     split at hop
     ·rename_i he
      obtain⟨e1,hsz⟩:=he
      subst e1
      split at hop
      ·rename_i ys hys
       cases hop
       have p1:ys.length=xs.length:=hpre
       have hts':c.argTypes= #[t,t']:=by
        apply Array.ext';simpa using hts
       unfold Jke at hys
       split at hys
       ·rename_i cy
        obtain⟨w',h1,h2⟩:=C.copyOwn (n:=n) (d:=o.dst) (t':=t') (ty:=o.type) hd hrs (hrs i _ hr) hu hsz hys p1
        intro K Q hK
        refine Ji (Ud ho hc (s:=Builtin.copy_) (fun _ _ _ _=>rfl) ?_) (hK _ w' ρ M h2)
        rw[hargs,hts']
        exact h1
       ·cases hys
      ·cases hop
     ·cases hop
    ·cases hop
   ·cases hop
  ·cases hop
 ·rename_i x y
  split at hop
  ·rename_i t t' hts
   split at hop
   ·rename_i e; subst e
    split at hop
    ·rename_i e hu
     split at hop
     ·rename_i s i hs hi
      split at hop
      ·rename_i z hz
       split at hop
       ·rename_i hcnd
        obtain⟨c1,c2,c3,c4⟩:=hcnd
        split at hop
        ·rename_i ys hys
         have hts':c.argTypes= #[t,t]:=by
          apply Array.ext';simpa using hts
         unfold Jke at hys
         split at hys
         ·rename_i cy
          split at hop
          ·cases hop
           obtain⟨u,w',ρ',h1,h2⟩:=C.append (n:=n) (d:=o.dst) (ty:=o.type) (xs:=[]) (j:=none) hd (fun h=>hfresh n h ⟨Nat.le_refl _,by simp⟩) hrs hu hi hz c1 c2 c3 c4 ⟨rfl,rfl⟩ hys (by have h:ys.length*i.bytes≤140737488355328:=hpre;simpa using h)
           intro K Q hK
           refine Ji (Ud ho hc (s:=Builtin.append_) (fun _ _ _ _=>rfl) ?_) (hK u w' ρ' M h2)
           rw[hargs,hts']
           exact h1
          ·rename_i j
           split at hop
           ·rename_i e' s' xs hr
            split at hop
            ·rename_i he
             obtain⟨e1,e2⟩:=he
             subst e1;subst e2
             cases hop
             obtain⟨u,w',ρ',h1,h2⟩:=C.append (n:=n) (d:=o.dst) (ty:=o.type) (xs:=xs) (j:=some j) hd (fun h=>hfresh n h ⟨Nat.le_refl _,by simp⟩) hrs hu hi hz c1 c2 c3 c4 ⟨rfl,hrs _ _ hr⟩ hys hpre
             intro K Q hK
             refine Ji (Ud ho hc (s:=Builtin.append_) (fun _ _ _ _=>rfl) ?_) (hK u w' ρ' M h2)
             rw[hargs,hts']
             exact h1
            ·cases hop
           ·rename_i e' s' xs hr
            split at hop
            ·rename_i he
             obtain⟨e1,e2⟩:=he
             subst e1;subst e2
             cases hop
             obtain⟨u,w',ρ',h1,h2⟩:=C.appendT (n:=n) (d:=o.dst) (ty:=o.type) (xs:=xs) (j:=j) hd (fun h=>hfresh n h ⟨Nat.le_refl _,by simp⟩) hrs hu hi hz c1 c2 c3 c4 (hrs _ _ hr) hys hpre
             intro K Q hK
             refine Ji (Ud ho hc (s:=Builtin.append_) (fun _ _ _ _=>rfl) ?_) (hK u w' ρ' M h2)
             rw[hargs,hts']
             exact h1
            ·cases hop
           ·cases hop
          ·cases hop
         ·cases hys
        ·cases hop
       ·cases hop
      ·cases hop
     ·cases hop
    ·cases hop
   ·cases hop
  ·cases hop
 ·cases hop
theorem Jpu [Dr] (C:Jn P N B w0 al τ σ a w ρ M R) {o:Oper} (hd:∀t,o.dst=some t→t<N) {f:FuncId} {first caps:Array Operand} (ho:o.op= .makeFunc (.func f) first caps) {l1 l2:List SV}
  (e1:first.toList.map a.eval=l1.map (SV.den ρ)) (e2:caps.toList.map a.eval=l2.map (SV.den ρ)) (hids:∀id∈(Res.clo f l1 l2).ids,al id) (hfresh:∀id,al id→¬(n≤id∧id<n+1)):
  Ug P N B w0 al τ σ a w R n o ⟨[], .one (.fv n),[.clo f l1 l2],[]⟩:=by
 intro K Q hK
 have ha1:first.map a.eval=(l1.map (SV.den ρ)).toArray:=by rw[←e1];apply Array.ext';simp
 have ha2:caps.map a.eval=(l2.map (SV.den ρ)).toArray:=by rw[←e2];apply Array.ext';simp
 have hrun:(execOp a.eval o).run P w= .ok (.value (.func (.func f) (l1.map (SV.den ρ)).toArray (l2.map (SV.den ρ)).toArray)) w:=by
  simp[execOp,ho,Instr.makeFunc,ha1,ha2]
 refine Ji hrun (hK _ w (Jx ρ n [.func (.func f) (l1.map (SV.den ρ)).toArray (l2.map (SV.den ρ)).toArray]) M ?_)
 have hnn:∀id,al id→¬id=n:=fun id h e=>hfresh id h (by omega)
 have hold:∀id,¬(n≤id∧id<n+1)→Jx ρ n [.func (.func f) (l1.map (SV.den ρ)).toArray (l2.map (SV.den ρ)).toArray] id=ρ id:=fun id h=>Ju h
 have hnew:Jx ρ n [.func (.func f) (l1.map (SV.den ρ)).toArray (l2.map (SV.den ρ)).toArray] n= .func (.func f) (l1.map (SV.den ρ)).toArray (l2.map (SV.den ρ)).toArray:=J8 (i:=0) rfl
 refine C.step hd hfresh hold hnew.symm (fun id hid=> ?_) (Below.refl _ _) (Nat.le_refl _) (fun _ h=>h) (fun b h=>C.old b (.inl h)) (fun _ _=>rfl) ?_ ?_ ?_ ?_
 ·simp[SV.ids,Js,SC.ids] at hid
  exact .inr (by subst hid;exact⟨Nat.le_refl _,by simp⟩)
 ·intro r x _ _ hx ho b hb
  exact⟨rfl,(C.notM hx ho hb).1⟩
 ·rintro r x hx (h|h)
  ·have hrn:r=n:=by simp at h;omega
   subst hrn
   have:x= .clo f l1 l2:=by simpa[Kg] using hx.symm
   subst this
   refine⟨?_, .inr h,fun id hid=> .inl (hids id hid)⟩
   show Jx _ _ _ r=_
   rw[hnew,L5 fun id hid=>hold id (hfresh id (hids id (List.mem_append_left _ hid))),L5 fun id hid=>hold id (hfresh id (hids id (List.mem_append_right _ hid)))]
  ·exact absurd rfl h
 ·intro id h
  have:id=n:=by simp at h;omega
  subst this
  rw[hnew];rfl
 ·rintro r r' x x' _ hx _ ho _ (h|h)
  ·have hrn:r=n:=by simp at h;omega
   subst hrn
   have:x= .clo f l1 l2:=by simpa[Kg] using hx.symm
   subst this
   cases ho
  ·exact absurd rfl h
theorem Jo8 [Dr] (C:Jn P N B w0 al τ σ a w ρ M R) {o:Oper} (hd:∀t,o.dst=some t→t<N) {T:TypeId} {v:SV} (hrun:(execOp a.eval o).run P w= .ok (.value (.iface T (v.den ρ))) w) (hids:∀id∈v.ids,al id) (hfresh:∀id,al id→¬(n≤id∧id<n+1)):
  Ug P N B w0 al τ σ a w R n o ⟨[], .one (.fv n),[.ifb T v],[]⟩:=by
 intro K Q hK
 refine Ji hrun (hK _ w (Jx ρ n [.iface T (v.den ρ)]) M ?_)
 have hold:∀id,¬(n≤id∧id<n+1)→Jx ρ n [.iface T (v.den ρ)] id=ρ id:=fun id h=>Ju h
 have hnew:Jx ρ n [.iface T (v.den ρ)] n= .iface T (v.den ρ):=J8 (i:=0) rfl
 refine C.step hd hfresh hold hnew.symm (fun id hid=> ?_) (Below.refl _ _) (Nat.le_refl _) (fun _ h=>h) (fun b h=>C.old b (.inl h)) (fun _ _=>rfl) ?_ ?_ ?_ ?_
 ·simp[SV.ids,Js,SC.ids] at hid
  exact .inr (by subst hid;exact⟨Nat.le_refl _,by simp⟩)
 ·intro r x _ _ hx ho b hb
  exact⟨rfl,(C.notM hx ho hb).1⟩
 ·rintro r x hx (h|h)
  ·have hrn:r=n:=by simp at h;omega
   subst hrn
   have:x= .ifb T v:=by simpa[Kg] using hx.symm
   subst this
   refine⟨?_, .inr h,fun id hid=> .inl (hids id hid)⟩
   show Jx _ _ _ r=_
   rw[hnew,SV.den_congr fun id hid=>hold id (hfresh id (hids id hid))]
  ·exact absurd rfl h
 ·intro id h
  have:id=n:=by simp at h;omega
  subst this
  rw[hnew];rfl
 ·rintro r r' x x' _ hx _ ho _ (h|h)
  ·have hrn:r=n:=by simp at h;omega
   subst hrn
   have:x= .ifb T v:=by simpa[Kg] using hx.symm
   subst this
   cases ho
  ·exact absurd rfl h
theorem Jsj {T:TypeId} {name:String} {f:FuncId} (h:Jvx P T name=some f) (v:Value) (d:Nat):(Go.method (d+1) T v name).run P w= .ok (f,v) w:=by
 unfold Jvx at h
 split at h
 ·cases h
 rename_i i hi
 split at h
 ·cases h
 ·cases h
 rename_i u hnp hu
 split at h
 ·cases h
 rename_i m hm
 split at h
 ·cases h
 rename_i hp
 split at h
 case h_2=>cases h
 rename_i f' hf
 cases h
 have hpath:m.path= #[]:=Array.isEmpty_iff.1 hp
 unfold Go.method
 simp only[Sem.run_bind,typeInfo,run_program,Result.andThen_ok,hi,Sem.run_pure,hm,hpath,hf]
 simp only[Go.follow,Sem.run_bind,Sem.run_pure,Result.andThen_ok,receiverAt,run_underlying hu,Place.get]
theorem Jev {parts:Array (Nat×Operand)} {a:Act}:(parts.map fun p=>(p.1,a.eval p.2))=(parts.toList.map fun p=>(p.1,a.eval p.2)).toArray:=by
 apply Array.ext';simp
theorem Xa [Dr] {Γ:Gam} (hΓ:Vb P Γ) (C:Jn P N B w0 al τ σ a w ρ M R) {o:Oper} (hd:∀t,o.dst=some t→t<N) {rs:Nat→Option Res} (hrs:∀id x,rs id=some x→σ id=some x) {f:FuncId} {l:List SV} {out:Out}
  (hop:Ji6 Γ rs n f l=some out) (hpre:Kq out.pre) (hfresh:∀id,al id→¬(n≤id∧id<n+out.news.length))
  (hrun:X9 P f→(execOp a.eval o).run P w= .ok (.enter f (l.map (SV.den ρ)).toArray) w):Ug P N B w0 al τ σ a w R n o out:=by
 unfold Ji6 at hop
 split at hop
 ·cases hop
 rename_i con hcon
 split at hop
 case h_1=>
  rename_i z hz
  unfold Jzi at hop
  split at hop
  ·rename_i i g
   split at hop
   ·rename_i T s xs hr
    split at hop
    ·rename_i he
     obtain⟨e1,e2,e3,e4,e5⟩:=he
     subst e1;subst e2;subst e3
     cases hop
     exact Jlz hΓ C hd hcon hz (hrs i _ hr) hpre e4 (Option.isNone_iff_eq_none.1 e5) fun hE=>hrun hE
    ·cases hop
   ·cases hop
  ·cases hop
 split at hop
 case h_1=>
  rename_i F hF
  obtain⟨hE,_,hPr,_⟩:=hΓ f con hcon
  obtain⟨Rp,hcl,hR⟩:=hPr F hF (d:=o.dst) C hd hrs hop hpre hfresh
  intro K Q hK
  exact Vw (hrun hE) hcl fun e w' he=>by
   obtain⟨u,ρ',M',h1,h2⟩:=hR e w' he
   exact⟨u,h1,hK u w' ρ' M' h2⟩
 exact Jml hΓ C hd hrs hop hpre hfresh hrun
theorem Jey [Dr] {Γ : Gam} (hΓ : Vb P Γ) (C : Jn P N B w0 al τ σ a w ρ M R) {o : Oper} (hd : ∀ t, o.dst = some t → t < N) {rs : Nat → Option Res} (hrs : ∀ id x, rs id = some x → σ id = some x)
  {ev:Operand→Option SV} (hev:∀x sv,ev x=some sv→a.eval x=sv.den ρ∧∀id∈sv.ids,al id) {out:Out}
  (hop:opS P Γ ev rs n o=some out) (hpre:Kq out.pre) (hfresh:∀id,al id→¬(n≤id∧id<n+out.news.length)):Ug P N B w0 al τ σ a w R n o out:=by
 have hres:∀i y,rs i=some y→Jxx P ρ M R B w i y:=fun i y h=>C.res i y (hrs i y h)
 unfold opS at hop
 split at hop
 ·-- move
  rename_i x ho
  split at hop
  ·rename_i v hv;cases hop;exact Jd1 C hd hev (.inl ho) hv
  ·cases hop
 ·rename_i x ho
  split at hop
  ·rename_i v hv;cases hop;exact Jd1 C hd hev (.inr ho) hv
  ·cases hop
 ·-- extract
  rename_i x i ho
  split at hop
  ·rename_i vs hv
   split at hop
   ·rename_i p hp
    cases hop
    obtain⟨h1,h2⟩:=hev x _ hv
    refine Jb C hd rfl rfl ?_ fun id hid=>h2 id (List.mem_flatMap.2 ⟨p,List.mem_of_getElem? hp,hid⟩)
    simp[execOp,ho,h1,SV.den,Instr.extract,hp,Jwj]
   ·cases hop
  ·cases hop
 ·-- binOp
  rename_i op T x y yT ho
  split at hop
  ·rename_i k m k' m' hx hy
   split at hop
   ·rename_i e;subst e
    obtain⟨r1,r2,r3,r4⟩:=Jr5 (P:=P) (T:=T) (x:=x) (y:=y) w hop hpre ρ
    refine Jb C hd r2 r3 ?_ (by rw[r4];simp)
    have:=Ki r1
    simp only[execOp,ho,(hev x _ hx).1,(hev y _ hy).1]
    exact this
   ·cases hop
  ·rename_i s t hx hy
   obtain⟨r1,r2,r3,r4⟩:=Jr4 (P:=P) (T:=T) (x:=x) (y:=y) w hop hpre ρ
   refine Jb C hd r2 r3 ?_ (by rw[r4];simp)
   have:=Ki r1
   simp only[execOp,ho,(hev x _ hx).1,(hev y _ hy).1]
   exact this
  ·rename_i s t hx hy
   split at hop
   ·rename_i hu
    obtain⟨r1,r2,r3,r4⟩:=Jnw (P:=P) (w:=w) (T:=T) (x:=x) (y:=y) hu hop ρ
    refine Jb C hd r2 r3 ?_ (by rw[r4];simp)
    have:=Ki r1
    simp only[execOp,ho,(hev x _ hx).1,(hev y _ hy).1]
    exact this
   ·cases hop
  ·rename_i k m k' m' hx hy
   split at hop
   ·rename_i e;subst e
    obtain⟨r1,r2,r3,r4⟩:=Jr6 (P:=P) (T:=T) (x:=x) (y:=y) w hop hpre ρ
    refine Jb C hd r2 r3 ?_ (by rw[r4];simp)
    have:=Ki r1
    simp only[execOp,ho,(hev x _ hx).1,(hev y _ hy).1]
    exact this
   ·cases hop
  ·rename_i xs ys hx hy
   split at hop
   ·rename_i hgd
    have key:∀{b:Bool},eqT P 20 T xs ys=some b→(Op.equalIn 10000 T (.agg (xs.map (SC.den ρ)).toArray) (.agg (ys.map (SC.den ρ)).toArray)).run P w= .ok b w:=by
     intro b hb
     obtain⟨g,g1,_,g3⟩:=Jhk (w:=w) ρ hb 10000 (by omega)
     rw[hgd.2] at g1
     cases g1
     exact g3
    split at hop
    ·rename_i b hb
     cases hop
     refine Jb C hd rfl rfl ?_ (fun id hid=>by simp[SV.ids,Js,SC.ids] at hid)
     simp only[execOp,ho,(hev x _ hx).1,(hev y _ hy).1]
     refine Ki ?_
     simp only[SV.den,valOf]
     rw[Sem.run_bind,run_eqGuard_agg w .eql T x y _ _ hgd.1,Result.andThen_ok,run_eql_struct,key hb]
     rfl
    ·rename_i b hb
     cases hop
     refine Jb C hd rfl rfl ?_ (fun id hid=>by simp[SV.ids,Js,SC.ids] at hid)
     simp only[execOp,ho,(hev x _ hx).1,(hev y _ hy).1]
     refine Ki ?_
     simp only[SV.den,valOf]
     rw[Sem.run_bind,run_eqGuard_agg w .neq T x y _ _ hgd.1,Result.andThen_ok,run_neq_struct,key hb]
     rfl
    ·cases hop
   ·cases hop
  ·rename_i i hx hy
   split at hop
   ·rename_i v b ms hb hu
    have h1:Jms b (ρ i):=C.res i _ (hrs i _ hb)
    have ex:a.eval x=ρ i:=(hev x _ hx).1
    have ey:a.eval (.const v)= .nilIface:=(hev _ _ hy).1
    split at hop
    ·cases hop
     refine Jb C hd rfl rfl ?_ (fun id hid=>by simp[SV.ids,Js,SC.ids] at hid)
     simp only[execOp,ho,ex,ey]
     exact Ki (Jih w hu h1)
    ·cases hop
     refine Jb C hd rfl rfl ?_ (fun id hid=>by simp[SV.ids,Js,SC.ids] at hid)
     simp only[execOp,ho,ex,ey]
     exact Ki (Jig w hu h1)
    ·cases hop
   ·cases hop
  ·rename_i f hx hy
   split at hop
   ·rename_i hu
    cases hop
    refine Jb C hd rfl rfl ?_ (fun id hid=>by simp[SV.ids,Js,SC.ids] at hid)
    simp only[execOp,ho,(hev x _ hx).1,(hev y _ hy).1]
    exact Ki (Jnv w hu).1
   ·rename_i hu
    cases hop
    refine Jb C hd rfl rfl ?_ (fun id hid=>by simp[SV.ids,Js,SC.ids] at hid)
    simp only[execOp,ho,(hev x _ hx).1,(hev y _ hy).1]
    exact Ki (Jnv w hu).2
   ·cases hop
  ·rename_i i off hx hy
   obtain⟨ad,had⟩:∃ad,(SC.ptr i off).den ρ= .pointer (some ad):=by
    simp only[SC.den];split<;>exact⟨_,rfl⟩
   have ex:a.eval x= .pointer (some ad):=(hev x _ hx).1.trans had
   split at hop
   ·rename_i hu
    cases hop
    refine Jb C hd rfl rfl ?_ (fun id hid=>by simp[SV.ids,Js,SC.ids] at hid)
    simp only[execOp,ho,ex,(hev y _ hy).1]
    exact Ki (Jer w hu).1
   ·rename_i hu
    cases hop
    refine Jb C hd rfl rfl ?_ (fun id hid=>by simp[SV.ids,Js,SC.ids] at hid)
    simp only[execOp,ho,ex,(hev y _ hy).1]
    exact Ki (Jer w hu).2
   ·cases hop
  ·rename_i hx hy
   split at hop
   ·rename_i hu
    cases hop
    refine Jb C hd rfl rfl ?_ (fun id hid=>by simp[SV.ids,Js,SC.ids] at hid)
    simp only[execOp,ho,(hev x _ hx).1,(hev y _ hy).1]
    exact Ki (Jer w hu).1
   ·rename_i hu
    cases hop
    refine Jb C hd rfl rfl ?_ (fun id hid=>by simp[SV.ids,Js,SC.ids] at hid)
    simp only[execOp,ho,(hev x _ hx).1,(hev y _ hy).1]
    exact Ki (Jer w hu).2
   ·cases hop
  ·cases hop
 ·-- unOp
  rename_i op T x ho
  split at hop
  ·rename_i b hx
   cases hop
   refine Jb C hd rfl rfl ?_ (fun id hid=>by simp[SV.ids,Js,SC.ids] at hid)
   simp[execOp,ho,(hev x _ hx).1,SV.den,valOf,SC.den,Op.unary]
  ·rename_i k m hx
   obtain⟨r1,r2,r3,r4⟩:=Hf (P:=P) w hop hpre ρ
   refine Jb C hd r2 r3 ?_ (by rw[r4];simp)
   rw[r1]
   simp[execOp,ho,(hev x _ hx).1,SV.den,valOf,SC.den,Op.unary,Op.intArith]
  ·cases hop
 ·-- convert
  rename_i S T x ho
  split at hop
  ·rename_i dS k k' m hS hT hx
   obtain⟨r1,r2,r3,r4⟩:=Hf (P:=P) w hop hpre ρ
   refine Jb C hd r2 r3 ?_ (by rw[r4];simp)
   rw[r1]
   simp only[execOp,ho,(hev x _ hx).1]
   refine Ki ?_
   simp only[SV.den,valOf,SC.den,List.map]
   unfold convert
   simp only[Sem.run_bind,run_underlying hS,run_underlying hT,Result.andThen_ok]
   cases dS<;>simp[Conv.intToInt]
  ·rename_i k0 k m k' hS hT hx
   cases hop
   refine Jb C hd rfl rfl ?_ (fun id hid=>by simp[SV.ids,Js,SC.ids] at hid)
   simp only[execOp,ho,(hev x _ hx).1]
   refine Ki ?_
   simp only[SV.den,valOf,SC.den,List.map]
   unfold convert
   simp only[Sem.run_bind,run_underlying hS,run_underlying hT,Result.andThen_ok]
   simp[Conv.intToFloat]
  ·rename_i k0 k' k b hS hT hx
   cases hop
   obtain⟨p1,p2⟩:=hpre
   refine Jb C hd rfl rfl ?_ (fun id hid=>by simp[SV.ids,Js,SC.ids] at hid)
   simp only[execOp,ho,(hev x _ hx).1]
   refine Ki ?_
   simp only[SV.den,valOf,SC.den,List.map]
   unfold convert
   simp only[Sem.run_bind,run_underlying hS,run_underlying hT,Result.andThen_ok]
   have p1:(Jd9 k b).isSome=true:=p1
   cases hn:Jd9 k b with
   |none=>rw[hn] at p1;cases p1
   |some n=>
    rw[hn] at p2
    have p2:k'.min≤n∧n≤k'.max:=p2
    have hn':(k.decode b).toInt .zero=some n:=hn
    simp[Conv.floatToInt,hn',p2]
  ·rename_i e i hS hT hx
   have key:∀(xs:List Int),(∀j,j<xs.length→∃b off cap,ρ i= .slice (some ⟨b,off,none⟩) xs.length cap∧w.cell? ⟨b,off+j,none⟩=some (.int .u8 (xs.getD j 0)))→P.underlying e=some (.int .u8)→0<xs.length→Ug P N B w0 al τ σ a w R n o ⟨[0<xs.length], .one (.str (strOfNums xs)),[],[]⟩:=by
    intro xs hxs he h0
    obtain⟨b,off,cap,hi,_⟩:=hxs 0 h0
    refine Jb C hd rfl rfl ?_ (fun id hid=>by simp[SV.ids,Js,SC.ids] at hid)
    simp only[execOp,ho,(hev x _ hx).1]
    refine Ki ?_
    simp only[SV.den,valOf,SC.den,List.map]
    rw[hi]
    refine run_convert_bytes_arg w S e hS he b off xs.length cap xs rfl (fun j hj=> ?_) T hT
    obtain⟨b',off',cap',hi',hc'⟩:=hxs j hj
    rw[hi] at hi'
    cases hi'
    exact hc'
   have one:∀{M':Nat→Prop} {v:Int} {cv:List Value},Hp (Yc M' w) (enc (.int .u8) v) cv→cv[0]? =some (.int .u8 v):=by
    intro M' v cv h
    cases cv with
    |nil=>exact h.elim
    |cons c r=>exact congrArg some h.1
   split at hop
   ·rename_i he
    split at hop
    ·rename_i U xs hr
     cases hop
     obtain⟨flat,f1,f2,_⟩:=hres i _ hr
     refine key xs (fun j hj=> ?_) he hpre
     obtain⟨b,off,cap,cv,q1,q2,q3⟩:=Jip (T:=U) (s:= .int .u8) f1 f2 hj
     have:=q3 0 _ (one q2)
     exact⟨b,off,cap,q1,by simp only[Sch.size,Nat.mul_one,Nat.add_zero] at this;exact this⟩
    ·rename_i U xs hr
     cases hop
     refine key xs (fun j hj=> ?_) he hpre
     obtain⟨b,off,cap,cv,q1,q2,q3⟩:=Jb9 (T:=U) (s:= .int .u8) (hres i _ hr) hj
     have:=q3 0 _ (one q2)
     exact⟨b,off,cap,q1,by simp only[Sch.size,Nat.mul_one,Nat.add_zero] at this;exact this⟩
    ·cases hop
   ·cases hop
  ·cases hop
 ·-- index
  rename_i T x y ho
  split at hop
  ·rename_i s k m hT hx hy
   cases hop
   refine Jb C hd rfl rfl ?_ (fun id hid=>by simp[SV.ids,Js,SC.ids] at hid)
   simp only[execOp,ho,(hev x _ hx).1,(hev y _ hy).1]
   refine Ki ?_
   exact Jfe hT hpre w
  ·rename_i len e cs k m hT hx hy
   split at hop
   ·rename_i sz hsz
    split at hop
    ·rename_i hm
     split at hop
     ·rename_i v hv
      cases hop
      refine Jb C hd rfl rfl ?_ fun id hid=> ?_
      ·simp only[execOp,ho,(hev x _ hx).1,(hev y _ hy).1]
       refine Ki ?_
       exact Jff hT hsz hm hv ρ w
      ·obtain⟨g,_,rfl,_⟩:=Yw hv
       obtain⟨c,hc,hc'⟩:=List.mem_flatMap.1 hid
       exact(hev x _ hx).2 id (List.mem_flatMap.2 ⟨c,List.mem_of_mem_drop (List.mem_of_mem_take hc),hc'⟩)
     ·cases hop
    ·cases hop
   ·cases hop
  ·cases hop
 ·-- alloc
  rename_i T ho
  split at hop
  ·rename_i cs hz;cases hop;exact Jja C hd ho hz hfresh
  ·cases hop
 ·-- box
  rename_i T x ho
  split at hop
  ·rename_i v hv
   split at hop
   ·rename_i cs hcs
    split at hop
    ·rename_i hat;cases hop;exact Jqm C hd hev ho hv hcs hat hfresh
    ·cases hop
   ·cases hop
  ·cases hop
 ·-- build
  rename_i T parts ho
  split at hop
  ·rename_i z ps hz hps
   split at hop
   ·rename_i cs hb
    cases hop
    obtain⟨r1,r2⟩:=Jqk C hev hz hps hb
    refine Jb C hd rfl rfl ?_ r2
    simp only[execOp,ho]
    exact Ki r1
   ·cases hop
  ·cases hop
 ·-- fieldAddr
  rename_i T x i ho
  split at hop
  ·rename_i j off d U hx hf
   cases hop
   obtain⟨h1,h2⟩:=hev x _ hx
   obtain⟨b,o',hb⟩:=Jbd ρ j off
   refine Jb C hd rfl rfl ?_ h2
   simp only[execOp,ho,h1]
   refine Ki ?_
   have e0:=hb 0
   simp only[Nat.add_zero] at e0
   simp only[SV.den,valOf,List.map]
   rw[e0,hb d]
   exact Ly hf b o' w
  ·rename_i j sz idx off d U hx hf
   cases hop
   obtain⟨h1,h2⟩:=hev x _ hx
   obtain⟨b,o',hb⟩:=Jwh ρ j sz idx off
   refine Jb C hd rfl rfl ?_ h2
   simp only[execOp,ho,h1]
   refine Ki ?_
   have e0:=hb 0
   simp only[Nat.add_zero] at e0
   simp only[SV.den,valOf,List.map]
   rw[e0,hb d]
   exact Ly hf b o' w
  ·cases hop
 ·-- field
  rename_i T x i ho
  split at hop
  ·rename_i cs d U hx hf
   split at hop
   ·rename_i m hm
    split at hop
    ·rename_i hl
     split at hop
     ·rename_i v hv
      cases hop
      obtain⟨h1,h2⟩:=hev x _ hx
      refine Jb C hd rfl rfl ?_ fun id hid=> ?_
      ·simp only[execOp,ho,h1]
       exact Ki (Jpl hf hm hl hv ρ w)
      ·obtain⟨g,_,rfl,_⟩:=Yw hv
       obtain⟨c,hc,hc'⟩:=List.mem_flatMap.1 hid
       exact h2 id (List.mem_flatMap.2 ⟨c,List.mem_of_mem_drop (List.mem_of_mem_take hc),hc'⟩)
     ·cases hop
    ·cases hop
   ·cases hop
  ·cases hop
 ·-- indexAddr
  rename_i T x y ho
  split at hop
  ·rename_i e j k m hT hx hy
   split at hop
   ·rename_i sz hsz
    simp only at hop
    obtain⟨h1,h2⟩:=hev x _ hx
    obtain⟨h3,_⟩:=hev y _ hy
    have key:∀len:Nat,(0≤m∧m<len→∃b o cap,ρ j= .slice (some ⟨b,o,none⟩) len cap)→0≤m∧m<len→Ug P N B w0 al τ σ a w R n o ⟨[0≤m∧m<len], .one (.elt j sz m 0),[],[]⟩:=by
     intro len hlen hm
     obtain⟨b,o',cap,hj⟩:=hlen hm
     refine Jb C hd rfl rfl ?_ h2
     simp only[execOp,ho,h1,h3]
     refine Ki ?_
     simp only[SV.den,valOf,List.map,SC.den,hj]
     exact Jix hT hsz hm w
    split at hop
    ·rename_i U s xs hr
     split at hop
     ·rename_i hs
      cases hop
      refine key _ (fun hm=> ?_) hpre
      obtain⟨b,o',cap,cv,q,_⟩:=Jb9 (T:=U) (hres j _ hr) (j:=m.toNat) (by omega)
      exact⟨b,o',cap,q⟩
     ·cases hop
    ·rename_i U s xs hr
     split at hop
     ·rename_i hs
      cases hop
      refine key _ (fun hm=> ?_) hpre
      obtain⟨flat,f1,f2,_⟩:=hres j _ hr
      obtain⟨b,o',cap,cv,q,_⟩:=Jip (T:=U) f1 f2 (j:=m.toNat) (by omega)
      exact⟨b,o',cap,q⟩
     ·cases hop
    ·rename_i U s xs hr
     split at hop
     ·rename_i hs
      cases hop
      refine key _ (fun hm=> ?_) hpre
      obtain⟨flat,f1,f2,_⟩:=hres j _ hr
      obtain⟨b,o',cap,cv,q,_⟩:=Jj8 (T:=U) f1 f2 (j:=m.toNat) (by omega)
      exact⟨b,o',cap,q⟩
     ·cases hop
    ·cases hop
   ·cases hop
  ·rename_i len e j off k m hT hx hy
   split at hop
   ·rename_i sz hsz
    split at hop
    ·rename_i hm
     cases hop
     obtain⟨h1,h2⟩:=hev x _ hx
     obtain⟨h3,_⟩:=hev y _ hy
     obtain⟨b,o',hb⟩:=Jbd ρ j off
     refine Jb C hd rfl rfl ?_ h2
     simp only[execOp,ho,h1,h3]
     refine Ki ?_
     have e0:=hb 0
     simp only[Nat.add_zero] at e0
     simp only[SV.den,valOf,List.map]
     rw[e0,hb (m.toNat*sz)]
     exact Jha hT hsz hm w
    ·cases hop
   ·cases hop
  ·cases hop
 ·-- load
  rename_i T x ho
  split at hop
  ·rename_i p hx
   exact Jmb C hd hrs ho (hev x _ hx).1 hop hpre hfresh
  ·cases hop
 ·-- store
  rename_i T x y ho
  split at hop
  ·rename_i p v hx hy
   exact Jia C hd hrs ho (hev x _ hx).1 (hev y _ hy).1 (hev y _ hy).2 hop hpre
  ·cases hop
 ·-- nilCheck
  rename_i x ho
  split at hop
  ·rename_i j off hx
   cases hop
   obtain⟨h1,h2⟩:=hev x _ hx
   refine Jb C hd rfl rfl ?_ h2
   obtain⟨b,o',hb⟩:=Jbd ρ j off
   have e0:=hb 0
   simp only[Nat.add_zero] at e0
   simp[execOp,ho,h1,SV.den,valOf,e0]
  ·cases hop
 ·-- buildSlice
  rename_i T len parts ho
  split at hop
  ·rename_i e hT
   split at hop
   ·rename_i s m ps hs hm hps
    split at hop
    ·rename_i hc
     obtain⟨c1,c2,c3,c4,c5⟩:=hc
     split at hop
     ·rename_i xs hxs
      cases hop
      subst c1
      obtain⟨u,w',ρ',M',h1,h2⟩:=C.buildSlice (n:=n) (d:=o.dst) hd (fun h=>hfresh n h ⟨Nat.le_refl _,by simp⟩) hrs hev hT hm c2 c3 c4 c5 hps hxs
      intro K Q hK
      refine Ji ?_ (hK u w' ρ' M' h2)
      simp only[execOp,ho]
      refine Ki ?_
      rw[Jev]
      exact h1
     ·cases hop
    ·cases hop
   ·cases hop
  ·cases hop
 ·-- call
  rename_i c ho
  split at hop
  ·rename_i b hc
   split at hop
   ·rename_i l hl
    exact Jfu C hd hrs hev ho hc hl hop hpre hfresh
   ·cases hop
  ·rename_i f hc
   split at hop
   ·rename_i l hl
    obtain⟨ha,_⟩:=Hx hev hl
    refine Xa hΓ C hd hrs hop hpre hfresh fun hE=> ?_
    have hr:=Kr hE (l.map (SV.den ρ)).toArray w
    simp[execOp,ho,resolve,hc,Act.eval,Deferred.ofValue,invoke,ha] at hr⊢
    exact hr
   ·cases hop
  ·rename_i x hnf hc
   split at hop
   ·rename_i f l hx hl
    obtain⟨ha,_⟩:=Hx hev hl
    obtain⟨h1,_⟩:=hev x _ hx
    replace h1:a.eval x= .func (.func f) #[] #[]:=h1
    refine Xa hΓ C hd hrs hop hpre hfresh fun hE=> ?_
    have hr:=Kr hE (l.map (SV.den ρ)).toArray w
    simp[execOp,ho,resolve,hc,h1,Deferred.ofValue,invoke,ha] at hr⊢
    exact hr
   ·rename_i f l hx hl
    obtain⟨ha,_⟩:=Hx hev hl
    obtain⟨h1,_⟩:=hev x _ hx
    replace h1:a.eval x= .func (.func f) #[] #[]:=h1
    refine Xa hΓ C hd hrs hop hpre hfresh fun hE=> ?_
    have hr:=Kr hE (l.map (SV.den ρ)).toArray w
    simp[execOp,ho,resolve,hc,h1,Deferred.ofValue,invoke,ha] at hr⊢
    exact hr
   ·cases hop
    exact(show False from hpre).elim
   ·rename_i j l hx hl
    obtain⟨ha,_⟩:=Hx hev hl
    obtain⟨h1,_⟩:=hev x _ hx
    replace h1:a.eval x=ρ j:=h1
    split at hop
    ·rename_i f first caps hr
     have hj:ρ j= .func (.func f) (first.map (SV.den ρ)).toArray (caps.map (SV.den ρ)).toArray:=hres j _ hr
     refine Xa hΓ C hd hrs hop hpre hfresh fun hE=> ?_
     have hr:=Kr hE ((first++l++caps).map (SV.den ρ)).toArray w
     simp[execOp,ho,resolve,hc,h1,hj,Deferred.ofValue,invoke,ha] at hr⊢
     exact hr
    ·rename_i ps r0 pre h hr
     split at hop
     ·rename_i y hy
      cases hop
      refine Jqy C hd hrs hr hy hpre hfresh fun f first caps hj hE=> ?_
      have hr:=Kr hE (first++(l.map (SV.den ρ)).toArray++caps) w
      simp[execOp,ho,resolve,hc,h1,hj,Deferred.ofValue,invoke,ha] at hr⊢
      exact hr
     ·cases hop
    ·cases hop
   ·cases hop
  ·rename_i x name hc
   split at hop
   ·rename_i j l hx hl
    obtain⟨ha,_⟩:=Hx hev hl
    obtain⟨h1,_⟩:=hev x _ hx
    replace h1:a.eval x=ρ j:=h1
    split at hop
    ·rename_i T v hr
     split at hop
     ·rename_i f hm
      have hj:ρ j= .iface T (v.den ρ):=hres j _ hr
      refine Xa hΓ C hd hrs hop hpre hfresh fun hE=> ?_
      have hr:=Kr hE ((v::l).map (SV.den ρ)).toArray w
      have hmr:=Jsj (P:=P) (w:=w) hm (v.den ρ)
      have hsz:(P.types.size+Made.depth)=(P.types.size+Made.depth-1)+1:=by
       have:0<Made.depth:=by decide
       omega
      rw[List.map_cons] at hr⊢
      simp only[execOp,ho,resolve,hc,Sem.run_bind,Sem.run_pure,Result.andThen_ok,invoke,ha,h1,hj]
      have hm2:(Go.method (P.types.size+Made.depth) T (v.den ρ) name).run P w= .ok (f,v.den ρ) w:=by rw[hsz];exact hmr _
      have ht:List.take l.length (l.map (SV.den ρ))=l.map (SV.den ρ):=List.take_of_length_le (by simp)
      simpa[callMethod,Sem.run_bind,hm2,ht] using hr
     ·cases hop
    ·cases hop
   ·cases hop
 ·-- slice
  rename_i T x lo hi mx ho
  split at hop
  ·rename_i e i hT hx
   have hxi:a.eval x=ρ i:=(hev x _ hx).1
   simp only at hop
   split at hop
   ·rename_i U s xs hr
    split at hop
    ·rename_i l h hl hh
     split at hop
     ·rename_i hsz
      cases hop
      have hp:0≤l∧l≤h∧h≤xs.length:=hpre
      have b1:=Juq hev hl hp.1
      have b2:=Juq hev hh (by omega)
      exact(Ja4 C hd ho hxi hT hsz b1 (by simpa using b2) (by omega) (by omega) hfresh _).1 (hrs i _ hr)
     ·cases hop
    ·cases hop
   ·rename_i U s xs hr
    split at hop
    ·rename_i hmx0 _ h0 _
     split at hop
     ·rename_i h hh
      split at hop
      ·rename_i hsz
       obtain⟨hsz,rfl⟩:=hsz
       cases hop
       have hp:0≤h∧h≤xs.length:=hpre
       have b2:=Juq hev hh (by omega)
       exact Jmf C hd ho hxi hT hsz (by simpa using b2) (by omega) (hrs i _ hr) hfresh _
      ·cases hop
     ·cases hop
    ·split at hop
     ·rename_i l h hl hh
      split at hop
      ·rename_i hsz
       cases hop
       have hp:0≤l∧l≤h∧h≤xs.length:=hpre
       have b1:=Juq hev hl hp.1
       have b2:=Juq hev hh (by omega)
       exact(Ja4 C hd ho hxi hT hsz b1 (by simpa using b2) (by omega) (by omega) hfresh _).2 (hrs i _ hr)
      ·cases hop
     ·cases hop
   ·rename_i U s xs hr
    split at hop
    ·rename_i l hl
     split at hop
     ·rename_i hsz
      obtain⟨hsz,rfl⟩:=hsz
      cases hop
      have hp:0≤l∧l≤xs.length:=hpre
      have b1:=Juq hev hl hp.1
      exact(by rename_i hmx _;exact Jlv C hd ho hxi hT hsz b1 (by omega) (hrs i _ hr) hfresh _)
     ·cases hop
    ·cases hop
   ·cases hop
  ·rename_i b hT hx
   split at hop
   ·rename_i l h hl hh
    cases hop
    have hp:0≤l∧l≤h∧h≤b.size:=hpre
    have b1:=Juq hev hl hp.1
    have b2:=Juq hev hh (by omega)
    refine Jb C hd rfl rfl ?_ (fun id hid=>by simp[SV.ids,Js,SC.ids] at hid)
    simp only[execOp,ho,(hev x _ hx).1]
    refine Ki ?_
    simp only[Instr.sliceAt,Sem.run_bind,run_underlying hT,Result.andThen_ok]
    exact Jgj (w:=w) hT b b1 (by simpa using b2) (by omega) (by omega)
   ·cases hop
  ·rename_i k e i off hT hx
   split at hop
   ·split at hop
    ·rename_i s sz TT cs hs hsz hr
     split at hop
     ·rename_i hc
      split at hop
      ·rename_i xs hxs
       cases hop
       exact(H5 C hd ho (hev x _ hx).1 hT hsz hc hxs hfresh).1 (hrs i _ hr)
      ·cases hop
     ·cases hop
    ·rename_i s sz TT cs hs hsz hr
     split at hop
     ·rename_i hc
      split at hop
      ·rename_i xs hxs
       cases hop
       exact(H5 (TT:=TT) C hd ho (hev x _ hx).1 hT hsz hc hxs hfresh).2 (hrs i _ hr)
      ·cases hop
     ·cases hop
    ·cases hop
   ·cases hop
  ·cases hop
 ·-- makeMap
  rename_i T r ho
  split at hop
  ·rename_i kT vT hT
   split at hop
   ·cases hop
    exact Je6 C hd ho hfresh
   ·split at hop
    ·rename_i ks gk vs gv h1 h2 h3 h4
     split at hop
     ·rename_i hc
      cases hop
      obtain⟨p1,p2⟩:=hpre
      exact Jg6 C hd ho ⟨h2,hc.1,hc.2.1,hc.2.2,p1,p2⟩ hfresh
     ·cases hop
    ·cases hop
  ·cases hop
 ·-- mapUpdate
  rename_i T m k x ho
  split at hop
  ·rename_i kT vT i hT hm
   split at hop
   ·rename_i ks hr
    split at hop
    ·rename_i key hkT hk hx
     cases hop
     exact Jge C hd ho hT hkT (hev m _ hm).1 (hev k _ hk).1 (hev x _ hx).1 (hrs i _ hr)
    ·cases hop
   ·rename_i kT' gk gv ks vs l hr
    split at hop
    ·rename_i g kc g' vc hk hx
     split at hop
     ·rename_i hc
      obtain⟨rfl,rfl,rfl⟩:=hc
      split at hop
      ·rename_i kd vd hkd hvd
       cases hop
       exact H9 C hd hrs (.inl ho) hT (hev m _ hm).1 (hev k _ hk).1 (hev x _ hx).1 hkd hvd hr
      ·cases hop
     ·cases hop
    ·cases hop
   ·cases hop
  ·cases hop
 ·-- insert
  rename_i T m k x ho
  split at hop
  ·rename_i kT vT i hT hm
   split at hop
   ·rename_i kT' gk gv ks vs l hr
    split at hop
    ·rename_i g kc g' vc hk hx
     split at hop
     ·rename_i hc
      obtain⟨rfl,rfl,rfl⟩:=hc
      split at hop
      ·rename_i kd vd hkd hvd
       cases hop
       exact H9 C hd hrs (.inr ho) hT (hev m _ hm).1 (hev k _ hk).1 (hev x _ hx).1 hkd hvd hr
      ·cases hop
     ·cases hop
    ·cases hop
   ·cases hop
  ·cases hop
 ·-- lookup
  rename_i T x k ok ho
  split at hop
  ·rename_i kT vT i hT hx
   split at hop
   ·rename_i kT' gk gv ks vs l hr
    split at hop
    ·rename_i g kc hk
     split at hop
     ·rename_i hc
      obtain⟨rfl,rfl⟩:=hc
      split at hop
      ·rename_i kd zd hkd hz
       split at hop
       ·cases hop
        exact(Fv C hd ho hT (hev x _ hx).1 (hev k _ hk).1 hkd hz (hrs i _ hr)).1 rfl hfresh
       ·cases hop
        exact(Fv C hd ho hT (hev x _ hx).1 (hev k _ hk).1 hkd hz (hrs i _ hr)).2 rfl hfresh
      ·cases hop
     ·cases hop
    ·cases hop
   ·cases hop
  ·cases hop
 ·-- mapEntry
  rename_i T m k ho
  split at hop
  ·rename_i kT vT i hT hm
   split at hop
   ·rename_i kT' gk gv ks vs l hr
    split at hop
    ·rename_i g kc hk
     split at hop
     ·rename_i hc
      obtain⟨rfl,rfl,hvl⟩:=hc
      split at hop
      ·rename_i kd zd hkd hz
       cases hop
       exact Jdg C hd ho hT (hev m _ hm).1 (hev k _ hk).1 hkd hz hvl (hrs i _ hr)
      ·cases hop
     ·cases hop
    ·cases hop
   ·cases hop
  ·cases hop
 ·-- entryStore
  rename_i T m s x ho
  split at hop
  ·rename_i i p hm hs
   split at hop
   ·rename_i kT' gk gv ks vs l hr
    split at hop
    ·rename_i g' vc hx
     split at hop
     ·rename_i hc
      obtain⟨rfl,hvl⟩:=hc
      split at hop
      ·rename_i vd hvd
       cases hop
       exact Jad C hd ho (hev m _ hm).1 (hev s _ hs).1 (hev x _ hx).1 hvd (hrs i _ hr) hpre
      ·cases hop
     ·cases hop
    ·cases hop
   ·cases hop
  ·cases hop
 ·-- range
  rename_i T x ho
  split at hop
  ·rename_i kT vT i hT hx
   split at hop
   ·rename_i ks hr
    cases hop
    exact Jin C hd ho hT (hev x _ hx).1 (hrs i _ hr) hfresh
   ·rename_i kT' gk gv ks vs l hr
    cases hop
    exact Je2 C hd ho hT (hev x _ hx).1 (hrs i _ hr) hfresh
   ·cases hop
  ·rename_i s hT hx
   cases hop
   exact Jgt C hd ho hT (hev x _ hx).1 hfresh
  ·cases hop
 ·-- entry
  rename_i x ho
  split at hop
  ·rename_i i hx
   split at hop
   ·rename_i j ks seen hr
    split at hop
    ·rename_i ks' hj
     cases hop
     obtain⟨p1,p2,p3⟩:=hpre
     have p1:ks'=ks:=p1
     subst p1
     exact Ji0 C hd ho (hev x _ hx).1 (hrs i _ hr) (hrs j _ hj) p2 p3 _
    ·cases hop
   ·rename_i j kT gk gv ks vs l seen hr
    split at hop
    ·rename_i kT' gk' gv' ks' vs' l' hj
     split at hop
     ·rename_i h
      obtain⟨⟨rfl,rfl⟩,rfl,rfl,rfl⟩:=h
      cases hop
      obtain⟨p1,p2,p3⟩:=hpre
      have p1:l'=l:=p1
      subst p1
      exact Je3 C hd ho (hev x _ hx).1 (hrs i _ hr) (hrs j _ hj) p2 p3 hfresh
     ·cases hop
    ·cases hop
   ·cases hop
  ·cases hop
 ·-- makeInterface
  rename_i T x ho
  split at hop
  ·cases hop
  ·rename_i dd c hni hT hx
   split at hop
   ·rename_i v hv
    cases hop
    refine Jb C hd rfl rfl ?_ (fun id hid=>by simp[SV.ids,Js,SC.ids] at hid)
    have hcv:c.den ρ=v:=by
     unfold Jpt at hv
     split at hv<;>cases hv<;>rfl
    have h1:a.eval x=v:=by rw[(hev x _ hx).1];exact hcv
    simp only[execOp,ho,h1]
    refine Ki ?_
    simp only[Instr.makeInterface,Sem.run_bind,run_underlying hT,Result.andThen_ok]
    cases dd<;>first|rfl|exact absurd rfl (hni _)
   ·cases hop
  ·rename_i dd cs hni hT hx
   cases hop
   have h1:=hev x _ hx
   refine Jo8 C hd ?_ h1.2 hfresh
   simp only[execOp,ho,h1.1]
   refine Ki ?_
   simp only[Instr.makeInterface,Sem.run_bind,run_underlying hT,Result.andThen_ok]
   cases dd<;>first|rfl|exact absurd rfl (hni _)
  ·cases hop
 ·-- panic
  rename_i x ho
  split at hop
  ·cases hop
   exact(show False from hpre).elim
  ·cases hop
 ·-- makeSlice
  rename_i T l c ho
  split at hop
  ·rename_i e k m k' m' hT hl hc
   split at hop
   ·rename_i s i z hs hi hz
    split at hop
    ·rename_i hcnd
     split at hop
     ·rename_i d hdec
      cases hop
      obtain⟨p1,p2⟩:=hpre
      exact Jl8 C hd ho hT hi hz hcnd.1 hdec hcnd.2.1 (hev l _ hl).1 (hev c _ hc).1 p1 p2 hcnd.2.2 hfresh _
     ·cases hop
    ·cases hop
   ·cases hop
  ·cases hop
 ·-- makeFunc
  rename_i f first caps ho
  split at hop
  ·rename_i l1 l2 h1 h2
   cases hop
   obtain⟨e1,i1⟩:=Xl hev h1
   obtain⟨e2,i2⟩:=Xl hev h2
   have hids:∀id∈(Res.clo f l1 l2).ids,al id:=by
    intro id hid
    rcases List.mem_append.1 hid with hid|hid
    ·obtain⟨v,hv,hv'⟩:=List.mem_flatMap.1 hid;exact i1 v hv id hv'
    ·obtain⟨v,hv,hv'⟩:=List.mem_flatMap.1 hid;exact i2 v hv id hv'
   exact Jpu C hd ho e1 e2 hids hfresh
  ·cases hop
 ·cases hop
end
end Go.Sx
namespace Go.Sx
open Go.RowKit
abbrev Jm1 (l:List Rec):Prop:=l.Pairwise fun a b=>b.ix<a.ix
theorem Y6 {p:Rec→Bool}:∀{l:List Rec} {r:Rec},Jm1 l→l.find? p=some r→r∈l∧p r=true∧∀r'∈l,p r'=true→r'.ix≤r.ix
 |[],_,_,h=>by simp at h
 | x :: l, r, hd, h => by
  replace hd:=List.pairwise_cons.1 hd
  by_cases hx:p x=true
  ·rw[List.find?_cons_of_pos hx] at h
   cases h
   refine⟨by simp,hx,fun r' hr _=> ?_⟩
   rcases List.mem_cons.1 hr with rfl|hr
   ·exact Nat.le_refl _
   ·exact Nat.le_of_lt (hd.1 r' hr)
  ·rw[List.find?_cons_of_neg hx] at h
   obtain⟨h1,h2,h3⟩:=Y6 hd.2 h
   refine⟨by simp[h1],h2,fun r' hr hp=> ?_⟩
   rcases List.mem_cons.1 hr with rfl|hr
   ·exact absurd hp hx
   ·exact h3 r' hr hp
theorem Uw:∀{l:List Rec} {r r':Rec},Jm1 l→r∈l→r'∈l→r.ix=r'.ix→r=r'
 |[],_,_,_,h,_,_=>by simp at h
 |x::l,r,r',hd,h,h',e=>by
  replace hd:=List.pairwise_cons.1 hd
  rcases List.mem_cons.1 h with e1|h1<;>rcases List.mem_cons.1 h' with e2|h2
  ·rw[e1,e2]
  ·have:=hd.1 r' h2;rw[←e1] at this;omega
  ·have:=hd.1 r h1;rw[←e2] at this;omega
  ·exact Uw hd.2 h1 h2 e
theorem Jfk {p:Rec→Bool} {l:List Rec} {r:Rec} (hd:Jm1 l) (h1:r∈l) (h2:p r=true) (h3:∀r'∈l,p r'=true→r'.ix≤r.ix):l.find? p=some r:=by
 cases h:l.find? p with
 |none=>rw[List.find?_eq_none] at h;exact absurd h2 (h r h1)
 |some r'=>
  obtain⟨q1,q2,q3⟩:=Y6 hd h
  rw[Uw hd q1 h1 (Nat.le_antisymm (h3 r' q1 q2) (q3 r h1 h2))]
theorem Jb7 {p:Rec→Bool} {l l':List Rec} (hd:Jm1 l) (hd':Jm1 l') (h:∀r,p r=true→(r∈l↔r∈l')):l.find? p=l'.find? p:=by
 cases e:l.find? p with
 |some r=>
  obtain⟨q1,q2,q3⟩:=Y6 hd e
  exact(Jfk hd' ((h r q2).1 q1) q2 fun r' hr hp=>q3 r' ((h r' hp).2 hr) hp).symm
 |none=>
  symm
  rw[List.find?_eq_none] at e⊢
  exact fun r hr hp=>e r ((h r hp).2 hr) hp
theorem V1 (t:Nat):∀(l:List Rec),H0 l t=l.find? fun r=>decide (r.dst=some t)
 |[]=>rfl
 |r::l=>by
  simp only[H0,List.find?_cons,V1 t l]
  by_cases h:r.dst=some t<;>simp[h]
theorem Xu (id:Nat):∀(l:List Rec),Jdv l id=(l.find? fun r=>(V9 r id).isSome).bind fun r=>(V9 r id).map fun x=>(r,x)
 |[]=>rfl
 |r::l=>by
  simp only[Jdv,List.find?_cons,Xu id l]
  cases h:V9 r id<;>simp[h]
theorem Jbc (j:Nat):∀(l:List Rec),Jzl l j=l.find? fun r=>decide (r.ix=j)
 |[]=>rfl
 |r::l=>by
  simp only[Jzl,List.find?_cons,Jbc j l]
  by_cases h:r.ix=j<;>simp[h]
theorem Hh {l:List Rec} {id:Nat} {r:Rec} {x:Option Res} (hd:Jm1 l) (h:Jdv l id=some (r,x)):r∈l∧V9 r id=some x∧∀r'∈l,(V9 r' id).isSome=true→r'.ix≤r.ix:=by
 rw[Xu] at h
 cases hf:l.find? fun r=>(V9 r id).isSome with
 |none=>rw[hf] at h;cases h
 |some r'=>
  rw[hf] at h
  obtain⟨q1,q2,q3⟩:=Y6 hd hf
  simp only[Option.bind_some,Option.map_eq_some_iff] at h
  obtain⟨y,hy,e⟩:=h
  cases e
  exact⟨q1,hy,q3⟩
theorem Jn3 {l:List Rec} {id:Nat} {r:Rec} {x:Option Res} (hd:Jm1 l) (h1:r∈l) (h2:V9 r id=some x) (h3:∀r'∈l,(V9 r' id).isSome=true→r'.ix≤r.ix):Jdv l id=some (r,x):=by
 rw[Xu,Jfk hd h1 (by simp[h2]) h3]
 simp[h2]
theorem Jn2 {l:List Rec} {id:Nat}:Jdv l id=none↔∀r∈l,V9 r id=none:=by
 rw[Xu]
 cases hf:l.find? fun r=>(V9 r id).isSome with
 |none=>
  rw[List.find?_eq_none] at hf
  simp only[Option.bind_none,true_iff]
  intro r hr
  have:=hf r hr
  simpa using this
 |some r=>
  have h1:=List.mem_of_find?_eq_some hf
  have h2:=List.find?_some hf
  obtain⟨x,hx⟩:=Option.isSome_iff_exists.1 h2
  simp only[Option.bind_some,hx,Option.map_some]
  constructor
  ·intro h;cases h
  ·intro h;rw[h r h1] at hx;cases hx
def Yg (bs:Nat→Option Bool) (gc:GC):Bool:=gc.all fun p=>bs p.1==some p.2
theorem Jhd {bs:Nat→Option Bool}:∀{gc:GC},Jmh bs gc↔Yg bs gc=true
 |[]=>by simp[Jmh,Yg]
 |[(j,w)]=>by
  simp only[Jmh,Yg,List.all_cons,List.all_nil,Bool.and_true]
  cases bs j<;>simp
 |(j,w)::q::r=>by
  simp only[Jmh]
  rw[Jhd (gc:=q::r)]
  simp only[Yg,List.all_cons,Bool.and_eq_true]
  cases bs j<;>simp[and_comm]
theorem D9 {bs:Nat→Option Bool} {a b:GC} (h:Jnk a b=true) (hb:Yg bs b=true):Yg bs a=true:=by
 simp only[Yg,Jnk,List.all_eq_true,List.contains_iff_mem] at*
 exact fun x hx=>hb x (h x hx)
theorem Y8 (p:Prop) (r:List Prop):Kq (p::r)↔p∧Kq r:=by
 cases r with
 |nil=>simp[Kq]
 |cons q r=>rfl
theorem Jm {l l':List Prop}:Kq (l++l')↔Kq l∧Kq l':=by
 induction l with
 |nil=>simp[Kq]
 |cons p r ih=>rw[List.cons_append,Y8,Y8,ih,and_assoc]
theorem Js1 {l:List Prop}:Kq l↔∀p∈l,p:=by
 induction l with
 |nil=>simp[Kq]
 | cons p r ih =>
  rw[Y8,ih]
  constructor
  ·rintro⟨h1,h2⟩ q hq
   rcases List.mem_cons.1 hq with rfl|hq
   ·exact h1
   ·exact h2 q hq
  ·intro h
   exact⟨h p List.mem_cons_self,fun q hq=>h q (List.mem_cons_of_mem _ hq)⟩
theorem Jio {bs:Nat→Option Bool}:∀{recs:List Rec},Kq (J3b bs recs)→∀r∈recs,Yg bs r.gc=true→Kq r.out.pre
 |[],_,r,hr=>by simp at hr
 | x :: l, h, r, hr => by
  simp only[J3b,Jm] at h
  rcases List.mem_cons.1 hr with rfl|hr
  ·intro hg
   have h2:=h.2
   split at h2
   ·exact h2
   ·rw[Js1] at h2⊢
    intro p hp
    exact h2 _ (List.mem_map.2 ⟨p,hp,rfl⟩) (Jhd.2 hg)
  ·exact Jio h.1 r hr
section
variable {P:Program} {Γ:Gam} {an:Dn} {ops:List Oper} {st:St}
def Vu (P:Program) (Γ:Gam) (an:Dn) (ops:List Oper) (st:St):List Rec→Prop
 |[]=>True
 |r::l=>Vu P Γ an ops st l∧∃o,ops[l.length]? =some o∧Jnm P Γ an ops st (Ja2 st.nx l) l.length l o=some r
theorem Kc {nx n:Nat} {all:List Rec} {o:Oper} {r:Rec} (h:Jnm P Γ an ops st nx n all o=some r):
  r.ix=n∧r.base=nx∧r.dst=o.dst∧r.touch=Jem an (evR an ops n st (Lh an n all) r.gc) o∧J3f an ops n (Lh an n all) o=some r.gc∧(∀t,o.dst=some t→Jtq an ops n t=true)∧(∀u∈r.out.upd,u.1<nx)∧
  Jzn P Γ an ops st nx n (Lh an n all) r.gc o=some r.out:=by
 unfold Jnm at h
 split at h
 ·cases h
 ·rename_i gc hgc
  split at h
  ·rename_i out hout
   split at h
   ·rename_i hc
    obtain⟨hw,hu⟩:=hc
    cases h
    refine⟨rfl,rfl,rfl,rfl,hgc,fun t ht=>by unfold Kje at hw;rw[ht] at hw;exact hw,fun u hu'=> ?_,hout⟩
    have:=List.all_eq_true.1 hu u hu'
    simpa[Nat.blt_eq] using this
   ·cases h
  ·cases h
theorem Jij:∀(rest:List Oper) {nx n:Nat} {recs res:List Rec},Vu P Γ an ops st recs→recs.length=n→nx=Ja2 st.nx recs→ops.drop n=rest→Jve P Γ an ops st rest nx n recs=some res→Vu P Γ an ops st res∧res.length=n+rest.length
 |[],nx,n,recs,res,h,hn,_,_,hr=>by cases hr;exact⟨h,hn⟩
 | o :: r, nx, n, recs, res, h, hn, hx, hd, hr => by
  simp only[Jve] at hr
  split at hr
  ·rename_i x hx'
   obtain⟨p1,p2,_⟩:=Kc hx'
   have ho:ops[n]? =some o:=by
    have:=congrArg (fun l=>l[0]?) hd
    simpa using this
   have:=Jij r (recs:=x::recs) ⟨h,o,by rw[hn];exact ho,by rw[hn,←hx];exact hx'⟩ (by simp[hn]) (by simp[Ja2,p2]) (by rw[←List.drop_drop,hd];rfl) hr
   exact⟨this.1,by rw[this.2];simp;omega⟩
  ·cases hr
theorem Vu.tail {l l':List Rec} (h:Vu P Γ an ops st (l++l')):Vu P Γ an ops st l':=by
 induction l with
 |nil=>exact h
 |cons x l ih=>exact ih h.1
theorem Vu.ix {l:List Rec} (h:Vu P Γ an ops st l):∀r∈l,r.ix<l.length:=by
 induction l with
 |nil=>intro r hr;simp at hr
 |cons x l ih=>
  intro r hr
  obtain⟨h1,o,_,h3⟩:=h
  rcases List.mem_cons.1 hr with rfl|hr
  ·rw[(Kc h3).1];simp
  ·have:=ih h1 r hr;simp;omega
theorem Vu.desc {l:List Rec} (h:Vu P Γ an ops st l):Jm1 l:=by
 induction l with
 |nil=>exact .nil
 |cons x l ih=>
  obtain⟨h1,o,_,h3⟩:=h
  refine List.pairwise_cons.2 ⟨fun r hr=> ?_,ih h1⟩
  rw[(Kc h3).1]
  exact h1.ix r hr
theorem Vu.nx {l:List Rec} (h:Vu P Γ an ops st l):st.nx≤Ja2 st.nx l∧∀r∈l,st.nx≤r.base∧r.base+r.out.news.length≤Ja2 st.nx l:=by
 induction l with
 |nil=>exact⟨Nat.le_refl _,fun r hr=>by simp at hr⟩
 | cons x l ih =>
  obtain⟨h1,o,_,h3⟩:=h
  obtain⟨i1,i2⟩:=ih h1
  have hb:=(Kc h3).2.1
  refine⟨by simp only[Ja2];omega,fun r hr=> ?_⟩
  rcases List.mem_cons.1 hr with rfl|hr
  ·exact⟨by omega,Nat.le_refl _⟩
  ·have:=i2 r hr
   exact⟨this.1,by simp only[Ja2];omega⟩
theorem Vu.bases {l:List Rec} (h:Vu P Γ an ops st l):l.Pairwise fun a b=>b.base+b.out.news.length≤a.base:=by
 induction l with
 |nil=>exact .nil
 |cons x l ih=>
  obtain⟨h1,o,_,h3⟩:=h
  refine List.pairwise_cons.2 ⟨fun r hr=> ?_,ih h1⟩
  rw[(Kc h3).2.1]
  exact(h1.nx.2 r hr).2
theorem Vu.later {l:List Rec} (h:Vu P Γ an ops st l) {r r':Rec} (hr:r∈l) (hr':r'∈l) (hi:r.ix<r'.ix):r.base+r.out.news.length≤r'.base:=by
 have hd:=h.desc
 have hb:=h.bases
 clear h
 induction l with
 |nil=>simp at hr
 |cons x l ih=>
  replace hd:=List.pairwise_cons.1 hd
  replace hb:=List.pairwise_cons.1 hb
  rcases List.mem_cons.1 hr with e|hr1<;>rcases List.mem_cons.1 hr' with e'|hr2
  ·rw[e,e'] at hi;omega
  ·have:=hd.1 r' hr2;rw[←e] at this;omega
  ·rw[e'];exact hb.1 r hr1
  ·exact ih hr1 hr2 hd.2 hb.2
theorem Vu.at {l:List Rec} (h:Vu P Γ an ops st l) {i:Nat} (hi:i<l.length):∃r o early,r∈l∧r.ix=i∧ops[i]? =some o∧Vu P Γ an ops st early∧early.length=i∧
  Jnm P Γ an ops st (Ja2 st.nx early) i early o=some r∧(∀s,s∈early↔s∈l∧s.ix<i)∧∃fr,l=fr++r::early:=by
 induction l with
 |nil=>simp at hi
 | cons x l ih =>
  have hx:=List.pairwise_cons.1 h.desc
  obtain⟨h1,o,h2,h3⟩:=h
  have hix:=(Kc h3).1
  by_cases e:i=l.length
  ·subst e
   refine⟨x,o,l,by simp,hix,h2,h1,rfl,h3,fun s=> ?_,[],rfl⟩
   constructor
   ·intro hs;exact⟨by simp[hs],by have:=hx.1 s hs;omega⟩
   ·rintro⟨hs,hlt⟩
    rcases List.mem_cons.1 hs with rfl|hs
    ·omega
    ·exact hs
  ·have hi':i<l.length:=by simp at hi;omega
   obtain⟨r,o',early,q1,q2,q3,q4,q5,q6,q7,fr,q8⟩:=ih h1 hi'
   refine⟨r,o',early,by simp[q1],q2,q3,q4,q5,q6,fun s=> ?_,x::fr,by rw[q8];rfl⟩
   rw[q7]
   constructor
   ·rintro⟨a,b⟩;exact⟨by simp[a],b⟩
   ·rintro⟨a,b⟩
    rcases List.mem_cons.1 a with rfl|a
    ·omega
    ·exact⟨a,b⟩
end
end Go.Sx
namespace Go.Sx
open Go.RowKit
theorem Jn.weaken [Dr] {P:Program} {N B:Nat} {w0:U7} {al al':Nat→Prop} {τ τ':Nat→Option SV} {σ σ':Nat→Option Res} {a:Act} {w:World} {ρ:Env} {M R:Nat→Prop}
  (C:Jn P N B w0 al τ σ a w ρ M R) (hτ:∀t v,τ' t=some v→τ t=some v) (hσ:∀i x,σ' i=some x→σ i=some x) (hal:∀i,al' i↔al i):Jn P N B w0 al' τ' σ' a w ρ M R:=by
 have e:al'=al:=funext fun i=>propext (hal i)
 subst e
 exact⟨C.size,C.defers,C.nomark,C.stay,C.stayR,C.below,C.base,fun t v h=>C.slot t v (hτ t v h),fun t v h=>C.slotIds t v (hτ t v h),fun r x h=>C.resA r x (hσ r x h),fun r x h=>C.resIds r x (hσ r x h),
  fun r r' x x' hne h h'=>C.apart r r' x x' hne (hσ r x h) (hσ r' x' h'),C.old,C.one,C.up,C.good⟩
theorem Jn.world [Dr] {P:Program} {N B:Nat} {w0:U7} {al:Nat→Prop} {τ:Nat→Option SV} {σ:Nat→Option Res} {a:Act} {w:World} {ρ:Env} {M R:Nat→Prop} (C:Jn P N B w0 al τ σ a w ρ M R) {w':World} (hh:w'.heap=w.heap) (hb:Below B w w'):
  Jn P N B w0 al τ σ a w' ρ M R:=by
 have hk:∀r x,σ r=some x→Jej P ρ M R B w0 w' r x:=fun r x h=>(C.resA r x h).keep rfl (fun _ _=>rfl) (fun _ h=>h) (fun _ _=>by rw[hh]) (fun ho b hb=>⟨by rw[hh],(C.notM h ho hb).1⟩)
 exact⟨C.size,C.defers.keep (fun _ h=>h) (fun _ _=>by rw[hh]),C.nomark,fun b hb=>by rw[hh];exact C.stay b hb,fun b hb=>by rw[hh];exact C.stayR b hb,C.below.trans hb,by rw[hh];exact C.base,C.slot,C.slotIds,hk,C.resIds,C.apart,fun b hb=>by rw[hh];exact C.old b hb,C.one,C.up,C.good⟩
section
variable {P:Program} {Γ:Gam} {an:Dn} {ops:List Oper} {st:St}
def H1 (recs:List Rec) (S:Nat→Bool):List Rec:=recs.filter fun r=>S r.ix
def Y2 (recs:List Rec) (r:Rec):Bool:=Yg (Ld recs) r.gc
def Fn (recs:List Rec) (st:St) (S:Nat→Bool) (t:Nat):Option SV:=match H0 (H1 recs S) t with
 |some r=>if Y2 recs r=true then some r.out.val else some Jt
 |none=>look st.sl t
def Jcv (recs:List Rec) (st:St) (S:Nat→Bool) (id:Nat):Option Res:=match Jdv (H1 recs S) id with
 |some (r,x)=>if Y2 recs r=true then x else none
 |none=>look st.rs id
def alS (recs:List Rec) (al0:Nat→Prop) (S:Nat→Bool) (id:Nat):Prop:=
 al0 id∨∃r∈recs,S r.ix=true∧Y2 recs r=true∧r.base≤id∧id<r.base+r.out.news.length
def J7c (P:Program) (Γ:Gam) (an:Dn) (ops:List Oper) (st:St) (r s:Rec) (early:List Rec):Prop:=
 ∃i y o out,s.touch=some [i]∧r.out.upd=[(i,some y)]∧r.gc=[]∧s.out.upd=[]∧s.out.news=[]∧r.out.news=[]∧ops[s.ix]? =some o∧(∀c x y,o.op≠ .pick c x y)∧
  opS P Γ (evR an ops s.ix st (Lh an s.ix early) s.gc) (fun id=>if id=i then some y else none) s.base o=some out∧out.upd=[]∧out.news=[]∧out.pre=[]∧out.val=s.out.val
def J24 (P:Program) (Γ:Gam) (an:Dn) (ops:List Oper) (st:St) (recs:List Rec):Prop:=∀r∈recs,∀fr s early,recs=fr++s::early→r.out.upd≠[]→r.ix≠s.ix→
 cmpB an r.ix s.ix=true∨(∃l,s.touch=some l∧∀u∈r.out.upd,s.new u.1=false∧l.contains u.1=false∧look s.out.upd u.1=none)∨J7c P Γ an ops st r s early
theorem Jkw {i j:Nat} (h:i≠j):cmpB none i j=true:=by
 unfold cmpB Jfz
 cases hb:Nat.blt i j with
 |true=>rfl
 | false =>
  have:¬i<j:=by
   intro hlt
   rw[show Nat.blt i j=true from by simpa[Nat.blt_eq] using hlt] at hb
   cases hb
  simp[Nat.blt_eq];omega
theorem Jm9 {recs:List Rec}:J24 P Γ none ops st recs:=fun _ _ _ _ _ _ _ hne=> .inl (Jkw hne)
theorem Ju8 {r s:Rec} (h:J70 an r s=true) (hu:r.out.upd≠[]) (hne:r.ix≠s.ix):cmpB an r.ix s.ix=true∨∃l,s.touch=some l∧∀u∈r.out.upd,s.new u.1=false∧l.contains u.1=false∧look s.out.upd u.1=none:=by
 unfold J70 at h
 have hu':r.out.upd.isEmpty=false:=by simpa using hu
 have hne':Nat.beq r.ix s.ix=false:=by
  cases hb:Nat.beq r.ix s.ix with
  |false=>rfl
  |true=>exact absurd (Nat.eq_of_beq_eq_true hb) hne
 rw[hu',Bool.false_or,hne',Bool.false_or,Bool.or_eq_true] at h
 rcases h with h2|h2
 ·exact .inl h2
 ·split at h2
  ·rename_i l hl
   refine .inr ⟨l,hl,fun u hu=> ?_⟩
   have:=List.all_eq_true.1 h2 u hu
   simp only[Bool.and_eq_true,Bool.not_eq_true',Option.isNone_iff_eq_none] at this
   exact this
  ·cases h2
theorem Jxf {r s:Rec} {early:List Rec} {qs:List Prop} (h:Kah P Γ an ops st r s early=some qs) (hq:Kq qs):J7c P Γ an ops st r s early:=by
 unfold Kah at h
 split at h
 ·rename_i i j y o h1 h2 h3
  split at h
  ·rename_i hc
   obtain⟨rfl,c1,c2,c3,c4,c5⟩:=hc
   split at h
   ·cases h
   ·rename_i hnp
    split at h
    ·rename_i out ho
     split at h
     ·rename_i hd
      cases h
      exact⟨i,y,o,out,h1,h2,List.isEmpty_iff.1 c1,List.isEmpty_iff.1 c3,List.isEmpty_iff.1 c4,List.isEmpty_iff.1 c5,h3,fun c x y e=>hnp c x y e,ho,List.isEmpty_iff.1 hd.1,List.isEmpty_iff.1 hd.2.1,List.isEmpty_iff.1 hd.2.2,hq⟩
     ·cases h
    ·cases h
  ·cases h
 ·cases h
theorem Jh9 {s:Rec} {early:List Rec}:∀{l:List Rec} {qs:List Prop},J29 P Γ an ops st s early l=some qs→Kq qs→∀r∈l,r.out.upd≠[]→r.ix≠s.ix→
  cmpB an r.ix s.ix=true∨(∃l,s.touch=some l∧∀u∈r.out.upd,s.new u.1=false∧l.contains u.1=false∧look s.out.upd u.1=none)∨J7c P Γ an ops st r s early
 |[],_,_,_,r,hr=>by simp at hr
 | x :: l, qs, h, hq, r, hr => by
  intro hu hne
  simp only[J29] at h
  split at h
  ·rename_i ps hps
   split at h
   ·rename_i hb
    cases h
    rcases List.mem_cons.1 hr with rfl|hr
    ·rcases Ju8 hb hu hne with h1|h1
     ·exact .inl h1
     ·exact .inr (.inl h1)
    ·exact Jh9 hps hq r hr hu hne
   ·split at h
    ·rename_i ql hql
     cases h
     obtain⟨q1,q2⟩:=Jm.1 hq
     rcases List.mem_cons.1 hr with rfl|hr
     ·exact .inr (.inr (Jxf hql q1))
     ·exact Jh9 hps q2 r hr hu hne
    ·cases h
  ·cases h
theorem Jna {all:List Rec}:∀{l:List Rec} {qs:List Prop},Jx0 P Γ an ops st all l=some qs→Kq qs→∀r∈all,∀fr s early,l=fr++s::early→r.out.upd≠[]→r.ix≠s.ix→
  cmpB an r.ix s.ix=true∨(∃l,s.touch=some l∧∀u∈r.out.upd,s.new u.1=false∧l.contains u.1=false∧look s.out.upd u.1=none)∨J7c P Γ an ops st r s early
 |[],_,_,_,r,_,fr,s,early,e=>by simp at e
 | x :: l, qs, h, hq, r, hr, fr, s, early, e => by
  simp only[Jx0] at h
  split at h
  ·rename_i a b ha hb
   cases h
   obtain⟨q1,q2⟩:=Jm.1 hq
   cases fr with
   |nil=>
    simp only[List.nil_append,List.cons.injEq] at e
    obtain⟨rfl,rfl⟩:=e
    exact Jh9 ha q1 r hr
   |cons y fr=>
    simp only[List.cons_append,List.cons.injEq] at e
    exact Jna hb q2 r hr fr s early e.2
  ·cases h
theorem Jm3 {i t:Nat}:∀{l:List Oper} {k:Nat},J28 an i t l k=true→∀j o,l[j]? =some o→o.dst=some t→k+j≠i→cmpB an i (k+j)=true
 |[],_,_,j,o,h,_,_=>by simp at h
 | x :: l, k, h, j, o, ho, hd, hne => by
  simp only[J28,Bool.and_eq_true] at h
  cases j with
  |zero=>
   simp only[List.getElem?_cons_zero,Option.some.injEq] at ho
   subst ho
   have h1:=h.1
   rw[hd] at h1
   simp only[Bool.or_eq_true] at h1
   rcases h1 with h1|h1|h1
   ·simp at h1
   ·exact absurd (Nat.eq_of_beq_eq_true h1) hne
   ·exact h1
  |succ j=>
   have:=Jm3 h.2 j o (by simpa using ho) hd (by omega)
   rwa[show k+(j+1)=k+1+j by omega]
theorem Jm2 {i t:Nat} (h:Jtq an ops i t=true) {j:Nat} {o:Oper} (ho:ops[j]? =some o) (hd:o.dst=some t) (hne:j≠i):cmpB an i j=true:=by
 cases an with
 |none=>exact Jkw (Ne.symm hne)
 |some ms=>
  have:=Jm3 (k:=0) h j o ho hd (by omega)
  rwa[Nat.zero_add] at this
theorem Jkx {i j:Nat}:cmpB an i j=true→i≠j→cmpB an j i=true:=by
 intro h hne
 unfold cmpB at*
 rcases Nat.lt_or_gt_of_ne hne with hlt|hlt
 ·have h1:Nat.blt i j=true:=by simpa[Nat.blt_eq] using hlt
  have h2:Nat.blt j i=false:=by
   cases hb:Nat.blt j i with
   |false=>rfl
   |true=>rw[Nat.blt_eq] at hb;omega
  rw[h1] at h;rw[h2];exact h
 ·have h1:Nat.blt j i=true:=by simpa[Nat.blt_eq] using hlt
  have h2:Nat.blt i j=false:=by
   cases hb:Nat.blt i j with
   |false=>rfl
   |true=>rw[Nat.blt_eq] at hb;omega
  rw[h2] at h;rw[h1];exact h
theorem Jfr {S:Nat→Bool} (hcl:∀i j,S i=true→Jfz an i j=true→S j=true) {i j:Nat} (h:cmpB an i j=true) (hi:S i=false) (hj:S j=true):Jfz an i j=true∧j<i:=by
 have hne:j≠i:=fun e=>by rw[e,hi] at hj;cases hj
 unfold cmpB at h
 cases hb:Nat.blt i j with
 |true=>
  rw[hb] at h
  have:=hcl j i hj h
  rw[hi] at this;cases this
 | false =>
  rw[hb] at h
  refine⟨h, ?_⟩
  have:¬i<j:=by
   intro hlt
   rw[show Nat.blt i j=true from by simpa[Nat.blt_eq] using hlt] at hb
   cases hb
  omega
theorem Lr {i:Nat} {early recs:List Rec} (he:∀s,s∈early↔s∈recs∧s.ix<i) (s:Rec):s∈Lh an i early↔s∈recs∧s.ix<i∧Jfz an i s.ix=true:=by
 unfold Lh
 cases an with
 |none=>
  simp only[he,Jfz,Nat.blt_eq]
  constructor
  ·rintro⟨a,b⟩;exact⟨a,b,b⟩
  ·rintro⟨a,b,_⟩;exact⟨a,b⟩
 |some ms=>simp only[List.mem_filter,he,and_assoc]
theorem Kx {recs:List Rec} {S:Nat→Bool} {s:Rec}:s∈H1 recs S↔s∈recs∧S s.ix=true:=List.mem_filter
theorem Ux {l:List Rec} (h:Jm1 l) (p:Rec→Bool):Jm1 (l.filter p):=List.Pairwise.sublist List.filter_sublist h
theorem Jar {i:Nat} {l:List Rec} (h:Jm1 l):Jm1 (Lh an i l):=by
 unfold Lh
 cases an with
 |none=>exact h
 |some ms=>exact Ux h _
theorem Y0 {r:Rec} {id:Nat} (h:(V9 r id).isSome=true):(r.base≤id∧id<r.base+r.out.news.length)∨(r.out.upd≠[]∧∃y,(id,y)∈r.out.upd):=by
 unfold V9 at h
 split at h
 ·rename_i hc;exact .inl hc
 ·obtain⟨y,hy⟩:=Option.isSome_iff_exists.1 h
  have:=Jq hy
  exact .inr ⟨List.ne_nil_of_mem this,y,this⟩
theorem Jbj (v:Value):(ofValue v).ids=[]:=by
 cases v<;>first|rfl|simp[ofValue,SV.ids,D7]
theorem Dg {v:SV} {b:Bool} (h:Ho v=some b):v= .one (.bool b):=by
 unfold Ho at h
 split at h
 ·cases h;rfl
 ·cases h
end
end Go.Sx
namespace Go.Sx
open Go.RowKit
section
variable {P:Program} {Γ:Gam} {an:Dn} {ops:List Oper} {st:St} {N B:Nat} {w0:U7} {R:Nat→Prop} {recs:List Rec} {al0:Nat→Prop}
structure Fk (P:Program) (Γ:Gam) (an:Dn) (ops:List Oper) (st:St) (recs:List Rec) (S:Nat→Bool) (i:Nat) (r:Rec) (o:Oper) (early:List Rec):Prop where
 run:Vu P Γ an ops st recs
 mem:r∈recs
 ix:r.ix=i
 op:ops[i]? =some o
 eRun:Vu P Γ an ops st early
 eMem:∀s,s∈early↔s∈recs∧s.ix<i
 eNx:r.base=Ja2 st.nx early
 dst:r.dst=o.dst
 touch:r.touch=Jem an (evR an ops i st (Lh an i early) r.gc) o
 gc:J3f an ops i (Lh an i early) o=some r.gc
 wr:∀t,o.dst=some t→Jtq an ops i t=true
 upd:∀u∈r.out.upd,u.1<r.base
 out:Jzn P Γ an ops st r.base i (Lh an i early) r.gc o=some r.out
 closed:∀i j,S i=true→Jfz an i j=true→S j=true
 fresh:S i=false
 suf:∃fr,recs=fr++r::early
 ancs:∀j,Jfz an i j=true→S j=true
variable {S:Nat→Bool} {i:Nat} {r:Rec} {o:Oper} {early:List Rec}
theorem Fk.dsts (H:Fk P Γ an ops st recs S i r o early) {s:Rec} (hs:s∈recs):∃os,ops[s.ix]? =some os∧s.dst=os.dst:=by
 obtain⟨r',o',e',h1,h2,h3,_,_,h6,_,_⟩:=H.run.at (H.run.ix s hs)
 have:r'=s:=Uw H.run.desc h1 hs h2
 subst this
 exact⟨o',h3,(Kc h6).2.2.1⟩
theorem Fk.same (H:Fk P Γ an ops st recs S i r o early) {p:Rec→Bool} (hp:∀s∈recs,p s=true→s.ix≠i→cmpB an i s.ix=true):(Lh an i early).find? p=(H1 recs S).find? p:=by
 refine Jb7 (Jar H.eRun.desc) (Ux H.run.desc _) fun s hs=> ?_
 rw[Lr H.eMem,Kx]
 constructor
 ·rintro⟨h1,_,h3⟩;exact⟨h1,H.ancs _ h3⟩
 ·rintro⟨h1,h2⟩
  have hne:s.ix≠i:=fun e=>by rw[e,H.fresh] at h2;cases h2
  obtain⟨q1,q2⟩:=Jfr H.closed (hp s h1 hs hne) H.fresh h2
  exact⟨h1,q2,q1⟩
theorem Fk.slot (H:Fk P Γ an ops st recs S i r o early) {t:Nat} (ht:Jtq an ops i t=true):H0 (Lh an i early) t=H0 (H1 recs S) t:=by
 rw[V1,V1]
 refine H.same fun s hs hp hne=> ?_
 obtain⟨os,h1,h2⟩:=H.dsts hs
 exact Jm2 ht h1 (h2▸of_decide_eq_true hp) hne
theorem Fk.ev [Dr] (H:Fk P Γ an ops st recs S i r o early) {a:Act} {w:World} {ρ:Env} {M:Nat→Prop} (C:Jn P N B w0 (alS recs al0 S) (Fn recs st S) (Jcv recs st S) a w ρ M R) {gc:GC} (hg:Yg (Ld recs) gc=true) {x:Operand} {sv:SV} (h:evR an ops i st (Lh an i early) gc x=some sv):
  a.eval x=sv.den ρ∧∀id∈sv.ids,alS recs al0 S id:=by
 cases x with
 | tmp t =>
  simp only[evR] at h
  split at h
  ·rename_i ht
   rw[H.slot ht] at h
   have key:Fn recs st S t=some sv:=by
    unfold Fn
    cases hs:H0 (H1 recs S) t with
    |none=>rw[hs] at h;exact h
    | some s =>
     rw[hs] at h
     simp only at h⊢
     split at h
     ·rename_i hsub
      rw[if_pos (show Y2 recs s=true from D9 hsub hg)];exact h
     ·cases h
   exact⟨C.slot t sv key,C.slotIds t sv key⟩
  ·cases h
 |const v=>cases h;exact⟨(Jcg ρ v).symm,fun id hid=>by rw[Jbj] at hid;simp at hid⟩
 |func f=>cases h;exact⟨rfl,fun id hid=>by simp[SV.ids,Js,SC.ids] at hid⟩
 |global g=>cases h
theorem Fk.rs (H:Fk P Γ an ops st recs S i r o early) (hU:J24 P Γ an ops st recs) (hna:∀id rr x,Jdv (H1 recs S) id=some (rr,x)→(∃y,(id,y)∈rr.out.upd)→(∀l,r.touch=some l→l.contains id=true)→rr∈Lh an i early) (hst:∀id x,look st.rs id=some x→id<st.nx) {gc:GC} (hg:Yg (Ld recs) gc=true) {id:Nat} {x:Res} (h:rsT r.touch (rsR st (Lh an i early) gc) id=some x):
  Jcv recs st S id=some x:=by
 have hd:=Ux H.run.desc fun r=>S r.ix
 have hdv:=Jar (an:=an) (i:=i) H.eRun.desc
 have hrt:rsR st (Lh an i early) gc id=some x∧∀l,r.touch=some l→l.contains id=true:=by
  unfold rsT at h
  split at h
  ·rename_i e;exact⟨h,fun l hl=>by rw[e] at hl;cases hl⟩
  ·rename_i l e
   split at h
   ·rename_i hc;exact⟨h,fun l' hl=>by rw[e] at hl;cases hl;exact hc⟩
   ·cases h
 obtain⟨h,htc⟩:=hrt
 unfold rsR at h
 unfold Jcv
 cases hj:Jdv (H1 recs S) id with
 | none =>
  cases hv:Jdv (Lh an i early) id with
  |none=>rw[hv] at h;exact h
  |some p=>
   obtain⟨s,y⟩:=p
   obtain⟨h1,h2,_⟩:=Hh hdv hv
   obtain⟨m1,m2,m3⟩:=(Lr H.eMem s).1 h1
   rw[Jn2] at hj
   rw[hj s (Kx.2 ⟨m1,H.ancs _ m3⟩)] at h2;cases h2
 | some q =>
  obtain⟨rr,x'⟩:=q
  obtain⟨g1,g2,g3⟩:=Hh hd hj
  obtain⟨n1,n2⟩:=Kx.1 g1
  have hvis : rr ∈ Lh an i early := by
   rcases Y0 (r:=rr) (id:=id) (by rw[g2];rfl) with hc|⟨_,hc⟩
   ·-- new there: whoever sees the identity
    cases hv:Jdv (Lh an i early) id with
    |none=>
     rw[hv] at h
     have:=(H.run.nx.2 rr n1).1
     have:=hst id x h
     omega
    | some p =>
     obtain⟨s,y⟩:=p
     obtain⟨h1,h2,h3⟩:=Hh hdv hv
     obtain⟨m1,m2,m3⟩:=(Lr H.eMem s).1 h1
     have hle:=g3 s (Kx.2 ⟨m1,H.ancs _ m3⟩) (by rw[h2];rfl)
     rcases Nat.lt_or_ge s.ix rr.ix with hlt|hge
     ·exfalso
      have hb:=H.run.later m1 n1 hlt
      rcases Y0 (r:=s) (id:=id) (by rw[h2];rfl) with hc'|⟨_,z,hz⟩
      ·omega
      ·obtain⟨r',o',e',q1,q2,q3,q4,q5,q6,q7⟩:=H.run.at (H.run.ix s m1)
       have e:=Uw H.run.desc q1 m1 q2
       subst e
       have:=(Kc q6).2.2.2.2.2.2.1 _ hz
       have hbase:=(Kc q6).2.1
       simp only at this
       omega
     ·have:=Uw H.run.desc m1 n1 (by omega)
      rw[←this];exact h1
   ·exact hna id rr x' hj hc htc
  have hsame:Jdv (Lh an i early) id=some (rr,x'):=Jn3 hdv hvis g2 fun s hs ht=>by
   obtain⟨m1,m2,m3⟩:=(Lr H.eMem s).1 hs
   exact g3 s (Kx.2 ⟨m1,H.ancs _ m3⟩) ht
  rw[hsame] at h
  simp only at h⊢
  split at h
  ·rename_i hsub
   rw[if_pos (show Y2 recs rr=true from D9 hsub hg)];exact h
  ·cases h
theorem Fk.slotAfter (H:Fk P Γ an ops st recs S i r o early) {S':Nat→Bool} (hS:∀j,S' j=true↔S j=true∨j=i) (t:Nat):H0 (H1 recs S') t=if o.dst=some t then some r else H0 (H1 recs S) t:=by
 have hd:=Ux H.run.desc fun r=>S r.ix
 have hd':=Ux H.run.desc fun r=>S' r.ix
 rw[V1,V1]
 split
 ·rename_i e
  refine Jfk hd' (Kx.2 ⟨H.mem,(hS _).2 (.inr H.ix)⟩) (by simp[H.dst,e]) fun s hs hp=> ?_
  obtain⟨s1,s2⟩:=Kx.1 hs
  rw[H.ix]
  by_cases hne:s.ix=i
  ·exact Nat.le_of_eq hne
  ·have hSs:S s.ix=true:=((hS _).1 s2).resolve_right hne
   obtain⟨os,h1,h2⟩:=H.dsts s1
   exact Nat.le_of_lt (Jfr H.closed (Jm2 (H.wr t e) h1 (h2▸of_decide_eq_true hp) hne) H.fresh hSs).2
 ·rename_i e
  refine Jb7 hd' hd fun s hp=> ?_
  rw[Kx,Kx,hS]
  constructor
  ·rintro⟨h1,h2|h2⟩
   ·exact⟨h1,h2⟩
   ·have:s=r:=Uw H.run.desc h1 H.mem (by rw[H.ix];exact h2)
    subst this
    exact absurd (H.dst▸of_decide_eq_true hp) e
  ·rintro⟨h1,h2⟩;exact⟨h1, .inl h2⟩
theorem Fk.resAfter (H:Fk P Γ an ops st recs S i r o early) (hU:J24 P Γ an ops st recs) {S':Nat→Bool} (hS:∀j,S' j=true↔S j=true∨j=i) (id:Nat):
  Jdv (H1 recs S') id=match V9 r id with|some x=>some (r,x)|none=>Jdv (H1 recs S) id:=by
 have hd:=Ux H.run.desc fun r=>S r.ix
 have hd':=Ux H.run.desc fun r=>S' r.ix
 cases hr:V9 r id with
 | some x =>
  refine Jn3 hd' (Kx.2 ⟨H.mem,(hS _).2 (.inr H.ix)⟩) hr fun s hs ht=> ?_
  obtain⟨s1,s2⟩:=Kx.1 hs
  rw[H.ix]
  rcases Nat.lt_or_ge i s.ix with hlt|hge
  ·exfalso
   have hne:s.ix≠i:=by omega
   have hSs:S s.ix=true:=((hS _).1 s2).resolve_right hne
   have hb:=H.run.later H.mem s1 (by rw[H.ix];exact hlt)
   have hri:=Y0 (r:=r) (id:=id) (by rw[hr];rfl)
   rcases Y0 ht with hc|⟨hc,y,hy⟩
   ·rcases hri with hc'|⟨_,z,hz⟩
    ·omega
    ·have:=H.upd _ hz;simp only at this;omega
   ·obtain⟨fr,hsuf⟩:=H.suf
    rcases hU s s1 fr r early hsuf hc (by rw[H.ix];exact hne) with hcm|⟨_,_,hn⟩|⟨_,_,_,_,_,_,_,a4,a5,_⟩
    ·rw[H.ix] at hcm
     have:=(Jfr H.closed (Jkx hcm hne) H.fresh hSs).2
     omega
    ·obtain⟨n1,_,n3⟩:=hn _ hy
     unfold V9 at hr
     split at hr
     ·rename_i hcc
      simp[Rec.new] at n1
      omega
     ·simp only at n3
      rw[n3] at hr;cases hr
    ·unfold V9 at hr
     rw[a4,a5] at hr
     simp only[List.length_nil,look] at hr
     split at hr
     ·omega
     ·cases hr
  ·exact hge
 | none =>
  simp only
  rw[Xu,Xu]
  congr 1
  refine Jb7 hd' hd fun s hp=> ?_
  rw[Kx,Kx,hS]
  constructor
  ·rintro⟨h1,h2|h2⟩
   ·exact⟨h1,h2⟩
   ·have:s=r:=Uw H.run.desc h1 H.mem (by rw[H.ix];exact h2)
    subst this
    rw[hr] at hp;cases hp
  ·rintro⟨h1,h2⟩;exact⟨h1, .inl h2⟩
theorem Fk.alLive (H:Fk P Γ an ops st recs S i r o early) {S':Nat→Bool} (hS:∀j,S' j=true↔S j=true∨j=i) (hl:Y2 recs r=true) (id:Nat):alS recs al0 S' id↔Yy (alS recs al0 S) r.base r.out.news id:=by
 unfold alS Yy
 constructor
 ·rintro(h|⟨s,h1,h2,h3,h4⟩)
  ·exact .inl (.inl h)
  ·rcases(hS _).1 h2 with h2|h2
   ·exact .inl (.inr ⟨s,h1,h2,h3,h4⟩)
   ·have:s=r:=Uw H.run.desc h1 H.mem (by rw[H.ix];exact h2)
    subst this
    exact .inr h4
 ·rintro((h|⟨s,h1,h2,h3,h4⟩)|h)
  ·exact .inl h
  ·exact .inr ⟨s,h1,(hS _).2 (.inl h2),h3,h4⟩
  ·exact .inr ⟨r,H.mem,(hS _).2 (.inr H.ix),hl,h⟩
theorem Fk.alDead (H:Fk P Γ an ops st recs S i r o early) {S':Nat→Bool} (hS:∀j,S' j=true↔S j=true∨j=i) (hl:Y2 recs r=false) (id:Nat):alS recs al0 S' id↔alS recs al0 S id:=by
 unfold alS
 constructor
 ·rintro(h|⟨s,h1,h2,h3,h4⟩)
  ·exact .inl h
  ·rcases(hS _).1 h2 with h2|h2
   ·exact .inr ⟨s,h1,h2,h3,h4⟩
   ·have:s=r:=Uw H.run.desc h1 H.mem (by rw[H.ix];exact h2)
    subst this
    rw[hl] at h3;cases h3
 ·rintro(h|⟨s,h1,h2,h3,h4⟩)
  ·exact .inl h
  ·exact .inr ⟨s,h1,(hS _).2 (.inl h2),h3,h4⟩
theorem Fk.fresh' (H:Fk P Γ an ops st recs S i r o early) (hal0:∀id,al0 id→id<st.nx) (id:Nat) (h:alS recs al0 S id):¬(r.base≤id∧id<r.base+r.out.news.length):=by
 rcases h with h|⟨s,h1,h2,h3,h4⟩
 ·have:=hal0 id h
  have:=(H.run.nx.2 r H.mem).1
  omega
 ·have hne:s.ix≠r.ix:=fun e=>by rw[e,H.ix,H.fresh] at h2;cases h2
  rcases Nat.lt_or_gt_of_ne hne with hlt|hlt
  ·have:=H.run.later h1 H.mem hlt;omega
  ·have:=H.run.later H.mem h1 hlt;omega
end
end Go.Sx
namespace Go.Sx
open Go.RowKit
def FR (rd:Option Nat):Fence:={Fence.wide with round:=rd}
theorem Yo {rd:Option Nat} {n:Nat} {P:Program} {f:FuncId} {args:Array Value} {w:World} {R:Ending→World→Prop}:CallsIn (FR rd) n P f args w R↔Calls P f args w R:=
 (callsIn_wide (n:=n) (P:=P) (f:=f) (args:=args) (w:=w) (R:=R))
theorem Jnz {rd:Option Nat} {n:Nat} {P:Program} {row:String} {args:Array Value} {w:World} {R:Value→World→Prop} (h:Rows P row args w R):RowsIn (FR rd) n P row args w R:=
 fun c cs _=>let⟨v,w',r,s⟩:=h c cs;⟨v,w',r,stepsIn_wide.2 s⟩
theorem Jdf {rd:Option Nat} {P:Program} {o:Oper} {a:Act} {w:World} {K:Act→World→Prop} {Q:Exit→Act→World→Prop} (hnd:∀c,o.op≠ .defer c) (h:o.wp P a w K Q):o.wpIn (FR rd) 0 P a w K Q:=by
 unfold Oper.wp at h
 unfold Oper.wpIn
 refine⟨fun _ _=>trivial, ?_⟩
 rw[Oper.semAt_eq _ _ _ hnd]
 revert h
 generalize(execOp a.eval o).run P w=r
 cases r with
 | ok x w' =>
  cases x<;>simp only[Oper.upon,Oper.uponIn]<;>intro h<;>
   first
    |exact h
    |exact⟨fun h=>by simp[FR,Fence.wide] at h,Yo.2 h⟩
    |exact⟨fun h=>by simp[FR,Fence.wide] at h,Jnz h⟩
    |exact h.elim
 |halt x w'=>cases x<;>simp only[Oper.upon,Oper.uponIn]<;>intro h<;>first|exact h|exact h.elim
section
variable {P:Program} {Γ:Gam} {an:Dn} {ops:List Oper} {st:St} {N B:Nat} {w0:U7} {R:Nat→Prop} {recs:List Rec} {al0:Nat→Prop}
variable {S:Nat→Bool} {i:Nat} {r:Rec} {o:Oper} {early:List Rec}
theorem Jeg (hr:Vu P Γ an ops st recs) {s:Rec} (hs:s∈recs):Ld recs s.ix=Ho s.out.val:=by
 unfold Ld
 rw[Jbc,Jfk hr.desc hs (by simp) fun r' _ h=>by simp at h;omega]
theorem Fk.wanted [Dr] (H : Fk P Γ an ops st recs S i r o early) {a : Act} {w : World} {ρ : Env} {M : Nat → Prop} (C : Jn P N B w0 (alS recs al0 S) (Fn recs st S) (Jcv recs st S) a w ρ M R) {opsA : Array Oper} (hA : opsA.toList = ops)
  (hN:∀o∈ops,∀t,o.dst=some t→t<N):Region.wanted o (yielded opsA a.tmps)=Y2 recs r:=by
 have hg:=H.gc
 unfold J3f at hg
 unfold Region.wanted Y2
 cases hgd:o.guard with
 |none=>
  rw[hgd] at hg
  have:r.gc=[]:=(Option.some.inj hg).symm
  rw[this];rfl
 | some jw =>
  obtain⟨j,want⟩:=jw
  rw[hgd] at hg
  simp only at hg⊢
  split at hg
  ·rename_i s hs
   split at hg
   ·rename_i b t hb ht
    split at hg
    ·rename_i hw
     split at hg
     ·rename_i s' hs'
      split at hg
      ·rename_i hj
       have hgc:(j,want)::s.gc=r.gc:=Option.some.inj hg
       have hdv:=Jar (an:=an) (i:=i) H.eRun.desc
       have hsf:s∈Lh an i early∧s.ix=j:=by
        rw[Jbc] at hs
        obtain⟨q1,q2,_⟩:=Y6 hdv hs
        exact⟨q1,of_decide_eq_true q2⟩
       have hs'f:s'∈Lh an i early:=by
        rw[V1] at hs'
        exact(Y6 hdv hs').1
       have e:s'=s:=Uw hdv hs'f hsf.1 (by rw[hj,hsf.2])
       subst e
       have hsr:=((Lr H.eMem s').1 hsf.1).1
       obtain⟨os,ho1,ho2⟩:=H.dsts hsr
       have hdt:os.dst=some t:=by rw[←ho2];exact ht
       have hopsA:opsA[j]? =some os:=by rw[←Array.getElem?_toList,hA,←hsf.2];exact ho1
       have htN:t<N:=hN os (List.mem_of_getElem? ho1) t hdt
       have hy:yielded opsA a.tmps j=match a.tmps.getD t undef with| .bool b=>some b|_=>none:=by
        have hsz:t<a.tmps.size:=by rw[C.size];exact htN
        simp only[yielded,hopsA,Option.bind_some,hdt,Array.getD_eq_getD_getElem?,Array.getElem?_eq_getElem hsz,Option.getD_some]
        cases a.tmps[t]<;>rfl
       have hsl:H0 (H1 recs S) t=some s':=by rw[←H.slot hw];exact hs'
       have hbs:Ld recs j=some b:=by rw[←hsf.2,Jeg H.run hsr];exact hb
       have hgr:Yg (Ld recs) r.gc=(b==want&&Y2 recs s'):=by
        rw[←hgc]
        simp[Yg,hbs,Y2]
       rw[hgr,hy]
       cases hl:Y2 recs s' with
       |true=>
        have:=C.slot t s'.out.val (by unfold Fn;rw[hsl];simp only;rw[if_pos hl])
        rw[this,Dg hb]
        simp[SV.den,valOf,SC.den]
       |false=>
        have:=C.slot t Jt (by unfold Fn;rw[hsl];simp[hl])
        rw[this]
        simp[Jt,SV.den,valOf,SC.den,undef]
      ·cases hg
     ·cases hg
    ·cases hg
   ·cases hg
  ·cases hg
theorem Fk.pick [Dr] (H:Fk P Γ an ops st recs S i r o early) {a:Act} {w:World} {ρ:Env} {M:Nat→Prop} (C:Jn P N B w0 (alS recs al0 S) (Fn recs st S) (Jcv recs st S) a w ρ M R) (hl:Y2 recs r=true) {c x y:Operand} (ho:o.op= .pick c x y) {out:Out}
  (h:Jvi an ops i st (Lh an i early) r.gc c x y=some out):(execOp a.eval o).run P w= .ok (.value (out.val.den ρ)) w∧out.news=[]∧out.upd=[]∧out.val.ids=[]:=by
 have fin:∀(b:Bool) (gt gf:GC),a.eval c= .bool b→(b=true→Yg (Ld recs) gt=true)→(b=false→Yg (Ld recs) gf=true)→
   (match evR an ops i st (Lh an i early) gt x,evR an ops i st (Lh an i early) gf y with
    |some v,some u=>match Ho v,Ho u with
     |some p,some q=>Out.pure (.one (.bool (bif b then p else q)))
     |_,_=>none
    |_,_=>none)=some out→(execOp a.eval o).run P w= .ok (.value (out.val.den ρ)) w∧out.news=[]∧out.upd=[]∧out.val.ids=[]:=by
  intro b gt gf hc hgt hgf hf
  split at hf
  ·rename_i v u hv hu
   split at hf
   ·rename_i p q hp hq
    cases hf
    refine⟨?_,rfl,rfl,rfl⟩
    cases b with
    |true=>
     have e:=(H.ev C (hgt rfl) hv).1
     rw[Dg hp] at e
     simp[execOp,ho,hc,asBool,e,SV.den,valOf,SC.den]
    |false=>
     have e:=(H.ev C (hgf rfl) hu).1
     rw[Dg hq] at e
     simp[execOp,ho,hc,asBool,e,SV.den,valOf,SC.den]
   ·cases hf
  ·cases hf
 unfold Jvi at h
 simp only at h
 split at h
 ·rename_i t
  split at h
  ·rename_i hw
   have hsl:=H.slot hw
   split at h
   ·rename_i s hs
    split at h
    ·rename_i hsub
     split at h
     ·rename_i b hb
      rw[hs] at hsl
      have hls:Y2 recs s=true:=D9 hsub hl
      have e:=C.slot t s.out.val (by unfold Fn;rw[←hsl];simp only;rw[if_pos hls])
      rw[Dg hb] at e
      have hsr:s∈recs:=by
       rw[V1] at hs
       exact((Lr H.eMem s).1 (Y6 (Jar H.eRun.desc) hs).1).1
      have hbs:=Jeg H.run hsr
      rw[hb] at hbs
      refine fin b _ _ e (fun hb'=> ?_) (fun hb'=> ?_) h<;>
      ·simp only[Yg,List.all_cons,hbs,hb',Bool.and_eq_true]
       exact⟨by simp,hl⟩
     ·cases h
    ·cases h
   ·rename_i hs
    split at h
    ·rename_i v hv
     split at h
     ·rename_i b hb
      rw[hs] at hsl
      have e:=C.slot t v (by unfold Fn;rw[←hsl];exact hv)
      rw[Dg hb] at e
      exact fin b _ _ e (fun _=>hl) (fun _=>hl) h
     ·cases h
    ·cases h
  ·cases h
 ·cases h
theorem Jbi {P:Program} {Γ:Gam} {ev:Operand→Option SV} {rs:Nat→Option Res} {n:Nat} {o:Oper} {out:Out} (h:opS P Γ ev rs n o=some out):∀c,o.op≠ .defer c:=by
 intro c e
 unfold opS at h
 rw[e] at h
 cases h
theorem Fk.step [Dr] (H:Fk P Γ an ops st recs S i r o early) (hΓ:Vb P Γ) (hU:J24 P Γ an ops st recs) (hst:∀id x,look st.rs id=some x→id<st.nx) (hal0:∀id,al0 id→id<st.nx) (hN:∀o∈ops,∀t,o.dst=some t→t<N)
  (hpre:Y2 recs r=true→Kq r.out.pre) {a:Act} {w:World} {ρ:Env} {M:Nat→Prop} (C:Jn P N B w0 (alS recs al0 S) (Fn recs st S) (Jcv recs st S) a w ρ M R) {opsA:Array Oper} (hA:opsA.toList=ops)
  {S':Nat→Bool} (hS:∀j,S' j=true↔S j=true∨j=i) {rd:Option Nat} {K:Act→World→Prop} {Q:Exit→Act→World→Prop}
  (hK:∀a' w' ρ' M',Jn P N B w0 (alS recs al0 S') (Fn recs st S') (Jcv recs st S') a' w' ρ' M' R→K a' w'):wpOpIn (FR rd) 0 P opsA Q i K a w:=by
 have hoA:opsA[i]? =some o:=by rw[←Array.getElem?_toList,hA];exact H.op
 have hd:∀t,o.dst=some t→t<N:=hN o (List.mem_of_getElem? H.op)
 unfold wpOpIn
 rw[hoA]
 simp only
 rw[H.wanted C hA hN]
 cases hl:Y2 recs r with
 | true =>
  rw[if_pos rfl]
  have hnd:∀c,o.op≠ .defer c:=by
   have hout:=H.out
   unfold Jzn at hout
   split at hout
   ·rename_i c x y ho;intro c' e;rw[ho] at e;cases e
   ·exact Jbi hout
  refine Jdf hnd ?_
  have hsound : Ug P N B w0 (alS recs al0 S) (Fn recs st S) (Jcv recs st S) a w R r.base o r.out := by
   have hout:=H.out
   unfold Jzn at hout
   split at hout
   ·rename_i c x y ho
    obtain⟨h1,h2,h3,h4⟩:=H.pick C hl ho hout
    exact Jb C hd h2 h3 h1 (by rw[h4];simp)
   ·rename_i hnp
    rw[←H.touch] at hout
    by_cases hna:∀id rr x,Jdv (H1 recs S) id=some (rr,x)→(∃y,(id,y)∈rr.out.upd)→(∀l,r.touch=some l→l.contains id=true)→rr∈Lh an i early
    ·exact Jey hΓ C hd (fun id x h=>H.rs hU hna hst hl h) (fun x sv h=>H.ev C hl h) hout (hpre hl) (H.fresh' hal0)
    ·simp only[Classical.not_forall] at hna
     obtain⟨id,rr,x,hj,⟨y,hy⟩,htc,hnv⟩:=hna
     obtain⟨g1,g2,g3⟩:=Hh (Ux H.run.desc fun r=>S r.ix) hj
     obtain⟨n1,n2⟩:=Kx.1 g1
     have hne:rr.ix≠i:=fun e=>by rw[e,H.fresh] at n2;cases n2
     obtain⟨fr,hsuf⟩:=H.suf
     rcases hU rr n1 fr r early hsuf (List.ne_nil_of_mem hy) (by rw[H.ix];exact hne) with hc|⟨l,hc,hn⟩|⟨j,z,o',out,a1,a2,a3,a4,a5,a6,a7,a8,a9,a10,a11,a12,a13⟩
     ·rw[H.ix] at hc
      obtain⟨q1,q2⟩:=Jfr H.closed (Jkx hc hne) H.fresh n2
      exact absurd ((Lr H.eMem rr).2 ⟨n1,q2,q1⟩) hnv
     ·have h1:=htc l hc
      rw[(hn _ hy).2.1] at h1;cases h1
     ·have hid:id=j:=by
       have:=htc _ a1
       simpa using this
      subst hid
      have hx:x=some z:=by
       unfold V9 at g2
       rw[a6,a2] at g2
       simp only[List.length_nil,look,if_true] at g2
       split at g2
       ·omega
       ·cases g2;rfl
      subst hx
      rw[H.ix] at a7 a9
      have ho':o'=o:=by rw[H.op] at a7;cases a7;rfl
      subst ho'
      have hsig:Jcv recs st S id=some z:=by
       unfold Jcv
       rw[hj]
       simp only
       rw[if_pos (by unfold Y2;rw[a3];rfl)]
      have hs:=Jey hΓ C hd (rs:=fun id'=>if id'=id then some z else none) (fun id' x h=>by
       split at h
       ·rename_i e;cases h;rw[e];exact hsig
       ·cases h) (fun x sv h=>H.ev C hl h) a9 (by rw[a12];trivial) (by rw[a11];intro id' _;simp)
      intro K Q hK
      refine hs K Q fun u w' ρ' M' hC=>hK u w' ρ' M' ?_
      rw[a10,a11,a13] at hC
      rw[a4,a5]
      exact hC
  refine hsound K Q fun u w' ρ' M' hC=>hK _ w' ρ' M' (hC.weaken (fun t v h=> ?_) (fun id x h=> ?_) (H.alLive hS hl))
  ·unfold Fn at h
   rw[H.slotAfter hS t] at h
   unfold Yx
   split at h
   ·rename_i s hs
    split at hs
    ·rename_i e
     cases hs
     rw[hl] at h
     rw[if_pos e];simpa using h
    ·rename_i e
     rw[if_neg e]
     unfold Fn;rw[hs];exact h
   ·rename_i hs
    split at hs
    ·cases hs
    ·rename_i e
     rw[if_neg e]
     unfold Fn;rw[hs];exact h
  ·unfold Jcv at h
   rw[H.resAfter hU hS id] at h
   unfold Kg
   cases hr:V9 r id with
   | some y =>
    rw[hr] at h
    simp only[hl,if_true] at h
    subst h
    unfold V9 at hr
    split at hr
    ·rename_i hc
     rw[if_pos hc]
     simpa using hr
    ·rename_i hc
     rw[if_neg hc,hr]
   | none =>
    rw[hr] at h
    unfold V9 at hr
    split at hr
    ·cases hr
    ·rename_i hc
     rw[if_neg hc,hr]
     exact h
 | false =>
  simp only[Bool.false_eq_true,if_false]
  have hC:=C.pure (n:=r.base) (v:=Jt) (u:=undef) hd rfl (fun id hid=>by simp[Jt,SV.ids,Js,SC.ids] at hid)
  have e1:Yy (alS recs al0 S) r.base []=alS recs al0 S:=by funext id;simp[Yy];intro h1 h2;omega
  rw[e1] at hC
  refine⟨fun _ _=>trivial,hK _ w ρ M (hC.weaken (fun t v h=> ?_) (fun id x h=> ?_) (H.alDead hS hl))⟩
  ·unfold Fn at h
   rw[H.slotAfter hS t] at h
   unfold Yx
   split at h
   ·rename_i s hs
    split at hs
    ·rename_i e
     cases hs
     rw[hl] at h
     rw[if_pos e];simpa using h
    ·rename_i e
     rw[if_neg e]
     unfold Fn;rw[hs];exact h
   ·rename_i hs
    split at hs
    ·cases hs
    ·rename_i e
     rw[if_neg e]
     unfold Fn;rw[hs];exact h
  ·unfold Jcv at h
   rw[H.resAfter hU hS id] at h
   have e2:Kg (Jcv recs st S) r.base [] [] id=Jcv recs st S id:=by
    unfold Kg
    rw[if_neg (by simp only[List.length_nil];omega)];rfl
   rw[e2]
   cases hr:V9 r id with
   |some y=>rw[hr] at h;simp[hl] at h
   |none=>rw[hr] at h;exact h
end
end Go.Sx
namespace Go.Sx
open Go.RowKit
theorem Jhg {bnd:Edge→Bool} {g:Nat→Nat} {j:Nat}:∀{l:List Edge} {s:Nat},Nat.testBit (l.foldl (fun s e=>bif bnd e then s|||(2^e.on|||g e.on) else s) s) j=true→
  Nat.testBit s j=true∨∃e∈l,bnd e=true∧(j=e.on∨Nat.testBit (g e.on) j=true)
 |[],s,h=> .inl h
 | e :: l, s, h => by
  rw[List.foldl_cons] at h
  rcases Jhg h with h|⟨e',h1,h2⟩
  ·cases hb:bnd e with
   |false=>rw[hb] at h;exact .inl h
   | true =>
    rw[hb] at h
    simp only[cond_true,Nat.testBit_or,Bool.or_eq_true] at h
    rcases h with h|h|h
    ·exact .inl h
    ·refine .inr ⟨e,by simp,hb, .inl ?_⟩
     rw[Nat.testBit_two_pow] at h
     exact(of_decide_eq_true h).symm
    ·exact .inr ⟨e,by simp,hb, .inr h⟩
  ·exact .inr ⟨e',by simp[h1],h2⟩
theorem Jcp:∀{l:List Oper} {acc:List Nat} {k:Nat},k<acc.length→(Fh l acc).getD k 0=acc.getD k 0
 |[],_,_,_=>rfl
 |o::r,acc,k,h=>by
  rw[Fh,Jcp (by simp;omega)]
  simp[List.getD_eq_getElem?_getD,List.getElem?_append_left h]
theorem Jlb:∀{l:List Oper} {acc:List Nat} {k:Nat} {o:Oper},l[k]? =some o→Jhq l acc.length=true→∀j,Nat.testBit ((Fh l acc).getD (acc.length+k) 0) j=true→
  ∃e∈o.after,Region.binds .any e=true∧e.on<acc.length+k∧(j=e.on∨Nat.testBit ((Fh l acc).getD e.on 0) j=true)
 |[],_,_,_,h,_,_,_=>by simp at h
 | x :: r, acc, 0, o, h, hb, j, hj => by
  simp only[List.getElem?_cons_zero,Option.some.injEq] at h
  subst h
  simp only[Jhq,Bool.and_eq_true,List.all_eq_true,Bool.or_eq_true,Bool.not_eq_true',Nat.blt_eq] at hb
  rw[Fh,Nat.add_zero,Jcp (by simp)] at hj
  simp only[List.getD_eq_getElem?_getD,List.getElem?_append_right (Nat.le_refl _),Nat.sub_self,List.getElem?_cons_zero,Option.getD_some] at hj
  rcases Jhg (g:=fun k=>acc[k]?.getD 0) hj with h|⟨e,h1,h2,h3⟩
  ·simp at h
  ·have hlt:e.on<acc.length:=(hb.1 e h1).resolve_left (by simp[h2])
   refine⟨e,by simpa using h1,h2,by omega, ?_⟩
   rw[Fh,Jcp (by simp;omega)]
   simp only[List.getD_eq_getElem?_getD,List.getElem?_append_left hlt]
   exact h3
 | x :: r, acc, k + 1, o, h, hb, j, hj => by
  simp only[Jhq,Bool.and_eq_true] at hb
  have key:∀acc':List Nat,acc'.length=acc.length+1→Nat.testBit ((Fh r acc').getD (acc.length+(k+1)) 0) j=true→
    ∃e∈o.after,Region.binds .any e=true∧e.on<acc.length+(k+1)∧(j=e.on∨Nat.testBit ((Fh r acc').getD e.on 0) j=true):=by
   intro acc' hl hj
   obtain⟨e,h1,h2,h3,h4⟩:=Jlb (l:=r) (acc:=acc') (k:=k) (o:=o) (by simpa using h) (by rw[hl];exact hb.2) j (by rw[hl,show acc.length+1+k=acc.length+(k+1) by omega];exact hj)
   exact⟨e,h1,h2,by omega,h4⟩
  exact key _ (by simp) hj
theorem Jhm {p q:Nat→Bool}:∀{l:List Nat},(∀x∈l,q x=true→p x=true)→(∃x∈l,p x=true∧q x=false)→l.countP q<l.countP p
 |[],_,⟨x,h,_⟩=>by simp at h
 | a :: l, h, ⟨x, hx, hp, hq⟩ => by
  have hle:∀{l:List Nat},(∀x∈l,q x=true→p x=true)→l.countP q≤l.countP p:=fun h=>List.countP_mono_left h
  rw[List.countP_cons,List.countP_cons]
  rcases List.mem_cons.1 hx with rfl|hx
  ·have:=hle (l:=l) fun y hy=>h y (by simp[hy])
   simp only[hp,hq,if_true,Bool.false_eq_true,if_false];omega
  ·have:=Jhm (l:=l) (fun y hy=>h y (by simp[hy])) ⟨x,hx,hp,hq⟩
   have h1:=h a (by simp)
   cases hqa:q a with
   |false=>simp only[Bool.false_eq_true,if_false];omega
   |true=>rw[h1 hqa];simp only[if_true];omega
section
variable {P:Program} {Γ:Gam} {ops:List Oper} {st:St} {N B:Nat} {w0:U7} {R:Nat→Prop} {recs:List Rec} {al0:Nat→Prop}
theorem Jpd {an:Dn} {S:Nat→Bool} {i:Nat} (hr:Vu P Γ an ops st recs) (hi:i<recs.length) (hcl:∀i j,S i=true→Jfz an i j=true→S j=true) (hf:S i=false) (ha:∀j,Jfz an i j=true→S j=true):
  ∃r o early,Fk P Γ an ops st recs S i r o early:=by
 obtain⟨r,o,early,h1,h2,h3,h4,h5,h6,h7,h8⟩:=hr.at hi
 obtain⟨p1,p2,p3,p4,p5,p6,p7,p8⟩:=Kc h6
 exact⟨r,o,early,hr,h1,h2,h3,h4,h7,p2,p3,p4,p5,p6,by rw[p2];exact p7,by rw[p2];exact p8,hcl,hf,h8,ha⟩
theorem Jdq [Dr] (hΓ:Vb P Γ) (hr:Vu P Γ none ops st recs) (hlen:recs.length=ops.length) (hst:∀id x,look st.rs id=some x→id<st.nx) (hal0:∀id,al0 id→id<st.nx) (hN:∀o∈ops,∀t,o.dst=some t→t<N)
  (hpre:∀r∈recs,Y2 recs r=true→Kq r.out.pre) {opsA:Array Oper} (hA:opsA.toList=ops) {rd:Option Nat} {Q:Exit→Act→World→Prop}
  (hK:∀a w ρ M S,(∀j,j<recs.length→S j=true)→Jn P N B w0 (alS recs al0 S) (Fn recs st S) (Jcv recs st S) a w ρ M R→Q .normal a w):
  ∀(m k:Nat) (S:Nat→Bool) (a:Act) (w:World) (ρ:Env) (M:Nat→Prop),k+m=recs.length→(∀j,S j=true↔j<k)→Jn P N B w0 (alS recs al0 S) (Fn recs st S) (Jcv recs st S) a w ρ M R→wpOpsIn (FR rd) 0 P opsA Q (List.range' k m) a w
 |0,k,S,a,w,ρ,M,hk,hS,C=>hK a w ρ M S (fun j hj=>(hS j).2 (by omega)) C
 |m+1,k,S,a,w,ρ,M,hk,hS,C=>by
  rw[List.range'_succ,wpOpsIn_cons]
  have hanc:∀i j,Jfz none i j=true↔j<i:=fun i j=>by simp[Jfz,Nat.blt_eq]
  obtain⟨r,o,early,H⟩:=Jpd (S:=S) (i:=k) hr (by omega) (fun i j hi hj=>by rw[hS] at hi⊢;rw[hanc] at hj;omega) (by cases h:S k with|false=>rfl|true=>rw[hS] at h;omega) (fun j hj=>by rw[hS];rwa[hanc] at hj)
  refine H.step hΓ Jm9 hst hal0 hN (hpre r H.mem) C hA (S':=fun j=>decide (j<k+1)) (fun j=> ?_) fun a' w' ρ' M' C'=>Jdq hΓ hr hlen hst hal0 hN hpre hA hK m (k+1) _ a' w' ρ' M' (by omega) (fun j=>by simp) C'
  rw[hS]
  simp
  omega
theorem Jqs [Dr] (hΓ:Vb P Γ) {ms:List Nat} (hms:ms=Fh ops []) (hback:Jhq ops 0=true) (hr:Vu P Γ (some ms) ops st recs) (hU:J24 P Γ (some ms) ops st recs) (hlen:recs.length=ops.length) (hst:∀id x,look st.rs id=some x→id<st.nx) (hal0:∀id,al0 id→id<st.nx) (hN:∀o∈ops,∀t,o.dst=some t→t<N)
  (hpre:∀r∈recs,Y2 recs r=true→Kq r.out.pre) {opsA:Array Oper} (hA:opsA.toList=ops) {rd:Option Nat} {Q:Exit→Act→World→Prop}
  (hK:∀a w ρ M S,(∀j,j<recs.length→S j=true)→Jn P N B w0 (alS recs al0 S) (Fn recs st S) (Jcv recs st S) a w ρ M R→Q .normal a w):
  ∀(fuel:Nat) (listed:Array Bool) (a:Act) (w:World) (ρ:Env) (M:Nat→Prop),listed.size=opsA.size→(List.range opsA.size).countP (fun j=> !listed.getD j false)≤fuel→
   (∀i j,listed.getD i false=true→Jfz (some ms) i j=true→listed.getD j false=true)→Jn P N B w0 (alS recs al0 fun j=>listed.getD j false) (Fn recs st fun j=>listed.getD j false) (Jcv recs st fun j=>listed.getD j false) a w ρ M R→
   wpAnyIn (FR rd) 0 P .any opsA Q fuel listed a w:=by
 have hsz:opsA.size=ops.length:=by rw[←hA];simp
 have hop:∀i,opsA[i]? =ops[i]? :=fun i=>by rw[←Array.getElem?_toList,hA]
 have hanc:∀i o,ops[i]? =some o→∀j,Jfz (some ms) i j=true→∃e∈o.after,Region.binds .any e=true∧e.on<i∧(j=e.on∨Jfz (some ms) e.on j=true):=by
  intro i o ho j hj
  have:=Jlb (acc:=[]) ho (by simpa using hback) j (by rw[hms] at hj;simpa[Jfz] using hj)
  obtain⟨e,h1,h2,h3,h4⟩:=this
  exact⟨e,h1,h2,by simpa using h3,by rw[hms];exact h4⟩
 have hb:∀i o,ops[i]? =some o→∀e∈o.after,Region.binds .any e=true→e.on<i:=by
  have:∀(l:List Oper) (n:Nat),Jhq l n=true→∀i o,l[i]? =some o→∀e∈o.after,Region.binds .any e=true→e.on<n+i:=by
   intro l
   induction l with
   |nil=>intro n _ i o ho;simp at ho
   | cons x l ih =>
    intro n h i o ho e he hbd
    simp only[Jhq,Bool.and_eq_true,List.all_eq_true,Bool.or_eq_true,Bool.not_eq_true',Nat.blt_eq] at h
    cases i with
    |zero=>
     simp only[List.getElem?_cons_zero,Option.some.injEq] at ho
     subst ho
     have:=(h.1 e (by simpa using he)).resolve_left (by simp[hbd])
     omega
    |succ i=>
     have:=ih (n+1) h.2 i o (by simpa using ho) e he hbd
     omega
  intro i o ho e he hbd
  have:=this ops 0 hback i o ho e he hbd
  omega
 have hall:∀listed:Array Bool,listed.size=opsA.size→Region.ready .any opsA listed=[]→∀j,j<recs.length→listed.getD j false=true:=by
  intro listed hls hrd j
  induction j using Nat.strongRecOn with
  | _ j ih =>
   intro hj
   cases hl:listed.getD j false with
   |true=>rfl
   | false =>
    exfalso
    have hjl:j<listed.size:=by rw[hls,hsz];omega
    obtain⟨o,ho⟩:∃o,ops[j]? =some o:=⟨_,List.getElem?_eq_getElem (by omega)⟩
    have:j∈Region.ready .any opsA listed:=by
     rw[mem_ready]
     refine⟨by simpa[Array.getD_eq_getD_getElem?,hjl] using hl,o,by rw[hop];exact ho,fun e he hbd=> ?_⟩
     have:=hb j o ho e he hbd
     exact ih e.on this (by omega)
    rw[hrd] at this;simp at this
 intro fuel
 induction fuel with
 | zero =>
  intro listed a w ρ M hls hf hcl C
  have hdone:∀j,j<opsA.size→listed.getD j false=true:=by
   intro j hj
   have h0:(List.range opsA.size).countP (fun j=> !listed.getD j false)=0:=Nat.le_zero.1 hf
   have:=List.countP_eq_zero.1 h0 j (List.mem_range.2 hj)
   simpa using this
  have hrd:Region.ready .any opsA listed=[]:=by
   cases hrd:Region.ready .any opsA listed with
   |nil=>rfl
   |cons j l=>
    have hj:j∈Region.ready .any opsA listed:=by rw[hrd];simp
    obtain⟨h1,o,h2,_⟩:=mem_ready.1 hj
    have hlt:j<opsA.size:=(Array.getElem?_eq_some_iff.1 h2).1
    have h3:=hdone j hlt
    simp[Array.getD_eq_getD_getElem?,hls,hlt] at h1 h3
    rw[h1] at h3;cases h3
  exact⟨hrd,hK a w ρ M _ (fun j hj=>hdone j (by omega)) C⟩
 | succ fuel ih =>
  intro listed a w ρ M hls hf hcl C
  refine⟨fun hrd=>hK a w ρ M _ (hall listed hls hrd) C,fun i hi=> ?_⟩
  obtain⟨h1,o,h2,h3⟩:=mem_ready.1 hi
  have hlt:i<opsA.size:=(Array.getElem?_eq_some_iff.1 h2).1
  have hfr:listed.getD i false=false:=by simpa[Array.getD_eq_getD_getElem?,hls,hlt] using h1
  have hai:∀j,Jfz (some ms) i j=true→listed.getD j false=true:=by
   intro j hj
   obtain⟨e,e1,e2,_,e4⟩:=hanc i o (by rw[←hop];exact h2) j hj
   have:=h3 e e1 e2
   rcases e4 with rfl|e4
   ·exact this
   ·exact hcl _ _ this e4
  obtain⟨r,o',early,H⟩:=Jpd (S:=fun j=>listed.getD j false) (i:=i) hr (by omega) hcl hfr hai
  have hset:∀j,(listed.setIfInBounds i true).getD j false=true↔listed.getD j false=true∨j=i:=by
   intro j
   by_cases hji:j=i
   ·subst hji
    have:j<listed.size:=by omega
    simp[Array.getD_eq_getD_getElem?,this]
   ·rw[getD_set_ne false (Ne.symm hji)]
    simp[hji]
  refine H.step hΓ hU hst hal0 hN (hpre r H.mem) C hA (S':=fun j=>(listed.setIfInBounds i true).getD j false) hset fun a' w' ρ' M' C'=>ih _ a' w' ρ' M' (by simp[hls]) ?_ ?_ C'
  ·have:=Jhm (l:=List.range opsA.size) (p:=fun j=> !listed.getD j false) (q:=fun j=> !(listed.setIfInBounds i true).getD j false) (fun x _ hx=>by
    cases hl:listed.getD x false with
    |false=>rfl
    |true=>rw[(hset x).2 (.inl hl)] at hx;cases hx) ⟨i,List.mem_range.2 hlt,by simp[hfr],by rw[(hset i).2 (.inr rfl)];rfl⟩
   omega
  ·intro k j hk hj
   rw[hset] at hk⊢
   rcases hk with hk|rfl
   ·exact .inl (hcl k j hk hj)
   ·exact .inl (hai j hj)
end
end Go.Sx
namespace Go.Sx
open Go.RowKit
theorem Ub {α:Type} {t t':Nat}:∀{l:List (Nat×α)},look (l.filter fun p=>p.1 !=t') t=if t=t' then none else look l t
 |[]=>by simp[look]
 | (i, v) :: l => by
  by_cases h:i=t'
  ·subst h
   rw[List.filter_cons_of_neg (by simp),Ub]
   by_cases e:t=i
   ·simp[e]
   ·simp[e,look,Ne.symm e]
  ·rw[List.filter_cons_of_pos (by simpa using h)]
   simp only[look]
   by_cases e:i=t
   ·subst e;simp[h]
   ·rw[if_neg e,if_neg e,Ub]
theorem Kl {l:List (Nat×Res)} {u:Nat×Option Res} {id:Nat}:look (Kb l u) id=if id=u.1 then u.2 else look l id:=by
 unfold Kb
 split
 ·rename_i x hx
  simp only[look]
  by_cases e:u.1=id
  ·rw[if_pos e,if_pos e.symm,hx]
  ·rw[if_neg e,if_neg (Ne.symm e),Ub,if_neg (Ne.symm e)]
 ·rename_i hx
  rw[Ub]
  by_cases e:id=u.1
  ·rw[if_pos e,if_pos e,hx]
  ·rw[if_neg e,if_neg e]
theorem Hj {l:List (Nat×Res)} {id:Nat}:∀{us:List (Nat×Option Res)},look (us.reverse.foldl Kb l) id=match look us id with|some x=>x|none=>look l id
 |[]=>rfl
 |(i,y)::us=>by
  rw[List.reverse_cons,List.foldl_append]
  simp only[List.foldl_cons,List.foldl_nil,Kl,look]
  by_cases e:i=id
  ·rw[if_pos e.symm,if_pos e]
  ·rw[if_neg (Ne.symm e),if_neg e,Hj]
theorem Jd3 {id:Nat}:∀{us:List (Nat×Option Res)} {l:List (Nat×Res)} {x:Res},look (us.foldl (fun rs u=>Kb rs (u.1,none)) l) id=some x→look us id=none∧look l id=some x
 |[],l,x,h=>⟨rfl,h⟩
 | (i, y) :: us, l, x, h => by
  rw[List.foldl_cons] at h
  obtain⟨h1,h2⟩:=Jd3 h
  rw[Kl] at h2
  split at h2
  ·cases h2
  ·rename_i e
   exact⟨by simp only[look];rw[if_neg (Ne.symm e)];exact h1,h2⟩
theorem D0 {l:List (Nat×Res)} {id:Nat}:∀{news:List Res} {n:Nat},look (Jon news n++l) id=if n≤id∧id<n+news.length then news[id-n]? else look l id
 |[],n=>by rw[if_neg (by simp only[List.length_nil];omega)];rfl
 | x :: r, n => by
  simp only[Jon,List.cons_append,look]
  by_cases e:n=id
  ·subst e;simp
  ·rw[if_neg e,D0]
   by_cases h:n+1≤id∧id<n+1+r.length
   ·rw[if_pos h,if_pos (by simp only[List.length_cons];omega)]
    rw[show id-n=(id-(n+1))+1 by omega]
    simp
   ·rw[if_neg h,if_neg (by simp only[List.length_cons];omega)]
theorem Jb1 {sl:List (Nat×SV)} {t:Nat} {v:SV}:∀{recs:List Rec},look (Jb2 recs sl) t=some v→match H0 recs t with|some r=>r.gc=[]∧v=r.out.val|none=>look sl t=some v
 |[],h=>h
 | r :: l, h => by
  simp only[Jb2] at h
  simp only[H0]
  split at h
  ·rename_i t' ht'
   by_cases e:t'=t
   ·subst e
    rw[if_pos ht']
    split at h
    ·rename_i hg
     simp only[look,if_true] at h
     exact⟨by simpa using hg,(Option.some.inj h).symm⟩
    ·rw[Ub,if_pos rfl] at h;cases h
   ·have hne:¬r.dst=some t:=by rw[ht'];simpa using e
    rw[if_neg hne]
    have:look (Jb2 l sl) t=some v:=by
     split at h
     ·simp only[look] at h
      rw[if_neg e,Ub,if_neg (Ne.symm e)] at h
      exact h
     ·rw[Ub,if_neg (Ne.symm e)] at h
      exact h
    exact Jb1 this
  ·rename_i ht'
   have hne:¬r.dst=some t:=by rw[ht'];simp
   rw[if_neg hne]
   exact Jb1 h
section
variable {P:Program} {Γ:Gam} {an:Dn} {ops:List Oper} {st:St} {N B:Nat} {w0:U7} {R:Nat→Prop} {recs:List Rec}
theorem Jb3 {rs:List (Nat×Res)} (hst:∀id x,look rs id=some x→id<st.nx) {id:Nat} {x:Res}:∀{recs:List Rec},Vu P Γ an ops st recs→look (Jks recs rs) id=some x→match Jdv recs id with|some (r,y)=>r.gc=[]∧y=some x|none=>look rs id=some x
 |[],_,h=>h
 | r :: l, hr, h => by
  obtain⟨hl,o,_,hs⟩:=hr
  have hbase:=(Kc hs).2.1
  simp only[Jks] at h
  simp only[Jdv]
  split at h
  ·rename_i hg
   have hg':r.gc=[]:=by simpa using hg
   rw[D0,Hj] at h
   unfold V9
   by_cases hc:r.base≤id∧id<r.base+r.out.news.length
   ·rw[if_pos hc] at h⊢
    exact⟨hg',h⟩
   ·rw[if_neg hc] at h⊢
    cases hu:look r.out.upd id with
    |some y=>rw[hu] at h;exact⟨hg',h⟩
    |none=>
     rw[hu] at h
     exact Jb3 hst hl h
  ·obtain⟨h1,h2⟩:=Jd3 h
   have ih:=Jb3 hst hl h2
   have hlt:id<Ja2 st.nx l:=by
    cases hj:Jdv l id with
    |none=>
     rw[hj] at ih
     have:=hst id x ih
     have:=hl.nx.1
     omega
    | some p =>
     obtain⟨s,y⟩:=p
     obtain⟨q1,q2,_⟩:=Hh hl.desc hj
     have:=(hl.nx.2 s q1).2
     rcases Y0 (r:=s) (id:=id) (by rw[q2];rfl) with hc|⟨_,z,hz⟩
     ·omega
     ·obtain⟨r',o',e',w1,w2,w3,w4,w5,w6,w7⟩:=hl.at (hl.ix s q1)
      have e:=Uw hl.desc w1 q1 w2
      subst e
      have:=(Kc w6).2.2.2.2.2.2.1 _ hz
      have:=(Kc w6).2.1
      simp only at*
      omega
   have:V9 r id=none:=by
    unfold V9
    rw[if_neg (by omega)]
    exact h1
   rw[this]
   exact ih
def U3 [Dr] (P:Program) (N B:Nat) (w0:U7) (R:Nat→Prop) (st:St) (a:Act) (w:World):Prop:=
 ∃ρ M al,(∀id,al id→id<st.nx)∧Jn P N B w0 al (look st.sl) (look st.rs) a w ρ M R
theorem Jgs {S:Nat→Bool} (hr:Vu P Γ an ops st recs) (hS:∀j,j<recs.length→S j=true):H1 recs S=recs:=
 List.filter_eq_self.2 fun r h=>hS _ (hr.ix r h)
theorem Jdw [Dr] (hr:Vu P Γ an ops st recs) {al0:Nat→Prop} (hal0:∀id,al0 id→id<st.nx) (hst:∀id x,look st.rs id=some x→id<st.nx) {a:Act} {w:World} {ρ:Env} {M:Nat→Prop} {S:Nat→Bool} (hS:∀j,j<recs.length→S j=true)
  (C:Jn P N B w0 (alS recs al0 S) (Fn recs st S) (Jcv recs st S) a w ρ M R):U3 P N B w0 R (Fq recs st).2 a w:=by
 refine⟨ρ,M,alS recs al0 S,fun id h=> ?_,C.weaken (fun t v h=> ?_) (fun id x h=> ?_) fun _=>Iff.rfl⟩
 ·rcases h with h|⟨s,h1,_,_,h4⟩
  ·exact Nat.lt_of_lt_of_le (hal0 id h) hr.nx.1
  ·exact Nat.lt_of_lt_of_le h4.2 (hr.nx.2 s h1).2
 ·have:=Jb1 h
  unfold Fn
  rw[Jgs hr hS]
  cases hj:H0 recs t with
  |none=>rw[hj] at this;exact this
  |some r=>
   rw[hj] at this
   obtain⟨h1,h2⟩:=this
   have:Y2 recs r=true:=by unfold Y2;rw[h1];rfl
   simp only[this,if_true,h2]
 ·have:=Jb3 hst hr h
  unfold Jcv
  rw[Jgs hr hS]
  cases hj:Jdv recs id with
  |none=>rw[hj] at this;exact this
  |some p=>
   obtain⟨r,y⟩:=p
   rw[hj] at this
   obtain⟨h1,h2⟩:=this
   have:Y2 recs r=true:=by unfold Y2;rw[h1];rfl
   simp only[this,if_true,h2]
theorem Jn.start [Dr] {al0:Nat→Prop} {a:Act} {w:World} {ρ:Env} {M:Nat→Prop} (C:Jn P N B w0 al0 (look st.sl) (look st.rs) a w ρ M R) {S:Nat→Bool} (hS:∀j,S j=false):
  Jn P N B w0 (alS recs al0 S) (Fn recs st S) (Jcv recs st S) a w ρ M R:=by
 have e:H1 recs S=[]:=List.filter_eq_nil_iff.2 fun r _=>by simp[hS]
 refine C.weaken (fun t v h=> ?_) (fun id x h=> ?_) fun id=> ?_
 ·unfold Fn at h;rw[e] at h;exact h
 ·unfold Jcv at h;rw[e] at h;exact h
 ·unfold alS
  simp[hS]
theorem Jph [Dr] {a:Act} {w:World} (h:U3 P N B w0 R st a w):U3 P N B w0 R (Jsu recs st) a w:=by
 obtain⟨ρ,M,al,hal,C⟩:=h
 unfold Jsu
 generalize(recs.flatMap fun r=>r.out.upd.filterMap fun u=>match u.2 with|some (.imm _ _ _)=>some (SC.sl u.1)|some (.fbox _ _)=>some (SC.ptr u.1 0)|_=>none)=cs
 have C':=C.freezeX 0 (upd:=Sx.freezeB (look st.rs) cs) fun i y hy=>Yn (Jq hy)
 refine⟨ρ,_,al,hal,C'.weaken (fun _ _ h=>h) (fun id x hx=> ?_) fun _=>Iff.rfl⟩
 rw[Hj] at hx
 unfold Kg
 rw[if_neg (by simp only[List.length_nil];omega)]
 exact hx
theorem Vn [Dr] {ts:List Nat} {a:Act} {w:World} (h:U3 P N B w0 R st a w):U3 P N B w0 R (Jfj ts st) a w:=by
 unfold Jfj
 split
 ·exact h
 obtain⟨ρ,M,al,hal,C⟩:=h
 generalize(ts.flatMap fun t=>match look st.sl t with|some (.v _ cs)=>cs|_=>[])=cs
 have C':=C.freeze 0 (upd:=Sx.freeze (look st.rs) cs) fun i y hy=>Vo (Jq hy)
 refine⟨ρ,_,al,hal,C'.weaken (fun _ _ h=>h) (fun id x hx=> ?_) fun _=>Iff.rfl⟩
 rw[Hj] at hx
 unfold Kg
 rw[if_neg (by simp only[List.length_nil];omega)]
 exact hx
theorem Lg {ps:List Prop} {q:Prop}:Do ps q↔Kq ps∧q:=by
 unfold Do
 split
 ·simp[Kq]
 ·rfl
theorem Jn5 [Dr] (hm:P.follows .mixedOrders=true) (hΓ:Vb P Γ) {dr:Bool} {ps:List Prop} {st':St} (h:J3a P Γ ops dr st=some (ps,st')) (hp:Kq ps) {a:Act} {w:World} (hs:U3 P N B w0 R st a w) (hN:∀o∈ops,∀t,o.dst=some t→t<N)
  {opsA:Array Oper} (hA:opsA.toList=ops) {rd:Option Nat} {Q:Exit→Act→World→Prop} (hK:∀a' w',U3 P N B w0 R st' a' w'→Q .normal a' w') (id:Nat):(Code.region id opsA dr).wpIn (FR rd) 0 P Q a w:=by
 have hsz:opsA.size=ops.length:=by rw[←hA];simp
 unfold J3a at h
 cases dr with
 | false =>
  simp only at h
  split at h
  ·cases h
  ·rename_i recs hr
   cases h
   obtain⟨h1,h2⟩:=Jij ops (recs:=[]) (n:=0) trivial rfl rfl rfl hr
   obtain⟨ρ,M,al,hal,C⟩:=hs
   have hst:∀id x,look st.rs id=some x→id<st.nx:=fun id x h=>hal id (C.resIds id x h).1
   refine wpIn_region ?_
   rw[List.range_eq_range']
   refine Jdq hΓ h1 (by omega) hst hal hN (fun r hr hl=>Jio hp r hr hl) hA (fun a w ρ M S hS C=>hK a w (Jdw h1 hal hst hS C)) opsA.size 0 (fun _=>false) a w ρ M (by omega) (fun j=>by simp) (C.start fun _=>rfl)
 | true =>
  simp only at h
  split at h
  ·rename_i hb
   have key:∀(st0:St) (recs:List Rec),st0.nx=st.nx→Jve P Γ (some (Fh ops [])) ops st0 ops st0.nx 0 []=some recs→(∃qs,Jx0 P Γ (some (Fh ops [])) ops st0 recs recs=some qs∧Kq qs)→Kq (Fq recs st0).1→U3 P N B w0 R st0 a w→(∀a' w',U3 P N B w0 R (Fq recs st0).2 a' w'→Q .normal a' w')→(Code.region id opsA true).wpIn (FR rd) 0 P Q a w:=by
    intro st0 recs _ hr hu hp hs hK
    obtain⟨qs,hu,hq⟩:=hu
    obtain⟨h1,h2⟩:=Jij ops (recs:=[]) (n:=0) trivial rfl rfl rfl hr
    obtain⟨ρ,M,al,hal,C⟩:=hs
    have hst:∀id x,look st0.rs id=some x→id<st0.nx:=fun id x h=>hal id (C.resIds id x h).1
    refine wpIn_region_any hm ?_
    have C':=C.world (w':={w with drawn:=w.drawn+1}) rfl ⟨rfl,rfl,rfl,Nat.le_refl _,fun _ _=>rfl,fun _=>Nat.le_succ _⟩
    have rep:∀j,(Array.replicate opsA.size false).getD j false=false:=by
     intro j
     by_cases hj:j<opsA.size<;>simp[hj]
    refine Jqs hΓ rfl hb h1 (fun r hr fr s early e=>Jna hu hq r hr fr s early e) (by omega) hst hal hN (fun r hr hl=>Jio hp r hr hl) hA (fun a w ρ M S hS C=>hK a w (Jdw h1 hal hst hS C)) opsA.size (Array.replicate opsA.size false) a _ ρ M (by simp) ?_ ?_ (C'.start ?_)
    ·exact Nat.le_trans List.countP_le_length (by simp)
    ·intro i j hi
     rw[rep] at hi;cases hi
    ·intro j
     exact rep j
   split at h
   ·cases h
   ·rename_i recs hr
    split at h
    ·rename_i qs hu
     cases h
     obtain⟨p1,p2⟩:=Jm.1 hp
     unfold Ki6 at hu
     split at hu
     ·cases hu
     ·exact key st recs rfl hr ⟨qs,hu,p1⟩ p2 hs hK
    ·split at h
     ·cases h
     ·rename_i recs' hr'
      split at h
      ·rename_i qs hu
       cases h
       obtain⟨p1,p2⟩:=Jm.1 hp
       exact key (Jsu recs st) recs' rfl hr' ⟨qs,hu,p1⟩ p2 (Jph hs) hK
      ·cases h
  ·cases h
end
end Go.Sx
namespace Go.Sx
open Go.RowKit
def Jm0 (ρ ρ':Env) (rn:Rn):Prop:=∀j y,look rn j=some y→ρ' j=match y with|some i=>ρ i|none=> .slice none 0 0
def Jei (rn rn':Rn):Prop:=∀j y,look rn j=some y→look rn' j=some y
def Jag (al:Nat→Prop) (rn:Rn):Prop:=∀j i,look rn j=some (some i)→al i
def Fj (rn:Rn) (ids:List Nat):Prop:=∀id∈ids,(look rn id).isSome=true
theorem Jei.refl (rn:Rn):Jei rn rn:=fun _ _ h=>h
theorem Jei.trans {a b c:Rn} (h:Jei a b) (h':Jei b c):Jei a c:=fun j y hy=>h' j y (h j y hy)
theorem Jei.key {a b:Rn} (h:Jei a b) {ids:List Nat} (hk:Fj a ids):Fj b ids:=fun id hid=>by
 obtain⟨y,hy⟩:=Option.isSome_iff_exists.1 (hk id hid)
 rw[h id y hy];rfl
theorem Jm0.le {ρ ρ':Env} {a b:Rn} (h:Jei a b) (hf:Jm0 ρ ρ' b):Jm0 ρ ρ' a:=fun j y hy=>hf j y (h j y hy)
theorem Jik {rn:Rn} {j:Nat} {y:Option Nat} (h:look rn j=none):Jei rn ((j,y)::rn):=fun k z hz=>by
 simp only[look]
 by_cases e:j=k
 ·subst e;rw[h] at hz;cases hz
 ·rw[if_neg e];exact hz
theorem Jjb {al:Nat→Prop} {rn:Rn} {j:Nat} {y:Option Nat} (h:Jag al rn) (hy:∀i,y=some i→al i):Jag al ((j,y)::rn):=fun k i hk=>by
 simp only[look] at hk
 split at hk
 ·exact hy i (Option.some.inj hk)
 ·exact h k i hk
section
variable {ρ:Env} {al:Nat→Prop}
theorem D1 {rn rn':Rn} {i j:Nat} {ps:List Prop} (h:Jt4.leId rn i j=some (rn',ps)):
  Jei rn rn'∧(Jag al rn→al i→Jag al rn')∧look rn' j=some (some i):=by
 unfold Jt4.leId at h
 split at h
 ·rename_i i' hi
  split at h
  ·rename_i e;subst e;cases h
   exact⟨.refl _,fun h _=>h,hi⟩
  ·cases h
 ·cases h
 ·rename_i hn
  cases h
  exact⟨Jik hn,fun h hi=>Jjb h fun k e=>by cases e;exact hi,by simp[look]⟩
theorem Jv4 {rn rn':Rn} {c c':SC} {ps:List Prop} (h:Jt4 rn c c'=some (rn',ps)):
  Jei rn rn'∧(Jag al rn→(∀id∈c.ids,al id)→Jag al rn')∧Fj rn' c'.ids∧∀ρ',Kq ps→Jm0 ρ ρ' rn'→c'.den ρ'=c.den ρ:=by
 have nok:∀c:SC,c.ids=[]→Fj rn c.ids:=fun c e id hid=>by rw[e] at hid;simp at hid
 have idc:∀{i j:Nat} {c:SC} {ps},c.ids=[j]→Jt4.leId rn i j=some (rn',ps)→Fj rn' c.ids:=fun e h id hid=>by
  rw[e] at hid
  simp only[List.mem_singleton] at hid
  subst hid
  rw[(D1 (al:=al) h).2.2];rfl
 unfold Jt4 at h
 split at h
 ·split at h
  ·rename_i e;subst e;cases h
   exact⟨.refl _,fun h _=>h,nok _ rfl,fun ρ' hp _=>by have hp:_=_:=hp;subst hp;rfl⟩
  ·cases h
 ·cases h;exact⟨.refl _,fun h _=>h,nok _ rfl,fun ρ' hp _=>by have hp:_=_:=hp;subst hp;rfl⟩
 ·cases h;exact⟨.refl _,fun h _=>h,nok _ rfl,fun ρ' hp _=>by have hp:_=_:=hp;subst hp;rfl⟩
 ·split at h
  ·rename_i e;subst e;cases h
   exact⟨.refl _,fun h _=>h,nok _ rfl,fun ρ' hp _=>by have hp:_=_:=hp;subst hp;rfl⟩
  ·cases h
 ·split at h
  ·rename_i i o j p e
   subst e
   obtain⟨h1,h2,h3⟩:=D1 (al:=al) h
   exact⟨h1,fun a b=>h2 a (b _ (by simp[SC.ids])),idc rfl h,fun ρ' _ hf=>by have e:=hf _ _ h3;simp only[SC.den];rw[e]⟩
  ·cases h
 ·rename_i i j
  obtain⟨h1,h2,h3⟩:=D1 (al:=al) h
  exact⟨h1,fun a b=>h2 a (b _ (by simp[SC.ids])),idc rfl h,fun ρ' _ hf=>hf _ _ h3⟩
 ·rename_i i j
  obtain⟨h1,h2,h3⟩:=D1 (al:=al) h
  exact⟨h1,fun a b=>h2 a (b _ (by simp[SC.ids])),idc rfl h,fun ρ' _ hf=>hf _ _ h3⟩
 ·split at h
  ·rename_i e;subst e;cases h
   exact⟨.refl _,fun h _=>h,nok _ rfl,fun _ _ _=>rfl⟩
  ·cases h
 ·cases h;exact⟨.refl _,fun h _=>h,nok _ rfl,fun ρ' hp _=>by have hp:_=_:=hp;subst hp;rfl⟩
 ·rename_i j
  split at h
  ·rename_i hn
   cases h
   refine⟨.refl _,fun h _=>h,fun id hid=> ?_,fun ρ' _ hf=>hf _ _ hn⟩
   simp only[SC.ids,List.mem_singleton] at hid
   subst hid;rw[hn];rfl
  ·cases h
  ·rename_i hn
   cases h
   refine⟨Jik hn,fun h _=>Jjb h fun k e=>(by cases e),fun id hid=> ?_,fun ρ' _ hf=>hf j none (by simp[look])⟩
   simp only[SC.ids,List.mem_singleton] at hid
   subst hid;simp[look]
 ·cases h;exact⟨.refl _,fun h _=>h,nok _ rfl,fun ρ' hp _=>by have hp:_=_:=hp;subst hp;rfl⟩
 ·cases h
theorem Jkg:∀{cs cs':List SC} {rn rn':Rn} {ps:List Prop},leL rn cs cs'=some (rn',ps)→
  Jei rn rn'∧(Jag al rn→(∀id∈Js cs,al id)→Jag al rn')∧Fj rn' (Js cs')∧∀ρ',Kq ps→Jm0 ρ ρ' rn'→cs'.map (SC.den ρ')=cs.map (SC.den ρ)
 |[],[],rn,rn',ps,h=>by
  cases h
  exact⟨.refl _,fun h _=>h,fun id hid=>by simp[Js] at hid,fun _ _ _=>rfl⟩
 |[],_::_,_,_,_,h=>by simp[leL] at h
 |_::_,[],_,_,_,h=>by simp[leL] at h
 | c :: cs, c' :: cs', rn, rn', ps, h => by
  simp only[leL] at h
  split at h
  ·rename_i rn1 p1 h1
   split at h
   ·rename_i rn2 p2 h2
    cases h
    obtain⟨a1,a2,a3,a4⟩:=Jv4 (ρ:=ρ) (al:=al) h1
    obtain⟨b1,b2,b3,b4⟩:=Jkg h2
    refine⟨a1.trans b1,fun h hi=>b2 (a2 h fun id hid=>hi id (List.mem_append_left _ hid)) fun id hid=>hi id (List.mem_append_right _ hid),fun id hid=> ?_,fun ρ' hp hf=> ?_⟩
    ·rcases List.mem_append.1 hid with hid|hid
     ·exact b1.key a3 id hid
     ·exact b3 id hid
    ·rw[Jm] at hp
     simp only[List.map_cons,a4 ρ' hp.1 (hf.le b1),b4 ρ' hp.2 hf]
   ·cases h
  ·cases h
theorem Jiv {rn rn':Rn} {v v':SV} {ps:List Prop} (h:Jz1 rn v v'=some (rn',ps)):
  Jei rn rn'∧(Jag al rn→(∀id∈v.ids,al id)→Jag al rn')∧Fj rn' v'.ids∧∀ρ',Kq ps→Jm0 ρ ρ' rn'→v'.den ρ'=v.den ρ:=by
 unfold Jz1 at h
 split at h
 ·split at h
  ·rename_i e;subst e
   obtain⟨h1,h2,h3,h4⟩:=Jkg (ρ:=ρ) (al:=al) h
   exact⟨h1,h2,h3,fun ρ' hp hf=>by simp only[SV.den];rw[h4 ρ' hp hf]⟩
  ·cases h
 ·cases h
theorem Je8:∀{vs vs':List SV} {rn rn':Rn} {ps:List Prop},Joy rn vs vs'=some (rn',ps)→
  Jei rn rn'∧(Jag al rn→(∀id∈vs.flatMap SV.ids,al id)→Jag al rn')∧Fj rn' (vs'.flatMap SV.ids)∧∀ρ',Kq ps→Jm0 ρ ρ' rn'→vs'.map (SV.den ρ')=vs.map (SV.den ρ)
 |[],[],rn,rn',ps,h=>by
  cases h
  exact⟨.refl _,fun h _=>h,fun id hid=>by simp at hid,fun _ _ _=>rfl⟩
 | v :: r, v' :: r', rn, rn', ps, h => by
  simp only[Joy] at h
  split at h
  ·rename_i rn1 p h1
   split at h
   ·rename_i rn2 q h2
    cases h
    obtain⟨a1,a2,a3,a4⟩:=Jiv (ρ:=ρ) (al:=al) h1
    obtain⟨b1,b2,b3,b4⟩:=Je8 h2
    refine⟨a1.trans b1,fun ha hi=>b2 (a2 ha fun id hid=>hi id (by rw[List.flatMap_cons];exact List.mem_append_left _ hid)) fun id hid=>hi id (by rw[List.flatMap_cons];exact List.mem_append_right _ hid),fun id hid=> ?_,fun ρ' hp hf=> ?_⟩
    ·rw[List.flatMap_cons] at hid
     rcases List.mem_append.1 hid with hid|hid
     ·exact b1.key a3 id hid
     ·exact b3 id hid
    ·obtain⟨hp1,hp2⟩:=Jm.1 hp
     rw[List.map_cons,List.map_cons,a4 ρ' hp1 (hf.le b1),b4 ρ' hp2 hf]
   ·cases h
  ·cases h
 |[],_::_,_,_,_,h=>by cases h
 |_::_,[],_,_,_,h=>by cases h
theorem Jox {s:St} (hs:∀t v,look s.sl t=some v→∀id∈v.ids,al id):∀{l:List (Nat×SV)} {rn rn':Rn} {ps:List Prop},J3c s rn l=some (rn',ps)→
  Jei rn rn'∧(Jag al rn→Jag al rn')∧∀t v',(t,v')∈l→∃v,look s.sl t=some v∧Fj rn' v'.ids∧∀ρ',Kq ps→Jm0 ρ ρ' rn'→v'.den ρ'=v.den ρ
 |[],rn,rn',ps,h=>by cases h;exact⟨.refl _,fun h=>h,fun t v' h=>by simp at h⟩
 | (t, v') :: l, rn, rn', ps, h => by
  simp only[J3c] at h
  split at h
  ·rename_i v hv
   split at h
   ·rename_i rn1 p1 h1
    split at h
    ·rename_i rn2 p2 h2
     cases h
     obtain⟨a1,a2,a3,a4⟩:=Jiv (ρ:=ρ) (al:=al) h1
     obtain⟨b1,b2,b3⟩:=Jox hs h2
     refine⟨a1.trans b1,fun h=>b2 (a2 h (hs t v hv)),fun t' u hu=> ?_⟩
     rcases List.mem_cons.1 hu with e|hu
     ·cases e
      exact⟨v,hv,b1.key a3,fun ρ' hp hf=>a4 ρ' (Jm.1 hp).1 (hf.le b1)⟩
     ·obtain⟨v,c1,c2,c3⟩:=b3 t' u hu
      exact⟨v,c1,c2,fun ρ' hp hf=>c3 ρ' (Jm.1 hp).2 hf⟩
    ·cases h
   ·cases h
  ·cases h
theorem Jkf {l:List (Nat×SV)}:∀{l':List (Nat×SV)} {rn rn':Rn} {ps:List Prop},Jsm l rn l'=some (rn',ps)→
  Jei rn rn'∧(Jag al rn→(∀id∈l.flatMap (fun p=>p.2.ids),al id)→Jag al rn')∧Fj rn' (l'.flatMap fun p=>p.2.ids)∧∀ρ',Kq ps→Jm0 ρ ρ' rn'→∀p∈l',∃v,(p.1,v)∈l∧p.2.den ρ'=v.den ρ
 |[],rn,rn',ps,h=>by cases h;exact⟨.refl _,fun h _=>h,fun id h=>by simp at h,fun _ _ _ p hp=>by simp at hp⟩
 | (t, v') :: l', rn, rn', ps, h => by
  simp only[Jsm] at h
  split at h
  ·rename_i v hv
   split at h
   ·rename_i rn1 p1 h1
    split at h
    ·rename_i rn2 p2 h2
     cases h
     obtain⟨a1,a2,a3,a4⟩:=Jiv (ρ:=ρ) (al:=al) h1
     obtain⟨b1,b2,b3,b4⟩:=Jkf h2
     have hm:=Jq hv
     refine⟨a1.trans b1,fun h hi=>b2 (a2 h fun id hid=>hi id (List.mem_flatMap.2 ⟨_,hm,hid⟩)) hi,fun id hid=> ?_,fun ρ' hp hf q hq=> ?_⟩
     ·simp only[List.flatMap_cons] at hid
      rcases List.mem_append.1 hid with hid|hid
      ·exact b1.key a3 id hid
      ·exact b3 id hid
     ·rw[Jm] at hp
      rcases List.mem_cons.1 hq with rfl|hq
      ·exact⟨v,hm,a4 ρ' hp.1 (hf.le b1)⟩
      ·exact b4 ρ' hp.2 hf q hq
    ·cases h
   ·cases h
  ·cases h
def Ju5 (ρ ρ':Env) (x x':Res):Prop:=match x with
 | .box T cs=>∃cs',x'= .box T cs'∧cs'.map (SC.den ρ')=cs.map (SC.den ρ)
 | .clo f first caps=>∃first' caps',x'= .clo f first' caps'∧first'.map (SV.den ρ')=first.map (SV.den ρ)∧caps'.map (SV.den ρ')=caps.map (SV.den ρ)
 | .fbox T cs=>∃cs',x'= .fbox T cs'∧cs'.map (SC.den ρ')=cs.map (SC.den ρ)
 | .mpi j kT gk gv ks vs l seen=>∃j',x'= .mpi j' kT gk gv ks vs l seen∧ρ' j'=ρ j
 | .iter j ks seen=>∃j',x'= .iter j' ks seen∧ρ' j'=ρ j
 | .ifb T v=>∃v',x'= .ifb T v'∧v'.den ρ'=v.den ρ
 | .sus l=>∃l',x'= .sus l'∧∀p∈l',∃v,(p.1,v)∈l∧p.2.den ρ'=v.den ρ
 | .own T s xs=>x'= .own T s xs∨x'= .ownT T s xs
 |x=>x=x'
theorem Jsn {rn rn':Rn} {x x':Res} {ps:List Prop} (h:Jso rn x x'=some (rn',ps)):
  Jei rn rn'∧(Jag al rn→(∀id∈x.ids,al id)→Jag al rn')∧Fj rn' x'.ids∧x'.owning=x.owning∧∀ρ',Kq ps→Jm0 ρ ρ' rn'→Ju5 ρ ρ' x x':=by
 have none_:Fj rn ([]:List Nat):=fun id hid=>by simp at hid
 unfold Jso at h
 split at h
 ·split at h
  ·rename_i e;subst e
   obtain⟨h1,h2,h3,h4⟩:=Jkg (ρ:=ρ) (al:=al) h
   exact⟨h1,h2,h3,rfl,fun ρ' hp hf=>⟨_,rfl,h4 ρ' hp hf⟩⟩
  ·cases h
 ·split at h
  ·rename_i e
   subst e
   split at h
   ·rename_i e;subst e;cases h
    exact⟨.refl _,fun h _=>h,none_,rfl,fun ρ' hp _=>by have hp:_=_:=hp;rw[←hp];rfl⟩
   ·cases h
  ·cases h
 ·split at h
  ·rename_i e
   subst e
   split at h
   ·rename_i e;subst e;cases h
    exact⟨.refl _,fun h _=>h,none_,rfl,fun ρ' hp _=>by have hp:_=_:=hp;exact .inl (by rw[←hp];rfl)⟩
   ·cases h
  ·cases h
 ·split at h
  ·rename_i e
   subst e
   split at h
   ·rename_i e;subst e;cases h
    exact⟨.refl _,fun h _=>h,none_,rfl,fun ρ' hp _=>by have hp:_=_:=hp;rw[←hp];rfl⟩
   ·cases h
  ·cases h
 ·split at h
  ·rename_i e
   obtain⟨e1,e2⟩:=e
   subst e1;subst e2
   cases h
   refine⟨.refl _,fun h _=>h,none_,rfl,fun ρ' hp _=> ?_⟩
   obtain⟨h1,h2⟩:=hp
   subst h1;subst h2
   rfl
  ·cases h
 ·cases h
  exact⟨.refl _,fun h _=>h,none_,rfl,fun ρ' hp _=>by have hp:_=_:=hp;rw[←hp];rfl⟩
 ·cases h
  exact⟨.refl _,fun h _=>h,none_,rfl,fun ρ' hp _=>by have hp:_=_:=hp;rw[←hp];rfl⟩
 ·cases h
  refine⟨.refl _,fun h _=>h,none_,rfl,fun ρ' hp _=> ?_⟩
  obtain⟨h1,h2⟩:=hp
  subst h1;subst h2
  rfl
 ·split at h
  ·rename_i e
   subst e
   split at h
   ·rename_i e;subst e;cases h
    exact⟨.refl _,fun h _=>h,none_,rfl,fun ρ' hp _=>by have hp:_=_:=hp;exact .inr (by rw[←hp];rfl)⟩
   ·cases h
  ·cases h
 ·split at h
  ·rename_i e
   subst e
   split at h
   ·rename_i e;subst e;cases h
    exact⟨.refl _,fun h _=>h,none_,rfl,fun ρ' hp _=>by have hp:_=_:=hp;rw[←hp];rfl⟩
   ·cases h
  ·cases h
 ·split at h
  ·rename_i e;subst e
   obtain⟨h1,h2,h3,h4⟩:=Jkg (ρ:=ρ) (al:=al) h
   exact⟨h1,h2,h3,rfl,fun ρ' hp hf=>⟨_,rfl,h4 ρ' hp hf⟩⟩
  ·cases h
 ·split at h
  ·rename_i e
   obtain⟨⟨e1,e2⟩,e3,e4,e5⟩:=e
   subst e1;subst e2;subst e3;subst e4;subst e5
   cases h
   exact⟨.refl _,fun h _=>h,none_,rfl,fun ρ' hp _=>by have hp:_=_:=hp;rw[←hp];rfl⟩
  ·cases h
 ·split at h
  ·rename_i e
   obtain⟨⟨e1,e2⟩,e3,e4,e5⟩:=e
   subst e1;subst e2;subst e3;subst e4;subst e5
   split at h
   ·rename_i rn1 p hid
    cases h
    obtain⟨h1,h2,h3⟩:=D1 (al:=al) hid
    refine⟨h1,fun hr hi=>h2 hr (hi _ (by simp[Res.ids])),fun id hid'=> ?_,rfl,fun ρ' hp hf=> ?_⟩
    ·simp only[Res.ids,List.mem_singleton] at hid'
     subst hid'
     rw[h3];rfl
    ·obtain⟨hp1,hp2⟩:=Jm.1 hp
     obtain⟨q1,q2⟩:=hp2
     have q1:_=_:=q1
     subst q1;subst q2
     exact⟨_,rfl,hf _ _ h3⟩
   ·cases h
  ·cases h
 ·split at h
  ·rename_i rn1 p hid
   cases h
   obtain⟨h1,h2,h3⟩:=D1 (al:=al) hid
   refine⟨h1,fun hr hi=>h2 hr (hi _ (by simp[Res.ids])),fun id hid'=> ?_,rfl,fun ρ' hp hf=> ?_⟩
   ·simp only[Res.ids,List.mem_singleton] at hid'
    subst hid'
    rw[h3];rfl
   ·obtain⟨hp1,hp2⟩:=Jm.1 hp
    obtain⟨q1,q2⟩:=hp2
    subst q1;subst q2
    exact⟨_,rfl,hf _ _ h3⟩
  ·cases h
 ·split at h
  ·rename_i e
   subst e
   split at h
   ·rename_i rn1 p h1
    split at h
    ·rename_i rn2 q h2
     cases h
     obtain⟨a1,a2,a3,a4⟩:=Je8 (ρ:=ρ) (al:=al) h1
     obtain⟨b1,b2,b3,b4⟩:=Je8 (ρ:=ρ) (al:=al) h2
     refine⟨a1.trans b1,fun ha hi=>b2 (a2 ha fun id hid=>hi id (List.mem_append_left _ hid)) fun id hid=>hi id (List.mem_append_right _ hid),fun id hid=> ?_,rfl,fun ρ' hp hf=> ?_⟩
     ·rcases List.mem_append.1 hid with hid|hid
      ·exact b1.key a3 id hid
      ·exact b3 id hid
     ·obtain⟨hp1,hp2⟩:=Jm.1 hp
      exact⟨_,_,rfl,a4 ρ' hp1 (hf.le b1),b4 ρ' hp2 hf⟩
    ·cases h
   ·cases h
  ·cases h
 ·obtain⟨h1,h2,h3,h4⟩:=Jkf (ρ:=ρ) (al:=al) h
  exact⟨h1,h2,h3,rfl,fun ρ' hp hf=>⟨_,rfl,h4 ρ' hp hf⟩⟩
 ·split at h
  ·rename_i e;subst e;cases h
   exact⟨.refl _,fun h _=>h,none_,rfl,fun _ _ _=>rfl⟩
  ·cases h
 ·cases h
theorem Jiw {s:St} (hs:∀i x,look s.rs i=some x→al i∧∀id∈x.ids,al id):∀{l:List (Nat×Res)} {rn rn':Rn} {ps:List Prop},Jx8 s rn l=some (rn',ps)→
  Jei rn rn'∧(Jag al rn→Jag al rn')∧∀j x',(j,x')∈l→
   (∃i x,look rn' j=some (some i)∧look s.rs i=some x∧Fj rn' x'.ids∧x'.owning=x.owning∧(∀ρ',Kq ps→Jm0 ρ ρ' rn'→Ju5 ρ ρ' x x')∧(x'.spec=true→i=j))∨
   (look rn' j=some none∧x'.ids=[]∧∃qs,Joz x'=some qs∧(Kq ps→Kq qs))
 |[],rn,rn',ps,h=>by cases h;exact⟨.refl _,fun h=>h,fun t v' h=>by simp at h⟩
 | (j, x') :: l, rn, rn', ps, h => by
  have h0 : ∃ rn0, Jei rn rn0 ∧ (∀ i x, look rn0 j = some (some i) → look s.rs i = some x → Jag al rn → Jag al rn0) ∧ (∀ qs, Joz x' = some qs → look rn0 j = some none → Jag al rn → Jag al rn0) ∧
    (match look rn0 j with
    | some (some i) => match look s.rs i with
     | some x => if x'.spec = true ∧ i ≠ j then none else match Jso rn0 x x' with
      |some (rn,p)=>match Jx8 s rn l with
       |some (rn,q)=>some (rn,p++q)
       |none=>none
      |none=>none
     |none=>none
    |some none=>match Joz x',Jx8 s rn0 l with
     |some p,some (rn,q)=>some (rn,p++q)
     |_,_=>none
    |none=>none)=some (rn',ps):=by
   refine⟨Jq0 rn j, ?_, ?_, ?_,h⟩<;>unfold Jq0<;>split
   ·exact .refl _
   ·rename_i hn;exact Jik hn
   ·exact fun _ _ _ _ h=>h
   ·rename_i hn
    exact fun i x h1 h2 h=>Jjb h fun k e=>by
     cases e
     simp only[look,if_true] at h1
     cases h1
     exact(hs j x h2).1
   ·exact fun _ _ _ h=>h
   ·exact fun qs _ h1=>by simp[look] at h1
  clear h
  obtain⟨rn0,l0,l1,l2,h⟩:=h0
  split at h
  ·rename_i i hi
   split at h
   ·rename_i x hx
    split at h
    ·cases h
    rename_i hspec
    split at h
    ·rename_i rn1 p1 h1
     split at h
     ·rename_i rn2 p2 h2
      cases h
      obtain⟨a1,a2,a3,a4,a5⟩:=Jsn (ρ:=ρ) (al:=al) h1
      obtain⟨b1,b2,b3⟩:=Jiw hs h2
      refine⟨(l0.trans a1).trans b1,fun h=>b2 (a2 (l1 i x hi hx h) (hs i x hx).2),fun k u hu=> ?_⟩
      rcases List.mem_cons.1 hu with e|hu
      ·cases e
       exact .inl ⟨i,x,b1 _ _ (a1 _ _ hi),hx,b1.key a3,a4,fun ρ' hp hf=>a5 ρ' (Jm.1 hp).1 (hf.le b1),fun hs=>Classical.byContradiction fun hne=>hspec ⟨hs,hne⟩⟩
      ·rcases b3 k u hu with⟨i',x1,c1,c2,c3,c4,c5,c6⟩|⟨c1,c2,qs,c3,c4⟩
       ·exact .inl ⟨i',x1,c1,c2,c3,c4,fun ρ' hp hf=>c5 ρ' (Jm.1 hp).2 hf,c6⟩
       ·exact .inr ⟨c1,c2,qs,c3,fun hp=>c4 (Jm.1 hp).2⟩
     ·cases h
    ·cases h
   ·cases h
  ·rename_i hi
   split at h
   ·rename_i p1 rn2 p2 h1 h2
    cases h
    obtain⟨b1,b2,b3⟩:=Jiw hs h2
    have hids:x'.ids=[]:=by
     unfold Joz at h1
     split at h1<;>first|rfl|cases h1
    refine⟨l0.trans b1,fun h=>b2 (l2 p1 h1 hi h),fun k u hu=> ?_⟩
    rcases List.mem_cons.1 hu with e|hu
    ·cases e
     exact .inr ⟨b1 _ _ hi,hids,p1,h1,fun hp=>(Jm.1 hp).1⟩
    ·rcases b3 k u hu with⟨i',x1,c1,c2,c3,c4,c5,c6⟩|⟨c1,c2,qs,c3,c4⟩
     ·exact .inl ⟨i',x1,c1,c2,c3,c4,fun ρ' hp hf=>c5 ρ' (Jm.1 hp).2 hf,c6⟩
     ·exact .inr ⟨c1,c2,qs,c3,fun hp=>c4 (Jm.1 hp).2⟩
   ·cases h
  ·cases h
theorem Zn:∀{l:List Nat},Xj l=true→l.Nodup
 |[],_=> .nil
 |a::l,h=>by
  simp only[Xj,Bool.and_eq_true,Bool.not_eq_true',List.contains_eq_mem,decide_eq_false_iff_not] at h
  exact List.nodup_cons.2 ⟨h.1,Zn h.2⟩
theorem Jfh:∀{rn:Rn},(Jt7 rn).Nodup→∀{r r' i:Nat},(r,some i)∈rn→(r',some i)∈rn→r=r'
 |[],_,_,_,_,h,_=>by simp at h
 | (k, y) :: rn, hd, r, r', i, h, h' => by
  have him:∀{r},(r,some i)∈rn→i∈Jt7 rn:=fun h=>List.mem_filterMap.2 ⟨_,h,rfl⟩
  cases y with
  | none =>
   have hd':(Jt7 rn).Nodup:=by simpa[Jt7] using hd
   rcases List.mem_cons.1 h with e|h
   ·cases e
   ·rcases List.mem_cons.1 h' with e|h'
    ·cases e
    ·exact Jfh hd' h h'
  |some z=>
   have hd':z∉Jt7 rn∧(Jt7 rn).Nodup:=by simpa[Jt7] using hd
   rcases List.mem_cons.1 h with e|h1<;>rcases List.mem_cons.1 h' with e'|h2
   ·cases e;cases e';rfl
   ·cases e;exact absurd (him h2) hd'.1
   ·cases e';exact absurd (him h1) hd'.1
   ·exact Jfh hd'.2 h1 h2
end
section
variable {P:Program} {N B:Nat} {w0:U7} {R:Nat→Prop}
theorem Uz [Dr] {s s' : St} (h : Jow s s') {a : Act} {w : World} (hs : U3 P N B w0 R s a w) : U3 P N B w0 R s' a w := by
 obtain⟨ρ,M,al,hal,C⟩:=hs
 unfold Jow at h
 split at h
 ·rename_i rn p h1
  split at h
  ·rename_i rn' q h2
   split at h
   ·rename_i hc
    obtain⟨hd,hok⟩:=hc
    obtain⟨a1,a2,a3⟩:=Jox (ρ:=ρ) (al:=al) (fun t v hv=>C.slotIds t v hv) h1
    obtain⟨b1,b2,b3⟩:=Jiw (ρ:=ρ) (al:=al) (fun i x hx=>C.resIds i x hx) h2
    have hal':Jag al rn':=b2 (a2 fun j i hj=>by simp[look] at hj)
    have hp:=(Jm.1 h).1
    have hq:=(Jm.1 h).2
    let ρ':Env:=fun j=>match look rn' j with
     |some (some i)=>ρ i
     |_=> .slice none 0 0
    have hf:Jm0 ρ ρ' rn':=by
     intro j y hy
     show(match look rn' j with|some (some i)=>ρ i|_=> .slice none 0 0)=_
     rw[hy]
     cases y<;>rfl
    simp only[St.idsOk,Bool.and_eq_true,List.all_eq_true,decide_eq_true_eq] at hok
    obtain⟨⟨ok1,ok2⟩,_⟩:=hok
    have hnod:=Zn hd
    refine⟨ρ',M,fun j=>(look rn' j).isSome=true∧j<s'.nx,fun id h=>h.2,⟨C.size,C.defers,C.nomark,C.stay,C.stayR,C.below,C.base, ?_, ?_, ?_, ?_, ?_,C.old, ?_,C.up,C.good⟩⟩
    ·intro t v' hv
     obtain⟨v,c1,c2,c3⟩:=a3 t v' (Jq hv)
     rw[C.slot t v c1,c3 ρ' hp (hf.le b1)]
    ·intro t v' hv id hid
     obtain⟨v,c1,c2,c3⟩:=a3 t v' (Jq hv)
     exact⟨b1.key c2 id hid,ok1 _ (Jq hv) id hid⟩
    ·intro j x' hx
     rcases b3 j x' (Jq hx) with⟨i,x,c1,c2,c3,c4,c5,c6⟩|⟨c1,c2,qs,c3,c4⟩
     ·have hsay:=c5 ρ' hq hf
      have hρ:ρ' j=ρ i:=hf j _ c1
      have hres:=C.resA i x c2
      cases x with
      |box T cs=>
       obtain⟨cs',rfl,hcs⟩:=hsay
       obtain⟨b,w1,w2,w3,w4,w5⟩:=hres
       exact⟨b,hρ.trans w1,by rw[hcs];exact w2,w3,w4,w5⟩
      |sus l=>
       obtain⟨l',rfl,hl⟩:=hsay
       obtain rfl:=c6 rfl
       obtain⟨T,w1,w2⟩:=hres
       refine⟨T,w1,fun p hp=> ?_⟩
       obtain⟨v,v1,v2⟩:=hl p hp
       exact(w2 _ v1).trans v2.symm
      |yld s=>
       cases hsay
       obtain rfl:=c6 rfl
       obtain⟨l,rc,w1,w2,w3⟩:=hres
       exact⟨l,rc,w1,hρ.trans w2,w3⟩
      |clo f first caps=>
       obtain⟨first',caps',rfl,e1,e2⟩:=hsay
       show ρ' j= .func (.func f) (first'.map (SV.den ρ')).toArray (caps'.map (SV.den ρ')).toArray
       rw[e1,e2,hρ]
       exact hres
      |fbox T cs=>
       obtain⟨cs',rfl,hcs⟩:=hsay
       obtain⟨b,w1,w2,w3⟩:=hres
       exact⟨b,hρ.trans w1,by rw[hcs];exact w2,w3⟩
      |mp kT gk gv ks vs l=>cases hsay;unfold Jej Va at*;rw[hρ];exact hres
      |mpi i2 kT gk gv ks vs l seen=>
       obtain⟨j',rfl,hj'⟩:=hsay
       obtain⟨b,m,w1,w2,w3⟩:=hres
       exact⟨b,m,hρ.trans w1,hj'.trans w2,w3⟩
      |imm T s xs=>cases hsay;unfold Jej Va at*;rw[hρ];exact hres
      |own T s xs=>
       obtain⟨flat,w1,w2,w3⟩:=hres
       rcases hsay with rfl|rfl
       ·exact⟨flat,w1,by rw[hρ];exact w2,fun g hg=>w3 g (by rw[←hρ];exact hg)⟩
       ·exact⟨flat,w1,by rw[hρ];exact Jew w2,fun g hg=>w3 g (by rw[←hρ];exact hg)⟩
      |ownT T s xs=>
       cases hsay
       obtain⟨flat,w1,w2,w3⟩:=hres
       exact⟨flat,w1,by rw[hρ];exact w2,fun g hg=>w3 g (by rw[←hρ];exact hg)⟩
      |rbox T s x=>cases hsay;unfold Jej Va at*;rw[hρ];exact hres
      |map ks=>cases hsay;unfold Jej Va at*;rw[hρ];exact hres
      |iter i2 ks seen=>
       obtain⟨j',rfl,hj'⟩:=hsay
       obtain⟨b,m,w1,w2,w3⟩:=hres
       exact⟨b,m,hρ.trans w1,hj'.trans w2,w3⟩
      |afn ps r' pre h'=>cases hsay;unfold Jej Va at*;rw[hρ];exact hres
      |ifc b=>cases hsay;unfold Jej Va at*;rw[hρ];exact hres
      |ifb T v=>
       obtain⟨v',rfl,e1⟩:=hsay
       show ρ' j= .iface T (v'.den ρ')
       rw[e1,hρ]
       exact hres
      |siter s p=>cases hsay;unfold Jej Va at*;rw[hρ];exact hres
     ·have hρ:ρ' j= .slice none 0 0:=hf j _ c1
      have hqs:=c4 hq
      cases x' with
      |imm T s xs=>
       cases c3
       have h0:xs.length=0:=hqs
       have:xs=[]:=List.eq_nil_of_length_eq_zero h0
       subst this
       exact⟨_,[],rfl,rfl, .inl ⟨.inl hρ,rfl⟩⟩
      |own T s xs=>
       cases c3
       have h0:xs.length=0:=hqs
       have:xs=[]:=List.eq_nil_of_length_eq_zero h0
       subst this
       refine⟨[],rfl,⟨by simp, .inl ⟨hρ,rfl⟩⟩,fun g hg=> ?_⟩
       rw[hρ] at hg;cases hg
      |ownT T s xs=>
       cases c3
       have h0:xs.length=0:=hqs
       have:xs=[]:=List.eq_nil_of_length_eq_zero h0
       subst this
       refine⟨[],rfl,⟨by simp, .inl ⟨hρ,rfl⟩⟩,fun g hg=> ?_⟩
       rw[hρ] at hg;cases hg
      |_=>cases c3
    ·intro j x' hx
     have hm:=Jq hx
     have hj:=ok2 _ hm
     rcases b3 j x' hm with⟨i,x,c1,c2,c3,c4,c5,c6⟩|⟨c1,c2,qs,c3,c4⟩
     ·exact⟨⟨by rw[c1];rfl,hj.1⟩,fun id hid=>⟨c3 id hid,hj.2 id hid⟩⟩
     ·exact⟨⟨by rw[c1];rfl,hj.1⟩,fun id hid=>by rw[c2] at hid;simp at hid⟩
    ·intro r r' x x' hne hx hx' ho ho' b hb hb'
     rcases b3 r x (Jq hx) with⟨i,y,c1,c2,c3,c4,c5,c6⟩|⟨c1,_⟩
     ·rcases b3 r' x' (Jq hx') with⟨i',y',d1,d2,d3,d4,d5,d6⟩|⟨d1,_⟩
      ·have hi:i≠i':=by
        rintro rfl
        exact hne (Jfh hnod (Jq c1) (Jq d1))
       rw[hf r _ c1] at hb
       rw[hf r' _ d1] at hb'
       exact C.apart i i' y y' hi c2 d2 (by rw[←c4];exact ho) (by rw[←d4];exact ho') b hb hb'
      ·rw[hf r' _ d1] at hb';cases hb'
     ·rw[hf r _ c1] at hb;cases hb
    ·rintro j ⟨hj,_⟩
     obtain⟨y,hy⟩:=Option.isSome_iff_exists.1 hj
     rw[hf j y hy]
     cases y with
     |none=>rfl
     |some i=>exact C.one i (hal' j i hy)
   ·exact h.elim
  ·exact h.elim
 ·exact h.elim
end
end Go.Sx
namespace Go.Sx
open Go.RowKit
theorem Vz {P:Program} {b:Frame} {a:Act} {k:List Item} {cs:List Frame} {w:World} {c:Code}:step P (lone (b.atR a (.code (.scope c)::k)) cs w)= .next (lone (b.atR a (.code c:: .inScope c::k)) cs w):=
 step_lone_go (by simp[stepG,stepG.exec,Frame.atR])
theorem Jen {P:Program} {b:Frame} {a:Act} {k:List Item} {cs:List Frame} {w:World} {c:Code}:step P (lone (b.atR a (.inScope c::k)) cs w)= .next (lone (b.atR a k) cs w):=
 step_lone_go (by simp[stepG,stepG.exec,Frame.atR])
theorem Yp {F:Fence} {n:Nat} {P:Program} {Q:Exit→Act→World→Prop} {a:Act} {w:World} {c:Code} (h:c.wpIn F n P (Exit.noGoto Q) a w):(Code.scope c).wpIn F n P Q a w:=by
 intro b k cs hro hb hr
 have h0:(lone (b.atR a (.code (.scope c)::k)) cs w).fenced P F:=fenced_calm hb hr rfl
 obtain⟨e,a₁,w₁,hq,harr⟩:=h b (.inScope c::k) cs hro hb hr
 have hx:∀id,exitTo id (.inScope c::k)=exitTo id k:=fun id=>by simp[exitTo]
 cases e with
 |normal=>exact⟨.normal,a₁,w₁,hq, .head h0 Vz (StepsIn.trans harr (.one (fenced_calm hb hr rfl) Jen))⟩
 |exit id=>exact⟨.exit id,a₁,w₁,hq,fun k' hk=> .head h0 Vz (harr.1 k' (by rw[hx];exact hk)),fun hr' hk=>let⟨k₁,h1,h2⟩:=harr.2 hr' (by rw[hx];exact hk);⟨k₁,h1, .head h0 Vz h2⟩⟩
 |goto l=>exact hq.elim
 |ret=>exact⟨_,a₁,w₁,hq, .of_steps (.one h0 Vz) harr⟩
 |panic ch=>exact⟨_,a₁,w₁,hq, .of_steps (.one h0 Vz) harr⟩
 |outgrown=>exact⟨_,a₁,w₁,hq, .of_steps (.one h0 Vz) harr⟩
def Ex.toExit:Ex→Exit
 | .normal=> .normal
 | .exit i=> .exit i
 | .ret=> .ret
theorem Jv3 {p:Nat→Prop} (h:∃n,p n):∃n,p n∧∀m,p m→n≤m:=by
 obtain⟨n,hn⟩:=h
 induction n using Nat.strongRecOn with
 | _ n ih =>
  by_cases hm:∃m,m<n∧p m
  ·obtain⟨m,h1,h2⟩:=hm
   exact ih m h1 h2
  ·exact⟨n,hn,fun m hp=>Nat.le_of_not_lt fun hlt=>hm ⟨m,hlt,hp⟩⟩
open Classical in
noncomputable def leastMu (p:Nat→Prop):Nat:=if h:∃n,p n then(Jv3 h).choose else 0
theorem Xy {p:Nat→Prop} (h:∃n,p n):p (leastMu p):=by
 unfold leastMu
 rw[dif_pos h]
 exact(Jv3 h).choose_spec.1
theorem Xx {p:Nat→Prop} {m:Nat} (h:p m):leastMu p≤m:=by
 unfold leastMu
 rw[dif_pos ⟨m,h⟩]
 exact(Jv3 ⟨m,h⟩).choose_spec.2 m h
section
variable {P:Program} {Γ:Gam} {ann:Nat→Option Ann} {N B:Nat} {w0:U7} {R:Nat→Prop} {rd:Option Nat}
theorem Jv1 [Dr] {id:Nat} {c:Code} (ih:∀{st:St} {k:Ex→St→Prop} {Q:Exit→Act→World→Prop},wpS P Γ ann c st k→
  (∀e st' a w,k e st'→U3 P N B w0 R st' a w→Q e.toExit a w)→∀a w,U3 P N B w0 R st a w→c.wpIn (FR rd) 0 P Q a w)
  {st:St} {k:Ex→St→Prop} {Q:Exit→Act→World→Prop} (h:wpS P Γ ann (.block id (.loop c)) st k)
  (hK:∀e st' a w,k e st'→U3 P N B w0 R st' a w→Q e.toExit a w) (a:Act) (w:World) (hs:U3 P N B w0 R st a w):(Code.block id (.loop c)).wpIn (FR rd) 0 P Q a w:=by
 simp only[wpS] at h
 split at h
 ·rename_i A hA
  split at h
  ·obtain⟨x0,h1,h2,h3⟩:=h
   refine wpIn_block (wpIn_loop (fun a w=>∃x,A.inv x∧U3 P N B w0 R (A.σ x) a w) (fun a w=>leastMu fun n=>∃x,A.inv x∧U3 P N B w0 R (A.σ x) a w∧A.mu x=n) ⟨x0,h2,Uz h1 (Vn hs)⟩ fun a w hI=> ?_)
   obtain⟨x,i1,i2,i3⟩:=Xy (p:=fun n=>∃x,A.inv x∧U3 P N B w0 R (A.σ x) a w∧A.mu x=n) (by obtain⟨x,i1,i2⟩:=hI;exact⟨_,x,i1,i2,rfl⟩)
   refine ih (h3 x i1) (fun e st' a' w' he hs'=> ?_) a w i2
   have hcatch:∀e,Ex.catch id k e st'→Exit.inBlock id Q e.toExit a' w':=by
    intro e he
    cases e with
    |normal=>exact hK .normal st' a' w' he hs'
    |exit i=>
     simp only[Ex.catch] at he
     simp only[Ex.toExit,Exit.inBlock]
     split at he
     ·rename_i e;rw[if_pos e];exact hK .normal st' a' w' he hs'
     ·rename_i e;rw[if_neg e];exact hK (.exit i) st' a' w' he hs'
    |ret=>exact hK .ret st' a' w' he hs'
   cases e with
   |normal=>
    obtain⟨y,j1,j2,j3⟩:=he
    refine⟨⟨y,j2,Uz j1 hs'⟩, ?_⟩
    exact Nat.lt_of_le_of_lt (Xx ⟨y,j2,Uz j1 hs',rfl⟩) (by rw[←i3];exact j3)
   |exit i=>exact hcatch (.exit i) he
   |ret=>exact hcatch .ret he
  ·rename_i r hr
   obtain⟨x0,h1,h2,h3⟩:=h
   refine wpIn_block (wpIn_loop (fun a w=>∃x,(A.inv x∧r x0 x)∧U3 P N B w0 R (A.σ x) a w) (fun a w=>leastMu fun n=>∃x,(A.inv x∧r x0 x)∧U3 P N B w0 R (A.σ x) a w∧A.mu x=n) ⟨x0,h2,Uz h1 (Vn hs)⟩ fun a w hI=> ?_)
   obtain⟨x,i1,i2,i3⟩:=Xy (p:=fun n=>∃x,(A.inv x∧r x0 x)∧U3 P N B w0 R (A.σ x) a w∧A.mu x=n) (by obtain⟨x,i1,i2⟩:=hI;exact⟨_,x,i1,i2,rfl⟩)
   refine ih (h3 x i1) (fun e st' a' w' he hs'=> ?_) a w i2
   have hcatch:∀e,Ex.catch id k e st'→Exit.inBlock id Q e.toExit a' w':=by
    intro e he
    cases e with
    |normal=>exact hK .normal st' a' w' he hs'
    |exit i=>
     simp only[Ex.catch] at he
     simp only[Ex.toExit,Exit.inBlock]
     split at he
     ·rename_i e;rw[if_pos e];exact hK .normal st' a' w' he hs'
     ·rename_i e;rw[if_neg e];exact hK (.exit i) st' a' w' he hs'
    |ret=>exact hK .ret st' a' w' he hs'
   cases e with
   |normal=>
    obtain⟨y,j1,j2,j3⟩:=he
    refine⟨⟨y,j2,Uz j1 hs'⟩, ?_⟩
    exact Nat.lt_of_le_of_lt (Xx ⟨y,j2,Uz j1 hs',rfl⟩) (by rw[←i3];exact j3)
   |exit i=>exact hcatch (.exit i) he
   |ret=>exact hcatch .ret he
 ·exact h.elim
theorem Jbr:∀(ks:List Int) (b:Nat) (e:MapEntry),e∈Y1 ks b→∃p,p<ks.length∧e={key:= .int .i64 (ks.getD p 0),val:= .bool true,born:=b+p}
 |[],b,e,h=>by simp[Y1] at h
 | k :: r, b, e, h => by
  simp only[Y1,List.mem_cons] at h
  rcases h with rfl|h
  ·exact⟨0,by simp,by simp⟩
  ·obtain⟨p,h1,h2⟩:=Jbr r (b+1) e h
   refine⟨p+1,by simpa using h1, ?_⟩
   rw[h2,show b+1+p=b+(p+1) by omega]
   simp
theorem Jsh {w:World} {b m:Nat} {es:Array MapEntry} {ks:List Int} {seen:List Nat} {T:TypeId} (h1:w.heap[b]? =some (.mapIter (some m) ks.length seen.toArray ks.length)) (h2:w.heap[m]? =some (.map es ks.length)) (h3:es.toList=Y1 ks 0):
  ((Instr.next (.pointer (some ⟨b,0,none⟩)) false T).run P w= .ok (.tuple #[.bool false]) w∧∀p,p<ks.length→p∈seen)∨
  (∃w1 p,(w1=w∨w1=w.drew)∧p<ks.length∧p∉seen∧(Instr.next (.pointer (some ⟨b,0,none⟩)) false T).run P w= .ok (.tuple #[.bool true, .int .i64 (ks.getD p 0), .bool true]) (J7 w1 b (.mapIter (some m) ks.length (seen++[p]).toArray ks.length))):=by
 have hold:∀x∈es.toList,x.born<ks.length:=fun x hx=>by
  rw[h3] at hx
  obtain⟨p,hp,rfl⟩:=Jbr ks 0 x hx
  simpa using hp
 rcases run_next_at (P:=P) w T b m ks.length ks.length seen.toArray es ks.length h1 h2 hold (Nat.le_refl _) with⟨h4,h5⟩|⟨e,he,w1,hw,h5⟩
 ·refine .inl ⟨h5,fun p hp=> ?_⟩
  have hmem:es.toList[p]? =some {key:= .int .i64 ks[p],val:= .bool true,born:=p}:=by
   rw[h3,Jbs]
   simp[hp]
  have hin:({key:= .int .i64 ks[p],val:= .bool true,born:=p}:MapEntry)∈es:=by
   have:=List.mem_of_getElem? hmem
   simpa using this
  have h0:leftOf es seen.toArray= #[]:=Array.eq_empty_of_size_eq_zero h4
  have:¬(({key:= .int .i64 ks[p],val:= .bool true,born:=p}:MapEntry)∈leftOf es seen.toArray):=by rw[h0];simp
  unfold leftOf at this
  rw[Array.mem_filter] at this
  have h6:¬(!seen.toArray.contains p)=true:=fun hc=>this ⟨hin,hc⟩
  simpa using h6
 ·unfold leftOf at he
  rw[Array.mem_toList_iff,Array.mem_filter] at he
  obtain⟨he1,he2⟩:=he
  have he1':e∈es.toList:=by simpa using he1
  rw[h3] at he1'
  obtain⟨p,hp,rfl⟩:=Jbr ks 0 e he1'
  have hns:p∉seen:=by simpa using he2
  refine .inr ⟨w1,p,hw,hp,hns, ?_⟩
  rw[h5]
  simp[ChangeMaps.setBlock,J7]
theorem Jr.mem {M:Nat→Prop} {w:World} {gk gv:Bool} {ks vs:Sch}:∀{l:List (ks.T×vs.T)} {n:Nat} {es:List MapEntry} {e:MapEntry},Jr M w gk gv ks vs l n es→e∈es→∃p,p<l.length∧e.born=n+p
 |[],_,_,_,h,he=>by rw[show _=[] from h] at he;simp at he
 | x :: l, n, _, e, ⟨kc, vc, r, q, h1, h2, h3⟩, he => by
  subst q
  rcases List.mem_cons.1 he with rfl|he
  ·exact⟨0,by simp,rfl⟩
  ·obtain⟨p,hp,e1⟩:=Jr.mem h3 he
   exact⟨p+1,by simpa using hp,by omega⟩
theorem Jok {w:World} {M:Nat→Prop} {b m:Nat} {es:Array MapEntry} {gk gv:Bool} {ks vs:Sch} {l:List (ks.T×vs.T)} {seen:List Nat} {T:TypeId} (h1:w.heap[b]? =some (.mapIter (some m) l.length seen.toArray l.length)) (h2:w.heap[m]? =some (.map es l.length)) (h3:Jr M w gk gv ks vs l 0 es.toList):
  ((Instr.next (.pointer (some ⟨b,0,none⟩)) false T).run P w= .ok (.tuple #[.bool false]) w∧∀p,p<l.length→p∈seen)∨
  (∃w1 p u1 u2,(w1=w∨w1=w.drew)∧p<l.length∧p∉seen∧(Instr.next (.pointer (some ⟨b,0,none⟩)) false T).run P w= .ok (.tuple #[.bool true,u1,u2]) (J7 w1 b (.mapIter (some m) l.length (seen++[p]).toArray l.length))):=by
 have hold:∀x∈es.toList,x.born<l.length:=fun x hx=>by
  obtain⟨p,hp,e⟩:=h3.mem hx
  omega
 rcases run_next_at (P:=P) w T b m l.length l.length seen.toArray es l.length h1 h2 hold (Nat.le_refl _) with⟨h4,h5⟩|⟨e,he,w1,hw,h5⟩
 ·refine .inl ⟨h5,fun p hp=> ?_⟩
  obtain⟨x,hx⟩:∃x,l[p]? =some x:=⟨_,List.getElem?_eq_getElem hp⟩
  obtain⟨kc,vc,hmem,_⟩:=h3.get hx
  have hin:=List.mem_of_getElem? hmem
  rw[Nat.zero_add] at hin
  have hin:({key:=valOf gk kc,val:=valOf gv vc,born:=p}:MapEntry)∈es:=by simpa using hin
  have h0:leftOf es seen.toArray= #[]:=Array.eq_empty_of_size_eq_zero h4
  have:¬(({key:=valOf gk kc,val:=valOf gv vc,born:=p}:MapEntry)∈leftOf es seen.toArray):=by rw[h0];simp
  unfold leftOf at this
  rw[Array.mem_filter] at this
  have h6:¬(!seen.toArray.contains p)=true:=fun hc=>this ⟨hin,hc⟩
  simpa using h6
 ·unfold leftOf at he
  rw[Array.mem_toList_iff,Array.mem_filter] at he
  obtain⟨he1,he2⟩:=he
  have he1':e∈es.toList:=by simpa using he1
  obtain⟨p,hp,hb⟩:=h3.mem he1'
  rw[Nat.zero_add] at hb
  have hns:p∉seen:=by rw[←hb];simpa using he2
  refine .inr ⟨w1,p,e.key,e.val,hw,hp,hns, ?_⟩
  rw[h5]
  simp[ChangeMaps.setBlock,J7,hb]
theorem Jom {l:List Oper} {dr:Bool} {t:Tmp×Tmp×Tmp} (h:Jg1 l dr=some t):dr=false∧∃o1 o2,l=[o1,o2]∧o1.op= .next (.tmp t.1) false∧o1.dst=some t.2.1∧o1.guard=none∧o2.op= .extract (.tmp t.2.1) 0∧o2.dst=some t.2.2∧o2.guard=none:=by
 unfold Jg1 at h
 split at h
 ·rename_i o1 o2
  split at h
  ·rename_i it d1 d1' d2 h1 h2 h3 h4 h5 h6
   split at h
   ·rename_i e
    subst e
    cases h
    exact⟨rfl,o1,o2,rfl,h1,h2,h3,h4,h5,h6⟩
   ·cases h
  ·cases h
 ·cases h
theorem Joj [Dr] {ops : Array Oper} {dr : Bool} {t : Tmp × Tmp × Tmp} (hn : Jg1 ops.toList dr = some t) (hd : ∀ o ∈ ops.toList, ∀ t, o.dst = some t → t < N) {st : St} {k : Ex → St → Prop} {Q : Exit → Act → World → Prop} (h : Jkb st t k)
  (hK:∀st' a w,k .normal st'→U3 P N B w0 R st' a w→Q .normal a w) (id:Nat) (a:Act) (w:World) (hs:U3 P N B w0 R st a w):(Code.region id ops dr).wpIn (FR rd) 0 P Q a w:=by
 obtain⟨rfl,o1,o2,hl,q1,q2,q3,q4,q5,q6⟩:=Jom hn
 have hops:ops= #[o1,o2]:=by apply Array.ext';simpa using hl
 subst hops
 have d1N:t.2.1<N:=hd o1 (by simp) _ q2
 have d2N:t.2.2<N:=hd o2 (by simp) _ q5
 obtain⟨ρ,M,al,hal,C⟩:=hs
 unfold Jkb at h
 split at h
 case h_2=>exact h.elim
 rename_i i hi
 split at h
 case h_3=>exact h.elim
 ·rename_i j ks seen hr
  split at h
  case h_2=>exact h.elim
  rename_i ks' hj
  obtain⟨rfl,hstep,hend⟩:=h
  obtain⟨b,m,r1,r2,r3,r4,r5,r6⟩:=C.res i _ hr
  obtain⟨m',es,s1,s2,s3,s4,s5,s6⟩:=C.res j _ hj
  rw[r2] at s1;cases s1
  have hit:a.eval (.tmp t.1)= .pointer (some ⟨b,0,none⟩):=(C.slot t.1 _ hi).trans r1
  have hsa:∀id,Yy al st.nx [] id→al id:=fun id h=>by
   rcases h with h|h
   ·exact h
   ·simp at h;omega
  have run2:∀(u:Value) (w':World),(Instr.next (.pointer (some ⟨b,0,none⟩)) false o1.type).run P w= .ok u w'→∀c v',(u= .tuple (#[Value.bool c]++v'))→Q .normal ((a.put o1.dst u).put o2.dst (.bool c)) w'→(Code.region id #[o1,o2] false).wpIn (FR rd) 0 P Q a w:=by
   intro u w' hu c v' hc hq
   refine wpIn_region ?_
   show wpOpsIn (FR rd) 0 P #[o1,o2] Q [0,1] a w
   rw[wpOpsIn_cons]
   unfold wpOpIn
   have e0:(#[o1,o2]:Array Oper)[0]? =some o1:=rfl
   have e1:(#[o1,o2]:Array Oper)[1]? =some o2:=rfl
   rw[e0]
   simp only[Region.wanted,q3,if_true]
   refine Jdf (by rw[q1];intro c e;cases e) (Ji (u:=u) (w':=w') ?_ ?_)
   ·simp only[execOp,q1,hit]
    exact Ki hu
   ·rw[wpOpsIn_cons]
    unfold wpOpIn
    rw[e1]
    simp only[Region.wanted,q6,if_true]
    refine Jdf (by rw[q4];intro c e;cases e) (Ji (u:= .bool c) (w':=w') ?_ hq)
    have hev:(a.put o1.dst u).eval (.tmp t.2.1)=u:=by
     show(a.put o1.dst u).tmps.getD t.2.1 undef=u
     rw[Jak fun h=>by rw[C.size];exact d1N,if_pos q2]
    simp only[execOp,q4]
    rw[hev,hc]
    have h0:(#[Value.bool c]++v')[0]? =some (.bool c):=by rw[Array.getElem?_append_left (by simp)];rfl
    exact Ki (by simp only[Instr.extract,h0];rfl)
  have weak : ∀ {τ' : Nat → Option SV} {x : SV} {v : SV} {rs' : List (Nat × Res)} {c : Bool}, (∀ t', t' ≠ t.2.1 → t' ≠ t.2.2 → look st.sl t' = τ' t') → ∀ t' v', look (H8 st t c rs').sl t' = some v' → Yx τ' (some t.2.2) (.one (.bool c)) t' = some v' := by
   intro τ' x v rs' c hτ t' v' ht
   unfold H8 at ht
   simp only[look] at ht
   unfold Yx
   split at ht
   ·rename_i e;subst e;rw[if_pos rfl];exact ht
   ·rename_i e
    rw[if_neg (by simpa using e)]
    have hf:∀l:List (Nat×SV),look (l.filter fun p=>p.1 !=t.2.1&&p.1 !=t.2.2) t'=some v'→t'≠t.2.1∧look l t'=some v':=by
     intro l
     induction l with
     |nil=>intro h;cases h
     | cons p l ih =>
      intro h
      rw[List.filter_cons] at h
      split at h
      ·rename_i hp
       simp only[look] at h⊢
       split at h
       ·rename_i e2
        rw[if_pos e2]
        refine⟨?_,h⟩
        subst e2
        simp at hp;exact hp.1
       ·rename_i e2;rw[if_neg e2];exact ih h
      ·rename_i hp
       obtain⟨i1,i2⟩:=ih h
       refine⟨i1, ?_⟩
       simp only[look]
       split
       ·rename_i e2
        subst e2
        simp at hp
        exact absurd (hp i1).symm e
       ·exact i2
    obtain⟨i1,i2⟩:=hf st.sl ht
    rw[←hτ t' i1 (Ne.symm e)]
    exact i2
  rcases Jsh (P:=P) (T:=o1.type) r3 s2 s3 with⟨g1,g2⟩|⟨w1,p,gw,g1,g2,g3⟩
  ·refine run2 _ _ g1 false #[] rfl (hK _ _ _ (hend g2) ?_)
   have C1:=C.pure (n:=st.nx) (d:=o1.dst) (v:= .tup [(false,[.bool false])]) (u:= .tuple #[.bool false]) (fun t' h=>by rw[q2] at h;cases h;exact d1N) rfl (fun id hid=>by simp[SV.ids,Js,SC.ids] at hid)
   have C2:=C1.pure (n:=st.nx) (d:=o2.dst) (v:= .one (.bool false)) (u:= .bool false) (fun t' h=>by rw[q5] at h;cases h;exact d2N) rfl (fun id hid=>by simp[SV.ids,Js,SC.ids] at hid)
   refine⟨ρ,M,Yy al st.nx [],fun id h=>hal id (hsa id h),C2.weaken (fun t' v' h=> ?_) (fun id x h=> ?_) fun id=>⟨.inl,fun h=>by
    rcases h with h|h
    ·exact h
    ·simp at h;omega⟩⟩
   ·rw[q5]
    refine weak (x:=Jt) (v:=Jt) (fun t2 n1 n2=> ?_) t' v' h
    unfold Yx
    rw[q2,if_neg (by simpa using Ne.symm n1)]
   ·unfold Kg
    rw[if_neg (by simp)]
    simp only[look]
    rw[if_neg (by simp)]
    exact h
  ·have C0:Jn P N B w0 al (look st.sl) (look st.rs) a w1 ρ M R:=by
    rcases gw with rfl|rfl
    ·exact C
    ·exact C.world (w':=w.drew) rfl ⟨rfl,rfl,rfl,Nat.le_refl _,fun _ _=>rfl,fun _=>Nat.le_succ _⟩
   have hh:w1.heap=w.heap:=by rcases gw with rfl|rfl<;>rfl
   refine run2 _ _ g3 true #[.int .i64 (ks'.getD p 0), .bool true] rfl (hK _ _ _ (hstep p g1 g2) ?_)
   have hlt:b<w1.heap.size:=by rw[hh];exact(Array.getElem?_eq_some_iff.1 r3).1
   have C1:=C0.putObj (n:=st.nx) (d:=o1.dst) (x':= .iter j ks' (seen++[p])) (fun t' h=>by rw[q2] at h;cases h;exact d1N) hr rfl (b:=b) (by rw[r1];rfl) (.mapIter (some m) ks'.length (seen++[p]).toArray ks'.length) ⟨b,m,r1,r2,Vh hlt,r4,r5,r6⟩
    (fun id hid=>by
     have:id=j:=by simpa[Res.ids] using hid
     subst this
     exact(C.resIds id _ hj).1) (v:= .tup [(false,[.bool true]),(false,[.int .i64 (ks'.getD p 0)]),(false,[.bool true])]) (u:= .tuple #[.bool true, .int .i64 (ks'.getD p 0), .bool true]) rfl (fun id hid=>by simp[SV.ids,Js,SC.ids] at hid)
   have C2:=C1.pure (n:=st.nx) (d:=o2.dst) (v:= .one (.bool true)) (u:= .bool true) (fun t' h=>by rw[q5] at h;cases h;exact d2N) rfl (fun id hid=>by simp[SV.ids,Js,SC.ids] at hid)
   refine⟨ρ,M,Yy al st.nx [],fun id h=>hal id (hsa id h),C2.weaken (fun t' v' h=> ?_) (fun id x h=> ?_) fun id=>⟨.inl,fun h=>by
    rcases h with h|h
    ·exact h
    ·simp at h;omega⟩⟩
   ·rw[q5]
    refine weak (x:=Jt) (v:=Jt) (fun t2 n1 n2=> ?_) t' v' h
    unfold Yx
    rw[q2,if_neg (by simpa using Ne.symm n1)]
   ·unfold Kg
    rw[if_neg (by simp)]
    simp only[look]
    rw[if_neg (by simp)]
    have h':look (Kb st.rs (i,some (.iter j ks' (seen++[p])))) id=some x:=h
    rw[Kl] at h'
    split at h'
    ·rename_i e;subst e;rw[if_pos rfl];exact h'
    ·rename_i e;rw[if_neg (Ne.symm e)];exact h'
 ·rename_i j kT gk gv ks vs l seen hr
  split at h
  case h_2=>exact h.elim
  rename_i kT' gk' gv' ks' vs' l' hj
  split at h
  case isFalse=>exact h.elim
  rename_i hc
  obtain⟨⟨rfl,rfl⟩,rfl,rfl,rfl⟩:=hc
  obtain⟨hl',hstep,hend⟩:=h
  have hl':l'=l:=hl'
  subst hl'
  obtain⟨b,m,r1,r2,r3,r4,r5,r6⟩:=C.res i _ hr
  obtain⟨_,m',es,s1,s2,s3,s4,s5,s6⟩:=C.res j _ hj
  rw[r2] at s1;cases s1
  have hit:a.eval (.tmp t.1)= .pointer (some ⟨b,0,none⟩):=(C.slot t.1 _ hi).trans r1
  have hsa:∀id,Yy al st.nx [] id→al id:=fun id h=>by
   rcases h with h|h
   ·exact h
   ·simp at h;omega
  have run2:∀(u:Value) (w':World),(Instr.next (.pointer (some ⟨b,0,none⟩)) false o1.type).run P w= .ok u w'→∀c v',(u= .tuple (#[Value.bool c]++v'))→Q .normal ((a.put o1.dst u).put o2.dst (.bool c)) w'→(Code.region id #[o1,o2] false).wpIn (FR rd) 0 P Q a w:=by
   intro u w' hu c v' hc hq
   refine wpIn_region ?_
   show wpOpsIn (FR rd) 0 P #[o1,o2] Q [0,1] a w
   rw[wpOpsIn_cons]
   unfold wpOpIn
   have e0:(#[o1,o2]:Array Oper)[0]? =some o1:=rfl
   have e1:(#[o1,o2]:Array Oper)[1]? =some o2:=rfl
   rw[e0]
   simp only[Region.wanted,q3,if_true]
   refine Jdf (by rw[q1];intro c e;cases e) (Ji (u:=u) (w':=w') ?_ ?_)
   ·simp only[execOp,q1,hit]
    exact Ki hu
   ·rw[wpOpsIn_cons]
    unfold wpOpIn
    rw[e1]
    simp only[Region.wanted,q6,if_true]
    refine Jdf (by rw[q4];intro c e;cases e) (Ji (u:= .bool c) (w':=w') ?_ hq)
    have hev:(a.put o1.dst u).eval (.tmp t.2.1)=u:=by
     show(a.put o1.dst u).tmps.getD t.2.1 undef=u
     rw[Jak fun h=>by rw[C.size];exact d1N,if_pos q2]
    simp only[execOp,q4]
    rw[hev,hc]
    have h0:(#[Value.bool c]++v')[0]? =some (.bool c):=by rw[Array.getElem?_append_left (by simp)];rfl
    exact Ki (by simp only[Instr.extract,h0];rfl)
  have weak : ∀ {τ' : Nat → Option SV} {x : SV} {v : SV} {rs' : List (Nat × Res)} {c : Bool}, (∀ t', t' ≠ t.2.1 → t' ≠ t.2.2 → look st.sl t' = τ' t') → ∀ t' v', look (H8 st t c rs').sl t' = some v' → Yx τ' (some t.2.2) (.one (.bool c)) t' = some v' := by
   intro τ' x v rs' c hτ t' v' ht
   unfold H8 at ht
   simp only[look] at ht
   unfold Yx
   split at ht
   ·rename_i e;subst e;rw[if_pos rfl];exact ht
   ·rename_i e
    rw[if_neg (by simpa using e)]
    have hf:∀l:List (Nat×SV),look (l.filter fun p=>p.1 !=t.2.1&&p.1 !=t.2.2) t'=some v'→t'≠t.2.1∧look l t'=some v':=by
     intro l
     induction l with
     |nil=>intro h;cases h
     | cons p l ih =>
      intro h
      rw[List.filter_cons] at h
      split at h
      ·rename_i hp
       simp only[look] at h⊢
       split at h
       ·rename_i e2
        rw[if_pos e2]
        refine⟨?_,h⟩
        subst e2
        simp at hp;exact hp.1
       ·rename_i e2;rw[if_neg e2];exact ih h
      ·rename_i hp
       obtain⟨i1,i2⟩:=ih h
       refine⟨i1, ?_⟩
       simp only[look]
       split
       ·rename_i e2
        subst e2
        simp at hp
        exact absurd (hp i1).symm e
       ·exact i2
    obtain⟨i1,i2⟩:=hf st.sl ht
    rw[←hτ t' i1 (Ne.symm e)]
    exact i2
  rcases Jok (P:=P) (T:=o1.type) r3 s2 s3 with⟨g1,g2⟩|⟨w1,p,u1,u2,gw,g1,g2,g3⟩
  ·refine run2 _ _ g1 false #[] rfl (hK _ _ _ (hend g2) ?_)
   have C1:=C.pure (n:=st.nx) (d:=o1.dst) (v:= .tup [(false,[.bool false])]) (u:= .tuple #[.bool false]) (fun t' h=>by rw[q2] at h;cases h;exact d1N) rfl (fun id hid=>by simp[SV.ids,Js,SC.ids] at hid)
   have C2:=C1.pure (n:=st.nx) (d:=o2.dst) (v:= .one (.bool false)) (u:= .bool false) (fun t' h=>by rw[q5] at h;cases h;exact d2N) rfl (fun id hid=>by simp[SV.ids,Js,SC.ids] at hid)
   refine⟨ρ,M,Yy al st.nx [],fun id h=>hal id (hsa id h),C2.weaken (fun t' v' h=> ?_) (fun id x h=> ?_) fun id=>⟨.inl,fun h=>by
    rcases h with h|h
    ·exact h
    ·simp at h;omega⟩⟩
   ·rw[q5]
    refine weak (x:=Jt) (v:=Jt) (fun t2 n1 n2=> ?_) t' v' h
    unfold Yx
    rw[q2,if_neg (by simpa using Ne.symm n1)]
   ·unfold Kg
    rw[if_neg (by simp)]
    simp only[look]
    rw[if_neg (by simp)]
    exact h
  ·have C0:Jn P N B w0 al (look st.sl) (look st.rs) a w1 ρ M R:=by
    rcases gw with rfl|rfl
    ·exact C
    ·exact C.world (w':=w.drew) rfl ⟨rfl,rfl,rfl,Nat.le_refl _,fun _ _=>rfl,fun _=>Nat.le_succ _⟩
   have hh:w1.heap=w.heap:=by rcases gw with rfl|rfl<;>rfl
   refine run2 _ _ g3 true #[u1,u2] rfl (hK _ _ _ (hstep p g1 g2) ?_)
   have hlt:b<w1.heap.size:=by rw[hh];exact(Array.getElem?_eq_some_iff.1 r3).1
   have C1:=C0.putObj (n:=st.nx) (d:=o1.dst) (x':= .mpi j kT' gk' gv' ks' vs' l' (seen++[p])) (fun t' h=>by rw[q2] at h;cases h;exact d1N) hr rfl (b:=b) (by rw[r1];rfl) (.mapIter (some m) l'.length (seen++[p]).toArray l'.length) ⟨b,m,r1,r2,Vh hlt,r4,r5,r6⟩
    (fun id hid=>by
     have:id=j:=by simpa[Res.ids] using hid
     subst this
     exact(C.resIds id _ hj).1) (v:= .tup [(false,[.bool true]),(false,[.val u1]),(false,[.val u2])]) (u:= .tuple #[.bool true,u1,u2]) rfl (fun id hid=>by simp[SV.ids,Js,SC.ids] at hid)
   have C2:=C1.pure (n:=st.nx) (d:=o2.dst) (v:= .one (.bool true)) (u:= .bool true) (fun t' h=>by rw[q5] at h;cases h;exact d2N) rfl (fun id hid=>by simp[SV.ids,Js,SC.ids] at hid)
   refine⟨ρ,M,Yy al st.nx [],fun id h=>hal id (hsa id h),C2.weaken (fun t' v' h=> ?_) (fun id x h=> ?_) fun id=>⟨.inl,fun h=>by
    rcases h with h|h
    ·exact h
    ·simp at h;omega⟩⟩
   ·rw[q5]
    refine weak (x:=Jt) (v:=Jt) (fun t2 n1 n2=> ?_) t' v' h
    unfold Yx
    rw[q2,if_neg (by simpa using Ne.symm n1)]
   ·unfold Kg
    rw[if_neg (by simp)]
    simp only[look]
    rw[if_neg (by simp)]
    have h':look (Kb st.rs (i,some (.mpi j kT' gk' gv' ks' vs' l' (seen++[p])))) id=some x:=h
    rw[Kl] at h'
    split at h'
    ·rename_i e;subst e;rw[if_pos rfl];exact h'
    ·rename_i e;rw[if_neg (Ne.symm e)];exact h'
theorem Hn [Dr] (hm:P.follows .mixedOrders=true) (hΓ:Vb P Γ):∀(c:Code) {st:St} {k:Ex→St→Prop} {Q:Exit→Act→World→Prop},U9 N c=true→wpS P Γ ann c st k→
  (∀e st' a w,k e st'→U3 P N B w0 R st' a w→Q e.toExit a w)→∀a w,U3 P N B w0 R st a w→c.wpIn (FR rd) 0 P Q a w
 | .skip,st,k,Q,_,h,hK,a,w,hs=>wpIn_skip (hK .normal st a w h hs)
 | .region id ops dr, st, k, Q, hd, h, hK, a, w, hs => by
  simp only[wpS] at h
  split at h
  ·rename_i t ht
   refine Joj ht (fun o ho t ht=> ?_) h (fun st' a' w' h' hs'=>hK .normal st' a' w' h' hs') id a w hs
   have:=List.all_eq_true.1 hd o ho
   rw[ht] at this
   simpa[Nat.blt_eq] using this
  split at h
  ·rename_i ps st' hr
   rw[Lg] at h
   refine Jn5 hm hΓ hr h.1 hs (fun o ho t ht=> ?_) rfl (fun a' w' hs'=>hK .normal st' a' w' h.2 hs') id
   have:=List.all_eq_true.1 hd o ho
   rw[ht] at this
   simpa[Nat.blt_eq] using this
  ·exact h.elim
 | .seq x y,st,k,Q,hd,h,hK,a,w,hs=>by
  simp only[U9,Bool.and_eq_true] at hd
  refine wpIn_seq (Hn hm hΓ x hd.1 h (fun e st' a' w' he hs'=> ?_) a w hs)
  cases e with
  |normal=>exact Hn hm hΓ y hd.2 he hK a' w' hs'
  |exit i=>exact hK (.exit i) st' a' w' he hs'
  |ret=>exact hK .ret st' a' w' he hs'
 | .cond c x y, st, k, Q, hd, h, hK, a, w, hs => by
  simp only[U9,Bool.and_eq_true] at hd
  simp only[wpS] at h
  split at h
  ·rename_i t
   split at h
   ·rename_i b hb
    obtain⟨ρ,M,al,hal,C⟩:=id hs
    have e:a.eval (.tmp t)= .bool b:=C.slot t _ hb
    exact wpIn_cond_split e (fun hb=>Hn hm hΓ x hd.1 (h.1 hb) hK a w hs) (fun hb=>Hn hm hΓ y hd.2 (h.2 hb) hK a w hs)
   ·exact h.elim
  ·exact h.elim
 | .block id c, st, k, Q, hd, h, hK, a, w, hs => by
  by_cases hl:∃c',c= .loop c'
  ·obtain⟨c',rfl⟩:=hl
   exact Jv1 (fun h hK a w hs=>Hn hm hΓ c' hd h hK a w hs) h hK a w hs
  ·have h':wpS P Γ ann c st (Ex.catch id k):=by
    cases c<;>first|exact h|exact absurd ⟨_,rfl⟩ hl
   refine wpIn_block (Hn hm hΓ c hd h' (fun e st' a' w' he hs'=> ?_) a w hs)
   cases e with
   |normal=>exact hK .normal st' a' w' he hs'
   |exit i=>
    simp only[Ex.catch] at he
    simp only[Ex.toExit,Exit.inBlock]
    split at he
    ·rename_i e;rw[if_pos e];exact hK .normal st' a' w' he hs'
    ·rename_i e;rw[if_neg e];exact hK (.exit i) st' a' w' he hs'
   |ret=>exact hK .ret st' a' w' he hs'
 | .exit id,st,k,Q,_,h,hK,a,w,hs=>wpIn_exit (hK (.exit id) st a w h hs)
 | .ret,st,k,Q,_,h,hK,a,w,hs=>wpIn_ret (hK .ret st a w h hs)
 | .scope c,st,k,Q,hd,h,hK,a,w,hs=>by
  refine Yp (Hn hm hΓ c hd h (fun e st' a' w' he hs'=> ?_) a w hs)
  cases e<;>exact hK _ st' a' w' he hs'
 | .label _,st,k,Q,_,h,hK,a,w,hs=>wpIn_label (hK .normal st a w h hs)
 | .loop _,_,_,_,_,h,_,_,_,_=>h.elim
 | .rangeFunc ..,_,_,_,_,h,_,_,_,_=>h.elim
 | .goto _,_,_,_,_,h,_,_,_,_=>h.elim
 | .refuse _,_,_,_,_,h,_,_,_,_=>h.elim
termination_by c=>SizeOf.sizeOf c
end
end Go.Sx
namespace Go.Sx
open Go.RowKit
section
variable {P:Program} {Γ:Gam} {N B:Nat} {w0:U7} {R:Nat→Prop} {rd:Option Nat}
theorem Jl7 {l:List Oper} {dr:Bool} {t:Tmp×Tmp×Tmp} (h:Je1 l dr=some t):dr=false∧∃o1 o2,l=[o1,o2]∧o1.op= .next (.tmp t.1) true∧o1.dst=some t.2.1∧o1.guard=none∧o2.op= .extract (.tmp t.2.1) 0∧o2.dst=some t.2.2∧o2.guard=none:=by
 unfold Je1 at h
 split at h
 ·rename_i o1 o2
  split at h
  ·rename_i it d1 d1' d2 h1 h2 h3 h4 h5 h6
   split at h
   ·rename_i e
    subst e
    cases h
    exact⟨rfl,o1,o2,rfl,h1,h2,h3,h4,h5,h6⟩
   ·cases h
  ·cases h
 ·cases h
theorem Fw {l:List (Nat×SV)} {a b t':Nat} {v:SV} (h:look (l.filter fun p=>p.1 !=a&&p.1 !=b) t'=some v):t'≠a∧t'≠b∧look l t'=some v:=by
 induction l with
 |nil=>cases h
 | cons p l ih =>
  rw[List.filter_cons] at h
  split at h
  ·rename_i hp
   simp only[look] at h⊢
   split at h
   ·rename_i e2
    rw[if_pos e2]
    subst e2
    simp at hp
    exact⟨hp.1,hp.2,h⟩
   ·rename_i e2;rw[if_neg e2];exact ih h
  ·rename_i hp
   obtain⟨i1,i2,i3⟩:=ih h
   refine⟨i1,i2, ?_⟩
   simp only[look]
   split
   ·rename_i e2
    subst e2
    simp at hp
    exact absurd (hp i1) i2
   ·exact i3
theorem Jsg [Dr] {ops:Array Oper} {dr:Bool} {t:Tmp×Tmp×Tmp} (hn:Je1 ops.toList dr=some t) (hd:∀o∈ops.toList,∀t,o.dst=some t→t<N) {st:St} {k:Ex→St→Prop} {Q:Exit→Act→World→Prop} (h:Jit st t k)
  (hK:∀st' a w,k .normal st'→U3 P N B w0 R st' a w→Q .normal a w) (id:Nat) (a:Act) (w:World) (hs:U3 P N B w0 R st a w):(Code.region id ops dr).wpIn (FR rd) 0 P Q a w:=by
 obtain⟨rfl,o1,o2,hl,q1,q2,q3,q4,q5,q6⟩:=Jl7 hn
 have hops:ops= #[o1,o2]:=by apply Array.ext';simpa using hl
 subst hops
 have d1N:t.2.1<N:=hd o1 (by simp) _ q2
 have d2N:t.2.2<N:=hd o2 (by simp) _ q5
 obtain⟨ρ,M,al,hal,C⟩:=hs
 unfold Jit at h
 split at h
 case h_2=>exact h.elim
 rename_i i hi
 split at h
 case h_2=>exact h.elim
 rename_i s pos hr
 obtain⟨hstep,hend⟩:=h
 obtain⟨b,r1,r3,r4,r5,r6⟩:=C.res i _ hr
 have hit:a.eval (.tmp t.1)= .pointer (some ⟨b,0,none⟩):=(C.slot t.1 _ hi).trans r1
 have hsa:∀id,Yy al st.nx [] id→al id:=fun id h=>by
  rcases h with h|h
  ·exact h
  ·simp at h;omega
 have run2:∀(u:Value) (w':World),(Instr.next (.pointer (some ⟨b,0,none⟩)) true o1.type).run P w= .ok u w'→∀c v',(u= .tuple (#[Value.bool c]++v'))→Q .normal ((a.put o1.dst u).put o2.dst (.bool c)) w'→(Code.region id #[o1,o2] false).wpIn (FR rd) 0 P Q a w:=by
  intro u w' hu c v' hc hq
  refine wpIn_region ?_
  show wpOpsIn (FR rd) 0 P #[o1,o2] Q [0,1] a w
  rw[wpOpsIn_cons]
  unfold wpOpIn
  have e0:(#[o1,o2]:Array Oper)[0]? =some o1:=rfl
  have e1:(#[o1,o2]:Array Oper)[1]? =some o2:=rfl
  rw[e0]
  simp only[Region.wanted,q3,if_true]
  refine Jdf (by rw[q1];intro c e;cases e) (Ji (u:=u) (w':=w') ?_ ?_)
  ·simp only[execOp,q1,hit]
   exact Ki hu
  ·rw[wpOpsIn_cons]
   unfold wpOpIn
   rw[e1]
   simp only[Region.wanted,q6,if_true]
   refine Jdf (by rw[q4];intro c e;cases e) (Ji (u:= .bool c) (w':=w') ?_ hq)
   have hev:(a.put o1.dst u).eval (.tmp t.2.1)=u:=by
    show(a.put o1.dst u).tmps.getD t.2.1 undef=u
    rw[Jak fun h=>by rw[C.size];exact d1N,if_pos q2]
   simp only[execOp,q4]
   rw[hev,hc]
   have h0:(#[Value.bool c]++v')[0]? =some (.bool c):=by rw[Array.getElem?_append_left (by simp)];rfl
   exact Ki (by simp only[Instr.extract,h0];rfl)
 by_cases hlt:pos<s.size
 ·have g3:(Instr.next (.pointer (some ⟨b,0,none⟩)) true o1.type).run P w= .ok (.tuple #[.bool true, .int .i64 pos, .int .i32 (Vj s pos)]) (J7 w b (.stringIter s (pos+Jeq s pos))):=by
   simp only[Instr.next,getObj,setObj,Sem.run_bind,Sem.run,r3,Result.andThen,hlt,if_true]
   simp[goInt,J7,Vj,Jeq]
  refine run2 _ _ g3 true #[.int .i64 pos, .int .i32 (Vj s pos)] rfl (hK _ _ _ (hstep hlt) ?_)
  have hb:b<w.heap.size:=(Array.getElem?_eq_some_iff.1 r3).1
  have C1:=C.putObj (n:=st.nx) (d:=o1.dst) (x':= .siter s (pos+Jeq s pos)) (fun t' h=>by rw[q2] at h;cases h;exact d1N) hr rfl (b:=b) (by rw[r1];rfl) (.stringIter s (pos+Jeq s pos)) ⟨b,r1,Vh hb,r4,r5,r6⟩
   (fun id hid=>by simp[Res.ids] at hid) (v:= .tup [(false,[.bool true]),(false,[.int .i64 pos]),(false,[.int .i32 (Vj s pos)])]) (u:= .tuple #[.bool true, .int .i64 pos, .int .i32 (Vj s pos)]) rfl (fun id hid=>by simp[SV.ids,Js,SC.ids] at hid)
  have C2:=C1.pure (n:=st.nx) (d:=o2.dst) (v:= .one (.bool true)) (u:= .bool true) (fun t' h=>by rw[q5] at h;cases h;exact d2N) rfl (fun id hid=>by simp[SV.ids,Js,SC.ids] at hid)
  refine⟨ρ,M,Yy al st.nx [],fun id h=>hal id (hsa id h),C2.weaken (fun t' v' h=> ?_) (fun id x h=> ?_) fun id=>⟨.inl,fun h=>by
   rcases h with h|h
   ·exact h
   ·simp at h;omega⟩⟩
  ·unfold Jol at h
   simp only[look] at h
   unfold Yx
   rw[q5,q2]
   split at h
   ·rename_i e;subst e;rw[if_pos rfl];exact h
   ·rename_i e
    rw[if_neg (by simpa using e)]
    split at h
    ·rename_i e2;subst e2;rw[if_pos rfl];exact h
    ·rename_i e2
     rw[if_neg (by simpa using e2)]
     exact(Fw h).2.2
  ·unfold Kg
   rw[if_neg (by simp)]
   simp only[look]
   rw[if_neg (by simp)]
   have h':look (Kb st.rs (i,some (.siter s (pos+Jeq s pos)))) id=some x:=h
   rw[Kl] at h'
   split at h'
   ·rename_i e;subst e;rw[if_pos rfl];exact h'
   ·rename_i e;rw[if_neg (Ne.symm e)];exact h'
 ·have g1:(Instr.next (.pointer (some ⟨b,0,none⟩)) true o1.type).run P w= .ok (.tuple #[.bool false]) w:=by
   simp only[Instr.next,getObj,setObj,Sem.run_bind,Sem.run,r3,Result.andThen,hlt,if_false]
   simp
  refine run2 _ _ g1 false #[] rfl (hK _ _ _ (hend hlt) ?_)
  have C1:=C.pure (n:=st.nx) (d:=o1.dst) (v:= .tup [(false,[.bool false])]) (u:= .tuple #[.bool false]) (fun t' h=>by rw[q2] at h;cases h;exact d1N) rfl (fun id hid=>by simp[SV.ids,Js,SC.ids] at hid)
  have C2:=C1.pure (n:=st.nx) (d:=o2.dst) (v:= .one (.bool false)) (u:= .bool false) (fun t' h=>by rw[q5] at h;cases h;exact d2N) rfl (fun id hid=>by simp[SV.ids,Js,SC.ids] at hid)
  refine⟨ρ,M,Yy al st.nx [],fun id h=>hal id (hsa id h),C2.weaken (fun t' v' h=> ?_) (fun id x h=> ?_) fun id=>⟨.inl,fun h=>by
   rcases h with h|h
   ·exact h
   ·simp at h;omega⟩⟩
  ·unfold H8 at h
   simp only[look] at h
   unfold Yx
   rw[q5,q2]
   split at h
   ·rename_i e;subst e;rw[if_pos rfl];exact h
   ·rename_i e
    rw[if_neg (by simpa using e)]
    obtain⟨i1,i2,i3⟩:=Fw h
    rw[if_neg (by simpa using Ne.symm i1)]
    exact i3
  ·unfold Kg
   rw[if_neg (by simp)]
   simp only[look]
   rw[if_neg (by simp)]
   exact h
end
end Go.Sx
namespace Go.Sx
open Go.RowKit
theorem Zq [Dr] {P:Program} {M R:Nat→Prop} {w:World}:∀{ks:List AK} {x:ATup ks} {vs:List Value},Vp P M R w ks x vs→vs.length=ks.length
 |[],_,_,h=>by rw[show _=[] from h];rfl
 |_::_,_,_,⟨v,vs',e,_,h⟩=>by rw[e,List.length_cons,List.length_cons,Zq h]
def Ju3 [Dr] (P:Program) (M R:Nat→Prop) (w:World) (n:Nat) (cs:List SV) (rs:List Res) (vs:List Value) (vals:List Value):Prop:=
 vals.length=rs.length∧(∀u∈vals,u.oneCell'=true)∧(∀v∈cs,∀id∈v.ids,n≤id∧id<n+rs.length)∧(∀y∈rs,y.owning=false∧y.ids=[])∧
 ∀ρ:Env,(∀i u,vals[i]? =some u→ρ (n+i)=u)→cs.map (SV.den ρ)=vs∧∀i y B,rs[i]? =some y→Va P ρ M R B w (n+i) y
theorem Jme [Dr] {P:Program} {M R:Nat→Prop} {w:World} (n:Nat):∀{k:AK} {x:k.T} {v:Value},Jjm P M R w k x v→∃vals,Ju3 P M R w n [(K0 k x n).1] (K0 k x n).2 [v] vals
 | .val g s, x, v, h => by
  obtain⟨cv,rfl,hr⟩:=h
  have h2:=Zm hr
  obtain⟨i1,i2,i3⟩:=Y3 (n:=n) h2
  refine⟨Jl (enc s x) cv,i1,fun u hu=> ?_,fun v hv id hid=> ?_,fun y hy=> ?_,fun ρ hρ=>⟨?_,fun i y B hy=> ?_⟩⟩
  ·obtain⟨i,hi⟩:=List.getElem?_of_mem hu
   have hlt:i<(Jo (enc s x) n).2.length:=by rw[←i1];exact(List.getElem?_eq_some_iff.1 hi).1
   obtain⟨T,s',xs,v,_,e2,_,e4⟩:=i3 i _ (List.getElem?_eq_getElem hlt)
   rw[hi] at e2;cases e2;exact e4
  ·have:v= .v g (Jo (enc s x) n).1:=by simpa[K0] using hv
   subst this
   exact Vm h2 id hid
  ·obtain⟨i,hi⟩:=List.getElem?_of_mem hy
   obtain⟨T,s',xs,v,rfl,_⟩:=i3 i y hi
   exact⟨rfl,rfl⟩
  ·have:=i2 ρ hρ
   simp only[K0,List.map_cons,List.map_nil,SV.den]
   rw[←this]
  ·obtain⟨T,s',xs,v,rfl,e2,e3,_⟩:=i3 i y hy
   unfold Va
   rw[hρ i v e2]
   exact e3
 | .ref T s, x, v, h => by
  have h':=h
  obtain⟨b,cs,rfl,_⟩:=h'
  refine⟨[.pointer (some ⟨b,0,none⟩)],rfl,fun u hu=>by simp at hu;subst hu;rfl,fun v hv id hid=> ?_,fun y hy=> ?_,fun ρ hρ=>⟨?_,fun i y B hy=> ?_⟩⟩
  ·have:v= .one (.ptr n 0):=by simpa[K0] using hv
   subst this
   simp[SV.ids,Js,SC.ids] at hid
   subst hid
   exact⟨Nat.le_refl _,by simp[K0]⟩
  ·have:y= .rbox T s x:=by simpa[K0] using hy
   subst this
   exact⟨rfl,rfl⟩
  ·have e:=hρ 0 _ rfl
   simp only[Nat.add_zero] at e
   simp[K0,SV.den,valOf,SC.den,e]
  ·have hi:i=0:=by have:=(List.getElem?_eq_some_iff.1 hy).1;simp[K0] at this;omega
   subst hi
   have:y= .rbox T s x:=by simpa[K0] using hy.symm
   subst this
   unfold Va
   rw[hρ 0 _ rfl]
   exact h
 | .fn ps r, x, v, h => by
  have h':=h
  obtain⟨f,first,caps,rfl,_⟩:=h'
  refine⟨[.func (.func f) first caps],rfl,fun u hu=>by simp at hu;subst hu;rfl,fun v hv id hid=> ?_,fun y hy=> ?_,fun ρ hρ=>⟨?_,fun i y B hy=> ?_⟩⟩
  ·have:v= .one (.fv n):=by simpa[K0] using hv
   subst this
   simp[SV.ids,Js,SC.ids] at hid
   subst hid
   exact⟨Nat.le_refl _,by simp[K0]⟩
  ·have:y= .afn ps r x.1 x.2:=by simpa[K0] using hy
   subst this
   exact⟨rfl,rfl⟩
  ·have e:=hρ 0 _ rfl
   simp only[Nat.add_zero] at e
   simp[K0,SV.den,valOf,SC.den,e]
  ·have hi:i=0:=by have:=(List.getElem?_eq_some_iff.1 hy).1;simp[K0] at this;omega
   subst hi
   have:y= .afn ps r x.1 x.2:=by simpa[K0] using hy.symm
   subst this
   unfold Va
   rw[hρ 0 _ rfl]
   exact h
theorem Lv [Dr] {P:Program} {M R:Nat→Prop} {w:World}:∀{ks:List AK} {x:ATup ks} {vs:List Value} (n:Nat),Vp P M R w ks x vs→∃vals,Ju3 P M R w n (Ku ks x n).1 (Ku ks x n).2 vs vals
 |[],_,vs,n,h=>by
  have:vs=[]:=h
  subst this
  exact⟨[],rfl,fun u hu=>by simp at hu,fun v hv=>by simp[Ku] at hv,fun y hy=>by simp[Ku] at hy,fun ρ _=>⟨rfl,fun i y B hy=>by simp[Ku] at hy⟩⟩
 | k :: r, x, vs, n, h => by
  obtain⟨v,vs',rfl,h1,h2⟩:=h
  obtain⟨va,a1,a2,a3,a4,a5⟩:=Jme n h1
  obtain⟨vb,b1,b2,b3,b4,b5⟩:=Lv (n+(K0 k x.1 n).2.length) h2
  refine⟨va++vb,by simp[Ku,a1,b1],fun u hu=>(List.mem_append.1 hu).elim (a2 u) (b2 u),fun v hv id hid=> ?_,fun y hy=>(List.mem_append.1 hy).elim (a4 y) (b4 y),fun ρ hρ=> ?_⟩
  ·simp only[Ku,List.length_append]
   rcases List.mem_cons.1 hv with rfl|hv
   ·have:=a3 _ (by simp) id hid;omega
   ·have:=b3 v hv id hid;omega
  ·have ha:=a5 ρ fun i u hu=>hρ i u (by rw[List.getElem?_append_left (List.getElem?_eq_some_iff.1 hu).1];exact hu)
   have hb:=b5 ρ fun i u hu=>by
    have:=hρ (va.length+i) u (by rw[List.getElem?_append_right (Nat.le_add_right _ _)];simpa using hu)
    rw[a1] at this
    rwa[Nat.add_assoc]
   refine⟨?_,fun i y B hy=> ?_⟩
   ·have e1:=ha.1
    simp only[List.map_cons,List.map_nil,List.cons.injEq,and_true] at e1
    simp only[Ku,List.map_cons,e1,hb.1]
   ·simp only[Ku] at hy
    by_cases hlt:i<(K0 k x.1 n).2.length
    ·rw[List.getElem?_append_left hlt] at hy
     exact ha.2 i y B hy
    ·rw[List.getElem?_append_right (by omega)] at hy
     have:=hb.2 _ y B hy
     rwa[show n+(K0 k x.1 n).2.length+(i-(K0 k x.1 n).2.length)=n+i by omega] at this
theorem Us {α:Type} {t:Nat}:∀{l:List α} {n:Nat},look (Jis l n) t=if n≤t then l[t-n]? else none
 |[],n=>by simp[Jis,look]
 | x :: r, n => by
  simp only[Jis,look]
  by_cases e:n=t
  ·subst e;simp
  ·rw[if_neg e,Us]
   by_cases h:n+1≤t
   ·rw[if_pos h,if_pos (by omega),show t-n=(t-(n+1))+1 by omega]
    simp
   ·rw[if_neg h,if_neg (by omega)]
theorem Jkm [Dr] (mk:Bool) {P:Program} {c:Con} {x:ATup c.args} {M R:Nat→Prop} {w:World} {vs:List Value} {N:Nat} (h:Vp P M R w c.args x vs) (hM:∀b,M b∨R b→b<w.heap.size) (hN:c.args.length≤N) (hgood:Jtn P w):
  U3 P N w.heap.size ⟨w,M,fun _=>none,mk⟩ R (Jbz c x) {tmps:=vs.toArray++Array.replicate (N-vs.toArray.size) undef,defers:=[]} w:=by
 obtain⟨vals,a1,a2,a3,a4,a5⟩:=Lv 0 h
 let ρ:Env:=fun id=>vals.getD id undef
 have hρ:∀i u,vals[i]? =some u→ρ (0+i)=u:=fun i u hu=>by
  show vals.getD (0+i) undef=u
  rw[Nat.zero_add,List.getD_eq_getElem?_getD,hu];rfl
 obtain⟨e1,e2⟩:=a5 ρ hρ
 have hlen:=Zq h
 have hrs:∀r y,look (Jbz c x).rs r=some y→(Ku c.args x 0).2[r]? =some y:=fun r y hy=>by
  simp only[Jbz] at hy
  rw[Us,if_pos (Nat.zero_le _)] at hy
  exact hy
 refine⟨ρ,M,fun id=>id<(Ku c.args x 0).2.length,fun id h=>h,⟨?_,⟨fun d hd=>by simp at hd, .nil⟩,fun _=>rfl,fun _ _=>rfl,fun _ _=>rfl,Below.refl _ _,Nat.le_refl _, ?_, ?_, ?_, ?_, ?_,hM, ?_,fun b=>⟨fun h=> .inl h,fun h=>h⟩,hgood⟩⟩
 ·simp;omega
 ·intro t sv ht
  simp only[Jbz] at ht
  rw[Us,if_pos (Nat.zero_le _),Nat.sub_zero] at ht
  have:vs[t]? =some (sv.den ρ):=by rw[←e1,List.getElem?_map,ht];rfl
  have hlt:t<vs.length:=(List.getElem?_eq_some_iff.1 this).1
  simp[Array.getD_eq_getD_getElem?,Array.getElem?_append,hlt]
  rw[List.getElem?_eq_getElem hlt] at this
  simpa using this
 ·intro t sv ht id hid
  simp only[Jbz] at ht
  rw[Us,if_pos (Nat.zero_le _)] at ht
  have:=a3 sv (List.mem_of_getElem? ht) id hid
  omega
 ·intro r y hy
  have:=e2 r y w.heap.size (hrs r y hy)
  rw[Nat.zero_add] at this
  exact this.a
 ·intro r y hy
  have h1:=hrs r y hy
  exact⟨(List.getElem?_eq_some_iff.1 h1).1,fun id hid=>by rw[(a4 y (List.mem_of_getElem? h1)).2] at hid;simp at hid⟩
 ·intro r r' y y' _ hy _ ho
  rw[(a4 y (List.mem_of_getElem? (hrs r y hy))).1] at ho;cases ho
 ·intro i hi
  have hlt:i<vals.length:=by rw[a1];exact hi
  have:=hρ i _ (List.getElem?_eq_getElem hlt)
  rw[Nat.zero_add] at this
  rw[this]
  exact a2 _ (List.getElem_mem hlt)
section
variable {P:Program} {N B:Nat} {w0:U7} {al:Nat→Prop} {a:Act} {w:World} {ρ:Env} {M R:Nat→Prop} {s:St}
def Jdu (tmps:Array Value):ResultVar→Sem Value
 | .tmp t=>pure (tmps.getD t undef)
 | .cell b t=>do loadVar t (←asAddr (tmps.getD b undef))
theorem Jds (fn:Func) (tmps:Array Value):results fn tmps=(fn.results.mapM (Jdu tmps)>>=fun vs=>pure (if h:vs.size=1 then vs[0] else .tuple vs)):=by
 unfold results
 congr 1
theorem Dw [Dr] (C:Jn P N B w0 al (look s.sl) (look s.rs) a w ρ M R):∀{l:List ResultVar} {vs:List SV},Ve P s l=some vs→
  (l.mapM (Jdu a.tmps)).run P w= .ok (vs.map (SV.den ρ)) w
 |[],vs,h=>by cases h;rfl
 | .tmp t :: r, vs, h => by
  simp only[Ve] at h
  split at h
  ·rename_i v l hv hl
   cases h
   have:=Dw C hl
   rw[List.mapM_cons,Sem.run_bind]
   simp only[Jdu,Sem.run_pure,Result.andThen_ok,Sem.run_bind,this,C.slot t v hv,List.map_cons]
  ·cases h
 | .cell t T :: r, vs, h => by
  simp only[Ve] at h
  split at h
  ·rename_i i l hv hl
   split at h
   ·rename_i U cs hr
    split at h
    ·rename_i hc
     obtain⟨e,hm⟩:=hc
     subst e
     split at h
     ·rename_i v hsh
      cases h
      have:=Dw C hl
      obtain⟨ad,h1,h2⟩:∃ad,(loadVar U ad).run P w= .ok (v.den ρ) w∧(SC.ptr i 0).den ρ= .pointer (some ad):=by
       obtain⟨h1,h2,_⟩:=Je7 C (off:=0) hr hm (by omega) (v:=v) (by simpa using hsh)
       exact⟨_,h1,h2⟩
      have hslot:a.tmps.getD t undef= .pointer (some ad):=(C.slot t _ hv).trans h2
      have hA:(asAddr (a.tmps.getD t undef)).run P w= .ok ad w:=by rw[hslot];rfl
      have hv1:(Jdu a.tmps (.cell t U)).run P w= .ok (v.den ρ) w:=by
       simp only[Jdu,Sem.run_bind,hA,Result.andThen_ok,h1]
      rw[List.mapM_cons,Sem.run_bind,hv1]
      simp only[Sem.run_bind,Sem.run_pure,Result.andThen_ok,this,List.map_cons]
     ·cases h
    ·cases h
   ·cases h
  ·cases h
theorem Yz [Dr] (C:Jn P N B w0 al (look s.sl) (look s.rs) a w ρ M R) {fn:Func} {vs:List SV} (h:Ve P s fn.results.toList=some vs):(results fn a.tmps).run P w= .ok (Jrh (vs.map (SV.den ρ))) w:=by
 have h1:=Dw C h
 rw[Jds]
 have h2:(fn.results.mapM (Jdu a.tmps)).run P w= .ok (vs.map (SV.den ρ)).toArray w:=by
  rw[Array.mapM_eq_mapM_toList]
  simp only[Sem.run_map,h1]
  rfl
 rw[Sem.run_bind,h2]
 simp only[Result.andThen_ok,Sem.run_pure]
 congr 1
 match vs with
 |[]=>rfl
 |[v]=>rfl
 |v::u::r=>rfl
theorem Ja8 {rs:Nat→Option Res} {owns:List Bool} {vs:List SV} {i:Nat} {y:Option Res} (h:look (Vi rs owns vs) i=some y):∃T s xs,rs i=some (.own T s xs)∧y=some (.imm T s xs):=by
 obtain⟨v,_,hy⟩:=List.mem_flatMap.1 (Jq h)
 cases v with
 |v g cs=>exact Vo hy
 |tup l=>simp at hy
theorem Fp {p:Bool×Sch} {b:Bool} {x:p.2.T} {v:Value} {M:Nat→Prop} {w:World} {B:Nat} (hb:b=false) (h:∃cs,v=valOf p.1 cs∧Rep M w p.2 x cs):Jcr M w B p b x v:=by
 subst hb
 exact h
theorem Da [Dr] (C : Jn P N B w0 al (look s.sl) (look s.rs) a w ρ M R) (upd : List (Nat × Option Res)) (hupd : ∀ i y, look upd i = some y → ∃ T s' xs, look s.rs i = some (.own T s' xs) ∧ y = some (.imm T s' xs)) :
  ∀{ps:List (Bool×Sch)} {ow:List Bool} {vs:List SV} {y:Tup ps},Xr (look s.rs) ps vs=some y→Jgy (look s.rs) upd ps ow vs=true→
   (∀v∈H7 ow vs,∀g cs i T s' xs,v= .v g cs→SC.sl i∈cs→look s.rs i=some (.own T s' xs)→(look upd i).isSome=true)→
   X8 (fun b=>M b∨∃i y T s' xs,look upd i=some y∧look s.rs i=some (.own T s' xs)∧(ρ i).ownBlock=some b) w B ps ow y (vs.map (SV.den ρ))
 |[],ow,[],y,_,_,_=>rfl
 |[],_,_::_,_,h,_,_=>by simp[Xr] at h
 |_::_,_,[],_,h,_,_=>by simp[Xr] at h
 | p :: r, ow, v :: vs, y, h, ho, hf => by
  cases v with
  |tup _=>simp[Xr] at h
  | v g cs =>
   simp only[Xr] at h
   split at h
   ·rename_i e;subst e
    split at h
    ·rename_i x z h1 h2
     cases h
     have plain:(∀i T s' xs,SC.sl i∈cs→look s.rs i=some (.own T s' xs)→(look upd i).isSome=true)→
       ∃cv,(SV.v p.1 cs).den ρ=valOf p.1 cv∧Rep (fun b=>M b∨∃i y T s' xs,look upd i=some y∧look s.rs i=some (.own T s' xs)∧(ρ i).ownBlock=some b) w p.2 x cv:=by
      intro hfz
      refine⟨cs.map (SC.den ρ),rfl,Xk (P:=P) (R:=R) (B:=B) (M:=M) (fun b hb=> .inl hb) h1 (fun i y hy=>C.res i y hy) fun i T s' xs g hi hr hg=> ?_⟩
      obtain⟨y,hy⟩:=Option.isSome_iff_exists.1 (hfz i T s' xs hi hr)
      exact .inr ⟨i,y,T,s',xs,hy,hr,hg⟩
     cases ow with
     | nil =>
      refine⟨_,_,rfl,Fp rfl (plain fun i T s' xs hi hr=>hf (.v p.1 cs) (by simp[H7]) p.1 cs i T s' xs rfl hi hr),Da C upd hupd h2 (ow:=[]) (by unfold Jgy;cases r<;>rfl) fun v hv=>hf v (by
       cases vs with
       |nil=>simp[H7] at hv
       |cons u us=>simp only[H7] at hv⊢;exact List.mem_cons_of_mem _ hv)⟩
     | cons b ow =>
      simp only[Jgy,Bool.and_eq_true] at ho
      have htail:X8 (fun b=>M b∨∃i y T s' xs,look upd i=some y∧look s.rs i=some (.own T s' xs)∧(ρ i).ownBlock=some b) w B r ow z (vs.map (SV.den ρ)):=
       Da C upd hupd h2 ho.2 fun v hv=>hf v (by
        simp only[H7]
        split
        ·exact hv
        ·exact List.mem_cons_of_mem _ hv)
      refine⟨_,_,rfl, ?_,htail⟩
      cases b with
      |false=>exact Fp rfl (plain fun i T s' xs hi hr=>hf (.v p.1 cs) (by simp[H7]) p.1 cs i T s' xs rfl hi hr)
      | true =>
       have ho1:=ho.1
       simp only[if_true] at ho1
       obtain⟨g,sch⟩:=p
       unfold Jtx at ho1
       split at ho1
       ·rename_i T s0 i hp hv
        cases hp;cases hv
        split at ho1
        ·rename_i T' s1 xs hr
         simp only[Bool.and_eq_true,decide_eq_true_eq,Option.isNone_iff_eq_none] at ho1
         obtain⟨e,hno⟩:=ho1
         subst e
         have h1':Hg s0 (look s.rs i)=some x:=h1
         rw[hr] at h1'
         simp only[Hg] at h1'
         split at h1'
         ·rename_i e
          subst e
          have hx:xs=x:=by simpa[Zo] using h1'
          subst hx
          obtain⟨flat,f1,f2,f3⟩:=C.res i _ hr
          refine⟨flat,f1.imp fun _ _ h=>h.keep fun b hb=>⟨.inl hb,rfl⟩,f2,fun g hg=> ?_⟩
          rintro(hm|⟨i',y,T,s',xs',u1,u2,u3⟩)
          ·exact(f3 g hg).1 hm
          ·have hne:i≠i':=by rintro rfl;rw[hno] at u1;cases u1
           exact C.apart i i' _ _ hne hr u2 rfl rfl g (Jh hg) (Jh u3)
         ·cases h1'
        ·cases ho1
       ·rename_i T s0 hp hv
        cases hp;cases hv
        have h1':x=[]:=by
         have:some []=some x:=h1
         exact(Option.some.inj this).symm
        subst h1'
        exact⟨[],rfl,⟨by simp, .inl ⟨rfl,rfl⟩⟩,fun g hg=>by cases hg⟩
       ·cases ho1
    ·cases h
   ·cases h
theorem Jah:∀{ps:List (Bool×Sch)} {x y:Tup ps},Kq (Jlu ps x y)→x=y
 |[],_,_,_=>rfl
 |_::r,x,y,h=>by
  simp only[Jlu,Y8] at h
  exact Prod.ext h.1 (Jah h.2)
theorem Jfg {l:List Prop} {q:Prop} (h:Jt6 l q) (hl:Kq l):q:=by
 induction l with
 |nil=>exact h
 |cons p r ih=>
  rw[Y8] at hl
  exact ih (h hl.1) hl.2
theorem Ke [Dr] {P:Program} {Γ:Gam} {f:FuncId} {fn:Func} {c:Con} (hm:P.follows .mixedOrders=true) (hΓ:Vb P Γ) (hf:P.funcs[f]? =some fn) (hs:Dq fn c=true)
  (ann:ATup c.args→Nat→Option Ann) (h:∀x:ATup c.args,wpF P Γ (ann x) fn c x):Ok P f c:=by
 unfold Dq at hs
 cases hb:fn.body with
 |none=>rw[hb] at hs;cases hs
 | some code =>
  rw[hb] at hs
  simp only[Bool.and_eq_true,Bool.not_eq_true',Nat.ble_eq] at hs
  obtain⟨⟨⟨⟨hd,hN⟩,hname⟩,hsn⟩,hpn⟩:=hs
  refine⟨⟨fn,hf,by rw[hb];rfl,hname⟩,fun z hz=>(by rw[hz] at hsn;cases hsn),fun F hF=>(by rw[hF] at hpn;cases hpn),fun _ x M R w vs hM hgood hpre hargs=> ?_⟩
  have hx:=h x
  unfold wpF at hx
  rw[hb] at hx
  have hw:=Jfg hx hpre
  refine Yo.1 (callsIn_of_wp (F:=FR none) (n:=0) hf hb trivial (Hn (rd:=none) (N:=fn.ntmps) (B:=w.heap.size) (w0:=⟨w,M,fun _=>none,false⟩) (R:=R) hm hΓ code hd hw (fun e st' a' w' he hs'=> ?_) _ w (Jkm false hargs hM hN hgood)))
  have key : Jx3 P fn c x st' → a'.defers = [] ∧ ∃ v, (results fn a'.tmps).run P w' = .ok v w' ∧ Jjk M w c.ress c.owns (c.spec x) (.returned v) w' := by
   intro hr
   obtain⟨ρ,M',al,_,C⟩:=hs'
   unfold Jx3 at hr
   split at hr
   ·rename_i rv hrv
    split at hr
    ·rename_i y hy
     split at hr
     ·rename_i ho
      have e:=Jah hr
      subst e
      refine⟨C.nomark rfl,_,Yz C hrv, ?_⟩
      have hres:=Da C (Vi (look st'.rs) c.owns rv) (fun i y h=>Ja8 h) hy ho (fun v hv g cs i T s' xs e hi hr=>by
       subst e
       exact Ko hv (Uu hi hr))
      refine⟨_,_,rfl,C.below,fun b hb=> .inl ((C.up b).2 hb),fun b hb=> ?_,hres⟩
      rcases hb with hb|⟨i,y,T,s',xs,_,hr',hg⟩
      ·rcases(C.up b).1 hb with h1|h1
       ·exact .inl h1
       ·exact .inr ⟨h1.1,C.old b (.inl hb)⟩
      ·have:=C.notM hr' rfl (Jh hg)
       exact .inr ⟨this.2.2.1,this.2.2.2⟩
     ·exact hr.elim
    ·exact hr.elim
   ·exact hr.elim
  cases e with
  |normal=>exact key he
  |exit i=>exact he.elim
  |ret=>exact key he
end
end Go.Sx
namespace Go.Sx
open Go.RowKit
abbrev YK:=Nat→St→List SV→(Bool→St→Prop)→Prop
abbrev IL:=FuncId→St→List SV→(SV→St→Prop)→Prop
def Kjb:IL:=fun _ _ _ _=>False
def Jtz:YK:=fun _ _ _ _=>False
abbrev IT:=FuncId→St→YK→(St→Prop)→Prop
def V8 (st:St) (d:Option Tmp) (v:SV) (news:List Res) (upd:List (Nat×Option Res)):St:=
 ⟨st.nx+news.length,match d with
  |some t=>(t,v)::st.sl.filter fun p=>p.1 !=t
  |none=>st.sl,Jon news st.nx++upd.reverse.foldl Kb st.rs⟩
def evK (st:St):Operand→Option SV
 | .tmp t=>look st.sl t
 | .const v=>some (ofValue v)
 | .func f=>some (.v false [.fn f])
 | .global _=>none
def Jrr (st : St) (o : Oper) : Option (Nat × List SV) := match o.op with
 | .call c => match c.callee with
  | .value (.tmp t) => match look st.sl t, evL (evK st) c.args.toList with
   |some (.v false [.fv y]),some l=>match look st.rs y with
    |some (.yld .ready)=>some (y,l)
    |_=>none
   |_,_=>none
  |_=>none
 |_=>none
def Jbv (ops:List Oper) (j:Nat):Bool:=ops.any fun o=>match o.guard with
 |some (g,_)=>Nat.beq g j
 |none=>false
def Jpe (ops:List Oper) (j:Nat):Option Tmp:=match ops[j]? with
 |some p=>p.dst
 |none=>none
def Jkz (st : St) (o : Oper) : Option (FuncId × List SV) := match o.op with
 | .call c => match c.callee with
  | .value x => match evK st x, evL (evK st) c.args.toList with
   |some (.v false [.fn f]),some l=>some (f,l)
   |some (.v false [.fno (some f)]),some l=>some (f,l)
   |some (.v false [.fv j]),some l=>match look st.rs j with
    |some (.clo f first caps)=>some (f,first++l++caps)
    |_=>none
   |_,_=>none
  |_=>none
 |_=>none
def Jdp (W:Nat→St→(Ex→St→Prop)→Prop) (id:Nat) (k:Ex→St→Prop):Nat→St→Prop
 |0,_=>False
 |n+1,st=>W (n+1) st (Ex.andThen (Jdp W id k n) (Ex.catch id k))
def Jqx (ann:Nat→Option Ann) (m:Nat):Nat→Option Ann:=fun i=>ann (i+1000*m)
def Jbb (P : Program) (Γ : Gam) (yk : YK) (il : IL) (ops : List Oper) : List Oper → Nat → St → (St → Prop) → Prop
 |[],_,st,k=>k st
 | o :: r, n, st, k =>
  let next (st:St) (v:SV) (news:List Res) (upd:List (Nat×Option Res)):Prop:=match Jbv ops n with
   |true=>match v with
    | .v false [.bool b]=>(b=true→Jbb P Γ yk il ops r (n+1) (V8 st o.dst (.one (.bool true)) news upd) k)∧(b=false→Jbb P Γ yk il ops r (n+1) (V8 st o.dst (.one (.bool false)) news upd) k)
    |_=>False
   |false=>Jbb P Γ yk il ops r (n+1) (V8 st o.dst v news upd) k
  let skip:Prop:=Jbb P Γ yk il ops r (n+1) (V8 st o.dst Jt [] []) k
  let run : Prop := match Jrr st o with
   |some yl=>yk yl.1 st yl.2 fun b st'=>Jbb P Γ yk il ops r (n+1) (V8 st' o.dst (.one (.bool b)) [] []) k
   | none => match o.op with
    | .pick c x y => match evK st c with
     |some (.v false [.bool b])=>match evK st (bif b then x else y) with
      |some v=>next st v [] []
      |none=>False
     |_=>False
    | _ => match opS P Γ (evK st) (look st.rs) st.nx o with
     |some out=>Do out.pre (next st out.val out.news out.upd)
     |none=>match Jkz st o with
      |some fl=>il fl.1 st fl.2 fun v st'=>next st' v [] []
      |none=>False
  match o.guard with
  |none=>run
  | some (j, want) => match Jpe ops j with
   | some t => match look st.sl t with
    |some (.v false [.bool b])=>match b==want with
     |true=>run
     |false=>skip
    |some (.v false [.val (.tuple _)])=>skip
    |_=>False
   |none=>False
def Jj6 (P:Program) (st:St) (o:Oper):Option SV:=match o.op with
 | .move x=>evK st x
 | .nilCheck x=>match evK st x with
  |some (.v false [.ptr j off])=>some (.one (.ptr j off))
  |_=>none
 | .fieldAddr T x i=>match evK st x,Zk P T i with
  |some (.v false [.ptr j off]),some (d,_)=>some (.one (.ptr j (off+d)))
  |_,_=>none
 |_=>none
def Jx4 (P : Program) (Γ : Gam) (il : IL) (ops : Array Oper) : Nat → Array Bool → St → (St → Prop) → Prop
 |0,listed,st,k=>match Region.ready .any ops listed with
  |[]=>k st
  |_=>False
 | n + 1, listed, st, k => match Region.ready .any ops listed with
  |[]=>k st
  |[i]=>match ops[i]? with
   |some o=>Jbb P Γ Jtz il [o] [o] 0 st fun st'=>Jx4 P Γ il ops n (listed.setIfInBounds i true) st' k
   |none=>False
  | r => match r.find? (fun i => Region.free .any ops listed i && match ops[i]? with
    |some o=>(Jj6 P st o).isSome
    |none=>false) with
   | some i => match ops[i]? with
    |some o=>match Jj6 P st o with
     |some v=>Jx4 P Γ il ops n (listed.setIfInBounds i true) (V8 st o.dst v [] []) k
     |none=>False
    |none=>False
   |none=>False
def Jvf (P:Program) (Γ:Gam) (il:IL) (ops:Array Oper) (st:St) (k:St→Prop):Prop:=
 match ops.toList.all (fun o=>o.guard.isNone)&&Region.noSelect ops with
 |true=>Jx4 P Γ il ops ops.size (Array.replicate ops.size false) st k
 |false=>False
def Jek:List (Nat×SV)→List (Nat×SV)
 |[]=>[]
 |p::r=>p::(Jek r).filter fun q=>q.1 !=p.1
def Jr2:List Tmp→List SV→List (Nat×SV)→List (Nat×SV)
 |p::ps,v::vs,sl=>Jr2 ps vs ((p,v)::sl.filter fun q=>q.1 !=p)
 |_,_,sl=>sl
def Jx6:IT:=fun _ _ _ _=>False
def YS.ex:YS→Option Ex
 | .ready=>some .normal
 | .busy=>none
 | .done none=>some .ret
 | .done (some i)=>some (.exit i)
def Ju7:Ex→YS
 | .normal=> .ready
 | .exit i=> .done (some i)
 | .ret=> .done none
def Ex.goes:Ex→Bool
 | .normal=>true
 |_=>false
def ykF (y s : Nat) (ps : List Tmp) (ra rb : St → (Ex → St → Prop) → Prop) : YK := fun y' st1 args K =>
 if y' = y ∧ args.length = ps.length then match look st1.rs y, look st1.rs s with
  | some (.yld .ready), some (.sus l) => ra ⟨st1.nx + 1, Jr2 ps args l, (st1.nx, .sus (Jek st1.sl)) :: st1.rs⟩ fun e st2 => match e with
   | .normal => match look st2.rs y with
    |some (.yld .ready)=>rb ⟨st2.nx,st2.sl,Kb st2.rs (y,some (.yld .busy))⟩ fun e st3=>match look st3.rs st1.nx,look st3.rs y with
     |some (.sus li),some (.yld .busy)=>K e.goes ⟨st3.nx,li,Kb (Kb st3.rs (y,some (.yld (Ju7 e)))) (st1.nx,none)⟩
     |_,_=>False
    |_=>False
   |_=>False
  |_,_=>False
 else False
def Kjf:Option Ann→Bool
 |some A=>A.un==7777
 |none=>false
def Jz2:Option Ann→Bool
 |some A=>A.un==7778
 |none=>false
def Jsp (st:St) (t:Nat) (b:Bool):St:=⟨st.nx,(t, .v false [.bool b])::st.sl,st.rs⟩
def J0b (ann:Nat→Option Ann):Code→Option Ann
 | .cond (.tmp t) _ _=>match ann (2000000+t) with
  |some A=>bif A.un==7779 then some A else none
  |none=>none
 | .seq _ b=>J0b ann b
 |_=>none
def wpG (P : Program) (Γ : Gam) : (Nat → Option Ann) → IL → Code → Option YK → IT → St → (Ex → St → Prop) → Prop
 |ann,il, .skip,_,_,st,k=>k .normal st
 | ann, il, .region _ ops dr, yk, _, st, k => match Jg1 ops.toList dr with
  |some t=>Jkb st t k
  |none=>match Je1 ops.toList dr with
  |some t=>Jit st t k
  | none => match J3a P Γ ops.toList dr st with
   |some (ps,st')=>Do ps (k .normal st')
   | none => match dr with
    |false=>Jbb P Γ (yk.getD Jtz) il ops.toList ops.toList 0 st (k .normal)
    |true=>match yk with
     |none=>Jvf P Γ il ops st (k .normal)
     |some _=>False
 |ann,il, .seq a b,yk,it,st,k=>match J0b ann a with
  |some A=>wpG P Γ ann il a yk it st (Ex.andThen (fun s=>∃y,Jow (Jfj A.frz s) (A.σ y)∧A.inv y) k)∧∀y,A.inv y→wpG P Γ ann il b yk it (A.σ y) k
  |none=>wpG P Γ ann il a yk it st (Ex.andThen (fun s=>wpG P Γ ann il b yk it s k) k)
 | ann, il, .cond c a b, yk, it, st, k => match c with
  | .tmp t => match look st.sl t with
   | some (.v false [.bool x]) => match Kjf (ann (1000000 + t)) with
    |true=>(match x with
     |true=>wpG P Γ ann il a yk it st k
     |false=>wpG P Γ ann il b yk it st k)
    |false=>match Jz2 (ann (1000000+t)) with
     |true=>bif x then wpG P Γ ann il a yk it (Jsp st t true) k else wpG P Γ ann il b yk it (Jsp st t false) k
     |false=>(x=true→wpG P Γ ann il a yk it st k)∧(x=false→wpG P Γ ann il b yk it st k)
   |_=>False
  |_=>False
 | ann, il, .block id (.loop c), yk, it, st, k => match ann id with
  |some A=>match A.un with
   |n+1=>Jdp (fun m st k=>wpG P Γ (Jqx ann m) il c yk it st k) id k (n+1) st
   |0=>match A.rel with
   |none=>∃x,Jow (Jfj A.frz st) (A.σ x)∧A.inv x∧∀x,A.inv x→wpG P Γ ann il c yk it (A.σ x) (Ex.andThen (fun s=>∃y,Jow (Jfj A.frz s) (A.σ y)∧A.inv y∧A.mu y<A.mu x) (Ex.catch id k))
   |some r=>∃x0,Jow (Jfj A.frz st) (A.σ x0)∧(A.inv x0∧r x0 x0)∧∀x,A.inv x∧r x0 x→wpG P Γ ann il c yk it (A.σ x) (Ex.andThen (fun s=>∃y,Jow (Jfj A.frz s) (A.σ y)∧(A.inv y∧r x0 y)∧A.mu y<A.mu x) (Ex.catch id k))
  |none=>False
 |ann,il, .block id c,yk,it,st,k=>wpG P Γ ann il c yk it st (Ex.catch id k)
 |ann,il, .exit id,_,_,st,k=>k (.exit id) st
 |ann,il, .ret,_,_,st,k=>k .ret st
 |ann,il, .scope c,yk,it,st,k=>wpG P Γ ann il c yk it st k
 |ann,il, .label _,_,_,st,k=>k .normal st
 | ann, il, .rangeFunc g ps a b, _, it, st, k => match g with
  | .tmp t => match look st.sl t with
   |some (.v false [.fv j])=>match look st.rs j with
    | some (.clo f [] caps) => it f ⟨st.nx + 2, Jis (SV.one (.fv st.nx) :: caps) 0, (st.nx, .yld .ready) :: (st.nx + 1, .sus (Jek st.sl)) :: st.rs⟩
      (ykF st.nx (st.nx+1) ps.toList (wpG P Γ ann il a (some Jtz) Jx6) (wpG P Γ ann il b (some Jtz) Jx6)) fun st2=>match look st2.rs st.nx,look st2.rs (st.nx+1) with
       |some (.yld s),some (.sus l)=>match s.ex with
        |some e=>k e ⟨st2.nx,l,Kb (Kb st2.rs (st.nx,none)) (st.nx+1,none)⟩
        |none=>False
       |_,_=>False
    |_=>False
   |_=>False
  |_=>False
 |_,_,_,_,_,_,_=>False
def Kmk (P:Program) (Γ:Gam) (ann:FuncId→Nat→Option Ann) (il:IL) (c:Code) (f:FuncId) (st:St) (yk:YK) (fin:St→Prop):Prop:=
 wpG P Γ (ann f) il c (some yk) Jx6 st fun e s=>match e with
  | .exit _=>False
  |_=>fin s
def itS (P : Program) (Γ : Gam) (ann : FuncId → Nat → Option Ann) (il : IL) (lib : FuncId → Option Func) : IT := fun f st yk fin => match lib f with
 | some fn => match fn.body with
  | some c => if (U9 fn.ntmps c && Nat.ble st.sl.length fn.ntmps && !(fn.name == "runtime.NumGoroutine") && fn.results.isEmpty) = true then
    Kmk P Γ ann il c f st yk fin
   else False
  |none=>False
 |none=>False
def hasRF:Code→Bool
 | .rangeFunc _ _ _ _=>true
 | .seq a b=>hasRF a||hasRF b
 | .cond _ a b=>hasRF a||hasRF b
 | .block _ c=>hasRF c
 | .loop c=>hasRF c
 | .scope c=>hasRF c
 |_=>false
def Res.soft:Res→Bool
 | .afn _ _ _ _=>false
 |_=>true
def Jru:List SV→Option (List (Bool×List SC))
 |[]=>some []
 | .v g cs::r=>match Jru r with
  |some l=>some ((g,cs)::l)
  |none=>none
 | .tup _::_=>none
def Jj3:List SV→Option SV
 |[v]=>some v
 |l=>match Jru l with
  |some ps=>some (.tup ps)
  |none=>none
def J9p (P : Program) (fn : Func) (z : Nat) (m : Bool) (K : SV → St → Prop) : Ex → St → Prop := fun e s => match e with
 | .exit _=>False
 | _ => match m && !(s.rs.all fun p => p.2.soft) with
  |true=>False
  | false => match Ve P s fn.results.toList, look s.rs z with
   |some vs,some (.sus l)=>match Jj3 vs with
    |some v=>K v ⟨s.nx,l,Kb s.rs (z,none)⟩
    |none=>False
   |_,_=>False
def J9o (P:Program) (Γ:Gam) (ann:FuncId→Nat→Option Ann) (il:IL) (it:IT) (m:Bool) (fn:Func) (c:Code) (f:FuncId) (st:St) (args:List SV) (K:SV→St→Prop):Prop:=
 wpG P Γ (ann f) il c none it ⟨st.nx+1,Jis args 0,(st.nx, .sus (Jek st.sl))::st.rs⟩ (J9p P fn st.nx m K)
def Jv7 (Γ : Gam) : IL := fun f st args K => match Γ.get f with
 | some c => match c.srt with
  | some z => match z.rel, args with
   |some r,[.v false [.sl i], .v false [.fn g]]=>match look st.rs i with
    |some (.own T s xs)=>if h:s=z.s∧T=z.T∧g=z.g∧z.s.hasList=false then z.pre (Zo h.1 xs)∧∀ys:List z.s.T,r (Zo h.1 xs) ys→K (.tup []) ⟨st.nx,st.sl,Kb st.rs (i,some (.own z.T z.s ys))⟩ else False
    |_=>False
   |_,_=>False
  |none=>False
 |none=>False
def ilS (P : Program) (Γ : Gam) (ann : FuncId → Nat → Option Ann) (lib : FuncId → Option Func) : Nat → IL
 |0=>Kjb
 | n + 1 => fun f st args K => match lib f with
  | some fn => match fn.body with
   | some c => if (U9 fn.ntmps c && Nat.ble args.length fn.ntmps && !(fn.name == "runtime.NumGoroutine")) = true then
     match hasRF c with
     |true=>J9o P Γ ann (ilS P Γ ann lib n) (itS P Γ ann (ilS P Γ ann lib n) lib) true fn c f st args K
     |false=>J9o P Γ ann (ilS P Γ ann lib n) Jx6 false fn c f st args K
    else False
   |none=>False
  |none=>Jv7 Γ f st args K
def Res.calm:Res→Bool
 | .afn _ _ _ _=>false
 | .sus _=>false
 | .yld _=>false
 |_=>true
@[irreducible] def wpFG (P:Program) (Γ:Gam) (ann:Nat→Option Ann) (annF:FuncId→Nat→Option Ann) (lib:FuncId→Option Func) (fn:Func) (c:Con) (x:ATup c.args):Prop:=
 match fn.body with
 |some code=>Jt6 (c.pre x)<|wpG P Γ ann (ilS P Γ annF lib 5) code none (itS P Γ annF (ilS P Γ annF lib 5) lib) (Jbz c x) fun e s=>match e with
  | .exit _=>False
  |_=>(s.rs.all fun p=>p.2.calm)=true∧Jx3 P fn c x s
 |none=>False
end Go.Sx
namespace Go.Sx
open Go.RowKit
theorem Jgv [Dr] {B:Nat} {w:World} {l:Nat} (o:Obj) (h:B≤l):Below B w (w.putObj l o):=
 ⟨rfl,rfl,rfl,by simp,fun k hk=>World.putObj_heap_other (by omega),fun _=>Nat.le_refl _⟩
theorem Vx:∀{l:List (Nat×SV)} {p:Nat×SV},p∈Jek l→look l p.1=some p.2
 |[],p,h=>by simp[Jek] at h
 | q :: l, p, h => by
  simp only[Jek] at h
  rcases List.mem_cons.1 h with rfl|h
  ·simp[look]
  ·rw[List.mem_filter] at h
   simp only[look]
   have:¬q.1=p.1:=fun e=>by simp[e] at h
   rw[if_neg this]
   exact Vx h.1
theorem Jej.base [Dr] {P:Program} {ρ:Env} {M R:Nat→Prop} {B:Nat} {w0 w0':U7} {w:World} {r:Nat} {x:Res} (h:Jej P ρ M R B w0 w r x) (he:x.spec=true→w0'.an r=w0.an r):Jej P ρ M R B w0' w r x:=by
 cases x with
 |sus l=>obtain⟨T,h1,h2⟩:=h;exact⟨T,(he rfl).trans h1,h2⟩
 |yld s=>obtain⟨l,rc,h1,h2⟩:=h;exact⟨l,rc,(he rfl).trans h1,h2⟩
 |_=>exact h
section
variable {P:Program} {N B:Nat} {w0:U7} {al:Nat→Prop} {τ:Nat→Option SV} {σ:Nat→Option Res} {a:Act} {w:World} {ρ:Env} {M R:Nat→Prop}
theorem Jn.putFree [Dr] (C:Jn P N B w0 al τ σ a w ρ M R) {b:Nat} (o':Obj) (hB:B≤b) (hM:¬M b) (hR:¬R b) (ho:∀r x,σ r=some x→x.owning=true→blk (ρ r)≠some b):
  Jn P N B w0 al τ σ a (w.putObj b o') ρ M R:=by
 have hh:∀k,k≠b→(w.putObj b o').heap[k]? =w.heap[k]? :=fun k hk=>World.putObj_heap_other hk
 have hs:(w.putObj b o').heap.size=w.heap.size:=by simp
 have hMb:∀k,M k→(w.putObj b o').heap[k]? =w.heap[k]? :=fun k hk=>hh k fun e=>hM (e▸hk)
 refine⟨C.size,C.defers.keep (fun _ h=>h) hMb,C.nomark,fun k hk=>(hMb k ((C.up k).2 hk)).trans (C.stay k hk),fun k hk=>(hh k fun e=>hR (e▸hk)).trans (C.stayR k hk),C.below.trans (Jgv o' hB),by rw[hs];exact C.base,C.slot,C.slotIds,fun r x hx=> ?_,C.resIds,C.apart,fun k hk=>by rw[hs];exact C.old k hk,C.one,C.up,C.good⟩
 refine(C.resA r x hx).keep rfl (fun _ _=>rfl) (fun _ h=>h) (fun k hk=>hh k ?_) fun hox k hk=>⟨hh k ?_,(C.notM hx hox hk).1⟩
 ·rintro rfl
  rcases hk with hk|hk
  ·exact hM hk
  ·exact hR hk
 ·rintro rfl
  exact ho r x hx hox hk
theorem Jn.setYld [Dr] (C:Jn P N B w0 al τ σ a w ρ M R) {y:Nat} {s s':YS} {lp:Nat} {rc:Loop} (hy:σ y=some (.yld s)) (ha:w0.an y=some (.loop lp rc)):
  Jn P N B w0 al τ (fun id=>if id=y then some (.yld s') else σ id) a (w.putObj lp (.loop {rc with state:=s'.st,pending:=s'.pend})) ρ M R:=by
 obtain⟨l,rc',h1,h2,h3,h4,h5,h6⟩:=C.resA y _ hy
 rw[ha] at h1
 cases h1
 have hblk:blk (ρ y)=some lp:=by rw[h2];rfl
 have C1:Jn P N B w0 al τ (fun id=>if id=y then none else σ id) a w ρ M R:=C.weaken (fun _ _ h=>h) (fun i x h=>by
  split at h
  ·cases h
  ·exact h) fun _=>Iff.rfl
 have C2:=C1.putFree (.loop {rc with state:=s'.st,pending:=s'.pend}) h6 h4 h5 (fun r x hx ho=>by
  split at hx
  ·cases hx
  ·rename_i hne
   intro hb
   exact C.apart r y x _ hne hx hy ho rfl lp hb hblk)
 have hlt:lp<w.heap.size:=(Array.getElem?_eq_some_iff.1 h3).1
 refine⟨C2.size,C2.defers,C2.nomark,C2.stay,C2.stayR,C2.below,C2.base,C2.slot,C2.slotIds,fun r x hx=> ?_,fun r x hx=> ?_,fun r r' x x' hne hx hx' ho ho' b hb hb'=> ?_,C2.old,C2.one,C2.up,C2.good⟩
 ·split at hx
  ·rename_i e;subst e;cases hx
   exact⟨lp,rc,ha,h2,World.putObj_heap_same hlt,h4,h5,h6⟩
  ·rename_i e
   exact C2.resA r x (by rw[if_neg e];exact hx)
 ·split at hx
  ·rename_i e;subst e;cases hx
   exact⟨(C.resIds r _ hy).1,fun id hid=>by simp[Res.ids] at hid⟩
  ·exact C.resIds r x hx
 ·have get:∀{r x},(if r=y then some (Res.yld s') else σ r)=some x→∃x0,σ r=some x0∧(x.owning=true→x0.owning=true):=by
   intro r x h
   split at h
   ·rename_i e;subst e;cases h;exact⟨_,hy,fun _=>rfl⟩
   ·exact⟨x,h,id⟩
  obtain⟨x0,e1,e2⟩:=get hx
  obtain⟨x0',e1',e2'⟩:=get hx'
  exact C.apart r r' x0 x0' hne e1 e1' (e2 ho) (e2' ho') b hb hb'
theorem Jjw {ρ:Env} {al:Nat→Prop} {N:Nat}:∀{ps:List Tmp} {vs:List SV} {sl:List (Nat×SV)} {tmps:Array Value},ps.length=vs.length→(∀p∈ps,p<N)→tmps.size=N→
  (∀t v,look sl t=some v→tmps.getD t undef=v.den ρ∧∀id∈v.ids,al id)→(∀v∈vs,∀id∈v.ids,al id)→
  ((ps.zip (vs.map (SV.den ρ))).foldl (fun t (p:Tmp×Value)=>t.setIfInBounds p.1 p.2) tmps).size=N∧
  ∀t v,look (Jr2 ps vs sl) t=some v→((ps.zip (vs.map (SV.den ρ))).foldl (fun t (p:Tmp×Value)=>t.setIfInBounds p.1 p.2) tmps).getD t undef=v.den ρ∧∀id∈v.ids,al id
 |[],[],sl,tmps,_,_,hs,h,_=>⟨hs,h⟩
 | p :: ps, v :: vs, sl, tmps, hl, hp, hs, h, hv => by
  simp only[List.map_cons,List.zip_cons_cons,List.foldl_cons,Jr2]
  refine Jjw (by simpa using hl) (fun q hq=>hp q (by simp[hq])) (by simpa using hs) (fun t u ht=> ?_) (fun u hu=>hv u (by simp[hu]))
  simp only[look] at ht
  split at ht
  ·rename_i e
   subst e;cases ht
   refine⟨?_,hv _ (by simp)⟩
   have:p<tmps.size:=by rw[hs];exact hp p (by simp)
   simp[Array.getD_eq_getD_getElem?,this]
  ·rename_i e
   rw[Ub] at ht
   split at ht
   ·cases ht
   ·obtain⟨h1,h2⟩:=h t u ht
    refine⟨?_,h2⟩
    rw[←h1]
    simp only[Array.getD_eq_getD_getElem?,Array.getElem?_setIfInBounds_ne e]
 |[],_::_,_,_,hl,_,_,_,_=>by simp at hl
 |_::_,[],_,_,hl,_,_,_,_=>by simp at hl
def Jxv [Dr] (P:Program) (N B:Nat) (w0:U7) (R:Nat→Prop) (yk:YK):Prop:=
 ∀ {y : Nat} {st : St} {l : List SV} {K : Bool → St → Prop} {ρ : Env} {M : Nat → Prop} {al : Nat → Prop} {a : Act} {w : World}, (∀ id, al id → id < st.nx) → Jn P N B w0 al (look st.sl) (look st.rs) a w ρ M R → look st.rs y = some (.yld .ready) → (∀ v ∈ l, ∀ id ∈ v.ids, al id) → yk y st l K →
  ∃lp rc,ρ y= .func (.yield lp) #[] #[]∧w.heap[lp]? =some (.loop rc)∧l.length=rc.params.size∧
   RoundIn (FR none) 0 P lp rc.fn ((rc.params.zip (l.map (SV.den ρ)).toArray).foldl (fun t (p:Tmp×Value)=>t.setIfInBounds p.1 p.2) rc.tmps) rc.assign rc.body w fun e w'=>∃b st',e= .returned (.bool b)∧K b st'∧U3 P N B w0 R st' a w'
theorem Jrq {st:St} {o:Oper} {y:Nat} {l:List SV} (h:Jrr st o=some (y,l)):∃c t,o.op= .call c∧c.callee= .value (.tmp t)∧look st.sl t=some (.v false [.fv y])∧evL (evK st) c.args.toList=some l∧look st.rs y=some (.yld .ready):=by
 unfold Jrr at h
 split at h
 ·rename_i c hc
  split at h
  ·rename_i t ht
   split at h
   ·rename_i y' l' h1 h2
    split at h
    ·rename_i h3
     cases h
     exact⟨c,t,hc,ht,h1,h2,h3⟩
    ·cases h
   ·cases h
  ·cases h
 ·cases h
theorem Xs [Dr] {st:St} {o:Oper} {v:SV} {news:List Res} {upd:List (Nat×Option Res)} {a':Act} (hal:∀id,al id→id<st.nx)
  (C:Jn P N B w0 (Yy al st.nx news) (Yx (look st.sl) o.dst v) (Kg (look st.rs) st.nx news upd) a' w ρ M R):U3 P N B w0 R (V8 st o.dst v news upd) a' w:=by
 refine⟨ρ,M,_,fun id h=> ?_,C.weaken (fun t u h=> ?_) (fun id x h=> ?_) fun _=>Iff.rfl⟩
 ·rcases h with h|h
  ·have:=hal id h;simp only[V8];omega
  ·simp only[V8];omega
 ·unfold V8 at h
  unfold Yx
  cases hd:o.dst with
  |none=>rw[hd] at h;simpa using h
  | some d =>
   rw[hd] at h
   simp only[look] at h
   split at h
   ·rename_i e;subst e;rw[if_pos rfl];exact h
   ·rename_i e
    rw[Ub] at h
    rw[if_neg (by simpa using e)]
    split at h
    ·cases h
    ·exact h
 ·unfold V8 at h
  simp only at h
  unfold Kg
  rw[D0,Hj] at h
  exact h
end
end Go.Sx
namespace Go.Sx
open Go.RowKit
section
variable {P:Program} {Γ:Gam} {N B:Nat} {w0:U7} {R:Nat→Prop}
theorem X5 [Dr] {st:St} {al:Nat→Prop} {a:Act} {w:World} {ρ:Env} {M:Nat→Prop} (C:Jn P N B w0 al (look st.sl) (look st.rs) a w ρ M R):∀x sv,evK st x=some sv→a.eval x=sv.den ρ∧∀id∈sv.ids,al id:=by
 intro x sv h
 cases x with
 |tmp t=>exact⟨C.slot t sv h,C.slotIds t sv h⟩
 |const v=>cases h;exact⟨(Jcg ρ v).symm,fun id hid=>by rw[Jbj] at hid;simp at hid⟩
 |func f=>cases h;exact⟨rfl,fun id hid=>by simp[SV.ids,Js,SC.ids] at hid⟩
 |global _=>cases h
theorem Jm8 [Dr] {ops:List Oper} {opsA:Array Oper} (hA:opsA.toList=ops) (hN:∀o∈ops,∀t,o.dst=some t→t<N) {st:St} {al:Nat→Prop} {a:Act} {w:World} {ρ:Env} {M:Nat→Prop} (C:Jn P N B w0 al (look st.sl) (look st.rs) a w ρ M R)
  {o:Oper} {j:Nat} {want:Bool} (hg:o.guard=some (j,want)) {t:Tmp} (ht:Jpe ops j=some t):
  (∀b,look st.sl t=some (.v false [.bool b])→Region.wanted o (yielded opsA a.tmps)=(b==want))∧(∀vs,look st.sl t=some (.v false [.val (.tuple vs)])→Region.wanted o (yielded opsA a.tmps)=false):=by
 unfold Jpe at ht
 split at ht
 ·rename_i p hp
  have hopsA:opsA[j]? =some p:=by rw[←Array.getElem?_toList,hA];exact hp
  have htN:t<N:=hN p (List.mem_of_getElem? hp) t ht
  have hsz:t<a.tmps.size:=by rw[C.size];exact htN
  have hy:yielded opsA a.tmps j=match a.tmps.getD t undef with| .bool b=>some b|_=>none:=by
   simp only[yielded,hopsA,Option.bind_some,ht,Array.getD_eq_getD_getElem?,Array.getElem?_eq_getElem hsz,Option.getD_some]
   cases a.tmps[t]<;>rfl
  refine⟨fun b hb=> ?_,fun vs hb=> ?_⟩
  ·have e:=C.slot t _ hb
   unfold Region.wanted
   rw[hg]
   simp only[hy,e,SV.den,List.map_cons,List.map_nil,valOf,SC.den]
   simp
  ·have e:=C.slot t _ hb
   unfold Region.wanted
   rw[hg]
   simp only[hy,e,SV.den,List.map_cons,List.map_nil,valOf,SC.den]
   simp
 ·cases ht
def Jxy [Dr] (P:Program) (il:IL):Prop:=
 ∀{f:FuncId} {st:St} {args:List SV} {K:SV→St→Prop} {N B:Nat} {w0:U7} {R:Nat→Prop} {ρ:Env} {M:Nat→Prop} {al:Nat→Prop} {a:Act} {w:World},(∀id,al id→id<st.nx)→Jn P N B w0 al (look st.sl) (look st.rs) a w ρ M R→(∀v∈args,∀id∈v.ids,al id)→il f st args K→
  X9 P f∧Calls P f (args.map (SV.den ρ)).toArray w fun e w'=>∃v u st' ρ' M' al',e= .returned v∧K u st'∧(∀id,al' id→id<st'.nx)∧Jn P N B w0 al' (look st'.sl) (look st'.rs) a w' ρ' M' R∧v=u.den ρ'∧∀id∈u.ids,al' id
theorem Jp0 [Dr] {st:St} {al:Nat→Prop} {a:Act} {w:World} {ρ:Env} {M:Nat→Prop} (C:Jn P N B w0 al (look st.sl) (look st.rs) a w ρ M R) {o:Oper} {f:FuncId} {l:List SV} (h:Jkz st o=some (f,l)):
  (∀v∈l,∀id∈v.ids,al id)∧(∃c,o.op= .call c)∧(X9 P f→(execOp a.eval o).run P w= .ok (.enter f (l.map (SV.den ρ)).toArray) w):=by
 unfold Jkz at h
 split at h
 ·rename_i c ho
  split at h
  ·rename_i x hc
   split at h
   ·rename_i f' l' hx hl
    cases h
    obtain⟨h1,h2⟩:=Xl (X5 C) hl
    obtain⟨e1,_⟩:=X5 C x _ hx
    replace e1:a.eval x= .func (.func f) #[] #[]:=e1
    have ha:c.args.map a.eval=(l.map (SV.den ρ)).toArray:=by
     apply Array.ext'
     simpa using h1
    refine⟨h2,⟨c,ho⟩,fun hE=> ?_⟩
    have hr:=Kr hE (l.map (SV.den ρ)).toArray w
    cases x<;>simp[execOp,ho,resolve,hc,e1,Deferred.ofValue,invoke,ha] at hr⊢<;>exact hr
   ·rename_i f' l' hx hl
    cases h
    obtain⟨h1,h2⟩:=Xl (X5 C) hl
    obtain⟨e1,_⟩:=X5 C x _ hx
    replace e1:a.eval x= .func (.func f) #[] #[]:=e1
    have ha:c.args.map a.eval=(l.map (SV.den ρ)).toArray:=by
     apply Array.ext'
     simpa using h1
    refine⟨h2,⟨c,ho⟩,fun hE=> ?_⟩
    have hr:=Kr hE (l.map (SV.den ρ)).toArray w
    cases x<;>simp[execOp,ho,resolve,hc,e1,Deferred.ofValue,invoke,ha] at hr⊢<;>exact hr
   ·rename_i j l' hx hl
    split at h
    ·rename_i f' first caps hj
     cases h
     obtain⟨h1,h2⟩:=Xl (X5 C) hl
     obtain⟨e1,_⟩:=X5 C x _ hx
     replace e1:a.eval x=ρ j:=e1
     have ej:ρ j= .func (.func f) (first.map (SV.den ρ)).toArray (caps.map (SV.den ρ)).toArray:=C.res j _ hj
     have ha:c.args.map a.eval=(l'.map (SV.den ρ)).toArray:=by
      apply Array.ext'
      simpa using h1
     refine⟨fun v hv id hid=> ?_,⟨c,ho⟩,fun hE=> ?_⟩
     ·have hr:=(C.resIds j _ hj).2
      rcases List.mem_append.1 hv with hv|hv
      ·rcases List.mem_append.1 hv with hv|hv
       ·exact hr id (List.mem_append_left _ (List.mem_flatMap.2 ⟨v,hv,hid⟩))
       ·exact h2 v hv id hid
      ·exact hr id (List.mem_append_right _ (List.mem_flatMap.2 ⟨v,hv,hid⟩))
     ·have hr:=Kr hE ((first++l'++caps).map (SV.den ρ)).toArray w
      cases x<;>simp[execOp,ho,resolve,hc,e1,ej,Deferred.ofValue,invoke,ha] at hr⊢<;>exact hr
    ·cases h
   ·cases h
  ·cases h
 ·cases h
theorem Jet [Dr] (hΓ : Vb P Γ) {yk : YK} (hyk : Jxv P N B w0 R yk) {il : IL} (hil : Jxy P il) {rd : Option Nat} (hyn : rd = none ∨ yk = Jtz) {ops : List Oper} {opsA : Array Oper} (hA : opsA.toList = ops) (hN : ∀ o ∈ ops, ∀ t, o.dst = some t → t < N) {Q : Exit → Act → World → Prop} {k : St → Prop}
  (hK:∀st' a w,k st'→U3 P N B w0 R st' a w→Q .normal a w):∀(rest:List Oper) (n:Nat) (st:St) (a:Act) (w:World),ops.drop n=rest→Jbb P Γ yk il ops rest n st k→U3 P N B w0 R st a w→wpOpsIn (FR rd) 0 P opsA Q (List.range' n rest.length) a w
 |[],n,st,a,w,_,h,hs=>hK st a w h hs
 | o :: r, n, st, a, w, hd, h, hs => by
  have hat:ops[n]? =some o:=by
   have:(ops.drop n)[0]? =some o:=by rw[hd];rfl
   rw[List.getElem?_drop] at this
   simpa using this
  have hdr:ops.drop (n+1)=r:=by
   have:(ops.drop n).drop 1=r:=by rw[hd];rfl
   rw[List.drop_drop] at this
   exact this
  have hoA:opsA[n]? =some o:=by rw[←Array.getElem?_toList,hA];exact hat
  have hdN:∀t,o.dst=some t→t<N:=hN o (List.mem_of_getElem? hat)
  rw[List.length_cons,List.range'_succ,wpOpsIn_cons]
  unfold wpOpIn
  rw[hoA]
  simp only
  obtain⟨ρ,M,al,hal,C⟩:=id hs
  have ih:=fun st' a' w'=>Jet hΓ @hyk @hil hyn hA hN hK r (n+1) st' a' w' hdr
  have hfr:∀(news:List Res) id,al id→¬(st.nx≤id∧id<st.nx+news.length):=fun news id h=>by have:=hal id h;omega
  have hskip:Jbb P Γ yk il ops r (n+1) (V8 st o.dst Jt [] []) k→(∀f,o.about P w a.eval=some f→(FR rd).fn f)∧wpOpsIn (FR rd) 0 P opsA Q (List.range' (n+1) r.length) (a.put o.dst undef) w:=fun h=>by
   refine⟨fun _ _=>trivial,ih _ _ _ h (Xs hal (C.pure (n:=st.nx) hdN ?_ ?_))⟩
   ·rfl
   ·intro id hid;simp[Jt,SV.ids,Js,SC.ids] at hid
  have hnext:∀(st:St) (al:Nat→Prop) (v:SV) (news:List Res) (upd:List (Nat×Option Res)),(∀id,al id→id<st.nx)→(match Jbv ops n with
    |true=>match v with
     | .v false [.bool b]=>(b=true→Jbb P Γ yk il ops r (n+1) (V8 st o.dst (.one (.bool true)) news upd) k)∧(b=false→Jbb P Γ yk il ops r (n+1) (V8 st o.dst (.one (.bool false)) news upd) k)
     |_=>False
    |false=>Jbb P Γ yk il ops r (n+1) (V8 st o.dst v news upd) k)→∀a' w' ρ' M',Jn P N B w0 (Yy al st.nx news) (Yx (look st.sl) o.dst v) (Kg (look st.rs) st.nx news upd) a' w' ρ' M' R→wpOpsIn (FR rd) 0 P opsA Q (List.range' (n+1) r.length) a' w':=by
   intro st al v news upd hal h a' w' ρ' M' C'
   split at h
   ·split at h
    ·rename_i b
     cases b with
     |true=>exact ih _ _ _ (h.1 rfl) (Xs hal C')
     |false=>exact ih _ _ _ (h.2 rfl) (Xs hal C')
    ·exact h.elim
   ·exact ih _ _ _ h (Xs hal C')
  have hrun : (match Jrr st o with
   |some yl=>yk yl.1 st yl.2 fun b st'=>Jbb P Γ yk il ops r (n+1) (V8 st' o.dst (.one (.bool b)) [] []) k
   | none => match o.op with
    | .pick c x y => match evK st c with
     | some (.v false [.bool b]) => match evK st (bif b then x else y) with
      | some v => (match Jbv ops n with
       |true=>match v with
        | .v false [.bool b]=>(b=true→Jbb P Γ yk il ops r (n+1) (V8 st o.dst (.one (.bool true)) [] []) k)∧(b=false→Jbb P Γ yk il ops r (n+1) (V8 st o.dst (.one (.bool false)) [] []) k)
        |_=>False
       |false=>Jbb P Γ yk il ops r (n+1) (V8 st o.dst v [] []) k)
      |none=>False
     |_=>False
    | _ => match opS P Γ (evK st) (look st.rs) st.nx o with
     | some out => Do out.pre (match Jbv ops n with
      |true=>match out.val with
       | .v false [.bool b]=>(b=true→Jbb P Γ yk il ops r (n+1) (V8 st o.dst (.one (.bool true)) out.news out.upd) k)∧(b=false→Jbb P Γ yk il ops r (n+1) (V8 st o.dst (.one (.bool false)) out.news out.upd) k)
       |_=>False
      |false=>Jbb P Γ yk il ops r (n+1) (V8 st o.dst out.val out.news out.upd) k)
     | none => match Jkz st o with
      | some fl => il fl.1 st fl.2 fun v st => (match Jbv ops n with
       |true=>match v with
        | .v false [.bool b]=>(b=true→Jbb P Γ yk il ops r (n+1) (V8 st o.dst (.one (.bool true)) [] []) k)∧(b=false→Jbb P Γ yk il ops r (n+1) (V8 st o.dst (.one (.bool false)) [] []) k)
        |_=>False
       |false=>Jbb P Γ yk il ops r (n+1) (V8 st o.dst v [] []) k)
      |none=>False)→o.wpIn (FR rd) 0 P a w (wpOpsIn (FR rd) 0 P opsA Q (List.range' (n+1) r.length)) Q:=by
   intro h
   split at h
   ·rename_i yl hyl
    obtain⟨y,l⟩:=yl
    obtain⟨c,t,ho,hc,ht,hl,hy⟩:=Jrq hyl
    have hrd:rd=none:=by
     rcases hyn with h0|h0
     ·exact h0
     ·rw[h0] at h;exact h.elim
    subst hrd
    obtain⟨h1,h2⟩:=Xl (X5 C) hl
    obtain⟨lp,rc,e1,e2,e3,e4⟩:=hyk hal C hy h2 h
    have hev:a.eval (.tmp t)= .func (.yield lp) #[] #[]:=(C.slot t _ ht).trans e1
    have hargs:c.args.map a.eval=(l.map (SV.den ρ)).toArray:=by
     apply Array.ext'
     simpa using h1
    refine⟨fun _ _=>trivial, ?_⟩
    have hex:(Oper.semAt (FR none).round a.eval o).run P w= .ok (.round lp rc.fn ((rc.params.zip (l.map (SV.den ρ)).toArray).foldl (fun t (p:Tmp×Value)=>t.setIfInBounds p.1 p.2) rc.tmps) rc.assign rc.body) w:=by
     show(Oper.semAt none a.eval o).run P w=_
     rw[Oper.semAt_none]
     have hy2:=run_yield (P:=P) (args:=(l.map (SV.den ρ)).toArray) e2 (by simp[e3])
     simp only[execOp,ho,resolve,hc,hev,hargs]
     simp[go_sem,hy2]
    rw[hex,Oper.uponIn_round]
    refine⟨fun h=>by simp[FR,Fence.wide] at h,RoundIn.mono e4 ?_⟩
    rintro e w' ⟨b,st',rfl,hk,hs'⟩
    obtain⟨ρ',M',al',hal',C'⟩:=hs'
    refine ih _ _ _ hk (Xs (news:=[]) (upd:=[]) hal' (C'.pure (n:=st'.nx) hdN rfl ?_))
    intro id hid;simp[SV.ids,Js,SC.ids] at hid
   ·split at h
    ·rename_i c x y hop
     split at h
     ·rename_i b hb
      split at h
      ·rename_i v hv
       have e1:=(X5 C _ _ hb).1
       obtain⟨e2,e3⟩:=X5 C _ _ hv
       refine Jdf (by rw[hop];intro c e;cases e) (Ji (u:=v.den ρ) (w':=w) ?_ (hnext st al v [] [] hal h _ _ _ _ (C.pure hdN rfl e3)))
       rw[show(SV.v false [SC.bool b]).den ρ= .bool b from rfl] at e1
       cases b with
       |true=>simp only[cond_true] at e2;simp[execOp,hop,e1,asBool,e2]
       |false=>simp only[cond_false] at e2;simp[execOp,hop,e1,asBool,e2]
      ·exact h.elim
     ·exact h.elim
    ·split at h
     ·rename_i out hout
      rw[Lg] at h
      have hs:=Jey hΓ C hdN (fun _ _ h=>h) (X5 C) hout h.1 (hfr _)
      exact Jdf (Jbi hout) (hs _ Q fun u w' ρ' M' C'=>hnext st al _ _ _ hal h.2 _ _ _ _ C')
     ·split at h
      ·rename_i fl hfl
       obtain⟨f,l⟩:=fl
       obtain⟨h2,⟨c,ho⟩,hex⟩:=Jp0 C hfl
       obtain⟨hent,hcalls⟩:=hil hal C h2 h
       refine Jdf (by rw[ho];intro c e;cases e) (Vw (hex hent) hcalls ?_)
       rintro e w' ⟨v,u,st',ρ',M',al',rfl,hk,hal',C',hv,hu⟩
       exact⟨v,rfl,hnext st' al' u [] [] hal' hk _ _ _ _ (C'.pure hdN hv hu)⟩
      ·exact h.elim
  unfold Jbb at h
  simp only at h
  split at h
  ·rename_i hg
   have:Region.wanted o (yielded opsA a.tmps)=true:=by simp[Region.wanted,hg]
   rw[this,if_pos rfl]
   exact hrun h
  ·rename_i j want hg
   split at h
   ·rename_i t ht
    obtain⟨w1,w2⟩:=Jm8 hA hN C hg ht
    split at h
    ·rename_i b hb
     rw[w1 b hb]
     split at h
     ·rename_i e;rw[e,if_pos rfl];exact hrun h
     ·rename_i e;rw[e];exact hskip h
    ·rename_i vs hb
     rw[w2 vs hb]
     exact hskip h
    ·exact h.elim
   ·exact h.elim
end
end Go.Sx
namespace Go.Sx
open Go.RowKit
section
variable {P:Program} {Γ:Gam} {N B:Nat} {w0:U7} {R:Nat→Prop}
theorem Jr8 [Dr] {st:St} {al:Nat→Prop} {a:Act} {w:World} {ρ:Env} {M:Nat→Prop} (C:Jn P N B w0 al (look st.sl) (look st.rs) a w ρ M R) {ops:Array Oper} {o:Oper} {v:SV} (h:Jj6 P st o=some v) (hg:o.guard=none):
  YieldsFenced P ops o (v.den ρ) a∧∀id∈v.ids,al id:=by
 have hw:Region.wanted o (yielded ops a.tmps)=true:=by unfold Region.wanted;rw[hg]
 unfold Jj6 at h
 split at h
 ·rename_i x ho
  obtain⟨h1,h2⟩:=X5 C _ _ h
  exact⟨⟨.inl ⟨hw,fun w=>by simp[execOp,ho,h1]⟩,fun w=>by simp[Oper.about,ho]⟩,h2⟩
 ·rename_i x ho
  split at h
  ·rename_i j off hx
   cases h
   obtain⟨h1,h2⟩:=X5 C _ _ hx
   obtain⟨b,o',hb⟩:=Jbd ρ j off
   have e0:=hb 0
   simp only[Nat.add_zero] at e0
   exact⟨⟨.inl ⟨hw,fun w=>by simp[execOp,ho,h1,SV.den,valOf,e0]⟩,fun w=>by simp[Oper.about,ho]⟩,h2⟩
  ·cases h
 ·rename_i T x i ho
  split at h
  ·rename_i j off d U hx hf
   cases h
   obtain⟨h1,h2⟩:=X5 C _ _ hx
   obtain⟨b,o',hb⟩:=Jbd ρ j off
   refine⟨⟨.inl ⟨hw,fun w=> ?_⟩,fun w=>by simp[Oper.about,ho]⟩,h2⟩
   simp only[execOp,ho,h1]
   refine Ki ?_
   have e0:=hb 0
   simp only[Nat.add_zero] at e0
   simp only[SV.den,valOf,List.map]
   rw[e0,hb d]
   exact Ly hf b o' w
  ·cases h
 ·cases h
theorem Je0 [Dr] {w0:U7}:Jxv P N B w0 R Jtz:=fun _ _ _ _ h=>h.elim
theorem Jrs {F:Fence} {n:Nat} {o:Oper} {a:Act} {w:World} {K:Act→World→Prop} {Q Q':Exit→Act→World→Prop} (hp:∀c a w,Q (.panic c) a w→Q' (.panic c) a w) (hl:LetsOut Q→LetsOut Q')
  (hh:o.wpIn F n P a w K Q):o.wpIn F n P a w K Q':=by
 unfold Oper.wpIn at*
 refine⟨hh.1, ?_⟩
 have hh:=hh.2
 generalize(o.semAt F.round a.eval).run P w=r at*
 cases r with
 | ok x w' =>
  cases x<;>simp only[Oper.uponIn] at hh⊢<;>
   first
    |exact hh
    |exact⟨hh.1,CallsIn.mono hh.2 (fun e w'' he=>by cases e<;>first|exact he|exact hp _ _ _ he|exact hl he)⟩
    |exact⟨hh.1,RoundIn.mono hh.2 (fun e w'' he=>by cases e<;>first|exact he|exact hp _ _ _ he|exact hl he)⟩
 |halt x w'=>cases x<;>simp only[Oper.uponIn] at hh⊢<;>first|exact hh|exact hp _ _ _ hh|exact hl hh
theorem Jim [Dr] (hΓ:Vb P Γ) {il:IL} (hil:Jxy P il) {ops:Array Oper} (hN:∀o∈ops.toList,∀t,o.dst=some t→t<N) (hg:∀o∈ops.toList,o.guard=none) (hs:Region.noSelect ops=true) {Q:Exit→Act→World→Prop} (hQ:∀e a w,Q e a w→e= .normal) {k:St→Prop}
  (hK:∀st' a w,k st'→U3 P N B w0 R st' a w→Q .normal a w):∀(n:Nat) (listed:Array Bool) (st:St) (a:Act) (w:World),Jx4 P Γ il ops n listed st k→U3 P N B w0 R st a w→wpAnyIn (FR none) 0 P .any ops Q n listed a w
 |0,listed,st,a,w,h,hr=>by
  unfold Jx4 at h
  split at h
  ·rename_i e;exact wpAnyIn_done e (hK _ _ _ h hr) 0
  ·exact h.elim
 | n + 1, listed, st, a, w, h, hr => by
  unfold Jx4 at h
  split at h
  ·rename_i e;exact wpAnyIn_done e (hK _ _ _ h hr) (n+1)
  ·rename_i i e
   split at h
   ·rename_i o ho
    have hmem:o∈ops.toList:=Array.mem_toList_iff.2 (Array.mem_of_getElem? ho)
    refine wpAnyIn_all e (by simp) fun j hj=> ?_
    obtain rfl:j=i:=by simpa using hj
    have h1:=Jet (Q:=fun e a w=>match e with| .normal=>wpAnyIn (FR none) 0 P .any ops Q n (listed.setIfInBounds j true) a w|e=>Q e a w) hΓ (Je0 (P:=P) (N:=N) (B:=B) (w0:=w0) (R:=R)) @hil (rd:=none) (.inl rfl) (ops:=[o]) (opsA:= #[o]) rfl (fun o' ho'=>by simp at ho';rw[ho'];exact hN o hmem) (fun st' a' w' hk hs'=>Jim hΓ @hil hN hg hs hQ hK n _ st' a' w' hk hs') [o] 0 st a w rfl h hr
    have hg0:=hg o hmem
    have e1:wpOpsIn (FR none) 0 P #[o] (fun e a w=>match e with| .normal=>wpAnyIn (FR none) 0 P .any ops Q n (listed.setIfInBounds j true) a w|e=>Q e a w) (List.range' 0 [o].length) a w=_:=wpOpsIn_cons 0 [] a w
    rw[e1] at h1
    unfold wpOpIn at h1⊢
    have hw:∀(l:Array Oper),Region.wanted o (yielded l a.tmps)=true:=fun l=>by unfold Region.wanted;rw[hg0]
    simp only[List.getElem?_toArray,List.getElem?_cons_zero,hw,if_true,ho] at h1⊢
    refine Jrs (fun c a w hp=>hp) (fun⟨a,w,hp⟩=>⟨a,w,hp⟩) (Oper.wpIn_mono (fun a w hk=> ?_) h1)
    exact hk
   ·exact h.elim
  ·rename_i r hne1 hne2
   split at h
   ·rename_i i hi
    have hf:=List.find?_some hi
    have hm:=List.mem_of_find?_eq_some hi
    split at h
    ·rename_i o ho
     split at h
     ·rename_i v hv
      rw[Bool.and_eq_true] at hf
      have hmem:o∈ops.toList:=Array.mem_toList_iff.2 (Array.mem_of_getElem? ho)
      obtain⟨ρ,M,al,hal,C⟩:=id hr
      obtain⟨q1,q2⟩:=Jr8 (ops:=ops) C hv (hg o hmem)
      refine wpAnyIn_take rfl ho hs hf.1 (by simpa using hm) (fun c a' w' hp=> ?_) q1 ?_
      ·exact absurd (hQ _ _ _ hp) (by simp)
      ·exact Jim hΓ @hil hN hg hs hQ hK n _ _ _ w h (Xs (news:=[]) (upd:=[]) hal (C.pure (n:=st.nx) (hN o hmem) rfl q2))
     ·exact h.elim
    ·exact h.elim
   ·exact h.elim
end
end Go.Sx
namespace Go.Sx
open Go.RowKit
section
variable {P:Program} {Γ:Gam} {N B:Nat} {R:Nat→Prop}
theorem Jpi {ps:Array Tmp} {vs:List Value} {tmps:Array Value}:(ps.zip vs.toArray).foldl (fun t (p:Tmp×Value)=>t.setIfInBounds p.1 p.2) tmps=(ps.toList.zip vs).foldl (fun t (p:Tmp×Value)=>t.setIfInBounds p.1 p.2) tmps:=by
 rw[←Array.foldl_toList,Array.toList_zip]
theorem Jzc [Dr] {w0:U7} {y s lp:Nat} {rc:Loop} {T:Nat→Value} {ra rb:St→(Ex→St→Prop)→Prop}
  (hy:w0.an y=some (.loop lp rc)) (hs:w0.an s=some (.vals T)) (hT:∀t,T t=rc.tmps.getD t undef) (hN:rc.tmps.size=N) (hps:∀p∈rc.params.toList,p<N) (hmk:w0.marks=false)
  (hA:∀{w0':U7} {st:St} {k:Ex→St→Prop} {Q:Exit→Act→World→Prop},ra st k→(∀e st' a w,k e st'→U3 P N B w0' R st' a w→Q e.toExit a w)→∀a w,U3 P N B w0' R st a w→rc.assign.wpIn (FR (some lp)) 0 P Q a w)
  (hB:∀{w0':U7} {st:St} {k:Ex→St→Prop} {Q:Exit→Act→World→Prop},rb st k→(∀e st' a w,k e st'→U3 P N B w0' R st' a w→Q e.toExit a w)→∀a w,U3 P N B w0' R st a w→rc.body.wpIn (FR (some lp)) 0 P Q a w) (N':Nat):
  Jxv P N' B w0 R (ykF y s rc.params.toList ra rb):=by
 intro y' st1 l K ρ M al a w hal C hyr hids h
 unfold ykF at h
 split at h
 case isFalse=>exact h.elim
 rename_i hc
 obtain⟨rfl,hlen⟩:=hc
 split at h
 case h_2=>exact h.elim
 rename_i ls _ h2
 obtain⟨lp',rc',a1,a2,a3,a4,a5,a6⟩:=C.resA y' _ hyr
 rw[hy] at a1
 cases a1
 obtain⟨T',b1,b2⟩:=C.resA s _ h2
 rw[hs] at b1
 cases b1
 refine⟨lp,_,a2,a3,by simpa using hlen, ?_⟩
 refine roundIn_of_wpIn (F:=FR none) trivial ?_
 show rc.assign.wpIn (FR (some lp)) 0 P _ _ _
 have hz:∀id,al id→id≠st1.nx:=fun id h=>Nat.ne_of_lt (hal id h)
 let w0b:U7:={w0 with an:=fun id=>if id=st1.nx then some (.vals fun t=>a.tmps.getD t undef) else w0.an id}
 let ρb:Env:=fun id=>if id=st1.nx then .bool true else ρ id
 have hρ:∀id,al id→ρb id=ρ id:=fun id h=>if_neg (hz id h)
 have hden:∀v:SV,(∀id∈v.ids,al id)→v.den ρb=v.den ρ:=fun v h=>SV.den_congr fun id hid=>hρ id (h id hid)
 have hl:l.map (SV.den ρ)=l.map (SV.den ρb):=List.map_congr_left fun v hv=>(hden v (hids v hv)).symm
 have hlsids:∀p∈ls,∀id∈p.2.ids,al id:=fun p hp id hid=>(C.resIds s _ h2).2 id (List.mem_flatMap.2 ⟨p,hp,hid⟩)
 have hset:=Jjw (ρ:=ρb) (al:=al) (N:=N) (ps:=rc.params.toList) (vs:=l) (sl:=ls) (tmps:=rc.tmps) hlen.symm hps hN (fun t v ht=>by
  have hm:=Jq ht
  refine⟨?_,hlsids _ hm⟩
  rw[←hT,hden v (hlsids _ hm)]
  exact b2 _ hm) hids
 rw[←hl,←Jpi] at hset
 refine hA (w0':=w0b) h (fun e st2 a2' w2 hk hs2=> ?_) _ _ ⟨ρb,M,fun id=>al id∨id=st1.nx,fun id h=> ?_,⟨hset.1,⟨fun d hd=>by simp at hd, .nil⟩,fun _=>rfl,C.stay,C.stayR,C.below,C.base,fun t v ht=>(hset.2 t v ht).1,fun t v ht id hid=> .inl ((hset.2 t v ht).2 id hid), ?_, ?_, ?_,C.old, ?_,C.up,C.good⟩⟩
 rotate_left
 ·show id<st1.nx+1
  rcases h with h|h
  ·have:=hal id h;omega
  ·omega
 ·intro r x hx
  simp only[look] at hx
  split at hx
  ·rename_i e
   subst e;cases hx
   refine⟨_,if_pos rfl,fun p hp=> ?_⟩
   have h1:=Vx hp
   rw[hden p.2 (C.slotIds _ _ h1)]
   exact C.slot _ _ h1
  ·rename_i e
   have hr:=C.resIds r x hx
   refine((C.resA r x hx).keep (hρ r hr.1) (fun id hid=>hρ id (hr.2 id hid)) (fun _ h=>h) (fun _ _=>rfl) fun ho b hb=>⟨rfl,(C.notM hx ho hb).1⟩).base fun _=>if_neg (Ne.symm e)
 ·intro r x hx
  simp only[look] at hx
  split at hx
  ·rename_i e
   subst e;cases hx
   refine⟨.inr rfl,fun id hid=> ?_⟩
   obtain⟨p,hp,hid⟩:=List.mem_flatMap.1 hid
   exact .inl (C.slotIds _ _ (Vx hp) id hid)
  ·have hr:=C.resIds r x hx
   exact⟨.inl hr.1,fun id hid=> .inl (hr.2 id hid)⟩
 ·intro r r' x x' hne hx hx' ho ho' b hb hb'
  simp only[look] at hx hx'
  split at hx
  ·cases hx;cases ho
  ·split at hx'
   ·cases hx';cases ho'
   ·have e1:ρb r=ρ r:=hρ r (C.resIds r x hx).1
    have e2:ρb r'=ρ r':=hρ r' (C.resIds r' x' hx').1
    rw[e1] at hb
    rw[e2] at hb'
    exact C.apart r r' x x' hne hx hx' ho ho' b hb hb'
 ·rintro i (hi|hi)
  ·rw[hρ i hi];exact C.one i hi
  ·have:ρb i= .bool true:=if_pos hi
   rw[this];rfl
 ·-- the sides are assigned
  cases e with
  |exit i=>exact hk.elim
  |ret=>exact hk.elim
  |normal=>
  simp only at hk
  split at hk
  case h_2=>exact hk.elim
  rename_i hy2
  obtain⟨ρ2,M2,al2,hal2,C2⟩:=hs2
  have ha:w0b.an y'=some (.loop lp rc):=(if_neg (hz y' (C.resIds y' _ hyr).1)).trans hy
  have C3:=C2.setYld (s':= .busy) hy2 ha
  obtain⟨lp2,rc2,q1,q2,q3,_⟩:=C2.resA y' _ hy2
  rw[ha] at q1
  cases q1
  refine⟨_,run_beginRound q3 rfl, ?_⟩
  show rc.body.wpIn (FR (some lp)) 0 P _ _ _
  refine hB (w0':=w0b) hk (fun e st3 a3 w3 hk hs3=> ?_) _ _ ⟨ρ2,M2,al2,hal2,C3.weaken (fun _ _ h=>h) (fun id x h=> ?_) fun _=>Iff.rfl⟩
  rotate_left
  ·rw[Kl] at h
   exact h
  ·-- the body is left
   obtain⟨ρ3,M3,al3,hal3,C4⟩:=hs3
   split at hk
   case h_2=>exact hk.elim
   rename_i li hz3 hy3
   have C5:=C4.setYld (s':=Ju7 e) hy3 ha
   obtain⟨lp3,rc3,r1,r2,r3,_⟩:=C4.resA y' _ hy3
   rw[ha] at r1
   cases r1
   obtain⟨T3,t1,t2⟩:=C4.resA st1.nx _ hz3
   have t1':some (Jrf.vals fun t=>a.tmps.getD t undef)=some (Jrf.vals T3):=by rw[←t1];exact(if_pos rfl).symm
   cases t1'
   have hback:U3 P N' B w0 R ⟨st3.nx,li,Kb (Kb st3.rs (y',some (.yld (Ju7 e)))) (st1.nx,none)⟩ a (w3.putObj lp (.loop {rc with state:=(Ju7 e).st,pending:=(Ju7 e).pend})):=by
    have hlook:∀{r x},look (Kb (Kb st3.rs (y',some (.yld (Ju7 e)))) (st1.nx,none)) r=some x→r≠st1.nx∧(if r=y' then some (.yld (Ju7 e)) else look st3.rs r)=some x:=by
     intro r x h
     rw[Kl] at h
     split at h
     ·cases h
     ·rename_i hne
      rw[Kl] at h
      exact⟨hne,h⟩
    refine⟨ρ3,M3,al3,hal3,⟨C.size,by rw[C.nomark hmk];exact⟨fun d hd=>by simp at hd, .nil⟩,C.nomark,C5.stay,C5.stayR,C5.below,C5.base,fun t v ht=>t2 _ (Jq ht),fun t v ht id hid=>(C4.resIds _ _ hz3).2 id (List.mem_flatMap.2 ⟨_,Jq ht,hid⟩),fun r x hx=> ?_,fun r x hx=> ?_,fun r r' x x' hne hx hx'=> ?_,C5.old,C5.one,C5.up,C5.good⟩⟩
    ·obtain⟨h1,h2⟩:=hlook hx
     exact(C5.resA r x h2).base fun _=>(if_neg h1).symm
    ·exact C5.resIds r x (hlook hx).2
    ·exact C5.apart r r' x x' hne (hlook hx).2 (hlook hx').2
   cases e with
   |normal=>exact⟨_,_,run_endRound none r3,true,_,rfl,hk,hback⟩
   |exit i=>exact⟨_,_,run_endRound (some (.exit i)) r3,false,_,rfl,hk,hback⟩
   |ret=>exact⟨_,_,run_endRound (some .ret) r3,false,_,rfl,hk,hback⟩
end
end Go.Sx
namespace Go.Sx
open Go.RowKit
def J7b [Dr] (P:Program) (it:IT):Prop:=
 ∀{f:FuncId} {st:St} {yk:YK} {fin:St→Prop} {B:Nat} {w0:U7} {R:Nat→Prop} {args:Array Value} {w:World},it f st yk fin→w0.marks=false→(∀N,Jxv P N B w0 R yk)→
  (∀N,st.sl.length≤N→U3 P N B w0 R st {tmps:=args++Array.replicate (N-args.size) undef,defers:=[]} w)→
  X9 P f∧CallsIn (FR none) 0 P f args w fun e w'=>∃N v a' st',e= .returned v∧fin st'∧U3 P N B w0 R st' a' w'
section
variable {P:Program} {Γ:Gam} {N B:Nat} {w0:U7} {R:Nat→Prop}
theorem Jbk {α:Type}:∀{l:List α} {n:Nat},(Jis l n).length=l.length
 |[],_=>rfl
 |_::l,n=>by simp[Jis,Jbk (l:=l)]
theorem Jr7 [Dr] {t : Tmp} {ps : Array Tmp} {ca cb : Code} {it : IT} (hit : J7b P it) (hmk : w0.marks = true) {ra rb : St → (Ex → St → Prop) → Prop}
    (hA:∀{lp:Nat} {w0':U7} {st:St} {k:Ex→St→Prop} {Q:Exit→Act→World→Prop},ra st k→(∀e st' a w,k e st'→U3 P N B w0' R st' a w→Q e.toExit a w)→∀a w,U3 P N B w0' R st a w→ca.wpIn (FR (some lp)) 0 P Q a w)
    (hB:∀{lp:Nat} {w0':U7} {st:St} {k:Ex→St→Prop} {Q:Exit→Act→World→Prop},rb st k→(∀e st' a w,k e st'→U3 P N B w0' R st' a w→Q e.toExit a w)→∀a w,U3 P N B w0' R st a w→cb.wpIn (FR (some lp)) 0 P Q a w)
    (hps:∀p∈ps.toList,p<N) {st:St} {j:Nat} {f:FuncId} {caps:List SV} (ht:look st.sl t=some (.v false [.fv j])) (hj:look st.rs j=some (.clo f [] caps)) {k:Ex→St→Prop} {Q:Exit→Act→World→Prop}
    (h : it f ⟨st.nx + 2, Jis (SV.one (.fv st.nx) :: caps) 0, (st.nx, .yld .ready) :: (st.nx + 1, .sus (Jek st.sl)) :: st.rs⟩
            (ykF st.nx (st.nx+1) ps.toList ra rb) fun st2=>match look st2.rs st.nx,look st2.rs (st.nx+1) with
              | some (.yld s), some (.sus l) => match s.ex with
                |some e=>k e ⟨st2.nx,l,Kb (Kb st2.rs (st.nx,none)) (st.nx+1,none)⟩
                |none=>False
              |_,_=>False)
    (hK:∀e st' a w,k e st'→U3 P N B w0 R st' a w→Q e.toExit a w) (a:Act) (w:World) (hs:U3 P N B w0 R st a w):(Code.rangeFunc (.tmp t) ps ca cb).wpIn (FR none) 0 P Q a w:=by
  obtain⟨ρ,M,al,hal,C⟩:=hs
  have hclo:ρ j= .func (.func f) #[] (caps.map (SV.den ρ)).toArray:=C.res j _ hj
  have hv:a.eval (.tmp t)= .func (.func f) #[] (caps.map (SV.den ρ)).toArray:=(C.slot t _ ht).trans hclo
  refine wpIn_rangeFunc ?_
  intro fn _
  obtain⟨rc,hrc⟩:∃rc:Loop,rc={state:= .ready,pending:=none,fn,tmps:=a.tmps,params:=ps,assign:=ca,body:=cb,defers:=w.heap.size}:=⟨_,rfl⟩
  obtain⟨w1,hw1⟩:∃w1,w1=(w.alloc (.deferred (some []))).alloc (.loop rc):=⟨_,rfl⟩
  have hsz:w1.heap.size=w.heap.size+2:=by rw[hw1];simp
  have hlp:w1.heap[w.heap.size+1]? =some (.loop rc):=by
    rw[hw1];have:=World.alloc_heap_new (w.alloc (.deferred (some []))) (.loop rc);rwa[World.size_alloc] at this
  have hD:w1.heap[w.heap.size]? =some (.deferred (some [])):=by
    rw[hw1];exact(Below.heap_alloc _ _ _ (by simp)).trans (World.alloc_heap_new w _)
  have hb1:Below w.heap.size w w1:=by
    rw[hw1];exact((Below.refl _ w).alloc (Nat.le_refl _) _).alloc (by simp) _
  have hbB:Below B w w1:=⟨hb1.os,hb1.tape,hb1.output,hb1.size,fun k hk=>hb1.block k (Nat.lt_of_lt_of_le hk C.base),hb1.drawn⟩
  have hheap:∀k,k<w.heap.size→w1.heap[k]? =w.heap[k]? :=fun k hk=>hb1.block k hk
  have hfy:∀id,al id→id≠st.nx:=fun id h=>Nat.ne_of_lt (hal id h)
  have hfs:∀id,al id→id≠st.nx+1:=fun id h=>by have:=hal id h;omega
  let w0i:U7:={w:=w1,M:=fun b=>M b∨b=w.heap.size,an:=fun id=>if id=st.nx then some (.loop (w.heap.size+1) rc) else if id=st.nx+1 then some (.vals fun t=>a.tmps.getD t undef) else w0.an id,marks:=false}
  let ρi:Env:=fun id=>if id=st.nx then .func (.yield (w.heap.size+1)) #[] #[] else if id=st.nx+1 then .bool true else ρ id
  have hρ:∀id,al id→ρi id=ρ id:=fun id h=>(if_neg (hfy id h)).trans (if_neg (hfs id h))
  have hρy:ρi st.nx= .func (.yield (w.heap.size+1)) #[] #[]:=if_pos rfl
  have hρs:ρi (st.nx+1)= .bool true:=(if_neg (by omega)).trans (if_pos rfl)
  have hden:∀v:SV,(∀id∈v.ids,al id)→v.den ρi=v.den ρ:=fun v h=>SV.den_congr fun id hid=>hρ id (h id hid)
  have hcids:∀v∈caps,∀id∈v.ids,al id:=fun v hv id hid=>(C.resIds j _ hj).2 id (by simp only[Res.ids,List.flatMap_nil,List.nil_append];exact List.mem_flatMap.2 ⟨v,hv,hid⟩)
  obtain⟨args,hargs⟩:∃args:Array Value,args= #[.func (.yield (w.heap.size+1)) #[] #[]]++(caps.map (SV.den ρ)).toArray:=⟨_,rfl⟩
  have hargsz:args.size=caps.length+1:=by rw[hargs];simp[Nat.add_comm]
  have hargs':args=((SV.one (.fv st.nx)::caps).map (SV.den ρi)).toArray:=by
    rw[hargs]
    have e1:(SV.one (.fv st.nx)).den ρi= .func (.yield (w.heap.size+1)) #[] #[]:=hρy
    have e2:caps.map (SV.den ρi)=caps.map (SV.den ρ):=List.map_congr_left fun v hv=>hden v (hcids v hv)
    rw[List.map_cons,e1,e2]
    apply Array.ext';simp
  obtain⟨hent,hcall⟩:=hit (B:=B) (w0:=w0i) (R:=R) (args:=args) (w:=w1) h rfl
    (fun N'=>by
      have this:Jxv P N' B w0i R (ykF st.nx (st.nx+1) rc.params.toList ra rb):=Jzc (P:=P) (N:=N) (B:=B) (R:=R) (w0:=w0i) (y:=st.nx) (s:=st.nx+1) (lp:=w.heap.size+1) (rc:=rc) (T:=fun t=>a.tmps.getD t undef) (ra:=ra) (rb:=rb) (if_pos rfl) ((if_neg (by omega)).trans (if_pos rfl)) (fun t=>by rw[hrc]) (by rw[hrc];exact C.size) (by rw[hrc];exact hps) rfl (by rw[hrc];exact hA) (by rw[hrc];exact hB) N'
      have e:rc.params.toList=ps.toList:=by rw[hrc]
      rw[e] at this
      exact @this)
    (fun N' hN' => by
      simp only[Jbk,List.length_cons] at hN'
      refine⟨ρi,fun b=>M b∨b=w.heap.size,fun id=>al id∨id=st.nx∨id=st.nx+1,fun id h=> ?_,⟨by simp[hargsz];omega,⟨fun d hd=>by simp at hd, .nil⟩,fun _=>rfl,fun _ _=>rfl,fun _ _=>rfl,Below.refl _ _,Nat.le_trans C.base hb1.size,fun t v ht=> ?_,fun t v ht id hid=> ?_,fun r x hx=> ?_,fun r x hx=> ?_,fun r r' x x' hne hx hx' ho ho' b hb hb'=> ?_, ?_, ?_,fun b=>⟨fun h=> .inl h,fun h=>h⟩,fun w' hw'=>C.good w' (C.below.trans (hbB.trans hw'))⟩⟩
      · show id < st.nx + 2
        rcases h with h|h|h
        ·have:=hal id h;omega
        ·omega
        ·omega
      · simp only at ht
        rw[Us,if_pos (Nat.zero_le _),Nat.sub_zero] at ht
        have hlt:t<args.size:=by rw[hargsz];have:=(List.getElem?_eq_some_iff.1 ht).1;simpa using this
        have:args[t]? =some (v.den ρi):=by rw[hargs',List.getElem?_toArray,List.getElem?_map,ht];rfl
        simp only[Array.getD_eq_getD_getElem?,Array.getElem?_append,hlt,if_true,this,Option.getD_some]
      · simp only at ht
        rw[Us,if_pos (Nat.zero_le _),Nat.sub_zero] at ht
        have hm:=List.mem_of_getElem? ht
        rcases List.mem_cons.1 hm with rfl|hm
        · simp only [SV.ids, Js, SC.ids, List.flatMap_cons, List.flatMap_nil, List.append_nil, List.mem_singleton] at hid
          exact .inr (.inl hid)
        ·exact .inl (hcids v hm id hid)
      · simp only [look] at hx
        split at hx
        · rename_i e
          subst e;cases hx
          refine⟨_,rc,if_pos rfl,hρy, ?_, ?_, ?_, ?_⟩
          ·rw[hlp,hrc];rfl
          · rintro (hb | hb)
            ·have:=C.old _ (.inl hb);omega
            ·omega
          ·intro hb;have:=C.old _ (.inr hb);omega
          ·have:=C.base;omega
        · rename_i e1
          split at hx
          · rename_i e2
            subst e2;cases hx
            refine⟨_,(if_neg (by omega)).trans (if_pos rfl),fun p hp=> ?_⟩
            have h1:=Vx hp
            rw[hden p.2 (C.slotIds _ _ h1)]
            exact C.slot _ _ h1
          · rename_i e2
            have hr:=C.resIds r x hx
            refine((C.resA r x hx).keep (hρ r hr.1) (fun id hid=>hρ id (hr.2 id hid)) (fun _ h=> .inl h) (fun b hb=>hheap b (C.old b hb)) fun ho b hb=> ?_).base fun _=>(if_neg (Ne.symm e1)).trans (if_neg (Ne.symm e2))
            have h4:=C.notM hx ho hb
            exact⟨hheap b h4.2.2.2,fun h=>by
              rcases h with h|h
              ·exact h4.1 h
              ·have:=h4.2.2.2;omega⟩
      · simp only [look] at hx
        split at hx
        · rename_i e
          subst e;cases hx
          exact⟨.inr (.inl rfl),fun id hid=>by simp[Res.ids] at hid⟩
        · split at hx
          · rename_i e2
            subst e2;cases hx
            refine⟨.inr (.inr rfl),fun id hid=> ?_⟩
            obtain⟨p,hp,hid⟩:=List.mem_flatMap.1 hid
            exact .inl (C.slotIds _ _ (Vx hp) id hid)
          · have hr := C.resIds r x hx
            exact⟨.inl hr.1,fun id hid=> .inl (hr.2 id hid)⟩
      · have get : ∀ {r x}, look ((st.nx, Res.yld .ready) :: (st.nx + 1, Res.sus (Jek st.sl)) :: st.rs) r = some x → x.owning = true → ∀ b, blk (ρi r) = some b → (r = st.nx ∧ b = w.heap.size + 1) ∨ (look st.rs r = some x ∧ ρi r = ρ r ∧ b < w.heap.size) := by
          intro r x hx ho b hb
          simp only[look] at hx
          split at hx
          · rename_i e
            subst e
            rw[hρy] at hb
            cases hb
            exact .inl ⟨rfl,rfl⟩
          · split at hx
            ·cases hx;cases ho
            · have e := hρ r (C.resIds r x hx).1
              rw[e] at hb
              exact .inr ⟨hx,e,(C.notM hx ho hb).2.2.2⟩
        rcases get hx ho b hb with⟨g1,g2⟩|⟨g1,g2,g3⟩<;>rcases get hx' ho' b hb' with⟨k1,k2⟩|⟨k1,k2,k3⟩
        ·exact hne (g1.trans k1.symm)
        ·omega
        ·omega
        · rw [g2] at hb
          rw[k2] at hb'
          exact C.apart r r' x x' hne g1 k1 ho ho' b hb hb'
      · rintro b (h | h)
        · rcases h with h | h
          ·have:=C.old b (.inl h);omega
          ·omega
        ·have:=C.old b (.inr h);omega
      · rintro i (hi | hi | hi)
        ·rw[hρ i hi];exact C.one i hi
        ·rw[hi,hρy];rfl
        ·rw[hi,hρs];rfl)
  refine⟨w.heap.size+1,[{target:= .collected w.heap.size,args:= #[]}],w1,{target:= .fn (.func f) (caps.map (SV.den ρ)).toArray,args:= #[.func (.yield (w.heap.size+1)) #[] #[]]},w1,f,args,w1, ?_, ?_,fun _ _=>trivial, ?_,fun h=>by simp[FR,Fence.wide] at h, ?_⟩
  ·rw[hw1,hrc];exact run_enterLoop_outer _ _ _ _ _
  · simp only [resolve, hv]
    simp[go_sem]
  · rw [hargs]
    simp[invoke,go_sem,Kr hent]
  · -- behind the loop's function
    refine hcall.mono ?_
    rintro e w' ⟨N',v,a',st2,rfl,hfin,ρf,Mf,alf,half,Cf⟩
    split at hfin
    case h_2=>exact hfin.elim
    rename_i s l hy2 hs2
    split at hfin
    case h_2=>exact hfin.elim
    rename_i e he
    obtain⟨lp2,rc2,q1,q2,q3,q4,q5,q6⟩:=Cf.resA st.nx _ hy2
    have q1':some (Jrf.loop (w.heap.size+1) rc)=some (Jrf.loop lp2 rc2):=by rw[←q1];exact(if_pos rfl).symm
    cases q1'
    obtain⟨T3,t1,t2⟩:=Cf.resA (st.nx+1) _ hs2
    have t1':some (Jrf.vals fun t=>a.tmps.getD t undef)=some (Jrf.vals T3):=by rw[←t1];exact((if_neg (by omega)).trans (if_pos rfl)).symm
    cases t1'
    have hnb:s.st≠ .busy:=by
      intro e0
      cases s with
      |ready=>cases e0
      |busy=>cases he
      |done _=>cases e0
    refine⟨_,_,run_endLoop q3 hnb, ?_⟩
    have hlook:∀{r x},look (Kb (Kb st2.rs (st.nx,none)) (st.nx+1,none)) r=some x→r≠st.nx∧r≠st.nx+1∧look st2.rs r=some x:=by
      intro r x h
      rw[Kl] at h
      split at h
      ·cases h
      · rename_i hne
        rw[Kl] at h
        split at h
        ·cases h
        · rename_i hne2
          exact⟨hne2,hne,h⟩
    have C2:Jn P N' B w0i alf (look st2.sl) (look (Kb (Kb st2.rs (st.nx,none)) (st.nx+1,none))) a' w' ρf Mf R:=Cf.weaken (fun _ _ h=>h) (fun i x h=>(hlook h).2.2) fun _=>Iff.rfl
    have C3:=C2.putFree (.loop {{rc with state:=s.st,pending:=s.pend} with state:= .exhausted}) q6 q4 q5 (fun r x hx ho hb=>by
      obtain⟨h1,_,h3⟩:=hlook hx
      exact Cf.apart r st.nx x _ h1 h3 hy2 ho rfl _ hb (by rw[q2];rfl))
    have hDne:w.heap.size≠w.heap.size+1:=by omega
    have hmarkD:Mf w.heap.size:=(Cf.up _).2 (.inr rfl)
    have hback:U3 P N B w0 R ⟨st2.nx,l,Kb (Kb st2.rs (st.nx,none)) (st.nx+1,none)⟩ {a with defers:=[{target:= .collected w.heap.size,args:= #[]}]++a.defers} (w'.putObj (w.heap.size+1) (.loop {{rc with state:=s.st,pending:=s.pend} with state:= .exhausted})):=by
      have hMf:∀b,M b→Mf b:=fun b hb=>(Cf.up b).2 (.inl hb)
      refine⟨ρf,Mf,alf,half,⟨C.size,⟨fun d hd=> ?_, ?_⟩,fun h=>(by rw[hmk] at h;cases h),fun b hb=> ?_,fun b hb=>((C3.stayR b hb).trans (hheap b (C.old b (.inr hb)))).trans (C.stayR b hb),(C.below.trans hbB).trans C3.below,C3.base,fun t v ht=>t2 _ (Jq ht),fun t v ht id hid=>(Cf.resIds _ _ hs2).2 id (List.mem_flatMap.2 ⟨_,Jq ht,hid⟩),fun r x hx=> ?_,C3.resIds,C3.apart,C3.old,C3.one,fun b=>⟨fun h=> ?_,fun h=> ?_⟩,C.good⟩⟩
      · rcases List.mem_append.1 hd with hd | hd
        · refine ⟨w.heap.size, List.mem_singleton.1 hd, hmarkD, (C3.stay _ (.inr rfl)).trans hD, fun h => ?_, C.base, C.below.size⟩
          have:=C.old _ (.inr h);omega
        · obtain ⟨D', d1, d2, d3, d4⟩ := C.defers.1 d hd
          exact⟨D',d1,hMf D' d2,((C3.stay D' (.inl d2)).trans (hheap D' (C.old D' (.inl d2)))).trans d3,d4⟩
      · refine List.nodup_cons.2 ⟨fun hm => ?_, C.defers.2⟩
        obtain⟨D',d1,d2,d3,d4⟩:=C.defers.1 _ hm
        have e:w.heap.size=D':=by injection d1 with d1 _;injection d1
        have:=C.old D' (.inl d2);omega
      · have hb' : M b := (C.up b).2 hb
        exact((C3.stay b (.inl hb')).trans (hheap b (C.old b (.inl hb')))).trans (C.stay b hb)
      ·exact(C3.resA r x hx).base fun _=>((if_neg (hlook hx).1).trans (if_neg (hlook hx).2.1)).symm
      · rcases (C3.up b).1 h with h | h
        · rcases h with h | h
          ·exact(C.up b).1 h
          ·right;rw[h];exact⟨C.base,fun hR=>Nat.lt_irrefl _ (C.old _ (.inr hR))⟩
        ·exact .inr h
      ·exact hMf b ((C.up b).2 h)
    cases s with
    |ready=>cases he;exact hK .normal _ _ _ hfin hback
    |busy=>cases he
    | done o =>
      cases o with
      |none=>cases he;exact wpIn_ret (hK .ret _ _ _ hfin hback)
      |some i=>cases he;exact wpIn_exit (hK (.exit i) _ _ _ hfin hback)
end
end Go.Sx

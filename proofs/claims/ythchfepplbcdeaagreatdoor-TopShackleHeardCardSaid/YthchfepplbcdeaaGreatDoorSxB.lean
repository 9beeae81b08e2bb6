/- A symbolic executor over the model and its soundness: part of the proof. -/
import Derived.Test.YthchfepplbcdeaaGreatDoorSxA
import Derived.ArgAppend
import Derived.Laws.Externs
import Derived.KernelRfl
import Derived.OrdersIn
import Derived.Scope
import Derived.Maps.RangeRun
import Derived.RangeFuncLeaves
import Derived.RangeFuncRecord
import Derived.RangeFuncOwn
set_option linter.unusedSimpArgs false
set_option linter.unusedVariables false
namespace Go.Sx
open Go.RowKit
theorem Jed {a b:ByteArray} (h:a.toList=b.toList):a=b:=by
 have h1:(a==b)=true:=by rw[beq_toListBytes,h];simp
 cases a with|mk a=>cases b with|mk b=>
 have h2:(a==b)=true:=h1
 rw[LawfulBEq.eq_of_beq h2]
theorem Jdy:∀{s:Sch} {a b:s.T},Xs s a b=true→a=b
 | .int _,a,b,h=>by
  replace h: @BEq.beq Int _ a b=true:=h
  exact LawfulBEq.eq_of_beq h
 | .bool,a,b,h=>by
  replace h: @BEq.beq Bool _ a b=true:=h
  exact LawfulBEq.eq_of_beq h
 | .str,a,b,h=>by
  replace h:(ByteArray.toList a==ByteArray.toList b)=true:=h
  exact Jed (LawfulBEq.eq_of_beq h)
 | .flt _,_,_,h=>by cases h
 | .fnc,_,_,h=>by cases h
 | .prod p q,a,b,h=>by
  simp only[Xs,Bool.and_eq_true] at h
  exact Prod.ext (Jdy h.1) (Jdy h.2)
 | .list _ _,_,_,h=>by cases h
theorem Di {rs:Nat→Option Res}:∀{s:Sch} {cs:List SC} {x:s.T},dec rs s cs=some x→s.hasList=false→cs=enc s x
 | .int k, cs, x, h, _ => by
  replace h:Jgd k cs=some x:=h
  unfold Jgd at h
  split at h
  ·split at h
   ·rename_i e;subst e;cases h;rfl
   ·cases h
  ·cases h
 | .bool,cs,x,h,_=>by
  replace h:Jbf cs=some x:=h
  unfold Jbf at h
  split at h
  ·cases h;rfl
  ·cases h
 | .str,cs,x,h,_=>by
  replace h:Jgc cs=some x:=h
  unfold Jgc at h
  split at h
  ·cases h;rfl
  ·cases h
 | .flt k, cs, x, h, _ => by
  replace h:Jge k cs=some x:=h
  unfold Jge at h
  split at h
  ·split at h
   ·rename_i e;subst e;cases h;rfl
   ·cases h
  ·cases h
 | .fnc,_,_,_,hl=>by cases hl
 | .prod a b, cs, x, h, hl => by
  simp only[Sch.hasList,Bool.or_eq_false_iff] at hl
  simp only[dec] at h
  split at h
  ·rename_i y z ha hb
   cases h
   show cs=enc a y++enc b z
   rw[←Di ha hl.1,←Di hb hl.2,List.take_append_drop]
  ·cases h
 | .list _ _,_,_,_,hl=>by cases hl
theorem Hs:∀{v:Value} (n:Nat),(match v with| .bool _=>true| .int _ _=>true| .string _=>true| .float _ _=>true|_=>false)=true→Instr.sameBits n v v=true:=by
 intro v n h
 cases v<;>first|(cases h;done)|(cases n<;>simp[Instr.sameBits,beq_toListBytes])
theorem Jd8 (ρ:Env):∀{s:Sch} (x:s.T),s.hasList=false→∀v∈(enc s x).map (SC.den ρ),(match v with| .bool _=>true| .int _ _=>true| .string _=>true| .float _ _=>true|_=>false)=true
 | .int _,_,_,v,hv=>by simp[enc,SC.den] at hv;subst hv;rfl
 | .bool,_,_,v,hv=>by simp[enc,SC.den] at hv;subst hv;rfl
 | .str,_,_,v,hv=>by simp[enc,SC.den] at hv;subst hv;rfl
 | .flt _,_,_,v,hv=>by simp[enc,SC.den] at hv;subst hv;rfl
 | .fnc,_,hl,_,_=>by cases hl
 | .prod a b,x,hl,v,hv=>by
  simp only[Sch.hasList,Bool.or_eq_false_iff] at hl
  simp only[enc,List.map_append,List.mem_append] at hv
  rcases hv with hv|hv
  ·exact Jd8 ρ x.1 hl.1 v hv
  ·exact Jd8 ρ x.2 hl.2 v hv
 | .list _ _,_,hl,_,_=>by cases hl
theorem Jbr {g:Bool} {vs:List Value} (h:∀v∈vs,(match v with| .bool _=>true| .int _ _=>true| .string _=>true| .float _ _=>true|_=>false)=true) (h1:g=false→vs.length=1):Instr.sameBits 10000 (valOf g vs) (valOf g vs)=true:=by
 cases g with
 |false=>
  match vs,h1 rfl with
  |[v],_=>exact Hs _ (h v (by simp))
 | true =>
  show Instr.sameBits (9999+1) (.agg vs.toArray) (.agg vs.toArray)=true
  simp only[Instr.sameBits,beq_self_eq_true,Bool.true_and,List.all_eq_true]
  rintro⟨x,y⟩ hm
  have key:∀l:List Value,(x,y)∈l.zip l→x=y∧x∈l:=by
   intro l
   induction l with
   |nil=>intro h;simp at h
   |cons a l ih=>
    intro h
    simp only[List.zip_cons_cons,List.mem_cons] at h
    rcases h with h|h
    ·cases h;exact⟨rfl,by simp⟩
    ·have:=ih h;exact⟨this.1,by simp[this.2]⟩
  obtain⟨e,hx⟩:=key _ hm
  subst e
  exact Hs _ (h x hx)
section
variable {P:Program} {w:World}
theorem Jbh (ρ : Env) {e : Bool} : ∀ {d : Nat} {T : TypeId} {cs : List SC} {g : Bool}, Jnj P d T cs = true → Kc P T = some g → (g = false → cs.length = 1) → ∀ D, d ≤ D → (Instr.checkKey e D T (valOf g (cs.map (SC.den ρ)))).run P w = .ok () w
 |0,_,_,_,h,_,_,_,_=>by cases h
 | d + 1, T, cs, g, h, hg, h1, D, hD => by
  obtain⟨D,rfl⟩:∃D',D=D'+1:=⟨D-1,by omega⟩
  simp only[Jnj] at h
  cases hu:P.underlying T with
  |none=>rw[hu] at h;cases h
  | some dd =>
   rw[hu] at h
   cases dd<;>try(cases h;done)
   case bool=>simp only[Instr.checkKey,Sem.run_bind,run_underlying hu,Result.andThen_ok];rfl
   case int k=>simp only[Instr.checkKey,Sem.run_bind,run_underlying hu,Result.andThen_ok];rfl
   case string=>simp only[Instr.checkKey,Sem.run_bind,run_underlying hu,Result.andThen_ok];rfl
   case struct fs =>
    have hg':g=true:=by
     unfold Kc at hg
     rw[hu] at hg
     cases hg;rfl
    subst hg'
    simp only[valOf]
    simp only[Instr.checkKey,Sem.run_bind,run_underlying hu,Result.andThen_ok]
    rw[←Array.forIn_toList]
    simp only at h
    rw[List.all_eq_true] at h
    generalize fs.toList=l at h⊢
    induction l with
    |nil=>rfl
    | cons f l ih =>
     have hf:=h f (by simp)
     have ih:=ih fun f' hf'=>h f' (by simp[hf'])
     rw[List.forIn_cons]
     by_cases hn:f.name= "_"
     ·simp only[hn,ne_eq,not_true_eq_false,if_false,Sem.run_bind,Sem.run_pure,Result.andThen_ok]
      exact ih
     ·have hn':(f.name== "_")=false:=by simpa using hn
      rw[hn',Bool.false_or] at hf
      split at hf
      ·rename_i n g' hs ha
       simp only[Bool.and_eq_true,Nat.ble_eq,Bool.or_eq_true,beq_iff_eq] at hf
       obtain⟨⟨f1,f2⟩,f3⟩:=hf
       have hpart:=Hz (P:=P) (w:=w) (cs:=cs.map (SC.den ρ)) (off:=f.offset) ha hs (by simpa using f1) (fun e=>by
        rcases f2 with f2|f2
        ·rw[f2] at e;cases e
        ·exact f2)
       have hlen:((cs.drop f.offset).take n).length=n:=by simp;omega
       have hck:=Jbh ρ (e:=e) f3 ha (fun e=>by
        rw[hlen]
        rcases f2 with f2|f2
        ·rw[f2] at e;cases e
        ·exact f2) D (by omega)
       rw[←List.map_drop,←List.map_take] at hpart
       simp only[ne_eq,hn,not_false_eq_true,if_true,Sem.run_bind,hpart,Result.andThen_ok,hck,Sem.run_pure]
       exact ih
      ·cases hf
def Lv {β:Type} (ks:Sch) (k:ks.T):List (ks.T×β)→List MapEntry→Nat→Option (Nat×Value)
 |x::l,e::es,i=>if Xs ks k x.1=true then some (i,e.val) else Lv ks k l es (i+1)
 |_,_,_=>none
theorem Jkk (ρ:Env) {kT:TypeId} {kind:TypeDesc} {g:Bool} {xs ys:List SC} {b:Bool} {d:Nat} (hu:P.underlying kT=some kind) (hg:Kc P kT=some g) (h:eqT P (d+1) kT xs ys=some b):
  Instr.sameNow kind (valOf g (xs.map (SC.den ρ))) (valOf g (ys.map (SC.den ρ)))=some b∨Instr.sameNow kind (valOf g (xs.map (SC.den ρ))) (valOf g (ys.map (SC.den ρ)))=none:=by
 unfold Kc at hg
 rw[hu] at hg
 simp only[eqT,hu] at h
 cases kind<;>try(exact .inr rfl)
 case bool=>
  cases hg
  simp only at h
  split at h
  ·cases h;exact .inl rfl
  ·cases h
 case int k=>
  cases hg
  simp only at h
  split at h
  ·split at h
   ·rename_i e;subst e
    cases h
    left
    simp[valOf,SC.den,Instr.sameNow]
   ·cases h
  ·cases h
 case string=>
  cases hg
  simp only at h
  split at h
  ·cases h
   left
   simp[valOf,SC.den,Instr.sameNow,beq_toListBytes]
  ·cases h
variable {M:Nat→Prop}
theorem Jn3 (ρ:Env) {kT:TypeId} {gk gv:Bool} {ks vs:Sch} (H:Jel P kT gk gv ks vs) (kd:ks.T):∀{l:List (ks.T×vs.T)} {n:Nat} {es:List MapEntry} {i:Nat},Jt M w gk gv ks vs l n es→
  (∀kind,P.underlying kT=some kind→Instr.findNow kind (valOf gk ((enc ks kd).map (SC.den ρ))) es i=none∨Instr.findNow kind (valOf gk ((enc ks kd).map (SC.den ρ))) es i=some (Lv ks kd l es i))∧
  (Instr.findAsking kT (valOf gk ((enc ks kd).map (SC.den ρ))) es i).run P w= .ok (Lv ks kd l es i) w
 |[],n,es,i,h=>by
  have h:es=[]:=h
  subst h
  exact⟨fun kind _=> .inr rfl,rfl⟩
 | x :: l, n, es, i, h => by
  obtain⟨kc,vc,r,rfl,h1,h2,h3⟩:=h
  obtain⟨hg,hno,hg1,hg2,heq,_⟩:=id H
  have hkc:=Kt ρ hno h1
  subst hkc
  obtain⟨ih1,ih2⟩:=Jn3 ρ H kd (i:=i+1) h3
  have hq:=heq kd x.1
  refine⟨fun kind hk=> ?_, ?_⟩
  ·rcases Jkk ρ hk hg hq with e|e
   ·simp only[Instr.findNow,e,Lv]
    cases hb:Xs ks kd x.1 with
    |true=>exact .inr rfl
    |false=>simpa using ih1 kind hk
   ·simp only[Instr.findNow,e]
    exact .inl trivial
  ·obtain⟨g,g1,_,g3⟩:=Jga (P:=P) (w:=w) ρ hq 10000 (by omega)
   rw[hg] at g1
   cases g1
   have g3:(Op.equal kT (valOf gk ((enc ks kd).map (SC.den ρ))) (valOf gk ((enc ks x.1).map (SC.den ρ)))).run P w= .ok (Xs ks kd x.1) w:=g3
   simp only[Instr.findAsking,Sem.run_bind,g3,Result.andThen_ok,Lv]
   cases hb:Xs ks kd x.1 with
   |true=>rfl
   |false=>simpa using ih2
theorem Df (ρ:Env) {kT:TypeId} {gk gv:Bool} {ks vs:Sch} (H:Jel P kT gk gv ks vs) (kd:ks.T) {l:List (ks.T×vs.T)} {n:Nat} {es:List MapEntry} (h:Jt M w gk gv ks vs l n es):
  (Instr.findKey kT (valOf gk ((enc ks kd).map (SC.den ρ))) es).run P w= .ok (Lv ks kd l es 0) w:=by
 obtain⟨kind,hk⟩:∃kind,P.underlying kT=some kind:=by
  have:=H.1
  unfold Kc at this
  cases hu:P.underlying kT with
  |none=>rw[hu] at this;cases this
  |some k=>exact⟨k,rfl⟩
 obtain⟨h1,h2⟩:=Jn3 ρ H kd (i:=0) h
 simp only[Instr.findKey,Sem.run_bind,run_underlying hk,Result.andThen_ok]
 rcases h1 kind hk with e|e
 ·rw[e];exact h2
 ·rw[e];rfl
theorem X4 {gk gv:Bool} {ks vs:Sch} {kd:ks.T}:∀{l:List (ks.T×vs.T)} {n:Nat} {es:List MapEntry} {i:Nat},Jt M w gk gv ks vs l n es→Lv ks kd l es i=none→
  Jv ks kd l=none∧Y0 ks kd l=l.length∧∀v:vs.T,Kj ks kd v l=l++[(kd,v)]
 |[],_,_,_,_,_=>⟨rfl,rfl,fun _=>rfl⟩
 | x :: l, n, es, i, h, hr => by
  obtain⟨kc,vc,r,rfl,h1,h2,h3⟩:=h
  simp only[Lv] at hr
  split at hr
  ·cases hr
  ·rename_i hb
   obtain⟨e1,e2,e3⟩:=X4 h3 hr
   refine⟨by simp only[Jv,if_neg hb,e1],by simp only[Y0,if_neg hb,e2,List.length_cons],fun v=>by simp only[Kj,if_neg hb,e3];rfl⟩
theorem X3 {gk gv:Bool} {ks vs:Sch} {kd:ks.T}:∀{l:List (ks.T×vs.T)} {n:Nat} {es:List MapEntry} {i p:Nat} {v:Value},Jt M w gk gv ks vs l n es→Lv ks kd l es i=some (p,v)→
  ∃q x kc vc,p=i+q∧l[q]? =some x∧es[q]? =some {key:=valOf gk kc,val:=v,born:=n+q}∧v=valOf gv vc∧x.1=kd∧Rep M w ks kd kc∧Rep M w vs x.2 vc∧Jv ks kd l=some x.2∧Y0 ks kd l=q∧∀v:vs.T,Kj ks kd v l=l.set q (kd,v)
 |[],_,_,_,_,_,h,hr=>by
  cases hr
 | x :: l, n, es, i, p, v, h, hr => by
  obtain⟨kc,vc,r,rfl,h1,h2,h3⟩:=h
  simp only[Lv] at hr
  split at hr
  ·rename_i hb
   cases hr
   have hx:kd=x.1:=Jdy hb
   refine⟨0,x,kc,vc,by omega,rfl,rfl,rfl,hx.symm,by rw[hx];exact h1,h2,by simp only[Jv,if_pos hb],by simp only[Y0,if_pos hb],fun v=>by simp only[Kj,if_pos hb];rfl⟩
  ·rename_i hb
   obtain⟨q,y,kc',vc',e1,e2,e3,e4,e5,e6,e7,e8,e9,e10⟩:=X3 h3 hr
   refine⟨q+1,y,kc',vc',by omega,by simpa using e2, ?_,e4,e5,e6,e7,by simp only[Jv,if_neg hb,e8],by simp only[Y0,if_neg hb,e9],fun v=>by simp only[Kj,if_neg hb,e10];rfl⟩
   rw[show n+(q+1)=n+1+q by omega]
   simpa using e3
theorem Jt.length {gk gv:Bool} {ks vs:Sch}:∀{l:List (ks.T×vs.T)} {n:Nat} {es:List MapEntry},Jt M w gk gv ks vs l n es→es.length=l.length
 |[],_,_,h=>by rw[show _=[] from h];rfl
 |_::_,_,_,⟨_,_,r,e,_,_,h⟩=>by rw[e,List.length_cons,List.length_cons,h.length]
theorem Jt.snoc {gk gv:Bool} {ks vs:Sch} {kd:ks.T} {vd:vs.T} {kc vc:List Value} (hk:Rep M w ks kd kc) (hv:Rep M w vs vd vc):∀{l:List (ks.T×vs.T)} {n:Nat} {es:List MapEntry},Jt M w gk gv ks vs l n es→Jt M w gk gv ks vs (l++[(kd,vd)]) n (es++[{key:=valOf gk kc,val:=valOf gv vc,born:=n+l.length}])
 |[],n,_,h=>by
  have h:_=[]:=h
  subst h
  exact⟨kc,vc,[],rfl,hk,hv,rfl⟩
 |x::l,n,_,⟨kc',vc',r,e,h1,h2,h3⟩=>by
  subst e
  refine⟨kc',vc',_,rfl,h1,h2, ?_⟩
  have:=Jt.snoc hk hv h3
  rwa[show n+1+l.length=n+(x::l).length by simp only[List.length_cons];omega] at this
theorem Jt.put {gk gv:Bool} {ks vs:Sch} {kd:ks.T} {vd:vs.T} {kc vc:List Value} (hk:Rep M w ks kd kc) (hv:Rep M w vs vd vc):∀{l:List (ks.T×vs.T)} {n:Nat} {es:List MapEntry} {q:Nat},Jt M w gk gv ks vs l n es→Jt M w gk gv ks vs (l.set q (kd,vd)) n (es.modify q fun e=>{key:=valOf gk kc,val:=valOf gv vc,born:=e.born})
 |[],n,_,q,h=>by
  have h:_=[]:=h
  subst h
  simp;rfl
 |x::l,n,_,0,⟨kc',vc',r,e,h1,h2,h3⟩=>by
  subst e
  exact⟨kc,vc,r,rfl,hk,hv,h3⟩
 |x::l,n,_,q+1,⟨kc',vc',r,e,h1,h2,h3⟩=>by
  subst e
  exact⟨kc',vc',_,rfl,h1,h2,Jt.put hk hv h3⟩
theorem Jt.get {gk gv:Bool} {ks vs:Sch}:∀{l:List (ks.T×vs.T)} {n:Nat} {es:List MapEntry} {q:Nat} {x:ks.T×vs.T},Jt M w gk gv ks vs l n es→l[q]? =some x→
  ∃kc vc,es[q]? =some {key:=valOf gk kc,val:=valOf gv vc,born:=n+q}∧Rep M w ks x.1 kc∧Rep M w vs x.2 vc
 |[],_,_,_,_,_,hx=>by simp at hx
 |y::l,n,_,0,x,⟨kc',vc',r,e,h1,h2,h3⟩,hx=>by
  subst e
  simp at hx
  subst hx
  exact⟨kc',vc',rfl,h1,h2⟩
 |y::l,n,_,q+1,x,⟨kc',vc',r,e,h1,h2,h3⟩,hx=>by
  subst e
  obtain⟨kc,vc,e1,e2,e3⟩:=Jt.get h3 (q:=q) (by simpa using hx)
  refine⟨kc,vc, ?_,e2,e3⟩
  rw[show n+(q+1)=n+1+q by omega]
  simpa using e1
theorem Jt.born {gk gv:Bool} {ks vs:Sch}:∀{l:List (ks.T×vs.T)} {n:Nat} {es:List MapEntry} {p:Nat},Jt M w gk gv ks vs l n es→p<l.length→
  es.findIdx? (fun e=>(e.born:Int)==((n+p:Nat):Int))=some p∧es.find? (fun e=>e.born==n+p)=es[p]?
 |[],_,_,_,_,h=>by simp at h
 |x::l,n,_,0,⟨kc',vc',r,e,h1,h2,h3⟩,_=>by
  subst e
  simp[List.findIdx?_cons]
 |x::l,n,_,p+1,⟨kc',vc',r,e,h1,h2,h3⟩,hp=>by
  subst e
  obtain⟨e1,e2⟩:=Jt.born h3 (p:=p) (by simpa using hp)
  rw[show n+1+p=n+(p+1) by omega] at e1 e2
  have hne:¬(n=n+(p+1)):=by omega
  have hb:((n:Int)==((n+(p+1):Nat):Int))=false:=by simp;omega
  have hb2:(n==n+(p+1))=false:=by simp
  refine⟨?_, ?_⟩
  ·rw[List.findIdx?_cons,hb,e1];rfl
  ·rw[List.find?_cons,hb2,e2];simp
end
end Go.Sx
namespace Go.Sx
open Go.RowKit
theorem Jqf (σ:Nat→Option Res) (n:Nat) (A B:List (Nat×Option Res)):Ki (Ki σ n [] A) n [] B=Ki σ n [] (B++A):=by
 funext id
 have key:∀(B:List (Nat×Option Res)),look (B++A) id=match look B id with|some x=>some x|none=>look A id:=by
  intro B
  induction B with
  |nil=>rfl
  |cons b B ih=>
   obtain⟨i,y⟩:=b
   simp only[List.cons_append,look]
   split
   ·rfl
   ·exact ih
 unfold Ki
 rw[if_neg (by simp<;>omega),if_neg (by simp<;>omega),if_neg (by simp<;>omega),key]
 cases look B id<;>rfl
theorem F3 {M:Nat→Prop} {w:World} (ρ:Env):∀{s:Sch} (x:s.T),s.hasList=false→Rep M w s x ((enc s x).map (SC.den ρ))
 | .int _,_,_=>rfl
 | .bool,_,_=>rfl
 | .str,_,_=>rfl
 | .flt _,_,_=>rfl
 | .fnc,_,h=>by cases h
 | .prod a b,x,h=>by
  simp only[Sch.hasList,Bool.or_eq_false_iff] at h
  exact⟨_,_,List.map_append,F3 ρ x.1 h.1,F3 ρ x.2 h.2⟩
 | .list _ _,_,h=>by cases h
theorem Jht:∀{s:Sch} (x:s.T),s.hasList=false→J1 (enc s x)=[]
 | .int _,_,_=>rfl
 | .bool,_,_=>rfl
 | .str,_,_=>rfl
 | .flt _,_,_=>rfl
 | .fnc,_,h=>by cases h
 | .prod a b,x,h=>by
  simp only[Sch.hasList,Bool.or_eq_false_iff] at h
  show(enc a x.1++enc b x.2).flatMap SC.ids=[]
  rw[List.flatMap_append]
  have h1:=Jht x.1 h.1
  have h2:=Jht x.2 h.2
  unfold J1 at h1 h2
  rw[h1,h2];rfl
 | .list _ _,_,h=>by cases h
section
variable {P:Program} {N B:Nat} {w0:K8} {al:Nat→Prop} {τ:Nat→Option SV} {σ:Nat→Option Res} {a:Act} {w:World} {ρ:Env} {M R:Nat→Prop} {n:Nat} {d:Option Tmp}
theorem Jfs [Dr] (C:Jl P N B w0 al τ σ a w ρ M R) {o:Oper} (hd:∀t,o.dst=some t→t<N) {T kT:TypeId} (ho:o.op= .makeMap T none) {gk gv:Bool} {ks vs:Sch} (hok:Jel P kT gk gv ks vs) (hfresh:∀id,al id→¬(n≤id∧id<n+1)) {pre:List Prop}:
  Kp P N B w0 al τ σ a w R n o ⟨pre, .one (.sl n),[.mp kT gk gv ks vs []],[]⟩:=by
 intro K Q hK
 have hn:¬al n:=fun h=>hfresh n h ⟨Nat.le_refl _,by omega⟩
 obtain⟨ρ',hC⟩:=C.allocRes (n:=n) (d:=o.dst) (x:= .mp kT gk gv ks vs []) (v:= .sl n) (u:= .map (some w.heap.size)) hd hn (.map #[] 0) rfl rfl (fun ρ' h=>h) (fun id h=>by simpa[SC.ids] using h) (fun id h=>by simp[Res.ids] at h) (fun ρ' h5 _=>
  ⟨hok,w.heap.size,#[],h5,heap_alloc_new w _,rfl,fun h=>Nat.lt_irrefl _ (C.old w.heap.size (.inl h)),fun h=>Nat.lt_irrefl _ (C.old w.heap.size (.inr h)),C.base⟩)
 refine Jg ?_ (hK _ _ ρ' M hC)
 simp[execOp,ho,Instr.makeMap]
theorem Yp {kT:TypeId} {gk gv:Bool} {ks vs:Sch} (H:Jel P kT gk gv ks vs) (ρ:Env) (kd:ks.T) {e:Bool} {w:World}:(Instr.checkKey e 10000 kT (valOf gk ((enc ks kd).map (SC.den ρ)))).run P w= .ok () w:=
 Jbh ρ (H.2.2.2.2.2 kd) H.1 (fun e=>by rw[X8];exact H.2.2.1 e) 10000 (by omega)
theorem Jib {kT:TypeId} {gk gv:Bool} {ks vs:Sch} (H:Jel P kT gk gv ks vs) (ρ:Env) (kd:ks.T) {w:World}:(Instr.keyThatStays (valOf gk ((enc ks kd).map (SC.den ρ))) (valOf gk ((enc ks kd).map (SC.den ρ)))).run P w= .ok (valOf gk ((enc ks kd).map (SC.den ρ))) w:=by
 have:=Jbr (g:=gk) (Jd8 ρ kd H.2.1) (fun e=>by rw[List.length_map,X8];exact H.2.2.1 e)
 simp[Instr.keyThatStays,this]
theorem Zz {es:Array MapEntry} {q:Nat} {f:MapEntry→MapEntry}:(es.modify q f).toList=es.toList.modify q f:=by
 apply List.ext_getElem?
 intro j
 rw[Array.getElem?_toList,Array.getElem?_modify,List.getElem?_modify,Array.getElem?_toList]
 by_cases h:q=j<;>simp[h]
theorem Dx {f g:MapEntry→MapEntry}:∀{es:List MapEntry} {q:Nat},(∀e,es[q]? =some e→f e=g e)→es.modify q f=es.modify q g
 |[],_,_=>by simp
 |e::es,0,h=>by simp[h e rfl]
 |e::es,q+1,h=>by simp[Dx (es:=es) (q:=q) fun e' h'=>h e' (by simpa using h')]
theorem Jds {T kT vT:TypeId} {gk gv:Bool} {ks vs:Sch} {l:List (ks.T×vs.T)} {b:Nat} {es:Array MapEntry} {vc:List Value} {vd:vs.T} (hT:P.underlying T=some (.map kT vT)) (H:Jel P kT gk gv ks vs) (h2:w.heap[b]? =some (.map es l.length)) (h3:Jt M w gk gv ks vs l 0 es.toList) (ρ:Env) (kd:ks.T) (hv:Rep M w vs vd vc) (hvb:¬M b):
  ∃es',(Instr.mapUpdate T (.map (some b)) (valOf gk ((enc ks kd).map (SC.den ρ))) (valOf gv vc)).run P w= .ok () (J3 w b (.map es' (Kj ks kd vd l).length))∧Jt M (J3 w b (.map es' (Kj ks kd vd l).length)) gk gv ks vs (Kj ks kd vd l) 0 es'.toList:=by
 have hkd:Rep M w ks kd ((enc ks kd).map (SC.den ρ)):=F3 ρ kd H.2.1
 have hkeep:∀o:Obj,∀b',M b'→M b'∧(J3 w b o).heap[b']? =w.heap[b']? :=fun o b' hb'=>⟨hb',K4 fun e=>hvb (e▸hb')⟩
 have hfk:=Df ρ H kd h3
 cases hr:Lv ks kd l es.toList 0 with
 | none =>
  obtain⟨e1,e2,e3⟩:=X4 h3 hr
  rw[hr] at hfk
  refine⟨es.push {key:=valOf gk ((enc ks kd).map (SC.den ρ)),val:=valOf gv vc,born:=l.length}, ?_, ?_⟩
  ·simp only[Instr.mapUpdate,Sem.run_bind,run_underlying hT,Result.andThen_ok,J4 h2 rfl,Yp H,hfk]
   rw[e3]
   simp only[List.length_append,List.length_cons,List.length_nil]
   exact Ue h2 rfl
  ·rw[e3,Array.toList_push]
   have:=Jt.snoc hkd hv h3
   rw[Nat.zero_add] at this
   exact this.keep (hkeep _)
 | some pv =>
  obtain⟨p,v⟩:=pv
  obtain⟨q,x,kc,vc0,e1,e2,e3,e4,e5,e6,e7,e8,e9,e10⟩:=X3 h3 hr
  rw[hr] at hfk
  rw[Nat.zero_add] at e1
  subst e1
  have hkc:=Kt ρ H.2.1 e6
  subst hkc
  have hes:es[p]? =some {key:=valOf gk ((enc ks kd).map (SC.den ρ)),val:=v,born:=0+p}:=by rw[←Array.getElem?_toList];exact e3
  refine⟨es.modify p fun e=>{e with key:=valOf gk ((enc ks kd).map (SC.den ρ)),val:=valOf gv vc}, ?_, ?_⟩
  ·simp only[Instr.mapUpdate,Sem.run_bind,run_underlying hT,Result.andThen_ok,J4 h2 rfl,Yp H,hfk,hes,Option.map_some,Option.getD_some,Jib H]
   rw[e10]
   simp only[List.length_set]
   exact Ue h2 rfl
  ·rw[e10,Zz]
   exact(Jt.put hkd hv h3).keep (hkeep _)
theorem Zi [Dr] (C:Jl P N B w0 al τ σ a w ρ M R) {o:Oper} (hd:∀t,o.dst=some t→t<N) {rs:Nat→Option Res} (hrs:∀id x,rs id=some x→σ id=some x) {T kT vT:TypeId} {m k x:Operand} {i:Nat} {gk gv:Bool} {ks vs:Sch} {l:List (ks.T×vs.T)} {kc vc:List SC} {kd:ks.T} {vd:vs.T} (ho:o.op= .mapUpdate T m k x∨o.op= .insert T m k x)
  (hT:P.underlying T=some (.map kT vT)) (hm:a.eval m=ρ i) (hk:a.eval k=valOf gk (kc.map (SC.den ρ))) (hx:a.eval x=valOf gv (vc.map (SC.den ρ))) (hkd:dec (fun _=>none) ks kc=some kd) (hvd:dec rs vs vc=some vd) (hr:rs i=some (.mp kT gk gv ks vs l)) {pre:List Prop}:
  Kp P N B w0 al τ σ a w R n o ⟨pre,Ju,[],(i,some (.mp kT gk gv ks vs (Kj ks kd vd l)))::freeze rs vc⟩:=by
 have hlk:∀j y,look (Sx.freeze rs vc) j=some y→∃T s xs,σ j=some (.own T s xs)∧y=some (.imm T s xs):=by
  intro j y h
  obtain⟨T,s,xs,h1,h2⟩:=Un (Jr h)
  exact⟨T,s,xs,hrs _ _ h1,h2⟩
 have C':=C.freeze n hlk
 have hi':Ki σ n [] (Sx.freeze rs vc) i=some (.mp kT gk gv ks vs l):=by
  unfold Ki
  rw[if_neg (by simp<;>omega)]
  cases hl:look (Sx.freeze rs vc) i with
  |none=>exact hrs _ _ hr
  |some y=>
   obtain⟨T,s,xs,h1,_⟩:=hlk i y hl
   rw[hrs _ _ hr] at h1
   cases h1
 obtain⟨H,b,es,h1,h2,h3,h4,h5,h6⟩:=C'.res i _ hi'
 have hkc:=Di hkd H.2.1
 subst hkc
 have hv:=Yv (P:=P) (ρ:=ρ) (M:=M) (M':=fun b=>M b∨∃i y T s xs,look (Sx.freeze rs vc) i=some y∧σ i=some (.own T s xs)∧(ρ i).ownBlock=some b) (R:=R) (B:=B) (w:=w) (rs:=rs) (fun _ h=> .inl h) hvd (fun i y h=>C.res i y (hrs i y h)) (fun i T s' xs g hi hr hg=>by
  have:=Ug hi hr
  obtain⟨y,hy⟩:=Option.isSome_iff_exists.1 this
  exact .inr ⟨i,y,T,s',xs,hy,hrs _ _ hr,hg⟩)
 obtain⟨es',r1,r2⟩:=Jds (w:=w) hT H h2 h3 ρ kd hv h4
 have hC:=C'.putObj (n:=n) (d:=o.dst) hd (x':= .mp kT gk gv ks vs (Kj ks kd vd l)) hi' rfl (by rw[h1];rfl) (.map es' (Kj ks kd vd l).length) ⟨H,b,es',h1,Ui (Array.getElem?_eq_some_iff.1 h2).1,r2,h4,h5,h6⟩ (fun id h=>by simp[Res.ids] at h) (v:=Ju) (u:=undef) rfl (fun id hid=>by simp[Ju,SV.ids,J1,SC.ids] at hid)
 rw[Jqf] at hC
 intro K Q hK
 refine Uw ?_ (hK undef _ ρ _ hC)
 rcases ho with ho|ho<;>simp[execOp,ho,hm,hk,hx,h1,r1]
theorem Lw [Dr] (C:Jl P N B w0 al τ σ a w ρ M R) {o:Oper} (hd:∀t,o.dst=some t→t<N) {ress:List (Bool×Sch)} {y:Tup ress} {vs:List Value} (hr:Zp M w w.heap.size ress [] y vs) (hrun:(execOp a.eval o).run P w= .ok (.value (Jum vs)) w)
  (hfresh:∀id,al id→¬(n≤id∧id<n+(Jh (Jq ress y) [] n).2.length)) {pre:List Prop}:
  Kp P N B w0 al τ σ a w R n o ⟨pre,Xd (Jh (Jq ress y) [] n).1,(Jh (Jq ress y) [] n).2,[]⟩:=by
 have hp:Jj7 M w ress [] y (.returned (Jum vs)) w:=⟨M,vs,rfl,Below.refl _ _,fun _ h=>h,fun _ h=> .inl h,hr⟩
 have hfit:U5 ress []=true:=by cases ress<;>rfl
 obtain⟨u,ρ',M',e1,e2⟩:=C.returned (n:=n) hd hp hfit hfresh
 cases e1
 intro K Q hK
 exact Jg hrun (hK _ _ ρ' M' e2)
theorem Jh7 [Dr] {T:TypeId} {g:Bool} {s:Sch} {zd:s.T} (h:Jep P T g s=some zd):∃zc,(zeroValue T).run P w= .ok (valOf g zc) w∧Rep M w s zd zc:=by
 unfold Jep at h
 split at h
 ·rename_i i hi
  split at h
  ·rename_i z hz
   split at h
   ·rename_i hg
    have hrep:=Yv (P:=P) (ρ:=fun _=>undef) (M:=M) (M':=M) (R:=fun _=>False) (B:=0) (w:=w) (rs:=fun _=>none) (fun _ h=>h) h (fun i y h=>by cases h) (fun i T s' xs g _ h=>by cases h)
    rw[Yt] at hrep
    refine⟨z.cells.toList, ?_,hrep⟩
    have e:valOf g z.cells.toList=z:=by
     subst hg
     cases z<;>rfl
    rw[e]
    simp[zeroValue,typeInfo,hi,hz]
   ·cases h
  ·cases h
 ·cases h
theorem Jku [Dr] {T kT vT:TypeId} {gk gv:Bool} {ks vs:Sch} {l:List (ks.T×vs.T)} {b:Nat} {es:Array MapEntry} {zd:vs.T} {ok:Bool} (hT:P.underlying T=some (.map kT vT)) (H:Jel P kT gk gv ks vs) (h2:w.heap[b]? =some (.map es l.length)) (h3:Jt M w gk gv ks vs l 0 es.toList) (ρ:Env) (kd:ks.T) (hz:Jep P vT gv vs=some zd):
  ∃vc,Rep M w vs ((Jv ks kd l).getD zd) vc∧(Instr.lookup T (.map (some b)) (valOf gk ((enc ks kd).map (SC.den ρ))) ok).run P w= .ok (if ok then .tuple #[valOf gv vc, .bool (Jv ks kd l).isSome] else valOf gv vc) w:=by
 have hfk:=Df ρ H kd h3
 cases hr:Lv ks kd l es.toList 0 with
 |none=>
  obtain⟨e1,e2,e3⟩:=X4 h3 hr
  rw[hr] at hfk
  obtain⟨zc,z1,z2⟩:=Jh7 (w:=w) (M:=M) hz
  refine⟨zc,by rw[e1];exact z2, ?_⟩
  simp only[Instr.lookup,Sem.run_bind,run_underlying hT,Result.andThen_ok,J4 h2 rfl,Sem.run_pure,Yp H,hfk,z1,e1]
  cases ok<;>rfl
 |some pv=>
  obtain⟨p,v⟩:=pv
  obtain⟨q,x,kc,vc0,e1,e2,e3,e4,e5,e6,e7,e8,e9,e10⟩:=X3 h3 hr
  rw[hr] at hfk
  refine⟨vc0,by rw[e8];exact e7, ?_⟩
  simp only[Instr.lookup,Sem.run_bind,run_underlying hT,Result.andThen_ok,J4 h2 rfl,Sem.run_pure,Yp H,hfk,e8,e4]
  cases ok<;>rfl
theorem Dy [Dr] (C:Jl P N B w0 al τ σ a w ρ M R) {o:Oper} (hd:∀t,o.dst=some t→t<N) {T kT vT:TypeId} {x k:Operand} {i:Nat} {gk gv:Bool} {ks vs:Sch} {l:List (ks.T×vs.T)} {kc:List SC} {kd:ks.T} {zd:vs.T} {ok:Bool} (ho:o.op= .lookup T x k ok)
  (hT:P.underlying T=some (.map kT vT)) (hm:a.eval x=ρ i) (hk:a.eval k=valOf gk (kc.map (SC.den ρ))) (hkd:dec (fun _=>none) ks kc=some kd) (hz:Jep P vT gv vs=some zd) (hr:σ i=some (.mp kT gk gv ks vs l)) {pre:List Prop}:
  (ok=true→(∀id,al id→¬(n≤id∧id<n+(Jh (Jq [(gv,vs),(false, .bool)] ((Jv ks kd l).getD zd,(Jv ks kd l).isSome,())) [] n).2.length))→Kp P N B w0 al τ σ a w R n o ⟨pre,Xd (Jh (Jq [(gv,vs),(false, .bool)] ((Jv ks kd l).getD zd,(Jv ks kd l).isSome,())) [] n).1,(Jh (Jq [(gv,vs),(false, .bool)] ((Jv ks kd l).getD zd,(Jv ks kd l).isSome,())) [] n).2,[]⟩)∧
  (ok=false→(∀id,al id→¬(n≤id∧id<n+(Jh (Jq [(gv,vs)] ((Jv ks kd l).getD zd,())) [] n).2.length))→Kp P N B w0 al τ σ a w R n o ⟨pre,Xd (Jh (Jq [(gv,vs)] ((Jv ks kd l).getD zd,())) [] n).1,(Jh (Jq [(gv,vs)] ((Jv ks kd l).getD zd,())) [] n).2,[]⟩):=by
 obtain⟨H,b,es,h1,h2,h3,h4,h5,h6⟩:=C.res i _ hr
 have hkc:=Di hkd H.2.1
 subst hkc
 obtain⟨vc,v1,v2⟩:=Jku (w:=w) (ok:=ok) hT H h2 h3 ρ kd hz
 have hrun:(execOp a.eval o).run P w= .ok (.value (if ok then .tuple #[valOf gv vc, .bool (Jv ks kd l).isSome] else valOf gv vc)) w:=by
  simp only[execOp,ho,hm,hk,h1]
  exact J2 v2
 refine⟨fun e hf=> ?_,fun e hf=> ?_⟩
 ·subst e
  refine Lw C hd (vs:=[valOf gv vc, .bool (Jv ks kd l).isSome]) ?_ hrun hf
  exact⟨_,_,rfl,⟨vc,rfl,v1⟩,_,_,rfl,⟨[.bool _],rfl,rfl⟩,rfl⟩
 ·subst e
  refine Lw C hd (vs:=[valOf gv vc]) ?_ hrun hf
  exact⟨_,_,rfl,⟨vc,rfl,v1⟩,rfl⟩
theorem Jfr [Dr] {T kT vT:TypeId} {gk gv:Bool} {ks vs:Sch} {l:List (ks.T×vs.T)} {b:Nat} {es:Array MapEntry} {zd:vs.T} (hT:P.underlying T=some (.map kT vT)) (H:Jel P kT gk gv ks vs) (h2:w.heap[b]? =some (.map es l.length)) (h3:Jt M w gk gv ks vs l 0 es.toList) (ρ:Env) (kd:ks.T) (hz:Jep P vT gv vs=some zd) (hvl:vs.hasList=false) (hvb:¬M b):
  ∃es',(Instr.mapEntry T (.map (some b)) (valOf gk ((enc ks kd).map (SC.den ρ)))).run P w= .ok (.tuple #[valOf gv ((enc vs ((Jv ks kd l).getD zd)).map (SC.den ρ)), .int .i64 (Y0 ks kd l)]) (J3 w b (.map es' (Kj ks kd ((Jv ks kd l).getD zd) l).length))∧Jt M (J3 w b (.map es' (Kj ks kd ((Jv ks kd l).getD zd) l).length)) gk gv ks vs (Kj ks kd ((Jv ks kd l).getD zd) l) 0 es'.toList:=by
 have hkd:Rep M w ks kd ((enc ks kd).map (SC.den ρ)):=F3 ρ kd H.2.1
 have hkeep:∀o:Obj,∀b',M b'→M b'∧(J3 w b o).heap[b']? =w.heap[b']? :=fun o b' hb'=>⟨hb',K4 fun e=>hvb (e▸hb')⟩
 have hfk:=Df ρ H kd h3
 cases hr:Lv ks kd l es.toList 0 with
 | none =>
  obtain⟨e1,e2,e3⟩:=X4 h3 hr
  rw[hr] at hfk
  obtain⟨zc,z1,z2⟩:=Jh7 (w:=w) (M:=M) hz
  have hzc:=Kt ρ hvl z2
  subst hzc
  refine⟨es.push {key:=valOf gk ((enc ks kd).map (SC.den ρ)),val:=valOf gv ((enc vs zd).map (SC.den ρ)),born:=l.length}, ?_, ?_⟩
  ·simp only[Instr.mapEntry,Sem.run_bind,run_underlying hT,Result.andThen_ok,J4 h2 rfl,Yp H,hfk,z1]
   rw[e3,e1,e2]
   simp only[List.length_append,List.length_cons,List.length_nil]
   rw[Ue h2 rfl]
   rfl
  ·rw[e3,Array.toList_push,e1]
   have:=Jt.snoc hkd z2 h3
   rw[Nat.zero_add] at this
   exact this.keep (hkeep _)
 | some pv =>
  obtain⟨p,v⟩:=pv
  obtain⟨q,x,kc,vc0,e1,e2,e3,e4,e5,e6,e7,e8,e9,e10⟩:=X3 h3 hr
  rw[hr] at hfk
  rw[Nat.zero_add] at e1
  subst e1
  have hkc:=Kt ρ H.2.1 e6
  subst hkc
  have hvc:=Kt ρ hvl e7
  subst hvc
  have hes:es[p]? =some {key:=valOf gk ((enc ks kd).map (SC.den ρ)),val:=v,born:=0+p}:=by rw[←Array.getElem?_toList];exact e3
  refine⟨es.modify p fun e=>{e with key:=valOf gk ((enc ks kd).map (SC.den ρ))}, ?_, ?_⟩
  ·simp only[Instr.mapEntry,Sem.run_bind,run_underlying hT,Result.andThen_ok,J4 h2 rfl,Yp H,hfk,hes,Option.map_some,Option.getD_some,Jib H]
   rw[e10,e8,e9]
   simp only[List.length_set,Option.getD_some,Nat.zero_add]
   rw[Ue h2 rfl,e4]
   rfl
  ·rw[e10,e8,Zz]
   have:=Jt.put (gv:=gv) hkd e7 h3 (q:=p)
   refine Jt.keep (hkeep _) ?_
   rw[Dx (g:=fun e=>{key:=valOf gk ((enc ks kd).map (SC.den ρ)),val:=valOf gv ((enc vs x.2).map (SC.den ρ)),born:=e.born})]
   ·exact this
   ·intro e he
    rw[e3] at he
    cases he
    rw[e4]
theorem Jbt [Dr] (C:Jl P N B w0 al τ σ a w ρ M R) {o:Oper} (hd:∀t,o.dst=some t→t<N) {T kT vT:TypeId} {m k:Operand} {i:Nat} {gk gv:Bool} {ks vs:Sch} {l:List (ks.T×vs.T)} {kc:List SC} {kd:ks.T} {zd:vs.T} (ho:o.op= .mapEntry T m k)
  (hT:P.underlying T=some (.map kT vT)) (hm:a.eval m=ρ i) (hk:a.eval k=valOf gk (kc.map (SC.den ρ))) (hkd:dec (fun _=>none) ks kc=some kd) (hz:Jep P vT gv vs=some zd) (hvl:vs.hasList=false) (hr:σ i=some (.mp kT gk gv ks vs l)) {pre:List Prop}:
  Kp P N B w0 al τ σ a w R n o ⟨pre, .tup [(gv,enc vs ((Jv ks kd l).getD zd)),(false,[.int .i64 (Y0 ks kd l)])],[],[(i,some (.mp kT gk gv ks vs (Kj ks kd ((Jv ks kd l).getD zd) l)))]⟩:=by
 obtain⟨H,b,es,h1,h2,h3,h4,h5,h6⟩:=C.res i _ hr
 have hkc:=Di hkd H.2.1
 subst hkc
 obtain⟨es',r1,r2⟩:=Jfr (w:=w) hT H h2 h3 ρ kd hz hvl h4
 have hids:J1 (enc vs ((Jv ks kd l).getD zd))=[]:=Jht _ hvl
 have hC:=C.putObj (n:=n) (d:=o.dst) hd (x':= .mp kT gk gv ks vs (Kj ks kd ((Jv ks kd l).getD zd) l)) hr rfl (by rw[h1];rfl) (.map es' (Kj ks kd ((Jv ks kd l).getD zd) l).length) ⟨H,b,es',h1,Ui (Array.getElem?_eq_some_iff.1 h2).1,r2,h4,h5,h6⟩ (fun id h=>by simp[Res.ids] at h) (v:= .tup [(gv,enc vs ((Jv ks kd l).getD zd)),(false,[.int .i64 (Y0 ks kd l)])]) (u:= .tuple #[valOf gv ((enc vs ((Jv ks kd l).getD zd)).map (SC.den ρ)), .int .i64 (Y0 ks kd l)]) rfl (fun id hid=>by
  have hid:id∈J1 (enc vs ((Jv ks kd l).getD zd))++(J1 [SC.int .i64 (Y0 ks kd l)]++[]):=hid
  rw[hids] at hid
  simp[J1,SC.ids] at hid)
 intro K Q hK
 refine Jg ?_ (hK _ _ ρ _ hC)
 simp only[execOp,ho,hm,hk,h1]
 exact J2 r1
theorem Jt.putv {gk gv:Bool} {ks vs:Sch} {vd:vs.T} {vc:List Value} (hv:Rep M w vs vd vc):∀{l:List (ks.T×vs.T)} {n:Nat} {es:List MapEntry} {q:Nat},Jt M w gk gv ks vs l n es→Jt M w gk gv ks vs (Zy vd l q) n (es.modify q fun e=>{e with val:=valOf gv vc})
 |[],n,_,q,h=>by
  have h:_=[]:=h
  subst h
  cases q<;>simp[Zy]<;>rfl
 |x::l,n,_,0,⟨kc',vc',r,e,h1,h2,h3⟩=>by
  subst e
  exact⟨kc',vc,r,rfl,h1,hv,h3⟩
 |x::l,n,_,q+1,⟨kc',vc',r,e,h1,h2,h3⟩=>by
  subst e
  exact⟨kc',vc',_,rfl,h1,h2,Jt.putv hv h3⟩
theorem Dw {α β:Type} {v:β}:∀{l:List (α×β)} {n:Nat},(Zy v l n).length=l.length
 |[],_=>by simp[Zy]
 |_::_,0=>by simp[Zy]
 |_::l,n+1=>by simp[Zy,Dw (l:=l)]
theorem Fc [Dr] (C:Jl P N B w0 al τ σ a w ρ M R) {o:Oper} (hd:∀t,o.dst=some t→t<N) {T kT:TypeId} {m s x:Operand} {i:Nat} {gk gv:Bool} {ks vs:Sch} {l:List (ks.T×vs.T)} {vc:List SC} {vd:vs.T} {p:Int} (ho:o.op= .entryStore T m s x)
  (hm:a.eval m=ρ i) (hs:a.eval s= .int .i64 p) (hx:a.eval x=valOf gv (vc.map (SC.den ρ))) (hvd:dec (fun _=>none) vs vc=some vd) (hr:σ i=some (.mp kT gk gv ks vs l)) (hp:0≤p∧p<l.length) {pre:List Prop}:
  Kp P N B w0 al τ σ a w R n o ⟨pre,Ju,[],[(i,some (.mp kT gk gv ks vs (Zy vd l p.toNat)))]⟩:=by
 obtain⟨H,b,es,h1,h2,h3,h4,h5,h6⟩:=C.res i _ hr
 have hv:=Yv (P:=P) (ρ:=ρ) (M:=M) (M':=M) (R:=R) (B:=B) (w:=w) (rs:=fun _=>none) (fun _ h=>h) hvd (fun i y h=>by cases h) (fun i T s' xs g _ h=>by cases h)
 have hkeep:∀o:Obj,∀b',M b'→M b'∧(J3 w b o).heap[b']? =w.heap[b']? :=fun o b' hb'=>⟨hb',K4 fun e=>h4 (e▸hb')⟩
 have hb:=(h3.born (p:=p.toNat) (by omega)).1
 rw[Nat.zero_add,Int.toNat_of_nonneg hp.1] at hb
 have hb':es.findIdx? (fun e=>(e.born:Int)==p)=some p.toNat:=by
  have e:es=es.toList.toArray:=by simp
  rw[e,List.findIdx?_toArray];exact hb
 have hrep:Jt M (J3 w b (.map (es.modify p.toNat fun e=>{e with val:=valOf gv (vc.map (SC.den ρ))}) l.length)) gk gv ks vs (Zy vd l p.toNat) 0 (es.modify p.toNat fun e=>{e with val:=valOf gv (vc.map (SC.den ρ))}).toList:=by
  rw[Zz]
  exact(Jt.putv hv h3).keep (hkeep _)
 have hC:=C.putObj (n:=n) (d:=o.dst) hd (x':= .mp kT gk gv ks vs (Zy vd l p.toNat)) hr rfl (by rw[h1];rfl) (.map (es.modify p.toNat fun e=>{e with val:=valOf gv (vc.map (SC.den ρ))}) l.length) ⟨H,b,_,h1,by rw[Dw];exact Ui (Array.getElem?_eq_some_iff.1 h2).1,hrep,h4,h5,h6⟩ (fun id h=>by simp[Res.ids] at h) (v:=Ju) (u:=undef) rfl (fun id hid=>by simp[Ju,SV.ids,J1,SC.ids] at hid)
 intro K Q hK
 refine Uw ?_ (hK undef _ ρ _ hC)
 have r1:(Instr.entryStore T (.map (some b)) (.int .i64 p) (valOf gv (vc.map (SC.den ρ)))).run P w= .ok () (J3 w b (.map (es.modify p.toNat fun e=>{e with val:=valOf gv (vc.map (SC.den ρ))}) l.length)):=by
  simp only[Instr.entryStore,Sem.run_bind,J4 h2 rfl,Result.andThen_ok,asInt,asIntOf,Sem.run_pure,hb']
  exact Ue h2 rfl
 simp[execOp,ho,hm,hs,hx,h1,r1]
theorem Jdp [Dr] (C:Jl P N B w0 al τ σ a w ρ M R) {o:Oper} (hd:∀t,o.dst=some t→t<N) {T kT' vT kT:TypeId} {x:Operand} {i:Nat} {gk gv:Bool} {ks vs:Sch} {l:List (ks.T×vs.T)} (ho:o.op= .range T x)
  (hT:P.underlying T=some (.map kT' vT)) (hx:a.eval x=ρ i) (hr:σ i=some (.mp kT gk gv ks vs l)) (hfresh:∀id,al id→¬(n≤id∧id<n+1)):
  Kp P N B w0 al τ σ a w R n o ⟨[], .one (.sl n),[.mpi i kT gk gv ks vs l []],[]⟩:=by
 obtain⟨H,b,es,h1,h2,h3,h4,h5,h6⟩:=C.res i _ hr
 have hi:=(C.resIds i _ hr).1
 intro K Q hK
 have hn:¬al n:=fun h=>hfresh n h ⟨Nat.le_refl _,by omega⟩
 obtain⟨ρ',hC⟩:=C.allocRes (n:=n) (d:=o.dst) (x:= .mpi i kT gk gv ks vs l []) (v:= .sl n) (u:= .pointer (some ⟨w.heap.size,0,none⟩)) hd hn (.mapIter (some b) l.length #[] l.length) rfl rfl (fun ρ' h=>h) (fun id h=>by simpa[SC.ids] using h) (fun id h=>by
  have:id=i:=by simpa[Res.ids] using h
  subst this;exact hi) (fun ρ' h5 h7=>
  ⟨w.heap.size,b,h5,(h7 i hi).trans h1,heap_alloc_new w _,fun h=>Nat.lt_irrefl _ (C.old w.heap.size (.inl h)),fun h=>Nat.lt_irrefl _ (C.old w.heap.size (.inr h)),C.base⟩)
 refine Jg ?_ (hK _ _ ρ' M hC)
 simp[execOp,ho,hx,h1,Instr.range,run_underlying hT,J4 h2 rfl]
theorem Jdq [Dr] (C:Jl P N B w0 al τ σ a w ρ M R) {o:Oper} (hd:∀t,o.dst=some t→t<N) {x:Operand} {i j:Nat} {kT:TypeId} {gk gv:Bool} {ks vs:Sch} {l:List (ks.T×vs.T)} {seen:List Nat} (ho:o.op= .entry x) (hx:a.eval x=ρ i)
  (hr:σ i=some (.mpi j kT gk gv ks vs l seen)) (hj:σ j=some (.mp kT gk gv ks vs l)) (hne:seen≠[]) (hlt:seen.getLastD 0<l.length) {pre:List Prop}
  (hfresh:∀id,al id→¬(n≤id∧id<n+(Jh (Jq [(gk,ks),(gv,vs)] ((l.getD (seen.getLastD 0) (ks.dflt,vs.dflt)).1,(l.getD (seen.getLastD 0) (ks.dflt,vs.dflt)).2,())) [] n).2.length)):
  Kp P N B w0 al τ σ a w R n o ⟨pre,Xd (Jh (Jq [(gk,ks),(gv,vs)] ((l.getD (seen.getLastD 0) (ks.dflt,vs.dflt)).1,(l.getD (seen.getLastD 0) (ks.dflt,vs.dflt)).2,())) [] n).1,(Jh (Jq [(gk,ks),(gv,vs)] ((l.getD (seen.getLastD 0) (ks.dflt,vs.dflt)).1,(l.getD (seen.getLastD 0) (ks.dflt,vs.dflt)).2,())) [] n).2,[]⟩:=by
 obtain⟨b,m,h1,h2,h3,_⟩:=C.res i _ hr
 obtain⟨H,b',es,g1,g2,g3,_⟩:=C.res j _ hj
 rw[h2] at g1;cases g1
 have hlx:l[seen.getLastD 0]? =some (l.getD (seen.getLastD 0) (ks.dflt,vs.dflt)):=by
  rw[List.getD_eq_getElem?_getD,List.getElem?_eq_getElem hlt];rfl
 generalize l.getD (seen.getLastD 0) (ks.dflt,vs.dflt)=e at*
 obtain⟨kc,vc,q1,q2,q3⟩:=g3.get hlx
 have hback:seen.toArray.back? =some (seen.getLastD 0):=by
  rw[List.back?_toArray]
  cases seen with
  |nil=>exact absurd rfl hne
  |cons c r=>rw[List.getLast?_cons,List.getLastD_cons,List.getLastD_eq_getLast?]
 have hfind:es.find? (fun e=>e.born==seen.getLastD 0)=some {key:=valOf gk kc,val:=valOf gv vc,born:=seen.getLastD 0}:=by
  rw[←Array.find?_toList]
  have:=(g3.born hlt).2
  rw[Nat.zero_add] at this
  rw[this,q1,Nat.zero_add]
 refine Lw C hd (ress:=[(gk,ks),(gv,vs)]) (y:=(e.1,e.2,())) (vs:=[valOf gk kc,valOf gv vc]) ⟨_,_,rfl,⟨kc,rfl,q2⟩,_,_,rfl,⟨vc,rfl,q3⟩,rfl⟩ ?_ hfresh
 simp only[execOp,ho,hx,h1]
 refine J2 ?_
 simp only[Instr.entry,Sem.run_bind,J4 h3 rfl,Result.andThen_ok,hback,J4 g2 rfl,bne_self_eq_false,Bool.false_eq_true,if_false,Sem.run_pure]
 rw[hfind]
 rfl
end
end Go.Sx
namespace Go.Sx
open Go.RowKit
section
variable {P:Program} {N B:Nat} {w0:K8} {al:Nat→Prop} {τ:Nat→Option SV} {σ:Nat→Option Res} {a:Act} {w:World} {ρ:Env} {M R:Nat→Prop} {n:Nat} {d:Option Tmp}
def Jsb (x:Res) (y:Option Res):Prop:=(∃T s xs,x= .own T s xs∧y=some (.imm T s xs))∨∃T cs,x= .box T cs∧y=some (.fbox T cs)
theorem Jsb.owns {x:Res} {y:Option Res} (h:Jsb x y):x.owning=true:=by
 rcases h with⟨T,s,xs,rfl,_⟩|⟨T,cs,rfl,_⟩<;>rfl
theorem Jl.freezeX [Dr] (C:Jl P N B w0 al τ σ a w ρ M R) (n:Nat) {upd:List (Nat×Option Res)} (hu:∀i y,look upd i=some y→∃x,σ i=some x∧Jsb x y):
  Jl P N B w0 al τ (Ki σ n [] upd) a w ρ (fun b=>M b∨∃i y x,look upd i=some y∧σ i=some x∧x.owning=true∧blk (ρ i)=some b) R:=by
 have key:=C.step (d:=none) (n:=n) (news:=[]) (upd:=upd) (v:=Ju) (u:=undef) (ρ':=ρ) (w':=w) (M':=fun b=>M b∨∃i y x,look upd i=some y∧σ i=some x∧x.owning=true∧blk (ρ i)=some b)
  (fun t h=>by cases h) (fun id _ h=>by simp at h;omega) (fun _ _=>rfl) rfl (fun id hid=>by simp[Ju,SV.ids,J1,SC.ids] at hid) (Below.refl _ _) (Nat.le_refl _) (fun _ h=> .inl h) ?_ (fun _ _=>rfl) ?_ ?_ (fun id h=>by simp at h;omega) ?_ (by
   rintro b (h|⟨i,y,x,_,h2,ho,h3⟩)
   ·exact .inl h
   ·exact .inr ⟨(C.notM h2 ho h3).2.2.1,(C.notM h2 ho h3).2.1⟩)
 ·have e1:Ve al n []=al:=by funext id;simp[Ve];intro h1 h2;omega
  have e2:Vd τ none Ju=τ:=by funext t;simp[Vd]
  rw[e1,e2] at key
  exact key
 ·rintro b (h|⟨i,y,x,_,h2,ho,h3⟩)
  ·exact C.old b (.inl h)
  ·exact(C.notM h2 ho h3).2.2.2
 ·intro r x _ hlk hx ho b hb
  refine⟨rfl, ?_⟩
  rintro(h|⟨i,y,x',h1,h2,ho',h3⟩)
  ·exact(C.notM hx ho hb).1 h
  ·have hne:r≠i:=by rintro rfl;rw[hlk] at h1;cases h1
   exact C.apart r i x _ hne hx h2 ho ho' b hb h3
 ·rintro r x hx (h|h)
  ·simp at h;omega
  ·obtain⟨y,hy⟩:=Option.ne_none_iff_exists'.1 h
   obtain⟨x0,h1,hf⟩:=hu r y hy
   have hown:=hf.owns
   unfold Ki at hx
   rw[if_neg (by simp<;>omega),hy] at hx
   simp only at hx
   subst hx
   rcases hf with⟨T,s,xs,rfl,e⟩|⟨T,cs,rfl,e⟩
   ·cases e
    obtain⟨flat,h2,h3,_⟩:=C.res r _ h1
    refine⟨Jdl (T':=T) h2 h3 (fun _ h=> .inl h) fun g hg=> .inr ⟨r,_,_,hy,h1,rfl,Jk hg⟩, .inl (C.resIds r _ h1).1,fun id hid=>by simp[Res.ids] at hid⟩
   ·cases e
    obtain⟨b,h2,h3,_⟩:=C.res r _ h1
    refine⟨⟨b,h2,h3, .inr ⟨r,_,_,hy,h1,rfl,by rw[h2];rfl⟩⟩, .inl (C.resIds r _ h1).1,fun id hid=> .inl ((C.resIds r _ h1).2 id hid)⟩
 ·rintro r r' x x' _ hx _ ho _ (h|h)
  ·simp at h;omega
  ·obtain⟨y,hy⟩:=Option.ne_none_iff_exists'.1 h
   obtain⟨x0,h1,hf⟩:=hu r y hy
   unfold Ki at hx
   rw[if_neg (by simp<;>omega),hy] at hx
   simp only at hx
   subst hx
   rcases hf with⟨T,s,xs,rfl,e⟩|⟨T,cs,rfl,e⟩<;>cases e<;>cases ho
theorem Vp {rs:Nat→Option Res}:∀{cs:List SC} {i:Nat} {y:Option Res},(i,y)∈freezeB rs cs→∃x,rs i=some x∧Jsb x y
 |[],_,_,h=>by simp[Sx.freezeB] at h
 | c :: r, i, y, h => by
  cases c with
  | sl j =>
   simp only[Sx.freezeB] at h
   split at h
   ·rename_i T s xs e
    rcases List.mem_cons.1 h with h|h
    ·cases h;exact⟨_,e, .inl ⟨T,s,xs,rfl,rfl⟩⟩
    ·exact Vp h
   ·exact Vp h
  | ptr j off =>
   simp only[Sx.freezeB] at h
   split at h
   ·rename_i T cs e
    rcases List.mem_cons.1 h with h|h
    ·cases h;exact⟨_,e, .inr ⟨T,cs,rfl,rfl⟩⟩
    ·exact Vp h
   ·exact Vp h
  |_=>exact Vp (cs:=r) h
theorem Joa {s:Sch} (hno:s.hasList=false):∀{k:Nat} {cs:List SC} {xs:List s.T},Jta s k cs=some xs→Kz (Rep M w s) xs (cs.map (SC.den ρ))∧xs.length=k
 | 0, cs, xs, h => by
  simp only[Jta] at h
  split at h
  ·rename_i e
   cases h
   have:cs=[]:=by simpa using e
   subst this
   exact⟨rfl,rfl⟩
  ·cases h
 | k + 1, cs, xs, h => by
  simp only[Jta] at h
  split at h
  ·rename_i x l hx hl
   cases h
   obtain⟨h1,h2⟩:=Joa hno hl
   have h3:Rep M w s x ((cs.take s.size).map (SC.den ρ)):=by rw[Di hx hno];exact F3 ρ x hno
   exact⟨⟨_,_,by rw[←List.map_append,List.take_append_drop],h3,h1⟩,by simp[h2]⟩
  ·cases h
theorem Jeq {i b off k:Nat} {e TT:TypeId} {s:Sch} {cs:List SC} {xs:List s.T} (hi:ρ i= .pointer (some ⟨b,0,none⟩)) (hb:w.heap[b]? =some (.cells (cs.map (SC.den ρ)).toArray TT (0,0))) (hM:M b) (hno:s.hasList=false) (hk:0<k) (hl:off+k*s.size≤cs.length) (hxs:Jta s k ((cs.drop off).take (k*s.size))=some xs):
  Rep M w (.list e s) xs [.slice (some ⟨b,off,none⟩) k k]:=by
 obtain⟨h1,h2⟩:=Joa (M:=M) (w:=w) (ρ:=ρ) hno hxs
 refine⟨_,_,rfl,h1, .inr ⟨b,off,k,by rw[h2],Nat.le_of_eq h2,fun j u hu=> ?_,fun _=>hM⟩⟩
 refine U9 hb ?_
 rw[List.getElem?_map] at hu
 simp only[List.getElem?_map,List.getElem?_take,List.getElem?_drop] at hu⊢
 split at hu
 ·simpa using hu
 ·cases hu
theorem Xi {T e:TypeId} {k sz b off:Nat} (hT:P.underlying T=some (.array k e)) (hs:J7 P e=some sz):(Instr.sliceAt T (.pointer (some ⟨b,off,none⟩)) none none none).run P w= .ok (.slice (some ⟨b,off,none⟩) k k) w:=by
 simp[Instr.sliceAt,Sem.run_bind,run_underlying hT,Instr.sureAddr,Instr.sliceBounds,Jx hs,Addr.add]
theorem Ze [Dr] (C:Jl P N B w0 al τ σ a w ρ M R) {o:Oper} (hd:∀t,o.dst=some t→t<N) {i off k:Nat} {T e TT:TypeId} {x:Operand} {s:Sch} {sz:Nat} {cs:List SC} {xs:List s.T} (ho:o.op= .slice T x none none none) (hx:a.eval x=(SC.ptr i off).den ρ)
  (hT:P.underlying T=some (.array k e)) (hs:J7 P e=some sz) (hc:sz=s.size∧s.hasList=false∧0<k∧off+k*sz≤cs.length) (hxs:Jta s k ((cs.drop off).take (k*sz))=some xs) (hfresh:∀id,al id→¬(n≤id∧id<n+1)):
  (σ i=some (.box TT cs)→Kp P N B w0 al τ σ a w R n o ⟨[], .one (.sl n),[.imm e s xs],[(i,some (.fbox TT cs))]⟩)∧
  (σ i=some (.fbox TT cs)→Kp P N B w0 al τ σ a w R n o ⟨[], .one (.sl n),[.imm e s xs],[]⟩):=by
 obtain⟨rfl,c1,c2,c3⟩:=hc
 refine⟨fun hr=> ?_,fun hr=> ?_⟩
 ·have C':=C.freezeX n (upd:=[(i,some (.fbox TT cs))]) fun j y h=>by
   simp only[look] at h
   split at h
   ·rename_i e;subst e;cases h;exact⟨_,hr, .inr ⟨TT,cs,rfl,rfl⟩⟩
   ·cases h
  have hi':Ki σ n [] [(i,some (.fbox TT cs))] i=some (.fbox TT cs):=by
   unfold Ki
   rw[if_neg (by simp<;>omega)]
   simp[look]
  obtain⟨b,h1,h2,h3⟩:=C'.res i _ hi'
  have hrep:=Jeq (e:=e) (M:=fun b=>M b∨∃j y x,look [(i,some (Res.fbox TT cs))] j=some y∧σ j=some x∧x.owning=true∧blk (ρ j)=some b) h1 h2 h3 c1 c2 c3 hxs
  obtain⟨ρ',hC⟩:=Xh C' (d:=o.dst) hd hrep hfresh
  rw[Xj] at hC
  intro K Q hK
  refine Jg ?_ (hK _ w ρ' _ hC)
  have hx':a.eval x= .pointer (some ⟨b,off,none⟩):=by rw[hx];simp[SC.den,h1]
  simp only[execOp,ho,hx']
  exact J2 (Xi hT hs)
 ·obtain⟨b,h1,h2,h3⟩:=C.res i _ hr
  have hrep:=Jeq (e:=e) (M:=M) h1 h2 h3 c1 c2 c3 hxs
  obtain⟨ρ',hC⟩:=Xh C (d:=o.dst) hd hrep hfresh
  intro K Q hK
  refine Jg ?_ (hK _ w ρ' _ hC)
  have hx':a.eval x= .pointer (some ⟨b,off,none⟩):=by rw[hx];simp[SC.den,h1]
  simp only[execOp,ho,hx']
  exact J2 (Xi hT hs)
end
end Go.Sx
namespace Go.Sx
open Go.RowKit
section
variable {P:Program} {N B:Nat} {w0:K8} {al:Nat→Prop} {τ:Nat→Option SV} {σ:Nat→Option Res} {a:Act} {w:World} {ρ:Env} {M R:Nat→Prop} {n:Nat} {d:Option Tmp}
theorem Jl.turn [Dr] (C:Jl P N B w0 al τ σ a w ρ M R) (hd:∀t,d=some t→t<N) (hn:¬al n) {j:Nat} {x0 x':Res} (hj:σ j=some x0) (ho0:x0.owning=true) (hids:x'.ids=[]) {u:Value} {w':World} (hune:u.oneCell'=true)
  (hg:w.grownBy w' (ρ j).ownBlock) (hdr:w.drawn≤w'.drawn) (hwh:u.ownBlock=(ρ j).ownBlock∨u.ownBlock=some w.heap.size) (hub:∀b,blk u=some b→u.ownBlock=some b)
  (hres:(∀b,M b∨R b→w'.heap[b]? =w.heap[b]?)→∀ρ':Env,ρ' n=u→Uh P ρ' M R B w' n x'):
  Jl P N B w0 (Ve al n [x']) (Vd τ d (.one (.sl n))) (Ki σ n [x'] [(j,none)]) (a.put d u) w' (Kb ρ n [u]) M R:=by
 have hf3:∀g,(ρ j).ownBlock=some g→¬M g∧¬R g∧B≤g:=fun g hg=>by
  have:=C.notM hj ho0 (Jk hg)
  exact⟨this.1,this.2.1,this.2.2.1⟩
 have hMs:∀b,M b∨R b→w'.heap[b]? =w.heap[b]? :=fun b hb=>hg.block b (C.old b hb) fun h=>by
  have:=hf3 b h.symm
  rcases hb with hb|hb
  ·exact this.1 hb
  ·exact this.2.1 hb
 have en:Kb ρ n [u] n=u:=Ko (i:=0) rfl
 have hne:∀id,al id→id≠n:=fun id h e=>hn (e▸h)
 have eo:∀id,al id→Kb ρ n [u] id=ρ id:=fun id h=>Ke (by have:=hne id h;simp;omega)
 have hjn:al j∧j≠n:=⟨(C.resIds j _ hj).1,hne j (C.resIds j _ hj).1⟩
 have hupd:∀r y,look ([(j,none)]:List (Nat×Option Res)) r=some y→j=r∧y=none:=by
  intro r y h
  simp only[look] at h
  split at h
  ·rename_i e;subst e;cases h;exact⟨rfl,rfl⟩
  ·cases h
 have hother:∀r x,look ([(j,none)]:List (Nat×Option Res)) r=none→σ r=some x→x.owning=true→∀b,blk (ρ r)=some b→some b≠(ρ j).ownBlock:=by
  intro r x hlk hx hox b hb h
  have hrj:r≠j:=by rintro rfl;simp[look] at hlk
  exact C.apart r j x _ hrj hx hj hox ho0 b hb (Jk h.symm)
 refine C.step hd (fun id h=>by have:=hne id h;simp;omega) (fun id h=>Ke (by simpa using h)) (by show u=valOf false [Kb ρ n [u] n];rw[en];rfl) ?_ ((Below.refl B w).grown hg hdr C.base fun k hk=>(hf3 k hk).2.2) hg.size (fun _ h=>h)
  (fun b h=>Nat.lt_of_lt_of_le (C.old b (.inl h)) hg.size) hMs ?_ ?_ ?_ ?_
 ·intro id hid
  have:id=n:=by simpa[SV.ids,J1,SC.ids] using hid
  exact .inr ⟨by omega,by simp;omega⟩
 ·intro r x _ hlk hx hox b hb
  obtain⟨h1,_,_,h2⟩:=C.notM hx hox hb
  exact⟨hg.block b h2 (hother r x hlk hx hox b hb),h1⟩
 ·rintro r x hx (h|h)
  ·have er:r=n:=by simp at h;omega
   subst er
   rw[Vm h] at hx
   simp at hx
   subst hx
   exact⟨hres hMs _ en, .inr h,fun id hid=>by rw[hids] at hid;simp at hid⟩
  ·obtain⟨y,hy'⟩:=Option.ne_none_iff_exists'.1 h
   obtain⟨hjr,rfl⟩:=hupd r y hy'
   have:=hjn.2
   unfold Ki at hx
   rw[if_neg (by simp;omega),hy'] at hx
   cases hx
 ·intro id h
  have er:id=n:=by simp at h;omega
  subst er
  rw[en];exact hune
 ·rintro r r' x1 x2 hne' h1 h2 o1 o2 (h|h) b hb1 hb2
  ·have er:r=n:=by simp at h;omega
   subst er
   rw[en] at hb1
   have hb1':=hub b hb1
   unfold Ki at h2
   rw[if_neg (by simp;omega)] at h2
   split at h2
   ·rename_i y hy'
    obtain⟨_,rfl⟩:=hupd r' _ hy'
    cases h2
   ·rename_i hlk
    rw[eo r' (C.resIds r' x2 h2).1] at hb2
    rcases hwh with hwh|hwh
    ·exact hother r' x2 hlk h2 o2 b hb2 (by rw[←hwh,hb1'])
    ·rw[hwh] at hb1';cases hb1'
     have:=(C.notM h2 o2 hb2).2.2.2
     exact Nat.lt_irrefl _ this
  ·obtain⟨y,hy'⟩:=Option.ne_none_iff_exists'.1 h
   obtain⟨hjr,rfl⟩:=hupd r y hy'
   have:=hjn.2
   unfold Ki at h1
   rw[if_neg (by simp;omega),hy'] at h1
   cases h1
theorem Jkc [Dr] (C:Jl P N B w0 al τ σ a w ρ M R) {o:Oper} (hd:∀t,o.dst=some t→t<N) {i:Nat} {T e:TypeId} {x:Operand} {lo:Option Operand} {s:Sch} {xs:List s.T} {l:Nat} (ho:o.op= .slice T x lo none none) (hx:a.eval x=ρ i)
  (hT:P.underlying T=some (.slice e)) (hs:J7 P e=some s.size) (hlo:Jj8 (lo.map a.eval) l 0) (h1:l≤xs.length) (hr:σ i=some (.ownT e s xs)) (hfresh:∀id,al id→¬(n≤id∧id<n+1)) (pre:List Prop):
  Kp P N B w0 al τ σ a w R n o ⟨pre, .one (.sl n),[.ownT e s (xs.drop l)],[(i,none)]⟩:=by
 obtain⟨flat,f1,f2,f3⟩:=C.res i _ hr
 have hn:¬al n:=fun h=>hfresh n h ⟨Nat.le_refl _,by omega⟩
 have hfl:=f1.length
 obtain⟨u,hrun,hown,hwh,hone,hub⟩:∃u,(Instr.slice T (ρ i) (lo.map a.eval) none none).run P w= .ok u w∧Jkm w B e s.size u (xs.drop l).length (flat.drop (l*s.size))∧(u.ownBlock=(ρ i).ownBlock∨u.ownBlock=some w.heap.size)∧u.oneCell'=true∧∀b,blk u=some b→u.ownBlock=some b:=by
  rcases f2.2 with⟨h2,h3⟩|⟨g,dd,cap,cur,h2,hb,hg,h3,h4,h5,h6⟩
  ·rw[h3] at h1
   have hl0:l=0:=by omega
   subst hl0
   refine⟨.slice none 0 0, ?_, ?_, ?_,rfl,fun b hb=>by cases hb⟩
   ·rw[h2]
    have:=Vw (w:=w) hT hs none (len:=0) (cap:=0) hlo (.inl ⟨rfl,rfl⟩) (Nat.le_refl _) (Nat.le_refl _) (Nat.le_refl _)
    simpa using this
   ·refine⟨by simp[hfl,h3], .inl ⟨rfl,by simp[h3]⟩⟩
   ·left;rw[h2]
  ·have hsl:=Vw (w:=w) hT hs (some ⟨g,dd,none⟩) (len:=xs.length) (cap:=cap) hlo (.inl ⟨rfl,rfl⟩) h1 (Nat.le_refl _) h3
   have had:(some (⟨g,dd,none⟩:Addr)).map (·.add (l*s.size))=some ⟨g,dd+l*s.size,none⟩:=by simp[Addr.add_lit]
   by_cases hcl:cap=l
   ·rw[if_pos hcl] at hsl
    have hx0:xs.length=l:=by omega
    refine⟨_,by rw[h2];exact hsl,⟨?_, ?_⟩, ?_,rfl,fun b hb=>by cases hb;rfl⟩
    ·rw[List.length_drop,hfl,List.length_drop,Nat.sub_mul]
    ·have hnil:flat.drop (l*s.size)=[]:=List.drop_eq_nil_of_le (by rw[hfl,hx0];exact Nat.le_refl _)
     refine .inr ⟨g,dd,cap-l,cur,by rw[List.length_drop],hb,hg,by rw[List.length_drop];omega,by omega, ?_, ?_⟩
     ·have:(cap-l)*s.size=0:=by rw[hcl,Nat.sub_self,Nat.zero_mul]
      omega
     ·rw[hnil,List.length_drop,hx0,Nat.sub_self,Nat.zero_mul,List.take_zero]
    ·left;rw[h2];rfl
   ·rw[if_neg hcl,had] at hsl
    have hsub:cap*s.size=l*s.size+(cap-l)*s.size:=by rw[←Nat.add_mul];congr 1;omega
    refine⟨_,by rw[h2];exact hsl,⟨?_, ?_⟩, ?_,rfl,fun b hb=>by cases hb;rfl⟩
    ·rw[List.length_drop,hfl,List.length_drop,Nat.sub_mul]
    ·refine .inr ⟨g,dd+l*s.size,cap-l,cur,by rw[List.length_drop],hb,hg,by rw[List.length_drop];omega,by omega,by omega, ?_⟩
     rw[←h6,List.drop_take,List.drop_drop,List.length_drop,Nat.sub_mul]
    ·left;rw[h2];rfl
 intro K Q hK
 refine Jg ?_ (hK u w _ M (C.turn (n:=n) (d:=o.dst) (x':= .ownT e s (xs.drop l)) hd hn hr rfl rfl hone (World.grownBy.refl _ _) (Nat.le_refl _) hwh hub fun _ ρ' hρ'=> ?_))
 ·simp only[execOp,ho,hx]
  refine J2 ?_
  simp only[Instr.sliceAt,Sem.run_bind,run_underlying hT,Result.andThen_ok]
  exact hrun
 ·refine⟨flat.drop (l*s.size),f1.drop (fun _ _ h=>Rep.length h) l,by rw[hρ'];exact hown,fun g hg=> ?_⟩
  rw[hρ'] at hg
  rcases hwh with hwh|hwh
  ·rw[hwh] at hg;exact f3 g hg
  ·rw[hwh] at hg;cases hg
   exact⟨fun h=>Nat.lt_irrefl _ (C.old _ (.inl h)),fun h=>Nat.lt_irrefl _ (C.old _ (.inr h))⟩
theorem Jk3 [Dr] (C:Jl P N B w0 al τ σ a w ρ M R) {o:Oper} (hd:∀t,o.dst=some t→t<N) {i:Nat} {T e:TypeId} {x:Operand} {hi:Option Operand} {s:Sch} {xs:List s.T} {m:Nat} (ho:o.op= .slice T x none hi none) (hx:a.eval x=ρ i)
  (hT:P.underlying T=some (.slice e)) (hs:J7 P e=some s.size) (hhi:Jj8 (hi.map a.eval) m xs.length) (h1:m≤xs.length) (hr:σ i=some (.own e s xs)) (hfresh:∀id,al id→¬(n≤id∧id<n+1)) (pre:List Prop):
  Kp P N B w0 al τ σ a w R n o ⟨pre, .one (.sl n),[.own e s (xs.take m)],[(i,none)]⟩:=by
 obtain⟨flat,f1,f2,f3⟩:=C.res i _ hr
 have hn:¬al n:=fun h=>hfresh n h ⟨Nat.le_refl _,by omega⟩
 have hfl:=f1.length
 have hlen:(xs.take m).length=m:=by rw[List.length_take];omega
 have hsm:m*s.size≤xs.length*s.size:=Nat.mul_le_mul_right _ h1
 obtain⟨u,hrun,hown,hwh,hone,hub⟩:∃u,(Instr.slice T (ρ i) none (hi.map a.eval) none).run P w= .ok u w∧w.ownsRow B e s.size u (xs.take m).length (flat.take (m*s.size))∧(u.ownBlock=(ρ i).ownBlock∨u.ownBlock=some w.heap.size)∧u.oneCell'=true∧∀b,blk u=some b→u.ownBlock=some b:=by
  rw[hlen]
  rcases f2.2 with⟨h2,h3⟩|⟨g,cap,cur,h2,hb,hg,h3,h4,h5,h6⟩
  ·rw[h3] at h1 hhi
   have hl0:m=0:=by omega
   subst hl0
   refine⟨.slice none 0 0, ?_, ?_, ?_,rfl,fun b hb=>by cases hb⟩
   ·rw[h2]
    have:=Vw (w:=w) hT hs none (len:=0) (cap:=0) (lo:=none) (.inl ⟨rfl,rfl⟩) hhi (Nat.le_refl _) (Nat.le_refl _) (Nat.le_refl _)
    simpa using this
   ·exact⟨by simp, .inl ⟨rfl,rfl⟩⟩
   ·left;rw[h2]
  ·have hsl:=Vw (w:=w) hT hs (some ⟨g,0,none⟩) (len:=xs.length) (cap:=cap) (lo:=none) (.inl ⟨rfl,rfl⟩) hhi (Nat.zero_le _) h1 h3
   have had:(if cap=0 then(some (⟨g,0,none⟩:Addr)) else(some (⟨g,0,none⟩:Addr)).map (·.add (0*s.size)))=some ⟨g,0,none⟩:=by
    split<;>simp[Addr.add_lit]
   rw[had,Nat.sub_zero,Nat.sub_zero] at hsl
   refine⟨_,by rw[h2];exact hsl,⟨?_, ?_⟩, ?_,rfl,fun b hb=>by cases hb;rfl⟩
   ·rw[List.length_take,hfl];omega
   ·refine .inr ⟨g,cap,cur,rfl,hb,hg,by omega,h4,h5, ?_⟩
    rw[←h6,List.take_take,Nat.min_eq_left hsm]
   ·left;rw[h2];rfl
 intro K Q hK
 refine Jg ?_ (hK u w _ M (C.turn (n:=n) (d:=o.dst) (x':= .own e s (xs.take m)) hd hn hr rfl rfl hone (World.grownBy.refl _ _) (Nat.le_refl _) hwh hub fun _ ρ' hρ'=> ?_))
 ·simp only[execOp,ho,hx]
  refine J2 ?_
  simp only[Instr.sliceAt,Sem.run_bind,run_underlying hT,Result.andThen_ok]
  exact hrun
 ·refine⟨flat.take (m*s.size),f1.take (fun _ _ h=>Rep.length h) m,by rw[hρ'];exact hown,fun g hg=> ?_⟩
  rw[hρ'] at hg
  rcases hwh with hwh|hwh
  ·rw[hwh] at hg;exact f3 g hg
  ·rw[hwh] at hg;cases hg
   exact⟨fun h=>Nat.lt_irrefl _ (C.old _ (.inl h)),fun h=>Nat.lt_irrefl _ (C.old _ (.inr h))⟩
theorem Jl.appendT [Dr] (C:Jl P N B w0 al τ σ a w ρ M R) (hd:∀t,d=some t→t<N) (hn:¬al n) {rs:Nat→Option Res} (hrs:∀id x,rs id=some x→σ id=some x)
  {t e ty:TypeId} {s:Sch} {i:TypeInfo} {z:Value} {xs ys:List s.T} {cy:List SC} {j:Nat}
  (ht:P.underlying t=some (.slice e)) (hi:P.info? e=some i) (hz:i.zero=some z) (hsz:i.size=s.size) (hzs:z.cells.size=s.size) (h0:0<s.size) (hb0:0<i.bytes)
  (hj:σ j=some (.ownT e s xs)) (hy:Yh rs s cy=some ys)
  (hroom:(xs.length+ys.length)*i.bytes≤140737488355328):
  ∃u w' ρ',(Builtin.append_ #[t,t] ty #[ρ j,valOf false (cy.map (SC.den ρ))]).run P w= .ok u w'∧
   Jl P N B w0 (Ve al n [.ownT e s (xs++ys)]) (Vd τ d (.one (.sl n))) (Ki σ n [.ownT e s (xs++ys)] [(j,none)]) (a.put d u) w' ρ' M R:=by
 obtain⟨c,rfl,hrow⟩:=Y8 C hrs hy
 obtain⟨flat,hf1,hf2,hf3⟩:=C.res j _ hj
 have hmax:xs.length+ys.length≤maxLen:=by
  have:=Nat.le_mul_of_pos_right (xs.length+ys.length) hb0
  unfold maxLen
  omega
 have hfl:=hf1.length
 have key : ∃ u w' flat2, (Builtin.append_ #[t, t] ty #[ρ j, c.den ρ]).run P w = .ok u w' ∧ Kz (Rep M w s) ys flat2 ∧ Jkm w' B e s.size u (xs.length + ys.length) (flat ++ flat2) ∧ w.grownBy w' (ρ j).ownBlock ∧ (u.ownBlock = (ρ j).ownBlock ∨ u.ownBlock = some w.heap.size) := by
  rcases hrow with⟨h1,rfl⟩|⟨ad,cap2,flat2,h1,h2,h3⟩
  ·-- nothing is appended
   refine⟨ρ j,w,[], ?_,rfl,by simpa using hf2,World.grownBy.refl _ _, .inl rfl⟩
   rw[h1]
   rcases hf2.2 with⟨e1,e2⟩|⟨g,dd,cap,cur,e1,_,_,e2,_⟩
   ·rw[e1]
    simp[Builtin.append_,run_underlying ht,sizeOf,typeInfo,hi,Builtin.lenOf,Builtin.firstCells]
   ·rw[e1]
    simp[Builtin.append_,run_underlying ht,sizeOf,typeInfo,hi,Builtin.lenOf,Builtin.firstCells,e2,storeCells]
  ·have hl:=h2.length
   have h1c:=Hu h2
   rcases hf2.2 with⟨e1,e2⟩|⟨g,dd,cap,cur,e1,hb,hg,e2,e3,e4,e5⟩
   ·have hown:w.ownsRow B e s.size (ρ j) xs.length flat:=⟨hf2.1, .inl ⟨e1,e2⟩⟩
    obtain⟨u,w',hr,ho,hg,_⟩:=run_append_own (P:=P) w B t ty e i z s.size i.bytes ht hi hz hsz rfl hzs h0 (ρ j) xs.length flat hown ad ys.length cap2 flat2 hl h3 h1c hmax hroom C.base
    exact⟨u,w',flat2,by rw[h1];exact hr,h2,Jdk ho,hg,D7 t ty e i z ht hi hz hsz rfl hown hl h3 h1c hmax hroom hr⟩
   ·have hold:∀k u,flat[k]? =some u→w.cell? ((⟨g,dd,none⟩:Addr).add k)=some u:=(F9 hf2 e1).2
    by_cases hrm:xs.length+ys.length≤cap
    ·-- there is room
     have hmulr:(xs.length+ys.length)*s.size≤cap*s.size:=Nat.mul_le_mul_right _ hrm
     rw[Nat.add_mul] at hmulr
     have hst:=run_storeCells_at P g (dd+xs.length*s.size) e flat2 0 cur w hg (by omega) h1c
     rw[Nat.add_zero] at hst
     have hfc:(Builtin.firstCells i.size ys.length (.slice (some ad) ys.length cap2)).run P w= .ok flat2.toArray w:=by
      have:=run_loadCells_list (P:=P) w ad flat2 h3
      rw[hl] at this
      simpa[Builtin.firstCells,hsz] using this
     have hX:∃X:Array Value,X=(cur.toList.take (dd+xs.length*s.size)++flat2++cur.toList.drop (dd+xs.length*s.size+flat2.length)).toArray:=⟨_,rfl⟩
     obtain⟨X,hX⟩:=hX
     rw[←hX] at hst
     have hXs:X.size=cur.size:=by rw[hX];simp;omega
     refine⟨.slice (some ⟨g,dd,none⟩) (xs.length+ys.length) cap,w.setRow g X,flat2, ?_,h2,⟨?_, .inr ⟨g,dd,cap,X,rfl,hb,setRow_heap w g cur X e (0,0) hg,hrm,e3,by omega, ?_⟩⟩, ?_, .inl (by rw[e1];rfl)⟩
     ·rw[h1,e1]
      rw[hsz] at hfc
      simp[Builtin.append_,run_underlying ht,sizeOf,typeInfo,hi,Builtin.lenOf,hrm,hfc,Addr.add_lit,hsz,hst]
     ·rw[List.length_append,hfl,hl,Nat.add_mul]
     ·rw[hX,List.toList_toArray,Nat.add_mul,←hl]
      have e6:(cur.toList.take (dd+xs.length*s.size)++flat2++cur.toList.drop (dd+xs.length*s.size+flat2.length)).drop dd=flat++flat2++cur.toList.drop (dd+xs.length*s.size+flat2.length):=by
       rw[List.append_assoc,List.drop_append,List.length_take,Nat.min_eq_left (by show _≤cur.size;exact Nat.le_trans (by omega) e4),List.drop_take,show dd+xs.length*s.size-dd=xs.length*s.size by omega,e5,show dd-(dd+xs.length*s.size)=0 by omega,List.drop_zero,List.append_assoc]
      rw[e6,List.take_left' (by rw[List.length_append,hfl])]
     ·rw[e1]
      refine⟨rfl,rfl,rfl,by rw[Vx];exact Nat.le_refl _,fun k _ hk=>setRow_other w g k X fun h=>hk (by rw[h];rfl)⟩
    ·-- there is none
     have hfit:(xs.length+ys.length)*i.bytes≤140737488355328:=hroom
     obtain⟨u,w',hr,ho,hgr⟩:=run_append_arg_grows (P:=P) w t ty e i z s.size i.bytes ht hi hz hsz rfl hzs h0 ⟨g,dd,none⟩ xs.length cap flat hfl hold ad ys.length cap2 flat2 hl h3 (by omega) hmax hfit
     have hgb:u.ownBlock=some w.heap.size:=by
      have hsmall:xs.length+ys.length≤9223372036854775807:=by simp only[maxLen] at hmax;omega
      rw[run_append_grow (P:=P) w t ty e i z ht hi hz ⟨g,dd,none⟩ xs.length cap flat (by rw[hfl,hsz]) hold ad ys.length cap2 flat2 (by rw[hl,hsz]) h3 (by omega) (by omega) (growslice_fits (by omega) hfit)] at hr
      cases hr
      rfl
     refine⟨u,w',flat2,by rw[h1,e1];exact hr,h2, ?_,⟨hgr.os,hgr.tape,hgr.output,hgr.size,fun k hk _=>hgr.block k hk (by simp)⟩, .inr hgb⟩
     have:=Jdk ho
     refine⟨this.1, ?_⟩
     rcases this.2 with q|⟨g',d',cap',cur',q1,q2,q3⟩
     ·exact .inl q
     ·exact .inr ⟨g',d',cap',cur',q1,Nat.le_trans C.base q2,q3⟩
 obtain⟨u,w',flat2,hr,hf4,ho,hg,hwh⟩:=key
 have hone:u.oneCell'=true:=by
  rcases ho.2 with⟨h,_⟩|⟨g,dd,cap,cur,h,_⟩<;>rw[h]<;>rfl
 have hub:∀b,blk u=some b→u.ownBlock=some b:=by
  intro b hb
  rcases ho.2 with⟨h,_⟩|⟨g,dd,cap,cur,h,_⟩
  ·rw[h] at hb;cases hb
  ·rw[h] at hb⊢;cases hb;rfl
 refine⟨u,w',_,hr,C.turn (x':= .ownT e s (xs++ys)) hd hn hj rfl rfl hone hg (F2 hr) hwh hub fun hMs ρ' hρ'=> ?_⟩
 refine⟨flat++flat2,(hf1.append hf4).imp fun _ _ h=>h.keep fun b hb=>⟨hb,hMs b (.inl hb)⟩, ?_,fun g hgb=> ?_⟩
 ·rw[hρ',List.length_append];exact ho
 ·rw[hρ'] at hgb
  rcases hwh with hwh|hwh
  ·rw[hwh] at hgb;exact hf3 g hgb
  ·rw[hwh] at hgb;cases hgb
   exact⟨fun h=>Nat.lt_irrefl _ (C.old _ (.inl h)),fun h=>Nat.lt_irrefl _ (C.old _ (.inr h))⟩
theorem Jf0 {w:World} {b:Nat} {cur:Array Value} {T:TypeId} {m:Nat×Nat} (h:w.heap[b]? =some (.cells cur T m)) (k:Nat):(∃m',(w.freeze ⟨b,k,none⟩ 1).heap[b]? =some (.cells cur T m'))∧w.grownBy (w.freeze ⟨b,k,none⟩ 1) (some b)∧(w.freeze ⟨b,k,none⟩ 1).drawn=w.drawn:=by
 obtain⟨lo,hi⟩:=m
 unfold World.freeze
 rw[if_neg (by decide)]
 refine⟨⟨(if lo==hi then(k,k+1) else(min lo k,max hi (k+1))), ?_⟩,⟨rfl,rfl,rfl,by simp,fun k hk hne=> ?_⟩,rfl⟩
 ·simp only[Array.getElem?_modify,if_true,h,Option.map_some]
 ·simp only[Array.getElem?_modify]
  rw[if_neg fun e=>hne (by rw[e])]
theorem Jhh [Dr] (C:Jl P N B w0 al τ σ a w ρ M R) {o:Oper} (hd:∀t,o.dst=some t→t<N) {i:Nat} {T e U:TypeId} {x:Operand} {xs:List Int} (ho:o.op= .convert T T x) (hx:a.eval x=ρ i)
  (hT:P.underlying T=some (.slice e)) (he:P.underlying e=some (.int .u8)) (hr:σ i=some (.lit U xs)) (hfresh:∀id,al id→¬(n≤id∧id<n+1)):
  Kp P N B w0 al τ σ a w R n o ⟨[], .one (.sl n),[.lit U xs],[(i,none)]⟩:=by
 obtain⟨h0,b,m,h1,h2,h3,h4,h5⟩:=C.res i _ hr
 have hn:¬al n:=fun h=>hfresh n h ⟨Nat.le_refl _,by omega⟩
 obtain⟨⟨m',f1⟩,f2,f3⟩:=Jf0 h2 (xs.map (Value.int .u8)).toArray.size
 have hsh:w.shape? b=some (U,(xs.map (Value.int .u8)).toArray.size):=by unfold World.shape?;rw[h2]
 have hrun:(convert T T (ρ i)).run P w= .ok (ρ i) (w.freeze ⟨b,(xs.map (Value.int .u8)).toArray.size,none⟩ 1):=by
  rw[h1]
  simp[convert,run_underlying hT,run_underlying he,markStringish,hsh]
 intro K Q hK
 refine Jg ?_ (hK (ρ i) _ _ M (C.turn (n:=n) (d:=o.dst) (x':= .lit U xs) hd hn hr rfl rfl (by rw[h1];rfl) (by rw[h1];exact f2) (by rw[f3];exact Nat.le_refl _) (.inl rfl) (fun b' hb=>by rw[h1] at hb⊢;cases hb;rfl) fun _ ρ' hρ'=> ?_))
 ·simp only[execOp,ho,hx]
  exact J2 hrun
 ·exact⟨h0,b,m',by rw[hρ',h1],f1,h3,h4,h5⟩
theorem Jlr {M:Nat→Prop} {w:World}:∀xs:List Int,Kz (Rep M w (.int .u8)) xs (xs.map (Value.int .u8))
 |[]=>rfl
 |x::xs=>⟨[.int .u8 x],_,rfl,rfl,Jlr xs⟩
theorem Jl.appendLit [Dr] (C:Jl P N B w0 al τ σ a w ρ M R) (hd:∀t,d=some t→t<N) (hn:¬al n) {rs:Nat→Option Res} (hrs:∀id x,rs id=some x→σ id=some x)
  {t e ty:TypeId} {i:TypeInfo} {z:Value} {xs ys:List Int} {cy:List SC} {j:Nat}
  (ht:P.underlying t=some (.slice e)) (hi:P.info? e=some i) (hz:i.zero=some z) (hsz:i.size=(Sch.int .u8).size) (hzs:z.cells.size=(Sch.int .u8).size) (hb0:0<i.bytes)
  (hj:σ j=some (.lit e xs)) (hy:Yh rs (.int .u8) cy=some ys) (h0y:0<ys.length)
  (hroom:(xs.length+ys.length)*i.bytes≤140737488355328):
  ∃u w' ρ',(Builtin.append_ #[t,t] ty #[ρ j,valOf false (cy.map (SC.den ρ))]).run P w= .ok u w'∧
   Jl P N B w0 (Ve al n [.own e (.int .u8) (xs++ys)]) (Vd τ d (.one (.sl n))) (Ki σ n [.own e (.int .u8) (xs++ys)] [(j,none)]) (a.put d u) w' ρ' M R:=by
 obtain⟨c,rfl,hrow⟩:=Y8 C hrs hy
 obtain⟨h0,b,m,h1,h2,h3,h4,h5⟩:=C.res j _ hj
 have hmax:xs.length+ys.length≤maxLen:=by
  have:=Nat.le_mul_of_pos_right (xs.length+ys.length) hb0
  unfold maxLen
  omega
 rcases hrow with⟨_,rfl⟩|⟨ad,cap2,flat2,g1,g2,g3⟩
 ·simp at h0y
 have hl:=g2.length
 have h1c:=Hu g2
 have hfl:(xs.map (Value.int .u8)).length=xs.length*(Sch.int .u8).size:=by rw[List.length_map];exact(Nat.mul_one _).symm
 have hold:∀k u,(xs.map (Value.int .u8))[k]? =some u→w.cell? ((⟨b,0,none⟩:Addr).add k)=some u:=fun k u hu=>by
  rw[Addr.add_lit,Nat.zero_add]
  simp only[World.cell?,h2]
  simpa using hu
 obtain⟨u,w',hr,ho,hgr⟩:=run_append_arg_grows (P:=P) w t ty e i z (Sch.int .u8).size i.bytes ht hi hz hsz rfl hzs (by decide) ⟨b,0,none⟩ xs.length xs.length (xs.map (Value.int .u8)) hfl hold ad ys.length cap2 flat2 hl g3 (by omega) hmax hroom
 have hgb:u.ownBlock=some w.heap.size:=by
  have hsmall:xs.length+ys.length≤9223372036854775807:=by simp only[maxLen] at hmax;omega
  rw[run_append_grow (P:=P) w t ty e i z ht hi hz ⟨b,0,none⟩ xs.length xs.length (xs.map (Value.int .u8)) (by rw[hfl,hsz]) hold ad ys.length cap2 flat2 (by rw[hl,hsz]) g3 (by omega) (by omega) (growslice_fits (by omega) hroom)] at hr
  cases hr
  rfl
 have hone:u.oneCell'=true:=by
  rcases ho.2 with⟨h,_⟩|⟨g,cap,cur,h,_⟩<;>rw[h]<;>rfl
 have hub:∀b,blk u=some b→u.ownBlock=some b:=by
  intro b hb
  rcases ho.2 with⟨h,_⟩|⟨g,cap,cur,h,_⟩
  ·rw[h] at hb;cases hb
  ·rw[h] at hb⊢;cases hb;rfl
 have ho':w'.ownsRow B e (Sch.int .u8).size u (xs.length+ys.length) (xs.map (Value.int .u8)++flat2):=by
  refine⟨ho.1, ?_⟩
  rcases ho.2 with q|⟨g',cap',cur',q1,q2,q3⟩
  ·exact .inl q
  ·exact .inr ⟨g',cap',cur',q1,Nat.le_trans C.base q2,q3⟩
 refine⟨u,w',_,by rw[h1];show(Builtin.append_ #[t,t] ty #[_,c.den ρ]).run P w=_;rw[g1];exact hr,C.turn (x':= .own e (.int .u8) (xs++ys)) hd hn hj rfl rfl hone ⟨hgr.os,hgr.tape,hgr.output,hgr.size,fun k hk _=>hgr.block k hk (by simp)⟩ (F2 hr) (.inr hgb) hub fun hMs ρ' hρ'=> ?_⟩
 refine⟨xs.map (Value.int .u8)++flat2,((Jlr xs).append g2).imp fun _ _ h=>h.keep fun b hb=>⟨hb,hMs b (.inl hb)⟩, ?_,fun g hgb'=> ?_⟩
 ·rw[hρ',List.length_append];exact ho'
 ·rw[hρ',hgb] at hgb';cases hgb'
  exact⟨fun h=>Nat.lt_irrefl _ (C.old _ (.inl h)),fun h=>Nat.lt_irrefl _ (C.old _ (.inr h))⟩
end
end Go.Sx
namespace Go.Sx
open Go.RowKit
section
variable {P:Program} {N B:Nat} {w0:K8} {al:Nat→Prop} {τ:Nat→Option SV} {σ:Nat→Option Res} {a:Act} {w:World} {ρ:Env} {M R:Nat→Prop} {n:Nat}
theorem Jc0 [Dr] {rs:Nat→Option Res} {M' R':Nat→Prop} {F:Nat→Prop} (V:Jpt P ρ B M R w rs M' R' F):∀{ps:List (Bool×Sch)} {l:List SV} {y:Tup ps},Zs rs ps l=some y→(∀v∈l,Jsa rs F v)→Jpb M' w ps y (l.map (SV.den ρ))
 |[],[],_,_,_=>rfl
 |[],_::_,_,h,_=>by simp[Zs] at h
 |_::_,[],_,h,_=>by simp[Zs] at h
 | p :: r, v :: vs, y, h, hf => by
  cases v with
  |tup _=>simp[Zs] at h
  | v g cs =>
   simp only[Zs] at h
   split at h
   ·rename_i e;subst e
    split at h
    ·rename_i x z h1 h2
     cases h
     exact⟨cs.map (SC.den ρ),vs.map (SV.den ρ),rfl,Yv (P:=P) (R:=R) (B:=B) V.data h1 V.res fun i T s' xs g hi hr hg=>V.own i T s' xs g ((hf (.v p.1 cs) (by simp)).1 i hi) hr hg,Jc0 V h2 fun u hu=>hf u (by simp[hu])⟩
    ·cases h
   ·cases h
theorem Jo8 [Dr] (C:Jl P N B w0 al τ σ a w ρ M R) {o:Oper} (hd:∀t,o.dst=some t→t<N) {rs:Nat→Option Res} (hrs:∀id x,rs id=some x→σ id=some x) {j:Nat} {ps:List (Bool×Sch)} {r0:Bool×Sch} {pre:Tup ps→List Prop} {h:Tup ps→r0.2.T}
  (hj:rs j=some (.afn ps r0 pre h)) {l:List SV} {y:Tup ps} (hy:Zs rs ps l=some y) (hpre:Kf (pre y))
  (hfresh:∀id,al id→¬(n≤id∧id<n+(Jh (Jq [r0] (h y,())) [] n).2.length))
  (hrun:∀f first caps,ρ j= .func (.func f) first caps→Enters P f→(execOp a.eval o).run P w= .ok (.enter f (first++(l.map (SV.den ρ)).toArray++caps)) w):
  Kp P N B w0 al τ σ a w R n o ⟨[Kf (pre y)],Xd (Jh (Jq [r0] (h y,())) [] n).1,(Jh (Jq [r0] (h y,())) [] n).2,if hasList [r0] then l.flatMap (Dd rs) else[]⟩:=by
 obtain⟨f,first,caps,e,hE,H⟩:=C.res j _ (hrs j _ hj)
 have hr:=hrun f first caps e hE
 have hfit:U5 [r0] []=true:=rfl
 intro K Q hK
 cases hl:hasList [r0] with
 | false =>
  have V:=C.viewAll hrs
  have hc:=H y _ w (l.map (SV.den ρ)) V.data (fun _ _=>rfl) (fun b hb=>V.size b (.inl hb)) C.goodNow hpre (Jc0 V hy fun v _=>by
   cases v with
   |v g cs=>exact⟨fun _ _=>trivial,fun _ _ _ _ _ _ _ _=>trivial⟩
   |tup vs=>trivial)
  refine Ux hr hc fun e w' hp=> ?_
  obtain⟨u,e1,e2⟩:=C.returned_plain (n:=n) hd hp hfit hl
  refine⟨u,e1,hK u w' ρ M ?_⟩
  simp only[hl]
  exact e2
 | true =>
  have hlk:∀i y,look (l.flatMap (Dd rs)) i=some y→∃T s xs,σ i=some (.own T s xs)∧y=some (.imm T s xs):=by
   intro i y h
   obtain⟨v,_,hy⟩:=List.mem_flatMap.1 (Jr h)
   obtain⟨T,s,xs,h1,h2⟩:=Ji7 hy
   exact⟨T,s,xs,hrs _ _ h1,h2⟩
  have V:=C.viewFrz hrs (l.flatMap (Dd rs))
  have C':=C.freeze n hlk
  have hc:=H y _ w (l.map (SV.den ρ)) V.data (fun _ _=>rfl) (fun b hb=>V.size b (.inl hb)) C.goodNow hpre (Jc0 V hy fun v hv=>(Ji6 hv).1)
  refine Ux hr hc fun e w' hp=> ?_
  obtain⟨u,ρ',M',e1,e2⟩:=C'.returned (n:=n) hd hp hfit hfresh
  refine⟨u,e1,hK u w' ρ' M' ?_⟩
  simp only[hl]
  rw[Xj] at e2
  exact e2
theorem Jn4 {T i d m:Nat} {U:TypeId} (h:Y6 P T i=some (d,U)) (hm:J7 P U=some m) {cs:List SC} (hl:d+m≤cs.length) {v:SV} (hv:shape P U ((cs.drop d).take m)=some v) (ρ:Env) (w:World):
  (Instr.field T (.agg (cs.map (SC.den ρ)).toArray) i).run P w= .ok (v.den ρ) w:=by
 obtain⟨g,hg,rfl,h1⟩:=U4 hv
 unfold Y6 at h
 cases hu:P.underlying T with
 |none=>rw[hu] at h;cases h
 | some dd =>
  rw[hu] at h
  cases dd<;>try(cases h;done)
  rename_i fs
  cases hf:fs[i]? with
  |none=>simp[hf] at h
  | some f =>
   simp only[hf] at h
   cases hs:J7 P f.type with
   |none=>simp[hs] at h
   | some k =>
    simp only[hs] at h
    cases k with
    |zero=>cases h
    | succ k =>
     cases h
     rw[hs] at hm;cases hm
     have hlen:((cs.drop f.offset).take (k+1)).length=k+1:=by simp;omega
     cases g with
     |true=>
      simp[Instr.field,Sem.run_bind,run_underlying hu,hf,asAgg,part,Yr hg,Jx hs,SV.den,valOf,List.map_take,List.map_drop]
     |false=>
      have:=h1 rfl
      rw[hlen] at this
      have hk:k=0:=by omega
      subst hk
      have hlt:f.offset<cs.length:=by omega
      have e:(cs.drop f.offset).take (0+1)=[cs[f.offset]]:=by rw[List.drop_eq_getElem_cons hlt];rfl
      have e2:(SV.v false ((cs.drop f.offset).take (0+1))).den ρ=SC.den ρ cs[f.offset]:=by rw[e];rfl
      rw[e2]
      simp[Instr.field,Sem.run_bind,run_underlying hu,hf,asAgg,part,Yr hg,List.getElem?_eq_getElem hlt]
theorem Jdz {T:TypeId} {s:ByteArray} {k:IntKind} {m:Int} (hT:P.underlying T=some .string) (h:0≤m∧m<s.size) (w:World):
  (Instr.index T (.string s) (.int k m)).run P w= .ok (.int .u8 (Jju s m)) w:=by
 have hlt:m.toNat<s.size:=by omega
 have e:s[m.toNat]? =some (s[m.toNat]'hlt):=by simp[getElem?_pos,hlt]
 have e2:Jju s m=((s[m.toNat]'hlt).toNat:Int):=by
  unfold Jju
  have h2:m.toNat<s.data.toList.length:=by simpa using hlt
  rw[List.getD_eq_getElem?_getD,List.getElem?_eq_getElem h2]
  rfl
 simp[Instr.index,asIntOf,Sem.run_bind,run_underlying hT,h.1,e,e2,Sem.run_pure]
theorem Jd0 {T e:TypeId} {sz len:Nat} {k:IntKind} {m:Int} (hT:P.underlying T=some (.array len e)) (hs:J7 P e=some sz) {cs:List SC} (h:0≤m∧m<(len:Int)∧m.toNat*sz+sz≤cs.length) {v:SV} (hv:shape P e ((cs.drop (m.toNat*sz)).take sz)=some v) (ρ:Env) (w:World):
  (Instr.index T (.agg (cs.map (SC.den ρ)).toArray) (.int k m)).run P w= .ok (v.den ρ) w:=by
 obtain⟨g,hg,rfl,h1⟩:=U4 hv
 have hlen:((cs.drop (m.toNat*sz)).take sz).length=sz:=by simp;omega
 cases g with
 |true=>
  simp[Instr.index,asIntOf,Sem.run_bind,run_underlying hT,h.1,h.2.1,part,Yr hg,Jx hs,SV.den,valOf,List.map_take,List.map_drop]
 |false=>
  have hk:=h1 rfl
  rw[hlen] at hk
  subst hk
  have hlt:m.toNat*1<cs.length:=by omega
  have e:(cs.drop (m.toNat*1)).take 1=[cs[m.toNat*1]]:=by rw[List.drop_eq_getElem_cons hlt];rfl
  have e2:(SV.v false ((cs.drop (m.toNat*1)).take 1)).den ρ=SC.den ρ cs[m.toNat*1]:=by rw[e];rfl
  rw[e2]
  have hlt':m.toNat<cs.length:=by omega
  simp[Instr.index,asIntOf,Sem.run_bind,run_underlying hT,h.1,h.2.1,part,Yr hg,Jx hs,List.getElem?_eq_getElem hlt']
theorem Ju3 [Dr] {t ty:TypeId} {x:SV} {m:Int} {rs:Nat→Option Res} (hres:∀i y,rs i=some y→Jwy P ρ M R B w i y) (h:J7r P rs t x=some m) (ts:Array TypeId) (ht:ts[0]? =some t):
  (Builtin.len_ ts ty #[x.den ρ]).run P w= .ok (.int .i64 m) w:=by
 unfold J7r at h
 split at h
 ·rename_i i
  split at h
  ·rename_i e hu
   have key:∀n:Nat,(∃ad cap,ρ i= .slice ad n cap)→(Builtin.len_ ts ty #[(SV.v false [.sl i]).den ρ]).run P w= .ok (.int .i64 n) w:=by
    rintro n ⟨ad,cap,e⟩
    rw[show(SV.v false [.sl i]).den ρ= .slice ad n cap from e]
    simp[Builtin.len_,ht,Sem.run_bind,run_underlying hu,goInt]
   split at h
   ·rename_i T s xs hr
    cases h
    obtain⟨v,flat,h1,_,h3⟩:=hres i _ hr
    cases h1
    rcases h3 with⟨h3|⟨_,_,h3⟩,h4⟩|⟨b,off,cap,h3,_⟩
    ·exact key _ ⟨_,_,by rw[h3,h4]⟩
    ·exact key _ ⟨_,_,by rw[h3,h4]⟩
    ·exact key _ ⟨_,_,h3⟩
   ·rename_i T s xs hr
    cases h
    obtain⟨flat,_,h2,_⟩:=hres i _ hr
    rcases h2.2 with⟨h2,h4⟩|⟨g,cap,cur,h3,_⟩
    ·exact key _ ⟨_,_,by rw[h2,h4]⟩
    ·exact key _ ⟨_,_,h3⟩
   ·rename_i T s xs hr
    cases h
    obtain⟨flat,_,h2,_⟩:=hres i _ hr
    rcases h2.2 with⟨h2,h4⟩|⟨g,dd,cap,cur,h3,_⟩
    ·exact key _ ⟨_,_,by rw[h2,h4]⟩
    ·exact key _ ⟨_,_,h3⟩
   ·cases h
  ·rename_i kT vT hu
   split at h
   ·rename_i kT' gk gv ks vs l hr
    cases h
    obtain⟨_,b,es,h1,h2,h3,_⟩:=hres i _ hr
    have hsz:es.size=l.length:=by have:=h3.length;simpa using this
    rw[show(SV.v false [.sl i]).den ρ= .map (some b) from h1]
    simp[Builtin.len_,ht,Sem.run_bind,run_underlying hu,goInt,J4 h2 rfl,hsz]
   ·cases h
  ·cases h
 ·split at h
  ·rename_i e hu
   cases h
   simp[Builtin.len_,ht,Sem.run_bind,run_underlying hu,SV.den,valOf,SC.den,goInt]
  ·cases h
 ·split at h
  ·rename_i e hu
   cases h
   simp[Builtin.len_,ht,Sem.run_bind,run_underlying hu,SV.den,valOf,SC.den,goInt]
  ·cases h
 ·split at h
  ·rename_i s hu
   cases h
   simp[Builtin.len_,ht,Sem.run_bind,run_underlying hu,SV.den,valOf,SC.den,goInt]
  ·cases h
 ·cases h
theorem Kg {o:Oper} {c:Call} {b:Builtin} (ho:o.op= .call c) (hc:c.callee= .builtin b) {a:Act} {s:Array TypeId→TypeId→Array Value→Sem Value}
  (hb:∀ts ty cs args,builtin b ts ty cs args=(do pure (.value (←s ts ty args)))) {u:Value} {w w':World} (h:(s c.argTypes o.type (c.args.map a.eval)).run P w= .ok u w'):
  (execOp a.eval o).run P w= .ok (.value u) w':=by
 simp[execOp,ho,resolve,hc,invoke,hb,h]
theorem X7 {ev:Operand→Option SV} (hev:∀x sv,ev x=some sv→a.eval x=sv.den ρ∧∀id∈sv.ids,al id) {c:Call} {l:List SV} (h:evL ev c.args.toList=some l):
  c.args.map a.eval=(l.map (SV.den ρ)).toArray∧∀v∈l,∀id∈v.ids,al id:=by
 obtain⟨h1,h2⟩:=Yc hev h
 refine⟨?_,h2⟩
 rw[←h1]
 apply Array.ext'
 simp
theorem Jq0 {k k':IntKind} {x y:Int} (w:World) (ts:Array TypeId) (ty:TypeId):(Builtin.max_ ts ty #[.int k x, .int k' y]).run P w= .ok (.int k (max x y)) w:=by
 have:(max x y)=(if x<y then y else x):=by rw[Int.max_def];split<;>split<;>omega
 simp[Builtin.max_,Builtin.max2,this]
theorem Jqy {k k':IntKind} {x y:Int} (w:World) (ts:Array TypeId) (ty:TypeId):(Builtin.min_ ts ty #[.int k x, .int k' y]).run P w= .ok (.int k (min x y)) w:=by
 have:(min x y)=(if y<x then y else x):=by rw[Int.min_def];split<;>split<;>omega
 simp[Builtin.min_,Builtin.min2,this]
theorem Jna {k k' k2:IntKind} {x y z:Int} (w:World) (ts:Array TypeId) (ty:TypeId):(Builtin.max_ ts ty #[.int k x, .int k' y, .int k2 z]).run P w= .ok (.int k (max (max x y) z)) w:=by
 have e:∀x y:Int,(if x<y then y else x)=max x y:=fun x y=>by rw[Int.max_def];split<;>split<;>omega
 simp[Builtin.max_,Builtin.max2,e]
theorem Jm8 {k k' k2:IntKind} {x y z:Int} (w:World) (ts:Array TypeId) (ty:TypeId):(Builtin.min_ ts ty #[.int k x, .int k' y, .int k2 z]).run P w= .ok (.int k (min (min x y) z)) w:=by
 have e:∀x y:Int,(if y<x then y else x)=min x y:=fun x y=>by rw[Int.min_def];split<;>split<;>omega
 simp[Builtin.min_,Builtin.min2,e]
theorem Jee [Dr] (C : Jl P N B w0 al τ σ a w ρ M R) {o : Oper} (hd : ∀ t, o.dst = some t → t < N) {rs : Nat → Option Res} (hrs : ∀ id x, rs id = some x → σ id = some x)
  {ev:Operand→Option SV} (hev:∀x sv,ev x=some sv→a.eval x=sv.den ρ∧∀id∈sv.ids,al id) {c:Call} {b:Builtin} (ho:o.op= .call c) (hc:c.callee= .builtin b) {l:List SV} (hl:evL ev c.args.toList=some l) {out:Out}
  (hop:Jef P rs n b c.argTypes.toList l=some out) (hpre:Kf out.pre) (hfresh:∀id,al id→¬(n≤id∧id<n+out.news.length)):Kp P N B w0 al τ σ a w R n o out:=by
 obtain⟨hargs,hids⟩:=X7 hev hl
 unfold Jef at hop
 split at hop
 ·rename_i x
  split at hop
  ·rename_i t ts hts
   split at hop
   ·rename_i m hm
    cases hop
    refine Jd C hd rfl rfl (Kg ho hc (s:=Builtin.len_) (fun _ _ _ _=>rfl) ?_) (fun id hid=>by simp[SV.ids,J1,SC.ids] at hid)
    rw[hargs]
    exact Ju3 (fun i y h=>C.res i y (hrs i y h)) hm _ (by rw[←Array.getElem?_toList,hts];rfl)
   ·cases hop
  ·cases hop
 ·rename_i k x k' y
  cases hop
  refine Jd C hd rfl rfl (Kg ho hc (s:=Builtin.max_) (fun _ _ _ _=>rfl) ?_) (fun id hid=>by simp[SV.ids,J1,SC.ids] at hid)
  rw[hargs]
  exact Jq0 w _ _
 ·rename_i k x k' y
  cases hop
  refine Jd C hd rfl rfl (Kg ho hc (s:=Builtin.min_) (fun _ _ _ _=>rfl) ?_) (fun id hid=>by simp[SV.ids,J1,SC.ids] at hid)
  rw[hargs]
  exact Jqy w _ _
 ·rename_i k x k' y k2 z
  cases hop
  refine Jd C hd rfl rfl (Kg ho hc (s:=Builtin.max_) (fun _ _ _ _=>rfl) ?_) (fun id hid=>by simp[SV.ids,J1,SC.ids] at hid)
  rw[hargs]
  exact Jna w _ _
 ·rename_i k x k' y k2 z
  cases hop
  refine Jd C hd rfl rfl (Kg ho hc (s:=Builtin.min_) (fun _ _ _ _=>rfl) ?_) (fun id hid=>by simp[SV.ids,J1,SC.ids] at hid)
  rw[hargs]
  exact Jm8 w _ _
 ·rename_i i y
  split at hop
  ·rename_i t t' hts
   split at hop
   ·rename_i e hu
    split at hop
    ·rename_i e' s xs hr
     split at hop
     ·rename_i he
      obtain⟨e1,hsz⟩:=he
      subst e1
      split at hop
      ·rename_i ys hys
       cases hop
       have p1:ys.length=xs.length:=hpre
       have hts':c.argTypes= #[t,t']:=by
        apply Array.ext';simpa using hts
       unfold Jit at hys
       split at hys
       ·rename_i cy
        obtain⟨w',h1,h2⟩:=C.copyOwn (n:=n) (d:=o.dst) (t':=t') (ty:=o.type) hd hrs (hrs i _ hr) hu hsz hys p1
        intro K Q hK
        refine Jg (Kg ho hc (s:=Builtin.copy_) (fun _ _ _ _=>rfl) ?_) (hK _ w' ρ M h2)
        rw[hargs,hts']
        exact h1
       ·cases hys
      ·cases hop
     ·cases hop
    ·cases hop
   ·cases hop
  ·cases hop
 ·rename_i x y
  split at hop
  ·rename_i t t' hts
   split at hop
   ·rename_i b
    split at hop
    ·rename_i e hu hu'
     split at hop
     ·rename_i i hi
      split at hop
      ·rename_i z hz
       split at hop
       ·rename_i hcnd
        obtain⟨c0,c1,c2⟩:=hcnd
        have ez:z= .int .u8 0:=by
         unfold Jyl at c0
         split at c0
         ·rw[beq_iff_eq] at c0;rw[c0]
         ·cases c0
        subst ez
        have hts':c.argTypes= #[t,t']:=by
         apply Array.ext';simpa using hts
        split at hop
        ·rename_i j
         split at hop
         ·rename_i e' xs hr
          split at hop
          ·rename_i he
           subst he
           cases hop
           obtain⟨u,w',ρ',h1,h2⟩:=C.appendStr (n:=n) (d:=o.dst) (ty:=o.type) hd (fun h=>hfresh n h ⟨Nat.le_refl _,by simp⟩) hu hu' hi hz c1 c2 (hrs _ _ hr) hpre
           intro K Q hK
           refine Jg (Kg ho hc (s:=Builtin.append_) (fun _ _ _ _=>rfl) ?_) (hK u w' ρ' M h2)
           rw[hargs,hts']
           exact h1
          ·cases hop
         ·cases hop
        ·cases hop
       ·cases hop
      ·cases hop
     ·cases hop
    ·cases hop
   ·split at hop
    ·rename_i e; subst e
     split at hop
     ·rename_i e hu
      split at hop
      ·rename_i s i hs hi
       split at hop
       ·rename_i z hz
        split at hop
        ·rename_i hcnd
         obtain⟨c1,c2,c3,c4⟩:=hcnd
         split at hop
         ·rename_i ys hys
          have hts':c.argTypes= #[t,t]:=by
           apply Array.ext';simpa using hts
          unfold Jit at hys
          split at hys
          ·rename_i cy
           split at hop
           ·cases hop
            obtain⟨u,w',ρ',h1,h2⟩:=C.append (n:=n) (d:=o.dst) (ty:=o.type) (xs:=[]) (j:=none) hd (fun h=>hfresh n h ⟨Nat.le_refl _,by simp⟩) hrs hu hi hz c1 c2 c3 c4 ⟨rfl,rfl⟩ hys (by have h:ys.length*i.bytes≤140737488355328:=hpre;simpa using h)
            intro K Q hK
            refine Jg (Kg ho hc (s:=Builtin.append_) (fun _ _ _ _=>rfl) ?_) (hK u w' ρ' M h2)
            rw[hargs,hts']
            exact h1
           ·rename_i j
            split at hop
            ·rename_i e' s' xs hr
             split at hop
             ·rename_i he
              obtain⟨e1,e2⟩:=he
              subst e1;subst e2
              cases hop
              obtain⟨u,w',ρ',h1,h2⟩:=C.append (n:=n) (d:=o.dst) (ty:=o.type) (xs:=xs) (j:=some j) hd (fun h=>hfresh n h ⟨Nat.le_refl _,by simp⟩) hrs hu hi hz c1 c2 c3 c4 ⟨rfl,hrs _ _ hr⟩ hys hpre
              intro K Q hK
              refine Jg (Kg ho hc (s:=Builtin.append_) (fun _ _ _ _=>rfl) ?_) (hK u w' ρ' M h2)
              rw[hargs,hts']
              exact h1
             ·cases hop
            ·rename_i e' s' xs hr
             split at hop
             ·rename_i he
              obtain⟨e1,e2⟩:=he
              subst e1;subst e2
              cases hop
              obtain⟨u,w',ρ',h1,h2⟩:=C.appendT (n:=n) (d:=o.dst) (ty:=o.type) (xs:=xs) (j:=j) hd (fun h=>hfresh n h ⟨Nat.le_refl _,by simp⟩) hrs hu hi hz c1 c2 c3 c4 (hrs _ _ hr) hys hpre
              intro K Q hK
              refine Jg (Kg ho hc (s:=Builtin.append_) (fun _ _ _ _=>rfl) ?_) (hK u w' ρ' M h2)
              rw[hargs,hts']
              exact h1
             ·cases hop
            ·rename_i e' xs hr
             split at hop
             ·rename_i he
              obtain⟨e1,e2⟩:=he
              subst e1;subst e2
              cases hop
              obtain⟨p1,p2⟩:=hpre
              obtain⟨u,w',ρ',h1,h2⟩:=C.appendLit (n:=n) (d:=o.dst) (ty:=o.type) (xs:=xs) (j:=j) hd (fun h=>hfresh n h ⟨Nat.le_refl _,by simp⟩) hrs hu hi hz c1 c2 c4 (hrs _ _ hr) hys p1 p2
              intro K Q hK
              refine Jg (Kg ho hc (s:=Builtin.append_) (fun _ _ _ _=>rfl) ?_) (hK u w' ρ' M h2)
              rw[hargs,hts']
              exact h1
             ·cases hop
            ·cases hop
           ·cases hop
          ·cases hys
         ·cases hop
        ·cases hop
       ·cases hop
      ·cases hop
     ·cases hop
    ·cases hop
  ·cases hop
 ·cases hop
theorem Joe [Dr] (C:Jl P N B w0 al τ σ a w ρ M R) {o:Oper} (hd:∀t,o.dst=some t→t<N) {f:FuncId} {first caps:Array Operand} (ho:o.op= .makeFunc (.func f) first caps) {l1 l2:List SV}
  (e1:first.toList.map a.eval=l1.map (SV.den ρ)) (e2:caps.toList.map a.eval=l2.map (SV.den ρ)) (hids:∀id∈(Res.clo f l1 l2).ids,al id) (hfresh:∀id,al id→¬(n≤id∧id<n+1)):
  Kp P N B w0 al τ σ a w R n o ⟨[], .one (.fv n),[.clo f l1 l2],[]⟩:=by
 intro K Q hK
 have ha1:first.map a.eval=(l1.map (SV.den ρ)).toArray:=by rw[←e1];apply Array.ext';simp
 have ha2:caps.map a.eval=(l2.map (SV.den ρ)).toArray:=by rw[←e2];apply Array.ext';simp
 have hrun:(execOp a.eval o).run P w= .ok (.value (.func (.func f) (l1.map (SV.den ρ)).toArray (l2.map (SV.den ρ)).toArray)) w:=by
  simp[execOp,ho,Instr.makeFunc,ha1,ha2]
 refine Jg hrun (hK _ w (Kb ρ n [.func (.func f) (l1.map (SV.den ρ)).toArray (l2.map (SV.den ρ)).toArray]) M ?_)
 have hnn:∀id,al id→¬id=n:=fun id h e=>hfresh id h (by omega)
 have hold:∀id,¬(n≤id∧id<n+1)→Kb ρ n [.func (.func f) (l1.map (SV.den ρ)).toArray (l2.map (SV.den ρ)).toArray] id=ρ id:=fun id h=>Ke h
 have hnew:Kb ρ n [.func (.func f) (l1.map (SV.den ρ)).toArray (l2.map (SV.den ρ)).toArray] n= .func (.func f) (l1.map (SV.den ρ)).toArray (l2.map (SV.den ρ)).toArray:=Ko (i:=0) rfl
 refine C.step hd hfresh hold hnew.symm (fun id hid=> ?_) (Below.refl _ _) (Nat.le_refl _) (fun _ h=>h) (fun b h=>C.old b (.inl h)) (fun _ _=>rfl) ?_ ?_ ?_ ?_
 ·simp[SV.ids,J1,SC.ids] at hid
  exact .inr (by subst hid;exact⟨Nat.le_refl _,by simp⟩)
 ·intro r x _ _ hx ho b hb
  exact⟨rfl,(C.notM hx ho hb).1⟩
 ·rintro r x hx (h|h)
  ·have hrn:r=n:=by simp at h;omega
   subst hrn
   have:x= .clo f l1 l2:=by simpa[Ki] using hx.symm
   subst this
   refine⟨?_, .inr h,fun id hid=> .inl (hids id hid)⟩
   show Kb _ _ _ r=_
   rw[hnew,Hk fun id hid=>hold id (hfresh id (hids id (List.mem_append_left _ hid))),Hk fun id hid=>hold id (hfresh id (hids id (List.mem_append_right _ hid)))]
  ·exact absurd rfl h
 ·intro id h
  have:id=n:=by simp at h;omega
  subst this
  rw[hnew];rfl
 ·rintro r r' x x' _ hx _ ho _ (h|h)
  ·have hrn:r=n:=by simp at h;omega
   subst hrn
   have:x= .clo f l1 l2:=by simpa[Ki] using hx.symm
   subst this
   cases ho
  ·exact absurd rfl h
theorem Jnq [Dr] (C:Jl P N B w0 al τ σ a w ρ M R) {o:Oper} (hd:∀t,o.dst=some t→t<N) {T:TypeId} {v:SV} (hrun:(execOp a.eval o).run P w= .ok (.value (.iface T (v.den ρ))) w) (hids:∀id∈v.ids,al id) (hfresh:∀id,al id→¬(n≤id∧id<n+1)):
  Kp P N B w0 al τ σ a w R n o ⟨[], .one (.fv n),[.ifb T v],[]⟩:=by
 intro K Q hK
 refine Jg hrun (hK _ w (Kb ρ n [.iface T (v.den ρ)]) M ?_)
 have hold:∀id,¬(n≤id∧id<n+1)→Kb ρ n [.iface T (v.den ρ)] id=ρ id:=fun id h=>Ke h
 have hnew:Kb ρ n [.iface T (v.den ρ)] n= .iface T (v.den ρ):=Ko (i:=0) rfl
 refine C.step hd hfresh hold hnew.symm (fun id hid=> ?_) (Below.refl _ _) (Nat.le_refl _) (fun _ h=>h) (fun b h=>C.old b (.inl h)) (fun _ _=>rfl) ?_ ?_ ?_ ?_
 ·simp[SV.ids,J1,SC.ids] at hid
  exact .inr (by subst hid;exact⟨Nat.le_refl _,by simp⟩)
 ·intro r x _ _ hx ho b hb
  exact⟨rfl,(C.notM hx ho hb).1⟩
 ·rintro r x hx (h|h)
  ·have hrn:r=n:=by simp at h;omega
   subst hrn
   have:x= .ifb T v:=by simpa[Ki] using hx.symm
   subst this
   refine⟨?_, .inr h,fun id hid=> .inl (hids id hid)⟩
   show Kb _ _ _ r=_
   rw[hnew,SV.den_congr fun id hid=>hold id (hfresh id (hids id hid))]
  ·exact absurd rfl h
 ·intro id h
  have:id=n:=by simp at h;omega
  subst this
  rw[hnew];rfl
 ·rintro r r' x x' _ hx _ ho _ (h|h)
  ·have hrn:r=n:=by simp at h;omega
   subst hrn
   have:x= .ifb T v:=by simpa[Ki] using hx.symm
   subst this
   cases ho
  ·exact absurd rfl h
theorem Jqz {T:TypeId} {name:String} {f:FuncId} (h:Juu P T name=some f) (v:Value) (d:Nat):(Go.method (d+1) T v name).run P w= .ok (f,v) w:=by
 unfold Juu at h
 split at h
 ·cases h
 rename_i i hi
 split at h
 ·cases h
 ·cases h
 rename_i u hnp hu
 split at h
 ·cases h
 rename_i m hm
 split at h
 ·cases h
 rename_i hp
 split at h
 case h_2=>cases h
 rename_i f' hf
 cases h
 have hpath:m.path= #[]:=Array.isEmpty_iff.1 hp
 unfold Go.method
 simp only[Sem.run_bind,typeInfo,run_program,Result.andThen_ok,hi,Sem.run_pure,hm,hpath,hf]
 simp only[Go.follow,Sem.run_bind,Sem.run_pure,Result.andThen_ok,receiverAt,run_underlying hu,Place.get]
theorem Hx {parts:Array (Nat×Operand)} {a:Act}:(parts.map fun p=>(p.1,a.eval p.2))=(parts.toList.map fun p=>(p.1,a.eval p.2)).toArray:=by
 apply Array.ext';simp
theorem Jrm {b:Nat} (p1:Jnn .f32 b=true) (p2:Jnn .f64 (Jlu .f32 b)=true) (w:World):(Conv.floatToFloat .f32 b .f64).run P w= .ok (.float .f64 (Jlu .f32 b)) w:=by
 unfold Conv.floatToFloat
 rw[if_neg (by decide)]
 unfold Jnn Jlu at*
 split at p1
 ·rename_i s m e hd
  rw[hd] at p2⊢
  simp only at p2⊢
  split at p2
  ·rename_i s' m' e' hd'
   rw[hd'];rfl
  ·cases p2
 ·cases p1
theorem Jyt {f:FuncId} {n:String} (h:Js7 P f n=true):∃fn,P.funcs[f]? =some fn∧fn.body.isNone=true∧fn.origin= ""∧fn.name=n:=by
 unfold Js7 at h
 split at h
 ·rename_i fn hf
  simp only[Bool.and_eq_true,beq_iff_eq] at h
  exact⟨fn,hf,h.1,h.2.1,h.2.2⟩
 ·cases h
theorem Jf9 {f:FuncId} {n:String} (h:Js7 P f n=true) {e:Array Value→Sem Value} (h0:(n== "runtime.NumGoroutine")=false) (h1:Extern.allNextRows.lookup n=none) (h2:Extern.allNextRows.lookup ""=none)
  (h3:Extern.allGenericRows.lookup n=none) (h4:Extern.allTypedRows.lookup n=none) (h5:Extern.allRows.lookup n=some e) (args:Array Value) {v:Value} (w:World) (hr:(e args).run P w= .ok v w):(callFunc f args).run P w= .ok (.value v) w:=by
 obtain⟨fn,hf,hb,ho,hn⟩:=Jyt h
 have e1:Extern.findNext fn=none:=by unfold Extern.findNext;simp only[hn,ho,h1,h2,Option.map_none];rfl
 have e2:Extern.find fn=some e:=by unfold Extern.find;simp only[hn,h3,h4,h5,Option.map_none];rfl
 rw[run_callFunc_extern hf (by rw[hn];exact h0) hb e1 e2 args w,hr];rfl
theorem H7:Extern.allNextRows.lookup ""=none:=by kernel_rfl
theorem Jvh {f:FuncId} {l:List SV} {out:Out} (h:J7w P f l=some out) (hp:Kf out.pre) (w:World):out.news=[]∧out.upd=[]∧(∀id∈out.val.ids,al id)∧(callFunc f (l.map (SV.den ρ)).toArray).run P w= .ok (.value (out.val.den ρ)) w:=by
 unfold J7w at h
 split at h
 ·split at h
  ·rename_i hx
   cases h
   exact⟨rfl,rfl,fun id hid=>by simp[SV.ids,J1,SC.ids] at hid,Jf9 hx (e:=Extern.MathFloatBits.float32bits) (by kernel_rfl) (by kernel_rfl) H7 (by kernel_rfl) (by kernel_rfl) (by kernel_rfl) _ w rfl⟩
  ·cases h
 ·split at h
  ·rename_i hx
   cases h
   exact⟨rfl,rfl,fun id hid=>by simp[SV.ids,J1,SC.ids] at hid,Jf9 hx (e:=Extern.MathFloatBits.float32frombits) (by kernel_rfl) (by kernel_rfl) H7 (by kernel_rfl) (by kernel_rfl) (by kernel_rfl) _ w rfl⟩
  ·cases h
 ·split at h
  ·rename_i hx
   cases h
   exact⟨rfl,rfl,fun id hid=>by simp[SV.ids,J1,SC.ids] at hid,Jf9 hx (e:=Extern.MathFloatBits.float64bits) (by kernel_rfl) (by kernel_rfl) H7 (by kernel_rfl) (by kernel_rfl) (by kernel_rfl) _ w rfl⟩
  ·split at h
   ·rename_i b _ hx
    cases h
    have hp:∀s t,FloatKind.f64.decode b≠ .nan s t:=hp
    refine⟨rfl,rfl,fun id hid=>by simp[SV.ids,J1,SC.ids] at hid,Jf9 hx (e:=Extern.MathFloor.toIntegral "math.archFloor" .down) (by kernel_rfl) (by kernel_rfl) H7 (by kernel_rfl) (by kernel_rfl) (by kernel_rfl) _ w ?_⟩
    show(match FloatKind.f64.decode b with| .nan s t=>_|d=>_:Sem Value).run P w=_
    cases hd:FloatKind.f64.decode b with
    |nan s t=>exact absurd hd (hp s t)
    |infinity s=>rfl
    |number s m i=>rfl
   ·cases h
 ·split at h
  ·rename_i hx
   cases h
   exact⟨rfl,rfl,fun id hid=>by simp[SV.ids,J1,SC.ids] at hid,Jf9 hx (e:=Extern.MathFloatBits.float64frombits) (by kernel_rfl) (by kernel_rfl) H7 (by kernel_rfl) (by kernel_rfl) (by kernel_rfl) _ w rfl⟩
  ·cases h
 ·cases h
theorem V5 [Dr] {Γ:Gam} (hΓ:Ut P Γ) (C:Jl P N B w0 al τ σ a w ρ M R) {o:Oper} (hd:∀t,o.dst=some t→t<N) {rs:Nat→Option Res} (hrs:∀id x,rs id=some x→σ id=some x) {f:FuncId} {l:List SV} {out:Out}
  (hop:Jhy Γ rs n f l=some out) (hpre:Kf out.pre) (hfresh:∀id,al id→¬(n≤id∧id<n+out.news.length))
  (hrun:Enters P f→(execOp a.eval o).run P w= .ok (.enter f (l.map (SV.den ρ)).toArray) w):Kp P N B w0 al τ σ a w R n o out:=by
 unfold Jhy at hop
 split at hop
 ·cases hop
 rename_i con hcon
 split at hop
 case h_1=>
  rename_i z hz
  unfold Jx5 at hop
  split at hop
  ·rename_i i g
   split at hop
   ·rename_i T s xs hr
    split at hop
    ·rename_i he
     obtain⟨e1,e2,e3,e4,e5⟩:=he
     subst e1;subst e2;subst e3
     cases hop
     exact Jke hΓ C hd hcon hz (hrs i _ hr) hpre e4 (Option.isNone_iff_eq_none.1 e5) fun hE=>hrun hE
    ·cases hop
   ·cases hop
  ·cases hop
 split at hop
 case h_1=>
  rename_i F hF
  obtain⟨hE,_,hPr,_⟩:=hΓ f con hcon
  obtain⟨Rp,hcl,hR⟩:=hPr F hF (d:=o.dst) C hd hrs hop hpre hfresh
  intro K Q hK
  exact Ux (hrun hE) hcl fun e w' he=>by
   obtain⟨u,ρ',M',h1,h2⟩:=hR e w' he
   exact⟨u,h1,hK u w' ρ' M' h2⟩
 exact Jk8 hΓ C hd hrs hop hpre hfresh hrun
theorem Jdm [Dr] {Γ : Gam} (hΓ : Ut P Γ) (C : Jl P N B w0 al τ σ a w ρ M R) {o : Oper} (hd : ∀ t, o.dst = some t → t < N) {rs : Nat → Option Res} (hrs : ∀ id x, rs id = some x → σ id = some x)
  {ev:Operand→Option SV} (hev:∀x sv,ev x=some sv→a.eval x=sv.den ρ∧∀id∈sv.ids,al id) {out:Out}
  (hop:opS P Γ ev rs n o=some out) (hpre:Kf out.pre) (hfresh:∀id,al id→¬(n≤id∧id<n+out.news.length)):Kp P N B w0 al τ σ a w R n o out:=by
 have hres:∀i y,rs i=some y→Jwy P ρ M R B w i y:=fun i y h=>C.res i y (hrs i y h)
 unfold opS at hop
 split at hop
 ·-- move
  rename_i x ho
  split at hop
  ·rename_i v hv;cases hop;exact Jcf C hd hev (.inl ho) hv
  ·cases hop
 ·rename_i x ho
  split at hop
  ·rename_i v hv;cases hop;exact Jcf C hd hev (.inr ho) hv
  ·cases hop
 ·-- extract
  rename_i x i ho
  split at hop
  ·rename_i vs hv
   split at hop
   ·rename_i p hp
    cases hop
    obtain⟨h1,h2⟩:=hev x _ hv
    refine Jd C hd rfl rfl ?_ fun id hid=>h2 id (List.mem_flatMap.2 ⟨p,List.mem_of_getElem? hp,hid⟩)
    simp[execOp,ho,h1,SV.den,Instr.extract,hp,Jvm]
   ·cases hop
  ·cases hop
 ·-- binOp
  rename_i op T x y yT ho
  split at hop
  ·rename_i k m k' m' hx hy
   split at hop
   ·rename_i out' hop'
    cases hop
    obtain⟨r1,r2,r3,r4⟩:=Jmm (P:=P) (T:=T) (x:=x) (y:=y) (k':=k') w hop' hpre ρ
    refine Jd C hd r2 r3 ?_ (by rw[r4];simp)
    have:=J2 r1
    simp only[execOp,ho,(hev x _ hx).1,(hev y _ hy).1]
    exact this
   split at hop
   ·rename_i e;subst e
    obtain⟨r1,r2,r3,r4⟩:=Jqk (P:=P) (T:=T) (x:=x) (y:=y) w hop hpre ρ
    refine Jd C hd r2 r3 ?_ (by rw[r4];simp)
    have:=J2 r1
    simp only[execOp,ho,(hev x _ hx).1,(hev y _ hy).1]
    exact this
   ·cases hop
  ·rename_i s t hx hy
   obtain⟨r1,r2,r3,r4⟩:=Jqj (P:=P) (T:=T) (x:=x) (y:=y) w hop hpre ρ
   refine Jd C hd r2 r3 ?_ (by rw[r4];simp)
   have:=J2 r1
   simp only[execOp,ho,(hev x _ hx).1,(hev y _ hy).1]
   exact this
  ·rename_i s t hx hy
   split at hop
   ·rename_i hu
    obtain⟨r1,r2,r3,r4⟩:=Jmo (P:=P) (w:=w) (T:=T) (x:=x) (y:=y) hu hop ρ
    refine Jd C hd r2 r3 ?_ (by rw[r4];simp)
    have:=J2 r1
    simp only[execOp,ho,(hev x _ hx).1,(hev y _ hy).1]
    exact this
   ·cases hop
  ·rename_i k m k' m' hx hy
   split at hop
   ·rename_i e;subst e
    obtain⟨r1,r2,r3,r4⟩:=Jql (P:=P) (T:=T) (x:=x) (y:=y) w hop hpre ρ
    refine Jd C hd r2 r3 ?_ (by rw[r4];simp)
    have:=J2 r1
    simp only[execOp,ho,(hev x _ hx).1,(hev y _ hy).1]
    exact this
   ·cases hop
  ·rename_i xs ys hx hy
   split at hop
   ·rename_i hgd
    have key:∀{b:Bool},eqT P 20 T xs ys=some b→(Op.equalIn 10000 T (.agg (xs.map (SC.den ρ)).toArray) (.agg (ys.map (SC.den ρ)).toArray)).run P w= .ok b w:=by
     intro b hb
     obtain⟨g,g1,_,g3⟩:=Jga (w:=w) ρ hb 10000 (by omega)
     rw[hgd.2] at g1
     cases g1
     exact g3
    split at hop
    ·rename_i b hb
     cases hop
     refine Jd C hd rfl rfl ?_ (fun id hid=>by simp[SV.ids,J1,SC.ids] at hid)
     simp only[execOp,ho,(hev x _ hx).1,(hev y _ hy).1]
     refine J2 ?_
     simp only[SV.den,valOf]
     rw[Sem.run_bind,run_eqGuard_agg w .eql T x y _ _ hgd.1,Result.andThen_ok,run_eql_struct,key hb]
     rfl
    ·rename_i b hb
     cases hop
     refine Jd C hd rfl rfl ?_ (fun id hid=>by simp[SV.ids,J1,SC.ids] at hid)
     simp only[execOp,ho,(hev x _ hx).1,(hev y _ hy).1]
     refine J2 ?_
     simp only[SV.den,valOf]
     rw[Sem.run_bind,run_eqGuard_agg w .neq T x y _ _ hgd.1,Result.andThen_ok,run_neq_struct,key hb]
     rfl
    ·cases hop
   ·cases hop
  ·rename_i i hx hy
   split at hop
   ·rename_i v b ms hb hu
    have h1:Jlb b (ρ i):=C.res i _ (hrs i _ hb)
    have ex:a.eval x=ρ i:=(hev x _ hx).1
    have ey:a.eval (.const v)= .nilIface:=(hev _ _ hy).1
    split at hop
    ·cases hop
     refine Jd C hd rfl rfl ?_ (fun id hid=>by simp[SV.ids,J1,SC.ids] at hid)
     simp only[execOp,ho,ex,ey]
     exact J2 (Jg1 w hu h1)
    ·cases hop
     refine Jd C hd rfl rfl ?_ (fun id hid=>by simp[SV.ids,J1,SC.ids] at hid)
     simp only[execOp,ho,ex,ey]
     exact J2 (Jg0 w hu h1)
    ·cases hop
   ·cases hop
  ·rename_i f hx hy
   split at hop
   ·rename_i hu
    cases hop
    refine Jd C hd rfl rfl ?_ (fun id hid=>by simp[SV.ids,J1,SC.ids] at hid)
    simp only[execOp,ho,(hev x _ hx).1,(hev y _ hy).1]
    exact J2 (Jmn w hu).1
   ·rename_i hu
    cases hop
    refine Jd C hd rfl rfl ?_ (fun id hid=>by simp[SV.ids,J1,SC.ids] at hid)
    simp only[execOp,ho,(hev x _ hx).1,(hev y _ hy).1]
    exact J2 (Jmn w hu).2
   ·cases hop
  ·rename_i i off hx hy
   obtain⟨ad,had⟩:∃ad,(SC.ptr i off).den ρ= .pointer (some ad):=by
    simp only[SC.den];split<;>exact⟨_,rfl⟩
   have ex:a.eval x= .pointer (some ad):=(hev x _ hx).1.trans had
   split at hop
   ·rename_i hu
    cases hop
    refine Jd C hd rfl rfl ?_ (fun id hid=>by simp[SV.ids,J1,SC.ids] at hid)
    simp only[execOp,ho,ex,(hev y _ hy).1]
    exact J2 (Jdg w hu).1
   ·rename_i hu
    cases hop
    refine Jd C hd rfl rfl ?_ (fun id hid=>by simp[SV.ids,J1,SC.ids] at hid)
    simp only[execOp,ho,ex,(hev y _ hy).1]
    exact J2 (Jdg w hu).2
   ·cases hop
  ·rename_i hx hy
   split at hop
   ·rename_i hu
    cases hop
    refine Jd C hd rfl rfl ?_ (fun id hid=>by simp[SV.ids,J1,SC.ids] at hid)
    simp only[execOp,ho,(hev x _ hx).1,(hev y _ hy).1]
    exact J2 (Jdg w hu).1
   ·rename_i hu
    cases hop
    refine Jd C hd rfl rfl ?_ (fun id hid=>by simp[SV.ids,J1,SC.ids] at hid)
    simp only[execOp,ho,(hev x _ hx).1,(hev y _ hy).1]
    exact J2 (Jdg w hu).2
   ·cases hop
  ·cases hop
 ·-- unOp
  rename_i op T x ho
  split at hop
  ·rename_i b hx
   cases hop
   refine Jd C hd rfl rfl ?_ (fun id hid=>by simp[SV.ids,J1,SC.ids] at hid)
   simp[execOp,ho,(hev x _ hx).1,SV.den,valOf,SC.den,Op.unary]
  ·rename_i k m hx
   obtain⟨r1,r2,r3,r4⟩:=Xl (P:=P) w hop hpre ρ
   refine Jd C hd r2 r3 ?_ (by rw[r4];simp)
   rw[r1]
   simp[execOp,ho,(hev x _ hx).1,SV.den,valOf,SC.den,Op.unary,Op.intArith]
  ·rename_i k b hx
   cases hop
   refine Jd C hd rfl rfl ?_ (fun id hid=>by simp[SV.ids,J1,SC.ids] at hid)
   simp[execOp,ho,(hev x _ hx).1,SV.den,valOf,SC.den,Op.unary]
  ·cases hop
 ·-- convert
  rename_i S T x ho
  split at hop
  ·rename_i dS k k' m hS hT hx
   obtain⟨r1,r2,r3,r4⟩:=Xl (P:=P) w hop hpre ρ
   refine Jd C hd r2 r3 ?_ (by rw[r4];simp)
   rw[r1]
   simp only[execOp,ho,(hev x _ hx).1]
   refine J2 ?_
   simp only[SV.den,valOf,SC.den,List.map]
   unfold convert
   simp only[Sem.run_bind,run_underlying hS,run_underlying hT,Result.andThen_ok]
   cases dS<;>simp[Conv.intToInt]
  ·rename_i k0 k m k' hS hT hx
   cases hop
   refine Jd C hd rfl rfl ?_ (fun id hid=>by simp[SV.ids,J1,SC.ids] at hid)
   simp only[execOp,ho,(hev x _ hx).1]
   refine J2 ?_
   simp only[SV.den,valOf,SC.den,List.map]
   unfold convert
   simp only[Sem.run_bind,run_underlying hS,run_underlying hT,Result.andThen_ok]
   simp[Conv.intToFloat]
  ·rename_i k0 k' k b hS hT hx
   split at hop
   ·rename_i hk
    obtain⟨rfl,rfl⟩:=hk
    cases hop
    obtain⟨p1,p2⟩:=hpre
    refine Jd C hd rfl rfl ?_ (fun id hid=>by simp[SV.ids,J1,SC.ids] at hid)
    simp only[execOp,ho,(hev x _ hx).1]
    refine J2 ?_
    simp only[SV.den,valOf,SC.den,List.map]
    unfold convert
    simp only[Sem.run_bind,run_underlying hS,run_underlying hT,Result.andThen_ok]
    exact Jrm p1 p2 w
   ·cases hop
  ·rename_i k0 k' k b hS hT hx
   cases hop
   obtain⟨p1,p2⟩:=hpre
   refine Jd C hd rfl rfl ?_ (fun id hid=>by simp[SV.ids,J1,SC.ids] at hid)
   simp only[execOp,ho,(hev x _ hx).1]
   refine J2 ?_
   simp only[SV.den,valOf,SC.den,List.map]
   unfold convert
   simp only[Sem.run_bind,run_underlying hS,run_underlying hT,Result.andThen_ok]
   have p1:(Jcm k b).isSome=true:=p1
   cases hn:Jcm k b with
   |none=>rw[hn] at p1;cases p1
   |some n=>
    rw[hn] at p2
    have p2:k'.min≤n∧n≤k'.max:=p2
    have hn':(k.decode b).toInt .zero=some n:=hn
    simp[Conv.floatToInt,hn',p2]
  ·rename_i e i hS hT hx
   have key:∀(xs:List Int),(∀j,j<xs.length→∃b off cap,ρ i= .slice (some ⟨b,off,none⟩) xs.length cap∧w.cell? ⟨b,off+j,none⟩=some (.int .u8 (xs.getD j 0)))→P.underlying e=some (.int .u8)→0<xs.length→Kp P N B w0 al τ σ a w R n o ⟨[0<xs.length], .one (.str (strOfNums xs)),[],[]⟩:=by
    intro xs hxs he h0
    obtain⟨b,off,cap,hi,_⟩:=hxs 0 h0
    refine Jd C hd rfl rfl ?_ (fun id hid=>by simp[SV.ids,J1,SC.ids] at hid)
    simp only[execOp,ho,(hev x _ hx).1]
    refine J2 ?_
    simp only[SV.den,valOf,SC.den,List.map]
    rw[hi]
    refine run_convert_bytes_arg w S e hS he b off xs.length cap xs rfl (fun j hj=> ?_) T hT
    obtain⟨b',off',cap',hi',hc'⟩:=hxs j hj
    rw[hi] at hi'
    cases hi'
    exact hc'
   have one:∀{M':Nat→Prop} {v:Int} {cv:List Value},Xz (Vj M' w) (enc (.int .u8) v) cv→cv[0]? =some (.int .u8 v):=by
    intro M' v cv h
    cases cv with
    |nil=>exact h.elim
    |cons c r=>exact congrArg some h.1
   split at hop
   ·rename_i he
    split at hop
    ·rename_i U xs hr
     cases hop
     obtain⟨flat,f1,f2,_⟩:=hres i _ hr
     refine key xs (fun j hj=> ?_) he hpre
     obtain⟨b,off,cap,cv,q1,q2,q3⟩:=Jhb (T:=U) (s:= .int .u8) f1 f2 hj
     have:=q3 0 _ (one q2)
     exact⟨b,off,cap,q1,by simp only[Sch.size,Nat.mul_one,Nat.add_zero] at this;exact this⟩
    ·rename_i U xs hr
     cases hop
     refine key xs (fun j hj=> ?_) he hpre
     obtain⟨b,off,cap,cv,q1,q2,q3⟩:=Jbb (T:=U) (s:= .int .u8) (hres i _ hr) hj
     have:=q3 0 _ (one q2)
     exact⟨b,off,cap,q1,by simp only[Sch.size,Nat.mul_one,Nat.add_zero] at this;exact this⟩
    ·cases hop
   ·cases hop
  ·rename_i e0 e i hS hT hx
   split at hop
   ·rename_i hST
    subst hST
    split at hop
    ·rename_i he
     split at hop
     ·rename_i U xs hr
      cases hop
      exact Jhh C hd ho (hev x _ hx).1 hT he (hrs _ _ hr) hfresh
     ·cases hop
    ·cases hop
   ·cases hop
  ·cases hop
 ·-- index
  rename_i T x y ho
  split at hop
  ·rename_i s k m hT hx hy
   cases hop
   refine Jd C hd rfl rfl ?_ (fun id hid=>by simp[SV.ids,J1,SC.ids] at hid)
   simp only[execOp,ho,(hev x _ hx).1,(hev y _ hy).1]
   refine J2 ?_
   exact Jdz hT hpre w
  ·rename_i len e cs k m hT hx hy
   split at hop
   ·rename_i sz hsz
    split at hop
    ·rename_i hm
     split at hop
     ·rename_i v hv
      cases hop
      refine Jd C hd rfl rfl ?_ fun id hid=> ?_
      ·simp only[execOp,ho,(hev x _ hx).1,(hev y _ hy).1]
       refine J2 ?_
       exact Jd0 hT hsz hm hv ρ w
      ·obtain⟨g,_,rfl,_⟩:=U4 hv
       obtain⟨c,hc,hc'⟩:=List.mem_flatMap.1 hid
       exact(hev x _ hx).2 id (List.mem_flatMap.2 ⟨c,List.mem_of_mem_drop (List.mem_of_mem_take hc),hc'⟩)
     ·cases hop
    ·cases hop
   ·cases hop
  ·cases hop
 ·-- alloc
  rename_i T ho
  split at hop
  ·rename_i cs hz;cases hop;exact Jh2 C hd ho hz hfresh
  ·cases hop
 ·-- box
  rename_i T x ho
  split at hop
  ·rename_i v hv
   split at hop
   ·rename_i cs hcs
    split at hop
    ·rename_i hat;cases hop;exact Jos C hd hev ho hv hcs hat hfresh
    ·cases hop
   ·cases hop
  ·cases hop
 ·-- build
  rename_i T parts ho
  split at hop
  ·rename_i z ps hz hps
   split at hop
   ·rename_i cs hb
    cases hop
    obtain⟨r1,r2⟩:=Joq C hev hz hps hb
    refine Jd C hd rfl rfl ?_ r2
    simp only[execOp,ho]
    exact J2 r1
   ·cases hop
  ·cases hop
 ·-- fieldAddr
  rename_i T x i ho
  split at hop
  ·rename_i j off d U hx hf
   cases hop
   obtain⟨h1,h2⟩:=hev x _ hx
   obtain⟨b,o',hb⟩:=F6 ρ j off
   refine Jd C hd rfl rfl ?_ h2
   simp only[execOp,ho,h1]
   refine J2 ?_
   have e0:=hb 0
   simp only[Nat.add_zero] at e0
   simp only[SV.den,valOf,List.map]
   rw[e0,hb d]
   exact Hf hf b o' w
  ·rename_i j sz idx off d U hx hf
   cases hop
   obtain⟨h1,h2⟩:=hev x _ hx
   obtain⟨b,o',hb⟩:=Jvk ρ j sz idx off
   refine Jd C hd rfl rfl ?_ h2
   simp only[execOp,ho,h1]
   refine J2 ?_
   have e0:=hb 0
   simp only[Nat.add_zero] at e0
   simp only[SV.den,valOf,List.map]
   rw[e0,hb d]
   exact Hf hf b o' w
  ·cases hop
 ·-- field
  rename_i T x i ho
  split at hop
  ·rename_i cs d U hx hf
   split at hop
   ·rename_i m hm
    split at hop
    ·rename_i hl
     split at hop
     ·rename_i v hv
      cases hop
      obtain⟨h1,h2⟩:=hev x _ hx
      refine Jd C hd rfl rfl ?_ fun id hid=> ?_
      ·simp only[execOp,ho,h1]
       exact J2 (Jn4 hf hm hl hv ρ w)
      ·obtain⟨g,_,rfl,_⟩:=U4 hv
       obtain⟨c,hc,hc'⟩:=List.mem_flatMap.1 hid
       exact h2 id (List.mem_flatMap.2 ⟨c,List.mem_of_mem_drop (List.mem_of_mem_take hc),hc'⟩)
     ·cases hop
    ·cases hop
   ·cases hop
  ·cases hop
 ·-- indexAddr
  rename_i T x y ho
  split at hop
  ·rename_i e j k m hT hx hy
   split at hop
   ·rename_i sz hsz
    simp only at hop
    obtain⟨h1,h2⟩:=hev x _ hx
    obtain⟨h3,_⟩:=hev y _ hy
    have key:∀len:Nat,(0≤m∧m<len→∃b o cap,ρ j= .slice (some ⟨b,o,none⟩) len cap)→0≤m∧m<len→Kp P N B w0 al τ σ a w R n o ⟨[0≤m∧m<len], .one (.elt j sz m 0),[],[]⟩:=by
     intro len hlen hm
     obtain⟨b,o',cap,hj⟩:=hlen hm
     refine Jd C hd rfl rfl ?_ h2
     simp only[execOp,ho,h1,h3]
     refine J2 ?_
     simp only[SV.den,valOf,List.map,SC.den,hj]
     exact Jaz hT hsz hm w
    split at hop
    ·rename_i U s xs hr
     split at hop
     ·rename_i hs
      cases hop
      refine key _ (fun hm=> ?_) hpre
      obtain⟨b,o',cap,cv,q,_⟩:=Jbb (T:=U) (hres j _ hr) (j:=m.toNat) (by omega)
      exact⟨b,o',cap,q⟩
     ·cases hop
    ·rename_i U s xs hr
     split at hop
     ·rename_i hs
      cases hop
      refine key _ (fun hm=> ?_) hpre
      obtain⟨flat,f1,f2,_⟩:=hres j _ hr
      obtain⟨b,o',cap,cv,q,_⟩:=Jhb (T:=U) f1 f2 (j:=m.toNat) (by omega)
      exact⟨b,o',cap,q⟩
     ·cases hop
    ·rename_i U s xs hr
     split at hop
     ·rename_i hs
      cases hop
      refine key _ (fun hm=> ?_) hpre
      obtain⟨flat,f1,f2,_⟩:=hres j _ hr
      obtain⟨b,o',cap,cv,q,_⟩:=Jio (T:=U) f1 f2 (j:=m.toNat) (by omega)
      exact⟨b,o',cap,q⟩
     ·cases hop
    ·cases hop
   ·cases hop
  ·rename_i len e j off k m hT hx hy
   split at hop
   ·rename_i sz hsz
    split at hop
    ·rename_i hm
     cases hop
     obtain⟨h1,h2⟩:=hev x _ hx
     obtain⟨h3,_⟩:=hev y _ hy
     obtain⟨b,o',hb⟩:=F6 ρ j off
     refine Jd C hd rfl rfl ?_ h2
     simp only[execOp,ho,h1,h3]
     refine J2 ?_
     have e0:=hb 0
     simp only[Nat.add_zero] at e0
     simp only[SV.den,valOf,List.map]
     rw[e0,hb (m.toNat*sz)]
     exact Jfu hT hsz hm w
    ·cases hop
   ·cases hop
  ·rename_i e ad len cap k m hT hx hy
   split at hop
   ·rename_i sz hsz
    split at hop
    ·rename_i hm
     cases hop
     obtain⟨h1,h2⟩:=hev x _ hx
     obtain⟨h3,_⟩:=hev y _ hy
     obtain⟨bk,of,sp⟩:=ad
     obtain⟨c1,c2⟩:=hm
     dsimp only at c1
     subst c1
     refine Jd C hd rfl rfl ?_ (fun id hid=>by simp[SV.ids,J1,SC.ids] at hid)
     simp only[execOp,ho,h1,h3]
     refine J2 ?_
     simp only[SV.den,valOf,List.map,SC.den]
     exact Jaz hT hsz c2 w
    ·cases hop
   ·cases hop
  ·cases hop
 ·-- load
  rename_i T x ho
  split at hop
  ·rename_i p hx
   exact Jkx C hd hrs ho (hev x _ hx).1 hop hpre hfresh
  ·cases hop
 ·-- store
  rename_i T x y ho
  split at hop
  ·rename_i p v hx hy
   exact Jgz C hd hrs ho (hev x _ hx).1 (hev y _ hy).1 (hev y _ hy).2 hop hpre
  ·cases hop
 ·-- nilCheck
  rename_i x ho
  split at hop
  ·rename_i j off hx
   cases hop
   obtain⟨h1,h2⟩:=hev x _ hx
   refine Jd C hd rfl rfl ?_ h2
   obtain⟨b,o',hb⟩:=F6 ρ j off
   have e0:=hb 0
   simp only[Nat.add_zero] at e0
   simp[execOp,ho,h1,SV.den,valOf,e0]
  ·cases hop
 ·-- buildSlice
  rename_i T len parts ho
  split at hop
  ·rename_i e hT
   split at hop
   ·rename_i s m ps hs hm hps
    split at hop
    ·rename_i hc
     obtain⟨c1,c2,c3,c4,c5⟩:=hc
     split at hop
     ·rename_i xs hxs
      split at hop
      ·rename_i hq
       obtain⟨q1,q2,q3⟩:=hq
       subst q1
       cases hop
       subst c1
       obtain⟨u,w',ρ',M',h1,h2⟩:=C.buildLit (n:=n) (d:=o.dst) hd (fun h=>hfresh n h ⟨Nat.le_refl _,by simp⟩) hrs hev hT hm c2 c3 (by omega) c4 c5 hps hxs
       intro K Q hK
       refine Jg ?_ (hK u w' ρ' M' h2)
       simp only[execOp,ho]
       refine J2 ?_
       rw[Hx]
       exact h1
      cases hop
      subst c1
      obtain⟨u,w',ρ',M',h1,h2⟩:=C.buildSlice (n:=n) (d:=o.dst) hd (fun h=>hfresh n h ⟨Nat.le_refl _,by simp⟩) hrs hev hT hm c2 c3 c4 c5 hps hxs
      intro K Q hK
      refine Jg ?_ (hK u w' ρ' M' h2)
      simp only[execOp,ho]
      refine J2 ?_
      rw[Hx]
      exact h1
     ·cases hop
    ·cases hop
   ·cases hop
  ·cases hop
 ·-- call
  rename_i c ho
  split at hop
  ·rename_i b hc
   split at hop
   ·rename_i l hl
    exact Jee C hd hrs hev ho hc hl hop hpre hfresh
   ·cases hop
  ·rename_i f hc
   split at hop
   ·rename_i l hl
    obtain⟨ha,_⟩:=X7 hev hl
    split at hop
    ·rename_i out' hop'
     cases hop
     refine V5 hΓ C hd hrs hop' hpre hfresh fun hE=> ?_
     have hr:=Kd hE (l.map (SV.den ρ)).toArray w
     simp[execOp,ho,resolve,hc,Act.eval,Deferred.ofValue,invoke,ha] at hr⊢
     exact hr
    ·obtain⟨x1,x2,x3,hr⟩:=Jvh (ρ:=ρ) hop hpre w
     refine Jd C hd x1 x2 ?_ x3
     simp[execOp,ho,resolve,hc,Act.eval,Deferred.ofValue,invoke,ha] at hr⊢
     exact hr
   ·cases hop
  ·rename_i x hnf hc
   split at hop
   ·rename_i f l hx hl
    obtain⟨ha,_⟩:=X7 hev hl
    obtain⟨h1,_⟩:=hev x _ hx
    replace h1:a.eval x= .func (.func f) #[] #[]:=h1
    refine V5 hΓ C hd hrs hop hpre hfresh fun hE=> ?_
    have hr:=Kd hE (l.map (SV.den ρ)).toArray w
    simp[execOp,ho,resolve,hc,h1,Deferred.ofValue,invoke,ha] at hr⊢
    exact hr
   ·rename_i f l hx hl
    obtain⟨ha,_⟩:=X7 hev hl
    obtain⟨h1,_⟩:=hev x _ hx
    replace h1:a.eval x= .func (.func f) #[] #[]:=h1
    refine V5 hΓ C hd hrs hop hpre hfresh fun hE=> ?_
    have hr:=Kd hE (l.map (SV.den ρ)).toArray w
    simp[execOp,ho,resolve,hc,h1,Deferred.ofValue,invoke,ha] at hr⊢
    exact hr
   ·cases hop
    exact(show False from hpre).elim
   ·rename_i j l hx hl
    obtain⟨ha,_⟩:=X7 hev hl
    obtain⟨h1,_⟩:=hev x _ hx
    replace h1:a.eval x=ρ j:=h1
    split at hop
    ·rename_i f first caps hr
     have hj:ρ j= .func (.func f) (first.map (SV.den ρ)).toArray (caps.map (SV.den ρ)).toArray:=hres j _ hr
     refine V5 hΓ C hd hrs hop hpre hfresh fun hE=> ?_
     have hr:=Kd hE ((first++l++caps).map (SV.den ρ)).toArray w
     simp[execOp,ho,resolve,hc,h1,hj,Deferred.ofValue,invoke,ha] at hr⊢
     exact hr
    ·rename_i ps r0 pre h hr
     split at hop
     ·rename_i y hy
      cases hop
      refine Jo8 C hd hrs hr hy hpre hfresh fun f first caps hj hE=> ?_
      have hr:=Kd hE (first++(l.map (SV.den ρ)).toArray++caps) w
      simp[execOp,ho,resolve,hc,h1,hj,Deferred.ofValue,invoke,ha] at hr⊢
      exact hr
     ·cases hop
    ·cases hop
   ·cases hop
  ·rename_i x name hc
   split at hop
   ·rename_i j l hx hl
    obtain⟨ha,_⟩:=X7 hev hl
    obtain⟨h1,_⟩:=hev x _ hx
    replace h1:a.eval x=ρ j:=h1
    split at hop
    ·rename_i T v hr
     split at hop
     ·rename_i f hm
      have hj:ρ j= .iface T (v.den ρ):=hres j _ hr
      refine V5 hΓ C hd hrs hop hpre hfresh fun hE=> ?_
      have hr:=Kd hE ((v::l).map (SV.den ρ)).toArray w
      have hmr:=Jqz (P:=P) (w:=w) hm (v.den ρ)
      have hsz:(P.types.size+Made.depth)=(P.types.size+Made.depth-1)+1:=by
       have:0<Made.depth:=by decide
       omega
      rw[List.map_cons] at hr⊢
      simp only[execOp,ho,resolve,hc,Sem.run_bind,Sem.run_pure,Result.andThen_ok,invoke,ha,h1,hj]
      have hm2:(Go.method (P.types.size+Made.depth) T (v.den ρ) name).run P w= .ok (f,v.den ρ) w:=by rw[hsz];exact hmr _
      have ht:List.take l.length (l.map (SV.den ρ))=l.map (SV.den ρ):=List.take_of_length_le (by simp)
      simpa[callMethod,Sem.run_bind,hm2,ht] using hr
     ·cases hop
    ·cases hop
   ·cases hop
 ·-- slice
  rename_i T x lo hi mx ho
  split at hop
  ·rename_i e i hT hx
   have hxi:a.eval x=ρ i:=(hev x _ hx).1
   simp only at hop
   split at hop
   ·rename_i U s xs hr
    split at hop
    ·rename_i l h hl hh
     split at hop
     ·rename_i hsz
      cases hop
      have hp:0≤l∧l≤h∧h≤xs.length:=hpre
      have b1:=Jrs hev hl hp.1
      have b2:=Jrs hev hh (by omega)
      exact(F1 C hd ho hxi hT hsz b1 (by simpa using b2) (by omega) (by omega) hfresh _).1 (hrs i _ hr)
     ·cases hop
    ·cases hop
   ·rename_i U s xs hr
    split at hop
    ·rename_i hmx0 _ h0 _
     split at hop
     ·rename_i h hh
      split at hop
      ·rename_i hsz
       obtain⟨hsz,rfl⟩:=hsz
       cases hop
       have hp:0≤h∧h≤xs.length:=hpre
       have b2:=Jrs hev hh (by omega)
       exact Jk3 C hd ho hxi hT hsz (by simpa using b2) (by omega) (hrs i _ hr) hfresh _
      ·cases hop
     ·cases hop
    ·split at hop
     ·rename_i l h hl hh
      split at hop
      ·rename_i hsz
       cases hop
       have hp:0≤l∧l≤h∧h≤xs.length:=hpre
       have b1:=Jrs hev hl hp.1
       have b2:=Jrs hev hh (by omega)
       exact(F1 C hd ho hxi hT hsz b1 (by simpa using b2) (by omega) (by omega) hfresh _).2 (hrs i _ hr)
      ·cases hop
     ·cases hop
   ·rename_i U s xs hr
    split at hop
    ·rename_i l hl
     split at hop
     ·rename_i hsz
      obtain⟨hsz,rfl⟩:=hsz
      cases hop
      have hp:0≤l∧l≤xs.length:=hpre
      have b1:=Jrs hev hl hp.1
      exact(by rename_i hmx _;exact Jkc C hd ho hxi hT hsz b1 (by omega) (hrs i _ hr) hfresh _)
     ·cases hop
    ·cases hop
   ·cases hop
  ·rename_i b hT hx
   split at hop
   ·rename_i l h hl hh
    cases hop
    have hp:0≤l∧l≤h∧h≤b.size:=hpre
    have b1:=Jrs hev hl hp.1
    have b2:=Jrs hev hh (by omega)
    refine Jd C hd rfl rfl ?_ (fun id hid=>by simp[SV.ids,J1,SC.ids] at hid)
    simp only[execOp,ho,(hev x _ hx).1]
    refine J2 ?_
    simp only[Instr.sliceAt,Sem.run_bind,run_underlying hT,Result.andThen_ok]
    exact Je2 (w:=w) hT b b1 (by simpa using b2) (by omega) (by omega)
   ·cases hop
  ·rename_i k e i off hT hx
   split at hop
   ·split at hop
    ·rename_i s sz TT cs hs hsz hr
     split at hop
     ·rename_i hc
      split at hop
      ·rename_i xs hxs
       cases hop
       exact(Ze C hd ho (hev x _ hx).1 hT hsz hc hxs hfresh).1 (hrs i _ hr)
      ·cases hop
     ·cases hop
    ·rename_i s sz TT cs hs hsz hr
     split at hop
     ·rename_i hc
      split at hop
      ·rename_i xs hxs
       cases hop
       exact(Ze (TT:=TT) C hd ho (hev x _ hx).1 hT hsz hc hxs hfresh).2 (hrs i _ hr)
      ·cases hop
     ·cases hop
    ·cases hop
   ·cases hop
  ·rename_i m0 e i hT hx
   have hxi:a.eval x=ρ i:=(hev x _ hx).1
   split at hop
   ·rename_i h0 U s xs hr
    split at hop
    ·rename_i l h mm hl hh hm
     split at hop
     ·rename_i hsz
      cases hop
      have hp:0≤l∧l≤h∧h≤mm∧mm≤xs.length:=hpre
      have b1:=Jrs hev hl hp.1
      obtain⟨kh,e1⟩:=Jzr hev hh (by omega)
      obtain⟨km,e2⟩:=Jzr hev hm (by omega)
      exact Je3 C hd ho hxi hT hsz b1 e1 e2 (by omega) (by omega) (by omega) hfresh _ (hrs i _ hr)
     ·cases hop
    ·cases hop
   ·cases hop
  ·rename_i k e ad hT hx
   split at hop
   ·split at hop
    ·rename_i sz hsz
     split at hop
     ·rename_i hc
      cases hop
      obtain⟨bk,of,sp⟩:=ad
      dsimp only at hc
      subst hc
      refine Jd C hd rfl rfl ?_ (fun id hid=>by simp[SV.ids,J1,SC.ids] at hid)
      have hx':a.eval x= .pointer (some ⟨bk,of,none⟩):=(hev x _ hx).1
      simp only[execOp,ho,hx']
      exact J2 (Xi hT hsz)
     ·cases hop
    ·cases hop
   ·cases hop
  ·cases hop
 ·-- makeMap
  rename_i T r ho
  split at hop
  ·rename_i kT vT hT
   split at hop
   ·cases hop
    exact Jdt C hd ho hfresh
   ·split at hop
    ·rename_i ks gk vs gv h1 h2 h3 h4
     split at hop
     ·rename_i hc
      cases hop
      obtain⟨p1,p2⟩:=hpre
      exact Jfs C hd ho ⟨h2,hc.1,hc.2.1,hc.2.2,p1,p2⟩ hfresh
     ·cases hop
    ·cases hop
  ·cases hop
 ·-- mapUpdate
  rename_i T m k x ho
  split at hop
  ·rename_i kT vT i hT hm
   split at hop
   ·rename_i ks hr
    split at hop
    ·rename_i key hkT hk hx
     cases hop
     exact Jes C hd ho hT hkT (hev m _ hm).1 (hev k _ hk).1 (hev x _ hx).1 (hrs i _ hr)
    ·cases hop
   ·rename_i kT' gk gv ks vs l hr
    split at hop
    ·rename_i g kc g' vc hk hx
     split at hop
     ·rename_i hc
      obtain⟨rfl,rfl,rfl⟩:=hc
      split at hop
      ·rename_i kd vd hkd hvd
       cases hop
       exact Zi C hd hrs (.inl ho) hT (hev m _ hm).1 (hev k _ hk).1 (hev x _ hx).1 hkd hvd hr
      ·cases hop
     ·cases hop
    ·cases hop
   ·cases hop
  ·cases hop
 ·-- insert
  rename_i T m k x ho
  split at hop
  ·rename_i kT vT i hT hm
   split at hop
   ·rename_i kT' gk gv ks vs l hr
    split at hop
    ·rename_i g kc g' vc hk hx
     split at hop
     ·rename_i hc
      obtain⟨rfl,rfl,rfl⟩:=hc
      split at hop
      ·rename_i kd vd hkd hvd
       cases hop
       exact Zi C hd hrs (.inr ho) hT (hev m _ hm).1 (hev k _ hk).1 (hev x _ hx).1 hkd hvd hr
      ·cases hop
     ·cases hop
    ·cases hop
   ·cases hop
  ·cases hop
 ·-- lookup
  rename_i T x k ok ho
  split at hop
  ·rename_i kT vT i hT hx
   split at hop
   ·rename_i kT' gk gv ks vs l hr
    split at hop
    ·rename_i g kc hk
     split at hop
     ·rename_i hc
      obtain⟨rfl,rfl⟩:=hc
      split at hop
      ·rename_i kd zd hkd hz
       split at hop
       ·cases hop
        exact(Dy C hd ho hT (hev x _ hx).1 (hev k _ hk).1 hkd hz (hrs i _ hr)).1 rfl hfresh
       ·cases hop
        exact(Dy C hd ho hT (hev x _ hx).1 (hev k _ hk).1 hkd hz (hrs i _ hr)).2 rfl hfresh
      ·cases hop
     ·cases hop
    ·cases hop
   ·cases hop
  ·cases hop
 ·-- mapEntry
  rename_i T m k ho
  split at hop
  ·rename_i kT vT i hT hm
   split at hop
   ·rename_i kT' gk gv ks vs l hr
    split at hop
    ·rename_i g kc hk
     split at hop
     ·rename_i hc
      obtain⟨rfl,rfl,hvl⟩:=hc
      split at hop
      ·rename_i kd zd hkd hz
       cases hop
       exact Jbt C hd ho hT (hev m _ hm).1 (hev k _ hk).1 hkd hz hvl (hrs i _ hr)
      ·cases hop
     ·cases hop
    ·cases hop
   ·cases hop
  ·cases hop
 ·-- entryStore
  rename_i T m s x ho
  split at hop
  ·rename_i i p hm hs
   split at hop
   ·rename_i kT' gk gv ks vs l hr
    split at hop
    ·rename_i g' vc hx
     split at hop
     ·rename_i hc
      obtain⟨rfl,hvl⟩:=hc
      split at hop
      ·rename_i vd hvd
       cases hop
       exact Fc C hd ho (hev m _ hm).1 (hev s _ hs).1 (hev x _ hx).1 hvd (hrs i _ hr) hpre
      ·cases hop
     ·cases hop
    ·cases hop
   ·cases hop
  ·cases hop
 ·-- range
  rename_i T x ho
  split at hop
  ·rename_i kT vT i hT hx
   split at hop
   ·rename_i ks hr
    cases hop
    exact Jg8 C hd ho hT (hev x _ hx).1 (hrs i _ hr) hfresh
   ·rename_i kT' gk gv ks vs l hr
    cases hop
    exact Jdp C hd ho hT (hev x _ hx).1 (hrs i _ hr) hfresh
   ·cases hop
  ·rename_i s hT hx
   cases hop
   exact Jfg C hd ho hT (hev x _ hx).1 hfresh
  ·cases hop
 ·-- entry
  rename_i x ho
  split at hop
  ·rename_i i hx
   split at hop
   ·rename_i j ks seen hr
    split at hop
    ·rename_i ks' hj
     cases hop
     obtain⟨p1,p2,p3⟩:=hpre
     have p1:ks'=ks:=p1
     subst p1
     exact Jhs C hd ho (hev x _ hx).1 (hrs i _ hr) (hrs j _ hj) p2 p3 _
    ·cases hop
   ·rename_i j kT gk gv ks vs l seen hr
    split at hop
    ·rename_i kT' gk' gv' ks' vs' l' hj
     split at hop
     ·rename_i h
      obtain⟨⟨rfl,rfl⟩,rfl,rfl,rfl⟩:=h
      cases hop
      obtain⟨p1,p2,p3⟩:=hpre
      have p1:l'=l:=p1
      subst p1
      exact Jdq C hd ho (hev x _ hx).1 (hrs i _ hr) (hrs j _ hj) p2 p3 hfresh
     ·cases hop
    ·cases hop
   ·cases hop
  ·cases hop
 ·-- makeInterface
  rename_i T x ho
  split at hop
  ·cases hop
  ·rename_i dd c hni hT hx
   split at hop
   ·rename_i v hv
    cases hop
    refine Jd C hd rfl rfl ?_ (fun id hid=>by simp[SV.ids,J1,SC.ids] at hid)
    have hcv:c.den ρ=v:=by
     unfold Jod at hv
     split at hv<;>cases hv<;>rfl
    have h1:a.eval x=v:=by rw[(hev x _ hx).1];exact hcv
    simp only[execOp,ho,h1]
    refine J2 ?_
    simp only[Instr.makeInterface,Sem.run_bind,run_underlying hT,Result.andThen_ok]
    cases dd<;>first|rfl|exact absurd rfl (hni _)
   ·cases hop
  ·rename_i dd cs hni hT hx
   cases hop
   have h1:=hev x _ hx
   refine Jnq C hd ?_ h1.2 hfresh
   simp only[execOp,ho,h1.1]
   refine J2 ?_
   simp only[Instr.makeInterface,Sem.run_bind,run_underlying hT,Result.andThen_ok]
   cases dd<;>first|rfl|exact absurd rfl (hni _)
  ·cases hop
 ·-- panic
  rename_i x ho
  split at hop
  ·cases hop
   exact(show False from hpre).elim
  ·cases hop
 ·-- makeSlice
  rename_i T l c ho
  split at hop
  ·rename_i e k m k' m' hT hl hc
   split at hop
   ·rename_i s i z hs hi hz
    split at hop
    ·rename_i hcnd
     split at hop
     ·rename_i d hdec
      cases hop
      obtain⟨p1,p2⟩:=hpre
      exact Jks C hd ho hT hi hz hcnd.1 hdec hcnd.2.1 (hev l _ hl).1 (hev c _ hc).1 p1 p2 hcnd.2.2 hfresh _
     ·cases hop
    ·cases hop
   ·cases hop
  ·cases hop
 ·-- makeFunc
  rename_i f first caps ho
  split at hop
  ·rename_i l1 l2 h1 h2
   cases hop
   obtain⟨e1,i1⟩:=Yc hev h1
   obtain⟨e2,i2⟩:=Yc hev h2
   have hids:∀id∈(Res.clo f l1 l2).ids,al id:=by
    intro id hid
    rcases List.mem_append.1 hid with hid|hid
    ·obtain⟨v,hv,hv'⟩:=List.mem_flatMap.1 hid;exact i1 v hv id hv'
    ·obtain⟨v,hv,hv'⟩:=List.mem_flatMap.1 hid;exact i2 v hv id hv'
   exact Joe C hd ho e1 e2 hids hfresh
  ·cases hop
 ·cases hop
end
end Go.Sx
namespace Go.Sx
open Go.RowKit
abbrev Jlh (l:List Rec):Prop:=l.Pairwise fun a b=>b.ix<a.ix
theorem V3 {p:Rec→Bool}:∀{l:List Rec} {r:Rec},Jlh l→l.find? p=some r→r∈l∧p r=true∧∀r'∈l,p r'=true→r'.ix≤r.ix
 |[],_,_,h=>by simp at h
 | x :: l, r, hd, h => by
  replace hd:=List.pairwise_cons.1 hd
  by_cases hx:p x=true
  ·rw[List.find?_cons_of_pos hx] at h
   cases h
   refine⟨by simp,hx,fun r' hr _=> ?_⟩
   rcases List.mem_cons.1 hr with rfl|hr
   ·exact Nat.le_refl _
   ·exact Nat.le_of_lt (hd.1 r' hr)
  ·rw[List.find?_cons_of_neg hx] at h
   obtain⟨h1,h2,h3⟩:=V3 hd.2 h
   refine⟨by simp[h1],h2,fun r' hr hp=> ?_⟩
   rcases List.mem_cons.1 hr with rfl|hr
   ·exact absurd hp hx
   ·exact h3 r' hr hp
theorem K1:∀{l:List Rec} {r r':Rec},Jlh l→r∈l→r'∈l→r.ix=r'.ix→r=r'
 |[],_,_,_,h,_,_=>by simp at h
 |x::l,r,r',hd,h,h',e=>by
  replace hd:=List.pairwise_cons.1 hd
  rcases List.mem_cons.1 h with e1|h1<;>rcases List.mem_cons.1 h' with e2|h2
  ·rw[e1,e2]
  ·have:=hd.1 r' h2;rw[←e1] at this;omega
  ·have:=hd.1 r h1;rw[←e2] at this;omega
  ·exact K1 hd.2 h1 h2 e
theorem Jd3 {p:Rec→Bool} {l:List Rec} {r:Rec} (hd:Jlh l) (h1:r∈l) (h2:p r=true) (h3:∀r'∈l,p r'=true→r'.ix≤r.ix):l.find? p=some r:=by
 cases h:l.find? p with
 |none=>rw[List.find?_eq_none] at h;exact absurd h2 (h r h1)
 |some r'=>
  obtain⟨q1,q2,q3⟩:=V3 hd h
  rw[K1 hd q1 h1 (Nat.le_antisymm (h3 r' q1 q2) (q3 r h1 h2))]
theorem Ja9 {p:Rec→Bool} {l l':List Rec} (hd:Jlh l) (hd':Jlh l') (h:∀r,p r=true→(r∈l↔r∈l')):l.find? p=l'.find? p:=by
 cases e:l.find? p with
 |some r=>
  obtain⟨q1,q2,q3⟩:=V3 hd e
  exact(Jd3 hd' ((h r q2).1 q1) q2 fun r' hr hp=>q3 r' ((h r' hp).2 hr) hp).symm
 |none=>
  symm
  rw[List.find?_eq_none] at e⊢
  exact fun r hr hp=>e r ((h r hp).2 hr) hp
theorem U3 (t:Nat):∀(l:List Rec),Za l t=l.find? fun r=>decide (r.dst=some t)
 |[]=>rfl
 |r::l=>by
  simp only[Za,List.find?_cons,U3 t l]
  by_cases h:r.dst=some t<;>simp[h]
theorem Ym (id:Nat):∀(l:List Rec),Jb9 l id=(l.find? fun r=>(Vf r id).isSome).bind fun r=>(Vf r id).map fun x=>(r,x)
 |[]=>rfl
 |r::l=>by
  simp only[Jb9,List.find?_cons,Ym id l]
  cases h:Vf r id<;>simp[h]
theorem F5 (j:Nat):∀(l:List Rec),Jx9 l j=l.find? fun r=>decide (r.ix=j)
 |[]=>rfl
 |r::l=>by
  simp only[Jx9,List.find?_cons,F5 j l]
  by_cases h:r.ix=j<;>simp[h]
theorem Xm {l:List Rec} {id:Nat} {r:Rec} {x:Option Res} (hd:Jlh l) (h:Jb9 l id=some (r,x)):r∈l∧Vf r id=some x∧∀r'∈l,(Vf r' id).isSome=true→r'.ix≤r.ix:=by
 rw[Ym] at h
 cases hf:l.find? fun r=>(Vf r id).isSome with
 |none=>rw[hf] at h;cases h
 |some r'=>
  rw[hf] at h
  obtain⟨q1,q2,q3⟩:=V3 hd hf
  simp only[Option.bind_some,Option.map_eq_some_iff] at h
  obtain⟨y,hy,e⟩:=h
  cases e
  exact⟨q1,hy,q3⟩
theorem Jmv {l:List Rec} {id:Nat} {r:Rec} {x:Option Res} (hd:Jlh l) (h1:r∈l) (h2:Vf r id=some x) (h3:∀r'∈l,(Vf r' id).isSome=true→r'.ix≤r.ix):Jb9 l id=some (r,x):=by
 rw[Ym,Jd3 hd h1 (by simp[h2]) h3]
 simp[h2]
theorem Jmu {l:List Rec} {id:Nat}:Jb9 l id=none↔∀r∈l,Vf r id=none:=by
 rw[Ym]
 cases hf:l.find? fun r=>(Vf r id).isSome with
 |none=>
  rw[List.find?_eq_none] at hf
  simp only[Option.bind_none,true_iff]
  intro r hr
  have:=hf r hr
  simpa using this
 |some r=>
  have h1:=List.mem_of_find?_eq_some hf
  have h2:=List.find?_some hf
  obtain⟨x,hx⟩:=Option.isSome_iff_exists.1 h2
  simp only[Option.bind_some,hx,Option.map_some]
  constructor
  ·intro h;cases h
  ·intro h;rw[h r h1] at hx;cases hx
def Vk (bs:Nat→Option Bool) (gc:GC):Bool:=gc.all fun p=>bs p.1==some p.2
theorem Jfz {bs:Nat→Option Bool}:∀{gc:GC},Jk5 bs gc↔Vk bs gc=true
 |[]=>by simp[Jk5,Vk]
 |[(j,w)]=>by
  simp only[Jk5,Vk,List.all_cons,List.all_nil,Bool.and_true]
  cases bs j<;>simp
 |(j,w)::q::r=>by
  simp only[Jk5]
  rw[Jfz (gc:=q::r)]
  simp only[Vk,List.all_cons,Bool.and_eq_true]
  cases bs j<;>simp[and_comm]
theorem Dc {bs:Nat→Option Bool} {a b:GC} (h:Jmb a b=true) (hb:Vk bs b=true):Vk bs a=true:=by
 simp only[Vk,Jmb,List.all_eq_true,List.contains_iff_mem] at*
 exact fun x hx=>hb x (h x hx)
theorem Xv (p:Prop) (r:List Prop):Kf (p::r)↔p∧Kf r:=by
 cases r with
 |nil=>simp[Kf]
 |cons q r=>rfl
theorem Jp {l l':List Prop}:Kf (l++l')↔Kf l∧Kf l':=by
 induction l with
 |nil=>simp[Kf]
 |cons p r ih=>rw[List.cons_append,Xv,Xv,ih,and_assoc]
theorem Jrn {l:List Prop}:Kf l↔∀p∈l,p:=by
 induction l with
 |nil=>simp[Kf]
 | cons p r ih =>
  rw[Xv,ih]
  constructor
  ·rintro⟨h1,h2⟩ q hq
   rcases List.mem_cons.1 hq with rfl|hq
   ·exact h1
   ·exact h2 q hq
  ·intro h
   exact⟨h p List.mem_cons_self,fun q hq=>h q (List.mem_cons_of_mem _ hq)⟩
theorem Jha {bs:Nat→Option Bool}:∀{recs:List Rec},Kf (J1l bs recs)→∀r∈recs,Vk bs r.gc=true→Kf r.out.pre
 |[],_,r,hr=>by simp at hr
 | x :: l, h, r, hr => by
  simp only[J1l,Jp] at h
  rcases List.mem_cons.1 hr with rfl|hr
  ·intro hg
   have h2:=h.2
   split at h2
   ·exact h2
   ·rw[Jrn] at h2⊢
    intro p hp
    exact h2 _ (List.mem_map.2 ⟨p,hp,rfl⟩) (Jfz.2 hg)
  ·exact Jha h.1 r hr
section
variable {P:Program} {Γ:Gam} {an:Ll} {ops:List Oper} {st:St}
def Us (P:Program) (Γ:Gam) (an:Ll) (ops:List Oper) (st:St):List Rec→Prop
 |[]=>True
 |r::l=>Us P Γ an ops st l∧∃o,ops[l.length]? =some o∧Jme P Γ an ops st (Fv st.nx l) l.length l o=some r
theorem J6 {nx n:Nat} {all:List Rec} {o:Oper} {r:Rec} (h:Jme P Γ an ops st nx n all o=some r):
  r.ix=n∧r.base=nx∧r.dst=o.dst∧r.touch=Jc5 an (evR an ops n st (Zr an n all) r.gc) o∧J1n an ops n (Zr an n all) o=some r.gc∧(∀t,o.dst=some t→Jsd an ops n t=true)∧(∀u∈r.out.upd,u.1<nx)∧
  Jyd P Γ an ops st nx n (Zr an n all) r.gc o=some r.out:=by
 unfold Jme at h
 split at h
 ·cases h
 ·rename_i gc hgc
  split at h
  ·rename_i out hout
   split at h
   ·rename_i hc
    obtain⟨hw,hu⟩:=hc
    cases h
    refine⟨rfl,rfl,rfl,rfl,hgc,fun t ht=>by unfold Kfx at hw;rw[ht] at hw;exact hw,fun u hu'=> ?_,hout⟩
    have:=List.all_eq_true.1 hu u hu'
    simpa[Nat.blt_eq] using this
   ·cases h
  ·cases h
theorem Jg3:∀(rest:List Oper) {nx n:Nat} {recs res:List Rec},Us P Γ an ops st recs→recs.length=n→nx=Fv st.nx recs→ops.drop n=rest→Jsp P Γ an ops st rest nx n recs=some res→Us P Γ an ops st res∧res.length=n+rest.length
 |[],nx,n,recs,res,h,hn,_,_,hr=>by cases hr;exact⟨h,hn⟩
 | o :: r, nx, n, recs, res, h, hn, hx, hd, hr => by
  simp only[Jsp] at hr
  split at hr
  ·rename_i x hx'
   obtain⟨p1,p2,_⟩:=J6 hx'
   have ho:ops[n]? =some o:=by
    have:=congrArg (fun l=>l[0]?) hd
    simpa using this
   have:=Jg3 r (recs:=x::recs) ⟨h,o,by rw[hn];exact ho,by rw[hn,←hx];exact hx'⟩ (by simp[hn]) (by simp[Fv,p2]) (by rw[←List.drop_drop,hd];rfl) hr
   exact⟨this.1,by rw[this.2];simp;omega⟩
  ·cases hr
theorem Us.tail {l l':List Rec} (h:Us P Γ an ops st (l++l')):Us P Γ an ops st l':=by
 induction l with
 |nil=>exact h
 |cons x l ih=>exact ih h.1
theorem Us.ix {l:List Rec} (h:Us P Γ an ops st l):∀r∈l,r.ix<l.length:=by
 induction l with
 |nil=>intro r hr;simp at hr
 |cons x l ih=>
  intro r hr
  obtain⟨h1,o,_,h3⟩:=h
  rcases List.mem_cons.1 hr with rfl|hr
  ·rw[(J6 h3).1];simp
  ·have:=ih h1 r hr;simp;omega
theorem Us.desc {l:List Rec} (h:Us P Γ an ops st l):Jlh l:=by
 induction l with
 |nil=>exact .nil
 |cons x l ih=>
  obtain⟨h1,o,_,h3⟩:=h
  refine List.pairwise_cons.2 ⟨fun r hr=> ?_,ih h1⟩
  rw[(J6 h3).1]
  exact h1.ix r hr
theorem Us.nx {l:List Rec} (h:Us P Γ an ops st l):st.nx≤Fv st.nx l∧∀r∈l,st.nx≤r.base∧r.base+r.out.news.length≤Fv st.nx l:=by
 induction l with
 |nil=>exact⟨Nat.le_refl _,fun r hr=>by simp at hr⟩
 | cons x l ih =>
  obtain⟨h1,o,_,h3⟩:=h
  obtain⟨i1,i2⟩:=ih h1
  have hb:=(J6 h3).2.1
  refine⟨by simp only[Fv];omega,fun r hr=> ?_⟩
  rcases List.mem_cons.1 hr with rfl|hr
  ·exact⟨by omega,Nat.le_refl _⟩
  ·have:=i2 r hr
   exact⟨this.1,by simp only[Fv];omega⟩
theorem Us.bases {l:List Rec} (h:Us P Γ an ops st l):l.Pairwise fun a b=>b.base+b.out.news.length≤a.base:=by
 induction l with
 |nil=>exact .nil
 |cons x l ih=>
  obtain⟨h1,o,_,h3⟩:=h
  refine List.pairwise_cons.2 ⟨fun r hr=> ?_,ih h1⟩
  rw[(J6 h3).2.1]
  exact(h1.nx.2 r hr).2
theorem Us.later {l:List Rec} (h:Us P Γ an ops st l) {r r':Rec} (hr:r∈l) (hr':r'∈l) (hi:r.ix<r'.ix):r.base+r.out.news.length≤r'.base:=by
 have hd:=h.desc
 have hb:=h.bases
 clear h
 induction l with
 |nil=>simp at hr
 |cons x l ih=>
  replace hd:=List.pairwise_cons.1 hd
  replace hb:=List.pairwise_cons.1 hb
  rcases List.mem_cons.1 hr with e|hr1<;>rcases List.mem_cons.1 hr' with e'|hr2
  ·rw[e,e'] at hi;omega
  ·have:=hd.1 r' hr2;rw[←e] at this;omega
  ·rw[e'];exact hb.1 r hr1
  ·exact ih hr1 hr2 hd.2 hb.2
theorem Us.at {l:List Rec} (h:Us P Γ an ops st l) {i:Nat} (hi:i<l.length):∃r o early,r∈l∧r.ix=i∧ops[i]? =some o∧Us P Γ an ops st early∧early.length=i∧
  Jme P Γ an ops st (Fv st.nx early) i early o=some r∧(∀s,s∈early↔s∈l∧s.ix<i)∧∃fr,l=fr++r::early:=by
 induction l with
 |nil=>simp at hi
 | cons x l ih =>
  have hx:=List.pairwise_cons.1 h.desc
  obtain⟨h1,o,h2,h3⟩:=h
  have hix:=(J6 h3).1
  by_cases e:i=l.length
  ·subst e
   refine⟨x,o,l,by simp,hix,h2,h1,rfl,h3,fun s=> ?_,[],rfl⟩
   constructor
   ·intro hs;exact⟨by simp[hs],by have:=hx.1 s hs;omega⟩
   ·rintro⟨hs,hlt⟩
    rcases List.mem_cons.1 hs with rfl|hs
    ·omega
    ·exact hs
  ·have hi':i<l.length:=by simp at hi;omega
   obtain⟨r,o',early,q1,q2,q3,q4,q5,q6,q7,fr,q8⟩:=ih h1 hi'
   refine⟨r,o',early,by simp[q1],q2,q3,q4,q5,q6,fun s=> ?_,x::fr,by rw[q8];rfl⟩
   rw[q7]
   constructor
   ·rintro⟨a,b⟩;exact⟨by simp[a],b⟩
   ·rintro⟨a,b⟩
    rcases List.mem_cons.1 a with rfl|a
    ·omega
    ·exact⟨a,b⟩
end
end Go.Sx
namespace Go.Sx
open Go.RowKit
theorem Jl.weaken [Dr] {P:Program} {N B:Nat} {w0:K8} {al al':Nat→Prop} {τ τ':Nat→Option SV} {σ σ':Nat→Option Res} {a:Act} {w:World} {ρ:Env} {M R:Nat→Prop}
  (C:Jl P N B w0 al τ σ a w ρ M R) (hτ:∀t v,τ' t=some v→τ t=some v) (hσ:∀i x,σ' i=some x→σ i=some x) (hal:∀i,al' i↔al i):Jl P N B w0 al' τ' σ' a w ρ M R:=by
 have e:al'=al:=funext fun i=>propext (hal i)
 subst e
 exact⟨C.size,C.defers,C.nomark,C.stay,C.stayR,C.below,C.base,fun t v h=>C.slot t v (hτ t v h),fun t v h=>C.slotIds t v (hτ t v h),fun r x h=>C.resA r x (hσ r x h),fun r x h=>C.resIds r x (hσ r x h),
  fun r r' x x' hne h h'=>C.apart r r' x x' hne (hσ r x h) (hσ r' x' h'),C.old,C.one,C.up,C.good⟩
theorem Jl.world [Dr] {P:Program} {N B:Nat} {w0:K8} {al:Nat→Prop} {τ:Nat→Option SV} {σ:Nat→Option Res} {a:Act} {w:World} {ρ:Env} {M R:Nat→Prop} (C:Jl P N B w0 al τ σ a w ρ M R) {w':World} (hh:w'.heap=w.heap) (hb:Below B w w'):
  Jl P N B w0 al τ σ a w' ρ M R:=by
 have hk:∀r x,σ r=some x→Jbx P ρ M R B w0 w' r x:=fun r x h=>(C.resA r x h).keep rfl (fun _ _=>rfl) (fun _ h=>h) (fun _ _=>by rw[hh]) (fun ho b hb=>⟨by rw[hh],(C.notM h ho hb).1⟩)
 exact⟨C.size,C.defers.keep (fun _ h=>h) (fun _ _=>by rw[hh]),C.nomark,fun b hb=>by rw[hh];exact C.stay b hb,fun b hb=>by rw[hh];exact C.stayR b hb,C.below.trans hb,by rw[hh];exact C.base,C.slot,C.slotIds,hk,C.resIds,C.apart,fun b hb=>by rw[hh];exact C.old b hb,C.one,C.up,C.good⟩
section
variable {P:Program} {Γ:Gam} {an:Ll} {ops:List Oper} {st:St}
def Zb (recs:List Rec) (S:Nat→Bool):List Rec:=recs.filter fun r=>S r.ix
def V1 (recs:List Rec) (r:Rec):Bool:=Vk (Zl recs) r.gc
def Dq (recs:List Rec) (st:St) (S:Nat→Bool) (t:Nat):Option SV:=match Za (Zb recs S) t with
 |some r=>if V1 recs r=true then some r.out.val else some Ju
 |none=>look st.sl t
def Jbn (recs:List Rec) (st:St) (S:Nat→Bool) (id:Nat):Option Res:=match Jb9 (Zb recs S) id with
 |some (r,x)=>if V1 recs r=true then x else none
 |none=>look st.rs id
def alS (recs:List Rec) (al0:Nat→Prop) (S:Nat→Bool) (id:Nat):Prop:=
 al0 id∨∃r∈recs,S r.ix=true∧V1 recs r=true∧r.base≤id∧id<r.base+r.out.news.length
def J4v (P:Program) (Γ:Gam) (an:Ll) (ops:List Oper) (st:St) (r s:Rec) (early:List Rec):Prop:=
 ∃i y o out,s.touch=some [i]∧r.out.upd=[(i,some y)]∧r.gc=[]∧s.out.upd=[]∧s.out.news=[]∧r.out.news=[]∧ops[s.ix]? =some o∧(∀c x y,o.op≠ .pick c x y)∧
  opS P Γ (evR an ops s.ix st (Zr an s.ix early) s.gc) (fun id=>if id=i then some y else none) s.base o=some out∧out.upd=[]∧out.news=[]∧out.pre=[]∧out.val=s.out.val
def J1e (P:Program) (Γ:Gam) (an:Ll) (ops:List Oper) (st:St) (recs:List Rec):Prop:=∀r∈recs,∀fr s early,recs=fr++s::early→r.out.upd≠[]→r.ix≠s.ix→
 cmpB an r.ix s.ix=true∨(∃l,s.touch=some l∧∀u∈r.out.upd,s.new u.1=false∧l.contains u.1=false∧look s.out.upd u.1=none)∨J4v P Γ an ops st r s early
theorem Jjj {i j:Nat} (h:i≠j):cmpB none i j=true:=by
 unfold cmpB Jei
 cases hb:Nat.blt i j with
 |true=>rfl
 | false =>
  have:¬i<j:=by
   intro hlt
   rw[show Nat.blt i j=true from by simpa[Nat.blt_eq] using hlt] at hb
   cases hb
  simp[Nat.blt_eq];omega
theorem Jlp {recs:List Rec}:J1e P Γ none ops st recs:=fun _ _ _ _ _ _ _ hne=> .inl (Jjj hne)
theorem Jue {r s:Rec} (h:J5p an r s=true) (hu:r.out.upd≠[]) (hne:r.ix≠s.ix):cmpB an r.ix s.ix=true∨∃l,s.touch=some l∧∀u∈r.out.upd,s.new u.1=false∧l.contains u.1=false∧look s.out.upd u.1=none:=by
 unfold J5p at h
 have hu':r.out.upd.isEmpty=false:=by simpa using hu
 have hne':Nat.beq r.ix s.ix=false:=by
  cases hb:Nat.beq r.ix s.ix with
  |false=>rfl
  |true=>exact absurd (Nat.eq_of_beq_eq_true hb) hne
 rw[hu',Bool.false_or,hne',Bool.false_or,Bool.or_eq_true] at h
 rcases h with h2|h2
 ·exact .inl h2
 ·split at h2
  ·rename_i l hl
   refine .inr ⟨l,hl,fun u hu=> ?_⟩
   have:=List.all_eq_true.1 h2 u hu
   simp only[Bool.and_eq_true,Bool.not_eq_true',Option.isNone_iff_eq_none] at this
   exact this
  ·cases h2
theorem Jwa {r s:Rec} {early:List Rec} {qs:List Prop} (h:J8f P Γ an ops st r s early=some qs) (hq:Kf qs):J4v P Γ an ops st r s early:=by
 unfold J8f at h
 split at h
 ·rename_i i j y o h1 h2 h3
  split at h
  ·rename_i hc
   obtain⟨rfl,c1,c2,c3,c4,c5⟩:=hc
   split at h
   ·cases h
   ·rename_i hnp
    split at h
    ·rename_i out ho
     split at h
     ·rename_i hd
      cases h
      exact⟨i,y,o,out,h1,h2,List.isEmpty_iff.1 c1,List.isEmpty_iff.1 c3,List.isEmpty_iff.1 c4,List.isEmpty_iff.1 c5,h3,fun c x y e=>hnp c x y e,ho,List.isEmpty_iff.1 hd.1,List.isEmpty_iff.1 hd.2.1,List.isEmpty_iff.1 hd.2.2,hq⟩
     ·cases h
    ·cases h
  ·cases h
 ·cases h
theorem Jgt {s:Rec} {early:List Rec}:∀{l:List Rec} {qs:List Prop},J1j P Γ an ops st s early l=some qs→Kf qs→∀r∈l,r.out.upd≠[]→r.ix≠s.ix→
  cmpB an r.ix s.ix=true∨(∃l,s.touch=some l∧∀u∈r.out.upd,s.new u.1=false∧l.contains u.1=false∧look s.out.upd u.1=none)∨J4v P Γ an ops st r s early
 |[],_,_,_,r,hr=>by simp at hr
 | x :: l, qs, h, hq, r, hr => by
  intro hu hne
  simp only[J1j] at h
  split at h
  ·rename_i ps hps
   split at h
   ·rename_i hb
    cases h
    rcases List.mem_cons.1 hr with rfl|hr
    ·rcases Jue hb hu hne with h1|h1
     ·exact .inl h1
     ·exact .inr (.inl h1)
    ·exact Jgt hps hq r hr hu hne
   ·split at h
    ·rename_i ql hql
     cases h
     obtain⟨q1,q2⟩:=Jp.1 hq
     rcases List.mem_cons.1 hr with rfl|hr
     ·exact .inr (.inr (Jwa hql q1))
     ·exact Jgt hps q2 r hr hu hne
    ·cases h
  ·cases h
theorem Jlq {all:List Rec}:∀{l:List Rec} {qs:List Prop},Jw0 P Γ an ops st all l=some qs→Kf qs→∀r∈all,∀fr s early,l=fr++s::early→r.out.upd≠[]→r.ix≠s.ix→
  cmpB an r.ix s.ix=true∨(∃l,s.touch=some l∧∀u∈r.out.upd,s.new u.1=false∧l.contains u.1=false∧look s.out.upd u.1=none)∨J4v P Γ an ops st r s early
 |[],_,_,_,r,_,fr,s,early,e=>by simp at e
 | x :: l, qs, h, hq, r, hr, fr, s, early, e => by
  simp only[Jw0] at h
  split at h
  ·rename_i a b ha hb
   cases h
   obtain⟨q1,q2⟩:=Jp.1 hq
   cases fr with
   |nil=>
    simp only[List.nil_append,List.cons.injEq] at e
    obtain⟨rfl,rfl⟩:=e
    exact Jgt ha q1 r hr
   |cons y fr=>
    simp only[List.cons_append,List.cons.injEq] at e
    exact Jlq hb q2 r hr fr s early e.2
  ·cases h
theorem Jll {i t:Nat}:∀{l:List Oper} {k:Nat},J1i an i t l k=true→∀j o,l[j]? =some o→o.dst=some t→k+j≠i→cmpB an i (k+j)=true
 |[],_,_,j,o,h,_,_=>by simp at h
 | x :: l, k, h, j, o, ho, hd, hne => by
  simp only[J1i,Bool.and_eq_true] at h
  cases j with
  |zero=>
   simp only[List.getElem?_cons_zero,Option.some.injEq] at ho
   subst ho
   have h1:=h.1
   rw[hd] at h1
   simp only[Bool.or_eq_true] at h1
   rcases h1 with h1|h1|h1
   ·simp at h1
   ·exact absurd (Nat.eq_of_beq_eq_true h1) hne
   ·exact h1
  |succ j=>
   have:=Jll h.2 j o (by simpa using ho) hd (by omega)
   rwa[show k+(j+1)=k+1+j by omega]
theorem Jlk {i t:Nat} (h:Jsd an ops i t=true) {j:Nat} {o:Oper} (ho:ops[j]? =some o) (hd:o.dst=some t) (hne:j≠i):cmpB an i j=true:=by
 cases an with
 |none=>exact Jjj (Ne.symm hne)
 |some ms=>
  have:=Jll (k:=0) h j o ho hd (by omega)
  rwa[Nat.zero_add] at this
theorem Jjk {i j:Nat}:cmpB an i j=true→i≠j→cmpB an j i=true:=by
 intro h hne
 unfold cmpB at*
 rcases Nat.lt_or_gt_of_ne hne with hlt|hlt
 ·have h1:Nat.blt i j=true:=by simpa[Nat.blt_eq] using hlt
  have h2:Nat.blt j i=false:=by
   cases hb:Nat.blt j i with
   |false=>rfl
   |true=>rw[Nat.blt_eq] at hb;omega
  rw[h1] at h;rw[h2];exact h
 ·have h1:Nat.blt j i=true:=by simpa[Nat.blt_eq] using hlt
  have h2:Nat.blt i j=false:=by
   cases hb:Nat.blt i j with
   |false=>rfl
   |true=>rw[Nat.blt_eq] at hb;omega
  rw[h2] at h;rw[h1];exact h
theorem Jea {S:Nat→Bool} (hcl:∀i j,S i=true→Jei an i j=true→S j=true) {i j:Nat} (h:cmpB an i j=true) (hi:S i=false) (hj:S j=true):Jei an i j=true∧j<i:=by
 have hne:j≠i:=fun e=>by rw[e,hi] at hj;cases hj
 unfold cmpB at h
 cases hb:Nat.blt i j with
 |true=>
  rw[hb] at h
  have:=hcl j i hj h
  rw[hi] at this;cases this
 | false =>
  rw[hb] at h
  refine⟨h, ?_⟩
  have:¬i<j:=by
   intro hlt
   rw[show Nat.blt i j=true from by simpa[Nat.blt_eq] using hlt] at hb
   cases hb
  omega
theorem Ha {i:Nat} {early recs:List Rec} (he:∀s,s∈early↔s∈recs∧s.ix<i) (s:Rec):s∈Zr an i early↔s∈recs∧s.ix<i∧Jei an i s.ix=true:=by
 unfold Zr
 cases an with
 |none=>
  simp only[he,Jei,Nat.blt_eq]
  constructor
  ·rintro⟨a,b⟩;exact⟨a,b,b⟩
  ·rintro⟨a,b,_⟩;exact⟨a,b⟩
 |some ms=>simp only[List.mem_filter,he,and_assoc]
theorem Kl {recs:List Rec} {S:Nat→Bool} {s:Rec}:s∈Zb recs S↔s∈recs∧S s.ix=true:=List.mem_filter
theorem K2 {l:List Rec} (h:Jlh l) (p:Rec→Bool):Jlh (l.filter p):=List.Pairwise.sublist List.filter_sublist h
theorem Fo {i:Nat} {l:List Rec} (h:Jlh l):Jlh (Zr an i l):=by
 unfold Zr
 cases an with
 |none=>exact h
 |some ms=>exact K2 h _
theorem Vy {r:Rec} {id:Nat} (h:(Vf r id).isSome=true):(r.base≤id∧id<r.base+r.out.news.length)∨(r.out.upd≠[]∧∃y,(id,y)∈r.out.upd):=by
 unfold Vf at h
 split at h
 ·rename_i hc;exact .inl hc
 ·obtain⟨y,hy⟩:=Option.isSome_iff_exists.1 h
  have:=Jr hy
  exact .inr ⟨List.ne_nil_of_mem this,y,this⟩
theorem Jac (v:Value):(ofValue v).ids=[]:=by
 cases v<;>first|rfl|simp[ofValue,SV.ids,Db]
theorem La {v:SV} {b:Bool} (h:Xy v=some b):v= .one (.bool b):=by
 unfold Xy at h
 split at h
 ·cases h;rfl
 ·cases h
end
end Go.Sx
namespace Go.Sx
open Go.RowKit
section
variable {P:Program} {Γ:Gam} {an:Ll} {ops:List Oper} {st:St} {N B:Nat} {w0:K8} {R:Nat→Prop} {recs:List Rec} {al0:Nat→Prop}
structure Do (P:Program) (Γ:Gam) (an:Ll) (ops:List Oper) (st:St) (recs:List Rec) (S:Nat→Bool) (i:Nat) (r:Rec) (o:Oper) (early:List Rec):Prop where
 run:Us P Γ an ops st recs
 mem:r∈recs
 ix:r.ix=i
 op:ops[i]? =some o
 eRun:Us P Γ an ops st early
 eMem:∀s,s∈early↔s∈recs∧s.ix<i
 eNx:r.base=Fv st.nx early
 dst:r.dst=o.dst
 touch:r.touch=Jc5 an (evR an ops i st (Zr an i early) r.gc) o
 gc:J1n an ops i (Zr an i early) o=some r.gc
 wr:∀t,o.dst=some t→Jsd an ops i t=true
 upd:∀u∈r.out.upd,u.1<r.base
 out:Jyd P Γ an ops st r.base i (Zr an i early) r.gc o=some r.out
 closed:∀i j,S i=true→Jei an i j=true→S j=true
 fresh:S i=false
 suf:∃fr,recs=fr++r::early
 ancs:∀j,Jei an i j=true→S j=true
variable {S:Nat→Bool} {i:Nat} {r:Rec} {o:Oper} {early:List Rec}
theorem Do.dsts (H:Do P Γ an ops st recs S i r o early) {s:Rec} (hs:s∈recs):∃os,ops[s.ix]? =some os∧s.dst=os.dst:=by
 obtain⟨r',o',e',h1,h2,h3,_,_,h6,_,_⟩:=H.run.at (H.run.ix s hs)
 have:r'=s:=K1 H.run.desc h1 hs h2
 subst this
 exact⟨o',h3,(J6 h6).2.2.1⟩
theorem Do.same (H:Do P Γ an ops st recs S i r o early) {p:Rec→Bool} (hp:∀s∈recs,p s=true→s.ix≠i→cmpB an i s.ix=true):(Zr an i early).find? p=(Zb recs S).find? p:=by
 refine Ja9 (Fo H.eRun.desc) (K2 H.run.desc _) fun s hs=> ?_
 rw[Ha H.eMem,Kl]
 constructor
 ·rintro⟨h1,_,h3⟩;exact⟨h1,H.ancs _ h3⟩
 ·rintro⟨h1,h2⟩
  have hne:s.ix≠i:=fun e=>by rw[e,H.fresh] at h2;cases h2
  obtain⟨q1,q2⟩:=Jea H.closed (hp s h1 hs hne) H.fresh h2
  exact⟨h1,q2,q1⟩
theorem Do.slot (H:Do P Γ an ops st recs S i r o early) {t:Nat} (ht:Jsd an ops i t=true):Za (Zr an i early) t=Za (Zb recs S) t:=by
 rw[U3,U3]
 refine H.same fun s hs hp hne=> ?_
 obtain⟨os,h1,h2⟩:=H.dsts hs
 exact Jlk ht h1 (h2▸of_decide_eq_true hp) hne
theorem Do.ev [Dr] (H:Do P Γ an ops st recs S i r o early) {a:Act} {w:World} {ρ:Env} {M:Nat→Prop} (C:Jl P N B w0 (alS recs al0 S) (Dq recs st S) (Jbn recs st S) a w ρ M R) {gc:GC} (hg:Vk (Zl recs) gc=true) {x:Operand} {sv:SV} (h:evR an ops i st (Zr an i early) gc x=some sv):
  a.eval x=sv.den ρ∧∀id∈sv.ids,alS recs al0 S id:=by
 cases x with
 | tmp t =>
  simp only[evR] at h
  split at h
  ·rename_i ht
   rw[H.slot ht] at h
   have key:Dq recs st S t=some sv:=by
    unfold Dq
    cases hs:Za (Zb recs S) t with
    |none=>rw[hs] at h;exact h
    | some s =>
     rw[hs] at h
     simp only at h⊢
     split at h
     ·rename_i hsub
      rw[if_pos (show V1 recs s=true from Dc hsub hg)];exact h
     ·cases h
   exact⟨C.slot t sv key,C.slotIds t sv key⟩
  ·cases h
 |const v=>cases h;exact⟨(Jbe ρ v).symm,fun id hid=>by rw[Jac] at hid;simp at hid⟩
 |func f=>cases h;exact⟨rfl,fun id hid=>by simp[SV.ids,J1,SC.ids] at hid⟩
 |global g=>cases h;exact⟨rfl,fun id hid=>by simp[SV.ids,J1,SC.ids] at hid⟩
theorem Do.rs (H:Do P Γ an ops st recs S i r o early) (hU:J1e P Γ an ops st recs) (hna:∀id rr x,Jb9 (Zb recs S) id=some (rr,x)→(∃y,(id,y)∈rr.out.upd)→(∀l,r.touch=some l→l.contains id=true)→rr∈Zr an i early) (hst:∀id x,look st.rs id=some x→id<st.nx) {gc:GC} (hg:Vk (Zl recs) gc=true) {id:Nat} {x:Res} (h:rsT r.touch (rsR st (Zr an i early) gc) id=some x):
  Jbn recs st S id=some x:=by
 have hd:=K2 H.run.desc fun r=>S r.ix
 have hdv:=Fo (an:=an) (i:=i) H.eRun.desc
 have hrt:rsR st (Zr an i early) gc id=some x∧∀l,r.touch=some l→l.contains id=true:=by
  unfold rsT at h
  split at h
  ·rename_i e;exact⟨h,fun l hl=>by rw[e] at hl;cases hl⟩
  ·rename_i l e
   split at h
   ·rename_i hc;exact⟨h,fun l' hl=>by rw[e] at hl;cases hl;exact hc⟩
   ·cases h
 obtain⟨h,htc⟩:=hrt
 unfold rsR at h
 unfold Jbn
 cases hj:Jb9 (Zb recs S) id with
 | none =>
  cases hv:Jb9 (Zr an i early) id with
  |none=>rw[hv] at h;exact h
  |some p=>
   obtain⟨s,y⟩:=p
   obtain⟨h1,h2,_⟩:=Xm hdv hv
   obtain⟨m1,m2,m3⟩:=(Ha H.eMem s).1 h1
   rw[Jmu] at hj
   rw[hj s (Kl.2 ⟨m1,H.ancs _ m3⟩)] at h2;cases h2
 | some q =>
  obtain⟨rr,x'⟩:=q
  obtain⟨g1,g2,g3⟩:=Xm hd hj
  obtain⟨n1,n2⟩:=Kl.1 g1
  have hvis : rr ∈ Zr an i early := by
   rcases Vy (r:=rr) (id:=id) (by rw[g2];rfl) with hc|⟨_,hc⟩
   ·-- new there: whoever sees the identity
    cases hv:Jb9 (Zr an i early) id with
    |none=>
     rw[hv] at h
     have:=(H.run.nx.2 rr n1).1
     have:=hst id x h
     omega
    | some p =>
     obtain⟨s,y⟩:=p
     obtain⟨h1,h2,h3⟩:=Xm hdv hv
     obtain⟨m1,m2,m3⟩:=(Ha H.eMem s).1 h1
     have hle:=g3 s (Kl.2 ⟨m1,H.ancs _ m3⟩) (by rw[h2];rfl)
     rcases Nat.lt_or_ge s.ix rr.ix with hlt|hge
     ·exfalso
      have hb:=H.run.later m1 n1 hlt
      rcases Vy (r:=s) (id:=id) (by rw[h2];rfl) with hc'|⟨_,z,hz⟩
      ·omega
      ·obtain⟨r',o',e',q1,q2,q3,q4,q5,q6,q7⟩:=H.run.at (H.run.ix s m1)
       have e:=K1 H.run.desc q1 m1 q2
       subst e
       have:=(J6 q6).2.2.2.2.2.2.1 _ hz
       have hbase:=(J6 q6).2.1
       simp only at this
       omega
     ·have:=K1 H.run.desc m1 n1 (by omega)
      rw[←this];exact h1
   ·exact hna id rr x' hj hc htc
  have hsame:Jb9 (Zr an i early) id=some (rr,x'):=Jmv hdv hvis g2 fun s hs ht=>by
   obtain⟨m1,m2,m3⟩:=(Ha H.eMem s).1 hs
   exact g3 s (Kl.2 ⟨m1,H.ancs _ m3⟩) ht
  rw[hsame] at h
  simp only at h⊢
  split at h
  ·rename_i hsub
   rw[if_pos (show V1 recs rr=true from Dc hsub hg)];exact h
  ·cases h
theorem Do.slotAfter (H:Do P Γ an ops st recs S i r o early) {S':Nat→Bool} (hS:∀j,S' j=true↔S j=true∨j=i) (t:Nat):Za (Zb recs S') t=if o.dst=some t then some r else Za (Zb recs S) t:=by
 have hd:=K2 H.run.desc fun r=>S r.ix
 have hd':=K2 H.run.desc fun r=>S' r.ix
 rw[U3,U3]
 split
 ·rename_i e
  refine Jd3 hd' (Kl.2 ⟨H.mem,(hS _).2 (.inr H.ix)⟩) (by simp[H.dst,e]) fun s hs hp=> ?_
  obtain⟨s1,s2⟩:=Kl.1 hs
  rw[H.ix]
  by_cases hne:s.ix=i
  ·exact Nat.le_of_eq hne
  ·have hSs:S s.ix=true:=((hS _).1 s2).resolve_right hne
   obtain⟨os,h1,h2⟩:=H.dsts s1
   exact Nat.le_of_lt (Jea H.closed (Jlk (H.wr t e) h1 (h2▸of_decide_eq_true hp) hne) H.fresh hSs).2
 ·rename_i e
  refine Ja9 hd' hd fun s hp=> ?_
  rw[Kl,Kl,hS]
  constructor
  ·rintro⟨h1,h2|h2⟩
   ·exact⟨h1,h2⟩
   ·have:s=r:=K1 H.run.desc h1 H.mem (by rw[H.ix];exact h2)
    subst this
    exact absurd (H.dst▸of_decide_eq_true hp) e
  ·rintro⟨h1,h2⟩;exact⟨h1, .inl h2⟩
theorem Do.resAfter (H:Do P Γ an ops st recs S i r o early) (hU:J1e P Γ an ops st recs) {S':Nat→Bool} (hS:∀j,S' j=true↔S j=true∨j=i) (id:Nat):
  Jb9 (Zb recs S') id=match Vf r id with|some x=>some (r,x)|none=>Jb9 (Zb recs S) id:=by
 have hd:=K2 H.run.desc fun r=>S r.ix
 have hd':=K2 H.run.desc fun r=>S' r.ix
 cases hr:Vf r id with
 | some x =>
  refine Jmv hd' (Kl.2 ⟨H.mem,(hS _).2 (.inr H.ix)⟩) hr fun s hs ht=> ?_
  obtain⟨s1,s2⟩:=Kl.1 hs
  rw[H.ix]
  rcases Nat.lt_or_ge i s.ix with hlt|hge
  ·exfalso
   have hne:s.ix≠i:=by omega
   have hSs:S s.ix=true:=((hS _).1 s2).resolve_right hne
   have hb:=H.run.later H.mem s1 (by rw[H.ix];exact hlt)
   have hri:=Vy (r:=r) (id:=id) (by rw[hr];rfl)
   rcases Vy ht with hc|⟨hc,y,hy⟩
   ·rcases hri with hc'|⟨_,z,hz⟩
    ·omega
    ·have:=H.upd _ hz;simp only at this;omega
   ·obtain⟨fr,hsuf⟩:=H.suf
    rcases hU s s1 fr r early hsuf hc (by rw[H.ix];exact hne) with hcm|⟨_,_,hn⟩|⟨_,_,_,_,_,_,_,a4,a5,_⟩
    ·rw[H.ix] at hcm
     have:=(Jea H.closed (Jjk hcm hne) H.fresh hSs).2
     omega
    ·obtain⟨n1,_,n3⟩:=hn _ hy
     unfold Vf at hr
     split at hr
     ·rename_i hcc
      simp[Rec.new] at n1
      omega
     ·simp only at n3
      rw[n3] at hr;cases hr
    ·unfold Vf at hr
     rw[a4,a5] at hr
     simp only[List.length_nil,look] at hr
     split at hr
     ·omega
     ·cases hr
  ·exact hge
 | none =>
  simp only
  rw[Ym,Ym]
  congr 1
  refine Ja9 hd' hd fun s hp=> ?_
  rw[Kl,Kl,hS]
  constructor
  ·rintro⟨h1,h2|h2⟩
   ·exact⟨h1,h2⟩
   ·have:s=r:=K1 H.run.desc h1 H.mem (by rw[H.ix];exact h2)
    subst this
    rw[hr] at hp;cases hp
  ·rintro⟨h1,h2⟩;exact⟨h1, .inl h2⟩
theorem Do.alLive (H:Do P Γ an ops st recs S i r o early) {S':Nat→Bool} (hS:∀j,S' j=true↔S j=true∨j=i) (hl:V1 recs r=true) (id:Nat):alS recs al0 S' id↔Ve (alS recs al0 S) r.base r.out.news id:=by
 unfold alS Ve
 constructor
 ·rintro(h|⟨s,h1,h2,h3,h4⟩)
  ·exact .inl (.inl h)
  ·rcases(hS _).1 h2 with h2|h2
   ·exact .inl (.inr ⟨s,h1,h2,h3,h4⟩)
   ·have:s=r:=K1 H.run.desc h1 H.mem (by rw[H.ix];exact h2)
    subst this
    exact .inr h4
 ·rintro((h|⟨s,h1,h2,h3,h4⟩)|h)
  ·exact .inl h
  ·exact .inr ⟨s,h1,(hS _).2 (.inl h2),h3,h4⟩
  ·exact .inr ⟨r,H.mem,(hS _).2 (.inr H.ix),hl,h⟩
theorem Do.alDead (H:Do P Γ an ops st recs S i r o early) {S':Nat→Bool} (hS:∀j,S' j=true↔S j=true∨j=i) (hl:V1 recs r=false) (id:Nat):alS recs al0 S' id↔alS recs al0 S id:=by
 unfold alS
 constructor
 ·rintro(h|⟨s,h1,h2,h3,h4⟩)
  ·exact .inl h
  ·rcases(hS _).1 h2 with h2|h2
   ·exact .inr ⟨s,h1,h2,h3,h4⟩
   ·have:s=r:=K1 H.run.desc h1 H.mem (by rw[H.ix];exact h2)
    subst this
    rw[hl] at h3;cases h3
 ·rintro(h|⟨s,h1,h2,h3,h4⟩)
  ·exact .inl h
  ·exact .inr ⟨s,h1,(hS _).2 (.inl h2),h3,h4⟩
theorem Do.fresh' (H:Do P Γ an ops st recs S i r o early) (hal0:∀id,al0 id→id<st.nx) (id:Nat) (h:alS recs al0 S id):¬(r.base≤id∧id<r.base+r.out.news.length):=by
 rcases h with h|⟨s,h1,h2,h3,h4⟩
 ·have:=hal0 id h
  have:=(H.run.nx.2 r H.mem).1
  omega
 ·have hne:s.ix≠r.ix:=fun e=>by rw[e,H.ix,H.fresh] at h2;cases h2
  rcases Nat.lt_or_gt_of_ne hne with hlt|hlt
  ·have:=H.run.later h1 H.mem hlt;omega
  ·have:=H.run.later H.mem h1 hlt;omega
end
end Go.Sx
namespace Go.Sx
open Go.RowKit
def FR (rd:Option Nat):Fence:={Fence.wide with round:=rd}
theorem X9 {rd:Option Nat} {n:Nat} {P:Program} {f:FuncId} {args:Array Value} {w:World} {R:Ending→World→Prop}:CallsIn (FR rd) n P f args w R↔Calls P f args w R:=
 (callsIn_wide (n:=n) (P:=P) (f:=f) (args:=args) (w:=w) (R:=R))
theorem Jmq {rd:Option Nat} {n:Nat} {P:Program} {row:String} {args:Array Value} {w:World} {R:Value→World→Prop} (h:Rows P row args w R):RowsIn (FR rd) n P row args w R:=
 fun c cs _=>let⟨v,w',r,s⟩:=h c cs;⟨v,w',r,stepsIn_wide.2 s⟩
theorem Jbs {rd:Option Nat} {P:Program} {o:Oper} {a:Act} {w:World} {K:Act→World→Prop} {Q:Exit→Act→World→Prop} (hnd:∀c,o.op≠ .defer c) (h:o.wp P a w K Q):o.wpIn (FR rd) 0 P a w K Q:=by
 unfold Oper.wp at h
 unfold Oper.wpIn
 refine⟨fun _ _=>trivial, ?_⟩
 rw[Oper.semAt_eq _ _ _ hnd]
 revert h
 generalize(execOp a.eval o).run P w=r
 cases r with
 | ok x w' =>
  cases x<;>simp only[Oper.upon,Oper.uponIn]<;>intro h<;>
   first
    |exact h
    |exact⟨fun h=>by simp[FR,Fence.wide] at h,X9.2 h⟩
    |exact⟨fun h=>by simp[FR,Fence.wide] at h,Jmq h⟩
    |exact h.elim
 |halt x w'=>cases x<;>simp only[Oper.upon,Oper.uponIn]<;>intro h<;>first|exact h|exact h.elim
section
variable {P:Program} {Γ:Gam} {an:Ll} {ops:List Oper} {st:St} {N B:Nat} {w0:K8} {R:Nat→Prop} {recs:List Rec} {al0:Nat→Prop}
variable {S:Nat→Bool} {i:Nat} {r:Rec} {o:Oper} {early:List Rec}
theorem Jcv (hr:Us P Γ an ops st recs) {s:Rec} (hs:s∈recs):Zl recs s.ix=Xy s.out.val:=by
 unfold Zl
 rw[F5,Jd3 hr.desc hs (by simp) fun r' _ h=>by simp at h;omega]
theorem Do.wanted [Dr] (H : Do P Γ an ops st recs S i r o early) {a : Act} {w : World} {ρ : Env} {M : Nat → Prop} (C : Jl P N B w0 (alS recs al0 S) (Dq recs st S) (Jbn recs st S) a w ρ M R) {opsA : Array Oper} (hA : opsA.toList = ops)
  (hN:∀o∈ops,∀t,o.dst=some t→t<N):Region.wanted o (yielded opsA a.tmps)=V1 recs r:=by
 have hg:=H.gc
 unfold J1n at hg
 unfold Region.wanted V1
 cases hgd:o.guard with
 |none=>
  rw[hgd] at hg
  have:r.gc=[]:=(Option.some.inj hg).symm
  rw[this];rfl
 | some jw =>
  obtain⟨j,want⟩:=jw
  rw[hgd] at hg
  simp only at hg⊢
  split at hg
  ·rename_i s hs
   split at hg
   ·rename_i b t hb ht
    split at hg
    ·rename_i hw
     split at hg
     ·rename_i s' hs'
      split at hg
      ·rename_i hj
       have hgc:(j,want)::s.gc=r.gc:=Option.some.inj hg
       have hdv:=Fo (an:=an) (i:=i) H.eRun.desc
       have hsf:s∈Zr an i early∧s.ix=j:=by
        rw[F5] at hs
        obtain⟨q1,q2,_⟩:=V3 hdv hs
        exact⟨q1,of_decide_eq_true q2⟩
       have hs'f:s'∈Zr an i early:=by
        rw[U3] at hs'
        exact(V3 hdv hs').1
       have e:s'=s:=K1 hdv hs'f hsf.1 (by rw[hj,hsf.2])
       subst e
       have hsr:=((Ha H.eMem s').1 hsf.1).1
       obtain⟨os,ho1,ho2⟩:=H.dsts hsr
       have hdt:os.dst=some t:=by rw[←ho2];exact ht
       have hopsA:opsA[j]? =some os:=by rw[←Array.getElem?_toList,hA,←hsf.2];exact ho1
       have htN:t<N:=hN os (List.mem_of_getElem? ho1) t hdt
       have hy:yielded opsA a.tmps j=match a.tmps.getD t undef with| .bool b=>some b|_=>none:=by
        have hsz:t<a.tmps.size:=by rw[C.size];exact htN
        simp only[yielded,hopsA,Option.bind_some,hdt,Array.getD_eq_getD_getElem?,Array.getElem?_eq_getElem hsz,Option.getD_some]
        cases a.tmps[t]<;>rfl
       have hsl:Za (Zb recs S) t=some s':=by rw[←H.slot hw];exact hs'
       have hbs:Zl recs j=some b:=by rw[←hsf.2,Jcv H.run hsr];exact hb
       have hgr:Vk (Zl recs) r.gc=(b==want&&V1 recs s'):=by
        rw[←hgc]
        simp[Vk,hbs,V1]
       rw[hgr,hy]
       cases hl:V1 recs s' with
       |true=>
        have:=C.slot t s'.out.val (by unfold Dq;rw[hsl];simp only;rw[if_pos hl])
        rw[this,La hb]
        simp[SV.den,valOf,SC.den]
       |false=>
        have:=C.slot t Ju (by unfold Dq;rw[hsl];simp[hl])
        rw[this]
        simp[Ju,SV.den,valOf,SC.den,undef]
      ·cases hg
     ·cases hg
    ·cases hg
   ·cases hg
  ·cases hg
theorem Do.pick [Dr] (H:Do P Γ an ops st recs S i r o early) {a:Act} {w:World} {ρ:Env} {M:Nat→Prop} (C:Jl P N B w0 (alS recs al0 S) (Dq recs st S) (Jbn recs st S) a w ρ M R) (hl:V1 recs r=true) {c x y:Operand} (ho:o.op= .pick c x y) {out:Out}
  (h:Jup an ops i st (Zr an i early) r.gc c x y=some out):(execOp a.eval o).run P w= .ok (.value (out.val.den ρ)) w∧out.news=[]∧out.upd=[]∧out.val.ids=[]:=by
 have fin:∀(b:Bool) (gt gf:GC),a.eval c= .bool b→(b=true→Vk (Zl recs) gt=true)→(b=false→Vk (Zl recs) gf=true)→
   (match evR an ops i st (Zr an i early) gt x,evR an ops i st (Zr an i early) gf y with
    |some v,some u=>match Xy v,Xy u with
     |some p,some q=>Out.pure (.one (.bool (bif b then p else q)))
     |_,_=>none
    |_,_=>none)=some out→(execOp a.eval o).run P w= .ok (.value (out.val.den ρ)) w∧out.news=[]∧out.upd=[]∧out.val.ids=[]:=by
  intro b gt gf hc hgt hgf hf
  split at hf
  ·rename_i v u hv hu
   split at hf
   ·rename_i p q hp hq
    cases hf
    refine⟨?_,rfl,rfl,rfl⟩
    cases b with
    |true=>
     have e:=(H.ev C (hgt rfl) hv).1
     rw[La hp] at e
     simp[execOp,ho,hc,asBool,e,SV.den,valOf,SC.den]
    |false=>
     have e:=(H.ev C (hgf rfl) hu).1
     rw[La hq] at e
     simp[execOp,ho,hc,asBool,e,SV.den,valOf,SC.den]
   ·cases hf
  ·cases hf
 unfold Jup at h
 simp only at h
 split at h
 ·rename_i t
  split at h
  ·rename_i hw
   have hsl:=H.slot hw
   split at h
   ·rename_i s hs
    split at h
    ·rename_i hsub
     split at h
     ·rename_i b hb
      rw[hs] at hsl
      have hls:V1 recs s=true:=Dc hsub hl
      have e:=C.slot t s.out.val (by unfold Dq;rw[←hsl];simp only;rw[if_pos hls])
      rw[La hb] at e
      have hsr:s∈recs:=by
       rw[U3] at hs
       exact((Ha H.eMem s).1 (V3 (Fo H.eRun.desc) hs).1).1
      have hbs:=Jcv H.run hsr
      rw[hb] at hbs
      refine fin b _ _ e (fun hb'=> ?_) (fun hb'=> ?_) h<;>
      ·simp only[Vk,List.all_cons,hbs,hb',Bool.and_eq_true]
       exact⟨by simp,hl⟩
     ·cases h
    ·cases h
   ·rename_i hs
    split at h
    ·rename_i v hv
     split at h
     ·rename_i b hb
      rw[hs] at hsl
      have e:=C.slot t v (by unfold Dq;rw[←hsl];exact hv)
      rw[La hb] at e
      exact fin b _ _ e (fun _=>hl) (fun _=>hl) h
     ·cases h
    ·cases h
  ·cases h
 ·cases h
theorem Jaa {P:Program} {Γ:Gam} {ev:Operand→Option SV} {rs:Nat→Option Res} {n:Nat} {o:Oper} {out:Out} (h:opS P Γ ev rs n o=some out):∀c,o.op≠ .defer c:=by
 intro c e
 unfold opS at h
 rw[e] at h
 cases h
theorem Do.step [Dr] (H:Do P Γ an ops st recs S i r o early) (hΓ:Ut P Γ) (hU:J1e P Γ an ops st recs) (hst:∀id x,look st.rs id=some x→id<st.nx) (hal0:∀id,al0 id→id<st.nx) (hN:∀o∈ops,∀t,o.dst=some t→t<N)
  (hpre:V1 recs r=true→Kf r.out.pre) {a:Act} {w:World} {ρ:Env} {M:Nat→Prop} (C:Jl P N B w0 (alS recs al0 S) (Dq recs st S) (Jbn recs st S) a w ρ M R) {opsA:Array Oper} (hA:opsA.toList=ops)
  {S':Nat→Bool} (hS:∀j,S' j=true↔S j=true∨j=i) {rd:Option Nat} {K:Act→World→Prop} {Q:Exit→Act→World→Prop}
  (hK:∀a' w' ρ' M',Jl P N B w0 (alS recs al0 S') (Dq recs st S') (Jbn recs st S') a' w' ρ' M' R→K a' w'):wpOpIn (FR rd) 0 P opsA Q i K a w:=by
 have hoA:opsA[i]? =some o:=by rw[←Array.getElem?_toList,hA];exact H.op
 have hd:∀t,o.dst=some t→t<N:=hN o (List.mem_of_getElem? H.op)
 unfold wpOpIn
 rw[hoA]
 simp only
 rw[H.wanted C hA hN]
 cases hl:V1 recs r with
 | true =>
  rw[if_pos rfl]
  have hnd:∀c,o.op≠ .defer c:=by
   have hout:=H.out
   unfold Jyd at hout
   split at hout
   ·rename_i c x y ho;intro c' e;rw[ho] at e;cases e
   ·exact Jaa hout
  refine Jbs hnd ?_
  have hsound : Kp P N B w0 (alS recs al0 S) (Dq recs st S) (Jbn recs st S) a w R r.base o r.out := by
   have hout:=H.out
   unfold Jyd at hout
   split at hout
   ·rename_i c x y ho
    obtain⟨h1,h2,h3,h4⟩:=H.pick C hl ho hout
    exact Jd C hd h2 h3 h1 (by rw[h4];simp)
   ·rename_i hnp
    rw[←H.touch] at hout
    by_cases hna:∀id rr x,Jb9 (Zb recs S) id=some (rr,x)→(∃y,(id,y)∈rr.out.upd)→(∀l,r.touch=some l→l.contains id=true)→rr∈Zr an i early
    ·exact Jdm hΓ C hd (fun id x h=>H.rs hU hna hst hl h) (fun x sv h=>H.ev C hl h) hout (hpre hl) (H.fresh' hal0)
    ·simp only[Classical.not_forall] at hna
     obtain⟨id,rr,x,hj,⟨y,hy⟩,htc,hnv⟩:=hna
     obtain⟨g1,g2,g3⟩:=Xm (K2 H.run.desc fun r=>S r.ix) hj
     obtain⟨n1,n2⟩:=Kl.1 g1
     have hne:rr.ix≠i:=fun e=>by rw[e,H.fresh] at n2;cases n2
     obtain⟨fr,hsuf⟩:=H.suf
     rcases hU rr n1 fr r early hsuf (List.ne_nil_of_mem hy) (by rw[H.ix];exact hne) with hc|⟨l,hc,hn⟩|⟨j,z,o',out,a1,a2,a3,a4,a5,a6,a7,a8,a9,a10,a11,a12,a13⟩
     ·rw[H.ix] at hc
      obtain⟨q1,q2⟩:=Jea H.closed (Jjk hc hne) H.fresh n2
      exact absurd ((Ha H.eMem rr).2 ⟨n1,q2,q1⟩) hnv
     ·have h1:=htc l hc
      rw[(hn _ hy).2.1] at h1;cases h1
     ·have hid:id=j:=by
       have:=htc _ a1
       simpa using this
      subst hid
      have hx:x=some z:=by
       unfold Vf at g2
       rw[a6,a2] at g2
       simp only[List.length_nil,look,if_true] at g2
       split at g2
       ·omega
       ·cases g2;rfl
      subst hx
      rw[H.ix] at a7 a9
      have ho':o'=o:=by rw[H.op] at a7;cases a7;rfl
      subst ho'
      have hsig:Jbn recs st S id=some z:=by
       unfold Jbn
       rw[hj]
       simp only
       rw[if_pos (by unfold V1;rw[a3];rfl)]
      have hs:=Jdm hΓ C hd (rs:=fun id'=>if id'=id then some z else none) (fun id' x h=>by
       split at h
       ·rename_i e;cases h;rw[e];exact hsig
       ·cases h) (fun x sv h=>H.ev C hl h) a9 (by rw[a12];trivial) (by rw[a11];intro id' _;simp)
      intro K Q hK
      refine hs K Q fun u w' ρ' M' hC=>hK u w' ρ' M' ?_
      rw[a10,a11,a13] at hC
      rw[a4,a5]
      exact hC
  refine hsound K Q fun u w' ρ' M' hC=>hK _ w' ρ' M' (hC.weaken (fun t v h=> ?_) (fun id x h=> ?_) (H.alLive hS hl))
  ·unfold Dq at h
   rw[H.slotAfter hS t] at h
   unfold Vd
   split at h
   ·rename_i s hs
    split at hs
    ·rename_i e
     cases hs
     rw[hl] at h
     rw[if_pos e];simpa using h
    ·rename_i e
     rw[if_neg e]
     unfold Dq;rw[hs];exact h
   ·rename_i hs
    split at hs
    ·cases hs
    ·rename_i e
     rw[if_neg e]
     unfold Dq;rw[hs];exact h
  ·unfold Jbn at h
   rw[H.resAfter hU hS id] at h
   unfold Ki
   cases hr:Vf r id with
   | some y =>
    rw[hr] at h
    simp only[hl,if_true] at h
    subst h
    unfold Vf at hr
    split at hr
    ·rename_i hc
     rw[if_pos hc]
     simpa using hr
    ·rename_i hc
     rw[if_neg hc,hr]
   | none =>
    rw[hr] at h
    unfold Vf at hr
    split at hr
    ·cases hr
    ·rename_i hc
     rw[if_neg hc,hr]
     exact h
 | false =>
  simp only[Bool.false_eq_true,if_false]
  have hC:=C.pure (n:=r.base) (v:=Ju) (u:=undef) hd rfl (fun id hid=>by simp[Ju,SV.ids,J1,SC.ids] at hid)
  have e1:Ve (alS recs al0 S) r.base []=alS recs al0 S:=by funext id;simp[Ve];intro h1 h2;omega
  rw[e1] at hC
  refine⟨fun _ _=>trivial,hK _ w ρ M (hC.weaken (fun t v h=> ?_) (fun id x h=> ?_) (H.alDead hS hl))⟩
  ·unfold Dq at h
   rw[H.slotAfter hS t] at h
   unfold Vd
   split at h
   ·rename_i s hs
    split at hs
    ·rename_i e
     cases hs
     rw[hl] at h
     rw[if_pos e];simpa using h
    ·rename_i e
     rw[if_neg e]
     unfold Dq;rw[hs];exact h
   ·rename_i hs
    split at hs
    ·cases hs
    ·rename_i e
     rw[if_neg e]
     unfold Dq;rw[hs];exact h
  ·unfold Jbn at h
   rw[H.resAfter hU hS id] at h
   have e2:Ki (Jbn recs st S) r.base [] [] id=Jbn recs st S id:=by
    unfold Ki
    rw[if_neg (by simp only[List.length_nil];omega)];rfl
   rw[e2]
   cases hr:Vf r id with
   |some y=>rw[hr] at h;simp[hl] at h
   |none=>rw[hr] at h;exact h
end
end Go.Sx
namespace Go.Sx
open Go.RowKit
theorem Jf2 {bnd:Edge→Bool} {g:Nat→Nat} {j:Nat}:∀{l:List Edge} {s:Nat},Nat.testBit (l.foldl (fun s e=>bif bnd e then s|||(2^e.on|||g e.on) else s) s) j=true→
  Nat.testBit s j=true∨∃e∈l,bnd e=true∧(j=e.on∨Nat.testBit (g e.on) j=true)
 |[],s,h=> .inl h
 | e :: l, s, h => by
  rw[List.foldl_cons] at h
  rcases Jf2 h with h|⟨e',h1,h2⟩
  ·cases hb:bnd e with
   |false=>rw[hb] at h;exact .inl h
   | true =>
    rw[hb] at h
    simp only[cond_true,Nat.testBit_or,Bool.or_eq_true] at h
    rcases h with h|h|h
    ·exact .inl h
    ·refine .inr ⟨e,by simp,hb, .inl ?_⟩
     rw[Nat.testBit_two_pow] at h
     exact(of_decide_eq_true h).symm
    ·exact .inr ⟨e,by simp,hb, .inr h⟩
  ·exact .inr ⟨e',by simp[h1],h2⟩
theorem Jbl:∀{l:List Oper} {acc:List Nat} {k:Nat},k<acc.length→(Dm l acc).getD k 0=acc.getD k 0
 |[],_,_,_=>rfl
 |o::r,acc,k,h=>by
  rw[Dm,Jbl (by simp;omega)]
  simp[List.getD_eq_getElem?_getD,List.getElem?_append_left h]
theorem Jj4:∀{l:List Oper} {acc:List Nat} {k:Nat} {o:Oper},l[k]? =some o→Jgk l acc.length=true→∀j,Nat.testBit ((Dm l acc).getD (acc.length+k) 0) j=true→
  ∃e∈o.after,Region.binds .any e=true∧e.on<acc.length+k∧(j=e.on∨Nat.testBit ((Dm l acc).getD e.on 0) j=true)
 |[],_,_,_,h,_,_,_=>by simp at h
 | x :: r, acc, 0, o, h, hb, j, hj => by
  simp only[List.getElem?_cons_zero,Option.some.injEq] at h
  subst h
  simp only[Jgk,Bool.and_eq_true,List.all_eq_true,Bool.or_eq_true,Bool.not_eq_true',Nat.blt_eq] at hb
  rw[Dm,Nat.add_zero,Jbl (by simp)] at hj
  simp only[List.getD_eq_getElem?_getD,List.getElem?_append_right (Nat.le_refl _),Nat.sub_self,List.getElem?_cons_zero,Option.getD_some] at hj
  rcases Jf2 (g:=fun k=>acc[k]?.getD 0) hj with h|⟨e,h1,h2,h3⟩
  ·simp at h
  ·have hlt:e.on<acc.length:=(hb.1 e h1).resolve_left (by simp[h2])
   refine⟨e,by simpa using h1,h2,by omega, ?_⟩
   rw[Dm,Jbl (by simp;omega)]
   simp only[List.getD_eq_getElem?_getD,List.getElem?_append_left hlt]
   exact h3
 | x :: r, acc, k + 1, o, h, hb, j, hj => by
  simp only[Jgk,Bool.and_eq_true] at hb
  have key:∀acc':List Nat,acc'.length=acc.length+1→Nat.testBit ((Dm r acc').getD (acc.length+(k+1)) 0) j=true→
    ∃e∈o.after,Region.binds .any e=true∧e.on<acc.length+(k+1)∧(j=e.on∨Nat.testBit ((Dm r acc').getD e.on 0) j=true):=by
   intro acc' hl hj
   obtain⟨e,h1,h2,h3,h4⟩:=Jj4 (l:=r) (acc:=acc') (k:=k) (o:=o) (by simpa using h) (by rw[hl];exact hb.2) j (by rw[hl,show acc.length+1+k=acc.length+(k+1) by omega];exact hj)
   exact⟨e,h1,h2,by omega,h4⟩
  exact key _ (by simp) hj
theorem Jgf {p q:Nat→Bool}:∀{l:List Nat},(∀x∈l,q x=true→p x=true)→(∃x∈l,p x=true∧q x=false)→l.countP q<l.countP p
 |[],_,⟨x,h,_⟩=>by simp at h
 | a :: l, h, ⟨x, hx, hp, hq⟩ => by
  have hle:∀{l:List Nat},(∀x∈l,q x=true→p x=true)→l.countP q≤l.countP p:=fun h=>List.countP_mono_left h
  rw[List.countP_cons,List.countP_cons]
  rcases List.mem_cons.1 hx with rfl|hx
  ·have:=hle (l:=l) fun y hy=>h y (by simp[hy])
   simp only[hp,hq,if_true,Bool.false_eq_true,if_false];omega
  ·have:=Jgf (l:=l) (fun y hy=>h y (by simp[hy])) ⟨x,hx,hp,hq⟩
   have h1:=h a (by simp)
   cases hqa:q a with
   |false=>simp only[Bool.false_eq_true,if_false];omega
   |true=>rw[h1 hqa];simp only[if_true];omega
section
variable {P:Program} {Γ:Gam} {ops:List Oper} {st:St} {N B:Nat} {w0:K8} {R:Nat→Prop} {recs:List Rec} {al0:Nat→Prop}
theorem Jns {an:Ll} {S:Nat→Bool} {i:Nat} (hr:Us P Γ an ops st recs) (hi:i<recs.length) (hcl:∀i j,S i=true→Jei an i j=true→S j=true) (hf:S i=false) (ha:∀j,Jei an i j=true→S j=true):
  ∃r o early,Do P Γ an ops st recs S i r o early:=by
 obtain⟨r,o,early,h1,h2,h3,h4,h5,h6,h7,h8⟩:=hr.at hi
 obtain⟨p1,p2,p3,p4,p5,p6,p7,p8⟩:=J6 h6
 exact⟨r,o,early,hr,h1,h2,h3,h4,h7,p2,p3,p4,p5,p6,by rw[p2];exact p7,by rw[p2];exact p8,hcl,hf,h8,ha⟩
theorem Jb1 [Dr] (hΓ:Ut P Γ) (hr:Us P Γ none ops st recs) (hlen:recs.length=ops.length) (hst:∀id x,look st.rs id=some x→id<st.nx) (hal0:∀id,al0 id→id<st.nx) (hN:∀o∈ops,∀t,o.dst=some t→t<N)
  (hpre:∀r∈recs,V1 recs r=true→Kf r.out.pre) {opsA:Array Oper} (hA:opsA.toList=ops) {rd:Option Nat} {Q:Exit→Act→World→Prop}
  (hK:∀a w ρ M S,(∀j,j<recs.length→S j=true)→Jl P N B w0 (alS recs al0 S) (Dq recs st S) (Jbn recs st S) a w ρ M R→Q .normal a w):
  ∀(m k:Nat) (S:Nat→Bool) (a:Act) (w:World) (ρ:Env) (M:Nat→Prop),k+m=recs.length→(∀j,S j=true↔j<k)→Jl P N B w0 (alS recs al0 S) (Dq recs st S) (Jbn recs st S) a w ρ M R→wpOpsIn (FR rd) 0 P opsA Q (List.range' k m) a w
 |0,k,S,a,w,ρ,M,hk,hS,C=>hK a w ρ M S (fun j hj=>(hS j).2 (by omega)) C
 |m+1,k,S,a,w,ρ,M,hk,hS,C=>by
  rw[List.range'_succ,wpOpsIn_cons]
  have hanc:∀i j,Jei none i j=true↔j<i:=fun i j=>by simp[Jei,Nat.blt_eq]
  obtain⟨r,o,early,H⟩:=Jns (S:=S) (i:=k) hr (by omega) (fun i j hi hj=>by rw[hS] at hi⊢;rw[hanc] at hj;omega) (by cases h:S k with|false=>rfl|true=>rw[hS] at h;omega) (fun j hj=>by rw[hS];rwa[hanc] at hj)
  refine H.step hΓ Jlp hst hal0 hN (hpre r H.mem) C hA (S':=fun j=>decide (j<k+1)) (fun j=> ?_) fun a' w' ρ' M' C'=>Jb1 hΓ hr hlen hst hal0 hN hpre hA hK m (k+1) _ a' w' ρ' M' (by omega) (fun j=>by simp) C'
  rw[hS]
  simp
  omega
theorem Joz [Dr] (hΓ:Ut P Γ) {ms:List Nat} (hms:ms=Dm ops []) (hback:Jgk ops 0=true) (hr:Us P Γ (some ms) ops st recs) (hU:J1e P Γ (some ms) ops st recs) (hlen:recs.length=ops.length) (hst:∀id x,look st.rs id=some x→id<st.nx) (hal0:∀id,al0 id→id<st.nx) (hN:∀o∈ops,∀t,o.dst=some t→t<N)
  (hpre:∀r∈recs,V1 recs r=true→Kf r.out.pre) {opsA:Array Oper} (hA:opsA.toList=ops) {rd:Option Nat} {Q:Exit→Act→World→Prop}
  (hK:∀a w ρ M S,(∀j,j<recs.length→S j=true)→Jl P N B w0 (alS recs al0 S) (Dq recs st S) (Jbn recs st S) a w ρ M R→Q .normal a w):
  ∀(fuel:Nat) (listed:Array Bool) (a:Act) (w:World) (ρ:Env) (M:Nat→Prop),listed.size=opsA.size→(List.range opsA.size).countP (fun j=> !listed.getD j false)≤fuel→
   (∀i j,listed.getD i false=true→Jei (some ms) i j=true→listed.getD j false=true)→Jl P N B w0 (alS recs al0 fun j=>listed.getD j false) (Dq recs st fun j=>listed.getD j false) (Jbn recs st fun j=>listed.getD j false) a w ρ M R→
   wpAnyIn (FR rd) 0 P .any opsA Q fuel listed a w:=by
 have hsz:opsA.size=ops.length:=by rw[←hA];simp
 have hop:∀i,opsA[i]? =ops[i]? :=fun i=>by rw[←Array.getElem?_toList,hA]
 have hanc:∀i o,ops[i]? =some o→∀j,Jei (some ms) i j=true→∃e∈o.after,Region.binds .any e=true∧e.on<i∧(j=e.on∨Jei (some ms) e.on j=true):=by
  intro i o ho j hj
  have:=Jj4 (acc:=[]) ho (by simpa using hback) j (by rw[hms] at hj;simpa[Jei] using hj)
  obtain⟨e,h1,h2,h3,h4⟩:=this
  exact⟨e,h1,h2,by simpa using h3,by rw[hms];exact h4⟩
 have hb:∀i o,ops[i]? =some o→∀e∈o.after,Region.binds .any e=true→e.on<i:=by
  have:∀(l:List Oper) (n:Nat),Jgk l n=true→∀i o,l[i]? =some o→∀e∈o.after,Region.binds .any e=true→e.on<n+i:=by
   intro l
   induction l with
   |nil=>intro n _ i o ho;simp at ho
   | cons x l ih =>
    intro n h i o ho e he hbd
    simp only[Jgk,Bool.and_eq_true,List.all_eq_true,Bool.or_eq_true,Bool.not_eq_true',Nat.blt_eq] at h
    cases i with
    |zero=>
     simp only[List.getElem?_cons_zero,Option.some.injEq] at ho
     subst ho
     have:=(h.1 e (by simpa using he)).resolve_left (by simp[hbd])
     omega
    |succ i=>
     have:=ih (n+1) h.2 i o (by simpa using ho) e he hbd
     omega
  intro i o ho e he hbd
  have:=this ops 0 hback i o ho e he hbd
  omega
 have hall:∀listed:Array Bool,listed.size=opsA.size→Region.ready .any opsA listed=[]→∀j,j<recs.length→listed.getD j false=true:=by
  intro listed hls hrd j
  induction j using Nat.strongRecOn with
  | _ j ih =>
   intro hj
   cases hl:listed.getD j false with
   |true=>rfl
   | false =>
    exfalso
    have hjl:j<listed.size:=by rw[hls,hsz];omega
    obtain⟨o,ho⟩:∃o,ops[j]? =some o:=⟨_,List.getElem?_eq_getElem (by omega)⟩
    have:j∈Region.ready .any opsA listed:=by
     rw[mem_ready]
     refine⟨by simpa[Array.getD_eq_getD_getElem?,hjl] using hl,o,by rw[hop];exact ho,fun e he hbd=> ?_⟩
     have:=hb j o ho e he hbd
     exact ih e.on this (by omega)
    rw[hrd] at this;simp at this
 intro fuel
 induction fuel with
 | zero =>
  intro listed a w ρ M hls hf hcl C
  have hdone:∀j,j<opsA.size→listed.getD j false=true:=by
   intro j hj
   have h0:(List.range opsA.size).countP (fun j=> !listed.getD j false)=0:=Nat.le_zero.1 hf
   have:=List.countP_eq_zero.1 h0 j (List.mem_range.2 hj)
   simpa using this
  have hrd:Region.ready .any opsA listed=[]:=by
   cases hrd:Region.ready .any opsA listed with
   |nil=>rfl
   |cons j l=>
    have hj:j∈Region.ready .any opsA listed:=by rw[hrd];simp
    obtain⟨h1,o,h2,_⟩:=mem_ready.1 hj
    have hlt:j<opsA.size:=(Array.getElem?_eq_some_iff.1 h2).1
    have h3:=hdone j hlt
    simp[Array.getD_eq_getD_getElem?,hls,hlt] at h1 h3
    rw[h1] at h3;cases h3
  exact⟨hrd,hK a w ρ M _ (fun j hj=>hdone j (by omega)) C⟩
 | succ fuel ih =>
  intro listed a w ρ M hls hf hcl C
  refine⟨fun hrd=>hK a w ρ M _ (hall listed hls hrd) C,fun i hi=> ?_⟩
  obtain⟨h1,o,h2,h3⟩:=mem_ready.1 hi
  have hlt:i<opsA.size:=(Array.getElem?_eq_some_iff.1 h2).1
  have hfr:listed.getD i false=false:=by simpa[Array.getD_eq_getD_getElem?,hls,hlt] using h1
  have hai:∀j,Jei (some ms) i j=true→listed.getD j false=true:=by
   intro j hj
   obtain⟨e,e1,e2,_,e4⟩:=hanc i o (by rw[←hop];exact h2) j hj
   have:=h3 e e1 e2
   rcases e4 with rfl|e4
   ·exact this
   ·exact hcl _ _ this e4
  obtain⟨r,o',early,H⟩:=Jns (S:=fun j=>listed.getD j false) (i:=i) hr (by omega) hcl hfr hai
  have hset:∀j,(listed.setIfInBounds i true).getD j false=true↔listed.getD j false=true∨j=i:=by
   intro j
   by_cases hji:j=i
   ·subst hji
    have:j<listed.size:=by omega
    simp[Array.getD_eq_getD_getElem?,this]
   ·rw[getD_set_ne false (Ne.symm hji)]
    simp[hji]
  refine H.step hΓ hU hst hal0 hN (hpre r H.mem) C hA (S':=fun j=>(listed.setIfInBounds i true).getD j false) hset fun a' w' ρ' M' C'=>ih _ a' w' ρ' M' (by simp[hls]) ?_ ?_ C'
  ·have:=Jgf (l:=List.range opsA.size) (p:=fun j=> !listed.getD j false) (q:=fun j=> !(listed.setIfInBounds i true).getD j false) (fun x _ hx=>by
    cases hl:listed.getD x false with
    |false=>rfl
    |true=>rw[(hset x).2 (.inl hl)] at hx;cases hx) ⟨i,List.mem_range.2 hlt,by simp[hfr],by rw[(hset i).2 (.inr rfl)];rfl⟩
   omega
  ·intro k j hk hj
   rw[hset] at hk⊢
   rcases hk with hk|rfl
   ·exact .inl (hcl k j hk hj)
   ·exact .inl (hai j hj)
end
end Go.Sx
namespace Go.Sx
open Go.RowKit
theorem Ku {α:Type} {t t':Nat}:∀{l:List (Nat×α)},look (l.filter fun p=>p.1 !=t') t=if t=t' then none else look l t
 |[]=>by simp[look]
 | (i, v) :: l => by
  by_cases h:i=t'
  ·subst h
   rw[List.filter_cons_of_neg (by simp),Ku]
   by_cases e:t=i
   ·simp[e]
   ·simp[e,look,Ne.symm e]
  ·rw[List.filter_cons_of_pos (by simpa using h)]
   simp only[look]
   by_cases e:i=t
   ·subst e;simp[h]
   ·rw[if_neg e,if_neg e,Ku]
theorem J8 {l:List (Nat×Res)} {u:Nat×Option Res} {id:Nat}:look (J5 l u) id=if id=u.1 then u.2 else look l id:=by
 unfold J5
 split
 ·rename_i x hx
  simp only[look]
  by_cases e:u.1=id
  ·rw[if_pos e,if_pos e.symm,hx]
  ·rw[if_neg e,if_neg (Ne.symm e),Ku,if_neg (Ne.symm e)]
 ·rename_i hx
  rw[Ku]
  by_cases e:id=u.1
  ·rw[if_pos e,if_pos e,hx]
  ·rw[if_neg e,if_neg e]
theorem Xr {l:List (Nat×Res)} {id:Nat}:∀{us:List (Nat×Option Res)},look (us.reverse.foldl J5 l) id=match look us id with|some x=>x|none=>look l id
 |[]=>rfl
 |(i,y)::us=>by
  rw[List.reverse_cons,List.foldl_append]
  simp only[List.foldl_cons,List.foldl_nil,J8,look]
  by_cases e:i=id
  ·rw[if_pos e.symm,if_pos e]
  ·rw[if_neg (Ne.symm e),if_neg e,Xr]
theorem Jci {id:Nat}:∀{us:List (Nat×Option Res)} {l:List (Nat×Res)} {x:Res},look (us.foldl (fun rs u=>J5 rs (u.1,none)) l) id=some x→look us id=none∧look l id=some x
 |[],l,x,h=>⟨rfl,h⟩
 | (i, y) :: us, l, x, h => by
  rw[List.foldl_cons] at h
  obtain⟨h1,h2⟩:=Jci h
  rw[J8] at h2
  split at h2
  ·cases h2
  ·rename_i e
   exact⟨by simp only[look];rw[if_neg (Ne.symm e)];exact h1,h2⟩
theorem L7 {l:List (Nat×Res)} {id:Nat}:∀{news:List Res} {n:Nat},look (Jm7 news n++l) id=if n≤id∧id<n+news.length then news[id-n]? else look l id
 |[],n=>by rw[if_neg (by simp only[List.length_nil];omega)];rfl
 | x :: r, n => by
  simp only[Jm7,List.cons_append,look]
  by_cases e:n=id
  ·subst e;simp
  ·rw[if_neg e,L7]
   by_cases h:n+1≤id∧id<n+1+r.length
   ·rw[if_pos h,if_pos (by simp only[List.length_cons];omega)]
    rw[show id-n=(id-(n+1))+1 by omega]
    simp
   ·rw[if_neg h,if_neg (by simp only[List.length_cons];omega)]
theorem Ja3 {sl:List (Nat×SV)} {t:Nat} {v:SV}:∀{recs:List Rec},look (Ja4 recs sl) t=some v→match Za recs t with|some r=>r.gc=[]∧v=r.out.val|none=>look sl t=some v
 |[],h=>h
 | r :: l, h => by
  simp only[Ja4] at h
  simp only[Za]
  split at h
  ·rename_i t' ht'
   by_cases e:t'=t
   ·subst e
    rw[if_pos ht']
    split at h
    ·rename_i hg
     simp only[look,if_true] at h
     exact⟨by simpa using hg,(Option.some.inj h).symm⟩
    ·rw[Ku,if_pos rfl] at h;cases h
   ·have hne:¬r.dst=some t:=by rw[ht'];simpa using e
    rw[if_neg hne]
    have:look (Ja4 l sl) t=some v:=by
     split at h
     ·simp only[look] at h
      rw[if_neg e,Ku,if_neg (Ne.symm e)] at h
      exact h
     ·rw[Ku,if_neg (Ne.symm e)] at h
      exact h
    exact Ja3 this
  ·rename_i ht'
   have hne:¬r.dst=some t:=by rw[ht'];simp
   rw[if_neg hne]
   exact Ja3 h
section
variable {P:Program} {Γ:Gam} {an:Ll} {ops:List Oper} {st:St} {N B:Nat} {w0:K8} {R:Nat→Prop} {recs:List Rec}
theorem Ja5 {rs:List (Nat×Res)} (hst:∀id x,look rs id=some x→id<st.nx) {id:Nat} {x:Res}:∀{recs:List Rec},Us P Γ an ops st recs→look (Jjb recs rs) id=some x→match Jb9 recs id with|some (r,y)=>r.gc=[]∧y=some x|none=>look rs id=some x
 |[],_,h=>h
 | r :: l, hr, h => by
  obtain⟨hl,o,_,hs⟩:=hr
  have hbase:=(J6 hs).2.1
  simp only[Jjb] at h
  simp only[Jb9]
  split at h
  ·rename_i hg
   have hg':r.gc=[]:=by simpa using hg
   rw[L7,Xr] at h
   unfold Vf
   by_cases hc:r.base≤id∧id<r.base+r.out.news.length
   ·rw[if_pos hc] at h⊢
    exact⟨hg',h⟩
   ·rw[if_neg hc] at h⊢
    cases hu:look r.out.upd id with
    |some y=>rw[hu] at h;exact⟨hg',h⟩
    |none=>
     rw[hu] at h
     exact Ja5 hst hl h
  ·obtain⟨h1,h2⟩:=Jci h
   have ih:=Ja5 hst hl h2
   have hlt:id<Fv st.nx l:=by
    cases hj:Jb9 l id with
    |none=>
     rw[hj] at ih
     have:=hst id x ih
     have:=hl.nx.1
     omega
    | some p =>
     obtain⟨s,y⟩:=p
     obtain⟨q1,q2,_⟩:=Xm hl.desc hj
     have:=(hl.nx.2 s q1).2
     rcases Vy (r:=s) (id:=id) (by rw[q2];rfl) with hc|⟨_,z,hz⟩
     ·omega
     ·obtain⟨r',o',e',w1,w2,w3,w4,w5,w6,w7⟩:=hl.at (hl.ix s q1)
      have e:=K1 hl.desc w1 q1 w2
      subst e
      have:=(J6 w6).2.2.2.2.2.2.1 _ hz
      have:=(J6 w6).2.1
      simp only at*
      omega
   have:Vf r id=none:=by
    unfold Vf
    rw[if_neg (by omega)]
    exact h1
   rw[this]
   exact ih
def K7 [Dr] (P:Program) (N B:Nat) (w0:K8) (R:Nat→Prop) (st:St) (a:Act) (w:World):Prop:=
 ∃ρ M al,(∀id,al id→id<st.nx)∧Jl P N B w0 al (look st.sl) (look st.rs) a w ρ M R
theorem Jfc {S:Nat→Bool} (hr:Us P Γ an ops st recs) (hS:∀j,j<recs.length→S j=true):Zb recs S=recs:=
 List.filter_eq_self.2 fun r h=>hS _ (hr.ix r h)
theorem Jca [Dr] (hr:Us P Γ an ops st recs) {al0:Nat→Prop} (hal0:∀id,al0 id→id<st.nx) (hst:∀id x,look st.rs id=some x→id<st.nx) {a:Act} {w:World} {ρ:Env} {M:Nat→Prop} {S:Nat→Bool} (hS:∀j,j<recs.length→S j=true)
  (C:Jl P N B w0 (alS recs al0 S) (Dq recs st S) (Jbn recs st S) a w ρ M R):K7 P N B w0 R (Dt recs st).2 a w:=by
 refine⟨ρ,M,alS recs al0 S,fun id h=> ?_,C.weaken (fun t v h=> ?_) (fun id x h=> ?_) fun _=>Iff.rfl⟩
 ·rcases h with h|⟨s,h1,_,_,h4⟩
  ·exact Nat.lt_of_lt_of_le (hal0 id h) hr.nx.1
  ·exact Nat.lt_of_lt_of_le h4.2 (hr.nx.2 s h1).2
 ·have:=Ja3 h
  unfold Dq
  rw[Jfc hr hS]
  cases hj:Za recs t with
  |none=>rw[hj] at this;exact this
  |some r=>
   rw[hj] at this
   obtain⟨h1,h2⟩:=this
   have:V1 recs r=true:=by unfold V1;rw[h1];rfl
   simp only[this,if_true,h2]
 ·have:=Ja5 hst hr h
  unfold Jbn
  rw[Jfc hr hS]
  cases hj:Jb9 recs id with
  |none=>rw[hj] at this;exact this
  |some p=>
   obtain⟨r,y⟩:=p
   rw[hj] at this
   obtain⟨h1,h2⟩:=this
   have:V1 recs r=true:=by unfold V1;rw[h1];rfl
   simp only[this,if_true,h2]
theorem Jl.start [Dr] {al0:Nat→Prop} {a:Act} {w:World} {ρ:Env} {M:Nat→Prop} (C:Jl P N B w0 al0 (look st.sl) (look st.rs) a w ρ M R) {S:Nat→Bool} (hS:∀j,S j=false):
  Jl P N B w0 (alS recs al0 S) (Dq recs st S) (Jbn recs st S) a w ρ M R:=by
 have e:Zb recs S=[]:=List.filter_eq_nil_iff.2 fun r _=>by simp[hS]
 refine C.weaken (fun t v h=> ?_) (fun id x h=> ?_) fun id=> ?_
 ·unfold Dq at h;rw[e] at h;exact h
 ·unfold Jbn at h;rw[e] at h;exact h
 ·unfold alS
  simp[hS]
theorem Jnx [Dr] {a:Act} {w:World} (h:K7 P N B w0 R st a w):K7 P N B w0 R (Jrc recs st) a w:=by
 obtain⟨ρ,M,al,hal,C⟩:=h
 unfold Jrc
 generalize(recs.flatMap fun r=>r.out.upd.filterMap fun u=>match u.2 with|some (.imm _ _ _)=>some (SC.sl u.1)|some (.fbox _ _)=>some (SC.ptr u.1 0)|_=>none)=cs
 have C':=C.freezeX 0 (upd:=Sx.freezeB (look st.rs) cs) fun i y hy=>Vp (Jr hy)
 refine⟨ρ,_,al,hal,C'.weaken (fun _ _ h=>h) (fun id x hx=> ?_) fun _=>Iff.rfl⟩
 rw[Xr] at hx
 unfold Ki
 rw[if_neg (by simp only[List.length_nil];omega)]
 exact hx
theorem Ua [Dr] {ts:List Nat} {a:Act} {w:World} (h:K7 P N B w0 R st a w):K7 P N B w0 R (Jbv ts st) a w:=by
 unfold Jbv
 split
 ·exact h
 obtain⟨ρ,M,al,hal,C⟩:=h
 generalize(ts.flatMap fun t=>match look st.sl t with|some (.v _ cs)=>cs|_=>[])=cs
 have C':=C.freeze 0 (upd:=Sx.freeze (look st.rs) cs) fun i y hy=>Un (Jr hy)
 refine⟨ρ,_,al,hal,C'.weaken (fun _ _ h=>h) (fun id x hx=> ?_) fun _=>Iff.rfl⟩
 rw[Xr] at hx
 unfold Ki
 rw[if_neg (by simp only[List.length_nil];omega)]
 exact hx
theorem Zq {ps:List Prop} {q:Prop}:Lo ps q↔Kf ps∧q:=by
 unfold Lo
 split
 ·simp[Kf]
 ·rfl
theorem Jmw [Dr] (hm:P.follows .mixedOrders=true) (hΓ:Ut P Γ) {dr:Bool} {ps:List Prop} {st':St} (h:J1k P Γ ops dr st=some (ps,st')) (hp:Kf ps) {a:Act} {w:World} (hs:K7 P N B w0 R st a w) (hN:∀o∈ops,∀t,o.dst=some t→t<N)
  {opsA:Array Oper} (hA:opsA.toList=ops) {rd:Option Nat} {Q:Exit→Act→World→Prop} (hK:∀a' w',K7 P N B w0 R st' a' w'→Q .normal a' w') (id:Nat):(Code.region id opsA dr).wpIn (FR rd) 0 P Q a w:=by
 have hsz:opsA.size=ops.length:=by rw[←hA];simp
 unfold J1k at h
 cases dr with
 | false =>
  simp only at h
  split at h
  ·cases h
  ·rename_i recs hr
   cases h
   obtain⟨h1,h2⟩:=Jg3 ops (recs:=[]) (n:=0) trivial rfl rfl rfl hr
   obtain⟨ρ,M,al,hal,C⟩:=hs
   have hst:∀id x,look st.rs id=some x→id<st.nx:=fun id x h=>hal id (C.resIds id x h).1
   refine wpIn_region ?_
   rw[List.range_eq_range']
   refine Jb1 hΓ h1 (by omega) hst hal hN (fun r hr hl=>Jha hp r hr hl) hA (fun a w ρ M S hS C=>hK a w (Jca h1 hal hst hS C)) opsA.size 0 (fun _=>false) a w ρ M (by omega) (fun j=>by simp) (C.start fun _=>rfl)
 | true =>
  simp only at h
  split at h
  ·rename_i hb
   have key:∀(st0:St) (recs:List Rec),st0.nx=st.nx→Jsp P Γ (some (Dm ops [])) ops st0 ops st0.nx 0 []=some recs→(∃qs,Jw0 P Γ (some (Dm ops [])) ops st0 recs recs=some qs∧Kf qs)→Kf (Dt recs st0).1→K7 P N B w0 R st0 a w→(∀a' w',K7 P N B w0 R (Dt recs st0).2 a' w'→Q .normal a' w')→(Code.region id opsA true).wpIn (FR rd) 0 P Q a w:=by
    intro st0 recs _ hr hu hp hs hK
    obtain⟨qs,hu,hq⟩:=hu
    obtain⟨h1,h2⟩:=Jg3 ops (recs:=[]) (n:=0) trivial rfl rfl rfl hr
    obtain⟨ρ,M,al,hal,C⟩:=hs
    have hst:∀id x,look st0.rs id=some x→id<st0.nx:=fun id x h=>hal id (C.resIds id x h).1
    refine wpIn_region_any hm ?_
    have C':=C.world (w':={w with drawn:=w.drawn+1}) rfl ⟨rfl,rfl,rfl,Nat.le_refl _,fun _ _=>rfl,fun _=>Nat.le_succ _⟩
    have rep:∀j,(Array.replicate opsA.size false).getD j false=false:=by
     intro j
     by_cases hj:j<opsA.size<;>simp[hj]
    refine Joz hΓ rfl hb h1 (fun r hr fr s early e=>Jlq hu hq r hr fr s early e) (by omega) hst hal hN (fun r hr hl=>Jha hp r hr hl) hA (fun a w ρ M S hS C=>hK a w (Jca h1 hal hst hS C)) opsA.size (Array.replicate opsA.size false) a _ ρ M (by simp) ?_ ?_ (C'.start ?_)
    ·exact Nat.le_trans List.countP_le_length (by simp)
    ·intro i j hi
     rw[rep] at hi;cases hi
    ·intro j
     exact rep j
   split at h
   ·cases h
   ·rename_i recs hr
    split at h
    ·rename_i qs hu
     cases h
     obtain⟨p1,p2⟩:=Jp.1 hp
     unfold Kfj at hu
     split at hu
     ·cases hu
     ·exact key st recs rfl hr ⟨qs,hu,p1⟩ p2 hs hK
    ·split at h
     ·cases h
     ·rename_i recs' hr'
      split at h
      ·rename_i qs hu
       cases h
       obtain⟨p1,p2⟩:=Jp.1 hp
       exact key (Jrc recs st) recs' rfl hr' ⟨qs,hu,p1⟩ p2 (Jnx hs) hK
      ·cases h
  ·cases h
end
end Go.Sx
namespace Go.Sx
open Go.RowKit
def Jlg (ρ ρ':Env) (rn:Rn):Prop:=∀j y,look rn j=some y→ρ' j=match y with|some i=>ρ i|none=> .slice none 0 0
def Jcy (rn rn':Rn):Prop:=∀j y,look rn j=some y→look rn' j=some y
def Fe (al:Nat→Prop) (rn:Rn):Prop:=∀j i,look rn j=some (some i)→al i
def Dn (rn:Rn) (ids:List Nat):Prop:=∀id∈ids,(look rn id).isSome=true
theorem Jcy.refl (rn:Rn):Jcy rn rn:=fun _ _ h=>h
theorem Jcy.trans {a b c:Rn} (h:Jcy a b) (h':Jcy b c):Jcy a c:=fun j y hy=>h' j y (h j y hy)
theorem Jcy.key {a b:Rn} (h:Jcy a b) {ids:List Nat} (hk:Dn a ids):Dn b ids:=fun id hid=>by
 obtain⟨y,hy⟩:=Option.isSome_iff_exists.1 (hk id hid)
 rw[h id y hy];rfl
theorem Jlg.le {ρ ρ':Env} {a b:Rn} (h:Jcy a b) (hf:Jlg ρ ρ' b):Jlg ρ ρ' a:=fun j y hy=>hf j y (h j y hy)
theorem Jg5 {rn:Rn} {j:Nat} {y:Option Nat} (h:look rn j=none):Jcy rn ((j,y)::rn):=fun k z hz=>by
 simp only[look]
 by_cases e:j=k
 ·subst e;rw[h] at hz;cases hz
 ·rw[if_neg e];exact hz
theorem Jh3 {al:Nat→Prop} {rn:Rn} {j:Nat} {y:Option Nat} (h:Fe al rn) (hy:∀i,y=some i→al i):Fe al ((j,y)::rn):=fun k i hk=>by
 simp only[look] at hk
 split at hk
 ·exact hy i (Option.some.inj hk)
 ·exact h k i hk
section
variable {ρ:Env} {al:Nat→Prop}
theorem L8 {rn rn':Rn} {i j:Nat} {ps:List Prop} (h:Jsx.leId rn i j=some (rn',ps)):
  Jcy rn rn'∧(Fe al rn→al i→Fe al rn')∧look rn' j=some (some i):=by
 unfold Jsx.leId at h
 split at h
 ·rename_i i' hi
  split at h
  ·rename_i e;subst e;cases h
   exact⟨.refl _,fun h _=>h,hi⟩
  ·cases h
 ·cases h
 ·rename_i hn
  cases h
  exact⟨Jg5 hn,fun h hi=>Jh3 h fun k e=>by cases e;exact hi,by simp[look]⟩
theorem Ju5 {rn rn':Rn} {c c':SC} {ps:List Prop} (h:Jsx rn c c'=some (rn',ps)):
  Jcy rn rn'∧(Fe al rn→(∀id∈c.ids,al id)→Fe al rn')∧Dn rn' c'.ids∧∀ρ',Kf ps→Jlg ρ ρ' rn'→c'.den ρ'=c.den ρ:=by
 have nok:∀c:SC,c.ids=[]→Dn rn c.ids:=fun c e id hid=>by rw[e] at hid;simp at hid
 have idc:∀{i j:Nat} {c:SC} {ps},c.ids=[j]→Jsx.leId rn i j=some (rn',ps)→Dn rn' c.ids:=fun e h id hid=>by
  rw[e] at hid
  simp only[List.mem_singleton] at hid
  subst hid
  rw[(L8 (al:=al) h).2.2];rfl
 unfold Jsx at h
 split at h
 ·split at h
  ·rename_i e;subst e;cases h
   exact⟨.refl _,fun h _=>h,nok _ rfl,fun ρ' hp _=>by have hp:_=_:=hp;subst hp;rfl⟩
  ·cases h
 ·cases h;exact⟨.refl _,fun h _=>h,nok _ rfl,fun ρ' hp _=>by have hp:_=_:=hp;subst hp;rfl⟩
 ·cases h;exact⟨.refl _,fun h _=>h,nok _ rfl,fun ρ' hp _=>by have hp:_=_:=hp;subst hp;rfl⟩
 ·split at h
  ·rename_i e;subst e;cases h
   exact⟨.refl _,fun h _=>h,nok _ rfl,fun ρ' hp _=>by have hp:_=_:=hp;subst hp;rfl⟩
  ·cases h
 ·split at h
  ·rename_i i o j p e
   subst e
   obtain⟨h1,h2,h3⟩:=L8 (al:=al) h
   exact⟨h1,fun a b=>h2 a (b _ (by simp[SC.ids])),idc rfl h,fun ρ' _ hf=>by have e:=hf _ _ h3;simp only[SC.den];rw[e]⟩
  ·cases h
 ·rename_i i j
  obtain⟨h1,h2,h3⟩:=L8 (al:=al) h
  exact⟨h1,fun a b=>h2 a (b _ (by simp[SC.ids])),idc rfl h,fun ρ' _ hf=>hf _ _ h3⟩
 ·rename_i i j
  obtain⟨h1,h2,h3⟩:=L8 (al:=al) h
  exact⟨h1,fun a b=>h2 a (b _ (by simp[SC.ids])),idc rfl h,fun ρ' _ hf=>hf _ _ h3⟩
 ·split at h
  ·rename_i e;subst e;cases h
   exact⟨.refl _,fun h _=>h,nok _ rfl,fun _ _ _=>rfl⟩
  ·cases h
 ·cases h;exact⟨.refl _,fun h _=>h,nok _ rfl,fun ρ' hp _=>by have hp:_=_:=hp;subst hp;rfl⟩
 ·rename_i j
  split at h
  ·rename_i hn
   cases h
   refine⟨.refl _,fun h _=>h,fun id hid=> ?_,fun ρ' _ hf=>hf _ _ hn⟩
   simp only[SC.ids,List.mem_singleton] at hid
   subst hid;rw[hn];rfl
  ·cases h
  ·rename_i hn
   cases h
   refine⟨Jg5 hn,fun h _=>Jh3 h fun k e=>(by cases e),fun id hid=> ?_,fun ρ' _ hf=>hf j none (by simp[look])⟩
   simp only[SC.ids,List.mem_singleton] at hid
   subst hid;simp[look]
 ·cases h;exact⟨.refl _,fun h _=>h,nok _ rfl,fun ρ' hp _=>by have hp:_=_:=hp;subst hp;rfl⟩
 ·cases h
theorem Jiv:∀{cs cs':List SC} {rn rn':Rn} {ps:List Prop},leL rn cs cs'=some (rn',ps)→
  Jcy rn rn'∧(Fe al rn→(∀id∈J1 cs,al id)→Fe al rn')∧Dn rn' (J1 cs')∧∀ρ',Kf ps→Jlg ρ ρ' rn'→cs'.map (SC.den ρ')=cs.map (SC.den ρ)
 |[],[],rn,rn',ps,h=>by
  cases h
  exact⟨.refl _,fun h _=>h,fun id hid=>by simp[J1] at hid,fun _ _ _=>rfl⟩
 |[],_::_,_,_,_,h=>by simp[leL] at h
 |_::_,[],_,_,_,h=>by simp[leL] at h
 | c :: cs, c' :: cs', rn, rn', ps, h => by
  simp only[leL] at h
  split at h
  ·rename_i rn1 p1 h1
   split at h
   ·rename_i rn2 p2 h2
    cases h
    obtain⟨a1,a2,a3,a4⟩:=Ju5 (ρ:=ρ) (al:=al) h1
    obtain⟨b1,b2,b3,b4⟩:=Jiv h2
    refine⟨a1.trans b1,fun h hi=>b2 (a2 h fun id hid=>hi id (List.mem_append_left _ hid)) fun id hid=>hi id (List.mem_append_right _ hid),fun id hid=> ?_,fun ρ' hp hf=> ?_⟩
    ·rcases List.mem_append.1 hid with hid|hid
     ·exact b1.key a3 id hid
     ·exact b3 id hid
    ·rw[Jp] at hp
     simp only[List.map_cons,a4 ρ' hp.1 (hf.le b1),b4 ρ' hp.2 hf]
   ·cases h
  ·cases h
theorem Jhk {rn rn':Rn} {v v':SV} {ps:List Prop} (h:Jyi rn v v'=some (rn',ps)):
  Jcy rn rn'∧(Fe al rn→(∀id∈v.ids,al id)→Fe al rn')∧Dn rn' v'.ids∧∀ρ',Kf ps→Jlg ρ ρ' rn'→v'.den ρ'=v.den ρ:=by
 unfold Jyi at h
 split at h
 ·split at h
  ·rename_i e;subst e
   obtain⟨h1,h2,h3,h4⟩:=Jiv (ρ:=ρ) (al:=al) h
   exact⟨h1,h2,h3,fun ρ' hp hf=>by simp only[SV.den];rw[h4 ρ' hp hf]⟩
  ·cases h
 ·cases h
theorem Jdx:∀{vs vs':List SV} {rn rn':Rn} {ps:List Prop},Jnf rn vs vs'=some (rn',ps)→
  Jcy rn rn'∧(Fe al rn→(∀id∈vs.flatMap SV.ids,al id)→Fe al rn')∧Dn rn' (vs'.flatMap SV.ids)∧∀ρ',Kf ps→Jlg ρ ρ' rn'→vs'.map (SV.den ρ')=vs.map (SV.den ρ)
 |[],[],rn,rn',ps,h=>by
  cases h
  exact⟨.refl _,fun h _=>h,fun id hid=>by simp at hid,fun _ _ _=>rfl⟩
 | v :: r, v' :: r', rn, rn', ps, h => by
  simp only[Jnf] at h
  split at h
  ·rename_i rn1 p h1
   split at h
   ·rename_i rn2 q h2
    cases h
    obtain⟨a1,a2,a3,a4⟩:=Jhk (ρ:=ρ) (al:=al) h1
    obtain⟨b1,b2,b3,b4⟩:=Jdx h2
    refine⟨a1.trans b1,fun ha hi=>b2 (a2 ha fun id hid=>hi id (by rw[List.flatMap_cons];exact List.mem_append_left _ hid)) fun id hid=>hi id (by rw[List.flatMap_cons];exact List.mem_append_right _ hid),fun id hid=> ?_,fun ρ' hp hf=> ?_⟩
    ·rw[List.flatMap_cons] at hid
     rcases List.mem_append.1 hid with hid|hid
     ·exact b1.key a3 id hid
     ·exact b3 id hid
    ·obtain⟨hp1,hp2⟩:=Jp.1 hp
     rw[List.map_cons,List.map_cons,a4 ρ' hp1 (hf.le b1),b4 ρ' hp2 hf]
   ·cases h
  ·cases h
 |[],_::_,_,_,_,h=>by cases h
 |_::_,[],_,_,_,h=>by cases h
theorem Jne {s:St} (hs:∀t v,look s.sl t=some v→∀id∈v.ids,al id):∀{l:List (Nat×SV)} {rn rn':Rn} {ps:List Prop},J1m s rn l=some (rn',ps)→
  Jcy rn rn'∧(Fe al rn→Fe al rn')∧∀t v',(t,v')∈l→∃v,look s.sl t=some v∧Dn rn' v'.ids∧∀ρ',Kf ps→Jlg ρ ρ' rn'→v'.den ρ'=v.den ρ
 |[],rn,rn',ps,h=>by cases h;exact⟨.refl _,fun h=>h,fun t v' h=>by simp at h⟩
 | (t, v') :: l, rn, rn', ps, h => by
  simp only[J1m] at h
  split at h
  ·rename_i v hv
   split at h
   ·rename_i rn1 p1 h1
    split at h
    ·rename_i rn2 p2 h2
     cases h
     obtain⟨a1,a2,a3,a4⟩:=Jhk (ρ:=ρ) (al:=al) h1
     obtain⟨b1,b2,b3⟩:=Jne hs h2
     refine⟨a1.trans b1,fun h=>b2 (a2 h (hs t v hv)),fun t' u hu=> ?_⟩
     rcases List.mem_cons.1 hu with e|hu
     ·cases e
      exact⟨v,hv,b1.key a3,fun ρ' hp hf=>a4 ρ' (Jp.1 hp).1 (hf.le b1)⟩
     ·obtain⟨v,c1,c2,c3⟩:=b3 t' u hu
      exact⟨v,c1,c2,fun ρ' hp hf=>c3 ρ' (Jp.1 hp).2 hf⟩
    ·cases h
   ·cases h
  ·cases h
theorem Jiu {l:List (Nat×SV)}:∀{l':List (Nat×SV)} {rn rn':Rn} {ps:List Prop},Jq3 l rn l'=some (rn',ps)→
  Jcy rn rn'∧(Fe al rn→(∀id∈l.flatMap (fun p=>p.2.ids),al id)→Fe al rn')∧Dn rn' (l'.flatMap fun p=>p.2.ids)∧∀ρ',Kf ps→Jlg ρ ρ' rn'→∀p∈l',∃v,(p.1,v)∈l∧p.2.den ρ'=v.den ρ
 |[],rn,rn',ps,h=>by cases h;exact⟨.refl _,fun h _=>h,fun id h=>by simp at h,fun _ _ _ p hp=>by simp at hp⟩
 | (t, v') :: l', rn, rn', ps, h => by
  simp only[Jq3] at h
  split at h
  ·rename_i v hv
   split at h
   ·rename_i rn1 p1 h1
    split at h
    ·rename_i rn2 p2 h2
     cases h
     obtain⟨a1,a2,a3,a4⟩:=Jhk (ρ:=ρ) (al:=al) h1
     obtain⟨b1,b2,b3,b4⟩:=Jiu h2
     have hm:=Jr hv
     refine⟨a1.trans b1,fun h hi=>b2 (a2 h fun id hid=>hi id (List.mem_flatMap.2 ⟨_,hm,hid⟩)) hi,fun id hid=> ?_,fun ρ' hp hf q hq=> ?_⟩
     ·simp only[List.flatMap_cons] at hid
      rcases List.mem_append.1 hid with hid|hid
      ·exact b1.key a3 id hid
      ·exact b3 id hid
     ·rw[Jp] at hp
      rcases List.mem_cons.1 hq with rfl|hq
      ·exact⟨v,hm,a4 ρ' hp.1 (hf.le b1)⟩
      ·exact b4 ρ' hp.2 hf q hq
    ·cases h
   ·cases h
  ·cases h
def Juc (ρ ρ':Env) (x x':Res):Prop:=match x with
 | .box T cs=>∃cs',x'= .box T cs'∧cs'.map (SC.den ρ')=cs.map (SC.den ρ)
 | .clo f first caps=>∃first' caps',x'= .clo f first' caps'∧first'.map (SV.den ρ')=first.map (SV.den ρ)∧caps'.map (SV.den ρ')=caps.map (SV.den ρ)
 | .fbox T cs=>∃cs',x'= .fbox T cs'∧cs'.map (SC.den ρ')=cs.map (SC.den ρ)
 | .mpi j kT gk gv ks vs l seen=>∃j',x'= .mpi j' kT gk gv ks vs l seen∧ρ' j'=ρ j
 | .iter j ks seen=>∃j',x'= .iter j' ks seen∧ρ' j'=ρ j
 | .ifb T v=>∃v',x'= .ifb T v'∧v'.den ρ'=v.den ρ
 | .sus l=>∃l',x'= .sus l'∧∀p∈l',∃v,(p.1,v)∈l∧p.2.den ρ'=v.den ρ
 | .own T s xs=>x'= .own T s xs∨x'= .ownT T s xs
 |x=>x=x'
theorem Jq4 {rn rn':Rn} {x x':Res} {ps:List Prop} (h:Jq5 rn x x'=some (rn',ps)):
  Jcy rn rn'∧(Fe al rn→(∀id∈x.ids,al id)→Fe al rn')∧Dn rn' x'.ids∧x'.owning=x.owning∧∀ρ',Kf ps→Jlg ρ ρ' rn'→Juc ρ ρ' x x':=by
 have none_:Dn rn ([]:List Nat):=fun id hid=>by simp at hid
 unfold Jq5 at h
 split at h
 ·split at h
  ·rename_i e;subst e
   obtain⟨h1,h2,h3,h4⟩:=Jiv (ρ:=ρ) (al:=al) h
   exact⟨h1,h2,h3,rfl,fun ρ' hp hf=>⟨_,rfl,h4 ρ' hp hf⟩⟩
  ·cases h
 ·split at h
  ·rename_i e
   subst e
   split at h
   ·rename_i e;subst e;cases h
    exact⟨.refl _,fun h _=>h,none_,rfl,fun ρ' hp _=>by have hp:_=_:=hp;rw[←hp];rfl⟩
   ·cases h
  ·cases h
 ·split at h
  ·rename_i e
   subst e
   split at h
   ·rename_i e;subst e;cases h
    exact⟨.refl _,fun h _=>h,none_,rfl,fun ρ' hp _=>by have hp:_=_:=hp;exact .inl (by rw[←hp];rfl)⟩
   ·cases h
  ·cases h
 ·split at h
  ·rename_i e
   subst e
   split at h
   ·rename_i e;subst e;cases h
    exact⟨.refl _,fun h _=>h,none_,rfl,fun ρ' hp _=>by have hp:_=_:=hp;rw[←hp];rfl⟩
   ·cases h
  ·cases h
 ·split at h
  ·rename_i e
   obtain⟨e1,e2⟩:=e
   subst e1;subst e2
   cases h
   refine⟨.refl _,fun h _=>h,none_,rfl,fun ρ' hp _=> ?_⟩
   obtain⟨h1,h2⟩:=hp
   subst h1;subst h2
   rfl
  ·cases h
 ·cases h
  exact⟨.refl _,fun h _=>h,none_,rfl,fun ρ' hp _=>by have hp:_=_:=hp;rw[←hp];rfl⟩
 ·cases h
  exact⟨.refl _,fun h _=>h,none_,rfl,fun ρ' hp _=>by have hp:_=_:=hp;rw[←hp];rfl⟩
 ·cases h
  refine⟨.refl _,fun h _=>h,none_,rfl,fun ρ' hp _=> ?_⟩
  obtain⟨h1,h2⟩:=hp
  subst h1;subst h2
  rfl
 ·split at h
  ·rename_i e
   subst e
   split at h
   ·rename_i e;subst e;cases h
    exact⟨.refl _,fun h _=>h,none_,rfl,fun ρ' hp _=>by have hp:_=_:=hp;exact .inr (by rw[←hp];rfl)⟩
   ·cases h
  ·cases h
 ·split at h
  ·rename_i e
   subst e
   split at h
   ·rename_i e;subst e;cases h
    exact⟨.refl _,fun h _=>h,none_,rfl,fun ρ' hp _=>by have hp:_=_:=hp;rw[←hp];rfl⟩
   ·cases h
  ·cases h
 ·split at h
  ·rename_i e;subst e
   obtain⟨h1,h2,h3,h4⟩:=Jiv (ρ:=ρ) (al:=al) h
   exact⟨h1,h2,h3,rfl,fun ρ' hp hf=>⟨_,rfl,h4 ρ' hp hf⟩⟩
  ·cases h
 ·split at h
  ·rename_i e
   obtain⟨⟨e1,e2⟩,e3,e4,e5⟩:=e
   subst e1;subst e2;subst e3;subst e4;subst e5
   cases h
   exact⟨.refl _,fun h _=>h,none_,rfl,fun ρ' hp _=>by have hp:_=_:=hp;rw[←hp];rfl⟩
  ·cases h
 ·split at h
  ·rename_i e
   obtain⟨⟨e1,e2⟩,e3,e4,e5⟩:=e
   subst e1;subst e2;subst e3;subst e4;subst e5
   split at h
   ·rename_i rn1 p hid
    cases h
    obtain⟨h1,h2,h3⟩:=L8 (al:=al) hid
    refine⟨h1,fun hr hi=>h2 hr (hi _ (by simp[Res.ids])),fun id hid'=> ?_,rfl,fun ρ' hp hf=> ?_⟩
    ·simp only[Res.ids,List.mem_singleton] at hid'
     subst hid'
     rw[h3];rfl
    ·obtain⟨hp1,hp2⟩:=Jp.1 hp
     obtain⟨q1,q2⟩:=hp2
     have q1:_=_:=q1
     subst q1;subst q2
     exact⟨_,rfl,hf _ _ h3⟩
   ·cases h
  ·cases h
 ·split at h
  ·rename_i rn1 p hid
   cases h
   obtain⟨h1,h2,h3⟩:=L8 (al:=al) hid
   refine⟨h1,fun hr hi=>h2 hr (hi _ (by simp[Res.ids])),fun id hid'=> ?_,rfl,fun ρ' hp hf=> ?_⟩
   ·simp only[Res.ids,List.mem_singleton] at hid'
    subst hid'
    rw[h3];rfl
   ·obtain⟨hp1,hp2⟩:=Jp.1 hp
    obtain⟨q1,q2⟩:=hp2
    subst q1;subst q2
    exact⟨_,rfl,hf _ _ h3⟩
  ·cases h
 ·split at h
  ·rename_i e
   subst e
   split at h
   ·rename_i rn1 p h1
    split at h
    ·rename_i rn2 q h2
     cases h
     obtain⟨a1,a2,a3,a4⟩:=Jdx (ρ:=ρ) (al:=al) h1
     obtain⟨b1,b2,b3,b4⟩:=Jdx (ρ:=ρ) (al:=al) h2
     refine⟨a1.trans b1,fun ha hi=>b2 (a2 ha fun id hid=>hi id (List.mem_append_left _ hid)) fun id hid=>hi id (List.mem_append_right _ hid),fun id hid=> ?_,rfl,fun ρ' hp hf=> ?_⟩
     ·rcases List.mem_append.1 hid with hid|hid
      ·exact b1.key a3 id hid
      ·exact b3 id hid
     ·obtain⟨hp1,hp2⟩:=Jp.1 hp
      exact⟨_,_,rfl,a4 ρ' hp1 (hf.le b1),b4 ρ' hp2 hf⟩
    ·cases h
   ·cases h
  ·cases h
 ·obtain⟨h1,h2,h3,h4⟩:=Jiu (ρ:=ρ) (al:=al) h
  exact⟨h1,h2,h3,rfl,fun ρ' hp hf=>⟨_,rfl,h4 ρ' hp hf⟩⟩
 ·split at h
  ·rename_i e;subst e;cases h
   exact⟨.refl _,fun h _=>h,none_,rfl,fun _ _ _=>rfl⟩
  ·cases h
 ·cases h
theorem Jhl {s:St} (hs:∀i x,look s.rs i=some x→al i∧∀id∈x.ids,al id):∀{l:List (Nat×Res)} {rn rn':Rn} {ps:List Prop},Jw6 s rn l=some (rn',ps)→
  Jcy rn rn'∧(Fe al rn→Fe al rn')∧∀j x',(j,x')∈l→
   (∃i x,look rn' j=some (some i)∧look s.rs i=some x∧Dn rn' x'.ids∧x'.owning=x.owning∧(∀ρ',Kf ps→Jlg ρ ρ' rn'→Juc ρ ρ' x x')∧(x'.spec=true→i=j))∨
   (look rn' j=some none∧x'.ids=[]∧∃qs,Jng x'=some qs∧(Kf ps→Kf qs))
 |[],rn,rn',ps,h=>by cases h;exact⟨.refl _,fun h=>h,fun t v' h=>by simp at h⟩
 | (j, x') :: l, rn, rn', ps, h => by
  have h0 : ∃ rn0, Jcy rn rn0 ∧ (∀ i x, look rn0 j = some (some i) → look s.rs i = some x → Fe al rn → Fe al rn0) ∧ (∀ qs, Jng x' = some qs → look rn0 j = some none → Fe al rn → Fe al rn0) ∧
    (match look rn0 j with
    | some (some i) => match look s.rs i with
     | some x => if x'.spec = true ∧ i ≠ j then none else match Jq5 rn0 x x' with
      |some (rn,p)=>match Jw6 s rn l with
       |some (rn,q)=>some (rn,p++q)
       |none=>none
      |none=>none
     |none=>none
    |some none=>match Jng x',Jw6 s rn0 l with
     |some p,some (rn,q)=>some (rn,p++q)
     |_,_=>none
    |none=>none)=some (rn',ps):=by
   refine⟨Jpa rn j, ?_, ?_, ?_,h⟩<;>unfold Jpa<;>split
   ·exact .refl _
   ·rename_i hn;exact Jg5 hn
   ·exact fun _ _ _ _ h=>h
   ·rename_i hn
    exact fun i x h1 h2 h=>Jh3 h fun k e=>by
     cases e
     simp only[look,if_true] at h1
     cases h1
     exact(hs j x h2).1
   ·exact fun _ _ _ h=>h
   ·exact fun qs _ h1=>by simp[look] at h1
  clear h
  obtain⟨rn0,l0,l1,l2,h⟩:=h0
  split at h
  ·rename_i i hi
   split at h
   ·rename_i x hx
    split at h
    ·cases h
    rename_i hspec
    split at h
    ·rename_i rn1 p1 h1
     split at h
     ·rename_i rn2 p2 h2
      cases h
      obtain⟨a1,a2,a3,a4,a5⟩:=Jq4 (ρ:=ρ) (al:=al) h1
      obtain⟨b1,b2,b3⟩:=Jhl hs h2
      refine⟨(l0.trans a1).trans b1,fun h=>b2 (a2 (l1 i x hi hx h) (hs i x hx).2),fun k u hu=> ?_⟩
      rcases List.mem_cons.1 hu with e|hu
      ·cases e
       exact .inl ⟨i,x,b1 _ _ (a1 _ _ hi),hx,b1.key a3,a4,fun ρ' hp hf=>a5 ρ' (Jp.1 hp).1 (hf.le b1),fun hs=>Classical.byContradiction fun hne=>hspec ⟨hs,hne⟩⟩
      ·rcases b3 k u hu with⟨i',x1,c1,c2,c3,c4,c5,c6⟩|⟨c1,c2,qs,c3,c4⟩
       ·exact .inl ⟨i',x1,c1,c2,c3,c4,fun ρ' hp hf=>c5 ρ' (Jp.1 hp).2 hf,c6⟩
       ·exact .inr ⟨c1,c2,qs,c3,fun hp=>c4 (Jp.1 hp).2⟩
     ·cases h
    ·cases h
   ·cases h
  ·rename_i hi
   split at h
   ·rename_i p1 rn2 p2 h1 h2
    cases h
    obtain⟨b1,b2,b3⟩:=Jhl hs h2
    have hids:x'.ids=[]:=by
     unfold Jng at h1
     split at h1<;>first|rfl|cases h1
    refine⟨l0.trans b1,fun h=>b2 (l2 p1 h1 hi h),fun k u hu=> ?_⟩
    rcases List.mem_cons.1 hu with e|hu
    ·cases e
     exact .inr ⟨b1 _ _ hi,hids,p1,h1,fun hp=>(Jp.1 hp).1⟩
    ·rcases b3 k u hu with⟨i',x1,c1,c2,c3,c4,c5,c6⟩|⟨c1,c2,qs,c3,c4⟩
     ·exact .inl ⟨i',x1,c1,c2,c3,c4,fun ρ' hp hf=>c5 ρ' (Jp.1 hp).2 hf,c6⟩
     ·exact .inr ⟨c1,c2,qs,c3,fun hp=>c4 (Jp.1 hp).2⟩
   ·cases h
  ·cases h
theorem Jbc:∀{l:List Nat},Ya l=true→l.Nodup
 |[],_=> .nil
 |a::l,h=>by
  simp only[Ya,Bool.and_eq_true,Bool.not_eq_true',List.contains_eq_mem,decide_eq_false_iff_not] at h
  exact List.nodup_cons.2 ⟨h.1,Jbc h.2⟩
theorem Jd1:∀{rn:Rn},(Js2 rn).Nodup→∀{r r' i:Nat},(r,some i)∈rn→(r',some i)∈rn→r=r'
 |[],_,_,_,_,h,_=>by simp at h
 | (k, y) :: rn, hd, r, r', i, h, h' => by
  have him:∀{r},(r,some i)∈rn→i∈Js2 rn:=fun h=>List.mem_filterMap.2 ⟨_,h,rfl⟩
  cases y with
  | none =>
   have hd':(Js2 rn).Nodup:=by simpa[Js2] using hd
   rcases List.mem_cons.1 h with e|h
   ·cases e
   ·rcases List.mem_cons.1 h' with e|h'
    ·cases e
    ·exact Jd1 hd' h h'
  |some z=>
   have hd':z∉Js2 rn∧(Js2 rn).Nodup:=by simpa[Js2] using hd
   rcases List.mem_cons.1 h with e|h1<;>rcases List.mem_cons.1 h' with e'|h2
   ·cases e;cases e';rfl
   ·cases e;exact absurd (him h2) hd'.1
   ·cases e';exact absurd (him h1) hd'.1
   ·exact Jd1 hd'.2 h1 h2
end
section
variable {P:Program} {N B:Nat} {w0:K8} {R:Nat→Prop}
theorem Kx [Dr] {s s' : St} (h : Jlf s s') {a : Act} {w : World} (hs : K7 P N B w0 R s a w) : K7 P N B w0 R s' a w := by
 obtain⟨ρ,M,al,hal,C⟩:=hs
 unfold Jlf at h
 split at h
 ·rename_i rn p h1
  split at h
  ·rename_i rn' q h2
   split at h
   ·rename_i hc
    obtain⟨hd,hok⟩:=hc
    obtain⟨a1,a2,a3⟩:=Jne (ρ:=ρ) (al:=al) (fun t v hv=>C.slotIds t v hv) h1
    obtain⟨b1,b2,b3⟩:=Jhl (ρ:=ρ) (al:=al) (fun i x hx=>C.resIds i x hx) h2
    have hal':Fe al rn':=b2 (a2 fun j i hj=>by simp[look] at hj)
    have hp:=(Jp.1 h).1
    have hq:=(Jp.1 h).2
    let ρ':Env:=fun j=>match look rn' j with
     |some (some i)=>ρ i
     |_=> .slice none 0 0
    have hf:Jlg ρ ρ' rn':=by
     intro j y hy
     show(match look rn' j with|some (some i)=>ρ i|_=> .slice none 0 0)=_
     rw[hy]
     cases y<;>rfl
    simp only[St.idsOk,Bool.and_eq_true,List.all_eq_true,decide_eq_true_eq] at hok
    obtain⟨⟨ok1,ok2⟩,_⟩:=hok
    have hnod:=Jbc hd
    refine⟨ρ',M,fun j=>(look rn' j).isSome=true∧j<s'.nx,fun id h=>h.2,⟨C.size,C.defers,C.nomark,C.stay,C.stayR,C.below,C.base, ?_, ?_, ?_, ?_, ?_,C.old, ?_,C.up,C.good⟩⟩
    ·intro t v' hv
     obtain⟨v,c1,c2,c3⟩:=a3 t v' (Jr hv)
     rw[C.slot t v c1,c3 ρ' hp (hf.le b1)]
    ·intro t v' hv id hid
     obtain⟨v,c1,c2,c3⟩:=a3 t v' (Jr hv)
     exact⟨b1.key c2 id hid,ok1 _ (Jr hv) id hid⟩
    ·intro j x' hx
     rcases b3 j x' (Jr hx) with⟨i,x,c1,c2,c3,c4,c5,c6⟩|⟨c1,c2,qs,c3,c4⟩
     ·have hsay:=c5 ρ' hq hf
      have hρ:ρ' j=ρ i:=hf j _ c1
      have hres:=C.resA i x c2
      cases x with
      |box T cs=>
       obtain⟨cs',rfl,hcs⟩:=hsay
       obtain⟨b,w1,w2,w3,w4,w5⟩:=hres
       exact⟨b,hρ.trans w1,by rw[hcs];exact w2,w3,w4,w5⟩
      |sus l=>
       obtain⟨l',rfl,hl⟩:=hsay
       obtain rfl:=c6 rfl
       obtain⟨T,w1,w2⟩:=hres
       refine⟨T,w1,fun p hp=> ?_⟩
       obtain⟨v,v1,v2⟩:=hl p hp
       exact(w2 _ v1).trans v2.symm
      |yld s=>
       cases hsay
       obtain rfl:=c6 rfl
       obtain⟨l,rc,w1,w2,w3⟩:=hres
       exact⟨l,rc,w1,hρ.trans w2,w3⟩
      |clo f first caps=>
       obtain⟨first',caps',rfl,e1,e2⟩:=hsay
       show ρ' j= .func (.func f) (first'.map (SV.den ρ')).toArray (caps'.map (SV.den ρ')).toArray
       rw[e1,e2,hρ]
       exact hres
      |fbox T cs=>
       obtain⟨cs',rfl,hcs⟩:=hsay
       obtain⟨b,w1,w2,w3⟩:=hres
       exact⟨b,hρ.trans w1,by rw[hcs];exact w2,w3⟩
      |mp kT gk gv ks vs l=>cases hsay;unfold Jbx Uh at*;rw[hρ];exact hres
      |mpi i2 kT gk gv ks vs l seen=>
       obtain⟨j',rfl,hj'⟩:=hsay
       obtain⟨b,m,w1,w2,w3⟩:=hres
       exact⟨b,m,hρ.trans w1,hj'.trans w2,w3⟩
      |imm T s xs=>cases hsay;unfold Jbx Uh at*;rw[hρ];exact hres
      |own T s xs=>
       obtain⟨flat,w1,w2,w3⟩:=hres
       rcases hsay with rfl|rfl
       ·exact⟨flat,w1,by rw[hρ];exact w2,fun g hg=>w3 g (by rw[←hρ];exact hg)⟩
       ·exact⟨flat,w1,by rw[hρ];exact Jdk w2,fun g hg=>w3 g (by rw[←hρ];exact hg)⟩
      |ownT T s xs=>
       cases hsay
       obtain⟨flat,w1,w2,w3⟩:=hres
       exact⟨flat,w1,by rw[hρ];exact w2,fun g hg=>w3 g (by rw[←hρ];exact hg)⟩
      |rbox T s x=>cases hsay;unfold Jbx Uh at*;rw[hρ];exact hres
      |map ks=>cases hsay;unfold Jbx Uh at*;rw[hρ];exact hres
      |iter i2 ks seen=>
       obtain⟨j',rfl,hj'⟩:=hsay
       obtain⟨b,m,w1,w2,w3⟩:=hres
       exact⟨b,m,hρ.trans w1,hj'.trans w2,w3⟩
      |afn ps r' pre h'=>cases hsay;unfold Jbx Uh at*;rw[hρ];exact hres
      |ifc b=>cases hsay;unfold Jbx Uh at*;rw[hρ];exact hres
      |ifb T v=>
       obtain⟨v',rfl,e1⟩:=hsay
       show ρ' j= .iface T (v'.den ρ')
       rw[e1,hρ]
       exact hres
      |siter s p=>cases hsay;unfold Jbx Uh at*;rw[hρ];exact hres
      |lit T xs=>cases hsay;unfold Jbx Uh at*;rw[hρ];exact hres
     ·have hρ:ρ' j= .slice none 0 0:=hf j _ c1
      have hqs:=c4 hq
      cases x' with
      |imm T s xs=>
       cases c3
       have h0:xs.length=0:=hqs
       have:xs=[]:=List.eq_nil_of_length_eq_zero h0
       subst this
       exact⟨_,[],rfl,rfl, .inl ⟨.inl hρ,rfl⟩⟩
      |own T s xs=>
       cases c3
       have h0:xs.length=0:=hqs
       have:xs=[]:=List.eq_nil_of_length_eq_zero h0
       subst this
       refine⟨[],rfl,⟨by simp, .inl ⟨hρ,rfl⟩⟩,fun g hg=> ?_⟩
       rw[hρ] at hg;cases hg
      |ownT T s xs=>
       cases c3
       have h0:xs.length=0:=hqs
       have:xs=[]:=List.eq_nil_of_length_eq_zero h0
       subst this
       refine⟨[],rfl,⟨by simp, .inl ⟨hρ,rfl⟩⟩,fun g hg=> ?_⟩
       rw[hρ] at hg;cases hg
      |_=>cases c3
    ·intro j x' hx
     have hm:=Jr hx
     have hj:=ok2 _ hm
     rcases b3 j x' hm with⟨i,x,c1,c2,c3,c4,c5,c6⟩|⟨c1,c2,qs,c3,c4⟩
     ·exact⟨⟨by rw[c1];rfl,hj.1⟩,fun id hid=>⟨c3 id hid,hj.2 id hid⟩⟩
     ·exact⟨⟨by rw[c1];rfl,hj.1⟩,fun id hid=>by rw[c2] at hid;simp at hid⟩
    ·intro r r' x x' hne hx hx' ho ho' b hb hb'
     rcases b3 r x (Jr hx) with⟨i,y,c1,c2,c3,c4,c5,c6⟩|⟨c1,_⟩
     ·rcases b3 r' x' (Jr hx') with⟨i',y',d1,d2,d3,d4,d5,d6⟩|⟨d1,_⟩
      ·have hi:i≠i':=by
        rintro rfl
        exact hne (Jd1 hnod (Jr c1) (Jr d1))
       rw[hf r _ c1] at hb
       rw[hf r' _ d1] at hb'
       exact C.apart i i' y y' hi c2 d2 (by rw[←c4];exact ho) (by rw[←d4];exact ho') b hb hb'
      ·rw[hf r' _ d1] at hb';cases hb'
     ·rw[hf r _ c1] at hb;cases hb
    ·rintro j ⟨hj,_⟩
     obtain⟨y,hy⟩:=Option.isSome_iff_exists.1 hj
     rw[hf j y hy]
     cases y with
     |none=>rfl
     |some i=>exact C.one i (hal' j i hy)
   ·exact h.elim
  ·exact h.elim
 ·exact h.elim
end
end Go.Sx
namespace Go.Sx
open Go.RowKit
theorem U0 {P:Program} {b:Frame} {a:Act} {k:List Item} {cs:List Frame} {w:World} {c:Code}:step P (lone (b.atR a (.code (.scope c)::k)) cs w)= .next (lone (b.atR a (.code c:: .inScope c::k)) cs w):=
 step_lone_go (by simp[stepG,stepG.exec,Frame.atR])
theorem Jc8 {P:Program} {b:Frame} {a:Act} {k:List Item} {cs:List Frame} {w:World} {c:Code}:step P (lone (b.atR a (.inScope c::k)) cs w)= .next (lone (b.atR a k) cs w):=
 step_lone_go (by simp[stepG,stepG.exec,Frame.atR])
theorem Vq {F:Fence} {n:Nat} {P:Program} {Q:Exit→Act→World→Prop} {a:Act} {w:World} {c:Code} (h:c.wpIn F n P (Exit.noGoto Q) a w):(Code.scope c).wpIn F n P Q a w:=by
 intro b k cs hro hb hr
 have h0:(lone (b.atR a (.code (.scope c)::k)) cs w).fenced P F:=fenced_calm hb hr rfl
 obtain⟨e,a₁,w₁,hq,harr⟩:=h b (.inScope c::k) cs hro hb hr
 have hx:∀id,exitTo id (.inScope c::k)=exitTo id k:=fun id=>by simp[exitTo]
 cases e with
 |normal=>exact⟨.normal,a₁,w₁,hq, .head h0 U0 (StepsIn.trans harr (.one (fenced_calm hb hr rfl) Jc8))⟩
 |exit id=>exact⟨.exit id,a₁,w₁,hq,fun k' hk=> .head h0 U0 (harr.1 k' (by rw[hx];exact hk)),fun hr' hk=>let⟨k₁,h1,h2⟩:=harr.2 hr' (by rw[hx];exact hk);⟨k₁,h1, .head h0 U0 h2⟩⟩
 |goto l=>exact hq.elim
 |ret=>exact⟨_,a₁,w₁,hq, .of_steps (.one h0 U0) harr⟩
 |panic ch=>exact⟨_,a₁,w₁,hq, .of_steps (.one h0 U0) harr⟩
 |outgrown=>exact⟨_,a₁,w₁,hq, .of_steps (.one h0 U0) harr⟩
def Ex.toExit:Ex→Exit
 | .normal=> .normal
 | .exit i=> .exit i
 | .ret=> .ret
theorem Ju4 {p:Nat→Prop} (h:∃n,p n):∃n,p n∧∀m,p m→n≤m:=by
 obtain⟨n,hn⟩:=h
 induction n using Nat.strongRecOn with
 | _ n ih =>
  by_cases hm:∃m,m<n∧p m
  ·obtain⟨m,h1,h2⟩:=hm
   exact ih m h1 h2
  ·exact⟨n,hn,fun m hp=>Nat.le_of_not_lt fun hlt=>hm ⟨m,hlt,hp⟩⟩
open Classical in
noncomputable def leastMu (p:Nat→Prop):Nat:=if h:∃n,p n then(Ju4 h).choose else 0
theorem Yo {p:Nat→Prop} (h:∃n,p n):p (leastMu p):=by
 unfold leastMu
 rw[dif_pos h]
 exact(Ju4 h).choose_spec.1
theorem Yn {p:Nat→Prop} {m:Nat} (h:p m):leastMu p≤m:=by
 unfold leastMu
 rw[dif_pos ⟨m,h⟩]
 exact(Ju4 ⟨m,h⟩).choose_spec.2 m h
section
variable {P:Program} {Γ:Gam} {ann:Nat→Option Ann} {N B:Nat} {w0:K8} {R:Nat→Prop} {rd:Option Nat}
theorem Jux [Dr] {id:Nat} {c:Code} (ih:∀{st:St} {k:Ex→St→Prop} {Q:Exit→Act→World→Prop},wpS P Γ ann c st k→
  (∀e st' a w,k e st'→K7 P N B w0 R st' a w→Q e.toExit a w)→∀a w,K7 P N B w0 R st a w→c.wpIn (FR rd) 0 P Q a w)
  {st:St} {k:Ex→St→Prop} {Q:Exit→Act→World→Prop} (h:wpS P Γ ann (.block id (.loop c)) st k)
  (hK:∀e st' a w,k e st'→K7 P N B w0 R st' a w→Q e.toExit a w) (a:Act) (w:World) (hs:K7 P N B w0 R st a w):(Code.block id (.loop c)).wpIn (FR rd) 0 P Q a w:=by
 simp only[wpS] at h
 split at h
 ·rename_i A hA
  split at h
  ·obtain⟨x0,h1,h2,h3⟩:=h
   refine wpIn_block (wpIn_loop (fun a w=>∃x,A.inv x∧K7 P N B w0 R (A.σ x) a w) (fun a w=>leastMu fun n=>∃x,A.inv x∧K7 P N B w0 R (A.σ x) a w∧A.mu x=n) ⟨x0,h2,Kx h1 (Ua hs)⟩ fun a w hI=> ?_)
   obtain⟨x,i1,i2,i3⟩:=Yo (p:=fun n=>∃x,A.inv x∧K7 P N B w0 R (A.σ x) a w∧A.mu x=n) (by obtain⟨x,i1,i2⟩:=hI;exact⟨_,x,i1,i2,rfl⟩)
   refine ih (h3 x i1) (fun e st' a' w' he hs'=> ?_) a w i2
   have hcatch:∀e,Ex.catch id k e st'→Exit.inBlock id Q e.toExit a' w':=by
    intro e he
    cases e with
    |normal=>exact hK .normal st' a' w' he hs'
    |exit i=>
     simp only[Ex.catch] at he
     simp only[Ex.toExit,Exit.inBlock]
     split at he
     ·rename_i e;rw[if_pos e];exact hK .normal st' a' w' he hs'
     ·rename_i e;rw[if_neg e];exact hK (.exit i) st' a' w' he hs'
    |ret=>exact hK .ret st' a' w' he hs'
   cases e with
   |normal=>
    obtain⟨y,j1,j2,j3⟩:=he
    refine⟨⟨y,j2,Kx j1 hs'⟩, ?_⟩
    exact Nat.lt_of_le_of_lt (Yn ⟨y,j2,Kx j1 hs',rfl⟩) (by rw[←i3];exact j3)
   |exit i=>exact hcatch (.exit i) he
   |ret=>exact hcatch .ret he
  ·rename_i r hr
   obtain⟨x0,h1,h2,h3⟩:=h
   refine wpIn_block (wpIn_loop (fun a w=>∃x,(A.inv x∧r x0 x)∧K7 P N B w0 R (A.σ x) a w) (fun a w=>leastMu fun n=>∃x,(A.inv x∧r x0 x)∧K7 P N B w0 R (A.σ x) a w∧A.mu x=n) ⟨x0,h2,Kx h1 (Ua hs)⟩ fun a w hI=> ?_)
   obtain⟨x,i1,i2,i3⟩:=Yo (p:=fun n=>∃x,(A.inv x∧r x0 x)∧K7 P N B w0 R (A.σ x) a w∧A.mu x=n) (by obtain⟨x,i1,i2⟩:=hI;exact⟨_,x,i1,i2,rfl⟩)
   refine ih (h3 x i1) (fun e st' a' w' he hs'=> ?_) a w i2
   have hcatch:∀e,Ex.catch id k e st'→Exit.inBlock id Q e.toExit a' w':=by
    intro e he
    cases e with
    |normal=>exact hK .normal st' a' w' he hs'
    |exit i=>
     simp only[Ex.catch] at he
     simp only[Ex.toExit,Exit.inBlock]
     split at he
     ·rename_i e;rw[if_pos e];exact hK .normal st' a' w' he hs'
     ·rename_i e;rw[if_neg e];exact hK (.exit i) st' a' w' he hs'
    |ret=>exact hK .ret st' a' w' he hs'
   cases e with
   |normal=>
    obtain⟨y,j1,j2,j3⟩:=he
    refine⟨⟨y,j2,Kx j1 hs'⟩, ?_⟩
    exact Nat.lt_of_le_of_lt (Yn ⟨y,j2,Kx j1 hs',rfl⟩) (by rw[←i3];exact j3)
   |exit i=>exact hcatch (.exit i) he
   |ret=>exact hcatch .ret he
 ·exact h.elim
theorem Jaj:∀(ks:List Int) (b:Nat) (e:MapEntry),e∈V0 ks b→∃p,p<ks.length∧e={key:= .int .i64 (ks.getD p 0),val:= .bool true,born:=b+p}
 |[],b,e,h=>by simp[V0] at h
 | k :: r, b, e, h => by
  simp only[V0,List.mem_cons] at h
  rcases h with rfl|h
  ·exact⟨0,by simp,by simp⟩
  ·obtain⟨p,h1,h2⟩:=Jaj r (b+1) e h
   refine⟨p+1,by simpa using h1, ?_⟩
   rw[h2,show b+1+p=b+(p+1) by omega]
   simp
theorem Jqw {w:World} {b m:Nat} {es:Array MapEntry} {ks:List Int} {seen:List Nat} {T:TypeId} (h1:w.heap[b]? =some (.mapIter (some m) ks.length seen.toArray ks.length)) (h2:w.heap[m]? =some (.map es ks.length)) (h3:es.toList=V0 ks 0):
  ((Instr.next (.pointer (some ⟨b,0,none⟩)) false T).run P w= .ok (.tuple #[.bool false]) w∧∀p,p<ks.length→p∈seen)∨
  (∃w1 p,(w1=w∨w1=w.drew)∧p<ks.length∧p∉seen∧(Instr.next (.pointer (some ⟨b,0,none⟩)) false T).run P w= .ok (.tuple #[.bool true, .int .i64 (ks.getD p 0), .bool true]) (J3 w1 b (.mapIter (some m) ks.length (seen++[p]).toArray ks.length))):=by
 have hold:∀x∈es.toList,x.born<ks.length:=fun x hx=>by
  rw[h3] at hx
  obtain⟨p,hp,rfl⟩:=Jaj ks 0 x hx
  simpa using hp
 rcases run_next_at (P:=P) w T b m ks.length ks.length seen.toArray es ks.length h1 h2 hold (Nat.le_refl _) with⟨h4,h5⟩|⟨e,he,w1,hw,h5⟩
 ·refine .inl ⟨h5,fun p hp=> ?_⟩
  have hmem:es.toList[p]? =some {key:= .int .i64 ks[p],val:= .bool true,born:=p}:=by
   rw[h3,Jak]
   simp[hp]
  have hin:({key:= .int .i64 ks[p],val:= .bool true,born:=p}:MapEntry)∈es:=by
   have:=List.mem_of_getElem? hmem
   simpa using this
  have h0:leftOf es seen.toArray= #[]:=Array.eq_empty_of_size_eq_zero h4
  have:¬(({key:= .int .i64 ks[p],val:= .bool true,born:=p}:MapEntry)∈leftOf es seen.toArray):=by rw[h0];simp
  unfold leftOf at this
  rw[Array.mem_filter] at this
  have h6:¬(!seen.toArray.contains p)=true:=fun hc=>this ⟨hin,hc⟩
  simpa using h6
 ·unfold leftOf at he
  rw[Array.mem_toList_iff,Array.mem_filter] at he
  obtain⟨he1,he2⟩:=he
  have he1':e∈es.toList:=by simpa using he1
  rw[h3] at he1'
  obtain⟨p,hp,rfl⟩:=Jaj ks 0 e he1'
  have hns:p∉seen:=by simpa using he2
  refine .inr ⟨w1,p,hw,hp,hns, ?_⟩
  rw[h5]
  simp[ChangeMaps.setBlock,J3]
theorem Jt.mem {M:Nat→Prop} {w:World} {gk gv:Bool} {ks vs:Sch}:∀{l:List (ks.T×vs.T)} {n:Nat} {es:List MapEntry} {e:MapEntry},Jt M w gk gv ks vs l n es→e∈es→∃p,p<l.length∧e.born=n+p
 |[],_,_,_,h,he=>by rw[show _=[] from h] at he;simp at he
 | x :: l, n, _, e, ⟨kc, vc, r, q, h1, h2, h3⟩, he => by
  subst q
  rcases List.mem_cons.1 he with rfl|he
  ·exact⟨0,by simp,rfl⟩
  ·obtain⟨p,hp,e1⟩:=Jt.mem h3 he
   exact⟨p+1,by simpa using hp,by omega⟩
theorem Jm4 {w:World} {M:Nat→Prop} {b m:Nat} {es:Array MapEntry} {gk gv:Bool} {ks vs:Sch} {l:List (ks.T×vs.T)} {seen:List Nat} {T:TypeId} (h1:w.heap[b]? =some (.mapIter (some m) l.length seen.toArray l.length)) (h2:w.heap[m]? =some (.map es l.length)) (h3:Jt M w gk gv ks vs l 0 es.toList):
  ((Instr.next (.pointer (some ⟨b,0,none⟩)) false T).run P w= .ok (.tuple #[.bool false]) w∧∀p,p<l.length→p∈seen)∨
  (∃w1 p u1 u2,(w1=w∨w1=w.drew)∧p<l.length∧p∉seen∧(Instr.next (.pointer (some ⟨b,0,none⟩)) false T).run P w= .ok (.tuple #[.bool true,u1,u2]) (J3 w1 b (.mapIter (some m) l.length (seen++[p]).toArray l.length))):=by
 have hold:∀x∈es.toList,x.born<l.length:=fun x hx=>by
  obtain⟨p,hp,e⟩:=h3.mem hx
  omega
 rcases run_next_at (P:=P) w T b m l.length l.length seen.toArray es l.length h1 h2 hold (Nat.le_refl _) with⟨h4,h5⟩|⟨e,he,w1,hw,h5⟩
 ·refine .inl ⟨h5,fun p hp=> ?_⟩
  obtain⟨x,hx⟩:∃x,l[p]? =some x:=⟨_,List.getElem?_eq_getElem hp⟩
  obtain⟨kc,vc,hmem,_⟩:=h3.get hx
  have hin:=List.mem_of_getElem? hmem
  rw[Nat.zero_add] at hin
  have hin:({key:=valOf gk kc,val:=valOf gv vc,born:=p}:MapEntry)∈es:=by simpa using hin
  have h0:leftOf es seen.toArray= #[]:=Array.eq_empty_of_size_eq_zero h4
  have:¬(({key:=valOf gk kc,val:=valOf gv vc,born:=p}:MapEntry)∈leftOf es seen.toArray):=by rw[h0];simp
  unfold leftOf at this
  rw[Array.mem_filter] at this
  have h6:¬(!seen.toArray.contains p)=true:=fun hc=>this ⟨hin,hc⟩
  simpa using h6
 ·unfold leftOf at he
  rw[Array.mem_toList_iff,Array.mem_filter] at he
  obtain⟨he1,he2⟩:=he
  have he1':e∈es.toList:=by simpa using he1
  obtain⟨p,hp,hb⟩:=h3.mem he1'
  rw[Nat.zero_add] at hb
  have hns:p∉seen:=by rw[←hb];simpa using he2
  refine .inr ⟨w1,p,e.key,e.val,hw,hp,hns, ?_⟩
  rw[h5]
  simp[ChangeMaps.setBlock,J3,hb]
theorem Jm6 {l:List Oper} {dr:Bool} {t:Tmp×Tmp×Tmp} (h:Jfo l dr=some t):dr=false∧∃o1 o2,l=[o1,o2]∧o1.op= .next (.tmp t.1) false∧o1.dst=some t.2.1∧o1.guard=none∧o2.op= .extract (.tmp t.2.1) 0∧o2.dst=some t.2.2∧o2.guard=none:=by
 unfold Jfo at h
 split at h
 ·rename_i o1 o2
  split at h
  ·rename_i it d1 d1' d2 h1 h2 h3 h4 h5 h6
   split at h
   ·rename_i e
    subst e
    cases h
    exact⟨rfl,o1,o2,rfl,h1,h2,h3,h4,h5,h6⟩
   ·cases h
  ·cases h
 ·cases h
theorem Jm3 [Dr] {ops : Array Oper} {dr : Bool} {t : Tmp × Tmp × Tmp} (hn : Jfo ops.toList dr = some t) (hd : ∀ o ∈ ops.toList, ∀ t, o.dst = some t → t < N) {st : St} {k : Ex → St → Prop} {Q : Exit → Act → World → Prop} (h : Jiq st t k)
  (hK:∀st' a w,k .normal st'→K7 P N B w0 R st' a w→Q .normal a w) (id:Nat) (a:Act) (w:World) (hs:K7 P N B w0 R st a w):(Code.region id ops dr).wpIn (FR rd) 0 P Q a w:=by
 obtain⟨rfl,o1,o2,hl,q1,q2,q3,q4,q5,q6⟩:=Jm6 hn
 have hops:ops= #[o1,o2]:=by apply Array.ext';simpa using hl
 subst hops
 have d1N:t.2.1<N:=hd o1 (by simp) _ q2
 have d2N:t.2.2<N:=hd o2 (by simp) _ q5
 obtain⟨ρ,M,al,hal,C⟩:=hs
 unfold Jiq at h
 split at h
 case h_2=>exact h.elim
 rename_i i hi
 split at h
 case h_3=>exact h.elim
 ·rename_i j ks seen hr
  split at h
  case h_2=>exact h.elim
  rename_i ks' hj
  obtain⟨rfl,hstep,hend⟩:=h
  obtain⟨b,m,r1,r2,r3,r4,r5,r6⟩:=C.res i _ hr
  obtain⟨m',es,s1,s2,s3,s4,s5,s6⟩:=C.res j _ hj
  rw[r2] at s1;cases s1
  have hit:a.eval (.tmp t.1)= .pointer (some ⟨b,0,none⟩):=(C.slot t.1 _ hi).trans r1
  have hsa:∀id,Ve al st.nx [] id→al id:=fun id h=>by
   rcases h with h|h
   ·exact h
   ·simp at h;omega
  have run2:∀(u:Value) (w':World),(Instr.next (.pointer (some ⟨b,0,none⟩)) false o1.type).run P w= .ok u w'→∀c v',(u= .tuple (#[Value.bool c]++v'))→Q .normal ((a.put o1.dst u).put o2.dst (.bool c)) w'→(Code.region id #[o1,o2] false).wpIn (FR rd) 0 P Q a w:=by
   intro u w' hu c v' hc hq
   refine wpIn_region ?_
   show wpOpsIn (FR rd) 0 P #[o1,o2] Q [0,1] a w
   rw[wpOpsIn_cons]
   unfold wpOpIn
   have e0:(#[o1,o2]:Array Oper)[0]? =some o1:=rfl
   have e1:(#[o1,o2]:Array Oper)[1]? =some o2:=rfl
   rw[e0]
   simp only[Region.wanted,q3,if_true]
   refine Jbs (by rw[q1];intro c e;cases e) (Jg (u:=u) (w':=w') ?_ ?_)
   ·simp only[execOp,q1,hit]
    exact J2 hu
   ·rw[wpOpsIn_cons]
    unfold wpOpIn
    rw[e1]
    simp only[Region.wanted,q6,if_true]
    refine Jbs (by rw[q4];intro c e;cases e) (Jg (u:= .bool c) (w':=w') ?_ hq)
    have hev:(a.put o1.dst u).eval (.tmp t.2.1)=u:=by
     show(a.put o1.dst u).tmps.getD t.2.1 undef=u
     rw[Fj fun h=>by rw[C.size];exact d1N,if_pos q2]
    simp only[execOp,q4]
    rw[hev,hc]
    have h0:(#[Value.bool c]++v')[0]? =some (.bool c):=by rw[Array.getElem?_append_left (by simp)];rfl
    exact J2 (by simp only[Instr.extract,h0];rfl)
  have weak : ∀ {τ' : Nat → Option SV} {x : SV} {v : SV} {rs' : List (Nat × Res)} {c : Bool}, (∀ t', t' ≠ t.2.1 → t' ≠ t.2.2 → look st.sl t' = τ' t') → ∀ t' v', look (Zh st t c rs').sl t' = some v' → Vd τ' (some t.2.2) (.one (.bool c)) t' = some v' := by
   intro τ' x v rs' c hτ t' v' ht
   unfold Zh at ht
   simp only[look] at ht
   unfold Vd
   split at ht
   ·rename_i e;subst e;rw[if_pos rfl];exact ht
   ·rename_i e
    rw[if_neg (by simpa using e)]
    have hf:∀l:List (Nat×SV),look (l.filter fun p=>p.1 !=t.2.1&&p.1 !=t.2.2) t'=some v'→t'≠t.2.1∧look l t'=some v':=by
     intro l
     induction l with
     |nil=>intro h;cases h
     | cons p l ih =>
      intro h
      rw[List.filter_cons] at h
      split at h
      ·rename_i hp
       simp only[look] at h⊢
       split at h
       ·rename_i e2
        rw[if_pos e2]
        refine⟨?_,h⟩
        subst e2
        simp at hp;exact hp.1
       ·rename_i e2;rw[if_neg e2];exact ih h
      ·rename_i hp
       obtain⟨i1,i2⟩:=ih h
       refine⟨i1, ?_⟩
       simp only[look]
       split
       ·rename_i e2
        subst e2
        simp at hp
        exact absurd (hp i1).symm e
       ·exact i2
    obtain⟨i1,i2⟩:=hf st.sl ht
    rw[←hτ t' i1 (Ne.symm e)]
    exact i2
  rcases Jqw (P:=P) (T:=o1.type) r3 s2 s3 with⟨g1,g2⟩|⟨w1,p,gw,g1,g2,g3⟩
  ·refine run2 _ _ g1 false #[] rfl (hK _ _ _ (hend g2) ?_)
   have C1:=C.pure (n:=st.nx) (d:=o1.dst) (v:= .tup [(false,[.bool false])]) (u:= .tuple #[.bool false]) (fun t' h=>by rw[q2] at h;cases h;exact d1N) rfl (fun id hid=>by simp[SV.ids,J1,SC.ids] at hid)
   have C2:=C1.pure (n:=st.nx) (d:=o2.dst) (v:= .one (.bool false)) (u:= .bool false) (fun t' h=>by rw[q5] at h;cases h;exact d2N) rfl (fun id hid=>by simp[SV.ids,J1,SC.ids] at hid)
   refine⟨ρ,M,Ve al st.nx [],fun id h=>hal id (hsa id h),C2.weaken (fun t' v' h=> ?_) (fun id x h=> ?_) fun id=>⟨.inl,fun h=>by
    rcases h with h|h
    ·exact h
    ·simp at h;omega⟩⟩
   ·rw[q5]
    refine weak (x:=Ju) (v:=Ju) (fun t2 n1 n2=> ?_) t' v' h
    unfold Vd
    rw[q2,if_neg (by simpa using Ne.symm n1)]
   ·unfold Ki
    rw[if_neg (by simp)]
    simp only[look]
    rw[if_neg (by simp)]
    exact h
  ·have C0:Jl P N B w0 al (look st.sl) (look st.rs) a w1 ρ M R:=by
    rcases gw with rfl|rfl
    ·exact C
    ·exact C.world (w':=w.drew) rfl ⟨rfl,rfl,rfl,Nat.le_refl _,fun _ _=>rfl,fun _=>Nat.le_succ _⟩
   have hh:w1.heap=w.heap:=by rcases gw with rfl|rfl<;>rfl
   refine run2 _ _ g3 true #[.int .i64 (ks'.getD p 0), .bool true] rfl (hK _ _ _ (hstep p g1 g2) ?_)
   have hlt:b<w1.heap.size:=by rw[hh];exact(Array.getElem?_eq_some_iff.1 r3).1
   have C1:=C0.putObj (n:=st.nx) (d:=o1.dst) (x':= .iter j ks' (seen++[p])) (fun t' h=>by rw[q2] at h;cases h;exact d1N) hr rfl (b:=b) (by rw[r1];rfl) (.mapIter (some m) ks'.length (seen++[p]).toArray ks'.length) ⟨b,m,r1,r2,Ui hlt,r4,r5,r6⟩
    (fun id hid=>by
     have:id=j:=by simpa[Res.ids] using hid
     subst this
     exact(C.resIds id _ hj).1) (v:= .tup [(false,[.bool true]),(false,[.int .i64 (ks'.getD p 0)]),(false,[.bool true])]) (u:= .tuple #[.bool true, .int .i64 (ks'.getD p 0), .bool true]) rfl (fun id hid=>by simp[SV.ids,J1,SC.ids] at hid)
   have C2:=C1.pure (n:=st.nx) (d:=o2.dst) (v:= .one (.bool true)) (u:= .bool true) (fun t' h=>by rw[q5] at h;cases h;exact d2N) rfl (fun id hid=>by simp[SV.ids,J1,SC.ids] at hid)
   refine⟨ρ,M,Ve al st.nx [],fun id h=>hal id (hsa id h),C2.weaken (fun t' v' h=> ?_) (fun id x h=> ?_) fun id=>⟨.inl,fun h=>by
    rcases h with h|h
    ·exact h
    ·simp at h;omega⟩⟩
   ·rw[q5]
    refine weak (x:=Ju) (v:=Ju) (fun t2 n1 n2=> ?_) t' v' h
    unfold Vd
    rw[q2,if_neg (by simpa using Ne.symm n1)]
   ·unfold Ki
    rw[if_neg (by simp)]
    simp only[look]
    rw[if_neg (by simp)]
    have h':look (J5 st.rs (i,some (.iter j ks' (seen++[p])))) id=some x:=h
    rw[J8] at h'
    split at h'
    ·rename_i e;subst e;rw[if_pos rfl];exact h'
    ·rename_i e;rw[if_neg (Ne.symm e)];exact h'
 ·rename_i j kT gk gv ks vs l seen hr
  split at h
  case h_2=>exact h.elim
  rename_i kT' gk' gv' ks' vs' l' hj
  split at h
  case isFalse=>exact h.elim
  rename_i hc
  obtain⟨⟨rfl,rfl⟩,rfl,rfl,rfl⟩:=hc
  obtain⟨hl',hstep,hend⟩:=h
  have hl':l'=l:=hl'
  subst hl'
  obtain⟨b,m,r1,r2,r3,r4,r5,r6⟩:=C.res i _ hr
  obtain⟨_,m',es,s1,s2,s3,s4,s5,s6⟩:=C.res j _ hj
  rw[r2] at s1;cases s1
  have hit:a.eval (.tmp t.1)= .pointer (some ⟨b,0,none⟩):=(C.slot t.1 _ hi).trans r1
  have hsa:∀id,Ve al st.nx [] id→al id:=fun id h=>by
   rcases h with h|h
   ·exact h
   ·simp at h;omega
  have run2:∀(u:Value) (w':World),(Instr.next (.pointer (some ⟨b,0,none⟩)) false o1.type).run P w= .ok u w'→∀c v',(u= .tuple (#[Value.bool c]++v'))→Q .normal ((a.put o1.dst u).put o2.dst (.bool c)) w'→(Code.region id #[o1,o2] false).wpIn (FR rd) 0 P Q a w:=by
   intro u w' hu c v' hc hq
   refine wpIn_region ?_
   show wpOpsIn (FR rd) 0 P #[o1,o2] Q [0,1] a w
   rw[wpOpsIn_cons]
   unfold wpOpIn
   have e0:(#[o1,o2]:Array Oper)[0]? =some o1:=rfl
   have e1:(#[o1,o2]:Array Oper)[1]? =some o2:=rfl
   rw[e0]
   simp only[Region.wanted,q3,if_true]
   refine Jbs (by rw[q1];intro c e;cases e) (Jg (u:=u) (w':=w') ?_ ?_)
   ·simp only[execOp,q1,hit]
    exact J2 hu
   ·rw[wpOpsIn_cons]
    unfold wpOpIn
    rw[e1]
    simp only[Region.wanted,q6,if_true]
    refine Jbs (by rw[q4];intro c e;cases e) (Jg (u:= .bool c) (w':=w') ?_ hq)
    have hev:(a.put o1.dst u).eval (.tmp t.2.1)=u:=by
     show(a.put o1.dst u).tmps.getD t.2.1 undef=u
     rw[Fj fun h=>by rw[C.size];exact d1N,if_pos q2]
    simp only[execOp,q4]
    rw[hev,hc]
    have h0:(#[Value.bool c]++v')[0]? =some (.bool c):=by rw[Array.getElem?_append_left (by simp)];rfl
    exact J2 (by simp only[Instr.extract,h0];rfl)
  have weak : ∀ {τ' : Nat → Option SV} {x : SV} {v : SV} {rs' : List (Nat × Res)} {c : Bool}, (∀ t', t' ≠ t.2.1 → t' ≠ t.2.2 → look st.sl t' = τ' t') → ∀ t' v', look (Zh st t c rs').sl t' = some v' → Vd τ' (some t.2.2) (.one (.bool c)) t' = some v' := by
   intro τ' x v rs' c hτ t' v' ht
   unfold Zh at ht
   simp only[look] at ht
   unfold Vd
   split at ht
   ·rename_i e;subst e;rw[if_pos rfl];exact ht
   ·rename_i e
    rw[if_neg (by simpa using e)]
    have hf:∀l:List (Nat×SV),look (l.filter fun p=>p.1 !=t.2.1&&p.1 !=t.2.2) t'=some v'→t'≠t.2.1∧look l t'=some v':=by
     intro l
     induction l with
     |nil=>intro h;cases h
     | cons p l ih =>
      intro h
      rw[List.filter_cons] at h
      split at h
      ·rename_i hp
       simp only[look] at h⊢
       split at h
       ·rename_i e2
        rw[if_pos e2]
        refine⟨?_,h⟩
        subst e2
        simp at hp;exact hp.1
       ·rename_i e2;rw[if_neg e2];exact ih h
      ·rename_i hp
       obtain⟨i1,i2⟩:=ih h
       refine⟨i1, ?_⟩
       simp only[look]
       split
       ·rename_i e2
        subst e2
        simp at hp
        exact absurd (hp i1).symm e
       ·exact i2
    obtain⟨i1,i2⟩:=hf st.sl ht
    rw[←hτ t' i1 (Ne.symm e)]
    exact i2
  rcases Jm4 (P:=P) (T:=o1.type) r3 s2 s3 with⟨g1,g2⟩|⟨w1,p,u1,u2,gw,g1,g2,g3⟩
  ·refine run2 _ _ g1 false #[] rfl (hK _ _ _ (hend g2) ?_)
   have C1:=C.pure (n:=st.nx) (d:=o1.dst) (v:= .tup [(false,[.bool false])]) (u:= .tuple #[.bool false]) (fun t' h=>by rw[q2] at h;cases h;exact d1N) rfl (fun id hid=>by simp[SV.ids,J1,SC.ids] at hid)
   have C2:=C1.pure (n:=st.nx) (d:=o2.dst) (v:= .one (.bool false)) (u:= .bool false) (fun t' h=>by rw[q5] at h;cases h;exact d2N) rfl (fun id hid=>by simp[SV.ids,J1,SC.ids] at hid)
   refine⟨ρ,M,Ve al st.nx [],fun id h=>hal id (hsa id h),C2.weaken (fun t' v' h=> ?_) (fun id x h=> ?_) fun id=>⟨.inl,fun h=>by
    rcases h with h|h
    ·exact h
    ·simp at h;omega⟩⟩
   ·rw[q5]
    refine weak (x:=Ju) (v:=Ju) (fun t2 n1 n2=> ?_) t' v' h
    unfold Vd
    rw[q2,if_neg (by simpa using Ne.symm n1)]
   ·unfold Ki
    rw[if_neg (by simp)]
    simp only[look]
    rw[if_neg (by simp)]
    exact h
  ·have C0:Jl P N B w0 al (look st.sl) (look st.rs) a w1 ρ M R:=by
    rcases gw with rfl|rfl
    ·exact C
    ·exact C.world (w':=w.drew) rfl ⟨rfl,rfl,rfl,Nat.le_refl _,fun _ _=>rfl,fun _=>Nat.le_succ _⟩
   have hh:w1.heap=w.heap:=by rcases gw with rfl|rfl<;>rfl
   refine run2 _ _ g3 true #[u1,u2] rfl (hK _ _ _ (hstep p g1 g2) ?_)
   have hlt:b<w1.heap.size:=by rw[hh];exact(Array.getElem?_eq_some_iff.1 r3).1
   have C1:=C0.putObj (n:=st.nx) (d:=o1.dst) (x':= .mpi j kT' gk' gv' ks' vs' l' (seen++[p])) (fun t' h=>by rw[q2] at h;cases h;exact d1N) hr rfl (b:=b) (by rw[r1];rfl) (.mapIter (some m) l'.length (seen++[p]).toArray l'.length) ⟨b,m,r1,r2,Ui hlt,r4,r5,r6⟩
    (fun id hid=>by
     have:id=j:=by simpa[Res.ids] using hid
     subst this
     exact(C.resIds id _ hj).1) (v:= .tup [(false,[.bool true]),(false,[.val u1]),(false,[.val u2])]) (u:= .tuple #[.bool true,u1,u2]) rfl (fun id hid=>by simp[SV.ids,J1,SC.ids] at hid)
   have C2:=C1.pure (n:=st.nx) (d:=o2.dst) (v:= .one (.bool true)) (u:= .bool true) (fun t' h=>by rw[q5] at h;cases h;exact d2N) rfl (fun id hid=>by simp[SV.ids,J1,SC.ids] at hid)
   refine⟨ρ,M,Ve al st.nx [],fun id h=>hal id (hsa id h),C2.weaken (fun t' v' h=> ?_) (fun id x h=> ?_) fun id=>⟨.inl,fun h=>by
    rcases h with h|h
    ·exact h
    ·simp at h;omega⟩⟩
   ·rw[q5]
    refine weak (x:=Ju) (v:=Ju) (fun t2 n1 n2=> ?_) t' v' h
    unfold Vd
    rw[q2,if_neg (by simpa using Ne.symm n1)]
   ·unfold Ki
    rw[if_neg (by simp)]
    simp only[look]
    rw[if_neg (by simp)]
    have h':look (J5 st.rs (i,some (.mpi j kT' gk' gv' ks' vs' l' (seen++[p])))) id=some x:=h
    rw[J8] at h'
    split at h'
    ·rename_i e;subst e;rw[if_pos rfl];exact h'
    ·rename_i e;rw[if_neg (Ne.symm e)];exact h'
theorem Xw [Dr] (hm:P.follows .mixedOrders=true) (hΓ:Ut P Γ):∀(c:Code) {st:St} {k:Ex→St→Prop} {Q:Exit→Act→World→Prop},Uo N c=true→wpS P Γ ann c st k→
  (∀e st' a w,k e st'→K7 P N B w0 R st' a w→Q e.toExit a w)→∀a w,K7 P N B w0 R st a w→c.wpIn (FR rd) 0 P Q a w
 | .skip,st,k,Q,_,h,hK,a,w,hs=>wpIn_skip (hK .normal st a w h hs)
 | .region id ops dr, st, k, Q, hd, h, hK, a, w, hs => by
  simp only[wpS] at h
  split at h
  ·rename_i t ht
   refine Jm3 ht (fun o ho t ht=> ?_) h (fun st' a' w' h' hs'=>hK .normal st' a' w' h' hs') id a w hs
   have:=List.all_eq_true.1 hd o ho
   rw[ht] at this
   simpa[Nat.blt_eq] using this
  split at h
  ·rename_i ps st' hr
   rw[Zq] at h
   refine Jmw hm hΓ hr h.1 hs (fun o ho t ht=> ?_) rfl (fun a' w' hs'=>hK .normal st' a' w' h.2 hs') id
   have:=List.all_eq_true.1 hd o ho
   rw[ht] at this
   simpa[Nat.blt_eq] using this
  ·exact h.elim
 | .seq x y,st,k,Q,hd,h,hK,a,w,hs=>by
  simp only[Uo,Bool.and_eq_true] at hd
  refine wpIn_seq (Xw hm hΓ x hd.1 h (fun e st' a' w' he hs'=> ?_) a w hs)
  cases e with
  |normal=>exact Xw hm hΓ y hd.2 he hK a' w' hs'
  |exit i=>exact hK (.exit i) st' a' w' he hs'
  |ret=>exact hK .ret st' a' w' he hs'
 | .cond c x y, st, k, Q, hd, h, hK, a, w, hs => by
  simp only[Uo,Bool.and_eq_true] at hd
  simp only[wpS] at h
  split at h
  ·rename_i t
   split at h
   ·rename_i b hb
    obtain⟨ρ,M,al,hal,C⟩:=id hs
    have e:a.eval (.tmp t)= .bool b:=C.slot t _ hb
    exact wpIn_cond_split e (fun hb=>Xw hm hΓ x hd.1 (h.1 hb) hK a w hs) (fun hb=>Xw hm hΓ y hd.2 (h.2 hb) hK a w hs)
   ·exact h.elim
  ·exact h.elim
 | .block id c, st, k, Q, hd, h, hK, a, w, hs => by
  by_cases hl:∃c',c= .loop c'
  ·obtain⟨c',rfl⟩:=hl
   exact Jux (fun h hK a w hs=>Xw hm hΓ c' hd h hK a w hs) h hK a w hs
  ·have h':wpS P Γ ann c st (Ex.catch id k):=by
    cases c<;>first|exact h|exact absurd ⟨_,rfl⟩ hl
   refine wpIn_block (Xw hm hΓ c hd h' (fun e st' a' w' he hs'=> ?_) a w hs)
   cases e with
   |normal=>exact hK .normal st' a' w' he hs'
   |exit i=>
    simp only[Ex.catch] at he
    simp only[Ex.toExit,Exit.inBlock]
    split at he
    ·rename_i e;rw[if_pos e];exact hK .normal st' a' w' he hs'
    ·rename_i e;rw[if_neg e];exact hK (.exit i) st' a' w' he hs'
   |ret=>exact hK .ret st' a' w' he hs'
 | .exit id,st,k,Q,_,h,hK,a,w,hs=>wpIn_exit (hK (.exit id) st a w h hs)
 | .ret,st,k,Q,_,h,hK,a,w,hs=>wpIn_ret (hK .ret st a w h hs)
 | .scope c,st,k,Q,hd,h,hK,a,w,hs=>by
  refine Vq (Xw hm hΓ c hd h (fun e st' a' w' he hs'=> ?_) a w hs)
  cases e<;>exact hK _ st' a' w' he hs'
 | .label _,st,k,Q,_,h,hK,a,w,hs=>wpIn_label (hK .normal st a w h hs)
 | .loop _,_,_,_,_,h,_,_,_,_=>h.elim
 | .rangeFunc ..,_,_,_,_,h,_,_,_,_=>h.elim
 | .goto _,_,_,_,_,h,_,_,_,_=>h.elim
 | .refuse _,_,_,_,_,h,_,_,_,_=>h.elim
termination_by c=>SizeOf.sizeOf c
end
end Go.Sx
namespace Go.Sx
open Go.RowKit
section
variable {P:Program} {Γ:Gam} {N B:Nat} {w0:K8} {R:Nat→Prop} {rd:Option Nat}
theorem Jkp {l:List Oper} {dr:Bool} {t:Tmp×Tmp×Tmp} (h:Jdo l dr=some t):dr=false∧∃o1 o2,l=[o1,o2]∧o1.op= .next (.tmp t.1) true∧o1.dst=some t.2.1∧o1.guard=none∧o2.op= .extract (.tmp t.2.1) 0∧o2.dst=some t.2.2∧o2.guard=none:=by
 unfold Jdo at h
 split at h
 ·rename_i o1 o2
  split at h
  ·rename_i it d1 d1' d2 h1 h2 h3 h4 h5 h6
   split at h
   ·rename_i e
    subst e
    cases h
    exact⟨rfl,o1,o2,rfl,h1,h2,h3,h4,h5,h6⟩
   ·cases h
  ·cases h
 ·cases h
theorem Dz {l:List (Nat×SV)} {a b t':Nat} {v:SV} (h:look (l.filter fun p=>p.1 !=a&&p.1 !=b) t'=some v):t'≠a∧t'≠b∧look l t'=some v:=by
 induction l with
 |nil=>cases h
 | cons p l ih =>
  rw[List.filter_cons] at h
  split at h
  ·rename_i hp
   simp only[look] at h⊢
   split at h
   ·rename_i e2
    rw[if_pos e2]
    subst e2
    simp at hp
    exact⟨hp.1,hp.2,h⟩
   ·rename_i e2;rw[if_neg e2];exact ih h
  ·rename_i hp
   obtain⟨i1,i2,i3⟩:=ih h
   refine⟨i1,i2, ?_⟩
   simp only[look]
   split
   ·rename_i e2
    subst e2
    simp at hp
    exact absurd (hp i1) i2
   ·exact i3
theorem Jqv [Dr] {ops:Array Oper} {dr:Bool} {t:Tmp×Tmp×Tmp} (hn:Jdo ops.toList dr=some t) (hd:∀o∈ops.toList,∀t,o.dst=some t→t<N) {st:St} {k:Ex→St→Prop} {Q:Exit→Act→World→Prop} (h:Jhd st t k)
  (hK:∀st' a w,k .normal st'→K7 P N B w0 R st' a w→Q .normal a w) (id:Nat) (a:Act) (w:World) (hs:K7 P N B w0 R st a w):(Code.region id ops dr).wpIn (FR rd) 0 P Q a w:=by
 obtain⟨rfl,o1,o2,hl,q1,q2,q3,q4,q5,q6⟩:=Jkp hn
 have hops:ops= #[o1,o2]:=by apply Array.ext';simpa using hl
 subst hops
 have d1N:t.2.1<N:=hd o1 (by simp) _ q2
 have d2N:t.2.2<N:=hd o2 (by simp) _ q5
 obtain⟨ρ,M,al,hal,C⟩:=hs
 unfold Jhd at h
 split at h
 case h_2=>exact h.elim
 rename_i i hi
 split at h
 case h_2=>exact h.elim
 rename_i s pos hr
 obtain⟨hstep,hend⟩:=h
 obtain⟨b,r1,r3,r4,r5,r6⟩:=C.res i _ hr
 have hit:a.eval (.tmp t.1)= .pointer (some ⟨b,0,none⟩):=(C.slot t.1 _ hi).trans r1
 have hsa:∀id,Ve al st.nx [] id→al id:=fun id h=>by
  rcases h with h|h
  ·exact h
  ·simp at h;omega
 have run2:∀(u:Value) (w':World),(Instr.next (.pointer (some ⟨b,0,none⟩)) true o1.type).run P w= .ok u w'→∀c v',(u= .tuple (#[Value.bool c]++v'))→Q .normal ((a.put o1.dst u).put o2.dst (.bool c)) w'→(Code.region id #[o1,o2] false).wpIn (FR rd) 0 P Q a w:=by
  intro u w' hu c v' hc hq
  refine wpIn_region ?_
  show wpOpsIn (FR rd) 0 P #[o1,o2] Q [0,1] a w
  rw[wpOpsIn_cons]
  unfold wpOpIn
  have e0:(#[o1,o2]:Array Oper)[0]? =some o1:=rfl
  have e1:(#[o1,o2]:Array Oper)[1]? =some o2:=rfl
  rw[e0]
  simp only[Region.wanted,q3,if_true]
  refine Jbs (by rw[q1];intro c e;cases e) (Jg (u:=u) (w':=w') ?_ ?_)
  ·simp only[execOp,q1,hit]
   exact J2 hu
  ·rw[wpOpsIn_cons]
   unfold wpOpIn
   rw[e1]
   simp only[Region.wanted,q6,if_true]
   refine Jbs (by rw[q4];intro c e;cases e) (Jg (u:= .bool c) (w':=w') ?_ hq)
   have hev:(a.put o1.dst u).eval (.tmp t.2.1)=u:=by
    show(a.put o1.dst u).tmps.getD t.2.1 undef=u
    rw[Fj fun h=>by rw[C.size];exact d1N,if_pos q2]
   simp only[execOp,q4]
   rw[hev,hc]
   have h0:(#[Value.bool c]++v')[0]? =some (.bool c):=by rw[Array.getElem?_append_left (by simp)];rfl
   exact J2 (by simp only[Instr.extract,h0];rfl)
 by_cases hlt:pos<s.size
 ·have g3:(Instr.next (.pointer (some ⟨b,0,none⟩)) true o1.type).run P w= .ok (.tuple #[.bool true, .int .i64 pos, .int .i32 (Ul s pos)]) (J3 w b (.stringIter s (pos+Jdf s pos))):=by
   simp only[Instr.next,getObj,setObj,Sem.run_bind,Sem.run,r3,Result.andThen,hlt,if_true]
   simp[goInt,J3,Ul,Jdf]
  refine run2 _ _ g3 true #[.int .i64 pos, .int .i32 (Ul s pos)] rfl (hK _ _ _ (hstep hlt) ?_)
  have hb:b<w.heap.size:=(Array.getElem?_eq_some_iff.1 r3).1
  have C1:=C.putObj (n:=st.nx) (d:=o1.dst) (x':= .siter s (pos+Jdf s pos)) (fun t' h=>by rw[q2] at h;cases h;exact d1N) hr rfl (b:=b) (by rw[r1];rfl) (.stringIter s (pos+Jdf s pos)) ⟨b,r1,Ui hb,r4,r5,r6⟩
   (fun id hid=>by simp[Res.ids] at hid) (v:= .tup [(false,[.bool true]),(false,[.int .i64 pos]),(false,[.int .i32 (Ul s pos)])]) (u:= .tuple #[.bool true, .int .i64 pos, .int .i32 (Ul s pos)]) rfl (fun id hid=>by simp[SV.ids,J1,SC.ids] at hid)
  have C2:=C1.pure (n:=st.nx) (d:=o2.dst) (v:= .one (.bool true)) (u:= .bool true) (fun t' h=>by rw[q5] at h;cases h;exact d2N) rfl (fun id hid=>by simp[SV.ids,J1,SC.ids] at hid)
  refine⟨ρ,M,Ve al st.nx [],fun id h=>hal id (hsa id h),C2.weaken (fun t' v' h=> ?_) (fun id x h=> ?_) fun id=>⟨.inl,fun h=>by
   rcases h with h|h
   ·exact h
   ·simp at h;omega⟩⟩
  ·unfold Jm5 at h
   simp only[look] at h
   unfold Vd
   rw[q5,q2]
   split at h
   ·rename_i e;subst e;rw[if_pos rfl];exact h
   ·rename_i e
    rw[if_neg (by simpa using e)]
    split at h
    ·rename_i e2;subst e2;rw[if_pos rfl];exact h
    ·rename_i e2
     rw[if_neg (by simpa using e2)]
     exact(Dz h).2.2
  ·unfold Ki
   rw[if_neg (by simp)]
   simp only[look]
   rw[if_neg (by simp)]
   have h':look (J5 st.rs (i,some (.siter s (pos+Jdf s pos)))) id=some x:=h
   rw[J8] at h'
   split at h'
   ·rename_i e;subst e;rw[if_pos rfl];exact h'
   ·rename_i e;rw[if_neg (Ne.symm e)];exact h'
 ·have g1:(Instr.next (.pointer (some ⟨b,0,none⟩)) true o1.type).run P w= .ok (.tuple #[.bool false]) w:=by
   simp only[Instr.next,getObj,setObj,Sem.run_bind,Sem.run,r3,Result.andThen,hlt,if_false]
   simp
  refine run2 _ _ g1 false #[] rfl (hK _ _ _ (hend hlt) ?_)
  have C1:=C.pure (n:=st.nx) (d:=o1.dst) (v:= .tup [(false,[.bool false])]) (u:= .tuple #[.bool false]) (fun t' h=>by rw[q2] at h;cases h;exact d1N) rfl (fun id hid=>by simp[SV.ids,J1,SC.ids] at hid)
  have C2:=C1.pure (n:=st.nx) (d:=o2.dst) (v:= .one (.bool false)) (u:= .bool false) (fun t' h=>by rw[q5] at h;cases h;exact d2N) rfl (fun id hid=>by simp[SV.ids,J1,SC.ids] at hid)
  refine⟨ρ,M,Ve al st.nx [],fun id h=>hal id (hsa id h),C2.weaken (fun t' v' h=> ?_) (fun id x h=> ?_) fun id=>⟨.inl,fun h=>by
   rcases h with h|h
   ·exact h
   ·simp at h;omega⟩⟩
  ·unfold Zh at h
   simp only[look] at h
   unfold Vd
   rw[q5,q2]
   split at h
   ·rename_i e;subst e;rw[if_pos rfl];exact h
   ·rename_i e
    rw[if_neg (by simpa using e)]
    obtain⟨i1,i2,i3⟩:=Dz h
    rw[if_neg (by simpa using Ne.symm i1)]
    exact i3
  ·unfold Ki
   rw[if_neg (by simp)]
   simp only[look]
   rw[if_neg (by simp)]
   exact h
end
end Go.Sx
namespace Go.Sx
open Go.RowKit
theorem Lg [Dr] {P:Program} {M R:Nat→Prop} {w:World}:∀{ks:List AK} {x:ATup ks} {vs:List Value},Vl P M R w ks x vs→vs.length=ks.length
 |[],_,_,h=>by rw[show _=[] from h];rfl
 |_::_,_,_,⟨v,vs',e,_,h⟩=>by rw[e,List.length_cons,List.length_cons,Lg h]
def Jub [Dr] (P:Program) (M R:Nat→Prop) (w:World) (n:Nat) (cs:List SV) (rs:List Res) (vs:List Value) (vals:List Value):Prop:=
 vals.length=rs.length∧(∀u∈vals,u.oneCell'=true)∧(∀v∈cs,∀id∈v.ids,n≤id∧id<n+rs.length)∧(∀y∈rs,y.owning=false∧y.ids=[])∧
 ∀ρ:Env,(∀i u,vals[i]? =some u→ρ (n+i)=u)→cs.map (SV.den ρ)=vs∧∀i y B,rs[i]? =some y→Uh P ρ M R B w (n+i) y
theorem Jk0 [Dr] {P:Program} {M R:Nat→Prop} {w:World} (n:Nat):∀{k:AK} {x:k.T} {v:Value},Jh5 P M R w k x v→∃vals,Jub P M R w n [(Kn k x n).1] (Kn k x n).2 [v] vals
 | .val g s, x, v, h => by
  obtain⟨cv,rfl,hr⟩:=h
  have h2:=Y7 hr
  obtain⟨i1,i2,i3⟩:=V2 (n:=n) h2
  refine⟨Jo (enc s x) cv,i1,fun u hu=> ?_,fun v hv id hid=> ?_,fun y hy=> ?_,fun ρ hρ=>⟨?_,fun i y B hy=> ?_⟩⟩
  ·obtain⟨i,hi⟩:=List.getElem?_of_mem hu
   have hlt:i<(Ka (enc s x) n).2.length:=by rw[←i1];exact(List.getElem?_eq_some_iff.1 hi).1
   obtain⟨T,s',xs,v,_,e2,_,e4⟩:=i3 i _ (List.getElem?_eq_getElem hlt)
   rw[hi] at e2;cases e2;exact e4
  ·have:v= .v g (Ka (enc s x) n).1:=by simpa[Kn] using hv
   subst this
   exact Um h2 id hid
  ·obtain⟨i,hi⟩:=List.getElem?_of_mem hy
   obtain⟨T,s',xs,v,rfl,_⟩:=i3 i y hi
   exact⟨rfl,rfl⟩
  ·have:=i2 ρ hρ
   simp only[Kn,List.map_cons,List.map_nil,SV.den]
   rw[←this]
  ·obtain⟨T,s',xs,v,rfl,e2,e3,_⟩:=i3 i y hy
   unfold Uh
   rw[hρ i v e2]
   exact e3
 | .ref T s, x, v, h => by
  have h':=h
  obtain⟨b,cs,rfl,_⟩:=h'
  refine⟨[.pointer (some ⟨b,0,none⟩)],rfl,fun u hu=>by simp at hu;subst hu;rfl,fun v hv id hid=> ?_,fun y hy=> ?_,fun ρ hρ=>⟨?_,fun i y B hy=> ?_⟩⟩
  ·have:v= .one (.ptr n 0):=by simpa[Kn] using hv
   subst this
   simp[SV.ids,J1,SC.ids] at hid
   subst hid
   exact⟨Nat.le_refl _,by simp[Kn]⟩
  ·have:y= .rbox T s x:=by simpa[Kn] using hy
   subst this
   exact⟨rfl,rfl⟩
  ·have e:=hρ 0 _ rfl
   simp only[Nat.add_zero] at e
   simp[Kn,SV.den,valOf,SC.den,e]
  ·have hi:i=0:=by have:=(List.getElem?_eq_some_iff.1 hy).1;simp[Kn] at this;omega
   subst hi
   have:y= .rbox T s x:=by simpa[Kn] using hy.symm
   subst this
   unfold Uh
   rw[hρ 0 _ rfl]
   exact h
 | .fn ps r, x, v, h => by
  have h':=h
  obtain⟨f,first,caps,rfl,_⟩:=h'
  refine⟨[.func (.func f) first caps],rfl,fun u hu=>by simp at hu;subst hu;rfl,fun v hv id hid=> ?_,fun y hy=> ?_,fun ρ hρ=>⟨?_,fun i y B hy=> ?_⟩⟩
  ·have:v= .one (.fv n):=by simpa[Kn] using hv
   subst this
   simp[SV.ids,J1,SC.ids] at hid
   subst hid
   exact⟨Nat.le_refl _,by simp[Kn]⟩
  ·have:y= .afn ps r x.1 x.2:=by simpa[Kn] using hy
   subst this
   exact⟨rfl,rfl⟩
  ·have e:=hρ 0 _ rfl
   simp only[Nat.add_zero] at e
   simp[Kn,SV.den,valOf,SC.den,e]
  ·have hi:i=0:=by have:=(List.getElem?_eq_some_iff.1 hy).1;simp[Kn] at this;omega
   subst hi
   have:y= .afn ps r x.1 x.2:=by simpa[Kn] using hy.symm
   subst this
   unfold Uh
   rw[hρ 0 _ rfl]
   exact h
theorem Jay [Dr] {P:Program} {M R:Nat→Prop} {w:World}:∀{ks:List AK} {x:ATup ks} {vs:List Value} (n:Nat),Vl P M R w ks x vs→∃vals,Jub P M R w n (Ky ks x n).1 (Ky ks x n).2 vs vals
 |[],_,vs,n,h=>by
  have:vs=[]:=h
  subst this
  exact⟨[],rfl,fun u hu=>by simp at hu,fun v hv=>by simp[Ky] at hv,fun y hy=>by simp[Ky] at hy,fun ρ _=>⟨rfl,fun i y B hy=>by simp[Ky] at hy⟩⟩
 | k :: r, x, vs, n, h => by
  obtain⟨v,vs',rfl,h1,h2⟩:=h
  obtain⟨va,a1,a2,a3,a4,a5⟩:=Jk0 n h1
  obtain⟨vb,b1,b2,b3,b4,b5⟩:=Jay (n+(Kn k x.1 n).2.length) h2
  refine⟨va++vb,by simp[Ky,a1,b1],fun u hu=>(List.mem_append.1 hu).elim (a2 u) (b2 u),fun v hv id hid=> ?_,fun y hy=>(List.mem_append.1 hy).elim (a4 y) (b4 y),fun ρ hρ=> ?_⟩
  ·simp only[Ky,List.length_append]
   rcases List.mem_cons.1 hv with rfl|hv
   ·have:=a3 _ (by simp) id hid;omega
   ·have:=b3 v hv id hid;omega
  ·have ha:=a5 ρ fun i u hu=>hρ i u (by rw[List.getElem?_append_left (List.getElem?_eq_some_iff.1 hu).1];exact hu)
   have hb:=b5 ρ fun i u hu=>by
    have:=hρ (va.length+i) u (by rw[List.getElem?_append_right (Nat.le_add_right _ _)];simpa using hu)
    rw[a1] at this
    rwa[Nat.add_assoc]
   refine⟨?_,fun i y B hy=> ?_⟩
   ·have e1:=ha.1
    simp only[List.map_cons,List.map_nil,List.cons.injEq,and_true] at e1
    simp only[Ky,List.map_cons,e1,hb.1]
   ·simp only[Ky] at hy
    by_cases hlt:i<(Kn k x.1 n).2.length
    ·rw[List.getElem?_append_left hlt] at hy
     exact ha.2 i y B hy
    ·rw[List.getElem?_append_right (by omega)] at hy
     have:=hb.2 _ y B hy
     rwa[show n+(Kn k x.1 n).2.length+(i-(Kn k x.1 n).2.length)=n+i by omega] at this
theorem U8 {α:Type} {t:Nat}:∀{l:List α} {n:Nat},look (Jko l n) t=if n≤t then l[t-n]? else none
 |[],n=>by simp[Jko,look]
 | x :: r, n => by
  simp only[Jko,look]
  by_cases e:n=t
  ·subst e;simp
  ·rw[if_neg e,U8]
   by_cases h:n+1≤t
   ·rw[if_pos h,if_pos (by omega),show t-n=(t-(n+1))+1 by omega]
    simp
   ·rw[if_neg h,if_neg (by omega)]
theorem Jiy [Dr] (mk:Bool) {P:Program} {c:Con} {x:ATup c.args} {M R:Nat→Prop} {w:World} {vs:List Value} {N:Nat} (h:Vl P M R w c.args x vs) (hM:∀b,M b∨R b→b<w.heap.size) (hN:c.args.length≤N) (hgood:Good P w):
  K7 P N w.heap.size ⟨w,M,fun _=>none,mk⟩ R (Jav c x) {tmps:=vs.toArray++Array.replicate (N-vs.toArray.size) undef,defers:=[]} w:=by
 obtain⟨vals,a1,a2,a3,a4,a5⟩:=Jay 0 h
 let ρ:Env:=fun id=>vals.getD id undef
 have hρ:∀i u,vals[i]? =some u→ρ (0+i)=u:=fun i u hu=>by
  show vals.getD (0+i) undef=u
  rw[Nat.zero_add,List.getD_eq_getElem?_getD,hu];rfl
 obtain⟨e1,e2⟩:=a5 ρ hρ
 have hlen:=Lg h
 have hrs:∀r y,look (Jav c x).rs r=some y→(Ky c.args x 0).2[r]? =some y:=fun r y hy=>by
  simp only[Jav] at hy
  rw[U8,if_pos (Nat.zero_le _)] at hy
  exact hy
 refine⟨ρ,M,fun id=>id<(Ky c.args x 0).2.length,fun id h=>h,⟨?_,⟨fun d hd=>by simp at hd, .nil⟩,fun _=>rfl,fun _ _=>rfl,fun _ _=>rfl,Below.refl _ _,Nat.le_refl _, ?_, ?_, ?_, ?_, ?_,hM, ?_,fun b=>⟨fun h=> .inl h,fun h=>h⟩,hgood⟩⟩
 ·simp;omega
 ·intro t sv ht
  simp only[Jav] at ht
  rw[U8,if_pos (Nat.zero_le _),Nat.sub_zero] at ht
  have:vs[t]? =some (sv.den ρ):=by rw[←e1,List.getElem?_map,ht];rfl
  have hlt:t<vs.length:=(List.getElem?_eq_some_iff.1 this).1
  simp[Array.getD_eq_getD_getElem?,Array.getElem?_append,hlt]
  rw[List.getElem?_eq_getElem hlt] at this
  simpa using this
 ·intro t sv ht id hid
  simp only[Jav] at ht
  rw[U8,if_pos (Nat.zero_le _)] at ht
  have:=a3 sv (List.mem_of_getElem? ht) id hid
  omega
 ·intro r y hy
  have:=e2 r y w.heap.size (hrs r y hy)
  rw[Nat.zero_add] at this
  exact this.a
 ·intro r y hy
  have h1:=hrs r y hy
  exact⟨(List.getElem?_eq_some_iff.1 h1).1,fun id hid=>by rw[(a4 y (List.mem_of_getElem? h1)).2] at hid;simp at hid⟩
 ·intro r r' y y' _ hy _ ho
  rw[(a4 y (List.mem_of_getElem? (hrs r y hy))).1] at ho;cases ho
 ·intro i hi
  have hlt:i<vals.length:=by rw[a1];exact hi
  have:=hρ i _ (List.getElem?_eq_getElem hlt)
  rw[Nat.zero_add] at this
  rw[this]
  exact a2 _ (List.getElem_mem hlt)
section
variable {P:Program} {N B:Nat} {w0:K8} {al:Nat→Prop} {a:Act} {w:World} {ρ:Env} {M R:Nat→Prop} {s:St}
def Jb8 (tmps:Array Value):ResultVar→Sem Value
 | .tmp t=>pure (tmps.getD t undef)
 | .cell b t=>do loadVar t (←asAddr (tmps.getD b undef))
theorem Jb7 (fn:Func) (tmps:Array Value):results fn tmps=(fn.results.mapM (Jb8 tmps)>>=fun vs=>pure (if h:vs.size=1 then vs[0] else .tuple vs)):=by
 unfold results
 congr 1
theorem Lx [Dr] (C:Jl P N B w0 al (look s.sl) (look s.rs) a w ρ M R):∀{l:List ResultVar} {vs:List SV},Uf P s l=some vs→
  (l.mapM (Jb8 a.tmps)).run P w= .ok (vs.map (SV.den ρ)) w
 |[],vs,h=>by cases h;rfl
 | .tmp t :: r, vs, h => by
  simp only[Uf] at h
  split at h
  ·rename_i v l hv hl
   cases h
   have:=Lx C hl
   rw[List.mapM_cons,Sem.run_bind]
   simp only[Jb8,Sem.run_pure,Result.andThen_ok,Sem.run_bind,this,C.slot t v hv,List.map_cons]
  ·cases h
 | .cell t T :: r, vs, h => by
  simp only[Uf] at h
  split at h
  ·rename_i i l hv hl
   split at h
   ·rename_i U cs hr
    split at h
    ·rename_i hc
     obtain⟨e,hm⟩:=hc
     subst e
     split at h
     ·rename_i v hsh
      cases h
      have:=Lx C hl
      obtain⟨ad,h1,h2⟩:∃ad,(loadVar U ad).run P w= .ok (v.den ρ) w∧(SC.ptr i 0).den ρ= .pointer (some ad):=by
       obtain⟨h1,h2,_⟩:=Jdw C (off:=0) hr hm (by omega) (v:=v) (by simpa using hsh)
       exact⟨_,h1,h2⟩
      have hslot:a.tmps.getD t undef= .pointer (some ad):=(C.slot t _ hv).trans h2
      have hA:(asAddr (a.tmps.getD t undef)).run P w= .ok ad w:=by rw[hslot];rfl
      have hv1:(Jb8 a.tmps (.cell t U)).run P w= .ok (v.den ρ) w:=by
       simp only[Jb8,Sem.run_bind,hA,Result.andThen_ok,h1]
      rw[List.mapM_cons,Sem.run_bind,hv1]
      simp only[Sem.run_bind,Sem.run_pure,Result.andThen_ok,this,List.map_cons]
     ·cases h
    ·cases h
   ·cases h
  ·cases h
theorem Zv [Dr] (C:Jl P N B w0 al (look s.sl) (look s.rs) a w ρ M R) {fn:Func} {vs:List SV} (h:Uf P s fn.results.toList=some vs):(results fn a.tmps).run P w= .ok (Jum (vs.map (SV.den ρ))) w:=by
 have h1:=Lx C h
 rw[Jb7]
 have h2:(fn.results.mapM (Jb8 a.tmps)).run P w= .ok (vs.map (SV.den ρ)).toArray w:=by
  rw[Array.mapM_eq_mapM_toList]
  simp only[Sem.run_map,h1]
  rfl
 rw[Sem.run_bind,h2]
 simp only[Result.andThen_ok,Sem.run_pure]
 congr 1
 match vs with
 |[]=>rfl
 |[v]=>rfl
 |v::u::r=>rfl
theorem Je6 {rs:Nat→Option Res} {owns:List Bool} {vs:List SV} {i:Nat} {y:Option Res} (h:look (Je7 rs owns vs) i=some y):∃T s xs,rs i=some (.own T s xs)∧y=some (.imm T s xs):=by
 obtain⟨v,_,hy⟩:=List.mem_flatMap.1 (Jr h)
 cases v with
 |v g cs=>exact Un hy
 |tup l=>simp at hy
theorem Ds {p:Bool×Sch} {b:Bool} {x:p.2.T} {v:Value} {M:Nat→Prop} {w:World} {B:Nat} (hb:b=false) (h:∃cs,v=valOf p.1 cs∧Rep M w p.2 x cs):Jbm M w B p b x v:=by
 subst hb
 exact h
theorem Ht [Dr] (C : Jl P N B w0 al (look s.sl) (look s.rs) a w ρ M R) (upd : List (Nat × Option Res)) (hupd : ∀ i y, look upd i = some y → ∃ T s' xs, look s.rs i = some (.own T s' xs) ∧ y = some (.imm T s' xs)) :
  ∀{ps:List (Bool×Sch)} {ow:List Bool} {vs:List SV} {y:Tup ps},Zs (look s.rs) ps vs=some y→Jfm (look s.rs) upd ps ow vs=true→
   (∀v∈H0 ow vs,∀g cs i T s' xs,v= .v g cs→SC.sl i∈cs→look s.rs i=some (.own T s' xs)→(look upd i).isSome=true)→
   Zp (fun b=>M b∨∃i y T s' xs,look upd i=some y∧look s.rs i=some (.own T s' xs)∧(ρ i).ownBlock=some b) w B ps ow y (vs.map (SV.den ρ))
 |[],ow,[],y,_,_,_=>rfl
 |[],_,_::_,_,h,_,_=>by simp[Zs] at h
 |_::_,_,[],_,h,_,_=>by simp[Zs] at h
 | p :: r, ow, v :: vs, y, h, ho, hf => by
  cases v with
  |tup _=>simp[Zs] at h
  | v g cs =>
   simp only[Zs] at h
   split at h
   ·rename_i e;subst e
    split at h
    ·rename_i x z h1 h2
     cases h
     have plain:(∀i T s' xs,SC.sl i∈cs→look s.rs i=some (.own T s' xs)→(look upd i).isSome=true)→
       ∃cv,(SV.v p.1 cs).den ρ=valOf p.1 cv∧Rep (fun b=>M b∨∃i y T s' xs,look upd i=some y∧look s.rs i=some (.own T s' xs)∧(ρ i).ownBlock=some b) w p.2 x cv:=by
      intro hfz
      refine⟨cs.map (SC.den ρ),rfl,Yv (P:=P) (R:=R) (B:=B) (M:=M) (fun b hb=> .inl hb) h1 (fun i y hy=>C.res i y hy) fun i T s' xs g hi hr hg=> ?_⟩
      obtain⟨y,hy⟩:=Option.isSome_iff_exists.1 (hfz i T s' xs hi hr)
      exact .inr ⟨i,y,T,s',xs,hy,hr,hg⟩
     cases ow with
     | nil =>
      refine⟨_,_,rfl,Ds rfl (plain fun i T s' xs hi hr=>hf (.v p.1 cs) (by simp[H0]) p.1 cs i T s' xs rfl hi hr),Ht C upd hupd h2 (ow:=[]) (by unfold Jfm;cases r<;>rfl) fun v hv=>hf v (by
       cases vs with
       |nil=>simp[H0] at hv
       |cons u us=>simp only[H0] at hv⊢;exact List.mem_cons_of_mem _ hv)⟩
     | cons b ow =>
      simp only[Jfm,Bool.and_eq_true] at ho
      have htail:Zp (fun b=>M b∨∃i y T s' xs,look upd i=some y∧look s.rs i=some (.own T s' xs)∧(ρ i).ownBlock=some b) w B r ow z (vs.map (SV.den ρ)):=
       Ht C upd hupd h2 ho.2 fun v hv=>hf v (by
        simp only[H0]
        split
        ·exact hv
        ·exact List.mem_cons_of_mem _ hv)
      refine⟨_,_,rfl, ?_,htail⟩
      cases b with
      |false=>exact Ds rfl (plain fun i T s' xs hi hr=>hf (.v p.1 cs) (by simp[H0]) p.1 cs i T s' xs rfl hi hr)
      | true =>
       have ho1:=ho.1
       simp only[if_true] at ho1
       obtain⟨g,sch⟩:=p
       unfold Jst at ho1
       split at ho1
       ·rename_i T s0 i hp hv
        cases hp;cases hv
        split at ho1
        ·rename_i T' s1 xs hr
         simp only[Bool.and_eq_true,decide_eq_true_eq,Option.isNone_iff_eq_none] at ho1
         obtain⟨e,hno⟩:=ho1
         subst e
         have h1':Zw s0 (look s.rs i)=some x:=h1
         rw[hr] at h1'
         simp only[Zw] at h1'
         split at h1'
         ·rename_i e
          subst e
          have hx:xs=x:=by simpa[Y9] using h1'
          subst hx
          obtain⟨flat,f1,f2,f3⟩:=C.res i _ hr
          refine⟨flat,f1.imp fun _ _ h=>h.keep fun b hb=>⟨.inl hb,rfl⟩,f2,fun g hg=> ?_⟩
          rintro(hm|⟨i',y,T,s',xs',u1,u2,u3⟩)
          ·exact(f3 g hg).1 hm
          ·have hne:i≠i':=by rintro rfl;rw[hno] at u1;cases u1
           exact C.apart i i' _ _ hne hr u2 rfl rfl g (Jk hg) (Jk u3)
         ·cases h1'
        ·cases ho1
       ·rename_i T s0 hp hv
        cases hp;cases hv
        have h1':x=[]:=by
         have:some []=some x:=h1
         exact(Option.some.inj this).symm
        subst h1'
        exact⟨[],rfl,⟨by simp, .inl ⟨rfl,rfl⟩⟩,fun g hg=>by cases hg⟩
       ·cases ho1
    ·cases h
   ·cases h
theorem Jc1:∀{ps:List (Bool×Sch)} {x y:Tup ps},Kf (Jlt ps x y)→x=y
 |[],_,_,_=>rfl
 |_::r,x,y,h=>by
  simp only[Jlt,Xv] at h
  exact Prod.ext h.1 (Jc1 h.2)
theorem Ji0 {l:List Prop} {q:Prop} (h:Jw8 l q) (hl:Kf l):q:=by
 induction l with
 |nil=>exact h
 |cons p r ih=>
  rw[Xv] at hl
  exact ih (h hl.1) hl.2
theorem Je [Dr] {P:Program} {Γ:Gam} {f:FuncId} {fn:Func} {c:Con} (hm:P.follows .mixedOrders=true) (hΓ:Ut P Γ) (hf:P.funcs[f]? =some fn) (hs:Lr fn c=true)
  (ann:ATup c.args→Nat→Option Ann) (h:∀x:ATup c.args,wpF P Γ (ann x) fn c x):Ok P f c:=by
 unfold Lr at hs
 cases hb:fn.body with
 |none=>rw[hb] at hs;cases hs
 | some code =>
  rw[hb] at hs
  simp only[Bool.and_eq_true,Bool.not_eq_true',Nat.ble_eq] at hs
  obtain⟨⟨⟨⟨hd,hN⟩,hname⟩,hsn⟩,hpn⟩:=hs
  refine⟨⟨fn,hf,by rw[hb];rfl,hname⟩,fun z hz=>(by rw[hz] at hsn;cases hsn),fun F hF=>(by rw[hF] at hpn;cases hpn),fun _ x M R w vs hM hgood hpre hargs=> ?_⟩
  have hx:=h x
  unfold wpF at hx
  rw[hb] at hx
  have hw:=Ji0 hx hpre
  refine X9.1 (callsIn_of_wp (F:=FR none) (n:=0) hf hb trivial (Xw (rd:=none) (N:=fn.ntmps) (B:=w.heap.size) (w0:=⟨w,M,fun _=>none,false⟩) (R:=R) hm hΓ code hd hw (fun e st' a' w' he hs'=> ?_) _ w (Jiy false hargs hM hN hgood)))
  have key : Jw4 P fn c x st' → a'.defers = [] ∧ ∃ v, (results fn a'.tmps).run P w' = .ok v w' ∧ Jj7 M w c.ress c.owns (c.spec x) (.returned v) w' := by
   intro hr
   obtain⟨ρ,M',al,_,C⟩:=hs'
   unfold Jw4 at hr
   split at hr
   ·rename_i rv hrv
    split at hr
    ·rename_i y hy
     split at hr
     ·rename_i ho
      have e:=Jc1 hr
      subst e
      refine⟨C.nomark rfl,_,Zv C hrv, ?_⟩
      have hres:=Ht C (Je7 (look st'.rs) c.owns rv) (fun i y h=>Je6 h) hy ho (fun v hv g cs i T s' xs e hi hr=>by
       subst e
       exact Km hv (Ug hi hr))
      refine⟨_,_,rfl,C.below,fun b hb=> .inl ((C.up b).2 hb),fun b hb=> ?_,hres⟩
      rcases hb with hb|⟨i,y,T,s',xs,_,hr',hg⟩
      ·rcases(C.up b).1 hb with h1|h1
       ·exact .inl h1
       ·exact .inr ⟨h1.1,C.old b (.inl hb)⟩
      ·have:=C.notM hr' rfl (Jk hg)
       exact .inr ⟨this.2.2.1,this.2.2.2⟩
     ·exact hr.elim
    ·exact hr.elim
   ·exact hr.elim
  cases e with
  |normal=>exact key he
  |exit i=>exact he.elim
  |ret=>exact key he
end
end Go.Sx
namespace Go.Sx
open Go.RowKit
abbrev YK:=Nat→St→List SV→(Bool→St→Prop)→Prop
abbrev IL:=FuncId→St→List SV→(SV→St→Prop)→Prop
def Kfs:IL:=fun _ _ _ _=>False
def Jqu:YK:=fun _ _ _ _=>False
abbrev IT:=FuncId→St→YK→(St→Prop)→Prop
def Vc (st:St) (d:Option Tmp) (v:SV) (news:List Res) (upd:List (Nat×Option Res)):St:=
 ⟨st.nx+news.length,match d with
  |some t=>(t,v)::st.sl.filter fun p=>p.1 !=t
  |none=>st.sl,Jm7 news st.nx++upd.reverse.foldl J5 st.rs⟩
def evK (st:St):Operand→Option SV
 | .tmp t=>look st.sl t
 | .const v=>some (ofValue v)
 | .func f=>some (.v false [.fn f])
 | .global g=>some (.v false [.val (.pointer (some ⟨g,0,none⟩))])
def Jpw (st : St) (o : Oper) : Option (Nat × List SV) := match o.op with
 | .call c => match c.callee with
  | .value (.tmp t) => match look st.sl t, evL (evK st) c.args.toList with
   |some (.v false [.fv y]),some l=>match look st.rs y with
    |some (.yld .ready)=>some (y,l)
    |_=>none
   |_,_=>none
  |_=>none
 |_=>none
def Jap (ops:List Oper) (j:Nat):Bool:=ops.any fun o=>match o.guard with
 |some (g,_)=>Nat.beq g j
 |none=>false
def Jnv (ops:List Oper) (j:Nat):Option Tmp:=match ops[j]? with
 |some p=>p.dst
 |none=>none
def Jjq (st : St) (o : Oper) : Option (FuncId × List SV) := match o.op with
 | .call c => match c.callee with
  | .value x => match evK st x, evL (evK st) c.args.toList with
   |some (.v false [.fn f]),some l=>some (f,l)
   |some (.v false [.fno (some f)]),some l=>some (f,l)
   |some (.v false [.fv j]),some l=>match look st.rs j with
    |some (.clo f first caps)=>some (f,first++l++caps)
    |_=>none
   |_,_=>none
  |_=>none
 |_=>none
def Jby (W:Nat→St→(Ex→St→Prop)→Prop) (id:Nat) (k:Ex→St→Prop):Nat→St→Prop
 |0,_=>False
 |n+1,st=>W (n+1) st (Ex.andThen (Jby W id k n) (Ex.catch id k))
def Jo7 (ann:Nat→Option Ann) (m:Nat):Nat→Option Ann:=fun i=>ann (i+1000*m)
def Fi (P : Program) (Γ : Gam) (yk : YK) (il : IL) (ops : List Oper) : List Oper → Nat → St → (St → Prop) → Prop
 |[],_,st,k=>k st
 | o :: r, n, st, k =>
  let next (st:St) (v:SV) (news:List Res) (upd:List (Nat×Option Res)):Prop:=match Jap ops n with
   |true=>match v with
    | .v false [.bool b]=>(b=true→Fi P Γ yk il ops r (n+1) (Vc st o.dst (.one (.bool true)) news upd) k)∧(b=false→Fi P Γ yk il ops r (n+1) (Vc st o.dst (.one (.bool false)) news upd) k)
    |_=>False
   |false=>Fi P Γ yk il ops r (n+1) (Vc st o.dst v news upd) k
  let skip:Prop:=Fi P Γ yk il ops r (n+1) (Vc st o.dst Ju [] []) k
  let run : Prop := match Jpw st o with
   |some yl=>yk yl.1 st yl.2 fun b st'=>Fi P Γ yk il ops r (n+1) (Vc st' o.dst (.one (.bool b)) [] []) k
   | none => match o.op with
    | .pick c x y => match evK st c with
     |some (.v false [.bool b])=>match evK st (bif b then x else y) with
      |some v=>next st v [] []
      |none=>False
     |_=>False
    | _ => match opS P Γ (evK st) (look st.rs) st.nx o with
     |some out=>Lo out.pre (next st out.val out.news out.upd)
     |none=>match Jjq st o with
      |some fl=>il fl.1 st fl.2 fun v st'=>next st' v [] []
      |none=>False
  match o.guard with
  |none=>run
  | some (j, want) => match Jnv ops j with
   | some t => match look st.sl t with
    |some (.v false [.bool b])=>match b==want with
     |true=>run
     |false=>skip
    |some (.v false [.val (.tuple _)])=>skip
    |_=>False
   |none=>False
def Jik (P:Program) (st:St) (o:Oper):Option SV:=match o.op with
 | .move x=>evK st x
 | .nilCheck x=>match evK st x with
  |some (.v false [.ptr j off])=>some (.one (.ptr j off))
  |_=>none
 | .fieldAddr T x i=>match evK st x,Y6 P T i with
  |some (.v false [.ptr j off]),some (d,_)=>some (.one (.ptr j (off+d)))
  |_,_=>none
 |_=>none
def J8g:List Nat→(Nat→Prop)→Prop
 |[],_=>True
 |[i],f=>f i
 |i::j::l,f=>f i∧J8g (j::l) f
def Juo (P : Program) (Γ : Gam) (il : IL) (ops : Array Oper) : Nat → Array Bool → St → (St → Prop) → Prop
 |0,listed,st,k=>match Region.ready .any ops listed with
  |[]=>k st
  |_=>False
 | n + 1, listed, st, k => match Region.ready .any ops listed with
  |[]=>k st
  |[i]=>match ops[i]? with
   |some o=>Fi P Γ Jqu il [o] [o] 0 st fun st'=>Juo P Γ il ops n (listed.setIfInBounds i true) st' k
   |none=>False
  | r => match r.find? (fun i => Region.free .any ops listed i && match ops[i]? with
    |some o=>(Jik P st o).isSome
    |none=>false) with
   | some i => match ops[i]? with
    |some o=>match Jik P st o with
     |some v=>Juo P Γ il ops n (listed.setIfInBounds i true) (Vc st o.dst v [] []) k
     |none=>False
    |none=>False
   |none=>J8g r fun i=>match ops[i]? with
    |some o=>Fi P Γ Jqu il [o] [o] 0 st fun st'=>Juo P Γ il ops n (listed.setIfInBounds i true) st' k
    |none=>False
def Jun (P:Program) (Γ:Gam) (il:IL) (ops:Array Oper) (st:St) (k:St→Prop):Prop:=
 match ops.toList.all (fun o=>o.guard.isNone)&&Region.noSelect ops with
 |true=>Juo P Γ il ops ops.size (Array.replicate ops.size false) st k
 |false=>False
def Jcz:List (Nat×SV)→List (Nat×SV)
 |[]=>[]
 |p::r=>p::(Jcz r).filter fun q=>q.1 !=p.1
def Jqg:List Tmp→List SV→List (Nat×SV)→List (Nat×SV)
 |p::ps,v::vs,sl=>Jqg ps vs ((p,v)::sl.filter fun q=>q.1 !=p)
 |_,_,sl=>sl
def Jw5:IT:=fun _ _ _ _=>False
def YS.ex:YS→Option Ex
 | .ready=>some .normal
 | .busy=>none
 | .done none=>some .ret
 | .done (some i)=>some (.exit i)
def Jud:Ex→YS
 | .normal=> .ready
 | .exit i=> .done (some i)
 | .ret=> .done none
def Ex.goes:Ex→Bool
 | .normal=>true
 |_=>false
def ykF (y s : Nat) (ps : List Tmp) (ra rb : St → (Ex → St → Prop) → Prop) : YK := fun y' st1 args K =>
 if y' = y ∧ args.length = ps.length then match look st1.rs y, look st1.rs s with
  | some (.yld .ready), some (.sus l) => ra ⟨st1.nx + 1, Jqg ps args l, (st1.nx, .sus (Jcz st1.sl)) :: st1.rs⟩ fun e st2 => match e with
   | .normal => match look st2.rs y with
    |some (.yld .ready)=>rb ⟨st2.nx,st2.sl,J5 st2.rs (y,some (.yld .busy))⟩ fun e st3=>match look st3.rs st1.nx,look st3.rs y with
     |some (.sus li),some (.yld .busy)=>K e.goes ⟨st3.nx,li,J5 (J5 st3.rs (y,some (.yld (Jud e)))) (st1.nx,none)⟩
     |_,_=>False
    |_=>False
   |_=>False
  |_,_=>False
 else False
def Kfy:Option Ann→Bool
 |some A=>A.un==7777
 |none=>false
def Jyk:Option Ann→Bool
 |some A=>A.un==7778
 |none=>false
def Jq6 (st:St) (t:Nat) (b:Bool):St:=⟨st.nx,(t, .v false [.bool b])::st.sl,st.rs⟩
def Jyy (ann:Nat→Option Ann):Code→Option Ann
 | .cond (.tmp t) _ _=>match ann (2000000+t) with
  |some A=>bif A.un==7779 then some A else none
  |none=>none
 | .seq _ b=>Jyy ann b
 | .region id _ _=>match ann (4000000+id) with
  |some A=>bif A.un==7779 then some A else none
  |none=>none
 |_=>none
def wpG (P : Program) (Γ : Gam) : (Nat → Option Ann) → IL → Code → Option YK → IT → St → (Ex → St → Prop) → Prop
 |ann,il, .skip,_,_,st,k=>k .normal st
 | ann, il, .region _ ops dr, yk, _, st, k => match Jfo ops.toList dr with
  |some t=>Jiq st t k
  |none=>match Jdo ops.toList dr with
  |some t=>Jhd st t k
  | none => match J1k P Γ ops.toList dr st with
   |some (ps,st')=>Lo ps (k .normal st')
   | none => match dr with
    |false=>Fi P Γ (yk.getD Jqu) il ops.toList ops.toList 0 st (k .normal)
    |true=>match yk with
     |none=>Jun P Γ il ops st (k .normal)
     |some _=>False
 | ann, il, .seq a b, yk, it, st, k => match Jyy ann a with
  |some A=>match A.rel with
   |none=>wpG P Γ ann il a yk it st (Ex.andThen (fun s=>∃y,Jlf (Jbv A.frz s) (A.σ y)∧A.inv y) k)∧∀y,A.inv y→wpG P Γ ann il b yk it (A.σ y) k
   |some r=>∃x0,wpG P Γ ann il a yk it st (Ex.andThen (fun s=>∃y,Jlf (Jbv A.frz s) (A.σ y)∧A.inv y∧r x0 y) k)∧∀y,A.inv y∧r x0 y→wpG P Γ ann il b yk it (A.σ y) k
  |none=>wpG P Γ ann il a yk it st (Ex.andThen (fun s=>wpG P Γ ann il b yk it s k) k)
 | ann, il, .cond c a b, yk, it, st, k => match c with
  | .tmp t => match look st.sl t with
   | some (.v false [.bool x]) => match Kfy (ann (1000000 + t)) with
    |true=>(match x with
     |true=>wpG P Γ ann il a yk it st k
     |false=>wpG P Γ ann il b yk it st k)
    |false=>match Jyk (ann (1000000+t)) with
     |true=>bif x then wpG P Γ ann il a yk it (Jq6 st t true) k else wpG P Γ ann il b yk it (Jq6 st t false) k
     |false=>(x=true→wpG P Γ ann il a yk it st k)∧(x=false→wpG P Γ ann il b yk it st k)
   |_=>False
  | .const (.bool true)=>wpG P Γ ann il a yk it st k
  | .const (.bool false)=>wpG P Γ ann il b yk it st k
  |_=>False
 | ann, il, .block id (.loop c), yk, it, st, k => match ann id with
  |some A=>match A.un with
   |n+1=>Jby (fun m st k=>wpG P Γ (Jo7 ann m) il c yk it st k) id k (n+1) st
   |0=>match A.rel with
   |none=>∃x,Jlf (Jbv A.frz st) (A.σ x)∧A.inv x∧∀x,A.inv x→wpG P Γ ann il c yk it (A.σ x) (Ex.andThen (fun s=>∃y,Jlf (Jbv A.frz s) (A.σ y)∧A.inv y∧A.mu y<A.mu x) (Ex.catch id k))
   |some r=>∃x0,Jlf (Jbv A.frz st) (A.σ x0)∧(A.inv x0∧r x0 x0)∧∀x,A.inv x∧r x0 x→wpG P Γ ann il c yk it (A.σ x) (Ex.andThen (fun s=>∃y,Jlf (Jbv A.frz s) (A.σ y)∧(A.inv y∧r x0 y)∧A.mu y<A.mu x) (Ex.catch id k))
  |none=>False
 |ann,il, .block id c,yk,it,st,k=>wpG P Γ ann il c yk it st (Ex.catch id k)
 |ann,il, .exit id,_,_,st,k=>k (.exit id) st
 |ann,il, .ret,_,_,st,k=>k .ret st
 |ann,il, .scope c,yk,it,st,k=>wpG P Γ ann il c yk it st k
 |ann,il, .label _,_,_,st,k=>k .normal st
 | ann, il, .rangeFunc g ps a b, _, it, st, k => match g with
  | .tmp t => match look st.sl t with
   |some (.v false [.fv j])=>match look st.rs j with
    | some (.clo f [] caps) => it f ⟨st.nx + 2, Jko (SV.one (.fv st.nx) :: caps) 0, (st.nx, .yld .ready) :: (st.nx + 1, .sus (Jcz st.sl)) :: st.rs⟩
      (ykF st.nx (st.nx+1) ps.toList (wpG P Γ ann il a (some Jqu) Jw5) (wpG P Γ ann il b (some Jqu) Jw5)) fun st2=>match look st2.rs st.nx,look st2.rs (st.nx+1) with
       |some (.yld s),some (.sus l)=>match s.ex with
        |some e=>k e ⟨st2.nx,l,J5 (J5 st2.rs (st.nx,none)) (st.nx+1,none)⟩
        |none=>False
       |_,_=>False
    |_=>False
   |_=>False
  |_=>False
 |_,_,_,_,_,_,_=>False
def Kkk (P:Program) (Γ:Gam) (ann:FuncId→Nat→Option Ann) (il:IL) (c:Code) (f:FuncId) (st:St) (yk:YK) (fin:St→Prop):Prop:=
 wpG P Γ (ann f) il c (some yk) Jw5 st fun e s=>match e with
  | .exit _=>False
  |_=>fin s
def itS (P : Program) (Γ : Gam) (ann : FuncId → Nat → Option Ann) (il : IL) (lib : FuncId → Option Func) : IT := fun f st yk fin => match lib f with
 | some fn => match fn.body with
  | some c => if (Uo fn.ntmps c && Nat.ble st.sl.length fn.ntmps && !(fn.name == "runtime.NumGoroutine") && fn.results.isEmpty) = true then
    Kkk P Γ ann il c f st yk fin
   else False
  |none=>False
 |none=>False
def hasRF:Code→Bool
 | .rangeFunc _ _ _ _=>true
 | .seq a b=>hasRF a||hasRF b
 | .cond _ a b=>hasRF a||hasRF b
 | .block _ c=>hasRF c
 | .loop c=>hasRF c
 | .scope c=>hasRF c
 |_=>false
def Res.soft:Res→Bool
 | .afn _ _ _ _=>false
 |_=>true
def Jpz:List SV→Option (List (Bool×List SC))
 |[]=>some []
 | .v g cs::r=>match Jpz r with
  |some l=>some ((g,cs)::l)
  |none=>none
 | .tup _::_=>none
def Jij:List SV→Option SV
 |[v]=>some v
 |l=>match Jpz l with
  |some ps=>some (.tup ps)
  |none=>none
def J7u (P : Program) (fn : Func) (z : Nat) (m : Bool) (K : SV → St → Prop) : Ex → St → Prop := fun e s => match e with
 | .exit _=>False
 | _ => match m && !(s.rs.all fun p => p.2.soft) with
  |true=>False
  | false => match Uf P s fn.results.toList, look s.rs z with
   |some vs,some (.sus l)=>match Jij vs with
    |some v=>K v ⟨s.nx,l,J5 s.rs (z,none)⟩
    |none=>False
   |_,_=>False
def J7t (P:Program) (Γ:Gam) (ann:FuncId→Nat→Option Ann) (il:IL) (it:IT) (m:Bool) (fn:Func) (c:Code) (f:FuncId) (st:St) (args:List SV) (K:SV→St→Prop):Prop:=
 wpG P Γ (ann f) il c none it ⟨st.nx+1,Jko args 0,(st.nx, .sus (Jcz st.sl))::st.rs⟩ (J7u P fn st.nx m K)
def Jva (Γ : Gam) : IL := fun f st args K => match Γ.get f with
 | some c => match c.srt with
  | some z => match z.rel, args with
   |some r,[.v false [.sl i], .v false [.fn g]]=>match look st.rs i with
    |some (.own T s xs)=>if h:s=z.s∧T=z.T∧g=z.g∧z.s.hasList=false then z.pre (Y9 h.1 xs)∧∀ys:List z.s.T,r (Y9 h.1 xs) ys→K (.tup []) ⟨st.nx,st.sl,J5 st.rs (i,some (.own z.T z.s ys))⟩ else False
    |_=>False
   |_,_=>False
  |none=>False
 |none=>False
def ilS (P : Program) (Γ : Gam) (ann : FuncId → Nat → Option Ann) (lib : FuncId → Option Func) : Nat → IL
 |0=>Kfs
 | n + 1 => fun f st args K => match lib f with
  | some fn => match fn.body with
   | some c => if (Uo fn.ntmps c && Nat.ble args.length fn.ntmps && !(fn.name == "runtime.NumGoroutine")) = true then
     match hasRF c with
     |true=>J7t P Γ ann (ilS P Γ ann lib n) (itS P Γ ann (ilS P Γ ann lib n) lib) true fn c f st args K
     |false=>J7t P Γ ann (ilS P Γ ann lib n) Jw5 false fn c f st args K
    else False
   |none=>False
  |none=>Jva Γ f st args K
def Res.calm:Res→Bool
 | .afn _ _ _ _=>false
 | .sus _=>false
 | .yld _=>false
 |_=>true
@[irreducible] def wpFG (P:Program) (Γ:Gam) (ann:Nat→Option Ann) (annF:FuncId→Nat→Option Ann) (lib:FuncId→Option Func) (fn:Func) (c:Con) (x:ATup c.args):Prop:=
 match fn.body with
 |some code=>Jw8 (c.pre x)<|wpG P Γ ann (ilS P Γ annF lib 5) code none (itS P Γ annF (ilS P Γ annF lib 5) lib) (Jav c x) fun e s=>match e with
  | .exit _=>False
  |_=>(s.rs.all fun p=>p.2.calm)=true∧Jw4 P fn c x s
 |none=>False
end Go.Sx
namespace Go.Sx
open Go.RowKit
theorem Jfh [Dr] {B:Nat} {w:World} {l:Nat} (o:Obj) (h:B≤l):Below B w (w.putObj l o):=
 ⟨rfl,rfl,rfl,by simp,fun k hk=>World.putObj_heap_other (by omega),fun _=>Nat.le_refl _⟩
theorem Uy:∀{l:List (Nat×SV)} {p:Nat×SV},p∈Jcz l→look l p.1=some p.2
 |[],p,h=>by simp[Jcz] at h
 | q :: l, p, h => by
  simp only[Jcz] at h
  rcases List.mem_cons.1 h with rfl|h
  ·simp[look]
  ·rw[List.mem_filter] at h
   simp only[look]
   have:¬q.1=p.1:=fun e=>by simp[e] at h
   rw[if_neg this]
   exact Uy h.1
theorem Jbx.base [Dr] {P:Program} {ρ:Env} {M R:Nat→Prop} {B:Nat} {w0 w0':K8} {w:World} {r:Nat} {x:Res} (h:Jbx P ρ M R B w0 w r x) (he:x.spec=true→w0'.an r=w0.an r):Jbx P ρ M R B w0' w r x:=by
 cases x with
 |sus l=>obtain⟨T,h1,h2⟩:=h;exact⟨T,(he rfl).trans h1,h2⟩
 |yld s=>obtain⟨l,rc,h1,h2⟩:=h;exact⟨l,rc,(he rfl).trans h1,h2⟩
 |_=>exact h
section
variable {P:Program} {N B:Nat} {w0:K8} {al:Nat→Prop} {τ:Nat→Option SV} {σ:Nat→Option Res} {a:Act} {w:World} {ρ:Env} {M R:Nat→Prop}
theorem Jl.putFree [Dr] (C:Jl P N B w0 al τ σ a w ρ M R) {b:Nat} (o':Obj) (hB:B≤b) (hM:¬M b) (hR:¬R b) (ho:∀r x,σ r=some x→x.owning=true→blk (ρ r)≠some b):
  Jl P N B w0 al τ σ a (w.putObj b o') ρ M R:=by
 have hh:∀k,k≠b→(w.putObj b o').heap[k]? =w.heap[k]? :=fun k hk=>World.putObj_heap_other hk
 have hs:(w.putObj b o').heap.size=w.heap.size:=by simp
 have hMb:∀k,M k→(w.putObj b o').heap[k]? =w.heap[k]? :=fun k hk=>hh k fun e=>hM (e▸hk)
 refine⟨C.size,C.defers.keep (fun _ h=>h) hMb,C.nomark,fun k hk=>(hMb k ((C.up k).2 hk)).trans (C.stay k hk),fun k hk=>(hh k fun e=>hR (e▸hk)).trans (C.stayR k hk),C.below.trans (Jfh o' hB),by rw[hs];exact C.base,C.slot,C.slotIds,fun r x hx=> ?_,C.resIds,C.apart,fun k hk=>by rw[hs];exact C.old k hk,C.one,C.up,C.good⟩
 refine(C.resA r x hx).keep rfl (fun _ _=>rfl) (fun _ h=>h) (fun k hk=>hh k ?_) fun hox k hk=>⟨hh k ?_,(C.notM hx hox hk).1⟩
 ·rintro rfl
  rcases hk with hk|hk
  ·exact hM hk
  ·exact hR hk
 ·rintro rfl
  exact ho r x hx hox hk
theorem Jl.setYld [Dr] (C:Jl P N B w0 al τ σ a w ρ M R) {y:Nat} {s s':YS} {lp:Nat} {rc:Loop} (hy:σ y=some (.yld s)) (ha:w0.an y=some (.loop lp rc)):
  Jl P N B w0 al τ (fun id=>if id=y then some (.yld s') else σ id) a (w.putObj lp (.loop {rc with state:=s'.st,pending:=s'.pend})) ρ M R:=by
 obtain⟨l,rc',h1,h2,h3,h4,h5,h6⟩:=C.resA y _ hy
 rw[ha] at h1
 cases h1
 have hblk:blk (ρ y)=some lp:=by rw[h2];rfl
 have C1:Jl P N B w0 al τ (fun id=>if id=y then none else σ id) a w ρ M R:=C.weaken (fun _ _ h=>h) (fun i x h=>by
  split at h
  ·cases h
  ·exact h) fun _=>Iff.rfl
 have C2:=C1.putFree (.loop {rc with state:=s'.st,pending:=s'.pend}) h6 h4 h5 (fun r x hx ho=>by
  split at hx
  ·cases hx
  ·rename_i hne
   intro hb
   exact C.apart r y x _ hne hx hy ho rfl lp hb hblk)
 have hlt:lp<w.heap.size:=(Array.getElem?_eq_some_iff.1 h3).1
 refine⟨C2.size,C2.defers,C2.nomark,C2.stay,C2.stayR,C2.below,C2.base,C2.slot,C2.slotIds,fun r x hx=> ?_,fun r x hx=> ?_,fun r r' x x' hne hx hx' ho ho' b hb hb'=> ?_,C2.old,C2.one,C2.up,C2.good⟩
 ·split at hx
  ·rename_i e;subst e;cases hx
   exact⟨lp,rc,ha,h2,World.putObj_heap_same hlt,h4,h5,h6⟩
  ·rename_i e
   exact C2.resA r x (by rw[if_neg e];exact hx)
 ·split at hx
  ·rename_i e;subst e;cases hx
   exact⟨(C.resIds r _ hy).1,fun id hid=>by simp[Res.ids] at hid⟩
  ·exact C.resIds r x hx
 ·have get:∀{r x},(if r=y then some (Res.yld s') else σ r)=some x→∃x0,σ r=some x0∧(x.owning=true→x0.owning=true):=by
   intro r x h
   split at h
   ·rename_i e;subst e;cases h;exact⟨_,hy,fun _=>rfl⟩
   ·exact⟨x,h,id⟩
  obtain⟨x0,e1,e2⟩:=get hx
  obtain⟨x0',e1',e2'⟩:=get hx'
  exact C.apart r r' x0 x0' hne e1 e1' (e2 ho) (e2' ho') b hb hb'
theorem Jic {ρ:Env} {al:Nat→Prop} {N:Nat}:∀{ps:List Tmp} {vs:List SV} {sl:List (Nat×SV)} {tmps:Array Value},ps.length=vs.length→(∀p∈ps,p<N)→tmps.size=N→
  (∀t v,look sl t=some v→tmps.getD t undef=v.den ρ∧∀id∈v.ids,al id)→(∀v∈vs,∀id∈v.ids,al id)→
  ((ps.zip (vs.map (SV.den ρ))).foldl (fun t (p:Tmp×Value)=>t.setIfInBounds p.1 p.2) tmps).size=N∧
  ∀t v,look (Jqg ps vs sl) t=some v→((ps.zip (vs.map (SV.den ρ))).foldl (fun t (p:Tmp×Value)=>t.setIfInBounds p.1 p.2) tmps).getD t undef=v.den ρ∧∀id∈v.ids,al id
 |[],[],sl,tmps,_,_,hs,h,_=>⟨hs,h⟩
 | p :: ps, v :: vs, sl, tmps, hl, hp, hs, h, hv => by
  simp only[List.map_cons,List.zip_cons_cons,List.foldl_cons,Jqg]
  refine Jic (by simpa using hl) (fun q hq=>hp q (by simp[hq])) (by simpa using hs) (fun t u ht=> ?_) (fun u hu=>hv u (by simp[hu]))
  simp only[look] at ht
  split at ht
  ·rename_i e
   subst e;cases ht
   refine⟨?_,hv _ (by simp)⟩
   have:p<tmps.size:=by rw[hs];exact hp p (by simp)
   simp[Array.getD_eq_getD_getElem?,this]
  ·rename_i e
   rw[Ku] at ht
   split at ht
   ·cases ht
   ·obtain⟨h1,h2⟩:=h t u ht
    refine⟨?_,h2⟩
    rw[←h1]
    simp only[Array.getD_eq_getD_getElem?,Array.getElem?_setIfInBounds_ne e]
 |[],_::_,_,_,hl,_,_,_,_=>by simp at hl
 |_::_,[],_,_,hl,_,_,_,_=>by simp at hl
def Jww [Dr] (P:Program) (N B:Nat) (w0:K8) (R:Nat→Prop) (yk:YK):Prop:=
 ∀ {y : Nat} {st : St} {l : List SV} {K : Bool → St → Prop} {ρ : Env} {M : Nat → Prop} {al : Nat → Prop} {a : Act} {w : World}, (∀ id, al id → id < st.nx) → Jl P N B w0 al (look st.sl) (look st.rs) a w ρ M R → look st.rs y = some (.yld .ready) → (∀ v ∈ l, ∀ id ∈ v.ids, al id) → yk y st l K →
  ∃lp rc,ρ y= .func (.yield lp) #[] #[]∧w.heap[lp]? =some (.loop rc)∧l.length=rc.params.size∧
   RoundIn (FR none) 0 P lp rc.fn ((rc.params.zip (l.map (SV.den ρ)).toArray).foldl (fun t (p:Tmp×Value)=>t.setIfInBounds p.1 p.2) rc.tmps) rc.assign rc.body w fun e w'=>∃b st',e= .returned (.bool b)∧K b st'∧K7 P N B w0 R st' a w'
theorem Jpv {st:St} {o:Oper} {y:Nat} {l:List SV} (h:Jpw st o=some (y,l)):∃c t,o.op= .call c∧c.callee= .value (.tmp t)∧look st.sl t=some (.v false [.fv y])∧evL (evK st) c.args.toList=some l∧look st.rs y=some (.yld .ready):=by
 unfold Jpw at h
 split at h
 ·rename_i c hc
  split at h
  ·rename_i t ht
   split at h
   ·rename_i y' l' h1 h2
    split at h
    ·rename_i h3
     cases h
     exact⟨c,t,hc,ht,h1,h2,h3⟩
    ·cases h
   ·cases h
  ·cases h
 ·cases h
theorem Yl [Dr] {st:St} {o:Oper} {v:SV} {news:List Res} {upd:List (Nat×Option Res)} {a':Act} (hal:∀id,al id→id<st.nx)
  (C:Jl P N B w0 (Ve al st.nx news) (Vd (look st.sl) o.dst v) (Ki (look st.rs) st.nx news upd) a' w ρ M R):K7 P N B w0 R (Vc st o.dst v news upd) a' w:=by
 refine⟨ρ,M,_,fun id h=> ?_,C.weaken (fun t u h=> ?_) (fun id x h=> ?_) fun _=>Iff.rfl⟩
 ·rcases h with h|h
  ·have:=hal id h;simp only[Vc];omega
  ·simp only[Vc];omega
 ·unfold Vc at h
  unfold Vd
  cases hd:o.dst with
  |none=>rw[hd] at h;simpa using h
  | some d =>
   rw[hd] at h
   simp only[look] at h
   split at h
   ·rename_i e;subst e;rw[if_pos rfl];exact h
   ·rename_i e
    rw[Ku] at h
    rw[if_neg (by simpa using e)]
    split at h
    ·cases h
    ·exact h
 ·unfold Vc at h
  simp only at h
  unfold Ki
  rw[L7,Xr] at h
  exact h
end
end Go.Sx

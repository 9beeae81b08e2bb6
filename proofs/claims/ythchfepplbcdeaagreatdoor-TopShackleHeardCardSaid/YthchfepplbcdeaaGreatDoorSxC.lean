/- A symbolic executor over the model and its soundness: part of the proof. -/
import Derived.Test.YthchfepplbcdeaaGreatDoorSxB
import Derived.OpenShut
import Derived.Carry
import Derived.Handed
import Derived.ProofKit
import Derived.LaidMore
import Derived.Shelf.SlSortCmp.WholeK
set_option linter.unusedSimpArgs false
set_option linter.unusedVariables false
namespace Go.Sx
open Go.RowKit
section
variable {P:Program} {Γ:Gam} {N B:Nat} {w0:K8} {R:Nat→Prop}
theorem Ys [Dr] {st:St} {al:Nat→Prop} {a:Act} {w:World} {ρ:Env} {M:Nat→Prop} (C:Jl P N B w0 al (look st.sl) (look st.rs) a w ρ M R):∀x sv,evK st x=some sv→a.eval x=sv.den ρ∧∀id∈sv.ids,al id:=by
 intro x sv h
 cases x with
 |tmp t=>exact⟨C.slot t sv h,C.slotIds t sv h⟩
 |const v=>cases h;exact⟨(Jbe ρ v).symm,fun id hid=>by rw[Jac] at hid;simp at hid⟩
 |func f=>cases h;exact⟨rfl,fun id hid=>by simp[SV.ids,J1,SC.ids] at hid⟩
 |global g=>cases h;exact⟨rfl,fun id hid=>by simp[SV.ids,J1,SC.ids] at hid⟩
theorem Jlo [Dr] {ops:List Oper} {opsA:Array Oper} (hA:opsA.toList=ops) (hN:∀o∈ops,∀t,o.dst=some t→t<N) {st:St} {al:Nat→Prop} {a:Act} {w:World} {ρ:Env} {M:Nat→Prop} (C:Jl P N B w0 al (look st.sl) (look st.rs) a w ρ M R)
  {o:Oper} {j:Nat} {want:Bool} (hg:o.guard=some (j,want)) {t:Tmp} (ht:Jnv ops j=some t):
  (∀b,look st.sl t=some (.v false [.bool b])→Region.wanted o (yielded opsA a.tmps)=(b==want))∧(∀vs,look st.sl t=some (.v false [.val (.tuple vs)])→Region.wanted o (yielded opsA a.tmps)=false):=by
 unfold Jnv at ht
 split at ht
 ·rename_i p hp
  have hopsA:opsA[j]? =some p:=by rw[←Array.getElem?_toList,hA];exact hp
  have htN:t<N:=hN p (List.mem_of_getElem? hp) t ht
  have hsz:t<a.tmps.size:=by rw[C.size];exact htN
  have hy:yielded opsA a.tmps j=match a.tmps.getD t undef with| .bool b=>some b|_=>none:=by
   simp only[yielded,hopsA,Option.bind_some,ht,Array.getD_eq_getD_getElem?,Array.getElem?_eq_getElem hsz,Option.getD_some]
   cases a.tmps[t]<;>rfl
  refine⟨fun b hb=> ?_,fun vs hb=> ?_⟩
  ·have e:=C.slot t _ hb
   unfold Region.wanted
   rw[hg]
   simp only[hy,e,SV.den,List.map_cons,List.map_nil,valOf,SC.den]
   simp
  ·have e:=C.slot t _ hb
   unfold Region.wanted
   rw[hg]
   simp only[hy,e,SV.den,List.map_cons,List.map_nil,valOf,SC.den]
   simp
 ·cases ht
def Jwz [Dr] (P:Program) (il:IL):Prop:=
 ∀{f:FuncId} {st:St} {args:List SV} {K:SV→St→Prop} {N B:Nat} {w0:K8} {R:Nat→Prop} {ρ:Env} {M:Nat→Prop} {al:Nat→Prop} {a:Act} {w:World},(∀id,al id→id<st.nx)→Jl P N B w0 al (look st.sl) (look st.rs) a w ρ M R→(∀v∈args,∀id∈v.ids,al id)→il f st args K→
  Enters P f∧Calls P f (args.map (SV.den ρ)).toArray w fun e w'=>∃v u st' ρ' M' al',e= .returned v∧K u st'∧(∀id,al' id→id<st'.nx)∧Jl P N B w0 al' (look st'.sl) (look st'.rs) a w' ρ' M' R∧v=u.den ρ'∧∀id∈u.ids,al' id
theorem Joj [Dr] {st:St} {al:Nat→Prop} {a:Act} {w:World} {ρ:Env} {M:Nat→Prop} (C:Jl P N B w0 al (look st.sl) (look st.rs) a w ρ M R) {o:Oper} {f:FuncId} {l:List SV} (h:Jjq st o=some (f,l)):
  (∀v∈l,∀id∈v.ids,al id)∧(∃c,o.op= .call c)∧(Enters P f→(execOp a.eval o).run P w= .ok (.enter f (l.map (SV.den ρ)).toArray) w):=by
 unfold Jjq at h
 split at h
 ·rename_i c ho
  split at h
  ·rename_i x hc
   split at h
   ·rename_i f' l' hx hl
    cases h
    obtain⟨h1,h2⟩:=Yc (Ys C) hl
    obtain⟨e1,_⟩:=Ys C x _ hx
    replace e1:a.eval x= .func (.func f) #[] #[]:=e1
    have ha:c.args.map a.eval=(l.map (SV.den ρ)).toArray:=by
     apply Array.ext'
     simpa using h1
    refine⟨h2,⟨c,ho⟩,fun hE=> ?_⟩
    have hr:=Kd hE (l.map (SV.den ρ)).toArray w
    cases x<;>simp[execOp,ho,resolve,hc,e1,Deferred.ofValue,invoke,ha] at hr⊢<;>exact hr
   ·rename_i f' l' hx hl
    cases h
    obtain⟨h1,h2⟩:=Yc (Ys C) hl
    obtain⟨e1,_⟩:=Ys C x _ hx
    replace e1:a.eval x= .func (.func f) #[] #[]:=e1
    have ha:c.args.map a.eval=(l.map (SV.den ρ)).toArray:=by
     apply Array.ext'
     simpa using h1
    refine⟨h2,⟨c,ho⟩,fun hE=> ?_⟩
    have hr:=Kd hE (l.map (SV.den ρ)).toArray w
    cases x<;>simp[execOp,ho,resolve,hc,e1,Deferred.ofValue,invoke,ha] at hr⊢<;>exact hr
   ·rename_i j l' hx hl
    split at h
    ·rename_i f' first caps hj
     cases h
     obtain⟨h1,h2⟩:=Yc (Ys C) hl
     obtain⟨e1,_⟩:=Ys C x _ hx
     replace e1:a.eval x=ρ j:=e1
     have ej:ρ j= .func (.func f) (first.map (SV.den ρ)).toArray (caps.map (SV.den ρ)).toArray:=C.res j _ hj
     have ha:c.args.map a.eval=(l'.map (SV.den ρ)).toArray:=by
      apply Array.ext'
      simpa using h1
     refine⟨fun v hv id hid=> ?_,⟨c,ho⟩,fun hE=> ?_⟩
     ·have hr:=(C.resIds j _ hj).2
      rcases List.mem_append.1 hv with hv|hv
      ·rcases List.mem_append.1 hv with hv|hv
       ·exact hr id (List.mem_append_left _ (List.mem_flatMap.2 ⟨v,hv,hid⟩))
       ·exact h2 v hv id hid
      ·exact hr id (List.mem_append_right _ (List.mem_flatMap.2 ⟨v,hv,hid⟩))
     ·have hr:=Kd hE ((first++l'++caps).map (SV.den ρ)).toArray w
      cases x<;>simp[execOp,ho,resolve,hc,e1,ej,Deferred.ofValue,invoke,ha] at hr⊢<;>exact hr
    ·cases h
   ·cases h
  ·cases h
 ·cases h
theorem F4 [Dr] (hΓ : Ut P Γ) {yk : YK} (hyk : Jww P N B w0 R yk) {il : IL} (hil : Jwz P il) {rd : Option Nat} (hyn : rd = none ∨ yk = Jqu) {ops : List Oper} {opsA : Array Oper} (hA : opsA.toList = ops) (hN : ∀ o ∈ ops, ∀ t, o.dst = some t → t < N) {Q : Exit → Act → World → Prop} {k : St → Prop}
  (hK:∀st' a w,k st'→K7 P N B w0 R st' a w→Q .normal a w):∀(rest:List Oper) (n:Nat) (st:St) (a:Act) (w:World),ops.drop n=rest→Fi P Γ yk il ops rest n st k→K7 P N B w0 R st a w→wpOpsIn (FR rd) 0 P opsA Q (List.range' n rest.length) a w
 |[],n,st,a,w,_,h,hs=>hK st a w h hs
 | o :: r, n, st, a, w, hd, h, hs => by
  have hat:ops[n]? =some o:=by
   have:(ops.drop n)[0]? =some o:=by rw[hd];rfl
   rw[List.getElem?_drop] at this
   simpa using this
  have hdr:ops.drop (n+1)=r:=by
   have:(ops.drop n).drop 1=r:=by rw[hd];rfl
   rw[List.drop_drop] at this
   exact this
  have hoA:opsA[n]? =some o:=by rw[←Array.getElem?_toList,hA];exact hat
  have hdN:∀t,o.dst=some t→t<N:=hN o (List.mem_of_getElem? hat)
  rw[List.length_cons,List.range'_succ,wpOpsIn_cons]
  unfold wpOpIn
  rw[hoA]
  simp only
  obtain⟨ρ,M,al,hal,C⟩:=id hs
  have ih:=fun st' a' w'=>F4 hΓ @hyk @hil hyn hA hN hK r (n+1) st' a' w' hdr
  have hfr:∀(news:List Res) id,al id→¬(st.nx≤id∧id<st.nx+news.length):=fun news id h=>by have:=hal id h;omega
  have hskip:Fi P Γ yk il ops r (n+1) (Vc st o.dst Ju [] []) k→(∀f,o.about P w a.eval=some f→(FR rd).fn f)∧wpOpsIn (FR rd) 0 P opsA Q (List.range' (n+1) r.length) (a.put o.dst undef) w:=fun h=>by
   refine⟨fun _ _=>trivial,ih _ _ _ h (Yl hal (C.pure (n:=st.nx) hdN ?_ ?_))⟩
   ·rfl
   ·intro id hid;simp[Ju,SV.ids,J1,SC.ids] at hid
  have hnext:∀(st:St) (al:Nat→Prop) (v:SV) (news:List Res) (upd:List (Nat×Option Res)),(∀id,al id→id<st.nx)→(match Jap ops n with
    |true=>match v with
     | .v false [.bool b]=>(b=true→Fi P Γ yk il ops r (n+1) (Vc st o.dst (.one (.bool true)) news upd) k)∧(b=false→Fi P Γ yk il ops r (n+1) (Vc st o.dst (.one (.bool false)) news upd) k)
     |_=>False
    |false=>Fi P Γ yk il ops r (n+1) (Vc st o.dst v news upd) k)→∀a' w' ρ' M',Jl P N B w0 (Ve al st.nx news) (Vd (look st.sl) o.dst v) (Ki (look st.rs) st.nx news upd) a' w' ρ' M' R→wpOpsIn (FR rd) 0 P opsA Q (List.range' (n+1) r.length) a' w':=by
   intro st al v news upd hal h a' w' ρ' M' C'
   split at h
   ·split at h
    ·rename_i b
     cases b with
     |true=>exact ih _ _ _ (h.1 rfl) (Yl hal C')
     |false=>exact ih _ _ _ (h.2 rfl) (Yl hal C')
    ·exact h.elim
   ·exact ih _ _ _ h (Yl hal C')
  have hrun : (match Jpw st o with
   |some yl=>yk yl.1 st yl.2 fun b st'=>Fi P Γ yk il ops r (n+1) (Vc st' o.dst (.one (.bool b)) [] []) k
   | none => match o.op with
    | .pick c x y => match evK st c with
     | some (.v false [.bool b]) => match evK st (bif b then x else y) with
      | some v => (match Jap ops n with
       |true=>match v with
        | .v false [.bool b]=>(b=true→Fi P Γ yk il ops r (n+1) (Vc st o.dst (.one (.bool true)) [] []) k)∧(b=false→Fi P Γ yk il ops r (n+1) (Vc st o.dst (.one (.bool false)) [] []) k)
        |_=>False
       |false=>Fi P Γ yk il ops r (n+1) (Vc st o.dst v [] []) k)
      |none=>False
     |_=>False
    | _ => match opS P Γ (evK st) (look st.rs) st.nx o with
     | some out => Lo out.pre (match Jap ops n with
      |true=>match out.val with
       | .v false [.bool b]=>(b=true→Fi P Γ yk il ops r (n+1) (Vc st o.dst (.one (.bool true)) out.news out.upd) k)∧(b=false→Fi P Γ yk il ops r (n+1) (Vc st o.dst (.one (.bool false)) out.news out.upd) k)
       |_=>False
      |false=>Fi P Γ yk il ops r (n+1) (Vc st o.dst out.val out.news out.upd) k)
     | none => match Jjq st o with
      | some fl => il fl.1 st fl.2 fun v st => (match Jap ops n with
       |true=>match v with
        | .v false [.bool b]=>(b=true→Fi P Γ yk il ops r (n+1) (Vc st o.dst (.one (.bool true)) [] []) k)∧(b=false→Fi P Γ yk il ops r (n+1) (Vc st o.dst (.one (.bool false)) [] []) k)
        |_=>False
       |false=>Fi P Γ yk il ops r (n+1) (Vc st o.dst v [] []) k)
      |none=>False)→o.wpIn (FR rd) 0 P a w (wpOpsIn (FR rd) 0 P opsA Q (List.range' (n+1) r.length)) Q:=by
   intro h
   split at h
   ·rename_i yl hyl
    obtain⟨y,l⟩:=yl
    obtain⟨c,t,ho,hc,ht,hl,hy⟩:=Jpv hyl
    have hrd:rd=none:=by
     rcases hyn with h0|h0
     ·exact h0
     ·rw[h0] at h;exact h.elim
    subst hrd
    obtain⟨h1,h2⟩:=Yc (Ys C) hl
    obtain⟨lp,rc,e1,e2,e3,e4⟩:=hyk hal C hy h2 h
    have hev:a.eval (.tmp t)= .func (.yield lp) #[] #[]:=(C.slot t _ ht).trans e1
    have hargs:c.args.map a.eval=(l.map (SV.den ρ)).toArray:=by
     apply Array.ext'
     simpa using h1
    refine⟨fun _ _=>trivial, ?_⟩
    have hex:(Oper.semAt (FR none).round a.eval o).run P w= .ok (.round lp rc.fn ((rc.params.zip (l.map (SV.den ρ)).toArray).foldl (fun t (p:Tmp×Value)=>t.setIfInBounds p.1 p.2) rc.tmps) rc.assign rc.body) w:=by
     show(Oper.semAt none a.eval o).run P w=_
     rw[Oper.semAt_none]
     have hy2:=run_yield (P:=P) (args:=(l.map (SV.den ρ)).toArray) e2 (by simp[e3])
     simp only[execOp,ho,resolve,hc,hev,hargs]
     simp[go_sem,hy2]
    rw[hex,Oper.uponIn_round]
    refine⟨fun h=>by simp[FR,Fence.wide] at h,RoundIn.mono e4 ?_⟩
    rintro e w' ⟨b,st',rfl,hk,hs'⟩
    obtain⟨ρ',M',al',hal',C'⟩:=hs'
    refine ih _ _ _ hk (Yl (news:=[]) (upd:=[]) hal' (C'.pure (n:=st'.nx) hdN rfl ?_))
    intro id hid;simp[SV.ids,J1,SC.ids] at hid
   ·split at h
    ·rename_i c x y hop
     split at h
     ·rename_i b hb
      split at h
      ·rename_i v hv
       have e1:=(Ys C _ _ hb).1
       obtain⟨e2,e3⟩:=Ys C _ _ hv
       refine Jbs (by rw[hop];intro c e;cases e) (Jg (u:=v.den ρ) (w':=w) ?_ (hnext st al v [] [] hal h _ _ _ _ (C.pure hdN rfl e3)))
       rw[show(SV.v false [SC.bool b]).den ρ= .bool b from rfl] at e1
       cases b with
       |true=>simp only[cond_true] at e2;simp[execOp,hop,e1,asBool,e2]
       |false=>simp only[cond_false] at e2;simp[execOp,hop,e1,asBool,e2]
      ·exact h.elim
     ·exact h.elim
    ·split at h
     ·rename_i out hout
      rw[Zq] at h
      have hs:=Jdm hΓ C hdN (fun _ _ h=>h) (Ys C) hout h.1 (hfr _)
      exact Jbs (Jaa hout) (hs _ Q fun u w' ρ' M' C'=>hnext st al _ _ _ hal h.2 _ _ _ _ C')
     ·split at h
      ·rename_i fl hfl
       obtain⟨f,l⟩:=fl
       obtain⟨h2,⟨c,ho⟩,hex⟩:=Joj C hfl
       obtain⟨hent,hcalls⟩:=hil hal C h2 h
       refine Jbs (by rw[ho];intro c e;cases e) (Ux (hex hent) hcalls ?_)
       rintro e w' ⟨v,u,st',ρ',M',al',rfl,hk,hal',C',hv,hu⟩
       exact⟨v,rfl,hnext st' al' u [] [] hal' hk _ _ _ _ (C'.pure hdN hv hu)⟩
      ·exact h.elim
  unfold Fi at h
  simp only at h
  split at h
  ·rename_i hg
   have:Region.wanted o (yielded opsA a.tmps)=true:=by simp[Region.wanted,hg]
   rw[this,if_pos rfl]
   exact hrun h
  ·rename_i j want hg
   split at h
   ·rename_i t ht
    obtain⟨w1,w2⟩:=Jlo hA hN C hg ht
    split at h
    ·rename_i b hb
     rw[w1 b hb]
     split at h
     ·rename_i e;rw[e,if_pos rfl];exact hrun h
     ·rename_i e;rw[e];exact hskip h
    ·rename_i vs hb
     rw[w2 vs hb]
     exact hskip h
    ·exact h.elim
   ·exact h.elim
end
end Go.Sx
namespace Go.Sx
open Go.RowKit
section
variable {P:Program} {Γ:Gam} {N B:Nat} {w0:K8} {R:Nat→Prop}
theorem Jqo [Dr] {st:St} {al:Nat→Prop} {a:Act} {w:World} {ρ:Env} {M:Nat→Prop} (C:Jl P N B w0 al (look st.sl) (look st.rs) a w ρ M R) {ops:Array Oper} {o:Oper} {v:SV} (h:Jik P st o=some v) (hg:o.guard=none):
  YieldsFenced P ops o (v.den ρ) a∧∀id∈v.ids,al id:=by
 have hw:Region.wanted o (yielded ops a.tmps)=true:=by unfold Region.wanted;rw[hg]
 unfold Jik at h
 split at h
 ·rename_i x ho
  obtain⟨h1,h2⟩:=Ys C _ _ h
  exact⟨⟨.inl ⟨hw,fun w=>by simp[execOp,ho,h1]⟩,fun w=>by simp[Oper.about,ho]⟩,h2⟩
 ·rename_i x ho
  split at h
  ·rename_i j off hx
   cases h
   obtain⟨h1,h2⟩:=Ys C _ _ hx
   obtain⟨b,o',hb⟩:=F6 ρ j off
   have e0:=hb 0
   simp only[Nat.add_zero] at e0
   exact⟨⟨.inl ⟨hw,fun w=>by simp[execOp,ho,h1,SV.den,valOf,e0]⟩,fun w=>by simp[Oper.about,ho]⟩,h2⟩
  ·cases h
 ·rename_i T x i ho
  split at h
  ·rename_i j off d U hx hf
   cases h
   obtain⟨h1,h2⟩:=Ys C _ _ hx
   obtain⟨b,o',hb⟩:=F6 ρ j off
   refine⟨⟨.inl ⟨hw,fun w=> ?_⟩,fun w=>by simp[Oper.about,ho]⟩,h2⟩
   simp only[execOp,ho,h1]
   refine J2 ?_
   have e0:=hb 0
   simp only[Nat.add_zero] at e0
   simp only[SV.den,valOf,List.map]
   rw[e0,hb d]
   exact Hf hf b o' w
  ·cases h
 ·cases h
theorem Fm [Dr] {w0:K8}:Jww P N B w0 R Jqu:=fun _ _ _ _ h=>h.elim
theorem Jh9 {F:Fence} {n:Nat} {o:Oper} {a:Act} {w:World} {K:Act→World→Prop} {Q Q':Exit→Act→World→Prop} (hp:∀c a w,Q (.panic c) a w→Q' (.panic c) a w) (hl:LetsOut Q→LetsOut Q')
  (hh:o.wpIn F n P a w K Q):o.wpIn F n P a w K Q':=by
 unfold Oper.wpIn at*
 refine⟨hh.1, ?_⟩
 have hh:=hh.2
 generalize(o.semAt F.round a.eval).run P w=r at*
 cases r with
 | ok x w' =>
  cases x<;>simp only[Oper.uponIn] at hh⊢<;>
   first
    |exact hh
    |exact⟨hh.1,CallsIn.mono hh.2 (fun e w'' he=>by cases e<;>first|exact he|exact hp _ _ _ he|exact hl he)⟩
    |exact⟨hh.1,RoundIn.mono hh.2 (fun e w'' he=>by cases e<;>first|exact he|exact hp _ _ _ he|exact hl he)⟩
 |halt x w'=>cases x<;>simp only[Oper.uponIn] at hh⊢<;>first|exact hh|exact hp _ _ _ hh|exact hl hh
theorem Jj5:∀{l:List Nat} {f:Nat→Prop},J8g l f→∀{j:Nat},j∈l→f j
 |[],_,_,_,hj=>by cases hj
 |[i],f,h,j,hj=>by
  obtain rfl:j=i:=by simpa using hj
  exact h
 |i::i'::l,f,h,j,hj=>by
  rcases List.mem_cons.1 hj with rfl|hj
  ·exact h.1
  ·exact Jj5 h.2 hj
theorem Jdh [Dr] (hΓ:Ut P Γ) {il:IL} (hil:Jwz P il) {ops:Array Oper} (hN:∀o∈ops.toList,∀t,o.dst=some t→t<N) (hg:∀o∈ops.toList,o.guard=none) (hs:Region.noSelect ops=true) {Q:Exit→Act→World→Prop} (hQ:∀e a w,Q e a w→e= .normal) {k:St→Prop}
  (hK:∀st' a w,k st'→K7 P N B w0 R st' a w→Q .normal a w):∀(n:Nat) (listed:Array Bool) (st:St) (a:Act) (w:World),Juo P Γ il ops n listed st k→K7 P N B w0 R st a w→wpAnyIn (FR none) 0 P .any ops Q n listed a w
 |0,listed,st,a,w,h,hr=>by
  unfold Juo at h
  split at h
  ·rename_i e;exact wpAnyIn_done e (hK _ _ _ h hr) 0
  ·exact h.elim
 | n + 1, listed, st, a, w, h, hr => by
  unfold Juo at h
  split at h
  ·rename_i e;exact wpAnyIn_done e (hK _ _ _ h hr) (n+1)
  ·rename_i i e
   split at h
   ·rename_i o ho
    have hmem:o∈ops.toList:=Array.mem_toList_iff.2 (Array.mem_of_getElem? ho)
    refine wpAnyIn_all e (by simp) fun j hj=> ?_
    obtain rfl:j=i:=by simpa using hj
    have h1:=F4 (Q:=fun e a w=>match e with| .normal=>wpAnyIn (FR none) 0 P .any ops Q n (listed.setIfInBounds j true) a w|e=>Q e a w) hΓ (Fm (P:=P) (N:=N) (B:=B) (w0:=w0) (R:=R)) @hil (rd:=none) (.inl rfl) (ops:=[o]) (opsA:= #[o]) rfl (fun o' ho'=>by simp at ho';rw[ho'];exact hN o hmem) (fun st' a' w' hk hs'=>Jdh hΓ @hil hN hg hs hQ hK n _ st' a' w' hk hs') [o] 0 st a w rfl h hr
    have hg0:=hg o hmem
    have e1:wpOpsIn (FR none) 0 P #[o] (fun e a w=>match e with| .normal=>wpAnyIn (FR none) 0 P .any ops Q n (listed.setIfInBounds j true) a w|e=>Q e a w) (List.range' 0 [o].length) a w=_:=wpOpsIn_cons 0 [] a w
    rw[e1] at h1
    unfold wpOpIn at h1⊢
    have hw:∀(l:Array Oper),Region.wanted o (yielded l a.tmps)=true:=fun l=>by unfold Region.wanted;rw[hg0]
    simp only[List.getElem?_toArray,List.getElem?_cons_zero,hw,if_true,ho] at h1⊢
    refine Jh9 (fun c a w hp=>hp) (fun⟨a,w,hp⟩=>⟨a,w,hp⟩) (Oper.wpIn_mono (fun a w hk=> ?_) h1)
    exact hk
   ·exact h.elim
  ·rename_i r hne1 hne2
   split at h
   ·rename_i i hi
    have hf:=List.find?_some hi
    have hm:=List.mem_of_find?_eq_some hi
    split at h
    ·rename_i o ho
     split at h
     ·rename_i v hv
      rw[Bool.and_eq_true] at hf
      have hmem:o∈ops.toList:=Array.mem_toList_iff.2 (Array.mem_of_getElem? ho)
      obtain⟨ρ,M,al,hal,C⟩:=id hr
      obtain⟨q1,q2⟩:=Jqo (ops:=ops) C hv (hg o hmem)
      refine wpAnyIn_take rfl ho hs hf.1 (by simpa using hm) (fun c a' w' hp=> ?_) q1 ?_
      ·exact absurd (hQ _ _ _ hp) (by simp)
      ·exact Jdh hΓ @hil hN hg hs hQ hK n _ _ _ w h (Yl (news:=[]) (upd:=[]) hal (C.pure (n:=st.nx) (hN o hmem) rfl q2))
     ·exact h.elim
    ·exact h.elim
   ·refine wpAnyIn_all rfl hne1 fun j hj=> ?_
    have h2:=Jj5 h hj
    split at h2
    ·rename_i o ho
     have hmem:o∈ops.toList:=Array.mem_toList_iff.2 (Array.mem_of_getElem? ho)
     have h1:=F4 (Q:=fun e a w=>match e with| .normal=>wpAnyIn (FR none) 0 P .any ops Q n (listed.setIfInBounds j true) a w|e=>Q e a w) hΓ (Fm (P:=P) (N:=N) (B:=B) (w0:=w0) (R:=R)) @hil (rd:=none) (.inl rfl) (ops:=[o]) (opsA:= #[o]) rfl (fun o' ho'=>by simp at ho';rw[ho'];exact hN o hmem) (fun st' a' w' hk hs'=>Jdh hΓ @hil hN hg hs hQ hK n _ st' a' w' hk hs') [o] 0 st a w rfl h2 hr
     have hg0:=hg o hmem
     have e1:wpOpsIn (FR none) 0 P #[o] (fun e a w=>match e with| .normal=>wpAnyIn (FR none) 0 P .any ops Q n (listed.setIfInBounds j true) a w|e=>Q e a w) (List.range' 0 [o].length) a w=_:=wpOpsIn_cons 0 [] a w
     rw[e1] at h1
     unfold wpOpIn at h1⊢
     have hw:∀(l:Array Oper),Region.wanted o (yielded l a.tmps)=true:=fun l=>by unfold Region.wanted;rw[hg0]
     simp only[List.getElem?_toArray,List.getElem?_cons_zero,hw,if_true,ho] at h1⊢
     refine Jh9 (fun c a w hp=>hp) (fun⟨a,w,hp⟩=>⟨a,w,hp⟩) (Oper.wpIn_mono (fun a w hk=> ?_) h1)
     exact hk
    ·exact h2.elim
end
end Go.Sx
namespace Go.Sx
open Go.RowKit
section
variable {P:Program} {Γ:Gam} {N B:Nat} {R:Nat→Prop}
theorem Jny {ps:Array Tmp} {vs:List Value} {tmps:Array Value}:(ps.zip vs.toArray).foldl (fun t (p:Tmp×Value)=>t.setIfInBounds p.1 p.2) tmps=(ps.toList.zip vs).foldl (fun t (p:Tmp×Value)=>t.setIfInBounds p.1 p.2) tmps:=by
 rw[←Array.foldl_toList,Array.toList_zip]
theorem Jxy [Dr] {w0:K8} {y s lp:Nat} {rc:Loop} {T:Nat→Value} {ra rb:St→(Ex→St→Prop)→Prop}
  (hy:w0.an y=some (.loop lp rc)) (hs:w0.an s=some (.vals T)) (hT:∀t,T t=rc.tmps.getD t undef) (hN:rc.tmps.size=N) (hps:∀p∈rc.params.toList,p<N) (hmk:w0.marks=false)
  (hA:∀{w0':K8} {st:St} {k:Ex→St→Prop} {Q:Exit→Act→World→Prop},ra st k→(∀e st' a w,k e st'→K7 P N B w0' R st' a w→Q e.toExit a w)→∀a w,K7 P N B w0' R st a w→rc.assign.wpIn (FR (some lp)) 0 P Q a w)
  (hB:∀{w0':K8} {st:St} {k:Ex→St→Prop} {Q:Exit→Act→World→Prop},rb st k→(∀e st' a w,k e st'→K7 P N B w0' R st' a w→Q e.toExit a w)→∀a w,K7 P N B w0' R st a w→rc.body.wpIn (FR (some lp)) 0 P Q a w) (N':Nat):
  Jww P N' B w0 R (ykF y s rc.params.toList ra rb):=by
 intro y' st1 l K ρ M al a w hal C hyr hids h
 unfold ykF at h
 split at h
 case isFalse=>exact h.elim
 rename_i hc
 obtain⟨rfl,hlen⟩:=hc
 split at h
 case h_2=>exact h.elim
 rename_i ls _ h2
 obtain⟨lp',rc',a1,a2,a3,a4,a5,a6⟩:=C.resA y' _ hyr
 rw[hy] at a1
 cases a1
 obtain⟨T',b1,b2⟩:=C.resA s _ h2
 rw[hs] at b1
 cases b1
 refine⟨lp,_,a2,a3,by simpa using hlen, ?_⟩
 refine roundIn_of_wpIn (F:=FR none) trivial ?_
 show rc.assign.wpIn (FR (some lp)) 0 P _ _ _
 have hz:∀id,al id→id≠st1.nx:=fun id h=>Nat.ne_of_lt (hal id h)
 let w0b:K8:={w0 with an:=fun id=>if id=st1.nx then some (.vals fun t=>a.tmps.getD t undef) else w0.an id}
 let ρb:Env:=fun id=>if id=st1.nx then .bool true else ρ id
 have hρ:∀id,al id→ρb id=ρ id:=fun id h=>if_neg (hz id h)
 have hden:∀v:SV,(∀id∈v.ids,al id)→v.den ρb=v.den ρ:=fun v h=>SV.den_congr fun id hid=>hρ id (h id hid)
 have hl:l.map (SV.den ρ)=l.map (SV.den ρb):=List.map_congr_left fun v hv=>(hden v (hids v hv)).symm
 have hlsids:∀p∈ls,∀id∈p.2.ids,al id:=fun p hp id hid=>(C.resIds s _ h2).2 id (List.mem_flatMap.2 ⟨p,hp,hid⟩)
 have hset:=Jic (ρ:=ρb) (al:=al) (N:=N) (ps:=rc.params.toList) (vs:=l) (sl:=ls) (tmps:=rc.tmps) hlen.symm hps hN (fun t v ht=>by
  have hm:=Jr ht
  refine⟨?_,hlsids _ hm⟩
  rw[←hT,hden v (hlsids _ hm)]
  exact b2 _ hm) hids
 rw[←hl,←Jny] at hset
 refine hA (w0':=w0b) h (fun e st2 a2' w2 hk hs2=> ?_) _ _ ⟨ρb,M,fun id=>al id∨id=st1.nx,fun id h=> ?_,⟨hset.1,⟨fun d hd=>by simp at hd, .nil⟩,fun _=>rfl,C.stay,C.stayR,C.below,C.base,fun t v ht=>(hset.2 t v ht).1,fun t v ht id hid=> .inl ((hset.2 t v ht).2 id hid), ?_, ?_, ?_,C.old, ?_,C.up,C.good⟩⟩
 rotate_left
 ·show id<st1.nx+1
  rcases h with h|h
  ·have:=hal id h;omega
  ·omega
 ·intro r x hx
  simp only[look] at hx
  split at hx
  ·rename_i e
   subst e;cases hx
   refine⟨_,if_pos rfl,fun p hp=> ?_⟩
   have h1:=Uy hp
   rw[hden p.2 (C.slotIds _ _ h1)]
   exact C.slot _ _ h1
  ·rename_i e
   have hr:=C.resIds r x hx
   refine((C.resA r x hx).keep (hρ r hr.1) (fun id hid=>hρ id (hr.2 id hid)) (fun _ h=>h) (fun _ _=>rfl) fun ho b hb=>⟨rfl,(C.notM hx ho hb).1⟩).base fun _=>if_neg (Ne.symm e)
 ·intro r x hx
  simp only[look] at hx
  split at hx
  ·rename_i e
   subst e;cases hx
   refine⟨.inr rfl,fun id hid=> ?_⟩
   obtain⟨p,hp,hid⟩:=List.mem_flatMap.1 hid
   exact .inl (C.slotIds _ _ (Uy hp) id hid)
  ·have hr:=C.resIds r x hx
   exact⟨.inl hr.1,fun id hid=> .inl (hr.2 id hid)⟩
 ·intro r r' x x' hne hx hx' ho ho' b hb hb'
  simp only[look] at hx hx'
  split at hx
  ·cases hx;cases ho
  ·split at hx'
   ·cases hx';cases ho'
   ·have e1:ρb r=ρ r:=hρ r (C.resIds r x hx).1
    have e2:ρb r'=ρ r':=hρ r' (C.resIds r' x' hx').1
    rw[e1] at hb
    rw[e2] at hb'
    exact C.apart r r' x x' hne hx hx' ho ho' b hb hb'
 ·rintro i (hi|hi)
  ·rw[hρ i hi];exact C.one i hi
  ·have:ρb i= .bool true:=if_pos hi
   rw[this];rfl
 ·-- the sides are assigned
  cases e with
  |exit i=>exact hk.elim
  |ret=>exact hk.elim
  |normal=>
  simp only at hk
  split at hk
  case h_2=>exact hk.elim
  rename_i hy2
  obtain⟨ρ2,M2,al2,hal2,C2⟩:=hs2
  have ha:w0b.an y'=some (.loop lp rc):=(if_neg (hz y' (C.resIds y' _ hyr).1)).trans hy
  have C3:=C2.setYld (s':= .busy) hy2 ha
  obtain⟨lp2,rc2,q1,q2,q3,_⟩:=C2.resA y' _ hy2
  rw[ha] at q1
  cases q1
  refine⟨_,run_beginRound q3 rfl, ?_⟩
  show rc.body.wpIn (FR (some lp)) 0 P _ _ _
  refine hB (w0':=w0b) hk (fun e st3 a3 w3 hk hs3=> ?_) _ _ ⟨ρ2,M2,al2,hal2,C3.weaken (fun _ _ h=>h) (fun id x h=> ?_) fun _=>Iff.rfl⟩
  rotate_left
  ·rw[J8] at h
   exact h
  ·-- the body is left
   obtain⟨ρ3,M3,al3,hal3,C4⟩:=hs3
   split at hk
   case h_2=>exact hk.elim
   rename_i li hz3 hy3
   have C5:=C4.setYld (s':=Jud e) hy3 ha
   obtain⟨lp3,rc3,r1,r2,r3,_⟩:=C4.resA y' _ hy3
   rw[ha] at r1
   cases r1
   obtain⟨T3,t1,t2⟩:=C4.resA st1.nx _ hz3
   have t1':some (Jsc.vals fun t=>a.tmps.getD t undef)=some (Jsc.vals T3):=by rw[←t1];exact(if_pos rfl).symm
   cases t1'
   have hback:K7 P N' B w0 R ⟨st3.nx,li,J5 (J5 st3.rs (y',some (.yld (Jud e)))) (st1.nx,none)⟩ a (w3.putObj lp (.loop {rc with state:=(Jud e).st,pending:=(Jud e).pend})):=by
    have hlook:∀{r x},look (J5 (J5 st3.rs (y',some (.yld (Jud e)))) (st1.nx,none)) r=some x→r≠st1.nx∧(if r=y' then some (.yld (Jud e)) else look st3.rs r)=some x:=by
     intro r x h
     rw[J8] at h
     split at h
     ·cases h
     ·rename_i hne
      rw[J8] at h
      exact⟨hne,h⟩
    refine⟨ρ3,M3,al3,hal3,⟨C.size,by rw[C.nomark hmk];exact⟨fun d hd=>by simp at hd, .nil⟩,C.nomark,C5.stay,C5.stayR,C5.below,C5.base,fun t v ht=>t2 _ (Jr ht),fun t v ht id hid=>(C4.resIds _ _ hz3).2 id (List.mem_flatMap.2 ⟨_,Jr ht,hid⟩),fun r x hx=> ?_,fun r x hx=> ?_,fun r r' x x' hne hx hx'=> ?_,C5.old,C5.one,C5.up,C5.good⟩⟩
    ·obtain⟨h1,h2⟩:=hlook hx
     exact(C5.resA r x h2).base fun _=>(if_neg h1).symm
    ·exact C5.resIds r x (hlook hx).2
    ·exact C5.apart r r' x x' hne (hlook hx).2 (hlook hx').2
   cases e with
   |normal=>exact⟨_,_,run_endRound none r3,true,_,rfl,hk,hback⟩
   |exit i=>exact⟨_,_,run_endRound (some (.exit i)) r3,false,_,rfl,hk,hback⟩
   |ret=>exact⟨_,_,run_endRound (some .ret) r3,false,_,rfl,hk,hback⟩
end
end Go.Sx
namespace Go.Sx
open Go.RowKit
def J4u [Dr] (P:Program) (it:IT):Prop:=
 ∀{f:FuncId} {st:St} {yk:YK} {fin:St→Prop} {B:Nat} {w0:K8} {R:Nat→Prop} {args:Array Value} {w:World},it f st yk fin→w0.marks=false→(∀N,Jww P N B w0 R yk)→
  (∀N,st.sl.length≤N→K7 P N B w0 R st {tmps:=args++Array.replicate (N-args.size) undef,defers:=[]} w)→
  Enters P f∧CallsIn (FR none) 0 P f args w fun e w'=>∃N v a' st',e= .returned v∧fin st'∧K7 P N B w0 R st' a' w'
section
variable {P:Program} {Γ:Gam} {N B:Nat} {w0:K8} {R:Nat→Prop}
theorem Jad {α:Type}:∀{l:List α} {n:Nat},(Jko l n).length=l.length
 |[],_=>rfl
 |_::l,n=>by simp[Jko,Jad (l:=l)]
theorem Jqn [Dr] {t : Tmp} {ps : Array Tmp} {ca cb : Code} {it : IT} (hit : J4u P it) (hmk : w0.marks = true) {ra rb : St → (Ex → St → Prop) → Prop}
    (hA:∀{lp:Nat} {w0':K8} {st:St} {k:Ex→St→Prop} {Q:Exit→Act→World→Prop},ra st k→(∀e st' a w,k e st'→K7 P N B w0' R st' a w→Q e.toExit a w)→∀a w,K7 P N B w0' R st a w→ca.wpIn (FR (some lp)) 0 P Q a w)
    (hB:∀{lp:Nat} {w0':K8} {st:St} {k:Ex→St→Prop} {Q:Exit→Act→World→Prop},rb st k→(∀e st' a w,k e st'→K7 P N B w0' R st' a w→Q e.toExit a w)→∀a w,K7 P N B w0' R st a w→cb.wpIn (FR (some lp)) 0 P Q a w)
    (hps:∀p∈ps.toList,p<N) {st:St} {j:Nat} {f:FuncId} {caps:List SV} (ht:look st.sl t=some (.v false [.fv j])) (hj:look st.rs j=some (.clo f [] caps)) {k:Ex→St→Prop} {Q:Exit→Act→World→Prop}
    (h : it f ⟨st.nx + 2, Jko (SV.one (.fv st.nx) :: caps) 0, (st.nx, .yld .ready) :: (st.nx + 1, .sus (Jcz st.sl)) :: st.rs⟩
            (ykF st.nx (st.nx+1) ps.toList ra rb) fun st2=>match look st2.rs st.nx,look st2.rs (st.nx+1) with
              | some (.yld s), some (.sus l) => match s.ex with
                |some e=>k e ⟨st2.nx,l,J5 (J5 st2.rs (st.nx,none)) (st.nx+1,none)⟩
                |none=>False
              |_,_=>False)
    (hK:∀e st' a w,k e st'→K7 P N B w0 R st' a w→Q e.toExit a w) (a:Act) (w:World) (hs:K7 P N B w0 R st a w):(Code.rangeFunc (.tmp t) ps ca cb).wpIn (FR none) 0 P Q a w:=by
  obtain⟨ρ,M,al,hal,C⟩:=hs
  have hclo:ρ j= .func (.func f) #[] (caps.map (SV.den ρ)).toArray:=C.res j _ hj
  have hv:a.eval (.tmp t)= .func (.func f) #[] (caps.map (SV.den ρ)).toArray:=(C.slot t _ ht).trans hclo
  refine wpIn_rangeFunc ?_
  intro fn _
  obtain⟨rc,hrc⟩:∃rc:Loop,rc={state:= .ready,pending:=none,fn,tmps:=a.tmps,params:=ps,assign:=ca,body:=cb,defers:=w.heap.size}:=⟨_,rfl⟩
  obtain⟨w1,hw1⟩:∃w1,w1=(w.alloc (.deferred (some []))).alloc (.loop rc):=⟨_,rfl⟩
  have hsz:w1.heap.size=w.heap.size+2:=by rw[hw1];simp
  have hlp:w1.heap[w.heap.size+1]? =some (.loop rc):=by
    rw[hw1];have:=World.alloc_heap_new (w.alloc (.deferred (some []))) (.loop rc);rwa[World.size_alloc] at this
  have hD:w1.heap[w.heap.size]? =some (.deferred (some [])):=by
    rw[hw1];exact(Below.heap_alloc _ _ _ (by simp)).trans (World.alloc_heap_new w _)
  have hb1:Below w.heap.size w w1:=by
    rw[hw1];exact((Below.refl _ w).alloc (Nat.le_refl _) _).alloc (by simp) _
  have hbB:Below B w w1:=⟨hb1.os,hb1.tape,hb1.output,hb1.size,fun k hk=>hb1.block k (Nat.lt_of_lt_of_le hk C.base),hb1.drawn⟩
  have hheap:∀k,k<w.heap.size→w1.heap[k]? =w.heap[k]? :=fun k hk=>hb1.block k hk
  have hfy:∀id,al id→id≠st.nx:=fun id h=>Nat.ne_of_lt (hal id h)
  have hfs:∀id,al id→id≠st.nx+1:=fun id h=>by have:=hal id h;omega
  let w0i:K8:={w:=w1,M:=fun b=>M b∨b=w.heap.size,an:=fun id=>if id=st.nx then some (.loop (w.heap.size+1) rc) else if id=st.nx+1 then some (.vals fun t=>a.tmps.getD t undef) else w0.an id,marks:=false}
  let ρi:Env:=fun id=>if id=st.nx then .func (.yield (w.heap.size+1)) #[] #[] else if id=st.nx+1 then .bool true else ρ id
  have hρ:∀id,al id→ρi id=ρ id:=fun id h=>(if_neg (hfy id h)).trans (if_neg (hfs id h))
  have hρy:ρi st.nx= .func (.yield (w.heap.size+1)) #[] #[]:=if_pos rfl
  have hρs:ρi (st.nx+1)= .bool true:=(if_neg (by omega)).trans (if_pos rfl)
  have hden:∀v:SV,(∀id∈v.ids,al id)→v.den ρi=v.den ρ:=fun v h=>SV.den_congr fun id hid=>hρ id (h id hid)
  have hcids:∀v∈caps,∀id∈v.ids,al id:=fun v hv id hid=>(C.resIds j _ hj).2 id (by simp only[Res.ids,List.flatMap_nil,List.nil_append];exact List.mem_flatMap.2 ⟨v,hv,hid⟩)
  obtain⟨args,hargs⟩:∃args:Array Value,args= #[.func (.yield (w.heap.size+1)) #[] #[]]++(caps.map (SV.den ρ)).toArray:=⟨_,rfl⟩
  have hargsz:args.size=caps.length+1:=by rw[hargs];simp[Nat.add_comm]
  have hargs':args=((SV.one (.fv st.nx)::caps).map (SV.den ρi)).toArray:=by
    rw[hargs]
    have e1:(SV.one (.fv st.nx)).den ρi= .func (.yield (w.heap.size+1)) #[] #[]:=hρy
    have e2:caps.map (SV.den ρi)=caps.map (SV.den ρ):=List.map_congr_left fun v hv=>hden v (hcids v hv)
    rw[List.map_cons,e1,e2]
    apply Array.ext';simp
  obtain⟨hent,hcall⟩:=hit (B:=B) (w0:=w0i) (R:=R) (args:=args) (w:=w1) h rfl
    (fun N'=>by
      have this:Jww P N' B w0i R (ykF st.nx (st.nx+1) rc.params.toList ra rb):=Jxy (P:=P) (N:=N) (B:=B) (R:=R) (w0:=w0i) (y:=st.nx) (s:=st.nx+1) (lp:=w.heap.size+1) (rc:=rc) (T:=fun t=>a.tmps.getD t undef) (ra:=ra) (rb:=rb) (if_pos rfl) ((if_neg (by omega)).trans (if_pos rfl)) (fun t=>by rw[hrc]) (by rw[hrc];exact C.size) (by rw[hrc];exact hps) rfl (by rw[hrc];exact hA) (by rw[hrc];exact hB) N'
      have e:rc.params.toList=ps.toList:=by rw[hrc]
      rw[e] at this
      exact @this)
    (fun N' hN' => by
      simp only[Jad,List.length_cons] at hN'
      refine⟨ρi,fun b=>M b∨b=w.heap.size,fun id=>al id∨id=st.nx∨id=st.nx+1,fun id h=> ?_,⟨by simp[hargsz];omega,⟨fun d hd=>by simp at hd, .nil⟩,fun _=>rfl,fun _ _=>rfl,fun _ _=>rfl,Below.refl _ _,Nat.le_trans C.base hb1.size,fun t v ht=> ?_,fun t v ht id hid=> ?_,fun r x hx=> ?_,fun r x hx=> ?_,fun r r' x x' hne hx hx' ho ho' b hb hb'=> ?_, ?_, ?_,fun b=>⟨fun h=> .inl h,fun h=>h⟩,fun w' hw'=>C.good w' (C.below.trans (hbB.trans hw'))⟩⟩
      · show id < st.nx + 2
        rcases h with h|h|h
        ·have:=hal id h;omega
        ·omega
        ·omega
      · simp only at ht
        rw[U8,if_pos (Nat.zero_le _),Nat.sub_zero] at ht
        have hlt:t<args.size:=by rw[hargsz];have:=(List.getElem?_eq_some_iff.1 ht).1;simpa using this
        have:args[t]? =some (v.den ρi):=by rw[hargs',List.getElem?_toArray,List.getElem?_map,ht];rfl
        simp only[Array.getD_eq_getD_getElem?,Array.getElem?_append,hlt,if_true,this,Option.getD_some]
      · simp only at ht
        rw[U8,if_pos (Nat.zero_le _),Nat.sub_zero] at ht
        have hm:=List.mem_of_getElem? ht
        rcases List.mem_cons.1 hm with rfl|hm
        · simp only [SV.ids, J1, SC.ids, List.flatMap_cons, List.flatMap_nil, List.append_nil, List.mem_singleton] at hid
          exact .inr (.inl hid)
        ·exact .inl (hcids v hm id hid)
      · simp only [look] at hx
        split at hx
        · rename_i e
          subst e;cases hx
          refine⟨_,rc,if_pos rfl,hρy, ?_, ?_, ?_, ?_⟩
          ·rw[hlp,hrc];rfl
          · rintro (hb | hb)
            ·have:=C.old _ (.inl hb);omega
            ·omega
          ·intro hb;have:=C.old _ (.inr hb);omega
          ·have:=C.base;omega
        · rename_i e1
          split at hx
          · rename_i e2
            subst e2;cases hx
            refine⟨_,(if_neg (by omega)).trans (if_pos rfl),fun p hp=> ?_⟩
            have h1:=Uy hp
            rw[hden p.2 (C.slotIds _ _ h1)]
            exact C.slot _ _ h1
          · rename_i e2
            have hr:=C.resIds r x hx
            refine((C.resA r x hx).keep (hρ r hr.1) (fun id hid=>hρ id (hr.2 id hid)) (fun _ h=> .inl h) (fun b hb=>hheap b (C.old b hb)) fun ho b hb=> ?_).base fun _=>(if_neg (Ne.symm e1)).trans (if_neg (Ne.symm e2))
            have h4:=C.notM hx ho hb
            exact⟨hheap b h4.2.2.2,fun h=>by
              rcases h with h|h
              ·exact h4.1 h
              ·have:=h4.2.2.2;omega⟩
      · simp only [look] at hx
        split at hx
        · rename_i e
          subst e;cases hx
          exact⟨.inr (.inl rfl),fun id hid=>by simp[Res.ids] at hid⟩
        · split at hx
          · rename_i e2
            subst e2;cases hx
            refine⟨.inr (.inr rfl),fun id hid=> ?_⟩
            obtain⟨p,hp,hid⟩:=List.mem_flatMap.1 hid
            exact .inl (C.slotIds _ _ (Uy hp) id hid)
          · have hr := C.resIds r x hx
            exact⟨.inl hr.1,fun id hid=> .inl (hr.2 id hid)⟩
      · have get : ∀ {r x}, look ((st.nx, Res.yld .ready) :: (st.nx + 1, Res.sus (Jcz st.sl)) :: st.rs) r = some x → x.owning = true → ∀ b, blk (ρi r) = some b → (r = st.nx ∧ b = w.heap.size + 1) ∨ (look st.rs r = some x ∧ ρi r = ρ r ∧ b < w.heap.size) := by
          intro r x hx ho b hb
          simp only[look] at hx
          split at hx
          · rename_i e
            subst e
            rw[hρy] at hb
            cases hb
            exact .inl ⟨rfl,rfl⟩
          · split at hx
            ·cases hx;cases ho
            · have e := hρ r (C.resIds r x hx).1
              rw[e] at hb
              exact .inr ⟨hx,e,(C.notM hx ho hb).2.2.2⟩
        rcases get hx ho b hb with⟨g1,g2⟩|⟨g1,g2,g3⟩<;>rcases get hx' ho' b hb' with⟨k1,k2⟩|⟨k1,k2,k3⟩
        ·exact hne (g1.trans k1.symm)
        ·omega
        ·omega
        · rw [g2] at hb
          rw[k2] at hb'
          exact C.apart r r' x x' hne g1 k1 ho ho' b hb hb'
      · rintro b (h | h)
        · rcases h with h | h
          ·have:=C.old b (.inl h);omega
          ·omega
        ·have:=C.old b (.inr h);omega
      · rintro i (hi | hi | hi)
        ·rw[hρ i hi];exact C.one i hi
        ·rw[hi,hρy];rfl
        ·rw[hi,hρs];rfl)
  refine⟨w.heap.size+1,[{target:= .collected w.heap.size,args:= #[]}],w1,{target:= .fn (.func f) (caps.map (SV.den ρ)).toArray,args:= #[.func (.yield (w.heap.size+1)) #[] #[]]},w1,f,args,w1, ?_, ?_,fun _ _=>trivial, ?_,fun h=>by simp[FR,Fence.wide] at h, ?_⟩
  ·rw[hw1,hrc];exact run_enterLoop_outer _ _ _ _ _
  · simp only [resolve, hv]
    simp[go_sem]
  · rw [hargs]
    simp[invoke,go_sem,Kd hent]
  · -- behind the loop's function
    refine hcall.mono ?_
    rintro e w' ⟨N',v,a',st2,rfl,hfin,ρf,Mf,alf,half,Cf⟩
    split at hfin
    case h_2=>exact hfin.elim
    rename_i s l hy2 hs2
    split at hfin
    case h_2=>exact hfin.elim
    rename_i e he
    obtain⟨lp2,rc2,q1,q2,q3,q4,q5,q6⟩:=Cf.resA st.nx _ hy2
    have q1':some (Jsc.loop (w.heap.size+1) rc)=some (Jsc.loop lp2 rc2):=by rw[←q1];exact(if_pos rfl).symm
    cases q1'
    obtain⟨T3,t1,t2⟩:=Cf.resA (st.nx+1) _ hs2
    have t1':some (Jsc.vals fun t=>a.tmps.getD t undef)=some (Jsc.vals T3):=by rw[←t1];exact((if_neg (by omega)).trans (if_pos rfl)).symm
    cases t1'
    have hnb:s.st≠ .busy:=by
      intro e0
      cases s with
      |ready=>cases e0
      |busy=>cases he
      |done _=>cases e0
    refine⟨_,_,run_endLoop q3 hnb, ?_⟩
    have hlook:∀{r x},look (J5 (J5 st2.rs (st.nx,none)) (st.nx+1,none)) r=some x→r≠st.nx∧r≠st.nx+1∧look st2.rs r=some x:=by
      intro r x h
      rw[J8] at h
      split at h
      ·cases h
      · rename_i hne
        rw[J8] at h
        split at h
        ·cases h
        · rename_i hne2
          exact⟨hne2,hne,h⟩
    have C2:Jl P N' B w0i alf (look st2.sl) (look (J5 (J5 st2.rs (st.nx,none)) (st.nx+1,none))) a' w' ρf Mf R:=Cf.weaken (fun _ _ h=>h) (fun i x h=>(hlook h).2.2) fun _=>Iff.rfl
    have C3:=C2.putFree (.loop {{rc with state:=s.st,pending:=s.pend} with state:= .exhausted}) q6 q4 q5 (fun r x hx ho hb=>by
      obtain⟨h1,_,h3⟩:=hlook hx
      exact Cf.apart r st.nx x _ h1 h3 hy2 ho rfl _ hb (by rw[q2];rfl))
    have hDne:w.heap.size≠w.heap.size+1:=by omega
    have hmarkD:Mf w.heap.size:=(Cf.up _).2 (.inr rfl)
    have hback:K7 P N B w0 R ⟨st2.nx,l,J5 (J5 st2.rs (st.nx,none)) (st.nx+1,none)⟩ {a with defers:=[{target:= .collected w.heap.size,args:= #[]}]++a.defers} (w'.putObj (w.heap.size+1) (.loop {{rc with state:=s.st,pending:=s.pend} with state:= .exhausted})):=by
      have hMf:∀b,M b→Mf b:=fun b hb=>(Cf.up b).2 (.inl hb)
      refine⟨ρf,Mf,alf,half,⟨C.size,⟨fun d hd=> ?_, ?_⟩,fun h=>(by rw[hmk] at h;cases h),fun b hb=> ?_,fun b hb=>((C3.stayR b hb).trans (hheap b (C.old b (.inr hb)))).trans (C.stayR b hb),(C.below.trans hbB).trans C3.below,C3.base,fun t v ht=>t2 _ (Jr ht),fun t v ht id hid=>(Cf.resIds _ _ hs2).2 id (List.mem_flatMap.2 ⟨_,Jr ht,hid⟩),fun r x hx=> ?_,C3.resIds,C3.apart,C3.old,C3.one,fun b=>⟨fun h=> ?_,fun h=> ?_⟩,C.good⟩⟩
      · rcases List.mem_append.1 hd with hd | hd
        · refine ⟨w.heap.size, List.mem_singleton.1 hd, hmarkD, (C3.stay _ (.inr rfl)).trans hD, fun h => ?_, C.base, C.below.size⟩
          have:=C.old _ (.inr h);omega
        · obtain ⟨D', d1, d2, d3, d4⟩ := C.defers.1 d hd
          exact⟨D',d1,hMf D' d2,((C3.stay D' (.inl d2)).trans (hheap D' (C.old D' (.inl d2)))).trans d3,d4⟩
      · refine List.nodup_cons.2 ⟨fun hm => ?_, C.defers.2⟩
        obtain⟨D',d1,d2,d3,d4⟩:=C.defers.1 _ hm
        have e:w.heap.size=D':=by injection d1 with d1 _;injection d1
        have:=C.old D' (.inl d2);omega
      · have hb' : M b := (C.up b).2 hb
        exact((C3.stay b (.inl hb')).trans (hheap b (C.old b (.inl hb')))).trans (C.stay b hb)
      ·exact(C3.resA r x hx).base fun _=>((if_neg (hlook hx).1).trans (if_neg (hlook hx).2.1)).symm
      · rcases (C3.up b).1 h with h | h
        · rcases h with h | h
          ·exact(C.up b).1 h
          ·right;rw[h];exact⟨C.base,fun hR=>Nat.lt_irrefl _ (C.old _ (.inr hR))⟩
        ·exact .inr h
      ·exact hMf b ((C.up b).2 h)
    cases s with
    |ready=>cases he;exact hK .normal _ _ _ hfin hback
    |busy=>cases he
    | done o =>
      cases o with
      |none=>cases he;exact wpIn_ret (hK .ret _ _ _ hfin hback)
      |some i=>cases he;exact wpIn_exit (hK (.exit i) _ _ _ hfin hback)
end
end Go.Sx
namespace Go.Sx
open Go.RowKit
section
variable {P:Program} {Γ:Gam} {ann:Nat→Option Ann} {il:IL} {N B:Nat} {R:Nat→Prop}
theorem Jur [Dr] {w0:K8}:Jww P N B w0 R Jqu:=fun _ _ _ _ h=>h.elim
theorem Jq2 [Dr] {w0:K8} {rd:Option Nat} {yk:Option YK} {it:IT} {id:Nat} {c:Code} (ih:∀{ann:Nat→Option Ann} {st:St} {k:Ex→St→Prop} {Q:Exit→Act→World→Prop},wpG P Γ ann il c yk it st k→
  (∀e st' a w,k e st'→K7 P N B w0 R st' a w→Q e.toExit a w)→∀a w,K7 P N B w0 R st a w→c.wpIn (FR rd) 0 P Q a w)
  {st:St} {k:Ex→St→Prop} {Q:Exit→Act→World→Prop} (h:wpG P Γ ann il (.block id (.loop c)) yk it st k)
  (hK:∀e st' a w,k e st'→K7 P N B w0 R st' a w→Q e.toExit a w) (a:Act) (w:World) (hs:K7 P N B w0 R st a w):(Code.block id (.loop c)).wpIn (FR rd) 0 P Q a w:=by
 simp only[wpG] at h
 split at h
 ·rename_i A hA
  split at h
  ·rename_i n hn
   refine wpIn_block (wpIn_loop (fun a w=>∃m st',Jby (fun m st k=>wpG P Γ (Jo7 ann m) il c yk it st k) id k m st'∧K7 P N B w0 R st' a w) (fun a w=>leastMu fun m=>∃st',Jby (fun m st k=>wpG P Γ (Jo7 ann m) il c yk it st k) id k m st'∧K7 P N B w0 R st' a w) ⟨n+1,st,h,hs⟩ fun a w hI=> ?_)
   obtain⟨st1,i1,i2⟩:=Yo (p:=fun m=>∃st',Jby (fun m st k=>wpG P Γ (Jo7 ann m) il c yk it st k) id k m st'∧K7 P N B w0 R st' a w) hI
   cases hm:leastMu (fun m=>∃st',Jby (fun m st k=>wpG P Γ (Jo7 ann m) il c yk it st k) id k m st'∧K7 P N B w0 R st' a w) with
   |zero=>rw[hm] at i1;exact i1.elim
   | succ m =>
    rw[hm] at i1
    refine ih i1 (fun e st' a' w' he hs'=> ?_) a w i2
    have hcatch:∀e,Ex.catch id k e st'→Exit.inBlock id Q e.toExit a' w':=by
     intro e he
     cases e with
     |normal=>exact hK .normal st' a' w' he hs'
     |exit i=>
      simp only[Ex.catch] at he
      simp only[Ex.toExit,Exit.inBlock]
      split at he
      ·rename_i e;rw[if_pos e];exact hK .normal st' a' w' he hs'
      ·rename_i e;rw[if_neg e];exact hK (.exit i) st' a' w' he hs'
     |ret=>exact hK .ret st' a' w' he hs'
    cases e with
    |normal=>exact⟨⟨m,st',he,hs'⟩,Nat.lt_succ_of_le (Yn ⟨st',he,hs'⟩)⟩
    |exit i=>exact hcatch (.exit i) he
    |ret=>exact hcatch .ret he
  split at h
  ·obtain⟨x0,h1,h2,h3⟩:=h
   refine wpIn_block (wpIn_loop (fun a w=>∃x,A.inv x∧K7 P N B w0 R (A.σ x) a w) (fun a w=>leastMu fun n=>∃x,A.inv x∧K7 P N B w0 R (A.σ x) a w∧A.mu x=n) ⟨x0,h2,Kx h1 (Ua hs)⟩ fun a w hI=> ?_)
   obtain⟨x,i1,i2,i3⟩:=Yo (p:=fun n=>∃x,A.inv x∧K7 P N B w0 R (A.σ x) a w∧A.mu x=n) (by obtain⟨x,i1,i2⟩:=hI;exact⟨_,x,i1,i2,rfl⟩)
   refine ih (h3 x i1) (fun e st' a' w' he hs'=> ?_) a w i2
   have hcatch:∀e,Ex.catch id k e st'→Exit.inBlock id Q e.toExit a' w':=by
    intro e he
    cases e with
    |normal=>exact hK .normal st' a' w' he hs'
    |exit i=>
     simp only[Ex.catch] at he
     simp only[Ex.toExit,Exit.inBlock]
     split at he
     ·rename_i e;rw[if_pos e];exact hK .normal st' a' w' he hs'
     ·rename_i e;rw[if_neg e];exact hK (.exit i) st' a' w' he hs'
    |ret=>exact hK .ret st' a' w' he hs'
   cases e with
   |normal=>
    obtain⟨y,j1,j2,j3⟩:=he
    refine⟨⟨y,j2,Kx j1 (Ua hs')⟩, ?_⟩
    exact Nat.lt_of_le_of_lt (Yn ⟨y,j2,Kx j1 (Ua hs'),rfl⟩) (by rw[←i3];exact j3)
   |exit i=>exact hcatch (.exit i) he
   |ret=>exact hcatch .ret he
  ·rename_i r hr
   obtain⟨x0,h1,h2,h3⟩:=h
   refine wpIn_block (wpIn_loop (fun a w=>∃x,(A.inv x∧r x0 x)∧K7 P N B w0 R (A.σ x) a w) (fun a w=>leastMu fun n=>∃x,(A.inv x∧r x0 x)∧K7 P N B w0 R (A.σ x) a w∧A.mu x=n) ⟨x0,h2,Kx h1 (Ua hs)⟩ fun a w hI=> ?_)
   obtain⟨x,i1,i2,i3⟩:=Yo (p:=fun n=>∃x,(A.inv x∧r x0 x)∧K7 P N B w0 R (A.σ x) a w∧A.mu x=n) (by obtain⟨x,i1,i2⟩:=hI;exact⟨_,x,i1,i2,rfl⟩)
   refine ih (h3 x i1) (fun e st' a' w' he hs'=> ?_) a w i2
   have hcatch:∀e,Ex.catch id k e st'→Exit.inBlock id Q e.toExit a' w':=by
    intro e he
    cases e with
    |normal=>exact hK .normal st' a' w' he hs'
    |exit i=>
     simp only[Ex.catch] at he
     simp only[Ex.toExit,Exit.inBlock]
     split at he
     ·rename_i e;rw[if_pos e];exact hK .normal st' a' w' he hs'
     ·rename_i e;rw[if_neg e];exact hK (.exit i) st' a' w' he hs'
    |ret=>exact hK .ret st' a' w' he hs'
   cases e with
   |normal=>
    obtain⟨y,j1,j2,j3⟩:=he
    refine⟨⟨y,j2,Kx j1 (Ua hs')⟩, ?_⟩
    exact Nat.lt_of_le_of_lt (Yn ⟨y,j2,Kx j1 (Ua hs'),rfl⟩) (by rw[←i3];exact j3)
   |exit i=>exact hcatch (.exit i) he
   |ret=>exact hcatch .ret he
 ·exact h.elim
theorem Jkv {α:Type} {l:List (Nat×α)} {t:Nat} {v:α} (h:look l t=some v):look ((t,v)::l)=look l:=by
 funext t'
 by_cases e:t'=t
 ·subst e;rw[h];simp[look]
 ·simp[look,Ne.symm e]
theorem Jcx [Dr] {st:St} {a:Act} {w:World} {w0:K8} {t:Nat} {b:Bool} (hs:K7 P N B w0 R st a w) (h:look st.sl t=some (.v false [.bool b])):K7 P N B w0 R (Jq6 st t b) a w:=by
 unfold K7 Jq6 at*
 dsimp only at*
 rw[Jkv h]
 exact hs
theorem K5 [Dr] (hm:P.follows .mixedOrders=true) (hΓ:Ut P Γ) (hil:Jwz P il):∀(c:Code) {ann:Nat→Option Ann} {yk:Option YK} {it:IT} {w0:K8} {rd:Option Nat} {st:St} {k:Ex→St→Prop} {Q:Exit→Act→World→Prop},Uo N c=true→
  ((yk=none→rd=none)∧∀y,yk=some y→(rd=none∨y=Jqu)∧Jww P N B w0 R y)→(it=Jw5∨(rd=none∧w0.marks=true∧J4u P it))→wpG P Γ ann il c yk it st k→
  (∀e st' a w,k e st'→K7 P N B w0 R st' a w→Q e.toExit a w)→∀a w,K7 P N B w0 R st a w→c.wpIn (FR rd) 0 P Q a w
 | .skip,ann,yk,it,w0,rd,st,k,Q,_,hy,hi,h,hK,a,w,hs=>wpIn_skip (hK .normal st a w h hs)
 | .region id ops dr, ann, yk, it, w0, rd, st, k, Q, hd, hy, hi, h, hK, a, w, hs => by
  have hN:∀o∈ops.toList,∀t,o.dst=some t→t<N:=fun o ho t ht=>by
   have:=List.all_eq_true.1 hd o ho
   rw[ht] at this
   simpa[Nat.blt_eq] using this
  simp only[wpG] at h
  split at h
  ·rename_i t ht
   exact Jm3 ht hN h (fun st' a' w' h' hs'=>hK .normal st' a' w' h' hs') id a w hs
  split at h
  ·rename_i t ht
   exact Jqv ht hN h (fun st' a' w' h' hs'=>hK .normal st' a' w' h' hs') id a w hs
  split at h
  ·rename_i ps st' hr
   rw[Zq] at h
   exact Jmw hm hΓ hr h.1 hs hN rfl (fun a' w' hs'=>hK .normal st' a' w' h.2 hs') id
  ·split at h
   ·refine wpIn_region ?_
    rw[List.range_eq_range',show ops.size=ops.toList.length by simp]
    cases yk with
    |none=>exact F4 hΓ Jur @hil (.inr rfl) rfl hN (fun st' a w h hs=>hK .normal st' a w h hs) ops.toList 0 st a w rfl h hs
    |some y=>
     obtain⟨e,hy2⟩:=hy.2 _ rfl
     exact F4 hΓ @hy2 @hil e rfl hN (fun st' a w h hs=>hK .normal st' a w h hs) ops.toList 0 st a w rfl h hs
   ·cases yk with
    | none =>
     obtain rfl:=hy.1 rfl
     have h:Jun P Γ il ops st (k .normal):=h
     unfold Jun at h
     split at h
     ·rename_i hc
      rw[Bool.and_eq_true] at hc
      have hg:∀o∈ops.toList,o.guard=none:=fun o ho=>by
       have:=List.all_eq_true.1 hc.1 o ho
       simpa using this
      refine wpIn_mono (Q:=fun e a w=>e= .normal∧Q .normal a w) (wpIn_region_any hm (Jdh hΓ @hil hN hg hc.2 (fun e a w h=>h.1) (fun st' a w h hs=>⟨rfl,hK .normal st' a w h hs⟩) _ _ st a _ h ?_)) (fun e a w h=>by obtain⟨h1,h2⟩:=h;subst h1;exact h2)
      obtain⟨ρ,M,al,hal,C⟩:=hs
      exact⟨ρ,M,al,hal,C.world rfl ⟨rfl,rfl,rfl,Nat.le_refl _,fun _ _=>rfl,fun _=>Nat.le_succ _⟩⟩
     ·exact h.elim
    |some y=>exact h.elim
 | .seq x y, ann, yk, it, w0, rd, st, k, Q, hd, hy, hi, h, hK, a, w, hs => by
  simp only[Uo,Bool.and_eq_true] at hd
  simp only[wpG] at h
  split at h
  ·rename_i A hA
   split at h
   ·refine wpIn_seq (K5 hm hΓ @hil x hd.1 hy hi h.1 (fun e st' a' w' he hs'=> ?_) a w hs)
    cases e with
    |normal=>
     obtain⟨z,j1,j2⟩:=he
     exact K5 hm hΓ @hil y hd.2 hy hi (h.2 z j2) hK a' w' (Kx j1 (Ua hs'))
    |exit i=>exact hK (.exit i) st' a' w' he hs'
    |ret=>exact hK .ret st' a' w' he hs'
   ·obtain⟨x0,h⟩:=h
    refine wpIn_seq (K5 hm hΓ @hil x hd.1 hy hi h.1 (fun e st' a' w' he hs'=> ?_) a w hs)
    cases e with
    |normal=>
     obtain⟨z,j1,j2⟩:=he
     exact K5 hm hΓ @hil y hd.2 hy hi (h.2 z j2) hK a' w' (Kx j1 (Ua hs'))
    |exit i=>exact hK (.exit i) st' a' w' he hs'
    |ret=>exact hK .ret st' a' w' he hs'
  ·refine wpIn_seq (K5 hm hΓ @hil x hd.1 hy hi h (fun e st' a' w' he hs'=> ?_) a w hs)
   cases e with
   |normal=>exact K5 hm hΓ @hil y hd.2 hy hi he hK a' w' hs'
   |exit i=>exact hK (.exit i) st' a' w' he hs'
   |ret=>exact hK .ret st' a' w' he hs'
 | .cond c x y, ann, yk, it, w0, rd, st, k, Q, hd, hy, hi, h, hK, a, w, hs => by
  simp only[Uo,Bool.and_eq_true] at hd
  simp only[wpG] at h
  split at h
  ·rename_i t
   split at h
   ·rename_i b hb
    obtain⟨ρ,M,al,hal,C⟩:=id hs
    have e:a.eval (.tmp t)= .bool b:=C.slot t _ hb
    cases hdec:Kfy (ann (1000000+t)) with
    |true=>
     rw[hdec] at h
     exact wpIn_cond_split e (fun hb=>K5 hm hΓ @hil x hd.1 hy hi (by subst hb;exact h) hK a w hs) (fun hb=>K5 hm hΓ @hil y hd.2 hy hi (by subst hb;exact h) hK a w hs)
    | false =>
     rw[hdec] at h
     cases hset:Jyk (ann (1000000+t)) with
     |true=>
      rw[hset] at h
      exact wpIn_cond_split e (fun q=>K5 hm hΓ @hil x hd.1 hy hi (by subst q;exact h) hK a w (Jcx hs (by rw[hb,q]))) (fun q=>K5 hm hΓ @hil y hd.2 hy hi (by subst q;exact h) hK a w (Jcx hs (by rw[hb,q])))
     |false=>
      rw[hset] at h
      exact wpIn_cond_split e (fun hb=>K5 hm hΓ @hil x hd.1 hy hi (h.1 hb) hK a w hs) (fun hb=>K5 hm hΓ @hil y hd.2 hy hi (h.2 hb) hK a w hs)
   ·exact h.elim
  ·exact wpIn_cond_split (show a.eval (.const (.bool true))= .bool true from rfl) (fun _=>K5 hm hΓ @hil x hd.1 hy hi h hK a w hs) (fun hb=>by cases hb)
  ·exact wpIn_cond_split (show a.eval (.const (.bool false))= .bool false from rfl) (fun hb=>by cases hb) (fun _=>K5 hm hΓ @hil y hd.2 hy hi h hK a w hs)
  ·exact h.elim
 | .block id c, ann, yk, it, w0, rd, st, k, Q, hd, hy, hi, h, hK, a, w, hs => by
  by_cases hl:∃c',c= .loop c'
  ·obtain⟨c',rfl⟩:=hl
   exact Jq2 (fun h hK a w hs=>K5 hm hΓ @hil c' hd hy hi h hK a w hs) h hK a w hs
  ·have h':wpG P Γ ann il c yk it st (Ex.catch id k):=by
    cases c<;>first|exact h|exact absurd ⟨_,rfl⟩ hl
   refine wpIn_block (K5 hm hΓ @hil c hd hy hi h' (fun e st' a' w' he hs'=> ?_) a w hs)
   cases e with
   |normal=>exact hK .normal st' a' w' he hs'
   |exit i=>
    simp only[Ex.catch] at he
    simp only[Ex.toExit,Exit.inBlock]
    split at he
    ·rename_i e;rw[if_pos e];exact hK .normal st' a' w' he hs'
    ·rename_i e;rw[if_neg e];exact hK (.exit i) st' a' w' he hs'
   |ret=>exact hK .ret st' a' w' he hs'
 | .exit id,ann,yk,it,w0,rd,st,k,Q,_,hy,hi,h,hK,a,w,hs=>wpIn_exit (hK (.exit id) st a w h hs)
 | .ret,ann,yk,it,w0,rd,st,k,Q,_,hy,hi,h,hK,a,w,hs=>wpIn_ret (hK .ret st a w h hs)
 | .scope c,ann,yk,it,w0,rd,st,k,Q,hd,hy,hi,h,hK,a,w,hs=>by
  refine Vq (K5 hm hΓ @hil c hd hy hi h (fun e st' a' w' he hs'=> ?_) a w hs)
  cases e<;>exact hK _ st' a' w' he hs'
 | .label _,ann,yk,it,w0,rd,st,k,Q,_,hy,hi,h,hK,a,w,hs=>wpIn_label (hK .normal st a w h hs)
 | .rangeFunc g ps ca cb, ann, yk, it, w0, rd, st, k, Q, hd, hy, hi, h, hK, a, w, hs => by
  simp only[Uo,Bool.and_eq_true,List.all_eq_true,Nat.blt_eq] at hd
  simp only[wpG] at h
  split at h
  ·rename_i t
   split at h
   ·rename_i j hj
    split at h
    ·rename_i f caps hr
     rcases hi with rfl|⟨rfl,hmk,hit⟩
     ·exact h.elim
     ·exact Jqn hit hmk (fun h hK a w hs=>K5 hm hΓ @hil ca hd.2.1 ⟨fun e=>(by cases e),fun y hy=>(by cases hy;exact⟨.inr rfl,Fm⟩)⟩ (.inl rfl) h hK a w hs) (fun h hK a w hs=>K5 hm hΓ @hil cb hd.2.2 ⟨fun e=>(by cases e),fun y hy=>(by cases hy;exact⟨.inr rfl,Fm⟩)⟩ (.inl rfl) h hK a w hs) hd.1 hj hr h hK a w hs
    ·exact h.elim
   ·exact h.elim
  ·exact h.elim
 | .loop _,_,_,_,_,_,_,_,_,_,_,_,h,_,_,_,_=>h.elim
 | .goto _,_,_,_,_,_,_,_,_,_,_,_,h,_,_,_,_=>h.elim
 | .refuse _,_,_,_,_,_,_,_,_,_,_,_,h,_,_,_,_=>h.elim
termination_by c=>SizeOf.sizeOf c
end
theorem Zx [Dr] {P:Program} {N B:Nat} {w0:K8} {al:Nat→Prop} {s:St} {a:Act} {w:World} {ρ:Env} {M R:Nat→Prop} (C:Jl P N B w0 al (look s.sl) (look s.rs) a w ρ M R):∀{l:List ResultVar} {vs:List SV},Uf P s l=some vs→∀v∈vs,∀id∈v.ids,al id
 |[],vs,h=>by cases h;intro v hv;simp at hv
 | r :: l, vs, h => by
  cases r with
  | tmp t =>
   simp only[Uf] at h
   split at h
   ·rename_i u l' hu hl
    cases h
    intro v hv
    rcases List.mem_cons.1 hv with rfl|hv
    ·exact C.slotIds t _ hu
    ·exact Zx C hl v hv
   ·cases h
  | cell t T =>
   simp only[Uf] at h
   split at h
   ·rename_i i l' hu hl
    split at h
    ·rename_i U cs hr
     split at h
     ·rename_i hc
      obtain⟨e,hm⟩:=hc
      subst e
      split at h
      ·rename_i u hsh
       cases h
       intro v hv
       rcases List.mem_cons.1 hv with rfl|hv
       ·exact(Jdw C (off:=0) hr hm (by omega) (v:=v) (by simpa using hsh)).2.2
       ·exact Zx C hl v hv
      ·cases h
     ·cases h
    ·cases h
   ·cases h
theorem Jia {ρ:Env}:∀{l:List SV} {ps:List (Bool×List SC)},Jpz l=some ps→ps.map (Jvm ρ)=l.map (SV.den ρ)∧∀id∈ps.flatMap (fun p=>J1 p.2),∃v∈l,id∈v.ids
 |[],_,h=>by cases h;exact⟨rfl,fun id hid=>by simp at hid⟩
 | .v g cs :: r, ps, h => by
  simp only[Jpz] at h
  split at h
  ·rename_i l hl
   cases h
   obtain⟨h1,h2⟩:=Jia hl
   refine⟨by rw[List.map_cons,List.map_cons,h1];rfl,fun id hid=> ?_⟩
   rw[List.flatMap_cons] at hid
   rcases List.mem_append.1 hid with hid|hid
   ·exact⟨.v g cs,by simp,hid⟩
   ·obtain⟨v,hv,hi⟩:=h2 id hid
    exact⟨v,by simp[hv],hi⟩
  ·cases h
 | .tup _::_,_,h=>by cases h
theorem Jmt {ρ:Env} {l:List SV} {v:SV} (h:Jij l=some v):Jum (l.map (SV.den ρ))=v.den ρ∧∀id∈v.ids,∃u∈l,id∈u.ids:=by
 unfold Jij at h
 split at h
 ·cases h;exact⟨rfl,fun id hid=>⟨_,by simp,hid⟩⟩
 ·rename_i hne
  split at h
  ·rename_i ps hps
   cases h
   obtain⟨h1,h2⟩:=Jia (ρ:=ρ) hps
   refine⟨?_,h2⟩
   have e:Jum (l.map (SV.den ρ))= .tuple (l.map (SV.den ρ)).toArray:=by
    match l,hne with
    |[],_=>rfl
    |[u],hne=>exact absurd rfl (hne u)
    |u::u'::r,_=>rfl
   rw[e]
   simp only[SV.den]
   rw[h1]
  ·cases h
theorem Jfa {fn:Func} {tmps:Array Value} {P:Program} {w:World} (h:fn.results.isEmpty=true):∃v,(results fn tmps).run P w= .ok v w:=by
 have e:fn.results= #[]:=Array.isEmpty_iff.1 h
 rw[Jb7,e]
 refine⟨.tuple #[], ?_⟩
 rw[Sem.run_bind,Array.mapM_eq_mapM_toList]
 simp[Sem.run_map,Sem.run_pure]
theorem Jsz [Dr] {P:Program} {Γ:Gam} {ann:FuncId→Nat→Option Ann} {il:IL} {lib:FuncId→Option Func} (hm:P.follows .mixedOrders=true) (hΓ:Ut P Γ) (hil:Jwz P il) (hl:∀f fn,lib f=some fn→P.funcs[f]? =some fn):J4u P (itS P Γ ann il lib):=by
 intro f st yk fin B w0 R args w h hmk hyk hinit
 unfold itS at h
 split at h
 ·rename_i fn hfn
  have hf:=hl f fn hfn
  split at h
  ·rename_i c hc
   split at h
   ·rename_i hs
    simp only[Bool.and_eq_true,Bool.not_eq_true',Nat.ble_eq] at hs
    obtain⟨⟨⟨hd,hN⟩,hname⟩,hres⟩:=hs
    refine⟨⟨fn,hf,by rw[hc];rfl,hname⟩,callsIn_of_wp (F:=FR none) (n:=0) hf hc trivial (K5 (N:=fn.ntmps) (B:=B) (R:=R) (w0:=w0) (rd:=none) hm hΓ @hil c hd (⟨fun _=>rfl,fun y hy=>by cases hy;exact⟨.inl rfl,hyk _⟩⟩) (.inl rfl) h (fun e st' a' w' he hs'=> ?_) _ w (hinit fn.ntmps hN))⟩
    obtain⟨ρ,M,al,hal,C⟩:=id hs'
    obtain⟨v,hv⟩:=Jfa (tmps:=a'.tmps) (P:=P) (w:=w') hres
    cases e with
    |normal=>exact⟨C.nomark hmk,v,hv,fn.ntmps,v,a',st',rfl,he,hs'⟩
    |exit i=>exact he.elim
    |ret=>exact⟨C.nomark hmk,v,hv,fn.ntmps,v,a',st',rfl,he,hs'⟩
   ·exact h.elim
  ·exact h.elim
 ·exact h.elim
theorem Rep.shrink {M K:Nat→Prop} {w:World}:∀{s:Sch} {x:s.T} {cs:List Value},Rep M w s x cs→Rep (fun b=>M b∧(K b∨∃o:Obj,w.heap[b]? =some o∧o.isCells=true)) w s x cs
 | .int _,_,_,h=>h
 | .bool,_,_,h=>h
 | .str,_,_,h=>h
 | .flt _,_,_,h=>h
 | .fnc,_,_,h=>h
 | .prod _ _,_,_,⟨c1,c2,e,h1,h2⟩=>⟨c1,c2,e,Rep.shrink h1,Rep.shrink h2⟩
 | .list _ _, _, _, ⟨v, flat, e, h1, h2⟩ => by
  refine⟨v,flat,e,h1.imp fun _ _ h=>Rep.shrink h, ?_⟩
  rcases h2 with h2|⟨b,off,cap,e1,e2,e3,e4⟩
  ·exact .inl h2
  ·refine .inr ⟨b,off,cap,e1,e2,e3,fun hf=>⟨e4 hf, .inr ?_⟩⟩
   cases flat with
   |nil=>exact absurd rfl hf
   |cons u r=>exact cells_of_cell (e3 0 u rfl)
section
variable {P:Program} {N B:Nat} {w0:K8} {al:Nat→Prop} {τ:Nat→Option SV} {σ:Nat→Option Res} {a:Act} {w:World} {ρ:Env} {M R:Nat→Prop}
theorem Jt.shrink {M K:Nat→Prop} {w:World} {gk gv:Bool} {ks vs:Sch}:∀{l:List (ks.T×vs.T)} {n:Nat} {es:List MapEntry},Jt M w gk gv ks vs l n es→Jt (fun b=>M b∧(K b∨∃o:Obj,w.heap[b]? =some o∧o.isCells=true)) w gk gv ks vs l n es
 |[],_,_,h=>h
 |_::_,_,_,⟨kc,vc,r,e,h1,h2,h3⟩=>⟨kc,vc,r,e,Rep.shrink h1,Rep.shrink h2,h3.shrink⟩
theorem Jl.shrink [Dr] (C:Jl P N B w0 al τ σ a w ρ M R) (hc:∀r x,σ r=some x→x.soft=true):
  Jl P N B w0 al τ σ {a with defers:=[]} w ρ (fun b=>M b∧(w0.M b∨∃o:Obj,w.heap[b]? =some o∧o.isCells=true)) R:=by
 refine⟨C.size,⟨fun d hd=>by simp at hd, .nil⟩,fun _=>rfl,C.stay,C.stayR,C.below,C.base,C.slot,C.slotIds,fun r x hx=> ?_,C.resIds,C.apart,fun b hb=>C.old b (hb.imp And.left id),C.one,fun b=>⟨fun h=>(C.up b).1 h.1,fun h=>⟨(C.up b).2 h, .inl h⟩⟩,C.good⟩
 have h:=C.resA r x hx
 cases x with
 |box T cs=>obtain⟨b,h1,h2,h3,h4⟩:=h;exact⟨b,h1,h2,fun h=>h3 h.1,h4⟩
 |imm T s xs=>exact Rep.shrink (K:=w0.M) h
 |own T s xs=>obtain⟨flat,h1,h2,h3⟩:=h;exact⟨flat,h1.imp fun _ _ h=>Rep.shrink h,h2,fun g hg=>⟨fun h=>(h3 g hg).1 h.1,(h3 g hg).2⟩⟩
 |ownT T s xs=>obtain⟨flat,h1,h2,h3⟩:=h;exact⟨flat,h1.imp fun _ _ h=>Rep.shrink h,h2,fun g hg=>⟨fun h=>(h3 g hg).1 h.1,(h3 g hg).2⟩⟩
 |clo f first caps=>exact h
 |rbox T s x=>obtain⟨b,cs,h1,h2,h3,h4⟩:=h;exact⟨b,cs,h1,h2,h3,Rep.shrink h4⟩
 |map ks=>obtain⟨b,es,h1,h2,h3,h4,h5⟩:=h;exact⟨b,es,h1,h2,h3,fun h=>h4 h.1,h5⟩
 |iter j ks seen=>obtain⟨b,m,h1,h2,h3,h4,h5⟩:=h;exact⟨b,m,h1,h2,h3,fun h=>h4 h.1,h5⟩
 |fbox T cs=>obtain⟨b,h1,h2,h3⟩:=h;exact⟨b,h1,h2,h3, .inr ⟨_,h2,rfl⟩⟩
 |mp kT gk gv ks vs l=>obtain⟨h0,b,es,h1,h2,h3,h4,h5⟩:=h;exact⟨h0,b,es,h1,h2,h3.shrink,fun h=>h4 h.1,h5⟩
 |mpi j kT gk gv ks vs l seen=>obtain⟨b,m,h1,h2,h3,h4,h5⟩:=h;exact⟨b,m,h1,h2,h3,fun h=>h4 h.1,h5⟩
 |sus l=>exact h
 |yld s=>obtain⟨l,rc,h1,h2,h3,h4,h5⟩:=h;exact⟨l,rc,h1,h2,h3,fun h=>h4 h.1,h5⟩
 |afn _ _ _ _=>cases hc _ _ hx
 |ifc _=>exact h
 |ifb _ _=>exact h
 |siter s pos=>obtain⟨b,h1,h2,h3,h4⟩:=h;exact⟨b,h1,h2,fun h=>h3 h.1,h4⟩
 |lit T xs=>obtain⟨h0,b,m,h1,h2,h3,h4⟩:=h;exact⟨h0,b,m,h1,h2,fun h=>h3 h.1,h4⟩
theorem Jai [Dr] (C:Jl P N B w0 al τ σ a w ρ M R) (hc:∀r x,σ r=some x→x.soft=true) (hB:∀b,w0.M b→b<w0.w.heap.size):
  ∃w'' M'',Jl P N B w0 al τ σ {a with defers:=[]} w'' ρ M'' R∧∀(fn:Func) (Rp:Ending→World→Prop),(∃v,(results fn a.tmps).run P w''= .ok v w''∧Rp (.returned v) w'')→LeavesInM (FR none) 0 P fn a.tmps Rp a.defers .returning w:=by
 obtain⟨M2,hM2⟩:∃M2,M2=fun b=>M b∧(w0.M b∨∃o:Obj,w.heap[b]? =some o∧o.isCells=true):=⟨_,rfl⟩
 have C1:Jl P N B w0 al τ σ {a with defers:=[]} w ρ M2 R:=by rw[hM2];exact C.shrink hc
 have key:∀(ds:List Deferred) (w:World),Jl P N B w0 al τ σ {a with defers:=[]} w ρ M2 R→
   (∀d∈ds,∃D,d={target:= .collected D,args:= #[]}∧w.heap[D]? =some (.deferred (some []))∧B≤D∧¬M2 D∧¬R D∧∀r x,σ r=some x→x.owning=true→blk (ρ r)≠some D)→ds.Nodup→
   ∃w'',Jl P N B w0 al τ σ {a with defers:=[]} w'' ρ M2 R∧∀(fn:Func) (Rp:Ending→World→Prop),(∃v,(results fn a.tmps).run P w''= .ok v w''∧Rp (.returned v) w'')→LeavesInM (FR none) 0 P fn a.tmps Rp ds .returning w:=by
  intro ds
  induction ds with
  |nil=>exact fun w C _ _=>⟨w,C,fun fn Rp h=>h⟩
  | cons d ds ih =>
   intro w C hd hn
   obtain⟨D,e,h1,h2,h3,h4,h5⟩:=hd d (by simp)
   obtain⟨hn1,hn2⟩:=List.nodup_cons.1 hn
   obtain⟨w'',C'',hl⟩:=ih _ (C.putFree (.deferred none) h2 h3 h4 h5) (fun d' hd'=>by
    obtain⟨D',e',k1,k2⟩:=hd d' (by simp[hd'])
    refine⟨D',e', ?_,k2⟩
    rw[World.putObj_heap_other]
    ·exact k1
    ·rintro rfl
     exact hn1 (by rw[e,←e'];exact hd')) hn2
   exact⟨w'',C'',fun fn Rp h=>⟨by simp, .inl ⟨D,_,by rw[e],run_takeDeferred h1,hl fn Rp h⟩⟩⟩
 obtain⟨w'',C'',h⟩:=key a.defers w C1 (fun d hd=>by
  obtain⟨D,d1,d2,d3,d4,d5⟩:=C.defers.1 d hd
  obtain⟨d5,d6⟩:=d5
  refine⟨D,d1,d3,d5,fun h=> ?_,d4,fun r x hx ho hb=>(C.notM hx ho hb).1 d2⟩
  rw[hM2] at h
  rcases h.2 with h|⟨o,h1,h2⟩
  ·have:=hB D h;omega
  ·rw[d3] at h1;cases h1;cases h2) C.defers.2
 exact⟨w'',M2,C'',h⟩
end
theorem Je1 {x:Res} (h:x.calm=true):x.soft=true:=by cases x<;>first|rfl|cases h
theorem Jus [Dr] {P:Program}:Jwz P Kfs:=fun _ _ _ h=>h.elim
theorem Jq8 [Dr] {P:Program} {Γ:Gam} (hΓ:Ut P Γ):Jwz P (Jva Γ):=by
 intro f st args K N B w0 R ρ M al a w hal C hids h
 unfold Jva at h
 split at h
 case h_2=>exact h.elim
 rename_i c hc
 split at h
 case h_2=>exact h.elim
 rename_i z hz
 split at h
 case h_2=>exact h.elim
 rename_i r i g hrel
 split at h
 case h_2=>exact h.elim
 rename_i T s xs hr
 split at h
 case isFalse=>exact h.elim
 rename_i he
 obtain⟨e1,e2,e3,hno⟩:=he
 subst e1;subst e2;subst e3
 obtain⟨hpre,h⟩:=h
 obtain⟨hE,hS,_,_⟩:=hΓ f c hc
 obtain⟨flat,f1,f2,f3⟩:=C.res i _ hr
 have hcall:=hS z hz w B (ρ i) xs flat C.base (fun w' h=>C.good w' (C.below.trans h)) (f1.imp fun _ _ h=>Vo hno h) f2 hpre
 refine⟨hE,hcall.mono fun e w' hp=> ?_⟩
 obtain⟨rfl,ys,hy,hl,flat',g1,g2,g3,g4⟩:=hp
 rw[hrel] at hy
 refine⟨.tuple #[], .tup [],_,ρ,M,Ve al st.nx [],rfl,h ys hy,fun id hid=> ?_, ?_,rfl,fun id hid=>by simp[SV.ids] at hid⟩
 ·rcases hid with hid|hid
  ·exact hal id hid
  ·simp at hid;omega
 ·have key:=F0 (n:=st.nx) C (d:=none) (fun t ht=>by cases ht) hr hno f2 f3 hl g1 g2 g3 g4
  have e1:Vd (look st.sl) none (.tup [])=look st.sl:=by funext t;simp[Vd]
  have e2:Ki (look st.rs) st.nx [] [(i,some (Res.own z.T z.s ys))]=look (J5 st.rs (i,some (Res.own z.T z.s ys))):=by
   funext id
   rw[J8]
   unfold Ki
   rw[if_neg (by simp)]
   by_cases e:id=i
   ·subst e;simp[look]
   ·have e':¬i=id:=fun h=>e h.symm
    simp[look,e,e']
  rw[e1,e2] at key
  exact key
theorem Js3 [Dr] {P:Program} {Γ:Gam} {ann:FuncId→Nat→Option Ann} {lib:FuncId→Option Func} (hm:P.follows .mixedOrders=true) (hΓ:Ut P Γ) (hl:∀f fn,lib f=some fn→P.funcs[f]? =some fn) (n:Nat):Jwz P (ilS P Γ ann lib n):=by
 induction n with
 |zero=>exact Jus
 | succ n hil =>
  intro f st args K N B w0 R ρ M al a w hal C hids h
  simp only[ilS] at h
  split at h
  case h_2=>exact Jq8 hΓ hal C hids h
  rename_i fn hfn
  have hf:=hl f fn hfn
  split at h
  case h_2=>exact h.elim
  rename_i c hc
  split at h
  case isFalse=>exact h.elim
  rename_i hs
  simp only[Bool.and_eq_true,Bool.not_eq_true',Nat.ble_eq] at hs
  obtain⟨⟨hd,hN⟩,hname⟩:=hs
  obtain⟨m,it,hit,h⟩:∃(m:Bool) (it:IT),(it=Jw5∨m=true∧J4u P it)∧J7t P Γ ann (ilS P Γ ann lib n) it m fn c f st args K:=by
   split at h
   ·exact⟨true,_, .inr ⟨rfl,Jsz hm hΓ @hil hl⟩,h⟩
   ·exact⟨false,_, .inl rfl,h⟩
  refine⟨⟨fn,hf,by rw[hc];rfl,hname⟩, ?_⟩
  have hz:∀id,al id→id≠st.nx:=fun id h=>Nat.ne_of_lt (hal id h)
  let w0i:K8:={w:=w,M:=M,an:=fun id=>if id=st.nx then some (.vals fun t=>a.tmps.getD t undef) else w0.an id,marks:=m}
  let ρi:Env:=fun id=>if id=st.nx then .bool true else ρ id
  have hρ:∀id,al id→ρi id=ρ id:=fun id h=>if_neg (hz id h)
  have hden:∀v:SV,(∀id∈v.ids,al id)→v.den ρi=v.den ρ:=fun v h=>SV.den_congr fun id hid=>hρ id (h id hid)
  have hargs:args.map (SV.den ρ)=args.map (SV.den ρi):=List.map_congr_left fun v hv=>(hden v (hids v hv)).symm
  refine X9.1 (callsIn_of_wp_marks (F:=FR none) (n:=0) hf hc trivial (K5 (N:=fn.ntmps) (B:=B) (R:=R) (w0:=w0i) (rd:=none) hm hΓ @hil c hd ⟨fun _=>rfl,fun y hy=>by cases hy⟩ (hit.imp id fun h=>⟨rfl,h.1,h.2⟩) h (fun e st' a' w' he hs'=> ?_) _ w
   ⟨ρi,M,fun id=>al id∨id=st.nx,fun id h=> ?_,⟨by simp;omega,⟨fun d hd=>by simp at hd, .nil⟩,fun _=>rfl,fun _ _=>rfl,fun _ _=>rfl,Below.refl _ _,C.base,fun t v ht=> ?_,fun t v ht id hid=> ?_,fun r x hx=> ?_,fun r x hx=> ?_,fun r r' x x' hne hx hx' ho ho' b hb hb'=> ?_,C.old, ?_,fun b=>⟨fun h=> .inl h,fun h=>h⟩,fun w' hw'=>C.good w' (C.below.trans hw')⟩⟩))
  ·-- behind the call
   obtain⟨ρf,Mf0,alf,half,Cf0⟩:=hs'
   have key:(match m&& !(st'.rs.all fun p=>p.2.soft) with
     |true=>False
     | false => match Uf P st' fn.results.toList, look st'.rs st.nx with
      |some vs,some (.sus l)=>match Jij vs with
       |some v=>K v ⟨st'.nx,l,J5 st'.rs (st.nx,none)⟩
       |none=>False
      |_,_=>False)→LeavesInM (FR none) 0 P fn a'.tmps (fun e w'=>∃v u st' ρ' M' al',e= .returned v∧K u st'∧(∀id,al' id→id<st'.nx)∧Jl P N B w0 al' (look st'.sl) (look st'.rs) a w' ρ' M' R∧v=u.den ρ'∧∀id∈u.ids,al' id) a'.defers .returning w':=by
    intro hk
    split at hk
    case h_1=>exact hk.elim
    rename_i hsoft
    split at hk
    case h_2=>exact hk.elim
    rename_i vs l hv hs2
    split at hk
    case h_2=>exact hk.elim
    rename_i v hone
    obtain⟨w2,Mf,Cf,hleave⟩:∃w2 Mf,Jl P fn.ntmps B w0i alf (look st'.sl) (look st'.rs) {a' with defers:=[]} w2 ρf Mf R∧∀(fn:Func) (Rp:Ending→World→Prop),(∃v,(results fn a'.tmps).run P w2= .ok v w2∧Rp (.returned v) w2)→LeavesInM (FR none) 0 P fn a'.tmps Rp a'.defers .returning w':=by
     cases hmb:m with
     |true=>
      rw[hmb] at hsoft
      simp only[Bool.true_and,Bool.not_eq_false'] at hsoft
      exact Jai Cf0 (fun r x hx=>List.all_eq_true.1 hsoft _ (Jr hx)) fun b hb=>C.old b (.inl hb)
     | false =>
      have hd0:a'.defers=[]:=Cf0.nomark hmb
      refine⟨w',Mf0, ?_,fun fn Rp hR=> ?_⟩
      ·have e:({a' with defers:=[]}:Act)=a':=by cases a';simp only at hd0;rw[hd0]
       rw[e];exact Cf0
      ·rw[hd0];exact hR
    obtain⟨hval,hvids⟩:=Jmt (ρ:=ρf) hone
    have hvids':∀id∈v.ids,alf id:=fun id hid=>by
     obtain⟨u,hu,hi⟩:=hvids id hid
     exact Zx Cf hv u hu id hi
    refine hleave fn _ ?_
    obtain⟨T3,t1,t2⟩:=Cf.resA st.nx _ hs2
    have t1':some (Jsc.vals fun t=>a.tmps.getD t undef)=some (Jsc.vals T3):=by rw[←t1];exact(if_pos rfl).symm
    cases t1'
    have hlook:∀{r x},look (J5 st'.rs (st.nx,none)) r=some x→r≠st.nx∧look st'.rs r=some x:=by
     intro r x h
     rw[J8] at h
     split at h
     ·cases h
     ·rename_i hne;exact⟨hne,h⟩
    have hMf:∀b,M b→Mf b:=fun b hb=>(Cf.up b).2 hb
    refine⟨_,Zv Cf hv,_,v,_,ρf,Mf,alf,rfl,hk,half,⟨C.size,C.defers.keep hMf fun b hb=>Cf.stay b hb,C.nomark,fun b hb=>(Cf.stay b ((C.up b).2 hb)).trans (C.stay b hb),fun b hb=>(Cf.stayR b hb).trans (C.stayR b hb),C.below.trans Cf.below,Cf.base,fun t v ht=>t2 _ (Jr ht),fun t v ht id hid=>(Cf.resIds _ _ hs2).2 id (List.mem_flatMap.2 ⟨_,Jr ht,hid⟩),fun r x hx=>(Cf.resA r x (hlook hx).2).base fun _=>(if_neg (hlook hx).1).symm,fun r x hx=>Cf.resIds r x (hlook hx).2,fun r r' x x' hne hx hx'=>Cf.apart r r' x x' hne (hlook hx).2 (hlook hx').2,Cf.old,Cf.one,fun b=>⟨fun h=> ?_,fun h=>hMf b ((C.up b).2 h)⟩,C.good⟩,hval,hvids'⟩
    rcases(Cf.up b).1 h with h|h
    ·exact(C.up b).1 h
    ·exact .inr h
   cases e with
   |normal=>exact key he
   |exit i=>exact he.elim
   |ret=>exact key he
  ·show id<st.nx+1
   rcases h with h|h
   ·have:=hal id h;omega
   ·omega
  ·simp only at ht
   rw[U8,if_pos (Nat.zero_le _),Nat.sub_zero] at ht
   have hlt:t<args.length:=(List.getElem?_eq_some_iff.1 ht).1
   have:(args.map (SV.den ρ)).toArray[t]? =some (v.den ρi):=by rw[hargs,List.getElem?_toArray,List.getElem?_map,ht];rfl
   simp only[Array.getD_eq_getD_getElem?,Array.getElem?_append]
   rw[if_pos (by simpa using hlt),this]
   rfl
  ·simp only at ht
   rw[U8,if_pos (Nat.zero_le _),Nat.sub_zero] at ht
   exact .inl (hids v (List.mem_of_getElem? ht) id hid)
  ·simp only[look] at hx
   split at hx
   ·rename_i e2
    subst e2;cases hx
    refine⟨_,if_pos rfl,fun p hp=> ?_⟩
    have h1:=Uy hp
    rw[hden p.2 (C.slotIds _ _ h1)]
    exact C.slot _ _ h1
   ·rename_i e2
    have hr:=C.resIds r x hx
    exact((C.resA r x hx).keep (hρ r hr.1) (fun id hid=>hρ id (hr.2 id hid)) (fun _ h=>h) (fun b hb=>rfl) fun ho b hb=>⟨rfl,(C.notM hx ho hb).1⟩).base fun _=>if_neg (Ne.symm e2)
  ·simp only[look] at hx
   split at hx
   ·rename_i e2
    subst e2;cases hx
    refine⟨.inr rfl,fun id hid=> ?_⟩
    obtain⟨p,hp,hid⟩:=List.mem_flatMap.1 hid
    exact .inl (C.slotIds _ _ (Uy hp) id hid)
   ·have hr:=C.resIds r x hx
    exact⟨.inl hr.1,fun id hid=> .inl (hr.2 id hid)⟩
  ·simp only[look] at hx hx'
   split at hx
   ·cases hx;cases ho
   ·split at hx'
    ·cases hx';cases ho'
    ·rw[hρ r (C.resIds r x hx).1] at hb
     rw[hρ r' (C.resIds r' x' hx').1] at hb'
     exact C.apart r r' x x' hne hx hx' ho ho' b hb hb'
  ·rintro i (hi|hi)
   ·rw[hρ i hi];exact C.one i hi
   ·have:ρi i= .bool true:=if_pos hi
    rw[this];rfl
theorem H2 {P:Program} {l:List (Nat×Func)} (h:∀p∈l,P.funcs[p.1]? =some p.2):∀f fn,look l f=some fn→P.funcs[f]? =some fn:=fun _ _ hl=>h _ (Jr hl)
theorem Vz [Dr] {P:Program} {Γ:Gam} {f:FuncId} {fn:Func} {c:Con} {lib:FuncId→Option Func} (hm:P.follows .mixedOrders=true) (hΓ:Ut P Γ) (hf:P.funcs[f]? =some fn) (hs:Lr fn c=true)
  (hl:∀f fn,lib f=some fn→P.funcs[f]? =some fn) (ann:ATup c.args→Nat→Option Ann) (annF:ATup c.args→FuncId→Nat→Option Ann) (h:∀x:ATup c.args,wpFG P Γ (ann x) (annF x) lib fn c x):Ok P f c:=by
 unfold Lr at hs
 cases hb:fn.body with
 |none=>rw[hb] at hs;cases hs
 | some code =>
  rw[hb] at hs
  simp only[Bool.and_eq_true,Bool.not_eq_true',Nat.ble_eq] at hs
  obtain⟨⟨⟨⟨hd,hN⟩,hname⟩,hsn⟩,hpn⟩:=hs
  refine⟨⟨fn,hf,by rw[hb];rfl,hname⟩,fun z hz=>(by rw[hz] at hsn;cases hsn),fun F hF=>(by rw[hF] at hpn;cases hpn),fun _ x M R w vs hM hgood hpre hargs=> ?_⟩
  have hx:=h x
  unfold wpFG at hx
  rw[hb] at hx
  have hw:=Ji0 hx hpre
  refine X9.1 (callsIn_of_wp_marks (F:=FR none) (n:=0) hf hb trivial (K5 (rd:=none) (N:=fn.ntmps) (B:=w.heap.size) (w0:=⟨w,M,fun _=>none,true⟩) (R:=R) hm hΓ (Js3 hm hΓ hl 5) code hd ⟨fun _=>rfl,fun y hy=>by cases hy⟩ (.inr ⟨rfl,rfl,Jsz hm hΓ (Js3 hm hΓ hl 5) hl⟩) hw (fun e st' a' w' he hs'=> ?_) _ w (Jiy true hargs hM hN hgood)))
  have key : ((st'.rs.all fun p => p.2.calm) = true ∧ Jw4 P fn c x st') → LeavesInM (FR none) 0 P fn a'.tmps (Jj7 M w c.ress c.owns (c.spec x)) a'.defers .returning w' := by
   rintro⟨hcalm,hr⟩
   obtain⟨ρ,M',al,_,C⟩:=hs'
   obtain⟨w2,M2,C2,hleave⟩:=Jai C (fun r x hx=>Je1 (List.all_eq_true.1 hcalm _ (Jr hx))) (fun b hb=>hM b (.inl hb))
   refine hleave fn _ ?_
   unfold Jw4 at hr
   split at hr
   ·rename_i rv hrv
    split at hr
    ·rename_i y hy
     split at hr
     ·rename_i ho
      have e:=Jc1 hr
      subst e
      refine⟨_,Zv C2 hrv, ?_⟩
      have hres:=Ht C2 (Je7 (look st'.rs) c.owns rv) (fun i y h=>Je6 h) hy ho (fun v hv g cs i T s' xs e hi hr=>by
       subst e
       exact Km hv (Ug hi hr))
      refine⟨_,_,rfl,C2.below,fun b hb=> .inl ((C2.up b).2 hb),fun b hb=> ?_,hres⟩
      rcases hb with hb|⟨i,y,T,s',xs,_,hr',hg⟩
      ·rcases(C2.up b).1 hb with h1|h1
       ·exact .inl h1
       ·exact .inr ⟨h1.1,C2.old b (.inl hb)⟩
      ·have:=C2.notM hr' rfl (Jk hg)
       exact .inr ⟨this.2.2.1,this.2.2.2⟩
     ·exact hr.elim
    ·exact hr.elim
   ·exact hr.elim
  cases e with
  |normal=>exact key he
  |exit i=>exact he.elim
  |ret=>exact key he
end Go.Sx
namespace Go.Sx
open Go.RowKit
structure Jxx where
 T? :Option TypeId
 s:Sch
 args:List AK
 ress:List (Bool×Sch)
 pre:s.T→ATup args→List Prop
 spec:s.T→ATup args→Tup ress
 post:s.T→ATup args→s.T
def Jyc (rs:Nat→Option Res):Sch→List SC→Bool
 | .prod a b,cs=>Jyc rs a (cs.take a.size)&&Jyc rs b (cs.drop a.size)
 | .list T _, cs => match cs with
  |[.sl i]=>match rs i with
   |some (.own T' _ _)=>Nat.beq T' T
   |_=>false
  |[.val (.slice none 0 0)]=>true
  |_=>false
 |_,_=>true
def Kk5 (M R:Nat→Prop) (B:Nat) (w:World) (y:Res) (v:Value):Prop:=
 v.oneCell'=true∧∃T s xs flat,y= .own T s xs∧Kz (Rep M w s) xs flat∧w.ownsRow B T s.size v (xs:List s.T).length flat∧∀g,v.ownBlock=some g→¬M g∧¬R g
def J1h (u u':Value):Prop:=∀b,blk u=some b→blk u'≠some b
structure Kk6 (M R:Nat→Prop) (B:Nat) (w:World) (s:Sch) (x:s.T) (cells vals:List Value):Prop where
 len:vals.length=(Ka (enc s x) 0).2.length
 cells:∀(n:Nat) (ρ':Env),(∀(i:Nat) (u:Value),vals[i]? =some u→ρ' (n+i)=u)→cells=(Ka (enc s x) n).1.map (SC.den ρ')
 own:∀(i:Nat) (y:Res),((Ka (enc s x) 0).2.map Jgw)[i]? =some y→∃v,vals[i]? =some v∧Kk5 M R B w y v
 apart:vals.Pairwise J1h
def Jyn (c:Jxx) (T:TypeId) (x:c.s.T) (y:ATup c.args):St:=
 let o:=Ka (enc c.s x) 2
 let a:=Ky c.args y (2+o.2.length)
 ⟨2+o.2.length+a.2.length,Jko (.one (.ptr 1 0)::a.1) 0,Jko (.sus [(0, .one (.ptr 1 0))]:: .box T o.1::(o.2.map Jgw++a.2)) 0⟩
def Kh5 (P:Program) (fn:Func) (c:Jxx) (T:TypeId) (x:c.s.T) (y:ATup c.args) (s:St):Prop:=
 match Uf P s fn.results.toList,look s.rs 0 with
 | some vs, some (.sus [(0, .v false [.ptr i 0])]) => match look s.rs i, Zs (look s.rs) c.ress vs with
  |some (.box T' cs),some r=>match dec (look s.rs) c.s cs with
   |some x'=>if Jyc (look s.rs) c.s cs=true∧Ya (J1 cs)=true then Kf ((T'=T)::(x'=c.post x y)::Jlt c.ress r (c.spec x y)) else False
   |none=>False
  |_,_=>False
 |_,_=>False
@[irreducible] def wpFO (P:Program) (Γ:Gam) (ann:Nat→Option Ann) (annF:FuncId→Nat→Option Ann) (lib:FuncId→Option Func) (fn:Func) (c:Jxx) (T:TypeId) (x:c.s.T) (y:ATup c.args):Prop:=
 match fn.body with
 |some code=>Jw8 (c.pre x y)<|wpG P Γ ann (ilS P Γ annF lib 5) code none (itS P Γ annF (ilS P Γ annF lib 5) lib) (Jyn c T x y) fun e s=>match e with
  | .exit _=>False
  |_=>(s.rs.all fun p=>p.2.soft)=true∧Kh5 P fn c T x y s
 |none=>False
def J7v (rs:Nat→Option Res) (id:Nat):Option Res:=match rs id with
 |some (.box _ _)=>none
 |x=>x
def okT (T? :Option TypeId) (T:TypeId):Bool:=match T? with
 |some T0=>Nat.beq T T0
 |none=>true
def Kkh (c : Jxx) (rs : Nat → Option Res) (n : Nat) (args : List SV) : Option Out := match args with
 | .v false [.ptr i 0] :: l => match rs i with
  | some (.box T cs) => match dec rs c.s cs, D6 (J7v rs) c.args l with
   | some x, some y =>
    if(Jyc rs c.s cs&&Ya (J1 cs)&& !(hasList c.ress)&&okT c.T? T&&l.all (fun v=>v.ids.all fun id=> !((J1 cs).contains id)&& !(Nat.beq id i)))=true then
     let r:=Ka (enc c.s (c.post x y)) n
     some ⟨c.pre x y,Xd (Jh (Jq c.ress (c.spec x y)) [] n).1,r.2.map Jgw,((i,some (.box T r.1))::(J1 cs).map fun j=>(j,none))++Je7 rs [] l⟩
    else none
   |_,_=>none
  |_=>none
 |_=>none
def Jxx.con (c:Jxx):Con:={args:=[],ress:=[],owns:=[],pre:=fun _=>[False],spec:=fun _=>(),prim:=some (Kkh c)}
structure J1g where
 kT:TypeId
 gk:Bool
 gv:Bool
 ks:Sch
 vs:Sch
 l:List (ks.T×vs.T)
def Kh7 (P:Program) (fn:Func) (c:J1g) (s:St):Prop:=
 match Uf P s fn.results.toList with
 |some [.v false [.sl i]]=>match look s.rs i with
  |some (.mp kT gk gv ks vs l)=>if h:(ks=c.ks∧vs=c.vs)∧kT=c.kT∧gk=c.gk∧gv=c.gv then Joi h.1.1 h.1.2 l=c.l else False
  |_=>False
 |_=>False
@[irreducible] def wpFM (P:Program) (Γ:Gam) (ann:Nat→Option Ann) (annF:FuncId→Nat→Option Ann) (lib:FuncId→Option Func) (fn:Func) (c:J1g):Prop:=
 match fn.body with
 |some code=>wpG P Γ ann (ilS P Γ annF lib 5) code none (itS P Γ annF (ilS P Γ annF lib 5) lib) ⟨0,[],[]⟩ fun e s=>match e with
  | .exit _=>False
  |_=>(s.rs.all fun p=>p.2.soft)=true∧Kh7 P fn c s
 |none=>False
def Kkj (c:J1g) (_:Nat→Option Res) (n:Nat) (args:List SV):Option Out:=match args with
 |[]=>some ⟨[], .one (.sl n),[.mp c.kT c.gk c.gv c.ks c.vs c.l],[]⟩
 |_=>none
def J1g.con (c:J1g):Con:={args:=[],ress:=[],owns:=[],pre:=fun _=>[False],spec:=fun _=>(),prim:=some (Kkj c)}
end Go.Sx
namespace Go.Sx
open Go.RowKit
structure J1f where
 T:TypeId
 s:Sch
 pre:ByteArray→List Prop
 post:ByteArray→s.T
def Jyo (x:ByteArray):St:=⟨0,[(0, .one (.str x))],[]⟩
def Kh6 (P:Program) (fn:Func) (c:J1f) (x:ByteArray) (s:St):Prop:=
 match Uf P s fn.results.toList with
 | some [.v false [.ptr i 0], .v false [.int .i64 e]] => match look s.rs i with
  |some (.box T' cs)=>match dec (look s.rs) c.s cs with
   |some x'=>if Jyc (look s.rs) c.s cs=true∧Ya (J1 cs)=true then Kf [T'=c.T,e=0,x'=c.post x] else False
   |none=>False
  |_=>False
 |_=>False
@[irreducible] def wpFN (P:Program) (Γ:Gam) (ann:Nat→Option Ann) (annF:FuncId→Nat→Option Ann) (lib:FuncId→Option Func) (fn:Func) (c:J1f) (x:ByteArray):Prop:=
 match fn.body with
 |some code=>Jw8 (c.pre x)<|wpG P Γ ann (ilS P Γ annF lib 5) code none (itS P Γ annF (ilS P Γ annF lib 5) lib) (Jyo x) fun e s=>match e with
  | .exit _=>False
  |_=>(s.rs.all fun p=>p.2.soft)=true∧Kh6 P fn c x s
 |none=>False
def Kki (c:J1f) (_:Nat→Option Res) (n:Nat) (args:List SV):Option Out:=match args with
 |[.v false [.str x]]=>some ⟨c.pre x, .tup [(false,[.ptr n 0]),(false,[.int .i64 0])], .box c.T (Ka (enc c.s (c.post x)) (n+1)).1::(Ka (enc c.s (c.post x)) (n+1)).2.map Jgw,[]⟩
 |_=>none
def J1f.con (c:J1f):Con:={args:=[],ress:=[],owns:=[],pre:=fun _=>[False],spec:=fun _=>(),prim:=some (Kki c)}
end Go.Sx
namespace Go.Sx
open Go.RowKit
def frP (c:Con) (rs:Nat→Option Res) (n:Nat) (args:List SV):Option Out:=match Hh [] rs c.args args with
 |some x=>let r:=Jh (Jq c.ress (c.spec x)) c.owns n;some ⟨c.pre x,Xd r.1,r.2,[]⟩
 |none=>none
def Con.fresh (c:Con):Con:={args:=[],ress:=[],owns:=[],pre:=fun _=>[False],spec:=fun _=>(),prim:=some (frP c)}
section
variable {P:Program} {N B:Nat} {w0:K8} {al:Nat→Prop} {τ:Nat→Option SV} {σ:Nat→Option Res} {a:Act} {w:World} {ρ:Env} {M R:Nat→Prop} {n:Nat} {d:Option Tmp}
end
end Go.Sx
namespace Go.Sx
def Br (c:Bool) (p q:Prop):Prop:=(c=true→p)∧(c=false→q)
def Iw (x:Int):Prop:= -9223372036854775808≤x∧x≤9223372036854775807
def Bd (i n:Int):Prop:=0≤i∧i<n
def T2 (p r:Prop):Prop:=p∧p∧r
def Tw (p:Prop):Prop:=p∧p
def Sf {α:Sort _} (a:α) (r:Prop):Prop:=a=a∧r
def Si (a:Int) (r:Prop):Prop:=a=a∧r
def Ln {α:Type} (l:List α):Int:=(l.length:Int)
def Nc (n:Nat):Int:=(n:Int)
def Gt {α:Type} (l:List α) (i:Int) (d:α):α:=l.getD i.toNat d
def B0:ByteArray:=ByteArray.mk (Array.mk [])
def Lb (a b:ByteArray):Bool:=ByteArray.toList a==ByteArray.toList b
def E2 {α β:Type} (x:α×β):α×β:=(x.1,x.2)
abbrev Bt:=ByteArray
abbrev Ls:=List ByteArray
abbrev Li:=List Int
structure GW [Dr] (P:Program) where
 g:Gam
 ok:Ut P g
abbrev GW.add [Dr] {P:Program} (W:GW P) {f:FuncId} {c:Con} (h:Ok P f c):GW P:=⟨(f,c)::W.g, .cons h W.ok⟩
end Go.Sx
namespace Go.Sx
open Go.RowKit Go.ChangeShapes
def Wf:(s:Sch)→s.T→Prop
 | .int k,n=>(Lit.int k n).wf=true
 | .bool,_=>True
 | .str,b=>b.size≤maxLen
 | .flt _,_=>True
 | .fnc,_=>True
 | .prod a b,x=>Wf a x.1∧Wf b x.2
 | .list _ s,xs=>xs.length≤maxLen∧∀x∈xs,Wf s x
def Jf5 (P:Program) (fit:TypeId→Sch→Bool):List (Nat×TypeId)→Nat→Sch→Bool
 |[],_,_=>false
 |[p],off,s=>Nat.beq p.1 off&&fit p.2 s&&Nat.beq (P.cellsOf p.2) s.size
 |p::ps,off, .prod a b=>Nat.beq p.1 off&&fit p.2 a&&Nat.beq (P.cellsOf p.2) a.size&&Jf5 P fit ps (off+a.size) b
 |_,_,_=>false
def Jvf (P:Program):Nat→TypeId→Sch→Bool
 |0,_,_=>false
 |n+1,T,s=>match P.underlying T with
  |some .bool=>match s with| .bool=>true|_=>false
  |some (.int k)=>match s with| .int k'=>decide (k=k')|_=>false
  |some .string=>match s with| .str=>true|_=>false
  |some (.slice e)=>match s with| .list e' s'=>Nat.beq e e'&&Jvf P n e s'&&Nat.beq (P.cellsOf e) s'.size|_=>false
  |some (.struct fs)=>Nat.beq (P.cellsOf T) s.size&&Jf5 P (Jvf P n) (fs.toList.map fun f=>(f.offset,f.type)) 0 s
  |some (.array k e)=>Nat.beq (P.cellsOf T) s.size&&Jf5 P (Jvf P n) ((List.range k).map fun i=>(i*P.cellsOf e,e)) 0 s
  |_=>false
theorem Jvr {w:World} {b off:Nat} {u:Value} (h:w.cell? ⟨b,off,none⟩=some u):b<w.heap.size:=by
 unfold World.cell? at h
 split at h
 ·rename_i hb
  exact(Array.getElem?_eq_some_iff.1 hb).1
 ·cases h
theorem Sch.size_pos:∀s:Sch,0<s.size
 | .prod a b=>by have:=Sch.size_pos a;simp only[Sch.size];omega
 | .int _=>Nat.one_pos
 | .bool=>Nat.one_pos
 | .str=>Nat.one_pos
 | .flt _=>Nat.one_pos
 | .fnc=>Nat.one_pos
 | .list _ _=>Nat.one_pos
section
variable {H:Type} {enc:TypeId×Value→H} {P:Program} {w:World} {spare:Nat→Bool} {held:Bool}
theorem Ja7 {fit:TypeId→Sch→Bool} {fuel:Nat} (ih:∀(T:TypeId) (s:Sch) (cs:List Value) (x:DataW H×List MemPlace),fit T s=true→DataW.trod enc P w 0 spare held fuel T cs=some x→∃y:s.T,Rep (· <w.heap.size) w s y cs∧Wf s y):
  ∀(ps:List (Nat×TypeId)) (off:Nat) (s:Sch) (cs:List Value),Jf5 P fit ps off s=true→cs.length=off+s.size→(∀p∈ps,∃x,DataW.trod enc P w 0 spare held fuel p.2 ((cs.drop p.1).take (P.cellsOf p.2))=some x)→
   ∃y:s.T,Rep (· <w.heap.size) w s y (cs.drop off)∧Wf s y
 |[],_,_,_,h,_,_=>by simp[Jf5] at h
 |[p],off,s,cs,h,hl,ht=>by
  simp only[Jf5,Bool.and_eq_true,Nat.beq_eq] at h
  obtain⟨⟨h1,h2⟩,h3⟩:=h
  obtain⟨x,hx⟩:=ht p (by simp)
  rw[h1,h3,List.take_of_length_le (by rw[List.length_drop];omega)] at hx
  exact ih _ _ _ _ h2 hx
 | p :: q :: ps, off, s, cs, h, hl, ht => by
  cases s with
  |prod a b=>
   simp only[Jf5,Bool.and_eq_true,Nat.beq_eq] at h
   obtain⟨⟨⟨h1,h2⟩,h3⟩,h4⟩:=h
   obtain⟨x,hx⟩:=ht p (by simp)
   rw[h1,h3] at hx
   obtain⟨y1,r1,w1⟩:=ih _ _ _ _ h2 hx
   obtain⟨y2,r2,w2⟩:=Ja7 ih (q::ps) (off+a.size) b cs h4 (by rw[hl];simp only[Sch.size];omega) (fun p' hp'=>ht p' (by simp[hp']))
   refine⟨(y1,y2),⟨_,_, ?_,r1,r2⟩,w1,w2⟩
   rw[←List.drop_drop,List.take_append_drop]
  |_=>simp[Jf5] at h
theorem Joh {base:Nat} {a:Addr} {n:Nat} {cs:List Value} (h:w.cells? base a n=some cs):cs.length=n∧∀i,i<n→w.cell? (a.add i)=cs[i]? :=by
 unfold World.cells? at h
 split at h
 ·exact⟨by simpa using mapM_some_length h,fun i hi=>mapM_some_get h i i (by simp[hi])⟩
 ·cases h
theorem Jgm (a:Addr) (i j:Nat):(a.add i).add j=a.add (i+j):=by
 unfold Addr.add
 by_cases hi:i=0
 ·simp[hi]
 ·by_cases hj:j=0
  ·simp[hi,hj]
  ·have:¬i+j=0:=by omega
   simp[hi,hj,Nat.add_assoc]
theorem Jgb {e:TypeId} {s:Sch} {a:Addr} {f:List Value→Option (DataW H×List MemPlace)} (hs:P.cellsOf e=s.size)
  (ih:∀(cs:List Value) (x:DataW H×List MemPlace),f cs=some x→∃y:s.T,Rep (· <w.heap.size) w s y cs∧Wf s y):
  ∀(len i0:Nat),(∀i,i<len→∃x,(w.cells? 0 (a.add ((i0+i)*s.size)) s.size).bind f=some x)→
   ∃(ys:List s.T) (flat:List Value),Kz (Rep (· <w.heap.size) w s) ys flat∧ys.length=len∧(∀y∈ys,Wf s y)∧∀k u,flat[k]? =some u→w.cell? (a.add (i0*s.size+k))=some u
 |0,_,_=>⟨[],[],rfl,rfl,by simp,by simp⟩
 | len + 1, i0, h => by
  obtain⟨x,hx⟩:=h 0 (by omega)
  rw[Nat.add_zero] at hx
  obtain⟨cs,hc,hf⟩:=Option.bind_eq_some_iff.1 hx
  obtain⟨y,r1,w1⟩:=ih _ _ hf
  obtain⟨cl,cg⟩:=Joh hc
  obtain⟨ys,flat,r2,l2,w2,g2⟩:=Jgb hs ih len (i0+1) (fun i hi=>by
   have:=h (i+1) (by omega)
   rwa[show i0+(i+1)=i0+1+i by omega] at this)
  refine⟨y::ys,cs++flat,⟨cs,flat,rfl,r1,r2⟩,by simp[l2], ?_,fun k u hk=> ?_⟩
  ·intro z hz
   rcases List.mem_cons.1 hz with rfl|hz
   ·exact w1
   ·exact w2 z hz
  ·rcases Nat.lt_or_ge k cs.length with hlt|hge
   ·rw[List.getElem?_append_left hlt] at hk
    have:=cg k (by omega)
    rw[Jgm] at this
    rw[this,hk]
   ·rw[List.getElem?_append_right hge] at hk
    have:=g2 _ _ hk
    rw[cl] at this hge
    rwa[Nat.succ_mul,show i0*s.size+s.size+(k-s.size)=i0*s.size+k by omega] at this
theorem Ff:∀(n fuel:Nat) (T:TypeId) (s:Sch) (cs:List Value) (x:DataW H×List MemPlace),Jvf P n T s=true→DataW.trod enc P w 0 spare held fuel T cs=some x→∃y:s.T,Rep (· <w.heap.size) w s y cs∧Wf s y
 |0,_,_,_,_,_,h,_=>by simp[Jvf] at h
 | n + 1, fuel, T, s, cs, x, h, ht => by
  unfold Jvf at h
  split at h
  ·rename_i hu
   cases s<;>simp at h
   obtain⟨b,rfl,_⟩:=DataW.trod_bool hu ht
   exact⟨b,rfl,trivial⟩
  ·rename_i k hu
   cases s<;>simp at h
   subst h
   obtain⟨b,rfl,_,hw⟩:=DataW.trod_int hu ht
   exact⟨b,rfl,hw⟩
  ·rename_i hu
   cases s<;>simp at h
   obtain⟨b,rfl,_,hw⟩:=DataW.trod_string hu ht
   exact⟨b,rfl,hw⟩
  ·rename_i e hu
   cases s<;>simp at h
   rename_i e' s'
   obtain⟨⟨rfl,h2⟩,h3⟩:=h
   rcases DataW.trod_slice hu ht with⟨rfl,_⟩|⟨a,len,cap,elems,rest,m,rfl,rfl,_,_,hlc,hcm,hel,hg,_,_⟩
   ·exact⟨[],⟨_,[],rfl,rfl, .inl ⟨.inl rfl,rfl⟩⟩,by simp[Wf]⟩
   ·rw [h3] at hg
    obtain⟨ys,flat,r,l,wf,g⟩:=Jgb (w:=w) (a:=a) h3 (fun cs x hx=>Ff n m e s' cs x h2 hx) len 0 (fun i hi=>by
     rw[Nat.zero_add,hg i hi]
     exact⟨_,List.getElem?_eq_getElem (by omega)⟩)
    refine⟨ys,⟨_,flat,rfl,r, ?_⟩,⟨by omega,wf⟩⟩
    cases flat with
    | nil =>
     have h0:=Kz.length r
     have hp:=Sch.size_pos s'
     have:ys.length=0:=by
      rcases Nat.eq_zero_or_pos ys.length with h|h
      ·exact h
      ·have:=Nat.mul_pos h hp
       rw[←h0] at this
       simp at this
     refine .inl ⟨.inr ⟨a,cap, ?_⟩,this⟩
     rw[←l,this]
    | cons u fl =>
     obtain⟨b,off,spot⟩:=a
     have h0:=g 0 u rfl
     have hspot:spot=none:=by simpa[Addr.add] using World.cell?_spot h0
     subst hspot
     refine .inr ⟨b,off,cap,by rw[l],by omega,fun k u' hu'=> ?_,fun _=> ?_⟩
     ·have:=g k u' hu'
      rwa[Nat.zero_mul,Nat.zero_add,Go.WideShapes.add_plain] at this
     ·have h1:w.cell? ⟨b,off,none⟩=some u:=by simpa[Addr.add] using h0
      exact Jvr h1
  ·rename_i fs hu
   simp only[Bool.and_eq_true,Nat.beq_eq] at h
   obtain⟨xs,m,rfl,_,hl,hn,hg⟩:=DataW.trod_struct hu ht
   have:=Ja7 (fun T s cs x=>Ff n m T s cs x) _ 0 s cs h.2 (by omega) (fun p hp=>by
    obtain⟨f,hf,rfl⟩:=List.mem_map.1 hp
    obtain⟨i,hi⟩:=List.getElem?_of_mem hf
    have:=hg i f (by simpa using hi)
    rw[this]
    have hlt:i<xs.length:=by rw[hn];have:=(List.getElem?_eq_some_iff.1 hi).1;simpa using this
    exact⟨_,List.getElem?_eq_getElem hlt⟩)
   simpa using this
  ·rename_i k e hu
   simp only[Bool.and_eq_true,Nat.beq_eq] at h
   obtain⟨xs,m,rfl,_,hl,hn,hg⟩:=DataW.trod_array hu ht
   have:=Ja7 (fun T s cs x=>Ff n m T s cs x) _ 0 s cs h.2 (by omega) (fun p hp=>by
    obtain⟨i,hi,rfl⟩:=List.mem_map.1 hp
    have:=hg i (by simpa using hi)
    simp only at this⊢
    rw[this]
    have hlt:i<xs.length:=by rw[hn];simpa using hi
    exact⟨_,List.getElem?_eq_getElem hlt⟩)
   simpa using this
  ·cases h
end
def He (P:Program):List TypeId→List AK→Bool
 |[],[]=>true
 |t::ts, .val g s::ks=>Jvf P 20 t s&&(match Kc P t with|some g'=>g'==g|none=>false)&&He P ts ks
 |_,_=>false
def WfA:(ks:List AK)→ATup ks→Prop
 |[],_=>True
 | .val _ s::ks,x=>Wf s x.1∧WfA ks x.2
 |_::ks,x=>WfA ks x.2
theorem Jfn {P:Program} {w:World} {r:Reach} {base:Nat} {t:TypeId} {v:Value} {g:Bool} (h:Value.okWide P w r base t v) (hg:Kc P t=some g):v=valOf g v.cells.toList:=by
 unfold Kc at hg
 unfold Value.okWide at h
 split at hg
 ·rename_i fs hu
  cases hg
  rw[hu] at h
  obtain⟨cs,rfl,_⟩:=h
  rfl
 ·rename_i k e hu
  cases hg
  rw[hu] at h
  obtain⟨cs,rfl,_⟩:=h
  rfl
 ·rename_i d hn1 hn2 hu
  cases hg
  have hna:∀cs,v≠ .agg cs:=by
   rintro cs rfl
   split at h
   ·rename_i fs hu'
    exact hn1 fs (Option.some.inj (hu.symm.trans hu'))
   ·rename_i k e hu'
    exact hn2 k e (Option.some.inj (hu.symm.trans hu'))
   ·unfold Cell.okWide at h
    split at h<;>simp_all [Cell.ok]
  cases v<;>first|rfl|exact absurd rfl (hna _)
 ·cases hg
section
variable {H:Type} {enc:TypeId×Value→H} {P:Program} {w:World} {spare:Nat→Bool} {held:Bool} {r:Reach} {base:Nat}
theorem Yx:∀{ts:List TypeId} {vs:List Value} {ds:List (DataW H)} {ps:List MemPlace},DataW.TrodAll enc P w 0 spare held ts vs ds ps→ds.length=ts.length
 |[],_,_,_,h=>by obtain⟨_,rfl,_⟩:=trodAll_nil h;rfl
 |t::ts,_,_,_,h=>by
  obtain⟨v,vs',d,ds',p,q,rfl,rfl,rfl,hd,hr⟩:=trodAll_cons h
  simp[Yx hr]
theorem Jjz [Dr] {R:Nat→Prop}:∀{ts:List TypeId} {ks:List AK} {vs:List Value} {ds:List (DataW H)} {ps:List MemPlace},He P ts ks=true→DataW.TrodAll enc P w 0 spare held ts vs ds ps→
  (∀(j:Nat) t v,ts[j]? =some t→vs[j]? =some v→Value.okWide P w r base t v)→∃x:ATup ks,Vl P (· <w.heap.size) R w ks x vs∧WfA ks x
 |[],[],vs,ds,ps,_,h,_=>by
  obtain⟨rfl,_,_⟩:=trodAll_nil h
  exact⟨(),rfl,trivial⟩
 |[],_::_,_,_,_,hf,_,_=>by simp[He] at hf
 | t :: ts, k :: ks, vs, ds, ps, hf, h, hv => by
  obtain⟨v,vs',d,ds',p,q,rfl,rfl,rfl,hd,hr⟩:=trodAll_cons h
  cases k with
  | val g s =>
   simp only[He,Bool.and_eq_true] at hf
   obtain⟨⟨f1,f2⟩,f3⟩:=hf
   obtain⟨fuel,hd⟩:=hd
   obtain⟨y,r1,w1⟩:=Ff 20 fuel t s _ _ f1 hd
   obtain⟨x,a1,a2⟩:=Jjz (R:=R) f3 hr (fun j t' v' h1 h2=>hv (j+1) t' v' h1 h2)
   have hg:Kc P t=some g:=by
    split at f2
    ·rename_i g' e
     rw[e,eq_of_beq f2]
    ·cases f2
   exact⟨(y,x),⟨v,vs',rfl,⟨_,Jfn (hv 0 t v rfl rfl) hg,r1⟩,a1⟩,w1,a2⟩
  |_=>simp[He] at hf
 |_::_,[],_,_,_,hf,_,_=>by simp[He] at hf
theorem Hi [Dr] (hl:laidOutB P=true) {W W':World} (hb:Below W.heap.size W W') {sp:Nat→Bool}:∀{ts:List TypeId} {vs:List Value} {ds:List (DataW H)} {ps:List MemPlace},
  (ts.all fun t=>P.readableRec t&&decide (t<P.types.size))=true→DataW.TrodAll enc P W 0 (fun _=>true) true ts vs ds ps→(∀x∈ps,x.block<W.heap.size)→(∀x∈ps,sp x.block=true)→DataW.TrodAll enc P W' 0 sp true ts vs ds ps
 |[],vs,ds,ps,_,h,_,_=>by
  obtain⟨rfl,rfl,rfl⟩:=trodAll_nil h
  exact trodAll_mk0
 | t :: ts, vs, ds, ps, ht, h, hlt, hsp => by
  obtain⟨v,vs',d,ds',p,q,rfl,rfl,rfl,hd,hr⟩:=trodAll_cons h
  simp only[List.all_cons,Bool.and_eq_true,decide_eq_true_eq] at ht
  exact trodAll_cons_mk (WideElems.Trod_stays hl ht.1.1 ht.1.2 hd (fun x hx=>hb.kit.same (hlt x (by simp[hx]))) (fun x hx=>hsp x (by simp[hx])))
   (Hi hl hb ht.2 hr (fun x hx=>hlt x (by simp[hx])) fun x hx=>hsp x (by simp[hx]))
end
theorem Jeh [Dr] {W W':World} (hb:Below W.heap.size W W') (may:MemPlace→Prop):W.keptBut W' may:=by
 refine⟨hb.os,hb.output,fun i hi=> ?_⟩
 rw[hb.block i hi]
 cases h:W.heap[i]? with
 |none=>exact rfl
 |some o=>cases o<;>simp
theorem Jl2 [Dr] {P:Program} {w w':World} {name:String} {k:IntKind} {zs:List Int} (h:Lib.TabIs P w name k zs) (hb:Below w.heap.size w w'):Lib.TabIs P w' name k zs:=by
 unfold Lib.TabIs World.var? at*
 cases hg:P.globalNamed name with
 |none=>rw[hg] at h;cases h
 | some g =>
  rw[hg] at h
  simp only[Option.bind_some] at h⊢
  have hlt:g<w.heap.size:=by
   rcases Nat.lt_or_ge g w.heap.size with hlt|hge
   ·exact hlt
   ·rw[Array.getElem?_eq_none hge] at h
    cases h
  rw[hb.block g hlt]
  exact h
theorem Jni [Dr] {w w':World} (h:Kin w) (hb:Below w.heap.size w w'):Kin w':=by
 intro off s hs
 have h1:=h off s hs
 have hlt:Jw7<w.heap.size:=by
  rcases Nat.lt_or_ge Jw7 w.heap.size with hlt|hge
  ·exact hlt
  ·unfold World.cell? at h1
   rw[Array.getElem?_eq_none hge] at h1
   cases h1
 unfold World.cell? at h1⊢
 rw[hb.block Jw7 hlt]
 exact h1
theorem law_calls [Dr] {P:Program} {H:Type} {enc:TypeId×Value→H} {f:FuncId} {fn:Func} {s:ChangeSpec} {ks:List AK} {pre:ATup ks→List Prop} {tb:TypeId}
  (hok:Ok P f {args:=ks,ress:=[(false, .bool)],owns:=[],pre:=pre,spec:=fun _=>(true,())}) (hpre:∀x,WfA ks x→Kf (pre x))
  (hl:laidOutB P=true) (hfit:He P fn.params.toList ks=true) (hpt:(fn.params.toList.all fun t=>P.readableRec t&&decide (t<P.types.size))=true) (hrt:fn.resultTypes= #[tb]) (hub:P.underlying tb=some .bool)
  (hvars:s.vars=[]) (hs:∀ds:List (DataW H),ds.length=fn.params.toList.length→s.fn H ds={results:=[.lit (.bool true)],args:=ds})
  {W:World} {base:Nat} {args:Array Value} {ds gs:List (DataW H)} {before:List MemPlace} (htab:Tab P W)
  (hval:∀(j:Nat) t v,fn.params[j]? =some t→args[j]? =some v→Value.okWide P W .any base t v) (hW:DataW.Whole enc P fn.params.toList s.vars false W args.toList ds gs before):
  Calls P f args W fun e W'=>∃v,e= .returned v∧s.post enc P fn false true false false W args v W':=by
 have hW0:=hW
 have hlt:∀p∈before,p.block<W.heap.size:=fun p hp=>hW.lt p hp
 obtain⟨p,q,hA,hV,rfl,_,_⟩:=hW
 rw[hvars] at hV
 obtain⟨rfl,rfl⟩:=trodVars_none hV
 obtain⟨x,hx,hwf⟩:=Jjz (R:=fun _=>False) hfit hA (fun j t v h1 h2=>hval j t v (by simpa using h1) (by simpa using h2))
 have hg:Good P W:=fun w' hb=>⟨Jl2 htab.1 hb,Jni htab.2 hb⟩
 have hc:=hok.2.2.2 rfl x (· <W.heap.size) (fun _=>False) W args.toList (fun b hb=>hb.elim id False.elim) hg (hpre x hwf) hx
 rw[Array.toArray_toList] at hc
 refine hc.mono ?_
 rintro e W' ⟨M',vs,rfl,hb,_,_,hr⟩
 obtain⟨v,vs',rfl,⟨cs,rfl,hcs⟩,hr⟩:=hr
 have hr:vs'=[]:=hr
 have hcs:cs=[.bool true]:=hcs
 subst hr;subst hcs
 refine⟨_,rfl,ds,[],_,[],p,[],hW0, ?_, ?_, ?_,Jeh hb _,fun h=>by cases h⟩
 ·rw[List.append_nil,hs ds (Yx hA),hrt]
  exact trodAll_mk1 (shut_bool hub _)
 ·rw[List.append_nil,hs ds (Yx hA)]
  exact Hi hl hb hpt hA (fun x hx=>hlt x (by simp[hx])) (fun x hx=>decide_eq_true (hlt x (by simp[hx])))
 ·rw[List.append_nil,hs ds (Yx hA),hvars]
  exact rfl
end Go.Sx
namespace Go.Sx
open Go.RowKit Go.Proofs
section
variable {α:Type} {enc:α→List Value} {k:Nat}
theorem Jjc (hk:∀x,(enc x).length=k) (d:α):∀(xs:List α) (j:Nat),j<xs.length*k→(xs.flatMap enc)[j]? =(enc (xs.getD (j/k) d))[j %k]?
 |[],j,h=>by simp at h
 | x :: xs, j, h => by
  rw[List.flatMap_cons]
  by_cases hj:j<k
  ·rw[List.getElem?_append_left (by rw[hk];exact hj),Nat.div_eq_of_lt hj,Nat.mod_eq_of_lt hj];rfl
  ·have h0:0<k:=by
    rcases Nat.eq_zero_or_pos k with e|e
    ·rw[e,Nat.mul_zero] at h;omega
    ·exact e
   have h':j-k<xs.length*k:=by
    rw[List.length_cons,Nat.succ_mul] at h;omega
   rw[List.getElem?_append_right (by rw[hk];omega),hk,Jjc hk d xs (j-k) h',Nat.div_eq_sub_div h0 (by omega:k≤j),Nat.mod_eq_sub_mod (by omega:j≥k),List.getD_cons_succ]
theorem Hd (hk:∀x,(enc x).length=k):∀xs:List α,(xs.flatMap enc).length=xs.length*k
 |[]=>by simp
 |x::xs=>by rw[List.flatMap_cons,List.length_append,hk,Hd hk xs,List.length_cons,Nat.succ_mul,Nat.add_comm]
theorem Jcn [Inhabited α] (hk:∀x,(enc x).length=k) (d:Array α):(Sort.flatK enc k d).toList=d.toList.flatMap enc:=by
 apply List.ext_getElem?
 intro j
 by_cases hj:j<d.size*k
 ·rw[Jjc hk default d.toList j (by simpa using hj)]
  have h0:0<k:=by
   rcases Nat.eq_zero_or_pos k with e|e
   ·rw[e,Nat.mul_zero] at hj;omega
   ·exact e
  have h1:(Sort.flatK enc k d)[j]! =(enc d[j/k]!)[j %k]! :=Sort.get_flatK _ _ _ _ hj
  have hs:j<(Sort.flatK enc k d).size:=by simpa using hj
  rw[Array.getElem?_toList,Array.getElem?_eq_getElem hs]
  rw[getElem!_pos (Sort.flatK enc k d) j hs] at h1
  rw[h1]
  have e:d[j/k]! =d.toList.getD (j/k) default:=by
   have:j/k<d.size:=Nat.div_lt_of_lt_mul (by rw[Nat.mul_comm];exact hj)
   rw[getElem!_pos d (j/k) this,List.getD_eq_getElem?_getD,Array.getElem?_toList,Array.getElem?_eq_getElem this]
   rfl
  rw[e]
  have h2:j %k<(enc (d.toList.getD (j/k) default)).length:=by rw[hk];exact Nat.mod_lt _ h0
  rw[getElem!_pos (enc (d.toList.getD (j/k) default)) (j %k) h2,List.getElem?_eq_getElem h2]
 ·rw[List.getElem?_eq_none (by simp;omega),List.getElem?_eq_none (by rw[Hd hk];simp;omega)]
end
theorem Jjd {s:Sch} {enc:s.T→List Value} (hrep:∀(M:Nat→Prop) (w:World) (x:s.T) (cs:List Value),Rep M w s x cs↔cs=enc x) {M:Nat→Prop} {w:World}:∀{xs:List s.T} {flat:List Value},Kz (Rep M w s) xs flat→flat=xs.flatMap enc
 |[],_,h=>h
 |x::xs,flat,⟨c1,c2,e,h1,h2⟩=>by
  rw[e,(hrep M w x c1).1 h1,Jjd hrep h2];rfl
theorem Jji {s:Sch} {enc:s.T→List Value} (hrep:∀(M:Nat→Prop) (w:World) (x:s.T) (cs:List Value),Rep M w s x cs↔cs=enc x) {M:Nat→Prop} {w:World}:∀{xs:List s.T},Kz (Rep M w s) xs (xs.flatMap enc)
 |[]=>rfl
 |x::xs=>⟨enc x,xs.flatMap enc,rfl,(hrep M w x _).2 rfl,Jji hrep⟩
theorem Good.on [Dr] {P:Program} {w:World} (h:Good P w): @Good .on P w:=fun w' hb=>⟨(h w' hb.any).1,(h w' hb.any).2⟩
theorem Jqd [Dr] {P:Program} {fid gid:FuncId} {T:TypeId} {s:Sch} [Inhabited s.T] {k:Nat} (enc:s.T→List Value) (hk:∀x,(enc x).length=k) (hks:s.size=k)
  (hrep:∀(M:Nat→Prop) (w:World) (x:s.T) (cs:List Value),Rep M w s x cs↔cs=enc x) (cf:s.T→s.T→Int) (pre:List s.T→Prop) (f:List s.T→List s.T)
  (hcall:∀(g cap:Nat) (d:Array s.T) (w:World),Sort.HoldsK enc k w g 0 d→g<w.heap.size→d.size<4611686018427387904→CmpLays P gid #[] enc k cf g 0 d.size w→
   Calls P fid #[.slice (some ⟨g,0,none⟩) d.size cap, .func (.func gid) #[] #[]] w fun e w'=>e= .returned (.tuple #[])∧∃d' n os,Sort.PermIn 0 d.size d d'∧Sort.SortedIn (ltOf cf) 0 d.size d'∧w'=sortWorldK enc k w g 0 n d' os)
  (hnone:∀w,Calls P fid #[.slice none 0 0, .func (.func gid) #[] #[]] w fun e w'=>e= .returned (.tuple #[])∧w'=w)
  (hcmp:∀(w:World) (x y:s.T),Good P w→Calls P gid #[.agg (enc x).toArray, .agg (enc y).toArray] w fun e w'=>e= .returned (.int .i64 (cf x y))∧RowKit.Below w.heap.size w w'∧w.drawn≤w'.drawn)
  (huniq:∀xs ys,pre xs→ys.Perm xs→(ys.Pairwise fun a b=>ltOf cf b a=false)→ys=f xs) (hlen:∀xs,pre xs→xs.length≤1000000):
  Jpc P fid {T:=T,s:=s,g:=gid,pre:=pre,f:=f}:=by
 intro w B v xs flat hB hg hrp how hpre
 subst hks
 have hflat:=Jjd hrep hrp
 have hlen:=hlen xs hpre
 rcases how.2 with⟨rfl,h0⟩|⟨g,cap,cur,rfl,hbg,hgh,hnc,hcm,hcs,htake⟩
 ·have h0:xs.length=0:=h0
  have:xs=[]:=List.eq_nil_of_length_eq_zero h0
  subst this
  have e0:[]=f []:=huniq [] [] hpre (List.Perm.refl _) .nil
  refine(hnone w).mono ?_
  rintro e w' ⟨rfl,rfl⟩
  refine⟨rfl,f [],rfl,by show(f []).length=0;rw[←e0];rfl,flat, ?_,how,World.grownBy.refl _ _,Nat.le_refl _⟩
  show Kz _ (f []) flat
  rw[←e0];exact hrp
 ·have hlt:=(Array.getElem?_eq_some_iff.1 hgh).1
  have hH:Sort.HoldsK enc s.size w g 0 xs.toArray:=by
   intro j hj
   have hj':j<xs.length*s.size:=by simpa using hj
   have h1:=how.cellAt j hj'
   have h2:=how.frozenAt j
   rw[Nat.zero_add]
   refine⟨?_,h2⟩
   rw[h1,hflat,←Jcn hk xs.toArray,Array.getElem?_toList,Array.getElem?_eq_getElem hj,getElem!_pos (Sort.flatK enc s.size xs.toArray) j hj]
   rfl
  have hbw:∀n d' os,Below B w (sortWorldK enc s.size w g 0 n d' os):=fun n d' os=>by
   refine⟨rfl,rfl,rfl, ?_,fun q hq=> ?_, ?_⟩
   ·show w.heap.size≤((w.heap.modify g _)++os).size
    simp
   ·show((w.heap.modify g _)++os)[q]? =_
    have:g≠q:=by omega
    rw[Array.getElem?_append_left (by simp;omega),Array.getElem?_modify,if_neg this]
   ·intro _
    show w.drawn≤w.drawn+n
    omega
  have hcl:CmpLays P gid #[] enc s.size cf g 0 xs.toArray.size w:=by
   intro m os dk hs x y
   have hG:Good P (sortWorldK enc s.size w g 0 m dk os):=fun w2 h2=>hg w2 ((hbw m dk os).trans (h2.mono (Nat.le_trans hB (hbw m dk os).size)))
   refine(hcmp _ x y hG).mono ?_
   rintro e w' ⟨he,hb,hdr⟩
   obtain⟨q,os',e'⟩:=Below.grew hb hdr
   exact⟨he,q,os',e'⟩
  have hc:=hcall g cap xs.toArray w hH hlt (by simp;omega) hcl
  simp only[List.size_toArray] at hc
  refine hc.mono ?_
  rintro e w' ⟨rfl,d',n,os,hp,hs,rfl⟩
  obtain⟨hsz,_,hperm⟩:=hp
  have hsz:d'.size=xs.length:=by simpa using hsz
  have hperm':d'.toList.Perm xs:=by
   have e1:(d'.extract 0 xs.length).toList=d'.toList:=by rw[←hsz];simp
   have e2:(xs.toArray.extract 0 xs.length).toList=xs:=by simp
   rw[e1,e2] at hperm
   exact hperm
  have hsorted:d'.toList.Pairwise fun a b=>ltOf cf b a=false:=by
   rw[List.pairwise_iff_getElem]
   intro i j hi hj hij
   have hi':i<d'.size:=by simpa using hi
   have hj':j<d'.size:=by simpa using hj
   have h1:=hs i j (Nat.zero_le _) hij (by omega)
   rw[getElem!_pos d' i hi',getElem!_pos d' j hj'] at h1
   have e1:d'.toList[i]=d'[i]:=by simp
   have e2:d'.toList[j]=d'[j]:=by simp
   rw[e1,e2];exact h1
  have hd:d'.toList=f xs:=huniq xs d'.toList hpre hperm' hsorted
  have hl0:(f xs).length=xs.length:=by rw[←hd];exact hperm'.length_eq
  have hK:(Sort.flatK enc s.size d').size=xs.length*s.size:=by simp[hsz]
  have hheap:(sortWorldK enc s.size w g 0 n d' os).heap[g]? =some (.cells (Sort.putCells id 0 (Sort.flatK enc s.size d') cur) T (0,0)):=by
   show((w.heap.modify g (Sort.onCells (Sort.putCells id 0 (Sort.flatK enc s.size d'))))++os)[g]? =_
   rw[Array.getElem?_append_left (by simpa using hlt),Array.getElem?_modify,if_pos rfl,hgh]
   rfl
  have hmul:xs.length*s.size≤cur.size:=by rw[hcs];exact Nat.mul_le_mul_right _ hnc
  have htk:(Sort.putCells id 0 (Sort.flatK enc s.size d') cur).toList.take (xs.length*s.size)=(f xs).flatMap enc:=by
   rw[←hd,←Jcn hk]
   apply List.ext_getElem?
   intro j
   rw[List.getElem?_take]
   split
   ·rename_i hj
    have hjc:j<cur.size:=by omega
    rw[Array.getElem?_toList,Array.getElem?_toList]
    simp only[Sort.putCells,Array.getElem?_mapIdx,Array.getElem?_eq_getElem hjc,Option.map_some,Nat.zero_le,true_and,Nat.zero_add,Nat.sub_zero]
    rw[if_pos (by omega),Array.getElem?_eq_getElem (by omega),getElem!_pos (Sort.flatK enc s.size d') j (by omega)]
    rfl
   ·rename_i hj
    rw[List.getElem?_eq_none (by simp[hsz];omega)]
  refine⟨rfl,f xs,rfl,hl0,_,Jji hrep,⟨?_, .inr ⟨g,cap,_,rfl,hbg,hheap,hnc,hcm,by simp[Sort.putCells,hcs],htk⟩⟩,⟨rfl,rfl,rfl,(hbw n d' os).size,fun q hq hne=> ?_⟩,by show w.drawn≤w.drawn+n;omega⟩
  ·rw[Hd hk];show(f xs).length*_=_;rw[hl0]
  ·have hkg:q≠g:=by rintro rfl;exact hne rfl
   show((w.heap.modify g _)++os)[q]? =_
   rw[Array.getElem?_append_left (by simpa using hq),Array.getElem?_modify,if_neg (Ne.symm hkg)]
end Go.Sx
namespace Go.Sx
open Go.Proofs
def Ju7 (x:Int):List Int→List Int
 |[]=>[x]
 |y::r=>if x≤y then x::y::r else y::Ju7 x r
def Jb2:List Int→List Int
 |[]=>[]
 |x::r=>Ju7 x (Jb2 r)
theorem Jas (x:Int):∀l,(Ju7 x l).Perm (x::l)
 |[]=> .refl _
 |y::r=>by
  simp only[Ju7]
  split
  ·exact .refl _
  ·exact((Jas x r).cons y).trans (.swap x y r)
theorem Xg:∀l,(Jb2 l).Perm l
 |[]=> .refl _
 |x::r=>(Jas x (Jb2 r)).trans ((Xg r).cons x)
theorem Jar {x:Int}:∀{l:List Int},l.Pairwise (· ≤ ·)→(Ju7 x l).Pairwise (· ≤ ·)
 |[],_=>by simp[Ju7]
 | y :: r, h => by
  replace h:=List.pairwise_cons.1 h
  simp only[Ju7]
  split
  ·rename_i hb
   refine List.pairwise_cons.2 ⟨fun z hz=> ?_,List.pairwise_cons.2 h⟩
   rcases List.mem_cons.1 hz with rfl|hz
   ·exact hb
   ·exact Int.le_trans hb (h.1 z hz)
  ·rename_i hb
   refine List.pairwise_cons.2 ⟨fun z hz=> ?_,Jar h.2⟩
   rcases List.mem_cons.1 ((Jas x r).mem_iff.1 hz) with rfl|hz
   ·omega
   ·exact h.1 z hz
theorem Fy:∀l,(Jb2 l).Pairwise (· ≤ ·)
 |[]=> .nil
 |_::r=>Jar (Fy r)
theorem Zf:∀{l l':List Int},l.Perm l'→l.Pairwise (· ≤ ·)→l'.Pairwise (· ≤ ·)→l=l'
 |[],l',h,_,_=>by simpa using h
 |x::r,[],h,_,_=>by simp at h
 | x :: r, y :: r', h, h1, h2 => by
  by_cases e:x=y
  ·subst e
   rw[Zf h.cons_inv (List.pairwise_cons.1 h1).2 (List.pairwise_cons.1 h2).2]
  ·have m1:x∈r':=by
    have:=h.mem_iff.1 (show x∈x::r by simp)
    rcases List.mem_cons.1 this with q|q
    ·exact absurd q e
    ·exact q
   have m2:y∈r:=by
    have:=h.mem_iff.2 (show y∈y::r' by simp)
    rcases List.mem_cons.1 this with q|q
    ·exact absurd q.symm e
    ·exact q
   have l1:=(List.pairwise_cons.1 h1).1 y m2
   have l2:=(List.pairwise_cons.1 h2).1 x m1
   omega
theorem Jkr (l:List Int):(l.mergeSort fun x y=>decide (x≤y))=Jb2 l:=by
 refine Zf ((List.mergeSort_perm l _).trans (Xg l).symm) ?_ (Fy l)
 have:=List.pairwise_mergeSort (le:=fun x y:Int=>decide (x≤y)) (fun a b c h1 h2=>by simp at*;omega) (fun a b=>by simp;omega) l
 exact this.imp fun h=>of_decide_eq_true h
def Juj (T:TypeId) (rs:Nat→Option Res) (_:Nat) (args:List SV):Option Out:=match args with
 |[.v false [.sl i]]=>match rs i with
  |some (.own T' s xs)=>if h:s= .int .i64∧T'=T then some ⟨[0<xs.length,xs.length≤1000000], .tup [],[],[(i,some (.own T (.int .i64) (Jb2 (Y9 h.1 xs))))]⟩ else none
  |_=>none
 |_=>none
theorem Kfn {M:Nat→Prop} {w:World}:∀{xs:List Int} {flat:List Value},Kz (Rep M w (.int .i64)) xs flat→flat=xs.map (Value.int .i64)
 |[],_,h=>h
 |x::xs,flat,⟨c1,c2,e,h1,h2⟩=>by
  have h1:c1=[.int .i64 x]:=h1
  rw[e,h1,Kfn h2];rfl
theorem Jx8 {M:Nat→Prop} {w:World}:∀{xs:List Int},Kz (Rep M w (.int .i64)) xs (xs.map (Value.int .i64))
 |[]=>rfl
 |x::xs=>⟨[.int .i64 x],xs.map (Value.int .i64),rfl,rfl,Jx8⟩
theorem Jg9 [Dr] {P:Program} {f:FuncId} {T:TypeId}
  (hcall:∀(g cap:Nat) (zs:List Int) (w:World),Sort.Holds (Value.int .i64) w g 0 zs.toArray→g<w.heap.size→zs.length<4611686018427387904→
   Calls P f #[.slice (some ⟨g,0,none⟩) zs.length cap] w fun e w'=>e= .returned (.tuple #[])∧∃n os,w'=Sort.grow (Sort.putRow (Value.int .i64) (Sort.ahead w n) g 0 (zs.mergeSort fun x y=>decide (x≤y)).toArray) os):
  Jpe P f (Juj T):=by
 intro N B w0 al τ σ a w ρ M R n d rs args out C hd hrs hop hpre hfresh
 unfold Juj at hop
 split at hop
 case h_2=>cases hop
 rename_i i
 split at hop
 case h_2=>cases hop
 rename_i T' s xs hr
 split at hop
 case isFalse=>cases hop
 rename_i h
 obtain⟨e1,e2⟩:=h
 subst e1;subst e2
 cases hop
 obtain⟨p0,p1⟩:=hpre
 have p0:0<xs.length:=p0
 have p1:xs.length≤1000000:=p1
 have hri:=hrs i _ hr
 obtain⟨flat,f1,f2,f3⟩:=C.res i _ hri
 have hflat:=Kfn f1
 have f2':=f2
 rcases f2.2 with⟨_,h0⟩|⟨g,cap,cur,hv,hbg,hgh,hnc,hcm,hcs,htake⟩
 ·have:xs.length=0:=h0
  omega
 have hlt:=(Array.getElem?_eq_some_iff.1 hgh).1
 have hH:Sort.Holds (Value.int .i64) w g 0 xs.toArray:=by
  intro j hj
  have hj':j<xs.length:=by simpa using hj
  have h1:=(hv▸f2').cellAt j (by show j<xs.length*1;omega)
  have h2:=(hv▸f2').frozenAt j
  rw[Nat.zero_add]
  refine⟨?_,h2⟩
  rw[h1,hflat,List.getElem?_map,List.getElem?_eq_getElem hj',getElem!_pos xs.toArray j hj]
  rfl
 have hc:=hcall g cap xs w hH hlt (by omega)
 have hargs:(([SV.v false [.sl i]]:List SV).map (SV.den ρ)).toArray= #[.slice (some ⟨g,0,none⟩) xs.length cap]:=by
  show #[ρ i]=_
  rw[hv]
 refine⟨_,by rw[hargs];exact hc,fun e w' hp=> ?_⟩
 obtain⟨rfl,nn,os,rfl⟩:=hp
 rw[Jkr]
 have hl0:(Jb2 xs).length=xs.length:=(Xg xs).length_eq
 have hheap:(Sort.grow (Sort.putRow (Value.int .i64) (Sort.ahead w nn) g 0 (Jb2 xs).toArray) os).heap[g]? =some (.cells (Sort.putCells (Value.int .i64) 0 (Jb2 xs).toArray cur) T' (0,0)):=by
  show((w.heap.modify g (Sort.onCells (Sort.putCells (Value.int .i64) 0 (Jb2 xs).toArray)))++os)[g]? =_
  rw[Array.getElem?_append_left (by simpa using hlt),Array.getElem?_modify,if_pos rfl,hgh]
  rfl
 have hcs':cur.size=cap*1:=hcs
 have hnc':xs.length≤cap:=hnc
 have htk:(Sort.putCells (Value.int .i64) 0 (Jb2 xs).toArray cur).toList.take (xs.length*1)=(Jb2 xs).map (Value.int .i64):=by
  apply List.ext_getElem?
  intro j
  rw[List.getElem?_take,Nat.mul_one]
  split
  ·rename_i hj
   have hjc:j<cur.size:=by omega
   have hjs:j<(Jb2 xs).length:=by omega
   rw[Array.getElem?_toList]
   simp only[Sort.putCells,Array.getElem?_mapIdx,Array.getElem?_eq_getElem hjc,Option.map_some,Nat.zero_le,true_and,Nat.zero_add,Nat.sub_zero,List.size_toArray,List.getElem?_map]
   rw[if_pos (by omega),List.getElem?_eq_getElem hjs,getElem!_pos (Jb2 xs).toArray j (by simpa using hjs)]
   rfl
  ·rename_i hj
   rw[List.getElem?_eq_none (by simp;omega)]
 have hown:(Sort.grow (Sort.putRow (Value.int .i64) (Sort.ahead w nn) g 0 (Jb2 xs).toArray) os).ownsRow B T' 1 (ρ i) xs.length ((Jb2 xs).map (Value.int .i64)):=by
  refine⟨by simp[hl0], .inr ⟨g,cap,_,hv,hbg,hheap,hnc,hcm,by simp[Sort.putCells,hcs'],htk⟩⟩
 refine⟨.tuple #[],ρ,M,rfl,F0 (z:={T:=T',s:= .int .i64,g:=0,pre:=fun _=>True,f:=Jb2}) C hd hri rfl f2 f3 hl0 (Jx8 (xs:=Jb2 xs)) hown ?_ (by show w.drawn≤w.drawn+nn;omega)⟩
 have hob:(ρ i).ownBlock=some g:=by rw[hv];rfl
 rw[hob]
 refine⟨rfl,rfl,rfl, ?_,fun q hq hne=> ?_⟩
 ·show w.heap.size≤((w.heap.modify g _)++os).size
  simp
 ·have hkg:q≠g:=by rintro rfl;exact hne rfl
  show((w.heap.modify g _)++os)[q]? =_
  rw[Array.getElem?_append_left (by simpa using hq),Array.getElem?_modify,if_neg (Ne.symm hkg)]
end Go.Sx

/- A symbolic executor over the model and its soundness: part of the proof. -/
import Derived.Test.YtdpcaknnhcnkpaaGreatSxB
import Derived.OpenShut
import Derived.Carry
import Derived.Handed
import Derived.ProofKit
import Derived.LaidMore
set_option linter.unusedSimpArgs false
set_option linter.unusedVariables false
namespace Go.Sx
open Go.RowKit
section
variable {P:Program} {Γ:Gam} {ann:Nat→Option Ann} {il:IL} {N B:Nat} {R:Nat→Prop}
theorem Jvp [Dr] {w0:U7}:Jxv P N B w0 R Jtz:=fun _ _ _ _ h=>h.elim
theorem Jsl [Dr] {w0:U7} {rd:Option Nat} {yk:Option YK} {it:IT} {id:Nat} {c:Code} (ih:∀{ann:Nat→Option Ann} {st:St} {k:Ex→St→Prop} {Q:Exit→Act→World→Prop},wpG P Γ ann il c yk it st k→
  (∀e st' a w,k e st'→U3 P N B w0 R st' a w→Q e.toExit a w)→∀a w,U3 P N B w0 R st a w→c.wpIn (FR rd) 0 P Q a w)
  {st:St} {k:Ex→St→Prop} {Q:Exit→Act→World→Prop} (h:wpG P Γ ann il (.block id (.loop c)) yk it st k)
  (hK:∀e st' a w,k e st'→U3 P N B w0 R st' a w→Q e.toExit a w) (a:Act) (w:World) (hs:U3 P N B w0 R st a w):(Code.block id (.loop c)).wpIn (FR rd) 0 P Q a w:=by
 simp only[wpG] at h
 split at h
 ·rename_i A hA
  split at h
  ·rename_i n hn
   refine wpIn_block (wpIn_loop (fun a w=>∃m st',Jdp (fun m st k=>wpG P Γ (Jqx ann m) il c yk it st k) id k m st'∧U3 P N B w0 R st' a w) (fun a w=>leastMu fun m=>∃st',Jdp (fun m st k=>wpG P Γ (Jqx ann m) il c yk it st k) id k m st'∧U3 P N B w0 R st' a w) ⟨n+1,st,h,hs⟩ fun a w hI=> ?_)
   obtain⟨st1,i1,i2⟩:=Xy (p:=fun m=>∃st',Jdp (fun m st k=>wpG P Γ (Jqx ann m) il c yk it st k) id k m st'∧U3 P N B w0 R st' a w) hI
   cases hm:leastMu (fun m=>∃st',Jdp (fun m st k=>wpG P Γ (Jqx ann m) il c yk it st k) id k m st'∧U3 P N B w0 R st' a w) with
   |zero=>rw[hm] at i1;exact i1.elim
   | succ m =>
    rw[hm] at i1
    refine ih i1 (fun e st' a' w' he hs'=> ?_) a w i2
    have hcatch:∀e,Ex.catch id k e st'→Exit.inBlock id Q e.toExit a' w':=by
     intro e he
     cases e with
     |normal=>exact hK .normal st' a' w' he hs'
     |exit i=>
      simp only[Ex.catch] at he
      simp only[Ex.toExit,Exit.inBlock]
      split at he
      ·rename_i e;rw[if_pos e];exact hK .normal st' a' w' he hs'
      ·rename_i e;rw[if_neg e];exact hK (.exit i) st' a' w' he hs'
     |ret=>exact hK .ret st' a' w' he hs'
    cases e with
    |normal=>exact⟨⟨m,st',he,hs'⟩,Nat.lt_succ_of_le (Xx ⟨st',he,hs'⟩)⟩
    |exit i=>exact hcatch (.exit i) he
    |ret=>exact hcatch .ret he
  split at h
  ·obtain⟨x0,h1,h2,h3⟩:=h
   refine wpIn_block (wpIn_loop (fun a w=>∃x,A.inv x∧U3 P N B w0 R (A.σ x) a w) (fun a w=>leastMu fun n=>∃x,A.inv x∧U3 P N B w0 R (A.σ x) a w∧A.mu x=n) ⟨x0,h2,Uz h1 (Vn hs)⟩ fun a w hI=> ?_)
   obtain⟨x,i1,i2,i3⟩:=Xy (p:=fun n=>∃x,A.inv x∧U3 P N B w0 R (A.σ x) a w∧A.mu x=n) (by obtain⟨x,i1,i2⟩:=hI;exact⟨_,x,i1,i2,rfl⟩)
   refine ih (h3 x i1) (fun e st' a' w' he hs'=> ?_) a w i2
   have hcatch:∀e,Ex.catch id k e st'→Exit.inBlock id Q e.toExit a' w':=by
    intro e he
    cases e with
    |normal=>exact hK .normal st' a' w' he hs'
    |exit i=>
     simp only[Ex.catch] at he
     simp only[Ex.toExit,Exit.inBlock]
     split at he
     ·rename_i e;rw[if_pos e];exact hK .normal st' a' w' he hs'
     ·rename_i e;rw[if_neg e];exact hK (.exit i) st' a' w' he hs'
    |ret=>exact hK .ret st' a' w' he hs'
   cases e with
   |normal=>
    obtain⟨y,j1,j2,j3⟩:=he
    refine⟨⟨y,j2,Uz j1 (Vn hs')⟩, ?_⟩
    exact Nat.lt_of_le_of_lt (Xx ⟨y,j2,Uz j1 (Vn hs'),rfl⟩) (by rw[←i3];exact j3)
   |exit i=>exact hcatch (.exit i) he
   |ret=>exact hcatch .ret he
  ·rename_i r hr
   obtain⟨x0,h1,h2,h3⟩:=h
   refine wpIn_block (wpIn_loop (fun a w=>∃x,(A.inv x∧r x0 x)∧U3 P N B w0 R (A.σ x) a w) (fun a w=>leastMu fun n=>∃x,(A.inv x∧r x0 x)∧U3 P N B w0 R (A.σ x) a w∧A.mu x=n) ⟨x0,h2,Uz h1 (Vn hs)⟩ fun a w hI=> ?_)
   obtain⟨x,i1,i2,i3⟩:=Xy (p:=fun n=>∃x,(A.inv x∧r x0 x)∧U3 P N B w0 R (A.σ x) a w∧A.mu x=n) (by obtain⟨x,i1,i2⟩:=hI;exact⟨_,x,i1,i2,rfl⟩)
   refine ih (h3 x i1) (fun e st' a' w' he hs'=> ?_) a w i2
   have hcatch:∀e,Ex.catch id k e st'→Exit.inBlock id Q e.toExit a' w':=by
    intro e he
    cases e with
    |normal=>exact hK .normal st' a' w' he hs'
    |exit i=>
     simp only[Ex.catch] at he
     simp only[Ex.toExit,Exit.inBlock]
     split at he
     ·rename_i e;rw[if_pos e];exact hK .normal st' a' w' he hs'
     ·rename_i e;rw[if_neg e];exact hK (.exit i) st' a' w' he hs'
    |ret=>exact hK .ret st' a' w' he hs'
   cases e with
   |normal=>
    obtain⟨y,j1,j2,j3⟩:=he
    refine⟨⟨y,j2,Uz j1 (Vn hs')⟩, ?_⟩
    exact Nat.lt_of_le_of_lt (Xx ⟨y,j2,Uz j1 (Vn hs'),rfl⟩) (by rw[←i3];exact j3)
   |exit i=>exact hcatch (.exit i) he
   |ret=>exact hcatch .ret he
 ·exact h.elim
theorem Jma {α:Type} {l:List (Nat×α)} {t:Nat} {v:α} (h:look l t=some v):look ((t,v)::l)=look l:=by
 funext t'
 by_cases e:t'=t
 ·subst e;rw[h];simp[look]
 ·simp[look,Ne.symm e]
theorem Jeh [Dr] {st:St} {a:Act} {w:World} {w0:U7} {t:Nat} {b:Bool} (hs:U3 P N B w0 R st a w) (h:look st.sl t=some (.v false [.bool b])):U3 P N B w0 R (Jsp st t b) a w:=by
 unfold U3 Jsp at*
 dsimp only at*
 rw[Jma h]
 exact hs
theorem Vg [Dr] (hm:P.follows .mixedOrders=true) (hΓ:Vb P Γ) (hil:Jxy P il):∀(c:Code) {ann:Nat→Option Ann} {yk:Option YK} {it:IT} {w0:U7} {rd:Option Nat} {st:St} {k:Ex→St→Prop} {Q:Exit→Act→World→Prop},U9 N c=true→
  ((yk=none→rd=none)∧∀y,yk=some y→(rd=none∨y=Jtz)∧Jxv P N B w0 R y)→(it=Jx6∨(rd=none∧w0.marks=true∧J7b P it))→wpG P Γ ann il c yk it st k→
  (∀e st' a w,k e st'→U3 P N B w0 R st' a w→Q e.toExit a w)→∀a w,U3 P N B w0 R st a w→c.wpIn (FR rd) 0 P Q a w
 | .skip,ann,yk,it,w0,rd,st,k,Q,_,hy,hi,h,hK,a,w,hs=>wpIn_skip (hK .normal st a w h hs)
 | .region id ops dr, ann, yk, it, w0, rd, st, k, Q, hd, hy, hi, h, hK, a, w, hs => by
  have hN:∀o∈ops.toList,∀t,o.dst=some t→t<N:=fun o ho t ht=>by
   have:=List.all_eq_true.1 hd o ho
   rw[ht] at this
   simpa[Nat.blt_eq] using this
  simp only[wpG] at h
  split at h
  ·rename_i t ht
   exact Joj ht hN h (fun st' a' w' h' hs'=>hK .normal st' a' w' h' hs') id a w hs
  split at h
  ·rename_i t ht
   exact Jsg ht hN h (fun st' a' w' h' hs'=>hK .normal st' a' w' h' hs') id a w hs
  split at h
  ·rename_i ps st' hr
   rw[Lg] at h
   exact Jn5 hm hΓ hr h.1 hs hN rfl (fun a' w' hs'=>hK .normal st' a' w' h.2 hs') id
  ·split at h
   ·refine wpIn_region ?_
    rw[List.range_eq_range',show ops.size=ops.toList.length by simp]
    cases yk with
    |none=>exact Jet hΓ Jvp @hil (.inr rfl) rfl hN (fun st' a w h hs=>hK .normal st' a w h hs) ops.toList 0 st a w rfl h hs
    |some y=>
     obtain⟨e,hy2⟩:=hy.2 _ rfl
     exact Jet hΓ @hy2 @hil e rfl hN (fun st' a w h hs=>hK .normal st' a w h hs) ops.toList 0 st a w rfl h hs
   ·cases yk with
    | none =>
     obtain rfl:=hy.1 rfl
     have h:Jvf P Γ il ops st (k .normal):=h
     unfold Jvf at h
     split at h
     ·rename_i hc
      rw[Bool.and_eq_true] at hc
      have hg:∀o∈ops.toList,o.guard=none:=fun o ho=>by
       have:=List.all_eq_true.1 hc.1 o ho
       simpa using this
      refine wpIn_mono (Q:=fun e a w=>e= .normal∧Q .normal a w) (wpIn_region_any hm (Jim hΓ @hil hN hg hc.2 (fun e a w h=>h.1) (fun st' a w h hs=>⟨rfl,hK .normal st' a w h hs⟩) _ _ st a _ h ?_)) (fun e a w h=>by obtain⟨h1,h2⟩:=h;subst h1;exact h2)
      obtain⟨ρ,M,al,hal,C⟩:=hs
      exact⟨ρ,M,al,hal,C.world rfl ⟨rfl,rfl,rfl,Nat.le_refl _,fun _ _=>rfl,fun _=>Nat.le_succ _⟩⟩
     ·exact h.elim
    |some y=>exact h.elim
 | .seq x y, ann, yk, it, w0, rd, st, k, Q, hd, hy, hi, h, hK, a, w, hs => by
  simp only[U9,Bool.and_eq_true] at hd
  simp only[wpG] at h
  split at h
  ·rename_i A hA
   refine wpIn_seq (Vg hm hΓ @hil x hd.1 hy hi h.1 (fun e st' a' w' he hs'=> ?_) a w hs)
   cases e with
   |normal=>
    obtain⟨z,j1,j2⟩:=he
    exact Vg hm hΓ @hil y hd.2 hy hi (h.2 z j2) hK a' w' (Uz j1 (Vn hs'))
   |exit i=>exact hK (.exit i) st' a' w' he hs'
   |ret=>exact hK .ret st' a' w' he hs'
  ·refine wpIn_seq (Vg hm hΓ @hil x hd.1 hy hi h (fun e st' a' w' he hs'=> ?_) a w hs)
   cases e with
   |normal=>exact Vg hm hΓ @hil y hd.2 hy hi he hK a' w' hs'
   |exit i=>exact hK (.exit i) st' a' w' he hs'
   |ret=>exact hK .ret st' a' w' he hs'
 | .cond c x y, ann, yk, it, w0, rd, st, k, Q, hd, hy, hi, h, hK, a, w, hs => by
  simp only[U9,Bool.and_eq_true] at hd
  simp only[wpG] at h
  split at h
  ·rename_i t
   split at h
   ·rename_i b hb
    obtain⟨ρ,M,al,hal,C⟩:=id hs
    have e:a.eval (.tmp t)= .bool b:=C.slot t _ hb
    cases hdec:Kjf (ann (1000000+t)) with
    |true=>
     rw[hdec] at h
     exact wpIn_cond_split e (fun hb=>Vg hm hΓ @hil x hd.1 hy hi (by subst hb;exact h) hK a w hs) (fun hb=>Vg hm hΓ @hil y hd.2 hy hi (by subst hb;exact h) hK a w hs)
    | false =>
     rw[hdec] at h
     cases hset:Jz2 (ann (1000000+t)) with
     |true=>
      rw[hset] at h
      exact wpIn_cond_split e (fun q=>Vg hm hΓ @hil x hd.1 hy hi (by subst q;exact h) hK a w (Jeh hs (by rw[hb,q]))) (fun q=>Vg hm hΓ @hil y hd.2 hy hi (by subst q;exact h) hK a w (Jeh hs (by rw[hb,q])))
     |false=>
      rw[hset] at h
      exact wpIn_cond_split e (fun hb=>Vg hm hΓ @hil x hd.1 hy hi (h.1 hb) hK a w hs) (fun hb=>Vg hm hΓ @hil y hd.2 hy hi (h.2 hb) hK a w hs)
   ·exact h.elim
  ·exact h.elim
 | .block id c, ann, yk, it, w0, rd, st, k, Q, hd, hy, hi, h, hK, a, w, hs => by
  by_cases hl:∃c',c= .loop c'
  ·obtain⟨c',rfl⟩:=hl
   exact Jsl (fun h hK a w hs=>Vg hm hΓ @hil c' hd hy hi h hK a w hs) h hK a w hs
  ·have h':wpG P Γ ann il c yk it st (Ex.catch id k):=by
    cases c<;>first|exact h|exact absurd ⟨_,rfl⟩ hl
   refine wpIn_block (Vg hm hΓ @hil c hd hy hi h' (fun e st' a' w' he hs'=> ?_) a w hs)
   cases e with
   |normal=>exact hK .normal st' a' w' he hs'
   |exit i=>
    simp only[Ex.catch] at he
    simp only[Ex.toExit,Exit.inBlock]
    split at he
    ·rename_i e;rw[if_pos e];exact hK .normal st' a' w' he hs'
    ·rename_i e;rw[if_neg e];exact hK (.exit i) st' a' w' he hs'
   |ret=>exact hK .ret st' a' w' he hs'
 | .exit id,ann,yk,it,w0,rd,st,k,Q,_,hy,hi,h,hK,a,w,hs=>wpIn_exit (hK (.exit id) st a w h hs)
 | .ret,ann,yk,it,w0,rd,st,k,Q,_,hy,hi,h,hK,a,w,hs=>wpIn_ret (hK .ret st a w h hs)
 | .scope c,ann,yk,it,w0,rd,st,k,Q,hd,hy,hi,h,hK,a,w,hs=>by
  refine Yp (Vg hm hΓ @hil c hd hy hi h (fun e st' a' w' he hs'=> ?_) a w hs)
  cases e<;>exact hK _ st' a' w' he hs'
 | .label _,ann,yk,it,w0,rd,st,k,Q,_,hy,hi,h,hK,a,w,hs=>wpIn_label (hK .normal st a w h hs)
 | .rangeFunc g ps ca cb, ann, yk, it, w0, rd, st, k, Q, hd, hy, hi, h, hK, a, w, hs => by
  simp only[U9,Bool.and_eq_true,List.all_eq_true,Nat.blt_eq] at hd
  simp only[wpG] at h
  split at h
  ·rename_i t
   split at h
   ·rename_i j hj
    split at h
    ·rename_i f caps hr
     rcases hi with rfl|⟨rfl,hmk,hit⟩
     ·exact h.elim
     ·exact Jr7 hit hmk (fun h hK a w hs=>Vg hm hΓ @hil ca hd.2.1 ⟨fun e=>(by cases e),fun y hy=>(by cases hy;exact⟨.inr rfl,Je0⟩)⟩ (.inl rfl) h hK a w hs) (fun h hK a w hs=>Vg hm hΓ @hil cb hd.2.2 ⟨fun e=>(by cases e),fun y hy=>(by cases hy;exact⟨.inr rfl,Je0⟩)⟩ (.inl rfl) h hK a w hs) hd.1 hj hr h hK a w hs
    ·exact h.elim
   ·exact h.elim
  ·exact h.elim
 | .loop _,_,_,_,_,_,_,_,_,_,_,_,h,_,_,_,_=>h.elim
 | .goto _,_,_,_,_,_,_,_,_,_,_,_,h,_,_,_,_=>h.elim
 | .refuse _,_,_,_,_,_,_,_,_,_,_,_,h,_,_,_,_=>h.elim
termination_by c=>SizeOf.sizeOf c
end
theorem Lo [Dr] {P:Program} {N B:Nat} {w0:U7} {al:Nat→Prop} {s:St} {a:Act} {w:World} {ρ:Env} {M R:Nat→Prop} (C:Jn P N B w0 al (look s.sl) (look s.rs) a w ρ M R):∀{l:List ResultVar} {vs:List SV},Ve P s l=some vs→∀v∈vs,∀id∈v.ids,al id
 |[],vs,h=>by cases h;intro v hv;simp at hv
 | r :: l, vs, h => by
  cases r with
  | tmp t =>
   simp only[Ve] at h
   split at h
   ·rename_i u l' hu hl
    cases h
    intro v hv
    rcases List.mem_cons.1 hv with rfl|hv
    ·exact C.slotIds t _ hu
    ·exact Lo C hl v hv
   ·cases h
  | cell t T =>
   simp only[Ve] at h
   split at h
   ·rename_i i l' hu hl
    split at h
    ·rename_i U cs hr
     split at h
     ·rename_i hc
      obtain⟨e,hm⟩:=hc
      subst e
      split at h
      ·rename_i u hsh
       cases h
       intro v hv
       rcases List.mem_cons.1 hv with rfl|hv
       ·exact(Je7 C (off:=0) hr hm (by omega) (v:=v) (by simpa using hsh)).2.2
       ·exact Lo C hl v hv
      ·cases h
     ·cases h
    ·cases h
   ·cases h
theorem Jjq {ρ:Env}:∀{l:List SV} {ps:List (Bool×List SC)},Jru l=some ps→ps.map (Jwj ρ)=l.map (SV.den ρ)∧∀id∈ps.flatMap (fun p=>Js p.2),∃v∈l,id∈v.ids
 |[],_,h=>by cases h;exact⟨rfl,fun id hid=>by simp at hid⟩
 | .v g cs :: r, ps, h => by
  simp only[Jru] at h
  split at h
  ·rename_i l hl
   cases h
   obtain⟨h1,h2⟩:=Jjq hl
   refine⟨by rw[List.map_cons,List.map_cons,h1];rfl,fun id hid=> ?_⟩
   rw[List.flatMap_cons] at hid
   rcases List.mem_append.1 hid with hid|hid
   ·exact⟨.v g cs,by simp,hid⟩
   ·obtain⟨v,hv,hi⟩:=h2 id hid
    exact⟨v,by simp[hv],hi⟩
  ·cases h
 | .tup _::_,_,h=>by cases h
theorem Jn1 {ρ:Env} {l:List SV} {v:SV} (h:Jj3 l=some v):Jrh (l.map (SV.den ρ))=v.den ρ∧∀id∈v.ids,∃u∈l,id∈u.ids:=by
 unfold Jj3 at h
 split at h
 ·cases h;exact⟨rfl,fun id hid=>⟨_,by simp,hid⟩⟩
 ·rename_i hne
  split at h
  ·rename_i ps hps
   cases h
   obtain⟨h1,h2⟩:=Jjq (ρ:=ρ) hps
   refine⟨?_,h2⟩
   have e:Jrh (l.map (SV.den ρ))= .tuple (l.map (SV.den ρ)).toArray:=by
    match l,hne with
    |[],_=>rfl
    |[u],hne=>exact absurd rfl (hne u)
    |u::u'::r,_=>rfl
   rw[e]
   simp only[SV.den]
   rw[h1]
  ·cases h
theorem Jgp {fn:Func} {tmps:Array Value} {P:Program} {w:World} (h:fn.results.isEmpty=true):∃v,(results fn tmps).run P w= .ok v w:=by
 have e:fn.results= #[]:=Array.isEmpty_iff.1 h
 rw[Jds,e]
 refine⟨.tuple #[], ?_⟩
 rw[Sem.run_bind,Array.mapM_eq_mapM_toList]
 simp[Sem.run_map,Sem.run_pure]
theorem Jkl [Dr] {P:Program} {Γ:Gam} {ann:FuncId→Nat→Option Ann} {il:IL} {lib:FuncId→Option Func} (hm:P.follows .mixedOrders=true) (hΓ:Vb P Γ) (hil:Jxy P il) (hl:∀f fn,lib f=some fn→P.funcs[f]? =some fn):J7b P (itS P Γ ann il lib):=by
 intro f st yk fin B w0 R args w h hmk hyk hinit
 unfold itS at h
 split at h
 ·rename_i fn hfn
  have hf:=hl f fn hfn
  split at h
  ·rename_i c hc
   split at h
   ·rename_i hs
    simp only[Bool.and_eq_true,Bool.not_eq_true',Nat.ble_eq] at hs
    obtain⟨⟨⟨hd,hN⟩,hname⟩,hres⟩:=hs
    refine⟨⟨fn,hf,by rw[hc];rfl,hname⟩,callsIn_of_wp (F:=FR none) (n:=0) hf hc trivial (Vg (N:=fn.ntmps) (B:=B) (R:=R) (w0:=w0) (rd:=none) hm hΓ @hil c hd (⟨fun _=>rfl,fun y hy=>by cases hy;exact⟨.inl rfl,hyk _⟩⟩) (.inl rfl) h (fun e st' a' w' he hs'=> ?_) _ w (hinit fn.ntmps hN))⟩
    obtain⟨ρ,M,al,hal,C⟩:=id hs'
    obtain⟨v,hv⟩:=Jgp (tmps:=a'.tmps) (P:=P) (w:=w') hres
    cases e with
    |normal=>exact⟨C.nomark hmk,v,hv,fn.ntmps,v,a',st',rfl,he,hs'⟩
    |exit i=>exact he.elim
    |ret=>exact⟨C.nomark hmk,v,hv,fn.ntmps,v,a',st',rfl,he,hs'⟩
   ·exact h.elim
  ·exact h.elim
 ·exact h.elim
theorem Rep.shrink {M K:Nat→Prop} {w:World}:∀{s:Sch} {x:s.T} {cs:List Value},Rep M w s x cs→Rep (fun b=>M b∧(K b∨∃o:Obj,w.heap[b]? =some o∧o.isCells=true)) w s x cs
 | .int _,_,_,h=>h
 | .bool,_,_,h=>h
 | .str,_,_,h=>h
 | .flt _,_,_,h=>h
 | .fnc,_,_,h=>h
 | .prod _ _,_,_,⟨c1,c2,e,h1,h2⟩=>⟨c1,c2,e,Rep.shrink h1,Rep.shrink h2⟩
 | .list _ _, _, _, ⟨v, flat, e, h1, h2⟩ => by
  refine⟨v,flat,e,h1.imp fun _ _ h=>Rep.shrink h, ?_⟩
  rcases h2 with h2|⟨b,off,cap,e1,e2,e3,e4⟩
  ·exact .inl h2
  ·refine .inr ⟨b,off,cap,e1,e2,e3,fun hf=>⟨e4 hf, .inr ?_⟩⟩
   cases flat with
   |nil=>exact absurd rfl hf
   |cons u r=>exact cells_of_cell (e3 0 u rfl)
section
variable {P:Program} {N B:Nat} {w0:U7} {al:Nat→Prop} {τ:Nat→Option SV} {σ:Nat→Option Res} {a:Act} {w:World} {ρ:Env} {M R:Nat→Prop}
theorem Jr.shrink {M K:Nat→Prop} {w:World} {gk gv:Bool} {ks vs:Sch}:∀{l:List (ks.T×vs.T)} {n:Nat} {es:List MapEntry},Jr M w gk gv ks vs l n es→Jr (fun b=>M b∧(K b∨∃o:Obj,w.heap[b]? =some o∧o.isCells=true)) w gk gv ks vs l n es
 |[],_,_,h=>h
 |_::_,_,_,⟨kc,vc,r,e,h1,h2,h3⟩=>⟨kc,vc,r,e,Rep.shrink h1,Rep.shrink h2,h3.shrink⟩
theorem Jn.shrink [Dr] (C:Jn P N B w0 al τ σ a w ρ M R) (hc:∀r x,σ r=some x→x.soft=true):
  Jn P N B w0 al τ σ {a with defers:=[]} w ρ (fun b=>M b∧(w0.M b∨∃o:Obj,w.heap[b]? =some o∧o.isCells=true)) R:=by
 refine⟨C.size,⟨fun d hd=>by simp at hd, .nil⟩,fun _=>rfl,C.stay,C.stayR,C.below,C.base,C.slot,C.slotIds,fun r x hx=> ?_,C.resIds,C.apart,fun b hb=>C.old b (hb.imp And.left id),C.one,fun b=>⟨fun h=>(C.up b).1 h.1,fun h=>⟨(C.up b).2 h, .inl h⟩⟩,C.good⟩
 have h:=C.resA r x hx
 cases x with
 |box T cs=>obtain⟨b,h1,h2,h3,h4⟩:=h;exact⟨b,h1,h2,fun h=>h3 h.1,h4⟩
 |imm T s xs=>exact Rep.shrink (K:=w0.M) h
 |own T s xs=>obtain⟨flat,h1,h2,h3⟩:=h;exact⟨flat,h1.imp fun _ _ h=>Rep.shrink h,h2,fun g hg=>⟨fun h=>(h3 g hg).1 h.1,(h3 g hg).2⟩⟩
 |ownT T s xs=>obtain⟨flat,h1,h2,h3⟩:=h;exact⟨flat,h1.imp fun _ _ h=>Rep.shrink h,h2,fun g hg=>⟨fun h=>(h3 g hg).1 h.1,(h3 g hg).2⟩⟩
 |clo f first caps=>exact h
 |rbox T s x=>obtain⟨b,cs,h1,h2,h3,h4⟩:=h;exact⟨b,cs,h1,h2,h3,Rep.shrink h4⟩
 |map ks=>obtain⟨b,es,h1,h2,h3,h4,h5⟩:=h;exact⟨b,es,h1,h2,h3,fun h=>h4 h.1,h5⟩
 |iter j ks seen=>obtain⟨b,m,h1,h2,h3,h4,h5⟩:=h;exact⟨b,m,h1,h2,h3,fun h=>h4 h.1,h5⟩
 |fbox T cs=>obtain⟨b,h1,h2,h3⟩:=h;exact⟨b,h1,h2,h3, .inr ⟨_,h2,rfl⟩⟩
 |mp kT gk gv ks vs l=>obtain⟨h0,b,es,h1,h2,h3,h4,h5⟩:=h;exact⟨h0,b,es,h1,h2,h3.shrink,fun h=>h4 h.1,h5⟩
 |mpi j kT gk gv ks vs l seen=>obtain⟨b,m,h1,h2,h3,h4,h5⟩:=h;exact⟨b,m,h1,h2,h3,fun h=>h4 h.1,h5⟩
 |sus l=>exact h
 |yld s=>obtain⟨l,rc,h1,h2,h3,h4,h5⟩:=h;exact⟨l,rc,h1,h2,h3,fun h=>h4 h.1,h5⟩
 |afn _ _ _ _=>cases hc _ _ hx
 |ifc _=>exact h
 |ifb _ _=>exact h
 |siter s pos=>obtain⟨b,h1,h2,h3,h4⟩:=h;exact⟨b,h1,h2,fun h=>h3 h.1,h4⟩
theorem Zh [Dr] (C:Jn P N B w0 al τ σ a w ρ M R) (hc:∀r x,σ r=some x→x.soft=true) (hB:∀b,w0.M b→b<w0.w.heap.size):
  ∃w'' M'',Jn P N B w0 al τ σ {a with defers:=[]} w'' ρ M'' R∧∀(fn:Func) (Rp:Ending→World→Prop),(∃v,(results fn a.tmps).run P w''= .ok v w''∧Rp (.returned v) w'')→LeavesInM (FR none) 0 P fn a.tmps Rp a.defers .returning w:=by
 obtain⟨M2,hM2⟩:∃M2,M2=fun b=>M b∧(w0.M b∨∃o:Obj,w.heap[b]? =some o∧o.isCells=true):=⟨_,rfl⟩
 have C1:Jn P N B w0 al τ σ {a with defers:=[]} w ρ M2 R:=by rw[hM2];exact C.shrink hc
 have key:∀(ds:List Deferred) (w:World),Jn P N B w0 al τ σ {a with defers:=[]} w ρ M2 R→
   (∀d∈ds,∃D,d={target:= .collected D,args:= #[]}∧w.heap[D]? =some (.deferred (some []))∧B≤D∧¬M2 D∧¬R D∧∀r x,σ r=some x→x.owning=true→blk (ρ r)≠some D)→ds.Nodup→
   ∃w'',Jn P N B w0 al τ σ {a with defers:=[]} w'' ρ M2 R∧∀(fn:Func) (Rp:Ending→World→Prop),(∃v,(results fn a.tmps).run P w''= .ok v w''∧Rp (.returned v) w'')→LeavesInM (FR none) 0 P fn a.tmps Rp ds .returning w:=by
  intro ds
  induction ds with
  |nil=>exact fun w C _ _=>⟨w,C,fun fn Rp h=>h⟩
  | cons d ds ih =>
   intro w C hd hn
   obtain⟨D,e,h1,h2,h3,h4,h5⟩:=hd d (by simp)
   obtain⟨hn1,hn2⟩:=List.nodup_cons.1 hn
   obtain⟨w'',C'',hl⟩:=ih _ (C.putFree (.deferred none) h2 h3 h4 h5) (fun d' hd'=>by
    obtain⟨D',e',k1,k2⟩:=hd d' (by simp[hd'])
    refine⟨D',e', ?_,k2⟩
    rw[World.putObj_heap_other]
    ·exact k1
    ·rintro rfl
     exact hn1 (by rw[e,←e'];exact hd')) hn2
   exact⟨w'',C'',fun fn Rp h=>⟨by simp, .inl ⟨D,_,by rw[e],run_takeDeferred h1,hl fn Rp h⟩⟩⟩
 obtain⟨w'',C'',h⟩:=key a.defers w C1 (fun d hd=>by
  obtain⟨D,d1,d2,d3,d4,d5⟩:=C.defers.1 d hd
  obtain⟨d5,d6⟩:=d5
  refine⟨D,d1,d3,d5,fun h=> ?_,d4,fun r x hx ho hb=>(C.notM hx ho hb).1 d2⟩
  rw[hM2] at h
  rcases h.2 with h|⟨o,h1,h2⟩
  ·have:=hB D h;omega
  ·rw[d3] at h1;cases h1;cases h2) C.defers.2
 exact⟨w'',M2,C'',h⟩
end
theorem Jgi {x:Res} (h:x.calm=true):x.soft=true:=by cases x<;>first|rfl|cases h
theorem Jvq [Dr] {P:Program}:Jxy P Kjb:=fun _ _ _ h=>h.elim
theorem Jsr [Dr] {P:Program} {Γ:Gam} (hΓ:Vb P Γ):Jxy P (Jv7 Γ):=by
 intro f st args K N B w0 R ρ M al a w hal C hids h
 unfold Jv7 at h
 split at h
 case h_2=>exact h.elim
 rename_i c hc
 split at h
 case h_2=>exact h.elim
 rename_i z hz
 split at h
 case h_2=>exact h.elim
 rename_i r i g hrel
 split at h
 case h_2=>exact h.elim
 rename_i T s xs hr
 split at h
 case isFalse=>exact h.elim
 rename_i he
 obtain⟨e1,e2,e3,hno⟩:=he
 subst e1;subst e2;subst e3
 obtain⟨hpre,h⟩:=h
 obtain⟨hE,hS,_,_⟩:=hΓ f c hc
 obtain⟨flat,f1,f2,f3⟩:=C.res i _ hr
 have hcall:=hS z hz w B (ρ i) xs flat C.base (fun w' h=>C.good w' (C.below.trans h)) (f1.imp fun _ _ h=>Yj hno h) f2 hpre
 refine⟨hE,hcall.mono fun e w' hp=> ?_⟩
 obtain⟨rfl,ys,hy,hl,flat',g1,g2,g3,g4⟩:=hp
 rw[hrel] at hy
 refine⟨.tuple #[], .tup [],_,ρ,M,Yy al st.nx [],rfl,h ys hy,fun id hid=> ?_, ?_,rfl,fun id hid=>by simp[SV.ids] at hid⟩
 ·rcases hid with hid|hid
  ·exact hal id hid
  ·simp at hid;omega
 ·have key:=Jgh (n:=st.nx) C (d:=none) (fun t ht=>by cases ht) hr hno f2 f3 hl g1 g2 g3 g4
  have e1:Yx (look st.sl) none (.tup [])=look st.sl:=by funext t;simp[Yx]
  have e2:Kg (look st.rs) st.nx [] [(i,some (Res.own z.T z.s ys))]=look (Kb st.rs (i,some (Res.own z.T z.s ys))):=by
   funext id
   rw[Kl]
   unfold Kg
   rw[if_neg (by simp)]
   by_cases e:id=i
   ·subst e;simp[look]
   ·have e':¬i=id:=fun h=>e h.symm
    simp[look,e,e']
  rw[e1,e2] at key
  exact key
theorem Jd7 [Dr] {P:Program} {Γ:Gam} {ann:FuncId→Nat→Option Ann} {lib:FuncId→Option Func} (hm:P.follows .mixedOrders=true) (hΓ:Vb P Γ) (hl:∀f fn,lib f=some fn→P.funcs[f]? =some fn) (n:Nat):Jxy P (ilS P Γ ann lib n):=by
 induction n with
 |zero=>exact Jvq
 | succ n hil =>
  intro f st args K N B w0 R ρ M al a w hal C hids h
  simp only[ilS] at h
  split at h
  case h_2=>exact Jsr hΓ hal C hids h
  rename_i fn hfn
  have hf:=hl f fn hfn
  split at h
  case h_2=>exact h.elim
  rename_i c hc
  split at h
  case isFalse=>exact h.elim
  rename_i hs
  simp only[Bool.and_eq_true,Bool.not_eq_true',Nat.ble_eq] at hs
  obtain⟨⟨hd,hN⟩,hname⟩:=hs
  obtain⟨m,it,hit,h⟩:∃(m:Bool) (it:IT),(it=Jx6∨m=true∧J7b P it)∧J9o P Γ ann (ilS P Γ ann lib n) it m fn c f st args K:=by
   split at h
   ·exact⟨true,_, .inr ⟨rfl,Jkl hm hΓ @hil hl⟩,h⟩
   ·exact⟨false,_, .inl rfl,h⟩
  refine⟨⟨fn,hf,by rw[hc];rfl,hname⟩, ?_⟩
  have hz:∀id,al id→id≠st.nx:=fun id h=>Nat.ne_of_lt (hal id h)
  let w0i:U7:={w:=w,M:=M,an:=fun id=>if id=st.nx then some (.vals fun t=>a.tmps.getD t undef) else w0.an id,marks:=m}
  let ρi:Env:=fun id=>if id=st.nx then .bool true else ρ id
  have hρ:∀id,al id→ρi id=ρ id:=fun id h=>if_neg (hz id h)
  have hden:∀v:SV,(∀id∈v.ids,al id)→v.den ρi=v.den ρ:=fun v h=>SV.den_congr fun id hid=>hρ id (h id hid)
  have hargs:args.map (SV.den ρ)=args.map (SV.den ρi):=List.map_congr_left fun v hv=>(hden v (hids v hv)).symm
  refine Yo.1 (callsIn_of_wp_marks (F:=FR none) (n:=0) hf hc trivial (Vg (N:=fn.ntmps) (B:=B) (R:=R) (w0:=w0i) (rd:=none) hm hΓ @hil c hd ⟨fun _=>rfl,fun y hy=>by cases hy⟩ (hit.imp id fun h=>⟨rfl,h.1,h.2⟩) h (fun e st' a' w' he hs'=> ?_) _ w
   ⟨ρi,M,fun id=>al id∨id=st.nx,fun id h=> ?_,⟨by simp;omega,⟨fun d hd=>by simp at hd, .nil⟩,fun _=>rfl,fun _ _=>rfl,fun _ _=>rfl,Below.refl _ _,C.base,fun t v ht=> ?_,fun t v ht id hid=> ?_,fun r x hx=> ?_,fun r x hx=> ?_,fun r r' x x' hne hx hx' ho ho' b hb hb'=> ?_,C.old, ?_,fun b=>⟨fun h=> .inl h,fun h=>h⟩,fun w' hw'=>C.good w' (C.below.trans hw')⟩⟩))
  ·-- behind the call
   obtain⟨ρf,Mf0,alf,half,Cf0⟩:=hs'
   have key:(match m&& !(st'.rs.all fun p=>p.2.soft) with
     |true=>False
     | false => match Ve P st' fn.results.toList, look st'.rs st.nx with
      |some vs,some (.sus l)=>match Jj3 vs with
       |some v=>K v ⟨st'.nx,l,Kb st'.rs (st.nx,none)⟩
       |none=>False
      |_,_=>False)→LeavesInM (FR none) 0 P fn a'.tmps (fun e w'=>∃v u st' ρ' M' al',e= .returned v∧K u st'∧(∀id,al' id→id<st'.nx)∧Jn P N B w0 al' (look st'.sl) (look st'.rs) a w' ρ' M' R∧v=u.den ρ'∧∀id∈u.ids,al' id) a'.defers .returning w':=by
    intro hk
    split at hk
    case h_1=>exact hk.elim
    rename_i hsoft
    split at hk
    case h_2=>exact hk.elim
    rename_i vs l hv hs2
    split at hk
    case h_2=>exact hk.elim
    rename_i v hone
    obtain⟨w2,Mf,Cf,hleave⟩:∃w2 Mf,Jn P fn.ntmps B w0i alf (look st'.sl) (look st'.rs) {a' with defers:=[]} w2 ρf Mf R∧∀(fn:Func) (Rp:Ending→World→Prop),(∃v,(results fn a'.tmps).run P w2= .ok v w2∧Rp (.returned v) w2)→LeavesInM (FR none) 0 P fn a'.tmps Rp a'.defers .returning w':=by
     cases hmb:m with
     |true=>
      rw[hmb] at hsoft
      simp only[Bool.true_and,Bool.not_eq_false'] at hsoft
      exact Zh Cf0 (fun r x hx=>List.all_eq_true.1 hsoft _ (Jq hx)) fun b hb=>C.old b (.inl hb)
     | false =>
      have hd0:a'.defers=[]:=Cf0.nomark hmb
      refine⟨w',Mf0, ?_,fun fn Rp hR=> ?_⟩
      ·have e:({a' with defers:=[]}:Act)=a':=by cases a';simp only at hd0;rw[hd0]
       rw[e];exact Cf0
      ·rw[hd0];exact hR
    obtain⟨hval,hvids⟩:=Jn1 (ρ:=ρf) hone
    have hvids':∀id∈v.ids,alf id:=fun id hid=>by
     obtain⟨u,hu,hi⟩:=hvids id hid
     exact Lo Cf hv u hu id hi
    refine hleave fn _ ?_
    obtain⟨T3,t1,t2⟩:=Cf.resA st.nx _ hs2
    have t1':some (Jrf.vals fun t=>a.tmps.getD t undef)=some (Jrf.vals T3):=by rw[←t1];exact(if_pos rfl).symm
    cases t1'
    have hlook:∀{r x},look (Kb st'.rs (st.nx,none)) r=some x→r≠st.nx∧look st'.rs r=some x:=by
     intro r x h
     rw[Kl] at h
     split at h
     ·cases h
     ·rename_i hne;exact⟨hne,h⟩
    have hMf:∀b,M b→Mf b:=fun b hb=>(Cf.up b).2 hb
    refine⟨_,Yz Cf hv,_,v,_,ρf,Mf,alf,rfl,hk,half,⟨C.size,C.defers.keep hMf fun b hb=>Cf.stay b hb,C.nomark,fun b hb=>(Cf.stay b ((C.up b).2 hb)).trans (C.stay b hb),fun b hb=>(Cf.stayR b hb).trans (C.stayR b hb),C.below.trans Cf.below,Cf.base,fun t v ht=>t2 _ (Jq ht),fun t v ht id hid=>(Cf.resIds _ _ hs2).2 id (List.mem_flatMap.2 ⟨_,Jq ht,hid⟩),fun r x hx=>(Cf.resA r x (hlook hx).2).base fun _=>(if_neg (hlook hx).1).symm,fun r x hx=>Cf.resIds r x (hlook hx).2,fun r r' x x' hne hx hx'=>Cf.apart r r' x x' hne (hlook hx).2 (hlook hx').2,Cf.old,Cf.one,fun b=>⟨fun h=> ?_,fun h=>hMf b ((C.up b).2 h)⟩,C.good⟩,hval,hvids'⟩
    rcases(Cf.up b).1 h with h|h
    ·exact(C.up b).1 h
    ·exact .inr h
   cases e with
   |normal=>exact key he
   |exit i=>exact he.elim
   |ret=>exact key he
  ·show id<st.nx+1
   rcases h with h|h
   ·have:=hal id h;omega
   ·omega
  ·simp only at ht
   rw[Us,if_pos (Nat.zero_le _),Nat.sub_zero] at ht
   have hlt:t<args.length:=(List.getElem?_eq_some_iff.1 ht).1
   have:(args.map (SV.den ρ)).toArray[t]? =some (v.den ρi):=by rw[hargs,List.getElem?_toArray,List.getElem?_map,ht];rfl
   simp only[Array.getD_eq_getD_getElem?,Array.getElem?_append]
   rw[if_pos (by simpa using hlt),this]
   rfl
  ·simp only at ht
   rw[Us,if_pos (Nat.zero_le _),Nat.sub_zero] at ht
   exact .inl (hids v (List.mem_of_getElem? ht) id hid)
  ·simp only[look] at hx
   split at hx
   ·rename_i e2
    subst e2;cases hx
    refine⟨_,if_pos rfl,fun p hp=> ?_⟩
    have h1:=Vx hp
    rw[hden p.2 (C.slotIds _ _ h1)]
    exact C.slot _ _ h1
   ·rename_i e2
    have hr:=C.resIds r x hx
    exact((C.resA r x hx).keep (hρ r hr.1) (fun id hid=>hρ id (hr.2 id hid)) (fun _ h=>h) (fun b hb=>rfl) fun ho b hb=>⟨rfl,(C.notM hx ho hb).1⟩).base fun _=>if_neg (Ne.symm e2)
  ·simp only[look] at hx
   split at hx
   ·rename_i e2
    subst e2;cases hx
    refine⟨.inr rfl,fun id hid=> ?_⟩
    obtain⟨p,hp,hid⟩:=List.mem_flatMap.1 hid
    exact .inl (C.slotIds _ _ (Vx hp) id hid)
   ·have hr:=C.resIds r x hx
    exact⟨.inl hr.1,fun id hid=> .inl (hr.2 id hid)⟩
  ·simp only[look] at hx hx'
   split at hx
   ·cases hx;cases ho
   ·split at hx'
    ·cases hx';cases ho'
    ·rw[hρ r (C.resIds r x hx).1] at hb
     rw[hρ r' (C.resIds r' x' hx').1] at hb'
     exact C.apart r r' x x' hne hx hx' ho ho' b hb hb'
  ·rintro i (hi|hi)
   ·rw[hρ i hi];exact C.one i hi
   ·have:ρi i= .bool true:=if_pos hi
    rw[this];rfl
theorem Un {P:Program} {l:List (Nat×Func)} (h:∀p∈l,P.funcs[p.1]? =some p.2):∀f fn,look l f=some fn→P.funcs[f]? =some fn:=fun _ _ hl=>h _ (Jq hl)
theorem Jgz [Dr] {P:Program} {Γ:Gam} {f:FuncId} {fn:Func} {c:Con} {lib:FuncId→Option Func} (hm:P.follows .mixedOrders=true) (hΓ:Vb P Γ) (hf:P.funcs[f]? =some fn) (hs:Dq fn c=true)
  (hl:∀f fn,lib f=some fn→P.funcs[f]? =some fn) (ann:ATup c.args→Nat→Option Ann) (annF:ATup c.args→FuncId→Nat→Option Ann) (h:∀x:ATup c.args,wpFG P Γ (ann x) (annF x) lib fn c x):Ok P f c:=by
 unfold Dq at hs
 cases hb:fn.body with
 |none=>rw[hb] at hs;cases hs
 | some code =>
  rw[hb] at hs
  simp only[Bool.and_eq_true,Bool.not_eq_true',Nat.ble_eq] at hs
  obtain⟨⟨⟨⟨hd,hN⟩,hname⟩,hsn⟩,hpn⟩:=hs
  refine⟨⟨fn,hf,by rw[hb];rfl,hname⟩,fun z hz=>(by rw[hz] at hsn;cases hsn),fun F hF=>(by rw[hF] at hpn;cases hpn),fun _ x M R w vs hM hgood hpre hargs=> ?_⟩
  have hx:=h x
  unfold wpFG at hx
  rw[hb] at hx
  have hw:=Jfg hx hpre
  refine Yo.1 (callsIn_of_wp_marks (F:=FR none) (n:=0) hf hb trivial (Vg (rd:=none) (N:=fn.ntmps) (B:=w.heap.size) (w0:=⟨w,M,fun _=>none,true⟩) (R:=R) hm hΓ (Jd7 hm hΓ hl 5) code hd ⟨fun _=>rfl,fun y hy=>by cases hy⟩ (.inr ⟨rfl,rfl,Jkl hm hΓ (Jd7 hm hΓ hl 5) hl⟩) hw (fun e st' a' w' he hs'=> ?_) _ w (Jkm true hargs hM hN hgood)))
  have key : ((st'.rs.all fun p => p.2.calm) = true ∧ Jx3 P fn c x st') → LeavesInM (FR none) 0 P fn a'.tmps (Jjk M w c.ress c.owns (c.spec x)) a'.defers .returning w' := by
   rintro⟨hcalm,hr⟩
   obtain⟨ρ,M',al,_,C⟩:=hs'
   obtain⟨w2,M2,C2,hleave⟩:=Zh C (fun r x hx=>Jgi (List.all_eq_true.1 hcalm _ (Jq hx))) (fun b hb=>hM b (.inl hb))
   refine hleave fn _ ?_
   unfold Jx3 at hr
   split at hr
   ·rename_i rv hrv
    split at hr
    ·rename_i y hy
     split at hr
     ·rename_i ho
      have e:=Jah hr
      subst e
      refine⟨_,Yz C2 hrv, ?_⟩
      have hres:=Da C2 (Vi (look st'.rs) c.owns rv) (fun i y h=>Ja8 h) hy ho (fun v hv g cs i T s' xs e hi hr=>by
       subst e
       exact Ko hv (Uu hi hr))
      refine⟨_,_,rfl,C2.below,fun b hb=> .inl ((C2.up b).2 hb),fun b hb=> ?_,hres⟩
      rcases hb with hb|⟨i,y,T,s',xs,_,hr',hg⟩
      ·rcases(C2.up b).1 hb with h1|h1
       ·exact .inl h1
       ·exact .inr ⟨h1.1,C2.old b (.inl hb)⟩
      ·have:=C2.notM hr' rfl (Jh hg)
       exact .inr ⟨this.2.2.1,this.2.2.2⟩
     ·exact hr.elim
    ·exact hr.elim
   ·exact hr.elim
  cases e with
  |normal=>exact key he
  |exit i=>exact he.elim
  |ret=>exact key he
end Go.Sx
namespace Go.Sx
open Go.RowKit
structure Yb where
 T? :Option TypeId
 s:Sch
 args:List AK
 ress:List (Bool×Sch)
 pre:s.T→ATup args→List Prop
 spec:s.T→ATup args→Tup ress
 post:s.T→ATup args→s.T
def Jsa (rs:Nat→Option Res):Sch→List SC→Bool
 | .prod a b,cs=>Jsa rs a (cs.take a.size)&&Jsa rs b (cs.drop a.size)
 | .list T _, cs => match cs with
  |[.sl i]=>match rs i with
   |some (.own T' _ _)=>Nat.beq T' T
   |_=>false
  |[.val (.slice none 0 0)]=>true
  |_=>false
 |_,_=>true
def Ki3 (M R:Nat→Prop) (B:Nat) (w:World) (y:Res) (v:Value):Prop:=
 v.oneCell'=true∧∃T s xs flat,y= .own T s xs∧U6 (Rep M w s) xs flat∧w.ownsRow B T s.size v (xs:List s.T).length flat∧∀g,v.ownBlock=some g→¬M g∧¬R g
def J27 (u u':Value):Prop:=∀b,blk u=some b→blk u'≠some b
structure Jjl (M R:Nat→Prop) (B:Nat) (w:World) (s:Sch) (x:s.T) (cells vals:List Value):Prop where
 len:vals.length=(Jo (enc s x) 0).2.length
 cells:∀(n:Nat) (ρ':Env),(∀(i:Nat) (u:Value),vals[i]? =some u→ρ' (n+i)=u)→cells=(Jo (enc s x) n).1.map (SC.den ρ')
 own:∀(i:Nat) (y:Res),((Jo (enc s x) 0).2.map Yr)[i]? =some y→∃v,vals[i]? =some v∧Ki3 M R B w y v
 apart:vals.Pairwise J27
theorem Y4:∀(a b:List SC) (n:Nat),Jo (a++b) n=((Jo a n).1++(Jo b (n+(Jo a n).2.length)).1,(Jo a n).2++(Jo b (n+(Jo a n).2.length)).2)
 |[],b,n=>by simp[Jo]
 | c :: a, b, n => by
  have ih:=Y4 a b
  cases c with
  |lst T s xs=>
   simp only[List.cons_append,Jo,ih,List.length_cons]
   rw[show n+1+(Jo a (n+1)).2.length=n+((Jo a (n+1)).2.length+1) by omega]
  |_=>simp only[List.cons_append,Jo,ih]
theorem Yh:∀(cs:List SC) (n m:Nat),(Jo cs n).2=(Jo cs m).2
 |[],_,_=>rfl
 |c::cs,n,m=>by
  cases c with
  |lst T s xs=>simp only[Jo];rw[Yh cs (n+1) (m+1)]
  |_=>simp only[Jo];exact Yh cs n m
theorem Jaq:∀{s:Sch} {x:s.T} (n:Nat),∀id∈Js (Jo (enc s x) n).1,n≤id∧id<n+(Jo (enc s x) n).2.length
 | .int _,_,_,id,h=>by simp[enc,Jo,Js,SC.ids] at h
 | .bool,_,_,id,h=>by simp[enc,Jo,Js,SC.ids] at h
 | .str,_,_,id,h=>by simp[enc,Jo,Js,SC.ids] at h
 | .flt _,_,_,id,h=>by simp[enc,Jo,Js,SC.ids] at h
 | .fnc,_,_,id,h=>by simp[enc,Jo,Js,SC.ids] at h
 | .list _ _,_,_,id,h=>by
  simp[enc,Jo,Js,SC.ids] at h
  simp only[enc,Jo,List.length_cons,List.length_nil]
  omega
 | .prod a b,x,n,id,h=>by
  simp only[enc,Y4] at h⊢
  rw[Js,List.flatMap_append] at h
  rw[List.length_append]
  rcases List.mem_append.1 h with h|h
  ·have:=Jaq n id h;omega
  ·have:=Jaq (n+(Jo (enc a x.1) n).2.length) id h;omega
theorem Jpz {M:Nat→Prop} {w:World} {B:Nat} {T:TypeId} {s s':Sch} (h:s'=s) {xs:List s'.T} {v:Value} {flat:List Value} (h1:U6 (Rep M w s') xs flat) (h2:w.ownsRow B T s'.size v xs.length flat):
  U6 (Rep M w s) (Zo h xs) flat∧w.ownsRow B T s.size v (Zo h xs).length flat:=by
 subst h
 exact⟨h1,h2⟩
theorem Jan [Dr] {P : Program} {ρ : Env} {M R : Nat → Prop} {B : Nat} {w : World} {rs : Nat → Option Res} (hres : ∀ i T s xs, rs i = some (.own T s xs) → Va P ρ M R B w i (.own T s xs))
  (hap:∀i j x y,i≠j→rs i=some x→rs j=some y→x.owning=true→y.owning=true→∀b,blk (ρ i)=some b→blk (ρ j)≠some b):
  ∀{s:Sch} {cs:List SC} {x:s.T},dec rs s cs=some x→Jsa rs s cs=true→(Js cs).Nodup→
   ∃vals,Jjl M R B w s x (cs.map (SC.den ρ)) vals∧∀v∈vals,v= .slice none 0 0∨∃i T s xs,i∈Js cs∧rs i=some (.own T s xs)∧v=ρ i
 | .int k, cs, x, h, _, _ => by
  replace h:Jci k cs=some x:=h
  unfold Jci at h
  split at h
  ·split at h
   ·rename_i e;subst e;cases h
    exact⟨[],⟨rfl,fun n ρ' _=>rfl,fun i y hy=>by simp[enc,Jo] at hy, .nil⟩,fun v hv=>by simp at hv⟩
   ·cases h
  ·cases h
 | .bool, cs, x, h, _, _ => by
  replace h:L0 cs=some x:=h
  unfold L0 at h
  split at h
  ·cases h
   exact⟨[],⟨rfl,fun n ρ' _=>rfl,fun i y hy=>by simp[enc,Jo] at hy, .nil⟩,fun v hv=>by simp at hv⟩
  ·cases h
 | .str, cs, x, h, _, _ => by
  replace h:Jch cs=some x:=h
  unfold Jch at h
  split at h
  ·cases h
   exact⟨[],⟨rfl,fun n ρ' _=>rfl,fun i y hy=>by simp[enc,Jo] at hy, .nil⟩,fun v hv=>by simp at hv⟩
  ·cases h
 | .flt k, cs, x, h, _, _ => by
  replace h:Jcj k cs=some x:=h
  unfold Jcj at h
  split at h
  ·split at h
   ·rename_i e;subst e;cases h
    exact⟨[],⟨rfl,fun n ρ' _=>rfl,fun i y hy=>by simp[enc,Jo] at hy, .nil⟩,fun v hv=>by simp at hv⟩
   ·cases h
  ·cases h
 | .fnc,cs,x,h,_,_=>by
  replace h:Jpr cs=some x:=h
  unfold Jpr at h
  split at h
  ·cases h;exact⟨[],⟨rfl,fun n ρ' _=>rfl,fun i y hy=>by simp[enc,Jo] at hy, .nil⟩,fun v hv=>by simp at hv⟩
  ·cases h;exact⟨[],⟨rfl,fun n ρ' _=>rfl,fun i y hy=>by simp[enc,Jo] at hy, .nil⟩,fun v hv=>by simp at hv⟩
  ·cases h;exact⟨[],⟨rfl,fun n ρ' _=>rfl,fun i y hy=>by simp[enc,Jo] at hy, .nil⟩,fun v hv=>by simp at hv⟩
  ·cases h
 | .prod a b, cs, x, h, ho, hn => by
  simp only[dec] at h
  simp only[Jsa,Bool.and_eq_true] at ho
  have hsplit:Js cs=Js (cs.take a.size)++Js (cs.drop a.size):=by
   rw[Js,Js,Js,←List.flatMap_append,List.take_append_drop]
  rw[hsplit,List.nodup_append] at hn
  split at h
  ·rename_i y z ha hb
   cases h
   obtain⟨va,A,A'⟩:=Jan hres hap ha ho.1 hn.1
   obtain⟨vb,Bb,B'⟩:=Jan hres hap hb ho.2 hn.2.1
   refine⟨va++vb,⟨?_,fun n ρ' hρ=> ?_,fun i u hu=> ?_, ?_⟩,fun v hv=> ?_⟩
   ·simp only[enc,Y4,List.length_append,A.len,Bb.len]
    rw[Yh (enc b z) (0+(Jo (enc a y) 0).2.length) 0]
   ·simp only[enc,Y4,List.map_append]
    rw[←A.cells n ρ' fun i u hu=>hρ i u (by rw[List.getElem?_append_left (List.getElem?_eq_some_iff.1 hu).1];exact hu),
     ←Bb.cells (n+(Jo (enc a y) n).2.length) ρ' fun i u hu=>by
      have:=hρ (va.length+i) u (by rw[List.getElem?_append_right (Nat.le_add_right _ _)];simpa using hu)
      rw[A.len,Yh _ 0 n] at this
      rwa[Nat.add_assoc],
     ←List.map_append,List.take_append_drop]
   ·simp only[enc,Y4,List.map_append] at hu
    rw[Yh (enc b z) (0+(Jo (enc a y) 0).2.length) 0] at hu
    have hlen:((Jo (enc a y) 0).2.map Yr).length=va.length:=by rw[List.length_map,A.len]
    by_cases hi:i<va.length
    ·rw[List.getElem?_append_left (by omega)] at hu
     obtain⟨v,h1,h2⟩:=A.own i u hu
     exact⟨v,by rw[List.getElem?_append_left hi];exact h1,h2⟩
    ·rw[List.getElem?_append_right (by omega),hlen] at hu
     obtain⟨v,h1,h2⟩:=Bb.own _ u hu
     exact⟨v,by rw[List.getElem?_append_right (by omega)];exact h1,h2⟩
   ·refine List.pairwise_append.2 ⟨A.apart,Bb.apart,fun u hu u' hu' g hg hg'=> ?_⟩
    rcases A' u hu with rfl|⟨i,T,s,xs,i1,i2,rfl⟩
    ·cases hg
    ·rcases B' u' hu' with rfl|⟨j,T',s',xs',j1,j2,rfl⟩
     ·cases hg'
     ·exact hap i j _ _ (fun e=>hn.2.2 i i1 j j1 e) i2 j2 rfl rfl g hg hg'
   ·rcases List.mem_append.1 hv with hv|hv
    ·rcases A' v hv with h|⟨i,T,s,xs,i1,i2⟩
     ·exact .inl h
     ·exact .inr ⟨i,T,s,xs,by rw[hsplit];exact List.mem_append_left _ i1,i2⟩
    ·rcases B' v hv with h|⟨i,T,s,xs,i1,i2⟩
     ·exact .inl h
     ·exact .inr ⟨i,T,s,xs,by rw[hsplit];exact List.mem_append_right _ i1,i2⟩
  ·cases h
 | .list T s, cs, x, h, ho, hnd => by
  clear hnd
  replace h:Y7 rs s cs=some x:=h
  unfold Y7 at h
  split at h
  ·rename_i i
   cases hy:rs i with
   |none=>rw[hy] at h;cases h
   | some y =>
    rw[hy] at h
    cases y with
    |imm T' s' xs=>simp[Jsa,hy] at ho
    | own T' s' xs =>
     simp only[Hg] at h
     split at h
     ·rename_i e;cases h
      have hr:=hres i _ _ _ hy
      obtain⟨flat,h3,h4,h5⟩:=hr
      have hT:T'=T:=by simpa[Jsa,hy,Nat.beq_eq] using ho
      subst hT
      obtain⟨h6,h7⟩:=Jpz e h3 h4
      refine⟨[ρ i],⟨rfl,fun n ρ' hρ=> ?_,fun j u hu=> ?_,List.pairwise_singleton _ _⟩,fun v hv=> ?_⟩
      ·have:=hρ 0 _ rfl
       simp only[Nat.add_zero] at this
       simp[enc,Jo,SC.den,this]
      ·cases j with
       |zero=>
        have:Res.own T' s (Zo e xs)=u:=by simpa[enc,Jo,Yr] using hu
        subst this
        refine⟨ρ i,rfl, ?_,T',s,_,flat,rfl,h6,h7,h5⟩
        rcases h4.2 with⟨h,_⟩|⟨g,cap,cur,h,_⟩<;>rw[h]<;>rfl
       |succ j=>simp[enc,Jo] at hu
      ·refine .inr ⟨i,T',s',xs,by simp[Js,SC.ids],hy,by simpa using hv⟩
     ·cases h
    |_=>cases h
  ·cases h
   refine⟨[.slice none 0 0],⟨rfl,fun n ρ' hρ=> ?_,fun j u hu=> ?_,List.pairwise_singleton _ _⟩,fun v hv=> .inl (by simpa using hv)⟩
   ·have:=hρ 0 _ rfl
    simp only[Nat.add_zero] at this
    simp[enc,Jo,SC.den,this]
   ·cases j with
    |zero=>
     have:Res.own T s []=u:=by simpa[enc,Jo,Yr] using hu
     subst this
     exact⟨.slice none 0 0,rfl,rfl,T,s,[],[],rfl,rfl,⟨by simp, .inl ⟨rfl,rfl⟩⟩,fun g hg=>by cases hg⟩
    |succ j=>simp[enc,Jo] at hu
  ·cases h
def Zy (b:Nat) (vals:List Value) (g:Nat):Prop:=g=b∨∃u∈vals,blk u=some g
def OkO [Dr] (P:Program) (f:FuncId) (c:Yb):Prop:=
 X9 P f∧∀(x:c.s.T) (y:ATup c.args) (M R:Nat→Prop) (B:Nat) (w:World) (b T:Nat) (cells vals vs:List Value),B≤w.heap.size→(∀g,M g∨R g→g<w.heap.size)→(∀w',Below B w w'→Tab P w')→
  w.heap[b]? =some (.cells cells.toArray T (0,0))→B≤b→¬M b→¬R b→(∀T0,c.T? =some T0→T=T0)→Jjl M R B w c.s x cells vals→(∀u∈vals,blk u≠some b)→Kq (c.pre x y)→Vp P M R w c.args y vs→
  Calls P f (.pointer (some ⟨b,0,none⟩)::vs).toArray w fun e w'=>∃M' cells' vals' us,e= .returned (Jrh us)∧X8 M' w' 0 c.ress [] (c.spec x y) us∧Below B w w'∧(∀g,M g→M' g)∧(∀g,M' g→g<w'.heap.size)∧
   (∀g,M' g→M g∨(B≤g∧(Zy b vals g∨w.heap.size≤g)))∧(∀g,g<w.heap.size→¬Zy b vals g→w'.heap[g]? =w.heap[g]?)∧(∀g,M g→w'.heap[g]? =w.heap[g]?)∧
   w'.heap[b]? =some (.cells cells'.toArray T (0,0))∧¬M' b∧Jjl M' R B w' c.s (c.post x y) cells' vals'∧(∀u∈vals',blk u≠some b)∧(∀g,Zy b vals' g→Zy b vals g∨w.heap.size≤g)
def Fx (c:Yb) (T:TypeId) (x:c.s.T) (y:ATup c.args):St:=
 let o:=Jo (enc c.s x) 2
 let a:=Ku c.args y (2+o.2.length)
 ⟨2+o.2.length+a.2.length,Jis (.one (.ptr 1 0)::a.1) 0,Jis (.sus [(0, .one (.ptr 1 0))]:: .box T o.1::(o.2.map Yr++a.2)) 0⟩
def J72 (P:Program) (fn:Func) (c:Yb) (T:TypeId) (x:c.s.T) (y:ATup c.args) (s:St):Prop:=
 match Ve P s fn.results.toList,look s.rs 0 with
 | some vs, some (.sus [(0, .v false [.ptr i 0])]) => match look s.rs i, Xr (look s.rs) c.ress vs with
  |some (.box T' cs),some r=>match dec (look s.rs) c.s cs with
   |some x'=>if Jsa (look s.rs) c.s cs=true∧Xj (Js cs)=true then Kq ((T'=T)::(x'=c.post x y)::Jlu c.ress r (c.spec x y)) else False
   |none=>False
  |_,_=>False
 |_,_=>False
def Jtt (fn:Func) (c:Yb):Bool:=match fn.body with
 |some code=>U9 fn.ntmps code&&Nat.ble (c.args.length+1) fn.ntmps&& !(fn.name== "runtime.NumGoroutine")&& !(hasList c.ress)
 |none=>false
@[irreducible] def wpFO (P:Program) (Γ:Gam) (ann:Nat→Option Ann) (annF:FuncId→Nat→Option Ann) (lib:FuncId→Option Func) (fn:Func) (c:Yb) (T:TypeId) (x:c.s.T) (y:ATup c.args):Prop:=
 match fn.body with
 |some code=>Jt6 (c.pre x y)<|wpG P Γ ann (ilS P Γ annF lib 5) code none (itS P Γ annF (ilS P Γ annF lib 5) lib) (Fx c T x y) fun e s=>match e with
  | .exit _=>False
  |_=>(s.rs.all fun p=>p.2.soft)=true∧J72 P fn c T x y s
 |none=>False
theorem Ji4 {rs rs':Nat→Option Res}:∀{s:Sch} {cs:List SC},s.hasList=false→dec rs s cs=dec rs' s cs
 | .int _,_,_=>rfl
 | .bool,_,_=>rfl
 | .str,_,_=>rfl
 | .flt _,_,_=>rfl
 | .fnc,_,_=>rfl
 | .list _ _,_,h=>by cases h
 | .prod a b,cs,h=>by
  simp only[Sch.hasList,Bool.or_eq_false_iff] at h
  simp only[dec]
  rw[Ji4 (rs':=rs') h.1,Ji4 (rs':=rs') (s:=b) h.2]
theorem Jdt [Dr] (P:Program) {rs:Nat→Option Res} {ρ:Env} {M:Nat→Prop} {w:World}:∀{ps:List (Bool×Sch)} {vs:List SV} {y:Tup ps},Xr rs ps vs=some y→hasList ps=false→X8 M w 0 ps [] y (vs.map (SV.den ρ))
 |[],[],_,_,_=>rfl
 |[],_::_,_,h,_=>by simp[Xr] at h
 |_::_,[],_,h,_=>by simp[Xr] at h
 | p :: r, v :: vs, y, h, hl => by
  simp only[hasList,List.any_cons,Bool.or_eq_false_iff] at hl
  cases v with
  |tup _=>simp[Xr] at h
  | v g cs =>
   simp only[Xr] at h
   split at h
   ·rename_i e
    subst e
    split at h
    ·rename_i x z hx hz
     cases h
     refine⟨_,_,rfl,⟨cs.map (SC.den ρ),rfl, ?_⟩,Jdt P hz hl.2⟩
     rw[Ji4 (rs':=fun _=>none) hl.1] at hx
     exact Xk (P:=P) (M:=M) (R:=M) (B:=0) (fun _ h=>h) hx (fun i y h=>by cases h) (fun i T s' xs g _ h=>by cases h)
    ·cases h
   ·cases h
theorem Jo7 [Dr] {P:Program} {c:Yb} {x:c.s.T} {y:ATup c.args} {M R:Nat→Prop} {B:Nat} {w:World} {b T:Nat} {cells vals vs:List Value} {N:Nat} (hB:B≤w.heap.size) (hM:∀g,M g∨R g→g<w.heap.size) (hgood:∀w',Below B w w'→Tab P w')
  (hb:w.heap[b]? =some (.cells cells.toArray T (0,0))) (hBb:B≤b) (hMb:¬M b) (hRb:¬R b) (ho:Jjl M R B w c.s x cells vals) (hv:∀u∈vals,blk u≠some b) (h:Vp P M R w c.args y vs) (hN:c.args.length+1≤N):
  U3 P N B ⟨w,M,fun id=>if id=0 then some (.vals fun _=> .pointer (some ⟨b,0,none⟩)) else none,true⟩ R (Fx c T x y) {tmps:=(Value.pointer (some ⟨b,0,none⟩)::vs).toArray++Array.replicate (N-(Value.pointer (some ⟨b,0,none⟩)::vs).toArray.size) undef,defers:=[]} w:=by
 obtain⟨L,hL⟩:∃L,L=(Jo (enc c.s x) 2).2.length:=⟨_,rfl⟩
 have hvl:vals.length=L:=by rw[ho.len,hL,Yh _ 0 2]
 obtain⟨av,a1,a2,a3,a4,a5⟩:=Lv (2+L) h
 obtain⟨all,hall⟩:∃all:List Value,all= .bool true:: .pointer (some ⟨b,0,none⟩)::(vals++av):=⟨_,rfl⟩
 let ρ:Env:=fun id=>all.getD id undef
 have hρ:∀(i:Nat) (u:Value),all[i]? =some u→ρ i=u:=fun i u hu=>by
  show all.getD i undef=u
  rw[List.getD_eq_getElem?_getD,hu];rfl
 have hρv:∀(i:Nat) (u:Value),vals[i]? =some u→ρ (2+i)=u:=fun i u hu=>hρ _ u (by
  rw[hall,Nat.add_comm 2 i]
  simp only[List.getElem?_cons_succ]
  rw[List.getElem?_append_left (List.getElem?_eq_some_iff.1 hu).1];exact hu)
 have hρa:∀(i:Nat) (u:Value),av[i]? =some u→ρ (2+L+i)=u:=fun i u hu=>hρ _ u (by
  rw[hall,show 2+L+i=L+i+1+1 by omega]
  simp only[List.getElem?_cons_succ]
  rw[List.getElem?_append_right (by omega),hvl,Nat.add_sub_cancel_left];exact hu)
 have h0:ρ 0= .bool true:=hρ 0 _ (by rw[hall];rfl)
 have h1:ρ 1= .pointer (some ⟨b,0,none⟩):=hρ 1 _ (by rw[hall];rfl)
 obtain⟨e1,e2⟩:=a5 ρ hρa
 have ecells:=ho.cells 2 ρ hρv
 have hlen:=Zq h
 have hsl:(Fx c T x y).sl=Jis (.one (.ptr 1 0)::(Ku c.args y (2+L)).1) 0:=by rw[hL];rfl
 have hrs:(Fx c T x y).rs=Jis (.sus [(0, .one (.ptr 1 0))]:: .box T (Jo (enc c.s x) 2).1::((Jo (enc c.s x) 2).2.map Yr++(Ku c.args y (2+L)).2)) 0:=by rw[hL];rfl
 have hnx:(Fx c T x y).nx=2+L+(Ku c.args y (2+L)).2.length:=by rw[hL];rfl
 have hres:∀{r z},look (Fx c T x y).rs r=some z→(r=0∧z= .sus [(0, .one (.ptr 1 0))])∨(r=1∧z= .box T (Jo (enc c.s x) 2).1)∨(∃i,r=2+i∧i<L∧((Jo (enc c.s x) 2).2.map Yr)[i]? =some z)∨∃i,r=2+L+i∧(Ku c.args y (2+L)).2[i]? =some z:=by
  intro r z hz
  rw[hrs,Us,if_pos (Nat.zero_le _),Nat.sub_zero] at hz
  match r,hz with
  |0,hz=>left;exact⟨rfl,by simpa using hz.symm⟩
  |1,hz=>right;left;exact⟨rfl,by simpa using hz.symm⟩
  | r + 2, hz =>
   right;right
   simp only[List.getElem?_cons_succ] at hz
   by_cases hlt:r<L
   ·rw[List.getElem?_append_left (by rw[List.length_map,←hL];exact hlt)] at hz
    exact .inl ⟨r,by omega,hlt,hz⟩
   ·rw[List.getElem?_append_right (by rw[List.length_map,←hL];omega),List.length_map,←hL] at hz
    exact .inr ⟨r-L,by omega,hz⟩
 have hown:∀(i:Nat) (z:Res),((Jo (enc c.s x) 2).2.map Yr)[i]? =some z→∃v,vals[i]? =some v∧Ki3 M R B w z v:=fun i z hz=>ho.own i z (by rw[Yh _ 0 2];exact hz)
 refine⟨ρ,M,fun id=>id<(Fx c T x y).nx,fun id h=>h,⟨?_,⟨fun d hd=>by simp at hd, .nil⟩,fun _=>rfl,fun _ _=>rfl,fun _ _=>rfl,Below.refl _ _,hB, ?_, ?_, ?_, ?_, ?_,hM, ?_,fun b=>⟨fun h=> .inl h,fun h=>h⟩,hgood⟩⟩
 ·simp;omega
 ·intro t sv ht
  rw[hsl,Us,if_pos (Nat.zero_le _),Nat.sub_zero] at ht
  have:(Value.pointer (some ⟨b,0,none⟩)::vs)[t]? =some (sv.den ρ):=by
   have e0:(SV.one (.ptr 1 0)).den ρ= .pointer (some ⟨b,0,none⟩):=by simp[SV.den,valOf,SC.den,h1]
   rw[←e0,←e1,←List.map_cons,List.getElem?_map,ht];rfl
  have hlt:t<(Value.pointer (some ⟨b,0,none⟩)::vs).length:=(List.getElem?_eq_some_iff.1 this).1
  simp only[Array.getD_eq_getD_getElem?,Array.getElem?_append,List.size_toArray,hlt,if_true,List.getElem?_toArray,this,Option.getD_some]
 ·intro t sv ht id hid
  rw[hsl,Us,if_pos (Nat.zero_le _),Nat.sub_zero] at ht
  rw[hnx]
  rcases List.mem_cons.1 (List.mem_of_getElem? ht) with rfl|hm
  ·simp only[SV.ids,Js,SC.ids,List.flatMap_cons,List.flatMap_nil,List.append_nil,List.mem_singleton] at hid
   omega
  ·have:=a3 sv hm id hid;omega
 ·intro r z hz
  rcases hres hz with⟨rfl,rfl⟩|⟨rfl,rfl⟩|⟨i,rfl,hi,hz2⟩|⟨i,rfl,hz2⟩
  ·refine⟨fun _=> .pointer (some ⟨b,0,none⟩),rfl,fun p hp=> ?_⟩
   have:p=(0, .one (.ptr 1 0)):=by simpa using hp
   subst this
   simp[SV.den,valOf,SC.den,h1]
  ·refine Va.a ?_
   refine⟨b,h1, ?_,hMb,hRb,hBb⟩
   rw[hb,ecells]
  ·obtain⟨v,v1,_,T',s',xs,flat,rfl,v4,v5,v6⟩:=hown i z hz2
   refine Va.a ?_
   rw[←hρv i v v1] at v5 v6
   exact⟨flat,v4,v5,v6⟩
  ·exact(e2 i z B hz2).a
 ·intro r z hz
  rw[hnx]
  rcases hres hz with⟨rfl,rfl⟩|⟨rfl,rfl⟩|⟨i,rfl,hi,hz2⟩|⟨i,rfl,hz2⟩
  ·refine⟨by omega,fun id hid=> ?_⟩
   simp only[Res.ids,SV.ids,Js,SC.ids,List.flatMap_cons,List.flatMap_nil,List.append_nil,List.mem_singleton] at hid
   omega
  ·refine⟨by omega,fun id hid=> ?_⟩
   have:=Jaq 2 id hid
   rw[←hL] at this
   omega
  ·obtain⟨v,_,_,T',s',xs,flat,rfl,_⟩:=hown i z hz2
   exact⟨by omega,fun id hid=>by simp[Res.ids] at hid⟩
  ·have hlt:=(List.getElem?_eq_some_iff.1 hz2).1
   exact⟨by omega,fun id hid=>by rw[(a4 z (List.mem_of_getElem? hz2)).2] at hid;simp at hid⟩
 ·intro r r' z z' hne hz hz' hoz hoz' g hg hg'
  have get:∀{r z},look (Fx c T x y).rs r=some z→z.owning=true→∀g,blk (ρ r)=some g→(r=1∧g=b)∨∃i v,r=2+i∧vals[i]? =some v∧blk v=some g:=by
   intro r z hz hoz g hg
   rcases hres hz with⟨rfl,rfl⟩|⟨rfl,rfl⟩|⟨i,rfl,hi,hz2⟩|⟨i,rfl,hz2⟩
   ·cases hoz
   ·rw[h1] at hg;cases hg;exact .inl ⟨rfl,rfl⟩
   ·obtain⟨v,v1,_⟩:=hown i z hz2
    rw[hρv i v v1] at hg
    exact .inr ⟨i,v,rfl,v1,hg⟩
   ·rw[(a4 z (List.mem_of_getElem? hz2)).1] at hoz;cases hoz
  rcases get hz hoz g hg with⟨r1,g1⟩|⟨i,v,r1,v1,v2⟩<;>rcases get hz' hoz' g hg' with⟨r2,g2⟩|⟨j,u,r2,u1,u2⟩
  ·exact hne (r1.trans r2.symm)
  ·exact hv u (List.mem_of_getElem? u1) (g1▸u2)
  ·exact hv v (List.mem_of_getElem? v1) (g2▸v2)
  ·have hij:i≠j:=fun e=>hne (by rw[r1,r2,e])
   have hp:=List.pairwise_iff_getElem.1 ho.apart
   obtain⟨l1,e1⟩:=List.getElem?_eq_some_iff.1 v1
   obtain⟨l2,e2⟩:=List.getElem?_eq_some_iff.1 u1
   rcases Nat.lt_or_gt_of_ne hij with hlt|hlt
   ·exact hp i j l1 l2 hlt g (by rw[e1];exact v2) (by rw[e2];exact u2)
   ·exact hp j i l2 l1 hlt g (by rw[e2];exact u2) (by rw[e1];exact v2)
 ·intro i hi
  rw[hnx] at hi
  match i,hi with
  |0,_=>rw[h0];rfl
  |1,_=>rw[h1];rfl
  | i + 2, hi =>
   by_cases hlt:i<L
   ·have hz:i<((Jo (enc c.s x) 2).2.map Yr).length:=by rw[List.length_map,←hL];exact hlt
    obtain⟨v,v1,v2,_⟩:=hown i _ (List.getElem?_eq_getElem hz)
    have:=hρv i v v1
    rw[Nat.add_comm] at this
    rw[this];exact v2
   ·have hlt':i-L<av.length:=by rw[a1];omega
    have:=hρa (i-L) _ (List.getElem?_eq_getElem hlt')
    rw[show 2+L+(i-L)=i+2 by omega] at this
    rw[this]
    exact a2 _ (List.getElem_mem hlt')
theorem Ks [Dr] {P:Program} {Γ:Gam} {f:FuncId} {fn:Func} {c:Yb} {lib:FuncId→Option Func} (hm:P.follows .mixedOrders=true) (hΓ:Vb P Γ) (hf:P.funcs[f]? =some fn) (hs:Jtt fn c=true)
  (hl:∀f fn,lib f=some fn→P.funcs[f]? =some fn) (ann:c.s.T→ATup c.args→Nat→Option Ann) (annF:c.s.T→ATup c.args→FuncId→Nat→Option Ann) (h:∀(T:TypeId) (x:c.s.T) (y:ATup c.args),(∀T0,c.T? =some T0→T=T0)→wpFO P Γ (ann x y) (annF x y) lib fn c T x y):OkO P f c:=by
 unfold Jtt at hs
 cases hb:fn.body with
 |none=>rw[hb] at hs;cases hs
 | some code =>
  rw[hb] at hs
  simp only[Bool.and_eq_true,Bool.not_eq_true',Nat.ble_eq] at hs
  obtain⟨⟨⟨hd,hN⟩,hname⟩,hnl⟩:=hs
  refine⟨⟨fn,hf,by rw[hb];rfl,hname⟩,fun x y M R B w b T cells vals vs hB hMR hgood hbw hBb hMb hRb hT ho hv hpre hargs=> ?_⟩
  have hx:=h T x y hT
  unfold wpFO at hx
  rw[hb] at hx
  have hw:=Jfg hx hpre
  obtain⟨R0,hR0⟩:∃R0:Nat→Prop,R0=fun g=>g<w.heap.size∧¬Zy b vals g:=⟨_,rfl⟩
  have hOb:∀(i:Nat) (z:Res),((Jo (enc c.s x) 0).2.map Yr)[i]? =some z→∀v:Value,vals[i]? =some v→∀g,blk v=some g→¬M g∧¬R g∧B≤g:=by
   intro i z hz v hv' g hg
   obtain⟨v',v1,_,T',s',xs,flat,rfl,v4,v5,v6⟩:=ho.own i z hz
   rw[hv'] at v1;cases v1
   rcases v5.2 with⟨e,_⟩|⟨g',cap,cur,e,hBg,_⟩
   ·rw[e] at hg;cases hg
   ·rw[e] at hg;cases hg
    have:=v6 g' (by rw[e];rfl)
    exact⟨this.1,this.2,hBg⟩
  have hOv:∀u∈vals,∀g,blk u=some g→¬M g∧¬R g∧B≤g:=by
   intro u hu g hg
   obtain⟨i,hi⟩:=List.getElem?_of_mem hu
   have hlt:i<((Jo (enc c.s x) 0).2.map Yr).length:=by rw[List.length_map,←ho.len];exact(List.getElem?_eq_some_iff.1 hi).1
   exact hOb i _ (List.getElem?_eq_getElem hlt) u hi g hg
  have hRR:∀g,R g→R0 g:=fun g hg=>by
   rw[hR0]
   refine⟨hMR g (.inr hg), ?_⟩
   rintro(rfl|⟨u,hu,hgu⟩)
   ·exact hRb hg
   ·exact(hOv u hu g hgu).2.1 hg
  have ho0:Jjl M R0 B w c.s x cells vals:=⟨ho.len,ho.cells,fun i z hz=>by
   obtain⟨v,v1,v2,T',s',xs,flat,rfl,v4,v5,v6⟩:=ho.own i z hz
   refine⟨v,v1,v2,T',s',xs,flat,rfl,v4,v5,fun g hg=>⟨(v6 g hg).1,fun h=> ?_⟩⟩
   rw[hR0] at h
   exact h.2 (.inr ⟨v,List.mem_of_getElem? v1,Jh hg⟩),ho.apart⟩
  have hRb0:¬R0 b:=fun h=>by rw[hR0] at h;exact h.2 (.inl rfl)
  have hM0:∀g,M g∨R0 g→g<w.heap.size:=fun g hg=>hg.elim (fun h=>hMR g (.inl h)) fun h=>by rw[hR0] at h;exact h.1
  refine Yo.1 (callsIn_of_wp_marks (F:=FR none) (n:=0) hf hb trivial (Vg (rd:=none) (N:=fn.ntmps) (B:=B) (w0:=⟨w,M,fun id=>if id=0 then some (.vals fun _=> .pointer (some ⟨b,0,none⟩)) else none,true⟩) (R:=R0) hm hΓ (Jd7 hm hΓ hl 5) code hd ⟨fun _=>rfl,fun y hy=>by cases hy⟩ (.inr ⟨rfl,rfl,Jkl hm hΓ (Jd7 hm hΓ hl 5) hl⟩) hw (fun e st' a' w' he hs'=> ?_) _ w
   (Jo7 hB hM0 hgood hbw hBb hMb hRb0 ho0 hv (hargs.keep (fun _ h=>h) hRR fun _ _=>rfl) hN)))
  have key:((st'.rs.all fun p=>p.2.soft)=true∧J72 P fn c T x y st')→LeavesInM (FR none) 0 P fn a'.tmps (fun e w'=>∃M' cells' vals' us,e= .returned (Jrh us)∧X8 M' w' 0 c.ress [] (c.spec x y) us∧Below B w w'∧(∀g,M g→M' g)∧(∀g,M' g→g<w'.heap.size)∧
   (∀g,M' g→M g∨(B≤g∧(Zy b vals g∨w.heap.size≤g)))∧(∀g,g<w.heap.size→¬Zy b vals g→w'.heap[g]? =w.heap[g]?)∧(∀g,M g→w'.heap[g]? =w.heap[g]?)∧
   w'.heap[b]? =some (.cells cells'.toArray T (0,0))∧¬M' b∧Jjl M' R B w' c.s (c.post x y) cells' vals'∧(∀u∈vals',blk u≠some b)∧(∀g,Zy b vals' g→Zy b vals g∨w.heap.size≤g)) a'.defers .returning w':=by
   rintro⟨hsoft,hr⟩
   obtain⟨ρ,M',al,_,C⟩:=hs'
   obtain⟨w2,M2,C2,hleave⟩:=Zh C (fun r x hx=>List.all_eq_true.1 hsoft _ (Jq hx)) (fun g hg=>hMR g (.inl hg))
   refine hleave fn _ ?_
   unfold J72 at hr
   split at hr
   case h_2=>exact hr.elim
   rename_i rv i hrv hsus
   split at hr
   case h_2=>exact hr.elim
   rename_i T' cs r hbox hy
   split at hr
   case h_2=>exact hr.elim
   rename_i x' hx'
   split at hr
   case isFalse=>exact hr.elim
   rename_i hob
   obtain⟨hT',hpost,hspec⟩:T'=T∧x'=c.post x y∧Kq (Jlu c.ress r (c.spec x y)):=by
    have h1:=(Y8 _ _).1 hr
    have h2:=(Y8 _ _).1 h1.2
    exact⟨h1.1,h2.1,h2.2⟩
   have e:=Jah hspec
   subst e;subst hT';subst hpost
   obtain⟨bb,k1,k2,k3,k4,k5⟩:=C2.res i _ hbox
   obtain⟨TT,t1,t2⟩:=C2.resA 0 _ hsus
   have t1':some (Jrf.vals fun _=>Value.pointer (some ⟨b,0,none⟩))=some (Jrf.vals TT):=t1
   cases t1'
   have hptr:=t2 (0, .v false [.ptr i 0]) (by simp)
   have e1:(SV.v false [SC.ptr i 0]).den ρ= .pointer (some ⟨bb,0,none⟩):=by simp[SV.den,valOf,SC.den,k1]
   rw[e1] at hptr
   replace hptr:Value.pointer (some ⟨b,0,none⟩)=Value.pointer (some ⟨bb,0,none⟩):=hptr
   obtain rfl:b=bb:=by cases hptr;rfl
   obtain⟨vals',O,hvals⟩:=Jan (P:=P) (ρ:=ρ) (M:=M2) (R:=R0) (B:=B) (w:=w2) (rs:=look st'.rs) (fun i T s xs h=>C2.res i _ h) (fun i j x y hne h h'=>C2.apart i j x y hne h h') hx' hob.1 (Zn hob.2)
   have hress:=Jdt P (M:=M2) (w:=w2) (ρ:=ρ) hy hnl
   have hown:∀v∈vals',∀g,blk v=some g→(B≤g∧¬R0 g)∧g≠b:=fun v hv' g hg=>by
    rcases hvals v hv' with rfl|⟨j,T,s,xs,j1,j2,rfl⟩
    ·cases hg
    ·have:=C2.notM j2 rfl hg
     refine⟨⟨this.2.2.1,this.2.1⟩,fun e=> ?_⟩
     have hne:j≠i:=by rintro rfl;rw[hbox] at j2;cases j2
     exact C2.apart j i _ _ hne j2 hbox rfl rfl g hg (by rw[k1,e];rfl)
   refine⟨_,Yz C2 hrv,M2,cs.map (SC.den ρ),vals',_,rfl,hress,C2.below,fun g hg=>(C2.up g).2 hg,fun g hg=>C2.old g (.inl hg),fun g hg=> ?_,fun g hg hn=>C2.stayR g (by rw[hR0];exact⟨hg,hn⟩),fun g hg=>C2.stay g hg,k2,k3,⟨O.len,O.cells,fun i z hz=> ?_,O.apart⟩,fun u hu hg=>(hown u hu _ hg).2 rfl, ?_⟩
   ·rcases(C2.up g).1 hg with h|⟨h1,h2⟩
    ·exact .inl h
    ·refine .inr ⟨h1, ?_⟩
     rw[hR0] at h2
     by_cases hlt:g<w.heap.size
     ·exact .inl (Classical.not_not.1 fun hn=>h2 ⟨hlt,hn⟩)
     ·exact .inr (Nat.le_of_not_lt hlt)
   ·obtain⟨v,v1,v2,T',s',xs,flat,rfl,v4,v5,v6⟩:=O.own i z hz
    exact⟨v,v1,v2,T',s',xs,flat,rfl,v4,v5,fun g hg=>⟨(v6 g hg).1,fun h=>(v6 g hg).2 (hRR g h)⟩⟩
   ·rintro g (rfl|⟨u,hu,hg⟩)
    ·exact .inl (.inl rfl)
    ·have h2:=(hown u hu g hg).1.2
     rw[hR0] at h2
     by_cases hlt:g<w.heap.size
     ·exact .inl (Classical.not_not.1 fun hn=>h2 ⟨hlt,hn⟩)
     ·exact .inr (Nat.le_of_not_lt hlt)
  cases e with
  |normal=>exact key he
  |exit i=>exact he.elim
  |ret=>exact key he
def Jpc (rs:Nat→Option Res) (id:Nat):Option Res:=match rs id with
 |some (.box _ _)=>none
 |x=>x
def okT (T? :Option TypeId) (T:TypeId):Bool:=match T? with
 |some T0=>Nat.beq T T0
 |none=>true
def J9k (c : Yb) (rs : Nat → Option Res) (n : Nat) (args : List SV) : Option Out := match args with
 | .v false [.ptr i 0] :: l => match rs i with
  | some (.box T cs) => match dec rs c.s cs, F5 (Jpc rs) c.args l with
   | some x, some y =>
    if(Jsa rs c.s cs&&Xj (Js cs)&& !(hasList c.ress)&&okT c.T? T&&l.all (fun v=>v.ids.all fun id=> !((Js cs).contains id)&& !(Nat.beq id i)))=true then
     let r:=Jo (enc c.s (c.post x y)) n
     some ⟨c.pre x y,Xt (Jg (Jj c.ress (c.spec x y)) [] n).1,r.2.map Yr,((i,some (.box T r.1))::(Js cs).map fun j=>(j,none))++Vi rs [] l⟩
    else none
   |_,_=>none
  |_=>none
 |_=>none
def Yb.con (c:Yb):Con:={args:=[],ress:=[],owns:=[],pre:=fun _=>[False],spec:=fun _=>(),prim:=some (J9k c)}
theorem Jg8 {α:Type}:∀(l l':List (Nat×α)) (i:Nat),look (l++l') i=match look l i with|some x=>some x|none=>look l' i
 |[],_,_=>rfl
 |(j,v)::l,l',i=>by
  simp only[List.cons_append,look]
  by_cases e:j=i
  ·simp[e]
  ·rw[if_neg e,if_neg e];exact Jg8 l l' i
theorem Jg7:∀{l:List Nat} {i:Nat},look (l.map fun j=>(j,(none:Option Res))) i=if i∈l then some none else none
 |[],_=>rfl
 | j :: l, i => by
  simp only[List.map_cons,look]
  by_cases e:j=i
  ·subst e;simp
  ·rw[if_neg e,Jg7]
   have:i≠j:=fun h=>e h.symm
   simp[this]
theorem Hv {rs:Nat→Option Res}:∀{cs:List SC} {i:Nat} {y:Option Res},(i,y)∈freeze rs cs→i∈Js cs
 |[],_,_,h=>by simp[Sx.freeze] at h
 | c :: r, i, y, h => by
  cases c with
  | sl j =>
   simp only[Sx.freeze] at h
   simp only[Js,List.flatMap_cons,SC.ids,List.mem_append,List.mem_singleton]
   split at h
   ·rcases List.mem_cons.1 h with h|h
    ·cases h;exact .inl rfl
    ·exact .inr (Hv h)
   ·exact .inr (Hv h)
  |_=>
   simp only[Js,List.flatMap_cons,List.mem_append]
   exact .inr (Hv (cs:=r) h)
theorem Jd0:∀(vs:List SV),H7 [] vs=vs
 |[]=>rfl
 |_::_=>rfl
theorem Jl1 {rs:Nat→Option Res} {l:List SV} {i:Nat} (h:look (Vi rs [] l) i≠none):∃v∈l,i∈v.ids:=by
 obtain⟨y,hy⟩:=Option.ne_none_iff_exists'.1 h
 obtain⟨v,hv,hm⟩:=List.mem_flatMap.1 (Jq hy)
 rw[Jd0] at hv
 cases v with
 |tup _=>simp at hm
 |v g cs=>exact⟨_,hv,Hv hm⟩
theorem Jl3 [Dr] {P:Program} {f:FuncId} {c:Yb} (hO:OkO P f c):Jhw P f (J9k c):=by
 intro N B w0 al τ σ a w ρ M R n d rs args out C hd hrs hop hpre hfresh
 obtain⟨_,hO⟩:=hO
 unfold J9k at hop
 split at hop
 case h_2=>cases hop
 rename_i i l
 split at hop
 case h_2=>cases hop
 rename_i T cs hbox
 split at hop
 case h_2=>cases hop
 rename_i x y hx hy
 split at hop
 case isFalse=>cases hop
 rename_i hc
 cases hop
 simp only[Bool.and_eq_true,Bool.not_eq_true',List.all_eq_true] at hc
 obtain⟨⟨⟨⟨hob,hdist⟩,hnl⟩,hT⟩,hids⟩:=hc
 have hidl:∀v∈l,∀id∈v.ids,id∉Js cs∧id≠i:=fun v hv id hid=>by
  have:=hids v hv id hid
  refine⟨fun h=> ?_,fun e=> ?_⟩
  ·have h1:=this.1
   simp[h] at h1
  ·have h2:=this.2
   rw[e] at h2
   simp at h2
 simp only[List.length_map] at hfresh
 have hσi:σ i=some (.box T cs):=hrs _ _ hbox
 obtain⟨b,b1,b2,b3,b4,b5⟩:=C.res i _ hσi
 have hUok:∀j y,look (Vi rs [] l) j=some y→∃T s xs,σ j=some (.own T s xs)∧y=some (.imm T s xs):=fun j y h=>by
  obtain⟨T,s,xs,h1,h2⟩:=Ja8 h
  exact⟨T,s,xs,hrs _ _ h1,h2⟩
 have hUno:∀j,j∈Js cs∨j=i→look (Vi rs [] l) j=none:=fun j hj=>by
  cases h:look (Vi rs [] l) j with
  |none=>rfl
  |some z=>
   obtain⟨v,hv,hid⟩:=Jl1 (by rw[h];simp:look (Vi rs [] l) j≠none)
   have:=hidl v hv j hid
   exact absurd hj (fun h=>h.elim this.1 this.2)
 have C1:=C.freeze n hUok
 obtain⟨M1,hM1⟩:∃M1:Nat→Prop,M1=fun b=>M b∨∃i y T s xs,look (Vi rs [] l) i=some y∧σ i=some (.own T s xs)∧(ρ i).ownBlock=some b:=⟨_,rfl⟩
 rw[←hM1] at C1
 have hσ1:∀j,j∈Js cs∨j=i→Kg σ n [] (Vi rs [] l) j=σ j:=fun j hj=>by
  unfold Kg
  rw[if_neg (by simp<;>omega),hUno j hj]
 have hσ1i:=(hσ1 i (.inr rfl)).trans hσi
 obtain⟨vals,O,hvals⟩:=Jan (P:=P) (ρ:=ρ) (M:=M) (R:=R) (B:=B) (w:=w) (rs:=rs) (fun i T s xs h=>C.res i _ (hrs _ _ h)) (fun i j x y hne h h'=>C.apart i j x y hne (hrs _ _ h) (hrs _ _ h')) hx hob (Zn hdist)
 have hvj:∀v∈vals,∀g,blk v=some g→∃j T s xs,j∈Js cs∧σ j=some (.own T s xs)∧Kg σ n [] (Vi rs [] l) j=some (.own T s xs)∧blk (ρ j)=some g:=fun v hv g hg=>by
  rcases hvals v hv with rfl|⟨j,T,s,xs,j1,j2,rfl⟩
  ·cases hg
  ·exact⟨j,T,s,xs,j1,hrs _ _ j2,(hσ1 j (.inl j1)).trans (hrs _ _ j2),hg⟩
 have hvM:∀v∈vals,∀g,blk v=some g→¬M1 g∧¬R g∧B≤g∧g<w.heap.size∧g≠b:=fun v hv g hg=>by
  obtain⟨j,T',s,xs,_,j2,j3,j4⟩:=hvj v hv g hg
  have h1:=C1.notM j3 rfl j4
  refine⟨h1.1,h1.2.1,h1.2.2.1,h1.2.2.2,fun e=> ?_⟩
  have hne:j≠i:=by rintro rfl;rw[hσi] at j2;cases j2
  exact C.apart j i _ _ hne j2 hσi rfl rfl g j4 (by rw[b1,e];rfl)
 have hMM:∀g,M g→M1 g:=fun g h=>by rw[hM1];exact .inl h
 have O1:Jjl M1 R B w c.s x (cs.map (SC.den ρ)) vals:=⟨O.len,O.cells,fun k z hz=>by
  obtain⟨v,v1,v2,T',s',xs,flat,rfl,v4,v5,v6⟩:=O.own k z hz
  exact⟨v,v1,v2,T',s',xs,flat,rfl,v4.imp fun _ _ h=>h.keep fun b hb=>⟨hMM b hb,rfl⟩,v5,fun g hg=>⟨(hvM v (List.mem_of_getElem? v1) g (Jh hg)).1,(v6 g hg).2⟩⟩,O.apart⟩
 obtain⟨bb,c1,c2,c3,c4,c5⟩:=C1.res i _ hσ1i
 obtain rfl:b=bb:=by rw[b1] at c1;cases c1;rfl
 have V:Jq7 P ρ B M R w (Jpc rs) M1 R (fun i=>∀T s xs,rs i=some (.own T s xs)→(look (Vi rs [] l) i).isSome=true):=by
  have hh:∀j z,Jpc rs j=some z→rs j=some z∧∀T cs,z≠ .box T cs:=fun j z h=>by
   unfold Jpc at h
   split at h
   ·cases h
   ·rename_i hnb
    exact⟨h,fun T cs e=>hnb T cs (by rw[h,e])⟩
  refine⟨fun j z h=>C.res j z (hrs _ _ (hh j z h).1),hMM,fun _ h=>h,fun j T s xs g hF hr hg=> ?_,fun j T cs b hr hb=>((hh j _ hr).2 T cs rfl).elim,C1.old⟩
  have hr':=(hh j _ hr).1
  obtain⟨z,hz⟩:=Option.isSome_iff_exists.1 (hF T s xs hr')
  rw[hM1]
  exact .inr ⟨j,z,T,s,xs,hz,hrs _ _ hr',hg⟩
 have hargs:Vp P M1 R w c.args y (l.map (SV.den ρ)):=Jco V hy fun v hv=>by
  cases v with
  |tup _=>trivial
  | v g cs' =>
   refine⟨fun j hj T s xs hr=> ?_,fun j off T cs'' hj hr=> ?_⟩
   ·refine Ko (f:=fun v:SV=>match v with
     | .v _ cs=>freeze rs cs
     |_=>[]) (b:= .v g cs') (by rw[Jd0];exact hv) ?_
    exact Uu hj hr
   ·unfold Jpc at hr
    split at hr
    ·cases hr
    ·rename_i hnb
     exact(hnb T cs'' hr).elim
 have hcalls:=hO x y M1 R B w b T (cs.map (SC.den ρ)) vals (l.map (SV.den ρ)) C.base C1.old (fun w' h=>C.good w' (C.below.trans h)) b2 b5 c3 b4 (fun T0 h0=>by
  unfold okT at hT
  rw[h0] at hT
  simpa[Nat.beq_eq] using hT) O1 (fun u hu hb=>(hvM u hu b hb).2.2.2.2 rfl) hpre hargs
 have e0:(SV.v false [SC.ptr i 0]).den ρ= .pointer (some ⟨b,0,none⟩):=by simp[SV.den,valOf,SC.den,b1]
 refine⟨_,(by rw[List.map_cons,e0];exact hcalls), ?_⟩
 ·rintro e w' ⟨M',cells',vals',us,rfl,hress,hbel,hsub,hlt,hup,hfr,hstay,hb',hMb',O',hvb',hblk'⟩
  obtain⟨vs0,r1,r2,_,r4,_⟩:=Ja9 (n:=n) hress (by cases c.ress<;>rfl)
  have hnil:=Hq (c.spec x y) [] n hnl
  rw[hnil] at r1 r4
  have hv0:vs0=[]:=List.eq_nil_of_length_eq_zero r1
  subst hv0
  have e1:=r2 (Jx ρ n vals') (fun i u hu=>by simp at hu)
  have hlen:vals'.length=(Jo (enc c.s (c.post x y)) n).2.length:=by rw[O'.len,Yh _ 0 n]
  have hnO:∀g,Zy b vals g→¬R g∧B≤g∧g<w.heap.size:=by
   rintro g (rfl|⟨u,hu,hg⟩)
   ·exact⟨b4,b5,(Array.getElem?_eq_some_iff.1 b2).1⟩
   ·exact⟨(hvM u hu g hg).2.1,(hvM u hu g hg).2.2.1,(hvM u hu g hg).2.2.2.1⟩
  have hother:∀r z,r≠i→r∉Js cs→Kg σ n [] (Vi rs [] l) r=some z→z.owning=true→∀g,blk (ρ r)=some g→¬Zy b vals g∧g<w.heap.size∧¬M1 g:=by
   intro r z hri hrc hz hoz g hg
   have h1:=C1.notM hz hoz hg
   refine⟨?_,h1.2.2.2,h1.1⟩
   rintro(rfl|⟨u,hu,hgu⟩)
   ·exact C1.apart r i _ _ hri hz hσ1i hoz rfl g hg (by rw[b1];rfl)
   ·obtain⟨j,T',s,xs,j1,_,j3,j4⟩:=hvj u hu g hgu
    exact C1.apart r j _ _ (fun e=>hrc (e▸j1)) hz j3 hoz rfl g hg j4
  have hupd2:∀r,look ((i,some (Res.box T (Jo (enc c.s (c.post x y)) n).1))::(Js cs).map fun j=>(j,(none:Option Res))) r=if r=i then some (some (Res.box T (Jo (enc c.s (c.post x y)) n).1)) else if r∈Js cs then some none else none:=fun r=>by
   simp only[look]
   by_cases e:i=r
   ·rw[if_pos e,if_pos e.symm]
   ·rw[if_neg e,if_neg (fun h=>e h.symm),Jg7]
  have hnewv:∀r,n≤r∧r<n+(Jo (enc c.s (c.post x y)) n).2.length→∀z,((Jo (enc c.s (c.post x y)) n).2.map Yr)[r-n]? =some z→∃v,vals'[r-n]? =some v∧Jx ρ n vals' r=v∧Ki3 M' R B w' z v:=fun r hr z hz=>by
   rw[Yh _ n 0] at hz
   obtain⟨v,v1,v2⟩:=O'.own _ z hz
   have:=J8 (ρ:=ρ) (n:=n) v1
   rw[show n+(r-n)=r by omega] at this
   exact⟨v,v1,this,v2⟩
  have hal1:∀id,al id→Jx ρ n vals' id=ρ id:=fun id h=>Ju (by rw[hlen];exact hfresh id h)
  have hii:al i:=(C.resIds i _ hσi).1
  have key:=C1.step (d:=d) (n:=n) (news:=(Jo (enc c.s (c.post x y)) n).2.map Yr) (upd:=(i,some (.box T (Jo (enc c.s (c.post x y)) n).1))::(Js cs).map fun j=>(j,none)) (v:=Xt (Jg (Jj c.ress (c.spec x y)) [] n).1) (u:=Jrh us) (ρ':=Jx ρ n vals') (w':=w') (M':=M')
   hd (fun id h=>by rw[List.length_map];exact hfresh id h) (fun id h=>Ju (by rw[hlen];simpa using h)) (by rw[L9,←e1]) (fun id hid=>by
    obtain⟨p,hp,hid⟩:=L8 hid
    have:=r4 p hp id hid
    simp at this;omega) hbel hbel.size hsub hlt (fun g hg=>by
     rcases hg with hg|hg
     ·exact hstay g hg
     ·exact hfr g (C.old g (.inr hg)) fun h=>(hnO g h).1 hg)
   (fun r z _ hlk hz hoz g hg=>by
    rw[hupd2] at hlk
    have hri:r≠i:=fun e=>by rw[if_pos e] at hlk;cases hlk
    have hrc:r∉Js cs:=fun e=>by rw[if_neg hri,if_pos e] at hlk;cases hlk
    obtain⟨h1,h2,h3⟩:=hother r z hri hrc hz hoz g hg
    refine⟨hfr g h2 h1,fun h=> ?_⟩
    rcases hup g h with h|⟨_,h|h⟩
    ·exact h3 h
    ·exact h1 h
    ·omega)
   ?_ ?_ ?_ (fun g hg=>by
    rcases hup g hg with h|⟨h1,h|h⟩
    ·exact .inl h
    ·exact .inr ⟨h1,(hnO g h).1⟩
    ·refine .inr ⟨h1,fun hR=> ?_⟩
     have:=C.old g (.inr hR);omega)
  ·refine⟨_,Jx ρ n vals',M',rfl, ?_⟩
   have e:Kg (Kg σ n [] (Vi rs [] l)) n ((Jo (enc c.s (c.post x y)) n).2.map Yr) ((i,some (.box T (Jo (enc c.s (c.post x y)) n).1))::(Js cs).map fun j=>(j,none))=Kg σ n ((Jo (enc c.s (c.post x y)) n).2.map Yr) (((i,some (.box T (Jo (enc c.s (c.post x y)) n).1))::(Js cs).map fun j=>(j,none))++Vi rs [] l):=by
    funext id
    unfold Kg
    split
    ·rfl
    ·rw[Jg8]
     cases look ((i,some (Res.box T (Jo (enc c.s (c.post x y)) n).1))::(Js cs).map fun j=>(j,(none:Option Res))) id with
     |some z=>rfl
     |none=>simp only;rw[if_neg (by simp<;>omega)]
   rw[e] at key
   exact key
  ·rintro r z hz (h|h)
   ·rw[K8 h] at hz
    rw[List.length_map] at h
    obtain⟨v,v1,v2,v3,T',s',xs,flat,rfl,v4,v5,v6⟩:=hnewv r h z hz
    refine⟨⟨flat,v4,by rw[v2];exact v5,fun g hg=>v6 g (by rw[v2] at hg;exact hg)⟩, .inr (by rw[List.length_map];exact h),fun id hid=>by simp[Res.ids] at hid⟩
   ·rw[hupd2] at h
    by_cases hri:r=i
    ·subst hri
     have hnn:=hfresh r hii
     unfold Kg at hz
     rw[if_neg (by rw[List.length_map];exact hnn),hupd2,if_pos rfl] at hz
     cases hz
     refine⟨⟨b,(hal1 r hii).trans b1, ?_,hMb',b4,b5⟩, .inl hii,fun id hid=> .inr ?_⟩
     ·rw[hb',O'.cells n (Jx ρ n vals') fun i u hu=>J8 hu]
     ·rw[List.length_map]
      exact Jaq n id hid
    ·rw[if_neg hri] at h
     by_cases hrc:r∈Js cs
     ·have hnn:=hfresh r ((C.resIds i _ hσi).2 r hrc)
      unfold Kg at hz
      rw[if_neg (by rw[List.length_map];exact hnn),hupd2,if_neg hri,if_pos hrc] at hz
      cases hz
     ·rw[if_neg hrc] at h;exact(h rfl).elim
  ·intro id h
   rw[List.length_map] at h
   have hlt':id-n<((Jo (enc c.s (c.post x y)) n).2.map Yr).length:=by rw[List.length_map];omega
   obtain⟨v,v1,v2,v3,_⟩:=hnewv id h _ (List.getElem?_eq_getElem hlt')
   rw[v2];exact v3
  ·-- apart
   have get:∀{r z},Kg (Kg σ n [] (Vi rs [] l)) n ((Jo (enc c.s (c.post x y)) n).2.map Yr) ((i,some (.box T (Jo (enc c.s (c.post x y)) n).1))::(Js cs).map fun j=>(j,none)) r=some z→z.owning=true→∀g,blk (Jx ρ n vals' r)=some g→
     (∃k v,r=n+k∧vals'[k]? =some v∧blk v=some g)∨(r=i∧g=b)∨(r≠i∧Kg σ n [] (Vi rs [] l) r=some z∧blk (ρ r)=some g∧¬Zy b vals g∧g<w.heap.size):=by
    intro r z hz hoz g hg
    by_cases h:n≤r∧r<n+(Jo (enc c.s (c.post x y)) n).2.length
    ·rw[K8 (by rw[List.length_map];exact h)] at hz
     obtain⟨v,v1,v2,_⟩:=hnewv r h z hz
     rw[v2] at hg
     exact .inl ⟨r-n,v,by omega,v1,hg⟩
    ·unfold Kg at hz
     rw[if_neg (by rw[List.length_map];exact h),hupd2] at hz
     by_cases hri:r=i
     ·rw[hri,hal1 i hii,b1] at hg
      cases hg
      exact .inr (.inl ⟨hri,rfl⟩)
     ·rw[if_neg hri] at hz
      by_cases hrc:r∈Js cs
      ·rw[if_pos hrc] at hz;cases hz
      ·rw[if_neg hrc] at hz
       have hz':Kg σ n [] (Vi rs [] l) r=some z:=hz
       rw[hal1 r (C1.resIds r z hz').1] at hg
       have:=hother r z hri hrc hz' hoz g hg
       exact .inr (.inr ⟨hri,hz',hg,this.1,this.2.1⟩)
   intro r r' z z' hne hz hz' hoz hoz' _ g hg hg'
   rcases get hz hoz g hg with⟨k,v,k1,k2,k3⟩|⟨k1,k2⟩|⟨k1,k2,k3,k4,k5⟩<;>rcases get hz' hoz' g hg' with⟨m,u,m1,m2,m3⟩|⟨m1,m2⟩|⟨m1,m2,m3,m4,m5⟩
   ·have hkm:k≠m:=fun e=>hne (by rw[k1,m1,e])
    have hp:=List.pairwise_iff_getElem.1 O'.apart
    obtain⟨l1,e1⟩:=List.getElem?_eq_some_iff.1 k2
    obtain⟨l2,e2⟩:=List.getElem?_eq_some_iff.1 m2
    rcases Nat.lt_or_gt_of_ne hkm with hlt|hlt
    ·exact hp k m l1 l2 hlt g (by rw[e1];exact k3) (by rw[e2];exact m3)
    ·exact hp m k l2 l1 hlt g (by rw[e2];exact m3) (by rw[e1];exact k3)
   ·exact hvb' v (List.mem_of_getElem? k2) (m2▸k3)
   ·rcases hblk' g (.inr ⟨v,List.mem_of_getElem? k2,k3⟩) with h|h
    ·exact m4 h
    ·omega
   ·exact hvb' u (List.mem_of_getElem? m2) (k2▸m3)
   ·exact hne (k1.trans m1.symm)
   ·exact m4 (.inl k2)
   ·rcases hblk' g (.inr ⟨u,List.mem_of_getElem? m2,m3⟩) with h|h
    ·exact k4 h
    ·omega
   ·exact k4 (.inl m2)
   ·exact C1.apart r r' z z' hne k2 m2 hoz hoz' g k3 m3
theorem Ye [Dr] {P:Program} {f:FuncId} {c:Yb} (hO:OkO P f c):Ok P f c.con:=
 ⟨hO.1,fun z h=>(by cases h),fun F h=>(by cases h;exact Jl3 hO),fun _ x M R w vs _ _ h=>(h:False).elim⟩
structure Jmt where
 kT:TypeId
 gk:Bool
 gv:Bool
 ks:Sch
 vs:Sch
 l:List (ks.T×vs.T)
def OkM [Dr] (P:Program) (f:FuncId) (c:Jmt):Prop:=
 X9 P f∧∀(M R:Nat→Prop) (w:World),(∀b,M b∨R b→b<w.heap.size)→Jtn P w→
  Calls P f #[] w fun e w'=>∃M' u,e= .returned u∧Below w.heap.size w w'∧(∀b,M b→M' b)∧(∀b,M' b→M b∨(w.heap.size≤b∧b<w'.heap.size))∧
   Jcs P c.kT c.gk c.gv c.ks c.vs∧∃b es,u= .map (some b)∧w'.heap[b]? =some (.map es c.l.length)∧Jr M' w' c.gk c.gv c.ks c.vs c.l 0 es.toList∧¬M' b∧w.heap.size≤b
def J73 (P:Program) (fn:Func) (c:Jmt) (s:St):Prop:=
 match Ve P s fn.results.toList with
 |some [.v false [.sl i]]=>match look s.rs i with
  |some (.mp kT gk gv ks vs l)=>if h:(ks=c.ks∧vs=c.vs)∧kT=c.kT∧gk=c.gk∧gv=c.gv then Jpy h.1.1 h.1.2 l=c.l else False
  |_=>False
 |_=>False
@[irreducible] def wpFM (P:Program) (Γ:Gam) (ann:Nat→Option Ann) (annF:FuncId→Nat→Option Ann) (lib:FuncId→Option Func) (fn:Func) (c:Jmt):Prop:=
 match fn.body with
 |some code=>wpG P Γ ann (ilS P Γ annF lib 5) code none (itS P Γ annF (ilS P Γ annF lib 5) lib) ⟨0,[],[]⟩ fun e s=>match e with
  | .exit _=>False
  |_=>(s.rs.all fun p=>p.2.soft)=true∧J73 P fn c s
 |none=>False
def Jtu (fn:Func):Bool:=match fn.body with
 |some code=>U9 fn.ntmps code&& !(fn.name== "runtime.NumGoroutine")
 |none=>false
theorem Jog [Dr] {P:Program} {Γ:Gam} {f:FuncId} {fn:Func} {c:Jmt} {lib:FuncId→Option Func} (hm:P.follows .mixedOrders=true) (hΓ:Vb P Γ) (hf:P.funcs[f]? =some fn) (hs:Jtu fn=true)
  (hl:∀f fn,lib f=some fn→P.funcs[f]? =some fn) (ann:Nat→Option Ann) (annF:FuncId→Nat→Option Ann) (h:wpFM P Γ ann annF lib fn c):OkM P f c:=by
 unfold Jtu at hs
 cases hb:fn.body with
 |none=>rw[hb] at hs;cases hs
 | some code =>
  rw[hb] at hs
  simp only[Bool.and_eq_true,Bool.not_eq_true'] at hs
  obtain⟨hd,hname⟩:=hs
  refine⟨⟨fn,hf,by rw[hb];rfl,hname⟩,fun M R w hMR hgood=> ?_⟩
  unfold wpFM at h
  rw[hb] at h
  refine Yo.1 (callsIn_of_wp_marks (F:=FR none) (n:=0) hf hb trivial (Vg (rd:=none) (N:=fn.ntmps) (B:=w.heap.size) (w0:=⟨w,M,fun _=>none,true⟩) (R:=R) hm hΓ (Jd7 hm hΓ hl 5) code hd ⟨fun _=>rfl,fun y hy=>by cases hy⟩ (.inr ⟨rfl,rfl,Jkl hm hΓ (Jd7 hm hΓ hl 5) hl⟩) h (fun e st' a' w' he hs'=> ?_) _ w
   ⟨fun _=>undef,M,fun _=>False,fun id h=>h.elim,⟨by simp,⟨fun d hd=>by simp at hd, .nil⟩,fun _=>rfl,fun _ _=>rfl,fun _ _=>rfl,Below.refl _ _,Nat.le_refl _,fun t v ht=>(by cases ht),fun t v ht=>(by cases ht),fun r x hx=>(by cases hx),fun r x hx=>(by cases hx),fun r r' x x' _ hx=>(by cases hx),hMR,fun i h=>h.elim,fun b=>⟨fun h=> .inl h,fun h=>h⟩,hgood⟩⟩))
  have key:((st'.rs.all fun p=>p.2.soft)=true∧J73 P fn c st')→LeavesInM (FR none) 0 P fn a'.tmps (fun e w'=>∃M' u,e= .returned u∧Below w.heap.size w w'∧(∀b,M b→M' b)∧(∀b,M' b→M b∨(w.heap.size≤b∧b<w'.heap.size))∧
   Jcs P c.kT c.gk c.gv c.ks c.vs∧∃b es,u= .map (some b)∧w'.heap[b]? =some (.map es c.l.length)∧Jr M' w' c.gk c.gv c.ks c.vs c.l 0 es.toList∧¬M' b∧w.heap.size≤b) a'.defers .returning w':=by
   rintro⟨hsoft,hr⟩
   obtain⟨ρ,M',al,_,C⟩:=hs'
   obtain⟨w2,M2,C2,hleave⟩:=Zh C (fun r x hx=>List.all_eq_true.1 hsoft _ (Jq hx)) (fun g hg=>hMR g (.inl hg))
   refine hleave fn _ ?_
   unfold J73 at hr
   split at hr
   case h_2=>exact hr.elim
   rename_i i hrv
   split at hr
   case h_2=>exact hr.elim
   rename_i kT gk gv ks vs l hi
   split at hr
   case isFalse=>exact hr.elim
   rename_i hc
   obtain⟨ckT,cgk,cgv,cks,cvs,cl⟩:=c
   obtain⟨⟨e1,e2⟩,e3,e4,e5⟩:=hc
   dsimp only at e1 e2 e3 e4 e5
   subst e1;subst e2;subst e3;subst e4;subst e5
   have hr:l=cl:=hr
   subst hr
   obtain⟨h0,b,es,h1,h2,h3,h4,h5,h6⟩:=C2.res i _ hi
   refine⟨_,Yz C2 hrv,M2,_,rfl,C2.below,fun g hg=>(C2.up g).2 hg,fun g hg=> ?_,h0,b,es, ?_,h2,h3,h4,h6⟩
   ·rcases(C2.up g).1 hg with h|h
    ·exact .inl h
    ·exact .inr ⟨h.1,C2.old g (.inl hg)⟩
   ·show(SC.sl i).den ρ=_
    exact h1
  cases e with
  |normal=>exact key he
  |exit i=>exact he.elim
  |ret=>exact key he
def J9l (c:Jmt) (_:Nat→Option Res) (n:Nat) (args:List SV):Option Out:=match args with
 |[]=>some ⟨[], .one (.sl n),[.mp c.kT c.gk c.gv c.ks c.vs c.l],[]⟩
 |_=>none
def Jmt.con (c:Jmt):Con:={args:=[],ress:=[],owns:=[],pre:=fun _=>[False],spec:=fun _=>(),prim:=some (J9l c)}
theorem Jl4 [Dr] {P:Program} {f:FuncId} {c:Jmt} (hO:OkM P f c):Jhw P f (J9l c):=by
 intro N B w0 al τ σ a w ρ M R n d rs args out C hd hrs hop hpre hfresh
 obtain⟨_,hO⟩:=hO
 unfold J9l at hop
 split at hop
 case h_2=>cases hop
 cases hop
 refine⟨_,hO M R w C.old C.goodNow, ?_⟩
 rintro e w' ⟨M',u,rfl,hb,m1,m2,h0,b,es,rfl,h2,h3,h4,h6⟩
 have hold:∀b,b<w.heap.size→w'.heap[b]? =w.heap[b]? :=fun b h=>hb.block b h
 have en:Jx ρ n [Value.map (some b)] n= .map (some b):=J8 (i:=0) rfl
 have hRb:¬R b:=fun h=>by have:=C.old b (.inr h);omega
 refine⟨_,Jx ρ n [.map (some b)],M',rfl, ?_⟩
 refine C.step hd (fun id h=>hfresh id h) (fun id h=>Ju (by simpa using h)) (by show _=valOf false [Jx ρ n [Value.map (some b)] n];rw[en];rfl) (fun id hid=> ?_) (hb.mono C.base) hb.size m1 (fun g hg=> ?_) (fun g hg=>hold g (C.old g hg)) ?_ ?_ ?_ ?_ (fun g hg=>(m2 g hg).imp id fun h=>⟨Nat.le_trans C.base h.1,fun hR=>by have:=C.old g (.inr hR);omega⟩)
 ·have:id=n:=by simpa[SV.ids,Js,SC.ids] using hid
  exact .inr ⟨by omega,by simp;omega⟩
 ·rcases m2 g hg with h|h
  ·exact Nat.lt_of_lt_of_le (C.old g (.inl h)) hb.size
  ·exact h.2
 ·intro r x _ _ hx ho g hg
  obtain⟨h5,_,_,h6'⟩:=C.notM hx ho hg
  refine⟨hold g h6',fun h=> ?_⟩
  rcases m2 g h with h|h
  ·exact h5 h
  ·omega
 ·rintro r x hx (h|h)
  ·have er:r=n:=by simp at h;omega
   subst er
   rw[K8 h] at hx
   simp at hx
   subst hx
   exact⟨⟨h0,b,es,en,h2,h3,h4,hRb,Nat.le_trans C.base h6⟩, .inr h,fun id hid=>by simp[Res.ids] at hid⟩
  ·exact absurd rfl h
 ·intro id h
  have er:id=n:=by simp at h;omega
  subst er
  rw[en];rfl
 ·rintro r r' x x' hne hx hx' ho ho' (h|h) g hg hg'
  ·have er:r=n:=by simp at h;omega
   subst er
   rw[en] at hg
   cases hg
   unfold Kg at hx'
   rw[if_neg (by simp;omega)] at hx'
   simp only[look] at hx'
   rw[Ju (by simp;omega)] at hg'
   have:=(C.notM hx' ho' hg').2.2.2
   omega
  ·exact absurd rfl h
theorem Jzr [Dr] {P:Program} {f:FuncId} {c:Jmt} (hO:OkM P f c):Ok P f c.con:=
 ⟨hO.1,fun z h=>(by cases h),fun F h=>(by cases h;exact Jl4 hO),fun _ x M R w vs _ _ h=>(h:False).elim⟩
end Go.Sx
namespace Go.Sx
open Go.RowKit
structure J26 where
 T:TypeId
 s:Sch
 pre:ByteArray→List Prop
 post:ByteArray→s.T
def Jz4 (x:ByteArray):St:=⟨0,[(0, .one (.str x))],[]⟩
def Kkl (P:Program) (fn:Func) (c:J26) (x:ByteArray) (s:St):Prop:=
 match Ve P s fn.results.toList with
 | some [.v false [.ptr i 0], .v false [.int .i64 e]] => match look s.rs i with
  |some (.box T' cs)=>match dec (look s.rs) c.s cs with
   |some x'=>if Jsa (look s.rs) c.s cs=true∧Xj (Js cs)=true then Kq [T'=c.T,e=0,x'=c.post x] else False
   |none=>False
  |_=>False
 |_=>False
@[irreducible] def wpFN (P:Program) (Γ:Gam) (ann:Nat→Option Ann) (annF:FuncId→Nat→Option Ann) (lib:FuncId→Option Func) (fn:Func) (c:J26) (x:ByteArray):Prop:=
 match fn.body with
 |some code=>Jt6 (c.pre x)<|wpG P Γ ann (ilS P Γ annF lib 5) code none (itS P Γ annF (ilS P Γ annF lib 5) lib) (Jz4 x) fun e s=>match e with
  | .exit _=>False
  |_=>(s.rs.all fun p=>p.2.soft)=true∧Kkl P fn c x s
 |none=>False
def Kmj (c:J26) (_:Nat→Option Res) (n:Nat) (args:List SV):Option Out:=match args with
 |[.v false [.str x]]=>some ⟨c.pre x, .tup [(false,[.ptr n 0]),(false,[.int .i64 0])], .box c.T (Jo (enc c.s (c.post x)) (n+1)).1::(Jo (enc c.s (c.post x)) (n+1)).2.map Yr,[]⟩
 |_=>none
def J26.con (c:J26):Con:={args:=[],ress:=[],owns:=[],pre:=fun _=>[False],spec:=fun _=>(),prim:=some (Kmj c)}
end Go.Sx
namespace Go.Sx
open Go.RowKit
def Jhe (c:Con):Bool:=match c.ress,c.owns with
 |(false, .list _ s)::r,true::ow=> !s.hasList&&(!hasList r&&(U4 c.ress c.owns&&c.srt.isNone))
 |_,_=>false
def frP (c:Con) (rs:Nat→Option Res) (n:Nat) (args:List SV):Option Out:=match L2 [] rs c.args args with
 |some x=>let r:=Jg (Jj c.ress (c.spec x)) c.owns n;some ⟨c.pre x,Xt r.1,r.2,[]⟩
 |none=>none
def Con.fresh (c:Con):Con:={args:=[],ress:=[],owns:=[],pre:=fun _=>[False],spec:=fun _=>(),prim:=some (frP c)}
theorem Jmi {c:Con} (h:Jhe c=true) (y:Tup c.ress) (n:Nat):∀x∈(Jg (Jj c.ress y) c.owns n).2,∃T s xs,x=Res.own T s xs∧s.hasList=false:=by
 unfold Jhe at h
 split at h
 ·rename_i T s r ow e1 e2
  simp only[Bool.and_eq_true,Bool.not_eq_true'] at h
  revert y
  rw[e1,e2]
  intro y x hx
  have:x=Res.own T s y.1:=by
   simp only[Jj,Jg,Hq y.2 _ _ h.2.1,List.append_nil] at hx
   simpa[enc,Jo,Yr] using hx
  exact⟨T,s,_,this,h.1⟩
 ·cases h
section
variable {P:Program} {N B:Nat} {w0:U7} {al:Nat→Prop} {τ:Nat→Option SV} {σ:Nat→Option Res} {a:Act} {w:World} {ρ:Env} {M R:Nat→Prop} {n:Nat} {d:Option Tmp}
theorem Jn.returned_fresh [Dr] (C:Jn P N B w0 al τ σ a w ρ M R) (hd:∀t,d=some t→t<N) {Mc:Nat→Prop} (hMc:∀b,M b→Mc b) {ress:List (Bool×Sch)} {ow:List Bool} {y:Tup ress} {e:Ending} {w':World} (hp:Jjk Mc w ress ow y e w') (hfit:U4 ress ow=true)
  (hnl:∀x∈(Jg (Jj ress y) ow n).2,∃T s xs,x=Res.own T s xs∧s.hasList=false)
  (hfresh:∀id,al id→¬(n≤id∧id<n+(Jg (Jj ress y) ow n).2.length)):
  ∃u ρ',e= .returned u∧Jn P N B w0 (Yy al n (Jg (Jj ress y) ow n).2) (Yx τ d (Xt (Jg (Jj ress y) ow n).1)) (Kg σ n (Jg (Jj ress y) ow n).2 []) (a.put d u) w' ρ' M R:=by
 obtain⟨M',vs,rfl,hb,m1,m2,hr⟩:=hp
 obtain⟨vals,h1,h2,h3,h4,_,h6⟩:=Ja9 (n:=n) hr hfit
 have e1:=h2 (Jx ρ n vals) (fun i u hu=>J8 hu)
 refine⟨_,Jx ρ n vals,rfl, ?_⟩
 have hold:∀b,b<w.heap.size→w'.heap[b]? =w.heap[b]? :=fun b h=>hb.block b h
 have hval:∀r x,n≤r∧r<n+(Jg (Jj ress y) ow n).2.length→(Jg (Jj ress y) ow n).2[r-n]? =some x→∃v T s xs flat,Jx ρ n vals r=v∧v.oneCell'=true∧x= .own T s xs∧U6 (Rep M w' s) xs flat∧w'.ownsRow w.heap.size T s.size v (xs:List s.T).length flat∧∀g,v.ownBlock=some g→¬M g:=by
  intro r x h hx
  obtain⟨v,hv,hn1,hn2⟩:=h3 _ x hx
  have:=J8 (ρ:=ρ) (n:=n) hv
  rw[show n+(r-n)=r by omega] at this
  obtain⟨T,s,xs,rfl,hs⟩:=hnl x (List.mem_of_getElem? hx)
  rcases hn2 with⟨T',s',xs',e',hn⟩|⟨T',s',xs',flat,e',f1,f2,f3⟩
  ·cases e'
  ·cases e'
   exact⟨v,T,s,xs,flat,this,hn1,rfl,U6.imp (fun _ _ h=>Yj hs h) f1,f2,fun g hg hM=>f3 g hg (m1 g (hMc g hM))⟩
 refine C.step hd hfresh (fun id h=>Ju (by rw[h1];exact h)) (by rw[L9,←e1]) (fun id hid=> ?_) (hb.mono C.base) hb.size (fun _ h=>h) (fun b h=>Nat.lt_of_lt_of_le (C.old b (.inl h)) hb.size) (fun b h=>hold b (C.old b h)) ?_ ?_ ?_ ?_
 ·obtain⟨p,hp,hid⟩:=L8 hid
  exact .inr (h4 p hp id hid)
 ·intro r x _ _ hx ho b hb'
  obtain⟨h5,_,_,h6⟩:=C.notM hx ho hb'
  exact⟨hold b h6,h5⟩
 ·rintro r x hx (h|h)
  ·rw[K8 h] at hx
   obtain⟨v,T,s,xs,flat,e2,hn1,rfl,f1,f2,f3⟩:=hval r x h hx
   refine⟨?_, .inr h, ?_⟩
   ·refine⟨flat,f1, ?_,fun g hg=> ?_⟩
    ·rw[e2]
     refine⟨f2.1, ?_⟩
     rcases f2.2 with h|⟨g,cap,cur,h,hbg,rest⟩
     ·exact .inl h
     ·exact .inr ⟨g,cap,cur,h,Nat.le_trans C.base hbg,rest⟩
    ·rw[e2] at hg
     refine⟨f3 g hg,fun hR=> ?_⟩
     have h1:=C.old g (.inr hR)
     have h2:=(f2.lt g hg).1
     omega
   ·intro id hid
    simp[Res.ids] at hid
  ·exact absurd rfl h
 ·intro id h
  have hlt:id-n<(Jg (Jj ress y) ow n).2.length:=by omega
  obtain⟨v,_,_,_,_,e2,hn1,_⟩:=hval id _ h (List.getElem?_eq_getElem hlt)
  rw[e2];exact hn1
 ·rintro r r' x x' hne hx hx' ho ho' (h|h) b hb1 hb2
  ·rw[K8 h] at hx
   obtain⟨v,T,s,xs,flat,e2,hn1,rfl,f1,f2,f3⟩:=hval r x h hx
   have hbig:w.heap.size≤b:=by
    rw[e2] at hb1
    have:v.ownBlock=some b:=by
     rcases f2.2 with⟨h,_⟩|⟨g,cap,cur,h,_⟩
     ·rw[h] at hb1;cases hb1
     ·rw[h] at hb1⊢;cases hb1;rfl
    exact(f2.lt b this).1
   by_cases hr':n≤r'∧r'<n+(Jg (Jj ress y) ow n).2.length
   ·rw[K8 hr'] at hx'
    have:=h6 _ _ _ x' hx hx' ho ho'
    omega
   ·unfold Kg at hx'
    rw[if_neg hr'] at hx'
    simp only[look] at hx'
    have hal:=(C.resIds r' x' hx').1
    rw[Ju (by rw[h1];exact hr')] at hb2
    have:=(C.notM hx' ho' hb2).2.2.2
    omega
  ·exact absurd rfl h
end
theorem Jgw [Dr] {P:Program} {f:FuncId} {c:Con} (hc:Jhe c=true) (hO:Ok P f c):Jhw P f (frP c):=by
 intro N B w0 al τ σ a w ρ M R n d rs args out C hd hrs hop hpre hfresh
 have hff:U4 c.ress c.owns=true∧c.srt.isNone=true:=by
  unfold Jhe at hc
  split at hc
  ·rename_i T s r ow e1 e2
   simp only[Bool.and_eq_true] at hc
   exact hc.2.2
  ·cases hc
 obtain⟨_,_,_,hO⟩:=hO
 replace hO:=hO hff.2
 unfold frP at hop
 split at hop
 case h_2=>cases hop
 rename_i x hx
 cases hop
 have V:=C.viewAll hrs
 refine⟨_,hO x _ _ w _ V.size C.goodNow hpre (Hz (Vb.nil P) V hx fun v _=>⟨?_, ?_⟩),fun e w' hp=> ?_⟩
 ·cases v with
  |v g cs=>exact⟨fun _ _=>trivial,fun _ _ _ _ _ _ _ _=>trivial⟩
  |tup vs=>trivial
 ·cases v with
  |v g cs=>
   intro i f first caps _ _ u _
   cases u with
   |v g cs=>exact⟨fun _ _=>trivial,fun _ _ _ _ _ _ _ _=>trivial⟩
   |tup vs=>trivial
  |tup vs=>trivial
 ·obtain⟨u,ρ',e1,e2⟩:=C.returned_fresh (n:=n) hd (fun b h=> .inl h) hp hff.1 (Jmi hc _ n) hfresh
  exact⟨u,ρ',M,e1,e2⟩
theorem Jsc [Dr] {P:Program} {f:FuncId} {c:Con} (hc:Jhe c=true) (hO:Ok P f c):Ok P f c.fresh:=
 ⟨hO.1,fun z h=>(by cases h),fun F h=>(by cases h;exact Jgw hc hO),fun _ x M R w vs _ _ h=>(h:False).elim⟩
end Go.Sx
namespace Go.Sx
def Br (c:Bool) (p q:Prop):Prop:=(c=true→p)∧(c=false→q)
def Iw (x:Int):Prop:= -9223372036854775808≤x∧x≤9223372036854775807
def Bd (i n:Int):Prop:=0≤i∧i<n
def T2 (p r:Prop):Prop:=p∧p∧r
def Tw (p:Prop):Prop:=p∧p
def Sf {α:Sort _} (a:α) (r:Prop):Prop:=a=a∧r
def Si (a:Int) (r:Prop):Prop:=a=a∧r
def Ln {α:Type} (l:List α):Int:=(l.length:Int)
def Nc (n:Nat):Int:=(n:Int)
def Gt {α:Type} (l:List α) (i:Int) (d:α):α:=l.getD i.toNat d
def B0:ByteArray:=ByteArray.mk (Array.mk [])
def Lb (a b:ByteArray):Bool:=ByteArray.toList a==ByteArray.toList b
def E2 {α β:Type} (x:α×β):α×β:=(x.1,x.2)
abbrev Bt:=ByteArray
abbrev Ls:=List ByteArray
abbrev Li:=List Int
structure GW [Dr] (P:Program) where
 g:Gam
 ok:Vb P g
abbrev GW.add [Dr] {P:Program} (W:GW P) {f:FuncId} {c:Con} (h:Ok P f c):GW P:=⟨(f,c)::W.g, .cons h W.ok⟩
end Go.Sx
namespace Go.Sx
open Go.RowKit Go.ChangeShapes
def Wf:(s:Sch)→s.T→Prop
 | .int k,n=>(Lit.int k n).wf=true
 | .bool,_=>True
 | .str,b=>b.size≤maxLen
 | .flt _,_=>True
 | .fnc,_=>True
 | .prod a b,x=>Wf a x.1∧Wf b x.2
 | .list _ s,xs=>xs.length≤maxLen∧∀x∈xs,Wf s x
def Jhh (P:Program) (fit:TypeId→Sch→Bool):List (Nat×TypeId)→Nat→Sch→Bool
 |[],_,_=>false
 |[p],off,s=>Nat.beq p.1 off&&fit p.2 s&&Nat.beq (P.cellsOf p.2) s.size
 |p::ps,off, .prod a b=>Nat.beq p.1 off&&fit p.2 a&&Nat.beq (P.cellsOf p.2) a.size&&Jhh P fit ps (off+a.size) b
 |_,_,_=>false
def Jwe (P:Program):Nat→TypeId→Sch→Bool
 |0,_,_=>false
 |n+1,T,s=>match P.underlying T with
  |some .bool=>match s with| .bool=>true|_=>false
  |some (.int k)=>match s with| .int k'=>decide (k=k')|_=>false
  |some .string=>match s with| .str=>true|_=>false
  |some (.slice e)=>match s with| .list e' s'=>Nat.beq e e'&&Jwe P n e s'&&Nat.beq (P.cellsOf e) s'.size|_=>false
  |some (.struct fs)=>Nat.beq (P.cellsOf T) s.size&&Jhh P (Jwe P n) (fs.toList.map fun f=>(f.offset,f.type)) 0 s
  |some (.array k e)=>Nat.beq (P.cellsOf T) s.size&&Jhh P (Jwe P n) ((List.range k).map fun i=>(i*P.cellsOf e,e)) 0 s
  |_=>false
theorem Jwk {w:World} {b off:Nat} {u:Value} (h:w.cell? ⟨b,off,none⟩=some u):b<w.heap.size:=by
 unfold World.cell? at h
 split at h
 ·rename_i hb
  exact(Array.getElem?_eq_some_iff.1 hb).1
 ·cases h
theorem Sch.size_pos:∀s:Sch,0<s.size
 | .prod a b=>by have:=Sch.size_pos a;simp only[Sch.size];omega
 | .int _=>Nat.one_pos
 | .bool=>Nat.one_pos
 | .str=>Nat.one_pos
 | .flt _=>Nat.one_pos
 | .fnc=>Nat.one_pos
 | .list _ _=>Nat.one_pos
section
variable {H:Type} {enc:TypeId×Value→H} {P:Program} {w:World} {spare:Nat→Bool} {held:Bool}
theorem Jb5 {fit:TypeId→Sch→Bool} {fuel:Nat} (ih:∀(T:TypeId) (s:Sch) (cs:List Value) (x:DataW H×List MemPlace),fit T s=true→DataW.trod enc P w 0 spare held fuel T cs=some x→∃y:s.T,Rep (·<w.heap.size) w s y cs∧Wf s y):
  ∀(ps:List (Nat×TypeId)) (off:Nat) (s:Sch) (cs:List Value),Jhh P fit ps off s=true→cs.length=off+s.size→(∀p∈ps,∃x,DataW.trod enc P w 0 spare held fuel p.2 ((cs.drop p.1).take (P.cellsOf p.2))=some x)→
   ∃y:s.T,Rep (·<w.heap.size) w s y (cs.drop off)∧Wf s y
 |[],_,_,_,h,_,_=>by simp[Jhh] at h
 |[p],off,s,cs,h,hl,ht=>by
  simp only[Jhh,Bool.and_eq_true,Nat.beq_eq] at h
  obtain⟨⟨h1,h2⟩,h3⟩:=h
  obtain⟨x,hx⟩:=ht p (by simp)
  rw[h1,h3,List.take_of_length_le (by rw[List.length_drop];omega)] at hx
  exact ih _ _ _ _ h2 hx
 | p :: q :: ps, off, s, cs, h, hl, ht => by
  cases s with
  |prod a b=>
   simp only[Jhh,Bool.and_eq_true,Nat.beq_eq] at h
   obtain⟨⟨⟨h1,h2⟩,h3⟩,h4⟩:=h
   obtain⟨x,hx⟩:=ht p (by simp)
   rw[h1,h3] at hx
   obtain⟨y1,r1,w1⟩:=ih _ _ _ _ h2 hx
   obtain⟨y2,r2,w2⟩:=Jb5 ih (q::ps) (off+a.size) b cs h4 (by rw[hl];simp only[Sch.size];omega) (fun p' hp'=>ht p' (by simp[hp']))
   refine⟨(y1,y2),⟨_,_, ?_,r1,r2⟩,w1,w2⟩
   rw[←List.drop_drop,List.take_append_drop]
  |_=>simp[Jhh] at h
theorem Jpx {base:Nat} {a:Addr} {n:Nat} {cs:List Value} (h:w.cells? base a n=some cs):cs.length=n∧∀i,i<n→w.cell? (a.add i)=cs[i]? :=by
 unfold World.cells? at h
 split at h
 ·exact⟨by simpa using mapM_some_length h,fun i hi=>mapM_some_get h i i (by simp[hi])⟩
 ·cases h
theorem Jhu (a:Addr) (i j:Nat):(a.add i).add j=a.add (i+j):=by
 unfold Addr.add
 by_cases hi:i=0
 ·simp[hi]
 ·by_cases hj:j=0
  ·simp[hi,hj]
  ·have:¬i+j=0:=by omega
   simp[hi,hj,Nat.add_assoc]
theorem Jhl {e:TypeId} {s:Sch} {a:Addr} {f:List Value→Option (DataW H×List MemPlace)} (hs:P.cellsOf e=s.size)
  (ih:∀(cs:List Value) (x:DataW H×List MemPlace),f cs=some x→∃y:s.T,Rep (·<w.heap.size) w s y cs∧Wf s y):
  ∀(len i0:Nat),(∀i,i<len→∃x,(w.cells? 0 (a.add ((i0+i)*s.size)) s.size).bind f=some x)→
   ∃(ys:List s.T) (flat:List Value),U6 (Rep (·<w.heap.size) w s) ys flat∧ys.length=len∧(∀y∈ys,Wf s y)∧∀k u,flat[k]? =some u→w.cell? (a.add (i0*s.size+k))=some u
 |0,_,_=>⟨[],[],rfl,rfl,by simp,by simp⟩
 | len + 1, i0, h => by
  obtain⟨x,hx⟩:=h 0 (by omega)
  rw[Nat.add_zero] at hx
  obtain⟨cs,hc,hf⟩:=Option.bind_eq_some_iff.1 hx
  obtain⟨y,r1,w1⟩:=ih _ _ hf
  obtain⟨cl,cg⟩:=Jpx hc
  obtain⟨ys,flat,r2,l2,w2,g2⟩:=Jhl hs ih len (i0+1) (fun i hi=>by
   have:=h (i+1) (by omega)
   rwa[show i0+(i+1)=i0+1+i by omega] at this)
  refine⟨y::ys,cs++flat,⟨cs,flat,rfl,r1,r2⟩,by simp[l2], ?_,fun k u hk=> ?_⟩
  ·intro z hz
   rcases List.mem_cons.1 hz with rfl|hz
   ·exact w1
   ·exact w2 z hz
  ·rcases Nat.lt_or_ge k cs.length with hlt|hge
   ·rw[List.getElem?_append_left hlt] at hk
    have:=cg k (by omega)
    rw[Jhu] at this
    rw[this,hk]
   ·rw[List.getElem?_append_right hge] at hk
    have:=g2 _ _ hk
    rw[cl] at this hge
    rwa[Nat.succ_mul,show i0*s.size+s.size+(k-s.size)=i0*s.size+k by omega] at this
theorem Jai:∀(n fuel:Nat) (T:TypeId) (s:Sch) (cs:List Value) (x:DataW H×List MemPlace),Jwe P n T s=true→DataW.trod enc P w 0 spare held fuel T cs=some x→∃y:s.T,Rep (·<w.heap.size) w s y cs∧Wf s y
 |0,_,_,_,_,_,h,_=>by simp[Jwe] at h
 | n + 1, fuel, T, s, cs, x, h, ht => by
  unfold Jwe at h
  split at h
  ·rename_i hu
   cases s<;>simp at h
   obtain⟨b,rfl,_⟩:=DataW.trod_bool hu ht
   exact⟨b,rfl,trivial⟩
  ·rename_i k hu
   cases s<;>simp at h
   subst h
   obtain⟨b,rfl,_,hw⟩:=DataW.trod_int hu ht
   exact⟨b,rfl,hw⟩
  ·rename_i hu
   cases s<;>simp at h
   obtain⟨b,rfl,_,hw⟩:=DataW.trod_string hu ht
   exact⟨b,rfl,hw⟩
  ·rename_i e hu
   cases s<;>simp at h
   rename_i e' s'
   obtain⟨⟨rfl,h2⟩,h3⟩:=h
   rcases DataW.trod_slice hu ht with⟨rfl,_⟩|⟨a,len,cap,elems,rest,m,rfl,rfl,_,_,hlc,hcm,hel,hg,_,_⟩
   ·exact⟨[],⟨_,[],rfl,rfl, .inl ⟨.inl rfl,rfl⟩⟩,by simp[Wf]⟩
   ·rw [h3] at hg
    obtain⟨ys,flat,r,l,wf,g⟩:=Jhl (w:=w) (a:=a) h3 (fun cs x hx=>Jai n m e s' cs x h2 hx) len 0 (fun i hi=>by
     rw[Nat.zero_add,hg i hi]
     exact⟨_,List.getElem?_eq_getElem (by omega)⟩)
    refine⟨ys,⟨_,flat,rfl,r, ?_⟩,⟨by omega,wf⟩⟩
    cases flat with
    | nil =>
     have h0:=U6.length r
     have hp:=Sch.size_pos s'
     have:ys.length=0:=by
      rcases Nat.eq_zero_or_pos ys.length with h|h
      ·exact h
      ·have:=Nat.mul_pos h hp
       rw[←h0] at this
       simp at this
     refine .inl ⟨.inr ⟨a,cap, ?_⟩,this⟩
     rw[←l,this]
    | cons u fl =>
     obtain⟨b,off,spot⟩:=a
     have h0:=g 0 u rfl
     have hspot:spot=none:=by simpa[Addr.add] using World.cell?_spot h0
     subst hspot
     refine .inr ⟨b,off,cap,by rw[l],by omega,fun k u' hu'=> ?_,fun _=> ?_⟩
     ·have:=g k u' hu'
      rwa[Nat.zero_mul,Nat.zero_add,Go.WideShapes.add_plain] at this
     ·have h1:w.cell? ⟨b,off,none⟩=some u:=by simpa[Addr.add] using h0
      exact Jwk h1
  ·rename_i fs hu
   simp only[Bool.and_eq_true,Nat.beq_eq] at h
   obtain⟨xs,m,rfl,_,hl,hn,hg⟩:=DataW.trod_struct hu ht
   have:=Jb5 (fun T s cs x=>Jai n m T s cs x) _ 0 s cs h.2 (by omega) (fun p hp=>by
    obtain⟨f,hf,rfl⟩:=List.mem_map.1 hp
    obtain⟨i,hi⟩:=List.getElem?_of_mem hf
    have:=hg i f (by simpa using hi)
    rw[this]
    have hlt:i<xs.length:=by rw[hn];have:=(List.getElem?_eq_some_iff.1 hi).1;simpa using this
    exact⟨_,List.getElem?_eq_getElem hlt⟩)
   simpa using this
  ·rename_i k e hu
   simp only[Bool.and_eq_true,Nat.beq_eq] at h
   obtain⟨xs,m,rfl,_,hl,hn,hg⟩:=DataW.trod_array hu ht
   have:=Jb5 (fun T s cs x=>Jai n m T s cs x) _ 0 s cs h.2 (by omega) (fun p hp=>by
    obtain⟨i,hi,rfl⟩:=List.mem_map.1 hp
    have:=hg i (by simpa using hi)
    simp only at this⊢
    rw[this]
    have hlt:i<xs.length:=by rw[hn];simpa using hi
    exact⟨_,List.getElem?_eq_getElem hlt⟩)
   simpa using this
  ·cases h
end
def Lw (P:Program):List TypeId→List AK→Bool
 |[],[]=>true
 |t::ts, .val g s::ks=>Jwe P 20 t s&&(match Kp P t with|some g'=>g'==g|none=>false)&&Lw P ts ks
 |_,_=>false
def WfA:(ks:List AK)→ATup ks→Prop
 |[],_=>True
 | .val _ s::ks,x=>Wf s x.1∧WfA ks x.2
 |_::ks,x=>WfA ks x.2
theorem Jg0 {P:Program} {w:World} {r:Reach} {base:Nat} {t:TypeId} {v:Value} {g:Bool} (h:Value.okWide P w r base t v) (hg:Kp P t=some g):v=valOf g v.cells.toList:=by
 unfold Kp at hg
 unfold Value.okWide at h
 split at hg
 ·rename_i fs hu
  cases hg
  rw[hu] at h
  obtain⟨cs,rfl,_⟩:=h
  rfl
 ·rename_i k e hu
  cases hg
  rw[hu] at h
  obtain⟨cs,rfl,_⟩:=h
  rfl
 ·rename_i d hn1 hn2 hu
  cases hg
  have hna:∀cs,v≠ .agg cs:=by
   rintro cs rfl
   split at h
   ·rename_i fs hu'
    exact hn1 fs (Option.some.inj (hu.symm.trans hu'))
   ·rename_i k e hu'
    exact hn2 k e (Option.some.inj (hu.symm.trans hu'))
   ·unfold Cell.okWide at h
    split at h<;>simp_all [Cell.ok]
  cases v<;>first|rfl|exact absurd rfl (hna _)
 ·cases hg
section
variable {H:Type} {enc:TypeId×Value→H} {P:Program} {w:World} {spare:Nat→Bool} {held:Bool} {r:Reach} {base:Nat}
theorem Zb:∀{ts:List TypeId} {vs:List Value} {ds:List (DataW H)} {ps:List MemPlace},DataW.TrodAll enc P w 0 spare held ts vs ds ps→ds.length=ts.length
 |[],_,_,_,h=>by obtain⟨_,rfl,_⟩:=trodAll_nil h;rfl
 |t::ts,_,_,_,h=>by
  obtain⟨v,vs',d,ds',p,q,rfl,rfl,rfl,hd,hr⟩:=trodAll_cons h
  simp[Zb hr]
theorem Jk5 [Dr] {R:Nat→Prop}:∀{ts:List TypeId} {ks:List AK} {vs:List Value} {ds:List (DataW H)} {ps:List MemPlace},Lw P ts ks=true→DataW.TrodAll enc P w 0 spare held ts vs ds ps→
  (∀(j:Nat) t v,ts[j]? =some t→vs[j]? =some v→Value.okWide P w r base t v)→∃x:ATup ks,Vp P (·<w.heap.size) R w ks x vs∧WfA ks x
 |[],[],vs,ds,ps,_,h,_=>by
  obtain⟨rfl,_,_⟩:=trodAll_nil h
  exact⟨(),rfl,trivial⟩
 |[],_::_,_,_,_,hf,_,_=>by simp[Lw] at hf
 | t :: ts, k :: ks, vs, ds, ps, hf, h, hv => by
  obtain⟨v,vs',d,ds',p,q,rfl,rfl,rfl,hd,hr⟩:=trodAll_cons h
  cases k with
  | val g s =>
   simp only[Lw,Bool.and_eq_true] at hf
   obtain⟨⟨f1,f2⟩,f3⟩:=hf
   obtain⟨fuel,hd⟩:=hd
   obtain⟨y,r1,w1⟩:=Jai 20 fuel t s _ _ f1 hd
   obtain⟨x,a1,a2⟩:=Jk5 (R:=R) f3 hr (fun j t' v' h1 h2=>hv (j+1) t' v' h1 h2)
   have hg:Kp P t=some g:=by
    split at f2
    ·rename_i g' e
     rw[e,eq_of_beq f2]
    ·cases f2
   exact⟨(y,x),⟨v,vs',rfl,⟨_,Jg0 (hv 0 t v rfl rfl) hg,r1⟩,a1⟩,w1,a2⟩
  |_=>simp[Lw] at hf
 |_::_,[],_,_,_,hf,_,_=>by simp[Lw] at hf
theorem L4 [Dr] (hl:laidOutB P=true) {W W':World} (hb:Below W.heap.size W W') {sp:Nat→Bool}:∀{ts:List TypeId} {vs:List Value} {ds:List (DataW H)} {ps:List MemPlace},
  (ts.all fun t=>P.readableRec t&&decide (t<P.types.size))=true→DataW.TrodAll enc P W 0 (fun _=>true) true ts vs ds ps→(∀x∈ps,x.block<W.heap.size)→(∀x∈ps,sp x.block=true)→DataW.TrodAll enc P W' 0 sp true ts vs ds ps
 |[],vs,ds,ps,_,h,_,_=>by
  obtain⟨rfl,rfl,rfl⟩:=trodAll_nil h
  exact trodAll_mk0
 | t :: ts, vs, ds, ps, ht, h, hlt, hsp => by
  obtain⟨v,vs',d,ds',p,q,rfl,rfl,rfl,hd,hr⟩:=trodAll_cons h
  simp only[List.all_cons,Bool.and_eq_true,decide_eq_true_eq] at ht
  exact trodAll_cons_mk (WideElems.Trod_stays hl ht.1.1 ht.1.2 hd (fun x hx=>hb.kit.same (hlt x (by simp[hx]))) (fun x hx=>hsp x (by simp[hx])))
   (L4 hl hb ht.2 hr (fun x hx=>hlt x (by simp[hx])) fun x hx=>hsp x (by simp[hx]))
end
theorem Jfx [Dr] {W W':World} (hb:Below W.heap.size W W') (may:MemPlace→Prop):W.keptBut W' may:=by
 refine⟨hb.os,hb.output,fun i hi=> ?_⟩
 rw[hb.block i hi]
 cases h:W.heap[i]? with
 |none=>exact rfl
 |some o=>cases o<;>simp
theorem law_calls [Dr] {P:Program} {H:Type} {enc:TypeId×Value→H} {f:FuncId} {fn:Func} {s:ChangeSpec} {ks:List AK} {pre:ATup ks→List Prop} {tb:TypeId}
  (hok:Ok P f {args:=ks,ress:=[(false, .bool)],owns:=[],pre:=pre,spec:=fun _=>(true,())}) (hpre:∀x,WfA ks x→Kq (pre x))
  (hl:laidOutB P=true) (hfit:Lw P fn.params.toList ks=true) (hpt:(fn.params.toList.all fun t=>P.readableRec t&&decide (t<P.types.size))=true) (hrt:fn.resultTypes= #[tb]) (hub:P.underlying tb=some .bool)
  (hvars:s.vars=[]) (hs:∀ds:List (DataW H),ds.length=fn.params.toList.length→s.fn H ds={results:=[.lit (.bool true)],args:=ds})
  {W:World} {base:Nat} {args:Array Value} {ds gs:List (DataW H)} {before:List MemPlace} (htab:Tab P W)
  (hval:∀(j:Nat) t v,fn.params[j]? =some t→args[j]? =some v→Value.okWide P W .any base t v) (hW:DataW.Whole enc P fn.params.toList s.vars false W args.toList ds gs before):
  Calls P f args W fun e W'=>∃v,e= .returned v∧s.post enc P fn false true false false W args v W':=by
 have hW0:=hW
 have hlt:∀p∈before,p.block<W.heap.size:=fun p hp=>hW.lt p hp
 obtain⟨p,q,hA,hV,rfl,_,_⟩:=hW
 rw[hvars] at hV
 obtain⟨rfl,rfl⟩:=trodVars_none hV
 obtain⟨x,hx,hwf⟩:=Jk5 (R:=fun _=>False) hfit hA (fun j t v h1 h2=>hval j t v (by simpa using h1) (by simpa using h2))
 have hg:Jtn P W:=fun _ _=>trivial
 have hc:=hok.2.2.2 rfl x (·<W.heap.size) (fun _=>False) W args.toList (fun b hb=>hb.elim id False.elim) hg (hpre x hwf) hx
 rw[Array.toArray_toList] at hc
 refine hc.mono ?_
 rintro e W' ⟨M',vs,rfl,hb,_,_,hr⟩
 obtain⟨v,vs',rfl,⟨cs,rfl,hcs⟩,hr⟩:=hr
 have hr:vs'=[]:=hr
 have hcs:cs=[.bool true]:=hcs
 subst hr;subst hcs
 refine⟨_,rfl,ds,[],_,[],p,[],hW0, ?_, ?_, ?_,Jfx hb _,fun h=>by cases h⟩
 ·rw[List.append_nil,hs ds (Zb hA),hrt]
  exact trodAll_mk1 (shut_bool hub _)
 ·rw[List.append_nil,hs ds (Zb hA)]
  exact L4 hl hb hpt hA (fun x hx=>hlt x (by simp[hx])) (fun x hx=>decide_eq_true (hlt x (by simp[hx])))
 ·rw[List.append_nil,hs ds (Zb hA),hvars]
  exact rfl
end Go.Sx

/- A symbolic executor over the model and its soundness: part of the proof. -/
import Derived.Test.YtcibbcfiemeoiaaGreatDoorSxA
import Derived.OrdersIn
import Derived.Scope
import Derived.Maps.RangeRun
import Derived.RangeFuncLeaves
import Derived.RangeFuncRecord
import Derived.RangeFuncOwn
set_option linter.unusedSimpArgs false
set_option linter.unusedVariables false
namespace Go.Sx
open Go.RowKit
section
variable {P:Program} {N B:Nat} {w0:Yu} {al:Nat→Prop} {τ:Nat→Option SV} {σ:Nat→Option Res} {a:Act} {w:World} {ρ:Env} {M R:Nat→Prop} {n:Nat}
theorem Ji5 [Dr] {rs:Nat→Option Res} {M' R':Nat→Prop} {F:Nat→Prop} (V:Jz9 P ρ B M R w rs M' R' F):∀{ps:List (Bool×Sch)} {l:List SV} {y:Tup ps},H9 rs ps l=some y→(∀v∈l,J4w rs F v)→J0a M' w ps y (l.map (SV.den ρ))
 |[],[],_,_,_=>rfl
 |[],_::_,_,h,_=>by simp[H9] at h
 |_::_,[],_,h,_=>by simp[H9] at h
 | p :: r, v :: vs, y, h, hf => by
  cases v with
  |tup _=>simp[H9] at h
  | v g cs =>
   simp only[H9] at h
   split at h
   ·rename_i e;subst e
    split at h
    ·rename_i x z h1 h2
     cases h
     exact⟨cs.map (SC.den ρ),vs.map (SV.den ρ),rfl,Lr (P:=P) (R:=R) (B:=B) V.data h1 V.res fun i T s' xs g hi hr hg=>V.own i T s' xs g ((hf (.v p.1 cs) (by simp)).1 i hi) hr hg,Ji5 V h2 fun u hu=>hf u (by simp[hu])⟩
    ·cases h
   ·cases h
theorem Jy4 [Dr] (C:Kk P N B w0 al τ σ a w ρ M R) {o:Oper} (hd:∀t,o.dst=some t→t<N) {rs:Nat→Option Res} (hrs:∀id x,rs id=some x→σ id=some x) {j:Nat} {ps:List (Bool×Sch)} {r0:Bool×Sch} {pre:Tup ps→List Prop} {h:Tup ps→r0.2.T}
  (hj:rs j=some (.afn ps r0 pre h)) {l:List SV} {y:Tup ps} (hy:H9 rs ps l=some y) (hpre:Us (pre y))
  (hfresh:∀id,al id→¬(n≤id∧id<n+(Jt (Kj [r0] (h y,())) [] n).2.length))
  (hrun:∀f first caps,ρ j= .func (.func f) first caps→Dj P f→(execOp a.eval o).run P w= .ok (.enter f (first++(l.map (SV.den ρ)).toArray++caps)) w):
  X4 P N B w0 al τ σ a w R n o ⟨[Us (pre y)],Fw (Jt (Kj [r0] (h y,())) [] n).1,(Jt (Kj [r0] (h y,())) [] n).2,if hasList [r0] then l.flatMap (Jct rs) else[]⟩:=by
 obtain⟨f,first,caps,e,hE,H⟩:=C.res j _ (hrs j _ hj)
 have hr:=hrun f first caps e hE
 have hfit:Xw [r0] []=true:=rfl
 intro K Q hK
 cases hl:hasList [r0] with
 | false =>
  have V:=C.viewAll hrs
  have hc:=H y _ w (l.map (SV.den ρ)) V.data (fun _ _=>rfl) (fun b hb=>V.size b (.inl hb)) C.goodNow hpre (Ji5 V hy fun v _=>by
   cases v with
   |v g cs=>exact⟨fun _ _=>trivial,fun _ _ _ _ _ _ _ _=>trivial⟩
   |tup vs=>trivial)
  refine Zy hr hc fun e w' hp=> ?_
  obtain⟨u,e1,e2⟩:=C.returned_plain (n:=n) hd hp hfit hl
  refine⟨u,e1,hK u w' ρ M ?_⟩
  simp only[hl]
  exact e2
 | true =>
  have hlk:∀i y,look (l.flatMap (Jct rs)) i=some y→∃T s xs,σ i=some (.own T s xs)∧y=some (.imm T s xs):=by
   intro i y h
   obtain⟨v,_,hy⟩:=List.mem_flatMap.1 (Kd h)
   obtain⟨T,s,xs,h1,h2⟩:=Jqs hy
   exact⟨T,s,xs,hrs _ _ h1,h2⟩
  have V:=C.viewFrz hrs (l.flatMap (Jct rs))
  have C':=C.freeze n hlk
  have hc:=H y _ w (l.map (SV.den ρ)) V.data (fun _ _=>rfl) (fun b hb=>V.size b (.inl hb)) C.goodNow hpre (Ji5 V hy fun v hv=>(Jqr hv).1)
  refine Zy hr hc fun e w' hp=> ?_
  obtain⟨u,ρ',M',e1,e2⟩:=C'.returned (n:=n) hd hp hfit hfresh
  refine⟨u,e1,hK u w' ρ' M' ?_⟩
  simp only[hl]
  rw[Jba] at e2
  exact e2
theorem Jxm {T i d m:Nat} {U:TypeId} (h:L6 P T i=some (d,U)) (hm:Vw P U=some m) {cs:List SC} (hl:d+m≤cs.length) {v:SV} (hv:shape P U ((cs.drop d).take m)=some v) (ρ:Env) (w:World):
  (Instr.field T (.agg (cs.map (SC.den ρ)).toArray) i).run P w= .ok (v.den ρ) w:=by
 obtain⟨g,hg,rfl,h1⟩:=Hc hv
 unfold L6 at h
 cases hu:P.underlying T with
 |none=>rw[hu] at h;cases h
 | some dd =>
  rw[hu] at h
  cases dd<;>try(cases h;done)
  rename_i fs
  cases hf:fs[i]? with
  |none=>simp[hf] at h
  | some f =>
   simp only[hf] at h
   cases hs:Vw P f.type with
   |none=>simp[hs] at h
   | some k =>
    simp only[hs] at h
    cases k with
    |zero=>cases h
    | succ k =>
     cases h
     rw[hs] at hm;cases hm
     have hlen:((cs.drop f.offset).take (k+1)).length=k+1:=by simp;omega
     cases g with
     |true=>
      simp[Instr.field,Sem.run_bind,run_underlying hu,hf,asAgg,part,Lj hg,K9 hs,SV.den,Jm,List.map_take,List.map_drop]
     |false=>
      have:=h1 rfl
      rw[hlen] at this
      have hk:k=0:=by omega
      subst hk
      have hlt:f.offset<cs.length:=by omega
      have e:(cs.drop f.offset).take (0+1)=[cs[f.offset]]:=by rw[List.drop_eq_getElem_cons hlt];rfl
      have e2:(SV.v false ((cs.drop f.offset).take (0+1))).den ρ=SC.den ρ cs[f.offset]:=by rw[e];rfl
      rw[e2]
      simp[Instr.field,Sem.run_bind,run_underlying hu,hf,asAgg,part,Lj hg,List.getElem?_eq_getElem hlt]
theorem Jj6 {T:TypeId} {s:ByteArray} {k:IntKind} {m:Int} (hT:P.underlying T=some .string) (h:0≤m∧m<s.size) (w:World):
  (Instr.index T (.string s) (.int k m)).run P w= .ok (.int .u8 (Jby s m)) w:=by
 have hlt:m.toNat<s.size:=by omega
 have e:s[m.toNat]? =some (s[m.toNat]'hlt):=by simp[getElem?_pos,hlt]
 have e2:Jby s m=((s[m.toNat]'hlt).toNat:Int):=by
  unfold Jby
  have h2:m.toNat<s.data.toList.length:=by simpa using hlt
  rw[List.getD_eq_getElem?_getD,List.getElem?_eq_getElem h2]
  rfl
 simp[Instr.index,asIntOf,Sem.run_bind,run_underlying hT,h.1,e,e2,Sem.run_pure]
theorem Jj7 {T e:TypeId} {sz len:Nat} {k:IntKind} {m:Int} (hT:P.underlying T=some (.array len e)) (hs:Vw P e=some sz) {cs:List SC} (h:0≤m∧m<(len:Int)∧m.toNat*sz+sz≤cs.length) {v:SV} (hv:shape P e ((cs.drop (m.toNat*sz)).take sz)=some v) (ρ:Env) (w:World):
  (Instr.index T (.agg (cs.map (SC.den ρ)).toArray) (.int k m)).run P w= .ok (v.den ρ) w:=by
 obtain⟨g,hg,rfl,h1⟩:=Hc hv
 have hlen:((cs.drop (m.toNat*sz)).take sz).length=sz:=by simp;omega
 cases g with
 |true=>
  simp[Instr.index,asIntOf,Sem.run_bind,run_underlying hT,h.1,h.2.1,part,Lj hg,K9 hs,SV.den,Jm,List.map_take,List.map_drop]
 |false=>
  have hk:=h1 rfl
  rw[hlen] at hk
  subst hk
  have hlt:m.toNat*1<cs.length:=by omega
  have e:(cs.drop (m.toNat*1)).take 1=[cs[m.toNat*1]]:=by rw[List.drop_eq_getElem_cons hlt];rfl
  have e2:(SV.v false ((cs.drop (m.toNat*1)).take 1)).den ρ=SC.den ρ cs[m.toNat*1]:=by rw[e];rfl
  rw[e2]
  have hlt':m.toNat<cs.length:=by omega
  simp[Instr.index,asIntOf,Sem.run_bind,run_underlying hT,h.1,h.2.1,part,Lj hg,K9 hs,List.getElem?_eq_getElem hlt']
theorem J71 [Dr] {t ty:TypeId} {x:SV} {m:Int} {rs:Nat→Option Res} (hres:∀i y,rs i=some y→Kdi P ρ M R B w i y) (h:Kvt P rs t x=some m) (ts:Array TypeId) (ht:ts[0]? =some t):
  (Builtin.len_ ts ty #[x.den ρ]).run P w= .ok (.int .i64 m) w:=by
 unfold Kvt at h
 split at h
 ·rename_i i
  split at h
  ·rename_i e hu
   have key:∀n:Nat,(∃ad cap,ρ i= .slice ad n cap)→(Builtin.len_ ts ty #[(SV.v false [.sl i]).den ρ]).run P w= .ok (.int .i64 n) w:=by
    rintro n ⟨ad,cap,e⟩
    rw[show(SV.v false [.sl i]).den ρ= .slice ad n cap from e]
    simp[Builtin.len_,ht,Sem.run_bind,run_underlying hu,goInt]
   split at h
   ·rename_i T s xs hr
    cases h
    obtain⟨v,flat,h1,_,h3⟩:=hres i _ hr
    cases h1
    rcases h3 with⟨h3|⟨_,_,h3⟩,h4⟩|⟨b,off,cap,h3,_⟩
    ·exact key _ ⟨_,_,by rw[h3,h4]⟩
    ·exact key _ ⟨_,_,by rw[h3,h4]⟩
    ·exact key _ ⟨_,_,h3⟩
   ·rename_i T s xs hr
    cases h
    obtain⟨flat,_,h2,_⟩:=hres i _ hr
    rcases h2.2 with⟨h2,h4⟩|⟨g,cap,cur,h3,_⟩
    ·exact key _ ⟨_,_,by rw[h2,h4]⟩
    ·exact key _ ⟨_,_,h3⟩
   ·cases h
  ·rename_i kT vT hu
   split at h
   ·rename_i kT' gk gv ks vs l hr
    cases h
    obtain⟨_,b,es,h1,h2,h3,_⟩:=hres i _ hr
    have hsz:es.size=l.length:=by have:=h3.length;simpa using this
    rw[show(SV.v false [.sl i]).den ρ= .map (some b) from h1]
    simp[Builtin.len_,ht,Sem.run_bind,run_underlying hu,goInt,Lk h2 rfl,hsz]
   ·cases h
  ·cases h
 ·split at h
  ·rename_i e hu
   cases h
   simp[Builtin.len_,ht,Sem.run_bind,run_underlying hu,SV.den,Jm,SC.den,goInt]
  ·cases h
 ·split at h
  ·rename_i s hu
   cases h
   simp[Builtin.len_,ht,Sem.run_bind,run_underlying hu,SV.den,Jm,SC.den,goInt]
  ·cases h
 ·cases h
theorem Yb {o:Oper} {c:Call} {b:Builtin} (ho:o.op= .call c) (hc:c.callee= .builtin b) {a:Act} {s:Array TypeId→TypeId→Array Value→Sem Value}
  (hb:∀ts ty cs args,builtin b ts ty cs args=(do pure (.value (←s ts ty args)))) {u:Value} {w w':World} (h:(s c.argTypes o.type (c.args.map a.eval)).run P w= .ok u w'):
  (execOp a.eval o).run P w= .ok (.value u) w':=by
 simp[execOp,ho,resolve,hc,invoke,hb,h]
theorem Fq {ev:Operand→Option SV} (hev:∀x sv,ev x=some sv→a.eval x=sv.den ρ∧∀id∈sv.ids,al id) {c:Call} {l:List SV} (h:evL ev c.args.toList=some l):
  c.args.map a.eval=(l.map (SV.den ρ)).toArray∧∀v∈l,∀id∈v.ids,al id:=by
 obtain⟨h1,h2⟩:=Hz hev h
 refine⟨?_,h2⟩
 rw[←h1]
 apply Array.ext'
 simp
theorem J2h {k k':IntKind} {x y:Int} (w:World) (ts:Array TypeId) (ty:TypeId):(Builtin.max_ ts ty #[.int k x, .int k' y]).run P w= .ok (.int k (max x y)) w:=by
 have:(max x y)=(if x<y then y else x):=by rw[Int.max_def];split<;>split<;>omega
 simp[Builtin.max_,Builtin.max2,this]
theorem J2e {k k':IntKind} {x y:Int} (w:World) (ts:Array TypeId) (ty:TypeId):(Builtin.min_ ts ty #[.int k x, .int k' y]).run P w= .ok (.int k (min x y)) w:=by
 have:(min x y)=(if y<x then y else x):=by rw[Int.min_def];split<;>split<;>omega
 simp[Builtin.min_,Builtin.min2,this]
theorem Jwx {k k' k2:IntKind} {x y z:Int} (w:World) (ts:Array TypeId) (ty:TypeId):(Builtin.max_ ts ty #[.int k x, .int k' y, .int k2 z]).run P w= .ok (.int k (max (max x y) z)) w:=by
 have e:∀x y:Int,(if x<y then y else x)=max x y:=fun x y=>by rw[Int.max_def];split<;>split<;>omega
 simp[Builtin.max_,Builtin.max2,e]
theorem Jwu {k k' k2:IntKind} {x y z:Int} (w:World) (ts:Array TypeId) (ty:TypeId):(Builtin.min_ ts ty #[.int k x, .int k' y, .int k2 z]).run P w= .ok (.int k (min (min x y) z)) w:=by
 have e:∀x y:Int,(if y<x then y else x)=min x y:=fun x y=>by rw[Int.min_def];split<;>split<;>omega
 simp[Builtin.min_,Builtin.min2,e]
theorem Jko [Dr] (C : Kk P N B w0 al τ σ a w ρ M R) {o : Oper} (hd : ∀ t, o.dst = some t → t < N) {rs : Nat → Option Res} (hrs : ∀ id x, rs id = some x → σ id = some x)
  {ev:Operand→Option SV} (hev:∀x sv,ev x=some sv→a.eval x=sv.den ρ∧∀id∈sv.ids,al id) {c:Call} {b:Builtin} (ho:o.op= .call c) (hc:c.callee= .builtin b) {l:List SV} (hl:evL ev c.args.toList=some l) {out:Out}
  (hop:Jkp P rs n b c.argTypes.toList l=some out) (hpre:Us out.pre) (hfresh:∀id,al id→¬(n≤id∧id<n+out.news.length)):X4 P N B w0 al τ σ a w R n o out:=by
 obtain⟨hargs,hids⟩:=Fq hev hl
 unfold Jkp at hop
 split at hop
 ·rename_i x
  split at hop
  ·rename_i t ts hts
   split at hop
   ·rename_i m hm
    cases hop
    refine Ji C hd rfl rfl (Yb ho hc (s:=Builtin.len_) (fun _ _ _ _=>rfl) ?_) (fun id hid=>by simp[SV.ids,K1,SC.ids] at hid)
    rw[hargs]
    exact J71 (fun i y h=>C.res i y (hrs i y h)) hm _ (by rw[←Array.getElem?_toList,hts];rfl)
   ·cases hop
  ·cases hop
 ·rename_i k x k' y
  cases hop
  refine Ji C hd rfl rfl (Yb ho hc (s:=Builtin.max_) (fun _ _ _ _=>rfl) ?_) (fun id hid=>by simp[SV.ids,K1,SC.ids] at hid)
  rw[hargs]
  exact J2h w _ _
 ·rename_i k x k' y
  cases hop
  refine Ji C hd rfl rfl (Yb ho hc (s:=Builtin.min_) (fun _ _ _ _=>rfl) ?_) (fun id hid=>by simp[SV.ids,K1,SC.ids] at hid)
  rw[hargs]
  exact J2e w _ _
 ·rename_i k x k' y k2 z
  cases hop
  refine Ji C hd rfl rfl (Yb ho hc (s:=Builtin.max_) (fun _ _ _ _=>rfl) ?_) (fun id hid=>by simp[SV.ids,K1,SC.ids] at hid)
  rw[hargs]
  exact Jwx w _ _
 ·rename_i k x k' y k2 z
  cases hop
  refine Ji C hd rfl rfl (Yb ho hc (s:=Builtin.min_) (fun _ _ _ _=>rfl) ?_) (fun id hid=>by simp[SV.ids,K1,SC.ids] at hid)
  rw[hargs]
  exact Jwu w _ _
 ·rename_i i y
  split at hop
  ·rename_i t t' hts
   split at hop
   ·rename_i e hu
    split at hop
    ·rename_i e' s xs hr
     split at hop
     ·rename_i he
      obtain⟨e1,hsz⟩:=he
      subst e1
      split at hop
      ·rename_i ys hys
       cases hop
       have p1:ys.length=xs.length:=hpre
       have hts':c.argTypes= #[t,t']:=by
        apply Array.ext';simpa using hts
       unfold Jqh at hys
       split at hys
       ·rename_i cy
        obtain⟨w',h1,h2⟩:=C.copyOwn (n:=n) (d:=o.dst) (t':=t') (ty:=o.type) hd hrs (hrs i _ hr) hu hsz hys p1
        intro K Q hK
        refine Ky (Yb ho hc (s:=Builtin.copy_) (fun _ _ _ _=>rfl) ?_) (hK _ w' ρ M h2)
        rw[hargs,hts']
        exact h1
       ·cases hys
      ·cases hop
     ·cases hop
    ·cases hop
   ·cases hop
  ·cases hop
 ·rename_i x y
  split at hop
  ·rename_i t t' hts
   split at hop
   ·rename_i e; subst e
    split at hop
    ·rename_i e hu
     split at hop
     ·rename_i s i hs hi
      split at hop
      ·rename_i z hz
       split at hop
       ·rename_i hcnd
        obtain⟨c1,c2,c3,c4⟩:=hcnd
        split at hop
        ·rename_i ys hys
         have hts':c.argTypes= #[t,t]:=by
          apply Array.ext';simpa using hts
         unfold Jqh at hys
         split at hys
         ·rename_i cy
          split at hop
          ·cases hop
           obtain⟨u,w',ρ',h1,h2⟩:=C.append (n:=n) (d:=o.dst) (ty:=o.type) (xs:=[]) (j:=none) hd (fun h=>hfresh n h ⟨Nat.le_refl _,by simp⟩) hrs hu hi hz c1 c2 c3 c4 ⟨rfl,rfl⟩ hys (by have h:ys.length*i.bytes≤140737488355328:=hpre;simpa using h)
           intro K Q hK
           refine Ky (Yb ho hc (s:=Builtin.append_) (fun _ _ _ _=>rfl) ?_) (hK u w' ρ' M h2)
           rw[hargs,hts']
           exact h1
          ·rename_i j
           split at hop
           ·rename_i e' s' xs hr
            split at hop
            ·rename_i he
             obtain⟨e1,e2⟩:=he
             subst e1;subst e2
             cases hop
             obtain⟨u,w',ρ',h1,h2⟩:=C.append (n:=n) (d:=o.dst) (ty:=o.type) (xs:=xs) (j:=some j) hd (fun h=>hfresh n h ⟨Nat.le_refl _,by simp⟩) hrs hu hi hz c1 c2 c3 c4 ⟨rfl,hrs _ _ hr⟩ hys hpre
             intro K Q hK
             refine Ky (Yb ho hc (s:=Builtin.append_) (fun _ _ _ _=>rfl) ?_) (hK u w' ρ' M h2)
             rw[hargs,hts']
             exact h1
            ·cases hop
           ·cases hop
          ·cases hop
         ·cases hys
        ·cases hop
       ·cases hop
      ·cases hop
     ·cases hop
    ·cases hop
   ·cases hop
  ·cases hop
 ·cases hop
theorem Jxy [Dr] (C:Kk P N B w0 al τ σ a w ρ M R) {o:Oper} (hd:∀t,o.dst=some t→t<N) {f:FuncId} {first caps:Array Operand} (ho:o.op= .makeFunc (.func f) first caps) {l1 l2:List SV}
  (e1:first.toList.map a.eval=l1.map (SV.den ρ)) (e2:caps.toList.map a.eval=l2.map (SV.den ρ)) (hids:∀id∈(Res.clo f l1 l2).ids,al id) (hfresh:∀id,al id→¬(n≤id∧id<n+1)):
  X4 P N B w0 al τ σ a w R n o ⟨[], .one (.fv n),[.clo f l1 l2],[]⟩:=by
 intro K Q hK
 have ha1:first.map a.eval=(l1.map (SV.den ρ)).toArray:=by rw[←e1];apply Array.ext';simp
 have ha2:caps.map a.eval=(l2.map (SV.den ρ)).toArray:=by rw[←e2];apply Array.ext';simp
 have hrun:(execOp a.eval o).run P w= .ok (.value (.func (.func f) (l1.map (SV.den ρ)).toArray (l2.map (SV.den ρ)).toArray)) w:=by
  simp[execOp,ho,Instr.makeFunc,ha1,ha2]
 refine Ky hrun (hK _ w (K5 ρ n [.func (.func f) (l1.map (SV.den ρ)).toArray (l2.map (SV.den ρ)).toArray]) M ?_)
 have hnn:∀id,al id→¬id=n:=fun id h e=>hfresh id h (by omega)
 have hold:∀id,¬(n≤id∧id<n+1)→K5 ρ n [.func (.func f) (l1.map (SV.den ρ)).toArray (l2.map (SV.den ρ)).toArray] id=ρ id:=fun id h=>Ua h
 have hnew:K5 ρ n [.func (.func f) (l1.map (SV.den ρ)).toArray (l2.map (SV.den ρ)).toArray] n= .func (.func f) (l1.map (SV.den ρ)).toArray (l2.map (SV.den ρ)).toArray:=Un (i:=0) rfl
 refine C.step hd hfresh hold hnew.symm (fun id hid=> ?_) (Below.refl _ _) (Nat.le_refl _) (fun _ h=>h) (fun b h=>C.old b (.inl h)) (fun _ _=>rfl) ?_ ?_ ?_ ?_
 ·simp[SV.ids,K1,SC.ids] at hid
  exact .inr (by subst hid;exact⟨Nat.le_refl _,by simp⟩)
 ·intro r x _ _ hx ho b hb
  exact⟨rfl,(C.notM hx ho hb).1⟩
 ·rintro r x hx (h|h)
  ·have hrn:r=n:=by simp at h;omega
   subst hrn
   have:x= .clo f l1 l2:=by simpa[U2] using hx.symm
   subst this
   refine⟨?_, .inr h,fun id hid=> .inl (hids id hid)⟩
   show K5 _ _ _ r=_
   rw[hnew,Ja7 fun id hid=>hold id (hfresh id (hids id (List.mem_append_left _ hid))),Ja7 fun id hid=>hold id (hfresh id (hids id (List.mem_append_right _ hid)))]
  ·exact absurd rfl h
 ·intro id h
  have:id=n:=by simp at h;omega
  subst this
  rw[hnew];rfl
 ·rintro r r' x x' _ hx _ ho _ (h|h)
  ·have hrn:r=n:=by simp at h;omega
   subst hrn
   have:x= .clo f l1 l2:=by simpa[U2] using hx.symm
   subst this
   cases ho
  ·exact absurd rfl h
theorem Jw9 [Dr] (C:Kk P N B w0 al τ σ a w ρ M R) {o:Oper} (hd:∀t,o.dst=some t→t<N) {T:TypeId} {v:SV} (hrun:(execOp a.eval o).run P w= .ok (.value (.iface T (v.den ρ))) w) (hids:∀id∈v.ids,al id) (hfresh:∀id,al id→¬(n≤id∧id<n+1)):
  X4 P N B w0 al τ σ a w R n o ⟨[], .one (.fv n),[.ifb T v],[]⟩:=by
 intro K Q hK
 refine Ky hrun (hK _ w (K5 ρ n [.iface T (v.den ρ)]) M ?_)
 have hold:∀id,¬(n≤id∧id<n+1)→K5 ρ n [.iface T (v.den ρ)] id=ρ id:=fun id h=>Ua h
 have hnew:K5 ρ n [.iface T (v.den ρ)] n= .iface T (v.den ρ):=Un (i:=0) rfl
 refine C.step hd hfresh hold hnew.symm (fun id hid=> ?_) (Below.refl _ _) (Nat.le_refl _) (fun _ h=>h) (fun b h=>C.old b (.inl h)) (fun _ _=>rfl) ?_ ?_ ?_ ?_
 ·simp[SV.ids,K1,SC.ids] at hid
  exact .inr (by subst hid;exact⟨Nat.le_refl _,by simp⟩)
 ·intro r x _ _ hx ho b hb
  exact⟨rfl,(C.notM hx ho hb).1⟩
 ·rintro r x hx (h|h)
  ·have hrn:r=n:=by simp at h;omega
   subst hrn
   have:x= .ifb T v:=by simpa[U2] using hx.symm
   subst this
   refine⟨?_, .inr h,fun id hid=> .inl (hids id hid)⟩
   show K5 _ _ _ r=_
   rw[hnew,SV.den_congr fun id hid=>hold id (hfresh id (hids id hid))]
  ·exact absurd rfl h
 ·intro id h
  have:id=n:=by simp at h;omega
  subst this
  rw[hnew];rfl
 ·rintro r r' x x' _ hx _ ho _ (h|h)
  ·have hrn:r=n:=by simp at h;omega
   subst hrn
   have:x= .ifb T v:=by simpa[U2] using hx.symm
   subst this
   cases ho
  ·exact absurd rfl h
theorem J2f {T:TypeId} {name:String} {f:FuncId} (h:J7z P T name=some f) (v:Value) (d:Nat):(Go.method (d+1) T v name).run P w= .ok (f,v) w:=by
 unfold J7z at h
 split at h
 ·cases h
 rename_i i hi
 split at h
 ·cases h
 ·cases h
 rename_i u hnp hu
 split at h
 ·cases h
 rename_i m hm
 split at h
 ·cases h
 rename_i hp
 split at h
 case h_2=>cases h
 rename_i f' hf
 cases h
 have hpath:m.path= #[]:=Array.isEmpty_iff.1 hp
 unfold Go.method
 simp only[Sem.run_bind,typeInfo,run_program,Result.andThen_ok,hi,Sem.run_pure,hm,hpath,hf]
 simp only[Go.follow,Sem.run_bind,Sem.run_pure,Result.andThen_ok,receiverAt,run_underlying hu,Place.get]
theorem Jjm {parts:Array (Nat×Operand)} {a:Act}:(parts.map fun p=>(p.1,a.eval p.2))=(parts.toList.map fun p=>(p.1,a.eval p.2)).toArray:=by
 apply Array.ext';simp
theorem Hm [Dr] {Γ:Gam} (hΓ:Xf P Γ) (C:Kk P N B w0 al τ σ a w ρ M R) {o:Oper} (hd:∀t,o.dst=some t→t<N) {rs:Nat→Option Res} (hrs:∀id x,rs id=some x→σ id=some x) {f:FuncId} {l:List SV} {out:Out}
  (hop:Jo3 Γ rs n f l=some out) (hpre:Us out.pre) (hfresh:∀id,al id→¬(n≤id∧id<n+out.news.length))
  (hrun:Dj P f→(execOp a.eval o).run P w= .ok (.enter f (l.map (SV.den ρ)).toArray) w):X4 P N B w0 al τ σ a w R n o out:=by
 unfold Jo3 at hop
 split at hop
 ·cases hop
 rename_i con hcon
 split at hop
 case h_1=>
  rename_i z hz
  cases hop
 split at hop
 case h_1=>
  rename_i F hF
  obtain⟨hE,_,hPr,_⟩:=hΓ f con hcon
  obtain⟨Rp,hcl,hR⟩:=hPr F hF (d:=o.dst) C hd hrs hop hpre hfresh
  intro K Q hK
  exact Zy (hrun hE) hcl fun e w' he=>by
   obtain⟨u,ρ',M',h1,h2⟩:=hR e w' he
   exact⟨u,h1,hK u w' ρ' M' h2⟩
 exact Jtm hΓ C hd hrs hop hpre hfresh hrun
theorem Jjq [Dr] {Γ : Gam} (hΓ : Xf P Γ) (C : Kk P N B w0 al τ σ a w ρ M R) {o : Oper} (hd : ∀ t, o.dst = some t → t < N) {rs : Nat → Option Res} (hrs : ∀ id x, rs id = some x → σ id = some x)
  {ev:Operand→Option SV} (hev:∀x sv,ev x=some sv→a.eval x=sv.den ρ∧∀id∈sv.ids,al id) {out:Out}
  (hop:opS P Γ ev rs n o=some out) (hpre:Us out.pre) (hfresh:∀id,al id→¬(n≤id∧id<n+out.news.length)):X4 P N B w0 al τ σ a w R n o out:=by
 have hres:∀i y,rs i=some y→Kdi P ρ M R B w i y:=fun i y h=>C.res i y (hrs i y h)
 unfold opS at hop
 split at hop
 ·-- move
  rename_i x ho
  split at hop
  ·rename_i v hv;cases hop;exact Jh6 C hd hev (.inl ho) hv
  ·cases hop
 ·rename_i x ho
  split at hop
  ·rename_i v hv;cases hop;exact Jh6 C hd hev (.inr ho) hv
  ·cases hop
 ·-- extract
  rename_i x i ho
  split at hop
  ·rename_i vs hv
   split at hop
   ·rename_i p hp
    cases hop
    obtain⟨h1,h2⟩:=hev x _ hv
    refine Ji C hd rfl rfl ?_ fun id hid=>h2 id (List.mem_flatMap.2 ⟨p,List.mem_of_getElem? hp,hid⟩)
    simp[execOp,ho,h1,SV.den,Instr.extract,hp,J5p]
   ·cases hop
  ·cases hop
 ·-- binOp
  rename_i op T x y yT ho
  split at hop
  ·rename_i k m k' m' hx hy
   split at hop
   ·rename_i e;subst e
    obtain⟨r1,r2,r3,r4⟩:=J11 (P:=P) (T:=T) (x:=x) (y:=y) w hop hpre ρ
    refine Ji C hd r2 r3 ?_ (by rw[r4];simp)
    have:=Vu r1
    simp only[execOp,ho,(hev x _ hx).1,(hev y _ hy).1]
    exact this
   ·cases hop
  ·rename_i s t hx hy
   obtain⟨r1,r2,r3,r4⟩:=J10 (P:=P) (T:=T) (x:=x) (y:=y) w hop hpre ρ
   refine Ji C hd r2 r3 ?_ (by rw[r4];simp)
   have:=Vu r1
   simp only[execOp,ho,(hev x _ hx).1,(hev y _ hy).1]
   exact this
  ·rename_i s t hx hy
   split at hop
   ·rename_i hu
    obtain⟨r1,r2,r3,r4⟩:=Jvw (P:=P) (w:=w) (T:=T) (x:=x) (y:=y) hu hop ρ
    refine Ji C hd r2 r3 ?_ (by rw[r4];simp)
    have:=Vu r1
    simp only[execOp,ho,(hev x _ hx).1,(hev y _ hy).1]
    exact this
   ·cases hop
  ·rename_i xs ys hx hy
   split at hop
   ·rename_i hgd
    have key:∀{b:Bool},eqT P 20 T xs ys=some b→(Op.equalIn 10000 T (.agg (xs.map (SC.den ρ)).toArray) (.agg (ys.map (SC.den ρ)).toArray)).run P w= .ok b w:=by
     intro b hb
     obtain⟨g,g1,_,g3⟩:=Jmp (w:=w) ρ hb 10000 (by omega)
     rw[hgd.2] at g1
     cases g1
     exact g3
    split at hop
    ·rename_i b hb
     cases hop
     refine Ji C hd rfl rfl ?_ (fun id hid=>by simp[SV.ids,K1,SC.ids] at hid)
     simp only[execOp,ho,(hev x _ hx).1,(hev y _ hy).1]
     refine Vu ?_
     simp only[SV.den,Jm]
     rw[Sem.run_bind,run_eqGuard_agg w .eql T x y _ _ hgd.1,Result.andThen_ok,run_eql_struct,key hb]
     rfl
    ·rename_i b hb
     cases hop
     refine Ji C hd rfl rfl ?_ (fun id hid=>by simp[SV.ids,K1,SC.ids] at hid)
     simp only[execOp,ho,(hev x _ hx).1,(hev y _ hy).1]
     refine Vu ?_
     simp only[SV.den,Jm]
     rw[Sem.run_bind,run_eqGuard_agg w .neq T x y _ _ hgd.1,Result.andThen_ok,run_neq_struct,key hb]
     rfl
    ·cases hop
   ·cases hop
  ·rename_i i hx hy
   split at hop
   ·rename_i v b ms hb hu
    have h1:Jkt b (ρ i):=C.res i _ (hrs i _ hb)
    have ex:a.eval x=ρ i:=(hev x _ hx).1
    have ey:a.eval (.const v)= .nilIface:=(hev _ _ hy).1
    split at hop
    ·cases hop
     refine Ji C hd rfl rfl ?_ (fun id hid=>by simp[SV.ids,K1,SC.ids] at hid)
     simp only[execOp,ho,ex,ey]
     exact Vu (Jnz w hu h1)
    ·cases hop
     refine Ji C hd rfl rfl ?_ (fun id hid=>by simp[SV.ids,K1,SC.ids] at hid)
     simp only[execOp,ho,ex,ey]
     exact Vu (Jny w hu h1)
    ·cases hop
   ·cases hop
  ·rename_i f hx hy
   split at hop
   ·rename_i hu
    cases hop
    refine Ji C hd rfl rfl ?_ (fun id hid=>by simp[SV.ids,K1,SC.ids] at hid)
    simp only[execOp,ho,(hev x _ hx).1,(hev y _ hy).1]
    exact Vu (Jvt w hu).1
   ·rename_i hu
    cases hop
    refine Ji C hd rfl rfl ?_ (fun id hid=>by simp[SV.ids,K1,SC.ids] at hid)
    simp only[execOp,ho,(hev x _ hx).1,(hev y _ hy).1]
    exact Vu (Jvt w hu).2
   ·cases hop
  ·rename_i i off hx hy
   obtain⟨ad,had⟩:∃ad,(SC.ptr i off).den ρ= .pointer (some ad):=by
    simp only[SC.den];split<;>exact⟨_,rfl⟩
   have ex:a.eval x= .pointer (some ad):=(hev x _ hx).1.trans had
   split at hop
   ·rename_i hu
    cases hop
    refine Ji C hd rfl rfl ?_ (fun id hid=>by simp[SV.ids,K1,SC.ids] at hid)
    simp only[execOp,ho,ex,(hev y _ hy).1]
    exact Vu (Jjg w hu).1
   ·rename_i hu
    cases hop
    refine Ji C hd rfl rfl ?_ (fun id hid=>by simp[SV.ids,K1,SC.ids] at hid)
    simp only[execOp,ho,ex,(hev y _ hy).1]
    exact Vu (Jjg w hu).2
   ·cases hop
  ·rename_i hx hy
   split at hop
   ·rename_i hu
    cases hop
    refine Ji C hd rfl rfl ?_ (fun id hid=>by simp[SV.ids,K1,SC.ids] at hid)
    simp only[execOp,ho,(hev x _ hx).1,(hev y _ hy).1]
    exact Vu (Jjg w hu).1
   ·rename_i hu
    cases hop
    refine Ji C hd rfl rfl ?_ (fun id hid=>by simp[SV.ids,K1,SC.ids] at hid)
    simp only[execOp,ho,(hev x _ hx).1,(hev y _ hy).1]
    exact Vu (Jjg w hu).2
   ·cases hop
  ·cases hop
 ·-- unOp
  rename_i op T x ho
  split at hop
  ·rename_i b hx
   cases hop
   refine Ji C hd rfl rfl ?_ (fun id hid=>by simp[SV.ids,K1,SC.ids] at hid)
   simp[execOp,ho,(hev x _ hx).1,SV.den,Jm,SC.den,Op.unary]
  ·rename_i k m hx
   obtain⟨r1,r2,r3,r4⟩:=Dx (P:=P) w hop hpre ρ
   refine Ji C hd r2 r3 ?_ (by rw[r4];simp)
   rw[r1]
   simp[execOp,ho,(hev x _ hx).1,SV.den,Jm,SC.den,Op.unary,Op.intArith]
  ·cases hop
 ·-- convert
  rename_i S T x ho
  split at hop
  ·rename_i dS k k' m hS hT hx
   obtain⟨r1,r2,r3,r4⟩:=Dx (P:=P) w hop hpre ρ
   refine Ji C hd r2 r3 ?_ (by rw[r4];simp)
   rw[r1]
   simp only[execOp,ho,(hev x _ hx).1]
   refine Vu ?_
   simp only[SV.den,Jm,SC.den,List.map]
   unfold convert
   simp only[Sem.run_bind,run_underlying hS,run_underlying hT,Result.andThen_ok]
   cases dS<;>simp[Conv.intToInt]
  ·rename_i e i hS hT hx
   have key:∀(xs:List Int),(∀j,j<xs.length→∃b off cap,ρ i= .slice (some ⟨b,off,none⟩) xs.length cap∧w.cell? ⟨b,off+j,none⟩=some (.int .u8 (xs.getD j 0)))→P.underlying e=some (.int .u8)→0<xs.length→X4 P N B w0 al τ σ a w R n o ⟨[0<xs.length], .one (.str (strOfNums xs)),[],[]⟩:=by
    intro xs hxs he h0
    obtain⟨b,off,cap,hi,_⟩:=hxs 0 h0
    refine Ji C hd rfl rfl ?_ (fun id hid=>by simp[SV.ids,K1,SC.ids] at hid)
    simp only[execOp,ho,(hev x _ hx).1]
    refine Vu ?_
    simp only[SV.den,Jm,SC.den,List.map]
    rw[hi]
    refine run_convert_bytes_arg w S e hS he b off xs.length cap xs rfl (fun j hj=> ?_) T hT
    obtain⟨b',off',cap',hi',hc'⟩:=hxs j hj
    rw[hi] at hi'
    cases hi'
    exact hc'
   have one:∀{M':Nat→Prop} {v:Int} {cv:List Value},F3 (H4 M' w) (enc (.int .u8) v) cv→cv[0]? =some (.int .u8 v):=by
    intro M' v cv h
    cases cv with
    |nil=>exact h.elim
    |cons c r=>exact congrArg some h.1
   split at hop
   ·rename_i he
    split at hop
    ·rename_i U xs hr
     cases hop
     obtain⟨flat,f1,f2,_⟩:=hres i _ hr
     refine key xs (fun j hj=> ?_) he hpre
     obtain⟨b,off,cap,cv,q1,q2,q3⟩:=Jn9 (T:=U) (s:= .int .u8) f1 f2 hj
     have:=q3 0 _ (one q2)
     exact⟨b,off,cap,q1,by simp only[Sch.size,Nat.mul_one,Nat.add_zero] at this;exact this⟩
    ·rename_i U xs hr
     cases hop
     refine key xs (fun j hj=> ?_) he hpre
     obtain⟨b,off,cap,cv,q1,q2,q3⟩:=Jf3 (T:=U) (s:= .int .u8) (hres i _ hr) hj
     have:=q3 0 _ (one q2)
     exact⟨b,off,cap,q1,by simp only[Sch.size,Nat.mul_one,Nat.add_zero] at this;exact this⟩
    ·cases hop
   ·cases hop
  ·cases hop
 ·-- index
  rename_i T x y ho
  split at hop
  ·rename_i s k m hT hx hy
   cases hop
   refine Ji C hd rfl rfl ?_ (fun id hid=>by simp[SV.ids,K1,SC.ids] at hid)
   simp only[execOp,ho,(hev x _ hx).1,(hev y _ hy).1]
   refine Vu ?_
   exact Jj6 hT hpre w
  ·rename_i len e cs k m hT hx hy
   split at hop
   ·rename_i sz hsz
    split at hop
    ·rename_i hm
     split at hop
     ·rename_i v hv
      cases hop
      refine Ji C hd rfl rfl ?_ fun id hid=> ?_
      ·simp only[execOp,ho,(hev x _ hx).1,(hev y _ hy).1]
       refine Vu ?_
       exact Jj7 hT hsz hm hv ρ w
      ·obtain⟨g,_,rfl,_⟩:=Hc hv
       obtain⟨c,hc,hc'⟩:=List.mem_flatMap.1 hid
       exact(hev x _ hx).2 id (List.mem_flatMap.2 ⟨c,List.mem_of_mem_drop (List.mem_of_mem_take hc),hc'⟩)
     ·cases hop
    ·cases hop
   ·cases hop
  ·cases hop
 ·-- alloc
  rename_i T ho
  split at hop
  ·rename_i cs hz;cases hop;exact Jpd C hd ho hz hfresh
  ·cases hop
 ·-- box
  rename_i T x ho
  split at hop
  ·rename_i v hv
   split at hop
   ·rename_i cs hcs
    split at hop
    ·rename_i hat;cases hop;exact Jyi C hd hev ho hv hcs hat hfresh
    ·cases hop
   ·cases hop
  ·cases hop
 ·-- build
  rename_i T parts ho
  split at hop
  ·rename_i z ps hz hps
   split at hop
   ·rename_i cs hb
    cases hop
    obtain⟨r1,r2⟩:=Jyf C hev hz hps hb
    refine Ji C hd rfl rfl ?_ r2
    simp only[execOp,ho]
    exact Vu r1
   ·cases hop
  ·cases hop
 ·-- fieldAddr
  rename_i T x i ho
  split at hop
  ·rename_i j off d U hx hf
   cases hop
   obtain⟨h1,h2⟩:=hev x _ hx
   obtain⟨b,o',hb⟩:=Je6 ρ j off
   refine Ji C hd rfl rfl ?_ h2
   simp only[execOp,ho,h1]
   refine Vu ?_
   have e0:=hb 0
   simp only[Nat.add_zero] at e0
   simp only[SV.den,Jm,List.map]
   rw[e0,hb d]
   exact Jax hf b o' w
  ·rename_i j sz idx off d U hx hf
   cases hop
   obtain⟨h1,h2⟩:=hev x _ hx
   obtain⟨b,o',hb⟩:=J8e ρ j sz idx off
   refine Ji C hd rfl rfl ?_ h2
   simp only[execOp,ho,h1]
   refine Vu ?_
   have e0:=hb 0
   simp only[Nat.add_zero] at e0
   simp only[SV.den,Jm,List.map]
   rw[e0,hb d]
   exact Jax hf b o' w
  ·cases hop
 ·-- field
  rename_i T x i ho
  split at hop
  ·rename_i cs d U hx hf
   split at hop
   ·rename_i m hm
    split at hop
    ·rename_i hl
     split at hop
     ·rename_i v hv
      cases hop
      obtain⟨h1,h2⟩:=hev x _ hx
      refine Ji C hd rfl rfl ?_ fun id hid=> ?_
      ·simp only[execOp,ho,h1]
       exact Vu (Jxm hf hm hl hv ρ w)
      ·obtain⟨g,_,rfl,_⟩:=Hc hv
       obtain⟨c,hc,hc'⟩:=List.mem_flatMap.1 hid
       exact h2 id (List.mem_flatMap.2 ⟨c,List.mem_of_mem_drop (List.mem_of_mem_take hc),hc'⟩)
     ·cases hop
    ·cases hop
   ·cases hop
  ·cases hop
 ·-- indexAddr
  rename_i T x y ho
  split at hop
  ·rename_i e j k m hT hx hy
   split at hop
   ·rename_i sz hsz
    simp only at hop
    obtain⟨h1,h2⟩:=hev x _ hx
    obtain⟨h3,_⟩:=hev y _ hy
    have key:∀len:Nat,(0≤m∧m<len→∃b o cap,ρ j= .slice (some ⟨b,o,none⟩) len cap)→0≤m∧m<len→X4 P N B w0 al τ σ a w R n o ⟨[0≤m∧m<len], .one (.elt j sz m 0),[],[]⟩:=by
     intro len hlen hm
     obtain⟨b,o',cap,hj⟩:=hlen hm
     refine Ji C hd rfl rfl ?_ h2
     simp only[execOp,ho,h1,h3]
     refine Vu ?_
     simp only[SV.den,Jm,List.map,SC.den,hj]
     exact Jok hT hsz hm w
    split at hop
    ·rename_i U s xs hr
     split at hop
     ·rename_i hs
      cases hop
      refine key _ (fun hm=> ?_) hpre
      obtain⟨b,o',cap,cv,q,_⟩:=Jf3 (T:=U) (hres j _ hr) (j:=m.toNat) (by omega)
      exact⟨b,o',cap,q⟩
     ·cases hop
    ·rename_i U s xs hr
     split at hop
     ·rename_i hs
      cases hop
      refine key _ (fun hm=> ?_) hpre
      obtain⟨flat,f1,f2,_⟩:=hres j _ hr
      obtain⟨b,o',cap,cv,q,_⟩:=Jn9 (T:=U) f1 f2 (j:=m.toNat) (by omega)
      exact⟨b,o',cap,q⟩
     ·cases hop
    ·cases hop
   ·cases hop
  ·rename_i len e j off k m hT hx hy
   split at hop
   ·rename_i sz hsz
    split at hop
    ·rename_i hm
     cases hop
     obtain⟨h1,h2⟩:=hev x _ hx
     obtain⟨h3,_⟩:=hev y _ hy
     obtain⟨b,o',hb⟩:=Je6 ρ j off
     refine Ji C hd rfl rfl ?_ h2
     simp only[execOp,ho,h1,h3]
     refine Vu ?_
     have e0:=hb 0
     simp only[Nat.add_zero] at e0
     simp only[SV.den,Jm,List.map]
     rw[e0,hb (m.toNat*sz)]
     exact Jme hT hsz hm w
    ·cases hop
   ·cases hop
  ·cases hop
 ·-- load
  rename_i T x ho
  split at hop
  ·rename_i p hx
   exact Jtc C hd hrs ho (hev x _ hx).1 hop hpre hfresh
  ·cases hop
 ·-- store
  rename_i T x y ho
  split at hop
  ·rename_i p v hx hy
   exact Jnv C hd hrs ho (hev x _ hx).1 (hev y _ hy).1 (hev y _ hy).2 hop hpre
  ·cases hop
 ·-- nilCheck
  rename_i x ho
  split at hop
  ·rename_i j off hx
   cases hop
   obtain⟨h1,h2⟩:=hev x _ hx
   refine Ji C hd rfl rfl ?_ h2
   obtain⟨b,o',hb⟩:=Je6 ρ j off
   have e0:=hb 0
   simp only[Nat.add_zero] at e0
   simp[execOp,ho,h1,SV.den,Jm,e0]
  ·cases hop
 ·-- buildSlice
  rename_i T len parts ho
  split at hop
  ·rename_i e hT
   split at hop
   ·rename_i s m ps hs hm hps
    split at hop
    ·rename_i hc
     obtain⟨c1,c2,c3,c4,c5⟩:=hc
     split at hop
     ·rename_i xs hxs
      cases hop
      subst c1
      obtain⟨u,w',ρ',M',h1,h2⟩:=C.buildSlice (n:=n) (d:=o.dst) hd (fun h=>hfresh n h ⟨Nat.le_refl _,by simp⟩) hrs hev hT hm c2 c3 c4 c5 hps hxs
      intro K Q hK
      refine Ky ?_ (hK u w' ρ' M' h2)
      simp only[execOp,ho]
      refine Vu ?_
      rw[Jjm]
      exact h1
     ·cases hop
    ·cases hop
   ·cases hop
  ·cases hop
 ·-- call
  rename_i c ho
  split at hop
  ·rename_i b hc
   split at hop
   ·rename_i l hl
    exact Jko C hd hrs hev ho hc hl hop hpre hfresh
   ·cases hop
  ·rename_i f hc
   split at hop
   ·rename_i l hl
    obtain⟨ha,_⟩:=Fq hev hl
    refine Hm hΓ C hd hrs hop hpre hfresh fun hE=> ?_
    have hr:=U1 hE (l.map (SV.den ρ)).toArray w
    simp[execOp,ho,resolve,hc,Act.eval,Deferred.ofValue,invoke,ha] at hr⊢
    exact hr
   ·cases hop
  ·rename_i x hnf hc
   split at hop
   ·rename_i f l hx hl
    obtain⟨ha,_⟩:=Fq hev hl
    obtain⟨h1,_⟩:=hev x _ hx
    replace h1:a.eval x= .func (.func f) #[] #[]:=h1
    refine Hm hΓ C hd hrs hop hpre hfresh fun hE=> ?_
    have hr:=U1 hE (l.map (SV.den ρ)).toArray w
    simp[execOp,ho,resolve,hc,h1,Deferred.ofValue,invoke,ha] at hr⊢
    exact hr
   ·rename_i f l hx hl
    obtain⟨ha,_⟩:=Fq hev hl
    obtain⟨h1,_⟩:=hev x _ hx
    replace h1:a.eval x= .func (.func f) #[] #[]:=h1
    refine Hm hΓ C hd hrs hop hpre hfresh fun hE=> ?_
    have hr:=U1 hE (l.map (SV.den ρ)).toArray w
    simp[execOp,ho,resolve,hc,h1,Deferred.ofValue,invoke,ha] at hr⊢
    exact hr
   ·cases hop
    exact(show False from hpre).elim
   ·rename_i j l hx hl
    obtain⟨ha,_⟩:=Fq hev hl
    obtain⟨h1,_⟩:=hev x _ hx
    replace h1:a.eval x=ρ j:=h1
    split at hop
    ·rename_i f first caps hr
     have hj:ρ j= .func (.func f) (first.map (SV.den ρ)).toArray (caps.map (SV.den ρ)).toArray:=hres j _ hr
     refine Hm hΓ C hd hrs hop hpre hfresh fun hE=> ?_
     have hr:=U1 hE ((first++l++caps).map (SV.den ρ)).toArray w
     simp[execOp,ho,resolve,hc,h1,hj,Deferred.ofValue,invoke,ha] at hr⊢
     exact hr
    ·rename_i ps r0 pre h hr
     split at hop
     ·rename_i y hy
      cases hop
      refine Jy4 C hd hrs hr hy hpre hfresh fun f first caps hj hE=> ?_
      have hr:=U1 hE (first++(l.map (SV.den ρ)).toArray++caps) w
      simp[execOp,ho,resolve,hc,h1,hj,Deferred.ofValue,invoke,ha] at hr⊢
      exact hr
     ·cases hop
    ·cases hop
   ·cases hop
  ·rename_i x name hc
   split at hop
   ·rename_i j l hx hl
    obtain⟨ha,_⟩:=Fq hev hl
    obtain⟨h1,_⟩:=hev x _ hx
    replace h1:a.eval x=ρ j:=h1
    split at hop
    ·rename_i T v hr
     split at hop
     ·rename_i f hm
      have hj:ρ j= .iface T (v.den ρ):=hres j _ hr
      refine Hm hΓ C hd hrs hop hpre hfresh fun hE=> ?_
      have hr:=U1 hE ((v::l).map (SV.den ρ)).toArray w
      have hmr:=J2f (P:=P) (w:=w) hm (v.den ρ)
      have hsz:(P.types.size+Made.depth)=(P.types.size+Made.depth-1)+1:=by
       have:0<Made.depth:=by decide
       omega
      rw[List.map_cons] at hr⊢
      simp only[execOp,ho,resolve,hc,Sem.run_bind,Sem.run_pure,Result.andThen_ok,invoke,ha,h1,hj]
      have hm2:(Go.method (P.types.size+Made.depth) T (v.den ρ) name).run P w= .ok (f,v.den ρ) w:=by rw[hsz];exact hmr _
      have ht:List.take l.length (l.map (SV.den ρ))=l.map (SV.den ρ):=List.take_of_length_le (by simp)
      simpa[callMethod,Sem.run_bind,hm2,ht] using hr
     ·cases hop
    ·cases hop
   ·cases hop
 ·-- slice
  rename_i T x lo hi mx ho
  split at hop
  ·rename_i e i hT hx
   have hxi:a.eval x=ρ i:=(hev x _ hx).1
   simp only at hop
   split at hop
   ·rename_i U s xs hr
    split at hop
    ·rename_i l h hl hh
     split at hop
     ·rename_i hsz
      cases hop
      have hp:0≤l∧l≤h∧h≤xs.length:=hpre
      have b1:=J9a hev hl hp.1
      have b2:=J9a hev hh (by omega)
      exact(Jev C hd ho hxi hT hsz b1 (by simpa using b2) (by omega) (by omega) hfresh _).1 (hrs i _ hr)
     ·cases hop
    ·cases hop
   ·rename_i U s xs hr
    split at hop
    ·rename_i hmx0 _ h0 _
     split at hop
     ·rename_i h hh
      split at hop
      ·rename_i hsz
       obtain⟨hsz,rfl⟩:=hsz
       cases hop
       have hp:0≤h∧h≤xs.length:=hpre
       have b2:=J9a hev hh (by omega)
       exact Jte C hd ho hxi hT hsz (by simpa using b2) (by omega) (hrs i _ hr) hfresh _
      ·cases hop
     ·cases hop
    ·split at hop
     ·rename_i l h hl hh
      split at hop
      ·rename_i hsz
       cases hop
       have hp:0≤l∧l≤h∧h≤xs.length:=hpre
       have b1:=J9a hev hl hp.1
       have b2:=J9a hev hh (by omega)
       exact(Jev C hd ho hxi hT hsz b1 (by simpa using b2) (by omega) (by omega) hfresh _).2 (hrs i _ hr)
      ·cases hop
     ·cases hop
   ·cases hop
  ·rename_i b hT hx
   split at hop
   ·rename_i l h hl hh
    cases hop
    have hp:0≤l∧l≤h∧h≤b.size:=hpre
    have b1:=J9a hev hl hp.1
    have b2:=J9a hev hh (by omega)
    refine Ji C hd rfl rfl ?_ (fun id hid=>by simp[SV.ids,K1,SC.ids] at hid)
    simp only[execOp,ho,(hev x _ hx).1]
    refine Vu ?_
    simp only[Instr.sliceAt,Sem.run_bind,run_underlying hT,Result.andThen_ok]
    exact Jlm (w:=w) hT b b1 (by simpa using b2) (by omega) (by omega)
   ·cases hop
  ·cases hop
 ·-- makeMap
  rename_i T r ho
  split at hop
  ·rename_i kT vT hT
   split at hop
   ·rename_i ks gk vs gv h1 h2 h3 h4
    split at hop
    ·rename_i hc
     cases hop
     obtain⟨p1,p2⟩:=hpre
     exact Jl9 C hd ho ⟨h2,hc.1,hc.2.1,hc.2.2,p1,p2⟩ hfresh
    ·cases hop
   ·cases hop
  ·cases hop
 ·-- mapUpdate
  rename_i T m k x ho
  split at hop
  ·rename_i kT vT i hT hm
   split at hop
   ·rename_i kT' gk gv ks vs l hr
    split at hop
    ·rename_i g kc g' vc hk hx
     split at hop
     ·rename_i hc
      obtain⟨rfl,rfl,rfl⟩:=hc
      split at hop
      ·rename_i kd vd hkd hvd
       cases hop
       exact F7 C hd hrs (.inl ho) hT (hev m _ hm).1 (hev k _ hk).1 (hev x _ hx).1 hkd hvd hr
      ·cases hop
     ·cases hop
    ·cases hop
   ·cases hop
  ·cases hop
 ·-- insert
  rename_i T m k x ho
  split at hop
  ·rename_i kT vT i hT hm
   split at hop
   ·rename_i kT' gk gv ks vs l hr
    split at hop
    ·rename_i g kc g' vc hk hx
     split at hop
     ·rename_i hc
      obtain⟨rfl,rfl,rfl⟩:=hc
      split at hop
      ·rename_i kd vd hkd hvd
       cases hop
       exact F7 C hd hrs (.inr ho) hT (hev m _ hm).1 (hev k _ hk).1 (hev x _ hx).1 hkd hvd hr
      ·cases hop
     ·cases hop
    ·cases hop
   ·cases hop
  ·cases hop
 ·-- lookup
  rename_i T x k ok ho
  split at hop
  ·rename_i kT vT i hT hx
   split at hop
   ·rename_i kT' gk gv ks vs l hr
    split at hop
    ·rename_i g kc hk
     split at hop
     ·rename_i hc
      obtain⟨rfl,rfl⟩:=hc
      split at hop
      ·rename_i kd zd hkd hz
       split at hop
       ·cases hop
        exact(Jdc C hd ho hT (hev x _ hx).1 (hev k _ hk).1 hkd hz (hrs i _ hr)).1 rfl hfresh
       ·cases hop
        exact(Jdc C hd ho hT (hev x _ hx).1 (hev k _ hk).1 hkd hz (hrs i _ hr)).2 rfl hfresh
      ·cases hop
     ·cases hop
    ·cases hop
   ·cases hop
  ·cases hop
 ·-- range
  rename_i T x ho
  split at hop
  ·rename_i s hT hx
   cases hop
   exact Jlu C hd ho hT (hev x _ hx).1 hfresh
  ·cases hop
 ·-- makeInterface
  rename_i T x ho
  split at hop
  ·cases hop
  ·rename_i dd c hni hT hx
   split at hop
   ·rename_i v hv
    cases hop
    refine Ji C hd rfl rfl ?_ (fun id hid=>by simp[SV.ids,K1,SC.ids] at hid)
    have hcv:c.den ρ=v:=by
     unfold Jxx at hv
     split at hv<;>cases hv<;>rfl
    have h1:a.eval x=v:=by rw[(hev x _ hx).1];exact hcv
    simp only[execOp,ho,h1]
    refine Vu ?_
    simp only[Instr.makeInterface,Sem.run_bind,run_underlying hT,Result.andThen_ok]
    cases dd<;>first|rfl|exact absurd rfl (hni _)
   ·cases hop
  ·rename_i dd cs hni hT hx
   cases hop
   have h1:=hev x _ hx
   refine Jw9 C hd ?_ h1.2 hfresh
   simp only[execOp,ho,h1.1]
   refine Vu ?_
   simp only[Instr.makeInterface,Sem.run_bind,run_underlying hT,Result.andThen_ok]
   cases dd<;>first|rfl|exact absurd rfl (hni _)
  ·cases hop
 ·-- panic
  rename_i x ho
  split at hop
  ·cases hop
   exact(show False from hpre).elim
  ·cases hop
 ·-- makeSlice
  rename_i T l c ho
  split at hop
  ·rename_i e k m k' m' hT hl hc
   split at hop
   ·rename_i s i z hs hi hz
    split at hop
    ·rename_i hcnd
     split at hop
     ·rename_i d hdec
      cases hop
      obtain⟨p1,p2⟩:=hpre
      exact Js9 C hd ho hT hi hz hcnd.1 hdec hcnd.2.1 (hev l _ hl).1 (hev c _ hc).1 p1 p2 hcnd.2.2 hfresh _
     ·cases hop
    ·cases hop
   ·cases hop
  ·cases hop
 ·-- makeFunc
  rename_i f first caps ho
  split at hop
  ·rename_i l1 l2 h1 h2
   cases hop
   obtain⟨e1,i1⟩:=Hz hev h1
   obtain⟨e2,i2⟩:=Hz hev h2
   have hids:∀id∈(Res.clo f l1 l2).ids,al id:=by
    intro id hid
    rcases List.mem_append.1 hid with hid|hid
    ·obtain⟨v,hv,hv'⟩:=List.mem_flatMap.1 hid;exact i1 v hv id hv'
    ·obtain⟨v,hv,hv'⟩:=List.mem_flatMap.1 hid;exact i2 v hv id hv'
   exact Jxy C hd ho e1 e2 hids hfresh
  ·cases hop
 ·cases hop
end
end Go.Sx
namespace Go.Sx
open Go.RowKit
abbrev Jus (l:List Rec):Prop:=l.Pairwise fun a b=>b.ix<a.ix
theorem Hk {p:Rec→Bool}:∀{l:List Rec} {r:Rec},Jus l→l.find? p=some r→r∈l∧p r=true∧∀r'∈l,p r'=true→r'.ix≤r.ix
 |[],_,_,h=>by simp at h
 | x :: l, r, hd, h => by
  replace hd:=List.pairwise_cons.1 hd
  by_cases hx:p x=true
  ·rw[List.find?_cons_of_pos hx] at h
   cases h
   refine⟨by simp,hx,fun r' hr _=> ?_⟩
   rcases List.mem_cons.1 hr with rfl|hr
   ·exact Nat.le_refl _
   ·exact Nat.le_of_lt (hd.1 r' hr)
  ·rw[List.find?_cons_of_neg hx] at h
   obtain⟨h1,h2,h3⟩:=Hk hd.2 h
   refine⟨by simp[h1],h2,fun r' hr hp=> ?_⟩
   rcases List.mem_cons.1 hr with rfl|hr
   ·exact absurd hp hx
   ·exact h3 r' hr hp
theorem V9:∀{l:List Rec} {r r':Rec},Jus l→r∈l→r'∈l→r.ix=r'.ix→r=r'
 |[],_,_,_,h,_,_=>by simp at h
 |x::l,r,r',hd,h,h',e=>by
  replace hd:=List.pairwise_cons.1 hd
  rcases List.mem_cons.1 h with e1|h1<;>rcases List.mem_cons.1 h' with e2|h2
  ·rw[e1,e2]
  ·have:=hd.1 r' h2;rw[←e1] at this;omega
  ·have:=hd.1 r h1;rw[←e2] at this;omega
  ·exact V9 hd.2 h1 h2 e
theorem Jkb {p:Rec→Bool} {l:List Rec} {r:Rec} (hd:Jus l) (h1:r∈l) (h2:p r=true) (h3:∀r'∈l,p r'=true→r'.ix≤r.ix):l.find? p=some r:=by
 cases h:l.find? p with
 |none=>rw[List.find?_eq_none] at h;exact absurd h2 (h r h1)
 |some r'=>
  obtain⟨q1,q2,q3⟩:=Hk hd h
  rw[V9 hd q1 h1 (Nat.le_antisymm (h3 r' q1 q2) (q3 r h1 h2))]
theorem Jf0 {p:Rec→Bool} {l l':List Rec} (hd:Jus l) (hd':Jus l') (h:∀r,p r=true→(r∈l↔r∈l')):l.find? p=l'.find? p:=by
 cases e:l.find? p with
 |some r=>
  obtain⟨q1,q2,q3⟩:=Hk hd e
  exact(Jkb hd' ((h r q2).1 q1) q2 fun r' hr hp=>q3 r' ((h r' hp).2 hr) hp).symm
 |none=>
  symm
  rw[List.find?_eq_none] at e⊢
  exact fun r hr hp=>e r ((h r hp).2 hr) hp
theorem Xv (t:Nat):∀(l:List Rec),Fv l t=l.find? fun r=>decide (r.dst=some t)
 |[]=>rfl
 |r::l=>by
  simp only[Fv,List.find?_cons,Xv t l]
  by_cases h:r.dst=some t<;>simp[h]
theorem Le (id:Nat):∀(l:List Rec),Jhu l id=(l.find? fun r=>(Ze r id).isSome).bind fun r=>(Ze r id).map fun x=>(r,x)
 |[]=>rfl
 |r::l=>by
  simp only[Jhu,List.find?_cons,Le id l]
  cases h:Ze r id<;>simp[h]
theorem Je3 (j:Nat):∀(l:List Rec),Kf1 l j=l.find? fun r=>decide (r.ix=j)
 |[]=>rfl
 |r::l=>by
  simp only[Kf1,List.find?_cons,Je3 j l]
  by_cases h:r.ix=j<;>simp[h]
theorem Dz {l:List Rec} {id:Nat} {r:Rec} {x:Option Res} (hd:Jus l) (h:Jhu l id=some (r,x)):r∈l∧Ze r id=some x∧∀r'∈l,(Ze r' id).isSome=true→r'.ix≤r.ix:=by
 rw[Le] at h
 cases hf:l.find? fun r=>(Ze r id).isSome with
 |none=>rw[hf] at h;cases h
 |some r'=>
  rw[hf] at h
  obtain⟨q1,q2,q3⟩:=Hk hd hf
  simp only[Option.bind_some,Option.map_eq_some_iff] at h
  obtain⟨y,hy,e⟩:=h
  cases e
  exact⟨q1,hy,q3⟩
theorem Jv3 {l:List Rec} {id:Nat} {r:Rec} {x:Option Res} (hd:Jus l) (h1:r∈l) (h2:Ze r id=some x) (h3:∀r'∈l,(Ze r' id).isSome=true→r'.ix≤r.ix):Jhu l id=some (r,x):=by
 rw[Le,Jkb hd h1 (by simp[h2]) h3]
 simp[h2]
theorem Jv2 {l:List Rec} {id:Nat}:Jhu l id=none↔∀r∈l,Ze r id=none:=by
 rw[Le]
 cases hf:l.find? fun r=>(Ze r id).isSome with
 |none=>
  rw[List.find?_eq_none] at hf
  simp only[Option.bind_none,true_iff]
  intro r hr
  have:=hf r hr
  simpa using this
 |some r=>
  have h1:=List.mem_of_find?_eq_some hf
  have h2:=List.find?_some hf
  obtain⟨x,hx⟩:=Option.isSome_iff_exists.1 h2
  simp only[Option.bind_some,hx,Option.map_some]
  constructor
  ·intro h;cases h
  ·intro h;rw[h r h1] at hx;cases hx
def Zl (bs:Nat→Option Bool) (gc:GC):Bool:=gc.all fun p=>bs p.1==some p.2
theorem Jmh {bs:Nat→Option Bool}:∀{gc:GC},Jth bs gc↔Zl bs gc=true
 |[]=>by simp[Jth,Zl]
 |[(j,w)]=>by
  simp only[Jth,Zl,List.all_cons,List.all_nil,Bool.and_true]
  cases bs j<;>simp
 |(j,w)::q::r=>by
  simp only[Jth]
  rw[Jmh (gc:=q::r)]
  simp only[Zl,List.all_cons,Bool.and_eq_true]
  cases bs j<;>simp[and_comm]
theorem Jcs {bs:Nat→Option Bool} {a b:GC} (h:Ju9 a b=true) (hb:Zl bs b=true):Zl bs a=true:=by
 simp only[Zl,Ju9,List.all_eq_true,List.contains_iff_mem] at*
 exact fun x hx=>hb x (h x hx)
theorem Hl (p:Prop) (r:List Prop):Us (p::r)↔p∧Us r:=by
 cases r with
 |nil=>simp[Us]
 |cons q r=>rfl
theorem J3 {l l':List Prop}:Us (l++l')↔Us l∧Us l':=by
 induction l with
 |nil=>simp[Us]
 |cons p r ih=>rw[List.cons_append,Hl,Hl,ih,and_assoc]
theorem J21 {l:List Prop}:Us l↔∀p∈l,p:=by
 induction l with
 |nil=>simp[Us]
 | cons p r ih =>
  rw[Hl,ih]
  constructor
  ·rintro⟨h1,h2⟩ q hq
   rcases List.mem_cons.1 hq with rfl|hq
   ·exact h1
   ·exact h2 q hq
  ·intro h
   exact⟨h p List.mem_cons_self,fun q hq=>h q (List.mem_cons_of_mem _ hq)⟩
theorem Jn8 {bs:Nat→Option Bool}:∀{recs:List Rec},Us (Klz bs recs)→∀r∈recs,Zl bs r.gc=true→Us r.out.pre
 |[],_,r,hr=>by simp at hr
 | x :: l, h, r, hr => by
  simp only[Klz,J3] at h
  rcases List.mem_cons.1 hr with rfl|hr
  ·intro hg
   have h2:=h.2
   split at h2
   ·exact h2
   ·rw[J21] at h2⊢
    intro p hp
    exact h2 _ (List.mem_map.2 ⟨p,hp,rfl⟩) (Jmh.2 hg)
  ·exact Jn8 h.1 r hr
section
variable {P:Program} {Γ:Gam} {an:Jcb} {ops:List Oper} {st:St}
def Xq (P:Program) (Γ:Gam) (an:Jcb) (ops:List Oper) (st:St):List Rec→Prop
 |[]=>True
 |r::l=>Xq P Γ an ops st l∧∃o,ops[l.length]? =some o∧Jvc P Γ an ops st (Jeq st.nx l) l.length l o=some r
theorem Ui {nx n:Nat} {all:List Rec} {o:Oper} {r:Rec} (h:Jvc P Γ an ops st nx n all o=some r):
  r.ix=n∧r.base=nx∧r.dst=o.dst∧r.touch=Ji7 an (evR an ops n st (Jam an n all) r.gc) o∧Kl1 an ops n (Jam an n all) o=some r.gc∧(∀t,o.dst=some t→J4y an ops n t=true)∧(∀u∈r.out.upd,u.1<nx)∧
  Kf3 P Γ an ops st nx n (Jam an n all) r.gc o=some r.out:=by
 unfold Jvc at h
 split at h
 ·cases h
 ·rename_i gc hgc
  split at h
  ·rename_i out hout
   split at h
   ·rename_i hc
    obtain⟨hw,hu⟩:=hc
    cases h
    refine⟨rfl,rfl,rfl,rfl,hgc,fun t ht=>by unfold K6r at hw;rw[ht] at hw;exact hw,fun u hu'=> ?_,hout⟩
    have:=List.all_eq_true.1 hu u hu'
    simpa[Nat.blt_eq] using this
   ·cases h
  ·cases h
theorem Jn1:∀(rest:List Oper) {nx n:Nat} {recs res:List Rec},Xq P Γ an ops st recs→recs.length=n→nx=Jeq st.nx recs→ops.drop n=rest→J7e P Γ an ops st rest nx n recs=some res→Xq P Γ an ops st res∧res.length=n+rest.length
 |[],nx,n,recs,res,h,hn,_,_,hr=>by cases hr;exact⟨h,hn⟩
 | o :: r, nx, n, recs, res, h, hn, hx, hd, hr => by
  simp only[J7e] at hr
  split at hr
  ·rename_i x hx'
   obtain⟨p1,p2,_⟩:=Ui hx'
   have ho:ops[n]? =some o:=by
    have:=congrArg (fun l=>l[0]?) hd
    simpa using this
   have:=Jn1 r (recs:=x::recs) ⟨h,o,by rw[hn];exact ho,by rw[hn,←hx];exact hx'⟩ (by simp[hn]) (by simp[Jeq,p2]) (by rw[←List.drop_drop,hd];rfl) hr
   exact⟨this.1,by rw[this.2];simp;omega⟩
  ·cases hr
theorem Xq.tail {l l':List Rec} (h:Xq P Γ an ops st (l++l')):Xq P Γ an ops st l':=by
 induction l with
 |nil=>exact h
 |cons x l ih=>exact ih h.1
theorem Xq.ix {l:List Rec} (h:Xq P Γ an ops st l):∀r∈l,r.ix<l.length:=by
 induction l with
 |nil=>intro r hr;simp at hr
 |cons x l ih=>
  intro r hr
  obtain⟨h1,o,_,h3⟩:=h
  rcases List.mem_cons.1 hr with rfl|hr
  ·rw[(Ui h3).1];simp
  ·have:=ih h1 r hr;simp;omega
theorem Xq.desc {l:List Rec} (h:Xq P Γ an ops st l):Jus l:=by
 induction l with
 |nil=>exact .nil
 |cons x l ih=>
  obtain⟨h1,o,_,h3⟩:=h
  refine List.pairwise_cons.2 ⟨fun r hr=> ?_,ih h1⟩
  rw[(Ui h3).1]
  exact h1.ix r hr
theorem Xq.nx {l:List Rec} (h:Xq P Γ an ops st l):st.nx≤Jeq st.nx l∧∀r∈l,st.nx≤r.base∧r.base+r.out.news.length≤Jeq st.nx l:=by
 induction l with
 |nil=>exact⟨Nat.le_refl _,fun r hr=>by simp at hr⟩
 | cons x l ih =>
  obtain⟨h1,o,_,h3⟩:=h
  obtain⟨i1,i2⟩:=ih h1
  have hb:=(Ui h3).2.1
  refine⟨by simp only[Jeq];omega,fun r hr=> ?_⟩
  rcases List.mem_cons.1 hr with rfl|hr
  ·exact⟨by omega,Nat.le_refl _⟩
  ·have:=i2 r hr
   exact⟨this.1,by simp only[Jeq];omega⟩
theorem Xq.bases {l:List Rec} (h:Xq P Γ an ops st l):l.Pairwise fun a b=>b.base+b.out.news.length≤a.base:=by
 induction l with
 |nil=>exact .nil
 |cons x l ih=>
  obtain⟨h1,o,_,h3⟩:=h
  refine List.pairwise_cons.2 ⟨fun r hr=> ?_,ih h1⟩
  rw[(Ui h3).2.1]
  exact(h1.nx.2 r hr).2
theorem Xq.later {l:List Rec} (h:Xq P Γ an ops st l) {r r':Rec} (hr:r∈l) (hr':r'∈l) (hi:r.ix<r'.ix):r.base+r.out.news.length≤r'.base:=by
 have hd:=h.desc
 have hb:=h.bases
 clear h
 induction l with
 |nil=>simp at hr
 |cons x l ih=>
  replace hd:=List.pairwise_cons.1 hd
  replace hb:=List.pairwise_cons.1 hb
  rcases List.mem_cons.1 hr with e|hr1<;>rcases List.mem_cons.1 hr' with e'|hr2
  ·rw[e,e'] at hi;omega
  ·have:=hd.1 r' hr2;rw[←e] at this;omega
  ·rw[e'];exact hb.1 r hr1
  ·exact ih hr1 hr2 hd.2 hb.2
theorem Xq.at {l:List Rec} (h:Xq P Γ an ops st l) {i:Nat} (hi:i<l.length):∃r o early,r∈l∧r.ix=i∧ops[i]? =some o∧Xq P Γ an ops st early∧early.length=i∧
  Jvc P Γ an ops st (Jeq st.nx early) i early o=some r∧(∀s,s∈early↔s∈l∧s.ix<i)∧∃fr,l=fr++r::early:=by
 induction l with
 |nil=>simp at hi
 | cons x l ih =>
  have hx:=List.pairwise_cons.1 h.desc
  obtain⟨h1,o,h2,h3⟩:=h
  have hix:=(Ui h3).1
  by_cases e:i=l.length
  ·subst e
   refine⟨x,o,l,by simp,hix,h2,h1,rfl,h3,fun s=> ?_,[],rfl⟩
   constructor
   ·intro hs;exact⟨by simp[hs],by have:=hx.1 s hs;omega⟩
   ·rintro⟨hs,hlt⟩
    rcases List.mem_cons.1 hs with rfl|hs
    ·omega
    ·exact hs
  ·have hi':i<l.length:=by simp at hi;omega
   obtain⟨r,o',early,q1,q2,q3,q4,q5,q6,q7,fr,q8⟩:=ih h1 hi'
   refine⟨r,o',early,by simp[q1],q2,q3,q4,q5,q6,fun s=> ?_,x::fr,by rw[q8];rfl⟩
   rw[q7]
   constructor
   ·rintro⟨a,b⟩;exact⟨by simp[a],b⟩
   ·rintro⟨a,b⟩
    rcases List.mem_cons.1 a with rfl|a
    ·omega
    ·exact⟨a,b⟩
end
end Go.Sx
namespace Go.Sx
open Go.RowKit
theorem Kk.weaken [Dr] {P:Program} {N B:Nat} {w0:Yu} {al al':Nat→Prop} {τ τ':Nat→Option SV} {σ σ':Nat→Option Res} {a:Act} {w:World} {ρ:Env} {M R:Nat→Prop}
  (C:Kk P N B w0 al τ σ a w ρ M R) (hτ:∀t v,τ' t=some v→τ t=some v) (hσ:∀i x,σ' i=some x→σ i=some x) (hal:∀i,al' i↔al i):Kk P N B w0 al' τ' σ' a w ρ M R:=by
 have e:al'=al:=funext fun i=>propext (hal i)
 subst e
 exact⟨C.size,C.defers,C.nomark,C.stay,C.stayR,C.below,C.base,fun t v h=>C.slot t v (hτ t v h),fun t v h=>C.slotIds t v (hτ t v h),fun r x h=>C.resA r x (hσ r x h),fun r x h=>C.resIds r x (hσ r x h),
  fun r r' x x' hne h h'=>C.apart r r' x x' hne (hσ r x h) (hσ r' x' h'),C.old,C.one,C.up,C.good⟩
theorem Kk.world [Dr] {P:Program} {N B:Nat} {w0:Yu} {al:Nat→Prop} {τ:Nat→Option SV} {σ:Nat→Option Res} {a:Act} {w:World} {ρ:Env} {M R:Nat→Prop} (C:Kk P N B w0 al τ σ a w ρ M R) {w':World} (hh:w'.heap=w.heap) (hb:Below B w w'):
  Kk P N B w0 al τ σ a w' ρ M R:=by
 have hk:∀r x,σ r=some x→Jir P ρ M R B w0 w' r x:=fun r x h=>(C.resA r x h).keep rfl (fun _ _=>rfl) (fun _ h=>h) (fun _ _=>by rw[hh]) (fun ho b hb=>⟨by rw[hh],(C.notM h ho hb).1⟩)
 exact⟨C.size,C.defers.keep (fun _ h=>h) (fun _ _=>by rw[hh]),C.nomark,fun b hb=>by rw[hh];exact C.stay b hb,fun b hb=>by rw[hh];exact C.stayR b hb,C.below.trans hb,by rw[hh];exact C.base,C.slot,C.slotIds,hk,C.resIds,C.apart,fun b hb=>by rw[hh];exact C.old b hb,C.one,C.up,C.good⟩
section
variable {P:Program} {Γ:Gam} {an:Jcb} {ops:List Oper} {st:St}
def Fx (recs:List Rec) (S:Nat→Bool):List Rec:=recs.filter fun r=>S r.ix
def Hg (recs:List Rec) (r:Rec):Bool:=Zl (Jai recs) r.gc
def Jc5 (recs:List Rec) (st:St) (S:Nat→Bool) (t:Nat):Option SV:=match Fv (Fx recs S) t with
 |some r=>if Hg recs r=true then some r.out.val else some Vb
 |none=>look st.sl t
def Jgn (recs:List Rec) (st:St) (S:Nat→Bool) (id:Nat):Option Res:=match Jhu (Fx recs S) id with
 |some (r,x)=>if Hg recs r=true then x else none
 |none=>look st.rs id
def alS (recs:List Rec) (al0:Nat→Prop) (S:Nat→Bool) (id:Nat):Prop:=
 al0 id∨∃r∈recs,S r.ix=true∧Hg recs r=true∧r.base≤id∧id<r.base+r.out.news.length
def Kre (P:Program) (Γ:Gam) (an:Jcb) (ops:List Oper) (st:St) (r s:Rec) (early:List Rec):Prop:=
 ∃i y o out,s.touch=some [i]∧r.out.upd=[(i,some y)]∧r.gc=[]∧s.out.upd=[]∧s.out.news=[]∧r.out.news=[]∧ops[s.ix]? =some o∧(∀c x y,o.op≠ .pick c x y)∧
  opS P Γ (evR an ops s.ix st (Jam an s.ix early) s.gc) (fun id=>if id=i then some y else none) s.base o=some out∧out.upd=[]∧out.news=[]∧out.pre=[]∧out.val=s.out.val
def Klo (P:Program) (Γ:Gam) (an:Jcb) (ops:List Oper) (st:St) (recs:List Rec):Prop:=∀r∈recs,∀fr s early,recs=fr++s::early→r.out.upd≠[]→r.ix≠s.ix→
 cmpB an r.ix s.ix=true∨(∃l,s.touch=some l∧∀u∈r.out.upd,s.new u.1=false∧l.contains u.1=false∧look s.out.upd u.1=none)∨Kre P Γ an ops st r s early
theorem Jq2 {i j:Nat} (h:i≠j):cmpB none i j=true:=by
 unfold cmpB Jkr
 cases hb:Nat.blt i j with
 |true=>rfl
 | false =>
  have:¬i<j:=by
   intro hlt
   rw[show Nat.blt i j=true from by simpa[Nat.blt_eq] using hlt] at hb
   cases hb
  simp[Nat.blt_eq];omega
theorem Ju0 {recs:List Rec}:Klo P Γ none ops st recs:=fun _ _ _ _ _ _ _ hne=> .inl (Jq2 hne)
theorem J63 {r s:Rec} (h:Kr3 an r s=true) (hu:r.out.upd≠[]) (hne:r.ix≠s.ix):cmpB an r.ix s.ix=true∨∃l,s.touch=some l∧∀u∈r.out.upd,s.new u.1=false∧l.contains u.1=false∧look s.out.upd u.1=none:=by
 unfold Kr3 at h
 have hu':r.out.upd.isEmpty=false:=by simpa using hu
 have hne':Nat.beq r.ix s.ix=false:=by
  cases hb:Nat.beq r.ix s.ix with
  |false=>rfl
  |true=>exact absurd (Nat.eq_of_beq_eq_true hb) hne
 rw[hu',Bool.false_or,hne',Bool.false_or,Bool.or_eq_true] at h
 rcases h with h2|h2
 ·exact .inl h2
 ·split at h2
  ·rename_i l hl
   refine .inr ⟨l,hl,fun u hu=> ?_⟩
   have:=List.all_eq_true.1 h2 u hu
   simp only[Bool.and_eq_true,Bool.not_eq_true',Option.isNone_iff_eq_none] at this
   exact this
  ·cases h2
theorem J9t {r s:Rec} {early:List Rec} {qs:List Prop} (h:Kxf P Γ an ops st r s early=some qs) (hq:Us qs):Kre P Γ an ops st r s early:=by
 unfold Kxf at h
 split at h
 ·rename_i i j y o h1 h2 h3
  split at h
  ·rename_i hc
   obtain⟨rfl,c1,c2,c3,c4,c5⟩:=hc
   split at h
   ·cases h
   ·rename_i hnp
    split at h
    ·rename_i out ho
     split at h
     ·rename_i hd
      cases h
      exact⟨i,y,o,out,h1,h2,List.isEmpty_iff.1 c1,List.isEmpty_iff.1 c3,List.isEmpty_iff.1 c4,List.isEmpty_iff.1 c5,h3,fun c x y e=>hnp c x y e,ho,List.isEmpty_iff.1 hd.1,List.isEmpty_iff.1 hd.2.1,List.isEmpty_iff.1 hd.2.2,hq⟩
     ·cases h
    ·cases h
  ·cases h
 ·cases h
theorem Jnr {s:Rec} {early:List Rec}:∀{l:List Rec} {qs:List Prop},Klu P Γ an ops st s early l=some qs→Us qs→∀r∈l,r.out.upd≠[]→r.ix≠s.ix→
  cmpB an r.ix s.ix=true∨(∃l,s.touch=some l∧∀u∈r.out.upd,s.new u.1=false∧l.contains u.1=false∧look s.out.upd u.1=none)∨Kre P Γ an ops st r s early
 |[],_,_,_,r,hr=>by simp at hr
 | x :: l, qs, h, hq, r, hr => by
  intro hu hne
  simp only[Klu] at h
  split at h
  ·rename_i ps hps
   split at h
   ·rename_i hb
    cases h
    rcases List.mem_cons.1 hr with rfl|hr
    ·rcases J63 hb hu hne with h1|h1
     ·exact .inl h1
     ·exact .inr (.inl h1)
    ·exact Jnr hps hq r hr hu hne
   ·split at h
    ·rename_i ql hql
     cases h
     obtain⟨q1,q2⟩:=J3.1 hq
     rcases List.mem_cons.1 hr with rfl|hr
     ·exact .inr (.inr (J9t hql q1))
     ·exact Jnr hps q2 r hr hu hne
    ·cases h
  ·cases h
theorem Ju1 {all:List Rec}:∀{l:List Rec} {qs:List Prop},Kdm P Γ an ops st all l=some qs→Us qs→∀r∈all,∀fr s early,l=fr++s::early→r.out.upd≠[]→r.ix≠s.ix→
  cmpB an r.ix s.ix=true∨(∃l,s.touch=some l∧∀u∈r.out.upd,s.new u.1=false∧l.contains u.1=false∧look s.out.upd u.1=none)∨Kre P Γ an ops st r s early
 |[],_,_,_,r,_,fr,s,early,e=>by simp at e
 | x :: l, qs, h, hq, r, hr, fr, s, early, e => by
  simp only[Kdm] at h
  split at h
  ·rename_i a b ha hb
   cases h
   obtain⟨q1,q2⟩:=J3.1 hq
   cases fr with
   |nil=>
    simp only[List.nil_append,List.cons.injEq] at e
    obtain⟨rfl,rfl⟩:=e
    exact Jnr ha q1 r hr
   |cons y fr=>
    simp only[List.cons_append,List.cons.injEq] at e
    exact Ju1 hb q2 r hr fr s early e.2
  ·cases h
theorem Juv {i t:Nat}:∀{l:List Oper} {k:Nat},Klt an i t l k=true→∀j o,l[j]? =some o→o.dst=some t→k+j≠i→cmpB an i (k+j)=true
 |[],_,_,j,o,h,_,_=>by simp at h
 | x :: l, k, h, j, o, ho, hd, hne => by
  simp only[Klt,Bool.and_eq_true] at h
  cases j with
  |zero=>
   simp only[List.getElem?_cons_zero,Option.some.injEq] at ho
   subst ho
   have h1:=h.1
   rw[hd] at h1
   simp only[Bool.or_eq_true] at h1
   rcases h1 with h1|h1|h1
   ·simp at h1
   ·exact absurd (Nat.eq_of_beq_eq_true h1) hne
   ·exact h1
  |succ j=>
   have:=Juv h.2 j o (by simpa using ho) hd (by omega)
   rwa[show k+(j+1)=k+1+j by omega]
theorem Juu {i t:Nat} (h:J4y an ops i t=true) {j:Nat} {o:Oper} (ho:ops[j]? =some o) (hd:o.dst=some t) (hne:j≠i):cmpB an i j=true:=by
 cases an with
 |none=>exact Jq2 (Ne.symm hne)
 |some ms=>
  have:=Juv (k:=0) h j o ho hd (by omega)
  rwa[Nat.zero_add] at this
theorem Jq3 {i j:Nat}:cmpB an i j=true→i≠j→cmpB an j i=true:=by
 intro h hne
 unfold cmpB at*
 rcases Nat.lt_or_gt_of_ne hne with hlt|hlt
 ·have h1:Nat.blt i j=true:=by simpa[Nat.blt_eq] using hlt
  have h2:Nat.blt j i=false:=by
   cases hb:Nat.blt j i with
   |false=>rfl
   |true=>rw[Nat.blt_eq] at hb;omega
  rw[h1] at h;rw[h2];exact h
 ·have h1:Nat.blt j i=true:=by simpa[Nat.blt_eq] using hlt
  have h2:Nat.blt i j=false:=by
   cases hb:Nat.blt i j with
   |false=>rfl
   |true=>rw[Nat.blt_eq] at hb;omega
  rw[h2] at h;rw[h1];exact h
theorem Jkk {S:Nat→Bool} (hcl:∀i j,S i=true→Jkr an i j=true→S j=true) {i j:Nat} (h:cmpB an i j=true) (hi:S i=false) (hj:S j=true):Jkr an i j=true∧j<i:=by
 have hne:j≠i:=fun e=>by rw[e,hi] at hj;cases hj
 unfold cmpB at h
 cases hb:Nat.blt i j with
 |true=>
  rw[hb] at h
  have:=hcl j i hj h
  rw[hi] at this;cases this
 | false =>
  rw[hb] at h
  refine⟨h, ?_⟩
  have:¬i<j:=by
   intro hlt
   rw[show Nat.blt i j=true from by simpa[Nat.blt_eq] using hlt] at hb
   cases hb
  omega
theorem Jaq {i:Nat} {early recs:List Rec} (he:∀s,s∈early↔s∈recs∧s.ix<i) (s:Rec):s∈Jam an i early↔s∈recs∧s.ix<i∧Jkr an i s.ix=true:=by
 unfold Jam
 cases an with
 |none=>
  simp only[he,Jkr,Nat.blt_eq]
  constructor
  ·rintro⟨a,b⟩;exact⟨a,b,b⟩
  ·rintro⟨a,b,_⟩;exact⟨a,b⟩
 |some ms=>simp only[List.mem_filter,he,and_assoc]
theorem Vd {recs:List Rec} {S:Nat→Bool} {s:Rec}:s∈Fx recs S↔s∈recs∧S s.ix=true:=List.mem_filter
theorem Ya {l:List Rec} (h:Jus l) (p:Rec→Bool):Jus (l.filter p):=List.Pairwise.sublist List.filter_sublist h
theorem Jef {i:Nat} {l:List Rec} (h:Jus l):Jus (Jam an i l):=by
 unfold Jam
 cases an with
 |none=>exact h
 |some ms=>exact Ya h _
theorem He {r:Rec} {id:Nat} (h:(Ze r id).isSome=true):(r.base≤id∧id<r.base+r.out.news.length)∨(r.out.upd≠[]∧∃y,(id,y)∈r.out.upd):=by
 unfold Ze at h
 split at h
 ·rename_i hc;exact .inl hc
 ·obtain⟨y,hy⟩:=Option.isSome_iff_exists.1 h
  have:=Kd hy
  exact .inr ⟨List.ne_nil_of_mem this,y,this⟩
theorem Jfc (v:Value):(ofValue v).ids=[]:=by
 cases v<;>first|rfl|simp[ofValue,SV.ids,Jcq]
theorem Jbz {v:SV} {b:Bool} (h:Fb v=some b):v= .one (.bool b):=by
 unfold Fb at h
 split at h
 ·cases h;rfl
 ·cases h
end
end Go.Sx
namespace Go.Sx
open Go.RowKit
section
variable {P:Program} {Γ:Gam} {an:Jcb} {ops:List Oper} {st:St} {N B:Nat} {w0:Yu} {R:Nat→Prop} {recs:List Rec} {al0:Nat→Prop}
structure Jc3 (P:Program) (Γ:Gam) (an:Jcb) (ops:List Oper) (st:St) (recs:List Rec) (S:Nat→Bool) (i:Nat) (r:Rec) (o:Oper) (early:List Rec):Prop where
 run:Xq P Γ an ops st recs
 mem:r∈recs
 ix:r.ix=i
 op:ops[i]? =some o
 eRun:Xq P Γ an ops st early
 eMem:∀s,s∈early↔s∈recs∧s.ix<i
 eNx:r.base=Jeq st.nx early
 dst:r.dst=o.dst
 touch:r.touch=Ji7 an (evR an ops i st (Jam an i early) r.gc) o
 gc:Kl1 an ops i (Jam an i early) o=some r.gc
 wr:∀t,o.dst=some t→J4y an ops i t=true
 upd:∀u∈r.out.upd,u.1<r.base
 out:Kf3 P Γ an ops st r.base i (Jam an i early) r.gc o=some r.out
 closed:∀i j,S i=true→Jkr an i j=true→S j=true
 fresh:S i=false
 suf:∃fr,recs=fr++r::early
 ancs:∀j,Jkr an i j=true→S j=true
variable {S:Nat→Bool} {i:Nat} {r:Rec} {o:Oper} {early:List Rec}
theorem Jc3.dsts (H:Jc3 P Γ an ops st recs S i r o early) {s:Rec} (hs:s∈recs):∃os,ops[s.ix]? =some os∧s.dst=os.dst:=by
 obtain⟨r',o',e',h1,h2,h3,_,_,h6,_,_⟩:=H.run.at (H.run.ix s hs)
 have:r'=s:=V9 H.run.desc h1 hs h2
 subst this
 exact⟨o',h3,(Ui h6).2.2.1⟩
theorem Jc3.same (H:Jc3 P Γ an ops st recs S i r o early) {p:Rec→Bool} (hp:∀s∈recs,p s=true→s.ix≠i→cmpB an i s.ix=true):(Jam an i early).find? p=(Fx recs S).find? p:=by
 refine Jf0 (Jef H.eRun.desc) (Ya H.run.desc _) fun s hs=> ?_
 rw[Jaq H.eMem,Vd]
 constructor
 ·rintro⟨h1,_,h3⟩;exact⟨h1,H.ancs _ h3⟩
 ·rintro⟨h1,h2⟩
  have hne:s.ix≠i:=fun e=>by rw[e,H.fresh] at h2;cases h2
  obtain⟨q1,q2⟩:=Jkk H.closed (hp s h1 hs hne) H.fresh h2
  exact⟨h1,q2,q1⟩
theorem Jc3.slot (H:Jc3 P Γ an ops st recs S i r o early) {t:Nat} (ht:J4y an ops i t=true):Fv (Jam an i early) t=Fv (Fx recs S) t:=by
 rw[Xv,Xv]
 refine H.same fun s hs hp hne=> ?_
 obtain⟨os,h1,h2⟩:=H.dsts hs
 exact Juu ht h1 (h2▸of_decide_eq_true hp) hne
theorem Jc3.ev [Dr] (H:Jc3 P Γ an ops st recs S i r o early) {a:Act} {w:World} {ρ:Env} {M:Nat→Prop} (C:Kk P N B w0 (alS recs al0 S) (Jc5 recs st S) (Jgn recs st S) a w ρ M R) {gc:GC} (hg:Zl (Jai recs) gc=true) {x:Operand} {sv:SV} (h:evR an ops i st (Jam an i early) gc x=some sv):
  a.eval x=sv.den ρ∧∀id∈sv.ids,alS recs al0 S id:=by
 cases x with
 | tmp t =>
  simp only[evR] at h
  split at h
  ·rename_i ht
   rw[H.slot ht] at h
   have key:Jc5 recs st S t=some sv:=by
    unfold Jc5
    cases hs:Fv (Fx recs S) t with
    |none=>rw[hs] at h;exact h
    | some s =>
     rw[hs] at h
     simp only at h⊢
     split at h
     ·rename_i hsub
      rw[if_pos (show Hg recs s=true from Jcs hsub hg)];exact h
     ·cases h
   exact⟨C.slot t sv key,C.slotIds t sv key⟩
  ·cases h
 |const v=>cases h;exact⟨(Jf6 ρ v).symm,fun id hid=>by rw[Jfc] at hid;simp at hid⟩
 |func f=>cases h;exact⟨rfl,fun id hid=>by simp[SV.ids,K1,SC.ids] at hid⟩
 |global g=>cases h
theorem Jc3.rs (H:Jc3 P Γ an ops st recs S i r o early) (hU:Klo P Γ an ops st recs) (hna:∀id rr x,Jhu (Fx recs S) id=some (rr,x)→(∃y,(id,y)∈rr.out.upd)→(∀l,r.touch=some l→l.contains id=true)→rr∈Jam an i early) (hst:∀id x,look st.rs id=some x→id<st.nx) {gc:GC} (hg:Zl (Jai recs) gc=true) {id:Nat} {x:Res} (h:rsT r.touch (rsR st (Jam an i early) gc) id=some x):
  Jgn recs st S id=some x:=by
 have hd:=Ya H.run.desc fun r=>S r.ix
 have hdv:=Jef (an:=an) (i:=i) H.eRun.desc
 have hrt:rsR st (Jam an i early) gc id=some x∧∀l,r.touch=some l→l.contains id=true:=by
  unfold rsT at h
  split at h
  ·rename_i e;exact⟨h,fun l hl=>by rw[e] at hl;cases hl⟩
  ·rename_i l e
   split at h
   ·rename_i hc;exact⟨h,fun l' hl=>by rw[e] at hl;cases hl;exact hc⟩
   ·cases h
 obtain⟨h,htc⟩:=hrt
 unfold rsR at h
 unfold Jgn
 cases hj:Jhu (Fx recs S) id with
 | none =>
  cases hv:Jhu (Jam an i early) id with
  |none=>rw[hv] at h;exact h
  |some p=>
   obtain⟨s,y⟩:=p
   obtain⟨h1,h2,_⟩:=Dz hdv hv
   obtain⟨m1,m2,m3⟩:=(Jaq H.eMem s).1 h1
   rw[Jv2] at hj
   rw[hj s (Vd.2 ⟨m1,H.ancs _ m3⟩)] at h2;cases h2
 | some q =>
  obtain⟨rr,x'⟩:=q
  obtain⟨g1,g2,g3⟩:=Dz hd hj
  obtain⟨n1,n2⟩:=Vd.1 g1
  have hvis : rr ∈ Jam an i early := by
   rcases He (r:=rr) (id:=id) (by rw[g2];rfl) with hc|⟨_,hc⟩
   ·-- new there: whoever sees the identity
    cases hv:Jhu (Jam an i early) id with
    |none=>
     rw[hv] at h
     have:=(H.run.nx.2 rr n1).1
     have:=hst id x h
     omega
    | some p =>
     obtain⟨s,y⟩:=p
     obtain⟨h1,h2,h3⟩:=Dz hdv hv
     obtain⟨m1,m2,m3⟩:=(Jaq H.eMem s).1 h1
     have hle:=g3 s (Vd.2 ⟨m1,H.ancs _ m3⟩) (by rw[h2];rfl)
     rcases Nat.lt_or_ge s.ix rr.ix with hlt|hge
     ·exfalso
      have hb:=H.run.later m1 n1 hlt
      rcases He (r:=s) (id:=id) (by rw[h2];rfl) with hc'|⟨_,z,hz⟩
      ·omega
      ·obtain⟨r',o',e',q1,q2,q3,q4,q5,q6,q7⟩:=H.run.at (H.run.ix s m1)
       have e:=V9 H.run.desc q1 m1 q2
       subst e
       have:=(Ui q6).2.2.2.2.2.2.1 _ hz
       have hbase:=(Ui q6).2.1
       simp only at this
       omega
     ·have:=V9 H.run.desc m1 n1 (by omega)
      rw[←this];exact h1
   ·exact hna id rr x' hj hc htc
  have hsame:Jhu (Jam an i early) id=some (rr,x'):=Jv3 hdv hvis g2 fun s hs ht=>by
   obtain⟨m1,m2,m3⟩:=(Jaq H.eMem s).1 hs
   exact g3 s (Vd.2 ⟨m1,H.ancs _ m3⟩) ht
  rw[hsame] at h
  simp only at h⊢
  split at h
  ·rename_i hsub
   rw[if_pos (show Hg recs rr=true from Jcs hsub hg)];exact h
  ·cases h
theorem Jc3.slotAfter (H:Jc3 P Γ an ops st recs S i r o early) {S':Nat→Bool} (hS:∀j,S' j=true↔S j=true∨j=i) (t:Nat):Fv (Fx recs S') t=if o.dst=some t then some r else Fv (Fx recs S) t:=by
 have hd:=Ya H.run.desc fun r=>S r.ix
 have hd':=Ya H.run.desc fun r=>S' r.ix
 rw[Xv,Xv]
 split
 ·rename_i e
  refine Jkb hd' (Vd.2 ⟨H.mem,(hS _).2 (.inr H.ix)⟩) (by simp[H.dst,e]) fun s hs hp=> ?_
  obtain⟨s1,s2⟩:=Vd.1 hs
  rw[H.ix]
  by_cases hne:s.ix=i
  ·exact Nat.le_of_eq hne
  ·have hSs:S s.ix=true:=((hS _).1 s2).resolve_right hne
   obtain⟨os,h1,h2⟩:=H.dsts s1
   exact Nat.le_of_lt (Jkk H.closed (Juu (H.wr t e) h1 (h2▸of_decide_eq_true hp) hne) H.fresh hSs).2
 ·rename_i e
  refine Jf0 hd' hd fun s hp=> ?_
  rw[Vd,Vd,hS]
  constructor
  ·rintro⟨h1,h2|h2⟩
   ·exact⟨h1,h2⟩
   ·have:s=r:=V9 H.run.desc h1 H.mem (by rw[H.ix];exact h2)
    subst this
    exact absurd (H.dst▸of_decide_eq_true hp) e
  ·rintro⟨h1,h2⟩;exact⟨h1, .inl h2⟩
theorem Jc3.resAfter (H:Jc3 P Γ an ops st recs S i r o early) (hU:Klo P Γ an ops st recs) {S':Nat→Bool} (hS:∀j,S' j=true↔S j=true∨j=i) (id:Nat):
  Jhu (Fx recs S') id=match Ze r id with|some x=>some (r,x)|none=>Jhu (Fx recs S) id:=by
 have hd:=Ya H.run.desc fun r=>S r.ix
 have hd':=Ya H.run.desc fun r=>S' r.ix
 cases hr:Ze r id with
 | some x =>
  refine Jv3 hd' (Vd.2 ⟨H.mem,(hS _).2 (.inr H.ix)⟩) hr fun s hs ht=> ?_
  obtain⟨s1,s2⟩:=Vd.1 hs
  rw[H.ix]
  rcases Nat.lt_or_ge i s.ix with hlt|hge
  ·exfalso
   have hne:s.ix≠i:=by omega
   have hSs:S s.ix=true:=((hS _).1 s2).resolve_right hne
   have hb:=H.run.later H.mem s1 (by rw[H.ix];exact hlt)
   have hri:=He (r:=r) (id:=id) (by rw[hr];rfl)
   rcases He ht with hc|⟨hc,y,hy⟩
   ·rcases hri with hc'|⟨_,z,hz⟩
    ·omega
    ·have:=H.upd _ hz;simp only at this;omega
   ·obtain⟨fr,hsuf⟩:=H.suf
    rcases hU s s1 fr r early hsuf hc (by rw[H.ix];exact hne) with hcm|⟨_,_,hn⟩|⟨_,_,_,_,_,_,_,a4,a5,_⟩
    ·rw[H.ix] at hcm
     have:=(Jkk H.closed (Jq3 hcm hne) H.fresh hSs).2
     omega
    ·obtain⟨n1,_,n3⟩:=hn _ hy
     unfold Ze at hr
     split at hr
     ·rename_i hcc
      simp[Rec.new] at n1
      omega
     ·simp only at n3
      rw[n3] at hr;cases hr
    ·unfold Ze at hr
     rw[a4,a5] at hr
     simp only[List.length_nil,look] at hr
     split at hr
     ·omega
     ·cases hr
  ·exact hge
 | none =>
  simp only
  rw[Le,Le]
  congr 1
  refine Jf0 hd' hd fun s hp=> ?_
  rw[Vd,Vd,hS]
  constructor
  ·rintro⟨h1,h2|h2⟩
   ·exact⟨h1,h2⟩
   ·have:s=r:=V9 H.run.desc h1 H.mem (by rw[H.ix];exact h2)
    subst this
    rw[hr] at hp;cases hp
  ·rintro⟨h1,h2⟩;exact⟨h1, .inl h2⟩
theorem Jc3.alLive (H:Jc3 P Γ an ops st recs S i r o early) {S':Nat→Bool} (hS:∀j,S' j=true↔S j=true∨j=i) (hl:Hg recs r=true) (id:Nat):alS recs al0 S' id↔Lz (alS recs al0 S) r.base r.out.news id:=by
 unfold alS Lz
 constructor
 ·rintro(h|⟨s,h1,h2,h3,h4⟩)
  ·exact .inl (.inl h)
  ·rcases(hS _).1 h2 with h2|h2
   ·exact .inl (.inr ⟨s,h1,h2,h3,h4⟩)
   ·have:s=r:=V9 H.run.desc h1 H.mem (by rw[H.ix];exact h2)
    subst this
    exact .inr h4
 ·rintro((h|⟨s,h1,h2,h3,h4⟩)|h)
  ·exact .inl h
  ·exact .inr ⟨s,h1,(hS _).2 (.inl h2),h3,h4⟩
  ·exact .inr ⟨r,H.mem,(hS _).2 (.inr H.ix),hl,h⟩
theorem Jc3.alDead (H:Jc3 P Γ an ops st recs S i r o early) {S':Nat→Bool} (hS:∀j,S' j=true↔S j=true∨j=i) (hl:Hg recs r=false) (id:Nat):alS recs al0 S' id↔alS recs al0 S id:=by
 unfold alS
 constructor
 ·rintro(h|⟨s,h1,h2,h3,h4⟩)
  ·exact .inl h
  ·rcases(hS _).1 h2 with h2|h2
   ·exact .inr ⟨s,h1,h2,h3,h4⟩
   ·have:s=r:=V9 H.run.desc h1 H.mem (by rw[H.ix];exact h2)
    subst this
    rw[hl] at h3;cases h3
 ·rintro(h|⟨s,h1,h2,h3,h4⟩)
  ·exact .inl h
  ·exact .inr ⟨s,h1,(hS _).2 (.inl h2),h3,h4⟩
theorem Jc3.fresh' (H:Jc3 P Γ an ops st recs S i r o early) (hal0:∀id,al0 id→id<st.nx) (id:Nat) (h:alS recs al0 S id):¬(r.base≤id∧id<r.base+r.out.news.length):=by
 rcases h with h|⟨s,h1,h2,h3,h4⟩
 ·have:=hal0 id h
  have:=(H.run.nx.2 r H.mem).1
  omega
 ·have hne:s.ix≠r.ix:=fun e=>by rw[e,H.ix,H.fresh] at h2;cases h2
  rcases Nat.lt_or_gt_of_ne hne with hlt|hlt
  ·have:=H.run.later h1 H.mem hlt;omega
  ·have:=H.run.later H.mem h1 hlt;omega
end
end Go.Sx
namespace Go.Sx
open Go.RowKit
def FR (rd:Option Nat):Fence:={Fence.wide with round:=rd}
theorem Zv {rd:Option Nat} {n:Nat} {P:Program} {f:FuncId} {args:Array Value} {w:World} {R:Ending→World→Prop}:CallsIn (FR rd) n P f args w R↔Calls P f args w R:=
 (callsIn_wide (n:=n) (P:=P) (f:=f) (args:=args) (w:=w) (R:=R))
theorem Jvz {rd:Option Nat} {n:Nat} {P:Program} {row:String} {args:Array Value} {w:World} {R:Value→World→Prop} (h:Rows P row args w R):RowsIn (FR rd) n P row args w R:=
 fun c cs _=>let⟨v,w',r,s⟩:=h c cs;⟨v,w',r,stepsIn_wide.2 s⟩
theorem Js5 {rd:Option Nat} {P:Program} {o:Oper} {a:Act} {w:World} {K:Act→World→Prop} {Q:Exit→Act→World→Prop} (hnd:∀c,o.op≠ .defer c) (h:o.wp P a w K Q):o.wpIn (FR rd) 0 P a w K Q:=by
 unfold Oper.wp at h
 unfold Oper.wpIn
 refine⟨fun _ _=>trivial, ?_⟩
 rw[Oper.semAt_eq _ _ _ hnd]
 revert h
 generalize(execOp a.eval o).run P w=r
 cases r with
 | ok x w' =>
  cases x<;>simp only[Oper.upon,Oper.uponIn]<;>intro h<;>
   first
    |exact h
    |exact⟨fun h=>by simp[FR,Fence.wide] at h,Zv.2 h⟩
    |exact⟨fun h=>by simp[FR,Fence.wide] at h,Jvz h⟩
    |exact h.elim
 |halt x w'=>cases x<;>simp only[Oper.upon,Oper.uponIn]<;>intro h<;>first|exact h|exact h.elim
section
variable {P:Program} {Γ:Gam} {an:Jcb} {ops:List Oper} {st:St} {N B:Nat} {w0:Yu} {R:Nat→Prop} {recs:List Rec} {al0:Nat→Prop}
variable {S:Nat→Bool} {i:Nat} {r:Rec} {o:Oper} {early:List Rec}
theorem Jif (hr:Xq P Γ an ops st recs) {s:Rec} (hs:s∈recs):Jai recs s.ix=Fb s.out.val:=by
 unfold Jai
 rw[Je3,Jkb hr.desc hs (by simp) fun r' _ h=>by simp at h;omega]
theorem Jc3.wanted [Dr] (H : Jc3 P Γ an ops st recs S i r o early) {a : Act} {w : World} {ρ : Env} {M : Nat → Prop} (C : Kk P N B w0 (alS recs al0 S) (Jc5 recs st S) (Jgn recs st S) a w ρ M R) {opsA : Array Oper} (hA : opsA.toList = ops)
  (hN:∀o∈ops,∀t,o.dst=some t→t<N):Region.wanted o (yielded opsA a.tmps)=Hg recs r:=by
 have hg:=H.gc
 unfold Kl1 at hg
 unfold Region.wanted Hg
 cases hgd:o.guard with
 |none=>
  rw[hgd] at hg
  have:r.gc=[]:=(Option.some.inj hg).symm
  rw[this];rfl
 | some jw =>
  obtain⟨j,want⟩:=jw
  rw[hgd] at hg
  simp only at hg⊢
  split at hg
  ·rename_i s hs
   split at hg
   ·rename_i b t hb ht
    split at hg
    ·rename_i hw
     split at hg
     ·rename_i s' hs'
      split at hg
      ·rename_i hj
       have hgc:(j,want)::s.gc=r.gc:=Option.some.inj hg
       have hdv:=Jef (an:=an) (i:=i) H.eRun.desc
       have hsf:s∈Jam an i early∧s.ix=j:=by
        rw[Je3] at hs
        obtain⟨q1,q2,_⟩:=Hk hdv hs
        exact⟨q1,of_decide_eq_true q2⟩
       have hs'f:s'∈Jam an i early:=by
        rw[Xv] at hs'
        exact(Hk hdv hs').1
       have e:s'=s:=V9 hdv hs'f hsf.1 (by rw[hj,hsf.2])
       subst e
       have hsr:=((Jaq H.eMem s').1 hsf.1).1
       obtain⟨os,ho1,ho2⟩:=H.dsts hsr
       have hdt:os.dst=some t:=by rw[←ho2];exact ht
       have hopsA:opsA[j]? =some os:=by rw[←Array.getElem?_toList,hA,←hsf.2];exact ho1
       have htN:t<N:=hN os (List.mem_of_getElem? ho1) t hdt
       have hy:yielded opsA a.tmps j=match a.tmps.getD t undef with| .bool b=>some b|_=>none:=by
        have hsz:t<a.tmps.size:=by rw[C.size];exact htN
        simp only[yielded,hopsA,Option.bind_some,hdt,Array.getD_eq_getD_getElem?,Array.getElem?_eq_getElem hsz,Option.getD_some]
        cases a.tmps[t]<;>rfl
       have hsl:Fv (Fx recs S) t=some s':=by rw[←H.slot hw];exact hs'
       have hbs:Jai recs j=some b:=by rw[←hsf.2,Jif H.run hsr];exact hb
       have hgr:Zl (Jai recs) r.gc=(b==want&&Hg recs s'):=by
        rw[←hgc]
        simp[Zl,hbs,Hg]
       rw[hgr,hy]
       cases hl:Hg recs s' with
       |true=>
        have:=C.slot t s'.out.val (by unfold Jc5;rw[hsl];simp only;rw[if_pos hl])
        rw[this,Jbz hb]
        simp[SV.den,Jm,SC.den]
       |false=>
        have:=C.slot t Vb (by unfold Jc5;rw[hsl];simp[hl])
        rw[this]
        simp[Vb,SV.den,Jm,SC.den,undef]
      ·cases hg
     ·cases hg
    ·cases hg
   ·cases hg
  ·cases hg
theorem Jc3.pick [Dr] (H:Jc3 P Γ an ops st recs S i r o early) {a:Act} {w:World} {ρ:Env} {M:Nat→Prop} (C:Kk P N B w0 (alS recs al0 S) (Jc5 recs st S) (Jgn recs st S) a w ρ M R) (hl:Hg recs r=true) {c x y:Operand} (ho:o.op= .pick c x y) {out:Out}
  (h:J7o an ops i st (Jam an i early) r.gc c x y=some out):(execOp a.eval o).run P w= .ok (.value (out.val.den ρ)) w∧out.news=[]∧out.upd=[]∧out.val.ids=[]:=by
 have fin:∀(b:Bool) (gt gf:GC),a.eval c= .bool b→(b=true→Zl (Jai recs) gt=true)→(b=false→Zl (Jai recs) gf=true)→
   (match evR an ops i st (Jam an i early) gt x,evR an ops i st (Jam an i early) gf y with
    |some v,some u=>match Fb v,Fb u with
     |some p,some q=>Out.pure (.one (.bool (bif b then p else q)))
     |_,_=>none
    |_,_=>none)=some out→(execOp a.eval o).run P w= .ok (.value (out.val.den ρ)) w∧out.news=[]∧out.upd=[]∧out.val.ids=[]:=by
  intro b gt gf hc hgt hgf hf
  split at hf
  ·rename_i v u hv hu
   split at hf
   ·rename_i p q hp hq
    cases hf
    refine⟨?_,rfl,rfl,rfl⟩
    cases b with
    |true=>
     have e:=(H.ev C (hgt rfl) hv).1
     rw[Jbz hp] at e
     simp[execOp,ho,hc,asBool,e,SV.den,Jm,SC.den]
    |false=>
     have e:=(H.ev C (hgf rfl) hu).1
     rw[Jbz hq] at e
     simp[execOp,ho,hc,asBool,e,SV.den,Jm,SC.den]
   ·cases hf
  ·cases hf
 unfold J7o at h
 simp only at h
 split at h
 ·rename_i t
  split at h
  ·rename_i hw
   have hsl:=H.slot hw
   split at h
   ·rename_i s hs
    split at h
    ·rename_i hsub
     split at h
     ·rename_i b hb
      rw[hs] at hsl
      have hls:Hg recs s=true:=Jcs hsub hl
      have e:=C.slot t s.out.val (by unfold Jc5;rw[←hsl];simp only;rw[if_pos hls])
      rw[Jbz hb] at e
      have hsr:s∈recs:=by
       rw[Xv] at hs
       exact((Jaq H.eMem s).1 (Hk (Jef H.eRun.desc) hs).1).1
      have hbs:=Jif H.run hsr
      rw[hb] at hbs
      refine fin b _ _ e (fun hb'=> ?_) (fun hb'=> ?_) h<;>
      ·simp only[Zl,List.all_cons,hbs,hb',Bool.and_eq_true]
       exact⟨by simp,hl⟩
     ·cases h
    ·cases h
   ·rename_i hs
    split at h
    ·rename_i v hv
     split at h
     ·rename_i b hb
      rw[hs] at hsl
      have e:=C.slot t v (by unfold Jc5;rw[←hsl];exact hv)
      rw[Jbz hb] at e
      exact fin b _ _ e (fun _=>hl) (fun _=>hl) h
     ·cases h
    ·cases h
  ·cases h
 ·cases h
theorem Jfa {P:Program} {Γ:Gam} {ev:Operand→Option SV} {rs:Nat→Option Res} {n:Nat} {o:Oper} {out:Out} (h:opS P Γ ev rs n o=some out):∀c,o.op≠ .defer c:=by
 intro c e
 unfold opS at h
 rw[e] at h
 cases h
theorem Jc3.step [Dr] (H:Jc3 P Γ an ops st recs S i r o early) (hΓ:Xf P Γ) (hU:Klo P Γ an ops st recs) (hst:∀id x,look st.rs id=some x→id<st.nx) (hal0:∀id,al0 id→id<st.nx) (hN:∀o∈ops,∀t,o.dst=some t→t<N)
  (hpre:Hg recs r=true→Us r.out.pre) {a:Act} {w:World} {ρ:Env} {M:Nat→Prop} (C:Kk P N B w0 (alS recs al0 S) (Jc5 recs st S) (Jgn recs st S) a w ρ M R) {opsA:Array Oper} (hA:opsA.toList=ops)
  {S':Nat→Bool} (hS:∀j,S' j=true↔S j=true∨j=i) {rd:Option Nat} {K:Act→World→Prop} {Q:Exit→Act→World→Prop}
  (hK:∀a' w' ρ' M',Kk P N B w0 (alS recs al0 S') (Jc5 recs st S') (Jgn recs st S') a' w' ρ' M' R→K a' w'):wpOpIn (FR rd) 0 P opsA Q i K a w:=by
 have hoA:opsA[i]? =some o:=by rw[←Array.getElem?_toList,hA];exact H.op
 have hd:∀t,o.dst=some t→t<N:=hN o (List.mem_of_getElem? H.op)
 unfold wpOpIn
 rw[hoA]
 simp only
 rw[H.wanted C hA hN]
 cases hl:Hg recs r with
 | true =>
  rw[if_pos rfl]
  have hnd:∀c,o.op≠ .defer c:=by
   have hout:=H.out
   unfold Kf3 at hout
   split at hout
   ·rename_i c x y ho;intro c' e;rw[ho] at e;cases e
   ·exact Jfa hout
  refine Js5 hnd ?_
  have hsound : X4 P N B w0 (alS recs al0 S) (Jc5 recs st S) (Jgn recs st S) a w R r.base o r.out := by
   have hout:=H.out
   unfold Kf3 at hout
   split at hout
   ·rename_i c x y ho
    obtain⟨h1,h2,h3,h4⟩:=H.pick C hl ho hout
    exact Ji C hd h2 h3 h1 (by rw[h4];simp)
   ·rename_i hnp
    rw[←H.touch] at hout
    by_cases hna:∀id rr x,Jhu (Fx recs S) id=some (rr,x)→(∃y,(id,y)∈rr.out.upd)→(∀l,r.touch=some l→l.contains id=true)→rr∈Jam an i early
    ·exact Jjq hΓ C hd (fun id x h=>H.rs hU hna hst hl h) (fun x sv h=>H.ev C hl h) hout (hpre hl) (H.fresh' hal0)
    ·simp only[Classical.not_forall] at hna
     obtain⟨id,rr,x,hj,⟨y,hy⟩,htc,hnv⟩:=hna
     obtain⟨g1,g2,g3⟩:=Dz (Ya H.run.desc fun r=>S r.ix) hj
     obtain⟨n1,n2⟩:=Vd.1 g1
     have hne:rr.ix≠i:=fun e=>by rw[e,H.fresh] at n2;cases n2
     obtain⟨fr,hsuf⟩:=H.suf
     rcases hU rr n1 fr r early hsuf (List.ne_nil_of_mem hy) (by rw[H.ix];exact hne) with hc|⟨l,hc,hn⟩|⟨j,z,o',out,a1,a2,a3,a4,a5,a6,a7,a8,a9,a10,a11,a12,a13⟩
     ·rw[H.ix] at hc
      obtain⟨q1,q2⟩:=Jkk H.closed (Jq3 hc hne) H.fresh n2
      exact absurd ((Jaq H.eMem rr).2 ⟨n1,q2,q1⟩) hnv
     ·have h1:=htc l hc
      rw[(hn _ hy).2.1] at h1;cases h1
     ·have hid:id=j:=by
       have:=htc _ a1
       simpa using this
      subst hid
      have hx:x=some z:=by
       unfold Ze at g2
       rw[a6,a2] at g2
       simp only[List.length_nil,look,if_true] at g2
       split at g2
       ·omega
       ·cases g2;rfl
      subst hx
      rw[H.ix] at a7 a9
      have ho':o'=o:=by rw[H.op] at a7;cases a7;rfl
      subst ho'
      have hsig:Jgn recs st S id=some z:=by
       unfold Jgn
       rw[hj]
       simp only
       rw[if_pos (by unfold Hg;rw[a3];rfl)]
      have hs:=Jjq hΓ C hd (rs:=fun id'=>if id'=id then some z else none) (fun id' x h=>by
       split at h
       ·rename_i e;cases h;rw[e];exact hsig
       ·cases h) (fun x sv h=>H.ev C hl h) a9 (by rw[a12];trivial) (by rw[a11];intro id' _;simp)
      intro K Q hK
      refine hs K Q fun u w' ρ' M' hC=>hK u w' ρ' M' ?_
      rw[a10,a11,a13] at hC
      rw[a4,a5]
      exact hC
  refine hsound K Q fun u w' ρ' M' hC=>hK _ w' ρ' M' (hC.weaken (fun t v h=> ?_) (fun id x h=> ?_) (H.alLive hS hl))
  ·unfold Jc5 at h
   rw[H.slotAfter hS t] at h
   unfold Dn
   split at h
   ·rename_i s hs
    split at hs
    ·rename_i e
     cases hs
     rw[hl] at h
     rw[if_pos e];simpa using h
    ·rename_i e
     rw[if_neg e]
     unfold Jc5;rw[hs];exact h
   ·rename_i hs
    split at hs
    ·cases hs
    ·rename_i e
     rw[if_neg e]
     unfold Jc5;rw[hs];exact h
  ·unfold Jgn at h
   rw[H.resAfter hU hS id] at h
   unfold U2
   cases hr:Ze r id with
   | some y =>
    rw[hr] at h
    simp only[hl,if_true] at h
    subst h
    unfold Ze at hr
    split at hr
    ·rename_i hc
     rw[if_pos hc]
     simpa using hr
    ·rename_i hc
     rw[if_neg hc,hr]
   | none =>
    rw[hr] at h
    unfold Ze at hr
    split at hr
    ·cases hr
    ·rename_i hc
     rw[if_neg hc,hr]
     exact h
 | false =>
  simp only[Bool.false_eq_true,if_false]
  have hC:=C.pure (n:=r.base) (v:=Vb) (u:=undef) hd rfl (fun id hid=>by simp[Vb,SV.ids,K1,SC.ids] at hid)
  have e1:Lz (alS recs al0 S) r.base []=alS recs al0 S:=by funext id;simp[Lz];intro h1 h2;omega
  rw[e1] at hC
  refine⟨fun _ _=>trivial,hK _ w ρ M (hC.weaken (fun t v h=> ?_) (fun id x h=> ?_) (H.alDead hS hl))⟩
  ·unfold Jc5 at h
   rw[H.slotAfter hS t] at h
   unfold Dn
   split at h
   ·rename_i s hs
    split at hs
    ·rename_i e
     cases hs
     rw[hl] at h
     rw[if_pos e];simpa using h
    ·rename_i e
     rw[if_neg e]
     unfold Jc5;rw[hs];exact h
   ·rename_i hs
    split at hs
    ·cases hs
    ·rename_i e
     rw[if_neg e]
     unfold Jc5;rw[hs];exact h
  ·unfold Jgn at h
   rw[H.resAfter hU hS id] at h
   have e2:U2 (Jgn recs st S) r.base [] [] id=Jgn recs st S id:=by
    unfold U2
    rw[if_neg (by simp only[List.length_nil];omega)];rfl
   rw[e2]
   cases hr:Ze r id with
   |some y=>rw[hr] at h;simp[hl] at h
   |none=>rw[hr] at h;exact h
end
end Go.Sx
namespace Go.Sx
open Go.RowKit
theorem Jmj {bnd:Edge→Bool} {g:Nat→Nat} {j:Nat}:∀{l:List Edge} {s:Nat},Nat.testBit (l.foldl (fun s e=>bif bnd e then s|||(2^e.on|||g e.on) else s) s) j=true→
  Nat.testBit s j=true∨∃e∈l,bnd e=true∧(j=e.on∨Nat.testBit (g e.on) j=true)
 |[],s,h=> .inl h
 | e :: l, s, h => by
  rw[List.foldl_cons] at h
  rcases Jmj h with h|⟨e',h1,h2⟩
  ·cases hb:bnd e with
   |false=>rw[hb] at h;exact .inl h
   | true =>
    rw[hb] at h
    simp only[cond_true,Nat.testBit_or,Bool.or_eq_true] at h
    rcases h with h|h|h
    ·exact .inl h
    ·refine .inr ⟨e,by simp,hb, .inl ?_⟩
     rw[Nat.testBit_two_pow] at h
     exact(of_decide_eq_true h).symm
    ·exact .inr ⟨e,by simp,hb, .inr h⟩
  ·exact .inr ⟨e',by simp[h1],h2⟩
theorem Jgh:∀{l:List Oper} {acc:List Nat} {k:Nat},k<acc.length→(Jc0 l acc).getD k 0=acc.getD k 0
 |[],_,_,_=>rfl
 |o::r,acc,k,h=>by
  rw[Jc0,Jgh (by simp;omega)]
  simp[List.getD_eq_getElem?_getD,List.getElem?_append_left h]
theorem Jrk:∀{l:List Oper} {acc:List Nat} {k:Nat} {o:Oper},l[k]? =some o→Jmz l acc.length=true→∀j,Nat.testBit ((Jc0 l acc).getD (acc.length+k) 0) j=true→
  ∃e∈o.after,Region.binds .any e=true∧e.on<acc.length+k∧(j=e.on∨Nat.testBit ((Jc0 l acc).getD e.on 0) j=true)
 |[],_,_,_,h,_,_,_=>by simp at h
 | x :: r, acc, 0, o, h, hb, j, hj => by
  simp only[List.getElem?_cons_zero,Option.some.injEq] at h
  subst h
  simp only[Jmz,Bool.and_eq_true,List.all_eq_true,Bool.or_eq_true,Bool.not_eq_true',Nat.blt_eq] at hb
  rw[Jc0,Nat.add_zero,Jgh (by simp)] at hj
  simp only[List.getD_eq_getElem?_getD,List.getElem?_append_right (Nat.le_refl _),Nat.sub_self,List.getElem?_cons_zero,Option.getD_some] at hj
  rcases Jmj (g:=fun k=>acc[k]?.getD 0) hj with h|⟨e,h1,h2,h3⟩
  ·simp at h
  ·have hlt:e.on<acc.length:=(hb.1 e h1).resolve_left (by simp[h2])
   refine⟨e,by simpa using h1,h2,by omega, ?_⟩
   rw[Jc0,Jgh (by simp;omega)]
   simp only[List.getD_eq_getElem?_getD,List.getElem?_append_left hlt]
   exact h3
 | x :: r, acc, k + 1, o, h, hb, j, hj => by
  simp only[Jmz,Bool.and_eq_true] at hb
  have key:∀acc':List Nat,acc'.length=acc.length+1→Nat.testBit ((Jc0 r acc').getD (acc.length+(k+1)) 0) j=true→
    ∃e∈o.after,Region.binds .any e=true∧e.on<acc.length+(k+1)∧(j=e.on∨Nat.testBit ((Jc0 r acc').getD e.on 0) j=true):=by
   intro acc' hl hj
   obtain⟨e,h1,h2,h3,h4⟩:=Jrk (l:=r) (acc:=acc') (k:=k) (o:=o) (by simpa using h) (by rw[hl];exact hb.2) j (by rw[hl,show acc.length+1+k=acc.length+(k+1) by omega];exact hj)
   exact⟨e,h1,h2,by omega,h4⟩
  exact key _ (by simp) hj
theorem Jms {p q:Nat→Bool}:∀{l:List Nat},(∀x∈l,q x=true→p x=true)→(∃x∈l,p x=true∧q x=false)→l.countP q<l.countP p
 |[],_,⟨x,h,_⟩=>by simp at h
 | a :: l, h, ⟨x, hx, hp, hq⟩ => by
  have hle:∀{l:List Nat},(∀x∈l,q x=true→p x=true)→l.countP q≤l.countP p:=fun h=>List.countP_mono_left h
  rw[List.countP_cons,List.countP_cons]
  rcases List.mem_cons.1 hx with rfl|hx
  ·have:=hle (l:=l) fun y hy=>h y (by simp[hy])
   simp only[hp,hq,if_true,Bool.false_eq_true,if_false];omega
  ·have:=Jms (l:=l) (fun y hy=>h y (by simp[hy])) ⟨x,hx,hp,hq⟩
   have h1:=h a (by simp)
   cases hqa:q a with
   |false=>simp only[Bool.false_eq_true,if_false];omega
   |true=>rw[h1 hqa];simp only[if_true];omega
section
variable {P:Program} {Γ:Gam} {ops:List Oper} {st:St} {N B:Nat} {w0:Yu} {R:Nat→Prop} {recs:List Rec} {al0:Nat→Prop}
theorem Jxe {an:Jcb} {S:Nat→Bool} {i:Nat} (hr:Xq P Γ an ops st recs) (hi:i<recs.length) (hcl:∀i j,S i=true→Jkr an i j=true→S j=true) (hf:S i=false) (ha:∀j,Jkr an i j=true→S j=true):
  ∃r o early,Jc3 P Γ an ops st recs S i r o early:=by
 obtain⟨r,o,early,h1,h2,h3,h4,h5,h6,h7,h8⟩:=hr.at hi
 obtain⟨p1,p2,p3,p4,p5,p6,p7,p8⟩:=Ui h6
 exact⟨r,o,early,hr,h1,h2,h3,h4,h7,p2,p3,p4,p5,p6,by rw[p2];exact p7,by rw[p2];exact p8,hcl,hf,h8,ha⟩
theorem Jhj [Dr] (hΓ:Xf P Γ) (hr:Xq P Γ none ops st recs) (hlen:recs.length=ops.length) (hst:∀id x,look st.rs id=some x→id<st.nx) (hal0:∀id,al0 id→id<st.nx) (hN:∀o∈ops,∀t,o.dst=some t→t<N)
  (hpre:∀r∈recs,Hg recs r=true→Us r.out.pre) {opsA:Array Oper} (hA:opsA.toList=ops) {rd:Option Nat} {Q:Exit→Act→World→Prop}
  (hK:∀a w ρ M S,(∀j,j<recs.length→S j=true)→Kk P N B w0 (alS recs al0 S) (Jc5 recs st S) (Jgn recs st S) a w ρ M R→Q .normal a w):
  ∀(m k:Nat) (S:Nat→Bool) (a:Act) (w:World) (ρ:Env) (M:Nat→Prop),k+m=recs.length→(∀j,S j=true↔j<k)→Kk P N B w0 (alS recs al0 S) (Jc5 recs st S) (Jgn recs st S) a w ρ M R→wpOpsIn (FR rd) 0 P opsA Q (List.range' k m) a w
 |0,k,S,a,w,ρ,M,hk,hS,C=>hK a w ρ M S (fun j hj=>(hS j).2 (by omega)) C
 |m+1,k,S,a,w,ρ,M,hk,hS,C=>by
  rw[List.range'_succ,wpOpsIn_cons]
  have hanc:∀i j,Jkr none i j=true↔j<i:=fun i j=>by simp[Jkr,Nat.blt_eq]
  obtain⟨r,o,early,H⟩:=Jxe (S:=S) (i:=k) hr (by omega) (fun i j hi hj=>by rw[hS] at hi⊢;rw[hanc] at hj;omega) (by cases h:S k with|false=>rfl|true=>rw[hS] at h;omega) (fun j hj=>by rw[hS];rwa[hanc] at hj)
  refine H.step hΓ Ju0 hst hal0 hN (hpre r H.mem) C hA (S':=fun j=>decide (j<k+1)) (fun j=> ?_) fun a' w' ρ' M' C'=>Jhj hΓ hr hlen hst hal0 hN hpre hA hK m (k+1) _ a' w' ρ' M' (by omega) (fun j=>by simp) C'
  rw[hS]
  simp
  omega
theorem Jyw [Dr] (hΓ:Xf P Γ) {ms:List Nat} (hms:ms=Jc0 ops []) (hback:Jmz ops 0=true) (hr:Xq P Γ (some ms) ops st recs) (hU:Klo P Γ (some ms) ops st recs) (hlen:recs.length=ops.length) (hst:∀id x,look st.rs id=some x→id<st.nx) (hal0:∀id,al0 id→id<st.nx) (hN:∀o∈ops,∀t,o.dst=some t→t<N)
  (hpre:∀r∈recs,Hg recs r=true→Us r.out.pre) {opsA:Array Oper} (hA:opsA.toList=ops) {rd:Option Nat} {Q:Exit→Act→World→Prop}
  (hK:∀a w ρ M S,(∀j,j<recs.length→S j=true)→Kk P N B w0 (alS recs al0 S) (Jc5 recs st S) (Jgn recs st S) a w ρ M R→Q .normal a w):
  ∀(fuel:Nat) (listed:Array Bool) (a:Act) (w:World) (ρ:Env) (M:Nat→Prop),listed.size=opsA.size→(List.range opsA.size).countP (fun j=> !listed.getD j false)≤fuel→
   (∀i j,listed.getD i false=true→Jkr (some ms) i j=true→listed.getD j false=true)→Kk P N B w0 (alS recs al0 fun j=>listed.getD j false) (Jc5 recs st fun j=>listed.getD j false) (Jgn recs st fun j=>listed.getD j false) a w ρ M R→
   wpAnyIn (FR rd) 0 P .any opsA Q fuel listed a w:=by
 have hsz:opsA.size=ops.length:=by rw[←hA];simp
 have hop:∀i,opsA[i]? =ops[i]? :=fun i=>by rw[←Array.getElem?_toList,hA]
 have hanc:∀i o,ops[i]? =some o→∀j,Jkr (some ms) i j=true→∃e∈o.after,Region.binds .any e=true∧e.on<i∧(j=e.on∨Jkr (some ms) e.on j=true):=by
  intro i o ho j hj
  have:=Jrk (acc:=[]) ho (by simpa using hback) j (by rw[hms] at hj;simpa[Jkr] using hj)
  obtain⟨e,h1,h2,h3,h4⟩:=this
  exact⟨e,h1,h2,by simpa using h3,by rw[hms];exact h4⟩
 have hb:∀i o,ops[i]? =some o→∀e∈o.after,Region.binds .any e=true→e.on<i:=by
  have:∀(l:List Oper) (n:Nat),Jmz l n=true→∀i o,l[i]? =some o→∀e∈o.after,Region.binds .any e=true→e.on<n+i:=by
   intro l
   induction l with
   |nil=>intro n _ i o ho;simp at ho
   | cons x l ih =>
    intro n h i o ho e he hbd
    simp only[Jmz,Bool.and_eq_true,List.all_eq_true,Bool.or_eq_true,Bool.not_eq_true',Nat.blt_eq] at h
    cases i with
    |zero=>
     simp only[List.getElem?_cons_zero,Option.some.injEq] at ho
     subst ho
     have:=(h.1 e (by simpa using he)).resolve_left (by simp[hbd])
     omega
    |succ i=>
     have:=ih (n+1) h.2 i o (by simpa using ho) e he hbd
     omega
  intro i o ho e he hbd
  have:=this ops 0 hback i o ho e he hbd
  omega
 have hall:∀listed:Array Bool,listed.size=opsA.size→Region.ready .any opsA listed=[]→∀j,j<recs.length→listed.getD j false=true:=by
  intro listed hls hrd j
  induction j using Nat.strongRecOn with
  | _ j ih =>
   intro hj
   cases hl:listed.getD j false with
   |true=>rfl
   | false =>
    exfalso
    have hjl:j<listed.size:=by rw[hls,hsz];omega
    obtain⟨o,ho⟩:∃o,ops[j]? =some o:=⟨_,List.getElem?_eq_getElem (by omega)⟩
    have:j∈Region.ready .any opsA listed:=by
     rw[mem_ready]
     refine⟨by simpa[Array.getD_eq_getD_getElem?,hjl] using hl,o,by rw[hop];exact ho,fun e he hbd=> ?_⟩
     have:=hb j o ho e he hbd
     exact ih e.on this (by omega)
    rw[hrd] at this;simp at this
 intro fuel
 induction fuel with
 | zero =>
  intro listed a w ρ M hls hf hcl C
  have hdone:∀j,j<opsA.size→listed.getD j false=true:=by
   intro j hj
   have h0:(List.range opsA.size).countP (fun j=> !listed.getD j false)=0:=Nat.le_zero.1 hf
   have:=List.countP_eq_zero.1 h0 j (List.mem_range.2 hj)
   simpa using this
  have hrd:Region.ready .any opsA listed=[]:=by
   cases hrd:Region.ready .any opsA listed with
   |nil=>rfl
   |cons j l=>
    have hj:j∈Region.ready .any opsA listed:=by rw[hrd];simp
    obtain⟨h1,o,h2,_⟩:=mem_ready.1 hj
    have hlt:j<opsA.size:=(Array.getElem?_eq_some_iff.1 h2).1
    have h3:=hdone j hlt
    simp[Array.getD_eq_getD_getElem?,hls,hlt] at h1 h3
    rw[h1] at h3;cases h3
  exact⟨hrd,hK a w ρ M _ (fun j hj=>hdone j (by omega)) C⟩
 | succ fuel ih =>
  intro listed a w ρ M hls hf hcl C
  refine⟨fun hrd=>hK a w ρ M _ (hall listed hls hrd) C,fun i hi=> ?_⟩
  obtain⟨h1,o,h2,h3⟩:=mem_ready.1 hi
  have hlt:i<opsA.size:=(Array.getElem?_eq_some_iff.1 h2).1
  have hfr:listed.getD i false=false:=by simpa[Array.getD_eq_getD_getElem?,hls,hlt] using h1
  have hai:∀j,Jkr (some ms) i j=true→listed.getD j false=true:=by
   intro j hj
   obtain⟨e,e1,e2,_,e4⟩:=hanc i o (by rw[←hop];exact h2) j hj
   have:=h3 e e1 e2
   rcases e4 with rfl|e4
   ·exact this
   ·exact hcl _ _ this e4
  obtain⟨r,o',early,H⟩:=Jxe (S:=fun j=>listed.getD j false) (i:=i) hr (by omega) hcl hfr hai
  have hset:∀j,(listed.setIfInBounds i true).getD j false=true↔listed.getD j false=true∨j=i:=by
   intro j
   by_cases hji:j=i
   ·subst hji
    have:j<listed.size:=by omega
    simp[Array.getD_eq_getD_getElem?,this]
   ·rw[getD_set_ne false (Ne.symm hji)]
    simp[hji]
  refine H.step hΓ hU hst hal0 hN (hpre r H.mem) C hA (S':=fun j=>(listed.setIfInBounds i true).getD j false) hset fun a' w' ρ' M' C'=>ih _ a' w' ρ' M' (by simp[hls]) ?_ ?_ C'
  ·have:=Jms (l:=List.range opsA.size) (p:=fun j=> !listed.getD j false) (q:=fun j=> !(listed.setIfInBounds i true).getD j false) (fun x _ hx=>by
    cases hl:listed.getD x false with
    |false=>rfl
    |true=>rw[(hset x).2 (.inl hl)] at hx;cases hx) ⟨i,List.mem_range.2 hlt,by simp[hfr],by rw[(hset i).2 (.inr rfl)];rfl⟩
   omega
  ·intro k j hk hj
   rw[hset] at hk⊢
   rcases hk with hk|rfl
   ·exact .inl (hcl k j hk hj)
   ·exact .inl (hai j hj)
end
end Go.Sx
namespace Go.Sx
open Go.RowKit
theorem Vr {α:Type} {t t':Nat}:∀{l:List (Nat×α)},look (l.filter fun p=>p.1 !=t') t=if t=t' then none else look l t
 |[]=>by simp[look]
 | (i, v) :: l => by
  by_cases h:i=t'
  ·subst h
   rw[List.filter_cons_of_neg (by simp),Vr]
   by_cases e:t=i
   ·simp[e]
   ·simp[e,look,Ne.symm e]
  ·rw[List.filter_cons_of_pos (by simpa using h)]
   simp only[look]
   by_cases e:i=t
   ·subst e;simp[h]
   ·rw[if_neg e,if_neg e,Vr]
theorem Vh {l:List (Nat×Res)} {u:Nat×Option Res} {id:Nat}:look (Uu l u) id=if id=u.1 then u.2 else look l id:=by
 unfold Uu
 split
 ·rename_i x hx
  simp only[look]
  by_cases e:u.1=id
  ·rw[if_pos e,if_pos e.symm,hx]
  ·rw[if_neg e,if_neg (Ne.symm e),Vr,if_neg (Ne.symm e)]
 ·rename_i hx
  rw[Vr]
  by_cases e:id=u.1
  ·rw[if_pos e,if_pos e,hx]
  ·rw[if_neg e,if_neg e]
theorem D2 {l:List (Nat×Res)} {id:Nat}:∀{us:List (Nat×Option Res)},look (us.reverse.foldl Uu l) id=match look us id with|some x=>x|none=>look l id
 |[]=>rfl
 |(i,y)::us=>by
  rw[List.reverse_cons,List.foldl_append]
  simp only[List.foldl_cons,List.foldl_nil,Vh,look]
  by_cases e:i=id
  ·rw[if_pos e.symm,if_pos e]
  ·rw[if_neg (Ne.symm e),if_neg e,D2]
theorem Jh7 {id:Nat}:∀{us:List (Nat×Option Res)} {l:List (Nat×Res)} {x:Res},look (us.foldl (fun rs u=>Uu rs (u.1,none)) l) id=some x→look us id=none∧look l id=some x
 |[],l,x,h=>⟨rfl,h⟩
 | (i, y) :: us, l, x, h => by
  rw[List.foldl_cons] at h
  obtain⟨h1,h2⟩:=Jh7 h
  rw[Vh] at h2
  split at h2
  ·cases h2
  ·rename_i e
   exact⟨by simp only[look];rw[if_neg (Ne.symm e)];exact h1,h2⟩
theorem Jcn {l:List (Nat×Res)} {id:Nat}:∀{news:List Res} {n:Nat},look (Jwr news n++l) id=if n≤id∧id<n+news.length then news[id-n]? else look l id
 |[],n=>by rw[if_neg (by simp only[List.length_nil];omega)];rfl
 | x :: r, n => by
  simp only[Jwr,List.cons_append,look]
  by_cases e:n=id
  ·subst e;simp
  ·rw[if_neg e,Jcn]
   by_cases h:n+1≤id∧id<n+1+r.length
   ·rw[if_pos h,if_pos (by simp only[List.length_cons];omega)]
    rw[show id-n=(id-(n+1))+1 by omega]
    simp
   ·rw[if_neg h,if_neg (by simp only[List.length_cons];omega)]
theorem Jfv {sl:List (Nat×SV)} {t:Nat} {v:SV}:∀{recs:List Rec},look (Jfw recs sl) t=some v→match Fv recs t with|some r=>r.gc=[]∧v=r.out.val|none=>look sl t=some v
 |[],h=>h
 | r :: l, h => by
  simp only[Jfw] at h
  simp only[Fv]
  split at h
  ·rename_i t' ht'
   by_cases e:t'=t
   ·subst e
    rw[if_pos ht']
    split at h
    ·rename_i hg
     simp only[look,if_true] at h
     exact⟨by simpa using hg,(Option.some.inj h).symm⟩
    ·rw[Vr,if_pos rfl] at h;cases h
   ·have hne:¬r.dst=some t:=by rw[ht'];simpa using e
    rw[if_neg hne]
    have:look (Jfw l sl) t=some v:=by
     split at h
     ·simp only[look] at h
      rw[if_neg e,Vr,if_neg (Ne.symm e)] at h
      exact h
     ·rw[Vr,if_neg (Ne.symm e)] at h
      exact h
    exact Jfv this
  ·rename_i ht'
   have hne:¬r.dst=some t:=by rw[ht'];simp
   rw[if_neg hne]
   exact Jfv h
section
variable {P:Program} {Γ:Gam} {an:Jcb} {ops:List Oper} {st:St} {N B:Nat} {w0:Yu} {R:Nat→Prop} {recs:List Rec}
theorem Jfx {rs:List (Nat×Res)} (hst:∀id x,look rs id=some x→id<st.nx) {id:Nat} {x:Res}:∀{recs:List Rec},Xq P Γ an ops st recs→look (Jqv recs rs) id=some x→match Jhu recs id with|some (r,y)=>r.gc=[]∧y=some x|none=>look rs id=some x
 |[],_,h=>h
 | r :: l, hr, h => by
  obtain⟨hl,o,_,hs⟩:=hr
  have hbase:=(Ui hs).2.1
  simp only[Jqv] at h
  simp only[Jhu]
  split at h
  ·rename_i hg
   have hg':r.gc=[]:=by simpa using hg
   rw[Jcn,D2] at h
   unfold Ze
   by_cases hc:r.base≤id∧id<r.base+r.out.news.length
   ·rw[if_pos hc] at h⊢
    exact⟨hg',h⟩
   ·rw[if_neg hc] at h⊢
    cases hu:look r.out.upd id with
    |some y=>rw[hu] at h;exact⟨hg',h⟩
    |none=>
     rw[hu] at h
     exact Jfx hst hl h
  ·obtain⟨h1,h2⟩:=Jh7 h
   have ih:=Jfx hst hl h2
   have hlt:id<Jeq st.nx l:=by
    cases hj:Jhu l id with
    |none=>
     rw[hj] at ih
     have:=hst id x ih
     have:=hl.nx.1
     omega
    | some p =>
     obtain⟨s,y⟩:=p
     obtain⟨q1,q2,_⟩:=Dz hl.desc hj
     have:=(hl.nx.2 s q1).2
     rcases He (r:=s) (id:=id) (by rw[q2];rfl) with hc|⟨_,z,hz⟩
     ·omega
     ·obtain⟨r',o',e',w1,w2,w3,w4,w5,w6,w7⟩:=hl.at (hl.ix s q1)
      have e:=V9 hl.desc w1 q1 w2
      subst e
      have:=(Ui w6).2.2.2.2.2.2.1 _ hz
      have:=(Ui w6).2.1
      simp only at*
      omega
   have:Ze r id=none:=by
    unfold Ze
    rw[if_neg (by omega)]
    exact h1
   rw[this]
   exact ih
def Yl [Dr] (P:Program) (N B:Nat) (w0:Yu) (R:Nat→Prop) (st:St) (a:Act) (w:World):Prop:=
 ∃ρ M al,(∀id,al id→id<st.nx)∧Kk P N B w0 al (look st.sl) (look st.rs) a w ρ M R
theorem Jlt {S:Nat→Bool} (hr:Xq P Γ an ops st recs) (hS:∀j,j<recs.length→S j=true):Fx recs S=recs:=
 List.filter_eq_self.2 fun r h=>hS _ (hr.ix r h)
theorem Jh1 [Dr] (hr:Xq P Γ an ops st recs) {al0:Nat→Prop} (hal0:∀id,al0 id→id<st.nx) (hst:∀id x,look st.rs id=some x→id<st.nx) {a:Act} {w:World} {ρ:Env} {M:Nat→Prop} {S:Nat→Bool} (hS:∀j,j<recs.length→S j=true)
  (C:Kk P N B w0 (alS recs al0 S) (Jc5 recs st S) (Jgn recs st S) a w ρ M R):Yl P N B w0 R (Jc8 recs st).2 a w:=by
 refine⟨ρ,M,alS recs al0 S,fun id h=> ?_,C.weaken (fun t v h=> ?_) (fun id x h=> ?_) fun _=>Iff.rfl⟩
 ·rcases h with h|⟨s,h1,_,_,h4⟩
  ·exact Nat.lt_of_lt_of_le (hal0 id h) hr.nx.1
  ·exact Nat.lt_of_lt_of_le h4.2 (hr.nx.2 s h1).2
 ·have:=Jfv h
  unfold Jc5
  rw[Jlt hr hS]
  cases hj:Fv recs t with
  |none=>rw[hj] at this;exact this
  |some r=>
   rw[hj] at this
   obtain⟨h1,h2⟩:=this
   have:Hg recs r=true:=by unfold Hg;rw[h1];rfl
   simp only[this,if_true,h2]
 ·have:=Jfx hst hr h
  unfold Jgn
  rw[Jlt hr hS]
  cases hj:Jhu recs id with
  |none=>rw[hj] at this;exact this
  |some p=>
   obtain⟨r,y⟩:=p
   rw[hj] at this
   obtain⟨h1,h2⟩:=this
   have:Hg recs r=true:=by unfold Hg;rw[h1];rfl
   simp only[this,if_true,h2]
theorem Kk.start [Dr] {al0:Nat→Prop} {a:Act} {w:World} {ρ:Env} {M:Nat→Prop} (C:Kk P N B w0 al0 (look st.sl) (look st.rs) a w ρ M R) {S:Nat→Bool} (hS:∀j,S j=false):
  Kk P N B w0 (alS recs al0 S) (Jc5 recs st S) (Jgn recs st S) a w ρ M R:=by
 have e:Fx recs S=[]:=List.filter_eq_nil_iff.2 fun r _=>by simp[hS]
 refine C.weaken (fun t v h=> ?_) (fun id x h=> ?_) fun id=> ?_
 ·unfold Jc5 at h;rw[e] at h;exact h
 ·unfold Jgn at h;rw[e] at h;exact h
 ·unfold alS
  simp[hS]
theorem Jxh [Dr] {a:Act} {w:World} (h:Yl P N B w0 R st a w):Yl P N B w0 R (J2q recs st) a w:=by
 obtain⟨ρ,M,al,hal,C⟩:=h
 unfold J2q
 generalize(recs.flatMap fun r=>r.out.upd.filterMap fun u=>match u.2 with|some (.imm _ _ _)=>some (SC.sl u.1)|some (.fbox _ _)=>some (SC.ptr u.1 0)|_=>none)=cs
 have C':=C.freezeX 0 (upd:=Sx.freezeB (look st.rs) cs) fun i y hy=>Zu (Kd hy)
 refine⟨ρ,_,al,hal,C'.weaken (fun _ _ h=>h) (fun id x hx=> ?_) fun _=>Iff.rfl⟩
 rw[D2] at hx
 unfold U2
 rw[if_neg (by simp only[List.length_nil];omega)]
 exact hx
theorem Xk [Dr] {ts:List Nat} {a:Act} {w:World} (h:Yl P N B w0 R st a w):Yl P N B w0 R (Jka ts st) a w:=by
 unfold Jka
 split
 ·exact h
 obtain⟨ρ,M,al,hal,C⟩:=h
 generalize(ts.flatMap fun t=>match look st.sl t with|some (.v _ cs)=>cs|_=>[])=cs
 have C':=C.freeze 0 (upd:=Sx.freeze (look st.rs) cs) fun i y hy=>Xl (Kd hy)
 refine⟨ρ,_,al,hal,C'.weaken (fun _ _ h=>h) (fun id x hx=> ?_) fun _=>Iff.rfl⟩
 rw[D2] at hx
 unfold U2
 rw[if_neg (by simp only[List.length_nil];omega)]
 exact hx
theorem Jal {ps:List Prop} {q:Prop}:Jcc ps q↔Us ps∧q:=by
 unfold Jcc
 split
 ·simp[Us]
 ·rfl
theorem Jv6 [Dr] (hm:P.follows .mixedOrders=true) (hΓ:Xf P Γ) {dr:Bool} {ps:List Prop} {st':St} (h:Klx P Γ ops dr st=some (ps,st')) (hp:Us ps) {a:Act} {w:World} (hs:Yl P N B w0 R st a w) (hN:∀o∈ops,∀t,o.dst=some t→t<N)
  {opsA:Array Oper} (hA:opsA.toList=ops) {rd:Option Nat} {Q:Exit→Act→World→Prop} (hK:∀a' w',Yl P N B w0 R st' a' w'→Q .normal a' w') (id:Nat):(Code.region id opsA dr).wpIn (FR rd) 0 P Q a w:=by
 have hsz:opsA.size=ops.length:=by rw[←hA];simp
 unfold Klx at h
 cases dr with
 | false =>
  simp only at h
  split at h
  ·cases h
  ·rename_i recs hr
   cases h
   obtain⟨h1,h2⟩:=Jn1 ops (recs:=[]) (n:=0) trivial rfl rfl rfl hr
   obtain⟨ρ,M,al,hal,C⟩:=hs
   have hst:∀id x,look st.rs id=some x→id<st.nx:=fun id x h=>hal id (C.resIds id x h).1
   refine wpIn_region ?_
   rw[List.range_eq_range']
   refine Jhj hΓ h1 (by omega) hst hal hN (fun r hr hl=>Jn8 hp r hr hl) hA (fun a w ρ M S hS C=>hK a w (Jh1 h1 hal hst hS C)) opsA.size 0 (fun _=>false) a w ρ M (by omega) (fun j=>by simp) (C.start fun _=>rfl)
 | true =>
  simp only at h
  split at h
  ·rename_i hb
   have key:∀(st0:St) (recs:List Rec),st0.nx=st.nx→J7e P Γ (some (Jc0 ops [])) ops st0 ops st0.nx 0 []=some recs→(∃qs,Kdm P Γ (some (Jc0 ops [])) ops st0 recs recs=some qs∧Us qs)→Us (Jc8 recs st0).1→Yl P N B w0 R st0 a w→(∀a' w',Yl P N B w0 R (Jc8 recs st0).2 a' w'→Q .normal a' w')→(Code.region id opsA true).wpIn (FR rd) 0 P Q a w:=by
    intro st0 recs _ hr hu hp hs hK
    obtain⟨qs,hu,hq⟩:=hu
    obtain⟨h1,h2⟩:=Jn1 ops (recs:=[]) (n:=0) trivial rfl rfl rfl hr
    obtain⟨ρ,M,al,hal,C⟩:=hs
    have hst:∀id x,look st0.rs id=some x→id<st0.nx:=fun id x h=>hal id (C.resIds id x h).1
    refine wpIn_region_any hm ?_
    have C':=C.world (w':={w with drawn:=w.drawn+1}) rfl ⟨rfl,rfl,rfl,Nat.le_refl _,fun _ _=>rfl,fun _=>Nat.le_succ _⟩
    have rep:∀j,(Array.replicate opsA.size false).getD j false=false:=by
     intro j
     by_cases hj:j<opsA.size<;>simp[hj]
    refine Jyw hΓ rfl hb h1 (fun r hr fr s early e=>Ju1 hu hq r hr fr s early e) (by omega) hst hal hN (fun r hr hl=>Jn8 hp r hr hl) hA (fun a w ρ M S hS C=>hK a w (Jh1 h1 hal hst hS C)) opsA.size (Array.replicate opsA.size false) a _ ρ M (by simp) ?_ ?_ (C'.start ?_)
    ·exact Nat.le_trans List.countP_le_length (by simp)
    ·intro i j hi
     rw[rep] at hi;cases hi
    ·intro j
     exact rep j
   split at h
   ·cases h
   ·rename_i recs hr
    split at h
    ·rename_i qs hu
     cases h
     obtain⟨p1,p2⟩:=J3.1 hp
     unfold K6j at hu
     split at hu
     ·cases hu
     ·exact key st recs rfl hr ⟨qs,hu,p1⟩ p2 hs hK
    ·split at h
     ·cases h
     ·rename_i recs' hr'
      split at h
      ·rename_i qs hu
       cases h
       obtain⟨p1,p2⟩:=J3.1 hp
       exact key (J2q recs st) recs' rfl hr' ⟨qs,hu,p1⟩ p2 (Jxh hs) hK
      ·cases h
  ·cases h
end
end Go.Sx
namespace Go.Sx
open Go.RowKit
def Jur (ρ ρ':Env) (rn:Rn):Prop:=∀j y,look rn j=some y→ρ' j=match y with|some i=>ρ i|none=> .slice none 0 0
def Jiq (rn rn':Rn):Prop:=∀j y,look rn j=some y→look rn' j=some y
def Jdz (al:Nat→Prop) (rn:Rn):Prop:=∀j i,look rn j=some (some i)→al i
def Jc2 (rn:Rn) (ids:List Nat):Prop:=∀id∈ids,(look rn id).isSome=true
theorem Jiq.refl (rn:Rn):Jiq rn rn:=fun _ _ h=>h
theorem Jiq.trans {a b c:Rn} (h:Jiq a b) (h':Jiq b c):Jiq a c:=fun j y hy=>h' j y (h j y hy)
theorem Jiq.key {a b:Rn} (h:Jiq a b) {ids:List Nat} (hk:Jc2 a ids):Jc2 b ids:=fun id hid=>by
 obtain⟨y,hy⟩:=Option.isSome_iff_exists.1 (hk id hid)
 rw[h id y hy];rfl
theorem Jur.le {ρ ρ':Env} {a b:Rn} (h:Jiq a b) (hf:Jur ρ ρ' b):Jur ρ ρ' a:=fun j y hy=>hf j y (h j y hy)
theorem Jn2 {rn:Rn} {j:Nat} {y:Option Nat} (h:look rn j=none):Jiq rn ((j,y)::rn):=fun k z hz=>by
 simp only[look]
 by_cases e:j=k
 ·subst e;rw[h] at hz;cases hz
 ·rw[if_neg e];exact hz
theorem Jpe {al:Nat→Prop} {rn:Rn} {j:Nat} {y:Option Nat} (h:Jdz al rn) (hy:∀i,y=some i→al i):Jdz al ((j,y)::rn):=fun k i hk=>by
 simp only[look] at hk
 split at hk
 ·exact hy i (Option.some.inj hk)
 ·exact h k i hk
section
variable {ρ:Env} {al:Nat→Prop}
theorem Jco {rn rn':Rn} {i j:Nat} {ps:List Prop} (h:J5k.leId rn i j=some (rn',ps)):
  Jiq rn rn'∧(Jdz al rn→al i→Jdz al rn')∧look rn' j=some (some i):=by
 unfold J5k.leId at h
 split at h
 ·rename_i i' hi
  split at h
  ·rename_i e;subst e;cases h
   exact⟨.refl _,fun h _=>h,hi⟩
  ·cases h
 ·cases h
 ·rename_i hn
  cases h
  exact⟨Jn2 hn,fun h hi=>Jpe h fun k e=>by cases e;exact hi,by simp[look]⟩
theorem J73 {rn rn':Rn} {c c':SC} {ps:List Prop} (h:J5k rn c c'=some (rn',ps)):
  Jiq rn rn'∧(Jdz al rn→(∀id∈c.ids,al id)→Jdz al rn')∧Jc2 rn' c'.ids∧∀ρ',Us ps→Jur ρ ρ' rn'→c'.den ρ'=c.den ρ:=by
 have nok:∀c:SC,c.ids=[]→Jc2 rn c.ids:=fun c e id hid=>by rw[e] at hid;simp at hid
 have idc:∀{i j:Nat} {c:SC} {ps},c.ids=[j]→J5k.leId rn i j=some (rn',ps)→Jc2 rn' c.ids:=fun e h id hid=>by
  rw[e] at hid
  simp only[List.mem_singleton] at hid
  subst hid
  rw[(Jco (al:=al) h).2.2];rfl
 unfold J5k at h
 split at h
 ·split at h
  ·rename_i e;subst e;cases h
   exact⟨.refl _,fun h _=>h,nok _ rfl,fun ρ' hp _=>by have hp:_=_:=hp;subst hp;rfl⟩
  ·cases h
 ·cases h;exact⟨.refl _,fun h _=>h,nok _ rfl,fun ρ' hp _=>by have hp:_=_:=hp;subst hp;rfl⟩
 ·cases h;exact⟨.refl _,fun h _=>h,nok _ rfl,fun ρ' hp _=>by have hp:_=_:=hp;subst hp;rfl⟩
 ·split at h
  ·rename_i e;subst e;cases h
   exact⟨.refl _,fun h _=>h,nok _ rfl,fun ρ' hp _=>by have hp:_=_:=hp;subst hp;rfl⟩
  ·cases h
 ·split at h
  ·rename_i i o j p e
   subst e
   obtain⟨h1,h2,h3⟩:=Jco (al:=al) h
   exact⟨h1,fun a b=>h2 a (b _ (by simp[SC.ids])),idc rfl h,fun ρ' _ hf=>by have e:=hf _ _ h3;simp only[SC.den];rw[e]⟩
  ·cases h
 ·rename_i i j
  obtain⟨h1,h2,h3⟩:=Jco (al:=al) h
  exact⟨h1,fun a b=>h2 a (b _ (by simp[SC.ids])),idc rfl h,fun ρ' _ hf=>hf _ _ h3⟩
 ·rename_i i j
  obtain⟨h1,h2,h3⟩:=Jco (al:=al) h
  exact⟨h1,fun a b=>h2 a (b _ (by simp[SC.ids])),idc rfl h,fun ρ' _ hf=>hf _ _ h3⟩
 ·split at h
  ·rename_i e;subst e;cases h
   exact⟨.refl _,fun h _=>h,nok _ rfl,fun _ _ _=>rfl⟩
  ·cases h
 ·cases h;exact⟨.refl _,fun h _=>h,nok _ rfl,fun ρ' hp _=>by have hp:_=_:=hp;subst hp;rfl⟩
 ·rename_i j
  split at h
  ·rename_i hn
   cases h
   refine⟨.refl _,fun h _=>h,fun id hid=> ?_,fun ρ' _ hf=>hf _ _ hn⟩
   simp only[SC.ids,List.mem_singleton] at hid
   subst hid;rw[hn];rfl
  ·cases h
  ·rename_i hn
   cases h
   refine⟨Jn2 hn,fun h _=>Jpe h fun k e=>(by cases e),fun id hid=> ?_,fun ρ' _ hf=>hf j none (by simp[look])⟩
   simp only[SC.ids,List.mem_singleton] at hid
   subst hid;simp[look]
 ·cases h;exact⟨.refl _,fun h _=>h,nok _ rfl,fun ρ' hp _=>by have hp:_=_:=hp;subst hp;rfl⟩
 ·cases h
theorem Jql:∀{cs cs':List SC} {rn rn':Rn} {ps:List Prop},leL rn cs cs'=some (rn',ps)→
  Jiq rn rn'∧(Jdz al rn→(∀id∈K1 cs,al id)→Jdz al rn')∧Jc2 rn' (K1 cs')∧∀ρ',Us ps→Jur ρ ρ' rn'→cs'.map (SC.den ρ')=cs.map (SC.den ρ)
 |[],[],rn,rn',ps,h=>by
  cases h
  exact⟨.refl _,fun h _=>h,fun id hid=>by simp[K1] at hid,fun _ _ _=>rfl⟩
 |[],_::_,_,_,_,h=>by simp[leL] at h
 |_::_,[],_,_,_,h=>by simp[leL] at h
 | c :: cs, c' :: cs', rn, rn', ps, h => by
  simp only[leL] at h
  split at h
  ·rename_i rn1 p1 h1
   split at h
   ·rename_i rn2 p2 h2
    cases h
    obtain⟨a1,a2,a3,a4⟩:=J73 (ρ:=ρ) (al:=al) h1
    obtain⟨b1,b2,b3,b4⟩:=Jql h2
    refine⟨a1.trans b1,fun h hi=>b2 (a2 h fun id hid=>hi id (List.mem_append_left _ hid)) fun id hid=>hi id (List.mem_append_right _ hid),fun id hid=> ?_,fun ρ' hp hf=> ?_⟩
    ·rcases List.mem_append.1 hid with hid|hid
     ·exact b1.key a3 id hid
     ·exact b3 id hid
    ·rw[J3] at hp
     simp only[List.map_cons,a4 ρ' hp.1 (hf.le b1),b4 ρ' hp.2 hf]
   ·cases h
  ·cases h
theorem Joi {rn rn':Rn} {v v':SV} {ps:List Prop} (h:Kgh rn v v'=some (rn',ps)):
  Jiq rn rn'∧(Jdz al rn→(∀id∈v.ids,al id)→Jdz al rn')∧Jc2 rn' v'.ids∧∀ρ',Us ps→Jur ρ ρ' rn'→v'.den ρ'=v.den ρ:=by
 unfold Kgh at h
 split at h
 ·split at h
  ·rename_i e;subst e
   obtain⟨h1,h2,h3,h4⟩:=Jql (ρ:=ρ) (al:=al) h
   exact⟨h1,h2,h3,fun ρ' hp hf=>by simp only[SV.den];rw[h4 ρ' hp hf]⟩
  ·cases h
 ·cases h
theorem Jj2:∀{vs vs':List SV} {rn rn':Rn} {ps:List Prop},Jw3 rn vs vs'=some (rn',ps)→
  Jiq rn rn'∧(Jdz al rn→(∀id∈vs.flatMap SV.ids,al id)→Jdz al rn')∧Jc2 rn' (vs'.flatMap SV.ids)∧∀ρ',Us ps→Jur ρ ρ' rn'→vs'.map (SV.den ρ')=vs.map (SV.den ρ)
 |[],[],rn,rn',ps,h=>by
  cases h
  exact⟨.refl _,fun h _=>h,fun id hid=>by simp at hid,fun _ _ _=>rfl⟩
 | v :: r, v' :: r', rn, rn', ps, h => by
  simp only[Jw3] at h
  split at h
  ·rename_i rn1 p h1
   split at h
   ·rename_i rn2 q h2
    cases h
    obtain⟨a1,a2,a3,a4⟩:=Joi (ρ:=ρ) (al:=al) h1
    obtain⟨b1,b2,b3,b4⟩:=Jj2 h2
    refine⟨a1.trans b1,fun ha hi=>b2 (a2 ha fun id hid=>hi id (by rw[List.flatMap_cons];exact List.mem_append_left _ hid)) fun id hid=>hi id (by rw[List.flatMap_cons];exact List.mem_append_right _ hid),fun id hid=> ?_,fun ρ' hp hf=> ?_⟩
    ·rw[List.flatMap_cons] at hid
     rcases List.mem_append.1 hid with hid|hid
     ·exact b1.key a3 id hid
     ·exact b3 id hid
    ·obtain⟨hp1,hp2⟩:=J3.1 hp
     rw[List.map_cons,List.map_cons,a4 ρ' hp1 (hf.le b1),b4 ρ' hp2 hf]
   ·cases h
  ·cases h
 |[],_::_,_,_,_,h=>by cases h
 |_::_,[],_,_,_,h=>by cases h
theorem Jw2 {s:St} (hs:∀t v,look s.sl t=some v→∀id∈v.ids,al id):∀{l:List (Nat×SV)} {rn rn':Rn} {ps:List Prop},Kl0 s rn l=some (rn',ps)→
  Jiq rn rn'∧(Jdz al rn→Jdz al rn')∧∀t v',(t,v')∈l→∃v,look s.sl t=some v∧Jc2 rn' v'.ids∧∀ρ',Us ps→Jur ρ ρ' rn'→v'.den ρ'=v.den ρ
 |[],rn,rn',ps,h=>by cases h;exact⟨.refl _,fun h=>h,fun t v' h=>by simp at h⟩
 | (t, v') :: l, rn, rn', ps, h => by
  simp only[Kl0] at h
  split at h
  ·rename_i v hv
   split at h
   ·rename_i rn1 p1 h1
    split at h
    ·rename_i rn2 p2 h2
     cases h
     obtain⟨a1,a2,a3,a4⟩:=Joi (ρ:=ρ) (al:=al) h1
     obtain⟨b1,b2,b3⟩:=Jw2 hs h2
     refine⟨a1.trans b1,fun h=>b2 (a2 h (hs t v hv)),fun t' u hu=> ?_⟩
     rcases List.mem_cons.1 hu with e|hu
     ·cases e
      exact⟨v,hv,b1.key a3,fun ρ' hp hf=>a4 ρ' (J3.1 hp).1 (hf.le b1)⟩
     ·obtain⟨v,c1,c2,c3⟩:=b3 t' u hu
      exact⟨v,c1,c2,fun ρ' hp hf=>c3 ρ' (J3.1 hp).2 hf⟩
    ·cases h
   ·cases h
  ·cases h
theorem Jqk {l:List (Nat×SV)}:∀{l':List (Nat×SV)} {rn rn':Rn} {ps:List Prop},J2j l rn l'=some (rn',ps)→
  Jiq rn rn'∧(Jdz al rn→(∀id∈l.flatMap (fun p=>p.2.ids),al id)→Jdz al rn')∧Jc2 rn' (l'.flatMap fun p=>p.2.ids)∧∀ρ',Us ps→Jur ρ ρ' rn'→∀p∈l',∃v,(p.1,v)∈l∧p.2.den ρ'=v.den ρ
 |[],rn,rn',ps,h=>by cases h;exact⟨.refl _,fun h _=>h,fun id h=>by simp at h,fun _ _ _ p hp=>by simp at hp⟩
 | (t, v') :: l', rn, rn', ps, h => by
  simp only[J2j] at h
  split at h
  ·rename_i v hv
   split at h
   ·rename_i rn1 p1 h1
    split at h
    ·rename_i rn2 p2 h2
     cases h
     obtain⟨a1,a2,a3,a4⟩:=Joi (ρ:=ρ) (al:=al) h1
     obtain⟨b1,b2,b3,b4⟩:=Jqk h2
     have hm:=Kd hv
     refine⟨a1.trans b1,fun h hi=>b2 (a2 h fun id hid=>hi id (List.mem_flatMap.2 ⟨_,hm,hid⟩)) hi,fun id hid=> ?_,fun ρ' hp hf q hq=> ?_⟩
     ·simp only[List.flatMap_cons] at hid
      rcases List.mem_append.1 hid with hid|hid
      ·exact b1.key a3 id hid
      ·exact b3 id hid
     ·rw[J3] at hp
      rcases List.mem_cons.1 hq with rfl|hq
      ·exact⟨v,hm,a4 ρ' hp.1 (hf.le b1)⟩
      ·exact b4 ρ' hp.2 hf q hq
    ·cases h
   ·cases h
  ·cases h
def J6x (ρ ρ':Env) (x x':Res):Prop:=match x with
 | .box T cs=>∃cs',x'= .box T cs'∧cs'.map (SC.den ρ')=cs.map (SC.den ρ)
 | .clo f first caps=>∃first' caps',x'= .clo f first' caps'∧first'.map (SV.den ρ')=first.map (SV.den ρ)∧caps'.map (SV.den ρ')=caps.map (SV.den ρ)
 | .fbox T cs=>∃cs',x'= .fbox T cs'∧cs'.map (SC.den ρ')=cs.map (SC.den ρ)
 | .mpi j kT gk gv ks vs l seen=>∃j',x'= .mpi j' kT gk gv ks vs l seen∧ρ' j'=ρ j
 | .iter j ks seen=>∃j',x'= .iter j' ks seen∧ρ' j'=ρ j
 | .ifb T v=>∃v',x'= .ifb T v'∧v'.den ρ'=v.den ρ
 | .sus l=>∃l',x'= .sus l'∧∀p∈l',∃v,(p.1,v)∈l∧p.2.den ρ'=v.den ρ
 | .own T s xs=>x'= .own T s xs∨x'= .ownT T s xs
 |x=>x=x'
theorem J2k {rn rn':Rn} {x x':Res} {ps:List Prop} (h:J2l rn x x'=some (rn',ps)):
  Jiq rn rn'∧(Jdz al rn→(∀id∈x.ids,al id)→Jdz al rn')∧Jc2 rn' x'.ids∧x'.owning=x.owning∧∀ρ',Us ps→Jur ρ ρ' rn'→J6x ρ ρ' x x':=by
 have none_:Jc2 rn ([]:List Nat):=fun id hid=>by simp at hid
 unfold J2l at h
 split at h
 ·split at h
  ·rename_i e;subst e
   obtain⟨h1,h2,h3,h4⟩:=Jql (ρ:=ρ) (al:=al) h
   exact⟨h1,h2,h3,rfl,fun ρ' hp hf=>⟨_,rfl,h4 ρ' hp hf⟩⟩
  ·cases h
 ·split at h
  ·rename_i e
   subst e
   split at h
   ·rename_i e;subst e;cases h
    exact⟨.refl _,fun h _=>h,none_,rfl,fun ρ' hp _=>by have hp:_=_:=hp;rw[←hp];rfl⟩
   ·cases h
  ·cases h
 ·split at h
  ·rename_i e
   subst e
   split at h
   ·rename_i e;subst e;cases h
    exact⟨.refl _,fun h _=>h,none_,rfl,fun ρ' hp _=>by have hp:_=_:=hp;exact .inl (by rw[←hp];rfl)⟩
   ·cases h
  ·cases h
 ·split at h
  ·rename_i e
   subst e
   split at h
   ·rename_i e;subst e;cases h
    exact⟨.refl _,fun h _=>h,none_,rfl,fun ρ' hp _=>by have hp:_=_:=hp;rw[←hp];rfl⟩
   ·cases h
  ·cases h
 ·split at h
  ·rename_i e
   obtain⟨e1,e2⟩:=e
   subst e1;subst e2
   cases h
   refine⟨.refl _,fun h _=>h,none_,rfl,fun ρ' hp _=> ?_⟩
   obtain⟨h1,h2⟩:=hp
   subst h1;subst h2
   rfl
  ·cases h
 ·cases h
  exact⟨.refl _,fun h _=>h,none_,rfl,fun ρ' hp _=>by have hp:_=_:=hp;rw[←hp];rfl⟩
 ·cases h
  exact⟨.refl _,fun h _=>h,none_,rfl,fun ρ' hp _=>by have hp:_=_:=hp;rw[←hp];rfl⟩
 ·cases h
  refine⟨.refl _,fun h _=>h,none_,rfl,fun ρ' hp _=> ?_⟩
  obtain⟨h1,h2⟩:=hp
  subst h1;subst h2
  rfl
 ·split at h
  ·rename_i e
   subst e
   split at h
   ·rename_i e;subst e;cases h
    exact⟨.refl _,fun h _=>h,none_,rfl,fun ρ' hp _=>by have hp:_=_:=hp;exact .inr (by rw[←hp];rfl)⟩
   ·cases h
  ·cases h
 ·split at h
  ·rename_i e
   subst e
   split at h
   ·rename_i e;subst e;cases h
    exact⟨.refl _,fun h _=>h,none_,rfl,fun ρ' hp _=>by have hp:_=_:=hp;rw[←hp];rfl⟩
   ·cases h
  ·cases h
 ·split at h
  ·rename_i e;subst e
   obtain⟨h1,h2,h3,h4⟩:=Jql (ρ:=ρ) (al:=al) h
   exact⟨h1,h2,h3,rfl,fun ρ' hp hf=>⟨_,rfl,h4 ρ' hp hf⟩⟩
  ·cases h
 ·split at h
  ·rename_i e
   obtain⟨⟨e1,e2⟩,e3,e4,e5⟩:=e
   subst e1;subst e2;subst e3;subst e4;subst e5
   cases h
   exact⟨.refl _,fun h _=>h,none_,rfl,fun ρ' hp _=>by have hp:_=_:=hp;rw[←hp];rfl⟩
  ·cases h
 ·split at h
  ·rename_i e
   obtain⟨⟨e1,e2⟩,e3,e4,e5⟩:=e
   subst e1;subst e2;subst e3;subst e4;subst e5
   split at h
   ·rename_i rn1 p hid
    cases h
    obtain⟨h1,h2,h3⟩:=Jco (al:=al) hid
    refine⟨h1,fun hr hi=>h2 hr (hi _ (by simp[Res.ids])),fun id hid'=> ?_,rfl,fun ρ' hp hf=> ?_⟩
    ·simp only[Res.ids,List.mem_singleton] at hid'
     subst hid'
     rw[h3];rfl
    ·obtain⟨hp1,hp2⟩:=J3.1 hp
     obtain⟨q1,q2⟩:=hp2
     have q1:_=_:=q1
     subst q1;subst q2
     exact⟨_,rfl,hf _ _ h3⟩
   ·cases h
  ·cases h
 ·split at h
  ·rename_i rn1 p hid
   cases h
   obtain⟨h1,h2,h3⟩:=Jco (al:=al) hid
   refine⟨h1,fun hr hi=>h2 hr (hi _ (by simp[Res.ids])),fun id hid'=> ?_,rfl,fun ρ' hp hf=> ?_⟩
   ·simp only[Res.ids,List.mem_singleton] at hid'
    subst hid'
    rw[h3];rfl
   ·obtain⟨hp1,hp2⟩:=J3.1 hp
    obtain⟨q1,q2⟩:=hp2
    subst q1;subst q2
    exact⟨_,rfl,hf _ _ h3⟩
  ·cases h
 ·split at h
  ·rename_i e
   subst e
   split at h
   ·rename_i rn1 p h1
    split at h
    ·rename_i rn2 q h2
     cases h
     obtain⟨a1,a2,a3,a4⟩:=Jj2 (ρ:=ρ) (al:=al) h1
     obtain⟨b1,b2,b3,b4⟩:=Jj2 (ρ:=ρ) (al:=al) h2
     refine⟨a1.trans b1,fun ha hi=>b2 (a2 ha fun id hid=>hi id (List.mem_append_left _ hid)) fun id hid=>hi id (List.mem_append_right _ hid),fun id hid=> ?_,rfl,fun ρ' hp hf=> ?_⟩
     ·rcases List.mem_append.1 hid with hid|hid
      ·exact b1.key a3 id hid
      ·exact b3 id hid
     ·obtain⟨hp1,hp2⟩:=J3.1 hp
      exact⟨_,_,rfl,a4 ρ' hp1 (hf.le b1),b4 ρ' hp2 hf⟩
    ·cases h
   ·cases h
  ·cases h
 ·obtain⟨h1,h2,h3,h4⟩:=Jqk (ρ:=ρ) (al:=al) h
  exact⟨h1,h2,h3,rfl,fun ρ' hp hf=>⟨_,rfl,h4 ρ' hp hf⟩⟩
 ·split at h
  ·rename_i e;subst e;cases h
   exact⟨.refl _,fun h _=>h,none_,rfl,fun _ _ _=>rfl⟩
  ·cases h
 ·cases h
theorem Joj {s:St} (hs:∀i x,look s.rs i=some x→al i∧∀id∈x.ids,al id):∀{l:List (Nat×Res)} {rn rn':Rn} {ps:List Prop},Kdq s rn l=some (rn',ps)→
  Jiq rn rn'∧(Jdz al rn→Jdz al rn')∧∀j x',(j,x')∈l→
   (∃i x,look rn' j=some (some i)∧look s.rs i=some x∧Jc2 rn' x'.ids∧x'.owning=x.owning∧(∀ρ',Us ps→Jur ρ ρ' rn'→J6x ρ ρ' x x')∧(x'.spec=true→i=j))∨
   (look rn' j=some none∧x'.ids=[]∧∃qs,Jw4 x'=some qs∧(Us ps→Us qs))
 |[],rn,rn',ps,h=>by cases h;exact⟨.refl _,fun h=>h,fun t v' h=>by simp at h⟩
 | (j, x') :: l, rn, rn', ps, h => by
  have h0 : ∃ rn0, Jiq rn rn0 ∧ (∀ i x, look rn0 j = some (some i) → look s.rs i = some x → Jdz al rn → Jdz al rn0) ∧ (∀ qs, Jw4 x' = some qs → look rn0 j = some none → Jdz al rn → Jdz al rn0) ∧
    (match look rn0 j with
    | some (some i) => match look s.rs i with
     | some x => if x'.spec = true ∧ i ≠ j then none else match J2l rn0 x x' with
      |some (rn,p)=>match Kdq s rn l with
       |some (rn,q)=>some (rn,p++q)
       |none=>none
      |none=>none
     |none=>none
    |some none=>match Jw4 x',Kdq s rn0 l with
     |some p,some (rn,q)=>some (rn,p++q)
     |_,_=>none
    |none=>none)=some (rn',ps):=by
   refine⟨Jy5 rn j, ?_, ?_, ?_,h⟩<;>unfold Jy5<;>split
   ·exact .refl _
   ·rename_i hn;exact Jn2 hn
   ·exact fun _ _ _ _ h=>h
   ·rename_i hn
    exact fun i x h1 h2 h=>Jpe h fun k e=>by
     cases e
     simp only[look,if_true] at h1
     cases h1
     exact(hs j x h2).1
   ·exact fun _ _ _ h=>h
   ·exact fun qs _ h1=>by simp[look] at h1
  clear h
  obtain⟨rn0,l0,l1,l2,h⟩:=h0
  split at h
  ·rename_i i hi
   split at h
   ·rename_i x hx
    split at h
    ·cases h
    rename_i hspec
    split at h
    ·rename_i rn1 p1 h1
     split at h
     ·rename_i rn2 p2 h2
      cases h
      obtain⟨a1,a2,a3,a4,a5⟩:=J2k (ρ:=ρ) (al:=al) h1
      obtain⟨b1,b2,b3⟩:=Joj hs h2
      refine⟨(l0.trans a1).trans b1,fun h=>b2 (a2 (l1 i x hi hx h) (hs i x hx).2),fun k u hu=> ?_⟩
      rcases List.mem_cons.1 hu with e|hu
      ·cases e
       exact .inl ⟨i,x,b1 _ _ (a1 _ _ hi),hx,b1.key a3,a4,fun ρ' hp hf=>a5 ρ' (J3.1 hp).1 (hf.le b1),fun hs=>Classical.byContradiction fun hne=>hspec ⟨hs,hne⟩⟩
      ·rcases b3 k u hu with⟨i',x1,c1,c2,c3,c4,c5,c6⟩|⟨c1,c2,qs,c3,c4⟩
       ·exact .inl ⟨i',x1,c1,c2,c3,c4,fun ρ' hp hf=>c5 ρ' (J3.1 hp).2 hf,c6⟩
       ·exact .inr ⟨c1,c2,qs,c3,fun hp=>c4 (J3.1 hp).2⟩
     ·cases h
    ·cases h
   ·cases h
  ·rename_i hi
   split at h
   ·rename_i p1 rn2 p2 h1 h2
    cases h
    obtain⟨b1,b2,b3⟩:=Joj hs h2
    have hids:x'.ids=[]:=by
     unfold Jw4 at h1
     split at h1<;>first|rfl|cases h1
    refine⟨l0.trans b1,fun h=>b2 (l2 p1 h1 hi h),fun k u hu=> ?_⟩
    rcases List.mem_cons.1 hu with e|hu
    ·cases e
     exact .inr ⟨b1 _ _ hi,hids,p1,h1,fun hp=>(J3.1 hp).1⟩
    ·rcases b3 k u hu with⟨i',x1,c1,c2,c3,c4,c5,c6⟩|⟨c1,c2,qs,c3,c4⟩
     ·exact .inl ⟨i',x1,c1,c2,c3,c4,fun ρ' hp hf=>c5 ρ' (J3.1 hp).2 hf,c6⟩
     ·exact .inr ⟨c1,c2,qs,c3,fun hp=>c4 (J3.1 hp).2⟩
   ·cases h
  ·cases h
theorem L7:∀{l:List Nat},Hy l=true→l.Nodup
 |[],_=> .nil
 |a::l,h=>by
  simp only[Hy,Bool.and_eq_true,Bool.not_eq_true',List.contains_eq_mem,decide_eq_false_iff_not] at h
  exact List.nodup_cons.2 ⟨h.1,L7 h.2⟩
theorem Jj9:∀{rn:Rn},(J5m rn).Nodup→∀{r r' i:Nat},(r,some i)∈rn→(r',some i)∈rn→r=r'
 |[],_,_,_,_,h,_=>by simp at h
 | (k, y) :: rn, hd, r, r', i, h, h' => by
  have him:∀{r},(r,some i)∈rn→i∈J5m rn:=fun h=>List.mem_filterMap.2 ⟨_,h,rfl⟩
  cases y with
  | none =>
   have hd':(J5m rn).Nodup:=by simpa[J5m] using hd
   rcases List.mem_cons.1 h with e|h
   ·cases e
   ·rcases List.mem_cons.1 h' with e|h'
    ·cases e
    ·exact Jj9 hd' h h'
  |some z=>
   have hd':z∉J5m rn∧(J5m rn).Nodup:=by simpa[J5m] using hd
   rcases List.mem_cons.1 h with e|h1<;>rcases List.mem_cons.1 h' with e'|h2
   ·cases e;cases e';rfl
   ·cases e;exact absurd (him h2) hd'.1
   ·cases e';exact absurd (him h1) hd'.1
   ·exact Jj9 hd'.2 h1 h2
end
section
variable {P:Program} {N B:Nat} {w0:Yu} {R:Nat→Prop}
theorem Yd [Dr] {s s' : St} (h : Jw1 s s') {a : Act} {w : World} (hs : Yl P N B w0 R s a w) : Yl P N B w0 R s' a w := by
 obtain⟨ρ,M,al,hal,C⟩:=hs
 unfold Jw1 at h
 split at h
 ·rename_i rn p h1
  split at h
  ·rename_i rn' q h2
   split at h
   ·rename_i hc
    obtain⟨hd,hok⟩:=hc
    obtain⟨a1,a2,a3⟩:=Jw2 (ρ:=ρ) (al:=al) (fun t v hv=>C.slotIds t v hv) h1
    obtain⟨b1,b2,b3⟩:=Joj (ρ:=ρ) (al:=al) (fun i x hx=>C.resIds i x hx) h2
    have hal':Jdz al rn':=b2 (a2 fun j i hj=>by simp[look] at hj)
    have hp:=(J3.1 h).1
    have hq:=(J3.1 h).2
    let ρ':Env:=fun j=>match look rn' j with
     |some (some i)=>ρ i
     |_=> .slice none 0 0
    have hf:Jur ρ ρ' rn':=by
     intro j y hy
     show(match look rn' j with|some (some i)=>ρ i|_=> .slice none 0 0)=_
     rw[hy]
     cases y<;>rfl
    simp only[St.idsOk,Bool.and_eq_true,List.all_eq_true,decide_eq_true_eq] at hok
    obtain⟨⟨ok1,ok2⟩,_⟩:=hok
    have hnod:=L7 hd
    refine⟨ρ',M,fun j=>(look rn' j).isSome=true∧j<s'.nx,fun id h=>h.2,⟨C.size,C.defers,C.nomark,C.stay,C.stayR,C.below,C.base, ?_, ?_, ?_, ?_, ?_,C.old, ?_,C.up,C.good⟩⟩
    ·intro t v' hv
     obtain⟨v,c1,c2,c3⟩:=a3 t v' (Kd hv)
     rw[C.slot t v c1,c3 ρ' hp (hf.le b1)]
    ·intro t v' hv id hid
     obtain⟨v,c1,c2,c3⟩:=a3 t v' (Kd hv)
     exact⟨b1.key c2 id hid,ok1 _ (Kd hv) id hid⟩
    ·intro j x' hx
     rcases b3 j x' (Kd hx) with⟨i,x,c1,c2,c3,c4,c5,c6⟩|⟨c1,c2,qs,c3,c4⟩
     ·have hsay:=c5 ρ' hq hf
      have hρ:ρ' j=ρ i:=hf j _ c1
      have hres:=C.resA i x c2
      cases x with
      |box T cs=>
       obtain⟨cs',rfl,hcs⟩:=hsay
       obtain⟨b,w1,w2,w3,w4,w5⟩:=hres
       exact⟨b,hρ.trans w1,by rw[hcs];exact w2,w3,w4,w5⟩
      |sus l=>
       obtain⟨l',rfl,hl⟩:=hsay
       obtain rfl:=c6 rfl
       obtain⟨T,w1,w2⟩:=hres
       refine⟨T,w1,fun p hp=> ?_⟩
       obtain⟨v,v1,v2⟩:=hl p hp
       exact(w2 _ v1).trans v2.symm
      |yld s=>
       cases hsay
       obtain rfl:=c6 rfl
       obtain⟨l,rc,w1,w2,w3⟩:=hres
       exact⟨l,rc,w1,hρ.trans w2,w3⟩
      |clo f first caps=>
       obtain⟨first',caps',rfl,e1,e2⟩:=hsay
       show ρ' j= .func (.func f) (first'.map (SV.den ρ')).toArray (caps'.map (SV.den ρ')).toArray
       rw[e1,e2,hρ]
       exact hres
      |fbox T cs=>
       obtain⟨cs',rfl,hcs⟩:=hsay
       obtain⟨b,w1,w2,w3⟩:=hres
       exact⟨b,hρ.trans w1,by rw[hcs];exact w2,w3⟩
      |mp kT gk gv ks vs l=>cases hsay;unfold Jir Yt at*;rw[hρ];exact hres
      |mpi i2 kT gk gv ks vs l seen=>
       obtain⟨j',rfl,hj'⟩:=hsay
       obtain⟨b,m,w1,w2,w3⟩:=hres
       exact⟨b,m,hρ.trans w1,hj'.trans w2,w3⟩
      |imm T s xs=>cases hsay;unfold Jir Yt at*;rw[hρ];exact hres
      |own T s xs=>
       obtain⟨flat,w1,w2,w3⟩:=hres
       rcases hsay with rfl|rfl
       ·exact⟨flat,w1,by rw[hρ];exact w2,fun g hg=>w3 g (by rw[←hρ];exact hg)⟩
       ·exact⟨flat,w1,by rw[hρ];exact J18 w2,fun g hg=>w3 g (by rw[←hρ];exact hg)⟩
      |ownT T s xs=>
       cases hsay
       obtain⟨flat,w1,w2,w3⟩:=hres
       exact⟨flat,w1,by rw[hρ];exact w2,fun g hg=>w3 g (by rw[←hρ];exact hg)⟩
      |rbox T s x=>cases hsay;unfold Jir Yt at*;rw[hρ];exact hres
      |map ks=>cases hsay;unfold Jir Yt at*;rw[hρ];exact hres
      |iter i2 ks seen=>
       obtain⟨j',rfl,hj'⟩:=hsay
       obtain⟨b,m,w1,w2,w3⟩:=hres
       exact⟨b,m,hρ.trans w1,hj'.trans w2,w3⟩
      |afn ps r' pre h'=>cases hsay;unfold Jir Yt at*;rw[hρ];exact hres
      |ifc b=>cases hsay;unfold Jir Yt at*;rw[hρ];exact hres
      |ifb T v=>
       obtain⟨v',rfl,e1⟩:=hsay
       show ρ' j= .iface T (v'.den ρ')
       rw[e1,hρ]
       exact hres
      |siter s p=>cases hsay;unfold Jir Yt at*;rw[hρ];exact hres
     ·have hρ:ρ' j= .slice none 0 0:=hf j _ c1
      have hqs:=c4 hq
      cases x' with
      |imm T s xs=>
       cases c3
       have h0:xs.length=0:=hqs
       have:xs=[]:=List.eq_nil_of_length_eq_zero h0
       subst this
       exact⟨_,[],rfl,rfl, .inl ⟨.inl hρ,rfl⟩⟩
      |own T s xs=>
       cases c3
       have h0:xs.length=0:=hqs
       have:xs=[]:=List.eq_nil_of_length_eq_zero h0
       subst this
       refine⟨[],rfl,⟨by simp, .inl ⟨hρ,rfl⟩⟩,fun g hg=> ?_⟩
       rw[hρ] at hg;cases hg
      |ownT T s xs=>
       cases c3
       have h0:xs.length=0:=hqs
       have:xs=[]:=List.eq_nil_of_length_eq_zero h0
       subst this
       refine⟨[],rfl,⟨by simp, .inl ⟨hρ,rfl⟩⟩,fun g hg=> ?_⟩
       rw[hρ] at hg;cases hg
      |_=>cases c3
    ·intro j x' hx
     have hm:=Kd hx
     have hj:=ok2 _ hm
     rcases b3 j x' hm with⟨i,x,c1,c2,c3,c4,c5,c6⟩|⟨c1,c2,qs,c3,c4⟩
     ·exact⟨⟨by rw[c1];rfl,hj.1⟩,fun id hid=>⟨c3 id hid,hj.2 id hid⟩⟩
     ·exact⟨⟨by rw[c1];rfl,hj.1⟩,fun id hid=>by rw[c2] at hid;simp at hid⟩
    ·intro r r' x x' hne hx hx' ho ho' b hb hb'
     rcases b3 r x (Kd hx) with⟨i,y,c1,c2,c3,c4,c5,c6⟩|⟨c1,_⟩
     ·rcases b3 r' x' (Kd hx') with⟨i',y',d1,d2,d3,d4,d5,d6⟩|⟨d1,_⟩
      ·have hi:i≠i':=by
        rintro rfl
        exact hne (Jj9 hnod (Kd c1) (Kd d1))
       rw[hf r _ c1] at hb
       rw[hf r' _ d1] at hb'
       exact C.apart i i' y y' hi c2 d2 (by rw[←c4];exact ho) (by rw[←d4];exact ho') b hb hb'
      ·rw[hf r' _ d1] at hb';cases hb'
     ·rw[hf r _ c1] at hb;cases hb
    ·rintro j ⟨hj,_⟩
     obtain⟨y,hy⟩:=Option.isSome_iff_exists.1 hj
     rw[hf j y hy]
     cases y with
     |none=>rfl
     |some i=>exact C.one i (hal' j i hy)
   ·exact h.elim
  ·exact h.elim
 ·exact h.elim
end
end Go.Sx
namespace Go.Sx
open Go.RowKit
theorem Xt {P:Program} {b:Frame} {a:Act} {k:List Item} {cs:List Frame} {w:World} {c:Code}:step P (lone (b.atR a (.code (.scope c)::k)) cs w)= .next (lone (b.atR a (.code c:: .inScope c::k)) cs w):=
 step_lone_go (by simp[stepG,stepG.exec,Frame.atR])
theorem Jja {P:Program} {b:Frame} {a:Act} {k:List Item} {cs:List Frame} {w:World} {c:Code}:step P (lone (b.atR a (.inScope c::k)) cs w)= .next (lone (b.atR a k) cs w):=
 step_lone_go (by simp[stepG,stepG.exec,Frame.atR])
theorem Zz {F:Fence} {n:Nat} {P:Program} {Q:Exit→Act→World→Prop} {a:Act} {w:World} {c:Code} (h:c.wpIn F n P (Exit.noGoto Q) a w):(Code.scope c).wpIn F n P Q a w:=by
 intro b k cs hro hb hr
 have h0:(lone (b.atR a (.code (.scope c)::k)) cs w).fenced P F:=fenced_calm hb hr rfl
 obtain⟨e,a₁,w₁,hq,harr⟩:=h b (.inScope c::k) cs hro hb hr
 have hx:∀id,exitTo id (.inScope c::k)=exitTo id k:=fun id=>by simp[exitTo]
 cases e with
 |normal=>exact⟨.normal,a₁,w₁,hq, .head h0 Xt (StepsIn.trans harr (.one (fenced_calm hb hr rfl) Jja))⟩
 |exit id=>exact⟨.exit id,a₁,w₁,hq,fun k' hk=> .head h0 Xt (harr.1 k' (by rw[hx];exact hk)),fun hr' hk=>let⟨k₁,h1,h2⟩:=harr.2 hr' (by rw[hx];exact hk);⟨k₁,h1, .head h0 Xt h2⟩⟩
 |goto l=>exact hq.elim
 |ret=>exact⟨_,a₁,w₁,hq, .of_steps (.one h0 Xt) harr⟩
 |panic ch=>exact⟨_,a₁,w₁,hq, .of_steps (.one h0 Xt) harr⟩
 |outgrown=>exact⟨_,a₁,w₁,hq, .of_steps (.one h0 Xt) harr⟩
def Ex.toExit:Ex→Exit
 | .normal=> .normal
 | .exit i=> .exit i
 | .ret=> .ret
theorem J72 {p:Nat→Prop} (h:∃n,p n):∃n,p n∧∀m,p m→n≤m:=by
 obtain⟨n,hn⟩:=h
 induction n using Nat.strongRecOn with
 | _ n ih =>
  by_cases hm:∃m,m<n∧p m
  ·obtain⟨m,h1,h2⟩:=hm
   exact ih m h1 h2
  ·exact⟨n,hn,fun m hp=>Nat.le_of_not_lt fun hlt=>hm ⟨m,hlt,hp⟩⟩
open Classical in
noncomputable def leastMu (p:Nat→Prop):Nat:=if h:∃n,p n then(J72 h).choose else 0
theorem Lh {p:Nat→Prop} (h:∃n,p n):p (leastMu p):=by
 unfold leastMu
 rw[dif_pos h]
 exact(J72 h).choose_spec.1
theorem Lg {p:Nat→Prop} {m:Nat} (h:p m):leastMu p≤m:=by
 unfold leastMu
 rw[dif_pos ⟨m,h⟩]
 exact(J72 ⟨m,h⟩).choose_spec.2 m h
section
variable {P:Program} {Γ:Gam} {ann:Nat→Option Ann} {N B:Nat} {w0:Yu} {R:Nat→Prop} {rd:Option Nat}
theorem J70 [Dr] {id:Nat} {c:Code} (ih:∀{st:St} {k:Ex→St→Prop} {Q:Exit→Act→World→Prop},wpS P Γ ann c st k→
  (∀e st' a w,k e st'→Yl P N B w0 R st' a w→Q e.toExit a w)→∀a w,Yl P N B w0 R st a w→c.wpIn (FR rd) 0 P Q a w)
  {st:St} {k:Ex→St→Prop} {Q:Exit→Act→World→Prop} (h:wpS P Γ ann (.block id (.loop c)) st k)
  (hK:∀e st' a w,k e st'→Yl P N B w0 R st' a w→Q e.toExit a w) (a:Act) (w:World) (hs:Yl P N B w0 R st a w):(Code.block id (.loop c)).wpIn (FR rd) 0 P Q a w:=by
 simp only[wpS] at h
 split at h
 ·rename_i A hA
  split at h
  ·obtain⟨x0,h1,h2,h3⟩:=h
   refine wpIn_block (wpIn_loop (fun a w=>∃x,A.inv x∧Yl P N B w0 R (A.σ x) a w) (fun a w=>leastMu fun n=>∃x,A.inv x∧Yl P N B w0 R (A.σ x) a w∧A.mu x=n) ⟨x0,h2,Yd h1 (Xk hs)⟩ fun a w hI=> ?_)
   obtain⟨x,i1,i2,i3⟩:=Lh (p:=fun n=>∃x,A.inv x∧Yl P N B w0 R (A.σ x) a w∧A.mu x=n) (by obtain⟨x,i1,i2⟩:=hI;exact⟨_,x,i1,i2,rfl⟩)
   refine ih (h3 x i1) (fun e st' a' w' he hs'=> ?_) a w i2
   have hcatch:∀e,Ex.catch id k e st'→Exit.inBlock id Q e.toExit a' w':=by
    intro e he
    cases e with
    |normal=>exact hK .normal st' a' w' he hs'
    |exit i=>
     simp only[Ex.catch] at he
     simp only[Ex.toExit,Exit.inBlock]
     split at he
     ·rename_i e;rw[if_pos e];exact hK .normal st' a' w' he hs'
     ·rename_i e;rw[if_neg e];exact hK (.exit i) st' a' w' he hs'
    |ret=>exact hK .ret st' a' w' he hs'
   cases e with
   |normal=>
    obtain⟨y,j1,j2,j3⟩:=he
    refine⟨⟨y,j2,Yd j1 hs'⟩, ?_⟩
    exact Nat.lt_of_le_of_lt (Lg ⟨y,j2,Yd j1 hs',rfl⟩) (by rw[←i3];exact j3)
   |exit i=>exact hcatch (.exit i) he
   |ret=>exact hcatch .ret he
  ·rename_i r hr
   obtain⟨x0,h1,h2,h3⟩:=h
   refine wpIn_block (wpIn_loop (fun a w=>∃x,(A.inv x∧r x0 x)∧Yl P N B w0 R (A.σ x) a w) (fun a w=>leastMu fun n=>∃x,(A.inv x∧r x0 x)∧Yl P N B w0 R (A.σ x) a w∧A.mu x=n) ⟨x0,h2,Yd h1 (Xk hs)⟩ fun a w hI=> ?_)
   obtain⟨x,i1,i2,i3⟩:=Lh (p:=fun n=>∃x,(A.inv x∧r x0 x)∧Yl P N B w0 R (A.σ x) a w∧A.mu x=n) (by obtain⟨x,i1,i2⟩:=hI;exact⟨_,x,i1,i2,rfl⟩)
   refine ih (h3 x i1) (fun e st' a' w' he hs'=> ?_) a w i2
   have hcatch:∀e,Ex.catch id k e st'→Exit.inBlock id Q e.toExit a' w':=by
    intro e he
    cases e with
    |normal=>exact hK .normal st' a' w' he hs'
    |exit i=>
     simp only[Ex.catch] at he
     simp only[Ex.toExit,Exit.inBlock]
     split at he
     ·rename_i e;rw[if_pos e];exact hK .normal st' a' w' he hs'
     ·rename_i e;rw[if_neg e];exact hK (.exit i) st' a' w' he hs'
    |ret=>exact hK .ret st' a' w' he hs'
   cases e with
   |normal=>
    obtain⟨y,j1,j2,j3⟩:=he
    refine⟨⟨y,j2,Yd j1 hs'⟩, ?_⟩
    exact Nat.lt_of_le_of_lt (Lg ⟨y,j2,Yd j1 hs',rfl⟩) (by rw[←i3];exact j3)
   |exit i=>exact hcatch (.exit i) he
   |ret=>exact hcatch .ret he
 ·exact h.elim
theorem Ud.mem {M:Nat→Prop} {w:World} {gk gv:Bool} {ks vs:Sch}:∀{l:List (ks.T×vs.T)} {n:Nat} {es:List MapEntry} {e:MapEntry},Ud M w gk gv ks vs l n es→e∈es→∃p,p<l.length∧e.born=n+p
 |[],_,_,_,h,he=>by rw[show _=[] from h] at he;simp at he
 | x :: l, n, _, e, ⟨kc, vc, r, q, h1, h2, h3⟩, he => by
  subst q
  rcases List.mem_cons.1 he with rfl|he
  ·exact⟨0,by simp,rfl⟩
  ·obtain⟨p,hp,e1⟩:=Ud.mem h3 he
   exact⟨p+1,by simpa using hp,by omega⟩
theorem D8 [Dr] (hm:P.follows .mixedOrders=true) (hΓ:Xf P Γ):∀(c:Code) {st:St} {k:Ex→St→Prop} {Q:Exit→Act→World→Prop},Yr N c=true→wpS P Γ ann c st k→
  (∀e st' a w,k e st'→Yl P N B w0 R st' a w→Q e.toExit a w)→∀a w,Yl P N B w0 R st a w→c.wpIn (FR rd) 0 P Q a w
 | .skip,st,k,Q,_,h,hK,a,w,hs=>wpIn_skip (hK .normal st a w h hs)
 | .region id ops dr, st, k, Q, hd, h, hK, a, w, hs => by
  simp only[wpS] at h
  split at h
  ·rename_i ps st' hr
   rw[Jal] at h
   refine Jv6 hm hΓ hr h.1 hs (fun o ho t ht=> ?_) rfl (fun a' w' hs'=>hK .normal st' a' w' h.2 hs') id
   have:=List.all_eq_true.1 hd o ho
   rw[ht] at this
   simpa[Nat.blt_eq] using this
  ·exact h.elim
 | .seq x y,st,k,Q,hd,h,hK,a,w,hs=>by
  simp only[Yr,Bool.and_eq_true] at hd
  refine wpIn_seq (D8 hm hΓ x hd.1 h (fun e st' a' w' he hs'=> ?_) a w hs)
  cases e with
  |normal=>exact D8 hm hΓ y hd.2 he hK a' w' hs'
  |exit i=>exact hK (.exit i) st' a' w' he hs'
  |ret=>exact hK .ret st' a' w' he hs'
 | .cond c x y, st, k, Q, hd, h, hK, a, w, hs => by
  simp only[Yr,Bool.and_eq_true] at hd
  simp only[wpS] at h
  split at h
  ·rename_i t
   split at h
   ·rename_i b hb
    obtain⟨ρ,M,al,hal,C⟩:=id hs
    have e:a.eval (.tmp t)= .bool b:=C.slot t _ hb
    exact wpIn_cond_split e (fun hb=>D8 hm hΓ x hd.1 (h.1 hb) hK a w hs) (fun hb=>D8 hm hΓ y hd.2 (h.2 hb) hK a w hs)
   ·exact h.elim
  ·exact h.elim
 | .block id c, st, k, Q, hd, h, hK, a, w, hs => by
  by_cases hl:∃c',c= .loop c'
  ·obtain⟨c',rfl⟩:=hl
   exact J70 (fun h hK a w hs=>D8 hm hΓ c' hd h hK a w hs) h hK a w hs
  ·have h':wpS P Γ ann c st (Ex.catch id k):=by
    cases c<;>first|exact h|exact absurd ⟨_,rfl⟩ hl
   refine wpIn_block (D8 hm hΓ c hd h' (fun e st' a' w' he hs'=> ?_) a w hs)
   cases e with
   |normal=>exact hK .normal st' a' w' he hs'
   |exit i=>
    simp only[Ex.catch] at he
    simp only[Ex.toExit,Exit.inBlock]
    split at he
    ·rename_i e;rw[if_pos e];exact hK .normal st' a' w' he hs'
    ·rename_i e;rw[if_neg e];exact hK (.exit i) st' a' w' he hs'
   |ret=>exact hK .ret st' a' w' he hs'
 | .exit id,st,k,Q,_,h,hK,a,w,hs=>wpIn_exit (hK (.exit id) st a w h hs)
 | .ret,st,k,Q,_,h,hK,a,w,hs=>wpIn_ret (hK .ret st a w h hs)
 | .scope c,st,k,Q,hd,h,hK,a,w,hs=>by
  refine Zz (D8 hm hΓ c hd h (fun e st' a' w' he hs'=> ?_) a w hs)
  cases e<;>exact hK _ st' a' w' he hs'
 | .label _,st,k,Q,_,h,hK,a,w,hs=>wpIn_label (hK .normal st a w h hs)
 | .loop _,_,_,_,_,h,_,_,_,_=>h.elim
 | .rangeFunc ..,_,_,_,_,h,_,_,_,_=>h.elim
 | .goto _,_,_,_,_,h,_,_,_,_=>h.elim
 | .refuse _,_,_,_,_,h,_,_,_,_=>h.elim
termination_by c=>SizeOf.sizeOf c
end
end Go.Sx
namespace Go.Sx
open Go.RowKit
section
variable {P:Program} {Γ:Gam} {N B:Nat} {w0:Yu} {R:Nat→Prop} {rd:Option Nat}
theorem Js6 {l:List Oper} {dr:Bool} {t:Tmp×Tmp×Tmp} (h:Jjt l dr=some t):dr=false∧∃o1 o2,l=[o1,o2]∧o1.op= .next (.tmp t.1) true∧o1.dst=some t.2.1∧o1.guard=none∧o2.op= .extract (.tmp t.2.1) 0∧o2.dst=some t.2.2∧o2.guard=none:=by
 unfold Jjt at h
 split at h
 ·rename_i o1 o2
  split at h
  ·rename_i it d1 d1' d2 h1 h2 h3 h4 h5 h6
   split at h
   ·rename_i e
    subst e
    cases h
    exact⟨rfl,o1,o2,rfl,h1,h2,h3,h4,h5,h6⟩
   ·cases h
  ·cases h
 ·cases h
theorem Jdd {l:List (Nat×SV)} {a b t':Nat} {v:SV} (h:look (l.filter fun p=>p.1 !=a&&p.1 !=b) t'=some v):t'≠a∧t'≠b∧look l t'=some v:=by
 induction l with
 |nil=>cases h
 | cons p l ih =>
  rw[List.filter_cons] at h
  split at h
  ·rename_i hp
   simp only[look] at h⊢
   split at h
   ·rename_i e2
    rw[if_pos e2]
    subst e2
    simp at hp
    exact⟨hp.1,hp.2,h⟩
   ·rename_i e2;rw[if_neg e2];exact ih h
  ·rename_i hp
   obtain⟨i1,i2,i3⟩:=ih h
   refine⟨i1,i2, ?_⟩
   simp only[look]
   split
   ·rename_i e2
    subst e2
    simp at hp
    exact absurd (hp i1) i2
   ·exact i3
theorem J2d [Dr] {ops:Array Oper} {dr:Bool} {t:Tmp×Tmp×Tmp} (hn:Jjt ops.toList dr=some t) (hd:∀o∈ops.toList,∀t,o.dst=some t→t<N) {st:St} {k:Ex→St→Prop} {Q:Exit→Act→World→Prop} (h:Jod st t k)
  (hK:∀st' a w,k .normal st'→Yl P N B w0 R st' a w→Q .normal a w) (id:Nat) (a:Act) (w:World) (hs:Yl P N B w0 R st a w):(Code.region id ops dr).wpIn (FR rd) 0 P Q a w:=by
 obtain⟨rfl,o1,o2,hl,q1,q2,q3,q4,q5,q6⟩:=Js6 hn
 have hops:ops= #[o1,o2]:=by apply Array.ext';simpa using hl
 subst hops
 have d1N:t.2.1<N:=hd o1 (by simp) _ q2
 have d2N:t.2.2<N:=hd o2 (by simp) _ q5
 obtain⟨ρ,M,al,hal,C⟩:=hs
 unfold Jod at h
 split at h
 case h_2=>exact h.elim
 rename_i i hi
 split at h
 case h_2=>exact h.elim
 rename_i s pos hr
 obtain⟨hstep,hend⟩:=h
 obtain⟨b,r1,r3,r4,r5,r6⟩:=C.res i _ hr
 have hit:a.eval (.tmp t.1)= .pointer (some ⟨b,0,none⟩):=(C.slot t.1 _ hi).trans r1
 have hsa:∀id,Lz al st.nx [] id→al id:=fun id h=>by
  rcases h with h|h
  ·exact h
  ·simp at h;omega
 have run2:∀(u:Value) (w':World),(Instr.next (.pointer (some ⟨b,0,none⟩)) true o1.type).run P w= .ok u w'→∀c v',(u= .tuple (#[Value.bool c]++v'))→Q .normal ((a.put o1.dst u).put o2.dst (.bool c)) w'→(Code.region id #[o1,o2] false).wpIn (FR rd) 0 P Q a w:=by
  intro u w' hu c v' hc hq
  refine wpIn_region ?_
  show wpOpsIn (FR rd) 0 P #[o1,o2] Q [0,1] a w
  rw[wpOpsIn_cons]
  unfold wpOpIn
  have e0:(#[o1,o2]:Array Oper)[0]? =some o1:=rfl
  have e1:(#[o1,o2]:Array Oper)[1]? =some o2:=rfl
  rw[e0]
  simp only[Region.wanted,q3,if_true]
  refine Js5 (by rw[q1];intro c e;cases e) (Ky (u:=u) (w':=w') ?_ ?_)
  ·simp only[execOp,q1,hit]
   exact Vu hu
  ·rw[wpOpsIn_cons]
   unfold wpOpIn
   rw[e1]
   simp only[Region.wanted,q6,if_true]
   refine Js5 (by rw[q4];intro c e;cases e) (Ky (u:= .bool c) (w':=w') ?_ hq)
   have hev:(a.put o1.dst u).eval (.tmp t.2.1)=u:=by
    show(a.put o1.dst u).tmps.getD t.2.1 undef=u
    rw[Jqa fun h=>by rw[C.size];exact d1N,if_pos q2]
   simp only[execOp,q4]
   rw[hev,hc]
   have h0:(#[Value.bool c]++v')[0]? =some (.bool c):=by rw[Array.getElem?_append_left (by simp)];rfl
   exact Vu (by simp only[Instr.extract,h0];rfl)
 by_cases hlt:pos<s.size
 ·have g3:(Instr.next (.pointer (some ⟨b,0,none⟩)) true o1.type).run P w= .ok (.tuple #[.bool true, .int .i64 pos, .int .i32 (Yn s pos)]) (V6 w b (.stringIter s (pos+Jg3 s pos))):=by
   simp only[Instr.next,getObj,setObj,Sem.run_bind,Sem.run,r3,Result.andThen,hlt,if_true]
   simp[goInt,V6,Yn,Jg3]
  refine run2 _ _ g3 true #[.int .i64 pos, .int .i32 (Yn s pos)] rfl (hK _ _ _ (hstep hlt) ?_)
  have hb:b<w.heap.size:=(Array.getElem?_eq_some_iff.1 r3).1
  have C1:=C.putObj (n:=st.nx) (d:=o1.dst) (x':= .siter s (pos+Jg3 s pos)) (fun t' h=>by rw[q2] at h;cases h;exact d1N) hr rfl (b:=b) (by rw[r1];rfl) (.stringIter s (pos+Jg3 s pos)) ⟨b,r1,Jhp hb,r4,r5,r6⟩
   (fun id hid=>by simp[Res.ids] at hid) (v:= .tup [(false,[.bool true]),(false,[.int .i64 pos]),(false,[.int .i32 (Yn s pos)])]) (u:= .tuple #[.bool true, .int .i64 pos, .int .i32 (Yn s pos)]) rfl (fun id hid=>by simp[SV.ids,K1,SC.ids] at hid)
  have C2:=C1.pure (n:=st.nx) (d:=o2.dst) (v:= .one (.bool true)) (u:= .bool true) (fun t' h=>by rw[q5] at h;cases h;exact d2N) rfl (fun id hid=>by simp[SV.ids,K1,SC.ids] at hid)
  refine⟨ρ,M,Lz al st.nx [],fun id h=>hal id (hsa id h),C2.weaken (fun t' v' h=> ?_) (fun id x h=> ?_) fun id=>⟨.inl,fun h=>by
   rcases h with h|h
   ·exact h
   ·simp at h;omega⟩⟩
  ·unfold Jwq at h
   simp only[look] at h
   unfold Dn
   rw[q5,q2]
   split at h
   ·rename_i e;subst e;rw[if_pos rfl];exact h
   ·rename_i e
    rw[if_neg (by simpa using e)]
    split at h
    ·rename_i e2;subst e2;rw[if_pos rfl];exact h
    ·rename_i e2
     rw[if_neg (by simpa using e2)]
     exact(Jdd h).2.2
  ·unfold U2
   rw[if_neg (by simp)]
   simp only[look]
   rw[if_neg (by simp)]
   have h':look (Uu st.rs (i,some (.siter s (pos+Jg3 s pos)))) id=some x:=h
   rw[Vh] at h'
   split at h'
   ·rename_i e;subst e;rw[if_pos rfl];exact h'
   ·rename_i e;rw[if_neg (Ne.symm e)];exact h'
 ·have g1:(Instr.next (.pointer (some ⟨b,0,none⟩)) true o1.type).run P w= .ok (.tuple #[.bool false]) w:=by
   simp only[Instr.next,getObj,setObj,Sem.run_bind,Sem.run,r3,Result.andThen,hlt,if_false]
   simp
  refine run2 _ _ g1 false #[] rfl (hK _ _ _ (hend hlt) ?_)
  have C1:=C.pure (n:=st.nx) (d:=o1.dst) (v:= .tup [(false,[.bool false])]) (u:= .tuple #[.bool false]) (fun t' h=>by rw[q2] at h;cases h;exact d1N) rfl (fun id hid=>by simp[SV.ids,K1,SC.ids] at hid)
  have C2:=C1.pure (n:=st.nx) (d:=o2.dst) (v:= .one (.bool false)) (u:= .bool false) (fun t' h=>by rw[q5] at h;cases h;exact d2N) rfl (fun id hid=>by simp[SV.ids,K1,SC.ids] at hid)
  refine⟨ρ,M,Lz al st.nx [],fun id h=>hal id (hsa id h),C2.weaken (fun t' v' h=> ?_) (fun id x h=> ?_) fun id=>⟨.inl,fun h=>by
   rcases h with h|h
   ·exact h
   ·simp at h;omega⟩⟩
  ·unfold J5i at h
   simp only[look] at h
   unfold Dn
   rw[q5,q2]
   split at h
   ·rename_i e;subst e;rw[if_pos rfl];exact h
   ·rename_i e
    rw[if_neg (by simpa using e)]
    obtain⟨i1,i2,i3⟩:=Jdd h
    rw[if_neg (by simpa using Ne.symm i1)]
    exact i3
  ·unfold U2
   rw[if_neg (by simp)]
   simp only[look]
   rw[if_neg (by simp)]
   exact h
end
end Go.Sx
namespace Go.Sx
open Go.RowKit
theorem L9 [Dr] {P:Program} {M R:Nat→Prop} {w:World}:∀{ks:List AK} {x:ATup ks} {vs:List Value},Xn P M R w ks x vs→vs.length=ks.length
 |[],_,_,h=>by rw[show _=[] from h];rfl
 |_::_,_,_,⟨v,vs',e,_,h⟩=>by rw[e,List.length_cons,List.length_cons,L9 h]
def J6w [Dr] (P:Program) (M R:Nat→Prop) (w:World) (n:Nat) (cs:List SV) (rs:List Res) (vs:List Value) (vals:List Value):Prop:=
 vals.length=rs.length∧(∀u∈vals,u.oneCell'=true)∧(∀v∈cs,∀id∈v.ids,n≤id∧id<n+rs.length)∧(∀y∈rs,y.owning=false∧y.ids=[])∧
 ∀ρ:Env,(∀i u,vals[i]? =some u→ρ (n+i)=u)→cs.map (SV.den ρ)=vs∧∀i y B,rs[i]? =some y→Yt P ρ M R B w (n+i) y
theorem Jtd [Dr] {P:Program} {M R:Nat→Prop} {w:World} (n:Nat):∀{k:AK} {x:k.T} {v:Value},Jpr P M R w k x v→∃vals,J6w P M R w n [(Vi k x n).1] (Vi k x n).2 [v] vals
 | .val g s, x, v, h => by
  obtain⟨cv,rfl,hr⟩:=h
  have h2:=D6 hr
  obtain⟨i1,i2,i3⟩:=Hh (n:=n) h2
  refine⟨Jz (enc s x) cv,i1,fun u hu=> ?_,fun v hv id hid=> ?_,fun y hy=> ?_,fun ρ hρ=>⟨?_,fun i y B hy=> ?_⟩⟩
  ·obtain⟨i,hi⟩:=List.getElem?_of_mem hu
   have hlt:i<(J9 (enc s x) n).2.length:=by rw[←i1];exact(List.getElem?_eq_some_iff.1 hi).1
   obtain⟨T,s',xs,v,_,e2,_,e4⟩:=i3 i _ (List.getElem?_eq_getElem hlt)
   rw[hi] at e2;cases e2;exact e4
  ·have:v= .v g (J9 (enc s x) n).1:=by simpa[Vi] using hv
   subst this
   exact Xj h2 id hid
  ·obtain⟨i,hi⟩:=List.getElem?_of_mem hy
   obtain⟨T,s',xs,v,rfl,_⟩:=i3 i y hi
   exact⟨rfl,rfl⟩
  ·have:=i2 ρ hρ
   simp only[Vi,List.map_cons,List.map_nil,SV.den]
   rw[←this]
  ·obtain⟨T,s',xs,v,rfl,e2,e3,_⟩:=i3 i y hy
   unfold Yt
   rw[hρ i v e2]
   exact e3
 | .ref T s, x, v, h => by
  have h':=h
  obtain⟨b,cs,rfl,_⟩:=h'
  refine⟨[.pointer (some ⟨b,0,none⟩)],rfl,fun u hu=>by simp at hu;subst hu;rfl,fun v hv id hid=> ?_,fun y hy=> ?_,fun ρ hρ=>⟨?_,fun i y B hy=> ?_⟩⟩
  ·have:v= .one (.ptr n 0):=by simpa[Vi] using hv
   subst this
   simp[SV.ids,K1,SC.ids] at hid
   subst hid
   exact⟨Nat.le_refl _,by simp[Vi]⟩
  ·have:y= .rbox T s x:=by simpa[Vi] using hy
   subst this
   exact⟨rfl,rfl⟩
  ·have e:=hρ 0 _ rfl
   simp only[Nat.add_zero] at e
   simp[Vi,SV.den,Jm,SC.den,e]
  ·have hi:i=0:=by have:=(List.getElem?_eq_some_iff.1 hy).1;simp[Vi] at this;omega
   subst hi
   have:y= .rbox T s x:=by simpa[Vi] using hy.symm
   subst this
   unfold Yt
   rw[hρ 0 _ rfl]
   exact h
 | .fn ps r, x, v, h => by
  have h':=h
  obtain⟨f,first,caps,rfl,_⟩:=h'
  refine⟨[.func (.func f) first caps],rfl,fun u hu=>by simp at hu;subst hu;rfl,fun v hv id hid=> ?_,fun y hy=> ?_,fun ρ hρ=>⟨?_,fun i y B hy=> ?_⟩⟩
  ·have:v= .one (.fv n):=by simpa[Vi] using hv
   subst this
   simp[SV.ids,K1,SC.ids] at hid
   subst hid
   exact⟨Nat.le_refl _,by simp[Vi]⟩
  ·have:y= .afn ps r x.1 x.2:=by simpa[Vi] using hy
   subst this
   exact⟨rfl,rfl⟩
  ·have e:=hρ 0 _ rfl
   simp only[Nat.add_zero] at e
   simp[Vi,SV.den,Jm,SC.den,e]
  ·have hi:i=0:=by have:=(List.getElem?_eq_some_iff.1 hy).1;simp[Vi] at this;omega
   subst hi
   have:y= .afn ps r x.1 x.2:=by simpa[Vi] using hy.symm
   subst this
   unfold Yt
   rw[hρ 0 _ rfl]
   exact h
theorem Jat [Dr] {P:Program} {M R:Nat→Prop} {w:World}:∀{ks:List AK} {x:ATup ks} {vs:List Value} (n:Nat),Xn P M R w ks x vs→∃vals,J6w P M R w n (U7 ks x n).1 (U7 ks x n).2 vs vals
 |[],_,vs,n,h=>by
  have:vs=[]:=h
  subst this
  exact⟨[],rfl,fun u hu=>by simp at hu,fun v hv=>by simp[U7] at hv,fun y hy=>by simp[U7] at hy,fun ρ _=>⟨rfl,fun i y B hy=>by simp[U7] at hy⟩⟩
 | k :: r, x, vs, n, h => by
  obtain⟨v,vs',rfl,h1,h2⟩:=h
  obtain⟨va,a1,a2,a3,a4,a5⟩:=Jtd n h1
  obtain⟨vb,b1,b2,b3,b4,b5⟩:=Jat (n+(Vi k x.1 n).2.length) h2
  refine⟨va++vb,by simp[U7,a1,b1],fun u hu=>(List.mem_append.1 hu).elim (a2 u) (b2 u),fun v hv id hid=> ?_,fun y hy=>(List.mem_append.1 hy).elim (a4 y) (b4 y),fun ρ hρ=> ?_⟩
  ·simp only[U7,List.length_append]
   rcases List.mem_cons.1 hv with rfl|hv
   ·have:=a3 _ (by simp) id hid;omega
   ·have:=b3 v hv id hid;omega
  ·have ha:=a5 ρ fun i u hu=>hρ i u (by rw[List.getElem?_append_left (List.getElem?_eq_some_iff.1 hu).1];exact hu)
   have hb:=b5 ρ fun i u hu=>by
    have:=hρ (va.length+i) u (by rw[List.getElem?_append_right (Nat.le_add_right _ _)];simpa using hu)
    rw[a1] at this
    rwa[Nat.add_assoc]
   refine⟨?_,fun i y B hy=> ?_⟩
   ·have e1:=ha.1
    simp only[List.map_cons,List.map_nil,List.cons.injEq,and_true] at e1
    simp only[U7,List.map_cons,e1,hb.1]
   ·simp only[U7] at hy
    by_cases hlt:i<(Vi k x.1 n).2.length
    ·rw[List.getElem?_append_left hlt] at hy
     exact ha.2 i y B hy
    ·rw[List.getElem?_append_right (by omega)] at hy
     have:=hb.2 _ y B hy
     rwa[show n+(Vi k x.1 n).2.length+(i-(Vi k x.1 n).2.length)=n+i by omega] at this
theorem V7 {α:Type} {t:Nat}:∀{l:List α} {n:Nat},look (Job l n) t=if n≤t then l[t-n]? else none
 |[],n=>by simp[Job,look]
 | x :: r, n => by
  simp only[Job,look]
  by_cases e:n=t
  ·subst e;simp
  ·rw[if_neg e,V7]
   by_cases h:n+1≤t
   ·rw[if_pos h,if_pos (by omega),show t-n=(t-(n+1))+1 by omega]
    simp
   ·rw[if_neg h,if_neg (by omega)]
theorem Jqn [Dr] (mk:Bool) {P:Program} {c:Con} {x:ATup c.args} {M R:Nat→Prop} {w:World} {vs:List Value} {N:Nat} (h:Xn P M R w c.args x vs) (hM:∀b,M b∨R b→b<w.heap.size) (hN:c.args.length≤N) (hgood:Good P w):
  Yl P N w.heap.size ⟨w,M,fun _=>none,mk⟩ R (Jfp c x) {tmps:=vs.toArray++Array.replicate (N-vs.toArray.size) undef,defers:=[]} w:=by
 obtain⟨vals,a1,a2,a3,a4,a5⟩:=Jat 0 h
 let ρ:Env:=fun id=>vals.getD id undef
 have hρ:∀i u,vals[i]? =some u→ρ (0+i)=u:=fun i u hu=>by
  show vals.getD (0+i) undef=u
  rw[Nat.zero_add,List.getD_eq_getElem?_getD,hu];rfl
 obtain⟨e1,e2⟩:=a5 ρ hρ
 have hlen:=L9 h
 have hrs:∀r y,look (Jfp c x).rs r=some y→(U7 c.args x 0).2[r]? =some y:=fun r y hy=>by
  simp only[Jfp] at hy
  rw[V7,if_pos (Nat.zero_le _)] at hy
  exact hy
 refine⟨ρ,M,fun id=>id<(U7 c.args x 0).2.length,fun id h=>h,⟨?_,⟨fun d hd=>by simp at hd, .nil⟩,fun _=>rfl,fun _ _=>rfl,fun _ _=>rfl,Below.refl _ _,Nat.le_refl _, ?_, ?_, ?_, ?_, ?_,hM, ?_,fun b=>⟨fun h=> .inl h,fun h=>h⟩,hgood⟩⟩
 ·simp;omega
 ·intro t sv ht
  simp only[Jfp] at ht
  rw[V7,if_pos (Nat.zero_le _),Nat.sub_zero] at ht
  have:vs[t]? =some (sv.den ρ):=by rw[←e1,List.getElem?_map,ht];rfl
  have hlt:t<vs.length:=(List.getElem?_eq_some_iff.1 this).1
  simp[Array.getD_eq_getD_getElem?,Array.getElem?_append,hlt]
  rw[List.getElem?_eq_getElem hlt] at this
  simpa using this
 ·intro t sv ht id hid
  simp only[Jfp] at ht
  rw[V7,if_pos (Nat.zero_le _)] at ht
  have:=a3 sv (List.mem_of_getElem? ht) id hid
  omega
 ·intro r y hy
  have:=e2 r y w.heap.size (hrs r y hy)
  rw[Nat.zero_add] at this
  exact this.a
 ·intro r y hy
  have h1:=hrs r y hy
  exact⟨(List.getElem?_eq_some_iff.1 h1).1,fun id hid=>by rw[(a4 y (List.mem_of_getElem? h1)).2] at hid;simp at hid⟩
 ·intro r r' y y' _ hy _ ho
  rw[(a4 y (List.mem_of_getElem? (hrs r y hy))).1] at ho;cases ho
 ·intro i hi
  have hlt:i<vals.length:=by rw[a1];exact hi
  have:=hρ i _ (List.getElem?_eq_getElem hlt)
  rw[Nat.zero_add] at this
  rw[this]
  exact a2 _ (List.getElem_mem hlt)
section
variable {P:Program} {N B:Nat} {w0:Yu} {al:Nat→Prop} {a:Act} {w:World} {ρ:Env} {M R:Nat→Prop} {s:St}
def Jht (tmps:Array Value):ResultVar→Sem Value
 | .tmp t=>pure (tmps.getD t undef)
 | .cell b t=>do loadVar t (←asAddr (tmps.getD b undef))
theorem Jhr (fn:Func) (tmps:Array Value):results fn tmps=(fn.results.mapM (Jht tmps)>>=fun vs=>pure (if h:vs.size=1 then vs[0] else .tuple vs)):=by
 unfold results
 congr 1
theorem Jcj [Dr] (C:Kk P N B w0 al (look s.sl) (look s.rs) a w ρ M R):∀{l:List ResultVar} {vs:List SV},Yz P s l=some vs→
  (l.mapM (Jht a.tmps)).run P w= .ok (vs.map (SV.den ρ)) w
 |[],vs,h=>by cases h;rfl
 | .tmp t :: r, vs, h => by
  simp only[Yz] at h
  split at h
  ·rename_i v l hv hl
   cases h
   have:=Jcj C hl
   rw[List.mapM_cons,Sem.run_bind]
   simp only[Jht,Sem.run_pure,Result.andThen_ok,Sem.run_bind,this,C.slot t v hv,List.map_cons]
  ·cases h
 | .cell t T :: r, vs, h => by
  simp only[Yz] at h
  split at h
  ·rename_i i l hv hl
   split at h
   ·rename_i U cs hr
    split at h
    ·rename_i hc
     obtain⟨e,hm⟩:=hc
     subst e
     split at h
     ·rename_i v hsh
      cases h
      have:=Jcj C hl
      obtain⟨ad,h1,h2⟩:∃ad,(loadVar U ad).run P w= .ok (v.den ρ) w∧(SC.ptr i 0).den ρ= .pointer (some ad):=by
       obtain⟨h1,h2,_⟩:=Jj0 C (off:=0) hr hm (by omega) (v:=v) (by simpa using hsh)
       exact⟨_,h1,h2⟩
      have hslot:a.tmps.getD t undef= .pointer (some ad):=(C.slot t _ hv).trans h2
      have hA:(asAddr (a.tmps.getD t undef)).run P w= .ok ad w:=by rw[hslot];rfl
      have hv1:(Jht a.tmps (.cell t U)).run P w= .ok (v.den ρ) w:=by
       simp only[Jht,Sem.run_bind,hA,Result.andThen_ok,h1]
      rw[List.mapM_cons,Sem.run_bind,hv1]
      simp only[Sem.run_bind,Sem.run_pure,Result.andThen_ok,this,List.map_cons]
     ·cases h
    ·cases h
   ·cases h
  ·cases h
theorem Hd [Dr] (C:Kk P N B w0 al (look s.sl) (look s.rs) a w ρ M R) {fn:Func} {vs:List SV} (h:Yz P s fn.results.toList=some vs):(results fn a.tmps).run P w= .ok (J0i (vs.map (SV.den ρ))) w:=by
 have h1:=Jcj C h
 rw[Jhr]
 have h2:(fn.results.mapM (Jht a.tmps)).run P w= .ok (vs.map (SV.den ρ)).toArray w:=by
  rw[Array.mapM_eq_mapM_toList]
  simp only[Sem.run_map,h1]
  rfl
 rw[Sem.run_bind,h2]
 simp only[Result.andThen_ok,Sem.run_pure]
 congr 1
 match vs with
 |[]=>rfl
 |[v]=>rfl
 |v::u::r=>rfl
theorem Jey {rs:Nat→Option Res} {owns:List Bool} {vs:List SV} {i:Nat} {y:Option Res} (h:look (Y9 rs owns vs) i=some y):∃T s xs,rs i=some (.own T s xs)∧y=some (.imm T s xs):=by
 obtain⟨v,_,hy⟩:=List.mem_flatMap.1 (Kd h)
 cases v with
 |v g cs=>exact Xl hy
 |tup l=>simp at hy
theorem Jc7 {p:Bool×Sch} {b:Bool} {x:p.2.T} {v:Value} {M:Nat→Prop} {w:World} {B:Nat} (hb:b=false) (h:∃cs,v=Jm p.1 cs∧Rep M w p.2 x cs):Jgm M w B p b x v:=by
 subst hb
 exact h
theorem Jbc [Dr] (C : Kk P N B w0 al (look s.sl) (look s.rs) a w ρ M R) (upd : List (Nat × Option Res)) (hupd : ∀ i y, look upd i = some y → ∃ T s' xs, look s.rs i = some (.own T s' xs) ∧ y = some (.imm T s' xs)) :
  ∀{ps:List (Bool×Sch)} {ow:List Bool} {vs:List SV} {y:Tup ps},H9 (look s.rs) ps vs=some y→Jlx (look s.rs) upd ps ow vs=true→
   (∀v∈F6 ow vs,∀g cs i T s' xs,v= .v g cs→SC.sl i∈cs→look s.rs i=some (.own T s' xs)→(look upd i).isSome=true)→
   Lu (fun b=>M b∨∃i y T s' xs,look upd i=some y∧look s.rs i=some (.own T s' xs)∧(ρ i).ownBlock=some b) w B ps ow y (vs.map (SV.den ρ))
 |[],ow,[],y,_,_,_=>rfl
 |[],_,_::_,_,h,_,_=>by simp[H9] at h
 |_::_,_,[],_,h,_,_=>by simp[H9] at h
 | p :: r, ow, v :: vs, y, h, ho, hf => by
  cases v with
  |tup _=>simp[H9] at h
  | v g cs =>
   simp only[H9] at h
   split at h
   ·rename_i e;subst e
    split at h
    ·rename_i x z h1 h2
     cases h
     have plain:(∀i T s' xs,SC.sl i∈cs→look s.rs i=some (.own T s' xs)→(look upd i).isSome=true)→
       ∃cv,(SV.v p.1 cs).den ρ=Jm p.1 cv∧Rep (fun b=>M b∨∃i y T s' xs,look upd i=some y∧look s.rs i=some (.own T s' xs)∧(ρ i).ownBlock=some b) w p.2 x cv:=by
      intro hfz
      refine⟨cs.map (SC.den ρ),rfl,Lr (P:=P) (R:=R) (B:=B) (M:=M) (fun b hb=> .inl hb) h1 (fun i y hy=>C.res i y hy) fun i T s' xs g hi hr hg=> ?_⟩
      obtain⟨y,hy⟩:=Option.isSome_iff_exists.1 (hfz i T s' xs hi hr)
      exact .inr ⟨i,y,T,s',xs,hy,hr,hg⟩
     cases ow with
     | nil =>
      refine⟨_,_,rfl,Jc7 rfl (plain fun i T s' xs hi hr=>hf (.v p.1 cs) (by simp[F6]) p.1 cs i T s' xs rfl hi hr),Jbc C upd hupd h2 (ow:=[]) (by unfold Jlx;cases r<;>rfl) fun v hv=>hf v (by
       cases vs with
       |nil=>simp[F6] at hv
       |cons u us=>simp only[F6] at hv⊢;exact List.mem_cons_of_mem _ hv)⟩
     | cons b ow =>
      simp only[Jlx,Bool.and_eq_true] at ho
      have htail:Lu (fun b=>M b∨∃i y T s' xs,look upd i=some y∧look s.rs i=some (.own T s' xs)∧(ρ i).ownBlock=some b) w B r ow z (vs.map (SV.den ρ)):=
       Jbc C upd hupd h2 ho.2 fun v hv=>hf v (by
        simp only[F6]
        split
        ·exact hv
        ·exact List.mem_cons_of_mem _ hv)
      refine⟨_,_,rfl, ?_,htail⟩
      cases b with
      |false=>exact Jc7 rfl (plain fun i T s' xs hi hr=>hf (.v p.1 cs) (by simp[F6]) p.1 cs i T s' xs rfl hi hr)
      | true =>
       have ho1:=ho.1
       simp only[if_true] at ho1
       obtain⟨g,sch⟩:=p
       unfold J5a at ho1
       split at ho1
       ·rename_i T s0 i hp hv
        cases hp;cases hv
        split at ho1
        ·rename_i T' s1 xs hr
         simp only[Bool.and_eq_true,decide_eq_true_eq,Option.isNone_iff_eq_none] at ho1
         obtain⟨e,hno⟩:=ho1
         subst e
         have h1':Dy s0 (look s.rs i)=some x:=h1
         rw[hr] at h1'
         simp only[Dy] at h1'
         split at h1'
         ·rename_i e
          subst e
          have hx:xs=x:=by simpa[D9] using h1'
          subst hx
          obtain⟨flat,f1,f2,f3⟩:=C.res i _ hr
          refine⟨flat,f1.imp fun _ _ h=>h.keep fun b hb=>⟨.inl hb,rfl⟩,f2,fun g hg=> ?_⟩
          rintro(hm|⟨i',y,T,s',xs',u1,u2,u3⟩)
          ·exact(f3 g hg).1 hm
          ·have hne:i≠i':=by rintro rfl;rw[hno] at u1;cases u1
           exact C.apart i i' _ _ hne hr u2 rfl rfl g (Jq hg) (Jq u3)
         ·cases h1'
        ·cases ho1
       ·rename_i T s0 hp hv
        cases hp;cases hv
        have h1':x=[]:=by
         have:some []=some x:=h1
         exact(Option.some.inj this).symm
        subst h1'
        exact⟨[],rfl,⟨by simp, .inl ⟨rfl,rfl⟩⟩,fun g hg=>by cases hg⟩
       ·cases ho1
    ·cases h
   ·cases h
theorem Jd2:∀{ps:List (Bool×Sch)} {x y:Tup ps},Us (Jsk ps x y)→x=y
 |[],_,_,_=>rfl
 |_::r,x,y,h=>by
  simp only[Jsk,Hl] at h
  exact Prod.ext h.1 (Jd2 h.2)
theorem Jj8 {l:List Prop} {q:Prop} (h:J5l l q) (hl:Us l):q:=by
 induction l with
 |nil=>exact h
 |cons p r ih=>
  rw[Hl] at hl
  exact ih (h hl.1) hl.2
theorem V2 [Dr] {P:Program} {Γ:Gam} {f:FuncId} {fn:Func} {c:Con} (hm:P.follows .mixedOrders=true) (hΓ:Xf P Γ) (hf:P.funcs[f]? =some fn) (hs:Jcf fn c=true)
  (ann:ATup c.args→Nat→Option Ann) (h:∀x:ATup c.args,wpF P Γ (ann x) fn c x):Ok P f c:=by
 unfold Jcf at hs
 cases hb:fn.body with
 |none=>rw[hb] at hs;cases hs
 | some code =>
  rw[hb] at hs
  simp only[Bool.and_eq_true,Bool.not_eq_true',Nat.ble_eq] at hs
  obtain⟨⟨⟨⟨hd,hN⟩,hname⟩,hsn⟩,hpn⟩:=hs
  refine⟨⟨fn,hf,by rw[hb];rfl,hname⟩,fun z hz=>(by rw[hz] at hsn;cases hsn),fun F hF=>(by rw[hF] at hpn;cases hpn),fun _ x M R w vs hM hgood hpre hargs=> ?_⟩
  have hx:=h x
  unfold wpF at hx
  rw[hb] at hx
  have hw:=Jj8 hx hpre
  refine Zv.1 (callsIn_of_wp (F:=FR none) (n:=0) hf hb trivial (D8 (rd:=none) (N:=fn.ntmps) (B:=w.heap.size) (w0:=⟨w,M,fun _=>none,false⟩) (R:=R) hm hΓ code hd hw (fun e st' a' w' he hs'=> ?_) _ w (Jqn false hargs hM hN hgood)))
  have key : Kdn P fn c x st' → a'.defers = [] ∧ ∃ v, (results fn a'.tmps).run P w' = .ok v w' ∧ Jpo M w c.ress c.owns (c.spec x) (.returned v) w' := by
   intro hr
   obtain⟨ρ,M',al,_,C⟩:=hs'
   unfold Kdn at hr
   split at hr
   ·rename_i rv hrv
    split at hr
    ·rename_i y hy
     split at hr
     ·rename_i ho
      have e:=Jd2 hr
      subst e
      refine⟨C.nomark rfl,_,Hd C hrv, ?_⟩
      have hres:=Jbc C (Y9 (look st'.rs) c.owns rv) (fun i y h=>Jey h) hy ho (fun v hv g cs i T s' xs e hi hr=>by
       subst e
       exact Uz hv (V8 hi hr))
      refine⟨_,_,rfl,C.below,fun b hb=> .inl ((C.up b).2 hb),fun b hb=> ?_,hres⟩
      rcases hb with hb|⟨i,y,T,s',xs,_,hr',hg⟩
      ·rcases(C.up b).1 hb with h1|h1
       ·exact .inl h1
       ·exact .inr ⟨h1.1,C.old b (.inl hb)⟩
      ·have:=C.notM hr' rfl (Jq hg)
       exact .inr ⟨this.2.2.1,this.2.2.2⟩
     ·exact hr.elim
    ·exact hr.elim
   ·exact hr.elim
  cases e with
  |normal=>exact key he
  |exit i=>exact he.elim
  |ret=>exact key he
end
end Go.Sx
namespace Go.Sx
open Go.RowKit
abbrev YK:=Nat→St→List SV→(Bool→St→Prop)→Prop
abbrev IL:=FuncId→St→List SV→(SV→St→Prop)→Prop
def K6o:IL:=fun _ _ _ _=>False
def J5g:YK:=fun _ _ _ _=>False
abbrev IT:=FuncId→St→YK→(St→Prop)→Prop
def Zd (st:St) (d:Option Tmp) (v:SV) (news:List Res) (upd:List (Nat×Option Res)):St:=
 ⟨st.nx+news.length,match d with
  |some t=>(t,v)::st.sl.filter fun p=>p.1 !=t
  |none=>st.sl,Jwr news st.nx++upd.reverse.foldl Uu st.rs⟩
def evK (st:St):Operand→Option SV
 | .tmp t=>look st.sl t
 | .const v=>some (ofValue v)
 | .func f=>some (.v false [.fn f])
 | .global _=>none
def J1j (st : St) (o : Oper) : Option (Nat × List SV) := match o.op with
 | .call c => match c.callee with
  | .value (.tmp t) => match look st.sl t, evL (evK st) c.args.toList with
   |some (.v false [.fv y]),some l=>match look st.rs y with
    |some (.yld .ready)=>some (y,l)
    |_=>none
   |_,_=>none
  |_=>none
 |_=>none
def Jfl (ops:List Oper) (j:Nat):Bool:=ops.any fun o=>match o.guard with
 |some (g,_)=>Nat.beq g j
 |none=>false
def Jxg (ops:List Oper) (j:Nat):Option Tmp:=match ops[j]? with
 |some p=>p.dst
 |none=>none
def Jq8 (st : St) (o : Oper) : Option (FuncId × List SV) := match o.op with
 | .call c => match c.callee with
  | .value x => match evK st x, evL (evK st) c.args.toList with
   |some (.v false [.fn f]),some l=>some (f,l)
   |some (.v false [.fno (some f)]),some l=>some (f,l)
   |some (.v false [.fv j]),some l=>match look st.rs j with
    |some (.clo f first caps)=>some (f,first++l++caps)
    |_=>none
   |_,_=>none
  |_=>none
 |_=>none
def Jhi (W:Nat→St→(Ex→St→Prop)→Prop) (id:Nat) (k:Ex→St→Prop):Nat→St→Prop
 |0,_=>False
 |n+1,st=>W (n+1) st (Ex.andThen (Jhi W id k n) (Ex.catch id k))
def Jy2 (ann:Nat→Option Ann) (m:Nat):Nat→Option Ann:=fun i=>ann (i+1000*m)
def Je2 (P : Program) (Γ : Gam) (yk : YK) (il : IL) (ops : List Oper) : List Oper → Nat → St → (St → Prop) → Prop
 |[],_,st,k=>k st
 | o :: r, n, st, k =>
  let next (st:St) (v:SV) (news:List Res) (upd:List (Nat×Option Res)):Prop:=match Jfl ops n with
   |true=>match v with
    | .v false [.bool b]=>(b=true→Je2 P Γ yk il ops r (n+1) (Zd st o.dst (.one (.bool true)) news upd) k)∧(b=false→Je2 P Γ yk il ops r (n+1) (Zd st o.dst (.one (.bool false)) news upd) k)
    |_=>False
   |false=>Je2 P Γ yk il ops r (n+1) (Zd st o.dst v news upd) k
  let skip:Prop:=Je2 P Γ yk il ops r (n+1) (Zd st o.dst Vb [] []) k
  let run : Prop := match J1j st o with
   |some yl=>yk yl.1 st yl.2 fun b st'=>Je2 P Γ yk il ops r (n+1) (Zd st' o.dst (.one (.bool b)) [] []) k
   | none => match o.op with
    | .pick c x y => match evK st c with
     |some (.v false [.bool b])=>match evK st (bif b then x else y) with
      |some v=>next st v [] []
      |none=>False
     |_=>False
    | _ => match opS P Γ (evK st) (look st.rs) st.nx o with
     |some out=>Jcc out.pre (next st out.val out.news out.upd)
     |none=>match Jq8 st o with
      |some fl=>il fl.1 st fl.2 fun v st'=>next st' v [] []
      |none=>False
  match o.guard with
  |none=>run
  | some (j, want) => match Jxg ops j with
   | some t => match look st.sl t with
    |some (.v false [.bool b])=>match b==want with
     |true=>run
     |false=>skip
    |some (.v false [.val (.tuple _)])=>skip
    |_=>False
   |none=>False
def Jp9 (P:Program) (st:St) (o:Oper):Option SV:=match o.op with
 | .move x=>evK st x
 | .nilCheck x=>match evK st x with
  |some (.v false [.ptr j off])=>some (.one (.ptr j off))
  |_=>none
 | .fieldAddr T x i=>match evK st x,L6 P T i with
  |some (.v false [.ptr j off]),some (d,_)=>some (.one (.ptr j (off+d)))
  |_,_=>none
 |_=>none
def Kdo (P : Program) (Γ : Gam) (il : IL) (ops : Array Oper) : Nat → Array Bool → St → (St → Prop) → Prop
 |0,listed,st,k=>match Region.ready .any ops listed with
  |[]=>k st
  |_=>False
 | n + 1, listed, st, k => match Region.ready .any ops listed with
  |[]=>k st
  |[i]=>match ops[i]? with
   |some o=>Je2 P Γ J5g il [o] [o] 0 st fun st'=>Kdo P Γ il ops n (listed.setIfInBounds i true) st' k
   |none=>False
  | r => match r.find? (fun i => Region.free .any ops listed i && match ops[i]? with
    |some o=>(Jp9 P st o).isSome
    |none=>false) with
   | some i => match ops[i]? with
    |some o=>match Jp9 P st o with
     |some v=>Kdo P Γ il ops n (listed.setIfInBounds i true) (Zd st o.dst v [] []) k
     |none=>False
    |none=>False
   |none=>False
def J7i (P:Program) (Γ:Gam) (il:IL) (ops:Array Oper) (st:St) (k:St→Prop):Prop:=
 match ops.toList.all (fun o=>o.guard.isNone)&&Region.noSelect ops with
 |true=>Kdo P Γ il ops ops.size (Array.replicate ops.size false) st k
 |false=>False
def Ji4:List (Nat×SV)→List (Nat×SV)
 |[]=>[]
 |p::r=>p::(Ji4 r).filter fun q=>q.1 !=p.1
def J1y:List Tmp→List SV→List (Nat×SV)→List (Nat×SV)
 |p::ps,v::vs,sl=>J1y ps vs ((p,v)::sl.filter fun q=>q.1 !=p)
 |_,_,sl=>sl
def Kdp:IT:=fun _ _ _ _=>False
def YS.ex:YS→Option Ex
 | .ready=>some .normal
 | .busy=>none
 | .done none=>some .ret
 | .done (some i)=>some (.exit i)
def J60:Ex→YS
 | .normal=> .ready
 | .exit i=> .done (some i)
 | .ret=> .done none
def Ex.goes:Ex→Bool
 | .normal=>true
 |_=>false
def ykF (y s : Nat) (ps : List Tmp) (ra rb : St → (Ex → St → Prop) → Prop) : YK := fun y' st1 args K =>
 if y' = y ∧ args.length = ps.length then match look st1.rs y, look st1.rs s with
  | some (.yld .ready), some (.sus l) => ra ⟨st1.nx + 1, J1y ps args l, (st1.nx, .sus (Ji4 st1.sl)) :: st1.rs⟩ fun e st2 => match e with
   | .normal => match look st2.rs y with
    |some (.yld .ready)=>rb ⟨st2.nx,st2.sl,Uu st2.rs (y,some (.yld .busy))⟩ fun e st3=>match look st3.rs st1.nx,look st3.rs y with
     |some (.sus li),some (.yld .busy)=>K e.goes ⟨st3.nx,li,Uu (Uu st3.rs (y,some (.yld (J60 e)))) (st1.nx,none)⟩
     |_,_=>False
    |_=>False
   |_=>False
  |_,_=>False
 else False
def K6s:Option Ann→Bool
 |some A=>A.un==7777
 |none=>false
def Kgi:Option Ann→Bool
 |some A=>A.un==7778
 |none=>false
def J2m (st:St) (t:Nat) (b:Bool):St:=⟨st.nx,(t, .v false [.bool b])::st.sl,st.rs⟩
def Kgu (ann:Nat→Option Ann):Code→Option Ann
 | .cond (.tmp t) _ _=>match ann (2000000+t) with
  |some A=>bif A.un==7779 then some A else none
  |none=>none
 | .seq _ b=>Kgu ann b
 |_=>none
def wpG (P : Program) (Γ : Gam) : (Nat → Option Ann) → IL → Code → Option YK → IT → St → (Ex → St → Prop) → Prop
 |ann,il, .skip,_,_,st,k=>k .normal st
 | ann, il, .region _ ops dr, yk, _, st, k => match Jjt ops.toList dr with
  |some t=>Jod st t k
  | none => match Klx P Γ ops.toList dr st with
   |some (ps,st')=>Jcc ps (k .normal st')
   | none => match dr with
    |false=>Je2 P Γ (yk.getD J5g) il ops.toList ops.toList 0 st (k .normal)
    |true=>match yk with
     |none=>J7i P Γ il ops st (k .normal)
     |some _=>False
 |ann,il, .seq a b,yk,it,st,k=>match Kgu ann a with
  |some A=>wpG P Γ ann il a yk it st (Ex.andThen (fun s=>∃y,Jw1 (Jka A.frz s) (A.σ y)∧A.inv y) k)∧∀y,A.inv y→wpG P Γ ann il b yk it (A.σ y) k
  |none=>wpG P Γ ann il a yk it st (Ex.andThen (fun s=>wpG P Γ ann il b yk it s k) k)
 | ann, il, .cond c a b, yk, it, st, k => match c with
  | .tmp t => match look st.sl t with
   | some (.v false [.bool x]) => match K6s (ann (1000000 + t)) with
    |true=>(match x with
     |true=>wpG P Γ ann il a yk it st k
     |false=>wpG P Γ ann il b yk it st k)
    |false=>match Kgi (ann (1000000+t)) with
     |true=>bif x then wpG P Γ ann il a yk it (J2m st t true) k else wpG P Γ ann il b yk it (J2m st t false) k
     |false=>(x=true→wpG P Γ ann il a yk it st k)∧(x=false→wpG P Γ ann il b yk it st k)
   |_=>False
  |_=>False
 | ann, il, .block id (.loop c), yk, it, st, k => match ann id with
  |some A=>match A.un with
   |n+1=>Jhi (fun m st k=>wpG P Γ (Jy2 ann m) il c yk it st k) id k (n+1) st
   |0=>match A.rel with
   |none=>∃x,Jw1 (Jka A.frz st) (A.σ x)∧A.inv x∧∀x,A.inv x→wpG P Γ ann il c yk it (A.σ x) (Ex.andThen (fun s=>∃y,Jw1 (Jka A.frz s) (A.σ y)∧A.inv y∧A.mu y<A.mu x) (Ex.catch id k))
   |some r=>∃x0,Jw1 (Jka A.frz st) (A.σ x0)∧(A.inv x0∧r x0 x0)∧∀x,A.inv x∧r x0 x→wpG P Γ ann il c yk it (A.σ x) (Ex.andThen (fun s=>∃y,Jw1 (Jka A.frz s) (A.σ y)∧(A.inv y∧r x0 y)∧A.mu y<A.mu x) (Ex.catch id k))
  |none=>False
 |ann,il, .block id c,yk,it,st,k=>wpG P Γ ann il c yk it st (Ex.catch id k)
 |ann,il, .exit id,_,_,st,k=>k (.exit id) st
 |ann,il, .ret,_,_,st,k=>k .ret st
 |ann,il, .scope c,yk,it,st,k=>wpG P Γ ann il c yk it st k
 |ann,il, .label _,_,_,st,k=>k .normal st
 | ann, il, .rangeFunc g ps a b, _, it, st, k => match g with
  | .tmp t => match look st.sl t with
   |some (.v false [.fv j])=>match look st.rs j with
    | some (.clo f [] caps) => it f ⟨st.nx + 2, Job (SV.one (.fv st.nx) :: caps) 0, (st.nx, .yld .ready) :: (st.nx + 1, .sus (Ji4 st.sl)) :: st.rs⟩
      (ykF st.nx (st.nx+1) ps.toList (wpG P Γ ann il a (some J5g) Kdp) (wpG P Γ ann il b (some J5g) Kdp)) fun st2=>match look st2.rs st.nx,look st2.rs (st.nx+1) with
       |some (.yld s),some (.sus l)=>match s.ex with
        |some e=>k e ⟨st2.nx,l,Uu (Uu st2.rs (st.nx,none)) (st.nx+1,none)⟩
        |none=>False
       |_,_=>False
    |_=>False
   |_=>False
  |_=>False
 |_,_,_,_,_,_,_=>False
def Uax (P:Program) (Γ:Gam) (ann:FuncId→Nat→Option Ann) (il:IL) (c:Code) (f:FuncId) (st:St) (yk:YK) (fin:St→Prop):Prop:=
 wpG P Γ (ann f) il c (some yk) Kdp st fun e s=>match e with
  | .exit _=>False
  |_=>fin s
def itS (P : Program) (Γ : Gam) (ann : FuncId → Nat → Option Ann) (il : IL) (lib : FuncId → Option Func) : IT := fun f st yk fin => match lib f with
 | some fn => match fn.body with
  | some c => if (Yr fn.ntmps c && Nat.ble st.sl.length fn.ntmps && !(fn.name == "runtime.NumGoroutine") && fn.results.isEmpty) = true then
    Uax P Γ ann il c f st yk fin
   else False
  |none=>False
 |none=>False
def hasRF:Code→Bool
 | .rangeFunc _ _ _ _=>true
 | .seq a b=>hasRF a||hasRF b
 | .cond _ a b=>hasRF a||hasRF b
 | .block _ c=>hasRF c
 | .loop c=>hasRF c
 | .scope c=>hasRF c
 |_=>false
def Res.soft:Res→Bool
 | .afn _ _ _ _=>false
 |_=>true
def J1n:List SV→Option (List (Bool×List SC))
 |[]=>some []
 | .v g cs::r=>match J1n r with
  |some l=>some ((g,cs)::l)
  |none=>none
 | .tup _::_=>none
def Jp4:List SV→Option SV
 |[v]=>some v
 |l=>match J1n l with
  |some ps=>some (.tup ps)
  |none=>none
def Kvy (P : Program) (fn : Func) (z : Nat) (m : Bool) (K : SV → St → Prop) : Ex → St → Prop := fun e s => match e with
 | .exit _=>False
 | _ => match m && !(s.rs.all fun p => p.2.soft) with
  |true=>False
  | false => match Yz P s fn.results.toList, look s.rs z with
   |some vs,some (.sus l)=>match Jp4 vs with
    |some v=>K v ⟨s.nx,l,Uu s.rs (z,none)⟩
    |none=>False
   |_,_=>False
def Kvx (P:Program) (Γ:Gam) (ann:FuncId→Nat→Option Ann) (il:IL) (it:IT) (m:Bool) (fn:Func) (c:Code) (f:FuncId) (st:St) (args:List SV) (K:SV→St→Prop):Prop:=
 wpG P Γ (ann f) il c none it ⟨st.nx+1,Job args 0,(st.nx, .sus (Ji4 st.sl))::st.rs⟩ (Kvy P fn st.nx m K)
def J78 (Γ : Gam) : IL := fun f st args K => match Γ.get f with
 | some c => match c.srt with
  | some z => match z.rel, args with
   |some r,[.v false [.sl i], .v false [.fn g]]=>match look st.rs i with
    |some (.own T s xs)=>if h:s=z.s∧T=z.T∧g=z.g∧z.s.hasList=false then z.pre (D9 h.1 xs)∧∀ys:List z.s.T,r (D9 h.1 xs) ys→K (.tup []) ⟨st.nx,st.sl,Uu st.rs (i,some (.own z.T z.s ys))⟩ else False
    |_=>False
   |_,_=>False
  |none=>False
 |none=>False
def ilS (P : Program) (Γ : Gam) (ann : FuncId → Nat → Option Ann) (lib : FuncId → Option Func) : Nat → IL
 |0=>K6o
 | n + 1 => fun f st args K => match lib f with
  | some fn => match fn.body with
   | some c => if (Yr fn.ntmps c && Nat.ble args.length fn.ntmps && !(fn.name == "runtime.NumGoroutine")) = true then
     match hasRF c with
     |true=>Kvx P Γ ann (ilS P Γ ann lib n) (itS P Γ ann (ilS P Γ ann lib n) lib) true fn c f st args K
     |false=>Kvx P Γ ann (ilS P Γ ann lib n) Kdp false fn c f st args K
    else False
   |none=>False
  |none=>J78 Γ f st args K
def Res.calm:Res→Bool
 | .afn _ _ _ _=>false
 | .sus _=>false
 | .yld _=>false
 |_=>true
@[irreducible] def wpFG (P:Program) (Γ:Gam) (ann:Nat→Option Ann) (annF:FuncId→Nat→Option Ann) (lib:FuncId→Option Func) (fn:Func) (c:Con) (x:ATup c.args):Prop:=
 match fn.body with
 |some code=>J5l (c.pre x)<|wpG P Γ ann (ilS P Γ annF lib 5) code none (itS P Γ annF (ilS P Γ annF lib 5) lib) (Jfp c x) fun e s=>match e with
  | .exit _=>False
  |_=>(s.rs.all fun p=>p.2.calm)=true∧Kdn P fn c x s
 |none=>False
end Go.Sx
namespace Go.Sx
open Go.RowKit
theorem Jlv [Dr] {B:Nat} {w:World} {l:Nat} (o:Obj) (h:B≤l):Below B w (w.putObj l o):=
 ⟨rfl,rfl,rfl,by simp,fun k hk=>World.putObj_heap_other (by omega),fun _=>Nat.le_refl _⟩
theorem Xs:∀{l:List (Nat×SV)} {p:Nat×SV},p∈Ji4 l→look l p.1=some p.2
 |[],p,h=>by simp[Ji4] at h
 | q :: l, p, h => by
  simp only[Ji4] at h
  rcases List.mem_cons.1 h with rfl|h
  ·simp[look]
  ·rw[List.mem_filter] at h
   simp only[look]
   have:¬q.1=p.1:=fun e=>by simp[e] at h
   rw[if_neg this]
   exact Xs h.1
theorem Jir.base [Dr] {P:Program} {ρ:Env} {M R:Nat→Prop} {B:Nat} {w0 w0':Yu} {w:World} {r:Nat} {x:Res} (h:Jir P ρ M R B w0 w r x) (he:x.spec=true→w0'.an r=w0.an r):Jir P ρ M R B w0' w r x:=by
 cases x with
 |sus l=>obtain⟨T,h1,h2⟩:=h;exact⟨T,(he rfl).trans h1,h2⟩
 |yld s=>obtain⟨l,rc,h1,h2⟩:=h;exact⟨l,rc,(he rfl).trans h1,h2⟩
 |_=>exact h
section
variable {P:Program} {N B:Nat} {w0:Yu} {al:Nat→Prop} {τ:Nat→Option SV} {σ:Nat→Option Res} {a:Act} {w:World} {ρ:Env} {M R:Nat→Prop}
theorem Kk.putFree [Dr] (C:Kk P N B w0 al τ σ a w ρ M R) {b:Nat} (o':Obj) (hB:B≤b) (hM:¬M b) (hR:¬R b) (ho:∀r x,σ r=some x→x.owning=true→blk (ρ r)≠some b):
  Kk P N B w0 al τ σ a (w.putObj b o') ρ M R:=by
 have hh:∀k,k≠b→(w.putObj b o').heap[k]? =w.heap[k]? :=fun k hk=>World.putObj_heap_other hk
 have hs:(w.putObj b o').heap.size=w.heap.size:=by simp
 have hMb:∀k,M k→(w.putObj b o').heap[k]? =w.heap[k]? :=fun k hk=>hh k fun e=>hM (e▸hk)
 refine⟨C.size,C.defers.keep (fun _ h=>h) hMb,C.nomark,fun k hk=>(hMb k ((C.up k).2 hk)).trans (C.stay k hk),fun k hk=>(hh k fun e=>hR (e▸hk)).trans (C.stayR k hk),C.below.trans (Jlv o' hB),by rw[hs];exact C.base,C.slot,C.slotIds,fun r x hx=> ?_,C.resIds,C.apart,fun k hk=>by rw[hs];exact C.old k hk,C.one,C.up,C.good⟩
 refine(C.resA r x hx).keep rfl (fun _ _=>rfl) (fun _ h=>h) (fun k hk=>hh k ?_) fun hox k hk=>⟨hh k ?_,(C.notM hx hox hk).1⟩
 ·rintro rfl
  rcases hk with hk|hk
  ·exact hM hk
  ·exact hR hk
 ·rintro rfl
  exact ho r x hx hox hk
theorem Kk.setYld [Dr] (C:Kk P N B w0 al τ σ a w ρ M R) {y:Nat} {s s':YS} {lp:Nat} {rc:Loop} (hy:σ y=some (.yld s)) (ha:w0.an y=some (.loop lp rc)):
  Kk P N B w0 al τ (fun id=>if id=y then some (.yld s') else σ id) a (w.putObj lp (.loop {rc with state:=s'.st,pending:=s'.pend})) ρ M R:=by
 obtain⟨l,rc',h1,h2,h3,h4,h5,h6⟩:=C.resA y _ hy
 rw[ha] at h1
 cases h1
 have hblk:blk (ρ y)=some lp:=by rw[h2];rfl
 have C1:Kk P N B w0 al τ (fun id=>if id=y then none else σ id) a w ρ M R:=C.weaken (fun _ _ h=>h) (fun i x h=>by
  split at h
  ·cases h
  ·exact h) fun _=>Iff.rfl
 have C2:=C1.putFree (.loop {rc with state:=s'.st,pending:=s'.pend}) h6 h4 h5 (fun r x hx ho=>by
  split at hx
  ·cases hx
  ·rename_i hne
   intro hb
   exact C.apart r y x _ hne hx hy ho rfl lp hb hblk)
 have hlt:lp<w.heap.size:=(Array.getElem?_eq_some_iff.1 h3).1
 refine⟨C2.size,C2.defers,C2.nomark,C2.stay,C2.stayR,C2.below,C2.base,C2.slot,C2.slotIds,fun r x hx=> ?_,fun r x hx=> ?_,fun r r' x x' hne hx hx' ho ho' b hb hb'=> ?_,C2.old,C2.one,C2.up,C2.good⟩
 ·split at hx
  ·rename_i e;subst e;cases hx
   exact⟨lp,rc,ha,h2,World.putObj_heap_same hlt,h4,h5,h6⟩
  ·rename_i e
   exact C2.resA r x (by rw[if_neg e];exact hx)
 ·split at hx
  ·rename_i e;subst e;cases hx
   exact⟨(C.resIds r _ hy).1,fun id hid=>by simp[Res.ids] at hid⟩
  ·exact C.resIds r x hx
 ·have get:∀{r x},(if r=y then some (Res.yld s') else σ r)=some x→∃x0,σ r=some x0∧(x.owning=true→x0.owning=true):=by
   intro r x h
   split at h
   ·rename_i e;subst e;cases h;exact⟨_,hy,fun _=>rfl⟩
   ·exact⟨x,h,id⟩
  obtain⟨x0,e1,e2⟩:=get hx
  obtain⟨x0',e1',e2'⟩:=get hx'
  exact C.apart r r' x0 x0' hne e1 e1' (e2 ho) (e2' ho') b hb hb'
theorem Jpz {ρ:Env} {al:Nat→Prop} {N:Nat}:∀{ps:List Tmp} {vs:List SV} {sl:List (Nat×SV)} {tmps:Array Value},ps.length=vs.length→(∀p∈ps,p<N)→tmps.size=N→
  (∀t v,look sl t=some v→tmps.getD t undef=v.den ρ∧∀id∈v.ids,al id)→(∀v∈vs,∀id∈v.ids,al id)→
  ((ps.zip (vs.map (SV.den ρ))).foldl (fun t (p:Tmp×Value)=>t.setIfInBounds p.1 p.2) tmps).size=N∧
  ∀t v,look (J1y ps vs sl) t=some v→((ps.zip (vs.map (SV.den ρ))).foldl (fun t (p:Tmp×Value)=>t.setIfInBounds p.1 p.2) tmps).getD t undef=v.den ρ∧∀id∈v.ids,al id
 |[],[],sl,tmps,_,_,hs,h,_=>⟨hs,h⟩
 | p :: ps, v :: vs, sl, tmps, hl, hp, hs, h, hv => by
  simp only[List.map_cons,List.zip_cons_cons,List.foldl_cons,J1y]
  refine Jpz (by simpa using hl) (fun q hq=>hp q (by simp[hq])) (by simpa using hs) (fun t u ht=> ?_) (fun u hu=>hv u (by simp[hu]))
  simp only[look] at ht
  split at ht
  ·rename_i e
   subst e;cases ht
   refine⟨?_,hv _ (by simp)⟩
   have:p<tmps.size:=by rw[hs];exact hp p (by simp)
   simp[Array.getD_eq_getD_getElem?,this]
  ·rename_i e
   rw[Vr] at ht
   split at ht
   ·cases ht
   ·obtain⟨h1,h2⟩:=h t u ht
    refine⟨?_,h2⟩
    rw[←h1]
    simp only[Array.getD_eq_getD_getElem?,Array.getElem?_setIfInBounds_ne e]
 |[],_::_,_,_,hl,_,_,_,_=>by simp at hl
 |_::_,[],_,_,hl,_,_,_,_=>by simp at hl
def Kdf [Dr] (P:Program) (N B:Nat) (w0:Yu) (R:Nat→Prop) (yk:YK):Prop:=
 ∀ {y : Nat} {st : St} {l : List SV} {K : Bool → St → Prop} {ρ : Env} {M : Nat → Prop} {al : Nat → Prop} {a : Act} {w : World}, (∀ id, al id → id < st.nx) → Kk P N B w0 al (look st.sl) (look st.rs) a w ρ M R → look st.rs y = some (.yld .ready) → (∀ v ∈ l, ∀ id ∈ v.ids, al id) → yk y st l K →
  ∃lp rc,ρ y= .func (.yield lp) #[] #[]∧w.heap[lp]? =some (.loop rc)∧l.length=rc.params.size∧
   RoundIn (FR none) 0 P lp rc.fn ((rc.params.zip (l.map (SV.den ρ)).toArray).foldl (fun t (p:Tmp×Value)=>t.setIfInBounds p.1 p.2) rc.tmps) rc.assign rc.body w fun e w'=>∃b st',e= .returned (.bool b)∧K b st'∧Yl P N B w0 R st' a w'
theorem J1i {st:St} {o:Oper} {y:Nat} {l:List SV} (h:J1j st o=some (y,l)):∃c t,o.op= .call c∧c.callee= .value (.tmp t)∧look st.sl t=some (.v false [.fv y])∧evL (evK st) c.args.toList=some l∧look st.rs y=some (.yld .ready):=by
 unfold J1j at h
 split at h
 ·rename_i c hc
  split at h
  ·rename_i t ht
   split at h
   ·rename_i y' l' h1 h2
    split at h
    ·rename_i h3
     cases h
     exact⟨c,t,hc,ht,h1,h2,h3⟩
    ·cases h
   ·cases h
  ·cases h
 ·cases h
theorem La [Dr] {st:St} {o:Oper} {v:SV} {news:List Res} {upd:List (Nat×Option Res)} {a':Act} (hal:∀id,al id→id<st.nx)
  (C:Kk P N B w0 (Lz al st.nx news) (Dn (look st.sl) o.dst v) (U2 (look st.rs) st.nx news upd) a' w ρ M R):Yl P N B w0 R (Zd st o.dst v news upd) a' w:=by
 refine⟨ρ,M,_,fun id h=> ?_,C.weaken (fun t u h=> ?_) (fun id x h=> ?_) fun _=>Iff.rfl⟩
 ·rcases h with h|h
  ·have:=hal id h;simp only[Zd];omega
  ·simp only[Zd];omega
 ·unfold Zd at h
  unfold Dn
  cases hd:o.dst with
  |none=>rw[hd] at h;simpa using h
  | some d =>
   rw[hd] at h
   simp only[look] at h
   split at h
   ·rename_i e;subst e;rw[if_pos rfl];exact h
   ·rename_i e
    rw[Vr] at h
    rw[if_neg (by simpa using e)]
    split at h
    ·cases h
    ·exact h
 ·unfold Zd at h
  simp only at h
  unfold U2
  rw[Jcn,D2] at h
  exact h
end
end Go.Sx
namespace Go.Sx
open Go.RowKit
section
variable {P:Program} {Γ:Gam} {N B:Nat} {w0:Yu} {R:Nat→Prop}
theorem Lo [Dr] {st:St} {al:Nat→Prop} {a:Act} {w:World} {ρ:Env} {M:Nat→Prop} (C:Kk P N B w0 al (look st.sl) (look st.rs) a w ρ M R):∀x sv,evK st x=some sv→a.eval x=sv.den ρ∧∀id∈sv.ids,al id:=by
 intro x sv h
 cases x with
 |tmp t=>exact⟨C.slot t sv h,C.slotIds t sv h⟩
 |const v=>cases h;exact⟨(Jf6 ρ v).symm,fun id hid=>by rw[Jfc] at hid;simp at hid⟩
 |func f=>cases h;exact⟨rfl,fun id hid=>by simp[SV.ids,K1,SC.ids] at hid⟩
 |global _=>cases h
theorem Juz [Dr] {ops:List Oper} {opsA:Array Oper} (hA:opsA.toList=ops) (hN:∀o∈ops,∀t,o.dst=some t→t<N) {st:St} {al:Nat→Prop} {a:Act} {w:World} {ρ:Env} {M:Nat→Prop} (C:Kk P N B w0 al (look st.sl) (look st.rs) a w ρ M R)
  {o:Oper} {j:Nat} {want:Bool} (hg:o.guard=some (j,want)) {t:Tmp} (ht:Jxg ops j=some t):
  (∀b,look st.sl t=some (.v false [.bool b])→Region.wanted o (yielded opsA a.tmps)=(b==want))∧(∀vs,look st.sl t=some (.v false [.val (.tuple vs)])→Region.wanted o (yielded opsA a.tmps)=false):=by
 unfold Jxg at ht
 split at ht
 ·rename_i p hp
  have hopsA:opsA[j]? =some p:=by rw[←Array.getElem?_toList,hA];exact hp
  have htN:t<N:=hN p (List.mem_of_getElem? hp) t ht
  have hsz:t<a.tmps.size:=by rw[C.size];exact htN
  have hy:yielded opsA a.tmps j=match a.tmps.getD t undef with| .bool b=>some b|_=>none:=by
   simp only[yielded,hopsA,Option.bind_some,ht,Array.getD_eq_getD_getElem?,Array.getElem?_eq_getElem hsz,Option.getD_some]
   cases a.tmps[t]<;>rfl
  refine⟨fun b hb=> ?_,fun vs hb=> ?_⟩
  ·have e:=C.slot t _ hb
   unfold Region.wanted
   rw[hg]
   simp only[hy,e,SV.den,List.map_cons,List.map_nil,Jm,SC.den]
   simp
  ·have e:=C.slot t _ hb
   unfold Region.wanted
   rw[hg]
   simp only[hy,e,SV.den,List.map_cons,List.map_nil,Jm,SC.den]
   simp
 ·cases ht
def Kdj [Dr] (P:Program) (il:IL):Prop:=
 ∀{f:FuncId} {st:St} {args:List SV} {K:SV→St→Prop} {N B:Nat} {w0:Yu} {R:Nat→Prop} {ρ:Env} {M:Nat→Prop} {al:Nat→Prop} {a:Act} {w:World},(∀id,al id→id<st.nx)→Kk P N B w0 al (look st.sl) (look st.rs) a w ρ M R→(∀v∈args,∀id∈v.ids,al id)→il f st args K→
  Dj P f∧Calls P f (args.map (SV.den ρ)).toArray w fun e w'=>∃v u st' ρ' M' al',e= .returned v∧K u st'∧(∀id,al' id→id<st'.nx)∧Kk P N B w0 al' (look st'.sl) (look st'.rs) a w' ρ' M' R∧v=u.den ρ'∧∀id∈u.ids,al' id
theorem Jx2 [Dr] {st:St} {al:Nat→Prop} {a:Act} {w:World} {ρ:Env} {M:Nat→Prop} (C:Kk P N B w0 al (look st.sl) (look st.rs) a w ρ M R) {o:Oper} {f:FuncId} {l:List SV} (h:Jq8 st o=some (f,l)):
  (∀v∈l,∀id∈v.ids,al id)∧(∃c,o.op= .call c)∧(Dj P f→(execOp a.eval o).run P w= .ok (.enter f (l.map (SV.den ρ)).toArray) w):=by
 unfold Jq8 at h
 split at h
 ·rename_i c ho
  split at h
  ·rename_i x hc
   split at h
   ·rename_i f' l' hx hl
    cases h
    obtain⟨h1,h2⟩:=Hz (Lo C) hl
    obtain⟨e1,_⟩:=Lo C x _ hx
    replace e1:a.eval x= .func (.func f) #[] #[]:=e1
    have ha:c.args.map a.eval=(l.map (SV.den ρ)).toArray:=by
     apply Array.ext'
     simpa using h1
    refine⟨h2,⟨c,ho⟩,fun hE=> ?_⟩
    have hr:=U1 hE (l.map (SV.den ρ)).toArray w
    cases x<;>simp[execOp,ho,resolve,hc,e1,Deferred.ofValue,invoke,ha] at hr⊢<;>exact hr
   ·rename_i f' l' hx hl
    cases h
    obtain⟨h1,h2⟩:=Hz (Lo C) hl
    obtain⟨e1,_⟩:=Lo C x _ hx
    replace e1:a.eval x= .func (.func f) #[] #[]:=e1
    have ha:c.args.map a.eval=(l.map (SV.den ρ)).toArray:=by
     apply Array.ext'
     simpa using h1
    refine⟨h2,⟨c,ho⟩,fun hE=> ?_⟩
    have hr:=U1 hE (l.map (SV.den ρ)).toArray w
    cases x<;>simp[execOp,ho,resolve,hc,e1,Deferred.ofValue,invoke,ha] at hr⊢<;>exact hr
   ·rename_i j l' hx hl
    split at h
    ·rename_i f' first caps hj
     cases h
     obtain⟨h1,h2⟩:=Hz (Lo C) hl
     obtain⟨e1,_⟩:=Lo C x _ hx
     replace e1:a.eval x=ρ j:=e1
     have ej:ρ j= .func (.func f) (first.map (SV.den ρ)).toArray (caps.map (SV.den ρ)).toArray:=C.res j _ hj
     have ha:c.args.map a.eval=(l'.map (SV.den ρ)).toArray:=by
      apply Array.ext'
      simpa using h1
     refine⟨fun v hv id hid=> ?_,⟨c,ho⟩,fun hE=> ?_⟩
     ·have hr:=(C.resIds j _ hj).2
      rcases List.mem_append.1 hv with hv|hv
      ·rcases List.mem_append.1 hv with hv|hv
       ·exact hr id (List.mem_append_left _ (List.mem_flatMap.2 ⟨v,hv,hid⟩))
       ·exact h2 v hv id hid
      ·exact hr id (List.mem_append_right _ (List.mem_flatMap.2 ⟨v,hv,hid⟩))
     ·have hr:=U1 hE ((first++l'++caps).map (SV.den ρ)).toArray w
      cases x<;>simp[execOp,ho,resolve,hc,e1,ej,Deferred.ofValue,invoke,ha] at hr⊢<;>exact hr
    ·cases h
   ·cases h
  ·cases h
 ·cases h
theorem Jjk [Dr] (hΓ : Xf P Γ) {yk : YK} (hyk : Kdf P N B w0 R yk) {il : IL} (hil : Kdj P il) {rd : Option Nat} (hyn : rd = none ∨ yk = J5g) {ops : List Oper} {opsA : Array Oper} (hA : opsA.toList = ops) (hN : ∀ o ∈ ops, ∀ t, o.dst = some t → t < N) {Q : Exit → Act → World → Prop} {k : St → Prop}
  (hK:∀st' a w,k st'→Yl P N B w0 R st' a w→Q .normal a w):∀(rest:List Oper) (n:Nat) (st:St) (a:Act) (w:World),ops.drop n=rest→Je2 P Γ yk il ops rest n st k→Yl P N B w0 R st a w→wpOpsIn (FR rd) 0 P opsA Q (List.range' n rest.length) a w
 |[],n,st,a,w,_,h,hs=>hK st a w h hs
 | o :: r, n, st, a, w, hd, h, hs => by
  have hat:ops[n]? =some o:=by
   have:(ops.drop n)[0]? =some o:=by rw[hd];rfl
   rw[List.getElem?_drop] at this
   simpa using this
  have hdr:ops.drop (n+1)=r:=by
   have:(ops.drop n).drop 1=r:=by rw[hd];rfl
   rw[List.drop_drop] at this
   exact this
  have hoA:opsA[n]? =some o:=by rw[←Array.getElem?_toList,hA];exact hat
  have hdN:∀t,o.dst=some t→t<N:=hN o (List.mem_of_getElem? hat)
  rw[List.length_cons,List.range'_succ,wpOpsIn_cons]
  unfold wpOpIn
  rw[hoA]
  simp only
  obtain⟨ρ,M,al,hal,C⟩:=id hs
  have ih:=fun st' a' w'=>Jjk hΓ @hyk @hil hyn hA hN hK r (n+1) st' a' w' hdr
  have hfr:∀(news:List Res) id,al id→¬(st.nx≤id∧id<st.nx+news.length):=fun news id h=>by have:=hal id h;omega
  have hskip:Je2 P Γ yk il ops r (n+1) (Zd st o.dst Vb [] []) k→(∀f,o.about P w a.eval=some f→(FR rd).fn f)∧wpOpsIn (FR rd) 0 P opsA Q (List.range' (n+1) r.length) (a.put o.dst undef) w:=fun h=>by
   refine⟨fun _ _=>trivial,ih _ _ _ h (La hal (C.pure (n:=st.nx) hdN ?_ ?_))⟩
   ·rfl
   ·intro id hid;simp[Vb,SV.ids,K1,SC.ids] at hid
  have hnext:∀(st:St) (al:Nat→Prop) (v:SV) (news:List Res) (upd:List (Nat×Option Res)),(∀id,al id→id<st.nx)→(match Jfl ops n with
    |true=>match v with
     | .v false [.bool b]=>(b=true→Je2 P Γ yk il ops r (n+1) (Zd st o.dst (.one (.bool true)) news upd) k)∧(b=false→Je2 P Γ yk il ops r (n+1) (Zd st o.dst (.one (.bool false)) news upd) k)
     |_=>False
    |false=>Je2 P Γ yk il ops r (n+1) (Zd st o.dst v news upd) k)→∀a' w' ρ' M',Kk P N B w0 (Lz al st.nx news) (Dn (look st.sl) o.dst v) (U2 (look st.rs) st.nx news upd) a' w' ρ' M' R→wpOpsIn (FR rd) 0 P opsA Q (List.range' (n+1) r.length) a' w':=by
   intro st al v news upd hal h a' w' ρ' M' C'
   split at h
   ·split at h
    ·rename_i b
     cases b with
     |true=>exact ih _ _ _ (h.1 rfl) (La hal C')
     |false=>exact ih _ _ _ (h.2 rfl) (La hal C')
    ·exact h.elim
   ·exact ih _ _ _ h (La hal C')
  have hrun : (match J1j st o with
   |some yl=>yk yl.1 st yl.2 fun b st'=>Je2 P Γ yk il ops r (n+1) (Zd st' o.dst (.one (.bool b)) [] []) k
   | none => match o.op with
    | .pick c x y => match evK st c with
     | some (.v false [.bool b]) => match evK st (bif b then x else y) with
      | some v => (match Jfl ops n with
       |true=>match v with
        | .v false [.bool b]=>(b=true→Je2 P Γ yk il ops r (n+1) (Zd st o.dst (.one (.bool true)) [] []) k)∧(b=false→Je2 P Γ yk il ops r (n+1) (Zd st o.dst (.one (.bool false)) [] []) k)
        |_=>False
       |false=>Je2 P Γ yk il ops r (n+1) (Zd st o.dst v [] []) k)
      |none=>False
     |_=>False
    | _ => match opS P Γ (evK st) (look st.rs) st.nx o with
     | some out => Jcc out.pre (match Jfl ops n with
      |true=>match out.val with
       | .v false [.bool b]=>(b=true→Je2 P Γ yk il ops r (n+1) (Zd st o.dst (.one (.bool true)) out.news out.upd) k)∧(b=false→Je2 P Γ yk il ops r (n+1) (Zd st o.dst (.one (.bool false)) out.news out.upd) k)
       |_=>False
      |false=>Je2 P Γ yk il ops r (n+1) (Zd st o.dst out.val out.news out.upd) k)
     | none => match Jq8 st o with
      | some fl => il fl.1 st fl.2 fun v st => (match Jfl ops n with
       |true=>match v with
        | .v false [.bool b]=>(b=true→Je2 P Γ yk il ops r (n+1) (Zd st o.dst (.one (.bool true)) [] []) k)∧(b=false→Je2 P Γ yk il ops r (n+1) (Zd st o.dst (.one (.bool false)) [] []) k)
        |_=>False
       |false=>Je2 P Γ yk il ops r (n+1) (Zd st o.dst v [] []) k)
      |none=>False)→o.wpIn (FR rd) 0 P a w (wpOpsIn (FR rd) 0 P opsA Q (List.range' (n+1) r.length)) Q:=by
   intro h
   split at h
   ·rename_i yl hyl
    obtain⟨y,l⟩:=yl
    obtain⟨c,t,ho,hc,ht,hl,hy⟩:=J1i hyl
    have hrd:rd=none:=by
     rcases hyn with h0|h0
     ·exact h0
     ·rw[h0] at h;exact h.elim
    subst hrd
    obtain⟨h1,h2⟩:=Hz (Lo C) hl
    obtain⟨lp,rc,e1,e2,e3,e4⟩:=hyk hal C hy h2 h
    have hev:a.eval (.tmp t)= .func (.yield lp) #[] #[]:=(C.slot t _ ht).trans e1
    have hargs:c.args.map a.eval=(l.map (SV.den ρ)).toArray:=by
     apply Array.ext'
     simpa using h1
    refine⟨fun _ _=>trivial, ?_⟩
    have hex:(Oper.semAt (FR none).round a.eval o).run P w= .ok (.round lp rc.fn ((rc.params.zip (l.map (SV.den ρ)).toArray).foldl (fun t (p:Tmp×Value)=>t.setIfInBounds p.1 p.2) rc.tmps) rc.assign rc.body) w:=by
     show(Oper.semAt none a.eval o).run P w=_
     rw[Oper.semAt_none]
     have hy2:=run_yield (P:=P) (args:=(l.map (SV.den ρ)).toArray) e2 (by simp[e3])
     simp only[execOp,ho,resolve,hc,hev,hargs]
     simp[go_sem,hy2]
    rw[hex,Oper.uponIn_round]
    refine⟨fun h=>by simp[FR,Fence.wide] at h,RoundIn.mono e4 ?_⟩
    rintro e w' ⟨b,st',rfl,hk,hs'⟩
    obtain⟨ρ',M',al',hal',C'⟩:=hs'
    refine ih _ _ _ hk (La (news:=[]) (upd:=[]) hal' (C'.pure (n:=st'.nx) hdN rfl ?_))
    intro id hid;simp[SV.ids,K1,SC.ids] at hid
   ·split at h
    ·rename_i c x y hop
     split at h
     ·rename_i b hb
      split at h
      ·rename_i v hv
       have e1:=(Lo C _ _ hb).1
       obtain⟨e2,e3⟩:=Lo C _ _ hv
       refine Js5 (by rw[hop];intro c e;cases e) (Ky (u:=v.den ρ) (w':=w) ?_ (hnext st al v [] [] hal h _ _ _ _ (C.pure hdN rfl e3)))
       rw[show(SV.v false [SC.bool b]).den ρ= .bool b from rfl] at e1
       cases b with
       |true=>simp only[cond_true] at e2;simp[execOp,hop,e1,asBool,e2]
       |false=>simp only[cond_false] at e2;simp[execOp,hop,e1,asBool,e2]
      ·exact h.elim
     ·exact h.elim
    ·split at h
     ·rename_i out hout
      rw[Jal] at h
      have hs:=Jjq hΓ C hdN (fun _ _ h=>h) (Lo C) hout h.1 (hfr _)
      exact Js5 (Jfa hout) (hs _ Q fun u w' ρ' M' C'=>hnext st al _ _ _ hal h.2 _ _ _ _ C')
     ·split at h
      ·rename_i fl hfl
       obtain⟨f,l⟩:=fl
       obtain⟨h2,⟨c,ho⟩,hex⟩:=Jx2 C hfl
       obtain⟨hent,hcalls⟩:=hil hal C h2 h
       refine Js5 (by rw[ho];intro c e;cases e) (Zy (hex hent) hcalls ?_)
       rintro e w' ⟨v,u,st',ρ',M',al',rfl,hk,hal',C',hv,hu⟩
       exact⟨v,rfl,hnext st' al' u [] [] hal' hk _ _ _ _ (C'.pure hdN hv hu)⟩
      ·exact h.elim
  unfold Je2 at h
  simp only at h
  split at h
  ·rename_i hg
   have:Region.wanted o (yielded opsA a.tmps)=true:=by simp[Region.wanted,hg]
   rw[this,if_pos rfl]
   exact hrun h
  ·rename_i j want hg
   split at h
   ·rename_i t ht
    obtain⟨w1,w2⟩:=Juz hA hN C hg ht
    split at h
    ·rename_i b hb
     rw[w1 b hb]
     split at h
     ·rename_i e;rw[e,if_pos rfl];exact hrun h
     ·rename_i e;rw[e];exact hskip h
    ·rename_i vs hb
     rw[w2 vs hb]
     exact hskip h
    ·exact h.elim
   ·exact h.elim
end
end Go.Sx
namespace Go.Sx
open Go.RowKit
section
variable {P:Program} {Γ:Gam} {N B:Nat} {w0:Yu} {R:Nat→Prop}
theorem J14 [Dr] {st:St} {al:Nat→Prop} {a:Act} {w:World} {ρ:Env} {M:Nat→Prop} (C:Kk P N B w0 al (look st.sl) (look st.rs) a w ρ M R) {ops:Array Oper} {o:Oper} {v:SV} (h:Jp9 P st o=some v) (hg:o.guard=none):
  YieldsFenced P ops o (v.den ρ) a∧∀id∈v.ids,al id:=by
 have hw:Region.wanted o (yielded ops a.tmps)=true:=by unfold Region.wanted;rw[hg]
 unfold Jp9 at h
 split at h
 ·rename_i x ho
  obtain⟨h1,h2⟩:=Lo C _ _ h
  exact⟨⟨.inl ⟨hw,fun w=>by simp[execOp,ho,h1]⟩,fun w=>by simp[Oper.about,ho]⟩,h2⟩
 ·rename_i x ho
  split at h
  ·rename_i j off hx
   cases h
   obtain⟨h1,h2⟩:=Lo C _ _ hx
   obtain⟨b,o',hb⟩:=Je6 ρ j off
   have e0:=hb 0
   simp only[Nat.add_zero] at e0
   exact⟨⟨.inl ⟨hw,fun w=>by simp[execOp,ho,h1,SV.den,Jm,e0]⟩,fun w=>by simp[Oper.about,ho]⟩,h2⟩
  ·cases h
 ·rename_i T x i ho
  split at h
  ·rename_i j off d U hx hf
   cases h
   obtain⟨h1,h2⟩:=Lo C _ _ hx
   obtain⟨b,o',hb⟩:=Je6 ρ j off
   refine⟨⟨.inl ⟨hw,fun w=> ?_⟩,fun w=>by simp[Oper.about,ho]⟩,h2⟩
   simp only[execOp,ho,h1]
   refine Vu ?_
   have e0:=hb 0
   simp only[Nat.add_zero] at e0
   simp only[SV.den,Jm,List.map]
   rw[e0,hb d]
   exact Jax hf b o' w
  ·cases h
 ·cases h
theorem Jjs [Dr] {w0:Yu}:Kdf P N B w0 R J5g:=fun _ _ _ _ h=>h.elim
theorem J1k {F:Fence} {n:Nat} {o:Oper} {a:Act} {w:World} {K:Act→World→Prop} {Q Q':Exit→Act→World→Prop} (hp:∀c a w,Q (.panic c) a w→Q' (.panic c) a w) (hl:LetsOut Q→LetsOut Q')
  (hh:o.wpIn F n P a w K Q):o.wpIn F n P a w K Q':=by
 unfold Oper.wpIn at*
 refine⟨hh.1, ?_⟩
 have hh:=hh.2
 generalize(o.semAt F.round a.eval).run P w=r at*
 cases r with
 | ok x w' =>
  cases x<;>simp only[Oper.uponIn] at hh⊢<;>
   first
    |exact hh
    |exact⟨hh.1,CallsIn.mono hh.2 (fun e w'' he=>by cases e<;>first|exact he|exact hp _ _ _ he|exact hl he)⟩
    |exact⟨hh.1,RoundIn.mono hh.2 (fun e w'' he=>by cases e<;>first|exact he|exact hp _ _ _ he|exact hl he)⟩
 |halt x w'=>cases x<;>simp only[Oper.uponIn] at hh⊢<;>first|exact hh|exact hp _ _ _ hh|exact hl hh
theorem Jn6 [Dr] (hΓ:Xf P Γ) {il:IL} (hil:Kdj P il) {ops:Array Oper} (hN:∀o∈ops.toList,∀t,o.dst=some t→t<N) (hg:∀o∈ops.toList,o.guard=none) (hs:Region.noSelect ops=true) {Q:Exit→Act→World→Prop} (hQ:∀e a w,Q e a w→e= .normal) {k:St→Prop}
  (hK:∀st' a w,k st'→Yl P N B w0 R st' a w→Q .normal a w):∀(n:Nat) (listed:Array Bool) (st:St) (a:Act) (w:World),Kdo P Γ il ops n listed st k→Yl P N B w0 R st a w→wpAnyIn (FR none) 0 P .any ops Q n listed a w
 |0,listed,st,a,w,h,hr=>by
  unfold Kdo at h
  split at h
  ·rename_i e;exact wpAnyIn_done e (hK _ _ _ h hr) 0
  ·exact h.elim
 | n + 1, listed, st, a, w, h, hr => by
  unfold Kdo at h
  split at h
  ·rename_i e;exact wpAnyIn_done e (hK _ _ _ h hr) (n+1)
  ·rename_i i e
   split at h
   ·rename_i o ho
    have hmem:o∈ops.toList:=Array.mem_toList_iff.2 (Array.mem_of_getElem? ho)
    refine wpAnyIn_all e (by simp) fun j hj=> ?_
    obtain rfl:j=i:=by simpa using hj
    have h1:=Jjk (Q:=fun e a w=>match e with| .normal=>wpAnyIn (FR none) 0 P .any ops Q n (listed.setIfInBounds j true) a w|e=>Q e a w) hΓ (Jjs (P:=P) (N:=N) (B:=B) (w0:=w0) (R:=R)) @hil (rd:=none) (.inl rfl) (ops:=[o]) (opsA:= #[o]) rfl (fun o' ho'=>by simp at ho';rw[ho'];exact hN o hmem) (fun st' a' w' hk hs'=>Jn6 hΓ @hil hN hg hs hQ hK n _ st' a' w' hk hs') [o] 0 st a w rfl h hr
    have hg0:=hg o hmem
    have e1:wpOpsIn (FR none) 0 P #[o] (fun e a w=>match e with| .normal=>wpAnyIn (FR none) 0 P .any ops Q n (listed.setIfInBounds j true) a w|e=>Q e a w) (List.range' 0 [o].length) a w=_:=wpOpsIn_cons 0 [] a w
    rw[e1] at h1
    unfold wpOpIn at h1⊢
    have hw:∀(l:Array Oper),Region.wanted o (yielded l a.tmps)=true:=fun l=>by unfold Region.wanted;rw[hg0]
    simp only[List.getElem?_toArray,List.getElem?_cons_zero,hw,if_true,ho] at h1⊢
    refine J1k (fun c a w hp=>hp) (fun⟨a,w,hp⟩=>⟨a,w,hp⟩) (Oper.wpIn_mono (fun a w hk=> ?_) h1)
    exact hk
   ·exact h.elim
  ·rename_i r hne1 hne2
   split at h
   ·rename_i i hi
    have hf:=List.find?_some hi
    have hm:=List.mem_of_find?_eq_some hi
    split at h
    ·rename_i o ho
     split at h
     ·rename_i v hv
      rw[Bool.and_eq_true] at hf
      have hmem:o∈ops.toList:=Array.mem_toList_iff.2 (Array.mem_of_getElem? ho)
      obtain⟨ρ,M,al,hal,C⟩:=id hr
      obtain⟨q1,q2⟩:=J14 (ops:=ops) C hv (hg o hmem)
      refine wpAnyIn_take rfl ho hs hf.1 (by simpa using hm) (fun c a' w' hp=> ?_) q1 ?_
      ·exact absurd (hQ _ _ _ hp) (by simp)
      ·exact Jn6 hΓ @hil hN hg hs hQ hK n _ _ _ w h (La (news:=[]) (upd:=[]) hal (C.pure (n:=st.nx) (hN o hmem) rfl q2))
     ·exact h.elim
    ·exact h.elim
   ·exact h.elim
end
end Go.Sx
namespace Go.Sx
open Go.RowKit
section
variable {P:Program} {Γ:Gam} {N B:Nat} {R:Nat→Prop}
theorem Jxi {ps:Array Tmp} {vs:List Value} {tmps:Array Value}:(ps.zip vs.toArray).foldl (fun t (p:Tmp×Value)=>t.setIfInBounds p.1 p.2) tmps=(ps.toList.zip vs).foldl (fun t (p:Tmp×Value)=>t.setIfInBounds p.1 p.2) tmps:=by
 rw[←Array.foldl_toList,Array.toList_zip]
theorem Kfq [Dr] {w0:Yu} {y s lp:Nat} {rc:Loop} {T:Nat→Value} {ra rb:St→(Ex→St→Prop)→Prop}
  (hy:w0.an y=some (.loop lp rc)) (hs:w0.an s=some (.vals T)) (hT:∀t,T t=rc.tmps.getD t undef) (hN:rc.tmps.size=N) (hps:∀p∈rc.params.toList,p<N) (hmk:w0.marks=false)
  (hA:∀{w0':Yu} {st:St} {k:Ex→St→Prop} {Q:Exit→Act→World→Prop},ra st k→(∀e st' a w,k e st'→Yl P N B w0' R st' a w→Q e.toExit a w)→∀a w,Yl P N B w0' R st a w→rc.assign.wpIn (FR (some lp)) 0 P Q a w)
  (hB:∀{w0':Yu} {st:St} {k:Ex→St→Prop} {Q:Exit→Act→World→Prop},rb st k→(∀e st' a w,k e st'→Yl P N B w0' R st' a w→Q e.toExit a w)→∀a w,Yl P N B w0' R st a w→rc.body.wpIn (FR (some lp)) 0 P Q a w) (N':Nat):
  Kdf P N' B w0 R (ykF y s rc.params.toList ra rb):=by
 intro y' st1 l K ρ M al a w hal C hyr hids h
 unfold ykF at h
 split at h
 case isFalse=>exact h.elim
 rename_i hc
 obtain⟨rfl,hlen⟩:=hc
 split at h
 case h_2=>exact h.elim
 rename_i ls _ h2
 obtain⟨lp',rc',a1,a2,a3,a4,a5,a6⟩:=C.resA y' _ hyr
 rw[hy] at a1
 cases a1
 obtain⟨T',b1,b2⟩:=C.resA s _ h2
 rw[hs] at b1
 cases b1
 refine⟨lp,_,a2,a3,by simpa using hlen, ?_⟩
 refine roundIn_of_wpIn (F:=FR none) trivial ?_
 show rc.assign.wpIn (FR (some lp)) 0 P _ _ _
 have hz:∀id,al id→id≠st1.nx:=fun id h=>Nat.ne_of_lt (hal id h)
 let w0b:Yu:={w0 with an:=fun id=>if id=st1.nx then some (.vals fun t=>a.tmps.getD t undef) else w0.an id}
 let ρb:Env:=fun id=>if id=st1.nx then .bool true else ρ id
 have hρ:∀id,al id→ρb id=ρ id:=fun id h=>if_neg (hz id h)
 have hden:∀v:SV,(∀id∈v.ids,al id)→v.den ρb=v.den ρ:=fun v h=>SV.den_congr fun id hid=>hρ id (h id hid)
 have hl:l.map (SV.den ρ)=l.map (SV.den ρb):=List.map_congr_left fun v hv=>(hden v (hids v hv)).symm
 have hlsids:∀p∈ls,∀id∈p.2.ids,al id:=fun p hp id hid=>(C.resIds s _ h2).2 id (List.mem_flatMap.2 ⟨p,hp,hid⟩)
 have hset:=Jpz (ρ:=ρb) (al:=al) (N:=N) (ps:=rc.params.toList) (vs:=l) (sl:=ls) (tmps:=rc.tmps) hlen.symm hps hN (fun t v ht=>by
  have hm:=Kd ht
  refine⟨?_,hlsids _ hm⟩
  rw[←hT,hden v (hlsids _ hm)]
  exact b2 _ hm) hids
 rw[←hl,←Jxi] at hset
 refine hA (w0':=w0b) h (fun e st2 a2' w2 hk hs2=> ?_) _ _ ⟨ρb,M,fun id=>al id∨id=st1.nx,fun id h=> ?_,⟨hset.1,⟨fun d hd=>by simp at hd, .nil⟩,fun _=>rfl,C.stay,C.stayR,C.below,C.base,fun t v ht=>(hset.2 t v ht).1,fun t v ht id hid=> .inl ((hset.2 t v ht).2 id hid), ?_, ?_, ?_,C.old, ?_,C.up,C.good⟩⟩
 rotate_left
 ·show id<st1.nx+1
  rcases h with h|h
  ·have:=hal id h;omega
  ·omega
 ·intro r x hx
  simp only[look] at hx
  split at hx
  ·rename_i e
   subst e;cases hx
   refine⟨_,if_pos rfl,fun p hp=> ?_⟩
   have h1:=Xs hp
   rw[hden p.2 (C.slotIds _ _ h1)]
   exact C.slot _ _ h1
  ·rename_i e
   have hr:=C.resIds r x hx
   refine((C.resA r x hx).keep (hρ r hr.1) (fun id hid=>hρ id (hr.2 id hid)) (fun _ h=>h) (fun _ _=>rfl) fun ho b hb=>⟨rfl,(C.notM hx ho hb).1⟩).base fun _=>if_neg (Ne.symm e)
 ·intro r x hx
  simp only[look] at hx
  split at hx
  ·rename_i e
   subst e;cases hx
   refine⟨.inr rfl,fun id hid=> ?_⟩
   obtain⟨p,hp,hid⟩:=List.mem_flatMap.1 hid
   exact .inl (C.slotIds _ _ (Xs hp) id hid)
  ·have hr:=C.resIds r x hx
   exact⟨.inl hr.1,fun id hid=> .inl (hr.2 id hid)⟩
 ·intro r r' x x' hne hx hx' ho ho' b hb hb'
  simp only[look] at hx hx'
  split at hx
  ·cases hx;cases ho
  ·split at hx'
   ·cases hx';cases ho'
   ·have e1:ρb r=ρ r:=hρ r (C.resIds r x hx).1
    have e2:ρb r'=ρ r':=hρ r' (C.resIds r' x' hx').1
    rw[e1] at hb
    rw[e2] at hb'
    exact C.apart r r' x x' hne hx hx' ho ho' b hb hb'
 ·rintro i (hi|hi)
  ·rw[hρ i hi];exact C.one i hi
  ·have:ρb i= .bool true:=if_pos hi
   rw[this];rfl
 ·-- the sides are assigned
  cases e with
  |exit i=>exact hk.elim
  |ret=>exact hk.elim
  |normal=>
  simp only at hk
  split at hk
  case h_2=>exact hk.elim
  rename_i hy2
  obtain⟨ρ2,M2,al2,hal2,C2⟩:=hs2
  have ha:w0b.an y'=some (.loop lp rc):=(if_neg (hz y' (C.resIds y' _ hyr).1)).trans hy
  have C3:=C2.setYld (s':= .busy) hy2 ha
  obtain⟨lp2,rc2,q1,q2,q3,_⟩:=C2.resA y' _ hy2
  rw[ha] at q1
  cases q1
  refine⟨_,run_beginRound q3 rfl, ?_⟩
  show rc.body.wpIn (FR (some lp)) 0 P _ _ _
  refine hB (w0':=w0b) hk (fun e st3 a3 w3 hk hs3=> ?_) _ _ ⟨ρ2,M2,al2,hal2,C3.weaken (fun _ _ h=>h) (fun id x h=> ?_) fun _=>Iff.rfl⟩
  rotate_left
  ·rw[Vh] at h
   exact h
  ·-- the body is left
   obtain⟨ρ3,M3,al3,hal3,C4⟩:=hs3
   split at hk
   case h_2=>exact hk.elim
   rename_i li hz3 hy3
   have C5:=C4.setYld (s':=J60 e) hy3 ha
   obtain⟨lp3,rc3,r1,r2,r3,_⟩:=C4.resA y' _ hy3
   rw[ha] at r1
   cases r1
   obtain⟨T3,t1,t2⟩:=C4.resA st1.nx _ hz3
   have t1':some (J0h.vals fun t=>a.tmps.getD t undef)=some (J0h.vals T3):=by rw[←t1];exact(if_pos rfl).symm
   cases t1'
   have hback:Yl P N' B w0 R ⟨st3.nx,li,Uu (Uu st3.rs (y',some (.yld (J60 e)))) (st1.nx,none)⟩ a (w3.putObj lp (.loop {rc with state:=(J60 e).st,pending:=(J60 e).pend})):=by
    have hlook:∀{r x},look (Uu (Uu st3.rs (y',some (.yld (J60 e)))) (st1.nx,none)) r=some x→r≠st1.nx∧(if r=y' then some (.yld (J60 e)) else look st3.rs r)=some x:=by
     intro r x h
     rw[Vh] at h
     split at h
     ·cases h
     ·rename_i hne
      rw[Vh] at h
      exact⟨hne,h⟩
    refine⟨ρ3,M3,al3,hal3,⟨C.size,by rw[C.nomark hmk];exact⟨fun d hd=>by simp at hd, .nil⟩,C.nomark,C5.stay,C5.stayR,C5.below,C5.base,fun t v ht=>t2 _ (Kd ht),fun t v ht id hid=>(C4.resIds _ _ hz3).2 id (List.mem_flatMap.2 ⟨_,Kd ht,hid⟩),fun r x hx=> ?_,fun r x hx=> ?_,fun r r' x x' hne hx hx'=> ?_,C5.old,C5.one,C5.up,C5.good⟩⟩
    ·obtain⟨h1,h2⟩:=hlook hx
     exact(C5.resA r x h2).base fun _=>(if_neg h1).symm
    ·exact C5.resIds r x (hlook hx).2
    ·exact C5.apart r r' x x' hne (hlook hx).2 (hlook hx').2
   cases e with
   |normal=>exact⟨_,_,run_endRound none r3,true,_,rfl,hk,hback⟩
   |exit i=>exact⟨_,_,run_endRound (some (.exit i)) r3,false,_,rfl,hk,hback⟩
   |ret=>exact⟨_,_,run_endRound (some .ret) r3,false,_,rfl,hk,hback⟩
end
end Go.Sx
namespace Go.Sx
open Go.RowKit
def Krd [Dr] (P:Program) (it:IT):Prop:=
 ∀{f:FuncId} {st:St} {yk:YK} {fin:St→Prop} {B:Nat} {w0:Yu} {R:Nat→Prop} {args:Array Value} {w:World},it f st yk fin→w0.marks=false→(∀N,Kdf P N B w0 R yk)→
  (∀N,st.sl.length≤N→Yl P N B w0 R st {tmps:=args++Array.replicate (N-args.size) undef,defers:=[]} w)→
  Dj P f∧CallsIn (FR none) 0 P f args w fun e w'=>∃N v a' st',e= .returned v∧fin st'∧Yl P N B w0 R st' a' w'
section
variable {P:Program} {Γ:Gam} {N B:Nat} {w0:Yu} {R:Nat→Prop}
theorem Jfd {α:Type}:∀{l:List α} {n:Nat},(Job l n).length=l.length
 |[],_=>rfl
 |_::l,n=>by simp[Job,Jfd (l:=l)]
theorem J13 [Dr] {t : Tmp} {ps : Array Tmp} {ca cb : Code} {it : IT} (hit : Krd P it) (hmk : w0.marks = true) {ra rb : St → (Ex → St → Prop) → Prop}
    (hA:∀{lp:Nat} {w0':Yu} {st:St} {k:Ex→St→Prop} {Q:Exit→Act→World→Prop},ra st k→(∀e st' a w,k e st'→Yl P N B w0' R st' a w→Q e.toExit a w)→∀a w,Yl P N B w0' R st a w→ca.wpIn (FR (some lp)) 0 P Q a w)
    (hB:∀{lp:Nat} {w0':Yu} {st:St} {k:Ex→St→Prop} {Q:Exit→Act→World→Prop},rb st k→(∀e st' a w,k e st'→Yl P N B w0' R st' a w→Q e.toExit a w)→∀a w,Yl P N B w0' R st a w→cb.wpIn (FR (some lp)) 0 P Q a w)
    (hps:∀p∈ps.toList,p<N) {st:St} {j:Nat} {f:FuncId} {caps:List SV} (ht:look st.sl t=some (.v false [.fv j])) (hj:look st.rs j=some (.clo f [] caps)) {k:Ex→St→Prop} {Q:Exit→Act→World→Prop}
    (h : it f ⟨st.nx + 2, Job (SV.one (.fv st.nx) :: caps) 0, (st.nx, .yld .ready) :: (st.nx + 1, .sus (Ji4 st.sl)) :: st.rs⟩
            (ykF st.nx (st.nx+1) ps.toList ra rb) fun st2=>match look st2.rs st.nx,look st2.rs (st.nx+1) with
              | some (.yld s), some (.sus l) => match s.ex with
                |some e=>k e ⟨st2.nx,l,Uu (Uu st2.rs (st.nx,none)) (st.nx+1,none)⟩
                |none=>False
              |_,_=>False)
    (hK:∀e st' a w,k e st'→Yl P N B w0 R st' a w→Q e.toExit a w) (a:Act) (w:World) (hs:Yl P N B w0 R st a w):(Code.rangeFunc (.tmp t) ps ca cb).wpIn (FR none) 0 P Q a w:=by
  obtain⟨ρ,M,al,hal,C⟩:=hs
  have hclo:ρ j= .func (.func f) #[] (caps.map (SV.den ρ)).toArray:=C.res j _ hj
  have hv:a.eval (.tmp t)= .func (.func f) #[] (caps.map (SV.den ρ)).toArray:=(C.slot t _ ht).trans hclo
  refine wpIn_rangeFunc ?_
  intro fn _
  obtain⟨rc,hrc⟩:∃rc:Loop,rc={state:= .ready,pending:=none,fn,tmps:=a.tmps,params:=ps,assign:=ca,body:=cb,defers:=w.heap.size}:=⟨_,rfl⟩
  obtain⟨w1,hw1⟩:∃w1,w1=(w.alloc (.deferred (some []))).alloc (.loop rc):=⟨_,rfl⟩
  have hsz:w1.heap.size=w.heap.size+2:=by rw[hw1];simp
  have hlp:w1.heap[w.heap.size+1]? =some (.loop rc):=by
    rw[hw1];have:=World.alloc_heap_new (w.alloc (.deferred (some []))) (.loop rc);rwa[World.size_alloc] at this
  have hD:w1.heap[w.heap.size]? =some (.deferred (some [])):=by
    rw[hw1];exact(Below.heap_alloc _ _ _ (by simp)).trans (World.alloc_heap_new w _)
  have hb1:Below w.heap.size w w1:=by
    rw[hw1];exact((Below.refl _ w).alloc (Nat.le_refl _) _).alloc (by simp) _
  have hbB:Below B w w1:=⟨hb1.os,hb1.tape,hb1.output,hb1.size,fun k hk=>hb1.block k (Nat.lt_of_lt_of_le hk C.base),hb1.drawn⟩
  have hheap:∀k,k<w.heap.size→w1.heap[k]? =w.heap[k]? :=fun k hk=>hb1.block k hk
  have hfy:∀id,al id→id≠st.nx:=fun id h=>Nat.ne_of_lt (hal id h)
  have hfs:∀id,al id→id≠st.nx+1:=fun id h=>by have:=hal id h;omega
  let w0i:Yu:={w:=w1,M:=fun b=>M b∨b=w.heap.size,an:=fun id=>if id=st.nx then some (.loop (w.heap.size+1) rc) else if id=st.nx+1 then some (.vals fun t=>a.tmps.getD t undef) else w0.an id,marks:=false}
  let ρi:Env:=fun id=>if id=st.nx then .func (.yield (w.heap.size+1)) #[] #[] else if id=st.nx+1 then .bool true else ρ id
  have hρ:∀id,al id→ρi id=ρ id:=fun id h=>(if_neg (hfy id h)).trans (if_neg (hfs id h))
  have hρy:ρi st.nx= .func (.yield (w.heap.size+1)) #[] #[]:=if_pos rfl
  have hρs:ρi (st.nx+1)= .bool true:=(if_neg (by omega)).trans (if_pos rfl)
  have hden:∀v:SV,(∀id∈v.ids,al id)→v.den ρi=v.den ρ:=fun v h=>SV.den_congr fun id hid=>hρ id (h id hid)
  have hcids:∀v∈caps,∀id∈v.ids,al id:=fun v hv id hid=>(C.resIds j _ hj).2 id (by simp only[Res.ids,List.flatMap_nil,List.nil_append];exact List.mem_flatMap.2 ⟨v,hv,hid⟩)
  obtain⟨args,hargs⟩:∃args:Array Value,args= #[.func (.yield (w.heap.size+1)) #[] #[]]++(caps.map (SV.den ρ)).toArray:=⟨_,rfl⟩
  have hargsz:args.size=caps.length+1:=by rw[hargs];simp[Nat.add_comm]
  have hargs':args=((SV.one (.fv st.nx)::caps).map (SV.den ρi)).toArray:=by
    rw[hargs]
    have e1:(SV.one (.fv st.nx)).den ρi= .func (.yield (w.heap.size+1)) #[] #[]:=hρy
    have e2:caps.map (SV.den ρi)=caps.map (SV.den ρ):=List.map_congr_left fun v hv=>hden v (hcids v hv)
    rw[List.map_cons,e1,e2]
    apply Array.ext';simp
  obtain⟨hent,hcall⟩:=hit (B:=B) (w0:=w0i) (R:=R) (args:=args) (w:=w1) h rfl
    (fun N'=>by
      have this:Kdf P N' B w0i R (ykF st.nx (st.nx+1) rc.params.toList ra rb):=Kfq (P:=P) (N:=N) (B:=B) (R:=R) (w0:=w0i) (y:=st.nx) (s:=st.nx+1) (lp:=w.heap.size+1) (rc:=rc) (T:=fun t=>a.tmps.getD t undef) (ra:=ra) (rb:=rb) (if_pos rfl) ((if_neg (by omega)).trans (if_pos rfl)) (fun t=>by rw[hrc]) (by rw[hrc];exact C.size) (by rw[hrc];exact hps) rfl (by rw[hrc];exact hA) (by rw[hrc];exact hB) N'
      have e:rc.params.toList=ps.toList:=by rw[hrc]
      rw[e] at this
      exact @this)
    (fun N' hN' => by
      simp only[Jfd,List.length_cons] at hN'
      refine⟨ρi,fun b=>M b∨b=w.heap.size,fun id=>al id∨id=st.nx∨id=st.nx+1,fun id h=> ?_,⟨by simp[hargsz];omega,⟨fun d hd=>by simp at hd, .nil⟩,fun _=>rfl,fun _ _=>rfl,fun _ _=>rfl,Below.refl _ _,Nat.le_trans C.base hb1.size,fun t v ht=> ?_,fun t v ht id hid=> ?_,fun r x hx=> ?_,fun r x hx=> ?_,fun r r' x x' hne hx hx' ho ho' b hb hb'=> ?_, ?_, ?_,fun b=>⟨fun h=> .inl h,fun h=>h⟩,fun w' hw'=>C.good w' (C.below.trans (hbB.trans hw'))⟩⟩
      · show id < st.nx + 2
        rcases h with h|h|h
        ·have:=hal id h;omega
        ·omega
        ·omega
      · simp only at ht
        rw[V7,if_pos (Nat.zero_le _),Nat.sub_zero] at ht
        have hlt:t<args.size:=by rw[hargsz];have:=(List.getElem?_eq_some_iff.1 ht).1;simpa using this
        have:args[t]? =some (v.den ρi):=by rw[hargs',List.getElem?_toArray,List.getElem?_map,ht];rfl
        simp only[Array.getD_eq_getD_getElem?,Array.getElem?_append,hlt,if_true,this,Option.getD_some]
      · simp only at ht
        rw[V7,if_pos (Nat.zero_le _),Nat.sub_zero] at ht
        have hm:=List.mem_of_getElem? ht
        rcases List.mem_cons.1 hm with rfl|hm
        · simp only [SV.ids, K1, SC.ids, List.flatMap_cons, List.flatMap_nil, List.append_nil, List.mem_singleton] at hid
          exact .inr (.inl hid)
        ·exact .inl (hcids v hm id hid)
      · simp only [look] at hx
        split at hx
        · rename_i e
          subst e;cases hx
          refine⟨_,rc,if_pos rfl,hρy, ?_, ?_, ?_, ?_⟩
          ·rw[hlp,hrc];rfl
          · rintro (hb | hb)
            ·have:=C.old _ (.inl hb);omega
            ·omega
          ·intro hb;have:=C.old _ (.inr hb);omega
          ·have:=C.base;omega
        · rename_i e1
          split at hx
          · rename_i e2
            subst e2;cases hx
            refine⟨_,(if_neg (by omega)).trans (if_pos rfl),fun p hp=> ?_⟩
            have h1:=Xs hp
            rw[hden p.2 (C.slotIds _ _ h1)]
            exact C.slot _ _ h1
          · rename_i e2
            have hr:=C.resIds r x hx
            refine((C.resA r x hx).keep (hρ r hr.1) (fun id hid=>hρ id (hr.2 id hid)) (fun _ h=> .inl h) (fun b hb=>hheap b (C.old b hb)) fun ho b hb=> ?_).base fun _=>(if_neg (Ne.symm e1)).trans (if_neg (Ne.symm e2))
            have h4:=C.notM hx ho hb
            exact⟨hheap b h4.2.2.2,fun h=>by
              rcases h with h|h
              ·exact h4.1 h
              ·have:=h4.2.2.2;omega⟩
      · simp only [look] at hx
        split at hx
        · rename_i e
          subst e;cases hx
          exact⟨.inr (.inl rfl),fun id hid=>by simp[Res.ids] at hid⟩
        · split at hx
          · rename_i e2
            subst e2;cases hx
            refine⟨.inr (.inr rfl),fun id hid=> ?_⟩
            obtain⟨p,hp,hid⟩:=List.mem_flatMap.1 hid
            exact .inl (C.slotIds _ _ (Xs hp) id hid)
          · have hr := C.resIds r x hx
            exact⟨.inl hr.1,fun id hid=> .inl (hr.2 id hid)⟩
      · have get : ∀ {r x}, look ((st.nx, Res.yld .ready) :: (st.nx + 1, Res.sus (Ji4 st.sl)) :: st.rs) r = some x → x.owning = true → ∀ b, blk (ρi r) = some b → (r = st.nx ∧ b = w.heap.size + 1) ∨ (look st.rs r = some x ∧ ρi r = ρ r ∧ b < w.heap.size) := by
          intro r x hx ho b hb
          simp only[look] at hx
          split at hx
          · rename_i e
            subst e
            rw[hρy] at hb
            cases hb
            exact .inl ⟨rfl,rfl⟩
          · split at hx
            ·cases hx;cases ho
            · have e := hρ r (C.resIds r x hx).1
              rw[e] at hb
              exact .inr ⟨hx,e,(C.notM hx ho hb).2.2.2⟩
        rcases get hx ho b hb with⟨g1,g2⟩|⟨g1,g2,g3⟩<;>rcases get hx' ho' b hb' with⟨k1,k2⟩|⟨k1,k2,k3⟩
        ·exact hne (g1.trans k1.symm)
        ·omega
        ·omega
        · rw [g2] at hb
          rw[k2] at hb'
          exact C.apart r r' x x' hne g1 k1 ho ho' b hb hb'
      · rintro b (h | h)
        · rcases h with h | h
          ·have:=C.old b (.inl h);omega
          ·omega
        ·have:=C.old b (.inr h);omega
      · rintro i (hi | hi | hi)
        ·rw[hρ i hi];exact C.one i hi
        ·rw[hi,hρy];rfl
        ·rw[hi,hρs];rfl)
  refine⟨w.heap.size+1,[{target:= .collected w.heap.size,args:= #[]}],w1,{target:= .fn (.func f) (caps.map (SV.den ρ)).toArray,args:= #[.func (.yield (w.heap.size+1)) #[] #[]]},w1,f,args,w1, ?_, ?_,fun _ _=>trivial, ?_,fun h=>by simp[FR,Fence.wide] at h, ?_⟩
  ·rw[hw1,hrc];exact run_enterLoop_outer _ _ _ _ _
  · simp only [resolve, hv]
    simp[go_sem]
  · rw [hargs]
    simp[invoke,go_sem,U1 hent]
  · -- behind the loop's function
    refine hcall.mono ?_
    rintro e w' ⟨N',v,a',st2,rfl,hfin,ρf,Mf,alf,half,Cf⟩
    split at hfin
    case h_2=>exact hfin.elim
    rename_i s l hy2 hs2
    split at hfin
    case h_2=>exact hfin.elim
    rename_i e he
    obtain⟨lp2,rc2,q1,q2,q3,q4,q5,q6⟩:=Cf.resA st.nx _ hy2
    have q1':some (J0h.loop (w.heap.size+1) rc)=some (J0h.loop lp2 rc2):=by rw[←q1];exact(if_pos rfl).symm
    cases q1'
    obtain⟨T3,t1,t2⟩:=Cf.resA (st.nx+1) _ hs2
    have t1':some (J0h.vals fun t=>a.tmps.getD t undef)=some (J0h.vals T3):=by rw[←t1];exact((if_neg (by omega)).trans (if_pos rfl)).symm
    cases t1'
    have hnb:s.st≠ .busy:=by
      intro e0
      cases s with
      |ready=>cases e0
      |busy=>cases he
      |done _=>cases e0
    refine⟨_,_,run_endLoop q3 hnb, ?_⟩
    have hlook:∀{r x},look (Uu (Uu st2.rs (st.nx,none)) (st.nx+1,none)) r=some x→r≠st.nx∧r≠st.nx+1∧look st2.rs r=some x:=by
      intro r x h
      rw[Vh] at h
      split at h
      ·cases h
      · rename_i hne
        rw[Vh] at h
        split at h
        ·cases h
        · rename_i hne2
          exact⟨hne2,hne,h⟩
    have C2:Kk P N' B w0i alf (look st2.sl) (look (Uu (Uu st2.rs (st.nx,none)) (st.nx+1,none))) a' w' ρf Mf R:=Cf.weaken (fun _ _ h=>h) (fun i x h=>(hlook h).2.2) fun _=>Iff.rfl
    have C3:=C2.putFree (.loop {{rc with state:=s.st,pending:=s.pend} with state:= .exhausted}) q6 q4 q5 (fun r x hx ho hb=>by
      obtain⟨h1,_,h3⟩:=hlook hx
      exact Cf.apart r st.nx x _ h1 h3 hy2 ho rfl _ hb (by rw[q2];rfl))
    have hDne:w.heap.size≠w.heap.size+1:=by omega
    have hmarkD:Mf w.heap.size:=(Cf.up _).2 (.inr rfl)
    have hback:Yl P N B w0 R ⟨st2.nx,l,Uu (Uu st2.rs (st.nx,none)) (st.nx+1,none)⟩ {a with defers:=[{target:= .collected w.heap.size,args:= #[]}]++a.defers} (w'.putObj (w.heap.size+1) (.loop {{rc with state:=s.st,pending:=s.pend} with state:= .exhausted})):=by
      have hMf:∀b,M b→Mf b:=fun b hb=>(Cf.up b).2 (.inl hb)
      refine⟨ρf,Mf,alf,half,⟨C.size,⟨fun d hd=> ?_, ?_⟩,fun h=>(by rw[hmk] at h;cases h),fun b hb=> ?_,fun b hb=>((C3.stayR b hb).trans (hheap b (C.old b (.inr hb)))).trans (C.stayR b hb),(C.below.trans hbB).trans C3.below,C3.base,fun t v ht=>t2 _ (Kd ht),fun t v ht id hid=>(Cf.resIds _ _ hs2).2 id (List.mem_flatMap.2 ⟨_,Kd ht,hid⟩),fun r x hx=> ?_,C3.resIds,C3.apart,C3.old,C3.one,fun b=>⟨fun h=> ?_,fun h=> ?_⟩,C.good⟩⟩
      · rcases List.mem_append.1 hd with hd | hd
        · refine ⟨w.heap.size, List.mem_singleton.1 hd, hmarkD, (C3.stay _ (.inr rfl)).trans hD, fun h => ?_, C.base, C.below.size⟩
          have:=C.old _ (.inr h);omega
        · obtain ⟨D', d1, d2, d3, d4⟩ := C.defers.1 d hd
          exact⟨D',d1,hMf D' d2,((C3.stay D' (.inl d2)).trans (hheap D' (C.old D' (.inl d2)))).trans d3,d4⟩
      · refine List.nodup_cons.2 ⟨fun hm => ?_, C.defers.2⟩
        obtain⟨D',d1,d2,d3,d4⟩:=C.defers.1 _ hm
        have e:w.heap.size=D':=by injection d1 with d1 _;injection d1
        have:=C.old D' (.inl d2);omega
      · have hb' : M b := (C.up b).2 hb
        exact((C3.stay b (.inl hb')).trans (hheap b (C.old b (.inl hb')))).trans (C.stay b hb)
      ·exact(C3.resA r x hx).base fun _=>((if_neg (hlook hx).1).trans (if_neg (hlook hx).2.1)).symm
      · rcases (C3.up b).1 h with h | h
        · rcases h with h | h
          ·exact(C.up b).1 h
          ·right;rw[h];exact⟨C.base,fun hR=>Nat.lt_irrefl _ (C.old _ (.inr hR))⟩
        ·exact .inr h
      ·exact hMf b ((C.up b).2 h)
    cases s with
    |ready=>cases he;exact hK .normal _ _ _ hfin hback
    |busy=>cases he
    | done o =>
      cases o with
      |none=>cases he;exact wpIn_ret (hK .ret _ _ _ hfin hback)
      |some i=>cases he;exact wpIn_exit (hK (.exit i) _ _ _ hfin hback)
end
end Go.Sx
namespace Go.Sx
open Go.RowKit
section
variable {P:Program} {Γ:Gam} {ann:Nat→Option Ann} {il:IL} {N B:Nat} {R:Nat→Prop}
theorem J7t [Dr] {w0:Yu}:Kdf P N B w0 R J5g:=fun _ _ _ _ h=>h.elim
theorem J2i [Dr] {w0:Yu} {rd:Option Nat} {yk:Option YK} {it:IT} {id:Nat} {c:Code} (ih:∀{ann:Nat→Option Ann} {st:St} {k:Ex→St→Prop} {Q:Exit→Act→World→Prop},wpG P Γ ann il c yk it st k→
  (∀e st' a w,k e st'→Yl P N B w0 R st' a w→Q e.toExit a w)→∀a w,Yl P N B w0 R st a w→c.wpIn (FR rd) 0 P Q a w)
  {st:St} {k:Ex→St→Prop} {Q:Exit→Act→World→Prop} (h:wpG P Γ ann il (.block id (.loop c)) yk it st k)
  (hK:∀e st' a w,k e st'→Yl P N B w0 R st' a w→Q e.toExit a w) (a:Act) (w:World) (hs:Yl P N B w0 R st a w):(Code.block id (.loop c)).wpIn (FR rd) 0 P Q a w:=by
 simp only[wpG] at h
 split at h
 ·rename_i A hA
  split at h
  ·rename_i n hn
   refine wpIn_block (wpIn_loop (fun a w=>∃m st',Jhi (fun m st k=>wpG P Γ (Jy2 ann m) il c yk it st k) id k m st'∧Yl P N B w0 R st' a w) (fun a w=>leastMu fun m=>∃st',Jhi (fun m st k=>wpG P Γ (Jy2 ann m) il c yk it st k) id k m st'∧Yl P N B w0 R st' a w) ⟨n+1,st,h,hs⟩ fun a w hI=> ?_)
   obtain⟨st1,i1,i2⟩:=Lh (p:=fun m=>∃st',Jhi (fun m st k=>wpG P Γ (Jy2 ann m) il c yk it st k) id k m st'∧Yl P N B w0 R st' a w) hI
   cases hm:leastMu (fun m=>∃st',Jhi (fun m st k=>wpG P Γ (Jy2 ann m) il c yk it st k) id k m st'∧Yl P N B w0 R st' a w) with
   |zero=>rw[hm] at i1;exact i1.elim
   | succ m =>
    rw[hm] at i1
    refine ih i1 (fun e st' a' w' he hs'=> ?_) a w i2
    have hcatch:∀e,Ex.catch id k e st'→Exit.inBlock id Q e.toExit a' w':=by
     intro e he
     cases e with
     |normal=>exact hK .normal st' a' w' he hs'
     |exit i=>
      simp only[Ex.catch] at he
      simp only[Ex.toExit,Exit.inBlock]
      split at he
      ·rename_i e;rw[if_pos e];exact hK .normal st' a' w' he hs'
      ·rename_i e;rw[if_neg e];exact hK (.exit i) st' a' w' he hs'
     |ret=>exact hK .ret st' a' w' he hs'
    cases e with
    |normal=>exact⟨⟨m,st',he,hs'⟩,Nat.lt_succ_of_le (Lg ⟨st',he,hs'⟩)⟩
    |exit i=>exact hcatch (.exit i) he
    |ret=>exact hcatch .ret he
  split at h
  ·obtain⟨x0,h1,h2,h3⟩:=h
   refine wpIn_block (wpIn_loop (fun a w=>∃x,A.inv x∧Yl P N B w0 R (A.σ x) a w) (fun a w=>leastMu fun n=>∃x,A.inv x∧Yl P N B w0 R (A.σ x) a w∧A.mu x=n) ⟨x0,h2,Yd h1 (Xk hs)⟩ fun a w hI=> ?_)
   obtain⟨x,i1,i2,i3⟩:=Lh (p:=fun n=>∃x,A.inv x∧Yl P N B w0 R (A.σ x) a w∧A.mu x=n) (by obtain⟨x,i1,i2⟩:=hI;exact⟨_,x,i1,i2,rfl⟩)
   refine ih (h3 x i1) (fun e st' a' w' he hs'=> ?_) a w i2
   have hcatch:∀e,Ex.catch id k e st'→Exit.inBlock id Q e.toExit a' w':=by
    intro e he
    cases e with
    |normal=>exact hK .normal st' a' w' he hs'
    |exit i=>
     simp only[Ex.catch] at he
     simp only[Ex.toExit,Exit.inBlock]
     split at he
     ·rename_i e;rw[if_pos e];exact hK .normal st' a' w' he hs'
     ·rename_i e;rw[if_neg e];exact hK (.exit i) st' a' w' he hs'
    |ret=>exact hK .ret st' a' w' he hs'
   cases e with
   |normal=>
    obtain⟨y,j1,j2,j3⟩:=he
    refine⟨⟨y,j2,Yd j1 (Xk hs')⟩, ?_⟩
    exact Nat.lt_of_le_of_lt (Lg ⟨y,j2,Yd j1 (Xk hs'),rfl⟩) (by rw[←i3];exact j3)
   |exit i=>exact hcatch (.exit i) he
   |ret=>exact hcatch .ret he
  ·rename_i r hr
   obtain⟨x0,h1,h2,h3⟩:=h
   refine wpIn_block (wpIn_loop (fun a w=>∃x,(A.inv x∧r x0 x)∧Yl P N B w0 R (A.σ x) a w) (fun a w=>leastMu fun n=>∃x,(A.inv x∧r x0 x)∧Yl P N B w0 R (A.σ x) a w∧A.mu x=n) ⟨x0,h2,Yd h1 (Xk hs)⟩ fun a w hI=> ?_)
   obtain⟨x,i1,i2,i3⟩:=Lh (p:=fun n=>∃x,(A.inv x∧r x0 x)∧Yl P N B w0 R (A.σ x) a w∧A.mu x=n) (by obtain⟨x,i1,i2⟩:=hI;exact⟨_,x,i1,i2,rfl⟩)
   refine ih (h3 x i1) (fun e st' a' w' he hs'=> ?_) a w i2
   have hcatch:∀e,Ex.catch id k e st'→Exit.inBlock id Q e.toExit a' w':=by
    intro e he
    cases e with
    |normal=>exact hK .normal st' a' w' he hs'
    |exit i=>
     simp only[Ex.catch] at he
     simp only[Ex.toExit,Exit.inBlock]
     split at he
     ·rename_i e;rw[if_pos e];exact hK .normal st' a' w' he hs'
     ·rename_i e;rw[if_neg e];exact hK (.exit i) st' a' w' he hs'
    |ret=>exact hK .ret st' a' w' he hs'
   cases e with
   |normal=>
    obtain⟨y,j1,j2,j3⟩:=he
    refine⟨⟨y,j2,Yd j1 (Xk hs')⟩, ?_⟩
    exact Nat.lt_of_le_of_lt (Lg ⟨y,j2,Yd j1 (Xk hs'),rfl⟩) (by rw[←i3];exact j3)
   |exit i=>exact hcatch (.exit i) he
   |ret=>exact hcatch .ret he
 ·exact h.elim
theorem Jtb {α:Type} {l:List (Nat×α)} {t:Nat} {v:α} (h:look l t=some v):look ((t,v)::l)=look l:=by
 funext t'
 by_cases e:t'=t
 ·subst e;rw[h];simp[look]
 ·simp[look,Ne.symm e]
theorem Jip [Dr] {st:St} {a:Act} {w:World} {w0:Yu} {t:Nat} {b:Bool} (hs:Yl P N B w0 R st a w) (h:look st.sl t=some (.v false [.bool b])):Yl P N B w0 R (J2m st t b) a w:=by
 unfold Yl J2m at*
 dsimp only at*
 rw[Jtb h]
 exact hs
theorem Y7 [Dr] (hm:P.follows .mixedOrders=true) (hΓ:Xf P Γ) (hil:Kdj P il):∀(c:Code) {ann:Nat→Option Ann} {yk:Option YK} {it:IT} {w0:Yu} {rd:Option Nat} {st:St} {k:Ex→St→Prop} {Q:Exit→Act→World→Prop},Yr N c=true→
  ((yk=none→rd=none)∧∀y,yk=some y→(rd=none∨y=J5g)∧Kdf P N B w0 R y)→(it=Kdp∨(rd=none∧w0.marks=true∧Krd P it))→wpG P Γ ann il c yk it st k→
  (∀e st' a w,k e st'→Yl P N B w0 R st' a w→Q e.toExit a w)→∀a w,Yl P N B w0 R st a w→c.wpIn (FR rd) 0 P Q a w
 | .skip,ann,yk,it,w0,rd,st,k,Q,_,hy,hi,h,hK,a,w,hs=>wpIn_skip (hK .normal st a w h hs)
 | .region id ops dr, ann, yk, it, w0, rd, st, k, Q, hd, hy, hi, h, hK, a, w, hs => by
  have hN:∀o∈ops.toList,∀t,o.dst=some t→t<N:=fun o ho t ht=>by
   have:=List.all_eq_true.1 hd o ho
   rw[ht] at this
   simpa[Nat.blt_eq] using this
  simp only[wpG] at h
  split at h
  ·rename_i t ht
   exact J2d ht hN h (fun st' a' w' h' hs'=>hK .normal st' a' w' h' hs') id a w hs
  split at h
  ·rename_i ps st' hr
   rw[Jal] at h
   exact Jv6 hm hΓ hr h.1 hs hN rfl (fun a' w' hs'=>hK .normal st' a' w' h.2 hs') id
  ·split at h
   ·refine wpIn_region ?_
    rw[List.range_eq_range',show ops.size=ops.toList.length by simp]
    cases yk with
    |none=>exact Jjk hΓ J7t @hil (.inr rfl) rfl hN (fun st' a w h hs=>hK .normal st' a w h hs) ops.toList 0 st a w rfl h hs
    |some y=>
     obtain⟨e,hy2⟩:=hy.2 _ rfl
     exact Jjk hΓ @hy2 @hil e rfl hN (fun st' a w h hs=>hK .normal st' a w h hs) ops.toList 0 st a w rfl h hs
   ·cases yk with
    | none =>
     obtain rfl:=hy.1 rfl
     have h:J7i P Γ il ops st (k .normal):=h
     unfold J7i at h
     split at h
     ·rename_i hc
      rw[Bool.and_eq_true] at hc
      have hg:∀o∈ops.toList,o.guard=none:=fun o ho=>by
       have:=List.all_eq_true.1 hc.1 o ho
       simpa using this
      refine wpIn_mono (Q:=fun e a w=>e= .normal∧Q .normal a w) (wpIn_region_any hm (Jn6 hΓ @hil hN hg hc.2 (fun e a w h=>h.1) (fun st' a w h hs=>⟨rfl,hK .normal st' a w h hs⟩) _ _ st a _ h ?_)) (fun e a w h=>by obtain⟨h1,h2⟩:=h;subst h1;exact h2)
      obtain⟨ρ,M,al,hal,C⟩:=hs
      exact⟨ρ,M,al,hal,C.world rfl ⟨rfl,rfl,rfl,Nat.le_refl _,fun _ _=>rfl,fun _=>Nat.le_succ _⟩⟩
     ·exact h.elim
    |some y=>exact h.elim
 | .seq x y, ann, yk, it, w0, rd, st, k, Q, hd, hy, hi, h, hK, a, w, hs => by
  simp only[Yr,Bool.and_eq_true] at hd
  simp only[wpG] at h
  split at h
  ·rename_i A hA
   refine wpIn_seq (Y7 hm hΓ @hil x hd.1 hy hi h.1 (fun e st' a' w' he hs'=> ?_) a w hs)
   cases e with
   |normal=>
    obtain⟨z,j1,j2⟩:=he
    exact Y7 hm hΓ @hil y hd.2 hy hi (h.2 z j2) hK a' w' (Yd j1 (Xk hs'))
   |exit i=>exact hK (.exit i) st' a' w' he hs'
   |ret=>exact hK .ret st' a' w' he hs'
  ·refine wpIn_seq (Y7 hm hΓ @hil x hd.1 hy hi h (fun e st' a' w' he hs'=> ?_) a w hs)
   cases e with
   |normal=>exact Y7 hm hΓ @hil y hd.2 hy hi he hK a' w' hs'
   |exit i=>exact hK (.exit i) st' a' w' he hs'
   |ret=>exact hK .ret st' a' w' he hs'
 | .cond c x y, ann, yk, it, w0, rd, st, k, Q, hd, hy, hi, h, hK, a, w, hs => by
  simp only[Yr,Bool.and_eq_true] at hd
  simp only[wpG] at h
  split at h
  ·rename_i t
   split at h
   ·rename_i b hb
    obtain⟨ρ,M,al,hal,C⟩:=id hs
    have e:a.eval (.tmp t)= .bool b:=C.slot t _ hb
    cases hdec:K6s (ann (1000000+t)) with
    |true=>
     rw[hdec] at h
     exact wpIn_cond_split e (fun hb=>Y7 hm hΓ @hil x hd.1 hy hi (by subst hb;exact h) hK a w hs) (fun hb=>Y7 hm hΓ @hil y hd.2 hy hi (by subst hb;exact h) hK a w hs)
    | false =>
     rw[hdec] at h
     cases hset:Kgi (ann (1000000+t)) with
     |true=>
      rw[hset] at h
      exact wpIn_cond_split e (fun q=>Y7 hm hΓ @hil x hd.1 hy hi (by subst q;exact h) hK a w (Jip hs (by rw[hb,q]))) (fun q=>Y7 hm hΓ @hil y hd.2 hy hi (by subst q;exact h) hK a w (Jip hs (by rw[hb,q])))
     |false=>
      rw[hset] at h
      exact wpIn_cond_split e (fun hb=>Y7 hm hΓ @hil x hd.1 hy hi (h.1 hb) hK a w hs) (fun hb=>Y7 hm hΓ @hil y hd.2 hy hi (h.2 hb) hK a w hs)
   ·exact h.elim
  ·exact h.elim
 | .block id c, ann, yk, it, w0, rd, st, k, Q, hd, hy, hi, h, hK, a, w, hs => by
  by_cases hl:∃c',c= .loop c'
  ·obtain⟨c',rfl⟩:=hl
   exact J2i (fun h hK a w hs=>Y7 hm hΓ @hil c' hd hy hi h hK a w hs) h hK a w hs
  ·have h':wpG P Γ ann il c yk it st (Ex.catch id k):=by
    cases c<;>first|exact h|exact absurd ⟨_,rfl⟩ hl
   refine wpIn_block (Y7 hm hΓ @hil c hd hy hi h' (fun e st' a' w' he hs'=> ?_) a w hs)
   cases e with
   |normal=>exact hK .normal st' a' w' he hs'
   |exit i=>
    simp only[Ex.catch] at he
    simp only[Ex.toExit,Exit.inBlock]
    split at he
    ·rename_i e;rw[if_pos e];exact hK .normal st' a' w' he hs'
    ·rename_i e;rw[if_neg e];exact hK (.exit i) st' a' w' he hs'
   |ret=>exact hK .ret st' a' w' he hs'
 | .exit id,ann,yk,it,w0,rd,st,k,Q,_,hy,hi,h,hK,a,w,hs=>wpIn_exit (hK (.exit id) st a w h hs)
 | .ret,ann,yk,it,w0,rd,st,k,Q,_,hy,hi,h,hK,a,w,hs=>wpIn_ret (hK .ret st a w h hs)
 | .scope c,ann,yk,it,w0,rd,st,k,Q,hd,hy,hi,h,hK,a,w,hs=>by
  refine Zz (Y7 hm hΓ @hil c hd hy hi h (fun e st' a' w' he hs'=> ?_) a w hs)
  cases e<;>exact hK _ st' a' w' he hs'
 | .label _,ann,yk,it,w0,rd,st,k,Q,_,hy,hi,h,hK,a,w,hs=>wpIn_label (hK .normal st a w h hs)
 | .rangeFunc g ps ca cb, ann, yk, it, w0, rd, st, k, Q, hd, hy, hi, h, hK, a, w, hs => by
  simp only[Yr,Bool.and_eq_true,List.all_eq_true,Nat.blt_eq] at hd
  simp only[wpG] at h
  split at h
  ·rename_i t
   split at h
   ·rename_i j hj
    split at h
    ·rename_i f caps hr
     rcases hi with rfl|⟨rfl,hmk,hit⟩
     ·exact h.elim
     ·exact J13 hit hmk (fun h hK a w hs=>Y7 hm hΓ @hil ca hd.2.1 ⟨fun e=>(by cases e),fun y hy=>(by cases hy;exact⟨.inr rfl,Jjs⟩)⟩ (.inl rfl) h hK a w hs) (fun h hK a w hs=>Y7 hm hΓ @hil cb hd.2.2 ⟨fun e=>(by cases e),fun y hy=>(by cases hy;exact⟨.inr rfl,Jjs⟩)⟩ (.inl rfl) h hK a w hs) hd.1 hj hr h hK a w hs
    ·exact h.elim
   ·exact h.elim
  ·exact h.elim
 | .loop _,_,_,_,_,_,_,_,_,_,_,_,h,_,_,_,_=>h.elim
 | .goto _,_,_,_,_,_,_,_,_,_,_,_,h,_,_,_,_=>h.elim
 | .refuse _,_,_,_,_,_,_,_,_,_,_,_,h,_,_,_,_=>h.elim
termination_by c=>SizeOf.sizeOf c
end
theorem Jap [Dr] {P:Program} {N B:Nat} {w0:Yu} {al:Nat→Prop} {s:St} {a:Act} {w:World} {ρ:Env} {M R:Nat→Prop} (C:Kk P N B w0 al (look s.sl) (look s.rs) a w ρ M R):∀{l:List ResultVar} {vs:List SV},Yz P s l=some vs→∀v∈vs,∀id∈v.ids,al id
 |[],vs,h=>by cases h;intro v hv;simp at hv
 | r :: l, vs, h => by
  cases r with
  | tmp t =>
   simp only[Yz] at h
   split at h
   ·rename_i u l' hu hl
    cases h
    intro v hv
    rcases List.mem_cons.1 hv with rfl|hv
    ·exact C.slotIds t _ hu
    ·exact Jap C hl v hv
   ·cases h
  | cell t T =>
   simp only[Yz] at h
   split at h
   ·rename_i i l' hu hl
    split at h
    ·rename_i U cs hr
     split at h
     ·rename_i hc
      obtain⟨e,hm⟩:=hc
      subst e
      split at h
      ·rename_i u hsh
       cases h
       intro v hv
       rcases List.mem_cons.1 hv with rfl|hv
       ·exact(Jj0 C (off:=0) hr hm (by omega) (v:=v) (by simpa using hsh)).2.2
       ·exact Jap C hl v hv
      ·cases h
     ·cases h
    ·cases h
   ·cases h
theorem Jpu {ρ:Env}:∀{l:List SV} {ps:List (Bool×List SC)},J1n l=some ps→ps.map (J5p ρ)=l.map (SV.den ρ)∧∀id∈ps.flatMap (fun p=>K1 p.2),∃v∈l,id∈v.ids
 |[],_,h=>by cases h;exact⟨rfl,fun id hid=>by simp at hid⟩
 | .v g cs :: r, ps, h => by
  simp only[J1n] at h
  split at h
  ·rename_i l hl
   cases h
   obtain⟨h1,h2⟩:=Jpu hl
   refine⟨by rw[List.map_cons,List.map_cons,h1];rfl,fun id hid=> ?_⟩
   rw[List.flatMap_cons] at hid
   rcases List.mem_append.1 hid with hid|hid
   ·exact⟨.v g cs,by simp,hid⟩
   ·obtain⟨v,hv,hi⟩:=h2 id hid
    exact⟨v,by simp[hv],hi⟩
  ·cases h
 | .tup _::_,_,h=>by cases h
theorem Jv1 {ρ:Env} {l:List SV} {v:SV} (h:Jp4 l=some v):J0i (l.map (SV.den ρ))=v.den ρ∧∀id∈v.ids,∃u∈l,id∈u.ids:=by
 unfold Jp4 at h
 split at h
 ·cases h;exact⟨rfl,fun id hid=>⟨_,by simp,hid⟩⟩
 ·rename_i hne
  split at h
  ·rename_i ps hps
   cases h
   obtain⟨h1,h2⟩:=Jpu (ρ:=ρ) hps
   refine⟨?_,h2⟩
   have e:J0i (l.map (SV.den ρ))= .tuple (l.map (SV.den ρ)).toArray:=by
    match l,hne with
    |[],_=>rfl
    |[u],hne=>exact absurd rfl (hne u)
    |u::u'::r,_=>rfl
   rw[e]
   simp only[SV.den]
   rw[h1]
  ·cases h
theorem Jlr {fn:Func} {tmps:Array Value} {P:Program} {w:World} (h:fn.results.isEmpty=true):∃v,(results fn tmps).run P w= .ok v w:=by
 have e:fn.results= #[]:=Array.isEmpty_iff.1 h
 rw[Jhr,e]
 refine⟨.tuple #[], ?_⟩
 rw[Sem.run_bind,Array.mapM_eq_mapM_toList]
 simp[Sem.run_map,Sem.run_pure]
theorem Jqm [Dr] {P:Program} {Γ:Gam} {ann:FuncId→Nat→Option Ann} {il:IL} {lib:FuncId→Option Func} (hm:P.follows .mixedOrders=true) (hΓ:Xf P Γ) (hil:Kdj P il) (hl:∀f fn,lib f=some fn→P.funcs[f]? =some fn):Krd P (itS P Γ ann il lib):=by
 intro f st yk fin B w0 R args w h hmk hyk hinit
 unfold itS at h
 split at h
 ·rename_i fn hfn
  have hf:=hl f fn hfn
  split at h
  ·rename_i c hc
   split at h
   ·rename_i hs
    simp only[Bool.and_eq_true,Bool.not_eq_true',Nat.ble_eq] at hs
    obtain⟨⟨⟨hd,hN⟩,hname⟩,hres⟩:=hs
    refine⟨⟨fn,hf,by rw[hc];rfl,hname⟩,callsIn_of_wp (F:=FR none) (n:=0) hf hc trivial (Y7 (N:=fn.ntmps) (B:=B) (R:=R) (w0:=w0) (rd:=none) hm hΓ @hil c hd (⟨fun _=>rfl,fun y hy=>by cases hy;exact⟨.inl rfl,hyk _⟩⟩) (.inl rfl) h (fun e st' a' w' he hs'=> ?_) _ w (hinit fn.ntmps hN))⟩
    obtain⟨ρ,M,al,hal,C⟩:=id hs'
    obtain⟨v,hv⟩:=Jlr (tmps:=a'.tmps) (P:=P) (w:=w') hres
    cases e with
    |normal=>exact⟨C.nomark hmk,v,hv,fn.ntmps,v,a',st',rfl,he,hs'⟩
    |exit i=>exact he.elim
    |ret=>exact⟨C.nomark hmk,v,hv,fn.ntmps,v,a',st',rfl,he,hs'⟩
   ·exact h.elim
  ·exact h.elim
 ·exact h.elim
theorem Rep.shrink {M K:Nat→Prop} {w:World}:∀{s:Sch} {x:s.T} {cs:List Value},Rep M w s x cs→Rep (fun b=>M b∧(K b∨∃o:Obj,w.heap[b]? =some o∧o.isCells=true)) w s x cs
 | .int _,_,_,h=>h
 | .bool,_,_,h=>h
 | .str,_,_,h=>h
 | .flt _,_,_,h=>h
 | .fnc,_,_,h=>h
 | .prod _ _,_,_,⟨c1,c2,e,h1,h2⟩=>⟨c1,c2,e,Rep.shrink h1,Rep.shrink h2⟩
 | .list _ _, _, _, ⟨v, flat, e, h1, h2⟩ => by
  refine⟨v,flat,e,h1.imp fun _ _ h=>Rep.shrink h, ?_⟩
  rcases h2 with h2|⟨b,off,cap,e1,e2,e3,e4⟩
  ·exact .inl h2
  ·refine .inr ⟨b,off,cap,e1,e2,e3,fun hf=>⟨e4 hf, .inr ?_⟩⟩
   cases flat with
   |nil=>exact absurd rfl hf
   |cons u r=>exact cells_of_cell (e3 0 u rfl)
section
variable {P:Program} {N B:Nat} {w0:Yu} {al:Nat→Prop} {τ:Nat→Option SV} {σ:Nat→Option Res} {a:Act} {w:World} {ρ:Env} {M R:Nat→Prop}
theorem Ud.shrink {M K:Nat→Prop} {w:World} {gk gv:Bool} {ks vs:Sch}:∀{l:List (ks.T×vs.T)} {n:Nat} {es:List MapEntry},Ud M w gk gv ks vs l n es→Ud (fun b=>M b∧(K b∨∃o:Obj,w.heap[b]? =some o∧o.isCells=true)) w gk gv ks vs l n es
 |[],_,_,h=>h
 |_::_,_,_,⟨kc,vc,r,e,h1,h2,h3⟩=>⟨kc,vc,r,e,Rep.shrink h1,Rep.shrink h2,h3.shrink⟩
theorem Kk.shrink [Dr] (C:Kk P N B w0 al τ σ a w ρ M R) (hc:∀r x,σ r=some x→x.soft=true):
  Kk P N B w0 al τ σ {a with defers:=[]} w ρ (fun b=>M b∧(w0.M b∨∃o:Obj,w.heap[b]? =some o∧o.isCells=true)) R:=by
 refine⟨C.size,⟨fun d hd=>by simp at hd, .nil⟩,fun _=>rfl,C.stay,C.stayR,C.below,C.base,C.slot,C.slotIds,fun r x hx=> ?_,C.resIds,C.apart,fun b hb=>C.old b (hb.imp And.left id),C.one,fun b=>⟨fun h=>(C.up b).1 h.1,fun h=>⟨(C.up b).2 h, .inl h⟩⟩,C.good⟩
 have h:=C.resA r x hx
 cases x with
 |box T cs=>obtain⟨b,h1,h2,h3,h4⟩:=h;exact⟨b,h1,h2,fun h=>h3 h.1,h4⟩
 |imm T s xs=>exact Rep.shrink (K:=w0.M) h
 |own T s xs=>obtain⟨flat,h1,h2,h3⟩:=h;exact⟨flat,h1.imp fun _ _ h=>Rep.shrink h,h2,fun g hg=>⟨fun h=>(h3 g hg).1 h.1,(h3 g hg).2⟩⟩
 |ownT T s xs=>obtain⟨flat,h1,h2,h3⟩:=h;exact⟨flat,h1.imp fun _ _ h=>Rep.shrink h,h2,fun g hg=>⟨fun h=>(h3 g hg).1 h.1,(h3 g hg).2⟩⟩
 |clo f first caps=>exact h
 |rbox T s x=>obtain⟨b,cs,h1,h2,h3,h4⟩:=h;exact⟨b,cs,h1,h2,h3,Rep.shrink h4⟩
 |map ks=>obtain⟨b,es,h1,h2,h3,h4,h5⟩:=h;exact⟨b,es,h1,h2,h3,fun h=>h4 h.1,h5⟩
 |iter j ks seen=>obtain⟨b,m,h1,h2,h3,h4,h5⟩:=h;exact⟨b,m,h1,h2,h3,fun h=>h4 h.1,h5⟩
 |fbox T cs=>obtain⟨b,h1,h2,h3⟩:=h;exact⟨b,h1,h2,h3, .inr ⟨_,h2,rfl⟩⟩
 |mp kT gk gv ks vs l=>obtain⟨h0,b,es,h1,h2,h3,h4,h5⟩:=h;exact⟨h0,b,es,h1,h2,h3.shrink,fun h=>h4 h.1,h5⟩
 |mpi j kT gk gv ks vs l seen=>obtain⟨b,m,h1,h2,h3,h4,h5⟩:=h;exact⟨b,m,h1,h2,h3,fun h=>h4 h.1,h5⟩
 |sus l=>exact h
 |yld s=>obtain⟨l,rc,h1,h2,h3,h4,h5⟩:=h;exact⟨l,rc,h1,h2,h3,fun h=>h4 h.1,h5⟩
 |afn _ _ _ _=>cases hc _ _ hx
 |ifc _=>exact h
 |ifb _ _=>exact h
 |siter s pos=>obtain⟨b,h1,h2,h3,h4⟩:=h;exact⟨b,h1,h2,fun h=>h3 h.1,h4⟩
theorem L0 [Dr] (C:Kk P N B w0 al τ σ a w ρ M R) (hc:∀r x,σ r=some x→x.soft=true) (hB:∀b,w0.M b→b<w0.w.heap.size):
  ∃w'' M'',Kk P N B w0 al τ σ {a with defers:=[]} w'' ρ M'' R∧∀(fn:Func) (Rp:Ending→World→Prop),(∃v,(results fn a.tmps).run P w''= .ok v w''∧Rp (.returned v) w'')→LeavesInM (FR none) 0 P fn a.tmps Rp a.defers .returning w:=by
 obtain⟨M2,hM2⟩:∃M2,M2=fun b=>M b∧(w0.M b∨∃o:Obj,w.heap[b]? =some o∧o.isCells=true):=⟨_,rfl⟩
 have C1:Kk P N B w0 al τ σ {a with defers:=[]} w ρ M2 R:=by rw[hM2];exact C.shrink hc
 have key:∀(ds:List Deferred) (w:World),Kk P N B w0 al τ σ {a with defers:=[]} w ρ M2 R→
   (∀d∈ds,∃D,d={target:= .collected D,args:= #[]}∧w.heap[D]? =some (.deferred (some []))∧B≤D∧¬M2 D∧¬R D∧∀r x,σ r=some x→x.owning=true→blk (ρ r)≠some D)→ds.Nodup→
   ∃w'',Kk P N B w0 al τ σ {a with defers:=[]} w'' ρ M2 R∧∀(fn:Func) (Rp:Ending→World→Prop),(∃v,(results fn a.tmps).run P w''= .ok v w''∧Rp (.returned v) w'')→LeavesInM (FR none) 0 P fn a.tmps Rp ds .returning w:=by
  intro ds
  induction ds with
  |nil=>exact fun w C _ _=>⟨w,C,fun fn Rp h=>h⟩
  | cons d ds ih =>
   intro w C hd hn
   obtain⟨D,e,h1,h2,h3,h4,h5⟩:=hd d (by simp)
   obtain⟨hn1,hn2⟩:=List.nodup_cons.1 hn
   obtain⟨w'',C'',hl⟩:=ih _ (C.putFree (.deferred none) h2 h3 h4 h5) (fun d' hd'=>by
    obtain⟨D',e',k1,k2⟩:=hd d' (by simp[hd'])
    refine⟨D',e', ?_,k2⟩
    rw[World.putObj_heap_other]
    ·exact k1
    ·rintro rfl
     exact hn1 (by rw[e,←e'];exact hd')) hn2
   exact⟨w'',C'',fun fn Rp h=>⟨by simp, .inl ⟨D,_,by rw[e],run_takeDeferred h1,hl fn Rp h⟩⟩⟩
 obtain⟨w'',C'',h⟩:=key a.defers w C1 (fun d hd=>by
  obtain⟨D,d1,d2,d3,d4,d5⟩:=C.defers.1 d hd
  obtain⟨d5,d6⟩:=d5
  refine⟨D,d1,d3,d5,fun h=> ?_,d4,fun r x hx ho hb=>(C.notM hx ho hb).1 d2⟩
  rw[hM2] at h
  rcases h.2 with h|⟨o,h1,h2⟩
  ·have:=hB D h;omega
  ·rw[d3] at h1;cases h1;cases h2) C.defers.2
 exact⟨w'',M2,C'',h⟩
end
theorem Jlk {x:Res} (h:x.calm=true):x.soft=true:=by cases x<;>first|rfl|cases h
theorem J7u [Dr] {P:Program}:Kdj P K6o:=fun _ _ _ h=>h.elim
theorem J2o [Dr] {P:Program} {Γ:Gam} (hΓ:Xf P Γ):Kdj P (J78 Γ):=by
 intro f st args K N B w0 R ρ M al a w hal C hids h
 unfold J78 at h
 split at h
 case h_2=>exact h.elim
 rename_i c hc
 split at h
 case h_2=>exact h.elim
 rename_i z hz
 split at h
 case h_2=>exact h.elim
 rename_i r i g hrel
 split at h
 case h_2=>exact h.elim
 rename_i T s xs hr
 split at h
 case isFalse=>exact h.elim
 rename_i he
 obtain⟨e1,e2,e3,hno⟩:=he
 subst e1;subst e2;subst e3
 obtain⟨hpre,h⟩:=h
 obtain⟨hE,hS,_,_⟩:=hΓ f c hc
 obtain⟨flat,f1,f2,f3⟩:=C.res i _ hr
 have hcall:=hS z hz w B (ρ i) xs flat C.base (fun w' h=>C.good w' (C.below.trans h)) (f1.imp fun _ _ h=>Fk hno h) f2 hpre
 refine⟨hE,hcall.mono fun e w' hp=> ?_⟩
 obtain⟨rfl,ys,hy,hl,flat',g1,g2,g3,g4⟩:=hp
 rw[hrel] at hy
 refine⟨.tuple #[], .tup [],_,ρ,M,Lz al st.nx [],rfl,h ys hy,fun id hid=> ?_, ?_,rfl,fun id hid=>by simp[SV.ids] at hid⟩
 ·rcases hid with hid|hid
  ·exact hal id hid
  ·simp at hid;omega
 ·have key:=Jvi (n:=st.nx) C (d:=none) (fun t ht=>by cases ht) hr hno f2 f3 hl g1 g2 g3 g4
  have e1:Dn (look st.sl) none (.tup [])=look st.sl:=by funext t;simp[Dn]
  have e2:U2 (look st.rs) st.nx [] [(i,some (Res.own z.T z.s ys))]=look (Uu st.rs (i,some (Res.own z.T z.s ys))):=by
   funext id
   rw[Vh]
   unfold U2
   rw[if_neg (by simp)]
   by_cases e:id=i
   ·subst e;simp[look]
   ·have e':¬i=id:=fun h=>e h.symm
    simp[look,e,e']
  rw[e1,e2] at key
  exact key
theorem Jia [Dr] {P:Program} {Γ:Gam} {ann:FuncId→Nat→Option Ann} {lib:FuncId→Option Func} (hm:P.follows .mixedOrders=true) (hΓ:Xf P Γ) (hl:∀f fn,lib f=some fn→P.funcs[f]? =some fn) (n:Nat):Kdj P (ilS P Γ ann lib n):=by
 induction n with
 |zero=>exact J7u
 | succ n hil =>
  intro f st args K N B w0 R ρ M al a w hal C hids h
  simp only[ilS] at h
  split at h
  case h_2=>exact J2o hΓ hal C hids h
  rename_i fn hfn
  have hf:=hl f fn hfn
  split at h
  case h_2=>exact h.elim
  rename_i c hc
  split at h
  case isFalse=>exact h.elim
  rename_i hs
  simp only[Bool.and_eq_true,Bool.not_eq_true',Nat.ble_eq] at hs
  obtain⟨⟨hd,hN⟩,hname⟩:=hs
  obtain⟨m,it,hit,h⟩:∃(m:Bool) (it:IT),(it=Kdp∨m=true∧Krd P it)∧Kvx P Γ ann (ilS P Γ ann lib n) it m fn c f st args K:=by
   split at h
   ·exact⟨true,_, .inr ⟨rfl,Jqm hm hΓ @hil hl⟩,h⟩
   ·exact⟨false,_, .inl rfl,h⟩
  refine⟨⟨fn,hf,by rw[hc];rfl,hname⟩, ?_⟩
  have hz:∀id,al id→id≠st.nx:=fun id h=>Nat.ne_of_lt (hal id h)
  let w0i:Yu:={w:=w,M:=M,an:=fun id=>if id=st.nx then some (.vals fun t=>a.tmps.getD t undef) else w0.an id,marks:=m}
  let ρi:Env:=fun id=>if id=st.nx then .bool true else ρ id
  have hρ:∀id,al id→ρi id=ρ id:=fun id h=>if_neg (hz id h)
  have hden:∀v:SV,(∀id∈v.ids,al id)→v.den ρi=v.den ρ:=fun v h=>SV.den_congr fun id hid=>hρ id (h id hid)
  have hargs:args.map (SV.den ρ)=args.map (SV.den ρi):=List.map_congr_left fun v hv=>(hden v (hids v hv)).symm
  refine Zv.1 (callsIn_of_wp_marks (F:=FR none) (n:=0) hf hc trivial (Y7 (N:=fn.ntmps) (B:=B) (R:=R) (w0:=w0i) (rd:=none) hm hΓ @hil c hd ⟨fun _=>rfl,fun y hy=>by cases hy⟩ (hit.imp id fun h=>⟨rfl,h.1,h.2⟩) h (fun e st' a' w' he hs'=> ?_) _ w
   ⟨ρi,M,fun id=>al id∨id=st.nx,fun id h=> ?_,⟨by simp;omega,⟨fun d hd=>by simp at hd, .nil⟩,fun _=>rfl,fun _ _=>rfl,fun _ _=>rfl,Below.refl _ _,C.base,fun t v ht=> ?_,fun t v ht id hid=> ?_,fun r x hx=> ?_,fun r x hx=> ?_,fun r r' x x' hne hx hx' ho ho' b hb hb'=> ?_,C.old, ?_,fun b=>⟨fun h=> .inl h,fun h=>h⟩,fun w' hw'=>C.good w' (C.below.trans hw')⟩⟩))
  ·-- behind the call
   obtain⟨ρf,Mf0,alf,half,Cf0⟩:=hs'
   have key:(match m&& !(st'.rs.all fun p=>p.2.soft) with
     |true=>False
     | false => match Yz P st' fn.results.toList, look st'.rs st.nx with
      |some vs,some (.sus l)=>match Jp4 vs with
       |some v=>K v ⟨st'.nx,l,Uu st'.rs (st.nx,none)⟩
       |none=>False
      |_,_=>False)→LeavesInM (FR none) 0 P fn a'.tmps (fun e w'=>∃v u st' ρ' M' al',e= .returned v∧K u st'∧(∀id,al' id→id<st'.nx)∧Kk P N B w0 al' (look st'.sl) (look st'.rs) a w' ρ' M' R∧v=u.den ρ'∧∀id∈u.ids,al' id) a'.defers .returning w':=by
    intro hk
    split at hk
    case h_1=>exact hk.elim
    rename_i hsoft
    split at hk
    case h_2=>exact hk.elim
    rename_i vs l hv hs2
    split at hk
    case h_2=>exact hk.elim
    rename_i v hone
    obtain⟨w2,Mf,Cf,hleave⟩:∃w2 Mf,Kk P fn.ntmps B w0i alf (look st'.sl) (look st'.rs) {a' with defers:=[]} w2 ρf Mf R∧∀(fn:Func) (Rp:Ending→World→Prop),(∃v,(results fn a'.tmps).run P w2= .ok v w2∧Rp (.returned v) w2)→LeavesInM (FR none) 0 P fn a'.tmps Rp a'.defers .returning w':=by
     cases hmb:m with
     |true=>
      rw[hmb] at hsoft
      simp only[Bool.true_and,Bool.not_eq_false'] at hsoft
      exact L0 Cf0 (fun r x hx=>List.all_eq_true.1 hsoft _ (Kd hx)) fun b hb=>C.old b (.inl hb)
     | false =>
      have hd0:a'.defers=[]:=Cf0.nomark hmb
      refine⟨w',Mf0, ?_,fun fn Rp hR=> ?_⟩
      ·have e:({a' with defers:=[]}:Act)=a':=by cases a';simp only at hd0;rw[hd0]
       rw[e];exact Cf0
      ·rw[hd0];exact hR
    obtain⟨hval,hvids⟩:=Jv1 (ρ:=ρf) hone
    have hvids':∀id∈v.ids,alf id:=fun id hid=>by
     obtain⟨u,hu,hi⟩:=hvids id hid
     exact Jap Cf hv u hu id hi
    refine hleave fn _ ?_
    obtain⟨T3,t1,t2⟩:=Cf.resA st.nx _ hs2
    have t1':some (J0h.vals fun t=>a.tmps.getD t undef)=some (J0h.vals T3):=by rw[←t1];exact(if_pos rfl).symm
    cases t1'
    have hlook:∀{r x},look (Uu st'.rs (st.nx,none)) r=some x→r≠st.nx∧look st'.rs r=some x:=by
     intro r x h
     rw[Vh] at h
     split at h
     ·cases h
     ·rename_i hne;exact⟨hne,h⟩
    have hMf:∀b,M b→Mf b:=fun b hb=>(Cf.up b).2 hb
    refine⟨_,Hd Cf hv,_,v,_,ρf,Mf,alf,rfl,hk,half,⟨C.size,C.defers.keep hMf fun b hb=>Cf.stay b hb,C.nomark,fun b hb=>(Cf.stay b ((C.up b).2 hb)).trans (C.stay b hb),fun b hb=>(Cf.stayR b hb).trans (C.stayR b hb),C.below.trans Cf.below,Cf.base,fun t v ht=>t2 _ (Kd ht),fun t v ht id hid=>(Cf.resIds _ _ hs2).2 id (List.mem_flatMap.2 ⟨_,Kd ht,hid⟩),fun r x hx=>(Cf.resA r x (hlook hx).2).base fun _=>(if_neg (hlook hx).1).symm,fun r x hx=>Cf.resIds r x (hlook hx).2,fun r r' x x' hne hx hx'=>Cf.apart r r' x x' hne (hlook hx).2 (hlook hx').2,Cf.old,Cf.one,fun b=>⟨fun h=> ?_,fun h=>hMf b ((C.up b).2 h)⟩,C.good⟩,hval,hvids'⟩
    rcases(Cf.up b).1 h with h|h
    ·exact(C.up b).1 h
    ·exact .inr h
   cases e with
   |normal=>exact key he
   |exit i=>exact he.elim
   |ret=>exact key he
  ·show id<st.nx+1
   rcases h with h|h
   ·have:=hal id h;omega
   ·omega
  ·simp only at ht
   rw[V7,if_pos (Nat.zero_le _),Nat.sub_zero] at ht
   have hlt:t<args.length:=(List.getElem?_eq_some_iff.1 ht).1
   have:(args.map (SV.den ρ)).toArray[t]? =some (v.den ρi):=by rw[hargs,List.getElem?_toArray,List.getElem?_map,ht];rfl
   simp only[Array.getD_eq_getD_getElem?,Array.getElem?_append]
   rw[if_pos (by simpa using hlt),this]
   rfl
  ·simp only at ht
   rw[V7,if_pos (Nat.zero_le _),Nat.sub_zero] at ht
   exact .inl (hids v (List.mem_of_getElem? ht) id hid)
  ·simp only[look] at hx
   split at hx
   ·rename_i e2
    subst e2;cases hx
    refine⟨_,if_pos rfl,fun p hp=> ?_⟩
    have h1:=Xs hp
    rw[hden p.2 (C.slotIds _ _ h1)]
    exact C.slot _ _ h1
   ·rename_i e2
    have hr:=C.resIds r x hx
    exact((C.resA r x hx).keep (hρ r hr.1) (fun id hid=>hρ id (hr.2 id hid)) (fun _ h=>h) (fun b hb=>rfl) fun ho b hb=>⟨rfl,(C.notM hx ho hb).1⟩).base fun _=>if_neg (Ne.symm e2)
  ·simp only[look] at hx
   split at hx
   ·rename_i e2
    subst e2;cases hx
    refine⟨.inr rfl,fun id hid=> ?_⟩
    obtain⟨p,hp,hid⟩:=List.mem_flatMap.1 hid
    exact .inl (C.slotIds _ _ (Xs hp) id hid)
   ·have hr:=C.resIds r x hx
    exact⟨.inl hr.1,fun id hid=> .inl (hr.2 id hid)⟩
  ·simp only[look] at hx hx'
   split at hx
   ·cases hx;cases ho
   ·split at hx'
    ·cases hx';cases ho'
    ·rw[hρ r (C.resIds r x hx).1] at hb
     rw[hρ r' (C.resIds r' x' hx').1] at hb'
     exact C.apart r r' x x' hne hx hx' ho ho' b hb hb'
  ·rintro i (hi|hi)
   ·rw[hρ i hi];exact C.one i hi
   ·have:ρi i= .bool true:=if_pos hi
    rw[this];rfl
theorem U0 {P:Program} {l:List (Nat×Func)} (h:∀p∈l,P.funcs[p.1]? =some p.2):∀f fn,look l f=some fn→P.funcs[f]? =some fn:=fun _ _ hl=>h _ (Kd hl)
theorem Jfb [Dr] {P:Program} {Γ:Gam} {f:FuncId} {fn:Func} {c:Con} {lib:FuncId→Option Func} (hm:P.follows .mixedOrders=true) (hΓ:Xf P Γ) (hf:P.funcs[f]? =some fn) (hs:Jcf fn c=true)
  (hl:∀f fn,lib f=some fn→P.funcs[f]? =some fn) (ann:ATup c.args→Nat→Option Ann) (annF:ATup c.args→FuncId→Nat→Option Ann) (h:∀x:ATup c.args,wpFG P Γ (ann x) (annF x) lib fn c x):Ok P f c:=by
 unfold Jcf at hs
 cases hb:fn.body with
 |none=>rw[hb] at hs;cases hs
 | some code =>
  rw[hb] at hs
  simp only[Bool.and_eq_true,Bool.not_eq_true',Nat.ble_eq] at hs
  obtain⟨⟨⟨⟨hd,hN⟩,hname⟩,hsn⟩,hpn⟩:=hs
  refine⟨⟨fn,hf,by rw[hb];rfl,hname⟩,fun z hz=>(by rw[hz] at hsn;cases hsn),fun F hF=>(by rw[hF] at hpn;cases hpn),fun _ x M R w vs hM hgood hpre hargs=> ?_⟩
  have hx:=h x
  unfold wpFG at hx
  rw[hb] at hx
  have hw:=Jj8 hx hpre
  refine Zv.1 (callsIn_of_wp_marks (F:=FR none) (n:=0) hf hb trivial (Y7 (rd:=none) (N:=fn.ntmps) (B:=w.heap.size) (w0:=⟨w,M,fun _=>none,true⟩) (R:=R) hm hΓ (Jia hm hΓ hl 5) code hd ⟨fun _=>rfl,fun y hy=>by cases hy⟩ (.inr ⟨rfl,rfl,Jqm hm hΓ (Jia hm hΓ hl 5) hl⟩) hw (fun e st' a' w' he hs'=> ?_) _ w (Jqn true hargs hM hN hgood)))
  have key : ((st'.rs.all fun p => p.2.calm) = true ∧ Kdn P fn c x st') → LeavesInM (FR none) 0 P fn a'.tmps (Jpo M w c.ress c.owns (c.spec x)) a'.defers .returning w' := by
   rintro⟨hcalm,hr⟩
   obtain⟨ρ,M',al,_,C⟩:=hs'
   obtain⟨w2,M2,C2,hleave⟩:=L0 C (fun r x hx=>Jlk (List.all_eq_true.1 hcalm _ (Kd hx))) (fun b hb=>hM b (.inl hb))
   refine hleave fn _ ?_
   unfold Kdn at hr
   split at hr
   ·rename_i rv hrv
    split at hr
    ·rename_i y hy
     split at hr
     ·rename_i ho
      have e:=Jd2 hr
      subst e
      refine⟨_,Hd C2 hrv, ?_⟩
      have hres:=Jbc C2 (Y9 (look st'.rs) c.owns rv) (fun i y h=>Jey h) hy ho (fun v hv g cs i T s' xs e hi hr=>by
       subst e
       exact Uz hv (V8 hi hr))
      refine⟨_,_,rfl,C2.below,fun b hb=> .inl ((C2.up b).2 hb),fun b hb=> ?_,hres⟩
      rcases hb with hb|⟨i,y,T,s',xs,_,hr',hg⟩
      ·rcases(C2.up b).1 hb with h1|h1
       ·exact .inl h1
       ·exact .inr ⟨h1.1,C2.old b (.inl hb)⟩
      ·have:=C2.notM hr' rfl (Jq hg)
       exact .inr ⟨this.2.2.1,this.2.2.2⟩
     ·exact hr.elim
    ·exact hr.elim
   ·exact hr.elim
  cases e with
  |normal=>exact key he
  |exit i=>exact he.elim
  |ret=>exact key he
end Go.Sx

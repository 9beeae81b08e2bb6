/- The law walked: part of the proof. -/
import Derived.Test.YtcibbcfiemeoiaaGreatDoorFC
set_option linter.unusedSimpArgs false
set_option linter.unusedVariables false
set_option maxRecDepth 20000
namespace Go.Proofs.YtcibbcfiemeoiaaGreatDoor
open Go.Sx
set_option maxHeartbeats 20000000
def Kwh:Con:={args:=[.val false (.list 67 sEv),aEv],ress:=[(false, .list 67 sEv)],owns:=[],pre:=fun(l,_)=>[l.length≤1000000],spec:=fun(l,e,_)=>(l++[e],())}
theorem K94:Ok Tryz.prog 59 Kwh:=okW K62 Tryz.f59 na fun xx=>by
 obtain⟨(l:List Ev),⟨(n:Int),(k:ByteArray),(ns:List ByteArray),(vs:List Int),(tx:ByteArray)⟩,_⟩:=xx
 refine(by kernel_rfl:(Z38 l→((0+List.length l)*88≤140737488355328∧Jb8 l)∧Jpj l n k ns vs tx=Jpj l n k ns vs tx)=_).mp ?_
 delta Z38 Jpj Jb8
 exact fun h=>⟨⟨by omega,by omega⟩,rfl⟩
abbrev Ubq:=K62.add K94
abbrev Uay (r:Reg) (n:Nat):List (Nat×Res):=[(n, .imm 114 X5 r.2.2.1),(n+1, .imm 119 Ym r.2.2.2.1),(n+2, .imm 121 X9 r.2.2.2.2.1),(n+3, .imm 123 Yh r.2.2.2.2.2.1),(n+4, .imm 125 Y8 r.2.2.2.2.2.2)]
abbrev Ubn (r:Reg) (n:Nat):Res:= .box 37 [.int .i64 r.1, .int .i64 r.2.1, .sl n, .sl (n+1), .sl (n+2), .sl (n+3), .sl (n+4)]
abbrev Kvw (r:Reg) (n:Nat):List (Nat×Res):=[(n, .imm 127 X5 r.2.2.1),(n+1, .imm 130 Ym r.2.2.2.1),(n+2, .imm 155 X9 r.2.2.2.2.1),(n+3, .imm 188 Yh r.2.2.2.2.2.1),(n+4, .imm 235 Y8 r.2.2.2.2.2.2)]
abbrev Kw2 (r:Reg) (n:Nat):Res:= .box 105 [.int .i64 r.1, .int .i64 r.2.1, .sl n, .sl (n+1), .sl (n+2), .sl (n+3), .sl (n+4)]
abbrev nlS:SC:= .val (.slice none 0 0)
abbrev rs8 (l:List Ev):List (Nat×Res):=(0, .imm 67 sEv l)::Uay (Jg l) 11++[(16,Ubn (Jg l) 11)]
abbrev sl8:List (Nat×SV):=[(0, .one (.sl 0)),(8, .one (.ptr 16 0))]
abbrev Kw6 (l:List Ev):Ann:={X:=Unit,σ:=fun _=>⟨17,sl8,rs8 l⟩,inv:=fun _=>True,mu:=fun _=>0,un:=7779}
abbrev Kr5 (l:List Ev) (k:Nat):List (Nat×SV):=sl8++[(119, .one (.sl 11)),(120, .one (.int .i64 (Jg l).2.2.1.length)),(121, .one (.int .i64 k))]
abbrev Kxd (l:List Ev):Ann:={X:=Nat,σ:=fun k=>⟨17,Kr5 l k,rs8 l⟩,inv:=fun k=>k≤(Jg l).2.2.1.length,mu:=fun k=>(Jg l).2.2.1.length-k}
abbrev V5 (l:List Ev) (k:Nat):Sta:=(Jg l).2.2.1.getD k Jkv
abbrev Yx (l:List Ev) (k:Nat):List Ev:=Jx l (V5 l k).1
abbrev Kic (x:Sta):Res:= .box 114 [.str x.1, .int .i64 x.2.1, .int .i64 x.2.2]
abbrev Kxb (l:List Ev):Ann:={X:=Nat×Nat,σ:=fun(k,j)=>⟨19,Kr5 l k++[(16, .one (.ptr 17 0)),(17, .one (.sl 18)),(141, .one (.sl 18)),(142, .one (.int .i64 (Yx l k).length)),(143, .one (.int .i64 j))],rs8 l++[(17,Kic (V5 l k)),(18, .imm 67 sEv (Yx l k))]⟩,inv:=fun(k,j)=>j≤(Yx l k).length,mu:=fun(k,j)=>(Yx l k).length-j,rel:=some fun x y=>x.1=y.1}
abbrev Klv (l:List Ev) (k:Nat):List (Nat×SV):=Kr5 l k++[(16, .one (.ptr 17 0)),(21, .one (.ptr 24 0)),(26, .one (.ptr 26 0))]
abbrev Klw (l:List Ev) (k:Nat):List (Nat×Res):=rs8 l++(17,Kic (V5 l k))::Kvw (Jg (Yx l k)) 19++[(24,Kw2 (Jg (Yx l k)) 19)]
abbrev bxW (l:List Ev) (k:Nat) (a b c d:SC):Res:= .box 37 [.int .i64 (Jg (Yx l k)).1, .int .i64 0, .sl 11,a,b,c,d]
abbrev nmO (O:List Ord) (s:ByteArray):List (ByteArray×Bool):=Jck ((fO O s).map fun x=>x.1)
abbrev nmX (X:List Out) (s:ByteArray):List (ByteArray×Bool):=Jck ((fX X s).map fun x=>x.1)
abbrev oL (l:List Ev):List Ord:=(Jg l).2.2.2.1
abbrev mL (l:List Ev):List Met:=(Jg l).2.2.2.2.1
abbrev xL (l:List Ev):List Out:=(Jg l).2.2.2.2.2.1
abbrev qL (l:List Ev):List Per:=(Jg l).2.2.2.2.2.2
abbrev Kxa (l:List Ev):Ann:={X:=Nat×Nat,σ:=fun(k,j)=>⟨29,Klv l k++[(27, .one (.sl 27)),(204, .one (.sl 12)),(205, .one (.int .i64 (oL l).length)),(206, .one (.int .i64 j))],Klw l k++[(26,bxW l k (.sl 28) nlS nlS nlS),(28, .own 119 Ym (fO ((oL l).take j) (V5 l k).1)),(27, .mp 9 false false .str .bool (nmO ((oL l).take j) (V5 l k).1))]⟩,inv:=fun(k,j)=>j≤(oL l).length,mu:=fun(k,j)=>(oL l).length-j,rel:=some fun x y=>x.1=y.1}
abbrev Kw9 (l:List Ev):Ann:={X:=Nat×Nat,σ:=fun(k,j)=>⟨30,Klv l k++[(27, .one (.sl 27)),(233, .one (.sl 13)),(234, .one (.int .i64 (mL l).length)),(235, .one (.int .i64 j))],Klw l k++[(26,bxW l k (.sl 28) (.sl 29) nlS nlS),(28, .own 119 Ym (fO (oL l) (V5 l k).1)),(29, .own 121 X9 (fM (oL l) ((mL l).take j) (V5 l k).1)),(27, .mp 9 false false .str .bool (nmO (oL l) (V5 l k).1))]⟩,inv:=fun(k,j)=>j≤(mL l).length,mu:=fun(k,j)=>(mL l).length-j,rel:=some fun x y=>x.1=y.1}
abbrev Kw8 (l:List Ev):Ann:={X:=Nat×Nat,σ:=fun(k,j)=>⟨32,Klv l k++[(32, .one (.sl 30)),(252, .one (.sl 14)),(253, .one (.int .i64 (xL l).length)),(254, .one (.int .i64 j))],Klw l k++[(26,bxW l k (.sl 28) (.sl 29) (.sl 31) nlS),(28, .own 119 Ym (fO (oL l) (V5 l k).1)),(29, .own 121 X9 (fM (oL l) (mL l) (V5 l k).1)),(31, .own 123 Yh (fX ((xL l).take j) (V5 l k).1)),(30, .mp 9 false false .str .bool (nmX ((xL l).take j) (V5 l k).1))]⟩,inv:=fun(k,j)=>j≤(xL l).length,mu:=fun(k,j)=>(xL l).length-j,rel:=some fun x y=>x.1=y.1}
abbrev Kw7 (l:List Ev):Ann:={X:=Nat×Nat,σ:=fun(k,j)=>⟨33,Klv l k++[(32, .one (.sl 30)),(274, .one (.sl 15)),(275, .one (.int .i64 (qL l).length)),(276, .one (.int .i64 j))],Klw l k++[(26,bxW l k (.sl 28) (.sl 29) (.sl 31) (.sl 32)),(28, .own 119 Ym (fO (oL l) (V5 l k).1)),(29, .own 121 X9 (fM (oL l) (mL l) (V5 l k).1)),(31, .own 123 Yh (fX (xL l) (V5 l k).1)),(32, .own 125 Y8 (fQ (xL l) ((qL l).take j) (V5 l k).1)),(30, .mp 9 false false .str .bool (nmX (xL l) (V5 l k).1))]⟩,inv:=fun(k,j)=>j≤(qL l).length,mu:=fun(k,j)=>(qL l).length-j,rel:=some fun x y=>x.1=y.1}
theorem Jtq {l:List Ev} (h:J0p l 18=true):lOk l∧l.length≤18∧(Ja l).2.2=0:=by
 unfold J0p at h
 cases q:Xh l 18 with
 |false=>rw[q] at h;cases h
 |true=>
  rw[q,cond_true] at h
  obtain⟨h1,h2⟩:=Jew (by decide) q
  exact⟨h1,by omega,by simpa using h⟩
theorem Jo4 {a b:Nat} (h:a≤b) (h2:b≤1000000):a≤1000000:=Nat.le_trans h h2
theorem J7a {S:List Sta} {k:Nat} (h:k<S.length):0≤J1 S (S.getD k Jkv).1:=by
 by_cases q:0≤J1 S (S.getD k Jkv).1
 ·exact q
 ·have:=Fj.1 (show K0 (fun x:Sta=>x.1.toList==(S.getD k Jkv).1.toList) S 0<0 by unfold J1 at q;omega)
  rw[List.find?_eq_none] at this
  exact absurd (Xi _) (this _ (Je (d:=Jkv) h))
theorem J1m {n:Int}:Fp (n,Jl,[],[],Jb):=⟨Nat.zero_le _,Nat.zero_le _,fun _ h=>(by cases h)⟩
theorem Jq5 {e:Ev} (h:Jc e=0):Fp e:=by
 have hE:=Ko h
 have hk:=Jfk e.2.1
 have h1:=hE.nn
 have h2:=hE.nv
 refine⟨by omega,by omega,fun s hs=> ?_⟩
 exact Nat.le_trans (Jjv (hE.name s hs)) (by decide)
theorem Kgo {O:List Ord} {s:ByteArray} {j:Nat} (h:j<O.length) (ha:Ur (O.getD j Ki) s=true):fO (O.take (j+1)) s=fO (O.take j) s++[O.getD j Ki]∧nmO (O.take (j+1)) s=Zp .str (O.getD j Ki).1 true (nmO (O.take j) s):=by
 have e:fO (O.take (j+1)) s=fO (O.take j) s++[O.getD j Ki]:=by rw[←Ke (d:=Ki) h];exact Hx (f:=fun x=>Ur x s) ha
 exact⟨e,by show Jck ((fO (O.take (j+1)) s).map _)=_;rw[e,List.map_append,List.map_cons,List.map_nil,Jl7]⟩
theorem Kv1 {O:List Ord} {s:ByteArray} {j:Nat} (h:j<O.length) (ha:Ur (O.getD j Ki) s=false):fO (O.take (j+1)) s=fO (O.take j) s:=by rw[←Ke (d:=Ki) h];exact Jdf (f:=fun x=>Ur x s) ha
theorem Kgm {X:List Out} {s:ByteArray} {j:Nat} (h:j<X.length) (ha:aX s (X.getD j Hp)=true):fX (X.take (j+1)) s=fX (X.take j) s++[X.getD j Hp]∧nmX (X.take (j+1)) s=Zp .str (X.getD j Hp).1 true (nmX (X.take j) s):=by
 have e:fX (X.take (j+1)) s=fX (X.take j) s++[X.getD j Hp]:=by rw[←Ke (d:=Hp) h];exact Hx (f:=aX s) ha
 exact⟨e,by show Jck ((fX (X.take (j+1)) s).map _)=_;rw[e,List.map_append,List.map_cons,List.map_nil,Jl7]⟩
theorem Kvz {X:List Out} {s:ByteArray} {j:Nat} (h:j<X.length) (ha:aX s (X.getD j Hp)=false):fX (X.take (j+1)) s=fX (X.take j) s:=by rw[←Ke (d:=Hp) h];exact Jdf (f:=aX s) ha
theorem Kgp {O:List Ord} {M:List Met} {s:ByteArray} {j:Nat} (h:j<M.length) (ha:aM O s (M.getD j Jdt)=true):fM O (M.take (j+1)) s=fM O (M.take j) s++[M.getD j Jdt]:=by rw[←Ke (d:=Jdt) h];exact Hx (f:=aM O s) ha
theorem Kv2 {O:List Ord} {M:List Met} {s:ByteArray} {j:Nat} (h:j<M.length) (ha:aM O s (M.getD j Jdt)=false):fM O (M.take (j+1)) s=fM O (M.take j) s:=by rw[←Ke (d:=Jdt) h];exact Jdf (f:=aM O s) ha
theorem Kgn {X:List Out} {Q:List Per} {s:ByteArray} {j:Nat} (h:j<Q.length) (ha:aQ X s (Q.getD j Fi)=true):fQ X (Q.take (j+1)) s=fQ X (Q.take j) s++[Q.getD j Fi]:=by rw[←Ke (d:=Fi) h];exact Hx (f:=aQ X s) ha
theorem Kv0 {X:List Out} {Q:List Per} {s:ByteArray} {j:Nat} (h:j<Q.length) (ha:aQ X s (Q.getD j Fi)=false):fQ X (Q.take (j+1)) s=fQ X (Q.take j) s:=by rw[←Ke (d:=Fi) h];exact Jdf (f:=aQ X s) ha
theorem Jqj {α:Type} {f:α→Bool} {L:List α} {j b:Nat} (h:L.length≤b):((L.take j).filter f).length≤b:=Nat.le_trans (List.length_filter_le _ _) (by rw[List.length_take];omega)
theorem J7h {l:List Ev} (h0:(Ja l).2.2=0):J1e (Jg l)∧Kdg (Jg l).2.2.2.1∧Jb9 (Jg l).2.2.2.2.2.1:=by
 have h:=Jmv (Jmx h0) (fun m hm=>by cases hm) List.nodup_nil
 refine⟨h.1,h.2, ?_⟩
 unfold Jg
 rw[if_pos h0]
 exact Jjr Jp5
theorem Jlo (e:Ev):Hv e e=true:=by
 unfold Hv J20
 rw[Jec Jss,Jec Jsr]
 simp
theorem Jva:(∀k k':ByteArray,some (k.toList==k'.toList)=some (k.toList.beq k'.toList))∧∀_:ByteArray,True:=⟨fun _ _=>rfl,fun _=>trivial⟩
def Kwm:Con:={args:=[.val false (.list 67 sEv),aEv],ress:=[Bo],owns:=[],pre:=fun _=>[],spec:=fun _=>(true,())}
def Z11 (a:List Ev):=Ln (Jg a).2.2.1
def Z24 (a:List Ev) (b:Nat×Nat):=(Jg (Yx a b.1)).2.2.2
def Z49 (a:List Ev) (b:Nat×Nat):=(Z24 a b).2
def Z63 (a:List Ev):=List.length (Jg a).2.2.1
def Z69 (a:List Ev) (b:Nat×Nat):=fX (xL a) (V5 a b.1).1
def Z73 (a:List Ev) (b:Nat×Nat):=nmO (oL a) (V5 a b.1).1
def Z77 (a:List Ev) (b:Nat×Nat):=nmX (xL a) (V5 a b.1).1
def Z79 (a:List Ev) (b:Nat×Nat):=(Z49 a b).2
def Jr2 (a:List Ev) (b c:Nat×Nat):=(V5 a b.1).1=(V5 a c.1).1
def Klg (a:List Ev) (b:Nat×Nat):=fM (oL a) (mL a) (V5 a b.1).1
def Jr1 (a:List Ev) (b c:Nat×Nat):=(V5 a b.1).2.1=(V5 a c.1).2.1
def Jr0 (a:List Ev) (b c:Nat×Nat):=(V5 a b.1).2.2=(V5 a c.1).2.2
def J6o (a:Nat×Nat) (b:List Ev):=fO (List.take a.2 (oL b)) (V5 b a.1).1
def J6n (a:Nat×Nat) (b:List Ev):=fX (List.take a.2 (xL b)) (V5 b a.1).1
def Kav (a:Nat×Nat) (b:List Ev):=nmX (List.take a.2 (xL b)) (V5 b a.1).1
def Kat (a:Nat×Nat) (b:List Ev):=nmO (List.take a.2 (oL b)) (V5 b a.1).1
def Jdx (a:List Ev) (b c:Nat×Nat):=(Jg (Yx a b.1)).1=(Jg (Yx a c.1)).1
def Jtx (a:List Ev) (b c:Nat×Nat):=(Jg (Yx a b.1)).2.1=(Jg (Yx a c.1)).2.1
def J6f (a:List Ev) (b:Nat×Nat):=fQ (xL a) (List.take b.2 (qL a)) (V5 a b.1).1
def Kq1 (a:List Ev) (b:Nat×Nat):=List.getD (Jg a).2.2.2.2.2.2 b.2 (B0,B0,false)
def J6e (a:List Ev) (b:Nat×Nat):=fM (oL a) (List.take b.2 (mL a)) (V5 a b.1).1
def Kq0 (a:List Ev) (b:Nat):=List.getD (Jg a).2.2.1 b Z7
def Kk8 (a:List Ev) (b:Nat):=(Kq0 a b).1
def Jtw (a:List Ev) (b c:Nat×Nat):=(Jg (Yx a b.1)).2.2.1=(Jg (Yx a c.1)).2.2.1
def Jtu (a:List Ev) (b c:Nat×Nat):=(Z24 a b).1=(Z24 a c).1
def J32 (a:List Ev) (b c:Nat×Nat):=fO (oL a) (V5 a b.1).1=fO (oL a) (V5 a c.1).1
def Jtt (a:List Ev) (b c:Nat×Nat):=(Z49 a b).1=(Z49 a c).1
def Jts (a:List Ev) (b c:Nat×Nat):=(Z79 a b).2=(Z79 a c).2
def Jtr (a:List Ev) (b c:Nat×Nat):=(Z79 a b).1=(Z79 a c).1
def Kk2 (a:List Ev) (b:Nat×Nat):=List.getD (Jg a).2.2.2.2.1 b.2 Jr4
def K52 (a:List Ev) (b:Nat):=Ln (Jx a (Kk8 a b))
def K50 (a:List Ev) (b:Nat×Nat):=List.getD (Jg a).2.2.2.2.2.1 b.2 Jc1
def Kep (a:List Ev) (b c:Nat×Nat):=Klg a b=Klg a c
def K5z (a:List Ev) (b:Nat×Nat):=List.getD (Yx a b.1) b.2 Fe
def K5x (a:List Ev) (b:Nat×Nat):=(K50 a b).2
def K5w (a:List Ev) (b:Nat×Nat):=(K50 a b).1
def K5s (a:List Ev) (b:Nat×Nat):=(K5x a b).1
def K5r (a:List Ev) (b:Nat×Nat):=(K5x a b).2
def K5q (a:List Ev) (b:Nat×Nat):=(K5z a b).1
def K5o (a:List Ev) (b:Nat×Nat):=(K5z a b).2
def K5m (a:List Ev) (b:Nat×Nat):=(K5o a b).2
def Kqa (a:List Ev) (b:Nat×Nat):=(K5o a b).1
def Kab (a:List Ev):=Kky a=false
def K4r (a:List Ev) (b:Nat×Nat):=List.getD (Jg a).2.2.2.1 b.2 Jdo
def K4o (a:List Ev) (b:Nat×Nat):=(K4r a b).1
def K4l (a:List Ev) (b:Nat×Nat):=(K4r a b).2
def K4j (a:List Ev) (b:Nat×Nat):=(K4l a b).2
def K4i (a:List Ev) (b:Nat×Nat):=(K4l a b).1
def K4g (a:List Ev) (b:Nat×Nat):=(K4j a b).2
def K4d (a:List Ev) (b:Nat×Nat):=(K4j a b).1
def K4a (a:List Ev) (b:Nat×Nat):=(K4g a b).2
def K33 (a:Nat×Nat) (b:List Ev) (c d:Nat×Nat):=(a.2≤List.length (qL b)∧c.1=a.1)∧List.length (qL b)-a.2<List.length (qL b)-d.2
def K30 (a:Nat×Nat) (b:List Ev) (c d:Nat×Nat):=(a.2≤List.length (xL b)∧c.1=a.1)∧List.length (xL b)-a.2<List.length (xL b)-d.2
def K3z (a:Nat×Nat) (b:List Ev) (c d:Nat×Nat):=(a.2≤List.length (oL b)∧c.1=a.1)∧List.length (oL b)-a.2<List.length (oL b)-d.2
def K3y (a:Nat×Nat) (b:List Ev) (c d:Nat×Nat):=(a.2≤List.length (mL b)∧c.1=a.1)∧List.length (mL b)-a.2<List.length (mL b)-d.2
def K1t (a:List Ev):=Kab a→List.length (Jg a).2.2.1≤1000000
def K1q (a:List Ev):=Kab a→List.length (Jg a).2.2.2.1≤1000000
def K1n (a:List Ev):=Kab a→List.length (Jg a).2.2.2.2.1≤1000000
def K1m (a:List Ev):=Kab a→List.length (Jg a).2.2.2.2.2.1≤1000000
def K1l (a:List Ev):=Kab a→List.length (Jg a).2.2.2.2.2.2≤1000000
def Knk (a:List Ev) (b:Int) (c:Bt) (d:Ls) (e:Li) (f:Bt):=Jpj a b c d e f++[(Ln (Jpj a b c d e f)+1,Jl,[],[],B0)]
def K1c (a:List Ev) (b:Int) (c:Bt) (d:Ls) (e:Li) (f:Bt):=Jg (Knk a b c d e f)
def K1a (a:List Ev) (b:Int) (c:Bt) (d:Ls) (e:Li) (f:Bt):=(K1c a b c d e f).2
def Kne (a:List Ev) (b:Int) (c:Bt) (d:Ls) (e:Li) (f:Bt):=(K1a a b c d e f).2
def K02 (a:List Ev) (b:Int) (c:Bt) (d:Ls) (e:Li) (f:Bt):=(Ja (Knk a b c d e f)).2
def Knd (a:List Ev) (b:Int) (c:Bt) (d:Ls) (e:Li) (f:Bt):=(Kne a b c d e f).2
def K0y (a:List Ev) (b:Int) (c:Bt) (d:Ls) (e:Li) (f:Bt):=(K02 a b c d e f).2
def Km9 (a:List Ev) (b:Int) (c:Bt) (d:Ls) (e:Li) (f:Bt):=(Knd a b c d e f).2
def Km8 (a:List Ev) (b:Int) (c:Bt) (d:Ls) (e:Li) (f:Bt):=(Km9 a b c d e f).2
def Kzt (a:List Ev) (b:Nat×Nat):=bif (Ja (Yx a b.1)).2.2 !=0 then true else Vl (Yx a b.1) (V5 a b.1).1 !=0
def Kzi (a:List Ev) (b:Nat×Nat):=Kzt a b=false
def Kzc (a:List Ev) (b:Int) (c:Bt) (d:Ls) (e:Li) (f:Bt):=K0y a b c d e f !=21
def Kzb (a:List Ev) (b:Int) (c:Bt) (d:Ls) (e:Li) (f:Bt):=K0y a b c d e f !=0
def J9y (a:Bt) (b:List Ev) (c:Int) (d:Ls) (e:Li) (f:Bt):=(!Lb a Jl)=true∧Kzb b c a d e f=false
def Ky1 (a:List Ev):=Sf a (Jg0 a∧Jgz a∧Jgx a∧Jgv a∧Jgw a∧Si (Jg a).1 (Z74 a))
def Kmd (a:List Ev):Prop:=∃(y:Unit),Sf a (Jg0 a∧Jgz a∧Jgx a∧Jgv a∧Jgw a∧(Jg a).1=(Jg a).1∧Z74 a)∧True
def Kyc (a:List Ev) (b:Nat×Nat):=(K5q a b,Kqa a b,(K5m a b).1,E2 (K5m a b).2)
def Kx6 (a:List Ev) (b:Nat×Nat):=bif bif K5q a b !=Nc b.2+1 then true else Lb (Kqa a b) Jl then true else Lb (Kqa a b) Jh
def Kl8 (a:List Ev) (b:Nat×Nat):=Kx6 a b=false
def Kxu (a:Bt) (b:List Ev) (c:Int) (d:Ls) (e:Li) (f:Bt):=J9y a b c d e f→List.length (Kne b c a d e f).1≤1000000
def Kxt (a:Bt) (b:List Ev) (c:Int) (d:Ls) (e:Li) (f:Bt):=J9y a b c d e f→List.length (Knd b c a d e f).1≤1000000
def Kxs (a:Bt) (b:List Ev) (c:Int) (d:Ls) (e:Li) (f:Bt):=J9y a b c d e f→List.length (Km9 b c a d e f).1≤1000000
def Kxq (a:Bt) (b:List Ev) (c:Int) (d:Ls) (e:Li) (f:Bt):=J9y a b c d e f→List.length (Km8 b c a d e f).2≤1000000
def Kxp (a:Bt) (b:List Ev) (c:Int) (d:Ls) (e:Li) (f:Bt):=J9y a b c d e f→List.length (Km8 b c a d e f).1≤1000000
theorem ok8:Ok Tryz.prog 8 Kwm:=Jwm Ubq Tryz.f8 (U0 (l:=([]:List (Nat×Func))) (by simp)) (fun xx=>fun id=>if id=2000077 then some (Kw6 xx.1) else if id=0 then some (Kxd xx.1) else if id=2 then some (Kxb xx.1) else if id=4 then some (Kxa xx.1) else if id=6 then some (Kw9 xx.1) else if id=8 then some (Kw8 xx.1) else if id=10 then some (Kw7 xx.1) else none) (fun xx=>fun _=>na ()) fun xx=>by
 obtain⟨(l:List Ev),⟨(n:Int),(k:ByteArray),(ns:List ByteArray),(vs:List Int),(tx:ByteArray)⟩,_⟩:=xx
 refine(by kernel_rfl:(((18:Int)≤(1000:Int)∧((!J0p l (18:Int))=false→(1:Int)≤(1000000:Int)))∧Br (bif !J0p l (18:Int) then true else !Xh [(n,k,ns,vs,tx)] (1:Int)) (Tw (true=true)) (T2 (lOk l) ((K1t l∧K1q l∧K1n l∧K1m l∧K1l l∧(Kab l→Jza l=Jza l)∧K1t l∧K1q l∧K1n l∧K1m l∧K1l l)∧Br (bif Kky l then true else false) Z82 (((lOk l∧Fp (n,k,ns,vs,tx)∧((Ja0 l (n,k,ns,vs,tx)==(0:Int))=true→lOk l)∧((Ja0 l (n,k,ns,vs,tx)==(0:Int))=true→Fp (n,k,ns,vs,tx)))∧Br (bif Ja0 l (n,k,ns,vs,tx)==(0:Int) then Ja0 l (n,k,ns,vs,tx)==(0:Int) else false) (Z38 l∧(Iw (Ln (Jpj l n k ns vs tx)+(1:Int))∧List.length (Jpj l n k ns vs tx)≤(1000000:Nat)∧lOk (Knk l n k ns vs tx))∧Br (Lb k Jh) ((Kzc l n k ns vs tx=false→Iw (Ln (Jpj l n k ns vs tx)+(1:Int)))∧Br (bif Kzc l n k ns vs tx then true else(K02 l n k ns vs tx).1 !=Ln (Jpj l n k ns vs tx)+(1:Int)) Z82 (Kmd l)) ((Kxu k l n ns vs tx∧Kxt k l n ns vs tx∧Kxs k l n ns vs tx∧Kxp k l n ns vs tx∧Kxq k l n ns vs tx∧(J9y k l n ns vs tx→((K1c l n k ns vs tx).1,(K1a l n k ns vs tx).1,(Kne l n k ns vs tx).1,(Knd l n k ns vs tx).1,(Km9 l n k ns vs tx).1,E2 (Km8 l n k ns vs tx))=Jza l)∧Kxu k l n ns vs tx∧Kxt k l n ns vs tx∧Kxs k l n ns vs tx∧Kxp k l n ns vs tx∧Kxq k l n ns vs tx)∧Br (bif !Lb k Jl then bif Kzb l n k ns vs tx then true else false else false) Z82 (Kmd l))) (Kmd l))∧∀(y:Unit),True→∃(x:Nat),Si (Z11 l) ((0:Int)=Nc x∧Ky1 l)∧x≤Z63 l∧∀(x:Nat),x≤Z63 l→Br (decide (Nc x<Z11 l)) (Tw (Bd (Nc x) (Z11 l))∧lOk l∧Br (bif Vl l (Kk8 l x) !=(0:Int) then true else decide (Ln l<K52 l x)) Z82 (∃(x0:Nat×Nat),Si (Z11 l) (Nc x=Nc x0.1∧K52 l x=Ln (Yx l x0.1)∧(0:Int)=Nc x0.2∧Sf l (Jg0 l∧Jgz l∧Jgx l∧Jgv l∧Jgw l∧Si (Jg l).1 (Si (Jg l).2.1 (Kk8 l x=(V5 l x0.1).1∧(Kq0 l x).2.1=(V5 l x0.1).2.1∧(Kq0 l x).2.2=(V5 l x0.1).2.2∧Jx l (Kk8 l x)=Yx l x0.1))))∧(x0.2≤List.length (Yx l x0.1)∧x0.1=x0.1)∧∀(x_1:Nat×Nat),x_1.2≤List.length (Yx l x_1.1)∧x0.1=x_1.1→Br (decide (Nc x_1.2<Ln (Yx l x_1.1))) (Tw (Bd (Nc x_1.2) (Ln (Yx l x_1.1)))∧(Z36 x_1∧(Kl8 l x_1→(0:Int)≤(0:Int)∧(0:Int)≤Nc x_1.2∧Nc x_1.2≤Ln (Yx l x_1.1))∧(Kl8 l x_1→lOk (List.take x_1.2 (Yx l x_1.1)))∧(Kl8 l x_1→Fp (Kyc l x_1)))∧Br (bif Kx6 l x_1 then true else Ja0 (List.take x_1.2 (Yx l x_1.1)) (Kyc l x_1) !=(0:Int)) Z82 (Z36 x_1∧∃(y:Nat×Nat),Si (Z11 l) (Nc x_1.1=Nc y.1∧Ln (Yx l x_1.1)=Ln (Yx l y.1)∧Jup x_1 y∧Sf l (Jg0 l∧Jgz l∧Jgx l∧Jgv l∧Jgw l∧Si (Jg l).1 (Si (Jg l).2.1 (Jr2 l x_1 y∧Jr1 l x_1 y∧Jr0 l x_1 y∧Yx l x_1.1=Yx l y.1))))∧(y.2≤List.length (Yx l y.1)∧x0.1=y.1)∧List.length (Yx l y.1)-y.2<List.length (Yx l x_1.1)-x_1.2)) (T2 (lOk (Yx l x_1.1)) (((Kzi l x_1→List.length (Jx (Yx l x_1.1) (V5 l x_1.1).1)≤(1000000:Nat))∧(Kzi l x_1→∀(x:Ev),x∈Jx (Yx l x_1.1) (V5 l x_1.1).1→Kad x))∧Br (bif Kzt l x_1 then true else !eqL Hv (Jx (Yx l x_1.1) (V5 l x_1.1).1) (Yx l x_1.1)) Z82 (J90∧∃(x0:Nat×Nat),Si (Z11 l) (Nc x_1.1=Nc x0.1∧Z28 l=Ln (oL l)∧(0:Int)=Nc x0.2∧Sf l (Jg0 l∧Jgz l∧Jgx l∧Jgv l∧Jgw l∧Si (Jg l).1 (Si (Jg l).2.1 (Jr2 l x_1 x0∧Jr1 l x_1 x0∧Jr0 l x_1 x0∧Jtw l x_1 x0∧Jtu l x_1 x0∧Jtt l x_1 x0∧Jtr l x_1 x0∧Jts l x_1 x0∧Jdx l x_1 x0∧Jtx l x_1 x0∧Jdx l x_1 x0∧Si (0:Int) (Sf J7 (Sf J7 (Sf J7 (List.length (J6o x0 l)=(0:Nat)∧[]=Kat x0 l))))))))∧(x0.2≤List.length (oL l)∧x0.1=x0.1)∧∀(x_2:Nat×Nat),x_2.2≤List.length (oL l)∧x0.1=x_2.1→Br (decide (Nc x_2.2<Ln (oL l))) (Tw (Bd (Nc x_2.2) (Z28 l))∧Br (bif Lb (K4i l x_2) (V5 l x_2.1).1 then true else Lb (K4d l x_2) (V5 l x_2.1).1) ((List.length (J6o x_2 l)+(1:Nat))*(88:Nat)≤(140737488355328:Nat)∧Z36 x_2∧∃(y:Nat×Nat),Si (Z11 l) (Nc x_2.1=Nc y.1∧Si (Ln (oL l)) (Jup x_2 y∧Sf l (Jg0 l∧Jgz l∧Jgx l∧Jgv l∧Jgw l∧Si (Jg l).1 (Si (Jg l).2.1 (Jr2 l x_2 y∧Jr1 l x_2 y∧Jr0 l x_2 y∧Jtw l x_2 y∧Jtu l x_2 y∧Jtt l x_2 y∧Jtr l x_2 y∧Jts l x_2 y∧Jdx l x_2 y∧Jtx l x_2 y∧Jdx l x_2 y∧Si (0:Int) (Sf J7 (Sf J7 (Sf J7 (J6o x_2 l++[(K4o l x_2,K4i l x_2,K4d l x_2,E2 (K4g l x_2).1,(K4a l x_2).1,E2 (K4a l x_2).2)]=J6o y l∧Zp Sch.str (K4o l x_2) true (Kat x_2 l)=Kat y l)))))))))∧K3z y l x0 x_2) (Z36 x_2∧∃(y:Nat×Nat),Si (Z11 l) (Nc x_2.1=Nc y.1∧Si (Ln (oL l)) (Jup x_2 y∧Sf l (Jg0 l∧Jgz l∧Jgx l∧Jgv l∧Jgw l∧Si (Jg l).1 (Si (Jg l).2.1 (Jr2 l x_2 y∧Jr1 l x_2 y∧Jr0 l x_2 y∧Jtw l x_2 y∧Jtu l x_2 y∧Jtt l x_2 y∧Jtr l x_2 y∧Jts l x_2 y∧Jdx l x_2 y∧Jtx l x_2 y∧Jdx l x_2 y∧Si (0:Int) (Sf J7 (Sf J7 (Sf J7 (J6o x_2 l=J6o y l∧Kat x_2 l=Kat y l)))))))))∧K3z y l x0 x_2)) (∃(x0:Nat×Nat),Si (Z11 l) (Nc x_2.1=Nc x0.1∧Ln (Jg l).2.2.2.2.1=Ln (mL l)∧(0:Int)=Nc x0.2∧Sf l (Jg0 l∧Jgz l∧Jgx l∧Jgv l∧Jgw l∧Si (Jg l).1 (Si (Jg l).2.1 (Jr2 l x_2 x0∧Jr1 l x_2 x0∧Jr0 l x_2 x0∧Jtw l x_2 x0∧Jtu l x_2 x0∧Jtt l x_2 x0∧Jtr l x_2 x0∧Jts l x_2 x0∧Jdx l x_2 x0∧Jtx l x_2 x0∧Jdx l x_2 x0∧Si (0:Int) (Sf J7 (Sf J7 (J6o x_2 l=fO (oL l) (V5 l x0.1).1∧List.length (J6e l x0)=(0:Nat)∧Kat x_2 l=Z73 l x0)))))))∧(x0.2≤List.length (mL l)∧x0.1=x0.1)∧∀(x_3:Nat×Nat),x_3.2≤List.length (mL l)∧x0.1=x_3.1→Br (decide (Nc x_3.2<Ln (mL l))) (Tw (Bd (Nc x_3.2) (Ln (Jg l).2.2.2.2.1))∧Br (Option.getD (Ue Sch.str (Kk2 l x_3).1 (Z73 l x_3)) false) ((List.length (J6e l x_3)+(1:Nat))*(40:Nat)≤(140737488355328:Nat)∧Z36 x_3∧∃(y:Nat×Nat),Si (Z11 l) (Nc x_3.1=Nc y.1∧Si (Ln (mL l)) (Jup x_3 y∧Sf l (Jg0 l∧Jgz l∧Jgx l∧Jgv l∧Jgw l∧Si (Jg l).1 (Si (Jg l).2.1 (Jr2 l x_3 y∧Jr1 l x_3 y∧Jr0 l x_3 y∧Jtw l x_3 y∧Jtu l x_3 y∧Jtt l x_3 y∧Jtr l x_3 y∧Jts l x_3 y∧Jdx l x_3 y∧Jtx l x_3 y∧Jdx l x_3 y∧Si (0:Int) (Sf J7 (Sf J7 (J32 l x_3 y∧J6e l x_3++[((Kk2 l x_3).1,(Kk2 l x_3).2.1,E2 (Kk2 l x_3).2.2)]=J6e l y∧Z73 l x_3=Z73 l y))))))))∧K3y y l x0 x_3) (Z36 x_3∧∃(y:Nat×Nat),Si (Z11 l) (Nc x_3.1=Nc y.1∧Si (Ln (mL l)) (Jup x_3 y∧Sf l (Jg0 l∧Jgz l∧Jgx l∧Jgv l∧Jgw l∧Si (Jg l).1 (Si (Jg l).2.1 (Jr2 l x_3 y∧Jr1 l x_3 y∧Jr0 l x_3 y∧Jtw l x_3 y∧Jtu l x_3 y∧Jtt l x_3 y∧Jtr l x_3 y∧Jts l x_3 y∧Jdx l x_3 y∧Jtx l x_3 y∧Jdx l x_3 y∧Si (0:Int) (Sf J7 (Sf J7 (J32 l x_3 y∧J6e l x_3=J6e l y∧Z73 l x_3=Z73 l y))))))))∧K3y y l x0 x_3)) (J90∧∃(x0:Nat×Nat),Si (Z11 l) (Nc x_3.1=Nc x0.1∧Ln (Jg l).2.2.2.2.2.1=Ln (xL l)∧(0:Int)=Nc x0.2∧Sf l (Jg0 l∧Jgz l∧Jgx l∧Jgv l∧Jgw l∧Si (Jg l).1 (Si (Jg l).2.1 (Jr2 l x_3 x0∧Jr1 l x_3 x0∧Jr0 l x_3 x0∧Jtw l x_3 x0∧Jtu l x_3 x0∧Jtt l x_3 x0∧Jtr l x_3 x0∧Jts l x_3 x0∧Jdx l x_3 x0∧Jtx l x_3 x0∧Jdx l x_3 x0∧Si (0:Int) (Sf J7 (J32 l x_3 x0∧J6e l x_3=Klg l x0∧List.length (J6n x0 l)=(0:Nat)∧[]=Kav x0 l))))))∧(x0.2≤List.length (xL l)∧x0.1=x0.1)∧∀(x_4:Nat×Nat),x_4.2≤List.length (xL l)∧x0.1=x_4.1→Br (decide (Nc x_4.2<Ln (xL l))) (Tw (Bd (Nc x_4.2) (Ln (Jg l).2.2.2.2.2.1))∧Br (Lb (K5s l x_4) (V5 l x_4.1).1) ((List.length (J6n x_4 l)+(1:Nat))*(56:Nat)≤(140737488355328:Nat)∧Z36 x_4∧∃(y:Nat×Nat),Si (Z11 l) (Nc x_4.1=Nc y.1∧Si (Ln (xL l)) (Jup x_4 y∧Sf l (Jg0 l∧Jgz l∧Jgx l∧Jgv l∧Jgw l∧Si (Jg l).1 (Si (Jg l).2.1 (Jr2 l x_4 y∧Jr1 l x_4 y∧Jr0 l x_4 y∧Jtw l x_4 y∧Jtu l x_4 y∧Jtt l x_4 y∧Jtr l x_4 y∧Jts l x_4 y∧Jdx l x_4 y∧Jtx l x_4 y∧Jdx l x_4 y∧Si (0:Int) (Sf J7 (J32 l x_4 y∧Kep l x_4 y∧J6n x_4 l++[(K5w l x_4,K5s l x_4,E2 (K5r l x_4).1,(K5r l x_4).2)]=J6n y l∧Zp Sch.str (K5w l x_4) true (Kav x_4 l)=Kav y l)))))))∧K30 y l x0 x_4) (Z36 x_4∧∃(y:Nat×Nat),Si (Z11 l) (Nc x_4.1=Nc y.1∧Si (Ln (xL l)) (Jup x_4 y∧Sf l (Jg0 l∧Jgz l∧Jgx l∧Jgv l∧Jgw l∧Si (Jg l).1 (Si (Jg l).2.1 (Jr2 l x_4 y∧Jr1 l x_4 y∧Jr0 l x_4 y∧Jtw l x_4 y∧Jtu l x_4 y∧Jtt l x_4 y∧Jtr l x_4 y∧Jts l x_4 y∧Jdx l x_4 y∧Jtx l x_4 y∧Jdx l x_4 y∧Si (0:Int) (Sf J7 (J32 l x_4 y∧Kep l x_4 y∧J6n x_4 l=J6n y l∧Kav x_4 l=Kav y l)))))))∧K30 y l x0 x_4)) (∃(x0:Nat×Nat),Si (Z11 l) (Nc x_4.1=Nc x0.1∧Ln (Jg l).2.2.2.2.2.2=Ln (qL l)∧(0:Int)=Nc x0.2∧Sf l (Jg0 l∧Jgz l∧Jgx l∧Jgv l∧Jgw l∧Si (Jg l).1 (Si (Jg l).2.1 (Jr2 l x_4 x0∧Jr1 l x_4 x0∧Jr0 l x_4 x0∧Jtw l x_4 x0∧Jtu l x_4 x0∧Jtt l x_4 x0∧Jtr l x_4 x0∧Jts l x_4 x0∧Jdx l x_4 x0∧Jtx l x_4 x0∧Jdx l x_4 x0∧Si (0:Int) (J32 l x_4 x0∧Kep l x_4 x0∧J6n x_4 l=Z69 l x0∧List.length (J6f l x0)=(0:Nat)∧Kav x_4 l=Z77 l x0)))))∧(x0.2≤List.length (qL l)∧x0.1=x0.1)∧∀(x_5:Nat×Nat),x_5.2≤List.length (qL l)∧x0.1=x_5.1→Br (decide (Nc x_5.2<Ln (qL l))) (Tw (Bd (Nc x_5.2) (Ln (Jg l).2.2.2.2.2.2))∧Br (Option.getD (Ue Sch.str (Kq1 l x_5).2.1 (Z77 l x_5)) false) ((List.length (J6f l x_5)+(1:Nat))*(40:Nat)≤(140737488355328:Nat)∧Z36 x_5∧∃(y:Nat×Nat),Si (Z11 l) (Nc x_5.1=Nc y.1∧Si (Ln (qL l)) (Jup x_5 y∧Sf l (Jg0 l∧Jgz l∧Jgx l∧Jgv l∧Jgw l∧Si (Jg l).1 (Si (Jg l).2.1 (Jr2 l x_5 y∧Jr1 l x_5 y∧Jr0 l x_5 y∧Jtw l x_5 y∧Jtu l x_5 y∧Jtt l x_5 y∧Jtr l x_5 y∧Jts l x_5 y∧Jdx l x_5 y∧Jtx l x_5 y∧Jdx l x_5 y∧Si (0:Int) (J32 l x_5 y∧Kep l x_5 y∧Z69 l x_5=Z69 l y∧J6f l x_5++[((Kq1 l x_5).1,E2 (Kq1 l x_5).2)]=J6f l y∧Z77 l x_5=Z77 l y))))))∧K33 y l x0 x_5) (Z36 x_5∧∃(y:Nat×Nat),Si (Z11 l) (Nc x_5.1=Nc y.1∧Si (Ln (qL l)) (Jup x_5 y∧Sf l (Jg0 l∧Jgz l∧Jgx l∧Jgv l∧Jgw l∧Si (Jg l).1 (Si (Jg l).2.1 (Jr2 l x_5 y∧Jr1 l x_5 y∧Jr0 l x_5 y∧Jtw l x_5 y∧Jtu l x_5 y∧Jtt l x_5 y∧Jtr l x_5 y∧Jts l x_5 y∧Jdx l x_5 y∧Jtx l x_5 y∧Jdx l x_5 y∧Si (0:Int) (J32 l x_5 y∧Kep l x_5 y∧Z69 l x_5=Z69 l y∧J6f l x_5=J6f l y∧Z77 l x_5=Z77 l y))))))∧K33 y l x0 x_5)) ((List.length (Jg (Yx l x_5.1)).2.2.1≤(1000000:Nat)∧List.length (Z24 l x_5).1≤(1000000:Nat)∧List.length (Z49 l x_5).1≤(1000000:Nat)∧List.length (Z79 l x_5).1≤(1000000:Nat)∧List.length (Z79 l x_5).2≤(1000000:Nat)∧((Jg (Yx l x_5.1)).1,(Jg (Yx l x_5.1)).2.1,(Jg (Yx l x_5.1)).2.2.1,(Z24 l x_5).1,(Z49 l x_5).1,E2 (Z79 l x_5))=((Jg (Yx l x_5.1)).1,(0:Int),(Jg l).2.2.1,fO (oL l) (V5 l x_5.1).1,Klg l x_5,Z69 l x_5,J6f l x_5)∧List.length (Jg (Yx l x_5.1)).2.2.1≤(1000000:Nat)∧List.length (Z24 l x_5).1≤(1000000:Nat)∧List.length (Z49 l x_5).1≤(1000000:Nat)∧List.length (Z79 l x_5).1≤(1000000:Nat)∧List.length (Z79 l x_5).2≤(1000000:Nat))∧Br false Z82 (Iw (Nc x_5.1+(1:Int))∧∃(y:Nat),Si (Z11 l) (Nc x_5.1+(1:Int)=Nc y∧Ky1 l)∧y≤Z63 l∧Z63 l-y<Z63 l-x)))))))))) (Tw (true=true))))))=_).mp ?_
 delta Z7 Z11 Z24 Z28 Z36 Z38 Z49 Z63 Z69 Z73 Z74 Z75 Z77 Z79 Z82 Jg0 Jup Jr4 Jr2 Jpj Jgz Klg J7 Jr1 Jr0 Jc1 Jgx Jgw Jgv J6o J6n Kav Kat Fe Jdx Jtx J6f Kq1 J6e Kq0 Kk8 Jtw Jtu J32 Jtt Jts Jtr Jdo Kk2 K52 Kky K50 Kad Kep K5z K5x K5w K5s K5r K5q K5o K5m Kqa Kab K4r K4o K4l K4j K4i K4g K4d K4a K33 K30 K3z K3y Jza K1t K1q K1n K1m K1l Knk K1c K1a Kne K02 Knd K0y Km9 Km8 J90 Kzt Kzi Kzc Kzb J9y Ky1 Kmd Kyc Kx6 Kl8 Kxu Kxt Kxs Kxq Kxp Br Iw Bd T2 Tw Sf Si Ln Nc B0 Lb E2 Jh Jl
 refine⟨⟨by decide,fun _=>by decide⟩,fun _=>⟨rfl,rfl⟩,fun h=> ?_⟩
 have hb:=bn1 h
 obtain⟨hl,hlen,h0⟩:=Jtq (show J0p l 18=true by simpa using hb.1)
 have he:Fp (n,k,ns,vs,tx):=(Jew (by decide) (show Xh [(n,k,ns,vs,tx)] 1=true by simpa using hb.2)).1.2 _ (List.mem_singleton.2 rfl)
 have hr:=D0 (l:=l)
 have eU:((l++[(n,k,ns,vs,tx)]).length:Int)+1=(l.length:Int)+2:=by rw[List.length_append,List.length_singleton];push_cast;omega
 have hwu:({data:={toList:=[117,110,100,111]}}:ByteArray)=Jl:=rfl
 have hws:({data:={toList:=[115,101,116,116,108,101]}}:ByteArray)=Jh:=rfl
 have hbn:({data:={toList:=[]}}:ByteArray)=Jb:=rfl
 have hev:((0:Int),Jb,([]:List ByteArray),([]:List Int),Jb)=ev0:=rfl
 have hst:(Jb,(0:Int),(0:Int))=Jkv:=rfl
 simp only[eU,hwu,hws,hbn,hev,hst,Prod.eta]
 refine⟨hl,hl, ?_,fun h=> ?_,fun _=>⟨⟨⟨hl,he,fun _=>hl,fun _=>he⟩,fun hc=> ?_,fun _=>⟨(),by simp,trivial⟩⟩,fun _ _=> ?_⟩⟩
 ·repeat' first|exact trivial|exact Jo4 hr.nS (by decide)|exact Jo4 hr.nO (by decide)|exact Jo4 hr.nM (by decide)|exact Jo4 hr.nX (by decide)|exact Jo4 hr.nQ (by decide)|exact rfl|apply And.intro|intro _
 ·rw[h0] at h;cases h
 ·have ha:Ja0 l (n,k,ns,vs,tx)=0:=by
   cases q:Ja0 l (n,k,ns,vs,tx)==0 with
   |true=>exact eq_of_beq q
   |false=>rw[q] at hc;cases hc
  have hl2:lOk (l++[(n,k,ns,vs,tx)]++[((l.length:Int)+2,Jl,[],[],Jb)]):=Jj3 (Jj3 hl he (by omega)) J1m (by rw[List.length_append,List.length_singleton];omega)
  refine⟨by omega,⟨by omega,by rw[List.length_append,List.length_singleton];omega,hl2⟩,fun hs=> ?_,fun hs=> ?_⟩
  ·have hk:k=Jh:=Ye hs
   obtain⟨u1,u2⟩:=(Jle h0 (by omega) ha (by rw[hk];kernel_rfl)).1 hs
   simp only[u1,u2]
   exact⟨fun _=>by omega,fun h=>(by simp at h),fun _=>⟨(),by simp,trivial⟩⟩
  ·cases hu:k.toList==Jl.toList with
   |true=>
    simp only[Bool.not_true,cond_false,reduceCtorEq,false_and,false_implies,true_and,and_true,forall_const]
    exact⟨(),trivial⟩
   |false=>
    obtain⟨u1,u2⟩:=(Jle h0 (by omega) ha hu).2 hs
    simp only[u1,u2]
    refine⟨?_,fun h=>(by simp at h),fun _=>⟨(),by simp,trivial⟩⟩
    repeat' first|exact trivial|exact Jo4 hr.nS (by decide)|exact Jo4 hr.nO (by decide)|exact Jo4 hr.nM (by decide)|exact Jo4 hr.nX (by decide)|exact Jo4 hr.nQ (by decide)|exact rfl|apply And.intro|intro _
 refine⟨(0:Nat),by simp,Nat.zero_le _,fun(x:Nat) hx=>⟨fun h1=> ?_,fun _=>⟨trivial,trivial⟩⟩⟩
 have hlt:x<(Jg l).2.2.1.length:=by simpa using h1
 have hF:=Jnu (s:=(V5 l x).1) h0 (decide_eq_true (J7a hlt))
 have hE:Vl l (V5 l x).1=0:=hF.err
 have hln:(Yx l x).length≤l.length:=hF.len
 refine⟨by omega,hl,fun h2=> ?_,fun _=>⟨(x,(0:Nat)),by(repeat' first|exact rfl|exact⟨⟩|apply And.intro|omega|dsimp only;omega),⟨Nat.zero_le _,trivial⟩,fun(y:Nat×Nat) hy=>⟨fun h3=> ?_,fun h3=> ?_⟩⟩⟩
 ·rw[hE,decide_eq_false (show ¬((l.length:Int)<((Yx l x).length:Int)) by omega)] at h2
  cases h2
 ·obtain⟨k',j⟩:=y
  obtain⟨hj,hk'⟩:=hy
  have hk':x=k':=hk'
  subst hk'
  dsimp only at hj h3⊢
  have hjl:j<(Yx l x).length:=by simpa using h3
  have e1:((Yx l x).getD j ev0).1=(j:Int)+1:=hF.num j hjl
  obtain⟨e2,e3,e4⟩:=hF.kind _ (Je (d:=ev0) hjl)
  have e2:(((Yx l x).getD j ev0).2.1.toList==Jl.toList)=false:=e2
  have e3:(((Yx l x).getD j ev0).2.1.toList==Jh.toList)=false:=e3
  have e5:Ja0 ((Yx l x).take j) ((Yx l x).getD j ev0)=0:=hF.acc j hjl
  simp only[e1,e2,e3,e5,bne_self_eq_false,cond_false]
  have hlT:lOk ((Yx l x).take j):=⟨by rw[List.length_take];omega,fun e he=>Jq5 (hF.kind e (List.mem_of_mem_take he)).2.2⟩
  refine⟨by omega,⟨by omega,fun _=>by omega,fun _=>hlT,fun _=>Jq5 e4⟩,fun h=>(by cases h),fun _=>⟨by omega,(x,j+1),by simp,⟨by(first|omega|dsimp only;omega),rfl⟩,by(first|omega|dsimp only;omega)⟩⟩
 obtain⟨k',j⟩:=y
 obtain⟨hj,hk'⟩:=hy
 have hk':x=k':=hk'
 subst hk'
 have hlS:lOk (Yx l x):=⟨by omega,fun e he=>Jq5 (hF.kind e he).2.2⟩
 dsimp only
 clear h3 hj
 have hTw:Jx (Yx l x) (V5 l x).1=Yx l x∧Vl (Yx l x) (V5 l x).1=0:=hF.two
 have hrn:(Ja (Yx l x)).2.2=0:=hF.run
 obtain⟨i1,i2,i3⟩:=J7h h0
 have nS:=hr.nS
 have nO:=hr.nO
 have nM:=hr.nM
 have nX:=hr.nX
 have nQ:=hr.nQ
 have ho0:(Jb,Jb,Jb,((0:Int),(0:Int)),(0:Int),(0:Int),(0:Int))=Ki:=rfl
 have hm0:(Jb,(0:Int),(0:Int),(0:Int))=Jdt:=rfl
 have hx0:(Jb,Jb,((0:Int),(0:Int)),(0:Int))=Hp:=rfl
 have hq0:(Jb,Jb,false)=Fi:=rfl
 simp only[hTw.1,hTw.2,hrn,Jec Jlo,ho0,hm0,hx0,hq0]
 refine⟨hlS,hlS,⟨fun _=>by omega,fun _ e he=>by have:=Jq5 (hF.kind e he).2.2;exact⟨this.1,this.2.1⟩⟩,fun h=>(by simp at h),fun _=>⟨Jva,(x,(0:Nat)),by(repeat' first|exact rfl|exact⟨⟩|apply And.intro|omega|dsimp only;omega),⟨Nat.zero_le _,trivial⟩,fun(y:Nat×Nat) hy=> ?_⟩⟩
 obtain⟨k',j⟩:=y
 obtain⟨hj,hk'⟩:=hy
 have hk':x=k':=hk'
 subst hk'
 have hj:j≤(Jg l).2.2.2.1.length:=hj
 dsimp only
 refine⟨fun h3=> ?_,fun h3=> ?_⟩
 ·have hjl:j<(Jg l).2.2.2.1.length:=by simpa using h3
  have hz:(fO ((oL l).take j) (V5 l x).1).length≤32:=Jqj nO
  refine⟨by omega,fun h4=>⟨by omega,by omega,(x,j+1), ?_,⟨hjl,rfl⟩,Nat.sub_lt_sub_left hjl (Nat.lt_succ_self j)⟩,fun h4=>⟨by omega,(x,j+1), ?_,⟨hjl,rfl⟩,Nat.sub_lt_sub_left hjl (Nat.lt_succ_self j)⟩⟩
  ·obtain⟨e1,e2⟩:=Kgo (s:=(V5 l x).1) hjl h4
   repeat' first|exact trivial|exact rfl|exact e1.symm|exact e2.symm|apply And.intro
  ·have e1:=Kv1 (s:=(V5 l x).1) hjl h4
   repeat' first|exact trivial|exact rfl|exact e1.symm|(show nmO _ _=nmO _ _;unfold nmO;rw[e1])|apply And.intro
 have hjl:¬j<(Jg l).2.2.2.1.length:=by simpa using h3
 rw[show(oL l).take j=oL l from List.take_of_length_le (by show(Jg l).2.2.2.1.length≤j;omega)]
 refine⟨(x,(0:Nat)),by simp,⟨Nat.zero_le _,trivial⟩,fun(y:Nat×Nat) hy=> ?_⟩
 obtain⟨k',j⟩:=y
 obtain⟨hj,hk'⟩:=hy
 have hk':x=k':=hk'
 subst hk'
 have hj:j≤(Jg l).2.2.2.2.1.length:=hj
 dsimp only
 refine⟨fun h3=> ?_,fun h3=> ?_⟩
 ·have hjl:j<(Jg l).2.2.2.2.1.length:=by simpa using h3
  have hz:(fM (oL l) ((mL l).take j) (V5 l x).1).length≤10000:=Jqj nM
  have hmi:(Ue .str ((Jg l).2.2.2.2.1.getD j Jdt).1 (nmO (oL l) (V5 l x).1)).getD false=aM (oL l) (V5 l x).1 ((Jg l).2.2.2.2.1.getD j Jdt):=J7x i2 (i1 _ (Je (d:=Jdt) hjl))
  rw[hmi]
  refine⟨by omega,fun h4=>⟨by omega,by omega,(x,j+1), ?_,⟨hjl,rfl⟩,Nat.sub_lt_sub_left hjl (Nat.lt_succ_self j)⟩,fun h4=>⟨by omega,(x,j+1), ?_,⟨hjl,rfl⟩,Nat.sub_lt_sub_left hjl (Nat.lt_succ_self j)⟩⟩
  ·have e1:=Kgp (s:=(V5 l x).1) hjl h4
   repeat' first|exact trivial|exact rfl|exact e1.symm|apply And.intro
  ·have e1:=Kv2 (s:=(V5 l x).1) hjl h4
   repeat' first|exact trivial|exact rfl|exact e1.symm|apply And.intro
 have hjl:¬j<(Jg l).2.2.2.2.1.length:=by simpa using h3
 rw[show(mL l).take j=mL l from List.take_of_length_le (by show(Jg l).2.2.2.2.1.length≤j;omega)]
 refine⟨Jva,(x,(0:Nat)),by(repeat' first|exact rfl|exact⟨⟩|apply And.intro|omega|dsimp only;omega),⟨Nat.zero_le _,trivial⟩,fun(y:Nat×Nat) hy=> ?_⟩
 obtain⟨k',j⟩:=y
 obtain⟨hj,hk'⟩:=hy
 have hk':x=k':=hk'
 subst hk'
 have hj:j≤(Jg l).2.2.2.2.2.1.length:=hj
 dsimp only
 refine⟨fun h3=> ?_,fun h3=> ?_⟩
 ·have hjl:j<(Jg l).2.2.2.2.2.1.length:=by simpa using h3
  have hz:(fX ((xL l).take j) (V5 l x).1).length≤16:=Jqj nX
  refine⟨by omega,fun h4=>⟨by omega,by omega,(x,j+1), ?_,⟨hjl,rfl⟩,Nat.sub_lt_sub_left hjl (Nat.lt_succ_self j)⟩,fun h4=>⟨by omega,(x,j+1), ?_,⟨hjl,rfl⟩,Nat.sub_lt_sub_left hjl (Nat.lt_succ_self j)⟩⟩
  ·obtain⟨e1,e2⟩:=Kgm (s:=(V5 l x).1) hjl h4
   repeat' first|exact trivial|exact rfl|exact e1.symm|exact e2.symm|apply And.intro
  ·have e1:=Kvz (s:=(V5 l x).1) hjl h4
   repeat' first|exact trivial|exact rfl|exact e1.symm|(show nmX _ _=nmX _ _;unfold nmX;rw[e1])|apply And.intro
 have hjl:¬j<(Jg l).2.2.2.2.2.1.length:=by simpa using h3
 rw[show(xL l).take j=xL l from List.take_of_length_le (by show(Jg l).2.2.2.2.2.1.length≤j;omega)]
 refine⟨(x,(0:Nat)),by simp,⟨Nat.zero_le _,trivial⟩,fun(y:Nat×Nat) hy=> ?_⟩
 obtain⟨k',j⟩:=y
 obtain⟨hj,hk'⟩:=hy
 have hk':x=k':=hk'
 subst hk'
 have hj:j≤(Jg l).2.2.2.2.2.2.length:=hj
 dsimp only
 refine⟨fun h3=> ?_,fun h3=> ?_⟩
 ·have hjl:j<(Jg l).2.2.2.2.2.2.length:=by simpa using h3
  have hz:(fQ (xL l) ((qL l).take j) (V5 l x).1).length≤16:=Jqj nQ
  have hmi:(Ue .str ((Jg l).2.2.2.2.2.2.getD j Fi).2.1 (nmX (xL l) (V5 l x).1)).getD false=aQ (xL l) (V5 l x).1 ((Jg l).2.2.2.2.2.2.getD j Fi):=Jxw i3 (hr.per _ (Je (d:=Fi) hjl))
  rw[hmi]
  refine⟨by omega,fun h4=>⟨by omega,by omega,(x,j+1), ?_,⟨hjl,rfl⟩,Nat.sub_lt_sub_left hjl (Nat.lt_succ_self j)⟩,fun h4=>⟨by omega,(x,j+1), ?_,⟨hjl,rfl⟩,Nat.sub_lt_sub_left hjl (Nat.lt_succ_self j)⟩⟩
  ·have e1:=Kgn (s:=(V5 l x).1) hjl h4
   repeat' first|exact trivial|exact rfl|exact e1.symm|apply And.intro
  ·have e1:=Kv0 (s:=(V5 l x).1) hjl h4
   repeat' first|exact trivial|exact rfl|exact e1.symm|apply And.intro
 have hjl:¬j<(Jg l).2.2.2.2.2.2.length:=by simpa using h3
 rw[show(qL l).take j=qL l from List.take_of_length_le (by show(Jg l).2.2.2.2.2.2.length≤j;omega)]
 have hs:=D0 (l:=Yx l x)
 obtain⟨u,hu⟩:=hF.reg
 have hu:Jg (Yx l x)=Vo (V5 l x).1 u (Jg l):=hu
 have hq:Jg (Yx l x)=((Jg (Yx l x)).1,0,(Jg l).2.2.1,fO (oL l) (V5 l x).1,fM (oL l) (mL l) (V5 l x).1,fX (xL l) (V5 l x).1,fQ (xL l) (qL l) (V5 l x).1):=by
  have e:(Jg (Yx l x)).1=u:=by rw[hu];rfl
  rw[e];exact hu
 refine⟨?_,fun h=>(by cases h),fun _=>⟨by omega,(x+1:Nat),⟨trivial,by push_cast;rfl,by simp⟩,hlt,by omega⟩⟩
 repeat' first|exact hq|exact Jo4 hs.nS (by decide)|exact Jo4 hs.nO (by decide)|exact Jo4 hs.nM (by decide)|exact Jo4 hs.nX (by decide)|exact Jo4 hs.nQ (by decide)|apply And.intro
end Go.Proofs.YtcibbcfiemeoiaaGreatDoor

/- The law walked: part of the proof. -/
import Derived.Test.YtcibbcfiemeoiaaGreatDoorFC
set_option linter.unusedSimpArgs false
set_option linter.unusedVariables false
set_option maxRecDepth 20000
namespace Go.Proofs.YtcibbcfiemeoiaaGreatDoor
open Go.Sx
set_option maxHeartbeats 20000000
theorem Jpj:∀{G:List Reg} {t:Int} {o:Reg},(∀r∈G,Jj r)→Jj o→Jj (Ly G t o)
 |[],_,_,_,ho=>ho
 |r::G,t,o,hG,ho=>by
  unfold Ly
  refine Jpj (fun x hx=>hG x (List.mem_cons_of_mem _ hx)) ?_
  cases decide (r.1≤t) with
  |true=>exact hG r (List.mem_cons_self ..)
  |false=>exact ho
theorem J49 {l:List Ev} {t:Int}:Jj (Xs l t):=by
 have h0:Jj K5:=Yq Vh.ok
 unfold Xs
 by_cases h:Yk l t=0
 ·rw[if_pos h];exact Jpj L8.ok.reg h0
 ·rw[if_neg h];exact h0
theorem big {a b:Nat} (h:a≤b) (h2:b≤1000000):a≤1000000:=Nat.le_trans h h2
def Kb1:Con:={args:=[.val false (.list 67 sEv),aEv,aI],ress:=[Bo],owns:=[],pre:=fun _=>[],spec:=fun _=>(true,())}
def Kwl (a:List Ev) (b:Int):=((Xs a b).1,(Xs a b).2.1,(Xs a b).2.2.1,(Xs a b).2.2.2.1,(Xs a b).2.2.2.2.1,E2 (Xs a b).2.2.2.2.2)
def Kv3 (a:Int) (b:Bt) (c:Ls) (d:Li) (e:Bt) (f:List Ev):=bif bif Z63 a b c d e==Z63 a b c d e then(Ja f).2.2==(Ja f).2.2 else false then(Ja f).2.1==(Ja f).2.1 else false
def J50 (a:Int) (b:Bt) (c:Ls) (d:Li) (e:Bt) (f:List Ev):=Kv3 a b c d e f=true
def Kvc (a:Int) (b:Bt) (c:Ls) (d:Li) (e:Bt) (f:List Ev):=bif Kv3 a b c d e f then true else false
def Ku5 (a:Int) (b:Bt) (c:Ls) (d:Li) (e:Bt) (f:List Ev):=Kvc a b c d e f=true
def Kus (a:Int) (b:Bt) (c:Ls) (d:Li) (e:Bt) (f:List Ev):=Ku5 a b c d e f→lOk f
def Kuo (a:Int) (b:Bt) (c:Ls) (d:Li) (e:Bt) (f:List Ev):=J50 a b c d e f→List.length (Jx f).2.2.1≤1000000
def Kum (a:Int) (b:Bt) (c:Ls) (d:Li) (e:Bt) (f:List Ev):=J50 a b c d e f→List.length (Jx f).2.2.2.1≤1000000
def Kul (a:Int) (b:Bt) (c:Ls) (d:Li) (e:Bt) (f:List Ev):=J50 a b c d e f→List.length (Jx f).2.2.2.2.1≤1000000
def Kuk (a:Int) (b:Bt) (c:Ls) (d:Li) (e:Bt) (f:List Ev):=J50 a b c d e f→List.length (Jx f).2.2.2.2.2.1≤1000000
def Kuj (a:Int) (b:Bt) (c:Ls) (d:Li) (e:Bt) (f:List Ev):=J50 a b c d e f→List.length (Jx f).2.2.2.2.2.2≤1000000
def Kug (a:Int) (b:Bt) (c:Ls) (d:Li) (e:Bt) (f:List Ev):=Ku5 a b c d e f→Jao (a,b,c,d,e)
def Ktw (a:Int) (b:Bt) (c:Ls) (d:Li) (e:Bt) (f:List Ev) (g:Int):=bif bif Kvc a b c d e f then Jg9 f (a,b,c,d,e)==Jg9 f (a,b,c,d,e) else false then Yk f g==Yk f g else false
def J5x (a:Int) (b:Bt) (c:Ls) (d:Li) (e:Bt) (f:List Ev) (g:Int):=Ktw a b c d e f g=true
def Ktb (a:Int) (b:Bt) (c:Ls) (d:Li) (e:Bt) (f:List Ev) (g:Int):=J5x a b c d e f g→List.length (Xs f g).2.2.1≤1000000
def Kta (a:Int) (b:Bt) (c:Ls) (d:Li) (e:Bt) (f:List Ev) (g:Int):=J5x a b c d e f g→List.length (Xs f g).2.2.2.1≤1000000
def Ks7 (a:Int) (b:Bt) (c:Ls) (d:Li) (e:Bt) (f:List Ev) (g:Int):=J5x a b c d e f g→List.length (Xs f g).2.2.2.2.1≤1000000
def Ks6 (a:Int) (b:Bt) (c:Ls) (d:Li) (e:Bt) (f:List Ev) (g:Int):=J5x a b c d e f g→List.length (Xs f g).2.2.2.2.2.1≤1000000
def Ks5 (a:Int) (b:Bt) (c:Ls) (d:Li) (e:Bt) (f:List Ev) (g:Int):=J5x a b c d e f g→List.length (Xs f g).2.2.2.2.2.2≤1000000
theorem ok11:Ok Tryz.prog 11 Kb1:=okW K6d Tryz.f11 na fun xx=>by
 obtain⟨(l:List Ev),⟨(n:Int),(k:ByteArray),(ns:List ByteArray),(vs:List Int),(tx:ByteArray)⟩,(t:Int),_⟩:=xx
 refine(by kernel_rfl:(((24:Int)≤1000000∧((!Xj l 24)=false→(1:Int)≤1000000))∧Br (bif !Xj l 24 then true else !Xj [(n,k,ns,vs,tx)] 1) (true=true) (T2 (lOk l) (T2 (lOk l) ((Dl ns∧Z56 vs∧Jco ns∧Dl ns∧Z56 vs∧Jco ns∧Kuo n k ns vs tx l∧Kum n k ns vs tx l∧Kul n k ns vs tx l∧Kuk n k ns vs tx l∧Kuj n k ns vs tx l∧(J50 n k ns vs tx l→Jxr l=Jxr l)∧Kuo n k ns vs tx l∧Kum n k ns vs tx l∧Kul n k ns vs tx l∧Kuk n k ns vs tx l∧Kuj n k ns vs tx l∧Kus n k ns vs tx l∧Kug n k ns vs tx l∧Kus n k ns vs tx l∧Kug n k ns vs tx l∧Ktb n k ns vs tx l t∧Kta n k ns vs tx l t∧Ks7 n k ns vs tx l t∧Ks6 n k ns vs tx l t∧Ks5 n k ns vs tx l t∧(J5x n k ns vs tx l t→Kwl l t=Kwl l t)∧Ktb n k ns vs tx l t∧Kta n k ns vs tx l t∧Ks7 n k ns vs tx l t∧Ks6 n k ns vs tx l t∧Ks5 n k ns vs tx l t)∧(bif bif Ktw n k ns vs tx l t then true else false then true else false)=true))))=_).mp ?_
 delta Z56 Z63 Dl Jdi Jco Jxr Kwl Kv3 J50 Kvc Ku5 Kus Kuo Kum Kul Kuk Kuj Kug Ktw J5x Ktb Kta Ks7 Ks6 Ks5 Br T2 E2
 refine⟨⟨by decide,fun _=>by decide⟩,fun _=>rfl,fun h=> ?_⟩
 have hb:=bn1 h
 have hl:=(Jkc (by decide) (show Xj l 24=true by simpa using hb.1)).1
 have hz:=(Jkc (by decide) (show Xj [(n,k,ns,vs,tx)] 1=true by simpa using hb.2)).1.2 _ (List.mem_singleton.2 rfl)
 have hr:=Jbe (l:=l)
 have ha:=J49 (l:=l) (t:=t)
 simp only[BEq.rfl,cond_true]
 repeat' first|exact hl|exact hz|exact hz.1|exact hz.2.1|exact hz.2.2|exact big hr.nS (by decide)|exact big hr.nO (by decide)|exact big hr.nM (by decide)|exact big hr.nX (by decide)|exact big hr.nQ (by decide)|exact big ha.nS (by decide)|exact big ha.nO (by decide)|exact big ha.nM (by decide)|exact big ha.nX (by decide)|exact big ha.nQ (by decide)|exact rfl|apply And.intro|intro _
 all_goals trivial
end Go.Proofs.YtcibbcfiemeoiaaGreatDoor

/- The law walked: part of the proof. -/
import Derived.Test.YtcibbcfiemeoiaaGreatDoorFC
set_option linter.unusedSimpArgs false
set_option linter.unusedVariables false
set_option maxRecDepth 20000
namespace Go.Proofs.YtcibbcfiemeoiaaGreatDoor
open Go.Sx
set_option maxHeartbeats 20000000
theorem Jm2 (e:Ev):Y9 e e=true:=by
 unfold Y9 Jz3
 rw[Jdo Jre,Jdo Jrd]
 simp
theorem K1p {r:Reg} {s:ByteArray}:(!Vi r 0 s)=decide (Jy r.2.2.1 s<0):=by
 rw[Jfa]
 by_cases h:0≤Jy r.2.2.1 s
 ·rw[decide_eq_true h,decide_eq_false (by omega)];rfl
 ·rw[decide_eq_false h,decide_eq_true (by omega)];rfl
theorem K4b {l:List Ev}:opE l []=(Je l).2.2:=by
 unfold opE
 by_cases h:(Je l).2.2=0
 ·rw[if_pos h,h];rfl
 ·rw[if_neg h]
theorem K7v {l:List Ev} {a:ByteArray}:opE l [a]=Jg [(Je l).2.2,bif decide (Jy (Ji l).2.2.1 a<0) then 10 else 0]:=by
 unfold opE
 by_cases h:(Je l).2.2=0
 ·rw[if_pos h,h]
  simp only[List.map_cons,List.map_nil,K1p]
  rfl
 ·rw[if_neg h]
  show _=if(Je l).2.2=0 then _ else(Je l).2.2
  rw[if_neg h]
theorem K6l {c:Bool} {v:Int} (h:(bif c then v else 0)=0) (hv:v≠0):c=false:=by
 cases c with
 |false=>rfl
 |true=>exact absurd h hv
theorem Jzs {l:List Ev} {h:Int}:Jg [(Je l).2.2,bif Yi h 0 999999999 then 3 else 0,bif decide ((Ji l).2.1≤h) then 22 else 0]=F6 l h:=by unfold F6;rw[K4b,Zc]
theorem Jtl {l:List Ev} {s:ByteArray}:Jg [(Je l).2.2,bif decide (Jy (Ji l).2.2.1 s<0) then 10 else 0]=V6 l s:=by
 unfold V6
 rw[K1p]
 by_cases h:(Je l).2.2=0
 ·rw[h];rfl
 ·unfold Jg;rw[if_neg h,if_neg h]
theorem Jtk {l:List Ev} {s:ByteArray} (h:V6 l s=0):Vu l s=Jrg l s:=by
 have h0:(Je l).2.2=0:=by unfold V6 at h;exact(Xp h).1
 unfold Vu Jrg Ya Vp
 rw[if_pos h,if_pos h0]
theorem Jop {l:List Ev} {s:ByteArray} (h:V6 l s≠0):Vu l s=[]:=by unfold Vu;rw[if_neg h]
theorem Jk3:∀{L:List Ev} {i:Nat} {x:Ev},x∈Vr L i→∃e∈L,x.2=e.2
 |[],_,_,h=>by cases h
 | e :: L, i, x, h => by
  unfold Vr at h
  rcases List.mem_cons.1 h with h|h
  ·exact⟨e,List.mem_cons_self ..,by rw[h]⟩
  ·obtain⟨y,a,b⟩:=Jk3 h
   exact⟨y,List.mem_cons_of_mem _ a,b⟩
theorem Jyv {l:List Ev} {s:ByteArray} (hl:lOk l):(Vu l s).length≤1000000∧∀x∈Vu l s,x.2.2.1.length≤1000000∧x.2.2.2.1.length≤1000000:=by
 by_cases h:V6 l s=0
 ·have e:Vu l s=Vr (Ya l s) 0:=by unfold Vu;rw[if_pos h]
  have hi:=(Jaq (l:=l)).ok
  have h1:=hi.nC
  have h2:=hi.nE
  have h3:(Ya l s).length≤(Je l).1.2.1.length:=List.length_filter_le _ _
  rw[e]
  refine⟨by rw[Xg];omega,fun x hx=> ?_⟩
  obtain⟨y,a,b⟩:=Jk3 hx
  have:=hl.2 y (Jg7 _ (List.mem_filter.1 a).1)
  rw[b]
  exact⟨this.1,this.2.1⟩
 ·rw[Jop h];exact⟨Nat.zero_le _,fun _ h=>(by cases h)⟩
def Kqr:Con:={args:=[.val false (.list 67 sEv),aS,aI],ress:=[Bo],owns:=[],pre:=fun _=>[],spec:=fun _=>(true,())}
def K02 (a:List Ev) (b:Int):=D0 (Ji a).2.2.2.2.1 b (Ji a).2.2.2.1 Z65
def K00 (a:List Ev) (b:Int):=(K02 a b).2
def Ky4 (a:List Ev) (b:Bt):=Jg [(Je a).2.2,bif decide (Jy (Ji a).2.2.1 b<0) then 10 else 0]
def Kxl (a:List Ev) (b:Bt):=Ky4 a b==0
def Ked (a:List Ev) (b:Bt):=V6 a b==Ky4 a b
def Kwq (a:List Ev) (b:Bt):=∀(x:Ev),x∈Vu a b→J59 x
def Kwn (a:List Ev) (b:Int):=Jg [(Je a).2.2,bif Yi b 0 999999999 then 3 else 0,bif decide ((Ji a).2.1≤b) then 22 else 0]
def Kv1 (a:List Ev) (b:Int):=F6 a b==Kwn a b
def Kgv (a:List Ev) (b:Int):=bif (F5 a b).1==0&&((F5 a b).2.1==0&&((F5 a b).2.2==0&&true)) then Kv1 a b else false
def Kub (a:List Ev) (b:Int):=Kgv a b=true
def Kgh (a:List Ev) (b:Int):=bif (F5 a b).1==(K02 a b).1&&((F5 a b).2.1==(K00 a b).1&&((F5 a b).2.2==(K00 a b).2&&true)) then Kv1 a b else false
def Ks5 (a:List Ev) (b:Int):=Kgh a b=true
def J7v (a:List Ev) (b:Int) (c:Bt):=(Kub a b→List.length (Vu a c)≤1000000)∧(Kub a b→Kwq a c)
def J7i (a:List Ev) (b:Int) (c:Bt):=(Ks5 a b→List.length (Vu a c)≤1000000)∧(Ks5 a b→Kwq a c)
theorem ok3:Ok Tryz.prog 3 Kqr:=okW K6o Tryz.f3 na fun xx=>by
 obtain⟨(l:List Ev),(s:ByteArray),(h:Int),_⟩:=xx
 refine(by kernel_rfl:((24:Int)≤1000000∧Br (bif !Hc l 24 then true else decide (40<Nc (ByteArray.size s))) (true=true) (lOk l∧T2 (lOk l) (3≤1000000∧(List.length (Ji l).2.2.1≤1000000∧2≤1000000)∧Br (Kwn l h==0) ((Jx9 l∧h<(Ji l).2.1)∧Br (Kxl l s) (lOk l∧J7i l h s∧(bif bif bif Kgh l h then eqL Y9 (Vu l s) (Jrg l s) else false then Ked l s else false then true else false)=true) (J7i l h s∧(bif bif bif Kgh l h then eqL Y9 (Vu l s) [] else false then Ked l s else false then true else false)=true)) (Br (Kxl l s) (lOk l∧J7v l h s∧(bif bif bif Kgv l h then eqL Y9 (Vu l s) (Jrg l s) else false then Ked l s else false then true else false)=true) (J7v l h s∧(bif bif bif Kgv l h then eqL Y9 (Vu l s) [] else false then Ked l s else false then true else false)=true)))))=_).mp ?_
 delta Z65 K02 K00 J59 Ky4 Kxl J2y Ked Jx9 Kwq Kwn Kv1 Kgv Kub Kgh Ks5 J7v J7i Br T2 Nc E2
 refine⟨by decide,fun _=>rfl,fun h1=> ?_⟩
 have hb:=bn1 h1
 have hl:=(Jtu (by decide) (show Hc l 24=true by simpa using hb.1)).1
 have hr:=Fw (l:=l)
 have nS:(Ji l).2.2.1.length≤1000000:=Nat.le_trans hr.nS (by decide)
 have hs:=Jyv (s:=s) hl
 have hh:F6 l h=0→h<(Ji l).2.1:=fun q=>by
  have q:=of_decide_eq_false (K6l (F9 q).2.2 (by decide));omega
 have hev:∀l:List Ev,eqL Y9 l l=true:=Jdo Jm2
 simp only[Jzs,Jtl,Prod.eta]
 repeat' first|exact hl|exact hr|exact nS|exact hs.1|exact hs.2|exact hh (by simpa using ‹(F6 l h==0)=true›)|apply And.intro|intro _
 all_goals first|decide|(simp only[beq_iff_eq,beq_eq_false_iff_ne] at*;(first|rw[Jtk ‹_›]|rw[Jop ‹_›]);first|(simp[F5,hev, *];done))
end Go.Proofs.YtcibbcfiemeoiaaGreatDoor

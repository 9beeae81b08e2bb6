/- The law walked: part of the proof. -/
import Derived.Test.YtcibbcfiemeoiaaGreatDoorFC
set_option linter.unusedSimpArgs false
set_option linter.unusedVariables false
set_option maxRecDepth 20000
namespace Go.Proofs.YtcibbcfiemeoiaaGreatDoor
open Go.Sx
set_option maxHeartbeats 20000000
theorem Jkx (x:Gap):Xc x x=true:=by unfold Xc;simp
theorem K5x {r:Reg} {s:ByteArray}:(!Vf r 0 s)=decide (Jx r.2.2.1 s<0):=by
 rw[Je8]
 by_cases h:0≤Jx r.2.2.1 s
 ·rw[decide_eq_true h,decide_eq_false (by omega)];rfl
 ·rw[decide_eq_false h,decide_eq_true (by omega)];rfl
theorem K4f {l:List Ev}:opE l []=(Jg l).2.2:=by
 unfold opE
 by_cases h:(Jg l).2.2=0
 ·rw[if_pos h,h];rfl
 ·rw[if_neg h]
theorem K4e {l:List Ev} {a:ByteArray}:opE l [a]=Jf [(Jg l).2.2,bif decide (Jx (Jo l).2.2.1 a<0) then 10 else 0]:=by
 unfold opE
 by_cases h:(Jg l).2.2=0
 ·rw[if_pos h,h]
  simp only[List.map_cons,List.map_nil,K5x]
  rfl
 ·rw[if_neg h]
  show _=if(Jg l).2.2=0 then _ else(Jg l).2.2
  rw[if_neg h]
theorem Jt1 {l:List Ev} {s:ByteArray} {h:Int}:Jf [opE l [s],bif V0 h 0 999999999 then 3 else 0]=Fy l s h:=by unfold Fy;rw[Xp]
theorem Jzj {l:List Ev} {h:Int}:Jf [(Jg l).2.2,bif V0 h 0 999999999 then 3 else 0]=Jc5 l h:=by unfold Jc5;rw[K4f,Xp]
theorem Jzh {l:List Ev} {h:Int}:(Xl l h).1.length≤1000000:=by
 unfold Xl
 by_cases a:Jc5 l h=0
 ·rw[if_pos a]
  by_cases b:256<(Ke (Jo l).2.2.2.2.1 h (Jo l).2.2.2.1).length
  ·rw[if_pos b];exact Nat.zero_le _
  ·rw[if_neg b];dsimp only;omega
 ·rw[if_neg a];exact Nat.zero_le _
theorem Jup {l:List Ev} {h:Int} (a:Jc5 l h=0) (b:decide ((256:Int)<(Ke (Jo l).2.2.2.2.1 h (Jo l).2.2.2.1).length)=true):Xl l h=([],5):=by
 have b:=of_decide_eq_true b
 unfold Xl
 rw[if_pos a,if_pos (by omega)]
theorem Jzi {l:List Ev} {h:Int} (a:Jc5 l h=0) (b:decide ((256:Int)<(Ke (Jo l).2.2.2.2.1 h (Jo l).2.2.2.1).length)=false):Xl l h=(Ke (Jo l).2.2.2.2.1 h (Jo l).2.2.2.1,0):=by
 have b:=of_decide_eq_false b
 unfold Xl
 rw[if_pos a,if_neg (by omega)]
theorem J35 {l:List Ev} {h:Int} (a:Jc5 l h≠0):Xl l h=([],Jc5 l h):=by
 unfold Xl
 rw[if_neg a]
theorem Kca {l:List Ev} {s:ByteArray} (h:opE l [s]=0):Jp4 (Jo l).2.1 (Jo l).2.2.2.2.2.1 s=(avP l s,avE l s):=by
 have hr:=Dg (l:=l)
 unfold Jp4 avP
 by_cases q:(Jo l).2.1=0
 ·have e:avE l s=6:=by unfold avE;rw[h,q];rfl
  rw[if_pos q,e];rfl
 ·have e:avE l s=0:=by unfold avE;rw[h,beq_false_of_ne q];rfl
  rw[if_neg q,e,if_pos rfl,Krp hr.st.1 hr.out]
theorem Kcb {l:List Ev} {s:ByteArray} (h:opE l [s]≠0):avP l s=(0,0)∧avE l s=opE l [s]:=by
 have e:avE l s=opE l [s]:=by unfold avE Jf;rw[if_neg h]
 exact⟨by unfold avP;rw[if_neg (by rw[e];exact h)],e⟩
def Kq7:Con:={args:=[.val false (.list 67 sEv),aS,aI],ress:=[Bo],owns:=[],pre:=fun _=>[],spec:=fun _=>(true,())}
def J6q (a:List Ev) (b:Bt):=avE a b==(Jp4 (Jo a).2.1 (Jo a).2.2.2.2.2.1 b).2
def J6j (a:List Ev) (b:Bt):=(avP a b).1==0&&((avP a b).2==0&&true)
def K07 (a:Int):=[bif V0 a (0:Int) (999999999:Int) then(3:Int) else(0:Int)]
def K03 (a:List Ev) (b:Int):=eqL Xc (Xl a b).1 Z43
def Kz9 (a:List Ev) (b:Int):=eqL Xc (Xl a b).1 (Kfu a b)
def Kz6 (a:List Ev) (b:Int):=Jf ((Jg a).2.2::K07 b)
def Kzi (a:List Ev) (b:Int):=Kz6 a b==0
def Kjf (a:List Ev) (b:Bt):=Jf [(Jg a).2.2,bif decide (Jx (Jo a).2.2.1 b<0) then 10 else 0]
def Key (a:List Ev) (b:Int):=(Xl a b).2==Kz6 a b
def J6a (a:List Ev) (b:Bt):=Kjf a b==0
def J59 (a:List Ev) (b:Bt):=avE a b==Kjf a b
def J58 (a:List Ev) (b:Bt):=(avP a b).1==(Jp4 (Jo a).2.1 (Jo a).2.2.2.2.2.1 b).1.1&&((avP a b).2==(Jp4 (Jo a).2.1 (Jo a).2.2.2.2.2.1 b).1.2&&true)
def Kvo (a:List Ev) (b:Bt) (c:Int):=Jf (Kjf a b::K07 c)
def Ku8 (a:List Ev) (b:Bt) (c:Int):=Fy a b c==Kvo a b c
def Kg5 (a:List Ev) (b:Bt) (c:Int):=bif Jk1 a b c==0 then Ku8 a b c else false
def Kg2 (a:List Ev) (b:Bt) (c:Int):=bif Jk1 a b c==Xd (Jo a).2.2.1 (Jo a).2.2.2.1 (Jo a).2.2.2.2.2.1 b c then Ku8 a b c else false
def J54 (a:List Ev) (b:Bt) (c:Int):=Tw (Kg5 a b c=true→List.length (Xl a c).1≤1000000)
def Kt9 (a:List Ev) (b:Bt) (c:Int):=bif Kg5 a b c then K03 a c else false
def J53 (a:List Ev) (b:Bt) (c:Int):=Tw (Kg2 a b c=true→List.length (Xl a c).1≤1000000)
def Kty (a:List Ev) (b:Bt) (c:Int):=bif Kt9 a b c then(Xl a c).2==5 else false
def Ktv (a:List Ev) (b:Bt) (c:Int):=bif Kg2 a b c then K03 a c else false
def Ktp (a:List Ev) (b:Bt) (c:Int):=bif Ktv a b c then(Xl a c).2==5 else false
def Ktm (a:List Ev) (b:Bt) (c:Int):=bif Kt9 a b c then Key a c else false
def Ktj (a:List Ev) (b:Bt) (c:Int):=bif bif Kg5 a b c then Kz9 a c else false then Key a c else false
def Ktg (a:List Ev) (b:Bt) (c:Int):=bif Ktv a b c then Key a c else false
def Kte (a:List Ev) (b:Bt) (c:Int):=bif bif Kg2 a b c then Kz9 a c else false then Key a c else false
theorem ok4:Ok Tryz.prog 4 Kq7:=okW K6p Tryz.f4 na fun xx=>by
 obtain⟨(l:List Ev),(s:ByteArray),(h:Int),_⟩:=xx
 refine(by kernel_rfl:((24:Int)≤1000000∧Br (bif !Ha l 24 then true else decide (40<Nc (ByteArray.size s))) (true=true) (T2 (lOk l) (T2 (lOk l) ((List.length (Jo l).2.2.1≤1000000∧2≤1000000)∧Tw (2≤1000000)∧Br (Kvo l s h==0) (Khu l s∧Br (Kzi l h) (Jj1 l∧Br (Kff l h) (Br (J6a l s) (Jj1 l∧J53 l s h∧(bif bif bif Ktp l s h then J58 l s else false then J6q l s else false then true else false)=true) (J53 l s h∧(bif bif bif Ktp l s h then J6j l s else false then J59 l s else false then true else false)=true)) (Br (J6a l s) (Jj1 l∧J53 l s h∧(bif bif bif Kte l s h then J58 l s else false then J6q l s else false then true else false)=true) (J53 l s h∧(bif bif bif Kte l s h then J6j l s else false then J59 l s else false then true else false)=true))) (Br (J6a l s) (Jj1 l∧J53 l s h∧(bif bif bif Ktg l s h then J58 l s else false then J6q l s else false then true else false)=true) (J53 l s h∧(bif bif bif Ktg l s h then J6j l s else false then J59 l s else false then true else false)=true))) (Br (Kzi l h) (Jj1 l∧Br (Kff l h) (Br (J6a l s) (Jj1 l∧J54 l s h∧(bif bif bif Kty l s h then J58 l s else false then J6q l s else false then true else false)=true) (J54 l s h∧(bif bif bif Kty l s h then J6j l s else false then J59 l s else false then true else false)=true)) (Br (J6a l s) (Jj1 l∧J54 l s h∧(bif bif bif Ktj l s h then J58 l s else false then J6q l s else false then true else false)=true) (J54 l s h∧(bif bif bif Ktj l s h then J6j l s else false then J59 l s else false then true else false)=true))) (Br (J6a l s) (Jj1 l∧J54 l s h∧(bif bif bif Ktm l s h then J58 l s else false then J6q l s else false then true else false)=true) (J54 l s h∧(bif bif bif Ktm l s h then J6j l s else false then J59 l s else false then true else false)=true)))))))=_).mp ?_
 delta Z43 Kfu J6q J6j K07 Kff K03 Kz9 Kz6 Kzi Kjf Key J6a J59 J0z Jj1 J58 Khu Kvo Ku8 Kg5 Kg2 J54 Kt9 J53 Kty Ktv Ktp Ktm Ktj Ktg Kte Br T2 Tw Ln Nc E2
 refine⟨by decide,fun _=>rfl,fun h1=> ?_⟩
 have hb:=bn1 h1
 have hl:=(Jtr (by decide) (show Ha l 24=true by simpa using hb.1)).1
 have hr:=Dg (l:=l)
 have nS:(Jo l).2.2.1.length≤1000000:=Nat.le_trans hr.nS (by decide)
 have hm:=Jzh (l:=l) (h:=h)
 have hs:opE l [s]=0→0≤Jx (Jo l).2.2.1 s:=J14
 have hs2:Fy l s h=0→opE l [s]=0:=fun q=>(Xm q).1
 have hg:∀l:List Gap,eqL Xc l l=true:=Jps Jkx
 simp only[←K4e,Jt1,Jzj,Prod.eta]
 repeat' first|exact hl|exact hr|exact nS|exact hm|exact hs (hs2 (by simpa using ‹(Fy l s h==0)=true›))|apply And.intro|intro _
 all_goals first|decide|(simp only[beq_iff_eq,beq_eq_false_iff_ne] at*;(first|rw[Kca ‹_›]|rw[(Kcb ‹_›).1,(Kcb ‹_›).2]);(first|rw[Jup ‹_› ‹_›]|rw[Jzi ‹_› ‹_›]|rw[J35 ‹_›]);first|(simp[Jk1,hg, *];done))
end Go.Proofs.YtcibbcfiemeoiaaGreatDoor

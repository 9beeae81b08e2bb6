/- The law walked: part of the proof. -/
import Derived.Test.YtcibbcfiemeoiaaGreatDoorFC
set_option linter.unusedSimpArgs false
set_option linter.unusedVariables false
set_option maxRecDepth 20000
namespace Go.Proofs.YtcibbcfiemeoiaaGreatDoor
open Go.Sx
set_option maxHeartbeats 20000000
theorem Jit (x:Hl):Yc x x=true:=by unfold Yc;simp
theorem K2w {r:Reg} {s:ByteArray}:(!Ve r 0 s)=decide (Jx r.2.2.1 s<0):=by
 rw[Je6]
 by_cases h:0≤Jx r.2.2.1 s
 ·rw[decide_eq_true h,decide_eq_false (by omega)];rfl
 ·rw[decide_eq_false h,decide_eq_true (by omega)];rfl
theorem K5p {l:List Ev}:opE l []=(Jd l).2.2:=by
 unfold opE
 by_cases h:(Jd l).2.2=0
 ·rw[if_pos h,h];rfl
 ·rw[if_neg h]
theorem K5o {l:List Ev} {a:ByteArray}:opE l [a]=Jg [(Jd l).2.2,bif decide (Jx (Jq l).2.2.1 a<0) then 10 else 0]:=by
 unfold opE
 by_cases h:(Jd l).2.2=0
 ·rw[if_pos h,h]
  simp only[List.map_cons,List.map_nil,K2w]
  rfl
 ·rw[if_neg h]
  show _=if(Jd l).2.2=0 then _ else(Jd l).2.2
  rw[if_neg h]
theorem J0x {l:List Ev} {a b:ByteArray}:Jfz l a b=Jg [(Jd l).2.2,bif bif decide (Jx (Jq l).2.2.1 a<0) then true else decide (Jx (Jq l).2.2.1 b<0) then 10 else 0,bif a.toList==b.toList then 24 else 0]:=by
 unfold Jfz opE
 by_cases h:(Jd l).2.2=0
 ·rw[if_pos h,h]
  simp only[List.map_cons,List.map_nil,K2w]
  cases decide (Jx (Jq l).2.2.1 a<0)<;>cases decide (Jx (Jq l).2.2.1 b<0)<;>cases a.toList==b.toList<;>rfl
 ·rw[if_neg h]
  show(if(Jd l).2.2=0 then _ else(Jd l).2.2)=if(Jd l).2.2=0 then _ else(Jd l).2.2
  rw[if_neg h,if_neg h]
theorem Jwh {l:List Ev}:(X3 l).1.length≤1000000:=by
 have hr:=Lj (l:=l)
 have nO:(Jq l).2.2.2.1.length≤32:=hr.nO
 unfold X3 Xo
 by_cases h:opE l []=0
 ·rw[if_pos h];dsimp only;rw[List.length_map];omega
 ·rw[if_neg h];exact Nat.zero_le _
def Ksz:Con:={args:=[.val false (.list 67 sEv),aS,aS],ress:=[Bo],owns:=[],pre:=fun _=>[],spec:=fun _=>(true,())}
def Z90 (a:List Ev):=(H2 a).2==(Jd a).2.2
def Kno (a:List Ev):=List.length (Jq a).2.2.1≤1000000
def Khl (a:List Ev) (b:Bt):=decide (Jx (Jq a).2.2.1 b<0)
def Knj (a:List Ev):=Jex (Jq a).2.1 (Jq a).2.2.2.1 (Jq a).2.2.2.2.1
def Kg7 (a:List Ev):=(H2 a).1.1==0&&((H2 a).1.2==0&&true)
def Kg4 (a:List Ev):=(H2 a).2==(Knj a).2
def Kgv (a:List Ev) (b:Bt):=Jwk a b==Jma (Jq a).2.1 (Jq a).2.2.1 (Jq a).2.2.2.1 (Jq a).2.2.2.2.1 b
def J01 (a:List Ev):=Tw (List.length (X3 a).1≤1000000)
def K0c (a:List Ev) (b:Bt):=Jg [(Jd a).2.2,bif Khl a b then 10 else 0]
def Kf7 (a:List Ev) (b:Bt):=K0c a b==0
def J00 (a:List Ev) (b:Bt):=Kdw a b==K0c a b
def Kfe (a:List Ev):=(H2 a).1.1==(Knj a).1.1&&((H2 a).1.2==(Knj a).1.2&&true)
def Kwa (a:List Ev) (b c:Bt):=Jg [(Jd a).2.2,bif bif Khl a b then true else Khl a c then 10 else 0,bif Lb b c then 24 else 0]
def Kv9 (a:List Ev):=bif eqL Yc (X3 a).1 Jx8 then(X3 a).2==(Jd a).2.2 else false
def Kv3 (a:List Ev) (b c:Bt):=Kwa a b c==0
def Ke1 (a:List Ev) (b c:Bt):=Jfz a b c==Kwa a b c
def Kvm (a:List Ev):=bif eqL Yc (X3 a).1 (List.map (Jv (Jq a).2.1 (Jq a).2.2.2.2.1) (Jq a).2.2.2.1) then(X3 a).2==(Jd a).2.2 else false
def Kt2 (a:List Ev) (b c:Bt):=bif bif Kv9 a then Jgt a b c==0 else false then Ke1 a b c else false
def Kt0 (a:List Ev) (b c:Bt):=bif bif Kv9 a then Jgt a b c==Khb a b c else false then Ke1 a b c else false
def Ktz (a:List Ev) (b c:Bt):=bif bif Kvm a then Jgt a b c==0 else false then Ke1 a b c else false
def Ktr (a:List Ev) (b c:Bt):=bif bif Kvm a then Jgt a b c==Khb a b c else false then Ke1 a b c else false
theorem ok7:Ok Tryz.prog 7 Ksz:=okW K73 Tryz.f7 na fun xx=>by
 obtain⟨(l:List Ev),(a:ByteArray),(b:ByteArray),_⟩:=xx
 refine(by kernel_rfl:((24:Int)≤1000000∧Br (bif bif !He l 24 then true else decide (40<Nc (ByteArray.size a)) then true else decide (40<Nc (ByteArray.size b))) (true=true) (lOk l∧T2 (lOk l) (T2 (lOk l) ((Kno l∧(Khl l a=false→Kno l)∧3≤1000000)∧(Kno l∧2≤1000000)∧Br ((Jd l).2.2==0) (T2 (Jj4 l) (Br (Kv3 l a b) (Jj4 l∧Br (Kf7 l a) (Jj4 l∧J01 l∧(bif bif bif bif bif Ktr l a b then Kgv l a else false then J00 l a else false then Kfe l else false then Kg4 l else false then true else false)=true) (J01 l∧(bif bif bif bif bif Ktr l a b then Jwk l a==0 else false then J00 l a else false then Kfe l else false then Kg4 l else false then true else false)=true)) (Br (Kf7 l a) (Jj4 l∧J01 l∧(bif bif bif bif bif Ktz l a b then Kgv l a else false then J00 l a else false then Kfe l else false then Kg4 l else false then true else false)=true) (J01 l∧(bif bif bif bif bif Ktz l a b then Jwk l a==0 else false then J00 l a else false then Kfe l else false then Kg4 l else false then true else false)=true)))) (Br (Kv3 l a b) (Jj4 l∧Br (Kf7 l a) (Jj4 l∧J01 l∧(bif bif bif bif bif Kt0 l a b then Kgv l a else false then J00 l a else false then Kg7 l else false then Z90 l else false then true else false)=true) (J01 l∧(bif bif bif bif bif Kt0 l a b then Jwk l a==0 else false then J00 l a else false then Kg7 l else false then Z90 l else false then true else false)=true)) (Br (Kf7 l a) (Jj4 l∧J01 l∧(bif bif bif bif bif Kt2 l a b then Kgv l a else false then J00 l a else false then Kg7 l else false then Z90 l else false then true else false)=true) (J01 l∧(bif bif bif bif bif Kt2 l a b then Jwk l a==0 else false then J00 l a else false then Kg7 l else false then Z90 l else false then true else false)=true)))))))=_).mp ?_
 delta Z90 Kno Khl Knj Khb Kg7 Jx8 Kg4 Kgv J01 K0c Kf7 J00 Jx6 Jj4 Kfe Kwa Kv9 Kv3 Ke1 Kvm Kt2 Kt0 Ktz Ktr Br T2 Tw Nc Lb E2
 refine⟨by decide,fun _=>rfl,fun h=> ?_⟩
 have hb:=bn1 (bn1 h).1
 have hsh:He l 24=true:=by simpa using hb.1
 have hl:=(Jtr (by decide) hsh).1
 have hr:=Lj (l:=l)
 have nS:(Jq l).2.2.1.length≤6:=hr.nS
 have nS1:(Jq l).2.2.1.length≤1000000:=Nat.le_trans nS (by decide)
 have hbl:=Jwh (l:=l)
 simp only[Prod.eta]
 simp only[←J0x,←K5o]
 refine⟨hl,hl,hl,hl,hl,⟨nS1,fun _=>nS1,by decide⟩,⟨nS1,by decide⟩, ?_, ?_⟩
 all_goals repeat' first|exact hr|exact hbl|apply And.intro|intro _
 all_goals first|(simp only[beq_iff_eq,beq_eq_false_iff_ne] at*;simp[X3,Xo,Jgt,Jwk,Kdw,H2,K5p,Jpy Jit,eqL, *];done)
end Go.Proofs.YtcibbcfiemeoiaaGreatDoor

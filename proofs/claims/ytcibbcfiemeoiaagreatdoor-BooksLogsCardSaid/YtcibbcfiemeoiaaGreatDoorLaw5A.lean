/- The law walked: part of the proof. -/
import Derived.Test.YtcibbcfiemeoiaaGreatDoorFC
set_option linter.unusedSimpArgs false
set_option linter.unusedVariables false
set_option maxRecDepth 20000
namespace Go.Proofs.YtcibbcfiemeoiaaGreatDoor
open Go.Sx
set_option maxHeartbeats 20000000
theorem sameEv_refl (e:Ev):sameEv e e=true:=by
 unfold sameEv difEv
 rw[eqL_refl sameB_refl,eqL_refl sameI_refl]
 simp
theorem short_bd {e:Ev} (h:shortB e=true):e.2.1.size≤40∧e.2.2.1.length≤6∧e.2.2.2.1.length≤8∧e.2.2.2.2.size≤200∧∀s∈e.2.2.1,s.size≤40:=by
 unfold shortB at h
 cases q:longEv e with
 |true=>rw[q] at h;cases h
 |false=>
  rw[q,cond_false] at h
  unfold longEv at q
  have q1:=bn1 q
  have q2:=bn1 q1.1
  have q3:=bn1 q2.1
  have a1:=of_decide_eq_false q1.2
  have a2:=of_decide_eq_false q2.2
  have a3:=of_decide_eq_false q3.2
  have a4:=of_decide_eq_false q3.1
  refine⟨by omega,by omega,by omega,by omega,fun s hs=> ?_⟩
  have:=List.all_eq_true.1 h s hs
  have:decide (40<(s.size:Int))=false:=by simpa using this
  have:=of_decide_eq_false this
  omega
theorem short_one {e:Ev} (h:(!shortE [e] 1)=false):shortB e=true:=by
 have h:shortE [e] 1=true:=by simpa using h
 have h:(bif decide ((1:Int)<1) then false else[e].all shortB)=true:=h
 simpa using h
def cLogs:Con:={args:=[aEv,aS],ress:=[Bo],owns:=[],pre:=fun _=>[],spec:=fun _=>(true,())}
def Z570 (a:Bt):=∀(x:Ev),x∈(recoverS a).1→Z297 x
def Z689 (a:Bt) (b:Int) (c:Bt) (d:Ls) (e:Li) (f:Bt):=(appP a (b,c,d,e,f)).2==Z652 a b c d e f
def Z726 (a:Bt) (b:Int) (c:Bt) (d:Ls) (e:Li) (f:Bt):=bif Z689 a b c d e f then Lb (appP a (b,c,d,e,f)).1 B0 else false
def Z731 (a:Bt) (b:Int) (c:Bt) (d:Ls) (e:Li) (f:Bt):=Z726 a b c d e f=true
def Z758 (a:Bt) (b:Int) (c:Bt) (d:Ls) (e:Li) (f:Bt):=bif Z689 a b c d e f then Lb (appP a (b,c,d,e,f)).1 (logS ((recoverS a).1++[(b,c,d,e,f)])) else false
def Z761 (a:Bt) (b:Int) (c:Bt) (d:Ls) (e:Li) (f:Bt):=Z758 a b c d e f=true
theorem ok5:Ok Tryz.prog 5 cLogs:=okW W204 Tryz.f5 na fun xx=>by
 obtain⟨⟨(n:Int),(k:ByteArray),(ns:List ByteArray),(vs:List Int),(t:ByteArray)⟩,(s:ByteArray),_⟩:=xx
 refine(by kernel_rfl:((1:Int)≤1000000∧Br (bif !shortE [(n,k,ns,vs,t)] 1 then true else decide (1500<Nc (ByteArray.size s))) (true=true) ((ByteArray.size s≤1000000000∧Z625 ns vs)∧Z710 ns vs s∧Br (Z652 s n k ns vs t==0) (((0+List.length (recoverS s).1)*88≤140737488355328∧(List.length (recoverS s).1+1)*88≤140737488355328∧List.length ((recoverS s).1++[(n,k,ns,vs,t)])≤1001∧∀(e:Ev),e∈(recoverS s).1++[(n,k,ns,vs,t)]→BodyOk e)∧((Z761 s n k ns vs t→List.length (recoverS s).1≤1000000)∧(Z761 s n k ns vs t→Z570 s))∧(bif bif bif bif Z758 s n k ns vs t then eqL sameEv (recoverS s).1 (recoverS s).1 else false then(recoverS s).2.1==(recoverS s).2.1 else false then(recoverS s).2.2==(recoverS s).2.2 else false then true else false)=true) (((Z731 s n k ns vs t→List.length (recoverS s).1≤1000000)∧(Z731 s n k ns vs t→Z570 s))∧(bif bif bif bif Z726 s n k ns vs t then eqL sameEv (recoverS s).1 (recoverS s).1 else false then(recoverS s).2.1==(recoverS s).2.1 else false then(recoverS s).2.2==(recoverS s).2.2 else false then true else false)=true)))=_).mp ?_
 delta Z53 Z57 Z102 Z241 Z297 Z402 Z570 Z625 Z652 Z689 Z710 Z726 Z731 Z758 Z761 Br Iw Ln Nc B0 Lb
 have hev:∀l:List Ev,eqL sameEv l l=true:=eqL_refl sameEv_refl
 refine⟨by decide,fun _=>rfl,fun h=> ?_⟩
 have hb:=bn1 h
 have hz:s.size≤1500:=by have:=of_decide_eq_false hb.2;omega
 have hsh:=short_bd (short_one hb.1)
 dsimp only at hsh
 have hl:=recover_len s
 have hchk:=recover_chk s
 have hev2:∀x∈(recoverS s).1,x.2.2.1.length≤1000000∧x.2.2.2.1.length≤1000000:=fun x hx=>by
  have hE:=checkE_zero (hchk x hx)
  have hk:=kind_bd x.2.1
  have h1:=hE.nn
  have h2:=hE.nv
  omega
 have hns:∀w∈ns,w.size≤1000000:=fun w hw=>Nat.le_trans (hsh.2.2.2.2 w hw) (by decide)
 have hA:firstS [(recoverS s).snd.snd,checkE (n,k,ns,vs,t),bif n !=((recoverS s).fst.length:Int)+1 then 11 else 0]=appE s (n,k,ns,vs,t):=rfl
 simp only[hA,app_log hz,hev,beq_self_eq_true,cond_true]
 refine⟨⟨by omega,by omega,by omega,hns⟩,⟨by omega,by omega,hns,by(repeat' first|apply And.intro|(first|omega|(dsimp only;omega)|(simp only[];omega))),by decide⟩,fun q=> ?_,fun q=> ?_⟩
 ·have q:appE s (n,k,ns,vs,t)=0:=by simpa using q
  have hc:checkE (n,k,ns,vs,t)=0:=firstS_zero.1 q _ (by simp)
  rw[if_pos q]
  refine⟨⟨show(0+(recoverS s).1.length)*88≤140737488355328 by omega,show((recoverS s).1.length+1)*88≤140737488355328 by omega,show((recoverS s).1++[_]).length≤1001 by simp;omega,fun e he=> ?_⟩,⟨fun _=>show(recoverS s).1.length≤1000000 by omega,fun _=>hev2⟩,by simp⟩
  rcases List.mem_append.1 he with he|he
  ·exact body_ok (hchk e he)
  ·rw[List.mem_singleton.1 he];exact body_ok hc
 ·have q:¬appE s (n,k,ns,vs,t)=0:=by simpa using q
  rw[if_neg q]
  exact⟨⟨fun _=>show(recoverS s).1.length≤1000000 by omega,fun _=>hev2⟩,by simp;rw[Lib.toList_data];rfl⟩
end Go.Proofs.YtcibbcfiemeoiaaGreatDoor

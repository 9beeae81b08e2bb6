/- The law walked: part of the proof. -/
import Derived.Test.YtkhdpgadionfnaaGreatFB
set_option linter.unusedSimpArgs false
set_option linter.unusedVariables false
set_option maxRecDepth 20000
namespace Go.Proofs.YtkhdpgadionfnaaGreat
open Go.Sx
set_option maxHeartbeats 20000000
set_option pp.deepTerms true
set_option pp.maxSteps 10000000
theorem Jrs {a:Int} (h: -128≤a∧a≤127): -9≤a.tmod 10∧a.tmod 10≤9:=by
 rcases Int.le_total 0 a with h0|h0
 ·have:=Int.tmod_lt_of_pos a (show(0:Int)<10 by decide)
  have:=Int.tmod_nonneg 10 h0
  omega
 ·have e:a.tmod 10= -((-a).tmod 10):=by rw[Int.neg_tmod,Int.neg_neg]
  have:=Int.tmod_nonneg 10 (show 0≤-a by omega)
  have:=Int.tmod_lt_of_pos (-a) (show(0:Int)<10 by decide)
  omega
abbrev sN2:Sch:= .prod (.int .i8) (.int .i8)
def Jxm:Con:={args:=[aCR,aF, .val true sN2],ress:=[Bo],owns:=[],pre:=fun(c,f,n,_)=>[c.1.length≤9223372036854775807,c.2.1.length≤9223372036854775807,-128≤n.1∧n.1≤127,-128≤n.2∧n.2≤127],spec:=fun _=>(true,())}
abbrev Jxz (c:Cab) (f:Flt) (n:Int×Int):Ann:={X:=Nat,σ:=fun j=>⟨5,[(3, .one (.ptr 2 0)),(4, .one (.ptr 3 0)),(5, .one (.ptr 4 0)),(8, .one (.int .i64 (tkD c f false-f.2.2.1))),(11, .one (.int .i64 (tkD c f true-f.2.2.1))),(17, .one (.int .i64 (f.2.1+Zo c (j:Int)))),(140, .one (.int .i64 f.1)),(141, .one (.int .i64 j))],[(0, .imm 48 sPt c.1),(1, .imm 3 sI c.2.1),(2, .box 26 [.sl 0, .sl 1, .int .i64 c.2.2.1, .int .i64 c.2.2.2]),(3, .box 28 [.int .i64 f.1, .int .i64 f.2.1, .int .i64 f.2.2.1, .int .i64 f.2.2.2]),(4, .box 30 [.int .i8 n.1, .int .i8 n.2])]⟩,inv:=fun j=>(j:Int)≤f.1∧Qt c f,mu:=fun j=>(f.1-j).toNat}
def Z11 (a:Cab) (b:Flt):=tkD a b true-b.2.2.1
def Z14 (a:Cab) (b:Flt):=tkD a b false-b.2.2.1
def Z23:=Sf true (false=true)
def Jvd (a:Cab) (b:Flt) (c:Nat):=(J8 (Z33 a) (b.2.1+Zo a (Nc c))).1
def Jvc (a:Cab) (b:Flt) (c:Nat):=(J8 (Z33 a) (b.2.1+Zo a (Nc c))).2
def J58 (a:Cab) (b:Flt) (c:Int×Int):=max 0 (Z11 a b+Int.tmod c.2 10)-9
def J57 (a:Cab) (b:Flt) (c:Int×Int):=max 0 (Z11 a b+Int.tmod c.2 10)+9
def J55 (a:Cab) (b:Flt) (c:Int×Int):=max 0 (Z14 a b+Int.tmod c.1 10)+9
def J54 (a:Cab) (b:Flt) (c:Int×Int):=max 0 (Z14 a b+Int.tmod c.1 10)-9
def J5m (a:Cab) (b:Flt):=Jlb (Z33 a) (Z35 b) Z50
def J5l (a:Cab) (b:Flt):=Jlb (Z33 a) (Z35 b) Z49
def Jz8 (a:Cab) (b:Flt):=hdL (Z33 a) (Z35 b) Z50 400
def Jz6 (a:Cab) (b:Flt):=hdL (Z33 a) (Z35 b) Z49 400
def Jyg (a:Cab) (b:Flt):=16*(J5m a b).2
def Jyf (a:Cab) (b:Flt):=16*(J5l a b).2
def J4y (a:Cab) (b:Flt) (c:Int×Int):=a.1=a.1∧a.2.1=a.2.1∧Si a.2.2.1 (Si a.2.2.2 (Si b.1 (Si b.2.1 (Si b.2.2.1 (Si b.2.2.2 (Si c.1 (c.2=c.2)))))))
def Jvw (a:Cab) (b:Flt):=Jca (Jz8 a b) 0
def Jvv (a:Cab) (b:Flt):=Jca (Jz6 a b) 0
def J4m (a:Flt) (b:Cab):=a.2.2.1+Jvv b a
def J4l (a:Flt) (b:Cab):=a.2.2.1+Jvw b a
def J4g (a:Cab) (b:Flt):=Ji1 (Z33 a) (Z14 a b,Z14 a b) (Z11 a b,Z11 a b)
def J4f (a:Cab) (b:Flt):=(J4g a b).2
def J4c (a:Cab) (b:Flt):=(J4f a b).2
def J3k (a:Cab) (b:Flt) (c:Int×Int):=(max 0 (J58 a b c),J57 a b c)
def J3j (a:Cab) (b:Flt) (c:Int×Int):=(max 0 (J54 a b c),J55 a b c)
def J3a (a:Cab) (b:Flt):=Gt (Jz8 a b) (Jvw a b) 0
def J29 (a:Cab) (b:Flt):=Gt (Jz6 a b) (Jvv a b) 0
def J25 (a:Cab) (b:Flt):=bif Dl (Z33 a) (Z35 b) Z49 !=0 then true else Dl (Z33 a) (Z35 b) Z50 !=0
def J2y (a:Cab) (b:Flt) (c:Int×Int):=Ji1 (Z33 a) (J3j a b c) (J3k a b c)
def J2w (a:Cab) (b:Flt) (c:Int×Int):=(J2y a b c).2
def Jzg (a:Cab) (b:Flt) (c:Int×Int):=(J2y a b c).1
def Jzf (a:Cab) (b:Flt) (c:Int×Int):=(J2w a b c).1
def J2v (a:Cab) (b:Flt) (c:Int×Int):=(J2w a b c).2
def Jze (a:Cab) (b:Flt) (c:Int×Int):=(J2v a b c).2
def Jzd (a:Cab) (b:Flt) (c:Int×Int):=(J2v a b c).1
def J2s (a:Cab) (b:Flt) (c:Int×Int) (d:Nat):=Jzg a b c*Jvc a b d
def J2r (a:Cab) (b:Flt) (c:Nat) (d:Int×Int):=Jvd a b c*Jzf a b d
def J2q (a:Cab) (b:Flt) (c:Nat) (d:Int×Int):=Jvd a b c*Jze a b d
def J2p (a:Cab) (b:Flt) (c:Int×Int) (d:Nat):=Jzd a b c*Jvc a b d
def J2n (a:Cab) (b:Flt):=bif J25 a b then true else(J5l a b).1 !=J4m b a
def J2i (a:Cab) (b:Flt):=bif J2n a b then true else(J5m a b).1 !=J4l b a
def Jvr (a:Cab) (b:Flt):=J2i a b=false
def J2h (a:Cab) (b:Flt) (c:Int×Int) (d:Nat):=decide (J2s a b c d≤J2r a b d c)
def J2g (a:Cab) (b:Flt) (c:Int×Int) (d:Nat):=J2h a b c d=true
def J2b (a:Cab) (b:Flt):=bif J2i a b then true else Jl9 (J29 a b) !=Vk (Jyf a b) 262144
def Jvq (a:Cab) (b:Flt):=J2b a b=false
theorem wp3 (c:Cab) (f:Flt) (n:Int×Int):wpFG Tryz.prog W79.g (Yl (Jxz c f n)) (fun _=>na ()) (Sx.look ([]:List (Nat×Func))) Tryz.f3 Jxm (c,f,n,()):=by
 refine(by kernel_rfl:(Z13 c≤9223372036854775807→List.length c.2.1≤9223372036854775807→(-128)≤n.1∧n.1≤127→(-128)≤n.2∧n.2≤127→(false=false→List.length c.2.1≤9223372036854775807)∧Br (bif bif false then true else !Un (Z33 c) (Z35 f) then true else bif decide ((-4)<f.2.2.2) then decide (f.2.2.2<4) else false) (Tw (true=true)) ((Jzy c f∧Uv (Jvx c f) Z49 f.2.2.1 401=false)∧(Jzz c f∧Uv (Jvx c f) Z50 f.2.2.1 401=false)∧Br (bif bif false then true else decide (Jvv c f<0) then true else decide (Jvw c f<0)) Z23 (T2 (Jyc c) (((J25 c f=false→Iw (J4m f c))∧(J2n c f=false→Iw (J4l f c))∧T2 (Jvr c f→Bd (Jvv c f) (Ln (Jz6 c f))) ((Jvr c f→okF (J29 c f))∧(Jvr c f→Iw (Jyf c f))∧(Jvr c f→Z15≤Jyf c f∧Jyf c f≤400000000000000)∧(Jvr c f→Z62)∧T2 (Jvq c f→Bd (Jvw c f) (Ln (Jz8 c f))) ((Jvq c f→okF (J3a c f))∧(Jvq c f→Iw (Jyg c f))∧(Jvq c f→Z15≤Jyg c f∧Jyg c f≤400000000000000)∧(Jvq c f→Z62))))∧Br (bif J2b c f then true else Jl9 (J3a c f) !=Vk (Jyg c f) 262144) Z23 (∃(x:Nat),(Jvv c f=Z14 c f∧Jvw c f=Z11 c f∧f.2.1=f.2.1+Zo c (Nc x)∧Si f.1 (0=Nc x∧J4y c f n))∧(Nc x≤f.1∧Qt c f)∧∀(x:Nat),Nc x≤f.1∧Qt c f→Br (decide (Nc x<f.1)) (T2 (Z48 x c) (Iw (f.2.1+Zo c (Nc x)+Z79 c x))∧Z2 x∧∃(y:Nat),Si (Z14 c f) (Si (Z11 c f) (f.2.1+Zo c (Nc x)+Z79 c x=f.2.1+Zo c (Nc y)∧Si f.1 (Z29 x y∧J4y c f n)))∧(Nc y≤f.1∧Qt c f)∧Int.toNat (f.1-Nc y)<Int.toNat (f.1-Nc x)) (T2 (Jyc c) (Br (bif bif bif bif bif bif Zs (Z33 c) (f.2.1+Zo c (Nc x)) !=0 then true else Jk1 (Z33 c) (Z14 c f,Z14 c f) (Z11 c f,Z11 c f) !=0 then true else !((J4g c f).1==Jvd c f x&&((J4f c f).1==Jvc c f x&&true)&&((J4c c f).1==Jvd c f x&&((J4c c f).2==Jvc c f x&&true)&&true)) then true else decide (Jvc c f x<1) then true else decide (64<Jvc c f x) then true else decide (Jvd c f x<0) then true else decide (64000000<Jvd c f x)) Z23 ((Iw n.1∧((10:Int)=0→False)∧Iw n.2∧((10:Int)=0→False))∧(Iw (Z14 c f+Int.tmod n.1 10)∧Iw (Z11 c f+Int.tmod n.2 10))∧(Z53 c∧Z28 c∧Iw (J54 c f n)∧Iw (J55 c f n)∧Iw (J58 c f n)∧Iw (J57 c f n)∧Js3 c)∧Br (bif bif bif bif bif bif bif bif Jk1 (Z33 c) (J3j c f n) (J3k c f n) !=0 then true else decide (Jzf c f n<1) then true else decide (128<Jzf c f n) then true else decide (Jze c f n<1) then true else decide (128<Jze c f n) then true else decide (Jzg c f n<0) then true else decide (Jzd c f n<0) then true else decide (128000000<Jzd c f n) then true else decide (128000000<Jzg c f n)) Z23 ((Iw (J2s c f n x)∧Iw (J2r c f x n)∧(J2g c f n x→Iw (J2p c f n x))∧(J2g c f n x→Iw (J2q c f x n)))∧Sf true ((bif J2h c f n x then decide (J2q c f x n≤J2p c f n x) else false)=true))))))))))=_).mp ?_
 delta Z1 Z2 Z11 Z13 Z14 Z15 Z23 Z28 Z29 Z33 Z35 Z48 Z49 Z50 Z53 Z62 Z75 Z79 Jvd Jvc Js3 Jvx J58 J57 J55 J54 J5m J5l Jz8 Jz6 Jyg Jyf J4y Jzz Jzy Jvw Jvv J4m J4l Jyc J4g J4f J4c J3k J3j J3a J29 J25 J2y J2w Jzg Jzf J2v Jze Jzd J2s J2r J2q J2p J2n J2i Jvr J2h J2g J2b Jvq Br Iw Bd T2 Tw Sf Si Ln Nc Gt E2
 intro hl1 hl2 hn1 hn2
 have hC:((c.1,c.2.1,c.2.2.1,c.2.2.2):Cab)=c:=rfl
 have hF:((f.1,f.2.1,f.2.2.1,f.2.2.2):Flt)=f:=rfl
 simp only[hC,hF,cond_false]
 refine⟨fun _=>hl2,fun _=>⟨trivial,trivial⟩,fun q=> ?_⟩
 have q:Un c f=true∧(f.2.2.2≤-4∨4≤f.2.2.2):=by
  have e1:decide (-4<f.2.2.2)= !decide (f.2.2.2≤-4):=by rw[Bool.eq_iff_iff];simp
  have e2:decide (f.2.2.2<4)= !decide (4≤f.2.2.2):=by rw[Bool.eq_iff_iff];simp
  rw[e1,e2] at q
  rw[←decide_eq_true_iff (p:=f.2.2.2≤-4),←decide_eq_true_iff (p:=4≤f.2.2.2)]
  revert q
  cases Un c f<;>cases decide (f.2.2.2≤-4)<;>cases decide (4≤f.2.2.2)<;>simp
 obtain⟨q1,q2⟩:=q
 have qt:Qt c f:=Jqa q1 q2
 have hcv:=qt.V.1
 have l1:c.1.length≤1000000:=by have:=hcv.2.1;omega
 have l2:c.2.1.length≤1000000:=by have:=hcv.2.1;have:=hcv.2.2.2.1;omega
 obtain⟨⟨iA1,iA2⟩,nA,oA,sxA⟩:=Jnk qt false
 obtain⟨⟨iB1,iB2⟩,nB,oB,sxB⟩:=Jnk qt true
 obtain⟨dA1,dA2⟩:=Jjs qt false
 obtain⟨dB1,dB2⟩:=Jjs qt true
 have rA:rcE c f sA 400=0:=Jip qt false
 have rB:rcE c f sB 400=0:=Jip qt true
 refine⟨⟨rA,qt.big false⟩,⟨rB,qt.big true⟩, ?_⟩
 have nA':Jca (hdL c f ({data:={toList:=[65]}}:ByteArray) 400) 0=tkD c f false-f.2.2.1:=nA
 have nB':Jca (hdL c f ({data:={toList:=[66]}}:ByteArray) 400) 0=tkD c f true-f.2.2.1:=nB
 have dA1':Dl c f ({data:={toList:=[65]}}:ByteArray)=0:=dA1
 have dB1':Dl c f ({data:={toList:=[66]}}:ByteArray)=0:=dB1
 have dA2':Jlb c f ({data:={toList:=[65]}}:ByteArray)=(tkD c f false,htD c f false):=dA2
 have dB2':Jlb c f ({data:={toList:=[66]}}:ByteArray)=(tkD c f true,htD c f true):=dB2
 have sxA':Jl9 ((hdL c f ({data:={toList:=[65]}}:ByteArray) 400).getD (tkD c f false-f.2.2.1).toNat 0)=Vk (16*htD c f false) 262144:=sxA
 have sxB':Jl9 ((hdL c f ({data:={toList:=[66]}}:ByteArray) 400).getD (tkD c f true-f.2.2.1).toNat 0)=Vk (16*htD c f true) 262144:=sxB
 have eqA:f.2.2.1+(tkD c f false-f.2.2.1)=tkD c f false:=by omega
 have eqB:f.2.2.1+(tkD c f true-f.2.2.1)=tkD c f true:=by omega
 have ngA:decide (tkD c f false-f.2.2.1<0)=false:=decide_eq_false (by omega)
 have ngB:decide (tkD c f true-f.2.2.1<0)=false:=decide_eq_false (by omega)
 have b0:∀x:Int,(x !=x)=false:=fun x=>bne_self_eq_false x
 simp only[nA',nB',dA1',dB1',dA2',dB2',sxA',sxB',eqA,eqB,ngA,ngB,b0,cond_false]
 have hV:=qt.V
 have tV:=hV.2.2.2.1
 have gV:=hV.2.1
 have oV:=hV.2.2.1
 have cV:=hcv.2.1
 have hA:=Jww false hV
 have hB:=Jww true hV
 have lA:(hdL c f ({data:={toList:=[65]}}:ByteArray) 400).length=401:=Yi _ _ _ _
 have lB:(hdL c f ({data:={toList:=[66]}}:ByteArray) 400).length=401:=Yi _ _ _ _
 obtain⟨pv1,pv2,pv3,pv4,pv5,pv6⟩:=Jvl hV
 obtain⟨m,hm⟩:∃m:Nat,f.1=m:=⟨f.1.toNat,by omega⟩
 have posb:∀j:Nat,j≤m→0≤Zo c (j:Int)∧Zo c (j:Int)≤384:=fun j hj=>by
  have:=Vc (Jet hcv.2.2.1 j)
  unfold Zo
  rw[Int.toNat_natCast]
  rw[List.length_take] at this
  omega
 have hpl:Jd c f=f.2.1+Zo c (m:Int):=by unfold Jd;rw[hm];omega
 have of1:f.2.1≤384:=by have:=posb m (Nat.le_refl _);omega
 refine⟨fun q=>(by cases q),fun _=>⟨⟨l1,l2,l1,l2⟩,⟨l1,l2,l1,l2⟩,⟨fun _=>by omega,fun _=>by omega,fun _=>by omega,fun _=>by omega,fun _=>oA,fun _=>by omega,fun _=>by omega,fun _=>by omega,fun _=>by omega,fun _=>by omega,fun _=>oB,fun _=>by omega,fun _=>by omega,fun _=>by omega⟩,fun q=>(by cases q),fun _=>⟨(0:Nat),⟨trivial,trivial, ?_,trivial,rfl,trivial,trivial,trivial,trivial,trivial,trivial,trivial,trivial,trivial,trivial⟩,⟨by show((0:Nat):Int)≤f.1;omega,qt⟩,fun(j:Nat) hj=>⟨fun q=> ?_,fun q=> ?_⟩⟩⟩⟩
 ·show f.2.1=f.2.1+Zo c 0
  rw[Ze];omega
 ·have q:=of_decide_eq_true q
  have hjm:j<m:=by omega
  have pb:=posb j (by omega)
  have hsx:=hcv.2.2.1 _ (Jp (d:=(0,0)) (l:=c.1) (k:=j) (by omega))
  have hs:=Xc (c:=c) (b:=(j:Int)) (by omega) (by omega)
  rw[Int.toNat_natCast] at hs
  refine⟨⟨by omega,by omega,by omega⟩,by omega,(j+1:Nat),⟨trivial,trivial, ?_,trivial,by simp,trivial,trivial,trivial,trivial,trivial,trivial,trivial,trivial,trivial,trivial⟩,⟨by show((j+1:Nat):Int)≤f.1;omega,qt⟩,by omega⟩
  show f.2.1+Zo c (j:Int)+(c.1.getD j (0,0)).2=f.2.1+Zo c ((j+1:Nat):Int)
  rw[show((j+1:Nat):Int)=(j:Int)+1 by simp,hs];omega
 ·have q:=of_decide_eq_false q
  have hj1:(j:Int)≤f.1:=hj.1
  have hjm:j=m:=by omega
  subst hjm
  obtain⟨x1,x2⟩:=Juh hV rfl rfl
  have pin:=J1d hV
  rw[←hpl]
  refine⟨⟨l1,l2,l1,l2⟩,⟨l1,l2,l1,l2⟩, ?_⟩
  rw[pv5,x1,x2]
  have r1:(rr (J8 c (Jd c f)) (J8 c (Jd c f))).1=(J8 c (Jd c f)).1:=rfl
  have r2:(rr (J8 c (Jd c f)) (J8 c (Jd c f))).2.1=(J8 c (Jd c f)).2:=rfl
  have r3:(rr (J8 c (Jd c f)) (J8 c (Jd c f))).2.2.1=(J8 c (Jd c f)).1:=rfl
  have r4:(rr (J8 c (Jd c f)) (J8 c (Jd c f))).2.2.2=(J8 c (Jd c f)).2:=rfl
  rw[r1,r2,r3,r4]
  obtain⟨pl,hpl'⟩:∃pl,J8 c (Jd c f)=pl:=⟨_,rfl⟩
  rw[hpl'] at pin⊢
  have z1:decide (pl.2<1)=false:=decide_eq_false (by omega)
  have z2:decide (64<pl.2)=false:=decide_eq_false (by omega)
  have z3:decide (pl.1<0)=false:=decide_eq_false (by omega)
  have z4:decide (64000000<pl.1)=false:=decide_eq_false (by omega)
  simp only[z1,z2,z3,z4,b0,beq_self_eq_true,Bool.and_self,Bool.and_true,Bool.not_true,cond_false]
  refine⟨fun q=>(by cases q),fun _=> ?_⟩
  have w1:=Jrs hn1
  have w2:=Jrs hn2
  obtain⟨wa,hwa⟩:∃wa,n.1.tmod 10=wa:=⟨_,rfl⟩
  obtain⟨wb,hwb⟩:∃wb,n.2.tmod 10=wb:=⟨_,rfl⟩
  rw[hwa] at w1⊢
  rw[hwb] at w2⊢
  have wide:=Jv7 hV (a:=(max 0 (max 0 (tkD c f false-f.2.2.1+wa)-9),max 0 (tkD c f false-f.2.2.1+wa)+9)) (b:=(max 0 (max 0 (tkD c f true-f.2.2.1+wb)-9),max 0 (tkD c f true-f.2.2.1+wb)+9)) ⟨by dsimp only;omega,by dsimp only;omega,by dsimp only;omega,by dsimp only;omega⟩ ⟨by dsimp only;omega,by dsimp only;omega,by dsimp only;omega,by dsimp only;omega⟩
  refine⟨⟨by omega,by omega,by omega,by omega⟩,⟨by omega,by omega⟩,⟨l1,l2,by omega,by omega,by omega,by omega,l1,l2⟩, ?_⟩
  rw[wide.1]
  have wp:=wide.2
  obtain⟨p,hp⟩:∃p,Ji1 c (max 0 (max 0 (tkD c f false-f.2.2.1+wa)-9),max 0 (tkD c f false-f.2.2.1+wa)+9) (max 0 (max 0 (tkD c f true-f.2.2.1+wb)-9),max 0 (tkD c f true-f.2.2.1+wb)+9)=p:=⟨_,rfl⟩
  rw[hp,hpl'] at wp
  rw[hp]
  have pb:=Jwf wp pin
  obtain⟨⟨a1,a2,a3,a4⟩,⟨c1,c2,c3,c4⟩,e1,e2⟩:=wp
  have y1:decide (p.2.1<1)=false:=decide_eq_false (by omega)
  have y2:decide (128<p.2.1)=false:=decide_eq_false (by omega)
  have y3:decide (p.2.2.2<1)=false:=decide_eq_false (by omega)
  have y4:decide (128<p.2.2.2)=false:=decide_eq_false (by omega)
  have y5:decide (p.1<0)=false:=decide_eq_false (by omega)
  have y6:decide (p.2.2.1<0)=false:=decide_eq_false (by omega)
  have y7:decide (128000000<p.2.2.1)=false:=decide_eq_false (by omega)
  have y8:decide (128000000<p.1)=false:=decide_eq_false (by omega)
  simp only[y1,y2,y3,y4,y5,y6,y7,y8,b0,cond_false,decide_eq_true e1,decide_eq_true e2,cond_true]
  exact⟨fun q=>(by cases q),fun _=>⟨⟨pb.1,pb.2.1,fun _=>pb.2.2.1,fun _=>pb.2.2.2⟩,trivial,trivial⟩⟩
theorem ok3:Ok Tryz.prog 3 Jxm:=F6 mixed W79.ok (by kernel_rfl) (by kernel_rfl) (Jaj (l:=([]:List (Nat×Func))) (by simp)) (fun xx=>Yl (Jxz xx.1 xx.2.1 xx.2.2.1)) (fun xx=>fun _=>na ()) fun xx=>wp3 xx.1 xx.2.1 xx.2.2.1
end Go.Proofs.YtkhdpgadionfnaaGreat

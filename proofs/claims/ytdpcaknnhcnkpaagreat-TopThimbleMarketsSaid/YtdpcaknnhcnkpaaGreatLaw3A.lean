/- The law walked: part of the proof. -/
import Derived.Test.YtdpcaknnhcnkpaaGreatFB
set_option linter.unusedSimpArgs false
set_option linter.unusedVariables false
set_option maxRecDepth 20000
namespace Go.Proofs.YtdpcaknnhcnkpaaGreat
open Go.Sx
set_option maxHeartbeats 20000000
abbrev sU2:Sch:= .prod (.int .u8) (.int .u8)
abbrev Kag (x:List (Int×Int)):Ann:={X:=Nat,σ:=fun k=>⟨6,[(0, .one (.sl 0)),(3, .one (.ptr 1 0)),(5, .one (.sl 3)),(6, .one (.sl 4)),(7, .one (.sl 5)),(49, .one (.sl 0)),(50, .one (.int .i64 x.length)),(51, .one (.int .i64 k))],[(0, .imm 29 sU2 x),(1, .box 24 [.sl 2]),(2, .own 67 sEv (jrI (itm (pm x) k))),(3, .own 31 sPt (tkL (fM x) k)),(4, .own 31 sPt (tkL (gM x) k)),(5, .own 3 sI (Jdb (hM x) k))]⟩,inv:=fun k=>k≤x.length,mu:=fun k=>x.length-k}
abbrev Kaf (x:List (Int×Int)):Ann:={X:=Nat,σ:=fun k=>⟨6,[(0, .one (.sl 0)),(3, .one (.ptr 1 0)),(7, .one (.sl 3)),(12, .one (.int .i64 x.length)),(13, .one (.sl 4)),(15, .one (.sl 5)),(160, .one (.sl 3)),(161, .one (.int .i64 x.length)),(162, .one (.int .i64 k))],[(0, .imm 29 sU2 x),(1, .box 24 [.sl 2]),(2, .own 67 sEv (jrI (iM x))),(3, .own 3 sI (Jdb (hM x) x.length)),(4, .own 31 sPt (tkL (hM x) x.length)),(5, .own 3 sI (rM x))]⟩,inv:=fun k=>k≤x.length,mu:=fun k=>x.length-k}
abbrev Kae (x:List (Int×Int)):Ann:={X:=Nat,σ:=fun m=>⟨5,[(0, .one (.sl 0)),(3, .one (.ptr 1 0)),(7, .one (.sl 3)),(12, .one (.int .i64 x.length)),(253, .one (.sl 4)),(254, .one (.int .i64 (mM x).length)),(255, .one (.int .i64 m))],[(0, .imm 29 sU2 x),(1, .box 24 [.sl 2]),(2, .own 67 sEv (jrM (uM x) (iM x) m)),(3, .own 3 sI (Jdb (hM x) x.length)),(4, .own 49 Jx2 (mM x))]⟩,inv:=fun m=>m≤(mM x).length,mu:=fun m=>(mM x).length-m}
abbrev Kad (x:List (Int×Int)):Ann:={X:=Nat×Nat,σ:=fun(m,j)=>⟨6,[(0, .one (.sl 0)),(3, .one (.ptr 1 0)),(7, .one (.sl 3)),(12, .one (.int .i64 x.length)),(253, .one (.sl 4)),(254, .one (.int .i64 (mM x).length)),(255, .one (.int .i64 m)),(26, .one (.ptr 5 0)),(27, .one (.int .i64 (Jl5 (pm x) ((mM x).getD m Fy).1 j))),(259, .one (.sl 0)),(260, .one (.int .i64 x.length)),(261, .one (.int .i64 j))],[(0, .imm 29 sU2 x),(1, .box 24 [.sl 2]),(2, .own 67 sEv (jrM (uM x) (iM x) m)),(3, .own 3 sI (Jdb (hM x) x.length)),(4, .own 49 Jx2 (mM x)),(5, .box 49 [.str ((mM x).getD m Fy).1, .int .i64 ((mM x).getD m Fy).2])]⟩,inv:=fun(m,j)=>m<(mM x).length∧j≤x.length,mu:=fun(_,j)=>x.length-j,rel:=some fun a b=>b.1=a.1}
abbrev Kac (x:List (Int×Int)):Ann:={X:=Nat,σ:=fun k=>⟨4,[(0, .one (.sl 0)),(3, .one (.ptr 1 0)),(305, .one (.sl 3)),(306, .one (.int .i64 x.length)),(307, .one (.int .i64 k))],[(0, .imm 29 sU2 x),(1, .box 24 [.sl 2]),(2, .own 67 sEv (jS x)),(3, .own 3 sI (Jdb (hM x) x.length))]⟩,inv:=fun k=>k≤x.length,mu:=fun k=>x.length-k}
abbrev Kmx (x:List (Int×Int)) (id:Nat):Option Ann:=if id=0 then some (Kag x) else if id=2 then some (Kaf x) else if id=4 then some (Kae x) else if id=6 then some (Kad x) else if id=9 then some (Kac x) else none
def Kmp:Con:={args:=[.val false (.list 29 sU2)],ress:=[Bo],owns:=[],pre:=fun(x,_)=>[∀v∈x,(0≤v.1∧v.1<256)∧0≤v.2∧v.2<256],spec:=fun _=>(true,())}
def Z16 (a:List (Int×Int)) (b:Nat):=jrM (uM a) (iM a) b
def Z30 (a:List (Int×Int)) (b:Nat×Nat):=jrM (uM a) (iM a) b.1
def Z74 (a:List (Int×Int)) (b:Nat×Nat):=(List.getD (mM a) b.1 Fy).1
def Z92:=(251:Int)=0→False
def Ju0 (a:List (Int×Int)):=Z3 a+1
def Jy8 (a:List (Int×Int)):=Iw (Ju0 a)
def J22 (a:List (Int×Int)):=tkL (hM a) (Z37 a)
def Jq5 (a:List (Int×Int)):=Jdb (hM a) (Z37 a)
def Jy4 (a:List (Int×Int)) (b:Nat):=Ua (tkL (fM a) b) (tkL (gM a) b)
def J2z (a:List (Int×Int)) (b:Nat×Nat):=List.getD a b.2 (0,0)
def Juw (a:List (Int×Int)) (b:Nat×Nat):=Jl5 (pm a) (Z74 a b) b.2
def J65 (a:List (Int×Int)):=Ln (Jq5 a)
def J60 (a:List (Int×Int)):=Xp (jrI (iM a)) (Ju0 a)
def J2n (a:List (Int×Int)) (b:Nat):=Int.tmod (Jxn a b) 251
def J2m (a:List (Int×Int)) (b:Nat):=Int.tmod (J2x a b) 251
def Jus (a:List (Int×Int)) (b:Nat):=List.getD (Jq5 a) b 0
def J6r (a:Nat×Nat) (b:List (Int×Int)):=a.1<List.length (mM b)∧a.2≤Z37 b
def Kim (a:List (Int×Int)):=Ln (J60 a).1
def J6l (a:List (Int×Int)) (b:Nat):=1000-Jus a b
def Kii (a:List (Int×Int)) (b:Nat):=Jes (jrI (iM a)) Jxt (Nc b+1)
def Kih (a:List (Int×Int)) (b:Nat):=Iw (J6l a b)
def Kig:=10^18
def Kif (a:List (Int×Int)) (b:Nat):=decide (0<Jus a b)
def Kie (a:List (Int×Int)) (b:Nat):=decide (0<J2m a b)
def Kic (a:List (Int×Int)) (b:Nat):=List.getD (J22 a) b (0,0)
def Kia (a:List (Int×Int)):=Jq5 a=Jq5 a
def Khz (a:List (Int×Int)) (b:Nat):=Kii a b+1
def Khi:= -10^17
def Jxk (a:Nat) (b:List (Int×Int)) (c:Nat):=Z90 a b∧Jyr b a c
def Kgc (a:List (Int×Int)):=(J60 a).2 !=0
def J5c (a:List (Int×Int)) (b:Nat):=Vf (1000,0,1000) 0 (Jy4 a b).1 (Ju0 a)
def Kfl (a:Nat) (b:List (Int×Int)):=[0,Nc a+1,Nc a+2,J2m b a]
def Kfh (a:List (Int×Int)) (b:Nat):=(J5c a b).1
def Ke8 (a:List (Int×Int)) (b:Nat):=J2n a b+J2m a b
def Ke5 (a:List (Int×Int)) (b:Nat):=Vq (Z16 a b) Jk [Ju0 a,Ju0 a] []
def Ke4 (a:List (Int×Int)) (b:Nat):=Ln (Kfh a b)
def J4t (a:Nat×Nat) (b:List (Int×Int)) (c d:Nat×Nat):=(J6r a b∧a.1=c.1)∧Z37 b-a.2<Z37 b-d.2
def Kew:=ByteArray.mk (Array.mk [109,111,114,101])::Jxu::Jtk
def Ket (a:Nat):=ByteArray.mk (Array.mk (112::([]++(Vr (Nc a)).data.toList)))::J18
def J4q (a:Nat):=ByteArray.mk (Array.mk (113::([]++(Vr (Nc a)).data.toList)))::J18
def Kem (a:List (Int×Int)) (b:Nat):=(J5c a b).2 !=0
def Kd2 (a:List (Int×Int)) (b:Nat×Nat):=Vq (Z30 a b) Kn [Ju0 a,(List.getD (mM a) b.1 Fy).2,Juw a b,Juw a b] [Z74 a b]
def Kd0 (a:Nat):=∀(s:ByteArray),s∈J4q a→ByteArray.size s≤1000000
def J39 (a:Nat):=17≤18∧Khi<Nc a∧Nc a<Kig∧Nc (1+ByteArray.size (Vr (Nc a)))≤9223372036854775807
def Kdx (a:List (Int×Int)) (b:Nat):=bif Ja7 (jrI (iM a)) Jxt (Nc b+1) !=0 then true else Ja7 (jrI (iM a)) Jxu (Nc b+1) !=0
def Kdw (a:Nat×Nat):=17≤18∧Khi<Nc a.2∧Nc a.2<Kig∧Nc (1+ByteArray.size (Vr (Nc a.2)))≤9223372036854775807
def Kdu (a:List (Int×Int)) (b:Nat):=Kdx a b=false
def Kdm (a:List (Int×Int)) (b:Nat):=Vq (jrI (itm (pm a) b)) Ka [0,Nc b+1,Nc b+2,J2n a b] (Ket b)
def Kdl (a:List (Int×Int)) (b:Nat):=Vq (jrI (itm (pm a) b)) Ka (Kfl b a) (J4q b)
def J36 (a:List (Int×Int)) (b c:Nat×Nat):=Si (Z3 a) (Nc b.2+1=Nc c.2∧Sf a (Z30 a b=Z30 a c∧Sf (Jq5 a) (Sf (mM a) (Z74 a b=Z74 a c∧(List.getD (mM a) b.1 Fy).2=(List.getD (mM a) c.1 Fy).2))))
def Jxh (a:List (Int×Int)) (b:Nat):=jrI (itm (pm a) b)++[Kdm a b]
def Kda (a:List (Int×Int)) (b:Nat):=bif Kem a b then true else Ke4 a b !=Ju0 a
def J1k (a:List (Int×Int)) (b c:Nat):=tkL (fM a) b++[(Nc b+1,J2n a b)]=tkL (fM a) c∧tkL (gM a) b++[(Nc b+1,J2m a b)]=tkL (gM a) c∧Jdb (hM a) b++[Ke8 a b]=Jdb (hM a) c
def Kcw (a:List (Int×Int)) (b:Nat):=bif Kdx a b then true else !((Kic a b).1==Nc b+1&&((Kic a b).2==Jus a b&&true))
def Kcv (a:List (Int×Int)) (b:Nat):=Kcw a b=false
def Kcq (a:List (Int×Int)) (b:Nat):=Vq (Jxh a b) Ka (Kfl b a) (J4q b)
def Kcp (a:List (Int×Int)) (b:Nat):=bif Kcw a b then true else Gt (rM a) (Nc b+1) 0 !=Jus a b
def Kbj (a:List (Int×Int)) (b:Nat):=bif Kcp a b then true else Kii a b !=J6l a b
def Kbd (a:List (Int×Int)) (b:Nat):=bif Kbj a b then true else Jes (jrI (iM a)) Jxu (Nc b+1) !=J6l a b
def Jti (a:List (Int×Int)) (b:Nat):=Kbd a b=false∧Kif a b=true
theorem ok3:Ok Tryz.prog 3 Kmp:=Jvl Km0 Tryz.f3 (Un (l:=([(7,Tryz.f7)]:List (Nat×Func))) (List.forall_mem_cons.2 ⟨by kernel_rfl,by simp⟩)) (fun xx=>Kmx xx.1) (fun xx=>fun _=>na ()) fun xx=>by
 obtain⟨(x:List (Int×Int)),_⟩:=xx
 refine(by kernel_rfl:((∀(v:Int×Int),J2b x v→Bd v.1 256∧Bd v.2 256)→Br (bif decide (Z3 x<1) then true else decide (6<Z3 x)) (Tw (true=true)) (Si 1 (Br false Z73 (∃(x_1:Nat),Si (Z3 x) (0=Nc x_1∧Sf x (Zl=jrI (itm (pm x) x_1)∧List.length (tkL (fM x) x_1)=0∧List.length (tkL (gM x) x_1)=0∧List.length (Jdb (hM x) x_1)=0))∧Z90 x_1 x∧∀(x_2:Nat),Z90 x_2 x→Br (Juy x_2 x) (Tw (Bd (Nc x_2) (Z3 x))∧(Iw (Jxn x x_2)∧Z92∧Iw (J2x x x_2)∧Z92)∧(Z20 x_2∧(List.length (tkL (fM x) x_2)+1)*16≤140737488355328∧Z20 x_2∧(List.length (tkL (gM x) x_2)+1)*16≤140737488355328)∧(Iw (Ke8 x x_2)∧(List.length (Jdb (hM x) x_2)+1)*8≤140737488355328)∧Br (decide (0<J2n x x_2)) (Z20 x_2∧Iw (Nc x_2+2)∧J39 x_2∧(lOk (jrI (itm (pm x) x_2))∧List.length (jrI (itm (pm x) x_2))≤900∧4≤1000000∧3≤1000000∧(∀(s:ByteArray),s∈Ket x_2→ByteArray.size s≤1000000)∧Ya (jrI (itm (pm x) x_2)) (Kdm x x_2)=0)∧Br false Z73 (Br (Kie x x_2) (Z20 x_2∧Iw (Nc x_2+2)∧J39 x_2∧(lOk (Jxh x x_2)∧List.length (Jxh x x_2)≤900∧4≤1000000∧3≤1000000∧Kd0 x_2∧Ya (Jxh x x_2) (Kcq x x_2)=0)∧Br false Z73 (Z20 x_2∧∃(y:Nat),Si (Z3 x) (Z83 x_2 y∧Sf x (Jxh x x_2++[Kcq x x_2]=jrI (itm (pm x) y)∧J1k x x_2 y))∧Jxk y x x_2)) (Br false Z73 (Z20 x_2∧∃(y:Nat),Si (Z3 x) (Z83 x_2 y∧Sf x (Jxh x x_2=jrI (itm (pm x) y)∧J1k x x_2 y))∧Jxk y x x_2)))) (Br false Z73 (Br (Kie x x_2) (Z20 x_2∧Iw (Nc x_2+2)∧J39 x_2∧(lOk (jrI (itm (pm x) x_2))∧List.length (jrI (itm (pm x) x_2))≤900∧4≤1000000∧3≤1000000∧Kd0 x_2∧Ya (jrI (itm (pm x) x_2)) (Kdl x x_2)=0)∧Br false Z73 (Z20 x_2∧∃(y:Nat),Si (Z3 x) (Z83 x_2 y∧Sf x (jrI (itm (pm x) x_2)++[Kdl x x_2]=jrI (itm (pm x) y)∧J1k x x_2 y))∧Jxk y x x_2)) (Br false Z73 (Z20 x_2∧∃(y:Nat),Si (Z3 x) (Z83 x_2 y∧Sf x (jrI (itm (pm x) x_2)=jrI (itm (pm x) y)∧J1k x x_2 y))∧Jxk y x x_2))))) (((0+List.length (tkL (fM x) x_2))*16≤140737488355328∧(0+List.length (tkL (gM x) x_2))*16≤140737488355328)∧Br (bif (Jy4 x x_2).2 !=0 then true else Ln (Jy4 x x_2).1 !=Z3 x) Z73 (((0+List.length (Jy4 x x_2).1)*16≤140737488355328∧Jy8 x)∧((Kem x x_2=false→Jy8 x)∧Tw (Kda x x_2=false→Bd 0 (Ke4 x x_2)))∧Br (bif Kda x x_2 then true else List.getD (Kfh x x_2) 0 (0:Int) !=0) Z73 (∃(x_3:Nat),Si (Z3 x) (Ln (Jdb (hM x) x_2)=Z3 x∧0=Nc x_3∧Sf x (jrI (itm (pm x) x_2)=jrI (iM x)∧Jdb (hM x) x_2=Jq5 x∧(Jy4 x x_2).1=J22 x∧(J5c x x_2).1=rM x))∧Z90 x_3 x∧∀(x_4:Nat),Z90 x_4 x→Br (Juy x_4 x) (Tw (Bd (Nc x_4) (J65 x))∧T2 (Z20 x_4∧lOk (jrI (iM x))) (T2 (Kdu x x_4→Bd (Nc x_4) (Ln (J22 x))) ((Kdu x x_4→Z20 x_4)∧(Kcv x x_4→Z20 x_4)∧T2 (Kcv x x_4→Bd (Nc x_4+1) (Ln (rM x))) ((Kcp x x_4=false→Kih x x_4)∧(Kbj x x_4=false→Kih x x_4)∧(Jti x x_4→Z20 x_4)∧(Jti x x_4→Iw (Nc x_4+2))∧(Jti x x_4→Iw (Khz x x_4))∧(Jti x x_4→lOk (jrI (iM x)))∧(Jti x x_4→List.length (jrI (iM x))≤900)∧(Jti x x_4→4≤1000000)∧(Jti x x_4→3≤1000000)∧(Jti x x_4→∀(s:ByteArray),s∈Kew→ByteArray.size s≤1000000)))∧Br (bif Kbd x x_4 then true else bif Kif x x_4 then Ya (jrI (iM x)) (Vq (jrI (iM x)) Ka [0,Nc x_4+1,Nc x_4+2,Khz x x_4] Kew) !=4 else false) Z73 (Z20 x_4∧∃(y:Nat),Si (Z3 x) (Si (Z3 x) (Z83 x_4 y∧Sf x (Sf (jrI (iM x)) (Sf (Jq5 x) (Sf (J22 x) (rM x=rM x))))))∧Jxk y x x_4))) ((Jy8 x∧lOk (jrI (iM x)))∧(Kgc x=false→Iw (2*Z3 x))∧Br (bif Kgc x then true else decide (2*Z3 x<Kim x)) Z73 (∃(x_5:Nat),Si (Z3 x) (Kim x=Ln (mM x)∧0=Nc x_5∧Sf x (jrI (iM x)=Z16 x x_5∧Sf (Jq5 x) ((J60 x).1=mM x)))∧x_5≤List.length (mM x)∧∀(x_6:Nat),x_6≤List.length (mM x)→Br (decide (Nc x_6<Ln (mM x))) (Tw (Bd (Nc x_6) (Ln (mM x)))∧∃(x0:Nat×Nat),Si (Z3 x) (Si (Ln (mM x)) (Nc x_6=Nc x0.1∧0=Juw x x0∧Si (Z3 x) (0=Nc x0.2∧Sf x (Z16 x x_6=Z30 x x0∧Sf (Jq5 x) (Sf (mM x) ((List.getD (mM x) x_6 (B0,0)).1=Z74 x x0∧(List.getD (mM x) x_6 (B0,0)).2=(List.getD (mM x) x0.1 Fy).2))))))∧(J6r x0 x∧x0.1=x0.1)∧∀(x_7:Nat×Nat),J6r x_7 x∧x_7.1=x0.1→Br (decide (Nc x_7.2<Z3 x)) (Tw (Bd (Nc x_7.2) (Z3 x))∧Kdw x_7∧Br (Lb (Z74 x x_7) (ByteArray.mk (Array.mk (112::([]++(Vr (Nc x_7.2)).data.toList))))) ((Iw (J2z x x_7).1∧Z92)∧Iw (Nc x_7.2+1)∧∃(y:Nat×Nat),Si (Z3 x) (Si (Ln (mM x)) (Nc x_7.1=Nc y.1∧Int.tmod (J2z x x_7).1 251=Juw x y∧J36 x x_7 y))∧J4t y x x0 x_7) (Kdw x_7∧Br (Lb (Z74 x x_7) (ByteArray.mk (Array.mk (113::([]++(Vr (Nc x_7.2)).data.toList))))) ((Iw (J2z x x_7).2∧Z92)∧Iw (Nc x_7.2+1)∧∃(y:Nat×Nat),Si (Z3 x) (Si (Ln (mM x)) (Nc x_7.1=Nc y.1∧Int.tmod (J2z x x_7).2 251=Juw x y∧J36 x x_7 y))∧J4t y x x0 x_7) (Iw (Nc x_7.2+1)∧∃(y:Nat×Nat),Si (Z3 x) (Si (Ln (mM x)) (Nc x_7.1=Nc y.1∧Juw x x_7=Juw x y∧J36 x x_7 y))∧J4t y x x0 x_7))) ((Jy8 x∧lOk (Z30 x x_7)∧List.length (Z30 x x_7)≤900∧4≤1000000∧1≤1000000∧(∀(s:ByteArray),s∈[Z74 x x_7]→ByteArray.size s≤1000000)∧Ya (Z30 x x_7) (Kd2 x x_7)=0)∧Br false Z73 (Iw (Nc x_7.1+1)∧∃(y:Nat),Si (Z3 x) (Si (Ln (mM x)) (Nc x_7.1+1=Nc y∧Sf x (Z30 x x_7++[Kd2 x x_7]=Z16 x y∧Sf (Jq5 x) (mM x=mM x))))∧y≤List.length (mM x)∧List.length (mM x)-y<List.length (mM x)-x_6))) (T2 (Jy8 x) (lOk (Z16 x x_6)∧List.length (Z16 x x_6)≤900∧2≤1000000∧0≤1000000∧(∀(s:ByteArray),s∈[]→ByteArray.size s≤1000000)∧Ya (Z16 x x_6) (Ke5 x x_6)=0)∧Br false Z73 (∃(x_7:Nat),(J65 x=Z3 x∧0=Nc x_7∧Sf x (Z16 x x_6++[Ke5 x x_6]=jS x∧Kia x))∧Z90 x_7 x∧∀(x_8:Nat),Z90 x_8 x→Br (Juy x_8 x) (Tw (Bd (Nc x_8) (J65 x))∧(Z20 x_8∧lOk (jS x))∧Br (bif Jac (jS x) (Nc x_8+1) !=0 then true else !((D8 (jS x) (Nc x_8+1)).1==Jus x x_8&&((D8 (jS x) (Nc x_8+1)).2.1==Jus x x_8&&((D8 (jS x) (Nc x_8+1)).2.2==Jus x x_8&&true)))) Z73 (Z20 x_8∧∃(y:Nat),Si (Z3 x) (Z83 x_8 y∧Sf x (Sf (jS x) (Kia x)))∧Jxk y x x_8)) (Tw (true=true)))))))))))))=_).mp ?_
 delta Z3 Z16 Z20 Z30 Z37 Z73 Z74 Z83 Z90 Z92 Ju0 Jxu Jxt Jy8 J22 Jq5 Jy4 Juy Jxo Jxn J2z J2x Juw J65 Jyx Jtk J60 J2n J2m Jus J6r Kim Jyr J6l Kii J2b Kih Kig Kif Kie Kic Kia Khz J18 Khi Jxk Kgc J5c Kfl Kfh Ke8 Ke5 Ke4 J4t Kew Ket J4q Kem Kd2 Kd0 J39 Kdx Kdw Kdu Kdm Kdl J36 Jxh Kda J1k Kcw Kcv Kcq Kcp Kbj Kbd Jti Br Iw Bd T2 Tw Sf Si Ln Nc Gt B0 Lb Kn Ka Jk
 intro hx
 refine⟨fun _=>⟨rfl,rfl⟩,fun h=>⟨rfl,fun h=>(by cases h),fun _=> ?_⟩⟩
 have hl:1≤x.length∧x.length≤6:=by
  by_cases q:(x.length:Int)<1
  ·rw[decide_eq_true q] at h;cases h
  ·rw[decide_eq_false q] at h
   have:=of_decide_eq_false h
   omega
 have M:=mkt hx hl.2
 refine⟨(0:Nat),⟨rfl,rfl,rfl,rfl,rfl,rfl,rfl⟩,Nat.zero_le _,fun(k:Nat) hk=>⟨fun h1=> ?_,fun h1=> ?_⟩⟩
 ·have hlt:k<x.length:=Int.ofNat_lt.1 (of_decide_eq_true h1)
  obtain⟨R1,R2,R3,R4,_⟩:=Jj2 (Jzm hx hl.2) (k:=k) (by rw[Jn9];exact hlt) (M.at0 hk)
  have ts:=Lj (k:Int) (by omega) (by omega)
  have z1:∀b,∀s∈[nmI b k,vA1,vB1],s.size≤1000000:=fun b=>(Jpn (n:=0) (x:=(b,k,0)) (show k<6 by omega)).2.2
  have n0:(⟨⟨112::([]++(Vr (k:Int)).data.toList)⟩⟩:ByteArray)=nmI false k:=rfl
  have n1:(⟨⟨113::([]++(Vr (k:Int)).data.toList)⟩⟩:ByteArray)=nmI true k:=rfl
  have e0:∀(l:List Ev) b p,Vq l Ka [0,(k:Int)+1,(k:Int)+2,p] [nmI b k,vA1,vB1]=evI ((l.length:Int)+1) (b,k,p):=fun _ _ _=>rfl
  have l1:∀{j},j≤x.length→(∀y∈itm (pm x) j,y.2.1<6)∧(itm (pm x) j).length≤12:=fun{j} hj=>⟨fun y hy=>by have:=(Hk hy).1;omega,by have:=Jfc (p:=pm x) (k:=j);omega⟩
  have k0:lOk (jrI (itm (pm x) k)):=Jkk (l1 hk).1 (by have:=(l1 hk).2;omega)
  have q0:(jrI (itm (pm x) k)).length≤15:=by rw[Jd6];have:=(l1 hk).2;omega
  have b0:=M.fb k
  have b1:=M.gb k
  have bx:=J7d hx k
  have fin:∀J,J=jrI (itm (pm x) (k+1))→(-9223372036854775808≤(k:Int)+1∧(k:Int)+1≤9223372036854775807)∧∃y:Nat,(True∧(k:Int)+1=y∧True∧J=jrI (itm (pm x) y)∧tkL (fM x) k++[((k:Int)+1,fM x k)]=tkL (fM x) y∧tkL (gM x) k++[((k:Int)+1,gM x k)]=tkL (gM x) y∧Jdb (hM x) k++[fM x k+gM x k]=Jdb (hM x) y)∧y≤x.length∧x.length-y<x.length-k:=fun J hJ=>⟨by omega,k+1,⟨trivial,rfl,trivial,hJ,Jne.symm,Jne.symm,Jrw.symm⟩,by omega,by omega⟩
  rw[←Joa.1,←Joa.2]
  simp only[n0,n1,e0,Jjr,Jng]
  have fb:∀J,J=jrI (itm (pm x) (k+1))→(false=true→True∧false=true)∧(True→_):=fun J hJ=>⟨fun h=>(by cases h),fun _=>fin J hJ⟩
  refine⟨⟨by omega,by omega⟩,⟨by omega,fun h=>(by cases h),by omega,fun h=>(by cases h)⟩,⟨by omega,by omega,by omega,by omega⟩,⟨by omega,by omega⟩,fun h1=> ?_,fun h1=> ?_⟩
  ·have h1:0<fM x k:=of_decide_eq_true h1
   obtain⟨a1,a2⟩:=R1 h1
   have k1:lOk (jrI (Hu (pm x) k)):=by rw[a2];exact Jki k0 (by omega) (Jpn (show k<6 by omega))
   have q1:(jrI (Hu (pm x) k)).length≤16:=by rw[a2,List.length_append,List.length_singleton];omega
   refine⟨by omega,by omega,⟨by decide,by omega,by omega,by omega⟩,⟨k0,by omega,by decide,by decide,z1 false,a1⟩,fun h=>(by cases h),fun _=>⟨fun h2=> ?_,fun h2=> ?_⟩⟩
   ·have h2:0<gM x k:=of_decide_eq_true h2
    obtain⟨a3,a4⟩:=R3 h2
    rw[show jrI (itm (pm x) k)++[evI (((jrI (itm (pm x) k)).length:Int)+1) (false,k,fM x k)]=jrI (Hu (pm x) k) from a2.symm]
    exact⟨by omega,by omega,⟨by decide,by omega,by omega,by omega⟩,⟨k1,by omega,by decide,by decide,z1 true,a3⟩,fb _ a4.symm⟩
   ·have h2:¬0<gM x k:=of_decide_eq_false h2
    exact fb _ (by rw[R4 h2,a2])
  ·have h1:¬0<fM x k:=of_decide_eq_false h1
   have a2:=R2 h1
   refine⟨fun h=>(by cases h),fun _=>⟨fun h2=> ?_,fun h2=> ?_⟩⟩
   ·have h2:0<gM x k:=of_decide_eq_true h2
    obtain⟨a3,a4⟩:=R3 h2
    rw[a2] at a3 a4
    exact⟨by omega,by omega,⟨by decide,by omega,by omega,by omega⟩,⟨k0,by omega,by decide,by decide,z1 true,a3⟩,fb _ a4.symm⟩
   ·have h2:¬0<gM x k:=of_decide_eq_false h2
    exact fb _ (by rw[R4 h2,a2])
 ·have hkn:k=x.length:=by have:=of_decide_eq_false h1;omega
  subst hkn
  obtain⟨r1,r2,r3,r4⟩:=Jvh (f:=hM x) (n:=x.length) (fun i=>by have:=M.fb i;have:=M.gb i;show 0≤fM x i+gM x i∧fM x i+gM x i≤500;omega) hl.2 hl.1
  have m1:=Jot (f:=fM x) (g:=gM x) M.fb M.gb hl.2
  have m1:Ua (tkL (fM x) x.length) (tkL (gM x) x.length)=(tkL (hM x) x.length,0):=m1
  have r2':(((Vf rl 0 (tkL (hM x) x.length) ((x.length:Int)+1)).1.length:Int) !=(x.length:Int)+1)=false:=by rw[r2];exact bne_self_eq_false _
  simp only[m1,r1,Jjr,Jng,bne_self_eq_false,cond_false,r3,r2']
  refine⟨⟨by omega,by omega⟩,fun h=>(by cases h),fun _=>⟨⟨by omega,by omega,by omega⟩,⟨fun _=>by omega,fun _=>⟨by omega,by rw[r2];omega⟩,fun _=>⟨by omega,by rw[r2];omega⟩⟩,fun h=>(by cases h),fun _=>⟨(0:Nat),⟨trivial,trivial,rfl,trivial,trivial,trivial,trivial,trivial⟩,Nat.zero_le _,fun(k:Nat) hk=>⟨fun h1=> ?_,fun h1=> ?_⟩⟩⟩⟩
  ·have hlt:k<x.length:=Int.ofNat_lt.1 (of_decide_eq_true h1)
   obtain⟨a1,a2⟩:=Jn0 (s:=vA1) (h:=(k:Int)+1) (M.at0 (Nat.le_refl _)) (.inl rfl) (by omega)
   obtain⟨b1,b2⟩:=Jn0 (s:=vB1) (h:=(k:Int)+1) (M.at0 (Nat.le_refl _)) (.inr rfl) (by omega)
   have ld:=M.ld hlt
   rw[ld] at a2 b2
   have f1:=M.fb k
   have g1:=M.gb k
   have hb:0≤hM x k∧hM x k≤500:=by show 0≤fM x k+gM x k∧fM x k+gM x k≤500;omega
   have t1:=Jzh (f:=hM x) hlt
   have t2:=Jnh (f:=hM x) hlt
   have t3:(rM x).getD ((k:Int)+1).toNat 0=hM x k:=by rw[show((k:Int)+1).toNat=k+1 by omega];exact r4 k hlt
   have ez:lOk (jrI (iM x)):=Jkk (fun y hy=>by have:=(M.sm y hy).1;omega) (by have:=M.its.len;omega)
   have eq:(jrI (iM x)).length≤15:=by rw[Jd6];have:=M.its.len;omega
   have mz:∀s∈[Jgd,vB1,vA1],s.size≤1000000:=by decide
   have fin:∃y:Nat,(k:Int)+1=y∧y≤x.length∧x.length-y<x.length-k:=⟨k+1,rfl,by omega,by omega⟩
   have r2:(rM x).length=x.length+1:=r2
   by_cases q:0<hM x k
   ·have mo:=Jvu (h:=(k:Int)+1) (M.at0 (Nat.le_refl _)) M.its (by omega) (by rw[ld];omega)
    rw[ld] at mo
    have mo:Ya (jrI (iM x)) (Vq (jrI (iM x)) Ka [0,(k:Int)+1,(k:Int)+2,1000-hM x k+1] [Jgd,vB1,vA1])=4:=by
     rw[show(k:Int)+2=(k:Int)+1+1 by omega];exact mo
    simp only[a1,a2,b1,b2,t1,t2,t3,decide_eq_true q,mo,bne_self_eq_false,beq_self_eq_true,cond_false,cond_true,Bool.and_true,Bool.not_true,true_implies,reduceCtorEq,false_implies,and_true,true_and]
    repeat' first|exact fin|exact ez|exact mz|apply And.intro|omega
   ·simp only[a1,a2,b1,b2,t1,t2,t3,decide_eq_false q,bne_self_eq_false,beq_self_eq_true,cond_false,Bool.and_true,Bool.not_true,true_implies,reduceCtorEq,false_implies,and_false,and_true,true_and]
    repeat' first|exact fin|exact ez|apply And.intro|omega
  ·have hkn:k=x.length:=by have:=of_decide_eq_false h1;omega
   subst hkn
   have A0:=M.at0 (Nat.le_refl x.length)
   have sx:∀y∈iM x,(y.2.1:Int)+1<uM x:=fun y hy=>by have:=(M.sm y hy).1;show(y.2.1:Int)+1<(x.length:Int)+1;omega
   have s0:∀y∈iM x,y.2.1<6:=fun y hy=>by have:=(M.sm y hy).1;omega
   have un:7≤uM x+6∧uM x≤1000:=by show 7≤(x.length:Int)+1+6∧(x.length:Int)+1≤1000;omega
   obtain⟨s1,s2⟩:=Jvv A0 M.its (by omega) sx
   have s3:mM x=(iM x).map fun y=>(nmI y.1 y.2.1,(y.2.1:Int)+1):=congrArg Prod.fst s2
   have s4:(Xp (jrI (iM x)) ((x.length:Int)+1)).2=0:=congrArg Prod.snd s2
   have s5:(mM x).length=(iM x).length:=by rw[s3,List.length_map]
   have s6:(iM x).length≤2*x.length:=Jfc
   have s7:decide (2*(x.length:Int)<((Xp (jrI (iM x)) ((x.length:Int)+1)).1.length:Int))=false:=decide_eq_false (by have:(Xp (jrI (iM x)) ((x.length:Int)+1)).1.length=(iM x).length:=s5;omega)
   have gm:∀{m},m<(mM x).length→(mM x).getD m Fy=(nmI ((iM x).getD m U8).1 ((iM x).getD m U8).2.1,(((iM x).getD m U8).2.1:Int)+1):=fun{m} hm=>by rw[s3,Xg (d:=U8) (by omega)]
   have met:=fun{m} (hm:m≤(iM x).length)=>Jz3 A0 M.its un sx hm
   have ez:lOk (jrI (iM x)):=Jkk s0 (by omega)
   have zm:=fun{m} (hm:m≤(iM x).length)=>Jo4 (u:=uM x) s0 (by omega) hm
   have nm:=fun{m} (hm:m≤(iM x).length)=>Jfb (u:=uM x) hm
   have B0:=Jqp (u:=uM x) (met (Nat.le_refl _)).1 (by rw[nm (Nat.le_refl _)];omega) M.its (by unfold tkM;split<;>omega) (by omega)
   have zs:lOk (jS x):=Jki (zm (Nat.le_refl _)) (by rw[nm (Nat.le_refl _)];omega) ⟨by show(0:Nat)≤_;decide,by show(2:Nat)≤_;decide,fun s hs=>(by cases hs)⟩
   simp only[s4,s7,bne_self_eq_false,cond_false]
   refine⟨⟨by omega,ez⟩,fun _=>by omega,fun h=>(by cases h),fun _=>⟨(0:Nat),⟨trivial,trivial,rfl,trivial,rfl,trivial,trivial⟩,Nat.zero_le _,fun(m:Nat) hm=>⟨fun h1=> ?_,fun h1=> ?_⟩⟩⟩
   ·have hlt:m<(mM x).length:=Int.ofNat_lt.1 (of_decide_eq_true h1)
    have hml:m<(iM x).length:=by omega
    have g:=gm hlt
    have hy:=Jf (d:=U8) hml
    obtain⟨y1,y2,y3⟩:=M.sm _ hy
    refine⟨⟨by omega,by omega⟩,((m,0):Nat×Nat),⟨trivial,trivial,rfl,rfl,trivial,rfl,trivial,rfl,trivial,trivial,rfl,rfl⟩,⟨⟨hlt,Nat.zero_le _⟩,trivial⟩,fun z hz=> ?_⟩
    obtain⟨m',j⟩:=z
    obtain⟨⟨_,hj⟩,e⟩:=hz
    have e:m'=m:=e
    subst e
    have hj:j≤x.length:=hj
    dsimp only
    refine⟨fun h2=> ?_,fun h2=> ?_⟩
    ·have hjl:j<x.length:=Int.ofNat_lt.1 (of_decide_eq_true h2)
     have ts:=Lj (j:Int) (by omega) (by omega)
     have bx:=J7d hx j
     have fin:∀v,v=Jl5 (pm x) ((mM x).getD m' Fy).1 (j+1)→(-9223372036854775808≤(j:Int)+1∧(j:Int)+1≤9223372036854775807)∧∃y:Nat×Nat,(True∧True∧(m':Int)=y.1∧v=Jl5 (pm x) ((mM x).getD y.1 Fy).1 y.2∧True∧(j:Int)+1=y.2∧True∧jrM (uM x) (iM x) m'=jrM (uM x) (iM x) y.1∧True∧True∧((mM x).getD m' Fy).1=((mM x).getD y.1 Fy).1∧((mM x).getD m' Fy).2=((mM x).getD y.1 Fy).2)∧((y.1<(mM x).length∧y.2≤x.length)∧y.1=m')∧x.length-y.2<x.length-j:=fun v hv=>⟨by omega,(m',j+1),⟨trivial,trivial,rfl,hv,trivial,rfl,trivial,rfl,trivial,trivial,rfl,rfl⟩,⟨⟨hlt,by show j+1≤x.length;omega⟩,rfl⟩,by show x.length-(j+1)<x.length-j;omega⟩
     have pk:=Joa (x:=x) (k:=j)
     refine⟨⟨by omega,by omega⟩,⟨by decide,by omega,by omega,by omega⟩,fun q1=>⟨⟨by omega,fun h=>(by cases h)⟩,fin _ ?_⟩,fun q1=>⟨⟨by decide,by omega,by omega,by omega⟩,fun q2=>⟨⟨by omega,fun h=>(by cases h)⟩,fin _ ?_⟩,fun q2=>fin _ ?_⟩⟩
     ·have q1:(((mM x).getD m' Fy).1.toList==(nmI false j).toList)=true:=q1
      unfold Jl5
      rw[q1,cond_true,←pk.1];rfl
     ·have q1:(((mM x).getD m' Fy).1.toList==(nmI false j).toList)=false:=q1
      have q2:(((mM x).getD m' Fy).1.toList==(nmI true j).toList)=true:=q2
      rw[Jl5,q1,q2,cond_true,cond_false,←pk.2];rfl
     ·have q1:(((mM x).getD m' Fy).1.toList==(nmI false j).toList)=false:=q1
      have q2:(((mM x).getD m' Fy).1.toList==(nmI true j).toList)=false:=q2
      rw[Jl5,q1,q2,cond_false,cond_false]
    ·have hjn:j=x.length:=by have:=of_decide_eq_false h2;omega
     subst hjn
     have pk:Jl5 (pm x) ((mM x).getD m' Fy).1 x.length=((iM x).getD m' U8).2.2:=by
      rw[g,Jn7 (s0 _ hy) hl.2,if_pos y1,y2]
     have ev:Vq (jrM (uM x) (iM x) m') Kn [(x.length:Int)+1,((mM x).getD m' Fy).2,Jl5 (pm x) ((mM x).getD m' Fy).1 x.length,Jl5 (pm x) ((mM x).getD m' Fy).1 x.length] [((mM x).getD m' Fy).1]=evM (((jrM (uM x) (iM x) m').length:Int)+1) (uM x) ((iM x).getD m' U8):=by rw[pk,g];rfl
     have nz:∀s∈[((mM x).getD m' Fy).1],s.size≤1000000:=fun s hs=>by
      rw[List.mem_singleton.1 hs,g]
      exact Jvr (by have:=s0 _ hy;omega)
     have len:=nm (m:=m') (by omega)
     simp only[ev]
     exact⟨⟨by omega,zm (by omega),by omega,by decide,by decide,nz,(met (by omega)).2 hml⟩,fun h=>(by cases h),fun _=>⟨by omega,m'+1,⟨trivial,trivial,rfl,trivial,(Jap hml).symm,trivial,trivial⟩,by omega,by omega⟩⟩
   ·have hmn:m=(iM x).length:=by have:=of_decide_eq_false h1;omega
    subst hmn
    have len:=nm (Nat.le_refl (iM x).length)
    refine⟨⟨by omega,by omega,zm (Nat.le_refl _),by omega,by decide,by decide,fun s hs=>(by cases hs),B0.1⟩,fun h=>(by cases h),fun _=>⟨(0:Nat),⟨trivial,rfl,trivial,rfl,trivial⟩,Nat.zero_le _,fun(k:Nat) hk=>⟨fun h1=> ?_,fun _=>⟨trivial,trivial⟩⟩⟩⟩
    have hlt:k<x.length:=Int.ofNat_lt.1 (of_decide_eq_true h1)
    obtain⟨h1,h2⟩:=Jv8 (h:=(k:Int)+1) B0.2 M.its (by show 0≤(k:Int)+1∧(k:Int)+1<(x.length:Int)+1;omega) un.2
    rw[M.ld hlt] at h2
    simp only[h1,h2,Jnh (f:=hM x) hlt,bne_self_eq_false,beq_self_eq_true,cond_false,Bool.and_true,Bool.not_true,true_implies,reduceCtorEq,false_implies,and_true,true_and]
    exact⟨⟨by omega,by omega⟩,⟨by omega,zs⟩,by omega,k+1,rfl,by omega,by omega⟩
end Go.Proofs.YtdpcaknnhcnkpaaGreat

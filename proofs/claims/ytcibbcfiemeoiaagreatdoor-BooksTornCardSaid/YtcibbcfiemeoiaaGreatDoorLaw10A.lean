/- The law walked: part of the proof. -/
import Derived.Test.YtcibbcfiemeoiaaGreatDoorFC
set_option linter.unusedSimpArgs false
set_option linter.unusedVariables false
set_option maxRecDepth 20000
namespace Go.Proofs.YtcibbcfiemeoiaaGreatDoor
open Go.Sx
set_option maxHeartbeats 20000000
theorem Jzc {l:List Ev} (h:J3d l 20=true):lOk l∧l.length≤20∧(Je l).2.2=0:=by
 unfold J3d at h
 cases q:Xw l 20 with
 |false=>rw[q] at h;cases h
 |true=>
  rw[q,cond_true] at h
  obtain⟨h1,h2⟩:=Jl5 (by decide) q
  exact⟨h1,by omega,by simpa using h⟩
abbrev sC3:Sch:= .prod (.int .u16) (.prod (.int .u16) (.int .u16))
abbrev Kva (l:List Ev) (a b c:Int):Ann:={X:=Nat,σ:=fun k=>⟨3,[(0, .one (.sl 0)),(3, .one (.ptr 1 0)),(5, .one (.str (Xo l k))),(6, .one (.sl 2)),(51, .one (.sl 0)),(52, .one (.int .i64 l.length)),(53, .one (.int .i64 k))],[(0, .imm 67 sEv l),(1, .box 133 [.int .u16 a, .int .u16 b, .int .u16 c]),(2, .own 3 sI (Lz l k))]⟩,inv:=fun k=>k≤l.length,mu:=fun k=>l.length-k}
abbrev Ku9 (l:List Ev) (a b c z:Int):Ann:={X:=Nat,σ:=fun k=>⟨3,[(0, .one (.sl 0)),(3, .one (.ptr 1 0)),(5, .one (.str (Xo l l.length))),(6, .one (.sl 2)),(11, .one (.int .i64 z)),(12, .one (.int .i64 (Yi l z k))),(86, .one (.sl 2)),(87, .one (.int .i64 l.length)),(88, .one (.int .i64 k))],[(0, .imm 67 sEv l),(1, .box 133 [.int .u16 a, .int .u16 b, .int .u16 c]),(2, .own 3 sI (Lz l l.length))]⟩,inv:=fun k=>k≤l.length,mu:=fun k=>l.length-k}
abbrev rsT (l:List Ev) (a b c:Int) (h g:Ka):List (Nat×Res):=[(0, .imm 67 sEv l),(1, .box 133 [.int .u16 a, .int .u16 b, .int .u16 c]),(2, .own 3 sI (Lz l l.length)),(3, .box 212 [.sl 4, .sl 5, .sl 6]),(4, .own 67 sEv h.1),(5, .own 67 sEv h.2.1),(6, .own 105 Jle h.2.2),(7, .box 212 [.sl 8, .sl 9, .sl 10]),(8, .own 67 sEv g.1),(9, .own 67 sEv g.2.1),(10, .own 105 Jle g.2.2)]
abbrev Ku8 (l:List Ev) (a b c:Int) (w:Nat):Ann:={X:=Nat,σ:=fun k=>⟨12,[(0, .one (.sl 0)),(3, .one (.ptr 1 0)),(5, .one (.str (Xo l l.length))),(6, .one (.sl 2)),(18, .one (.ptr 3 0)),(20, .one (.ptr 7 0)),(150, .one (.sl 11)),(151, .one (.int .i64 (l.length-w))),(152, .one (.int .i64 k))],rsT l a b c (He l (w+k)) (He l l.length)++[(11, .imm 67 sEv (l.drop w))]⟩,inv:=fun k=>w+k≤l.length,mu:=fun k=>l.length-k}
abbrev qsT:List ByteArray:=[⟨⟨[109,105,115,115,105,110,103]⟩⟩,⟨⟨[111,117,116,97,103,101,115]⟩⟩,⟨⟨[112,101,114,109,105,116,115]⟩⟩,⟨⟨[115,101,116,116,108,101,100]⟩⟩,⟨⟨[98,97,108,97,110,99,101,32,97]⟩⟩,⟨⟨[114,97,116,101,32,98]⟩⟩,⟨⟨[98,105,108,108,32,111,49]⟩⟩]
abbrev Ku7 (l:List Ev) (a b c:Int) (q:List ByteArray):Ann:={X:=Nat,σ:=fun k=>⟨12,[(0, .one (.sl 0)),(3, .one (.ptr 1 0)),(5, .one (.str (Xo l l.length))),(6, .one (.sl 2)),(18, .one (.ptr 3 0)),(20, .one (.ptr 7 0)),(166, .one (.sl 11)),(167, .one (.int .i64 7)),(168, .one (.int .i64 k))],rsT l a b c (He l l.length) (He l l.length)++[(11, .own 9 .str q)]⟩,inv:=fun k=>k≤7,mu:=fun k=>7-k}
theorem Kql:Y4 ⟨⟨[109,105,115,115,105,110,103,44,111,117,116,97,103,101,115,44,112,101,114,109,105,116,115,44,115,101,116,116,108,101,100,44,98,97,108,97,110,99,101,32,97,44,114,97,116,101,32,98,44,98,105,108,108,32,111,49]⟩⟩ ⟨⟨[44]⟩⟩=qsT:=by
 rw[show Y4 ⟨⟨[109,105,115,115,105,110,103,44,111,117,116,97,103,101,115,44,112,101,114,109,105,116,115,44,115,101,116,116,108,101,100,44,98,97,108,97,110,99,101,32,97,44,114,97,116,101,32,98,44,98,105,108,108,32,111,49]⟩⟩ ⟨⟨[44]⟩⟩=_ from Lq _ 44]
 kernel_rfl
abbrev zL (l:List Ev) (a:Int):Int:=a.tmod ((Xo l l.length).size+1)
theorem Js4 {h:Ka} {k:Nat} (hk:k<7):(doF h (qsT.getD k Ja)).1=h∧(qsT.getD k Ja).size≤1000000:=by
 have hq:Fy ((doW (qsT.getD k Ja)).getD 0 Ja)=true:=by
  rcases(show k=0∨k=1∨k=2∨k=3∨k=4∨k=5∨k=6 by omega) with h|h|h|h|h|h|h<;>subst h<;>kernel_rfl
 refine⟨?_, ?_⟩
 ·unfold doF
  by_cases q:do1 (qsT.getD k Ja)≠0
  ·rw[if_pos q]
  ·rw[if_neg q,if_pos hq]
 ·rcases(show k=0∨k=1∨k=2∨k=3∨k=4∨k=5∨k=6 by omega) with h|h|h|h|h|h|h<;>subst h<;>decide
theorem Jxq {l:List Ev} {r:Nat} (h:r≤l.length):(cat l).take (Ja5 l r).toNat=cat (l.take r)∧(cat l).drop (Ja5 l r).toNat=cat (l.drop r):=by
 have e:cat l=cat (l.take r)++cat (l.drop r):=by rw[←Jgz,List.take_append_drop]
 rw[Jcm,Int.toNat_natCast,e]
 exact⟨List.take_left' rfl,List.drop_left' rfl⟩
theorem Jch {l:List Ev}:(Xo l l.length).data.toList=cat l:=by rw[H8,List.take_length];rfl
theorem Jwr {l:List Ev} {x y:Int} {r:Nat} (hr:r<l.length) (hx:x=Ja5 l r) (hy:y=Ja5 l (r+1)):(⟨⟨((Xo l l.length).extract 0 x.toNat).data.toList++((Xo l l.length).extract y.toNat (Xo l l.length).size).data.toList⟩⟩:ByteArray)=bs (cat (l.take r)++cat (l.drop (r+1))):=by
 rw[Fc,Fd,Jch,hx,hy]
 show bs ((cat l).take _++(cat l).drop _)=_
 rw[(Jxq (by omega)).1,(Jxq (by omega)).2]
theorem Kek {l:List Ev} {x:Int} {c:UInt8} (h0:0≤x) (h1:x<(Xo l l.length).size):(⟨⟨((Xo l l.length).extract 0 x.toNat).data.toList++[c]++((Xo l l.length).extract (x+1).toNat (Xo l l.length).size).data.toList⟩⟩:ByteArray)=bs ((cat l).set x.toNat c):=by
 have hz:(Xo l l.length).size=(cat l).length:=by rw[H8,List.take_length,Kc]
 rw[hz] at h1
 rw[Fc,Fd,Jch,List.set_eq_take_append_cons_drop,if_pos (by omega),show(x+1).toNat=x.toNat+1 by omega]
 show bs ((cat l).take _++[c]++(cat l).drop _)=_
 rw[List.append_assoc]
 rfl
theorem Joh (e:Ev):Hi e e=true:=by
 unfold Hi J2h
 rw[Jei Js0,Jei Jsz]
 simp
theorem Jts {l:List Ev} {w x:Nat}:(l.drop w).getD x ev0=l.getD (w+x) ev0:=by
 rw[List.getD_eq_getElem?_getD,List.getElem?_drop,←List.getD_eq_getElem?_getD]
theorem Kpp {c:Int} (h:0≤c):IntKind.u8.wrap (IntKind.u16.wrap (32+c.tmod 200))=32+c.tmod 200∧0≤c.tmod 200∧c.tmod 200<200:=by
 have h1:0≤c.tmod 200:=Int.tmod_nonneg _ h
 have h2:c.tmod 200<200:=Int.tmod_lt_of_pos _ (by decide)
 refine⟨?_,h1,h2⟩
 have e:IntKind.u16.wrap (32+c.tmod 200)=32+c.tmod 200:=by
  simp[IntKind.wrap,IntKind.signed,IntKind.bits]
  omega
 rw[e,J02 (by omega) (by omega)]
def Kfa:Con:={args:=[.val false (.list 67 sEv), .val true sC3],ress:=[Bo],owns:=[],pre:=fun(_,(a,b,c),_)=>[0≤a∧a<65536,0≤b∧b<65536,0≤c∧c<65536],spec:=fun _=>(true,())}
def Z12 (a:List Ev):=Xo a (List.length a)
def Z19 (a:List Ev):=Lz a (List.length a)
def Z20 (a:List Ev):=He a (List.length a)
def Z42 (a:List Ev):=(Z20 a).2
def Z49 (a:List Ev):=(Z20 a).1
def Z69 (a:List Ev):=(Z42 a).2
def Z70 (a:List Ev):=(Z42 a).1
def Z77 (a:List Ev) (b:Int) (c:Nat):=Nc (Yi a (zL a b) c)
def Kdc (a:Int) (b:List Ev):=Int.tmod a (Z2 b)
def Kjp (a:List Ev):=Ln (Z19 a)
def Kjm (a:List Ev) (b:Int):=Yi a (zL a b) (List.length a)
def Jt6 (a:List Ev):=Nc (ByteArray.size (Z12 a))
def Kpc (a:Int) (b:List Ev):=Kdc a b-1
def Kjc (a:List Ev):=Je (Jc (Z12 a)).1
def J9f (a:Int) (b:List Ev):=Int.tmod a (Jt6 b)
def Kcx (a:List Ev) (b:Int):=List.drop (Kjm a b) a
def Kcs (a:List Ev) (b:Int) (c:Nat):=He a (Kjm a b+c)
def J5m (a:List Ev) (b:Int) (c:Nat):=(Kcs a b c).2
def Kpa (a:List Ev) (b:Int):=Ln a-Nc (Kjm a b)
def Ki6 (a:Int) (b:List Ev):=J9f a b+1
def Ko8 (a:List Ev) (b:Int) (c:Nat):=Kjm a b+c≤List.length a
def K4t (a:List Ev):=(Z42 a).2=Z69 a
def K4q (a:List Ev):=(Z42 a).1=Z70 a
def Kcc (a:List Ev) (b:Int):=Jc (ByteArray.extract (Z12 a) 0 (Int.toNat (zL a b)))
def Kiy (a:List Ev) (b:Int):=(Kcc a b).2.2
def K4i (a:List Ev):=Jt6 a≤Jt6 a
def Koq (a:List Ev) (b:Int):=Gt (Z19 a) (Kdc b a) 0
def Koh (a:List Ev) (b:Int):=Je (Kcc a b).1
def Kog (a:List Ev):=((Z20 a).1,E2 (Z42 a))
def K33 (a:List Ev) (b:Int):=(Koh a b).1.2
def K3y (a:Int) (b:List Ev):=Bd (J9f a b) (Jt6 b)
def Kn2 (a:List Ev) (b:Int):=Gt (Z19 a) (Kpc b a) 0
def K3l (a:List Ev) (b:Int):=ByteArray.extract (Z12 a) 0 (Int.toNat (J9f b a))
def K3b (a:List Ev) (b:Int):=(0:Int)≤0∧0≤zL a b∧zL a b≤Jt6 a
def K2o (a:List Ev) (b:Int) (c:Nat):=List.getD (Kcx a b) c D5
def K2l (a:List Ev) (b:Int) (c:Nat):=(K2o a b c).2
def K2f (a:List Ev) (b:Int) (c:Nat):=(K2l a b c).2
def Km0 (a:List Ev) (b:Nat):=doF (Kog a) (List.getD qsT b B0)
def K1t (a:List Ev) (b:Nat):=(Km0 a b).2
def K1m (a:List Ev) (b:Nat):=(K1t a b).1
def K1l (a:List Ev) (b:Nat):=(Km0 a b).1.2
def K1j (a:List Ev) (b:Nat):=(K1t a b).2
def K0x (a:List Ev) (b:Int):=Nc (UInt8.toNat (Gt (Z12 a).data.toList (J9f b a) 0))
def K0j (a:List Ev) (b:Int):=ByteArray.extract (Z12 a) (Int.toNat (Ki6 b a)) (ByteArray.size (Z12 a))
def Kl4 (a:List Ev) (b:Int) (c:Nat):=((Kcs a b c).1,E2 (J5m a b c))
def K0b (a:List Ev) (b:Int):=ByteArray.extract (Z12 a) 0 (Int.toNat (Kn2 a b))
def Kz5 (a:List Ev) (b c:Nat) (d e f:Int):=Si (Ln a) (V0 b c∧Sf a (Si d (Si e (Si f (Z19 a=Z19 a)))))
def Kz3 (a:List Ev) (b:Nat):=(Km0 a b).1.1=Z49 a
def Kz2 (a:List Ev) (b:Int):=ByteArray.extract (Z12 a) (Int.toNat (Koq a b)) (ByteArray.size (Z12 a))
def Kz0 (a:List Ev) (b:Nat):=(K1l a b).1=Z70 a
def Kzz (a:List Ev) (b:Nat):=(K1l a b).2=Z69 a
def Kzy (a:List Ev) (b:Int):=ByteArray.size (Kz2 a b)
def Ky9 (a:List Ev) (b:Int):=(Kz2 a b).data.toList
def Kyu (a:List Ev) (b:Int):=K0x a b !=10
def Kx4 (a:List Ev) (b c:Int):=Array.mk ((K3l a b).data.toList++[UInt8.ofNat (Int.toNat (IntKind.wrap IntKind.u8 (IntKind.wrap IntKind.u16 (32+Int.tmod c 200))))])
def Kxo (a:List Ev) (b:Int):=bif Kiy a b !=0 then Kiy a b !=28 else false
def Kxn (a:List Ev) (b:Int):=0≤Koq a b∧Koq a b≤Jt6 a∧K4i a
def Kkp (a:List Ev) (b:Int):=Kxo a b=false
def Kxa (a:List Ev) (b:Nat):=Jtz (Xo a b) (J8q a b)
def Kw8 (a:List Ev) (b:Nat):=(Kxa a b).1
def Kw5 (a:List Ev) (b:Nat):=Nc (ByteArray.size (Kw8 a b))
def Kwl (a:List Ev) (b c:Int):=(Jc (ByteArray.mk (Array.mk ((Kx4 a b c).toList++(K0j a b).data.toList)))).2
def Kwa (a:List Ev) (b:Int) (c:Nat):=((K2o a b c).1,(K2l a b c).1,(K2f a b c).1,E2 (K2f a b c).2)
def Kv9 (a:List Ev) (b:Int) (c:Nat):=Jlf (Kwa a b c)
def Kj7 (a:List Ev) (b:Int) (c:Nat):=doF (Kl4 a b c) (Kv9 a b c)
def Kvx (a:List Ev) (b:Int) (c:Nat):=(Kj7 a b c).1.2
def J9s (a:List Ev) (b:Int):=Br (decide (1<Ln a)) ((Iw b∧Z72 a∧(Z2 a=0→False))∧Br (decide (0<Kdc b a)) ((Iw (Kpc b a)∧Tw (Bd (Kpc b a) (Kjp a)))∧(((0:Int)≤0∧0≤Kn2 a b∧Kn2 a b≤Jt6 a)∧T2 (Bd (Kdc b a) (Kjp a)) (Kxn a b∧Nc (ByteArray.size (K0b a b)+Kzy a b)≤9223372036854775807))∧Br ((Jc (ByteArray.mk (Array.mk ((K0b a b).data.toList++Ky9 a b)))).2.2 !=11) (false=true) (true=true)) ((T2 ((0:Int)≤0) (0≤Jt6 a)∧T2 (Bd (Kdc b a) (Kjp a)) (Kxn a b∧Nc (ByteArray.size (ByteArray.extract (Z12 a) 0 0)+Kzy a b)≤9223372036854775807))∧Br ((Jc (ByteArray.mk (Array.mk ((ByteArray.extract (Z12 a) 0 0).data.toList++Ky9 a b)))).2.2 !=11) (false=true) (true=true))) (true=true)
theorem ok10:Ok Tryz.prog 10 Kfa:=okW K94 Tryz.f10 (fun xx=>fun id=>if id=0 then some (Kva xx.1 xx.2.1.1 xx.2.1.2.1 xx.2.1.2.2) else if id=2 then some (Ku9 xx.1 xx.2.1.1 xx.2.1.2.1 xx.2.1.2.2 (zL xx.1 xx.2.1.1)) else if id=4 then some (Ku8 xx.1 xx.2.1.1 xx.2.1.2.1 xx.2.1.2.2 (Yi xx.1 (zL xx.1 xx.2.1.1) xx.1.length)) else if id=6 then some (Ku7 xx.1 xx.2.1.1 xx.2.1.2.1 xx.2.1.2.2 qsT) else none) fun xx=>by
 obtain⟨(l:List Ev),⟨(a:Int),(b:Int),(c:Int)⟩,_⟩:=xx
 refine(by kernel_rfl:(Bd a 65536→Bd b 65536→Bd c 65536→(20:Int)≤1000∧Br (bif !J3d l 20 then true else Z4 l) (true=true) (∃(x:Nat),(B0=Xo l x∧Si (Ln l) (0=Nc x∧Sf l (Si a (Si b (Si c (List.length (Lz l x)=0))))))∧x≤List.length l∧∀(x:Nat),x≤List.length l→Br (Z92 x l) (Tw (Z11 x l)∧(ByteArray.size (Xo l x)≤1000000000∧Knf l x∧Knj l x∧∀(s:ByteArray),s∈(Jt2 l x).1→ByteArray.size s≤1000000)∧Br (bif (Kxa l x).2 !=0 then true else decide (Kw5 l x≤Nc (ByteArray.size (Xo l x)))) (false=true) ((List.length (Lz l x)+1)*8≤140737488355328∧Z22 x∧∃(y:Nat),(Kw8 l x=Xo l y∧Si (Ln l) (V0 x y∧Sf l (Si a (Si b (Si c (Lz l x++[Kw5 l x]=Lz l y))))))∧Jzf y l x)) ((Iw a∧Iw (Nc (ByteArray.size (Xo l x))+1)∧(Nc (ByteArray.size (Xo l x))+(1:Int)=0→False))∧∃(x_1:Nat),(Xo l x=Z12 l∧Int.tmod a (Nc (ByteArray.size (Xo l x))+1)=zL l a∧0=Z77 l a x_1∧Ln (Lz l x)=Ln l∧0=Nc x_1∧Sf l (Si a (Si b (Si c (Lz l x=Z19 l)))))∧x_1≤List.length l∧∀(x:Nat),x≤List.length l→Br (Z92 x l) (Tw (Bd (Nc x) (Kjp l))∧Br (decide (List.getD (Z19 l) x 0≤zL l a)) (Iw (Z77 l a x+1)∧Z22 x∧∃(y:Nat),Sf (Z12 l) (Si (zL l a) (Z77 l a x+1=Z77 l a y∧Kz5 l x y a b c))∧Jzf y l x) (Z22 x∧∃(y:Nat),Sf (Z12 l) (Si (zL l a) (Z77 l a x=Z77 l a y∧Kz5 l x y a b c))∧Jzf y l x)) (K3b l a∧(K3b l a∧(Kiy l a=0∨Kiy l a=28)∧(Koh l a).2.2=0)∧(((Jc (Z12 l)).2.2=0∨(Jc (Z12 l)).2.2=28)∧(Kjc l).2.2=0)∧((Kkp l a→(0:Int)≤0∧0≤Z77 l a x∧Z77 l a x≤Ln l)∧(Kkp l a→List.length (Kcc l a).1≤1000000)∧(Kkp l a→∀(x:Ev),x∈(Kcc l a).1→J8z x))∧Br (bif bif bif bif bif Kxo l a then true else !eqL Hi (Kcc l a).1 (List.take (Yi l (zL l a) x) l) then true else false then true else false then true else false then true else false) (false=true) ((0≤Z77 l a x∧Z77 l a x≤Ln l∧Ln l≤Ln l)∧∃(x_2:Nat),Sf (Z12 l) (Ln (List.drop (Yi l (zL l a) x) (List.take (List.length l) l))=Kpa l a∧0=Nc x_2∧Sf l (Si a (Si b (Si c (Sf (Z19 l) ((Koh l a).1.1=(Kcs l a x_2).1∧(K33 l a).1=(J5m l a x_2).1∧(K33 l a).2=(J5m l a x_2).2∧(Kjc l).1.1=Z49 l∧(Kjc l).1.2.1=Z70 l∧(Kjc l).1.2.2=Z69 l∧List.drop (Yi l (zL l a) x) (List.take (List.length l) l)=Kcx l a))))))∧Ko8 l a x_2∧∀(x:Nat),Ko8 l a x→Br (decide (Nc x<Kpa l a)) (Tw (Bd (Nc x) (Ln (Kcx l a)))∧(Y2 (Kwa l a x)∧Yc (Kl4 l a x)∧Hu (Kl4 l a x)∧ByteArray.size (Kv9 l a x)≤1000000)∧Br ((Kj7 l a x).2.2 !=0) (false=true) (Z22 x∧∃(y:Nat),Sf (Z12 l) (Si (Kpa l a) (V0 x y∧Sf l (Si a (Si b (Si c (Sf (Z19 l) ((Kj7 l a x).1.1=(Kcs l a y).1∧(Kvx l a x).1=(J5m l a y).1∧(Kvx l a x).2=(J5m l a y).2∧(Z20 l).1=Z49 l∧K4q l∧K4t l∧Kcx l a=Kcx l a)))))))∧Ko8 l a y∧J0n l y x)) ((56≤1000000∧1≤1)∧∃(x_3:Nat),Sf (Z12 l) (Si 7 (0=Nc x_3∧Sf l (Si a (Si b (Si c (Sf (Z19 l) ((Kcs l a x).1=Z49 l∧(J5m l a x).1=Z70 l∧(J5m l a x).2=Z69 l∧(Z20 l).1=Z49 l∧K4q l∧K4t l∧Y4 (ByteArray.mk (Array.mk (109::105::115::115::105::110::103::44::111::117::116::97::103::101::115::44::112::101::114::109::105::116::115::44::115::101::116::116::108::101::100::44::98::97::108::97::110::99::101::32::97::44::114::97::116::101::32::98::44::Kom))) (ByteArray.mk (Array.mk [44]))=qsT)))))))∧x_3≤7∧∀(x:Nat),x≤7→Br (decide (Nc x<7)) (Tw (Bd (Nc x) 7)∧T2 (Yc (Kog l)∧Hu (Kog l)∧ByteArray.size (List.getD qsT x B0)≤1000000) (Br (bif K1j l x !=K1j l x then true else !Lb (K1m l x) (K1m l x)) (false=true) (Z22 x∧∃(y:Nat),Sf (Z12 l) (Si 7 (V0 x y∧Sf l (Si a (Si b (Si c (Sf (Z19 l) (Kz3 l x∧Kz0 l x∧Kzz l x∧Kz3 l x∧Kz0 l x∧Kzz l x∧qsT=qsT)))))))∧y≤7∧7-y<7-x))) ((List.length (Z20 l).1≤1000∧∀(e:Ev),e∈(Z20 l).1→Y2 e)∧Br (!Lb (J6u (Z20 l).1) (Z12 l)) (false=true) ((Iw b∧(Jt6 l=0→False))∧((200:Int)=0→False)∧(K3y b l∧(Kyu l b=true→K3y b l))∧Br (bif Kyu l b then IntKind.wrap IntKind.u8 (IntKind.wrap IntKind.u16 (32+Int.tmod c 200)) !=K0x l b else false) ((((0:Int)≤0∧0≤J9f b l∧J9f b l≤Jt6 l)∧0<1∧Nc (ByteArray.size (K3l l b)+1)≤9223372036854775807∧Iw (Ki6 b l)∧(0≤Ki6 b l∧Ki6 b l≤Jt6 l∧K4i l)∧Nc (ByteArray.size (ByteArray.mk (Kx4 l b c))+ByteArray.size (K0j l b))≤9223372036854775807)∧Br (bif (Kwl l b c).2==0 then true else(Kwl l b c).1==Jt6 l) (false=true) (J9s l c)) (J9s l c)))))))))=_).mp ?_
 delta Z2 Z4 Z11 Z12 Z19 Z20 Z22 Z42 Z49 Z69 Z70 Z72 Z77 Z92 V0 Kdc Kjp Kjm Jt6 Kpc J0n Kjc J9f D5 Kcx Kcs J5m Kpa Ki6 Ko8 K4t K4q J3f J5i J0g Jt2 Jzf Juo Kcc Kiy K4i J8z Koq Kom Koh Kog K33 K3y Kn2 Knj K3l Knf K3b K2o K2l K2f Km0 K1t K1m K1l K1j K0x K0j Kl4 K0b Kz5 Kz3 Kz2 Kz0 Kzz Kzy Ky9 Kyu Kx4 Kxo Kxn Kkp J8q Kxa Kw8 Kw5 Kwl Kwa Kv9 Kj7 Kvx J9s Br Iw Bd T2 Tw Sf Si Ln Nc Gt B0 Lb E2
 intro ha hb hc
 refine⟨by decide,fun _=>rfl,fun h=> ?_⟩
 have hab:=bn1 h
 have hacc:J3d l 20=true:=by simpa using hab.1
 have hn0:l.length≠0:=fun q=>by rw[q] at hab;exact absurd hab.2 (by decide)
 obtain⟨hl,hlen,h0⟩:=Jzc hacc
 have j:Jou l:=⟨h0,hlen⟩
 have hz:=fun k=>j.size k
 have hev:((0:Int),({data:={toList:=[]}}:ByteArray),([]:List ByteArray),([]:List Int),({data:={toList:=[]}}:ByteArray))=ev0:=rfl
 have hpos:0<Ja5 l l.length:=by
  have h1:=Zr (l:=l) (i:=1) (k:=l.length) (by omega) (Nat.le_refl _)
  have h2:Ja5 l 1=Ja5 l 0+_:=Jbm (l:=l) (k:=0) (by omega)
  rw[Jf4] at h2
  omega
 have hpos':0<((Xo l l.length).size:Int):=hpos
 have hzn:=hz l.length
 simp only[hev]
 refine⟨(0:Nat),by(repeat' first|exact rfl|exact⟨⟩|apply And.intro|omega|dsimp only;omega),Nat.zero_le _,fun(k:Nat) hk=>⟨fun h1=> ?_,fun h1=> ?_⟩⟩
 ·have hlt:k<l.length:=of_decide_eq_true h1|>Int.ofNat_lt.1
  have happ:=j.app hlt
  have he:Jdl (l.getD k ev0):=hl.2 _ (Jd (d:=ev0) hlt)
  have hs:=hz k
  have hst:=Jbm hlt
  simp only[Prod.eta,happ]
  refine⟨by omega,⟨by omega,he⟩,fun h2=> ?_,fun _=>⟨by rw[Fg];omega,by omega,(k+1:Nat),by(repeat' first|exact Jxm.symm|exact rfl|exact trivial|apply And.intro),hlt,by omega⟩⟩
  have h3:decide (((Xo l (k+1)).size:Int)≤((Xo l k).size:Int))=true:=h2
  have h3:=of_decide_eq_true h3
  have hst:((Xo l (k+1)).size:Int)=(Xo l k).size+((K3 (l.getD k ev0)).length+1):=hst
  omega
 have hk2:k=l.length:=by
  have:=of_decide_eq_false h1
  omega
 subst hk2
 have hzr:0≤zL l a∧zL l a≤(Xo l l.length).size:=by
  have h1:0≤zL l a:=Int.tmod_nonneg _ ha.1
  have h2:zL l a<(Xo l l.length).size+1:=Int.tmod_lt_of_pos _ (by omega)
  exact⟨h1,by omega⟩
 obtain⟨w1,_⟩:=Jd7 (l:=l) (z:=zL l a) (Nat.le_refl l.length)
 refine⟨by omega,(0:Nat),by(repeat' first|exact rfl|exact trivial|apply And.intro|(rw[Fg])),Nat.zero_le _,fun(k:Nat) hk=>⟨fun h1=> ?_,fun h1=> ?_⟩⟩
 ·have hlt:k<l.length:=Int.ofNat_lt.1 (of_decide_eq_true h1)
  obtain⟨w2,_⟩:=Jd7 (l:=l) (z:=zL l a) hk
  refine⟨⟨⟨by omega,by rw[Fg];omega⟩,by omega,by rw[Fg];omega⟩, ?_, ?_⟩
  all_goals
   rw[Jgq hlt]
   intro h2
  ·have e:Yi l (zL l a) (k+1)=Yi l (zL l a) k+1:=by rw[Yi,if_pos (of_decide_eq_true h2)]
   exact⟨by omega,by omega,(k+1:Nat),by(repeat' first|exact rfl|exact trivial|apply And.intro|(rw[e];rfl)),hlt,by omega⟩
  ·have e:Yi l (zL l a) (k+1)=Yi l (zL l a) k:=by rw[Yi,if_neg (of_decide_eq_false h2)];rfl
   exact⟨by omega,(k+1:Nat),by(repeat' first|exact rfl|exact trivial|apply And.intro|(rw[e])),hlt,by omega⟩
 have hk3:k=l.length:=by
  have:=of_decide_eq_false h1
  omega
 subst hk3
 obtain⟨a1,e1,hrec,he1⟩:=j.cut hzr.1 hzr.2
 have hfull:=j.rcv l.length
 have hH:(Je l).1=He l l.length:=by unfold He;rw[List.take_length]
 generalize Yi l (zL l a) l.length=w at*
 have hrw:=(j.run w).1
 have hr0:(Je (l.take w)).2.2=0:=by rw[hrw];exact(j.run w).2
 rw[List.take_length] at hfull
 have hsz:∀x∈l.take w,x.2.2.1.length≤1000000∧x.2.2.2.1.length≤1000000:=fun x hx=>by
  have:=Kej (j.ckT w x hx)
  exact⟨this.1,this.2.1⟩
 simp only[hrec,hfull,hH,List.take_length,Jei Joh]
 have hcond:(bif e1 !=0 then e1 !=28 else false)=false:=by rcases he1 with h|h<;>subst h<;>rfl
 simp only[hcond]
 refine⟨⟨by omega,hzr⟩,⟨⟨by omega,hzr⟩,he1,hr0⟩,⟨.inl trivial,h0⟩,⟨fun _=>by omega,fun _=>by rw[List.length_take];omega,fun _=>hsz⟩,fun h=>(by cases h),fun _=>⟨by omega,(0:Nat), ?_,w1,fun(x:Nat) hx=>⟨fun h1=> ?_,fun h1=> ?_⟩⟩⟩
 ·(repeat' first|exact rfl|exact trivial|apply And.intro|(rw[List.length_drop];omega))
 ·have hlt:w+x<l.length:=by have:=of_decide_eq_true h1;omega
  obtain⟨s1,s2⟩:=j.step hlt
  have hck:=j.ck _ (Jd (d:=ev0) hlt)
  have hl1:(He l (w+x)).1.length<1000:=by rw[j.ev,List.length_take];omega
  have hd:=Ked s1 hl1
  rw[←s2] at hd
  have hcl:=Jxw hck
  simp only[Prod.eta,Jts,hd,List.length_drop]
  refine⟨⟨by omega,by omega⟩,⟨Jg0 hck,Jou.ok _,j.nm _,by omega⟩,fun h=>(by cases h),fun _=>⟨by omega,(x+1:Nat),by(repeat' first|exact rfl|exact trivial|apply And.intro),hlt,by omega⟩⟩
 have hwx:w+x=l.length:=by have:=of_decide_eq_false h1;omega
 rw[hwx]
 refine⟨by decide,(0:Nat), ?_,by omega,fun(y:Nat) hy=>⟨fun h2=> ?_,fun h2=> ?_⟩⟩
 ·(repeat' first|exact Kql|exact trivial|apply And.intro|exact rfl)
 ·have hlt:y<7:=by have:=of_decide_eq_true h2;omega
  obtain⟨q1,q2⟩:=Js4 (h:=He l l.length) hlt
  have hbn:({data:={toList:=[]}}:ByteArray)=Ja:=rfl
  simp only[Prod.eta,hbn,q1,Je9]
  refine⟨⟨by omega,by omega⟩,⟨Jou.ok _,j.nm _,q2⟩,⟨Jou.ok _,j.nm _,q2⟩,fun h=> ?_,fun _=>⟨by omega,(y+1:Nat),by(repeat' first|exact rfl|exact trivial|apply And.intro),hlt,by omega⟩⟩
  simp at h
 have hL:(He l l.length).1=l:=by rw[j.ev,List.take_length]
 have hlog:J6u (He l l.length).1=Xo l l.length:=by rw[j.ev];rfl
 simp only[hlog,Je9]
 have hsz:(Xo l l.length).size=(cat l).length:=by rw[H8,List.take_length,Kc]
 have hk0:0≤b.tmod (Xo l l.length).size:=Int.tmod_nonneg _ hb.1
 have hk1:b.tmod (Xo l l.length).size<(Xo l l.length).size:=Int.tmod_lt_of_pos _ hpos'
 obtain⟨hw,c0,c1⟩:=Kpp hc.1
 rw[hw,Kek hk0 hk1,Jch]
 generalize b.tmod (Xo l l.length).size=p at*
 have hL1:(He l l.length).1.length≤1000:=by rw[hL];omega
 refine⟨⟨hL1,fun e he=>Jg0 (j.ck e (hL▸he))⟩,fun h=>(by cases h),fun _=>⟨⟨by omega,fun h=>by omega⟩,by decide,⟨⟨hk0,hk1⟩,fun _=>⟨hk0,hk1⟩⟩,fun h3=>⟨?_,fun h4=> ?_,fun _=> ?_⟩,fun _=> ?_⟩⟩
 ·have hA:((Xo l l.length).extract 0 p.toNat).data.toList.length≤8180:=by rw[Fc];show(List.take _ _).length≤_;rw[List.length_take,Jch];omega
  have hB:((Xo l l.length).extract (p+1).toNat (Xo l l.length).size).size≤8180:=by rw[Fd,Kc,List.length_drop,Jch];omega
  have hC:(⟨⟨((Xo l l.length).extract 0 p.toNat).data.toList++[UInt8.ofNat (32+c.tmod 200).toNat]⟩⟩:ByteArray).size≤8181:=by
   show(bs _).size≤_
   rw[Kc,List.length_append,List.length_singleton];omega
  have hA2:((Xo l l.length).extract 0 p.toNat).size≤8180:=by rw[Fc,Kc,List.length_take,Jch];omega
  exact⟨by omega,by decide,by omega,by omega,by omega,by omega⟩
 ·exfalso
  have hpl:p.toNat<(cat l).length:=by omega
  have cb:(UInt8.ofNat (32+c.tmod 200).toNat).toNat=(32+c.tmod 200).toNat:=UInt8.toNat_ofNat_of_lt' (by show _<256;omega)
  generalize hy:UInt8.ofNat (32+c.tmod 200).toNat=y at*
  have h10:(cat l).getD p.toNat 0≠10:=fun q=>by
   rw[q] at h3;cases h3
  have hne:y≠(cat l).getD p.toNat 0:=fun q=>by
   rw[←q,cb,show(32+c.tmod 200 !=((32+c.tmod 200).toNat:Int))=false from bne_eq_false_iff_eq.2 (by omega)] at h3
   cases q:((32+c.tmod 200).toNat:Int) !=10<;>rw[q] at h3<;>cases h3
  have hc10:y≠10:=fun q=>by
   rw[q] at cb
   have:(10:UInt8).toNat=10:=rfl
   omega
  obtain⟨k1,k2⟩:=j.chg hpl h10 hc10 hne
  rw[beq_false_of_ne k1,cond_false,hsz,beq_false_of_ne k2] at h4
  cases h4
 all_goals
  refine⟨fun h5=> ?_,fun _=>trivial⟩
  have h5:=of_decide_eq_true h5
  have r0:0≤c.tmod (l.length-1):=Int.tmod_nonneg _ hc.1
  have r1:c.tmod (l.length-1)<l.length-1:=Int.tmod_lt_of_pos _ (by omega)
  generalize c.tmod (l.length-1)=r at*
  have g1:(Lz l l.length).getD r.toNat 0=Ja5 l (r.toNat+1):=Jgq (by omega)
  have m1:=Zr (l:=l) (i:=r.toNat+1) (k:=l.length) (by omega) (Nat.le_refl _)
  have m0:=Zr (l:=l) (i:=0) (k:=r.toNat) (by omega) (by omega)
  have m2:=Zr (l:=l) (i:=r.toNat) (k:=r.toNat+1) (by omega) (by omega)
  have hm:Ja5 l l.length=(Xo l l.length).size:=rfl
  rw[Jf4] at m0
  have hex:∀u v,((Xo l l.length).extract u v).size≤8180:=fun u v=>by rw[ByteArray.size_extract];omega
  have hlost:=j.lost (r:=r.toNat) (by omega)
  refine⟨⟨by omega,by omega,fun h=>by omega⟩,fun h6=> ?_,fun h6=> ?_⟩
  ·have h6:=of_decide_eq_true h6
   have g2:(Lz l l.length).getD (r-1).toNat 0=Ja5 l r.toNat:=by
    rw[Jgq (by omega),show(r-1).toNat+1=r.toNat by omega]
   have e1:=hex 0 (Ja5 l r.toNat).toNat
   have e2:=hex (Ja5 l (r.toNat+1)).toNat (Xo l l.length).size
   rw[Fg,g1,g2,Jwr (r:=r.toNat) (by omega) rfl rfl,hlost]
   exact⟨⟨by omega,by omega,by omega⟩,⟨by omega,by omega,by omega,by omega,by omega⟩,fun h=>(by cases h),fun _=>trivial⟩
  ·have h6:=of_decide_eq_false h6
   have e1:=hex 0 0
   have e2:=hex (Ja5 l (r.toNat+1)).toNat (Xo l l.length).size
   have hr:r.toNat=0:=by omega
   have hl0:=Jwr (l:=l) (x:=0) (r:=r.toNat) (by omega) (by rw[hr];rfl) rfl
   rw[show(0:Int).toNat=0 from rfl] at hl0
   rw[Fg,g1,hl0,hlost]
   exact⟨⟨by omega,by omega,by omega,by omega,by omega⟩,fun h=>(by cases h),fun _=>trivial⟩
end Go.Proofs.YtcibbcfiemeoiaaGreatDoor

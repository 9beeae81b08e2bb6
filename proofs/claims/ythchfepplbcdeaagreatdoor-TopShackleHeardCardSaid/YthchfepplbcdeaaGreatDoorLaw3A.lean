/- The law walked: part of the proof. -/
import Derived.Test.YthchfepplbcdeaaGreatDoorFB
set_option linter.unusedSimpArgs false
set_option linter.unusedVariables false
set_option maxRecDepth 20000
namespace Go.Proofs.YthchfepplbcdeaaGreatDoor
open Go.Sx
set_option maxHeartbeats 20000000
set_option pp.deepTerms true
set_option pp.maxSteps 10000000
def Juh (g:Log):List Tg:=if Jdv g=0 then g.2.map (tgO g.1) else[]
def Kko:Con:={args:=[.val true Jw2],ress:=[(false, .list 61 sTg),I],owns:=[],pre:=fun(g,_)=>[g.2.length≤1000000],spec:=fun(g,_)=>(Juh g,Jdv g,())}
abbrev Kgh:=Kk0.add Kfr
abbrev sN3:Sch:= .prod (.int .u8) (.prod (.int .u8) (.int .u8))
abbrev N3:Type:=Int×Int×Int
def Jzf:Con:={args:=[aCR,aF, .val true sN3],ress:=[Bo],owns:=[],pre:=fun(c,f,n,_)=>[0≤n.1∧n.1≤255,0≤n.2.1∧n.2.1≤255,0≤n.2.2∧n.2.2≤255],spec:=fun _=>(true,())}
abbrev Jzt:Ann:={X:=Unit,σ:=fun _=>⟨0,[],[]⟩,inv:=fun _=>True,mu:=fun _=>0,un:=3}
abbrev J1q (c:Cab) (f:Flt) (n:N3):List (Nat×Res):=[(0, .imm 68 sPt c.1),(1, .imm 3 sI c.2.1),(2, .box 26 [.sl 0, .sl 1, .int .i64 c.2.2.1, .int .i64 c.2.2.2]),(3, .box 28 [.int .i64 f.1, .int .i64 f.2.1, .int .i64 f.2.2.1, .int .i64 f.2.2.2]),(4, .box 29 [.int .u8 n.1, .int .u8 n.2.1, .int .u8 n.2.2])]
def Hp (c:Cab) (f:Flt):List Tg:=[Y3,Uz 0 (tkD c f false),Y3,Uz 1 (tkD c f true)]
abbrev slS:List (Nat×SV):=[(3, .one (.ptr 2 0)),(4, .one (.ptr 3 0)),(5, .one (.ptr 4 0)),(7, .one (.sl 7))]
abbrev J7x (sl:List (Nat×SV)) (rs:List (Nat×Res)):Ann:={X:=Unit,σ:=fun _=>⟨12,sl,rs⟩,inv:=fun _=>True,mu:=fun _=>0,un:=7779}
abbrev Jzw (c:Cab) (f:Flt) (n:N3):Nat→Option Ann:=fun i=>
 if i=0∨i=2∨i=6∨i=8 then some Jzt
 else if i=4 then some {X:=Nat,σ:=fun j=>⟨12,slS++[(10, .one (.ptr 8 0)),(18, .one (.ptr 9 0)),(22, .one (.int .i64 (Vg c (j:Int)))),(175, .one (.int .i64 f.1)),(176, .one (.int .i64 j))],J1q c f n++[(7, .imm 48 K9 (Zm c f 500)),(8, .box 46 [.str sA, .str sB]),(9, .box 64 [.int .i64 (tkD c f false), .int .i64 (tkD c f false), .int .i64 (tkD c f true), .int .i64 (tkD c f true)])]⟩,inv:=fun j=>(j:Int)≤f.1,mu:=fun j=>(f.1-j).toNat}
 else if i=4000022 then some (J7x (slS++[(9, .one (.sl 10)),(10, .one (.ptr 8 0)),(11, .one (.ptr 9 0)),(18, .one (.ptr 11 0))]) (J1q c f n++[(7, .imm 48 K9 (Zm c f 500)),(8, .box 46 [.str sA, .str sB]),(9, .box 49 [.int .i64 (tkD c f false), .str sA, .int .i64 (htD c f false), .int .i64 (tkD c f true), .str sB, .int .i64 (htD c f true)]),(10, .own 61 sTg (Hp c f)),(11, .box 64 [.int .i64 0, .int .i64 0, .int .i64 0, .int .i64 0])]))
 else if i=4000052 then some (J7x (slS++[(10, .one (.ptr 8 0)),(36, .one (.int .i64 (mx f.2.2.2)))]) (J1q c f n++[(7, .imm 48 K9 (Zm c f 500)),(8, .box 46 [.str sA, .str sB])]))
 else if 2000000≤i∧i<2010000∧(i %1000=373∨i %1000=447) then some (J7x (slS++[(36, .one (.int .i64 (mx f.2.2.2))),(38, .one (.str (if i/1000=2003 then sA else sB))),(347, .v true [.str sA, .str sB]),(348, .one (.int .i64 (if i/1000=2003 then 0 else 1)))]) (J1q c f n++[(7, .imm 48 K9 (Zm c f 500))]))
 else if 1000000≤i∧i<1010000∧(i %1000=85∨i %1000=128∨i %1000=279∨i %1000=349) then Jyx
 else none
def Z24:=Sf true (false=true)
def Z90:=Iw ((1:Int)+1)∧Tw (true=true)
def Z91 (a:Cab):= !Hm (Z39 a)
def Z95 (a:Cab) (b:Flt):=(Jgq (Hp a b) ((0:Int)+1) b.2.2.1).2
def J09 (a:Cab) (b:Nat):=J0 (Z39 a) (Vg a (Nc b))
def J4l (a:Cab) (b:Nat) (c:Flt):=J0 (Z39 a) (Vg a (Nc b)+c.2.1)
def J4j (a:Cab) (b:Nat) (c:Flt):=Vg a (Nc b)+Z97 a c
def Jwr (a:Cab) (b:Nat) (c:Flt):=(J4l a b c).2
def Jwq (a:Cab) (b:Nat) (c:Flt):=(J4l a b c).1
def J4h (a:Cab) (b:Flt):=Bd 0 (Ln (Jgq (Hp a b) 0 b.2.2.1).2)
def Jwm (a:Flt) (b:N3):=((a.1,a.1+1),mx a.2.2.2,1+Int.tmod b.2.2 16,sA)
def Jwk (a:Flt) (b:N3):=((a.1,a.1+1),mx a.2.2.2,1+Int.tmod b.2.2 16,sB)
def Kei:=if 2002=2003 then sA else sB
def Keh:=if 2003=2003 then sA else sB
def J0x:=((9:Int),(7:Int),Z17,Z18)
def Keg (a:Cab) (b:Flt):=List.length (Hp a b)
def Jt3 (a:Cab) (b:Flt):=Zm (Z39 a) (Z38 b) 500
def Jxn (a:Cab) (b:Nat) (c:Flt):=E2 (J4l a b c)
def J36 (a:Cab) (b:Flt):=Bd 0 (Ln (Z95 a b))
def Kea (a:Cab) (b:Flt):=bif Z4 a==1 then true else decide (512<mx b.2.2.2)
def Kd8 (a:Cab) (b:Flt):=List.getD (Jgq (Hp a b) 0 b.2.2.1).2 0 (0,0)
def Kd6 (a:Cab) (b:Flt):=(Kd8 a b).1
def Kdx (a:Cab) (b:Flt):=List.getD (Z95 a b) 0 (0,0)
def Kdu (a:Cab) (b:Flt):=(Kdx a b).1
def Kdt (a:Flt) (b:N3) (c:Cab):=Int.tmod (a.1+1+Int.tmod b.2.2 (Z51 c)) (Z4 c)
def Kdl (a:Cab) (b:Flt) (c:N3):=(max 0 (tkD a b false-Int.tmod c.1 10),tkD a b false+Int.tmod c.1 10)
def Kdj (a:Cab) (b:Flt):=Jkw (Z39 a) (tkD a b false,tkD a b false) (tkD a b true,tkD a b true)
def Kdf (a:Cab) (b:Flt) (c:N3):=(max 0 (tkD a b true-Int.tmod c.2.1 10),tkD a b true+Int.tmod c.2.1 10)
def Kde (a:Cab) (b:Flt):=(Kdj a b).2
def J3r (a:Cab) (b:Nat) (c:Flt):=J0 (Z39 a) (J4j a b c)
def Kdb (a:Flt) (b:N3) (c:Cab):=Kdt a b c+1
def Kc8 (a:Flt) (b:N3):=Iw (a.1+1)∧Iw b.2.2∧((16:Int)=0→False)∧Iw (1+Int.tmod b.2.2 16)
def Kc5 (a:Cab) (b:Flt):=(Kde a b).2
def Kcx (a:Cab) (b:Flt) (c:N3):=thF (Z39 a) (Jwk b c)
def Kcv (a:Cab) (b:Flt) (c:N3):=thF (Z39 a) (Jwm b c)
def Kcs (a:Cab) (b:Flt) (c:N3):=(Kcx a b c).1
def Kcr (a:Cab) (b:Flt) (c:N3):=(Kcv a b c).2
def Kcq (a:Cab) (b:Flt) (c:N3):=(Kcv a b c).1
def Kco (a:Flt) (b:N3) (c:Cab):=Iw (Kdb a b c)
def Kcn (a:Cab) (b:Flt) (c:N3):=(Kcx a b c).2
def Kcb (a:Cab) (b:Flt):=List.length (Jt3 a b)
def Kb7 (a:Cab) (b:Nat) (c:Flt):=E2 (J3r a b c)
def Kb2 (a:Cab) (b:Flt):=Uv (Jt3 a b) Z53
def Kb1 (a:Cab) (b:Flt):=Uv (Jt3 a b) Z52
def Kbz (a:Cab) (b:Flt):=K6 (Jt3 a b) Z53
def Kby (a:Cab) (b:Flt):=K6 (Jt3 a b) Z52
def Kbx (a:Cab) (b:Flt):=(Kb1 a b).2
def Kbw (a:Cab) (b:Flt):=(Kb1 a b).1
def Kbu (a:Cab) (b:Flt):=(Kb2 a b).1
def Kbt (a:Cab) (b:Flt):=(Kb2 a b).2
def Kbp (a:Cab) (b:Flt):=Kcb a b≤1000000
def Kbc (a:Cab) (b:Flt):=Jgn (Z39 a) (Z38 b) (500:Int) !=0
def Jr0 (a:Cab):=Z67 a∧Z26 a∧Jpq a
def Kau (a:Cab) (b:Flt):=((0:Int),[(Kbw a b,(1:Int))])
def J0f (a:Cab) (b:Flt):=(0+List.length (Zm a b 500))*32≤140737488355328∧List.length (Zm a b 500)≤1000000
def Kap (a:Cab) (b:Flt):=Juh (Kau a b)
def Kan (a:Cab) (b:Flt) (c:N3):=a.1=a.1∧a.2.1=a.2.1∧Si a.2.2.1 (Si a.2.2.2 (Si b.1 (Si b.2.1 (Si b.2.2.1 (Si b.2.2.2 (Si c.1 (Si c.2.1 (Si c.2.2 (Zm a b 500=Zm a b 500)))))))))
def Kam (a:Cab) (b:Flt):=((0:Int)+(1:Int),[(Kbu a b,(1:Int))])
def Kai (a:Cab) (b:Flt):=Juh (Kam a b)
def Kac (a:Cab) (b:Flt):=(0+Keg a b)*48≤140737488355328∧Keg a b≤1000000
def Kaa (a:Flt) (b:N3) (c:Cab):=(Kdt a b c,Kdb a b c)
def J96 (a:Cab) (b:Flt):=bif Jfe (Hp a b) 0 b.2.2.1 !=0 then true else Ln (Jgq (Hp a b) 0 b.2.2.1).2 !=1
def J92 (a:Cab) (b:Flt):=Jt8++Kap a b
def J91 (a:Cab) (b:Flt):=bif Jfe (Hp a b) ((0:Int)+1) b.2.2.1 !=0 then true else Ln (Z95 a b) !=1
def J90 (a:Cab) (b:Flt) (c:N3):=Jkw (Z39 a) (Kdl a b c) (Kdf a b c)
def J9z (a:Cab) (b:Flt) (c:N3):=(J90 a b c).1
def J9y (a:Cab) (b:Flt) (c:N3):=(J90 a b c).2
def J2g (a:Cab) (b:Flt) (c:N3):=(J9y a b c).2
def J9w (a:Cab) (b:Flt) (c:N3):=(J9y a b c).1
def J9t (a:Flt) (b:N3) (c:Cab):=Iw (a.1+1)∧Iw b.2.2∧Z70 c∧(Z51 c=0→False)∧Iw (a.1+1+Int.tmod b.2.2 (Z51 c))∧(Z4 c=0→False)
def J9s (a:Cab) (b:Flt) (c:N3):=E2 (J2g a b c)
def J9n (a:Cab) (b:Flt):=(0+Kcb a b)*32≤140737488355328∧Kbp a b
def J0a (a:Flt) (b:N3) (c:Cab):=(Kaa a b c,(1024:Int),mx a.2.2.2,Keh)
def Jz9 (a:Flt) (b:N3) (c:Cab):=(Kaa a b c,(1024:Int),mx a.2.2.2,Kei)
def J9j (a:Cab) (b:Flt) (c:N3):=(thF (Z39 a) (Jz9 b c a)).1
def J9i (a:Cab) (b:Flt) (c:N3):=(thF (Z39 a) (J0a b c a)).1
def J9h (a:Flt) (b:Cab) (c:N3):Prop:=∃(y:Unit),Si (mx a.2.2.2) (sA=Keh∧Sf sA (Sf sB (Si (0:Int) (Kan b a c))))∧True
def J9e (a:Flt) (b:Cab) (c:N3):Prop:=∃(y:Unit),Si (mx a.2.2.2) (sB=Kei∧Sf sA (Sf sB ((0:Int)+(1:Int)=(1:Int)∧Kan b a c)))∧True
def J9d (a:Cab) (b:Flt):=J92 a b++J0x::Jt8
def J87 (a:Cab) (b:Flt) (c:N3):=(J9z a b c,J9w a b c)
def J8t (a:Cab) (b:Flt) (c:N3):=bif bif Jle (Z39 a) (Kdl a b c) (Kdf a b c) !=0 then true else Jff (J87 a b c) !=0 then true else Jff (J9s a b c) !=0
def J8s (a:Cab) (b:Flt) (c:N3):=J8t a b c=false
def J8r (a:Cab) (b:Flt) (c:N3) (d:Nat):=bif J8t a b c then true else decide (0<Jgs (J87 a b c) (Jxn a d b))
def J8q (a:Cab) (b:Flt) (c:N3) (d:Nat):=J8r a b c d=false
def J8p (a:Cab) (b:Flt) (c:Nat):=bif bif bif bif bif bif bif Jle (Z39 a) (tkD a b false,tkD a b false) (tkD a b true,tkD a b true) !=0 then true else Uu (Z39 a) (Vg a (Nc c)+b.2.1) !=0 then true else Uu (Z39 a) (Vg a (Nc c)) !=0 then true else Uu (Z39 a) (J4j a c b) !=0 then true else !((Kdj a b).1==Jwq a c b&&((Kde a b).1==Jwr a c b&&true)&&((Kc5 a b).1==Jwq a c b&&((Kc5 a b).2==Jwr a c b&&true)&&true)) then true else Jff (Jxn a c b) !=0 then true else Jff (E2 (J09 a c)) !=0 then true else Jff (Kb7 a c b) !=0
def J8o (a:Cab) (b:Flt) (c:Nat):=J8p a b c=false
def J8n (a:Cab) (b:Flt) (c:Nat):=bif J8p a b c then true else decide (0≤Jgs (E2 (J09 a c)) (Jxn a c b))
def J8m (a:Cab) (b:Flt) (c:Nat):=J8n a b c=false
def J1r (a:Flt) (b:N3) (c:Cab):Prop:=Z5∧Kc8 a b∧(Jr0 c∧Br (Jgo (Z39 c) (Jwk a b)==(0:Int)) (T2 (J0f c a) (Br (bif bif bif Ye (Zm c a (500:Int)) (Jwk a b) (Kcs c a b) !=(0:Int) then true else Ye (Zm c a (500:Int)) (Jwk a b) (Kcn c a b) !=(0:Int) then true else !Yy (Zm c a (500:Int)) (Jwk a b) (Kcs c a b) then true else !Yy (Zm c a (500:Int)) (Jwk a b) (Kcn c a b)) Z24 (J9e a c b))) (J9e a c b))∧∀(y:Unit),True→Br (Kea c a) Z90 (J9t a b c∧Kco a b c∧Jr0 c∧Br (Jgo (Z39 c) (Jz9 a b c)==(0:Int)) (J0f c a∧Br (bif Ye (Zm c a (500:Int)) (Jz9 a b c) (J9j c a b) !=(0:Int) then true else Yy (Zm c a (500:Int)) (Jz9 a b c) (J9j c a b)) Z24 Z90) Z90)
theorem wp3 (c:Cab) (f:Flt) (n:N3):wpFG Tryz.prog Kgh.g (Jzw c f n) (fun _=>na ()) (Sx.look ([]:List (Nat×Func))) Tryz.f3 Jzf (c,f,n,()):=by
 refine(by kernel_rfl:((0:Int)≤n.1∧n.1≤(255:Int)→(0:Int)≤n.2.1∧n.2.1≤(255:Int)→(0:Int)≤n.2.2∧n.2.2≤(255:Int)→((Z91 c=false→Z67 c)∧(Z91 c=false→Z26 c))∧Br (bif bif Z91 c then true else Jxq c f !=(0:Int) then true else decide ((90000:Int)<f.2.2.1)) (Tw (true=true)) (Jr0 c∧Tw (Kbc c f=false→Kbp c f)∧Br (bif Kbc c f then true else Lf (Jt3 c f) !=(0:Int)) Z24 (J9n c f∧Br (Kby c f !=(0:Int)) (Sf true ((bif Kby c f==(7:Int) then true else false)=true)) ((1:Nat)≤(1000000:Nat)∧Br (Jdv (Kau c f) !=(0:Int)) Z24 ((48:Nat)≤(140737488355328:Nat)∧((1:Nat)+List.length (Kap c f))*(48:Nat)≤(140737488355328:Nat)∧Z5∧J9n c f∧Br (Kbz c f !=(0:Int)) (Sf true ((bif Kbz c f==(7:Int) then true else false)=true)) ((1:Nat)≤(1000000:Nat)∧Br (Jdv (Kam c f) !=(0:Int)) Z24 ((List.length (J0x::J92 c f)+(1:Nat))*(48:Nat)≤(140737488355328:Nat)∧(List.length (J0x::J9d c f)+List.length (Kai c f))*(48:Nat)≤(140737488355328:Nat)∧Z55∧(∃(y:Unit),(c.1=c.1∧c.2.1=c.2.1∧Si c.2.2.1 (Si c.2.2.2 (Si f.1 (Si f.2.1 (Si f.2.2.1 (Si f.2.2.2 (Si n.1 (Si n.2.1 (Si n.2.2 (Jt3 c f=Zm c f (500:Int)∧Z52=sA∧Z53=sB∧Kbw c f=tkD c f false∧(Kbx c f).1=sA∧(Kbx c f).2=htD c f false∧Kbu c f=tkD c f true∧(Kbt c f).1=sB∧(Kbt c f).2=htD c f true∧J0x::(J9d c f++Kai c f)=Hp c f∧Si (0:Int) (Si (0:Int) Z6)))))))))))∧True)∧∀(y:Unit),True→Kac c f∧Tw (J96 c f=false→J4h c f)∧Br (bif J96 c f then true else !(Kd6 c f==tkD c f false&&((Kd8 c f).2==(1:Int)&&true))) Z24 (T2 (J4h c f) (Tw (J4h c f))∧Z5∧Kac c f∧Tw (J91 c f=false→J36 c f)∧Br (bif J91 c f then true else !(Kdu c f==tkD c f true&&((Kdx c f).2==(1:Int)&&true))) Z24 (T2 (J36 c f) (Tw (J36 c f))∧Z55∧∃(x:Nat),((0:Int)=Vg c (Nc x)∧Si f.1 ((0:Int)=Nc x∧c.1=c.1∧c.2.1=c.2.1∧Si c.2.2.1 (Si c.2.2.2 (Si f.1 (Si f.2.1 (Si f.2.2.1 (Si f.2.2.2 (Si n.1 (Si n.2.1 (Si n.2.2 (Sf (Zm c f (500:Int)) (Sf sA (Sf sB (T2 (Kd6 c f=tkD c f false) (Tw (Kdu c f=tkD c f true))))))))))))))))∧Int.instLEInt.1 (Nc x) f.1∧∀(x:Nat),Int.instLEInt.1 (Nc x) f.1→Br (decide (Nc x<f.1)) (T2 (Z56 x c) (Iw (Vg c (Nc x)+Jr8 c x))∧Z1 x∧∃(y:Nat),(Vg c (Nc x)+Jr8 c x=Vg c (Nc y)∧Si f.1 (Z25 x y∧c.1=c.1∧c.2.1=c.2.1∧Si c.2.2.1 (Si c.2.2.2 (Si f.1 (Si f.2.1 (Si f.2.2.1 (Si f.2.2.2 (Si n.1 (Si n.2.1 (Si n.2.2 (Sf (Zm c f (500:Int)) (Sf sA (Sf sB (Si (tkD c f false) (Si (tkD c f false) (Tw (tkD c f true=tkD c f true)))))))))))))))))∧Int.instLEInt.1 (Nc y) f.1∧Int.toNat (f.1-Nc y)<Int.toNat (f.1-Nc x)) (Jr0 c∧(Z67 c∧Z26 c∧Iw (Vg c (Nc x)+f.2.1)∧Jpq c)∧Jr0 c∧(Z67 c∧Z26 c∧T2 (Bd f.1 (Z4 c)) (Iw (J4j c x f)∧Jpq c))∧((J8o c f x→Iw ((J09 c x).1*Jwr c x f))∧(J8o c f x→Iw (Jwq c x f*(J09 c x).2))∧(J8m c f x→Iw (Jwq c x f*(J3r c x f).2))∧(J8m c f x→Iw ((J3r c x f).1*Jwr c x f)))∧Br (bif J8n c f x then true else decide ((0:Int)≤Jgs (Jxn c x f) (Kb7 c x f))) Z24 ((Iw n.1∧((10:Int)=(0:Int)→False))∧(Iw (tkD c f false-Int.tmod n.1 (10:Int))∧Iw (tkD c f false+Int.tmod n.1 (10:Int)))∧Z5∧(Iw n.2.1∧((10:Int)=(0:Int)→False))∧(Iw (tkD c f true-Int.tmod n.2.1 (10:Int))∧Iw (tkD c f true+Int.tmod n.2.1 (10:Int)))∧Z55∧Jr0 c∧((J8s c f n→Iw (J9z c f n*Jwr c x f))∧(J8s c f n→Iw (Jwq c x f*J9w c f n))∧(J8q c f n x→Iw (Jwq c x f*(J2g c f n).2))∧(J8q c f n x→Iw ((J2g c f n).1*Jwr c x f)))∧Br (bif J8r c f n x then true else decide ((0:Int)<Jgs (Jxn c x f) (J9s c f n))) Z24 ((Iw ((0:Int)-f.2.2.2)∧∃(y:Unit),(max f.2.2.2 ((0:Int)-f.2.2.2)=mx f.2.2.2∧c.1=c.1∧c.2.1=c.2.1∧Si c.2.2.1 (Si c.2.2.2 (Si f.1 (Si f.2.1 (Si f.2.2.1 (Si f.2.2.2 (Si n.1 (Si n.2.1 (Si n.2.2 (Sf (Zm c f (500:Int)) (Sf sA (sB=sB))))))))))))∧True)∧∀(y:Unit),True→Kc8 f n∧(Jr0 c∧Br (Jgo (Z39 c) (Jwm f n)==(0:Int)) (T2 (J0f c f) (Br (bif bif bif Ye (Zm c f (500:Int)) (Jwm f n) (Kcq c f n) !=(0:Int) then true else Ye (Zm c f (500:Int)) (Jwm f n) (Kcr c f n) !=(0:Int) then true else !Yy (Zm c f (500:Int)) (Jwm f n) (Kcq c f n) then true else !Yy (Zm c f (500:Int)) (Jwm f n) (Kcr c f n)) Z24 (J9h f c n))) (J9h f c n))∧∀(y:Unit),True→Br (Kea c f) (J1r f n c) (J9t f n c∧Kco f n c∧Jr0 c∧Br (Jgo (Z39 c) (J0a f n c)==(0:Int)) (J0f c f∧Br (bif Ye (Zm c f (500:Int)) (J0a f n c) (J9i c f n) !=(0:Int) then true else Yy (Zm c f (500:Int)) (J0a f n c) (J9i c f n)) Z24 (J1r f n c)) (J1r f n c))))))))))))))=_).mp ?_
 delta Z1 Z4 Z5 Z6 Z17 Z18 Z24 Z25 Z26 Z38 Z39 Z51 Z52 Z53 Z55 Z56 Z67 Z70 Z89 Z90 Z91 Z95 Z97 Jr8 J09 Jt8 J4l J4j Jwr Jwq J4h Jxq Jpq Jwm Jwk Kei Keh J0x Keg Jt3 Jxn J36 Kea Kd8 Kd6 Kdx Kdu Kdt Kdl Kdj Kdf Kde J3r Kdb Kc8 Kc5 Kcx Kcv Kcs Kcr Kcq Kco Kcn Kcb Kb7 Kb2 Kb1 Kbz Kby Kbx Kbw Kbu Kbt Kbp Kbc Jr0 Kau J0f Kap Kan Kam Kai Kac Kaa J96 J92 J91 J90 J9z J9y J2g J9w J9t J9s J9n J0a Jz9 J9j J9i J9h J9e J9d J87 J8t J8s J8r J8q J8p J8o J8n J8m J1r Br Iw Bd T2 Tw Sf Si Ln Nc Gt E2
 intro hn1 hn2 hn3
 have hC:((c.1,c.2.1,c.2.2.1,c.2.2.2):Cab)=c:=rfl
 have hF:((f.1,f.2.1,f.2.2.1,f.2.2.2):Flt)=f:=rfl
 rw[hC,hF]
 have sh:(!Hm c)=false→c.1.length≤1000000∧c.2.1.length≤1000000:=fun q=>by
  have:=Jmf (c:=c) (show(bif false then true else !Hm c)=false from q)
  omega
 refine⟨⟨fun q=>(sh q).1,fun q=>(sh q).2⟩,fun _=>⟨rfl,rfl⟩,fun q=> ?_⟩
 obtain⟨q,q3⟩:=bnT.1 q
 obtain⟨q1,q2⟩:=bnT.1 q
 have hl:=sh q1
 have hf:Lj c f=0:=bne_eq_false_iff_eq.1 q2
 have q3:=of_decide_eq_false q3
 obtain⟨hc,hv⟩:=D3 hf
 have hw:Jgn c f 500=0:=Jlm hv (by decide)
 have eA:Zm c f 500=Va c f 500:=by unfold Zm;rw[if_pos hw]
 have hA:=Jjy (win:=500) hv
 have hE:=Jox (win:=500) hv
 have l1:=hl.1
 have l2:=hl.2
 rw[eA]
 refine⟨⟨l1,l2,l1,l2⟩,⟨fun _=>by omega,fun _=>by omega⟩,fun q=> ?_,fun _=> ?_⟩
 ·exfalso;rw[hw,hE] at q;cases q
 have vA:K6 (Va c f 500) sA=7∨K6 (Va c f 500) sA=0∧Uv (Va c f 500) sA=(tkD c f false,sA,htD c f false):=Jys hv false
 have vB:K6 (Va c f 500) sB=7∨K6 (Va c f 500) sB=0∧Uv (Va c f 500) sB=(tkD c f true,sB,htD c f true):=Jys hv true
 have sAe:({data:={toList:=[65]}}:ByteArray)=sA:=rfl
 have sBe:({data:={toList:=[66]}}:ByteArray)=sB:=rfl
 rw[sAe,sBe]
 refine⟨⟨by omega,by omega⟩,fun q=> ?_,fun q=> ?_⟩
 ·rcases vA with e|⟨e,_⟩
  ·rw[e];exact⟨rfl,rfl⟩
  ·rw[e] at q;cases q
 obtain⟨eA0,eAF⟩:K6 (Va c f 500) sA=0∧Uv (Va c f 500) sA=(tkD c f false,sA,htD c f false):=by
  rcases vA with e|e
  ·rw[e] at q;cases q
  ·exact e
 have fA1:(Uv (Va c f 500) sA).1=tkD c f false:=by rw[eAF]
 have fA2:(Uv (Va c f 500) sA).2.1=sA:=by rw[eAF]
 have fA3:(Uv (Va c f 500) sA).2.2=htD c f false:=by rw[eAF]
 rw[fA1,fA2,fA3]
 have bA:=Vs (d:=false) hv
 have bB:=Vs (d:=true) hv
 have ht:=hv.2.2.2.1
 have tA:Jdv (0,[(tkD c f false,1)])=0:=Jl1 (by omega) (by omega)
 have tB:Jdv (0+1,[(tkD c f true,1)])=0:=Jl1 (by omega) (by omega)
 have mA:Juh (0,[(tkD c f false,1)])=[Uz 0 (tkD c f false)]:=by unfold Juh;rw[if_pos tA];rfl
 have mB:Juh (0+1,[(tkD c f true,1)])=[Uz 1 (tkD c f true)]:=by unfold Juh;rw[if_pos tB];rfl
 refine⟨by decide,fun q=> ?_,fun _=> ?_⟩
 ·exfalso;rw[tA] at q;cases q
 rw[mA]
 refine⟨by decide,(by decide:(1+1)*48≤140737488355328),by decide,⟨by omega,by omega⟩,fun q=> ?_,fun q=> ?_⟩
 ·rcases vB with e|⟨e,_⟩
  ·rw[e];exact⟨rfl,rfl⟩
  ·rw[e] at q;cases q
 obtain⟨eB0,eBF⟩:K6 (Va c f 500) sB=0∧Uv (Va c f 500) sB=(tkD c f true,sB,htD c f true):=by
  rcases vB with e|e
  ·rw[e] at q;cases q
  ·exact e
 have fB1:(Uv (Va c f 500) sB).1=tkD c f true:=by rw[eBF]
 have fB2:(Uv (Va c f 500) sB).2.1=sB:=by rw[eBF]
 have fB3:(Uv (Va c f 500) sB).2.2=htD c f true:=by rw[eBF]
 rw[fB1,fB2,fB3]
 refine⟨by decide,fun q=> ?_,fun _=> ?_⟩
 ·exfalso;rw[tB] at q;cases q
 rw[mB]
 have ls:(Hp c f).length=4:=rfl
 refine⟨(by decide:(2+1)*48≤140737488355328),(by decide:(3+1)*48≤140737488355328),by decide,⟨⟨⟩,⟨rfl,rfl,rfl,rfl,rfl,rfl,rfl,rfl,rfl,rfl,rfl,rfl,rfl,rfl,rfl,rfl,rfl,rfl,rfl,rfl,rfl,rfl,rfl,rfl,rfl⟩,trivial⟩,fun _ _=> ?_⟩
 have rA:Jfe (Hp c f) 0 f.2.2.1=0∧Jgq (Hp c f) 0 f.2.2.1=(0,[(tkD c f false,1)]):=Jsr (t0:=tkD c f false) (t1:=tkD c f true) ht.1 ⟨by omega,by omega⟩ ⟨by omega,by omega⟩ (by omega) (.inl ⟨rfl,rfl⟩)
 have rB:Jfe (Hp c f) (0+1) f.2.2.1=0∧Jgq (Hp c f) (0+1) f.2.2.1=(0+1,[(tkD c f true,1)]):=Jsr (t0:=tkD c f false) (t1:=tkD c f true) ht.1 ⟨by omega,by omega⟩ ⟨by omega,by omega⟩ (by omega) (.inr ⟨rfl,rfl⟩)
 rw[rA.1,rA.2,rB.1,rB.2]
 refine⟨⟨by omega,by omega⟩,⟨fun _=>⟨Int.le_refl 0,Int.zero_lt_one⟩,fun _=>⟨Int.le_refl 0,Int.zero_lt_one⟩⟩,fun q=> ?_,fun _=> ?_⟩
 ·exfalso;simp at q
 refine⟨⟨⟨Int.le_refl 0,Int.zero_lt_one⟩,⟨Int.le_refl 0,Int.zero_lt_one⟩,⟨Int.le_refl 0,Int.zero_lt_one⟩,Int.le_refl 0,Int.zero_lt_one⟩,⟨by omega,by omega⟩,⟨by omega,by omega⟩,⟨fun _=>⟨Int.le_refl 0,Int.zero_lt_one⟩,fun _=>⟨Int.le_refl 0,Int.zero_lt_one⟩⟩,fun q=> ?_,fun _=> ?_⟩
 ·exfalso;simp at q
 have hs:=hv.2.1
 refine⟨⟨⟨Int.le_refl 0,Int.zero_lt_one⟩,⟨Int.le_refl 0,Int.zero_lt_one⟩,⟨Int.le_refl 0,Int.zero_lt_one⟩,Int.le_refl 0,Int.zero_lt_one⟩,⟨by omega,by omega⟩,(0:Nat),⟨(Hv c).symm,rfl,rfl,rfl,rfl,rfl,rfl,rfl,rfl,rfl,rfl,rfl,rfl,rfl,rfl,rfl,rfl,rfl,rfl,rfl,rfl⟩,hs.1,fun(j:Nat) hj=>⟨fun q=> ?_,fun q=> ?_⟩⟩
 ·have q:=of_decide_eq_true q
  have pj:=Jcc hv.1 j
  have pj1:=Jcc hv.1 (j+1)
  have ej1:((j+1:Nat):Int)=(j:Int)+1:=by simp
  have ps:=V8 (c:=c) (b:=(j:Int)) (by omega) (by omega)
  rw[ej1,ps,Int.toNat_natCast] at pj1
  rw[Int.toNat_natCast] at ps
  refine⟨⟨⟨by omega,by omega⟩,⟨by omega,by omega⟩,by omega,by omega⟩,⟨by omega,by omega⟩,(j+1:Nat),⟨by rw[ej1,ps],rfl,by simp,rfl,rfl,rfl,rfl,rfl,rfl,rfl,rfl,rfl,rfl,rfl,rfl,rfl,rfl,rfl,rfl,rfl,rfl⟩, ?_,by omega⟩
  show((j+1:Nat):Int)≤f.1
  omega
 have q:=of_decide_eq_false q
 have hj:(j:Int)≤f.1:=hj
 have ej:(j:Int)=f.1:=by omega
 rw[ej]
 obtain⟨⟨e1,e2,e3⟩,⟨r1,r2,r3⟩,⟨k1,k2⟩,v1,v2,v3⟩:=Jim hv
 have hpp:Jm c f=Vg c f.1+f.2.1:=rfl
 obtain⟨o1,o2⟩:=Juz hv
 rw[hpp] at o2
 have pa:=Jcc hv.1 f.1.toNat
 have pb:=Jcc hv.1 (f.1.toNat+1)
 have ef:((f.1.toNat:Nat):Int)=f.1:=by omega
 have ef1:((f.1.toNat+1:Nat):Int)=f.1+1:=by omega
 rw[ef] at pa
 rw[ef1,V8 (by omega) hs.2] at pb
 have ho:=hv.2.2.1
 obtain⟨S,hS⟩:∃S,c.1.getD f.1.toNat ((0,0):Int×Int)=S:=⟨_,rfl⟩
 rw[hS] at e3 r3 k2 v3 pb ho⊢
 have u0:=Int.tmod_nonneg 10 hn1.1
 have u1:=Int.tmod_lt_of_pos n.1 (show(0:Int)<10 by decide)
 have w0:=Int.tmod_nonneg 10 hn2.1
 have w1:=Int.tmod_lt_of_pos n.2.1 (show(0:Int)<10 by decide)
 obtain⟨u,hu⟩:∃u,n.1.tmod 10=u:=⟨_,rfl⟩
 obtain⟨v,hvv⟩:∃v,n.2.1.tmod 10=v:=⟨_,rfl⟩
 rw[hu] at u0 u1⊢
 rw[hvv] at w0 w1⊢
 obtain⟨N,hN⟩:∃N,Jkw c (max 0 (tkD c f false-u),tkD c f false+u) (max 0 (tkD c f true-v),tkD c f true+v)=N:=⟨_,rfl⟩
 obtain⟨x1,⟨x2,x3⟩,⟨x4,x5⟩,y1,y2,y3,y4⟩:=Jye hv ⟨u0,by omega⟩ ⟨w0,by omega⟩ hN
 rw[hpp] at x4 x5 y1 y2 y3 y4
 rw[hN]
 refine⟨⟨l1,l2,l1,l2⟩,⟨l1,l2,⟨by omega,by omega⟩,l1,l2⟩,⟨l1,l2,l1,l2⟩,⟨l1,l2,hs,hs,⟨by omega,by omega⟩,l1,l2⟩,⟨fun _=>prI v2.1 v1.2,fun _=>prI v1.1 v2.2,fun _=>prI v1.1 v3.2,fun _=>prI v3.1 v1.2⟩,fun q=> ?_,fun _=> ?_⟩
 ·exfalso
  simp[o1,o2,rr,e1,e2,e3,r1,r2,r3,k1,k2] at q
 have nk1:decide (0<Jgs (N.1,N.2.1) ((J0 c (Vg c f.1+f.2.1)).1,(J0 c (Vg c f.1+f.2.1)).2))=false:=decide_eq_false (Int.not_lt.2 x4)
 have nk2:decide (0<Jgs ((J0 c (Vg c f.1+f.2.1)).1,(J0 c (Vg c f.1+f.2.1)).2) (N.2.2.1,N.2.2.2))=false:=decide_eq_false (Int.not_lt.2 x5)
 refine⟨⟨⟨by omega,by omega⟩,fun h=>by omega⟩,⟨⟨by omega,by omega⟩,by omega,by omega⟩,⟨by omega,by omega⟩,⟨⟨by omega,by omega⟩,fun h=>by omega⟩,⟨⟨by omega,by omega⟩,by omega,by omega⟩,⟨by omega,by omega⟩,⟨l1,l2,l1,l2⟩,⟨fun _=>y1,fun _=>y2,fun _=>y4,fun _=>y3⟩,fun q=> ?_,fun _=> ?_⟩
 ·exfalso
  rw[x1,x2,x3,nk1,nk2] at q
  cases q
 have hh:=hv.2.2.2.2.1
 refine⟨⟨⟨by omega,by omega⟩,⟨⟩,⟨rfl,rfl,rfl,rfl,rfl,rfl,rfl,rfl,rfl,rfl,rfl,rfl,rfl,rfl,rfl⟩,trivial⟩,fun _ _=> ?_⟩
 have m0:=Int.tmod_nonneg 16 hn3.1
 have m1:=Int.tmod_lt_of_pos n.2.2 (show(0:Int)<16 by decide)
 have hpos:=hv.1.1
 have badI:∀(d:Bool) (e:ByteArray),e=Yi d→(Jgo c ((f.1,f.1+1),mx f.2.2.2,1+n.2.2.tmod 16,e)==0)=true→¬(bif bif bif Ye (Va c f 500) ((f.1,f.1+1),mx f.2.2.2,1+n.2.2.tmod 16,e) (thF c ((f.1,f.1+1),mx f.2.2.2,1+n.2.2.tmod 16,e)).1 !=0 then true else Ye (Va c f 500) ((f.1,f.1+1),mx f.2.2.2,1+n.2.2.tmod 16,e) (thF c ((f.1,f.1+1),mx f.2.2.2,1+n.2.2.tmod 16,e)).2 !=0 then true else !Yy (Va c f 500) ((f.1,f.1+1),mx f.2.2.2,1+n.2.2.tmod 16,e) (thF c ((f.1,f.1+1),mx f.2.2.2,1+n.2.2.tmod 16,e)).1 then true else !Yy (Va c f 500) ((f.1,f.1+1),mx f.2.2.2,1+n.2.2.tmod 16,e) (thF c ((f.1,f.1+1),mx f.2.2.2,1+n.2.2.tmod 16,e)).2)=true:=by
  intro d e he p q
  obtain⟨a1,a2,a3,a4⟩:=Ju9 (z:=((f.1,f.1+1),mx f.2.2.2,1+n.2.2.tmod 16,e)) (d:=d) hv he ⟨Int.le_refl _,by show f.1<f.1+1;omega⟩ (Int.le_refl _) (eq_of_beq p)
  rw[a1,a2,a3,a4] at q
  cases q
 have badO:∀(d:Bool) (e:ByteArray) (o:Int),e=Yi d→o≠f.1→(Jgo c ((o,o+1),1024,mx f.2.2.2,e)==0)=true→¬(bif Ye (Va c f 500) ((o,o+1),1024,mx f.2.2.2,e) (thF c ((o,o+1),1024,mx f.2.2.2,e)).1 !=0 then true else Yy (Va c f 500) ((o,o+1),1024,mx f.2.2.2,e) (thF c ((o,o+1),1024,mx f.2.2.2,e)).1)=true:=by
  intro d e o he hne p q
  obtain⟨a1,a2⟩:=Jqq (z:=((o,o+1),1024,mx f.2.2.2,e)) (d:=d) hv he (by show ¬(o≤f.1∧f.1<o+1);omega) (Int.le_refl _) (eq_of_beq p)
  rw[a1,a2] at q
  cases q
 have two:(bif (c.1.length:Int)==1 then true else decide (512<mx f.2.2.2))=false→2≤(c.1.length:Int):=fun q=>by
  have q1:=beq_eq_false_iff_ne.1 (bnT.1 q).1
  omega
 have oth:=fun(q:(bif (c.1.length:Int)==1 then true else decide (512<mx f.2.2.2))=false)=>Jqr hs (two q) hn3.1
 have rem0:=fun(q:(bif (c.1.length:Int)==1 then true else decide (512<mx f.2.2.2))=false)=>Int.tmod_nonneg ((c.1.length:Int)-1) hn3.1
 have rem1:=fun(q:(bif (c.1.length:Int)==1 then true else decide (512<mx f.2.2.2))=false)=>Int.tmod_lt_of_pos n.2.2 (show 0<(c.1.length:Int)-1 by have:=two q;omega)
 have nums:(bif (c.1.length:Int)==1 then true else decide (512<mx f.2.2.2))=false→((-9223372036854775808≤f.1+1∧f.1+1≤9223372036854775807)∧(-9223372036854775808≤n.2.2∧n.2.2≤9223372036854775807)∧(-9223372036854775808≤(c.1.length:Int)-1∧(c.1.length:Int)-1≤9223372036854775807)∧((c.1.length:Int)-1=0→False)∧(-9223372036854775808≤f.1+1+n.2.2.tmod ((c.1.length:Int)-1)∧f.1+1+n.2.2.tmod ((c.1.length:Int)-1)≤9223372036854775807)∧((c.1.length:Int)=0→False))∧(-9223372036854775808≤(f.1+1+n.2.2.tmod ((c.1.length:Int)-1)).tmod c.1.length+1∧(f.1+1+n.2.2.tmod ((c.1.length:Int)-1)).tmod c.1.length+1≤9223372036854775807):=fun q=>by
  have a:=two q
  have b:=rem0 q
  have d:=rem1 q
  have g:=oth q
  exact⟨⟨⟨by omega,by omega⟩,⟨by omega,by omega⟩,⟨by omega,by omega⟩,fun h=>by omega,⟨by omega,by omega⟩,fun h=>by omega⟩,by omega,by omega⟩
 refine(fun R2=>⟨⟨⟨by omega,by omega⟩,⟨by omega,by omega⟩,fun h=>by omega,by omega,by omega⟩,⟨⟨l1,l2,l1,l2⟩,fun p=>⟨⟨by omega,by omega⟩,⟨by omega,by omega⟩,fun q=>absurd q (badI false _ rfl p),fun _=>⟨⟨⟩,⟨rfl,rfl,rfl,rfl,rfl,rfl,rfl,rfl,rfl,rfl,rfl,rfl,rfl,rfl,rfl,rfl,rfl⟩,trivial⟩⟩,fun _=>⟨⟨⟩,⟨rfl,rfl,rfl,rfl,rfl,rfl,rfl,rfl,rfl,rfl,rfl,rfl,rfl,rfl,rfl,rfl,rfl⟩,trivial⟩⟩,fun _ _=>⟨fun _=>R2,fun q=>⟨(nums q).1,(nums q).2,⟨l1,l2,l1,l2⟩,fun p=>⟨⟨by omega,by omega⟩,fun q'=>absurd q' (badO false _ _ rfl (oth q).2 p),fun _=>R2⟩,fun _=>R2⟩⟩⟩) ?_
 exact⟨⟨by omega,by omega⟩,⟨⟨by omega,by omega⟩,⟨by omega,by omega⟩,fun h=>by omega,by omega,by omega⟩,⟨⟨l1,l2,l1,l2⟩,fun p=>⟨⟨by omega,by omega⟩,⟨by omega,by omega⟩,fun q=>absurd q (badI true _ rfl p),fun _=>⟨⟨⟩,⟨rfl,rfl,rfl,rfl,rfl,rfl,rfl,rfl,rfl,rfl,rfl,rfl,rfl,rfl,rfl,rfl,rfl⟩,trivial⟩⟩,fun _=>⟨⟨⟩,⟨rfl,rfl,rfl,rfl,rfl,rfl,rfl,rfl,rfl,rfl,rfl,rfl,rfl,rfl,rfl,rfl,rfl⟩,trivial⟩⟩,fun _ _=>⟨fun _=>⟨⟨by omega,by omega⟩,rfl,rfl⟩,fun q=>⟨(nums q).1,(nums q).2,⟨l1,l2,l1,l2⟩,fun p=>⟨⟨by omega,by omega⟩,fun q'=>absurd q' (badO true _ _ rfl (oth q).2 p),fun _=>⟨⟨by omega,by omega⟩,rfl,rfl⟩⟩,fun _=>⟨⟨by omega,by omega⟩,rfl,rfl⟩⟩⟩⟩
theorem ok3:Ok Tryz.prog 3 Jzf:=Vz mixed Kgh.ok (by kernel_rfl) (by kernel_rfl) (H2 (l:=([]:List (Nat×Func))) (by simp)) (fun xx=>Jzw xx.1 xx.2.1 xx.2.2.1) (fun xx=>fun _=>na ()) fun xx=>wp3 xx.1 xx.2.1 xx.2.2.1
end Go.Proofs.YthchfepplbcdeaaGreatDoor

/- Contracts of the functions that the law reaches: part of the proof. -/
import Derived.Test.YthlgkojihnccaaaGreatDoorFB
set_option linter.unusedSimpArgs false
set_option linter.unusedVariables false
set_option maxRecDepth 20000
namespace Go.Proofs.YthlgkojihnccaaaGreatDoor
open Go.Sx
set_option maxHeartbeats 20000000
theorem J4v {f:Bool} {c:Nat} (h:okB f (c:Int)=true):c≠10∧c≠32:=by
 refine⟨fun e=> ?_,fun e=> ?_⟩
 ·subst e;cases f<;>exact absurd h (by decide)
 ·subst e;cases f<;>exact absurd h (by decide)
theorem Jxu:∀{l:List UInt8} {f:Bool},okL f l=true→∀c∈l,c≠10∧c≠32
 |[],_,_,c,hc=>by cases hc
 | b :: l, f, h, c, hc => by
  unfold okL at h
  rw[Bool.and_eq_true] at h
  rcases List.mem_cons.1 hc with hc|hc
  ·subst hc
   have:=J4v h.1
   exact⟨fun e=>this.1 (by rw[e];rfl),fun e=>this.2 (by rw[e];rfl)⟩
  ·exact Jxu h.2 c hc
theorem Jrq {s:ByteArray} (h:Vk s=true):(∀c∈s.data.toList,c≠10∧c≠32)∧emB s=false:=by
 unfold Vk at h
 rw[Bool.and_eq_true,Bool.and_eq_true] at h
 refine⟨Jxu h.1, ?_⟩
 unfold emB
 rw[Jhe,h.2.1]
 rfl
theorem Jzz {k:ByteArray} (h:V4 k=true):∀c∈k.data.toList,c≠10∧c≠32:=by
 rcases U3 h with h|h|h|h|h|h|h|h|h|h|h<;>subst h<;>decide
theorem Jhf {v:Int} (h0:0≤v) (h1:v≤999999999):dgB (Yf v)=true∧dgN (Yf v)=v:=by
 obtain⟨u,rfl⟩:∃u:Nat,v=(u:Int):=⟨v.toNat,by omega⟩
 have e:Yf (u:Int)=bs (Lib.decDigits u):=by
  show bs (Lib.itoa (u:Int))=_
  rw[Lib.itoa_nonneg]
 have d:=Jo4 (u:=u) (by omega)
 unfold dgB dgN
 rw[e,d]
 exact⟨rfl,rfl⟩
theorem Jz2 (v:Int):∀c∈(Yf v).data.toList,c≠10∧c≠32:=Jg1 v
theorem Jl1 (c:UInt8):∀{ws:List (List UInt8)},ws≠[]→(∀w∈ws,c∉w)→Jen c (Lib.join ws [c])=ws
 |[],h,_=>absurd rfl h
 |[w],_,h=>by rw[Jgz,Jh7 (h w (List.mem_cons_self ..))]
 |w::x::r,_,h=>by
  rw[Jda (by simp),List.append_assoc]
  show Jen c (w++c::Lib.join (x::r) [c])=_
  rw[Jl3 _ (h w (List.mem_cons_self ..)),Jl1 c (by simp) fun y hy=>h y (List.mem_cons_of_mem _ hy)]
abbrev Ja0 (e:Ev):List ByteArray:=e.2.2.1++e.2.2.2.1.map Yf
theorem Jva {e:Ev} (hc:Ja e=0):Jy6 e.2.1 (Ja0 e)∧Xn (e.2.1::Ja0 e)=((0,e.2),true):=by
 have hE:=J2 hc
 have hn:e.2.2.1.length=nrK e.2.1:=hE.nn
 have hv:e.2.2.2.1.length=nvK e.2.1:=by have:=hE.nv;unfold nvK;omega
 have ht:e.2.2.2.2=Jd:=by
  have:=hE.txt
  have h2:=Jhe e.2.2.2.2
  rw[decide_eq_false (by omega)] at h2
  exact Y3 h2
 have t1:(Ja0 e).take (nrK e.2.1)=e.2.2.1:=by rw[←hn];exact List.take_left' rfl
 have t2:(Ja0 e).drop (nrK e.2.1)=e.2.2.2.1.map Yf:=by rw[←hn];exact List.drop_left' rfl
 have vm:(e.2.2.2.1.map Yf).map dgN=e.2.2.2.1:=by
  rw[List.map_map]
  refine(List.map_congr_left fun v hv=> ?_).trans (List.map_id _)
  have:=hE.val v hv
  exact(Jhf this.1 this.2).2
 have hw:Jy6 e.2.1 (Ja0 e):=by
  refine⟨?_,fun w hw=> ?_,fun w hw=> ?_⟩
  ·rw[List.length_append,List.length_map,hn,hv]
  ·rw[t1] at hw;exact(Jrq (hE.name w hw)).2
  ·rw[t2] at hw
   obtain⟨v,hv,rfl⟩:=List.mem_map.1 hw
   have:=hE.val v hv
   exact(Jhf this.1 this.2).1
 refine⟨hw, ?_⟩
 rw[Jrd hE.kind hw,t1,t2,vm,←ht]
theorem Jlx {e:Ev} (hc:Ja e=0):∀w∈e.2.1::Ja0 e,∀c∈w.data.toList,c≠10∧c≠32:=by
 have hE:=J2 hc
 intro w hw
 rcases List.mem_cons.1 hw with hw|hw
 ·subst hw;exact Jzz hE.kind
 ·rcases List.mem_append.1 hw with hw|hw
  ·exact(Jrq (hE.name w hw)).1
  ·obtain⟨v,_,rfl⟩:=List.mem_map.1 hw
   exact Jz2 v
abbrev Jvc (e:Ev):List UInt8:=Lib.join ((e.2.1::Ja0 e).map (·.data.toList)) [32]
theorem Je1 {e:Ev} (hc:Ja e=0):Ja2 (bs (Jvc e)) 32=e.2.1::Ja0 e:=by
 have h:=Jlx hc
 show(Jen 32 (Jvc e)).map bs=_
 rw[Jl1 32 (by simp) fun w hw=> ?_]
 ·rw[List.map_map]
  exact(List.map_congr_left fun w _=>rfl).trans (List.map_id _)
 ·obtain⟨x,hx,rfl⟩:=List.mem_map.1 hw
  exact fun hm=>(h x hx 32 hm).2 rfl
theorem Jww {e:Ev} (hc:Ja e=0):Jew 32 (Ku e).data.toList=true∧H1 32 (Ku e).data.toList=Lib.itoa e.1∧F3 32 (Ku e).data.toList=Jvc e:=by
 have hb:=Jfu e
 have ht:(J4m e.1).data.toList=Lib.itoa e.1:=rfl
 rw[ht] at hb
 have hni:(32:UInt8)∉Lib.itoa e.1:=fun hm=>(Jg1 e.1 32 hm).2 rfl
 have:=Jx6 (c:=32) (l:=(Ku e).data.toList) (k:=(Lib.itoa e.1).length) (by rw[hb,List.take_left' rfl];exact hni) (by rw[hb,List.length_append,List.length_cons];omega) (by rw[hb,List.getD_eq_getElem?_getD,List.getElem?_append_right (Nat.le_refl _),Nat.sub_self];rfl)
 refine⟨this.1,this.2.1.trans ?_,this.2.2.trans ?_⟩
 ·rw[hb,List.take_left' rfl]
 ·rw[hb,List.drop_append,List.drop_eq_nil_of_le (by omega),show(Lib.itoa e.1).length+1-(Lib.itoa e.1).length=1 by omega];rfl
theorem Jzm {e:Ev} (hc:Ja e=0):okX (Ku e)=false∧evX (Ku e)=e:=by
 have hE:=J2 hc
 obtain⟨c1,c2,c3⟩:=Jww hc
 have hh:Jsh (Ku e)=Yf e.1:=by unfold Jsh;rw[c2];rfl
 have hr:Jq6 (Ku e)=bs (Jvc e):=by unfold Jq6;rw[c3]
 have d:=Jhf (v:=e.1) (by have:=hE.num;omega) (by have:=hE.num;omega)
 have w:=(Jva hc).2
 have ex:evX (Ku e)=e:=by
  unfold evX
  rw[hh,hr,Je1 hc,w]
  show(dgN (Yf e.1),e.2)=e
  rw[d.2]
 refine⟨?_,ex⟩
 unfold okX
 rw[hh,hr,Je1 hc,w,ex,hc]
 show(bif bif !dgB (Yf e.1) then true else !true then true else(0:Int) !=0)=false
 rw[d.1]
 rfl
abbrev Yy (e:Ev):List UInt8:=(Ku e).data.toList++[35]++(Je6 (Ku e)).data.toList
theorem Jgj (e:Ev):(Jgk e).data.toList=Yy e++[10]:=rfl
theorem Jqg (s:ByteArray):Vg (Je6 s).data.toList=true:=by
 have pad:∀(n:Nat) (l:List UInt8),Vg l=true→Vg (List.replicate n 48++l)=true:=by
  intro n
  induction n with
  |zero=>intro l h;exact h
  |succ n ih=>intro l h;rw[List.replicate_succ,List.cons_append,Vg,ih l h];rfl
 have all:∀l:List UInt8,(∀c∈l,Yg c.toNat=true)→Vg l=true:=by
  intro l
  induction l with
  |nil=>intro _;rfl
  |cons c l ih=>intro h;rw[Vg,h c (List.mem_cons_self ..),ih fun x hx=>h x (List.mem_cons_of_mem _ hx)];rfl
 show Vg (J9q (Lib.itoa (Jh5 s)))=true
 unfold J9q
 refine pad _ _ (all _ fun c hc=> ?_)
 obtain⟨u,hu⟩:∃u:Nat,Jh5 s=(u:Int):=⟨(Jh5 s).toNat,by have:=Jj8 s;omega⟩
 rw[hu,Lib.itoa_nonneg] at hc
 exact Jst u c hc
theorem Jfo (e:Ev):(bs (Yy e)).size=(Ku e).size+8∧Vu (bs (Yy e))=Ku e∧Jgb (bs (Yy e))=Je6 (Ku e)∧(Yy e).getD (Ku e).size 0=35:=by
 have hs:(Je6 (Ku e)).data.toList.length=7:=by rw[←Fg (Ku e)];simp
 have hb:(Ku e).data.toList.length=(Ku e).size:=by simp
 have hl:(Yy e).length=(Ku e).size+8:=by
  rw[List.length_append,List.length_append,hs,hb];rfl
 have hz:(bs (Yy e)).size=(Ku e).size+8:=by rw[Up,hl]
 refine⟨hz, ?_, ?_, ?_⟩
 ·unfold Vu
  rw[hz,Nat.add_sub_cancel]
  show bs ((Yy e).take (Ku e).size)=_
  rw[show Yy e=(Ku e).data.toList++([35]++(Je6 (Ku e)).data.toList) from List.append_assoc ..,←hb,List.take_left' rfl]
  rfl
 ·unfold Jgb
  rw[hz]
  show bs ((Yy e).drop ((Ku e).size+8-7))=_
  rw[show(Ku e).size+8-7=((Ku e).data.toList++[35]).length by rw[List.length_append,hb];rfl,List.drop_left' rfl]
  rfl
 ·rw[show Yy e=(Ku e).data.toList++([35]++(Je6 (Ku e)).data.toList) from List.append_assoc ..,List.getD_eq_getElem?_getD,List.getElem?_append_right (by omega),hb,Nat.sub_self]
  rfl
theorem Jwk {e:Ev} (hc:Ja e=0):U6 (bs (Yy e))=(e,0):=by
 obtain⟨h1,h2,h3,h4⟩:=Jfo e
 obtain⟨o1,o2⟩:=Jzm hc
 have hd:Jm3 (Je6 (Ku e))=true:=by
  unfold Jm3
  rw[Jqg,Fg];rfl
 have hsh:Je8 (bs (Yy e))=false:=by
  unfold Je8
  rw[h1,h3,hd]
  show(bif bif decide ((((Ku e).size+8:Nat):Int)-7-1<0) then true else(((Yy e).getD ((Ku e).size+8-8) 0).toNat:Int) !=35 then true else !true)=false
  rw[Nat.add_sub_cancel,h4,decide_eq_false (by omega)]
  rfl
 unfold U6
 rw[hsh,h2,h3,o1,o2]
 simp
theorem Jrx {e : Ev} (hc : Ja e = 0) : (10 : UInt8) ∉ Yy e := by
 intro hm
 rcases List.mem_append.1 hm with hm|hm
 ·rcases List.mem_append.1 hm with hm | hm
  ·rw [Jfu] at hm
   rcases List.mem_append.1 hm with hm|hm
   ·exact(Jg1 e.1 10 hm).1 rfl
   ·rcases List.mem_cons.1 hm with hm|hm
    ·exact absurd hm (by decide)
    ·have h:=Jlx hc
     have jm:∀{ws:List (List UInt8)},(10:UInt8)∈Lib.join ws [32]→∃w∈ws,(10:UInt8)∈w:=by
      intro ws
      induction ws with
      |nil=>intro h;cases h
      | cons w r ih =>
       intro h
       by_cases q:r=[]
       ·subst q;rw[Jgz] at h;exact⟨w,List.mem_cons_self ..,h⟩
       ·rw[Jda q] at h
        rcases List.mem_append.1 h with h|h
        ·rcases List.mem_append.1 h with h|h
         ·exact⟨w,List.mem_cons_self ..,h⟩
         ·exact absurd h (by decide)
        ·obtain⟨x,a,b⟩:=ih h
         exact⟨x,List.mem_cons_of_mem _ a,b⟩
     obtain⟨w,hw,h10⟩:=jm hm
     obtain⟨x,hx,rfl⟩:=List.mem_map.1 hw
     exact(h x hx 10 h10).1 rfl
  ·exact absurd hm (by decide)
 ·have:∀l:List UInt8,Vg l=true→(10:UInt8)∉l:=by
   intro l
   induction l with
   |nil=>intro _ h;cases h
   |cons c l ih=>
    intro h hm
    unfold Vg at h
    rw[Bool.and_eq_true] at h
    rcases List.mem_cons.1 hm with hm|hm
    ·subst hm;exact absurd h.1 (by decide)
    ·exact ih h.2 hm
  exact this _ (Jqg _) hm
def cat:List Ev→List UInt8
 |[]=>[]
 |e::l=>(Yy e++[10])++cat l
theorem Jlb:∀{a b:List Ev},cat (a++b)=cat a++cat b
 |[],b=>rfl
 |e::a,b=>by rw[List.cons_append,cat,cat,Jlb,←List.append_assoc]
def Jjr:List Ev→Nat→Prop
 |[],_=>True
 |e::l,n=>e.1=(n:Int)+1∧Jjr l (n+1)
theorem Jsw {c:UInt8}:∀{a r:List UInt8},c∉a→Jew c (a++c::r)=true∧H1 c (a++c::r)=a∧F3 c (a++c::r)=r
 |[],r,_=>by
  rw[List.nil_append]
  unfold Jew H1 F3
  rw[if_pos rfl,if_pos rfl,if_pos rfl]
  exact⟨rfl,rfl,rfl⟩
 |x::a,r,h=>by
  have hx:x≠c:=fun e=>h (e▸List.mem_cons_self ..)
  obtain⟨h1,h2,h3⟩:=Jsw (r:=r) fun hm=>h (List.mem_cons_of_mem _ hm)
  rw[List.cons_append]
  unfold Jew H1 F3
  rw[if_neg hx,if_neg hx,if_neg hx,h1,h2,h3]
  exact⟨rfl,rfl,rfl⟩
theorem Jsr {e:Ev} {k:Int} (hc:Ja e=0) (hk:e.1=k):Ky (bs (Yy e)) k=(e,0):=by
 unfold Ky
 rw[Jwk hc]
 dsimp only
 rw[if_pos rfl,hk]
 simp
theorem Jrc {f:Nat} {a r:List UInt8} {at_:Int} {o:List Ev} (h:(10:UInt8)∉a):Jcw (f+1) (a++10::r) at_ o=if(Ky (bs a) (o.length+1)).2≠0 then(o,at_,(Ky (bs a) (o.length+1)).2) else Jcw f r (at_+(a.length+1)) (o++[(Ky (bs a) (o.length+1)).1]):=by
 obtain⟨h1,h2,h3⟩:=Jsw (r:=r) h
 rw[Jcw,if_neg (by simp),h1,if_neg (by simp),h2,h3]
theorem Jmh:∀(l:List Ev) (f:Nat) (p:List UInt8) (a:Int) (o:List Ev),(∀e∈l,Ja e=0)→Jjr l o.length→(cat l++p).length≤f→∃f',p.length≤f'∧Jcw f (cat l++p) a o=Jcw f' p (a+((cat l).length:Int)) (o++l)
 |[],f,p,a,o,_,_,hf=>⟨f,hf,by rw[List.append_nil];show Jcw f p a o=Jcw f p (a+0) o;rw[Int.add_zero]⟩
 |e::l,f,p,a,o,hc,hn,hf=>by
  have he:=hc e (List.mem_cons_self ..)
  have hl:(cat (e::l)++p)=Yy e++10::(cat l++p):=by rw[cat,List.append_assoc,List.append_assoc];rfl
  rw[hl] at hf⊢
  have hlen:(Yy e++10::(cat l++p)).length=(Yy e).length+(cat l++p).length+1:=by rw[List.length_append,List.length_cons];omega
  rw[hlen] at hf
  obtain⟨g,rfl⟩:∃g,f=g+1:=⟨f-1,by omega⟩
  rw[Jrc (Jrx he),Jsr he hn.1]
  dsimp only
  rw[if_neg (by simp)]
  obtain⟨f',h1,h2⟩:=Jmh l g p (a+(((Yy e).length:Int)+1)) (o++[e]) (fun x hx=>hc x (List.mem_cons_of_mem _ hx)) (by rw[List.length_append];exact hn.2) (by omega)
  refine⟨f',h1, ?_⟩
  rw[h2,List.append_assoc]
  have:(cat (e::l)).length=(Yy e).length+1+(cat l).length:=by rw[cat,List.length_append,List.length_append];rfl
  rw[this]
  show Jcw f' p _ (o++([e]++l))=Jcw f' p _ (o++e::l)
  congr 1
  push_cast
  omega
theorem Jrb {f:Nat} {p:List UInt8} {a:Int} {o:List Ev} (h:(10:UInt8)∉p) (hf:p.length≤f):Jcw f p a o=(o,a,if p=[] then 0 else 28):=by
 cases f with
 |zero=>
  have:p=[]:=List.eq_nil_of_length_eq_zero (by omega)
  subst this;rfl
 |succ f=>
  rw[Jcw]
  by_cases q:p=[]
  ·rw[if_pos q,if_pos q]
  ·rw[if_neg q,if_neg q,if_pos (Jx5 h)]
theorem Jcv {l:List Ev} {p:List UInt8} (hc:∀e∈l,Ja e=0) (hn:Jjr l 0) (hp:(10:UInt8)∉p) (hs:(cat l++p).length≤1000000):Jc (bs (cat l++p))=(l,((cat l).length:Int),if p=[] then(0:Int) else 28):=by
 unfold Jc
 rw[if_neg (by rw[Up];omega),Up]
 obtain⟨f',h1,h2⟩:=Jmh l (cat l++p).length p 0 [] hc hn (Nat.le_refl _)
 show Jcw (cat l++p).length (cat l++p) 0 []=_
 rw[h2,Jrb hp h1,Int.zero_add]
 rfl
theorem Jo5 {e:Ev} (h:Ja e=0):F2 e:=by
 have hE:=J2 h
 have hk:=Jae e.2.1
 have h1:=hE.nn
 have h2:=hE.nv
 refine⟨by omega,by omega,fun s hs=> ?_⟩
 exact Nat.le_trans (Jgs (hE.name s hs)) (by decide)
theorem Jzj (s:ByteArray):lOk (Jc s).1:=⟨by have:=Dz s;omega,fun e he=>Jo5 (Jko s e he)⟩
def Jx8:Juf:={T:=96,s:=Jqv,pre:=fun s=>[(Jc s).2.2=0∨(Jc s).2.2=28,(Jb (Jc s).1).2.2=0],post:=fun s=>(Jb (Jc s).1).1}
abbrev Jtx (l:List Ev):Ann:={X:=J8×Nat,σ:=fun(h,k)=>⟨6,[(5, .one (.ptr 2 0)),(14, .one (.sl 0)),(15, .one (.int .i64 l.length)),(16, .one (.int .i64 k))],[(0, .imm 37 sEv l),(1, .sus []),(2, .box 94 [.sl 3, .sl 4, .sl 5]),(3, .own 37 sEv h.1),(4, .own 37 sEv h.2.1),(5, .own 48 Jif h.2.2)]⟩,inv:=fun(h,k)=>Yb h∧h.1.length=k∧k≤l.length∧l.length≤1000∧Vp h (l.drop k)=Jb l,mu:=fun(_,k)=>l.length-k}
def Z44 (a:Bt):=List.length (Jc a).1
def Ksl (a:Bt) (b:J8×Nat):=List.getD (Jc a).1 b.2 H2
def Ksi (a:Bt) (b:J8×Nat):=(Ksl a b).2
def Kse (a:Bt) (b:J8×Nat):=(Ksi a b).2
def Kn9 (a:(List Ev×List Ev×List Reg)×Nat) (b:Bt):=Yb a.1∧List.length a.1.1=a.2∧a.2≤Z44 b∧Z44 b≤1000∧Vp a.1 (List.drop a.2 (Jc b).1)=Jb (Jc b).1
def Kao (a:Bt) (b:J8×Nat):=((Ksl a b).1,(Ksi a b).1,(Kse a b).1,E2 (Kse a b).2)
def Kmw (a:J8×Nat) (b:Bt):=Uf (Jpv a) (Kao b a)
def Kmu (a:J8×Nat) (b:Bt):=(Kmw a b).2
def Kmi (a:J8×Nat) (b:Bt):=Kn (Jpv a) (Kao b a) !=0
theorem Kvi (s:ByteArray):wpFN Tryz.prog Ks6.g (na ()) (fun f id=>if f=23 then some (Jtx (Jc s).1) else none) (Sx.look ([(23,Tryz.f23)]:List (Nat×Func))) Tryz.f11 Jx8 s:=by
 refine(by kernel_rfl:((Jc s).2.2=0∨(Jc s).2.2=28→(Jb (Jc s).1).2.2=0→Br (bif (Jc s).2.2 !=0 then(Jc s).2.2 !=28 else false) (Sf true False) (Br (decide (1000<Z0 s)) (Br true (Sf true False) False) (∃(x:(List Ev×List Ev×List Reg)×Nat),Si (Z0 s) (0=Nc x.2∧(Jc s).1=(Jc s).1∧Jxb x)∧Kn9 x s∧∀(x:J8×Nat),Yb x.1∧List.length x.1.1=x.2∧x.2≤Z44 s∧Z44 s≤1000∧Vp x.1 (List.drop x.2 (Jc s).1)=Jb (Jc s).1→Br (decide (Nc x.2<Z0 s)) (Tw (Bd (Nc x.2) (Z0 s))∧(Jyt x∧List.length x.1.1<1000∧F2 (Kao s x))∧Br (Kmi x s) (Z41 x∧Br (Kmi x s) (Sf true False) False) (Z41 x∧∃(y:(List Ev×List Ev×List Reg)×Nat),Si (Z0 s) (Jnw x y∧(Jc s).1=(Jc s).1∧(Kmw x s).1=y.1.1∧(Kmu x s).1=y.1.2.1∧(Kmu x s).2=y.1.2.2)∧Kn9 y s∧Z44 s-y.2<Z44 s-x.2)) (Br false (Sf true False) (Sf true (Sf 96 (Si 0 (Jpv x=(Jb (Jc s).1).1))))))))=_).mp ?_
 delta Z0 Z41 Z44 Jnw Jpv H2 Jyt Ksl Ksi Kse Jxb Kn9 Kao Kmw Kmu Kmi Br Iw Bd Tw Sf Si Ln Nc B0 E2
 intro h0 hr
 have hl:=Jzj s
 have hlen:=Dz s
 generalize Jc s=r at*
 obtain⟨l,at_,e0⟩:=r
 dsimp only at h0 hr hl hlen⊢
 have e0:Jb l=Vp Xf l:=by unfold Jb;rw[if_neg (by omega)]
 refine⟨fun h=> ?_,fun _=>⟨fun h=> ?_,fun _=>⟨(Xf,(0:Nat)),by(repeat' first|exact rfl|exact⟨⟩|apply And.intro|omega|dsimp only;omega),⟨V0,rfl,Nat.zero_le _,hlen,e0.symm⟩,fun(x:J8×Nat) hx=>⟨fun h1=> ?_,fun h1=> ?_⟩⟩⟩⟩
 ·rcases h0 with h0|h0<;>rw[h0] at h<;>cases h
 ·have:=of_decide_eq_true h;omega
 ·obtain⟨g,k⟩:=x
  obtain⟨hi,hk,hk2,_,hrun⟩:=hx
  dsimp only at hi hk hk2 hrun
  have hlt:k<l.length:=by simpa using h1
  rw[Jo (d:=ev0) hlt,Vp] at hrun
  have hz:=hl.2 _ (Je (d:=ev0) hlt)
  have h2:Kn g (l.getD k ev0)=0:=by
   by_cases h2:Kn g (l.getD k ev0)=0
   ·exact h2
   ·rw[if_neg h2] at hrun
    rw[←hrun] at hr
    exact hr
  have eP:Uf g (l.getD k ev0)=Zd g (l.getD k ev0):=by unfold Uf;rw[if_pos h2]
  rw[if_pos h2] at hrun
  refine⟨⟨⟨by dsimp only;omega,by dsimp only;omega⟩,by dsimp only;omega,by dsimp only;omega⟩,⟨hi.ok,by show g.1.length<1000;omega,hz⟩,fun h3=>absurd h2 (bne_iff_ne.1 h3),fun _=>⟨by dsimp only;omega,(Zd g (l.getD k ev0),k+1),⟨rfl,by simp,rfl, ?_, ?_, ?_⟩,⟨Fz hi (by omega) h2, ?_,by dsimp only;omega,hlen,hrun⟩,by dsimp only;omega⟩⟩
  ·show(Uf g (l.getD k ev0)).1=_;rw[eP]
  ·show(Uf g (l.getD k ev0)).2.1=_;rw[eP]
  ·show(Uf g (l.getD k ev0)).2.2=_;rw[eP]
  ·show(Zd g (l.getD k ev0)).1.length=k+1
   rw[Y4,hk]
 ·obtain⟨g,k⟩:=x
  obtain⟨hi,hk,hk2,_,hrun⟩:=hx
  dsimp only at hi hk hk2 hrun
  have hlt:¬k<l.length:=by simpa using h1
  have:k=l.length:=by omega
  rw[this,List.drop_length,Vp] at hrun
  exact⟨fun h=>(by cases h),fun _=>⟨rfl,rfl,rfl,by rw[←hrun]⟩⟩
theorem Kxj:Ok Tryz.prog 11 (Juf.con Jx8):=J4t (Jri mixed Ks6.ok (by kernel_rfl) (by kernel_rfl) (Uq (l:=([(23,Tryz.f23)]:List (Nat×Func))) (List.forall_mem_cons.2 ⟨by kernel_rfl,by simp⟩)) (fun s=>na ()) (fun s=>fun f id=>if f=23 then some (Jtx (Jc s).1) else none) Kvi)
abbrev Kt6:=Ks6.add Kxj
theorem J1i {h:J8} {e:Ev} (ha:Hf h e=0):e.1=(h.1.length:Int)+1:=by
 unfold Hf at ha
 cases q:e.1 !=(h.1.length:Int)+1 with
 |true=>rw[q] at ha;cases ha
 |false=>exact bne_eq_false_iff_eq.1 q
theorem J1h {h:J8} {e:Ev}:(Zd h e).1=h.1++[e]:=by unfold Zd;cases e.2.1.toList==J0.toList<;>rfl
theorem Jgf {h:J8} {e:Ev} {l:List Ev} (h0:(Vp h (e::l)).2.2=0):Kn h e=0∧(Vp (Zd h e) l).2.2=0:=by
 by_cases ha:Kn h e=0
 ·rw[Vp,if_pos ha] at h0;exact⟨ha,h0⟩
 ·rw[Vp,if_neg ha] at h0;exact absurd h0 ha
theorem Fj {h:J8} {e:Ev} {l:List Ev} (ha:Kn h e=0):Vp h (e::l)=Vp (Zd h e) l:=by rw[Vp,if_pos ha]
theorem Jl8:∀{l:List Ev} {h:J8} {k:Nat},(Vp h l).2.2=0→k<l.length→Kn (Vp h (l.take k)).1 (l.getD k ev0)=0∧(Vp h (l.take (k+1))).1=Zd (Vp h (l.take k)).1 (l.getD k ev0)
 |[],_,_,_,hk=>by cases hk
 | e :: l, h, k, h0, hk => by
  obtain⟨ha,h0⟩:=Jgf h0
  cases k with
  |zero=>exact⟨ha,by show(Vp h [e]).1=_;rw[Fj ha];rfl⟩
  |succ k=>
   have:=Jl8 (k:=k) h0 (by simpa using hk)
   rw[List.take_succ_cons,List.take_succ_cons,Fj ha,Fj ha]
   exact this
theorem Jl7:∀{l:List Ev} {h:J8} {k:Nat},(Vp h l).2.2=0→(Vp h (l.take k)).2.2=0
 |[],_,k,_=>by rw[List.take_nil];rfl
 |e::l,h,0,_=>rfl
 |e::l,h,k+1,h0=>by
  obtain⟨ha,h0⟩:=Jgf h0
  rw[List.take_succ_cons,Fj ha]
  exact Jl7 h0
theorem Jqz:∀{l:List Ev} {h:J8},(Vp h l).2.2=0→(Vp h l).1.1=h.1++l
 |[],h,_=>(List.append_nil _).symm
 |e::l,h,h0=>by
  obtain⟨ha,h0⟩:=Jgf h0
  rw[Fj ha,Jqz h0,J1h,List.append_assoc]
  rfl
theorem Jke:∀{l:List Ev} {h:J8},(Vp h l).2.2=0→Jjr l h.1.length∧∀e∈l,Ja e=0
 |[],_,_=>⟨trivial,fun _ h=>(by cases h)⟩
 |e::l,h,h0=>by
  obtain⟨ha,h0⟩:=Jgf h0
  obtain⟨hc,hacc⟩:=add_zero ha
  obtain⟨h1,h2⟩:=Jke h0
  rw[Y4] at h1
  refine⟨⟨J1i hacc,h1⟩,fun x hx=> ?_⟩
  rcases List.mem_cons.1 hx with hx|hx
  ·rw[hx];exact hc
  ·exact h2 x hx
def Jk0 (l:List Ev) (k:Nat):J8:=(Jb (l.take k)).1
structure Jou (l:List Ev):Prop where
 err:(Jb l).2.2=0
 len:l.length≤20
theorem Jou.run {l:List Ev} (j:Jou l) (k:Nat):Jb (l.take k)=Vp Xf (l.take k)∧(Vp Xf (l.take k)).2.2=0:=by
 have hl:=j.len
 have h0:=j.err
 unfold Jb at h0⊢
 rw[if_neg (by omega)] at h0
 exact⟨by rw[if_neg (by rw[List.length_take];omega)],Jl7 h0⟩
theorem Jou.all {l:List Ev} (j:Jou l):Jb l=Vp Xf l∧(Vp Xf l).2.2=0:=by
 have:=j.run l.length
 rwa[List.take_length] at this
theorem Jou.step {l:List Ev} (j:Jou l) {k:Nat} (hk:k<l.length):Kn (Jk0 l k) (l.getD k ev0)=0∧Jk0 l (k+1)=Zd (Jk0 l k) (l.getD k ev0):=by
 unfold Jk0
 rw[(j.run k).1,(j.run (k+1)).1]
 exact Jl8 j.all.2 hk
theorem Jou.ev {l:List Ev} (j:Jou l) (k:Nat):(Jk0 l k).1=l.take k:=by
 unfold Jk0
 rw[(j.run k).1]
 exact Jqz (j.run k).2
theorem Jou.num {l:List Ev} (j:Jou l):Jjr l 0:=(Jke j.all.2).1
theorem Jou.ck {l:List Ev} (j:Jou l):∀e∈l,Ja e=0:=(Jke j.all.2).2
theorem Jou.ok {l:List Ev} (k:Nat):Yb (Jk0 l k):=Xz
theorem Jgo:∀{l:List Ev} {n k:Nat},Jjr l n→Jjr (l.take k) n
 |[],_,_,_=>by rw[List.take_nil];trivial
 |_::_,_,0,_=>trivial
 |e::l,n,k+1,h=>⟨h.1,Jgo h.2⟩
theorem Jmn:∀{l:List Ev} {n k:Nat},Jjr l n→k<l.length→(l.getD k ev0).1=(n:Int)+k+1
 |[],_,_,_,h=>by cases h
 |e::l,n,0,h,_=>by have:=h.1;show e.1=_;omega
 |e::l,n,k+1,h,hk=>by
  have:=Jmn (k:=k) h.2 (by simpa using hk)
  show(l.getD k ev0).1=_
  omega
theorem Jrw:∀l:List Ev,(Ktn l).data.toList=cat l
 |[]=>rfl
 | e :: l => by
  have ih:=Jrw l
  show Lib.join ((Jgk e).data.toList::(l.map Jgk).map (·.data.toList)) []=Yy e++[10]++cat l
  have ih:Lib.join ((l.map Jgk).map (·.data.toList)) []=cat l:=ih
  by_cases q:l=[]
  ·subst q
   show Lib.join [(Jgk e).data.toList] []=_
   rw[Jgz,Jgj,cat,List.append_nil]
  ·rw[Jda (by simpa using q),ih,Jgj,List.append_nil]
def Jio (l:List Ev) (k:Nat):ByteArray:=Ktn (l.take k)
theorem Ja5 (l:List Ev) (k:Nat):Jio l k=bs (cat (l.take k)):=by rw[←Jrw];rfl
theorem Jv5 {e:Ev} (h:Ja e=0):0<(Yy e).length∧(Yy e).length≤408:=by
 have:=Jfv h
 have hp:=(Jfo e).1
 rw[Up] at hp
 omega
theorem Js2:∀{l:List Ev},(∀e∈l,Ja e=0)→(cat l).length≤409*l.length
 |[],_=>Nat.le_refl _
 |e::l,h=>by
  have h1:=Jv5 (h e (List.mem_cons_self ..))
  have h2:=Js2 (l:=l) fun x hx=>h x (List.mem_cons_of_mem _ hx)
  rw[cat,List.length_append,List.length_append]
  simp only[List.length_cons,List.length_nil]
  omega
theorem Jou.ckT {l:List Ev} (j:Jou l) (k:Nat):∀e∈l.take k,Ja e=0:=fun e he=>j.ck e (List.mem_of_mem_take he)
theorem Jou.size {l:List Ev} (j:Jou l) (k:Nat):(Jio l k).size≤8180:=by
 have h1:=Js2 (j.ckT k)
 have h2:=j.len
 rw[List.length_take] at h1
 rw[Ja5,Up]
 omega
theorem Jm7 {l:List Ev} {k:Nat} (hk:k<l.length):cat (l.take (k+1))=cat (l.take k)++(Yy (l.getD k ev0)++[10]):=by
 rw[←K7 (d:=ev0) hk,Jlb,cat,cat,List.append_nil]
def Jmq (l:List Ev) (k:Nat):Int:=((Jio l k).size:Int)
theorem Jc9 {l:List Ev} {k:Nat}:Jmq l k=((cat (l.take k)).length:Int):=by unfold Jmq;rw[Ja5,Up]
theorem Ji1 {l:List Ev} {k:Nat} (hk:k<l.length):Jmq l (k+1)=Jmq l k+((Yy (l.getD k ev0)).length+1):=by
 rw[Jc9,Jc9,Jm7 hk,List.length_append,List.length_append,List.length_singleton]
 push_cast
 omega
theorem Jou.rcv {l:List Ev} (j:Jou l) (k:Nat):Jc (Jio l k)=(l.take k,Jmq l k,0):=by
 have hs:=j.size k
 rw[Ja5,Up] at hs
 have:=Jcv (l:=l.take k) (p:=[]) (j.ckT k) (Jgo j.num) (by simp) (by rw[List.append_nil];omega)
 rw[List.append_nil,if_pos rfl] at this
 rw[Jc9,Ja5,this]
theorem Jou.app {l:List Ev} (j:Jou l) {k:Nat} (hk:k<l.length):Jpa (Jio l k) (l.getD k ev0)=(Jio l (k+1),0):=by
 have hc:=j.ck _ (Je (d:=ev0) hk)
 have hr:=j.rcv k
 have he:J2y (Jio l k) (l.getD k ev0)=0:=by
  unfold J2y
  rw[hr,hc,Jmn j.num hk,List.length_take]
  have:min k l.length=k:=by omega
  rw[this]
  simp[Jg]
 unfold Jpa
 have h1:=j.size k
 have h2:=Jil (Jtm hc)
 have h3:=Jfv hc
 rw[if_neg (by rw[he];simp),if_neg (by omega),Ja5 l (k+1),Jm7 hk,←Jgj,Ja5]
 rfl
theorem Jc8 {l:List Ev} {i:Nat}:∀{k:Nat},i≤k→k≤l.length→Jmq l i≤Jmq l k
 |0,h,_=>by
  have:i=0:=by omega
  subst this;exact Int.le_refl _
 | k + 1, h, hk => by
  by_cases q:i=k+1
  ·subst q;exact Int.le_refl _
  ·have h1:=Jc8 (l:=l) (i:=i) (k:=k) (by omega) (by omega)
   have h2:=Ji1 (l:=l) (k:=k) (by omega)
   omega
def Jcf (l:List Ev) (z:Int):Nat→Nat
 |0=>0
 |k+1=>Jcf l z k+if Jmq l (k+1)≤z then 1 else 0
theorem Jly {l:List Ev} {z:Int}:∀{k:Nat},k≤l.length→Jcf l z k≤k∧∀i,1≤i→i≤k→(Jmq l i≤z↔i≤Jcf l z k)
 |0,_=>⟨Nat.le_refl _,fun i h1 h2=>by omega⟩
 | k + 1, hk => by
  obtain⟨h1,h2⟩:=Jly (l:=l) (z:=z) (k:=k) (by omega)
  unfold Jcf
  by_cases q:Jmq l (k+1)≤z
  ·rw[if_pos q]
   have hw:Jcf l z k=k:=by
    by_cases hz:k=0
    ·omega
    ·have:=(h2 k (by omega) (Nat.le_refl _)).1 (by have:=Jc8 (l:=l) (i:=k) (k:=k+1) (by omega) hk;omega)
     omega
   refine⟨by omega,fun i h3 h4=>⟨fun _=>by omega,fun _=> ?_⟩⟩
   have:=Jc8 (l:=l) (i:=i) (k:=k+1) h4 hk
   omega
  ·rw[if_neg q]
   refine⟨by omega,fun i h3 h4=> ?_⟩
   by_cases hi:i=k+1
   ·subst hi
    exact⟨fun h=>absurd h q,fun h=>by omega⟩
   ·exact h2 i h3 (by omega)
theorem Jr0 {l:List Ev}:Jmq l 0=0:=rfl
theorem Jou.cut {l:List Ev} (j:Jou l) {z:Int} (h0:0≤z) (h1:z≤Jmq l l.length):∃a e,Jc ((Jio l l.length).extract 0 z.toNat)=(l.take (Jcf l z l.length),a,e)∧(e=0∨e=28):=by
 obtain⟨w1,w2⟩:=Jly (l:=l) (z:=z) (Nat.le_refl l.length)
 generalize Jcf l z l.length=w at*
 have hw:Jmq l w≤z:=by
  by_cases q:w=0
  ·rw[q,Jr0];exact h0
  ·exact(w2 w (by omega) w1).2 (Nat.le_refl _)
 have e1:cat l=cat (l.take w)++cat (l.drop w):=by rw[←Jlb,List.take_append_drop]
 rw[Jc9] at hw
 obtain⟨p,hp,hx⟩:∃p,(10:UInt8)∉p∧(cat l).take z.toNat=cat (l.take w)++p:=by
  refine⟨(cat (l.drop w)).take (z.toNat-(cat (l.take w)).length), ?_,by rw[e1,List.take_append,List.take_of_length_le (by omega)]⟩
  by_cases q:w<l.length
  ·have hc:=j.ck _ (Je (d:=ev0) q)
   rw[Jo (d:=ev0) q,cat,List.append_assoc]
   have h2:¬Jmq l (w+1)≤z:=fun h=>by
    have:=(w2 (w+1) (by omega) (by omega)).1 h
    omega
   rw[Ji1 q,Jc9] at h2
   rw[List.take_append_of_le_length (by omega)]
   exact fun hm=>Jrx hc (List.mem_of_mem_take hm)
  ·rw[List.drop_eq_nil_of_le (by omega)]
   simp[cat]
 have hs:=j.size l.length
 have hx2:(Jio l l.length).extract 0 z.toNat=bs (cat (l.take w)++p):=by
  rw[Jm0,Ja5,List.take_length]
  show bs ((cat l).take z.toNat)=_
  rw[hx]
 have hlen:(cat (l.take w)++p).length≤1000000:=by
  rw[←hx,List.length_take]
  rw[Ja5,List.take_length,Up] at hs
  omega
 rw[hx2,Jcv (j.ckT w) (Jgo j.num) hp hlen]
 exact⟨_,_,rfl,by by_cases q:p=[]<;>simp[q]⟩
theorem J6s {q:Reg} {e:Ev} {n:Int}:Uu q (n,e.2)=Uu q e:=by obtain⟨_,_,_,_,_⟩:=e;rfl
theorem Jze {q:Reg} {e:Ev} {n:Int}:Jv q (n,e.2)=Jv q e:=by
 obtain⟨_,_,_,_,_⟩:=e
 unfold Jv doS
 dsimp only
 split<;>rfl
theorem J46 {e:Ev} {n:Int} (h:Ja e=0) (h1:1≤n) (h2:n≤1000):Ja (n,e.2)=0:=by
 have hw:=Ko.2 ⟨(J2 h).num.1,(J2 h).num.2⟩
 unfold Ja at h⊢
 rw[if_neg (by rw[hw];simp)] at h
 rw[if_neg (by rw[Ko.2 ⟨h1,h2⟩];simp)]
 exact h
abbrev cnt (l:List Ev):List Ev:=(Jb l).1.2.1
abbrev rgs (l:List Ev):List Reg:=(Jb l).1.2.2
abbrev H3 (l:List Ev) (k:Nat):List Ev:=Dc ((cnt l).take k) 0
theorem Jbv {l:List Ev} {k:Nat} (h:k<(cnt l).length):H3 l (k+1)=H3 l k++[((k:Int)+1,((cnt l).getD k ev0).2)]:=by
 unfold H3
 rw[←K7 (d:=ev0) h,Jff,List.length_take,Nat.min_eq_left (by omega)]
 show _++Dc [_] (0+k)=_
 rw[Nat.zero_add];rfl
theorem Jzb {l:List Ev} {k:Nat} (h:k<(cnt l).length):Kn (H3 l k,H3 l k,(rgs l).take k) ((k:Int)+1,((cnt l).getD k ev0).2)=0∧Zd (H3 l k,H3 l k,(rgs l).take k) ((k:Int)+1,((cnt l).getD k ev0).2)=(H3 l (k+1),H3 l (k+1),(rgs l).take (k+1)):=by
 have hi:Yb (Jb l).1:=Xz
 have nG:(rgs l).length=(cnt l).length:=hi.ok.nG
 have nC:(cnt l).length≤(Jb l).1.1.length:=hi.ok.nC
 have nE:=hi.ok.nE
 obtain⟨c1,c2,c3,c4⟩:=Jmc (l:=l) k (show k<(rgs l).length by omega)
 have hlen:(H3 l k).length=k:=by rw[Lo,List.length_take];omega
 refine⟨?_, ?_⟩
 ·unfold Kn
  rw[if_neg (by rw[J46 c1 (by omega) (by omega)];simp),Jlh (h:=(H3 l k,H3 l k,(rgs l).take k)) (e:=((k:Int)+1,((cnt l).getD k ev0).2)) (by show(k:Int)+1=((H3 l k).length:Int)+1;rw[hlen]) c2,J6s]
  exact c3
 ·unfold Zd
  rw[show((((k:Int)+1,((cnt l).getD k ev0).2):Ev).2.1.toList==J0.toList)=false from c2,cond_false,Jbv h,Jze]
  have:(rgs l).take (k+1)=(rgs l).take k++[(rgs l).getD k Vq]:=(K7 (d:=Vq) (by omega)).symm
  rw[this,show(rgs l).getD k Vq=_ from c4]
theorem Jqb {l:List Ev}:∀k,k≤(cnt l).length→Vp Xf (H3 l k)=((H3 l k,H3 l k,(rgs l).take k),0,0)
 |0,_=>rfl
 |k+1,h=>by
  have ih:=Jqb (l:=l) k (by omega)
  obtain⟨h1,h2⟩:=Jzb (l:=l) (k:=k) (by omega)
  rw[Jbv (by omega),Jl9 (by rw[ih]),ih,Jcp,if_pos h1,h2]
  rw[Jbv (by omega)]
  rfl
theorem Jqc {l:List Ev} (hl:l.length≤1000) {k:Nat} (h:k≤(cnt l).length):Jb (H3 l k)=((H3 l k,H3 l k,(rgs l).take k),0,0):=by
 have hi:Yb (Jb l).1:=Xz
 have nC:(cnt l).length≤(Jb l).1.1.length:=hi.ok.nC
 have nE:=hi.ok.nE
 have hlen:(H3 l k).length=k:=by rw[Lo,List.length_take];omega
 unfold Jb
 rw[if_neg (by omega)]
 exact Jqb k h
theorem Jza {l:List Ev} (h0:(Jb l).2.2=0) (hl:l.length≤1000):Ui (H3 l (cnt l).length)=Ui l∧∀t,Yo (H3 l (cnt l).length) t=Yo l t∧Yl (H3 l (cnt l).length) t=Yl l t:=by
 have hi:Yb (Jb l).1:=Xz
 have nG:(rgs l).length=(cnt l).length:=hi.ok.nG
 have hr:=Jqc hl (Nat.le_refl (cnt l).length)
 rw[List.take_of_length_le (by omega)] at hr
 have e1:∀t,Yo (H3 l (cnt l).length) t=Yo l t:=fun t=>by unfold Yo;rw[hr,h0]
 refine⟨by unfold Ui;rw[hr,if_pos rfl,if_pos h0],fun t=>⟨e1 t, ?_⟩⟩
 unfold Yl
 rw[e1,hr]
theorem Kgz:Ok Tryz.prog 132 J5b:=okW Kt6 Tryz.f132 na fun xx=>by
 obtain⟨(b:Bool),(e:Int),_⟩:=xx
 refine(by kernel_rfl:(Keb b e)=_).mp ?_
 delta Keb Br
 cases b<;>simp
abbrev Kt5:=Kt6.add Kgz
theorem Kv9:Ok Tryz.prog 73 Js6:=okW Kt5 Tryz.f73 na fun xx=>by
 obtain⟨(n:Int),(lo:Int),(hi:Int),_⟩:=xx
 refine(by kernel_rfl:(Kc3 n lo hi)=_).mp ?_
 delta Kc3
 unfold Jp;cases decide (n<lo)<;>rfl
abbrev Kt4:=Kt5.add Kv9
theorem Kwb:Ok Tryz.prog 71 Jyb:=okW Kt4 Tryz.f71 (fun xx=>Ho (Jnj xx.1)) fun xx=>by
 obtain⟨(l:List Int),_⟩:=xx
 refine(by kernel_rfl:(Kae l)=_).mp ?_
 delta Z21 Z25 Z55 Z82 Z93 Jt9 J8s Kae Br Iw Bd Tw Si Ln Nc
 intro hb
 refine⟨(0:Nat),⟨rfl,rfl,rfl⟩,⟨Nat.zero_le _,rfl⟩,fun(k:Nat) hk=>⟨fun h=> ?_,fun h=> ?_⟩⟩
 ·have hlt:k<l.length:=by simpa using h
  have hd:=Jdo hlt
  refine⟨by omega,fun h1=> ?_,fun h1=>⟨by omega,(k+1:Nat),⟨rfl,by simp,rfl⟩,⟨by omega, ?_⟩,by omega⟩⟩
  ·have h2:¬l.getD k 0=0:=by simpa using h1
   rw[hk.2,hd,if_neg h2]
  ·have h2:l.getD k 0=0:=by simpa using h1
   rw[hk.2,hd,if_pos h2]
 ·have hlt:¬k<l.length:=by simpa using h
  have:k=l.length:=by omega
  rw[hk.2,this,List.drop_length];rfl
abbrev Kt3:=Kt4.add Kwb
abbrev sLs:Sch:= .prod sI (.prod sI sI)
abbrev aLs:AK:= .val true sLs
abbrev tIv:Bool×Sch:=(true, .prod sI sI)
def J47 (x:Int×Int×Int):Int:=Jg [Jp x.1 0 1000,Jp x.2.1 0 1000,Jp x.2.2 0 1000]
def Kiq:Con:={args:=[aLs],ress:=[I],owns:=[],pre:=fun _=>[],spec:=fun(x,_)=>(J47 x,())}
def Z74 (a:Int):=Jp a 0 1000
theorem Kwa:Ok Tryz.prog 72 Kiq:=okW Kt3 Tryz.f72 na fun xx=>by
 obtain⟨⟨(a:Int),(b:Int),(c:Int)⟩,_⟩:=xx
 refine(by kernel_rfl:(3≤1000000∧Jg [Z74 a,Z74 b,Z74 c]=J47 (a,b,c))=_).mp ?_
 delta Z74
 exact⟨by decide,rfl⟩
abbrev Kt2:=Kt3.add Kwa
def Jjt (x:Int×Int×Int) (p:Int):Int:=Jg [J47 x,Jp p 0 1000]
def Kio:Con:={args:=[aLs,aI],ress:=[I],owns:=[],pre:=fun _=>[],spec:=fun(x,p,_)=>(Jjt x p,())}
theorem Kwz:Ok Tryz.prog 37 Kio:=okW Kt2 Tryz.f37 na fun xx=>by
 obtain⟨⟨(a:Int),(b:Int),(c:Int)⟩,(p:Int),_⟩:=xx
 refine(by kernel_rfl:(2≤1000000∧Jg [J47 (a,b,c),Z74 p]=Jjt (a,b,c) p)=_).mp ?_
 delta Z74
 exact⟨by decide,rfl⟩
abbrev Kt1:=Kt2.add Kwz
def lsN (x:Int×Int×Int) (p:Int):Int:=x.1*1024*1024+x.2.1*p*1024+x.2.2*p*p
def La (x:Int×Int×Int) (p:Int):Int×Int:=if p=0 then(0,0) else((lsN x p).tdiv 1048576,(lsN x p+1048576-1).tdiv 1048576)
def J5r:Con:={args:=[aLs,aI],ress:=[tIv],owns:=[],pre:=fun(x,p,_)=>[Jjt x p=0],spec:=fun(x,p,_)=>(La x p,())}
theorem Jd0 {a b c p:Int} (h:Jjt (a,b,c) p=0):(0≤a∧a≤1000)∧(0≤b∧b≤1000)∧(0≤c∧c≤1000)∧0≤p∧p≤1000:=by
 have h1:=Kz.1 h
 have h2:=Kz.1 (h1 (J47 (a,b,c)) (by simp))
 exact⟨Ko.1 (h2 (Jp a 0 1000) (by simp)),Ko.1 (h2 (Jp b 0 1000) (by simp)),Ko.1 (h2 (Jp c 0 1000) (by simp)),Ko.1 (h1 (Jp p 0 1000) (by simp))⟩
theorem Jxy {b c p:Int} (hb:0≤b∧b≤1000) (hc:0≤c∧c≤1000) (hp:0≤p∧p≤1000):(0≤b*p∧b*p≤1000000)∧(0≤c*p∧c*p≤1000000)∧0≤c*p*p∧c*p*p≤1000000000:=by
 have m:∀{x k:Int},0≤x→x≤k→0≤k→0≤x*p∧x*p≤k*1000:=fun h1 h2 h3=>⟨Int.mul_nonneg h1 hp.1,Int.mul_le_mul h2 hp.2 hp.1 h3⟩
 have m2:=m hc.1 hc.2 (by decide)
 exact⟨m hb.1 hb.2 (by decide),m2,m m2.1 m2.2 (by decide)⟩
def J8q (a b c d:Int):=a*(1024:Int)*1024+b*c*1024+d*c*c
def Kd6 (a b c d:Int):=J8q a b c d+1048576
def Kq5 (a b c d:Int):=Int.tdiv (Kd6 a b c d-1) 1048576
theorem Kv8:Ok Tryz.prog 74 J5r:=okW Kt1 Tryz.f74 na fun xx=>by
 obtain⟨⟨(a:Int),(b:Int),(c:Int)⟩,(p:Int),_⟩:=xx
 refine(by kernel_rfl:(Jjt (a,b,c) p=0→Br (p==0) ((0,0)=La (a,b,c) p) ((Iw (a*1024)∧Iw (a*(1024:Int)*1024)∧Iw (b*p)∧Iw (b*p*1024)∧Iw (a*(1024:Int)*1024+b*p*1024)∧Iw (c*p)∧Iw (c*p*p)∧Iw (J8q a b p c))∧(((1048576:Int)=0→False)∧Iw (Int.tdiv (J8q a b p c) 1048576)∧Iw (Kd6 a b p c)∧Iw (Kd6 a b p c-1)∧((1048576:Int)=0→False)∧Iw (Kq5 a b p c))∧(Int.tdiv (J8q a b p c) 1048576,Kq5 a b p c)=La (a,b,c) p))=_).mp ?_
 delta J8q Kd6 Kq5 Br Iw
 intro h
 obtain⟨ha,hb,hc,hp⟩:=Jd0 h
 obtain⟨m1,m2,m3⟩:=Jxy hb hc hp
 refine⟨fun h0=> ?_,fun h0=> ?_⟩
 ·have h1:p=0:=by simpa using h0
  unfold La;rw[if_pos h1]
 ·have h1:¬p=0:=by simpa using h0
  have e:La (a,b,c) p=((a*1024*1024+b*p*1024+c*p*p).tdiv 1048576,(a*1024*1024+b*p*1024+c*p*p+1048576-1).tdiv 1048576):=by unfold La;rw[if_neg h1];rfl
  have t1:=Int.tdiv_eq_ediv_of_nonneg (a:=a*1024*1024+b*p*1024+c*p*p) (b:=1048576) (by omega)
  have t2:=Int.tdiv_eq_ediv_of_nonneg (a:=a*1024*1024+b*p*1024+c*p*p+1048576-1) (b:=1048576) (by omega)
  rw[e,t1,t2]
  refine⟨?_, ?_,rfl⟩<;>repeat' first|apply And.intro|omega
abbrev Kt0:=Kt1.add Kv8
def J9t (x:Int×Int×Int) (p:Int):Int×Int:=(max 0 (p-(La x p).2),max 0 (p-(La x p).1))
def Kim:Con:={args:=[aLs,aI],ress:=[tIv],owns:=[],pre:=fun(x,p,_)=>[Jjt x p=0],spec:=fun(x,p,_)=>(J9t x p,())}
theorem Jzt {a b c p:Int} (h:Jjt (a,b,c) p=0):(0≤(La (a,b,c) p).1∧(La (a,b,c) p).1≤10000)∧0≤(La (a,b,c) p).2∧(La (a,b,c) p).2≤10000:=by
 obtain⟨ha,hb,hc,hp⟩:=Jd0 h
 obtain⟨m1,m2,m3⟩:=Jxy hb hc hp
 unfold La
 split
 ·exact⟨⟨by decide,by decide⟩,by decide,by decide⟩
 ·have e:lsN (a,b,c) p=a*1024*1024+b*p*1024+c*p*p:=rfl
  dsimp only
  rw[Int.tdiv_eq_ediv_of_nonneg (by omega),Int.tdiv_eq_ediv_of_nonneg (by omega)]
  omega
theorem Kwy:Ok Tryz.prog 38 Kim:=okW Kt0 Tryz.f38 na fun xx=>by
 obtain⟨⟨(a:Int),(b:Int),(c:Int)⟩,(p:Int),_⟩:=xx
 refine(by kernel_rfl:(Jjt (a,b,c) p=0→Jjt (a,b,c) p=0∧(Iw (p-(La (a,b,c) p).2)∧Iw (p-(La (a,b,c) p).1))∧(max 0 (p-(La (a,b,c) p).2),max 0 (p-(La (a,b,c) p).1))=J9t (a,b,c) p)=_).mp ?_
 delta Iw
 intro h
 have hp:=(Jd0 h).2.2.2
 have hl:=Jzt h
 exact⟨h,⟨⟨by omega,by omega⟩,by omega,by omega⟩,rfl⟩
abbrev Ktz:=Kt0.add Kwy
def Jx4 (x:Int×Int×Int) (p:Int):(Int×Int)×Int:=if Jjt x p=0 then(J9t x p,0) else((0,0),Jjt x p)
def Kil:Con:={args:=[aLs,aI],ress:=[tIv,I],owns:=[],pre:=fun _=>[],spec:=fun(x,p,_)=>((Jx4 x p).1,(Jx4 x p).2,())}
theorem Kxe:Ok Tryz.prog 17 Kil:=okW Ktz Tryz.f17 na fun xx=>by
 obtain⟨⟨(a:Int),(b:Int),(c:Int)⟩,(p:Int),_⟩:=xx
 refine(by kernel_rfl:(Br (Jjt (a,b,c) p !=0) ((0,0)=(Jx4 (a,b,c) p).1∧Jjt (a,b,c) p=(Jx4 (a,b,c) p).2) (Jjt (a,b,c) p=0∧E2 (J9t (a,b,c) p)=(Jx4 (a,b,c) p).1∧0=(Jx4 (a,b,c) p).2))=_).mp ?_
 delta Br E2
 refine⟨fun h=> ?_,fun h=> ?_⟩
 ·have h:Jjt (a,b,c) p≠0:=bne_iff_ne.1 h
  unfold Jx4;rw[if_neg h];exact⟨rfl,rfl⟩
 ·have h:Jjt (a,b,c) p=0:=bne_eq_false_iff_eq.1 h
  unfold Jx4;rw[if_pos h];exact⟨h,rfl,rfl⟩
abbrev Ke2:=Ktz.add Kxe
abbrev L3 (l:List Ev) (k:ByteArray) (vs:List Int) (ns:List ByteArray):Ev:=((l.length:Int)+1,k,ns,vs,Jd)
def Jwf (l:List Ev) (e:Ev):List Ev:=if Jd8 l e=0 then l++[e] else l
def J9u:Zc:={T? :=some 22,s:= .list 37 sEv,args:=[aS, .val false (.list 3 sI), .val false (.list 9 .str)],ress:=[Bo],pre:=fun l (k,vs,ns,_)=>[lOk l,l.length≤900,vs.length≤1000000,ns.length≤1000000,∀s∈ns,s.size≤1000000],spec:=fun l (k,vs,ns,_)=>(Jd8 l (L3 l k vs ns)==0,()),post:=fun l (k,vs,ns,_)=>Jwf l (L3 l k vs ns)}
theorem Ktb (l:List Ev) (k:ByteArray) (vs:List Int) (ns:List ByteArray):wpFO Tryz.prog Ke2.g (na ()) (fun _=>na ()) (Sx.look ([]:List (Nat×Func))) Tryz.f18 J9u 22 l (k,vs,ns,()):=by
 refine(by kernel_rfl:(lOk l→List.length l≤900→Z55 vs→Hw ns→Jau ns→Z68 l∧((0+List.length l)*88≤140737488355328∧lOk l∧F2 (Z7 l,k,ns,vs,B0))∧Br (Jd8 l (Z7 l,k,ns,vs,B0) !=0) (Sf true (Sf 22 (l=Jwf l (L3 l k vs ns)∧false=(Jd8 l (L3 l k vs ns)==0)))) (Jav l∧Sf true (Sf 22 (l++[(Z7 l,k,ns,vs,B0)]=Jwf l (L3 l k vs ns)∧true=(Jd8 l (L3 l k vs ns)==0)))))=_).mp ?_
 delta Z7 Z55 Z68 Hw Jav Jcd Jau Br Iw Sf Ln B0
 intro h1 h2 h3 h4 h5
 have e:(((l.length:Int)+1,k,ns,vs,{data:={toList:=[]}}):Ev)=L3 l k vs ns:=rfl
 rw[e]
 refine⟨by omega,⟨by omega,h1,h4,h3,h5⟩,fun h=> ?_,fun h=> ?_⟩
 ·have h:Jd8 l (L3 l k vs ns)≠0:=bne_iff_ne.1 h
  have q:Jwf l (L3 l k vs ns)=l:=by unfold Jwf;rw[if_neg h]
  exact⟨rfl,rfl,q.symm,(beq_eq_false_iff_ne.2 h).symm⟩
 ·have h:Jd8 l (L3 l k vs ns)=0:=bne_eq_false_iff_eq.1 h
  have q:Jwf l (L3 l k vs ns)=l++[L3 l k vs ns]:=by unfold Jwf;rw[if_pos h]
  exact⟨by omega,rfl,rfl,q.symm,by rw[h];rfl⟩
theorem Kxd:Ok Tryz.prog 18 (Zc.con J9u):=Zh (Ua mixed Ke2.ok (by kernel_rfl) (by kernel_rfl) (Uq (l:=([]:List (Nat×Func))) (by simp)) (fun xx yy=>na ()) (fun xx yy=>fun _=>na ()) fun T xx yy hT=>by obtain rfl:=hT _ rfl;exact Ktb xx yy.1 yy.2.1 yy.2.2.1)
abbrev Kye:=Ke2.add Kxd
def Lr:List Ev:=[(1,⟨⟨[115,116,97,116,105,111,110]⟩⟩,[⟨⟨[97]⟩⟩],[0,1000],⟨⟨[]⟩⟩),(2,⟨⟨[115,116,97,116,105,111,110]⟩⟩,[⟨⟨[98]⟩⟩],[0,1000],⟨⟨[]⟩⟩),(3,⟨⟨[112,114,105,99,101]⟩⟩,[⟨⟨[97]⟩⟩],[0,5],⟨⟨[]⟩⟩),(4,⟨⟨[111,114,100,101,114]⟩⟩,[⟨⟨[111]⟩⟩,⟨⟨[97]⟩⟩,⟨⟨[98]⟩⟩],[0,1,2,64],⟨⟨[]⟩⟩),(5,⟨⟨[109,101,116,101,114]⟩⟩,[⟨⟨[111]⟩⟩],[2,1,64,60],⟨⟨[]⟩⟩),(6,⟨⟨[115,101,116,116,108,101]⟩⟩,[],[2,2],⟨⟨[]⟩⟩)]
theorem J41:∀n,n<6→Jd8 (Lr.take n) (Lr.getD n ev0)=0:=fun n h=>by
 have:((List.range 6).all fun n=>Jd8 (Lr.take n) (Lr.getD n ev0)==0)=true:=by kernel_rfl
 exact eq_of_beq (List.all_eq_true.1 this n (List.mem_range.2 h))
theorem Jx1:∀e∈Lr,F2 e:=fun e he=>by
 have:(Lr.all fun e=>decide (e.2.2.1.length≤1000000)&&decide (e.2.2.2.1.length≤1000000)&&e.2.2.1.all fun s=>decide (s.size≤1000000))=true:=by kernel_rfl
 have h:=List.all_eq_true.1 this e he
 simp only[Bool.and_eq_true] at h
 exact⟨of_decide_eq_true h.1.1,of_decide_eq_true h.1.2,fun s hs=>of_decide_eq_true (List.all_eq_true.1 h.2 s hs)⟩
theorem Jha:Lr.length=6:=by kernel_rfl
theorem Jsq (n:Nat):lOk (Lr.take n):=⟨by have:=Jha;rw[List.length_take];omega,fun e he=>Jx1 e (List.mem_of_mem_take he)⟩
theorem Jvx {f:FuncId} {c:Zc} {p:c.s.T→ATup c.args→List Prop} {sp:c.s.T→ATup c.args→Tup c.ress} {q:c.s.T→ATup c.args→c.s.T} (h1:OkO Tryz.prog f c) (h:∀x y,K6 (p x y)→K6 (c.pre x y)∧sp x y=c.spec x y∧q x y=c.post x y):OkO Tryz.prog f {c with pre:=p,spec:=sp,post:=q}:=
 ⟨h1.1,fun x y M R B w b T cells vals vs hB hMR hg hw hBb hMb hRb hT ho hv hpre ha=>by
  obtain⟨hp,e1,e2⟩:=h x y hpre
  have H:=h1.2 x y M R B w b T cells vals vs hB hMR hg hw hBb hMb hRb hT ho hv hp ha
  dsimp only
  rw[e1,e2]
  exact H⟩
def Kx2:Zc:={T? :=some 22,s:= .list 37 sEv,args:=[aS, .val false (.list 3 sI), .val false (.list 9 .str)],ress:=[Bo],pre:=fun l (k,vs,ns,_)=>[l=Lr.take l.length,l.length<6,L3 l k vs ns=Lr.getD l.length ev0],spec:=fun _ _=>(true,()),post:=fun l _=>Lr.take (l.length+1)}
theorem Kfu:OkO Tryz.prog 18 J9u:=Ua mixed Ke2.ok (by kernel_rfl) (by kernel_rfl) (Uq (l:=([]:List (Nat×Func))) (by simp)) (fun xx yy=>na ()) (fun xx yy=>fun _=>na ()) fun T xx yy hT=>by obtain rfl:=hT _ rfl;exact Ktb xx yy.1 yy.2.1 yy.2.2.1
theorem Kf1:Ok Tryz.prog 18 (Zc.con Kx2):=Zh (Jvx (c:=J9u) Kfu fun x y hp=>by
 obtain⟨l1,l2,l3⟩:=hp
 obtain⟨k,vs,ns,_⟩:=y
 have l3:L3 x k vs ns=Lr.getD x.length ev0:=l3
 have hn:x.length<6:=l2
 have l1:x=Lr.take x.length:=l1
 generalize x.length=n at l1 l2 l3 hn
 subst l1
 have ha:Jd8 (Lr.take n) (L3 (Lr.take n) k vs ns)=0:=by rw[l3];exact J41 n hn
 have hz:F2 (L3 (Lr.take n) k vs ns):=by rw[l3];exact Jx1 _ (Je (d:=ev0) (by rw[Jha];exact hn))
 have hl:(Lr.take n).length=n:=by rw[List.length_take,Jha];omega
 refine⟨⟨Jsq n,by show(Lr.take n).length≤900;omega,hz.2.1,hz.1,hz.2.2⟩, ?_, ?_⟩
 ·show(true,())=(Jd8 _ _==0,())
  rw[ha];rfl
 ·show Lr.take (n+1)=Jwf (Lr.take n) (L3 (Lr.take n) k vs ns)
  unfold Jwf
  rw[if_pos ha,l3]
  exact(K7 (d:=ev0) (by rw[Jha];exact hn)).symm)
abbrev Ks5:=Kye.add Kf1
def Jth:Con:={args:=[],ress:=[Bo],owns:=[],pre:=fun _=>[],spec:=fun _=>(true,())}
def Z9:=List.take 4 Lr
def Z10:=List.take 2 Lr
def Z11:=List.take 1 Lr
def Z14:=List.take 3 Lr
def Z16:=List.take 5 Lr
def Z65:=List.getD Lr 3 ev0
def Z66:=List.getD Lr 1 ev0
def Z69:=List.getD Lr 2 ev0
def Z75:=[(2:Int),(2:Int)]
def Z83:=Sf true (false=true)
def J83:=[(2:Int),(1:Int),(64:Int),(60:Int)]
def Kez:=[(0:Int),(1:Int),(2:Int),(64:Int)]
def Ks4:=Z9=Z9
def J80:=Z10=Z10
def Key:=Z14=Z14
def J38:=Z11=Z11
def Ks3:=[ByteArray.mk (Array.mk [98])]
def Kex:=[ByteArray.mk (Array.mk [97])]
def J8y:=[J4h]
def Ksx:=T2 (lOk Z9) Z83
def Ksw:=T2 (lOk Z14) Z83
def Ksv:=T2 (lOk Z10) Z83
def Ksu:=T2 (lOk Z16) Z83
def Krg:=Br true Z83 Ksx
def Krf:=Br true Z83 Ksw
def Krd:=Br true Z83 Ksv
def Kb9:=J4h::ByteArray.mk (Array.mk [97])::Ks3
def Knn:=(Ks4∧4<6∧L3 Z9 Jh Z75 []=List.getD Lr 4 ev0)∧Br false Z83 Ksu
def Knm:=(J80∧2<6∧L3 Z10 Jh Z75 []=Z69)∧Br false Z83 Ksw
def Knl:=(Key∧3<6∧L3 Z14 Jh Z75 []=Z65)∧Br false Z83 Ksx
def Kms:=Br true Krf Knl
def Kmr:=Br true Krd Knm
def Klt:=(J80∧2<6∧L3 Z10 Ks J83 J8y=Z69)∧Br false Krf Knl
def Kls:=(Key∧3<6∧L3 Z14 Ks J83 J8y=Z65)∧Br false Krg Knn
def Kkf:=Br true Kms Kls
def Kke:=Br true (Br true (Br true Z83 (T2 (lOk Z11) Z83)) ((J38∧1<6∧L3 Z11 Jh Z75 []=Z66)∧Br false Z83 Ksv)) ((J38∧1<6∧L3 Z11 Ks J83 J8y=Z66)∧Br false Krd Knm)
def Kkd:=Br true Kmr Klt
def Kjz:=(Key∧3<6∧L3 Z14 Ke Kez Kb9=Z65)∧Br false (Br true Krg Knn) ((Ks4∧4<6∧L3 Z9 Ks J83 J8y=List.getD Lr 4 ev0)∧Br false (Br true Z83 Ksu) ((Z16=Z16∧5<6∧L3 Z16 Jh Z75 []=List.getD Lr 5 ev0)∧Br false Z83 (T2 (lOk (List.take 6 Lr)) (Tw (true=true)))))
def Kjy:=(J38∧1<6∧L3 Z11 Ke Kez Kb9=Z66)∧Br false Kmr Klt
def Kjx:=(J80∧2<6∧L3 Z10 Ke Kez Kb9=Z69)∧Br false Kms Kls
def Kjp:=Br true Kkf Kjz
def Kjo:=Br false Kkf Kjz
def Kjn:=Br true Kkd Kjx
def Kjm:=Br true Kke Kjy
def Kjl:=Br false Kke Kjy
def Kjk:=Br false Kkd Kjx
def Kji:=Br true Kjn Kjk
def Kjh:=Br false Kjn Kjk
theorem wp5:wpFG Tryz.prog Ks5.g (na ()) (fun _=>na ()) (Sx.look ([(16,Tryz.f16)]:List (Nat×Func))) Tryz.f5 Jth ():=by
 refine(by kernel_rfl:((([]:List Ev)=[]∧(0:Nat)<(6:Nat)∧L3 [] Ju [(0:Int),(1000:Int)] Kex=List.getD Lr (0:Nat) ev0)∧Br true ((J38∧(1:Nat)<(6:Nat)∧L3 Z11 Ju [(0:Int),(1000:Int)] Ks3=Z66)∧Br true ((J80∧(2:Nat)<(6:Nat)∧L3 Z10 Kx [(0:Int),(5:Int)] Kex=Z69)∧Br false (Br true Kjp Kjo) (Br false Kjp Kjo)) (Br true Kji Kjh)) (Br false ((J38∧(1:Nat)<(6:Nat)∧L3 Z11 Kx [(0:Int),(5:Int)] Kex=Z66)∧Br false Kji Kjh) (Br true (Br true Kjm Kjl) (Br false Kjm Kjl))))=_).mp ?_
 delta Z9 Z10 Z11 Z14 Z16 Z65 Z66 Z69 Z75 Z83 J4h J83 Kez Ks4 J80 Key J38 Ks3 Kex J8y Ksx Ksw Ksv Ksu Krg Krf Krd Kb9 Knn Knm Knl Kms Kmr Klt Kls Kkf Kke Kkd Kjz Kjy Kjx Kjp Kjo Kjn Kjm Kjl Kjk Kji Kjh Br T2 Tw Sf Ks Ke Kx Jh Ju
 simp only[reduceCtorEq,false_implies,true_implies,and_self,true_and,and_true,implies_true,Jsq]
 refine⟨⟨by decide, ?_⟩,⟨by decide, ?_⟩,⟨by decide, ?_⟩,⟨by decide, ?_⟩,⟨by decide, ?_⟩,by decide, ?_⟩<;>kernel_rfl
theorem ok5:Ok Tryz.prog 5 Jth:=Jc2 mixed Ks5.ok (by kernel_rfl) (by kernel_rfl) (Uq (l:=([(16,Tryz.f16)]:List (Nat×Func))) (List.forall_mem_cons.2 ⟨by kernel_rfl,by simp⟩)) (fun xx=>na ()) (fun xx=>fun _=>na ()) fun xx=>wp5
abbrev Kyd:=Ks5.add ok5
end Go.Proofs.YthlgkojihnccaaaGreatDoor

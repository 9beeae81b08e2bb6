/- Contracts of the functions that the law reaches: part of the proof. -/
import Derived.Test.YtkhdpgadionfnaaGreatFA
import Derived.Laws.RangeAny
import Derived.Lib.Strings
set_option linter.unusedSimpArgs false
set_option linter.unusedVariables false
set_option maxRecDepth 20000
namespace Go.Proofs.YtkhdpgadionfnaaGreat
open Go.Sx
set_option maxHeartbeats 20000000
theorem J9a:Ok Tryz.prog 40 Juq:=okW W58 Tryz.f40 na fun xx=>by
 obtain⟨(b:Bool),(e:Int),_⟩:=xx
 refine(by kernel_rfl:(Jvz b e)=_).mp ?_
 delta Jvz Br
 cases b<;>simp
abbrev W59:=W58.add J9a
theorem J9b:Ok Tryz.prog 39 Jsq:=okW W59 Tryz.f39 (fun xx=>Yl (Jj8 xx.1)) fun xx=>by
 obtain⟨(l:List Int),_⟩:=xx
 refine(by kernel_rfl:(Jy4 l)=_).mp ?_
 delta Z2 Z4 Z12 Z24 Z27 Z29 Z77 Jrl Jo6 Ju9 Ju8 Jy4 Br Iw Bd Tw Si Ln Nc
 intro hb
 refine⟨(0:Nat),⟨rfl,rfl,rfl⟩,⟨Nat.zero_le _,rfl⟩,fun(k:Nat) hk=>⟨fun h=> ?_,fun h=> ?_⟩⟩
 ·have hlt:k<l.length:=by simpa using h
  have hd:=Xg hlt
  refine⟨by omega,fun h1=> ?_,fun h1=>⟨by omega,(k+1:Nat),⟨rfl,by simp,rfl⟩,⟨by omega, ?_⟩,by omega⟩⟩
  ·have h2:¬l.getD k 0=0:=by simpa using h1
   rw[hk.2,hd,if_neg h2]
  ·have h2:l.getD k 0=0:=by simpa using h1
   rw[hk.2,hd,if_pos h2]
 ·have hlt:¬k<l.length:=by simpa using h
  have:k=l.length:=by omega
  rw[hk.2,this,List.drop_length];rfl
abbrev W60:=W59.add J9b
def okB (f:Bool) (c:Int):Bool:=bif (bif decide ((65:Int)≤c) then decide (c≤90) else false) then true else bif (bif decide ((97:Int)≤c) then decide (c≤122) else false) then true else bif f then false else bif decide (c<48) then c==95 else bif decide (57<c) then c==95 else true
def Jqc (f:Bool):List UInt8→Bool
 |[]=>true
 |b::r=>okB f (b.toNat:Int)&&Jqc false r
def Lc (s:ByteArray):Bool:=Jqc true s.data.toList&&(decide (0<s.size)&&decide ((s.size:Int)≤24))
theorem Jmu (f:Bool) (c:Int):(bif !bif (bif decide ((65:Int)≤c) then decide (c≤90) else false) then true else bif decide ((97:Int)≤c) then decide (c≤122) else false then bif f then true else bif (bif decide (c<48) then true else decide (57<c)) then c !=95 else false else false)= !okB f c:=by
 unfold okB bne
 cases decide ((65:Int)≤c)<;>cases decide (c≤90)<;>cases decide ((97:Int)≤c)<;>cases decide (c≤122)<;>cases f<;>cases decide (c<48)<;>cases decide (57<c)<;>cases c==95<;>rfl
theorem Jiu {f:Bool} {c:Int} (h:128≤c):okB f c=false:=by
 unfold okB
 have h1:decide (c≤90)=false:=decide_eq_false (by omega)
 have h2:decide (c≤122)=false:=decide_eq_false (by omega)
 have h3:decide (c<48)=false:=decide_eq_false (by omega)
 have h4:decide ((57:Int)<c)=true:=decide_eq_true (by omega)
 have h5:(c==95)=false:=beq_eq_false_iff_ne.2 (by omega)
 rw[h1,h2,h3,h4,h5]
 cases decide ((65:Int)≤c)<;>cases decide ((97:Int)≤c)<;>cases f<;>rfl
theorem Jij {s:ByteArray} {k:Nat} (h:k<s.size) (ha:(s[k]'h).toNat<128):Um s k=((s[k]'h).toNat:Int)∧Jc9 s k=1:=by
 unfold Um Jc9
 rw[decode_ascii s k h ha]
 exact⟨rfl,rfl⟩
theorem Jmd {s:ByteArray} {k:Nat} (h:k<s.size) (ha:128≤(s[k]'h).toNat):128≤Um s k:=by
 have:=(decode_high s k h ha).1
 unfold Um
 omega
theorem Jcm {s:ByteArray} {k:Nat} (h:k<s.size):s.data.toList.drop k=(s[k]'h)::s.data.toList.drop (k+1):=by
 rw[List.drop_eq_getElem_cons (by simpa using h)]
 congr 1
theorem Jqi (s:ByteArray):(!(s.toList==(⟨⟨[]⟩⟩:ByteArray).toList))=decide (0<s.size):=by
 rw[Lib.toList_data,Lib.toList_data]
 have e:s.data.toList.length=s.size:=by simp
 cases h:s.data.toList with
 |nil=>rw[h] at e;simp at e;rw[←e];rfl
 |cons a l=>rw[h] at e;simp at e;rw[←e];simp
theorem Dx (k:Nat):(((k:Nat):Int)==0)=(k==0):=by
 rw[Bool.eq_iff_iff,beq_iff_eq,beq_iff_eq];omega
def J1z:Con:={args:=[aS],ress:=[Bo],owns:=[],pre:=fun(s,_)=>[s.size≤1000000],spec:=fun(s,_)=>(Lc s,())}
abbrev Ju2 (s:ByteArray):Ann:={X:=Nat,σ:=fun k=>⟨1,[(0, .one (.str s)),(7, .one (.sl 0))],[(0, .siter s k)]⟩,inv:=fun k=>k≤s.size∧Jqc true s.data.toList=Jqc (k==0) (s.data.toList.drop k),mu:=fun k=>s.size-k}
def J5w (a:Bt):=Sf true ((bif !Lb a B0 then decide (Nc (ByteArray.size a)≤24) else false)=Lc a)
def Jz7 (a:Nat) (b:Bt):=a≤ByteArray.size b∧Jqc true b.data.toList=Jqc (a==0) (List.drop a b.data.toList)
theorem J8r:Ok Tryz.prog 65 J1z:=Jwi W60 Tryz.f65 (Jaj (l:=([]:List (Nat×Func))) (by simp)) (fun xx=>Yl (Ju2 xx.1)) (fun xx=>fun _=>na ()) fun xx=>by
 obtain⟨(s:ByteArray),_⟩:=xx
 refine(by kernel_rfl:(ByteArray.size s≤1000000→∃(x:Nat),Sf s (Sf s (0=x))∧Jz7 x s∧∀(x:Nat),Jz7 x s→(x<ByteArray.size s→Br true (Br (bif !bif bif decide (65≤Um s x) then decide (Um s x≤90) else false then true else bif decide (97≤Um s x) then decide (Um s x≤122) else false then bif Nc x==0 then true else bif bif decide (Um s x<48) then true else decide (57<Um s x) then Um s x !=95 else false else false) (Sf true (false=Lc s)) (∃(y:Nat),Sf s (Sf s (x+Jc9 s x=y))∧Jz7 y s∧ByteArray.size s-y<ByteArray.size s-x)) (J5w s))∧((x<ByteArray.size s→False)→Br false False (J5w s)))=_).mp ?_
 delta J5w Jz7 Br Sf Nc B0 Lb
 intro hb
 refine⟨(0:Nat),⟨rfl,rfl,rfl⟩,⟨Nat.zero_le _,by simp⟩,fun(k:Nat) hk=>⟨fun h=>⟨fun _=>⟨fun h1=>⟨rfl, ?_⟩,fun h1=> ?_⟩,fun h=>(by cases h)⟩,fun h=> ?_⟩⟩
 ·rw[Jmu,Dx] at h1
  have h2:okB (k==0) (Um s k)=false:=by simpa using h1
  unfold Lc
  have h3:Jqc true s.data.toList=false:=by
   rw[hk.2,Jcm h,Jqc]
   by_cases ha:(s[k]'h).toNat<128
   ·rw[←(Jij h ha).1,h2];rfl
   ·rw[Jiu (by omega)];rfl
  rw[h3];rfl
 ·rw[Jmu,Dx] at h1
  have h2:okB (k==0) (Um s k)=true:=by simpa using h1
  by_cases ha:(s[k]'h).toNat<128
  ·obtain⟨r1,r2⟩:=Jij h ha
   refine⟨(k+1:Nat),⟨rfl,rfl,by rw[r2]⟩,⟨by omega, ?_⟩,by omega⟩
   rw[hk.2,Jcm h,Jqc,←r1,h2]
   rfl
  ·have:=Jmd h (by omega)
   rw[Jiu this] at h2
   cases h2
 ·have e:k=s.size:=Nat.le_antisymm hk.1 (Nat.le_of_not_lt h)
  refine⟨fun h=>(by cases h),fun _=>⟨rfl, ?_⟩⟩
  rw[e,List.drop_eq_nil_of_le (by simp)] at hk
  unfold Lc
  rw[hk.2,Jqi]
  cases decide (0<s.size)<;>cases decide ((s.size:Int)≤24)<;>rfl
abbrev W61:=W60.add J8r
abbrev aFl:AK:= .val false sFl
def okF (x:Nat):Prop:=∃n:Int,(-16384≤n∧n≤16384)∧x=Yc n
def J64:Con:={args:=[aFl],ress:=[I],owns:=[],pre:=fun(x,_)=>[okF x],spec:=fun _=>(0,())}
def Jxi:Con:={args:=[aFl,aI],ress:=[I],owns:=[],pre:=fun(x,k,_)=>[okF x,k=1024],spec:=fun _=>(0,())}
def Z84 (a:Nat):=Option.isSome (Ieee.Format.mul (FloatKind.format FloatKind.f32) 1098907648 a)=true
def J02 (a:Nat):=Ll FloatKind.f32 (Option.getD (Ieee.Format.mul (FloatKind.format FloatKind.f32) 1098907648 a) 0)
def Jvy (a:Nat):=Option.getD (J02 a) 0
def J0q (a:Nat):=Option.isSome (J02 a)=true
def Jzp (a:Nat):=IntKind.min IntKind.i64≤Jvy a∧Jvy a≤IntKind.max IntKind.i64
theorem J8g:Ok Tryz.prog 80 Jxi:=okW W61 Tryz.f80 na fun xx=>by
 obtain⟨(x:Nat),(k:Int),_⟩:=xx
 refine(by kernel_rfl:(okF x→k=(1024:Int)→Option.isSome (Ieee.Format.sub (FloatKind.format FloatKind.f32) x x)=true∧Br (Ieee.Format.order (FloatKind.format FloatKind.f32) (Option.getD (Ieee.Format.sub (FloatKind.format FloatKind.f32) x x) (0:Nat)) (0:Nat) !=some Ordering.eq) ((1:Int)=(0:Int)) (Br (bif Ieee.Format.order (FloatKind.format FloatKind.f32) x (Op.negFloat FloatKind.f32 (FloatKind.nearest FloatKind.f32 k))==some Ordering.lt then true else Ieee.Format.order (FloatKind.format FloatKind.f32) x (FloatKind.nearest FloatKind.f32 k)==some Ordering.gt) ((3:Int)=(0:Int)) ((Z84 x∧J0q x∧Jzp x∧Z84 x)∧(bif Ieee.Format.order (FloatKind.format FloatKind.f32) (FloatKind.nearest FloatKind.f32 (Jvy x)) (Option.getD (Ieee.Format.mul (FloatKind.format FloatKind.f32) (1098907648:Nat) x) (0:Nat)) !=some Ordering.eq then(3:Int) else(0:Int))=(0:Int))))=_).mp ?_
 delta Z84 J02 Jvy J0q Jzp Br
 rintro⟨n,hn,rfl⟩ rfl
 have f:=fa hn
 have a1:(FloatKind.f32.format.order (Yc n) (Op.negFloat FloatKind.f32 (FloatKind.f32.nearest 1024))==some Ordering.lt)=false:=beq_eq_false_iff_ne.2 f.low
 have a2:(FloatKind.f32.format.order (Yc n) (FloatKind.f32.nearest 1024)==some Ordering.gt)=false:=beq_eq_false_iff_ne.2 f.high
 have e0:FloatKind.f32.format.order 0 0=some Ordering.eq:=by kernel_rfl
 have b:IntKind.i64.min≤n∧n≤IntKind.i64.max:=by
  show(-9223372036854775808:Int)≤n∧n≤9223372036854775807
  omega
 rw[f.sub,f.mul]
 simp only[Option.getD_some,f.int,f.self,e0,a1,a2]
 exact⟨rfl,fun q=>(by cases q),fun _=>⟨fun q=>(by cases q),fun _=>⟨⟨rfl,rfl,b,rfl⟩,rfl⟩⟩⟩
abbrev W62:=W61.add J8g
def J0x (a:Nat):=okF a→(okF a∧(1024:Int)=1024)∧(0:Int)=0
theorem J8p:Ok Tryz.prog 67 J64:=okW W62 Tryz.f67 na fun xx=>by
 obtain⟨(x:Nat),_⟩:=xx
 refine(by kernel_rfl:(J0x x)=_).mp ?_
 delta J0x
 exact fun h=>⟨⟨h,rfl⟩,rfl⟩
abbrev W63:=W62.add J8p
abbrev aFd:AK:= .val false (.flt .f64)
def Jus:Con:={args:=[aFd],ress:=[(false, .flt .f64)],owns:=[],pre:=fun(x,_)=>[∀s t,FloatKind.f64.decode x≠ .nan s t],spec:=fun(x,_)=>(FloatKind.f64.encode ((FloatKind.f64.decode x).integral .down),())}
def J6l (a:Nat):=∀(s:Bool) (t:Nat),FloatKind.decode FloatKind.f64 a=Ieee.Datum.nan s t→False
theorem J1j:Ok Tryz.prog 102 Jus:=Jwi W63 Tryz.f102 (Jaj (l:=([]:List (Nat×Func))) (by simp)) (fun xx=>na ()) (fun xx=>fun _=>na ()) fun xx=>by
 obtain⟨(x:Nat),_⟩:=xx
 refine(by kernel_rfl:(J6l x→J6l x∧Sf true (FloatKind.encode FloatKind.f64 (Ieee.Datum.integral Ieee.Toward.down (FloatKind.decode FloatKind.f64 x))=FloatKind.encode FloatKind.f64 (Ieee.Datum.integral Ieee.Toward.down (FloatKind.decode FloatKind.f64 x))))=_).mp ?_
 delta J6l Sf
 exact fun h=>⟨h,rfl,rfl⟩
abbrev W64:=W63.add J1j
def Z38:=Sf true ((1:Int)=0)
def J6n (a:Nat):=Option.getD (Ieee.Format.mul (FloatKind.format FloatKind.f64) 4625196817309499392 (Uu FloatKind.f32 a)) 0
def J6h (a:Nat) (b:Int):=Ieee.Format.order (FloatKind.format FloatKind.f64) (Uu FloatKind.f32 a) (FloatKind.nearest FloatKind.f64 b)==some Ordering.gt
def J6g (a:Nat):=FloatKind.decode FloatKind.f64 (J6n a)
def J3u (a:Nat) (b:Int):=bif J6h a b then true else Ieee.Format.order (FloatKind.format FloatKind.f64) (Uu FloatKind.f32 a) (FloatKind.nearest FloatKind.f64 (0-b))==some Ordering.lt
def J3o (a:Nat) (b:Int):=J3u a b=false
def Jx7 (a:Nat) (b:Int):=((J6h a b=false→Iw ((0:Int)-b))∧T2 (J3o a b→Option.isSome (Ieee.Format.mul (FloatKind.format FloatKind.f64) (4625196817309499392:Nat) (Uu FloatKind.f32 a))=true) (J3o a b→∀(s:Bool) (t:Nat),J6g a=Ieee.Datum.nan s t→False))∧Sf true ((bif bif J3u a b then true else Ieee.Format.order (FloatKind.format FloatKind.f64) (J6n a) (FloatKind.encode FloatKind.f64 (Ieee.Datum.integral Ieee.Toward.down (J6g a))) !=some Ordering.eq then(3:Int) else(0:Int))=(0:Int))
theorem J8d:Ok Tryz.prog 83 Jxi:=Jwi W64 Tryz.f83 (Jaj (l:=([(100,Tryz.f100),(101,Tryz.f101),(110,Tryz.f110)]:List (Nat×Func))) (List.forall_mem_cons.2 ⟨by kernel_rfl,List.forall_mem_cons.2 ⟨by kernel_rfl,List.forall_mem_cons.2 ⟨by kernel_rfl,by simp⟩⟩⟩)) (fun xx=>na ()) (fun xx=>fun _=>na ()) fun xx=>by
 obtain⟨(x:Nat),(k:Int),_⟩:=xx
 refine(by kernel_rfl:(okF x→k=1024→(Jal FloatKind.f32 x=true∧Jal FloatKind.f64 (Uu FloatKind.f32 x)=true)∧Br (Ieee.Format.order (FloatKind.format FloatKind.f64) (Uu FloatKind.f32 x) (Uu FloatKind.f32 x) !=some Ordering.eq) (Br true Z38 (Jx7 x k)) (Br true (Br (Ieee.Format.order (FloatKind.format FloatKind.f64) (Int.toNat (bits BinOp.andNot IntKind.u64 (Nc (Uu FloatKind.f32 x)) 9223372036854775808)) 9218868437227405311==some Ordering.gt) Z38 (Jx7 x k)) (Br false (Br (Ieee.Format.order (FloatKind.format FloatKind.f64) (Op.negFloat FloatKind.f64 (Uu FloatKind.f32 x)) 9218868437227405311==some Ordering.gt) Z38 (Jx7 x k)) (Br (Ieee.Format.order (FloatKind.format FloatKind.f64) (Uu FloatKind.f32 x) 9218868437227405311==some Ordering.gt) Z38 (Jx7 x k)))))=_).mp ?_
 delta Z38 J6n J6h J6g J3u J3o Jx7 Br Iw T2 Sf Nc
 rintro⟨n,hn,rfl⟩ rfl
 have f:=fb hn
 have a1:(FloatKind.f64.format.order (Uu FloatKind.f32 (Yc n)) (FloatKind.f64.nearest (0-1024))==some Ordering.lt)=false:=beq_eq_false_iff_ne.2 f.low
 have a2:(FloatKind.f64.format.order (Uu FloatKind.f32 (Yc n)) (FloatKind.f64.nearest 1024)==some Ordering.gt)=false:=beq_eq_false_iff_ne.2 f.high
 have a3:(FloatKind.f64.format.order (bits BinOp.andNot IntKind.u64 ((Uu FloatKind.f32 (Yc n):Nat):Int) 9223372036854775808).toNat 9218868437227405311==some Ordering.gt)=false:=beq_eq_false_iff_ne.2 f.abs
 refine⟨⟨f.n32,f.n64⟩, ?_⟩
 rw[f.self,f.mul,a1,a2,a3]
 simp only[Option.getD_some,f.floor,f.eq]
 refine⟨fun q=>(by cases q),fun _=>⟨fun _=>⟨fun q=>(by cases q),fun _=>⟨⟨fun _=>(by omega),fun _=>rfl,fun _=>rfl,fun _ s t q=>f.nan s t q⟩,trivial,rfl⟩⟩,fun q=>(by cases q)⟩⟩
abbrev W65:=W64.add J8d
theorem J8m:Ok Tryz.prog 71 J64:=okW W65 Tryz.f71 na fun xx=>by
 obtain⟨(x:Nat),_⟩:=xx
 refine(by kernel_rfl:(J0x x)=_).mp ?_
 delta J0x
 exact fun h=>⟨⟨h,rfl⟩,rfl⟩
abbrev W66:=W65.add J8m
abbrev sU:Sch:= .int .u8
abbrev aBy:AK:= .val false (.list 5 sU)
abbrev RBy:Bool×Sch:=(false, .list 5 sU)
abbrev J6t:Sch:= .prod .str (.list 45 sFl)
abbrev J68:AK:= .val true J6t
abbrev aFs:AK:= .val false (.list 45 sFl)
def tkN (k:Nat) (l:List Nat):List Nat:=l.take k
theorem Jcy {l:List Nat} {k:Nat} (h:k<l.length):tkN (k+1) l=tkN k l++[l.getD k 0]:=(Kn (d:=0) h).symm
theorem Jg6 {l:List Nat} {k:Nat}:(tkN k l).length≤l.length:=by unfold tkN;rw[List.length_take];omega
theorem Jcz {l:List Nat} {k:Nat} (h:l.length≤k):tkN k l=l:=List.take_of_length_le h
abbrev Ju3 (l:List Nat) (q:Nat×Unit→List Prop) (f:Nat×Unit→Int):Ann:={X:=Nat,σ:=fun k=>⟨3,[(1, .one (.fv 1)),(5, .one (.sl 2)),(8, .one (.sl 0)),(9, .one (.int .i64 l.length)),(10, .one (.int .i64 k))],[(0, .imm 45 sFl l),(1, .afn [(false,sFl)] I q f),(2, .own 36 sI ((tkN k l).map fun x=>f (x,())))]⟩,inv:=fun k=>k≤l.length,mu:=fun k=>l.length-k}
def J10:Con:={args:=[.val false (.list 45 sFl), .fn [(false,sFl)] I],ress:=[(false, .list 36 sI)],owns:=[true],pre:=fun(l,(q,_),_)=>[l.length≤1000000,∀x∈l,K1 (q (x,()))],spec:=fun(l,(_,f),_)=>(l.map fun x=>f (x,()),())}
def Z68 (a:Nat×Unit→Int) (b:Nat) (c:List Nat):=List.map (fun(x:Nat)=>a (x,PUnit.unit)) (tkN b c)
theorem J8q:Ok Tryz.prog 66 J10:=okW W66 Tryz.f66 (fun xx=>Yl (Ju3 xx.1 xx.2.1.1 xx.2.1.2)) fun xx=>by
 obtain⟨(l:List Nat),⟨(q:Nat×Unit→List Prop),(f:Nat×Unit→Int)⟩,_⟩:=xx
 refine(by kernel_rfl:(Z10 l→(∀(x:Nat),Z70 l x→K1 (q (x,PUnit.unit)))→∃(x:Nat),Si (Ln l) (0=Nc x∧Sf l ((fun(x:Nat×PUnit)=>q x)=q∧(fun(x:Nat×PUnit)=>f x)=f∧List.length (Z68 f x l)=0))∧x≤List.length l∧∀(x:Nat),x≤List.length l→Br (decide (Nc x<Ln l)) (Tw (Bd (Nc x) (Ln l))∧(K1 (q (Z3 l x,PUnit.unit))∧(List.length (Z68 f x l)+1)*8≤140737488355328)∧Z2 x∧∃(y:Nat),Si (Ln l) (Z29 x y∧Sf l ((fun(x:Nat×PUnit)=>q x)=q∧(fun(x:Nat×PUnit)=>f x)=f∧Z68 f x l++[f (Z3 l x,PUnit.unit)]=Z68 f y l))∧y≤List.length l∧Z71 l y x) (Z68 f x l=List.map (fun(x:Nat)=>f (x,PUnit.unit)) l))=_).mp ?_
 delta Z2 Z3 Z10 Z29 Z68 Z70 Z71 Br Iw Bd Tw Sf Si Ln Nc
 intro hb hq
 refine⟨(0:Nat),⟨rfl,rfl,rfl,rfl,rfl,rfl⟩,Nat.zero_le _,fun(k:Nat) hk=>⟨fun h=> ?_,fun h=> ?_⟩⟩
 ·have hlt:k<l.length:=by simpa using h
  have ht:=Jg6 (l:=l) (k:=k)
  refine⟨by omega,⟨hq _ (Jp hlt),by rw[List.length_map];omega⟩,by omega,(k+1:Nat),⟨rfl,by simp,rfl,rfl,rfl, ?_⟩,by omega,by omega⟩
  rw[Jcy hlt,List.map_append];rfl
 ·have hlt:¬k<l.length:=by simpa using h
  rw[Jcz (by omega)]
abbrev W67:=W66.add J8q
def Fy (r:ByteArray×List Nat):Int:=Ja [bif !Lc r.1 then 8 else 0,bif decide (1024<(r.2.length:Int)) then 5 else 0]
theorem Ja4:∀l:List Nat,Ja (l.map fun _=>0)=0
 |[]=>rfl
 |_::l=>by rw[List.map_cons];exact Ja4 l
def J1v:Con:={args:=[J68],ress:=[I],owns:=[],pre:=fun(r,_)=>[r.1.size≤1000000,r.2.length≤1000000,∀x∈r.2,okF x],spec:=fun(r,_)=>(Fy r,())}
def Jg3 (a:List Nat):=∀(x:Nat),Z70 a x→okF x
def J40 (a:Bt) (b:List Nat):=Ja [bif !Lc a then 8 else 0,bif decide (1024<Ln b) then 5 else 0]
theorem J9d:Ok Tryz.prog 34 J1v:=okW W67 Tryz.f34 na fun xx=>by
 obtain⟨⟨(nm:ByteArray),(l:List Nat)⟩,_⟩:=xx
 refine(by kernel_rfl:(ByteArray.size nm≤(1000000:Nat)→Z10 l→Jg3 l→(ByteArray.size nm≤(1000000:Nat)∧(2:Nat)≤(1000000:Nat))∧Br (J40 nm l !=(0:Int)) (J40 nm l=Fy (nm,l)) ((Z10 l∧Jg3 l∧List.length (List.map (fun(x:Nat)=>(0:Int)) l)≤(1000000:Nat))∧Ja (List.map (fun(x:Nat)=>(0:Int)) l)=Fy (nm,l)))=_).mp ?_
 delta Z10 Z70 Jg3 J40 Br Ln
 intro h1 h2 h3
 refine⟨⟨h1,by omega⟩,fun _=>rfl,fun q=>⟨⟨h2,h3,by rw[List.length_map];exact h2⟩, ?_⟩⟩
 rw[Ja4]
 exact(bne_eq_false_iff_eq.1 q).symm
abbrev W68:=W67.add J9d
abbrev Jx3 (l:List Nat):Ann:={X:=Nat,σ:=fun k=>⟨1,[(0, .one (.sl 0)),(3, .one (.int .i64 k))],[(0, .imm 45 sFl l)]⟩,inv:=fun k=>k≤l.length,mu:=fun k=>l.length-k}
def Kac:Con:={args:=[aFs],ress:=[I],owns:=[],pre:=fun(l,_)=>[l.length≤1000000,∀x∈l,okF x],spec:=fun _=>(0,())}
theorem J81:Ok Tryz.prog 53 Kac:=okW W68 Tryz.f53 (fun xx=>Yl (Jx3 xx.1)) fun xx=>by
 obtain⟨(l:List Nat),_⟩:=xx
 refine(by kernel_rfl:(Z10 l→Jg3 l→∃(x:Nat),(0=Nc x∧l=l)∧x≤List.length l∧∀(x:Nat),x≤List.length l→Br (decide (Nc x<Ln l)) (T2 (Bd (Nc x) (Ln l)) (okF (Z3 l x))∧Br false ((0:Int)=0) (Z2 x∧∃(y:Nat),(Z29 x y∧l=l)∧y≤List.length l∧Z71 l y x)) ((0:Int)=0))=_).mp ?_
 delta Z2 Z3 Z10 Z29 Z70 Z71 Jg3 Br Iw Bd T2 Ln Nc
 intro h1 h2
 refine⟨(0:Nat),⟨rfl,rfl⟩,Nat.zero_le _,fun(k:Nat) hk=>⟨fun h=> ?_,fun _=>rfl⟩⟩
 have hlt:k<l.length:=by simpa using h
 exact⟨⟨by omega,by omega,h2 _ (Jp hlt)⟩,fun q=>(by cases q),fun _=>⟨by omega,(k+1:Nat),⟨by simp,rfl⟩,by omega,by omega⟩⟩
abbrev W69:=W68.add J81
def Kad:Con:={args:=[aFs],ress:=[I],owns:=[],pre:=fun(l,_)=>[l.length≤1000000,∀x∈l,okF x],spec:=fun(l,_)=>(bif decide (1024<l.length) then 5 else 0,())}
def J6k (a:List Nat):=bif decide ((1024:Nat)<List.length a) then(5:Int) else(0:Int)
def J0g (a:List Nat):=Z10 a∧Jg3 a
theorem J9r:Ok Tryz.prog 20 Kad:=okW W69 Tryz.f20 na fun xx=>by
 obtain⟨(l:List Nat),_⟩:=xx
 refine(by kernel_rfl:(Z10 l→Jg3 l→Br (decide (1024<Ln l)) (5=J6k l) (J0g l∧0=J6k l))=_).mp ?_
 delta Z10 Z70 J6k Jg3 J0g Br Ln
 intro h1 h2
 have e:decide (1024<l.length)=decide ((1024:Int)<l.length):=decide_eq_decide.2 (by omega)
 rw[e]
 refine⟨fun q=>by rw[q];rfl,fun q=>⟨⟨h1,h2⟩,by rw[q];rfl⟩⟩
abbrev W70:=W69.add J9r
def Jl9 (x:Nat):Int:=(Ll FloatKind.f32 ((FloatKind.f32.format.mul 1098907648 x).getD 0)).getD 0
def J99:Con:={args:=[aFl],ress:=[I],owns:=[],pre:=fun(x,_)=>[okF x],spec:=fun(x,_)=>(Jl9 x,())}
theorem ok9:Ok Tryz.prog 9 J99:=okW W70 Tryz.f9 na fun xx=>by
 obtain⟨(x:Nat),_⟩:=xx
 refine(by kernel_rfl:(okF x→(Z84 x∧J0q x∧Jzp x)∧Jvy x=Jl9 x)=_).mp ?_
 delta Z84 J02 Jvy J0q Jzp
 rintro⟨n,hn,rfl⟩
 have f:=fa hn
 have b:IntKind.i64.min≤n∧n≤IntKind.i64.max:=by
  show(-9223372036854775808:Int)≤n∧n≤9223372036854775807
  omega
 unfold Jl9
 rw[f.mul]
 simp only[Option.getD_some,f.int]
 exact⟨⟨by simp,by simp,b⟩,trivial⟩
abbrev W71:=W70.add ok9
theorem Jtf {n:Int} (h: -16384≤n∧n≤16384):Jl9 (Yc n)=n:=by
 have f:=fa h
 unfold Jl9
 rw[f.mul]
 simp only[Option.getD_some,f.int]
def nbS (l:List Int):Int:=l.foldl (fun n b=>n*256+b) 0
def K5 (l:List Int):Prop:=∀b∈l,0≤b∧b<256
theorem Jtu {l:List Int} {k:Nat} (h:k<l.length):nbS (l.take (k+1))=nbS (l.take k)*256+l.getD k 0:=by
 rw[←Kn (d:=0) h];unfold nbS;rw[List.foldl_append];rfl
theorem Jwk:∀(l:List Int) (n:Int) (c:Nat),K5 l→0≤n→n<256^c→0≤l.foldl (fun n b=>n*256+b) n∧l.foldl (fun n b=>n*256+b) n<256^(c+l.length)
 |[],n,c,_,h1,h2=>⟨h1,h2⟩
 |b::l,n,c,h,h1,h2=>by
  have hb:=h b (by simp)
  have:=Jwk l (n*256+b) (c+1) (fun x hx=>h x (by simp[hx])) (by omega) (by rw[Int.pow_succ];omega)
  rw[List.foldl_cons,List.length_cons,show c+(l.length+1)=c+1+l.length by omega]
  exact this
theorem J1k {l:List Int} (h:K5 l):0≤nbS l∧nbS l<256^l.length:=by
 have:=Jwk l 0 0 h (by decide) (by decide)
 rwa[Nat.zero_add] at this
theorem Y5 {l:List Int} (h:K5 l) (k:Nat):K5 (l.take k):=fun b hb=>h b (List.mem_of_mem_take hb)
theorem Jqj {l:List Int} (h:K5 l) (h4:l.length≤4) {k:Nat} (hk:k<l.length):0≤nbS (l.take k)∧nbS (l.take k)<16777216:=by
 have hb:=J1k (Y5 h k)
 rw[List.length_take,Nat.min_eq_left (by omega)] at hb
 refine⟨hb.1, ?_⟩
 have:k=0∨k=1∨k=2∨k=3:=by omega
 rcases this with rfl|rfl|rfl|rfl<;>omega
theorem Jtn {n b:Int} (hn:0≤n∧n<16777216) (hb:0≤b∧b<256):bits .or .i64 (n*2^8) b=n*256+b:=by
 obtain⟨m,rfl⟩:=Int.eq_ofNat_of_zero_le hn.1
 obtain⟨c,rfl⟩:=Int.eq_ofNat_of_zero_le hb.1
 have e0:((m:Nat):Int)*2^8=((2^8*m:Nat):Int):=by omega
 have e:bits .or .i64 (((2^8*m:Nat):Int)) ((c:Nat):Int)=IntKind.i64.wrap (((BitVec.ofInt 64 ((2^8*m:Nat):Int))|||(BitVec.ofInt 64 ((c:Nat):Int))).toNat:Nat):=rfl
 rw[e0,e,BitVec.toNat_or,BitVec.ofInt_natCast,BitVec.ofInt_natCast,BitVec.toNat_ofNat,BitVec.toNat_ofNat,Nat.mod_eq_of_lt (by omega),Nat.mod_eq_of_lt (by omega),←Nat.two_pow_add_eq_or_of_lt (i:=8) (by omega) m]
 rw[I64.wrap ⟨by omega,by omega⟩]
 omega
def J1x:Con:={args:=[aBy],ress:=[I],owns:=[],pre:=fun(l,_)=>[l.length≤4,K5 l],spec:=fun(l,_)=>(nbS l,())}
abbrev Jxy (l:List Int):Ann:={X:=Nat,σ:=fun k=>⟨1,[(3, .one (.int .i64 (nbS (l.take k)))),(6, .one (.sl 0)),(7, .one (.int .i64 l.length)),(8, .one (.int .i64 k))],[(0, .imm 5 sU l)]⟩,inv:=fun k=>k≤l.length,mu:=fun k=>l.length-k}
def Z60:=(0:Int)≤8∧(8:Int)≤63
def Jpg:Int:=2^8
def J5r (a:Nat) (b:Li):=nbS (List.take a b)*Jpg
theorem J89:Ok Tryz.prog 41 J1x:=okW W71 Tryz.f41 (fun xx=>Yl (Jxy xx.1)) fun xx=>by
 obtain⟨(l:List Int),_⟩:=xx
 refine(by kernel_rfl:(List.length l≤4→K5 l→∃(x:Nat),(0=nbS (List.take x l)∧Z77 l x)∧x≤List.length l∧∀(x:Nat),x≤List.length l→Br (Z27 x l) (Z24 x l∧(Z60∧Iw (J5r x l)∧Iw (Z4 l x))∧Z2 x∧∃(y:Nat),(bits BinOp.or IntKind.i64 (J5r x l) (Z4 l x)=nbS (List.take y l)∧Jrl l x y)∧Jv2 y l x) (nbS (List.take x l)=nbS l))=_).mp ?_
 delta Z2 Z4 Z24 Z27 Z29 Z60 Z77 Jrl Jv2 Jpg J5r Br Iw Bd Tw Si Ln Nc
 intro h4 hb
 refine⟨(0:Nat),⟨rfl,rfl,rfl,rfl⟩,Nat.zero_le _,fun(k:Nat) hk=>⟨fun h=> ?_,fun h=> ?_⟩⟩
 ·have hlt:k<l.length:=by simpa using h
  have hs:=Jqj hb h4 hlt
  have hx:=hb _ (Jp (d:=0) hlt)
  refine⟨⟨by omega,by omega⟩,⟨by omega,by omega,by omega⟩,by omega,(k+1:Nat),⟨?_,rfl,by simp,rfl⟩,by omega,by omega⟩
  rw[Jtn hs hx,Jtu hlt]
 ·have hlt:¬k<l.length:=by simpa using h
  rw[List.take_of_length_le (by omega)]
abbrev W72:=W71.add J89
def Jgr (x b:Int):Int:=(263*x+b).tmod 16777199
def ckS (l:List Int):Int:=l.foldl Jgr 1
theorem Juo {l:List Int} {k:Nat} (h:k<l.length):ckS (l.take (k+1))=Jgr (ckS (l.take k)) (l.getD k 0):=by
 rw[←Kn (d:=0) h];unfold ckS;rw[List.foldl_append];rfl
theorem Jw6:∀(l:List Int) (n:Int),K5 l→0≤n→n<16777199→0≤l.foldl Jgr n∧l.foldl Jgr n<16777199
 |[],n,_,h1,h2=>⟨h1,h2⟩
 |b::l,n,h,h1,h2=>by
  have hb:=h b (by simp)
  exact Jw6 l (Jgr n b) (fun x hx=>h x (by simp[hx])) (Int.tmod_nonneg _ (by omega)) (Int.tmod_lt_of_pos _ (by decide))
theorem Jw7 {l:List Int} (h:K5 l):0≤ckS l∧ckS l<16777199:=Jw6 l 1 h (by decide) (by decide)
def cCk:Con:={args:=[aBy],ress:=[I],owns:=[],pre:=fun(l,_)=>[l.length≤1000000,K5 l],spec:=fun(l,_)=>(ckS l,())}
abbrev J16 (l:List Int):Ann:={X:=Nat,σ:=fun k=>⟨1,[(3, .one (.int .i64 (ckS (l.take k)))),(6, .one (.sl 0)),(7, .one (.int .i64 l.length)),(8, .one (.int .i64 k))],[(0, .imm 5 sU l)]⟩,inv:=fun k=>k≤l.length,mu:=fun k=>l.length-k}
theorem J9c:Ok Tryz.prog 38 cCk:=okW W72 Tryz.f38 (fun xx=>Yl (J16 xx.1)) fun xx=>by
 obtain⟨(l:List Int),_⟩:=xx
 refine(by kernel_rfl:(Z12 l→K5 l→∃(x:Nat),(1=ckS (List.take x l)∧Z77 l x)∧x≤List.length l∧∀(x:Nat),x≤List.length l→Br (Z27 x l) (Z24 x l∧(Iw (263*ckS (List.take x l))∧Iw (Z4 l x)∧Iw (263*ckS (List.take x l)+Z4 l x)∧((16777199:Int)=0→False))∧Z2 x∧∃(y:Nat),(Int.tmod (263*ckS (List.take x l)+Z4 l x) 16777199=ckS (List.take y l)∧Jrl l x y)∧Jv2 y l x) (ckS (List.take x l)=ckS l))=_).mp ?_
 delta Z2 Z4 Z12 Z24 Z27 Z29 Z77 Jrl Jv2 Br Iw Bd Tw Si Ln Nc
 intro h4 hb
 refine⟨(0:Nat),⟨rfl,rfl,rfl,rfl⟩,Nat.zero_le _,fun(k:Nat) hk=>⟨fun h=> ?_,fun h=> ?_⟩⟩
 ·have hlt:k<l.length:=by simpa using h
  have hs:=Jw7 (Y5 hb k)
  have hx:=hb _ (Jp (d:=0) hlt)
  refine⟨⟨by omega,by omega⟩,⟨by omega,by omega,by omega,by omega⟩,by omega,(k+1:Nat),⟨?_,rfl,by simp,rfl⟩,by omega,by omega⟩
  rw[Juo hlt];rfl
 ·have hlt:¬k<l.length:=by simpa using h
  rw[List.take_of_length_le (by omega)]
abbrev W73:=W72.add J9c
def Xs (n:Int):List Int:=[IntKind.u8.wrap (n.fdiv (2^8)),IntKind.u8.wrap n]
def Yb (n:Int):List Int:=Xs (n.fdiv (2^16))++Xs n
def Vr (l:List Nat):List Int:=l.flatMap fun x=>Yb ((x:Nat):Int)
def Jk6 (nm:ByteArray) (n:Nat):List Int:=[82,69,67,79]++[IntKind.u8.wrap nm.size]++Ua nm++Xs n
def Jgx (nm:ByteArray) (l:List Nat):List Int:=Jk6 nm l.length++Vr l
def Xy (nm:ByteArray) (l:List Nat):List Int:=Jgx nm l++Yb (ckS (Jgx nm l))
def Jfq (r:ByteArray×List Nat):List Int:=if Fy r=0 then Xy r.1 r.2 else[]
theorem Jin {r:ByteArray×List Nat} (h:Fy r=0):Lc r.1=true∧r.1.size≤24∧r.2.length≤1024:=by
 have hz:=J4 (show Ja [_,_]=0 from h)
 simp only[List.mem_cons,List.not_mem_nil,or_false,forall_eq_or_imp,forall_eq] at hz
 obtain⟨a1,a2⟩:=hz
 have b1:Lc r.1=true:=by
  cases q:Lc r.1
  ·rw[q] at a1;cases a1
  ·rfl
 refine⟨b1, ?_, ?_⟩
 ·unfold Lc at b1
  simp only[Bool.and_eq_true,decide_eq_true_eq] at b1
  omega
 ·cases q:decide ((1024:Int)<r.2.length)
  ·have:=of_decide_eq_false q;omega
  ·rw[q] at a2;cases a2
theorem Jv6 (n:Int):0≤IntKind.u8.wrap n∧IntKind.u8.wrap n<256:=by
 unfold IntKind.wrap
 simp only[IntKind.signed,IntKind.bits,Bool.false_and,Bool.false_eq_true,if_false]
 omega
theorem Jdj (b:ByteArray):(Ua b).length=b.size:=by unfold Ua;rw[List.length_map,Array.length_toList];rfl
theorem U8 {a b:List Int} (h1:K5 a) (h2:K5 b):K5 (a++b):=fun x hx=>by
 rcases List.mem_append.1 hx with hx|hx
 ·exact h1 x hx
 ·exact h2 x hx
theorem Jbj (n:Int):K5 (Xs n):=fun x hx=>by
 unfold Xs at hx
 simp only[List.mem_cons,List.not_mem_nil,or_false] at hx
 rcases hx with rfl|rfl<;>exact Jv6 _
theorem Jbk (n:Int):K5 (Yb n):=U8 (Jbj _) (Jbj _)
theorem Jog (b:ByteArray):K5 (Ua b):=fun x hx=>by
 unfold Ua at hx
 obtain⟨c,_,rfl⟩:=List.mem_map.1 hx
 have:=c.toNat_lt
 omega
theorem Jed (nm:ByteArray) (n:Nat):K5 (Jk6 nm n):=by
 refine U8 (U8 (U8 (fun x hx=> ?_) fun x hx=> ?_) (Jog _)) (Jbj _)
 ·simp only[List.mem_cons,List.not_mem_nil,or_false] at hx
  omega
 ·simp only[List.mem_cons,List.not_mem_nil,or_false] at hx
  rw[hx];exact Jv6 _
theorem Y6:∀l:List Nat,K5 (Vr l)
 |[]=>fun x hx=>by cases hx
 |a::l=>by
  show K5 (Yb _++Vr l)
  exact U8 (Jbk _) (Y6 l)
theorem Jnl (nm:ByteArray) (n:Nat):(Jk6 nm n).length=7+nm.size:=by
 unfold Jk6
 simp only[List.length_append,Jdj,Xs,List.length_cons,List.length_nil]
 omega
theorem Vq:∀l:List Nat,(Vr l).length=4*l.length
 |[]=>rfl
 |a::l=>by
  show(Yb _++Vr l).length=_
  rw[List.length_append,Vq l,List.length_cons]
  show 4+_=_
  omega
theorem Jrd (a b:List Nat):Vr (a++b)=Vr a++Vr b:=List.flatMap_append
theorem Jgu {l:List Nat} {k:Nat} (h:k<l.length):Vr (tkN (k+1) l)=Vr (tkN k l)++Yb ((l.getD k 0:Nat):Int):=by
 rw[Jcy h,Jrd]
 show _++(Yb _++[])=_
 rw[List.append_nil]
theorem Jch (nm:ByteArray) (n:Nat):82::69::67::79::IntKind.u8.wrap nm.size::([]++Ua nm++[IntKind.u8.wrap ((n:Int).fdiv (2^8)),IntKind.u8.wrap (n:Int)])=Jk6 nm n:=by
 unfold Jk6 Xs
 rw[List.nil_append,List.append_assoc];rfl
def J1w:Con:={args:=[J68],ress:=[RBy,I],owns:=[true,false],pre:=fun(r,_)=>[r.1.size≤1000000,r.2.length≤1000000,∀x∈r.2,okF x],spec:=fun(r,_)=>(Jfq r,Fy r,())}
abbrev Ju1 (nm:ByteArray) (l:List Nat):Ann:={X:=Nat,σ:=fun k=>⟨3,[(1, .one (.ptr 1 0)),(5, .one (.sl 2)),(31, .one (.sl 0)),(32, .one (.int .i64 l.length)),(33, .one (.int .i64 k))],[(0, .imm 45 sFl l),(1, .box 66 [.str nm, .sl 0]),(2, .own 5 sU (Jk6 nm l.length++Vr (tkN k l)))]⟩,inv:=fun k=>k≤l.length∧Fy (nm,l)=0,mu:=fun k=>l.length-k}
abbrev Jx1 (nm:ByteArray) (l:List Nat):Ann:={X:=Unit,σ:=fun _=>⟨3,[(1, .one (.ptr 1 0)),(5, .one (.sl 2))],[(0, .imm 45 sFl l),(1, .box 66 [.str nm, .sl 0]),(2, .own 5 sU (Jk6 nm l.length))]⟩,inv:=fun _=>Fy (nm,l)=0,mu:=fun _=>0,un:=7779}
def Z5 (a:Bt) (b:List Nat):=Fy (a,b)=0
def Z59:=(0:Int)≤16∧(16:Int)≤63
def Z73 (a:Bt) (b:List Nat) (c:Nat):=Jk6 a (List.length b)++Vr (tkN c b)
def Z83 (a:Nat) (b:List Nat) (c:Bt):=a≤List.length b∧Z5 c b
def Z89 (a:Bt) (b:List Nat) (c:Nat):=ckS (Z73 a b c)
def J0r:Int:=2^16
def J5x:=Int.fdiv 0 J0r
def J5c (a:List Nat) (b:Nat):=Int.fdiv (Nc (Z3 a b)) J0r
def J4n (a:Bt) (b:List Nat) (c:Nat):=Int.fdiv (Z89 a b c) J0r
def Jzv (a:Bt) (b:List Nat) (c:Nat):=Z60∧(List.length (Z73 a b c)+2)*1≤140737488355328
def J23 (a:Bt) (b:List Nat) (c:Nat):=Z73 a b c++[IntKind.wrap IntKind.u8 (Int.fdiv J5x Jpg),IntKind.wrap IntKind.u8 J5x]
def J2z (a:Bt) (b:List Nat) (c:Nat):=Z73 a b c++[IntKind.wrap IntKind.u8 (Int.fdiv (J5c b c) Jpg),IntKind.wrap IntKind.u8 (J5c b c)]
def J2x (a:Bt) (b:List Nat) (c:Nat):=Z73 a b c++[IntKind.wrap IntKind.u8 (Int.fdiv (J4n a b c) Jpg),IntKind.wrap IntKind.u8 (J4n a b c)]
def Jy8 (a:Bt) (b:List Nat):Prop:=(5:Nat)+ByteArray.size a≤(140737488355328:Nat)∧(Z60∧(List.length ((82:Int)::(69:Int)::(67:Int)::(79:Int)::IntKind.wrap IntKind.u8 (Nc (ByteArray.size a))::([]++Ua a))+(2:Nat))*(1:Nat)≤(140737488355328:Nat))∧∃(y:Unit),Sf b (Sf a ((82:Int)::(69:Int)::(67:Int)::(79:Int)::IntKind.wrap IntKind.u8 (Nc (ByteArray.size a))::([]++Ua a++[IntKind.wrap IntKind.u8 (Int.fdiv (Ln b) Jpg),IntKind.wrap IntKind.u8 (Ln b)])=Jk6 a (List.length b)))∧Z5 a b
def J2o (a:Bt) (b:List Nat):=Tw (Jy8 a b)
theorem J9x:Ok Tryz.prog 14 J1w:=Jwi W73 Tryz.f14 (Jaj (l:=([(35,Tryz.f35),(36,Tryz.f36)]:List (Nat×Func))) (List.forall_mem_cons.2 ⟨by kernel_rfl,List.forall_mem_cons.2 ⟨by kernel_rfl,by simp⟩⟩)) (fun xx=>fun i=>if i=0 then some (Ju1 xx.1.1 xx.1.2) else if i=4000005 then some (Jx1 xx.1.1 xx.1.2) else none) (fun xx=>fun _=>na ()) fun xx=>by
 obtain⟨⟨(nm:ByteArray),(l:List Nat)⟩,_⟩:=xx
 refine(by kernel_rfl:(ByteArray.size nm≤(1000000:Nat)→Z10 l→Jg3 l→(ByteArray.size nm≤(1000000:Nat)∧J0g l)∧Br (Fy (nm,l) !=(0:Int)) (Sf true ([]=Jfq (nm,l)∧Fy (nm,l)=Fy (nm,l))) (((0:Nat)<(1:Nat)∧(5:Nat)≤(140737488355328:Nat))∧((Jy8 nm l∧J2o nm l)∧J2o nm l∧Jy8 nm l)∧∀(y:Unit),Z5 nm l→∃(x:Nat),Si (Ln l) ((0:Int)=Nc x∧Sf l (Sf nm (Jk6 nm (List.length l)=Z73 nm l x)))∧Z83 x l nm∧∀(x:Nat),Z83 x l nm→Br (decide (Nc x<Ln l)) (Tw (Bd (Nc x) (Ln l))∧Br (Ieee.Format.order (FloatKind.format FloatKind.f32) (Z3 l x) (0:Nat)==some Ordering.eq) (Iw (0:Int)∧Z59∧Jzv nm l x∧(Z60∧(List.length (J23 nm l x)+(2:Nat))*(1:Nat)≤(140737488355328:Nat))∧Z2 x∧∃(y:Nat),Si (Ln l) (Z29 x y∧Sf l (Sf nm (J23 nm l x++[IntKind.wrap IntKind.u8 (Int.fdiv (0:Int) Jpg),IntKind.wrap IntKind.u8 (0:Int)]=Z73 nm l y)))∧Z83 y l nm∧Z71 l y x) (Iw (Nc (Z3 l x))∧Z59∧Jzv nm l x∧(Z60∧(List.length (J2z nm l x)+(2:Nat))*(1:Nat)≤(140737488355328:Nat))∧Z2 x∧∃(y:Nat),Si (Ln l) (Z29 x y∧Sf l (Sf nm (J2z nm l x++[IntKind.wrap IntKind.u8 (Int.fdiv (Nc (Z3 l x)) Jpg),IntKind.wrap IntKind.u8 (Nc (Z3 l x))]=Z73 nm l y)))∧Z83 y l nm∧Z71 l y x)) ((List.length (Z73 nm l x)≤(1000000:Nat)∧K5 (Z73 nm l x))∧Z59∧Jzv nm l x∧(Z60∧(List.length (J2x nm l x)+(2:Nat))*(1:Nat)≤(140737488355328:Nat))∧Sf true (J2x nm l x++[IntKind.wrap IntKind.u8 (Int.fdiv (Z89 nm l x) Jpg),IntKind.wrap IntKind.u8 (Z89 nm l x)]=Jfq (nm,l)∧(0:Int)=Fy (nm,l)))))=_).mp ?_
 delta Z2 Z3 Z5 Z10 Z29 Z59 Z60 Z70 Z71 Z73 Z83 Z89 Jg3 J0r Jpg J5x J0g J5c J4n Jzv J23 J2z J2x Jy8 J2o Br Iw Bd Tw Sf Si Ln Nc
 intro h1 h2 h3
 refine⟨⟨h1,h2,h3⟩,fun _=>⟨rfl, ?_,rfl⟩,fun q=> ?_⟩
 ·rename_i q
  unfold Jfq;rw[if_neg (bne_iff_ne.1 q)]
 have hz:Fy (nm,l)=0:=bne_eq_false_iff_eq.1 q
 obtain⟨_,hs,hl⟩:=Jin hz
 have hs:nm.size≤24:=hs
 have hl:l.length≤1024:=hl
 have hL:((82::69::67::79::IntKind.u8.wrap nm.size::([]++Ua nm)).length+2)*1≤140737488355328:=by
  simp only[List.length_cons,List.nil_append,Jdj];omega
 have hd:=Jnl nm l.length
 refine⟨by omega,⟨⟨?_, ?_, ?_⟩,⟨?_, ?_⟩, ?_⟩,fun _ _=> ?_⟩
 ·exact⟨by omega,⟨by omega,hL⟩,(),⟨rfl,rfl,Jch nm l.length⟩,hz⟩
 ·exact⟨by omega,⟨by omega,hL⟩,(),⟨rfl,rfl,Jch nm l.length⟩,hz⟩
 ·exact⟨by omega,⟨by omega,hL⟩,(),⟨rfl,rfl,Jch nm l.length⟩,hz⟩
 ·exact⟨by omega,⟨by omega,hL⟩,(),⟨rfl,rfl,Jch nm l.length⟩,hz⟩
 ·exact⟨by omega,⟨by omega,hL⟩,(),⟨rfl,rfl,Jch nm l.length⟩,hz⟩
 ·exact⟨by omega,⟨by omega,hL⟩,(),⟨rfl,rfl,Jch nm l.length⟩,hz⟩
 refine⟨(0:Nat),⟨rfl,rfl,rfl,rfl,(List.append_nil _).symm⟩,⟨Nat.zero_le _,hz⟩,fun(k:Nat) hk=>⟨fun h=> ?_,fun h=> ?_⟩⟩
 ·have hlt:k<l.length:=by simpa using h
  obtain⟨n,hn,hx⟩:=h3 _ (Jp (d:=0) hlt)
  have f:=fa hn
  have ht:=Jg6 (l:=l) (k:=k)
  have hb:=Vq (tkN k l)
  have r:=f.range
  rw[←hx] at r
  refine⟨⟨by omega,by omega⟩,fun q=> ?_,fun q=> ?_⟩
  ·have q:FloatKind.f32.format.order (l.getD k 0) 0=some Ordering.eq:=beq_iff_eq.1 q
   rw[hx] at q
   have hx0:l.getD k 0=0:=by rw[hx,f.zero.1 q];rfl
   refine⟨by omega,by omega,⟨by omega,by simp only[List.length_append];omega⟩,⟨by omega,by simp only[List.length_append,List.length_cons,List.length_nil];omega⟩,by omega,(k+1:Nat),⟨rfl,by simp,rfl,rfl, ?_⟩,⟨by omega,hz⟩,by omega⟩
   rw[Jgu hlt,hx0,List.append_assoc,List.append_assoc];rfl
  ·refine⟨by omega,by omega,⟨by omega,by simp only[List.length_append];omega⟩,⟨by omega,by simp only[List.length_append,List.length_cons,List.length_nil];omega⟩,by omega,(k+1:Nat),⟨rfl,by simp,rfl,rfl, ?_⟩,⟨by omega,hz⟩,by omega⟩
   rw[Jgu hlt,List.append_assoc,List.append_assoc];rfl
 ·have hlt:¬k<l.length:=by simpa using h
  rw[Jcz (by omega)]
  have hb:=Vq l
  refine⟨⟨by rw[List.length_append];omega,U8 (Jed _ _) (Y6 _)⟩,by omega,⟨by omega,by simp only[List.length_append];omega⟩,⟨by omega,by simp only[List.length_append,List.length_cons,List.length_nil];omega⟩,rfl, ?_,hz.symm⟩
  unfold Jfq
  rw[if_pos hz,List.append_assoc];rfl
abbrev W74:=W73.add J9x
set_option pp.deepTerms true
set_option pp.maxSteps 10000000
def szS (l:List Int):Int:=nbS ((l.drop 4).take 1)
def Xo (l:List Int):List Int:=l.drop 5
def V5 (l:List Int):List Int:=l.drop (5+(szS l).toNat)
def Xn (l:List Int):List Int:=l.drop (7+(szS l).toNat)
def Ks (l:List Int):Int:=nbS ((V5 l).take 2)
def nmU (l:List Int):ByteArray:=strOfNums ((Xo l).take (szS l).toNat)
def Yr (l:List Int):List Int:=(Xn l).take (4*(Ks l).toNat+4)
def Ku (l:List Int):List Int:=(Yr l).take (4*(Ks l).toNat)
def J14 (r:List Int) (i:Nat):Nat:=(IntKind.u32.wrap (nbS ((r.drop (4*i)).take 4))).toNat
def Jfc (r:List Int):Nat→List Nat
 |0=>[]
 |n+1=>Jfc r n++[J14 r n]
def Jvj (l:List Int):List Nat:=Jfc (Ku l) (Ks l).toNat
theorem Y8 (n:Int):IntKind.u8.wrap n=n %256:=by
 unfold IntKind.wrap
 simp only[IntKind.signed,IntKind.bits,Bool.false_and,Bool.false_eq_true,if_false]
 omega
theorem Jue (n:Int):n.fdiv (2^8)=n/256:=Int.fdiv_eq_ediv_of_nonneg _ (by decide)
theorem Jwy (n:Int):n.fdiv (2^16)=n/65536:=Int.fdiv_eq_ediv_of_nonneg _ (by decide)
theorem Jtt {n:Int} (h:0≤n∧n<65536):nbS (Xs n)=n:=by
 unfold Xs nbS
 simp only[List.foldl_cons,List.foldl_nil]
 rw[Y8,Y8,Jue]
 omega
theorem Jm3 {n:Int} (h:0≤n∧n<4294967296):nbS (Yb n)=n:=by
 unfold Yb Xs nbS
 simp only[List.foldl_cons,List.foldl_nil,List.cons_append,List.nil_append]
 rw[Y8,Y8,Y8,Y8,Jue,Jue,Jwy]
 omega
theorem Le (n:Int):(Yb n).length=4:=rfl
theorem Jmw (b:ByteArray):strOfNums (Ua b)=b:=by
 unfold strOfNums Ua
 rw[List.map_map]
 have e:((fun n:Int=>UInt8.ofNat n.toNat)∘fun c:UInt8=>(c.toNat:Int))=id:=by
  funext c;simp
 rw[e,List.map_id]
structure Jg0 (l:List Int) (nm:ByteArray) (xs:List Nat):Prop where
 zero:Fy (nm,xs)=0
 pos:0<nm.size
 small:nm.size≤24
 many:xs.length≤1024
 ok:∀x∈xs,okF x
 sz:szS l=nm.size
 mn:Ks l=xs.length
 len:l.length=11+nm.size+4*xs.length
 bytes:K5 l
 magic:l.take 4=[82,69,67,79]
 all:l.take (7+nm.size+4*xs.length)=Jgx nm xs
 l7:Xo l=Ua nm++(Xs xs.length++(Vr xs++Yb (ckS (Jgx nm xs))))
 l8:V5 l=Xs xs.length++(Vr xs++Yb (ckS (Jgx nm xs)))
 l9:Xn l=Vr xs++Yb (ckS (Jgx nm xs))
 name:nmU l=nm
theorem Jwa {nm:ByteArray} {xs:List Nat} (hz:Fy (nm,xs)=0) (hx:∀x∈xs,okF x):Jg0 (Xy nm xs) nm xs:=by
 obtain⟨h1,h2,h3⟩:=Jin hz
 have h2:nm.size≤24:=h2
 have h3:xs.length≤1024:=h3
 have h0:0<nm.size:=by
  have h1:Lc nm=true:=h1
  unfold Lc at h1
  simp only[Bool.and_eq_true,decide_eq_true_eq] at h1
  exact h1.2.1
 have hn:=Jdj nm
 have hb:=Vq xs
 have hall:(Jgx nm xs).length=7+nm.size+4*xs.length:=by unfold Jgx;rw[List.length_append,Jnl,hb]
 have e:Xy nm xs=[82,69,67,79]++([IntKind.u8.wrap nm.size]++(Ua nm++(Xs xs.length++(Vr xs++Yb (ckS (Jgx nm xs)))))):=by
  show Jgx nm xs++Yb (ckS (Jgx nm xs))=_
  generalize Yb (ckS (Jgx nm xs))=q
  unfold Jgx Jk6
  simp only[List.append_assoc]
 have e5:(Xy nm xs).drop 5=Ua nm++(Xs xs.length++(Vr xs++Yb (ckS (Jgx nm xs)))):=by rw[e];rfl
 have hsz:szS (Xy nm xs)=nm.size:=by
  have:((Xy nm xs).drop 4).take 1=[IntKind.u8.wrap nm.size]:=by rw[e];rfl
  unfold szS
  rw[this]
  unfold nbS
  simp only[List.foldl_cons,List.foldl_nil]
  rw[Y8];omega
 have e8:V5 (Xy nm xs)=Xs xs.length++(Vr xs++Yb (ckS (Jgx nm xs))):=by
  unfold V5
  rw[hsz,show((nm.size:Nat):Int).toNat=nm.size from rfl,←List.drop_drop,e5,List.drop_left' hn]
 have hmn:Ks (Xy nm xs)=xs.length:=by
  unfold Ks
  rw[e8,List.take_left' (show(Xs (xs.length:Int)).length=2 from rfl),Jtt ⟨by omega,by omega⟩]
 refine⟨hz,h0,h2,h3,hx,hsz,hmn, ?_,U8 (U8 (Jed _ _) (Y6 _)) (Jbk _),by rw[e];rfl, ?_,e5,e8, ?_, ?_⟩
 ·unfold Xy;rw[List.length_append,hall,Le];omega
 ·rw[←hall];unfold Xy;rw[List.take_left' rfl]
 ·unfold Xn
  rw[hsz,show 7+((nm.size:Nat):Int).toNat=5+nm.size+2 by simp;omega,←List.drop_drop]
  have:(Xy nm xs).drop (5+nm.size)=V5 (Xy nm xs):=by unfold V5;rw[hsz];rfl
  rw[this,e8,List.drop_left' (show(Xs (xs.length:Int)).length=2 from rfl)]
 ·unfold nmU
  rw[hsz,show((nm.size:Nat):Int).toNat=nm.size from rfl]
  unfold Xo
  rw[e5,List.take_left' hn,Jmw]
section
variable {l:List Int} {nm:ByteArray} {xs:List Nat}
theorem Jdb (h:Jg0 l nm xs):Yr l=Vr xs++Yb (ckS (Jgx nm xs)):=by
 unfold Yr
 rw[h.l9,h.mn,List.take_of_length_le]
 rw[List.length_append,Vq,Le]
 show _≤4*xs.length+4
 omega
theorem Jeh (h:Jg0 l nm xs):Ku l=Vr xs:=by
 unfold Ku
 rw[Jdb h,h.mn]
 exact List.take_left' (Vq xs)
theorem Jv9 (h:Jg0 l nm xs):nbS ((Yr l).drop (4*xs.length))=ckS (Jgx nm xs):=by
 have hb:=Jw7 (U8 (Jed nm xs.length) (Y6 xs))
 rw[Jdb h,List.drop_left' (Vq xs)]
 exact Jm3 ⟨hb.1,by have:=hb.2;show ckS (Jk6 nm xs.length++Vr xs)<_;omega⟩
theorem Jok:∀{xs:List Nat} {k:Nat},k<xs.length→((Vr xs).drop (4*k)).take 4=Yb ((xs.getD k 0:Nat):Int)
 |[],k,h=>by simp at h
 |x::xs,0,_=>by
  show(Yb _++Vr xs).take 4=_
  rw[List.take_left' (Le _)];rfl
 |x::xs,k+1,h=>by
  show((Yb _++Vr xs).drop (4*(k+1))).take 4=_
  rw[show 4*(k+1)=4+4*k by omega,←List.drop_drop,List.drop_left' (Le _),List.getD_cons_succ]
  exact Jok (by simpa using h)
theorem Jsu (h:Jg0 l nm xs) {k:Nat} (hk:k<xs.length):nbS (((Ku l).drop (4*k)).take 4)=((xs.getD k 0:Nat):Int)∧J14 (Ku l) k=xs.getD k 0:=by
 obtain⟨n,hn,hx⟩:=h.ok _ (Jp (d:=0) hk)
 have r:=(fa hn).range
 rw[←hx] at r
 have e:nbS (((Ku l).drop (4*k)).take 4)=((xs.getD k 0:Nat):Int):=by rw[Jeh h,Jok hk,Jm3 ⟨by omega,by omega⟩]
 refine⟨e, ?_⟩
 unfold J14
 rw[e]
 have:IntKind.u32.wrap ((xs.getD k 0:Nat):Int)=((xs.getD k 0:Nat):Int):=by
  unfold IntKind.wrap
  simp only[IntKind.signed,IntKind.bits,Bool.false_and,Bool.false_eq_true,if_false]
  omega
 rw[this];rfl
theorem Jil (h:Jg0 l nm xs):∀{k:Nat},k≤xs.length→Jfc (Ku l) k=tkN k xs
 |0,_=>rfl
 |k+1,hk=>by
  show Jfc _ k++[_]=_
  rw[Jil h (by omega),(Jsu h (by omega)).2,Jcy (by omega)]
theorem Jmi (h:Jg0 l nm xs):Jvj l=xs:=by
 unfold Jvj
 rw[h.mn]
 show Jfc (Ku l) xs.length=_
 rw[Jil h (Nat.le_refl _),Jcz (Nat.le_refl _)]
end
theorem Lp {l:List Int} (h:K5 l) (k:Nat):K5 (l.drop k):=fun b hb=>h b (List.mem_of_mem_drop hb)
def J97:Con:={args:=[aBy],ress:=[(true,J6t),I],owns:=[],pre:=fun(l,_)=>[∃nm xs,Fy (nm,xs)=0∧(∀x∈xs,okF x)∧l=Xy nm xs],spec:=fun(l,_)=>((nmU l,Jvj l),0,())}
abbrev Jqf:SC:= .val (.slice none 0 0)
abbrev Jw4 (nx:Nat) (sl:List (Nat×SV)) (rs:List (Nat×Res)):Option Ann:=some {X:=Unit,σ:=fun _=>⟨nx,sl,rs⟩,inv:=fun _=>True,mu:=fun _=>0,un:=7779}
abbrev Jw3:Option Ann:=some {X:=Unit,σ:=fun _=>⟨0,[],[]⟩,inv:=fun _=>True,mu:=fun _=>0,un:=7777}
abbrev slU:List (Nat×SV):=[(0, .one (.sl 0)),(2, .one (.ptr 1 0)),(5, .one (.ptr 2 0))]
abbrev rsU (l left:List Int):List (Nat×Res):=[(0, .imm 5 sU l),(1, .box 66 [.str ⟨⟨[]⟩⟩,Jqf]),(2, .box 96 [.sl 3, .bool false]),(3, .imm 5 sU left)]
abbrev Jxw (l:List Int):Nat→Option Ann:=fun i=>
 if i=4000007 then Jw4 4 (slU++[(6, .one (.int .i64 (szS l)))]) (rsU l (Xo l))
 else if i=4000008 then Jw4 4 (slU++[(6, .one (.int .i64 (szS l))),(7, .one (.str (nmU l)))]) (rsU l (V5 l))
 else if i=4000009 then Jw4 4 (slU++[(7, .one (.str (nmU l))),(8, .one (.int .i64 (Ks l)))]) (rsU l (Xn l))
 else if i=4000010 then Jw4 5 (slU++[(7, .one (.str (nmU l))),(8, .one (.int .i64 (Ks l))),(9, .one (.sl 4))]) (rsU l []++[(4, .imm 5 sU (Yr l))])
 else if i=4000016 then Jw4 5 [(2, .one (.ptr 1 0)),(8, .one (.int .i64 (Ks l))),(9, .one (.sl 4)),(11, .one (.ptr 3 0))] [(1, .box 66 [.str ⟨⟨[]⟩⟩,Jqf]),(3, .box 66 [.str (nmU l),Jqf]),(4, .imm 5 sU (Yr l))]
 else if i=1000069 then Jw3
 else none
abbrev Jx4 (l:List Int):Ann:={X:=Nat,σ:=fun k=>⟨14,[(0, .one (.fv 11)),(1, .one (.ptr 8 0)),(2, .one (.ptr 9 0)),(4, .one (.int .i64 (4*(k:Int))))],[(11, .yld .ready),(12, .sus [(2, .one (.ptr 1 0)),(11, .one (.ptr 3 0)),(12, .one (.ptr 5 0))]),(9, .box 3 [.int .i64 4]),(8, .box 62 [.sl 6]),(6, .imm 5 sU (Ku l)),(5, .box 4 [.bool false]),(1, .box 66 [.str ⟨⟨[]⟩⟩,Jqf]),(3, .box 66 [.str (nmU l), .sl 13]),(13, .own 45 sFl (Jfc (Ku l) k))]⟩,inv:=fun k=>(k:Int)≤Ks l,mu:=fun k=>(Ks l).toNat-k}
def Z36 (a:Li):=4*Ks a+4
def Z42:=Value.slice none 0 0
def Z51 (a:Li):=(B0,[])=(nmU a,Jvj a)
def Z66 (a:Li):=List.take (Int.toNat (Ln a-4)) a
def Z78 (a:Li):=List.drop 4 (List.take (List.length a) a)
def Z98 (a:Li):=Ln (Z78 a)
def J0z (a:Li):=List.take 1 (Z78 a)
def J6i (a:Li):=1≤Z98 a
def J0p (a:Li):=List.drop (Int.toNat (4*Ks a)) (List.take (List.length (Yr a)) (Yr a))
def J4o (a:Li):=Ja [bif decide (400000<Ln a) then 26 else 0,bif decide (Ln a<4) then 28 else 0]
def Ju6 (a:Nat) (b:Li):=4*Nc a+min 4 (Ln (List.drop (Int.toNat (4*Nc a)) (List.take (List.length (Ku b)) (Ku b))))
def Jzo (a:Nat) (b:Li):=List.drop (Int.toNat (4*Nc a)) (List.take (Int.toNat (Ju6 a b)) (Ku b))
def J3e (a:Nat) (b:Li):=IntKind.wrap IntKind.u32 (nbS (Jzo a b))
theorem J9w:Ok Tryz.prog 15 J97:=Jwi W74 Tryz.f15 (Jaj (l:=([(42,Tryz.f42),(43,Tryz.f43),(68,Tryz.f68)]:List (Nat×Func))) (List.forall_mem_cons.2 ⟨by kernel_rfl,List.forall_mem_cons.2 ⟨by kernel_rfl,List.forall_mem_cons.2 ⟨by kernel_rfl,by simp⟩⟩⟩)) (fun xx=>Jxw xx.1) (fun xx=>fun g id=>if g=68∧id=0 then some (Jx4 xx.1) else if(g=68∧id=1000030)∨(g=43∧id=1000006) then Jw3 else none) fun xx=>by
 obtain⟨(l:List Int),_⟩:=xx
 refine(by kernel_rfl:((∃(nm:ByteArray),∃(xs:List Nat),Z5 nm xs∧Jg3 xs∧l=Xy nm xs)→(2:Nat)≤(1000000:Nat)∧Br (J4o l !=(0:Int)) (Sf true (Z51 l∧J4o l=(0:Int))) ((((0:Int)≤(0:Int)∧(0:Int)≤(4:Int)∧(4:Int)≤Ln l)∧(0:Nat)<List.length (List.drop (0:Nat) (List.take (4:Nat) l)))∧Br (!Lb (ByteArray.mk (Array.mk (List.map (fun(n:Int)=>UInt8.ofNat (Int.toNat n)) (List.drop (0:Nat) (List.take (4:Nat) l))))) (ByteArray.mk (Array.mk [(82:UInt8),(69:UInt8),(67:UInt8),(79:UInt8)]))) (Sf true (Z51 l∧(1:Int)=(0:Int))) (((0:Int)≤(4:Int)∧(4:Int)≤Ln l∧Ln l≤Ln l)∧Br (bif false then true else decide (Z98 l<(1:Int))) (((0:Nat)≤(4:Nat)∧K5 [])∧∃(y:Unit),(nbS []=szS l∧Sf l (Sf B0 (Sf Z42 (true=false∧Z78 l=Xo l))))∧True) (((0:Int)≤(0:Int)∧(0:Int)≤(1:Int)∧J6i l)∧((0:Int)≤(1:Int)∧J6i l∧Z98 l≤Z98 l)∧(List.length (J0z l)≤(4:Nat)∧K5 (J0z l))∧∃(y:Unit),(nbS (J0z l)=szS l∧Sf l (Sf B0 (Sf Z42 (Sf false (List.drop (1:Nat) (List.take (List.length (Z78 l)) (Z78 l))=Xo l)))))∧True)∧∀(y:Unit),True→Br (bif false then true else decide (Ln (Xo l)<szS l)) False (((0:Int)≤(0:Int)∧(0:Int)≤szS l∧szS l≤Ln (Xo l))∧((0:Int)≤szS l∧szS l≤Ln (Xo l)∧Ln (Xo l)≤Ln (Xo l))∧(0:Nat)<List.length (List.drop (0:Nat) (List.take (Int.toNat (szS l)) (Xo l)))∧∃(y:Unit),Si (szS l) (ByteArray.mk (Array.mk (List.map (fun(n:Int)=>UInt8.ofNat (Int.toNat n)) (List.drop (0:Nat) (List.take (Int.toNat (szS l)) (Xo l)))))=nmU l∧Sf l (Sf B0 (Sf Z42 (Sf false (List.drop (Int.toNat (szS l)) (List.take (List.length (Xo l)) (Xo l))=V5 l)))))∧True)∧∀(y:Unit),True→Br (bif false then true else decide (Ln (V5 l)<(2:Int))) (((0:Nat)≤(4:Nat)∧K5 [])∧∃(y:Unit),Sf (nmU l) (nbS []=Ks l∧Sf l (Sf B0 (Sf Z42 (true=false∧V5 l=Xn l))))∧True) (((0:Int)≤(0:Int)∧(0:Int)≤(2:Int)∧(2:Int)≤Ln (V5 l))∧((0:Int)≤(2:Int)∧(2:Int)≤Ln (V5 l)∧Ln (V5 l)≤Ln (V5 l))∧(List.length (List.take (2:Nat) (V5 l))≤(4:Nat)∧K5 (List.take (2:Nat) (V5 l)))∧∃(y:Unit),Sf (nmU l) (nbS (List.take (2:Nat) (V5 l))=Ks l∧Sf l (Sf B0 (Sf Z42 (Sf false (List.drop (2:Nat) (List.take (List.length (V5 l)) (V5 l))=Xn l)))))∧True)∧∀(y:Unit),True→(Iw ((4:Int)*Ks l)∧Iw (Z36 l)∧Br (bif false then true else decide (Ln (Xn l)<Z36 l)) (∃(y:Unit),Sf (nmU l) (Si (Ks l) (Sf l (Sf B0 (Sf Z42 (true=false∧Xn l=[]∧List.length (Yr l)=(0:Nat))))))∧True) (((0:Int)≤(0:Int)∧(0:Int)≤Z36 l∧Z36 l≤Ln (Xn l))∧((0:Int)≤Z36 l∧Z36 l≤Ln (Xn l)∧Ln (Xn l)≤Ln (Xn l))∧∃(y:Unit),Sf (nmU l) (Si (Ks l) (Sf l (Sf B0 (Sf Z42 (Sf false (List.drop (Int.toNat (Z36 l)) (List.take (List.length (Xn l)) (Xn l))=[]∧List.take (Int.toNat (Z36 l)) (Xn l)=Yr l))))))∧True))∧∀(y:Unit),True→(2:Nat)≤(1000000:Nat)∧(Iw ((4:Int)*Ks l)∧((0:Int)≤(4:Int)*Ks l∧(4:Int)*Ks l≤Ln (Yr l)∧Ln (Yr l)≤Ln (Yr l))∧List.length (J0p l)≤(4:Nat)∧K5 (J0p l)∧Iw (Ln l-(4:Int))∧((0:Int)≤(0:Int)∧(0:Int)≤Ln l-(4:Int)∧Ln l-(4:Int)≤Ln l)∧List.length (Z66 l)≤(1000000:Nat)∧K5 (Z66 l))∧Br (nbS (J0p l) !=ckS (Z66 l)) (Sf true (Z51 l∧(27:Int)=(0:Int))) ((∃(y:Unit),Si (Ks l) (Sf B0 (Sf Z42 (Sf (nmU l) (Sf Z42 (Yr l=Yr l)))))∧True)∧∀(y:Unit),True→Iw ((4:Int)*Ks l)∧((0:Int)≤(0:Int)∧(0:Int)≤(4:Int)*Ks l∧(4:Int)*Ks l≤Ln (Yr l))∧∃(x:Nat),((0:Int)=(4:Int)*Nc x∧Si (4:Int) (List.take (Int.toNat ((4:Int)*Ks l)) (Yr l)=Ku l∧Sf false (Sf B0 (Sf Z42 (Sf (nmU l) (List.length (Jfc (Ku l) x)=(0:Nat)))))))∧Int.instLEInt.1 (Nc x) (Ks l)∧∀(x:Nat),Int.instLEInt.1 (Nc x) (Ks l)→Br (decide ((4:Int)*Nc x<Ln (Ku l))) (((0:Int)≤(4:Int)*Nc x∧(4:Int)*Nc x≤Ln (Ku l)∧Ln (Ku l)≤Ln (Ku l))∧T2 (Iw (Ju6 x l)) (((0:Int)≤(4:Int)*Nc x∧(4:Int)*Nc x≤Ju6 x l∧Ju6 x l≤Ju6 x l∧Ju6 x l≤Ln (Ku l))∧(List.length (Jzo x l)≤(4:Nat)∧K5 (Jzo x l))∧(List.length (Jfc (Ku l) x)+(1:Nat))*(4:Nat)≤(140737488355328:Nat)∧Iw ((4:Int)*Nc x+(4:Int))∧∃(y:Nat),((4:Int)*Nc x+(4:Int)=(4:Int)*Nc y∧Si (4:Int) (Sf (Ku l) ((bif false then true else J3e x l==(2147483648:Int))=false∧Sf B0 (Sf Z42 (Sf (nmU l) (Jfc (Ku l) x++[Int.toNat (J3e x l)]=Jfc (Ku l) y))))))∧Int.instLEInt.1 (Nc y) (Ks l)∧Int.toNat (Ks l)-y<Int.toNat (Ks l)-x)) ((ByteArray.size (nmU l)≤(1000000:Nat)∧List.length (Jfc (Ku l) x)≤(1000000:Nat)∧(∀(x_1:Nat),x_1∈Jfc (Ku l) x→okF x_1)∧(2:Nat)≤(1000000:Nat))∧Br (Ja [Fy (nmU l,Jfc (Ku l) x),(0:Int)] !=(0:Int)) (Sf true (Z51 l∧Ja [Fy (nmU l,Jfc (Ku l) x),(0:Int)]=(0:Int))) (Sf true ((nmU l,Jfc (Ku l) x)=(nmU l,Jvj l)∧(0:Int)=(0:Int))))))))=_).mp ?_
 delta Z5 Z36 Z42 Z51 Z66 Z70 Z78 Z98 J0z J6i Jg3 J0p J4o Ju6 Jzo J3e Br Iw T2 Sf Si Ln Nc B0 Lb
 rintro⟨nm,xs,hz,hx,he⟩
 have h:Jg0 l nm xs:=by rw[he];exact Jwa hz hx
 have hlen:=h.len
 have hs0:=h.pos
 have hs:=h.small
 have hm:=h.many
 have esz:=h.sz
 have emn:=h.mn
 have hT:∀{l:List Int},List.take l.length l=l:=List.take_length
 have tsz:(szS l).toNat=nm.size:=by rw[esz];rfl
 have tmn:(Ks l).toNat=xs.length:=by rw[emn];rfl
 have e7:(Xo l).length=6+nm.size+4*xs.length:=by unfold Xo;rw[List.length_drop];omega
 have e8:(V5 l).length=6+4*xs.length:=by unfold V5;rw[List.length_drop,tsz];omega
 have e9:(Xn l).length=4*xs.length+4:=by unfold Xn;rw[List.length_drop,tsz];omega
 have eR:(Yr l).length=4*xs.length+4:=by rw[Jdb h,List.length_append,Vq,Le]
 have eB:(Ku l).length=4*xs.length:=by rw[Jeh h,Vq]
 have bR:K5 (Yr l):=by rw[Jdb h];exact U8 (Y6 _) (Jbk _)
 have bB:K5 (Ku l):=by rw[Jeh h];exact Y6 _
 refine⟨by omega,fun q=>absurd q ?_,fun _=> ?_⟩
 ·rw[show decide ((400000:Int)<(l.length:Int))=false from decide_eq_false (by omega),show decide ((l.length:Int)<4)=false from decide_eq_false (by omega)];decide
 refine⟨⟨⟨by omega,by omega,by omega⟩,by rw[List.drop_zero,h.magic];decide⟩,fun q=>absurd q ?_,fun _=> ?_⟩
 ·rw[List.drop_zero,h.magic,Lib.toList_data,Lib.toList_data];decide
 refine⟨⟨by omega,by omega,by omega⟩,⟨fun q=>absurd q ?_,fun _=> ?_⟩,fun _ _=> ?_⟩
 ·simp only[cond_false,decide_eq_true_eq,hT,List.length_drop];omega
 ·have b4:K5 (List.drop 4 l):=Lp h.bytes 4
  rw[hT]
  refine⟨⟨by omega,by omega,by rw[List.length_drop];omega⟩,⟨by omega,by rw[List.length_drop];omega,by omega⟩,⟨by rw[List.length_take];omega,Y5 b4 1⟩,(),⟨rfl,rfl,rfl,rfl,rfl, ?_⟩,trivial⟩
  rw[hT,List.drop_drop];rfl
 refine⟨⟨fun q=>absurd q ?_,fun _=> ?_⟩,fun _ _=> ?_⟩
 ·simp only[cond_false,decide_eq_true_eq,e7,esz];omega
 ·rw[hT,List.drop_zero]
  refine⟨⟨by omega,by omega,by omega⟩,⟨by omega,by omega,by omega⟩,by rw[List.length_take,tsz];omega,(),⟨rfl,rfl,rfl,rfl,rfl,rfl, ?_⟩,trivial⟩
  unfold Xo V5
  rw[List.drop_drop]
 refine⟨⟨fun q=>absurd q ?_,fun _=> ?_⟩,fun _ _=> ?_⟩
 ·simp only[cond_false,decide_eq_true_eq,e8];omega
 ·rw[hT]
  refine⟨⟨by omega,by omega,by omega⟩,⟨by omega,by omega,by omega⟩,⟨by rw[List.length_take];omega,Y5 (Lp h.bytes _) 2⟩,(),⟨rfl,rfl,rfl,rfl,rfl,rfl, ?_⟩,trivial⟩
  unfold V5 Xn
  rw[List.drop_drop];congr 1;omega
 refine⟨⟨by omega,by omega,fun q=>absurd q ?_,fun _=> ?_⟩,fun _ _=> ?_⟩
 ·simp only[cond_false,decide_eq_true_eq,e9,emn];omega
 ·rw[hT]
  refine⟨⟨by omega,by omega,by omega⟩,⟨by omega,by omega,by omega⟩,(),⟨rfl,rfl,rfl,rfl,rfl,rfl, ?_, ?_⟩,trivial⟩
  ·exact List.drop_of_length_le (by rw[e9,emn];omega)
  ·unfold Yr
   rw[show(4*Ks l+4).toNat=4*(Ks l).toNat+4 by omega]
 have t4:(4*Ks l).toNat=4*xs.length:=by omega
 have tl:((l.length:Int)-4).toNat=7+nm.size+4*xs.length:=by omega
 rw[hT,t4,tl,h.all,Jv9 h]
 refine⟨by omega,⟨by omega,⟨by omega,by omega,by omega⟩,by rw[List.length_drop];omega,Lp bR _,by omega,⟨by omega,by omega,by omega⟩, ?_, ?_⟩,fun q=>absurd q (by simp),fun _=>⟨⟨(),⟨rfl,rfl,rfl,rfl,rfl,rfl⟩,trivial⟩,fun _ _=> ?_⟩⟩
 ·rw[←h.all,List.length_take];omega
 ·rw[←h.all];exact Y5 h.bytes _
 refine⟨by omega,⟨by omega,by omega,by omega⟩,(0:Nat),⟨by omega,rfl, ?_,rfl,rfl,rfl,rfl,rfl⟩,by show((0:Nat):Int)≤Ks l;omega,fun(k:Nat) hk=>⟨fun q=> ?_,fun q=> ?_⟩⟩
 ·unfold Ku;rw[tmn]
 ·have hk:(k:Int)≤Ks l:=hk
  have q:=of_decide_eq_true q
  have hlt:k<xs.length:=by omega
  have em:min (4:Int) ((List.drop (4*(k:Int)).toNat (List.take (Ku l).length (Ku l))).length:Int)=4:=by rw[hT,List.length_drop];omega
  have eb:List.drop (4*(k:Int)).toNat (List.take (4*(k:Int)+4).toNat (Ku l))=((Ku l).drop (4*k)).take 4:=by
   rw[show(4*(k:Int)).toNat=4*k by omega,show(4*(k:Int)+4).toNat=4*k+4 by omega,List.drop_take]
   congr 1;omega
  have rl:(Jfc (Ku l) k).length≤xs.length:=by rw[Jil h (by omega)];exact Jg6
  rw[em,eb]
  obtain⟨b1,b2⟩:=Jsu h hlt
  obtain⟨n,hn,hxn⟩:=h.ok _ (Jp (d:=0) hlt)
  have f:=fa hn
  have r1:=f.range
  have r2:=f.minus
  rw[←hxn] at r1 r2
  have ew:IntKind.u32.wrap (nbS (((Ku l).drop (4*k)).take 4))=((xs.getD k 0:Nat):Int):=by
   rw[b1]
   unfold IntKind.wrap
   simp only[IntKind.signed,IntKind.bits,Bool.false_and,Bool.false_eq_true,if_false]
   omega
  refine⟨⟨by omega,by omega,by omega⟩,by omega,by omega,⟨by omega,by omega,by omega,by omega⟩,⟨by rw[List.length_take];omega,Y5 (Lp bB _) 4⟩,by omega,by omega,(k+1:Nat),⟨by simp;omega,rfl,rfl, ?_,rfl,rfl,rfl,rfl⟩,by show((k+1:Nat):Int)≤Ks l;omega,by omega⟩
  rw[ew]
  show(((xs.getD k 0:Nat):Int)==2147483648)=false
  rw[beq_eq_false_iff_ne];omega
 ·have hk:(k:Int)≤Ks l:=hk
  have q:=of_decide_eq_false q
  have hle:xs.length=k:=by omega
  have er:Jfc (Ku l) k=xs:=by rw[Jil h (by omega),Jcz (by omega)]
  rw[er,h.name,Jmi h,hz]
  exact⟨⟨by omega,by omega,h.ok,by omega⟩,fun q=>(by cases q),fun _=>⟨rfl,rfl,rfl⟩⟩
abbrev W75:=W74.add J9w
set_option maxHeartbeats 20000000
set_option pp.deepTerms true
set_option pp.maxSteps 10000000
theorem wp8 (c:Cab):wpF Tryz.prog W75.g (Yl (Jsx 48 59 26 41 c)) Tryz.f8 J62 (c,()):=by
 refine(by kernel_rfl:(Z55 c→Z26 c→(0+List.length c.2.1)*8≤140737488355328∧∃(x:Nat),Si (Z1 c) (0=Nc x∧c.1=c.1∧Sf Z42 (Sf Z42 (Si 0 (Si 0 (c.2.1=c.2.1∧Si c.2.2.1 (Si c.2.2.2 (List.length (Z21 x c)=0)))))))∧Z37 x c∧∀(x:Nat),Z37 x c→Br (Z58 x c) (Tw (Z48 x c)∧(List.length (Z21 x c)+1)*16≤140737488355328∧Z2 x∧∃(y:Nat),Si (Z1 c) (Z29 x y∧c.1=c.1∧Sf Z42 (Sf Z42 (Si 0 (Si 0 (c.2.1=c.2.1∧Si c.2.2.1 (Si c.2.2.2 (Z21 x c++[E2 (Z75 c x)]=Z21 y c)))))))∧J0d y c x) ((Z21 x c,c.2.1,E2 c.2.2)=c))=_).mp ?_
 delta Z1 Z2 Z13 Z21 Z26 Z29 Z37 Z42 Z48 Z55 Z58 Z75 Jvb J0d Br Iw Bd Tw Sf Si Ln Nc E2
 intro h1 h2
 refine⟨by show(0+c.2.1.length)*8≤140737488355328;omega,(0:Nat),⟨rfl,rfl,rfl,rfl,rfl,rfl,rfl,rfl,rfl,rfl,by simp⟩,Nat.zero_le _,fun(k:Nat) hk=>⟨fun h=> ?_,fun h=> ?_⟩⟩
 ·have hlt:k<c.1.length:=by simpa using h
  have hl:(c.1.take k).length≤c.1.length:=by simp;omega
  exact⟨⟨by omega,by omega⟩,by omega,by omega,(k+1:Nat),⟨rfl,by simp,rfl,rfl,rfl,rfl,rfl,rfl,rfl,rfl,Kn (d:=(0,0)) hlt⟩,by omega,by omega⟩
 ·have hge:¬k<c.1.length:=by simpa using h
  rw[List.take_of_length_le (by omega)]
theorem ok8:Ok Tryz.prog 8 J62:=Jn mixed W75.ok (by kernel_rfl) (by kernel_rfl) (fun xx=>Yl (Jsx 48 59 26 41 xx.1)) fun xx=>wp8 xx.1
abbrev W76:=W75.add ok8
def Jyy:ByteArray:=⟨⟨[101,110,100]⟩⟩
def J6v:List Nat→Nat→Int
 |[],_=> -1
 |x::r,k=>if FloatKind.f32.format.order x 0=some .eq then J6v r (k+1) else k
def Jca (l:List Nat) (k:Nat):Int:=J6v (l.drop k) k
def hdL (c:Cab) (f:Flt) (e:ByteArray) (w:Int):List Nat:=rcA (K2 c f w) e f.2.2.1 (w+1).toNat
theorem Jrz {l:List Arr} {e:ByteArray} {t:Int}:∀{k:Nat},Uv l e t k=false→∀x∈rcA l e t k,okF x
 |0,_,x,hx=>by cases hx
 | k + 1, h, x, hx => by
  simp only[Uv,Bool.or_eq_false_iff] at h
  simp only[rcA,List.mem_append,List.mem_singleton] at hx
  rcases hx with hx|rfl
  ·exact Jrz h.1 x hx
  ·have h2:=h.2
   unfold largeS at h2
   simp only[Bool.or_eq_false_iff,decide_eq_false_iff_not] at h2
   exact⟨_,⟨by omega,by omega⟩,rfl⟩
theorem Jb4:∀{l:List Nat},(∀x∈l,okF x)→He l l=true
 |[],_=>rfl
 |x::l,h=>by
  obtain⟨n,_,rfl⟩:=h x (by simp)
  simp only[He,(Jc3 n).2,Bool.true_and]
  exact Jb4 fun y hy=>h y (by simp[hy])
theorem Jhk {l:List Nat} {k:Nat} (h:k<l.length):Jca l k=if FloatKind.f32.format.order (l.getD k 0) 0=some .eq then Jca l (k+1) else k:=by
 unfold Jca
 rw[V8 (d:=0) h];rfl
theorem Jwj {l:List Nat} {k:Nat} (h:l.length≤k):Jca l k= -1:=by unfold Jca;rw[List.drop_of_length_le h];rfl
theorem Jwx {c:Cab} {f:Flt} {e:ByteArray} {w:Int}:(hdL c f e w).length=(w+1).toNat:=Yi _ _ _ _
def Jsp:Con:={args:=[aCR,aF,aS,aI],ress:=[(false, .list 45 sFl),I,Bo],owns:=[],pre:=fun(c,f,e,w,_)=>[rcE c f e w=0,Uv (K2 c f w) e f.2.2.1 (w+1).toNat=false],spec:=fun(c,f,e,w,_)=>(hdL c f e w,Jca (hdL c f e w) 0,true,())}
abbrev Jx0 (c:Cab) (f:Flt) (e:ByteArray) (w:Int):Ann:={X:=Nat,σ:=fun k=>⟨2,[(15, .one (.ptr 1 0)),(80, .one (.sl 0)),(81, .one (.int .i64 (w+1))),(82, .one (.int .i64 k))],[(0, .imm 45 sFl (hdL c f e w)),(1, .box 66 [.str Jyy, .sl 0])]⟩,inv:=fun k=>(k:Int)≤w+1∧Jca (hdL c f e w) 0=Jca (hdL c f e w) k,mu:=fun k=>(w+1).toNat-k}
def Jva (a:Cab) (b:Flt) (c:Bt) (d:Int):=rcF (Z33 a) (Z35 b) c d
def J0m (a:Nat) (b:Int) (c:Cab) (d:Flt) (e:Bt):=Nc a≤b+1∧Jca (hdL c d e b) 0=Jca (hdL c d e b) a
def J4t (a:Cab) (b:Flt) (c:Bt) (d:Int):=(ByteArray.mk (Array.mk [101,110,100]),Jva a b c d)
def J4r (a:Cab) (b:Flt) (c:Bt) (d:Int):=Jpc (Z33 a) (Z35 b) c d !=0
def Jyd (a:Cab) (b:Flt) (c:Bt) (d:Int):=Jfq (J4t a b c d)
def Jvu (a:Cab) (b:Flt) (c:Bt) (d:Int):=Jvj (Jyd a b c d)
def Jyc (a:Cab):=Z53 a∧Z28 a∧Js3 a
def J4a (a:Cab) (b:Flt) (c:Bt) (d:Int):=Ln (Jvu a b c d)
def J36 (a:Cab) (b:Flt) (c:Bt) (d:Int):=List.length (Jvu a b c d)
def J3w (a:Cab) (b:Flt) (c:Bt) (d:Int):=J36 a b c d≤1000000
def J3f (a:Cab) (b:Flt) (c:Bt) (d:Int):=bif Fy (J4t a b c d) !=0 then true else false
def J2u (a:Cab) (b:Flt) (c:Bt) (d:Int):=bif J3f a b c d then true else J4a a b c d !=d+1
def J2m (a:Cab) (b:Flt) (c:Bt) (d:Int):=bif J2u a b c d then true else !He (Jvu a b c d) (Jva a b c d)
def J2l (a:Cab) (b:Flt) (c:Bt) (d:Int):=J2m a b c d=false
theorem wp6 (c:Cab) (f:Flt) (e:ByteArray) (w:Int):wpF Tryz.prog W76.g (Yl (Jx0 c f e w)) Tryz.f6 Jsp (c,f,e,w,()):=by
 refine(by kernel_rfl:(rcE c f e w=(0:Int)→Uv (K2 c f w) e f.2.2.1 (Int.toNat (w+(1:Int)))=false→Jyc c∧(J4r c f e w=false→Iw (w+(1:Int)))∧Br (bif J4r c f e w then true else Ln (Jva c f e w) !=w+(1:Int)) ([]=hdL c f e w∧(0:Int)=Jca (hdL c f e w) (0:Nat)∧false=true) ((((0:Nat)+List.length (Jva c f e w))*(4:Nat)≤(140737488355328:Nat)∧(3:Nat)≤(1000000:Nat)∧List.length (Jva c f e w)≤(1000000:Nat)∧∀(x:Nat),x∈Jva c f e w→okF x)∧(((0:Nat)+List.length (Jyd c f e w))*(1:Nat)≤(140737488355328:Nat)∧∃(nm:ByteArray),∃(xs:List Nat),Z5 nm xs∧Jg3 xs∧Jyd c f e w=Xy nm xs)∧((J3f c f e w=false→Iw (w+(1:Int)))∧(J2u c f e w=false→J3w c f e w)∧(J2l c f e w→J3w c f e w)∧(J2l c f e w→∀(x:Nat),x∈Jvu c f e w→okF x))∧Br (bif J2m c f e w then true else(bif decide ((1024:Nat)<J36 c f e w) then(5:Int) else(0:Int)) !=(0:Int)) ([]=hdL c f e w∧(0:Int)=Jca (hdL c f e w) (0:Nat)∧false=true) (∃(x:Nat),(J4a c f e w=w+(1:Int)∧(0:Int)=Nc x∧Jvu c f e w=hdL c f e w∧nmU (Jyd c f e w)=Jyy)∧J0m x w c f e∧∀(x:Nat),J0m x w c f e→Br (decide (Nc x<w+(1:Int))) (Tw (Bd (Nc x) (Ln (hdL c f e w)))∧Br (Ieee.Format.order (FloatKind.format FloatKind.f32) (List.getD (hdL c f e w) x (0:Nat)) (0:Nat) !=some Ordering.eq) (Sf (hdL c f e w) (Nc x=Jca (hdL c f e w) (0:Nat)∧true=true)) (Z2 x∧∃(y:Nat),Si (w+(1:Int)) (Z29 x y∧Sf (hdL c f e w) (Jyy=Jyy))∧J0m y w c f e∧Jv3 w y x)) (Sf (hdL c f e w) (Z16=Jca (hdL c f e w) (0:Nat)∧true=true)))))=_).mp ?_
 delta Z2 Z5 Z16 Z28 Z29 Z33 Z35 Z53 Z70 Jv3 Jg3 Js3 Jva J0m J4t J4r Jyd Jvu Jyc J4a J36 J3w J3f J2u J2m J2l Br Iw Bd Tw Sf Si Ln Nc E2
 intro hE hB
 obtain⟨hf,hw,b⟩:=Jdf hE
 have hl:=Jwx (c:=c) (f:=f) (e:=e) (w:=w)
 have hok:∀x∈hdL c f e w,okF x:=Jrz hB
 have eE:Jpc (c.1,c.2.1,c.2.2.1,c.2.2.2) (f.1,f.2.1,f.2.2.1,f.2.2.2) e w=0:=by
  show Jpc c f e w=0
  unfold Jpc Jde;rw[if_pos hE,hB];rfl
 have eF:rcF (c.1,c.2.1,c.2.2.1,c.2.2.2) (f.1,f.2.1,f.2.2.1,f.2.2.2) e w=hdL c f e w:=by
  show rcF c f e w=_
  unfold rcF rcG;rw[if_pos hE,hB];rfl
 have hz:Fy (({data:={toList:=[101,110,100]}}:ByteArray),hdL c f e w)=0:=by
  unfold Fy
  rw[show Lc ({data:={toList:=[101,110,100]}}:ByteArray)=true from by kernel_rfl,show decide ((1024:Int)<((hdL c f e w).length:Int))=false from decide_eq_false (by omega)];rfl
 have eP:Jfq (({data:={toList:=[101,110,100]}}:ByteArray),hdL c f e w)=Xy ⟨⟨[101,110,100]⟩⟩ (hdL c f e w):=if_pos hz
 have h:=Jwa hz hok
 have hsz:(⟨⟨[101,110,100]⟩⟩:ByteArray).size=3:=rfl
 have hpl:=h.len
 have l1:c.1.length≤1000000:=by have:=hf.1.2.1;omega
 have l2:c.2.1.length≤1000000:=by have:=hf.1.2.1;have:=hf.1.2.2.2.1;omega
 rw[eE,eF,eP,hz,Jmi h,h.name,Jb4 hok]
 have hn:((hdL c f e w).length:Int)=w+1:=by omega
 have e2:((((hdL c f e w).length:Int) !=w+1))=false:=by rw[hn];simp
 have e3:decide (1024<(hdL c f e w).length)=false:=decide_eq_false (by omega)
 rw[e2,e3]
 refine⟨⟨l1,l2,l1,l2⟩,fun _=>by omega,fun q=>absurd q (by decide),fun _=>⟨⟨by omega,by omega,by omega,hok⟩,⟨by omega,_,_,hz,hok,rfl⟩,⟨fun _=>by omega,fun _=>by omega,fun _=>by omega,fun _=>hok⟩,fun q=>absurd q (by decide),fun _=>⟨(0:Nat),⟨hn,rfl,rfl,rfl⟩,⟨by show((0:Nat):Int)≤w+1;omega,rfl⟩,fun(k:Nat) hk=>⟨fun q=> ?_,fun q=> ?_⟩⟩⟩⟩
 ·have q:=of_decide_eq_true q
  have hk1:(k:Int)≤w+1:=hk.1
  have hlt:k<(hdL c f e w).length:=by omega
  have hs:=Jhk hlt
  refine⟨⟨by omega,by omega⟩,fun q1=>⟨rfl, ?_,rfl⟩,fun q1=>⟨by omega,(k+1:Nat),⟨rfl,by simp,rfl,rfl⟩,⟨by show((k+1:Nat):Int)≤w+1;omega, ?_⟩,by omega⟩⟩
  ·rw[hk.2,hs,if_neg (bne_iff_ne.1 q1)]
  ·rw[hk.2,hs,if_pos (bne_eq_false_iff_eq.1 q1)]
 ·have q:=of_decide_eq_false q
  refine⟨rfl, ?_,rfl⟩
  rw[hk.2,Jwj (by omega)]
theorem ok6:Ok Tryz.prog 6 Jsp:=Jn mixed W76.ok (by kernel_rfl) (by kernel_rfl) (fun xx=>Yl (Jx0 xx.1 xx.2.1 xx.2.2.1 xx.2.2.2.1)) fun xx=>wp6 xx.1 xx.2.1 xx.2.2.1 xx.2.2.2.1
abbrev W77:=W76.add ok6
def jQ (l:List Int):Bool:=l.all fun r=>decide (r≤2)&&decide (-2≤r)
structure Qt (c:Cab) (f:Flt):Prop where
 V:Yj c f
 high:f.2.2.2≤-4∨4≤f.2.2.2
 joints:∀r∈c.2.1,-2≤r∧r≤2
 big:∀d,Uv (K2 c f 400) (Vd d) f.2.2.1 401=false
theorem Jd5 {e:ByteArray} {s:Int}:∀{l:List Int} {i j:Nat} {p:Int×Int},(∀r∈l,-2≤r∧r≤2)→p.2=8^j→6^j≤p.1→∃m,m≤j+l.length∧(Uw e s i l p).2=8^m∧6^m≤(Uw e s i l p).1
 |[],i,j,p,_,h1,h2=>⟨j,by simp,h1,h2⟩
 | r :: l, i, j, p, h, h1, h2 => by
  have hr:=h r (by simp)
  have hpos:(0:Int)<6^j:=Int.pow_pos (by decide)
  have step:∀x:Int,6≤x→p.2*8=8^(j+1)∧6^(j+1)≤p.1*x:=fun x hx=>by
   refine⟨by rw[h1,Int.pow_succ], ?_⟩
   rw[Int.pow_succ]
   exact Int.mul_le_mul h2 hx (by decide) (by omega)
  simp only[Uw,Vo]
  cases(bif isB e then decide (s≤(i:Int)) else false)
  ·cases(bif isA e then decide ((i:Int)<s) else false)
   ·simp only[cond_false]
    obtain⟨m,a1,a2⟩:=Jd5 (e:=e) (s:=s) (i:=i+1) (fun x hx=>h x (List.mem_cons_of_mem _ hx)) h1 h2
    exact⟨m,by rw[List.length_cons];omega,a2⟩
   ·simp only[cond_false,cond_true]
    obtain⟨b1,b2⟩:=step (8-r) (by omega)
    obtain⟨m,a1,a2⟩:=Jd5 (e:=e) (s:=s) (i:=i+1) (p:=(p.1*(8-r),p.2*8)) (fun x hx=>h x (List.mem_cons_of_mem _ hx)) b1 b2
    exact⟨m,by rw[List.length_cons];omega,a2⟩
  ·simp only[cond_true]
   obtain⟨b1,b2⟩:=step (8+r) (by omega)
   obtain⟨m,a1,a2⟩:=Jd5 (e:=e) (s:=s) (i:=i+1) (p:=(p.1*(8+r),p.2*8)) (fun x hx=>h x (List.mem_cons_of_mem _ hx)) b1 b2
   exact⟨m,by rw[List.length_cons];omega,a2⟩
theorem Jto {c:Cab} {e:ByteArray} {k:Nat} (hv:Y7 c) (hj:∀r∈c.2.1,-2≤r∧r≤2):62208≤Jpd c e k:=by
 have hl:c.2.1.length≤5:=by have:=hv.2.1;have:=hv.2.2.2.1;omega
 obtain⟨m,h1,h2,h3⟩:=Jd5 (e:=e) (s:=(k:Int)) (i:=0) (j:=0) (p:=(1,1)) hj rfl (by decide)
 have h2:(Jw c k e).2=8^m:=h2
 have h3:6^m≤(Jw c k e).1:=h3
 unfold Jpd
 rw[h2]
 have:m=0∨m=1∨m=2∨m=3∨m=4∨m=5:=by omega
 rcases this with rfl|rfl|rfl|rfl|rfl|rfl
 ·rw[show(262144:Int).tdiv (8^0)=262144 by decide];omega
 ·rw[show(262144:Int).tdiv (8^1)=32768 by decide];omega
 ·rw[show(262144:Int).tdiv (8^2)=4096 by decide];omega
 ·rw[show(262144:Int).tdiv (8^3)=512 by decide];omega
 ·rw[show(262144:Int).tdiv (8^4)=64 by decide];omega
 ·rw[show(262144:Int).tdiv (8^5)=8 by decide];omega
theorem Jsa {c:Cab} {f:Flt} (q:Qt c f) (d:Bool):htD c f d≤-248832∨248832≤htD c f d:=by
 rw[Jr9 q.V]
 have h1:=Jto (e:=Vd d) (k:=f.1.toNat) q.V.1 q.joints
 rcases q.high with h|h
 ·left
  have:=Int.mul_le_mul_of_nonneg_right h (show 0≤Jpd c (Vd d) f.1.toNat by omega)
  omega
 ·right
  have:=Int.mul_le_mul_of_nonneg_right h (show 0≤Jpd c (Vd d) f.1.toNat by omega)
  omega
theorem Jp5 {h:Int} (hh:h≤-248832∨248832≤h):Vk (16*h) 262144≠0:=by unfold Vk;omega
theorem Jc0 {e:ByteArray} {t:Int}:∀{l:List Arr} {n:Int},(∀a∈l,Jft e t a=false)→Vy e t l n=n
 |[],n,_=>rfl
 |a::l,n,h=>by
  simp only[Vy,h a (by simp),cond_false]
  exact Jc0 fun b hb=>h b (by simp[hb])
theorem Jew {e:ByteArray} {a:Arr}:∀{l:List Arr} {n:Int},Je1 l→Jk9 e l=some a→(∀t,t<a.1→Vy e t l n=n)∧Vy e a.1 l n=n+a.2.2
 |[],n,_,h=>by cases h
 | b :: l, n, hs, h => by
  have hs:=List.pairwise_cons.1 hs
  unfold Jk9 at h
  rw[List.find?_cons] at h
  by_cases hb:Jf0 e b=true
  ·rw [hb] at h
   obtain rfl:b=a:=Option.some.inj h
   have later:∀x∈l,∀t,t≤b.1→Jft e t x=false:=fun x hx t ht=>by
    unfold Jft
    cases hx':Jf0 e x
    ·rfl
    ·have e1:=Yy.1 hb
     have e2:=Yy.1 hx'
     have h1:b.1<x.1:=by
      rcases hs.1 x hx with h1|⟨_,h2⟩
      ·exact h1
      ·rw[e1,e2] at h2
       unfold bLt at h2;rw[Vb] at h2;cases h2
     simp only[cond_true,decide_eq_false_iff_not]
     omega
   refine⟨fun t ht=> ?_, ?_⟩
   ·have e0:Jft e t b=false:=by unfold Jft;rw[hb];simp only[cond_true,decide_eq_false_iff_not];omega
    simp only[Vy,e0,cond_false]
    exact Jc0 fun x hx=>later x hx t (by omega)
   ·have e0:Jft e b.1 b=true:=by unfold Jft;rw[hb];simp
    simp only[Vy,e0,cond_true]
    exact Jc0 fun x hx=>later x hx b.1 (by omega)
  ·have hb:Jf0 e b=false:=by simpa using hb
   rw[hb] at h
   have e0:∀t,Jft e t b=false:=fun t=>by unfold Jft;rw[hb];rfl
   obtain⟨h1,h2⟩:=Jew (e:=e) (a:=a) (l:=l) (n:=n) hs.2 h
   refine⟨fun t ht=> ?_, ?_⟩
   ·simp only[Vy,e0,cond_false];exact h1 t ht
   ·simp only[Vy,e0,cond_false];exact h2
theorem Jmq {l:List Arr} {e:ByteArray} {t:Int} {j:Nat}:∀{k:Nat},j<k→(rcA l e t k).getD j 0=Yc (rcS l e (t+j))
 |0,h=>by omega
 | k + 1, h => by
  simp only[rcA]
  by_cases hj:j<k
  ·rw[List.getD_eq_getElem?_getD,List.getElem?_append_left (by rw[Yi];exact hj),←List.getD_eq_getElem?_getD]
   exact Jmq hj
  ·have e:j=k:=by omega
   subst e
   rw[List.getD_eq_getElem?_getD,List.getElem?_append_right (by rw[Yi];exact Nat.le_refl _),Yi,Nat.sub_self];rfl
theorem Jsv {l:List Arr} {e:ByteArray} {t:Int} {j:Nat}:∀{k:Nat},Uv l e t k=false→j<k→-16384≤rcS l e (t+j)∧rcS l e (t+j)≤16384
 |0,_,h=>by omega
 | k + 1, hb, h => by
  simp only[Uv,Bool.or_eq_false_iff] at hb
  by_cases hj:j<k
  ·exact Jsv hb.1 hj
  ·have e:j=k:=by omega
   subst e
   have h2:=hb.2
   unfold largeS at h2
   simp only[Bool.or_eq_false_iff,decide_eq_false_iff_not] at h2
   omega
theorem Jiv {l:List Nat} {i:Nat} (h:i<l.length) (h0:∀j,j<i→FloatKind.f32.format.order (l.getD j 0) 0=some .eq) (h1:FloatKind.f32.format.order (l.getD i 0) 0≠some .eq):∀m,m≤i→Jca l (i-m)=i
 |0,_=>by rw[Nat.sub_zero,Jhk h,if_neg h1]
 |m+1,hm=>by
  rw[Jhk (by omega),if_pos (h0 _ (by omega)),show i-(m+1)+1=i-m by omega]
  exact Jiv h h0 h1 m (by omega)
theorem Jnk {c:Cab} {f:Flt} (q:Qt c f) (d:Bool):(1≤tkD c f d-f.2.2.1∧tkD c f d-f.2.2.1≤384)∧Jca (hdL c f (Vd d) 400) 0=tkD c f d-f.2.2.1∧okF ((hdL c f (Vd d) 400).getD (tkD c f d-f.2.2.1).toNat 0)∧Jl9 ((hdL c f (Vd d) 400).getD (tkD c f d-f.2.2.1).toNat 0)=Vk (16*htD c f d) 262144:=by
 have hb:=Xt (d:=d) q.V
 have hl:=Jsa q d
 have hne:htD c f d≠0:=by omega
 have hf:=Jq1 (d:=d) (win:=400) q.V (by decide)
 rw[if_neg hne] at hf
 obtain⟨s1,s2⟩:=Jew (n:=0) (Jbl (win:=400) q.V) hf
 have s2:Vy (Vd d) (tkD c f d) (K2 c f 400) 0=0+htD c f d:=s2
 have s1:∀t,t<tkD c f d→Vy (Vd d) t (K2 c f 400) 0=0:=s1
 have rd:=Jp5 hl
 obtain⟨i,hi⟩:∃i:Nat,tkD c f d-f.2.2.1=i:=⟨(tkD c f d-f.2.2.1).toNat,by omega⟩
 have hg:∀j,j<401→(hdL c f (Vd d) 400).getD j 0=Yc (rcS (K2 c f 400) (Vd d) (f.2.2.1+j)):=fun j hj=>Jmq hj
 have e0:∀j,j<i→rcS (K2 c f 400) (Vd d) (f.2.2.1+j)=0:=fun j hj=>by
  unfold rcS Zl
  rw[s1 _ (by omega)];decide
 have e1:rcS (K2 c f 400) (Vd d) (f.2.2.1+i)=Vk (16*htD c f d) 262144:=by
  unfold rcS Zl
  rw[show f.2.2.1+(i:Int)=tkD c f d by omega,s2,Int.zero_add]
 have hi401:i<401:=by omega
 have bd:=Jsv (q.big d) hi401
 rw[e1] at bd
 have gi:=hg i hi401
 rw[e1] at gi
 have hlen:(hdL c f (Vd d) 400).length=401:=Yi _ _ _ _
 refine⟨by omega, ?_, ?_, ?_⟩
 ·have:=Jiv (l:=hdL c f (Vd d) 400) (i:=i) (by omega) (fun j hj=>by rw[hg j (by omega),e0 j hj];exact Jnw.zero.2 rfl) (by rw[gi];exact fun x=>rd ((fa bd).zero.1 x)) i (Nat.le_refl _)
  rw[Nat.sub_self] at this
  rw[this,hi]
 ·rw[hi]
  show okF ((hdL c f (Vd d) 400).getD i 0)
  rw[gi];exact⟨_,bd,rfl⟩
 ·rw[hi]
  show Jl9 ((hdL c f (Vd d) 400).getD i 0)=_
  rw[gi,Jtf bd]
theorem Jjs {c:Cab} {f:Flt} (q:Qt c f) (d:Bool):Dl c f (Vd d)=0∧Jlb c f (Vd d)=(tkD c f d,htD c f d):=by
 have hl:=Jsa q d
 have z2:Jpf c f (Vd d)=0:=by unfold Jpf;simp[Ja,Jgd q.V,Jjq]
 have hp:¬(Jw c f.1 (Vd d)).1=0:=by
  rw[Ja8 q.V]
  exact fun x=>absurd ((Jja q.V).2 x) (by omega)
 refine⟨?_, ?_⟩
 ·unfold Dl Jnx;rw[if_pos z2,if_neg hp]
 ·unfold Jlb Jw1;rw[if_pos z2,if_neg hp,Jv8 q.V,Jqw q.V]
def f0 (f:Flt):Flt:=(f.1,f.2.1,0,f.2.2.2)
theorem J1t {c:Cab} {f:Flt} (h:Yj c f):Yj c (f0 f):=⟨h.1,h.2.1,h.2.2.1,⟨Int.le_refl 0,show(0:Int)≤100000 by decide⟩,h.2.2.2.2⟩
theorem Jcx {c:Cab} {f:Flt} (h:Yj c f) (d:Bool):tkD c (f0 f) d=tkD c f d-f.2.2.1:=by
 obtain⟨a1,a2,_⟩:=Jvl h
 obtain⟨b1,b2,_⟩:=Jvl (J1t h)
 have e:Jd c (f0 f)=Jd c f:=rfl
 have e2:(f0 f).2.2.1=0:=rfl
 rw[e,e2] at b1 b2
 cases d
 ·omega
 ·omega
theorem Juh {c:Cab} {f:Flt} (h:Yj c f) {i k:Int} (hi:i=tkD c f false-f.2.2.1) (hk:k=tkD c f true-f.2.2.1):Jk1 c (i,i) (k,k)=0∧Ji1 c (i,i) (k,k)=rr (J8 c (Jd c f)) (J8 c (Jd c f)):=by
 have:=Jt0 (J1t h)
 rw[Jcx h,Jcx h] at this
 rw[hi,hk]
 exact this
theorem Jv7 {c:Cab} {f:Flt} (h:Yj c f) {a b:Int×Int} (ha:0≤a.1∧a.1≤tkD c f false-f.2.2.1∧tkD c f false-f.2.2.1≤a.2∧a.2≤999999999) (hb:0≤b.1∧b.1≤tkD c f true-f.2.2.1∧tkD c f true-f.2.2.1≤b.2∧b.2≤999999999):Jk1 c a b=0∧J1e (Ji1 c a b) (J8 c (Jd c f)):=
 Jtz (J1t h) (by rw[Jcx h];exact ha) (by rw[Jcx h];exact hb)
def Jxa:Con:={args:=[],ress:=[Bo],owns:=[],pre:=fun _=>[],spec:=fun _=>(true,())}
def Z61:=1≤1000000∧0≤1000000
def J6a:=[0,0,1090519040,1090519040,1090519040,1090519040,1082130432,1082130432]
theorem wp4:wpF Tryz.prog W77.g (na ()) Tryz.f4 Jxa ():=by
 refine(by kernel_rfl:(T2 Z61 (Br false (false=true) ((1≤1000000∧8≤1000000∧∀(x:Nat),x∈J6a→okF x)∧(∃(nm:ByteArray),∃(xs:List Nat),Z5 nm xs∧Jg3 xs∧Jfq (ByteArray.mk (Array.mk [97]),J6a)=Xy nm xs)∧Z61∧Tw (true=true→8≤1000000)∧true=true)))=_).mp ?_
 delta Z5 Z61 Z70 Jg3 J6a Br T2 Tw
 have o0:okF 0:=⟨0,by omega,by kernel_rfl⟩
 have o8:okF 1090519040:=⟨128,by omega,by kernel_rfl⟩
 have o4:okF 1082130432:=⟨64,by omega,by kernel_rfl⟩
 have ok:∀x:Nat,x∈([0,0,1090519040,1090519040,1090519040,1090519040,1082130432,1082130432]:List Nat)→okF x:=fun x hx=>by
  simp only[List.mem_cons,List.not_mem_nil,or_false] at hx
  rcases hx with rfl|rfl|rfl|rfl|rfl|rfl|rfl|rfl<;>assumption
 have hz:Fy ((⟨⟨[97]⟩⟩:ByteArray),[0,0,1090519040,1090519040,1090519040,1090519040,1082130432,1082130432])=0:=by kernel_rfl
 exact⟨⟨by omega,by omega⟩,⟨by omega,by omega⟩,fun q=>(by cases q),fun _=>⟨⟨by omega,by omega,ok⟩,⟨_,_,hz,ok,if_pos hz⟩,⟨by omega,by omega⟩,⟨fun _=>by omega,fun _=>by omega⟩,rfl⟩⟩
theorem ok4:Ok Tryz.prog 4 Jxa:=Jn mixed W77.ok (by kernel_rfl) (by kernel_rfl) na fun xx=>wp4
abbrev W78:=W77.add ok4
def Un (c:Cab) (f:Flt):Bool:=Vj c&&((Ym c f==0)&&(decide (f.2.2.2≤64)&&(decide (-64≤f.2.2.2)&&(jQ c.2.1&&((Jde (K2 c f 400) sA f.2.2.1 400==0)&&(Jde (K2 c f 400) sB f.2.2.1 400==0))))))
theorem Jp9 {c:Cab} {f:Flt} (q:(bif bif bif !Vj c then true else Ym c f !=0 then true else decide (64<f.2.2.2) then true else decide (f.2.2.2< -64))=true):false=Un c f:=by
 have e1:decide (64<f.2.2.2)= !decide (f.2.2.2≤64):=by rw[Bool.eq_iff_iff];simp
 have e2:decide (f.2.2.2< -64)= !decide (-64≤f.2.2.2):=by rw[Bool.eq_iff_iff];simp
 rw[e1,e2] at q
 unfold bne at q
 unfold Un
 revert q
 cases Vj c<;>cases(Ym c f==0)<;>cases decide (f.2.2.2≤64)<;>cases decide (-64≤f.2.2.2)<;>simp
theorem Jms {c:Cab} {f:Flt} (q:(bif bif bif !Vj c then true else Ym c f !=0 then true else decide (64<f.2.2.2) then true else decide (f.2.2.2< -64))=false):Vj c=true∧Ym c f=0∧f.2.2.2≤64∧-64≤f.2.2.2:=by
 have e1:decide (64<f.2.2.2)= !decide (f.2.2.2≤64):=by rw[Bool.eq_iff_iff];simp
 have e2:decide (f.2.2.2< -64)= !decide (-64≤f.2.2.2):=by rw[Bool.eq_iff_iff];simp
 rw[e1,e2] at q
 unfold bne at q
 rw[←beq_iff_eq (a:=Ym c f),←decide_eq_true_iff (p:=f.2.2.2≤64),←decide_eq_true_iff (p:= -64≤f.2.2.2)]
 revert q
 cases Vj c<;>cases(Ym c f==0)<;>cases decide (f.2.2.2≤64)<;>cases decide (-64≤f.2.2.2)<;>simp
theorem Jt6 {l:List Int} {k:Nat} (h:k<l.length):jQ (l.drop k)=((decide (l.getD k 0≤2)&&decide (-2≤l.getD k 0))&&jQ (l.drop (k+1))):=by
 rw[V8 (d:=0) h];rfl
theorem Jr4 (r:Int):(bif decide (2<r) then true else decide (r< -2))= !(decide (r≤2)&&decide (-2≤r)):=by
 have e1:decide (2<r)= !decide (r≤2):=by rw[Bool.eq_iff_iff];simp
 have e2:decide (r< -2)= !decide (-2≤r):=by rw[Bool.eq_iff_iff];simp
 rw[e1,e2]
 cases decide (r≤2)<;>cases decide (-2≤r)<;>rfl
theorem Jc4 {c:Cab} (h:Vj c=true):c.1.length≤7∧c.2.1.length≤8:=by
 unfold Vj at h
 simpa using h
def Jsm:Con:={args:=[aCR,aF],ress:=[Bo],owns:=[],pre:=fun(c,f,_)=>[c.2.1.length≤9223372036854775807],spec:=fun(c,f,_)=>(Un c f,())}
abbrev J67 (c:Cab) (f:Flt):Ann:={X:=Nat,σ:=fun k=>⟨4,[(2, .one (.ptr 2 0)),(3, .one (.ptr 3 0)),(31, .one (.sl 1)),(32, .one (.int .i64 c.2.1.length)),(33, .one (.int .i64 k))],[(0, .imm 48 sPt c.1),(1, .imm 3 sI c.2.1),(2, .box 26 [.sl 0, .sl 1, .int .i64 c.2.2.1, .int .i64 c.2.2.2]),(3, .box 28 [.int .i64 f.1, .int .i64 f.2.1, .int .i64 f.2.2.1, .int .i64 f.2.2.2])]⟩,inv:=fun k=>k≤c.2.1.length∧Vj c=true∧Ym c f=0∧(f.2.2.2≤64∧-64≤f.2.2.2)∧jQ c.2.1=jQ (c.2.1.drop k),mu:=fun k=>c.2.1.length-k}
def Z74 (a:Cab):= !Vj (Z33 a)
def Jvx (a:Cab) (b:Flt):=K2 (Z33 a) (Z35 b) 400
def J5j (a:Cab) (b:Flt):=a.1=a.1∧a.2.1=a.2.1∧Si a.2.2.1 (Si a.2.2.2 (Si b.1 (Si b.2.1 (Si b.2.2.1 (b.2.2.2=b.2.2.2)))))
def Jzz (a:Cab) (b:Flt):=rcE (Z33 a) (Z35 b) Z50 (400:Int)=0
def Jzy (a:Cab) (b:Flt):=rcE (Z33 a) (Z35 b) Z49 (400:Int)=0
def Jzq (a:Nat) (b:Cab) (c:Flt):=a≤List.length b.2.1∧Vj b=true∧Ym b c=0∧(c.2.2.2≤64∧(-64)≤c.2.2.2)∧jQ b.2.1=jQ (List.drop a b.2.1)
theorem wp5 (c:Cab) (f:Flt):wpF Tryz.prog W78.g (Yl (J67 c f)) Tryz.f5 Jsm (c,f,()):=by
 refine(by kernel_rfl:(List.length c.2.1≤9223372036854775807→((Z74 c=false→Z53 c)∧(Z74 c=false→Z28 c))∧Br (bif bif bif Z74 c then true else Js4 c f !=0 then true else decide (64<f.2.2.2) then true else decide (f.2.2.2<(-64))) (false=Un c f) (∃(x:Nat),Si (Ln c.2.1) (0=Nc x∧J5j c f)∧Jzq x c f∧∀(x:Nat),Jzq x c f→Br (decide (Nc x<Ln c.2.1)) (Tw (Bd (Nc x) (Ln c.2.1))∧Br (bif decide (2<List.getD c.2.1 x 0) then true else decide (List.getD c.2.1 x (0:Int)<(-2))) (false=Un c f) (Z2 x∧∃(y:Nat),Si (Ln c.2.1) (Z29 x y∧J5j c f)∧Jzq y c f∧List.length c.2.1-y<List.length c.2.1-x)) (Jzy c f∧Jzz c f∧(bif Jde (Jvx c f) Z49 f.2.2.1 (400:Int)==0 then Jde (Jvx c f) Z50 f.2.2.1 (400:Int)==0 else false)=Un c f)))=_).mp ?_
 delta Z2 Z28 Z29 Z33 Z35 Z49 Z50 Z53 Z74 Js4 Jvx J5j Jzz Jzy Jzq Br Iw Bd Tw Si Ln Nc E2
 intro hl
 refine⟨⟨fun q=> ?_,fun q=> ?_⟩,fun q=>Jp9 q,fun q=> ?_⟩
 ·have q:(!Vj c)=false:=q
  exact Nat.le_trans (Jc4 (c:=c) (by simpa using q)).1 (by decide)
 ·have q:(!Vj c)=false:=q
  exact Nat.le_trans (Jc4 (c:=c) (by simpa using q)).2 (by decide)
 obtain⟨q1,q2,q3,q4⟩:=Jms q
 refine⟨(0:Nat),⟨rfl,rfl,rfl,rfl,rfl,rfl,rfl,rfl,rfl,rfl⟩,⟨Nat.zero_le _,q1,q2,⟨q3,q4⟩,rfl⟩,fun(k:Nat) hk=>⟨fun h=> ?_,fun h=> ?_⟩⟩
 ·have hlt:k<c.2.1.length:=by simpa using h
  have hs:=Jt6 hlt
  have h8:=(Jc4 q1).2
  have hk5:jQ c.2.1=jQ (c.2.1.drop k):=hk.2.2.2.2
  refine⟨⟨by omega,by omega⟩,fun h1=> ?_,fun h1=>⟨by omega,(k+1:Nat),⟨rfl,by simp,rfl,rfl,rfl,rfl,rfl,rfl,rfl,rfl⟩,⟨by omega,q1,q2,⟨q3,q4⟩, ?_⟩,by omega⟩⟩
  ·rw[Jr4] at h1
   have h2:(decide (c.2.1.getD k 0≤2)&&decide (-2≤c.2.1.getD k 0))=false:=by revert h1;generalize(decide (c.2.1.getD k 0≤2)&&decide (-2≤c.2.1.getD k 0))=b;cases b<;>simp
   unfold Un
   rw[hk5,hs,h2]
   simp
  ·rw[Jr4] at h1
   have h2:(decide (c.2.1.getD k 0≤2)&&decide (-2≤c.2.1.getD k 0))=true:=by revert h1;generalize(decide (c.2.1.getD k 0≤2)&&decide (-2≤c.2.1.getD k 0))=b;cases b<;>simp
   rw[hk5,hs,h2,Bool.true_and]
 ·have hlt:¬k<c.2.1.length:=by simpa using h
  have hk5:jQ c.2.1=jQ (c.2.1.drop k):=hk.2.2.2.2
  rw[List.drop_of_length_le (by omega)] at hk5
  have hk5:jQ c.2.1=true:=hk5
  refine⟨?_, ?_, ?_⟩
  ·show Ja [Ym c f,_,_]=0
   rw[q2];kernel_rfl
  ·show Ja [Ym c f,_,_]=0
   rw[q2];kernel_rfl
  ·show(bif Jde (K2 c f 400) sA f.2.2.1 400==0 then Jde (K2 c f 400) sB f.2.2.1 400==0 else false)=Un c f
   unfold Un
   rw[q1,q2,hk5,decide_eq_true q3,decide_eq_true q4]
   cases(Jde (K2 c f 400) sA f.2.2.1 400==0)<;>rfl
theorem ok5:Ok Tryz.prog 5 Jsm:=Jn mixed W78.ok (by kernel_rfl) (by kernel_rfl) (fun xx=>Yl (J67 xx.1 xx.2.1)) fun xx=>wp5 xx.1 xx.2.1
abbrev W79:=W78.add ok5
theorem Jqa {c:Cab} {f:Flt} (h:Un c f=true) (hh:f.2.2.2≤-4∨4≤f.2.2.2):Qt c f:=by
 unfold Un at h
 simp only[Bool.and_eq_true,beq_iff_eq,decide_eq_true_eq] at h
 obtain⟨h1,h2,h3,h4,h5,h6,h7⟩:=h
 have big:∀e,Jde (K2 c f 400) e f.2.2.1 400=0→Uv (K2 c f 400) e f.2.2.1 401=false:=fun e he=>by
  unfold Jde at he
  cases hb:Uv (K2 c f 400) e f.2.2.1 401
  ·rfl
  ·rw[show((400:Int)+1).toNat=401 from rfl,hb,if_pos rfl] at he
   cases he
 refine⟨(Lk h2).2,hh,fun r hr=> ?_,fun d=> ?_⟩
 ·have:=List.all_eq_true.1 h5 r hr
  simp only[Bool.and_eq_true,decide_eq_true_eq] at this
  omega
 ·cases d
  ·exact big _ h6
  ·exact big _ h7
theorem Jip {c:Cab} {f:Flt} (q:Qt c f) (d:Bool):rcE c f (Vd d) 400=0:=by
 unfold rcE
 rw[Jgd q.V,Jjq];rfl
end Go.Proofs.YtkhdpgadionfnaaGreat

/- A symbolic executor over the model and its soundness: part of the proof. -/
import Derived.WalkKit
import Derived.Below
import Derived.Lib.LaidTab
import Derived.Lib.ItoaNum
import Derived.Lib.AppendStr
import Derived.Laws.OwnMore
set_option linter.unusedSimpArgs false
set_option linter.unusedVariables false
namespace Go.Sx
open Go.RowKit
inductive Sch where
 |int (k:IntKind)
 |bool
 |str
 |flt (k:FloatKind)
 |fnc
 |prod (a b:Sch)
 |list (T:TypeId) (s:Sch)
deriving DecidableEq
@[reducible] def Sch.T:Sch→Type
 | .int _=>Int
 | .bool=>Bool
 | .str=>ByteArray
 | .flt _=>Nat
 | .fnc=>Option Nat
 | .prod a b=>a.T×b.T
 | .list _ s=>List s.T
def Sch.size:Sch→Nat
 | .prod a b=>a.size+b.size
 |_=>1
def Sch.hasList:Sch→Bool
 | .prod a b=>a.hasList||b.hasList
 | .list _ _=>true
 | .fnc=>true
 |_=>false
def Sch.dflt:(s:Sch)→s.T
 | .int _=>(0:Int)
 | .bool=>false
 | .str=>ByteArray.empty
 | .flt _=>(0:Nat)
 | .fnc=>(none:Option Nat)
 | .prod a b=>(a.dflt,b.dflt)
 | .list _ _=>[]
inductive SC where
 |int (k:IntKind) (n:Int)
 |bool (b:Bool)
 |str (s:ByteArray)
 |flt (k:FloatKind) (b:Nat)
 |ptr (i off:Nat)
 |elt (i sz:Nat) (idx:Int) (off:Nat)
 |sl (i:Nat)
 |fv (i:Nat)
 |lst (T:TypeId) (s:Sch) (xs:List s.T)
 |val (v:Value)
 |fn (f:FuncId)
 |fno (x:Option Nat)
inductive SV where
 |v (g:Bool) (cs:List SC)
 |tup (vs:List (Bool×List SC))
@[reducible] def SV.one (c:SC):SV:= .v false [c]
abbrev Env:=Nat→Value
def Y5:Option Nat→Value
 |some f=> .func (.func f) #[] #[]
 |none=> .nilFunc
def SC.den (ρ:Env):SC→Value
 | .int k n=> .int k n
 | .bool b=> .bool b
 | .str s=> .string s
 | .flt k b=> .float k b
 | .ptr i off=>match ρ i with
  | .pointer (some a)=> .pointer (some ⟨a.block,a.off+off,none⟩)
  |_=> .pointer (some ⟨0,off,none⟩)
 | .elt i sz idx off=>match ρ i with
  | .slice (some a) _ _=> .pointer (some ⟨a.block,a.off+(idx.toNat*sz+off),none⟩)
  |_=> .pointer (some ⟨0,idx.toNat*sz+off,none⟩)
 | .sl i=>ρ i
 | .fv i=>ρ i
 | .lst _ _ _=>undef
 | .val v=>v
 | .fn f=> .func (.func f) #[] #[]
 | .fno x=>Y5 x
def valOf:Bool→List Value→Value
 |true,cs=> .agg cs.toArray
 |false,[c]=>c
 |false,_=>undef
def Jvm (ρ:Env) (p:Bool×List SC):Value:=valOf p.1 (p.2.map (SC.den ρ))
def SV.den (ρ:Env):SV→Value
 | .v g cs=>valOf g (cs.map (SC.den ρ))
 | .tup vs=> .tuple (vs.map (Jvm ρ)).toArray
@[reducible] def Tup:List (Bool×Sch)→Type
 |[]=>Unit
 |p::r=>p.2.T×Tup r
inductive YS where
 |ready
 |busy
 |done (e:Option Nat)
deriving DecidableEq
inductive Res where
 |box (T:TypeId) (cs:List SC)
 |imm (T:TypeId) (s:Sch) (xs:List s.T)
 |own (T:TypeId) (s:Sch) (xs:List s.T)
 |clo (f:FuncId) (first caps:List SV)
 |rbox (T:TypeId) (s:Sch) (x:s.T)
 |afn (ps:List (Bool×Sch)) (r:Bool×Sch) (pre:Tup ps→List Prop) (h:Tup ps→r.2.T)
 |map (ks:List Int)
 |iter (j:Nat) (ks:List Int) (seen:List Nat)
 |fbox (T:TypeId) (cs:List SC)
 |ownT (T:TypeId) (s:Sch) (xs:List s.T)
 |mp (kT:TypeId) (gk gv:Bool) (ks vs:Sch) (l:List (ks.T×vs.T))
 |mpi (j:Nat) (kT:TypeId) (gk gv:Bool) (ks vs:Sch) (l:List (ks.T×vs.T)) (seen:List Nat)
 |sus (l:List (Nat×SV))
 |yld (s:YS)
 |ifc (b:Bool)
 |siter (s:ByteArray) (pos:Nat)
 |lit (T:TypeId) (xs:List Int)
 |ifb (T:TypeId) (v:SV)
def SC.ids:SC→List Nat
 | .ptr i _=>[i]
 | .elt i _ _ _=>[i]
 | .sl i=>[i]
 | .fv i=>[i]
 |_=>[]
def J1 (cs:List SC):List Nat:=cs.flatMap SC.ids
def SV.ids:SV→List Nat
 | .v _ cs=>J1 cs
 | .tup vs=>vs.flatMap fun p=>J1 p.2
def Res.ids:Res→List Nat
 | .box _ cs=>J1 cs
 | .fbox _ cs=>J1 cs
 | .mpi j _ _ _ _ _ _ _=>[j]
 | .clo _ first caps=>first.flatMap SV.ids++caps.flatMap SV.ids
 | .iter j _ _=>[j]
 | .sus l=>l.flatMap fun p=>p.2.ids
 | .ifb _ v=>v.ids
 |_=>[]
def Res.owning:Res→Bool
 | .box _ _=>true
 | .own _ _ _=>true
 | .map _=>true
 | .iter _ _ _=>true
 | .mp _ _ _ _ _ _=>true
 | .ownT _ _ _=>true
 | .mpi _ _ _ _ _ _ _ _=>true
 | .yld _=>true
 | .siter _ _=>true
 | .lit _ _=>true
 |_=>false
def Res.spec:Res→Bool
 | .sus _=>true
 | .yld _=>true
 |_=>false
def Kz {α:Type} (R:α→List Value→Prop):List α→List Value→Prop
 |[],cs=>cs=[]
 |x::xs,cs=>∃c1 c2,cs=c1++c2∧R x c1∧Kz R xs c2
def Jpd (M:Nat→Prop) (w:World) (n:Nat) (v:Value) (flat:List Value):Prop:=
 ((v= .slice none 0 0∨∃ad cap,v= .slice (some ad) 0 cap)∧n=0)∨
 ∃b off cap,v= .slice (some ⟨b,off,none⟩) n cap∧n≤cap∧
  (∀k u,flat[k]? =some u→w.cell? ⟨b,off+k,none⟩=some u)∧(flat≠[]→M b)
def Jvn:List SC→Option (Option Nat)
 |[.fn f]=>some (some f)
 |[.val .nilFunc]=>some none
 |[.fno x]=>some x
 |_=>none
def Rep (M:Nat→Prop) (w:World):(s:Sch)→s.T→List Value→Prop
 | .int k,n,cs=>cs=[.int k n]
 | .bool,b,cs=>cs=[.bool b]
 | .str,s,cs=>cs=[.string s]
 | .flt k,b,cs=>cs=[.float k b]
 | .fnc,x,cs=>cs=[Y5 x]
 | .prod a b,x,cs=>∃c1 c2,cs=c1++c2∧Rep M w a x.1 c1∧Rep M w b x.2 c2
 | .list _ s,xs,cs=>∃v flat,cs=[v]∧Kz (Rep M w s) xs flat∧Jpd M w xs.length v flat
def enc:(s:Sch)→s.T→List SC
 | .int k,n=>[.int k n]
 | .bool,b=>[.bool b]
 | .str,s=>[.str s]
 | .flt k,b=>[.flt k b]
 | .fnc,x=>[.fno x]
 | .prod a b,x=>enc a x.1++enc b x.2
 | .list T s,xs=>[.lst T s xs]
def Ka:List SC→Nat→List SC×List Res
 |[],_=>([],[])
 | .lst T s xs::r,n=>((.sl n)::(Ka r (n+1)).1, .imm T s xs::(Ka r (n+1)).2)
 |c::r,n=>(c::(Ka r n).1,(Ka r n).2)
def Y9 {s s':Sch} (h:s'=s) (xs:List s'.T):List s.T:=h▸xs
def Jgd (k:IntKind):List SC→Option Int
 |[.int k' n]=>if k=k' then some n else none
 |_=>none
def Jbf:List SC→Option Bool
 |[.bool b]=>some b
 |_=>none
def Jgc:List SC→Option ByteArray
 |[.str s]=>some s
 |_=>none
def Jge (k:FloatKind):List SC→Option Nat
 |[.flt k' n]=>if k=k' then some n else none
 |_=>none
def Zw (s:Sch):Option Res→Option (List s.T)
 |some (.imm _ s' xs)=>if h:s'=s then some (Y9 h xs) else none
 |some (.own _ s' xs)=>if h:s'=s then some (Y9 h xs) else none
 |_=>none
def Yh (rs:Nat→Option Res) (s:Sch):List SC→Option (List s.T)
 |[.sl i]=>Zw s (rs i)
 |[.val (.slice none 0 0)]=>some []
 |_=>none
def dec (rs:Nat→Option Res):(s:Sch)→List SC→Option s.T
 | .int k,cs=>Jgd k cs
 | .bool,cs=>Jbf cs
 | .str,cs=>Jgc cs
 | .flt k,cs=>Jge k cs
 | .fnc,cs=>Jvn cs
 | .prod a b,cs=>match dec rs a (cs.take a.size),dec rs b (cs.drop a.size) with
  |some x,some y=>some (x,y)
  |_,_=>none
 | .list _ s,cs=>Yh rs s cs
end Go.Sx
namespace Go.Sx
open Go.RowKit
inductive AK where
 |val (g:Bool) (s:Sch)
 |ref (T:TypeId) (s:Sch)
 |fn (ps:List (Bool×Sch)) (r:Bool×Sch)
deriving DecidableEq
@[reducible] def AK.T:AK→Type
 | .val _ s=>s.T
 | .ref _ s=>s.T
 | .fn ps r=>(Tup ps→List Prop)×(Tup ps→r.2.T)
@[reducible] def ATup:List AK→Type
 |[]=>Unit
 |p::r=>p.T×ATup r
structure Out where
 pre:List Prop
 val:SV
 news:List Res
 upd:List (Nat×Option Res)
structure Srt where
 T:TypeId
 s:Sch
 g:FuncId
 pre:List s.T→Prop
 f:List s.T→List s.T
 rel:Option (List s.T→List s.T→Prop):=none
structure Con where
 args:List AK
 ress:List (Bool×Sch)
 owns:List Bool
 pre:ATup args→List Prop
 spec:ATup args→Tup ress
 srt:Option Srt:=none
 prim:Option ((Nat→Option Res)→Nat→List SV→Option Out):=none
abbrev Gam:=List (FuncId×Con)
def Gam.get (Γ:Gam) (f:FuncId):Option Con:=
 match Γ with
 |[]=>none
 |(g,c)::r=>if g=f then some c else Gam.get r f
@[reducible] def Out.pure (v:SV):Option Out:=some ⟨[],v,[],[]⟩
def I64 (n:Int):Prop:= -9223372036854775808≤n∧n≤9223372036854775807
def J7 (P:Program) (T:TypeId):Option Nat:=match P.info? T with
 |some i=>some i.size
 |none=>none
def Kc (P:Program) (T:TypeId):Option Bool:=match P.underlying T with
 |some (.struct _)=>some true
 |some (.array _ _)=>some true
 |some _=>some false
 |none=>none
def Jqi (P : Program) : Nat → TypeId → Option Sch
 |0,_=>none
 | n + 1, T => match P.underlying T with
  |some .bool=>some .bool
  |some (.int k)=>some (.int k)
  |some .string=>some .str
  |some (.float k)=>some (.flt k)
  |some (.slice e)=>match Jqi P n e with
   |some s=>some (.list e s)
   |none=>none
  | some (.struct fs) => fs.toList.foldr (fun f acc => match Jqi P n f.type, acc with
    |some s,some none=>some (some s)
    |some s,some (some t)=>some (some (.prod s t))
    |_,_=>none) (some none)|>.bind id
  | some (.array k e) => match Jqi P n e with
   |some s=>match k with
    |0=>none
    |j+1=>some (j.rec s fun _ t=> .prod s t)
   |none=>none
  |some (.func _ _ _)=>some .fnc
  |_=>none
def D8:Value→SC
 | .int k n=> .int k n
 | .bool b=> .bool b
 | .string s=> .str s
 | .float k b=> .flt k b
 |v=> .val v
def ofValue:Value→SV
 | .agg cs=> .v true (cs.toList.map D8)
 |v=> .v false [D8 v]
def SC.atom:SC→Bool
 | .val (.agg _)=>false
 | .val (.tuple _)=>false
 | .lst _ _ _=>false
 |_=>true
def zeroCells (P:Program) (T:TypeId):Option (List SC):=match P.info? T with
 |some i=>match i.zero with
  |some z=>if z.cells.size=i.size then some (z.cells.toList.map D8) else none
  |none=>none
 |none=>none
def Jh1 (k:IntKind) (n:Int):Option Out:=
 if k= .i64 then some ⟨[I64 n], .one (.int .i64 n),[],[]⟩ else Out.pure (.one (.int k (k.wrap n)))
def J7s (op:BinOp) (k:IntKind) (x y:Int):Option Out:=
 match op with
 | .add=>Jh1 k (x+y)
 | .sub=>Jh1 k (x-y)
 | .mul=>Jh1 k (x*y)
 | .quo=>if k= .i64 then some ⟨[y≠0,I64 (x.tdiv y)], .one (.int .i64 (x.tdiv y)),[],[]⟩ else none
 | .rem=>some ⟨[y≠0], .one (.int k (x.tmod y)),[],[]⟩
 | .eql=>Out.pure (.one (.bool (x==y)))
 | .neq=>Out.pure (.one (.bool (x !=y)))
 | .lss=>Out.pure (.one (.bool (decide (x<y))))
 | .leq=>Out.pure (.one (.bool (decide (x≤y))))
 | .gtr=>Out.pure (.one (.bool (decide (y<x))))
 | .geq=>Out.pure (.one (.bool (decide (y≤x))))
 | .and=>Out.pure (.one (.int k (bits .and k x y)))
 | .or=>Out.pure (.one (.int k (bits .or k x y)))
 | .xor=>Out.pure (.one (.int k (bits .xor k x y)))
 | .andNot=>Out.pure (.one (.int k (bits .andNot k x y)))
 |_=>none
def shS (op:BinOp) (k:IntKind) (x y:Int):Option Out:=
 match op with
 | .shl=>if k= .i64 then some ⟨[0≤y∧y≤63,I64 (x*2^y.toNat)], .one (.int .i64 (x*2^y.toNat)),[],[]⟩ else none
 | .shr=>if k= .i64 then some ⟨[0≤y∧y≤63], .one (.int .i64 (x.fdiv (2^y.toNat))),[],[]⟩ else if k= .u64 then some ⟨[0≤y∧y≤63], .one (.int .u64 (x.fdiv (2^y.toNat))),[],[]⟩ else none
 |_=>none
def J5q (op:BinOp) (x y:ByteArray):Option Out:=
 match op with
 | .eql=>Out.pure (.one (.bool (x.toList==y.toList)))
 | .neq=>Out.pure (.one (.bool (!(x.toList==y.toList))))
 | .lss=>Out.pure (.one (.bool (Op.bytesLess x.toList y.toList)))
 | .leq=>Out.pure (.one (.bool (Op.bytesLess x.toList y.toList||x.toList==y.toList)))
 | .gtr=>Out.pure (.one (.bool (!(Op.bytesLess x.toList y.toList||x.toList==y.toList))))
 | .geq=>Out.pure (.one (.bool (!Op.bytesLess x.toList y.toList)))
 | .add=>some ⟨[((x.size+y.size:Nat):Int)≤9223372036854775807], .one (.str (x++y)),[],[]⟩
 |_=>none
def Jv0 (op:BinOp) (x y:Bool):Option Out:=
 match op with
 | .eql=>Out.pure (.one (.bool (x==y)))
 | .neq=>Out.pure (.one (.bool (!(x==y))))
 |_=>none
def Lj (op:BinOp) (k:FloatKind) (x y:Nat):Option Out:=
 match op with
 | .add=>some ⟨[(k.format.add x y).isSome=true], .one (.flt k ((k.format.add x y).getD 0)),[],[]⟩
 | .sub=>some ⟨[(k.format.sub x y).isSome=true], .one (.flt k ((k.format.sub x y).getD 0)),[],[]⟩
 | .mul=>some ⟨[(k.format.mul x y).isSome=true], .one (.flt k ((k.format.mul x y).getD 0)),[],[]⟩
 | .quo=>some ⟨[(k.format.div x y).isSome=true], .one (.flt k ((k.format.div x y).getD 0)),[],[]⟩
 | .eql=>Out.pure (.one (.bool (k.format.order x y==some .eq)))
 | .neq=>Out.pure (.one (.bool (k.format.order x y !=some .eq)))
 | .lss=>Out.pure (.one (.bool (k.format.order x y==some .lt)))
 | .leq=>Out.pure (.one (.bool (k.format.order x y==some .lt||k.format.order x y==some .eq)))
 | .gtr=>Out.pure (.one (.bool (k.format.order x y==some .gt)))
 | .geq=>Out.pure (.one (.bool (k.format.order x y==some .gt||k.format.order x y==some .eq)))
 |_=>none
def Xu (rec_ : TypeId → List SC → List SC → Option Bool) (P : Program) (xs ys : List SC) : List Field → Option Bool
 |[]=>some true
 | f :: fs => if f.name = "_" then Xu rec_ P xs ys fs else match J7 P f.type with
  | some n => if f.offset + n ≤ xs.length ∧ f.offset + n ≤ ys.length then
    match rec_ f.type ((xs.drop f.offset).take n) ((ys.drop f.offset).take n),Xu rec_ P xs ys fs with
    |some a,some b=>some (a&&b)
    |_,_=>none
   else none
  |none=>none
def Jd7 (rec_:List SC→List SC→Option Bool) (n:Nat) (xs ys:List SC):List Nat→Option Bool
 |[]=>some true
 | i :: r => if i * n + n ≤ xs.length ∧ i * n + n ≤ ys.length then
   match rec_ ((xs.drop (i*n)).take n) ((ys.drop (i*n)).take n),Jd7 rec_ n xs ys r with
   |some a,some b=>some (a&&b)
   |_,_=>none
  else none
def eqT (P:Program):Nat→TypeId→List SC→List SC→Option Bool
 |0,_,_,_=>none
 | d + 1, t, xs, ys => match P.underlying t with
  |some .bool=>match xs,ys with
   |[.bool a],[.bool b]=>some (a==b)
   |_,_=>none
  |some (.int _)=>match xs,ys with
   |[.int k a],[.int k' b]=>if k=k' then some (a==b) else none
   |_,_=>none
  |some .string=>match xs,ys with
   |[.str a],[.str b]=>some (a.toList==b.toList)
   |_,_=>none
  |some (.struct fs)=>if P.stoodInHeld t=false then Xu (eqT P d) P xs ys fs.toList else none
  |some (.array len e)=>match J7 P e with
   |some n=>Jd7 (eqT P d e) n xs ys (List.range' 0 len)
   |none=>none
  |_=>none
def shape (P:Program) (T:TypeId) (cs:List SC):Option SV:=
 match Kc P T with
 |some true=>some (.v true cs)
 |some false=>match cs with
  |[c]=>some (.v false [c])
  |_=>none
 |none=>none
def Yz:SV→Option (List SC)
 | .v true cs=>some cs
 | .v false [c]=>some [c]
 |_=>none
def Xb (cs:List SC):Bool:=cs.all SC.atom
def Y6 (P:Program) (T:TypeId) (i:Nat):Option (Nat×TypeId):=
 match P.underlying T with
 | some (.struct fs) => match fs[i]? with
  |some f=>match J7 P f.type with
   |some 0=>none
   |some _=>some (f.offset,f.type)
   |none=>none
  |none=>none
 |_=>none
def Jw7:Nat:=0
def Kfu:List ByteArray:=[⟨#[98,114,101,97,107,101,114]⟩,⟨#[105,115,111,108,97,116,111,114]⟩,⟨#[101,97,114,116,104]⟩]
def Ju2 (P : Program) (rs : Nat → Option Res) (nx : Nat) (T : TypeId) (p : SC) : Option Out :=
 match J7 P T with
 |none=>none
 | some n => match p with
  | .ptr i off => match rs i with
   | some (.box _ cs) => if off + n ≤ cs.length then match shape P T ((cs.drop off).take n) with
     |some v=>Out.pure v
     |none=>none
    else none
   | some (.fbox _ cs) => if off + n ≤ cs.length then match shape P T ((cs.drop off).take n) with
     |some v=>Out.pure v
     |none=>none
    else none
   | some (.rbox _ s x) => if off + n ≤ s.size then
     let r:=Ka (((enc s x).drop off).take n) nx
     match shape P T r.1 with
     |some v=>some ⟨[],v,r.2,[]⟩
     |none=>none
    else none
   |_=>none
  | .elt i sz idx off =>
   let go (s:Sch) (xs:List s.T):Option Out:=
    if sz=s.size∧off+n≤s.size then
     let r:=Ka (((enc s (xs.getD idx.toNat s.dflt)).drop off).take n) nx
     match shape P T r.1 with
     |some v=>some ⟨[0≤idx∧idx<xs.length],v,r.2,[]⟩
     |none=>none
    else none
   match rs i with
   |some (.imm _ s xs)=>go s xs
   |some (.own _ s xs)=>go s xs
   |some (.ownT _ s xs)=>go s xs
   |_=>none
  | .val (.pointer (some a)) => if a.block = Jw7 ∧ a.spot = none ∧ n = 1 then match Kfu[a.off]? with
    |some s=>match shape P T [.str s] with
     |some v=>Out.pure v
     |none=>none
    |none=>none
   else none
  |_=>none
def Ju:SV:= .v false [.val undef]
def Jb3:(s:Sch)→s.T→Nat→List SC→Option s.T
 | .prod a b, x, off, new => if off + new.length ≤ a.size then match Jb3 a x.1 off new with
   |some z=>some (z,x.2)
   |none=>none
  else if a.size≤off then match Jb3 b x.2 (off-a.size) new with
   |some z=>some (x.1,z)
   |none=>none
  else none
 |s,_,off,new=>if off=0∧new.length=s.size then dec (fun _=>none) s new else none
def Jmd (P : Program) (rs : Nat → Option Res) (T : TypeId) (p : SC) (x : SV) : Option Out :=
 match J7 P T,Yz x with
 | some n, some new => if new.length = n ∧ Xb new = true then match p with
  | .ptr i off=>match rs i with
   |some (.box U cs)=>if off+n≤cs.length then some ⟨[],Ju,[],[(i,some (.box U (cs.take off++new++cs.drop (off+n))))]⟩ else none
   |_=>none
  | .elt i sz idx off => match rs i with
   | some (.own U s xs) => if sz = s.size ∧ s.hasList = false ∧ off + n ≤ s.size then match dec (fun _ => none) s ((enc s (xs.getD idx.toNat s.dflt)).take off ++ new ++ (enc s (xs.getD idx.toNat s.dflt)).drop (off + n)) with
     |some y=>some ⟨[0≤idx∧idx<xs.length],Ju,[],[(i,some (.own U s (xs.set idx.toNat y)))]⟩
     |none=>none
    else if sz=s.size∧s.hasList=true∧off+n≤s.size then match Jb3 s (xs.getD idx.toNat s.dflt) off new with
     |some y=>some ⟨[0≤idx∧idx<xs.length],Ju,[],[(i,some (.own U s (xs.set idx.toNat y)))]⟩
     |none=>none
    else none
   |_=>none
  |_=>none
  else none
 |_,_=>none
def Jk9 (ev:Operand→Option SV) (o:Option Operand) (d:Int):Option Int:=match o with
 |none=>some d
 |some x=>match ev x with
  |some (.v false [.int _ n])=>some n
  |_=>none
def Jhr (place:Nat→Option (Nat×Nat)) (cells:List SC):List (Nat×List SC)→Option (List SC)
 |[]=>some cells
 |(i,v)::rest=>match place i with
  |some (off,n)=>if v.length=n∧off+n≤cells.length then Jhr place (cells.take off++v++cells.drop (off+n)) rest else none
  |none=>none
def Hy (ev:Operand→Option SV):List (Nat×Operand)→Option (List (Nat×List SC))
 |[]=>some []
 | (i, x) :: r => match ev x, Hy ev r with
  |some v,some l=>match Yz v with
   |some cs=>if Xb cs=true then some ((i,cs)::l) else none
   |none=>none
  |_,_=>none
def Jit (rs:Nat→Option Res) (s:Sch):SV→Option (List s.T)
 | .v false cs=>Yh rs s cs
 |_=>none
def J7r (P:Program) (rs:Nat→Option Res) (t:TypeId):SV→Option Int
 | .v false [.sl i] => match P.underlying t with
  |some (.slice _)=>match rs i with
   |some (.imm _ _ xs)=>some (xs.length:Int)
   |some (.own _ _ xs)=>some (xs.length:Int)
   |some (.ownT _ _ xs)=>some (xs.length:Int)
   |_=>none
  |some (.map _ _)=>match rs i with
   |some (.mp _ _ _ _ _ l)=>some (l.length:Int)
   |_=>none
  |_=>none
 | .v false [.val (.slice none 0 0)]=>match P.underlying t with
  |some (.slice _)=>some 0
  |_=>none
 | .v false [.val (.slice (some _) m _)]=>match P.underlying t with
  |some (.slice _)=>some (m:Int)
  |_=>none
 | .v false [.str s]=>match P.underlying t with
  |some .string=>some (s.size:Int)
  |_=>none
 |_=>none
def freeze (rs:Nat→Option Res):List SC→List (Nat×Option Res)
 |[]=>[]
 | .sl i::r=>match rs i with
  |some (.own T s xs)=>(i,some (.imm T s xs))::freeze rs r
  |_=>freeze rs r
 |_::r=>freeze rs r
def Jg4 (rs:Nat→Option Res) (s:Sch):List (Nat×List SC)→Nat→Option (List s.T)
 |[],_=>some []
 | (i, cs) :: r, k => if i = k ∧ cs.length = s.size then match dec rs s cs, Jg4 rs s r (k + 1) with
   |some x,some xs=>some (x::xs)
   |_,_=>none
  else none
def Xs:(s:Sch)→s.T→s.T→Bool
 | .int _,a,b=> @BEq.beq Int _ a b
 | .bool,a,b=> @BEq.beq Bool _ a b
 | .str,a,b=>ByteArray.toList a==ByteArray.toList b
 | .flt _,_,_=>false
 | .fnc,_,_=>false
 | .prod p q,a,b=>Xs p a.1 b.1&&Xs q a.2 b.2
 | .list _ _,_,_=>false
def Y0 {β:Type} (ks:Sch) (k:ks.T):List (ks.T×β)→Nat
 |[]=>0
 |x::r=>if Xs ks k x.1=true then 0 else Y0 ks k r+1
def Jv {β:Type} (ks:Sch) (k:ks.T):List (ks.T×β)→Option β
 |[]=>none
 |x::r=>if Xs ks k x.1=true then some x.2 else Jv ks k r
def Kj {β:Type} (ks:Sch) (k:ks.T) (v:β):List (ks.T×β)→List (ks.T×β)
 |[]=>[(k,v)]
 |x::r=>if Xs ks k x.1=true then(k,v)::r else x::Kj ks k v r
def Zy {α β:Type} (v:β):List (α×β)→Nat→List (α×β)
 |[],_=>[]
 |x::r,0=>(x.1,v)::r
 |x::r,n+1=>x::Zy v r n
def Jnj (P:Program):Nat→TypeId→List SC→Bool
 |0,_,_=>false
 | d + 1, T, cs => match P.underlying T with
  |some .bool=>true
  |some (.int _)=>true
  |some .string=>true
  |some (.struct fs)=>fs.toList.all fun f=>f.name== "_" ||match J7 P f.type,Kc P f.type with
   |some n,some g=>Nat.ble (f.offset+n) cs.length&&(g||n==1)&&Jnj P d f.type ((cs.drop f.offset).take n)
   |_,_=>false
  |_=>false
def Kkz:Value→Bool
 | .agg _=>true
 |_=>false
def Jep (P:Program) (T:TypeId) (g:Bool) (s:Sch):Option s.T:=match P.info? T with
 |some i=>match i.zero with
  |some z=>if Kkz z=g then dec (fun _=>none) s (z.cells.toList.map D8) else none
  |none=>none
 |none=>none
def Jta (s:Sch):Nat→List SC→Option (List s.T)
 |0,cs=>if cs.isEmpty=true then some [] else none
 |n+1,cs=>match dec (fun _=>none) s (cs.take s.size),Jta s n (cs.drop s.size) with
  |some x,some xs=>some (x::xs)
  |_,_=>none
def Jod:SC→Option Value
 | .int k n=>some (.int k n)
 | .bool b=>some (.bool b)
 | .str s=>some (.string s)
 |_=>none
def Jcm (k:FloatKind) (b:Nat):Option Int:=(k.decode b).toInt .zero
end Go.Sx
namespace Go.Sx
open Go.RowKit
def Kf:List Prop→Prop
 |[]=>True
 |[p]=>p
 |p::r=>p∧Kf r
def Zs (rs:Nat→Option Res):(ps:List (Bool×Sch))→(List SV)→Option (Tup ps)
 |[],[]=>some ()
 | p :: r, .v g cs :: vs => if g = p.1 then (match dec rs p.2 cs, Zs rs r vs with
   |some x,some y=>some (x,y)
   |_,_=>none) else none
 |_,_=>none
def Jyz {s s':Sch} (h:s'=s) (x:s'.T):s.T:=h▸x
def Jut:(ks:List AK)→(ps:List (Bool×Sch))→(Tup ps→(post:List AK)→ks=(ps.map fun p=>AK.val p.1 p.2)++post→ATup post→ATup ks)
 |_,[],_,_,h,y=>h▸y
 |_,_::r,x,post,h,y=>h▸(x.1,Jut _ r x.2 post rfl y)
def Jj0 (rs:Nat→Option Res) (g:Bool) (s:Sch):SV→Option s.T
 | .v g' cs=>if g=g' then dec rs s cs else none
 |_=>none
def Jmx (rs:Nat→Option Res) (T:TypeId) (s:Sch):Option Res→Option s.T
 |some (.box U cs)=>if U=T then dec rs s cs else none
 |some (.rbox U s' x)=>if h:s'=s then(if U=T then some (Jyz h x) else none) else none
 |_=>none
def Jj1 (rs:Nat→Option Res) (T:TypeId) (s:Sch):SV→Option s.T
 | .v false [.ptr i 0]=>Jmx rs T s (rs i)
 |_=>none
def Joy (rs:Nat→Option Res):(k:AK)→SV→Option k.T
 | .val g s,v=>Jj0 rs g s v
 | .ref T s,v=>Jj1 rs T s v
 | .fn _ _,_=>none
def D6 (rs:Nat→Option Res):(ks:List AK)→List SV→Option (ATup ks)
 |[],[]=>some ()
 |k::r,v::vs=>match Joy rs k v,D6 rs r vs with
  |some x,some y=>some (x,y)
  |_,_=>none
 |_,_=>none
def Jhx (rs:Nat→Option Res) (ps:List (Bool×Sch)) (r:Bool×Sch):(ks:List AK)→(ress:List (Bool×Sch))→(pre:ATup ks→List Prop)→(spec:ATup ks→Tup ress)→(first caps:List SV)→Option ((Tup ps→List Prop)×(Tup ps→r.2.T))
 |k::ks,ress,pre,spec,v::first,caps=>match Joy rs k v with
  |some x=>Jhx rs ps r ks ress (fun y=>pre (x,y)) (fun y=>spec (x,y)) first caps
  |none=>none
 | ks, ress, pre, spec, [], caps =>
  if h:ks=(ps.map fun p=>AK.val p.1 p.2)++ks.drop ps.length then
   match D6 rs (ks.drop ps.length) caps with
   |some y=>if hr:ress=[r] then some (fun x=>pre (Jut ks ps x (ks.drop ps.length) h y),fun x=>(hr▸spec (Jut ks ps x (ks.drop ps.length) h y):Tup [r]).1) else none
   |none=>none
  else none
 |[],_,_,_,_::_,_=>none
def Jv6 (Γ:Gam) (rs:Nat→Option Res) (ps:List (Bool×Sch)) (r:Bool×Sch):SV→Option ((Tup ps→List Prop)×(Tup ps→r.2.T))
 | .v false [.fv j] => match rs j with
  |some (.clo f first caps)=>match Γ.get f with
   |some c=>if c.srt.isNone=true then Jhx rs ps r c.args c.ress c.pre c.spec first caps else none
   |none=>none
  |some (.afn ps' r' pre h)=>if e:ps'=ps∧r'=r then some (fun x=>pre (e.1▸x),fun x=>e.2▸h (e.1▸x)) else none
  |_=>none
 | .v false [.fn f]=>match Γ.get f with
  |some c=>if c.srt.isNone=true then Jhx rs ps r c.args c.ress c.pre c.spec [] [] else none
  |none=>none
 |_=>none
def Jzs (Γ:Gam) (rs:Nat→Option Res):(k:AK)→SV→Option k.T
 | .fn ps r,v=>Jv6 Γ rs ps r v
 | .val g s,v=>Jj0 rs g s v
 | .ref T s,v=>Jj1 rs T s v
def Hh (Γ:Gam) (rs:Nat→Option Res):(ks:List AK)→List SV→Option (ATup ks)
 |[],[]=>some ()
 |k::r,v::vs=>match Jzs Γ rs k v,Hh Γ rs r vs with
  |some x,some y=>some (x,y)
  |_,_=>none
 |_,_=>none
def Jq:(ps:List (Bool×Sch))→Tup ps→List (Bool×List SC)
 |[],_=>[]
 |p::r,x=>(p.1,enc p.2 x.1)::Jq r x.2
def Jgw:Res→Res
 | .imm T s xs=> .own T s xs
 |r=>r
def Jh:List (Bool×List SC)→List Bool→Nat→List (Bool×List SC)×List Res
 |[],_,_=>([],[])
 |(g,cs)::r,ow,n=>
  let a:=Ka cs n
  let b:=Jh r ow.tail (n+a.2.length)
  ((g,a.1)::b.1,(if ow.headD false then a.2.map Jgw else a.2)++b.2)
def Xd:List (Bool×List SC)→SV
 |[p]=> .v p.1 p.2
 |l=> .tup l
def hasList (ps:List (Bool×Sch)):Bool:=ps.any fun p=>p.2.hasList
def De (rs:Nat→Option Res) (c:SC):List (Nat×Option Res):=match c with
 | .sl _=>freeze rs [c]
 | .ptr i _=>match rs i with
  |some (.box _ cs)=>freeze rs cs
  |_=>[]
 |_=>[]
def Dd (rs : Nat → Option Res) : SV → List (Nat × Option Res)
 | .v _ cs => cs.flatMap fun c => match c with
  | .fv i => match rs i with
   |some (.clo _ first caps)=>(first++caps).flatMap fun v=>match v with
    | .v _ cs=>cs.flatMap (De rs)
    |_=>[]
   |_=>[]
  |c=>De rs c
 |_=>[]
def Jeb (c:Con) (rs:Nat→Option Res) (args:List SV):List (Nat×Option Res):=
 if hasList c.ress then args.flatMap (Dd rs) else[]
def U5:List (Bool×Sch)→List Bool→Bool
 |_,[]=>true
 |p::r,true::ow=>(match p with|(false, .list _ _)=>true|_=>false)&&ow.all (fun b=> !b)&&U5 r ow
 |_::r,false::ow=>U5 r ow
 |[],_::_=>false
def Jsu:List AK→List SV→Bool
 | .ref _ _::_, .v false [.val (.pointer none)]::_=>true
 |_::ks,_::vs=>Jsu ks vs
 |_,_=>false
def Jhw:(ps:List (Bool×Sch))→Tup ps
 |[]=>()
 |p::r=>(p.2.dflt,Jhw r)
def Jrq (Γ:Gam) (rs:Nat→Option Res) (nx:Nat) (f:FuncId) (args:List SV):Option Out:=
 match Γ.get f with
 |none=>none
 | some c => match Hh Γ rs c.args args with
  |none=>if Jsu c.args args=true then some ⟨[False],Xd (Jh (Jq c.ress (Jhw c.ress)) [] nx).1,(Jh (Jq c.ress (Jhw c.ress)) [] nx).2,[]⟩ else none
  |some x=>
   let r:=Jh (Jq c.ress (c.spec x)) c.owns nx
   if U5 c.ress c.owns=true∧c.srt.isNone=true then some ⟨c.pre x,Xd r.1,r.2,Jeb c rs args⟩ else none
def Jx5 (rs:Nat→Option Res) (z:Srt):List SV→Option Out
 |[.v false [.sl i], .v false [.fn g]]=>match rs i with
  |some (.own T s xs)=>if h:s=z.s∧T=z.T∧g=z.g∧z.s.hasList=false∧z.rel.isNone=true then some ⟨[z.pre (Y9 h.1 xs)], .tup [],[],[(i,some (.own z.T z.s (z.f (Y9 h.1 xs))))]⟩ else none
  |_=>none
 |_=>none
def Jhy (Γ:Gam) (rs:Nat→Option Res) (nx:Nat) (f:FuncId) (args:List SV):Option Out:=
 match Γ.get f with
 |none=>none
 | some c => match c.srt with
  |some z=>Jx5 rs z args
  |none=>match c.prim with
   |some F=>F rs nx args
   |none=>Jrq Γ rs nx f args
def Js7 (P:Program) (f:FuncId) (n:String):Bool:=match P.funcs[f]? with
 |some fn=>fn.body.isNone&&(fn.origin== "" &&fn.name==n)
 |none=>false
def J7w (P:Program) (f:FuncId) (l:List SV):Option Out:=match l with
 |[.v false [.flt .f32 b]]=>if Js7 P f "math.Float32bits"=true then Out.pure (.one (.int .u32 b)) else none
 |[.v false [.int .u32 m]]=>if Js7 P f "math.Float32frombits"=true then Out.pure (.one (.flt .f32 m.toNat)) else none
 |[.v false [.flt .f64 b]]=>if Js7 P f "math.Float64bits"=true then Out.pure (.one (.int .u64 b)) else if Js7 P f "math.archFloor"=true then some ⟨[∀s t,FloatKind.f64.decode b≠ .nan s t], .one (.flt .f64 (FloatKind.f64.encode ((FloatKind.f64.decode b).integral .down))),[],[]⟩ else none
 |[.v false [.int .u64 m]]=>if Js7 P f "math.Float64frombits"=true then Out.pure (.one (.flt .f64 m.toNat)) else none
 |_=>none
def D1 (ks:List Int) (k:Int):List Int:=bif ks.contains k then ks else ks++[k]
def evL (ev:Operand→Option SV):List Operand→Option (List SV)
 |[]=>some []
 |x::r=>match ev x,evL ev r with
  |some v,some l=>some (v::l)
  |_,_=>none
def Joi {ks ks' vs vs':Sch} (h:ks'=ks) (h':vs'=vs) (l:List (ks'.T×vs'.T)):List (ks.T×vs.T):=h▸h'▸l
def Jju (s:ByteArray) (n:Int):Int:=((s.data.toList.getD n.toNat 0).toNat:Int)
def Jnn (k:FloatKind) (b:Nat):Bool:=match k.decode b with
 | .number _ _ _=>true
 |_=>false
def Jlu (k:FloatKind) (b:Nat):Nat:=FloatKind.f64.encode (k.decode b)
def Kft:List (Nat×Operand)→Bool
 |[]=>true
 |(_, .const _)::r=>Kft r
 |_=>false
def Jui (b:ByteArray):List Int:=b.data.toList.map fun c=>(c.toNat:Int)
def Jyl:Value→Bool
 | .int .u8 n=>n==0
 |_=>false
def Jef (P : Program) (rs : Nat → Option Res) (nx : Nat) (b : Builtin) (argTypes : List TypeId) (args : List SV) : Option Out :=
  match b,args with
  | .len, [x] => match argTypes with
    | t :: _ => match J7r P rs t x with
      |some n=>Out.pure (.one (.int .i64 n))
      |none=>none
    |[]=>none
  | .max,[.v false [.int k x], .v false [.int _ y]]=>Out.pure (.one (.int k (max x y)))
  | .min,[.v false [.int k x], .v false [.int _ y]]=>Out.pure (.one (.int k (min x y)))
  | .max,[.v false [.int k x], .v false [.int _ y], .v false [.int _ z]]=>Out.pure (.one (.int k (max (max x y) z)))
  | .min,[.v false [.int k x], .v false [.int _ y], .v false [.int _ z]]=>Out.pure (.one (.int k (min (min x y) z)))
  | .copy, [.v false [.sl i], y] => match argTypes with
    | [t, _] => match P.underlying t with
      | some (.slice e) => match rs i with
        | some (.own e' s xs) => if e' = e ∧ J7 P e = some s.size then match Jit rs s y with
            |some ys=>some ⟨[ys.length=xs.length], .one (.int .i64 xs.length),[],[(i,some (.own e' s ys))]⟩
            |none=>none
          else none
        |_=>none
      |_=>none
    |_=>none
  | .append, [x, y] => match argTypes with
    | [t, t'] => (match y with
     | .v false [.str b] => match P.underlying t, P.underlying t' with
      | some (.slice e), some .string => match P.info? e with
        | some i => match i.zero with
          | some z => if Jyl z = true ∧ i.size = 1 ∧ i.bytes = 1 then match x with
              | .v false [.sl j] => match rs j with
                |some (.own e' (.int .u8) xs)=>if e'=e then
                    some ⟨[xs.length+b.size≤140737488355328], .one (.sl nx),[.own e (.int .u8) (xs++Jui b)],[(j,none)]⟩ else none
                |_=>none
              |_=>none
            else none
          |none=>none
        |none=>none
      |_,_=>none
     | _ => if t = t' then match P.underlying t with
      | some (.slice e) => match Jqi P 9 e, P.info? e with
        | some s, some i => match i.zero with
          | some z => if i.size = s.size ∧ z.cells.size = s.size ∧ 0 < s.size ∧ 0 < i.bytes then
            match Jit rs s y with
            | some ys => match x with
              | .v false [.val (.slice none 0 0)]=>some ⟨[ys.length*i.bytes≤140737488355328], .one (.sl nx),[.own e s ys],[]⟩
              | .v false [.sl j] => match rs j with
                |some (.own e' s' xs)=>if h:s'=s∧e'=e then
                    some ⟨[((Y9 h.1 xs).length+ys.length)*i.bytes≤140737488355328], .one (.sl nx),[.own e s (Y9 h.1 xs++ys)],[(j,none)]⟩ else none
                |some (.ownT e' s' xs)=>if h:s'=s∧e'=e then
                    some ⟨[((Y9 h.1 xs).length+ys.length)*i.bytes≤140737488355328], .one (.sl nx),[.ownT e s (Y9 h.1 xs++ys)],[(j,none)]⟩ else none
                |some (.lit e' xs)=>if h:Sch.int .u8=s∧e'=e then
                    some ⟨[0<ys.length,(xs.length+ys.length)*i.bytes≤140737488355328], .one (.sl nx),[.own e s (Y9 h.1 xs++ys)],[(j,none)]⟩ else none
                |_=>none
              |_=>none
            |none=>none
            else none
          |none=>none
        |_,_=>none
      |_=>none
      else none)
    |_=>none
  |_,_=>none
def Jor (P:Program) (T:TypeId) (z:List SC) (ps:List (Nat×List SC)):Option (List SC):=
 match P.underlying T with
 |some (.struct fs)=>match fs.toList.mapM (fun f=>(P.info? f.type).map fun i=>(f.offset,i.size)) with
  |some Jim=>Jhr (Jim.toArray[·]?) z ps
  |none=>none
 |some (.array _ e)=>match P.info? e with
  |some i=>Jhr (fun j=>some (j*i.size,i.size)) z ps
  |none=>none
 |_=>none
def Juu (P : Program) (T : TypeId) (name : String) : Option FuncId := match P.info? T with
 |none=>none
 | some i => match P.underlying T with
  |none=>none
  |some (.pointer _)=>none
  | some _ => match i.methods.find? (fun m => m.name == name) with
   |none=>none
   | some m => match m.path.isEmpty with
    |false=>none
    |true=>match m.func with
     |some (f,false)=>some f
     |_=>none
def opS (P : Program) (Γ : Gam) (ev : Operand → Option SV) (rs : Nat → Option Res) (nx : Nat) (o : Oper) : Option Out :=
 match o.op with
 | .move x=>match ev x with|some v=>Out.pure v|none=>none
 | .assign x=>match ev x with|some v=>Out.pure v|none=>none
 | .extract x i => match ev x with
  |some (.tup vs)=>match vs[i]? with
   |some p=>Out.pure (.v p.1 p.2)
   |none=>none
  |_=>none
 | .binOp op T x y _ => match ev x, ev y with
  |some (.v false [.int k a]),some (.v false [.int k' b])=>match shS op k a b with
   |some out=>some out
   |none=>if k=k' then J7s op k a b else none
  |some (.v false [.str a]),some (.v false [.str b])=>J5q op a b
  |some (.v false [.bool a]),some (.v false [.bool b])=>match P.underlying T with
   |some .bool=>Jv0 op a b
   |_=>none
  |some (.v false [.flt k a]),some (.v false [.flt k' b])=>if k=k' then Lj op k a b else none
  | some (.v true xs), some (.v true ys) => if P.eqGuardType P.depth T = false ∧ Kc P T = some true then match op, eqT P 20 T xs ys with
    | .eql,some b=>Out.pure (.one (.bool b))
    | .neq,some b=>Out.pure (.one (.bool (!b)))
    |_,_=>none
   else none
  | some (.v false [.fv i]), some (.v false [.val .nilIface]) => match y, rs i, P.underlying T with
   | .const _,some (.ifc b),some (.interface _)=>match op with
    | .eql=>Out.pure (.one (.bool (!b)))
    | .neq=>Out.pure (.one (.bool b))
    |_=>none
   |_,_,_=>none
  |some (.v false [.fno f]),some (.v false [.val .nilFunc])=>match P.underlying T,op with
   |some (.func _ _ _), .eql=>Out.pure (.one (.bool (!f.isSome)))
   |some (.func _ _ _), .neq=>Out.pure (.one (.bool f.isSome))
   |_,_=>none
  |some (.v false [.ptr _ _]),some (.v false [.val (.pointer none)])=>match P.underlying T,op with
   |some (.pointer _), .eql=>Out.pure (.one (.bool false))
   |some (.pointer _), .neq=>Out.pure (.one (.bool true))
   |_,_=>none
  |some (.v false [.val (.pointer none)]),some (.v false [.val (.pointer none)])=>match P.underlying T,op with
   |some (.pointer _), .eql=>Out.pure (.one (.bool true))
   |some (.pointer _), .neq=>Out.pure (.one (.bool false))
   |_,_=>none
  |_,_=>none
 | .unOp op _ x=>match op,ev x with
  | .not,some (.v false [.bool b])=>Out.pure (.one (.bool (!b)))
  | .neg,some (.v false [.int k a])=>Jh1 k (0-a)
  | .neg,some (.v false [.flt k b])=>Out.pure (.one (.flt k (Op.negFloat k b)))
  |_,_=>none
 | .convert S T x => match P.underlying S, P.underlying T, ev x with
  |some _,some (.int k),some (.v false [.int _ n])=>Jh1 k n
  |some (.int _),some (.float k),some (.v false [.int _ n])=>Out.pure (.one (.flt k (k.nearest n)))
  |some (.float _),some (.float k'),some (.v false [.flt k b])=>if k= .f32∧k'= .f64 then some ⟨[Jnn k b=true,Jnn k' (Jlu k b)=true], .one (.flt k' (Jlu k b)),[],[]⟩ else none
  |some (.float _),some (.int k'),some (.v false [.flt k b])=>some ⟨[(Jcm k b).isSome=true,k'.min≤(Jcm k b).getD 0∧(Jcm k b).getD 0≤k'.max], .one (.int k' ((Jcm k b).getD 0)),[],[]⟩
  | some (.slice e), some .string, some (.v false [.sl i]) => match P.underlying e with
   |some (.int .u8)=>match rs i with
    |some (.own _ (.int .u8) xs)=>some ⟨[0<xs.length], .one (.str (strOfNums xs)),[],[]⟩
    |some (.imm _ (.int .u8) xs)=>some ⟨[0<xs.length], .one (.str (strOfNums xs)),[],[]⟩
    |_=>none
   |_=>none
  | some (.slice _), some (.slice e), some (.v false [.sl i]) => if S = T then match P.underlying e with
   |some (.int .u8)=>match rs i with
    |some (.lit U xs)=>some ⟨[], .one (.sl nx),[.lit U xs],[(i,none)]⟩
    |_=>none
   |_=>none
   else none
  |_,_,_=>none
 | .index T x y => match P.underlying T, ev x, ev y with
  |some .string,some (.v false [.str s]),some (.v false [.int _ n])=>some ⟨[0≤n∧n<s.size], .one (.int .u8 (Jju s n)),[],[]⟩
  | some (.array len e), some (.v true cs), some (.v false [.int _ n]) => match J7 P e with
   | some sz => if 0 ≤ n ∧ n < (len : Int) ∧ n.toNat * sz + sz ≤ cs.length then match shape P e ((cs.drop (n.toNat * sz)).take sz) with
     |some v=>Out.pure v
     |none=>none
    else none
   |none=>none
  |_,_,_=>none
 | .alloc T=>match zeroCells P T with
  |some cs=>some ⟨[], .one (.ptr nx 0),[.box T cs],[]⟩
  |none=>none
 | .box T x => match ev x with
  |some v=>match Yz v with
   |some cs=>if Xb cs=true then some ⟨[], .one (.ptr nx 0),[.box T cs],[]⟩ else none
   |none=>none
  |none=>none
 | .build T parts => match zeroCells P T, Hy ev parts.toList with
  |some z,some ps=>match Jor P T z ps with
   |some cs=>Out.pure (.v true cs)
   |none=>none
  |_,_=>none
 | .fieldAddr T x i=>match ev x,Y6 P T i with
  |some (.v false [.ptr j off]),some (d,_)=>Out.pure (.one (.ptr j (off+d)))
  |some (.v false [.elt j sz idx off]),some (d,_)=>Out.pure (.one (.elt j sz idx (off+d)))
  |_,_=>none
 | .field T x i => match ev x, Y6 P T i with
  | some (.v true cs), some (d, U) => match J7 P U with
   | some n => if d + n ≤ cs.length then match shape P U ((cs.drop d).take n) with
     |some v=>Out.pure v
     |none=>none
    else none
   |none=>none
  |_,_=>none
 | .indexAddr T x y => match P.underlying T, ev x, ev y with
  | some (.slice e), some (.v false [.sl j]), some (.v false [.int _ n]) => match J7 P e with
   |some sz=>
    let go (len:Nat):Option Out:=some ⟨[0≤n∧n<len], .one (.elt j sz n 0),[],[]⟩
    match rs j with
    |some (.imm _ s xs)=>if s.size=sz then go xs.length else none
    |some (.own _ s xs)=>if s.size=sz then go xs.length else none
    |some (.ownT _ s xs)=>if s.size=sz then go xs.length else none
    |_=>none
   |none=>none
  |some (.array len e),some (.v false [.ptr j off]),some (.v false [.int _ n])=>match J7 P e with
   |some sz=>if 0≤n∧n<(len:Int) then Out.pure (.one (.ptr j (off+n.toNat*sz))) else none
   |none=>none
  |some (.slice e),some (.v false [.val (.slice (some a) len _)]),some (.v false [.int _ n])=>match J7 P e with
   |some sz=>if a.spot=none∧0≤n∧n<(len:Int) then Out.pure (.one (.val (.pointer (some ⟨a.block,a.off+n.toNat*sz,none⟩)))) else none
   |none=>none
  |_,_,_=>none
 | .load T x=>match ev x with
  |some (.v false [p])=>Ju2 P rs nx T p
  |_=>none
 | .store T x y=>match ev x,ev y with
  |some (.v false [p]),some v=>Jmd P rs T p v
  |_,_=>none
 | .nilCheck x=>match ev x with
  |some (.v false [.ptr j off])=>Out.pure (.one (.ptr j off))
  |_=>none
 | .buildSlice T len parts => match P.underlying T with
  | some (.slice e) => match Jqi P 9 e, J7 P e, Hy ev parts.toList with
   | some s, some n, some ps => if n = s.size ∧ 0 < n ∧ ps.length = len ∧ len * n ≤ 16777216 ∧ (zeroCells P e).isSome = true then match Jg4 rs s ps 0 with
     |some xs=>if h:s=Sch.int .u8∧Kft parts.toList=true∧2≤len then some ⟨[], .one (.sl nx),[.lit e (Y9 h.1 xs)],ps.flatMap fun p=>freeze rs p.2⟩ else some ⟨[], .one (.sl nx),[.own e s xs],ps.flatMap fun p=>freeze rs p.2⟩
     |none=>none
    else none
   |_,_,_=>none
  |_=>none
 | .call c => match c.callee with
  | .builtin b=>match evL ev c.args.toList with
   |some l=>Jef P rs nx b c.argTypes.toList l
   |none=>none
  | .value (.func f) => match evL ev c.args.toList with
   |some l=>match Jhy Γ rs nx f l with
    |some out=>some out
    |none=>J7w P f l
   |none=>none
  | .value x => match ev x, evL ev c.args.toList with
   |some (.v false [.fn f]),some l=>Jhy Γ rs nx f l
   |some (.v false [.fno (some f)]),some l=>Jhy Γ rs nx f l
   |some (.v false [.fno none]),some _=>some ⟨[False], .one (.bool false),[],[]⟩
   | some (.v false [.fv j]), some l => match rs j with
    |some (.clo f first caps)=>Jhy Γ rs nx f (first++l++caps)
    | some (.afn ps r0 pre h) => match Zs rs ps l with
     |some y=>
      let r:=Jh (Jq [r0] (h y,())) [] nx
      some ⟨[Kf (pre y)],Xd r.1,r.2,if hasList [r0] then l.flatMap (Dd rs) else[]⟩
     |none=>none
    |_=>none
   |_,_=>none
  | .invoke x name => match ev x, evL ev c.args.toList with
   | some (.v false [.fv j]), some l => match rs j with
    |some (.ifb T v)=>match Juu P T name with
     |some f=>Jhy Γ rs nx f (v::l)
     |none=>none
    |_=>none
   |_,_=>none
 | .slice T x lo hi mx => match mx, P.underlying T, ev x with
  | none, some (.slice e), some (.v false [.sl i]) =>
   let go (s:Sch) (xs:List s.T) (upd:List (Nat×Option Res)):Option Out:=match Jk9 ev lo 0,Jk9 ev hi xs.length with
    |some l,some h=>if J7 P e=some s.size then some ⟨[0≤l∧l≤h∧h≤xs.length], .one (.sl nx),[.imm e s ((xs.take h.toNat).drop l.toNat)],upd⟩ else none
    |_,_=>none
   match rs i with
   |some (.imm _ s xs)=>go s xs []
   | some (.own U s xs) => match s.hasList, lo, hi with
    |true,none,some h0=>match Jk9 ev (some h0) xs.length with
     |some h=>if J7 P e=some s.size∧U=e then some ⟨[0≤h∧h≤xs.length], .one (.sl nx),[.own e s (xs.take h.toNat)],[(i,none)]⟩ else none
     |none=>none
    |_,_,_=>go s xs [(i,some (.imm U s xs))]
   |some (.ownT U s xs)=>match Jk9 ev lo 0,hi with
    |some l,none=>if J7 P e=some s.size∧U=e then some ⟨[0≤l∧l≤xs.length], .one (.sl nx),[.ownT e s (xs.drop l.toNat)],[(i,none)]⟩ else none
    |_,_=>none
   |_=>none
  |none,some .string,some (.v false [.str b])=>match Jk9 ev lo 0,Jk9 ev hi b.size with
   |some l,some h=>some ⟨[0≤l∧l≤h∧h≤b.size], .one (.str (b.extract l.toNat h.toNat)),[],[]⟩
   |_,_=>none
  | none, some (.array n e), some (.v false [.ptr i off]) => match lo, hi with
   | none, none => match Jqi P 9 e, J7 P e, rs i with
    | some s, some sz, some (.box TT cs) => if sz = s.size ∧ s.hasList = false ∧ 0 < n ∧ off + n * sz ≤ cs.length then match Jta s n ((cs.drop off).take (n * sz)) with
      |some xs=>some ⟨[], .one (.sl nx),[.imm e s xs],[(i,some (.fbox TT cs))]⟩
      |none=>none
     else none
    | some s, some sz, some (.fbox _ cs) => if sz = s.size ∧ s.hasList = false ∧ 0 < n ∧ off + n * sz ≤ cs.length then match Jta s n ((cs.drop off).take (n * sz)) with
      |some xs=>some ⟨[], .one (.sl nx),[.imm e s xs],[]⟩
      |none=>none
     else none
    |_,_,_=>none
   |_,_=>none
  | some m, some (.slice e), some (.v false [.sl i]) => match hi, rs i with
   |some h0,some (.imm _ s xs)=>match Jk9 ev lo 0,Jk9 ev (some h0) 0,Jk9 ev (some m) 0 with
    |some l,some h,some mm=>if J7 P e=some s.size then some ⟨[0≤l∧l≤h∧h≤mm∧mm≤xs.length], .one (.sl nx),[.imm e s ((xs.take h.toNat).drop l.toNat)],[]⟩ else none
    |_,_,_=>none
   |_,_=>none
  | none, some (.array n e), some (.v false [.val (.pointer (some a))]) => match lo, hi with
   |none,none=>match J7 P e with
    |some _=>if a.spot=none then Out.pure (.one (.val (.slice (some a) n n))) else none
    |none=>none
   |_,_=>none
  |_,_,_=>none
 | .makeMap T r => match r, P.underlying T with
  | none, some (.map kT vT) => match P.underlying kT, P.underlying vT with
   |some (.int .i64),some .bool=>some ⟨[], .one (.sl nx),[.map []],[]⟩
   | _, _ => match Jqi P 9 kT, Kc P kT, Jqi P 9 vT, Kc P vT with
    | some ks, some gk, some vs, some gv => if ks.hasList = false ∧ (gk = false → ks.size = 1) ∧ (gv = false → vs.size = 1) then
      some ⟨[∀k k':ks.T,eqT P 20 kT (enc ks k) (enc ks k')=some (Xs ks k k'),∀k:ks.T,Jnj P 20 kT (enc ks k)=true], .one (.sl nx),[.mp kT gk gv ks vs []],[]⟩
     else none
    |_,_,_,_=>none
  |_,_=>none
 | .mapUpdate T m k x => match P.underlying T, ev m with
  | some (.map kT _), some (.v false [.sl i]) => match rs i with
   |some (.map ks)=>match P.underlying kT,ev k,ev x with
    |some (.int .i64),some (.v false [.int .i64 n]),some (.v false [.bool true])=>some ⟨[],Ju,[],[(i,some (.map (D1 ks n)))]⟩
    |_,_,_=>none
   | some (.mp kT' gk gv ks vs l) => match ev k, ev x with
    | some (.v g kc), some (.v g' vc) => if kT' = kT ∧ g = gk ∧ g' = gv then match dec (fun _ => none) ks kc, dec rs vs vc with
      |some kd,some vd=>some ⟨[],Ju,[],(i,some (.mp kT' gk gv ks vs (Kj ks kd vd l)))::freeze rs vc⟩
      |_,_=>none
     else none
    |_,_=>none
   |_=>none
  |_,_=>none
 | .insert T m k x => match P.underlying T, ev m with
  | some (.map kT _), some (.v false [.sl i]) => match rs i with
   | some (.mp kT' gk gv ks vs l) => match ev k, ev x with
    | some (.v g kc), some (.v g' vc) => if kT' = kT ∧ g = gk ∧ g' = gv then match dec (fun _ => none) ks kc, dec rs vs vc with
      |some kd,some vd=>some ⟨[],Ju,[],(i,some (.mp kT' gk gv ks vs (Kj ks kd vd l)))::freeze rs vc⟩
      |_,_=>none
     else none
    |_,_=>none
   |_=>none
  |_,_=>none
 | .lookup T x k ok => match P.underlying T, ev x with
  | some (.map kT vT), some (.v false [.sl i]) => match rs i with
   | some (.mp kT' gk gv ks vs l) => match ev k with
    | some (.v g kc) => if kT' = kT ∧ g = gk then match dec (fun _ => none) ks kc, Jep P vT gv vs with
      | some kd, some zd =>
       match ok with
       |true=>
        let r:=Jh (Jq [(gv,vs),(false, .bool)] ((Jv ks kd l).getD zd,(Jv ks kd l).isSome,())) [] nx
        some ⟨[],Xd r.1,r.2,[]⟩
       |false=>
        let r:=Jh (Jq [(gv,vs)] ((Jv ks kd l).getD zd,())) [] nx
        some ⟨[],Xd r.1,r.2,[]⟩
      |_,_=>none
     else none
    |_=>none
   |_=>none
  |_,_=>none
 | .mapEntry T m k => match P.underlying T, ev m with
  | some (.map kT vT), some (.v false [.sl i]) => match rs i with
   | some (.mp kT' gk gv ks vs l) => match ev k with
    | some (.v g kc) => if kT' = kT ∧ g = gk ∧ vs.hasList = false then match dec (fun _ => none) ks kc, Jep P vT gv vs with
      |some kd,some zd=>some ⟨[], .tup [(gv,enc vs ((Jv ks kd l).getD zd)),(false,[.int .i64 (Y0 ks kd l)])],[],[(i,some (.mp kT' gk gv ks vs (Kj ks kd ((Jv ks kd l).getD zd) l)))]⟩
      |_,_=>none
     else none
    |_=>none
   |_=>none
  |_,_=>none
 | .entryStore T m s x => match ev m, ev s with
  | some (.v false [.sl i]), some (.v false [.int .i64 n]) => match rs i with
   | some (.mp kT' gk gv ks vs l) => match ev x with
    | some (.v g' vc) => if g' = gv ∧ vs.hasList = false then match dec (fun _ => none) vs vc with
      |some vd=>some ⟨[0≤n∧n<l.length],Ju,[],[(i,some (.mp kT' gk gv ks vs (Zy vd l n.toNat)))]⟩
      |none=>none
     else none
    |_=>none
   |_=>none
  |_,_=>none
 | .range T x => match P.underlying T, ev x with
  |some (.map _ _),some (.v false [.sl i])=>match rs i with
   |some (.map ks)=>some ⟨[], .one (.sl nx),[.iter i ks []],[]⟩
   |some (.mp kT gk gv ks vs l)=>some ⟨[], .one (.sl nx),[.mpi i kT gk gv ks vs l []],[]⟩
   |_=>none
  |some .string,some (.v false [.str s])=>some ⟨[], .one (.sl nx),[.siter s 0],[]⟩
  |_,_=>none
 | .entry x => match ev x with
  | some (.v false [.sl i]) => match rs i with
   |some (.iter j ks seen)=>match rs j with
    |some (.map ks')=>some ⟨[ks'=ks,seen≠[],seen.getLastD 0<ks.length], .tup [(false,[.int .i64 (ks.getD (seen.getLastD 0) 0)]),(false,[.bool true])],[],[]⟩
    |_=>none
   | some (.mpi j kT gk gv ks vs l seen) => match rs j with
    | some (.mp kT' gk' gv' ks' vs' l') => if h : (ks' = ks ∧ vs' = vs) ∧ kT' = kT ∧ gk' = gk ∧ gv' = gv then
      let e:=l.getD (seen.getLastD 0) (ks.dflt,vs.dflt)
      let r:=Jh (Jq [(gk,ks),(gv,vs)] (e.1,e.2,())) [] nx
      some ⟨[Joi h.1.1 h.1.2 l'=l,seen≠[],seen.getLastD 0<l.length],Xd r.1,r.2,[]⟩
     else none
    |_=>none
   |_=>none
  |_=>none
 | .makeInterface T x => match P.underlying T, ev x with
  |some (.interface _),_=>none
  |some _,some (.v false [c])=>match Jod c with
   |some v=>Out.pure (.one (.val (.iface T v)))
   |none=>none
  |some _,some (.v true cs)=>some ⟨[], .one (.fv nx),[.ifb T (.v true cs)],[]⟩
  |_,_=>none
 | .panic x=>match ev x with
  |some _=>some ⟨[False],Ju,[],[]⟩
  |none=>none
 | .makeSlice T l c => match P.underlying T, ev l, ev c with
  | some (.slice e), some (.v false [.int _ m]), some (.v false [.int _ m']) => match Jqi P 9 e, P.info? e, zeroCells P e with
   | some s, some i, some z => if i.size = s.size ∧ z.length = s.size ∧ i.bytes ≤ 1000 then match dec (fun _ => none) s z with
     |some d=>some ⟨[0≤m∧m≤1000000,m≤m'∧m'≤1000000], .one (.sl nx),[.own e s (List.replicate m.toNat d)],[]⟩
     |none=>none
    else none
   |_,_,_=>none
  |_,_,_=>none
 | .makeFunc (.func f) first caps=>match evL ev first.toList,evL ev caps.toList with
  |some a,some b=>some ⟨[], .one (.fv nx),[.clo f a b],[]⟩
  |_,_=>none
 |_=>none
abbrev GC:=List (Nat×Bool)
structure Rec where
 ix:Nat
 gc:GC
 dst:Option Tmp
 out:Out
 base:Nat
 touch:Option (List Nat)
structure St where
 nx:Nat
 sl:List (Nat×SV)
 rs:List (Nat×Res)
def look {α:Type} (l:List (Nat×α)) (t:Nat):Option α:=
 match l with
 |[]=>none
 |(i,v)::r=>if i=t then some v else look r t
def Za (recs:List Rec) (t:Nat):Option Rec:=
 match recs with
 |[]=>none
 |r::l=>if r.dst=some t then some r else Za l t
def Rec.new (r:Rec) (id:Nat):Bool:=decide (r.base≤id∧id<r.base+r.out.news.length)
def Vf (r:Rec) (id:Nat):Option (Option Res):=
 if r.base≤id∧id<r.base+r.out.news.length then some (r.out.news[id-r.base]?)
 else look r.out.upd id
def Jb9 (recs:List Rec) (id:Nat):Option (Rec×Option Res):=
 match recs with
 |[]=>none
 |r::l=>match Vf r id with
  |some x=>some (r,x)
  |none=>Jb9 l id
def Jx9 (recs:List Rec) (j:Nat):Option Rec:=
 match recs with
 |[]=>none
 |r::l=>if r.ix=j then some r else Jx9 l j
def Jmb (a b:GC):Bool:=a.all fun x=>b.contains x
abbrev Ll:=Option (List Nat)
def Jei (an:Ll) (i j:Nat):Bool:=match an with
 |none=>Nat.blt j i
 |some ms=>Nat.testBit (ms.getD i 0) j
def cmpB (an:Ll) (i j:Nat):Bool:=bif Nat.blt i j then Jei an j i else Jei an i j
def J1i (an:Ll) (i t:Nat):List Oper→Nat→Bool
 |[],_=>true
 |o::r,j=>(match o.dst with
  |some d=> !(Nat.beq d t)||(Nat.beq j i||cmpB an i j)
  |none=>true)&&J1i an i t r (j+1)
def Jsd (an:Ll) (ops:List Oper) (i t:Nat):Bool:=match an with
 |none=>true
 |some _=>J1i an i t ops 0
def Zr (an:Ll) (n:Nat) (recs:List Rec):List Rec:=match an with
 |none=>recs
 |some _=>recs.filter fun r=>Jei an n r.ix
def evR (an:Ll) (ops:List Oper) (n:Nat) (st:St) (recs:List Rec) (gc:GC):Operand→Option SV
 | .tmp t => if Jsd an ops n t = true then match Za recs t with
   |some r=>if Jmb r.gc gc=true then some r.out.val else none
   |none=>look st.sl t
  else none
 | .const v=>some (ofValue v)
 | .func f=>some (.v false [.fn f])
 | .global g=>some (.v false [.val (.pointer (some ⟨g,0,none⟩))])
def rsR (st:St) (recs:List Rec) (gc:GC) (id:Nat):Option Res:=
 match Jb9 recs id with
 |some (r,x)=>if Jmb r.gc gc=true then x else none
 |none=>look st.rs id
def Jk5 (bs:Nat→Option Bool):GC→Prop
 |[]=>True
 |[(j,w)]=>match bs j with|some b=>b=w|none=>False
 |(j,w)::r=>Jk5 bs r∧match bs j with|some b=>b=w|none=>False
def Xy:SV→Option Bool
 | .v false [.bool b]=>some b
 |_=>none
def Zl (recs:List Rec) (j:Nat):Option Bool:=
 match Jx9 recs j with
 |some r=>Xy r.out.val
 |none=>none
def Jup (an : Ll) (ops : List Oper) (n : Nat) (st : St) (recs : List Rec) (gc : GC) (c x y : Operand) : Option Out :=
 let fin (b:Bool) (gt gf:GC):Option Out:=match evR an ops n st recs gt x,evR an ops n st recs gf y with
  |some v,some u=>match Xy v,Xy u with
   |some p,some q=>Out.pure (.one (.bool (bif b then p else q)))
   |_,_=>none
  |_,_=>none
 match c with
 | .tmp t => if Jsd an ops n t = true then match Za recs t with
   | some r => if Jmb r.gc gc = true then match Xy r.out.val with
     |some b=>fin b ((r.ix,true)::gc) ((r.ix,false)::gc)
     |none=>none
    else none
   | none => match look st.sl t with
    |some v=>match Xy v with
     |some b=>fin b gc gc
     |none=>none
    |none=>none
  else none
 |_=>none
def J1n (an : Ll) (ops : List Oper) (n : Nat) (recs : List Rec) (o : Oper) : Option GC :=
 match o.guard with
 |none=>some []
 | some (j, want) => match Jx9 recs j with
  | some r => match Xy r.out.val, r.dst with
   | some _, some t => if Jsd an ops n t = true then match Za recs t with
     |some r'=>if r'.ix=j then some ((j,want)::r.gc) else none
     |none=>none
    else none
   |_,_=>none
  |none=>none
def Jex:Option SV→Option (List Nat)
 |some v=>some v.ids
 |none=>none
def Jsj:List (Option SV)→Option (List Nat)
 |[]=>some []
 |none::_=>none
 |some v::r=>match Jsj r with
  |some l=>some (v.ids++l)
  |none=>none
def Jc5 (an : Ll) (ev : Operand → Option SV) (o : Oper) : Option (List Nat) := match an with
 |none=>none
 | some _ => match o.op with
  | .move _| .assign _| .extract .. | .binOp .. | .unOp .. | .alloc _| .box .. | .build .. | .fieldAddr .. | .field .. | .nilCheck _| .makeFunc .. | .makeSlice .. | .makeMap .. | .pick .. =>some []
  | .load _ x=>Jex (ev x)
  | .convert _ _ x=>Jex (ev x)
  | .index _ x _=>Jex (ev x)
  | .store _ x _=>Jex (ev x)
  | .indexAddr _ x _=>Jex (ev x)
  | .slice _ x _ _ _=>Jex (ev x)
  | .lookup _ x _ _=>Jex (ev x)
  | .makeInterface _ _=>some []
  | .buildSlice _ _ ps=>Jsj (ps.toList.map fun p=>ev p.2)
  | .call c => match c.callee with
   | .builtin .len=>match c.args.toList with
    |[x]=>Jex (ev x)
    |_=>none
   |_=>none
  |_=>none
def rsT (tch:Option (List Nat)) (rs:Nat→Option Res) (id:Nat):Option Res:=match tch with
 |none=>rs id
 |some l=>if l.contains id=true then rs id else none
def Jyd (P:Program) (Γ:Gam) (an:Ll) (ops:List Oper) (st:St) (nx n:Nat) (recs:List Rec) (gc:GC) (o:Oper):Option Out:=
 match o.op with
 | .pick c x y=>Jup an ops n st recs gc c x y
 |_=>opS P Γ (evR an ops n st recs gc) (rsT (Jc5 an (evR an ops n st recs gc) o) (rsR st recs gc)) nx o
def Kfx (an:Ll) (ops:List Oper) (n:Nat) (o:Oper):Bool:=match o.dst with
 |some t=>Jsd an ops n t
 |none=>true
def Jme (P:Program) (Γ:Gam) (an:Ll) (ops:List Oper) (st:St) (nx n:Nat) (all:List Rec) (o:Oper):Option Rec:=
 match J1n an ops n (Zr an n all) o with
 |none=>none
 |some gc=>match Jyd P Γ an ops st nx n (Zr an n all) gc o with
  |some out=>if Kfx an ops n o=true∧(out.upd.all fun u=>Nat.blt u.1 nx)=true then some ⟨n,gc,o.dst,out,nx,Jc5 an (evR an ops n st (Zr an n all) gc) o⟩ else none
  |none=>none
def Jsp (P:Program) (Γ:Gam) (an:Ll) (ops:List Oper) (st:St):List Oper→Nat→Nat→List Rec→Option (List Rec)
 |[],_,_,recs=>some recs
 |o::r,nx,n,recs=>match Jme P Γ an ops st nx n recs o with
  |some x=>Jsp P Γ an ops st r (nx+x.out.news.length) (n+1) (x::recs)
  |none=>none
def J5p (an:Ll) (r s:Rec):Bool:=r.out.upd.isEmpty||(Nat.beq r.ix s.ix||(cmpB an r.ix s.ix||match s.touch with
  |some l=>r.out.upd.all fun u=> !(s.new u.1)&&(!(l.contains u.1)&&(look s.out.upd u.1).isNone)
  |none=>false))
def J8f (P:Program) (Γ:Gam) (an:Ll) (ops:List Oper) (st:St) (r s:Rec) (early:List Rec):Option (List Prop):=
 match s.touch,r.out.upd,ops[s.ix]? with
 | some [i], [(j, some y)], some o => if i = j ∧ r.gc.isEmpty = true ∧ s.gc.isEmpty = true ∧ s.out.upd.isEmpty = true ∧ s.out.news.isEmpty = true ∧ r.out.news.isEmpty = true then match o.op with
  | .pick _ _ _=>none
  |_=>match opS P Γ (evR an ops s.ix st (Zr an s.ix early) s.gc) (fun id=>if id=i then some y else none) s.base o with
   |some out=>if out.upd.isEmpty=true∧out.news.isEmpty=true∧out.pre.isEmpty=true then some [out.val=s.out.val] else none
   |none=>none
  else none
 |_,_,_=>none
def J1j (P : Program) (Γ : Gam) (an : Ll) (ops : List Oper) (st : St) (s : Rec) (early : List Rec) : List Rec → Option (List Prop)
 |[]=>some []
 | r :: l => match J1j P Γ an ops st s early l with
  | some ps => match J5p an r s with
   |true=>some ps
   |false=>match J8f P Γ an ops st r s early with
    |some qs=>some (qs++ps)
    |none=>none
  |none=>none
def Jw0 (P:Program) (Γ:Gam) (an:Ll) (ops:List Oper) (st:St) (all:List Rec):List Rec→Option (List Prop)
 |[]=>some []
 |s::early=>match J1j P Γ an ops st s early all,Jw0 P Γ an ops st all early with
  |some a,some b=>some (a++b)
  |_,_=>none
def Ja4 (recs:List Rec) (sl:List (Nat×SV)):List (Nat×SV):=
 match recs with
 |[]=>sl
 |r::l=>match r.dst with
  |some t=>if r.gc.isEmpty then(t,r.out.val)::(Ja4 l sl).filter fun p=>p.1 !=t else(Ja4 l sl).filter fun p=>p.1 !=t
  |none=>Ja4 l sl
def J5 (rs:List (Nat×Res)) (u:Nat×Option Res):List (Nat×Res):=
 match u.2 with
 |some x=>(u.1,x)::rs.filter fun p=>p.1 !=u.1
 |none=>rs.filter fun p=>p.1 !=u.1
def Jm7:List Res→Nat→List (Nat×Res)
 |[],_=>[]
 |x::r,n=>(n,x)::Jm7 r (n+1)
def Jjb (recs:List Rec) (rs:List (Nat×Res)):List (Nat×Res):=
 match recs with
 |[]=>rs
 |r::l=>
  let rs':=Jjb l rs
  if r.gc.isEmpty then Jm7 r.out.news r.base++r.out.upd.reverse.foldl J5 rs' else r.out.upd.foldl (fun rs u=>J5 rs (u.1,none)) rs'
def J1l (bs:Nat→Option Bool):List Rec→List Prop
 |[]=>[]
 |r::l=>J1l bs l++match r.gc with
  |[]=>r.out.pre
  |g=>r.out.pre.map fun p=>Jk5 bs g→p
def Lo (ps:List Prop) (q:Prop):Prop:=match ps with
 |[]=>q
 |ps=>Kf ps∧q
def Fv (nx:Nat) (recs:List Rec):Nat:=match recs with
 |[]=>nx
 |r::_=>r.base+r.out.news.length
def Dm:List Oper→List Nat→List Nat
 |[],acc=>acc
 |o::r,acc=>Dm r (acc++[o.after.toList.foldl (fun s e=>bif Region.binds .any e then s|||(2^e.on|||acc.getD e.on 0) else s) 0])
def freezeB (rs:Nat→Option Res):List SC→List (Nat×Option Res)
 |[]=>[]
 | .sl i::r=>match rs i with
  |some (.own T s xs)=>(i,some (.imm T s xs))::freezeB rs r
  |_=>freezeB rs r
 | .ptr i _::r=>match rs i with
  |some (.box T cs)=>(i,some (.fbox T cs))::freezeB rs r
  |_=>freezeB rs r
 |_::r=>freezeB rs r
def Jrc (recs:List Rec) (st:St):St:=
 ⟨st.nx,st.sl,(freezeB (look st.rs) (recs.flatMap fun r=>r.out.upd.filterMap fun u=>match u.2 with|some (.imm _ _ _)=>some (SC.sl u.1)|some (.fbox _ _)=>some (SC.ptr u.1 0)|_=>none)).reverse.foldl J5 st.rs⟩
def Jgk:List Oper→Nat→Bool
 |[],_=>true
 |o::r,n=>(o.after.toList.all fun e=> !(Region.binds .any e)||Nat.blt e.on n)&&Jgk r (n+1)
def Dt (recs:List Rec) (st:St):List Prop×St:=
 (J1l (Zl recs) recs,⟨Fv st.nx recs,Ja4 recs st.sl,Jjb recs st.rs⟩)
def Kkl (recs:List Rec):Bool:=recs.any fun r=> !r.gc.isEmpty&&r.out.upd.any fun u=>match u.2 with
 |some (.imm _ _ _)=>true
 |some (.fbox _ _)=>true
 |_=>false
def Kfj (P:Program) (Γ:Gam) (an:Ll) (ops:List Oper) (st:St) (recs:List Rec):Option (List Prop):=match Kkl recs with
 |true=>none
 |false=>Jw0 P Γ an ops st recs recs
def J1k (P : Program) (Γ : Gam) (ops : List Oper) (dr : Bool) (st : St) : Option (List Prop × St) :=
 match dr with
 |false=>match Jsp P Γ none ops st ops st.nx 0 [] with
  |none=>none
  |some recs=>some (Dt recs st)
 | true =>
  let an:=some (Dm ops [])
  if Jgk ops 0=true then match Jsp P Γ an ops st ops st.nx 0 [] with
  |none=>none
  |some recs=>match Kfj P Γ an ops st recs with
  |some qs=>some (qs++(Dt recs st).1,(Dt recs st).2)
  | none =>
   let st':=Jrc recs st
   match Jsp P Γ an ops st' ops st.nx 0 [] with
   |none=>none
   |some recs=>match Jw0 P Γ an ops st' recs recs with
    |some qs=>some (qs++(Dt recs st').1,(Dt recs st').2)
    |none=>none
  else none
structure Ann where
 X:Type
 σ:X→St
 inv:X→Prop
 mu:X→Nat
 rel:Option (X→X→Prop):=none
 frz:List Nat:=[]
 un:Nat:=0
def Jbv (ts:List Nat) (st:St):St:=match ts with
 |[]=>st
 |_=>⟨st.nx,st.sl,(freeze (look st.rs) (ts.flatMap fun t=>match look st.sl t with|some (.v _ cs)=>cs|_=>[])).reverse.foldl J5 st.rs⟩
abbrev Rn:=List (Nat×Option Nat)
def Jsx (rn:Rn):SC→SC→Option (Rn×List Prop)
 | .int k x, .int k' y=>if k=k' then some (rn,[x=y]) else none
 | .bool x, .bool y=>some (rn,[x=y])
 | .str x, .str y=>some (rn,[x=y])
 | .flt k x, .flt k' y=>if k=k' then some (rn,[x=y]) else none
 | .ptr i o, .ptr j p=>if o=p then leId rn i j else none
 | .sl i, .sl j=>leId rn i j
 | .fv i, .fv j=>leId rn i j
 | .fn f, .fn g=>if f=g then some (rn,[]) else none
 | .fno f, .fno g=>some (rn,[f=g])
 | .val (.slice none 0 0), .sl j=>match look rn j with
  |some none=>some (rn,[])
  |some (some _)=>none
  |none=>some ((j,none)::rn,[])
 | .val v, .val u=>some (rn,[v=u])
 |_,_=>none
where leId (rn:Rn) (i j:Nat):Option (Rn×List Prop):=match look rn j with
 |some (some i')=>if i=i' then some (rn,[]) else none
 |some none=>none
 |none=>some ((j,some i)::rn,[])
def leL (rn:Rn):List SC→List SC→Option (Rn×List Prop)
 |[],[]=>some (rn,[])
 | c :: r, c' :: r' => match Jsx rn c c' with
  |some (rn,p)=>match leL rn r r' with
   |some (rn,q)=>some (rn,p++q)
   |none=>none
  |none=>none
 |_,_=>none
def Jyi (rn:Rn):SV→SV→Option (Rn×List Prop)
 | .v g cs, .v g' cs'=>if g=g' then leL rn cs cs' else none
 |_,_=>none
def Jnf (rn:Rn):List SV→List SV→Option (Rn×List Prop)
 |[],[]=>some (rn,[])
 | v :: r, v' :: r' => match Jyi rn v v' with
  |some (rn,p)=>match Jnf rn r r' with
   |some (rn,q)=>some (rn,p++q)
   |none=>none
  |none=>none
 |_,_=>none
def J1m (s : St) (rn : Rn) : List (Nat × SV) → Option (Rn × List Prop)
 |[]=>some (rn,[])
 | (t, v') :: r => match look s.sl t with
  | some v => match Jyi rn v v' with
   |some (rn,p)=>match J1m s rn r with
    |some (rn,q)=>some (rn,p++q)
    |none=>none
   |none=>none
  |none=>none
def Jq3 (l : List (Nat × SV)) (rn : Rn) : List (Nat × SV) → Option (Rn × List Prop)
 |[]=>some (rn,[])
 | (t, v') :: r => match look l t with
  | some v => match Jyi rn v v' with
   |some (rn,p)=>match Jq3 l rn r with
    |some (rn,q)=>some (rn,p++q)
    |none=>none
   |none=>none
  |none=>none
def Jq5 (rn:Rn):Res→Res→Option (Rn×List Prop)
 | .box T cs, .box T' cs'=>if T=T' then leL rn cs cs' else none
 | .imm T s xs, .imm T' s' xs'=>if h:s=s' then(if T=T' then some (rn,[Y9 h xs=xs']) else none) else none
 | .own T s xs, .own T' s' xs'=>if h:s=s' then(if T=T' then some (rn,[Y9 h xs=xs']) else none) else none
 | .rbox T s x, .rbox T' s' x'=>if h:s=s' then(if T=T' then some (rn,[Jyz h x=x']) else none) else none
 | .afn ps r q f, .afn ps' r' q' f'=>if h:ps=ps'∧r=r' then some (rn,[(fun x=>q (h.1▸x))=q',(fun x=>h.2▸f (h.1▸x))=f']) else none
 | .map ks, .map ks'=>some (rn,[ks=ks'])
 | .ifc b, .ifc b'=>some (rn,[b=b'])
 | .siter s p, .siter s' p'=>some (rn,[s=s',p=p'])
 | .own T s xs, .ownT T' s' xs'=>if h:s=s' then(if T=T' then some (rn,[Y9 h xs=xs']) else none) else none
 | .ownT T s xs, .ownT T' s' xs'=>if h:s=s' then(if T=T' then some (rn,[Y9 h xs=xs']) else none) else none
 | .fbox T cs, .fbox T' cs'=>if T=T' then leL rn cs cs' else none
 | .mp kT gk gv ks vs l, .mp kT' gk' gv' ks' vs' l'=>if h:(ks=ks'∧vs=vs')∧kT=kT'∧gk=gk'∧gv=gv' then some (rn,[Joi h.1.1 h.1.2 l=l']) else none
 | .mpi j kT gk gv ks vs l seen, .mpi j' kT' gk' gv' ks' vs' l' seen'=>if h:(ks=ks'∧vs=vs')∧kT=kT'∧gk=gk'∧gv=gv' then match Jsx.leId rn j j' with
  |some (rn,p)=>some (rn,p++[Joi h.1.1 h.1.2 l=l',seen=seen'])
  |none=>none
  else none
 | .iter j ks seen, .iter j' ks' seen'=>match Jsx.leId rn j j' with
  |some (rn,p)=>some (rn,p++[ks=ks',seen=seen'])
  |none=>none
 | .clo f first caps, .clo f' first' caps' => if f = f' then match Jnf rn first first' with
  |some (rn,p)=>match Jnf rn caps caps' with
   |some (rn,q)=>some (rn,p++q)
   |none=>none
  |none=>none
  else none
 | .sus l, .sus l'=>Jq3 l rn l'
 | .yld s, .yld s'=>if s=s' then some (rn,[]) else none
 |_,_=>none
def Jng:Res→Option (List Prop)
 | .imm _ _ xs=>some [xs.length=0]
 | .own _ _ xs=>some [xs.length=0]
 | .ownT _ _ xs=>some [xs.length=0]
 |_=>none
def Jpa (rn:Rn) (j:Nat):Rn:=match look rn j with
 |some _=>rn
 |none=>(j,some j)::rn
def Jw6 (s : St) (rn : Rn) : List (Nat × Res) → Option (Rn × List Prop)
 |[]=>some (rn,[])
 | (j, x') :: r =>
  let rn:=Jpa rn j
  match look rn j with
  | some (some i) => match look s.rs i with
   | some x => if x'.spec = true ∧ i ≠ j then none else match Jq5 rn x x' with
    |some (rn,p)=>match Jw6 s rn r with
     |some (rn,q)=>some (rn,p++q)
     |none=>none
    |none=>none
   |none=>none
  |some none=>match Jng x',Jw6 s rn r with
   |some p,some (rn,q)=>some (rn,p++q)
   |_,_=>none
  |none=>none
def Js2 (rn:Rn):List Nat:=rn.filterMap (·.2)
def Ya:List Nat→Bool
 |[]=>true
 |a::l=> !l.contains a&&Ya l
def St.idsOk (s:St):Bool:=
 (s.sl.all fun p=>p.2.ids.all fun i=>decide (i<s.nx))&&(s.rs.all fun p=>decide (p.1<s.nx)&&p.2.ids.all fun i=>decide (i<s.nx))&&Ya (s.rs.map (·.1))
def Jlf (s s':St):Prop:=match J1m s [] s'.sl with
 |some (rn,p)=>match Jw6 s rn s'.rs with
  |some (rn,q)=>if Ya (Js2 rn)=true∧s'.idsOk=true then Kf (p++q) else False
  |none=>False
 |none=>False
def Jfo (ops:List Oper) (dr:Bool):Option (Tmp×Tmp×Tmp):=match dr,ops with
 |false,[o1,o2]=>match o1.op,o1.dst,o1.guard,o2.op,o2.dst,o2.guard with
  | .next (.tmp it) false,some d1,none, .extract (.tmp d1') 0,some d2,none=>if d1'=d1 then some (it,d1,d2) else none
  |_,_,_,_,_,_=>none
 |_,_=>none
def Jdo (ops:List Oper) (dr:Bool):Option (Tmp×Tmp×Tmp):=match dr,ops with
 |false,[o1,o2]=>match o1.op,o1.dst,o1.guard,o2.op,o2.dst,o2.guard with
  | .next (.tmp it) true,some d1,none, .extract (.tmp d1') 0,some d2,none=>if d1'=d1 then some (it,d1,d2) else none
  |_,_,_,_,_,_=>none
 |_,_=>none
inductive Ex where
 |normal
 |exit (id:Nat)
 |ret
def Zh (st:St) (t:Tmp×Tmp×Tmp) (b:Bool) (rs:List (Nat×Res)):St:=
 ⟨st.nx,(t.2.2, .one (.bool b))::st.sl.filter fun p=>p.1 !=t.2.1&&p.1 !=t.2.2,rs⟩
def Jiq (st:St) (t:Tmp×Tmp×Tmp) (k:Ex→St→Prop):Prop:=match look st.sl t.1 with
 | some (.v false [.sl i]) => match look st.rs i with
  |some (.iter j ks seen)=>match look st.rs j with
   | some (.map ks') => ks' = ks ∧ (∀ p, p < ks.length → p ∉ seen → k .normal (Zh st t true (J5 st.rs (i, some (.iter j ks (seen ++ [p])))))) ∧
     ((∀p,p<ks.length→p∈seen)→k .normal (Zh st t false st.rs))
   |_=>False
  |some (.mpi j kT gk gv ks vs l seen)=>match look st.rs j with
   | some (.mp kT' gk' gv' ks' vs' l') => if h : (ks' = ks ∧ vs' = vs) ∧ kT' = kT ∧ gk' = gk ∧ gv' = gv then Joi h.1.1 h.1.2 l' = l ∧ (∀ p, p < l.length → p ∉ seen → k .normal (Zh st t true (J5 st.rs (i, some (.mpi j kT gk gv ks vs l (seen ++ [p])))))) ∧
     ((∀p,p<l.length→p∈seen)→k .normal (Zh st t false st.rs)) else False
   |_=>False
  |_=>False
 |_=>False
def Jm5 (st:St) (t:Tmp×Tmp×Tmp) (v:SV) (rs:List (Nat×Res)):St:=
 ⟨st.nx,(t.2.2, .one (.bool true))::(t.2.1,v)::st.sl.filter fun p=>p.1 !=t.2.1&&p.1 !=t.2.2,rs⟩
def Ul (s:ByteArray) (pos:Nat):Int:=((Utf8.decode s pos).1:Nat)
def Jdf (s:ByteArray) (pos:Nat):Nat:=(Utf8.decode s pos).2
def Jhd (st : St) (t : Tmp × Tmp × Tmp) (k : Ex → St → Prop) : Prop := match look st.sl t.1 with
 |some (.v false [.sl i])=>match look st.rs i with
  | some (.siter s pos) => (pos < s.size → k .normal (Jm5 st t (.tup [(false, [.bool true]), (false, [.int .i64 pos]), (false, [.int .i32 (Ul s pos)])]) (J5 st.rs (i, some (.siter s (pos + Jdf s pos)))))) ∧
    (¬pos<s.size→k .normal (Zh st t false st.rs))
  |_=>False
 |_=>False
def Ex.catch (id:Nat) (k:Ex→St→Prop):Ex→St→Prop
 | .exit i,s=>if i=id then k .normal s else k (.exit i) s
 |e,s=>k e s
def Ex.andThen (f:St→Prop) (k:Ex→St→Prop):Ex→St→Prop
 | .normal,s=>f s
 |e,s=>k e s
def wpS (P:Program) (Γ:Gam) (ann:Nat→Option Ann):Code→St→(Ex→St→Prop)→Prop
 | .skip,st,k=>k .normal st
 | .region _ ops dr, st, k => match Jfo ops.toList dr with
  |some t=>Jiq st t k
  |none=>match J1k P Γ ops.toList dr st with
   |some (ps,st')=>Lo ps (k .normal st')
   |none=>False
 | .seq a b,st,k=>wpS P Γ ann a st (Ex.andThen (fun s=>wpS P Γ ann b s k) k)
 | .cond c a b, st, k => match c with
  | .tmp t=>match look st.sl t with
   |some (.v false [.bool x])=>(x=true→wpS P Γ ann a st k)∧(x=false→wpS P Γ ann b st k)
   |_=>False
  |_=>False
 | .block id (.loop c), st, k => match ann id with
  |some A=>match A.rel with
   |none=>∃x,Jlf (Jbv A.frz st) (A.σ x)∧A.inv x∧∀x,A.inv x→wpS P Γ ann c (A.σ x) (Ex.andThen (fun s=>∃y,Jlf s (A.σ y)∧A.inv y∧A.mu y<A.mu x) (Ex.catch id k))
   |some r=>∃x0,Jlf (Jbv A.frz st) (A.σ x0)∧(A.inv x0∧r x0 x0)∧∀x,A.inv x∧r x0 x→wpS P Γ ann c (A.σ x) (Ex.andThen (fun s=>∃y,Jlf s (A.σ y)∧(A.inv y∧r x0 y)∧A.mu y<A.mu x) (Ex.catch id k))
  |none=>False
 | .block id c,st,k=>wpS P Γ ann c st (Ex.catch id k)
 | .exit id,st,k=>k (.exit id) st
 | .ret,st,k=>k .ret st
 | .scope c,st,k=>wpS P Γ ann c st k
 | .label _,st,k=>k .normal st
 |_,_,_=>False
def Jw8:List Prop→Prop→Prop
 |[],q=>q
 |p::r,q=>p→Jw8 r q
def Kn:(k:AK)→k.T→Nat→SV×List Res
 | .val g s,x,n=>let r:=Ka (enc s x) n;(.v g r.1,r.2)
 | .ref T s,x,n=>(.one (.ptr n 0),[.rbox T s x])
 | .fn ps r,x,n=>(.one (.fv n),[.afn ps r x.1 x.2])
def Ky:(ks:List AK)→ATup ks→Nat→List SV×List Res
 |[],_,_=>([],[])
 |k::r,x,n=>
  let a:=Kn k x.1 n
  let b:=Ky r x.2 (n+a.2.length)
  (a.1::b.1,a.2++b.2)
def Jko {α:Type}:List α→Nat→List (Nat×α)
 |[],_=>[]
 |x::r,n=>(n,x)::Jko r (n+1)
def Jav (c:Con) (x:ATup c.args):St:=
 let a:=Ky c.args x 0
 ⟨a.2.length,Jko a.1 0,Jko a.2 0⟩
def Uf (P : Program) (s : St) : List ResultVar → Option (List SV)
 |[]=>some []
 | .tmp t::r=>match look s.sl t,Uf P s r with
  |some v,some l=>some (v::l)
  |_,_=>none
 | .cell t T :: r => match look s.sl t, Uf P s r with
  | some (.v false [.ptr i 0]), some l => match look s.rs i with
   | some (.box U cs) => if U = T ∧ J7 P T = some cs.length then match shape P T cs with
     |some v=>some (v::l)
     |none=>none
    else none
   |_=>none
  |_,_=>none
def H0:List Bool→List SV→List SV
 |_,[]=>[]
 |[],vs=>vs
 |b::ow,v::vs=>if b=true then H0 ow vs else v::H0 ow vs
def Je7 (rs:Nat→Option Res) (owns:List Bool) (vs:List SV):List (Nat×Option Res):=(H0 owns vs).flatMap fun v=>match v with
 | .v _ cs=>freeze rs cs
 |_=>[]
def Jst (rs:Nat→Option Res) (upd:List (Nat×Option Res)) (p:Bool×Sch) (v:SV):Bool:=match p,v with
 |(false, .list T _), .v false [.sl i]=>match rs i with
  |some (.own T' _ _)=>decide (T'=T)&&(look upd i).isNone
  |_=>false
 |(false, .list _ _), .v false [.val (.slice none 0 0)]=>true
 |_,_=>false
def Jfm (rs:Nat→Option Res) (upd:List (Nat×Option Res)):List (Bool×Sch)→List Bool→List SV→Bool
 |_,[],_=>true
 |p::ps,b::ow,v::vs=>(if b=true then Jst rs upd p v else true)&&Jfm rs upd ps ow vs
 |_,_,_=>false
def Jlt:(ps:List (Bool×Sch))→Tup ps→Tup ps→List Prop
 |[],_,_=>[]
 |_::r,x,y=>(x.1=y.1)::Jlt r x.2 y.2
def Jw4 (P:Program) (fn:Func) (c:Con) (x:ATup c.args) (s:St):Prop:=
 match Uf P s fn.results.toList with
 |some vs=>match Zs (look s.rs) c.ress vs with
  |some y=>if Jfm (look s.rs) (Je7 (look s.rs) c.owns vs) c.ress c.owns vs=true then Kf (Jlt c.ress y (c.spec x)) else False
  |none=>False
 |none=>False
def Uo (N:Nat):Code→Bool
 | .region _ ops _=>ops.toList.all fun o=>match o.dst with
  |some t=>Nat.blt t N
  |none=>true
 | .seq a b=>Uo N a&&Uo N b
 | .cond _ a b=>Uo N a&&Uo N b
 | .block _ c=>Uo N c
 | .loop c=>Uo N c
 | .scope c=>Uo N c
 | .rangeFunc _ ps a b=>ps.toList.all (fun t=>Nat.blt t N)&&(Uo N a&&Uo N b)
 |_=>true
def Lr (fn:Func) (c:Con):Bool:=match fn.body with
 |some code=>Uo fn.ntmps code&&Nat.ble c.args.length fn.ntmps&& !(fn.name== "runtime.NumGoroutine")&&c.srt.isNone&&c.prim.isNone
 |none=>false
@[irreducible] def wpF (P:Program) (Γ:Gam) (ann:Nat→Option Ann) (fn:Func) (c:Con) (x:ATup c.args):Prop:=
 match fn.body with
 |some code=>Jw8 (c.pre x)<|wpS P Γ ann code (Jav c x) fun e s=>match e with
  | .exit _=>False
  |_=>Jw4 P fn c x s
 |none=>False
def Jwx (_ _:Nat):Prop:=False
end Go.Sx
namespace Go.Sx
theorem Jow {α:Type}:∀(x:Ask α) (w:World),w.drawn≤(w.ask x).2.drawn:=by
 intro x
 induction x with
 |done a=>intro w;exact Nat.le_refl _
 | ask what range k ih =>
  intro w
  unfold World.ask
  simp only
  split
  ·exact ih _ _
  ·have q:=ih ((Question.extern what range).cut (w.tape w.drawn (Question.extern what range))) {w with drawn:=w.drawn+1}
   exact Nat.le_trans (Nat.le_succ _) q
theorem Jl3 (w:World) (c:Sys):w.drawn≤(w.sys c).2.drawn:=by
 have h:=Jow (Kernel.perform c w.os) w
 unfold World.sys
 generalize w.ask (Kernel.perform c w.os)=r at h⊢
 split
 ·exact Nat.le_refl _
 ·exact h
theorem Jbw {P:Program} {w w':World} {a:Addr} {v:Value} {at_:Bool} {l:List Addr} (h:w.farStore P a v at_= .ok (w',l)):w'.drawn=w.drawn:=by
 unfold World.farStore at h
 split at h
 ·split at h
  ·rename_i r hr
   cases h
   unfold World.viewStore at hr
   simp only[bind,Except.bind,pure,Except.pure,throw,throwThe,MonadExceptOf.throw] at hr
   repeat' split at hr
   all_goals first|(cases hr;done)|(cases hr;rfl)|skip
  ·cases h
 ·cases h
theorem F2 {α:Type} {P:Program}:∀{s:Sem α} {w w':World} {a:α},s.run P w= .ok a w'→w.drawn≤w'.drawn:=by
 intro s
 induction s with
 |pure a=>intro w w' a h;cases h;exact Nat.le_refl _
 |load m a k ih=>
  intro w w' x h
  simp only[Sem.run] at h
  repeat' split at h
  all_goals first|exact ih _ h|cases h
 | store m a v k ih =>
  intro w w' x h
  have key:(match w.cell? a with
   |some _=>if w.frozen? a then Result.halt (.unsupported (.unsafePointer "a write to bytes that a string shares")) w else k.run P (w.setCell a v)
   |none=>match w.farStore P a v (m==Mode.atomic) with
    | .ok (w,_)=>k.run P w
    | .error h=> .halt h w)= .ok x w':=by
   cases v<;>first|exact h|(simp[Sem.run] at h;done)
  split at key
  ·split at key
   ·cases key
   ·have q:=ih key;exact q
  ·split at key
   ·rename_i hf
    have q:=ih key
    rw[Jbw hf] at q;exact q
   ·cases key
 |new o k ih=>intro w w' x h;simp only[Sem.run] at h;have q:=ih _ h;exact q
 |shape r k ih=>intro w w' x h;simp only[Sem.run] at h;exact ih _ h
 |freeze a n k ih=>
  intro w w' x h
  simp only[Sem.run] at h
  have:=ih h
  unfold World.freeze at this
  split at this<;>exact this
 |frozen a k ih=>intro w w' x h;simp only[Sem.run] at h;exact ih _ h
 |getObj r k ih=>
  intro w w' x h
  simp only[Sem.run] at h
  repeat' split at h
  all_goals first|exact ih _ h|cases h
 |setObj r o k ih=>
  intro w w' x h
  simp only[Sem.run] at h
  repeat' split at h
  all_goals first|(have q:=ih h;exact q)|cases h
 |choose q k ih=>
  intro w w' x h
  simp only[Sem.run] at h
  split at h
  ·exact ih _ h
  ·have q:=ih _ h;exact Nat.le_trans (Nat.le_succ _) q
 |sys c k ih=>intro w w' x h;simp only[Sem.run] at h;have q:=ih _ h;exact Nat.le_trans (Jl3 w c) q
 |program k ih=>intro w w' x h;simp only[Sem.run] at h;exact ih _ h
 |mark m k ih=>intro w w' x h;simp only[Sem.run] at h;exact ih h
 |halt h0=>intro w w' x h;simp[Sem.run] at h
structure DrB where
 b:Bool
 t:Bool
abbrev Dr:=Inhabited DrB
abbrev Dr.on:Dr:=⟨⟨true,false⟩⟩
abbrev Dr.off:Dr:=⟨⟨false,true⟩⟩
structure Below [Dr] (B:Nat) (w w':World):Prop where
 os:w'.os=w.os
 tape:w'.tape=w.tape
 output:w'.output=w.output
 size:w.heap.size≤w'.heap.size
 block:∀k,k<B→w'.heap[k]? =w.heap[k]?
 drawn:(default:DrB).b=true→w.drawn≤w'.drawn
theorem Below.ofK {B:Nat} {w w':World} (h:RowKit.Below B w w'): @Below .off B w w':= @Below.mk .off B w w' h.os h.tape h.output h.size h.block fun e=>Bool.noConfusion e
theorem Below.dr {B:Nat} {w w':World} (h: @Below .on B w w'):w.drawn≤w'.drawn:= @Below.drawn .on _ _ _ h rfl
theorem Below.grew {w w':World} (h:RowKit.Below w.heap.size w w') (h2:w.drawn≤w'.drawn):∃q os,w'={w with heap:=w.heap++os,drawn:=w.drawn+q}:=by
 refine⟨w'.drawn-w.drawn,w'.heap.extract w.heap.size w'.heap.size, ?_⟩
 have h1:w'.heap=w.heap++w'.heap.extract w.heap.size w'.heap.size:=by
  apply Array.ext'
  apply List.ext_getElem?
  intro i
  rw[Array.toList_append,List.getElem?_append]
  split
  ·rename_i hi
   have:=h.block i (by simpa using hi)
   simpa using this
  ·rename_i hi
   simp only[Array.length_toList,Nat.not_lt] at hi
   simp only[Array.getElem?_toList,Array.length_toList]
   rw[Array.getElem?_extract]
   split
   ·congr 1;omega
   ·rename_i h2
    rw[Array.getElem?_eq_none]
    omega
 have h3:w'.drawn=w.drawn+(w'.drawn-w.drawn):=by omega
 obtain⟨hp,tp,dr,os,ou⟩:=w'
 have e1:=h.os;have e2:=h.tape;have e3:=h.output
 simp only at h1 h3 e1 e2 e3⊢
 rw[←h1,←h3,e1,e2,e3]
theorem Below.kit [Dr] {B:Nat} {w w':World} (h:Below B w w'):RowKit.Below B w w':=⟨h.os,h.tape,h.output,h.size,h.block⟩
theorem Below.of [Dr] {B:Nat} {w w':World} (h:RowKit.Below B w w') (hd:w.drawn≤w'.drawn):Below B w w':=⟨h.os,h.tape,h.output,h.size,h.block,fun _=>hd⟩
theorem Below.of' [Dr] {B:Nat} {w w':World} (h:RowKit.Below B w w') (hd:(default:DrB).b=true→w.drawn≤w'.drawn):Below B w w':=⟨h.os,h.tape,h.output,h.size,h.block,hd⟩
theorem Below.any [Dr] {B:Nat} {w w':World} (h: @Below .on B w w'):Below B w w':=⟨@Below.os .on _ _ _ h,@Below.tape .on _ _ _ h,@Below.output .on _ _ _ h,@Below.size .on _ _ _ h,@Below.block .on _ _ _ h,fun _=>h.dr⟩
theorem Below.refl [Dr] (B:Nat) (w:World):Below B w w:=⟨rfl,rfl,rfl,Nat.le_refl _,fun _ _=>rfl,fun _=>Nat.le_refl _⟩
theorem Below.trans [Dr] {B:Nat} {a b c:World} (h:Below B a b) (k:Below B b c):Below B a c:=
 .of' (h.kit.trans k.kit) fun e=>Nat.le_trans (h.drawn e) (k.drawn e)
theorem Below.mono [Dr] {B B':Nat} {w w':World} (h:Below B w w') (hB:B'≤B):Below B' w w':= .of' (h.kit.mono hB) h.drawn
theorem Below.drew [Dr] {B:Nat} {a w:World} (h:Below B a w):Below B a w.drew:= .of' h.kit.drew fun e=>Nat.le_trans (h.drawn e) (Nat.le_succ _)
theorem Below.heap_alloc (w:World) (o:Obj) (k:Nat) (h:k<w.heap.size):(w.alloc o).heap[k]? =w.heap[k]? :=RowKit.Below.heap_alloc w o k h
theorem Below.alloc [Dr] {B:Nat} {a w:World} (h:Below B a w) (hB:B≤w.heap.size) (o:Obj):Below B a (w.alloc o):= .of' (h.kit.alloc hB o) h.drawn
theorem Below.setCell [Dr] {B:Nat} {a w:World} (h:Below B a w) {p:Addr} (hp:B≤p.block) (u:Value):Below B a (w.setCell p u):= .of' (h.kit.setCell hp u) h.drawn
theorem Below.grown [Dr] {B:Nat} {a w w':World} {row:Option Nat} (h:Below B a w) (hg:w.grownBy w' row) (hd:w.drawn≤w'.drawn) (hB:B≤w.heap.size) (hr:∀k,row=some k→B≤k):Below B a w':=
 .of' (h.kit.grown hg hB hr) fun e=>Nat.le_trans (h.drawn e) hd
end Go.Sx
namespace Go.Sx
open Go.RowKit
theorem Kz.imp {α:Type} {R R':α→List Value→Prop} (h:∀x cs,R x cs→R' x cs):∀{xs:List α} {cs:List Value},Kz R xs cs→Kz R' xs cs
 |[],_,e=>e
 |_::_,_,⟨c1,c2,e,h1,h2⟩=>⟨c1,c2,e,h _ _ h1,Kz.imp h h2⟩
theorem Jpd.keep {M M':Nat→Prop} {w w':World} {n:Nat} {v:Value} {flat:List Value} (h:Jpd M w n v flat) (hM:∀b,M b→M' b∧w'.heap[b]? =w.heap[b]?):Jpd M' w' n v flat:=by
 rcases h with h|⟨b,off,cap,rfl,hc,hk,hm⟩
 ·exact .inl h
 ·refine .inr ⟨b,off,cap,rfl,hc,fun k u hu=> ?_,fun hf=>(hM b (hm hf)).1⟩
  have hne:flat≠[]:=by rintro rfl;simp at hu
  exact(World.cell?_of_block (w:=w) (hM b (hm hne)).2).trans (hk k u hu)
theorem Rep.keep {M M':Nat→Prop} {w w':World} (hM:∀b,M b→M' b∧w'.heap[b]? =w.heap[b]?):∀{s:Sch} {x:s.T} {cs:List Value},Rep M w s x cs→Rep M' w' s x cs
 | .int _,_,_,h=>h
 | .bool,_,_,h=>h
 | .str,_,_,h=>h
 | .flt _,_,_,h=>h
 | .fnc,_,_,h=>h
 | .prod _ _,_,_,⟨c1,c2,e,h1,h2⟩=>⟨c1,c2,e,Rep.keep hM h1,Rep.keep hM h2⟩
 | .list _ _,_,_,⟨v,flat,e,h1,h2⟩=>⟨v,flat,e,h1.imp fun _ _ h=>Rep.keep hM h,h2.keep hM⟩
theorem Rep.length {M:Nat→Prop} {w:World}:∀{s:Sch} {x:s.T} {cs:List Value},Rep M w s x cs→cs.length=s.size
 | .int _,_,_,h=>by rw[show _=[_] from h];rfl
 | .bool,_,_,h=>by rw[show _=[_] from h];rfl
 | .str,_,_,h=>by rw[show _=[_] from h];rfl
 | .flt _,_,_,h=>by rw[show _=[_] from h];rfl
 | .fnc,_,_,h=>by rw[show _=[_] from h];rfl
 | .prod _ _,_,_,⟨c1,c2,e,h1,h2⟩=>by rw[e,List.length_append,Rep.length h1,Rep.length h2];rfl
 | .list _ _,_,_,⟨v,flat,e,h1,h2⟩=>by rw[e];rfl
theorem Kz.length {M:Nat→Prop} {w:World} {s:Sch}:∀{xs:List s.T} {cs:List Value},Kz (Rep M w s) xs cs→cs.length=xs.length*s.size
 |[],_,e=>by rw[show _=[] from e];simp
 |_::_,_,⟨c1,c2,e,h1,h2⟩=>by rw[e,List.length_append,h1.length,Kz.length h2,List.length_cons,Nat.succ_mul];omega
def Kin (w:World):Prop:=∀off s,Kfu[off]? =some s→w.cell? ⟨Jw7,off,none⟩=some (.string s)
def Tab [Dr] (P:Program) (w:World):Prop:=Lib.TabIs P w "internal/strconv.uint64pow10" .u64 Lib.pow10Tab∧Kin w
def Good [Dr] (P:Program) (w:World):Prop:=∀w',Below w.heap.size w w'→Tab P w'
theorem Good.mono [Dr] {P:Program} {w w':World} (h:Good P w) (hb:Below w.heap.size w w'):Good P w':=fun w2 h2=>h w2 (hb.trans ⟨h2.os,h2.tape,h2.output,h2.size,fun k hk=>h2.block k (Nat.lt_of_lt_of_le hk hb.size),h2.drawn⟩)
def V0:List Int→Nat→List MapEntry
 |[],_=>[]
 |k::r,n=>{key:= .int .i64 k,val:= .bool true,born:=n}::V0 r (n+1)
def Jkm (w:World) (B:Nat) (T:TypeId) (sz:Nat) (v:Value) (n:Nat) (flat:List Value):Prop:=
 flat.length=n*sz∧((v= .slice none 0 0∧n=0)∨∃g d cap cur,v= .slice (some ⟨g,d,none⟩) n cap∧B≤g∧w.heap[g]? =some (.cells cur T (0,0))∧n≤cap∧cap≤maxLen∧d+cap*sz≤cur.size∧(cur.toList.drop d).take (n*sz)=flat)
def Jt (M:Nat→Prop) (w:World) (gk gv:Bool) (ks vs:Sch):List (ks.T×vs.T)→Nat→List MapEntry→Prop
 |[],_,es=>es=[]
 |x::l,n,es=>∃kc vc r,es={key:=valOf gk kc,val:=valOf gv vc,born:=n}::r∧Rep M w ks x.1 kc∧Rep M w vs x.2 vc∧Jt M w gk gv ks vs l (n+1) r
theorem Jt.keep {M M':Nat→Prop} {w w':World} {gk gv:Bool} {ks vs:Sch} (hM:∀b,M b→M' b∧w'.heap[b]? =w.heap[b]?):∀{l:List (ks.T×vs.T)} {n:Nat} {es:List MapEntry},Jt M w gk gv ks vs l n es→Jt M' w' gk gv ks vs l n es
 |[],_,_,h=>h
 |_::_,_,_,⟨kc,vc,r,e,h1,h2,h3⟩=>⟨kc,vc,r,e,h1.keep hM,h2.keep hM,h3.keep hM⟩
def Jel (P:Program) (kT:TypeId) (gk gv:Bool) (ks vs:Sch):Prop:=
 Kc P kT=some gk∧ks.hasList=false∧(gk=false→ks.size=1)∧(gv=false→vs.size=1)∧(∀k k':ks.T,eqT P 20 kT (Sx.enc ks k) (Sx.enc ks k')=some (Xs ks k k'))∧∀k:ks.T,Jnj P 20 kT (Sx.enc ks k)=true
def Enters (P:Program) (f:FuncId):Prop:=∃fn,P.funcs[f]? =some fn∧fn.body.isNone=false∧(fn.name== "runtime.NumGoroutine")=false
def Jum:List Value→Value
 |[v]=>v
 |l=> .tuple l.toArray
def Jbm (M:Nat→Prop) (w:World) (B:Nat) (p:Bool×Sch) (o:Bool) (x:p.2.T) (v:Value):Prop:=
 match o,p,x with
 |true,(false, .list T s),xs=>∃flat,Kz (Rep M w s) xs flat∧w.ownsRow B T s.size v (xs:List s.T).length flat∧∀g,v.ownBlock=some g→¬M g
 |_,p,x=>∃cs,v=valOf p.1 cs∧Rep M w p.2 x cs
def Zp (M:Nat→Prop) (w:World) (B:Nat):(ps:List (Bool×Sch))→List Bool→Tup ps→List Value→Prop
 |[],_,_,vs=>vs=[]
 |p::r,ow,y,vs=>∃v vs',vs=v::vs'∧Jbm M w B p (ow.headD false) y.1 v∧Zp M w B r ow.tail y.2 vs'
def Jj7 [Dr] (M:Nat→Prop) (w:World) (ress:List (Bool×Sch)) (owns:List Bool) (y:Tup ress) (e:Ending) (w':World):Prop:=
 ∃M' vs,e= .returned (Jum vs)∧Below w.heap.size w w'∧(∀b,M b→M' b)∧(∀b,M' b→M b∨(w.heap.size≤b∧b<w'.heap.size))∧Zp M' w' w.heap.size ress owns y vs
def Jpb (M:Nat→Prop) (w:World):(ps:List (Bool×Sch))→Tup ps→List Value→Prop
 |[],_,vs=>vs=[]
 |p::r,x,vs=>∃cs vs',vs=valOf p.1 cs::vs'∧Rep M w p.2 x.1 cs∧Jpb M w r x.2 vs'
def Jpu [Dr] (P:Program) (M R:Nat→Prop) (w:World) (ps:List (Bool×Sch)) (r:Bool×Sch) (pre:Tup ps→List Prop) (h:Tup ps→r.2.T) (v:Value):Prop:=
 ∃f first caps,v= .func (.func f) first caps∧Enters P f∧∀(x:Tup ps) (M':Nat→Prop) (w':World) (vs:List Value),(∀b,M b→M' b)→(∀b,M b∨R b→w'.heap[b]? =w.heap[b]?)→(∀b,M' b→b<w'.heap.size)→Good P w'→
  Kf (pre x)→Jpb M' w' ps x vs→Calls P f (first++vs.toArray++caps) w' (Jj7 M' w' [r] [] (h x,()))
def Jh4 (M R:Nat→Prop) (w:World) (T:TypeId) (s:Sch) (x:s.T) (v:Value):Prop:=
 ∃b cs,v= .pointer (some ⟨b,0,none⟩)∧w.heap[b]? =some (.cells cs.toArray T (0,0))∧R b∧Rep M w s x cs
def Jh5 [Dr] (P:Program) (M R:Nat→Prop) (w:World):(k:AK)→k.T→Value→Prop
 | .val g s,x,v=>∃cs,v=valOf g cs∧Rep M w s x cs
 | .ref T s,x,v=>Jh4 M R w T s x v
 | .fn ps r,x,v=>Jpu P M R w ps r x.1 x.2 v
def Vl [Dr] (P:Program) (M R:Nat→Prop) (w:World):(ks:List AK)→ATup ks→List Value→Prop
 |[],_,vs=>vs=[]
 |k::r,x,vs=>∃v vs',vs=v::vs'∧Jh5 P M R w k x.1 v∧Vl P M R w r x.2 vs'
def Jlb (b:Bool) (v:Value):Prop:=match b with
 |false=>v= .nilIface
 |true=>∃T u,v= .iface T u
def Jpc [Dr] (P:Program) (f:FuncId) (z:Srt):Prop:=
 ∀(w:World) (B:Nat) (v:Value) (xs:List z.s.T) (flat:List Value),B≤w.heap.size→(∀w',Below B w w'→Tab P w')→Kz (Rep (fun _=>False) w z.s) xs flat→w.ownsRow B z.T z.s.size v xs.length flat→z.pre xs→
  Calls P f #[v, .func (.func z.g) #[] #[]] w fun e w'=>e= .returned (.tuple #[])∧∃ys:List z.s.T,(match z.rel with|none=>ys=z.f xs|some r=>r xs ys)∧ys.length=xs.length∧∃flat',Kz (Rep (fun _=>False) w' z.s) ys flat'∧w'.ownsRow B z.T z.s.size v xs.length flat'∧w.grownBy w' v.ownBlock∧w.drawn≤w'.drawn
theorem Jpu.keep [Dr] {P:Program} {M M' R R':Nat→Prop} {w w':World} {ps r pre h v} (H:Jpu P M R w ps r pre h v) (hM:∀b,M b→M' b) (hR:∀b,R b→R' b) (hh:∀b,M b∨R b→w'.heap[b]? =w.heap[b]?):Jpu P M' R' w' ps r pre h v:=by
 obtain⟨f,first,caps,e,hf,H⟩:=H
 exact⟨f,first,caps,e,hf,fun x M2 w2 vs h1 h2 h3=>H x M2 w2 vs (fun b hb=>h1 b (hM b hb)) (fun b hb=>(h2 b (hb.imp (hM b) (hR b))).trans (hh b hb)) h3⟩
theorem Jh4.keep {M M' R R':Nat→Prop} {w w':World} {T s x v} (H:Jh4 M R w T s x v) (hM:∀b,M b→M' b) (hR:∀b,R b→R' b) (hh:∀b,M b∨R b→w'.heap[b]? =w.heap[b]?):Jh4 M' R' w' T s x v:=by
 obtain⟨b,cs,e,h1,h2,h3⟩:=H
 exact⟨b,cs,e,(hh b (.inr h2)).trans h1,hR b h2,h3.keep fun b hb=>⟨hM b hb,hh b (.inl hb)⟩⟩
def Uh [Dr] (P:Program) (ρ:Env) (M R:Nat→Prop) (B:Nat) (w:World) (r:Nat):Res→Prop
 | .box T cs=>∃b,ρ r= .pointer (some ⟨b,0,none⟩)∧w.heap[b]? =some (.cells (cs.map (SC.den ρ)).toArray T (0,0))∧¬M b∧¬R b∧B≤b
 | .imm T s xs=>Rep M w (.list T s) xs [ρ r]
 | .own T s xs=>∃flat,Kz (Rep M w s) xs flat∧w.ownsRow B T s.size (ρ r) xs.length flat∧∀g,(ρ r).ownBlock=some g→¬M g∧¬R g
 | .clo f first caps=>ρ r= .func (.func f) (first.map (SV.den ρ)).toArray (caps.map (SV.den ρ)).toArray
 | .rbox T s x=>Jh4 M R w T s x (ρ r)
 | .afn ps r' pre h=>Jpu P M R w ps r' pre h (ρ r)
 | .map ks=>∃b es,ρ r= .map (some b)∧w.heap[b]? =some (.map es ks.length)∧es.toList=V0 ks 0∧¬M b∧¬R b∧B≤b
 | .iter j ks seen=>∃b m,ρ r= .pointer (some ⟨b,0,none⟩)∧ρ j= .map (some m)∧w.heap[b]? =some (.mapIter (some m) ks.length seen.toArray ks.length)∧¬M b∧¬R b∧B≤b
 | .ownT T s xs=>∃flat,Kz (Rep M w s) xs flat∧Jkm w B T s.size (ρ r) xs.length flat∧∀g,(ρ r).ownBlock=some g→¬M g∧¬R g
 | .fbox T cs=>∃b,ρ r= .pointer (some ⟨b,0,none⟩)∧w.heap[b]? =some (.cells (cs.map (SC.den ρ)).toArray T (0,0))∧M b
 | .mp kT gk gv ks vs l=>Jel P kT gk gv ks vs∧∃b es,ρ r= .map (some b)∧w.heap[b]? =some (.map es l.length)∧Jt M w gk gv ks vs l 0 es.toList∧¬M b∧¬R b∧B≤b
 | .mpi j kT gk gv ks vs l seen=>∃b m,ρ r= .pointer (some ⟨b,0,none⟩)∧ρ j= .map (some m)∧w.heap[b]? =some (.mapIter (some m) l.length seen.toArray l.length)∧¬M b∧¬R b∧B≤b
 | .sus _=>False
 | .yld _=>False
 | .ifc b=>Jlb b (ρ r)
 | .ifb T v=>ρ r= .iface T (v.den ρ)
 | .lit T xs=>0<xs.length∧∃b m,ρ r= .slice (some ⟨b,0,none⟩) xs.length xs.length∧w.heap[b]? =some (.cells (xs.map (Value.int .u8)).toArray T m)∧¬M b∧¬R b∧B≤b
 | .siter s pos=>∃b,ρ r= .pointer (some ⟨b,0,none⟩)∧w.heap[b]? =some (.stringIter s pos)∧¬M b∧¬R b∧B≤b
def blk:Value→Option Nat
 | .map (some r)=>some r
 | .pointer (some a)=>some a.block
 | .slice (some a) _ _=>some a.block
 | .func (.yield l) _ _=>some l
 |_=>none
inductive Jsc where
 |vals (T:Nat→Value)
 |loop (l:Nat) (rc:Loop)
structure K8 where
 w:World
 M:Nat→Prop
 an:Nat→Option Jsc:=fun _=>none
 marks:Bool:=true
def YS.st:YS→LoopState
 | .ready=> .ready
 | .busy=> .busy
 | .done _=> .done
def YS.pend:YS→Option Code
 | .done none=>some .ret
 | .done (some i)=>some (.exit i)
 |_=>none
def Jbx [Dr] (P:Program) (ρ:Env) (M R:Nat→Prop) (B:Nat) (w0:K8) (w:World) (r:Nat):Res→Prop
 | .sus l=>∃T,w0.an r=some (.vals T)∧∀p∈l,T p.1=p.2.den ρ
 | .yld s=>∃l rc,w0.an r=some (.loop l rc)∧ρ r= .func (.yield l) #[] #[]∧w.heap[l]? =some (.loop {rc with state:=s.st,pending:=s.pend})∧¬M l∧¬R l∧B≤l
 |x=>Uh P ρ M R B w r x
theorem Uh.a [Dr] {P:Program} {ρ:Env} {M R:Nat→Prop} {B:Nat} {w0:K8} {w:World} {r:Nat} {x:Res} (h:Uh P ρ M R B w r x):Jbx P ρ M R B w0 w r x:=by
 cases x<;>first|exact h|exact h.elim
theorem Jbx.ok [Dr] {P:Program} {ρ:Env} {M R:Nat→Prop} {B:Nat} {w0:K8} {w:World} {r:Nat} {x:Res} (h:Jbx P ρ M R B w0 w r x) (hx:x.spec=false):Uh P ρ M R B w r x:=by
 cases x<;>first|exact h|cases hx
def Jwy [Dr] (P:Program) (ρ:Env) (M R:Nat→Prop) (B:Nat) (w:World) (r:Nat):Res→Prop
 | .sus _=>True
 | .yld _=>True
 |x=>Uh P ρ M R B w r x
theorem Jbx.w [Dr] {P:Program} {ρ:Env} {M R:Nat→Prop} {B:Nat} {w0:K8} {w:World} {r:Nat} {x:Res} (h:Jbx P ρ M R B w0 w r x):Jwy P ρ M R B w r x:=by
 cases x<;>first|exact h|trivial
def Jr9 (M R:Nat→Prop) (B n:Nat) (w:World) (ds:List Deferred):Prop:=
 (∀d∈ds,∃D,d={target:= .collected D,args:= #[]}∧M D∧w.heap[D]? =some (.deferred (some []))∧¬R D∧B≤D∧n≤D)∧ds.Nodup
structure Jl [Dr] (P:Program) (N B:Nat) (w0:K8) (al:Nat→Prop) (τ:Nat→Option SV) (σ:Nat→Option Res) (a:Act) (w:World) (ρ:Env) (M R:Nat→Prop):Prop where
 size:a.tmps.size=N
 defers:Jr9 M R B w0.w.heap.size w a.defers
 nomark:w0.marks=false→a.defers=[]
 stay:∀b,w0.M b→w.heap[b]? =w0.w.heap[b]?
 stayR:∀b,R b→w.heap[b]? =w0.w.heap[b]?
 below:Below B w0.w w
 base:B≤w.heap.size
 slot:∀t sv,τ t=some sv→a.tmps.getD t undef=sv.den ρ
 slotIds:∀t sv,τ t=some sv→∀id∈sv.ids,al id
 resA:∀r x,σ r=some x→Jbx P ρ M R B w0 w r x
 resIds:∀r x,σ r=some x→al r∧∀id∈x.ids,al id
 apart:∀r r' x x',r≠r'→σ r=some x→σ r'=some x'→x.owning=true→x'.owning=true→∀b,blk (ρ r)=some b→blk (ρ r')≠some b
 old:∀b,M b∨R b→b<w.heap.size
 one:∀i,al i→(ρ i).oneCell'=true
 up:∀b,(M b→w0.M b∨B≤b∧¬R b)∧(w0.M b→M b)
 good:∀w',Below B w0.w w'→Tab P w'
theorem Jl.res [Dr] {P:Program} {N B:Nat} {w0:K8} {al:Nat→Prop} {τ:Nat→Option SV} {σ:Nat→Option Res} {a:Act} {w:World} {ρ:Env} {M R:Nat→Prop} (C:Jl P N B w0 al τ σ a w ρ M R) (r:Nat) (x:Res) (h:σ r=some x):Jwy P ρ M R B w r x:=(C.resA r x h).w
theorem Jr9.keep {M M' R:Nat→Prop} {B n:Nat} {w w':World} {ds:List Deferred} (h:Jr9 M R B n w ds) (hM:∀b,M b→M' b) (hh:∀b,M b→w'.heap[b]? =w.heap[b]?):Jr9 M' R B n w' ds:=
 ⟨fun d hd=>by obtain⟨D,h1,h2,h3,h4⟩:=h.1 d hd;exact⟨D,h1,hM D h2,(hh D h2).trans h3,h4⟩,h.2⟩
theorem Jl.goodNow [Dr] {P:Program} {N B:Nat} {w0:K8} {al:Nat→Prop} {τ:Nat→Option SV} {σ:Nat→Option Res} {a:Act} {w:World} {ρ:Env} {M R:Nat→Prop} (C:Jl P N B w0 al τ σ a w ρ M R):Good P w:=
 fun w' h=>C.good w' (C.below.trans ⟨h.os,h.tape,h.output,h.size,fun k hk=>h.block k (Nat.lt_of_lt_of_le hk C.base),h.drawn⟩)
theorem SC.den_congr {ρ ρ':Env} {c:SC} (h:∀id∈c.ids,ρ' id=ρ id):c.den ρ'=c.den ρ:=by
 cases c<;>simp_all [SC.den,SC.ids]
theorem Yu {ρ ρ':Env} {cs:List SC} (h:∀id∈J1 cs,ρ' id=ρ id):cs.map (SC.den ρ')=cs.map (SC.den ρ):=
 List.map_congr_left fun c hc=>SC.den_congr fun id hid=>h id (List.mem_flatMap.2 ⟨c,hc,hid⟩)
theorem SV.den_congr {ρ ρ':Env} {v:SV} (h:∀id∈v.ids,ρ' id=ρ id):v.den ρ'=v.den ρ:=by
 cases v with
 |v g cs=>simp only[SV.den];rw[Yu h]
 |tup vs=>
  simp only[SV.den]
  congr 2
  refine List.map_congr_left fun p hp=> ?_
  unfold Jvm
  rw[Yu fun id hid=>h id (List.mem_flatMap.2 ⟨p,hp,hid⟩)]
theorem Hk {ρ ρ':Env} {vs:List SV} (h:∀id∈vs.flatMap SV.ids,ρ' id=ρ id):vs.map (SV.den ρ')=vs.map (SV.den ρ):=
 List.map_congr_left fun c hc=>SV.den_congr fun id hid=>h id (List.mem_flatMap.2 ⟨c,hc,hid⟩)
theorem Uh.keep [Dr] {P:Program} {ρ ρ':Env} {M M' R:Nat→Prop} {B:Nat} {w w':World} {r:Nat} {x:Res} (h:Uh P ρ M R B w r x) (hr:ρ' r=ρ r) (hi:∀id∈x.ids,ρ' id=ρ id)
  (hM:∀b,M b→M' b) (hh:∀b,M b∨R b→w'.heap[b]? =w.heap[b]?) (ho:x.owning=true→∀b,blk (ρ r)=some b→w'.heap[b]? =w.heap[b]?∧¬M' b):Uh P ρ' M' R B w' r x:=by
 cases x with
 |box T cs=>
  obtain⟨b,h1,h2,h3,h4,h5⟩:=h
  obtain⟨o1,o2⟩:=ho rfl b (by rw[h1];rfl)
  refine⟨b,hr.trans h1, ?_,o2,h4,h5⟩
  rw[o1,h2,Yu hi]
 |imm T s xs=>unfold Uh at*;rw[hr];exact h.keep fun b hb=>⟨hM b hb,hh b (.inl hb)⟩
 | own T s xs =>
  obtain⟨flat,h1,h2,h3⟩:=h
  refine⟨flat,h1.imp fun _ _ h=>h.keep fun b hb=>⟨hM b hb,hh b (.inl hb)⟩, ?_,fun g hg=> ?_⟩
  ·rw[hr]
   refine⟨h2.1, ?_⟩
   rcases h2.2 with h2|⟨g,cap,cur,e,hb,hg,rest⟩
   ·exact .inl h2
   ·exact .inr ⟨g,cap,cur,e,hb,(ho rfl g (by rw[e];rfl)).1.trans hg,rest⟩
  ·rw[hr] at hg
   have hb:blk (ρ r)=some g:=by
    revert hg;cases ρ r<;>simp[Value.ownBlock,blk]
    rename_i a _ _;cases a<;>simp
   exact⟨(ho rfl g hb).2,(h3 g hg).2⟩
 |clo f first caps=>
  show ρ' r= .func (.func f) (first.map (SV.den ρ')).toArray (caps.map (SV.den ρ')).toArray
  rw[Hk fun id hid=>hi id (List.mem_append_left _ hid),Hk fun id hid=>hi id (List.mem_append_right _ hid)]
  exact hr.trans h
 |rbox T s x=>unfold Uh at*;rw[hr];exact h.keep hM (fun _ h=>h) hh
 |afn ps r' pre h'=>unfold Uh at*;rw[hr];exact h.keep hM (fun _ h=>h) hh
 |map ks=>
  obtain⟨b,es,h1,h2,h3,h4,h5,h6⟩:=h
  obtain⟨o1,o2⟩:=ho rfl b (by rw[h1];rfl)
  exact⟨b,es,hr.trans h1,o1.trans h2,h3,o2,h5,h6⟩
 |iter j ks seen=>
  obtain⟨b,m,h1,h2,h3,h4,h5,h6⟩:=h
  obtain⟨o1,o2⟩:=ho rfl b (by rw[h1];rfl)
  exact⟨b,m,hr.trans h1,(hi j (by simp[Res.ids])).trans h2,o1.trans h3,o2,h5,h6⟩
 | ownT T s xs =>
  obtain⟨flat,h1,h2,h3⟩:=h
  refine⟨flat,h1.imp fun _ _ h=>h.keep fun b hb=>⟨hM b hb,hh b (.inl hb)⟩, ?_,fun g hg=> ?_⟩
  ·rw[hr]
   refine⟨h2.1, ?_⟩
   rcases h2.2 with h2|⟨g,d,cap,cur,e,hb,hg,rest⟩
   ·exact .inl h2
   ·exact .inr ⟨g,d,cap,cur,e,hb,(ho rfl g (by rw[e];rfl)).1.trans hg,rest⟩
  ·rw[hr] at hg
   have hb:blk (ρ r)=some g:=by
    revert hg;cases ρ r<;>simp[Value.ownBlock,blk]
    rename_i a _ _;cases a<;>simp
   exact⟨(ho rfl g hb).2,(h3 g hg).2⟩
 |fbox T cs=>
  obtain⟨b,h1,h2,h3⟩:=h
  refine⟨b,hr.trans h1, ?_,hM b h3⟩
  rw[hh b (.inl h3),h2,Yu hi]
 |mp kT gk gv ks vs l=>
  obtain⟨h0,b,es,h1,h2,h3,h4,h5,h6⟩:=h
  obtain⟨o1,o2⟩:=ho rfl b (by rw[h1];rfl)
  exact⟨h0,b,es,hr.trans h1,o1.trans h2,h3.keep fun b hb=>⟨hM b hb,hh b (.inl hb)⟩,o2,h5,h6⟩
 |mpi j kT gk gv ks vs l seen=>
  obtain⟨b,m,h1,h2,h3,h4,h5,h6⟩:=h
  obtain⟨o1,o2⟩:=ho rfl b (by rw[h1];rfl)
  exact⟨b,m,hr.trans h1,(hi j (by simp[Res.ids])).trans h2,o1.trans h3,o2,h5,h6⟩
 |sus _=>exact h.elim
 |yld _=>exact h.elim
 |ifc b=>unfold Uh at*;rw[hr];exact h
 |ifb T v=>
  show ρ' r= .iface T (v.den ρ')
  rw[SV.den_congr fun id hid=>hi id hid]
  exact hr.trans h
 |siter s pos=>
  obtain⟨b,h1,h2,h3,h4,h5⟩:=h
  obtain⟨o1,o2⟩:=ho rfl b (by rw[h1];rfl)
  exact⟨b,hr.trans h1,o1.trans h2,o2,h4,h5⟩
 |lit T xs=>
  obtain⟨h0,b,m,h1,h2,h3,h4,h5⟩:=h
  obtain⟨o1,o2⟩:=ho rfl b (by rw[h1];rfl)
  exact⟨h0,b,m,hr.trans h1,o1.trans h2,o2,h4,h5⟩
theorem Jbx.keep [Dr] {P:Program} {ρ ρ':Env} {M M' R:Nat→Prop} {B:Nat} {w0:K8} {w w':World} {r:Nat} {x:Res} (h:Jbx P ρ M R B w0 w r x) (hr:ρ' r=ρ r) (hi:∀id∈x.ids,ρ' id=ρ id)
  (hM:∀b,M b→M' b) (hh:∀b,M b∨R b→w'.heap[b]? =w.heap[b]?) (ho:x.owning=true→∀b,blk (ρ r)=some b→w'.heap[b]? =w.heap[b]?∧¬M' b):Jbx P ρ' M' R B w0 w' r x:=by
 cases hx:x.spec with
 |false=>exact((h.ok hx).keep hr hi hM hh ho).a
 | true =>
  cases x with
  |sus l=>
   obtain⟨T,h1,h2⟩:=h
   exact⟨T,h1,fun p hp=>(h2 p hp).trans (SV.den_congr fun id hid=>hi id (List.mem_flatMap.2 ⟨p,hp,hid⟩)).symm⟩
  |yld s=>
   obtain⟨l,rc,h1,h2,h3,h4,h5,h6⟩:=h
   obtain⟨o1,o2⟩:=ho rfl l (by rw[h2];rfl)
   exact⟨l,rc,h1,hr.trans h2,o1.trans h3,o2,h5,h6⟩
  |_=>cases hx
def Vd (τ:Nat→Option SV) (d:Option Tmp) (v:SV):Nat→Option SV:=fun t=>if d=some t then some v else τ t
def Ki (σ:Nat→Option Res) (n:Nat) (news:List Res) (upd:List (Nat×Option Res)):Nat→Option Res:=fun id=>
 if n≤id∧id<n+news.length then news[id-n]? else match look upd id with
  |some x=>x
  |none=>σ id
def Ve (al:Nat→Prop) (n:Nat) (news:List Res):Nat→Prop:=fun id=>al id∨(n≤id∧id<n+news.length)
theorem Fj {a:Act} {d:Option Tmp} {v:Value} {t:Nat} (ht:d=some t→t<a.tmps.size):(a.put d v).tmps.getD t undef=if d=some t then v else a.tmps.getD t undef:=by
 cases d with
 |none=>simp[Act.put]
 | some d =>
  by_cases h:d=t
  ·subst h
   have:=ht rfl
   simp[Act.put,Array.getD,this]
  ·have:¬(some d=some t):=by simpa using h
   rw[if_neg this]
   simp only[Act.put,Array.getD_eq_getD_getElem?,Array.getElem?_setIfInBounds_ne h]
def Jpe [Dr] (P:Program) (f:FuncId) (F:(Nat→Option Res)→Nat→List SV→Option Out):Prop:=
 ∀{N B:Nat} {w0:K8} {al:Nat→Prop} {τ:Nat→Option SV} {σ:Nat→Option Res} {a:Act} {w:World} {ρ:Env} {M R:Nat→Prop} {n:Nat} {d:Option Tmp} {rs:Nat→Option Res} {args:List SV} {out:Out},
  Jl P N B w0 al τ σ a w ρ M R→(∀t,d=some t→t<N)→(∀id x,rs id=some x→σ id=some x)→F rs n args=some out→Kf out.pre→(∀id,al id→¬(n≤id∧id<n+out.news.length))→
  ∃Rp:Ending→World→Prop,Calls P f (args.map (SV.den ρ)).toArray w Rp∧∀e w',Rp e w'→∃u ρ' M',e= .returned u∧Jl P N B w0 (Ve al n out.news) (Vd τ d out.val) (Ki σ n out.news out.upd) (a.put d u) w' ρ' M' R
def Ok [Dr] (P:Program) (f:FuncId) (c:Con):Prop:=
 Enters P f∧(∀z,c.srt=some z→Jpc P f z)∧(∀F,c.prim=some F→Jpe P f F)∧(c.srt.isNone=true→∀(x:ATup c.args) (M R:Nat→Prop) (w:World) (vs:List Value),(∀b,M b∨R b→b<w.heap.size)→Good P w→Kf (c.pre x)→Vl P M R w c.args x vs→
  Calls P f vs.toArray w (Jj7 M w c.ress c.owns (c.spec x)))
def Ut [Dr] (P:Program) (Γ:Gam):Prop:=∀f c,Γ.get f=some c→Ok P f c
theorem Ut.nil [Dr] (P:Program):Ut P []:=fun f c h=>by simp[Gam.get] at h
theorem Ut.cons [Dr] {P:Program} {Γ:Gam} {f:FuncId} {c:Con} (h:Ok P f c) (hΓ:Ut P Γ):Ut P ((f,c)::Γ):=fun g d hg=>by
 unfold Gam.get at hg
 split at hg
 ·rename_i e;subst e;cases hg;exact h
 ·exact hΓ g d hg
theorem Jl.step [Dr] {P:Program} {N B:Nat} {w0:K8} {al:Nat→Prop} {τ:Nat→Option SV} {σ:Nat→Option Res} {a:Act} {w w':World} {ρ ρ':Env} {M M' R:Nat→Prop} {n:Nat} {news:List Res} {upd:List (Nat×Option Res)} {v:SV} {d:Option Tmp} {u:Value}
  (C:Jl P N B w0 al τ σ a w ρ M R) (hd:∀t,d=some t→t<N)
  (hfresh:∀id,al id→¬(n≤id∧id<n+news.length)) (hρ:∀id,¬(n≤id∧id<n+news.length)→ρ' id=ρ id)
  (hu:u=v.den ρ') (hv:∀id∈v.ids,Ve al n news id)
  (hbelow:Below B w w') (hsize:w.heap.size≤w'.heap.size)
  (hM:∀b,M b→M' b) (hM':∀b,M' b→b<w'.heap.size)
  (hstay:∀b,M b∨R b→w'.heap[b]? =w.heap[b]?)
  (hkeep:∀r x,¬(n≤r∧r<n+news.length)→look upd r=none→σ r=some x→x.owning=true→∀b,blk (ρ r)=some b→w'.heap[b]? =w.heap[b]?∧¬M' b)
  (hnew:∀r x,Ki σ n news upd r=some x→(n≤r∧r<n+news.length)∨look upd r≠none→Uh P ρ' M' R B w' r x∧Ve al n news r∧∀id∈x.ids,Ve al n news id)
  (hone:∀id,n≤id∧id<n+news.length→(ρ' id).oneCell'=true)
  (hap:∀r r' x x',r≠r'→Ki σ n news upd r=some x→Ki σ n news upd r'=some x'→x.owning=true→x'.owning=true→(n≤r∧r<n+news.length)∨look upd r≠none→∀b,blk (ρ' r)=some b→blk (ρ' r')≠some b)
  (hMu:∀b,M' b→M b∨B≤b∧¬R b:=by exact fun _ h=> .inl h):
  Jl P N B w0 (Ve al n news) (Vd τ d v) (Ki σ n news upd) (a.put d u) w' ρ' M' R:=by
 have hal:∀id,al id→ρ' id=ρ id:=fun id h=>hρ id (hfresh id h)
 have hold:∀r x,Ki σ n news upd r=some x→¬((n≤r∧r<n+news.length)∨look upd r≠none)→σ r=some x∧¬(n≤r∧r<n+news.length)∧look upd r=none:=by
  intro r x hx hn
  have h1:¬(n≤r∧r<n+news.length):=fun h=>hn (.inl h)
  have h2:look upd r=none:=by
   cases h:look upd r with
   |none=>rfl
   |some y=>exact absurd (.inr (by rw[h];simp)) hn
  unfold Ki at hx
  rw[if_neg h1,h2] at hx
  exact⟨hx,h1,h2⟩
 have hdf:(a.put d u).defers=a.defers:=by cases d<;>rfl
 refine⟨?_, ?_,by rw[hdf];exact C.nomark,fun b hb=>(hstay b (.inl ((C.up b).2 hb))).trans (C.stay b hb),fun b hb=>(hstay b (.inr hb)).trans (C.stayR b hb),C.below.trans hbelow,Nat.le_trans C.base hsize, ?_, ?_, ?_, ?_, ?_, ?_, ?_,fun b=>⟨fun h=> ?_,fun h=>hM b ((C.up b).2 h)⟩,C.good⟩
 ·cases d<;>simp[Act.put,C.size]
 ·rw[hdf]
  exact C.defers.keep hM fun b hb=>hstay b (.inl hb)
 ·intro t sv ht
  rw[Fj fun h=>by rw[C.size];exact hd t h]
  unfold Vd at ht
  split
  ·rename_i e;rw[if_pos e] at ht;cases ht;exact hu
  ·rename_i e
   rw[if_neg e] at ht
   rw[C.slot t sv ht]
   exact(SV.den_congr fun id hid=>hal id (C.slotIds t sv ht id hid)).symm
 ·intro t sv ht id hid
  unfold Vd at ht
  split at ht
  ·cases ht;exact hv id hid
  ·exact .inl (C.slotIds t sv ht id hid)
 ·intro r x hx
  by_cases hn:(n≤r∧r<n+news.length)∨look upd r≠none
  ·exact(hnew r x hx hn).1.a
  ·obtain⟨h1,h2,h3⟩:=hold r x hx hn
   have hi:=C.resIds r x h1
   exact(C.resA r x h1).keep (hal r hi.1) (fun id hid=>hal id (hi.2 id hid)) hM hstay (fun ho b hb=>hkeep r x h2 h3 h1 ho b hb)
 ·intro r x hx
  by_cases hn:(n≤r∧r<n+news.length)∨look upd r≠none
  ·exact(hnew r x hx hn).2
  ·obtain⟨h1,h2,h3⟩:=hold r x hx hn
   have hi:=C.resIds r x h1
   exact⟨.inl hi.1,fun id hid=> .inl (hi.2 id hid)⟩
 ·intro r r' x x' hne hx hx' ho ho' b hb hb'
  by_cases hn:(n≤r∧r<n+news.length)∨look upd r≠none
  ·exact hap r r' x x' hne hx hx' ho ho' hn b hb hb'
  ·by_cases hn':(n≤r'∧r'<n+news.length)∨look upd r'≠none
   ·exact hap r' r x' x (Ne.symm hne) hx' hx ho' ho hn' b hb' hb
   ·obtain⟨h1,_,_⟩:=hold r x hx hn
    obtain⟨h1',_,_⟩:=hold r' x' hx' hn'
    rw[hal r (C.resIds r x h1).1] at hb
    rw[hal r' (C.resIds r' x' h1').1] at hb'
    exact C.apart r r' x x' hne h1 h1' ho ho' b hb hb'
 ·intro b hb
  rcases hb with hb|hb
  ·exact hM' b hb
  ·exact Nat.lt_of_lt_of_le (C.old b (.inr hb)) hsize
 ·intro i hi
  rcases hi with hi|hi
  ·rw[hal i hi];exact C.one i hi
  ·exact hone i hi
 ·rcases hMu b h with h|h
  ·exact(C.up b).1 h
  ·exact .inr h
theorem Uh.notM [Dr] {P:Program} {ρ:Env} {M R:Nat→Prop} {B:Nat} {w:World} {r:Nat} {x:Res} (h:Uh P ρ M R B w r x) (ho:x.owning=true) {b:Nat} (hb:blk (ρ r)=some b):¬M b∧¬R b∧B≤b∧b<w.heap.size:=by
 cases x with
 |box T cs=>
  obtain⟨b',h1,h2,h3,h4,h5⟩:=h
  rw[h1] at hb;cases hb
  exact⟨h3,h4,h5,(Array.getElem?_eq_some_iff.1 h2).1⟩
 | own T s xs =>
  obtain⟨flat,_,h2,h3⟩:=h
  rcases h2.2 with⟨h2,_⟩|⟨g,cap,cur,e,hbg,hg,_⟩
  ·rw[h2] at hb;cases hb
  ·rw[e] at hb;cases hb
   have:=h3 g (by rw[e];rfl)
   exact⟨this.1,this.2,hbg,(Array.getElem?_eq_some_iff.1 hg).1⟩
 | ownT T s xs =>
  obtain⟨flat,_,h2,h3⟩:=h
  rcases h2.2 with⟨h2,_⟩|⟨g,d,cap,cur,e,hbg,hg,_⟩
  ·rw[h2] at hb;cases hb
  ·rw[e] at hb;cases hb
   have:=h3 g (by rw[e];rfl)
   exact⟨this.1,this.2,hbg,(Array.getElem?_eq_some_iff.1 hg).1⟩
 |map ks=>
  obtain⟨b',es,h1,h2,h3,h4,h5,h6⟩:=h
  rw[h1] at hb;cases hb
  exact⟨h4,h5,h6,(Array.getElem?_eq_some_iff.1 h2).1⟩
 |iter j ks seen=>
  obtain⟨b',m,h1,h2,h3,h4,h5,h6⟩:=h
  rw[h1] at hb;cases hb
  exact⟨h4,h5,h6,(Array.getElem?_eq_some_iff.1 h3).1⟩
 |mp kT gk gv ks vs l=>
  obtain⟨h0,b',es,h1,h2,h3,h4,h5,h6⟩:=h
  rw[h1] at hb;cases hb
  exact⟨h4,h5,h6,(Array.getElem?_eq_some_iff.1 h2).1⟩
 |mpi j kT gk gv ks vs l seen=>
  obtain⟨b',m,h1,h2,h3,h4,h5,h6⟩:=h
  rw[h1] at hb;cases hb
  exact⟨h4,h5,h6,(Array.getElem?_eq_some_iff.1 h3).1⟩
 |yld _=>exact h.elim
 |siter s pos=>
  obtain⟨b',h1,h2,h3,h4,h5⟩:=h
  rw[h1] at hb;cases hb
  exact⟨h3,h4,h5,(Array.getElem?_eq_some_iff.1 h2).1⟩
 |lit T xs=>
  obtain⟨h0,b',m,h1,h2,h3,h4,h5⟩:=h
  rw[h1] at hb;cases hb
  exact⟨h3,h4,h5,(Array.getElem?_eq_some_iff.1 h2).1⟩
 |_=>cases ho
theorem Jl.notM [Dr] {P:Program} {N B:Nat} {w0:K8} {al:Nat→Prop} {τ:Nat→Option SV} {σ:Nat→Option Res} {a:Act} {w:World} {ρ:Env} {M R:Nat→Prop} (C:Jl P N B w0 al τ σ a w ρ M R) {r:Nat} {x:Res} (h:σ r=some x) (ho:x.owning=true) {b:Nat} (hb:blk (ρ r)=some b):¬M b∧¬R b∧B≤b∧b<w.heap.size:=by
 have h':=C.resA r x h
 cases hx:x.spec with
 |false=>exact(h'.ok hx).notM ho hb
 | true =>
  cases x with
  |yld s=>
   obtain⟨l,rc,h1,h2,h3,h4,h5,h6⟩:=h'
   rw[h2] at hb;cases hb
   exact⟨h4,h5,h6,(Array.getElem?_eq_some_iff.1 h3).1⟩
  |sus _=>cases ho
  |_=>cases hx
theorem Jl.pure [Dr] {P:Program} {N B:Nat} {w0:K8} {al:Nat→Prop} {τ:Nat→Option SV} {σ:Nat→Option Res} {a:Act} {w:World} {ρ:Env} {M R:Nat→Prop} {n:Nat} {v:SV} {d:Option Tmp} {u:Value}
  (C:Jl P N B w0 al τ σ a w ρ M R) (hd:∀t,d=some t→t<N) (hu:u=v.den ρ) (hv:∀id∈v.ids,al id):
  Jl P N B w0 (Ve al n []) (Vd τ d v) (Ki σ n [] []) (a.put d u) w ρ M R:=by
 refine C.step hd (fun id _ h=>by simp at h;omega) (fun _ _=>rfl) hu (fun id hid=> .inl (hv id hid)) (Below.refl _ _) (Nat.le_refl _) (fun _ h=>h) (fun b h=>C.old b (.inl h)) (fun _ _=>rfl) ?_ ?_ (fun id h=>by simp at h;omega) ?_
 ·intro r x _ _ hx ho b hb
  exact⟨rfl,(C.notM hx ho hb).1⟩
 ·rintro r x _ (h|h)
  ·simp at h;omega
  ·exact absurd rfl h
 ·rintro r r' x x' _ _ _ _ _ (h|h)
  ·simp at h;omega
  ·exact absurd rfl h
end Go.Sx
namespace Go.Sx
open Go.RowKit
theorem Jg {P:Program} {o:Oper} {a:Act} {w w':World} {K:Act→World→Prop} {Q:Exit→Act→World→Prop} {u:Value}
  (h:(execOp a.eval o).run P w= .ok (.value u) w') (hK:K (a.put o.dst u) w'):o.wp P a w K Q:=by
 unfold Oper.wp;rw[h];exact hK
theorem Uw {P:Program} {o:Oper} {a:Act} {w w':World} {K:Act→World→Prop} {Q:Exit→Act→World→Prop}
  (h:(execOp a.eval o).run P w= .ok .skip w') (hK:K (a.put o.dst undef) w'):o.wp P a w K Q:=by
 unfold Oper.wp;rw[h];exact hK
theorem J2 {P:Program} {s:Sem Value} {w w':World} {u:Value} (h:s.run P w= .ok u w'):(do pure (Next.value (←s)):Sem Next).run P w= .ok (.value u) w':=by
 simp[Sem.run_bind,h]
theorem I64.wrap {n:Int} (h:I64 n):IntKind.i64.wrap n=n:=IntWalk.i64_in n h
theorem Xl {P:Program} {k:IntKind} {n:Int} {out:Out} (w:World) (h:Jh1 k n=some out) (hp:Kf out.pre) (ρ:Env):
  out.val.den ρ= .int k (k.wrap n)∧out.news=[]∧out.upd=[]∧out.val.ids=[]:=by
 unfold Jh1 at h
 split at h
 ·rename_i e;subst e;cases h
  refine⟨?_,rfl,rfl,rfl⟩
  simp only[Kf] at hp
  rw[hp.wrap];rfl
 ·cases h;exact⟨rfl,rfl,rfl,rfl⟩
theorem Jrg {P:Program} {T:TypeId} {ms:Array (String×TypeId)} (w:World) (hu:P.underlying T=some (.interface ms)) (d:Nat):(Op.equalIn (d+1) T .nilIface .nilIface).run P w= .ok true w:=by
 simp[Op.equalIn,run_underlying hu]
theorem Jrh {P:Program} {T:TypeId} {ms:Array (String×TypeId)} (w:World) (hu:P.underlying T=some (.interface ms)) (d:Nat) (T':TypeId) (y:Value):(Op.equalIn (d+1) T (.iface T' y) .nilIface).run P w= .ok false w:=by
 simp[Op.equalIn,run_underlying hu]
theorem Js8 {P:Program} {T:TypeId} {b:Bool} {u:Value} {ms:Array (String×TypeId)} (w:World) (hu:P.underlying T=some (.interface ms)) (h:Jlb b u):(Op.equal T u .nilIface).run P w= .ok (!b) w:=by
 cases b with
 |false=>
  have h:u= .nilIface:=h
  subst h
  exact Jrg w hu 9999
 |true=>
  obtain⟨T',y,rfl⟩:=h
  exact Jrh w hu 9999 T' y
theorem Jfy {op:BinOp} {T:TypeId} {x:Operand} {v:Value} {b:Bool} {u:Value} (h:Jlb b u):eqGuard op T x (.const v) u .nilIface=pure ():=by
 cases b with
 |false=>
  have h:u= .nilIface:=h
  subst h
  cases op<;>cases x<;>rfl
 |true=>
  obtain⟨T',y,rfl⟩:=h
  cases op<;>rfl
theorem Jri {P:Program} {T:TypeId} {f:Option Nat} {ps rs:Array TypeId} {vr:Bool} (w:World) (hu:P.underlying T=some (.func ps rs vr)) (d:Nat):(Op.equalIn (d+1) T (Y5 f) .nilFunc).run P w= .ok (!f.isSome) w:=by
 cases f<;>simp[Op.equalIn,run_underlying hu,Y5]
theorem Jrf {P:Program} {T e:TypeId} {a:Option Addr} (w:World) (hu:P.underlying T=some (.pointer e)) (d:Nat):(Op.equalIn (d+1) T (.pointer a) (.pointer none)).run P w= .ok (!a.isSome) w:=by
 cases a<;>simp[Op.equalIn,run_underlying hu]
theorem Jmn {P:Program} {T:TypeId} {x y:Operand} {f:Option Nat} {ps rs:Array TypeId} {vr:Bool} (w:World) (hu:P.underlying T=some (.func ps rs vr)):
  (do eqGuard .eql T x y (Y5 f) .nilFunc;binOp .eql T (Y5 f) .nilFunc:Sem Value).run P w= .ok (.bool (!f.isSome)) w∧(do eqGuard .neq T x y (Y5 f) .nilFunc;binOp .neq T (Y5 f) .nilFunc:Sem Value).run P w= .ok (.bool f.isSome) w:=by
 have h:(Op.equal T (Y5 f) .nilFunc).run P w= .ok (!f.isSome) w:=Jri w hu 9999
 have g1:eqGuard .eql T x y (Y5 f) .nilFunc=pure ():=by cases f<;>rfl
 have g2:eqGuard .neq T x y (Y5 f) .nilFunc=pure ():=by cases f<;>rfl
 have e1:binOp .eql T (Y5 f) .nilFunc=(do pure (.bool (←Op.equal T (Y5 f) .nilFunc)):Sem Value):=by cases f<;>simp only[Y5,binOp]
 have e2:binOp .neq T (Y5 f) .nilFunc=(do pure (.bool (!(←Op.equal T (Y5 f) .nilFunc))):Sem Value):=by cases f<;>simp only[Y5,binOp]
 rw[g1,g2,e1,e2]
 constructor<;>simp only[pure_bind,Sem.run_bind,h,Result.andThen_ok,Sem.run_pure,Bool.not_not]
theorem Jdg {P:Program} {T e:TypeId} {x y:Operand} {a:Option Addr} (w:World) (hu:P.underlying T=some (.pointer e)):
  (do eqGuard .eql T x y (.pointer a) (.pointer none);binOp .eql T (.pointer a) (.pointer none):Sem Value).run P w= .ok (.bool (!a.isSome)) w∧(do eqGuard .neq T x y (.pointer a) (.pointer none);binOp .neq T (.pointer a) (.pointer none):Sem Value).run P w= .ok (.bool a.isSome) w:=by
 have h:(Op.equal T (.pointer a) (.pointer none)).run P w= .ok (!a.isSome) w:=Jrf w hu 9999
 have g1:eqGuard .eql T x y (.pointer a) (.pointer none)=pure ():=rfl
 have g2:eqGuard .neq T x y (.pointer a) (.pointer none)=pure ():=rfl
 have e1:binOp .eql T (.pointer a) (.pointer none)=(do pure (.bool (←Op.equal T (.pointer a) (.pointer none))):Sem Value):=by simp only[binOp]
 have e2:binOp .neq T (.pointer a) (.pointer none)=(do pure (.bool (!(←Op.equal T (.pointer a) (.pointer none)))):Sem Value):=by simp only[binOp]
 rw[g1,g2,e1,e2]
 constructor<;>simp only[pure_bind,Sem.run_bind,h,Result.andThen_ok,Sem.run_pure,Bool.not_not]
theorem Jg1 {P : Program} {T : TypeId} {x : Operand} {v : Value} {b : Bool} {u : Value} {ms : Array (String × TypeId)} (w : World) (hu : P.underlying T = some (.interface ms)) (h : Jlb b u) :
    (do eqGuard .eql T x (.const v) u .nilIface;binOp .eql T u .nilIface:Sem Value).run P w= .ok (.bool (!b)) w:=by
  rw[Jfy h]
  have e:binOp .eql T u .nilIface=(do pure (.bool (←Op.equal T u .nilIface)):Sem Value):=by
    cases b with
    | false => have h : u = .nilIface := h
               subst h;simp only[binOp]
    | true => obtain ⟨T', y, rfl⟩ := h
              simp only[binOp]
  rw[e]
  simp only[pure_bind,Sem.run_bind,Js8 w hu h,Result.andThen_ok,Sem.run_pure]
theorem Jg0 {P : Program} {T : TypeId} {x : Operand} {v : Value} {b : Bool} {u : Value} {ms : Array (String × TypeId)} (w : World) (hu : P.underlying T = some (.interface ms)) (h : Jlb b u) :
    (do eqGuard .neq T x (.const v) u .nilIface;binOp .neq T u .nilIface:Sem Value).run P w= .ok (.bool b) w:=by
  rw[Jfy h]
  have e:binOp .neq T u .nilIface=(do pure (.bool (!(←Op.equal T u .nilIface))):Sem Value):=by
    cases b with
    | false => have h : u = .nilIface := h
               subst h;simp only[binOp]
    | true => obtain ⟨T', y, rfl⟩ := h
              simp only[binOp]
  rw[e]
  simp only[pure_bind,Sem.run_bind,Js8 w hu h,Result.andThen_ok,Sem.run_pure,Bool.not_not]
theorem Jqk {P:Program} {op:BinOp} {T:TypeId} {x y:Operand} {k:IntKind} {m n:Int} {out:Out} (w:World) (h:J7s op k m n=some out) (hp:Kf out.pre) (ρ:Env):
  (do eqGuard op T x y (.int k m) (.int k n);binOp op T (.int k m) (.int k n):Sem Value).run P w= .ok (out.val.den ρ) w∧out.news=[]∧out.upd=[]∧out.val.ids=[]:=by
 cases op<;>simp only[J7s] at h
 case add=>
  obtain⟨h1,h2⟩:=Xl (P:=P) w h hp ρ
  rw[h1];exact⟨by simp[eqGuard,binOp,Op.intArith,Sem.run_bind],h2⟩
 case sub=>
  obtain⟨h1,h2⟩:=Xl (P:=P) w h hp ρ
  rw[h1];exact⟨by simp[eqGuard,binOp,Op.intArith,Sem.run_bind],h2⟩
 case mul=>
  obtain⟨h1,h2⟩:=Xl (P:=P) w h hp ρ
  rw[h1];exact⟨by simp[eqGuard,binOp,Op.intArith,Sem.run_bind],h2⟩
 case quo=>
  split at h
  ·rename_i e;subst e;cases h
   obtain⟨h1,h2⟩:=hp
   refine⟨?_,rfl,rfl,rfl⟩
   have:=I64.wrap h2
   simp[eqGuard,binOp,Op.intDiv,Sem.run_bind,h1,this,SV.den,valOf,SC.den]
  ·cases h
 case rem=>
  cases h
  have h1:n≠0:=hp
  exact⟨by simp[eqGuard,binOp,Op.intDiv,Sem.run_bind,h1,SV.den,valOf,SC.den],rfl,rfl,rfl⟩
 case and=>cases h;exact⟨by simp[eqGuard,binOp,Sem.run_bind];rfl,rfl,rfl,rfl⟩
 case or=>cases h;exact⟨by simp[eqGuard,binOp,Sem.run_bind];rfl,rfl,rfl,rfl⟩
 case xor=>cases h;exact⟨by simp[eqGuard,binOp,Sem.run_bind];rfl,rfl,rfl,rfl⟩
 case andNot=>cases h;exact⟨by simp[eqGuard,binOp,Sem.run_bind];rfl,rfl,rfl,rfl⟩
 all_goals first
  |(cases h;exact⟨by simp[eqGuard,binOp,Op.intCmp,Sem.run_bind,SV.den,valOf,SC.den],rfl,rfl,rfl⟩)
  |cases h
theorem Jmm {P:Program} {op:BinOp} {T:TypeId} {x y:Operand} {k k':IntKind} {m n:Int} {out:Out} (w:World) (h:shS op k m n=some out) (hp:Kf out.pre) (ρ:Env):
  (do eqGuard op T x y (.int k m) (.int k' n);binOp op T (.int k m) (.int k' n):Sem Value).run P w= .ok (out.val.den ρ) w∧out.news=[]∧out.upd=[]∧out.val.ids=[]:=by
 unfold shS at h
 split at h
 ·split at h
  ·rename_i e;subst e;cases h
   obtain⟨h1,h2⟩:=hp
   refine⟨?_,rfl,rfl,rfl⟩
   have h3:=I64.wrap h2
   have h4:¬n<0:=by omega
   have h5:min n.toNat IntKind.i64.bits=n.toNat:=Nat.min_eq_left (by show n.toNat≤64;omega)
   simp[eqGuard,binOp,Op.shift,Sem.run_bind,h4,h5,h3,SV.den,valOf,SC.den]
  ·cases h
 ·split at h
  ·rename_i e;subst e;cases h
   have h1:0≤n∧n≤63:=hp
   refine⟨?_,rfl,rfl,rfl⟩
   have h4:¬n<0:=by omega
   have h5:min n.toNat IntKind.i64.bits=n.toNat:=Nat.min_eq_left (by show n.toNat≤64;omega)
   simp only[eqGuard,binOp,Sem.run_bind]
   show(Op.shift .shr .i64 m k' n).run P w=_
   unfold Op.shift
   rw[if_neg h4,h5]
   rfl
  ·split at h
   ·rename_i e;subst e;cases h
    have h1:0≤n∧n≤63:=hp
    refine⟨?_,rfl,rfl,rfl⟩
    have h4:¬n<0:=by omega
    have h5:min n.toNat IntKind.u64.bits=n.toNat:=Nat.min_eq_left (by show n.toNat≤64;omega)
    simp only[eqGuard,binOp,Sem.run_bind]
    show(Op.shift .shr .u64 m k' n).run P w=_
    unfold Op.shift
    rw[if_neg h4,h5]
    rfl
   ·cases h
 ·cases h
theorem Jqj {P:Program} {op:BinOp} {T:TypeId} {x y:Operand} {m n:ByteArray} {out:Out} (w:World) (h:J5q op m n=some out) (hp:Kf out.pre) (ρ:Env):
  (do eqGuard op T x y (.string m) (.string n);binOp op T (.string m) (.string n):Sem Value).run P w= .ok (out.val.den ρ) w∧out.news=[]∧out.upd=[]∧out.val.ids=[]:=by
 cases op<;>simp only[J5q] at h
 case add=>
  cases h
  have h1:((m.size+n.size:Nat):Int)≤9223372036854775807:=hp
  refine⟨?_,rfl,rfl,rfl⟩
  have h2:¬(((m.size+n.size:Nat):Int)>IntKind.i64.max):=by
   have:IntKind.i64.max=9223372036854775807:=rfl
   omega
  simp only[eqGuard,binOp,Op.stringOp,if_neg h2]
  simp[Sem.run_bind,SV.den,valOf,SC.den]
 all_goals first
  |(cases h;exact⟨by simp[eqGuard,binOp,Op.stringOp,Sem.run_bind,SV.den,valOf,SC.den],rfl,rfl,rfl⟩)
  |cases h
theorem Jql {P:Program} {op:BinOp} {T:TypeId} {x y:Operand} {k:FloatKind} {m n:Nat} {out:Out} (w:World) (h:Lj op k m n=some out) (hp:Kf out.pre) (ρ:Env):
  (do eqGuard op T x y (.float k m) (.float k n);binOp op T (.float k m) (.float k n):Sem Value).run P w= .ok (out.val.den ρ) w∧out.news=[]∧out.upd=[]∧out.val.ids=[]:=by
 have key:∀{o:Option Nat},o.isSome=true→o=some (o.getD 0):=fun{o} h=>by cases o with
  |none=>cases h
  |some x=>rfl
 cases op<;>simp only[Lj,reduceCtorEq] at h
 all_goals cases h
 all_goals try(replace hp:=key (show _=true from hp))
 all_goals refine⟨?_,rfl,rfl,rfl⟩
 all_goals simp[eqGuard,binOp,Op.floatArith,Op.floatCmp,Sem.run_bind,SV.den,valOf,SC.den]
 all_goals (rw[hp];rfl)
def Xz {α β:Type} (R:α→β→Prop):List α→List β→Prop
 |[],[]=>True
 |a::l,b::m=>R a b∧Xz R l m
 |_,_=>False
theorem Xz.append {α β:Type} {R:α→β→Prop}:∀{l l':List α} {m m':List β},Xz R l m→Xz R l' m'→Xz R (l++l') (m++m')
 |[],_,[],_,_,h'=>h'
 |_::_,_,_::_,_,h,h'=>⟨h.1,h.2.append h'⟩
 |[],_,_::_,_,h,_=>h.elim
 |_::_,_,[],_,h,_=>h.elim
theorem Xz.drop {α β:Type} {R:α→β→Prop}:∀(n:Nat) {l:List α} {m:List β},Xz R l m→Xz R (l.drop n) (m.drop n)
 |0,_,_,h=>h
 |_+1,[],[],_=>trivial
 |n+1,_::_,_::_,h=>Xz.drop n h.2
 |_+1,[],_::_,h=>h.elim
 |_+1,_::_,[],h=>h.elim
theorem Xz.take {α β:Type} {R:α→β→Prop}:∀(n:Nat) {l:List α} {m:List β},Xz R l m→Xz R (l.take n) (m.take n)
 |0,_,_,_=>trivial
 |_+1,[],[],_=>trivial
 |n+1,_::_,_::_,h=>⟨h.1,Xz.take n h.2⟩
 |_+1,[],_::_,h=>h.elim
 |_+1,_::_,[],h=>h.elim
theorem Xz.length {α β:Type} {R:α→β→Prop}:∀{l:List α} {m:List β},Xz R l m→l.length=m.length
 |[],[],_=>rfl
 |_::_,_::_,h=>by simp[Xz.length h.2]
 |[],_::_,h=>h.elim
 |_::_,[],h=>h.elim
def Vj (M:Nat→Prop) (w:World):SC→Value→Prop
 | .int k n,v=>v= .int k n
 | .bool b,v=>v= .bool b
 | .str s,v=>v= .string s
 | .flt k b,v=>v= .float k b
 | .fn f,v=>v= .func (.func f) #[] #[]
 | .fno x,v=>v=Y5 x
 | .val u,v=>u= .nilFunc∧v=u
 | .lst T s xs,v=>Rep M w (.list T s) xs [v]
 |_,_=>False
theorem Y7 {M:Nat→Prop} {w:World}:∀{s:Sch} {x:s.T} {cs:List Value},Rep M w s x cs→Xz (Vj M w) (enc s x) cs
 | .int _,_,_,h=>by rw[show _=[_] from h];exact⟨rfl,trivial⟩
 | .bool,_,_,h=>by rw[show _=[_] from h];exact⟨rfl,trivial⟩
 | .str,_,_,h=>by rw[show _=[_] from h];exact⟨rfl,trivial⟩
 | .flt _,_,_,h=>by rw[show _=[_] from h];exact⟨rfl,trivial⟩
 | .fnc,x,_,h=>by
  rw[show _=[_] from h]
  exact⟨rfl,trivial⟩
 | .prod _ _,_,_,⟨c1,c2,e,h1,h2⟩=>by rw[e];exact(Y7 h1).append (Y7 h2)
 | .list T s,xs,_,h=>by
  obtain⟨v,flat,e,h1,h2⟩:=h
  rw[e]
  exact⟨⟨v,flat,rfl,h1,h2⟩,trivial⟩
def Jo:List SC→List Value→List Value
 | .lst _ _ _::r,v::vs=>v::Jo r vs
 |_::r,_::vs=>Jo r vs
 |_,_=>[]
theorem Je4 {M:Nat→Prop} {w:World} {n:Nat} {v:Value} {flat:List Value} (h:Jpd M w n v flat):v.oneCell'=true:=by
 rcases h with⟨rfl|⟨_,_,rfl⟩,_⟩|⟨b,off,cap,rfl,_⟩<;>rfl
theorem V2 {M:Nat→Prop} {w:World}:∀{cs:List SC} {vs:List Value} {n:Nat},Xz (Vj M w) cs vs→
  (Jo cs vs).length=(Ka cs n).2.length∧
  (∀ρ':Env,(∀i u,(Jo cs vs)[i]? =some u→ρ' (n+i)=u)→vs=(Ka cs n).1.map (SC.den ρ'))∧
  (∀(i:Nat) (x:Res),(Ka cs n).2[i]? =some x→∃T s xs v,x=Res.imm T s xs∧(Jo cs vs)[i]? =some v∧Rep M w (.list T s) xs [v]∧v.oneCell'=true)
 |[],[],n,_=>⟨rfl,fun _ _=>rfl,fun i x h=>by simp[Ka] at h⟩
 | c :: r, v :: vs, n, h => by
  obtain⟨h1,h2⟩:=h
  cases c with
  | lst T s xs =>
   obtain⟨i1,i2,i3⟩:=V2 (n:=n+1) h2
   refine⟨by simp[Ka,Jo,i1],fun ρ' hρ=> ?_,fun i x hx=> ?_⟩
   ·have e0:ρ' n=v:=by simpa using hρ 0 v (by simp[Jo])
    have:=i2 ρ' (fun i u hu=>by have:=hρ (i+1) u (by simpa[Jo] using hu);rwa[show n+(i+1)=n+1+i by omega] at this)
    simp only[Ka,List.map_cons,SC.den,e0]
    rw[←this]
   ·cases i with
    |zero=>
     simp only[Ka,List.getElem?_cons_zero,Option.some.injEq] at hx
     have h1':=h1
     obtain⟨u,flat,e,_,h5⟩:=h1'
     cases e
     exact⟨T,s,xs,v,hx.symm,rfl,h1,Je4 h5⟩
    |succ i=>
     simp only[Ka,List.getElem?_cons_succ] at hx
     obtain⟨T',s',xs',v',a,b,c⟩:=i3 i x hx
     exact⟨T',s',xs',v',a,by simpa[Jo] using b,c⟩
  |int k m=>
   obtain⟨i1,i2,i3⟩:=V2 (n:=n) h2
   have h1:v= .int k m:=h1
   refine⟨by simpa[Ka,Jo] using i1,fun ρ' hρ=> ?_,fun i x hx=>by simpa[Jo] using i3 i x (by simpa[Ka] using hx)⟩
   simp only[Ka,List.map_cons,SC.den,h1]
   rw[←i2 ρ' (fun i u hu=>hρ i u (by simpa[Jo] using hu))]
  |bool m=>
   obtain⟨i1,i2,i3⟩:=V2 (n:=n) h2
   have h1:v= .bool m:=h1
   refine⟨by simpa[Ka,Jo] using i1,fun ρ' hρ=> ?_,fun i x hx=>by simpa[Jo] using i3 i x (by simpa[Ka] using hx)⟩
   simp only[Ka,List.map_cons,SC.den,h1]
   rw[←i2 ρ' (fun i u hu=>hρ i u (by simpa[Jo] using hu))]
  |str m=>
   obtain⟨i1,i2,i3⟩:=V2 (n:=n) h2
   have h1:v= .string m:=h1
   refine⟨by simpa[Ka,Jo] using i1,fun ρ' hρ=> ?_,fun i x hx=>by simpa[Jo] using i3 i x (by simpa[Ka] using hx)⟩
   simp only[Ka,List.map_cons,SC.den,h1]
   rw[←i2 ρ' (fun i u hu=>hρ i u (by simpa[Jo] using hu))]
  |fn m=>
   obtain⟨i1,i2,i3⟩:=V2 (n:=n) h2
   have h1:v= .func (.func m) #[] #[]:=h1
   refine⟨by simpa[Ka,Jo] using i1,fun ρ' hρ=> ?_,fun i x hx=>by simpa[Jo] using i3 i x (by simpa[Ka] using hx)⟩
   simp only[Ka,List.map_cons,SC.den,h1]
   rw[←i2 ρ' (fun i u hu=>hρ i u (by simpa[Jo] using hu))]
  |fno m=>
   obtain⟨i1,i2,i3⟩:=V2 (n:=n) h2
   have h1:v=Y5 m:=h1
   refine⟨by simpa[Ka,Jo] using i1,fun ρ' hρ=> ?_,fun i x hx=>by simpa[Jo] using i3 i x (by simpa[Ka] using hx)⟩
   simp only[Ka,List.map_cons,SC.den,h1]
   rw[←i2 ρ' (fun i u hu=>hρ i u (by simpa[Jo] using hu))]
  |val m=>
   obtain⟨i1,i2,i3⟩:=V2 (n:=n) h2
   have h1:v=m:=h1.2
   refine⟨by simpa[Ka,Jo] using i1,fun ρ' hρ=> ?_,fun i x hx=>by simpa[Jo] using i3 i x (by simpa[Ka] using hx)⟩
   simp only[Ka,List.map_cons,SC.den,h1]
   rw[←i2 ρ' (fun i u hu=>hρ i u (by simpa[Jo] using hu))]
  |flt k m=>
   obtain⟨i1,i2,i3⟩:=V2 (n:=n) h2
   have h1:v= .float k m:=h1
   refine⟨by simpa[Ka,Jo] using i1,fun ρ' hρ=> ?_,fun i x hx=>by simpa[Jo] using i3 i x (by simpa[Ka] using hx)⟩
   simp only[Ka,List.map_cons,SC.den,h1]
   rw[←i2 ρ' (fun i u hu=>hρ i u (by simpa[Jo] using hu))]
  |_=>exact h1.elim
 |[],_::_,_,h=>h.elim
 |_::_,[],_,h=>h.elim
theorem Jgi {M:Nat→Prop} {w:World} {T T':TypeId} {s s':Sch} (h:s'=s) {xs:List s'.T} {cs:List Value} (H:Rep M w (.list T s') xs cs):Rep M w (.list T' s) (Y9 h xs) cs:=by
 subst h
 exact H
theorem Jdl {M M':Nat→Prop} {w:World} {B:Nat} {T T':TypeId} {s:Sch} {xs:List s.T} {v:Value} {flat:List Value} (h1:Kz (Rep M w s) xs flat) (h2:w.ownsRow B T s.size v xs.length flat)
  (hM:∀b,M b→M' b) (hg:∀g,v.ownBlock=some g→M' g):Rep M' w (.list T' s) xs [v]:=by
 refine⟨v,flat,rfl,h1.imp fun _ _ h=>h.keep fun b hb=>⟨hM b hb,rfl⟩, ?_⟩
 rcases h2.2 with⟨h2,h3⟩|⟨g,cap,cur,e,hb,hh,hc,hm,hsz,ht⟩
 ·exact .inl ⟨.inl h2,h3⟩
 ·subst e
  refine .inr ⟨g,0,cap,rfl,hc,fun k u hu=> ?_,fun _=>hg g rfl⟩
  have:=h2.cells (g:=g) rfl k u hu
  rwa[Addr.add_lit] at this
theorem Yv [Dr] {P:Program} {ρ:Env} {M M' R:Nat→Prop} {B:Nat} {w:World} {rs:Nat→Option Res} (hM:∀b,M b→M' b):∀{s:Sch} {cs:List SC} {x:s.T},dec rs s cs=some x→
  (∀i y,rs i=some y→Jwy P ρ M R B w i y)→(∀i T s' xs g,SC.sl i∈cs→rs i=some (.own T s' xs)→(ρ i).ownBlock=some g→M' g)→Rep M' w s x (cs.map (SC.den ρ))
 | .int k, cs, x, h, _, _ => by
  replace h:Jgd k cs=some x:=h
  unfold Jgd at h
  split at h
  ·split at h
   ·rename_i e;subst e;cases h;rfl
   ·cases h
  ·cases h
 | .bool,cs,x,h,_,_=>by
  replace h:Jbf cs=some x:=h
  unfold Jbf at h
  split at h
  ·cases h;rfl
  ·cases h
 | .str,cs,x,h,_,_=>by
  replace h:Jgc cs=some x:=h
  unfold Jgc at h
  split at h
  ·cases h;rfl
  ·cases h
 | .flt k, cs, x, h, _, _ => by
  replace h:Jge k cs=some x:=h
  unfold Jge at h
  split at h
  ·split at h
   ·rename_i e;subst e;cases h;rfl
   ·cases h
  ·cases h
 | .fnc,cs,x,h,_,_=>by
  replace h:Jvn cs=some x:=h
  unfold Jvn at h
  split at h
  ·cases h;rfl
  ·cases h;rfl
  ·cases h;rfl
  ·cases h
 | .prod a b, cs, x, h, h1, h2 => by
  simp only[dec] at h
  split at h
  ·rename_i y z ha hb
   cases h
   refine⟨(cs.take a.size).map (SC.den ρ),(cs.drop a.size).map (SC.den ρ),by rw[←List.map_append,List.take_append_drop],Yv hM ha h1 ?_,Yv hM hb h1 ?_⟩
   ·exact fun i T s' xs g hi=>h2 i T s' xs g (List.mem_of_mem_take hi)
   ·exact fun i T s' xs g hi=>h2 i T s' xs g (List.mem_of_mem_drop hi)
  ·cases h
 | .list T s, cs, x, h, h1, h2 => by
  replace h:Yh rs s cs=some x:=h
  unfold Yh at h
  split at h
  ·rename_i i
   cases hy:rs i with
   |none=>rw[hy] at h;cases h
   | some y =>
    have hr:=h1 i y hy
    rw[hy] at h
    cases y with
    | imm T' s' xs =>
     simp only[Zw] at h
     split at h
     ·rename_i e;cases h
      have:Rep M' w (.list T' s') xs [ρ i]:=Rep.keep (fun b hb=>⟨hM b hb,rfl⟩) hr
      exact Jgi e this
     ·cases h
    | own T' s' xs =>
     simp only[Zw] at h
     split at h
     ·rename_i e;cases h
      obtain⟨flat,h3,h4,_⟩:=hr
      exact Jgi (T':=T) e (Jdl (T':=T) h3 h4 hM fun g hg=>h2 i T' s' xs g (by simp) hy hg)
     ·cases h
    |_=>cases h
  ·cases h
   exact⟨_,[],rfl,rfl, .inl ⟨.inl rfl,rfl⟩⟩
  ·cases h
end Go.Sx
namespace Go.Sx
open Go.RowKit
theorem Yr {P:Program} {T:TypeId} {g:Bool} (h:Kc P T=some g) (w:World):(isAgg T).run P w= .ok g w:=by
 unfold Kc at h
 cases hu:P.underlying T with
 |none=>rw[hu] at h;cases h
 |some d=>
  rw[hu] at h
  unfold isAgg
  cases d<;>simp_all [Sem.run_bind,run_underlying hu]
theorem Jx {P:Program} {T:TypeId} {n:Nat} (h:J7 P T=some n) (w:World):(sizeOf T).run P w= .ok n w:=by
 unfold J7 at h
 cases hi:P.info? T with
 |none=>rw[hi] at h;cases h
 |some i=>rw[hi] at h;cases h;simp[sizeOf,typeInfo,hi]
theorem Fu {vs:List Value} (h:vs.length=1):∃u,vs=[u]∧valOf false vs=u:=by
 match vs,h with
 |[u],_=>exact⟨u,rfl,rfl⟩
theorem Y1 {P:Program} {T:TypeId} {g:Bool} (hT:Kc P T=some g) {b off:Nat} {vs:List Value} (hn:J7 P T=some vs.length) (h1:g=false→vs.length=1) (w:World)
  (hc:∀k u,vs[k]? =some u→w.cell? ⟨b,off+k,none⟩=some u):(loadVar T ⟨b,off,none⟩).run P w= .ok (valOf g vs) w:=by
 have hl:=run_loadCells_list (P:=P) w ⟨b,off,none⟩ vs (fun j v hv=>by rw[Addr.add_lit];exact hc j v hv)
 unfold loadVar
 rw[Sem.run_bind,Yr hT]
 cases g with
 |true=>simp[Sem.run_bind,Jx hn,hl,valOf]
 |false=>
  obtain⟨u,rfl,hu⟩:=Fu (h1 rfl)
  have:=hc 0 u rfl
  simp only[Nat.add_zero] at this
  simp[hu,run_load,this]
theorem Um {M:Nat→Prop} {w:World}:∀{cs:List SC} {vs:List Value} {n:Nat},Xz (Vj M w) cs vs→∀id∈J1 (Ka cs n).1,n≤id∧id<n+(Ka cs n).2.length
 |[],_,_,_,id,h=>by simp[Ka,J1] at h
 |c::r,[],_,h,_,_=>h.elim
 | c :: r, v :: vs, n, h, id, hid => by
  obtain⟨h1,h2⟩:=h
  cases c with
  | lst T s xs =>
   simp only[Ka,J1,List.flatMap_cons,SC.ids,List.mem_append,List.mem_singleton] at hid
   simp only[Ka,List.length_cons]
   rcases hid with rfl|hid
   ·omega
   ·have:=Um h2 id hid
    omega
  |int k m=>exact Um h2 id (by simpa[Ka,J1,SC.ids] using hid)
  |bool m=>exact Um h2 id (by simpa[Ka,J1,SC.ids] using hid)
  |str m=>exact Um h2 id (by simpa[Ka,J1,SC.ids] using hid)
  |flt k m=>exact Um h2 id (by simpa[Ka,J1,SC.ids] using hid)
  |fn m=>exact Um h2 id (by simpa[Ka,J1,SC.ids] using hid)
  |fno m=>exact Um h2 id (by simpa[Ka,J1,SC.ids] using hid)
  |val m=>exact Um h2 id (by simpa[Ka,J1,SC.ids] using hid)
  |_=>exact h1.elim
def Kb (ρ:Env) (n:Nat) (vs:List Value):Env:=fun id=>if n≤id∧id<n+vs.length then vs.getD (id-n) undef else ρ id
theorem Ke {ρ:Env} {n:Nat} {vs:List Value} {id:Nat} (h:¬(n≤id∧id<n+vs.length)):Kb ρ n vs id=ρ id:=if_neg h
theorem Ko {ρ:Env} {n:Nat} {vs:List Value} {i:Nat} {u:Value} (h:vs[i]? =some u):Kb ρ n vs (n+i)=u:=by
 have hi:i<vs.length:=(List.getElem?_eq_some_iff.1 h).1
 unfold Kb
 rw[if_pos ⟨by omega,by omega⟩]
 simp[List.getD,show n+i-n=i by omega,h]
section
variable {P:Program} {N B:Nat} {w0:K8} {al:Nat→Prop} {τ:Nat→Option SV} {σ:Nat→Option Res} {a:Act} {w:World} {ρ:Env} {M R:Nat→Prop} {n:Nat} {d:Option Tmp}
theorem Vm {news:List Res} {upd:List (Nat×Option Res)} {r:Nat} (h:n≤r∧r<n+news.length):Ki σ n news upd r=news[r-n]? :=if_pos h
theorem Jl.described [Dr] (C:Jl P N B w0 al τ σ a w ρ M R) (hd:∀t,d=some t→t<N) {cs:List SC} {vs:List Value} (h2:Xz (Vj M w) cs vs) (g:Bool)
  (hfresh:∀id,al id→¬(n≤id∧id<n+(Ka cs n).2.length)):
  ∃ρ',Jl P N B w0 (Ve al n (Ka cs n).2) (Vd τ d (.v g (Ka cs n).1)) (Ki σ n (Ka cs n).2 []) (a.put d (valOf g vs)) w ρ' M R:=by
 obtain⟨i1,i2,i3⟩:=V2 (n:=n) h2
 refine⟨Kb ρ n (Jo cs vs), ?_⟩
 have e1:vs=(Ka cs n).1.map (SC.den (Kb ρ n (Jo cs vs))):=i2 _ fun i u hu=>Ko hu
 refine C.step hd hfresh (fun id h=>Ke (by rw[i1];exact h)) (by simp only[SV.den];rw[←e1]) (fun id hid=> .inr (Um h2 id hid)) (Below.refl _ _) (Nat.le_refl _) (fun _ h=>h) (fun b h=>C.old b (.inl h)) (fun _ _=>rfl) ?_ ?_ ?_ ?_
 ·intro r x _ _ hx ho b hb
  exact⟨rfl,(C.notM hx ho hb).1⟩
 ·rintro r x hx (h|h)
  ·rw[Vm h] at hx
   obtain⟨T,s,xs,v,rfl,hv,hr,_⟩:=i3 _ x hx
   refine⟨?_, .inr h,fun id hid=>by simp[Res.ids] at hid⟩
   have:=Ko (ρ:=ρ) (n:=n) hv
   rw[show n+(r-n)=r by omega] at this
   show Rep M w _ _ [Kb ρ n (Jo cs vs) r]
   rw[this]
   exact hr
  ·exact absurd rfl h
 ·intro id h
  have hlt:id-n<(Ka cs n).2.length:=by omega
  obtain⟨T,s,xs,v,_,hv,_,h1⟩:=i3 (id-n) _ (List.getElem?_eq_getElem hlt)
  have:=Ko (ρ:=ρ) (n:=n) hv
  rw[show n+(id-n)=id by omega] at this
  rw[this]
  exact h1
 ·rintro r r' x x' _ hx _ ho _ (h|h)
  ·rw[Vm h] at hx
   obtain⟨T,s,xs,v,rfl,_⟩:=i3 _ x hx
   cases ho
  ·exact absurd rfl h
theorem U9 {b off k:Nat} {cs:Array Value} {T:TypeId} {u:Value} (hb:w.heap[b]? =some (.cells cs T (0,0))) (h:cs.toList[off+k]? =some u):w.cell? ⟨b,off+k,none⟩=some u:=by
 simp only[World.cell?,hb]
 simpa using h
theorem Jdw [Dr] (C:Jl P N B w0 al τ σ a w ρ M R) {i off:Nat} {U:TypeId} {cs:List SC} (hr:σ i=some (.box U cs)) {T:TypeId} {m:Nat} (hm:J7 P T=some m) (hl:off+m≤cs.length) {v:SV} (hv:shape P T ((cs.drop off).take m)=some v):
  (loadVar T ⟨(match ρ i with| .pointer (some a)=>a.block|_=>0),off,none⟩).run P w= .ok (v.den ρ) w∧(SC.ptr i off).den ρ= .pointer (some ⟨(match ρ i with| .pointer (some a)=>a.block|_=>0),off,none⟩)∧∀id∈v.ids,al id:=by
 obtain⟨b,h1,h2,_⟩:=C.res i _ hr
 have hids:=(C.resIds i _ hr).2
 have hlen:((cs.drop off).take m).length=m:=by simp;omega
 have hg:∃g,Kc P T=some g∧v= .v g ((cs.drop off).take m)∧(g=false→m=1):=by
  unfold shape at hv
  cases hT:Kc P T with
  |none=>rw[hT] at hv;cases hv
  | some g =>
   rw[hT] at hv
   cases g with
   |true=>cases hv;exact⟨true,rfl,rfl,by simp⟩
   | false =>
    simp only at hv
    split at hv
    ·rename_i c e;cases hv;refine⟨false,rfl,by rw[e],fun _=> ?_⟩
     rw[←hlen,e];rfl
    ·cases hv
 obtain⟨g,hg1,hg2,hg3⟩:=hg
 refine⟨?_,by simp[SC.den,h1], ?_⟩
 ·rw[h1,hg2]
  simp only[SV.den]
  refine Y1 hg1 (by rw[hm,List.length_map,hlen]) (fun e=>by rw[List.length_map,hlen];exact hg3 e) w fun k u hu=> ?_
  refine U9 h2 ?_
  rw[List.getElem?_map] at hu
  simp only[List.getElem?_map,List.getElem?_take,List.getElem?_drop] at hu⊢
  split at hu
  ·simpa using hu
  ·cases hu
 ·intro id hid
  rw[hg2] at hid
  obtain⟨c,hc,hc'⟩:=List.mem_flatMap.1 hid
  exact hids id (List.mem_flatMap.2 ⟨c,List.mem_of_mem_drop (List.mem_of_mem_take hc),hc'⟩)
theorem Jnd [Dr] (C:Jl P N B w0 al τ σ a w ρ M R) {i off:Nat} {U:TypeId} {cs:List SC} (hr:σ i=some (.fbox U cs)) {T:TypeId} {m:Nat} (hm:J7 P T=some m) (hl:off+m≤cs.length) {v:SV} (hv:shape P T ((cs.drop off).take m)=some v):
  (loadVar T ⟨(match ρ i with| .pointer (some a)=>a.block|_=>0),off,none⟩).run P w= .ok (v.den ρ) w∧(SC.ptr i off).den ρ= .pointer (some ⟨(match ρ i with| .pointer (some a)=>a.block|_=>0),off,none⟩)∧∀id∈v.ids,al id:=by
 obtain⟨b,h1,h2,_⟩:=C.res i _ hr
 have hids:=(C.resIds i _ hr).2
 have hlen:((cs.drop off).take m).length=m:=by simp;omega
 have hg:∃g,Kc P T=some g∧v= .v g ((cs.drop off).take m)∧(g=false→m=1):=by
  unfold shape at hv
  cases hT:Kc P T with
  |none=>rw[hT] at hv;cases hv
  | some g =>
   rw[hT] at hv
   cases g with
   |true=>cases hv;exact⟨true,rfl,rfl,by simp⟩
   | false =>
    simp only at hv
    split at hv
    ·rename_i c e;cases hv;refine⟨false,rfl,by rw[e],fun _=> ?_⟩
     rw[←hlen,e];rfl
    ·cases hv
 obtain⟨g,hg1,hg2,hg3⟩:=hg
 refine⟨?_,by simp[SC.den,h1], ?_⟩
 ·rw[h1,hg2]
  simp only[SV.den]
  refine Y1 hg1 (by rw[hm,List.length_map,hlen]) (fun e=>by rw[List.length_map,hlen];exact hg3 e) w fun k u hu=> ?_
  refine U9 h2 ?_
  rw[List.getElem?_map] at hu
  simp only[List.getElem?_map,List.getElem?_take,List.getElem?_drop] at hu⊢
  split at hu
  ·simpa using hu
  ·cases hu
 ·intro id hid
  rw[hg2] at hid
  obtain⟨c,hc,hc'⟩:=List.mem_flatMap.1 hid
  exact hids id (List.mem_flatMap.2 ⟨c,List.mem_of_mem_drop (List.mem_of_mem_take hc),hc'⟩)
end
end Go.Sx
namespace Go.Sx
open Go.RowKit
theorem Jk {v:Value} {g:Nat} (h:v.ownBlock=some g):blk v=some g:=by
 revert h;cases v<;>simp[Value.ownBlock,blk]
 rename_i a _ _;cases a<;>simp
theorem Jr {α:Type}:∀{l:List (Nat×α)} {i:Nat} {y:α},look l i=some y→(i,y)∈l
 |[],_,_,h=>by simp[look] at h
 |(j,v)::r,i,y,h=>by
  unfold look at h
  split at h
  ·rename_i e;subst e;cases h;simp
  ·exact List.mem_cons_of_mem _ (Jr h)
theorem Kz.get {M:Nat→Prop} {w:World} {s:Sch}:∀{xs:List s.T} {flat:List Value},Kz (Rep M w s) xs flat→∀(j:Nat),j<xs.length→
  Rep M w s (xs.getD j s.dflt) ((flat.drop (j*s.size)).take s.size)
 |[],_,_,j,h=>by simp at h
 |x::xs,flat,⟨c1,c2,e,h1,h2⟩,0,_=>by
  subst e
  have:=h1.length
  simp only[Nat.zero_mul,List.drop_zero,List.getD_cons_zero]
  rw[List.take_append_of_le_length (by omega),←this,List.take_length]
  exact h1
 |x::xs,flat,⟨c1,c2,e,h1,h2⟩,j+1,h=>by
  subst e
  have hl:=h1.length
  have:=Kz.get h2 j (by simpa using h)
  simp only[List.getD_cons_succ]
  rw[Nat.succ_mul,Nat.add_comm,←hl,List.drop_append]
  rw[show c1.length+j*c1.length-c1.length=j*c1.length by omega,List.drop_eq_nil_of_le (by omega),List.nil_append,hl]
  exact this
section
variable {P:Program} {N B:Nat} {w0:K8} {al:Nat→Prop} {τ:Nat→Option SV} {σ:Nat→Option Res} {a:Act} {w:World} {ρ:Env} {M R:Nat→Prop} {n:Nat} {d:Option Tmp}
theorem U4 {T:TypeId} {cs:List SC} {v:SV} (hv:shape P T cs=some v):∃g,Kc P T=some g∧v= .v g cs∧(g=false→cs.length=1):=by
 unfold shape at hv
 cases hT:Kc P T with
 |none=>rw[hT] at hv;cases hv
 | some g =>
  rw[hT] at hv
  cases g with
  |true=>cases hv;exact⟨true,rfl,rfl,by simp⟩
  |false=>
   simp only at hv
   split at hv
   ·cases hv;exact⟨false,rfl,rfl,fun _=>rfl⟩
   ·cases hv
theorem Jaq:∀(cs:List SC) (n:Nat),(Ka cs n).1.length=cs.length
 |[],_=>rfl
 |c::r,n=>by cases c<;>simp[Ka,Jaq r]
theorem Zj [Dr] (C:Jl P N B w0 al τ σ a w ρ M R) (hd:∀t,d=some t→t<N) {T:TypeId} {m:Nat} (hm:J7 P T=some m) {cs:List SC} {vs:List Value} (h2:Xz (Vj M w) cs vs) (hl:cs.length=m)
  {v:SV} (hv:shape P T (Ka cs n).1=some v) {b off:Nat} (hc:∀k u,vs[k]? =some u→w.cell? ⟨b,off+k,none⟩=some u)
  (hfresh:∀id,al id→¬(n≤id∧id<n+(Ka cs n).2.length)):
  ∃u ρ',(loadVar T ⟨b,off,none⟩).run P w= .ok u w∧Jl P N B w0 (Ve al n (Ka cs n).2) (Vd τ d v) (Ki σ n (Ka cs n).2 []) (a.put d u) w ρ' M R:=by
 obtain⟨g,hg,rfl,h1⟩:=U4 hv
 obtain⟨ρ',hC⟩:=C.described (n:=n) hd h2 g hfresh
 have hvl:=h2.length
 rw[Jaq] at h1
 exact⟨_,ρ',Y1 hg (by rw[hm,←hvl,hl]) (fun e=>by rw[←hvl];exact h1 e) w hc,hC⟩
theorem Jbb {T:TypeId} {s:Sch} {xs:List s.T} {v:Value} (h:Rep M w (.list T s) xs [v]) {j:Nat} (hj:j<xs.length):
  ∃b off cap cv,v= .slice (some ⟨b,off,none⟩) xs.length cap∧Xz (Vj M w) (enc s (xs.getD j s.dflt)) cv∧∀k u,cv[k]? =some u→w.cell? ⟨b,off+(j*s.size+k),none⟩=some u:=by
 obtain⟨v',flat,e,h1,h2⟩:=h
 cases e
 have hg:=h1.get j hj
 rcases h2 with⟨_,h2⟩|⟨b,off,cap,e,_,hk,_⟩
 ·omega
 ·refine⟨b,off,cap,_,e,Y7 hg,fun k u hu=> ?_⟩
  rw[List.getElem?_take] at hu
  split at hu
  ·rw[List.getElem?_drop] at hu
   exact hk _ u hu
  ·cases hu
theorem Jhb {T:TypeId} {s:Sch} {xs:List s.T} {v:Value} {flat:List Value} (h1:Kz (Rep M w s) xs flat) (h2:w.ownsRow B T s.size v xs.length flat) {j:Nat} (hj:j<xs.length):
  ∃b off cap cv,v= .slice (some ⟨b,off,none⟩) xs.length cap∧Xz (Vj M w) (enc s (xs.getD j s.dflt)) cv∧∀k u,cv[k]? =some u→w.cell? ⟨b,off+(j*s.size+k),none⟩=some u:=by
 have hg:=h1.get j hj
 rcases h2.2 with⟨_,h3⟩|⟨g,cap,cur,e,_⟩
 ·omega
 ·refine⟨g,0,cap,_,e,Y7 hg,fun k u hu=> ?_⟩
  rw[List.getElem?_take] at hu
  split at hu
  ·rw[List.getElem?_drop] at hu
   have:=h2.cells (g:=g) (by rw[e];rfl) _ u hu
   rwa[Addr.add_lit] at this
  ·cases hu
theorem F9 {v:Value} {n B sz:Nat} {T:TypeId} {flat:List Value} (h:Jkm w B T sz v n flat) {ad:Addr} {len cap:Nat} (e:v= .slice (some ad) len cap):len=n∧∀k u,flat[k]? =some u→w.cell? (ad.add k)=some u:=by
 rcases h.2 with⟨h1,_⟩|⟨g,d,cap',cur,e1,hb,hg,h2,h3,h4,h5⟩
 ·rw[h1] at e;cases e
 ·rw[e1] at e;cases e
  refine⟨rfl,fun k u hu=> ?_⟩
  rw[Addr.add_lit]
  refine U9 hg ?_
  rw[←h5,List.getElem?_take] at hu
  split at hu
  ·rwa[List.getElem?_drop] at hu
  ·cases hu
theorem Jio {T:TypeId} {s:Sch} {xs:List s.T} {v:Value} {flat:List Value} (h1:Kz (Rep M w s) xs flat) (h2:Jkm w B T s.size v xs.length flat) {j:Nat} (hj:j<xs.length):
  ∃b off cap cv,v= .slice (some ⟨b,off,none⟩) xs.length cap∧Xz (Vj M w) (enc s (xs.getD j s.dflt)) cv∧∀k u,cv[k]? =some u→w.cell? ⟨b,off+(j*s.size+k),none⟩=some u:=by
 have hg:=h1.get j hj
 rcases h2.2 with⟨_,h3⟩|⟨g,d,cap,cur,e,_⟩
 ·omega
 ·refine⟨g,d,cap,_,e,Y7 hg,fun k u hu=> ?_⟩
  rw[List.getElem?_take] at hu
  split at hu
  ·rw[List.getElem?_drop] at hu
   have:=(F9 h2 e).2 _ u hu
   rwa[Addr.add_lit] at this
  ·cases hu
theorem Jdk {v:Value} {n B sz:Nat} {T:TypeId} {flat:List Value} (h:w.ownsRow B T sz v n flat):Jkm w B T sz v n flat:=by
 refine⟨h.1, ?_⟩
 rcases h.2 with h|⟨g,cap,cur,e,h1,h2,h3,h4,h5,h6⟩
 ·exact .inl h
 ·exact .inr ⟨g,0,cap,cur,e,h1,h2,h3,h4,by rw[h5,Nat.zero_add];exact Nat.le_refl _,by simpa using h6⟩
theorem Jl.allocRes [Dr] (C:Jl P N B w0 al τ σ a w ρ M R) (hd:∀t,d=some t→t<N) (hn:¬al n) (o:Obj) {x:Res} {v:SC} {u:Value} (hu1:u.oneCell'=true) (hb:blk u=some w.heap.size)
  (hv:∀ρ':Env,ρ' n=u→v.den ρ'=u) (hvi:∀id∈v.ids,id=n) (hxi:∀id∈x.ids,al id)
  (hx:∀ρ':Env,ρ' n=u→(∀id,al id→ρ' id=ρ id)→Uh P ρ' M R B (w.alloc o) n x):
  ∃ρ',Jl P N B w0 (Ve al n [x]) (Vd τ d (.one v)) (Ki σ n [x] []) (a.put d u) (w.alloc o) ρ' M R:=by
 have hne:∀id,al id→id≠n:=fun id h e=>hn (e▸h)
 refine⟨Kb ρ n [u], ?_⟩
 have en:Kb ρ n [u] n=u:=Ko (i:=0) rfl
 have eo:∀id,al id→Kb ρ n [u] id=ρ id:=fun id h=>Ke (by have:=hne id h;simp;omega)
 have hold:∀b,b<w.heap.size→(w.alloc o).heap[b]? =w.heap[b]? :=fun b h=>Below.heap_alloc w o b h
 refine C.step hd (fun id h=>by have:=hne id h;simp;omega) (fun id h=>Ke (by simpa using h)) ?_ ?_ ((Below.refl B w).alloc C.base o) (by simp) (fun _ h=>h)
  (fun b h=>by have:=C.old b (.inl h);simp;omega) (fun b h=>hold b (C.old b h)) ?_ ?_ ?_ ?_
 ·show u=valOf false [v.den _]
  rw[hv _ en];rfl
 ·intro id hid
  have:id=n:=hvi id (by simpa[SV.ids,J1] using hid)
  exact .inr ⟨by omega,by simp;omega⟩
 ·intro r x' _ _ hx' ho b hb'
  obtain⟨h1,_,_,h2⟩:=C.notM hx' ho hb'
  exact⟨hold b h2,h1⟩
 ·rintro r x' hx' (h|h)
  ·have er:r=n:=by simp at h;omega
   subst er
   rw[Vm h] at hx'
   simp at hx'
   subst hx'
   exact⟨hx _ en eo, .inr h,fun id hid=> .inl (hxi id hid)⟩
  ·exact absurd rfl h
 ·intro id h
  have er:id=n:=by simp at h;omega
  subst er
  rw[en];exact hu1
 ·rintro r r' x1 x2 hne' h1 h2 o1 o2 (h|h) b hb1 hb2
  ·have er:r=n:=by simp at h;omega
   subst er
   rw[en,hb] at hb1
   cases hb1
   have hr':¬(r≤r'∧r'<r+[x].length):=by simp;omega
   unfold Ki at h2
   rw[if_neg hr'] at h2
   simp only[look] at h2
   have hal:=(C.resIds r' x2 h2).1
   rw[eo r' hal] at hb2
   have:=(C.notM h2 o2 hb2).2.2.2
   omega
  ·exact absurd rfl h
theorem Jn9 (ρ:Env) (v:Value):(D8 v).den ρ=v:=by cases v<;>rfl
theorem Jnr (v:Value):(D8 v).ids=[]:=by cases v<;>rfl
theorem Yt (ρ:Env) (l:List Value):(l.map D8).map (SC.den ρ)=l:=by
 rw[List.map_map]
 conv=>rhs;rw[←List.map_id l]
 exact List.map_congr_left fun v _=>Jn9 ρ v
theorem Db (l:List Value):J1 (l.map D8)=[]:=by
 induction l with
 |nil=>rfl
 |cons v l ih=>simp only[List.map_cons,J1,List.flatMap_cons,Jnr,List.nil_append];exact ih
theorem Jbe (ρ:Env) (v:Value):(ofValue v).den ρ=v:=by
 cases v<;>try rfl
 rename_i cs
 simp only[ofValue,SV.den,valOf,Yt]
theorem Jl.newBox [Dr] (C:Jl P N B w0 al τ σ a w ρ M R) (hd:∀t,d=some t→t<N) (hn:¬al n) (T:TypeId) (cs:List SC) (hcs:∀id∈J1 cs,al id):
  ∃ρ',Jl P N B w0 (Ve al n [.box T cs]) (Vd τ d (.one (.ptr n 0))) (Ki σ n [.box T cs] []) (a.put d (.pointer (some ⟨w.heap.size,0,none⟩))) (w.alloc (.cells (cs.map (SC.den ρ)).toArray T)) ρ' M R:=by
 refine C.allocRes hd hn _ rfl rfl (fun ρ' h=>by simp[SC.den,h]) (fun id h=>by simpa[SC.ids] using h) hcs fun ρ' h1 h2=> ?_
 refine⟨w.heap.size,h1, ?_,fun h=> ?_,fun h=> ?_,C.base⟩
 ·rw[heap_alloc_new,Yu fun id hid=>h2 id (hcs id hid)]
 ·have:=C.old _ (.inl h);omega
 ·have:=C.old _ (.inr h);omega
end
end Go.Sx
namespace Go.Sx
open Go.RowKit
theorem D5 [Dr] {B:Nat} {w:World} {g:Nat} {cs:Array Value} (h:B≤g):Below B w (w.setRow g cs):=
 ⟨rfl,rfl,rfl,by simp[World.setRow],fun k hk=>setRow_other w g k cs (by omega),fun _=>Nat.le_refl _⟩
theorem Vx (w:World) (g:Nat) (cs:Array Value):(w.setRow g cs).heap.size=w.heap.size:=by simp[World.setRow]
theorem Vr {g:Bool} {vs:List Value} (h:∀v∈vs,v.oneCell'=true) (h1:g=false→vs.length=1):(valOf g vs).cells=vs.toArray:=by
 cases g with
 |true=>rfl
 |false=>
  obtain⟨u,rfl,hu⟩:=Fu (h1 rfl)
  rw[hu]
  have:=h u (by simp)
  cases u<;>first|rfl|simp[Value.oneCell'] at this
section
variable {P:Program} {N B:Nat} {w0:K8} {al:Nat→Prop} {τ:Nat→Option SV} {σ:Nat→Option Res} {a:Act} {w:World} {ρ:Env} {M R:Nat→Prop} {n:Nat} {d:Option Tmp}
theorem Ld [Dr] (C:Jl P N B w0 al τ σ a w ρ M R) {c:SC} (hc:c.atom=true) (hi:∀id∈c.ids,al id):(c.den ρ).oneCell'=true:=by
 cases c with
 |ptr i off=>simp only[SC.den];split<;>rfl
 |elt i sz idx off=>simp only[SC.den];split<;>rfl
 |sl i=>exact C.one i (hi i (by simp[SC.ids]))
 |fv i=>exact C.one i (hi i (by simp[SC.ids]))
 |lst T s xs=>simp[SC.atom] at hc
 |val v=>cases v<;>simp_all [SC.atom,SC.den,Value.oneCell']
 |fno x=>cases x<;>rfl
 |_=>rfl
theorem Kk {x:SV} {cs:List SC} (h:Yz x=some cs):∃g,x= .v g cs∧(g=false→cs.length=1):=by
 unfold Yz at h
 split at h
 ·cases h;exact⟨true,rfl,by simp⟩
 ·cases h;exact⟨false,rfl,fun _=>rfl⟩
 ·cases h
theorem Jl.storeBox [Dr] (C:Jl P N B w0 al τ σ a w ρ M R) (hd:∀t,d=some t→t<N) {i off m:Nat} {U T:TypeId} {cs new:List SC} (hr:σ i=some (.box U cs)) (hm:J7 P T=some m) (hl:off+m≤cs.length) (hnew:new.length=m)
  {x:SV} (hx:Yz x=some new) (hat:Xb new=true) (hids:∀id∈J1 new,al id):
  ∃w',(Instr.storeAt T ((SC.ptr i off).den ρ) (x.den ρ)).run P w= .ok () w'∧
   Jl P N B w0 (Ve al n []) (Vd τ d Ju) (Ki σ n [] [(i,some (.box U (cs.take off++new++cs.drop (off+m))))]) (a.put d undef) w' ρ M R:=by
 obtain⟨b,h1,h2,h3,h4,h5⟩:=C.res i _ hr
 have hi:=C.resIds i _ hr
 obtain⟨g,rfl,hg⟩:=Kk hx
 have hone:∀v∈new.map (SC.den ρ),v.oneCell'=true:=by
  intro v hv
  obtain⟨c,hc,rfl⟩:=List.mem_map.1 hv
  exact Ld C (by simpa using List.all_eq_true.1 hat c hc) fun id hid=>hids id (List.mem_flatMap.2 ⟨c,hc,hid⟩)
 have hcells:((SV.v g new).den ρ).cells=(new.map (SC.den ρ)).toArray:=Vr hone fun e=>by rw[List.length_map];exact hg e
 have hst:=run_storeCells_at P b off U (new.map (SC.den ρ)) 0 _ w h2 (by simp;omega) hone
 obtain⟨X,hX⟩:∃X:Array Value,X=((cs.map (SC.den ρ)).toArray.toList.take (off+0)++new.map (SC.den ρ)++(cs.map (SC.den ρ)).toArray.toList.drop (off+0+(new.map (SC.den ρ)).length)).toArray:=⟨_,rfl⟩
 rw[←hX] at hst
 refine⟨w.setRow b X, ?_, ?_⟩
 ·simp only[Instr.storeAt,SC.den,h1,Instr.sureAddr,Sem.run_bind,Sem.run_pure,Result.andThen_ok,Nat.zero_add]
  unfold storeVar
  simp only[Sem.run_bind,Jx hm,Result.andThen_ok,hcells]
  rw[if_neg (by simp[hnew])]
  exact hst
 ·have hrow:=setRow_heap w b _ X U (0,0) h2
  refine C.step hd (fun id _ h=>by simp at h;omega) (fun _ _=>rfl) rfl (fun id hid=>by simp[Ju,SV.ids,J1,SC.ids] at hid) (D5 h5) (by rw[Vx];exact Nat.le_refl _) (fun _ h=>h)
   (fun b h=>by rw[Vx];exact C.old b (.inl h)) (fun b' h=>setRow_other w b b' _ (by rintro rfl;exact h.elim h3 h4)) ?_ ?_ (fun id h=>by simp at h;omega) ?_
  ·intro r x' _ hlk hx' ho b' hb'
   have hne:b'≠b:=by
    rintro rfl
    have hri:r≠i:=by rintro rfl;simp[look] at hlk
    exact C.apart r i x' _ hri hx' hr ho rfl b' hb' (by rw[h1];rfl)
   exact⟨setRow_other w b b' _ hne,(C.notM hx' ho hb').1⟩
  ·rintro r x' hx' (h|h)
   ·simp at h;omega
   ·have er:i=r:=by
     by_cases e:i=r
     ·exact e
     ·simp[look,e] at h
    subst er
    unfold Ki at hx'
    rw[if_neg (by simp)] at hx'
    simp only[look,↓reduceIte] at hx'
    cases hx'
    refine⟨⟨b,h1, ?_,h3,h4,h5⟩, .inl hi.1,fun id hid=> .inl ?_⟩
    ·rw[hrow,hX]
     simp[hnew,List.map_take,List.map_drop]
    ·simp only[Res.ids,J1,List.flatMap_append,List.mem_append] at hid
     rcases hid with(hid|hid)|hid
     ·obtain⟨c,hc,hc'⟩:=List.mem_flatMap.1 hid
      exact hi.2 id (List.mem_flatMap.2 ⟨c,List.mem_of_mem_take hc,hc'⟩)
     ·exact hids id hid
     ·obtain⟨c,hc,hc'⟩:=List.mem_flatMap.1 hid
      exact hi.2 id (List.mem_flatMap.2 ⟨c,List.mem_of_mem_drop hc,hc'⟩)
  ·rintro r r' x1 x2 hne hx1 hx2 o1 o2 (h|h) b' hb1 hb2
   ·simp at h;omega
   ·have er:i=r:=by
     by_cases e:i=r
     ·exact e
     ·simp[look,e] at h
    subst er
    unfold Ki at hx2
    rw[if_neg (by simp)] at hx2
    simp only[look,hne,↓reduceIte] at hx2
    exact C.apart i r' _ x2 hne hr hx2 rfl o2 b' hb1 hb2
theorem Jl.freeze [Dr] (C:Jl P N B w0 al τ σ a w ρ M R) (n:Nat) {upd:List (Nat×Option Res)} (hu:∀i y,look upd i=some y→∃T s xs,σ i=some (.own T s xs)∧y=some (.imm T s xs)):
  Jl P N B w0 al τ (Ki σ n [] upd) a w ρ (fun b=>M b∨∃i y T s xs,look upd i=some y∧σ i=some (.own T s xs)∧(ρ i).ownBlock=some b) R:=by
 have key:=C.step (d:=none) (n:=n) (news:=[]) (upd:=upd) (v:=Ju) (u:=undef) (ρ':=ρ) (w':=w) (M':=fun b=>M b∨∃i y T s xs,look upd i=some y∧σ i=some (.own T s xs)∧(ρ i).ownBlock=some b)
  (fun t h=>by cases h) (fun id _ h=>by simp at h;omega) (fun _ _=>rfl) rfl (fun id hid=>by simp[Ju,SV.ids,J1,SC.ids] at hid) (Below.refl _ _) (Nat.le_refl _) (fun _ h=> .inl h) ?_ (fun _ _=>rfl) ?_ ?_ (fun id h=>by simp at h;omega) ?_ (by
   rintro b (h|⟨i,y,T,s,xs,_,h2,h3⟩)
   ·exact .inl h
   ·exact .inr ⟨(C.notM h2 rfl (Jk h3)).2.2.1,(C.notM h2 rfl (Jk h3)).2.1⟩)
 ·have e1:Ve al n []=al:=by funext id;simp[Ve];intro h1 h2;omega
  have e2:Vd τ none Ju=τ:=by funext t;simp[Vd]
  rw[e1,e2] at key
  exact key
 ·rintro b (h|⟨i,y,T,s,xs,_,h2,h3⟩)
  ·exact C.old b (.inl h)
  ·exact(C.notM h2 rfl (Jk h3)).2.2.2
 ·intro r x _ hlk hx ho b hb
  refine⟨rfl, ?_⟩
  rintro(h|⟨i,y,T,s,xs,h1,h2,h3⟩)
  ·exact(C.notM hx ho hb).1 h
  ·have hne:r≠i:=by rintro rfl;rw[hlk] at h1;cases h1
   exact C.apart r i x _ hne hx h2 ho rfl b hb (Jk h3)
 ·rintro r x hx (h|h)
  ·simp at h;omega
  ·obtain⟨y,hy⟩:=Option.ne_none_iff_exists'.1 h
   obtain⟨T,s,xs,h1,rfl⟩:=hu r y hy
   unfold Ki at hx
   rw[if_neg (by simp<;>omega),hy] at hx
   cases hx
   obtain⟨flat,h2,h3,_⟩:=C.res r _ h1
   refine⟨Jdl (T':=T) h2 h3 (fun _ h=> .inl h) fun g hg=> .inr ⟨r,_,T,s,xs,hy,h1,hg⟩, .inl (C.resIds r _ h1).1,fun id hid=>by simp[Res.ids] at hid⟩
 ·rintro r r' x x' _ hx _ ho _ (h|h)
  ·simp at h;omega
  ·obtain⟨y,hy⟩:=Option.ne_none_iff_exists'.1 h
   obtain⟨T,s,xs,h1,rfl⟩:=hu r y hy
   unfold Ki at hx
   rw[if_neg (by simp<;>omega),hy] at hx
   cases hx
   cases ho
theorem Un {rs:Nat→Option Res}:∀{cs:List SC} {i:Nat} {y:Option Res},(i,y)∈freeze rs cs→∃T s xs,rs i=some (.own T s xs)∧y=some (.imm T s xs)
 |[],_,_,h=>by simp[Sx.freeze] at h
 | c :: r, i, y, h => by
  cases c with
  | sl j =>
   simp only[Sx.freeze] at h
   split at h
   ·rename_i T s xs e
    rcases List.mem_cons.1 h with h|h
    ·cases h;exact⟨T,s,xs,e,rfl⟩
    ·exact Un h
   ·exact Un h
  |_=>exact Un (cs:=r) h
theorem Xj (σ:Nat→Option Res) (n:Nat) (news:List Res) (upd:List (Nat×Option Res)):Ki (Ki σ n [] upd) n news []=Ki σ n news upd:=by
 funext id
 unfold Ki
 by_cases h:n≤id∧id<n+news.length
 ·rw[if_pos h,if_pos h]
 ·rw[if_neg h,if_neg h]
  simp only[look]
  rw[if_neg (by simp<;>omega)]
end
end Go.Sx
namespace Go.Sx
open Go.RowKit
theorem Jf1 (off:Nat):∀(vs:List Value) (k:Nat) (cells:Array Value),off+k+vs.length≤cells.size→
  (vs.zipIdx k).foldl (fun(cs:Array Value) (p:Value×Nat)=>cs.setIfInBounds (off+p.2) p.1) cells=(cells.toList.take (off+k)++vs++cells.toList.drop (off+k+vs.length)).toArray
 |[],k,cells,_=>by simp
 |v::vs,k,cells,h=>by
  simp only[List.length_cons] at h
  rw[List.zipIdx_cons,List.foldl_cons,Jf1 off vs (k+1) _ (by simp;omega)]
  have e:=list_seg_step cells.toList (off+k) v vs (by simp;omega)
  simpa[Array.toList_setIfInBounds,Nat.add_assoc] using e
theorem Jf6 {place:Nat→Option (Nat×Nat)} {cells:Array Value} {i off:Nat} {v:Value} {vs:List Value} {rest:List (Nat×Value)} (hp:place i=some (off,vs.length)) (hv:v.cells=vs.toArray) (hl:off+vs.length≤cells.size):
  Instr.fill place cells ((i,v)::rest)=Instr.fill place (cells.toList.take off++vs++cells.toList.drop (off+vs.length)).toArray rest:=by
 simp only[Instr.fill,hp,hv]
 rw[if_neg (by simp;omega)]
 congr 1
 have:=Jf1 off vs 0 cells (by simpa using hl)
 simp only[Nat.add_zero] at this
 rw[←this,←Array.foldl_toList]
 simp[Array.toList_zipIdx]
theorem Jd4 (ρ:Env) {place:Nat→Option (Nat×Nat)}:∀{l:List (Nat×List SC)} {cs cs':List SC} {parts:List (Nat×Value)},Jhr place cs l=some cs'→
  Xz (fun p q=>p.1=q.1∧(q.2:Value).cells=(p.2.map (SC.den ρ)).toArray) l parts→Instr.fill place (cs.map (SC.den ρ)).toArray parts=some (cs'.map (SC.den ρ)).toArray
 |[],cs,cs',[],h,_=>by cases h;rfl
 | (i, x) :: l, cs, cs', (j, v) :: parts, h, ⟨⟨h1, h2⟩, h3⟩ => by
  simp only at h1 h2
  subst h1
  simp only[Jhr] at h
  split at h
  ·rename_i off m hp
   split at h
   ·rename_i hc
    obtain⟨e,hl⟩:=hc
    rw[Jf6 (off:=off) (vs:=x.map (SC.den ρ)) (by rw[hp,List.length_map,e]) h2 (by simp;omega)]
    have:=Jd4 ρ h h3
    rw[←this]
    simp[List.map_take,List.map_drop,e]
   ·cases h
  ·cases h
 |[],_,_,_::_,_,h=>h.elim
 |_::_,_,_,[],_,h=>h.elim
theorem Jf7 {sz:Nat}:∀{rows:List (List Value)} {k:Nat} {cells:Array Value} {parts:List (Nat×Value)},cells.size=(k+rows.length)*sz→(∀r∈rows,r.length=sz)→
  Xz (fun(r:Nat×List Value) (q:Nat×Value)=>r.1=q.1∧q.2.cells=r.2.toArray) ((rows.zipIdx k).map fun p=>(p.2,p.1)) parts→
  Instr.fill (fun i=>some (i*sz,sz)) cells parts=some (cells.toList.take (k*sz)++rows.flatten).toArray
 |[],k,cells,[],hs,_,_=>by
  simp only[Instr.fill,List.flatten_nil,List.append_nil]
  rw[List.take_of_length_le (by simp[hs])]
 |r::rows,k,cells,(j,v)::parts,hs,hr,⟨⟨h1,h2⟩,h3⟩=>by
  simp only at h1 h2
  subst h1
  have hrl:=hr r (by simp)
  simp only[List.length_cons] at hs
  have hle:k*sz+sz≤cells.size:=by rw[hs,←Nat.succ_mul];exact Nat.mul_le_mul_right _ (by omega)
  rw[Jf6 (off:=k*sz) (vs:=r) (by rw[hrl]) h2 (by omega)]
  rw[Jf7 (k:=k+1) (rows:=rows) (by simp[hrl];rw[hs] at hle⊢;rw[show k+(rows.length+1)=k+1+rows.length by omega] at*;omega) (fun r' h=>hr r' (by simp[h])) h3]
  congr 2
  simp only[List.flatten_cons]
  rw[←List.append_assoc,List.take_append_of_le_length (by simp[hrl,Nat.succ_mul];omega),List.take_of_length_le (by simp[hrl,Nat.succ_mul];omega)]
 |[],_,_,_::_,_,_,h=>h.elim
 |_::_,_,_,[],_,_,h=>h.elim
section
variable {P:Program} {N B:Nat} {w0:K8} {al:Nat→Prop} {τ:Nat→Option SV} {σ:Nat→Option Res} {a:Act} {w:World} {ρ:Env} {M R:Nat→Prop} {n:Nat} {d:Option Tmp}
theorem F8 [Dr] (C:Jl P N B w0 al τ σ a w ρ M R) {ev:Operand→Option SV} (hev:∀x sv,ev x=some sv→a.eval x=sv.den ρ∧∀id∈sv.ids,al id):∀{parts:List (Nat×Operand)} {l:List (Nat×List SC)},Hy ev parts=some l→
  Xz (fun p q=>p.1=q.1∧(q.2:Value).cells=(p.2.map (SC.den ρ)).toArray) l (parts.map fun p=>(p.1,a.eval p.2))∧∀p∈l,∀id∈J1 p.2,al id
 |[],l,h=>by cases h;exact⟨trivial,fun p hp=>by simp at hp⟩
 | (i, x) :: r, l, h => by
  simp only[Hy] at h
  split at h
  ·rename_i v l' hv hl
   split at h
   ·rename_i cs hcs
    split at h
    ·rename_i hat
     cases h
     obtain⟨g,rfl,hg⟩:=Kk hcs
     obtain⟨h1,h2⟩:=hev x _ hv
     obtain⟨h3,h4⟩:=F8 C hev hl
     have hone:∀v∈cs.map (SC.den ρ),v.oneCell'=true:=by
      intro v hv
      obtain⟨c,hc,rfl⟩:=List.mem_map.1 hv
      exact Ld C (by simpa using List.all_eq_true.1 hat c hc) fun id hid=>h2 id (List.mem_flatMap.2 ⟨c,hc,hid⟩)
     refine⟨⟨⟨rfl, ?_⟩,h3⟩, ?_⟩
     ·show(a.eval x).cells=_
      rw[h1]
      exact Vr hone fun e=>by rw[List.length_map];exact hg e
     ·intro p hp
      rcases List.mem_cons.1 hp with rfl|hp
      ·exact h2
      ·exact h4 p hp
    ·cases h
   ·cases h
  ·cases h
theorem Ug {rs:Nat→Option Res}:∀{cs:List SC} {i:Nat} {T:TypeId} {s:Sch} {xs:List s.T},SC.sl i∈cs→rs i=some (.own T s xs)→(Sx.look (Sx.freeze rs cs) i).isSome=true
 |[],_,_,_,_,h,_=>by simp at h
 | c :: r, i, T, s, xs, h, hr => by
  by_cases hc:c= .sl i
  ·subst hc
   simp[Sx.freeze,hr,look]
  ·have h':SC.sl i∈r:=(List.mem_cons.1 h).resolve_left (Ne.symm hc)
   have ih:=Ug h' hr
   cases c with
   | sl j =>
    simp only[Sx.freeze]
    split
    ·simp only[look]
     split
     ·rfl
     ·exact ih
    ·exact ih
   |_=>exact ih
theorem Hb {α:Type}:∀{l l':List (Nat×α)} {i:Nat},(look l i).isSome=true∨(look l' i).isSome=true→(look (l++l') i).isSome=true
 |[],l',i,h=>by simpa[look] using h
 | (j, v) :: l, l', i, h => by
  simp only[List.cons_append,look] at h⊢
  split
  ·rfl
  ·rename_i hne
   rw[if_neg hne] at h
   exact Hb h
theorem Km {α β:Type} {f:β→List (Nat×α)}:∀{l:List β} {b:β} {i:Nat},b∈l→(look (f b) i).isSome=true→(look (l.flatMap f) i).isSome=true
 |c::l,b,i,hb,h=>by
  rw[List.flatMap_cons]
  rcases List.mem_cons.1 hb with rfl|hb
  ·exact Hb (.inl h)
  ·exact Hb (.inr (Km hb h))
theorem D7 (t ty e:TypeId) (i:TypeInfo) (z:Value) {size bytes:Nat} (ht:P.underlying t=some (.slice e)) (hi:P.info? e=some i) (hz:i.zero=some z)
  (hsize:i.size=size) (hby:i.bytes=bytes) {v:Value} {m:Nat} {xs:List Value} (hown:w.ownsRow B e size v m xs)
  {ad:Addr} {k c:Nat} {news:List Value} (hl:news.length=k*size) (hnews:∀j u,news[j]? =some u→w.cell? (ad.add j)=some u) (h1:∀u∈news,u.oneCell'=true)
  (h63:m+k≤maxLen) (hbytes:(m+k)*bytes≤140737488355328) {v':Value} {w':World} (hrun:(Builtin.append_ #[t,t] ty #[v, .slice (some ad) k c]).run P w= .ok v' w'):
  v'.ownBlock=v.ownBlock∨v'.ownBlock=some w.heap.size:=by
 subst hsize;subst hby
 have hsmall:m+k≤9223372036854775807:=by simp only[maxLen] at h63;omega
 rcases hown.2 with⟨rfl,rfl⟩|⟨g,cap,cur,rfl,hbg,hg,hnc,hcm,hcs,htake⟩
 ·by_cases hk:k=0
  ·subst hk
   have hn:news=[]:=List.eq_nil_of_length_eq_zero (by simpa using hl)
   subst hn
   have:(Builtin.append_ #[t,t] ty #[.slice none 0 0, .slice (some ad) 0 c]).run P w= .ok (.slice none 0 0) w:=by
    simp[Builtin.append_,run_underlying ht,sizeOf,typeInfo,hi,Builtin.lenOf,Builtin.firstCells,loadCells,loadCellsFrom]
   rw[this] at hrun
   cases hrun
   exact .inl rfl
  ·rw[run_append_nil (P:=P) w t ty e i z ht hi hz ad k c news hl hnews (by omega) (by omega) (by have hb:=hbytes;simp only[Nat.zero_add] at hb;omega)] at hrun
   cases hrun
   exact .inr rfl
 ·by_cases hroom:m+k≤cap
  ·have hfit:m*i.size+news.length≤cur.size:=by rw[hl,hcs,←Nat.add_mul];exact Nat.mul_le_mul_right _ hroom
   rw[run_append_room (P:=P) w t ty e i ht hi g m cap cur hg ad k c news hl hnews h1 hroom hfit] at hrun
   cases hrun
   exact .inl rfl
  ·have holds:∀j u,xs[j]? =some u→w.cell? ((⟨g,0,none⟩:Addr).add j)=some u:=hown.cells (g:=g) rfl
   rw[run_append_grow (P:=P) w t ty e i z ht hi hz ⟨g,0,none⟩ m cap xs hown.1 holds ad k c news hl hnews (by omega) (by omega) (growslice_fits (by omega) hbytes)] at hrun
   cases hrun
   exact .inr rfl
end
end Go.Sx
namespace Go.Sx
open Go.RowKit
theorem Xz.mapL {α β γ:Type} {R:γ→β→Prop} {f:α→γ}:∀{l:List α} {m:List β},Xz (fun a b=>R (f a) b) l m→Xz R (l.map f) m
 |[],[],_=>trivial
 |_::_,_::_,h=>⟨h.1,Xz.mapL h.2⟩
 |[],_::_,h=>h.elim
 |_::_,[],h=>h.elim
section
variable {P:Program} {N B:Nat} {w0:K8} {al:Nat→Prop} {τ:Nat→Option SV} {σ:Nat→Option Res} {a:Act} {w:World} {ρ:Env} {M R:Nat→Prop} {n:Nat} {d:Option Tmp}
theorem Jii [Dr] {rs:Nat→Option Res} (hrs:∀i y,rs i=some y→Jwy P ρ M R B w i y) {M':Nat→Prop} (hM:∀b,M b→M' b) {s:Sch}:∀{ps:List (Nat×List SC)} {k:Nat} {xs:List s.T},Jg4 rs s ps k=some xs→
  (∀p∈ps,∀i T s' ys g,SC.sl i∈p.2→rs i=some (.own T s' ys)→(ρ i).ownBlock=some g→M' g)→
  Kz (Rep M' w s) xs ((ps.map fun p=>p.2.map (SC.den ρ)).flatten)∧(∀r∈ps.map (fun p=>p.2.map (SC.den ρ)),r.length=s.size)∧xs.length=ps.length∧
  ps.map (fun p=>(p.1,p.2.map (SC.den ρ)))=((ps.map fun p=>p.2.map (SC.den ρ)).zipIdx k).map fun p=>(p.2,p.1)
 |[],k,xs,h,_=>by cases h;exact⟨rfl,fun r hr=>by simp at hr,rfl,rfl⟩
 | (i, cs) :: r, k, xs, h, hf => by
  simp only[Jg4] at h
  split at h
  ·rename_i hc
   obtain⟨rfl,hl⟩:=hc
   split at h
   ·rename_i x xs' hx hxs
    cases h
    obtain⟨h1,h2,h3,h4⟩:=Jii hrs hM hxs fun p hp=>hf p (by simp[hp])
    refine⟨⟨_,_,rfl,Yv hM hx hrs (hf (i,cs) (by simp)),h1⟩, ?_,by simp[h3], ?_⟩
    ·intro r' hr'
     rcases List.mem_cons.1 hr' with rfl|hr'
     ·simpa using hl
     ·exact h2 r' hr'
    ·simp only[List.map_cons,List.zipIdx_cons,h4]
   ·cases h
  ·cases h
theorem Jl.buildSliceX [Dr] (C:Jl P N B w0 al τ σ a w ρ M R) (hd:∀t,d=some t→t<N) (hn:¬al n) {rs:Nat→Option Res} (hrs:∀id x,rs id=some x→σ id=some x)
  {ev:Operand→Option SV} (hev:∀x sv,ev x=some sv→a.eval x=sv.den ρ∧∀id∈sv.ids,al id)
  {T e:TypeId} {s:Sch} {len:Nat} {parts:List (Nat×Operand)} {ps:List (Nat×List SC)} {xs:List s.T} (hT:P.underlying T=some (.slice e)) (hs:J7 P e=some s.size) (h0:0<s.size) (hlen:ps.length=len) (hbig:len*s.size≤16777216)
  (hz:(zeroCells P e).isSome=true) (hps:Hy ev parts=some ps) (hxs:Jg4 rs s ps 0=some xs) {X:Res} (hXi:X.ids=[])
  (hX:∀(ρ':Env) (M':Nat→Prop) (flat:List Value),(∀b,M' b∨R b→b<w.heap.size)→ρ' n= .slice (some ⟨w.heap.size,0,none⟩) len len→xs.length=len→Kz (Rep M' w s) xs flat→Uh P ρ' M' R B (w.alloc (.cells flat.toArray e)) n X):
  ∃u w' ρ' M',(Instr.buildSlice T len (parts.map fun p=>(p.1,a.eval p.2)).toArray).run P w= .ok u w'∧
   Jl P N B w0 (Ve al n [X]) (Vd τ d (.one (.sl n))) (Ki σ n [X] (ps.flatMap fun p=>Sx.freeze rs p.2)) (a.put d u) w' ρ' M' R:=by
 obtain⟨hp1,hp2⟩:=F8 C hev hps
 have hlk:∀i y,look (ps.flatMap fun p=>Sx.freeze rs p.2) i=some y→∃T s xs,σ i=some (.own T s xs)∧y=some (.imm T s xs):=by
  intro i y h
  obtain⟨p,hp,hy⟩:=List.mem_flatMap.1 (Jr h)
  obtain⟨T,s,xs,h1,h2⟩:=Un hy
  exact⟨T,s,xs,hrs _ _ h1,h2⟩
 have C':=C.freeze n hlk
 obtain⟨h1,h2,h3,h4⟩:=Jii (ρ:=ρ) (M:=M) (R:=R) (B:=B) (w:=w) (fun i y h=>C.res i y (hrs i y h)) (M':=fun b=>M b∨∃i y T s xs,look (ps.flatMap fun p=>Sx.freeze rs p.2) i=some y∧σ i=some (.own T s xs)∧(ρ i).ownBlock=some b) (fun _ h=> .inl h) hxs
  (fun p hp i T s' ys g hi hr hg=>by
   have:=Km (f:=fun p:Nat×List SC=>Sx.freeze rs p.2) hp (Ug hi hr)
   obtain⟨y,hy⟩:=Option.isSome_iff_exists.1 this
   exact .inr ⟨i,y,T,s',ys,hy,hrs _ _ hr,hg⟩)
 have hrun:(Instr.buildSlice T len (parts.map fun p=>(p.1,a.eval p.2)).toArray).run P w= .ok (.slice (some ⟨w.heap.size,0,none⟩) len len) (w.alloc (.cells ((ps.map fun p=>p.2.map (SC.den ρ)).flatten).toArray e)):=by
  have hfill:∀cells:Array Value,cells.size=len*s.size→Instr.fill (fun i=>some (i*s.size,s.size)) cells (parts.map fun p=>(p.1,a.eval p.2))=some ((ps.map fun p=>p.2.map (SC.den ρ)).flatten).toArray:=by
   intro cells hc
   have:=Jf7 (sz:=s.size) (rows:=ps.map fun p=>p.2.map (SC.den ρ)) (k:=0) (cells:=cells) (parts:=parts.map fun p=>(p.1,a.eval p.2)) (by simp[hc,hlen]) h2 (by
    rw[←h4]
    exact hp1.mapL (f:=fun p:Nat×List SC=>(p.1,p.2.map (SC.den ρ))))
   simpa using this
  obtain⟨z,hzv⟩:∃z,(zeroValue e).run P w= .ok z w:=by
   unfold zeroCells at hz
   cases hi:P.info? e with
   |none=>rw[hi] at hz;cases hz
   |some i=>
    cases hzz:i.zero with
    |none=>rw[hi] at hz;simp[hzz] at hz
    |some z=>exact⟨z,by simp[zeroValue,typeInfo,hi,hzz]⟩
  unfold Instr.buildSlice
  simp only[Sem.run_bind,run_underlying hT,Result.andThen_ok,Jx hs]
  rw[if_neg (by omega)]
  by_cases h0':len*s.size=0
  ·simp[Sem.run_bind,h0',newRow,hfill]
  ·simp[Sem.run_bind,h0',hzv,newRow,hfill]
 have hflat:=h1.length
 have hM0:∀b,(M b∨∃i y T s xs,look (ps.flatMap fun p=>Sx.freeze rs p.2) i=some y∧σ i=some (.own T s xs)∧(ρ i).ownBlock=some b)∨R b→b<w.heap.size:=C'.old
 obtain⟨ρ',hC⟩:=C'.allocRes (n:=n) (d:=d) (x:=X) (v:= .sl n) (u:= .slice (some ⟨w.heap.size,0,none⟩) len len) hd hn (.cells ((ps.map fun p=>p.2.map (SC.den ρ)).flatten).toArray e) rfl rfl (fun ρ' h=>h) (fun id h=>by simpa[SC.ids] using h) (fun id h=>by rw[hXi] at h;simp at h) (fun ρ' h5 _=>hX ρ' _ _ hM0 h5 (h3.trans hlen) h1)
 rw[Xj] at hC
 exact⟨_,_,ρ',_,hrun,hC⟩
theorem Jl.buildSlice [Dr] (C:Jl P N B w0 al τ σ a w ρ M R) (hd:∀t,d=some t→t<N) (hn:¬al n) {rs:Nat→Option Res} (hrs:∀id x,rs id=some x→σ id=some x)
  {ev:Operand→Option SV} (hev:∀x sv,ev x=some sv→a.eval x=sv.den ρ∧∀id∈sv.ids,al id)
  {T e:TypeId} {s:Sch} {len:Nat} {parts:List (Nat×Operand)} {ps:List (Nat×List SC)} {xs:List s.T} (hT:P.underlying T=some (.slice e)) (hs:J7 P e=some s.size) (h0:0<s.size) (hlen:ps.length=len) (hbig:len*s.size≤16777216)
  (hz:(zeroCells P e).isSome=true) (hps:Hy ev parts=some ps) (hxs:Jg4 rs s ps 0=some xs):
  ∃u w' ρ' M',(Instr.buildSlice T len (parts.map fun p=>(p.1,a.eval p.2)).toArray).run P w= .ok u w'∧
   Jl P N B w0 (Ve al n [.own e s xs]) (Vd τ d (.one (.sl n))) (Ki σ n [.own e s xs] (ps.flatMap fun p=>Sx.freeze rs p.2)) (a.put d u) w' ρ' M' R:=by
 refine C.buildSliceX hd hn hrs hev hT hs h0 hlen hbig hz hps hxs (X:= .own e s xs) rfl fun ρ' M' flat hM0 h5 h3 h1=> ?_
 have hflat:=h1.length
 refine⟨_,h1.imp fun _ _ h=>h.keep fun b hb=>⟨hb,Below.heap_alloc w _ b (hM0 b (.inl hb))⟩, ?_,fun g hg=> ?_⟩
 ·rw[h5,h3]
  refine⟨by rw[hflat,h3], .inr ⟨w.heap.size,len,_,rfl,C.base,heap_alloc_new w _,Nat.le_refl _,by unfold maxLen;have:=Nat.le_mul_of_pos_right len h0;omega,by simp[hflat,h3], ?_⟩⟩
  simp only[List.toList_toArray]
  rw[List.take_of_length_le (by rw[hflat,h3];exact Nat.le_refl _)]
 ·rw[h5] at hg
  cases hg
  exact⟨fun h=>Nat.lt_irrefl _ (hM0 w.heap.size (.inl h)),fun h=>Nat.lt_irrefl _ (hM0 w.heap.size (.inr h))⟩
theorem Jls {M:Nat→Prop} {w:World}:∀{xs:List Int} {flat:List Value},Kz (Rep M w (.int .u8)) xs flat→flat=xs.map (Value.int .u8)
 |[],_,h=>h
 |x::xs,_,⟨c1,c2,e,h1,h2⟩=>by rw[e,show c1=[_] from h1,Jls h2];rfl
theorem Jl.buildLit [Dr] (C:Jl P N B w0 al τ σ a w ρ M R) (hd:∀t,d=some t→t<N) (hn:¬al n) {rs:Nat→Option Res} (hrs:∀id x,rs id=some x→σ id=some x)
  {ev:Operand→Option SV} (hev:∀x sv,ev x=some sv→a.eval x=sv.den ρ∧∀id∈sv.ids,al id)
  {T e:TypeId} {len:Nat} {parts:List (Nat×Operand)} {ps:List (Nat×List SC)} {xs:List Int} (hT:P.underlying T=some (.slice e)) (hs:J7 P e=some (Sch.int .u8).size) (h0:0<(Sch.int .u8).size) (hlen:ps.length=len) (hpos:0<len) (hbig:len*(Sch.int .u8).size≤16777216)
  (hz:(zeroCells P e).isSome=true) (hps:Hy ev parts=some ps) (hxs:Jg4 rs (.int .u8) ps 0=some xs):
  ∃u w' ρ' M',(Instr.buildSlice T len (parts.map fun p=>(p.1,a.eval p.2)).toArray).run P w= .ok u w'∧
   Jl P N B w0 (Ve al n [.lit e xs]) (Vd τ d (.one (.sl n))) (Ki σ n [.lit e xs] (ps.flatMap fun p=>Sx.freeze rs p.2)) (a.put d u) w' ρ' M' R:=by
 refine C.buildSliceX hd hn hrs hev hT hs h0 hlen hbig hz hps hxs (X:= .lit e xs) rfl fun ρ' M' flat hM0 h5 h3 h1=> ?_
 refine⟨by rw[h3];exact hpos,w.heap.size,(0,0),by rw[h5,h3],by rw[←Jls h1];exact heap_alloc_new w _,fun h=>Nat.lt_irrefl _ (hM0 w.heap.size (.inl h)),fun h=>Nat.lt_irrefl _ (hM0 w.heap.size (.inr h)),C.base⟩
theorem Kz.append {α:Type} {Rp:α→List Value→Prop}:∀{xs ys:List α} {f g:List Value},Kz Rp xs f→Kz Rp ys g→Kz Rp (xs++ys) (f++g)
 |[],_,_,_,h,h'=>by rw[show _=[] from h];exact h'
 |_::_,_,_,_,⟨c1,c2,e,h1,h2⟩,h'=>⟨c1,_,by rw[e,List.append_assoc],h1,Kz.append h2 h'⟩
theorem Jg7:∀{s:Sch} {x:s.T} {cs:List Value},Rep M w s x cs→∀u∈cs,u.oneCell'=true
 | .int _,_,_,h,u,hu=>by rw[show _=[_] from h] at hu;simp at hu;subst hu;rfl
 | .bool,_,_,h,u,hu=>by rw[show _=[_] from h] at hu;simp at hu;subst hu;rfl
 | .str,_,_,h,u,hu=>by rw[show _=[_] from h] at hu;simp at hu;subst hu;rfl
 | .flt _,_,_,h,u,hu=>by rw[show _=[_] from h] at hu;simp at hu;subst hu;rfl
 | .fnc,x,_,h,u,hu=>by rw[show _=[_] from h] at hu;simp at hu;subst hu;cases x<;>rfl
 | .prod _ _,_,_,⟨c1,c2,e,h1,h2⟩,u,hu=>by
  rw[e] at hu
  rcases List.mem_append.1 hu with hu|hu
  ·exact Jg7 h1 u hu
  ·exact Jg7 h2 u hu
 | .list _ _,_,_,⟨v,flat,e,h1,h2⟩,u,hu=>by
  rw[e] at hu;simp at hu;subst hu;exact Je4 h2
theorem Hu {s:Sch}:∀{xs:List s.T} {flat:List Value},Kz (Rep M w s) xs flat→∀u∈flat,u.oneCell'=true
 |[],_,h,u,hu=>by rw[show _=[] from h] at hu;simp at hu
 |_::_,_,⟨c1,c2,e,h1,h2⟩,u,hu=>by
  rw[e] at hu
  rcases List.mem_append.1 hu with hu|hu
  ·exact Jg7 h1 u hu
  ·exact Hu h2 u hu
theorem Y8 [Dr] (C:Jl P N B w0 al τ σ a w ρ M R) {rs:Nat→Option Res} (hrs:∀id x,rs id=some x→σ id=some x) {s:Sch} {cs:List SC} {ys:List s.T} (h:Yh rs s cs=some ys):
  ∃c,cs=[c]∧((c.den ρ= .slice none 0 0∧ys=[])∨∃ad cap flat,c.den ρ= .slice (some ad) ys.length cap∧Kz (Rep M w s) ys flat∧∀j u,flat[j]? =some u→w.cell? (ad.add j)=some u):=by
 unfold Yh at h
 split at h
 ·rename_i i
  refine⟨_,rfl, ?_⟩
  show(ρ i=_∧_)∨∃ad cap flat,ρ i=_∧_
  cases hy:rs i with
  |none=>rw[hy] at h;cases h
  | some y =>
   have hr:=C.res i y (hrs i y hy)
   rw[hy] at h
   cases y with
   | imm T' s' xs =>
    simp only[Zw] at h
    split at h
    ·rename_i e;subst e;cases h
     obtain⟨v,flat,e,h1,h2⟩:=hr
     cases e
     rcases h2 with⟨h2|⟨ad,cap,h2⟩,h3⟩|⟨b,off,cap,h2,_,h3,_⟩
     ·exact .inl ⟨h2,List.eq_nil_of_length_eq_zero h3⟩
     ·have h4:=List.eq_nil_of_length_eq_zero h3
      subst h4
      exact .inr ⟨ad,cap,[],h2,rfl,by simp⟩
     ·exact .inr ⟨_,cap,flat,h2,h1,fun j u hu=>by rw[Addr.add_lit];exact h3 j u hu⟩
    ·cases h
   | own T' s' xs =>
    simp only[Zw] at h
    split at h
    ·rename_i e;subst e;cases h
     obtain⟨flat,h1,h2,_⟩:=hr
     rcases h2.2 with⟨h3,h4⟩|⟨g,cap,cur,h3,_⟩
     ·exact .inl ⟨h3,List.eq_nil_of_length_eq_zero h4⟩
     ·exact .inr ⟨_,cap,flat,h3,h1,h2.cells (g:=g) (by rw[h3];rfl)⟩
    ·cases h
   |_=>cases h
 ·cases h;exact⟨_,rfl, .inl ⟨rfl,rfl⟩⟩
 ·cases h
theorem Jl.append_core [Dr] (C:Jl P N B w0 al τ σ a w ρ M R) (hd:∀t,d=some t→t<N) (hn:¬al n) {e:TypeId} {s:Sch} {xs ys:List s.T} {v:Value} {j:Option Nat}
  (hj:match j with|none=>v= .slice none 0 0∧xs=[]|some j=>v=ρ j∧σ j=some (.own e s xs)) {flat flat2:List Value} (hf1:Kz (Rep M w s) xs flat) (hf2:w.ownsRow B e s.size v xs.length flat) (hf3:∀g,v.ownBlock=some g→¬M g∧¬R g)
  {m:Sem Value} {u:Value} {w':World} (hr:m.run P w= .ok u w') (hf4:Kz (Rep M w s) ys flat2) (ho:w'.ownsRow B e s.size u (xs.length+ys.length) (flat++flat2)) (hg:w.grownBy w' v.ownBlock) (hwh:u.ownBlock=v.ownBlock∨u.ownBlock=some w.heap.size):
  ∃ρ',Jl P N B w0 (Ve al n [.own e s (xs++ys)]) (Vd τ d (.one (.sl n))) (Ki σ n [.own e s (xs++ys)] (match j with|none=>[]|some j=>[(j,none)])) (a.put d u) w' ρ' M R:=by
 have hune:u.oneCell'=true:=by
  rcases ho.2 with⟨h,_⟩|⟨g,cap,cur,h,_⟩<;>rw[h]<;>rfl
 have hMs:∀b,M b∨R b→w'.heap[b]? =w.heap[b]? :=fun b hb=>hg.block b (C.old b hb) fun h=>by
  have:=hf3 b h.symm
  rcases hb with hb|hb
  ·exact this.1 hb
  ·exact this.2 hb
 have hvB:∀k,v.ownBlock=some k→B≤k:=fun k hk=>(hf2.lt k hk).1
 have en:Kb ρ n [u] n=u:=Ko (i:=0) rfl
 have hne:∀id,al id→id≠n:=fun id h e=>hn (e▸h)
 have eo:∀id,al id→Kb ρ n [u] id=ρ id:=fun id h=>Ke (by have:=hne id h;simp;omega)
 refine⟨Kb ρ n [u], ?_⟩
 have hjn:∀k,j=some k→al k∧k≠n:=fun k hk=>by
  subst hk
  have:=(C.resIds k _ hj.2).1
  exact⟨this,hne k this⟩
 have hupd:∀r y,look (match j with|none=>[]|some j=>[(j,none)]:List (Nat×Option Res)) r=some y→j=some r∧y=none:=by
  intro r y h
  cases j with
  |none=>cases h
  |some j=>
   simp only[look] at h
   split at h
   ·rename_i e;subst e;cases h;exact⟨rfl,rfl⟩
   ·cases h
 have hupd':∀r,j=some r→look (match j with|none=>[]|some j=>[(j,none)]:List (Nat×Option Res)) r≠none:=by
  rintro r rfl;simp[look]
 have hother:∀r x,look (match j with|none=>[]|some j=>[(j,none)]:List (Nat×Option Res)) r=none→σ r=some x→x.owning=true→∀b,blk (ρ r)=some b→some b≠v.ownBlock:=by
  intro r x hlk hx hox b hb h
  cases j with
  |none=>obtain⟨rfl,_⟩:=hj;cases h
  |some j=>
   obtain⟨rfl,hj⟩:=hj
   have hrj:r≠j:=by rintro rfl;simp[look] at hlk
   exact C.apart r j x _ hrj hx hj hox rfl b hb (Jk h.symm)
 refine C.step hd (fun id h=>by have:=hne id h;simp;omega) (fun id h=>Ke (by simpa using h)) (by show u=valOf false [Kb ρ n [u] n];rw[en];rfl) ?_ ((Below.refl B w).grown hg (F2 hr) C.base fun k hk=>hvB k hk) hg.size (fun _ h=>h)
  (fun b h=>Nat.lt_of_lt_of_le (C.old b (.inl h)) hg.size) hMs ?_ ?_ ?_ ?_
 ·intro id hid
  have:id=n:=by simpa[SV.ids,J1,SC.ids] using hid
  exact .inr ⟨by omega,by simp;omega⟩
 ·intro r x _ hlk hx hox b hb
  obtain⟨h1,_,_,h2⟩:=C.notM hx hox hb
  exact⟨hg.block b h2 (hother r x hlk hx hox b hb),h1⟩
 ·rintro r x hx (h|h)
  ·have er:r=n:=by simp at h;omega
   subst er
   rw[Vm h] at hx
   simp at hx
   subst hx
   refine⟨⟨flat++flat2,(hf1.append hf4).imp fun _ _ h=>h.keep fun b hb=>⟨hb,hMs b (.inl hb)⟩, ?_,fun g hgb=> ?_⟩, .inr h,fun id hid=>by simp[Res.ids] at hid⟩
   ·rw[en,List.length_append];exact ho
   ·rw[en] at hgb
    rcases hwh with hwh|hwh
    ·rw[hwh] at hgb;exact hf3 g hgb
    ·rw[hwh] at hgb;cases hgb
     exact⟨fun h=>Nat.lt_irrefl _ (C.old _ (.inl h)),fun h=>Nat.lt_irrefl _ (C.old _ (.inr h))⟩
  ·obtain⟨y,hy'⟩:=Option.ne_none_iff_exists'.1 h
   obtain⟨hjr,rfl⟩:=hupd r y hy'
   have:=hjn r hjr
   unfold Ki at hx
   rw[if_neg (by simp;omega),hy'] at hx
   cases hx
 ·intro id h
  have er:id=n:=by simp at h;omega
  subst er
  rw[en];exact hune
 ·rintro r r' x1 x2 hne' h1 h2 o1 o2 (h|h) b hb1 hb2
  ·have er:r=n:=by simp at h;omega
   subst er
   rw[en] at hb1
   have hb1':u.ownBlock=some b:=by
    rcases ho.2 with⟨h,_⟩|⟨g,cap,cur,h,_⟩
    ·rw[h] at hb1;cases hb1
    ·rw[h] at hb1⊢;cases hb1;rfl
   unfold Ki at h2
   rw[if_neg (by simp;omega)] at h2
   split at h2
   ·rename_i y hy'
    obtain⟨_,rfl⟩:=hupd r' _ hy'
    cases h2
   ·rename_i hlk
    rw[eo r' (C.resIds r' x2 h2).1] at hb2
    rcases hwh with hwh|hwh
    ·exact hother r' x2 hlk h2 o2 b hb2 (by rw[←hwh,hb1'])
    ·rw[hwh] at hb1';cases hb1'
     have:=(C.notM h2 o2 hb2).2.2.2
     exact Nat.lt_irrefl _ this
  ·obtain⟨y,hy'⟩:=Option.ne_none_iff_exists'.1 h
   obtain⟨hjr,rfl⟩:=hupd r y hy'
   have:=hjn r hjr
   unfold Ki at h1
   rw[if_neg (by simp;omega),hy'] at h1
   cases h1
theorem Jl.append [Dr] (C:Jl P N B w0 al τ σ a w ρ M R) (hd:∀t,d=some t→t<N) (hn:¬al n) {rs:Nat→Option Res} (hrs:∀id x,rs id=some x→σ id=some x)
  {t e ty:TypeId} {s:Sch} {i:TypeInfo} {z:Value} {xs ys:List s.T} {v:Value} {cy:List SC} {j:Option Nat}
  (ht:P.underlying t=some (.slice e)) (hi:P.info? e=some i) (hz:i.zero=some z) (hsz:i.size=s.size) (hzs:z.cells.size=s.size) (h0:0<s.size) (hb0:0<i.bytes)
  (hj:match j with|none=>v= .slice none 0 0∧xs=[]|some j=>v=ρ j∧σ j=some (.own e s xs)) (hy:Yh rs s cy=some ys)
  (hroom:(xs.length+ys.length)*i.bytes≤140737488355328):
  ∃u w' ρ',(Builtin.append_ #[t,t] ty #[v,valOf false (cy.map (SC.den ρ))]).run P w= .ok u w'∧
   Jl P N B w0 (Ve al n [.own e s (xs++ys)]) (Vd τ d (.one (.sl n))) (Ki σ n [.own e s (xs++ys)] (match j with|none=>[]|some j=>[(j,none)])) (a.put d u) w' ρ' M R:=by
 obtain⟨c,rfl,hrow⟩:=Y8 C hrs hy
 have hown:∃flat,Kz (Rep M w s) xs flat∧w.ownsRow B e s.size v xs.length flat∧∀g,v.ownBlock=some g→¬M g∧¬R g:=by
  cases j with
  |none=>obtain⟨rfl,rfl⟩:=hj;exact⟨[],rfl,World.ownsRow_nil w B e s.size,fun g h=>by cases h⟩
  |some j=>obtain⟨rfl,hj⟩:=hj;exact C.res j _ hj
 obtain⟨flat,hf1,hf2,hf3⟩:=hown
 have hmax:xs.length+ys.length≤maxLen:=by
  have:=Nat.le_mul_of_pos_right (xs.length+ys.length) hb0
  unfold maxLen
  omega
 have key:∃u w' flat2,(Builtin.append_ #[t,t] ty #[v,c.den ρ]).run P w= .ok u w'∧Kz (Rep M w s) ys flat2∧w'.ownsRow B e s.size u (xs.length+ys.length) (flat++flat2)∧w.grownBy w' v.ownBlock∧(u.ownBlock=v.ownBlock∨u.ownBlock=some w.heap.size):=by
  rcases hrow with⟨h1,rfl⟩|⟨ad,cap,flat2,h1,h2,h3⟩
  ·refine⟨v,w,[], ?_,rfl,by simpa using hf2,World.grownBy.refl _ _, .inl rfl⟩
   rw[h1]
   exact run_append_owned_none (P:=P) w B t ty e i s.size ht hi v _ flat hf2
  ·have hl:=h2.length
   have h1c:=Hu h2
   obtain⟨u,w',hr,ho,hg,_⟩:=run_append_own (P:=P) w B t ty e i z s.size i.bytes ht hi hz hsz rfl hzs h0 v xs.length flat hf2 ad ys.length cap flat2 hl h3 h1c hmax hroom C.base
   refine⟨u,w',flat2,by rw[h1];exact hr,h2,ho,hg,D7 t ty e i z ht hi hz hsz rfl hf2 hl h3 h1c hmax hroom hr⟩
 obtain⟨u,w',flat2,hr,hf4,ho,hg,hwh⟩:=key
 obtain⟨ρ',hC⟩:=C.append_core (d:=d) hd hn hj hf1 hf2 hf3 hr hf4 ho hg hwh
 exact⟨u,w',ρ',hr,hC⟩
theorem Jey (b:ByteArray):Kz (Rep M w (.int .u8)) (b.data.toList.map fun c=>(c.toNat:Int)) (Go.Lib.strCells b):=by
 unfold Go.Lib.strCells
 generalize b.data.toList=l
 induction l with
 |nil=>rfl
 |cons x r ih=>exact⟨[.int .u8 x.toNat],_,rfl,rfl,ih⟩
theorem Jmc {t u ty e:TypeId} {i:TypeInfo} (ht:P.underlying t=some (.slice e)) (hu:P.underlying u=some .string) (hi:P.info? e=some i) (hz:i.zero=some (.int .u8 0)) (hs:i.size=1) (hb:i.bytes=1)
  {v:Value} {k:Nat} {xs:List Value} (hown:w.ownsRow B e 1 v k xs) (s:ByteArray) (hroom:k+s.size≤140737488355328) {x:Value} {w':World} (hr:(Builtin.append_ #[t,u] ty #[v, .string s]).run P w= .ok x w'):
  x.ownBlock=v.ownBlock∨x.ownBlock=some w.heap.size:=by
 have hxl:xs.length=k:=by simpa using hown.1
 rcases hown.2 with⟨rfl,rfl⟩|⟨g,cap,cur,rfl,hbg,hg,hnc,hcm,hcs,htake⟩
 ·by_cases hm:s.size=0
  ·have hf:=Go.Lib.run_firstCells_string (P:=P) w 1 s
   rw[hm] at hf
   simp[Builtin.append_,run_underlying ht,run_underlying hu,sizeOf,typeInfo,hi,hs,Builtin.lenOf,hm,hf] at hr
   obtain⟨rfl,_⟩:=hr
   exact .inl rfl
  ·have hr':=Go.run_append_nil_string (P:=P) w t u ty e i (.int .u8 0) ht hu hi hz s (by omega) (by omega) (by rw[hb];omega)
   rw[hr'] at hr
   cases hr
   exact .inr rfl
 ·by_cases hro:k+s.size≤cap
  ·have hcs':cur.size=cap:=by simpa using hcs
   have hr':=Go.Lib.run_append_room_string (P:=P) w t u ty e i ht hu hi hs g k cap cur hg s hro (by omega)
   rw[hr'] at hr
   cases hr
   exact .inl rfl
  ·have holds:∀j u,xs[j]? =some u→w.cell? ((⟨g,0,none⟩:Addr).add j)=some u:=hown.cells (g:=g) rfl
   have hr':=Go.Lib.run_append_grow_string (P:=P) w t u ty e i (.int .u8 0) ht hu hi hz ⟨g,0,none⟩ k cap xs (by rw[hs];simpa using hxl) holds s (by omega) (by omega) (by rw[hb];exact Go.growslice_fits (by omega) (by omega))
   rw[hr'] at hr
   cases hr
   exact .inr rfl
theorem Jl.appendStr [Dr] (C:Jl P N B w0 al τ σ a w ρ M R) (hd:∀t,d=some t→t<N) (hn:¬al n) {t u e ty:TypeId} {i:TypeInfo} {xs:List Int} {j:Nat} {b:ByteArray}
  (ht:P.underlying t=some (.slice e)) (hu:P.underlying u=some .string) (hi:P.info? e=some i) (hz:i.zero=some (.int .u8 0)) (hs:i.size=1) (hb:i.bytes=1)
  (hj:σ j=some (.own e (.int .u8) xs)) (hroom:xs.length+b.size≤140737488355328):
  ∃x w' ρ',(Builtin.append_ #[t,u] ty #[ρ j, .string b]).run P w= .ok x w'∧
   Jl P N B w0 (Ve al n [.own e (.int .u8) (xs++b.data.toList.map fun c=>(c.toNat:Int))]) (Vd τ d (.one (.sl n))) (Ki σ n [.own e (.int .u8) (xs++b.data.toList.map fun c=>(c.toNat:Int))] [(j,none)]) (a.put d x) w' ρ' M R:=by
 obtain⟨flat,hf1,hf2,hf3⟩:=C.res j _ hj
 have hf2:w.ownsRow B e 1 (ρ j) xs.length flat:=hf2
 obtain⟨x,w',hr,ho,hg,_⟩:=Go.Lib.run_append_own_string (P:=P) w B t u ty e i ht hu hi hz hs hb (ρ j) xs.length flat hf2 b (by unfold maxLen;omega) hroom C.base
 have hl:(b.data.toList.map fun c=>(c.toNat:Int)).length=b.size:=by rw[List.length_map,Array.length_toList];rfl
 have ho:w'.ownsRow B e (Sch.int .u8).size x (xs.length+(b.data.toList.map fun c=>(c.toNat:Int)).length) (flat++Go.Lib.strCells b):=by rw[hl];exact ho
 obtain⟨ρ',hC⟩:=C.append_core (d:=d) (s:= .int .u8) (ys:=b.data.toList.map fun c=>(c.toNat:Int)) (j:=some j) hd hn ⟨rfl,hj⟩ hf1 hf2 hf3 hr (Jey b) ho hg (Jmc ht hu hi hz hs hb hf2 b hroom hr)
 exact⟨x,w',ρ',hr,hC⟩
end
end Go.Sx
namespace Go.Sx
open Go.RowKit
theorem Jh5.keep [Dr] {P:Program} {M M' R R':Nat→Prop} {w w':World} (hM:∀b,M b→M' b) (hR:∀b,R b→R' b) (hh:∀b,M b∨R b→w'.heap[b]? =w.heap[b]?):∀{k:AK} {x:k.T} {v:Value},Jh5 P M R w k x v→Jh5 P M' R' w' k x v
 | .val _ _,_,_,⟨cs,e,h⟩=>⟨cs,e,h.keep fun b hb=>⟨hM b hb,hh b (.inl hb)⟩⟩
 | .ref _ _,_,_,h=>Jh4.keep h hM hR hh
 | .fn _ _,_,_,h=>Jpu.keep h hM hR hh
theorem Vl.keep [Dr] {P:Program} {M M' R R':Nat→Prop} {w w':World} (hM:∀b,M b→M' b) (hR:∀b,R b→R' b) (hh:∀b,M b∨R b→w'.heap[b]? =w.heap[b]?):∀{ks:List AK} {x:ATup ks} {vs:List Value},Vl P M R w ks x vs→Vl P M' R' w' ks x vs
 |[],_,_,h=>h
 |_::_,_,_,⟨v,vs',e,h1,h2⟩=>⟨v,vs',e,h1.keep hM hR hh,Vl.keep hM hR hh h2⟩
theorem Zp.weaken {M:Nat→Prop} {w:World} {B:Nat}:∀{ps:List (Bool×Sch)} {ow:List Bool} {y:Tup ps} {vs:List Value},Zp M w B ps ow y vs→
  ∃M':Nat→Prop,(∀b,M b→M' b)∧(∀b,M' b→M b∨(B≤b∧b<w.heap.size))∧∀M2,(∀b,M' b→M2 b)→Zp M2 w B ps [] y vs
 |[],_,_,_,h=>⟨M,fun _ h=>h,fun _ h=> .inl h,fun _ _=>h⟩
 | p :: r, ow, y, vs, ⟨v, vs', e, h1, h2⟩ => by
  obtain⟨M',m1,m2,m3⟩:=Zp.weaken h2
  have key:∃M1:Nat→Prop,(∀b,M b→M1 b)∧(∀b,M1 b→M b∨(B≤b∧b<w.heap.size))∧∀M2,(∀b,M1 b→M2 b)→Jbm M2 w B p false y.1 v:=by
   have gen:Jbm M w B p false y.1 v→∃M1:Nat→Prop,(∀b,M b→M1 b)∧(∀b,M1 b→M b∨(B≤b∧b<w.heap.size))∧∀M2,(∀b,M1 b→M2 b)→Jbm M2 w B p false y.1 v:=by
    rintro⟨cs,e1,e2⟩
    exact⟨M,fun _ h=>h,fun _ h=> .inl h,fun M2 hM2=>⟨cs,e1,e2.keep fun b hb=>⟨hM2 b hb,rfl⟩⟩⟩
   generalize hq:ow.headD false=q at h1
   cases q with
   |false=>exact gen h1
   | true =>
    obtain⟨g,s⟩:=p
    cases g with
    |true=>exact gen h1
    | false =>
     cases s with
     |list T s=>
      obtain⟨flat,f1,f2,f3⟩:=h1
      refine⟨fun b=>M b∨v.ownBlock=some b,fun _ h=> .inl h,fun b h=>h.elim .inl fun h=> .inr (f2.lt b h),fun M2 hM2=>⟨[v],rfl, ?_⟩⟩
      exact Jdl f1 f2 (fun b h=>hM2 b (.inl h)) (fun g hg=>hM2 g (.inr hg))
     |_=>exact gen h1
  obtain⟨M1,k1,k2,k3⟩:=key
  refine⟨fun b=>M1 b∨M' b,fun b h=> .inl (k1 b h),fun b h=>h.elim (k2 b) (m2 b),fun M2 hM2=>⟨v,vs',e,k3 M2 fun b h=>hM2 b (.inl h),m3 M2 fun b h=>hM2 b (.inr h)⟩⟩
theorem Jj7.weaken [Dr] {M:Nat→Prop} {w w':World} {ress:List (Bool×Sch)} {ow:List Bool} {y:Tup ress} {e:Ending} (h:Jj7 M w ress ow y e w'):Jj7 M w ress [] y e w':=by
 obtain⟨M',vs,h1,h2,h3,h4,h5⟩:=h
 obtain⟨M2,m1,m2,m3⟩:=h5.weaken
 refine⟨M2,vs,h1,h2,fun b hb=>m1 b (h3 b hb),fun b hb=> ?_,m3 M2 fun _ h=>h⟩
 rcases m2 b hb with h|h
 ·exact h4 b h
 ·exact .inr h
section
variable {P:Program} {N B:Nat} {w0:K8} {al:Nat→Prop} {τ:Nat→Option SV} {σ:Nat→Option Res} {a:Act} {w:World} {ρ:Env} {M R:Nat→Prop} {n:Nat} {d:Option Tmp}
structure Jpt [Dr] (P:Program) (ρ:Env) (B:Nat) (M R:Nat→Prop) (w:World) (rs:Nat→Option Res) (M' R':Nat→Prop) (F:Nat→Prop):Prop where
 res:∀i y,rs i=some y→Jwy P ρ M R B w i y
 data:∀b,M b→M' b
 vars:∀b,R b→R' b
 own:∀i T s xs g,F i→rs i=some (.own T s xs)→(ρ i).ownBlock=some g→M' g
 box:∀i T cs b,rs i=some (.box T cs)→blk (ρ i)=some b→R' b
 size:∀b,M' b∨R' b→b<w.heap.size
def Fz1 (rs:Nat→Option Res) (F:Nat→Prop) (cs:List SC):Prop:=
 (∀i,SC.sl i∈cs→F i)∧∀i off T cs',SC.ptr i off∈cs→rs i=some (.box T cs')→∀j,SC.sl j∈cs'→F j
def Jsa (rs:Nat→Option Res) (F:Nat→Prop):SV→Prop
 | .v _ cs=>Fz1 rs F cs
 | .tup _=>True
def FzV (rs:Nat→Option Res) (F:Nat→Prop) (v:SV):Prop:=
 Jsa rs F v∧match v with
  | .v _ cs=>∀i f first caps,SC.fv i∈cs→rs i=some (.clo f first caps)→∀u∈first++caps,Jsa rs F u
  |_=>True
theorem Lh [Dr] {rs:Nat→Option Res} {M' R':Nat→Prop} {F:Nat→Prop} (V:Jpt P ρ B M R w rs M' R' F):∀{k:AK} {v:SV} {x:k.T},Joy rs k v=some x→Jsa rs F v→Jh5 P M' R' w k x (v.den ρ)
 | .val g s, v, x, h, hf => by
  replace h:Jj0 rs g s v=some x:=h
  unfold Jj0 at h
  split at h
  ·split at h
   ·rename_i e;subst e
    exact⟨_,rfl,Yv (P:=P) (R:=R) (B:=B) V.data h V.res fun i T s' xs g hi hr hg=>V.own i T s' xs g (hf.1 i hi) hr hg⟩
   ·cases h
  ·cases h
 | .ref T s, v, x, h, hf => by
  replace h:Jj1 rs T s v=some x:=h
  unfold Jj1 at h
  split at h
  ·rename_i i
   show Jh4 M' R' w T s x _
   cases hr:rs i with
   |none=>rw[hr] at h;cases h
   | some y =>
    rw[hr] at h
    cases y with
    | box U cs =>
     simp only[Jmx] at h
     split at h
     ·rename_i e;subst e
      obtain⟨b,h1,h2,h3,h4,h5⟩:=V.res i _ hr
      refine⟨b,cs.map (SC.den ρ),by simp[SV.den,valOf,SC.den,h1],h2,V.box i U cs b hr (by rw[h1];rfl),Yv (P:=P) (R:=R) (B:=B) V.data h V.res fun j T s' xs g hi hr' hg=>V.own j T s' xs g (hf.2 i 0 U cs (by simp) hr j hi) hr' hg⟩
     ·cases h
    | rbox U s' y =>
     simp only[Jmx] at h
     split at h
     ·rename_i e
      split at h
      ·rename_i e';subst e';subst e;cases h
       obtain⟨b,cs,h1,h2,h3,h4⟩:=V.res i _ hr
       exact⟨b,cs,by simp[SV.den,valOf,SC.den,h1],h2,V.vars b h3,h4.keep fun b hb=>⟨V.data b hb,rfl⟩⟩
      ·cases h
     ·cases h
    |_=>cases h
  ·cases h
 | .fn ps r,v,x,h,_=>by cases(show none=some x from h)
theorem Jgl [Dr] {rs:Nat→Option Res} {M' R':Nat→Prop} {F:Nat→Prop} (V:Jpt P ρ B M R w rs M' R' F):∀{ks:List AK} {vs:List SV} {x:ATup ks},D6 rs ks vs=some x→(∀v∈vs,Jsa rs F v)→Vl P M' R' w ks x (vs.map (SV.den ρ))
 |[],[],_,_,_=>rfl
 |[],_::_,_,h,_=>by simp[D6] at h
 |_::_,[],_,h,_=>by simp[D6] at h
 | k :: r, v :: vs, x, h, hf => by
  simp only[D6] at h
  split at h
  ·rename_i y z h1 h2
   cases h
   exact⟨_,_,rfl,Lh V h1 (hf v (by simp)),Jgl V h2 fun u hu=>hf u (by simp[hu])⟩
  ·cases h
theorem Jm9 [Dr] {M' R':Nat→Prop}:∀{ps:List (Bool×Sch)} {ks:List AK} {x:Tup ps} {post:List AK} (h:ks=(ps.map fun p=>AK.val p.1 p.2)++post) {y:ATup post} {vs us:List Value},Jpb M' w ps x vs→Vl P M' R' w post y us→Vl P M' R' w ks (Jut ks ps x post h y) (vs++us)
 |[],ks,_,post,h,y,vs,us,hv,hu=>by
  have e:ks=post:=h
  subst e
  rw[show vs=[] from hv]
  exact hu
 |p::ps,ks,x,post,h,y,vs,us,⟨cs,vs',e,h1,h2⟩,hu=>by
  subst h
  subst e
  exact⟨_,_,rfl,⟨cs,rfl,h1⟩,Jm9 rfl h2 hu⟩
theorem Jjm [Dr] {rs:Nat→Option Res} {M' R':Nat→Prop} {F:Nat→Prop} (V:Jpt P ρ B M R w rs M' R' F) {ps:List (Bool×Sch)} {r:Bool×Sch}:
  ∀{first:List SV} {ks:List AK} {ress:List (Bool×Sch)} {pre:ATup ks→List Prop} {spec:ATup ks→Tup ress} {caps:List SV} {q:Tup ps→List Prop} {h:Tup ps→r.2.T},
  Jhx rs ps r ks ress pre spec first caps=some (q,h)→(∀v∈first,Jsa rs F v)→(∀v∈caps,Jsa rs F v)→
  ∀(x:Tup ps) (M2:Nat→Prop) (w2:World) (vs:List Value),(∀b,M' b→M2 b)→(∀b,M' b∨R' b→w2.heap[b]? =w.heap[b]?)→Jpb M2 w2 ps x vs→
   ∃z:ATup ks,Vl P M2 R' w2 ks z (first.map (SV.den ρ)++(vs++caps.map (SV.den ρ)))∧pre z=q x∧∃hr:ress=[r],(hr▸spec z:Tup [r]).1=h x
 | [], ks, ress, pre, spec, caps, q, h, hc, _, hf, x, M2, w2, vs, hM, hh, hv => by
  have hc':(if h:ks=(ps.map fun p=>AK.val p.1 p.2)++ks.drop ps.length then
   match D6 rs (ks.drop ps.length) caps with
   |some y=>if hr:ress=[r] then some ((fun x=>pre (Jut ks ps x (ks.drop ps.length) h y):Tup ps→List Prop),(fun x=>(hr▸spec (Jut ks ps x (ks.drop ps.length) h y):Tup [r]).1:Tup ps→r.2.T)) else none
   |none=>none
   else none)=some (q,h):=by
   cases ks<;>exact hc
  split at hc'
  ·rename_i hk
   split at hc'
   ·rename_i y hy
    split at hc'
    ·rename_i hr
     cases hc'
     refine⟨Jut ks ps x _ hk y, ?_,rfl,hr,rfl⟩
     show Vl P M2 R' w2 ks _ (vs++caps.map (SV.den ρ))
     exact Jm9 hk hv ((Jgl V hy hf).keep hM (fun _ h=>h) hh)
    ·cases hc'
   ·cases hc'
  ·cases hc'
 | v :: first, ks, ress, pre, spec, caps, q, h, hc, hf1, hf, x, M2, w2, vs, hM, hh, hv => by
  cases ks with
  |nil=>simp[Jhx] at hc
  | cons k ks =>
   simp only[Jhx] at hc
   split at hc
   ·rename_i x0 hx0
    obtain⟨z,z1,z2,z3⟩:=Jjm V hc (fun u hu=>hf1 u (by simp[hu])) hf x M2 w2 vs hM hh hv
    exact⟨(x0,z),⟨_,_,rfl,(Lh V hx0 (hf1 v (by simp))).keep hM (fun _ h=>h) hh,z1⟩,z2,z3⟩
   ·cases hc
end
end Go.Sx
namespace Go.Sx
open Go.RowKit
theorem Jmz [Dr] {M:Nat→Prop} {w w':World} {ress:List (Bool×Sch)} {r:Bool×Sch} (hr:ress=[r]) {y:Tup ress} {e:Ending} (h:Jj7 M w ress [] y e w'):Jj7 M w [r] [] ((hr▸y:Tup [r]).1,()) e w':=by
 subst hr
 exact h
section
variable {P:Program} {N B:Nat} {w0:K8} {al:Nat→Prop} {τ:Nat→Option SV} {σ:Nat→Option Res} {a:Act} {w:World} {ρ:Env} {M R:Nat→Prop} {n:Nat} {d:Option Tmp}
theorem Ja6 [Dr] {Γ:Gam} (hΓ:Ut P Γ) {rs:Nat→Option Res} {M' R':Nat→Prop} {F:Nat→Prop} (V:Jpt P ρ B M R w rs M' R' F) {f:FuncId} {c:Con} (hc:Γ.get f=some c) {ps:List (Bool×Sch)} {r:Bool×Sch} {first caps:List SV} {q:Tup ps→List Prop} {h:Tup ps→r.2.T}
  (hn:c.srt.isNone=true) (hq:Jhx rs ps r c.args c.ress c.pre c.spec first caps=some (q,h)) (hf1:∀v∈first,Jsa rs F v) (hf2:∀v∈caps,Jsa rs F v):
  Jpu P M' R' w ps r q h (.func (.func f) (first.map (SV.den ρ)).toArray (caps.map (SV.den ρ)).toArray):=by
 obtain⟨hE,_,_,hO⟩:=hΓ f c hc
 refine⟨f,_,_,rfl,hE,fun x M2 w2 vs hM hh hb hgd hpre hv=> ?_⟩
 obtain⟨z,z1,z2,hr,z3⟩:=Jjm V hq hf1 hf2 x M2 w2 vs hM hh hv
 have:=hO hn z M2 R' w2 _ (fun b hb'=>by
  rcases hb' with hb'|hb'
  ·exact hb b hb'
  ·have h1:=hh b (.inr hb')
   have h2:=V.size b (.inr hb')
   rw[Array.getElem?_eq_getElem h2] at h1
   exact(Array.getElem?_eq_some_iff.1 h1).1) hgd (by rw[z2];exact hpre) z1
 have e:((first.map (SV.den ρ)).toArray++vs.toArray++(caps.map (SV.den ρ)).toArray)=(first.map (SV.den ρ)++(vs++caps.map (SV.den ρ))).toArray:=by simp
 rw[e]
 refine this.mono fun e w' hp=> ?_
 have:=Jmz hr hp.weaken
 rwa[z3] at this
theorem Jrv [Dr] {Γ:Gam} (hΓ:Ut P Γ) {rs:Nat→Option Res} {M' R':Nat→Prop} {F:Nat→Prop} (V:Jpt P ρ B M R w rs M' R' F) {ps:List (Bool×Sch)} {r:Bool×Sch} {v:SV} {x:(Tup ps→List Prop)×(Tup ps→r.2.T)}
  (h:Jv6 Γ rs ps r v=some x) (hf:FzV rs F v):Jpu P M' R' w ps r x.1 x.2 (v.den ρ):=by
 unfold Jv6 at h
 split at h
 ·rename_i j
  split at h
  ·rename_i f first caps hj
   split at h
   ·rename_i c hc
    have hv:(SV.v false [SC.fv j]).den ρ= .func (.func f) (first.map (SV.den ρ)).toArray (caps.map (SV.den ρ)).toArray:=V.res j _ hj
    rw[hv]
    have hf2:=hf.2 j f first caps (by simp) hj
    split at h
    case isFalse=>cases h
    rename_i hn
    exact Ja6 hΓ V hc (q:=x.1) (h:=x.2) hn h (fun u hu=>hf2 u (by simp[hu])) (fun u hu=>hf2 u (by simp[hu]))
   ·cases h
  ·rename_i ps' r' pre h' hj
   split at h
   ·rename_i e
    obtain⟨e1,e2⟩:=e
    subst e1;subst e2
    cases h
    have:Jpu P M R w ps' r' pre h' (ρ j):=V.res j _ hj
    exact Jpu.keep this V.data V.vars (fun _ _=>rfl)
   ·cases h
  ·cases h
 ·rename_i f
  split at h
  ·rename_i c hc
   split at h
   case isFalse=>cases h
   rename_i hn
   exact Ja6 hΓ V hc (q:=x.1) (h:=x.2) (first:=[]) (caps:=[]) hn h (fun u hu=>by simp at hu) (fun u hu=>by simp at hu)
  ·cases h
 ·cases h
theorem Jru [Dr] {Γ:Gam} (hΓ:Ut P Γ) {rs:Nat→Option Res} {M' R':Nat→Prop} {F:Nat→Prop} (V:Jpt P ρ B M R w rs M' R' F):∀{k:AK} {v:SV} {x:k.T},Jzs Γ rs k v=some x→FzV rs F v→Jh5 P M' R' w k x (v.den ρ)
 | .val g s,v,x,h,hf=>Lh (k:= .val g s) V h hf.1
 | .ref T s,v,x,h,hf=>Lh (k:= .ref T s) V h hf.1
 | .fn ps r,v,x,h,hf=>Jrv hΓ V h hf
theorem Dl [Dr] {Γ:Gam} (hΓ:Ut P Γ) {rs:Nat→Option Res} {M' R':Nat→Prop} {F:Nat→Prop} (V:Jpt P ρ B M R w rs M' R' F):∀{ks:List AK} {vs:List SV} {x:ATup ks},Hh Γ rs ks vs=some x→(∀v∈vs,FzV rs F v)→Vl P M' R' w ks x (vs.map (SV.den ρ))
 |[],[],_,_,_=>rfl
 |[],_::_,_,h,_=>by simp[Hh] at h
 |_::_,[],_,h,_=>by simp[Hh] at h
 | k :: r, v :: vs, x, h, hf => by
  simp only[Hh] at h
  split at h
  ·rename_i y z h1 h2
   cases h
   exact⟨_,_,rfl,Jru hΓ V h1 (hf v (by simp)),Dl hΓ V h2 fun u hu=>hf u (by simp[hu])⟩
  ·cases h
def Jpf (M:Nat→Prop) (w:World) (B:Nat) (x:Res) (v:Value):Prop:=
 v.oneCell'=true∧((∃T s xs,x= .imm T s xs∧Rep M w (.list T s) xs [v])∨
  ∃T s xs flat,x= .own T s xs∧Kz (Rep M w s) xs flat∧w.ownsRow B T s.size v (xs:List s.T).length flat∧∀g,v.ownBlock=some g→¬M g)
def V9 (q:Bool) (l:List Res):List Res:=if q then l.map Jgw else l
theorem Ja0 (q:Bool) (l:List Res):(V9 q l).length=l.length:=by unfold V9;split<;>simp
theorem Jrd {p:Bool×Sch} {r:List (Bool×Sch)} {ow:List Bool} (h:U5 (p::r) ow=true):U5 r ow.tail=true:=by
 cases ow with
 |nil=>cases r<;>rfl
 |cons b ow=>
  cases b with
  |false=>exact h
  |true=>simp only[U5,Bool.and_eq_true] at h;exact h.2
theorem Jje {p:Bool×Sch} {r:List (Bool×Sch)} {ow:List Bool} (h:U5 (p::r) ow=true) (hq:ow.headD false=true):(∃T s,p=(false, .list T s))∧ow.tail.all (fun b=> !b)=true:=by
 cases ow with
 |nil=>cases hq
 |cons b ow=>
  have:b=true:=hq
  subst this
  simp only[U5,Bool.and_eq_true] at h
  refine⟨?_,h.1.2⟩
  have h1:=h.1.1
  split at h1
  ·exact⟨_,_,rfl⟩
  ·cases h1
theorem Jrz {ow:List Bool} (h:ow.all (fun b=> !b)=true):ow.headD false=false∧ow.tail.all (fun b=> !b)=true:=by
 cases ow with
 |nil=>exact⟨rfl,rfl⟩
 |cons b ow=>
  rw[List.all_cons,Bool.and_eq_true] at h
  exact⟨by simpa using h.1,h.2⟩
def Jpg (M:Nat→Prop) (w:World) (B:Nat) (p:Bool×Sch) (x:p.2.T) (v:Value) (n:Nat) (q:Bool):Prop:=
 ∃vals:List Value,vals.length=(Ka (enc p.2 x) n).2.length∧
  (∀ρ':Env,(∀(i:Nat) (u:Value),vals[i]? =some u→ρ' (n+i)=u)→v=Jvm ρ' (p.1,(Ka (enc p.2 x) n).1))∧
  (∀(i:Nat) (x':Res),(V9 q (Ka (enc p.2 x) n).2)[i]? =some x'→∃v,vals[i]? =some v∧Jpf M w B x' v)∧
  (∀id∈J1 (Ka (enc p.2 x) n).1,n≤id∧id<n+(Ka (enc p.2 x) n).2.length)∧
  (q=true→(Ka (enc p.2 x) n).2.length=1)∧
  (q=false→∀x'∈(Ka (enc p.2 x) n).2,x'.owning=false)
theorem Jk4 {M:Nat→Prop} {w:World} {B:Nat} {p:Bool×Sch} {x:p.2.T} {v:Value} (n:Nat) (h:Jbm M w B p false x v):Jpg M w B p x v n false:=by
 obtain⟨cs,e1,e2⟩:=h
 have h3:=Y7 e2
 obtain⟨i1,i2,i3⟩:=V2 (n:=n) h3
 refine⟨Jo (enc p.2 x) cs,i1,fun ρ' hρ=> ?_,fun i x' hx=> ?_,Um h3,(fun h=>by cases h),fun _ x' hx=> ?_⟩
 ·rw[e1,i2 ρ' hρ];rfl
 ·obtain⟨T,s,xs,v,a,b,c,d⟩:=i3 i x' hx
  exact⟨v,b,d, .inl ⟨T,s,xs,a,c⟩⟩
 ·obtain⟨i,hi⟩:=List.getElem?_of_mem hx
  obtain⟨T,s,xs,v,a,_⟩:=i3 i x' hi
  rw[a];rfl
theorem Jrb {M:Nat→Prop} {w:World} {B:Nat} {T:TypeId} {s:Sch} {x:List s.T} {v:Value} (n:Nat) (h:Jbm M w B (false, .list T s) true x v):Jpg M w B (false, .list T s) x v n true:=by
 obtain⟨flat,f1,f2,f3⟩:=h
 refine⟨[v],rfl,fun ρ' hρ=> ?_,fun i x' hx=> ?_,fun id hid=> ?_,fun _=>rfl,fun h=>by cases h⟩
 ·have:=hρ 0 v rfl
  simp only[Nat.add_zero] at this
  show v=valOf false [ρ' n]
  rw[this];rfl
 ·cases i with
  |zero=>
   have:Res.own T s x=x':=by simpa[Ka,enc,V9,Jgw] using hx
   subst this
   refine⟨v,rfl, ?_, .inr ⟨T,s,x,flat,rfl,f1,f2,f3⟩⟩
   rcases f2.2 with⟨h,_⟩|⟨g,cap,cur,h,_⟩<;>rw[h]<;>rfl
  |succ i=>simp[Ka,enc,V9] at hx
 ·simp[Ka,enc,J1,SC.ids] at hid
  simp only[Ka,enc,List.length_cons,List.length_nil]
  omega
theorem Jg6 {M:Nat→Prop} {w:World} {B:Nat}:∀{ps:List (Bool×Sch)} {ow:List Bool} {y:Tup ps} {vs:List Value} {n:Nat},Zp M w B ps ow y vs→U5 ps ow=true→
  ∃vals:List Value,vals.length=(Jh (Jq ps y) ow n).2.length∧
   (∀ρ':Env,(∀(i:Nat) (u:Value),vals[i]? =some u→ρ' (n+i)=u)→vs=(Jh (Jq ps y) ow n).1.map (Jvm ρ'))∧
   (∀(i:Nat) (x:Res),(Jh (Jq ps y) ow n).2[i]? =some x→∃v,vals[i]? =some v∧Jpf M w B x v)∧
   (∀p∈(Jh (Jq ps y) ow n).1,∀id∈J1 p.2,n≤id∧id<n+(Jh (Jq ps y) ow n).2.length)∧
   (ow.all (fun b=> !b)=true→∀x∈(Jh (Jq ps y) ow n).2,x.owning=false)∧
   (∀(i j:Nat) (x x':Res),(Jh (Jq ps y) ow n).2[i]? =some x→(Jh (Jq ps y) ow n).2[j]? =some x'→x.owning=true→x'.owning=true→i=j)
 |[],_,_,_,_,h,_=>⟨[],rfl,fun _ _=>h,fun i x h=>by simp[Jh,Jq] at h,fun p hp=>by simp[Jh,Jq] at hp,fun _ x hx=>by simp[Jh,Jq] at hx,fun i j x x' h=>by simp[Jh,Jq] at h⟩
 | p :: r, ow, y, vs, n, ⟨v, vs', e, h1, h2⟩, hfit => by
  subst e
  have head:Jpg M w B p y.1 v n (ow.headD false):=by
   cases hq:ow.headD false with
   |false=>rw[hq] at h1;exact Jk4 n h1
   |true=>
    rw[hq] at h1
    obtain⟨⟨T,s,rfl⟩,_⟩:=Jje hfit hq
    exact Jrb n h1
  have hfit':=Jrd hfit
  obtain⟨vals,v1,v2,v3,v4,v5,v6⟩:=head
  obtain⟨vals',u1,u2,u3,u4,u5,u6⟩:=Jg6 (n:=n+(Ka (enc p.2 y.1) n).2.length) h2 hfit'
  have hlen:(V9 (ow.headD false) (Ka (enc p.2 y.1) n).2).length=(Ka (enc p.2 y.1) n).2.length:=Ja0 _ _
  have hnews:(Jh (Jq (p::r) y) ow n).2=V9 (ow.headD false) (Ka (enc p.2 y.1) n).2++(Jh (Jq r y.2) ow.tail (n+(Ka (enc p.2 y.1) n).2.length)).2:=rfl
  have hcells:(Jh (Jq (p::r) y) ow n).1=(p.1,(Ka (enc p.2 y.1) n).1)::(Jh (Jq r y.2) ow.tail (n+(Ka (enc p.2 y.1) n).2.length)).1:=rfl
  have howning:∀(i:Nat) (x:Res),(V9 (ow.headD false) (Ka (enc p.2 y.1) n).2)[i]? =some x→x.owning=true→ow.headD false=true∧i=0:=by
   intro i x hx ho
   cases hq:ow.headD false with
   |false=>
    rw[hq] at hx
    have:=v6 hq x (List.mem_of_getElem? hx)
    rw[this] at ho;cases ho
   |true=>
    have h5:=v5 hq
    have:=(List.getElem?_eq_some_iff.1 hx).1
    rw[hlen,h5] at this
    exact⟨rfl,by omega⟩
  have hrest:ow.headD false=true→ow.tail.all (fun b=> !b)=true:=fun hq=>(Jje hfit hq).2
  refine⟨vals++vals', ?_,fun ρ' hρ=> ?_,fun i x hx=> ?_, ?_, ?_, ?_⟩
  ·rw[hnews,List.length_append,List.length_append,hlen,v1,u1]
  ·rw[hcells,List.map_cons,←v2 ρ' (fun i u hu=>hρ i u (by rw[List.getElem?_append_left (List.getElem?_eq_some_iff.1 hu).1];exact hu)),
    ←u2 ρ' (fun i u hu=>by
     have:=hρ (vals.length+i) u (by rw[List.getElem?_append_right (by omega)];simpa using hu)
     rwa[v1,←Nat.add_assoc] at this)]
  ·rw[hnews] at hx
   by_cases hi:i<(Ka (enc p.2 y.1) n).2.length
   ·rw[List.getElem?_append_left (by rw[hlen];exact hi)] at hx
    obtain⟨v,hv,hn⟩:=v3 i x hx
    exact⟨v,by rw[List.getElem?_append_left (by rw[v1];exact hi)];exact hv,hn⟩
   ·rw[List.getElem?_append_right (by rw[hlen];omega),hlen] at hx
    obtain⟨v,hv,hn⟩:=u3 _ x hx
    exact⟨v,by rw[List.getElem?_append_right (by rw[v1];omega),v1];exact hv,hn⟩
  ·intro q hq id hid
   rw[hcells] at hq
   rw[hnews,List.length_append,hlen]
   rcases List.mem_cons.1 hq with rfl|hq
   ·have:=v4 id hid;omega
   ·have:=u4 q hq id hid;omega
  ·intro ha x hx
   obtain⟨hq,ht⟩:=Jrz ha
   rw[hnews,hq] at hx
   rcases List.mem_append.1 hx with hx|hx
   ·exact v6 hq x hx
   ·exact u5 ht x hx
  ·intro i j x x' hx hx' ho ho'
   rw[hnews] at hx hx'
   by_cases hi:i<(Ka (enc p.2 y.1) n).2.length
   ·rw[List.getElem?_append_left (by rw[hlen];exact hi)] at hx
    obtain⟨hq,rfl⟩:=howning i x hx ho
    by_cases hj:j<(Ka (enc p.2 y.1) n).2.length
    ·rw[List.getElem?_append_left (by rw[hlen];exact hj)] at hx'
     exact(howning j x' hx' ho').2.symm
    ·rw[List.getElem?_append_right (by rw[hlen];omega),hlen] at hx'
     have:=u5 (hrest hq) x' (List.mem_of_getElem? hx')
     rw[this] at ho';cases ho'
   ·rw[List.getElem?_append_right (by rw[hlen];omega),hlen] at hx
    by_cases hj:j<(Ka (enc p.2 y.1) n).2.length
    ·rw[List.getElem?_append_left (by rw[hlen];exact hj)] at hx'
     obtain⟨hq,rfl⟩:=howning j x' hx' ho'
     have:=u5 (hrest hq) x (List.mem_of_getElem? hx)
     rw[this] at ho;cases ho
    ·rw[List.getElem?_append_right (by rw[hlen];omega),hlen] at hx'
     have:=u6 _ _ x x' hx hx' ho ho'
     omega
end
end Go.Sx
namespace Go.Sx
open Go.RowKit
theorem Je9 (ρ:Env) (l:List (Bool×List SC)):(Xd l).den ρ=Jum (l.map (Jvm ρ)):=by
 match l with
 |[]=>rfl
 |[p]=>rfl
 |p::q::r=>rfl
theorem Je8 {l:List (Bool×List SC)} {id:Nat} (h:id∈(Xd l).ids):∃p∈l,id∈J1 p.2:=by
 match l with
 |[]=>simp[Xd,SV.ids] at h
 |[p]=>exact⟨p,by simp,h⟩
 |p::q::r=>exact List.mem_flatMap.1 h
theorem Dh:∀{s:Sch} (x:s.T) (n:Nat),s.hasList=false→(Ka (enc s x) n).2=[]
 | .int _,_,_,_=>rfl
 | .bool,_,_,_=>rfl
 | .str,_,_,_=>rfl
 | .flt _,_,_,_=>rfl
 | .fnc,_,_,h=>by cases h
 | .prod a b, x, n, h => by
  simp only[Sch.hasList,Bool.or_eq_false_iff] at h
  have happ:∀(l l':List SC) (n:Nat),(Ka l n).2=[]→(∀n,(Ka l' n).2=[])→(Ka (l++l') n).2=[]:=by
   intro l
   induction l with
   |nil=>intro l' n _ h';exact h' n
   |cons c l ih=>
    intro l' n h1 h'
    cases c<;>simp only[Ka,List.cons_append] at h1⊢<;>first|exact ih l' n h1 h'|cases h1
  exact happ _ _ n (Dh x.1 n h.1) fun n=>Dh x.2 n h.2
 | .list _ _,_,_,h=>by cases h
theorem Jbz:∀{ps:List (Bool×Sch)} (y:Tup ps) (ow:List Bool) (n:Nat),hasList ps=false→(Jh (Jq ps y) ow n).2=[]
 |[],_,_,_,_=>rfl
 |p::r,y,ow,n,h=>by
  simp only[hasList,List.any_cons,Bool.or_eq_false_iff] at h
  simp only[Jq,Jh,Dh y.1 n h.1]
  rw[Jbz y.2 ow.tail _ h.2]
  split<;>rfl
section
variable {P:Program} {N B:Nat} {w0:K8} {al:Nat→Prop} {τ:Nat→Option SV} {σ:Nat→Option Res} {a:Act} {w:World} {ρ:Env} {M R:Nat→Prop} {n:Nat} {d:Option Tmp}
theorem Jl.returned_plain [Dr] (C:Jl P N B w0 al τ σ a w ρ M R) (hd:∀t,d=some t→t<N) {Mc:Nat→Prop} {ress:List (Bool×Sch)} {ow:List Bool} {y:Tup ress} {e:Ending} {w':World} (hp:Jj7 Mc w ress ow y e w') (hfit:U5 ress ow=true) (hno:hasList ress=false):
  ∃u,e= .returned u∧Jl P N B w0 (Ve al n (Jh (Jq ress y) ow n).2) (Vd τ d (Xd (Jh (Jq ress y) ow n).1)) (Ki σ n (Jh (Jq ress y) ow n).2 []) (a.put d u) w' ρ M R:=by
 obtain⟨M',vs,rfl,hb,_,_,hr⟩:=hp
 obtain⟨vals,h1,h2,_,h4,_⟩:=Jg6 (n:=n) hr hfit
 have hnil:=Jbz y ow n hno
 rw[hnil] at h1 h4⊢
 have hv0:vals=[]:=List.eq_nil_of_length_eq_zero h1
 subst hv0
 have e1:=h2 ρ (fun i u hu=>by simp at hu)
 refine⟨_,rfl, ?_⟩
 have hold:∀b,b<w.heap.size→w'.heap[b]? =w.heap[b]? :=fun b h=>hb.block b h
 refine C.step hd (fun id _ h=>by simp at h;omega) (fun _ _=>rfl) (by rw[Je9,←e1]) (fun id hid=> ?_) (hb.mono C.base) hb.size (fun _ h=>h) (fun b h=>Nat.lt_of_lt_of_le (C.old b (.inl h)) hb.size) (fun b h=>hold b (C.old b h)) ?_ ?_ (fun id h=>by simp at h;omega) ?_
 ·obtain⟨p,hp,hid⟩:=Je8 hid
  have:=h4 p hp id hid
  simp at this;omega
 ·intro r x _ _ hx ho b hb'
  obtain⟨h5,_,_,h6⟩:=C.notM hx ho hb'
  exact⟨hold b h6,h5⟩
 ·rintro r x _ (h|h)
  ·simp at h;omega
  ·exact absurd rfl h
 ·rintro r r' x x' _ _ _ _ _ (h|h)
  ·simp at h;omega
  ·exact absurd rfl h
theorem Jl.returned [Dr] (C:Jl P N B w0 al τ σ a w ρ M R) (hd:∀t,d=some t→t<N) {ress:List (Bool×Sch)} {ow:List Bool} {y:Tup ress} {e:Ending} {w':World} (hp:Jj7 M w ress ow y e w') (hfit:U5 ress ow=true)
  (hfresh:∀id,al id→¬(n≤id∧id<n+(Jh (Jq ress y) ow n).2.length)):
  ∃u ρ' M',e= .returned u∧Jl P N B w0 (Ve al n (Jh (Jq ress y) ow n).2) (Vd τ d (Xd (Jh (Jq ress y) ow n).1)) (Ki σ n (Jh (Jq ress y) ow n).2 []) (a.put d u) w' ρ' M' R:=by
 obtain⟨M',vs,rfl,hb,m1,m2,hr⟩:=hp
 obtain⟨vals,h1,h2,h3,h4,_,h6⟩:=Jg6 (n:=n) hr hfit
 have e1:=h2 (Kb ρ n vals) (fun i u hu=>Ko hu)
 refine⟨_,Kb ρ n vals,M',rfl, ?_⟩
 have hold:∀b,b<w.heap.size→w'.heap[b]? =w.heap[b]? :=fun b h=>hb.block b h
 have hval:∀r x,n≤r∧r<n+(Jh (Jq ress y) ow n).2.length→(Jh (Jq ress y) ow n).2[r-n]? =some x→∃v,Kb ρ n vals r=v∧Jpf M' w' w.heap.size x v:=by
  intro r x h hx
  obtain⟨v,hv,hn⟩:=h3 _ x hx
  have:=Ko (ρ:=ρ) (n:=n) hv
  rw[show n+(r-n)=r by omega] at this
  exact⟨v,this,hn⟩
 refine C.step hd hfresh (fun id h=>Ke (by rw[h1];exact h)) (by rw[Je9,←e1]) (fun id hid=> ?_) (hb.mono C.base) hb.size m1 (fun b h=> ?_) (fun b h=>hold b (C.old b h)) ?_ ?_ ?_ ?_ (fun b h=>(m2 b h).imp id fun h=>⟨Nat.le_trans C.base h.1,fun hR=>by have:=C.old b (.inr hR);omega⟩)
 ·obtain⟨p,hp,hid⟩:=Je8 hid
  exact .inr (h4 p hp id hid)
 ·rcases m2 b h with h|h
  ·exact Nat.lt_of_lt_of_le (C.old b (.inl h)) hb.size
  ·exact h.2
 ·intro r x _ _ hx ho b hb'
  obtain⟨h5,_,_,h6⟩:=C.notM hx ho hb'
  refine⟨hold b h6,fun h=> ?_⟩
  rcases m2 b h with h|h
  ·exact h5 h
  ·omega
 ·rintro r x hx (h|h)
  ·rw [Vm h] at hx
   obtain⟨v,e2,hn1,hn2⟩:=hval r x h hx
   refine⟨?_, .inr h, ?_⟩
   ·rcases hn2 with⟨T,s,xs,rfl,hn⟩|⟨T,s,xs,flat,rfl,f1,f2,f3⟩
    ·show Rep _ _ _ _ [_]
     rw[e2];exact hn
    ·refine⟨flat,f1, ?_,fun g hg=> ?_⟩
     ·rw[e2]
      refine⟨f2.1, ?_⟩
      rcases f2.2 with h|⟨g,cap,cur,h,hbg,rest⟩
      ·exact .inl h
      ·exact .inr ⟨g,cap,cur,h,Nat.le_trans C.base hbg,rest⟩
     ·rw[e2] at hg
      refine⟨f3 g hg,fun hR=> ?_⟩
      have h1:=C.old g (.inr hR)
      have h2:=(f2.lt g hg).1
      omega
   ·intro id hid
    rcases hn2 with⟨T,s,xs,rfl,hn⟩|⟨T,s,xs,flat,rfl,_⟩<;>simp[Res.ids] at hid
  ·exact absurd rfl h
 ·intro id h
  have hlt:id-n<(Jh (Jq ress y) ow n).2.length:=by omega
  obtain⟨v,e2,hn1,_⟩:=hval id _ h (List.getElem?_eq_getElem hlt)
  rw[e2];exact hn1
 ·rintro r r' x x' hne hx hx' ho ho' (h|h) b hb1 hb2
  ·rw [Vm h] at hx
   obtain⟨v,e2,hn1,hn2⟩:=hval r x h hx
   have hbig:w.heap.size≤b:=by
    rcases hn2 with⟨T,s,xs,rfl,hn⟩|⟨T,s,xs,flat,rfl,f1,f2,f3⟩
    ·cases ho
    ·rw[e2] at hb1
     have:v.ownBlock=some b:=by
      rcases f2.2 with⟨h,_⟩|⟨g,cap,cur,h,_⟩
      ·rw[h] at hb1;cases hb1
      ·rw[h] at hb1⊢;cases hb1;rfl
     exact(f2.lt b this).1
   by_cases hr':n≤r'∧r'<n+(Jh (Jq ress y) ow n).2.length
   ·rw[Vm hr'] at hx'
    have:=h6 _ _ x x' hx hx' ho ho'
    omega
   ·unfold Ki at hx'
    rw[if_neg hr'] at hx'
    simp only[look] at hx'
    have hal:=(C.resIds r' x' hx').1
    rw[Ke (by rw[h1];exact hr')] at hb2
    have:=(C.notM hx' ho' hb2).2.2.2
    omega
  ·exact absurd rfl h
theorem Ji8 {rs:Nat→Option Res} {c:SC} {i:Nat} {y:Option Res} (h:(i,y)∈De rs c):∃T s xs,rs i=some (.own T s xs)∧y=some (.imm T s xs):=by
 unfold De at h
 split at h
 ·exact Un h
 ·split at h
  ·exact Un h
  ·simp at h
 ·simp at h
theorem Ji7 {rs:Nat→Option Res} {v:SV} {i:Nat} {y:Option Res} (h:(i,y)∈Dd rs v):∃T s xs,rs i=some (.own T s xs)∧y=some (.imm T s xs):=by
 unfold Dd at h
 split at h
 ·obtain⟨c,hc,h⟩:=List.mem_flatMap.1 h
  split at h
  ·split at h
   ·obtain⟨v,hv,h⟩:=List.mem_flatMap.1 h
    split at h
    ·obtain⟨c,hc,h⟩:=List.mem_flatMap.1 h
     exact Ji8 h
    ·simp at h
   ·simp at h
  ·exact Ji8 h
 ·simp at h
def Kfi (rs:Nat→Option Res) (upd:List (Nat×Option Res)) (i:Nat):Prop:=∀T s xs,rs i=some (.own T s xs)→(look upd i).isSome=true
theorem Ji9 {rs:Nat→Option Res} {upd:List (Nat×Option Res)} {cs:List SC} (h:∀c∈cs,∀i,(look (De rs c) i).isSome=true→(look upd i).isSome=true):Fz1 rs (Kfi rs upd) cs:=by
 refine⟨fun i hi T s xs hr=>h _ hi i ?_,fun i off T cs' hi hr j hj T' s xs hr'=>h _ hi j ?_⟩
 ·exact Ug (cs:=[SC.sl i]) (by simp) hr
 ·show(look (De rs (.ptr i off)) j).isSome=true
  simp only[De,hr]
  exact Ug hj hr'
theorem Ji6 {rs:Nat→Option Res} {args:List SV} {v:SV} (hv:v∈args):FzV rs (Kfi rs (args.flatMap (Dd rs))) v:=by
 have hup:∀i,(look (Dd rs v) i).isSome=true→(look (args.flatMap (Dd rs)) i).isSome=true:=fun i h=>Km hv h
 cases v with
 |tup vs=>exact⟨trivial,trivial⟩
 | v g cs =>
  refine⟨Ji9 fun c hc i h=>hup i ?_,fun i f first caps hi hr u hu=> ?_⟩
  ·refine Km (f:=fun c=>match c with
    | .fv i => match rs i with
     |some (.clo _ first caps)=>(first++caps).flatMap fun v=>match v with
      | .v _ cs=>cs.flatMap (De rs)
      |_=>[]
     |_=>[]
    |c=>De rs c) hc ?_
   cases c<;>first|exact h|(simp[De,look] at h)
  ·cases u with
   |tup vs=>trivial
   | v g' cs' =>
    refine Ji9 fun c hc j h=>hup j ?_
    refine Km (f:=fun c=>match c with
     | .fv i => match rs i with
      |some (.clo _ first caps)=>(first++caps).flatMap fun v=>match v with
       | .v _ cs=>cs.flatMap (De rs)
       |_=>[]
      |_=>[]
     |c=>De rs c) hi ?_
    simp only[hr]
    refine Km (f:=fun v:SV=>match v with
      | .v _ cs=>cs.flatMap (De rs)
      |_=>[]) hu ?_
    exact Km hc h
def Kg4 (rs:Nat→Option Res) (ρ:Env) (R:Nat→Prop):Nat→Prop:=fun b=>R b∨∃i T cs,rs i=some (.box T cs)∧blk (ρ i)=some b
theorem Jl.viewAll [Dr] (C:Jl P N B w0 al τ σ a w ρ M R) {rs:Nat→Option Res} (hrs:∀id x,rs id=some x→σ id=some x):
  Jpt P ρ B M R w rs (fun b=>M b∨∃i T s xs,rs i=some (.own T s xs)∧(ρ i).ownBlock=some b) (Kg4 rs ρ R) (fun _=>True):=by
 refine⟨fun i y h=>C.res i y (hrs i y h),fun _ h=> .inl h,fun _ h=> .inl h,fun i T s xs g _ hr hg=> .inr ⟨i,T,s,xs,hr,hg⟩,fun i T cs b hr hb=> .inr ⟨i,T,cs,hr,hb⟩, ?_⟩
 rintro b ((h|⟨i,T,s,xs,hr,hg⟩)|(h|⟨i,T,cs,hr,hb⟩))
 ·exact C.old b (.inl h)
 ·exact(C.notM (hrs _ _ hr) rfl (Jk hg)).2.2.2
 ·exact C.old b (.inr h)
 ·exact(C.notM (hrs _ _ hr) rfl hb).2.2.2
theorem Jl.viewFrz [Dr] (C:Jl P N B w0 al τ σ a w ρ M R) {rs:Nat→Option Res} (hrs:∀id x,rs id=some x→σ id=some x) (upd:List (Nat×Option Res)):
  Jpt P ρ B M R w rs (fun b=>M b∨∃i y T s xs,look upd i=some y∧σ i=some (.own T s xs)∧(ρ i).ownBlock=some b) (Kg4 rs ρ R) (Kfi rs upd):=by
 refine⟨fun i y h=>C.res i y (hrs i y h),fun _ h=> .inl h,fun _ h=> .inl h,fun i T s xs g hF hr hg=> ?_,fun i T cs b hr hb=> .inr ⟨i,T,cs,hr,hb⟩, ?_⟩
 ·obtain⟨y,hy⟩:=Option.isSome_iff_exists.1 (hF T s xs hr)
  exact .inr ⟨i,y,T,s,xs,hy,hrs _ _ hr,hg⟩
 ·rintro b ((h|⟨i,y,T,s,xs,_,hr,hg⟩)|(h|⟨i,T,cs,hr,hb⟩))
  ·exact C.old b (.inl h)
  ·exact(C.notM hr rfl (Jk hg)).2.2.2
  ·exact C.old b (.inr h)
  ·exact(C.notM (hrs _ _ hr) rfl hb).2.2.2
theorem Jrp [Dr] {Γ:Gam} (hΓ:Ut P Γ) (C:Jl P N B w0 al τ σ a w ρ M R) (hd:∀t,d=some t→t<N) {rs:Nat→Option Res} (hrs:∀id x,rs id=some x→σ id=some x) {f:FuncId} {args:List SV} {out:Out}
  (hop:Jrq Γ rs n f args=some out) (hpre:Kf out.pre) (hfresh:∀id,al id→¬(n≤id∧id<n+out.news.length)):
  Enters P f∧∃Rp:Ending→World→Prop,Calls P f (args.map (SV.den ρ)).toArray w Rp∧∀e w',Rp e w'→∃u ρ' M',e= .returned u∧Jl P N B w0 (Ve al n out.news) (Vd τ d out.val) (Ki σ n out.news out.upd) (a.put d u) w' ρ' M' R:=by
 unfold Jrq at hop
 split at hop
 ·cases hop
 ·rename_i c hc
  split at hop
  ·split at hop
   ·cases hop
    exact(show False from hpre).elim
   ·cases hop
  ·rename_i x hx
   simp only at hop
   split at hop
   ·rename_i hfit
    obtain⟨hfit,hn⟩:=hfit
    cases hop
    obtain⟨hE,_,_,hO⟩:=hΓ f c hc
    replace hO:=hO hn
    refine⟨hE, ?_⟩
    cases hl:hasList c.ress with
    | false =>
     have V:=C.viewAll hrs
     refine⟨_,hO x _ _ w _ V.size C.goodNow hpre (Dl hΓ V hx fun v _=>⟨?_, ?_⟩),fun e w' hp=> ?_⟩
     ·cases v with
      |v g cs=>exact⟨fun _ _=>trivial,fun _ _ _ _ _ _ _ _=>trivial⟩
      |tup vs=>trivial
     ·cases v with
      |v g cs=>
       intro i f first caps _ _ u _
       cases u with
       |v g cs=>exact⟨fun _ _=>trivial,fun _ _ _ _ _ _ _ _=>trivial⟩
       |tup vs=>trivial
      |tup vs=>trivial
     ·obtain⟨u,e1,e2⟩:=C.returned_plain (n:=n) hd hp hfit hl
      refine⟨u,ρ,M,e1, ?_⟩
      simp only[Jeb,hl]
      exact e2
    | true =>
     have hu:Jeb c rs args=args.flatMap (Dd rs):=by simp[Jeb,hl]
     simp only[hu] at*
     have hlk:∀i y,look (args.flatMap (Dd rs)) i=some y→∃T s xs,σ i=some (.own T s xs)∧y=some (.imm T s xs):=by
      intro i y h
      obtain⟨v,_,hy⟩:=List.mem_flatMap.1 (Jr h)
      obtain⟨T,s,xs,h1,h2⟩:=Ji7 hy
      exact⟨T,s,xs,hrs _ _ h1,h2⟩
     have V:=C.viewFrz hrs (args.flatMap (Dd rs))
     have C':=C.freeze n hlk
     refine⟨_,hO x _ _ w _ V.size C.goodNow hpre (Dl hΓ V hx fun v hv=>Ji6 hv),fun e w' hp=> ?_⟩
     obtain⟨u,ρ',M',e1,e2⟩:=C'.returned (n:=n) hd hp hfit hfresh
     refine⟨u,ρ',M',e1, ?_⟩
     rw[Xj] at e2
     exact e2
   ·cases hop
end
end Go.Sx
namespace Go.Sx
open Go.RowKit
theorem Ux {P:Program} {o:Oper} {a:Act} {w:World} {K:Act→World→Prop} {Q:Exit→Act→World→Prop} {f:FuncId} {args:Array Value} {Rp:Ending→World→Prop}
  (h:(execOp a.eval o).run P w= .ok (.enter f args) w) (hc:Calls P f args w Rp) (hR:∀e w',Rp e w'→∃u,e= .returned u∧K (a.put o.dst u) w'):o.wp P a w K Q:=by
 unfold Oper.wp
 rw[h]
 exact hc.mono fun e w' he=>by obtain⟨u,rfl,hk⟩:=hR e w' he;exact hk
theorem Kd {P:Program} {f:FuncId} (h:Enters P f) (args:Array Value) (w:World):(callFunc f args).run P w= .ok (.enter f args) w:=by
 obtain⟨fn,h1,h2,h3⟩:=h
 have h4:¬fn.body=none:=by
  intro e;rw[e] at h2;cases h2
 have h5:¬fn.name= "runtime.NumGoroutine" :=by simpa using h3
 simp[callFunc,Sem.run_bind,h1,h4,h5]
theorem X8:∀(s:Sch) (x:s.T),(enc s x).length=s.size
 | .int _,_=>rfl
 | .bool,_=>rfl
 | .str,_=>rfl
 | .flt _,_=>rfl
 | .fnc,_=>rfl
 | .prod a b,x=>by simp only[enc,List.length_append,Sch.size,X8]
 | .list _ _,_=>rfl
theorem F6 (ρ:Env) (i off:Nat):∃b o,∀d,(SC.ptr i (off+d)).den ρ= .pointer (some ⟨b,o+d,none⟩):=by
 simp only[SC.den]
 split
 ·rename_i a _;exact⟨a.block,a.off+off,fun d=>by rw[Nat.add_assoc]⟩
 ·exact⟨0,off,fun d=>rfl⟩
theorem Jvk (ρ:Env) (i sz:Nat) (idx:Int) (off:Nat):∃b o,∀d,(SC.elt i sz idx (off+d)).den ρ= .pointer (some ⟨b,o+d,none⟩):=by
 simp only[SC.den]
 split
 ·rename_i a _ _ _;exact⟨a.block,a.off+(idx.toNat*sz+off),fun d=>by rw[Nat.add_assoc,Nat.add_assoc]⟩
 ·exact⟨0,idx.toNat*sz+off,fun d=>by rw[Nat.add_assoc]⟩
theorem Hf {P:Program} {T i d:Nat} {U:TypeId} (h:Y6 P T i=some (d,U)) (b o:Nat) (w:World):(Instr.fieldAt T (.pointer (some ⟨b,o,none⟩)) i).run P w= .ok (.pointer (some ⟨b,o+d,none⟩)) w:=by
 unfold Y6 at h
 cases hu:P.underlying T with
 |none=>rw[hu] at h;cases h
 | some dd =>
  rw[hu] at h
  cases dd<;>try(cases h;done)
  rename_i fs
  cases hf:fs[i]? with
  |none=>simp[hf] at h
  | some f =>
   simp only[hf] at h
   cases hs:J7 P f.type with
   |none=>simp[hs] at h
   | some m =>
    simp only[hs] at h
    cases m with
    |zero=>cases h
    |succ m=>
     cases h
     simp[Instr.fieldAt,Sem.run_bind,run_underlying hu,hf,Instr.sureAddr,fieldPlace,Jx hs,Addr.add_lit]
theorem Yc {a:Act} {ρ:Env} {al:Nat→Prop} {ev:Operand→Option SV} (hev:∀x sv,ev x=some sv→a.eval x=sv.den ρ∧∀id∈sv.ids,al id):∀{xs:List Operand} {l:List SV},evL ev xs=some l→xs.map a.eval=l.map (SV.den ρ)∧∀v∈l,∀id∈v.ids,al id
 |[],l,h=>by cases h;exact⟨rfl,fun v hv=>by simp at hv⟩
 | x :: xs, l, h => by
  simp only[evL] at h
  split at h
  ·rename_i v l' hv hl
   cases h
   obtain⟨h1,h2⟩:=Yc hev hl
   obtain⟨h3,h4⟩:=hev x v hv
   refine⟨by simp[h1,h3],fun u hu=> ?_⟩
   rcases List.mem_cons.1 hu with rfl|hu
   ·exact h4
   ·exact h2 u hu
  ·cases h
section
variable {P:Program} {N B:Nat} {w0:K8} {al:Nat→Prop} {τ:Nat→Option SV} {σ:Nat→Option Res} {a:Act} {w:World} {ρ:Env} {M R:Nat→Prop} {n:Nat}
def Kp [Dr] (P:Program) (N B:Nat) (w0:K8) (al:Nat→Prop) (τ:Nat→Option SV) (σ:Nat→Option Res) (a:Act) (w:World) (R:Nat→Prop) (n:Nat) (o:Oper) (out:Out):Prop:=
 ∀(K:Act→World→Prop) (Q:Exit→Act→World→Prop),(∀u w' ρ' M',Jl P N B w0 (Ve al n out.news) (Vd τ o.dst out.val) (Ki σ n out.news out.upd) (a.put o.dst u) w' ρ' M' R→K (a.put o.dst u) w')→o.wp P a w K Q
theorem Jd [Dr] (C:Jl P N B w0 al τ σ a w ρ M R) {o:Oper} (hd:∀t,o.dst=some t→t<N) {out:Out} (h1:out.news=[]) (h2:out.upd=[]) (hrun:(execOp a.eval o).run P w= .ok (.value (out.val.den ρ)) w) (hids:∀id∈out.val.ids,al id):
  Kp P N B w0 al τ σ a w R n o out:=by
 intro K Q hK
 refine Jg hrun (hK _ w ρ M ?_)
 rw[h1,h2]
 exact C.pure hd rfl hids
theorem Jcf [Dr] (C:Jl P N B w0 al τ σ a w ρ M R) {o:Oper} (hd:∀t,o.dst=some t→t<N) {ev:Operand→Option SV} (hev:∀x sv,ev x=some sv→a.eval x=sv.den ρ∧∀id∈sv.ids,al id) {x:Operand} (ho:o.op= .move x∨o.op= .assign x) {v:SV} (hv:ev x=some v):
  Kp P N B w0 al τ σ a w R n o ⟨[],v,[],[]⟩:=by
 obtain⟨h1,h2⟩:=hev x v hv
 refine Jd C hd rfl rfl ?_ h2
 rcases ho with ho|ho<;>simp[execOp,ho,h1]
theorem Jkx [Dr] (C:Jl P N B w0 al τ σ a w ρ M R) {o:Oper} (hd:∀t,o.dst=some t→t<N) {rs:Nat→Option Res} (hrs:∀id x,rs id=some x→σ id=some x) {T:TypeId} {x:Operand} {p:SC} (ho:o.op= .load T x) (hx:a.eval x=p.den ρ) {out:Out}
  (hop:Ju2 P rs n T p=some out) (hpre:Kf out.pre) (hfresh:∀id,al id→¬(n≤id∧id<n+out.news.length)):Kp P N B w0 al τ σ a w R n o out:=by
 have hex:execOp a.eval o=(do pure (.value (←Instr.loadAt T (p.den ρ)))):=by simp[execOp,ho,hx]
 unfold Ju2 at hop
 split at hop
 ·cases hop
 ·rename_i m hm
  split at hop
  ·rename_i i off
   split at hop
   ·rename_i U cs hr
    split at hop
    ·rename_i hl
     split at hop
     ·rename_i v hv
      cases hop
      obtain⟨h1,h2,h3⟩:=Jdw C (hrs i _ hr) hm hl hv
      refine Jd C hd rfl rfl ?_ h3
      rw[hex,h2]
      exact J2 (by simpa[Instr.loadAt,Instr.sureAddr] using h1)
     ·cases hop
    ·cases hop
   ·rename_i U cs hr
    split at hop
    ·rename_i hl
     split at hop
     ·rename_i v hv
      cases hop
      obtain⟨h1,h2,h3⟩:=Jnd C (hrs i _ hr) hm hl hv
      refine Jd C hd rfl rfl ?_ h3
      rw[hex,h2]
      exact J2 (by simpa[Instr.loadAt,Instr.sureAddr] using h1)
     ·cases hop
    ·cases hop
   ·rename_i U s y hr
    split at hop
    ·rename_i hl
     simp only at hop
     split at hop
     ·rename_i v hv
      cases hop
      obtain⟨b,cs,h1,h2,_,h4⟩:=C.res i _ (hrs i _ hr)
      have h5:=((Y7 h4).drop off).take m
      have hlen:=h4.length
      intro K Q hK
      obtain⟨u,ρ',hr1,hC⟩:=Zj (n:=n) C hd hm h5 (by have:=(Y7 h4).length;simp;omega) hv (b:=b) (off:=off) (fun k u hu=>by
       refine U9 h2 ?_
       simp only[List.getElem?_take,List.getElem?_drop] at hu
       split at hu
       ·simpa using hu
       ·cases hu) hfresh
      refine Jg ?_ (hK u w ρ' M hC)
      rw[hex]
      refine J2 ?_
      simpa[Instr.loadAt,SC.den,h1,Instr.sureAddr] using hr1
     ·cases hop
    ·cases hop
   ·cases hop
  ·rename_i i sz idx off
   simp only at hop
   have key:∀(s:Sch) (xs:List s.T),(sz=s.size∧off+m≤s.size)→(∀j,j<xs.length→∃b o cap cv,ρ i= .slice (some ⟨b,o,none⟩) xs.length cap∧Xz (Vj M w) (enc s (xs.getD j s.dflt)) cv∧∀k u,cv[k]? =some u→w.cell? ⟨b,o+(j*s.size+k),none⟩=some u)→
     ∀v,shape P T (Ka (((enc s (xs.getD idx.toNat s.dflt)).drop off).take m) n).1=some v→0≤idx∧idx<xs.length→
     (∀id,al id→¬(n≤id∧id<n+(Ka (((enc s (xs.getD idx.toNat s.dflt)).drop off).take m) n).2.length))→
     Kp P N B w0 al τ σ a w R n o ⟨[0≤idx∧idx<xs.length],v,(Ka (((enc s (xs.getD idx.toNat s.dflt)).drop off).take m) n).2,[]⟩:=by
    intro s xs hc hrow v hv hidx hfr K Q hK
    obtain⟨b,o',cap,cv,h1,h2,h3⟩:=hrow idx.toNat (by omega)
    have h5:=(h2.drop off).take m
    have hlen:=X8 s (xs.getD idx.toNat s.dflt)
    obtain⟨u,ρ',hr1,hC⟩:=Zj (n:=n) C hd hm h5 (by rw[List.length_take,List.length_drop,hlen];omega) hv (b:=b) (off:=o'+(idx.toNat*s.size+off)) (fun k u hu=>by
     simp only[List.getElem?_take,List.getElem?_drop] at hu
     split at hu
     ·have:=h3 _ u hu
      rwa[show o'+(idx.toNat*s.size+(off+k))=o'+(idx.toNat*s.size+off)+k by omega] at this
     ·cases hu) hfr
    refine Jg ?_ (hK u w ρ' M hC)
    rw[hex]
    refine J2 ?_
    simpa[Instr.loadAt,SC.den,h1,Instr.sureAddr,hc.1] using hr1
   have keyT:∀{U:TypeId} {s:Sch} {xs:List s.T},rs i=some (.ownT U s xs)→∀j,j<xs.length→∃b o cap cv,ρ i= .slice (some ⟨b,o,none⟩) xs.length cap∧Xz (Vj M w) (enc s (xs.getD j s.dflt)) cv∧∀k u,cv[k]? =some u→w.cell? ⟨b,o+(j*s.size+k),none⟩=some u:=by
    intro U s xs hr j hj
    obtain⟨flat,f1,f2,_⟩:=C.res i _ (hrs i _ hr)
    exact Jio f1 f2 hj
   split at hop
   ·rename_i U s xs hr
    split at hop
    ·rename_i hc
     split at hop
     ·rename_i v hv
      cases hop
      exact key s xs hc (fun j hj=>Jbb (T:=U) (C.res i _ (hrs i _ hr)) hj) v hv hpre hfresh
     ·cases hop
    ·cases hop
   ·rename_i U s xs hr
    split at hop
    ·rename_i hc
     split at hop
     ·rename_i v hv
      cases hop
      obtain⟨flat,f1,f2,_⟩:=C.res i _ (hrs i _ hr)
      exact key s xs hc (fun j hj=>Jhb (T:=U) f1 f2 hj) v hv hpre hfresh
     ·cases hop
    ·cases hop
   ·rename_i U s xs hr
    split at hop
    ·rename_i hc
     split at hop
     ·rename_i v hv
      cases hop
      exact key s xs hc (keyT hr) v hv hpre hfresh
     ·cases hop
    ·cases hop
   ·cases hop
  ·rename_i ad
   split at hop
   ·rename_i hc
    obtain⟨c1,c2,c3⟩:=hc
    split at hop
    ·rename_i s hs
     split at hop
     ·rename_i v hv
      cases hop
      obtain⟨bk,of,sp⟩:=ad
      dsimp only at c1 c2 hs
      subst c1;subst c2;subst c3
      have hcell:=(C.goodNow w (Sx.Below.refl _ _)).2 of s hs
      obtain⟨g,hg,rfl,h1⟩:=U4 hv
      refine Jd C hd rfl rfl ?_ (fun id hid=>by simp[SV.ids,J1,SC.ids] at hid)
      rw[hex]
      refine J2 ?_
      have:=Y1 (P:=P) (T:=T) (b:=Jw7) (off:=of) (vs:=[.string s]) hg (by rw[hm];rfl) (fun _=>rfl) w (fun k u hu=>by
       cases k with
       |zero=>simp at hu;subst hu;simpa using hcell
       |succ k=>simp at hu)
      simpa[Instr.loadAt,Instr.sureAddr,SC.den,SV.den] using this
     ·cases hop
    ·cases hop
   ·cases hop
  ·cases hop
end
end Go.Sx
namespace Go.Sx
open Go.RowKit
theorem Kz.set {α:Type} {Rp:α→List Value→Prop} {sz:Nat} (hR:∀x cs,Rp x cs→cs.length=sz):∀{xs:List α} {flat:List Value},Kz Rp xs flat→∀(j:Nat) {y:α} {c:List Value},j<xs.length→Rp y c→
  Kz Rp (xs.set j y) (flat.take (j*sz)++c++flat.drop (j*sz+sz))
 |[],_,_,j,_,_,h,_=>by simp at h
 |x::xs,flat,⟨c1,c2,e,h1,h2⟩,0,y,c,_,hc=>by
  have hl:=hR _ _ h1
  refine⟨c,c2, ?_,hc,h2⟩
  subst e
  simp only[Nat.zero_mul,List.take_zero,List.nil_append,Nat.zero_add]
  rw[List.drop_append,List.drop_eq_nil_of_le (by omega),hl]
  simp
 |x::xs,flat,⟨c1,c2,e,h1,h2⟩,j+1,y,c,h,hc=>by
  have hl:=hR _ _ h1
  refine⟨c1,_, ?_,h1,Kz.set hR h2 j (by simpa using h) hc⟩
  subst e
  rw[Nat.succ_mul,List.take_append,List.drop_append,List.take_of_length_le (by omega),List.drop_eq_nil_of_le (by omega),hl]
  rw[show j*sz+sz-sz=j*sz by omega,show j*sz+sz+sz-sz=j*sz+sz by omega]
  simp[List.append_assoc]
theorem Kt {M:Nat→Prop} {w:World} (ρ:Env):∀{s:Sch} {x:s.T} {cs:List Value},s.hasList=false→Rep M w s x cs→cs=(enc s x).map (SC.den ρ)
 | .int _,_,_,_,h=>by rw[show _=[_] from h];rfl
 | .bool,_,_,_,h=>by rw[show _=[_] from h];rfl
 | .str,_,_,_,h=>by rw[show _=[_] from h];rfl
 | .flt _,_,_,_,h=>by rw[show _=[_] from h];rfl
 | .fnc,_,_,hl,_=>by cases hl
 | .prod a b,_,_,hl,⟨c1,c2,e,h1,h2⟩=>by
  simp only[Sch.hasList,Bool.or_eq_false_iff] at hl
  rw[e,Kt ρ hl.1 h1,Kt ρ hl.2 h2]
  simp[enc]
 | .list _ _,_,_,hl,_=>by cases hl
section
variable {P:Program} {N B:Nat} {w0:K8} {al:Nat→Prop} {τ:Nat→Option SV} {σ:Nat→Option Res} {a:Act} {w:World} {ρ:Env} {M R:Nat→Prop} {n:Nat} {d:Option Tmp}
theorem Jl.writeOwn [Dr] (C:Jl P N B w0 al τ σ a w ρ M R) (hd:∀t,d=some t→t<N) {i:Nat} {T:TypeId} {s:Sch} {xs xs':List s.T} (hr:σ i=some (.own T s xs)) {g cap:Nat} {cur X:Array Value}
  (e:ρ i= .slice (some ⟨g,0,none⟩) xs.length cap) (hbg:B≤g) (hg:w.heap[g]? =some (.cells cur T (0,0))) (hnc:xs.length≤cap) (hcm:cap≤maxLen) (hcs:cur.size=cap*s.size) (hX:X.size=cur.size) (hl:xs'.length=xs.length)
  (hrep:Kz (Rep M w s) xs' (X.toList.take (xs.length*s.size))) {v:SV} {u:Value} (hu:u=v.den ρ) (hv:∀id∈v.ids,al id):
  Jl P N B w0 (Ve al n []) (Vd τ d v) (Ki σ n [] [(i,some (.own T s xs'))]) (a.put d u) (w.setRow g X) ρ M R:=by
 have hbi:blk (ρ i)=some g:=by rw[e];rfl
 obtain⟨h3,h4,h5,_⟩:=C.notM hr rfl hbi
 have hi:=C.resIds i _ hr
 have hrow:=setRow_heap w g cur X T (0,0) hg
 refine C.step hd (fun id _ h=>by simp at h;omega) (fun _ _=>rfl) hu (fun id hid=> .inl (hv id hid)) (D5 h5) (by rw[Vx];exact Nat.le_refl _) (fun _ h=>h)
   (fun b h=>by rw[Vx];exact C.old b (.inl h)) (fun b' h=>setRow_other w g b' _ (by rintro rfl;exact h.elim h3 h4)) ?_ ?_ (fun id h=>by simp at h;omega) ?_
 ·intro r x' _ hlk hx' ho b' hb'
  have hne:b'≠g:=by
   rintro rfl
   have hri:r≠i:=by rintro rfl;simp[look] at hlk
   exact C.apart r i x' _ hri hx' hr ho rfl b' hb' hbi
  exact⟨setRow_other w g b' _ hne,(C.notM hx' ho hb').1⟩
 ·rintro r x' hx' (h|h)
  ·simp at h;omega
  ·have er:i=r:=by
    by_cases e:i=r
    ·exact e
    ·simp[look,e] at h
   subst er
   unfold Ki at hx'
   rw[if_neg (by simp)] at hx'
   simp only[look,↓reduceIte] at hx'
   cases hx'
   refine⟨⟨_,hrep.imp fun _ _ h=>h.keep fun b hb=>⟨hb,setRow_other w g b _ (by rintro rfl;exact h3 hb)⟩,⟨?_, .inr ⟨g,cap,X,by rw[e,hl],hbg,hrow,by omega,hcm,by omega,by rw[hl]⟩⟩,fun g' hg'=> ?_⟩, .inl hi.1,fun id hid=>by simp[Res.ids] at hid⟩
   ·rw[hrep.length]
   ·rw[e] at hg';cases hg';exact⟨h3,h4⟩
 ·rintro r r' x1 x2 hne hx1 hx2 o1 o2 (h|h) b' hb1 hb2
  ·simp at h;omega
  ·have er:i=r:=by
    by_cases e:i=r
    ·exact e
    ·simp[look,e] at h
   subst er
   unfold Ki at hx2
   rw[if_neg (by simp)] at hx2
   simp only[look,hne,↓reduceIte] at hx2
   exact C.apart i r' _ x2 hne hr hx2 rfl o2 b' hb1 hb2
theorem Jie {α:Type} (A v:List α) {o m K:Nat} (hv:v.length=m) (h:o+m≤K) (hK:K≤A.length):(A.take o++v++A.drop (o+m)).take K=(A.take K).take o++v++(A.take K).drop (o+m):=by
 have h1:(A.take o).length=o:=by rw[List.length_take];omega
 rw[List.take_append,List.length_append,h1,hv,List.take_of_length_le (by rw[List.length_append,h1,hv];omega),List.take_take,Nat.min_eq_left (by omega),List.drop_take]
theorem Jsl {α:Type} (A v:List α) {o sz off m:Nat} (hv:v.length=m) (h:off+m≤sz):A.take (o+off)++v++A.drop (o+off+m)=A.take o++(((A.drop o).take sz).take off++v++((A.drop o).take sz).drop (off+m))++A.drop (o+sz):=by
 rw[List.take_add (i:=o) (j:=off),List.take_take,Nat.min_eq_left (by omega),List.drop_take,List.drop_drop]
 have:A.drop (o+off+m)=(A.drop (o+(off+m))).take (sz-(off+m))++A.drop (o+sz):=by
  have:=(List.take_append_drop (sz-(off+m)) (A.drop (o+(off+m)))).symm
  rw[List.drop_drop,show o+(off+m)+(sz-(off+m))=o+sz by omega] at this
  rw[show o+off+m=o+(off+m) by omega]
  exact this
 rw[this]
 simp[List.append_assoc]
theorem Jl.storeElt [Dr] (C:Jl P N B w0 al τ σ a w ρ M R) (hd:∀t,d=some t→t<N) {i off m:Nat} {idx:Int} {U T:TypeId} {s:Sch} {xs:List s.T} {y:s.T} {new:List SC} (hr:σ i=some (.own U s xs)) (hno:s.hasList=false) (hm:J7 P T=some m) (hl:off+m≤s.size) (hnew:new.length=m)
  {x:SV} (hx:Yz x=some new) (hat:Xb new=true) (hids:∀id∈J1 new,al id) (hidx:0≤idx∧idx<xs.length)
  (hdec:dec (fun _=>none) s ((enc s (xs.getD idx.toNat s.dflt)).take off++new++(enc s (xs.getD idx.toNat s.dflt)).drop (off+m))=some y):
  ∃w',(Instr.storeAt T ((SC.elt i s.size idx off).den ρ) (x.den ρ)).run P w= .ok () w'∧
   Jl P N B w0 (Ve al n []) (Vd τ d Ju) (Ki σ n [] [(i,some (.own U s (xs.set idx.toNat y)))]) (a.put d undef) w' ρ M R:=by
 obtain⟨flat,f1,f2,f3⟩:=C.res i _ hr
 obtain⟨gg,rfl,hgg⟩:=Kk hx
 have hj:idx.toNat<xs.length:=by omega
 have hone:∀v∈new.map (SC.den ρ),v.oneCell'=true:=by
  intro v hv
  obtain⟨c,hc,rfl⟩:=List.mem_map.1 hv
  exact Ld C (by simpa using List.all_eq_true.1 hat c hc) fun id hid=>hids id (List.mem_flatMap.2 ⟨c,hc,hid⟩)
 have hcells:((SV.v gg new).den ρ).cells=(new.map (SC.den ρ)).toArray:=Vr hone fun e=>by rw[List.length_map];exact hgg e
 rcases f2.2 with⟨_,h0⟩|⟨g,cap,cur,e,hbg,hg,hnc,hcm,hcs,htake⟩
 ·omega
 have hmul:idx.toNat*s.size+s.size≤xs.length*s.size:=by
  have:=Nat.mul_le_mul_right s.size (show idx.toNat+1≤xs.length from hj)
  rwa[Nat.succ_mul] at this
 have hcap:xs.length*s.size≤cur.size:=by rw[hcs];exact Nat.mul_le_mul_right _ hnc
 have hlen:(new.map (SC.den ρ)).length=m:=by rw[List.length_map,hnew]
 have hst:=run_storeCells_at P g (idx.toNat*s.size+off) U (new.map (SC.den ρ)) 0 cur w hg (by rw[hlen];omega) hone
 rw[Nat.add_zero,hlen] at hst
 obtain⟨X,hX⟩:∃X:Array Value,X=(cur.toList.take (idx.toNat*s.size+off)++new.map (SC.den ρ)++cur.toList.drop (idx.toNat*s.size+off+m)).toArray:=⟨_,rfl⟩
 rw[←hX] at hst
 have hXs:X.size=cur.size:=by rw[hX];simp[hlen];omega
 have hcv:=f1.get idx.toNat hj
 have hcv':=Kt ρ hno hcv
 have hrep':Rep M w s y (((enc s (xs.getD idx.toNat s.dflt)).take off++new++(enc s (xs.getD idx.toNat s.dflt)).drop (off+m)).map (SC.den ρ)):=
  Yv (P:=P) (ρ:=ρ) (M:=M) (M':=M) (R:=R) (B:=B) (w:=w) (fun _ h=>h) hdec (fun i y h=>by cases h) (fun i T s' xs g _ h=>by cases h)
 have hrepL:Kz (Rep M w s) (xs.set idx.toNat y) (X.toList.take (xs.length*s.size)):=by
  have:=Kz.set (fun _ _ h=>Rep.length h) f1 idx.toNat hj hrep'
  rw[hX,List.toList_toArray,Jie _ _ hlen (by omega) (by rw[Array.length_toList];exact hcap),htake,Jsl _ _ hlen hl,hcv',←List.map_take,←List.map_drop]
  simpa[List.map_append] using this
 refine⟨w.setRow g X, ?_,C.writeOwn hd hr e hbg hg hnc hcm hcs hXs (by simp) hrepL rfl (fun id hid=>by simp[Ju,SV.ids,J1,SC.ids] at hid)⟩
 simp only[Instr.storeAt,SC.den,e,Instr.sureAddr,Sem.run_bind,Sem.run_pure,Result.andThen_ok,Nat.zero_add]
 unfold storeVar
 simp only[Sem.run_bind,Jx hm,Result.andThen_ok,hcells]
 rw[if_neg (by simp[hnew])]
 exact hst
theorem U1 [Dr] {M:Nat→Prop} {w:World} {ρ:Env} {s:Sch} {x y:s.T} {off:Nat} {new:List SC} {cs:List Value} (hr:Rep M w s x cs) (h:(if off=0∧new.length=s.size then dec (fun _=>none) s new else none)=some y):Rep M w s y (cs.take off++new.map (SC.den ρ)++cs.drop (off+new.length)):=by
 split at h
 ·rename_i e
  obtain⟨e1,e2⟩:=e
  subst e1
  have l:=hr.length
  rw[List.take_zero,List.nil_append,List.drop_of_length_le (by omega),List.append_nil]
  exact Yv (P:=default) (ρ:=ρ) (M:=M) (M':=M) (R:=M) (B:=0) (w:=w) (fun _ h=>h) h (fun i y h=>by cases h) (fun i T s' xs g _ h=>by cases h)
 ·cases h
theorem Fz [Dr] {M:Nat→Prop} {w:World} {ρ:Env}:∀{s:Sch} {x y:s.T} {off:Nat} {new:List SC} {cs:List Value},Rep M w s x cs→Jb3 s x off new=some y→off+new.length≤s.size→Rep M w s y (cs.take off++new.map (SC.den ρ)++cs.drop (off+new.length))
 | .prod a b, x, y, off, new, cs, ⟨c1, c2, e, h1, h2⟩, h, hl => by
  subst e
  have l1:=h1.length
  simp only[Jb3] at h
  split at h
  ·rename_i ha
   split at h
   ·rename_i z hz
    cases h
    refine⟨c1.take off++new.map (SC.den ρ)++c1.drop (off+new.length),c2, ?_,Fz h1 hz ha,h2⟩
    rw[List.take_append_of_le_length (by omega),List.drop_append_of_le_length (by omega)]
    simp
   ·cases h
  ·split at h
   ·rename_i ha
    split at h
    ·rename_i z hz
     cases h
     have hl':off-a.size+new.length≤b.size:=by simp only[Sch.size] at hl;omega
     refine⟨c1,c2.take (off-a.size)++new.map (SC.den ρ)++c2.drop (off-a.size+new.length), ?_,h1,Fz h2 hz hl'⟩
     rw[List.take_append,List.drop_append,l1,List.take_of_length_le (by omega),List.drop_of_length_le (l:=c1) (by omega)]
     rw[show off+new.length-a.size=off-a.size+new.length by omega]
     simp
    ·cases h
   ·cases h
 | .int k,x,y,off,new,cs,hr,h,hl=>U1 (s:= .int k) hr h
 | .bool,x,y,off,new,cs,hr,h,hl=>U1 (s:= .bool) hr h
 | .str,x,y,off,new,cs,hr,h,hl=>U1 (s:= .str) hr h
 | .flt k,x,y,off,new,cs,hr,h,hl=>U1 (s:= .flt k) hr h
 | .fnc,x,y,off,new,cs,hr,h,hl=>U1 (s:= .fnc) hr h
 | .list T s,x,y,off,new,cs,hr,h,hl=>U1 (s:= .list T s) hr h
theorem Jl.storeEltL [Dr] (C:Jl P N B w0 al τ σ a w ρ M R) (hd:∀t,d=some t→t<N) {i off m:Nat} {idx:Int} {U T:TypeId} {s:Sch} {xs:List s.T} {y:s.T} {new:List SC} (hr:σ i=some (.own U s xs)) (hm:J7 P T=some m) (hl:off+m≤s.size) (hnew:new.length=m)
  {x:SV} (hx:Yz x=some new) (hat:Xb new=true) (hids:∀id∈J1 new,al id) (hidx:0≤idx∧idx<xs.length)
  (hdec:Jb3 s (xs.getD idx.toNat s.dflt) off new=some y):
  ∃w',(Instr.storeAt T ((SC.elt i s.size idx off).den ρ) (x.den ρ)).run P w= .ok () w'∧
   Jl P N B w0 (Ve al n []) (Vd τ d Ju) (Ki σ n [] [(i,some (.own U s (xs.set idx.toNat y)))]) (a.put d undef) w' ρ M R:=by
 obtain⟨flat,f1,f2,f3⟩:=C.res i _ hr
 obtain⟨gg,rfl,hgg⟩:=Kk hx
 have hj:idx.toNat<xs.length:=by omega
 have hone:∀v∈new.map (SC.den ρ),v.oneCell'=true:=by
  intro v hv
  obtain⟨c,hc,rfl⟩:=List.mem_map.1 hv
  exact Ld C (by simpa using List.all_eq_true.1 hat c hc) fun id hid=>hids id (List.mem_flatMap.2 ⟨c,hc,hid⟩)
 have hcells:((SV.v gg new).den ρ).cells=(new.map (SC.den ρ)).toArray:=Vr hone fun e=>by rw[List.length_map];exact hgg e
 rcases f2.2 with⟨_,h0⟩|⟨g,cap,cur,e,hbg,hg,hnc,hcm,hcs,htake⟩
 ·omega
 have hmul:idx.toNat*s.size+s.size≤xs.length*s.size:=by
  have:=Nat.mul_le_mul_right s.size (show idx.toNat+1≤xs.length from hj)
  rwa[Nat.succ_mul] at this
 have hcap:xs.length*s.size≤cur.size:=by rw[hcs];exact Nat.mul_le_mul_right _ hnc
 have hlen:(new.map (SC.den ρ)).length=m:=by rw[List.length_map,hnew]
 have hst:=run_storeCells_at P g (idx.toNat*s.size+off) U (new.map (SC.den ρ)) 0 cur w hg (by rw[hlen];omega) hone
 rw[Nat.add_zero,hlen] at hst
 obtain⟨X,hX⟩:∃X:Array Value,X=(cur.toList.take (idx.toNat*s.size+off)++new.map (SC.den ρ)++cur.toList.drop (idx.toNat*s.size+off+m)).toArray:=⟨_,rfl⟩
 rw[←hX] at hst
 have hXs:X.size=cur.size:=by rw[hX];simp[hlen];omega
 have hcv:=f1.get idx.toNat hj
 have hlc:((flat.drop (idx.toNat*s.size)).take s.size).length=s.size:=hcv.length
 have hrep':=Fz (ρ:=ρ) hcv hdec (by rw[hnew];exact hl)
 have hrepL:Kz (Rep M w s) (xs.set idx.toNat y) (X.toList.take (xs.length*s.size)):=by
  have:=Kz.set (fun _ _ h=>Rep.length h) f1 idx.toNat hj hrep'
  rw[hX,List.toList_toArray,Jie _ _ hlen (by omega) (by rw[Array.length_toList];exact hcap),htake,Jsl _ _ hlen hl,←hnew]
  simpa[List.map_append] using this
 refine⟨w.setRow g X, ?_,C.writeOwn hd hr e hbg hg hnc hcm hcs hXs (by simp) hrepL rfl (fun id hid=>by simp[Ju,SV.ids,J1,SC.ids] at hid)⟩
 simp only[Instr.storeAt,SC.den,e,Instr.sureAddr,Sem.run_bind,Sem.run_pure,Result.andThen_ok,Nat.zero_add]
 unfold storeVar
 simp only[Sem.run_bind,Jx hm,Result.andThen_ok,hcells]
 rw[if_neg (by simp[hnew])]
 exact hst
theorem Jg2 (w:World) (dT sT ty elem:TypeId) (g dLen dCap sz:Nat) (ad:Addr) (sLen sCap:Nat) (cur:Array Value) (t:TypeId) (cs:List Value)
  (hu:P.underlying dT=some (.slice elem)) (hs:J7 P elem=some sz) (hg:w.heap[g]? =some (.cells cur t (0,0))) (hn:sLen=dLen) (hc:cs.length=dLen*sz)
  (hsrc:∀j v,cs[j]? =some v→w.cell? (ad.add j)=some v) (hfit:cs.length≤cur.size) (h1:∀v∈cs,v.oneCell'=true):
  (Builtin.copy_ #[dT,sT] ty #[.slice (some ⟨g,0,none⟩) dLen dCap, .slice (some ad) sLen sCap]).run P w= .ok (goInt dLen) (w.setRow g (cs++cur.toList.drop cs.length).toArray):=by
 have hl:=run_loadCells_list (P:=P) w ad cs hsrc
 have hst:=run_storeCells_at P g 0 t cs 0 cur w hg (by simpa using hfit) h1
 simp only[Nat.add_zero,List.take_zero,List.nil_append,Nat.zero_add] at hst
 subst hn
 have hmin:Nat.min sLen sLen=sLen:=Nat.min_self _
 have hcomm:sLen*sz=cs.length:=hc.symm
 simp[Builtin.copy_,run_underlying hu,Builtin.lenOf,Builtin.firstCells,Jx hs,hmin,hcomm,hl,hst]
theorem Jl.copyOwn [Dr] (C:Jl P N B w0 al τ σ a w ρ M R) (hd:∀t,d=some t→t<N) {rs:Nat→Option Res} (hrs:∀id x,rs id=some x→σ id=some x) {i:Nat} {t t' e ty:TypeId} {s:Sch} {xs ys:List s.T} {cy:List SC}
  (hr:σ i=some (.own e s xs)) (ht:P.underlying t=some (.slice e)) (hm:J7 P e=some s.size) (hy:Yh rs s cy=some ys) (hlen:ys.length=xs.length):
  ∃w',(Builtin.copy_ #[t,t'] ty #[ρ i,valOf false (cy.map (SC.den ρ))]).run P w= .ok (.int .i64 xs.length) w'∧
   Jl P N B w0 (Ve al n []) (Vd τ d (.one (.int .i64 xs.length))) (Ki σ n [] [(i,some (.own e s ys))]) (a.put d (.int .i64 xs.length)) w' ρ M R:=by
 obtain⟨c,rfl,hrow⟩:=Y8 C hrs hy
 by_cases hpos:xs.length=0
 ·obtain rfl:=List.eq_nil_of_length_eq_zero hpos
  obtain rfl:=List.eq_nil_of_length_eq_zero hlen
  have hrun:(Builtin.copy_ #[t,t'] ty #[ρ i,valOf false ([c].map (SC.den ρ))]).run P w= .ok (.int .i64 (([]:List s.T).length:Nat)) w:=by
   obtain⟨ad,cap,e1⟩:∃ad cap,ρ i= .slice ad 0 cap:=by
    obtain⟨flat,_,f2,_⟩:=C.res i _ hr
    rcases f2.2 with⟨e,_⟩|⟨g,cap,cur,e,_⟩
    ·exact⟨_,_,e⟩
    ·exact⟨_,_,e⟩
   obtain⟨ad2,cap2,e2⟩:∃ad cap,c.den ρ= .slice ad 0 cap:=by
    rcases hrow with⟨h,_⟩|⟨ad,cap2,flat2,h1,_⟩
    ·exact⟨_,_,h⟩
    ·exact⟨_,_,h1⟩
   show(Builtin.copy_ #[t,t'] ty #[ρ i,c.den ρ]).run P w=_
   rw[e1,e2]
   cases ad<;>cases ad2<;>simp[Builtin.copy_,run_underlying ht,Builtin.lenOf,Builtin.firstCells,Jx hm,Sem.run_bind,goInt,storeCells,loadCells,loadCellsFrom]
  refine⟨w,hrun, ?_⟩
  have key:=C.pure (n:=n) (v:= .one (.int .i64 (([]:List s.T).length:Nat))) (u:= .int .i64 (([]:List s.T).length:Nat)) hd rfl (fun id hid=>by simp[SV.ids,J1,SC.ids] at hid)
  have es:Ki σ n [] [(i,some (Res.own e s []))]=Ki σ n [] []:=by
   funext id
   unfold Ki
   simp only[look]
   split
   ·rfl
   ·by_cases h:i=id
    ·subst h;rw[if_pos rfl];exact hr.symm
    ·rw[if_neg h]
  rw[es]
  exact key
 obtain⟨flat,f1,f2,f3⟩:=C.res i _ hr
 rcases hrow with⟨_,rfl⟩|⟨ad,cap2,flat2,h1,h2,h3⟩
 ·simp at hlen;omega
 rcases f2.2 with⟨_,h0⟩|⟨g,cap,cur,e',hbg,hg,hnc,hcm,hcs,htake⟩
 ·omega
 have hl2:=h2.length
 rw[hlen] at hl2
 have hcap:xs.length*s.size≤cur.size:=by rw[hcs];exact Nat.mul_le_mul_right _ hnc
 have hrun:=Jg2 (P:=P) w t t' ty e g xs.length cap s.size ad ys.length cap2 cur e flat2 ht hm hg hlen hl2 h3 (by rw[hl2];exact hcap) (Hu h2)
 refine⟨_, ?_,C.writeOwn hd hr e' hbg hg hnc hcm hcs (X:=(flat2++cur.toList.drop flat2.length).toArray) (by simp[hl2];omega) hlen ?_ rfl (fun id hid=>by simp[SV.ids,J1,SC.ids] at hid)⟩
 ·rw[e']
  show(Builtin.copy_ #[t,t'] ty #[_,c.den ρ]).run P w=_
  rw[h1]
  exact hrun
 ·rw[List.toList_toArray,←hl2,List.take_left' rfl]
  exact h2
end
end Go.Sx
namespace Go.Sx
open Go.RowKit
section
variable {P:Program} {N B:Nat} {w0:K8} {al:Nat→Prop} {τ:Nat→Option SV} {σ:Nat→Option Res} {a:Act} {w:World} {ρ:Env} {M R:Nat→Prop} {n:Nat}
theorem Dp {T:TypeId} {cs:List SC} (h:zeroCells P T=some cs):∃z:Value,(zeroValue T).run P w= .ok z w∧cs=z.cells.toList.map D8∧(∀ρ:Env,(cs.map (SC.den ρ)).toArray=z.cells)∧J1 cs=[]:=by
 unfold zeroCells at h
 cases hi:P.info? T with
 |none=>rw[hi] at h;cases h
 | some i =>
  cases hz:i.zero with
  |none=>simp[hi,hz] at h
  | some z =>
   simp only[hi,hz] at h
   split at h
   ·cases h
    exact⟨z,by simp[zeroValue,typeInfo,hi,hz],rfl,fun ρ=>by rw[Yt],Db _⟩
   ·cases h
theorem Jh2 [Dr] (C:Jl P N B w0 al τ σ a w ρ M R) {o:Oper} (hd:∀t,o.dst=some t→t<N) {T:TypeId} (ho:o.op= .alloc T) {cs:List SC} (hz:zeroCells P T=some cs) (hfresh:∀id,al id→¬(n≤id∧id<n+1)):
  Kp P N B w0 al τ σ a w R n o ⟨[], .one (.ptr n 0),[.box T cs],[]⟩:=by
 obtain⟨z,h1,rfl,h2,h3⟩:=Dp (w:=w) hz
 intro K Q hK
 obtain⟨ρ',hC⟩:=C.newBox (n:=n) (d:=o.dst) hd (fun h=>hfresh n h ⟨Nat.le_refl _,by omega⟩) T (z.cells.toList.map D8) (fun id hid=>by rw[h3] at hid;simp at hid)
 refine Jg ?_ (hK _ _ ρ' M hC)
 rw[h2]
 simp[execOp,ho,Instr.alloc,h1,newVar,newRow]
theorem Jos [Dr] (C:Jl P N B w0 al τ σ a w ρ M R) {o:Oper} (hd:∀t,o.dst=some t→t<N) {ev:Operand→Option SV} (hev:∀x sv,ev x=some sv→a.eval x=sv.den ρ∧∀id∈sv.ids,al id)
  {T:TypeId} {x:Operand} (ho:o.op= .box T x) {v:SV} (hv:ev x=some v) {cs:List SC} (hcs:Yz v=some cs) (hat:Xb cs=true) (hfresh:∀id,al id→¬(n≤id∧id<n+1)):
  Kp P N B w0 al τ σ a w R n o ⟨[], .one (.ptr n 0),[.box T cs],[]⟩:=by
 obtain⟨g,rfl,hg⟩:=Kk hcs
 obtain⟨h1,h2⟩:=hev x _ hv
 have hone:∀v∈cs.map (SC.den ρ),v.oneCell'=true:=by
  intro v hv
  obtain⟨c,hc,rfl⟩:=List.mem_map.1 hv
  exact Ld C (by simpa using List.all_eq_true.1 hat c hc) fun id hid=>h2 id (List.mem_flatMap.2 ⟨c,hc,hid⟩)
 have hc:((SV.v g cs).den ρ).cells=(cs.map (SC.den ρ)).toArray:=Vr hone fun e=>by rw[List.length_map];exact hg e
 intro K Q hK
 obtain⟨ρ',hC⟩:=C.newBox (n:=n) (d:=o.dst) hd (fun h=>hfresh n h ⟨Nat.le_refl _,by omega⟩) T cs h2
 refine Jg ?_ (hK _ _ ρ' M hC)
 simp[execOp,ho,Instr.box,h1,newVar,newRow,hc]
theorem Jgz [Dr] (C : Jl P N B w0 al τ σ a w ρ M R) {o : Oper} (hd : ∀ t, o.dst = some t → t < N) {rs : Nat → Option Res} (hrs : ∀ id x, rs id = some x → σ id = some x) {T : TypeId} {x y : Operand} {p : SC} {v : SV} (ho : o.op = .store T x y) (hx : a.eval x = p.den ρ) (hy : a.eval y = v.den ρ) (hids : ∀ id ∈ v.ids, al id) {out : Out}
  (hop:Jmd P rs T p v=some out) (hpre:Kf out.pre):Kp P N B w0 al τ σ a w R n o out:=by
 unfold Jmd at hop
 split at hop
 ·rename_i m new hm hnew
  split at hop
  ·rename_i hc
   split at hop
   ·rename_i i off
    split at hop
    ·rename_i U cs hr
     split at hop
     ·rename_i hl
      cases hop
      have hnids:∀id∈J1 new,al id:=by
       obtain⟨g,rfl,_⟩:=Kk hnew
       exact hids
      obtain⟨w',h1,h2⟩:=C.storeBox (n:=n) (d:=o.dst) hd (hrs i _ hr) hm hl hc.1 hnew hc.2 hnids
      intro K Q hK
      refine Uw ?_ (hK undef w' ρ M h2)
      simp[execOp,ho,hx,hy,h1]
     ·cases hop
    ·cases hop
   ·rename_i i sz idx off
    split at hop
    ·rename_i U s xs hr
     split at hop
     ·rename_i hl
      obtain⟨l1,l2,l3⟩:=hl
      subst l1
      split at hop
      ·rename_i yy hdec
       cases hop
       have hnids:∀id∈J1 new,al id:=by
        obtain⟨g,rfl,_⟩:=Kk hnew
        exact hids
       obtain⟨w',h1,h2⟩:=C.storeElt (n:=n) (d:=o.dst) hd (hrs i _ hr) l2 hm l3 hc.1 hnew hc.2 hnids hpre hdec
       intro K Q hK
       refine Uw ?_ (hK undef w' ρ M h2)
       simp[execOp,ho,hx,hy,h1]
      ·cases hop
     ·split at hop
      ·rename_i hl
       obtain⟨l1,l2,l3⟩:=hl
       subst l1
       split at hop
       ·rename_i yy hdec
        cases hop
        have hnids:∀id∈J1 new,al id:=by
         obtain⟨g,rfl,_⟩:=Kk hnew
         exact hids
        obtain⟨w',h1,h2⟩:=C.storeEltL (n:=n) (d:=o.dst) hd (hrs i _ hr) hm l3 hc.1 hnew hc.2 hnids hpre hdec
        intro K Q hK
        refine Uw ?_ (hK undef w' ρ M h2)
        simp[execOp,ho,hx,hy,h1]
       ·cases hop
      ·cases hop
    ·cases hop
   ·cases hop
  ·cases hop
 ·cases hop
theorem Jk8 [Dr] {Γ:Gam} (hΓ:Ut P Γ) (C:Jl P N B w0 al τ σ a w ρ M R) {o:Oper} (hd:∀t,o.dst=some t→t<N) {rs:Nat→Option Res} (hrs:∀id x,rs id=some x→σ id=some x) {f:FuncId} {args:List SV} {out:Out}
  (hop:Jrq Γ rs n f args=some out) (hpre:Kf out.pre) (hfresh:∀id,al id→¬(n≤id∧id<n+out.news.length))
  (hrun:Enters P f→(execOp a.eval o).run P w= .ok (.enter f (args.map (SV.den ρ)).toArray) w):Kp P N B w0 al τ σ a w R n o out:=by
 obtain⟨hE,Rp,hc,hr⟩:=Jrp (d:=o.dst) hΓ C hd hrs hop hpre hfresh
 intro K Q hK
 exact Ux (hrun hE) hc fun e w' he=>by
  obtain⟨u,ρ',M',h1,h2⟩:=hr e w' he
  exact⟨u,h1,hK u w' ρ' M' h2⟩
theorem Jba {place:Nat→Option (Nat×Nat)}:∀{l:List (Nat×List SC)} {cs cs':List SC},Jhr place cs l=some cs'→(∀id∈J1 cs,al id)→(∀p∈l,∀id∈J1 p.2,al id)→∀id∈J1 cs',al id
 |[],cs,cs',h,h1,_=>by cases h;exact h1
 | (i, x) :: l, cs, cs', h, h1, h2 => by
  simp only[Jhr] at h
  split at h
  ·split at h
   ·refine Jba h (fun id hid=> ?_) fun p hp=>h2 p (by simp[hp])
    simp only[J1,List.flatMap_append,List.mem_append] at hid
    rcases hid with(hid|hid)|hid
    ·obtain⟨c,hc,hc'⟩:=List.mem_flatMap.1 hid
     exact h1 id (List.mem_flatMap.2 ⟨c,List.mem_of_mem_take hc,hc'⟩)
    ·exact h2 (i,x) (by simp) id hid
    ·obtain⟨c,hc,hc'⟩:=List.mem_flatMap.1 hid
     exact h1 id (List.mem_flatMap.2 ⟨c,List.mem_of_mem_drop hc,hc'⟩)
   ·cases h
  ·cases h
theorem Joq [Dr] (C:Jl P N B w0 al τ σ a w ρ M R) {ev:Operand→Option SV} (hev:∀x sv,ev x=some sv→a.eval x=sv.den ρ∧∀id∈sv.ids,al id) {T:TypeId} {parts:Array (Nat×Operand)} {z cs:List SC} {ps:List (Nat×List SC)}
  (hz:zeroCells P T=some z) (hps:Hy ev parts.toList=some ps) (hb:Jor P T z ps=some cs):
  (Instr.build T (parts.map fun p=>(p.1,a.eval p.2))).run P w= .ok (.agg (cs.map (SC.den ρ)).toArray) w∧∀id∈J1 cs,al id:=by
 obtain⟨h1,h2⟩:=F8 C hev hps
 have hzz:=hz
 unfold zeroCells at hzz
 cases hi:P.info? T with
 |none=>rw[hi] at hzz;cases hzz
 | some i =>
  cases hzv:i.zero with
  |none=>simp[hi,hzv] at hzz
  | some zv =>
   simp only[hi,hzv] at hzz
   split at hzz
   ·cases hzz
    have e0:((zv.cells.toList.map D8).map (SC.den ρ)).toArray=zv.cells:=by rw[Yt]
    have hz0:∀id∈J1 (zv.cells.toList.map D8),al id:=fun id hid=>by rw[Db] at hid;simp at hid
    have ep:(parts.map fun p=>(p.1,a.eval p.2)).toList=parts.toList.map fun p=>(p.1,a.eval p.2):=by simp
    unfold Jor at hb
    cases hu:P.underlying T with
    |none=>rw[hu] at hb;cases hb
    | some dd =>
     rw[hu] at hb
     cases dd<;>try(cases hb;done)
     case struct fs=>
      simp only at hb
      split at hb
      ·rename_i Jim hpl
       have:=Jd4 ρ hb h1
       rw[e0] at this
       refine⟨run_build w T _ _ ?_,Jba hb hz0 h2⟩
       unfold Program.built
       simp only[hi,hu,hzv,hpl,ep]
       exact this
      ·cases hb
     case array n e=>
      simp only at hb
      split at hb
      ·rename_i ie hie
       have:=Jd4 ρ hb h1
       rw[e0] at this
       refine⟨run_build w T _ _ ?_,Jba hb hz0 h2⟩
       unfold Program.built
       simp only[hi,hu,hzv,hie,ep]
       exact this
      ·cases hb
   ·cases hzz
theorem Jaz {T e:TypeId} {sz len cap:Nat} {k:IntKind} {m:Int} {b o:Nat} (hT:P.underlying T=some (.slice e)) (hs:J7 P e=some sz) (h:0≤m∧m<len) (w:World):
  (Instr.indexAt T (.slice (some ⟨b,o,none⟩) len cap) (.int k m)).run P w= .ok (.pointer (some ⟨b,o+m.toNat*sz,none⟩)) w:=by
 simp[Instr.indexAt,asIntOf,Sem.run_bind,run_underlying hT,h.1,h.2,Jx hs,Addr.add_lit]
theorem Jfu {T e:TypeId} {sz len:Nat} {k:IntKind} {m:Int} {b o:Nat} (hT:P.underlying T=some (.array len e)) (hs:J7 P e=some sz) (h:0≤m∧m<len) (w:World):
  (Instr.indexAt T (.pointer (some ⟨b,o,none⟩)) (.int k m)).run P w= .ok (.pointer (some ⟨b,o+m.toNat*sz,none⟩)) w:=by
 simp[Instr.indexAt,asIntOf,Sem.run_bind,run_underlying hT,h.1,h.2,Jx hs,Addr.add_lit,Instr.sureAddr]
end
end Go.Sx
namespace Go.Sx
open Go.RowKit
section
variable {P:Program} {w:World}
theorem Hz {T:TypeId} {g:Bool} {n off:Nat} {cs:List Value} (hg:Kc P T=some g) (hn:J7 P T=some n) (hl:off+n≤cs.length) (h1:g=false→n=1):
  (part T cs.toArray off).run P w= .ok (valOf g ((cs.drop off).take n)) w:=by
 unfold part
 rw[Sem.run_bind,Yr hg]
 cases g with
 |true=>simp[Sem.run_bind,Jx hn,valOf]
 |false=>
  have:=h1 rfl
  subst this
  have hlt:off<cs.length:=by omega
  have e:(cs.drop off).take 1=[cs[off]]:=by rw[List.drop_eq_getElem_cons hlt];rfl
  rw[e]
  simp[List.getElem?_eq_getElem hlt,valOf]
theorem Jga (ρ : Env) : ∀ {d : Nat} {t : TypeId} {xs ys : List SC} {b : Bool}, eqT P d t xs ys = some b → ∀ D, d ≤ D →
  ∃g,Kc P t=some g∧(g=false→xs.length=1∧ys.length=1)∧(Op.equalIn D t (valOf g (xs.map (SC.den ρ))) (valOf g (ys.map (SC.den ρ)))).run P w= .ok b w
 |0,_,_,_,_,h,_,_=>by cases h
 | d + 1, t, xs, ys, b, h, D, hD => by
  obtain⟨D,rfl⟩:∃D',D=D'+1:=⟨D-1,by omega⟩
  have hD':d≤D:=by omega
  simp only[eqT] at h
  cases hu:P.underlying t with
  |none=>rw[hu] at h;cases h
  | some dd =>
   rw[hu] at h
   cases dd<;>try(cases h;done)
   case bool=>
    simp only at h
    split at h
    ·cases h
     exact⟨false,by simp[Kc,hu],fun _=>⟨rfl,rfl⟩,run_equalIn_bool w D t _ _ hu⟩
    ·cases h
   case int k=>
    simp only at h
    split at h
    ·split at h
     ·rename_i e;subst e
      cases h
      exact⟨false,by simp[Kc,hu],fun _=>⟨rfl,rfl⟩,run_equalIn_int w D t _ k _ _ hu⟩
     ·cases h
    ·cases h
   case string=>
    simp only at h
    split at h
    ·cases h
     exact⟨false,by simp[Kc,hu],fun _=>⟨rfl,rfl⟩,run_equalIn_string w D t _ _ hu⟩
    ·cases h
   case struct fs =>
    simp only at h
    split at h
    ·rename_i hp
     have hf:P.fieldsOf t=fs:=by unfold Program.fieldsOf;rw[hu]
     refine⟨true,by simp[Kc,hu],(fun e=>by cases e), ?_⟩
     show(Op.equalIn (D+1) t (.agg (xs.map (SC.den ρ)).toArray) (.agg (ys.map (SC.den ρ)).toArray)).run P w=_
     rw[run_equalIn_struct w D t _ _ (by rw[hu,hf]) hp,hf]
     have key : ∀ (l : List Field) (b : Bool), Xu (eqT P d) P xs ys l = some b → (Op.eqFields D (xs.map (SC.den ρ)).toArray (ys.map (SC.den ρ)).toArray l).run P w = .ok b w := by
      intro l
      induction l with
      |nil=>intro b h;cases h;rfl
      | cons f l ih =>
       intro b h
       simp only[Xu] at h
       simp only[Op.eqFields]
       split at h
       ·rename_i hn
        rw[if_neg (by simpa using hn)]
        exact ih b h
       ·rename_i hn
        rw[if_pos hn]
        split at h
        ·rename_i n hts
         split at h
         ·rename_i hc
          split at h
          ·rename_i r1 r2 h1 h2
           cases h
           obtain⟨g,g1,g2,g3⟩:=Jga ρ h1 D hD'
           have hgn:g=false→n=1:=fun e=>by
            have:=(g2 e).1
            simp only[List.length_take,List.length_drop] at this
            omega
           have p1:=Hz (w:=w) (cs:=xs.map (SC.den ρ)) (off:=f.offset) g1 hts (by simpa using hc.1) hgn
           have p2:=Hz (w:=w) (cs:=ys.map (SC.den ρ)) (off:=f.offset) g1 hts (by simpa using hc.2) hgn
           rw[←List.map_drop,←List.map_take] at p1 p2
           simp only[Sem.run_bind,p1,p2,Result.andThen_ok,g3]
           cases r1 with
           |true=>simpa using ih _ h2
           |false=>simp
          ·cases h
         ·cases h
        ·cases h
     exact key _ _ h
    ·cases h
   case array len e =>
    simp only at h
    split at h
    ·rename_i n hts
     refine⟨true,by simp[Kc,hu],(fun e=>by cases e), ?_⟩
     show(Op.equalIn (D+1) t (.agg (xs.map (SC.den ρ)).toArray) (.agg (ys.map (SC.den ρ)).toArray)).run P w=_
     simp only[Op.equalIn,Sem.run_bind,run_underlying hu,Result.andThen_ok,Jx hts,Std.Legacy.Range.forIn_eq_forIn_range',Std.Legacy.Range.size,Nat.sub_zero,Nat.add_sub_cancel,Nat.div_one]
     generalize List.range' 0 len=l at h⊢
     induction l generalizing b with
     |nil=>cases h;simp
     | cons i l ih =>
      simp only[Jd7] at h
      split at h
      ·rename_i hc
       split at h
       ·rename_i r1 r2 h1 h2
        cases h
        obtain⟨g,g1,g2,g3⟩:=Jga ρ h1 D hD'
        have hgn:g=false→n=1:=fun e=>by
         have:=(g2 e).1
         simp only[List.length_take,List.length_drop] at this
         omega
        have p1:=Hz (w:=w) (cs:=xs.map (SC.den ρ)) (off:=i*n) g1 hts (by simpa using hc.1) hgn
        have p2:=Hz (w:=w) (cs:=ys.map (SC.den ρ)) (off:=i*n) g1 hts (by simpa using hc.2) hgn
        rw[←List.map_drop,←List.map_take] at p1 p2
        simp only[List.forIn_cons,Sem.run_bind,p1,p2,Result.andThen_ok,g3]
        cases r1 with
        |true=>simpa using ih _ h2
        |false=>simp
       ·cases h
      ·cases h
    ·cases h
theorem Jmo {op:BinOp} {T:TypeId} {x y:Operand} {m n:Bool} {out:Out} (hu:P.underlying T=some .bool) (h:Jv0 op m n=some out) (ρ:Env):
  (do eqGuard op T x y (.bool m) (.bool n);binOp op T (.bool m) (.bool n):Sem Value).run P w= .ok (out.val.den ρ) w∧out.news=[]∧out.upd=[]∧out.val.ids=[]:=by
 have he:(Op.equal T (.bool m) (.bool n)).run P w= .ok (m==n) w:=by
  have h1:eqT P 1 T [.bool m] [.bool n]=some (m==n):=by simp[eqT,hu]
  obtain⟨g,g1,_,g3⟩:=Jga (P:=P) (w:=w) ρ h1 10000 (by omega)
  have:g=false:=by
   unfold Kc at g1
   rw[hu] at g1
   cases g1;rfl
  subst this
  exact g3
 cases op<;>simp only[Jv0,reduceCtorEq] at h
 all_goals
  cases h
  refine⟨?_,rfl,rfl,rfl⟩
  simp only[eqGuard,binOp]
  simp[Sem.run_bind,he,SV.den,valOf,SC.den]
end
end Go.Sx
namespace Go.Sx
open Go.RowKit
theorem Zg {α:Type} {Rp:α→List Value→Prop} {x:α} {zl:List Value} (h:Rp x zl):∀{n:Nat} {cs:List Value},cs.length=n*zl.length→(∀j,j<n*zl.length→cs[j]? =zl[j %zl.length]?)→Kz Rp (List.replicate n x) cs
 |0,cs,hl,_=>by
  have:cs=[]:=List.eq_nil_of_length_eq_zero (by simpa using hl)
  subst this;rfl
 | n + 1, cs, hl, hj => by
  have hm:(n+1)*zl.length=n*zl.length+zl.length:=by rw[Nat.succ_mul]
  refine⟨cs.take zl.length,cs.drop zl.length,(List.take_append_drop _ _).symm, ?_,Zg h (by rw[List.length_drop,hl,hm];omega) fun j hlt=> ?_⟩
  ·have:cs.take zl.length=zl:=by
    apply List.ext_getElem?
    intro j
    by_cases hlt:j<zl.length
    ·rw[List.getElem?_take_of_lt hlt,hj j (by omega),Nat.mod_eq_of_lt hlt]
    ·rw[List.getElem?_eq_none (by rw[List.length_take];omega),List.getElem?_eq_none (by omega)]
   rw[this];exact h
  ·rw[List.getElem?_drop,hj (zl.length+j) (by omega),Nat.add_mod_left]
section
variable {P:Program} {N B:Nat} {w0:K8} {al:Nat→Prop} {τ:Nat→Option SV} {σ:Nat→Option Res} {a:Act} {w:World} {ρ:Env} {M R:Nat→Prop} {n:Nat}
theorem Jks [Dr] (C:Jl P N B w0 al τ σ a w ρ M R) {o:Oper} (hd:∀t,o.dst=some t→t<N) {T e:TypeId} {l c:Operand} (ho:o.op= .makeSlice T l c) {s:Sch} {i:TypeInfo} {z:List SC} {d:s.T} {k k':IntKind} {m m':Int}
  (hT:P.underlying T=some (.slice e)) (hi:P.info? e=some i) (hz:zeroCells P e=some z) (hsz:i.size=s.size) (hdec:dec (fun _=>none) s z=some d) (hzl:z.length=s.size) (hl:a.eval l= .int k m) (hc:a.eval c= .int k' m') (hm:0≤m∧m≤1000000) (hm':m≤m'∧m'≤1000000) (hby:i.bytes≤1000)
  (hfresh:∀id,al id→¬(n≤id∧id<n+1)) (pre:List Prop):Kp P N B w0 al τ σ a w R n o ⟨pre, .one (.sl n),[.own e s (List.replicate m.toNat d)],[]⟩:=by
 obtain⟨zv,hzr,rfl,hzc,_⟩:=Dp (w:=w) hz
 have hiz:i.zero=some zv:=by
  unfold zeroCells at hz
  rw[hi] at hz
  cases hz':i.zero with
  |none=>simp[hz'] at hz
  |some z'=>
   have:(zeroValue e).run P w= .ok z' w:=by simp[zeroValue,typeInfo,hi,hz']
   rw[this] at hzr
   cases hzr;rfl
 have hml:(m.toNat:Int)=m:=Int.toNat_of_nonneg hm.1
 have hbm:(i.bytes:Int)*m'≤281474976710656:=by
  have:(i.bytes:Int)*m'≤1000*1000000:=Int.mul_le_mul (by omega) hm'.2 (by omega) (by omega)
  omega
 have hrun:=run_make (P:=P) w T e i zv hT hi hiz k k' m m' hm.1 hm'.1 hbm (by omega)
 have hzs:zv.cells.toList.length=s.size:=by simpa using hzl
 have hrep:Rep M w s d zv.cells.toList:=by
  have:=Yv (P:=P) (ρ:=ρ) (M:=M) (M':=M) (R:=R) (B:=B) (w:=w) (fun _ h=>h) hdec (fun i y h=>by cases h) (fun i T s' xs g _ h=>by cases h)
  rwa[Yt] at this
 have hflat:Kz (Rep M w s) (List.replicate m.toNat d) (madeCells zv.cells (m.toNat*i.size)).toList:=by
  refine Zg hrep (by simp[size_madeCells,hzs,hsz]) fun j hj=> ?_
  rw[hzs] at hj⊢
  have hs0:0<s.size:=by
   rcases Nat.eq_zero_or_pos s.size with h0|h0
   ·rw[h0,Nat.mul_zero] at hj;omega
   ·exact h0
  have hz2:zv.cells.size=s.size:=by simpa using hzs
  have hlt:j %s.size<zv.cells.size:=by rw[hz2];exact Nat.mod_lt j hs0
  have hj':j<m.toNat*i.size:=by rw[hsz];exact hj
  simp only[madeCells,Array.toList_map,Array.toList_range,List.getElem?_map,List.getElem?_range hj',Option.map_some,hz2,Array.getElem?_toList]
  rw[getElem!_pos zv.cells (j %s.size) hlt,Array.getElem?_eq_getElem hlt]
 intro K Q hK
 have hn:¬al n:=fun h=>hfresh n h ⟨Nat.le_refl _,by omega⟩
 obtain⟨ρ',hC⟩:=C.allocRes (n:=n) (d:=o.dst) (x:= .own e s (List.replicate m.toNat d)) (v:= .sl n) (u:= .slice (some ⟨w.heap.size,0,none⟩) m.toNat m'.toNat) hd hn (.cells (madeCells zv.cells (m'.toNat*i.size)) e) rfl rfl (fun ρ' h=>h) (fun id h=>by simpa[SC.ids] using h) (fun id h=>by simp[Res.ids] at h) (fun ρ' h5 _=>by
  refine⟨_,hflat.imp fun _ _ h=>h.keep fun b hb=>⟨hb,Below.heap_alloc w _ b (C.old b (.inl hb))⟩, ?_,fun g hg=> ?_⟩
  ·rw[h5,List.length_replicate]
   rw[hsz]
   refine⟨by simp[size_madeCells], .inr ⟨w.heap.size,m'.toNat,_,rfl,C.base,heap_alloc_new w _,by omega,by unfold maxLen;omega,size_madeCells _ _, ?_⟩⟩
   have hle:m.toNat*s.size≤m'.toNat*s.size:=Nat.mul_le_mul_right _ (by omega)
   simp only[madeCells,Array.toList_map,Array.toList_range,←List.map_take,List.take_range]
   rw[Nat.min_eq_left hle]
  ·rw[h5] at hg
   cases hg
   exact⟨fun h=>Nat.lt_irrefl _ (C.old w.heap.size (.inl h)),fun h=>Nat.lt_irrefl _ (C.old w.heap.size (.inr h))⟩)
 refine Jg ?_ (hK _ _ ρ' M hC)
 simp only[execOp,ho,hl,hc]
 exact J2 hrun
end
end Go.Sx
namespace Go.Sx
open Go.RowKit
theorem Kz.take {α:Type} {Rp:α→List Value→Prop} {sz:Nat} (hR:∀x cs,Rp x cs→cs.length=sz):∀{xs:List α} {flat:List Value},Kz Rp xs flat→∀(j:Nat),Kz Rp (xs.take j) (flat.take (j*sz))
 |[],flat,e,j=>by rw[show flat=[] from e];simp;rfl
 |x::xs,flat,⟨c1,c2,e,h1,h2⟩,0=>by simp;rfl
 |x::xs,flat,⟨c1,c2,e,h1,h2⟩,j+1=>by
  have hl:=hR _ _ h1
  subst e
  refine⟨c1,c2.take (j*sz), ?_,h1,Kz.take hR h2 j⟩
  rw[Nat.succ_mul,List.take_append,List.take_of_length_le (by omega),hl,Nat.add_sub_cancel]
theorem Kz.drop {α:Type} {Rp:α→List Value→Prop} {sz:Nat} (hR:∀x cs,Rp x cs→cs.length=sz):∀{xs:List α} {flat:List Value},Kz Rp xs flat→∀(j:Nat),Kz Rp (xs.drop j) (flat.drop (j*sz))
 |[],flat,e,j=>by rw[show flat=[] from e];simp;rfl
 |x::xs,flat,h,0=>by simpa using h
 | x :: xs, flat, ⟨c1, c2, e, h1, h2⟩, j + 1 => by
  have hl:=hR _ _ h1
  subst e
  have e2:(c1++c2).drop ((j+1)*sz)=c2.drop (j*sz):=by
   rw[Nat.succ_mul,List.drop_append,hl,Nat.add_sub_cancel,List.drop_eq_nil_of_le (as:=c1) (by omega),List.nil_append]
  rw[e2]
  exact Kz.drop hR h2 j
def Jj8 (o:Option Value) (l d:Nat):Prop:=(o=none∧l=d)∨∃k,o=some (.int k (l:Int))
section
variable {P:Program} {N B:Nat} {w0:K8} {al:Nat→Prop} {τ:Nat→Option SV} {σ:Nat→Option Res} {a:Act} {w:World} {ρ:Env} {M R:Nat→Prop} {n:Nat} {d:Option Tmp}
theorem Vw {t e:TypeId} {sz:Nat} (ht:P.underlying t=some (.slice e)) (hs:J7 P e=some sz) (ad:Option Addr) {len cap l h:Nat} {lo hi:Option Value} (hlo:Jj8 lo l 0) (hhi:Jj8 hi h len) (h1:l≤h) (h2:h≤len) (h3:len≤cap):
  (Instr.slice t (.slice ad len cap) lo hi none).run P w= .ok (.slice (if cap=l then ad else ad.map (·.add (l*sz))) (h-l) (cap-l)) w:=by
 have hc:∀{k:IntKind} {m y:Nat} {code:BoundsCode},m≤y→(Instr.sliceBound (.int k (m:Int)) y code).run P w= .ok m w:=fun{k m y code} hm=>by
  have:=run_sliceBound (P:=P) (w:=w) k (m:Int) y code (by omega) (by omega)
  simpa using this
 have hle:h≤cap:=by omega
 rcases hlo with⟨rfl,rfl⟩|⟨k,rfl⟩<;>rcases hhi with⟨rfl,rfl⟩|⟨k',rfl⟩<;>
  simp[Instr.slice,run_underlying ht,Instr.sliceBounds,hc h1,hc hle,Jx hs,Sem.run_bind]
theorem Jma {t e:TypeId} {s:Sch} {xs:List s.T} {v:Value} (h:Rep M w (.list e s) xs [v]) (ht:P.underlying t=some (.slice e)) (hs:J7 P e=some s.size) {l m:Nat} {lo hi:Option Value} (hlo:Jj8 lo l 0) (hhi:Jj8 hi m xs.length) (h1:l≤m) (h2:m≤xs.length):
  ∃v',(Instr.slice t v lo hi none).run P w= .ok v' w∧Rep M w (.list e s) ((xs.take m).drop l) [v']:=by
 obtain⟨v0,flat,e0,f1,f2⟩:=h
 cases e0
 have hlen:((xs.take m).drop l).length=m-l:=by rw[List.length_drop,List.length_take];omega
 rcases f2 with⟨rfl|⟨ad,cap,rfl⟩,h0⟩|⟨b,off,cap,rfl,hc,hk,hm⟩
 ·rw[h0] at hhi h2
  have hm0:m=0:=by omega
  have hl0:l=0:=by omega
  subst hm0;subst hl0
  refine⟨_,Vw (w:=w) ht hs none hlo hhi h1 h2 (Nat.le_refl _),_,[],rfl, ?_, .inl ⟨.inl (by simp),by simp⟩⟩
  simp;rfl
 ·rw[h0] at hhi h2
  have hm0:m=0:=by omega
  have hl0:l=0:=by omega
  subst hm0;subst hl0
  refine⟨_,Vw (w:=w) ht hs (some ad) hlo hhi h1 h2 (Nat.zero_le _),_,[],rfl, ?_, .inl ⟨.inr ⟨ad,cap,by simp[Addr.add]⟩,by simp⟩⟩
  simp;rfl
 ·have hrow:Kz (Rep M w s) ((xs.take m).drop l) ((flat.take (m*s.size)).drop (l*s.size)):=(f1.take (fun _ _ h=>Rep.length h) m).drop (fun _ _ h=>Rep.length h) l
  refine⟨_,Vw (w:=w) ht hs _ hlo hhi h1 h2 hc,_,_,rfl,hrow, ?_⟩
  rw[hlen]
  by_cases hcl:cap=l
  ·rw[if_pos hcl]
   have hnil:(flat.take (m*s.size)).drop (l*s.size)=[]:=List.eq_nil_of_length_eq_zero (by rw[hrow.length,hlen,show m-l=0 by omega,Nat.zero_mul])
   rw[hnil]
   exact .inr ⟨b,off,cap-l,rfl,by omega,fun k u hu=>by simp at hu,fun h=>absurd rfl h⟩
  ·rw[if_neg hcl]
   refine .inr ⟨b,off+l*s.size,cap-l,by simp[Addr.add_lit],by omega,fun k u hu=> ?_,fun hne=>hm fun hf=>hne (by rw[hf];simp)⟩
   rw[List.getElem?_drop,List.getElem?_take] at hu
   split at hu
   ·rw[show off+l*s.size+k=off+(l*s.size+k) by omega]
    exact hk _ u hu
   ·cases hu
theorem Lq {t e:TypeId} {sz:Nat} (ht:P.underlying t=some (.slice e)) (hs:J7 P e=some sz) (ad:Option Addr) {len cap l h m:Nat} {lo:Option Value} {kh km:IntKind} (hlo:Jj8 lo l 0) (h1:l≤h) (h2:h≤m) (h3:m≤cap):
  (Instr.slice t (.slice ad len cap) lo (some (.int kh (h:Int))) (some (.int km (m:Int)))).run P w= .ok (.slice (if m=l then ad else ad.map (·.add (l*sz))) (h-l) (m-l)) w:=by
 have hc:∀{k:IntKind} {m y:Nat} {code:BoundsCode},m≤y→(Instr.sliceBound (.int k (m:Int)) y code).run P w= .ok m w:=fun{k m y code} hm=>by
  have:=run_sliceBound (P:=P) (w:=w) k (m:Int) y code (by omega) (by omega)
  simpa using this
 rcases hlo with⟨rfl,rfl⟩|⟨k,rfl⟩<;>
  simp[Instr.slice,run_underlying ht,Instr.sliceBounds,hc h1,hc h2,hc h3,Jx hs,Sem.run_bind]
theorem Jp6 {t e:TypeId} {s:Sch} {xs:List s.T} {v:Value} (h:Rep M w (.list e s) xs [v]) (ht:P.underlying t=some (.slice e)) (hs:J7 P e=some s.size) {l m r:Nat} {lo:Option Value} {kh km:IntKind} (hlo:Jj8 lo l 0) (h1:l≤m) (h2:m≤r) (h3:r≤xs.length):
  ∃v',(Instr.slice t v lo (some (.int kh (m:Int))) (some (.int km (r:Int)))).run P w= .ok v' w∧Rep M w (.list e s) ((xs.take m).drop l) [v']:=by
 obtain⟨v0,flat,e0,f1,f2⟩:=h
 cases e0
 have hlen:((xs.take m).drop l).length=m-l:=by rw[List.length_drop,List.length_take];omega
 rcases f2 with⟨rfl|⟨ad,cap,rfl⟩,h0⟩|⟨b,off,cap,rfl,hc,hk,hm⟩
 ·rw[h0] at h3
  have hr0:r=0:=by omega
  have hm0:m=0:=by omega
  have hl0:l=0:=by omega
  subst hr0;subst hm0;subst hl0
  refine⟨_,Lq (w:=w) ht hs none hlo h1 h2 (Nat.le_refl _),_,[],rfl, ?_, .inl ⟨.inl (by simp),by simp⟩⟩
  simp;rfl
 ·rw[h0] at h3
  have hr0:r=0:=by omega
  have hm0:m=0:=by omega
  have hl0:l=0:=by omega
  subst hr0;subst hm0;subst hl0
  refine⟨_,Lq (w:=w) ht hs (some ad) hlo h1 h2 (Nat.zero_le _),_,[],rfl, ?_, .inl ⟨.inr ⟨ad,0,by simp[Addr.add]⟩,by simp⟩⟩
  simp;rfl
 ·have hrow:Kz (Rep M w s) ((xs.take m).drop l) ((flat.take (m*s.size)).drop (l*s.size)):=(f1.take (fun _ _ h=>Rep.length h) m).drop (fun _ _ h=>Rep.length h) l
  refine⟨_,Lq (w:=w) ht hs _ hlo h1 h2 (by omega),_,_,rfl,hrow, ?_⟩
  rw[hlen]
  by_cases hcl:r=l
  ·rw[if_pos hcl]
   have hnil:(flat.take (m*s.size)).drop (l*s.size)=[]:=List.eq_nil_of_length_eq_zero (by rw[hrow.length,hlen,show m-l=0 by omega,Nat.zero_mul])
   rw[hnil]
   exact .inr ⟨b,off,r-l,rfl,by omega,fun k u hu=>by simp at hu,fun h=>absurd rfl h⟩
  ·rw[if_neg hcl]
   refine .inr ⟨b,off+l*s.size,r-l,by simp[Addr.add_lit],by omega,fun k u hu=> ?_,fun hne=>hm fun hf=>hne (by rw[hf];simp)⟩
   rw[List.getElem?_drop,List.getElem?_take] at hu
   split at hu
   ·rw[show off+l*s.size+k=off+(l*s.size+k) by omega]
    exact hk _ u hu
   ·cases hu
theorem Xh [Dr] (C:Jl P N B w0 al τ σ a w ρ M R) (hd:∀t,d=some t→t<N) {e:TypeId} {s:Sch} {ys:List s.T} {v:Value} (h:Rep M w (.list e s) ys [v]) (hfresh:∀id,al id→¬(n≤id∧id<n+1)):
  ∃ρ',Jl P N B w0 (Ve al n [.imm e s ys]) (Vd τ d (.one (.sl n))) (Ki σ n [.imm e s ys] []) (a.put d v) w ρ' M R:=by
 have h2:Xz (Vj M w) [SC.lst e s ys] [v]:=⟨h,trivial⟩
 exact C.described (n:=n) (d:=d) hd h2 false hfresh
theorem F1 [Dr] (C:Jl P N B w0 al τ σ a w ρ M R) {o:Oper} (hd:∀t,o.dst=some t→t<N) {i:Nat} {T e U:TypeId} {x:Operand} {lo hi:Option Operand} {s:Sch} {xs:List s.T} {l m:Nat} (ho:o.op= .slice T x lo hi none) (hx:a.eval x=ρ i)
  (hT:P.underlying T=some (.slice e)) (hs:J7 P e=some s.size) (hlo:Jj8 (lo.map a.eval) l 0) (hhi:Jj8 (hi.map a.eval) m xs.length) (h1:l≤m) (h2:m≤xs.length) (hfresh:∀id,al id→¬(n≤id∧id<n+1)) (pre:List Prop):
  (σ i=some (.imm U s xs)→Kp P N B w0 al τ σ a w R n o ⟨pre, .one (.sl n),[.imm e s ((xs.take m).drop l)],[]⟩)∧
  (σ i=some (.own U s xs)→Kp P N B w0 al τ σ a w R n o ⟨pre, .one (.sl n),[.imm e s ((xs.take m).drop l)],[(i,some (.imm U s xs))]⟩):=by
 refine⟨fun hr=> ?_,fun hr=> ?_⟩
 ·obtain⟨v',h3,h4⟩:=Jma (P:=P) (t:=T) (e:=e) (show Rep M w (.list e s) xs [ρ i] from C.res i _ hr) hT hs hlo hhi h1 h2
  obtain⟨ρ',hC⟩:=Xh C (d:=o.dst) hd h4 hfresh
  intro K Q hK
  refine Jg ?_ (hK v' w ρ' M hC)
  simp only[execOp,ho,hx]
  refine J2 ?_
  simp only[Instr.sliceAt,Sem.run_bind,run_underlying hT,Result.andThen_ok]
  exact h3
 ·have C':=C.freeze n (upd:=[(i,some (.imm U s xs))]) fun j y h=>by
   simp only[look] at h
   split at h
   ·rename_i e;subst e;cases h;exact⟨U,s,xs,hr,rfl⟩
   ·cases h
  have hni:al i:=(C.resIds i _ hr).1
  have hi':Ki σ n [] [(i,some (.imm U s xs))] i=some (.imm U s xs):=by
   unfold Ki
   rw[if_neg (by simp;try omega)]
   simp[look]
  obtain⟨v',h3,h4⟩:=Jma (P:=P) (t:=T) (e:=e) (show Rep _ w (.list e s) xs [ρ i] from C'.res i _ hi') hT hs hlo hhi h1 h2
  obtain⟨ρ',hC⟩:=Xh C' (d:=o.dst) hd h4 hfresh
  rw[Xj] at hC
  intro K Q hK
  refine Jg ?_ (hK v' w ρ' _ hC)
  simp only[execOp,ho,hx]
  refine J2 ?_
  simp only[Instr.sliceAt,Sem.run_bind,run_underlying hT,Result.andThen_ok]
  exact h3
theorem Je3 [Dr] (C:Jl P N B w0 al τ σ a w ρ M R) {o:Oper} (hd:∀t,o.dst=some t→t<N) {i:Nat} {T e U:TypeId} {x h0 m0:Operand} {lo:Option Operand} {s:Sch} {xs:List s.T} {l m r:Nat} {kh km:IntKind} (ho:o.op= .slice T x lo (some h0) (some m0)) (hx:a.eval x=ρ i)
  (hT:P.underlying T=some (.slice e)) (hs:J7 P e=some s.size) (hlo:Jj8 (lo.map a.eval) l 0) (hhi:a.eval h0= .int kh (m:Int)) (hmx:a.eval m0= .int km (r:Int)) (h1:l≤m) (h2:m≤r) (h3:r≤xs.length) (hfresh:∀id,al id→¬(n≤id∧id<n+1)) (pre:List Prop)
  (hr:σ i=some (.imm U s xs)):Kp P N B w0 al τ σ a w R n o ⟨pre, .one (.sl n),[.imm e s ((xs.take m).drop l)],[]⟩:=by
 obtain⟨v',h3,h4⟩:=Jp6 (P:=P) (t:=T) (e:=e) (kh:=kh) (km:=km) (show Rep M w (.list e s) xs [ρ i] from C.res i _ hr) hT hs hlo h1 h2 h3
 obtain⟨ρ',hC⟩:=Xh C (d:=o.dst) hd h4 hfresh
 intro K Q hK
 refine Jg ?_ (hK v' w ρ' M hC)
 simp only[execOp,ho,hx]
 refine J2 ?_
 simp only[Instr.sliceAt,Sem.run_bind,run_underlying hT,Result.andThen_ok,Option.map,hhi,hmx]
 exact h3
theorem Je2 {t:TypeId} (ht:P.underlying t=some .string) (b:ByteArray) {l h:Nat} {lo hi:Option Value} (hlo:Jj8 lo l 0) (hhi:Jj8 hi h b.size) (h1:l≤h) (h2:h≤b.size):
  (Instr.slice t (.string b) lo hi none).run P w= .ok (.string (b.extract l h)) w:=by
 have hc:∀{k:IntKind} {m y:Nat} {code:BoundsCode},m≤y→(Instr.sliceBound (.int k (m:Int)) y code).run P w= .ok m w:=fun{k m y code} hm=>by
  have:=run_sliceBound (P:=P) (w:=w) k (m:Int) y code (by omega) (by omega)
  simpa using this
 rcases hlo with⟨rfl,rfl⟩|⟨k,rfl⟩<;>rcases hhi with⟨rfl,rfl⟩|⟨k',rfl⟩<;>
  simp[Instr.slice,run_underlying ht,Instr.sliceBounds,hc h1,hc h2,Sem.run_bind]
theorem Jrs {ev:Operand→Option SV} {al:Nat→Prop} (hev:∀x sv,ev x=some sv→a.eval x=sv.den ρ∧∀id∈sv.ids,al id) {o:Option Operand} {d l:Int} (h:Jk9 ev o d=some l) (h0:0≤l):Jj8 (o.map a.eval) l.toNat d.toNat:=by
 unfold Jk9 at h
 split at h
 ·cases h;exact .inl ⟨rfl,rfl⟩
 ·rename_i x
  split at h
  ·rename_i k m hx
   cases h
   refine .inr ⟨k, ?_⟩
   rw[Int.toNat_of_nonneg h0]
   simp only[Option.map]
   rw[(hev x _ hx).1]
   rfl
  ·cases h
theorem Jzr {ev:Operand→Option SV} {al:Nat→Prop} (hev:∀x sv,ev x=some sv→a.eval x=sv.den ρ∧∀id∈sv.ids,al id) {x:Operand} {d l:Int} (h:Jk9 ev (some x) d=some l) (h0:0≤l):∃k,a.eval x= .int k (l.toNat:Int):=by
 unfold Jk9 at h
 simp only at h
 split at h
 ·rename_i k m hx
  cases h
  refine⟨k, ?_⟩
  rw[Int.toNat_of_nonneg h0,(hev x _ hx).1]
  rfl
 ·cases h
end
end Go.Sx
namespace Go.Sx
open Go.RowKit
theorem Jak:∀(ks:List Int) (n p:Nat),(V0 ks n)[p]? =(ks[p]?).map fun k=>{key:= .int .i64 k,val:= .bool true,born:=n+p}
 |[],_,_=>rfl
 |k::r,n,0=>rfl
 |k::r,n,p+1=>by
  simp only[V0,List.getElem?_cons_succ,Jak r]
  rw[show n+1+p=n+(p+1) by omega]
theorem Jcg:∀(ks:List Int) (n:Nat) (k:Int),V0 (ks++[k]) n=V0 ks n++[{key:= .int .i64 k,val:= .bool true,born:=n+ks.length}]
 |[],n,k=>by simp[V0]
 |a::r,n,k=>by
  simp only[List.cons_append,V0,Jcg r,List.length_cons]
  rw[show n+1+r.length=n+(r.length+1) by omega]
theorem H6 (k:Int):∀(ks:List Int) (b i:Nat),Instr.findNow (.int .i64) (.int .i64 k) (V0 ks b) i=some none∧ks.contains k=false∨
  ∃p,Instr.findNow (.int .i64) (.int .i64 k) (V0 ks b) i=some (some (i+p, .bool true))∧ks.contains k=true∧ks[p]? =some k
 |[],_,_=> .inl ⟨rfl,rfl⟩
 | a :: r, b, i => by
  by_cases h:k=a
  ·subst h
   exact .inr ⟨0,by simp[V0,Instr.findNow,Instr.sameNow],by simp,rfl⟩
  ·have hne:(k==a)=false:=by simpa using h
   have e:Instr.findNow (.int .i64) (.int .i64 k) (V0 (a::r) b) i=Instr.findNow (.int .i64) (.int .i64 k) (V0 r (b+1)) (i+1):=by
    simp[V0,Instr.findNow,Instr.sameNow,hne]
   rw[e]
   rcases H6 k r (b+1) (i+1) with⟨h1,h2⟩|⟨p,h1,h2,h3⟩
   ·exact .inl ⟨h1,by rw[List.contains_cons,hne,h2];rfl⟩
   ·exact .inr ⟨p+1,by rw[h1];congr 3;omega,by rw[List.contains_cons,h2];simp,h3⟩
def J3 (w:World) (b:Nat) (o:Obj):World:={w with heap:=w.heap.setIfInBounds b o}
theorem Ui {w:World} {b:Nat} {o:Obj} (h:b<w.heap.size):(J3 w b o).heap[b]? =some o:=by simp[J3,h]
theorem K4 {w:World} {b k:Nat} {o:Obj} (h:k≠b):(J3 w b o).heap[k]? =w.heap[k]? :=by simp[J3,Array.getElem?_setIfInBounds_ne (Ne.symm h)]
theorem Jda [Dr] {B:Nat} {w:World} {b:Nat} {o:Obj} (h:B≤b):Below B w (J3 w b o):=⟨rfl,rfl,rfl,by simp[J3],fun k hk=>K4 (by omega),fun _=>Nat.le_refl _⟩
def Fl:Obj→Bool
 | .cells _ _ _=>false
 |_=>true
theorem Ue {P:Program} {w:World} {b:Nat} {o o':Obj} (h:w.heap[b]? =some o) (hc:Fl o=true):(setObj b o').run P w= .ok () (J3 w b o'):=by
 have:=(Array.getElem?_eq_some_iff.1 h).1
 cases o<;>simp_all [setObj,Sem.run,J3,Fl]
theorem J4 {P:Program} {w:World} {b:Nat} {o:Obj} (h:w.heap[b]? =some o) (hc:Fl o=true):(getObj b).run P w= .ok o w:=by
 cases o<;>simp_all [getObj,Sem.run,Fl]
section
variable {P:Program} {N B:Nat} {w0:K8} {al:Nat→Prop} {τ:Nat→Option SV} {σ:Nat→Option Res} {a:Act} {w:World} {ρ:Env} {M R:Nat→Prop} {n:Nat} {d:Option Tmp}
theorem Jl.putObj [Dr] (C:Jl P N B w0 al τ σ a w ρ M R) (hd:∀t,d=some t→t<N) {i:Nat} {x x':Res} (hr:σ i=some x) (hox:x.owning=true) {b:Nat} (hb:blk (ρ i)=some b) (o:Obj)
  (hnew:Uh P ρ M R B (J3 w b o) i x') (hids:∀id∈x'.ids,al id) {v:SV} {u:Value} (hu:u=v.den ρ) (hv:∀id∈v.ids,al id):
  Jl P N B w0 (Ve al n []) (Vd τ d v) (Ki σ n [] [(i,some x')]) (a.put d u) (J3 w b o) ρ M R:=by
 obtain⟨h3,h4,h5,h6⟩:=C.notM hr hox hb
 have hi:=C.resIds i _ hr
 have hat:∀r,look ([(i,some x')]:List (Nat×Option Res)) r≠none→i=r:=fun r h=>by
  by_cases e:i=r
  ·exact e
  ·simp[look,e] at h
 refine C.step hd (fun id _ h=>by simp at h;omega) (fun _ _=>rfl) hu (fun id hid=> .inl (hv id hid)) (Jda h5) (by simp[J3]) (fun _ h=>h)
  (fun b h=>by simp[J3];exact C.old b (.inl h)) (fun b' h=>K4 (by rintro rfl;exact h.elim h3 h4)) ?_ ?_ (fun id h=>by simp at h;omega) ?_
 ·intro r y _ hlk hy ho b' hb'
  have hne:b'≠b:=by
   rintro rfl
   have hri:r≠i:=by rintro rfl;simp[look] at hlk
   exact C.apart r i y _ hri hy hr ho hox b' hb' hb
  exact⟨K4 hne,(C.notM hy ho hb').1⟩
 ·rintro r y hy (h|h)
  ·simp at h;omega
  ·have er:=hat r h
   subst er
   unfold Ki at hy
   rw[if_neg (by simp)] at hy
   simp only[look,↓reduceIte] at hy
   cases hy
   exact⟨hnew, .inl hi.1,fun id hid=> .inl (hids id hid)⟩
 ·rintro r r' x1 x2 hne hx1 hx2 o1 o2 (h|h) b' hb1 hb2
  ·simp at h;omega
  ·have er:=hat r h
   subst er
   unfold Ki at hx2
   rw[if_neg (by simp)] at hx2
   simp only[look,hne,↓reduceIte] at hx2
   exact C.apart i r' _ x2 hne hr hx2 hox o2 b' hb1 hb2
theorem Jdt [Dr] (C:Jl P N B w0 al τ σ a w ρ M R) {o:Oper} (hd:∀t,o.dst=some t→t<N) {T:TypeId} (ho:o.op= .makeMap T none) (hfresh:∀id,al id→¬(n≤id∧id<n+1)):
  Kp P N B w0 al τ σ a w R n o ⟨[], .one (.sl n),[.map []],[]⟩:=by
 intro K Q hK
 have hn:¬al n:=fun h=>hfresh n h ⟨Nat.le_refl _,by omega⟩
 obtain⟨ρ',hC⟩:=C.allocRes (n:=n) (d:=o.dst) (x:= .map []) (v:= .sl n) (u:= .map (some w.heap.size)) hd hn (.map #[] 0) rfl rfl (fun ρ' h=>h) (fun id h=>by simpa[SC.ids] using h) (fun id h=>by simp[Res.ids] at h) (fun ρ' h5 _=>
  ⟨w.heap.size,#[],h5,heap_alloc_new w _,rfl,fun h=>Nat.lt_irrefl _ (C.old w.heap.size (.inl h)),fun h=>Nat.lt_irrefl _ (C.old w.heap.size (.inr h)),C.base⟩)
 refine Jg ?_ (hK _ _ ρ' M hC)
 simp[execOp,ho,Instr.makeMap]
theorem Jes [Dr] (C:Jl P N B w0 al τ σ a w ρ M R) {o:Oper} (hd:∀t,o.dst=some t→t<N) {T kT vT:TypeId} {m k x:Operand} {i:Nat} {ks:List Int} {key:Int} (ho:o.op= .mapUpdate T m k x)
  (hT:P.underlying T=some (.map kT vT)) (hk:P.underlying kT=some (.int .i64)) (hm:a.eval m=ρ i) (hkey:a.eval k= .int .i64 key) (hx:a.eval x= .bool true) (hr:σ i=some (.map ks)):
  Kp P N B w0 al τ σ a w R n o ⟨[],Ju,[],[(i,some (.map (D1 ks key)))]⟩:=by
 obtain⟨b,es,h1,h2,h3,h4,h5,h6⟩:=C.res i _ hr
 have hb:blk (ρ i)=some b:=by rw[h1];rfl
 have hlt:=(Array.getElem?_eq_some_iff.1 h2).1
 have hck:(Instr.checkKey false (9999+1) kT (.int .i64 key)).run P w= .ok () w:=by
  rw[Instr.checkKey]
  simp[run_underlying hk]
 have hfk:(Instr.findKey kT (.int .i64 key) es.toList).run P w=(match Instr.findNow (.int .i64) (.int .i64 key) (V0 ks 0) 0 with|some r=> .ok r w|none=>(Instr.findAsking kT (.int .i64 key) es.toList).run P w):=by
  rw[h3]
  simp only[Instr.findKey,Sem.run_bind,run_underlying hk,Result.andThen_ok]
  cases Instr.findNow (.int .i64) (.int .i64 key) (V0 ks 0) 0<;>rfl
 intro K Q hK
 rcases H6 key ks 0 0 with⟨f1,f2⟩|⟨p,f1,f2,f3⟩
 ·rw[f1] at hfk
  have hins:D1 ks key=ks++[key]:=by unfold D1;rw[f2];rfl
  have hC:=C.putObj (n:=n) (d:=o.dst) hd (x':= .map (D1 ks key)) hr rfl hb (.map (es.push {key:= .int .i64 key,val:= .bool true,born:=ks.length}) (ks.length+1)) ⟨b,es.push {key:= .int .i64 key,val:= .bool true,born:=ks.length},h1,by rw[Ui hlt,hins,List.length_append];rfl,by rw[hins,Jcg,Array.toList_push,h3,Nat.zero_add],h4,h5,h6⟩ (fun id h=>by simp[Res.ids] at h) (v:=Ju) (u:=undef) rfl (fun id hid=>by simp[Ju,SV.ids,J1,SC.ids] at hid)
  refine Uw ?_ (hK undef _ ρ M hC)
  have:(Instr.mapUpdate T (.map (some b)) (.int .i64 key) (.bool true)).run P w= .ok () (J3 w b (.map (es.push {key:= .int .i64 key,val:= .bool true,born:=ks.length}) (ks.length+1))):=by
   simp only[Instr.mapUpdate,Sem.run_bind,run_underlying hT,Result.andThen_ok,J4 h2 rfl,hck,hfk]
   exact Ue h2 rfl
  simp[execOp,ho,hm,hkey,hx,h1,this]
 ·rw [f1] at hfk
  have hins:D1 ks key=ks:=by unfold D1;rw[f2];rfl
  have he:es[0+p]? =some {key:= .int .i64 key,val:= .bool true,born:=p}:=by
   rw[←Array.getElem?_toList,h3,Jak]
   simp[f3]
  have hlt2:0+p<es.size:=(Array.getElem?_eq_some_iff.1 he).1
  have hmod:(es.modify (0+p) fun e=>{e with key:= .int .i64 key,val:= .bool true})=es:=by
   apply Array.ext
   ·simp
   ·intro j j1 j2
    rw[Array.getElem_modify]
    split
    ·rename_i e
     subst e
     have:=(Array.getElem?_eq_some_iff.1 he).2
     rw[this]
    ·rfl
  have hC:=C.putObj (n:=n) (d:=o.dst) hd (x':= .map (D1 ks key)) hr rfl hb (.map es ks.length) ⟨b,es,h1,by rw[Ui hlt,hins],by rw[hins,h3],h4,h5,h6⟩ (fun id h=>by simp[Res.ids] at h) (v:=Ju) (u:=undef) rfl (fun id hid=>by simp[Ju,SV.ids,J1,SC.ids] at hid)
  refine Uw ?_ (hK undef _ ρ M hC)
  have:(Instr.mapUpdate T (.map (some b)) (.int .i64 key) (.bool true)).run P w= .ok () (J3 w b (.map es ks.length)):=by
   have hst:(Instr.keyThatStays (.int .i64 key) (.int .i64 key)).run P w= .ok (.int .i64 key) w:=by
    have:Instr.sameBits (9999+1) (.int .i64 key) (.int .i64 key)=true:=by simp[Instr.sameBits]
    have this:Instr.sameBits 10000 (.int .i64 key) (.int .i64 key)=true:=this
    simp[Instr.keyThatStays,this]
   simp only[Instr.mapUpdate,Sem.run_bind,run_underlying hT,Result.andThen_ok,J4 h2 rfl,hck,hfk,he,Option.map_some,Option.getD_some,hst,hmod]
   exact Ue h2 rfl
  simp[execOp,ho,hm,hkey,hx,h1,this]
theorem Jfg [Dr] (C:Jl P N B w0 al τ σ a w ρ M R) {o:Oper} (hd:∀t,o.dst=some t→t<N) {T:TypeId} {x:Operand} {s:ByteArray} (ho:o.op= .range T x)
  (hT:P.underlying T=some .string) (hx:a.eval x= .string s) (hfresh:∀id,al id→¬(n≤id∧id<n+1)):
  Kp P N B w0 al τ σ a w R n o ⟨[], .one (.sl n),[.siter s 0],[]⟩:=by
 intro K Q hK
 have hn:¬al n:=fun h=>hfresh n h ⟨Nat.le_refl _,by omega⟩
 obtain⟨ρ',hC⟩:=C.allocRes (n:=n) (d:=o.dst) (x:= .siter s 0) (v:= .sl n) (u:= .pointer (some ⟨w.heap.size,0,none⟩)) hd hn (.stringIter s 0) rfl rfl (fun ρ' h=>h) (fun id h=>by simpa[SC.ids] using h) (fun id h=>by simp[Res.ids] at h) (fun ρ' h5 h7=>
  ⟨w.heap.size,h5,heap_alloc_new w _,fun h=>Nat.lt_irrefl _ (C.old w.heap.size (.inl h)),fun h=>Nat.lt_irrefl _ (C.old w.heap.size (.inr h)),C.base⟩)
 refine Jg ?_ (hK _ _ ρ' M hC)
 simp[execOp,ho,hx,Instr.range,run_underlying hT]
theorem Jg8 [Dr] (C:Jl P N B w0 al τ σ a w ρ M R) {o:Oper} (hd:∀t,o.dst=some t→t<N) {T kT vT:TypeId} {x:Operand} {i:Nat} {ks:List Int} (ho:o.op= .range T x)
  (hT:P.underlying T=some (.map kT vT)) (hx:a.eval x=ρ i) (hr:σ i=some (.map ks)) (hfresh:∀id,al id→¬(n≤id∧id<n+1)):
  Kp P N B w0 al τ σ a w R n o ⟨[], .one (.sl n),[.iter i ks []],[]⟩:=by
 obtain⟨b,es,h1,h2,h3,h4,h5,h6⟩:=C.res i _ hr
 have hi:=(C.resIds i _ hr).1
 intro K Q hK
 have hn:¬al n:=fun h=>hfresh n h ⟨Nat.le_refl _,by omega⟩
 obtain⟨ρ',hC⟩:=C.allocRes (n:=n) (d:=o.dst) (x:= .iter i ks []) (v:= .sl n) (u:= .pointer (some ⟨w.heap.size,0,none⟩)) hd hn (.mapIter (some b) ks.length #[] ks.length) rfl rfl (fun ρ' h=>h) (fun id h=>by simpa[SC.ids] using h) (fun id h=>by
  have:id=i:=by simpa[Res.ids] using h
  subst this;exact hi) (fun ρ' h5 h7=>
  ⟨w.heap.size,b,h5,(h7 i hi).trans h1,heap_alloc_new w _,fun h=>Nat.lt_irrefl _ (C.old w.heap.size (.inl h)),fun h=>Nat.lt_irrefl _ (C.old w.heap.size (.inr h)),C.base⟩)
 refine Jg ?_ (hK _ _ ρ' M hC)
 simp[execOp,ho,hx,h1,Instr.range,run_underlying hT,J4 h2 rfl]
theorem Jhs [Dr] (C:Jl P N B w0 al τ σ a w ρ M R) {o:Oper} (hd:∀t,o.dst=some t→t<N) {x:Operand} {i j:Nat} {ks:List Int} {seen:List Nat} (ho:o.op= .entry x) (hx:a.eval x=ρ i)
  (hr:σ i=some (.iter j ks seen)) (hj:σ j=some (.map ks)) (hne:seen≠[]) (hlt:seen.getLastD 0<ks.length) (pre:List Prop):
  Kp P N B w0 al τ σ a w R n o ⟨pre, .tup [(false,[.int .i64 (ks.getD (seen.getLastD 0) 0)]),(false,[.bool true])],[],[]⟩:=by
 obtain⟨b,m,h1,h2,h3,_⟩:=C.res i _ hr
 obtain⟨b',es,g1,g2,g3,_⟩:=C.res j _ hj
 rw[h2] at g1;cases g1
 refine Jd C hd rfl rfl ?_ (fun id hid=>by simp[SV.ids,J1,SC.ids] at hid)
 have hback:seen.toArray.back? =some (seen.getLastD 0):=by
  rw[List.back?_toArray]
  cases seen with
  |nil=>exact absurd rfl hne
  |cons c r=>rw[List.getLast?_cons,List.getLastD_cons,List.getLastD_eq_getLast?]
 have hfind:es.find? (fun e=>e.born==seen.getLastD 0)=some {key:= .int .i64 (ks.getD (seen.getLastD 0) 0),val:= .bool true,born:=seen.getLastD 0}:=by
  rw[←Array.find?_toList,g3]
  have key:∀(l:List Int) (b p:Nat),p<l.length→(V0 l b).find? (fun e=>e.born==b+p)=some {key:= .int .i64 (l.getD p 0),val:= .bool true,born:=b+p}:=by
   intro l
   induction l with
   |nil=>intro b p h;simp at h
   | cons c r ih =>
    intro b p h
    cases p with
    |zero=>simp[V0]
    |succ p=>
     have:=ih (b+1) p (by simpa using h)
     rw[show b+1+p=b+(p+1) by omega] at this
     simp only[V0]
     rw[List.find?_cons_of_neg (by simp;try omega),this]
     simp
  have:=key ks 0 _ hlt
  simpa using this
 simp only[execOp,ho,hx,h1]
 refine J2 ?_
 simp only[Instr.entry,Sem.run_bind,J4 h3 rfl,Result.andThen_ok,hback,J4 g2 rfl,bne_self_eq_false,Bool.false_eq_true,if_false,Sem.run_pure]
 rw[hfind]
 rfl
theorem Vo {M M':Nat→Prop} {w w':World}:∀{s:Sch} {x:s.T} {cs:List Value},s.hasList=false→Rep M w s x cs→Rep M' w' s x cs
 | .int _,_,_,_,h=>h
 | .bool,_,_,_,h=>h
 | .str,_,_,_,h=>h
 | .flt _,_,_,_,h=>h
 | .fnc,_,_,_,h=>h
 | .prod a b,_,_,hl,⟨c1,c2,e,h1,h2⟩=>by
  simp only[Sch.hasList,Bool.or_eq_false_iff] at hl
  exact⟨c1,c2,e,Vo hl.1 h1,Vo hl.2 h2⟩
 | .list _ _,_,_,hl,_=>by cases hl
theorem F0 [Dr] (C:Jl P N B w0 al τ σ a w ρ M R) {d:Option Tmp} (hd:∀t,d=some t→t<N) {z:Srt} {i:Nat} {xs:List z.s.T} (hr:σ i=some (.own z.T z.s xs)) (hno:z.s.hasList=false) {flat:List Value} (f2:w.ownsRow B z.T z.s.size (ρ i) xs.length flat) (f3:∀g,(ρ i).ownBlock=some g→¬M g∧¬R g)
  {ys:List z.s.T} (hl:ys.length=xs.length) {w':World} {flat':List Value} (g1:Kz (Rep (fun _=>False) w' z.s) ys flat') (g2:w'.ownsRow B z.T z.s.size (ρ i) xs.length flat') (g3:w.grownBy w' (ρ i).ownBlock) (g4:w.drawn≤w'.drawn):
  Jl P N B w0 (Ve al n []) (Vd τ d (.tup [])) (Ki σ n [] [(i,some (.own z.T z.s ys))]) (a.put d (.tuple #[])) w' ρ M R:=by
 have hi:=C.resIds i _ hr
 have hMs:∀b,M b∨R b→w'.heap[b]? =w.heap[b]? :=fun b hb=>g3.block b (C.old b hb) fun h=>by
  have:=f3 b h.symm
  rcases hb with hb|hb
  ·exact this.1 hb
  ·exact this.2 hb
 have hat:∀r,look ([(i,some (Res.own z.T z.s (ys)))]:List (Nat×Option Res)) r≠none→i=r:=fun r h=>by
  by_cases e:i=r
  ·exact e
  ·simp[look,e] at h
 refine C.step hd (fun id _ h=>by simp at h;omega) (fun _ _=>rfl) rfl (fun id hid=>by simp[SV.ids] at hid) ((Below.refl B w).grown g3 g4 C.base fun k hk=>(f2.lt k hk).1) g3.size (fun _ h=>h)
  (fun b h=>Nat.lt_of_lt_of_le (C.old b (.inl h)) g3.size) hMs ?_ ?_ (fun id h=>by simp at h;omega) ?_
 ·intro r y _ hlk hy ho b' hb'
  obtain⟨q1,_,_,q2⟩:=C.notM hy ho hb'
  refine⟨g3.block b' q2 fun h=> ?_,q1⟩
  have hri:r≠i:=by rintro rfl;simp[look] at hlk
  exact C.apart r i y _ hri hy hr ho rfl b' hb' (Jk h.symm)
 ·rintro r y hy (h|h)
  ·simp at h;omega
  ·have er:=hat r h
   subst er
   unfold Ki at hy
   rw[if_neg (by simp)] at hy
   simp only[look,↓reduceIte] at hy
   cases hy
   exact⟨⟨flat',g1.imp fun _ _ h=>Vo hno h,by rw[hl];exact g2,f3⟩, .inl hi.1,fun id hid=>by simp[Res.ids] at hid⟩
 ·rintro r r' x1 x2 hne hx1 hx2 o1 o2 (h|h) b' hb1 hb2
  ·simp at h;omega
  ·have er:=hat r h
   subst er
   unfold Ki at hx2
   rw[if_neg (by simp)] at hx2
   simp only[look,hne,↓reduceIte] at hx2
   exact C.apart i r' _ x2 hne hr hx2 rfl o2 b' hb1 hb2
theorem Jke [Dr] {Γ:Gam} (hΓ:Ut P Γ) (C:Jl P N B w0 al τ σ a w ρ M R) {o:Oper} (hd:∀t,o.dst=some t→t<N) {f:FuncId} {c:Con} (hf:Γ.get f=some c) {z:Srt} (hz:c.srt=some z) {i:Nat} {xs:List z.s.T} (hr:σ i=some (.own z.T z.s xs)) (hpre:z.pre xs) (hno:z.s.hasList=false) (hrel:z.rel=none)
  (hrun:Enters P f→(execOp a.eval o).run P w= .ok (.enter f #[ρ i, .func (.func z.g) #[] #[]]) w):
  Kp P N B w0 al τ σ a w R n o ⟨[z.pre xs], .tup [],[],[(i,some (.own z.T z.s (z.f xs)))]⟩:=by
 obtain⟨hE,hS,_,_⟩:=hΓ f c hf
 obtain⟨flat,f1,f2,f3⟩:=C.res i _ hr
 have hc:=hS z hz w B (ρ i) xs flat C.base (fun w' h=>C.good w' (C.below.trans h)) (f1.imp fun _ _ h=>Vo hno h) f2 hpre
 intro K Q hK
 refine Ux (hrun hE) hc fun e w' hp=> ?_
 obtain⟨rfl,ys,hy,hl,flat',g1,g2,g3,g4⟩:=hp
 rw[hrel] at hy
 subst hy
 exact⟨_,rfl,hK _ w' ρ M (F0 C hd hr hno f2 f3 hl g1 g2 g3 g4)⟩
end
end Go.Sx

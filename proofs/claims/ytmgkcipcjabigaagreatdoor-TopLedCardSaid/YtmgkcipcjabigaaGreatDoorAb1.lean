/-
  An abstract evaluator over elaborated Go code: values are pure trees, the heap is a stack of frames of labelled entries. Definitions alone.
-/
import Derived.RangeFuncIn
import Derived.RangeFuncLeaves
set_option linter.unusedSimpArgs false
set_option linter.unusedVariables false
namespace Go.Ab
inductive Cap where
 |no
 |full
 |own (d l:Nat)
 deriving DecidableEq
inductive V where
 |undef
 |skip
 |int (k:IntKind) (n:Int)
 |bool (b:Bool)
 |agg (cs:List V)
 |tup (vs:List V)
 |nilp
 |ptr (d l off:Nat)
 |ep (cs:List V)
 |sl (c:Cap) (sz:Nat) (es:List (List V))
 |fn (f:FuncId) (first cap:List V)
 |nilf
 |yld (d l:Nat)
 |asl (d l sz n off len:Nat)
 |eptr (d l n i j:Nat)
 |anyb
 |csl (p:V) (n:Nat)
 |mp (p:V)
 deriving Inhabited
abbrev i64(n:Int):V:= .int .i64 n
def V.cells:V→List V
 | .agg cs=>cs
 |v=>[v]
abbrev Env:=List (Nat×V)
def Env.get:Env→Nat→V
 |[],_=> .undef
 |(k,v)::r,t=>if t=k then v else Env.get r t
inductive Ex where
 |normal
 |exit (id:Nat)
 |ret
 deriving DecidableEq,Inhabited
inductive Opd where
 |t (n:Nat)
 |c (v:V)
 deriving Inhabited
def Opd.ev(e:Env):Opd→V
 | .t n=>e.get n
 | .c v=>v
inductive AOp where
 |mv (x:Opd)
 |pick (c a b:Opd)
 |box (x:Opd)
 |alloc (z:List V)
 |build (z:List V) (ps:List (Nat×Nat×Opd))
 |lit (z:List V) (n:Nat) (ps:List (Nat×Opd))
 |load (n:Option Nat) (a:Opd)
 |store (n:Nat) (a v:Opd)
 |nilck (x:Opd)
 |bin (op:BinOp) (x y:Opd)
 |un (op:UnOp) (x:Opd)
 |conv (k:IntKind) (x:Opd)
 |mkfn (f:FuncId) (first cap:List Opd)
 |slice (esz:Nat) (x:Opd) (lo hi mx:Option Opd)
 |faddr (off:Nat) (x:Opd)
 |field (n:Option Nat) (off:Nat) (x:Opd)
 |idxs (esz:Nat) (x i:Opd)
 |idxa (len esz:Nat) (x i:Opd)
 |idxv (len esz:Nat) (n:Option Nat) (x i:Opd)
 |ext (x:Opd) (i:Nat)
 |len (x:Opd)
 |app (esz bytes:Nat) (x y:Opd)
 |eqa (ks:List Bool) (neg:Bool) (x y:Opd)
 |eqb (neg:Bool) (x y:Opd)
 |mm (mx:Bool) (x y:Opd)
 |mm3 (mx:Bool) (x y z:Opd)
 |call (f:FuncId) (args:List Opd)
 |callv (x:Opd) (args:List Opd)
 |mksl (z:List V) (bytes:Nat) (l c:Opd)
 |appm (esz bytes:Nat) (x y:Opd)
 |isnil (neg:Bool) (x:Opd)
 |clear (z:List V) (x:Opd)
 |slarr (n:Nat) (x:Opd) (hi:Option Opd)
 |strix (bs:List Nat) (i:Opd)
 |mkslD (z:List V) (bytes:Nat) (l c:Opd)
 |litm (z:List V) (n:Nat) (ps:List (Nat×Opd))
 |mkmap (t:Option Nat)
 |mget (t:Option Nat) (ok:Bool) (m k:Opd)
 |mput (t:Option Nat) (m k v:Opd)
 |ment (t:Option Nat) (m k:Opd)
 |mest (m i v:Opd)
 |mkmq
 |mqget (ok:Bool) (m k:Opd)
 |mqput (m k v:Opd)
 |fail
 deriving Inhabited
def AOp.mut:AOp→AOp
 | .app e b x y=> .appm e b x y
 | .mksl z b l c=> .mkslD z b l c
 | .lit z n ps=> .litm z n ps
 |o=>o
inductive CallOf where
 |static (f:FuncId) (args:List Opd)
 |dyn (x:Opd) (args:List Opd)
 |other
def AOp.callOf:AOp→CallOf
 | .call f args=> .static f args
 | .callv x args=> .dyn x args
 |_=> .other
structure AOper where
 dst:Option Nat
 op:AOp
 guard:Option (Nat×Bool)
 pre:List Nat:=[]
 hide:List Nat:=[]
 deriving Inhabited
inductive AC where
 |skip
 |region (draw:Bool) (ops:List AOper) (live:List Nat)
 |seq (a b:AC)
 |cond (c:Opd) (a b:AC)
 |block (id:Nat) (b:AC)
 |loop (live keep:List Nat) (b:AC)
 |scope (b:AC)
 |label
 |exit (id:Nat)
 |ret
 |rng (site:Nat) (ps:List Nat) (assign body:AC) (f:Opd)
 |thaw (t l sz:Nat)
 |thawc (t off l sz:Nat)
 |freeze (ls:List Nat)
 |only (b:AC)
 deriving Inhabited
inductive Entry where
 |cell (cs:List V)
 |tok (n:Nat)
 |arr (sz:Nat) (es:List (List V))
 |harr (lo sz:Nat) (es:List (List V))
 |mp (t:Option Nat) (kvs:List (List Int×Int))
 |mq (kvs:List (Int×Int×Int))
 |loop (ps:List Nat) (assign body:AC) (env:Env) (st:LoopState) (pend:Option Ex)
 deriving Inhabited
abbrev Loc:=List (Nat×Entry)
abbrev Stk:=List Loc
def Loc.get:Loc→Nat→Option Entry
 |[],_=>none
 |(k,x)::r,l=>if l=k then some x else Loc.get r l
def Loc.put:Loc→Nat→Entry→Loc
 |[],l,x=>[(l,x)]
 |(k,y)::r,l,x=>if l=k then(k,x)::r else(k,y)::Loc.put r l x
def sget:Stk→Nat→Nat→Option Entry
 |[],_,_=>none
 |loc::r,d,l=>if d=r.length then Loc.get loc l else sget r d l
def sput:Stk→Nat→Nat→Entry→Stk
 |[],_,_,_=>[]
 |loc::r,d,l,x=>if d=r.length then Loc.put loc l x::r else loc::sput r d l x
def dep(s:Stk):Nat:=s.length-1
inductive ARes where
 |t (n:Nat)
 |cell (n:Nat) (k:Option Nat)
 deriving Inhabited
structure AFn where
 np:Nat
 res:List ARes
 body:AC
 own:Bool:=false
 deriving Inhabited
inductive AEnt where
 |code (f:AFn)
 |prim (p:List V→Nat→Stk→Option (V×Stk))
structure Tab where
 fns:FuncId→Option AEnt
def Cap.drop(d:Nat)(keep:List Nat):Cap→Cap
 | .own d' l=>if d'=d∧l∉keep then .no else .own d' l
 | .full=> .full
 | .no=> .no
def Cap.down(d:Nat):Cap→Cap
 | .own d' l=>if d<d' then .no else .own d' l
 | .full=> .full
 | .no=> .no
mutual
def V.pure:V→Bool
 | .undef=>true
 | .skip=>true
 | .int _ _=>true
 | .bool _=>true
 | .agg cs=>V.pureAll cs
 | .tup vs=>V.pureAll vs
 | .nilp=>true
 | .ptr _ _ _=>false
 | .ep _=>false
 | .sl c _ _=>c== .no
 | .fn _ first cap=>V.pureAll first&&V.pureAll cap
 | .nilf=>true
 | .yld _ _=>false
 | .asl _ _ _ _ _ _=>false
 | .eptr _ _ _ _ _=>false
 | .anyb=>true
 | .csl _ _=>false
 | .mp p=>p.pure
def V.pureAll:List V→Bool
 |[]=>true
 |v::r=>v.pure&&V.pureAll r
end
def V.one:V→Bool
 | .undef=>false
 | .skip=>false
 | .agg _=>false
 | .tup _=>false
 |_=>true
def V.elemAll:List V→Bool
 |[]=>true
 |v::r=>v.pure&&v.one&&V.elemAll r
def V.isDef:V→Bool
 | .undef=>false
 | .skip=>false
 |_=>true
def V.oneAll:List V→Bool
 |[]=>true
 |v::r=>v.one&&V.oneAll r
mutual
def V.strip:V→V
 | .agg cs=> .agg (V.stripAll cs)
 | .tup vs=> .tup (V.stripAll vs)
 | .sl _ z es=> .sl .no z es
 | .fn f first cap=> .fn f (V.stripAll first) (V.stripAll cap)
 | .undef=> .undef
 | .skip=> .skip
 | .int k n=> .int k n
 | .bool b=> .bool b
 | .nilp=> .nilp
 | .ptr d l o=> .ptr d l o
 | .ep cs=> .ep cs
 | .nilf=> .nilf
 | .yld d l=> .yld d l
 | .asl d l z n o k=> .asl d l z n o k
 | .eptr d l n i j=> .eptr d l n i j
 | .anyb=> .anyb
 | .csl p n=> .csl p.strip n
 | .mp p=> .mp p.strip
def V.stripAll:List V→List V
 |[]=>[]
 |v::r=>v.strip::V.stripAll r
end
structure Ren where
 p:Nat→Nat→Nat→V
 c:Cap→Cap
 y:Nat→Nat→V
 a:Nat→Nat→Nat→Nat→Nat→Nat→V
 e:Nat→Nat→Nat→Nat→Nat→V
mutual
def V.map(r:Ren):V→V
 | .agg cs=> .agg (V.mapAll r cs)
 | .tup vs=> .tup (V.mapAll r vs)
 | .sl c z es=> .sl (r.c c) z es
 | .fn f first cap=> .fn f (V.mapAll r first) (V.mapAll r cap)
 | .ptr d l o=>r.p d l o
 | .undef=> .undef
 | .skip=> .skip
 | .int k n=> .int k n
 | .bool b=> .bool b
 | .nilp=> .nilp
 | .ep cs=> .ep cs
 | .nilf=> .nilf
 | .yld d l=>r.y d l
 | .asl d l z n o k=>r.a d l z n o k
 | .eptr d l n i j=>r.e d l n i j
 | .anyb=> .anyb
 | .csl p n=> .csl (p.map r) n
 | .mp p=> .mp (p.map r)
def V.mapAll(r:Ren):List V→List V
 |[]=>[]
 |v::t=>v.map r::V.mapAll r t
end
def Env.ren(r:Ren)(e:Env):Env:=e.map fun x=>(x.1,x.2.map r)
def Entry.map(r:Ren):Entry→Entry
 | .cell cs=> .cell (V.mapAll r cs)
 | .tok n=> .tok n
 | .arr z es=> .arr z (es.map (V.mapAll r))
 | .harr lo z es=> .harr lo z es
 | .mp t kvs=> .mp t kvs
 | .mq kvs=> .mq kvs
 | .loop ps a b env o p=> .loop ps a b (Env.ren r env) o p
def Loc.ren(r:Ren)(loc:Loc):Loc:=loc.map fun x=>(x.1,x.2.map r)
def dropR(d:Nat)(keep:List Nat):Ren where
 p:=fun d' l o=>if d'=d∧l∉keep then .undef else .ptr d' l o
 c:=Cap.drop d keep
 y:=fun d' l=>if d'=d∧l∉keep then .undef else .yld d' l
 a:=fun d' l z n o k=>if d'=d∧l∉keep then .undef else .asl d' l z n o k
 e:=fun d' l n i j=>if d'=d∧l∉keep then .undef else .eptr d' l n i j
def Loc.gc(d:Nat)(keep:List Nat)(loc:Loc):Loc:=Loc.ren (dropR d keep) (loc.filter fun x=>keep.contains x.1)
def Env.only(live:List Nat)(e:Env):Env:=live.map fun t=>(t,e.get t)
def gcEnv(live keep:List Nat)(e:Env)(s:Stk):Env:=Env.ren (dropR (dep s) keep) (e.only live)
def gcStk(keep:List Nat):Stk→Stk
 |[]=>[]
 |loc::r=>loc.gc r.length keep::r
mutual
def V.down(d:Nat):V→Option V
 | .agg cs=>(V.downAll d cs).map .agg
 | .tup vs=>(V.downAll d vs).map .tup
 | .sl c z es=>some (.sl (c.down d) z es)
 | .fn f first cap=>match V.downAll d first,V.downAll d cap with
   |some a,some b=>some (.fn f a b)
   |_,_=>none
 | .ptr d' l o=>if d<d' then none else some (.ptr d' l o)
 | .undef=>some .undef
 | .skip=>some .skip
 | .int k n=>some (.int k n)
 | .bool b=>some (.bool b)
 | .nilp=>some .nilp
 | .ep _=>none
 | .nilf=>some .nilf
 | .yld d' l=>if d<d' then none else some (.yld d' l)
 | .asl d' l z n o k=>if d<d' then none else some (.asl d' l z n o k)
 | .eptr d' l n i j=>if d<d' then none else some (.eptr d' l n i j)
 | .anyb=>some .anyb
 | .csl p n=>(p.down d).map fun q=> .csl q n
 | .mp p=>(p.down d).map .mp
def V.downAll(d:Nat):List V→Option (List V)
 |[]=>some []
 |v::r=>match v.down d,V.downAll d r with
   |some a,some b=>some (a::b)
   |_,_=>none
end
def frzR(d l sz:Nat)(es:List (List V)):Ren where
 p:= .ptr
 c:=id
 y:= .yld
 a:=fun d' l' z n o k=>if d'=d∧l'=l then(if z=sz∧n=es.length∧o+k≤es.length then .sl (if o=0∧k=es.length then .own d l else .no) sz ((es.drop o).take k)else .undef)else .asl d' l' z n o k
 e:=fun d' l' n i j=>if d'=d∧l'=l then .undef else .eptr d' l' n i j
def elemsOk(es:List (List V))(sz:Nat):Bool:=es.all fun cs=>V.elemAll cs&&cs.length==sz
def grows(l:Nat)(e:Env)(s:Stk):Env×Stk:=
 match s with
 |[]=>(e,s)
 |loc::r=>match loc.get l with
   |some (.arr sz es)=>if elemsOk (es.map V.stripAll) sz=true∧es≠[]then(e,Loc.put loc l (.harr es.length sz (es.map V.stripAll))::r)else(e,s)
   |_=>(e,s)
def dropT(l:Nat)(e:Env)(s:Stk):Env×Stk:=(Env.ren (dropR (dep s) (((s.headD []).map (·.1)).filter (· !=l))) e,gcStk (((s.headD []).map (·.1)).filter (· !=l)) s)
def frz1(l:Nat)(e:Env)(s:Stk):Env×Stk:=
 if 2000000≤l then dropT (l-2000000) e s else
 if 1000000≤l then grows (l-1000000) e s else
 match s with
 |[]=>(e,s)
 |loc::r=>match loc.get l with
   |some (.arr sz es)=>
     let xs:=es.map V.stripAll
     if elemsOk xs sz then(Env.ren (frzR r.length l sz xs) e,Loc.put (Loc.ren (frzR r.length l sz xs) loc) l (.tok es.length)::r)else(e,s)
   |_=>(e,s)
def frzAll:List Nat→Env→Stk→Env×Stk
 |[],e,s=>(e,s)
 |l::r,e,s=>let (e,s):=frz1 l e s;frzAll r e s
def Cap.refs(d:Nat):Cap→List Nat
 | .own d' l=>if d'=d then [l]else []
 |_=>[]
mutual
def V.refs(own:Bool)(d:Nat):V→List Nat
 | .agg cs=>V.refsAll own d cs
 | .tup vs=>V.refsAll own d vs
 | .fn _ first cap=>V.refsAll own d first ++V.refsAll own d cap
 | .ptr d' l _=>if d'=d then [l]else []
 | .sl c _ _=>if own then c.refs d else []
 | .undef=>[]
 | .skip=>[]
 | .int _ _=>[]
 | .bool _=>[]
 | .nilp=>[]
 | .ep _=>[]
 | .nilf=>[]
 | .yld _ _=>[]
 | .asl d' l _ _ _ _=>if own&&d'=d then [l]else []
 | .eptr _ _ _ _ _=>[]
 | .anyb=>[]
 | .csl p _=>p.refs own d
 | .mp p=>p.refs own d
def V.refsAll(own:Bool)(d:Nat):List V→List Nat
 |[]=>[]
 |v::r=>v.refs own d ++V.refsAll own d r
end
def idxOf(l:Nat):List Nat→Nat
 |[]=>0
 |k::r=>if l=k then 0 else idxOf l r+1
def newLab(lab l:Nat)(ls:List Nat):Nat:=lab+1000*idxOf l ls
def Cap.ren(own:Bool)(d:Nat)(ls:List Nat)(d' lab:Nat):Cap→Cap
 | .own a l=>if a=d then(if own&&ls.contains l then .own d' (newLab lab l ls)else .no)else .own a l
 |c=>c
def renR(own:Bool)(d:Nat)(loc:Loc)(ls:List Nat)(d' lab:Nat):Ren where
 p:=fun a l o=>if a=d then(if ls.contains l then .ptr d' (newLab lab l ls) o else .undef)else .ptr a l o
 c:=fun c=>if own then c.ren own d ls d' lab else .no
 y:=fun a l=>if a=d then .undef else .yld a l
 a:=fun a l z n o k=>if a=d then
  (if own then(if ls.contains l then .asl d' (newLab lab l ls) z n o k else .undef)
   else match loc.get l with
    |some (.arr sz es)=>if z=sz∧n=es.length∧o+k≤es.length∧elemsOk (es.map V.stripAll) sz=true then .sl .no sz (((es.map V.stripAll).drop o).take k)else .undef
    |_=> .undef)
  else .asl a l z n o k
 e:=fun a l n i j=>if a=d then .undef else .eptr a l n i j
def dedup:List Nat→List Nat
 |[]=>[]
 |l::r=>let r':=dedup r;if l∈r' then r' else l::r'
def Entry.refs(own:Bool)(d:Nat):Entry→List Nat
 | .cell cs=>V.refsAll own d cs
 | .arr _ es=>es.flatMap (V.refsAll own d)
 |_=>[]
def escapes(own:Bool)(d:Nat)(loc:Loc)(r:V):List Nat:=
 let more:=fun ls:List Nat=>dedup (ls ++ls.flatMap fun l=>match loc.get l with
  |some x=>x.refs own d
  |_=>[])
 match r.refs own d with
 |[]=>[]
 |l1=>more (more l1)
def Entry.goes(own:Bool):Entry→Bool
 | .cell _=>true
 | .arr _ _=>own
 | .harr _ _ _=>false
 | .mp _ _=>true
 | .mq _=>true
 | .tok _=>own
 | .loop _ _ _ _ _ _=>false
def adoptAll(own:Bool)(d:Nat)(ls:List Nat)(loc:Loc)(lab:Nat):List Nat→Stk→Option Stk
 |[],s=>some s
 |l::r,s=>match loc.get l with
   |some x=>if x.goes own&&(sget s (dep s) (newLab lab l ls)).isNone then adoptAll own d ls loc lab r (sput s (dep s) (newLab lab l ls) (x.map (renR own d loc ls (dep s) lab)))else none
   |_=>none
def adopt(own:Bool)(loc:Loc)(r:V)(lab:Nat)(s:Stk):Option (V×Stk):=
 match escapes own s.length loc r with
 |[]=>some (r.map (renR own s.length loc [] (dep s) lab),s)
 |ls=>if s.isEmpty then none else(adoptAll own s.length ls loc lab ls s).map fun s'=>(r.map (renR own s.length loc ls (dep s) lab),s')
def bin(op:BinOp):V→V→Option V
 | .int k a, .int k' b=>
   match op with
   | .shl=>if b<0 then none else some (.int k (k.wrap (a*2^min b.toNat k.bits)))
   | .shr=>if b<0 then none else some (.int k (a.fdiv (2^min b.toNat k.bits)))
   |op=>if k≠k' then none else match op with
     | .add=>some (.int k (k.wrap (a+b)))
     | .sub=>some (.int k (k.wrap (a-b)))
     | .mul=>some (.int k (k.wrap (a*b)))
     | .quo=>if b=0 then none else some (.int k (k.wrap (a.tdiv b)))
     | .rem=>if b=0 then none else some (.int k (a.tmod b))
     | .and=>some (.int k (k.wrap (BitVec.ofInt k.bits a&&&BitVec.ofInt k.bits b).toNat))
     | .or=>some (.int k (k.wrap (BitVec.ofInt k.bits a|||BitVec.ofInt k.bits b).toNat))
     | .xor=>some (.int k (k.wrap (BitVec.ofInt k.bits a^^^BitVec.ofInt k.bits b).toNat))
     | .andNot=>some (.int k (k.wrap (BitVec.ofInt k.bits a&&& ~~~BitVec.ofInt k.bits b).toNat))
     | .eql=>some (.bool (a==b))
     | .neq=>some (.bool (a !=b))
     | .lss=>some (.bool (a<b))
     | .leq=>some (.bool (a≤b))
     | .gtr=>some (.bool (a>b))
     | .geq=>some (.bool (a≥b))
     |_=>none
 |_,_=>none
def eqCells:List Bool→List V→List V→Option Bool
 |[],[],[]=>some true
 |true::ks, .int k a::r, .int k' b::r'=>if k=k' then(eqCells ks r r').map fun x=>a==b&&x else none
 |false::ks, .bool a::r, .bool b::r'=>(eqCells ks r r').map fun x=>a==b&&x
 |_,_,_=>none
def un:UnOp→V→Option V
 | .not, .bool b=>some (.bool !b)
 | .neg, .int k n=>some (.int k (k.wrap (0-n)))
 | .xor, .int k n=>some (.int k (k.wrap (BitVec.ofInt k.bits (if k.signed then -1 else k.max)^^^BitVec.ofInt k.bits n).toNat))
 |_,_=>none
def part(n:Option Nat)(cs:List V)(off:Nat):Option V:=
 match n with
 |some n=>if off+n≤cs.length then some (.agg ((cs.drop off).take n))else none
 |none=>cs[off]?
def setAll(cs:List V)(off:Nat):List V→List V
 |[]=>cs
 |v::r=>setAll (cs.set off v) (off+1) r
def fillAll(e:Env):List (Nat×Nat×Opd)→List V→Option (List V)
 |[],cs=>some cs
 |(off,size,x)::r,cs=>
   let v:=(x.ev e).cells
   if v.length=size&&off+size≤cs.length&&(x.ev e).isDef then fillAll e r (setAll cs off v)else none
def litAll(e:Env)(size:Nat):List (Nat×Opd)→List (List V)→Option (List (List V))
 |[],es=>some es
 |(i,x)::r,es=>
   let v:=((x.ev e).strip).cells
   if v.length=size&&V.elemAll v&&i<es.length then litAll e size r (es.set i v)else none
abbrev Eff:=Option (Nat×Nat×Entry)
def V.idx:V→Option Int
 | .int _ n=>some n
 |_=>none
def hiOf(hi:Option V)(n:Nat):Option Nat:=
 match hi with
 |none=>some n
 |some v=>match v.idx with
   |some h=>if 0≤h∧h≤n then some h.toNat else none
   |none=>none
def mxOf(c:Cap)(mx:Option V)(h n:Nat):Option Cap:=
 match mx with
 |none=>some (if h=n∧c= .full then Cap.full else .no)
 |some v=>match v.idx with
   |some m=>if m=h then some Cap.full else none
   |none=>none
def loOf(lo:Option V)(h:Nat):Option Nat:=
 match lo with
 |none=>some 0
 |some v=>match v.idx with
   |some l=>if 0≤l∧l≤h then some l.toNat else none
   |none=>none
def litAllM(e:Env)(size:Nat):List (Nat×Opd)→List (List V)→Option (List (List V))
 |[],es=>some es
 |(i,x)::r,es=>
   let v:=(x.ev e).cells
   if v.length=size&&V.oneAll v&&i<es.length then litAllM e size r (es.set i v)else none
def freshL(s:Stk):Nat→Nat→Nat
 |0,l=>l
 |n+1,l=>if (sget s (dep s) l).isNone then l else freshL s n (l+1000)
def opdAll(e:Env):List Opd→List V
 |[]=>[]
 |x::r=>x.ev e::opdAll e r
def aliveE(n:Nat):Option Entry→Bool
 |some (.arr _ es)=>n==es.length
 |some (.harr lo _ es)=>decide (lo≤n∧n≤es.length)
 |_=>false
def intsOf:List V→Option (List Int)
 |[]=>some []
 | .int .i64 n::r=>(intsOf r).map (n:: ·)
 |_=>none
def keyInts:Option Nat→V→Option (List Int)
 |none, .int .i64 n=>some [n]
 |some m, .agg cs=>if cs.length=m then intsOf cs else none
 |_,_=>none
def kvGet:List (List Int×Int)→List Int→Option Int
 |[],_=>none
 |x::r,k=>if k=x.1 then some x.2 else kvGet r k
def kvPut:List (List Int×Int)→List Int→Int→List (List Int×Int)
 |[],k,n=>[(k,n)]
 |x::r,k,n=>if k=x.1 then(k,n)::r else x::kvPut r k n
def kvIdx:List (List Int×Int)→List Int→Nat
 |[],_=>0
 |x::r,k=>if k=x.1 then 0 else kvIdx r k+1
def kvSet(l:List (List Int×Int))(i:Nat)(n:Int):List (List Int×Int):=l.modify i fun x=>(x.1,n)
def qGet:List (Int×Int×Int)→Int→Option (Int×Int)
 |[],_=>none
 |x::r,k=>if k=x.1 then some x.2 else qGet r k
def qPut:List (Int×Int×Int)→Int→Int×Int→List (Int×Int×Int)
 |[],k,n=>[(k,n)]
 |x::r,k,n=>if k=x.1 then(k,n)::r else x::qPut r k n
def qIdx:List (Int×Int×Int)→Int→Nat
 |[],_=>0
 |x::r,k=>if k=x.1 then 0 else qIdx r k+1
def qVal(p:Int×Int):V:= .agg [i64 p.1,i64 p.2]
def aop(op:AOp)(lab:Nat)(e:Env)(s:Stk):Option (V×Eff):=
 match op with
 | .mv x=>some (x.ev e,none)
 | .pick c a b=>match c.ev e with
   | .bool true=>some (a.ev e,none)
   | .bool false=>some (b.ev e,none)
   |_=>none
 | .box x=>
   let cs:=(x.ev e).cells
   if (x.ev e).isDef∧(sget s (dep s) lab).isNone∧s≠[]then some (.ptr (dep s) lab 0,some ((dep s),lab, .cell cs))else none
 | .alloc z=>if (sget s (dep s) lab).isNone∧s≠[]then some (.ptr (dep s) lab 0,some ((dep s),lab, .cell z))else none
 | .build z ps=>(fillAll e ps z).map fun cs=>(.agg cs,none)
 | .lit z n ps=>if V.elemAll (V.stripAll z)then(litAll e z.length ps (List.replicate n (V.stripAll z))).map fun es=>(.sl .full z.length es,none)else none
 | .load n a=>match a.ev e with
   | .ep cs=>(part n cs 0).map fun v=>(v,none)
   | .ptr d l off=>match sget s d l with
     |some (.cell cs)=>(part n cs off).map fun v=>(v,none)
     |_=>none
   | .eptr d l q i j=>match sget s d l with
     |some (.arr _ es)=>if q=es.length then(match es[i]? with
       |some cs=>(part n cs j).map fun v=>(v,none)
       |none=>none)else none
     |some (.harr lo _ es)=>if lo≤q∧q≤es.length∧i<q then(match es[i]? with
       |some cs=>(part n cs j).map fun v=>(v,none)
       |none=>none)else none
     |_=>none
   |_=>none
 | .store n a v=>match a.ev e with
   | .ptr d l off=>match sget s d l with
     |some (.cell cs)=>
       if d=(dep s)then
        (if (v.ev e).cells.length=n∧off+n≤cs.length∧V.oneAll (v.ev e).cells then some (.undef,some (d,l, .cell (setAll cs off (v.ev e).cells)))else none)
       else match (v.ev e).down d with
        |some v=>if v.cells.length=n∧off+n≤cs.length∧V.oneAll v.cells then some (.undef,some (d,l, .cell (setAll cs off v.cells)))else none
        |none=>none
     |_=>none
   | .eptr d l q i j=>match sget s d l with
     |some (.arr z es)=>if q=es.length then(match es[i]? with
       |some cs=>match (if d=dep s then some (v.ev e)else(v.ev e).down d)with
         |some v=>if v.cells.length=n∧j+n≤cs.length∧V.oneAll v.cells then some (.undef,some (d,l, .arr z (es.set i (setAll cs j v.cells))))else none
         |none=>none
       |none=>none)else none
     |_=>none
   |_=>none
 | .nilck x=>match x.ev e with
   | .ptr d l off=>some (.ptr d l off,none)
   | .ep cs=>some (.ep cs,none)
   | .fn f a b=>some (.fn f a b,none)
   | .yld d l=>some (.yld d l,none)
   | .eptr d l q i j=>if aliveE q (sget s d l)=true then some (.eptr d l q i j,none)else none
   |_=>none
 | .bin op x y=>(bin op (x.ev e) (y.ev e)).map fun v=>(v,none)
 | .un op x=>(un op (x.ev e)).map fun v=>(v,none)
 | .conv k x=>match x.ev e with
   | .int _ n=>some (.int k (k.wrap n),none)
   |_=>none
 | .mkfn f first cap=>some (.fn f (opdAll e first) (opdAll e cap),none)
 | .slice esz x lo hi mx=>match x.ev e with
   | .sl c z es=>
     if z=esz∨es=[]then
      match hiOf (hi.map (Opd.ev e)) es.length with
      |none=>none
      |some h=>match mxOf c (mx.map (Opd.ev e)) h es.length with
        |none=>none
        |some c'=>match loOf (lo.map (Opd.ev e)) h with
          |none=>none
          |some l=>some (.sl c' z ((es.take h).drop l),none)
     else none
   | .asl d k z q o len=>if aliveE q (sget s d k)=true∧z=esz∧mx.isNone=true then(match hiOf (hi.map (Opd.ev e)) len with
    |none=>none
    |some h=>match loOf (lo.map (Opd.ev e)) h with
      |none=>none
      |some l=>if l<h then some (.asl d k z q (o+l) (h-l),none)else none)else none
   |_=>none
 | .faddr off x=>match x.ev e with
   | .ptr d l o=>some (.ptr d l (o+off),none)
   | .ep cs=>some (.ep (cs.drop off),none)
   | .eptr d l q i j=>if aliveE q (sget s d l)=true then some (.eptr d l q i (j+off),none)else none
   |_=>none
 | .field n off x=>match x.ev e with
   | .agg cs=>(part n cs off).map fun v=>(v,none)
   |_=>none
 | .idxs esz x i=>match x.ev e,(i.ev e).idx with
   | .sl _ z es,some n=>if 0≤n∧z=esz then match es[n.toNat]? with
    |some cs=>some (.ep cs,none)
    |none=>none
     else none
   | .asl d l z q o len,some n=>if 0≤n∧n<len∧z=esz∧aliveE q (sget s d l)=true then some (.eptr d l q (o+n.toNat) 0,none)else none
   | .csl (.ptr d l o) len,some n=>if 0≤n∧n<len∧esz=1 then some (.ptr d l (o+n.toNat),none)else none
   |_,_=>none
 | .idxa len esz x i=>match x.ev e,(i.ev e).idx with
   | .ptr d l o,some n=>if 0≤n∧n<len then some (.ptr d l (o+n.toNat*esz),none)else none
   | .ep cs,some n=>if 0≤n∧n<len then some (.ep (cs.drop (n.toNat*esz)),none)else none
   | .eptr d l q k j,some n=>if (0≤n∧n<len)∧aliveE q (sget s d l)=true then some (.eptr d l q k (j+n.toNat*esz),none)else none
   |_,_=>none
 | .idxv len esz n x i=>match x.ev e,(i.ev e).idx with
   | .agg cs,some k=>if 0≤k∧k<len then(part n cs (k.toNat*esz)).map fun v=>(v,none)else none
   |_,_=>none
 | .ext x i=>match x.ev e with
   | .tup vs=>vs[i]?.map fun v=>(v,none)
   |_=>none
 | .len x=>match x.ev e with
   | .sl _ _ es=>some (i64 es.length,none)
   | .asl d l _ q _ n=>if aliveE q (sget s d l)=true then some (i64 n,none)else none
   | .csl _ n=>some (i64 n,none)
   |_=>none
 | .app esz bytes x y=>match x.ev e,(y.ev e)with
   | .sl c z es, .sl _ z' fs=>
     if (es.length+fs.length)*bytes≤140737488355328∧es.length+fs.length<140737488355328∧(z=esz∨es=[])∧(z'=esz∨fs=[])then
      match c with
      | .no=>if fs=[]then some (.sl .no z es,none)else none
      | .full=>if fs=[]then some (.sl .full z es,none)else
        if (sget s (dep s) lab).isNone∧s≠[]then some (.sl (.own (dep s) lab) esz (es ++fs),some (dep s,lab, .tok (es.length+fs.length)))else none
      | .own d l=>match sget s d l with
        |some (.tok n)=>if n=es.length∧z=esz then some (.sl (.own d l) esz (es ++fs),some (d,l, .tok (es.length+fs.length)))else none
        |_=>none
     else none
   | .asl d l z q o k, .sl _ z' fs=>match sget s d l with
     |some (.arr z0 es)=>if (es.length+fs.length)*bytes≤140737488355328∧es.length+fs.length<140737488355328∧q=es.length∧o=0∧k=q∧z=esz∧z0=esz∧(z'=esz∨fs=[])then
      (if fs=[]then some (.asl d l z q 0 k,none)else some (.asl d l esz (es.length+fs.length) 0 (es.length+fs.length),some (d,l, .arr esz (es ++fs))))else none
     |some (.harr lo z0 es)=>if (es.length+fs.length)*bytes≤140737488355328∧es.length+fs.length<140737488355328∧q=es.length∧o=0∧k=q∧z=esz∧z0=esz∧z'=esz∧fs≠[]∧d=dep s then
      some (.asl d l esz (es.length+fs.length) 0 (es.length+fs.length),some (d,l, .harr lo esz (es ++fs)))else none
     |_=>none
   | .asl d l z q o k, .asl d2 l2 z2 q2 o2 k2=>match sget s d l,sget s d2 l2 with
     |some (.arr z0 es),some (.arr z3 gs)=>if (es.length+k2)*bytes≤140737488355328∧es.length+k2<140737488355328∧q=es.length∧o=0∧k=q∧z=esz∧z0=esz∧z2=esz∧z3=esz∧
      q2=gs.length∧o2+k2≤gs.length∧k2≠0∧d=dep s∧d2=dep s∧l≠l2∧(gs.all V.oneAll)=true then
      some (.asl d l esz (es.length+k2) 0 (es.length+k2),some (d,l, .arr esz (es ++(gs.drop o2).take k2)))else none
     |_,_=>none
   |_,_=>none
 | .mm mx x y=>match x.ev e,y.ev e with
   | .int k a, .int k' b=>if k=k' then some (.int k (if mx then(if b>a then b else a)else(if b<a then b else a)),none)else none
   |_,_=>none
 | .mm3 mx x y z=>match x.ev e,y.ev e,z.ev e with
   | .int k a, .int k' b, .int k'' c=>if k=k'∧k=k'' then
    some (.int k (if mx then(if c>(if b>a then b else a)then c else(if b>a then b else a))else(if c<(if b<a then b else a)then c else(if b<a then b else a))),none)else none
   |_,_,_=>none
 | .eqa ks neg x y=>match x.ev e,y.ev e with
   | .agg a, .agg b=>(eqCells ks a b).map fun r=>(.bool (if neg then !r else r),none)
   |_,_=>none
 | .eqb neg x y=>match x.ev e,y.ev e with
   | .bool a, .bool b=>some (.bool (if neg then !(a==b)else a==b),none)
   |_,_=>none
 | .mksl z bytes l c=>match (l.ev e).idx,(c.ev e).idx with
   |some n,some k=>if 0≤n∧k=n∧n<140737488355328∧n*bytes≤140737488355328∧(sget s (dep s) lab).isNone∧s≠[]then
    some (.asl (dep s) lab z.length n.toNat 0 n.toNat,some (dep s,lab, .arr z.length (List.replicate n.toNat z)))else none
   |_,_=>none
 | .mkslD z bytes l c=>match (l.ev e).idx,(c.ev e).idx with
   |some n,some k=>if 0≤n∧k=n∧n<140737488355328∧n*bytes≤140737488355328∧(sget s (dep s) (freshL s 9 lab)).isNone∧s≠[]then
    some (.asl (dep s) (freshL s 9 lab) z.length n.toNat 0 n.toNat,some (dep s,freshL s 9 lab, .arr z.length (List.replicate n.toNat z)))else none
   |_,_=>none
 | .litm z n ps=>if V.oneAll z=true∧(sget s (dep s) lab).isNone∧s≠[]∧0<n then(litAllM e z.length ps (List.replicate n z)).map fun es=>(.asl (dep s) lab z.length n 0 n,some (dep s,lab, .arr z.length es))else none
 | .appm esz bytes x y=>match x.ev e with
   | .sl .full z []=>match (match y.ev e with
    | .sl _ z' fs=>if z'=esz∨fs=[]then some fs else none
    | .asl d l z' q o n=>match sget s d l with
      |some (.arr _ fs)=>if z'=esz∧q=fs.length∧o+n≤fs.length then some (((fs.map V.stripAll).drop o).take n)else none
      |_=>none
    | .csl (.ptr d l o) n=>match sget s d l with
      |some (.cell cs)=>if esz=1∧o+n≤cs.length then some (((cs.drop o).take n).map fun v=>[v])else none
      |_=>none
    |_=>none)with
     |some fs=>if fs.length*bytes≤140737488355328∧fs.length<140737488355328∧(z=esz∨fs=[])∧(sget s (dep s) lab).isNone∧s≠[]then
      some (.asl (dep s) lab esz fs.length 0 fs.length,some (dep s,lab, .arr esz fs))else none
     |none=>none
   |_=>none
 | .isnil neg x=>match x.ev e with
   | .sl _ _ es=>some (if es=[]then .anyb else .bool neg,none)
   | .asl d l _ q _ n=>if aliveE q (sget s d l)=true then some (if n=0 then .anyb else .bool neg,none)else none
   | .csl _ _=>some (.bool neg,none)
   |_=>none
 | .clear z x=>match x.ev e with
   | .sl _ _ es=>if es=[]then some (.undef,none)else none
   | .asl d l sz q o n=>match sget s d l with
     |some (.arr z0 es)=>if q=es.length∧o+n≤es.length∧sz=z0∧z.length=z0∧V.pureAll z=true∧V.oneAll z=true then
      (if n=0 then some (.undef,none)else some (.undef,some (d,l, .arr z0 (es.take o ++List.replicate n z ++es.drop (o+n)))))else none
     |_=>none
   |_=>none
 | .strix bs i=>match (i.ev e).idx with
   |some n=>if 0≤n then(match bs[n.toNat]? with
     |some b=>some (.int .u8 b,none)
     |none=>none)else none
   |none=>none
 | .slarr n x hi=>match x.ev e with
   | .ptr d l o=>match hiOf (hi.map (Opd.ev e)) n with
     |some h=>some (.csl (.ptr d l o) h,none)
     |none=>none
   |_=>none
 | .mkmap t=>if (sget s (dep s) lab).isNone∧s≠[]then some (.mp (.ptr (dep s) lab 0),some (dep s,lab, .mp t []))else none
 | .mget t ok m k=>match m.ev e,keyInts t (k.ev e)with
   | .mp (.ptr d l o),some ns=>match sget s d l with
     |some (.mp t' kvs)=>if t=t'∧o=0 then some (if ok then .tup [i64 ((kvGet kvs ns).getD 0), .bool (kvGet kvs ns).isSome]else i64 ((kvGet kvs ns).getD 0),none)else none
     |_=>none
   |_,_=>none
 | .mput t m k v=>match m.ev e,keyInts t (k.ev e),v.ev e with
   | .mp (.ptr d l o),some ns, .int .i64 n=>match sget s d l with
     |some (.mp t' kvs)=>if t=t'∧o=0 then some (.undef,some (d,l, .mp t (kvPut kvs ns n)))else none
     |_=>none
   |_,_,_=>none
 | .ment t m k=>match m.ev e,keyInts t (k.ev e)with
   | .mp (.ptr d l o),some ns=>match sget s d l with
     |some (.mp t' kvs)=>if t=t'∧o=0 then some (.tup [i64 ((kvGet kvs ns).getD 0),i64 (kvIdx kvs ns)],some (d,l, .mp t (kvPut kvs ns ((kvGet kvs ns).getD 0))))else none
     |_=>none
   |_,_=>none
 | .mest m i v=>match m.ev e,i.ev e,v.ev e with
   | .mp (.ptr d l o), .int .i64 j, .int .i64 n=>match sget s d l with
     |some (.mp t kvs)=>if (0≤j∧j<kvs.length)∧o=0 then some (.undef,some (d,l, .mp t (kvSet kvs j.toNat n)))else none
     |_=>none
   |_,_,_=>none
 | .mkmq=>if (sget s (dep s) lab).isNone∧s≠[]then some (.mp (.ptr (dep s) lab 0),some (dep s,lab, .mq []))else none
 | .mqget ok m k=>match m.ev e,k.ev e with
   | .mp (.ptr d l o), .int .u8 n=>match sget s d l with
     |some (.mq kvs)=>if o=0 then some (if ok then .tup [qVal ((qGet kvs n).getD (0,0)), .bool (qGet kvs n).isSome]else qVal ((qGet kvs n).getD (0,0)),none)else none
     |_=>none
   |_,_=>none
 | .mqput m k v=>match m.ev e,k.ev e,v.ev e with
   | .mp (.ptr d l o), .int .u8 n, .agg [.int .i64 a, .int .i64 b]=>match sget s d l with
     |some (.mq kvs)=>if o=0 then some (.undef,some (d,l, .mq (qPut kvs n (a,b))))else none
     |_=>none
   |_,_,_=>none
 | .call _ _=>none
 | .callv _ _=>none
 | .fail=>none
def seff(s:Stk):Eff→Stk
 |none=>s
 |some (d,l,x)=>sput s d l x
def bindEnv:List Nat→List V→Env→Env
 |t::ts,v::vs,e=>bindEnv ts vs ((t,v)::e)
 |_,_,e=>e
def argEnv:Nat→List V→Env
 |_,[]=>[]
 |i,v::r=>(i,v)::argEnv (i+1) r
def results(e:Env)(s:Stk):List ARes→Option (List V)
 |[]=>some []
 |r::rs=>match (match r with
  | .t n=>some (e.get n)
  | .cell n k=>match e.get n with
    | .ptr d l off=>match sget s d l with
      |some (.cell cs)=>part k cs off
      |_=>none
    |_=>none),results e s rs with
   |some v,some vs=>some (v::vs)
   |_,_=>none
def pack:List V→V
 |[v]=>v
 |vs=> .tup vs
abbrev Res:=Option (Ex×Env×Stk)
abbrev Exec:=AC→Env→Stk→Res
def enter(T:Tab)(X:Exec)(f:FuncId)(args:List V)(lab:Nat)(s:Stk):Option (V×Stk):=
 match T.fns f with
 |none=>none
 |some (.prim p)=>p args lab s
 |some (.code fn)=>
   if args.length=fn.np then
    match X fn.body (argEnv 0 args) ([]::s)with
    |some (ex,e',s1)=>
      match ex with
      | .exit _=>none
      |_=>match s1 with
        |[]=>none
        |loc::s'=>match results e' s1 fn.res with
          |none=>none
          |some vs=>adopt fn.own loc (pack vs) lab s'
    |none=>none
   else none
def enterV(T:Tab)(X:Exec)(x:V)(args:List V)(lab:Nat)(s:Stk):Option (V×Stk):=
 match x with
 | .fn f first cap=>enter T X f (first ++args ++cap) lab s
 | .yld d l=>match sget s d l with
   |some (.loop ps A B env .ready none)=>
     if args.length=ps.length then
      match X A (bindEnv ps args env) ([]::s)with
      |some (.normal,e1,s1)=>match sget s1 d l with
        |some (.loop ps1 A1 B1 env1 .ready none)=>match X B e1 (sput s1 d l (.loop ps1 A1 B1 env1 .busy none))with
          |some (ex,_,s2)=>match s2 with
            |[]=>none
            |_::s3=>match sget s3 d l with
              |some (.loop ps3 A3 B3 env3 _ _)=>match ex with
                | .normal=>some (.bool true,sput s3 d l (.loop ps3 A3 B3 env3 .ready none))
                |ex=>some (.bool false,sput s3 d l (.loop ps3 A3 B3 env3 .done (some ex)))
              |_=>none
          |none=>none
        |_=>none
      |_=>none
     else none
   |_=>none
 |_=>none
def op1(T:Tab)(X:Exec)(o:AOper)(e:Env)(s:Stk):Option (V×Stk):=
 let lab:=16*o.dst.getD 0
 match o.op.callOf with
 | .static f args=>enter T X f (V.stripAll (opdAll e args)) lab s
 | .dyn x args=>enterV T X (x.ev e) (V.stripAll (opdAll e args)) lab s
 | .other=>match aop o.op lab e s with
   |some (v,f)=>some (v,seff s f)
   |none=>none
def setDst(dst:Option Nat)(v:V)(e:Env):Env:=
 match dst with
 |some d=>(d,v)::e
 |none=>e
def runOps(T:Tab)(X:Exec):List AOper→Env→Stk→Option (Env×Stk)
 |[],e,s=>some (e,s)
 |o::r,e,s=>
   match o.guard with
   |none=>match op1 T X o e s with
     |some (v,s')=>runOps T X r (setDst o.dst v e) s'
     |none=>none
   |some (g,want)=>match e.get g with
     | .bool b=>if b=want then(match op1 T X o e s with
      |some (v,s')=>runOps T X r (setDst o.dst v e) s'
      |none=>none)else runOps T X r (setDst o.dst .skip e) s
     | .skip=>runOps T X r (setDst o.dst .skip e) s
     |_=>none
structure Did where
 dst:Option Nat
 v:V
 patch:Loc
 seen:List Nat
def patchAll:Loc→Loc→Loc
 |[],loc=>loc
 |(l,x)::r,loc=>patchAll r (loc.put l x)
def dEnv(pre:List Nat):Nat→List Did→Env→Env
 |_,[],e=>e
 |j,r::rs,e=>dEnv pre (j+1) rs (setDst r.dst (if pre.contains j then r.v else .undef) e)
def dHide(i:Nat):List AOper→Env→Env
 |[],e=>e
 |o::os,e=>dHide i os (if o.pre.contains i then e else setDst o.dst .undef e)
def dLoc(pre:List Nat):Nat→List Did→Loc→Loc
 |_,[],loc=>loc
 |j,r::rs,loc=>dLoc pre (j+1) rs (if pre.contains j then patchAll r.patch loc else loc)
def dHid(pre:List Nat):Nat→List Did→List Nat
 |_,[]=>[]
 |j,r::rs=>(if pre.contains j then []else r.patch.map (·.1)) ++dHid pre (j+1) rs
def dApart(dst:Option Nat)(patch:Loc)(pre:List Nat):Nat→List Did→Bool
 |_,[]=>true
 |j,r::rs=>(pre.contains j||(dst.all (fun d=> !(r.dst==some d))&&patch.all fun x=> !(r.seen.contains x.1)&& !((r.patch.map (·.1)).contains x.1)))&&dApart dst patch pre (j+1) rs
def distinct:List Nat→Bool
 |[]=>true
 |l::r=> !r.contains l&&distinct r
open Classical in
noncomputable def dop(T:Tab)(X:Exec)(o:AOper)(e:Env)(vis:Loc)(rest:Stk):Option (V×Loc):=
 match o.op.callOf with
 | .other=>match aop o.op (16*o.dst.getD 0) e (vis::rest)with
   |some (v,none)=>some (v,[])
   |some (v,some (d,l,x))=>if d=rest.length then some (v,[(l,x)])else none
   |none=>none
 |_=>match op1 T X o e (vis::rest)with
   |some (v,s')=>
     let new:=(s'.headD []).drop vis.length
     if s'=(vis ++new)::rest∧distinct ((vis ++new).map (·.1))=true then some (v,new)else none
   |none=>none
noncomputable def gop(T:Tab)(X:Exec)(o:AOper)(e:Env)(vis:Loc)(rest:Stk):Option (V×Loc):=
 match o.guard with
 |none=>dop T X o e vis rest
 |some (g,want)=>match e.get g with
   | .bool b=>if b=want then dop T X o e vis rest else some (.skip,[])
   | .skip=>some (.skip,[])
   |_=>none
def dVis(o:AOper)(rs:List Did)(loc0:Loc):Loc:=(dLoc o.pre 0 rs loc0).filter fun x=> !(o.hide ++dHid o.pre 0 rs).contains x.1
def dSee(o:AOper)(rs:List Did)(loc0:Loc):List Nat:=(dVis o rs loc0).map (·.1)
def dSeen(o:AOper)(os:List AOper)(i d:Nat)(rs:List Did)(loc0:Loc)(e0:Env):Env:=Env.ren (dropR d (dSee o rs loc0)) (dHide i os (dEnv o.pre 0 rs e0))
def AOper.isMove(o:AOper):Bool:=o.hide.contains 888888&&o.guard.isNone&&(match o.op with| .mv _=>true|_=>false)
def AOper.moved(o:AOper)(e:Env):V:=match o.op with| .mv x=>x.ev e|_=> .undef
open Classical in
noncomputable def runDrawn(T:Tab)(X:Exec)(loc0:Loc)(rest:Stk)(e0:Env):List AOper→Nat→List Did→Option (List Did)
 |[],_,rs=>some rs
 |o::os,i,rs=>
   if o.isMove=true then
    (if dApart o.dst [] o.pre 0 rs=true then runDrawn T X loc0 rest e0 os (i+1) (rs ++[⟨o.dst,o.moved (dHide i os (dEnv o.pre 0 rs e0)),[],[]⟩])else none)
   else if Loc.ren (dropR rest.length (dSee o rs loc0)) (dVis o rs loc0)=dVis o rs loc0 then
    match gop T X o (dSeen o os i rest.length rs loc0 e0) (dVis o rs loc0) rest with
    |some (v,patch)=>
      if patch.all (fun x=>(dSee o rs loc0).contains x.1||((dLoc o.pre 0 rs loc0).get x.1).isNone)&&dApart o.dst patch o.pre 0 rs then runDrawn T X loc0 rest e0 os (i+1) (rs ++[⟨o.dst,v,patch,dSee o rs loc0⟩])else none
    |none=>none
   else none
def ordered:Nat→List AOper→Bool
 |_,[]=>true
 |i,o::r=>(List.range i).all (fun k=>o.pre.contains k)&&ordered (i+1) r
def cut:Nat→List AOper→List AOper×List AOper
 |_,[]=>([],[])
 |i,o::r=>if ordered i (o::r)then([],o::r)else(o::(cut (i+1) r).1,(cut (i+1) r).2)
def bruteOps(ops:List AOper):Bool:=ops.any fun o=>o.hide.contains 999999
def readyFrom:Nat→List AOper→List Nat→List Nat
 |_,[],_=>[]
 |i,o::r,done=>if done.contains i|| !(o.pre.all fun p=>done.contains p)then readyFrom (i+1) r done else i::readyFrom (i+1) r done
open Classical in
noncomputable def agree {α:Type}:List (Option α)→Option α
 |[]=>none
 |x::r=>if∀y∈r,y=x then x else none
noncomputable def runAny(T:Tab)(X:Exec)(ops:List AOper)(live:List Nat):List AOper→List Nat→Env→Stk→Option (Env×Stk)
 |[],done,e,s=>if readyFrom 0 ops done=[]then some (e.only live,s)else none
 |_::f,done,e,s=>if readyFrom 0 ops done=[]then some (e.only live,s)else
   agree ((readyFrom 0 ops done).map fun i=>match ops[i]? with
    |some o=>match runOps T X [o] e s with
      |some (e1,s1)=>runAny T X ops live f (i::done) e1 s1
      |none=>none
    |none=>none)
noncomputable def stepDrawn(T:Tab)(X:Exec)(ops:List AOper)(live:List Nat)(e:Env)(s:Stk):Res:=
 if bruteOps ops=true then(match runAny T X ops live ops [] e s with|some (e',s')=>some (.normal,e',s')|none=>none)else
 match s with
 |[]=>none
 |loc::rest=>match runDrawn T X loc rest e (cut 0 ops).1 0 []with
   |some rs=>match runOps T X (cut 0 ops).2 (dEnv (List.range rs.length) 0 rs e) (dLoc (List.range rs.length) 0 rs loc::rest)with
     |some (e',s')=>some (.normal,e'.only live,s')
     |none=>none
   |none=>none
def stepLoop(X:Exec)(live keep:List Nat)(b:AC)(e:Env)(s:Stk):Res:=
 match X b (gcEnv live keep e s) (gcStk keep s)with
 |some (.normal,e',s')=>X (.loop live keep b) e' s'
 |r=>r
def thaw(t l sz:Nat)(e:Env)(s:Stk):Res:=
 match e.get t with
 | .sl .full z es=>if 100≤sz then
  (if es=[]∧(sget s (dep s) l).isNone∧s≠[]then some (.normal,(t, .asl (dep s) l (sz-100) 0 0 0)::e,sput s (dep s) l (.arr (sz-100) []))else none)
   else if (z=sz∨es=[])∧(sget s (dep s) l).isNone∧s≠[]then some (.normal,(t, .sl (.own (dep s) l) sz es)::e,sput s (dep s) l (.tok es.length))else none
 | .sl (.own _ _) _ _=>some (.normal,e,s)
 | .asl _ _ _ _ _ _=>some (.normal,e,s)
 |_=>none
def thawc(t off l sz:Nat)(e:Env)(s:Stk):Res:=
 match e.get t with
 | .ptr d k o=>match sget s d k with
   |some (.cell cs)=>match cs[o+off]? with
     |some (.sl .full z es)=>if 100≤sz then
      (if es=[]∧d=dep s∧(sget s (dep s) l).isNone∧s≠[]∧k≠l then
        some (.normal,e,sput (sput s d k (.cell (cs.set (o+off) (.asl (dep s) l (sz-100) 0 0 0)))) (dep s) l (.arr (sz-100) []))else none)
       else if (z=sz∨es=[])∧d=dep s∧(sget s (dep s) l).isNone∧s≠[]∧k≠l then
        some (.normal,e,sput (sput s d k (.cell (cs.set (o+off) (.sl (.own (dep s) l) sz es)))) (dep s) l (.tok es.length))else none
     |some (.sl (.own _ _) _ _)=>some (.normal,e,s)
     |some (.asl _ _ _ _ _ _)=>some (.normal,e,s)
     |_=>none
   |_=>none
 |_=>none
def onlyRet:Res→Res
 |some (.ret,e,s)=>some (.ret,e,s)
 |_=>none
open Classical in
noncomputable def step(T:Tab)(X:Exec):AC→Env→Stk→Res
 | .skip,e,s=>some (.normal,e,s)
 | .label,e,s=>some (.normal,e,s)
 | .region true ops live,e,s=>stepDrawn T X ops live e s
 | .region false ops live,e,s=>match runOps T X ops e s with
   |some (e',s')=>some (.normal,e'.only live,s')
   |none=>none
 | .seq a b,e,s=>match X a e s with
   |some (.normal,e',s')=>X b e' s'
   |r=>r
 | .cond c a b,e,s=>match c.ev e with
   | .bool true=>X a e s
   | .bool false=>X b e s
   | .anyb=>match X a e s,X b e s with
     |some r1,some r2=>if r1=r2 then some r1 else none
     |_,_=>none
   |_=>none
 | .block id b,e,s=>match X b e s with
   |some (.exit k,e',s')=>some (if k=id then .normal else .exit k,e',s')
   |r=>r
 | .loop live keep b,e,s=>stepLoop X live keep b e s
 | .scope b,e,s=>X b e s
 | .exit id,e,s=>some (.exit id,e,s)
 | .ret,e,s=>some (.ret,e,s)
 | .thaw t l z,e,s=>thaw t l z e s
 | .thawc t off l z,e,s=>thawc t off l z e s
 | .freeze ls,e,s=>some (.normal,(frzAll ls e s).1,(frzAll ls e s).2)
 | .only b,e,s=>onlyRet (X b e s)
 | .rng site ps A B f,e,s=>
   let l:=16*site+7
   if (sget s (dep s) l).isNone∧s≠[]then
    match f.ev e with
    | .fn g first cap=>match enter T X g (first ++[.yld (dep s) l] ++cap) 0 (sput s (dep s) l (.loop ps A B e .ready none))with
      |some (_,s')=>match sget s' (dep s) l with
        |some (.loop ps' A' B' env .ready none)=>some (.normal,e,sput s' (dep s) l (.loop ps' A' B' [] .exhausted none))
        |some (.loop ps' A' B' env .done (some ex))=>some (ex,e,sput s' (dep s) l (.loop ps' A' B' [] .exhausted (some ex)))
        |_=>none
      |none=>none
    |_=>none
   else none
noncomputable def exec(T:Tab):Nat→Exec
 |0=>fun _ _ _=>none
 |n+1=>step T (exec T n)
end Go.Ab

/-
  From elaborated code (and annotations) to the abstract evaluator's code. Definitions alone.
-/
namespace Go.Ab
def cvs:Value→Option V
 | .int k n=>some (.int k n)
 | .bool b=>some (.bool b)
 | .slice none 0 0=>some (.sl .full 0 [])
 | .pointer none=>some .nilp
 | .nilFunc=>some .nilf
 | .map none=>some (.mp .nilp)
 |_=>none
def cvL:List Value→Option (List V)
 |[]=>some []
 |v::r=>match cvs v,cvL r with
   |some a,some b=>some (a::b)
   |_,_=>none
def cv:Value→Option V
 | .agg cs=>(cvL cs.toList).map .agg
 |v=>cvs v
def copd:Operand→Option Opd
 | .tmp t=>some (.t t)
 | .const v=>(cv v).map .c
 | .func f=>some (.c (.fn f [] []))
 | .global _=>none
def laidG(P:Program)(g:Nat):Option (List Int):=if (P.globals[g]?).any (fun x=>x.name== "almadraba/beasts.far")=true then some [1073741824,1073741824]else none
def copds:List Operand→Option (List Opd)
 |[]=>some []
 |x::r=>match copd x,copds r with
   |some a,some b=>some (a::b)
   |_,_=>none
def copdO:Option Operand→Option (Option Opd)
 |none=>some none
 |some x=>(copd x).map some
def isAggT(P:Program)(t:TypeId):Option Bool:=
 match P.underlying t with
 |some (.struct _)=>some true
 |some (.array _ _)=>some true
 |some _=>some false
 |none=>none
def sizeT(P:Program)(t:TypeId):Option Nat:=(P.info? t).map (·.size)
def nT(P:Program)(t:TypeId):Option (Option Nat):=
 match isAggT P t,sizeT P t with
 |some true,some n=>some (some n)
 |some false,some _=>some none
 |_,_=>none
def eszT(P:Program)(t:TypeId):Nat:=
 match P.underlying t with
 |some (.slice el)=>(sizeT P el).getD 0
 |_=>0
def nilAs(z:Nat):V→V
 | .sl .full 0 []=> .sl .full z []
 |v=>v
def cellSz(P:Program):Nat→TypeId→List Nat
 |0,_=>[]
 |d+1,t=>match P.underlying t with
   |some (.struct fs)=>fs.toList.flatMap fun f=>cellSz P d f.type
   |some (.array n el)=>(List.replicate n (cellSz P d el)).flatten
   |some (.slice el)=>[(sizeT P el).getD 0]
   |_=>[0]
def nilsAs:List Nat→List V→List V
 |z::zs,v::vs=>nilAs z v::nilsAs zs vs
 |_,vs=>vs
def zeroT(P:Program)(t:TypeId):Option (List V):=
 match P.info? t with
 |some i=>match i.zero with
   |some v=>(cvL v.cells.toList).map (nilsAs (cellSz P 12 t))
   |none=>none
 |none=>none
def copdT(P:Program)(t:TypeId)(x:Operand):Option Opd:=
 match copd x with
 |some (.c (.agg cs))=>some (.c (.agg (nilsAs (cellSz P 12 t) cs)))
 |some (.c v)=>some (.c (nilAs (eszT P t) v))
 |y=>y
def copdsT(P:Program):List TypeId→List Operand→Option (List Opd)
 |_,[]=>some []
 |t::ts,x::r=>match copdT P t x,copdsT P ts r with
   |some a,some b=>some (a::b)
   |_,_=>none
 |[],x::r=>match copd x,copdsT P [] r with
   |some a,some b=>some (a::b)
   |_,_=>none
mutual
def plainKs(P:Program):Nat→TypeId→Option (List Bool)
 |0,_=>none
 |d+1,t=>match P.underlying t with
   |some (.int _)=>some [true]
   |some .bool=>some [false]
   |some (.struct fs)=>if P.stoodInHeld t then none else plainFs P d fs.toList 0
   |_=>none
def plainFs(P:Program):Nat→List Field→Nat→Option (List Bool)
 |0,_,_=>none
 |_+1,[],_=>some []
 |d+1,f::r,n=>if f.name≠ "_" ∧f.offset=n then(match plainKs P d f.type with
  |some ks=>if sizeT P f.type=some ks.length then(plainFs P d r (n+ks.length)).map (ks ++ ·)else none
  |none=>none)else none
end
def plainT(P:Program)(t:TypeId):Option (List Bool):=if P.eqGuardType P.depth t then none else plainKs P 40 t
def parts(P:Program)(fs:Array Field):List (Nat×Operand)→Option (List (Nat×Nat×Opd))
 |[]=>some []
 |(i,x)::r=>match fs[i]?,parts P fs r with
   |some f,some r=>match sizeT P f.type,copdT P f.type x with
     |some n,some x=>some ((f.offset,n,x)::r)
     |_,_=>none
   |_,_=>none
def partsA(P:Program)(el:TypeId)(size:Nat):List (Nat×Operand)→Option (List (Nat×Nat×Opd))
 |[]=>some []
 |(i,x)::r=>match copdT P el x,partsA P el size r with
   |some x,some r=>some ((i*size,size,x)::r)
   |_,_=>none
def partsL(P:Program)(el:TypeId):List (Nat×Operand)→Option (List (Nat×Opd))
 |[]=>some []
 |(i,x)::r=>match copdT P el x,partsL P el r with
   |some x,some r=>some ((i,x)::r)
   |_,_=>none
def pkArr(P:Program)(n:Nat)(el:TypeId):Option Nat:=
 match P.underlying el with
 |some (.int .i64)=>if sizeT P el=some 1∧P.cellsOf el=1 then some n else none
 |_=>none
mutual
def pkT(P:Program):Nat→TypeId→Option Nat
 |0,_=>none
 |d+1,t=>match P.underlying t with
   |some (.int .i64)=>some 1
   |some (.array n el)=>pkArr P n el
   |some (.struct fs)=>if P.stoodInHeld t then none else pkFs P d fs.toList 0
   |_=>none
def pkFs(P:Program):Nat→List Field→Nat→Option Nat
 |0,_,_=>none
 |_+1,[],_=>some 0
 |d+1,f::r,n=>if f.name≠ "_" ∧f.offset=n then(match pkT P d f.type with
  |some k=>if sizeT P f.type=some k then(pkFs P d r (n+k)).map (k+ ·)else none
  |none=>none)else none
end
def zeroInt(P:Program)(el:TypeId):Bool:=
 match P.info? el with
 |some i=>match i.zero with
   |some (.int .i64 n)=>n==0
   |_=>false
 |none=>false
def mapTag(P:Program)(t:TypeId):Option (Option Nat×TypeId×TypeId):=
 match P.underlying t with
 |some (.map k el)=>match P.underlying el with
   |some (.int .i64)=>match P.underlying k with
     |some (.int .i64)=>some (none,k,el)
     |some (.struct _)=>(pkT P 40 k).map fun n=>(some n,k,el)
     |_=>none
   |_=>none
 |_=>none
def mapPair(P:Program)(t:TypeId):Bool:=
 match P.underlying t with
 |some (.map k el)=>match P.underlying k with
   |some (.int .u8)=>match P.info? el with
     |some i=>match i.zero with
       |some (.agg cs)=>(match cs.toList with
         |[.int .i64 x, .int .i64 y]=>x==0&&y==0
         |_=>false)
       |_=>false
     |none=>false
   |_=>false
 |_=>false
def compOp(P:Program)(o:Oper):Option AOp:=
 match o.op with
 | .move x| .assign x=>(copdT P o.type x).map .mv
 | .pick c a b=>match copd c,copd a,copd b with
   |some c,some a,some b=>some (.pick c a b)
   |_,_,_=>none
 | .alloc t=>(zeroT P t).map .alloc
 | .box t x=>(copdT P t x).map .box
 | .build t ps=>match P.underlying t,zeroT P t with
   |some (.struct fs),some z=>if fs.toList.all fun f=>(P.info? f.type).isSome then(parts P fs ps.toList).map (.build z)else none
   |some (.array _ el),some z=>match sizeT P el with
     |some n=>(partsA P el n ps.toList).map (.build z)
     |none=>none
   |_,_=>none
 | .buildSlice t len ps=>match P.underlying t with
   |some (.slice el)=>match zeroT P el,partsL P el ps.toList with
     |some z,some ps=>if 0<z.length∧len*z.length≤4096∧sizeT P el=some z.length then some (.lit z len ps)else none
     |_,_=>none
   |_=>none
 | .load t (.global g)=>match nT P t,laidG P g with
   |some (some n),some l=>if n=l.length then some (.mv (.c (.agg (l.map i64))))else none
   |_,_=>none
 | .load t a=>match nT P t,copd a with
   |some n,some a=>some (.load n a)
   |_,_=>none
 | .store t a v=>match sizeT P t,copd a,copdT P t v with
   |some n,some a,some v=>some (.store n a v)
   |_,_,_=>none
 | .nilCheck x=>(copd x).map .nilck
 | .binOp op t x y _=>match copd x,copd y with
   |some x,some y=>match op,P.underlying t with
     | .eql,some (.struct _)=>(plainT P t).map fun ks=> .eqa ks false x y
     | .neq,some (.struct _)=>(plainT P t).map fun ks=> .eqa ks true x y
     |op,some (.int _)=>some (.bin op x y)
     | .eql,some (.slice _)=>match y with
       | .c (.sl .full 0 [])=>some (.isnil false x)
       |_=>none
     | .neq,some (.slice _)=>match y with
       | .c (.sl .full 0 [])=>some (.isnil true x)
       |_=>none
     | .eql,some .bool=>some (.eqb false x y)
     | .neq,some .bool=>some (.eqb true x y)
     |_,_=>none
   |_,_=>none
 | .unOp op _ x=>(copd x).map (.un op)
 | .convert src dst x=>match P.underlying src,P.underlying dst,copd x with
   |some (.int _),some (.int k),some x=>some (.conv k x)
   |_,_,_=>none
 | .makeFunc (.func f) first cap=>match copds first.toList,copds cap.toList with
   |some a,some b=>some (.mkfn f a b)
   |_,_=>none
 | .slice t x lo hi mx=>match P.underlying t with
   |some (.slice el)=>match copd x,copdO lo,copdO hi,copdO mx,sizeT P el with
     |some x,some lo,some hi,some mx,some z=>if mx.isSome&&hi.isNone then none else some (.slice z x lo hi mx)
     |_,_,_,_,_=>none
   |some (.array n el)=>match copd x,copdO hi,sizeT P el with
     |some x,some hi,some 1=>if lo.isSome||mx.isSome||n=0 then none else some (.slarr n x hi)
     |_,_,_=>none
   |_=>none
 | .fieldAddr t x f=>match P.underlying t with
   |some (.struct fs)=>match fs[f]?,copd x with
     |some fl,some x=>match sizeT P fl.type with
       |some n=>if n=0 then none else some (.faddr fl.offset x)
       |none=>none
     |_,_=>none
   |_=>none
 | .field t x f=>match P.underlying t with
   |some (.struct fs)=>match fs[f]?,copd x with
     |some fl,some x=>(nT P fl.type).map fun n=> .field n fl.offset x
     |_,_=>none
   |_=>none
 | .indexAddr t x i=>match P.underlying t,copd x,copd i with
   |some (.slice el),some x,some i=>match sizeT P el with
     |some n=>if n=0 then none else some (.idxs n x i)
     |none=>none
   |some (.array len el),some x,some i=>match sizeT P el with
     |some n=>if n=0 then none else some (.idxa len n x i)
     |none=>none
   |_,_,_=>none
 | .index t x i=>match P.underlying t with
   |some .string=>match x,copd i with
     | .const (.string bs),some i=>some (.strix (bs.data.toList.map (·.toNat)) i)
     |_,_=>none
   |_=>match P.underlying t,copd x,copd i with
     |some (.array len el),some x,some i=>match sizeT P el,nT P el with
       |some n,some k=>if n=0 then none else some (.idxv len n k x i)
       |_,_=>none
     |_,_,_=>none
 | .extract x i=>(copd x).map fun x=> .ext x i
 | .makeSlice t l c=>match P.underlying t with
   |some (.slice el)=>match zeroT P el,P.info? el,copd l,copd c with
     |some z,some i,some l,some c=>if 0<z.length∧i.size=z.length then some (.mksl z i.bytes l c)else none
     |_,_,_,_=>none
   |_=>none
 | .call c=>match c.callee with
   | .value (.func f)=>(copdsT P c.argTypes.toList c.args.toList).map (.call f)
   | .value x=>match copd x,copdsT P c.argTypes.toList c.args.toList with
     |some x,some as=>some (.callv x as)
     |_,_=>none
   | .builtin .len=>match c.argTypes.toList,c.args.toList with
     |[t],[x]=>match P.underlying t,copd x with
       |some (.slice _),some x=>some (.len x)
       |some (.array n _),some _=>some (.mv (.c (i64 n)))
       |_,_=>none
     |_,_=>none
   | .builtin .append=>match c.argTypes.toList,c.args.toList with
     |[t,u],[x,y]=>match P.underlying t,P.underlying u,copd x,copd y with
       |some (.slice el),some (.slice _),some x,some y=>match P.info? el with
         |some i=>match i.zero with
           |some z=>if 0<i.size∧z.cells.size=i.size∧t=u then some (.app i.size i.bytes x y)else none
           |none=>none
         |none=>none
       |_,_,_,_=>none
     |_,_=>none
   | .builtin .clear=>match c.argTypes.toList,c.args.toList with
     |[t],[x]=>match P.underlying t,copd x with
       |some (.slice el),some x=>match zeroT P el,sizeT P el with
         |some z,some n=>if 0<z.length∧n=z.length then some (.clear z x)else none
         |_,_=>none
       |_,_=>none
     |_,_=>none
   | .builtin .max=>match copds c.args.toList with
     |some [x,y]=>some (.mm true x y)
     |some [x,y,z]=>some (.mm3 true x y z)
     |_=>none
   | .builtin .min=>match copds c.args.toList with
     |some [x,y]=>some (.mm false x y)
     |some [x,y,z]=>some (.mm3 false x y z)
     |_=>none
   |_=>none
 | .makeMap t none=>if mapPair P t=true then some .mkmq else(mapTag P t).map fun g=> .mkmap g.1
 | .lookup t m k ok=>if mapPair P t=true then(match copd m,copd k with
  |some m,some k=>some (.mqget ok m k)
  |_,_=>none)else match mapTag P t,copd m,copd k with
   |some g,some m,some k=>if zeroInt P g.2.2=true then some (.mget g.1 ok m k)else none
   |_,_,_=>none
 | .insert t m k v=>if mapPair P t=true then(match copd m,copd k,copd v with
  |some m,some k,some v=>some (.mqput m k v)
  |_,_,_=>none)else none
 | .mapUpdate t m k v=>if mapPair P t=true then(match copd m,copd k,copd v with
  |some m,some k,some v=>some (.mqput m k v)
  |_,_,_=>none)else match mapTag P t,copd m,copd k,copd v with
   |some g,some m,some k,some v=>some (.mput g.1 m k v)
   |_,_,_,_=>none
 | .mapEntry t m k=>match mapTag P t,copd m,copd k with
   |some g,some m,some k=>if zeroInt P g.2.2=true then some (.ment g.1 m k)else none
   |_,_,_=>none
 | .entryStore _ m i v=>match copd m,copd i,copd v with
   |some m,some i,some v=>some (.mest m i v)
   |_,_,_=>none
 |_=>none
def directs(o:Oper):List Nat:=(o.after.toList.filter (Region.binds .any)).map (·.on)
def pres:List Oper→List (List Nat)→List (List Nat)
 |[],acc=>acc
 |o::r,acc=>pres r (acc ++[dedup (directs o ++(directs o).flatMap fun i=>acc.getD i [])])
def presOk:List Oper→Nat→List (List Nat)→Bool
 |[],_,_=>true
 |o::r,j,ps=>(directs o).all (fun i=>i<j&&(ps.getD j []).contains i)&&
   (ps.getD j []).all (fun i=>i<j&&((directs o).contains i||(directs o).any fun k=>(ps.getD k []).contains i))&&presOk r (j+1) ps
def compOpN(P:Program)(m:Bool)(o:Oper):Option AOp:=if m then(compOp P o).map AOp.mut else compOp P o
def isDefer(o:Oper):Bool:=match o.op with
 | .defer _=>true
 |_=>false
def compOpM(P:Program)(m:Bool)(o:Oper):Option AOp:=if isDefer o=true then none else some ((compOpN P m o).getD .fail)
theorem compOpM_cases {P:Program} {m:Bool} {o:Oper} {ao:AOp}(h:compOpM P m o=some ao):isDefer o=false∧(compOpN P m o=some ao∨ao= .fail):=by
 unfold compOpM at h
 split at h
 ·cases h
 ·rename_i hd
  refine⟨by simpa using hd,?_⟩
  cases hc:compOpN P m o with
  |none=>rw[hc]at h;cases h;exact .inr rfl
  |some x=>rw[hc]at h;cases h;exact .inl rfl
def compOpers(P:Program)(N:Nat)(muts:List Nat)(ops:Array Oper):List (Oper×Nat)→Option (List AOper)
 |[]=>some []
 |(o,_)::r=>match compOpM P (o.dst.any muts.contains) o,compOpers P N muts ops r with
   |some op,some r=>
     if o.dst.all (· <N)then
      match o.guard with
      |none=>some ({dst:=o.dst,op,guard:=none}::r)
      |some (g,want)=>match (ops[g]?).bind (·.dst)with
        |some slot=>some ({dst:=o.dst,op,guard:=some (slot,want)}::r)
        |none=>none
     else none
   |_,_=>none
def rootOf(als:List AOper):Nat→Nat→Nat
 |0,t=>t
 |k+1,t=>match als.find? (fun o=>o.dst==some t)with
   |some o=>match o.op with
     | .faddr _ (.t x)=>rootOf als k x
     | .nilck (.t x)=>rootOf als k x
     | .mv (.t x)=>rootOf als k x
     | .idxa _ _ (.t x) _=>rootOf als k x
     |_=>t
   |none=>t
def hides(al:List (Nat×Nat))(als:List AOper)(ps:List (List Nat))(i:Nat):List (AOper×Nat)→List Nat
 |[]=>[]
 |(o,j)::r=>match o.op with
   | .store _ (.t a) _=>if i<j&& !(ps.getD j []).contains i then(match al.lookup (rootOf als 20 a)with|some l=>l|none=>16*rootOf als 20 a)::hides al als ps i r else hides al als ps i r
   | .app _ _ (.t a) _=>match al.lookup (1000000+a)with
     |some l=>if i<j&& !(ps.getD j []).contains i then l::888888::hides al als ps i r else hides al als ps i r
     |none=>hides al als ps i r
   | .call _ _=>match o.dst.bind fun d=>al.lookup (2000000+d)with
     |some l=>if i !=j&& !(ps.getD j []).contains i&& !(ps.getD i []).contains j then l::hides al als ps i r else hides al als ps i r
     |none=>match o.dst.bind fun d=>al.lookup (3000000+d)with
       |some l=>if i==j then l::hides al als ps i r else hides al als ps i r
       |none=>hides al als ps i r
   | .ment _ _ _=>match o.dst.bind fun d=>al.lookup (2000000+d)with
     |some l=>if i !=j&& !(ps.getD j []).contains i&& !(ps.getD i []).contains j then l::hides al als ps i r else hides al als ps i r
     |none=>hides al als ps i r
   |_=>hides al als ps i r
def drawn(al:List (Nat×Nat))(als:List AOper)(ps:List (List Nat)):List (AOper×Nat)→List AOper
 |[]=>[]
 |(o,i)::r=> {o with pre:=ps.getD i [],hide:=hides al als ps i als.zipIdx}::drawn al als ps r
inductive Gh where
 |t (t l sz:Nat)
 |c (t off l sz:Nat)
structure LoopAnn where
 gs:List Gh
 live:List Nat
 keep:List Nat
structure Ann where
 live:List (List Nat)
 loops:List LoopAnn
 sites:List Nat
 frz:List (List Nat):=[]
 muts:List Nat:=[]
 own:Bool:=false
 alias:List (Nat×Nat):=[]
def ghosts:List Gh→AC→AC
 |[],c=>c
 | .t t l z::r,c=> .seq (.thaw t l z) (ghosts r c)
 | .c t off l z::r,c=> .seq (.thawc t off l z) (ghosts r c)
def frozen:List Nat→AC→AC
 |[],c=>c
 |ls,c=> .seq (.freeze ls) c
def isNilOp(k:Nat)(o:AOper):Bool:=match o.dst,o.op with
 |some d, .isnil _ _=>d==k
 |_,_=>false
def notOnly:AC→Bool
 | .only _=>false
 |_=>true
def mkSeq:AC→AC→AC
 | .seq (.region d ops live) (.cond (.t k) x .skip),y=>if (ops.any (isNilOp k)&&notOnly x)=true then .seq (.region d ops live) (.cond (.t k) (.only x) y)else .seq (.seq (.region d ops live) (.cond (.t k) x .skip)) y
 |x,y=> .seq x y
theorem mkSeq_cases(x y:AC):mkSeq x y= .seq x y∨ ∃d ops live k z,x= .seq (.region d ops live) (.cond (.t k) z .skip)∧notOnly z=true∧mkSeq x y= .seq (.region d ops live) (.cond (.t k) (.only z) y):=by
 unfold mkSeq
 split
 ·split
  ·rename_i h
   simp only[Bool.and_eq_true]at h
   exact .inr ⟨_,_,_,_,_,rfl,h.2,rfl⟩
  ·exact .inl rfl
 ·exact .inl rfl
def noRng:Code→Bool
 | .seq a b=>noRng a&&noRng b
 | .cond _ a b=>noRng a&&noRng b
 | .block _ b=>noRng b
 | .loop b=>noRng b
 | .scope b=>noRng b
 | .rangeFunc _ _ _ _=>false
 |_=>true
def comp(P:Program)(N:Nat):Code→Ann→Option (AC×Ann)
 | .skip,a=>some (.skip,a)
 | .region _ ops d,a=>match a.live with
   |live::r=>match compOpers P N a.muts ops ops.toList.zipIdx with
     |some als=>if d then
      (if presOk ops.toList 0 (pres ops.toList [])then some (frozen (a.frz.headD []) (.region true (drawn a.alias als (pres ops.toList []) als.zipIdx) live),{a with live:=r,frz:=a.frz.tail})else none)
       else some (frozen (a.frz.headD []) (.region false als live),{a with live:=r,frz:=a.frz.tail})
     |none=>none
   |[]=>none
 | .seq x y,a=>match comp P N x a with
   |some (x',a1)=>match comp P N y a1 with
     |some (y',a2)=>some (mkSeq x' y',a2)
     |none=>none
   |none=>none
 | .cond c x y,a=>match copd c,comp P N x a with
   |some c,some (x',a1)=>match comp P N y a1 with
     |some (y',a2)=>some (.cond c x' y',a2)
     |none=>none
   |_,_=>none
 | .block id b,a=>match comp P N b a with
   |some (b',a1)=>some (.block id b',a1)
   |none=>none
 | .loop b,a=>match a.loops with
   |la::r=>match comp P N b {a with loops:=r}with
     |some (b',a1)=>some (ghosts la.gs (.loop la.live la.keep b'),a1)
     |none=>none
   |[]=>none
 | .scope b,a=>match comp P N b a with
   |some (b',a1)=>some (.scope b',a1)
   |none=>none
 | .label _,a=>some (.label,a)
 | .exit id,a=>some (.exit id,a)
 | .ret,a=>some (.ret,a)
 | .rangeFunc f ps assign body,a=>match a.sites with
   |site::r=>match copd f,comp P N assign {a with sites:=r}with
     |some f,some (A,a1)=>match comp P N body a1 with
       |some (B,a2)=>if noRng assign&&noRng body&&ps.toList.all (· <N)then some (.rng site ps.toList A B f,a2)else none
       |none=>none
     |_,_=>none
   |[]=>none
 | .goto _,_=>none
 | .refuse _,_=>none
theorem comp_cond_inv {P N x a k z b a1}(h:comp P N x a=some (.cond (.t k) z b,a1)): ∃c x0 y0 am,x= .cond c x0 y0∧copd c=some (.t k)∧comp P N x0 a=some (z,am)∧comp P N y0 am=some (b,a1):=by
 cases x with
 |cond c x0 y0=>
   simp only[comp]at h
   split at h
   ·rename_i c' x' am hc hx
    split at h
    ·rename_i y' a2 hy
     simp only[Option.some.injEq,Prod.mk.injEq,AC.cond.injEq]at h
     obtain⟨⟨rfl,rfl,rfl⟩,rfl⟩:=h
     exact⟨c,x0,y0,am,rfl,hc,hx,hy⟩
    ·cases h
   ·cases h
 |seq x1 x2=>
   simp only[comp]at h
   split at h
   ·rename_i x' am hx
    split at h
    ·rename_i y' a2 hy
     simp only[Option.some.injEq,Prod.mk.injEq]at h
     rcases mkSeq_cases x' y' with e|⟨_,_,_,_,_,_,_,e⟩
     ·rw[e]at h;cases h.1
     ·rw[e]at h;cases h.1
    ·cases h
   ·cases h
 |region id ops d=>
   simp only[comp]at h
   split at h
   ·split at h
    ·split at h
     ·split at h
      ·simp only[Option.some.injEq,Prod.mk.injEq]at h
       have h1:=h.1
       unfold frozen at h1
       split at h1<;>cases h1
      ·cases h
     ·simp only[Option.some.injEq,Prod.mk.injEq]at h
      have h1:=h.1
      unfold frozen at h1
      split at h1<;>cases h1
    ·cases h
   ·cases h
 |loop b=>
   simp only[comp]at h
   split at h
   ·split at h
    ·rename_i la _ _ _ _ _
     simp only[Option.some.injEq,Prod.mk.injEq]at h
     have h1:=h.1
     unfold ghosts at h1
     split at h1<;>cases h1
    ·cases h
   ·cases h
 |rangeFunc f ps assign body=>
   simp only[comp]at h
   split at h
   ·split at h
    ·split at h
     ·split at h
      ·simp only[Option.some.injEq,Prod.mk.injEq]at h;cases h.1
      ·cases h
     ·cases h
    ·cases h
   ·cases h
 |block id b=>
   simp only[comp]at h
   split at h
   ·simp only[Option.some.injEq,Prod.mk.injEq]at h;cases h.1
   ·cases h
 |scope b=>
   simp only[comp]at h
   split at h
   ·simp only[Option.some.injEq,Prod.mk.injEq]at h;cases h.1
   ·cases h
 |skip=>simp only[comp,Option.some.injEq,Prod.mk.injEq]at h;cases h.1
 |label l=>simp only[comp,Option.some.injEq,Prod.mk.injEq]at h;cases h.1
 |exit id=>simp only[comp,Option.some.injEq,Prod.mk.injEq]at h;cases h.1
 |ret=>simp only[comp,Option.some.injEq,Prod.mk.injEq]at h;cases h.1
 |goto l=>simp[comp]at h
 |refuse m=>simp[comp]at h
theorem comp_seq_inv {P N x a d ops live k z b a1}(hz:notOnly z=true)(h:comp P N x a=some (.seq (.region d ops live) (.cond (.t k) z b),a1)): ∃r c x0 y0 am an,x= .seq r (.cond c x0 y0)∧comp P N r a=some (.region d ops live,am)∧copd c=some (.t k)∧comp P N x0 am=some (z,an)∧comp P N y0 an=some (b,a1):=by
 cases x with
 |seq x1 x2=>
   simp only[comp]at h
   split at h
   ·rename_i x' am hx
    split at h
    ·rename_i y' a2 hy
     simp only[Option.some.injEq,Prod.mk.injEq]at h
     obtain⟨h1,rfl⟩:=h
     rcases mkSeq_cases x' y' with e|⟨_,_,_,_,_,_,_,e⟩
     ·rw[e]at h1
      simp only[AC.seq.injEq]at h1
      obtain⟨rfl,rfl⟩:=h1
      obtain⟨c,x0,y0,an,rfl,k1,k2,k3⟩:=comp_cond_inv hy
      exact⟨x1,c,x0,y0,am,an,rfl,hx,k1,k2,k3⟩
     ·rw[e]at h1
      simp only[AC.seq.injEq,AC.cond.injEq]at h1
      obtain⟨_,_,rfl,_⟩:=h1
      cases hz
    ·cases h
   ·cases h
 |cond c x0 y0=>
   simp only[comp]at h
   split at h
   ·split at h
    ·simp only[Option.some.injEq,Prod.mk.injEq]at h;cases h.1
    ·cases h
   ·cases h
 |region id ops d=>
   simp only[comp]at h
   split at h
   ·split at h
    ·split at h
     ·split at h
      ·simp only[Option.some.injEq,Prod.mk.injEq]at h
       have h1:=h.1
       unfold frozen at h1
       split at h1<;>cases h1
      ·cases h
     ·simp only[Option.some.injEq,Prod.mk.injEq]at h
      have h1:=h.1
      unfold frozen at h1
      split at h1<;>cases h1
    ·cases h
   ·cases h
 |loop b=>
   simp only[comp]at h
   split at h
   ·split at h
    ·simp only[Option.some.injEq,Prod.mk.injEq]at h
     have h1:=h.1
     unfold ghosts at h1
     split at h1<;>cases h1
    ·cases h
   ·cases h
 |rangeFunc f ps assign body=>
   simp only[comp]at h
   split at h
   ·split at h
    ·split at h
     ·split at h
      ·simp only[Option.some.injEq,Prod.mk.injEq]at h;cases h.1
      ·cases h
     ·cases h
    ·cases h
   ·cases h
 |block id b=>
   simp only[comp]at h
   split at h
   ·simp only[Option.some.injEq,Prod.mk.injEq]at h;cases h.1
   ·cases h
 |scope b=>
   simp only[comp]at h
   split at h
   ·simp only[Option.some.injEq,Prod.mk.injEq]at h;cases h.1
   ·cases h
 |skip=>simp only[comp,Option.some.injEq,Prod.mk.injEq]at h;cases h.1
 |label l=>simp only[comp,Option.some.injEq,Prod.mk.injEq]at h;cases h.1
 |exit id=>simp only[comp,Option.some.injEq,Prod.mk.injEq]at h;cases h.1
 |ret=>simp only[comp,Option.some.injEq,Prod.mk.injEq]at h;cases h.1
 |goto l=>simp[comp]at h
 |refuse m=>simp[comp]at h
def compRes(P:Program):List ResultVar→Option (List ARes)
 |[]=>some []
 | .tmp t::r=>(compRes P r).map (.t t:: ·)
 | .cell a t::r=>match nT P t,compRes P r with
   |some n,some r=>some (.cell a n::r)
   |_,_=>none
def compFn(P:Program)(fn:Func)(ann:Ann):Option AFn:=
 match fn.body with
 |some c=>match comp P fn.ntmps c ann,compRes P fn.results.toList with
   |some (body,_),some res=>if fn.params.size+fn.nfree≤fn.ntmps∧fn.name≠ "runtime.NumGoroutine" then some {np:=fn.params.size+fn.nfree,res,body,own:=ann.own}else none
   |_,_=>none
 |none=>none
end Go.Ab

/-
  The evaluator's limit over its fuel, and its equation: 'Run = step Run'.
-/
namespace Go.Ab
def Exec.le(X Y:Exec):Prop:= ∀c e s r,X c e s=some r→Y c e s=some r
section
variable {T : Tab} {X Y : Exec}
theorem enter_mono(h:Exec.le X Y) {f args lab s r}(hr:enter T X f args lab s=some r):enter T Y f args lab s=some r:=by
 unfold enter at*
 split at hr
 ·cases hr
 ·exact hr
 ·split at hr
  ·rename_i hn
   simp only[hn,if_true]
   split at hr
   ·rename_i ex e' s1 hx
    rw[h _ _ _ _ hx]
    exact hr
   ·cases hr
  ·cases hr
theorem enterV_mono(h:Exec.le X Y) {x args lab s r}(hr:enterV T X x args lab s=some r):enterV T Y x args lab s=some r:=by
 unfold enterV at*
 split at hr
 ·exact enter_mono h hr
 ·split at hr
  ·split at hr
   ·rename_i hn
    simp only[hn,if_true]
    split at hr
    ·rename_i e1 s1 hx
     rw[h _ _ _ _ hx]
     dsimp only
     split at hr
     ·split at hr
      ·rename_i ex e2 s2 hy
       rw[h _ _ _ _ hy]
       exact hr
      ·cases hr
     ·cases hr
    ·cases hr
   ·cases hr
  ·cases hr
 ·cases hr
theorem op1_mono(h:Exec.le X Y) {o e s r}(hr:op1 T X o e s=some r):op1 T Y o e s=some r:=by
 unfold op1 at*
 dsimp only at hr⊢
 split at hr
 ·exact enter_mono h hr
 ·exact enterV_mono h hr
 ·exact hr
theorem runOps_mono(h:Exec.le X Y): ∀ {l e s r},runOps T X l e s=some r→runOps T Y l e s=some r
 |[],_,_,_,hr=>hr
 |o::l,e,s,r,hr=>by
   unfold runOps at hr⊢
   split at hr
   ·rename_i hg
    split at hr
    ·rename_i v s' h1
     rw[op1_mono h h1]
     exact runOps_mono h hr
    ·cases hr
   ·rename_i g want hg
    split at hr
    ·rename_i b hb
     split at hr
     ·rename_i hw
      rw[if_pos hw]
      split at hr
      ·rename_i v s' h1
       rw[op1_mono h h1]
       exact runOps_mono h hr
      ·cases hr
     ·rename_i hw
      rw[if_neg hw]
      exact runOps_mono h hr
    ·exact runOps_mono h hr
    ·cases hr
theorem agree_all {α:Type} {l:List (Option α)} {r:α}(h:agree l=some r): ∀x∈l,x=some r:=by
 cases l with
 |nil=>cases h
 |cons x l=>
   simp only[agree]at h
   split at h
   ·rename_i hl
    subst h
    intro y hy
    rcases List.mem_cons.1 hy with rfl|hy
    ·rfl
    ·exact hl y hy
   ·cases h
theorem agree_of {α:Type} {l:List (Option α)} {r:α}(hl:l≠[])(h: ∀x∈l,x=some r):agree l=some r:=by
 cases l with
 |nil=>exact absurd rfl hl
 |cons x l=>
   have hx:=h x (by simp)
   subst hx
   simp only[agree]
   exact if_pos fun y hy=>h y (by simp[hy])
theorem runAny_mono(h:Exec.le X Y)(ops:List AOper)(live:List Nat): ∀ {f done e s r},runAny T X ops live f done e s=some r→runAny T Y ops live f done e s=some r
 |[],_,_,_,_,hr=>hr
 |_::f,done,e,s,r,hr=>by
   simp only[runAny]at hr⊢
   split at hr
   ·rename_i h0;rw[if_pos h0];exact hr
   ·rename_i h0
    rw[if_neg h0]
    refine agree_of (by simpa using h0) fun x hx=> ?_
    obtain⟨i,hi,rfl⟩:=List.mem_map.1 hx
    have h1:=agree_all hr _ (List.mem_map.2 ⟨i,hi,rfl⟩)
    split at h1
    ·rename_i o ho
     split at h1
     ·rename_i e1 s1 h2
      rw[runOps_mono h h2]
      exact runAny_mono h ops live h1
     ·cases h1
    ·cases h1
theorem dop_mono(h:Exec.le X Y) {o e vis rest r}(hr:dop T X o e vis rest=some r):dop T Y o e vis rest=some r:=by
 cases hk:o.op.callOf with
 |other=>simp only[dop,hk]at hr⊢;exact hr
 |static f a=>
   simp only[dop,hk]at hr⊢
   split at hr
   ·rename_i v s' h1
    rw[op1_mono h h1];exact hr
   ·cases hr
 |dyn f a=>
   simp only[dop,hk]at hr⊢
   split at hr
   ·rename_i v s' h1
    rw[op1_mono h h1];exact hr
   ·cases hr
theorem gop_mono(h:Exec.le X Y) {o e vis rest r}(hr:gop T X o e vis rest=some r):gop T Y o e vis rest=some r:=by
 unfold gop at*
 split at hr
 ·exact dop_mono h hr
 ·split at hr
  ·split at hr
   ·rename_i hb;rw[if_pos hb];exact dop_mono h hr
   ·rename_i hb;rw[if_neg hb];exact hr
  ·exact hr
  ·cases hr
theorem runDrawn_mono(h:Exec.le X Y) {loc0 rest e0}: ∀ {l i rs r},runDrawn T X loc0 rest e0 l i rs=some r→runDrawn T Y loc0 rest e0 l i rs=some r
 |[],_,_,_,hr=>hr
 |o::l,i,rs,r,hr=>by
   simp only[runDrawn]at hr⊢
   split at hr
   ·rename_i hm
    rw[if_pos hm]
    split at hr
    ·rename_i hc
     rw[if_pos hc]
     exact runDrawn_mono h hr
    ·cases hr
   rename_i hm
   rw[if_neg hm]
   split at hr
   ·rename_i hv
    rw[if_pos hv]
    split at hr
    ·rename_i v patch hd
     rw[gop_mono h hd]
     dsimp only
     split at hr
     ·rename_i hc
      rw[if_pos hc]
      exact runDrawn_mono h hr
     ·cases hr
    ·cases hr
   ·cases hr
theorem step_mono(h:Exec.le X Y):Exec.le (step T X) (step T Y):=by
 intro c e s r hr
 cases c with
 |skip=>exact hr
 |label=>exact hr
 |region d ops live=>
   cases d with
   |true=>
     simp only[step,stepDrawn]at hr⊢
     split at hr
     ·rename_i hb
      rw[if_pos hb]
      split at hr
      ·rename_i h1;rw[runAny_mono h _ _ h1];exact hr
      ·cases hr
     rename_i hb
     rw[if_neg hb]
     split at hr
     ·cases hr
     ·split at hr
      ·rename_i rs h1
       rw[runDrawn_mono h h1]
       dsimp only
       split at hr
       ·rename_i e' s' h2
        rw[runOps_mono h h2]
        exact hr
       ·cases hr
      ·cases hr
   |false=>
   simp only[step]at hr⊢
   split at hr
   ·rename_i e' s' h1
    rw[runOps_mono h h1]
    exact hr
   ·cases hr
 |only b=>
   simp only[step,onlyRet]at hr⊢
   split at hr
   ·rename_i e' s' h1
    rw[h _ _ _ _ h1]
    exact hr
   ·cases hr
 |seq a b=>
   simp only[step]at hr⊢
   split at hr
   ·rename_i e' s' h1
    rw[h _ _ _ _ h1]
    exact h _ _ _ _ hr
   ·rename_i h1
    rw[h _ _ _ _ hr]
    split
    ·rename_i e' s' h2;cases h2;exact absurd hr (h1 e' s')
    ·rfl
 |cond c a b=>
   simp only[step]at hr⊢
   split at hr
   ·exact h _ _ _ _ hr
   ·exact h _ _ _ _ hr
   ·split at hr
    ·rename_i r1 r2 h1 h2
     rw[h _ _ _ _ h1,h _ _ _ _ h2]
     exact hr
    ·cases hr
   ·cases hr
 |block id b=>
   simp only[step]at hr⊢
   split at hr
   ·rename_i k e' s' h1
    rw[h _ _ _ _ h1]
    exact hr
   ·rename_i h1
    rw[h _ _ _ _ hr]
    split
    ·rename_i k e' s' h2;cases h2;exact absurd hr (h1 k e' s')
    ·rfl
 |loop live keep b=>
   simp only[step,stepLoop]at hr⊢
   split at hr
   ·rename_i e' s' h1
    rw[h _ _ _ _ h1]
    exact h _ _ _ _ hr
   ·rename_i h1
    rw[h _ _ _ _ hr]
    split
    ·rename_i e' s' h2;cases h2;exact absurd hr (h1 e' s')
    ·rfl
 |scope b=>exact h _ _ _ _ hr
 |exit id=>exact hr
 |ret=>exact hr
 |thaw t l z=>exact hr
 |thawc t off l z=>exact hr
 |freeze ls=>exact hr
 |rng site ps A B f=>
   simp only[step]at hr⊢
   split at hr
   ·rename_i hn
    rw[if_pos hn]
    split at hr
    ·rename_i g first cap hf
     split at hr
     ·rename_i v s' h1
      rw[enter_mono h h1]
      exact hr
     ·cases hr
    ·cases hr
   ·cases hr
end
theorem exec_succ(T:Tab): ∀n,Exec.le (exec T n) (exec T (n+1))
 |0=>fun _ _ _ _ h=>by cases h
 |n+1=>step_mono (exec_succ T n)
theorem exec_le(T:Tab) {n m:Nat}(h:n≤m):Exec.le (exec T n) (exec T m):=by
 induction m with
 |zero=>cases Nat.le_zero.1 h;exact fun _ _ _ _ h=>h
 |succ m ih=>
   rcases Nat.lt_or_ge n (m+1)with h1|h1
   ·exact fun c e s r hr=>exec_succ T m _ _ _ _ (ih (by omega) c e s r hr)
   ·cases (show n=m+1 by omega);exact fun _ _ _ _ h=>h
open Classical in
noncomputable def Run(T:Tab):Exec:=fun c e s=>
 if h: ∃n r,exec T n c e s=some r then some h.choose_spec.choose else none
theorem run_iff {T:Tab} {c e s r}:Run T c e s=some r↔ ∃n,exec T n c e s=some r:=by
 unfold Run
 constructor
 ·intro h
  split at h
  ·rename_i hx
   cases h
   exact⟨_,hx.choose_spec.choose_spec⟩
  ·cases h
 ·rintro⟨n,hn⟩
  have hx: ∃n r,exec T n c e s=some r:=⟨n,r,hn⟩
  rw[dif_pos hx]
  have h1:=hx.choose_spec.choose_spec
  have a1:=exec_le T (Nat.le_max_left n hx.choose) _ _ _ _ hn
  have a2:=exec_le T (Nat.le_max_right n hx.choose) _ _ _ _ h1
  rw[a1]at a2
  exact a2.symm
theorem exec_le_run(T:Tab)(n:Nat):Exec.le (exec T n) (Run T):=fun _ _ _ _ h=>run_iff.2 ⟨n,h⟩
section
variable {T : Tab}
theorem enter_cont {f args lab s r}(hr:enter T (Run T) f args lab s=some r): ∃n,enter T (exec T n) f args lab s=some r:=by
 unfold enter at*
 split at hr
 ·cases hr
 ·exact⟨0,hr⟩
 ·split at hr
  ·rename_i hn
   simp only[hn,if_true]
   split at hr
   ·rename_i ex e' s1 hx
    obtain⟨n,h1⟩:=run_iff.1 hx
    exact⟨n,by rw[h1];exact hr⟩
   ·cases hr
  ·cases hr
theorem enterV_cont {x args lab s r}(hr:enterV T (Run T) x args lab s=some r): ∃n,enterV T (exec T n) x args lab s=some r:=by
 unfold enterV at*
 split at hr
 ·exact enter_cont hr
 ·split at hr
  ·split at hr
   ·rename_i hn
    simp only[hn,if_true]
    split at hr
    ·rename_i e1 s1 hx
     obtain⟨n,h1⟩:=run_iff.1 hx
     split at hr
     ·rename_i he
      split at hr
      ·rename_i ex e2 s2 hy
       obtain⟨m,h2⟩:=run_iff.1 hy
       refine⟨max n m,?_⟩
       rw[exec_le T (Nat.le_max_left n m) _ _ _ _ h1]
       dsimp only
       simp only[he]
       rw[exec_le T (Nat.le_max_right n m) _ _ _ _ h2]
       exact hr
      ·cases hr
     ·cases hr
    ·cases hr
   ·cases hr
  ·cases hr
 ·cases hr
theorem op1_cont {o e s r}(hr:op1 T (Run T) o e s=some r): ∃n,op1 T (exec T n) o e s=some r:=by
 unfold op1 at*
 dsimp only at hr⊢
 split at hr
 ·exact enter_cont hr
 ·exact enterV_cont hr
 ·exact⟨0,hr⟩
theorem runOps_cont: ∀ {l e s r},runOps T (Run T) l e s=some r→ ∃n,runOps T (exec T n) l e s=some r
 |[],_,_,_,hr=>⟨0,hr⟩
 |o::l,e,s,r,hr=>by
   unfold runOps at hr⊢
   split at hr
   ·split at hr
    ·rename_i v s' h1
     obtain⟨n,h2⟩:=op1_cont h1
     obtain⟨m,h3⟩:=runOps_cont hr
     refine⟨max n m,?_⟩
     rw[op1_mono (exec_le T (Nat.le_max_left n m)) h2]
     exact runOps_mono (exec_le T (Nat.le_max_right n m)) h3
    ·cases hr
   ·split at hr
    ·split at hr
     ·rename_i hw
      split at hr
      ·rename_i v s' h1
       obtain⟨n,h2⟩:=op1_cont h1
       obtain⟨m,h3⟩:=runOps_cont hr
       refine⟨max n m,?_⟩
       rw[if_pos hw,op1_mono (exec_le T (Nat.le_max_left n m)) h2]
       exact runOps_mono (exec_le T (Nat.le_max_right n m)) h3
      ·cases hr
     ·rename_i hw
      obtain⟨m,h3⟩:=runOps_cont hr
      exact⟨m,by rw[if_neg hw];exact h3⟩
    ·obtain⟨m,h3⟩:=runOps_cont hr
     exact⟨m,h3⟩
    ·cases hr
theorem runAny_cont(ops:List AOper)(live:List Nat): ∀ {f done e s r},runAny T (Run T) ops live f done e s=some r→ ∃n,runAny T (exec T n) ops live f done e s=some r
 |[],_,_,_,_,hr=>⟨0,hr⟩
 |_::f,done,e,s,r,hr=>by
   simp only[runAny]at hr⊢
   split at hr
   ·rename_i h0;exact⟨0,by rw[if_pos h0];exact hr⟩
   ·rename_i h0
    simp only[if_neg h0]
    have hall:=agree_all hr
    have key: ∀l:List Nat,(∀i∈l,i∈readyFrom 0 ops done)→ ∃n,∀i∈l,∀m,n≤m→(match ops[i]? with
     |some o=>match runOps T (exec T m) [o] e s with
       |some (e1,s1)=>runAny T (exec T m) ops live f (i::done) e1 s1
       |none=>none
     |none=>none)=some r:=by
     intro l
     induction l with
     |nil=>intro _;exact⟨0,fun i hi=>by cases hi⟩
     |cons i l ih=>
       intro hl
       obtain⟨n,hn⟩:=ih fun j hj=>hl j (by simp[hj])
       have h1:=hall _ (List.mem_map.2 ⟨i,hl i (by simp),rfl⟩)
       split at h1
       ·rename_i o ho
        split at h1
        ·rename_i e1 s1 h2
         obtain⟨n1,k1⟩:=runOps_cont h2
         obtain⟨n2,k2⟩:=runAny_cont ops live h1
         refine⟨max n (max n1 n2),fun j hj m hm=> ?_⟩
         rcases List.mem_cons.1 hj with rfl|hj
         ·simp only[ho]
          rw[runOps_mono (exec_le T (show n1≤m by omega)) k1]
          exact runAny_mono (exec_le T (show n2≤m by omega)) ops live k2
         ·exact hn j hj m (by omega)
        ·cases h1
       ·cases h1
    obtain⟨n,hn⟩:=key _ fun i hi=>hi
    refine⟨n,agree_of (by simpa using h0) fun x hx=> ?_⟩
    obtain⟨i,hi,rfl⟩:=List.mem_map.1 hx
    exact hn i hi n (Nat.le_refl _)
theorem dop_cont {o e vis rest r}(hr:dop T (Run T) o e vis rest=some r): ∃n,dop T (exec T n) o e vis rest=some r:=by
 cases hk:o.op.callOf with
 |other=>simp only[dop,hk]at hr⊢;exact⟨0,hr⟩
 |static f a=>
   simp only[dop,hk]at hr⊢
   split at hr
   ·rename_i v s' h1
    obtain⟨n,h2⟩:=op1_cont h1
    exact⟨n,by rw[h2];exact hr⟩
   ·cases hr
 |dyn f a=>
   simp only[dop,hk]at hr⊢
   split at hr
   ·rename_i v s' h1
    obtain⟨n,h2⟩:=op1_cont h1
    exact⟨n,by rw[h2];exact hr⟩
   ·cases hr
theorem gop_cont {o e vis rest r}(hr:gop T (Run T) o e vis rest=some r): ∃n,gop T (exec T n) o e vis rest=some r:=by
 unfold gop at*
 split at hr
 ·exact dop_cont hr
 ·split at hr
  ·split at hr
   ·rename_i hb
    obtain⟨n,h⟩:=dop_cont hr
    exact⟨n,by rw[if_pos hb];exact h⟩
   ·rename_i hb;exact⟨0,by rw[if_neg hb];exact hr⟩
  ·exact⟨0,hr⟩
  ·cases hr
theorem runDrawn_cont {loc0 rest e0}: ∀ {l i rs r},runDrawn T (Run T) loc0 rest e0 l i rs=some r→ ∃n,runDrawn T (exec T n) loc0 rest e0 l i rs=some r
 |[],_,_,_,hr=>⟨0,hr⟩
 |o::l,i,rs,r,hr=>by
   simp only[runDrawn]at hr⊢
   split at hr
   ·rename_i hm
    split at hr
    ·rename_i hc
     obtain⟨n2,h2⟩:=runDrawn_cont hr
     exact⟨n2,by rw[if_pos hm,if_pos hc];exact h2⟩
    ·cases hr
   rename_i hm
   split at hr
   ·rename_i hv
    split at hr
    ·rename_i v patch hd
     obtain⟨n1,h1⟩:=gop_cont hd
     split at hr
     ·rename_i hc
      obtain⟨n2,h2⟩:=runDrawn_cont hr
      refine⟨max n1 n2,?_⟩
      rw[if_neg hm,if_pos hv,gop_mono (exec_le T (Nat.le_max_left n1 n2)) h1]
      dsimp only
      rw[if_pos hc]
      exact runDrawn_mono (exec_le T (Nat.le_max_right n1 n2)) h2
     ·cases hr
    ·cases hr
   ·cases hr
theorem step_cont {c e s r}(hr:step T (Run T) c e s=some r): ∃n,step T (exec T n) c e s=some r:=by
 cases c with
 |skip=>exact⟨0,hr⟩
 |label=>exact⟨0,hr⟩
 |region d ops live=>
   cases d with
   |true=>
     simp only[step,stepDrawn]at hr⊢
     split at hr
     ·rename_i hb
      split at hr
      ·rename_i h1
       obtain⟨n,h2⟩:=runAny_cont _ _ h1
       exact⟨n,by rw[if_pos hb,h2];exact hr⟩
      ·cases hr
     rename_i hb
     simp only[if_neg hb]
     split at hr
     ·cases hr
     ·split at hr
      ·rename_i rs h1
       obtain⟨n,h2⟩:=runDrawn_cont h1
       split at hr
       ·rename_i e' s' h3
        obtain⟨m,h4⟩:=runOps_cont h3
        refine⟨max n m,?_⟩
        rw[runDrawn_mono (exec_le T (Nat.le_max_left n m)) h2]
        dsimp only
        rw[runOps_mono (exec_le T (Nat.le_max_right n m)) h4]
        exact hr
       ·cases hr
      ·cases hr
   |false=>
   simp only[step]at hr⊢
   split at hr
   ·rename_i e' s' h1
    obtain⟨n,h2⟩:=runOps_cont h1
    exact⟨n,by rw[h2];exact hr⟩
   ·cases hr
 |only b=>
   simp only[step,onlyRet]at hr⊢
   split at hr
   ·rename_i e' s' h1
    obtain⟨n,h2⟩:=run_iff.1 h1
    exact⟨n,by rw[h2];exact hr⟩
   ·cases hr
 |seq a b=>
   simp only[step]at hr⊢
   split at hr
   ·rename_i e' s' h1
    obtain⟨n,h2⟩:=run_iff.1 h1
    obtain⟨m,h3⟩:=run_iff.1 hr
    exact⟨max n m,by rw[exec_le T (Nat.le_max_left n m) _ _ _ _ h2];exact exec_le T (Nat.le_max_right n m) _ _ _ _ h3⟩
   ·rename_i h1
    obtain⟨n,h2⟩:=run_iff.1 hr
    refine⟨n,?_⟩
    rw[h2]
    split
    ·rename_i e' s' h3;cases h3;exact absurd hr (h1 e' s')
    ·rfl
 |cond c a b=>
   simp only[step]at hr⊢
   split at hr
   ·exact run_iff.1 hr
   ·exact run_iff.1 hr
   ·split at hr
    ·rename_i r1 r2 h1 h2
     obtain⟨n,k1⟩:=run_iff.1 h1
     obtain⟨m,k2⟩:=run_iff.1 h2
     refine⟨max n m,?_⟩
     rw[exec_le T (Nat.le_max_left n m) _ _ _ _ k1,exec_le T (Nat.le_max_right n m) _ _ _ _ k2]
     exact hr
    ·cases hr
   ·cases hr
 |block id b=>
   simp only[step]at hr⊢
   split at hr
   ·rename_i k e' s' h1
    obtain⟨n,h2⟩:=run_iff.1 h1
    exact⟨n,by rw[h2];exact hr⟩
   ·rename_i h1
    obtain⟨n,h2⟩:=run_iff.1 hr
    refine⟨n,?_⟩
    rw[h2]
    split
    ·rename_i k e' s' h3;cases h3;exact absurd hr (h1 k e' s')
    ·rfl
 |loop live keep b=>
   simp only[step,stepLoop]at hr⊢
   split at hr
   ·rename_i e' s' h1
    obtain⟨n,h2⟩:=run_iff.1 h1
    obtain⟨m,h3⟩:=run_iff.1 hr
    exact⟨max n m,by rw[exec_le T (Nat.le_max_left n m) _ _ _ _ h2];exact exec_le T (Nat.le_max_right n m) _ _ _ _ h3⟩
   ·rename_i h1
    obtain⟨n,h2⟩:=run_iff.1 hr
    refine⟨n,?_⟩
    rw[h2]
    split
    ·rename_i e' s' h3;cases h3;exact absurd hr (h1 e' s')
    ·rfl
 |scope b=>exact run_iff.1 hr
 |exit id=>exact⟨0,hr⟩
 |ret=>exact⟨0,hr⟩
 |thaw t l z=>exact⟨0,hr⟩
 |thawc t off l z=>exact⟨0,hr⟩
 |freeze ls=>exact⟨0,hr⟩
 |rng site ps A B f=>
   simp only[step]at hr⊢
   split at hr
   ·rename_i hn
    split at hr
    ·rename_i g first cap hf
     split at hr
     ·rename_i v s' h1
      obtain⟨n,h2⟩:=enter_cont h1
      exact⟨n,by rw[if_pos hn,h2];exact hr⟩
     ·cases hr
    ·cases hr
   ·cases hr
theorem run_eq(c:AC)(e:Env)(s:Stk):Run T c e s=step T (Run T) c e s:=by
 have key: ∀r,Run T c e s=some r↔step T (Run T) c e s=some r:=by
  intro r
  constructor
  ·intro h
   obtain⟨n,hn⟩:=run_iff.1 h
   cases n with
   |zero=>cases hn
   |succ n=>exact step_mono (exec_le_run T n) _ _ _ _ hn
  ·intro h
   obtain⟨n,hn⟩:=step_cont h
   exact run_iff.2 ⟨n+1,hn⟩
 cases h1:Run T c e s with
 |some r=>exact((key r).1 h1).symm
 |none=>
   cases h2:step T (Run T) c e s with
   |none=>rfl
   |some r=>rw[(key r).2 h2]at h1;cases h1
noncomputable def den(T:Tab)(f:FuncId)(args:List V)(lab:Nat)(s:Stk):Option (V×Stk):=enter T (Run T) f args lab s
noncomputable def denV(T:Tab)(x:V)(args:List V)(lab:Nat)(s:Stk):Option (V×Stk):=enterV T (Run T) x args lab s
end
end Go.Ab

/-
  Doors, the plain law: rising lists in order; lists as bits.
-/
import Derived.Test.YtmgkcipcjabigaaGreatDoorPtab
import Derived.Test.YtmgkcipcjabigaaGreatDoorAb8
set_option linter.unusedSimpArgs false
set_option linter.unusedVariables false
namespace Go.Proofs.YtmgkcipcjabigaaGreatDoor
def lexL:List Int→List Int→Int
 |[],b=>if 0<b.length then -1 else 0
 |_::_,[]=>1
 |x::a,y::b=>if x<y then -1 else if y<x then 1 else lexL a b
theorem lexL_self: ∀a,lexL a a=0
 |[]=>by simp[lexL]
 |x::a=>by simp[lexL,lexL_self a]
theorem lexL_trans: ∀a b c,lexL a b<0→lexL b c<0→lexL a c<0
 |[],b,[]=>by
   intro h h'
   cases b<;>simp[lexL]at h h'
 |[],_,_::_=>by intro _ _;simp[lexL]
 |x::a,[],c=>by simp[lexL]
 |x::a,y::b,[]=>by simp[lexL]
 |x::a,y::b,z::c=>by
   intro h h'
   simp only[lexL]at h h'⊢
   by_cases h1:x<y<;>by_cases h2:y<z<;>by_cases h3:y<x<;>by_cases h4:z<y<;>simp only[h1,h2,h3,h4,if_true,if_false]at h h'<;>
    first|omega|(rw[if_pos (by omega)];omega)|(rw[if_neg (by omega),if_neg (by omega)];exact lexL_trans a b c h h')
theorem lexL_eq: ∀a b,¬lexL a b<0→ ¬lexL b a<0→a=b
 |[],[]=>by simp
 |[],_::_=>by simp[lexL]
 |_::_,[]=>by simp[lexL]
 |x::a,y::b=>by
   intro h h'
   simp only[lexL]at h h'
   by_cases h1:x<y<;>by_cases h2:y<x<;>simp only[h1,h2,if_true,if_false]at h h'<;>first|omega|(have:=lexL_eq a b h h';subst this;rw[show x=y by omega])
def cmpL(a b:List Int):Int:=if (a.length:Int)-b.length≠0 then(a.length:Int)-b.length else lexL a b
theorem cmpL_lt(a b:List Int):cmpL a b<0↔a.length<b.length∨a.length=b.length∧lexL a b<0:=by
 unfold cmpL;split<;>omega
theorem cmpL_irr(a:List Int): ¬cmpL a a<0:=by rw[cmpL_lt,lexL_self];omega
theorem cmpL_trans(a b c:List Int)(h:cmpL a b<0)(h':cmpL b c<0):cmpL a c<0:=by
 rw[cmpL_lt]at*
 rcases h with h|⟨h,h1⟩<;>rcases h' with h'|⟨h',h2⟩
 ·left;omega
 ·left;omega
 ·left;omega
 ·right;exact⟨by omega,lexL_trans a b c h1 h2⟩
theorem cmpL_eq(a b:List Int)(h: ¬cmpL a b<0)(h': ¬cmpL b a<0):a=b:=by
 rw[cmpL_lt]at h h'
 have e:a.length=b.length:=by omega
 exact lexL_eq a b (fun x=>h (.inr ⟨e,x⟩)) (fun x=>h' (.inr ⟨e.symm,x⟩))
def fromOf(f:List Int):Nat:=match f.getLast? with
 |some x=>(x+1).toNat
 |none=>0
def listsP:Nat→List Int→Nat→List (List Int)
 |0,f,_=>[f]
 |m+1,f,b=>(List.range' (fromOf f) (b-fromOf f)).flatMap fun(n:Nat)=>listsP m (f ++[(n:Int)]) b
theorem fromOf_snoc(f:List Int)(n:Nat):fromOf (f ++[(n:Int)])=n+1:=by
 unfold fromOf;rw[List.getLast?_append];simp
theorem lists_mem: ∀(m:Nat) (f:List Int) (b:Nat) (x:List Int),x∈listsP m f b↔ ∃g:List Int,x=f ++g∧g.length=m∧g.Pairwise (· < ·)∧ ∀y∈g,(fromOf f:Int)≤y∧y<b
 |0,f,b,x=>by
   simp only[listsP,List.mem_singleton]
   constructor
   ·rintro rfl;exact⟨[],by simp,rfl, .nil,by simp⟩
   ·rintro⟨g,rfl,h,_,_⟩
    rw[List.eq_nil_of_length_eq_zero h,List.append_nil]
 |m+1,f,b,x=>by
   simp only[listsP,List.mem_flatMap,List.mem_range']
   constructor
   ·rintro⟨n,⟨i,hi,rfl⟩,h⟩
    obtain⟨g,rfl,h1,h2,h3⟩:=(lists_mem m _ b x).1 h
    rw[fromOf_snoc]at h3
    refine⟨((fromOf f+1*i:Nat):Int)::g,by simp,by simp[h1],List.pairwise_cons.2 ⟨fun y hy=>by have:=h3 y hy;omega,h2⟩,fun y hy=> ?_⟩
    rcases List.mem_cons.1 hy with rfl|hy
    ·omega
    ·have:=h3 y hy;omega
   ·rintro⟨g,rfl,h1,h2,h3⟩
    match g,h1 with
    |y::g,h1=>
      have hy:=h3 y (by simp)
      obtain⟨n,rfl⟩: ∃n:Nat,y=n:=⟨y.toNat,by omega⟩
      refine⟨n,⟨n-fromOf f,by omega,by omega⟩,(lists_mem m _ b _).2 ⟨g,by simp,by simpa using h1,(List.pairwise_cons.1 h2).2,fun z hz=> ?_⟩⟩
      rw[fromOf_snoc]
      have a1:=(List.pairwise_cons.1 h2).1 z hz
      have a2:=h3 z (by simp[hz])
      omega
theorem lex_append: ∀(f a b:List Int),lexL (f ++a) (f ++b)=lexL a b
 |[],_,_=>rfl
 |x::f,a,b=>by
   rw[List.cons_append,List.cons_append,lexL,if_neg (by omega),if_neg (by omega)];exact lex_append f a b
theorem lists_sorted: ∀(m:Nat) (f:List Int) (b:Nat),(listsP m f b).Pairwise fun x y=>lexL x y<0
 |0,f,b=>by simp[listsP]
 |m+1,f,b=>by
   rw[listsP,List.pairwise_flatMap]
   refine⟨fun n _=>lists_sorted m _ b,?_⟩
   refine(List.pairwise_lt_range' (s:=fromOf f) (n:=b-fromOf f)).imp ?_
   intro n k hnk x hx y hy
   obtain⟨g,rfl,_⟩:=(lists_mem m _ b x).1 hx
   obtain⟨h,rfl,_⟩:=(lists_mem m _ b y).1 hy
   rw[List.append_assoc,List.append_assoc,lex_append,List.singleton_append,List.singleton_append,lexL,if_pos (by omega)]
   decide
def allL(n:Nat):List (List Int):=[]::(List.range' 1 n).flatMap fun m=>listsP m [] n
theorem pair_lenL: ∀ {l:List Int} {lo n:Nat},l.Pairwise (· < ·)→(∀x∈l,(lo:Int)≤x∧x<n)→l.length+lo≤max lo n
 |[],_,_,_,_=>by simp;omega
 |x::l,lo,n,h,hb=>by
   have h1:=hb x (by simp)
   have:=pair_lenL (l:=l) (lo:=lo+1) (n:=n) (List.Pairwise.of_cons h) fun y hy=>by
    have:=List.rel_of_pairwise_cons h hy
    have:=hb y (by simp[hy])
    omega
   simp only[List.length_cons];omega
theorem allL_mem {n:Nat} {x:List Int}:x∈allL n↔x.Pairwise (· < ·)∧ ∀y∈x,0≤y∧y<n:=by
 simp only[allL,List.mem_cons,List.mem_flatMap,List.mem_range']
 constructor
 ·rintro(rfl|⟨m,_,h⟩)
  ·exact⟨.nil,by simp⟩
  ·obtain⟨g,rfl,_,h2,h3⟩:=(lists_mem m [] n x).1 h
   exact⟨h2,h3⟩
 ·rintro⟨h1,h2⟩
  by_cases h0:x=[]
  ·exact .inl h0
  ·right
   have hl:=List.length_pos_iff.2 h0
   have:=pair_lenL (lo:=0) (n:=n) h1 h2
   exact⟨x.length,⟨x.length-1,by omega,by omega⟩,(lists_mem _ [] n x).2 ⟨x,rfl,rfl,h1,h2⟩⟩
theorem allL_sorted(n:Nat):(allL n).Pairwise fun a b=>cmpL a b<0:=by
 rw[allL,List.pairwise_cons]
 constructor
 ·intro x hx
  simp only[List.mem_flatMap,List.mem_range']at hx
  obtain⟨m,⟨i,_,rfl⟩,h⟩:=hx
  obtain⟨g,rfl,h1,_⟩:=(lists_mem _ [] n x).1 h
  rw[cmpL_lt];left;simp[h1];omega
 ·rw[List.pairwise_flatMap]
  refine⟨fun m _=> ?_,?_⟩
  ·refine List.Pairwise.imp_of_mem ?_ (lists_sorted m [] n)
   intro a b ha hb h
   obtain⟨g,rfl,h1,_⟩:=(lists_mem _ [] n a).1 ha
   obtain⟨k,rfl,h2,_⟩:=(lists_mem _ [] n b).1 hb
   rw[cmpL_lt];right;exact⟨by simp[h1,h2],h⟩
  ·refine(List.pairwise_lt_range' (s:=1) (n:=n)).imp ?_
   intro m k hmk x hx y hy
   obtain⟨g,rfl,h1,_⟩:=(lists_mem _ [] n x).1 hx
   obtain⟨h,rfl,h2,_⟩:=(lists_mem _ [] n y).1 hy
   rw[cmpL_lt];left;simp[h1,h2];exact hmk
def bitsL(g:Nat):List Int:=((List.range 5).filter fun n=>g.testBit n).map fun(n:Nat)=>(n:Int)
def maskL(l:List Int):Nat:=l.foldl (fun g n=>g|||(1<<<n.toNat)) 0
theorem mask_bits: ∀g,g<32→maskL (bitsL g)=g:=by decide +kernel
theorem bits_mask: ∀l,l∈allL 5→bitsL (maskL l)=l:=by decide +kernel
theorem mask_lt: ∀T,T<6→ ∀l,l∈allL T→maskL l<2^T:=by decide +kernel
theorem allL_up {T:Nat}(h:T<6) {l:List Int}(hl:l∈allL T):l∈allL 5:=by
 obtain⟨h1,h2⟩:=allL_mem.1 hl
 exact allL_mem.2 ⟨h1,fun y hy=>by have:=h2 y hy;omega⟩
theorem bits_inj {g h:Nat}(hg:g<32)(hh:h<32)(e:bitsL g=bitsL h):g=h:=by rw[←mask_bits g hg,←mask_bits h hh,e]
end Go.Proofs.YtmgkcipcjabigaaGreatDoor

/-
  Doors, the plain law: traps, ways, changes, moves, the worth.
-/
namespace Go.Proofs.YtmgkcipcjabigaaGreatDoor
structure DGate where
 a:Int
 b:Int
 op:Bool
 deriving DecidableEq,Inhabited
structure DGroup where
 pos:Int
 fish:Int
 deriving DecidableEq,Inhabited
structure DTrap where
 chambers:Int
 turns:Int
 hands:Int
 gates:List DGate
 groups:List DGroup
 deriving DecidableEq,Inhabited
def wayB(gs:List DGate)(p c:Int):Bool:=gs.any fun g=>g.op&&(decide (g.a=p)&&decide (g.b=c)||decide (g.b=p)&&decide (g.a=c))
def rangeI(n:Nat):List Int:=(List.range n).map fun(i:Nat)=>(i:Int)
def waysS(n:Nat)(gs:List DGate)(p:Int):List Int:=let l:=(rangeI n).filter (wayB gs p);if l=[]then [p]else l
def choicesS(h g:Nat):List (List Int):=(allL g).filter fun c=>decide (c.length≤h)
def flipS(c:List Int):Nat→List DGate→List DGate
 |_,[]=>[]
 |i,g::r=>(if (i:Int)∈c then {g with op:= !g.op}else g)::flipS c (i+1) r
abbrev flipG(gs:List DGate)(c:List Int):List DGate:=flipS c 0 gs
def movesS:List (List Int)→List (List Int)
 |[]=>[[]]
 |w::r=>w.flatMap fun x=>(movesS r).map (x:: ·)
def caughtS(n:Nat):List Int→List Int→Int
 |f::fs,p::ps=>(if p=(n:Int)-1 then f else 0)+caughtS n fs ps
 |_,_=>0
def minL:List Int→Int
 |[]=>0
 |[x]=>x
 |x::r=>min x (minL r)
def maxL:List Int→Int
 |[]=>0
 |x::r=>max x (maxL r)
def worthS(n h:Nat)(fs:List Int):Nat→List DGate→List Int→Int
 |0,_,ps=>caughtS n fs ps
 |k+1,gs,ps=>maxL ((choicesS h gs.length).map fun c=>minL ((movesS (ps.map (waysS n (flipG gs c)))).map (worthS n h fs k (flipG gs c))))
def leastS(n h:Nat)(fs:List Int)(k:Nat)(gs:List DGate)(ps:List Int):Int:=minL ((movesS (ps.map (waysS n gs))).map (worthS n h fs k gs))
theorem worthS_succ(n h fs k gs ps):worthS n h fs (k+1) gs ps=maxL ((choicesS h gs.length).map fun c=>leastS n h fs k (flipG gs c) ps):=rfl
@[simp] theorem flipS_length(c:List Int): ∀(i:Nat) (gs:List DGate),(flipS c i gs).length=gs.length
 |_,[]=>rfl
 |i,g::r=>by simp[flipS,flipS_length c (i+1) r]
theorem flipS_get(c:List Int): ∀(i:Nat) (gs:List DGate) (j:Nat),(flipS c i gs)[j]? =(gs[j]?).map fun g=>if ((i+j:Nat):Int)∈c then {g with op:= !g.op}else g
 |_,[],j=>by simp[flipS]
 |i,g::r,0=>by simp[flipS]
 |i,g::r,j+1=>by
   simp only[flipS,List.getElem?_cons_succ,flipS_get c (i+1) r j]
   rw[show i+1+j=i+(j+1)by omega]
theorem minL_cons(x:Int)(r:List Int):minL (x::r)=if r=[]then x else min x (minL r):=by cases r<;>simp[minL]
theorem minL_mem: ∀ {l:List Int},l≠[]→minL l∈l
 |[x],_=>by simp[minL]
 |x::y::r,_=>by
   rw[minL_cons,if_neg (by simp)]
   have:=minL_mem (l:=y::r) (by simp)
   by_cases h:x≤minL (y::r)
   ·rw[Int.min_eq_left h];simp
   ·rw[Int.min_eq_right (by omega)];exact List.mem_cons_of_mem _ this
theorem minL_le: ∀ {l:List Int} {x:Int},x∈l→minL l≤x
 |[y],x,h=>by simp at h;subst h;simp[minL]
 |y::z::r,x,h=>by
   rw[minL_cons,if_neg (by simp)]
   rcases List.mem_cons.1 h with rfl|h
   ·exact Int.min_le_left _ _
   ·have:=minL_le (l:=z::r) h;omega
theorem maxL_ge: ∀ {l:List Int} {x:Int},x∈l→x≤maxL l
 |y::r,x,h=>by
   simp only[maxL]
   rcases List.mem_cons.1 h with rfl|h
   ·exact Int.le_max_left _ _
   ·have:=maxL_ge h;omega
theorem maxL_nonneg: ∀(l:List Int),0≤maxL l
 |[]=>Int.le_refl _
 |x::r=>by simp only[maxL];have:=maxL_nonneg r;omega
theorem maxL_mem: ∀ {l:List Int},l≠[]→(∀x∈l,0≤x)→maxL l∈l
 |[x],_,h=>by simp only[maxL];have:=h x (by simp);rw[Int.max_eq_left this];simp
 |x::y::r,_,h=>by
   have:=maxL_mem (l:=y::r) (by simp) fun z hz=>h z (by simp[List.mem_cons.1 hz])
   rw[maxL]
   by_cases hx:maxL (y::r)≤x
   ·rw[Int.max_eq_left hx];simp
   ·rw[Int.max_eq_right (by omega)];exact List.mem_cons_of_mem _ this
theorem waysS_ne(n gs p):waysS n gs p≠[]:=by
 unfold waysS
 dsimp only
 split
 ·simp
 ·assumption
theorem mem_rangeI {n:Nat} {c:Int}:c∈rangeI n↔0≤c∧c<n:=by
 simp only[rangeI,List.mem_map,List.mem_range]
 constructor
 ·rintro⟨i,h,rfl⟩;omega
 ·rintro⟨h1,h2⟩;exact⟨c.toNat,by omega,by omega⟩
theorem waysS_range {n:Nat} {gs:List DGate} {p c:Int}(hp:0≤p∧p<n)(h:c∈waysS n gs p):0≤c∧c<n:=by
 unfold waysS at h
 dsimp only at h
 split at h
 ·simp at h;subst h;exact hp
 ·exact mem_rangeI.1 (List.mem_filter.1 h).1
theorem movesS_ne: ∀ {l:List (List Int)},(∀w∈l,w≠[])→movesS l≠[]
 |[],_=>by simp[movesS]
 |w::r,h=>by
   have h1:=h w (by simp)
   have h2:=movesS_ne (l:=r) fun x hx=>h x (by simp[hx])
   obtain⟨x,t,rfl⟩:=List.exists_cons_of_ne_nil h1
   obtain⟨y,t2,e⟩:=List.exists_cons_of_ne_nil h2
   simp[movesS,e]
theorem mem_movesS: ∀ {l:List (List Int)} {m:List Int},m∈movesS l↔m.length=l.length∧ ∀(i:Nat) x w,m[i]? =some x→l[i]? =some w→x∈w
 |[],m=>by
   simp only[movesS,List.mem_singleton,List.length_nil,List.length_eq_zero_iff]
   constructor
   ·rintro rfl;exact⟨rfl,fun i x w h=>by simp at h⟩
   ·exact fun h=>h.1
 |w::r,m=>by
   simp only[movesS,List.mem_flatMap,List.mem_map]
   constructor
   ·rintro⟨x,hx,m',hm,rfl⟩
    obtain⟨h1,h2⟩:=mem_movesS.1 hm
    refine⟨by simp[h1],fun i y u hy hu=> ?_⟩
    cases i with
    |zero=>simp at hy hu;subst hy hu;exact hx
    |succ i=>exact h2 i y u (by simpa using hy) (by simpa using hu)
   ·rintro⟨h1,h2⟩
    cases m with
    |nil=>simp at h1
    |cons x m'=>exact⟨x,h2 0 x w rfl rfl,m',mem_movesS.2 ⟨by simpa using h1,fun i y u hy hu=>h2 (i+1) y u (by simpa using hy) (by simpa using hu)⟩,rfl⟩
theorem moves_ne(n:Nat)(gs:List DGate)(ps:List Int):movesS (ps.map (waysS n gs))≠[]:=movesS_ne fun w hw=>by
 obtain⟨p,_,rfl⟩:=List.mem_map.1 hw
 exact waysS_ne n gs p
theorem mem_moves {n:Nat} {gs:List DGate} {ps m:List Int}:m∈movesS (ps.map (waysS n gs))↔m.length=ps.length∧ ∀(i:Nat) x p,m[i]? =some x→ps[i]? =some p→x∈waysS n gs p:=by
 rw[mem_movesS]
 simp only[List.length_map,List.getElem?_map]
 constructor
 ·rintro⟨h1,h2⟩;exact⟨h1,fun i x p hx hp=>h2 i x _ hx (by simp[hp])⟩
 ·rintro⟨h1,h2⟩
  refine⟨h1,fun i x w hx hw=> ?_⟩
  obtain⟨p,hp,rfl⟩:=Option.map_eq_some_iff.1 hw
  exact h2 i x p hx hp
theorem mem_choices {h g:Nat} {c:List Int}:c∈choicesS h g↔c.length≤h∧c.Pairwise (· < ·)∧ ∀y∈c,0≤y∧y<g:=by
 simp only[choicesS,List.mem_filter,decide_eq_true_eq,allL_mem]
 constructor
 ·rintro⟨h1,h2⟩;exact⟨h2,h1⟩
 ·rintro⟨h1,h2⟩;exact⟨h2,h1⟩
theorem choices_ne(h g:Nat):choicesS h g≠[]:=fun e=>by
 have:([]:List Int)∈choicesS h g:=mem_choices.2 ⟨by simp, .nil,by simp⟩
 rw[e]at this;simp at this
theorem choices_sorted(h g:Nat):(choicesS h g).Pairwise fun a b=>cmpL a b<0:=(allL_sorted g).filter _
theorem caughtS_nonneg(n:Nat): ∀ {fs ps:List Int},(∀f∈fs,0≤f)→0≤caughtS n fs ps
 |[],_,_=>by simp[caughtS]
 |f::fs,[],_=>by simp[caughtS]
 |f::fs,p::ps,h=>by
   have h1:=caughtS_nonneg n (fs:=fs) (ps:=ps) fun x hx=>h x (by simp[hx])
   have h2:=h f (by simp)
   simp only[caughtS];split<;>omega
theorem worthS_nonneg {n h:Nat} {fs:List Int}(hf: ∀f∈fs,0≤f): ∀(k:Nat) (gs:List DGate) (ps:List Int),0≤worthS n h fs k gs ps
 |0,_,_=>caughtS_nonneg n hf
 |k+1,gs,ps=>maxL_nonneg _
theorem leastS_mem(n h fs k gs ps): ∃m∈movesS (ps.map (waysS n gs)),leastS n h fs k gs ps=worthS n h fs k gs m:=by
 have:=minL_mem (l:=(movesS (ps.map (waysS n gs))).map (worthS n h fs k gs)) (by simpa using moves_ne n gs ps)
 obtain⟨m,h1,h2⟩:=List.mem_map.1 this
 exact⟨m,h1,h2.symm⟩
theorem leastS_le {n h:Nat} {fs:List Int} {k:Nat} {gs:List DGate} {ps m:List Int}(hm:m∈movesS (ps.map (waysS n gs))):leastS n h fs k gs ps≤worthS n h fs k gs m:=minL_le (List.mem_map.2 ⟨m,hm,rfl⟩)
theorem le_leastS {n h:Nat} {fs:List Int} {k:Nat} {gs:List DGate} {ps:List Int} {v:Int}(hv: ∀m∈movesS (ps.map (waysS n gs)),v≤worthS n h fs k gs m):v≤leastS n h fs k gs ps:=by
 obtain⟨m,h1,h2⟩:=leastS_mem n h fs k gs ps
 rw[h2];exact hv m h1
theorem leastS_nonneg {n h:Nat} {fs:List Int}(hf: ∀f∈fs,0≤f)(k gs ps):0≤leastS n h fs k gs ps:=le_leastS fun m _=>worthS_nonneg hf k gs m
theorem worthS_ge {n h:Nat} {fs:List Int} {k:Nat} {gs:List DGate} {ps:List Int} {c:List Int}(hc:c∈choicesS h gs.length):leastS n h fs k (flipG gs c) ps≤worthS n h fs (k+1) gs ps:=maxL_ge (List.mem_map.2 ⟨c,hc,rfl⟩)
theorem worthS_mem {n h:Nat} {fs:List Int}(hf: ∀f∈fs,0≤f)(k gs ps): ∃c∈choicesS h gs.length,worthS n h fs (k+1) gs ps=leastS n h fs k (flipG gs c) ps:=by
 have:=maxL_mem (l:=(choicesS h gs.length).map fun c=>leastS n h fs k (flipG gs c) ps) (by simpa using choices_ne h gs.length) (fun x hx=>by
  obtain⟨c,_,rfl⟩:=List.mem_map.1 hx
  exact leastS_nonneg hf k _ ps)
 obtain⟨c,h1,h2⟩:=List.mem_map.1 this
 exact⟨c,h1,h2.symm⟩
def sumF(l:List Int):Int:=l.foldr (· + ·) 0
theorem caughtS_le(n:Nat): ∀ {fs ps:List Int},(∀f∈fs,0≤f)→caughtS n fs ps≤sumF fs
 |[],_,_=>by simp[caughtS,sumF]
 |f::fs,[],h=>by
   have h1:=caughtS_le n (fs:=fs) (ps:=[]) fun x hx=>h x (by simp[hx])
   have h2:=h f (by simp)
   have h3:caughtS n fs []=0:=by cases fs<;>rfl
   simp only[caughtS,sumF,List.foldr_cons]at h1⊢;omega
 |f::fs,p::ps,h=>by
   have h1:=caughtS_le n (fs:=fs) (ps:=ps) fun x hx=>h x (by simp[hx])
   have h2:=h f (by simp)
   simp only[caughtS,sumF,List.foldr_cons]at h1⊢;split<;>omega
theorem worthS_le {n h:Nat} {fs:List Int}(hf: ∀f∈fs,0≤f): ∀(k:Nat) (gs:List DGate) (ps:List Int),worthS n h fs k gs ps≤sumF fs
 |0,_,_=>caughtS_le n hf
 |k+1,gs,ps=>by
   obtain⟨c,_,e⟩:=worthS_mem (n:=n) (h:=h) hf k gs ps
   obtain⟨m,_,e2⟩:=leastS_mem n h fs k (flipG gs c) ps
   rw[e,e2];exact worthS_le hf k _ m
end Go.Proofs.YtmgkcipcjabigaaGreatDoor

/-
  Doors: types; helpers of the reference of layer 1.
-/
namespace Go.Proofs.YtmgkcipcjabigaaGreatDoor
open Go.Ab
@[simp] theorem denV_fn(f first cap args lab s):denV T (.fn f first cap) args lab s=den T f (first ++args ++cap) lab s:=rfl
@[simp] theorem map_cInt(r:Ren)(l):(es cInt l).map (V.mapAll r)=es cInt l:=es_map _ _ (fun _=>by simp) _
@[simp] theorem strip_cInt(l):(es cInt l).map V.stripAll=es cInt l:=es_strip _ (fun _=>by simp) _
@[simp] theorem refs_cInt(own:Bool)(d:Nat)(l):(es cInt l).flatMap (V.refsAll own d)=[]:=es_refs _ _ _ (fun _=>by simp) _
@[simp] theorem elems_cInt(l):elemsOk (es cInt l) 1=true:=elemsOk_es _ _ (fun _=>by simp) _
@[simp] def cGate(g:DGate):List V:=[i64 g.a,i64 g.b, .bool g.op]
@[simp] theorem map_cGate(r:Ren)(l):(es cGate l).map (V.mapAll r)=es cGate l:=es_map _ _ (fun _=>by simp) _
@[simp] theorem strip_cGate(l):(es cGate l).map V.stripAll=es cGate l:=es_strip _ (fun _=>by simp) _
@[simp] theorem refs_cGate(own:Bool)(d:Nat)(l):(es cGate l).flatMap (V.refsAll own d)=[]:=es_refs _ _ _ (fun _=>by simp) _
@[simp] theorem elems_cGate(l):elemsOk (es cGate l) 3=true:=elemsOk_es _ _ (fun _=>by simp) _
@[simp] theorem DGate.eta(g:DGate):DGate.mk g.a g.b g.op=g:=rfl
@[simp] def cGroup(g:DGroup):List V:=[i64 g.pos,i64 g.fish]
@[simp] theorem map_cGroup(r:Ren)(l):(es cGroup l).map (V.mapAll r)=es cGroup l:=es_map _ _ (fun _=>by simp) _
@[simp] theorem strip_cGroup(l):(es cGroup l).map V.stripAll=es cGroup l:=es_strip _ (fun _=>by simp) _
@[simp] theorem refs_cGroup(own:Bool)(d:Nat)(l):(es cGroup l).flatMap (V.refsAll own d)=[]:=es_refs _ _ _ (fun _=>by simp) _
@[simp] theorem elems_cGroup(l):elemsOk (es cGroup l) 2=true:=elemsOk_es _ _ (fun _=>by simp) _
@[simp] theorem DGroup.eta(g:DGroup):DGroup.mk g.pos g.fish=g:=rfl
@[simp] theorem DTrap.eta(t:DTrap):DTrap.mk t.chambers t.turns t.hands t.gates t.groups=t:=rfl
@[simp] def cInts(l:List Int):List V:=[.sl .no 1 (es cInt l)]
@[simp] theorem map_cInts(r:Ren)(h:r.c .no= .no)(l):(es cInts l).map (V.mapAll r)=es cInts l:=es_map _ _ (fun _=>by simp[h]) _
@[simp] theorem map_cInts_d(d keep l):(es cInts l).map (V.mapAll (dropR d keep))=es cInts l:=map_cInts _ rfl l
@[simp] theorem map_cInts_f(d k z e l):(es cInts l).map (V.mapAll (frzR d k z e))=es cInts l:=map_cInts _ rfl l
@[simp] theorem map_cInts_r(own d loc ls d' lab l):(es cInts l).map (V.mapAll (renR own d loc ls d' lab))=es cInts l:=map_cInts _ (by cases own<;>rfl) l
@[simp] theorem strip_cInts(l):(es cInts l).map V.stripAll=es cInts l:=es_strip _ (fun _=>by simp) _
@[simp] theorem refs_cInts(own:Bool)(d:Nat)(l):(es cInts l).flatMap (V.refsAll own d)=[]:=es_refs _ _ _ (fun _=>by cases own<;>simp[V.refs,Cap.refs]) _
@[simp] theorem elems_cInts(l):elemsOk (es cInts l) 1=true:=elemsOk_es _ _ (fun _=>by simp) _
@[simp] abbrev dV(t:DTrap):List V:=[i64 t.chambers,i64 t.turns,i64 t.hands, .sl .no 3 (es cGate t.gates), .sl .no 2 (es cGroup t.groups)]
def wiB(n lo hi:Int):Bool:=decide (lo≤n)&&decide (n≤hi)
theorem wiB_iff {n lo hi:Int}:wiB n lo hi=true↔lo≤n∧n≤hi:=by simp[wiB]
@[simp] theorem e_Within(n lo hi:Int)(lab s):den T 30 [i64 n,i64 lo,i64 hi] lab s=some (.bool (wiB n lo hi),s):=by
 rw[den_fn t30 _ _ _ rfl]
 simp only[b30]
 by_cases h:lo≤n<;>simp[h,wiB]
@[simp] theorem e_withinD(n lo hi:Int)(lab s):den T 28 [i64 n,i64 lo,i64 hi] lab s=some (.bool (wiB n lo hi),s):=by
 rw[den_fn t28 _ _ _ rfl]
 simp only[b28]
 by_cases h:lo≤n<;>simp[h,wiB]
@[simp] theorem e_within03(n lo hi:Int)(lab s):den T 21 [i64 n,i64 lo,i64 hi] lab s=some (.bool (wiB n lo hi),s):=by
 rw[den_fn t21 _ _ _ rfl]
 simp only[b21]
 simp
def risingAt(l:List Int)(lo hi:Int)(k:Nat):Bool:=wiB (l.getD k 0) lo hi&&(k==0||decide (l.getD (k-1) 0<l.getD k 0))
def rising(l:List Int)(lo hi:Int):Bool:=allB (risingAt l lo hi) (List.range l.length)
theorem e_Rising_l0(l:List Int)(lo hi:Int)(s:Stk)(hl:l.length<4611686018427387904):
 Run T b17l0 [(0, .sl .no 1 (es cInt l)),(1,i64 lo),(2,i64 hi),(7,i64 0)] ([]::s)=
  if rising l lo hi=true then some (.exit 0,[(0, .sl .no 1 (es cInt l)),(1,i64 lo),(2,i64 hi),(7,i64 l.length),(11, .bool false)],[]::s)
  else some (.ret,[(6, .bool false)],[]::s):=by
 refine loop_all (List.range l.length) (risingAt l lo hi) (fun k=>[(0, .sl .no 1 (es cInt l)),(1,i64 lo),(2,i64 hi),(7,i64 k)]) (fun _=>[]::s) _ _ (by simp) (by simp) ?_ (by simp) _ _ (by simp) (by simp)
 intro k hk
 simp only[List.length_range]at hk
 simp only[List.getElem_range]
 have hg:l.getD k 0=l[k]:=by simp[List.getD,hk]
 cases h0:wiB l[k] lo hi
 ·simp (disch:=first|omega|assumption|decide +kernel|(simp;done)|(simp;omega)|fail) [hk,h0,risingAt]
 by_cases h1:k=0
 ·subst h1
  simp (disch:=first|omega|assumption|decide +kernel|(simp;done)|(simp;omega)|fail) [hk,h0,risingAt,wi]
 have hk1:k-1<l.length:=by omega
 have h1p:0<k:=by omega
 have h1q:(1:Int)≤k:=by omega
 have hg1:l.getD (k-1) 0=l[k-1]:=by simp[List.getD,hk1]
 have hn:((k:Int)-1).toNat=k-1:=by omega
 by_cases h2:l[k-1]<l[k]
 ·have h3: ¬l[k]≤l[k-1]:=by omega
  simp (disch:=first|omega|assumption|decide +kernel|(simp;done)|(simp;omega)|fail) [hk,hk1,h0,h1,h1p,h1q,h2,h3,hn,risingAt,wi]
 ·have h3:l[k]≤l[k-1]:=by omega
  simp (disch:=first|omega|assumption|decide +kernel|(simp;done)|(simp;omega)|fail) [hk,hk1,h0,h1,h1p,h1q,h2,h3,hn,risingAt,wi]
@[simp] theorem e_Rising(l:List Int)(lo hi:Int)(hl:l.length<4611686018427387904)(lab s):
 den T 17 [.sl .no 1 (es cInt l),i64 lo,i64 hi] lab s=some (.bool (rising l lo hi),s):=by
 rw[den_fn t17 _ _ _ rfl]
 simp only[b17]
 cases h:rising l lo hi<;>simp[e_Rising_l0,hl,h]
theorem rising_mem {cut:List Int} {lo hi:Int}(h:rising cut lo hi=true) {k:Nat}(hk:k<cut.length):lo≤cut[k]∧cut[k]≤hi∧(0<k→cut.getD (k-1) 0<cut[k]):=by
 simp only[rising,allB,List.all_eq_true,List.mem_range]at h
 have:=h k hk
 have hg:cut.getD k 0=cut[k]:=by simp[List.getD,hk]
 simp only[risingAt,hg,Bool.and_eq_true,Bool.or_eq_true,wiB,decide_eq_true_eq,beq_iff_eq]at this
 refine⟨this.1.1,this.1.2,fun h0=> ?_⟩
 rcases this.2 with h|h
 ·omega
 ·exact h
abbrev has(l:List Int)(n:Int):Bool:=anyB (fun x=>decide (x=n)) l
end Go.Proofs.YtmgkcipcjabigaaGreatDoor

/-
  Doors: bits, their lists.
-/
namespace Go.Proofs.YtmgkcipcjabigaaGreatDoor
open Go.Ab
def shrN(a n:Nat):Nat:=a>>>n
def lowN(a:Nat):Nat:=a%2
def orN(a b:Nat):Nat:=a|||b
def xorN(a b:Nat):Nat:=a^^^b
def powN(n:Nat):Nat:=2^n
theorem bshr {a n:Nat}(hn:n<64):bin .shr (i64 (a:Nat)) (i64 (n:Nat))=some (i64 ((shrN a n:Nat):Int)):=by
 have h1:((a:Int)).fdiv (2^min n IntKind.i64.bits)=((a>>>n:Nat):Int):=by
  rw[show min n IntKind.i64.bits=n by have:IntKind.i64.bits=64:=rfl;omega,Nat.shiftRight_eq_div_pow]
  rw[Int.fdiv_eq_ediv_of_nonneg _ (by exact Int.le_of_lt (Int.pow_pos (by decide)))]
  push_cast
  rfl
 have h2: ¬(n:Int)<0:=by omega
 rw[bin_shr,if_neg h2,Int.toNat_natCast,h1];rfl
theorem bv_nat(a:Nat):(BitVec.ofInt 64 (a:Int))=BitVec.ofNat 64 a:=by simp
theorem wrap_nat {a:Nat}(h:a<4294967296):IntKind.i64.wrap (a:Int)=a:=wi _ (by omega) (by omega)
theorem band {a:Nat}(h:a<4294967296):bin .and (i64 (a:Nat)) (i64 1)=some (i64 ((lowN a:Nat):Int)):=by
 rw[bin_and]
 change some (i64 (IntKind.i64.wrap ((BitVec.ofInt 64 (a:Int)&&&BitVec.ofInt 64 (1:Int)).toNat:Int)))=_
 rw[bv_nat,show BitVec.ofInt 64 (1:Int)=BitVec.ofNat 64 1 from rfl]
 have e:((BitVec.ofNat 64 a&&&BitVec.ofNat 64 1).toNat)=a%2:=by
  rw[BitVec.toNat_and,BitVec.toNat_ofNat,BitVec.toNat_ofNat,Nat.mod_eq_of_lt (by omega),show 1%2^64=1 from rfl,Nat.and_one_is_mod]
 rw[e,wrap_nat (by omega)];rfl
theorem bor {a b:Nat}(h:a<65536)(h2:b<65536):bin .or (i64 (a:Nat)) (i64 (b:Nat))=some (i64 ((orN a b:Nat):Int)):=by
 rw[bin_or]
 change some (i64 (IntKind.i64.wrap ((BitVec.ofInt 64 (a:Int)|||BitVec.ofInt 64 (b:Int)).toNat:Int)))=_
 rw[bv_nat,bv_nat]
 have e:((BitVec.ofNat 64 a|||BitVec.ofNat 64 b).toNat)=a|||b:=by
  rw[BitVec.toNat_or,BitVec.toNat_ofNat,BitVec.toNat_ofNat,Nat.mod_eq_of_lt (by omega),Nat.mod_eq_of_lt (by omega)]
 have:=Nat.or_lt_two_pow (n:=16) h h2
 rw[e,wrap_nat (by omega)];rfl
theorem bxor {a b:Nat}(h:a<65536)(h2:b<65536):bin .xor (i64 (a:Nat)) (i64 (b:Nat))=some (i64 ((xorN a b:Nat):Int)):=by
 rw[bin_xor]
 change some (i64 (IntKind.i64.wrap ((BitVec.ofInt 64 (a:Int)^^^BitVec.ofInt 64 (b:Int)).toNat:Int)))=_
 rw[bv_nat,bv_nat]
 have e:((BitVec.ofNat 64 a^^^BitVec.ofNat 64 b).toNat)=a^^^b:=by
  rw[BitVec.toNat_xor,BitVec.toNat_ofNat,BitVec.toNat_ofNat,Nat.mod_eq_of_lt (by omega),Nat.mod_eq_of_lt (by omega)]
 have:=Nat.xor_lt_two_pow (n:=16) h h2
 rw[e,wrap_nat (by omega)];rfl
theorem bshl {n:Nat}(hn:n<32):bin .shl (i64 1) (i64 (n:Nat))=some (i64 ((powN n:Nat):Int)):=by
 have h2: ¬(n:Int)<0:=by omega
 rw[bin_shl,if_neg h2,Int.toNat_natCast,show min n IntKind.i64.bits=n by have:IntKind.i64.bits=64:=rfl;omega]
 have:(2:Nat)^n<2^32:=Nat.pow_lt_pow_right (by decide) hn
 have e:((1:Int)*2^n)=((2^n:Nat):Int):=by push_cast;omega
 rw[e,wrap_nat (by omega)];rfl
theorem powN_lt {n:Nat}(hn:n<16):powN n<65536:=by unfold powN;exact Nat.pow_lt_pow_right (by decide) hn
def topN(g:Nat):Nat:=((List.range 6).find? fun n=>g>>>n==0).getD 6
def bitF(g:Nat)(a:List Int)(k:Nat):List Int:=if lowN (shrN g k)=1 then a ++[(k:Int)]else a
theorem top_le: ∀g,g<32→topN g≤5:=by decide +kernel
theorem top_pos: ∀g,g<32→ ∀k,k<topN g→0<shrN g k:=by
 intro g hg k hk
 have h5:=top_le g hg
 have: ∀g,g<32→ ∀k,k<5→k<topN g→0<shrN g k:=by decide +kernel
 exact this g hg k (by omega) hk
theorem top_end: ∀g,g<32→shrN g (topN g)=0:=by decide +kernel
theorem top_bits: ∀g,g<32→(List.range (topN g)).foldl (bitF g) []=bitsL g:=by decide +kernel
theorem low_le(a:Nat):lowN a<2:=Nat.mod_lt _ (by decide)
theorem shr_le(a n:Nat):shrN a n≤a:=by unfold shrN;rw[Nat.shiftRight_eq_div_pow];exact Nat.div_le_self ..
set_option maxHeartbeats 1000000 in
theorem e_list_l(g:Nat)(hg:g<32)(s:Stk):
 Run T b42l0 [(3, .sl (.own s.length 49) 1 []),(0,i64 (g:Nat)),(3, .sl .full 1 []),(4,i64 0)] ([(49, .tok 0)]::s)=
  some (.exit 0,[(0,i64 (g:Nat)),(3, .sl (.own s.length 49) 1 (es cInt (bitsL g))),(4,i64 (topN g:Nat)),(8, .bool false)],[(49, .tok (bitsL g).length)]::s):=by
 have h5:=top_le g hg
 have key:=loop_fold (T:=T) (live:=[0,3,4]) (keep:=[49]) (b:=d42l0) (List.range (topN g)) (fun k (a:List Int)=>a.length≤k) (bitF g)
  (fun k a=>[(0,i64 (g:Nat)),(3, .sl (.own s.length 49) 1 (es cInt a)),(4,i64 (k:Nat))]) (fun _ a=>[(49, .tok a.length)]::s)
  (fun a=>(.exit 0,[(0,i64 (g:Nat)),(3, .sl (.own s.length 49) 1 (es cInt a)),(4,i64 (topN g:Nat)),(8, .bool false)],[(49, .tok a.length)]::s))
  (by simp) ?_ ?_ ?_ [] (by simp) [(3, .sl (.own s.length 49) 1 []),(0,i64 (g:Nat)),(3, .sl .full 1 []),(4,i64 0)] ([(49, .tok 0)]::s) (by simp) (by simp)
 ·rw[top_bits g hg]at key
  exact key
 ·intro k a hk hi
  simp only[List.length_range]at hk
  simp only[List.getElem_range]
  have h3:=top_pos g hg k hk
  have e0:es cInt a ++[[i64 (k:Nat)]]=es cInt (a ++[(k:Int)]):=by simp[es]
  have hk9:k<64:=by omega
  have hs:=shr_le g k
  have hb1:=bshr (a:=g) (n:=k) hk9
  have hb2:=band (a:=shrN g k) (by omega)
  unfold bitF
  have hl:=low_le (shrN g k)
  generalize shrN g k=x at*
  generalize lowN x=y at*
  by_cases hy:y=1
  ·have hy':(y:Int)=1:=by omega
   rw[if_pos hy]
   simp (maxSteps:=1000000) (disch:=first|omega|assumption|decide +kernel|(simp;done)|(simp;omega)|fail) [hb1,hb2,h3,hy,hy',e0,appK_own1,wk k (by omega),-bin_shr,-bin_and]
  ·have hy': ¬(y:Int)=1:=by omega
   rw[if_neg hy]
   simp (maxSteps:=1000000) (disch:=first|omega|assumption|decide +kernel|(simp;done)|(simp;omega)|fail) [hb1,hb2,h3,hy,hy',wk k (by omega),-bin_shr,-bin_and]
 ·intro k a hk hi
  unfold bitF
  split<;>(try simp only[List.length_append,List.length_cons,List.length_nil])<;>omega
 ·intro a hi
  simp only[List.length_range]
  have h1:=bshr (a:=g) (n:=topN g) (by omega)
  rw[top_end g hg]at h1
  generalize topN g=n at*
  simp (maxSteps:=1000000) (disch:=first|omega|assumption|decide +kernel|(simp;done)|(simp;omega)|fail) [h1,-bin_shr]
theorem e_list(g:Nat)(hg:g<32)(lab s):den T 42 [i64 (g:Nat)] lab s=some (.sl .no 1 (es cInt (bitsL g)),s):=by
 have key:=e_list_l g hg s
 generalize bitsL g=L at*
 generalize topN g=n at*
 rw[den_fn t42 _ _ _ rfl]
 simp only[b42]
 simp (maxSteps:=1000000) (disch:=first|omega|assumption|decide +kernel|(simp;done)|(simp;omega)|fail) [key]
set_option maxHeartbeats 1000000 in
theorem e0_list_l(g:Nat)(hg:g<32)(s:Stk):
 Run T0 b42l0 [(3, .sl (.own s.length 49) 1 []),(0,i64 (g:Nat)),(3, .sl .full 1 []),(4,i64 0)] ([(49, .tok 0)]::s)=
  some (.exit 0,[(0,i64 (g:Nat)),(3, .sl (.own s.length 49) 1 (es cInt (bitsL g))),(4,i64 (topN g:Nat)),(8, .bool false)],[(49, .tok (bitsL g).length)]::s):=by
 have h5:=top_le g hg
 have key:=loop_fold (T:=T0) (live:=[0,3,4]) (keep:=[49]) (b:=d42l0) (List.range (topN g)) (fun k (a:List Int)=>a.length≤k) (bitF g)
  (fun k a=>[(0,i64 (g:Nat)),(3, .sl (.own s.length 49) 1 (es cInt a)),(4,i64 (k:Nat))]) (fun _ a=>[(49, .tok a.length)]::s)
  (fun a=>(.exit 0,[(0,i64 (g:Nat)),(3, .sl (.own s.length 49) 1 (es cInt a)),(4,i64 (topN g:Nat)),(8, .bool false)],[(49, .tok a.length)]::s))
  (by simp) ?_ ?_ ?_ [] (by simp) [(3, .sl (.own s.length 49) 1 []),(0,i64 (g:Nat)),(3, .sl .full 1 []),(4,i64 0)] ([(49, .tok 0)]::s) (by simp) (by simp)
 ·rw[top_bits g hg]at key
  exact key
 ·intro k a hk hi
  simp only[List.length_range]at hk
  simp only[List.getElem_range]
  have h3:=top_pos g hg k hk
  have e0:es cInt a ++[[i64 (k:Nat)]]=es cInt (a ++[(k:Int)]):=by simp[es]
  have hk9:k<64:=by omega
  have hs:=shr_le g k
  have hb1:=bshr (a:=g) (n:=k) hk9
  have hb2:=band (a:=shrN g k) (by omega)
  unfold bitF
  have hl:=low_le (shrN g k)
  generalize shrN g k=x at*
  generalize lowN x=y at*
  by_cases hy:y=1
  ·have hy':(y:Int)=1:=by omega
   rw[if_pos hy]
   simp (maxSteps:=1000000) (disch:=first|omega|assumption|decide +kernel|(simp;done)|(simp;omega)|fail) [hb1,hb2,h3,hy,hy',e0,appK_own1,wk k (by omega),-bin_shr,-bin_and]
  ·have hy': ¬(y:Int)=1:=by omega
   rw[if_neg hy]
   simp (maxSteps:=1000000) (disch:=first|omega|assumption|decide +kernel|(simp;done)|(simp;omega)|fail) [hb1,hb2,h3,hy,hy',wk k (by omega),-bin_shr,-bin_and]
 ·intro k a hk hi
  unfold bitF
  split<;>(try simp only[List.length_append,List.length_cons,List.length_nil])<;>omega
 ·intro a hi
  simp only[List.length_range]
  have h1:=bshr (a:=g) (n:=topN g) (by omega)
  rw[top_end g hg]at h1
  generalize topN g=n at*
  simp (maxSteps:=1000000) (disch:=first|omega|assumption|decide +kernel|(simp;done)|(simp;omega)|fail) [h1,-bin_shr]
theorem e0_list(g:Nat)(hg:g<32)(lab s):den T0 42 [i64 (g:Nat)] lab s=some (.sl .no 1 (es cInt (bitsL g)),s):=by
 have key:=e0_list_l g hg s
 generalize bitsL g=L at*
 generalize topN g=n at*
 rw[den_fn u42 _ _ _ rfl]
 simp only[b42]
 simp (maxSteps:=1000000) (disch:=first|omega|assumption|decide +kernel|(simp;done)|(simp;omega)|fail) [key]
end Go.Proofs.YtmgkcipcjabigaaGreatDoor

/-
  Doors: both Checks.
-/
namespace Go.Proofs.YtmgkcipcjabigaaGreatDoor
open Go.Ab
def gateOk(n:Int)(g:DGate):Bool:=wiB g.a 0 (n-1)&&(wiB g.b 0 (n-1)&& !decide (g.a=g.b))
def groupOk(n:Int)(g:DGroup):Bool:=wiB g.pos 0 (n-1)&&wiB g.fish 0 99
def doorB(t:DTrap):Bool:=wiB t.chambers 1 4&&(wiB t.turns 0 4&&(wiB t.hands 0 3&&(decide (t.gates.length≤5)&&(decide (t.groups.length≤3)&&(allB (gateOk t.chambers) t.gates&&allB (groupOk t.chambers) t.groups)))))
structure ShortD(t:DTrap):Prop where
 gates:t.gates.length<5864062014806
 groups:t.groups.length<8796093022209
theorem doorB_short {t:DTrap}(h:doorB t=true):ShortD t:=by
 simp only[doorB,Bool.and_eq_true,decide_eq_true_eq]at h
 exact⟨by omega,by omega⟩
structure DoorOk(t:DTrap):Prop where
 ch:1≤t.chambers∧t.chambers≤4
 tu:0≤t.turns∧t.turns≤4
 ha:0≤t.hands∧t.hands≤3
 gl:t.gates.length≤5
 ol:t.groups.length≤3
 gates: ∀g,g∈t.gates→(0≤g.a∧g.a≤t.chambers-1)∧(0≤g.b∧g.b≤t.chambers-1)∧g.a≠g.b
 groups: ∀g,g∈t.groups→(0≤g.pos∧g.pos≤t.chambers-1)∧(0≤g.fish∧g.fish≤99)
theorem doorB_iff {t:DTrap}:doorB t=true↔DoorOk t:=by
 simp only[doorB,Bool.and_eq_true,decide_eq_true_eq,wiB_iff,allB,List.all_eq_true,gateOk,groupOk,Bool.not_eq_true',decide_eq_false_iff_not]
 constructor
 ·rintro⟨h1,h2,h3,h4,h5,h6,h7⟩;exact⟨h1,h2,h3,h4,h5,h6,h7⟩
 ·rintro⟨h1,h2,h3,h4,h5,h6,h7⟩;exact⟨h1,h2,h3,h4,h5,h6,h7⟩
theorem e_Check1(n:Int)(g:DGate)(d l:Nat)(s:Stk)(h:sget s d l=some (.cell [i64 (n-1)]))(hd: ¬d=s.length)(lab):
 den T 55 [.agg [i64 g.a,i64 g.b, .bool g.op], .ptr d l 0] lab s=some (.bool (!gateOk n g),s):=by
 unfold gateOk
 rw[den_fn t55 _ _ _ rfl]
 simp only[b55]
 cases c1:wiB g.a 0 (n-1)
 ·simp (maxSteps:=1000000) (disch:=first|omega|assumption|decide +kernel|(simp;done)|(simp;omega)|fail) [h,hd,c1]
 cases c2:wiB g.b 0 (n-1)
 ·simp (maxSteps:=1000000) (disch:=first|omega|assumption|decide +kernel|(simp;done)|(simp;omega)|fail) [h,hd,c1,c2]
 by_cases c3:g.a=g.b<;>simp (maxSteps:=1000000) (disch:=first|omega|assumption|decide +kernel|(simp;done)|(simp;omega)|fail) [h,hd,c1,c2,c3]
theorem e_Check2(n:Int)(g:DGroup)(d l:Nat)(s:Stk)(h:sget s d l=some (.cell [i64 (n-1)]))(hd: ¬d=s.length)(lab):
 den T 56 [.agg [i64 g.pos,i64 g.fish], .ptr d l 0] lab s=some (.bool (!groupOk n g),s):=by
 unfold groupOk
 rw[den_fn t56 _ _ _ rfl]
 simp only[b56]
 cases c1:wiB g.pos 0 (n-1)
 ·simp (maxSteps:=1000000) (disch:=first|omega|assumption|decide +kernel|(simp;done)|(simp;omega)|fail) [h,hd,c1]
 cases c2:wiB g.fish 0 99<;>simp (maxSteps:=1000000) (disch:=first|omega|assumption|decide +kernel|(simp;done)|(simp;omega)|fail) [h,hd,c1,c2]
theorem e_IndexGate_l(n:Int)(ws:List DGate)(d l:Nat)(s:Stk)(h:sget s d l=some (.cell [i64 (n-1)]))(hd:d<s.length)(hl:ws.length<4611686018427387904):
 ∃g:Nat,Run T b68l0 [(0, .sl .no 3 (es cGate ws)),(1, .fn 55 [] [.ptr d l 0]),(7,i64 ws.length),(8,i64 0)] ([]::s)=
  if allB (fun w=>gateOk n w) ws=true then some (.exit 0,[(0, .sl .no 3 (es cGate ws)),(1, .fn 55 [] [.ptr d l 0]),(7,i64 ws.length),(8,i64 ws.length),(9, .bool false)],[]::s)else some (.ret,[(4,i64 (g:Nat))],[]::s):=by
 have hd2: ¬d=s.length:=by omega
 have hd3: ¬d=s.length+1:=by omega
 have hc: ∀(w:DGate) lab,den T 55 [.agg [i64 w.a,i64 w.b, .bool w.op], .ptr d l 0] lab ([]::s)=some (.bool (!gateOk n w),[]::s):=fun w lab=>e_Check1 n w d l ([]::s) (by simp[hd2,h]) (by simp;omega) lab
 refine loop_all_g ws (fun w=>gateOk n w) (fun k=>[(0, .sl .no 3 (es cGate ws)),(1, .fn 55 [] [.ptr d l 0]),(7,i64 ws.length),(8,i64 k)]) (fun _=>[]::s) (fun g:Nat=>(.ret,[(4,i64 (g:Nat))],[]::s)) _ (by simp) (by simp[hd2]) ?_ (by simp) _ _ (by simp[hd2]) (by simp)
 intro k hk
 refine⟨k,?_⟩
 have hk2:(k:Int)<ws.length:=by omega
 have hc2:=fun lab=>hc ws[k] lab
 cases h2:gateOk n ws[k]
 ·simp (maxSteps:=1000000) (disch:=first|omega|assumption|decide +kernel|(simp;done)|(simp;omega)|fail) [hk,hk2,hc2,h2,hd2,hd3,wk k (by omega)]
 ·simp (maxSteps:=1000000) (disch:=first|omega|assumption|decide +kernel|(simp;done)|(simp;omega)|fail) [hk,hk2,hc2,h2,hd2,hd3,wk k (by omega)]
theorem e_ContainsGate(n:Int)(ws:List DGate)(d l:Nat)(s:Stk)(h:sget s d l=some (.cell [i64 (n-1)]))(hd:d<s.length)(hl:ws.length<4611686018427387904)(lab):
 den T 57 [.sl .no 3 (es cGate ws), .fn 55 [] [.ptr d l 0]] lab s=some (.bool (!allB (fun w=>gateOk n w) ws),s):=by
 have hd2: ¬d=s.length:=by omega
 have hd3: ¬d=s.length+1:=by omega
 have hi: ∃r:Int,(∀lab,den T 68 [.sl .no 3 (es cGate ws), .fn 55 [] [.ptr d l 0]] lab ([]::s)=some (i64 r,[]::s))∧(0≤r↔allB (fun w=>gateOk n w) ws=false):=by
  obtain⟨g,hg⟩:=e_IndexGate_l n ws d l ([]::s) (by simp[hd2,h]) (by simp;omega) hl
  refine⟨if allB (fun w=>gateOk n w) ws=true then -1 else g,?_,?_⟩
  rotate_left
  ·cases allB (fun w=>gateOk n w) ws<;>simp
  intro lab
  rw[den_fn t68 _ _ _ rfl]
  simp only[b68]
  cases h:allB (fun w=>gateOk n w) ws<;>simp (maxSteps:=1000000) (disch:=first|omega|assumption|decide +kernel|(simp;done)|(simp;omega)|fail) [hg,h,hd2,hd3]
 obtain⟨r,hr,hi⟩:=hi
 rw[den_fn t57 _ _ _ rfl]
 simp only[b57]
 by_cases h:0≤r
 ·simp (maxSteps:=1000000) (disch:=first|omega|assumption|decide +kernel|(simp;done)|(simp;omega)|fail) [hr,h,hi.1 h,hd2]
 ·have:allB (fun w=>gateOk n w) ws=true:=by cases hx:allB (fun w=>gateOk n w) ws;exact absurd (hi.2 hx) h;rfl
  simp (maxSteps:=1000000) (disch:=first|omega|assumption|decide +kernel|(simp;done)|(simp;omega)|fail) [hr,h,this,hd2]
theorem e_IndexGroup_l(n:Int)(ws:List DGroup)(d l:Nat)(s:Stk)(h:sget s d l=some (.cell [i64 (n-1)]))(hd:d<s.length)(hl:ws.length<4611686018427387904):
 ∃g:Nat,Run T b69l0 [(0, .sl .no 2 (es cGroup ws)),(1, .fn 56 [] [.ptr d l 0]),(7,i64 ws.length),(8,i64 0)] ([]::s)=
  if allB (fun w=>groupOk n w) ws=true then some (.exit 0,[(0, .sl .no 2 (es cGroup ws)),(1, .fn 56 [] [.ptr d l 0]),(7,i64 ws.length),(8,i64 ws.length),(9, .bool false)],[]::s)else some (.ret,[(4,i64 (g:Nat))],[]::s):=by
 have hd2: ¬d=s.length:=by omega
 have hd3: ¬d=s.length+1:=by omega
 have hc: ∀(w:DGroup) lab,den T 56 [.agg [i64 w.pos,i64 w.fish], .ptr d l 0] lab ([]::s)=some (.bool (!groupOk n w),[]::s):=fun w lab=>e_Check2 n w d l ([]::s) (by simp[hd2,h]) (by simp;omega) lab
 refine loop_all_g ws (fun w=>groupOk n w) (fun k=>[(0, .sl .no 2 (es cGroup ws)),(1, .fn 56 [] [.ptr d l 0]),(7,i64 ws.length),(8,i64 k)]) (fun _=>[]::s) (fun g:Nat=>(.ret,[(4,i64 (g:Nat))],[]::s)) _ (by simp) (by simp[hd2]) ?_ (by simp) _ _ (by simp[hd2]) (by simp)
 intro k hk
 refine⟨k,?_⟩
 have hk2:(k:Int)<ws.length:=by omega
 have hc2:=fun lab=>hc ws[k] lab
 cases h2:groupOk n ws[k]
 ·simp (maxSteps:=1000000) (disch:=first|omega|assumption|decide +kernel|(simp;done)|(simp;omega)|fail) [hk,hk2,hc2,h2,hd2,hd3,wk k (by omega)]
 ·simp (maxSteps:=1000000) (disch:=first|omega|assumption|decide +kernel|(simp;done)|(simp;omega)|fail) [hk,hk2,hc2,h2,hd2,hd3,wk k (by omega)]
theorem e_ContainsGroup(n:Int)(ws:List DGroup)(d l:Nat)(s:Stk)(h:sget s d l=some (.cell [i64 (n-1)]))(hd:d<s.length)(hl:ws.length<4611686018427387904)(lab):
 den T 58 [.sl .no 2 (es cGroup ws), .fn 56 [] [.ptr d l 0]] lab s=some (.bool (!allB (fun w=>groupOk n w) ws),s):=by
 have hd2: ¬d=s.length:=by omega
 have hd3: ¬d=s.length+1:=by omega
 have hi: ∃r:Int,(∀lab,den T 69 [.sl .no 2 (es cGroup ws), .fn 56 [] [.ptr d l 0]] lab ([]::s)=some (i64 r,[]::s))∧(0≤r↔allB (fun w=>groupOk n w) ws=false):=by
  obtain⟨g,hg⟩:=e_IndexGroup_l n ws d l ([]::s) (by simp[hd2,h]) (by simp;omega) hl
  refine⟨if allB (fun w=>groupOk n w) ws=true then -1 else g,?_,?_⟩
  rotate_left
  ·cases allB (fun w=>groupOk n w) ws<;>simp
  intro lab
  rw[den_fn t69 _ _ _ rfl]
  simp only[b69]
  cases h:allB (fun w=>groupOk n w) ws<;>simp (maxSteps:=1000000) (disch:=first|omega|assumption|decide +kernel|(simp;done)|(simp;omega)|fail) [hg,h,hd2,hd3]
 obtain⟨r,hr,hi⟩:=hi
 rw[den_fn t58 _ _ _ rfl]
 simp only[b58]
 by_cases h:0≤r
 ·simp (maxSteps:=1000000) (disch:=first|omega|assumption|decide +kernel|(simp;done)|(simp;omega)|fail) [hr,h,hi.1 h,hd2]
 ·have:allB (fun w=>groupOk n w) ws=true:=by cases hx:allB (fun w=>groupOk n w) ws;exact absurd (hi.2 hx) h;rfl
  simp (maxSteps:=1000000) (disch:=first|omega|assumption|decide +kernel|(simp;done)|(simp;omega)|fail) [hr,h,this,hd2]
set_option maxHeartbeats 1000000 in
theorem e_CheckD(t:DTrap)(hs:ShortD t)(lab s):den T 41 [.agg (dV t)] lab s=some (i64 (if doorB t=true then 0 else 30),s):=by
 have hg:=hs.gates
 have ho:=hs.groups
 rw[den_fn t41 _ _ _ rfl]
 simp only[b41]
 unfold doorB
 by_cases c0:1≤t.chambers∧t.chambers≤4
 rotate_left
 ·have c1:wiB t.chambers 1 4=false:=by cases h:wiB t.chambers 1 4;rfl;exact absurd (wiB_iff.1 h) c0
  simp (maxSteps:=1000000) (disch:=first|omega|assumption|decide +kernel|(simp;done)|(simp;omega)|fail) [c1]
 have c1:wiB t.chambers 1 4=true:=wiB_iff.2 c0
 have w1:IntKind.i64.wrap (t.chambers-1)=t.chambers-1:=wi _ (by omega) (by omega)
 cases c2:wiB t.turns 0 4
 ·simp (maxSteps:=1000000) (disch:=first|omega|assumption|decide +kernel|(simp;done)|(simp;omega)|fail) [c1,c2]
 cases c3:wiB t.hands 0 3
 ·simp (maxSteps:=1000000) (disch:=first|omega|assumption|decide +kernel|(simp;done)|(simp;omega)|fail) [c1,c2,c3]
 by_cases c4:t.gates.length≤5
 rotate_left
 ·have c4':(5:Int)<t.gates.length:=by omega
  simp (maxSteps:=1000000) (disch:=first|omega|assumption|decide +kernel|(simp;done)|(simp;omega)|fail) [c1,c2,c3,c4,c4',w1]
 have c4': ¬(5:Int)<t.gates.length:=by omega
 have h1:=fun(F:Ab.Loc) (hF:Loc.get F 48=some (.cell [i64 (t.chambers-1)])) lab=>e_ContainsGate t.chambers t.gates s.length 48 (F::s) (by simp[hF]) (by simp) (by omega) lab
 have h2:=fun(F:Ab.Loc) (hF:Loc.get F 48=some (.cell [i64 (t.chambers-1)])) lab=>e_ContainsGroup t.chambers t.groups s.length 48 (F::s) (by simp[hF]) (by simp) (by omega) lab
 cases c5:allB (fun w=>gateOk t.chambers w) t.gates
 ·rw[c5]at h1
  simp (maxSteps:=1000000) (disch:=first|omega|assumption|decide +kernel|(simp;done)|(simp;omega)|fail) [c1,c2,c3,c4,c4',w1,h1]
 rw[c5]at h1
 by_cases c6:t.groups.length≤3
 rotate_left
 ·have c6':(3:Int)<t.groups.length:=by omega
  simp (maxSteps:=1000000) (disch:=first|omega|assumption|decide +kernel|(simp;done)|(simp;omega)|fail) [c1,c2,c3,c4,c4',c6,c6',w1,h1]
 have c6': ¬(3:Int)<t.groups.length:=by omega
 cases c7:allB (fun w=>groupOk t.chambers w) t.groups<;>rw[c7]at h2<;>simp (maxSteps:=1000000) (disch:=first|omega|assumption|decide +kernel|(simp;done)|(simp;omega)|fail) [c1,c2,c3,c4,c4',c6,c6',w1,h1,h2]
theorem e_IsChamber(t:DTrap)(h:1≤t.chambers∧t.chambers≤4)(n:Int)(lab s):den T 22 [.agg (dV t),i64 n] lab s=some (.bool (wiB n 0 (t.chambers-1)),s):=by
 have w1:IntKind.i64.wrap (t.chambers-1)=t.chambers-1:=wi _ (by omega) (by omega)
 rw[den_fn t22 _ _ _ rfl]
 simp only[b22]
 simp (maxSteps:=1000000) (disch:=first|omega|assumption|decide +kernel|(simp;done)|(simp;omega)|fail) [w1]
theorem e_CheckR_l0(t:DTrap)(hs:ShortD t)(h:1≤t.chambers∧t.chambers≤4)(s:Stk):
 ∃g:Ab.Loc,Run T b11l0 [(1, .ptr s.length 16 0),(3,i64 0)] ([(16, .cell (dV t))]::s)=
  if allB (gateOk t.chambers) t.gates=true then some (.exit 0,[(1, .ptr s.length 16 0),(3,i64 t.gates.length),(39, .bool false)],[(16, .cell (dV t))]::s)else some (.ret,[(2,i64 30)],g::s):=by
 have hg:=hs.gates
 refine loop_all_g t.gates (gateOk t.chambers) (fun k=>[(1, .ptr s.length 16 0),(3,i64 k)]) (fun _=>[(16, .cell (dV t))]::s) (fun g:Ab.Loc=>(.ret,[(2,i64 30)],g::s)) _ (by simp) (by simp) ?_ (by simp) _ _ (by simp) (by simp)
 intro k hk
 have hk2:(k:Int)<t.gates.length:=by omega
 have hc:=fun n lab s=>e_IsChamber t h n lab s
 refine⟨[(16, .cell (dV t)),(64, .cell [i64 t.gates[k].a,i64 t.gates[k].b, .bool t.gates[k].op])],?_⟩
 unfold gateOk
 generalize hG:t.gates[k]=G at*
 cases c1:wiB G.a 0 (t.chambers-1)
 ·simp (maxSteps:=1000000) (disch:=first|omega|assumption|decide +kernel|(simp;done)|(simp;omega)|fail) [hk,hk2,hG,hc,c1]
 cases c2:wiB G.b 0 (t.chambers-1)
 ·simp (maxSteps:=1000000) (disch:=first|omega|assumption|decide +kernel|(simp;done)|(simp;omega)|fail) [hk,hk2,hG,hc,c1,c2]
 by_cases c3:G.a=G.b<;>simp (maxSteps:=1000000) (disch:=first|omega|assumption|decide +kernel|(simp;done)|(simp;omega)|fail) [hk,hk2,hG,hc,c1,c2,c3,wk k (by omega)]
end Go.Proofs.YtmgkcipcjabigaaGreatDoor

/-
  Doors: the reference's Check; fish in the last chamber.
-/
namespace Go.Proofs.YtmgkcipcjabigaaGreatDoor
open Go.Ab
theorem e_CheckR_l1(t:DTrap)(hs:ShortD t)(h:1≤t.chambers∧t.chambers≤4)(s:Stk):
 ∃g:Ab.Loc,Run T b11l1 [(1, .ptr s.length 16 0),(5,i64 0)] ([(16, .cell (dV t))]::s)=
  if allB (groupOk t.chambers) t.groups=true then some (.exit 2,[(1, .ptr s.length 16 0),(5,i64 t.groups.length),(70, .bool false)],[(16, .cell (dV t))]::s)else some (.ret,[(2,i64 30)],g::s):=by
 have hg:=hs.groups
 refine loop_all_g t.groups (groupOk t.chambers) (fun k=>[(1, .ptr s.length 16 0),(5,i64 k)]) (fun _=>[(16, .cell (dV t))]::s) (fun g:Ab.Loc=>(.ret,[(2,i64 30)],g::s)) _ (by simp) (by simp) ?_ (by simp) _ _ (by simp) (by simp)
 intro k hk
 have hk2:(k:Int)<t.groups.length:=by omega
 have hc:=fun n lab s=>e_IsChamber t h n lab s
 refine⟨[(16, .cell (dV t)),(96, .cell [i64 t.groups[k].pos,i64 t.groups[k].fish])],?_⟩
 unfold groupOk
 generalize hG:t.groups[k]=G at*
 cases c1:wiB G.pos 0 (t.chambers-1)
 ·simp (maxSteps:=1000000) (disch:=first|omega|assumption|decide +kernel|(simp;done)|(simp;omega)|fail) [hk,hk2,hG,hc,c1]
 cases c2:wiB G.fish 0 99
 ·simp (maxSteps:=1000000) (disch:=first|omega|assumption|decide +kernel|(simp;done)|(simp;omega)|fail) [hk,hk2,hG,hc,c1,c2]
 ·simp (maxSteps:=1000000) (disch:=first|omega|assumption|decide +kernel|(simp;done)|(simp;omega)|fail) [hk,hk2,hG,hc,c1,c2,wk k (by omega)]
set_option maxHeartbeats 1000000 in
theorem e_CheckR(t:DTrap)(hs:ShortD t)(lab s):den T 11 [.agg (dV t)] lab s=some (i64 (if doorB t=true then 0 else 30),s):=by
 have hg:=hs.gates
 have ho:=hs.groups
 rw[den_fn t11 _ _ _ rfl]
 simp only[b11]
 unfold doorB
 by_cases c0:1≤t.chambers∧t.chambers≤4
 rotate_left
 ·have c1:wiB t.chambers 1 4=false:=by cases h:wiB t.chambers 1 4;rfl;exact absurd (wiB_iff.1 h) c0
  simp (maxSteps:=1000000) (disch:=first|omega|assumption|decide +kernel|(simp;done)|(simp;omega)|fail) [c1]
 have c1:wiB t.chambers 1 4=true:=wiB_iff.2 c0
 cases c2:wiB t.turns 0 4
 ·simp (maxSteps:=1000000) (disch:=first|omega|assumption|decide +kernel|(simp;done)|(simp;omega)|fail) [c1,c2]
 cases c3:wiB t.hands 0 3
 ·simp (maxSteps:=1000000) (disch:=first|omega|assumption|decide +kernel|(simp;done)|(simp;omega)|fail) [c1,c2,c3]
 by_cases c4:t.gates.length≤5
 rotate_left
 ·have c4':(5:Int)<t.gates.length:=by omega
  simp (maxSteps:=1000000) (disch:=first|omega|assumption|decide +kernel|(simp;done)|(simp;omega)|fail) [c1,c2,c3,c4,c4']
 have c4': ¬(5:Int)<t.gates.length:=by omega
 by_cases c6:t.groups.length≤3
 rotate_left
 ·have c6':(3:Int)<t.groups.length:=by omega
  simp (maxSteps:=1000000) (disch:=first|omega|assumption|decide +kernel|(simp;done)|(simp;omega)|fail) [c1,c2,c3,c4,c4',c6,c6']
 have c6': ¬(3:Int)<t.groups.length:=by omega
 obtain⟨g,hl0⟩:=e_CheckR_l0 t hs c0 s
 obtain⟨g',hl1⟩:=e_CheckR_l1 t hs c0 s
 cases c5:allB (gateOk t.chambers) t.gates
 ·rw[c5]at hl0
  simp only[Bool.false_eq_true,if_false]at hl0
  simp (maxSteps:=1000000) (disch:=first|omega|assumption|decide +kernel|(simp;done)|(simp;omega)|fail) [c1,c2,c3,c4,c4',c6,c6',hl0]
 rw[c5]at hl0
 simp only[if_true]at hl0
 cases c7:allB (groupOk t.chambers) t.groups
 ·rw[c7]at hl1
  simp only[Bool.false_eq_true,if_false]at hl1
  simp (maxSteps:=1000000) (disch:=first|omega|assumption|decide +kernel|(simp;done)|(simp;omega)|fail) [c1,c2,c3,c4,c4',c6,c6',hl0,hl1]
 ·rw[c7]at hl1
  simp only[if_true]at hl1
  simp (maxSteps:=1000000) (disch:=first|omega|assumption|decide +kernel|(simp;done)|(simp;omega)|fail) [c1,c2,c3,c4,c4',c6,c6',hl0,hl1]
def posL(t:DTrap):List Int:=t.groups.map (·.pos)
def fishL(t:DTrap):List Int:=t.groups.map (·.fish)
end Go.Proofs.YtmgkcipcjabigaaGreatDoor

/-
  Doors: slices.Compact, slices.Sort.
-/
namespace Go.Proofs.YtmgkcipcjabigaaGreatDoor
open Go.Ab
theorem loop_next {live keep:List Nat} {b:AC} {e e1:Env} {s s1:Stk} {q}(h:Run T b (gcEnv live keep e s) (gcStk keep s)=some (.normal,e1,s1))(h2:Run T (.loop live keep b) e1 s1=q):Run T (.loop live keep b) e s=q:=by
 rw[run_loop,h,←h2];rfl
theorem loop_stop {live keep:List Nat} {b:AC} {e e1:Env} {s s1:Stk} {ex:Ex}(h:Run T b (gcEnv live keep e s) (gcStk keep s)=some (ex,e1,s1))(hx:ex≠ .normal):Run T (.loop live keep b) e s=some (ex,e1,s1):=by
 rw[run_loop,h];cases ex<;>first|rfl|exact absurd rfl hx
@[simp] theorem es_setI(l:List Int)(k:Nat)(x:Int):(es cInt l).set k [i64 x]=es cInt (l.set k x):=by simp[es,List.map_set]
theorem set0(m r:List Int)(p x:Int):(m ++p::r).set 0 x=x::((m ++[p]).tail ++r):=by cases m<;>simp
def cpG(L:List Int)(k0:Nat)(a:List Int×List Int)(j:Nat):List Int×List Int:=
 if L.getD (k0+j+1) 0=L.getD (k0+j) 0 then(a.1,a.2 ++[L.getD (k0+j) 0])else(a.1 ++[L.getD (k0+j+1) 0],(a.2 ++[L.getD (k0+j) 0]).tail)
theorem compact_l1(L:List Int)(N:Nat)(hN:L.length=N)(hN2:N<4611686018427387904)(k0:Nat)(hk0:k0<N)(d l:Nat)(X:List Int→Stk)(hd: ∀a,¬d=(X a).length)
 (hget: ∀a,sget (X a) d l=some (.arr 1 (es cInt a))) (hput: ∀a b,sput (X a) d l (.arr 1 (es cInt b))=X b):
 Run T b82l1 [(0, .asl d l 1 N 0 N),(3,i64 k0),(4, .asl d l 1 N k0 (N-k0)),(5,i64 1)] ([]::X L)=
  some (.exit 2,[(0, .asl d l 1 N 0 N),(3,i64 (((List.range (N-k0-1)).foldl (cpG L k0) (L.take k0,[])).1.length:Nat)),(4, .asl d l 1 N k0 (N-k0)),(5,i64 ((N-k0-1:Nat)+1)),(32, .bool false)],[]::X (((List.range (N-k0-1)).foldl (cpG L k0) (L.take k0,[])).1 ++(((List.range (N-k0-1)).foldl (cpG L k0) (L.take k0,[])).2 ++L.drop (k0+(N-k0-1))))):=by
 have key:=loop_fold (T:=T) (live:=[0,3,4,5]) (keep:=[]) (b:=d82l1) (List.range (N-k0-1)) (fun j (a:List Int×List Int)=>a.1.length+a.2.length=k0+j) (cpG L k0)
  (fun j a=>[(0, .asl d l 1 N 0 N),(3,i64 (a.1.length:Nat)),(4, .asl d l 1 N k0 (N-k0)),(5,i64 ((j:Nat)+1))]) (fun j a=>[]::X (a.1 ++(a.2 ++L.drop (k0+j))))
  (fun a=>(.exit 2,[(0, .asl d l 1 N 0 N),(3,i64 (a.1.length:Nat)),(4, .asl d l 1 N k0 (N-k0)),(5,i64 ((N-k0-1:Nat)+1)),(32, .bool false)],[]::X (a.1 ++(a.2 ++L.drop (k0+(N-k0-1))))))
  (by simp) ?_ ?_ ?_ (L.take k0,[]) (by simp;omega) [(0, .asl d l 1 N 0 N),(3,i64 k0),(4, .asl d l 1 N k0 (N-k0)),(5,i64 1)] ([]::X L) ?_ (by simp)
 ·exact key
 ·intro j a hj hi
  simp only[List.length_range]at hj
  simp only[List.getElem_range]
  have hj1:k0+j<L.length:=by omega
  have hj2:k0+j+1<L.length:=by omega
  have e1:L.drop (k0+j)=L[k0+j]::L[k0+j+1]::L.drop (k0+j+2):=by rw[List.drop_eq_getElem_cons hj1,List.drop_eq_getElem_cons hj2]
  have e2:L.drop (k0+(j+1))=L[k0+j+1]::L.drop (k0+j+2):=by rw[show k0+(j+1)=k0+j+1 by omega,List.drop_eq_getElem_cons hj2]
  have g1:L.getD (k0+j+1) 0=L[k0+j+1]:=by simp[List.getD,hj2]
  have g2:L.getD (k0+j) 0=L[k0+j]:=by simp[List.getD,hj1]
  rw[e2]
  simp only[cpG,g1,g2,e1]
  obtain⟨pre,mid⟩:=a
  simp only at hi⊢
  generalize hx:L[k0+j+1]=x
  generalize hp:L[k0+j]=p
  have hr:(L.drop (k0+j+2)).length=N-(k0+j+2):=by simp[hN]
  generalize L.drop (k0+j+2)=r at hr
  obtain⟨A,hA⟩: ∃A,A=pre ++(mid ++p::x::r):=⟨_,rfl⟩
  have hAl:A.length=N:=by rw[hA];simp;omega
  have hAx:A[k0+(j+1)]? =some x:=by
   rw[hA,←List.append_assoc,List.getElem?_append_right (by simp;omega)]
   simp only[List.length_append]
   rw[show k0+(j+1)-(pre.length+mid.length)=1 by omega];rfl
  have hAp:A[k0+j]? =some p:=by
   rw[hA,←List.append_assoc,List.getElem?_append_right (by simp;omega)]
   simp only[List.length_append]
   rw[show k0+j-(pre.length+mid.length)=0 by omega];rfl
  have hlx:k0+(j+1)<A.length:=by omega
  have hlp:k0+j<A.length:=by omega
  have hAx':A[k0+(j+1)]=x:=by rw[List.getElem?_eq_getElem hlx]at hAx;simpa using hAx
  have hAp':A[k0+j]=p:=by rw[List.getElem?_eq_getElem hlp]at hAp;simpa using hAp
  have hset:A.set pre.length x=pre ++(x::((mid ++[p]).tail ++x::r)):=by
   rw[hA,List.set_append_right _ _ (by omega),Nat.sub_self,set0]
  have hpl:pre.length<N:=by omega
  have n1:((j:Int)+1).toNat=j+1:=by omega
  have n3:j+1<N-k0:=by omega
  have n4:j<N-k0:=by omega
  have n5:((j:Int)+1)<(N-k0:Nat):=by omega
  have n6:(0:Int)≤(j:Int)+1:=by omega
  have n8:(j:Int)<(N-k0:Nat):=by omega
  rw[←hA]
  by_cases c:x=p
  ·rw[if_pos c]
   simp (maxSteps:=1000000) (disch:=first|omega|assumption|decide +kernel|(simp;done)|(simp;omega)|fail) [run_drawnK,hd,hget,hAl,hAx',hAp',n1,n3,n4,n5,n6,n8,c,wi]
   rw[hA,c]
  ·rw[if_neg c]
   simp (maxSteps:=1000000) (disch:=first|omega|assumption|decide +kernel|(simp;done)|(simp;omega)|fail) [run_drawnK,hd,hget,hput,hset,hAl,hAx',hAp',hpl,n1,n3,n4,n5,n6,n8,c,wi]
 ·intro j a hj hi
  simp only[List.length_range]at hj
  simp only[List.getElem_range]
  unfold cpG
  split<;>simp<;>omega
 ·intro a hi
  simp only[List.length_range]at hi⊢
  obtain⟨A,hA⟩: ∃A,A=a.1 ++(a.2 ++L.drop (k0+(N-k0-1))):=⟨_,rfl⟩
  have hAl:A.length=N:=by rw[hA];simp;omega
  have n1: ¬((N-k0-1:Nat):Int)+1<(N-k0:Nat):=by omega
  rw[←hA]
  simp (maxSteps:=1000000) (disch:=first|omega|assumption|decide +kernel|(simp;done)|(simp;omega)|fail) [hd,hget,hAl,n1]
 ·have:min k0 L.length=k0:=by omega
  simp[hd,this]
theorem cp_inv(L:List Int)(hs:L.Pairwise (· ≤ ·))(k0:Nat)(h1:1≤k0)(hk:k0<L.length)(he:L[k0]=L[k0-1])(hp:(L.take k0).Pairwise (· < ·)): ∀j,(hj:k0+j<L.length)→
 ((List.range j).foldl (cpG L k0) (L.take k0,[])).1.Pairwise (· < ·)∧(∀y,y∈((List.range j).foldl (cpG L k0) (L.take k0,[])).1↔y∈L.take (k0+j+1))∧(∀y∈((List.range j).foldl (cpG L k0) (L.take k0,[])).1,y≤L[k0+j])
 |0,hj=>by
   refine⟨hp,fun y=> ?_,fun y hy=> ?_⟩
   ·simp only[List.range_zero,List.foldl_nil,Nat.add_zero,List.take_succ_eq_append_getElem hk,List.mem_append,List.mem_singleton]
    refine⟨Or.inl,fun h=>h.elim id fun h=> ?_⟩
    subst h
    rw[he]
    exact List.mem_take_iff_getElem.2 ⟨k0-1,by omega,rfl⟩
   ·simp only[List.range_zero,List.foldl_nil]at hy
    obtain⟨i,hi,rfl⟩:=List.mem_take_iff_getElem.1 hy
    simp only[Nat.add_zero]
    exact List.pairwise_iff_getElem.1 hs i k0 (by omega) hk (by omega)
 |j+1,hj=>by
   obtain⟨a1,a2,a3⟩:=cp_inv L hs k0 h1 hk he hp j (by omega)
   have hj':k0+j<L.length:=by omega
   have hj2:k0+j+1<L.length:=by omega
   have g1:L.getD (k0+j+1) 0=L[k0+j+1]:=by simp[List.getD,hj2]
   have g2:L.getD (k0+j) 0=L[k0+j]:=by simp[List.getD,hj']
   have hle:L[k0+j]≤L[k0+j+1]:=List.pairwise_iff_getElem.1 hs _ _ hj' hj2 (by omega)
   rw[List.range_succ,List.foldl_append]
   generalize (List.range j).foldl (cpG L k0) (L.take k0,[])=a at*
   simp only[List.foldl_cons,List.foldl_nil,cpG,g1,g2]
   have et:L.take (k0+(j+1)+1)=L.take (k0+j+1) ++[L[k0+j+1]]:=by rw[show k0+(j+1)+1=(k0+j+1)+1 by omega,List.take_succ_eq_append_getElem hj2]
   have ei:L[k0+(j+1)]=L[k0+j+1]:=rfl
   rw[ei]
   by_cases c:L[k0+j+1]=L[k0+j]
   ·rw[if_pos c]
    refine⟨a1,fun y=> ?_,fun y hy=>by have:=a3 y hy;omega⟩
    rw[et,List.mem_append,List.mem_singleton,a2]
    refine⟨Or.inl,fun h=>h.elim id fun h=> ?_⟩
    subst h
    rw[c]
    exact List.mem_take_iff_getElem.2 ⟨k0+j,by omega,rfl⟩
   ·rw[if_neg c]
    refine⟨List.pairwise_append.2 ⟨a1,List.pairwise_singleton _ _,fun y hy z hz=> ?_⟩,fun y=> ?_,fun y hy=> ?_⟩
    ·simp only[List.mem_singleton]at hz
     subst hz
     have:=a3 y hy;omega
    ·rw[et,List.mem_append,List.mem_append,a2]
    ·rcases List.mem_append.1 hy with h|h
     ·have:=a3 y h;omega
     ·simp only[List.mem_singleton]at h;omega
theorem e_Compact_l0(L:List Int)(N:Nat)(hN:L.length=N)(hN2:N<4611686018427387904)(hs:L.Pairwise (· ≤ ·))(d l:Nat)(X:List Int→Stk)(hd: ∀a,¬d=(X a).length)
 (hget: ∀a,sget (X a) d l=some (.arr 1 (es cInt a))) (hput: ∀a b,sput (X a) d l (.arr 1 (es cInt b))=X b): ∀(m k:Nat),k+m=N→1≤k→(L.take k).Pairwise (· < ·)→
 ∃R A ex e,Run T b82l0 [(0, .asl d l 1 N 0 N),(3,i64 k)] ([]::X L)=some (ex,e,[]::X A)∧(ex= .ret∧e=[(2, .asl d l 1 N 0 R.length)]∨ex= .exit 0∧e=[(0, .asl d l 1 N 0 N),(3,i64 N),(13, .bool false)]∧R.length=N)∧
  A.length=N∧A.take R.length=R∧R.Pairwise (· < ·)∧ ∀y,y∈R↔y∈L
 |0,k,hm,h1,hp=>by
   have hk:k=N:=by omega
   subst hk
   refine⟨L,L, .exit 0,_,?_, .inr ⟨rfl,rfl,hN⟩,hN,by simp,by rw[←hN,List.take_length]at hp;exact hp,fun y=>Iff.rfl⟩
   refine loop_stop (ex:= .exit 0) ?_ (by simp)
   simp (maxSteps:=1000000) (disch:=first|omega|assumption|decide +kernel|(simp;done)|(simp;omega)|fail) [hd,hget,hN]
 |m+1,k,hm,h1,hp=>by
   have hk:k<L.length:=by omega
   have hk1:k-1<L.length:=by omega
   have hkN:k<N:=by omega
   have hkle:k≤N:=by omega
   have n1:((k:Int)-1).toNat=k-1:=by omega
   have n2:(0:Int)≤(k:Int)-1:=by omega
   have n3:(1:Int)≤(k:Int):=by omega
   have n4:(k:Int)-1<N:=by omega
   by_cases c:L[k]=L[k-1]
   ·have key:=compact_l1 L N hN hN2 k hkN d l X hd hget hput
    obtain⟨i1,i2,i3⟩:=cp_inv L hs k h1 hk c hp (N-k-1) (by omega)
    have hinv:((List.range (N-k-1)).foldl (cpG L k) (L.take k,[])).1.length+((List.range (N-k-1)).foldl (cpG L k) (L.take k,[])).2.length=k+(N-k-1):=by
     have: ∀j,((List.range j).foldl (cpG L k) (L.take k,[])).1.length+((List.range j).foldl (cpG L k) (L.take k,[])).2.length=k+j:=by
      intro j
      induction j with
      |zero=>simp;omega
      |succ j ih=>
        rw[List.range_succ,List.foldl_append]
        simp only[List.foldl_cons,List.foldl_nil]
        generalize (List.range j).foldl (cpG L k) (L.take k,[])=a at ih
        unfold cpG
        split<;>simp<;>omega
     exact this _
    rw[show k+(N-k-1)+1=N by omega,←hN,List.take_length,hN]at i2
    generalize (List.range (N-k-1)).foldl (cpG L k) (L.take k,[])=q at*
    obtain⟨R,mid⟩:=q
    simp only at key i1 i2 hinv
    have hRl:R.length<N:=by omega
    have hRl2:R.length≤N:=by omega
    have hRl3: ¬N-R.length=0:=by omega
    have hR0:0<R.length:=by
     refine List.length_pos_iff.2 fun h=> ?_
     have:=(i2 L[k]).2 (List.getElem_mem hk)
     rw[h]at this;simp at this
    obtain⟨B,hB⟩: ∃B,B=R ++(mid ++L.drop (k+(N-k-1))):=⟨_,rfl⟩
    have hBl:B.length=N:=by rw[hB];simp;omega
    have hBt:B.take R.length=R:=by rw[hB];simp
    rw[←hB]at key
    have hent:es cInt (List.take R.length B) ++(List.replicate (N-R.length) [i64 0] ++es cInt (List.drop N B))=es cInt (B.take R.length ++List.replicate (N-R.length) 0):=by
     rw[List.drop_eq_nil_of_le (by omega)]
     simp[es]
    have hel:(B.take R.length ++List.replicate (N-R.length) 0).length=N:=by simp;omega
    refine⟨R,B.take R.length ++List.replicate (N-R.length) 0, .ret,_,?_, .inl ⟨rfl,rfl⟩,by simp;omega,by rw[hBt];simp,i1,i2⟩
    refine loop_stop (ex:= .ret) ?_ (by simp)
    simp (maxSteps:=1000000) (disch:=first|omega|assumption|decide +kernel|(simp;done)|(simp;omega)|fail) [run_drawnK,hd,hget,hput,hN,hk,hk1,hkN,hkle,n1,n2,n3,n4,c,wi,key,hBl,hRl,hRl2,hRl3,hR0,hent,hel]
   ·have hlt:L[k-1]<L[k]:=by
     have:=List.pairwise_iff_getElem.1 hs (k-1) k hk1 hk (by omega)
     omega
    have hp2:(L.take (k+1)).Pairwise (· < ·):=by
     rw[List.take_succ_eq_append_getElem hk]
     refine List.pairwise_append.2 ⟨hp,List.pairwise_singleton _ _,fun y hy z hz=> ?_⟩
     simp only[List.mem_singleton]at hz
     subst hz
     obtain⟨i,hi,rfl⟩:=List.mem_take_iff_getElem.1 hy
     rcases Nat.lt_or_ge i (k-1)with h|h
     ·have:=List.pairwise_iff_getElem.1 hs i (k-1) (by omega) hk1 h
      omega
     ·have:i=k-1:=by omega
      subst this;exact hlt
    obtain⟨R,A,ex,e,q1,q2⟩:=e_Compact_l0 L N hN hN2 hs d l X hd hget hput m (k+1) (by omega) (by omega) hp2
    refine⟨R,A,ex,e,loop_next (e1:=[(0, .asl d l 1 N 0 N),(3,i64 (k+1:Nat))]) (s1:=[]::X L) ?_ q1,q2⟩
    simp (maxSteps:=1000000) (disch:=first|omega|assumption|decide +kernel|(simp;done)|(simp;omega)|fail) [run_drawnK,hd,hget,hN,hk,hk1,hkN,hkle,n1,n2,n3,n4,c,wi,wk k (by omega)]
theorem e_Compact(L:List Int)(N:Nat)(hN:L.length=N)(hN2:N<4611686018427387904)(h0:L≠[])(hs:L.Pairwise (· ≤ ·))(d l:Nat)(X:List Int→Stk)(hd: ∀a,¬d=(X a).length)
 (hget: ∀a,sget (X a) d l=some (.arr 1 (es cInt a))) (hput: ∀a b,sput (X a) d l (.arr 1 (es cInt b))=X b) (lab):
 ∃R A,den T 82 [.asl d l 1 N 0 N] lab (X L)=some (.asl d l 1 N 0 R.length,X A)∧A.length=N∧A.take R.length=R∧R.Pairwise (· < ·)∧ ∀y,y∈R↔y∈L:=by
 by_cases c:N<2
 ·refine⟨L,L,?_,hN,by simp,?_,fun y=>Iff.rfl⟩
  ·have c2:(N:Int)<2:=by omega
   rw[den_fn t82 _ _ _ rfl]
   simp only[b82]
   simp (maxSteps:=1000000) (disch:=first|omega|assumption|decide +kernel|(simp;done)|(simp;omega)|fail) [hd,hget,c,c2,hN]
  ·match L,h0 with
   |[x],_=>exact List.pairwise_singleton _ _
   |x::y::r,_=>simp at hN;omega
 ·have c2: ¬(N:Int)<2:=by omega
  obtain⟨R,A,ex,e,q1,q2,q3⟩:=e_Compact_l0 L N hN hN2 hs d l X hd hget hput (N-1) 1 (by omega) (by omega) (by
   match L,h0 with
   |x::r,_=>exact List.pairwise_singleton _ _)
  refine⟨R,A,?_,q3⟩
  change Run T _ [_,(3,i64 1)] _=_ at q1
  rw[den_fn t82 _ _ _ rfl]
  simp only[b82]
  rcases q2 with ⟨rfl,rfl⟩|⟨rfl,rfl,q4⟩
  ·simp (maxSteps:=1000000) (disch:=first|omega|assumption|decide +kernel|(simp;done)|(simp;omega)|fail) [hd,hget,c,c2,hN,q1]
  ·simp (maxSteps:=1000000) (disch:=first|omega|assumption|decide +kernel|(simp;done)|(simp;omega)|fail) [hd,hget,c,c2,hN,q1,q4]
theorem rowInts_es(l:List Int):rowInts (es cInt l)=some l:=rowInts_map l
theorem es_cell(l:List Int):l.map cellInt=es cInt l:=rfl
theorem e_Sort(F:List Int)(h0:F≠[])(hl:F.length<4611686018427387904)(d l:Nat)(s:Stk)(h:sget s d l=some (.arr 1 (es cInt F)))(lab):
 den T 81 [.asl d l 1 F.length 0 F.length] lab s=some (.tup [],sput s d l (.arr 1 (es cInt (sortedI F)))):=by
 rw[den_prim t81]
 have h1:es cInt F≠[]:=by simpa using h0
 simp[Go.Ab.sortP,h,h1,hl,rowInts_es,es_cell]
theorem sortedI_sorted(F:List Int):(sortedI F).Pairwise (· ≤ ·):=by
 have:=List.pairwise_mergeSort (le:=fun(x y:Int)=>decide (x≤y)) (fun a b c h1 h2=>by simp at*;omega) (fun a b=>by simp;omega) F
 exact this.imp (fun h=>by simpa using h)
theorem strict_eq: ∀(a b:List Int),a.Pairwise (· < ·)→b.Pairwise (· < ·)→(∀y,y∈a↔y∈b)→a=b
 |[],[],_,_,_=>rfl
 |[],y::b,_,_,h=>by have:=(h y).2 (by simp);simp at this
 |x::a,[],_,_,h=>by have:=(h x).1 (by simp);simp at this
 |x::a,y::b,ha,hb,h=>by
   obtain⟨ha1,ha2⟩:=List.pairwise_cons.1 ha
   obtain⟨hb1,hb2⟩:=List.pairwise_cons.1 hb
   have e:x=y:=by
    rcases List.mem_cons.1 ((h x).1 (by simp))with h1|h1
    ·exact h1
    ·rcases List.mem_cons.1 ((h y).2 (by simp))with h2|h2
     ·exact h2.symm
     ·have:=hb1 x h1;have:=ha1 y h2;omega
   subst e
   congr 1
   refine strict_eq a b ha2 hb2 fun z=>⟨fun hz=> ?_,fun hz=> ?_⟩
   ·rcases List.mem_cons.1 ((h z).1 (by simp[hz]))with h1|h1
    ·have:=ha1 z hz;omega
    ·exact h1
   ·rcases List.mem_cons.1 ((h z).2 (by simp[hz]))with h1|h1
    ·have:=hb1 z hz;omega
    ·exact h1
theorem es_takeI(l:List Int)(k:Nat):(es cInt l).take k=es cInt (l.take k):=by simp[es]
end Go.Proofs.YtmgkcipcjabigaaGreatDoor

/-
  Doors: the ways of a group, by the program.
-/
namespace Go.Proofs.YtmgkcipcjabigaaGreatDoor
open Go.Ab
def openS(o:Nat):Nat→List DGate→List DGate
 |_,[]=>[]
 |i,g::r=> {g with op:=o.testBit i}::openS o (i+1) r
abbrev openG(o:Nat)(gs:List DGate):List DGate:=openS o 0 gs
theorem openS_get(o:Nat): ∀(i:Nat) (gs:List DGate) (j:Nat),(openS o i gs)[j]? =(gs[j]?).map fun g=> {g with op:=o.testBit (i+j)}
 |_,[],j=>by simp[openS]
 |i,g::r,0=>by simp[openS]
 |i,g::r,j+1=>by
   simp only[openS,List.getElem?_cons_succ,openS_get o (i+1) r j]
   rw[show i+1+j=i+(j+1)by omega]
@[simp] theorem openS_length(o:Nat): ∀(i:Nat) (gs:List DGate),(openS o i gs).length=gs.length
 |_,[]=>rfl
 |i,g::r=>by simp[openS,openS_length o (i+1) r]
def wayAt(o:Nat)(p:Int)(gs:List DGate)(k:Nat):List Int:=
 match gs[k]? with
 |some g=>if lowN (shrN o k)=0 then []else if g.a=p then [g.b]else if g.b=p then [g.a]else []
 |none=>[]
def outW(o:Nat)(p:Int)(gs:List DGate):List Int:=(List.range gs.length).foldl (fun a k=>a ++wayAt o p gs k) []
theorem outW_flat(o p gs):outW o p gs=(List.range gs.length).flatMap (wayAt o p gs):=by
 have: ∀(l:List Nat) (a:List Int),l.foldl (fun a k=>a ++wayAt o p gs k) a=a ++l.flatMap (wayAt o p gs):=by
  intro l
  induction l with
  |nil=>intro a;simp
  |cons x r ih=>intro a;simp[ih]
 unfold outW
 rw[this];rfl
theorem wayAt_len(o p gs k):(wayAt o p gs k).length≤1:=by
 unfold wayAt
 split
 ·split
  ·simp
  ·split
   ·simp
   ·split<;>simp
 ·simp
theorem low_bit(o k:Nat):(lowN (shrN o k)=0)=(o.testBit k=false):=by
 unfold lowN shrN
 rw[Nat.testBit_eq_decide_div_mod_eq,Nat.shiftRight_eq_div_pow]
 have:=Nat.mod_lt (o/2^k) (show 2>0 by decide)
 simp only[decide_eq_false_iff_not,eq_iff_iff]
 omega
theorem mem_outW {o:Nat} {p c:Int} {gs:List DGate}:c∈outW o p gs↔wayB (openG o gs) p c=true:=by
 rw[outW_flat]
 simp only[List.mem_flatMap,List.mem_range,wayB,List.any_eq_true]
 constructor
 ·rintro⟨k,hk,hc⟩
  unfold wayAt at hc
  rw[List.getElem?_eq_getElem hk]at hc
  simp only[low_bit]at hc
  split at hc
  ·simp at hc
  ·rename_i ho
   refine⟨{gs[k]with op:=o.testBit k},List.mem_iff_getElem?.2 ⟨k,by rw[openS_get,List.getElem?_eq_getElem hk];simp⟩,?_⟩
   split at hc
   ·rename_i h1;simp at hc;subst hc;simp[ho,h1]
   ·split at hc
    ·rename_i h1;simp at hc;subst hc;simp[ho,h1]
    ·simp at hc
 ·rintro⟨g,hg,hc⟩
  obtain⟨k,hk⟩:=List.mem_iff_getElem?.1 hg
  rw[openS_get]at hk
  obtain⟨g0,h0,rfl⟩:=Option.map_eq_some_iff.1 hk
  have hlt:=(List.getElem?_eq_some_iff.1 h0).1
  simp only[Nat.zero_add,Bool.and_eq_true,Bool.or_eq_true,decide_eq_true_eq]at hc
  refine⟨k,hlt,?_⟩
  unfold wayAt
  rw[h0]
  simp only[low_bit,hc.1,Bool.true_eq_false,if_false]
  rcases hc.2 with ⟨h1,h2⟩|⟨h1,h2⟩
  ·simp[h1,h2]
  ·by_cases h3:g0.a=p
   ·rw[if_pos h3];simp;omega
   ·rw[if_neg h3];simp[h1,h2]
theorem outW_sorted {n:Nat} {o:Nat} {p:Int} {gs:List DGate}(hg: ∀g∈gs,(0≤g.a∧g.a≤(n:Int)-1)∧(0≤g.b∧g.b≤(n:Int)-1)) {R:List Int}(hs:R.Pairwise (· < ·))(hm: ∀y,y∈R↔y∈outW o p gs)(h0:outW o p gs≠[]):R=waysS n (openG o gs) p:=by
 have hne:(rangeI n).filter (wayB (openG o gs) p)≠[]:=by
  obtain⟨x,r,e⟩:=List.exists_cons_of_ne_nil h0
  have hx:x∈outW o p gs:=by rw[e];simp
  have:x∈(rangeI n).filter (wayB (openG o gs) p):=by
   refine List.mem_filter.2 ⟨mem_rangeI.2 ?_,mem_outW.1 hx⟩
   have:=mem_outW.1 hx
   simp only[wayB,List.any_eq_true]at this
   obtain⟨g,hg1,hg2⟩:=this
   obtain⟨k,hk⟩:=List.mem_iff_getElem?.1 hg1
   rw[openS_get]at hk
   obtain⟨g0,hg0,rfl⟩:=Option.map_eq_some_iff.1 hk
   have:=hg g0 (List.mem_of_getElem? hg0)
   simp only[Bool.and_eq_true,Bool.or_eq_true,decide_eq_true_eq]at hg2
   rcases hg2.2 with ⟨_,h2⟩|⟨_,h2⟩<;>omega
  intro h;rw[h]at this;simp at this
 have e:waysS n (openG o gs) p=(rangeI n).filter (wayB (openG o gs) p):=by simp[waysS,hne]
 rw[e]
 refine strict_eq _ _ hs ?_ fun y=> ?_
 ·refine List.Pairwise.filter _ ?_
  unfold rangeI
  rw[List.pairwise_map]
  exact List.pairwise_lt_range.imp fun h=>by omega
 ·rw[hm,List.mem_filter,mem_outW]
  constructor
  ·intro h
   refine⟨?_,h⟩
   have:=h
   simp only[wayB,List.any_eq_true]at this
   obtain⟨g,hg1,hg2⟩:=this
   obtain⟨k,hk⟩:=List.mem_iff_getElem?.1 hg1
   rw[openS_get]at hk
   obtain⟨g0,hg0,rfl⟩:=Option.map_eq_some_iff.1 hk
   have:=hg g0 (List.mem_of_getElem? hg0)
   simp only[Bool.and_eq_true,Bool.or_eq_true,decide_eq_true_eq]at hg2
   rw[mem_rangeI]
   rcases hg2.2 with ⟨_,h2⟩|⟨_,h2⟩<;>omega
  ·exact fun h=>h.2
theorem outW_none {n:Nat} {o:Nat} {p:Int} {gs:List DGate}(h0:outW o p gs=[]):waysS n (openG o gs) p=[p]:=by
 have:(rangeI n).filter (wayB (openG o gs) p)=[]:=by
  rw[List.filter_eq_nil_iff]
  intro x _ hx
  have:=mem_outW.2 hx
  rw[h0]at this;simp at this
 simp[waysS,this]
abbrev gcap:V→Cap
 | .csl _ _=> .full
 |_=> .no
abbrev gmp:V→V
 | .csl p _=> .mp p
 |m=>m
@[simp] theorem gcap_mp(p):gcap (.mp p)= .no:=rfl
@[simp] theorem gcap_nilp:gcap .nilp= .no:=rfl
@[simp] theorem gcap_csl(p n):gcap (.csl p n)= .full:=rfl
@[simp] theorem gmp_mp(p):gmp (.mp p)= .mp p:=rfl
@[simp] theorem gmp_nilp:gmp .nilp= .nilp:=rfl
@[simp] theorem gmp_csl(p n):gmp (.csl p n)= .mp p:=rfl
@[simp] theorem gcap_drop(m d keep):Cap.drop d keep (gcap m)=gcap m:=by cases m<;>rfl
abbrev gameV(t:DTrap)(C:List Int)(m:V):List V:=[i64 t.chambers,i64 t.turns,i64 t.hands, .sl .no 3 (es cGate t.gates), .sl (gcap m) 2 (es cGroup t.groups), .sl .no 1 (es cInt C),gmp m]
set_option maxHeartbeats 4000000 in
theorem e_ways_l(t:DTrap)(hl:t.gates.length≤5)(o:Nat)(ho:o<32)(p:Int)(g0:V)(e0:Env)(s:Stk):
 Run T b64l0 [(7, .asl s.length 113 1 0 0 0),(1,i64 (o:Nat)),(2,i64 p),(7, .sl .full 1 []),(14, .sl .no 3 (es cGate t.gates)),(15,i64 t.gates.length),(16,i64 0)] ([(113, .arr 1 [])]::s)=some (.exit 0,[(1,i64 (o:Nat)),(2,i64 p),(7, .asl s.length 113 1 (((List.range t.gates.length).foldl (fun(a:List Int) k=>a ++wayAt o p t.gates k) ([]:List Int))).length 0 (((List.range t.gates.length).foldl (fun(a:List Int) k=>a ++wayAt o p t.gates k) ([]:List Int))).length),(14, .sl .no 3 (es cGate t.gates)),(15,i64 t.gates.length),(16,i64 ((List.range t.gates.length).length:Nat)),(17, .bool false)],[(113, .arr 1 (es cInt ((List.range t.gates.length).foldl (fun(a:List Int) k=>a ++wayAt o p t.gates k) ([]:List Int))))]::s):=by
 have key:=loop_fold (T:=T) (live:=[1,2,7,14,15,16]) (keep:=[113,832,864,896]) (b:=d64l0) (List.range t.gates.length) (fun k (a:List Int)=>a.length≤k) (fun(a:List Int) k=>a ++wayAt o p t.gates k) (fun k (a:List Int)=>[(1,i64 (o:Nat)),(2,i64 p),(7, .asl s.length 113 1 (a).length 0 (a).length),(14, .sl .no 3 (es cGate t.gates)),(15,i64 t.gates.length),(16,i64 (k:Nat))]) (fun k (a:List Int)=>[(113, .arr 1 (es cInt a))]::s) (fun(a:List Int)=>(.exit 0,[(1,i64 (o:Nat)),(2,i64 p),(7, .asl s.length 113 1 (a).length 0 (a).length),(14, .sl .no 3 (es cGate t.gates)),(15,i64 t.gates.length),(16,i64 ((List.range t.gates.length).length:Nat)),(17, .bool false)],[(113, .arr 1 (es cInt a))]::s)) (by simp) ?_ ?_ ?_ ([]:List Int) (by simp) [(7, .asl s.length 113 1 0 0 0),(1,i64 (o:Nat)),(2,i64 p),(7, .sl .full 1 []),(14, .sl .no 3 (es cGate t.gates)),(15,i64 t.gates.length),(16,i64 0)] ([(113, .arr 1 [])]::s) (by simp) (by simp)
 ·exact key
 ·intro k a hk hi
  try simp only[List.length_range]at hk
  try simp only[List.getElem_range]
  have hk2:(k:Int)<t.gates.length:=by omega
  have hb1:=bshr (a:=o) (n:=k) (by omega)
  have hb2:=band (a:=shrN o k) (by have:=shr_le o k;omega)
  have hlow:=low_le (shrN o k)
  unfold wayAt
  rw[List.getElem?_eq_getElem hk]
  generalize hG:t.gates[k]=G at*
  generalize shrN o k=x at*
  generalize lowN x=y at*
  have ea: ∀x:Int,es cInt a ++[[i64 x]]=es cInt (a ++[x]):=fun x=>by simp[es]
  by_cases c1:y=0
  ·simp (maxSteps:=1000000) (disch:=first|omega|assumption|decide +kernel|(simp;done)|(simp;omega)|fail) [hk,hk2,hb1,hb2,hG,c1,wk k (by omega),-bin_shr,-bin_and]
  ·have c1': ¬(y:Int)=0:=by omega
   by_cases c2:G.a=p
   ·simp (maxSteps:=1000000) (disch:=first|omega|assumption|decide +kernel|(simp;done)|(simp;omega)|fail) [hk,hk2,hb1,hb2,hG,c1,c1',c2,ea,appA_one,wk k (by omega),-bin_shr,-bin_and]
   ·by_cases c3:G.b=p
    ·simp (maxSteps:=1000000) (disch:=first|omega|assumption|decide +kernel|(simp;done)|(simp;omega)|fail) [hk,hk2,hb1,hb2,hG,c1,c1',c2,c3,ea,appA_one,wk k (by omega),-bin_shr,-bin_and]
    ·simp (maxSteps:=1000000) (disch:=first|omega|assumption|decide +kernel|(simp;done)|(simp;omega)|fail) [hk,hk2,hb1,hb2,hG,c1,c1',c2,c3,wk k (by omega),-bin_shr,-bin_and]
 ·intro k a hk hi
  try simp only[List.length_range]at hk
  try simp only[List.getElem_range]
  have:=wayAt_len o p t.gates k
  simp only[List.length_append];omega
 ·intro a hi
  simp
theorem outW_len(o p gs):(outW o p gs).length≤gs.length:=by
 rw[outW_flat]
 have: ∀l:List Nat,(l.flatMap (wayAt o p gs)).length≤l.length:=by
  intro l
  induction l with
  |nil=>simp
  |cons x r ih=>
    have:=wayAt_len o p gs x
    simp only[List.flatMap_cons,List.length_append,List.length_cons];omega
 have:=this (List.range gs.length)
 simpa using this
set_option maxHeartbeats 4000000 in
theorem e_ways(t:DTrap)(hl:t.gates.length≤5)(hg: ∀g∈t.gates,(0≤g.a∧g.a≤t.chambers-1)∧(0≤g.b∧g.b≤t.chambers-1)∧g.a≠g.b)(C:List Int)(m:V)(o:Nat)(ho:o<32)(p:Int)(d l:Nat)(s:Stk)(hd:d<s.length)(h:sget s d l=some (.cell (gameV t C m)))(lab):
 den T 64 [.ptr d l 0,i64 (o:Nat),i64 p] lab s=some (.sl .no 1 (es cInt (waysS t.chambers.toNat (openG o t.gates) p)),s):=by
 have hd2: ¬d=s.length:=by omega
 have key:=e_ways_l t hl o ho p .nilp [] s
 change Run T _ _ _=some (_,[_,_,(7, .asl s.length 113 1 (outW o p t.gates).length 0 (outW o p t.gates).length),_,_,_,_],[(113, .arr 1 (es cInt (outW o p t.gates)))]::s)at key
 have hgn: ∀g∈t.gates,(0≤g.a∧g.a≤(t.chambers.toNat:Int)-1)∧(0≤g.b∧g.b≤(t.chambers.toNat:Int)-1):=fun g hm=>by have:=hg g hm;omega
 by_cases h0:outW o p t.gates=[]
 ·rw[outW_none h0,show es cInt [p]=[[i64 p]]from rfl]
  rw[h0]at key
  rw[den_fn t64 _ _ _ rfl]
  simp only[b64]
  simp (maxSteps:=1000000) (disch:=first|omega|assumption|decide +kernel|(simp;done)|(simp;omega)|fail) [h,hd2,key]
 ·have hlen:=outW_len o p t.gates
  have hS:=fun lab=>e_Sort (outW o p t.gates) h0 (by omega) s.length 113 ([(113, .arr 1 (es cInt (outW o p t.gates)))]::s) (by simp) lab
  have hsl:(sortedI (outW o p t.gates)).length=(outW o p t.gates).length:=List.length_mergeSort _
  obtain⟨R,A,hC,hA1,hA2,hA3,hA4⟩:=e_Compact (sortedI (outW o p t.gates)) (outW o p t.gates).length hsl (by omega) (by intro h;rw[h]at hsl;exact h0 (List.length_eq_zero_iff.1 hsl.symm)) (sortedI_sorted (outW o p t.gates)) s.length 113 (fun a=>[(113, .arr 1 (es cInt a))]::s) (fun a=>by simp) (fun a=>by simp) (fun a b=>by simp[Loc.put]) 896
  have hRe:R=waysS t.chambers.toNat (openG o t.gates) p:=outW_sorted hgn hA3 (fun y=>by rw[hA4,sortedI,List.mem_mergeSort]) h0
  rw[hRe]at hC hA2
  have hRle:(waysS t.chambers.toNat (openG o t.gates) p).length≤(outW o p t.gates).length:=by
   have:=congrArg List.length hA2
   rw[List.length_take,hA1]at this
   omega
  have hn0: ¬(outW o p t.gates).length=0:=fun e=>h0 (List.length_eq_zero_iff.1 e)
  generalize waysS t.chambers.toNat (openG o t.gates) p=W at*
  generalize outW o p t.gates=F at*
  rw[den_fn t64 _ _ _ rfl]
  simp only[b64]
  by_cases hq:W.length=F.length
  ·rw[hq]at hC hA2 hRle
   simp (maxSteps:=1000000) (disch:=first|omega|assumption|decide +kernel|(simp;done)|(simp;omega)|fail) [h,hd2,key,hS,hC,hA1,hA2,hn0,hq,es_takeI]
  ·simp (maxSteps:=1000000) (disch:=first|omega|assumption|decide +kernel|(simp;done)|(simp;omega)|fail) [h,hd2,key,hS,hC,hA1,hA2,hn0,hRle,hq,es_takeI]
end Go.Proofs.YtmgkcipcjabigaaGreatDoor

/-
  Doors: the order of the changes (computed where no primitive is).
-/
namespace Go.Proofs.YtmgkcipcjabigaaGreatDoor
open Go.Ab
theorem e0_isNaN(a:Int)(lab s):den T0 80 [i64 a] lab s=some (.bool false,s):=by
 rw[den_fn u80 _ _ _ rfl]
 simp[b80]
def cmpI(a b:Int):Int:=if a<b then -1 else if b<a then 1 else 0
theorem e0_Compare(a b:Int)(lab s):den T0 61 [i64 a,i64 b] lab s=some (i64 (cmpI a b),s):=by
 rw[den_fn u61 _ _ _ rfl]
 simp only[b61,cmpI]
 by_cases h:a<b
 ·simp (disch:=first|omega|assumption|decide +kernel|(simp;done)|(simp;omega)|fail) [h,e0_isNaN]
 ·by_cases h':b<a<;>simp (disch:=first|omega|assumption|decide +kernel|(simp;done)|(simp;omega)|fail) [h,h',e0_isNaN]
theorem e0_Or(a b:Int)(lab s):den T0 45 [.sl .no 1 [[i64 a],[i64 b]]] lab s=some (i64 (if a≠0 then a else b),s):=by
 have hl: ∀s:Stk,Run T0 b45l0 [(3,i64 0),(6, .sl .no 1 (es cInt [a,b])),(7,i64 2),(8,i64 0)] ([]::s)=
  some (foldS (fun(_:Unit) x=>if x≠0 then .inr (.ret,[(2,i64 x)],[]::s)else .inl ()) (fun _=>(.exit 0,[(3,i64 0),(6, .sl .no 1 (es cInt [a,b])),(7,i64 2),(8,i64 2),(9, .bool false)],[]::s)) [a,b] ()):=by
  intro s
  refine loop_list0 (T:=T0) [a,b] (fun k _=>[(3,i64 0),(6, .sl .no 1 (es cInt [a,b])),(7,i64 2),(8,i64 k)]) (fun _ _=>[]::s) _ _ ?_ ?_ (by simp) (by simp) () _ _ (by simp) (by simp)
  ·intro k _ hk
   have hk':k<2:=by simpa using hk
   have e:([a,b]:List Int)[k]? =some [a,b][k]:=by simp
   generalize hx:[a,b][k]=x at e
   have hk2:(k:Int)<2:=by omega
   by_cases h:x=0<;>simp (disch:=first|omega|assumption|decide +kernel|(simp;done)|(simp;omega)|fail) [hk',hk2,h,hx,wk k (by omega),nxt]
  ·intro _ x q h;split at h<;>simp at h;subst h;simp
 rw[den_fn u45 _ _ _ rfl]
 simp only[b45]
 have e2:([[i64 a],[i64 b]]:List (List V))=es cInt [a,b]:=rfl
 rw[e2]
 by_cases h:a=0
 ·subst h
  by_cases h':b=0
  ·subst h';simp (disch:=first|omega|assumption|decide +kernel|(simp;done)|(simp;omega)|fail) [hl,foldS]
  ·simp (disch:=first|omega|assumption|decide +kernel|(simp;done)|(simp;omega)|fail) [hl,h',foldS]
 ·simp (disch:=first|omega|assumption|decide +kernel|(simp;done)|(simp;omega)|fail) [hl,h,foldS]
def cmpStep(a b:List Int)(k:Nat):Option Int:=if b.length≤k then some 1 else if a.getD k 0<b.getD k 0 then some (-1)else if b.getD k 0<a.getD k 0 then some 1 else none
def cmpF(a b:List Int):Int:=match (List.range a.length).findSome? (cmpStep a b)with
 |some n=>n
 |none=>if a.length<b.length then -1 else 0
theorem foldS_find {α ρ:Type}(f:α→Option Int)(g:Int→ρ)(r:ρ): ∀l:List α,foldS (fun(_:Unit) x=>match f x with|some n=> .inr (g n)|none=> .inl ()) (fun _=>r) l ()=match l.findSome? f with|some n=>g n|none=>r
 |[]=>rfl
 |x::l=>by
   simp only[foldS,List.findSome?]
   cases h:f x<;>simp only[]
   exact foldS_find f g r l
theorem e0_cmp_l(a b:List Int)(hb:b.length<4611686018427387904)(ha:a.length<4611686018427387904)(s:Stk):
 Run T0 b46l0 [(0, .sl .no 1 (es cInt a)),(1, .sl .no 1 (es cInt b)),(9, .sl .no 1 (es cInt a)),(10,i64 a.length),(11,i64 0)] ([]::s)=
  some (match (List.range a.length).findSome? (cmpStep a b)with|some n=>(.ret,[(4,i64 n)],[]::s)|none=>(.exit 0,[(0, .sl .no 1 (es cInt a)),(1, .sl .no 1 (es cInt b)),(9, .sl .no 1 (es cInt a)),(10,i64 a.length),(11,i64 a.length),(12, .bool false)],[]::s)):=by
 rw[←foldS_find]
 refine loop_list0 (T:=T0) (List.range a.length) (fun k _=>[(0, .sl .no 1 (es cInt a)),(1, .sl .no 1 (es cInt b)),(9, .sl .no 1 (es cInt a)),(10,i64 a.length),(11,i64 k)]) (fun _ _=>[]::s) _ _ ?_ ?_ (by simp) (by simp) () _ _ (by simp) (by simp)
 ·intro k _ hk
  have hk:k<a.length:=by simpa using hk
  rw[List.getElem_range]
  have e0:a.getD k 0=a[k]:=by simp[List.getD,hk]
  unfold cmpStep
  by_cases h:b.length≤k
  ·have h':(b.length:Int)≤k:=by omega
   simp (disch:=first|omega|assumption|decide +kernel|(simp;done)|(simp;omega)|fail) [hk,h,h',nxt,wk k (by omega)]
  ·have h': ¬(b.length:Int)≤k:=by omega
   have h2:k<b.length:=by omega
   have h3:(k:Int)<b.length:=by omega
   have e1:b.getD k 0=b[k]:=by simp[List.getD,h2]
   rw[e0,e1]
   by_cases h4:a[k]<b[k]
   ·simp (disch:=first|omega|assumption|decide +kernel|(simp;done)|(simp;omega)|fail) [hk,h,h',h2,h3,h4,nxt,wk k (by omega),e0_Compare,cmpI]
   ·by_cases h5:b[k]<a[k]<;>simp (disch:=first|omega|assumption|decide +kernel|(simp;done)|(simp;omega)|fail) [hk,h,h',h2,h3,h4,h5,nxt,wk k (by omega),e0_Compare,cmpI]
 ·intro _ x q h;cases h2:cmpStep a b x<;>simp[h2]at h;subst h;simp
theorem e0_cmpF(a b:List Int)(hb:b.length<4611686018427387904)(ha:a.length<4611686018427387904)(lab s):den T0 46 [.sl .no 1 (es cInt a), .sl .no 1 (es cInt b)] lab s=some (i64 (cmpF a b),s):=by
 have h:=e0_cmp_l a b hb ha
 rw[den_fn u46 _ _ _ rfl]
 simp only[b46,cmpF]
 cases h1:(List.range a.length).findSome? (cmpStep a b)with
 |none=>
   simp only[h1]at h
   by_cases h2:a.length<b.length
   ·have h3:(a.length:Int)<b.length:=by omega
    simp (disch:=first|omega|assumption|decide +kernel|(simp;done)|(simp;omega)|fail) [h,h2,h3]
   ·have h3: ¬(a.length:Int)<b.length:=by omega
    simp (disch:=first|omega|assumption|decide +kernel|(simp;done)|(simp;omega)|fail) [h,h2,h3]
 |some n=>
   simp only[h1]at h
   simp (disch:=first|omega|assumption|decide +kernel|(simp;done)|(simp;omega)|fail) [h]
theorem cmpF_lex: ∀a b,cmpF a b=lexL a b
 |[],b=>by simp[cmpF,lexL]
 |x::a,[]=>by simp[cmpF,lexL,List.range_succ_eq_map,cmpStep]
 |x::a,y::b=>by
   have ih:=cmpF_lex a b
   simp only[lexL,←ih]
   have e: ∀k,cmpStep (x::a) (y::b) (k+1)=cmpStep a b k:=by intro k;simp[cmpStep]
   have e2:cmpStep (x::a) (y::b)∘Nat.succ=cmpStep a b:=by funext k;exact e k
   unfold cmpF
   rw[List.length_cons,List.range_succ_eq_map,List.findSome?_cons,List.findSome?_map,e2]
   simp only[cmpStep,List.length_cons,List.getD_cons_zero]
   by_cases h:x<y
   ·simp[h]
   ·by_cases h':y<x<;>simp[h,h']
theorem bits_small(g:Nat):(bitsL g).length≤5:=by
 unfold bitsL
 rw[List.length_map]
 exact Nat.le_trans (List.length_filter_le _ _) (by simp)
theorem e0_begin1(a b:Nat)(ha:a<32)(hb:b<32)(lab s):den T0 44 [i64 (a:Nat),i64 (b:Nat)] lab s=some (i64 (cmpL (bitsL a) (bitsL b)),s):=by
 have l1:=bits_small a
 have l2:=bits_small b
 have w1:IntKind.i64.wrap (((bitsL a).length:Int)-(bitsL b).length)=((bitsL a).length:Int)-(bitsL b).length:=wi _ (by omega) (by omega)
 have h1:=fun lab s=>e0_list a ha lab s
 have h2:=fun lab s=>e0_list b hb lab s
 have h3:=fun lab s=>e0_cmpF (bitsL a) (bitsL b) (by omega) (by omega) lab s
 rw[cmpF_lex]at h3
 rw[den_fn u44 _ _ _ rfl]
 simp only[b44,cmpL]
 generalize bitsL a=A at*
 generalize bitsL b=B at*
 simp (maxSteps:=1000000) (disch:=first|omega|assumption|decide +kernel|(simp;done)|(simp;omega)|fail) [w1,h1,h2,h3,e0_Or]
def natI(G:List Nat):List Int:=G.map fun(n:Nat)=>(n:Int)
theorem cmpV_bits(a b:Nat)(ha:a<32)(hb:b<32):cmpV T0 false 44 [] [i64 (a:Nat)] [i64 (b:Nat)]=some (cmpL (bitsL a) (bitsL b)):=by
 simp[cmpV,e0_begin1,ha,hb]
theorem mem_natI {G:List Nat} {x:List V}(h:x∈es cInt (natI G)): ∃a,a∈G∧x=[i64 (a:Nat)]:=by
 obtain⟨y,hy,rfl⟩:=List.mem_map.1 h
 obtain⟨a,ha,rfl⟩:=List.mem_map.1 hy
 exact⟨a,ha,rfl⟩
theorem bits_total(G:List Nat)(h: ∀a,a∈G→a<32):Total (cmpV T0 false 44 []) (es cInt (natI G)) where
 some x hx y hy:=by
  obtain⟨a,ha,rfl⟩:=mem_natI hx
  obtain⟨b,hb,rfl⟩:=mem_natI hy
  exact⟨_,cmpV_bits a b (h a ha) (h b hb)⟩
 irr x hx n hn:=by
  obtain⟨a,ha,rfl⟩:=mem_natI hx
  rw[cmpV_bits a a (h a ha) (h a ha)]at hn
  cases hn;exact cmpL_irr _
 tr x hx y hy z hz m n k:=by
  obtain⟨a,ha,rfl⟩:=mem_natI hx
  obtain⟨b,hb,rfl⟩:=mem_natI hy
  obtain⟨c,hc,rfl⟩:=mem_natI hz
  rw[cmpV_bits a b (h a ha) (h b hb),cmpV_bits b c (h b hb) (h c hc),cmpV_bits a c (h a ha) (h c hc)]
  rintro⟨⟩ ⟨⟩ ⟨⟩
  exact cmpL_trans _ _ _
 tot x hx y hy m n:=by
  obtain⟨a,ha,rfl⟩:=mem_natI hx
  obtain⟨b,hb,rfl⟩:=mem_natI hy
  rw[cmpV_bits a b (h a ha) (h b hb),cmpV_bits b a (h b hb) (h a ha)]
  rintro⟨⟩ ⟨⟩ h1 h2
  rw[bits_inj (h a ha) (h b hb) (cmpL_eq _ _ h1 h2)]
theorem bits_sorted(F G:List Nat)(hp:G.Perm F)(h: ∀a,a∈F→a<32)(hs:G.Pairwise fun a b=>cmpL (bitsL a) (bitsL b)<0):SortedBy (cmpV T0 false 44 []) (es cInt (natI F)) (es cInt (natI G)):=by
 refine⟨(hp.map _).map _,?_⟩
 unfold es natI
 rw[List.map_map,List.pairwise_map]
 refine hs.imp_of_mem ?_
 intro a b ha hb hab n hn
 have e:=cmpV_bits b a (h b (hp.mem_iff.1 hb)) (h a (hp.mem_iff.1 ha))
 simp only[Function.comp,cInt]at hn
 rw[e]at hn
 cases hn
 exact fun h2=>cmpL_irr _ (cmpL_trans _ _ _ hab h2)
def changesF(h g:Nat):List Nat:=(List.range (2^g)).filter fun n=>decide ((bitsL n).length≤h)
def changesB(h g:Nat):List Nat:=(choicesS h g).map maskL
theorem changes_perm: ∀g,g<6→ ∀h,h<4→(changesB h g).isPerm (changesF h g)=true:=by decide +kernel
theorem changes_lt {h g:Nat}(hg:g<6) {n:Nat}(hn:n∈changesF h g):n<32:=by
 simp only[changesF,List.mem_filter,List.mem_range]at hn
 have:2^g≤2^5:=Nat.pow_le_pow_right (by decide) (by omega)
 omega
theorem choices_up {h g:Nat}(hg:g<6) {c:List Int}(hc:c∈choicesS h g):c∈allL 5:=allL_up hg (List.mem_filter.1 hc).1
theorem changes_sorted(h g:Nat)(hg:g<6):(changesB h g).Pairwise fun a b=>cmpL (bitsL a) (bitsL b)<0:=by
 unfold changesB
 rw[List.pairwise_map]
 refine(choices_sorted h g).imp_of_mem ?_
 intro a b ha hb hab
 rw[bits_mask _ (choices_up hg ha),bits_mask _ (choices_up hg hb)]
 exact hab
theorem changes_len: ∀g,g<6→ ∀h,h<4→(changesF h g).length≤32∧0<(changesF h g).length:=by decide +kernel
theorem e_sortB(h g:Nat)(hg:g<6)(hh:h<4)(l:Nat)(s:Stk)(d:Nat)(hs:sget s d l=some (.arr 1 (es cInt (natI (changesF h g)))))(lab):
 den T 43 [.asl d l 1 (changesF h g).length 0 (changesF h g).length, .fn 44 [] []] lab s=some (.tup [],sput s d l (.arr 1 (es cInt (natI (changesB h g))))):=by
 obtain⟨h1,h2⟩:=changes_len g hg h hh
 have hp:=List.isPerm_iff.1 (changes_perm g hg h hh)
 rw[den_prim t43]
 have hl:(es cInt (natI (changesF h g))).length=(changesF h g).length:=by simp[es,natI]
 have hne:es cInt (natI (changesF h g))≠[]:=by
  intro e
  rw[e]at hl;simp at hl;omega
 have:=sortFP_eq (T0:=T0) (agg:=false) (d:=d) (l:=l) (sz:=1) (n:=(changesF h g).length) (g:=44) (cap:=[]) (lab:=lab) (s:=s)
  (x:= .arr 1 (es cInt (natI (changesF h g)))) (es:=es cInt (natI (changesF h g))) (r:=es cInt (natI (changesB h g))) hs rfl hl.symm (fun _=>rfl) hne (by rw[hl];omega)
  (by intro x hx;obtain⟨a,_,rfl⟩:=mem_natI hx;simp) rfl (bits_total _ fun a ha=>changes_lt hg ha) (bits_sorted _ _ hp (fun a ha=>changes_lt hg ha) (changes_sorted h g hg))
 unfold sortP
 rw[this]
 simp[sorted]
end Go.Proofs.YtmgkcipcjabigaaGreatDoor

/-
  Doors: begin.
-/
namespace Go.Proofs.YtmgkcipcjabigaaGreatDoor
open Go.Ab
def growF(h:Int)(a:List Nat)(k:Nat):List Nat:=if ((bitsL k).length:Int)≤h then a ++[k]else a
theorem growF_filter(h:Int): ∀(l:List Nat) (a:List Nat),l.foldl (growF h) a=a ++l.filter fun n=>decide (((bitsL n).length:Int)≤h)
 |[],a=>by simp
 |k::l,a=>by
   rw[List.foldl_cons,growF_filter h l,List.filter_cons]
   unfold growF
   split<;>simp[*]
theorem growF_all {h:Int}(h0:0≤h)(g:Nat):(List.range (powN g)).foldl (growF h) []=changesF h.toNat g:=by
 rw[growF_filter,List.nil_append]
 unfold changesF powN
 congr 1
 funext n
 rw[Bool.eq_iff_iff]
 simp only[decide_eq_true_eq]
 omega
@[simp] theorem natI_nil:natI []=[]:=rfl
@[simp] theorem natI_length(l:List Nat):(natI l).length=l.length:=by simp[natI]
theorem natI_snoc(a:List Nat)(k:Nat):es cInt (natI a) ++[[i64 (k:Nat)]]=es cInt (natI (a ++[k])):=by simp[natI,es]
abbrev zero5:List V:=[i64 0,i64 0,i64 0,i64 0,i64 0]
theorem powN_le {g:Nat}(h:g≤5):powN g≤32:=by
 unfold powN
 exact Nat.pow_le_pow_right (n:=2) (by decide) h
set_option maxHeartbeats 4000000 in
theorem e_begin_l0(t:DTrap)(h:DoorOk t)(s:Stk):
 Run T b26l0 [(2, .ptr s.length 32 0),(5, .ptr s.length 80 0),(8, .ptr s.length 432 0),(31,i64 (powN t.gates.length:Nat)),(32,i64 0)] ([(32, .cell (dV t)),(80, .cell zero5),(400, .mp (some 5) []),(432, .cell [i64 t.chambers,i64 t.turns,i64 t.hands, .sl .no 3 (es cGate t.gates), .sl .no 2 (es cGroup t.groups), .asl s.length 133 1 0 0 0, .mp (.ptr s.length 400 0)]),(133, .arr 1 [])]::s)=some (.exit 0,[(2, .ptr s.length 32 0),(5, .ptr s.length 80 0),(8, .ptr s.length 432 0),(31,i64 (powN t.gates.length:Nat)),(32,i64 ((List.range (powN t.gates.length)).length:Nat)),(33, .bool false)],[(32, .cell (dV t)),(80, .cell zero5),(400, .mp (some 5) []),(432, .cell (gameV t [] .nilp|>.set 5 (.asl s.length 133 1 (((List.range (powN t.gates.length)).foldl (growF t.hands) ([]:List Nat))).length 0 (((List.range (powN t.gates.length)).foldl (growF t.hands) ([]:List Nat))).length)|>.set 6 (.mp (.ptr s.length 400 0)))),(133, .arr 1 (es cInt (natI ((List.range (powN t.gates.length)).foldl (growF t.hands) ([]:List Nat)))))]::s):=by
 have key:=loop_fold (T:=T) (live:=[2,5,8,31,32]) (keep:=[32,80,133,400,432]) (b:=d26l0) (List.range (powN t.gates.length)) (fun k (a:List Nat)=>a.length≤k) (growF t.hands) (fun k (a:List Nat)=>[(2, .ptr s.length 32 0),(5, .ptr s.length 80 0),(8, .ptr s.length 432 0),(31,i64 (powN t.gates.length:Nat)),(32,i64 (k:Nat))]) (fun k (a:List Nat)=>[(32, .cell (dV t)),(80, .cell zero5),(400, .mp (some 5) []),(432, .cell (gameV t [] .nilp|>.set 5 (.asl s.length 133 1 (a).length 0 (a).length)|>.set 6 (.mp (.ptr s.length 400 0)))),(133, .arr 1 (es cInt (natI a)))]::s) (fun(a:List Nat)=>(.exit 0,[(2, .ptr s.length 32 0),(5, .ptr s.length 80 0),(8, .ptr s.length 432 0),(31,i64 (powN t.gates.length:Nat)),(32,i64 ((List.range (powN t.gates.length)).length:Nat)),(33, .bool false)],[(32, .cell (dV t)),(80, .cell zero5),(400, .mp (some 5) []),(432, .cell (gameV t [] .nilp|>.set 5 (.asl s.length 133 1 (a).length 0 (a).length)|>.set 6 (.mp (.ptr s.length 400 0)))),(133, .arr 1 (es cInt (natI a)))]::s)) (by simp) ?_ ?_ ?_ ([]:List Nat) (by simp) [(2, .ptr s.length 32 0),(5, .ptr s.length 80 0),(8, .ptr s.length 432 0),(31,i64 (powN t.gates.length:Nat)),(32,i64 0)] ([(32, .cell (dV t)),(80, .cell zero5),(400, .mp (some 5) []),(432, .cell [i64 t.chambers,i64 t.turns,i64 t.hands, .sl .no 3 (es cGate t.gates), .sl .no 2 (es cGroup t.groups), .asl s.length 133 1 0 0 0, .mp (.ptr s.length 400 0)]),(133, .arr 1 [])]::s) (by simp) (by simp)
 ·exact key
 ·intro k a hk hi
  try simp only[List.length_range]at hk
  try simp only[List.getElem_range]
  have hp:=powN_le h.gl
  have hk1:k<32:=by omega
  have hk2:(k:Int)<powN t.gates.length:=by omega
  have h4:=fun lab s=>e_list k hk1 lab s
  have e0:=natI_snoc a k
  have el:(es cInt (natI a)).length=a.length:=by simp[natI]
  have hb:=bits_small k
  have ha:(natI a).length=a.length:=natI_length a
  unfold growF
  generalize powN t.gates.length=P at*
  generalize bitsL k=B at*
  by_cases c:(B.length:Int)≤t.hands
  ·simp (maxSteps:=1000000) (disch:=first|omega|assumption|decide +kernel|(simp;done)|(simp;omega)|fail) [run_drawnK,orSlow_none,hk,hk2,h4,e0,el,c,appA_one,wk k (by omega)]
  ·simp (maxSteps:=1000000) (disch:=first|omega|assumption|decide +kernel|(simp;done)|(simp;omega)|fail) [run_drawnK,orSlow_none,hk,hk2,h4,e0,el,c,wk k (by omega)]
 ·intro k a hk hi
  try simp only[List.length_range]at hk
  try simp only[List.getElem_range]
  unfold growF
  split<;>(try simp only[List.length_append,List.length_cons,List.length_nil])<;>omega
 ·intro a hi
  simp
def gateB(gs:List DGate)(k:Nat):Bool:=match gs[k]? with
 |some g=>g.op
 |none=>false
def orF(gs:List DGate)(o k:Nat):Nat:=if gateB gs k=true then orN o (powN k)else o
def gateBits(gs:List DGate):Nat:=(List.range gs.length).foldl (orF gs) 0
theorem orF_lt {gs:List DGate} {o k:Nat}(h:o<2^k):orF gs o k<2^(k+1):=by
 have h2:2^k<2^(k+1):=Nat.pow_lt_pow_right (by decide) (by omega)
 unfold orF orN powN
 split
 ·exact Nat.or_lt_two_pow (by omega) h2
 ·omega
theorem orF_bits(gs:List DGate): ∀(n:Nat) (j:Nat),((List.range n).foldl (orF gs) 0).testBit j=(decide (j<n)&&gateB gs j)
 |0,j=>by simp
 |n+1,j=>by
   rw[List.range_succ,List.foldl_append,List.foldl_cons,List.foldl_nil]
   have ih:=orF_bits gs n j
   generalize (List.range n).foldl (orF gs) 0=X at*
   unfold orF orN powN
   split
   ·rename_i h
    rw[Nat.testBit_or,ih,Nat.testBit_two_pow]
    by_cases e:n=j
    ·subst e;simp[h]
    ·have:decide (j<n+1)=decide (j<n):=by rw[decide_eq_decide];omega
     simp[e,this]
   ·rename_i h
    rw[ih]
    by_cases e:j=n
    ·subst e;simp[h]
    ·have:decide (j<n+1)=decide (j<n):=by rw[decide_eq_decide];omega
     rw[this]
theorem openG_bits(gs:List DGate):openG (gateBits gs) gs=gs:=by
 apply List.ext_getElem?
 intro j
 rw[openS_get,Nat.zero_add]
 cases hj:gs[j]? with
 |none=>rfl
 |some g=>
   have hlt:=(List.getElem?_eq_some_iff.1 hj).1
   simp only[gateBits,Option.map_some,orF_bits,hlt,decide_true,Bool.true_and,gateB,hj]
theorem gateBits_lt {gs:List DGate}(h:gs.length≤5):gateBits gs<32:=by
 have key: ∀n,(List.range n).foldl (orF gs) 0<2^n:=by
  intro n
  induction n with
  |zero=>simp
  |succ n ih=>rw[List.range_succ,List.foldl_append];exact orF_lt ih
 have h1:=key gs.length
 have:2^gs.length≤2^5:=Nat.pow_le_pow_right (by decide) h
 unfold gateBits;omega
abbrev gmV(t:DTrap)(c:Cap)(C:List Int)(d:Nat):List V:=[i64 t.chambers,i64 t.turns,i64 t.hands, .sl .no 3 (es cGate t.gates), .sl .no 2 (es cGroup t.groups), .sl c 1 (es cInt C), .mp (.ptr d 400 0)]
set_option maxHeartbeats 4000000 in
theorem e_begin_l1(t:DTrap)(h:DoorOk t)(C:List Int)(n:Nat)(s:Stk):
 Run T b26l1 [(2, .ptr s.length 32 0),(5, .ptr s.length 80 0),(8, .ptr s.length 432 0),(10, .ptr s.length 160 0),(61, .sl .no 3 (es cGate t.gates)),(62,i64 t.gates.length),(63,i64 0)] ([(32, .cell (dV t)),(80, .cell zero5),(400, .mp (some 5) []),(432, .cell (gmV t (.own s.length 133) C s.length)),(133, .tok n),(160, .cell [i64 t.turns,i64 0,i64 0,i64 0,i64 0])]::s)=some (.exit 2,[(2, .ptr s.length 32 0),(5, .ptr s.length 80 0),(8, .ptr s.length 432 0),(10, .ptr s.length 160 0),(61, .sl .no 3 (es cGate t.gates)),(62,i64 t.gates.length),(63,i64 ((List.range t.gates.length).length:Nat)),(64, .bool false)],[(32, .cell (dV t)),(80, .cell zero5),(400, .mp (some 5) []),(432, .cell (gmV t .no C s.length)),(160, .cell [i64 t.turns,i64 (((List.range t.gates.length).foldl (orF t.gates) (0:Nat)):Nat),i64 0,i64 0,i64 0])]::s):=by
 have key:=loop_fold (T:=T) (live:=[2,5,8,10,61,62,63]) (keep:=[32,80,160,400,432]) (b:=d26l1) (List.range t.gates.length) (fun k (o:Nat)=>o<2^k) (orF t.gates) (fun k (a:Nat)=>[(2, .ptr s.length 32 0),(5, .ptr s.length 80 0),(8, .ptr s.length 432 0),(10, .ptr s.length 160 0),(61, .sl .no 3 (es cGate t.gates)),(62,i64 t.gates.length),(63,i64 (k:Nat))]) (fun k (a:Nat)=>[(32, .cell (dV t)),(80, .cell zero5),(400, .mp (some 5) []),(432, .cell (gmV t .no C s.length)),(160, .cell [i64 t.turns,i64 (a:Nat),i64 0,i64 0,i64 0])]::s) (fun(a:Nat)=>(.exit 2,[(2, .ptr s.length 32 0),(5, .ptr s.length 80 0),(8, .ptr s.length 432 0),(10, .ptr s.length 160 0),(61, .sl .no 3 (es cGate t.gates)),(62,i64 t.gates.length),(63,i64 ((List.range t.gates.length).length:Nat)),(64, .bool false)],[(32, .cell (dV t)),(80, .cell zero5),(400, .mp (some 5) []),(432, .cell (gmV t .no C s.length)),(160, .cell [i64 t.turns,i64 (a:Nat),i64 0,i64 0,i64 0])]::s)) (by simp) ?_ ?_ ?_ (0:Nat) (by simp) [(2, .ptr s.length 32 0),(5, .ptr s.length 80 0),(8, .ptr s.length 432 0),(10, .ptr s.length 160 0),(61, .sl .no 3 (es cGate t.gates)),(62,i64 t.gates.length),(63,i64 0)] ([(32, .cell (dV t)),(80, .cell zero5),(400, .mp (some 5) []),(432, .cell (gmV t (.own s.length 133) C s.length)),(133, .tok n),(160, .cell [i64 t.turns,i64 0,i64 0,i64 0,i64 0])]::s) (by simp) (by simp)
 ·exact key
 ·intro k a hk hi
  try simp only[List.length_range]at hk
  try simp only[List.getElem_range]
  have hl:=h.gl
  have hk2:(k:Int)<t.gates.length:=by omega
  have h32:2^k≤2^5:=Nat.pow_le_pow_right (by decide) (by omega)
  have hb1:=bshl (n:=k) (by omega)
  have hb2:=bor (a:=a) (b:=powN k) (by omega) (powN_lt (by omega))
  unfold orF gateB
  rw[List.getElem?_eq_getElem hk]
  generalize hG:t.gates[k]=G at*
  have hG2:(G.op=true)=(G.op=true):=rfl
  generalize orN a (powN k)=y at*
  generalize powN k=x at*
  cases c:G.op
  ·simp (maxSteps:=1000000) (disch:=first|omega|assumption|decide +kernel|(simp;done)|(simp;omega)|fail) [run_drawnK,orSlow_none,hk,hk2,hG,hb1,hb2,c,wk k (by omega),-bin_shl,-bin_or]
  ·simp (maxSteps:=1000000) (disch:=first|omega|assumption|decide +kernel|(simp;done)|(simp;omega)|fail) [run_drawnK,orSlow_none,hk,hk2,hG,hb1,hb2,c,wk k (by omega),-bin_shl,-bin_or]
 ·intro k a hk hi
  try simp only[List.length_range]at hk
  try simp only[List.getElem_range]
  exact orF_lt hi
 ·intro a hi
  simp
def pk(gs:List DGroup)(k j:Nat):Int:=if j<k then(match gs[j]? with|some g=>g.pos|none=>0)else 0
theorem pk_same {gs:List DGroup} {k:Nat}(hk:k<gs.length):pk gs (k+1) k=gs[k].pos:=by simp[pk,hk]
theorem pk_step {gs:List DGroup} {k j:Nat}(h:j≠k):pk gs (k+1) j=pk gs k j:=by
 unfold pk
 have:(j<k+1)=(j<k):=by rw[eq_iff_iff];omega
 simp only[this]
theorem pk_zero(gs:List DGroup)(j:Nat):pk gs 0 j=0:=by simp[pk]
set_option maxHeartbeats 4000000 in
theorem e_begin_l2(t:DTrap)(h:DoorOk t)(C:List Int)(o:Nat)(s:Stk):
 Run T b26l2 [(5, .ptr s.length 80 0),(8, .ptr s.length 432 0),(10, .ptr s.length 160 0),(78, .sl .no 2 (es cGroup t.groups)),(79,i64 t.groups.length),(80,i64 0)]
  ([(32, .cell (dV t)),(80, .cell zero5),(400, .mp (some 5) []),(432, .cell (gmV t .no C s.length)),(160, .cell [i64 t.turns,i64 (o:Nat),i64 0,i64 0,i64 0])]::s)=
 some (.exit 4,[(5, .ptr s.length 80 0),(8, .ptr s.length 432 0),(10, .ptr s.length 160 0),(78, .sl .no 2 (es cGroup t.groups)),(79,i64 t.groups.length),(80,i64 t.groups.length),(81, .bool false)],
  [(32, .cell (dV t)),(80, .cell zero5),(400, .mp (some 5) []),(432, .cell (gmV t .no C s.length)),(160, .cell [i64 t.turns,i64 (o:Nat),i64 (pk t.groups t.groups.length 0),i64 (pk t.groups t.groups.length 1),i64 (pk t.groups t.groups.length 2)])]::s):=by
 have hl:=h.ol
 have key:=loop_fold (T:=T) (live:=[5,8,10,78,79,80]) (keep:=[32,80,160,400,432]) (b:=d26l2) (List.range t.groups.length) (fun _ (_:Unit)=>True) (fun _ _=>())
  (fun k _=>[(5, .ptr s.length 80 0),(8, .ptr s.length 432 0),(10, .ptr s.length 160 0),(78, .sl .no 2 (es cGroup t.groups)),(79,i64 t.groups.length),(80,i64 (k:Nat))])
  (fun k _=>[(32, .cell (dV t)),(80, .cell zero5),(400, .mp (some 5) []),(432, .cell (gmV t .no C s.length)),(160, .cell [i64 t.turns,i64 (o:Nat),i64 (pk t.groups k 0),i64 (pk t.groups k 1),i64 (pk t.groups k 2)])]::s)
  (fun _=>(.exit 4,[(5, .ptr s.length 80 0),(8, .ptr s.length 432 0),(10, .ptr s.length 160 0),(78, .sl .no 2 (es cGroup t.groups)),(79,i64 t.groups.length),(80,i64 t.groups.length),(81, .bool false)],
    [(32, .cell (dV t)),(80, .cell zero5),(400, .mp (some 5) []),(432, .cell (gmV t .no C s.length)),(160, .cell [i64 t.turns,i64 (o:Nat),i64 (pk t.groups t.groups.length 0),i64 (pk t.groups t.groups.length 1),i64 (pk t.groups t.groups.length 2)])]::s))
  (by simp) ?_ (by simp) ?_ () trivial [(5, .ptr s.length 80 0),(8, .ptr s.length 432 0),(10, .ptr s.length 160 0),(78, .sl .no 2 (es cGroup t.groups)),(79,i64 t.groups.length),(80,i64 0)]
   ([(32, .cell (dV t)),(80, .cell zero5),(400, .mp (some 5) []),(432, .cell (gmV t .no C s.length)),(160, .cell [i64 t.turns,i64 (o:Nat),i64 0,i64 0,i64 0])]::s) (by simp) (by simp[pk_zero])
 ·exact key
 ·intro k _ hk _
  simp only[List.length_range]at hk
  try simp only[List.getElem_range]
  have hk2:(k:Int)<t.groups.length:=by omega
  have e0:=pk_same hk
  have w0:2*(k:Int)<10:=by omega
  generalize hG:t.groups[k]=G at*
  match k,hk with
  |0,hk0=>
    have hne: ¬t.groups=[]:=fun e=>by simp[e]at hk0
    have e1:=pk_step (gs:=t.groups) (k:=0) (j:=1) (by decide)
    have e2:=pk_step (gs:=t.groups) (k:=0) (j:=2) (by decide)
    try simp only[Nat.zero_add]at e0 e1 e2
    simp (maxSteps:=1000000) (disch:=first|omega|assumption|decide +kernel|(simp;done)|(simp;omega)|fail) [hk,hk2,hne,hG,e0,e1,e2,wi]
  |1,hk0=>
    have hk3:(1:Int)<t.groups.length:=by omega
    have e1:=pk_step (gs:=t.groups) (k:=1) (j:=0) (by decide)
    have e2:=pk_step (gs:=t.groups) (k:=1) (j:=2) (by decide)
    try simp only[Nat.reduceAdd]at e0 e1 e2
    simp (maxSteps:=1000000) (disch:=first|omega|assumption|decide +kernel|(simp;done)|(simp;omega)|fail) [hk,hk2,hk3,hG,e0,e1,e2,wi]
  |2,hk0=>
    have hk3:(2:Int)<t.groups.length:=by omega
    have e1:=pk_step (gs:=t.groups) (k:=2) (j:=0) (by decide)
    have e2:=pk_step (gs:=t.groups) (k:=2) (j:=1) (by decide)
    try simp only[Nat.reduceAdd]at e0 e1 e2
    simp (maxSteps:=1000000) (disch:=first|omega|assumption|decide +kernel|(simp;done)|(simp;omega)|fail) [hk,hk2,hk3,hG,e0,e1,e2,wi]
  |n+3,hk=>omega
 ·intro _ _
  simp
end Go.Proofs.YtmgkcipcjabigaaGreatDoor

/-
  Doors: begin, the whole.
-/
namespace Go.Proofs.YtmgkcipcjabigaaGreatDoor
open Go.Ab
def chB(t:DTrap):List Int:=natI (changesB t.hands.toNat t.gates.length)
def at0(t:DTrap)(j:Nat):Int:=pk t.groups t.groups.length j
abbrev sceneV(T o a b c:Int):List V:=[i64 T,i64 o,i64 a,i64 b,i64 c]
abbrev scene0(t:DTrap):List V:=sceneV t.turns (gateBits t.gates:Nat) (at0 t 0) (at0 t 1) (at0 t 2)
theorem chB_len {t:DTrap}(h:DoorOk t):(chB t).length=(changesF t.hands.toNat t.gates.length).length∧0<(chB t).length∧(chB t).length≤32:=by
 have h1:=h.gl
 have h2:=h.ha
 have hp:=List.isPerm_iff.1 (changes_perm t.gates.length (by omega) t.hands.toNat (by omega))
 have hl:=changes_len t.gates.length (by omega) t.hands.toNat (by omega)
 have:=hp.length_eq
 simp only[chB,natI_length]
 omega
set_option maxHeartbeats 8000000 in
theorem e_begin(t:DTrap)(h:DoorOk t)(lab)(loc:Ab.Loc)(s:Stk)(k0:loc.get lab=none)(k1:loc.get (lab+1000)=none):
 den T 26 [.agg (dV t), .bool true] lab (loc::s)=some (.tup [.ptr s.length lab 0, .agg (scene0 t),i64 0],
  Loc.put (Loc.put loc lab (.cell (gameV t (chB t) (.mp (.ptr s.length (lab+1000) 0))))) (lab+1000) (.mp (some 5) [])::s):=by
 have hok:doorB t=true:=doorB_iff.2 h
 have hc:=fun lab s=>e_CheckD t (doorB_short hok) lab s
 rw[hok]at hc
 have hl:=h.gl
 have hh:=h.ha
 have g0:=e_begin_l0 t h (loc::s)
 rw[growF_all hh.1]at g0
 have g1:=e_begin_l1 t h (chB t) (changesF t.hands.toNat t.gates.length).length (loc::s)
 have g2:=e_begin_l2 t h (chB t) (gateBits t.gates) (loc::s)
 have hb:=bshl (n:=t.gates.length) (by omega)
 have hs:=fun(F:Ab.Loc) (hF:Loc.get F 133=some (.arr 1 (es cInt (natI (changesF t.hands.toNat t.gates.length))))) lab=>e_sortB t.hands.toNat t.gates.length (by omega) (by omega) 133 (F::loc::s) (loc::s).length (by simp[hF]) lab
 obtain⟨c1,c2,c3⟩:=chB_len h
 change∀F,_→ ∀lab,_=some (_,sput _ _ _ (.arr 1 (es cInt (chB t))))at hs
 change Run T _ _ _=some (_,_,[_,_,_,_,(160, .cell [i64 t.turns,i64 ((gateBits t.gates:Nat):Int),i64 0,i64 0,i64 0])]::_)at g1
 rw[←c1]at g0 g1 hs
 have c4:(es cInt (chB t)).length=(chB t).length:=by simp
 simp only[scene0,sceneV,at0]
 generalize gateBits t.gates=o at*
 generalize changesF t.hands.toNat t.gates.length=F0 at*
 generalize chB t=C at*
 generalize powN t.gates.length=P at*
 generalize pk t.groups t.groups.length 0=p0 at*
 generalize pk t.groups t.groups.length 1=p1 at*
 generalize pk t.groups t.groups.length 2=p2 at*
 have hne: ¬(C.length=0):=by omega
 simp only[List.length_cons]at g0 g1 g2 hs
 rw[den_fn t26 _ _ _ rfl]
 simp only[b26]
 simp (maxSteps:=6000000) (disch:=first|omega|assumption|decide +kernel|(simp;done)|(simp;omega)|fail) [run_drawnK,orSlow_none,hc,g0,g1,g2,hs,hb,c4,hne,k0,k1,newLab,idxOf,dedup,-bin_shl]
theorem e_begin_bad(t:DTrap)(hs:ShortD t)(h:doorB t=false)(b:Bool)(lab)(loc:Ab.Loc)(s:Stk):
 den T 26 [.agg (dV t), .bool b] lab (loc::s)=some (.tup [.nilp, .agg zero5,i64 30],loc::s):=by
 have hc:=fun lab s=>e_CheckD t hs lab s
 rw[h]at hc
 rw[den_fn t26 _ _ _ rfl]
 simp only[b26]
 simp (maxSteps:=1000000) (disch:=first|omega|assumption|decide +kernel|(simp;done)|(simp;omega)|fail) [hc]
theorem e_begin_arg(t:DTrap)(h:DoorOk t)(lab)(loc:Ab.Loc)(s:Stk):
 den T 26 [.agg (dV t), .bool false] lab (loc::s)=some (.tup [.nilp, .agg zero5,i64 1],loc::s):=by
 have hok:doorB t=true:=doorB_iff.2 h
 have hc:=fun lab s=>e_CheckD t (doorB_short hok) lab s
 rw[hok]at hc
 rw[den_fn t26 _ _ _ rfl]
 simp only[b26]
 simp (maxSteps:=1000000) (disch:=first|omega|assumption|decide +kernel|(simp;done)|(simp;omega)|fail) [hc]
end Go.Proofs.YtmgkcipcjabigaaGreatDoor

/-
  Doors: caught, moves.
-/
namespace Go.Proofs.YtmgkcipcjabigaaGreatDoor
open Go.Ab
def caughtG(t:DTrap)(l:List Int)(a:Int)(k:Nat):Int:=match t.groups[k]? with
 |some g=>if l.getD k 0=t.chambers-1 then a+g.fish else a
 |none=>a
theorem caughtG_bound {t:DTrap}(h: ∀g,g∈t.groups→0≤g.fish∧g.fish≤99)(l:List Int)(a:Int)(k:Nat)(ha:0≤a∧a≤99*k):0≤caughtG t l a k∧caughtG t l a k≤99*((k+1:Nat):Int):=by
 unfold caughtG
 split
 ·rename_i g hg
  have:=h g (List.mem_of_getElem? hg)
  split<;>omega
 ·omega
theorem caughtG_fold(t:DTrap)(l:List Int)(hl:t.groups.length≤l.length)(hn:0≤t.chambers):(List.range t.groups.length).foldl (caughtG t l) 0=caughtS t.chambers.toNat (fishL t) l:=by
 have key: ∀(gs:List DGroup) (l:List Int) (a:Int),gs.length≤l.length→
  (List.range gs.length).foldl (fun a k=>match gs[k]? with|some g=>if l.getD k 0=t.chambers-1 then a+g.fish else a|none=>a) a=a+caughtS t.chambers.toNat (gs.map (·.fish)) l:=by
  intro gs
  induction gs with
  |nil=>intro l a _;simp[caughtS]
  |cons g gs ih=>
    intro l a hl
    cases l with
    |nil=>simp at hl
    |cons p l=>
      rw[List.length_cons,List.range_succ_eq_map,List.foldl_cons,List.foldl_map]
      simp only[List.getElem?_cons_zero,List.getD_cons_zero,List.getElem?_cons_succ,List.getD_cons_succ,List.map_cons,caughtS]
      rw[ih l _ (by simpa using hl)]
      have e:t.chambers=(t.chambers.toNat:Int):=by omega
      by_cases c:p=t.chambers-1
      ·have c':p=(t.chambers.toNat:Int)-1:=by omega
       rw[if_pos c,if_pos c'];omega
      ·have c': ¬p=(t.chambers.toNat:Int)-1:=by omega
       rw[if_neg c,if_neg c'];omega
 have:=key t.groups l 0 hl
 rw[Int.zero_add]at this
 exact this
set_option maxHeartbeats 4000000 in
theorem e_caught_l(t:DTrap)(hl:t.groups.length≤3)(hch:1≤t.chambers∧t.chambers≤4)(hf: ∀g,g∈t.groups→0≤g.fish∧g.fish≤99)(C:List Int)(m:V)(a0 a1 a2:Int)(d l:Nat)(s:Stk)(hd:d<s.length)(h:sget s d l=some (.cell (gameV t C m))):
 Run T b47l0 [(0, .ptr d l 0),(3, .ptr s.length 48 0),(5,i64 0),(12, .sl (gcap m) 2 (es cGroup t.groups)),(13,i64 t.groups.length),(14,i64 0)] ([(48, .cell [i64 a0,i64 a1,i64 a2])]::s)=
  some (.exit 0,[(0, .ptr d l 0),(3, .ptr s.length 48 0),(5,i64 ((List.range t.groups.length).foldl (caughtG t [a0,a1,a2]) 0)),(12, .sl (gcap m) 2 (es cGroup t.groups)),(13,i64 t.groups.length),(14,i64 t.groups.length),(15, .bool false)],[(48, .cell [i64 a0,i64 a1,i64 a2])]::s):=by
 have hd2: ¬d=s.length:=by omega
 refine loop_fold (T:=T) (live:=[0,3,5,12,13,14]) (keep:=[48]) (b:=d47l0) (List.range t.groups.length) (fun k (a:Int)=>0≤a∧a≤99*k) (caughtG t [a0,a1,a2])
  (fun k a=>[(0, .ptr d l 0),(3, .ptr s.length 48 0),(5,i64 a),(12, .sl (gcap m) 2 (es cGroup t.groups)),(13,i64 t.groups.length),(14,i64 (k:Nat))]) (fun _ _=>[(48, .cell [i64 a0,i64 a1,i64 a2])]::s)
  (fun a=>(.exit 0,[(0, .ptr d l 0),(3, .ptr s.length 48 0),(5,i64 a),(12, .sl (gcap m) 2 (es cGroup t.groups)),(13,i64 t.groups.length),(14,i64 t.groups.length),(15, .bool false)],[(48, .cell [i64 a0,i64 a1,i64 a2])]::s))
  (by simp) ?_ ?_ ?_ 0 (by simp) [(0, .ptr d l 0),(3, .ptr s.length 48 0),(5,i64 0),(12, .sl (gcap m) 2 (es cGroup t.groups)),(13,i64 t.groups.length),(14,i64 0)] ([(48, .cell [i64 a0,i64 a1,i64 a2])]::s) (by simp[hd2]) (by simp)
 ·intro k a hk hi
  simp only[List.length_range]at hk
  simp only[List.getElem_range]
  have hk2:(k:Int)<t.groups.length:=by omega
  have hF:=hf _ (List.getElem_mem hk)
  have w1:IntKind.i64.wrap (t.chambers-1)=t.chambers-1:=wi _ (by omega) (by omega)
  unfold caughtG
  rw[List.getElem?_eq_getElem hk]
  generalize hG:t.groups[k]=G at*
  have w2:IntKind.i64.wrap (a+G.fish)=a+G.fish:=wi _ (by omega) (by omega)
  match k,hk with
  |0,hk0=>
    have hne: ¬t.groups=[]:=fun e=>by simp[e]at hk0
    by_cases c:a0=t.chambers-1<;>simp (maxSteps:=1000000) (disch:=first|omega|assumption|decide +kernel|(simp;done)|(simp;omega)|fail) [run_drawnK,orSlow_none,hk,hk2,hne,hG,hd2,h,c,w1,w2,wi]
  |1,hk0=>
    have hk3:(1:Int)<t.groups.length:=by omega
    by_cases c:a1=t.chambers-1<;>simp (maxSteps:=1000000) (disch:=first|omega|assumption|decide +kernel|(simp;done)|(simp;omega)|fail) [run_drawnK,orSlow_none,hk,hk2,hk3,hG,hd2,h,c,w1,w2,wi]
  |2,hk0=>
    have hk3:(2:Int)<t.groups.length:=by omega
    by_cases c:a2=t.chambers-1<;>simp (maxSteps:=1000000) (disch:=first|omega|assumption|decide +kernel|(simp;done)|(simp;omega)|fail) [run_drawnK,orSlow_none,hk,hk2,hk3,hG,hd2,h,c,w1,w2,wi]
  |n+3,hk=>omega
 ·intro k a hk hi
  simp only[List.length_range]at hk
  simp only[List.getElem_range]
  exact caughtG_bound hf _ a k hi
 ·intro a hi
  simp
theorem e_caught(t:DTrap)(hl:t.groups.length≤3)(hch:1≤t.chambers∧t.chambers≤4)(hf: ∀g,g∈t.groups→0≤g.fish∧g.fish≤99)(C:List Int)(m:V)(a0 a1 a2:Int)(d l:Nat)(s:Stk)(hd:d<s.length)(h:sget s d l=some (.cell (gameV t C m)))(lab):
 den T 47 [.ptr d l 0, .agg [i64 a0,i64 a1,i64 a2]] lab s=some (i64 (caughtS t.chambers.toNat (fishL t) [a0,a1,a2]),s):=by
 have key:=e_caught_l t hl hch hf C m a0 a1 a2 d l s hd h
 rw[caughtG_fold t [a0,a1,a2] (by simpa using hl) (by omega)]at key
 have hd2: ¬d=s.length:=by omega
 rw[den_fn t47 _ _ _ rfl]
 simp only[b47]
 simp (maxSteps:=1000000) (disch:=first|omega|assumption|decide +kernel|(simp;done)|(simp;omega)|fail) [h,hd2,key]
end Go.Proofs.YtmgkcipcjabigaaGreatDoor

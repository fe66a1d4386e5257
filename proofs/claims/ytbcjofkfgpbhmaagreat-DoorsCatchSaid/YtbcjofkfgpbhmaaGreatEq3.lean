/-
  Doors: reaches, the whole.
-/
import Derived.Test.YtbcjofkfgpbhmaaGreatEq2
import Derived.Test.YtbcjofkfgpbhmaaGreatEq1
set_option linter.unusedSimpArgs false
set_option linter.unusedVariables false
namespace Go.Proofs.YtbcjofkfgpbhmaaGreat
open Go.Ab
theorem foldB_anyC {α σ:Type}(p:α→Bool)(f:σ→α→σ): ∀(l:List α) (a:σ),∃a',foldB (fun(q:σ×Bool) x=>if p x=true then((f q.1 x,true),false)else((f q.1 x,false),true)) l (a,false)=((a',l.any p),!l.any p)
 |[],a=>⟨a,rfl⟩
 |x::l,a=>by
   simp only[foldB]
   cases hp:p x
   ·obtain⟨a',e⟩:=foldB_anyC p f l (f a x)
    exact⟨a',by simp only[Bool.false_eq_true,if_false,if_true,List.any_cons,hp,Bool.false_or];exact e⟩
   ·exact⟨f a x,by simp[hp]⟩
theorem foldB_not {α σ:Type} {f:σ→α→σ×Bool} {p:α→Bool}: ∀ {l:List α} {a:σ},(∀a x,x∈l→(f a x).2= !p x)→(foldB f l a).2= !l.any p
 |[],a,_=>rfl
 |x::l,a,h=>by
   have hx:=h a x (by simp)
   simp only[foldB,List.any_cons]
   cases hp:p x
   ·rw[hp]at hx
    simp only[Bool.not_false]at hx
    rw[if_pos hx,foldB_not fun a y hy=>h a y (by simp[hy])];rfl
   ·rw[hp]at hx
    simp only[Bool.not_true]at hx
    rw[if_neg (by rw[hx];simp),hx];rfl
theorem reach_fold(t:DTrap)(k o2:Nat)(f)(n:List Int)(K:MemC t):(foldD t o2 n (reachY t k o2 f) (K,false)).1.2=((movesO t o2 n).any fun m=>cO t k o2 (m ++n.drop t.groups.length))∧(foldD t o2 n (reachY t k o2 f) (K,false)).2= !((movesO t o2 n).any fun m=>cO t k o2 (m ++n.drop t.groups.length)):=by
 obtain⟨a',e⟩:=foldB_anyC (fun m=>cO t k o2 (m ++n.drop t.groups.length)) (fun(K:MemC t) m=>f o2 (m ++n.drop t.groups.length) K) (movesO t o2 n) K
 have:foldD t o2 n (reachY t k o2 f) (K,false)=_:=e
 rw[this]
 exact⟨rfl,rfl⟩
def stepC(t:DTrap)(k:Nat)(f:Nat→List Int→MemC t→MemC t)(o:Nat)(n:List Int)(K:MemC t)(c:Nat):MemC t×Bool:=
 ((foldD t (xorN o c) n (reachY t k (xorN o c) f) (K,false)).1.1,(foldD t (xorN o c) n (reachY t k (xorN o c) f) (K,false)).2)
def canK(t:DTrap):Nat→Nat→List Int→MemC t→MemC t
 |0,_,_,K=>K
 |k+1,o,n,K=>if 0<(kvGet K.1 (keyD (k+1) o n)).getD 0 then K else
   if (foldB (stepC t k (canK t k) o n) (cN t) K).2=true then(foldB (stepC t k (canK t k) o n) (cN t) K).1.put (keyD (k+1) o n)else(foldB (stepC t k (canK t k) o n) (cN t) K).1
theorem canK_keep(t:DTrap)(k:Nat): ∀(o:Nat) (n:List Int) (K:MemC t) (key:List Int),(k:Int)<key.headD 0→kvGet (canK t k o n K).1 key=kvGet K.1 key:=by
 induction k with
 |zero=>intro o n K key _;rfl
 |succ k ih=>
   intro o n K key hk
   have hs: ∀(a:MemC t) c,kvGet (stepC t k (canK t k) o n a c).1.1 key=kvGet a.1 key:=fun a c=>by
    refine foldB_inv (I:=fun q:MemC t×Bool=>kvGet q.1.1 key=kvGet a.1 key) (fun q x _ hq=> ?_) rfl
    simp only[reachY]
    split<;>(simp only;rw[ih _ _ _ _ (by omega),hq])
   have hf:kvGet (foldB (stepC t k (canK t k) o n) (cN t) K).1.1 key=kvGet K.1 key:=foldB_inv (I:=fun a:MemC t=>kvGet a.1 key=kvGet K.1 key) (fun a x _ ha=>by rw[hs,ha]) rfl
   simp only[canK]
   split
   ·rfl
   ·split
    ·simp only[Mem.put]
     rw[kvGet_put,if_neg (fun e=>by rw[e]at hk;simp[keyD]at hk),hf]
    ·exact hf
theorem kvIdx_none: ∀ {kvs:List (List Int×Int)} {k:List Int},kvGet kvs k=none→kvIdx kvs k=kvs.length
 |[],_,_=>rfl
 |x::r,k,h=>by
   simp only[kvGet]at h
   split at h
   ·cases h
   ·rename_i hk
    simp only[kvIdx,if_neg hk,kvIdx_none h,List.length_cons]
theorem kvPut_app: ∀ {kvs:List (List Int×Int)} {k:List Int} (v:Int),kvGet kvs k=none→kvPut kvs k v=kvs ++[(k,v)]
 |[],_,_,_=>rfl
 |x::r,k,v,h=>by
   simp only[kvGet]at h
   split at h
   ·cases h
   ·rename_i hk
    simp only[kvPut,if_neg hk,kvPut_app v h,List.cons_append]
theorem kvSet_put {kvs:List (List Int×Int)} {k:List Int}(h:kvGet kvs k=none)(v:Int):kvSet (kvPut kvs k 0) (kvIdx kvs k) v=kvPut kvs k v:=by
 rw[kvPut_app _ h,kvPut_app _ h,kvIdx_none h]
 unfold kvSet
 apply List.ext_getElem?
 intro i
 rw[List.getElem?_modify]
 by_cases hi:kvs.length=i
 ·subst hi;simp
 ·simp only[if_neg hi]
  by_cases hl:i<kvs.length
  ·simp[List.getElem?_append,hl]
  ·rw[List.getElem?_eq_none (by simp;omega),List.getElem?_eq_none (by simp;omega)];rfl
def reachOps:List AOper:=[⟨some 41, .load none (.t 5),none,[],[]⟩,⟨some 42, .load (some 5) (.t 4),none,[],[]⟩,⟨some 43, .mget (some 5) false (.t 41) (.t 42),none,[0,1],[999999]⟩,⟨some 44, .bin .add (.t 43) (.c (i64 1)),none,[2,0,1],[999999]⟩,⟨some 45, .ment (some 5) (.t 41) (.t 42),none,[0,1],[]⟩,⟨some 46, .ext (.t 45) 1,none,[4,0,1],[]⟩,⟨none, .mest (.t 41) (.t 46) (.t 44),none,[3,5,2,4,0,1],[]⟩]
theorem reachOps_pre: ∀(i:Nat) o,reachOps[i]? =some o→ ∀p∈o.pre,p<i:=by
 intro i o h
 match i with
 |0|1|2|3|4|5|6=>simp[reachOps]at h;subst h;simp
 |i+7=>simp[reachOps]at h
structure ReachI(mp:V)(cs:List V)(ix:Int)(p4 p5 p6:V)(done:List Nat)(e:Env):Prop where
 g4:e.get 4=p4
 g5:e.get 5=p5
 g6:e.get 6=p6
 h0:0∈done→e.get 41=mp
 h1:1∈done→e.get 42= .agg cs
 h2:2∈done→e.get 43=i64 0
 h3:3∈done→e.get 44=i64 1
 h4:4∈done→e.get 45= .tup [i64 0,i64 ix]
 h5:5∈done→e.get 46=i64 ix
 c6:6∈done→4∈done
 c26:6∈done→2∈done
set_option maxHeartbeats 4000000 in
theorem reach_region {t:DTrap} {C:List Int} {m:V} {dg lg dm lm L:Nat} {S:List (List Int×Int)→Stk}(G:GameD t C m dg lg dm lm L S)(F:Ab.Loc)(a0 a1 a2 a3 a4:Int)(hF:F.get 80=some (.cell [.mp (.ptr dm lm 0)]))(hF2:F.get 64=some (.cell [i64 a0,i64 a1,i64 a2,i64 a3,i64 a4]))
 (kvs:List (List Int×Int)) (hn0:kvGet kvs [a0,a1,a2,a3,a4]=none) (e0:Env) (x4:e0.get 4= .ptr L 64 0) (x5:e0.get 5= .ptr L 80 0) (x6:e0.get 6= .ptr L 96 0):
 runAny T (Run T) reachOps [6] reachOps [] e0 (F::S kvs)=some ([(6, .ptr L 96 0)],F::S (kvPut kvs [a0,a1,a2,a3,a4] 1)):=by
 have hm: ¬dm=L:=by have:=G.ltm;omega
 have hL:=G.len
 have hidx:=kvIdx_none hn0
 have hset:=kvSet_put hn0 1
 have hlen:(kvPut kvs [a0,a1,a2,a3,a4] 0).length=kvs.length+1:=by rw[kvPut_app _ hn0];simp
 have hnp:kvGet (kvPut kvs [a0,a1,a2,a3,a4] 0) [a0,a1,a2,a3,a4]=some 0:=by rw[kvGet_put,if_pos rfl]
 have f80: ∀K,sget (F::S K) L 80=some (.cell [.mp (.ptr dm lm 0)]):=fun K=>by rw[←hL K,sget_top,hF]
 have f64: ∀K,sget (F::S K) L 64=some (.cell [i64 a0,i64 a1,i64 a2,i64 a3,i64 a4]):=fun K=>by rw[←hL K,sget_top,hF2]
 have fm: ∀K,sget (F::S K) dm lm=some (.mp (some 5) K):=fun K=>by rw[sget_cons,if_neg (by rw[hL];exact hm),G.mem]
 have pm: ∀K K',sput (F::S K) dm lm (.mp (some 5) K')=F::S K':=fun K K'=>by rw[sput_cons,if_neg (by rw[hL];exact hm),G.put]
 rw[hidx]at hset
 generalize hP0:kvPut kvs [a0,a1,a2,a3,a4] 0=P0 at*
 generalize hP1:kvPut kvs [a0,a1,a2,a3,a4] 1=P1 at*
 refine runAny_start (fun done e s=>ReachI (.mp (.ptr dm lm 0)) [i64 a0,i64 a1,i64 a2,i64 a3,i64 a4] (kvs.length:Nat) (.ptr L 64 0) (.ptr L 80 0) (.ptr L 96 0) done e∧s=F::S (if 6∈done then P1 else if 4∈done then P0 else kvs)) _ ?_ ?_ ?_
 ·exact⟨⟨x4,x5,x6,by simp,by simp,by simp,by simp,by simp,by simp,by simp,by simp⟩,by simp⟩
 ·intro done e s ⟨h,hs⟩ hr
  have hall:=ready_all hr reachOps_pre
  simp[Env.only,h.g6,hs,hall 6 (by simp[reachOps])]
 ·intro done e s i o ⟨h,hs⟩ ho hn hp
  match i with
  |0=>
    simp[reachOps]at ho;subst ho
    rw[hs]at*
    refine⟨(41, .mp (.ptr dm lm 0))::e,F::S (if 6∈done then P1 else if 4∈done then P0 else kvs),by simp[h.g5,f80],⟨⟨by simp[h.g4],by simp[h.g5],by simp[h.g6],fun _=>by simp,fun hm=>by have:=h.h1 (by simpa using hm);simpa using this,fun hm=>by have:=h.h2 (by simpa using hm);simpa using this,fun hm=>by have:=h.h3 (by simpa using hm);simpa using this,fun hm=>by have:=h.h4 (by simpa using hm);simpa using this,fun hm=>by have:=h.h5 (by simpa using hm);simpa using this,fun hm=>by have:=h.c6 (by simpa using hm);simp[this],fun hm=>by have:=h.c26 (by simpa using hm);simp[this]⟩,by simp⟩⟩
  |1=>
    simp[reachOps]at ho;subst ho
    rw[hs]at*
    refine⟨(42, .agg [i64 a0,i64 a1,i64 a2,i64 a3,i64 a4])::e,F::S (if 6∈done then P1 else if 4∈done then P0 else kvs),by simp[h.g4,f64],⟨⟨by simp[h.g4],by simp[h.g5],by simp[h.g6],fun hm=>by have:=h.h0 (by simpa using hm);simpa using this,fun _=>by simp,fun hm=>by have:=h.h2 (by simpa using hm);simpa using this,fun hm=>by have:=h.h3 (by simpa using hm);simpa using this,fun hm=>by have:=h.h4 (by simpa using hm);simpa using this,fun hm=>by have:=h.h5 (by simpa using hm);simpa using this,fun hm=>by have:=h.c6 (by simpa using hm);simp[this],fun hm=>by have:=h.c26 (by simpa using hm);simp[this]⟩,by simp⟩⟩
  |2=>
    simp[reachOps]at ho;subst ho
    have m0:=hp 0 (by simp)
    have m1:=hp 1 (by simp)
    have hg0:(kvGet (if 6∈done then P1 else if 4∈done then P0 else kvs) [a0,a1,a2,a3,a4]).getD 0=0:=by
     have n6:6∉done:=fun h6=>hn (h.c26 h6)
     rw[if_neg n6]
     split
     ·rw[hnp];rfl
     ·rw[hn0];rfl
    rw[hs]at*
    refine⟨(43,i64 0)::e,F::S (if 6∈done then P1 else if 4∈done then P0 else kvs),by simp[h.h0 m0,h.h1 m1,fm,hg0],⟨⟨by simp[h.g4],by simp[h.g5],by simp[h.g6],fun hm=>by have:=h.h0 (by simpa using hm);simpa using this,fun hm=>by have:=h.h1 (by simpa using hm);simpa using this,fun _=>by simp,fun hm=>by have:=h.h3 (by simpa using hm);simpa using this,fun hm=>by have:=h.h4 (by simpa using hm);simpa using this,fun hm=>by have:=h.h5 (by simpa using hm);simpa using this,fun hm=>by have:=h.c6 (by simpa using hm);simp[this],fun hm=>by have:=h.c26 (by simpa using hm);simp[this]⟩,by simp⟩⟩
  |3=>
    simp[reachOps]at ho;subst ho
    have m0:=hp 0 (by simp)
    have m1:=hp 1 (by simp)
    have m2:=hp 2 (by simp)
    refine⟨(44,i64 1)::e,s,by simp[h.h2 m2,show IntKind.i64.wrap 1=1 by decide],⟨⟨by simp[h.g4],by simp[h.g5],by simp[h.g6],fun hm=>by have:=h.h0 (by simpa using hm);simpa using this,fun hm=>by have:=h.h1 (by simpa using hm);simpa using this,fun hm=>by have:=h.h2 (by simpa using hm);simpa using this,fun _=>by simp,fun hm=>by have:=h.h4 (by simpa using hm);simpa using this,fun hm=>by have:=h.h5 (by simpa using hm);simpa using this,fun hm=>by have:=h.c6 (by simpa using hm);simp[this],fun hm=>by have:=h.c26 (by simpa using hm);simp[this]⟩,by simpa using hs⟩⟩
  |4=>
    simp[reachOps]at ho;subst ho
    have m0:=hp 0 (by simp)
    have m1:=hp 1 (by simp)
    have n6:6∉done:=fun h6=>hn (h.c6 h6)
    rw[if_neg n6,if_neg hn]at hs
    subst hs
    refine⟨(45, .tup [i64 0,i64 (kvs.length:Nat)])::e,F::S P0,by simp[h.h0 m0,h.h1 m1,fm,pm,hn0,hidx,hP0],⟨⟨by simp[h.g4],by simp[h.g5],by simp[h.g6],fun hm=>by have:=h.h0 (by simpa using hm);simpa using this,fun hm=>by have:=h.h1 (by simpa using hm);simpa using this,fun hm=>by have:=h.h2 (by simpa using hm);simpa using this,fun hm=>by have:=h.h3 (by simpa using hm);simpa using this,fun _=>by simp,fun hm=>by have:=h.h5 (by simpa using hm);simpa using this,fun hm=>by have:=h.c6 (by simpa using hm);simp[this],fun hm=>by have:=h.c26 (by simpa using hm);simp[this]⟩,by simp[n6]⟩⟩
  |5=>
    simp[reachOps]at ho;subst ho
    have m0:=hp 0 (by simp)
    have m1:=hp 1 (by simp)
    have m4:=hp 4 (by simp)
    refine⟨(46,i64 (kvs.length:Nat))::e,s,by simp[h.h4 m4],⟨⟨by simp[h.g4],by simp[h.g5],by simp[h.g6],fun hm=>by have:=h.h0 (by simpa using hm);simpa using this,fun hm=>by have:=h.h1 (by simpa using hm);simpa using this,fun hm=>by have:=h.h2 (by simpa using hm);simpa using this,fun hm=>by have:=h.h3 (by simpa using hm);simpa using this,fun hm=>by have:=h.h4 (by simpa using hm);simpa using this,fun _=>by simp,fun hm=>by have:=h.c6 (by simpa using hm);simp[this],fun hm=>by have:=h.c26 (by simpa using hm);simp[this]⟩,by simpa using hs⟩⟩
  |6=>
    simp[reachOps]at ho;subst ho
    have m0:=hp 0 (by simp)
    have m1:=hp 1 (by simp)
    have m2:=hp 2 (by simp)
    have m3:=hp 3 (by simp)
    have m4:=hp 4 (by simp)
    have m5:=hp 5 (by simp)
    rw[if_neg hn,if_pos m4]at hs
    subst hs
    refine⟨e,F::S P1,by simp[h.h0 m0,h.h5 m5,h.h3 m3,fm,pm,hlen,hset,show(kvs.length:Int)<(kvs.length:Int)+1 by omega],⟨⟨by simp[h.g4],by simp[h.g5],by simp[h.g6],fun hm=>by have:=h.h0 (by simpa using hm);simpa using this,fun hm=>by have:=h.h1 (by simpa using hm);simpa using this,fun hm=>by have:=h.h2 (by simpa using hm);simpa using this,fun hm=>by have:=h.h3 (by simpa using hm);simpa using this,fun hm=>by have:=h.h4 (by simpa using hm);simpa using this,fun hm=>by have:=h.h5 (by simpa using hm);simpa using this,fun hm=>by simp[m4],fun hm=>by simp[m2]⟩,by simp⟩⟩
  |i+7=>simp[reachOps]at ho
end Go.Proofs.YtbcjofkfgpbhmaaGreat

/-
  Doors: reaches, the end.
-/
namespace Go.Proofs.YtbcjofkfgpbhmaaGreat
open Go.Ab
theorem caught_take(n:Nat): ∀(f p:List Int) (k:Nat),f.length≤k→caughtS n f (p.take k)=caughtS n f p:=by
 intro f
 induction f with
 |nil=>intro p k _;simp[caughtS]
 |cons x f ih=>
   intro p k hk
   cases p with
   |nil=>simp
   |cons y p=>
     cases k with
     |zero=>simp at hk
     |succ k=>simp only[List.take_succ_cons,caughtS,ih p k (by simpa using hk)]
abbrev RetG(L:Nat):= {p:Env×Ab.Loc//p.1.get 6= .ptr L 96 0∧p.2.get 96=some (.cell [.bool true])}
instance (L:Nat):Inhabited (RetG L):=⟨⟨([(6, .ptr L 96 0)],[(96, .cell [.bool true])]),rfl,rfl⟩⟩
set_option maxHeartbeats 8000000 in
theorem e_reaches {t:DTrap}(h:DoorOk t)(k:Nat):k≤4→CanD t (chB t) k (canK t k):=by
 induction k with
 |zero=>
   intro _ m dg lg dm lm L S G o n K lab ho hn
   obtain⟨x0,x1,x2,rfl⟩: ∃x0 x1 x2,n=[x0,x1,x2]:=by
    match n,hn.1 with
    |[x0,x1,x2],_=>exact⟨x0,x1,x2,rfl⟩
   have hL:=G.len K.1
   have hd:=G.ltg
   have hc:=fun lab=>e_caught t h.ol h.ch (fun g hg=>(h.groups g hg).2) (chB t) m x0 x1 x2 dg lg ([(48, .cell [.ptr dg lg 0]),(64, .cell [i64 0,i64 (o:Nat),i64 x0,i64 x1,i64 x2]),(80, .cell [.mp (.ptr dm lm 0)]),(96, .cell [.bool false])]::S K.1) (by simp only[List.length_cons];omega) (by rw[sget_cons,if_neg (by omega),G.game]) lab
   have e:cO t 0 o [x0,x1,x2]=decide (0<caughtS t.chambers.toNat (fishL t) [x0,x1,x2]):=by
    unfold cO
    simp only[canG]
    rw[caught_take _ _ _ _ (by simp[fishL])]
   rw[e]
   simp only[canK]
   generalize caughtS t.chambers.toNat (fishL t) [x0,x1,x2]=w at*
   generalize S K.1=X at*
   subst hL
   simp only[sceneL,List.map_cons,List.map_nil,Int.natCast_zero]
   change den T _ [_, .agg [i64 0,_,_,_,_],_] _ _=_
   rw[den_fn t23 _ _ _ rfl]
   simp only[b23]
   simp (maxSteps:=1000000) (disch:=first|omega|assumption|decide +kernel|(simp;done)|(simp;omega)|fail) [hc]
 |succ k ih0=>
   intro hk m dg lg dm lm L S G o n K lab ho hn
   have ih:= @ih0 (by omega)
   obtain⟨x0,x1,x2,rfl⟩: ∃x0 x1 x2,n=[x0,x1,x2]:=by
    match n,hn.1 with
    |[x0,x1,x2],_=>exact⟨x0,x1,x2,rfl⟩
   have hL:=G.len
   have hd:=G.ltg
   have hd2:=G.ltm
   have e1: ¬dg=L:=by omega
   have e2: ¬dm=L:=by omega
   have hga:=G.game
   have hme:=G.mem
   have hpu:=G.put
   have hw:=cKey_key t (k+1) o (n:=[x0,x1,x2]) rfl
   have hT:(((k+1:Nat):Int)=0)=False:=by simp;omega
   have hkk:((k+1:Nat):Int)-1=(k:Nat):=by omega
   have hsc:=cO_succ h k o hn
   have hcl:(chB t).length=(cN t).length:=by simp[chB,natI]
   have hlen:(cN t).length≤32:=by rw[←hcl];exact(chB_len h).2.2
   have key:=loop_list_e (T:=Go.Proofs.YtbcjofkfgpbhmaaGreat.T) (γ:=RetG L) (live:=[3,4,5,6,25,26,27]) (keep:=[48,64,80,96,256]) (b:=d23l0) (cN t) (fun _ (_:MemC t)=>True)
    (fun j _=>[(3, .ptr L 48 0),(4, .ptr L 64 0),(5, .ptr L 80 0),(6, .ptr L 96 0),(25, .sl .no 1 (es cInt (chB t))),(26,i64 (chB t).length),(27,i64 (j:Nat))])
    (fun _ K=>[(48, .cell [.ptr dg lg 0]),(64, .cell [i64 ((k+1:Nat):Int),i64 (o:Nat),i64 x0,i64 x1,i64 x2]),(80, .cell [.mp (.ptr dm lm 0)]),(96, .cell [.bool false])]::S K.1)
    (stepC t k (canK t k) o [x0,x1,x2])
    (fun g K=>(.ret,g.1.1,g.1.2::S K.1))
    (fun K=>(.exit 0,[(3, .ptr L 48 0),(4, .ptr L 64 0),(5, .ptr L 80 0),(6, .ptr L 96 0),(25, .sl .no 1 (es cInt (chB t))),(26,i64 (chB t).length),(27,i64 (cN t).length),(28, .bool false)],[(48, .cell [.ptr dg lg 0]),(64, .cell [i64 ((k+1:Nat):Int),i64 (o:Nat),i64 x0,i64 x1,i64 x2]),(80, .cell [.mp (.ptr dm lm 0)]),(96, .cell [.bool false])]::S K.1))
    (by simp) (by simp) ?_ ?_ K trivial [(3, .ptr L 48 0),(4, .ptr L 64 0),(5, .ptr L 80 0),(6, .ptr L 96 0),(25, .sl .no 1 (es cInt (chB t))),(26,i64 (chB t).length),(27,i64 0)] ([(48, .cell [.ptr dg lg 0]),(64, .cell [i64 ((k+1:Nat):Int),i64 (o:Nat),i64 x0,i64 x1,i64 x2]),(80, .cell [.mp (.ptr dm lm 0)]),(96, .cell [.bool false])]::S K.1) (by simp[hL,e1,e2]) (by simp[hL,e1,e2])
   ·obtain⟨g,hg⟩:=key
    change Run Go.Proofs.YtbcjofkfgpbhmaaGreat.T b23l0 _ _=_ at hg
    have hany:(foldB (stepC t k (canK t k) o [x0,x1,x2]) (cN t) K).2= !cO t (k+1) o [x0,x1,x2]:=by
     rw[hsc]
     exact foldB_not fun a c _=>(reach_fold t k (xorN o c) (canK t k) [x0,x1,x2] a).2
    have hkeep:kvGet (foldB (stepC t k (canK t k) o [x0,x1,x2]) (cN t) K).1.1 (keyD (k+1) o [x0,x1,x2])=kvGet K.1 (keyD (k+1) o [x0,x1,x2]):=by
     refine foldB_inv (I:=fun a:MemC t=>kvGet a.1 (keyD (k+1) o [x0,x1,x2])=kvGet K.1 (keyD (k+1) o [x0,x1,x2])) (fun a c _ ha=> ?_) rfl
     rw[←ha]
     refine foldB_inv (I:=fun q:MemC t×Bool=>kvGet q.1.1 (keyD (k+1) o [x0,x1,x2])=kvGet a.1 (keyD (k+1) o [x0,x1,x2])) (fun q x _ hq=> ?_) rfl
     simp only[reachY]
     split<;>(simp only;rw[canK_keep _ _ _ _ _ _ (by simp[keyD];omega),hq])
    have hr: ∀v,kvGet K.1 (keyD (k+1) o [x0,x1,x2])=some v→v=if cO t (k+1) o [x0,x1,x2]=true then 0 else 1:=fun v hv=>by rw[←hw];exact K.2 _ _ hv
    simp only[canK]
    rw[hany]at hg⊢
    obtain⟨⟨ge,gl⟩,hg1,hg2⟩:=g
    simp only at hg1 hg2 hg
    generalize foldB (stepC t k (canK t k) o [x0,x1,x2]) (cN t) K=Q at*
    obtain⟨K2,bb⟩:=Q
    simp only at hkeep hg hany⊢
    simp only[keyD]at hr hkeep⊢
    by_cases hpos:0<(kvGet K.1 [((k+1:Nat):Int),(o:Nat),x0,x1,x2]).getD 0
    ·have hco:cO t (k+1) o [x0,x1,x2]=false:=by
      cases hv:kvGet K.1 [((k+1:Nat):Int),(o:Nat),x0,x1,x2]with
      |none=>rw[hv]at hpos;simp at hpos
      |some v=>
        have:=hr v hv
        rw[hv]at hpos
        simp only[Option.getD_some]at hpos
        cases hc:cO t (k+1) o [x0,x1,x2]
        ·rfl
        ·rw[hc,if_pos rfl]at this;omega
     rw[if_pos hpos,hco]
     simp only[sceneL,List.map_cons,List.map_nil]
     generalize hTT:((k+1:Nat):Int)=T1 at*
     rw[den_fn t23 _ _ _ rfl]
     simp only[b23]
     simp (maxSteps:=1000000) (disch:=first|omega|assumption|decide +kernel|(simp;done)|(simp;omega)|fail) [hL,hga,hme,e1,e2,hT,hpos]
    ·rw[if_neg hpos]
     simp only[sceneL,List.map_cons,List.map_nil]
     cases hco:cO t (k+1) o [x0,x1,x2]
     ·have hnone:kvGet K2.1 [((k+1:Nat):Int),(o:Nat),x0,x1,x2]=none:=by
       rw[hkeep]
       cases hv:kvGet K.1 [((k+1:Nat):Int),(o:Nat),x0,x1,x2]with
       |none=>rfl
       |some v=>
         have:=hr v hv
         rw[hco]at this
         rw[hv]at hpos
         simp at this hpos
         omega
      rw[hco]at hg
      simp only[Bool.not_false,if_true]at hg⊢
      have hput:(K2.put [((k+1:Nat):Int),(o:Nat),x0,x1,x2]).1=kvPut K2.1 [((k+1:Nat):Int),(o:Nat),x0,x1,x2] 1:=by
       show kvPut _ _ (cKey t (keyD (k+1) o [x0,x1,x2]))=_
       rw[hw,hco];rfl
      rw[hput]
      have hreg:=reach_region G [(48, .cell [.ptr dg lg 0]),(64, .cell [i64 ((k+1:Nat):Int),i64 (o:Nat),i64 x0,i64 x1,i64 x2]),(80, .cell [.mp (.ptr dm lm 0)]),(96, .cell [.bool false])] ((k+1:Nat):Int) (o:Nat) x0 x1 x2 rfl rfl K2.1 hnone [(3, .ptr L 48 0),(4, .ptr L 64 0),(5, .ptr L 80 0),(6, .ptr L 96 0),(25, .sl .no 1 (es cInt (chB t))),(26,i64 (chB t).length),(27,i64 (cN t).length),(28, .bool false)] rfl rfl rfl
      simp only[reachOps]at hreg
      generalize hTT:((k+1:Nat):Int)=T1 at*
      generalize chB t=C at*
      rw[den_fn t23 _ _ _ rfl]
      simp only[b23]
      simp (maxSteps:=1000000) (disch:=first|omega|assumption|decide +kernel|(simp;done)|(simp;omega)|fail) [run_each2,hL,hga,hme,e1,e2,hT,hpos,hg,hreg]
     ·rw[hco]at hg
      simp only[Bool.not_true,Bool.false_eq_true,if_false]at hg⊢
      generalize hTT:((k+1:Nat):Int)=T1 at*
      generalize chB t=C at*
      rw[den_fn t23 _ _ _ rfl]
      simp only[b23]
      simp (maxSteps:=1000000) (disch:=first|omega|assumption|decide +kernel|(simp;done)|(simp;omega)|fail) [hL,hga,hme,e1,e2,hT,hpos,hg,hg1,hg2]
   ·intro j K2 hj _
    have hj2:(j:Int)<(chB t).length:=by omega
    have hj3:j<(chB t).length:=by omega
    have hcj:(chB t)[j]=((cN t)[j]:Int):=by simp[chB,natI]
    have hc:=cN_lt h (List.getElem_mem hj)
    generalize (cN t)[j]=c at*
    have ho2:xorN o c<32:=Nat.xor_lt_two_pow (n:=5) ho hc
    have y:=reach_yield t (chB t) k (canK t k) ih G j ((k+1:Nat):Int) (((k+1:Nat):Int)-1) hkk o (xorN o c) ho2 [x0,x1,x2]
    obtain⟨n',hn',hl⟩:=e_loopD t h ho2 hn y (K2,false) rfl
    have hm:=fun(loc:Ab.Loc) lab=>e_moves ((k+1:Nat):Int) o c (by omega) x0 x1 x2 ho hc dg lg lab loc (S K2.1) (by rw[hL];omega)
    obtain⟨r1,r2⟩:=reach_fold t k (xorN o c) (canK t k) [x0,x1,x2] K2
    unfold stepC
    generalize foldD t (xorN o c) [x0,x1,x2] (reachY t k (xorN o c) (canK t k)) (K2,false)=Q at*
    obtain⟨⟨K3,fb⟩,bb⟩:=Q
    simp only at r1 r2 hl⊢
    rw[←r1]at r2
    subst r2
    clear r1 y ih ih0
    simp only[hL]at hm
    simp only[reachSt,reachF,reachE,sceneL,List.map_cons,List.map_nil,Nat.reduceAdd]at hl hm
    generalize xorN o c=o2 at*
    generalize hTT:((k+1:Nat):Int)=T1 at*
    generalize chB t=C at*
    cases fb
    ·refine⟨fun _=>⟨?_,trivial⟩,fun hb=>by simp at hb⟩
     simp only[Bool.false_eq_true,if_false]at hl
     simp (maxSteps:=1000000) (disch:=first|omega|assumption|decide +kernel|(simp;done)|(simp;omega)|fail) [hj,hj2,hj3,hcj,hL,hga,e1,e2,hm,hl,wk j (by omega)]
    ·refine⟨fun hb=>by simp at hb,fun _=>⟨⟨([(3, .ptr L 48 0),(4, .ptr L 64 0),(5, .ptr L 80 0),(6, .ptr L 96 0),(25, .sl .no 1 (es cInt C)),(26,i64 C.length),(27,i64 (j:Nat)),(34, .fn 57 [] [.ptr L 544 0, .ptr L 1544 0, .ptr L 2544 0])],
      [(48, .cell [.ptr dg lg 0]),(64, .cell [i64 T1,i64 (o:Nat),i64 x0,i64 x1,i64 x2]),(80, .cell [.mp (.ptr dm lm 0)]),(96, .cell [.bool true]),(544, .cell [.ptr dg lg 0]),(1544, .cell (i64 (T1-1)::i64 (o2:Nat)::n'.map i64)),(2544, .cell [i64 T1,i64 (o:Nat),i64 x0,i64 x1,i64 x2]),
        (5895, .loop [35] b23l1 b23l2 [] .exhausted (some .ret))]),rfl,rfl⟩,?_⟩⟩
     simp only[Bool.false_eq_true,if_false,if_true]at hl
     simp (maxSteps:=1000000) (disch:=first|omega|assumption|decide +kernel|(simp;done)|(simp;omega)|fail) [hj,hj2,hj3,hcj,hL,hga,e1,e2,hm,hl,wk j (by omega)]
   ·intro K2 _
    simp[hcl]
end Go.Proofs.YtbcjofkfgpbhmaaGreat

/-
  Doors: Catch.
-/
namespace Go.Proofs.YtbcjofkfgpbhmaaGreat
open Go.Ab
theorem GameD.topM {t C} {s:Stk} {m:V} {lg lm:Nat} {X:List (List Int×Int)→Ab.Loc}(hg: ∀K,(X K).get lg=some (.cell (gameV t C m)))(hm: ∀K,(X K).get lm=some (.mp (some 5) K))(hp: ∀K K',(X K).put lm (.mp (some 5) K')=X K'):
 GameD t C m s.length lg s.length lm (s.length+1) (fun K=>X K::s) where
 len:=fun K=>by simp
 ltg:=by omega
 ltm:=by omega
 game:=fun K=>by rw[sget_top,hg]
 mem:=fun K=>by rw[sget_top,hm]
 put:=fun K K'=>by rw[sput_top,hp]
def aloneT(t:DTrap):DTrap:= {t with groups:=[⟨0,1⟩]}
theorem alone_ok {t:DTrap}(h:DoorOk t):DoorOk (aloneT t) where
 ch:=h.ch
 tu:=h.tu
 ha:=h.ha
 gl:=h.gl
 ol:=by simp[aloneT]
 gates:=h.gates
 groups:=fun g hg=>by
  simp only[aloneT,List.mem_singleton]at hg
  subst hg
  have:=h.ch
  have e:(aloneT t).chambers=t.chambers:=rfl
  rw[e]
  simp only
  omega
def oneN(p:Int):List Int:=[p,0,0]
def catchV(t:DTrap)(p:Int):Int:=if wO (aloneT t) t.turns.toNat (gN t) (oneN p)=1 then 1 else if cO (aloneT t) t.turns.toNat (gN t) (oneN p)=false then 2 else 3
def posOf(t:DTrap)(g:Int):Int:=(posL t).getD g.toNat 0
def catchR(t:DTrap)(g:Int):Int×Int:=if doorB t=true then(if wiB g 0 (t.groups.length-1)=true then(catchV t (posOf t g),0)else(0,1))else(0,30)
abbrev catchX(t:DTrap)(d:Nat)(p:Int)(K:List (List Int×Int)):Ab.Loc:=[(32, .cell (dV t)),(320, .cell (gameV t (chB t) (.mp (.ptr d 1320 0)))),(1320, .mp (some 5) []),(112, .cell (sceneV t.turns (gN t:Nat) p 0 0)),(464, .cell (gameV (aloneT t) (chB t) (.csl (.ptr d 1464 0) 0))),(1464, .mp (some 5) K),(160, .cell (scene0 t))]
set_option maxHeartbeats 8000000 in
theorem e_Catch(t:DTrap)(hs:ShortD t)(g:Int)(lab s):den T 7 [.agg (dV t),i64 g] lab s=some (.tup [i64 (catchR t g).1,i64 (catchR t g).2],s):=by
 have hgr:=hs.groups
 have w1:IntKind.i64.wrap ((t.groups.length:Int)-1)=(t.groups.length:Int)-1:=wi _ (by omega) (by omega)
 unfold catchR
 cases h:doorB t
 ·have hb:=fun b lab loc s=>e_begin_bad t hs h b lab loc s
  rw[den_fn t7 _ _ _ rfl]
  simp only[b7]
  simp (maxSteps:=1000000) (disch:=first|omega|assumption|decide +kernel|(simp;done)|(simp;omega)|fail) [run_drawnK,orSlow_none,hb,w1]
 ·have ho:=doorB_iff.1 h
  have htu:=ho.tu
  cases hw:wiB g 0 (t.groups.length-1)
  ·have hb:=fun lab loc s=>e_begin_arg t ho lab loc s
   rw[den_fn t7 _ _ _ rfl]
   simp only[b7]
   simp (maxSteps:=1000000) (disch:=first|omega|assumption|decide +kernel|(simp;done)|(simp;omega)|fail) [run_drawnK,orSlow_none,hb,w1,hw]
  ·have hgb:0≤g∧g≤t.groups.length-1:=by simpa [wiB]using hw
   have h3:=ho.ol
   have hb:=fun lab loc k0 k1=>e_begin t ho lab loc s k0 k1
   obtain⟨i,rfl⟩: ∃i:Nat,g=i:=⟨g.toNat,by omega⟩
   have hi:i<t.groups.length:=by omega
   have hp:posOf t (i:Nat)=at0 t i:=by
    rw[at0_get hi];simp[posOf,posL,hi]
   have ha:=alone_ok ho
   have hin:InN (aloneT t) (oneN (at0 t i)):=by
    refine⟨rfl,fun j hj=> ?_⟩
    have:j=0:=by simp[aloneT]at hj;omega
    subst this
    have:=(ho.groups _ (List.getElem_mem hi)).1
    rw[at0_get hi]
    exact this
   have hT:((t.turns.toNat:Nat):Int)=t.turns:=by omega
   have hv:=fun lab=>e_value ha t.turns.toNat (by omega) (GameD.topM (t:=aloneT t) (s:=s) (lg:=464) (lm:=1464) (X:=catchX t s.length (at0 t i)) (fun K=>rfl) (fun K=>rfl) (fun K K'=>rfl)) rfl (gN t) (oneN (at0 t i)) Mem.nil lab (gN_lt ho) hin
   have hr:=fun(K0:List (List Int×Int)) lab=>e_reaches ha t.turns.toNat (by omega) (GameD.topM (t:=aloneT t) (s:=s) (lg:=464) (lm:=848) (m:= .csl (.ptr s.length 1464 0) 0) (X:=fun K=>catchX t s.length (at0 t i) K0 ++[(848, .mp (some 5) K)]) (fun K=>rfl) (fun K=>rfl) (fun K K'=>rfl)) (gN t) (oneN (at0 t i)) Mem.nil lab (gN_lt ho) hin
   rw[hT]at hv hr
   simp only[Bool.false_eq_true,if_true,hp,catchV]
   have hk: ∀(a:List (List Int×Int)→Stk),True:=fun _=>trivial
   generalize wO (aloneT t) t.turns.toNat (gN t) (oneN (at0 t i))=w at*
   generalize cO (aloneT t) t.turns.toNat (gN t) (oneN (at0 t i))=b at*
   generalize valK (aloneT t) _ _ _ _=K1 at*
   generalize canK (aloneT t) _ _ _ _=K2 at*
   simp only[catchX,gN,scene0,sceneV,sceneL,oneN,List.map_cons,List.map_nil,List.cons_append,List.nil_append,Mem.nil_val,gameV,gcap,gmp,aloneT,show es cGroup [(⟨0,1⟩:DGroup)]=[[i64 0,i64 1]]from rfl]at hb hv hr
   generalize gateBits t.gates=o at*
   generalize chB t=C at*
   have hil:(i:Int)<3:=by omega
   have hwa: ∀z:Int,z=(i:Int)→wiB z 0 ((t.groups.length:Int)-1)=true:=fun z e=>by rw[e];exact hw
   by_cases hw1:w=1
   ·obtain rfl|rfl|rfl:i=0∨i=1∨i=2:=by omega
    all_goals
     (rw[den_fn t7 _ _ _ rfl]
      simp only[b7]
      simp (maxSteps:=1000000) (disch:=first|omega|assumption|decide +kernel|(simp;done)|(simp;omega)|fail) [run_drawnK,orSlow_none,w1,hwa,hb,hv,hr,hw1])
   ·cases b<;>(obtain rfl|rfl|rfl:i=0∨i=1∨i=2:=by omega)
    all_goals
     (rw[den_fn t7 _ _ _ rfl]
      simp only[b7]
      simp (maxSteps:=1000000) (disch:=first|omega|assumption|decide +kernel|(simp;done)|(simp;omega)|fail) [run_drawnK,orSlow_none,w1,hwa,hb,hv,hr,hw1])
end Go.Proofs.YtbcjofkfgpbhmaaGreat

/-
  Doors, the law's helpers: Copy, Turning, ready, all, worth, after.
-/
namespace Go.Proofs.YtbcjofkfgpbhmaaGreat
open Go.Ab
theorem e_CopyD(t:DTrap)(hs:ShortD t)(lab)(loc:Ab.Loc)(s:Stk)(k0:loc.get lab=none)(k1:loc.get (lab+1000)=none):
 den T 6 [.agg (dV t)] lab (loc::s)=some (.agg [i64 t.chambers,i64 t.turns,i64 t.hands, .asl s.length lab 3 t.gates.length 0 t.gates.length, .asl s.length (lab+1000) 2 t.groups.length 0 t.groups.length],
  (loc.put lab (.arr 3 (es cGate t.gates))).put (lab+1000) (.arr 2 (es cGroup t.groups))::s):=by
 have hg:=hs.gates
 have ho:=hs.groups
 rw[den_fn t6 _ _ _ rfl]
 simp only[b6]
 simp (maxSteps:=1000000) (disch:=first|omega|assumption|decide +kernel|(simp;done)|(simp;omega)|fail) [appmD_es,run_drawnK,orSlow_none,k0,k1]
def turningT(t:DTrap)(k:Int):DTrap:= {t with turns:=k}
theorem e_Turning(t:DTrap)(hs:ShortD t)(k:Int)(lab s):den T 54 [.agg (dV t),i64 k] lab s=some (.agg (dV (turningT t k)),s):=by
 have hc:=fun lab loc s k0 k1=>e_CopyD t hs lab loc s k0 k1
 rw[den_fn t54 _ _ _ rfl]
 simp only[b54]
 simp (maxSteps:=1000000) (disch:=first|omega|assumption|decide +kernel|(simp;done)|(simp;omega)|fail) [hc,turningT]
theorem e_Huge(t:DTrap)(lab s):den T 12 [.agg (dV t)] lab s=some (.bool (decide (40<t.gates.length)||decide (40<t.groups.length)),s):=by
 rw[den_fn t12 _ _ _ rfl]
 simp only[b12]
 by_cases h1:40<t.gates.length
 ·have h1':(40:Int)<t.gates.length:=by omega
  simp (maxSteps:=1000000) (disch:=first|omega|assumption|decide +kernel|(simp;done)|(simp;omega)|fail) [h1,h1']
 ·have h1': ¬(40:Int)<t.gates.length:=by omega
  by_cases h2:40<t.groups.length
  ·have h2':(40:Int)<t.groups.length:=by omega
   simp (maxSteps:=1000000) (disch:=first|omega|assumption|decide +kernel|(simp;done)|(simp;omega)|fail) [h1,h1',h2,h2']
  ·have h2': ¬(40:Int)<t.groups.length:=by omega
   simp (maxSteps:=1000000) (disch:=first|omega|assumption|decide +kernel|(simp;done)|(simp;omega)|fail) [h1,h1',h2,h2']
def hugeB(t:DTrap):Bool:=decide (40<t.gates.length)||decide (40<t.groups.length)
def farD(t:DTrap):Bool:=hugeB t||(decide (4<t.gates.length)||decide (3<t.gates.length)&&decide (2<t.groups.length))&&doorB t
set_option maxHeartbeats 2000000 in
theorem e_Far(t:DTrap)(hs:ShortD t)(lab s):den T 4 [.agg (dV t)] lab s=some (.bool (farD t),s):=by
 have hh:=fun lab s=>e_Huge t lab s
 have hc:=fun lab s=>e_CheckR t hs lab s
 unfold farD
 change∀lab s,_=some (V.bool (hugeB t),s)at hh
 cases h0:hugeB t<;>rw[h0]at hh
 ·by_cases h1:4<t.gates.length
  ·have h1':(4:Int)<t.gates.length:=by omega
   rw[den_fn t4 _ _ _ rfl]
   simp only[b4]
   cases hd:doorB t<;>simp (maxSteps:=1000000) (disch:=first|omega|assumption|decide +kernel|(simp;done)|(simp;omega)|fail) [hh,hc,h1,h1',hd]
  ·have h1': ¬(4:Int)<t.gates.length:=by omega
   by_cases h2:3<t.gates.length
   ·have h2':(3:Int)<t.gates.length:=by omega
    by_cases h3:2<t.groups.length
    ·have h3':(2:Int)<t.groups.length:=by omega
     rw[den_fn t4 _ _ _ rfl]
     simp only[b4]
     cases hd:doorB t<;>simp (maxSteps:=1000000) (disch:=first|omega|assumption|decide +kernel|(simp;done)|(simp;omega)|fail) [hh,hc,h1,h1',h2,h2',h3,h3',hd]
    ·have h3': ¬(2:Int)<t.groups.length:=by omega
     rw[den_fn t4 _ _ _ rfl]
     simp only[b4]
     simp (maxSteps:=1000000) (disch:=first|omega|assumption|decide +kernel|(simp;done)|(simp;omega)|fail) [hh,hc,h1,h1',h2,h2',h3,h3']
   ·have h2': ¬(3:Int)<t.gates.length:=by omega
    rw[den_fn t4 _ _ _ rfl]
    simp only[b4]
    simp (maxSteps:=1000000) (disch:=first|omega|assumption|decide +kernel|(simp;done)|(simp;omega)|fail) [hh,hc,h1,h1',h2,h2']
 ·rw[den_fn t4 _ _ _ rfl]
  simp only[b4]
  simp (maxSteps:=1000000) (disch:=first|omega|assumption|decide +kernel|(simp;done)|(simp;omega)|fail) [hh]
theorem fish_nonneg {t:DTrap}(h:DoorOk t): ∀f∈fishL t,0≤f:=fun f hf=>by
 obtain⟨g,hg,rfl⟩:=List.mem_map.1 hf
 exact(h.groups g hg).2.1
theorem leastT_range {t:DTrap}(h:DoorOk t)(k:Nat)(c:List Int):0≤leastT t k c∧leastT t k c≤sumF (fishL t):=by
 obtain⟨m,_,e⟩:=leastS_mem t.chambers.toNat t.hands.toNat (fishL t) k (flipG t.gates c) (posL t)
 unfold leastT
 rw[e]
 exact⟨worthS_nonneg (fish_nonneg h) _ _ _,worthS_le (fish_nonneg h) _ _ _⟩
end Go.Proofs.YtbcjofkfgpbhmaaGreat

/-
  Doors, the reference: WaysOf, AreMoves.
-/
namespace Go.Proofs.YtbcjofkfgpbhmaaGreat
open Go.Ab
def wayG(p c:Int)(g:DGate):Bool:=g.op&&(decide (g.a=p)&&decide (g.b=c)||decide (g.b=p)&&decide (g.a=c))
theorem wayB_eq(gs:List DGate)(p c:Int):wayB gs p c=gs.any (wayG p c):=rfl
theorem foldl_or {α:Type}(f:α→Bool): ∀(l:List α) (b:Bool),l.foldl (fun b x=>b||f x) b=(b||l.any f)
 |[],b=>by simp
 |x::l,b=>by rw[List.foldl_cons,foldl_or f l,List.any_cons,Bool.or_assoc]
set_option maxHeartbeats 8000000 in
theorem e_WaysOf_l1(t:DTrap)(h:DoorOk t)(p c:Int)(out:List Int)(s:Stk):
 Run T b49l1 [(1,i64 p),(2, .ptr s.length 32 0),(5, .sl (.own s.length 81) 1 (es cInt out)),(6,i64 c),(7, .bool false),(8,i64 0)] ([(32, .cell (dV t)),(81, .tok out.length)]::s)=
  some (.exit 2,[(1,i64 p),(2, .ptr s.length 32 0),(5, .sl (.own s.length 81) 1 (es cInt out)),(6,i64 c),(7, .bool (wayB t.gates p c)),(8,i64 t.gates.length),(20, .bool false)],[(32, .cell (dV t)),(81, .tok out.length)]::s):=by
 have key:=loop_fold (T:=Go.Proofs.YtbcjofkfgpbhmaaGreat.T) (live:=[1,2,5,6,7,8]) (keep:=[32,81,960,976,1056]) (b:=d49l1) t.gates (fun _ _=>True) (fun b g=>b||wayG p c g)
  (fun k b=>[(1,i64 p),(2, .ptr s.length 32 0),(5, .sl (.own s.length 81) 1 (es cInt out)),(6,i64 c),(7, .bool b),(8,i64 (k:Nat))]) (fun _ _=>[(32, .cell (dV t)),(81, .tok out.length)]::s)
  (fun b=>(.exit 2,[(1,i64 p),(2, .ptr s.length 32 0),(5, .sl (.own s.length 81) 1 (es cInt out)),(6,i64 c),(7, .bool b),(8,i64 t.gates.length),(20, .bool false)],[(32, .cell (dV t)),(81, .tok out.length)]::s))
  (by simp) ?_ ?_ ?_ false trivial [(1,i64 p),(2, .ptr s.length 32 0),(5, .sl (.own s.length 81) 1 (es cInt out)),(6,i64 c),(7, .bool false),(8,i64 0)] ([(32, .cell (dV t)),(81, .tok out.length)]::s) (by simp) (by simp)
 ·rw[foldl_or,Bool.false_or,←wayB_eq]at key
  exact key
 ·intro k b hk _
  have hl:=h.gl
  have hk2:(k:Int)<t.gates.length:=by omega
  generalize hG:t.gates[k]=G at*
  have hw:=wk k (by omega)
  cases b
  ·unfold wayG
   cases c1:G.op
   ·simp (maxSteps:=1000000) (disch:=first|omega|assumption|decide +kernel|(simp;done)|(simp;omega)|fail) [hk,hk2,hG,c1,hw]
   ·by_cases c2:G.a=p
    ·by_cases c3:G.b=c
     ·simp (maxSteps:=1000000) (disch:=first|omega|assumption|decide +kernel|(simp;done)|(simp;omega)|fail) [hk,hk2,hG,c1,c2,c3,hw]
     ·by_cases c4:G.b=p
      ·have c5: ¬p=c:=fun e=>c3 (c4.trans e)
       simp (maxSteps:=1000000) (disch:=first|omega|assumption|decide +kernel|(simp;done)|(simp;omega)|fail) [hk,hk2,hG,c1,c2,c3,c4,c5,hw]
      ·simp (maxSteps:=1000000) (disch:=first|omega|assumption|decide +kernel|(simp;done)|(simp;omega)|fail) [hk,hk2,hG,c1,c2,c3,c4,hw]
    ·by_cases c4:G.b=p
     ·by_cases c5:G.a=c
      ·have c6: ¬c=p:=fun e=>c2 (c5.trans e)
       simp (maxSteps:=1000000) (disch:=first|omega|assumption|decide +kernel|(simp;done)|(simp;omega)|fail) [hk,hk2,hG,c1,c4,c5,c6,hw]
      ·simp (maxSteps:=1000000) (disch:=first|omega|assumption|decide +kernel|(simp;done)|(simp;omega)|fail) [hk,hk2,hG,c1,c2,c4,c5,hw]
     ·simp (maxSteps:=1000000) (disch:=first|omega|assumption|decide +kernel|(simp;done)|(simp;omega)|fail) [hk,hk2,hG,c1,c2,c4,hw]
  ·simp only[Bool.true_or]
   simp (maxSteps:=1000000) (disch:=first|omega|assumption|decide +kernel|(simp;done)|(simp;omega)|fail) [hk,hk2,hG,hw]
 ·intro k b hk _;trivial
 ·intro b _
  simp
def wayAdd(gs:List DGate)(p:Int)(a:List Int)(k:Nat):List Int:=if wayB gs p (k:Int)=true then a ++[(k:Int)]else a
theorem wayAdd_all(gs:List DGate)(p:Int)(n:Nat):(List.range n).foldl (wayAdd gs p) []=(rangeI n).filter (wayB gs p):=by
 have: ∀(l:List Nat) (a:List Int),l.foldl (wayAdd gs p) a=a ++(l.map fun(i:Nat)=>(i:Int)).filter (wayB gs p):=by
  intro l
  induction l with
  |nil=>intro a;simp
  |cons x r ih=>
    intro a
    rw[List.foldl_cons,ih]
    unfold wayAdd
    by_cases hx:wayB gs p x=true<;>simp[hx]
 rw[this];rfl
set_option maxHeartbeats 4000000 in
theorem e_WaysOf(t:DTrap)(h:DoorOk t)(p:Int)(lab s):den T 49 [.agg (dV t),i64 p] lab s=some (.sl .no 1 (es cInt (waysS t.chambers.toNat t.gates p)),s):=by
 have hch:=h.ch
 have key:=loop_fold (T:=Go.Proofs.YtbcjofkfgpbhmaaGreat.T) (live:=[1,2,5,6]) (keep:=[32,81,1056]) (b:=d49l0) (List.range t.chambers.toNat) (fun k (a:List Int)=>a.length≤k) (wayAdd t.gates p)
  (fun k a=>[(1,i64 p),(2, .ptr s.length 32 0),(5, .sl (.own s.length 81) 1 (es cInt a)),(6,i64 (k:Nat))]) (fun _ a=>[(32, .cell (dV t)),(81, .tok a.length)]::s)
  (fun a=>(.exit 0,[(1,i64 p),(2, .ptr s.length 32 0),(5, .sl (.own s.length 81) 1 (es cInt a)),(6,i64 t.chambers.toNat),(13, .bool false)],[(32, .cell (dV t)),(81, .tok a.length)]::s))
  (by simp) ?_ ?_ ?_ [] (by simp) [(5, .sl (.own s.length 81) 1 []),(1,i64 p),(2, .ptr s.length 32 0),(5, .sl .full 1 []),(6,i64 0)] ([(32, .cell (dV t)),(81, .tok 0)]::s) (by simp) (by simp)
 ·rw[wayAdd_all]at key
  unfold waysS
  have hc2:t.chambers=((t.chambers.toNat:Nat):Int):=by omega
  generalize (rangeI t.chambers.toNat).filter (wayB t.gates p)=L at*
  change Run T b49l0 _ _=_ at key
  dsimp only
  cases L with
  |nil=>
    rw[den_fn t49 _ _ _ rfl]
    simp only[b49]
    simp (maxSteps:=1000000) (disch:=first|omega|assumption|decide +kernel|(simp;done)|(simp;omega)|fail) [key]<;>rfl
  |cons x L=>
    rw[if_neg (List.cons_ne_nil x L)]
    generalize hE:es cInt (x::L)=E at*
    have hne: ¬(E.length=0):=by rw[←hE];simp[es]
    have hne2: ¬((E.length:Int)=0):=by omega
    rw[den_fn t49 _ _ _ rfl]
    simp only[b49]
    simp (maxSteps:=1000000) (disch:=first|omega|assumption|decide +kernel|(simp;done)|(simp;omega)|fail) [key,hne,hne2]
 ·intro k a hk hi
  simp only[List.length_range]at hk
  simp only[List.getElem_range]
  have hk2:(k:Int)<t.chambers:=by omega
  have hl1:=e_WaysOf_l1 t h p (k:Nat) a s
  have e0:es cInt a ++[[i64 (k:Nat)]]=es cInt (a ++[(k:Int)]):=by simp[es]
  unfold wayAdd
  cases hw:wayB t.gates p (k:Nat)<;>rw[hw]at hl1
  ·simp (maxSteps:=1000000) (disch:=first|omega|assumption|decide +kernel|(simp;done)|(simp;omega)|fail) [hk2,hl1,wk k (by omega)]
  ·simp (maxSteps:=1000000) (disch:=first|omega|assumption|decide +kernel|(simp;done)|(simp;omega)|fail) [hk2,hl1,e0,appK_own1,wk k (by omega)]
 ·intro k a hk hi
  unfold wayAdd
  split<;>(try simp only[List.length_append,List.length_cons,List.length_nil])<;>omega
 ·intro a hi
  simp only[List.length_range]
  have hc2:((t.chambers.toNat:Nat):Int)=t.chambers:=by omega
  simp (maxSteps:=1000000) (disch:=first|omega|assumption|decide +kernel|(simp;done)|(simp;omega)|fail) [hc2]
end Go.Proofs.YtbcjofkfgpbhmaaGreat

/-
  Doors, the reference: Changed, Moved.
-/
namespace Go.Proofs.YtbcjofkfgpbhmaaGreat
open Go.Ab
def flip1(g:DGate):DGate:= {g with op:= !g.op}
def flipAll(c:List Int)(gs:List DGate):List DGate:=c.foldl (fun gs j=>gs.modify j.toNat flip1) gs
theorem flipAll_get: ∀(c:List Int) (gs:List DGate) (i:Nat),c.Pairwise (· < ·)→(∀y∈c,0≤y)→(flipAll c gs)[i]? =(gs[i]?).map fun g=>if (i:Int)∈c then flip1 g else g
 |[],gs,i,_,_=>by simp[flipAll]
 |j::c,gs,i,h,h0=>by
   have ih:=flipAll_get c (gs.modify j.toNat flip1) i (List.pairwise_cons.1 h).2 fun y hy=>h0 y (by simp[hy])
   have hj:=h0 j (by simp)
   have hr:=(List.pairwise_cons.1 h).1
   simp only[flipAll,List.foldl_cons]at ih⊢
   rw[ih,List.getElem?_modify]
   cases hg:gs[i]? with
   |none=>simp
   |some g=>
     by_cases e:j.toNat=i
     ·have e2:(i:Int)=j:=by omega
      have hn: ¬j∈c:=fun hc=>by have:=hr j hc;omega
      simp[e,e2,hn]
     ·have e2: ¬(i:Int)=j:=by omega
      simp[e,e2]
theorem flipAll_eq {c:List Int} {gs:List DGate}(h:c.Pairwise (· < ·))(h0: ∀y∈c,0≤y):flipAll c gs=flipG gs c:=by
 apply List.ext_getElem?
 intro i
 rw[flipAll_get c gs i h h0,flipS_get,Nat.zero_add];rfl
def changedT(t:DTrap)(c:List Int):DTrap:= {t with gates:=flipG t.gates c}
abbrev zeroT:List V:=[i64 0,i64 0,i64 0, .sl .full 3 [], .sl .full 2 []]
@[simp] theorem flipAt_len(gs:List DGate)(j:Nat):(gs.modify j flip1).length=gs.length:=by simp
theorem es_setGate(gs:List DGate)(j:Nat)(hj:j<gs.length)(a b:Int)(o:Bool)(h1:gs[j].a=a)(h2:gs[j].b=b)(h3:gs[j].op=o):(es cGate gs).set j [i64 a,i64 b, .bool (!o)]=es cGate (gs.modify j flip1):=by
 apply List.ext_getElem?
 intro i
 simp only[es,List.getElem?_set,List.getElem?_map,List.getElem?_modify,List.length_map]
 by_cases e:j=i
 ·subst e
  simp[hj,flip1,←h1,←h2,←h3]
 ·simp[e]
abbrev chgF(t:DTrap)(d:Nat)(gs:List DGate)(rs:List DGroup):Ab.Loc:=[(32, .cell (dV t)),(64, .cell zeroT),(144, .arr 3 (es cGate gs)),(1144, .arr 2 (es cGroup rs)),(80, .cell [i64 t.chambers,i64 t.turns,i64 t.hands, .asl d 144 3 t.gates.length 0 t.gates.length, .asl d 1144 2 t.groups.length 0 t.groups.length])]
set_option maxHeartbeats 4000000 in
theorem e_Changed_l(t:DTrap)(hs:ShortD t)(c:List Int)(hc:c.length<1000000000000)(hr: ∀y∈c,0≤y∧y<t.gates.length)(s:Stk):
 Run T b33l0 [(1, .sl .no 1 (es cInt c)),(4, .ptr s.length 64 0),(5, .ptr s.length 80 0),(6,i64 0)] (chgF t s.length t.gates t.groups::s)=
  some (.exit 0,[(1, .sl .no 1 (es cInt c)),(4, .ptr s.length 64 0),(5, .ptr s.length 80 0),(6,i64 c.length),(13, .bool false)],chgF t s.length (flipAll c t.gates) t.groups::s):=by
 have hgl:=hs.gates
 refine loop_fold (T:=Go.Proofs.YtbcjofkfgpbhmaaGreat.T) (live:=[1,4,5,6]) (keep:=[32,64,80,144,1144]) (b:=d33l0) c (fun _ (gs:List DGate)=>gs.length=t.gates.length) (fun gs j=>gs.modify j.toNat flip1)
  (fun k _=>[(1, .sl .no 1 (es cInt c)),(4, .ptr s.length 64 0),(5, .ptr s.length 80 0),(6,i64 (k:Nat))]) (fun _ gs=>chgF t s.length gs t.groups::s)
  (fun gs=>(.exit 0,[(1, .sl .no 1 (es cInt c)),(4, .ptr s.length 64 0),(5, .ptr s.length 80 0),(6,i64 c.length),(13, .bool false)],chgF t s.length gs t.groups::s))
  (by simp) ?_ ?_ ?_ t.gates rfl [(1, .sl .no 1 (es cInt c)),(4, .ptr s.length 64 0),(5, .ptr s.length 80 0),(6,i64 0)] (chgF t s.length t.gates t.groups::s) (by simp) (by simp)
 ·intro k gs hk hi
  obtain⟨h0,h1⟩:=hr c[k] (List.getElem_mem hk)
  obtain⟨j,hj⟩: ∃j:Nat,c[k]=j:=⟨c[k].toNat,by omega⟩
  have hjl:j<gs.length:=by omega
  have hjl2:j<t.gates.length:=by omega
  have hjt:(c[k]).toNat=j:=by omega
  rw[hjt]
  have hset:=es_setGate gs j hjl gs[j].a gs[j].b gs[j].op rfl rfl rfl
  generalize hG:gs[j]=G at*
  generalize gs.modify j flip1=gs' at*
  have hjl3:(j:Int)<t.gates.length:=by omega
  cases ho:G.op<;>simp only[ho,Bool.not_false,Bool.not_true]at hset
  ·simp (maxSteps:=1000000) (disch:=first|omega|assumption|decide +kernel|(simp;done)|(simp;omega)|fail) [run_drawnK,orSlow_none,hk,hj,hjl,hjl2,hjl3,hi,hG,ho,hset,wk k (by omega)]
  ·simp (maxSteps:=1000000) (disch:=first|omega|assumption|decide +kernel|(simp;done)|(simp;omega)|fail) [run_drawnK,orSlow_none,hk,hj,hjl,hjl2,hjl3,hi,hG,ho,hset,wk k (by omega)]
 ·intro k gs hk hi
  simp[hi]
 ·intro gs hi
  simp
end Go.Proofs.YtbcjofkfgpbhmaaGreat

/-
  Doors, the reference: Changed, Moved, AreMoves; isTurn, behind.
-/
namespace Go.Proofs.YtbcjofkfgpbhmaaGreat
open Go.Ab
theorem flipAll_len(c:List Int): ∀gs,(flipAll c gs).length=gs.length:=by
 induction c with
 |nil=>intro gs;rfl
 |cons j c ih=>intro gs;simp only[flipAll,List.foldl_cons]at ih⊢;rw[ih];simp
set_option maxHeartbeats 4000000 in
theorem e_Changed(t:DTrap)(hs:ShortD t)(c:List Int)(hc:c.length<1000000000000)(hr: ∀y∈c,0≤y∧y<t.gates.length)(hp:c.Pairwise (· < ·))(lab s):
 den T 33 [.agg (dV t), .sl .no 1 (es cInt c)] lab s=some (.agg (dV (changedT t c)),s):=by
 have hcp:=fun lab loc s k0 k1=>e_CopyD t hs lab loc s k0 k1
 have hl:=e_Changed_l t hs c hc hr s
 have hlen:=flipAll_len c t.gates
 rw[flipAll_eq hp fun y hy=>(hr y hy).1]at hl hlen
 unfold changedT
 generalize flipG t.gates c=gs at*
 have htk:gs.take t.gates.length=gs:=List.take_of_length_le (by omega)
 rw[den_fn t33 _ _ _ rfl]
 simp only[b33]
 simp (maxSteps:=1000000) (disch:=first|omega|assumption|decide +kernel|(simp;done)|(simp;omega)|fail) [hcp,hl,hlen,htk]
def movedG(m:List Int):Nat→List DGroup→List DGroup
 |_,[]=>[]
 |i,g::r=>(if i<m.length then {g with pos:=m.getD i 0}else g)::movedG m (i+1) r
theorem movedG_get(m:List Int): ∀(i:Nat) (gs:List DGroup) (j:Nat),(movedG m i gs)[j]? =(gs[j]?).map fun g=>if i+j<m.length then {g with pos:=m.getD (i+j) 0}else g
 |_,[],j=>by simp[movedG]
 |i,g::r,0=>by simp[movedG]
 |i,g::r,j+1=>by
   simp only[movedG,List.getElem?_cons_succ,movedG_get m (i+1) r j]
   rw[show i+1+j=i+(j+1)by omega]
@[simp] theorem movedG_len(m:List Int): ∀(i:Nat) (gs:List DGroup),(movedG m i gs).length=gs.length
 |_,[]=>rfl
 |i,g::r=>by simp[movedG,movedG_len m (i+1) r]
def movedT(t:DTrap)(m:List Int):DTrap:= {t with turns:=t.turns-1,groups:=movedG m 0 t.groups}
def moveStep(m:List Int)(gs:List DGroup)(k:Nat):List DGroup:=gs.modify k fun g=> {g with pos:=m.getD k 0}
theorem moveStep_all(m:List Int)(gs:List DGroup):(List.range m.length).foldl (moveStep m) gs=movedG m 0 gs:=by
 have key: ∀n,n≤m.length→ ∀i:Nat,((List.range n).foldl (moveStep m) gs)[i]? =(gs[i]?).map fun g=>if i<n then {g with pos:=m.getD i 0}else g:=by
  intro n
  induction n with
  |zero=>intro _ i;simp
  |succ n ih=>
    intro hn i
    rw[List.range_succ,List.foldl_append]
    simp only[List.foldl_cons,List.foldl_nil]
    unfold moveStep
    rw[List.getElem?_modify]
    have:=ih (by omega) i
    unfold moveStep at this
    rw[this]
    cases hg:gs[i]? with
    |none=>simp
    |some g=>
      by_cases e:n=i
      ·subst e;simp
      ·by_cases h1:i<n
       ·simp[e,h1,show i<n+1 by omega]
       ·simp[e,h1,show¬i<n+1 by omega]
 apply List.ext_getElem?
 intro i
 rw[key m.length (Nat.le_refl _) i,movedG_get]
 simp
theorem es_setGroup(gs:List DGroup)(j:Nat)(hj:j<gs.length)(a f:Int)(h2:gs[j].fish=f)(m:List Int)(ha:m.getD j 0=a):(es cGroup gs).set j [i64 a,i64 f]=es cGroup (moveStep m gs j):=by
 apply List.ext_getElem?
 intro i
 simp only[es,moveStep,List.getElem?_set,List.getElem?_map,List.getElem?_modify,List.length_map]
 by_cases e:j=i
 ·subst e
  subst h2 ha
  simp[hj]
 ·simp[e]
theorem moveStep_len(m gs k):(moveStep m gs k).length=gs.length:=by simp[moveStep]
set_option maxHeartbeats 4000000 in
theorem e_Moved_l(t:DTrap)(hs:ShortD t)(m:List Int)(hm:m.length=t.groups.length)(s:Stk):
 Run T b50l0 [(1, .sl .no 1 (es cInt m)),(4, .ptr s.length 64 0),(5, .ptr s.length 80 0),(6,i64 0)] (chgF t s.length t.gates t.groups::s)=
  some (.exit 0,[(1, .sl .no 1 (es cInt m)),(4, .ptr s.length 64 0),(5, .ptr s.length 80 0),(6,i64 m.length),(13, .bool false)],chgF t s.length t.gates (movedG m 0 t.groups)::s):=by
 have hgl:=hs.groups
 have key:=loop_fold (T:=Go.Proofs.YtbcjofkfgpbhmaaGreat.T) (live:=[1,4,5,6]) (keep:=[32,64,80,144,1144]) (b:=d50l0) (List.range m.length) (fun _ (gs:List DGroup)=>gs.length=t.groups.length) (moveStep m)
  (fun k _=>[(1, .sl .no 1 (es cInt m)),(4, .ptr s.length 64 0),(5, .ptr s.length 80 0),(6,i64 (k:Nat))]) (fun _ gs=>chgF t s.length t.gates gs::s)
  (fun gs=>(.exit 0,[(1, .sl .no 1 (es cInt m)),(4, .ptr s.length 64 0),(5, .ptr s.length 80 0),(6,i64 m.length),(13, .bool false)],chgF t s.length t.gates gs::s))
  (by simp) ?_ ?_ ?_ t.groups rfl [(1, .sl .no 1 (es cInt m)),(4, .ptr s.length 64 0),(5, .ptr s.length 80 0),(6,i64 0)] (chgF t s.length t.gates t.groups::s) (by simp) (by simp)
 ·rw[moveStep_all]at key
  exact key
 ·intro k gs hk hi
  simp only[List.length_range]at hk
  simp only[List.getElem_range]
  have hkl:k<gs.length:=by omega
  have hkg:k<t.groups.length:=by omega
  have hkm:(k:Int)<t.groups.length:=by omega
  have hg:m.getD k 0=m[k]:=by simp[List.getD,hk]
  have hset:=es_setGroup gs k hkl m[k] gs[k].fish rfl m hg
  generalize hG:gs[k]=G at*
  generalize hx:m[k]=x at*
  generalize moveStep m gs k=gs' at*
  simp (maxSteps:=1000000) (disch:=first|omega|assumption|decide +kernel|(simp;done)|(simp;omega)|fail) [run_drawnK,orSlow_none,hk,hkl,hkg,hkm,hi,hG,hx,hset,wk k (by omega)]
 ·intro k gs hk hi
  rw[moveStep_len,hi]
 ·intro gs hi
  simp
set_option maxHeartbeats 4000000 in
theorem e_Moved(t:DTrap)(hs:ShortD t)(hT:0<t.turns∧t.turns≤4)(m:List Int)(hm:m.length=t.groups.length)(lab s):
 den T 50 [.agg (dV t), .sl .no 1 (es cInt m)] lab s=some (.agg (dV (movedT t m)),s):=by
 have hcp:=fun lab loc s k0 k1=>e_CopyD t hs lab loc s k0 k1
 have hl:=e_Moved_l t hs m hm s
 have hlen:=movedG_len m 0 t.groups
 have hw:IntKind.i64.wrap (t.turns-1)=t.turns-1:=wi _ (by omega) (by omega)
 unfold movedT
 generalize movedG m 0 t.groups=gs at*
 have htk:gs.take t.groups.length=gs:=List.take_of_length_le (by omega)
 rw[den_fn t50 _ _ _ rfl]
 simp only[b50]
 simp (maxSteps:=1000000) (disch:=first|omega|assumption|decide +kernel|(simp;done)|(simp;omega)|fail) [hcp,hl,hlen,hw,htk]
end Go.Proofs.YtbcjofkfgpbhmaaGreat

/-
  Doors, the law's helpers: isTurn, behind; the chapter's examples.
-/
namespace Go.Proofs.YtbcjofkfgpbhmaaGreat
open Go.Ab
theorem changed_ok {t:DTrap}(h:DoorOk t)(c:List Int):DoorOk (changedT t c) where
 ch:=h.ch
 tu:=h.tu
 ha:=h.ha
 gl:=by simpa [changedT]using h.gl
 ol:=h.ol
 gates:=fun g hg=>by
  obtain⟨i,hi,rfl⟩:=List.getElem_of_mem hg
  have hi2:i<t.gates.length:=by simpa [changedT]using hi
  have:=flipS_get c 0 t.gates i
  rw[List.getElem?_eq_getElem (by simpa [changedT]using hi),List.getElem?_eq_getElem hi2]at this
  simp only[Option.map_some,Option.some.injEq]at this
  have hg:=h.gates _ (List.getElem_mem hi2)
  have e:(changedT t c).gates[i]=(if ((0+i:Nat):Int)∈c then {t.gates[i]with op:= !t.gates[i].op}else t.gates[i]):=this
  have e2:(changedT t c).chambers=t.chambers:=rfl
  rw[e,e2]
  split<;>exact hg
 groups:=h.groups
theorem posL_moved {t:DTrap} {m:List Int}(hm:m.length=t.groups.length):posL (movedT t m)=m:=by
 apply List.ext_getElem?
 intro i
 simp only[posL,movedT,List.getElem?_map,movedG_get,Nat.zero_add]
 by_cases hi:i<m.length
 ·rw[List.getElem?_eq_getElem (show i<t.groups.length by omega)]
  simp[hi,List.getD]
 ·rw[List.getElem?_eq_none (show t.groups.length≤i by omega),List.getElem?_eq_none (show m.length≤i by omega)];rfl
theorem fishL_moved(t:DTrap)(m:List Int):fishL (movedT t m)=fishL t:=by
 apply List.ext_getElem?
 intro i
 simp only[fishL,movedT,List.getElem?_map,movedG_get,Nat.zero_add]
 cases t.groups[i]? with
 |none=>rfl
 |some g=>
   simp only[Option.map_some]
   split<;>rfl
theorem moved_ok {t:DTrap}(h:DoorOk t)(hT:0<t.turns) {m:List Int}(hm:m∈movesS ((posL t).map (waysS t.chambers.toNat t.gates))):DoorOk (movedT t m) where
 ch:=h.ch
 tu:=by have:=h.tu;simp only[movedT];omega
 ha:=h.ha
 gl:=h.gl
 ol:=by simpa [movedT]using h.ol
 gates:=h.gates
 groups:=fun g hg=>by
  obtain⟨i,hi,rfl⟩:=List.getElem_of_mem hg
  have hi2:i<t.groups.length:=by simpa [movedT]using hi
  obtain⟨h1,h2⟩:=mem_moves.1 hm
  have hl:m.length=t.groups.length:=by simpa [posL]using h1
  have:=movedG_get m 0 t.groups i
  rw[List.getElem?_eq_getElem (by simpa using hi2),List.getElem?_eq_getElem hi2]at this
  simp only[Option.map_some,Option.some.injEq,Nat.zero_add,show i<m.length by omega,if_true]at this
  have hgi:=h.groups _ (List.getElem_mem hi2)
  have hw:=h2 i m[i] t.groups[i].pos (List.getElem?_eq_getElem (by omega)) (by simp[posL,hi2])
  have hr:=waysS_range (by have:=h.ch;omega) hw
  have e:(movedT t m).groups[i]= {t.groups[i]with pos:=m.getD i 0}:=this
  have e2:(movedT t m).chambers=t.chambers:=rfl
  have e3:m.getD i 0=m[i]:=by simp[List.getD,show i<m.length by omega]
  rw[e,e2,e3]
  have:=h.ch
  exact⟨by simp only;omega,hgi.2⟩
def behindT(t:DTrap)(c m:List Int):DTrap:=movedT (changedT t c) m
theorem movesT_len {t:DTrap} {c m:List Int}(hm:m∈movesT t c):m.length=t.groups.length:=by have:=(mem_moves.1 hm).1;simpa [posL]using this
theorem worth_behind {t:DTrap} {c m:List Int}(hm:m∈movesT t c)(k:Nat):worthT (behindT t c m) k=worthS t.chambers.toNat t.hands.toNat (fishL t) k (flipG t.gates c) m:=by
 unfold worthT behindT
 rw[posL_moved (t:=changedT t c) (show m.length=(changedT t c).groups.length from movesT_len (t:=t) (c:=c) hm),fishL_moved];rfl
def exT:DTrap:=⟨3,2,1,[⟨0,1,true⟩,⟨1,2,false⟩],[⟨0,10⟩,⟨1,7⟩]⟩
def exO:DTrap:=changedT exT [0]
theorem ex_ok:doorB exT=true:=by decide
set_option maxHeartbeats 2000000 in
theorem e_ExampleD(lab s):den T 14 [] lab s=some (.tup [.agg (dV exT), .agg (dV exO)],s):=by
 have hr: ∀y∈([0]:List Int),0≤y∧y<exT.gates.length:=by decide
 have h2:=fun lab s=>e_Changed exT (doorB_short ex_ok) [0] (by decide) hr (by decide) lab s
 change∀lab s,den T _ [.agg [i64 3,i64 2,i64 1, .sl .no 3 [[i64 0,i64 1, .bool true],[i64 1,i64 2, .bool false]], .sl .no 2 [[i64 0,i64 10],[i64 1,i64 7]]], .sl .no 1 [[i64 0]]] lab s=some (.agg [i64 3,i64 2,i64 1, .sl .no 3 [[i64 0,i64 1, .bool false],[i64 1,i64 2, .bool false]], .sl .no 2 [[i64 0,i64 10],[i64 1,i64 7]]],s)at h2
 change _=some (V.tup [.agg [i64 3,i64 2,i64 1, .sl .no 3 [[i64 0,i64 1, .bool true],[i64 1,i64 2, .bool false]], .sl .no 2 [[i64 0,i64 10],[i64 1,i64 7]]], .agg [i64 3,i64 2,i64 1, .sl .no 3 [[i64 0,i64 1, .bool false],[i64 1,i64 2, .bool false]], .sl .no 2 [[i64 0,i64 10],[i64 1,i64 7]]]],s)
 rw[den_fn t14 _ _ _ rfl]
 simp only[b14]
 simp (maxSteps:=1000000) (disch:=first|omega|assumption|decide +kernel|(simp;done)|(simp;omega)|fail) [run_drawnK,orSlow_none,h2]
end Go.Proofs.YtbcjofkfgpbhmaaGreat

/-
  Doors: the chapter's examples, by the program.
-/
namespace Go.Proofs.YtbcjofkfgpbhmaaGreat
open Go.Ab
theorem ex_worth:worthR exT=(10,0):=by decide +kernel
theorem ex_plan:planR exT=([1],0):=by decide +kernel
theorem ex_after:afterR exT [0]=(7,0):=by decide +kernel
theorem ex_reply:replyR exT [1]=([1,0],0):=by decide +kernel
theorem ex_catch:catchR exT 1=(1,0):=by decide +kernel
theorem ex_worthO:worthR exO=(7,0):=by decide +kernel
theorem exO_ok:doorB exO=true:=by decide +kernel
set_option maxHeartbeats 2000000 in
theorem e_worksD(lab s):den T 5 [] lab s=some (.bool true,s):=by
 have hs:=doorB_short ex_ok
 have hs2:=doorB_short exO_ok
 have h1:=fun lab s=>e_Worth exT hs lab s
 have h2:=fun lab s=>e_Plan exT hs lab s
 have h3:=fun lab s=>e_After exT hs [0] (by decide) lab s
 have h4:=fun lab s=>e_Reply exT hs [1] (by decide) lab s
 have h5:=fun lab s=>e_Catch exT hs 1 lab s
 have h6:=fun lab s=>e_Worth exO hs2 lab s
 have h0:=fun lab s=>e_ExampleD lab s
 rw[ex_worth]at h1
 rw[ex_plan]at h2
 rw[ex_after]at h3
 rw[ex_reply]at h4
 rw[ex_catch]at h5
 rw[ex_worthO]at h6
 have hs1:=fun lab s=>e_Same2 [1] [1] (by decide) (by decide) lab s
 have hs2:=fun lab s=>e_Same2 [1,0] [1,0] (by decide) (by decide) lab s
 have eA:dV exT=[i64 3,i64 2,i64 1, .sl .no 3 [[i64 0,i64 1, .bool true],[i64 1,i64 2, .bool false]], .sl .no 2 [[i64 0,i64 10],[i64 1,i64 7]]]:=rfl
 have eB:dV exO=[i64 3,i64 2,i64 1, .sl .no 3 [[i64 0,i64 1, .bool false],[i64 1,i64 2, .bool false]], .sl .no 2 [[i64 0,i64 10],[i64 1,i64 7]]]:=rfl
 have c1:es cInt [1]=[[i64 1]]:=rfl
 have c2:es cInt [0]=[[i64 0]]:=rfl
 have c3:es cInt [1,0]=[[i64 1],[i64 0]]:=rfl
 rw[eA]at h1 h2 h3 h4 h5 h0
 rw[eB]at h6 h0
 simp only[c1,c2,c3]at h2 h3 h4 hs1 hs2
 rw[den_fn t5 _ _ _ rfl]
 simp only[b5]
 simp (maxSteps:=1000000) (disch:=first|omega|assumption|decide +kernel|(simp;done)|(simp;omega)|fail) [h0,h1,h2,h3,h4,h5,h6,hs1,hs2]
end Go.Proofs.YtbcjofkfgpbhmaaGreat

/-
  Doors: Turns.
-/
namespace Go.Proofs.YtbcjofkfgpbhmaaGreat
open Go.Ab
end Go.Proofs.YtbcjofkfgpbhmaaGreat

/-
  DoorsBest: its equation.
-/
namespace Go.Proofs.YtbcjofkfgpbhmaaGreat
open Go.Ab
end Go.Proofs.YtbcjofkfgpbhmaaGreat

/-
  DoorsOne: the plain law.
-/
namespace Go.Proofs.YtbcjofkfgpbhmaaGreat
open Go.Ab
def aloneW(t:DTrap)(k:Nat)(gs:List DGate)(p:Int):Int:=worthS t.chambers.toNat t.hands.toNat [1] k gs [p]
def aloneC(t:DTrap)(k:Nat)(gs:List DGate)(p:Int):Bool:=canG t.chambers.toNat t.hands.toNat [1] k gs [p]
theorem catchV_eq(t:DTrap)(p:Int):catchV t p=if aloneW t t.turns.toNat t.gates p=1 then 1 else if aloneC t t.turns.toNat t.gates p=false then 2 else 3:=by
 unfold catchV wO cO aloneW aloneC
 have e1:(oneN p).take (aloneT t).groups.length=[p]:=rfl
 have e2:openG (gN t) (aloneT t).gates=t.gates:=openG_bits t.gates
 have e3:fishL (aloneT t)=[1]:=rfl
 rw[e1,e2,e3];rfl
theorem aloneW_range(t:DTrap)(k gs p):0≤aloneW t k gs p∧aloneW t k gs p≤1:=by
 have h1:=worthS_nonneg (n:=t.chambers.toNat) (h:=t.hands.toNat) (fs:=[1]) (by simp) k gs [p]
 have h2:=worthS_le (n:=t.chambers.toNat) (h:=t.hands.toNat) (fs:=[1]) (by simp) k gs [p]
 unfold aloneW
 simp only[sumF,List.foldr_cons,List.foldr_nil]at h2
 omega
end Go.Proofs.YtbcjofkfgpbhmaaGreat

/-
  Doors, the plain law: the blind headman.
-/
namespace Go.Proofs.YtbcjofkfgpbhmaaGreat
def reachS(n:Nat)(gs:List DGate)(S:List Int):List Int:=(rangeI n).filter fun c=>S.any fun p=>decide (c∈waysS n gs p)
def caughtB(n:Nat):List Int→List (List Int)→Int
 |f::fs,S::r=>(if S=[(n:Int)-1]then f else 0)+caughtB n fs r
 |_,_=>0
def blindS(n h:Nat)(fs:List Int):Nat→List DGate→List (List Int)→Int
 |0,_,l=>caughtB n fs l
 |k+1,gs,l=>maxL ((choicesS h gs.length).map fun c=>blindS n h fs k (flipG gs c) (l.map (reachS n (flipG gs c))))
theorem caughtB_nonneg(n:Nat): ∀ {fs:List Int} {l:List (List Int)},(∀f∈fs,0≤f)→0≤caughtB n fs l
 |[],_,_=>by simp[caughtB]
 |f::fs,[],_=>by simp[caughtB]
 |f::fs,S::r,h=>by
   have h1:=caughtB_nonneg n (fs:=fs) (l:=r) fun x hx=>h x (by simp[hx])
   have h2:=h f (by simp)
   simp only[caughtB];split<;>omega
theorem blindS_nonneg {n h:Nat} {fs:List Int}(hf: ∀f∈fs,0≤f): ∀(k:Nat) (gs:List DGate) (l:List (List Int)),0≤blindS n h fs k gs l
 |0,_,_=>caughtB_nonneg n hf
 |k+1,_,_=>maxL_nonneg _
theorem mem_reachS {n:Nat} {gs:List DGate} {S:List Int} {c:Int}:c∈reachS n gs S↔(0≤c∧c<n)∧ ∃p∈S,c∈waysS n gs p:=by
 simp only[reachS,List.mem_filter,mem_rangeI,List.any_eq_true,decide_eq_true_eq]
end Go.Proofs.YtbcjofkfgpbhmaaGreat

/-
  Doors, the plain law: the blind headman with one turn, or none.
-/
namespace Go.Proofs.YtbcjofkfgpbhmaaGreat
def singles(ps:List Int):List (List Int):=ps.map fun p=>[p]
theorem reach_sorted(n:Nat)(gs:List DGate)(S:List Int):(reachS n gs S).Pairwise (· < ·):=by
 unfold reachS
 refine List.Pairwise.filter _ ?_
 simp only[rangeI,List.pairwise_map]
 exact List.pairwise_lt_range.imp (fun h=>by omega)
end Go.Proofs.YtbcjofkfgpbhmaaGreat

/-
  Doors, the plain law: other numbers.
-/
namespace Go.Proofs.YtbcjofkfgpbhmaaGreat
end Go.Proofs.YtbcjofkfgpbhmaaGreat

/-
  Doors: chambers as bits; the blind headman (plain).
-/
namespace Go.Proofs.YtbcjofkfgpbhmaaGreat
open Go.Ab
theorem sorted_int: ∀ {l l':List Int},l.Pairwise (· < ·)→l'.Pairwise (· < ·)→(∀x,x∈l↔x∈l')→l=l'
 |[],[],_,_,_=>rfl
 |[],y::l',_,_,h=>by have:=(h y).2 (by simp);simp at this
 |x::l,[],_,_,h=>by have:=(h x).1 (by simp);simp at this
 |x::l,y::l',h1,h2,h=>by
   rw[List.pairwise_cons]at h1 h2
   have e:x=y:=by
    rcases List.mem_cons.1 ((h x).1 (by simp))with e|hx
    ·exact e
    ·rcases List.mem_cons.1 ((h y).2 (by simp))with e|hy
     ·exact e.symm
     ·have:=h1.1 y hy
      have:=h2.1 x hx
      omega
   subst e
   refine congrArg (x:: ·) (sorted_int h1.2 h2.2 fun z=>⟨fun hz=> ?_,fun hz=> ?_⟩)
   ·rcases List.mem_cons.1 ((h z).1 (List.mem_cons_of_mem _ hz))with e|hz'
    ·subst e;exact absurd (h1.1 z hz) (Int.lt_irrefl z)
    ·exact hz'
   ·rcases List.mem_cons.1 ((h z).2 (List.mem_cons_of_mem _ hz))with e|hz'
    ·subst e;exact absurd (h2.1 z hz) (Int.lt_irrefl z)
    ·exact hz'
def orW(a:Nat)(x:Int):Nat:=orN a (powN x.toNat)
def wayBits(n:Nat)(gs:List DGate)(a:Nat)(p:Int):Nat:=(waysS n gs p).foldl orW a
def nextB(n:Nat)(gs:List DGate)(b:Nat):Nat:=(bitsL b).foldl (wayBits n gs) 0
theorem orW_bit(a:Nat)(x:Int)(i:Nat):(orW a x).testBit i=(a.testBit i||decide (x.toNat=i)):=by
 unfold orW orN powN
 rw[Nat.testBit_or,Nat.testBit_two_pow]
theorem wayBits_bit(n:Nat)(gs:List DGate)(a:Nat)(p:Int)(i:Nat):(wayBits n gs a p).testBit i=true↔a.testBit i=true∨ ∃x∈waysS n gs p,x.toNat=i:=by
 unfold wayBits
 generalize waysS n gs p=l
 induction l generalizing a with
 |nil=>simp
 |cons x l ih=>
   rw[List.foldl_cons,ih,orW_bit]
   simp only[Bool.or_eq_true,decide_eq_true_eq,List.mem_cons,exists_eq_or_imp,or_assoc]
theorem foldW_bit(n:Nat)(gs:List DGate)(l:List Int)(a i:Nat):(l.foldl (wayBits n gs) a).testBit i=true↔a.testBit i=true∨ ∃p∈l,∃x∈waysS n gs p,x.toNat=i:=by
 induction l generalizing a with
 |nil=>simp
 |cons p l ih=>
   rw[List.foldl_cons,ih,wayBits_bit]
   simp only[List.mem_cons,exists_eq_or_imp,or_assoc]
theorem mem_bits {g:Nat} {x:Int}:x∈bitsL g↔(0≤x∧x<5)∧g.testBit x.toNat=true:=by
 constructor
 ·intro h
  obtain⟨i,hi,rfl⟩: ∃i:Nat,(i<5∧g.testBit i=true)∧(i:Int)=x:=by
   simp only[bitsL,List.mem_map,List.mem_filter,List.mem_range]at h
   exact h
  exact⟨by omega,by simpa using hi.2⟩
 ·rintro⟨h1,h2⟩
  have:=(mem_bitsL (g:=g) (i:=x.toNat)).2 ⟨by omega,h2⟩
  rwa [show((x.toNat:Nat):Int)=x by omega]at this
theorem bit_lt {n g i:Nat}(hg:g<2^n)(h:g.testBit i=true):i<n:=by
 apply Classical.byContradiction
 intro hn
 have h1:=Nat.ge_two_pow_of_testBit h
 have h2:2^n≤2^i:=Nat.pow_le_pow_right (by decide) (by omega)
 omega
theorem bits_lt {n g:Nat}(hg:g<2^n) {x:Int}(h:x∈bitsL g):0≤x∧x<n:=by
 obtain⟨h1,h2⟩:=mem_bits.1 h
 have:=bit_lt hg h2
 omega
theorem bitsL_sorted(g:Nat):(bitsL g).Pairwise (· < ·):=by
 unfold bitsL
 rw[List.pairwise_map]
 exact(List.pairwise_lt_range.filter _).imp fun h=>by omega
theorem next_lt {n:Nat} {gs:List DGate} {b:Nat}(hb:b<2^n):nextB n gs b<2^n:=by
 apply Nat.lt_pow_two_of_testBit
 intro i hi
 cases h:(nextB n gs b).testBit i
 ·rfl
 ·rcases (foldW_bit n gs _ 0 i).1 h with h0|⟨p,hp,x,hx,e⟩
  ·simp at h0
  ·have:=waysS_range (bits_lt hb hp) hx
   omega
theorem next_bits {n:Nat} {gs:List DGate} {b:Nat}(hn:n≤4)(hb:b<2^n):bitsL (nextB n gs b)=reachS n gs (bitsL b):=by
 refine sorted_int (bitsL_sorted _) (reach_sorted _ _ _) fun x=> ?_
 rw[mem_reachS,mem_bits]
 unfold nextB
 rw[foldW_bit]
 constructor
 ·rintro⟨h1,h2|⟨p,hp,y,hy,e⟩⟩
  ·simp at h2
  ·have hr:=waysS_range (bits_lt hb hp) hy
   have:y=x:=by omega
   subst this
   exact⟨hr,p,hp,hy⟩
 ·rintro⟨h1,p,hp,hy⟩
  exact⟨by omega, .inr ⟨p,hp,x,hy,rfl⟩⟩
theorem bits_last {n b:Nat}(h1:1≤n)(h4:n≤4)(hb:b<2^n):bitsL b=[(n:Int)-1]↔b=powN (n-1):=by
 have e:bitsL (powN (n-1))=[(n:Int)-1]:=by
  obtain rfl|rfl|rfl|rfl:n=1∨n=2∨n=3∨n=4:=by omega
  all_goals decide
 have hp:(2:Nat)^n≤2^5:=Nat.pow_le_pow_right (by decide) (by omega)
 have hq:powN (n-1)<2^5:=by unfold powN;exact Nat.pow_lt_pow_right (by decide) (by omega)
 constructor
 ·intro h
  exact bits_inj (by omega) (by omega) (by rw[h,e])
 ·rintro rfl;exact e
theorem bits_single {p:Int}(hp:0≤p∧p<4):bitsL (powN p.toNat)=[p]:=by
 obtain⟨k,rfl⟩: ∃k:Nat,p=k:=⟨p.toNat,by omega⟩
 obtain rfl|rfl|rfl|rfl:k=0∨k=1∨k=2∨k=3:=by omega
 all_goals decide
def blO(t:DTrap)(k o:Nat)(bs:List Nat):Int:=blindS t.chambers.toNat t.hands.toNat (fishL t) k (openG o t.gates) ((bs.take t.groups.length).map bitsL)
def nxL(t:DTrap)(o:Nat)(bs:List Nat):List Nat:=(bs.take t.groups.length).map (nextB t.chambers.toNat (openG o t.gates)) ++List.replicate (3-t.groups.length) 0
structure InB(t:DTrap)(bs:List Nat):Prop where
 len:bs.length=3
 lt: ∀b∈bs,b<2^t.chambers.toNat
theorem nx_in {t:DTrap}(h:DoorOk t) {bs:List Nat}(hb:InB t bs)(o:Nat):InB t (nxL t o bs):=by
 have hl:=hb.len
 have hol:=h.ol
 refine⟨by simp only[nxL,List.length_append,List.length_map,List.length_take,List.length_replicate];omega,fun b hm=> ?_⟩
 simp only[nxL,List.mem_append,List.mem_map,List.mem_replicate]at hm
 rcases hm with ⟨x,hx,rfl⟩|⟨_,rfl⟩
 ·exact next_lt (hb.lt x (List.mem_of_mem_take hx))
 ·exact Nat.pow_pos (by decide)
theorem nx_bits {t:DTrap}(h:DoorOk t) {bs:List Nat}(hb:InB t bs)(o:Nat):((nxL t o bs).take t.groups.length).map bitsL=((bs.take t.groups.length).map bitsL).map (reachS t.chambers.toNat (openG o t.gates)):=by
 have hl:=hb.len
 have hol:=h.ol
 have hch:=h.ch
 unfold nxL
 rw[List.take_append_of_le_length (by simp;omega),List.take_of_length_le (by simp;omega),List.map_map,List.map_map]
 exact List.map_congr_left fun b hm=>next_bits (by omega) (hb.lt b (List.mem_of_mem_take hm))
theorem blO_succ {t:DTrap}(h:DoorOk t)(k o:Nat) {bs:List Nat}(hb:InB t bs):blO t (k+1) o bs=((cN t).map fun c=>blO t k (xorN o c) (nxL t (xorN o c) bs)).foldl max 0:=by
 rw[maxL_fold _ _ (by omega),Int.max_eq_right (maxL_nonneg _)]
 unfold blO
 rw[blindS,openS_length]
 simp only[cN,changesB,List.map_map]
 congr 1
 apply List.map_congr_left
 intro c hc
 simp only[Function.comp]
 rw[nx_bits h hb,open_flip h.gl o (choices_up (by have:=h.gl;omega) hc),List.map_map]
 try rw[List.map_map]
theorem caughtB_le_sum(n:Nat): ∀ {fs:List Int} {l:List (List Int)},(∀f∈fs,0≤f)→caughtB n fs l≤sumF fs
 |[],_,_=>by simp[caughtB,sumF]
 |f::fs,[],h=>by
   have h1:=caughtB_le_sum n (fs:=fs) (l:=[]) fun x hx=>h x (by simp[hx])
   have h2:=h f (by simp)
   have h3:=caughtB_nonneg n (fs:=fs) (l:=[]) fun x hx=>h x (by simp[hx])
   simp only[caughtB,sumF,List.foldr_cons]at*;omega
 |f::fs,S::r,h=>by
   have h1:=caughtB_le_sum n (fs:=fs) (l:=r) fun x hx=>h x (by simp[hx])
   have h2:=h f (by simp)
   simp only[caughtB,sumF,List.foldr_cons]at*;split<;>omega
theorem blindS_le {n h:Nat} {fs:List Int}(hf: ∀f∈fs,0≤f): ∀(k:Nat) (gs:List DGate) (l:List (List Int)),blindS n h fs k gs l≤sumF fs
 |0,_,_=>caughtB_le_sum n hf
 |k+1,gs,l=>by
   have h0:0≤sumF fs:=by have:=caughtB_le_sum n (l:=[]) hf;have:=caughtB_nonneg n (l:=[]) hf;omega
   refine maxL_le h0 fun x hx=> ?_
   obtain⟨c,_,rfl⟩:=List.mem_map.1 hx
   exact blindS_le hf k _ _
theorem sum_fish {t:DTrap}(h:DoorOk t):sumF (fishL t)≤297:=by
 have key: ∀l:List Int,(∀f∈l,0≤f∧f≤99)→sumF l≤99*l.length:=by
  intro l
  induction l with
  |nil=>intro _;simp[sumF]
  |cons x r ih=>
    intro hh
    have:=ih fun f hf=>hh f (by simp[hf])
    have:=hh x (by simp)
    simp only[sumF,List.foldr_cons,List.length_cons]at*
    omega
 have h5:=key (fishL t) fun f hf=>by
  obtain⟨g,hg,rfl⟩:=List.mem_map.1 hf
  exact(h.groups g hg).2
 have h4:(fishL t).length≤3:=by simpa [fishL]using h.ol
 omega
theorem fish_pos {t:DTrap}(h:DoorOk t): ∀f∈fishL t,0≤f:=fun f hf=>by
 obtain⟨g,hg,rfl⟩:=List.mem_map.1 hf
 exact(h.groups g hg).2.1
theorem blO_range {t:DTrap}(h:DoorOk t)(k o bs):0≤blO t k o bs∧blO t k o bs≤297:=
 ⟨blindS_nonneg (fish_pos h) _ _ _,Int.le_trans (blindS_le (fish_pos h) _ _ _) (sum_fish h)⟩
theorem set_fold {α:Type}(f:Nat→α→Nat)(i:Nat): ∀(l:List α) (nx:List Nat),i<nx.length→l.foldl (fun nx x=>nx.set i (f (nx.getD i 0) x)) nx=nx.set i (l.foldl f (nx.getD i 0))
 |[],nx,h=>by
   apply List.ext_getElem?
   intro j
   simp only[List.foldl_nil,List.getElem?_set]
   by_cases e:i=j
   ·subst e;simp[h]
   ·simp[e]
 |x::l,nx,h=>by
   rw[List.foldl_cons,List.foldl_cons,set_fold f i l _ (by simpa using h)]
   have e:(nx.set i (f (nx.getD i 0) x)).getD i 0=f (nx.getD i 0) x:=by simp[List.getD,h]
   rw[e,List.set_set]
def nxStep(t:DTrap)(o:Nat)(bs nx:List Nat)(i:Nat):List Nat:=nx.set i ((bitsL (bs.getD i 0)).foldl (wayBits t.chambers.toNat (openG o t.gates)) (nx.getD i 0))
theorem nx_fold {t:DTrap}(h:DoorOk t)(o:Nat) {bs:List Nat}(hb:InB t bs):(List.range t.groups.length).foldl (nxStep t o bs) [0,0,0]=nxL t o bs:=by
 have hol:=h.ol
 have hl:=hb.len
 match bs,hl with
 |[b0,b1,b2],_=>
   unfold nxL
   obtain e|e|e|e:t.groups.length=0∨t.groups.length=1∨t.groups.length=2∨t.groups.length=3:=by omega
   all_goals
    rw[e]
    simp[nxStep,nextB,List.range_succ,List.range_zero,List.replicate]
def bKey(t:DTrap):List Int→Int
 |[k,o,a,b,c]=>blO t k.toNat o.toNat [a.toNat,b.toNat,c.toNat]
 |_=>0
abbrev MemB(t:DTrap):=Mem (bKey t)
theorem bKey_key(t:DTrap)(k o b0 b1 b2:Nat):bKey t [(k:Int),(o:Int),(b0:Int),(b1:Int),(b2:Int)]=blO t k o [b0,b1,b2]:=by
 simp[bKey]
end Go.Proofs.YtbcjofkfgpbhmaaGreat

/-
  Doors: blind: the chambers behind a turn.
-/
namespace Go.Proofs.YtbcjofkfgpbhmaaGreat
open Go.Ab
theorem three {nx:List Nat}(h:nx.length=3): ∃a b c,nx=[a,b,c]:=by
 match nx,h with
 |[a,b,c],_=>exact⟨a,b,c,rfl⟩
abbrev nxV(nx:List Nat):List V:=nx.map fun(n:Nat)=>i64 (n:Int)
abbrev blFr(T1:Int)(o b0 b1 b2:Nat)(T':Int)(o2:Nat)(nx:List Nat):Ab.Loc:=[(64, .cell [i64 T1,i64 (o:Nat),i64 (b0:Nat),i64 (b1:Nat),i64 (b2:Nat)]),(240, .cell (i64 T'::i64 (o2:Nat)::nxV nx))]
structure Nx(nx:List Nat):Prop where
 len:nx.length=3
 lt: ∀x∈nx,x<16
theorem Nx.set {nx:List Nat}(h:Nx nx) {i v:Nat}(hv:v<16):Nx (nx.set i v):=⟨by simp[h.len],fun x hx=>by
 rcases List.mem_or_eq_of_mem_set hx with h1|rfl
 ·exact h.lt x h1
 ·exact hv⟩
theorem Nx.get {nx:List Nat}(h:Nx nx) {i:Nat}(hi:i<3):nx.getD i 0<16:=by
 have hl:i<nx.length:=by rw[h.len];exact hi
 simp only[List.getD,List.getElem?_eq_getElem hl,Option.getD_some]
 exact h.lt _ (List.getElem_mem hl)
theorem orW_lt {a:Nat} {x:Int}(ha:a<16)(hx:0≤x∧x<4):orW a x<16:=by
 have:powN x.toNat<2^4:=by unfold powN;exact Nat.pow_lt_pow_right (by decide) (by omega)
 exact Nat.or_lt_two_pow (n:=4) ha this
theorem foldW_lt {W:List Int}(hW: ∀x∈W,0≤x∧x<4): ∀ {a:Nat},a<16→W.foldl orW a<16:=by
 induction W with
 |nil=>intro a ha;exact ha
 |cons x W ih=>intro a ha;exact ih (fun y hy=>hW y (by simp[hy])) (orW_lt ha (hW x (by simp)))
set_option maxHeartbeats 16000000 in
theorem bl_l4(dg lg dm lm:Nat)(best:Int)(C:List Int)(j G i:Nat)(hi:i<3)(B:List Int)(p:Nat)(W:List Int)(hW: ∀x∈W,0≤x∧x<4)(hWl:W.length≤5)(T1 T':Int)(o o2 b0 b1 b2:Nat)(nx:List Nat)(hn:Nx nx)(s:Stk)(h1: ¬dg=s.length)(h2: ¬dm=s.length):
 Run T b29l4 [(0, .ptr dg lg 0),(2, .mp (.ptr dm lm 0)),(4, .ptr s.length 64 0),(12,i64 best),(15, .ptr s.length 240 0),(16,i64 (i:Nat)),(64, .sl .no 1 (es cInt C)),(65,i64 C.length),(66,i64 (j:Nat)),(83,i64 (G:Nat)),(84,i64 (i:Nat)),(91, .sl .no 1 (es cInt B)),(92,i64 B.length),(93,i64 (p:Nat)),(101, .sl .no 1 (es cInt W)),(102,i64 W.length),(103,i64 0)] (blFr T1 o b0 b1 b2 T' o2 nx::s)=
  some (.exit 8,[(0, .ptr dg lg 0),(2, .mp (.ptr dm lm 0)),(4, .ptr s.length 64 0),(12,i64 best),(15, .ptr s.length 240 0),(16,i64 (i:Nat)),(64, .sl .no 1 (es cInt C)),(65,i64 C.length),(66,i64 (j:Nat)),(83,i64 (G:Nat)),(84,i64 (i:Nat)),(91, .sl .no 1 (es cInt B)),(92,i64 B.length),(93,i64 (p:Nat)),(101, .sl .no 1 (es cInt W)),(102,i64 W.length),(103,i64 W.length),(104, .bool false)],blFr T1 o b0 b1 b2 T' o2 (nx.set i (W.foldl orW (nx.getD i 0)))::s):=by
 rw[←set_fold orW i W nx (by rw[hn.len];exact hi)]
 obtain⟨n0,n1,n2,rfl⟩:=three hn.len
 refine loop_fold (T:=Go.Proofs.YtbcjofkfgpbhmaaGreat.T) (live:=[0,2,4,12,15,16,64,65,66,83,84,91,92,93,101,102,103]) (keep:=[64,144,240,1456,1616,1968]) (b:=d29l4) W (fun _ (nx:List Nat)=>Nx nx) (fun nx x=>nx.set i (orW (nx.getD i 0) x))
  (fun k _=>[(0, .ptr dg lg 0),(2, .mp (.ptr dm lm 0)),(4, .ptr s.length 64 0),(12,i64 best),(15, .ptr s.length 240 0),(16,i64 (i:Nat)),(64, .sl .no 1 (es cInt C)),(65,i64 C.length),(66,i64 (j:Nat)),(83,i64 (G:Nat)),(84,i64 (i:Nat)),(91, .sl .no 1 (es cInt B)),(92,i64 B.length),(93,i64 (p:Nat)),(101, .sl .no 1 (es cInt W)),(102,i64 W.length),(103,i64 (k:Nat))]) (fun _ nx=>blFr T1 o b0 b1 b2 T' o2 nx::s)
  (fun nx=>(.exit 8,[(0, .ptr dg lg 0),(2, .mp (.ptr dm lm 0)),(4, .ptr s.length 64 0),(12,i64 best),(15, .ptr s.length 240 0),(16,i64 (i:Nat)),(64, .sl .no 1 (es cInt C)),(65,i64 C.length),(66,i64 (j:Nat)),(83,i64 (G:Nat)),(84,i64 (i:Nat)),(91, .sl .no 1 (es cInt B)),(92,i64 B.length),(93,i64 (p:Nat)),(101, .sl .no 1 (es cInt W)),(102,i64 W.length),(103,i64 W.length),(104, .bool false)],blFr T1 o b0 b1 b2 T' o2 nx::s))
  (by simp) ?_ ?_ ?_ [n0,n1,n2] hn _ _ (by simp[h1,h2]) (by simp)
 ·intro k nx hk hn
  obtain⟨n0,n1,n2,rfl⟩:=three hn.len
  have hk2:(k:Int)<W.length:=by omega
  have hx:=hW _ (List.getElem_mem hk)
  generalize hX:W[k]=x at*
  obtain⟨xn,rfl⟩: ∃xn:Nat,x=xn:=⟨x.toNat,by omega⟩
  have s1:=bshl (n:=xn) (by omega)
  have p4:=powN_lt (n:=xn) (by omega)
  have q0:=hn.lt n0 (by simp)
  have q1:=hn.lt n1 (by simp)
  have q2:=hn.lt n2 (by simp)
  have tn:((xn:Nat):Int).toNat=xn:=by omega
  obtain rfl|rfl|rfl:i=0∨i=1∨i=2:=by omega
  ·have s2:=bor (a:=n0) (b:=powN xn) (by omega) p4
   simp (maxSteps:=1000000) (disch:=first|omega|assumption|decide +kernel|(simp;done)|(simp;omega)|fail) [run_drawnK,orSlow_none,hk,hk2,hX,h1,h2,s1,s2,-bin_shl,-bin_or,orW,tn,wk k (by omega)]
  ·have s2:=bor (a:=n1) (b:=powN xn) (by omega) p4
   simp (maxSteps:=1000000) (disch:=first|omega|assumption|decide +kernel|(simp;done)|(simp;omega)|fail) [run_drawnK,orSlow_none,hk,hk2,hX,h1,h2,s1,s2,-bin_shl,-bin_or,orW,tn,wk k (by omega)]
  ·have s2:=bor (a:=n2) (b:=powN xn) (by omega) p4
   simp (maxSteps:=1000000) (disch:=first|omega|assumption|decide +kernel|(simp;done)|(simp;omega)|fail) [run_drawnK,orSlow_none,hk,hk2,hX,h1,h2,s1,s2,-bin_shl,-bin_or,orW,tn,wk k (by omega)]
 ·intro k nx hk hn
  exact hn.set (orW_lt (hn.get hi) (hW _ (List.getElem_mem hk)))
 ·intro nx hn
  obtain⟨n0,n1,n2,rfl⟩:=three hn.len
  simp[h1,h2]
end Go.Proofs.YtbcjofkfgpbhmaaGreat

/-
  Doors: blind: the chambers behind a turn, of all groups.
-/
namespace Go.Proofs.YtbcjofkfgpbhmaaGreat
open Go.Ab
theorem ways_small {t:DTrap}(h:DoorOk t)(o:Nat) {p:Int}(hp:0≤p∧p<t.chambers.toNat):(∀x∈waysS t.chambers.toNat (openG o t.gates) p,0≤x∧x<4)∧(waysS t.chambers.toNat (openG o t.gates) p).length≤5:=by
 have hch:=h.ch
 refine⟨fun x hx=> ?_,?_⟩
 ·have:=waysS_range hp hx;omega
 ·have:=waysS_len (n:=t.chambers.toNat) (gs:=openG o t.gates) (p:=p);omega
theorem wayBits_lt {t:DTrap}(h:DoorOk t)(o:Nat) {p:Int}(hp:0≤p∧p<t.chambers.toNat) {a:Nat}(ha:a<16):wayBits t.chambers.toNat (openG o t.gates) a p<16:=foldW_lt (ways_small h o hp).1 ha
theorem foldB_lt {t:DTrap}(h:DoorOk t)(o:Nat) {B:List Int}(hB: ∀p∈B,0≤p∧p<t.chambers.toNat): ∀ {a:Nat},a<16→B.foldl (wayBits t.chambers.toNat (openG o t.gates)) a<16:=by
 induction B with
 |nil=>intro a ha;exact ha
 |cons x B ih=>intro a ha;exact ih (fun y hy=>hB y (by simp[hy])) (wayBits_lt h o (hB x (by simp)) ha)
set_option maxHeartbeats 16000000 in
theorem bl_l3(t:DTrap)(h:DoorOk t)(m:V)(dg lg dm lm:Nat)(best:Int)(j i:Nat)(hi:i<3)(B:List Int)(hB: ∀p∈B,0≤p∧p<t.chambers.toNat)(hBl:B.length≤5)(T1 T':Int)(o o2 b0 b1 b2:Nat)(ho2:o2<32)(nx:List Nat)(hn:Nx nx)(s:Stk)(h1:dg<s.length)(h2: ¬dm=s.length)(hg:sget s dg lg=some (.cell (gameV t (chB t) m))):
 Run T b29l3 [(0, .ptr dg lg 0),(2, .mp (.ptr dm lm 0)),(4, .ptr s.length 64 0),(12,i64 best),(15, .ptr s.length 240 0),(16,i64 (i:Nat)),(64, .sl .no 1 (es cInt (chB t))),(65,i64 (chB t).length),(66,i64 (j:Nat)),(83,i64 t.groups.length),(84,i64 (i:Nat)),(91, .sl .no 1 (es cInt B)),(92,i64 B.length),(93,i64 0)] (blFr T1 o b0 b1 b2 T' o2 nx::s)=
  some (.exit 6,[(0, .ptr dg lg 0),(2, .mp (.ptr dm lm 0)),(4, .ptr s.length 64 0),(12,i64 best),(15, .ptr s.length 240 0),(16,i64 (i:Nat)),(64, .sl .no 1 (es cInt (chB t))),(65,i64 (chB t).length),(66,i64 (j:Nat)),(83,i64 t.groups.length),(84,i64 (i:Nat)),(91, .sl .no 1 (es cInt B)),(92,i64 B.length),(93,i64 B.length),(94, .bool false)],blFr T1 o b0 b1 b2 T' o2 (nx.set i (B.foldl (wayBits t.chambers.toNat (openG o2 t.gates)) (nx.getD i 0)))::s):=by
 have h1': ¬dg=s.length:=by omega
 rw[←set_fold (wayBits t.chambers.toNat (openG o2 t.gates)) i B nx (by rw[hn.len];exact hi)]
 obtain⟨n0,n1,n2,rfl⟩:=three hn.len
 refine loop_fold (T:=Go.Proofs.YtbcjofkfgpbhmaaGreat.T) (live:=[0,2,4,12,15,16,64,65,66,83,84,91,92,93]) (keep:=[64,144,240,1456,1968]) (b:=d29l3) B (fun _ (nx:List Nat)=>Nx nx) (fun nx x=>nx.set i (wayBits t.chambers.toNat (openG o2 t.gates) (nx.getD i 0) x))
  (fun k _=>[(0, .ptr dg lg 0),(2, .mp (.ptr dm lm 0)),(4, .ptr s.length 64 0),(12,i64 best),(15, .ptr s.length 240 0),(16,i64 (i:Nat)),(64, .sl .no 1 (es cInt (chB t))),(65,i64 (chB t).length),(66,i64 (j:Nat)),(83,i64 t.groups.length),(84,i64 (i:Nat)),(91, .sl .no 1 (es cInt B)),(92,i64 B.length),(93,i64 (k:Nat))]) (fun _ nx=>blFr T1 o b0 b1 b2 T' o2 nx::s)
  (fun nx=>(.exit 6,[(0, .ptr dg lg 0),(2, .mp (.ptr dm lm 0)),(4, .ptr s.length 64 0),(12,i64 best),(15, .ptr s.length 240 0),(16,i64 (i:Nat)),(64, .sl .no 1 (es cInt (chB t))),(65,i64 (chB t).length),(66,i64 (j:Nat)),(83,i64 t.groups.length),(84,i64 (i:Nat)),(91, .sl .no 1 (es cInt B)),(92,i64 B.length),(93,i64 B.length),(94, .bool false)],blFr T1 o b0 b1 b2 T' o2 nx::s))
  (by simp) ?_ ?_ ?_ [n0,n1,n2] hn _ _ (by simp[h1',h2]) (by simp)
 ·intro k nx hk hn
  have hk2:(k:Int)<B.length:=by omega
  have hx:=hB _ (List.getElem_mem hk)
  obtain⟨w1,w2⟩:=ways_small h o2 hx
  have hwy:=fun lab=>e_ways t h.gl h.gates (chB t) m o2 ho2 B[k] dg lg (blFr T1 o b0 b1 b2 T' o2 nx::s) (by simp;omega) (by rw[sget_cons,if_neg h1',hg]) lab
  have hl4:=bl_l4 dg lg dm lm best (chB t) j t.groups.length i hi B k _ w1 w2 T1 T' o o2 b0 b1 b2 nx hn s h1' h2
  change Run T _ _ _=some (_,_,blFr T1 o b0 b1 b2 T' o2 (nx.set i (wayBits t.chambers.toNat (openG o2 t.gates) (nx.getD i 0) B[k]))::s)at hl4
  have hn2:Nx (nx.set i (wayBits t.chambers.toNat (openG o2 t.gates) (nx.getD i 0) B[k])):=hn.set (wayBits_lt h o2 hx (hn.get hi))
  obtain⟨q0,q1,q2,hq⟩:=three hn2.len
  rw[hq]at hl4
  rw[hq]
  obtain⟨n0,n1,n2,rfl⟩:=three hn.len
  generalize hX:B[k]=x at*
  generalize waysS t.chambers.toNat (openG o2 t.gates) x=W at*
  clear hq hn hn2 w1
  simp only[blFr,nxV,List.map_cons,List.map_nil]at hwy hl4
  generalize chB t=C at*
  simp (maxSteps:=1000000) (disch:=first|omega|assumption|decide +kernel|(simp;done)|(simp;omega)|fail) [run_drawnK,orSlow_none,blFr,nxV,hk,hk2,hX,h1',h2,hwy,hl4,wk k (by omega)]
 ·intro k nx hk hn
  exact hn.set (wayBits_lt h o2 (hB _ (List.getElem_mem hk)) (hn.get hi))
 ·intro nx hn
  obtain⟨n0,n1,n2,rfl⟩:=three hn.len
  simp[h1',h2]
set_option maxHeartbeats 16000000 in
theorem bl_l2(t:DTrap)(h:DoorOk t)(m:V)(dg lg dm lm:Nat)(best:Int)(j:Nat)(T1 T':Int)(o o2 b0 b1 b2:Nat)(hb:InB t [b0,b1,b2])(ho2:o2<32)(s:Stk)(h1:dg<s.length)(h2: ¬dm=s.length)(hg:sget s dg lg=some (.cell (gameV t (chB t) m))):
 Run T b29l2 [(0, .ptr dg lg 0),(2, .mp (.ptr dm lm 0)),(4, .ptr s.length 64 0),(12,i64 best),(15, .ptr s.length 240 0),(64, .sl .no 1 (es cInt (chB t))),(65,i64 (chB t).length),(66,i64 (j:Nat)),(83,i64 t.groups.length),(84,i64 0)] (blFr T1 o b0 b1 b2 T' o2 [0,0,0]::s)=
  some (.exit 4,[(0, .ptr dg lg 0),(2, .mp (.ptr dm lm 0)),(4, .ptr s.length 64 0),(12,i64 best),(15, .ptr s.length 240 0),(64, .sl .no 1 (es cInt (chB t))),(65,i64 (chB t).length),(66,i64 (j:Nat)),(83,i64 t.groups.length),(84,i64 t.groups.length),(85, .bool false)],blFr T1 o b0 b1 b2 T' o2 (nxL t o2 [b0,b1,b2])::s):=by
 have h1': ¬dg=s.length:=by omega
 have hol:=h.ol
 have hch:=h.ch
 rw[←nx_fold h o2 hb]
 have hpw:2^t.chambers.toNat≤2^4:=Nat.pow_le_pow_right (by decide) (by omega)
 have hbit: ∀b∈ [b0,b1,b2],b<32∧(∀p∈bitsL b,0≤p∧p<t.chambers.toNat)∧(bitsL b).length≤5:=fun b hm=>by
  have:=hb.lt b hm
  refine⟨by omega,fun p hp=>bits_lt this hp,?_⟩
  unfold bitsL
  rw[List.length_map]
  exact Nat.le_trans (List.length_filter_le _ _) (by simp)
 have hstep: ∀i nx,i<3→Nx nx→Nx (nxStep t o2 [b0,b1,b2] nx i):=fun i nx hi hn=>by
  refine hn.set (foldB_lt h o2 (fun p hp=> ?_) (hn.get hi))
  obtain rfl|rfl|rfl:i=0∨i=1∨i=2:=by omega
  ·exact(hbit b0 (by simp)).2.1 p hp
  ·exact(hbit b1 (by simp)).2.1 p hp
  ·exact(hbit b2 (by simp)).2.1 p hp
 refine(loop_fold (T:=Go.Proofs.YtbcjofkfgpbhmaaGreat.T) (live:=[0,2,4,12,15,64,65,66,83,84]) (keep:=[64,144,240,1968]) (b:=d29l2) (List.range t.groups.length) (fun _ (nx:List Nat)=>Nx nx) (nxStep t o2 [b0,b1,b2])
  (fun k _=>[(0, .ptr dg lg 0),(2, .mp (.ptr dm lm 0)),(4, .ptr s.length 64 0),(12,i64 best),(15, .ptr s.length 240 0),(64, .sl .no 1 (es cInt (chB t))),(65,i64 (chB t).length),(66,i64 (j:Nat)),(83,i64 t.groups.length),(84,i64 (k:Nat))]) (fun _ nx=>blFr T1 o b0 b1 b2 T' o2 nx::s)
  (fun nx=>(.exit 4,[(0, .ptr dg lg 0),(2, .mp (.ptr dm lm 0)),(4, .ptr s.length 64 0),(12,i64 best),(15, .ptr s.length 240 0),(64, .sl .no 1 (es cInt (chB t))),(65,i64 (chB t).length),(66,i64 (j:Nat)),(83,i64 t.groups.length),(84,i64 t.groups.length),(85, .bool false)],blFr T1 o b0 b1 b2 T' o2 nx::s))
  (by simp) ?_ ?_ ?_ [0,0,0] ⟨rfl,by simp⟩ _ _ (by simp[h1',h2]) (by simp))
 ·intro k nx hk hn
  simp only[List.length_range]at hk
  simp only[List.getElem_range]
  have hk2:(k:Int)<t.groups.length:=by omega
  have hk3: ∀z:Int,z=(k:Int)→z<(t.groups.length:Int):=fun z e=>by omega
  have hn2:=hstep k nx (by omega) hn
  obtain⟨q0,q1,q2,hq⟩:=three hn2.len
  have hl3:=fun B hB hBl=>bl_l3 t h m dg lg dm lm best j k (by omega) B hB hBl T1 T' o o2 b0 b1 b2 ho2 nx hn s h1 h2 hg
  have fin: ∀b,b∈ [b0,b1,b2]→[b0,b1,b2].getD k 0=b→Run T b29l3 [(0, .ptr dg lg 0),(2, .mp (.ptr dm lm 0)),(4, .ptr s.length 64 0),(12,i64 best),(15, .ptr s.length 240 0),(16,i64 (k:Nat)),(64, .sl .no 1 (es cInt (chB t))),(65,i64 (chB t).length),(66,i64 (j:Nat)),(83,i64 t.groups.length),(84,i64 (k:Nat)),(91, .sl .no 1 (es cInt (bitsL b))),(92,i64 (bitsL b).length),(93,i64 0)] (blFr T1 o b0 b1 b2 T' o2 nx::s)=
   some (.exit 6,[(0, .ptr dg lg 0),(2, .mp (.ptr dm lm 0)),(4, .ptr s.length 64 0),(12,i64 best),(15, .ptr s.length 240 0),(16,i64 (k:Nat)),(64, .sl .no 1 (es cInt (chB t))),(65,i64 (chB t).length),(66,i64 (j:Nat)),(83,i64 t.groups.length),(84,i64 (k:Nat)),(91, .sl .no 1 (es cInt (bitsL b))),(92,i64 (bitsL b).length),(93,i64 (bitsL b).length),(94, .bool false)],blFr T1 o b0 b1 b2 T' o2 [q0,q1,q2]::s):=fun b hm e=>by
   have:=hl3 (bitsL b) (hbit b hm).2.1 (hbit b hm).2.2
   have e2:nx.set k ((bitsL b).foldl (wayBits t.chambers.toNat (openG o2 t.gates)) (nx.getD k 0))=[q0,q1,q2]:=by rw[←hq,←e];rfl
   rw[e2]at this
   exact this
  clear hl3
  rw[hq]
  obtain⟨n0,n1,n2,rfl⟩:=three hn.len
  clear hq hn hn2 hstep
  simp only[blFr,nxV,List.map_cons,List.map_nil]at fin
  generalize chB t=C at*
  obtain rfl|rfl|rfl:k=0∨k=1∨k=2:=by omega
  ·have hf:=fin b0 (by simp) rfl
   simp only[show((0:Nat):Int)=0 from rfl]at hf
   have hli:=fun lab s=>e_list b0 (hbit b0 (by simp)).1 lab s
   generalize bitsL b0=B at*
   have hk4:=hk3 0 rfl
   have w1:IntKind.i64.wrap 1=1:=by decide
   simp (maxSteps:=1000000) (disch:=first|omega|assumption|decide +kernel|(simp;done)|(simp;omega)|fail) [run_drawnK,orSlow_none,blFr,nxV,hk,hk2,hk4,h1',h2,hli,hf,w1]
  ·have hf:=fin b1 (by simp) rfl
   simp only[show((1:Nat):Int)=1 from rfl]at hf
   have hli:=fun lab s=>e_list b1 (hbit b1 (by simp)).1 lab s
   generalize bitsL b1=B at*
   have hk4:=hk3 1 rfl
   have w1:IntKind.i64.wrap 2=2:=by decide
   simp (maxSteps:=1000000) (disch:=first|omega|assumption|decide +kernel|(simp;done)|(simp;omega)|fail) [run_drawnK,orSlow_none,blFr,nxV,hk,hk2,hk4,h1',h2,hli,hf,w1]
  ·have hf:=fin b2 (by simp) rfl
   simp only[show((2:Nat):Int)=2 from rfl]at hf
   have hli:=fun lab s=>e_list b2 (hbit b2 (by simp)).1 lab s
   generalize bitsL b2=B at*
   have hk4:=hk3 2 rfl
   have w1:IntKind.i64.wrap 3=3:=by decide
   simp (maxSteps:=1000000) (disch:=first|omega|assumption|decide +kernel|(simp;done)|(simp;omega)|fail) [run_drawnK,orSlow_none,blFr,nxV,hk,hk2,hk4,h1',h2,hli,hf,w1]
 ·intro k nx hk hn
  simp only[List.length_range]at hk
  simp only[List.getElem_range]
  exact hstep k nx (by omega) hn
 ·intro nx hn
  obtain⟨n0,n1,n2,rfl⟩:=three hn.len
  simp[h1',h2]
end Go.Proofs.YtbcjofkfgpbhmaaGreat

/-
  Doors: blind, with no turn left.
-/
namespace Go.Proofs.YtbcjofkfgpbhmaaGreat
open Go.Ab
def caughtN(t:DTrap)(bs:List Nat)(a:Int)(k:Nat):Int:=match t.groups[k]? with
 |some g=>if bs.getD k 0=powN (t.chambers.toNat-1)then a+g.fish else a
 |none=>a
theorem caughtN_bound {t:DTrap}(h:DoorOk t)(bs:List Nat)(a:Int)(k:Nat)(ha:0≤a∧a≤99*k):0≤caughtN t bs a k∧caughtN t bs a k≤99*((k+1:Nat):Int):=by
 unfold caughtN
 split
 ·rename_i g hg
  have:=(h.groups g (List.mem_of_getElem? hg)).2
  split<;>omega
 ·omega
theorem caughtN_fold {t:DTrap}(h:DoorOk t) {bs:List Nat}(hb:InB t bs)(o:Nat):(List.range t.groups.length).foldl (caughtN t bs) 0=blO t 0 o bs:=by
 have hch:=h.ch
 have key: ∀(gs:List DGroup) (bs:List Nat) (a:Int),gs.length≤bs.length→(∀b∈bs,b<2^t.chambers.toNat)→
  (List.range gs.length).foldl (fun a k=>match gs[k]? with|some g=>if bs.getD k 0=powN (t.chambers.toNat-1)then a+g.fish else a|none=>a) a=a+caughtB t.chambers.toNat (gs.map (·.fish)) ((bs.take gs.length).map bitsL):=by
  intro gs
  induction gs with
  |nil=>intro bs a _ _;simp[caughtB]
  |cons g gs ih=>
    intro bs a hl hlt
    cases bs with
    |nil=>simp at hl
    |cons p bs=>
      rw[List.length_cons,List.range_succ_eq_map,List.foldl_cons,List.foldl_map]
      simp only[List.getElem?_cons_zero,List.getD_cons_zero,List.getElem?_cons_succ,List.getD_cons_succ,List.map_cons,caughtB,List.take_succ_cons]
      rw[ih bs _ (by simpa using hl) (fun b hb=>hlt b (by simp[hb]))]
      have hp:=bits_last (n:=t.chambers.toNat) (b:=p) (by omega) (by omega) (hlt p (by simp))
      by_cases c:p=powN (t.chambers.toNat-1)
      ·rw[if_pos c,if_pos (hp.2 c)];omega
      ·rw[if_neg c,if_neg (fun e=>c (hp.1 e))];omega
 have:=key t.groups bs 0 (by rw[hb.len];exact h.ol) hb.lt
 rw[Int.zero_add]at this
 exact this
set_option maxHeartbeats 8000000 in
theorem bl_l0(t:DTrap)(h:DoorOk t)(m:V)(dg lg:Nat)(T1:Int)(o b0 b1 b2:Nat)(hb:InB t [b0,b1,b2])(s:Stk)(h1:dg<s.length)(hg:sget s dg lg=some (.cell (gameV t (chB t) m))):
 Run T b29l0 [(0, .ptr dg lg 0),(4, .ptr s.length 64 0),(7,i64 0),(28, .sl (gcap m) 2 (es cGroup t.groups)),(29,i64 t.groups.length),(30,i64 0)] ([(64, .cell [i64 T1,i64 (o:Nat),i64 (b0:Nat),i64 (b1:Nat),i64 (b2:Nat)])]::s)=
  some (.exit 0,[(0, .ptr dg lg 0),(4, .ptr s.length 64 0),(7,i64 (blO t 0 o [b0,b1,b2])),(28, .sl (gcap m) 2 (es cGroup t.groups)),(29,i64 t.groups.length),(30,i64 t.groups.length),(31, .bool false)],[(64, .cell [i64 T1,i64 (o:Nat),i64 (b0:Nat),i64 (b1:Nat),i64 (b2:Nat)])]::s):=by
 have hd2: ¬dg=s.length:=by omega
 have hol:=h.ol
 have hch:=h.ch
 rw[←caughtN_fold h hb o]
 refine loop_fold (T:=Go.Proofs.YtbcjofkfgpbhmaaGreat.T) (live:=[0,4,7,28,29,30]) (keep:=[64,240,1456,1616,1968]) (b:=d29l0) (List.range t.groups.length) (fun k (a:Int)=>0≤a∧a≤99*k) (caughtN t [b0,b1,b2])
  (fun k a=>[(0, .ptr dg lg 0),(4, .ptr s.length 64 0),(7,i64 a),(28, .sl (gcap m) 2 (es cGroup t.groups)),(29,i64 t.groups.length),(30,i64 (k:Nat))]) (fun _ _=>[(64, .cell [i64 T1,i64 (o:Nat),i64 (b0:Nat),i64 (b1:Nat),i64 (b2:Nat)])]::s)
  (fun a=>(.exit 0,[(0, .ptr dg lg 0),(4, .ptr s.length 64 0),(7,i64 a),(28, .sl (gcap m) 2 (es cGroup t.groups)),(29,i64 t.groups.length),(30,i64 t.groups.length),(31, .bool false)],[(64, .cell [i64 T1,i64 (o:Nat),i64 (b0:Nat),i64 (b1:Nat),i64 (b2:Nat)])]::s))
  (by simp) ?_ ?_ ?_ 0 (by simp) _ _ (by simp[hd2]) (by simp)
 ·intro k a hk hi
  simp only[List.length_range]at hk
  simp only[List.getElem_range]
  have hk2:(k:Int)<t.groups.length:=by omega
  have hk5: ∀z:Int,z=(k:Int)→z<(t.groups.length:Int):=fun z e=>by omega
  have hk6: ∀z:Nat,z=k→z<t.groups.length:=fun z e=>by omega
  have hF:=(h.groups _ (List.getElem_mem hk)).2
  obtain⟨c1,hc1⟩: ∃c1,t.chambers.toNat-1=c1:=⟨_,rfl⟩
  have w1:IntKind.i64.wrap (t.chambers-1)=(c1:Nat):=by rw[wi _ (by omega) (by omega)];omega
  have s1:=bshl (n:=c1) (by omega)
  unfold caughtN
  rw[List.getElem?_eq_getElem hk,hc1]
  generalize hG:t.groups[k]=G at*
  have w2:IntKind.i64.wrap (a+G.fish)=a+G.fish:=wi _ (by omega) (by omega)
  generalize powN c1=P at*
  obtain rfl|rfl|rfl:k=0∨k=1∨k=2:=by omega
  ·have hk7:=hk5 0 rfl
   have hk8:=hk6 0 rfl
   have w3:IntKind.i64.wrap 1=1:=by decide
   by_cases c:b0=P
   ·have c':(b0:Int)=P:=by omega
    simp (maxSteps:=1000000) (disch:=first|omega|assumption|decide +kernel|(simp;done)|(simp;omega)|fail) [run_drawnK,orSlow_none,hk,hk2,hk7,hk8,hG,hd2,hg,c,c',w1,w2,w3,s1,-bin_shl]
   ·have c': ¬(b0:Int)=P:=by omega
    simp (maxSteps:=1000000) (disch:=first|omega|assumption|decide +kernel|(simp;done)|(simp;omega)|fail) [run_drawnK,orSlow_none,hk,hk2,hk7,hk8,hG,hd2,hg,c,c',w1,w2,w3,s1,-bin_shl]
  ·have hk7:=hk5 1 rfl
   have hk8:=hk6 1 rfl
   have w3:IntKind.i64.wrap 2=2:=by decide
   by_cases c:b1=P
   ·have c':(b1:Int)=P:=by omega
    simp (maxSteps:=1000000) (disch:=first|omega|assumption|decide +kernel|(simp;done)|(simp;omega)|fail) [run_drawnK,orSlow_none,hk,hk2,hk7,hk8,hG,hd2,hg,c,c',w1,w2,w3,s1,-bin_shl]
   ·have c': ¬(b1:Int)=P:=by omega
    simp (maxSteps:=1000000) (disch:=first|omega|assumption|decide +kernel|(simp;done)|(simp;omega)|fail) [run_drawnK,orSlow_none,hk,hk2,hk7,hk8,hG,hd2,hg,c,c',w1,w2,w3,s1,-bin_shl]
  ·have hk7:=hk5 2 rfl
   have hk8:=hk6 2 rfl
   have w3:IntKind.i64.wrap 3=3:=by decide
   by_cases c:b2=P
   ·have c':(b2:Int)=P:=by omega
    simp (maxSteps:=1000000) (disch:=first|omega|assumption|decide +kernel|(simp;done)|(simp;omega)|fail) [run_drawnK,orSlow_none,hk,hk2,hk7,hk8,hG,hd2,hg,c,c',w1,w2,w3,s1,-bin_shl]
   ·have c': ¬(b2:Int)=P:=by omega
    simp (maxSteps:=1000000) (disch:=first|omega|assumption|decide +kernel|(simp;done)|(simp;omega)|fail) [run_drawnK,orSlow_none,hk,hk2,hk7,hk8,hG,hd2,hg,c,c',w1,w2,w3,s1,-bin_shl]
 ·intro k a hk hi
  simp only[List.length_range]at hk
  simp only[List.getElem_range]
  exact caughtN_bound h _ a k hi
 ·intro a hi
  simp
end Go.Proofs.YtbcjofkfgpbhmaaGreat

/-
  Doors: blind.
-/
namespace Go.Proofs.YtbcjofkfgpbhmaaGreat
open Go.Ab
def BlindD(t:DTrap)(k:Nat)(f:Nat→List Nat→MemB t→MemB t):Prop:= ∀ {m:V} {dg lg dm lm L:Nat} {S:List (List Int×Int)→Stk},GameD t (chB t) m dg lg dm lm L S→
 ∀(o b0 b1 b2:Nat) (K:MemB t) (lab:Nat),o<32→InB t [b0,b1,b2]→den T 29 [.ptr dg lg 0, .agg [i64 (k:Nat),i64 (o:Nat),i64 (b0:Nat),i64 (b1:Nat),i64 (b2:Nat)], .mp (.ptr dm lm 0)] lab (S K.1)=some (i64 (blO t k o [b0,b1,b2]),S (f o [b0,b1,b2] K).1)
abbrev keyB(k o:Nat)(bs:List Nat):List Int:=(k:Int)::(o:Int)::bs.map fun(n:Nat)=>(n:Int)
def blK(t:DTrap):Nat→Nat→List Nat→MemB t→MemB t
 |0,_,_,K=>K
 |k+1,o,bs,K=>if (kvGet K.1 (keyB (k+1) o bs)).isSome then K else((cN t).foldl (fun K c=>blK t k (xorN o c) (nxL t (xorN o c) bs) K) K).put (keyB (k+1) o bs)
set_option maxHeartbeats 8000000 in
theorem e_blind {t:DTrap}(h:DoorOk t)(k:Nat):k≤4→BlindD t k (blK t k):=by
 induction k with
 |zero=>
   intro _ m dg lg dm lm L S G o b0 b1 b2 K lab ho hb
   have hL:=G.len K.1
   have hd:=G.ltg
   have hl0:=bl_l0 t h m dg lg 0 o b0 b1 b2 hb (S K.1) (by rw[hL];exact hd) (G.game K.1)
   have hga:=G.game K.1
   have e1: ¬dg=L:=by omega
   simp only[blK]
   generalize blO t 0 o [b0,b1,b2]=w at*
   generalize S K.1=X at*
   subst hL
   simp only[Int.natCast_zero]
   rw[den_fn t29 _ _ _ rfl]
   simp only[b29]
   simp (maxSteps:=1000000) (disch:=first|omega|assumption|decide +kernel|(simp;done)|(simp;omega)|fail) [hl0,hga,e1]
 |succ k ih0=>
   intro hk m dg lg dm lm L S G o b0 b1 b2 K lab ho hb
   have ih:= @ih0 (by omega)
   have hL:=G.len
   have hd:=G.ltg
   have hd2:=G.ltm
   have e1: ¬dg=L:=by omega
   have e2: ¬dm=L:=by omega
   have hga:=G.game
   have hme:=G.mem
   have hpu:=G.put
   have hw:=bKey_key t (k+1) o b0 b1 b2
   have hsc:=blO_succ h k o hb
   have hr0:=fun o' bs=>blO_range h k o' bs
   have hT:(((k+1:Nat):Int)=0)=False:=by simp;omega
   have hcl:(chB t).length=(cN t).length:=by simp[chB,natI]
   have hlen:(cN t).length≤32:=by rw[←hcl];exact(chB_len h).2.2
   have hT1:IntKind.i64.wrap (((k+1:Nat):Int)-1)=(k:Nat):=by rw[wi _ (by omega) (by omega)];omega
   simp only[blK]
   have key:=loop_fold (T:=Go.Proofs.YtbcjofkfgpbhmaaGreat.T) (live:=[0,2,4,12,64,65,66]) (keep:=[64,144]) (b:=d29l1) (cN t) (fun _ (a:Int×MemB t)=>0≤a.1∧a.1≤297) (fun a c=>(max a.1 (blO t k (xorN o c) (nxL t (xorN o c) [b0,b1,b2])),blK t k (xorN o c) (nxL t (xorN o c) [b0,b1,b2]) a.2))
    (fun j a=>[(0, .ptr dg lg 0),(2, .mp (.ptr dm lm 0)),(4, .ptr L 64 0),(12,i64 a.1),(64, .sl .no 1 (es cInt (chB t))),(65,i64 (chB t).length),(66,i64 (j:Nat))]) (fun _ a=>[(64, .cell [i64 ((k+1:Nat):Int),i64 (o:Nat),i64 (b0:Nat),i64 (b1:Nat),i64 (b2:Nat)])]::S a.2.1)
    (fun a=>(.exit 2,[(0, .ptr dg lg 0),(2, .mp (.ptr dm lm 0)),(4, .ptr L 64 0),(12,i64 a.1),(64, .sl .no 1 (es cInt (chB t))),(65,i64 (chB t).length),(66,i64 (chB t).length),(67, .bool false)],[(64, .cell [i64 ((k+1:Nat):Int),i64 (o:Nat),i64 (b0:Nat),i64 (b1:Nat),i64 (b2:Nat)])]::S a.2.1))
    (by simp) ?_ ?_ ?_ (0,K) (by simp) [(0, .ptr dg lg 0),(2, .mp (.ptr dm lm 0)),(4, .ptr L 64 0),(12,i64 0),(64, .sl .no 1 (es cInt (chB t))),(65,i64 (chB t).length),(66,i64 0)] ([(64, .cell [i64 ((k+1:Nat):Int),i64 (o:Nat),i64 (b0:Nat),i64 (b1:Nat),i64 (b2:Nat)])]::S K.1) (by simp[hL,e1,e2]) (by simp[hL])
   ·change Run Go.Proofs.YtbcjofkfgpbhmaaGreat.T b29l1 _ _=_ at key
    rw[fold_pair (fun a c=>max a (blO t k (xorN o c) (nxL t (xorN o c) [b0,b1,b2]))) (fun K c=>blK t k (xorN o c) (nxL t (xorN o c) [b0,b1,b2]) K),←List.foldl_map (f:=fun c=>blO t k (xorN o c) (nxL t (xorN o c) [b0,b1,b2])) (g:=max),←hsc]at key
    have hr: ∀v,kvGet K.1 (keyB (k+1) o [b0,b1,b2])=some v→v=blO t (k+1) o [b0,b1,b2]:=fun v hv=>by rw[←hw];exact K.2 _ _ hv
    simp only[keyB,List.map_cons,List.map_nil]at hr hw⊢
    generalize blO t (k+1) o [b0,b1,b2]=w at*
    generalize List.foldl _ K (cN t)=K' at*
    generalize hTT:((k+1:Nat):Int)=T1 at*
    generalize chB t=C at*
    cases hv:kvGet K.1 [T1,(o:Nat),(b0:Nat),(b1:Nat),(b2:Nat)]with
    |some v=>
      obtain rfl:=hr v hv
      rw[den_fn t29 _ _ _ rfl]
      simp only[b29]
      simp (maxSteps:=1000000) (disch:=first|omega|assumption|decide +kernel|(simp;done)|(simp;omega)|fail) [run_drawnK,orSlow_none,hL,hga,hme,hpu,e1,e2,hT,hv]
    |none=>
      rw[den_fn t29 _ _ _ rfl]
      simp only[b29]
      simp (maxSteps:=1000000) (disch:=first|omega|assumption|decide +kernel|(simp;done)|(simp;omega)|fail) [run_drawnK,orSlow_none,hL,hga,hme,hpu,e1,e2,hT,hv,key,Mem.put,hw]
   ·intro j a hj hi
    obtain⟨a,K2⟩:=a
    have hj3:j<(chB t).length:=by omega
    have hj2:(j:Int)<(chB t).length:=by omega
    have hcj:(chB t)[j]=((cN t)[j]:Int):=by simp[chB,natI]
    have hc:=cN_lt h (List.getElem_mem hj)
    generalize (cN t)[j]=c at*
    have ho2:xorN o c<32:=Nat.xor_lt_two_pow (n:=5) ho hc
    have hl2:=bl_l2 t h m dg lg dm lm a j ((k+1:Nat):Int) (k:Nat) o (xorN o c) b0 b1 b2 hb ho2 (S K2.1) (by rw[hL];exact hd) (by rw[hL];exact e2) (G.game _)
    have hxr:=bxor (a:=o) (b:=c) (by omega) (by omega)
    have hin:=nx_in h hb (xorN o c)
    obtain⟨q0,q1,q2,hq⟩:=three hin.len
    rw[hq]at hin hl2
    have hv:=fun lab=>ih (G.push [blFr ((k+1:Nat):Int) o b0 b1 b2 (k:Nat) (xorN o c) [q0,q1,q2]]) (xorN o c) q0 q1 q2 K2 lab ho2 hin
    have hrr:=hr0 (xorN o c) [q0,q1,q2]
    simp only at hi⊢
    rw[hq]
    simp only[List.cons_append,List.nil_append]at hv
    generalize blO t k (xorN o c) [q0,q1,q2]=w at*
    generalize blK t k (xorN o c) [q0,q1,q2] K2=K' at*
    generalize xorN o c=o2 at*
    simp only[hL,blFr,nxV,List.map_cons,List.map_nil,show((0:Nat):Int)=0 from rfl]at hl2 hv
    clear hsc hr0 hq ih ih0
    generalize hTT:((k+1:Nat):Int)=T1 at*
    generalize chB t=C at*
    simp (maxSteps:=1000000) (disch:=first|omega|assumption|decide +kernel|(simp;done)|(simp;omega)|fail) [hj,hj2,hj3,hcj,hL,hga,e1,e2,hxr,-bin_xor,hT1,hl2,hv,wk j (by omega)]
   ·intro j a hj hi
    have:=hr0 (xorN o (cN t)[j]) (nxL t (xorN o (cN t)[j]) [b0,b1,b2])
    simp only
    omega
   ·intro a hi
    simp[hcl]
end Go.Proofs.YtbcjofkfgpbhmaaGreat

/-
  Doors: Blind.
-/
namespace Go.Proofs.YtbcjofkfgpbhmaaGreat
open Go.Ab
def bP(t:DTrap)(i:Nat):Nat:=(at0 t i).toNat
def stBits(t:DTrap):List Nat:=(posL t).map (fun p=>powN p.toNat) ++List.replicate (3-t.groups.length) 0
def blStart(nx:List Nat)(i:Nat):List Nat:=nx.set i (powN (nx.getD i 0))
theorem st_fold {t:DTrap}(h:DoorOk t):(List.range t.groups.length).foldl blStart [bP t 0,bP t 1,bP t 2]=stBits t:=by
 have hol:=h.ol
 unfold stBits bP at0 posL
 generalize t.groups=l at*
 match l,hol with
 |[],_=>simp[pk]
 |[a],_=>simp[pk,blStart,List.range_succ,List.replicate]
 |[a,b],_=>simp[pk,blStart,List.range_succ,List.replicate]
 |[a,b,c],_=>simp[pk,blStart,List.range_succ,List.replicate]
 |_::_::_::_::_,hh=>simp at hh
theorem st_in {t:DTrap}(h:DoorOk t):InB t (stBits t):=by
 have hol:=h.ol
 have hch:=h.ch
 refine⟨by simp[stBits,posL];omega,fun b hb=> ?_⟩
 simp only[stBits,List.mem_append,List.mem_map,List.mem_replicate]at hb
 rcases hb with ⟨p,hp,rfl⟩|⟨_,rfl⟩
 ·obtain⟨g,hg,rfl⟩:=List.mem_map.1 hp
  have:=(h.groups g hg).1
  unfold powN
  exact Nat.pow_lt_pow_right (by decide) (by omega)
 ·exact Nat.pow_pos (by decide)
def blindT(t:DTrap)(k:Nat):Int:=blindS t.chambers.toNat t.hands.toNat (fishL t) k t.gates (singles (posL t))
def blindR(t:DTrap):Int×Int:=if doorB t=true then(blindT t t.turns.toNat,0)else(0,30)
theorem blO_start {t:DTrap}(h:DoorOk t)(k:Nat):blO t k (gN t) (stBits t)=blindT t k:=by
 have hch:=h.ch
 unfold blO blindT
 have e:((stBits t).take t.groups.length).map bitsL=singles (posL t):=by
  unfold stBits singles
  rw[List.take_append_of_le_length (by simp[posL]),List.take_of_length_le (by simp[posL]),List.map_map]
  refine List.map_congr_left fun p hp=> ?_
  obtain⟨g,hg,rfl⟩:=List.mem_map.1 hp
  have:=(h.groups g hg).1
  exact bits_single (by omega)
 rw[e,openG_bits]
abbrev blS(t:DTrap)(d:Nat)(nx:List Nat):Ab.Loc:=[(16, .cell (dV t)),(160, .cell (gameV t (chB t) (.mp (.ptr d 1160 0)))),(1160, .mp (some 5) []),(80, .cell (i64 t.turns::i64 (gN t:Nat)::nxV nx))]
set_option maxHeartbeats 8000000 in
theorem Blind_l0(t:DTrap)(h:DoorOk t)(s:Stk):
 Run T b9l0 [(4, .ptr s.length 160 0),(5, .ptr s.length 80 0),(19,i64 t.groups.length),(20,i64 0)] (blS t s.length [bP t 0,bP t 1,bP t 2]::s)=
  some (.exit 0,[(4, .ptr s.length 160 0),(5, .ptr s.length 80 0),(19,i64 t.groups.length),(20,i64 t.groups.length),(21, .bool false)],blS t s.length (stBits t)::s):=by
 have hol:=h.ol
 have hch:=h.ch
 rw[←st_fold h]
 have hb4: ∀i,i<t.groups.length→bP t i<4:=fun i hi=>by
  have:=(h.groups _ (List.getElem_mem hi)).1
  unfold bP;rw[at0_get hi];omega
 refine loop_fold (T:=Go.Proofs.YtbcjofkfgpbhmaaGreat.T) (live:=[4,5,19,20]) (keep:=[16,80,160,1160]) (b:=d9l0) (List.range t.groups.length) (fun k (nx:List Nat)=>nx.length=3∧ ∀i,k≤i→i<3→nx.getD i 0=bP t i) blStart
  (fun k _=>[(4, .ptr s.length 160 0),(5, .ptr s.length 80 0),(19,i64 t.groups.length),(20,i64 (k:Nat))]) (fun _ nx=>blS t s.length nx::s)
  (fun nx=>(.exit 0,[(4, .ptr s.length 160 0),(5, .ptr s.length 80 0),(19,i64 t.groups.length),(20,i64 t.groups.length),(21, .bool false)],blS t s.length nx::s))
  (by simp) ?_ ?_ ?_ [bP t 0,bP t 1,bP t 2] ⟨rfl,fun i _ hi=>by
   obtain rfl|rfl|rfl:i=0∨i=1∨i=2:=by omega
   all_goals rfl⟩ _ _ (by simp) (by simp)
 ·intro k nx hk hi
  simp only[List.length_range]at hk
  simp only[List.getElem_range]
  obtain⟨hl,hn⟩:=hi
  have hk2:(k:Int)<t.groups.length:=by omega
  have hk5: ∀z:Int,z=(k:Int)→z<(t.groups.length:Int):=fun z e=>by omega
  have hv:=hn k (Nat.le_refl _) (by omega)
  have hv4:=hb4 k hk
  rw[←hv]at hv4
  clear hn hv hb4
  obtain⟨n0,n1,n2,rfl⟩:=three hl
  unfold blStart
  obtain rfl|rfl|rfl:k=0∨k=1∨k=2:=by omega
  ·have hk7:=hk5 0 rfl
   have w3:IntKind.i64.wrap 1=1:=by decide
   have s1:=bshl (n:=n0) (by simp at hv4;omega)
   simp (maxSteps:=1000000) (disch:=first|omega|assumption|decide +kernel|(simp;done)|(simp;omega)|fail) [run_drawnK,orSlow_none,blS,nxV,hk,hk2,hk7,w3,s1,-bin_shl]
  ·have hk7:=hk5 1 rfl
   have w3:IntKind.i64.wrap 2=2:=by decide
   have s1:=bshl (n:=n1) (by simp at hv4;omega)
   simp (maxSteps:=1000000) (disch:=first|omega|assumption|decide +kernel|(simp;done)|(simp;omega)|fail) [run_drawnK,orSlow_none,blS,nxV,hk,hk2,hk7,w3,s1,-bin_shl]
  ·have hk7:=hk5 2 rfl
   have w3:IntKind.i64.wrap 3=3:=by decide
   have s1:=bshl (n:=n2) (by simp at hv4;omega)
   simp (maxSteps:=1000000) (disch:=first|omega|assumption|decide +kernel|(simp;done)|(simp;omega)|fail) [run_drawnK,orSlow_none,blS,nxV,hk,hk2,hk7,w3,s1,-bin_shl]
 ·intro k nx hk hi
  simp only[List.length_range]at hk
  simp only[List.getElem_range]
  obtain⟨hl,hn⟩:=hi
  refine⟨by simp[blStart,hl],fun i h1 h2=> ?_⟩
  rw[←hn i (by omega) h2]
  unfold blStart
  simp only[List.getD_eq_getElem?_getD,List.getElem?_set,show¬k=i by omega,if_false]
 ·intro nx hi
  obtain⟨n0,n1,n2,rfl⟩:=three hi.1
  simp
set_option maxHeartbeats 8000000 in
theorem e_Blind(t:DTrap)(hs:ShortD t)(lab s):den T 9 [.agg (dV t)] lab s=some (.tup [i64 (blindR t).1,i64 (blindR t).2],s):=by
 unfold blindR
 cases h:doorB t
 ·have hb:=fun lab loc s=>e_begin_bad t hs h true lab loc s
  rw[den_fn t9 _ _ _ rfl]
  simp only[b9]
  simp (maxSteps:=1000000) (disch:=first|omega|assumption|decide +kernel|(simp;done)|(simp;omega)|fail) [run_drawnK,orSlow_none,hb]
 ·have ho:=doorB_iff.1 h
  have htu:=ho.tu
  have hb:=fun lab loc k0 k1=>e_begin t ho lab loc s k0 k1
  have hT:((t.turns.toNat:Nat):Int)=t.turns:=by omega
  have hl0:=Blind_l0 t ho s
  have hin:=st_in ho
  have hst:=blO_start ho t.turns.toNat
  obtain⟨q0,q1,q2,hq⟩:=three hin.len
  rw[hq]at hl0 hin hst
  have hv:=fun lab=>e_blind ho t.turns.toNat (by omega) (GameD.topM (t:=t) (s:=s) (lg:=160) (lm:=544) (m:= .mp (.ptr s.length 1160 0)) (X:=fun K=>blS t s.length [q0,q1,q2] ++[(544, .mp (some 5) K)]) (fun K=>rfl) (fun K=>rfl) (fun K K'=>rfl)) (gN t) q0 q1 q2 Mem.nil lab (gN_lt ho) hin
  rw[hst,hT]at hv
  have ha: ∀i,at0 t i=((bP t i:Nat):Int):=fun i=>by
   unfold bP
   by_cases hi:i<t.groups.length
   ·rw[at0_get hi]
    have:=(ho.groups _ (List.getElem_mem hi)).1
    omega
   ·have:at0 t i=0:=by simp[at0,pk,hi]
    rw[this];rfl
  simp only[scene0,sceneV,ha]at hb
  simp only[blS,nxV,List.map_cons,List.map_nil,List.cons_append,List.nil_append,Mem.nil_val,gN]at hl0 hv hb
  generalize bP t 0=p0 at*
  generalize bP t 1=p1 at*
  generalize bP t 2=p2 at*
  generalize blindT t t.turns.toNat=w at*
  generalize blK t _ _ _ _=K' at*
  generalize chB t=C at*
  generalize gateBits t.gates=o at*
  rw[den_fn t9 _ _ _ rfl]
  simp only[b9]
  simp (maxSteps:=1000000) (disch:=first|omega|assumption|decide +kernel|(simp;done)|(simp;omega)|fail) [run_drawnK,orSlow_none,hb,hl0,hv]
end Go.Proofs.YtbcjofkfgpbhmaaGreat

/-
  Doors: the reference's lists and changes.
-/
namespace Go.Proofs.YtbcjofkfgpbhmaaGreat
open Go.Ab
theorem appK_full_e {α:Type} {c:α→List V} {esz bytes lab:Nat} {s:Stk} {c':Cap} {z':Nat} {a:List α}(h:a=[]):appK esz bytes lab s (.sl .full esz []) (.sl c' z' (es c a))=some (.sl .full esz (es c a),s):=by
 subst h;rw[show es c ([]:List α)=[]from rfl];exact appK_full_nil _ _ _ _ _ _ _ _ (by simp) (by simp) (.inr rfl)
theorem appD_full_e {α:Type} {c:α→List V} {esz bytes lab:Nat} {vis:Ab.Loc} {rest:Stk} {c':Cap} {z':Nat} {a:List α}(h:a=[]):appD esz bytes lab vis rest (.sl .full esz []) (.sl c' z' (es c a))=some (.sl .full esz (es c a),[]):=by
 subst h;rw[show es c ([]:List α)=[]from rfl];exact appD_full_nil _ _ _ _ _ _ _ _ _ (by simp) (by simp) (.inr rfl)
theorem foldl_flat {α β:Type}(g:α→List β): ∀(l:List α) (L:List β),l.foldl (fun L x=>L ++g x) L=L ++l.flatMap g
 |[],L=>by simp
 |x::l,L=>by rw[List.foldl_cons,foldl_flat g l,List.flatMap_cons,List.append_assoc]
theorem lists_succ(m:Nat)(f:List Int)(b:Nat):listsP (m+1) f b=(List.range (b-fromOf f)).foldl (fun L j=>L ++listsP m (f ++[((fromOf f+j:Nat):Int)]) b) []:=by
 rw[foldl_flat,listsP,List.range'_eq_map_range,List.flatMap_map];rfl
theorem pow8 {m:Nat}(h:m≤7):8^m≤2097152:=by
 have:8^m≤8^7:=Nat.pow_le_pow_right (by omega) h
 omega
set_option maxHeartbeats 4000000 in
theorem e_lists_l(b:Nat)(hb:b≤8)(m:Nat)(f:List Int)(hm:f.length+m+1≤8)(hI: ∀(n:Nat) (lab:Nat) (s:Stk),n<8→den T 67 [.sl .no 1 (es cInt (f ++[(n:Int)])),i64 ((f.length:Int)+m+1),i64 b] lab s=some (.sl .no 1 (es cInts (listsP m (f ++[(n:Int)]) b)),s))(s:Stk):
 Run T b67l0 [(8, .sl (.own s.length 129) 1 []),(0, .sl .no 1 (es cInt f)),(1,i64 ((f.length:Int)+m+1)),(2,i64 b),(8, .sl .full 1 []),(9,i64 (fromOf f:Nat))] ([(129, .tok 0)]::s)=some (.exit 0,[(0, .sl .no 1 (es cInt f)),(1,i64 ((f.length:Int)+m+1)),(2,i64 b),(8, .sl (.own s.length 129) 1 (es cInts ((List.range (b-fromOf f)).foldl (fun L j=>L ++listsP m (f ++[((fromOf f+j:Nat):Int)]) b) []))),(9,i64 ((fromOf f:Int)+((List.range (b-fromOf f)).length:Nat))),(29, .bool false)],[(129, .tok ((List.range (b-fromOf f)).foldl (fun L j=>L ++listsP m (f ++[((fromOf f+j:Nat):Int)]) b) []).length)]::s):=by
 have key:=loop_fold (T:=T) (live:=[0,1,2,8,9]) (keep:=[129,240]) (b:=d67l0) (List.range (b-fromOf f)) (fun k L=>L.length≤k*2097152) (fun L j=>L ++listsP m (f ++[((fromOf f+j:Nat):Int)]) b) (fun k (a:List (List Int))=>[(0, .sl .no 1 (es cInt f)),(1,i64 ((f.length:Int)+m+1)),(2,i64 b),(8, .sl (.own s.length 129) 1 (es cInts a)),(9,i64 ((fromOf f:Int)+(k:Nat)))]) (fun k (a:List (List Int))=>[(129, .tok a.length)]::s) (fun(a:List (List Int))=>(.exit 0,[(0, .sl .no 1 (es cInt f)),(1,i64 ((f.length:Int)+m+1)),(2,i64 b),(8, .sl (.own s.length 129) 1 (es cInts a)),(9,i64 ((fromOf f:Int)+((List.range (b-fromOf f)).length:Nat))),(29, .bool false)],[(129, .tok a.length)]::s)) (by simp) ?_ ?_ ?_ [] (by simp) [(8, .sl (.own s.length 129) 1 []),(0, .sl .no 1 (es cInt f)),(1,i64 ((f.length:Int)+m+1)),(2,i64 b),(8, .sl .full 1 []),(9,i64 (fromOf f:Nat))] ([(129, .tok 0)]::s) (by simp) (by simp)
 ·exact key
 ·intro k a hk hi
  try simp only[List.length_range]at hk
  try simp only[List.getElem_range]
  have hk2:(fromOf f:Int)+k<b:=by omega
  have w1:IntKind.i64.wrap ((fromOf f:Int)+k+1)=(fromOf f:Int)+((k:Int)+1):=by rw[wi _ (by omega) (by omega)];omega
  have hL:=lists_len hb m (f ++[((fromOf f+k:Nat):Int)])
  have hp:=pow8 (m:=m) (by omega)
  have hI2:=fun lab s=>hI (fromOf f+k) lab s (by omega)
  simp only[Int.natCast_add]at hI2 hL⊢
  generalize hx:(fromOf f:Int)+k=x at hk2 w1 hI2 hL⊢
  generalize listsP m (f ++[x]) b=Q at hI2 hL⊢
  have b1:(a.length+Q.length)*24≤140737488355328:=by omega
  have b2:a.length+Q.length<140737488355328:=by omega
  have f1: ¬(140737488355328:Int)<f.length*8:=by omega
  have f2: ¬(140737488355328:Int)≤f.length:=by omega
  have ew:(fromOf f:Int)+((k+1:Nat):Int)=(fromOf f:Int)+((k:Int)+1):=by omega
  by_cases h0:f=[]
  ·simp (maxSteps:=1000000) (disch:=first|omega|assumption|decide +kernel|(simp;done)|(simp;omega)|fail) [hx,hk2,w1,hI2,appK_full_e h0,appK_full,appK_own,b1,b2,f1,f2,ew]
  ·simp (maxSteps:=1000000) (disch:=first|omega|assumption|decide +kernel|(simp;done)|(simp;omega)|fail) [hx,hk2,w1,hI2,h0,appK_full,appK_own1,appK_own,b1,b2,f1,f2,ew]
 ·intro k a hk hi
  try simp only[List.length_range]at hk
  try simp only[List.getElem_range]
  have hL:=lists_len hb m (f ++[((fromOf f+k:Nat):Int)])
  have hp:=pow8 (m:=m) (by omega)
  simp only[List.length_append];omega
 ·intro a hi
  have w: ¬(fromOf f:Int)+((b-fromOf f:Nat):Int)<b:=by omega
  simp[w]
set_option maxHeartbeats 4000000 in
theorem e_lists(b:Nat)(hb:b≤8): ∀(m:Nat) (f:List Int),f.length+m≤8→(∀y∈f,0≤y∧y<8)→ ∀(lab:Nat) (s:Stk),
 den T 67 [.sl .no 1 (es cInt f),i64 ((f.length:Int)+m),i64 b] lab s=some (.sl .no 1 (es cInts (listsP m f b)),s)
 |0,f,_,_=>fun lab s=>by
   rw[den_fn t67 _ _ _ rfl]
   simp only[b67]
   simp[listsP,es]
 |m+1,f,hm,hf=>fun lab s=>by
   have hI: ∀(n:Nat) (lab:Nat) (s:Stk),n<8→den T 67 [.sl .no 1 (es cInt (f ++[(n:Int)])),i64 ((f.length:Int)+m+1),i64 b] lab s=some (.sl .no 1 (es cInts (listsP m (f ++[(n:Int)]) b)),s):=fun n lab s hn=>by
    have:=e_lists b hb m (f ++[(n:Int)]) (by simp;omega) (fun y hy=>by
     rcases List.mem_append.1 hy with h|h
     ·exact hf y h
     ·simp only[List.mem_singleton]at h;omega) lab s
    have e2:(((f ++[(n:Int)]).length:Nat):Int)+m=(f.length:Int)+m+1:=by simp;omega
    rw[e2]at this
    exact this
   have hL:=e_lists_l b hb m f (by omega) hI s
   rw[←lists_succ]at hL
   have em:((m+1:Nat):Int)=(m:Int)+1:=by omega
   have e0:(f.length:Int)+((m:Int)+1)=(f.length:Int)+m+1:=by omega
   have e1: ¬(f.length:Int)=(f.length:Int)+m+1:=by omega
   rw[em,e0]
   rw[den_fn t67 _ _ _ rfl]
   simp only[b67]
   by_cases h0:f=[]
   ·subst h0
    have hfr:fromOf []=0:=rfl
    rw[hfr]at hL
    simp only[List.length_nil,Int.natCast_zero,Int.zero_add,es_nil]at hL e1⊢
    have e2: ¬(0:Int)=(m:Int)+1:=by omega
    simp (maxSteps:=1000000) (disch:=first|omega|assumption|decide +kernel|(simp;done)|(simp;omega)|fail) [hL,e2]
   ·have hl0:=List.length_pos_iff.2 h0
    have hlast:f.getLast? =some f[f.length-1]:=by rw[List.getLast?_eq_getElem?,List.getElem?_eq_getElem]
    have hb1:=hf f[f.length-1] (List.getElem_mem (by omega))
    have hfr:(fromOf f:Int)=f[f.length-1]+1:=by unfold fromOf;rw[hlast];dsimp only;omega
    have w1:IntKind.i64.wrap ((f.length:Int)-1)=(f.length:Int)-1:=wi _ (by omega) (by omega)
    have w2:IntKind.i64.wrap (f[f.length-1]+1)=(fromOf f:Int):=by rw[wi _ (by omega) (by omega),hfr]
    have t1:((f.length:Int)-1).toNat=f.length-1:=by omega
    have t2:0≤(f.length:Int)-1:=by omega
    have t3:0<(f.length:Int):=by omega
    have t4:f.length-1<f.length:=by omega
    have t5: ¬(f.length:Int)<1:=by omega
    simp (maxSteps:=1000000) (disch:=first|omega|assumption|decide +kernel|(simp;done)|(simp;omega)|fail) [hL,e1,w1,w2,t1,t2,t3,t4,t5,hl0]
theorem choices_lists: ∀g,g<6→ ∀h,h<4→(List.range (min h g+1)).foldl (fun L m=>L ++listsP m [] g) []=choicesS h g:=by decide +kernel
theorem choices_bound: ∀g,g<6→ ∀h,h<4→ ∀k,k≤min h g→(listsP k [] g).length≤100:=by decide +kernel
set_option maxHeartbeats 4000000 in
theorem e_ChoicesOf(t:DTrap)(h:DoorOk t)(lab s):den T 48 [.agg (dV t)] lab s=some (.sl .no 1 (es cInts (choicesS t.hands.toNat t.gates.length)),s):=by
 have hgl:=h.gl
 have hha:=h.ha
 have hM:((min t.hands.toNat t.gates.length:Nat):Int)=min t.hands t.gates.length:=by omega
 have key:=loop_fold (T:=Go.Proofs.YtbcjofkfgpbhmaaGreat.T) (live:=[1,3,4]) (keep:=[16,49]) (b:=d48l0) (List.range (min t.hands.toNat t.gates.length+1)) (fun k (a:List (List Int))=>a.length≤100*k) (fun L m=>L ++listsP m [] t.gates.length)
  (fun k a=>[(1, .ptr s.length 16 0),(3, .sl (.own s.length 49) 1 (es cInts a)),(4,i64 (k:Nat))]) (fun _ a=>[(16, .cell (dV t)),(49, .tok a.length)]::s)
  (fun a=>(.exit 0,[(1, .ptr s.length 16 0),(3, .sl (.own s.length 49) 1 (es cInts a)),(4,i64 ((min t.hands.toNat t.gates.length+1:Nat):Int)),(15, .bool false)],[(16, .cell (dV t)),(49, .tok a.length)]::s))
  (by simp) ?_ ?_ ?_ [] (by simp) [(3, .sl (.own s.length 49) 1 []),(1, .ptr s.length 16 0),(3, .sl .full 1 []),(4,i64 0)] ([(16, .cell (dV t)),(49, .tok 0)]::s) (by simp) (by simp)
 ·rw[choices_lists _ (by omega) _ (by omega)]at key
  change Run T b48l0 _ _=_ at key
  generalize choicesS t.hands.toNat t.gates.length=L at*
  rw[den_fn t48 _ _ _ rfl]
  simp only[b48]
  simp (maxSteps:=1000000) (disch:=first|omega|assumption|decide +kernel|(simp;done)|(simp;omega)|fail) [key]
 ·intro k a hk hi
  simp only[List.length_range]at hk
  simp only[List.getElem_range]
  have hk1:(k:Int)≤t.hands:=by omega
  have hk2:(k:Int)≤t.gates.length:=by omega
  have hls:=fun lab s=>e_lists t.gates.length (by omega) k [] (by simp;omega) (by simp) lab s
  simp only[List.length_nil,Int.natCast_zero,Int.zero_add,es_nil]at hls
  have hb:=choices_bound t.gates.length (by omega) t.hands.toNat (by omega) k (by omega)
  generalize listsP k [] t.gates.length=Q at*
  have b1:(a.length+Q.length)*24≤140737488355328:=by omega
  have b2:a.length+Q.length<140737488355328:=by omega
  simp (maxSteps:=1000000) (disch:=first|omega|assumption|decide +kernel|(simp;done)|(simp;omega)|fail) [hk1,hk2,hls,appK_own,b1,b2,wk k (by omega)]
 ·intro k a hk hi
  simp only[List.length_range]at hk
  simp only[List.getElem_range]
  have hb:=choices_bound t.gates.length (by omega) t.hands.toNat (by omega) k (by omega)
  simp only[List.length_append];omega
 ·intro a hi
  simp only[List.length_range]
  by_cases hx:t.hands<t.gates.length
  ·have e1: ¬((min t.hands.toNat t.gates.length+1:Nat):Int)≤t.hands:=by omega
   generalize ((min t.hands.toNat t.gates.length+1:Nat):Int)=N at*
   simp (maxSteps:=1000000) (disch:=first|omega|assumption|decide +kernel|(simp;done)|(simp;omega)|fail) [e1]
  ·have e1: ¬((min t.hands.toNat t.gates.length+1:Nat):Int)≤t.gates.length:=by omega
   generalize ((min t.hands.toNat t.gates.length+1:Nat):Int)=N at*
   by_cases e2:N≤t.hands
   ·simp (maxSteps:=1000000) (disch:=first|omega|assumption|decide +kernel|(simp;done)|(simp;omega)|fail) [e1,e2]
   ·simp (maxSteps:=1000000) (disch:=first|omega|assumption|decide +kernel|(simp;done)|(simp;omega)|fail) [e2]
end Go.Proofs.YtbcjofkfgpbhmaaGreat

/-
  Doors: Ways and Choices, by the program and by the reference; equal lists, equal traps.
-/
namespace Go.Proofs.YtbcjofkfgpbhmaaGreat
open Go.Ab
theorem foldl_snoc {α β:Type}(f:α→β): ∀(l:List α) (a:List β),l.foldl (fun a x=>a ++[f x]) a=a ++l.map f
 |[],a=>by simp
 |x::l,a=>by rw[List.foldl_cons,foldl_snoc f l];simp
end Go.Proofs.YtbcjofkfgpbhmaaGreat

/-
  DoorsWays: its equation.
-/
namespace Go.Proofs.YtbcjofkfgpbhmaaGreat
open Go.Ab
theorem same_l0(t:DTrap)(hg:t.gates.length≤40)(s:Stk):
 Run T b11l0 [(2, .ptr s.length 32 0),(3, .ptr s.length 48 0),(5,i64 0)] ([(32, .cell (dV t)),(48, .cell (dV t))]::s)=some (.exit 0,[(2, .ptr s.length 32 0),(3, .ptr s.length 48 0),(5,i64 t.gates.length),(48, .bool false)],[(32, .cell (dV t)),(48, .cell (dV t))]::s):=by
 have key:=loop_fold (T:=Go.Proofs.YtbcjofkfgpbhmaaGreat.T) (live:=[2,3,5]) (keep:=[32,48]) (b:=d11l0) (List.range t.gates.length) (fun _ (_:Unit)=>True) (fun a _=>a)
  (fun k _=>[(2, .ptr s.length 32 0),(3, .ptr s.length 48 0),(5,i64 (k:Nat))]) (fun _ _=>[(32, .cell (dV t)),(48, .cell (dV t))]::s)
  (fun _=>(.exit 0,[(2, .ptr s.length 32 0),(3, .ptr s.length 48 0),(5,i64 t.gates.length),(48, .bool false)],[(32, .cell (dV t)),(48, .cell (dV t))]::s))
  (by simp) ?_ (by simp) ?_ () trivial [(2, .ptr s.length 32 0),(3, .ptr s.length 48 0),(5,i64 0)] ([(32, .cell (dV t)),(48, .cell (dV t))]::s) (by simp) (by simp)
 ·exact key
 ·intro k _ hk _
  simp only[List.length_range]at hk
  have hk2:(k:Int)<t.gates.length:=by omega
  generalize hG:t.gates[k]=G at*
  simp (maxSteps:=1000000) (disch:=first|omega|assumption|decide +kernel|(simp;done)|(simp;omega)|fail) [run_drawnK,orSlow_none,hk,hk2,hG,wk k (by omega)]
 ·intro _ _
  simp
theorem same_l1(t:DTrap)(hg:t.groups.length≤40)(s:Stk):
 Run T b11l1 [(2, .ptr s.length 32 0),(3, .ptr s.length 48 0),(6,i64 0)] ([(32, .cell (dV t)),(48, .cell (dV t))]::s)=some (.exit 2,[(2, .ptr s.length 32 0),(3, .ptr s.length 48 0),(6,i64 t.groups.length),(66, .bool false)],[(32, .cell (dV t)),(48, .cell (dV t))]::s):=by
 have key:=loop_fold (T:=Go.Proofs.YtbcjofkfgpbhmaaGreat.T) (live:=[2,3,6]) (keep:=[32,48]) (b:=d11l1) (List.range t.groups.length) (fun _ (_:Unit)=>True) (fun a _=>a)
  (fun k _=>[(2, .ptr s.length 32 0),(3, .ptr s.length 48 0),(6,i64 (k:Nat))]) (fun _ _=>[(32, .cell (dV t)),(48, .cell (dV t))]::s)
  (fun _=>(.exit 2,[(2, .ptr s.length 32 0),(3, .ptr s.length 48 0),(6,i64 t.groups.length),(66, .bool false)],[(32, .cell (dV t)),(48, .cell (dV t))]::s))
  (by simp) ?_ (by simp) ?_ () trivial [(2, .ptr s.length 32 0),(3, .ptr s.length 48 0),(6,i64 0)] ([(32, .cell (dV t)),(48, .cell (dV t))]::s) (by simp) (by simp)
 ·exact key
 ·intro k _ hk _
  simp only[List.length_range]at hk
  have hk2:(k:Int)<t.groups.length:=by omega
  generalize hG:t.groups[k]=G at*
  simp (maxSteps:=1000000) (disch:=first|omega|assumption|decide +kernel|(simp;done)|(simp;omega)|fail) [run_drawnK,orSlow_none,hk,hk2,hG,wk k (by omega)]
 ·intro _ _
  simp
set_option maxHeartbeats 2000000 in
theorem e_SameD(t:DTrap)(hg:t.gates.length≤40)(hr:t.groups.length≤40)(lab s):den T 11 [.agg (dV t), .agg (dV t)] lab s=some (.bool true,s):=by
 have h0:=same_l0 t hg s
 have h1:=same_l1 t hr s
 rw[den_fn t11 _ _ _ rfl]
 simp only[b11]
 simp (maxSteps:=1000000) (disch:=first|omega|assumption|decide +kernel|(simp;done)|(simp;omega)|fail) [h0,h1]
end Go.Proofs.YtbcjofkfgpbhmaaGreat

/-
  Doors: reaches, the whole.
-/
import Derived.Test.YtbcjofkfgpbhmaaEq2
import Derived.Test.YtbcjofkfgpbhmaaEq1
set_option linter.unusedSimpArgs false
set_option linter.unusedVariables false
namespace Go.Proofs.Ytbcjofkfgpbhmaa
open Go.Ab
theorem foldB_anyC {α σ:Type}(p:α→Bool)(f:σ→α→σ): ∀(l:List α) (a:σ),∃a',foldB (fun(q:σ×Bool) x=>if p x=true then((f q.1 x,true),false)else((f q.1 x,false),true)) l (a,false)=((a',l.any p),!l.any p)
 |[],a=>⟨a,rfl⟩
 |x::l,a=>by
   simp only[foldB]
   cases hp:p x
   ·obtain⟨a',e⟩:=foldB_anyC p f l (f a x)
    exact⟨a',by simp only[Bool.false_eq_true,if_false,if_true,List.any_cons,hp,Bool.false_or];exact e⟩
   ·exact⟨f a x,by simp[hp]⟩
theorem foldB_not {α σ:Type} {f:σ→α→σ×Bool} {p:α→Bool}: ∀ {l:List α} {a:σ},(∀a x,x∈l→(f a x).2= !p x)→(foldB f l a).2= !l.any p
 |[],a,_=>rfl
 |x::l,a,h=>by
   have hx:=h a x (by simp)
   simp only[foldB,List.any_cons]
   cases hp:p x
   ·rw[hp]at hx
    simp only[Bool.not_false]at hx
    rw[if_pos hx,foldB_not fun a y hy=>h a y (by simp[hy])];rfl
   ·rw[hp]at hx
    simp only[Bool.not_true]at hx
    rw[if_neg (by rw[hx];simp),hx];rfl
theorem reach_fold(t:DTrap)(k o2:Nat)(f)(n:List Int)(K:MemC t):(foldD t o2 n (reachY t k o2 f) (K,false)).1.2=((movesO t o2 n).any fun m=>cO t k o2 (m ++n.drop t.groups.length))∧(foldD t o2 n (reachY t k o2 f) (K,false)).2= !((movesO t o2 n).any fun m=>cO t k o2 (m ++n.drop t.groups.length)):=by
 obtain⟨a',e⟩:=foldB_anyC (fun m=>cO t k o2 (m ++n.drop t.groups.length)) (fun(K:MemC t) m=>f o2 (m ++n.drop t.groups.length) K) (movesO t o2 n) K
 have:foldD t o2 n (reachY t k o2 f) (K,false)=_:=e
 rw[this]
 exact⟨rfl,rfl⟩
def stepC(t:DTrap)(k:Nat)(f:Nat→List Int→MemC t→MemC t)(o:Nat)(n:List Int)(K:MemC t)(c:Nat):MemC t×Bool:=
 ((foldD t (xorN o c) n (reachY t k (xorN o c) f) (K,false)).1.1,(foldD t (xorN o c) n (reachY t k (xorN o c) f) (K,false)).2)
def canK(t:DTrap):Nat→Nat→List Int→MemC t→MemC t
 |0,_,_,K=>K
 |k+1,o,n,K=>if 0<(kvGet K.1 (keyD (k+1) o n)).getD 0 then K else
   if (foldB (stepC t k (canK t k) o n) (cN t) K).2=true then(foldB (stepC t k (canK t k) o n) (cN t) K).1.put (keyD (k+1) o n)else(foldB (stepC t k (canK t k) o n) (cN t) K).1
theorem canK_keep(t:DTrap)(k:Nat): ∀(o:Nat) (n:List Int) (K:MemC t) (key:List Int),(k:Int)<key.headD 0→kvGet (canK t k o n K).1 key=kvGet K.1 key:=by
 induction k with
 |zero=>intro o n K key _;rfl
 |succ k ih=>
   intro o n K key hk
   have hs: ∀(a:MemC t) c,kvGet (stepC t k (canK t k) o n a c).1.1 key=kvGet a.1 key:=fun a c=>by
    refine foldB_inv (I:=fun q:MemC t×Bool=>kvGet q.1.1 key=kvGet a.1 key) (fun q x _ hq=> ?_) rfl
    simp only[reachY]
    split<;>(simp only;rw[ih _ _ _ _ (by omega),hq])
   have hf:kvGet (foldB (stepC t k (canK t k) o n) (cN t) K).1.1 key=kvGet K.1 key:=foldB_inv (I:=fun a:MemC t=>kvGet a.1 key=kvGet K.1 key) (fun a x _ ha=>by rw[hs,ha]) rfl
   simp only[canK]
   split
   ·rfl
   ·split
    ·simp only[Mem.put]
     rw[kvGet_put,if_neg (fun e=>by rw[e]at hk;simp[keyD]at hk),hf]
    ·exact hf
theorem kvIdx_none: ∀ {kvs:List (List Int×Int)} {k:List Int},kvGet kvs k=none→kvIdx kvs k=kvs.length
 |[],_,_=>rfl
 |x::r,k,h=>by
   simp only[kvGet]at h
   split at h
   ·cases h
   ·rename_i hk
    simp only[kvIdx,if_neg hk,kvIdx_none h,List.length_cons]
theorem kvPut_app: ∀ {kvs:List (List Int×Int)} {k:List Int} (v:Int),kvGet kvs k=none→kvPut kvs k v=kvs ++[(k,v)]
 |[],_,_,_=>rfl
 |x::r,k,v,h=>by
   simp only[kvGet]at h
   split at h
   ·cases h
   ·rename_i hk
    simp only[kvPut,if_neg hk,kvPut_app v h,List.cons_append]
theorem kvSet_put {kvs:List (List Int×Int)} {k:List Int}(h:kvGet kvs k=none)(v:Int):kvSet (kvPut kvs k 0) (kvIdx kvs k) v=kvPut kvs k v:=by
 rw[kvPut_app _ h,kvPut_app _ h,kvIdx_none h]
 unfold kvSet
 apply List.ext_getElem?
 intro i
 rw[List.getElem?_modify]
 by_cases hi:kvs.length=i
 ·subst hi;simp
 ·simp only[if_neg hi]
  by_cases hl:i<kvs.length
  ·simp[List.getElem?_append,hl]
  ·rw[List.getElem?_eq_none (by simp;omega),List.getElem?_eq_none (by simp;omega)];rfl
def reachOps:List AOper:=[⟨some 41, .load none (.t 5),none,[],[]⟩,⟨some 42, .load (some 5) (.t 4),none,[],[]⟩,⟨some 43, .mget (some 5) false (.t 41) (.t 42),none,[0,1],[999999]⟩,⟨some 44, .bin .add (.t 43) (.c (i64 1)),none,[2,0,1],[999999]⟩,⟨some 45, .ment (some 5) (.t 41) (.t 42),none,[0,1],[]⟩,⟨some 46, .ext (.t 45) 1,none,[4,0,1],[]⟩,⟨none, .mest (.t 41) (.t 46) (.t 44),none,[3,5,2,4,0,1],[]⟩]
theorem reachOps_pre: ∀(i:Nat) o,reachOps[i]? =some o→ ∀p∈o.pre,p<i:=by
 intro i o h
 match i with
 |0|1|2|3|4|5|6=>simp[reachOps]at h;subst h;simp
 |i+7=>simp[reachOps]at h
structure ReachI(mp:V)(cs:List V)(ix:Int)(p4 p5 p6:V)(done:List Nat)(e:Env):Prop where
 g4:e.get 4=p4
 g5:e.get 5=p5
 g6:e.get 6=p6
 h0:0∈done→e.get 41=mp
 h1:1∈done→e.get 42= .agg cs
 h2:2∈done→e.get 43=i64 0
 h3:3∈done→e.get 44=i64 1
 h4:4∈done→e.get 45= .tup [i64 0,i64 ix]
 h5:5∈done→e.get 46=i64 ix
 c6:6∈done→4∈done
 c26:6∈done→2∈done
set_option maxHeartbeats 4000000 in
theorem reach_region {t:DTrap} {C:List Int} {m:V} {dg lg dm lm L:Nat} {S:List (List Int×Int)→Stk}(G:GameD t C m dg lg dm lm L S)(F:Ab.Loc)(a0 a1 a2 a3 a4:Int)(hF:F.get 80=some (.cell [.mp (.ptr dm lm 0)]))(hF2:F.get 64=some (.cell [i64 a0,i64 a1,i64 a2,i64 a3,i64 a4]))
 (kvs:List (List Int×Int)) (hn0:kvGet kvs [a0,a1,a2,a3,a4]=none) (e0:Env) (x4:e0.get 4= .ptr L 64 0) (x5:e0.get 5= .ptr L 80 0) (x6:e0.get 6= .ptr L 96 0):
 runAny T (Run T) reachOps [6] reachOps [] e0 (F::S kvs)=some ([(6, .ptr L 96 0)],F::S (kvPut kvs [a0,a1,a2,a3,a4] 1)):=by
 have hm: ¬dm=L:=by have:=G.ltm;omega
 have hL:=G.len
 have hidx:=kvIdx_none hn0
 have hset:=kvSet_put hn0 1
 have hlen:(kvPut kvs [a0,a1,a2,a3,a4] 0).length=kvs.length+1:=by rw[kvPut_app _ hn0];simp
 have hnp:kvGet (kvPut kvs [a0,a1,a2,a3,a4] 0) [a0,a1,a2,a3,a4]=some 0:=by rw[kvGet_put,if_pos rfl]
 have f80: ∀K,sget (F::S K) L 80=some (.cell [.mp (.ptr dm lm 0)]):=fun K=>by rw[←hL K,sget_top,hF]
 have f64: ∀K,sget (F::S K) L 64=some (.cell [i64 a0,i64 a1,i64 a2,i64 a3,i64 a4]):=fun K=>by rw[←hL K,sget_top,hF2]
 have fm: ∀K,sget (F::S K) dm lm=some (.mp (some 5) K):=fun K=>by rw[sget_cons,if_neg (by rw[hL];exact hm),G.mem]
 have pm: ∀K K',sput (F::S K) dm lm (.mp (some 5) K')=F::S K':=fun K K'=>by rw[sput_cons,if_neg (by rw[hL];exact hm),G.put]
 rw[hidx]at hset
 generalize hP0:kvPut kvs [a0,a1,a2,a3,a4] 0=P0 at*
 generalize hP1:kvPut kvs [a0,a1,a2,a3,a4] 1=P1 at*
 refine runAny_start (fun done e s=>ReachI (.mp (.ptr dm lm 0)) [i64 a0,i64 a1,i64 a2,i64 a3,i64 a4] (kvs.length:Nat) (.ptr L 64 0) (.ptr L 80 0) (.ptr L 96 0) done e∧s=F::S (if 6∈done then P1 else if 4∈done then P0 else kvs)) _ ?_ ?_ ?_
 ·exact⟨⟨x4,x5,x6,by simp,by simp,by simp,by simp,by simp,by simp,by simp,by simp⟩,by simp⟩
 ·intro done e s ⟨h,hs⟩ hr
  have hall:=ready_all hr reachOps_pre
  simp[Env.only,h.g6,hs,hall 6 (by simp[reachOps])]
 ·intro done e s i o ⟨h,hs⟩ ho hn hp
  match i with
  |0=>
    simp[reachOps]at ho;subst ho
    rw[hs]at*
    refine⟨(41, .mp (.ptr dm lm 0))::e,F::S (if 6∈done then P1 else if 4∈done then P0 else kvs),by simp[h.g5,f80],⟨⟨by simp[h.g4],by simp[h.g5],by simp[h.g6],fun _=>by simp,fun hm=>by have:=h.h1 (by simpa using hm);simpa using this,fun hm=>by have:=h.h2 (by simpa using hm);simpa using this,fun hm=>by have:=h.h3 (by simpa using hm);simpa using this,fun hm=>by have:=h.h4 (by simpa using hm);simpa using this,fun hm=>by have:=h.h5 (by simpa using hm);simpa using this,fun hm=>by have:=h.c6 (by simpa using hm);simp[this],fun hm=>by have:=h.c26 (by simpa using hm);simp[this]⟩,by simp⟩⟩
  |1=>
    simp[reachOps]at ho;subst ho
    rw[hs]at*
    refine⟨(42, .agg [i64 a0,i64 a1,i64 a2,i64 a3,i64 a4])::e,F::S (if 6∈done then P1 else if 4∈done then P0 else kvs),by simp[h.g4,f64],⟨⟨by simp[h.g4],by simp[h.g5],by simp[h.g6],fun hm=>by have:=h.h0 (by simpa using hm);simpa using this,fun _=>by simp,fun hm=>by have:=h.h2 (by simpa using hm);simpa using this,fun hm=>by have:=h.h3 (by simpa using hm);simpa using this,fun hm=>by have:=h.h4 (by simpa using hm);simpa using this,fun hm=>by have:=h.h5 (by simpa using hm);simpa using this,fun hm=>by have:=h.c6 (by simpa using hm);simp[this],fun hm=>by have:=h.c26 (by simpa using hm);simp[this]⟩,by simp⟩⟩
  |2=>
    simp[reachOps]at ho;subst ho
    have m0:=hp 0 (by simp)
    have m1:=hp 1 (by simp)
    have hg0:(kvGet (if 6∈done then P1 else if 4∈done then P0 else kvs) [a0,a1,a2,a3,a4]).getD 0=0:=by
     have n6:6∉done:=fun h6=>hn (h.c26 h6)
     rw[if_neg n6]
     split
     ·rw[hnp];rfl
     ·rw[hn0];rfl
    rw[hs]at*
    refine⟨(43,i64 0)::e,F::S (if 6∈done then P1 else if 4∈done then P0 else kvs),by simp[h.h0 m0,h.h1 m1,fm,hg0],⟨⟨by simp[h.g4],by simp[h.g5],by simp[h.g6],fun hm=>by have:=h.h0 (by simpa using hm);simpa using this,fun hm=>by have:=h.h1 (by simpa using hm);simpa using this,fun _=>by simp,fun hm=>by have:=h.h3 (by simpa using hm);simpa using this,fun hm=>by have:=h.h4 (by simpa using hm);simpa using this,fun hm=>by have:=h.h5 (by simpa using hm);simpa using this,fun hm=>by have:=h.c6 (by simpa using hm);simp[this],fun hm=>by have:=h.c26 (by simpa using hm);simp[this]⟩,by simp⟩⟩
  |3=>
    simp[reachOps]at ho;subst ho
    have m0:=hp 0 (by simp)
    have m1:=hp 1 (by simp)
    have m2:=hp 2 (by simp)
    refine⟨(44,i64 1)::e,s,by simp[h.h2 m2,show IntKind.i64.wrap 1=1 by decide],⟨⟨by simp[h.g4],by simp[h.g5],by simp[h.g6],fun hm=>by have:=h.h0 (by simpa using hm);simpa using this,fun hm=>by have:=h.h1 (by simpa using hm);simpa using this,fun hm=>by have:=h.h2 (by simpa using hm);simpa using this,fun _=>by simp,fun hm=>by have:=h.h4 (by simpa using hm);simpa using this,fun hm=>by have:=h.h5 (by simpa using hm);simpa using this,fun hm=>by have:=h.c6 (by simpa using hm);simp[this],fun hm=>by have:=h.c26 (by simpa using hm);simp[this]⟩,by simpa using hs⟩⟩
  |4=>
    simp[reachOps]at ho;subst ho
    have m0:=hp 0 (by simp)
    have m1:=hp 1 (by simp)
    have n6:6∉done:=fun h6=>hn (h.c6 h6)
    rw[if_neg n6,if_neg hn]at hs
    subst hs
    refine⟨(45, .tup [i64 0,i64 (kvs.length:Nat)])::e,F::S P0,by simp[h.h0 m0,h.h1 m1,fm,pm,hn0,hidx,hP0],⟨⟨by simp[h.g4],by simp[h.g5],by simp[h.g6],fun hm=>by have:=h.h0 (by simpa using hm);simpa using this,fun hm=>by have:=h.h1 (by simpa using hm);simpa using this,fun hm=>by have:=h.h2 (by simpa using hm);simpa using this,fun hm=>by have:=h.h3 (by simpa using hm);simpa using this,fun _=>by simp,fun hm=>by have:=h.h5 (by simpa using hm);simpa using this,fun hm=>by have:=h.c6 (by simpa using hm);simp[this],fun hm=>by have:=h.c26 (by simpa using hm);simp[this]⟩,by simp[n6]⟩⟩
  |5=>
    simp[reachOps]at ho;subst ho
    have m0:=hp 0 (by simp)
    have m1:=hp 1 (by simp)
    have m4:=hp 4 (by simp)
    refine⟨(46,i64 (kvs.length:Nat))::e,s,by simp[h.h4 m4],⟨⟨by simp[h.g4],by simp[h.g5],by simp[h.g6],fun hm=>by have:=h.h0 (by simpa using hm);simpa using this,fun hm=>by have:=h.h1 (by simpa using hm);simpa using this,fun hm=>by have:=h.h2 (by simpa using hm);simpa using this,fun hm=>by have:=h.h3 (by simpa using hm);simpa using this,fun hm=>by have:=h.h4 (by simpa using hm);simpa using this,fun _=>by simp,fun hm=>by have:=h.c6 (by simpa using hm);simp[this],fun hm=>by have:=h.c26 (by simpa using hm);simp[this]⟩,by simpa using hs⟩⟩
  |6=>
    simp[reachOps]at ho;subst ho
    have m0:=hp 0 (by simp)
    have m1:=hp 1 (by simp)
    have m2:=hp 2 (by simp)
    have m3:=hp 3 (by simp)
    have m4:=hp 4 (by simp)
    have m5:=hp 5 (by simp)
    rw[if_neg hn,if_pos m4]at hs
    subst hs
    refine⟨e,F::S P1,by simp[h.h0 m0,h.h5 m5,h.h3 m3,fm,pm,hlen,hset,show(kvs.length:Int)<(kvs.length:Int)+1 by omega],⟨⟨by simp[h.g4],by simp[h.g5],by simp[h.g6],fun hm=>by have:=h.h0 (by simpa using hm);simpa using this,fun hm=>by have:=h.h1 (by simpa using hm);simpa using this,fun hm=>by have:=h.h2 (by simpa using hm);simpa using this,fun hm=>by have:=h.h3 (by simpa using hm);simpa using this,fun hm=>by have:=h.h4 (by simpa using hm);simpa using this,fun hm=>by have:=h.h5 (by simpa using hm);simpa using this,fun hm=>by simp[m4],fun hm=>by simp[m2]⟩,by simp⟩⟩
  |i+7=>simp[reachOps]at ho
end Go.Proofs.Ytbcjofkfgpbhmaa

/-
  Doors: reaches, the end.
-/
namespace Go.Proofs.Ytbcjofkfgpbhmaa
open Go.Ab
theorem caught_take(n:Nat): ∀(f p:List Int) (k:Nat),f.length≤k→caughtS n f (p.take k)=caughtS n f p:=by
 intro f
 induction f with
 |nil=>intro p k _;simp[caughtS]
 |cons x f ih=>
   intro p k hk
   cases p with
   |nil=>simp
   |cons y p=>
     cases k with
     |zero=>simp at hk
     |succ k=>simp only[List.take_succ_cons,caughtS,ih p k (by simpa using hk)]
abbrev RetG(L:Nat):= {p:Env×Ab.Loc//p.1.get 6= .ptr L 96 0∧p.2.get 96=some (.cell [.bool true])}
instance (L:Nat):Inhabited (RetG L):=⟨⟨([(6, .ptr L 96 0)],[(96, .cell [.bool true])]),rfl,rfl⟩⟩
set_option maxHeartbeats 8000000 in
theorem e_reaches {t:DTrap}(h:DoorOk t)(k:Nat):k≤4→CanD t (chB t) k (canK t k):=by
 induction k with
 |zero=>
   intro _ m dg lg dm lm L S G o n K lab ho hn
   obtain⟨x0,x1,x2,rfl⟩: ∃x0 x1 x2,n=[x0,x1,x2]:=by
    match n,hn.1 with
    |[x0,x1,x2],_=>exact⟨x0,x1,x2,rfl⟩
   have hL:=G.len K.1
   have hd:=G.ltg
   have hc:=fun lab=>e_caught t h.ol h.ch (fun g hg=>(h.groups g hg).2) (chB t) m x0 x1 x2 dg lg ([(48, .cell [.ptr dg lg 0]),(64, .cell [i64 0,i64 (o:Nat),i64 x0,i64 x1,i64 x2]),(80, .cell [.mp (.ptr dm lm 0)]),(96, .cell [.bool false])]::S K.1) (by simp only[List.length_cons];omega) (by rw[sget_cons,if_neg (by omega),G.game]) lab
   have e:cO t 0 o [x0,x1,x2]=decide (0<caughtS t.chambers.toNat (fishL t) [x0,x1,x2]):=by
    unfold cO
    simp only[canG]
    rw[caught_take _ _ _ _ (by simp[fishL])]
   rw[e]
   simp only[canK]
   generalize caughtS t.chambers.toNat (fishL t) [x0,x1,x2]=w at*
   generalize S K.1=X at*
   subst hL
   simp only[sceneL,List.map_cons,List.map_nil,Int.natCast_zero]
   change den T _ [_, .agg [i64 0,_,_,_,_],_] _ _=_
   rw[den_fn t73 _ _ _ rfl]
   simp only[b73]
   simp (maxSteps:=1000000) (disch:=first|omega|assumption|decide +kernel|(simp;done)|(simp;omega)|fail) [hc]
 |succ k ih0=>
   intro hk m dg lg dm lm L S G o n K lab ho hn
   have ih:= @ih0 (by omega)
   obtain⟨x0,x1,x2,rfl⟩: ∃x0 x1 x2,n=[x0,x1,x2]:=by
    match n,hn.1 with
    |[x0,x1,x2],_=>exact⟨x0,x1,x2,rfl⟩
   have hL:=G.len
   have hd:=G.ltg
   have hd2:=G.ltm
   have e1: ¬dg=L:=by omega
   have e2: ¬dm=L:=by omega
   have hga:=G.game
   have hme:=G.mem
   have hpu:=G.put
   have hw:=cKey_key t (k+1) o (n:=[x0,x1,x2]) rfl
   have hT:(((k+1:Nat):Int)=0)=False:=by simp;omega
   have hkk:((k+1:Nat):Int)-1=(k:Nat):=by omega
   have hsc:=cO_succ h k o hn
   have hcl:(chB t).length=(cN t).length:=by simp[chB,natI]
   have hlen:(cN t).length≤32:=by rw[←hcl];exact(chB_len h).2.2
   have key:=loop_list_e (T:=Go.Proofs.Ytbcjofkfgpbhmaa.T) (γ:=RetG L) (live:=[3,4,5,6,25,26,27]) (keep:=[48,64,80,96,256]) (b:=d73l0) (cN t) (fun _ (_:MemC t)=>True)
    (fun j _=>[(3, .ptr L 48 0),(4, .ptr L 64 0),(5, .ptr L 80 0),(6, .ptr L 96 0),(25, .sl .no 1 (es cInt (chB t))),(26,i64 (chB t).length),(27,i64 (j:Nat))])
    (fun _ K=>[(48, .cell [.ptr dg lg 0]),(64, .cell [i64 ((k+1:Nat):Int),i64 (o:Nat),i64 x0,i64 x1,i64 x2]),(80, .cell [.mp (.ptr dm lm 0)]),(96, .cell [.bool false])]::S K.1)
    (stepC t k (canK t k) o [x0,x1,x2])
    (fun g K=>(.ret,g.1.1,g.1.2::S K.1))
    (fun K=>(.exit 0,[(3, .ptr L 48 0),(4, .ptr L 64 0),(5, .ptr L 80 0),(6, .ptr L 96 0),(25, .sl .no 1 (es cInt (chB t))),(26,i64 (chB t).length),(27,i64 (cN t).length),(28, .bool false)],[(48, .cell [.ptr dg lg 0]),(64, .cell [i64 ((k+1:Nat):Int),i64 (o:Nat),i64 x0,i64 x1,i64 x2]),(80, .cell [.mp (.ptr dm lm 0)]),(96, .cell [.bool false])]::S K.1))
    (by simp) (by simp) ?_ ?_ K trivial [(3, .ptr L 48 0),(4, .ptr L 64 0),(5, .ptr L 80 0),(6, .ptr L 96 0),(25, .sl .no 1 (es cInt (chB t))),(26,i64 (chB t).length),(27,i64 0)] ([(48, .cell [.ptr dg lg 0]),(64, .cell [i64 ((k+1:Nat):Int),i64 (o:Nat),i64 x0,i64 x1,i64 x2]),(80, .cell [.mp (.ptr dm lm 0)]),(96, .cell [.bool false])]::S K.1) (by simp[hL,e1,e2]) (by simp[hL,e1,e2])
   ·obtain⟨g,hg⟩:=key
    change Run Go.Proofs.Ytbcjofkfgpbhmaa.T b73l0 _ _=_ at hg
    have hany:(foldB (stepC t k (canK t k) o [x0,x1,x2]) (cN t) K).2= !cO t (k+1) o [x0,x1,x2]:=by
     rw[hsc]
     exact foldB_not fun a c _=>(reach_fold t k (xorN o c) (canK t k) [x0,x1,x2] a).2
    have hkeep:kvGet (foldB (stepC t k (canK t k) o [x0,x1,x2]) (cN t) K).1.1 (keyD (k+1) o [x0,x1,x2])=kvGet K.1 (keyD (k+1) o [x0,x1,x2]):=by
     refine foldB_inv (I:=fun a:MemC t=>kvGet a.1 (keyD (k+1) o [x0,x1,x2])=kvGet K.1 (keyD (k+1) o [x0,x1,x2])) (fun a c _ ha=> ?_) rfl
     rw[←ha]
     refine foldB_inv (I:=fun q:MemC t×Bool=>kvGet q.1.1 (keyD (k+1) o [x0,x1,x2])=kvGet a.1 (keyD (k+1) o [x0,x1,x2])) (fun q x _ hq=> ?_) rfl
     simp only[reachY]
     split<;>(simp only;rw[canK_keep _ _ _ _ _ _ (by simp[keyD];omega),hq])
    have hr: ∀v,kvGet K.1 (keyD (k+1) o [x0,x1,x2])=some v→v=if cO t (k+1) o [x0,x1,x2]=true then 0 else 1:=fun v hv=>by rw[←hw];exact K.2 _ _ hv
    simp only[canK]
    rw[hany]at hg⊢
    obtain⟨⟨ge,gl⟩,hg1,hg2⟩:=g
    simp only at hg1 hg2 hg
    generalize foldB (stepC t k (canK t k) o [x0,x1,x2]) (cN t) K=Q at*
    obtain⟨K2,bb⟩:=Q
    simp only at hkeep hg hany⊢
    simp only[keyD]at hr hkeep⊢
    by_cases hpos:0<(kvGet K.1 [((k+1:Nat):Int),(o:Nat),x0,x1,x2]).getD 0
    ·have hco:cO t (k+1) o [x0,x1,x2]=false:=by
      cases hv:kvGet K.1 [((k+1:Nat):Int),(o:Nat),x0,x1,x2]with
      |none=>rw[hv]at hpos;simp at hpos
      |some v=>
        have:=hr v hv
        rw[hv]at hpos
        simp only[Option.getD_some]at hpos
        cases hc:cO t (k+1) o [x0,x1,x2]
        ·rfl
        ·rw[hc,if_pos rfl]at this;omega
     rw[if_pos hpos,hco]
     simp only[sceneL,List.map_cons,List.map_nil]
     generalize hTT:((k+1:Nat):Int)=T1 at*
     rw[den_fn t73 _ _ _ rfl]
     simp only[b73]
     simp (maxSteps:=1000000) (disch:=first|omega|assumption|decide +kernel|(simp;done)|(simp;omega)|fail) [hL,hga,hme,e1,e2,hT,hpos]
    ·rw[if_neg hpos]
     simp only[sceneL,List.map_cons,List.map_nil]
     cases hco:cO t (k+1) o [x0,x1,x2]
     ·have hnone:kvGet K2.1 [((k+1:Nat):Int),(o:Nat),x0,x1,x2]=none:=by
       rw[hkeep]
       cases hv:kvGet K.1 [((k+1:Nat):Int),(o:Nat),x0,x1,x2]with
       |none=>rfl
       |some v=>
         have:=hr v hv
         rw[hco]at this
         rw[hv]at hpos
         simp at this hpos
         omega
      rw[hco]at hg
      simp only[Bool.not_false,if_true]at hg⊢
      have hput:(K2.put [((k+1:Nat):Int),(o:Nat),x0,x1,x2]).1=kvPut K2.1 [((k+1:Nat):Int),(o:Nat),x0,x1,x2] 1:=by
       show kvPut _ _ (cKey t (keyD (k+1) o [x0,x1,x2]))=_
       rw[hw,hco];rfl
      rw[hput]
      have hreg:=reach_region G [(48, .cell [.ptr dg lg 0]),(64, .cell [i64 ((k+1:Nat):Int),i64 (o:Nat),i64 x0,i64 x1,i64 x2]),(80, .cell [.mp (.ptr dm lm 0)]),(96, .cell [.bool false])] ((k+1:Nat):Int) (o:Nat) x0 x1 x2 rfl rfl K2.1 hnone [(3, .ptr L 48 0),(4, .ptr L 64 0),(5, .ptr L 80 0),(6, .ptr L 96 0),(25, .sl .no 1 (es cInt (chB t))),(26,i64 (chB t).length),(27,i64 (cN t).length),(28, .bool false)] rfl rfl rfl
      simp only[reachOps]at hreg
      generalize hTT:((k+1:Nat):Int)=T1 at*
      generalize chB t=C at*
      rw[den_fn t73 _ _ _ rfl]
      simp only[b73]
      simp (maxSteps:=1000000) (disch:=first|omega|assumption|decide +kernel|(simp;done)|(simp;omega)|fail) [run_each2,hL,hga,hme,e1,e2,hT,hpos,hg,hreg]
     ·rw[hco]at hg
      simp only[Bool.not_true,Bool.false_eq_true,if_false]at hg⊢
      generalize hTT:((k+1:Nat):Int)=T1 at*
      generalize chB t=C at*
      rw[den_fn t73 _ _ _ rfl]
      simp only[b73]
      simp (maxSteps:=1000000) (disch:=first|omega|assumption|decide +kernel|(simp;done)|(simp;omega)|fail) [hL,hga,hme,e1,e2,hT,hpos,hg,hg1,hg2]
   ·intro j K2 hj _
    have hj2:(j:Int)<(chB t).length:=by omega
    have hj3:j<(chB t).length:=by omega
    have hcj:(chB t)[j]=((cN t)[j]:Int):=by simp[chB,natI]
    have hc:=cN_lt h (List.getElem_mem hj)
    generalize (cN t)[j]=c at*
    have ho2:xorN o c<32:=Nat.xor_lt_two_pow (n:=5) ho hc
    have y:=reach_yield t (chB t) k (canK t k) ih G j ((k+1:Nat):Int) (((k+1:Nat):Int)-1) hkk o (xorN o c) ho2 [x0,x1,x2]
    obtain⟨n',hn',hl⟩:=e_loopD t h ho2 hn y (K2,false) rfl
    have hm:=fun(loc:Ab.Loc) lab=>e_moves ((k+1:Nat):Int) o c (by omega) x0 x1 x2 ho hc dg lg lab loc (S K2.1) (by rw[hL];omega)
    obtain⟨r1,r2⟩:=reach_fold t k (xorN o c) (canK t k) [x0,x1,x2] K2
    unfold stepC
    generalize foldD t (xorN o c) [x0,x1,x2] (reachY t k (xorN o c) (canK t k)) (K2,false)=Q at*
    obtain⟨⟨K3,fb⟩,bb⟩:=Q
    simp only at r1 r2 hl⊢
    rw[←r1]at r2
    subst r2
    clear r1 y ih ih0
    simp only[hL]at hm
    simp only[reachSt,reachF,reachE,sceneL,List.map_cons,List.map_nil,Nat.reduceAdd]at hl hm
    generalize xorN o c=o2 at*
    generalize hTT:((k+1:Nat):Int)=T1 at*
    generalize chB t=C at*
    cases fb
    ·refine⟨fun _=>⟨?_,trivial⟩,fun hb=>by simp at hb⟩
     simp only[Bool.false_eq_true,if_false]at hl
     simp (maxSteps:=1000000) (disch:=first|omega|assumption|decide +kernel|(simp;done)|(simp;omega)|fail) [hj,hj2,hj3,hcj,hL,hga,e1,e2,hm,hl,wk j (by omega)]
    ·refine⟨fun hb=>by simp at hb,fun _=>⟨⟨([(3, .ptr L 48 0),(4, .ptr L 64 0),(5, .ptr L 80 0),(6, .ptr L 96 0),(25, .sl .no 1 (es cInt C)),(26,i64 C.length),(27,i64 (j:Nat)),(34, .fn 96 [] [.ptr L 544 0, .ptr L 1544 0, .ptr L 2544 0])],
      [(48, .cell [.ptr dg lg 0]),(64, .cell [i64 T1,i64 (o:Nat),i64 x0,i64 x1,i64 x2]),(80, .cell [.mp (.ptr dm lm 0)]),(96, .cell [.bool true]),(544, .cell [.ptr dg lg 0]),(1544, .cell (i64 (T1-1)::i64 (o2:Nat)::n'.map i64)),(2544, .cell [i64 T1,i64 (o:Nat),i64 x0,i64 x1,i64 x2]),
        (18695, .loop [35] b73l1 b73l2 [] .exhausted (some .ret))]),rfl,rfl⟩,?_⟩⟩
     simp only[Bool.false_eq_true,if_false,if_true]at hl
     simp (maxSteps:=1000000) (disch:=first|omega|assumption|decide +kernel|(simp;done)|(simp;omega)|fail) [hj,hj2,hj3,hcj,hL,hga,e1,e2,hm,hl,wk j (by omega)]
   ·intro K2 _
    simp[hcl]
end Go.Proofs.Ytbcjofkfgpbhmaa

/-
  Doors: Catch.
-/
namespace Go.Proofs.Ytbcjofkfgpbhmaa
open Go.Ab
theorem GameD.topM {t C} {s:Stk} {m:V} {lg lm:Nat} {X:List (List Int×Int)→Ab.Loc}(hg: ∀K,(X K).get lg=some (.cell (gameV t C m)))(hm: ∀K,(X K).get lm=some (.mp (some 5) K))(hp: ∀K K',(X K).put lm (.mp (some 5) K')=X K'):
 GameD t C m s.length lg s.length lm (s.length+1) (fun K=>X K::s) where
 len:=fun K=>by simp
 ltg:=by omega
 ltm:=by omega
 game:=fun K=>by rw[sget_top,hg]
 mem:=fun K=>by rw[sget_top,hm]
 put:=fun K K'=>by rw[sput_top,hp]
def aloneT(t:DTrap):DTrap:= {t with groups:=[⟨0,1⟩]}
theorem alone_ok {t:DTrap}(h:DoorOk t):DoorOk (aloneT t) where
 ch:=h.ch
 tu:=h.tu
 ha:=h.ha
 gl:=h.gl
 ol:=by simp[aloneT]
 gates:=h.gates
 groups:=fun g hg=>by
  simp only[aloneT,List.mem_singleton]at hg
  subst hg
  have:=h.ch
  have e:(aloneT t).chambers=t.chambers:=rfl
  rw[e]
  simp only
  omega
def oneN(p:Int):List Int:=[p,0,0]
def catchV(t:DTrap)(p:Int):Int:=if wO (aloneT t) t.turns.toNat (gN t) (oneN p)=1 then 1 else if cO (aloneT t) t.turns.toNat (gN t) (oneN p)=false then 2 else 3
def posOf(t:DTrap)(g:Int):Int:=(posL t).getD g.toNat 0
def catchR(t:DTrap)(g:Int):Int×Int:=if doorB t=true then(if wiB g 0 (t.groups.length-1)=true then(catchV t (posOf t g),0)else(0,1))else(0,30)
abbrev catchX(t:DTrap)(d:Nat)(p:Int)(K:List (List Int×Int)):Ab.Loc:=[(32, .cell (dV t)),(320, .cell (gameV t (chB t) (.mp (.ptr d 1320 0)))),(1320, .mp (some 5) []),(112, .cell (sceneV t.turns (gN t:Nat) p 0 0)),(464, .cell (gameV (aloneT t) (chB t) (.csl (.ptr d 1464 0) 0))),(1464, .mp (some 5) K),(160, .cell (scene0 t))]
set_option maxHeartbeats 8000000 in
theorem e_Catch(t:DTrap)(hs:ShortD t)(g:Int)(lab s):den T 34 [.agg (dV t),i64 g] lab s=some (.tup [i64 (catchR t g).1,i64 (catchR t g).2],s):=by
 have hgr:=hs.groups
 have w1:IntKind.i64.wrap ((t.groups.length:Int)-1)=(t.groups.length:Int)-1:=wi _ (by omega) (by omega)
 unfold catchR
 cases h:doorB t
 ·have hb:=fun b lab loc s=>e_begin_bad t hs h b lab loc s
  rw[den_fn t34 _ _ _ rfl]
  simp only[b34]
  simp (maxSteps:=1000000) (disch:=first|omega|assumption|decide +kernel|(simp;done)|(simp;omega)|fail) [run_drawnK,orSlow_none,hb,w1]
 ·have ho:=doorB_iff.1 h
  have htu:=ho.tu
  cases hw:wiB g 0 (t.groups.length-1)
  ·have hb:=fun lab loc s=>e_begin_arg t ho lab loc s
   rw[den_fn t34 _ _ _ rfl]
   simp only[b34]
   simp (maxSteps:=1000000) (disch:=first|omega|assumption|decide +kernel|(simp;done)|(simp;omega)|fail) [run_drawnK,orSlow_none,hb,w1,hw]
  ·have hgb:0≤g∧g≤t.groups.length-1:=by simpa [wiB]using hw
   have h3:=ho.ol
   have hb:=fun lab loc k0 k1=>e_begin t ho lab loc s k0 k1
   obtain⟨i,rfl⟩: ∃i:Nat,g=i:=⟨g.toNat,by omega⟩
   have hi:i<t.groups.length:=by omega
   have hp:posOf t (i:Nat)=at0 t i:=by
    rw[at0_get hi];simp[posOf,posL,hi]
   have ha:=alone_ok ho
   have hin:InN (aloneT t) (oneN (at0 t i)):=by
    refine⟨rfl,fun j hj=> ?_⟩
    have:j=0:=by simp[aloneT]at hj;omega
    subst this
    have:=(ho.groups _ (List.getElem_mem hi)).1
    rw[at0_get hi]
    exact this
   have hT:((t.turns.toNat:Nat):Int)=t.turns:=by omega
   have hv:=fun lab=>e_value ha t.turns.toNat (by omega) (GameD.topM (t:=aloneT t) (s:=s) (lg:=464) (lm:=1464) (X:=catchX t s.length (at0 t i)) (fun K=>rfl) (fun K=>rfl) (fun K K'=>rfl)) rfl (gN t) (oneN (at0 t i)) Mem.nil lab (gN_lt ho) hin
   have hr:=fun(K0:List (List Int×Int)) lab=>e_reaches ha t.turns.toNat (by omega) (GameD.topM (t:=aloneT t) (s:=s) (lg:=464) (lm:=848) (m:= .csl (.ptr s.length 1464 0) 0) (X:=fun K=>catchX t s.length (at0 t i) K0 ++[(848, .mp (some 5) K)]) (fun K=>rfl) (fun K=>rfl) (fun K K'=>rfl)) (gN t) (oneN (at0 t i)) Mem.nil lab (gN_lt ho) hin
   rw[hT]at hv hr
   simp only[Bool.false_eq_true,if_true,hp,catchV]
   have hk: ∀(a:List (List Int×Int)→Stk),True:=fun _=>trivial
   generalize wO (aloneT t) t.turns.toNat (gN t) (oneN (at0 t i))=w at*
   generalize cO (aloneT t) t.turns.toNat (gN t) (oneN (at0 t i))=b at*
   generalize valK (aloneT t) _ _ _ _=K1 at*
   generalize canK (aloneT t) _ _ _ _=K2 at*
   simp only[catchX,gN,scene0,sceneV,sceneL,oneN,List.map_cons,List.map_nil,List.cons_append,List.nil_append,Mem.nil_val,gameV,gcap,gmp,aloneT,show es cGroup [(⟨0,1⟩:DGroup)]=[[i64 0,i64 1]]from rfl]at hb hv hr
   generalize gateBits t.gates=o at*
   generalize chB t=C at*
   have hil:(i:Int)<3:=by omega
   have hwa: ∀z:Int,z=(i:Int)→wiB z 0 ((t.groups.length:Int)-1)=true:=fun z e=>by rw[e];exact hw
   by_cases hw1:w=1
   ·obtain rfl|rfl|rfl:i=0∨i=1∨i=2:=by omega
    all_goals
     (rw[den_fn t34 _ _ _ rfl]
      simp only[b34]
      simp (maxSteps:=1000000) (disch:=first|omega|assumption|decide +kernel|(simp;done)|(simp;omega)|fail) [run_drawnK,orSlow_none,w1,hwa,hb,hv,hr,hw1])
   ·cases b<;>(obtain rfl|rfl|rfl:i=0∨i=1∨i=2:=by omega)
    all_goals
     (rw[den_fn t34 _ _ _ rfl]
      simp only[b34]
      simp (maxSteps:=1000000) (disch:=first|omega|assumption|decide +kernel|(simp;done)|(simp;omega)|fail) [run_drawnK,orSlow_none,w1,hwa,hb,hv,hr,hw1])
end Go.Proofs.Ytbcjofkfgpbhmaa

/-
  Doors, the law's helpers: Copy, Turning, ready, all, worth, after.
-/
namespace Go.Proofs.Ytbcjofkfgpbhmaa
open Go.Ab
theorem e_CopyD(t:DTrap)(hs:ShortD t)(lab)(loc:Ab.Loc)(s:Stk)(k0:loc.get lab=none)(k1:loc.get (lab+1000)=none):
 den T 32 [.agg (dV t)] lab (loc::s)=some (.agg [i64 t.chambers,i64 t.turns,i64 t.hands, .asl s.length lab 3 t.gates.length 0 t.gates.length, .asl s.length (lab+1000) 2 t.groups.length 0 t.groups.length],
  (loc.put lab (.arr 3 (es cGate t.gates))).put (lab+1000) (.arr 2 (es cGroup t.groups))::s):=by
 have hg:=hs.gates
 have ho:=hs.groups
 rw[den_fn t32 _ _ _ rfl]
 simp only[b32]
 simp (maxSteps:=1000000) (disch:=first|omega|assumption|decide +kernel|(simp;done)|(simp;omega)|fail) [appmD_es,run_drawnK,orSlow_none,k0,k1]
theorem e_Huge(t:DTrap)(lab s):den T 47 [.agg (dV t)] lab s=some (.bool (decide (40<t.gates.length)||decide (40<t.groups.length)),s):=by
 rw[den_fn t47 _ _ _ rfl]
 simp only[b47]
 by_cases h1:40<t.gates.length
 ·have h1':(40:Int)<t.gates.length:=by omega
  simp (maxSteps:=1000000) (disch:=first|omega|assumption|decide +kernel|(simp;done)|(simp;omega)|fail) [h1,h1']
 ·have h1': ¬(40:Int)<t.gates.length:=by omega
  by_cases h2:40<t.groups.length
  ·have h2':(40:Int)<t.groups.length:=by omega
   simp (maxSteps:=1000000) (disch:=first|omega|assumption|decide +kernel|(simp;done)|(simp;omega)|fail) [h1,h1',h2,h2']
  ·have h2': ¬(40:Int)<t.groups.length:=by omega
   simp (maxSteps:=1000000) (disch:=first|omega|assumption|decide +kernel|(simp;done)|(simp;omega)|fail) [h1,h1',h2,h2']
def hugeB(t:DTrap):Bool:=decide (40<t.gates.length)||decide (40<t.groups.length)
def farD(t:DTrap):Bool:=hugeB t||(decide (4<t.gates.length)||decide (3<t.gates.length)&&decide (2<t.groups.length))&&doorB t
set_option maxHeartbeats 2000000 in
theorem e_Far(t:DTrap)(hs:ShortD t)(lab s):den T 35 [.agg (dV t)] lab s=some (.bool (farD t),s):=by
 have hh:=fun lab s=>e_Huge t lab s
 have hc:=fun lab s=>e_CheckR t hs lab s
 unfold farD
 change∀lab s,_=some (V.bool (hugeB t),s)at hh
 cases h0:hugeB t<;>rw[h0]at hh
 ·by_cases h1:4<t.gates.length
  ·have h1':(4:Int)<t.gates.length:=by omega
   rw[den_fn t35 _ _ _ rfl]
   simp only[b35]
   cases hd:doorB t<;>simp (maxSteps:=1000000) (disch:=first|omega|assumption|decide +kernel|(simp;done)|(simp;omega)|fail) [hh,hc,h1,h1',hd]
  ·have h1': ¬(4:Int)<t.gates.length:=by omega
   by_cases h2:3<t.gates.length
   ·have h2':(3:Int)<t.gates.length:=by omega
    by_cases h3:2<t.groups.length
    ·have h3':(2:Int)<t.groups.length:=by omega
     rw[den_fn t35 _ _ _ rfl]
     simp only[b35]
     cases hd:doorB t<;>simp (maxSteps:=1000000) (disch:=first|omega|assumption|decide +kernel|(simp;done)|(simp;omega)|fail) [hh,hc,h1,h1',h2,h2',h3,h3',hd]
    ·have h3': ¬(2:Int)<t.groups.length:=by omega
     rw[den_fn t35 _ _ _ rfl]
     simp only[b35]
     simp (maxSteps:=1000000) (disch:=first|omega|assumption|decide +kernel|(simp;done)|(simp;omega)|fail) [hh,hc,h1,h1',h2,h2',h3,h3']
   ·have h2': ¬(3:Int)<t.gates.length:=by omega
    rw[den_fn t35 _ _ _ rfl]
    simp only[b35]
    simp (maxSteps:=1000000) (disch:=first|omega|assumption|decide +kernel|(simp;done)|(simp;omega)|fail) [hh,hc,h1,h1',h2,h2']
 ·rw[den_fn t35 _ _ _ rfl]
  simp only[b35]
  simp (maxSteps:=1000000) (disch:=first|omega|assumption|decide +kernel|(simp;done)|(simp;omega)|fail) [hh]
def readyD(t:DTrap):Bool:= !farD t&&doorB t
theorem e_readyD(t:DTrap)(hs:ShortD t)(lab s):den T 16 [.agg (dV t)] lab s=some (.bool (readyD t),s):=by
 have hh:=fun lab s=>e_Far t hs lab s
 have hc:=fun lab s=>e_CheckR t hs lab s
 unfold readyD
 rw[den_fn t16 _ _ _ rfl]
 simp only[b16]
 cases h0:farD t<;>cases hd:doorB t<;>simp (maxSteps:=1000000) (disch:=first|omega|assumption|decide +kernel|(simp;done)|(simp;omega)|fail) [hh,hc,h0,hd]
theorem readyD_ok {t:DTrap}(h:readyD t=true):DoorOk t:=by
 simp only[readyD,Bool.and_eq_true]at h
 exact doorB_iff.1 h.2
set_option maxHeartbeats 1000000 in
theorem e_all_l(t:DTrap)(h:DoorOk t)(s:Stk):
 Run T b65l0 [(1, .ptr s.length 16 0),(3,i64 0),(4,i64 0)] ([(16, .cell (dV t))]::s)=some (.exit 0,[(1, .ptr s.length 16 0),(3,i64 ((t.groups).foldl ((fun a (g:DGroup)=>a+g.fish)) (0:Int))),(4,i64 ((t.groups).length:Nat)),(9, .bool false)],[(16, .cell (dV t))]::s):=by
 have key:=loop_fold (T:=T) (live:=[1,3,4]) (keep:=[16]) (b:=d65l0) (t.groups) (fun(k:Nat) (a:Int)=>0≤a∧a≤99*k) ((fun a (g:DGroup)=>a+g.fish)) (fun k (a:Int)=>[(1, .ptr s.length 16 0),(3,i64 a),(4,i64 (k:Nat))]) (fun k (a:Int)=>[(16, .cell (dV t))]::s) (fun(a:Int)=>(.exit 0,[(1, .ptr s.length 16 0),(3,i64 a),(4,i64 ((t.groups).length:Nat)),(9, .bool false)],[(16, .cell (dV t))]::s)) (by simp) ?_ ?_ ?_ (0:Int) (by simp) [(1, .ptr s.length 16 0),(3,i64 0),(4,i64 0)] ([(16, .cell (dV t))]::s) (by simp) (by simp)
 ·exact key
 ·intro k a hk hi
  have hl:=h.ol
  have hk2:(k:Int)<t.groups.length:=by omega
  have hf:=h.groups _ (List.getElem_mem hk)
  generalize hG:t.groups[k]=G at*
  have w2:IntKind.i64.wrap (a+G.fish)=a+G.fish:=wi _ (by omega) (by omega)
  simp (maxSteps:=1000000) (disch:=first|omega|assumption|decide +kernel|(simp;done)|(simp;omega)|fail) [run_drawnK,orSlow_none,hk,hk2,hG,w2,wk k (by omega)]
 ·intro k a hk hi
  have hf:=h.groups _ (List.getElem_mem hk)
  omega
 ·intro a hi
  simp
theorem e_all(t:DTrap)(h:DoorOk t)(lab s):den T 65 [.agg (dV t)] lab s=some (i64 (sumF (fishL t)),s):=by
 have hl:=e_all_l t h s
 have e:t.groups.foldl (fun a (g:DGroup)=>a+g.fish) 0=sumF (fishL t):=by
  have: ∀(l:List DGroup) (a:Int),l.foldl (fun a (g:DGroup)=>a+g.fish) a=a+sumF (l.map (·.fish)):=by
   intro l
   induction l with
   |nil=>intro a;simp[sumF]
   |cons x r ih=>intro a;rw[List.foldl_cons,ih];simp only[List.map_cons,sumF,List.foldr_cons];omega
  rw[this,Int.zero_add];rfl
 rw[e]at hl
 rw[den_fn t65 _ _ _ rfl]
 simp only[b65]
 simp (maxSteps:=1000000) (disch:=first|omega|assumption|decide +kernel|(simp;done)|(simp;omega)|fail) [hl]
theorem fish_nonneg {t:DTrap}(h:DoorOk t): ∀f∈fishL t,0≤f:=fun f hf=>by
 obtain⟨g,hg,rfl⟩:=List.mem_map.1 hf
 exact(h.groups g hg).2.1
theorem e_worthL(t:DTrap)(h:DoorOk t)(lab s):den T 19 [.agg (dV t)] lab s=some (i64 (worthT t t.turns.toNat),s):=by
 have h1:=fun lab s=>e_Worth t (doorB_short (doorB_iff.2 h)) lab s
 have h2:=fun lab s=>e_all t h lab s
 have e:worthR t=(worthT t t.turns.toNat,0):=by unfold worthR;rw[if_pos (doorB_iff.2 h)]
 rw[e]at h1
 have h3: ¬worthT t t.turns.toNat<0:=by have:=worthS_nonneg (n:=t.chambers.toNat) (h:=t.hands.toNat) (fish_nonneg h) t.turns.toNat t.gates (posL t);unfold worthT;omega
 have h4: ¬sumF (fishL t)<worthT t t.turns.toNat:=by have:=worthS_le (n:=t.chambers.toNat) (h:=t.hands.toNat) (fish_nonneg h) t.turns.toNat t.gates (posL t);unfold worthT;omega
 generalize worthT t t.turns.toNat=w at*
 rw[den_fn t19 _ _ _ rfl]
 simp only[b19]
 simp (maxSteps:=1000000) (disch:=first|omega|assumption|decide +kernel|(simp;done)|(simp;omega)|fail) [h1,h2,h3,h4]
end Go.Proofs.Ytbcjofkfgpbhmaa

/-
  Doors, the reference: WaysOf, AreMoves.
-/
namespace Go.Proofs.Ytbcjofkfgpbhmaa
open Go.Ab
end Go.Proofs.Ytbcjofkfgpbhmaa

/-
  Doors, the reference: Changed, Moved.
-/
namespace Go.Proofs.Ytbcjofkfgpbhmaa
open Go.Ab
def flip1(g:DGate):DGate:= {g with op:= !g.op}
def flipAll(c:List Int)(gs:List DGate):List DGate:=c.foldl (fun gs j=>gs.modify j.toNat flip1) gs
theorem flipAll_get: ∀(c:List Int) (gs:List DGate) (i:Nat),c.Pairwise (· < ·)→(∀y∈c,0≤y)→(flipAll c gs)[i]? =(gs[i]?).map fun g=>if (i:Int)∈c then flip1 g else g
 |[],gs,i,_,_=>by simp[flipAll]
 |j::c,gs,i,h,h0=>by
   have ih:=flipAll_get c (gs.modify j.toNat flip1) i (List.pairwise_cons.1 h).2 fun y hy=>h0 y (by simp[hy])
   have hj:=h0 j (by simp)
   have hr:=(List.pairwise_cons.1 h).1
   simp only[flipAll,List.foldl_cons]at ih⊢
   rw[ih,List.getElem?_modify]
   cases hg:gs[i]? with
   |none=>simp
   |some g=>
     by_cases e:j.toNat=i
     ·have e2:(i:Int)=j:=by omega
      have hn: ¬j∈c:=fun hc=>by have:=hr j hc;omega
      simp[e,e2,hn]
     ·have e2: ¬(i:Int)=j:=by omega
      simp[e,e2]
theorem flipAll_eq {c:List Int} {gs:List DGate}(h:c.Pairwise (· < ·))(h0: ∀y∈c,0≤y):flipAll c gs=flipG gs c:=by
 apply List.ext_getElem?
 intro i
 rw[flipAll_get c gs i h h0,flipS_get,Nat.zero_add];rfl
def changedT(t:DTrap)(c:List Int):DTrap:= {t with gates:=flipG t.gates c}
abbrev zeroT:List V:=[i64 0,i64 0,i64 0, .sl .full 3 [], .sl .full 2 []]
@[simp] theorem flipAt_len(gs:List DGate)(j:Nat):(gs.modify j flip1).length=gs.length:=by simp
theorem es_setGate(gs:List DGate)(j:Nat)(hj:j<gs.length)(a b:Int)(o:Bool)(h1:gs[j].a=a)(h2:gs[j].b=b)(h3:gs[j].op=o):(es cGate gs).set j [i64 a,i64 b, .bool (!o)]=es cGate (gs.modify j flip1):=by
 apply List.ext_getElem?
 intro i
 simp only[es,List.getElem?_set,List.getElem?_map,List.getElem?_modify,List.length_map]
 by_cases e:j=i
 ·subst e
  simp[hj,flip1,←h1,←h2,←h3]
 ·simp[e]
abbrev chgF(t:DTrap)(d:Nat)(gs:List DGate)(rs:List DGroup):Ab.Loc:=[(32, .cell (dV t)),(64, .cell zeroT),(144, .arr 3 (es cGate gs)),(1144, .arr 2 (es cGroup rs)),(80, .cell [i64 t.chambers,i64 t.turns,i64 t.hands, .asl d 144 3 t.gates.length 0 t.gates.length, .asl d 1144 2 t.groups.length 0 t.groups.length])]
set_option maxHeartbeats 4000000 in
theorem e_Changed_l(t:DTrap)(hs:ShortD t)(c:List Int)(hc:c.length<1000000000000)(hr: ∀y∈c,0≤y∧y<t.gates.length)(s:Stk):
 Run T b24l0 [(1, .sl .no 1 (es cInt c)),(4, .ptr s.length 64 0),(5, .ptr s.length 80 0),(6,i64 0)] (chgF t s.length t.gates t.groups::s)=
  some (.exit 0,[(1, .sl .no 1 (es cInt c)),(4, .ptr s.length 64 0),(5, .ptr s.length 80 0),(6,i64 c.length),(13, .bool false)],chgF t s.length (flipAll c t.gates) t.groups::s):=by
 have hgl:=hs.gates
 refine loop_fold (T:=Go.Proofs.Ytbcjofkfgpbhmaa.T) (live:=[1,4,5,6]) (keep:=[32,64,80,144,1144]) (b:=d24l0) c (fun _ (gs:List DGate)=>gs.length=t.gates.length) (fun gs j=>gs.modify j.toNat flip1)
  (fun k _=>[(1, .sl .no 1 (es cInt c)),(4, .ptr s.length 64 0),(5, .ptr s.length 80 0),(6,i64 (k:Nat))]) (fun _ gs=>chgF t s.length gs t.groups::s)
  (fun gs=>(.exit 0,[(1, .sl .no 1 (es cInt c)),(4, .ptr s.length 64 0),(5, .ptr s.length 80 0),(6,i64 c.length),(13, .bool false)],chgF t s.length gs t.groups::s))
  (by simp) ?_ ?_ ?_ t.gates rfl [(1, .sl .no 1 (es cInt c)),(4, .ptr s.length 64 0),(5, .ptr s.length 80 0),(6,i64 0)] (chgF t s.length t.gates t.groups::s) (by simp) (by simp)
 ·intro k gs hk hi
  obtain⟨h0,h1⟩:=hr c[k] (List.getElem_mem hk)
  obtain⟨j,hj⟩: ∃j:Nat,c[k]=j:=⟨c[k].toNat,by omega⟩
  have hjl:j<gs.length:=by omega
  have hjl2:j<t.gates.length:=by omega
  have hjt:(c[k]).toNat=j:=by omega
  rw[hjt]
  have hset:=es_setGate gs j hjl gs[j].a gs[j].b gs[j].op rfl rfl rfl
  generalize hG:gs[j]=G at*
  generalize gs.modify j flip1=gs' at*
  have hjl3:(j:Int)<t.gates.length:=by omega
  cases ho:G.op<;>simp only[ho,Bool.not_false,Bool.not_true]at hset
  ·simp (maxSteps:=1000000) (disch:=first|omega|assumption|decide +kernel|(simp;done)|(simp;omega)|fail) [run_drawnK,orSlow_none,hk,hj,hjl,hjl2,hjl3,hi,hG,ho,hset,wk k (by omega)]
  ·simp (maxSteps:=1000000) (disch:=first|omega|assumption|decide +kernel|(simp;done)|(simp;omega)|fail) [run_drawnK,orSlow_none,hk,hj,hjl,hjl2,hjl3,hi,hG,ho,hset,wk k (by omega)]
 ·intro k gs hk hi
  simp[hi]
 ·intro gs hi
  simp
end Go.Proofs.Ytbcjofkfgpbhmaa

/-
  Doors, the reference: Changed, Moved, AreMoves; isTurn, behind.
-/
namespace Go.Proofs.Ytbcjofkfgpbhmaa
open Go.Ab
theorem flipAll_len(c:List Int): ∀gs,(flipAll c gs).length=gs.length:=by
 induction c with
 |nil=>intro gs;rfl
 |cons j c ih=>intro gs;simp only[flipAll,List.foldl_cons]at ih⊢;rw[ih];simp
set_option maxHeartbeats 4000000 in
theorem e_Changed(t:DTrap)(hs:ShortD t)(c:List Int)(hc:c.length<1000000000000)(hr: ∀y∈c,0≤y∧y<t.gates.length)(hp:c.Pairwise (· < ·))(lab s):
 den T 24 [.agg (dV t), .sl .no 1 (es cInt c)] lab s=some (.agg (dV (changedT t c)),s):=by
 have hcp:=fun lab loc s k0 k1=>e_CopyD t hs lab loc s k0 k1
 have hl:=e_Changed_l t hs c hc hr s
 have hlen:=flipAll_len c t.gates
 rw[flipAll_eq hp fun y hy=>(hr y hy).1]at hl hlen
 unfold changedT
 generalize flipG t.gates c=gs at*
 have htk:gs.take t.gates.length=gs:=List.take_of_length_le (by omega)
 rw[den_fn t24 _ _ _ rfl]
 simp only[b24]
 simp (maxSteps:=1000000) (disch:=first|omega|assumption|decide +kernel|(simp;done)|(simp;omega)|fail) [hcp,hl,hlen,htk]
def movedG(m:List Int):Nat→List DGroup→List DGroup
 |_,[]=>[]
 |i,g::r=>(if i<m.length then {g with pos:=m.getD i 0}else g)::movedG m (i+1) r
@[simp] theorem movedG_len(m:List Int): ∀(i:Nat) (gs:List DGroup),(movedG m i gs).length=gs.length
 |_,[]=>rfl
 |i,g::r=>by simp[movedG,movedG_len m (i+1) r]
end Go.Proofs.Ytbcjofkfgpbhmaa

/-
  Doors, the law's helpers: isTurn, behind; the chapter's examples.
-/
namespace Go.Proofs.Ytbcjofkfgpbhmaa
open Go.Ab
def exT:DTrap:=⟨3,2,1,[⟨0,1,true⟩,⟨1,2,false⟩],[⟨0,10⟩,⟨1,7⟩]⟩
def exO:DTrap:=changedT exT [0]
theorem ex_ok:doorB exT=true:=by decide
set_option maxHeartbeats 2000000 in
theorem e_ExampleD(lab s):den T 60 [] lab s=some (.tup [.agg (dV exT), .agg (dV exO)],s):=by
 have hr: ∀y∈([0]:List Int),0≤y∧y<exT.gates.length:=by decide
 have h2:=fun lab s=>e_Changed exT (doorB_short ex_ok) [0] (by decide) hr (by decide) lab s
 change∀lab s,den T _ [.agg [i64 3,i64 2,i64 1, .sl .no 3 [[i64 0,i64 1, .bool true],[i64 1,i64 2, .bool false]], .sl .no 2 [[i64 0,i64 10],[i64 1,i64 7]]], .sl .no 1 [[i64 0]]] lab s=some (.agg [i64 3,i64 2,i64 1, .sl .no 3 [[i64 0,i64 1, .bool false],[i64 1,i64 2, .bool false]], .sl .no 2 [[i64 0,i64 10],[i64 1,i64 7]]],s)at h2
 change _=some (V.tup [.agg [i64 3,i64 2,i64 1, .sl .no 3 [[i64 0,i64 1, .bool true],[i64 1,i64 2, .bool false]], .sl .no 2 [[i64 0,i64 10],[i64 1,i64 7]]], .agg [i64 3,i64 2,i64 1, .sl .no 3 [[i64 0,i64 1, .bool false],[i64 1,i64 2, .bool false]], .sl .no 2 [[i64 0,i64 10],[i64 1,i64 7]]]],s)
 rw[den_fn t60 _ _ _ rfl]
 simp only[b60]
 simp (maxSteps:=1000000) (disch:=first|omega|assumption|decide +kernel|(simp;done)|(simp;omega)|fail) [run_drawnK,orSlow_none,h2]
end Go.Proofs.Ytbcjofkfgpbhmaa

/-
  Doors: the chapter's examples, by the program.
-/
namespace Go.Proofs.Ytbcjofkfgpbhmaa
open Go.Ab
theorem ex_worth:worthR exT=(10,0):=by decide +kernel
theorem ex_plan:planR exT=([1],0):=by decide +kernel
theorem ex_after:afterR exT [0]=(7,0):=by decide +kernel
theorem ex_reply:replyR exT [1]=([1,0],0):=by decide +kernel
theorem ex_catch:catchR exT 1=(1,0):=by decide +kernel
theorem ex_worthO:worthR exO=(7,0):=by decide +kernel
theorem exO_ok:doorB exO=true:=by decide +kernel
set_option maxHeartbeats 2000000 in
theorem e_worksD(lab s):den T 17 [] lab s=some (.bool true,s):=by
 have hs:=doorB_short ex_ok
 have hs2:=doorB_short exO_ok
 have h1:=fun lab s=>e_Worth exT hs lab s
 have h2:=fun lab s=>e_Plan exT hs lab s
 have h3:=fun lab s=>e_After exT hs [0] (by decide) lab s
 have h4:=fun lab s=>e_Reply exT hs [1] (by decide) lab s
 have h5:=fun lab s=>e_Catch exT hs 1 lab s
 have h6:=fun lab s=>e_Worth exO hs2 lab s
 have h0:=fun lab s=>e_ExampleD lab s
 rw[ex_worth]at h1
 rw[ex_plan]at h2
 rw[ex_after]at h3
 rw[ex_reply]at h4
 rw[ex_catch]at h5
 rw[ex_worthO]at h6
 have hs1:=fun lab s=>e_Same2 [1] [1] (by decide) (by decide) lab s
 have hs2:=fun lab s=>e_Same2 [1,0] [1,0] (by decide) (by decide) lab s
 have eA:dV exT=[i64 3,i64 2,i64 1, .sl .no 3 [[i64 0,i64 1, .bool true],[i64 1,i64 2, .bool false]], .sl .no 2 [[i64 0,i64 10],[i64 1,i64 7]]]:=rfl
 have eB:dV exO=[i64 3,i64 2,i64 1, .sl .no 3 [[i64 0,i64 1, .bool false],[i64 1,i64 2, .bool false]], .sl .no 2 [[i64 0,i64 10],[i64 1,i64 7]]]:=rfl
 have c1:es cInt [1]=[[i64 1]]:=rfl
 have c2:es cInt [0]=[[i64 0]]:=rfl
 have c3:es cInt [1,0]=[[i64 1],[i64 0]]:=rfl
 rw[eA]at h1 h2 h3 h4 h5 h0
 rw[eB]at h6 h0
 simp only[c1,c2,c3]at h2 h3 h4 hs1 hs2
 rw[den_fn t17 _ _ _ rfl]
 simp only[b17]
 simp (maxSteps:=1000000) (disch:=first|omega|assumption|decide +kernel|(simp;done)|(simp;omega)|fail) [h0,h1,h2,h3,h4,h5,h6,hs1,hs2]
end Go.Proofs.Ytbcjofkfgpbhmaa

/-
  DoorsBest: its equation.
-/
namespace Go.Proofs.Ytbcjofkfgpbhmaa
open Go.Ab
theorem worthT_nonneg {t:DTrap}(h:DoorOk t)(k:Nat):0≤worthT t k:=worthS_nonneg (fish_nonneg h) _ _ _
end Go.Proofs.Ytbcjofkfgpbhmaa

/-
  DoorsTogether: the plain law; the loop.
-/
namespace Go.Proofs.Ytbcjofkfgpbhmaa
open Go.Ab
theorem worth_sub {n h L:Nat} {fs fs':List Int}(S:List Nat)(hS: ∀i∈S,i<L)(hf: ∀f∈fs,0≤f)(hc: ∀q:List Int,q.length=L→caughtS n fs (S.map fun i=>q.getD i 0)≤caughtS n fs' q):
 ∀(k:Nat) (gs:List DGate) (q:List Int),q.length=L→worthS n h fs k gs (S.map fun i=>q.getD i 0)≤worthS n h fs' k gs q
 |0,_,q,hq=>hc q hq
 |k+1,gs,q,hq=>by
   obtain⟨c,hcc,e⟩:=worthS_mem (n:=n) (h:=h) hf k gs (S.map fun i=>q.getD i 0)
   obtain⟨m,hm,e2⟩:=leastS_mem n h fs' k (flipG gs c) q
   obtain⟨hl,hw⟩:=mem_moves.1 hm
   have hmv:(S.map fun i=>m.getD i 0)∈movesS ((S.map fun i=>q.getD i 0).map (waysS n (flipG gs c))):=mem_moves.2 ⟨by simp,fun i x p hx hp=>by
    rw[List.getElem?_map]at hx hp
    obtain⟨j,hj,rfl⟩:=Option.map_eq_some_iff.1 hx
    rw[hj]at hp
    simp only[Option.map_some,Option.some.injEq]at hp
    subst hp
    have hjL:=hS j (List.mem_of_getElem? hj)
    have h1:j<m.length:=by omega
    have h2:j<q.length:=by omega
    have:=hw j m[j] q[j] (List.getElem?_eq_getElem h1) (List.getElem?_eq_getElem h2)
    simpa [List.getD,h1,h2]using this⟩
   have h1:=leastS_le (h:=h) (fs:=fs) (k:=k) hmv
   have h2:=worth_sub (n:=n) (h:=h) S hS hf hc k (flipG gs c) m (by omega)
   have h3:=worthS_ge (n:=n) (h:=h) (fs:=fs') (k:=k) (ps:=q) hcc
   omega
def apT(t:DTrap)(one other:Nat):DTrap:= {t with groups:=t.groups.modify other fun g=> {g with pos:=(t.groups.getD one default).pos}}
def bothG(t:DTrap)(one other:Nat):DGroup:=⟨(t.groups.getD one default).pos,(t.groups.getD one default).fish+(t.groups.getD other default).fish⟩
def togStep(t:DTrap)(one other:Nat)(a:List DGroup)(i:Nat):List DGroup:=if i=one then a ++[bothG t one other]else if i=other then a else a ++[t.groups.getD i default]
def togL(t:DTrap)(one other:Nat):List DGroup:=(List.range t.groups.length).foldl (togStep t one other) []
def tgT(t:DTrap)(one other:Nat):DTrap:= {t with groups:=togL t one other}
theorem ap_ok {t:DTrap}(h:DoorOk t) {one other:Nat}(h1:one<t.groups.length)(h2:other<t.groups.length):DoorOk (apT t one other) where
 ch:=h.ch
 tu:=h.tu
 ha:=h.ha
 gl:=h.gl
 ol:=by simpa [apT]using h.ol
 gates:=h.gates
 groups:=fun g hg=>by
  obtain⟨i,hi,rfl⟩:=List.getElem_of_mem hg
  have hi2:i<t.groups.length:=by simpa [apT]using hi
  have e:(apT t one other).groups[i]=if other=i then {t.groups[i]with pos:=(t.groups.getD one default).pos}else t.groups[i]:=by
   simp only[apT,List.getElem_modify]
  have hg1:=h.groups _ (List.getElem_mem h1)
  have hgi:=h.groups _ (List.getElem_mem hi2)
  have e1:t.groups.getD one default=t.groups[one]:=by simp[List.getD,h1]
  have e2:(apT t one other).chambers=t.chambers:=rfl
  rw[e,e2]
  split
  ·exact⟨by rw[e1];exact hg1.1,hgi.2⟩
  ·exact hgi
theorem together_worth {t:DTrap}(h:DoorOk t) {one other:Nat}(h1:one<t.groups.length)(h2:other<t.groups.length)(hne:one≠other)(k:Nat):
 worthT (apT t one other) k≤worthT (tgT t one other) k:=by
 have hf:=fish_nonneg (ap_ok h h1 h2)
 have hol:=h.ol
 obtain⟨ch,tu,ha,gates,gr⟩:=t
 simp only at h1 h2 hol
 unfold worthT
 match gr,h1,h2,hol with
 |[a,b],h1,h2,_=>
   simp only[List.length_cons,List.length_nil]at h1 h2
   obtain rfl|rfl:one=0∨one=1:=by omega
   ·obtain rfl:other=1:=by omega
    have:=worth_sub (n:=ch.toNat) (h:=ha.toNat) (L:=1) [0,0] (by decide) hf (fs':=[a.fish+b.fish]) (fun q hq=>by
     obtain⟨x,rfl⟩: ∃x,q=[x]:=by match q,hq with|[x],_=>exact⟨x,rfl⟩
     simp[fishL,apT,caughtS];split<;>omega) k gates [a.pos] rfl
    exact this
   ·obtain rfl:other=0:=by omega
    have:=worth_sub (n:=ch.toNat) (h:=ha.toNat) (L:=1) [0,0] (by decide) hf (fs':=[b.fish+a.fish]) (fun q hq=>by
     obtain⟨x,rfl⟩: ∃x,q=[x]:=by match q,hq with|[x],_=>exact⟨x,rfl⟩
     simp[fishL,apT,caughtS];split<;>omega) k gates [b.pos] rfl
    exact this
 |[a,b,d],h1,h2,_=>
   simp only[List.length_cons,List.length_nil]at h1 h2
   have hq2: ∀q:List Int,q.length=2→ ∃x y,q=[x,y]:=fun q hq=>by match q,hq with|[x,y],_=>exact⟨x,y,rfl⟩
   obtain rfl|rfl|rfl:one=0∨one=1∨one=2:=by omega
   ·obtain rfl|rfl:other=1∨other=2:=by omega
    ·exact worth_sub (n:=ch.toNat) (h:=ha.toNat) (L:=2) [0,0,1] (by decide) hf (fs':=[a.fish+b.fish,d.fish]) (fun q hq=>by
      obtain⟨x,y,rfl⟩:=hq2 q hq
      simp[fishL,apT,caughtS];(repeat' split)<;>omega) k gates [a.pos,d.pos] rfl
    ·exact worth_sub (n:=ch.toNat) (h:=ha.toNat) (L:=2) [0,1,0] (by decide) hf (fs':=[a.fish+d.fish,b.fish]) (fun q hq=>by
      obtain⟨x,y,rfl⟩:=hq2 q hq
      simp[fishL,apT,caughtS];(repeat' split)<;>omega) k gates [a.pos,b.pos] rfl
   ·obtain rfl|rfl:other=0∨other=2:=by omega
    ·exact worth_sub (n:=ch.toNat) (h:=ha.toNat) (L:=2) [0,0,1] (by decide) hf (fs':=[b.fish+a.fish,d.fish]) (fun q hq=>by
      obtain⟨x,y,rfl⟩:=hq2 q hq
      simp[fishL,apT,caughtS];(repeat' split)<;>omega) k gates [b.pos,d.pos] rfl
    ·exact worth_sub (n:=ch.toNat) (h:=ha.toNat) (L:=2) [0,1,1] (by decide) hf (fs':=[a.fish,b.fish+d.fish]) (fun q hq=>by
      obtain⟨x,y,rfl⟩:=hq2 q hq
      simp[fishL,apT,caughtS];(repeat' split)<;>omega) k gates [a.pos,b.pos] rfl
   ·obtain rfl|rfl:other=0∨other=1:=by omega
    ·exact worth_sub (n:=ch.toNat) (h:=ha.toNat) (L:=2) [1,0,1] (by decide) hf (fs':=[b.fish,d.fish+a.fish]) (fun q hq=>by
      obtain⟨x,y,rfl⟩:=hq2 q hq
      simp[fishL,apT,caughtS];(repeat' split)<;>omega) k gates [b.pos,d.pos] rfl
    ·exact worth_sub (n:=ch.toNat) (h:=ha.toNat) (L:=2) [0,1,1] (by decide) hf (fs':=[a.fish,d.fish+b.fish]) (fun q hq=>by
      obtain⟨x,y,rfl⟩:=hq2 q hq
      simp[fishL,apT,caughtS];(repeat' split)<;>omega) k gates [a.pos,d.pos] rfl
 |[a],h1,h2,_=>simp at h1 h2;omega
 |[],h1,_,_=>simp at h1
theorem togL_len(t:DTrap)(one other:Nat):(togL t one other).length≤t.groups.length:=by
 have: ∀(l:List Nat) (a:List DGroup),(l.foldl (togStep t one other) a).length≤a.length+l.length:=by
  intro l
  induction l with
  |nil=>intro a;simp
  |cons x r ih=>
    intro a
    have:=ih (togStep t one other a x)
    have h2:(togStep t one other a x).length≤a.length+1:=by
     unfold togStep
     split
     ·simp
     ·split<;>simp
    simp only[List.foldl_cons,List.length_cons];omega
 have:=this (List.range t.groups.length) []
 unfold togL
 simpa using this
abbrev togF(t:DTrap)(one other d:Nat)(a:List DGroup):Ab.Loc:=[(48, .cell (dV t)),(112, .cell (dV (apT t one other))),(128, .cell (cGroup (bothG t one other))),(160, .cell [i64 t.chambers,i64 t.turns,i64 t.hands, .sl .no 3 (es cGate t.gates), .sl (.own d 166) 2 (es cGroup a)]),(166, .tok a.length)]
set_option maxHeartbeats 4000000 in
theorem tog_loop(t:DTrap)(h:DoorOk t)(one other:Nat)(h1:one<t.groups.length)(h2:other<t.groups.length)(s:Stk)(e0:Env)(st:Stk)
 (he:gcEnv [1,2,3,7,8,10,11] [48,112,128,160,166] e0 st=[(1,i64 (one:Nat)),(2,i64 (other:Nat)),(3, .ptr s.length 48 0),(7, .ptr s.length 112 0),(8, .ptr s.length 128 0),(10, .ptr s.length 160 0),(11,i64 0)])
 (hst:gcStk [48,112,128,160,166] st=togF t one other s.length []::s):
 Run T b6l0 e0 st=
  some (.exit 0,[(1,i64 (one:Nat)),(2,i64 (other:Nat)),(3, .ptr s.length 48 0),(7, .ptr s.length 112 0),(8, .ptr s.length 128 0),(10, .ptr s.length 160 0),(11,i64 t.groups.length),(67, .bool false)],togF t one other s.length (togL t one other)::s):=by
 have hol:=h.ol
 refine loop_fold (T:=Go.Proofs.Ytbcjofkfgpbhmaa.T) (live:=[1,2,3,7,8,10,11]) (keep:=[48,112,128,160,166]) (b:=d6l0) (List.range t.groups.length) (fun k (a:List DGroup)=>a.length≤k) (togStep t one other)
  (fun k _=>[(1,i64 (one:Nat)),(2,i64 (other:Nat)),(3, .ptr s.length 48 0),(7, .ptr s.length 112 0),(8, .ptr s.length 128 0),(10, .ptr s.length 160 0),(11,i64 (k:Nat))]) (fun _ a=>togF t one other s.length a::s)
  (fun a=>(.exit 0,[(1,i64 (one:Nat)),(2,i64 (other:Nat)),(3, .ptr s.length 48 0),(7, .ptr s.length 112 0),(8, .ptr s.length 128 0),(10, .ptr s.length 160 0),(11,i64 t.groups.length),(67, .bool false)],togF t one other s.length a::s))
  (by simp) ?_ ?_ ?_ [] (by simp) e0 st he hst
 ·intro k a hk hi
  simp only[List.length_range]at hk
  simp only[List.getElem_range]
  have hk2:(k:Int)<t.groups.length:=by omega
  have hg:t.groups.getD k default=t.groups[k]:=by simp[List.getD,hk]
  unfold togStep
  rw[hg]
  generalize hG:t.groups[k]=G at*
  have e1:es cGroup a ++[[i64 (bothG t one other).pos,i64 (bothG t one other).fish]]=es cGroup (a ++[bothG t one other]):=by simp[es]
  have e2:es cGroup a ++[[i64 G.pos,i64 G.fish]]=es cGroup (a ++[G]):=by simp[es]
  have h1i:(one:Int)<t.groups.length:=by omega
  have h2i:(other:Int)<t.groups.length:=by omega
  have w1:=wk one (by omega)
  have w2:=wk other (by omega)
  by_cases c1:k=one
  ·have c1':(k:Int)=one:=by omega
   rw[if_pos c1]
   simp (maxSteps:=1000000) (disch:=first|omega|assumption|decide +kernel|(simp;done)|(simp;omega)|fail) [run_drawnK,orSlow_none,h1,h1i,w1,c1',e1,appK_own1]
  ·have c1': ¬(k:Int)=one:=by omega
   by_cases c2:k=other
   ·have c2':(k:Int)=other:=by omega
    have c3: ¬(other:Int)=one:=by omega
    have c4: ¬other=one:=by omega
    rw[if_neg c1,if_pos c2]
    simp (maxSteps:=1000000) (disch:=first|omega|assumption|decide +kernel|(simp;done)|(simp;omega)|fail) [run_drawnK,orSlow_none,h2,h2i,w2,c2',c3,c4]
   ·have c2': ¬(k:Int)=other:=by omega
    rw[if_neg c1,if_neg c2]
    simp (maxSteps:=1000000) (disch:=first|omega|assumption|decide +kernel|(simp;done)|(simp;omega)|fail) [run_drawnK,orSlow_none,hk,hk2,hG,c1',c2',e2,appK_own1,wk k (by omega)]
 ·intro k a hk hi
  simp only[List.getElem_range]
  unfold togStep
  split
  ·simp;omega
  ·split
   ·omega
   ·simp;omega
 ·intro a hi
  simp
end Go.Proofs.Ytbcjofkfgpbhmaa

/-
  DoorsTogether: its equation.
-/
namespace Go.Proofs.Ytbcjofkfgpbhmaa
open Go.Ab
theorem frzE_tok(l e loc r n):frzE l e loc r (some (.tok n))=(e,loc::r):=rfl
theorem es_setPos(gs:List DGroup)(j:Nat)(hj:j<gs.length)(a f:Int)(h2:gs[j].fish=f):(es cGroup gs).set j [i64 a,i64 f]=es cGroup (gs.modify j fun g=> {g with pos:=a}):=by
 apply List.ext_getElem?
 intro i
 simp only[es,List.getElem?_set,List.getElem?_map,List.getElem?_modify,List.length_map]
 by_cases e:j=i
 ·subst e
  subst h2
  simp[hj]
 ·simp[e]
set_option maxHeartbeats 8000000 in
theorem e_DoorsTogether(t:DTrap)(hs:ShortD t)(a b:Int)(lab s):den T 6 [.agg (dV t),i64 a,i64 b] lab s=some (.bool true,s):=by
 have hrd:=fun lab s=>e_readyD t hs lab s
 have hwo:=fun lab s=>e_worksD lab s
 have hgr:=fun n lab s=>e_IsGroup t hs n lab s
 cases hr:readyD t<;>rw[hr]at hrd
 ·rw[den_fn t6 _ _ _ rfl]
  simp only[b6]
  simp (maxSteps:=1000000) (disch:=first|omega|assumption|decide +kernel|(simp;done)|(simp;omega)|fail) [hrd,hwo]
 have h:=readyD_ok hr
 have hol:=h.ol
 cases hg1:wiB a 0 ((t.groups.length:Int)-1)
 ·rw[den_fn t6 _ _ _ rfl]
  simp only[b6]
  simp (maxSteps:=1000000) (disch:=first|omega|assumption|decide +kernel|(simp;done)|(simp;omega)|fail) [hrd,hwo,hgr,hg1]
 cases hg2:wiB b 0 ((t.groups.length:Int)-1)
 ·rw[den_fn t6 _ _ _ rfl]
  simp only[b6]
  simp (maxSteps:=1000000) (disch:=first|omega|assumption|decide +kernel|(simp;done)|(simp;omega)|fail) [hrd,hwo,hgr,hg1,hg2]
 by_cases hab:a=b
 ·subst hab
  rw[den_fn t6 _ _ _ rfl]
  simp only[b6]
  simp (maxSteps:=1000000) (disch:=first|omega|assumption|decide +kernel|(simp;done)|(simp;omega)|fail) [hrd,hwo,hgr,hg1]
 have hb1:=wiB_iff.1 hg1
 have hb2:=wiB_iff.1 hg2
 obtain⟨i,rfl⟩: ∃i:Nat,a=i:=⟨a.toNat,by omega⟩
 obtain⟨j,rfl⟩: ∃j:Nat,b=j:=⟨b.toNat,by omega⟩
 have hi:i<t.groups.length:=by omega
 have hj:j<t.groups.length:=by omega
 have hi2:(i:Int)<t.groups.length:=by omega
 have hj2:(j:Int)<t.groups.length:=by omega
 have hij:i≠j:=by omega
 have hcp:=fun lab loc s k0 k1=>e_CopyD t hs lab loc s k0 k1
 have hgi:t.groups.getD i default=t.groups[i]:=by simp[List.getD,hi]
 have hgj:t.groups.getD j default=t.groups[j]:=by simp[List.getD,hj]
 have hfi:=(h.groups _ (List.getElem_mem hi)).2
 have hfj:=(h.groups _ (List.getElem_mem hj)).2
 have wf:IntKind.i64.wrap (t.groups[i].fish+t.groups[j].fish)=t.groups[i].fish+t.groups[j].fish:=wi _ (by omega) (by omega)
 have hset:=es_setPos t.groups j hj t.groups[i].pos t.groups[j].fish rfl
 have hlp:=fun e0 st he hst=>tog_loop t h i j hi hj s e0 st he hst
 have hok:=ap_ok h hi hj
 have hw1:=fun lab s=>e_worthL (apT t i j) hok lab s
 have hn0:=worthT_nonneg hok t.turns.toNat
 have et1:(apT t i j).turns.toNat=t.turns.toNat:=rfl
 rw[et1]at hw1
 have hlen:=togL_len t i j
 have hl3:(tgT t i j).groups.length≤3:=by simp only[tgT];omega
 have sT:ShortD (tgT t i j):=⟨hs.gates,by omega⟩
 have hrt:=fun lab s=>e_readyD (tgT t i j) sT lab s
 have hw2:readyD (tgT t i j)=true→ ∃v,worthT (apT t i j) t.turns.toNat≤v∧ ∀lab s,den T 19 [.agg (dV (tgT t i j))] lab s=some (i64 v,s):=fun hb=>
  ⟨worthT (tgT t i j) t.turns.toNat,together_worth h hi hj hij t.turns.toNat,fun lab s=>e_worthL (tgT t i j) (readyD_ok hb) lab s⟩
 have eA:dV (apT t i j)=[i64 t.chambers,i64 t.turns,i64 t.hands, .sl .no 3 (es cGate t.gates), .sl .no 2 (es cGroup (t.groups.modify j fun g=> {g with pos:=t.groups[i].pos}))]:=by
  simp only[dV,apT,hgi]
 have eB:dV (tgT t i j)=[i64 t.chambers,i64 t.turns,i64 t.hands, .sl .no 3 (es cGate t.gates), .sl .no 2 (es cGroup (togL t i j))]:=rfl
 have eX:cGroup (bothG t i j)=[i64 t.groups[i].pos,i64 (t.groups[i].fish+t.groups[j].fish)]:=by
  simp only[bothG,hgi,hgj];rfl
 simp only[togF,eA,eX]at hlp
 rw[eA]at hw1
 rw[eB]at hrt
 simp only[eB]at hw2
 have hlA:(t.groups.modify j fun g=> {g with pos:=t.groups[i].pos}).length=t.groups.length:=by simp
 generalize hga:(t.groups.modify j fun g=> {g with pos:=t.groups[i].pos})=ga at*
 have tA:ga.take t.groups.length=ga:=List.take_of_length_le (by omega)
 generalize togL t i j=gb at*
 generalize worthT (apT t i j) t.turns.toNat=n at*
 generalize hGi:t.groups[i]=Gi at*
 generalize hGj:t.groups[j]=Gj at*
 have hl:=hlp [(1,i64 (i:Nat)),(2,i64 (j:Nat)),(3, .ptr s.length 48 0),(7, .ptr s.length 112 0),(8, .ptr s.length 128 0),(10, .ptr s.length 160 0),(11,i64 0)]
  ([(48, .cell (dV t)),(560, .tok t.gates.length),(1560, .tok t.groups.length),(112, .cell [i64 t.chambers,i64 t.turns,i64 t.hands, .sl (.own s.length 560) 3 (es cGate t.gates), .sl (.own s.length 1560) 2 (es cGroup ga)]),
  (128, .cell [i64 Gi.pos,i64 (Gi.fish+Gj.fish)]),(144, .cell [i64 Gi.pos,i64 Gj.fish]),(880, .tok t.gates.length),(1880, .tok t.groups.length),(160, .cell [i64 t.chambers,i64 t.turns,i64 t.hands, .sl (.own s.length 880) 3 (es cGate t.gates), .sl (.own s.length 166) 2 []]),(166, .tok 0)]::s) (by simp) (by simp)
 cases hb:readyD (tgT t i j)<;>rw[hb]at hrt hw2
 ·rw[den_fn t6 _ _ _ rfl]
  simp only[b6]
  simp (maxSteps:=1000000) (disch:=first|omega|assumption|decide +kernel|(simp;done)|(simp;omega)|fail) [run_drawnK,orSlow_none,hrd,hwo,hgr,hg1,hg2,hab,hi,hi2,hj,hj2,hcp,hGi,hGj,wf,hset,hlA,tA,hl,frzE_tok,hrt,hw1]
 ·obtain⟨v,hv1,hv2⟩:=hw2 rfl
  rw[den_fn t6 _ _ _ rfl]
  simp only[b6]
  simp (maxSteps:=1000000) (disch:=first|omega|assumption|decide +kernel|(simp;done)|(simp;omega)|fail) [run_drawnK,orSlow_none,hrd,hwo,hgr,hg1,hg2,hab,hi,hi2,hj,hj2,hcp,hGi,hGj,wf,hset,hlA,tA,hl,frzE_tok,hrt,hw1,hn0,hv1,hv2]
end Go.Proofs.Ytbcjofkfgpbhmaa

/-
  What the arguments of the laws of doors read as.
-/
namespace Go.Proofs.Ytbcjofkfgpbhmaa
open Go.Ab
set_option maxRecDepth 100000
theorem cells48:Try.prog.cellsOf 48=3:=by kernel_rfl
theorem cells39:Try.prog.cellsOf 39=2:=by kernel_rfl
variable {B : TypeId → Nat → Prop} {n : Nat} {vs : List V}
theorem fit_int(h:Fit Try.prog B (n+1) 3 vs): ∃x,vs=[i64 x]:=by
 simp only[Fit,Try.underlying3]at h
 exact h
theorem fit_bool(h:Fit Try.prog B (n+1) 4 vs): ∃x,vs=[.bool x]:=by
 simp only[Fit,Try.underlying4]at h
 exact h
theorem es_all {α:Type} {f:α→List V}(l:List (List V))(h: ∀x∈l,∃y,x=f y): ∃l':List α,l=es f l':=by
 obtain⟨l',h1,_⟩:=es_of (Q:=fun _=>True) l fun x hx=>by obtain⟨y,hy⟩:=h x hx;exact⟨y,hy,trivial⟩
 exact⟨l',h1⟩
theorem fit_gate(h:Fit Try.prog B (n+2) 48 vs): ∃g:DGate,vs=cGate g:=by
 rw[Fit,Try.underlying48]at h
 simp only[FitF]at h
 obtain⟨_,_,rfl,h0,_,_,rfl,h1,_,_,rfl,h2,rfl⟩:=h
 obtain⟨a,rfl⟩:=fit_int h0
 obtain⟨b,rfl⟩:=fit_int h1
 obtain⟨c,rfl⟩:=fit_bool h2
 exact⟨⟨a,b,c⟩,rfl⟩
theorem fit_group(h:Fit Try.prog B (n+2) 39 vs): ∃g:DGroup,vs=cGroup g:=by
 rw[Fit,Try.underlying39]at h
 simp only[FitF]at h
 obtain⟨_,_,rfl,h0,_,_,rfl,h1,rfl⟩:=h
 obtain⟨a,rfl⟩:=fit_int h0
 obtain⟨b,rfl⟩:=fit_int h1
 exact⟨⟨a,b⟩,rfl⟩
theorem fit_gates(h:Fit Try.prog B (n+3) 22 vs): ∃l:List DGate,vs=[.sl .no 3 (es cGate l)]∧B 48 l.length:=by
 rw[Fit,Try.underlying22]at h
 simp only at h
 obtain⟨l,rfl,hb,h⟩:=h
 obtain⟨l',rfl⟩:=es_all (f:=cGate) l fun x hx=>fit_gate (h x hx)
 rw[cells48]
 exact⟨l',rfl,by simpa using hb⟩
theorem fit_groups(h:Fit Try.prog B (n+3) 23 vs): ∃l:List DGroup,vs=[.sl .no 2 (es cGroup l)]∧B 39 l.length:=by
 rw[Fit,Try.underlying23]at h
 simp only at h
 obtain⟨l,rfl,hb,h⟩:=h
 obtain⟨l',rfl⟩:=es_all (f:=cGroup) l fun x hx=>fit_group (h x hx)
 rw[cells39]
 exact⟨l',rfl,by simpa using hb⟩
def Reach(e:TypeId)(k:Nat):Prop:=k≤maxLen∧k*Try.prog.bytesOf e≤reachBytes
theorem bytes48:Try.prog.bytesOf 48=24:=by kernel_rfl
theorem bytes39:Try.prog.bytesOf 39=16:=by kernel_rfl
theorem fit_trap(h:Fit Try.prog Reach (n+4) 25 vs): ∃t:DTrap,vs=dV t∧ShortD t:=by
 rw[Fit,Try.underlying25]at h
 simp only[FitF]at h
 obtain⟨_,_,rfl,h0,_,_,rfl,h1,_,_,rfl,h2,_,_,rfl,h3,_,_,rfl,h4,rfl⟩:=h
 obtain⟨a,rfl⟩:=fit_int h0
 obtain⟨b,rfl⟩:=fit_int h1
 obtain⟨c,rfl⟩:=fit_int h2
 obtain⟨d,rfl,q1⟩:=fit_gates h3
 obtain⟨e,rfl,q2⟩:=fit_groups h4
 simp only[Reach,bytes48,bytes39,reachBytes]at q1 q2
 exact⟨⟨a,b,c,d,e⟩,rfl,by simp only;omega,by simp only;omega⟩
end Go.Proofs.Ytbcjofkfgpbhmaa
